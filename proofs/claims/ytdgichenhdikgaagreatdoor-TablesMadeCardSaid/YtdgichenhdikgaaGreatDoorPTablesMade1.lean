/-
  What the proof of TablesMade leans on, part 1 of 9: walks of the program's functions at the level of values, and plain facts of what they compute.
-/
import Derived.WalkKit
import Derived.Deep.MidRow
import Derived.Deep.AppendLies
import Derived.OrdersHeld
import Derived.IntWalk
import Derived.Laws.Cover3
import Derived.ChangeKeysEq
import Derived.ProofKit
import Derived.OpenShut
import Derived.Lib.LaidTab
import Derived.Below
import Derived.Deep.Slices
import Derived.ArgAppend
import Derived.Lib.AppendStr
import Derived.MapKept
import Derived.RangeFuncLeaves
import Derived.RangeFuncOwn
import Derived.OrdersIn
import Derived.TacticsIn
import Derived.Shelf.Abstract
import Derived.RecoverIn
import Derived.WalkLawsBesides
import Derived.Lib.AppendZeros
import Derived.Laws.IdiomCopy
import Derived.Lib.Overlaps
import Derived.Lib.AppendZerosOnto
import Derived.Lib.BytesEntry
import Derived.Shelf.Strings.Builder1
import Derived.Shelf.Strings.Builder2
import Derived.Shelf.Small.Strs
import Derived.Shelf.Small.Wraps
import Derived.Shelf.Strings.BuilderF
import Derived.Shelf.Strings.BuilderK
import Derived.Shelf.Utf8.RuneCount
import Derived.Shelf.Strings.Builder2Cap
import Derived.Shelf.Strings.Search1
import Derived.Shelf.Strings.Search2
import Derived.Shelf.Strings.Search3
import Derived.Shelf.Strings.Count
import Derived.Shelf.LaysM
import Derived.Shelf.Strings.Shaped
import Derived.Shelf.Strings.Split
import Derived.Shelf.Strings.Replace
import Derived.Shelf.Strings.SplitShaped
import Derived.Shelf.Unicode.Decode
import Derived.Shelf.Strings.RuneCount
import Derived.Shelf.Unicode.DecodeSlow
import Derived.Shelf.Unicode.DecodeAny
import Derived.Shelf.Strings.BuilderCap
import Derived.Shelf.Slices.Turned
import Derived.Shelf.Slices.Reverse
import Derived.Ground.Names2Prog
import Derived.Shelf.Slices.Clone
import Derived.Shelf.Slices.SearchI
import Derived.Shelf.Slices.Delete
import Derived.Shelf.Slices.Cells
import Derived.Shelf.Slices.Empties
import Derived.Shelf.Bytes.SlSearch0
import Derived.Shelf.Bytes.SlEqualAll
import Derived.Shelf.Bytes.Small
import Derived.SizedLaws
import Derived.Lib.Bytealg
import Derived.Test.YtdgichenhdikgaaGreatDoorRows
import Derived.Test.YtdgichenhdikgaaGreatDoorProg
set_option linter.unusedVariables false
set_option linter.unusedSimpArgs false
set_option maxRecDepth 100000
set_option maxHeartbeats 4000000
namespace Go.Proofs.YtdgichenhdikgaaGreatDoor
open List
variable {p:Prop}
theorem w4(h:p:=by omega):p:=h
theorem w5(h:p:=by first|assumption|omega):p:=h
theorem w6(h:p:=by (repeat (first|exact fD|(apply fX;focus (first|rfl|(simp;done)|(congr 2;omega)|(apply eO;rw[←OG aa];unfold u7;first|(rw[T8 (by assumption)];simp;done)|(rw[T9 (by assumption),take_of_length_le (l:=mL (uN l[i])) (by rw[E6];omega)];simp;done)|(rw[Ua (by assumption),←AN];simp;done)|(rw[Ub (by assumption) (by assumption) (by assumption)];done))|(apply eO;rfl)|(apply eO;simp;done)))|(apply fH;focus rfl)));done):p:=h
theorem w7(h:p:=by decide):p:=h
theorem w8(h:p:=by simp only[length_append,length_map,length_cons,length_nil];omega):p:=h
theorem w9(h:p:=by have da:=dW;have q1:=EL LJ i;(try have q2:=LJ _ (getElem_mem aa));(try simp only[length_append,length_cons,length_nil]);omega):p:=h
theorem pN(h:p:=by simp only[maxLen,length_append,length_map,length_cons,length_nil];omega):p:=h
theorem nq(h:p:=by simp only[maxLen,length_cons,length_nil] at *;omega):p:=h
theorem Gj(h:p:=by rw[←OG aa];unfold u7;first|(rw[T8 (by assumption)];simp;done)|(rw[T9 (by assumption),take_of_length_le (l:=mL (uN l[i])) (by rw[E6];omega)];simp;done)|(rw[Ua (by assumption),←AN];simp;done)|(rw[Ub (by assumption) (by assumption) (by assumption)];done)):p:=h
theorem nr(h:p:=by simp only[length_cons,length_nil] at *;omega):p:=h
theorem vq(h:p:=by show _=p.kids.take (if p.leaf=true then 2 else 3);rw[fN];rfl):p:=h
theorem vr(h:p:=by show _=p.kids.drop (if p.leaf=true then 2 else 3);rw[fN];rfl):p:=h
theorem vt(h:p:=by show _=p.keys.drop (if p.leaf=true then 2 else 3);rw[fN];rfl):p:=h
theorem zF(h:p:=by (repeat (first|exact fD|(apply fX;focus (first|rfl|(rw[xp];done)|(simp;done)))|(apply fH;focus rfl)));done):p:=h
theorem bu(h:p:=by simp):p:=h
theorem zG(h:p:=by exact(perm_middle (l₁:=[_,_,_])).symm.trans (Perm.cons _ (Perm.cons _ (Perm.cons _ (Perm.cons _ oO))))):p:=h
theorem js(h:p:=by first|rfl|assumption):p:=h
theorem zH(h:p:=by have da:=dW;(try simp only[length_append,length_cons,length_nil,length_take,E6]);omega):p:=h
theorem Gk(h:p:=by (repeat (first|exact fD|(apply fX;focus (first|rfl|(simp;done)|(congr 2;omega)|(apply eO;rfl)|(apply eO;simp;done)))|(apply fH;focus rfl)));done):p:=h
theorem zI(h:p:=by simp only[flatten_cons,flatten_nil,length_append,length_cons,length_nil];omega):p:=h
theorem zJ(h:p:=by have da:=dW;(try simp only[length_append,length_cons,length_nil]);omega):p:=h
theorem mM(h:p:=by first|rfl|simp[St.put]):p:=h
theorem LK(h:p:=by show dh (L.flatMap gO) (0+i.toNat*5) (gO (⟨bp p L.length,cr,cu,cc,bJ,bK,bA⟩:aB))=_;rw[Nat.zero_add];exact oI gl L (⟨bp p L.length,cr,cu,cc,bJ,bK,bA⟩:aB) hj):p:=h
theorem zK(h:p:=by simp only[maxLen,length_set,length_cons,length_nil] at *;omega):p:=h
theorem kV(h:p:=by first|rfl|simp):p:=h
theorem iq(h:p:=by simp;omega):p:=h
theorem oP(h:p:=by rw[length_take];omega):p:=h
theorem zL(h:p:=by simp only[length_set,length_cons,length_nil] at *;omega):p:=h
theorem sJ(h:p:=by rw[pG,jm,append_assoc];rfl):p:=h
theorem rq(h:p:=by rw[length_set];exact gd):p:=h
theorem LL(h:p:=by have:=If s.names s.names.length;(try rw[tZ]);simp only[length_append,length_map,length_cons,length_nil];omega):p:=h
theorem oQ(h:p:=by rw[append_nil]):p:=h
theorem Gl(h:p:=by simp only[maxLen,length_append,length_cons,length_nil] at *;omega):p:=h
theorem sK(h:p:=by rw[y2,pG,jm];simp):p:=h
theorem Cl(h:p:=by first|rfl|(show(1:Int)+_=1+_;omega)|omega):p:=h
theorem vu(h:p:=by rw[length_append];omega):p:=h
theorem Cm(h:p:=by rw[length_append,length_singleton];omega):p:=h
theorem Gm(h:p:=by show 0+_*1+1≤_;rw[cn eI,length_set];omega):p:=h
theorem vv(h:p:=by rw[length_set];omega):p:=h
theorem Cn(h:p:=by show(-1:Int)≤9223372036854775807;decide):p:=h
theorem ua(h:p:=by first|exact we rfl gm (fun h=>by cases h) runUnderlying151 sizeOf88 w4|exact mX (fun _=>rfl) runUnderlying151 sizeOf88 w4|exact tq (fun h=>by cases h) (fun _=>rfl) runUnderlying151 sizeOf88 w4 w4|exact mv (fun h=>by cases h) (fun _=>rfl) runUnderlying151 sizeOf88 w4 w4):p:=h
theorem uc(h:p:=by first|exact we rfl eI (fun h=>by cases h) runUnderlying67 sizeOf3 w4|exact mX (fun _=>rfl) runUnderlying67 sizeOf3 w4|exact tq (fun h=>by cases h) (fun _=>rfl) runUnderlying67 sizeOf3 w4 w4|exact mv (fun h=>by cases h) (fun _=>rfl) runUnderlying67 sizeOf3 w4 w4):p:=h
theorem zM(h:p:=by rw[length_append,length_set];exact(show IntKind.wrap .i64 (((L.length+[(⟨bw p,dw,dx,cJ,dy,dz,cL⟩:aB)].length:Nat):Int)-1)=_ from by rw[show(((L.length+[(⟨bw p,dw,dx,cJ,dy,dz,cL⟩:aB)].length:Nat):Int)-1)=(L.length:Int) from by simp];exact wrap_i64 w4 w4)):p:=h
theorem zN(h:p:=by first|exact we rfl gm (fun h=>by cases h) runUnderlying67 sizeOf3 w4|exact we rfl eI (fun h=>by cases h) runUnderlying67 sizeOf3 w4|exact mX (fun _=>rfl) runUnderlying67 sizeOf3 w4|exact mv (fun h=>by cases h) (fun _=>rfl) runUnderlying67 sizeOf3 w4 w4):p:=h
theorem zO(h:p:=by first|exact nW gm (fun h=>by cases h) runUnderlying67 sizeOf3 w4|exact nW eI (fun h=>by cases h) runUnderlying67 sizeOf3 w4|exact mX (fun h=>by cases h) runUnderlying67 sizeOf3 w4|exact mv (fun _=>rfl) (fun h=>by cases h) runUnderlying67 sizeOf3 w4 w4):p:=h
theorem Gn(h:p:=by first|exact we rfl gm (fun h=>by cases h) runUnderlying151 sizeOf88 w4|exact we rfl eI (fun h=>by cases h) runUnderlying151 sizeOf88 w4|exact mX (fun _=>rfl) runUnderlying151 sizeOf88 w4|exact mv (fun h=>by cases h) (fun _=>rfl) runUnderlying151 sizeOf88 w4 w4):p:=h
theorem Gp(h:p:=by first|exact nW mY (fun h=>by cases h) runUnderlying30 sizeOf43 w4|exact mX (fun h=>by cases h) runUnderlying30 sizeOf43 w4|exact mv (fun _=>rfl) (fun h=>by cases h) runUnderlying30 sizeOf43 w4 w4):p:=h
theorem LM(h:p:=by first|exact nW gm (fun h=>by cases h) runUnderlying151 sizeOf88 w4|exact mX (fun h=>by cases h) runUnderlying151 sizeOf88 w4|exact tq (fun _=>rfl) (fun h=>by cases h) runUnderlying151 sizeOf88 w4 w4|exact mv (fun _=>rfl) (fun h=>by cases h) runUnderlying151 sizeOf88 w4 w4):p:=h
theorem LN(h:p:=by first|exact nW eI (fun h=>by cases h) runUnderlying67 sizeOf3 w4|exact mX (fun h=>by cases h) runUnderlying67 sizeOf3 w4|exact tq (fun _=>rfl) (fun h=>by cases h) runUnderlying67 sizeOf3 w4 w4|exact mv (fun _=>rfl) (fun h=>by cases h) runUnderlying67 sizeOf3 w4 w4):p:=h
theorem LO(h:p:=by first|exact nW jl (fun h=>by cases h) runUnderlying29 sizeOf9 w4|exact nW lF (fun h=>by cases h) runUnderlying29 sizeOf9 w4|exact mX (fun h=>by cases h) runUnderlying29 sizeOf9 w4|exact mv (fun _=>rfl) (fun h=>by cases h) runUnderlying29 sizeOf9 w4 w4):p:=h
theorem LP(h:p:=by (repeat (first|exact fD|(apply fX;focus (first|rfl|(simp;done)|(congr 2;omega)|(apply eO;first|exact HF aa w4 _|exact Hv aa w4 _)|(apply eO;simp[jP])|(apply eO;simp;done)))|(apply fH;focus rfl)));done):p:=h
theorem qu(h:p:=by rw[←Int.ofNat_sub w4];exact wrap_i64 w4 w4):p:=h
theorem LS(h:p:=by rw[←show(p.kids.take 3)=(bp p L.length).kids from vq];simp only[length_take,length_drop];omega):p:=h
theorem LU(h:p:=by rw[←show(p.kids.take 2)=(bp p L.length).kids from vq];simp only[length_take,length_drop];omega):p:=h
theorem zP(h:p:=by rw[←Int.natCast_add];exact wrap_i64 w4 w4):p:=h
theorem LV(h:p:=by rw[←show(p.kids.drop 3)=(bw p).kids from vr];simp only[length_take,length_drop];omega):p:=h
theorem LW(h:p:=by rw[←show(p.kids.drop 2)=(bw p).kids from vr];simp only[length_take,length_drop];omega):p:=h
theorem LX(h:p:=by rw[←show(p.keys.drop 3)=(bw p).keys from vt];simp only[length_take,length_drop];omega):p:=h
theorem LY(h:p:=by rw[←show(p.keys.drop 2)=(bw p).keys from vt];simp only[length_take,length_drop];omega):p:=h
theorem LZ(h:p:=by rw[show(((a+(t+1):Nat):Int)-1)=((a+t:Nat):Int) by omega];exact wrap_i64 w4 w4):p:=h
theorem xq(h:p:=by rw[length_set];exact hj):p:=h
theorem oR(h:p:=by simpa using h):p:=h
theorem Gq(h:p:=by rw[length_append,hl,length_singleton];decide):p:=h
theorem sL(h:p:=by simp at aN;omega):p:=h
theorem ru(h:p:=by rw[←ho];rfl):p:=h
theorem vw(h:p:=by rw[←xu];exact gd):p:=h
theorem L0(h:p:=by show 0+i.toNat*5+5≤(flatMap gO L).length;rw[cn gl];omega):p:=h
theorem L1(h:p:=by rw[show((j:Int)-1)=((j-1:Nat):Int) by omega];exact wrap_i64 w4 w4):p:=h
theorem xw(h:p:=by rw[g.az];exact acR):p:=h
theorem L4(h:p:=by exact ja (k:=2) (i:=(eP H l[i])) gm rfl rfl rfl isAgg98 gL rfl):p:=h
theorem L5(h:p:=by exact ja (k:=1) (i:=(eP H l[i])) gm rfl rfl rfl isAgg98 gL rfl):p:=h
theorem L6(h:p:=by exact ja (k:=0) (i:=(eP H l[i])) gm rfl rfl rfl isAgg98 gL rfl):p:=h
theorem Gr(h:p:=by show 0+_*1+1≤_;rw[cn eI];omega):p:=h
theorem L7(h:p:=by unfold iA;rw[if_neg cM,if_neg ek,if_neg fA,if_pos gG,qv]):p:=h
theorem vy(h:p:=by simp[maxLen];omega):p:=h
theorem L8(h:p:=by rw[ev];exact mem_flatMap.2 ⟨_,getElem_mem d1,hx⟩):p:=h
theorem zQ(h:p:=by rw[length_set];rfl):p:=h
theorem ud(h:p:=by rw[u9];simp):p:=h
theorem L9(h:p:=by first|exact fun _ hq=>hq|exact fun _ hq=>by cases hq.1):p:=h
theorem xx(h:p:=by rw[g.az];decide):p:=h
theorem sM(h:p:=by rw[y1];rfl):p:=h
theorem zR(h:p:=by first|omega|decide):p:=h
theorem vz(h:p:=by simpa using aY):p:=h
theorem vA(h:p:=by rw[xp];omega):p:=h
theorem Co(h:p:=by rw[length_map];omega):p:=h
theorem Gs(h:p:=by rw[length_append];simp;omega):p:=h
theorem zS(h:p:=by simpa[aq] using dY):p:=h
theorem zT(h:p:=by show 1≤10;decide):p:=h
theorem zU(h:p:=by simpa[aq] using hj):p:=h
theorem Cp(h:p:=by simp only[maxLen];omega):p:=h
theorem xy(h:p:=by rw[iW];decide):p:=h
theorem Ma(h:p:=by show _≤1000;exact Nat.le_of_ble_eq_true rfl):p:=h
theorem xz(h:p:=by simpa using aN):p:=h
theorem Gt(h:p:=by rw[length_set];exact Cq):p:=h
theorem zV(h:p:=by rw[Bb];omega):p:=h
theorem zW(h:p:=by exact fun _=>rfl):p:=h
theorem KB(h:p:=by show w.heap.size<(w.heap.push _).size;simp):p:=h
theorem wN(h:p:=by simpa using hl):p:=h
theorem KC(h:p:=by show(w.heap.push _)[w.heap.size]?=_;simp):p:=h
theorem KD(h:p:=by rw[cn nZ,length_take];omega):p:=h
theorem tN(h:p:=by assumption):p:=h
theorem BG(h:p:=by rw[IS];decide):p:=h
theorem ze(h:p:=by rw[h4];decide):p:=h
theorem FK(h:p:=by show i<cs.length;omega):p:=h
theorem z4(h:p:=by
  refine AD.one (i:=9) aA ?_;refine at_ rfl (cR (mk:=Op.load 9) rfl ot (by exact qf (g:=cS) (ls:=dZ) (i:=tj) (d:=bn tn) jl isAgg9 ry (by show some (D.v (.string (dZ[tj]'ry)))=some (D.v (.string tn));rw[UG]))) ?_;refine cy 10 rfl (nC (pl:=[(0,_),(1,_),(9,_)]) (ds:=[_,_,_,_,_,_,_,_,_,_,_,_]) rfl zeroValue32 runUnderlying32 N1 ⟨rfl,ot,rfl,ot,rfl,bL,trivial⟩ rfl rfl) ?_;refine AD.one (i:=12) aA ?_;refine dU 0 [_,_,_,_,_,_,_,_,_,_,_,_] sizeOf32 ?_;refine V0 [(1,_),(2,_),(3,_)] [⟨b3,32,12,[_,_,_,_,_,_,_,_,_,_,_,_]⟩,⟨b2,32,12,[_,_,_,_,_,_,_,_,_,_,_,_]⟩,⟨b1,77,14,[_,_,_,_,_,_,_,_,_,_,_,_,_,_]⟩] ?_;refine AD.done aA ?_;exact⟨rfl,_,trivial,Wk.refl _⟩):p:=h
theorem z5(h:p:=by
  refine CD.perm (ee (A:=[_,_,_,_,_,_,_,_])) ?_;refine fO 6 (aq (take 1 _)) ?_ (fun _ h=>(Sublist.map _ (take_sublist _ _)).subset h);refine ay 0 rfl bf ?_;refine ay 1 rfl bf ?_;first|refine ay 2 rfl (DT (n:=st.length) (k:=(take (st.length-(bP ops[i].k).toNat) st).length) (cs:=st.flatMap cV) rfl ot rfl ⟨_,_,ot,by rw[length_take];omega⟩ runUnderlying28 sizeOf41 oP nN) ?_|refine ay 2 rfl (DT (n:=st.length) (k:=(take (st.length-(bP ops[i].k).toNat) st).length) (cs:=st.flatMap cV) rfl ot rfl ⟨_,_,ot,by rw[length_take];omega⟩ runUnderlying28 sizeOf41 oP (bF (e:=41) (g:=cV) (ls:=st) wO wC)) ?_
  refine ay 3 rfl (cR (mk:=Op.load 41) rfl ot (by first|exact qd (k:=0) (ds:=[_,_,_]) rfl rfl isAgg41 sizeOf41 rfl rfl|exact jY mY isAgg41 sizeOf41 w5|exact jY fq isAgg41 sizeOf41 w5|exact dP (k:=0) mY rfl rfl rfl isAgg41 sizeOf41 w5|exact dP (k:=1) mY rfl rfl rfl isAgg41 sizeOf41 w5|exact dP (k:=2) mY rfl rfl rfl isAgg41 sizeOf41 w5|exact dP (k:=3) mY rfl rfl rfl isAgg41 sizeOf41 w5|exact dP (k:=4) mY rfl rfl rfl isAgg41 sizeOf41 w5|exact dP (k:=5) mY rfl rfl rfl isAgg41 sizeOf41 w5|exact dP (k:=6) mY rfl rfl rfl isAgg41 sizeOf41 w5|exact dP (k:=7) mY rfl rfl rfl isAgg41 sizeOf41 w5|exact dP (k:=0) fq rfl rfl rfl isAgg41 sizeOf41 w5|exact dP (k:=1) fq rfl rfl rfl isAgg41 sizeOf41 w5|exact dP (k:=2) fq rfl rfl rfl isAgg41 sizeOf41 w5|exact dP (k:=3) fq rfl rfl rfl isAgg41 sizeOf41 w5|exact dP (k:=4) fq rfl rfl rfl isAgg41 sizeOf41 w5|exact dP (k:=5) fq rfl rfl rfl isAgg41 sizeOf41 w5|exact dP (k:=6) fq rfl rfl rfl isAgg41 sizeOf41 w5|exact dP (k:=7) fq rfl rfl rfl isAgg41 sizeOf41 w5|exact qj (ds:=[_,_,_]) isAgg41 sizeOf41 rfl rfl)) ?_;refine di.later rfl ?_;refine AD.one (i:=4) aA ?_;refine jt (cf 0 [_]) [.int .i64 0,.int .i64 0,.string ⟨#[]⟩] [_,_,_] zeroValue41 runUnderlying28 sizeOf41 (fun zX=>?_);refine ju 0 58 3 1 ?_;refine AD.one (i:=5) aA ?_
  refine bj.ew (ls:=(take (st.length-(bP ops[i].k).toNat) (st))) (new:=[(fZ l row ops[i] (fm bQ ops[i].k st) (fa bQ ops[i].k st)).1]) (Sq:=BH) fq E7 rfl ap rfl rfl underlying28 YV rfl w7 ot Bl (dD (A:=[_,_,_,_,_,_,_,_])) ot bu vy iq (fun sN sj BI BJ=>?_);refine AD.perm (ee (S1:=[⟨sN,41,sj*3,flatMap cV ((take (st.length-(bP ops[i].k).toNat) (st))++[(fZ l row ops[i] (fm bQ ops[i].k st) (fa bQ ops[i].k st)).1])⟩]) (A:=[_,_,_,_,_,_,_,_])) ?_;refine eJ ?_;refine bg [1,4,6,7,16,17,18] ?_;refine cm [1,4,6,7,16,17,18] ?_;refine⟨((i+1),(st.take (st.length-(bP ops[i].k).toNat)++[(fZ l row ops[i] (fm bQ ops[i].k st) (fa bQ ops[i].k st)).1]),(some ⟨sN,0,none⟩),sj,[⟨sN,41,sj*3,flatMap cV ((take (st.length-(bP ops[i].k).toNat) (st))++[(fZ l row ops[i] (fm bQ ops[i].k st) (fa bQ ops[i].k st)).1])⟩]),_,cD,(aQ (h:=by repeat (first|exact trivial|refine⟨Gk,?_⟩))),w4,(by rw[sO];omega),nO,(hinv.trans (Ro aa hz)),ahw,(bz.cast (bF BI BJ) (by rfl)),rfl⟩):p:=h
theorem z6(h:p:=by
  refine cQ [0,4,5,6,73,74] ?_;refine aU 2 ?_ (h:=by exact(DW (pl:=[(0,_),(1,_)]) (ds:=[_,_,_,_,_,_]) rfl zeroValue173 runUnderlying173 sizeOf41 ⟨rfl,ot,rfl,ot,trivial⟩ rfl rfl));refine bG ?_;refine eK [0,4,5,6,73] (fun aW _ (i:Nat) aI=>(i≤2)∧(∀j,j<i→¬((iM a b j).k≠2∧(iM a b j).k≠0))∧aI=(⟨106,(74,ae (i:Nat))::aW,[⟨b6,41,3,[ae 0,ae 0,fL]⟩,⟨b5,41,3,[ae b.k,ae b.n,bn b.s]⟩,⟨b4,41,3,[ae a.k,ae a.n,bn a.s]⟩]⟩:St)) (fun (i:Nat)=>2-i) 0 ⟨(Nat.zero_le _),(fun j hj=>absurd hj (Nat.not_lt_zero _)),rfl⟩ ?_;rintro i _ ⟨hi,fk,rfl⟩;have Mb:k=8∨k=9∨k=10:=(by omega)
  refine af [0,4,5,6,73,74,75] ?_;refine au ?_ ?_<;>intro FL Bm
  ·have aa:i<2:=(by omega)
   refine bY ?_;refine bH (Hp (j:=i) rfl ot ot runUnderlying173 sizeOf41 isAgg41 rfl aa (HG a b aa)) ?_;refine OD.alloc (ds:=[_,_,_]) ap rfl rfl zeroValue41 rfl (fun kI=>?_);refine aP 0 [_,_,_] sizeOf41 ?_;refine an 106 [0,4,5,6,11,73,74] ?_;refine aD 4 ?_;refine bX 80 (fun KE Fk=>?_) (fun KE Fk=>?_)
   ·refine bg [0,4,5,6,73,74,84] ?_;refine au ?_ ?_<;>intro va Fl
    ·have aV:iB k a b=(bQ,4):=acS oq Mb aa (by simp_all) (by simp_all);refine aD 1 ?_;refine aP 1 [_,_,_] sizeOf41 ?_;refine an 106 [6,7] ?_;refine aJ [] ?_;rw[aV];first|exact⟨rfl,rfl⟩|(refine⟨?_,rfl⟩;clear aV fg xA mN j4 ou nu;generalize (gH a b==0)=z1 at *;generalize (decide (gH a b<0))=z2 at *;subst_vars;simp_all;done)
    have iC:¬((iM a b i).k≠2∧(iM a b i).k≠0):=(by simp_all)
    refine cm [0,4,5,6,73,74] ?_;refine⟨(i+1),_,cD,aQ,w4,(En (p:=fun v=>¬(v.k≠2∧v.k≠0)) fk iC),rfl⟩
   refine bg [0,4,5,6,73,74,84] ?_;refine fT ?_;have iC:¬((iM a b i).k≠2∧(iM a b i).k≠0):=(by simp_all)
   refine cm [0,4,5,6,73,74] ?_;refine⟨(i+1),_,cD,aQ,w4,(En (p:=fun v=>¬(v.k≠2∧v.k≠0)) fk iC),rfl⟩
  have Cr:=IT (p:=fun v=>¬(v.k≠2∧v.k≠0)) fk w4;have Mc:=OH oq Mb (fun h=>h.elim Cr.1 Cr.2);refine cH [0,4,5,6,89] (nu) ?_;refine au ?_ ?_<;>intro FM af2
  ·have aV:iB k a b=(bQ,0):=(by rw[Mc,if_pos FM])
   refine aD 1 ?_;refine aP 0 [_,_,_] sizeOf41 ?_;refine an 106 [6,7] ?_;refine aJ [] ?_;rw[aV];first|exact⟨rfl,rfl⟩|(refine⟨?_,rfl⟩;clear aV fg xA mN j4 ou nu;generalize (gH a b==0)=z1 at *;generalize (decide (gH a b<0))=z2 at *;subst_vars;simp_all;done)
  refine cH [6,12,13] (xA) ?_;refine af [6,12,101] ?_;refine au ?_ ?_<;>intro KF af3
  ·have aV:iB k a b=(bQ,5):=(by rw[Mc,if_neg (by rw[FM];simp),if_neg (by simpa using KF)])
   refine aD 1 ?_;refine aP 0 [_,_,_] sizeOf41 ?_;refine an 106 [6,7] ?_;refine aJ [] ?_;rw[aV];first|exact⟨rfl,rfl⟩|(refine⟨?_,rfl⟩;clear aV fg xA mN j4 ou nu;generalize (gH a b==0)=z1 at *;generalize (decide (gH a b<0))=z2 at *;subst_vars;simp_all;done)
  have aV:iB k a b=(⟨2,(px k a.n b.n).1,⟨#[]⟩⟩,0):=(by rw[Mc,if_neg (by rw[FM];simp),if_pos (by simpa using KF)])
  refine aD 2 ?_;refine aP 0 [_,_,_] sizeOf41 ?_;refine an 106 [6,7] ?_;refine aJ [] ?_;rw[aV];first|exact⟨rfl,rfl⟩|(refine⟨?_,rfl⟩;clear aV fg xA mN j4 ou nu;generalize (gH a b==0)=z1 at *;generalize (decide (gH a b<0))=z2 at *;subst_vars;simp_all;done)):p:=h
theorem z7(h:p:=by
  refine aP 0 [_,_,_] sizeOf41 ?_;refine an 106 [6,7] ?_;refine aJ [] ?_;rw[aV];first|exact⟨rfl,rfl⟩|(refine⟨?_,rfl⟩;clear aV fg xA mN j4 ou nu;generalize (gH a b==0)=z1 at *;generalize (decide (gH a b<0))=z2 at *;subst_vars;simp_all;done)):p:=h
theorem z8(h:p:=by
  refine AD.one (i:=17) aA ?_;refine bj.call rfl ap rfl rfl rfl call131 (Od p.kids (aO (t.pg (aH t k h t.root)) k) ci bi pO fB Gu w4) ⟨ot,ot,ot,trivial⟩ (kf (k:=5) rfl) ir ?_;rintro _ _ ⟨rfl,rfl⟩;refine AD.perm (perm_middle (l₁:=[_,_,_,_,_])).symm ?_;refine cy 18 rfl lO ?_;refine cy 19 rfl (dj 1) ?_;refine AD.one (i:=20) aA ?_;refine bj.storeAt (k:=3) (cs':=flatMap gO (L.set (aH t k h t.root).toNat (⟨{p with keys:=(p.keys.eraseIdx (aO (t.pg (aH t k h t.root)) k))},some ⟨bk,0,none⟩,ck,[⟨bk,88,ck*1,flatMap cK (p.keys.eraseIdx (aO (t.pg (aH t k h t.root)) k))⟩],some ⟨bi,0,none⟩,ci,[⟨bi,3,ci*1,flatMap cI p.kids⟩]⟩:aB))) rfl ap rfl rfl ot rfl rfl ot rfl rfl sizeOf151 rfl (by show 0+(aH t k h t.root).toNat*5+1+1≤(flatMap gO L).length;rw[cn gl];omega) (by show(L.flatMap gO).set (0+(aH t k h t.root).toNat*5+1) _=_;rw[Nat.zero_add];exact vS gl w7 hj (by rw[←ho];show gO (⟨{p with keys:=(p.keys.eraseIdx (aO (t.pg (aH t k h t.root)) k))},some ⟨bk,0,none⟩,ck,[⟨bk,88,ck*1,flatMap cK (p.keys.eraseIdx (aO (t.pg (aH t k h t.root)) k))⟩],some ⟨bi,0,none⟩,ci,[⟨bi,3,ci*1,flatMap cI p.kids⟩]⟩:aB)=(gO (⟨p,some ⟨bk,0,none⟩,ck,[⟨bk,88,ck*1,flatMap cK p.keys⟩],some ⟨bi,0,none⟩,ci,[⟨bi,3,ci*1,flatMap cI p.kids⟩]⟩:aB)).set 1 _;unfold gO;rw[length_eraseIdx_of_lt ha];rfl)) ir ?_;refine eJ ?_;refine aE 2 ?_
  refine OD.storeAt (k:=3) (cs':=flatMap gO (L.set (aH t k h t.root).toNat (⟨(kD p (aO (t.pg (aH t k h t.root)) k)),some ⟨bk,0,none⟩,ck,[⟨bk,88,ck*1,flatMap cK (p.keys.eraseIdx (aO (t.pg (aH t k h t.root)) k))⟩],some ⟨bi,0,none⟩,ci,[⟨bi,3,ci*1,flatMap cI (p.kids.eraseIdx (aO (t.pg (aH t k h t.root)) k))⟩]⟩:aB))) ap rfl rfl ot rfl rfl ot rfl rfl sizeOf67 rfl (by show 0+(aH t k h t.root).toNat*5+2+1≤(flatMap gO (L.set (aH t k h t.root).toNat (⟨{p with keys:=(p.keys.eraseIdx (aO (t.pg (aH t k h t.root)) k))},some ⟨bk,0,none⟩,ck,[⟨bk,88,ck*1,flatMap cK (p.keys.eraseIdx (aO (t.pg (aH t k h t.root)) k))⟩],some ⟨bi,0,none⟩,ci,[⟨bi,3,ci*1,flatMap cI p.kids⟩]⟩:aB))).length;rw[cn gl,length_set];omega) (by show(flatMap gO (L.set (aH t k h t.root).toNat (⟨{p with keys:=(p.keys.eraseIdx (aO (t.pg (aH t k h t.root)) k))},some ⟨bk,0,none⟩,ck,[⟨bk,88,ck*1,flatMap cK (p.keys.eraseIdx (aO (t.pg (aH t k h t.root)) k))⟩],some ⟨bi,0,none⟩,ci,[⟨bi,3,ci*1,flatMap cI p.kids⟩]⟩:aB))).set (0+(aH t k h t.root).toNat*5+2) _=_;rw[Nat.zero_add,vS gl (a':=(⟨(kD p (aO (t.pg (aH t k h t.root)) k)),some ⟨bk,0,none⟩,ck,[⟨bk,88,ck*1,flatMap cK (p.keys.eraseIdx (aO (t.pg (aH t k h t.root)) k))⟩],some ⟨bi,0,none⟩,ci,[⟨bi,3,ci*1,flatMap cI (p.kids.eraseIdx (aO (t.pg (aH t k h t.root)) k))⟩]⟩:aB)) w7 xq (by rw[getElem_set_self];show gO (⟨(kD p (aO (t.pg (aH t k h t.root)) k)),some ⟨bk,0,none⟩,ck,[⟨bk,88,ck*1,flatMap cK (p.keys.eraseIdx (aO (t.pg (aH t k h t.root)) k))⟩],some ⟨bi,0,none⟩,ci,[⟨bi,3,ci*1,flatMap cI (p.kids.eraseIdx (aO (t.pg (aH t k h t.root)) k))⟩]⟩:aB)=(gO (⟨{p with keys:=(p.keys.eraseIdx (aO (t.pg (aH t k h t.root)) k))},some ⟨bk,0,none⟩,ck,[⟨bk,88,ck*1,flatMap cK (p.keys.eraseIdx (aO (t.pg (aH t k h t.root)) k))⟩],some ⟨bi,0,none⟩,ci,[⟨bi,3,ci*1,flatMap cI p.kids⟩]⟩:aB)).set 2 _;unfold gO kD;simp only[];rw[length_eraseIdx_of_lt pO];rfl),set_set]) ?_
  have vB:(⟨bk,88,ck*1,flatMap cK (p.keys.eraseIdx (aO (t.pg (aH t k h t.root)) k))⟩::⟨bi,3,ci*1,flatMap cI (p.kids.eraseIdx (aO (t.pg (aH t k h t.root)) k))⟩::((L.eraseIdx (aH t k h t.root).toNat).flatMap bO)).Perm ((L.set (aH t k h t.root).toNat (⟨(kD p (aO (t.pg (aH t k h t.root)) k)),some ⟨bk,0,none⟩,ck,[⟨bk,88,ck*1,flatMap cK (p.keys.eraseIdx (aO (t.pg (aH t k h t.root)) k))⟩],some ⟨bi,0,none⟩,ci,[⟨bi,3,ci*1,flatMap cI (p.kids.eraseIdx (aO (t.pg (aH t k h t.root)) k))⟩]⟩:aB)).flatMap bO):=(qL bO hj (⟨(kD p (aO (t.pg (aH t k h t.root)) k)),some ⟨bk,0,none⟩,ck,[⟨bk,88,ck*1,flatMap cK (p.keys.eraseIdx (aO (t.pg (aH t k h t.root)) k))⟩],some ⟨bi,0,none⟩,ci,[⟨bi,3,ci*1,flatMap cI (p.kids.eraseIdx (aO (t.pg (aH t k h t.root)) k))⟩]⟩:aB)).symm;refine OD.perm (Perm.cons _ (Perm.cons _ (Perm.cons _ (Perm.cons _ vB)))) ?_;refine an 58 [4,7] ?_;refine aD 1 ?_;refine aP 1 [_,_] sizeOf51 ?_;refine an 58 [4,5] ?_
  refine aJ ([⟨bx,153,cap*5,flatMap gO (L.set (aH t k h t.root).toNat (⟨(kD p (aO (t.pg (aH t k h t.root)) k)),some ⟨bk,0,none⟩,ck,[⟨bk,88,ck*1,flatMap cK (p.keys.eraseIdx (aO (t.pg (aH t k h t.root)) k))⟩],some ⟨bi,0,none⟩,ci,[⟨bi,3,ci*1,flatMap cI (p.kids.eraseIdx (aO (t.pg (aH t k h t.root)) k))⟩]⟩:aB))⟩]++(L.set (aH t k h t.root).toNat (⟨(kD p (aO (t.pg (aH t k h t.root)) k)),some ⟨bk,0,none⟩,ck,[⟨bk,88,ck*1,flatMap cK (p.keys.eraseIdx (aO (t.pg (aH t k h t.root)) k))⟩],some ⟨bi,0,none⟩,ci,[⟨bi,3,ci*1,flatMap cI (p.kids.eraseIdx (aO (t.pg (aH t k h t.root)) k))⟩]⟩:aB)).flatMap bO) ?_;unfold qX;rw[if_pos hz,if_pos iW];refine⟨_,rfl,L.set (aH t k h t.root).toNat (⟨(kD p (aO (t.pg (aH t k h t.root)) k)),some ⟨bk,0,none⟩,ck,[⟨bk,88,ck*1,flatMap cK (p.keys.eraseIdx (aO (t.pg (aH t k h t.root)) k))⟩],some ⟨bi,0,none⟩,ci,[⟨bi,3,ci*1,flatMap cI (p.kids.eraseIdx (aO (t.pg (aH t k h t.root)) k))⟩]⟩:aB),some ⟨bx,0,none⟩,cap,_,by rw[length_set];rfl,bF rq rz,fun x hx=>?_,?_,rfl⟩
  ·rcases mem_or_eq_of_mem_set hx with hx|rfl
   ·exact aT x hx
   exact⟨bF (by show(p.keys.eraseIdx (aO (t.pg (aH t k h t.root)) k)).length≤ck;rw[length_eraseIdx_of_lt ha];omega) xB,bF (by show(p.kids.eraseIdx (aO (t.pg (aH t k h t.root)) k)).length≤ci;rw[length_eraseIdx_of_lt pO];omega) Gu⟩
  rw[map_set,hL];show _=t.ag.set (aH t k h t.root).toNat (kD (t.pg (aH t k h t.root)) (aO (t.pg (aH t k h t.root)) k));rw[←gW]):p:=h
theorem z10(h:p:=by
  refine AD.one (i:=12) aA ?_;refine dU 0 [_,_,_,_,_,_,_,_,_,_,_,_] sizeOf32 ?_;refine V0 [(1,_),(2,_),(3,_)] [⟨b3,32,12,[_,_,_,_,_,_,_,_,_,_,_,_]⟩,⟨b2,32,12,[_,_,_,_,_,_,_,_,_,_,_,_]⟩,⟨b1,77,14,[_,_,_,_,_,_,_,_,_,_,_,_,_,_]⟩] ?_;refine AD.done aA ?_;exact⟨rfl,_,trivial,Wk.refl _⟩):p:=h
theorem Md(h:p:=by
  refine AD.one (i:=15) aA ?_;refine bj.ew (ls:=L) (new:=[(⟨(t.ag[i]'aa),iD,iE,Sy,lP,lQ,Sz⟩:aB)]) (Sq:=Sx) gl uQ rfl ap rfl rfl underlying49 Yz rfl w7 ot ec (PR (A:=[_,_,_])) ot bu nq nr (fun Gw FN ahx ahy=>?_);refine AD.perm (abc (S3:=[⟨Gw,153,FN*5,flatMap gO (L++[(⟨(t.ag[i]'aa),iD,iE,Sy,lP,lQ,Sz⟩:aB)])⟩]) (A:=[_,_,_])) ?_;refine AD.perm (S':=⟨b5,153,5,cP (t.ag[i]'aa)⟩::⟨b3,51,2,[aR dQ L.length dc,ae t.root]⟩::⟨b2,51,2,[bS,ae 0]⟩::([⟨Gw,153,FN*5,flatMap gO (L++[(⟨(t.ag[i]'aa),iD,iE,Sy,lP,lQ,Sz⟩:aB)])⟩]++(L++[(⟨(t.ag[i]'aa),iD,iE,Sy,lP,lQ,Sz⟩:aB)]).flatMap bO)) (ie fun iN=>by rw[Rp];simp only[bO,map_append,map_cons,map_nil,sum_append,sum_cons,sum_nil];omega) ?_;refine eJ ?_;refine aE 1 ?_;refine aP 1 [_,_] sizeOf49 ?_;refine an 51 [2,3,13,14,15] ?_;refine cm [2,3,13,14,15] ?_;refine⟨((i+1),(L++[(⟨(t.ag[i]'aa),iD,iE,Sy,lP,lQ,Sz⟩:aB)]),(some ⟨Gw,0,none⟩),FN,[⟨Gw,153,FN*5,flatMap gO (L++[(⟨(t.ag[i]'aa),iD,iE,Sy,lP,lQ,Sz⟩:aB)])⟩]),_,cD,aQ,w4,vC,jQ,(bF ahx ahy),rfl⟩):p:=h
theorem z12(h:p:=by
  refine CD.perm (ee (A:=[_,_])) ?_;refine dN 2 ?_;first|refine bH (DT (n:=st.length) (k:=(take (st.length-(bP ops[i].k).toNat) st).length) (cs:=st.flatMap cI) rfl ot rfl ⟨_,_,ot,by rw[length_take];omega⟩ runUnderlying67 sizeOf3 oP nN) ?_|refine OD.still ap rfl (DT (n:=st.length) (k:=(take (st.length-(bP ops[i].k).toNat) st).length) (cs:=st.flatMap cI) rfl ot rfl ⟨_,_,ot,by rw[length_take];omega⟩ runUnderlying67 sizeOf3 oP (bF (e:=3) (g:=cI) (ls:=st) wO wC)) ?_
  refine aE 1 ?_;refine ez (cf 0 [_]) [.int .i64 0] [_] zeroValue3 runUnderlying67 sizeOf3 (fun zX=>?_);refine fP 0 58 1 1 ?_;refine OD.ew (ls:=(take (st.length-(bP ops[i].k).toNat) (st))) (new:=[(je l ops[i] (fm 0 ops[i].k st) (fa 0 ops[i].k st)).1]) (Sq:=BH) eI nD ap rfl rfl underlying67 ZN rfl w7 ot Bl (dD (A:=[_,_])) ot bu vy iq (fun sN sj BI BJ=>?_);refine OD.perm (ee (S1:=[⟨sN,3,sj*1,flatMap cI ((take (st.length-(bP ops[i].k).toNat) (st))++[(je l ops[i] (fm 0 ops[i].k st) (fa 0 ops[i].k st)).1])⟩]) (A:=[_,_])) ?_;refine an 64 [1,6,7,16,17,18] ?_;refine cm [1,6,7,16,17,18] ?_;refine⟨((i+1),(st.take (st.length-(bP ops[i].k).toNat)++[(je l ops[i] (fm 0 ops[i].k st) (fa 0 ops[i].k st)).1]),(some ⟨sN,0,none⟩),sj,[⟨sN,3,sj*1,flatMap cI ((take (st.length-(bP ops[i].k).toNat) (st))++[(je l ops[i] (fm 0 ops[i].k st) (fa 0 ops[i].k st)).1])⟩]),_,cD,(aQ (h:=by repeat (first|exact trivial|refine⟨Gk,?_⟩))),w4,(by rw[sO];omega),nO,(hinv.trans (Ro aa hz)),(bz.cast (bF BI BJ) (by rfl)),rfl⟩):p:=h
theorem V1(h:p:=by
  refine pP 13 rfl ?_;refine pP 16 rfl ?_;refine AD.two (i:=14) (j:=17) aA ?_ ?_
  ·refine bj.skip rfl (mw rfl rfl rfl lk js) rfl ?_;refine AD.two (i:=15) (j:=17) aA ?_ ?_
   ·refine bj.skip rfl (mw rfl rfl rfl lk js) rfl ?_;refine AD.one (i:=17) aA ?_;refine bj.skip rfl (mw rfl rfl rfl lk js) rfl ?_;refine pP 18 rfl ?_;refine pP 19 rfl ?_;refine cy 20 rfl vc ?_;refine eJ ?_;refine bg [3] ?_;refine af [52] ?_;refine eM ?_;refine af [2] ?_;refine eR ?_;refine⟨vi ?_,rfl⟩;try simp only[uK] at *
    simp only[tH,n8];try simp_all
    try omega
   refine bj.skip rfl (mw rfl rfl rfl lk js) rfl ?_;refine pP 18 rfl ?_;refine AD.one (i:=15) aA ?_;refine bj.skip rfl (mw rfl rfl rfl lk js) rfl ?_;refine pP 19 rfl ?_;refine cy 20 rfl vc ?_;refine eJ ?_;refine bg [3] ?_;refine af [52] ?_;refine eM ?_;refine af [2] ?_;refine eR ?_;refine⟨vi ?_,rfl⟩;try simp only[uK] at *
   simp only[tH,n8];try simp_all
   try omega
  refine bj.skip rfl (mw rfl rfl rfl lk js) rfl ?_;refine pP 18 rfl ?_;refine AD.one (i:=14) aA ?_;refine bj.skip rfl (mw rfl rfl rfl lk js) rfl ?_;refine AD.one (i:=15) aA ?_;refine bj.skip rfl (mw rfl rfl rfl lk js) rfl ?_;refine pP 19 rfl ?_;refine cy 20 rfl vc ?_;refine eJ ?_;refine bg [3] ?_;refine af [52] ?_;refine eM ?_;refine af [2] ?_;refine eR ?_;refine⟨vi ?_,rfl⟩;try simp only[uK] at *
  simp only[tH,n8];try simp_all
  try omega):p:=h
theorem vD(h:p:=by
  refine⟨vi ?_,rfl⟩;first|exact hf.symm|(rw[hf,hx,PS aa qp (by first|assumption|decide)];done)|(rw[hf,ff,if_pos (by simpa using pQ)];done)|(rw[hf,ff,if_neg (by simpa using pQ)];done)):p:=h
theorem Gx(h:p:=by
  refine⟨vb (Eo fun hp=>?_),rfl⟩;have g1:=hp.eD;have g2:=hp.hlen;have g3:=hp.wP;have g4:=hp.wD;have g5:=hp.wQ;have g6:=hp.leaf;have g7:=fun h=>(hp.node h).1;have g8:=fun h (e:p.keys.length=0)=>(hp.node h).2 (length_eq_zero_iff.1 e);clear hp;first|omega|(rw[af4 g5] at aN;cases aN;done)|(have:=g6 qY;omega)|(have fN:p.leaf=false:=(by simpa using tO);have:=g7 fN;omega)|(have fN:p.leaf=false:=(by simpa using tO);exact g8 fN w4)):p:=h
theorem Gy(h:p:=by
  have rA:¬h<bP l[i].k:=(by simpa using gv)
  have aT:fj h l[i]=0:=(by unfold fj;rw[if_neg dO,if_neg ud,if_neg uX,if_neg j5,if_neg rA])
  refine iF [3,11,12,13] ?_;refine de (yA l[i].k) ?_;refine bG ?_;refine cm [3,11,12,13] ?_;refine⟨((i+1),(h+(1-bP l[i].k))),_,cD,aQ,w4,(by rw[hx];exact PT aa aT),w4,(by have:=tr l[i].k;omega),rfl⟩):p:=h
theorem V2(h:p:=by
  have Me:((bq[bq.length-1].k==6) || !(((dR (lZ key) (bq.take 2))==0)==nt))=true:=(by first|rw[J1,Bool.true_or]|rw[gX,Bool.or_true])
  have Cs:(gh key (f+1) ops (lo,hi))=rY (ga [bq[(dR gS (bq.take 2)).toNat].v]).1 b1:=(by rw[Uc];unfold ve;rw[show((bq[bq.length-1].k==6)||((dR (lZ key) (bq.take 2))==0)!=nt)=true from Me,←iO];rfl)
  refine aD 7 ?_;refine bX 141 (fun af5 aeI=>?_) (fun af5 aeI=>?_)
  ·refine bg [0,11,149] ?_;refine eM ?_;have sP:b1.2.length=0∨compareBytes (ga [bq[(dR gS (bq.take 2)).toNat].v]).1 b1.2<0:=(by first|exact .inl w4|exact .inr (by simpa using gv))
   have sQ:(gh key (f+1) ops (lo,hi))=(b1.1,(ga [bq[(dR gS (bq.take 2)).toNat].v]).1):=(by rw[Cs];unfold rY;rw[if_pos sP])
   refine dN 2 ?_;refine dS call95 (Ig (ga [bq[(dR gS (bq.take 2)).toNat].v]).1 w4) ?_;refine aE 2 ?_;refine aP 0 [_,_] sizeOf88 ?_;refine an 155 [] ?_;refine aJ [⟨b0,_,_,_⟩] ?_;refine⟨rfl,?_⟩;first|rw[sQ]|rw[aV]
  refine aE 5 ?_;refine OD.gZ iu rfl rfl rfl call51 (Rq (ga [bq[(dR gS (bq.take 2)).toNat].v]).1 b1.2) ⟨ot,ot,trivial⟩ ?_;refine an 155 [0,11,149] ?_;refine au ?_ ?_<;>intro gv lp
  ·have sP:b1.2.length=0∨compareBytes (ga [bq[(dR gS (bq.take 2)).toNat].v]).1 b1.2<0:=(by first|exact .inl w4|exact .inr (by simpa using gv))
   have sQ:(gh key (f+1) ops (lo,hi))=(b1.1,(ga [bq[(dR gS (bq.take 2)).toNat].v]).1):=(by rw[Cs];unfold rY;rw[if_pos sP])
   refine dN 2 ?_;refine dS call95 (Ig (ga [bq[(dR gS (bq.take 2)).toNat].v]).1 w4) ?_;refine aE 2 ?_;refine aP 0 [_,_] sizeOf88 ?_;refine an 155 [] ?_;refine aJ [⟨b0,_,_,_⟩] ?_;refine⟨rfl,?_⟩;first|rw[sQ]|rw[aV]
  have sP:¬(b1.2.length=0∨compareBytes (ga [bq[(dR gS (bq.take 2)).toNat].v]).1 b1.2<0):=(by (have V3:¬compareBytes (ga [bq[(dR gS (bq.take 2)).toNat].v]).1 b1.2<0:=by simpa using gv);omega)
  have sQ:(gh key (f+1) ops (lo,hi))=b1:=(by rw[Cs];unfold rY;rw[if_neg sP])
  refine aJ [⟨b0,_,_,_⟩] ?_;refine⟨rfl,?_⟩;first|rw[sQ]|rw[aV]):p:=h
theorem V4(h:p:=by
  refine aD 1 ?_;refine OD.wk (Wk.dU (n:=19) (l':=[(0,_),(1,_)]) (S':=S) rfl mM fp) ?_;refine OD.nil ?_;refine aD 3 ?_;refine OD.wk (Wk.dU (n:=19) (l':=[(0,_),(1,_),(7,_),(8,_)]) (S':=S) rfl mM fp) ?_;refine OD.nil ?_;refine eK [0,1,7] (fun aW _ (k:Nat) aI=>(k≤ls.length)∧(∀x∈ls.take k,p x=false)∧aI=(⟨19,(8,ae (k:Nat))::aW,S⟩:St)) (fun (k:Nat)=>ls.length-k) 0 ⟨Nat.zero_le _,bu,rfl⟩ ?_;rintro k _ ⟨hk,h0,rfl⟩;refine aD 1 ?_;refine OD.wk (Wk.dU (n:=19) (l':=[(0,_),(1,_),(7,_),(8,_),(9,_)]) (S':=S) rfl mM fp) ?_;refine OD.nil ?_;refine au ?_ ?_<;>intro aN bC
  ·refine aD 2 ?_;refine OD.wk (Wk.dU (n:=19) (l':=[(0,_),(1,_),(5,_),(7,_),(8,_)]) (S':=S) rfl mM fp) ?_;refine OD.nil ?_;refine aD 5 ?_;refine OD.kr (f:=g) (args:=[_]) ap rfl rfl (tu rfl lk) fu (hp (ls[k]'w4) (getElem_mem _)) rfl ⟨tu rfl lk,trivial⟩ (Ih _) ?_;rintro _ S2 ⟨rfl,iG⟩;rw[iG];clear iG;refine OD.wk (Wk.dU (n:=19) (l':=[(0,_),(1,_),(5,_),(7,_),(8,_),(16,_)]) (S':=S) rfl mM fp) ?_;refine OD.nil ?_;refine au ?_ ?_<;>intro aY cz
   ·refine aD 2 ?_;refine OD.wk (Wk.dU (n:=19) (l':=[(4,_)]) (S':=S) rfl mM fp) ?_;refine OD.nil ?_;refine aJ S ?_;refine⟨?_,rfl⟩;first|(rw[uH w4 h0 tN])|(rw[uC w4 h0])
   refine dN 2 ?_;refine OD.wk (Wk.dU (n:=19) (l':=[(0,_),(1,_),(7,_),(8,_)]) (S':=S) rfl mM fp) ?_;refine OD.nil ?_;refine⟨k+1,_,cD,aQ,w4,(by rw[take_succ_eq_append_getElem w4];intro x hx;rcases mem_append.1 hx with hx|hx;exact h0 x hx;simp only[mem_singleton] at hx;subst hx;assumption),rfl⟩
  refine aD 1 ?_;refine OD.wk (Wk.dU (n:=19) (l':=[(4,_)]) (S':=S) rfl mM fp) ?_;refine OD.nil ?_;refine aJ S ?_;refine⟨?_,rfl⟩;first|(rw[uH w4 h0 tN])|(rw[uC w4 h0])
  ):p:=h
theorem Mf(h:p:=by
  refine af [2] ?_;refine eR ?_;refine⟨vi ?_,rfl⟩;try simp only[uK] at *
  simp only[tH,n8];try simp_all
  try omega):p:=h
theorem z20(h:p:=by
  refine cH [1,3] (PU hm hw s.names (by have:=hf.ok.2.2.1;omega) hf.n) ?_;refine af [1,3,36] ?_;refine au ?_ ?_<;>intro cW ek
  ·refine af [2] ?_;refine eR ?_;refine⟨vi ?_,rfl⟩;unfold oK jh;simp_all;all_goals (try (intros;(repeat' split)<;>first|rfl|omega))
  refine cH [1,4] (D6 hm hw s.aj (fun o h=>(hf.w o h).1)) ?_;refine af [1,4,42] ?_;refine au ?_ ?_<;>intro eA fA
  ·refine af [2] ?_;refine eR ?_;refine⟨vi ?_,rfl⟩;unfold oK jh;simp_all;all_goals (try (intros;(repeat' split)<;>first|rfl|omega))
  refine af [1,46] ?_;refine au ?_ ?_<;>intro fx gG
  ·refine cH [2] (tv hm hw s.order hf.o) ?_;refine eR ?_;refine⟨vi ?_,rfl⟩;unfold oK jh;simp_all;all_goals (try (intros;(repeat' split)<;>first|rfl|omega))
  refine af [2] ?_;refine eR ?_;refine⟨vi ?_,rfl⟩;unfold oK jh;simp_all;all_goals (try (intros;(repeat' split)<;>first|rfl|omega))):p:=h
theorem z21(h:p:=by
  refine an 76 [11,12] ?_;refine af [12,74] ?_;refine au ?_ ?_<;>intro va Fl
  ·refine af [8,9] ?_;refine aJ [] ?_;refine⟨?_,rfl⟩;unfold je okF wR;simp_all
  refine af [8,9] ?_;refine aJ [] ?_;refine⟨?_,rfl⟩;unfold je okF wR;simp_all):p:=h
theorem z22(h:p:=by
  refine af [8,9] ?_;refine aJ [] ?_;refine⟨?_,rfl⟩;unfold je okF wR;simp_all):p:=h
theorem Mg(h:p:=by
  refine⟨vi ?_,rfl⟩;try simp only[uK] at *
  simp only[tH,n8];try simp_all
  try omega):p:=h
theorem z24(h:p:=by
  refine eR ?_;refine⟨vi ?_,rfl⟩;unfold oK jh;simp_all;all_goals (try (intros;(repeat' split)<;>first|rfl|omega))):p:=h
theorem V5(h:p:=by
  refine⟨vi ?_,rfl⟩;unfold oK jh;simp_all;all_goals (try (intros;(repeat' split)<;>first|rfl|omega))):p:=h
theorem V6(h:p:=by
  skip;refine mg 20 [0,2,3,8,9,59,64,69,74] ?_;refine aU 4 ?_ (h:=by exact(cR (mk:=Op.load 3) rfl ot (uY (g:=Ph.cs) (ls:=ps) (i:=k) (j:=1) yJ isAgg3 aa rfl)));refine aU 4 ?_ (h:=by exact(cR (mk:=Op.load 3) rfl ot (uY (g:=Ph.cs) (ls:=ps) (i:=k) (j:=2) yJ isAgg3 aa rfl)));refine aU 4 ?_ (h:=by exact(cR (mk:=Op.load 3) rfl ot (uY (g:=Ph.cs) (ls:=ps) (i:=k) (j:=3) yJ isAgg3 aa rfl)));refine aU 4 ?_ (h:=by exact(cR (mk:=Op.load 75) rfl ot (uY (g:=Ph.cs) (ls:=ps) (i:=k) (j:=4) yJ isAgg75 aa rfl)));refine jJ ?_;refine aE 1 ?_;refine OD.call ap rfl rfl rfl call23 (VC.Ct (Tq hm hw ht hG (⟨2,(ps[k]'aa).t,(ps[k]'aa).a,(ps[k]'aa).b,(ps[k]'aa).row,.mk 0 0 ⟨#[]⟩ [],.mk 0 0 ⟨#[]⟩ [],false⟩:Ph) ⟨(show(-9223372036854775808:Int)≤2∧(2:Int)≤9223372036854775807 by decide),rB.t,rB.a,rB.b,rB.row,Ts,Ts⟩) (args':=[.agg [ae 2,ae (ps[k]'aa).t,ae (ps[k]'aa).a,ae (ps[k]'aa).b,.list 3 ((ps[k]'aa).row.flatMap cV) (ps[k]'aa).row.length,ae 0,ae 0,fL,bS,ae 0,ae 0,fL,bS,cg false]]) ⟨yK ⟨cY,cY,cY,cY,cY,cY,cY,cY,eV,cY,cY,cY,eV,cY,trivial⟩,trivial⟩) ⟨ot,trivial⟩ (eT _) ?_;rintro _ _ ⟨s',rfl,rfl,ahz,ahA⟩;have hk9:s'.kind=3:=ahA.trans (show(1:Int)+eu 2 6=3 by decide);have ahB:¬s'.kind=1∧¬s'.kind=2:=(by omega)
  refine aP 0 [_,_,_,_,_,_,_,_,_,_,_,_] sizeOf32 ?_;refine an 88 [0,2,3,8,9] ?_;refine⟨_,aQ,s',ahz,ahB,rfl⟩):p:=h
theorem V7(h:p:=by
  refine bX 103 (fun Bn aeJ=>?_) (fun Bn aeJ=>?_)
  ·refine aE 3 ?_;refine OD.gZ iu rfl rfl rfl call51 (wo p.keys[i] p.high) ⟨ot,ot,trivial⟩ ?_;refine an 132 [1,2,73,74,75,110] ?_;refine au ?_ ?_<;>intro cW ek
   ·have oh:¬uZ p i:=fun hk=>by obtain⟨k1,k2,k3⟩:=hk aa;unfold bN at k2 k3;first|(rw[k1] at wS;cases wS;done)|(have:=k2 w4;omega)|(have:=k3 (JC Bn);have hx:=of_decide_eq_true cW;omega)
    refine af [4] ?_;refine aJ [] ?_;refine⟨vb (Eo fun hp=>?_),rfl⟩;exact oh (Rr hp i)
   have hK:uZ p i:=fun _=>⟨by simpa using wS,fun h0=>by unfold bN;first|(exfalso;omega)|(have hx:=of_decide_eq_false zf;omega),fun hne=>by first|exact absurd (len_nil Bn) hne|(unfold bN;have hx:=of_decide_eq_false cW;omega)⟩
   refine cm [1,2,73,74,75] ?_;refine⟨(i+1),_,cD,aQ,w4,(fun j hj=>by rcases Nat.lt_or_ge j i with h|h;exact xC j h;obtain rfl:j=i:=w4;exact hK),rfl⟩
  refine an 132 [1,2,73,74,75,110] ?_;refine fT ?_;have hK:uZ p i:=fun _=>⟨by simpa using wS,fun h0=>by unfold bN;first|(exfalso;omega)|(have hx:=of_decide_eq_false zf;omega),fun hne=>by first|exact absurd (len_nil Bn) hne|(unfold bN;have hx:=of_decide_eq_false cW;omega)⟩
  refine cm [1,2,73,74,75] ?_;refine⟨(i+1),_,cD,aQ,w4,(fun j hj=>by rcases Nat.lt_or_ge j i with h|h;exact xC j h;obtain rfl:j=i:=w4;exact hK),rfl⟩):p:=h
theorem z28(h:p:=by
  refine an 69 [4] ?_;refine aJ [_] ?_;first|exact gp.cast (gp.mk (g:=cO) (e:=43) (sz:=5) (ls:=[(⟨1,tP n s,⟨#[]⟩⟩:aX)]) (bF (ls:=[(⟨1,tP n s,⟨#[]⟩⟩:aX)]) (Nat.le_refl _) (show 1≤maxLen by decide))) (by unfold my rZ;rw[if_neg w4])|exact gp.cast (gp.mk (g:=cO) (e:=43) (sz:=5) (ls:=[(⟨kk,tP n s,⟨#[]⟩⟩:aX)]) (bF (ls:=[(⟨kk,tP n s,⟨#[]⟩⟩:aX)]) (Nat.le_refl _) (show 1≤maxLen by decide))) (by unfold my rZ;rw[if_neg w4,show kk=1 by omega])|exact gp.cast (gp.mk (g:=cO) (e:=43) (sz:=5) (ls:=[(⟨kk,bQ,r8 (j:Int)⟩:aX)]) (bF (ls:=[(⟨kk,bQ,r8 (j:Int)⟩:aX)]) (Nat.le_refl _) (show 1≤maxLen by decide))) (by unfold my wE;rw[if_pos w4,hj,show kk=2 by omega])):p:=h
theorem V8(h:p:=by
  have sR:((bq[bq.length-1].k==6)||(((dR (lZ key) (bq.take 2))==0)==nt))=true:=(by first|rw[J2,Bool.true_or]|rw[eA,Bool.or_true])
  refine cH [0,8,9,11,13,122] (Rq (ga [bq[(dR gS (bq.take 2)).toNat].v]).1 lo) ?_;refine au ?_ ?_<;>intro fx gG
  ·have xD:compareBytes (ga [bq[(dR gS (bq.take 2)).toNat].v]).1 lo>0:=(by simpa using fx)
   have Cu:((ga [bq[(dR gS (bq.take 2)).toNat].v]).1,hi)=(bif (bq[bq.length-1].k==6)||(((dR (lZ key) (bq.take 2))==0)==nt) then om (ga [bq[(dR gS (bq.take 2)).toNat].v]).1 (lo,hi) else (lo,hi)):=(by rw[sR];show _=om _ _;unfold om;rw[if_pos xD])
   refine dN 2 ?_;refine dS call95 (Ig (ga [bq[(dR gS (bq.take 2)).toNat].v]).1 w4) ?_;refine aE 2 ?_;refine aP 1 [_,_] sizeOf88 ?_;refine an 155 [0,8,9,11,13] ?_;refine⟨_,aQ,((ga [bq[(dR gS (bq.take 2)).toNat].v]).1,hi),Cu,(by first|exact dY|exact eX),eH,rfl⟩
  have xD:¬compareBytes (ga [bq[(dR gS (bq.take 2)).toNat].v]).1 lo>0:=(by simpa using fx)
  have Cu:(lo,hi)=(bif (bq[bq.length-1].k==6)||(((dR (lZ key) (bq.take 2))==0)==nt) then om (ga [bq[(dR gS (bq.take 2)).toNat].v]).1 (lo,hi) else (lo,hi)):=(by rw[sR];show _=om _ _;unfold om;rw[if_neg xD])
  refine CD.skip ?_;refine⟨_,aQ,(lo,hi),Cu,(by first|exact dY|exact eX),eH,rfl⟩):p:=h
theorem V9(h:p:=by
  have fG:u0 e9 y=false:=(by unfold u0;simp_all[Tu])
  refine CI.skip ?_;refine CI.region L9 rfl ?_;refine bH (dJ 1) ?_;refine bH (BK 0 [_,_]) ?_;refine ez (cf 0 [_]) [.slice none 0 0,.int .i64 0] [_,_] zeroValue90 runUnderlying85 sizeOf90 (fun Gz=>?_);refine fP 0 40 2 1 ?_;refine OD.ew (ls:=pre) (new:=[y]) (Sq:=So) Tv aeK ap rfl rfl underlying85 YW rfl w7 ot ho (dD (A:=[_,_,_])) ot bu Gl Gl (fun vE FO ahC ahD=>?_);refine OD.perm (ee (S1:=[⟨vE,90,FO*2,flatMap cE (pre++[y])⟩]) (A:=[_,_,_])) ?_;refine aP 1 [_] sizeOf85 ?_;refine OD.wk (Wk.dU (n:=43) (l':=[]) (S':=(⟨kJ,90,2,[_,_]⟩::⟨b9,85,1,[_]⟩::⟨b5,88,1,[_]⟩::[⟨vE,90,FO*2,flatMap cE (pre++[y])⟩])) rfl rfl trivial) ?_;refine OD.nil ?_;exact⟨_,Sublist.cons _ (Sublist.refl _),(fun x hx=>by rcases mem_append.1 hx with hx|hx;exact aT x hx;rw[mem_singleton] at hx;subst hx;exact fG),(some ⟨vE,0,none⟩),FO,[⟨vE,90,FO*2,flatMap cE (pre++[y])⟩],(bF ahC ahD),rfl⟩):p:=h
theorem z31(h:p:=by
  refine aD 1 ?_;refine OD.kr (f:=52) (args:=[_]) (all:=[_,_,_]) (Sf:=[_,_]) (R:=[]) ap rfl rfl ot call52 (J3 r k n d s ts 0 b2 b3 IH gw iX hs hd1 hd w7) rfl ⟨bL,trivial⟩ (Perm.refl _) ?_;rintro _ _ ⟨Mh,⟨aoc,aod,rfl,ahE⟩,rfl⟩;refine OD.perm (PV (A:=[_,_])) ?_;refine aE 2 ?_;refine ez (cf 0 [_]) [.int .i64 0,.int .i64 0,.int .i64 0,.string ⟨#[]⟩,.string ⟨#[]⟩] [_,_,_,_,_] zeroValue43 runUnderlying30 sizeOf43 (fun zX=>?_);refine fP 0 58 5 1 ?_;refine OD.ew (ls:=(gI r ts n s 0)) (new:=[(⟨kk,bQ,⟨#[]⟩⟩:aX)]) (Sq:=Mh) mY JD ap rfl rfl underlying30 Hw rfl w7 ot ahE (dD (A:=[_,_])) ot bu zJ zJ (fun sN sj BI BJ=>?_);refine OD.perm (ee (S1:=[⟨sN,43,sj*5,flatMap cO ((gI r ts n s 0)++[(⟨kk,bQ,⟨#[]⟩⟩:aX)])⟩]) (A:=[_,_])) ?_;refine an 69 [4] ?_;refine aJ [⟨sN,43,sj*5,flatMap cO ((gI r ts n s 0)++[(⟨kk,bQ,⟨#[]⟩⟩:aX)])⟩] ?_;exact gp.cast (gp.mk (bF BI BJ)) (by rw[vW,lA,if_neg w4,if_neg w4,if_pos w4];rfl)):p:=h
theorem GA(h:p:=by
  refine aJ [] ?_;refine⟨?_,rfl⟩;unfold jn;first|(rw[if_pos bC];first|done|rfl)|(rw[if_neg bC,if_pos dO,hj];rcases j with _|_|j<;>first|rfl|omega)|(rw[if_neg bC,if_neg cz,if_pos cM];first|done|rfl)|(rw[if_neg bC,if_neg cz,if_neg cM,if_pos w4,show -v.n=0-v.n by omega];first|done|rfl)|(rw[if_neg bC,if_neg cz,if_neg cM,if_neg w4];first|done|rfl)):p:=h
theorem Wa(h:p:=by
  refine at_ rfl eY ?_;refine cy 14 rfl (dm 1 (h:=by first|exact .l (j:=a+t+1) rfl w4|exact .r (j:=a+t+1) rfl w4)) ?_;refine AD.one (i:=15) aA ?_;refine bj.storeAt (k:=0) (cs':=((Mv P B Q x (t+1)).set (a+t+1) ((Mv P B Q x (t+1))[a+t])).flatMap cI) rfl ap rfl rfl ot rfl rfl ot rfl rfl sizeOf3 rfl Gr (by rw[Nat.zero_add];exact oI eI _ _ w4) ir ?_;refine eJ ?_;refine aE 1 ?_;refine OD.storeAt (k:=0) (cs':=(Mv P B Q x (t)).flatMap cI) ap rfl rfl ot rfl rfl ot rfl rfl sizeOf3 rfl Gm (by rw[Nat.zero_add];exact(oI eI ((Mv P B Q x (t+1)).set (a+t+1) ((Mv P B Q x (t+1))[a+t])) ((Mv P B Q x (t+1))[a+t+1]) vv).trans (congrArg (flatMap cI) (aeL Mi hP w4 w4))) ?_;refine an 220 [0,14,17] ?_;refine iF [0,14,17] ?_;refine aU 1 ?_ (h:=by exact(c8 rfl ot bL (gk (r:=((a+t:Nat):Int)) LZ)));refine bG ?_;refine⟨t,_,cD,aQ,w4,w4,rfl⟩):p:=h
theorem Wb(h:p:=by
  refine at_ rfl eY ?_;refine cy 14 rfl (dm 1 (h:=by first|exact .l (j:=a+t) rfl w4|exact .r (j:=a+t) rfl w4)) ?_;refine AD.one (i:=15) aA ?_;refine bj.storeAt (k:=0) (cs':=((Mv P B Q x (t)).set (a+t) ((Mv P B Q x (t))[a+t+1])).flatMap cI) rfl ap rfl rfl ot rfl rfl ot rfl rfl sizeOf3 rfl Gr (by rw[Nat.zero_add];exact oI eI _ _ w4) ir ?_;refine eJ ?_;refine aE 1 ?_;refine OD.storeAt (k:=0) (cs':=(Mv P B Q x (t+1)).flatMap cI) ap rfl rfl ot rfl rfl ot rfl rfl sizeOf3 rfl Gm (by rw[Nat.zero_add];exact(oI eI ((Mv P B Q x (t)).set (a+t) ((Mv P B Q x (t))[a+t+1])) ((Mv P B Q x (t))[a+t]) vv).trans (congrArg (flatMap cI) (aeM Mi hP w4 w4))) ?_;refine an 220 [0,10,13] ?_;refine iF [0,10,13] ?_;refine aU 1 ?_ (h:=by exact(c8 rfl ot bL (ko (r:=((a+(t+1):Nat):Int)) (by rw[show(((a+t:Nat):Int)+1)=((a+(t+1):Nat):Int) by omega];exact wrap_i64 w4 w4))));refine bG ?_;refine⟨(t+1),_,cD,aQ,w4,rfl⟩):p:=h
theorem Wc(h:p:=by
  refine at_ rfl eY ?_;refine cy 14 rfl (dm 1 (h:=by first|exact .l (j:=j) rfl w4|exact .r (j:=j) rfl w4)) ?_;refine AD.one (i:=15) aA ?_;refine bj.storeAt (k:=0) (cs':=(lB.set j (lB[j-1]'qw)).flatMap cI) rfl ap rfl rfl ot rfl rfl ot rfl rfl sizeOf3 rfl Gr (by rw[Nat.zero_add];exact oI eI _ _ qx) ir ?_;refine eJ ?_;refine aE 1 ?_;refine OD.storeAt (k:=0) (cs':=((lB.set j (lB[j-1]'qw)).set (j-1) (lB[j]'qx)).flatMap cI) ap rfl rfl ot rfl rfl ot rfl rfl sizeOf3 rfl Gm (by rw[Nat.zero_add];exact oI eI _ _ (by rw[length_set];exact qw)) ?_;refine an 53 [0,1,2,3,8,9] ?_;refine iF [0,1,2,3,8,9] ?_;refine aU 1 ?_ (h:=by exact(c8 rfl ot bL (gk (r:=((j-1:Nat):Int)) L1)));refine bG ?_;refine⟨((j-1),((lB.set j (lB[j-1]'qw)).set (j-1) (lB[j]'qx))),_,cD,aQ,(ZO hj hja qx qw (EM af6)),(by simpa using zg),rfl⟩):p:=h
theorem Wd(h:p:=by
  refine bX 71 (fun ahF af7=>?_) (fun ahF af7=>?_)
  ·refine bg [0,2,4,6,8,79] ?_;refine au ?_ ?_<;>intro bZ cM
   ·have so:(bq.length≠3∨(nt=true∧bq[bq.length-1].k≠7)∨(bq[bq.length-1].k≠6∧bq[bq.length-1].k≠7)):=(by first|omega|(simp_all;omega)|simp_all)
    have mG:nc key bq nt (lo,hi)=(lo,hi):=(by unfold nc;rw[uR vf,if_pos so])
    rw[mG] at aV;refine aJ [⟨b0,_,_,_⟩] ?_;refine⟨rfl,?_⟩;first|rw[sQ]|rw[aV]
   have so:¬(bq.length≠3∨(nt=true∧bq[bq.length-1].k≠7)∨(bq[bq.length-1].k≠6∧bq[bq.length-1].k≠7)):=(by first|omega|(simp_all;omega)|simp_all)
   refine CD.skip ?_;refine⟨_,aQ,so,rfl⟩
  refine bg [0,2,4,6,8,79] ?_;refine fT ?_;have so:¬(bq.length≠3∨(nt=true∧bq[bq.length-1].k≠7)∨(bq[bq.length-1].k≠6∧bq[bq.length-1].k≠7)):=(by first|omega|(simp_all;omega)|simp_all)
  refine CD.skip ?_;refine⟨_,aQ,so,rfl⟩):p:=h
theorem z37(h:p:=by
  have so:(bq.length≠3∨(nt=true∧bq[bq.length-1].k≠7)∨(bq[bq.length-1].k≠6∧bq[bq.length-1].k≠7)):=(by first|omega|(simp_all;omega)|simp_all)
  have mG:nc key bq nt (lo,hi)=(lo,hi):=(by unfold nc;rw[uR vf,if_pos so])
  rw[mG] at aV;refine aJ [⟨b0,_,_,_⟩] ?_;refine⟨rfl,?_⟩;first|rw[sQ]|rw[aV]):p:=h
theorem We(h:p:=by
  refine af [0] ?_;refine af [3] ?_;refine af [3,4] ?_;refine au ?_ ?_<;>intro aN bC
  ·refine eM ?_;refine af [2] ?_;refine aJ [] ?_;refine⟨vi ?_,rfl⟩;unfold bP;simp_all
  refine cm [3,4] ?_;refine au ?_ ?_<;>intro aY cz
  ·refine af [2] ?_;refine aJ [] ?_;refine⟨vi ?_,rfl⟩;unfold bP;simp_all
  refine af [3,7] ?_;refine au ?_ ?_<;>intro bZ cM
  ·refine eM ?_;refine af [2] ?_;refine aJ [] ?_;refine⟨vi ?_,rfl⟩;unfold bP;simp_all
  refine cm [7] ?_;refine au ?_ ?_<;>intro cW ek
  ·refine af [2] ?_;refine aJ [] ?_;refine⟨vi ?_,rfl⟩;unfold bP;simp_all
  refine af [2] ?_;refine aJ [] ?_;refine⟨vi ?_,rfl⟩;unfold bP;simp_all
  ):p:=h
theorem Wf(h:p:=by
  have oh:¬uZ p i:=fun hk=>by obtain⟨k1,k2,k3⟩:=hk aa;unfold bN at k2 k3;first|(rw[k1] at wS;cases wS;done)|(have:=k2 w4;omega)|(have:=k3 (JC Bn);have hx:=of_decide_eq_true cW;omega)
  refine af [4] ?_;refine aJ [] ?_;refine⟨vb (Eo fun hp=>?_),rfl⟩;exact oh (Rr hp i)):p:=h
theorem z40(h:p:=by
  refine aE 1 ?_;first|refine OD.cells (k:=0) (cs':=[.list 1 [] 0,_]) rfl ⟨eV,cY,trivial⟩ rfl ?_|skip
  first|refine OD.cells (k:=1) (cs':=[.list 1 [] 0,_]) rfl ⟨eV,cY,trivial⟩ rfl ?_|skip
  first|refine OD.cells (k:=1) (cs':=[.list 5 [] 0]) rfl ⟨eV,trivial⟩ rfl ?_|skip
  first|refine OD.cells (k:=2) (cs':=[.list 5 [] 0]) rfl ⟨eV,trivial⟩ rfl ?_|skip
  refine an 46 [4,5,6] ?_;refine aJ [] ?_;rw[aV];exact⟨rfl,rfl⟩):p:=h
theorem Wg(h:p:=by
  refine⟨vi ?_,rfl⟩;try simp only[uK] at *
  unfold dH;simp_all;try omega):p:=h
theorem Wh(h:p:=by
  refine aJ [⟨b0,_,_,_⟩] ?_;refine⟨rfl,?_⟩;first|rw[sQ]|rw[aV]):p:=h
theorem Wi(h:p:=by
  refine at_ rfl eY ?_;refine cy 20 rfl (dm 1) ?_;refine AD.one (i:=21) aA ?_;refine bj.storeAt (k:=0) (cs':=((jT l la lb i).set (la+i) ((jT l la lb i)[lb+i]'hb)).flatMap cI) rfl ap rfl rfl ot rfl rfl ot rfl rfl sizeOf3 rfl Gr (by rw[Nat.zero_add];exact oI eI _ _ ha) ir ?_;refine eJ ?_;refine aE 1 ?_;refine OD.storeAt (k:=0) (cs':=(jT l la lb (i+1)).flatMap cI) ap rfl rfl ot rfl rfl ot rfl rfl sizeOf3 rfl Gm (by rw[Nat.zero_add];exact(oI eI ((jT l la lb i).set (la+i) ((jT l la lb i)[lb+i]'hb)) ((jT l la lb i)[la+i]'ha) (by rw[length_set];exact hb)).trans (by rw[jT,sw,mz ha,mz hb])) ?_;refine an 38 [0,1,2,3,10] ?_;refine cm [0,1,2,3,10] ?_;refine⟨(i+1),_,cD,aQ,w4,rfl⟩):p:=h
theorem ow(h:p:=by
  refine aJ [] ?_;rw[aV];exact⟨rfl,rfl⟩):p:=h
theorem Cv(h:p:=by
  refine af [4] ?_;refine aJ [] ?_;first|exact⟨rfl,rfl⟩|(refine⟨vi ?_,rfl⟩;unfold pH;simp_all;done)|(refine⟨vi ?_,rfl⟩;unfold pH;split<;>(try split)<;>simp_all<;>omega)):p:=h
theorem z46(h:p:=by
  refine an 90 [4] ?_;refine aJ [] ?_;refine⟨vb ?_,rfl⟩;unfold ku jh;simp_all;all_goals (try (intros;omega))):p:=h
theorem Wj(h:p:=by
  have ue:p.1∈ts:=(by rw[←hr.keys];exact mem_map_of_mem fQ)
  refine⟨ue,?_⟩;rw[hr.at ue];have fk:∀(j:Nat) (p':Oper),k≤j→ops[j]?=some p'→p'.dst≠some p.1:=fun j p' hj GB iY=>by
   obtain⟨e1,sR,iO,jK⟩:=EN (by simpa using zY) GB iY ue;have:=(wq hp zh).1 e1 sR iO;omega
  have h5:=k0.later (q:=p.1) (fun p' zZ=>by
   rw[←jv] at zZ;obtain⟨j,hj,rfl⟩:=mem_iff_getElem.1 zZ;refine fk (k+1+j) _ w4 ?_;rw[←Array.getElem?_toList,←getElem?_drop,getElem?_eq_getElem hj])
  rw[h5,fW,if_neg (fun e1:t=p.1=>fk k o (Nat.le_refl _) zh (by rw[←e1];exact hd))]):p:=h
theorem Mj(h:p:=by
  refine⟨vb ?_,rfl⟩;unfold ku jh;simp_all;all_goals (try (intros;omega))):p:=h
theorem z49(h:p:=by
  skip;have hz:(fZ l row ops[i] (fm bQ ops[i].k st) (fa bQ ops[i].k st)).2≠0:=(by simpa using cW)
  have aV:=hinv.trans (Rt aa hz);refine aD 2 ?_;refine aP 7 [_,_,_] sizeOf41 ?_;refine an 64 [4,5] ?_;refine aJ [⟨br,28,1,[av 3 cV row]⟩,⟨bc,27,1,[av 2 cC l]⟩] ?_;rw[aV];exact⟨rfl,rfl⟩):p:=h
theorem GC(h:p:=by
  refine aJ [] ?_;rw[aV];exact⟨rfl,fun h=>by dsimp only at h;omega⟩):p:=h
theorem z51(h:p:=by
  refine aJ [] ?_;exact⟨rfl,rfl⟩
  ):p:=h
theorem Wl(h:p:=by
  refine an 69 [4] ?_;refine aJ [_] ?_;first|exact gp.cast (gp.mk (g:=cO) (e:=43) (sz:=5) (ls:=[(⟨kk,tP n s,⟨#[]⟩⟩:aX)]) (bF (ls:=[(⟨kk,tP n s,⟨#[]⟩⟩:aX)]) (Nat.le_refl _) (show 1≤maxLen by decide))) (by rw[vW,lA,if_pos w4];unfold rZ;rw[show kk=1 by omega])|exact gp.cast (gp.mk (g:=cO) (e:=43) (sz:=5) (ls:=[(⟨kk,bQ,r8 (j:Int)⟩:aX)]) (bF (ls:=[(⟨kk,bQ,r8 (j:Int)⟩:aX)]) (Nat.le_refl _) (show 1≤maxLen by decide))) (by rw[vW,lA,if_neg w4,if_pos w4];unfold wE;rw[hj,show kk=2 by omega])):p:=h
theorem z53(h:p:=by
  refine bg [2] ?_;refine eR ?_;refine⟨vb ?_,rfl⟩;rw[Bool.eq_iff_iff];simp[wg];first|done|omega):p:=h
theorem Wm(h:p:=by
  refine OD.perm (ee (A:=[])) ?_;refine an 29 [3,8,9,10] ?_;refine cm [3,8,9,10] ?_;refine⟨((i+1),UH,UI,Wn),_,cD,(aQ (h:=by repeat (first|exact trivial|refine⟨(by (repeat (first|exact fD|(apply fX;focus (first|rfl|(simp;done)|(congr 2;omega)|(apply eO;first|exact Ii aa w4|exact HH aa w4)|(apply eO;rfl)|(apply eO;simp;done)))|(apply fH;focus rfl)));done),?_⟩))),w4,(bz.cast UJ (by first|exact Ii aa w4|exact HH aa w4)),rfl⟩):p:=h
theorem Mk(h:p:=by
  refine⟨vs ?_,rfl⟩;have Aa:k=s.size∨6≤k:=(by omega)
  have KG:min k s.size=k:=Nat.min_eq_left hk;simp only[length_map,length_take,lg,KG] at *;unfold tJ r9;first|(rw[if_pos w4];done)|(rw[if_neg w4,PW hk Aa h6])):p:=h
theorem Wo(h:p:=by
  have hF:¬((bM t.az s.set)=0∧(fw t.az (rowAt t ((ax t s.aj).1[k]'aa)) s.bU).1.k=0):=(by first|exact fun h=>(show ¬(fw t.az (rowAt t ((ax t s.aj).1[k]'aa)) s.bU).1.k=0 from by simpa using gX) h.2|exact fun h=>absurd h.1 (by simpa using zf))
  have nO:(iS t (bM t.az s.set) s.bU [] (ax t s.aj).1)=iS t (bM t.az s.set) s.bU (acc++[(fw t.az (rowAt t ((ax t s.aj).1[k]'aa)) s.bU).1]) ((ax t s.aj).1.drop (k+1)):=(by rw[Ab,jv,iS,if_neg hE,if_neg hF])
  refine CD.skip ?_;refine⟨_,aQ,nO,rfl⟩):p:=h
theorem GD(h:p:=by
  skip;obtain⟨hz,_⟩:=xE aN;obtain rfl:=length_eq_zero_iff.1 hz;refine af [2] ?_;refine aJ [] ?_;exact⟨none,0,rfl,.inl ⟨rfl,rfl,rfl,rfl,rfl⟩⟩):p:=h
theorem Cw(h:p:=by
  refine aP 0 [_,_,_] sizeOf41 ?_;refine an 35 [4,5] ?_;refine aJ [] ?_;refine⟨?_,rfl⟩;unfold tQ;simp_all[bQ]):p:=h
theorem z59(h:p:=by
  refine aJ [⟨br,28,1,[av 3 cV row]⟩,⟨bc,27,1,[av 2 cC l]⟩] ?_;rw[aV];exact⟨rfl,rfl⟩):p:=h
theorem Wp(h:p:=by
  skip;have hz:(je l ops[i] (fm 0 ops[i].k st) (fa 0 ops[i].k st)).2≠0:=(by simpa using cW)
  have aV:=hinv.trans (Rt aa hz);refine af [4,5] ?_;refine aJ [⟨b2,27,1,[av 2 cC l]⟩] ?_;rw[aV];exact⟨rfl,rfl⟩):p:=h
theorem Ml(h:p:=by
  refine af [2] ?_;refine aJ [] ?_;refine⟨vi ?_,rfl⟩;try simp only[Oe] at *
  simp only[cU];first|(rw[if_pos w4];done)|(rw[if_neg w4];cases h1:n8 s<;>cases h2:uS.any (jh s)<;>simp_all)):p:=h
theorem GF(h:p:=by
  refine aJ _ ?_;first|exact⟨rfl,_,J4,rfl⟩|exact⟨rfl,_,EO qq ox Wq,rfl⟩|exact⟨rfl,_,EO qq ox (OI qq ox w4),rfl⟩):p:=h
theorem xF(h:p:=by
  refine af [2] ?_;refine eR ?_;rw[aV];exact⟨rfl,rfl⟩):p:=h
theorem Wr(h:p:=by
  have hC:0≤p.kids[i]∧(p.leaf=false→p.kids[i]<many):=⟨by have hx:=of_decide_eq_false J5;omega,fun hl=>by first|(rw[hl] at Fm;cases Fm;done)|(have hx:=of_decide_eq_false fx;omega)⟩
  refine cm [1,2,113,114,115] ?_;refine⟨(i+1),_,cD,aQ,w4,(fun j hj hl=>by rcases Nat.lt_or_ge j i with h|h;exact j4 j h hl;obtain rfl:j=i:=w4;exact hC),rfl⟩):p:=h
theorem Ws(h:p:=by
  have ff:j=a∨Rc cF Lt (lB[j-1]'qw) (lB[j]'qx):=(by first|exact .inr (E8 ha (acT hj (by have q:=of_decide_eq_true qs;omega) qx qw hq) w4)|exact .inl (by have q:=of_decide_eq_false qs;omega))
  refine cm [0,1,2,3,8] ?_;refine⟨((i+1),lB),_,cD,aQ,(fun _=>abd ht hj w4 w4 ff),w4,w4,w4,zg,rfl⟩):p:=h
theorem Wt(h:p:=by
  refine aP 0 [_,_,_] sizeOf137 ?_;refine an 14 [2] ?_;refine aJ [] ?_;refine⟨?_,rfl⟩;unfold zi;first|(rw[if_neg lR,if_neg xG,show((j:Nat):Int).toNat=j from rfl,getD_eq_getElem?_getD,getElem?_eq_getElem hj];rfl)|(rw[if_pos xz];rfl)|(rw[if_neg xz,if_pos vz];rfl)):p:=h
theorem uf(h:p:=by
  refine aJ [] ?_;rw[aV];exact⟨rfl,rfl⟩
  ):p:=h
theorem Wu(h:p:=by
  have oh:vs[i].k≠l[i].k∧(i=0∨vs[i].k≠0):=(by first|(simp at *;omega)|(constructor<;>simp_all<;>omega))
  have hf:l9 i l[i] vs[i]=4:=(by unfold l9;rw[if_neg hz,if_pos oh])
  have aV:en l vs=4:=(by rw[hinv,PX KH aa (by rw[hf];decide),hf])
  refine af [4] ?_;refine eR ?_;rw[aV];exact⟨rfl,rfl⟩):p:=h
theorem Wv(h:p:=by
  have oh:¬(0≤p.kids[i]∧(p.leaf=false→p.kids[i]<many)):=fun hk=>by obtain⟨k1,k2⟩:=hk;first|(have hx:=of_decide_eq_true J5;omega)|(have:=k2 (by simpa using Fm);have hx:=of_decide_eq_true fx;omega)
  refine af [4] ?_;refine eR ?_;refine⟨vb (Eo fun hp=>?_),rfl⟩;exact oh (acU hp aa)):p:=h
theorem z70(h:p:=by
  refine an 70 [1,2,11,35,36,37] ?_;refine cm [1,2,11,35,36,37] ?_;refine⟨((k+1),(acc++[(L[k]'aa).2]),(some ⟨qy,0,none⟩),qZ,[⟨qy,3,qZ*1,flatMap Tw.cI ((acc)++[(L[k]'aa).2])⟩]),_,cD,aQ,w4,Gs,nO,(bz.cast (bF FP FQ) kV),rfl⟩):p:=h
theorem Ww(h:p:=by
  unfold eG;by_cases h:cap=i+1
  ·have e:q.length=i+1:=(by omega)
   have e2:q.drop (i+1)=[]:=drop_of_length_le w4;rw[if_pos h,show q.length-(i+1)=0 from by omega,e2];simp
  rw[if_neg h,Nat.zero_add,uL hg,take_of_length_le];rw[cn hg,length_drop];exact Nat.le_refl _):p:=h
theorem z72(h:p:=by
  have oc:¬(vs[i].k≠l[i].k∧(i=0∨vs[i].k≠0)):=(by first|(simp_all;done)|omega|(simp at *;omega))
  have hf:l9 i l[i] vs[i]=0:=(by unfold l9;rw[if_neg hz,if_neg oc])
  have jm:=hinv.trans (ZP KH aa hf);refine cm [0,19,20,21] ?_;refine⟨(i+1),_,cD,aQ,w4,jm,rfl⟩):p:=h
theorem Wx(h:p:=by
  refine cm [1,3,33,34,35] ?_;refine⟨(i+1),_,cD,(aQ (h:=by repeat (first|exact trivial|refine⟨(by (repeat (first|exact fD|(apply fX;focus (first|rfl|(rw[Ep,if_neg zj];rfl)|(rw[Ep,if_pos zj];rfl)|(simp;done)|(congr 2;omega)))|(apply fH;focus rfl)));done),?_⟩))),w4,rfl⟩):p:=h
theorem GG(h:p:=by
  refine OD.perm (ee (A:=[])) ?_;refine an 8 [2] ?_;refine aJ S7 ?_;exact⟨_,_,rfl,pR⟩
  ):p:=h
theorem z75(h:p:=by
  have hx:x.nm∈dZ:=h ▸ mem_map_of_mem hx;have key:∀y∈dZ,y.data.toList.head?≠some 120:=(by decide +kernel)
  have h2:=key _ hx;show(x.nm.toList==(eN s).toList)=false;rw[ByteArray.toList_eq,ByteArray.toList_eq,PY];refine beq_false_of_ne fun e=>h2 ?_;rw[e];rfl):p:=h
theorem z76(h:p:=by
  refine eJ ?_;refine OD.gZ iu rfl rfl rfl call29 (fy) ⟨ot,ot,trivial⟩ ?_;refine an 31 [1,10,11,12,29] ?_;refine au ?_ ?_<;>intro bZ cM
  ·exact absurd bZ (by (simp at bZ;omega))
  refine cm [1,10,11,12] ?_;refine⟨(i+1),_,cD,aQ,w4,rfl⟩):p:=h
theorem xH(h:p:=by
  refine aJ [] ?_;rw[ff];exact⟨rfl,rfl⟩):p:=h
theorem Mm(h:p:=by
  skip;refine bg [1,33] ?_;refine eM ?_;refine af [2] ?_;refine eR ?_;exact⟨vi (N6 w4).symm,rfl⟩):p:=h
theorem Mn(h:p:=by
  refine aP 0 [_,_,_] sizeOf41 ?_;refine an 29 [2] ?_;refine aJ [] ?_;refine⟨?_,rfl⟩;unfold py bQ;simp_all):p:=h
theorem z80(h:p:=by
  have hC:¬((ey t.az s.bU).1≠(t.az.getD (bM t.az s.set).toNat ⟨⟨#[]⟩,0⟩).k∧(ey t.az s.bU).1≠0):=(by rw[kW];first|exact fun h=>h.2 (by simpa using bZ)|exact fun h=>h.1 yU)
  refine CD.skip ?_;refine⟨_,aQ,hC,rfl⟩):p:=h
theorem Wy(h:p:=by
  have mN:¬(0≤s.ig∧s.ig<lz.length):=(by first|exact fun h=>lp h.2|(intro h;omega))
  refine CD.skip ?_;refine⟨_,aQ,lz,(by unfold wu vg;rw[←mO,Int.toNat_natCast,←hM,←UK,if_neg mN]),UL,w4,rfl⟩):p:=h
theorem Mo(h:p:=by
  refine an 135 [4,5] ?_;refine aJ [] ?_;rw[aV];exact⟨[],none,0,[],rfl,iI,(fun o h=>by cases h),rfl,rfl⟩):p:=h
theorem Wz(h:p:=by
  have af8:¬(f.length≤100∧e9.length≤100):=(by simp_all;omega)
  refine af [6,7] ?_;refine CD.wk (Wk.tw (t:=6) (sz:=2) lk) ?_;refine Mp ?_;exact⟨by unfold wF;rw[if_pos hz,if_neg af8];rfl,rfl⟩):p:=h
theorem Cx(h:p:=by
  refine aJ [] ?_;rw[ff];exact⟨rfl,rfl⟩
  ):p:=h
theorem z85(h:p:=by
  unfold cC;refine bY ?_;refine OD.box (ds:=[_,_]) ap rfl rfl ot rfl rfl (fun b2=>?_);refine an 8 [1,2] ?_;refine af [3] ?_;refine aJ [⟨b,9,1,[bn nm]⟩] ?_;exact⟨rfl,rfl⟩
  ):p:=h
theorem WA(h:p:=by
  have iC:¬((iM a b i).k≠1∧(iM a b i).k≠0):=(by simp_all)
  refine cm [2,3,4,6,14,15] ?_;refine⟨(i+1),_,cD,aQ,w4,(En (p:=fun v=>¬(v.k≠1∧v.k≠0)) fk iC),rfl⟩):p:=h
theorem z87(h:p:=by
  unfold gH cmpL iP iP iP iP;rcases yj a.k b.k with ⟨h1,h2⟩|⟨h1,h2⟩|⟨h1,h2⟩<;>rcases yj a.n b.n with ⟨k1,k2⟩|⟨k1,k2⟩|⟨k1,k2⟩<;>simp only[h1,k1]<;>(repeat' split)<;>omega):p:=h
theorem WB(h:p:=by
  refine bG ?_;refine cQ [6,7] ?_;refine aU 6 ?_ (h:=by exact(c8 rfl ot ot (Er underlying4)));refine bG ?_;refine aJ [] ?_;refine⟨?_,rfl⟩;unfold px;simp_all):p:=h
theorem WD(h:p:=by
  have af9:¬((iM a b i).k=1∧(iM a b i).n=d):=(by simp_all)
  refine cm [2,3,4,6,30,31] ?_;refine⟨(i+1),_,cD,aQ,w4,(En (p:=fun v=>¬(v.k=1∧v.n=d)) J6 af9),rfl⟩):p:=h
theorem WE(h:p:=by refine⟨_,(aQ (h:=by repeat (first|exact trivial|refine⟨(by (repeat (first|exact fD|(apply fX;focus (first|rfl|(rw[dA];done)|(simp;done)))|(apply fH;focus rfl)));done),?_⟩))),rfl⟩):p:=h
theorem z91(h:p:=by refine⟨_,(aQ (h:=by repeat (first|exact trivial|refine⟨(by (repeat (first|exact fD|(apply fX;focus (first|rfl|(rw[kW];done)|(simp;done)))|(apply fH;focus rfl)));done),?_⟩))),rfl⟩):p:=h
theorem WG(h:p:=by
  skip;obtain⟨hz,_⟩:=xE aN;obtain rfl:=length_eq_zero_iff.1 hz;refine af [2] ?_;refine CD.wk (Wk.tw (t:=2) (sz:=1) lk) ?_;refine aJ [] ?_;exact⟨rfl,rfl⟩):p:=h
theorem z93(h:p:=by
  refine af [4] ?_;refine aJ [] ?_;first|exact⟨vi (Es hn).symm,rfl⟩|exact⟨vi (D7 hz vz).symm,rfl⟩|exact⟨vi (IU hz vz).symm,rfl⟩):p:=h
theorem WH(h:p:=by
  rw[←jv] at fQ;obtain⟨j,hj,rfl⟩:=mem_iff_getElem.1 fQ;refine jL (k+1+j) _ w4 ?_;rw[←Array.getElem?_toList,←getElem?_drop,getElem?_eq_getElem hj]):p:=h
theorem WI(h:p:=by
  refine af [4] ?_;refine eR ?_;refine⟨vi ?_,rfl⟩;unfold aO;first|(rw[BL] at WJ;cases fN:p.leaf<;>simp_all;done)|(simp_all;done)|(simp_all;omega)):p:=h
theorem Mq(h:p:=by
  refine af [2,3] ?_;refine aJ [] ?_;first|(rw[aV];exact⟨none,0,rfl,iI⟩)):p:=h
theorem Mr(h:p:=by
  refine an 33 [0] ?_;refine af [6] ?_;refine aJ [_] ?_;exact⟨rfl,rfl⟩
  ):p:=h
theorem Ms(h:p:=by
  refine af [2] ?_;refine aJ [] ?_;exact⟨by first|rw[aV]|rw[aV];rfl,rfl⟩):p:=h
theorem WK(h:p:=by
  have g6:=po.leaf;have g7:=fun h=>(po.node h).1;cases fN:(t.ag[i]'aa).leaf with
  | true=>have:=g6 fN;omega
  | false=>have:=g7 fN;omega):p:=h
theorem UM(h:p:=by
  refine cm [0,1,5] ?_;refine⟨(i+1),_,cD,aQ,w4,(by rw[take_succ_eq_append_getElem aa,take_succ_eq_append_getElem su,GH,WL]),rfl⟩):p:=h
theorem UN(h:p:=by
  rw[map_set,hn];have:l[i].nm=(l.map aL.nm)[i]'(by rw[length_map];exact hi):=(by rw[getElem_map])
  rw[this,set_getElem_self]):p:=h
theorem UO(h:p:=by refine⟨((((i+j)/2)+1),j),_,cD,aQ,w4,w4,w4,(.inr ⟨by omega,by omega,by exact xp⟩),fi,rfl⟩):p:=h
theorem UP(h:p:=by
  obtain⟨t',h3,h4⟩:=(wq hp GB).2;rw[iY] at h3;obtain rfl:=Option.some.inj h3;exact h4 k o hj zh hd):p:=h
theorem UQ(h:p:=by
  unfold l5;rw[mk_data,getD_eq_getElem?_getD,getElem?_eq_getElem w4];exact getElem_mem _):p:=h
theorem z105(h:p:=by
  rw[pI] at oS;rcases mem_cons.1 oS with rfl|oS
  ·exact .inl (s5 _ _)
  exact m.Ty x oS):p:=h
theorem UR(h:p:=by
  have ff:en l=1:=if_pos w4;refine af [2] ?_;refine eR ?_;rw[ff];exact⟨rfl,rfl⟩):p:=h
theorem z107(h:p:=by
  refine aJ [⟨br,28,1,[av 3 cV row]⟩,⟨bc,27,1,[av 2 cC l]⟩] ?_;rw[aV];exact⟨rfl,rfl⟩
  ):p:=h
theorem US(h:p:=by refine⟨(i,((i+j)/2)),_,cD,aQ,w4,w4,w4,dO,(.inr ⟨by omega,by omega,Ac⟩),rfl⟩):p:=h
theorem z109(h:p:=by
  refine CD.skip ?_;have aga:l1=l:=abe KI w4;rw[aga];refine⟨_,aQ,rfl⟩):p:=h
theorem UT(h:p:=by
  refine cH [0,4,5,6,41] (nu) ?_;refine au ?_ ?_<;>intro fx gG
  ·have aV:iB k a b=(bQ,0):=(by unfold iB;rw[if_neg (by simp[oq]),if_neg w4,if_neg w4,if_pos w4,if_pos fx])
   refine aD 1 ?_;exact z7
  refine af [0,4,5,6,47] ?_;refine au ?_ ?_<;>intro gX kO
  ·have aV:iB k a b=(bQ,4):=(by unfold iB;rw[if_neg (by simp[oq]),if_neg w4,if_neg w4,if_pos w4,if_neg (by rw[fx];simp),if_pos (by simpa using gX)])
   refine aD 1 ?_;exact z7
  have aV:iB k a b=(qg ((gH a b==0&&k==6)||(decide (gH a b<0)&&k==7)),0):=(by unfold iB;rw[if_neg (by simp[oq]),if_neg w4,if_neg w4,if_pos w4,if_neg (by rw[fx];simp),if_neg (by simpa using gX)])
  refine cH [0,6,9] (fg) ?_;refine aD 3 ?_;refine bX 54 (fun zk yU=>?_) (fun zk yU=>?_)
  ·refine aE 4 ?_;refine bX 58 (fun ahG agb=>?_) (fun ahG agb=>?_)
   ·refine xI 3 ?_;refine aE 4 ?_;refine dS call100 (s6 _) ?_;exact z7
   refine aE 3 ?_;refine bX 61 (fun KJ J7=>?_) (fun KJ J7=>?_)
   ·refine aE 4 ?_;refine dS call100 (s6 _) ?_;exact z7
   refine aE 4 ?_;refine dS call100 (s6 _) ?_;exact z7
  refine aE 7 ?_;refine bX 61 (fun KJ J7=>?_) (fun KJ J7=>?_)
  ·refine aE 4 ?_;refine dS call100 (s6 _) ?_;exact z7
  refine aE 4 ?_;refine dS call100 (s6 _) ?_;exact z7):p:=h
theorem UU(h:p:=by
  have uX:¬((l[i].k != 1 && !(zeroV l[i].v))||(l[i].k != 2 && !(l[i].nm.toList==(⟨#[]⟩:ByteArray).toList)))=true:=(by unfold zeroV;simp_all)
  refine af [3,5,11,12,13,52] ?_;refine au ?_ ?_<;>intro fx gG
  ·refine cH [3,5,7,11,12,13] (tv hm hw l[i].nm (hs _ (getElem_mem aa))) ?_;refine af [3,5,7,11,12,13,57] ?_;refine au ?_ ?_<;>intro gX kO
   ·have qz:cU l[i].nm≠0:=(by simpa using gX)
    have qp:fj h l[i]=cU l[i].nm:=(by unfold fj;rw[if_neg dO,if_neg ud,if_neg uX,if_pos ⟨by simpa using fx,qz⟩])
    refine af [2] ?_;refine aJ [] ?_;exact vD
   have j5:¬(l[i].k=2∧cU l[i].nm≠0):=(by simp at gX;simp[gX])
   refine cH [3,5,11,12,13,63] (yA l[i].k) ?_;refine au ?_ ?_<;>intro gv lp
   ·have rA:h<bP l[i].k:=(by simpa using gv)
    have qp:fj h l[i]=7:=(by unfold fj;rw[if_neg dO,if_neg ud,if_neg uX,if_neg j5,if_pos rA])
    refine af [2] ?_;refine aJ [] ?_;exact vD
   exact Gy
  have j5:¬(l[i].k=2∧cU l[i].nm≠0):=(by simp at fx;simp[fx])
  refine cH [3,5,11,12,13,63] (yA l[i].k) ?_;refine au ?_ ?_<;>intro gv lp
  ·have rA:h<bP l[i].k:=(by simpa using gv)
   have qp:fj h l[i]=7:=(by unfold fj;rw[if_neg dO,if_neg ud,if_neg uX,if_neg j5,if_pos rA])
   refine af [2] ?_;refine aJ [] ?_;exact vD
  exact Gy):p:=h
theorem UW(h:p:=by
  have uX:¬((l[i].k != 1 && !(zeroV l[i].v))||(l[i].k != 2 && !(l[i].nm.toList==(⟨#[]⟩:ByteArray).toList)))=true:=(by unfold zeroV;simp_all)
  refine af [3,5,11,12,13,52] ?_;refine au ?_ ?_<;>intro fx gG
  ·refine cH [3,5,7,11,12,13] (tv hm hw l[i].nm (hs _ (getElem_mem aa))) ?_;refine af [3,5,7,11,12,13,57] ?_;refine au ?_ ?_<;>intro gX kO
   ·have qz:cU l[i].nm≠0:=(by simpa using gX)
    have qp:fj h l[i]=cU l[i].nm:=(by unfold fj;rw[if_neg dO,if_neg ud,if_neg uX,if_pos ⟨by simpa using fx,qz⟩])
    refine af [2] ?_;refine eR ?_;exact vD
   have j5:¬(l[i].k=2∧cU l[i].nm≠0):=(by simp at gX;simp[gX])
   refine cH [3,5,11,12,13,63] (yA l[i].k) ?_;refine au ?_ ?_<;>intro gv lp
   ·have rA:h<bP l[i].k:=(by simpa using gv)
    have qp:fj h l[i]=7:=(by unfold fj;rw[if_neg dO,if_neg ud,if_neg uX,if_neg j5,if_pos rA])
    refine af [2] ?_;refine eR ?_;exact vD
   exact Gy
  have j5:¬(l[i].k=2∧cU l[i].nm≠0):=(by simp at fx;simp[fx])
  refine cH [3,5,11,12,13,63] (yA l[i].k) ?_;refine au ?_ ?_<;>intro gv lp
  ·have rA:h<bP l[i].k:=(by simpa using gv)
   have qp:fj h l[i]=7:=(by unfold fj;rw[if_neg dO,if_neg ud,if_neg uX,if_neg j5,if_pos rA])
   refine af [2] ?_;refine eR ?_;exact vD
  exact Gy):p:=h
theorem UX(h:p:=by
  refine cy 8 rfl (dm 1 (h:=by first|exact .l (j:=tj) rfl ry|exact .r (j:=tj) rfl ry)) ?_;refine AD.two (i:=9) (j:=11) aA ?_ ?_
  ·refine at_ rfl (cR (mk:=Op.load 9) rfl ot (by exact qf (g:=cS) (ls:=dZ) (i:=tj) (d:=bn tn) jl isAgg9 ry (by show some (D.v (.string (dZ[tj]'ry)))=some (D.v (.string tn));rw[UG]))) ?_;refine cy 10 rfl (nC (pl:=[(0,_),(1,_),(9,_)]) (ds:=[_,_,_,_,_,_,_,_,_,_,_,_]) rfl zeroValue32 runUnderlying32 N1 ⟨rfl,ot,rfl,ot,rfl,bL,trivial⟩ rfl rfl) ?_;refine AD.one (i:=11) aA ?_;refine bj.alloc (ds:=[_,_,_,_,_,_,_,_,_,_,_,_]) rfl ap rfl rfl zeroValue32 rfl (fun b3=>?_);exact z10
  refine bj.alloc (ds:=[_,_,_,_,_,_,_,_,_,_,_,_]) rfl ap rfl rfl zeroValue32 rfl (fun b3=>?_);exact z4):p:=h
theorem KK(h:p:=by
  refine dN 2 ?_;refine OD.kr (f:=134) (args:=[_,_]) (all:=[_,_]) (Sf:=[]) ap rfl rfl ot call134 (yV a 2) rfl ⟨ot,bL,trivial⟩ (eT _) ?_;rintro _ _ ⟨rfl,rfl⟩;refine aE 1 ?_;refine bX 68 (fun ahH agc=>?_) (fun ahH agc=>?_)
  ·refine aE 2 ?_;refine OD.kr (f:=134) (args:=[_,_]) (all:=[_,_]) (Sf:=[]) iu rfl rfl ot call134 (yV b 2) rfl ⟨ot,bL,trivial⟩ (eT _) ?_;rintro _ _ ⟨rfl,rfl⟩;exact z21
  refine an 76 [11,12] ?_;refine af [12,74] ?_;refine eM ?_;exact z22):p:=h
theorem FR(h:p:=by
  refine AD.one (i:=7) aA ?_;refine jG call21 (FT) ?_;refine cy 8 rfl (dm 1 (h:=by first|exact .l (j:=tj) rfl ry|exact .r (j:=tj) rfl ry)) ?_;exact z4):p:=h
theorem z116(h:p:=by
  refine aD 4 ?_;refine OD.kr (f:=98) (args:=[_,_,_]) (all:=[_,_,_,_]) (Sf:=[⟨b2,27,1,[av 2 cC l]⟩]) ap rfl rfl ot call98 (OJ l hl ops[i] _ _ _ _ ha hb b2) rfl ⟨ot,ot,ot,trivial⟩ (kf (k:=1) rfl) ?_;rintro _ _ ⟨rfl,rfl⟩;refine an 64 [1,6,7,13,14,15,16,17,18] ?_;refine af [1,6,7,13,14,15,16,17,18,51] ?_;refine au ?_ ?_<;>intro cW ek
  ·exact Wp
  have hz:(je l ops[i] (fm 0 ops[i].k st) (fa 0 ops[i].k st)).2=0:=(by simpa using cW)
  refine CD.skip ?_;refine CD.vg (k:=(st.length-(bP ops[i].k).toNat)) (ls:=(st)) (Sq:=[⟨bh,3,j6*1,flatMap cI st⟩]) eI w4 (bF (g:=cI) (ls:=st) wO wC) (dD (A:=[_,_])) (fun BH Bl=>?_);exact z12):p:=h
theorem z117(h:p:=by
  refine cy 8 rfl (dm 1 (h:=by first|exact .l (j:=tj) rfl ry|exact .r (j:=tj) rfl ry)) ?_;exact z4):p:=h
theorem UY(h:p:=by
  rintro _ _ ⟨rfl,rfl⟩;refine aE 3 ?_;refine OD.alloc (ds:=[_,_,_]) ap rfl rfl zeroValue41 rfl (fun Ad=>?_);refine aP 0 [_,_,_] sizeOf41 ?_;refine an 64 [1,4,6,7,13,14,15,16,17,18] ?_;refine af [1,4,6,7,13,14,15,16,17,18,51] ?_;refine au ?_ ?_<;>intro cW ek
  ·exact z49
  have hz:(fZ l row ops[i] (fm bQ ops[i].k st) (fa bQ ops[i].k st)).2=0:=(by simpa using cW)
  refine CD.skip ?_;refine CD.vg (k:=(st.length-(bP ops[i].k).toNat)) (ls:=(st)) (Sq:=[⟨bh,41,j6*3,flatMap cV st⟩]) fq w4 (bF (g:=cV) (ls:=st) wO wC) (dD (A:=[_,_,_,_,_,_,_,_])) (fun BH Bl=>?_);exact z5):p:=h
theorem z119(h:p:=by
  refine CD.seq ?_;refine ug 11 10 [5,7,31] ?_;refine de (lf G n 40 gw iX w7) ?_;refine de (PZ ⟨n,eu n 40-20,s⟩ fU) ?_;refine rC ?_;refine jJ ?_;refine⟨rfl,fun b7=>?_⟩;refine aP 0 [_,_,_] sizeOf41 ?_;refine an 69 [5,7] ?_;refine aD 2 ?_;refine dS call16 (Bc (py ⟨n,eu n 40-20,s⟩).s 4 w4) ?_;refine aE 1 ?_;refine aP 0 [_,_,_] sizeOf9 ?_;refine an 69 [5,7] ?_;refine aD 3 ?_;refine ez (cf 0 [_]) [.int .i64 0,.int .i64 0,.int .i64 0,.string ⟨#[]⟩,.string ⟨#[]⟩] [_,_,_,_,_] zeroValue43 runUnderlying30 sizeOf43 (fun Cy=>?_);exact z28):p:=h
theorem UZ(h:p:=by
  refine dN 2 ?_;refine OD.kr (f:=134) (args:=[_,_]) (all:=[_,_]) (Sf:=[]) ap rfl rfl ot call134 (yV a 1) rfl ⟨ot,bL,trivial⟩ (eT _) ?_;rintro _ _ ⟨rfl,rfl⟩;refine aE 1 ?_;refine bX 40 (fun KL J8=>?_) (fun KL J8=>?_)
  ·refine aE 2 ?_;refine OD.kr (f:=134) (args:=[_,_]) (all:=[_,_]) (Sf:=[]) iu rfl rfl ot call134 (yV b 1) rfl ⟨ot,bL,trivial⟩ (eT _) ?_;rintro _ _ ⟨rfl,rfl⟩;exact z21
  refine an 76 [11,12] ?_;refine af [12,74] ?_;refine eM ?_;exact z22):p:=h
theorem U0(h:p:=by
  refine AD.one (i:=10) aA ?_;refine jG call95 (jW (t.ag[i]'aa).high w4) ?_;refine cy 13 rfl (nC (pl:=[(0,_),(1,_),(2,_),(3,_),(4,_)]) (ds:=[_,_,_,_,_]) rfl zeroValue153 runUnderlying153 NU ⟨rfl,ot,rfl,ot,rfl,ot,rfl,ot,rfl,ot,trivial⟩ rfl rfl) ?_;refine AD.one (i:=14) aA ?_;refine jt (cf 0 [_]) [.bool false,.slice none 0 0,.slice none 0 0,.slice none 0 0,.int .i64 0] [_,_,_,_,_] zeroValue153 runUnderlying49 sizeOf153 (fun Ae=>?_);refine ju 0 46 5 1 ?_;exact Md):p:=h
theorem KM(h:p:=by
  refine eJ ?_;refine bg [3] ?_;refine af [52] ?_;refine au ?_ ?_<;>intro fx gG
  ·exact Mf
  exact Mf):p:=h
theorem FU(h:p:=by
  refine af [4,5,6] ?_;refine CD.wk (Wk.tw (t:=4) (sz:=1) lk) ?_;refine CD.wk (Wk.tw (t:=5) (sz:=1) lk) ?_;exact ow):p:=h
theorem z124(h:p:=by
  refine dN 3 ?_;refine OD.kr (f:=134) (args:=[_,_]) (all:=[_,_]) (Sf:=[]) ap rfl rfl ot call134 (yV a b) rfl ⟨ot,ot,trivial⟩ (eT _) ?_;rintro _ _ ⟨rfl,rfl⟩;refine aE 1 ?_;refine bX 57 (fun tT Bo=>?_) (fun tT Bo=>?_)
  ·refine an 76 [11,12] ?_;refine af [12,74] ?_;refine fT ?_;exact z22
  exact z21):p:=h
theorem KN(h:p:=by
  refine af [2] ?_;refine aJ [] ?_;exact vD):p:=h
theorem FV(h:p:=by
  refine af [2] ?_;refine eR ?_;exact vD):p:=h
theorem z127(h:p:=by
  refine mh 7 rfl ?_;refine mh 8 rfl ?_;refine mh 9 rfl ?_;refine di.later rfl ?_;refine AD.one (i:=10) aA ?_;refine bj.skip rfl (mw rfl rfl rfl lk js) rfl ?_;refine cy 11 rfl vc ?_;refine cy 12 rfl bf ?_;exact V1):p:=h
theorem FW(h:p:=by
  skip;refine bg [1,2,39] ?_;refine eM ?_;refine af [4] ?_;refine eR ?_;exact Gx):p:=h
theorem U1(h:p:=by
  have bZ:(dR (lZ key) (bq.take 2))<0∨(dR gS (bq.take 2))<0:=(by first|omega|(simp_all;omega)|simp_all)
  have mG:nc key bq nt (lo,hi)=(lo,hi):=(by unfold nc;rw[uR vf,if_neg so,if_pos bZ])
  rw[mG] at aV;exact Wh):p:=h
theorem z130(h:p:=by
  refine af [2] ?_;refine eR ?_;exact Wg):p:=h
theorem z131(h:p:=by
  refine aD 1 ?_;refine aP 0 [_,_] sizeOf36 ?_;refine aE 1 ?_;first|refine OD.cells (k:=0) (cs':=[.list 1 [] 0,_]) rfl ⟨eV,cY,trivial⟩ rfl ?_|skip
  refine an 87 [4,5] ?_;exact GC):p:=h
theorem U2(h:p:=by
  refine bY ?_;refine OD.alloc (ds:=[_,_,_]) ap rfl rfl zeroValue137 rfl (fun b2=>?_);refine an 5 [0,2] ?_;refine aD 2 ?_;refine aP 0 [_,_,_] sizeOf137 ?_;refine an 5 [2] ?_;exact z51):p:=h
theorem U3(h:p:=by
  refine af [52] ?_;refine au ?_ ?_<;>intro fx gG
  ·refine af [2] ?_;refine aJ [] ?_;exact Mg
  refine af [2] ?_;refine aJ [] ?_;exact Mg):p:=h
theorem U4(h:p:=by
  refine VC.body func51 rfl ntmps51 aS fun X0 w0 aZ=>?_;refine af [0,1] ?_;refine aD 2 ?_;refine bH (Yc rfl ot ot func96 aA aA aA aA) ?_;refine an 8 [4] ?_;exact z51):p:=h
theorem U5(h:p:=by
  have hf:ni (l.take i) l[i]=2:=(by unfold ni;rw[if_neg gL,if_pos w4])
  have aV:fI l=2:=(by rw[hinv,Ij aa (by rw[hf];decide),hf])
  exact xF):p:=h
theorem BM(h:p:=by
  refine af [2] ?_;refine aJ [] ?_;exact Wg):p:=h
theorem U6(h:p:=by
  have ff:pB a b=true:=Il (by rw[take_of_length_le w4,take_of_length_le w4] at GH;exact GH);refine af [4] ?_;exact Cx):p:=h
theorem z138(h:p:=by
  refine OD.perm (ee (A:=[])) ?_;refine an 8 [2] ?_;refine CD.ij (t:=2) (Sq:=S7) lk pR (cn pz _) (dD (A:=[])) ?_;exact z51):p:=h
theorem z139(h:p:=by
  skip;refine bg [1,14] ?_;refine au ?_ ?_<;>intro bZ cM
  ·refine af [2] ?_;exact z24
  exact z20):p:=h
theorem wT(h:p:=by
  refine af [4,5] ?_;exact GC):p:=h
theorem z141(h:p:=by
  refine aP 0 [_,_,_] sizeOf41 ?_;refine an 42 [8,9] ?_;exact z59):p:=h
theorem U7(h:p:=by
  skip;refine aE 5 ?_;refine bX 17 (fun wU wG=>?_) (fun wU wG=>?_)
  ·exact z53
  exact z53):p:=h
theorem z143(h:p:=by
  skip;have ff:pB a b=false:=IV fun e=>by rw[e] at aN;simp at aN
  refine af [4] ?_;exact xH):p:=h
theorem U8(h:p:=by
  skip;refine bg [1,2,71] ?_;refine eM ?_;refine af [4] ?_;refine eR ?_;exact Gx):p:=h
theorem z145(h:p:=by
  refine AD.two (i:=4) (j:=7) aA ?_ ?_
  ·refine jt (cf 0 [_,_]) [.string ⟨#[]⟩,.string ⟨#[]⟩] [_,_] zeroValue9 runUnderlying29 sizeOf9 (fun b8=>?_);refine ju 0 8 1 2 ?_;exact FR
  refine jG call21 (FT) ?_;refine AD.one (i:=4) aA ?_;refine jt (cf 0 [_,_]) [.string ⟨#[]⟩,.string ⟨#[]⟩] [_,_] zeroValue9 runUnderlying29 sizeOf9 (fun b8=>?_);refine ju 0 8 1 2 ?_;exact z117):p:=h
theorem z146(h:p:=by
  refine AD.two (i:=7) (j:=11) aA ?_ ?_
  ·refine jG call21 (FT) ?_;exact UX
  refine bj.alloc (ds:=[_,_,_,_,_,_,_,_,_,_,_,_]) rfl ap rfl rfl zeroValue32 rfl (fun b3=>?_);exact FR):p:=h
theorem U9(h:p:=by
  refine AD.one (i:=15) aA ?_;refine bj.gZ rfl iu rfl rfl rfl call139 (Ru t.s 140 wH call140 P0 hs) ⟨ot,s7,trivial⟩ ?_;refine cy 19 rfl mP ?_;refine cy 20 rfl wV ?_;exact KM):p:=h
theorem z148(h:p:=by
  have qp:fj h l[i]=6:=(by unfold fj zeroV;rw[if_neg dO,if_neg ud,if_pos (by simp_all)])
  exact KN):p:=h

end Go.Proofs.YtdgichenhdikgaaGreatDoor
namespace Go.Proofs.YtdgichenhdikgaaGreatDoor.V
open List
open Go.RowKit
variable {L X:Nat→Prop} {w':World} {b i k n off o' cap sz j m h' tt bytes:Nat} {I:Array Field} {v u:Value} {e t:TypeId} {y fo:Operand} {a:Act} {cur:Array Value} {lo hi:Option Operand} {ts:Array TypeId} {ad:Option Addr} {ps:Array (Nat×Operand)} {cZ:Array Operand}
inductive D where
 | v (x:Value)
 | list (sz:Nat) (cs:List D) (len:Nat)
 | fE (cs:List D) (off:Nat)
 | agg (cs:List D)
 | dF (cs:List D)
 | eB (f:Fn) (cs:List D)
 | j7 (l:Nat) (os:List (Nat×Obj))
 | bW
 deriving Inhabited
variable {ds cs':List D} {l:List (Nat×D)}
inductive cq (w:World) (L:Nat→Prop):D→Value→Prop
 | v (x:Value):cq w L (.v x) x
 | mb (sz:Nat) (ad:Option Addr) (cap:Nat):cq w L (.list sz [] 0) (.slice ad 0 cap)
 | list (sz:Nat) (cs:List D) (len b o cap:Nat) (f:Nat→Value) (hl:cs.length=len*sz) (h1:len≤cap) (h2:cap≤maxLen) (hb:b<w.heap.size) (hL:¬L b)
   (hc:∀i,i<cs.length→w.cell? ⟨b,o+i,none⟩=some (f i)) (hr:∀i (h:i<cs.length),cq w L cs[i] (f i)):cq w L (.list sz cs len) (.slice (some ⟨b,o,none⟩) len cap)
 | fE (cs:List D) (off b o:Nat) (f:Nat→Value) (hb:b<w.heap.size) (hL:¬L b)
   (hc:∀i,i<cs.length→w.cell? ⟨b,o+i,none⟩=some (f i)) (hr:∀i (h:i<cs.length),cq w L cs[i] (f i)):cq w L (.fE cs off) (.pointer (some ⟨b,o+off,none⟩))
 | agg (cs:List D) (vs:List Value) (hl:vs.length=cs.length) (hr:∀i (h:i<cs.length) (h':i<vs.length),cq w L cs[i] vs[i]):cq w L (.agg cs) (.agg vs.toArray)
 | dF (cs:List D) (vs:List Value) (hl:vs.length=cs.length) (hr:∀i (h:i<cs.length) (h':i<vs.length),cq w L cs[i] vs[i]):cq w L (.dF cs) (.tuple vs.toArray)
 | eB (fn:Fn) (cs:List D) (vs:List Value) (hl:vs.length=cs.length) (hr:∀i (h:i<cs.length) (h':i<vs.length),cq w L cs[i] vs[i]):cq w L (.eB fn cs) (.func fn #[] vs.toArray)
 | j7 (l:Nat) (os:List (Nat×Obj)) (h:∀z∈os,z.1<w.heap.size∧¬L z.1∧w.heap[z.1]?=some z.2):cq w L (.j7 l os) (.func (.yield l) #[] #[])
 | bW (x:Value):cq w L .bW x
theorem cq.nil{w:World}(sz:Nat):cq w L (.list sz [] 0) (.slice none 0 0):=.mb sz none 0
theorem qK{w:World}(hb:b<w.heap.size)(h:w'.heap[b]?=w.heap[b]?):b<w'.heap.size:=by
 rcases Nat.lt_or_ge b w'.heap.size with h'|h'
 ·exact h'
 rw[Array.getElem?_eq_none h',Array.getElem?_eq_getElem hb] at h;cases h
theorem cq.mono{w:World}{I:Nat→Prop}{d:D}(h:cq w L d v)(H:∀b,b<w.heap.size→¬L b→w'.heap[b]?=w.heap[b]?∧¬I b):cq w' I d v:=by
 induction h with
 | v x=>exact .v x
 | mb sz ad cap=>exact .mb sz ad cap
 | list sz cs len b o cap f hl h1 h2 hb hL hc hr ih =>
  have E:=H b hb hL;exact .list sz cs len b o cap f hl h1 h2 (qK hb E.1) E.2 (fun i hi=>(World.cell?_of_block (w:=w) (a:=⟨b,o+i,none⟩) E.1).trans (hc i hi)) ih
 | fE cs off b o f hb hL hc hr ih =>
  have E:=H b hb hL;exact .fE cs off b o f (qK hb E.1) E.2 (fun i hi=>(World.cell?_of_block (w:=w) (a:=⟨b,o+i,none⟩) E.1).trans (hc i hi)) ih
 | agg cs vs hl hr ih=>exact .agg cs vs hl ih
 | dF cs vs hl hr ih=>exact .dF cs vs hl ih
 | eB fn cs vs hl hr ih=>exact .eB fn cs vs hl ih
 | j7 l os h =>
  refine .j7 l os fun z hz=>?_;obtain⟨h1,h2,h3⟩:=h z hz;have E:=H z.1 h1 h2;exact⟨qK h1 E.1,E.2,E.1.trans h3⟩
 | bW x=>exact .bW x
structure ah where
 b:Nat
 e:TypeId
 size:Nat
 cs:List D
 deriving Inhabited
variable {S S' Sf R:List ah} {B:ah} {post:D→List ah→Prop}
def yL:TypeId:=1000003
def Rv:TypeId:=1000004
def isMap(e:TypeId):Bool:=Nat.beq e yL||Nat.beq e Rv
def Bp(cur:Array Value):Obj:=.map (cur.mapIdx fun i k=>⟨k,.agg #[],i⟩) cur.size
def Tz:Value→Nat
 | .int _ n=>n.toNat
 | _=>0
def Va:List Value→List MapEntry
 | k::v::b::r=>⟨k,v,Tz b⟩::Va r
 | _=>[]
def aeN(cur:Array Value):Obj:=match cur.toList with
 | c::r=>.map (Va r).toArray (Tz c)
 | []=>.map #[] 0
def ob(e:TypeId)(cur:Array Value):Obj:=bif isMap e then (bif Nat.beq e Rv then aeN cur else Bp cur) else .cells cur e (0,0)
theorem kg(he:isMap e=false)(cur:Array Value):ob e cur = .cells cur e (0,0):=by rw[ob,he];rfl
theorem TA(cur:Array Value):ob yL cur=Bp cur:=rfl
def J9(w:World)(L:Nat→Prop)(B:ah):Prop :=
 B.b<w.heap.size∧∃cur:Array Value,w.heap[B.b]?=some (ob B.e cur)∧cur.size=B.size∧B.cs.length≤B.size∧∀i (h:i<B.cs.length),∃u,cur[i]?=some u∧cq w L B.cs[i] u
def qO:Value→Bool
 | .tuple _=>false
 | _=>true
def nX(w:World)(b i:Nat):Value→Prop
 | .tuple vs=>∃t fz,w.heap[b]?=some (.cells vs t fz)
 | v=>w.cell? ⟨b,i,none⟩=some v
theorem nX.cell{w:World}(h:nX w b i v)(E:qO v=true):w.cell? ⟨b,i,none⟩=some v:=by
 cases v<;>first|exact h|cases E
theorem nX.of{w:World}(h:w.cell? ⟨b,i,none⟩=some v)(E:qO v=true):nX w b i v:=by
 cases v<;>first|exact h|cases E
theorem nX.on{w:World}(hb:w'.heap[b]?=w.heap[b]?)(h:nX w b i v):nX w' b i v:=by
 by_cases E:qO v=true
 ·exact .of ((World.cell?_of_block (w:=w) (a:=⟨b,i,none⟩) hb).trans (h.cell E)) E
 cases v<;>first|exact absurd rfl E|(obtain⟨t,fz,h⟩:=h;exact⟨t,fz,hb.trans h⟩)
theorem nX.lt{w:World}(h:nX w b i v):b<w.heap.size:=by
 by_cases E:qO v=true
 ·exact World.block_lt_of_cell? w _ (h.cell E)
 cases v<;>first|exact absurd rfl E|(obtain⟨t,fz,h⟩:=h;exact(Array.getElem?_eq_some_iff.1 h).1)
theorem P1{vs:List Value}(h:vs.all qO=true)(hi:vs[i]?=some v):qO v=true:=all_eq_true.1 h v (mem_of_getElem? hi)
structure dL where
 X:Nat→Prop
 w0:World
 S0:List Nat
 G:List (Nat×List Value)
 df:List Deferred
 Cz:Act→World→Prop
variable {C:dL}
structure St where
 n:Nat
 env:List (Nat×D)
 S:List ah
def look(t:Nat):List (Nat×D)→D
 | []=>.bW
 | (i,d)::r=>bif Nat.beq i t then d else look t r
theorem fW(t i:Nat)(d:D)(l:List (Nat×D)):look t ((i,d)::l)=if i=t then d else look t l:=by
 rw[look];by_cases e:i=t
 ·subst e;simp
 have:Nat.beq i t=false:=by
  cases h:Nat.beq i t with
  | false=>rfl
  | true=>exact absurd (Nat.eq_of_beq_eq_true h) e
 rw[this,if_neg e];rfl
def aq(S:List ah):List Nat:=S.map (·.b)
def live(X:Nat→Prop)(S:List ah)(b:Nat):Prop:=X b∨b∈aq S
structure Fr (w:World) (S:List Nat) (w':World) (S':List Nat):Prop where
 os:w'.os=w.os
 tape:w'.tape=w.tape
 output:w'.output=w.output
 size:w.heap.size≤w'.heap.size
 block:∀b,b<w.heap.size→b∉S→w'.heap[b]?=w.heap[b]?∧b∉S'
theorem Fr.refl(w:World)(S:List Nat):Fr w S w S:=⟨rfl,rfl,rfl,Nat.le_refl _,fun _ _ h=>⟨rfl,h⟩⟩
theorem Fr.trans{w1 E I:World}{S1 S2 S3:List Nat}(h:Fr w1 S1 E S2)(k:Fr E S2 I S3):Fr w1 S1 I S3 :=
 ⟨k.os.trans h.os,k.tape.trans h.tape,k.output.trans h.output,Nat.le_trans h.size k.size,fun b hb hn =>
  have h1:=h.block b hb hn;have h2:=k.block b (Nat.lt_of_lt_of_le hb h.size) h1.2
  ⟨h2.1.trans h1.1,h2.2⟩⟩
structure Own (w:World) (L:Nat→Prop) (S:List ah):Prop where
 at_:∀B∈S,J9 w L B
 apart:(aq S).Nodup
structure bE (C:dL) (x:St) (a:Act) (w:World):Prop where
 defers:a.defers=C.df
 size:a.tmps.size=x.n
 env:∀t,t<x.n→cq w (live C.X x.S) (look t x.env) (a.tmps.getD t undef)
 own:Own w (live C.X x.S) x.S
 fr:Fr C.w0 C.S0 w (aq x.S)
 ex:∀b,C.X b→b<C.w0.heap.size∧b∉C.S0
 eS:∀g∈C.G,(g.1<C.w0.heap.size∧g.1∉C.S0∧¬C.X g.1)∧∀i v,g.2[i]?=some v→nX C.w0 g.1 i v
def St.put(x:St)(t:Nat)(d:D):St:=⟨x.n,(t,d)::x.env,x.S⟩
theorem bE.put{C:dL}{x:St}{a:Act}{w:World}(h:bE C x a w){t:Nat}{d:D}{v:Value}(hd:cq w (live C.X x.S) d v):bE C (x.put t d) (a.put (some t) v) w:=by
 refine⟨h.defers,by simp[Act.put,St.put,h.size],fun i hi=>?_,h.own,h.fr,h.ex,h.eS⟩;have hs:=h.size;simp only[St.put,fW,Act.put] at hi ⊢;by_cases e:t=i
 ·subst e;rw[if_pos rfl];have:(a.tmps.setIfInBounds t v).getD t undef=v:=by
   simp[Array.getElem?_setIfInBounds,hs,hi]
  rw[this];exact hd
 rw[if_neg e];have:(a.tmps.setIfInBounds t v).getD i undef=a.tmps.getD i undef:=by
  simp[Array.getElem?_setIfInBounds_ne e]
 rw[this];exact h.env i hi
def Wk(x y:St):Prop:=∀C a w,bE C x a w→bE C y a w
theorem Wk.refl(x:St):Wk x x:=fun _ _ _ h=>h
theorem Wk.trans{x y z:St}(h:Wk x y)(k:Wk y z):Wk x z:=fun C a w s=>k C a w (h C a w s)
theorem Own.sub{w:World}(h:Own w (live X S) S)(hs:S'.Sublist S):Own w (live X S') S' :=
 have E:(aq S').Sublist (aq S):=Sublist.map _ hs
 ⟨fun B I=>by
  obtain⟨h0,cur,h1,h2,h3,h4⟩:=h.at_ B (hs.subset I);refine⟨h0,cur,h1,h2,h3,fun i hi=>?_⟩;obtain⟨u,hu,hr⟩:=h4 i hi;exact⟨u,hu,hr.mono fun b _ hn=>⟨rfl,fun hl=>hn (hl.imp id fun q=>E.subset q)⟩⟩,h.apart.sublist E⟩
theorem Wk.drop(n:Nat)(l:List (Nat×D))(S S':List ah)(hs:S'.Sublist S):Wk ⟨n,l,S⟩ ⟨n,l,S'⟩:=fun C a w h =>
 have E:(aq S').Sublist (aq S):=Sublist.map _ hs
 ⟨h.defers,h.size,fun t ht=>(h.env t ht).mono fun b _ hn=>⟨rfl,fun hl=>hn (hl.imp id fun q=>E.subset q)⟩,h.own.sub hs,
  ⟨h.fr.os,h.fr.tape,h.fr.output,h.fr.size,fun b hb hn=>⟨(h.fr.block b hb hn).1,fun q=>(h.fr.block b hb hn).2 (E.subset q)⟩⟩,h.ex,h.eS⟩
theorem cq.kP{w:World}{x y:Value}(h:cq w L (.v x) y):y=x:=by cases h;rfl
def aG(x:St):Operand→D
 | .tmp t=>bif Nat.blt t x.n then look t x.env else .bW
 | .const v=>.v v
 | .global g=>.v (.pointer (some ⟨g,0,none⟩))
 | .func f=>.eB (.func f) []
theorem bE.eval{C:dL}{x:St}{a:Act}{w:World}(h:bE C x a w)(o:Operand):cq w (live C.X x.S) (aG x o) (a.eval o):=by
 cases o with
 | tmp t =>
  simp only[aG,Act.eval];cases ht:Nat.blt t x.n with
  | true=>exact h.env t (Nat.le_of_ble_eq_true ht)
  | false=>exact .bW _
 | const v=>exact .v _
 | global g=>exact .v _
 | func f=>exact .eB (.func f) [] [] rfl (fun i h=>by simp at h)
theorem bE.flat{x:St}{w:World}(h:bE C x a w){o:Operand}(ho:aG x o = .v u):a.eval o=u:=by
 have:=h.eval o;rw[ho] at this;exact this.kP
theorem bE.fC{x:St}{w:World}(h:bE C x a w)(hk:x.S[k]?=some B):J9 w (live C.X x.S) B:=h.own.at_ B (mem_of_getElem? hk)
theorem P2(hk:S[k]?=some B):live X S B.b:=.inr (mem_map.2 ⟨B,mem_of_getElem? hk,rfl⟩)
theorem bE.aM{x:St}{w:World}(h:bE C x a w){g:Nat×List Value}(hg:g∈C.G)(hi:g.2[i]?=some v):nX w g.1 i v:=by
 obtain⟨⟨h1,h2,h3⟩,h4⟩:=h.eS g hg;exact(h4 i v hi).on (h.fr.block g.1 h1 h2).1

inductive Rd where
 | none
 | fC (k:Nat)
 | jU
def Same(C:dL)(x:St)(w w':World):Rd→Prop
 | .none=>True
 | .fC k=>∀B,x.S[k]?=some B→w'.heap[B.b]?=w.heap[B.b]?
 | .jU=>∀b,b<w.heap.size→¬live C.X x.S b→w'.heap[b]?=w.heap[b]?
theorem Same.self(C:dL)(x:St)(w:World):∀k,Same C x w w k
 | .none=>trivial
 | .fC _=>fun _ _=>rfl
 | .jU=>fun _ _ _=>rfl
def bV(P:Program)(G:List (Nat×List Value))(x:St)(o:Oper)(k:Rd)(d:D):Prop :=
 ∀C a w,C.G=G→bE C x a w→∃v,cq w (live C.X x.S) d v∧∀w',Same C x w w' k→(execOp a.eval o).run P w' = .ok (.value v) w'
variable {P:Program} {G:List (Nat×List Value)} {x:St} {o:Oper}
theorem YX(ho:o.op = .move y):bV P G x o .none (aG x y):=fun C a w _ h =>
 ⟨a.eval y,h.eval y,fun w' _=>by unfold execOp;simp[ho]⟩
theorem Ym(ho:o.op = .assign y):bV P G x o .none (aG x y):=fun C a w _ h =>
 ⟨a.eval y,h.eval y,fun w' _=>by unfold execOp;simp[ho]⟩
theorem Of{c z:Operand}{t:Bool}(ho:o.op = .pick c y z)(hc:aG x c = .v (.bool t)):bV P G x o .none (if t then aG x y else aG x z):=fun C a w _ h=>by
 refine⟨if t then a.eval y else a.eval z,by cases t<;>simp[h.eval],fun w' _=>?_⟩;unfold execOp;simp only[ho,h.flat hc,asBool];cases t<;>simp
def kL(P:Program)(op:BinOp)(t:TypeId)(u u' r:Value):Prop:=∀(y z:Operand) w,(do eqGuard op t y z u u';Go.binOp op t u u':Sem Value).run P w = .ok r w
theorem c8{op:BinOp}{t':TypeId}{z:Operand}{u' r:Value}(ho:o.op = .binOp op t y z t')(hy:aG x y = .v u)(hz:aG x z = .v u')(hb:kL P op t u u' r):bV P G x o .none (.v r):=fun C a w _ h =>
 ⟨r,.v _,fun w' _=>by
  unfold execOp;have:=hb y z w';simp only[Sem.run_bind] at this;simp only[ho,h.flat hy,h.flat hz,Sem.run_bind,this,Result.andThen_ok,Sem.run_pure]⟩
theorem Et{op:UnOp}{r:Value}(ho:o.op = .unOp op t y)(hy:aG x y = .v u)(hb:∀w,(Op.unary op u).run P w = .ok r w):bV P G x o .none (.v r):=fun C a w _ h =>
 ⟨r,.v _,fun w' _=>by
  unfold execOp;simp only[ho,h.flat hy,Sem.run_bind,hb w',Result.andThen_ok,Sem.run_pure]⟩
theorem oF{s:TypeId}{r:Value}(ho:o.op = .convert s t y)(hy:aG x y = .v u)(hb:∀w,(Go.convert s t u).run P w = .ok r w):bV P G x o .none (.v r):=fun C a w _ h =>
 ⟨r,.v _,fun w' _=>by
  unfold execOp;simp only[ho,h.flat hy,Sem.run_bind,hb w',Result.andThen_ok,Sem.run_pure]⟩
theorem NV{s:TypeId}{f:Field}{w:World}(O:∀w,(underlying s).run P w = .ok (.struct I) w)(hf:I[i]?=some f)(hn:∀w,(sizeOf f.type).run P w = .ok (n+1) w)(E:f.offset=off) :
  (Instr.fieldAt s (.pointer (some ⟨b,o',none⟩)) i).run P w = .ok (.pointer (some ⟨b,o'+off,none⟩)) w:=by
 subst E;simp[Instr.fieldAt,O,hf,Instr.sureAddr,fieldPlace,hn,Addr.add_mid]
theorem YA {s:TypeId} {f:Field} (ho:o.op = .fieldAddr s y i) (hy:aG x y = .v (.pointer (some ⟨b,o',none⟩)))
  (O:∀w,(underlying s).run P w = .ok (.struct I) w) (hf:I[i]?=some f) (hn:∀w,(sizeOf f.type).run P w = .ok (n+1) w) (E:f.offset=off):bV P G x o .none (.v (.pointer (some ⟨b,o'+off,none⟩))):=fun C a w _ h =>
 ⟨_,.v _,fun w' _=>by
  unfold execOp;simp only[ho,h.flat hy,Sem.run_bind,NV O hf hn E,Result.andThen_ok,Sem.run_pure]⟩
theorem Yn {s:TypeId} {cs:List D} {f:Field} {O:Array Field} (ho:o.op = .fieldAddr s y i) (hy:aG x y = .fE cs o')
  (U:∀w,(underlying s).run P w = .ok (.struct O) w) (hf:O[i]?=some f) (hn:∀w,(sizeOf f.type).run P w = .ok (n+1) w) (E:f.offset=off):bV P G x o .none (.fE cs (o'+off)):=fun C a w _ h=>by
 have hr:=h.eval y;rw[hy] at hr;generalize hg:a.eval y=u at hr;cases hr with
 | fE _ _ b I g hb hL hc hr =>
  refine⟨_,.fE cs (o'+off) b I g hb hL hc hr,fun w' _=>?_⟩;unfold execOp;simp only[ho,hg,Sem.run_bind,NV U hf hn E,Result.andThen_ok,Sem.run_pure,Nat.add_assoc]
theorem Yd{cs:List D}{d:D}(ho:o.op = .extract y i)(hy:aG x y = .dF cs)(hd:cs[i]?=some d):bV P G x o .none d:=fun C a w _ h=>by
 have hr:=h.eval y;rw[hy] at hr;generalize hg:a.eval y=u at hr;cases hr with
 | dF _ vs hl hr =>
  obtain⟨aa,he⟩:=List.getElem?_eq_some_iff.1 hd;refine⟨vs[i]'w4,?_,fun w' _=>?_⟩
  ·rw[←he];exact hr _ aa w4
  unfold execOp;simp[ho,hg,Instr.extract,getElem?_eq_getElem (show i<vs.length by omega)]
theorem HI{w:World}(ha:∀w,(isAgg t).run P w = .ok false w)(hc:w.cell? ⟨b,o',none⟩=some v) :
  (Instr.loadAt t (.pointer (some ⟨b,o',none⟩))).run P w = .ok v w:=by
 simp[Instr.loadAt,Instr.sureAddr,loadVar,ha,hc]
theorem HJ {vs:List Value} {w:World} (ha:∀w,(isAgg t).run P w = .ok true w) (hn:∀w,(sizeOf t).run P w = .ok n w) (hl:vs.length=n)
  (hc:∀j (h:j<vs.length),w.cell? ⟨b,o'+j,none⟩=some vs[j]) :
  (Instr.loadAt t (.pointer (some ⟨b,o',none⟩))).run P w = .ok (.agg vs.toArray) w:=by
 have:=run_loadCells_list (P:=P) w ⟨b,o',none⟩ vs (fun j v E=>by
  obtain⟨h1,h2⟩:=List.getElem?_eq_some_iff.1 E;rw[Addr.add_mid,hc j h1,h2])
 rw[hl] at this;simp[Instr.loadAt,Instr.sureAddr,loadVar,ha,hn,this]
theorem nV{w:World}(E:w.heap[b]?=some (.cells cur e (0,0)))(I:cur[i]?=some u):w.cell? ⟨b,i,none⟩=some u:=by
 unfold World.cell?;simp[E,I]
theorem DX {d:D} (ho:o.op = .load t y) (hy:aG x y = .v (.pointer (some ⟨b,o',none⟩)))
  (hk:x.S[k]?=some B) (hb:B.b=b) (ha:∀w,(isAgg t).run P w = .ok false w) (hd:B.cs[o']?=some d) (hne:isMap B.e=false:=by rfl):bV P G x o (.fC k) d:=fun C a w _ h=>by
 obtain⟨_,cur,h1,h2,h3,h4⟩:=h.fC hk;rw[kg hne] at h1;obtain⟨aa,he⟩:=List.getElem?_eq_some_iff.1 hd;obtain⟨u,hu,hr⟩:=h4 o' aa;refine⟨u,by rw[←he];exact hr,fun w' hw=>?_⟩;have E:w'.heap[B.b]?=_:=(hw B hk).trans h1;unfold execOp;subst hb;simp only[ho,h.flat hy,Sem.run_bind,HI ha (nV E hu),Result.andThen_ok,Sem.run_pure]
theorem Ay (ho:o.op = .load t y) (hy:aG x y = .v (.pointer (some ⟨b,o',none⟩)))
  (hk:x.S[k]?=some B) (hb:B.b=b) (ha:∀w,(isAgg t).run P w = .ok true w) (hn:∀w,(sizeOf t).run P w = .ok n w) (hl:ds.length=n) (hd:(B.cs.drop o').take n=ds) (hne:isMap B.e=false:=by rfl):bV P G x o (.fC k) (.agg ds):=fun C a w _ h=>by
 obtain⟨_,cur,h1,h2,h3,h4⟩:=h.fC hk;rw[kg hne] at h1;have hlen:o'+n≤B.cs.length∨n=0:=by
  have:=congrArg length hd;simp only[length_take,length_drop] at this;omega
 have E:∀j,j<n→∃u,cur[o'+j]?=some u∧∀(h:j<ds.length),cq w (live C.X x.S) ds[j] u:=fun j hj=>by
  obtain⟨u,hu,hr⟩:=h4 (o'+j) w4;refine⟨u,hu,fun h=>?_⟩;subst hd;simpa using hr
 refine⟨.agg ((range n).map fun j=>cur.getD (o'+j) undef).toArray,.agg _ _ (by simp[hl]) (fun i q1 q2=>?_),fun w' hw=>?_⟩
 ·obtain⟨u,hu,hr⟩:=E i w4;simp only[getElem_map,getElem_range,Array.getD_eq_getD_getElem?,hu,Option.getD_some];exact hr q1
 have I:w'.heap[B.b]?=_:=(hw B hk).trans h1;unfold execOp;subst hb;have:=HJ (P:=P) (w:=w') (b:=B.b) (o':=o') (vs:=(range n).map fun j=>cur.getD (o'+j) undef) ha hn bu (fun j hj=>by
  simp only[length_map,length_range] at hj;obtain⟨u,hu,_⟩:=E j hj;simp only[getElem_map,getElem_range,Array.getD_eq_getD_getElem?,hu,Option.getD_some];exact nV I hu)
 simp only[ho,h.flat hy,Sem.run_bind,this,Result.andThen_ok,Sem.run_pure]
theorem DV {cs:List D} {d:D} (ho:o.op = .load t y) (hy:aG x y = .fE cs o')
  (ha:∀w,(isAgg t).run P w = .ok false w) (hd:cs[o']?=some d):bV P G x o .jU d:=fun C a w _ h=>by
 have hr:=h.eval y;rw[hy] at hr;generalize hg:a.eval y=u at hr;cases hr with
 | fE _ _ b E g hb hL hc hr =>
  obtain⟨aa,he⟩:=List.getElem?_eq_some_iff.1 hd;refine⟨g o',by rw[←he];exact hr o' aa,fun w' hw=>?_⟩;have I:=World.cell?_of_block (w:=w) (a:=⟨b,E+o',none⟩) (hw b hb hL);unfold execOp;simp only[ho,hg,Sem.run_bind,HI ha (I.trans (hc o' aa)),Result.andThen_ok,Sem.run_pure]
theorem Hl {cs:List D} (ho:o.op = .load t y) (hy:aG x y = .fE cs o')
  (ha:∀w,(isAgg t).run P w = .ok true w) (hn:∀w,(sizeOf t).run P w = .ok n w) (hl:ds.length=n) (hd:(cs.drop o').take n=ds):bV P G x o .jU (.agg ds):=fun C a w _ h=>by
 have hr:=h.eval y;rw[hy] at hr;generalize hg:a.eval y=u at hr;cases hr with
 | fE _ _ b E g hb hL hc hr =>
  have hlen:o'+n≤cs.length∨n=0:=by
   have:=congrArg length hd;simp only[length_take,length_drop] at this;omega
  refine⟨.agg ((range n).map fun j=>g (o'+j)).toArray,.agg _ _ (by simp[hl]) (fun i q1 q2=>?_),fun w' hw=>?_⟩
  ·simp only[getElem_map,getElem_range];have:=hr (o'+i) w4;subst hd;simpa using this
  have:=HJ (P:=P) (w:=w') (b:=b) (o':=E+o') (vs:=(range n).map fun j=>g (o'+j)) ha hn bu (fun j hj=>by
   simp only[length_map,length_range] at hj;simp only[getElem_map,getElem_range];have I:=World.cell?_of_block (w:=w) (a:=⟨b,E+o'+j,none⟩) (hw b hb hL);rw[I,Nat.add_assoc];exact hc _ w4)
  unfold execOp;simp only[ho,hg,Sem.run_bind,this,Result.andThen_ok,Sem.run_pure]
theorem YB {vs:List Value} (ho:o.op = .load t y) (hy:aG x y = .v (.pointer (some ⟨b,o',none⟩)))
  (hg:(b,vs)∈G) (ha:∀w,(isAgg t).run P w = .ok false w) (hd:vs[o']?=some v) (qA:qO v=true:=by rfl):bV P G x o .jU (.v v):=fun C a w hG h=>by
 subst hG;refine⟨v,.v _,fun w' hw=>?_⟩;have h1:=(h.aM hg hd).cell qA;obtain⟨⟨q1,q2,E⟩,_⟩:=h.eS _ hg;have hb:b<w.heap.size:=Nat.lt_of_lt_of_le q1 h.fr.size;have hn:¬live C.X x.S b:=fun hl=>hl.elim E (h.fr.block b q1 q2).2;have I:=World.cell?_of_block (w:=w) (a:=⟨b,o',none⟩) (hw b hb hn);unfold execOp;simp only[ho,h.flat hy,Sem.run_bind,HI ha (I.trans h1),Result.andThen_ok,Sem.run_pure]

theorem Rw{len:Nat}{k:IntKind}{i:Int}{w:World}(E:∀w,(underlying t).run P w = .ok (.slice e) w)(hs:∀w,(sizeOf e).run P w = .ok sz w)(hi:i=j)(hj:j<len) :
  (Instr.indexAt t (.slice (some ⟨b,o',none⟩) len cap) (.int k i)).run P w = .ok (.pointer (some ⟨b,o'+j*sz,none⟩)) w:=by
 subst hi;simp[Instr.indexAt,asIntOf,E,hs,hj,Addr.add_mid]
theorem OK {len:Nat} {cs:List D} {k:IntKind} {i:Int} {z:Operand} (ho:o.op = .indexAddr t y z) (hy:aG x y = .list sz cs len) (hz:aG x z = .v (.int k i))
  (I:∀w,(underlying t).run P w = .ok (.slice e) w) (hs:∀w,(sizeOf e).run P w = .ok sz w) (hi:i=j) (hj:j<len):bV P G x o .none (.fE cs (j*sz)):=fun C a w _ h=>by
 have hr:=h.eval y;rw[hy] at hr;generalize hg:a.eval y=u at hr;cases hr with
 | mb=>omega
 | list _ _ _ b E cap g hl h1 h2 hb hL hc hr =>
  refine⟨_,.fE cs (j*sz) b E g hb hL hc hr,fun w' _=>?_⟩;unfold execOp;simp only[ho,hg,h.flat hz,Sem.run_bind,Rw I hs hi hj,Result.andThen_ok,Sem.run_pure]
theorem Og {len:Nat} {k:IntKind} {i:Int} {z:Operand} (ho:o.op = .indexAddr t y z) (hy:aG x y = .v (.slice (some ⟨b,o',none⟩) len cap)) (hz:aG x z = .v (.int k i))
  (E:∀w,(underlying t).run P w = .ok (.slice e) w) (hs:∀w,(sizeOf e).run P w = .ok sz w) (hi:i=j) (hj:j<len):bV P G x o .none (.v (.pointer (some ⟨b,o'+j*sz,none⟩))):=fun C a w _ h =>
 ⟨_,.v _,fun w' _=>by
  unfold execOp;simp only[ho,h.flat hy,h.flat hz,Sem.run_bind,Rw E hs hi hj,Result.andThen_ok,Sem.run_pure]⟩
theorem abf{len:Nat}{k:IntKind}{i:Int}{w:World}(E:∀w,(underlying t).run P w = .ok (.array len e) w)(hs:∀w,(sizeOf e).run P w = .ok sz w)(hi:i=j)(hj:j<len) :
  (Instr.indexAt t (.pointer (some ⟨b,o',none⟩)) (.int k i)).run P w = .ok (.pointer (some ⟨b,o'+j*sz,none⟩)) w:=by
 subst hi;simp[Instr.indexAt,asIntOf,E,hs,hj,Addr.add_mid,Instr.sureAddr]
theorem YY {len:Nat} {k:IntKind} {i:Int} {z:Operand} (ho:o.op = .indexAddr t y z) (hy:aG x y = .v (.pointer (some ⟨b,o',none⟩))) (hz:aG x z = .v (.int k i))
  (E:∀w,(underlying t).run P w = .ok (.array len e) w) (hs:∀w,(sizeOf e).run P w = .ok sz w) (hi:i=j) (hj:j<len):bV P G x o .none (.v (.pointer (some ⟨b,o'+j*sz,none⟩))):=fun C a w _ h =>
 ⟨_,.v _,fun w' _=>by
  unfold execOp;simp only[ho,h.flat hy,h.flat hz,Sem.run_bind,abf E hs hi hj,Result.andThen_ok,Sem.run_pure]⟩
theorem Hx {s:ByteArray} {c:UInt8} {k:IntKind} {i:Int} {z:Operand} (ho:o.op = .index t y z) (hy:aG x y = .v (.string s)) (hz:aG x z = .v (.int k i))
  (E:∀w,(underlying t).run P w = .ok .string w) (hi:i=j) (hj:s[j]?=some c):bV P G x o .none (.v (.int .u8 c.toNat)):=fun C a w _ h =>
 ⟨_,.v _,fun w' _=>by
  subst hi;unfold execOp;simp[ho,h.flat hy,h.flat hz,Instr.index,asIntOf,E,hj]⟩
theorem YZ {len:Nat} {cs:List D} {d:D} {k:IntKind} {i:Int} {z:Operand} (ho:o.op = .index t y z) (hy:aG x y = .agg cs) (hz:aG x z = .v (.int k i))
  (E:∀w,(underlying t).run P w = .ok (.array len e) w) (hs:∀w,(sizeOf e).run P w = .ok sz w) (ha:∀w,(isAgg e).run P w = .ok false w) (hi:i=j) (hj:j<len) (hd:cs[j*sz]?=some d):bV P G x o .none d:=fun C a w _ h=>by
 have hr:=h.eval y;rw[hy] at hr;generalize hg:a.eval y=u at hr;subst hi;cases hr with
 | agg _ vs hl hr =>
  obtain⟨aa,he⟩:=List.getElem?_eq_some_iff.1 hd;refine⟨vs[j*sz]'w4,?_,fun w' _=>?_⟩
  ·rw[←he];exact hr _ aa w4
  unfold execOp;simp[ho,hg,h.flat hz,Instr.index,asIntOf,E,hj,part,ha,hs,getElem?_eq_getElem (show j*sz<vs.length by omega)]
def mC(x:St)(y:Option Operand)(n:Nat)(ahI:Nat):Prop :=
 match y with
 | some y=>∃(k:IntKind) (i:Int),aG x y = .v (.int k i)∧i=n
 | none=>n=ahI
theorem rP{w:World}(h:bE C x a w){y:Option Operand}{E:Nat}(hb:mC x y n E):(∃k,y.map a.eval=some (.int k n))∨(y.map a.eval=none∧n=E):=by
 cases y with
 | none=>exact .inr ⟨rfl,hb⟩
 | some y =>
  obtain⟨k,i,h1,h2⟩:=hb;exact .inl ⟨k,by rw[Option.map_some,h.flat h1,h2]⟩
theorem DY{k:IntKind}{code:BoundsCode}{w:World}(h:n≤m):(Instr.sliceBound (.int k n) m code).run P w = .ok n w:=by
 unfold Instr.sliceBound;simp[asIntOf,h]
theorem vR{il:Bool}{len l h:Nat}{lo hi:Option Value}{w:World}(eX:(∃k,lo=some (.int k l))∨(lo=none∧l=0))(eH:(∃k,hi=some (.int k h))∨(hi=none∧h=len))(h1:l≤h)(h2:h≤cap) :
  (Instr.sliceBounds il len cap lo hi none).run P w = .ok (l,h,cap) w:=by
 unfold Instr.sliceBounds;rcases eX with ⟨k,rfl⟩|⟨rfl,rfl⟩<;>rcases eH with ⟨k',rfl⟩|⟨rfl,rfl⟩<;>simp[DY,h1,h2]
theorem Hq {len l:Nat} {cs:List D} (ho:o.op = .slice t y lo hi none) (hy:aG x y = .list sz cs len) (eX:mC x lo l 0) (eH:mC x hi h' len)
  (U:∀w,(underlying t).run P w = .ok (.slice e) w) (hs:∀w,(sizeOf e).run P w = .ok sz w) (h1:l≤h') (h2:h'≤len):bV P G x o .none (.list sz ((cs.drop (l*sz)).take ((h'-l)*sz)) (h'-l)):=fun C a w _ h=>by
 have hr:=h.eval y;rw[hy] at hr;generalize hg:a.eval y=u at hr;have b1:=rP h eX;have b2:=rP h eH;cases hr with
 | mb _ ad cap =>
  have e1:l=0:=(by omega)
  have e2:h'=0:=(by omega)
  subst e1 e2;refine⟨.slice (if cap=0 then ad else ad.map (·.add (0*sz))) 0 cap,by simpa using cq.mb sz _ _,fun w' _=>?_⟩;unfold execOp;simp[ho,hg,Instr.sliceAt,Instr.slice,U,vR b1 b2 (Nat.le_refl _) (Nat.zero_le _),hs]
 | list _ _ _ b E cap g hl q1 q2 hb hL hc hr =>
  have hlen:((cs.drop (l*sz)).take ((h'-l)*sz)).length=(h'-l)*sz:=by
   rw[length_take,length_drop,hl,←Nat.sub_mul];exact Nat.min_eq_left (Nat.mul_le_mul_right _ w4)
  have O:∀i,i<(h'-l)*sz→l*sz+i<cs.length:=fun i hi=>by
   rw[hl];have:l*sz+(h'-l)*sz≤len*sz:=(by rw[←Nat.add_mul];exact Nat.mul_le_mul_right _ w4)
   omega
  by_cases I:cap=l
  ·have e2:h'=l:=(by omega)
   refine⟨.slice (some ⟨b,E,none⟩) (h'-l) (cap-l),?_,fun w' _=>?_⟩
   ·refine .list sz _ _ b E _ g hlen w4 w4 hb hL (fun i hi=>?_) (fun i hi=>?_)<;>(rw[hlen,e2] at hi;simp at hi)
   have b3:=fun w=>vR (P:=P) (il:=true) (w:=w) b1 b2 h1 (Nat.le_trans h2 q1);unfold execOp;simp only[ho,hg,Instr.sliceAt,Instr.slice,U,Sem.run_bind,Result.andThen_ok,Option.map_none,b3,hs,Sem.run_pure,if_pos I]
  refine⟨.slice (some ⟨b,E+l*sz,none⟩) (h'-l) (cap-l),?_,fun w' _=>?_⟩
  ·refine .list sz _ _ b (E+l*sz) _ (fun i=>g (l*sz+i)) hlen w4 w4 hb hL (fun i hi=>?_) (fun i hi=>?_)
   ·rw[Nat.add_assoc];exact hc _ (O i (by rw[hlen] at hi;exact hi))
   simp only[getElem_take,getElem_drop];exact hr _ _
  have b3:=fun w=>vR (P:=P) (il:=true) (w:=w) b1 b2 h1 (Nat.le_trans h2 q1);unfold execOp;simp only[ho,hg,Instr.sliceAt,Instr.slice,U,Sem.run_bind,Result.andThen_ok,Option.map_none,b3,hs,Sem.run_pure,if_neg I,Option.map_some,Addr.add_mid]
theorem N2 {len:Nat} (ho:o.op = .slice t y lo hi none) (hy:aG x y = .v (.slice (some ⟨b,o',none⟩) len cap)) (eX:mC x lo 0 0) (eH:mC x hi h' len)
  (E:∀w,(underlying t).run P w = .ok (.slice e) w) (hs:∀w,(sizeOf e).run P w = .ok sz w) (h2:h'≤cap):bV P G x o .none (.v (.slice (some ⟨b,o',none⟩) h' cap)):=fun C a w _ h =>
 ⟨_,.v _,fun w' _=>by
  have b1:=rP h eX;have b2:=rP h eH;unfold execOp;simp[ho,h.flat hy,Instr.sliceAt,Instr.slice,E,vR b1 b2 (Nat.zero_le _) h2,hs,Addr.add_mid]⟩
theorem Yo {s:ByteArray} {l:Nat} (ho:o.op = .slice t y lo hi none) (hy:aG x y = .v (.string s)) (eX:mC x lo l 0) (eH:mC x hi h' s.size)
  (E:∀w,(underlying t).run P w = .ok .string w) (h1:l≤h') (h2:h'≤s.size):bV P G x o .none (.v (.string (s.extract l h'))):=fun C a w _ h =>
 ⟨_,.v _,fun w' _=>by
  have b1:=rP h eX;have b2:=rP h eH;unfold execOp;simp[ho,h.flat hy,Instr.sliceAt,Instr.slice,E,vR b1 b2 h1 h2]⟩
theorem ZQ{len:Nat}{cs:List D}(ho:o.op = .call {callee:=.builtin .len,args:=#[y],argTypes:=ts})(ht:ts = #[t])(hy:aG x y = .list sz cs len)(E:∀w,(underlying t).run P w = .ok (.slice e) w):bV P G x o .none (.v (.int .i64 len)):=fun C a w _ h=>by
 have hr:=h.eval y;rw[hy] at hr;generalize hg:a.eval y=u at hr;subst ht;refine⟨_,.v _,fun w' _=>?_⟩;cases hr<;>(unfold execOp;simp[ho,hg,resolve,invoke,builtin,Builtin.len_,E,goInt])
theorem Oh{len:Nat}(ho:o.op = .call {callee:=.builtin .len,args:=#[y],argTypes:=ts})(ht:ts = #[t])(hy:aG x y = .v (.slice ad len cap))(E:∀w,(underlying t).run P w = .ok (.slice e) w):bV P G x o .none (.v (.int .i64 len)):=fun C a w _ h=>by
 subst ht;refine⟨_,.v _,fun w' _=>?_⟩;unfold execOp;simp[ho,h.flat hy,resolve,invoke,builtin,Builtin.len_,E,goInt]
theorem DZ {s:ByteArray} (ho:o.op = .call {callee:=.builtin .len,args:=#[y],argTypes:=ts}) (ht:ts = #[t]) (hy:aG x y = .v (.string s))
  (E:∀w,(underlying t).run P w = .ok .string w):bV P G x o .none (.v (.int .i64 s.size)):=fun C a w _ h=>by
 subst ht;refine⟨_,.v _,fun w' _=>?_⟩;unfold execOp;simp[ho,h.flat hy,resolve,invoke,builtin,Builtin.len_,E,goInt]
theorem Yp {b:Builtin} {u' r:Value} {z:Operand} (ho:o.op = .call {callee:=.builtin b,args:=#[y,z],argTypes:=ts}) (hy:aG x y = .v u) (hz:aG x z = .v u')
  (hb:∀cs w,(Go.builtin b ts o.type cs #[u,u']).run P w = .ok (.value r) w):bV P G x o .none (.v r):=fun C a w _ h =>
 ⟨_,.v _,fun w' _=>by
  unfold execOp;simp[ho,h.flat hy,h.flat hz,resolve,invoke,hb]⟩
theorem Y0{fn:Fn}{E:Array Operand}(ho:o.op = .makeFunc fn #[] E)(hd:E.toList.map (aG x)=ds):bV P G x o .none (.eB fn ds):=fun C a w _ h=>by
 subst hd;refine⟨.func fn #[] (E.toList.map a.eval).toArray,.eB _ _ _ bu (fun i q1 q2=>?_),fun w' _=>?_⟩
 ·simp only[getElem_map];exact h.eval _
 unfold execOp;simp[ho,Instr.makeFunc];rw[←Array.toList_map,Array.toArray_toList]
def lS(W:List Nat)(w w':World):Prop:=w.heap.size≤w'.heap.size∧∀b,b<w.heap.size→b∉W→w'.heap[b]?=w.heap[b]?
def fR(P:Program)(G:List (Nat×List Value))(x:St)(o:Oper)(W:List Nat)(post:St→Prop):Prop :=
 ∀(C:dL) (a:Act) (w:World) (K:Act→World→Prop) (Q:Exit→Act→World→Prop),C.G=G→bE C x a w→(∀y a' w',post y→bE C y a' w'→lS W w w'→Fr w (aq x.S) w' (aq y.S)→K a' w')→o.wp P a w K Q
theorem lS.refl(W:List Nat)(w:World):lS W w w:=⟨Nat.le_refl _,fun _ _ _=>rfl⟩
theorem bV.fY{k:Rd}{d:D}{t:Nat}(h:bV P G x o k d)(hd:o.dst=some t):fR P G x o [] (fun y=>y=x.put t d):=fun C a w K Q hG hs hK=>by
 obtain⟨v,hr,nH⟩:=h C a w hG hs;unfold Oper.wp;rw[nH w (Same.self C x w k),Oper.upon_value,hd];exact hK _ _ _ rfl (hs.put hr) (lS.refl _ _) (Fr.refl _ _)
def cellsOf:D→List D
 | .agg cs=>cs
 | .v (.agg cs)=>cs.toList.map .v
 | d=>[d]
def cN(w:World)(L:Nat→Prop)(ds:List D)(vs:List Value):Prop:=vs.length=ds.length∧∀i (h:i<ds.length) (h':i<vs.length),cq w L ds[i] vs[i]
theorem cN.mono{w w':World}{L E:Nat→Prop}{ds:List D}{vs:List Value}(h:cN w L ds vs)(H:∀b,b<w.heap.size→¬L b→w'.heap[b]?=w.heap[b]?∧¬E b):cN w' E ds vs :=
 ⟨h.1,fun i h1 h2=>(h.2 i h1 h2).mono H⟩
def one:D→Bool
 | .v x=>x.oneCell'
 | .list ..|.fE ..|.eB ..=>true
 | _=>false
theorem cq.AO{w:World}{d:D}(h:cq w L d v)(hd:one d=true):v.oneCell'=true:=by
 cases h<;>first|exact hd|rfl|exact absurd hd (by simp[one])
theorem cq.cells{w:World}{L:Nat→Prop}{d:D}{v:Value}(h:cq w L d v)(hd:d≠.bW):cN w L (cellsOf d) v.cells.toList:=by
 have E:∀(d:D) (v:Value),v.cells = #[v]→cellsOf d=[d]→cq w L d v→cN w L (cellsOf d) v.cells.toList:=fun d v h1 h2 h3=>by
  rw[h1,h2];refine⟨rfl,fun i q1 q2=>?_⟩;have:i=0:=(by simpa using q1)
  subst this;exact h3
 cases h with
 | v =>
  cases v with
  | agg cs =>
   refine⟨by simp[cellsOf,Value.cells],fun i q1 q2=>?_⟩;simp only[cellsOf,getElem_map,Value.cells];exact .v _
  | _=>exact E _ _ rfl rfl (.v _)
 | mb sz ad cap=>exact E _ _ rfl rfl (.mb sz ad cap)
 | list sz cs len b o cap f hl h1 h2 hb hL hc hr=>exact E _ _ rfl rfl (.list sz cs len b o cap f hl h1 h2 hb hL hc hr)
 | fE cs off b o f hb hL hc hr=>exact E _ _ rfl rfl (.fE cs off b o f hb hL hc hr)
 | agg cs vs hl hr=>exact⟨by simp[cellsOf,Value.cells,hl],fun i q1 q2=>hr i q1 q2⟩
 | dF cs vs hl hr=>exact E _ _ rfl rfl (.dF cs vs hl hr)
 | eB fn cs vs hl hr=>exact E _ _ rfl rfl (.eB fn cs vs hl hr)
 | j7 l os h=>exact E _ _ rfl rfl (.j7 l os h)
 | bW=>exact absurd rfl hd
theorem getElem?_push_lt{w:World}{ob:Obj}(h:b<w.heap.size):(w.alloc ob).heap[b]?=w.heap[b]?:=Below.heap_alloc w ob b h
theorem bE.Ud {w:World} (h:bE C x a w) {t:Nat} {cells:Array Value} {size:Nat} (hr:cN w (live C.X x.S) ds cells.toList) (O:cells.size=size) {d:D}
  (hd:∀L,cq (w.alloc (ob e cells)) L d v) :
  bE C ⟨x.n,(t,d)::x.env,⟨w.heap.size,e,size,ds⟩::x.S⟩ (a.put (some t) v) (w.alloc (ob e cells)):=by
 have aa:∀b,live C.X x.S b→b<w.heap.size:=fun b hb=>by
  rcases hb with hb|hb
  ·exact Nat.lt_of_lt_of_le (h.ex b hb).1 h.fr.size
  obtain⟨B,I,rfl⟩:=mem_map.1 hb;exact(h.own.at_ B I).1
 have H:∀b,b<w.heap.size→¬live C.X x.S b→(w.alloc (ob e cells)).heap[b]?=w.heap[b]?∧¬live C.X (⟨w.heap.size,e,size,ds⟩::x.S) b:=fun b hb hn =>
  ⟨getElem?_push_lt hb,fun hl=>by
   rcases hl with hl|hl
   ·exact hn (.inl hl)
   simp only[aq,map_cons,mem_cons] at hl;rcases hl with hl|hl
   ·omega
   exact hn (.inr hl)⟩
 have base:bE C ⟨x.n,x.env,⟨w.heap.size,e,size,ds⟩::x.S⟩ a (w.alloc (ob e cells)):=by
  refine⟨h.defers,h.size,fun t ht=>(h.env t ht).mono H,⟨fun B I=>?_,?_⟩,?_,h.ex,h.eS⟩
  ·rcases mem_cons.1 I with rfl|I
   ·refine⟨by simp,cells,heap_alloc_new w _,O,?_,fun i hi=>?_⟩
    ·have:=hr.1;simp at this;simp only;omega
    have E:i<cells.toList.length:=(by rw[hr.1];exact hi)
    refine⟨cells.toList[i],?_,(hr.2 i hi E).mono H⟩;simp at E;simp[E]
   obtain⟨h0,cur,h1,h2,h3,h4⟩:=h.own.at_ B I;refine⟨by simp;omega,cur,(getElem?_push_lt h0).trans h1,h2,h3,fun i hi=>?_⟩;obtain⟨u,hu,hq⟩:=h4 i hi;exact⟨u,hu,hq.mono H⟩
  ·show(w.heap.size::aq x.S).Nodup;exact nodup_cons.2 ⟨fun hm=>Nat.lt_irrefl _ (aa _ (.inr hm)),h.own.apart⟩
  refine⟨h.fr.os,h.fr.tape,h.fr.output,by simp;have:=h.fr.size;omega,fun b hb hn=>?_⟩;obtain⟨q1,q2⟩:=h.fr.block b hb hn;have U:=Nat.lt_of_lt_of_le hb h.fr.size;refine⟨(getElem?_push_lt U).trans q1,fun hm=>?_⟩;simp only[aq,map_cons,mem_cons] at hm;rcases hm with hm|hm
  ·omega
  exact q2 hm
 exact base.put (hd _)
theorem bE.new {w:World} (h:bE C x a w) {t:Nat} {cells:Array Value} {size:Nat} (hr:cN w (live C.X x.S) ds cells.toList) (E:cells.size=size) {d:D}
  (hd:∀L,cq (w.alloc (.cells cells e)) L d v) (hne:isMap e=false:=by rfl) :
  bE C ⟨x.n,(t,d)::x.env,⟨w.heap.size,e,size,ds⟩::x.S⟩ (a.put (some t) v) (w.alloc (.cells cells e)):=by
 have:=bE.Ud h (e:=e) hr E (t:=t) (d:=d) (v:=v) (fun L=>by rw[kg hne];exact hd L);rw[kg hne] at this;exact this
theorem lS.alloc(w:World)(ob:Obj):lS [] w (w.alloc ob):=⟨by simp,fun b hb _=>getElem?_push_lt hb⟩
theorem Fr.alloc(w:World)(ob:Obj)(S:List Nat):Fr w S (w.alloc ob) (w.heap.size::S) :=
 ⟨rfl,rfl,rfl,by simp,fun b hb hn=>⟨getElem?_push_lt hb,fun hm=>by
  rcases mem_cons.1 hm with hm|hm
  ·omega
  exact hn hm⟩⟩
def wv(x:St)(t:Nat)(e:TypeId)(ds:List D)(y:St):Prop:=∃b,y=⟨x.n,(t,.v (.pointer (some ⟨b,0,none⟩)))::x.env,⟨b,e,ds.length,ds⟩::x.S⟩
theorem AF{z:Value}{t:Nat}(ho:o.op = .alloc e)(hd:o.dst=some t)(hz:∀w,(zeroValue e).run P w = .ok z w)(jw:z.cells.toList.map .v=ds)(hne:isMap e=false:=by rfl):fR P G x o [] (wv x t e ds):=fun C a w K Q hG h hK=>by
 subst jw;unfold Oper.wp;have:(execOp a.eval o).run P w = .ok (.value (.pointer (some ⟨w.heap.size,0,none⟩))) (w.alloc (.cells z.cells e)):=by
  unfold execOp;simp[ho,Instr.alloc,hz,newVar,newRow]
 rw[this,Oper.upon_value,hd];refine hK _ _ _ ⟨w.heap.size,rfl⟩ (h.new (ds:=z.cells.toList.map .v) ⟨by simp,fun i q1 q2=>?_⟩ bu (fun L=>.v _) hne) (lS.alloc _ _) (Fr.alloc _ _ _);simp only[getElem_map];exact .v _
theorem acV{t:Nat}{d:D}(ho:o.op = .box e y)(hd:o.dst=some t)(hy:aG x y=d)(hj:d≠.bW)(jw:cellsOf d=ds)(hne:isMap e=false:=by rfl):fR P G x o [] (wv x t e ds):=fun C a w K Q hG h hK=>by
 subst jw;unfold Oper.wp;have:(execOp a.eval o).run P w = .ok (.value (.pointer (some ⟨w.heap.size,0,none⟩))) (w.alloc (.cells (a.eval y).cells e)):=by
  unfold execOp;simp[ho,Instr.box,newVar,newRow]
 rw[this,Oper.upon_value,hd];have hr:=h.eval y;rw[hy] at hr;have hc:=hr.cells hj;refine hK _ _ _ ⟨w.heap.size,rfl⟩ (h.new (ds:=cellsOf d) hc (by have:=hc.1;simpa using this) (fun L=>.v _) hne) (lS.alloc _ _) (Fr.alloc _ _ _)

def dh(cs:List D)(off:Nat):List D→List D
 | []=>cs
 | d::r=>dh (cs.set off d) (off+1) r
def l6(place:Nat→Option (Nat×Nat))(cells:List D):List (Nat×D)→Option (List D)
 | []=>some cells
 | (i,d)::rest =>
  match place i with
  | none=>none
  | some (off,size)=>if (cellsOf d).length≠size||off+(cellsOf d).length>cells.length then none else l6 place (dh cells off (cellsOf d)) rest
theorem cN.set{w:World}{L:Nat→Prop}{ds:List D}{vs:List Value}(h:cN w L ds vs)(i:Nat){d:D}{v:Value}(hd:cq w L d v):cN w L (ds.set i d) (vs.set i v) :=
 ⟨by simp[h.1],fun j h1 h2=>by
  rw[getElem_set,getElem_set];split
  ·exact hd
  exact h.2 j _ _⟩
theorem cN.tail{w:World}{d:D}{vs:List Value}(h:cN w L (d::ds) (v::vs)):cq w L d v∧cN w L ds vs :=
 ⟨h.2 0 bu bu,by simpa using h.1,fun i h1 h2=>h.2 (i+1) (by simpa using h1) (by simpa using h2)⟩
theorem HK{β:Type}(f:β→Value→Nat→β):∀(r:List Value) (k:Nat) (z:β),(r.zipIdx (k+1)).foldl (fun c (x:Value×Nat)=>f c x.1 x.2) z=(r.zipIdx k).foldl (fun c (x:Value×Nat)=>f c x.1 (x.2+1)) z
 | [],_,_=>rfl
 | v::r,k,z=>by
  simp only[zipIdx_cons,foldl_cons];exact HK f r (k+1) _
theorem cN.dh{w:World}{L:Nat→Prop}:∀(ds:List D) (vs:List Value) (cs:List D) (cells:List Value) (off:Nat),cN w L ds vs→cN w L cs cells→cN w L (dh cs off ds) (vs.zipIdx.foldl (fun cs (c,j)=>cs.set (off+j) c) cells)
 | [],[],cs,cells,off,_,h=>h
 | [],_::_,_,_,_,h,_=>by simp[cN] at h
 | _::_,[],_,_,_,h,_=>by simp[cN] at h
 | d::ds,v::vs,cs,cells,off,h,hc=>by
  obtain⟨h0,h1⟩:=h.tail;have E:=cN.dh ds vs (cs.set off d) (cells.set off v) (off+1) h1 (hc.set off h0);have e:(v::vs).zipIdx.foldl (fun cs (x:Value×Nat)=>cs.set (off+x.2) x.1) cells=vs.zipIdx.foldl (fun cs (x:Value×Nat)=>cs.set (off+1+x.2) x.1) (cells.set off v):=by
   rw[zipIdx_cons,foldl_cons,Nat.add_zero,HK (fun (c:List Value) v n=>c.set (off+n) v)];congr 1;funext a b;rw[Nat.add_assoc,Nat.add_comm 1]
  rw[e];exact E
theorem D8:∀(l:List (Value×Nat)) (cells:Array Value) (off:Nat),(l.foldl (fun cs (x:Value×Nat)=>cs.setIfInBounds (off+x.2) x.1) cells).toList=l.foldl (fun cs (x:Value×Nat)=>cs.set (off+x.2) x.1) cells.toList
 | [],_,_=>rfl
 | (v,j)::l,cells,off=>by
  simp only[foldl_cons];rw[D8 l];simp
theorem Eu{w:World}{L:Nat→Prop}(place:Nat→Option (Nat×Nat)):∀(E:List (Nat×D)) (sy:List (Nat×Value)) (cs:List D) (cells:Array Value) (ds:List D),
  E.length=sy.length→(∀i (h:i<E.length) (h':i<sy.length),E[i].1=sy[i].1∧E[i].2≠.bW∧cq w L E[i].2 sy[i].2)→cN w L cs cells.toList→l6 place cs E=some ds →
  ∃I,Instr.fill place cells sy=some I∧cN w L ds I.toList
 | [],[],cs,cells,ds,_,_,hc,hf=>by
  simp only[l6,Option.some.injEq] at hf;subst hf;exact⟨cells,rfl,hc⟩
 | [],_::_,_,_,_,h,_,_,_=>by simp at h
 | _::_,[],_,_,_,h,_,_,_=>by simp at h
 | (i,d)::E,(j,v)::sy,cs,cells,ds,hl,hp,hc,hf=>by
  obtain⟨h1,h2,h3⟩:=hp 0 bu bu;simp only[getElem_cons_zero] at h1 h2 h3;subst h1;have O:=h3.cells h2;have U:v.cells.size=(cellsOf d).length:=(by have:=O.1;simpa using this)
  have Z:cells.size=cs.length:=(by have:=hc.1;simpa using this)
  unfold l6 at hf;unfold Instr.fill;cases fQ:place i with
  | none=>rw[fQ] at hf;simp at hf
  | some os =>
   obtain⟨off,size⟩:=os;simp only[fQ] at hf ⊢;rw[U,Z];split at hf
   ·cases hf
   rename_i hn;rw[if_neg hn];refine Eu place E sy _ _ ds wN (fun i h h'=>hp (i+1) oR (by simpa using h')) ?_ hf;have:=cN.dh (w:=w) (L:=L) (cellsOf d) v.cells.toList cs cells.toList off O hc;rw[←D8] at this;have e:v.cells.zipIdx.foldl (fun cs (x:Value×Nat)=>cs.setIfInBounds (off+x.2) x.1) cells=v.cells.toList.zipIdx.foldl (fun cs (x:Value×Nat)=>cs.setIfInBounds (off+x.2) x.1) cells:=by
    rw[←Array.foldl_toList,Array.toList_zipIdx]
   rw[e];exact this
theorem cN.sy(w:World)(L:Nat→Prop)(vs:List Value):cN w L (vs.map .v) vs:=⟨by simp,fun i h1 h2=>by simp only[getElem_map];exact .v _⟩
def lG(x:St)(ps:Array (Nat×Operand)):List (Nat×D):=ps.toList.map fun p=>(p.1,aG x p.2)
theorem HL{w:World}(h:bE C x a w)(ps:Array (Nat×Operand))(hj:∀p∈lG x ps,p.2≠.bW):(lG x ps).length=((ps.map fun p=>(p.1,a.eval p.2)).toList).length ∧
  ∀i (h1:i<(lG x ps).length) (h2:i<((ps.map fun p=>(p.1,a.eval p.2)).toList).length),(lG x ps)[i].1=((ps.map fun p=>(p.1,a.eval p.2)).toList)[i].1∧(lG x ps)[i].2≠.bW∧cq w (live C.X x.S) (lG x ps)[i].2 ((ps.map fun p=>(p.1,a.eval p.2)).toList)[i].2:=by
 refine⟨by simp[lG],fun i h1 h2=>⟨?_,hj _ (getElem_mem h1),?_⟩⟩
 ·simp[lG]
 simp only[lG,getElem_map,Array.toList_map];exact h.eval _
theorem YC {E:Array Field} {places:Array (Nat×Nat)} {z:Value} (ho:o.op = .build t ps) (hz:∀w,(zeroValue t).run P w = .ok z w)
  (I:∀w,(underlying t).run P w = .ok (.struct E) w) (hp:∀w,(E.mapM fun f=>do pure (f.offset,←sizeOf f.type):Sem (Array (Nat×Nat))).run P w = .ok places w)
  (hj:∀p∈lG x ps,p.2≠.bW) (hd:l6 (places[·]?) (z.cells.toList.map .v) (lG x ps)=some ds):bV P G x o .none (.agg ds):=fun C a w _ h=>by
 obtain⟨q1,q2⟩:=HL h ps hj;obtain⟨Be,h1,h2⟩:=Eu (w:=w) (L:=live C.X x.S) (places[·]?) (lG x ps) ((ps.map fun p=>(p.1,a.eval p.2)).toList) _ z.cells ds q1 q2 (cN.sy _ _ _) hd;refine⟨.agg Be.toList.toArray,.agg _ _ h2.1 h2.2,fun w' _=>?_⟩;unfold execOp;simp only[ho,Instr.build,hz,I,hp,Sem.run_bind,Result.andThen_ok,h1,Sem.run_pure,Array.toArray_toList]
theorem Yq {z:Value} (ho:o.op = .build t ps) (hz:∀w,(zeroValue t).run P w = .ok z w)
  (E:∀w,(underlying t).run P w = .ok (.array n e) w) (hs:∀w,(sizeOf e).run P w = .ok sz w)
  (hj:∀p∈lG x ps,p.2≠.bW) (hd:l6 (fun i=>some (i*sz,sz)) (z.cells.toList.map .v) (lG x ps)=some ds):bV P G x o .none (.agg ds):=fun C a w _ h=>by
 obtain⟨q1,q2⟩:=HL h ps hj;obtain⟨Be,h1,h2⟩:=Eu (w:=w) (L:=live C.X x.S) (fun i=>some (i*sz,sz)) (lG x ps) ((ps.map fun p=>(p.1,a.eval p.2)).toList) _ z.cells ds q1 q2 (cN.sy _ _ _) hd;refine⟨.agg Be.toList.toArray,.agg _ _ h2.1 h2.2,fun w' _=>?_⟩;unfold execOp;simp only[ho,Instr.build,hz,E,hs,Sem.run_bind,Result.andThen_ok,h1,Sem.run_pure,Array.toArray_toList]
def acW(x:St)(t:Nat)(e:TypeId)(len:Nat)(ds:List D)(y:St):Prop:=∃b,y=⟨x.n,(t,.v (.slice (some ⟨b,0,none⟩) len len))::x.env,⟨b,e,ds.length,ds⟩::x.S⟩
theorem Hi {len:Nat} {z:Value} {zs:List D} (ho:o.op = .buildSlice t len ps) (jE:o.dst=some tt) (hz:∀w,(zeroValue e).run P w = .ok z w)
  (I:∀w,(underlying t).run P w = .ok (.slice e) w) (hs:∀w,(sizeOf e).run P w = .ok sz w) (hl:0<len*sz) (iQ:len*sz≤2 ^ 24) (eZ:(Array.range (len*sz)).map (fun i=>z.cells[i % z.cells.size]!)=(zs.map (fun d=>match d with|.v u=>u|_=>undef)).toArray) (O:∀d∈zs,∃u,d = .v u)
  (hj:∀p∈lG x ps,p.2≠.bW) (hd:l6 (fun i=>some (i*sz,sz)) zs (lG x ps)=some ds) (hne:isMap e=false:=by rfl):fR P G x o [] (acW x tt e len ds):=fun C a w K Q hG h hK=>by
 obtain⟨q1,q2⟩:=HL h ps hj;have U:cN w (live C.X x.S) zs ((zs.map (fun d=>match d with|.v u=>u|_=>undef)).toArray).toList:=by
  refine⟨by simp,fun i h1 h2=>?_⟩;obtain⟨u,I⟩:=O _ (getElem_mem h1);simp only[getElem_map,I];exact .v _
 obtain⟨Be,h1,h2⟩:=Eu (w:=w) (L:=live C.X x.S) (fun i=>some (i*sz,sz)) (lG x ps) ((ps.map fun p=>(p.1,a.eval p.2)).toList) _ _ ds q1 q2 U hd;unfold Oper.wp;have:(execOp a.eval o).run P w = .ok (.value (.slice (some ⟨w.heap.size,0,none⟩) len len)) (w.alloc (.cells Be e)):=by
  unfold execOp;have E:¬len*sz=0:=(by omega)
  have Z:¬len*sz>2 ^ 24:=(by omega)
  simp only[ho,Instr.buildSlice,hz,I,hs,Sem.run_bind,Result.andThen_ok,Sem.run_pure,if_neg E,if_neg Z,eZ,h1];simp[newRow]
 rw[this,Oper.upon_value,jE];exact hK _ _ _ ⟨w.heap.size,rfl⟩ (h.new (ds:=ds) h2 (by have:=h2.1;simpa using this) (fun L=>.v _) hne) (lS.alloc _ _) (Fr.alloc _ _ _)
theorem NW(b:Nat):∀(vs:List Value) (o':Nat) (w:World) (cur:Array Value) (e:TypeId),w.heap[b]?=some (.cells cur e (0,0))→o'+vs.length≤cur.size →
  (w.setCells b o' vs).heap[b]?=some (.cells (vs.zipIdx.foldl (fun cs (x:Value×Nat)=>cs.setIfInBounds (o'+x.2) x.1) cur) e (0,0))∧(∀k,k≠b→(w.setCells b o' vs).heap[k]?=w.heap[k]?)∧(w.setCells b o' vs).heap.size=w.heap.size ∧
  (w.setCells b o' vs).os=w.os∧(w.setCells b o' vs).tape=w.tape∧(w.setCells b o' vs).output=w.output
 | [],o',w,cur,e,h,_=>⟨h,fun _ _=>rfl,rfl,rfl,rfl,rfl⟩
 | v::r,o',w,cur,e,h,hl=>by
  have h0:(w.setCell ⟨b,o',none⟩ v).heap[b]?=some (.cells (cur.setIfInBounds o' v) e (0,0)):=by
   simp[World.setCell,Array.getElem?_modify,h]
  obtain⟨i1,i2,i3,i4,i5,i6⟩:=NW b r (o'+1) (w.setCell ⟨b,o',none⟩ v) (cur.setIfInBounds o' v) e h0 (by simp at hl ⊢;omega);refine⟨?_,fun k hk=>?_,?_,i4,i5,i6⟩
  ·rw[World.setCells,i1,zipIdx_cons,foldl_cons,Nat.add_zero,HK (fun (c:Array Value) v n=>c.setIfInBounds (o'+n) v)];congr 3;funext a b;rw[Nat.add_assoc,Nat.add_comm 1]
  ·rw[World.setCells,i2 k hk,Below.heap_setCell _ _ _ _ hk]
  rw[World.setCells,i3];simp
theorem yf:∀(ds cs:List D) (off:Nat),(dh cs off ds).length=cs.length
 | [],cs,off=>rfl
 | d::ds,cs,off=>by rw[dh,yf ds];simp
theorem bE.store{w:World}(h:bE C x a w){vs:List Value}(hk:x.S[k]?=some B)(hr:cN w (live C.X x.S) ds vs)(hl:o'+ds.length≤B.cs.length)(hne:isMap B.e=false:=by rfl) :
  bE C ⟨x.n,x.env,x.S.set k {B with cs:=dh B.cs o' ds}⟩ a (w.setCells B.b o' vs)∧lS [B.b] w (w.setCells B.b o' vs)∧Fr w (aq x.S) (w.setCells B.b o' vs) (aq (x.S.set k {B with cs:=dh B.cs o' ds})):=by
 obtain⟨h0,cur,h1,h2,h3,h4⟩:=h.fC hk;rw[kg hne] at h1;have rD:vs.length=ds.length:=hr.1;obtain⟨i1,i2,i3,i4,i5,i6⟩:=NW B.b vs o' w cur B.e h1 w4;have dY:k<x.S.length:=(List.getElem?_eq_some_iff.1 hk).1;have vF:x.S[k]=B:=(List.getElem?_eq_some_iff.1 hk).2;have E:aq (x.S.set k {B with cs:=dh B.cs o' ds})=aq x.S:=by
  unfold aq;rw[map_set];apply ext_getElem bu;intro i q1 q2;rw[getElem_set];split
  ·rename_i e;subst e;simp[vF]
  rfl
 have I:live C.X (x.S.set k {B with cs:=dh B.cs o' ds})=live C.X x.S:=(by funext b;simp only[live,E])
 have hB:live C.X x.S B.b:=P2 hk;have H:∀b,b<w.heap.size→¬live C.X x.S b→(w.setCells B.b o' vs).heap[b]?=w.heap[b]?∧¬live C.X x.S b:=fun b _ hn=>⟨i2 b (fun e=>hn (e ▸ hB)),hn⟩
 refine⟨⟨h.defers,h.size,fun t ht=>?_,⟨fun B' Mt=>?_,?_⟩,?_,h.ex,h.eS⟩,⟨by rw[i3];exact Nat.le_refl _,fun b _ hn=>i2 b (by simpa using hn)⟩,?_⟩
 ·simp only[I];exact(h.env t ht).mono H
 ·simp only[I];obtain⟨j,hj,O⟩:=mem_iff_getElem.1 Mt;rw[length_set] at hj;rw[getElem_set] at O;by_cases e:k=j
  ·rw[if_pos e] at O;subst O;refine⟨by rw[i3];exact h0,_,i1.trans (by rw[kg hne]),?_,by simp only[yf];exact h3,fun i hi=>?_⟩
   ·have:=D8 vs.zipIdx cur o';have hlen:=congrArg length this;have ahJ:∀(l:List (Value×Nat)) (c:List Value),(l.foldl (fun cs (x:Value×Nat)=>cs.set (o'+x.2) x.1) c).length=c.length:=by
     intro l;induction l with
     | nil=>intro c;rfl
     | cons p l ih=>intro c;rw[foldl_cons,ih];simp
    rw[ahJ] at hlen;simp only[Array.length_toList] at hlen;rw[hlen,h2]
   have dB:cN w (live C.X x.S) B.cs (cur.toList.take B.cs.length):=by
    refine⟨by simp;omega,fun i q1 q2=>?_⟩;obtain⟨u,hu,hq⟩:=h4 i q1;have:(cur.toList.take B.cs.length)[i]=u:=by
     rw[getElem_take];rw[←Array.getElem?_toList,List.getElem?_eq_some_iff] at hu;exact hu.2
    rw[this];exact hq
   have U:=cN.dh ds vs B.cs (cur.toList.take B.cs.length) o' hr dB;have Ue:∀(l:List (Value×Nat)) (c:List Value),(∀p∈l,o'+p.2<B.cs.length)→l.foldl (fun cs (x:Value×Nat)=>cs.set (o'+x.2) x.1) (c.take B.cs.length)=(l.foldl (fun cs (x:Value×Nat)=>cs.set (o'+x.2) x.1) c).take B.cs.length:=by
    intro l;induction l with
    | nil=>intro c _;rfl
    | cons p l ih =>
     intro c hp;rw[foldl_cons,foldl_cons,←ih _ (fun q hq=>hp q (mem_cons_of_mem _ hq)),take_set]
   rw[Ue vs.zipIdx cur.toList (fun p hp=>by have:=mem_zipIdx hp;omega),←D8] at U;simp only at hi;have GI:=hi;rw[←U.1] at GI;have hq:=U.2 i hi GI;rw[getElem_take] at hq;refine⟨_,?_,hq.mono H⟩;rw[←Array.getElem?_toList,getElem?_eq_getElem]
  rw[if_neg e] at O;subst O;have hne:x.S[j].b≠B.b:=fun he=>by
   have hn:=h.own.apart;have CA:(aq x.S)[j]'zU=(aq x.S)[k]'zS:=(by simp[aq,he,vF])
   have hp:=pairwise_iff_getElem.1 hn;rcases Nat.lt_trichotomy j k with Z|Z|Z
   ·exact hp j k zU zS Z CA
   ·exact e Z.symm
   exact hp k j zS zU Z CA.symm
  obtain⟨r0,lK,r1,r2,r3,r4⟩:=h.own.at_ x.S[j] (getElem_mem hj);refine⟨by rw[i3];exact r0,lK,(i2 _ hne).trans r1,r2,r3,fun i hi=>?_⟩;obtain⟨u,hu,hq⟩:=r4 i hi;exact⟨u,hu,hq.mono H⟩
 ·simp only[E];exact h.own.apart
 ·refine⟨i4.trans h.fr.os,i5.trans h.fr.tape,i6.trans h.fr.output,by rw[i3];exact h.fr.size,fun b hb hn=>?_⟩;obtain⟨q1,q2⟩:=h.fr.block b hb hn;refine⟨(i2 b (fun e=>q2 (e ▸ mem_map.2 ⟨B,mem_of_getElem? hk,rfl⟩))).trans q1,?_⟩;simp only[E];exact q2
 rw[E];exact⟨i4,i5,i6,by rw[i3];exact Nat.le_refl _,fun b hb hn=>⟨i2 b (fun e=>hn (e ▸ mem_map.2 ⟨B,mem_of_getElem? hk,rfl⟩)),hn⟩⟩
theorem D9 {d:D} {z:Operand} (ho:o.op = .store t y z) (jE:o.dst=none) (hy:aG x y = .v (.pointer (some ⟨b,o',none⟩)))
  (hk:x.S[k]?=some B) (hb:B.b=b) (hz:aG x z=d) (hj:d≠.bW) (h1:(cellsOf d).all one=true) (hn:∀w,(sizeOf t).run P w = .ok n w) (gj:(cellsOf d).length=n) (hl:o'+n≤B.cs.length) (dB:dh B.cs o' (cellsOf d)=cs') (hne:isMap B.e=false:=by rfl) :
  fR P G x o [b] (fun y=>y=⟨x.n,x.env,x.S.set k {B with cs:=cs'}⟩):=fun C a w K Q hG h hK=>by
 subst dB hb;have hr:=h.eval z;rw[hz] at hr;have hc:=hr.cells hj;obtain⟨s1,s2,s3⟩:=h.store hk hc (o':=o') w4 hne;obtain⟨h0,cur,q1,q2,q3,q4⟩:=h.fC hk;rw[kg hne] at q1;have U:(a.eval z).cells.toList.length=n:=(by rw[hc.1,gj])
 have E:=run_storeCells_cells (P:=P) B.b o' (a.eval z).cells.toList 0 w (fun j hj=>by
   have:(o'+0+j)<cur.size:=(by omega)
   rw[nV q1 (u:=cur[o'+0+j]) (by simp[this])];rfl)
  (fun j hj=>by unfold World.frozen?;simp[q1]) (fun v hv=>by
   obtain⟨j,hj,rfl⟩:=mem_iff_getElem.1 hv;have O:j<(cellsOf d).length:=(by rw[←hc.1];exact hj)
   exact(hc.2 j O hj).AO (all_eq_true.1 h1 _ (getElem_mem O)))
 have I:(execOp a.eval o).run P w = .ok .skip (w.setCells B.b o' (a.eval z).cells.toList):=by
  unfold execOp;have Z:(a.eval z).cells.size=n:=(by simpa using U)
  simp only[Nat.add_zero] at E;simp[ho,h.flat hy,Instr.storeAt,Instr.sureAddr,storeVar,hn,Z,E]
 unfold Oper.wp;rw[I,Oper.upon_skip,jE];exact hK _ _ _ rfl s1 s2 s3

structure GJ (G:List (Nat×List Value)) (X:Nat→Prop) (w:World) (S:List ah) (args:List D) (vs:List Value):Prop where
 ex:∀b,X b→b<w.heap.size∧b∉aq S
 eS:∀g∈G,(g.1<w.heap.size∧g.1∉aq S∧¬X g.1)∧∀i v,g.2[i]?=some v→nX w g.1 i v
 own:Own w (live X S) S
 args:cN w (live X S) args vs
def VC(P:Program)(G:List (Nat×List Value))(f:FuncId)(args:List D)(S:List ah)(post:D→List ah→Prop):Prop :=
 ∀(X:Nat→Prop) (w:World) (vs:List Value),GJ G X w S args vs→Calls P f vs.toArray w fun e w'=>∃v r S',e = .returned v∧post r S'∧Own w' (live X S') S'∧cq w' (live X S') r v∧Fr w (aq S) w' (aq S')
abbrev VP(P:Program)(G:List (Nat×List Value))(f:FuncId)(args:List D)(r:D):Prop:=VC P G f args [] fun r' S'=>r'=r∧S'=[]
theorem yl(hp:S.Perm (Sf++R)):live X S=live (fun b=>X b∨b∈aq R) Sf:=by
 funext b;have:(aq S).Perm (aq Sf++aq R):=(by have:=hp.map ah.b;simpa[aq] using this)
 have:=this.mem_iff (a:=b);simp only[live,mem_append] at *;rw[this];exact propext ⟨fun h=>by rcases h with h|h|h<;>simp[h],fun h=>by rcases h with (h|h)|h<;>simp[h]⟩
theorem bE.call{w:World}(h:bE C x a w)(hG:C.G=G){f:FuncId}{args:List D}{vs:List Value}(hc:VC P G f args Sf post)(hp:x.S.Perm (Sf++R))(hr:cN w (live C.X x.S) args vs) :
  Calls P f vs.toArray w fun e w'=>∃v r S',e = .returned v∧post r S'∧cq w' (live C.X (S'++R)) r v∧bE C ⟨x.n,x.env,S'++R⟩ a w'∧lS (aq Sf) w w'∧Fr w (aq x.S) w' (aq (S'++R)):=by
 have hb:(aq x.S).Perm (aq Sf++aq R):=(by have:=hp.map ah.b;simpa[aq] using this)
 have hL:=yl (X:=C.X) hp;have hnd:(aq Sf++aq R).Nodup:=hb.nodup_iff.1 h.own.apart;obtain⟨n1,n2,n3⟩:=nodup_append.1 hnd;have U:∀b,b∈aq R→b<w.heap.size:=fun b xJ=>by
  obtain⟨B,O,rfl⟩:=mem_map.1 xJ;exact(h.own.at_ B (hp.symm.subset (mem_append_right _ O))).1
 have Z:GJ G (fun b=>C.X b∨b∈aq R) w Sf args vs:=by
  refine⟨fun b hx=>?_,fun g hg=>?_,⟨fun B O=>?_,n1⟩,?_⟩
  ·rcases hx with hx|hx
   ·obtain⟨q1,q2⟩:=h.ex b hx;exact⟨Nat.lt_of_lt_of_le q1 h.fr.size,fun hm=>(h.fr.block b q1 q2).2 (hb.symm.subset (mem_append_left _ hm))⟩
   exact⟨U b hx,fun hm=>n3 b hm b hx rfl⟩
  ·rw[←hG] at hg;obtain⟨⟨q1,q2,q3⟩,q4⟩:=h.eS g hg;have q5:=(h.fr.block g.1 q1 q2).2;refine⟨⟨Nat.lt_of_lt_of_le q1 h.fr.size,fun hm=>q5 (hb.symm.subset (mem_append_left _ hm)),fun hx=>?_⟩,fun i v hi=>h.aM hg hi⟩;rcases hx with hx|hx
   ·exact q3 hx
   exact q5 (hb.symm.subset (mem_append_right _ hx))
  ·rw[←hL];exact h.own.at_ B (hp.symm.subset (mem_append_left _ O))
  rw[←hL];exact hr
 refine(hc _ w vs Z).mono fun e w' ⟨v,r,S',h1,h2,h3,h4,h5⟩=>⟨v,r,S',h1,h2,?_,?_,⟨h5.size,fun b I hn=>(h5.block b I hn).1⟩,?_⟩
 ·have:live C.X (S'++R)=live (fun b=>C.X b∨b∈aq R) S':=yl (Perm.refl _);rw[this];exact h4
 ·have WM:live C.X (S'++R)=live (fun b=>C.X b∨b∈aq R) S':=yl (Perm.refl _);have H:∀b,b<w.heap.size→¬live C.X x.S b→w'.heap[b]?=w.heap[b]?∧¬live C.X (S'++R) b:=fun b aa hn=>by
   rw[hL] at hn;have E:b∉aq Sf:=fun hm=>hn (.inr hm);obtain⟨q1,q2⟩:=h5.block b aa E;refine⟨q1,fun hl=>?_⟩;rw[WM] at hl;rcases hl with hl|hl
   ·exact hn (.inl hl)
   exact q2 hl
  refine⟨h.defers,h.size,fun t ht=>(h.env t ht).mono H,⟨fun B O=>?_,?_⟩,?_,h.ex,h.eS⟩
  ·rcases mem_append.1 O with O|O
   ·have:=h3.at_ B O;rw[←WM] at this;exact this
   obtain⟨r0,cur,r1,r2,r3,r4⟩:=h.own.at_ B (hp.symm.subset (mem_append_right _ O));have CB:B.b∈aq R:=mem_map.2 ⟨B,O,rfl⟩;have E:B.b∉aq Sf:=fun hm=>n3 B.b hm B.b CB rfl;have hh:=(h5.block B.b r0 E).1;refine⟨qK r0 hh,cur,hh.trans r1,r2,r3,fun i hi=>?_⟩;obtain⟨u,hu,hq⟩:=r4 i hi;exact⟨u,hu,hq.mono H⟩
  ·show(aq (S'++R)).Nodup;have:aq (S'++R)=aq S'++aq R:=(by simp[aq])
   rw[this];refine nodup_append.2 ⟨h3.apart,n2,fun b iO c aY he=>?_⟩;subst he;have E:b∉aq Sf:=fun hm=>n3 b hm b aY rfl;exact(h5.block b (U b aY) E).2 iO
  refine⟨h5.os.trans h.fr.os,h5.tape.trans h.fr.tape,h5.output.trans h.fr.output,Nat.le_trans h.fr.size h5.size,fun b I hn=>?_⟩;obtain⟨q1,q2⟩:=h.fr.block b I hn;have gw:b∉aq Sf:=fun hm=>q2 (hb.symm.subset (mem_append_left _ hm));have iX:b∉aq R:=fun hm=>q2 (hb.symm.subset (mem_append_right _ hm));obtain⟨q3,q4⟩:=h5.block b (Nat.lt_of_lt_of_le I h.fr.size) gw;refine⟨q3.trans q1,fun hm=>?_⟩;have:aq (S'++R)=aq S'++aq R:=(by simp[aq])
  rw[this] at hm;rcases mem_append.1 hm with hm|hm
  ·exact q4 hm
  exact iX hm
 refine⟨h5.os,h5.tape,h5.output,h5.size,fun b I hn=>?_⟩;have gw:b∉aq Sf:=fun hm=>hn (hb.symm.subset (mem_append_left _ hm));have iX:b∉aq R:=fun hm=>hn (hb.symm.subset (mem_append_right _ hm));obtain⟨q3,q4⟩:=h5.block b I gw;refine⟨q3,fun hm=>?_⟩;have:aq (S'++R)=aq S'++aq R:=(by simp[aq])
 rw[this] at hm;rcases mem_append.1 hm with hm|hm
 ·exact q4 hm
 exact iX hm
theorem cN.KO{w:World}(h:bE C x a w)(cZ:List Operand):cN w (live C.X x.S) (cZ.map (aG x)) (cZ.map a.eval) :=
 ⟨by simp,fun i h1 h2=>by simp only[getElem_map];exact h.eval _⟩
theorem cN.append{w:World}{E:List D}{vs I:List Value}(h:cN w L ds vs)(h':cN w L E I):cN w L (ds++E) (vs++I) :=
 ⟨by simp[h.1,h'.1],fun i h1 h2=>by
  by_cases hi:i<ds.length
  ·rw[getElem_append_left hi,getElem_append_left (by rw[h.1];exact hi)];exact h.2 i _ _
  rw[getElem_append_right w4,getElem_append_right (by rw[h.1];omega)];have:=h.1;simp only[this];exact h'.2 _ _ _⟩
def called(x:St)(t:Nat)(R:List ah)(post:D→List ah→Prop)(y:St):Prop:=∃r S',post r S'∧y=⟨x.n,(t,r)::x.env,S'++R⟩
theorem AP {f t:Nat} {args:List D} (ho:o.op = .call {callee:=.value fo,args:=cZ,argTypes:=ts}) (hd:o.dst=some t)
  (hf:fo = .func f) (fu:∀args w,(callFunc f args).run P w = .ok (.enter f args) w) (ha:cZ.toList.map (aG x)=args) (hp:x.S.Perm (Sf++R)) (hc:VC P G f args Sf post) :
  fR P G x o (aq Sf) (called x t R post):=fun C a w K Q hG h hK=>by
 subst hf ha;have hr:=cN.KO h cZ.toList;have E:(execOp a.eval o).run P w = .ok (.enter f (cZ.toList.map a.eval).toArray) w:=by
  unfold execOp;have e:cZ.map a.eval=(cZ.toList.map a.eval).toArray:=by
   rw[←Array.toList_map,Array.toArray_toList]
  simp only[ho,resolve,Act.eval,Deferred.ofValue,Sem.run_bind,Sem.run_pure,Result.andThen_ok,invoke,e];simp[fu]
 unfold Oper.wp;rw[E,Oper.upon_enter,hd];refine(h.call hG hc hp hr).mono fun e w' ⟨v,r,S',h1,h2,h3,h4,h5,h6⟩=>?_;subst h1;exact hK _ _ _ ⟨r,S',h2,rfl⟩ (h4.put h3) h5 h6
theorem ZR {f t:Nat} {args E:List D} (ho:o.op = .call {callee:=.value fo,args:=cZ,argTypes:=ts}) (hd:o.dst=some t)
  (hf:aG x fo = .eB (.func f) E) (fu:∀args w,(callFunc f args).run P w = .ok (.enter f args) w) (ha:cZ.toList.map (aG x)++E=args) (hp:x.S.Perm (Sf++R)) (hc:VC P G f args Sf post) :
  fR P G x o (aq Sf) (called x t R post):=fun C a w K Q hG h hK=>by
 subst ha;have hr:=cN.KO h cZ.toList;have fy:=h.eval fo;rw[hf] at fy;generalize hg:a.eval fo=u at fy;cases fy with
 | eB _ _ vs hl V3 =>
  have I:(execOp a.eval o).run P w = .ok (.enter f (cZ.toList.map a.eval++vs).toArray) w:=by
   unfold execOp;have e:cZ.map a.eval++vs.toArray=(cZ.toList.map a.eval++vs).toArray:=by
    rw[←append_toArray,←Array.toList_map,Array.toArray_toList]
   simp only[ho,resolve,hg,Deferred.ofValue,Sem.run_bind,Sem.run_pure,Result.andThen_ok,invoke];simp[fu]
  unfold Oper.wp;rw[I,Oper.upon_enter,hd];refine(h.call hG hc hp (hr.append ⟨hl,V3⟩)).mono fun e w' ⟨v,r,S',h1,h2,h3,h4,h5,h6⟩=>?_;subst h1;exact hK _ _ _ ⟨r,S',h2,rfl⟩ (h4.put h3) h5 h6
theorem uD(hk:S[k]?=some B):S.Perm (B::S.eraseIdx k):=by
 obtain⟨h1,h2⟩:=List.getElem?_eq_some_iff.1 hk;subst h2;clear hk;induction S generalizing k with
 | nil=>simp at h1
 | cons A S ih =>
  cases k with
  | zero=>exact Perm.refl _
  | succ k =>
   have E:k<S.length:=(by simpa using h1)
   rw[eraseIdx_cons_succ];exact((ih E).cons A).trans (Perm.swap _ _ _)
theorem eT(S:List ah):S.Perm ([]++S):=Perm.refl _
theorem kf(hk:S[k]?=some B):S.Perm ([B]++S.eraseIdx k):=uD hk
theorem AR{k':Nat}{B':ah}(hk:S[k]?=some B)(E:(S.eraseIdx k)[k']?=some B'):S.Perm ([B,B']++(S.eraseIdx k).eraseIdx k'):=(uD hk).trans ((uD E).cons B)
theorem cq.wI{w:World}(h:Own w (live X S) S)(O:∀b,X b→b∉aq S)(hk:S[k]?=some B)(hl:B.cs.length=n*sz)(h1:n≤cap)(h2:cap≤maxLen)(hne:isMap B.e=false:=by rfl) :
  cq w (live X (S.eraseIdx k)) (.list sz B.cs n) (.slice (some ⟨B.b,0,none⟩) n cap):=by
 have hm:=mem_of_getElem? hk;obtain⟨r0,cur,r1,r2,U,I⟩:=h.at_ B hm;rw[kg hne] at r1;have E:(aq (S.eraseIdx k)).Sublist (aq S):=Sublist.map _ (eraseIdx_sublist S k);have hL:¬live X (S.eraseIdx k) B.b:=fun hl=>by
  rcases hl with hl|hl
  ·exact O _ hl (mem_map.2 ⟨B,hm,rfl⟩)
  have hp:(aq S).Perm (B.b::aq (S.eraseIdx k)):=(by have:=(uD hk).map ah.b;simpa[aq] using this)
  have hnd:=hp.nodup_iff.1 h.apart;exact(nodup_cons.1 hnd).1 hl
 refine .list sz B.cs n B.b 0 cap (fun i=>cur.getD i undef) hl h1 h2 r0 hL (fun i hi=>?_) (fun i hi=>?_)
 ·obtain⟨u,hu,_⟩:=I i hi;rw[Nat.zero_add,nV r1 hu];simp[hu]
 obtain⟨u,hu,hq⟩:=I i hi;simp only[Array.getD_eq_getD_getElem?,hu,Option.getD_some];exact hq.mono fun b _ hn=>⟨rfl,fun hl=>hn (hl.imp id fun q=>E.subset q)⟩
theorem bE.Af{w:World}(h:bE C x a w):∀b,C.X b→b∉aq x.S:=fun b hb=>(h.fr.block b (h.ex b hb).1 (h.ex b hb).2).2
theorem Wk.vh{t:Nat}{cs:List D}(hk:S[k]?=some B)(ht:look t l = .v (.slice (some ⟨B.b,0,none⟩) m cap))(dB:B.cs=cs)(hl:cs.length=m*sz)(h1:m≤cap)(h2:cap≤maxLen)(hne:isMap B.e=false:=by rfl) :
  Wk ⟨n,l,S⟩ ⟨n,(t,.list sz cs m)::l,S.eraseIdx k⟩:=fun C a w h=>by
 subst dB;have hd:=Wk.drop n l S (S.eraseIdx k) (eraseIdx_sublist S k) C a w h;refine⟨hd.defers,hd.size,fun i hi=>?_,hd.own,hd.fr,hd.ex,hd.eS⟩;simp only[fW];by_cases e:t=i
 ·subst e;rw[if_pos rfl];have E:=h.env t hi;simp only[ht] at E;rw[E.kP];exact cq.wI h.own h.Af hk hl h1 h2 hne
 rw[if_neg e];exact hd.env i hi
theorem Wk.tw{t:Nat}(ht:look t l = .v (.slice none 0 0)):Wk ⟨n,l,S⟩ ⟨n,(t,.list sz [] 0)::l,S⟩:=fun C a w h=>by
 refine⟨h.defers,h.size,fun i hi=>?_,h.own,h.fr,h.ex,h.eS⟩;simp only[fW];by_cases e:t=i
 ·subst e;rw[if_pos rfl];have E:=h.env t hi;simp only[ht] at E;rw[E.kP];exact .nil sz
 rw[if_neg e];exact h.env i hi
theorem Wk.aeO {A:ah} {cs:List D} (hk:S[k]?=some B) (hj:(S.eraseIdx k)[j]?=some A) (hi:A.cs[i]?=some (.v (.slice (some ⟨B.b,0,none⟩) m cap))) (dB:B.cs=cs) (hl:cs.length=m*sz) (h1:m≤cap) (h2:cap≤maxLen)
  (U:A.cs.set i (.list sz cs m)=cs') (hS:(S.eraseIdx k).set j {A with cs:=cs'}=S') (hne:isMap B.e=false:=by rfl):Wk ⟨n,l,S⟩ ⟨n,l,S'⟩:=fun C a w h=>by
 subst dB U hS;have hd:=Wk.drop n l S (S.eraseIdx k) (eraseIdx_sublist S k) C a w h;have Z:=cq.wI h.own h.Af hk hl h1 h2 hne;have lT:=(List.getElem?_eq_some_iff.1 hj).1;have hjA:=(List.getElem?_eq_some_iff.1 hj).2;have E:aq ((S.eraseIdx k).set j {A with cs:=A.cs.set i (.list sz B.cs m)})=aq (S.eraseIdx k):=by
  unfold aq;rw[map_set];apply ext_getElem bu;intro i q1 q2;rw[getElem_set];split
  ·rename_i e;subst e;simp[hjA]
  rfl
 have I:live C.X ((S.eraseIdx k).set j {A with cs:=A.cs.set i (.list sz B.cs m)})=live C.X (S.eraseIdx k):=(by funext b;simp only[live,E])
 refine⟨hd.defers,hd.size,fun t ht=>?_,⟨fun B' Mt=>?_,?_⟩,?_,hd.ex,hd.eS⟩
 ·simp only[I];exact hd.env t ht
 ·simp only[I];obtain⟨p,hp,gW⟩:=mem_iff_getElem.1 Mt;rw[length_set] at hp;rw[getElem_set] at gW;by_cases e:j=p
  ·rw[if_pos e] at gW;subst gW;obtain⟨r0,cur,r1,r2,r3,r4⟩:=hd.own.at_ A (mem_of_getElem? hj);refine⟨r0,cur,r1,r2,by simpa using r3,fun q hq=>?_⟩;simp only[length_set] at hq;obtain⟨u,hu,O⟩:=r4 q hq;refine⟨u,hu,?_⟩;rw[getElem_set];split
   ·rename_i he;subst he;have:=(List.getElem?_eq_some_iff.1 hi).2;rw[this] at O;rw[O.kP];exact Z
   exact O
  rw[if_neg e] at gW;subst gW;exact hd.own.at_ _ (getElem_mem hp)
 ·simp only[E];exact hd.own.apart
 simp only[E];exact hd.fr

def Rx(x:St)(t:Nat)(e:TypeId)(sz len:Nat)(cs:List D)(S:List ah)(y:St):Prop :=
 ∃b cap,len≤cap∧cap≤maxLen∧y=⟨x.n,(t,.v (.slice (some ⟨b,0,none⟩) len cap))::x.env,⟨b,e,cap*sz,cs⟩::S⟩
theorem bE.grown {w:World} (h:bE C x a w) {t g e:Nat} {row:Option Nat} {cs:List D}
  (hS:S.Sublist x.S) (I:∀k,row=some k→k∈aq x.S∧k∉aq S) (E:w.grownBy w' row) (hg:row=some g∨g=w.heap.size) (aa:g<w'.heap.size)
  (BN:w'.heap[g]?=some (.cells cur e (0,0))) (iv:cur.size=cap*sz) (hl:cs.length≤cap*sz) (hr:∀i (h:i<cs.length),∃u,cur[i]?=some u∧cq w (live C.X x.S) cs[i] u) (hne:isMap e=false:=by rfl) :
  bE C ⟨x.n,(t,.v (.slice (some ⟨g,0,none⟩) m cap))::x.env,⟨g,e,cap*sz,cs⟩::S⟩ (a.put (some t) (.slice (some ⟨g,0,none⟩) m cap)) w'∧lS row.toList w w'∧Fr w (aq x.S) w' (aq (⟨g,e,cap*sz,cs⟩::S)):=by
 have O:(aq S).Sublist (aq x.S):=Sublist.map _ hS;have Z:∀b,live C.X x.S b→b<w.heap.size:=fun b hb=>by
  rcases hb with hb|hb
  ·exact Nat.lt_of_lt_of_le (h.ex b hb).1 h.fr.size
  obtain⟨B,hB,rfl⟩:=mem_map.1 hb;exact(h.own.at_ B hB).1
 have hgS:g∉aq S:=by
  rcases hg with hg|hg
  ·exact(I g hg).2
  intro hm;have:=Z g (.inr (O.subset hm));omega
 have hgX:¬C.X g:=fun hx=>by
  rcases hg with hg|hg
  ·exact h.Af g hx (I g hg).1
  have:=Z g (.inl hx);omega
 have U:g<w.heap.size→g∈aq x.S:=fun aa=>by
  rcases hg with hg|hg
  ·exact(I g hg).1
  omega
 have H:∀b,b<w.heap.size→¬live C.X x.S b→w'.heap[b]?=w.heap[b]?∧¬live C.X (⟨g,e,cap*sz,cs⟩::S) b:=fun b hb hn=>by
  refine⟨E.block b hb (fun hm=>hn (.inr (I b hm.symm).1)),fun hl=>?_⟩;rcases hl with hl|hl
  ·exact hn (.inl hl)
  simp only[aq,map_cons,mem_cons] at hl;rcases hl with hl|hl
  ·subst hl;exact hn (.inr (U hb))
  exact hn (.inr (O.subset hl))
 have base:bE C ⟨x.n,x.env,⟨g,e,cap*sz,cs⟩::S⟩ a w':=by
  refine⟨h.defers,h.size,fun t ht=>(h.env t ht).mono H,⟨fun B hB=>?_,?_⟩,?_,h.ex,h.eS⟩
  ·rcases mem_cons.1 hB with rfl|hB
   ·refine⟨aa,cur,BN.trans (by rw[kg hne]),iv,hl,fun i hi=>?_⟩;obtain⟨u,hu,hq⟩:=hr i hi;exact⟨u,hu,hq.mono H⟩
   obtain⟨r0,lK,r1,r2,r3,r4⟩:=h.own.at_ B (hS.subset hB);have CB:B.b∈aq S:=mem_map.2 ⟨B,hB,rfl⟩;have hh:=E.block B.b r0 (fun hm=>(I B.b hm.symm).2 CB);refine⟨qK r0 hh,lK,hh.trans r1,r2,r3,fun i hi=>?_⟩;obtain⟨u,hu,hq⟩:=r4 i hi;exact⟨u,hu,hq.mono H⟩
  ·show(g::aq S).Nodup;exact nodup_cons.2 ⟨hgS,h.own.apart.sublist O⟩
  refine⟨E.os.trans h.fr.os,E.tape.trans h.fr.tape,E.output.trans h.fr.output,Nat.le_trans h.fr.size E.size,fun b hb hn=>?_⟩;obtain⟨q1,q2⟩:=h.fr.block b hb hn;have jM:=Nat.lt_of_lt_of_le hb h.fr.size;refine⟨(E.block b jM (fun hm=>q2 (I b hm.symm).1)).trans q1,fun hm=>?_⟩;simp only[aq,map_cons,mem_cons] at hm;rcases hm with hm|hm
  ·subst hm;exact q2 (U jM)
  exact q2 (O.subset hm)
 refine⟨base.put (.v _),⟨E.size,fun b hb hn=>E.block b hb (fun hm=>hn (by rw[←hm];simp))⟩,⟨E.os,E.tape,E.output,E.size,fun b hb hn=>?_⟩⟩;refine⟨E.block b hb (fun hm=>hn (I b hm.symm).1),fun hm=>?_⟩;simp only[aq,map_cons,mem_cons] at hm;rcases hm with hm|hm
 ·subst hm;exact hn (U hb)
 exact hn (O.subset hm)
theorem AB {s:Operand} {t:Nat} {I:Value} {w:World} (ho:o.op = .call {callee:=.builtin .append,args:=#[s,y],argTypes:=#[t,t]}) (hs:a.eval s=v) (hy:a.eval y=u)
  (E:(Builtin.append_ #[t,t] o.type #[v,u]).run P w = .ok I w'):(execOp a.eval o).run P w = .ok (.value I) w':=by
 unfold execOp;simp[ho,resolve,invoke,builtin,hs,hy,E]
theorem yB{e:Nat}{z:Value}(hi:(P.info? e).map (fun i=>(i.zero,i.size,i.bytes))=some (some z,sz,bytes)):∃i,P.info? e=some i∧i.zero=some z∧i.size=sz∧i.bytes=bytes:=by
 cases h:P.info? e with
 | none=>simp[h] at hi
 | some i=>simp[h] at hi;exact⟨i,rfl,hi⟩
theorem Oi {s:Operand} {t e:Nat} {z:Value} {cs:List D} (ho:o.op = .call {callee:=.builtin .append,args:=#[s,y],argTypes:=#[t,t]}) (hd:o.dst=some tt)
  (ht:P.underlying t=some (.slice e)) (hi:(P.info? e).map (fun i=>(i.zero,i.size,i.bytes))=some (some z,sz,bytes)) (eZ:z.cells.size=sz) (iv:0<sz)
  (hs:aG x s = .v (.slice (some ⟨b,0,none⟩) n cap)) (hk:x.S[k]?=some B) (hb:B.b=b) (he:B.e=e) (anJ:B.size=cap*sz) (hl:B.cs.length=n*sz) (hn:n≤cap) (Z:cap≤maxLen)
  (hy:aG x y = .list sz cs m) (iC:∀d∈cs,one d=true) (hm:0<m) (gz:n+m≤maxLen) (O:(n+m)*bytes≤140737488355328) (hne:isMap B.e=false:=by rfl) :
  fR P G x o [b] (Rx x tt e sz (n+m) (B.cs++cs) (x.S.eraseIdx k)):=fun C a w K Q hG h hK=>by
 subst hb he;obtain⟨i,j8,lU,oT,pS⟩:=yB hi;obtain⟨r0,cur,r1,r2,r3,r4⟩:=h.fC hk;rw[kg hne] at r1;have hr:=h.eval y;rw[hy] at hr;generalize hg:a.eval y=u at hr;cases hr with
 | mb=>omega
 | list _ _ _ b' o' I f lV q1 q2 jM hL hc Ag =>
  have kE:w.ownsRow 0 B.e sz (.slice (some ⟨B.b,0,none⟩) n cap) n (cur.toList.take (n*sz)) :=
   ⟨by simp;omega,.inr ⟨B.b,cap,cur,rfl,Nat.zero_le _,r1,hn,Z,by omega,rfl⟩⟩
  obtain⟨v',w',nH,h2,h3,_,h5⟩:=run_append_own_at (P:=P) w 0 t o.type B.e i z sz bytes ht j8 lU oT pS eZ iv _ n _ kE ⟨b',o',none⟩ m I ((range cs.length).map f) (by simp[lV]) (fun j u hu=>by
    rw[Addr.add_mid];obtain⟨hj,he⟩:=List.getElem?_eq_some_iff.1 hu;simp only[length_map,length_range] at hj;rw[hc j hj,←he];simp) (fun u hu=>by
    obtain⟨j,hj,rfl⟩:=mem_map.1 hu;have jx:=mem_range.1 hj;exact(Ag j jx).AO (iC _ (getElem_mem jx))) gz O (Nat.zero_le _)
  obtain⟨g,E,rfl,_,aa⟩:=h2.form w4;have h6:(Value.slice (some ⟨B.b,0,none⟩) n cap).ownBlock=some g∨g=w.heap.size:=by
   rcases h5 with h5|h5
   ·exact .inl (by rw[←h5];rfl)
   right;simpa[Value.ownBlock] using h5
  obtain⟨_,h2⟩:=h2;rcases h2 with ⟨h2,_⟩|⟨g',I,lK,e1,_,e2,e3,e4,e5,e6⟩
  ·cases h2
  have CC:g=g'∧E=I:=(by simpa using e1)
  obtain⟨rfl,rfl⟩:=CC;have hlen:(B.cs++cs).length=(n+m)*sz:=(by rw[length_append,hl,lV,Nat.add_mul])
  have Mu:(n+m)*sz≤E*sz:=Nat.mul_le_mul_right _ e3;have BN:∀i,i<(n+m)*sz→lK[i]?=(cur.toList.take (n*sz)++(range cs.length).map f)[i]?:=fun i hi=>by
   rw[←e6,getElem?_take_of_lt hi,Array.getElem?_toList]
  obtain⟨s1,s2,s3⟩:=h.grown (t:=tt) (m:=n+m) (e:=B.e) (sz:=sz) (S:=x.S.eraseIdx k) (cs:=B.cs++cs) (row:=some B.b) (g:=g) (cap:=E) (eraseIdx_sublist _ _) (fun k' qB=>by
    have:B.b=k':=(by simpa using qB)
    subst this;refine⟨mem_map.2 ⟨B,mem_of_getElem? hk,rfl⟩,fun hm=>?_⟩;have hp:(aq x.S).Perm (B.b::aq (x.S.eraseIdx k)):=(by have:=(uD hk).map ah.b;simpa[aq] using this)
    exact(nodup_cons.1 (hp.nodup_iff.1 h.own.apart)).1 hm) h3 h6 aa e2 e5 w4 (fun i hi=>by
    rw[hlen] at hi;rw[BN i hi];by_cases j9:i<n*sz
    ·obtain⟨u,hu,hq⟩:=r4 i w4;refine⟨u,?_,?_⟩
     ·rw[getElem?_append_left iq,getElem?_take_of_lt j9,Array.getElem?_toList,hu]
     rw[getElem_append_left w4];exact hq
    have U:i-n*sz<cs.length:=(by rw[lV];rw[Nat.add_mul] at hi;omega)
    refine⟨f (i-n*sz),?_,?_⟩
    ·rw[getElem?_append_right iq];have:(cur.toList.take (n*sz)).length=n*sz:=(by simp;omega)
     rw[this];simp[U]
    rw[getElem_append_right w4];have:=Ag (i-n*sz) U;simp only[hl];exact this) hne
  unfold Oper.wp;rw[AB (P:=P) ho (h.flat hs) hg nH,Oper.upon_value,hd];exact hK _ _ _ ⟨g,E,e3,e4,rfl⟩ s1 s2 s3
theorem NX {s:Operand} {t e:Nat} {z:Value} {cs:List D} (ho:o.op = .call {callee:=.builtin .append,args:=#[s,y],argTypes:=#[t,t]}) (hd:o.dst=some tt)
  (ht:P.underlying t=some (.slice e)) (hi:(P.info? e).map (fun i=>(i.zero,i.size,i.bytes))=some (some z,sz,bytes)) (eZ:z.cells.size=sz) (iv:0<sz)
  (hs:aG x s = .v (.slice none 0 0)) (hy:aG x y = .list sz cs m) (iC:∀d∈cs,one d=true) (hm:0<m) (gz:m≤maxLen) (O:m*bytes≤140737488355328) (hne:isMap e=false:=by rfl) :
  fR P G x o [] (Rx x tt e sz m cs x.S):=fun C a w K Q hG h hK=>by
 obtain⟨i,j8,lU,oT,pS⟩:=yB hi;have hr:=h.eval y;rw[hy] at hr;generalize hg:a.eval y=u at hr;cases hr with
 | mb=>omega
 | list _ _ _ b' o' I f lV q1 q2 jM hL hc U =>
  have Z:w.ownsRow 0 e sz (.slice none 0 0) 0 []:=⟨by simp,.inl ⟨rfl,rfl⟩⟩
  obtain⟨v',w',nH,h2,h3,_,h5⟩:=run_append_own_at (P:=P) w 0 t o.type e i z sz bytes ht j8 lU oT pS eZ iv _ 0 _ Z ⟨b',o',none⟩ m I ((range cs.length).map f) (by simp[lV]) (fun j u hu=>by
    rw[Addr.add_mid];obtain⟨hj,he⟩:=List.getElem?_eq_some_iff.1 hu;simp only[length_map,length_range] at hj;rw[hc j hj,←he];simp) (fun u hu=>by
    obtain⟨j,hj,rfl⟩:=mem_map.1 hu;have jx:=mem_range.1 hj;exact(U j jx).AO (iC _ (getElem_mem jx))) (by rw[Nat.zero_add];exact gz) (by rw[Nat.zero_add];exact O) (Nat.zero_le _)
  simp only[Nat.zero_add,nil_append] at h2;obtain⟨g,E,rfl,_,aa⟩:=h2.form w4;have h6:(none:Option Nat)=some g∨g=w.heap.size:=by
   rcases h5 with h5|h5
   ·simp[Value.ownBlock] at h5
   right;simpa[Value.ownBlock] using h5
  obtain⟨_,h2⟩:=h2;rcases h2 with ⟨h2,_⟩|⟨g',I,lK,e1,_,e2,e3,e4,e5,e6⟩
  ·cases h2
  have CC:g=g'∧E=I:=(by simpa using e1)
  obtain⟨rfl,rfl⟩:=CC;have Mu:m*sz≤E*sz:=Nat.mul_le_mul_right _ e3;obtain⟨s1,s2,s3⟩:=h.grown (t:=tt) (m:=m) (e:=e) (sz:=sz) (S:=x.S) (cs:=cs) (row:=none) (g:=g) (cap:=E) (Sublist.refl _) (fun k' qB=>by cases qB) h3 h6 aa e2 e5 w4 (fun i hi=>by
    refine⟨f i,?_,U i hi⟩;have:lK[i]?=((range cs.length).map f)[i]?:=(by rw[←e6,getElem?_take_of_lt w4,Array.getElem?_toList])
    rw[this];simp[hi]) hne
  unfold Oper.wp;rw[AB (P:=P) ho (h.flat hs) hg nH,Oper.upon_value,hd];exact hK _ _ _ ⟨g,E,e3,e4,rfl⟩ s1 s2 s3
theorem NY {s:Operand} {t e:Nat} {cs:List D} (ho:o.op = .call {callee:=.builtin .append,args:=#[s,y],argTypes:=#[t,t]})
  (O:∀w,(underlying t).run P w = .ok (.slice e) w) (E:∀w,(sizeOf e).run P w = .ok sz w) (hs:aG x s = .v (.slice ad n cap)) (hn:n≤cap) (hy:aG x y = .list sz cs 0):bV P G x o .none (.v (.slice ad n cap)):=fun C a w _ h=>by
 refine⟨_,.v _,fun w' _=>?_⟩;have hr:=h.eval y;rw[hy] at hr;generalize hg:a.eval y=u at hr;refine AB (P:=P) ho (h.flat hs) hg ?_;have U:n+0≤cap:=hn;cases hr with
 | mb _ I kG=>cases I<;>cases ad<;>simp[Builtin.append_,O,E,Builtin.lenOf,Builtin.firstCells,storeCells,loadCells,loadCellsFrom,hn,Nat.not_lt.2 hn]
 | list _ _ _ b' o' kG f lV q1 q2 jM hL hc Z=>cases ad<;>simp[Builtin.append_,O,E,Builtin.lenOf,Builtin.firstCells,storeCells,loadCells,loadCellsFrom,hn,Nat.not_lt.2 hn]

end Go.Proofs.YtdgichenhdikgaaGreatDoor.V
namespace Go.Proofs.YtdgichenhdikgaaGreatDoor.V
open List
open Go.RowKit
variable {g t n:Nat} {E b:Bool} {l':List (Nat×D)} {S':List ah} {c:Code} {ds:List D} {fn:Func} {L:Nat→Prop} {r1:ResultVar}
def LQ(C:dL)(Q:Exit→St→Prop):Exit→Act→World→Prop:=fun e a w=>(∃y,bE C y a w∧Q e y)∨(e = .ret∧C.Cz a w)
def CD(P:Program)(C:dL)(c:Code)(x:St)(Q:Exit→St→Prop):Prop:=∀a w,bE C x a w→c.wp P (LQ C Q) a w
def OD(P:Program)(C:dL)(ops:Array Oper)(l:List Oper)(x:St)(Q:Exit→St→Prop):Prop:=∀a w,bE C x a w→wpList P ops (LQ C Q) l a w
variable {P:Program} {C:dL} {Q:Exit→St→Prop} {x y:St} {ops:Array Oper} {l:List Oper} {o:Oper}
def cj(ops:Array Oper)(x:St)(o:Oper)(b:Bool):Prop:=∀C a w,bE C x a w→Region.wanted o (yielded ops a.tmps)=b
theorem rN(h:o.guard=none):cj ops x o true:=fun C a w _=>by simp[Region.wanted,h]
theorem P3(h:o.guard=some (g,E))(hg:(ops[g]?).bind (·.dst)=some t)(ht:t<x.n)(hb:look t x.env = .v (.bool b)):cj ops x o (b==E):=fun C a w hs=>by
 have I:=hs.env t ht;rw[hb] at I;have I:=I.kP;have O:=hs.size;have:a.tmps[t]?=some (.bool b):=by
  rw[Array.getD_eq_getD_getElem?,Array.getElem?_eq_getElem w4] at I;rw[Array.getElem?_eq_getElem w4];simpa using I
 simp only[Region.wanted,h,yielded,hg,Option.bind_some,this];cases b<;>cases E<;>rfl
theorem fD{d:D}{r:List (Nat×D)}:look t ((t,d)::r)=d:=by rw[fW,if_pos rfl]
theorem fX{d d':D}{r:List (Nat×D)}(h:d=d'):look t ((t,d)::r)=d':=by rw[fW,if_pos rfl,h]
theorem fH{i:Nat}{d d':D}{r:List (Nat×D)}(h:Nat.beq i t=false)(k:look t r=d'):look t ((i,d)::r)=d':=by rw[look,h];exact k
theorem bL{v:Value}{x:St}:aG x (.const v) = .v v:=rfl
theorem s7{f:FuncId}{x:St}:aG x (.func f) = .eB (.func f) []:=rfl
theorem vX{x:St}:aG x (.global g) = .v (.pointer (some ⟨g,0,none⟩)):=rfl
theorem tu{d:D}{x:St}(h:Nat.blt t x.n=true)(k:look t x.env=d):aG x (.tmp t)=d:=by simp only[aG,h,k];rfl
theorem lk{l:List (Nat×D)}{d:D}(h:look t l=d:=by (repeat (first|exact fD|(apply fH;focus rfl)|exact look_nil));first|done|fail):look t l=d:=h
theorem ot{d:D}{x:St}(h:Nat.blt t x.n=true:=by exact rfl)(k:look t x.env=d:=by (repeat (first|exact fD|(apply fH;focus rfl)|exact look_nil));first|done|fail):aG x (.tmp t)=d:=tu h k
def nf(l:List (Nat×D)):List (Nat×D)→Prop
 | []=>True
 | (i,d)::r=>look i l=d∧nf l r
theorem nf.look{l:List (Nat×D)}:∀{l':List (Nat×D)},nf l l'→∀t,V.look t l'=V.look t l∨V.look t l' = .bW
 | [],_,t=>.inr rfl
 | (i,d)::r,h,t=>by
  rw[fW];by_cases e:i=t
  ·subst e;rw[if_pos rfl];exact .inl h.1.symm
  rw[if_neg e];exact h.2.look t
theorem Wk.kv{l:List (Nat×D)}{S:List ah}(h:nf l l'):Wk ⟨n,l,S⟩ ⟨n,l',S⟩:=fun C a w hs =>
 ⟨hs.defers,hs.size,fun t ht=>by
  rcases h.look t with e|e
  ·simp only[e];exact hs.env t ht
  simp only[e];exact .bW _,hs.own,hs.fr,hs.ex,hs.eS⟩
theorem Wk.dU{x:St}(hn:x.n=n)(hS:x.S=S')(h:nf x.env l'):Wk x ⟨n,l',S'⟩:=by
 obtain⟨n0,l0,S0⟩:=x;simp only at hn hS h;subst hn hS;exact Wk.kv h
theorem Wk.asS{x:St}(hn:x.n=n)(hS:S'.Sublist x.S)(h:nf x.env l'):Wk x ⟨n,l',S'⟩:=by
 obtain⟨n0,l0,S0⟩:=x;simp only at hn hS h;subst hn;exact(Wk.drop n0 l0 S0 S' hS).trans (Wk.kv h)
theorem tD{ops:Array Oper}{x:St}{o:Oper}(h:o.guard=some (g,E))(hg:(ops[g]?).bind (·.dst)=some t)(ht:Nat.blt t x.n=true)(hb:look t x.env = .v (.bool b))(hw:b=E):cj ops x o true:=by
 have:=P3 h hg (Nat.le_of_ble_eq_true ht) hb;rw[hw] at this;simpa using this
theorem mw{ops:Array Oper}{x:St}{o:Oper}(h:o.guard=some (g,E))(hg:(ops[g]?).bind (·.dst)=some t)(ht:Nat.blt t x.n=true)(hb:look t x.env = .v (.bool b))(hw:b = !E):cj ops x o false:=by
 have:=P3 h hg (Nat.le_of_ble_eq_true ht) hb;rw[hw] at this;cases E<;>simpa using this
theorem IW{ops:Array Oper}{x:St}{o:Oper}{b:Bool}(h:o.guard=some (g,E))(hg:(ops[g]?).bind (·.dst)=some t)(ht:Nat.blt t x.n=true)(hb:look t x.env = .v (.tuple #[])):cj ops x o false:=fun C a w hs=>by
 have I:=hs.env t (Nat.le_of_ble_eq_true ht);rw[hb] at I;have I:=I.kP;have O:=hs.size;have GK:t<x.n:=Nat.le_of_ble_eq_true ht;have:a.tmps[t]?=some (.tuple #[]):=by
  rw[Array.getD_eq_getD_getElem?,Array.getElem?_eq_getElem w4] at I;rw[Array.getElem?_eq_getElem w4];simpa using I
 simp only[Region.wanted,h,yielded,hg,Option.bind_some,this];cases E<;>rfl
theorem OD.nil(h:Q .normal x):OD P C ops [] x Q:=fun a w hs=>.inl ⟨x,hs,h⟩
theorem OD.fY{W:List Nat}{post:St→Prop}(hw:cj ops x o true)(h:fR P C.G x o W post)(k:∀y,post y→OD P C ops l y Q):OD P C ops (o::l) x Q:=fun a w hs=>by
 unfold wpList;rw[if_pos (hw C a w hs)];exact .inl (h C a w _ _ rfl hs fun y a' w' hp E _ _=>k y hp a' w' E)
theorem OD.still{kd:Rd}{d:D}(hw:cj ops x o true)(hd:o.dst=some t)(h:bV P C.G x o kd d)(k:OD P C ops l (x.put t d) Q):OD P C ops (o::l) x Q :=
 OD.fY hw (h.fY hd) fun y hy=>by subst hy;exact k
theorem OD.skip(hw:cj ops x o false)(hd:o.dst=some t)(k:OD P C ops l (x.put t (.v (.tuple #[]))) Q):OD P C ops (o::l) x Q:=fun a w hs=>by
 unfold wpList;rw[if_neg (by rw[hw C a w hs];simp),hd];exact k _ _ (hs.put (.v _))
theorem OD.wk(h:Wk x y)(k:OD P C ops l y Q):OD P C ops l x Q:=fun a w hs=>k a w (h C a w hs)
theorem CD.wk(h:Wk x y)(k:CD P C c y Q):CD P C c x Q:=fun a w hs=>k a w (h C a w hs)
theorem CD.mono{E:Exit→St→Prop}(h:CD P C c x Q)(k:∀e y,Q e y→E e y):CD P C c x E:=fun a w hs =>
 wp_mono (h a w hs) fun e a' w' h=>h.imp (fun ⟨y,h1,h2⟩=>⟨y,h1,k e y h2⟩) id
theorem CD.skip(h:Q .normal x):CD P C .skip x Q:=fun a w hs=>wp_skip (.inl ⟨x,hs,h⟩)
theorem CD.ret(h:Q .ret x):CD P C .ret x Q:=fun a w hs=>wp_ret (.inl ⟨x,hs,h⟩)
theorem CD.exit{id:Nat}(h:Q (.exit id) x):CD P C (.exit id) x Q:=fun a w hs=>wp_exit (.inl ⟨x,hs,h⟩)
def BO(P:Program)(C:dL)(c:Code)(Q:Exit→St→Prop):Exit→St→Prop
 | .normal,y=>CD P C c y Q
 | e,y=>Q e y
theorem CD.seq{c d:Code}(h:CD P C c x (BO P C d Q)):CD P C (.seq c d) x Q:=fun a w hs =>
 wp_seq (wp_mono (h a w hs) fun e a' w' h=>by
  rcases h with ⟨y,h1,h2⟩|⟨rfl,h⟩
  ·cases e<;>first|exact h2 a' w' h1|exact .inl ⟨y,h1,h2⟩
  exact .inr ⟨rfl,h⟩)
theorem CD.region{id:Nat}{l:List Oper}(h:OD P C l.toArray l x Q):CD P C (.region id l.toArray false) x Q:=fun a w hs=>wp_region_lit (h a w hs)
theorem CD.cond{c:Operand}{d e:Code}{b:Bool}(hc:aG x c = .v (.bool b))(ht:b=true→CD P C d x Q)(hf:b=false→CD P C e x Q):CD P C (.cond c d e) x Q:=fun a w hs =>
 wp_cond_split (hs.flat hc) (fun h=>ht h a w hs) (fun h=>hf h a w hs)
theorem CD.agd{c:Operand}{d e:Code}(hc:aG x c = .v (.bool b))(hb:b=true)(ht:CD P C d x Q):CD P C (.cond c d e) x Q:=fun a w hs =>
 wp_cond_true (by rw[hs.flat hc,hb]) (ht a w hs)
theorem CD.Ka{c:Operand}{d e:Code}(hc:aG x c = .v (.bool b))(hb:b=false)(hf:CD P C e x Q):CD P C (.cond c d e) x Q:=fun a w hs =>
 wp_cond_false (by rw[hs.flat hc,hb]) (hf a w hs)
def Mw(Inv:St→Prop)(Q:Exit→St→Prop):Exit→St→Prop
 | .normal,y=>∃z,Wk y z∧Inv z
 | e,y=>Q e y
theorem CD.cut{d:Code}(E:St→Prop)(h1:CD P C c x (Mw E Q))(h2:∀z,E z→CD P C d z Q):CD P C (.seq c d) x Q :=
 CD.seq (CD.mono h1 fun e y h=>by cases e<;>first|(obtain⟨z,hw,hz⟩:=h;exact CD.wk hw (h2 z hz))|exact h)
def AX(id:Nat)(Q:Exit→St→Prop):Exit→St→Prop
 | .exit sS,y=>bif Nat.beq sS id then Q .normal y else Q (.exit sS) y
 | e,y=>Q e y
theorem CD.block{id:Nat}{c:Code}(h:CD P C c x (AX id Q)):CD P C (.block id c) x Q:=fun a w hs =>
 wp_block (wp_mono (h a w hs) fun e a' w' h=>by
  rcases h with ⟨y,h1,h2⟩|⟨rfl,h⟩
  case inr=>exact .inr ⟨rfl,h⟩
  cases e with
  | exit sS =>
   simp only[AX] at h2;simp only[Exit.inBlock];by_cases he:sS=id
   ·subst he;rw[if_pos rfl];simp at h2;exact .inl ⟨y,h1,h2⟩
   rw[if_neg he];have:Nat.beq sS id=false:=by
    cases h:Nat.beq sS id with
    | false=>rfl
    | true=>exact absurd (Nat.eq_of_beq_eq_true h) he
   rw[this] at h2;exact .inl ⟨y,h1,h2⟩
  | _=>exact .inl ⟨y,h1,h2⟩)
theorem least(p:Nat→Prop)(h:∃n,p n):∃n,p n∧∀m,p m→n≤m:=by
 obtain⟨n,hn⟩:=h;induction n using Nat.strongRecOn with
 | _ n ih =>
  by_cases hq:∃m,m<n∧p m
  ·obtain⟨m,hm,hp⟩:=hq;exact ih m hm hp
  exact⟨n,hn,fun m hm=>Nat.le_of_not_lt fun aa=>hq ⟨m,aa,hm⟩⟩
def Bq{ι:Type}(I:ι→St→Prop)(μ:ι→Nat)(i:ι)(Q:Exit→St→Prop):Exit→St→Prop
 | .normal,y=>∃j z,μ j < μ i∧Wk y z∧I j z
 | e,y=>Q e y
open Classical in
theorem CD.loop{ι:Type}{c:Code}(I:ι→St→Prop)(μ:ι→Nat)(i:ι)(h0:I i x)(round:∀i y,I i y→CD P C c y (Bq I μ i Q)):CD P C (.loop c) x Q:=fun a w hs=>by
 let p:Act→World→Nat→Prop:=fun a w n=>∃i y,μ i=n∧I i y∧bE C y a w
 let m:Act→World→Nat:=fun a w=>if h:∃n,p a w n then Classical.choose (least _ h) else 0
 refine wp_loop (fun a w=>∃n,p a w n) m ⟨_,i,x,rfl,h0,hs⟩ fun a w O=>?_;have hm:m a w=Classical.choose (least _ O):=dif_pos O;obtain⟨⟨i,y,h1,h2,h3⟩,_⟩:=Classical.choose_spec (least _ O);rw[←hm] at h1;refine wp_mono (round i y h2 a w h3) fun e a' w' h=>?_;rcases h with ⟨z,q1,q2⟩|⟨rfl,h⟩
 case inr=>exact .inr ⟨rfl,h⟩
 cases e with
 | normal =>
  obtain⟨j,z',r1,r2,Z⟩:=q2;have hp:p a' w' (μ j):=⟨j,z',rfl,Z,r2 C a' w' q1⟩
  have E:∃n,p a' w' n:=⟨_,hp⟩
  have U:m a' w'=Classical.choose (least _ E):=dif_pos E;refine⟨E,?_⟩;have:=(Classical.choose_spec (least _ E)).2 _ hp;rw[U];omega
 | _=>exact .inl ⟨z,q1,q2⟩
def KP(tmps:Array Value):ResultVar→Sem Value
 | .tmp t=>pure (tmps.getD t undef)
 | .cell a t=>do loadVar t (←asAddr (tmps.getD a undef))
theorem Hy(fn:Func)(tmps:Array Value):results fn tmps=(do let vs ←fn.results.mapM (KP tmps);pure (if h:vs.size=1 then vs[0] else .tuple vs)):=rfl
def sU(P:Program)(y:St)(rv:ResultVar)(d:D):Prop :=
 ∀C a w,bE C y a w→∃v,cq w (live C.X y.S) d v∧(KP a.tmps rv).run P w = .ok v w
theorem yC{d:D}(ht:t<y.n)(hd:look t y.env=d):sU P y (.tmp t) d:=fun C a w h=>⟨_,hd ▸ h.env t ht,rfl⟩
theorem rR{c k b:Nat}{B:ah}(hc:c<y.n)(hd:look c y.env = .v (.pointer (some ⟨b,0,none⟩)))(hk:y.S[k]?=some B)(hb:B.b=b)(ha:∀w,(isAgg t).run P w = .ok true w)(hn:∀w,(sizeOf t).run P w = .ok n w)(dB:B.cs=ds)(hl:ds.length=n)(hne:isMap B.e=false:=by rfl):sU P y (.cell c t) (.agg ds):=fun C a w h=>by
 subst hb dB;have he:=h.env c hc;rw[hd] at he;obtain⟨_,cur,h1,h2,h3,h4⟩:=h.fC hk;rw[kg hne] at h1;refine⟨.agg ((range n).map fun j=>cur.getD j undef).toArray,.agg _ _ (by simp[hl]) (fun i q1 q2=>?_),?_⟩
 ·obtain⟨u,hu,hr⟩:=h4 i q1;simp only[getElem_map,getElem_range,Array.getD_eq_getD_getElem?,hu,Option.getD_some];exact hr
 simp only[KP,he.kP,asAddr,Sem.run_bind,Sem.run_pure,Result.andThen_ok];have:=HJ (P:=P) (t:=t) (w:=w) (b:=B.b) (o':=0) (vs:=(range n).map fun j=>cur.getD j undef) ha hn bu (fun j hj=>by
  simp only[length_map,length_range] at hj;obtain⟨u,hu,_⟩:=h4 j w4;simp only[getElem_map,getElem_range,Array.getD_eq_getD_getElem?,hu,Option.getD_some,Nat.zero_add];exact nV h1 hu)
 simpa[Instr.loadAt,Instr.sureAddr] using this
def sV(P:Program)(fn:Func)(y:St)(r:D):Prop:=∀C a w,bE C y a w→∃v,cq w (live C.X y.S) r v∧(results fn a.tmps).run P w = .ok v w
theorem qa(hr:fn.results = #[]):sV P fn y (.dF []):=fun C a w h =>
 ⟨.tuple #[],.dF [] [] rfl (fun i h1 _=>by simp at h1),by unfold results;simp[hr]⟩
theorem Ry{rv:ResultVar}{d:D}(hr:fn.results = #[rv])(h:sU P y rv d):sV P fn y d:=fun C a w hs=>by
 obtain⟨v,h1,h2⟩:=h C a w hs;refine⟨v,h1,?_⟩;rw[Hy,hr];simp[h2]
theorem Rz{w:World}{vs:List Value}(h:cN w L ds vs):cq w L (.dF ds) (.tuple vs.toArray):=.dF ds vs h.1 h.2
theorem cN.cons{w:World}{d:D}{v:Value}{vs:List Value}(h:cq w L d v)(hs:cN w L ds vs):cN w L (d::ds) (v::vs) :=
 ⟨by simp[hs.1],fun i h1 h2=>by
  cases i with
  | zero=>exact h
  | succ i=>exact hs.2 i _ _⟩
theorem cN.nil(w:World)(L:Nat→Prop):cN w L [] []:=⟨rfl,fun i h=>by simp at h⟩
theorem IY{E:ResultVar}{d1 d2:D}(hr:fn.results = #[r1,E])(h1:sU P y r1 d1)(h2:sU P y E d2):sV P fn y (.dF [d1,d2]):=fun C a w hs=>by
 obtain⟨v1,a1,b1⟩:=h1 C a w hs;obtain⟨v2,a2,b2⟩:=h2 C a w hs;refine⟨_,Rz (.cons a1 (.cons a2 (.nil _ _))),?_⟩;rw[Hy,hr];simp[b1,b2]
theorem ZS{E I:ResultVar}{d1 d2 O:D}(hr:fn.results = #[r1,E,I])(h1:sU P y r1 d1)(h2:sU P y E d2)(h3:sU P y I O):sV P fn y (.dF [d1,d2,O]):=fun C a w hs=>by
 obtain⟨v1,a1,b1⟩:=h1 C a w hs;obtain⟨v2,a2,b2⟩:=h2 C a w hs;obtain⟨v3,a3,b3⟩:=h3 C a w hs;refine⟨_,Rz (.cons a1 (.cons a2 (.cons a3 (.nil _ _)))),?_⟩;rw[Hy,hr];simp[b1,b2,b3]
def Body(P:Program)(fn:Func)(post:D→List ah→Prop)(e:Exit)(y:St):Prop :=
 (e = .normal∨e = .ret)∧∃r S',S'.Sublist y.S∧sV P fn y r∧post r S'
def sb:Nat→List D→List (Nat×D)
 | _,[]=>[]
 | i,d::r=>(i,d)::sb (i+1) r
theorem D0:∀(ds:List D) (i t:Nat),look t (sb i ds)=if i≤t then ds.getD (t-i) .bW else .bW
 | [],i,t=>by simp[sb,look]
 | d::r,i,t=>by
  rw[sb,fW,D0 r (i+1) t];by_cases h:i=t
  ·subst h;simp
  rw[if_neg h];by_cases h2:i≤t
  ·rw[if_pos h2,if_pos w4,show t-i=(t-(i+1))+1 from by omega];simp
  rw[if_neg h2,if_neg w4]
theorem VC.body {G:List (Nat×List Value)} {f:FuncId} {fn:Func} {c:Code} {n:Nat} {args:List D} {S:List ah} {post:D→List ah→Prop} (hf:P.funcs[f]?=some fn) (hb:fn.body=some c) (hn:fn.ntmps=n) (hl:args.length≤n)
  (h:∀X w0 S0,CD P ⟨X,w0,S0,G,[],fun _ _=>False⟩ c ⟨n,sb 0 args,S⟩ (Body P fn post)):VC P G f args S post:=fun X w vs hp=>by
 have Z:vs.length=args.length:=hp.args.1;let C:dL:=⟨X,w,aq S,G,[],fun _ _=>False⟩
 have I:bE C ⟨n,sb 0 args,S⟩ {tmps:=vs.toArray++Array.replicate (fn.ntmps-vs.toArray.size) undef,defers:=[]} w:=by
  refine⟨rfl,by simp[hn];omega,fun t ht=>?_,hp.own,Fr.refl _ _,hp.ex,hp.eS⟩;simp only[D0,Nat.zero_le,if_true,Nat.sub_zero];by_cases aa:t<args.length
  ·have e1:args.getD t .bW=args[t]:=(by simp[getD,aa])
   have e2:(vs.toArray++Array.replicate (fn.ntmps-vs.toArray.size) undef).getD t undef=vs[t]'w4:=by
    rw[Array.getD_eq_getD_getElem?,Array.getElem?_append_left iq];simp[show t<vs.length by omega]
   rw[e1,e2];exact hp.args.2 t aa w4
  have e1:args.getD t .bW = .bW:=(by simp[getD,getElem?_eq_none (show args.length≤t by omega)])
  rw[e1];exact .bW _
 refine calls_of_wp hf hb (wp_mono (h _ _ _ _ _ I) fun e a w' h=>?_);rcases h with ⟨y,h1,h2,r,S',h3,h4,h5⟩|⟨_,h⟩
 case inr=>exact h.elim
 obtain⟨v,q1,q2⟩:=h4 C a w' h1;have E:(aq S').Sublist (aq y.S):=Sublist.map _ h3;have key:a.defers=[]∧∃v,(results fn a.tmps).run P w' = .ok v w'∧∃U r S',Ending.returned v = .returned U∧post r S'∧Own w' (live X S') S'∧cq w' (live X S') r U∧Fr w (aq S) w' (aq S') :=
  ⟨h1.defers,v,q2,v,r,S',rfl,h5,h1.own.sub h3,q1.mono fun b _ hn=>⟨rfl,fun hl=>hn (hl.imp id fun q=>E.subset q)⟩,
   ⟨h1.fr.os,h1.fr.tape,h1.fr.output,h1.fr.size,fun b O hn=>⟨(h1.fr.block b O hn).1,fun q=>(h1.fr.block b O hn).2 (E.subset q)⟩⟩⟩
 rcases h2 with rfl|rfl<;>exact key

end Go.Proofs.YtdgichenhdikgaaGreatDoor.V
namespace Go.Proofs.YtdgichenhdikgaaGreatDoor.V
open List
open Go.RowKit
variable {fuel i t:Nat} {ld:Array Bool}
def kQ(w1:World)(S1 T:List Nat)(w:World):Prop:=(∀b,b<w1.heap.size→b∉S1→w.heap[b]?=w1.heap[b]?)∧∀b∈T,w.heap[b]?=w1.heap[b]?
def AD(P:Program)(C:dL)(ops:Array Oper)(S1 T:List Nat)(fuel:Nat)(ld:Array Bool)(x:St)(Q:Exit→St→Prop):Prop :=
 ∀w1 a w,bE C x a w→(∀b∈T,b∈S1)→(∀b∈S1,b<w1.heap.size)→Fr w1 S1 w (aq x.S)→kQ w1 S1 T w→wpAnyH P .any ops (LQ C Q) (kQ w1 S1 T) fuel ld a w
def di(P:Program)(C:dL)(ops:Array Oper)(S1 T:List Nat)(fuel:Nat)(ld:Array Bool)(x:St)(Q:Exit→St→Prop):Prop :=
 ∀a w,bE C x a w→aq x.S=S1→(∀b∈T,b∈S1)→wpAnyH P .any ops (LQ C Q) (kQ w S1 T) fuel ld a w
def NP(Q:Exit→St→Prop):Prop:=∀c y t,Q (.panic c) y→Q (.panic c) (y.put t .bW)
variable {P:Program} {C:dL} {Q:Exit→St→Prop} {x y:St} {ops:Array Oper} {l:List Oper} {o:Oper} {S1 T:List Nat}
theorem NP.body{fn:Func}{post:D→List ah→Prop}:NP (Body P fn post):=fun E y t hq=>by rcases hq.1 with h|h<;>cases h
def Tl(P:Program)(C:dL)(ops:Array Oper)(l:List Oper)(Q:Exit→St→Prop):Exit→St→Prop
 | .normal,y=>OD P C ops l y Q
 | e,y=>Q e y
theorem kQ.refl(w1:World)(S1 T:List Nat):kQ w1 S1 T w1:=⟨fun _ _ _=>rfl,fun _ _=>rfl⟩
theorem di.later(hS:aq x.S=S1)(h:AD P C ops S1 T fuel ld x Q):di P C ops S1 T fuel ld x Q:=fun a w hs _ hT =>
 h w a w hs hT (fun b hb=>by
  rw[←hS] at hb;obtain⟨B,hB,rfl⟩:=mem_map.1 hb;exact(hs.own.at_ B hB).1) (hS ▸ Fr.refl _ _) (kQ.refl _ _ _)
def Safe(x:St)(T:List Nat):Rd→Prop
 | .none=>True
 | .jU=>True
 | .fC k=>∃B,x.S[k]?=some B∧B.b∈T
theorem yW(h:NP Q)(d:Option Nat)(v:Value):∀c a w,LQ C Q (.panic c) (a.put d v) w→LQ C Q (.panic c) a w:=fun c a w hq=>by
 rcases hq with ⟨y,h1,h2⟩|⟨h2,_⟩
 ·cases d with
  | none=>exact .inl ⟨y,h1,h2⟩
  | some t =>
   refine .inl ⟨y.put t .bW,⟨h1.defers,by have E:=h1.size;simp only[Act.put,Array.size_setIfInBounds] at E;exact E,fun q hq=>?_,h1.own,h1.fr,h1.ex,h1.eS⟩,h c y t h2⟩;have h3:=h1.env q hq;simp only[St.put,fW];by_cases e:t=q
   ·rw[if_pos e];exact .bW _
   rw[if_neg e];have:(a.put (some t) v).tmps.getD q undef=a.tmps.getD q undef:=(by simp[Act.put,Array.getD_eq_getD_getElem?,Array.getElem?_setIfInBounds,e])
   rw[this] at h3;exact h3
 cases h2
theorem di.take {k:Rd} {d:D} (hi:ops[i]?=some o) (hs:Region.noSelect ops=true) (hf:Region.free .any ops ld i=true) (hr:(Region.ready .any ops ld).contains i=true) (hp:NP Q)
  (hw:cj ops x o true) (hd:o.dst=some t) (h:bV P C.G x o k d) (hk:Safe x T k) (K:di P C ops S1 T fuel (ld.setIfInBounds i true) (x.put t d) Q):di P C ops S1 T (fuel+1) ld x Q:=fun a w E hS hT=>by
 obtain⟨v,h1,h2⟩:=h C a w rfl E;refine wpAnyH_take hi hs hf hr (yW hp _ v) (.inl ⟨hw C a w E,fun w' I=>h2 w' ?_⟩) (kQ.refl _ _ _) ?_
 ·cases k with
  | none=>trivial
  | jU=>exact fun b hb hn=>I.1 b hb (fun hm=>hn (.inr (hS ▸ hm)))
  | fC k =>
   obtain⟨B,hB,hm⟩:=hk;intro B' O;rw[hB] at O;obtain rfl:=Option.some.inj O;exact I.2 _ hm
 rw[hd];exact K _ _ (E.put h1) hS hT
theorem di.Im (hi:ops[i]?=some o) (hs:Region.noSelect ops=true) (hf:Region.free .any ops ld i=true) (hr:(Region.ready .any ops ld).contains i=true) (hp:NP Q)
  (hw:cj ops x o false) (hd:o.dst=some t) (K:di P C ops S1 T fuel (ld.setIfInBounds i true) (x.put t (.v (.tuple #[]))) Q):di P C ops S1 T (fuel+1) ld x Q:=fun a w E hS hT=>by
 refine wpAnyH_take (v:=undef) hi hs hf hr (yW hp _ _) (.inr ⟨hw C a w E,rfl⟩) (kQ.refl _ _ _) ?_;rw[hd];exact K _ _ (E.put (.v _)) hS hT
theorem AD.take {k:Rd} {d:D} (hi:ops[i]?=some o) (hs:Region.noSelect ops=true) (hf:Region.free .any ops ld i=true) (hr:(Region.ready .any ops ld).contains i=true) (hp:NP Q)
  (hw:cj ops x o true) (hd:o.dst=some t) (h:bV P C.G x o k d) (hk:Safe x T k) (pT:k≠.jU) (K:AD P C ops S1 T fuel (ld.setIfInBounds i true) (x.put t d) Q):AD P C ops S1 T (fuel+1) ld x Q:=fun w1 a w E hT aa O fG=>by
 obtain⟨v,h1,h2⟩:=h C a w rfl E;refine wpAnyH_take hi hs hf hr (yW hp _ v) (.inl ⟨hw C a w E,fun w' U=>h2 w' ?_⟩) fG ?_
 ·cases k with
  | none=>trivial
  | jU=>exact absurd rfl pT
  | fC k =>
   obtain⟨B,hB,hm⟩:=hk;intro B' I;rw[hB] at I;obtain rfl:=Option.some.inj I;exact(U.2 _ hm).trans (fG.2 _ hm).symm
 rw[hd];exact K _ _ _ (E.put h1) hT aa O fG
theorem AD.Im (hi:ops[i]?=some o) (hs:Region.noSelect ops=true) (hf:Region.free .any ops ld i=true) (hr:(Region.ready .any ops ld).contains i=true) (hp:NP Q)
  (hw:cj ops x o false) (hd:o.dst=some t) (K:AD P C ops S1 T fuel (ld.setIfInBounds i true) (x.put t (.v (.tuple #[]))) Q):AD P C ops S1 T (fuel+1) ld x Q:=fun w1 a w E hT aa I fG=>by
 refine wpAnyH_take (v:=undef) hi hs hf hr (yW hp _ _) (.inr ⟨hw C a w E,rfl⟩) fG ?_;rw[hd];exact K _ _ _ (E.put (.v _)) hT aa I fG
def bj(P:Program)(C:dL)(ops:Array Oper)(S1 T:List Nat)(fuel:Nat)(ld:Array Bool)(x:St)(Q:Exit→St→Prop)(i:Nat):Prop :=
 ∀w1 a w,bE C x a w→(∀b∈T,b∈S1)→(∀b∈S1,b<w1.heap.size)→Fr w1 S1 w (aq x.S)→kQ w1 S1 T w →
  wpOp P ops (LQ C Q) i (fun a' w'=>kQ w1 S1 T w'∧wpAnyH P .any ops (LQ C Q) (kQ w1 S1 T) fuel (ld.setIfInBounds i true) a' w') a w
theorem AD.all{I:List Nat}(hr:Region.ready .any ops ld=I)(hne:I≠[])(h:∀i∈I,bj P C ops S1 T fuel ld x Q i):AD P C ops S1 T (fuel+1) ld x Q:=fun w1 a w E hT aa O fG =>
 wpAnyH_all hr hne fun i hi=>h i hi w1 a w E hT aa O fG
theorem AD.one(hr:Region.ready .any ops ld=[i])(h:bj P C ops S1 T fuel ld x Q i):AD P C ops S1 T (fuel+1) ld x Q :=
 AD.all hr bu fun j hj=>by
  have:j=i:=(by simpa using hj)
  subst this;exact h
theorem AD.two{j:Nat}(hr:Region.ready .any ops ld=[i,j])(h:bj P C ops S1 T fuel ld x Q i)(h':bj P C ops S1 T fuel ld x Q j):AD P C ops S1 T (fuel+1) ld x Q :=
 AD.all hr bu fun k hk=>by
  simp only[mem_cons,not_mem_nil,or_false] at hk;rcases hk with rfl|rfl
  ·exact h
  exact h'
theorem AD.three{j k:Nat}(hr:Region.ready .any ops ld=[i,j,k])(h:bj P C ops S1 T fuel ld x Q i)(h':bj P C ops S1 T fuel ld x Q j)(E:bj P C ops S1 T fuel ld x Q k):AD P C ops S1 T (fuel+1) ld x Q :=
 AD.all hr bu fun m hm=>by
  simp only[mem_cons,not_mem_nil,or_false] at hm;rcases hm with rfl|rfl|rfl
  ·exact h
  ·exact h'
  exact E
theorem AD.done(hr:Region.ready .any ops ld=[])(h:Q .normal x):AD P C ops S1 T fuel ld x Q:=fun w1 a w E hT aa I fG=>wpAnyH_done hr (.inl ⟨x,E,h⟩) _
theorem bj.fY {W:List Nat} {post:St→Prop} (hi:ops[i]?=some o) (hw:cj ops x o true) (h:fR P C.G x o W post) (hW:∀C a w,bE C x a w→∀b∈T,b∉W) (hWx:∀b∈W,b∈aq x.S)
  (k:∀y,post y→AD P C ops S1 T fuel (ld.setIfInBounds i true) y Q):bj P C ops S1 T fuel ld x Q i:=fun w1 a w I hT aa E fG=>by
 unfold wpOp;simp only[hi,hw C a w I,if_true];refine .inl (h C a w _ _ rfl I fun y a' w' hp Z hc hf=>?_);have O:Fr w1 S1 w' (aq y.S):=⟨hf.os.trans E.os,hf.tape.trans E.tape,hf.output.trans E.output,Nat.le_trans E.size hf.size,fun b hb hn=>by
  obtain⟨q1,q2⟩:=E.block b hb hn;obtain⟨q3,q4⟩:=hf.block b (Nat.lt_of_lt_of_le hb E.size) q2;exact⟨q3.trans q1,q4⟩⟩
 have U:kQ w1 S1 T w':=⟨fun b hb hn=>(O.block b hb hn).1,fun b hb=>by
  have iO:=Nat.lt_of_lt_of_le (aa b (hT b hb)) E.size;exact(hc.2 b iO (hW C a w I b hb)).trans (fG.2 b hb)⟩
 exact⟨U,k y hp w1 a' w' Z hT aa O U⟩
theorem bj.still{kd:Rd}{d:D}(hi:ops[i]?=some o)(hw:cj ops x o true)(hd:o.dst=some t)(h:bV P C.G x o kd d)(k:AD P C ops S1 T fuel (ld.setIfInBounds i true) (x.put t d) Q):bj P C ops S1 T fuel ld x Q i :=
 bj.fY hi hw (h.fY hd) (fun _ _ _ _ b _ hb=>by simp at hb) (fun b hb=>by simp at hb) fun y hy=>by subst hy;exact k
theorem bj.skip(hi:ops[i]?=some o)(hw:cj ops x o false)(hd:o.dst=some t)(k:AD P C ops S1 T fuel (ld.setIfInBounds i true) (x.put t (.v (.tuple #[]))) Q):bj P C ops S1 T fuel ld x Q i:=fun w1 a w E hT aa I fG=>by
 unfold wpOp;simp only[hi,hw C a w E,hd];exact⟨fG,k w1 _ w (E.put (.v _)) hT aa I fG⟩
theorem AD.wk(h:Wk x y)(hb:aq y.S=aq x.S)(k:AD P C ops S1 T fuel ld y Q):AD P C ops S1 T fuel ld x Q:=fun w1 a w E hT aa I fG=>k w1 a w (h C a w E) hT aa (hb ▸ I) fG
theorem AD.Fp(h:Wk x y)(hb:∀b∈aq y.S,b∈aq x.S)(k:AD P C ops S1 T fuel ld y Q):AD P C ops S1 T fuel ld x Q:=fun w1 a w I hT aa E fG =>
 k w1 a w (h C a w I) hT aa ⟨E.os,E.tape,E.output,E.size,fun b h1 h2=>⟨(E.block b h1 h2).1,fun h3=>(E.block b h1 h2).2 (hb b h3)⟩⟩ fG
theorem CD.draw{id:Nat}{l:List Oper}(T:List Nat)(hm:P.follows .mixedOrders=true)(hT:∀b∈T,b∈aq x.S)(h:di P C l.toArray (aq x.S) T l.toArray.size (Array.replicate l.toArray.size false) x Q):CD P C (.region id l.toArray true) x Q:=fun a w hs =>
 wp_region_held (S:=kQ {w with drawn:=w.drawn+1} (aq x.S) T) hm (h a _ ⟨hs.defers,hs.size,fun t ht=>(hs.env t ht).mono fun b _ hn=>⟨rfl,hn⟩,⟨fun B E=>by
  obtain⟨r0,cur,r1,r2,I,O⟩:=hs.own.at_ B E;exact⟨r0,cur,r1,r2,I,fun i hi=>by
   obtain⟨u,hu,hq⟩:=O i hi;exact⟨u,hu,hq.mono fun b _ hn=>⟨rfl,hn⟩⟩⟩,hs.own.apart⟩,⟨hs.fr.os,hs.fr.tape,hs.fr.output,hs.fr.size,hs.fr.block⟩,hs.ex,hs.eS⟩ rfl hT)

end Go.Proofs.YtdgichenhdikgaaGreatDoor.V

namespace Go.Proofs.YtdgichenhdikgaaGreatDoor.V
open List
open Go.RowKit
variable {P:Program}

variable {t:TypeId} {k:IntKind} {a b:Int} {us:List Value}
theorem IZ{op:BinOp}{r:Int}(h:(op = .add∧k.wrap (a+b)=r)∨(op = .sub∧k.wrap (a-b)=r)∨(op = .mul∧k.wrap (a*b)=r)):kL P op t (.int k a) (.int k b) (.int k r):=fun y z w=>by
 rcases h with ⟨rfl,h⟩|⟨rfl,h⟩|⟨rfl,h⟩<;>simp[eqGuard,binOp,Op.intArith,h]

theorem ko{r:Int}(h:k.wrap (a+b)=r):kL P .add t (.int k a) (.int k b) (.int k r):=IZ (.inl ⟨rfl,h⟩)
theorem gk{r:Int}(h:k.wrap (a-b)=r):kL P .sub t (.int k a) (.int k b) (.int k r):=IZ (.inr (.inl ⟨rfl,h⟩))
theorem I0{r:Int}(h:k.wrap (a*b)=r):kL P .mul t (.int k a) (.int k b) (.int k r):=IZ (.inr (.inr ⟨rfl,h⟩))
theorem RA:kL P .lss t (.int k a) (.int k b) (.bool (decide (a<b))):=fun y z w=>by simp[eqGuard,binOp,Op.intCmp]
theorem RB:kL P .leq t (.int k a) (.int k b) (.bool (decide (a≤b))):=fun y z w=>by simp[eqGuard,binOp,Op.intCmp]
theorem RC:kL P .gtr t (.int k a) (.int k b) (.bool (decide (a>b))):=fun y z w=>by simp[eqGuard,binOp,Op.intCmp]
theorem RD:kL P .geq t (.int k a) (.int k b) (.bool (decide (a≥b))):=fun y z w=>by simp[eqGuard,binOp,Op.intCmp]
theorem RE:kL P .eql t (.int k a) (.int k b) (.bool (a==b)):=fun y z w=>by simp[eqGuard,binOp,Op.intCmp]
theorem RF:kL P .neq t (.int k a) (.int k b) (.bool (a != b)):=fun y z w=>by simp[eqGuard,binOp,Op.intCmp]
theorem acX{r:Int}(hb:b≠0)(h:k.wrap (a.tdiv b)=r):kL P .quo t (.int k a) (.int k b) (.int k r):=fun y z w=>by simp[eqGuard,binOp,Op.intDiv,hb,h]
theorem I1(hb:b≠0):kL P .rem t (.int k a) (.int k b) (.int k (a.tmod b)):=fun y z w=>by simp[eqGuard,binOp,Op.intDiv,hb]

theorem P4{a b:ByteArray}:kL P .eql t (.string a) (.string b) (.bool (a.toList==b.toList)):=fun y z w=>by simp[eqGuard,binOp,Op.stringOp]
theorem P5{a b:ByteArray}:kL P .neq t (.string a) (.string b) (.bool (!(a.toList==b.toList))):=fun y z w=>by simp[eqGuard,binOp,Op.stringOp]
theorem EP{a b:ByteArray}(h:a.size+b.size≤9223372036854775807):kL P .add t (.string a) (.string b) (.string (a++b)):=fun y z w=>by
 have:¬(((a.size+b.size:Nat):Int)>IntKind.i64.max):=by
  have:IntKind.i64.max=9223372036854775807:=rfl;omega
 simp only[eqGuard,binOp,Op.stringOp,Sem.run_bind];simp only[this,if_false];simp

theorem Er{a b:Bool}(E:P.underlying t=some .bool):kL P .eql t (.bool a) (.bool b) (.bool (a==b)):=fun y z w=>by
 have:binOp .eql t (.bool a) (.bool b)=(do pure (.bool (←Op.equal t (.bool a) (.bool b)))):=rfl;simp only[eqGuard,this,Sem.run_bind];simp[run_equal_bool w t a b E]
theorem P6{a b:Bool}(E:P.underlying t=some .bool):kL P .neq t (.bool a) (.bool b) (.bool (!(a==b))):=fun y z w=>by
 have:binOp .neq t (.bool a) (.bool b)=(do pure (.bool (!(←Op.equal t (.bool a) (.bool b))))):=rfl;simp only[eqGuard,this,Sem.run_bind];simp[run_equal_bool w t a b E]

theorem cq.Uf{w:World}{L:Nat→Prop}{v:Value}(h:cq w L (.agg (us.map .v)) v):v = .agg us.toArray:=by
 cases h with
 | agg _ vs hl hr =>
  congr 1;congr 1;refine ext_getElem wN fun i h1 h2=>?_;have:=hr i (by simpa using h2) h1;simp only[getElem_map] at this;exact this.kP

section
variable {G:List (Nat×List Value)} {x:St} {o:Oper}

theorem OL {t':TypeId} {y z:Operand} {Mx:List Value} {r:Bool} (ho:o.op = .binOp .neq t y z t') (hy:aG x y = .agg (us.map .v)) (hz:aG x z = .agg (Mx.map .v)) (hg:P.eqGuardType P.depth t=false)
  (hE:∀w,(Op.equalIn 10000 t (.agg us.toArray) (.agg Mx.toArray)).run P w = .ok r w):bV P G x o .none (.v (.bool !r)):=fun C a w _ h=>by
 have h1:=h.eval y;have h2:=h.eval z;rw[hy] at h1;rw[hz] at h2;refine⟨_,.v _,fun w' _=>?_⟩;unfold execOp;simp only[ho,h1.Uf,h2.Uf,Sem.run_bind,run_eqGuard_agg _ _ _ _ _ _ _ hg,Result.andThen_ok,run_neq_struct,hE,Sem.run_pure]

def u3(b:UInt8):D:=.v (.int .u8 (b.toNat:Int))

theorem Ye{s e:TypeId}{y:Operand}{bs:List UInt8}{n:Nat}(ho:o.op = .convert s t y)(hy:aG x y = .list 1 (bs.map u3) n)(hs:P.underlying s=some (.slice e))(he:P.underlying e=some (.int .u8))(ht:P.underlying t=some .string) :
  bV P G x o .jU (.v (.string ⟨bs.toArray⟩)):=fun C a w _ h=>by
 have hr:=h.eval y;rw[hy] at hr;generalize hg:a.eval y=u at hr;generalize dB:bs.map u3=cs at hr;cases hr with
 | mb _ ad cap =>
  have:bs=[]:=(by simpa using dB)
  subst this;refine⟨_,.v _,fun w' _=>?_⟩;unfold execOp;simp only[ho,hg,Sem.run_bind,run_convert_bytes_string w' s t e ad 0 cap hs he ht];cases ad<;>simp[Conv.bytesToString,loadCells,loadCellsFrom]<;>rfl
 | list _ _ _ b I cap g hl q1 q2 hb hL hc O =>
  subst dB;simp only[length_map,Nat.mul_one] at hl hc;refine⟨_,.v _,fun w' hw=>?_⟩;unfold execOp;have E:=run_convert_bytes_back (P:=P) w' s t e ⟨b,I,none⟩ cap bs hs he ht (fun j hj=>by
   rw[Addr.add_mid];have U:=World.cell?_of_block (w:=w) (a:=⟨b,I+j,none⟩) (hw b hb hL);rw[U,hc j hj];have:=O j (by simpa using hj);simp only[getElem_map,u3] at this;rw[this.kP])
  rw[hl] at E;simp only[ho,hg,Sem.run_bind,E,Result.andThen_ok,Sem.run_pure]
end

theorem aeP{b:Bool}:∀w,(Op.unary .not (.bool b)).run P w = .ok (.bool !b) w:=fun w=>rfl
theorem JE{r:Int}(h:k.wrap (0-a)=r):∀w,(Op.unary .neg (.int k a)).run P w = .ok (.int k r) w:=fun w=>by
 subst h;rfl

theorem oG{s:TypeId}{k':IntKind}{r:Int}{d:TypeDesc}(hs:∀w,(underlying s).run P w = .ok d w)(ht:∀w,(underlying t).run P w = .ok (.int k') w)(h:k'.wrap a=r):∀w,(convert s t (.int k a)).run P w = .ok (.int k' r) w:=fun w=>by
 subst h;simp[convert,hs,ht,Conv.intToInt]

theorem wrap_i64{x:Int}(h1:-9223372036854775808≤x)(h2:x≤9223372036854775807):IntKind.i64.wrap x=x:=IntWalk.i64_in _ w4

theorem aeQ{ts:Array TypeId}{E:TypeId}:∀cs w,(builtin .min ts E cs #[.int k a,.int k b]).run P w = .ok (.value (.int k (if b<a then b else a))) w:=fun cs w=>by
 simp[builtin,Builtin.min_,Builtin.min2]
theorem nv:(∀{p:Prop} [Decidable p],(decide p=true)=p)∧(∀{p:Prop} [Decidable p],(decide p=false)↔¬p)∧(∀{a b:Int},(a==b)=true↔a=b)∧(∀{a b:Int},(a != b)=true↔a≠b)∧(∀{a b:Bool},(a==b)=true↔a=b)∧(∀{a b:Bool},(a != b)=true↔a≠b)
  ∧ (∀{b:Bool},((!b)=true)=(b=false))∧(∀{b:Bool},((!b)=false)=(b=true))∧(∀{b:Bool},(¬b=true)=(b=false))∧(∀{b:Bool},(¬b=false)=(b=true))∧(∀{a b:Int},(a==b)=false↔¬a=b)∧(∀{a b:Int},(a != b)=false↔a=b)∧(∀{a b:Bool},(a==b)=false↔¬a=b)∧(∀{a b:Bool},(a != b)=false↔a=b)
  ∧ (∀{a b:Bool},((a&&b)=true)=(a=true∧b=true))∧(∀{a b:Bool},((a||b)=true)=(a=true∨b=true))∧(∀{b:Bool},(!!b)=b)∧(∀{a b:Bool},(a&&b)=false↔a=false∨b=false)∧(∀{a b:Bool},(a||b)=false↔a=false∧b=false)∧(∀{a b:Int},(¬a<b)↔b≤a)∧(∀{a b:Int},(¬a≤b)↔b<a):=by
 refine⟨fun {p} _=>by simp,fun {p} _=>by simp,by simp,by simp,by simp,by simp,by simp,by simp,by simp,by simp,by simp,by simp,by simp,by simp,by simp,by simp,by simp,by simp,by simp,by simp,by simp⟩
end Go.Proofs.YtdgichenhdikgaaGreatDoor.V
