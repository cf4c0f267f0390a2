/-
  What the proof of SelectNames leans on, part 1 of 9: walks of the program's functions at the level of values, and plain facts of what they compute.
-/
import Derived.WalkKit
import Derived.Deep.MidRow
import Derived.Deep.AppendLies
import Derived.OrdersHeld
import Derived.IntWalk
import Derived.Laws.Cover3
import Derived.ChangeKeysEq
import Derived.ProofKit
import Derived.OpenShut
import Derived.Lib.LaidTab
import Derived.Below
import Derived.Deep.Slices
import Derived.ArgAppend
import Derived.Lib.AppendStr
import Derived.MapKept
import Derived.RangeFuncLeaves
import Derived.RangeFuncOwn
import Derived.OrdersIn
import Derived.TacticsIn
import Derived.Shelf.Abstract
import Derived.RecoverIn
import Derived.WalkLawsBesides
import Derived.Lib.AppendZeros
import Derived.Laws.IdiomCopy
import Derived.Lib.Overlaps
import Derived.Lib.AppendZerosOnto
import Derived.Lib.BytesEntry
import Derived.Shelf.Strings.Builder1
import Derived.Shelf.Strings.Builder2
import Derived.Shelf.Small.Strs
import Derived.Shelf.Small.Wraps
import Derived.Shelf.Strings.BuilderF
import Derived.Shelf.Strings.BuilderK
import Derived.Shelf.Utf8.RuneCount
import Derived.Shelf.Strings.Builder2Cap
import Derived.Shelf.Strings.Search1
import Derived.Shelf.Strings.Search2
import Derived.Shelf.Strings.Search3
import Derived.Shelf.Strings.Count
import Derived.Shelf.LaysM
import Derived.Shelf.Strings.Shaped
import Derived.Shelf.Strings.Split
import Derived.Shelf.Strings.Replace
import Derived.Shelf.Strings.SplitShaped
import Derived.Shelf.Unicode.Decode
import Derived.Shelf.Strings.RuneCount
import Derived.Shelf.Unicode.DecodeSlow
import Derived.Shelf.Unicode.DecodeAny
import Derived.Shelf.Strings.BuilderCap
import Derived.Shelf.Slices.Turned
import Derived.Shelf.Slices.Reverse
import Derived.Ground.Names2Prog
import Derived.Shelf.Slices.Clone
import Derived.Shelf.Slices.SearchI
import Derived.Shelf.Slices.Delete
import Derived.Shelf.Slices.Cells
import Derived.Shelf.Slices.Empties
import Derived.Shelf.Bytes.SlSearch0
import Derived.Shelf.Bytes.SlEqualAll
import Derived.Shelf.Bytes.Small
import Derived.SizedLaws
import Derived.Lib.Bytealg
import Derived.Test.YtdgichenhdikgaaGreatDoorRows
import Derived.Test.YtdgichenhdikgaaGreatDoorProg
set_option linter.unusedVariables false
set_option linter.unusedSimpArgs false
set_option maxRecDepth 100000
set_option maxHeartbeats 4000000
namespace Go.Proofs.YtdgichenhdikgaaGreatDoor
open List
variable {p:Prop}
theorem w4(h:p:=by omega):p:=h
theorem w5(h:p:=by first|assumption|omega):p:=h
theorem w6(h:p:=by (repeat (first|exact fB|(apply fU;focus (first|rfl|(simp;done)|(congr 2;omega)|(apply eL;rw[←O7 aa];unfold pQ;first|(rw[FH (by assumption)];simp;done)|(rw[FI (by assumption),take_of_length_le (l:=lV (uN l[i])) (by rw[wG];omega)];simp;done)|(rw[FJ (by assumption),←Bf];simp;done)|(rw[UI (by assumption) (by assumption) (by assumption)];done))|(apply eL;rfl)|(apply eL;simp;done)))|(apply fH;focus rfl)));done):p:=h
theorem w7(h:p:=by decide):p:=h
theorem w8(h:p:=by simp only[length_append,length_map,length_cons,length_nil];omega):p:=h
theorem w9(h:p:=by have dz:=ei;have q1:=E2 Mf i;(try have q2:=Mf _ (getElem_mem aa));(try simp only[length_append,length_cons,length_nil]);omega):p:=h
theorem mr(h:p:=by simp only[maxLen,length_cons,length_nil] at *;omega):p:=h
theorem pY(h:p:=by simp only[maxLen,length_append,length_map,length_cons,length_nil];omega):p:=h
theorem mu(h:p:=by simp only[length_cons,length_nil] at *;omega):p:=h
theorem GM(h:p:=by rw[←O7 aa];unfold pQ;first|(rw[FH (by assumption)];simp;done)|(rw[FI (by assumption),take_of_length_le (l:=lV (uN l[i])) (by rw[wG];omega)];simp;done)|(rw[FJ (by assumption),←Bf];simp;done)|(rw[UI (by assumption) (by assumption) (by assumption)];done)):p:=h
theorem vB(h:p:=by show _=p.kids.take (if p.leaf=true then 2 else 3);rw[fM];rfl):p:=h
theorem vC(h:p:=by show _=p.kids.drop (if p.leaf=true then 2 else 3);rw[fM];rfl):p:=h
theorem vD(h:p:=by show _=p.keys.drop (if p.leaf=true then 2 else 3);rw[fM];rfl):p:=h
theorem zX(h:p:=by (repeat (first|exact fB|(apply fU;focus (first|rfl|(rw[xL];done)|(simp;done)))|(apply fH;focus rfl)));done):p:=h
theorem bq(h:p:=by simp):p:=h
theorem zY(h:p:=by exact(perm_middle (l₁:=[_,_,_])).symm.trans (Perm.cons _ (Perm.cons _ (Perm.cons _ (Perm.cons _ o8))))):p:=h
theorem jw(h:p:=by first|rfl|assumption):p:=h
theorem zZ(h:p:=by have dz:=ei;(try simp only[length_append,length_cons,length_nil,length_take,wG]);omega):p:=h
theorem GN(h:p:=by (repeat (first|exact fB|(apply fU;focus (first|rfl|(simp;done)|(congr 2;omega)|(apply eL;rfl)|(apply eL;simp;done)))|(apply fH;focus rfl)));done):p:=h
theorem Aa(h:p:=by simp only[flatten_cons,flatten_nil,length_append,length_cons,length_nil];omega):p:=h
theorem Ab(h:p:=by have dz:=ei;(try simp only[length_append,length_cons,length_nil]);omega):p:=h
theorem mQ(h:p:=by first|rfl|simp[St.put]):p:=h
theorem jN(h:p:=by first|rfl|simp):p:=h
theorem Mg(h:p:=by show dx (L.flatMap gO) (0+i.toNat*5) (gO (⟨bu p L.length,cx,cy,cf,bL,bM,bB⟩:aB))=_;rw[Nat.zero_add];exact oQ gk L (⟨bu p L.length,cx,cy,cf,bL,bM,bB⟩:aB) hj):p:=h
theorem Ac(h:p:=by simp only[maxLen,length_set,length_cons,length_nil] at *;omega):p:=h
theorem iu(h:p:=by simp;omega):p:=h
theorem o9(h:p:=by rw[length_take];omega):p:=h
theorem Ad(h:p:=by simp only[length_set,length_cons,length_nil] at *;omega):p:=h
theorem sS(h:p:=by rw[pR,jr,append_assoc];rfl):p:=h
theorem xM(h:p:=by rw[length_append,length_singleton];omega):p:=h
theorem rH(h:p:=by rw[length_set];exact fY):p:=h
theorem Mh(h:p:=by have:=ED s.names s.names.length;(try rw[ur]);simp only[length_append,length_map,length_cons,length_nil];omega):p:=h
theorem pc(h:p:=by rw[append_nil]):p:=h
theorem GO(h:p:=by simp only[maxLen,length_append,length_cons,length_nil] at *;omega):p:=h
theorem sU(h:p:=by rw[y2,pR,jr];simp):p:=h
theorem CH(h:p:=by first|rfl|(show(1:Int)+_=1+_;omega)|omega):p:=h
theorem vE(h:p:=by rw[length_append];omega):p:=h
theorem qG(h:p:=by rw[tT];omega):p:=h
theorem GP(h:p:=by show 0+_*1+1≤_;rw[cu eo,length_set];omega):p:=h
theorem vF(h:p:=by rw[length_set];omega):p:=h
theorem uu(h:p:=by first|exact yS rfl gl (fun h=>by cases h) runUnderlying151 sizeOf88 w4|exact oR (fun _=>rfl) runUnderlying151 sizeOf88 w4|exact yT (fun h=>by cases h) (fun _=>rfl) runUnderlying151 sizeOf88 w4 w4|exact n9 (fun h=>by cases h) (fun _=>rfl) runUnderlying151 sizeOf88 w4 w4):p:=h
theorem uv(h:p:=by first|exact yS rfl eo (fun h=>by cases h) runUnderlying67 sizeOf3 w4|exact oR (fun _=>rfl) runUnderlying67 sizeOf3 w4|exact yT (fun h=>by cases h) (fun _=>rfl) runUnderlying67 sizeOf3 w4 w4|exact n9 (fun h=>by cases h) (fun _=>rfl) runUnderlying67 sizeOf3 w4 w4):p:=h
theorem Ae(h:p:=by rw[length_append,length_set];exact(show IntKind.wrap .i64 (((L.length+[(⟨bz p,dA,dB,cN,dD,dF,cQ⟩:aB)].length:Nat):Int)-1)=_ from by rw[show(((L.length+[(⟨bz p,dA,dB,cN,dD,dF,cQ⟩:aB)].length:Nat):Int)-1)=(L.length:Int) from by simp];exact wrap_i64 w4 w4)):p:=h
theorem Af(h:p:=by first|exact yS rfl gl (fun h=>by cases h) runUnderlying67 sizeOf3 w4|exact yS rfl eo (fun h=>by cases h) runUnderlying67 sizeOf3 w4|exact oR (fun _=>rfl) runUnderlying67 sizeOf3 w4|exact n9 (fun h=>by cases h) (fun _=>rfl) runUnderlying67 sizeOf3 w4 w4):p:=h
theorem Ag(h:p:=by first|exact oP gl (fun h=>by cases h) runUnderlying67 sizeOf3 w4|exact oP eo (fun h=>by cases h) runUnderlying67 sizeOf3 w4|exact oR (fun h=>by cases h) runUnderlying67 sizeOf3 w4|exact n9 (fun _=>rfl) (fun h=>by cases h) runUnderlying67 sizeOf3 w4 w4):p:=h
theorem GQ(h:p:=by first|exact yS rfl gl (fun h=>by cases h) runUnderlying151 sizeOf88 w4|exact yS rfl eo (fun h=>by cases h) runUnderlying151 sizeOf88 w4|exact oR (fun _=>rfl) runUnderlying151 sizeOf88 w4|exact n9 (fun h=>by cases h) (fun _=>rfl) runUnderlying151 sizeOf88 w4 w4):p:=h
theorem GR(h:p:=by first|exact oP nf (fun h=>by cases h) runUnderlying30 sizeOf43 w4|exact oR (fun h=>by cases h) runUnderlying30 sizeOf43 w4|exact n9 (fun _=>rfl) (fun h=>by cases h) runUnderlying30 sizeOf43 w4 w4):p:=h
theorem Mi(h:p:=by first|exact oP gl (fun h=>by cases h) runUnderlying151 sizeOf88 w4|exact oR (fun h=>by cases h) runUnderlying151 sizeOf88 w4|exact yT (fun _=>rfl) (fun h=>by cases h) runUnderlying151 sizeOf88 w4 w4|exact n9 (fun _=>rfl) (fun h=>by cases h) runUnderlying151 sizeOf88 w4 w4):p:=h
theorem Mj(h:p:=by first|exact oP eo (fun h=>by cases h) runUnderlying67 sizeOf3 w4|exact oR (fun h=>by cases h) runUnderlying67 sizeOf3 w4|exact yT (fun _=>rfl) (fun h=>by cases h) runUnderlying67 sizeOf3 w4 w4|exact n9 (fun _=>rfl) (fun h=>by cases h) runUnderlying67 sizeOf3 w4 w4):p:=h
theorem Mk(h:p:=by first|exact oP gQ (fun h=>by cases h) runUnderlying29 sizeOf9 w4|exact oP jS (fun h=>by cases h) runUnderlying29 sizeOf9 w4|exact oR (fun h=>by cases h) runUnderlying29 sizeOf9 w4|exact n9 (fun _=>rfl) (fun h=>by cases h) runUnderlying29 sizeOf9 w4 w4):p:=h
theorem Ml(h:p:=by (repeat (first|exact fB|(apply fU;focus (first|rfl|(simp;done)|(congr 2;omega)|(apply eL;first|exact If aa w4 _|exact HX aa w4 _)|(apply eL;simp[jV])|(apply eL;simp;done)))|(apply fH;focus rfl)));done):p:=h
theorem qH(h:p:=by rw[←Int.ofNat_sub w4];exact wrap_i64 w4 w4):p:=h
theorem Mm(h:p:=by rw[←show(p.kids.take 3)=(bu p L.length).kids from vB];simp only[length_take,length_drop];omega):p:=h
theorem Mn(h:p:=by rw[←show(p.kids.take 2)=(bu p L.length).kids from vB];simp only[length_take,length_drop];omega):p:=h
theorem Ah(h:p:=by rw[←Int.natCast_add];exact wrap_i64 w4 w4):p:=h
theorem Mo(h:p:=by rw[←show(p.kids.drop 3)=(bz p).kids from vC];simp only[length_take,length_drop];omega):p:=h
theorem Mp(h:p:=by rw[←show(p.kids.drop 2)=(bz p).kids from vC];simp only[length_take,length_drop];omega):p:=h
theorem Mq(h:p:=by rw[←show(p.keys.drop 3)=(bz p).keys from vD];simp only[length_take,length_drop];omega):p:=h
theorem Mr(h:p:=by rw[←show(p.keys.drop 2)=(bz p).keys from vD];simp only[length_take,length_drop];omega):p:=h
theorem Ms(h:p:=by rw[show(((a+(t+1):Nat):Int)-1)=((a+t:Nat):Int) by omega];exact wrap_i64 w4 w4):p:=h
theorem CJ(h:p:=by show(-1:Int)≤9223372036854775807;decide):p:=h
theorem xN(h:p:=by rw[length_set];exact hj):p:=h
theorem ph(h:p:=by simpa using h):p:=h
theorem rI(h:p:=by rw[←ho];rfl):p:=h
theorem vG(h:p:=by rw[←xO];exact fY):p:=h
theorem Mt(h:p:=by show 0+i.toNat*5+5≤(flatMap gO L).length;rw[cu gk];omega):p:=h
theorem Mu(h:p:=by rw[show((j:Int)-1)=((j-1:Nat):Int) by omega];exact wrap_i64 w4 w4):p:=h
theorem xP(h:p:=by rw[g.az];exact adG):p:=h
theorem Mw(h:p:=by exact jb (k:=2) (i:=(eM H l[i])) gl rfl rfl rfl isAgg98 gN rfl):p:=h
theorem Mx(h:p:=by exact jb (k:=1) (i:=(eM H l[i])) gl rfl rfl rfl isAgg98 gN rfl):p:=h
theorem My(h:p:=by exact jb (k:=0) (i:=(eM H l[i])) gl rfl rfl rfl isAgg98 gN rfl):p:=h
theorem GS(h:p:=by show 0+_*1+1≤_;rw[cu eo];omega):p:=h
theorem uw(h:p:=by simp at aO;omega):p:=h
theorem Mz(h:p:=by unfold gI;rw[if_neg cW,if_neg ek,if_neg fw,if_pos gB,sV]):p:=h
theorem vH(h:p:=by simp[maxLen];omega):p:=h
theorem MA(h:p:=by rw[er];exact mem_flatMap.2 ⟨_,getElem_mem d1,hx⟩):p:=h
theorem Ai(h:p:=by rw[length_set];rfl):p:=h
theorem ux(h:p:=by rw[vl];simp):p:=h
theorem MB(h:p:=by first|exact fun _ hq=>hq|exact fun _ hq=>by cases hq.1):p:=h
theorem xQ(h:p:=by rw[g.az];decide):p:=h
theorem sW(h:p:=by rw[y1];rfl):p:=h
theorem Aj(h:p:=by first|omega|decide):p:=h
theorem vI(h:p:=by simpa using aY):p:=h
theorem vJ(h:p:=by rw[xL];omega):p:=h
theorem GU(h:p:=by rw[length_append];simp;omega):p:=h
theorem Ak(h:p:=by simpa[aq] using dX):p:=h
theorem Am(h:p:=by show 1≤10;decide):p:=h
theorem An(h:p:=by simpa[aq] using hj):p:=h
theorem Ao(h:p:=by rw[Jn];decide):p:=h
theorem xR(h:p:=by rw[iU];decide):p:=h
theorem MC(h:p:=by show _≤1000;exact Nat.le_of_ble_eq_true rfl):p:=h
theorem xS(h:p:=by simpa using aO):p:=h
theorem xT(h:p:=by rw[h4];decide):p:=h
theorem GV(h:p:=by rw[length_set];exact CK):p:=h
theorem Ap(h:p:=by exact fun _=>rfl):p:=h
theorem MD(h:p:=by show w.heap.size<(w.heap.push _).size;simp):p:=h
theorem xk(h:p:=by simpa using hl):p:=h
theorem K3(h:p:=by show(w.heap.push _)[w.heap.size]?=_;simp):p:=h
theorem K4(h:p:=by rw[cu uY,length_take];omega):p:=h
theorem uf(h:p:=by assumption):p:=h
theorem F8(h:p:=by rw[length_map];omega):p:=h
theorem F9(h:p:=by simp only[maxLen];omega):p:=h
theorem Ga(h:p:=by show i<cs.length;omega):p:=h
theorem z4(h:p:=by
  refine AD.one (i:=9) aA ?_;refine at_ rfl (cU (mk:=Op.load 9) rfl ot (by exact qu (g:=cS) (ls:=eu) (i:=tj) (d:=bn tn) gQ isAgg9 rJ (by show some (D.v (.string (eu[tj]'rJ)))=some (D.v (.string tn));rw[Ve]))) ?_;refine cr 10 rfl (nE (pl:=[(0,_),(1,_),(9,_)]) (ds:=[_,_,_,_,_,_,_,_,_,_,_,_]) rfl zeroValue32 runUnderlying32 Ox ⟨rfl,ot,rfl,ot,rfl,bP,trivial⟩ rfl rfl) ?_;refine AD.one (i:=12) aA ?_;refine dS 0 [_,_,_,_,_,_,_,_,_,_,_,_] sizeOf32 ?_;refine Wx [(1,_),(2,_),(3,_)] [⟨b3,32,12,[_,_,_,_,_,_,_,_,_,_,_,_]⟩,⟨b2,32,12,[_,_,_,_,_,_,_,_,_,_,_,_]⟩,⟨b1,77,14,[_,_,_,_,_,_,_,_,_,_,_,_,_,_]⟩] ?_;refine AD.done aA ?_;exact⟨rfl,_,trivial,Wk.refl _⟩):p:=h
theorem z5(h:p:=by
  refine CD.perm (ee (A:=[_,_,_,_,_,_,_,_])) ?_;refine fE 6 (aq (take 1 _)) ?_ (fun _ h=>(Sublist.map _ (take_sublist _ _)).subset h);refine ay 0 rfl aZ ?_;refine ay 1 rfl aZ ?_;first|refine ay 2 rfl (D9 (n:=st.length) (k:=(take (st.length-(bQ ops[i].k).toNat) st).length) (cs:=st.flatMap cV) rfl ot rfl ⟨_,_,ot,by rw[length_take];omega⟩ runUnderlying28 sizeOf41 o9 nS) ?_|refine ay 2 rfl (D9 (n:=st.length) (k:=(take (st.length-(bQ ops[i].k).toNat) st).length) (cs:=st.flatMap cV) rfl ot rfl ⟨_,_,ot,by rw[length_take];omega⟩ runUnderlying28 sizeOf41 o9 (bH (e:=41) (g:=cV) (ls:=st) xm wN)) ?_
  refine ay 3 rfl (cU (mk:=Op.load 41) rfl ot (by first|exact nF (k:=0) (ds:=[_,_,_]) rfl rfl isAgg41 sizeOf41 rfl rfl|exact iJ nf isAgg41 sizeOf41 w5|exact iJ eS isAgg41 sizeOf41 w5|exact cn (k:=0) nf rfl rfl rfl isAgg41 sizeOf41 w5|exact cn (k:=1) nf rfl rfl rfl isAgg41 sizeOf41 w5|exact cn (k:=2) nf rfl rfl rfl isAgg41 sizeOf41 w5|exact cn (k:=3) nf rfl rfl rfl isAgg41 sizeOf41 w5|exact cn (k:=4) nf rfl rfl rfl isAgg41 sizeOf41 w5|exact cn (k:=5) nf rfl rfl rfl isAgg41 sizeOf41 w5|exact cn (k:=6) nf rfl rfl rfl isAgg41 sizeOf41 w5|exact cn (k:=7) nf rfl rfl rfl isAgg41 sizeOf41 w5|exact cn (k:=0) eS rfl rfl rfl isAgg41 sizeOf41 w5|exact cn (k:=1) eS rfl rfl rfl isAgg41 sizeOf41 w5|exact cn (k:=2) eS rfl rfl rfl isAgg41 sizeOf41 w5|exact cn (k:=3) eS rfl rfl rfl isAgg41 sizeOf41 w5|exact cn (k:=4) eS rfl rfl rfl isAgg41 sizeOf41 w5|exact cn (k:=5) eS rfl rfl rfl isAgg41 sizeOf41 w5|exact cn (k:=6) eS rfl rfl rfl isAgg41 sizeOf41 w5|exact cn (k:=7) eS rfl rfl rfl isAgg41 sizeOf41 w5|exact pN (ds:=[_,_,_]) isAgg41 sizeOf41 rfl rfl)) ?_;refine dm.later rfl ?_;refine AD.one (i:=4) aA ?_;refine iV (cc 0 [_]) [.int .i64 0,.int .i64 0,.string ⟨#[]⟩] [_,_,_] zeroValue41 runUnderlying28 sizeOf41 (fun Aq=>?_);refine iW 0 58 3 1 ?_;refine AD.one (i:=5) aA ?_
  refine bj.en (ls:=(take (st.length-(bQ ops[i].k).toNat) (st))) (new:=[(fW l row ops[i] (fj bJ ops[i].k st) (eY bJ ops[i].k st)).1]) (Sq:=B6) eS BA rfl ap rfl rfl underlying28 Zw rfl w7 ot BH (dg (A:=[_,_,_,_,_,_,_,_])) ot bq vH iu (fun sX sG B7 B8=>?_);refine AD.perm (ee (S1:=[⟨sX,41,sG*3,flatMap cV ((take (st.length-(bQ ops[i].k).toNat) (st))++[(fW l row ops[i] (fj bJ ops[i].k st) (eY bJ ops[i].k st)).1])⟩]) (A:=[_,_,_,_,_,_,_,_])) ?_;refine eE ?_;refine bf [1,4,6,7,16,17,18] ?_;refine cl [1,4,6,7,16,17,18] ?_;refine⟨((i+1),(st.take (st.length-(bQ ops[i].k).toNat)++[(fW l row ops[i] (fj bJ ops[i].k st) (eY bJ ops[i].k st)).1]),(some ⟨sX,0,none⟩),sG,[⟨sX,41,sG*3,flatMap cV ((take (st.length-(bQ ops[i].k).toNat) (st))++[(fW l row ops[i] (fj bJ ops[i].k st) (eY bJ ops[i].k st)).1])⟩]),_,cz,(aK (h:=by repeat (first|exact trivial|refine⟨GN,?_⟩))),w4,(by rw[rK];omega),nT,(hinv.trans (RV aa hz)),aia,(bp.cast (bH B7 B8) (by rfl)),rfl⟩):p:=h
theorem z6(h:p:=by
  refine cZ [0,4,5,6,73,74] ?_;refine aS 2 ?_ (h:=by exact(Ec (pl:=[(0,_),(1,_)]) (ds:=[_,_,_,_,_,_]) rfl zeroValue173 runUnderlying173 sizeOf41 ⟨rfl,ot,rfl,ot,trivial⟩ rfl rfl));refine bK ?_;refine eD [0,4,5,6,73] (fun aW _ (i:Nat) aH=>(i≤2)∧(∀j,j<i→¬((iN a b j).k≠2∧(iN a b j).k≠0))∧aH=(⟨106,(74,ae (i:Nat))::aW,[⟨b6,41,3,[ae 0,ae 0,eT]⟩,⟨b5,41,3,[ae b.k,ae b.n,bn b.s]⟩,⟨b4,41,3,[ae a.k,ae a.n,bn a.s]⟩]⟩:St)) (fun (i:Nat)=>2-i) 0 ⟨(Nat.zero_le _),(fun j hj=>absurd hj (Nat.not_lt_zero _)),rfl⟩ ?_;rintro i _ ⟨hi,fi,rfl⟩;have ME:k=8∨k=9∨k=10:=(by omega)
  refine af [0,4,5,6,73,74,75] ?_;refine au ?_ ?_<;>intro Gb BI
  ·have aa:i<2:=(by omega)
   refine bY ?_;refine bN (HQ (j:=i) rfl ot ot runUnderlying173 sizeOf41 isAgg41 rfl aa (Ig a b aa)) ?_;refine OD.alloc (ds:=[_,_,_]) ap rfl rfl zeroValue41 rfl (fun k8=>?_);refine aN 0 [_,_,_] sizeOf41 ?_;refine an 106 [0,4,5,6,11,73,74] ?_;refine aD 4 ?_;refine bW 80 (fun K5 FK=>?_) (fun K5 FK=>?_)
   ·refine bf [0,4,5,6,73,74,84] ?_;refine au ?_ ?_<;>intro vm FL
    ·have aV:iC k a b=(bJ,4):=adH oC ME aa (by simp_all) (by simp_all);refine aD 1 ?_;refine aN 1 [_,_,_] sizeOf41 ?_;refine an 106 [6,7] ?_;refine aJ [] ?_;rw[aV];first|exact⟨rfl,rfl⟩|(refine⟨?_,rfl⟩;clear aV e9 xU mR j8 oD nv;generalize (fk a b==0)=z1 at *;generalize (decide (fk a b<0))=z2 at *;subst_vars;simp_all;done)
    have iD:¬((iN a b i).k≠2∧(iN a b i).k≠0):=(by simp_all)
    refine cl [0,4,5,6,73,74] ?_;refine⟨(i+1),_,cz,aK,w4,(EE (p:=fun v=>¬(v.k≠2∧v.k≠0)) fi iD),rfl⟩
   refine bf [0,4,5,6,73,74,84] ?_;refine fN ?_;have iD:¬((iN a b i).k≠2∧(iN a b i).k≠0):=(by simp_all)
   refine cl [0,4,5,6,73,74] ?_;refine⟨(i+1),_,cz,aK,w4,(EE (p:=fun v=>¬(v.k≠2∧v.k≠0)) fi iD),rfl⟩
  have CL:=Jo (p:=fun v=>¬(v.k≠2∧v.k≠0)) fi w4;have MF:=O8 oC ME (fun h=>h.elim CL.1 CL.2);refine cX [0,4,5,6,89] (nv) ?_;refine au ?_ ?_<;>intro Gc agJ
  ·have aV:iC k a b=(bJ,0):=(by rw[MF,if_pos Gc])
   refine aD 1 ?_;refine aN 0 [_,_,_] sizeOf41 ?_;refine an 106 [6,7] ?_;refine aJ [] ?_;rw[aV];first|exact⟨rfl,rfl⟩|(refine⟨?_,rfl⟩;clear aV e9 xU mR j8 oD nv;generalize (fk a b==0)=z1 at *;generalize (decide (fk a b<0))=z2 at *;subst_vars;simp_all;done)
  refine cX [6,12,13] (xU) ?_;refine af [6,12,101] ?_;refine au ?_ ?_<;>intro K6 agK
  ·have aV:iC k a b=(bJ,5):=(by rw[MF,if_neg (by rw[Gc];simp),if_neg (by simpa using K6)])
   refine aD 1 ?_;refine aN 0 [_,_,_] sizeOf41 ?_;refine an 106 [6,7] ?_;refine aJ [] ?_;rw[aV];first|exact⟨rfl,rfl⟩|(refine⟨?_,rfl⟩;clear aV e9 xU mR j8 oD nv;generalize (fk a b==0)=z1 at *;generalize (decide (fk a b<0))=z2 at *;subst_vars;simp_all;done)
  have aV:iC k a b=(⟨2,(pJ k a.n b.n).1,⟨#[]⟩⟩,0):=(by rw[MF,if_neg (by rw[Gc];simp),if_pos (by simpa using K6)])
  refine aD 2 ?_;refine aN 0 [_,_,_] sizeOf41 ?_;refine an 106 [6,7] ?_;refine aJ [] ?_;rw[aV];first|exact⟨rfl,rfl⟩|(refine⟨?_,rfl⟩;clear aV e9 xU mR j8 oD nv;generalize (fk a b==0)=z1 at *;generalize (decide (fk a b<0))=z2 at *;subst_vars;simp_all;done)):p:=h
theorem z7(h:p:=by
  refine aN 0 [_,_,_] sizeOf41 ?_;refine an 106 [6,7] ?_;refine aJ [] ?_;rw[aV];first|exact⟨rfl,rfl⟩|(refine⟨?_,rfl⟩;clear aV e9 xU mR j8 oD nv;generalize (fk a b==0)=z1 at *;generalize (decide (fk a b<0))=z2 at *;subst_vars;simp_all;done)):p:=h
theorem z8(h:p:=by
  refine AD.one (i:=17) aA ?_;refine bj.call rfl ap rfl rfl rfl call131 (OK p.kids (aL (t.pg (aI t k h t.root)) k) ci bi pZ fx GW w4) ⟨ot,ot,ot,trivial⟩ (kr (k:=5) rfl) iE ?_;rintro _ _ ⟨rfl,rfl⟩;refine AD.perm (perm_middle (l₁:=[_,_,_,_,_])).symm ?_;refine cr 18 rfl lW ?_;refine cr 19 rfl (dh 1) ?_;refine AD.one (i:=20) aA ?_;refine bj.storeAt (k:=3) (cs':=flatMap gO (L.set (aI t k h t.root).toNat (⟨{p with keys:=(p.keys.eraseIdx (aL (t.pg (aI t k h t.root)) k))},some ⟨bk,0,none⟩,ck,[⟨bk,88,ck*1,flatMap cK (p.keys.eraseIdx (aL (t.pg (aI t k h t.root)) k))⟩],some ⟨bi,0,none⟩,ci,[⟨bi,3,ci*1,flatMap cI p.kids⟩]⟩:aB))) rfl ap rfl rfl ot rfl rfl ot rfl rfl sizeOf151 rfl (by show 0+(aI t k h t.root).toNat*5+1+1≤(flatMap gO L).length;rw[cu gk];omega) (by show(L.flatMap gO).set (0+(aI t k h t.root).toNat*5+1) _=_;rw[Nat.zero_add];exact v7 gk w7 hj (by rw[←ho];show gO (⟨{p with keys:=(p.keys.eraseIdx (aL (t.pg (aI t k h t.root)) k))},some ⟨bk,0,none⟩,ck,[⟨bk,88,ck*1,flatMap cK (p.keys.eraseIdx (aL (t.pg (aI t k h t.root)) k))⟩],some ⟨bi,0,none⟩,ci,[⟨bi,3,ci*1,flatMap cI p.kids⟩]⟩:aB)=(gO (⟨p,some ⟨bk,0,none⟩,ck,[⟨bk,88,ck*1,flatMap cK p.keys⟩],some ⟨bi,0,none⟩,ci,[⟨bi,3,ci*1,flatMap cI p.kids⟩]⟩:aB)).set 1 _;unfold gO;rw[length_eraseIdx_of_lt ha];rfl)) iE ?_;refine eE ?_;refine aE 2 ?_
  refine OD.storeAt (k:=3) (cs':=flatMap gO (L.set (aI t k h t.root).toNat (⟨(kI p (aL (t.pg (aI t k h t.root)) k)),some ⟨bk,0,none⟩,ck,[⟨bk,88,ck*1,flatMap cK (p.keys.eraseIdx (aL (t.pg (aI t k h t.root)) k))⟩],some ⟨bi,0,none⟩,ci,[⟨bi,3,ci*1,flatMap cI (p.kids.eraseIdx (aL (t.pg (aI t k h t.root)) k))⟩]⟩:aB))) ap rfl rfl ot rfl rfl ot rfl rfl sizeOf67 rfl (by show 0+(aI t k h t.root).toNat*5+2+1≤(flatMap gO (L.set (aI t k h t.root).toNat (⟨{p with keys:=(p.keys.eraseIdx (aL (t.pg (aI t k h t.root)) k))},some ⟨bk,0,none⟩,ck,[⟨bk,88,ck*1,flatMap cK (p.keys.eraseIdx (aL (t.pg (aI t k h t.root)) k))⟩],some ⟨bi,0,none⟩,ci,[⟨bi,3,ci*1,flatMap cI p.kids⟩]⟩:aB))).length;rw[cu gk,length_set];omega) (by show(flatMap gO (L.set (aI t k h t.root).toNat (⟨{p with keys:=(p.keys.eraseIdx (aL (t.pg (aI t k h t.root)) k))},some ⟨bk,0,none⟩,ck,[⟨bk,88,ck*1,flatMap cK (p.keys.eraseIdx (aL (t.pg (aI t k h t.root)) k))⟩],some ⟨bi,0,none⟩,ci,[⟨bi,3,ci*1,flatMap cI p.kids⟩]⟩:aB))).set (0+(aI t k h t.root).toNat*5+2) _=_;rw[Nat.zero_add,v7 gk (a':=(⟨(kI p (aL (t.pg (aI t k h t.root)) k)),some ⟨bk,0,none⟩,ck,[⟨bk,88,ck*1,flatMap cK (p.keys.eraseIdx (aL (t.pg (aI t k h t.root)) k))⟩],some ⟨bi,0,none⟩,ci,[⟨bi,3,ci*1,flatMap cI (p.kids.eraseIdx (aL (t.pg (aI t k h t.root)) k))⟩]⟩:aB)) w7 xN (by rw[getElem_set_self];show gO (⟨(kI p (aL (t.pg (aI t k h t.root)) k)),some ⟨bk,0,none⟩,ck,[⟨bk,88,ck*1,flatMap cK (p.keys.eraseIdx (aL (t.pg (aI t k h t.root)) k))⟩],some ⟨bi,0,none⟩,ci,[⟨bi,3,ci*1,flatMap cI (p.kids.eraseIdx (aL (t.pg (aI t k h t.root)) k))⟩]⟩:aB)=(gO (⟨{p with keys:=(p.keys.eraseIdx (aL (t.pg (aI t k h t.root)) k))},some ⟨bk,0,none⟩,ck,[⟨bk,88,ck*1,flatMap cK (p.keys.eraseIdx (aL (t.pg (aI t k h t.root)) k))⟩],some ⟨bi,0,none⟩,ci,[⟨bi,3,ci*1,flatMap cI p.kids⟩]⟩:aB)).set 2 _;unfold gO kI;simp only[];rw[length_eraseIdx_of_lt pZ];rfl),set_set]) ?_
  have vK:(⟨bk,88,ck*1,flatMap cK (p.keys.eraseIdx (aL (t.pg (aI t k h t.root)) k))⟩::⟨bi,3,ci*1,flatMap cI (p.kids.eraseIdx (aL (t.pg (aI t k h t.root)) k))⟩::((L.eraseIdx (aI t k h t.root).toNat).flatMap bO)).Perm ((L.set (aI t k h t.root).toNat (⟨(kI p (aL (t.pg (aI t k h t.root)) k)),some ⟨bk,0,none⟩,ck,[⟨bk,88,ck*1,flatMap cK (p.keys.eraseIdx (aL (t.pg (aI t k h t.root)) k))⟩],some ⟨bi,0,none⟩,ci,[⟨bi,3,ci*1,flatMap cI (p.kids.eraseIdx (aL (t.pg (aI t k h t.root)) k))⟩]⟩:aB)).flatMap bO):=(qW bO hj (⟨(kI p (aL (t.pg (aI t k h t.root)) k)),some ⟨bk,0,none⟩,ck,[⟨bk,88,ck*1,flatMap cK (p.keys.eraseIdx (aL (t.pg (aI t k h t.root)) k))⟩],some ⟨bi,0,none⟩,ci,[⟨bi,3,ci*1,flatMap cI (p.kids.eraseIdx (aL (t.pg (aI t k h t.root)) k))⟩]⟩:aB)).symm;refine OD.perm (Perm.cons _ (Perm.cons _ (Perm.cons _ (Perm.cons _ vK)))) ?_;refine an 58 [4,7] ?_;refine aD 1 ?_;refine aN 1 [_,_] sizeOf51 ?_;refine an 58 [4,5] ?_
  refine aJ ([⟨bx,153,cap*5,flatMap gO (L.set (aI t k h t.root).toNat (⟨(kI p (aL (t.pg (aI t k h t.root)) k)),some ⟨bk,0,none⟩,ck,[⟨bk,88,ck*1,flatMap cK (p.keys.eraseIdx (aL (t.pg (aI t k h t.root)) k))⟩],some ⟨bi,0,none⟩,ci,[⟨bi,3,ci*1,flatMap cI (p.kids.eraseIdx (aL (t.pg (aI t k h t.root)) k))⟩]⟩:aB))⟩]++(L.set (aI t k h t.root).toNat (⟨(kI p (aL (t.pg (aI t k h t.root)) k)),some ⟨bk,0,none⟩,ck,[⟨bk,88,ck*1,flatMap cK (p.keys.eraseIdx (aL (t.pg (aI t k h t.root)) k))⟩],some ⟨bi,0,none⟩,ci,[⟨bi,3,ci*1,flatMap cI (p.kids.eraseIdx (aL (t.pg (aI t k h t.root)) k))⟩]⟩:aB)).flatMap bO) ?_;unfold rq;rw[if_pos hz,if_pos iU];refine⟨_,rfl,L.set (aI t k h t.root).toNat (⟨(kI p (aL (t.pg (aI t k h t.root)) k)),some ⟨bk,0,none⟩,ck,[⟨bk,88,ck*1,flatMap cK (p.keys.eraseIdx (aL (t.pg (aI t k h t.root)) k))⟩],some ⟨bi,0,none⟩,ci,[⟨bi,3,ci*1,flatMap cI (p.kids.eraseIdx (aL (t.pg (aI t k h t.root)) k))⟩]⟩:aB),some ⟨bx,0,none⟩,cap,_,by rw[length_set];rfl,bH rH rL,fun x hx=>?_,?_,rfl⟩
  ·rcases mem_or_eq_of_mem_set hx with hx|rfl
   ·exact aR x hx
   exact⟨bH (by show(p.keys.eraseIdx (aL (t.pg (aI t k h t.root)) k)).length≤ck;rw[length_eraseIdx_of_lt ha];omega) xV,bH (by show(p.kids.eraseIdx (aL (t.pg (aI t k h t.root)) k)).length≤ci;rw[length_eraseIdx_of_lt pZ];omega) GW⟩
  rw[map_set,hL];show _=t.ag.set (aI t k h t.root).toNat (kI (t.pg (aI t k h t.root)) (aL (t.pg (aI t k h t.root)) k));rw[←gX]):p:=h
theorem z10(h:p:=by
  refine AD.one (i:=12) aA ?_;refine dS 0 [_,_,_,_,_,_,_,_,_,_,_,_] sizeOf32 ?_;refine Wx [(1,_),(2,_),(3,_)] [⟨b3,32,12,[_,_,_,_,_,_,_,_,_,_,_,_]⟩,⟨b2,32,12,[_,_,_,_,_,_,_,_,_,_,_,_]⟩,⟨b1,77,14,[_,_,_,_,_,_,_,_,_,_,_,_,_,_]⟩] ?_;refine AD.done aA ?_;exact⟨rfl,_,trivial,Wk.refl _⟩):p:=h
theorem MG(h:p:=by
  refine AD.one (i:=15) aA ?_;refine bj.en (ls:=L) (new:=[(⟨(t.ag[i]'aa),gD,gE,Sy,lX,lY,Sz⟩:aB)]) (Sq:=Sx) gk uZ rfl ap rfl rfl underlying49 Za rfl w7 ot dY (Qj (A:=[_,_,_])) ot bq mr mu (fun GX Ge aib aic=>?_);refine AD.perm (abR (S3:=[⟨GX,153,Ge*5,flatMap gO (L++[(⟨(t.ag[i]'aa),gD,gE,Sy,lX,lY,Sz⟩:aB)])⟩]) (A:=[_,_,_])) ?_;refine AD.perm (S':=⟨b5,153,5,cP (t.ag[i]'aa)⟩::⟨b3,51,2,[aP dr L.length cY,ae t.root]⟩::⟨b2,51,2,[bA,ae 0]⟩::([⟨GX,153,Ge*5,flatMap gO (L++[(⟨(t.ag[i]'aa),gD,gE,Sy,lX,lY,Sz⟩:aB)])⟩]++(L++[(⟨(t.ag[i]'aa),gD,gE,Sy,lX,lY,Sz⟩:aB)]).flatMap bO)) (iH fun jj=>by rw[RW];simp only[bO,map_append,map_cons,map_nil,sum_append,sum_cons,sum_nil];omega) ?_;refine eE ?_;refine aE 1 ?_;refine aN 1 [_,_] sizeOf49 ?_;refine an 51 [2,3,13,14,15] ?_;refine cl [2,3,13,14,15] ?_;refine⟨((i+1),(L++[(⟨(t.ag[i]'aa),gD,gE,Sy,lX,lY,Sz⟩:aB)]),(some ⟨GX,0,none⟩),Ge,[⟨GX,153,Ge*5,flatMap gO (L++[(⟨(t.ag[i]'aa),gD,gE,Sy,lX,lY,Sz⟩:aB)])⟩]),_,cz,aK,w4,vL,jW,(bH aib aic),rfl⟩):p:=h
theorem z12(h:p:=by
  refine CD.perm (ee (A:=[_,_])) ?_;refine dO 2 ?_;first|refine bN (D9 (n:=st.length) (k:=(take (st.length-(bQ ops[i].k).toNat) st).length) (cs:=st.flatMap cI) rfl ot rfl ⟨_,_,ot,by rw[length_take];omega⟩ runUnderlying67 sizeOf3 o9 nS) ?_|refine OD.still ap rfl (D9 (n:=st.length) (k:=(take (st.length-(bQ ops[i].k).toNat) st).length) (cs:=st.flatMap cI) rfl ot rfl ⟨_,_,ot,by rw[length_take];omega⟩ runUnderlying67 sizeOf3 o9 (bH (e:=3) (g:=cI) (ls:=st) xm wN)) ?_
  refine aE 1 ?_;refine ev (cc 0 [_]) [.int .i64 0] [_] zeroValue3 runUnderlying67 sizeOf3 (fun Aq=>?_);refine fF 0 58 1 1 ?_;refine OD.en (ls:=(take (st.length-(bQ ops[i].k).toNat) (st))) (new:=[(jg l ops[i] (fj 0 ops[i].k st) (eY 0 ops[i].k st)).1]) (Sq:=B6) eo nG ap rfl rfl underlying67 aao rfl w7 ot BH (dg (A:=[_,_])) ot bq vH iu (fun sX sG B7 B8=>?_);refine OD.perm (ee (S1:=[⟨sX,3,sG*1,flatMap cI ((take (st.length-(bQ ops[i].k).toNat) (st))++[(jg l ops[i] (fj 0 ops[i].k st) (eY 0 ops[i].k st)).1])⟩]) (A:=[_,_])) ?_;refine an 64 [1,6,7,16,17,18] ?_;refine cl [1,6,7,16,17,18] ?_;refine⟨((i+1),(st.take (st.length-(bQ ops[i].k).toNat)++[(jg l ops[i] (fj 0 ops[i].k st) (eY 0 ops[i].k st)).1]),(some ⟨sX,0,none⟩),sG,[⟨sX,3,sG*1,flatMap cI ((take (st.length-(bQ ops[i].k).toNat) (st))++[(jg l ops[i] (fj 0 ops[i].k st) (eY 0 ops[i].k st)).1])⟩]),_,cz,(aK (h:=by repeat (first|exact trivial|refine⟨GN,?_⟩))),w4,(by rw[rK];omega),nT,(hinv.trans (RV aa hz)),(bp.cast (bH B7 B8) (by rfl)),rfl⟩):p:=h
theorem Wy(h:p:=by
  refine p8 13 rfl ?_;refine p8 16 rfl ?_;refine AD.two (i:=14) (j:=17) aA ?_ ?_
  ·refine bj.skip rfl (mE rfl rfl rfl lk jw) rfl ?_;refine AD.two (i:=15) (j:=17) aA ?_ ?_
   ·refine bj.skip rfl (mE rfl rfl rfl lk jw) rfl ?_;refine AD.one (i:=17) aA ?_;refine bj.skip rfl (mE rfl rfl rfl lk jw) rfl ?_;refine p8 18 rfl ?_;refine p8 19 rfl ?_;refine cr 20 rfl vn ?_;refine eE ?_;refine bf [3] ?_;refine af [52] ?_;refine eI ?_;refine af [2] ?_;refine eO ?_;refine⟨vi ?_,rfl⟩;try simp only[uU] at *
    simp only[tU,og];try simp_all
    try omega
   refine bj.skip rfl (mE rfl rfl rfl lk jw) rfl ?_;refine p8 18 rfl ?_;refine AD.one (i:=15) aA ?_;refine bj.skip rfl (mE rfl rfl rfl lk jw) rfl ?_;refine p8 19 rfl ?_;refine cr 20 rfl vn ?_;refine eE ?_;refine bf [3] ?_;refine af [52] ?_;refine eI ?_;refine af [2] ?_;refine eO ?_;refine⟨vi ?_,rfl⟩;try simp only[uU] at *
   simp only[tU,og];try simp_all
   try omega
  refine bj.skip rfl (mE rfl rfl rfl lk jw) rfl ?_;refine p8 18 rfl ?_;refine AD.one (i:=14) aA ?_;refine bj.skip rfl (mE rfl rfl rfl lk jw) rfl ?_;refine AD.one (i:=15) aA ?_;refine bj.skip rfl (mE rfl rfl rfl lk jw) rfl ?_;refine p8 19 rfl ?_;refine cr 20 rfl vn ?_;refine eE ?_;refine bf [3] ?_;refine af [52] ?_;refine eI ?_;refine af [2] ?_;refine eO ?_;refine⟨vi ?_,rfl⟩;try simp only[uU] at *
  simp only[tU,og];try simp_all
  try omega):p:=h
theorem vM(h:p:=by
  refine⟨vi ?_,rfl⟩;first|exact hf.symm|(rw[hf,hx,Qk aa qC (by first|assumption|decide)];done)|(rw[hf,fb,if_pos (by simpa using p9)];done)|(rw[hf,fb,if_neg (by simpa using p9)];done)):p:=h
theorem GY(h:p:=by
  refine⟨vb (EF fun hp=>?_),rfl⟩;have g1:=hp.eJ;have g2:=hp.hlen;have g3:=hp.xn;have g4:=hp.wO;have g5:=hp.xo;have g6:=hp.leaf;have g7:=fun h=>(hp.node h).1;have g8:=fun h (e:p.keys.length=0)=>(hp.node h).2 (length_eq_zero_iff.1 e);clear hp;first|omega|(rw[agL g5] at aO;cases aO;done)|(have:=g6 ru;omega)|(have fM:p.leaf=false:=(by simpa using ug);have:=g7 fM;omega)|(have fM:p.leaf=false:=(by simpa using ug);exact g8 fM w4)):p:=h
theorem GZ(h:p:=by
  have rM:¬h<bQ l[i].k:=(by simpa using gq)
  have aR:fh h l[i]=0:=(by unfold fh;rw[if_neg dP,if_neg ux,if_neg u6,if_neg j9,if_neg rM])
  refine iv [3,11,12,13] ?_;refine di (yU l[i].k) ?_;refine bK ?_;refine cl [3,11,12,13] ?_;refine⟨((i+1),(h+(1-bQ l[i].k))),_,cz,aK,w4,(by rw[hx];exact Ql aa aR),w4,(by have:=tI l[i].k;omega),rfl⟩):p:=h
theorem Wz(h:p:=by
  have MH:((bw[bw.length-1].k==6) || !(((dR (mc key) (bw.take 2))==0)==nt))=true:=(by first|rw[Kx,Bool.true_or]|rw[gY,Bool.or_true])
  have CM:(gg key (f+1) ops (lo,hi))=sB (fX [bw[(dR gS (bw.take 2)).toNat].v]).1 b1:=(by rw[UJ];unfold vo;rw[show((bw[bw.length-1].k==6)||((dR (mc key) (bw.take 2))==0)!=nt)=true from MH,←jk];rfl)
  refine aD 7 ?_;refine bW 141 (fun agM afm=>?_) (fun agM afm=>?_)
  ·refine bf [0,11,149] ?_;refine eI ?_;have sY:b1.2.length=0∨compareBytes (fX [bw[(dR gS (bw.take 2)).toNat].v]).1 b1.2<0:=(by first|exact .inl w4|exact .inr (by simpa using gq))
   have sZ:(gg key (f+1) ops (lo,hi))=(b1.1,(fX [bw[(dR gS (bw.take 2)).toNat].v]).1):=(by rw[CM];unfold sB;rw[if_pos sY])
   refine dO 2 ?_;refine dV call95 (IR (fX [bw[(dR gS (bw.take 2)).toNat].v]).1 w4) ?_;refine aE 2 ?_;refine aN 0 [_,_] sizeOf88 ?_;refine an 155 [] ?_;refine aJ [⟨b0,_,_,_⟩] ?_;refine⟨rfl,?_⟩;first|rw[sZ]|rw[aV]
  refine aE 5 ?_;refine OD.hU iw rfl rfl rfl call51 (RX (fX [bw[(dR gS (bw.take 2)).toNat].v]).1 b1.2) ⟨ot,ot,trivial⟩ ?_;refine an 155 [0,11,149] ?_;refine au ?_ ?_<;>intro gq lB
  ·have sY:b1.2.length=0∨compareBytes (fX [bw[(dR gS (bw.take 2)).toNat].v]).1 b1.2<0:=(by first|exact .inl w4|exact .inr (by simpa using gq))
   have sZ:(gg key (f+1) ops (lo,hi))=(b1.1,(fX [bw[(dR gS (bw.take 2)).toNat].v]).1):=(by rw[CM];unfold sB;rw[if_pos sY])
   refine dO 2 ?_;refine dV call95 (IR (fX [bw[(dR gS (bw.take 2)).toNat].v]).1 w4) ?_;refine aE 2 ?_;refine aN 0 [_,_] sizeOf88 ?_;refine an 155 [] ?_;refine aJ [⟨b0,_,_,_⟩] ?_;refine⟨rfl,?_⟩;first|rw[sZ]|rw[aV]
  have sY:¬(b1.2.length=0∨compareBytes (fX [bw[(dR gS (bw.take 2)).toNat].v]).1 b1.2<0):=(by (have WA:¬compareBytes (fX [bw[(dR gS (bw.take 2)).toNat].v]).1 b1.2<0:=by simpa using gq);omega)
  have sZ:(gg key (f+1) ops (lo,hi))=b1:=(by rw[CM];unfold sB;rw[if_neg sY])
  refine aJ [⟨b0,_,_,_⟩] ?_;refine⟨rfl,?_⟩;first|rw[sZ]|rw[aV]):p:=h
theorem WB(h:p:=by
  refine aD 1 ?_;refine OD.wk (Wk.dS (n:=19) (l':=[(0,_),(1,_)]) (S':=S) rfl mQ fm) ?_;refine OD.nil ?_;refine aD 3 ?_;refine OD.wk (Wk.dS (n:=19) (l':=[(0,_),(1,_),(7,_),(8,_)]) (S':=S) rfl mQ fm) ?_;refine OD.nil ?_;refine eD [0,1,7] (fun aW _ (k:Nat) aH=>(k≤ls.length)∧(∀x∈ls.take k,p x=false)∧aH=(⟨19,(8,ae (k:Nat))::aW,S⟩:St)) (fun (k:Nat)=>ls.length-k) 0 ⟨Nat.zero_le _,bq,rfl⟩ ?_;rintro k _ ⟨hk,h0,rfl⟩;refine aD 1 ?_;refine OD.wk (Wk.dS (n:=19) (l':=[(0,_),(1,_),(7,_),(8,_),(9,_)]) (S':=S) rfl mQ fm) ?_;refine OD.nil ?_;refine au ?_ ?_<;>intro aO bE
  ·refine aD 2 ?_;refine OD.wk (Wk.dS (n:=19) (l':=[(0,_),(1,_),(5,_),(7,_),(8,_)]) (S':=S) rfl mQ fm) ?_;refine OD.nil ?_;refine aD 5 ?_;refine OD.kz (f:=g) (args:=[_]) ap rfl rfl (tJ rfl lk) fq (hp (ls[k]'w4) (getElem_mem _)) rfl ⟨tJ rfl lk,trivial⟩ (IS _) ?_;rintro _ S2 ⟨rfl,iF⟩;rw[iF];clear iF;refine OD.wk (Wk.dS (n:=19) (l':=[(0,_),(1,_),(5,_),(7,_),(8,_),(16,_)]) (S':=S) rfl mQ fm) ?_;refine OD.nil ?_;refine au ?_ ?_<;>intro aY cJ
   ·refine aD 2 ?_;refine OD.wk (Wk.dS (n:=19) (l':=[(4,_)]) (S':=S) rfl mQ fm) ?_;refine OD.nil ?_;refine aJ S ?_;refine⟨?_,rfl⟩;first|(rw[wj w4 h0 uf])|(rw[v8 w4 h0])
   refine dO 2 ?_;refine OD.wk (Wk.dS (n:=19) (l':=[(0,_),(1,_),(7,_),(8,_)]) (S':=S) rfl mQ fm) ?_;refine OD.nil ?_;refine⟨k+1,_,cz,aK,w4,(by rw[take_succ_eq_append_getElem w4];intro x hx;rcases mem_append.1 hx with hx|hx;exact h0 x hx;simp only[mem_singleton] at hx;subst hx;assumption),rfl⟩
  refine aD 1 ?_;refine OD.wk (Wk.dS (n:=19) (l':=[(4,_)]) (S':=S) rfl mQ fm) ?_;refine OD.nil ?_;refine aJ S ?_;refine⟨?_,rfl⟩;first|(rw[wj w4 h0 uf])|(rw[v8 w4 h0])
  ):p:=h
theorem MI(h:p:=by
  refine af [2] ?_;refine eO ?_;refine⟨vi ?_,rfl⟩;try simp only[uU] at *
  simp only[tU,og];try simp_all
  try omega):p:=h
theorem z20(h:p:=by
  refine cX [1,3] (Qm hm hw s.names (by have:=hf.ok.2.2.1;omega) hf.n) ?_;refine af [1,3,36] ?_;refine au ?_ ?_<;>intro da ek
  ·refine af [2] ?_;refine eO ?_;refine⟨vi ?_,rfl⟩;unfold oT jl;simp_all;all_goals (try (intros;(repeat' split)<;>first|rfl|omega))
  refine cX [1,4] (El hm hw s.aj (fun o h=>(hf.w o h).1)) ?_;refine af [1,4,42] ?_;refine au ?_ ?_<;>intro ez fw
  ·refine af [2] ?_;refine eO ?_;refine⟨vi ?_,rfl⟩;unfold oT jl;simp_all;all_goals (try (intros;(repeat' split)<;>first|rfl|omega))
  refine af [1,46] ?_;refine au ?_ ?_<;>intro fg gB
  ·refine cX [2] (tK hm hw s.order hf.o) ?_;refine eO ?_;refine⟨vi ?_,rfl⟩;unfold oT jl;simp_all;all_goals (try (intros;(repeat' split)<;>first|rfl|omega))
  refine af [2] ?_;refine eO ?_;refine⟨vi ?_,rfl⟩;unfold oT jl;simp_all;all_goals (try (intros;(repeat' split)<;>first|rfl|omega))):p:=h
theorem z21(h:p:=by
  refine an 76 [11,12] ?_;refine af [12,74] ?_;refine au ?_ ?_<;>intro vm FL
  ·refine af [8,9] ?_;refine aJ [] ?_;refine⟨?_,rfl⟩;unfold jg okF xp;simp_all
  refine af [8,9] ?_;refine aJ [] ?_;refine⟨?_,rfl⟩;unfold jg okF xp;simp_all):p:=h
theorem z22(h:p:=by
  refine af [8,9] ?_;refine aJ [] ?_;refine⟨?_,rfl⟩;unfold jg okF xp;simp_all):p:=h
theorem MJ(h:p:=by
  refine⟨vi ?_,rfl⟩;try simp only[uU] at *
  simp only[tU,og];try simp_all
  try omega):p:=h
theorem z24(h:p:=by
  refine eO ?_;refine⟨vi ?_,rfl⟩;unfold oT jl;simp_all;all_goals (try (intros;(repeat' split)<;>first|rfl|omega))):p:=h
theorem WD(h:p:=by
  refine⟨vi ?_,rfl⟩;unfold oT jl;simp_all;all_goals (try (intros;(repeat' split)<;>first|rfl|omega))):p:=h
theorem WE(h:p:=by
  skip;refine mv 20 [0,2,3,8,9,59,64,69,74] ?_;refine aS 4 ?_ (h:=by exact(cU (mk:=Op.load 3) rfl ot (u7 (g:=Ph.cs) (ls:=ps) (i:=k) (j:=1) q8 isAgg3 aa rfl)));refine aS 4 ?_ (h:=by exact(cU (mk:=Op.load 3) rfl ot (u7 (g:=Ph.cs) (ls:=ps) (i:=k) (j:=2) q8 isAgg3 aa rfl)));refine aS 4 ?_ (h:=by exact(cU (mk:=Op.load 3) rfl ot (u7 (g:=Ph.cs) (ls:=ps) (i:=k) (j:=3) q8 isAgg3 aa rfl)));refine aS 4 ?_ (h:=by exact(cU (mk:=Op.load 75) rfl ot (u7 (g:=Ph.cs) (ls:=ps) (i:=k) (j:=4) q8 isAgg75 aa rfl)));refine jZ ?_;refine aE 1 ?_;refine OD.call ap rfl rfl rfl call23 (VC.G0 (T3 hm hw ht hG (⟨2,(ps[k]'aa).t,(ps[k]'aa).a,(ps[k]'aa).b,(ps[k]'aa).row,.mk 0 0 ⟨#[]⟩ [],.mk 0 0 ⟨#[]⟩ [],false⟩:Ph) ⟨(show(-9223372036854775808:Int)≤2∧(2:Int)≤9223372036854775807 by decide),rN.t,rN.a,rN.b,rN.row,T4,T4⟩) (args':=[.agg [ae 2,ae (ps[k]'aa).t,ae (ps[k]'aa).a,ae (ps[k]'aa).b,.list 3 ((ps[k]'aa).row.flatMap cV) (ps[k]'aa).row.length,ae 0,ae 0,eT,bA,ae 0,ae 0,eT,bA,bS false]]) ⟨BB ⟨dQ,dQ,dQ,dQ,dQ,dQ,dQ,dQ,fp,dQ,dQ,dQ,fp,dQ,trivial⟩,trivial⟩) ⟨ot,trivial⟩ (eR _) ?_;rintro _ _ ⟨s',rfl,rfl,aid,aie⟩;have hk9:s'.kind=3:=aie.trans (show(1:Int)+dU 2 6=3 by decide);have aif:¬s'.kind=1∧¬s'.kind=2:=(by omega)
  refine aN 0 [_,_,_,_,_,_,_,_,_,_,_,_] sizeOf32 ?_;refine an 88 [0,2,3,8,9] ?_;refine⟨_,aK,s',aid,aif,rfl⟩):p:=h
theorem WG(h:p:=by
  refine bW 103 (fun BJ afn=>?_) (fun BJ afn=>?_)
  ·refine aE 3 ?_;refine OD.hU iw rfl rfl rfl call51 (wH p.keys[i] p.high) ⟨ot,ot,trivial⟩ ?_;refine an 132 [1,2,73,74,75,110] ?_;refine au ?_ ?_<;>intro da ek
   ·have ow:¬u9 p i:=fun hk=>by obtain⟨k1,k2,k3⟩:=hk aa;unfold bF at k2 k3;first|(rw[k1] at xq;cases xq;done)|(have:=k2 w4;omega)|(have:=k3 (J5 BJ);have hx:=of_decide_eq_true da;omega)
    refine af [4] ?_;refine aJ [] ?_;refine⟨vb (EF fun hp=>?_),rfl⟩;exact ow (RY hp i)
   have hK:u9 p i:=fun _=>⟨by simpa using xq,fun h0=>by unfold bF;first|(exfalso;omega)|(have hx:=of_decide_eq_false zC;omega),fun hne=>by first|exact absurd (len_nil BJ) hne|(unfold bF;have hx:=of_decide_eq_false da;omega)⟩
   refine cl [1,2,73,74,75] ?_;refine⟨(i+1),_,cz,aK,w4,(fun j hj=>by rcases Nat.lt_or_ge j i with h|h;exact xW j h;obtain rfl:j=i:=w4;exact hK),rfl⟩
  refine an 132 [1,2,73,74,75,110] ?_;refine fN ?_;have hK:u9 p i:=fun _=>⟨by simpa using xq,fun h0=>by unfold bF;first|(exfalso;omega)|(have hx:=of_decide_eq_false zC;omega),fun hne=>by first|exact absurd (len_nil BJ) hne|(unfold bF;have hx:=of_decide_eq_false da;omega)⟩
  refine cl [1,2,73,74,75] ?_;refine⟨(i+1),_,cz,aK,w4,(fun j hj=>by rcases Nat.lt_or_ge j i with h|h;exact xW j h;obtain rfl:j=i:=w4;exact hK),rfl⟩):p:=h
theorem z28(h:p:=by
  refine an 69 [4] ?_;refine aJ [_] ?_;first|exact gm.cast (gm.mk (g:=cO) (e:=43) (sz:=5) (ls:=[(⟨1,uh n s,⟨#[]⟩⟩:aX)]) (bH (ls:=[(⟨1,uh n s,⟨#[]⟩⟩:aX)]) (Nat.le_refl _) (show 1≤maxLen by decide))) (by unfold mF sC;rw[if_neg w4])|exact gm.cast (gm.mk (g:=cO) (e:=43) (sz:=5) (ls:=[(⟨kk,uh n s,⟨#[]⟩⟩:aX)]) (bH (ls:=[(⟨kk,uh n s,⟨#[]⟩⟩:aX)]) (Nat.le_refl _) (show 1≤maxLen by decide))) (by unfold mF sC;rw[if_neg w4,show kk=1 by omega])|exact gm.cast (gm.mk (g:=cO) (e:=43) (sz:=5) (ls:=[(⟨kk,bJ,om (j:Int)⟩:aX)]) (bH (ls:=[(⟨kk,bJ,om (j:Int)⟩:aX)]) (Nat.le_refl _) (show 1≤maxLen by decide))) (by unfold mF wP;rw[if_pos w4,hj,show kk=2 by omega])):p:=h
theorem WH(h:p:=by
  have s5:((bw[bw.length-1].k==6)||(((dR (mc key) (bw.take 2))==0)==nt))=true:=(by first|rw[Ky,Bool.true_or]|rw[ez,Bool.or_true])
  refine cX [0,8,9,11,13,122] (RX (fX [bw[(dR gS (bw.take 2)).toNat].v]).1 lo) ?_;refine au ?_ ?_<;>intro fg gB
  ·have rO:compareBytes (fX [bw[(dR gS (bw.take 2)).toNat].v]).1 lo>0:=(by simpa using fg)
   have CN:((fX [bw[(dR gS (bw.take 2)).toNat].v]).1,hi)=(bif (bw[bw.length-1].k==6)||(((dR (mc key) (bw.take 2))==0)==nt) then ox (fX [bw[(dR gS (bw.take 2)).toNat].v]).1 (lo,hi) else (lo,hi)):=(by rw[s5];show _=ox _ _;unfold ox;rw[if_pos rO])
   refine dO 2 ?_;refine dV call95 (IR (fX [bw[(dR gS (bw.take 2)).toNat].v]).1 w4) ?_;refine aE 2 ?_;refine aN 1 [_,_] sizeOf88 ?_;refine an 155 [0,8,9,11,13] ?_;refine⟨_,aK,((fX [bw[(dR gS (bw.take 2)).toNat].v]).1,hi),CN,(by first|exact dX|exact eV),eG,rfl⟩
  have rO:¬compareBytes (fX [bw[(dR gS (bw.take 2)).toNat].v]).1 lo>0:=(by simpa using fg)
  have CN:(lo,hi)=(bif (bw[bw.length-1].k==6)||(((dR (mc key) (bw.take 2))==0)==nt) then ox (fX [bw[(dR gS (bw.take 2)).toNat].v]).1 (lo,hi) else (lo,hi)):=(by rw[s5];show _=ox _ _;unfold ox;rw[if_neg rO])
  refine CD.skip ?_;refine⟨_,aK,(lo,hi),CN,(by first|exact dX|exact eV),eG,rfl⟩):p:=h
theorem WI(h:p:=by
  have fG:va eX y=false:=(by unfold va;simp_all[T5])
  refine CI.skip ?_;refine CI.region MB rfl ?_;refine bN (dI 1) ?_;refine bN (B9 0 [_,_]) ?_;refine ev (cc 0 [_]) [.slice none 0 0,.int .i64 0] [_,_] zeroValue90 runUnderlying85 sizeOf90 (fun G1=>?_);refine fF 0 40 2 1 ?_;refine OD.en (ls:=pre) (new:=[y]) (Sq:=So) T6 afo ap rfl rfl underlying85 Zx rfl w7 ot ho (dg (A:=[_,_,_])) ot bq GO GO (fun vN Gf aih aii=>?_);refine OD.perm (ee (S1:=[⟨vN,90,Gf*2,flatMap cE (pre++[y])⟩]) (A:=[_,_,_])) ?_;refine aN 1 [_] sizeOf85 ?_;refine OD.wk (Wk.dS (n:=43) (l':=[]) (S':=(⟨lf,90,2,[_,_]⟩::⟨b9,85,1,[_]⟩::⟨b5,88,1,[_]⟩::[⟨vN,90,Gf*2,flatMap cE (pre++[y])⟩])) rfl rfl trivial) ?_;refine OD.nil ?_;exact⟨_,Sublist.cons _ (Sublist.refl _),(fun x hx=>by rcases mem_append.1 hx with hx|hx;exact aR x hx;rw[mem_singleton] at hx;subst hx;exact fG),(some ⟨vN,0,none⟩),Gf,[⟨vN,90,Gf*2,flatMap cE (pre++[y])⟩],(bH aih aii),rfl⟩):p:=h
theorem z31(h:p:=by
  refine aD 1 ?_;refine OD.kz (f:=52) (args:=[_]) (all:=[_,_,_]) (Sf:=[_,_]) (R:=[]) ap rfl rfl ot call52 (Kz r k n d s ts 0 b2 b3 IH gv iX hs hd1 hd w7) rfl ⟨bP,trivial⟩ (Perm.refl _) ?_;rintro _ _ ⟨MK,⟨aoO,aoP,rfl,aij⟩,rfl⟩;refine OD.perm (Qn (A:=[_,_])) ?_;refine aE 2 ?_;refine ev (cc 0 [_]) [.int .i64 0,.int .i64 0,.int .i64 0,.string ⟨#[]⟩,.string ⟨#[]⟩] [_,_,_,_,_] zeroValue43 runUnderlying30 sizeOf43 (fun Aq=>?_);refine fF 0 58 5 1 ?_;refine OD.en (ls:=(gJ r ts n s 0)) (new:=[(⟨kk,bJ,⟨#[]⟩⟩:aX)]) (Sq:=MK) nf J6 ap rfl rfl underlying30 HY rfl w7 ot aij (dg (A:=[_,_])) ot bq Ab Ab (fun sX sG B7 B8=>?_);refine OD.perm (ee (S1:=[⟨sX,43,sG*5,flatMap cO ((gJ r ts n s 0)++[(⟨kk,bJ,⟨#[]⟩⟩:aX)])⟩]) (A:=[_,_])) ?_;refine an 69 [4] ?_;refine aJ [⟨sX,43,sG*5,flatMap cO ((gJ r ts n s 0)++[(⟨kk,bJ,⟨#[]⟩⟩:aX)])⟩] ?_;exact gm.cast (gm.mk (bH B7 B8)) (by rw[wm,lF,if_neg w4,if_neg w4,if_pos w4];rfl)):p:=h
theorem G2(h:p:=by
  refine aJ [] ?_;refine⟨?_,rfl⟩;unfold js;first|(rw[if_pos bE];first|done|rfl)|(rw[if_neg bE,if_pos dP,hj];rcases j with _|_|j<;>first|rfl|omega)|(rw[if_neg bE,if_neg cJ,if_pos cW];first|done|rfl)|(rw[if_neg bE,if_neg cJ,if_neg cW,if_pos w4,show -v.n=0-v.n by omega];first|done|rfl)|(rw[if_neg bE,if_neg cJ,if_neg cW,if_neg w4];first|done|rfl)):p:=h
theorem WJ(h:p:=by
  refine at_ rfl eK ?_;refine cr 14 rfl (dc 1 (h:=by first|exact .l (j:=a+t+1) rfl w4|exact .r (j:=a+t+1) rfl w4)) ?_;refine AD.one (i:=15) aA ?_;refine bj.storeAt (k:=0) (cs':=((Mv P B Q x (t+1)).set (a+t+1) ((Mv P B Q x (t+1))[a+t])).flatMap cI) rfl ap rfl rfl ot rfl rfl ot rfl rfl sizeOf3 rfl GS (by rw[Nat.zero_add];exact oQ eo _ _ w4) iE ?_;refine eE ?_;refine aE 1 ?_;refine OD.storeAt (k:=0) (cs':=(Mv P B Q x (t)).flatMap cI) ap rfl rfl ot rfl rfl ot rfl rfl sizeOf3 rfl GP (by rw[Nat.zero_add];exact(oQ eo ((Mv P B Q x (t+1)).set (a+t+1) ((Mv P B Q x (t+1))[a+t])) ((Mv P B Q x (t+1))[a+t+1]) vF).trans (congrArg (flatMap cI) (afp ML hP w4 w4))) ?_;refine an 220 [0,14,17] ?_;refine iv [0,14,17] ?_;refine aS 1 ?_ (h:=by exact(dw rfl ot bP (gj (r:=((a+t:Nat):Int)) Ms)));refine bK ?_;refine⟨t,_,cz,aK,w4,w4,rfl⟩):p:=h
theorem WK(h:p:=by
  refine at_ rfl eK ?_;refine cr 14 rfl (dc 1 (h:=by first|exact .l (j:=a+t) rfl w4|exact .r (j:=a+t) rfl w4)) ?_;refine AD.one (i:=15) aA ?_;refine bj.storeAt (k:=0) (cs':=((Mv P B Q x (t)).set (a+t) ((Mv P B Q x (t))[a+t+1])).flatMap cI) rfl ap rfl rfl ot rfl rfl ot rfl rfl sizeOf3 rfl GS (by rw[Nat.zero_add];exact oQ eo _ _ w4) iE ?_;refine eE ?_;refine aE 1 ?_;refine OD.storeAt (k:=0) (cs':=(Mv P B Q x (t+1)).flatMap cI) ap rfl rfl ot rfl rfl ot rfl rfl sizeOf3 rfl GP (by rw[Nat.zero_add];exact(oQ eo ((Mv P B Q x (t)).set (a+t) ((Mv P B Q x (t))[a+t+1])) ((Mv P B Q x (t))[a+t]) vF).trans (congrArg (flatMap cI) (afq ML hP w4 w4))) ?_;refine an 220 [0,10,13] ?_;refine iv [0,10,13] ?_;refine aS 1 ?_ (h:=by exact(dw rfl ot bP (kx (r:=((a+(t+1):Nat):Int)) (by rw[show(((a+t:Nat):Int)+1)=((a+(t+1):Nat):Int) by omega];exact wrap_i64 w4 w4))));refine bK ?_;refine⟨(t+1),_,cz,aK,w4,rfl⟩):p:=h
theorem WL(h:p:=by
  refine at_ rfl eK ?_;refine cr 14 rfl (dc 1 (h:=by first|exact .l (j:=j) rfl w4|exact .r (j:=j) rfl w4)) ?_;refine AD.one (i:=15) aA ?_;refine bj.storeAt (k:=0) (cs':=(lG.set j (lG[j-1]'qI)).flatMap cI) rfl ap rfl rfl ot rfl rfl ot rfl rfl sizeOf3 rfl GS (by rw[Nat.zero_add];exact oQ eo _ _ qJ) iE ?_;refine eE ?_;refine aE 1 ?_;refine OD.storeAt (k:=0) (cs':=((lG.set j (lG[j-1]'qI)).set (j-1) (lG[j]'qJ)).flatMap cI) ap rfl rfl ot rfl rfl ot rfl rfl sizeOf3 rfl GP (by rw[Nat.zero_add];exact oQ eo _ _ (by rw[length_set];exact qI)) ?_;refine an 53 [0,1,2,3,8,9] ?_;refine iv [0,1,2,3,8,9] ?_;refine aS 1 ?_ (h:=by exact(dw rfl ot bP (gj (r:=((j-1:Nat):Int)) Mu)));refine bK ?_;refine⟨((j-1),((lG.set j (lG[j-1]'qI)).set (j-1) (lG[j]'qJ))),_,cz,aK,(aap hj hja qJ qI (E3 agN)),(by simpa using zD),rfl⟩):p:=h
theorem WM(h:p:=by
  refine bW 71 (fun aik agO=>?_) (fun aik agO=>?_)
  ·refine bf [0,2,4,6,8,79] ?_;refine au ?_ ?_<;>intro cm cW
   ·have sH:(bw.length≠3∨(nt=true∧bw[bw.length-1].k≠7)∨(bw[bw.length-1].k≠6∧bw[bw.length-1].k≠7)):=(by first|omega|(simp_all;omega)|simp_all)
    have mM:nh key bw nt (lo,hi)=(lo,hi):=(by unfold nh;rw[u0 vp,if_pos sH])
    rw[mM] at aV;refine aJ [⟨b0,_,_,_⟩] ?_;refine⟨rfl,?_⟩;first|rw[sZ]|rw[aV]
   have sH:¬(bw.length≠3∨(nt=true∧bw[bw.length-1].k≠7)∨(bw[bw.length-1].k≠6∧bw[bw.length-1].k≠7)):=(by first|omega|(simp_all;omega)|simp_all)
   refine CD.skip ?_;refine⟨_,aK,sH,rfl⟩
  refine bf [0,2,4,6,8,79] ?_;refine fN ?_;have sH:¬(bw.length≠3∨(nt=true∧bw[bw.length-1].k≠7)∨(bw[bw.length-1].k≠6∧bw[bw.length-1].k≠7)):=(by first|omega|(simp_all;omega)|simp_all)
  refine CD.skip ?_;refine⟨_,aK,sH,rfl⟩):p:=h
theorem z37(h:p:=by
  have sH:(bw.length≠3∨(nt=true∧bw[bw.length-1].k≠7)∨(bw[bw.length-1].k≠6∧bw[bw.length-1].k≠7)):=(by first|omega|(simp_all;omega)|simp_all)
  have mM:nh key bw nt (lo,hi)=(lo,hi):=(by unfold nh;rw[u0 vp,if_pos sH])
  rw[mM] at aV;refine aJ [⟨b0,_,_,_⟩] ?_;refine⟨rfl,?_⟩;first|rw[sZ]|rw[aV]):p:=h
theorem WN(h:p:=by
  refine af [0] ?_;refine af [3] ?_;refine af [3,4] ?_;refine au ?_ ?_<;>intro aO bE
  ·refine eI ?_;refine af [2] ?_;refine aJ [] ?_;refine⟨vi ?_,rfl⟩;unfold bQ;simp_all
  refine cl [3,4] ?_;refine au ?_ ?_<;>intro aY cJ
  ·refine af [2] ?_;refine aJ [] ?_;refine⟨vi ?_,rfl⟩;unfold bQ;simp_all
  refine af [3,7] ?_;refine au ?_ ?_<;>intro cm cW
  ·refine eI ?_;refine af [2] ?_;refine aJ [] ?_;refine⟨vi ?_,rfl⟩;unfold bQ;simp_all
  refine cl [7] ?_;refine au ?_ ?_<;>intro da ek
  ·refine af [2] ?_;refine aJ [] ?_;refine⟨vi ?_,rfl⟩;unfold bQ;simp_all
  refine af [2] ?_;refine aJ [] ?_;refine⟨vi ?_,rfl⟩;unfold bQ;simp_all
  ):p:=h
theorem WO(h:p:=by
  have ow:¬u9 p i:=fun hk=>by obtain⟨k1,k2,k3⟩:=hk aa;unfold bF at k2 k3;first|(rw[k1] at xq;cases xq;done)|(have:=k2 w4;omega)|(have:=k3 (J5 BJ);have hx:=of_decide_eq_true da;omega)
  refine af [4] ?_;refine aJ [] ?_;refine⟨vb (EF fun hp=>?_),rfl⟩;exact ow (RY hp i)):p:=h
theorem z40(h:p:=by
  refine aE 1 ?_;first|refine OD.cells (k:=0) (cs':=[.list 1 [] 0,_]) rfl ⟨fp,dQ,trivial⟩ rfl ?_|skip
  first|refine OD.cells (k:=1) (cs':=[.list 1 [] 0,_]) rfl ⟨fp,dQ,trivial⟩ rfl ?_|skip
  first|refine OD.cells (k:=1) (cs':=[.list 5 [] 0]) rfl ⟨fp,trivial⟩ rfl ?_|skip
  first|refine OD.cells (k:=2) (cs':=[.list 5 [] 0]) rfl ⟨fp,trivial⟩ rfl ?_|skip
  refine an 46 [4,5,6] ?_;refine aJ [] ?_;rw[aV];exact⟨rfl,rfl⟩):p:=h
theorem WQ(h:p:=by
  refine⟨vi ?_,rfl⟩;try simp only[uU] at *
  unfold cD;simp_all;try omega):p:=h
theorem WR(h:p:=by
  refine aJ [⟨b0,_,_,_⟩] ?_;refine⟨rfl,?_⟩;first|rw[sZ]|rw[aV]):p:=h
theorem WS(h:p:=by
  refine at_ rfl eK ?_;refine cr 20 rfl (dc 1) ?_;refine AD.one (i:=21) aA ?_;refine bj.storeAt (k:=0) (cs':=((j3 l la lb i).set (la+i) ((j3 l la lb i)[lb+i]'hb)).flatMap cI) rfl ap rfl rfl ot rfl rfl ot rfl rfl sizeOf3 rfl GS (by rw[Nat.zero_add];exact oQ eo _ _ ha) iE ?_;refine eE ?_;refine aE 1 ?_;refine OD.storeAt (k:=0) (cs':=(j3 l la lb (i+1)).flatMap cI) ap rfl rfl ot rfl rfl ot rfl rfl sizeOf3 rfl GP (by rw[Nat.zero_add];exact(oQ eo ((j3 l la lb i).set (la+i) ((j3 l la lb i)[lb+i]'hb)) ((j3 l la lb i)[la+i]'ha) (by rw[length_set];exact hb)).trans (by rw[j3,sw,mG ha,mG hb])) ?_;refine an 38 [0,1,2,3,10] ?_;refine cl [0,1,2,3,10] ?_;refine⟨(i+1),_,cz,aK,w4,rfl⟩):p:=h
theorem oE(h:p:=by
  refine aJ [] ?_;rw[aV];exact⟨rfl,rfl⟩):p:=h
theorem CO(h:p:=by
  refine af [4] ?_;refine aJ [] ?_;first|exact⟨rfl,rfl⟩|(refine⟨vi ?_,rfl⟩;unfold pS;simp_all;done)|(refine⟨vi ?_,rfl⟩;unfold pS;split<;>(try split)<;>simp_all<;>omega)):p:=h
theorem z46(h:p:=by
  refine an 90 [4] ?_;refine aJ [] ?_;refine⟨vb ?_,rfl⟩;unfold jF jl;simp_all;all_goals (try (intros;omega))):p:=h
theorem WT(h:p:=by
  have uy:p.1∈ts:=(by rw[←hr.keys];exact mem_map_of_mem fO)
  refine⟨uy,?_⟩;rw[hr.at uy];have fi:∀(j:Nat) (p':Oper),k≤j→ops[j]?=some p'→p'.dst≠some p.1:=fun j p' hj xX iY=>by
   obtain⟨e1,s5,jk,jO⟩:=E4 (by simpa using Ar) xX iY uy;have:=(wI hp zE).1 e1 s5 jk;omega
  have h5:=k0.later (q:=p.1) (fun p' As=>by
   rw[←jx] at As;obtain⟨j,hj,rfl⟩:=mem_iff_getElem.1 As;refine fi (k+1+j) _ w4 ?_;rw[←Array.getElem?_toList,←getElem?_drop,getElem?_eq_getElem hj])
  rw[h5,fT,if_neg (fun e1:t=p.1=>fi k o (Nat.le_refl _) zE (by rw[←e1];exact hd))]):p:=h
theorem MM(h:p:=by
  refine⟨vb ?_,rfl⟩;unfold jF jl;simp_all;all_goals (try (intros;omega))):p:=h
theorem z49(h:p:=by
  skip;have hz:(fW l row ops[i] (fj bJ ops[i].k st) (eY bJ ops[i].k st)).2≠0:=(by simpa using da)
  have aV:=hinv.trans (RZ aa hz);refine aD 2 ?_;refine aN 7 [_,_,_] sizeOf41 ?_;refine an 64 [4,5] ?_;refine aJ [⟨br,28,1,[av 3 cV row]⟩,⟨bc,27,1,[av 2 cC l]⟩] ?_;rw[aV];exact⟨rfl,rfl⟩):p:=h
theorem nw(h:p:=by
  refine aJ [] ?_;exact⟨rfl,rfl⟩
  ):p:=h
theorem z51(h:p:=by
  refine aJ [] ?_;rw[aV];exact⟨rfl,fun h=>by dsimp only at h;omega⟩):p:=h
theorem WU(h:p:=by
  refine an 69 [4] ?_;refine aJ [_] ?_;first|exact gm.cast (gm.mk (g:=cO) (e:=43) (sz:=5) (ls:=[(⟨kk,uh n s,⟨#[]⟩⟩:aX)]) (bH (ls:=[(⟨kk,uh n s,⟨#[]⟩⟩:aX)]) (Nat.le_refl _) (show 1≤maxLen by decide))) (by rw[wm,lF,if_pos w4];unfold sC;rw[show kk=1 by omega])|exact gm.cast (gm.mk (g:=cO) (e:=43) (sz:=5) (ls:=[(⟨kk,bJ,om (j:Int)⟩:aX)]) (bH (ls:=[(⟨kk,bJ,om (j:Int)⟩:aX)]) (Nat.le_refl _) (show 1≤maxLen by decide))) (by rw[wm,lF,if_neg w4,if_pos w4];unfold wP;rw[hj,show kk=2 by omega])):p:=h
theorem z53(h:p:=by
  refine bf [2] ?_;refine eO ?_;refine⟨vb ?_,rfl⟩;rw[Bool.eq_iff_iff];simp[wB];first|done|omega):p:=h
theorem WV(h:p:=by
  refine OD.perm (ee (A:=[])) ?_;refine an 29 [3,8,9,10] ?_;refine cl [3,8,9,10] ?_;refine⟨((i+1),Vf,Vg,WW),_,cz,(aK (h:=by repeat (first|exact trivial|refine⟨(by (repeat (first|exact fB|(apply fU;focus (first|rfl|(simp;done)|(congr 2;omega)|(apply eL;first|exact IT aa w4|exact Ih aa w4)|(apply eL;rfl)|(apply eL;simp;done)))|(apply fH;focus rfl)));done),?_⟩))),w4,(bp.cast Vh (by first|exact IT aa w4|exact Ih aa w4)),rfl⟩):p:=h
theorem MN(h:p:=by
  refine⟨vs ?_,rfl⟩;have At:k=s.size∨6≤k:=(by omega)
  have K7:min k s.size=k:=Nat.min_eq_left hk;simp only[length_map,length_take,kN,K7] at *;unfold wQ zi;first|(rw[if_pos w4];done)|(rw[if_neg w4,Qo hk At h6])):p:=h
theorem WX(h:p:=by
  have hF:¬((bD t.az s.set)=0∧(fu t.az (rowAt t ((ax t s.aj).1[k]'aa)) s.bV).1.k=0):=(by first|exact fun h=>(show ¬(fu t.az (rowAt t ((ax t s.aj).1[k]'aa)) s.bV).1.k=0 from by simpa using gY) h.2|exact fun h=>absurd h.1 (by simpa using zC))
  have nT:(iQ t (bD t.az s.set) s.bV [] (ax t s.aj).1)=iQ t (bD t.az s.set) s.bV (acc++[(fu t.az (rowAt t ((ax t s.aj).1[k]'aa)) s.bV).1]) ((ax t s.aj).1.drop (k+1)):=(by rw[Au,jx,iQ,if_neg hE,if_neg hF])
  refine CD.skip ?_;refine⟨_,aK,nT,rfl⟩):p:=h
theorem G3(h:p:=by
  skip;obtain⟨hz,_⟩:=xY aO;obtain rfl:=length_eq_zero_iff.1 hz;refine af [2] ?_;refine aJ [] ?_;exact⟨none,0,rfl,.inl ⟨rfl,rfl,rfl,rfl,rfl⟩⟩):p:=h
theorem CP(h:p:=by
  refine aN 0 [_,_,_] sizeOf41 ?_;refine an 35 [4,5] ?_;refine aJ [] ?_;refine⟨?_,rfl⟩;unfold uj;simp_all[bJ]):p:=h
theorem z59(h:p:=by
  refine aJ [⟨br,28,1,[av 3 cV row]⟩,⟨bc,27,1,[av 2 cC l]⟩] ?_;rw[aV];exact⟨rfl,rfl⟩):p:=h
theorem WY(h:p:=by
  skip;have hz:(jg l ops[i] (fj 0 ops[i].k st) (eY 0 ops[i].k st)).2≠0:=(by simpa using da)
  have aV:=hinv.trans (RZ aa hz);refine af [4,5] ?_;refine aJ [⟨b2,27,1,[av 2 cC l]⟩] ?_;rw[aV];exact⟨rfl,rfl⟩):p:=h
theorem MO(h:p:=by
  refine af [2] ?_;refine aJ [] ?_;refine⟨vi ?_,rfl⟩;try simp only[OL] at *
  simp only[cL];first|(rw[if_pos w4];done)|(rw[if_neg w4];cases h1:og s<;>cases h2:u3.any (jl s)<;>simp_all)):p:=h
theorem G4(h:p:=by
  refine aJ _ ?_;first|exact⟨rfl,_,KA,rfl⟩|exact⟨rfl,_,E5 qD oF WZ,rfl⟩|exact⟨rfl,_,E5 qD oF (O9 qD oF w4),rfl⟩):p:=h
theorem xZ(h:p:=by
  refine af [2] ?_;refine eO ?_;rw[aV];exact⟨rfl,rfl⟩):p:=h
theorem W0(h:p:=by
  have hC:0≤p.kids[i]∧(p.leaf=false→p.kids[i]<many):=⟨by have hx:=of_decide_eq_false KB;omega,fun hl=>by first|(rw[hl] at FM;cases FM;done)|(have hx:=of_decide_eq_false fg;omega)⟩
  refine cl [1,2,113,114,115] ?_;refine⟨(i+1),_,cz,aK,w4,(fun j hj hl=>by rcases Nat.lt_or_ge j i with h|h;exact j8 j h hl;obtain rfl:j=i:=w4;exact hC),rfl⟩):p:=h
theorem W4(h:p:=by
  have fb:j=a∨Rc cF Lt (lG[j-1]'qI) (lG[j]'qJ):=(by first|exact .inr (Ft ha (adI hj (by have q:=of_decide_eq_true qE;omega) qJ qI hq) w4)|exact .inl (by have q:=of_decide_eq_false qE;omega))
  refine cl [0,1,2,3,8] ?_;refine⟨((i+1),lG),_,cz,aK,(fun _=>abS ht hj w4 w4 fb),w4,w4,w4,zD,rfl⟩):p:=h
theorem W5(h:p:=by
  refine aN 0 [_,_,_] sizeOf137 ?_;refine an 14 [2] ?_;refine aJ [] ?_;refine⟨?_,rfl⟩;unfold zF;first|(rw[if_neg lZ,if_neg x4,show((j:Nat):Int).toNat=j from rfl,getD_eq_getElem?_getD,getElem?_eq_getElem hj];rfl)|(rw[if_pos xS];rfl)|(rw[if_neg xS,if_pos vI];rfl)):p:=h
theorem uz(h:p:=by
  refine aJ [] ?_;rw[aV];exact⟨rfl,rfl⟩
  ):p:=h
theorem W6(h:p:=by
  have ow:vs[i].k≠l[i].k∧(i=0∨vs[i].k≠0):=(by first|(simp at *;omega)|(constructor<;>simp_all<;>omega))
  have hf:lR i l[i] vs[i]=4:=(by unfold lR;rw[if_neg hz,if_pos ow])
  have aV:ec l vs=4:=(by rw[hinv,Qp K8 aa (by rw[hf];decide),hf])
  refine af [4] ?_;refine eO ?_;rw[aV];exact⟨rfl,rfl⟩):p:=h
theorem W7(h:p:=by
  have ow:¬(0≤p.kids[i]∧(p.leaf=false→p.kids[i]<many)):=fun hk=>by obtain⟨k1,k2⟩:=hk;first|(have hx:=of_decide_eq_true KB;omega)|(have:=k2 (by simpa using FM);have hx:=of_decide_eq_true fg;omega)
  refine af [4] ?_;refine eO ?_;refine⟨vb (EF fun hp=>?_),rfl⟩;exact ow (adJ hp aa)):p:=h
theorem z70(h:p:=by
  refine an 70 [1,2,11,35,36,37] ?_;refine cl [1,2,11,35,36,37] ?_;refine⟨((k+1),(acc++[(L[k]'aa).2]),(some ⟨qK,0,none⟩),ry,[⟨qK,3,ry*1,flatMap Tw.cI ((acc)++[(L[k]'aa).2])⟩]),_,cz,aK,w4,GU,nT,(bp.cast (bH Gg Gh) jN),rfl⟩):p:=h
theorem W8(h:p:=by
  have oo:¬(vs[i].k≠l[i].k∧(i=0∨vs[i].k≠0)):=(by first|(simp_all;done)|omega|(simp at *;omega))
  have hf:lR i l[i] vs[i]=0:=(by unfold lR;rw[if_neg hz,if_neg oo])
  have jr:=hinv.trans (aaq K8 aa hf);refine cl [0,19,20,21] ?_;refine⟨(i+1),_,cz,aK,w4,jr,rfl⟩):p:=h
theorem z72(h:p:=by
  refine cl [1,3,33,34,35] ?_;refine⟨(i+1),_,cz,(aK (h:=by repeat (first|exact trivial|refine⟨(by (repeat (first|exact fB|(apply fU;focus (first|rfl|(rw[EG,if_neg zG];rfl)|(rw[EG,if_pos zG];rfl)|(simp;done)|(congr 2;omega)))|(apply fH;focus rfl)));done),?_⟩))),w4,rfl⟩):p:=h
theorem G5(h:p:=by
  refine OD.perm (ee (A:=[])) ?_;refine an 8 [2] ?_;refine aJ S7 ?_;exact⟨_,_,rfl,qa⟩
  ):p:=h
theorem W9(h:p:=by
  refine eE ?_;refine OD.hU iw rfl rfl rfl call29 (fP) ⟨ot,ot,trivial⟩ ?_;refine an 31 [1,10,11,12,29] ?_;refine au ?_ ?_<;>intro cm cW
  ·exact absurd cm (by (simp at cm;omega))
  refine cl [1,10,11,12] ?_;refine⟨(i+1),_,cz,aK,w4,rfl⟩):p:=h
theorem z75(h:p:=by
  skip;refine bf [1,33] ?_;refine eI ?_;refine af [2] ?_;refine eO ?_;exact⟨vi (OC w4).symm,rfl⟩):p:=h
theorem z76(h:p:=by
  refine aN 0 [_,_,_] sizeOf41 ?_;refine an 29 [2] ?_;refine aJ [] ?_;refine⟨?_,rfl⟩;unfold pK bJ;simp_all):p:=h
theorem Xa(h:p:=by
  have hC:¬((ey t.az s.bV).1≠(t.az.getD (bD t.az s.set).toNat ⟨⟨#[]⟩,0⟩).k∧(ey t.az s.bV).1≠0):=(by rw[ke];first|exact fun h=>h.2 (by simpa using cm)|exact fun h=>h.1 zj)
  refine CD.skip ?_;refine⟨_,aK,hC,rfl⟩):p:=h
theorem Xb(h:p:=by
  have mR:¬(0≤s.iq∧s.iq<lz.length):=(by first|exact fun h=>lB h.2|(intro h;omega))
  refine CD.skip ?_;refine⟨_,aK,lz,(by unfold tV sI;rw[←mS,Int.toNat_natCast,←hM,←Vi,if_neg mR]),Vj,w4,rfl⟩):p:=h
theorem MP(h:p:=by
  refine an 135 [4,5] ?_;refine aJ [] ?_;rw[aV];exact⟨[],none,0,[],rfl,ik,(fun o h=>by cases h),rfl,rfl⟩):p:=h
theorem z80(h:p:=by
  have agP:¬(f.length≤100∧eX.length≤100):=(by simp_all;omega)
  refine af [6,7] ?_;refine CD.wk (Wk.tL (t:=6) (sz:=2) lk) ?_;refine MQ ?_;exact⟨by unfold wR;rw[if_pos hz,if_neg agP];rfl,rfl⟩):p:=h
theorem Xc(h:p:=by
  unfold cC;refine bY ?_;refine OD.box (ds:=[_,_]) ap rfl rfl ot rfl rfl (fun b2=>?_);refine an 8 [1,2] ?_;refine af [3] ?_;refine aJ [⟨b,9,1,[bn nm]⟩] ?_;exact⟨rfl,rfl⟩
  ):p:=h
theorem Xd(h:p:=by
  refine di (hq) ?_;refine bK ?_;refine au ?_ ?_<;>intro fg gB
  ·exact absurd fg (by simp at fg)
  refine cl [1,5,6,9,11,13] ?_;refine⟨(i+1),_,cz,aK,w4,rfl⟩):p:=h
theorem Xe(h:p:=by
  have iD:¬((iN a b i).k≠1∧(iN a b i).k≠0):=(by simp_all)
  refine cl [2,3,4,6,14,15] ?_;refine⟨(i+1),_,cz,aK,w4,(EE (p:=fun v=>¬(v.k≠1∧v.k≠0)) fi iD),rfl⟩):p:=h
theorem Xf(h:p:=by
  unfold fk cmpL gh gh gh gh;rcases sc a.k b.k with ⟨h1,h2⟩|⟨h1,h2⟩|⟨h1,h2⟩<;>rcases sc a.n b.n with ⟨k1,k2⟩|⟨k1,k2⟩|⟨k1,k2⟩<;>simp only[h1,k1]<;>(repeat' split)<;>omega):p:=h
theorem z85(h:p:=by
  refine bK ?_;refine cZ [6,7] ?_;refine aS 6 ?_ (h:=by exact(dw rfl ot ot (EH underlying4)));refine bK ?_;refine aJ [] ?_;refine⟨?_,rfl⟩;unfold pJ;simp_all):p:=h
theorem Xg(h:p:=by
  have agR:¬((iN a b i).k=1∧(iN a b i).n=d):=(by simp_all)
  refine cl [2,3,4,6,30,31] ?_;refine⟨(i+1),_,cz,aK,w4,(EE (p:=fun v=>¬(v.k=1∧v.n=d)) KC agR),rfl⟩):p:=h
theorem z87(h:p:=by refine⟨_,(aK (h:=by repeat (first|exact trivial|refine⟨(by (repeat (first|exact fB|(apply fU;focus (first|rfl|(rw[dG];done)|(simp;done)))|(apply fH;focus rfl)));done),?_⟩))),rfl⟩):p:=h
theorem Xh(h:p:=by refine⟨_,(aK (h:=by repeat (first|exact trivial|refine⟨(by (repeat (first|exact fB|(apply fU;focus (first|rfl|(rw[ke];done)|(simp;done)))|(apply fH;focus rfl)));done),?_⟩))),rfl⟩):p:=h
theorem Xi(h:p:=by
  skip;obtain⟨hz,_⟩:=xY aO;obtain rfl:=length_eq_zero_iff.1 hz;refine af [2] ?_;refine CD.wk (Wk.tL (t:=2) (sz:=1) lk) ?_;refine aJ [] ?_;exact⟨rfl,rfl⟩):p:=h
theorem Av(h:p:=by
  refine aJ [] ?_;rw[fb];exact⟨rfl,rfl⟩):p:=h
theorem z91(h:p:=by
  refine af [4] ?_;refine aJ [] ?_;first|exact⟨vi (EI hn).symm,rfl⟩|exact⟨vi (Em hz vI).symm,rfl⟩|exact⟨vi (Jp hz vI).symm,rfl⟩):p:=h
theorem Xj(h:p:=by
  rw[←jx] at fO;obtain⟨j,hj,rfl⟩:=mem_iff_getElem.1 fO;refine lg (k+1+j) _ w4 ?_;rw[←Array.getElem?_toList,←getElem?_drop,getElem?_eq_getElem hj]):p:=h
theorem z93(h:p:=by
  refine aJ [] ?_;rw[fb];exact⟨rfl,rfl⟩
  ):p:=h
theorem Xk(h:p:=by
  refine af [4] ?_;refine eO ?_;refine⟨vi ?_,rfl⟩;unfold aL;first|(rw[Ca] at Xl;cases fM:p.leaf<;>simp_all;done)|(simp_all;done)|(simp_all;omega)):p:=h
theorem MR(h:p:=by
  refine af [2,3] ?_;refine aJ [] ?_;first|(rw[aV];exact⟨none,0,rfl,ik⟩)):p:=h
theorem MS(h:p:=by
  refine af [2] ?_;refine aJ [] ?_;exact⟨by first|rw[aV]|rw[aV];rfl,rfl⟩):p:=h
theorem Xm(h:p:=by
  have g6:=po.leaf;have g7:=fun h=>(po.node h).1;cases fM:(t.ag[i]'aa).leaf with
  | true=>have:=g6 fM;omega
  | false=>have:=g7 fM;omega):p:=h
theorem Xn(h:p:=by
  rw[map_set,hn];have:l[i].nm=(l.map aM.nm)[i]'(by rw[length_map];exact hi):=(by rw[getElem_map])
  rw[this,set_getElem_self]):p:=h
theorem Xo(h:p:=by refine⟨((((i+j)/2)+1),j),_,cz,aK,w4,w4,w4,(.inr ⟨by omega,by omega,by exact xL⟩),fy,rfl⟩):p:=h
theorem Vk(h:p:=by
  obtain⟨t',h3,h4⟩:=(wI hp xX).2;rw[iY] at h3;obtain rfl:=Option.some.inj h3;exact h4 k o hj zE hd):p:=h
theorem Vm(h:p:=by
  unfold me;rw[mk_data,getD_eq_getElem?_getD,getElem?_eq_getElem w4];exact getElem_mem _):p:=h
theorem Vn(h:p:=by
  rw[pT] at pi;rcases mem_cons.1 pi with rfl|pi
  ·exact .inl (tr _ _)
  exact m.T7 x pi):p:=h
theorem Vo(h:p:=by
  have fb:ec l=1:=if_pos w4;refine af [2] ?_;refine eO ?_;rw[fb];exact⟨rfl,rfl⟩):p:=h
theorem Vp(h:p:=by
  refine aJ [⟨br,28,1,[av 3 cV row]⟩,⟨bc,27,1,[av 2 cC l]⟩] ?_;rw[aV];exact⟨rfl,rfl⟩
  ):p:=h
theorem z105(h:p:=by refine⟨(i,((i+j)/2)),_,cz,aK,w4,w4,w4,dP,(.inr ⟨by omega,by omega,Aw⟩),rfl⟩):p:=h
theorem Vq(h:p:=by
  refine CD.skip ?_;have agS:l1=l:=abT K9 w4;rw[agS];refine⟨_,aK,rfl⟩):p:=h
theorem z107(h:p:=by
  refine cX [0,4,5,6,41] (nv) ?_;refine au ?_ ?_<;>intro fg gB
  ·have aV:iC k a b=(bJ,0):=(by unfold iC;rw[if_neg (by simp[oC]),if_neg w4,if_neg w4,if_pos w4,if_pos fg])
   refine aD 1 ?_;exact z7
  refine af [0,4,5,6,47] ?_;refine au ?_ ?_<;>intro gY kS
  ·have aV:iC k a b=(bJ,4):=(by unfold iC;rw[if_neg (by simp[oC]),if_neg w4,if_neg w4,if_pos w4,if_neg (by rw[fg];simp),if_pos (by simpa using gY)])
   refine aD 1 ?_;exact z7
  have aV:iC k a b=(qv ((fk a b==0&&k==6)||(decide (fk a b<0)&&k==7)),0):=(by unfold iC;rw[if_neg (by simp[oC]),if_neg w4,if_neg w4,if_pos w4,if_neg (by rw[fg];simp),if_neg (by simpa using gY)])
  refine cX [0,6,9] (e9) ?_;refine aD 3 ?_;refine bW 54 (fun zH zj=>?_) (fun zH zj=>?_)
  ·refine aE 4 ?_;refine bW 58 (fun ail agT=>?_) (fun ail agT=>?_)
   ·refine x5 3 ?_;refine aE 4 ?_;refine dV call100 (tu _) ?_;exact z7
   refine aE 3 ?_;refine bW 61 (fun La KD=>?_) (fun La KD=>?_)
   ·refine aE 4 ?_;refine dV call100 (tu _) ?_;exact z7
   refine aE 4 ?_;refine dV call100 (tu _) ?_;exact z7
  refine aE 7 ?_;refine bW 61 (fun La KD=>?_) (fun La KD=>?_)
  ·refine aE 4 ?_;refine dV call100 (tu _) ?_;exact z7
  refine aE 4 ?_;refine dV call100 (tu _) ?_;exact z7):p:=h
theorem Vr(h:p:=by
  have u6:¬((l[i].k != 1 && !(zeroV l[i].v))||(l[i].k != 2 && !(l[i].nm.toList==(⟨#[]⟩:ByteArray).toList)))=true:=(by unfold zeroV;simp_all)
  refine af [3,5,11,12,13,52] ?_;refine au ?_ ?_<;>intro fg gB
  ·refine cX [3,5,7,11,12,13] (tK hm hw l[i].nm (hs _ (getElem_mem aa))) ?_;refine af [3,5,7,11,12,13,57] ?_;refine au ?_ ?_<;>intro gY kS
   ·have qL:cL l[i].nm≠0:=(by simpa using gY)
    have qC:fh h l[i]=cL l[i].nm:=(by unfold fh;rw[if_neg dP,if_neg ux,if_neg u6,if_pos ⟨by simpa using fg,qL⟩])
    refine af [2] ?_;refine aJ [] ?_;exact vM
   have j9:¬(l[i].k=2∧cL l[i].nm≠0):=(by simp at gY;simp[gY])
   refine cX [3,5,11,12,13,63] (yU l[i].k) ?_;refine au ?_ ?_<;>intro gq lB
   ·have rM:h<bQ l[i].k:=(by simpa using gq)
    have qC:fh h l[i]=7:=(by unfold fh;rw[if_neg dP,if_neg ux,if_neg u6,if_neg j9,if_pos rM])
    refine af [2] ?_;refine aJ [] ?_;exact vM
   exact GZ
  have j9:¬(l[i].k=2∧cL l[i].nm≠0):=(by simp at fg;simp[fg])
  refine cX [3,5,11,12,13,63] (yU l[i].k) ?_;refine au ?_ ?_<;>intro gq lB
  ·have rM:h<bQ l[i].k:=(by simpa using gq)
   have qC:fh h l[i]=7:=(by unfold fh;rw[if_neg dP,if_neg ux,if_neg u6,if_neg j9,if_pos rM])
   refine af [2] ?_;refine aJ [] ?_;exact vM
  exact GZ):p:=h
theorem z109(h:p:=by
  have u6:¬((l[i].k != 1 && !(zeroV l[i].v))||(l[i].k != 2 && !(l[i].nm.toList==(⟨#[]⟩:ByteArray).toList)))=true:=(by unfold zeroV;simp_all)
  refine af [3,5,11,12,13,52] ?_;refine au ?_ ?_<;>intro fg gB
  ·refine cX [3,5,7,11,12,13] (tK hm hw l[i].nm (hs _ (getElem_mem aa))) ?_;refine af [3,5,7,11,12,13,57] ?_;refine au ?_ ?_<;>intro gY kS
   ·have qL:cL l[i].nm≠0:=(by simpa using gY)
    have qC:fh h l[i]=cL l[i].nm:=(by unfold fh;rw[if_neg dP,if_neg ux,if_neg u6,if_pos ⟨by simpa using fg,qL⟩])
    refine af [2] ?_;refine eO ?_;exact vM
   have j9:¬(l[i].k=2∧cL l[i].nm≠0):=(by simp at gY;simp[gY])
   refine cX [3,5,11,12,13,63] (yU l[i].k) ?_;refine au ?_ ?_<;>intro gq lB
   ·have rM:h<bQ l[i].k:=(by simpa using gq)
    have qC:fh h l[i]=7:=(by unfold fh;rw[if_neg dP,if_neg ux,if_neg u6,if_neg j9,if_pos rM])
    refine af [2] ?_;refine eO ?_;exact vM
   exact GZ
  have j9:¬(l[i].k=2∧cL l[i].nm≠0):=(by simp at fg;simp[fg])
  refine cX [3,5,11,12,13,63] (yU l[i].k) ?_;refine au ?_ ?_<;>intro gq lB
  ·have rM:h<bQ l[i].k:=(by simpa using gq)
   have qC:fh h l[i]=7:=(by unfold fh;rw[if_neg dP,if_neg ux,if_neg u6,if_neg j9,if_pos rM])
   refine af [2] ?_;refine eO ?_;exact vM
  exact GZ):p:=h
theorem Vs(h:p:=by
  refine cr 8 rfl (dc 1 (h:=by first|exact .l (j:=tj) rfl rJ|exact .r (j:=tj) rfl rJ)) ?_;refine AD.two (i:=9) (j:=11) aA ?_ ?_
  ·refine at_ rfl (cU (mk:=Op.load 9) rfl ot (by exact qu (g:=cS) (ls:=eu) (i:=tj) (d:=bn tn) gQ isAgg9 rJ (by show some (D.v (.string (eu[tj]'rJ)))=some (D.v (.string tn));rw[Ve]))) ?_;refine cr 10 rfl (nE (pl:=[(0,_),(1,_),(9,_)]) (ds:=[_,_,_,_,_,_,_,_,_,_,_,_]) rfl zeroValue32 runUnderlying32 Ox ⟨rfl,ot,rfl,ot,rfl,bP,trivial⟩ rfl rfl) ?_;refine AD.one (i:=11) aA ?_;refine bj.alloc (ds:=[_,_,_,_,_,_,_,_,_,_,_,_]) rfl ap rfl rfl zeroValue32 rfl (fun b3=>?_);exact z10
  refine bj.alloc (ds:=[_,_,_,_,_,_,_,_,_,_,_,_]) rfl ap rfl rfl zeroValue32 rfl (fun b3=>?_);exact z4):p:=h
theorem Lb(h:p:=by
  refine dO 2 ?_;refine OD.kz (f:=134) (args:=[_,_]) (all:=[_,_]) (Sf:=[]) ap rfl rfl ot call134 (zk a 2) rfl ⟨ot,bP,trivial⟩ (eR _) ?_;rintro _ _ ⟨rfl,rfl⟩;refine aE 1 ?_;refine bW 68 (fun aim agU=>?_) (fun aim agU=>?_)
  ·refine aE 2 ?_;refine OD.kz (f:=134) (args:=[_,_]) (all:=[_,_]) (Sf:=[]) iw rfl rfl ot call134 (zk b 2) rfl ⟨ot,bP,trivial⟩ (eR _) ?_;rintro _ _ ⟨rfl,rfl⟩;exact z21
  refine an 76 [11,12] ?_;refine af [12,74] ?_;refine eI ?_;exact z22):p:=h
theorem Gi(h:p:=by
  refine AD.one (i:=7) aA ?_;refine jm call21 (Gj) ?_;refine cr 8 rfl (dc 1 (h:=by first|exact .l (j:=tj) rfl rJ|exact .r (j:=tj) rfl rJ)) ?_;exact z4):p:=h
theorem Vt(h:p:=by
  refine aD 4 ?_;refine OD.kz (f:=98) (args:=[_,_,_]) (all:=[_,_,_,_]) (Sf:=[⟨b2,27,1,[av 2 cC l]⟩]) ap rfl rfl ot call98 (Pb l hl ops[i] _ _ _ _ ha hb b2) rfl ⟨ot,ot,ot,trivial⟩ (kr (k:=1) rfl) ?_;rintro _ _ ⟨rfl,rfl⟩;refine an 64 [1,6,7,13,14,15,16,17,18] ?_;refine af [1,6,7,13,14,15,16,17,18,51] ?_;refine au ?_ ?_<;>intro da ek
  ·exact WY
  have hz:(jg l ops[i] (fj 0 ops[i].k st) (eY 0 ops[i].k st)).2=0:=(by simpa using da)
  refine CD.skip ?_;refine CD.sI (k:=(st.length-(bQ ops[i].k).toNat)) (ls:=(st)) (Sq:=[⟨bh,3,kf*1,flatMap cI st⟩]) eo w4 (bH (g:=cI) (ls:=st) xm wN) (dg (A:=[_,_])) (fun B6 BH=>?_);exact z12):p:=h
theorem Vu(h:p:=by
  refine cr 8 rfl (dc 1 (h:=by first|exact .l (j:=tj) rfl rJ|exact .r (j:=tj) rfl rJ)) ?_;exact z4):p:=h
theorem Vv(h:p:=by
  rintro _ _ ⟨rfl,rfl⟩;refine aE 3 ?_;refine OD.alloc (ds:=[_,_,_]) ap rfl rfl zeroValue41 rfl (fun Ax=>?_);refine aN 0 [_,_,_] sizeOf41 ?_;refine an 64 [1,4,6,7,13,14,15,16,17,18] ?_;refine af [1,4,6,7,13,14,15,16,17,18,51] ?_;refine au ?_ ?_<;>intro da ek
  ·exact z49
  have hz:(fW l row ops[i] (fj bJ ops[i].k st) (eY bJ ops[i].k st)).2=0:=(by simpa using da)
  refine CD.skip ?_;refine CD.sI (k:=(st.length-(bQ ops[i].k).toNat)) (ls:=(st)) (Sq:=[⟨bh,41,kf*3,flatMap cV st⟩]) eS w4 (bH (g:=cV) (ls:=st) xm wN) (dg (A:=[_,_,_,_,_,_,_,_])) (fun B6 BH=>?_);exact z5):p:=h
theorem z116(h:p:=by
  refine CD.seq ?_;refine uA 11 10 [5,7,31] ?_;refine di (kp G n 40 gv iX w7) ?_;refine di (Qq ⟨n,dU n 40-20,s⟩ fR) ?_;refine rP ?_;refine jZ ?_;refine⟨rfl,fun b7=>?_⟩;refine aN 0 [_,_,_] sizeOf41 ?_;refine an 69 [5,7] ?_;refine aD 2 ?_;refine dV call16 (Fu (pK ⟨n,dU n 40-20,s⟩).s 4 w4) ?_;refine aE 1 ?_;refine aN 0 [_,_,_] sizeOf9 ?_;refine an 69 [5,7] ?_;refine aD 3 ?_;refine ev (cc 0 [_]) [.int .i64 0,.int .i64 0,.int .i64 0,.string ⟨#[]⟩,.string ⟨#[]⟩] [_,_,_,_,_] zeroValue43 runUnderlying30 sizeOf43 (fun CQ=>?_);exact z28):p:=h
theorem z117(h:p:=by
  refine dO 2 ?_;refine OD.kz (f:=134) (args:=[_,_]) (all:=[_,_]) (Sf:=[]) ap rfl rfl ot call134 (zk a 1) rfl ⟨ot,bP,trivial⟩ (eR _) ?_;rintro _ _ ⟨rfl,rfl⟩;refine aE 1 ?_;refine bW 40 (fun Lc KE=>?_) (fun Lc KE=>?_)
  ·refine aE 2 ?_;refine OD.kz (f:=134) (args:=[_,_]) (all:=[_,_]) (Sf:=[]) iw rfl rfl ot call134 (zk b 1) rfl ⟨ot,bP,trivial⟩ (eR _) ?_;rintro _ _ ⟨rfl,rfl⟩;exact z21
  refine an 76 [11,12] ?_;refine af [12,74] ?_;refine eI ?_;exact z22):p:=h
theorem Vw(h:p:=by
  refine AD.one (i:=10) aA ?_;refine jm call95 (j7 (t.ag[i]'aa).high w4) ?_;refine cr 13 rfl (nE (pl:=[(0,_),(1,_),(2,_),(3,_),(4,_)]) (ds:=[_,_,_,_,_]) rfl zeroValue153 runUnderlying153 Om ⟨rfl,ot,rfl,ot,rfl,ot,rfl,ot,rfl,ot,trivial⟩ rfl rfl) ?_;refine AD.one (i:=14) aA ?_;refine iV (cc 0 [_]) [.bool false,.slice none 0 0,.slice none 0 0,.slice none 0 0,.int .i64 0] [_,_,_,_,_] zeroValue153 runUnderlying49 sizeOf153 (fun Ay=>?_);refine iW 0 46 5 1 ?_;exact MG):p:=h
theorem z119(h:p:=by
  refine eE ?_;refine bf [3] ?_;refine af [52] ?_;refine au ?_ ?_<;>intro fg gB
  ·exact MI
  exact MI):p:=h
theorem Gk(h:p:=by
  refine af [4,5,6] ?_;refine CD.wk (Wk.tL (t:=4) (sz:=1) lk) ?_;refine CD.wk (Wk.tL (t:=5) (sz:=1) lk) ?_;exact oE):p:=h
theorem Vx(h:p:=by
  refine dO 3 ?_;refine OD.kz (f:=134) (args:=[_,_]) (all:=[_,_]) (Sf:=[]) ap rfl rfl ot call134 (zk a b) rfl ⟨ot,ot,trivial⟩ (eR _) ?_;rintro _ _ ⟨rfl,rfl⟩;refine aE 1 ?_;refine bW 57 (fun uk BK=>?_) (fun uk BK=>?_)
  ·refine an 76 [11,12] ?_;refine af [12,74] ?_;refine fN ?_;exact z22
  exact z21):p:=h
theorem Ld(h:p:=by
  refine af [2] ?_;refine aJ [] ?_;exact vM):p:=h
theorem Gl(h:p:=by
  refine af [2] ?_;refine eO ?_;exact vM):p:=h
theorem z124(h:p:=by
  refine mw 7 rfl ?_;refine mw 8 rfl ?_;refine mw 9 rfl ?_;refine dm.later rfl ?_;refine AD.one (i:=10) aA ?_;refine bj.skip rfl (mE rfl rfl rfl lk jw) rfl ?_;refine cr 11 rfl vn ?_;refine cr 12 rfl aZ ?_;exact Wy):p:=h
theorem Gm(h:p:=by
  skip;refine bf [1,2,39] ?_;refine eI ?_;refine af [4] ?_;refine eO ?_;exact GY):p:=h
theorem Vy(h:p:=by
  have cm:(dR (mc key) (bw.take 2))<0∨(dR gS (bw.take 2))<0:=(by first|omega|(simp_all;omega)|simp_all)
  have mM:nh key bw nt (lo,hi)=(lo,hi):=(by unfold nh;rw[u0 vp,if_neg sH,if_pos cm])
  rw[mM] at aV;exact WR):p:=h
theorem z127(h:p:=by
  refine af [2] ?_;refine eO ?_;exact WQ):p:=h
theorem Vz(h:p:=by
  refine bY ?_;refine OD.alloc (ds:=[_,_,_]) ap rfl rfl zeroValue137 rfl (fun b2=>?_);refine an 5 [0,2] ?_;refine aD 2 ?_;refine aN 0 [_,_,_] sizeOf137 ?_;refine an 5 [2] ?_;exact nw):p:=h
theorem VA(h:p:=by
  refine af [52] ?_;refine au ?_ ?_<;>intro fg gB
  ·refine af [2] ?_;refine aJ [] ?_;exact MJ
  refine af [2] ?_;refine aJ [] ?_;exact MJ):p:=h
theorem z130(h:p:=by
  refine VC.body func51 rfl ntmps51 aQ fun X0 w0 bg=>?_;refine af [0,1] ?_;refine aD 2 ?_;refine bN (YP rfl ot ot func96 aA aA aA aA) ?_;refine an 8 [4] ?_;exact nw):p:=h
theorem z131(h:p:=by
  have hf:nl (l.take i) l[i]=2:=(by unfold nl;rw[if_neg gN,if_pos w4])
  have aV:fI l=2:=(by rw[hinv,IU aa (by rw[hf];decide),hf])
  exact xZ):p:=h
theorem Cb(h:p:=by
  refine af [2] ?_;refine aJ [] ?_;exact WQ):p:=h
theorem VB(h:p:=by
  refine OD.perm (ee (A:=[])) ?_;refine an 8 [2] ?_;refine CD.ic (t:=2) (Sq:=S7) lk qa (cu pL _) (dg (A:=[])) ?_;exact nw):p:=h
theorem VD(h:p:=by
  skip;refine bf [1,14] ?_;refine au ?_ ?_<;>intro cm cW
  ·refine af [2] ?_;exact z24
  exact z20):p:=h
theorem xu(h:p:=by
  refine af [4,5] ?_;exact z51):p:=h
theorem Le(h:p:=by
  refine aN 0 [_,_,_] sizeOf41 ?_;refine an 42 [8,9] ?_;exact z59):p:=h
theorem VE(h:p:=by
  skip;refine aE 5 ?_;refine bW 17 (fun xw wS=>?_) (fun xw wS=>?_)
  ·exact z53
  exact z53):p:=h
theorem z138(h:p:=by
  skip;refine bf [1,2,71] ?_;refine eI ?_;refine af [4] ?_;refine eO ?_;exact GY):p:=h
theorem z139(h:p:=by
  refine AD.two (i:=4) (j:=7) aA ?_ ?_
  ·refine iV (cc 0 [_,_]) [.string ⟨#[]⟩,.string ⟨#[]⟩] [_,_] zeroValue9 runUnderlying29 sizeOf9 (fun b8=>?_);refine iW 0 8 1 2 ?_;exact Gi
  refine jm call21 (Gj) ?_;refine AD.one (i:=4) aA ?_;refine iV (cc 0 [_,_]) [.string ⟨#[]⟩,.string ⟨#[]⟩] [_,_] zeroValue9 runUnderlying29 sizeOf9 (fun b8=>?_);refine iW 0 8 1 2 ?_;exact Vu):p:=h
theorem VF(h:p:=by
  refine AD.two (i:=7) (j:=11) aA ?_ ?_
  ·refine jm call21 (Gj) ?_;exact Vs
  refine bj.alloc (ds:=[_,_,_,_,_,_,_,_,_,_,_,_]) rfl ap rfl rfl zeroValue32 rfl (fun b3=>?_);exact Gi):p:=h
theorem z141(h:p:=by
  refine AD.one (i:=15) aA ?_;refine bj.hU rfl iw rfl rfl rfl call139 (R3 t.s 140 wT call140 Qr hs) ⟨ot,tv,trivial⟩ ?_;refine cr 19 rfl mT ?_;refine cr 20 rfl xx ?_;exact z119):p:=h
theorem VG(h:p:=by
  have qC:fh h l[i]=6:=(by unfold fh zeroV;rw[if_neg dP,if_neg ux,if_pos (by simp_all)])
  exact Ld):p:=h

end Go.Proofs.YtdgichenhdikgaaGreatDoor
namespace Go.Proofs.YtdgichenhdikgaaGreatDoor.V
open List
open Go.RowKit
variable {L X:Nat→Prop} {w':World} {b i k n off o' cap sz j m h' tt bytes:Nat} {I:Array Field} {v u:Value} {e t:TypeId} {y fo:Operand} {a:Act} {cur:Array Value} {lo hi:Option Operand} {ts:Array TypeId} {ad:Option Addr} {ps:Array (Nat×Operand)} {dj:Array Operand}
inductive D where
 | v (x:Value)
 | list (sz:Nat) (cs:List D) (len:Nat)
 | fC (cs:List D) (off:Nat)
 | agg (cs:List D)
 | dJ (cs:List D)
 | eC (f:Fn) (cs:List D)
 | kg (l:Nat) (os:List (Nat×Obj))
 | bX
 deriving Inhabited
variable {ds cs':List D} {l:List (Nat×D)}
inductive cq (w:World) (L:Nat→Prop):D→Value→Prop
 | v (x:Value):cq w L (.v x) x
 | mj (sz:Nat) (ad:Option Addr) (cap:Nat):cq w L (.list sz [] 0) (.slice ad 0 cap)
 | list (sz:Nat) (cs:List D) (len b o cap:Nat) (f:Nat→Value) (hl:cs.length=len*sz) (h1:len≤cap) (h2:cap≤maxLen) (hb:b<w.heap.size) (hL:¬L b)
   (hc:∀i,i<cs.length→w.cell? ⟨b,o+i,none⟩=some (f i)) (hr:∀i (h:i<cs.length),cq w L cs[i] (f i)):cq w L (.list sz cs len) (.slice (some ⟨b,o,none⟩) len cap)
 | fC (cs:List D) (off b o:Nat) (f:Nat→Value) (hb:b<w.heap.size) (hL:¬L b)
   (hc:∀i,i<cs.length→w.cell? ⟨b,o+i,none⟩=some (f i)) (hr:∀i (h:i<cs.length),cq w L cs[i] (f i)):cq w L (.fC cs off) (.pointer (some ⟨b,o+off,none⟩))
 | agg (cs:List D) (vs:List Value) (hl:vs.length=cs.length) (hr:∀i (h:i<cs.length) (h':i<vs.length),cq w L cs[i] vs[i]):cq w L (.agg cs) (.agg vs.toArray)
 | dJ (cs:List D) (vs:List Value) (hl:vs.length=cs.length) (hr:∀i (h:i<cs.length) (h':i<vs.length),cq w L cs[i] vs[i]):cq w L (.dJ cs) (.tuple vs.toArray)
 | eC (fn:Fn) (cs:List D) (vs:List Value) (hl:vs.length=cs.length) (hr:∀i (h:i<cs.length) (h':i<vs.length),cq w L cs[i] vs[i]):cq w L (.eC fn cs) (.func fn #[] vs.toArray)
 | kg (l:Nat) (os:List (Nat×Obj)) (h:∀z∈os,z.1<w.heap.size∧¬L z.1∧w.heap[z.1]?=some z.2):cq w L (.kg l os) (.func (.yield l) #[] #[])
 | bX (x:Value):cq w L .bX x
theorem cq.nil{w:World}(sz:Nat):cq w L (.list sz [] 0) (.slice none 0 0):=.mj sz none 0
theorem qV{w:World}(hb:b<w.heap.size)(h:w'.heap[b]?=w.heap[b]?):b<w'.heap.size:=by
 rcases Nat.lt_or_ge b w'.heap.size with h'|h'
 ·exact h'
 rw[Array.getElem?_eq_none h',Array.getElem?_eq_getElem hb] at h;cases h
theorem cq.mono{w:World}{I:Nat→Prop}{d:D}(h:cq w L d v)(H:∀b,b<w.heap.size→¬L b→w'.heap[b]?=w.heap[b]?∧¬I b):cq w' I d v:=by
 induction h with
 | v x=>exact .v x
 | mj sz ad cap=>exact .mj sz ad cap
 | list sz cs len b o cap f hl h1 h2 hb hL hc hr ih =>
  have E:=H b hb hL;exact .list sz cs len b o cap f hl h1 h2 (qV hb E.1) E.2 (fun i hi=>(World.cell?_of_block (w:=w) (a:=⟨b,o+i,none⟩) E.1).trans (hc i hi)) ih
 | fC cs off b o f hb hL hc hr ih =>
  have E:=H b hb hL;exact .fC cs off b o f (qV hb E.1) E.2 (fun i hi=>(World.cell?_of_block (w:=w) (a:=⟨b,o+i,none⟩) E.1).trans (hc i hi)) ih
 | agg cs vs hl hr ih=>exact .agg cs vs hl ih
 | dJ cs vs hl hr ih=>exact .dJ cs vs hl ih
 | eC fn cs vs hl hr ih=>exact .eC fn cs vs hl ih
 | kg l os h =>
  refine .kg l os fun z hz=>?_;obtain⟨h1,h2,h3⟩:=h z hz;have E:=H z.1 h1 h2;exact⟨qV h1 E.1,E.2,E.1.trans h3⟩
 | bX x=>exact .bX x
structure ah where
 b:Nat
 e:TypeId
 size:Nat
 cs:List D
 deriving Inhabited
variable {S S' Sf R:List ah} {B:ah} {post:D→List ah→Prop}
def y8:TypeId:=1000003
def R4:TypeId:=1000004
def isMap(e:TypeId):Bool:=Nat.beq e y8||Nat.beq e R4
def BL(cur:Array Value):Obj:=.map (cur.mapIdx fun i k=>⟨k,.agg #[],i⟩) cur.size
def T8:Value→Nat
 | .int _ n=>n.toNat
 | _=>0
def VH:List Value→List MapEntry
 | k::v::b::r=>⟨k,v,T8 b⟩::VH r
 | _=>[]
def afr(cur:Array Value):Obj:=match cur.toList with
 | c::r=>.map (VH r).toArray (T8 c)
 | []=>.map #[] 0
def ob(e:TypeId)(cur:Array Value):Obj:=bif isMap e then (bif Nat.beq e R4 then afr cur else BL cur) else .cells cur e (0,0)
theorem ku(he:isMap e=false)(cur:Array Value):ob e cur = .cells cur e (0,0):=by rw[ob,he];rfl
theorem T9(cur:Array Value):ob y8 cur=BL cur:=rfl
def KF(w:World)(L:Nat→Prop)(B:ah):Prop :=
 B.b<w.heap.size∧∃cur:Array Value,w.heap[B.b]?=some (ob B.e cur)∧cur.size=B.size∧B.cs.length≤B.size∧∀i (h:i<B.cs.length),∃u,cur[i]?=some u∧cq w L B.cs[i] u
def q9:Value→Bool
 | .tuple _=>false
 | _=>true
def oc(w:World)(b i:Nat):Value→Prop
 | .tuple vs=>∃t fz,w.heap[b]?=some (.cells vs t fz)
 | v=>w.cell? ⟨b,i,none⟩=some v
theorem oc.cell{w:World}(h:oc w b i v)(E:q9 v=true):w.cell? ⟨b,i,none⟩=some v:=by
 cases v<;>first|exact h|cases E
theorem oc.of{w:World}(h:w.cell? ⟨b,i,none⟩=some v)(E:q9 v=true):oc w b i v:=by
 cases v<;>first|exact h|cases E
theorem oc.on{w:World}(hb:w'.heap[b]?=w.heap[b]?)(h:oc w b i v):oc w' b i v:=by
 by_cases E:q9 v=true
 ·exact .of ((World.cell?_of_block (w:=w) (a:=⟨b,i,none⟩) hb).trans (h.cell E)) E
 cases v<;>first|exact absurd rfl E|(obtain⟨t,fz,h⟩:=h;exact⟨t,fz,hb.trans h⟩)
theorem oc.lt{w:World}(h:oc w b i v):b<w.heap.size:=by
 by_cases E:q9 v=true
 ·exact World.block_lt_of_cell? w _ (h.cell E)
 cases v<;>first|exact absurd rfl E|(obtain⟨t,fz,h⟩:=h;exact(Array.getElem?_eq_some_iff.1 h).1)
theorem Qs{vs:List Value}(h:vs.all q9=true)(hi:vs[i]?=some v):q9 v=true:=all_eq_true.1 h v (mem_of_getElem? hi)
structure dN where
 X:Nat→Prop
 w0:World
 S0:List Nat
 G:List (Nat×List Value)
 df:List Deferred
 CR:Act→World→Prop
variable {C:dN}
structure St where
 n:Nat
 env:List (Nat×D)
 S:List ah
def look(t:Nat):List (Nat×D)→D
 | []=>.bX
 | (i,d)::r=>bif Nat.beq i t then d else look t r
theorem fT(t i:Nat)(d:D)(l:List (Nat×D)):look t ((i,d)::l)=if i=t then d else look t l:=by
 rw[look];by_cases e:i=t
 ·subst e;simp
 have:Nat.beq i t=false:=by
  cases h:Nat.beq i t with
  | false=>rfl
  | true=>exact absurd (Nat.eq_of_beq_eq_true h) e
 rw[this,if_neg e];rfl
def aq(S:List ah):List Nat:=S.map (·.b)
def live(X:Nat→Prop)(S:List ah)(b:Nat):Prop:=X b∨b∈aq S
structure Fr (w:World) (S:List Nat) (w':World) (S':List Nat):Prop where
 os:w'.os=w.os
 tape:w'.tape=w.tape
 output:w'.output=w.output
 size:w.heap.size≤w'.heap.size
 block:∀b,b<w.heap.size→b∉S→w'.heap[b]?=w.heap[b]?∧b∉S'
theorem Fr.refl(w:World)(S:List Nat):Fr w S w S:=⟨rfl,rfl,rfl,Nat.le_refl _,fun _ _ h=>⟨rfl,h⟩⟩
theorem Fr.trans{E I O:World}{S1 S2 S3:List Nat}(h:Fr E S1 I S2)(k:Fr I S2 O S3):Fr E S1 O S3 :=
 ⟨k.os.trans h.os,k.tape.trans h.tape,k.output.trans h.output,Nat.le_trans h.size k.size,fun b hb hn =>
  have h1:=h.block b hb hn;have h2:=k.block b (Nat.lt_of_lt_of_le hb h.size) h1.2
  ⟨h2.1.trans h1.1,h2.2⟩⟩
structure Own (w:World) (L:Nat→Prop) (S:List ah):Prop where
 at_:∀B∈S,KF w L B
 apart:(aq S).Nodup
structure bI (C:dN) (x:St) (a:Act) (w:World):Prop where
 defers:a.defers=C.df
 size:a.tmps.size=x.n
 env:∀t,t<x.n→cq w (live C.X x.S) (look t x.env) (a.tmps.getD t undef)
 own:Own w (live C.X x.S) x.S
 fr:Fr C.w0 C.S0 w (aq x.S)
 ex:∀b,C.X b→b<C.w0.heap.size∧b∉C.S0
 eP:∀g∈C.G,(g.1<C.w0.heap.size∧g.1∉C.S0∧¬C.X g.1)∧∀i v,g.2[i]?=some v→oc C.w0 g.1 i v
def St.put(x:St)(t:Nat)(d:D):St:=⟨x.n,(t,d)::x.env,x.S⟩
theorem bI.put{C:dN}{x:St}{a:Act}{w:World}(h:bI C x a w){t:Nat}{d:D}{v:Value}(hd:cq w (live C.X x.S) d v):bI C (x.put t d) (a.put (some t) v) w:=by
 refine⟨h.defers,by simp[Act.put,St.put,h.size],fun i hi=>?_,h.own,h.fr,h.ex,h.eP⟩;have hs:=h.size;simp only[St.put,fT,Act.put] at hi ⊢;by_cases e:t=i
 ·subst e;rw[if_pos rfl];have:(a.tmps.setIfInBounds t v).getD t undef=v:=by
   simp[Array.getElem?_setIfInBounds,hs,hi]
  rw[this];exact hd
 rw[if_neg e];have:(a.tmps.setIfInBounds t v).getD i undef=a.tmps.getD i undef:=by
  simp[Array.getElem?_setIfInBounds_ne e]
 rw[this];exact h.env i hi
def Wk(x y:St):Prop:=∀C a w,bI C x a w→bI C y a w
theorem Wk.refl(x:St):Wk x x:=fun _ _ _ h=>h
theorem Wk.trans{x y z:St}(h:Wk x y)(k:Wk y z):Wk x z:=fun C a w s=>k C a w (h C a w s)
theorem Own.sub{w:World}(h:Own w (live X S) S)(hs:S'.Sublist S):Own w (live X S') S' :=
 have E:(aq S').Sublist (aq S):=Sublist.map _ hs
 ⟨fun B I=>by
  obtain⟨h0,cur,h1,h2,h3,h4⟩:=h.at_ B (hs.subset I);refine⟨h0,cur,h1,h2,h3,fun i hi=>?_⟩;obtain⟨u,hu,hr⟩:=h4 i hi;exact⟨u,hu,hr.mono fun b _ hn=>⟨rfl,fun hl=>hn (hl.imp id fun q=>E.subset q)⟩⟩,h.apart.sublist E⟩
theorem Wk.drop(n:Nat)(l:List (Nat×D))(S S':List ah)(hs:S'.Sublist S):Wk ⟨n,l,S⟩ ⟨n,l,S'⟩:=fun C a w h =>
 have E:(aq S').Sublist (aq S):=Sublist.map _ hs
 ⟨h.defers,h.size,fun t ht=>(h.env t ht).mono fun b _ hn=>⟨rfl,fun hl=>hn (hl.imp id fun q=>E.subset q)⟩,h.own.sub hs,
  ⟨h.fr.os,h.fr.tape,h.fr.output,h.fr.size,fun b hb hn=>⟨(h.fr.block b hb hn).1,fun q=>(h.fr.block b hb hn).2 (E.subset q)⟩⟩,h.ex,h.eP⟩
theorem cq.kU{w:World}{x y:Value}(h:cq w L (.v x) y):y=x:=by cases h;rfl
def aG(x:St):Operand→D
 | .tmp t=>bif Nat.blt t x.n then look t x.env else .bX
 | .const v=>.v v
 | .global g=>.v (.pointer (some ⟨g,0,none⟩))
 | .func f=>.eC (.func f) []
theorem bI.eval{C:dN}{x:St}{a:Act}{w:World}(h:bI C x a w)(o:Operand):cq w (live C.X x.S) (aG x o) (a.eval o):=by
 cases o with
 | tmp t =>
  simp only[aG,Act.eval];cases ht:Nat.blt t x.n with
  | true=>exact h.env t (Nat.le_of_ble_eq_true ht)
  | false=>exact .bX _
 | const v=>exact .v _
 | global g=>exact .v _
 | func f=>exact .eC (.func f) [] [] rfl (fun i h=>by simp at h)
theorem bI.flat{x:St}{w:World}(h:bI C x a w){o:Operand}(ho:aG x o = .v u):a.eval o=u:=by
 have:=h.eval o;rw[ho] at this;exact this.kU
theorem bI.fA{x:St}{w:World}(h:bI C x a w)(hk:x.S[k]?=some B):KF w (live C.X x.S) B:=h.own.at_ B (mem_of_getElem? hk)
theorem Qt(hk:S[k]?=some B):live X S B.b:=.inr (mem_map.2 ⟨B,mem_of_getElem? hk,rfl⟩)
theorem bI.aT{x:St}{w:World}(h:bI C x a w){g:Nat×List Value}(hg:g∈C.G)(hi:g.2[i]?=some v):oc w g.1 i v:=by
 obtain⟨⟨h1,h2,h3⟩,h4⟩:=h.eP g hg;exact(h4 i v hi).on (h.fr.block g.1 h1 h2).1

inductive Rd where
 | none
 | fA (k:Nat)
 | j4
def Same(C:dN)(x:St)(w w':World):Rd→Prop
 | .none=>True
 | .fA k=>∀B,x.S[k]?=some B→w'.heap[B.b]?=w.heap[B.b]?
 | .j4=>∀b,b<w.heap.size→¬live C.X x.S b→w'.heap[b]?=w.heap[b]?
theorem Same.self(C:dN)(x:St)(w:World):∀k,Same C x w w k
 | .none=>trivial
 | .fA _=>fun _ _=>rfl
 | .j4=>fun _ _ _=>rfl
def bZ(P:Program)(G:List (Nat×List Value))(x:St)(o:Oper)(k:Rd)(d:D):Prop :=
 ∀C a w,C.G=G→bI C x a w→∃v,cq w (live C.X x.S) d v∧∀w',Same C x w w' k→(execOp a.eval o).run P w' = .ok (.value v) w'
variable {P:Program} {G:List (Nat×List Value)} {x:St} {o:Oper}
theorem Zy(ho:o.op = .move y):bZ P G x o .none (aG x y):=fun C a w _ h =>
 ⟨a.eval y,h.eval y,fun w' _=>by unfold execOp;simp[ho]⟩
theorem YY(ho:o.op = .assign y):bZ P G x o .none (aG x y):=fun C a w _ h =>
 ⟨a.eval y,h.eval y,fun w' _=>by unfold execOp;simp[ho]⟩
theorem OM{c z:Operand}{t:Bool}(ho:o.op = .pick c y z)(hc:aG x c = .v (.bool t)):bZ P G x o .none (if t then aG x y else aG x z):=fun C a w _ h=>by
 refine⟨if t then a.eval y else a.eval z,by cases t<;>simp[h.eval],fun w' _=>?_⟩;unfold execOp;simp only[ho,h.flat hc,asBool];cases t<;>simp
def kO(P:Program)(op:BinOp)(t:TypeId)(u u' r:Value):Prop:=∀(y z:Operand) w,(do eqGuard op t y z u u';Go.binOp op t u u':Sem Value).run P w = .ok r w
theorem dw{op:BinOp}{t':TypeId}{z:Operand}{u' r:Value}(ho:o.op = .binOp op t y z t')(hy:aG x y = .v u)(hz:aG x z = .v u')(hb:kO P op t u u' r):bZ P G x o .none (.v r):=fun C a w _ h =>
 ⟨r,.v _,fun w' _=>by
  unfold execOp;have:=hb y z w';simp only[Sem.run_bind] at this;simp only[ho,h.flat hy,h.flat hz,Sem.run_bind,this,Result.andThen_ok,Sem.run_pure]⟩
theorem EJ{op:UnOp}{r:Value}(ho:o.op = .unOp op t y)(hy:aG x y = .v u)(hb:∀w,(Op.unary op u).run P w = .ok r w):bZ P G x o .none (.v r):=fun C a w _ h =>
 ⟨r,.v _,fun w' _=>by
  unfold execOp;simp only[ho,h.flat hy,Sem.run_bind,hb w',Result.andThen_ok,Sem.run_pure]⟩
theorem oM{s:TypeId}{r:Value}(ho:o.op = .convert s t y)(hy:aG x y = .v u)(hb:∀w,(Go.convert s t u).run P w = .ok r w):bZ P G x o .none (.v r):=fun C a w _ h =>
 ⟨r,.v _,fun w' _=>by
  unfold execOp;simp only[ho,h.flat hy,Sem.run_bind,hb w',Result.andThen_ok,Sem.run_pure]⟩
theorem On{s:TypeId}{f:Field}{w:World}(O:∀w,(underlying s).run P w = .ok (.struct I) w)(hf:I[i]?=some f)(hn:∀w,(sizeOf f.type).run P w = .ok (n+1) w)(E:f.offset=off) :
  (Instr.fieldAt s (.pointer (some ⟨b,o',none⟩)) i).run P w = .ok (.pointer (some ⟨b,o'+off,none⟩)) w:=by
 subst E;simp[Instr.fieldAt,O,hf,Instr.sureAddr,fieldPlace,hn,Addr.add_mid]
theorem Zb {s:TypeId} {f:Field} (ho:o.op = .fieldAddr s y i) (hy:aG x y = .v (.pointer (some ⟨b,o',none⟩)))
  (O:∀w,(underlying s).run P w = .ok (.struct I) w) (hf:I[i]?=some f) (hn:∀w,(sizeOf f.type).run P w = .ok (n+1) w) (E:f.offset=off):bZ P G x o .none (.v (.pointer (some ⟨b,o'+off,none⟩))):=fun C a w _ h =>
 ⟨_,.v _,fun w' _=>by
  unfold execOp;simp only[ho,h.flat hy,Sem.run_bind,On O hf hn E,Result.andThen_ok,Sem.run_pure]⟩
theorem YZ {s:TypeId} {cs:List D} {f:Field} {O:Array Field} (ho:o.op = .fieldAddr s y i) (hy:aG x y = .fC cs o')
  (U:∀w,(underlying s).run P w = .ok (.struct O) w) (hf:O[i]?=some f) (hn:∀w,(sizeOf f.type).run P w = .ok (n+1) w) (E:f.offset=off):bZ P G x o .none (.fC cs (o'+off)):=fun C a w _ h=>by
 have hr:=h.eval y;rw[hy] at hr;generalize hg:a.eval y=u at hr;cases hr with
 | fC _ _ b I g hb hL hc hr =>
  refine⟨_,.fC cs (o'+off) b I g hb hL hc hr,fun w' _=>?_⟩;unfold execOp;simp only[ho,hg,Sem.run_bind,On U hf hn E,Result.andThen_ok,Sem.run_pure,Nat.add_assoc]
theorem YQ{cs:List D}{d:D}(ho:o.op = .extract y i)(hy:aG x y = .dJ cs)(hd:cs[i]?=some d):bZ P G x o .none d:=fun C a w _ h=>by
 have hr:=h.eval y;rw[hy] at hr;generalize hg:a.eval y=u at hr;cases hr with
 | dJ _ vs hl hr =>
  obtain⟨aa,he⟩:=List.getElem?_eq_some_iff.1 hd;refine⟨vs[i]'w4,?_,fun w' _=>?_⟩
  ·rw[←he];exact hr _ aa w4
  unfold execOp;simp[ho,hg,Instr.extract,getElem?_eq_getElem (show i<vs.length by omega)]
theorem Ii{w:World}(ha:∀w,(isAgg t).run P w = .ok false w)(hc:w.cell? ⟨b,o',none⟩=some v) :
  (Instr.loadAt t (.pointer (some ⟨b,o',none⟩))).run P w = .ok v w:=by
 simp[Instr.loadAt,Instr.sureAddr,loadVar,ha,hc]
theorem Ij {vs:List Value} {w:World} (ha:∀w,(isAgg t).run P w = .ok true w) (hn:∀w,(sizeOf t).run P w = .ok n w) (hl:vs.length=n)
  (hc:∀j (h:j<vs.length),w.cell? ⟨b,o'+j,none⟩=some vs[j]) :
  (Instr.loadAt t (.pointer (some ⟨b,o',none⟩))).run P w = .ok (.agg vs.toArray) w:=by
 have:=run_loadCells_list (P:=P) w ⟨b,o',none⟩ vs (fun j v E=>by
  obtain⟨h1,h2⟩:=List.getElem?_eq_some_iff.1 E;rw[Addr.add_mid,hc j h1,h2])
 rw[hl] at this;simp[Instr.loadAt,Instr.sureAddr,loadVar,ha,hn,this]
theorem n8{w:World}(E:w.heap[b]?=some (.cells cur e (0,0)))(I:cur[i]?=some u):w.cell? ⟨b,i,none⟩=some u:=by
 unfold World.cell?;simp[E,I]
theorem Ed {d:D} (ho:o.op = .load t y) (hy:aG x y = .v (.pointer (some ⟨b,o',none⟩)))
  (hk:x.S[k]?=some B) (hb:B.b=b) (ha:∀w,(isAgg t).run P w = .ok false w) (hd:B.cs[o']?=some d) (hne:isMap B.e=false:=by rfl):bZ P G x o (.fA k) d:=fun C a w _ h=>by
 obtain⟨_,cur,h1,h2,h3,h4⟩:=h.fA hk;rw[ku hne] at h1;obtain⟨aa,he⟩:=List.getElem?_eq_some_iff.1 hd;obtain⟨u,hu,hr⟩:=h4 o' aa;refine⟨u,by rw[←he];exact hr,fun w' hw=>?_⟩;have E:w'.heap[B.b]?=_:=(hw B hk).trans h1;unfold execOp;subst hb;simp only[ho,h.flat hy,Sem.run_bind,Ii ha (n8 E hu),Result.andThen_ok,Sem.run_pure]
theorem AX (ho:o.op = .load t y) (hy:aG x y = .v (.pointer (some ⟨b,o',none⟩)))
  (hk:x.S[k]?=some B) (hb:B.b=b) (ha:∀w,(isAgg t).run P w = .ok true w) (hn:∀w,(sizeOf t).run P w = .ok n w) (hl:ds.length=n) (hd:(B.cs.drop o').take n=ds) (hne:isMap B.e=false:=by rfl):bZ P G x o (.fA k) (.agg ds):=fun C a w _ h=>by
 obtain⟨_,cur,h1,h2,h3,h4⟩:=h.fA hk;rw[ku hne] at h1;have hlen:o'+n≤B.cs.length∨n=0:=by
  have:=congrArg length hd;simp only[length_take,length_drop] at this;omega
 have E:∀j,j<n→∃u,cur[o'+j]?=some u∧∀(h:j<ds.length),cq w (live C.X x.S) ds[j] u:=fun j hj=>by
  obtain⟨u,hu,hr⟩:=h4 (o'+j) w4;refine⟨u,hu,fun h=>?_⟩;subst hd;simpa using hr
 refine⟨.agg ((range n).map fun j=>cur.getD (o'+j) undef).toArray,.agg _ _ (by simp[hl]) (fun i q1 q2=>?_),fun w' hw=>?_⟩
 ·obtain⟨u,hu,hr⟩:=E i w4;simp only[getElem_map,getElem_range,Array.getD_eq_getD_getElem?,hu,Option.getD_some];exact hr q1
 have I:w'.heap[B.b]?=_:=(hw B hk).trans h1;unfold execOp;subst hb;have:=Ij (P:=P) (w:=w') (b:=B.b) (o':=o') (vs:=(range n).map fun j=>cur.getD (o'+j) undef) ha hn bq (fun j hj=>by
  simp only[length_map,length_range] at hj;obtain⟨u,hu,_⟩:=E j hj;simp only[getElem_map,getElem_range,Array.getD_eq_getD_getElem?,hu,Option.getD_some];exact n8 I hu)
 simp only[ho,h.flat hy,Sem.run_bind,this,Result.andThen_ok,Sem.run_pure]
theorem Eb {cs:List D} {d:D} (ho:o.op = .load t y) (hy:aG x y = .fC cs o')
  (ha:∀w,(isAgg t).run P w = .ok false w) (hd:cs[o']?=some d):bZ P G x o .j4 d:=fun C a w _ h=>by
 have hr:=h.eval y;rw[hy] at hr;generalize hg:a.eval y=u at hr;cases hr with
 | fC _ _ b E g hb hL hc hr =>
  obtain⟨aa,he⟩:=List.getElem?_eq_some_iff.1 hd;refine⟨g o',by rw[←he];exact hr o' aa,fun w' hw=>?_⟩;have I:=World.cell?_of_block (w:=w) (a:=⟨b,E+o',none⟩) (hw b hb hL);unfold execOp;simp only[ho,hg,Sem.run_bind,Ii ha (I.trans (hc o' aa)),Result.andThen_ok,Sem.run_pure]
theorem HO {cs:List D} (ho:o.op = .load t y) (hy:aG x y = .fC cs o')
  (ha:∀w,(isAgg t).run P w = .ok true w) (hn:∀w,(sizeOf t).run P w = .ok n w) (hl:ds.length=n) (hd:(cs.drop o').take n=ds):bZ P G x o .j4 (.agg ds):=fun C a w _ h=>by
 have hr:=h.eval y;rw[hy] at hr;generalize hg:a.eval y=u at hr;cases hr with
 | fC _ _ b E g hb hL hc hr =>
  have hlen:o'+n≤cs.length∨n=0:=by
   have:=congrArg length hd;simp only[length_take,length_drop] at this;omega
  refine⟨.agg ((range n).map fun j=>g (o'+j)).toArray,.agg _ _ (by simp[hl]) (fun i q1 q2=>?_),fun w' hw=>?_⟩
  ·simp only[getElem_map,getElem_range];have:=hr (o'+i) w4;subst hd;simpa using this
  have:=Ij (P:=P) (w:=w') (b:=b) (o':=E+o') (vs:=(range n).map fun j=>g (o'+j)) ha hn bq (fun j hj=>by
   simp only[length_map,length_range] at hj;simp only[getElem_map,getElem_range];have I:=World.cell?_of_block (w:=w) (a:=⟨b,E+o'+j,none⟩) (hw b hb hL);rw[I,Nat.add_assoc];exact hc _ w4)
  unfold execOp;simp only[ho,hg,Sem.run_bind,this,Result.andThen_ok,Sem.run_pure]
theorem Zc {vs:List Value} (ho:o.op = .load t y) (hy:aG x y = .v (.pointer (some ⟨b,o',none⟩)))
  (hg:(b,vs)∈G) (ha:∀w,(isAgg t).run P w = .ok false w) (hd:vs[o']?=some v) (qM:q9 v=true:=by rfl):bZ P G x o .j4 (.v v):=fun C a w hG h=>by
 subst hG;refine⟨v,.v _,fun w' hw=>?_⟩;have h1:=(h.aT hg hd).cell qM;obtain⟨⟨q1,q2,E⟩,_⟩:=h.eP _ hg;have hb:b<w.heap.size:=Nat.lt_of_lt_of_le q1 h.fr.size;have hn:¬live C.X x.S b:=fun hl=>hl.elim E (h.fr.block b q1 q2).2;have I:=World.cell?_of_block (w:=w) (a:=⟨b,o',none⟩) (hw b hb hn);unfold execOp;simp only[ho,h.flat hy,Sem.run_bind,Ii ha (I.trans h1),Result.andThen_ok,Sem.run_pure]

theorem R5{len:Nat}{k:IntKind}{i:Int}{w:World}(E:∀w,(underlying t).run P w = .ok (.slice e) w)(hs:∀w,(sizeOf e).run P w = .ok sz w)(hi:i=j)(hj:j<len) :
  (Instr.indexAt t (.slice (some ⟨b,o',none⟩) len cap) (.int k i)).run P w = .ok (.pointer (some ⟨b,o'+j*sz,none⟩)) w:=by
 subst hi;simp[Instr.indexAt,asIntOf,E,hs,hj,Addr.add_mid]
theorem Pd {len:Nat} {cs:List D} {k:IntKind} {i:Int} {z:Operand} (ho:o.op = .indexAddr t y z) (hy:aG x y = .list sz cs len) (hz:aG x z = .v (.int k i))
  (I:∀w,(underlying t).run P w = .ok (.slice e) w) (hs:∀w,(sizeOf e).run P w = .ok sz w) (hi:i=j) (hj:j<len):bZ P G x o .none (.fC cs (j*sz)):=fun C a w _ h=>by
 have hr:=h.eval y;rw[hy] at hr;generalize hg:a.eval y=u at hr;cases hr with
 | mj=>omega
 | list _ _ _ b E cap g hl h1 h2 hb hL hc hr =>
  refine⟨_,.fC cs (j*sz) b E g hb hL hc hr,fun w' _=>?_⟩;unfold execOp;simp only[ho,hg,h.flat hz,Sem.run_bind,R5 I hs hi hj,Result.andThen_ok,Sem.run_pure]
theorem ON {len:Nat} {k:IntKind} {i:Int} {z:Operand} (ho:o.op = .indexAddr t y z) (hy:aG x y = .v (.slice (some ⟨b,o',none⟩) len cap)) (hz:aG x z = .v (.int k i))
  (E:∀w,(underlying t).run P w = .ok (.slice e) w) (hs:∀w,(sizeOf e).run P w = .ok sz w) (hi:i=j) (hj:j<len):bZ P G x o .none (.v (.pointer (some ⟨b,o'+j*sz,none⟩))):=fun C a w _ h =>
 ⟨_,.v _,fun w' _=>by
  unfold execOp;simp only[ho,h.flat hy,h.flat hz,Sem.run_bind,R5 E hs hi hj,Result.andThen_ok,Sem.run_pure]⟩
theorem abU{len:Nat}{k:IntKind}{i:Int}{w:World}(E:∀w,(underlying t).run P w = .ok (.array len e) w)(hs:∀w,(sizeOf e).run P w = .ok sz w)(hi:i=j)(hj:j<len) :
  (Instr.indexAt t (.pointer (some ⟨b,o',none⟩)) (.int k i)).run P w = .ok (.pointer (some ⟨b,o'+j*sz,none⟩)) w:=by
 subst hi;simp[Instr.indexAt,asIntOf,E,hs,hj,Addr.add_mid,Instr.sureAddr]
theorem Zz {len:Nat} {k:IntKind} {i:Int} {z:Operand} (ho:o.op = .indexAddr t y z) (hy:aG x y = .v (.pointer (some ⟨b,o',none⟩))) (hz:aG x z = .v (.int k i))
  (E:∀w,(underlying t).run P w = .ok (.array len e) w) (hs:∀w,(sizeOf e).run P w = .ok sz w) (hi:i=j) (hj:j<len):bZ P G x o .none (.v (.pointer (some ⟨b,o'+j*sz,none⟩))):=fun C a w _ h =>
 ⟨_,.v _,fun w' _=>by
  unfold execOp;simp only[ho,h.flat hy,h.flat hz,Sem.run_bind,abU E hs hi hj,Result.andThen_ok,Sem.run_pure]⟩
theorem HZ {s:ByteArray} {c:UInt8} {k:IntKind} {i:Int} {z:Operand} (ho:o.op = .index t y z) (hy:aG x y = .v (.string s)) (hz:aG x z = .v (.int k i))
  (E:∀w,(underlying t).run P w = .ok .string w) (hi:i=j) (hj:s[j]?=some c):bZ P G x o .none (.v (.int .u8 c.toNat)):=fun C a w _ h =>
 ⟨_,.v _,fun w' _=>by
  subst hi;unfold execOp;simp[ho,h.flat hy,h.flat hz,Instr.index,asIntOf,E,hj]⟩
theorem ZA {len:Nat} {cs:List D} {d:D} {k:IntKind} {i:Int} {z:Operand} (ho:o.op = .index t y z) (hy:aG x y = .agg cs) (hz:aG x z = .v (.int k i))
  (E:∀w,(underlying t).run P w = .ok (.array len e) w) (hs:∀w,(sizeOf e).run P w = .ok sz w) (ha:∀w,(isAgg e).run P w = .ok false w) (hi:i=j) (hj:j<len) (hd:cs[j*sz]?=some d):bZ P G x o .none d:=fun C a w _ h=>by
 have hr:=h.eval y;rw[hy] at hr;generalize hg:a.eval y=u at hr;subst hi;cases hr with
 | agg _ vs hl hr =>
  obtain⟨aa,he⟩:=List.getElem?_eq_some_iff.1 hd;refine⟨vs[j*sz]'w4,?_,fun w' _=>?_⟩
  ·rw[←he];exact hr _ aa w4
  unfold execOp;simp[ho,hg,h.flat hz,Instr.index,asIntOf,E,hj,part,ha,hs,getElem?_eq_getElem (show j*sz<vs.length by omega)]
def mI(x:St)(y:Option Operand)(n:Nat)(ain:Nat):Prop :=
 match y with
 | some y=>∃(k:IntKind) (i:Int),aG x y = .v (.int k i)∧i=n
 | none=>n=ain
theorem sg{w:World}(h:bI C x a w){y:Option Operand}{E:Nat}(hb:mI x y n E):(∃k,y.map a.eval=some (.int k n))∨(y.map a.eval=none∧n=E):=by
 cases y with
 | none=>exact .inr ⟨rfl,hb⟩
 | some y =>
  obtain⟨k,i,h1,h2⟩:=hb;exact .inl ⟨k,by rw[Option.map_some,h.flat h1,h2]⟩
theorem Ee{k:IntKind}{code:BoundsCode}{w:World}(h:n≤m):(Instr.sliceBound (.int k n) m code).run P w = .ok n w:=by
 unfold Instr.sliceBound;simp[asIntOf,h]
theorem vZ{il:Bool}{len l h:Nat}{lo hi:Option Value}{w:World}(eV:(∃k,lo=some (.int k l))∨(lo=none∧l=0))(eG:(∃k,hi=some (.int k h))∨(hi=none∧h=len))(h1:l≤h)(h2:h≤cap) :
  (Instr.sliceBounds il len cap lo hi none).run P w = .ok (l,h,cap) w:=by
 unfold Instr.sliceBounds;rcases eV with ⟨k,rfl⟩|⟨rfl,rfl⟩<;>rcases eG with ⟨k',rfl⟩|⟨rfl,rfl⟩<;>simp[Ee,h1,h2]
theorem HR {len l:Nat} {cs:List D} (ho:o.op = .slice t y lo hi none) (hy:aG x y = .list sz cs len) (eV:mI x lo l 0) (eG:mI x hi h' len)
  (U:∀w,(underlying t).run P w = .ok (.slice e) w) (hs:∀w,(sizeOf e).run P w = .ok sz w) (h1:l≤h') (h2:h'≤len):bZ P G x o .none (.list sz ((cs.drop (l*sz)).take ((h'-l)*sz)) (h'-l)):=fun C a w _ h=>by
 have hr:=h.eval y;rw[hy] at hr;generalize hg:a.eval y=u at hr;have b1:=sg h eV;have b2:=sg h eG;cases hr with
 | mj _ ad cap =>
  have e1:l=0:=(by omega)
  have e2:h'=0:=(by omega)
  subst e1 e2;refine⟨.slice (if cap=0 then ad else ad.map (·.add (0*sz))) 0 cap,by simpa using cq.mj sz _ _,fun w' _=>?_⟩;unfold execOp;simp[ho,hg,Instr.sliceAt,Instr.slice,U,vZ b1 b2 (Nat.le_refl _) (Nat.zero_le _),hs]
 | list _ _ _ b E cap g hl q1 q2 hb hL hc hr =>
  have hlen:((cs.drop (l*sz)).take ((h'-l)*sz)).length=(h'-l)*sz:=by
   rw[length_take,length_drop,hl,←Nat.sub_mul];exact Nat.min_eq_left (Nat.mul_le_mul_right _ w4)
  have O:∀i,i<(h'-l)*sz→l*sz+i<cs.length:=fun i hi=>by
   rw[hl];have:l*sz+(h'-l)*sz≤len*sz:=(by rw[←Nat.add_mul];exact Nat.mul_le_mul_right _ w4)
   omega
  by_cases I:cap=l
  ·have e2:h'=l:=(by omega)
   refine⟨.slice (some ⟨b,E,none⟩) (h'-l) (cap-l),?_,fun w' _=>?_⟩
   ·refine .list sz _ _ b E _ g hlen w4 w4 hb hL (fun i hi=>?_) (fun i hi=>?_)<;>(rw[hlen,e2] at hi;simp at hi)
   have b3:=fun w=>vZ (P:=P) (il:=true) (w:=w) b1 b2 h1 (Nat.le_trans h2 q1);unfold execOp;simp only[ho,hg,Instr.sliceAt,Instr.slice,U,Sem.run_bind,Result.andThen_ok,Option.map_none,b3,hs,Sem.run_pure,if_pos I]
  refine⟨.slice (some ⟨b,E+l*sz,none⟩) (h'-l) (cap-l),?_,fun w' _=>?_⟩
  ·refine .list sz _ _ b (E+l*sz) _ (fun i=>g (l*sz+i)) hlen w4 w4 hb hL (fun i hi=>?_) (fun i hi=>?_)
   ·rw[Nat.add_assoc];exact hc _ (O i (by rw[hlen] at hi;exact hi))
   simp only[getElem_take,getElem_drop];exact hr _ _
  have b3:=fun w=>vZ (P:=P) (il:=true) (w:=w) b1 b2 h1 (Nat.le_trans h2 q1);unfold execOp;simp only[ho,hg,Instr.sliceAt,Instr.slice,U,Sem.run_bind,Result.andThen_ok,Option.map_none,b3,hs,Sem.run_pure,if_neg I,Option.map_some,Addr.add_mid]
theorem Oy {len:Nat} (ho:o.op = .slice t y lo hi none) (hy:aG x y = .v (.slice (some ⟨b,o',none⟩) len cap)) (eV:mI x lo 0 0) (eG:mI x hi h' len)
  (E:∀w,(underlying t).run P w = .ok (.slice e) w) (hs:∀w,(sizeOf e).run P w = .ok sz w) (h2:h'≤cap):bZ P G x o .none (.v (.slice (some ⟨b,o',none⟩) h' cap)):=fun C a w _ h =>
 ⟨_,.v _,fun w' _=>by
  have b1:=sg h eV;have b2:=sg h eG;unfold execOp;simp[ho,h.flat hy,Instr.sliceAt,Instr.slice,E,vZ b1 b2 (Nat.zero_le _) h2,hs,Addr.add_mid]⟩
theorem Y0 {s:ByteArray} {l:Nat} (ho:o.op = .slice t y lo hi none) (hy:aG x y = .v (.string s)) (eV:mI x lo l 0) (eG:mI x hi h' s.size)
  (E:∀w,(underlying t).run P w = .ok .string w) (h1:l≤h') (h2:h'≤s.size):bZ P G x o .none (.v (.string (s.extract l h'))):=fun C a w _ h =>
 ⟨_,.v _,fun w' _=>by
  have b1:=sg h eV;have b2:=sg h eG;unfold execOp;simp[ho,h.flat hy,Instr.sliceAt,Instr.slice,E,vZ b1 b2 h1 h2]⟩
theorem aar{len:Nat}{cs:List D}(ho:o.op = .call {callee:=.builtin .len,args:=#[y],argTypes:=ts})(ht:ts = #[t])(hy:aG x y = .list sz cs len)(E:∀w,(underlying t).run P w = .ok (.slice e) w):bZ P G x o .none (.v (.int .i64 len)):=fun C a w _ h=>by
 have hr:=h.eval y;rw[hy] at hr;generalize hg:a.eval y=u at hr;subst ht;refine⟨_,.v _,fun w' _=>?_⟩;cases hr<;>(unfold execOp;simp[ho,hg,resolve,invoke,builtin,Builtin.len_,E,goInt])
theorem OO{len:Nat}(ho:o.op = .call {callee:=.builtin .len,args:=#[y],argTypes:=ts})(ht:ts = #[t])(hy:aG x y = .v (.slice ad len cap))(E:∀w,(underlying t).run P w = .ok (.slice e) w):bZ P G x o .none (.v (.int .i64 len)):=fun C a w _ h=>by
 subst ht;refine⟨_,.v _,fun w' _=>?_⟩;unfold execOp;simp[ho,h.flat hy,resolve,invoke,builtin,Builtin.len_,E,goInt]
theorem Ef {s:ByteArray} (ho:o.op = .call {callee:=.builtin .len,args:=#[y],argTypes:=ts}) (ht:ts = #[t]) (hy:aG x y = .v (.string s))
  (E:∀w,(underlying t).run P w = .ok .string w):bZ P G x o .none (.v (.int .i64 s.size)):=fun C a w _ h=>by
 subst ht;refine⟨_,.v _,fun w' _=>?_⟩;unfold execOp;simp[ho,h.flat hy,resolve,invoke,builtin,Builtin.len_,E,goInt]
theorem Y1 {b:Builtin} {u' r:Value} {z:Operand} (ho:o.op = .call {callee:=.builtin b,args:=#[y,z],argTypes:=ts}) (hy:aG x y = .v u) (hz:aG x z = .v u')
  (hb:∀cs w,(Go.builtin b ts o.type cs #[u,u']).run P w = .ok (.value r) w):bZ P G x o .none (.v r):=fun C a w _ h =>
 ⟨_,.v _,fun w' _=>by
  unfold execOp;simp[ho,h.flat hy,h.flat hz,resolve,invoke,hb]⟩
theorem ZB{fn:Fn}{E:Array Operand}(ho:o.op = .makeFunc fn #[] E)(hd:E.toList.map (aG x)=ds):bZ P G x o .none (.eC fn ds):=fun C a w _ h=>by
 subst hd;refine⟨.func fn #[] (E.toList.map a.eval).toArray,.eC _ _ _ bq (fun i q1 q2=>?_),fun w' _=>?_⟩
 ·simp only[getElem_map];exact h.eval _
 unfold execOp;simp[ho,Instr.makeFunc];rw[←Array.toList_map,Array.toArray_toList]
def l5(W:List Nat)(w w':World):Prop:=w.heap.size≤w'.heap.size∧∀b,b<w.heap.size→b∉W→w'.heap[b]?=w.heap[b]?
def fQ(P:Program)(G:List (Nat×List Value))(x:St)(o:Oper)(W:List Nat)(post:St→Prop):Prop :=
 ∀(C:dN) (a:Act) (w:World) (K:Act→World→Prop) (Q:Exit→Act→World→Prop),C.G=G→bI C x a w→(∀y a' w',post y→bI C y a' w'→l5 W w w'→Fr w (aq x.S) w' (aq y.S)→K a' w')→o.wp P a w K Q
theorem l5.refl(W:List Nat)(w:World):l5 W w w:=⟨Nat.le_refl _,fun _ _ _=>rfl⟩
theorem bZ.fV{k:Rd}{d:D}{t:Nat}(h:bZ P G x o k d)(hd:o.dst=some t):fQ P G x o [] (fun y=>y=x.put t d):=fun C a w K Q hG hs hK=>by
 obtain⟨v,hr,nK⟩:=h C a w hG hs;unfold Oper.wp;rw[nK w (Same.self C x w k),Oper.upon_value,hd];exact hK _ _ _ rfl (hs.put hr) (l5.refl _ _) (Fr.refl _ _)
def cellsOf:D→List D
 | .agg cs=>cs
 | .v (.agg cs)=>cs.toList.map .v
 | d=>[d]
def cR(w:World)(L:Nat→Prop)(ds:List D)(vs:List Value):Prop:=vs.length=ds.length∧∀i (h:i<ds.length) (h':i<vs.length),cq w L ds[i] vs[i]
theorem cR.mono{w w':World}{L E:Nat→Prop}{ds:List D}{vs:List Value}(h:cR w L ds vs)(H:∀b,b<w.heap.size→¬L b→w'.heap[b]?=w.heap[b]?∧¬E b):cR w' E ds vs :=
 ⟨h.1,fun i h1 h2=>(h.2 i h1 h2).mono H⟩
def one:D→Bool
 | .v x=>x.oneCell'
 | .list ..|.fC ..|.eC ..=>true
 | _=>false
theorem cq.Bg{w:World}{d:D}(h:cq w L d v)(hd:one d=true):v.oneCell'=true:=by
 cases h<;>first|exact hd|rfl|exact absurd hd (by simp[one])
theorem cq.cells{w:World}{L:Nat→Prop}{d:D}{v:Value}(h:cq w L d v)(hd:d≠.bX):cR w L (cellsOf d) v.cells.toList:=by
 have E:∀(d:D) (v:Value),v.cells = #[v]→cellsOf d=[d]→cq w L d v→cR w L (cellsOf d) v.cells.toList:=fun d v h1 h2 h3=>by
  rw[h1,h2];refine⟨rfl,fun i q1 q2=>?_⟩;have:i=0:=(by simpa using q1)
  subst this;exact h3
 cases h with
 | v =>
  cases v with
  | agg cs =>
   refine⟨by simp[cellsOf,Value.cells],fun i q1 q2=>?_⟩;simp only[cellsOf,getElem_map,Value.cells];exact .v _
  | _=>exact E _ _ rfl rfl (.v _)
 | mj sz ad cap=>exact E _ _ rfl rfl (.mj sz ad cap)
 | list sz cs len b o cap f hl h1 h2 hb hL hc hr=>exact E _ _ rfl rfl (.list sz cs len b o cap f hl h1 h2 hb hL hc hr)
 | fC cs off b o f hb hL hc hr=>exact E _ _ rfl rfl (.fC cs off b o f hb hL hc hr)
 | agg cs vs hl hr=>exact⟨by simp[cellsOf,Value.cells,hl],fun i q1 q2=>hr i q1 q2⟩
 | dJ cs vs hl hr=>exact E _ _ rfl rfl (.dJ cs vs hl hr)
 | eC fn cs vs hl hr=>exact E _ _ rfl rfl (.eC fn cs vs hl hr)
 | kg l os h=>exact E _ _ rfl rfl (.kg l os h)
 | bX=>exact absurd rfl hd
theorem getElem?_push_lt{w:World}{ob:Obj}(h:b<w.heap.size):(w.alloc ob).heap[b]?=w.heap[b]?:=Below.heap_alloc w ob b h
theorem bI.UK {w:World} (h:bI C x a w) {t:Nat} {cells:Array Value} {size:Nat} (hr:cR w (live C.X x.S) ds cells.toList) (O:cells.size=size) {d:D}
  (hd:∀L,cq (w.alloc (ob e cells)) L d v) :
  bI C ⟨x.n,(t,d)::x.env,⟨w.heap.size,e,size,ds⟩::x.S⟩ (a.put (some t) v) (w.alloc (ob e cells)):=by
 have aa:∀b,live C.X x.S b→b<w.heap.size:=fun b hb=>by
  rcases hb with hb|hb
  ·exact Nat.lt_of_lt_of_le (h.ex b hb).1 h.fr.size
  obtain⟨B,I,rfl⟩:=mem_map.1 hb;exact(h.own.at_ B I).1
 have H:∀b,b<w.heap.size→¬live C.X x.S b→(w.alloc (ob e cells)).heap[b]?=w.heap[b]?∧¬live C.X (⟨w.heap.size,e,size,ds⟩::x.S) b:=fun b hb hn =>
  ⟨getElem?_push_lt hb,fun hl=>by
   rcases hl with hl|hl
   ·exact hn (.inl hl)
   simp only[aq,map_cons,mem_cons] at hl;rcases hl with hl|hl
   ·omega
   exact hn (.inr hl)⟩
 have base:bI C ⟨x.n,x.env,⟨w.heap.size,e,size,ds⟩::x.S⟩ a (w.alloc (ob e cells)):=by
  refine⟨h.defers,h.size,fun t ht=>(h.env t ht).mono H,⟨fun B I=>?_,?_⟩,?_,h.ex,h.eP⟩
  ·rcases mem_cons.1 I with rfl|I
   ·refine⟨by simp,cells,heap_alloc_new w _,O,?_,fun i hi=>?_⟩
    ·have:=hr.1;simp at this;simp only;omega
    have E:i<cells.toList.length:=(by rw[hr.1];exact hi)
    refine⟨cells.toList[i],?_,(hr.2 i hi E).mono H⟩;simp at E;simp[E]
   obtain⟨h0,cur,h1,h2,h3,h4⟩:=h.own.at_ B I;refine⟨by simp;omega,cur,(getElem?_push_lt h0).trans h1,h2,h3,fun i hi=>?_⟩;obtain⟨u,hu,hq⟩:=h4 i hi;exact⟨u,hu,hq.mono H⟩
  ·show(w.heap.size::aq x.S).Nodup;exact nodup_cons.2 ⟨fun hm=>Nat.lt_irrefl _ (aa _ (.inr hm)),h.own.apart⟩
  refine⟨h.fr.os,h.fr.tape,h.fr.output,by simp;have:=h.fr.size;omega,fun b hb hn=>?_⟩;obtain⟨q1,q2⟩:=h.fr.block b hb hn;have U:=Nat.lt_of_lt_of_le hb h.fr.size;refine⟨(getElem?_push_lt U).trans q1,fun hm=>?_⟩;simp only[aq,map_cons,mem_cons] at hm;rcases hm with hm|hm
  ·omega
  exact q2 hm
 exact base.put (hd _)
theorem bI.new {w:World} (h:bI C x a w) {t:Nat} {cells:Array Value} {size:Nat} (hr:cR w (live C.X x.S) ds cells.toList) (E:cells.size=size) {d:D}
  (hd:∀L,cq (w.alloc (.cells cells e)) L d v) (hne:isMap e=false:=by rfl) :
  bI C ⟨x.n,(t,d)::x.env,⟨w.heap.size,e,size,ds⟩::x.S⟩ (a.put (some t) v) (w.alloc (.cells cells e)):=by
 have:=bI.UK h (e:=e) hr E (t:=t) (d:=d) (v:=v) (fun L=>by rw[ku hne];exact hd L);rw[ku hne] at this;exact this
theorem l5.alloc(w:World)(ob:Obj):l5 [] w (w.alloc ob):=⟨by simp,fun b hb _=>getElem?_push_lt hb⟩
theorem Fr.alloc(w:World)(ob:Obj)(S:List Nat):Fr w S (w.alloc ob) (w.heap.size::S) :=
 ⟨rfl,rfl,rfl,by simp,fun b hb hn=>⟨getElem?_push_lt hb,fun hm=>by
  rcases mem_cons.1 hm with hm|hm
  ·omega
  exact hn hm⟩⟩
def wJ(x:St)(t:Nat)(e:TypeId)(ds:List D)(y:St):Prop:=∃b,y=⟨x.n,(t,.v (.pointer (some ⟨b,0,none⟩)))::x.env,⟨b,e,ds.length,ds⟩::x.S⟩
theorem A5{z:Value}{t:Nat}(ho:o.op = .alloc e)(hd:o.dst=some t)(hz:∀w,(zeroValue e).run P w = .ok z w)(jy:z.cells.toList.map .v=ds)(hne:isMap e=false:=by rfl):fQ P G x o [] (wJ x t e ds):=fun C a w K Q hG h hK=>by
 subst jy;unfold Oper.wp;have:(execOp a.eval o).run P w = .ok (.value (.pointer (some ⟨w.heap.size,0,none⟩))) (w.alloc (.cells z.cells e)):=by
  unfold execOp;simp[ho,Instr.alloc,hz,newVar,newRow]
 rw[this,Oper.upon_value,hd];refine hK _ _ _ ⟨w.heap.size,rfl⟩ (h.new (ds:=z.cells.toList.map .v) ⟨by simp,fun i q1 q2=>?_⟩ bq (fun L=>.v _) hne) (l5.alloc _ _) (Fr.alloc _ _ _);simp only[getElem_map];exact .v _
theorem adK{t:Nat}{d:D}(ho:o.op = .box e y)(hd:o.dst=some t)(hy:aG x y=d)(hj:d≠.bX)(jy:cellsOf d=ds)(hne:isMap e=false:=by rfl):fQ P G x o [] (wJ x t e ds):=fun C a w K Q hG h hK=>by
 subst jy;unfold Oper.wp;have:(execOp a.eval o).run P w = .ok (.value (.pointer (some ⟨w.heap.size,0,none⟩))) (w.alloc (.cells (a.eval y).cells e)):=by
  unfold execOp;simp[ho,Instr.box,newVar,newRow]
 rw[this,Oper.upon_value,hd];have hr:=h.eval y;rw[hy] at hr;have hc:=hr.cells hj;refine hK _ _ _ ⟨w.heap.size,rfl⟩ (h.new (ds:=cellsOf d) hc (by have:=hc.1;simpa using this) (fun L=>.v _) hne) (l5.alloc _ _) (Fr.alloc _ _ _)

def dx(cs:List D)(off:Nat):List D→List D
 | []=>cs
 | d::r=>dx (cs.set off d) (off+1) r
def mh(place:Nat→Option (Nat×Nat))(cells:List D):List (Nat×D)→Option (List D)
 | []=>some cells
 | (i,d)::rest =>
  match place i with
  | none=>none
  | some (off,size)=>if (cellsOf d).length≠size||off+(cellsOf d).length>cells.length then none else mh place (dx cells off (cellsOf d)) rest
theorem cR.set{w:World}{L:Nat→Prop}{ds:List D}{vs:List Value}(h:cR w L ds vs)(i:Nat){d:D}{v:Value}(hd:cq w L d v):cR w L (ds.set i d) (vs.set i v) :=
 ⟨by simp[h.1],fun j h1 h2=>by
  rw[getElem_set,getElem_set];split
  ·exact hd
  exact h.2 j _ _⟩
theorem cR.tail{w:World}{d:D}{vs:List Value}(h:cR w L (d::ds) (v::vs)):cq w L d v∧cR w L ds vs :=
 ⟨h.2 0 bq bq,by simpa using h.1,fun i h1 h2=>h.2 (i+1) (by simpa using h1) (by simpa using h2)⟩
theorem Il{β:Type}(f:β→Value→Nat→β):∀(r:List Value) (k:Nat) (z:β),(r.zipIdx (k+1)).foldl (fun c (x:Value×Nat)=>f c x.1 x.2) z=(r.zipIdx k).foldl (fun c (x:Value×Nat)=>f c x.1 (x.2+1)) z
 | [],_,_=>rfl
 | v::r,k,z=>by
  simp only[zipIdx_cons,foldl_cons];exact Il f r (k+1) _
theorem cR.dx{w:World}{L:Nat→Prop}:∀(ds:List D) (vs:List Value) (cs:List D) (cells:List Value) (off:Nat),cR w L ds vs→cR w L cs cells→cR w L (dx cs off ds) (vs.zipIdx.foldl (fun cs (c,j)=>cs.set (off+j) c) cells)
 | [],[],cs,cells,off,_,h=>h
 | [],_::_,_,_,_,h,_=>by simp[cR] at h
 | _::_,[],_,_,_,h,_=>by simp[cR] at h
 | d::ds,v::vs,cs,cells,off,h,hc=>by
  obtain⟨h0,h1⟩:=h.tail;have E:=cR.dx ds vs (cs.set off d) (cells.set off v) (off+1) h1 (hc.set off h0);have e:(v::vs).zipIdx.foldl (fun cs (x:Value×Nat)=>cs.set (off+x.2) x.1) cells=vs.zipIdx.foldl (fun cs (x:Value×Nat)=>cs.set (off+1+x.2) x.1) (cells.set off v):=by
   rw[zipIdx_cons,foldl_cons,Nat.add_zero,Il (fun (c:List Value) v n=>c.set (off+n) v)];congr 1;funext a b;rw[Nat.add_assoc,Nat.add_comm 1]
  rw[e];exact E
theorem En:∀(l:List (Value×Nat)) (cells:Array Value) (off:Nat),(l.foldl (fun cs (x:Value×Nat)=>cs.setIfInBounds (off+x.2) x.1) cells).toList=l.foldl (fun cs (x:Value×Nat)=>cs.set (off+x.2) x.1) cells.toList
 | [],_,_=>rfl
 | (v,j)::l,cells,off=>by
  simp only[foldl_cons];rw[En l];simp
theorem EK{w:World}{L:Nat→Prop}(place:Nat→Option (Nat×Nat)):∀(E:List (Nat×D)) (sJ:List (Nat×Value)) (cs:List D) (cells:Array Value) (ds:List D),
  E.length=sJ.length→(∀i (h:i<E.length) (h':i<sJ.length),E[i].1=sJ[i].1∧E[i].2≠.bX∧cq w L E[i].2 sJ[i].2)→cR w L cs cells.toList→mh place cs E=some ds →
  ∃I,Instr.fill place cells sJ=some I∧cR w L ds I.toList
 | [],[],cs,cells,ds,_,_,hc,hf=>by
  simp only[mh,Option.some.injEq] at hf;subst hf;exact⟨cells,rfl,hc⟩
 | [],_::_,_,_,_,h,_,_,_=>by simp at h
 | _::_,[],_,_,_,h,_,_,_=>by simp at h
 | (i,d)::E,(j,v)::sJ,cs,cells,ds,hl,hp,hc,hf=>by
  obtain⟨h1,h2,h3⟩:=hp 0 bq bq;simp only[getElem_cons_zero] at h1 h2 h3;subst h1;have O:=h3.cells h2;have U:v.cells.size=(cellsOf d).length:=(by have:=O.1;simpa using this)
  have Z:cells.size=cs.length:=(by have:=hc.1;simpa using this)
  unfold mh at hf;unfold Instr.fill;cases fO:place i with
  | none=>rw[fO] at hf;simp at hf
  | some os =>
   obtain⟨off,size⟩:=os;simp only[fO] at hf ⊢;rw[U,Z];split at hf
   ·cases hf
   rename_i hn;rw[if_neg hn];refine EK place E sJ _ _ ds xk (fun i h h'=>hp (i+1) ph (by simpa using h')) ?_ hf;have:=cR.dx (w:=w) (L:=L) (cellsOf d) v.cells.toList cs cells.toList off O hc;rw[←En] at this;have e:v.cells.zipIdx.foldl (fun cs (x:Value×Nat)=>cs.setIfInBounds (off+x.2) x.1) cells=v.cells.toList.zipIdx.foldl (fun cs (x:Value×Nat)=>cs.setIfInBounds (off+x.2) x.1) cells:=by
    rw[←Array.foldl_toList,Array.toList_zipIdx]
   rw[e];exact this
theorem cR.sJ(w:World)(L:Nat→Prop)(vs:List Value):cR w L (vs.map .v) vs:=⟨by simp,fun i h1 h2=>by simp only[getElem_map];exact .v _⟩
def lM(x:St)(ps:Array (Nat×Operand)):List (Nat×D):=ps.toList.map fun p=>(p.1,aG x p.2)
theorem Im{w:World}(h:bI C x a w)(ps:Array (Nat×Operand))(hj:∀p∈lM x ps,p.2≠.bX):(lM x ps).length=((ps.map fun p=>(p.1,a.eval p.2)).toList).length ∧
  ∀i (h1:i<(lM x ps).length) (h2:i<((ps.map fun p=>(p.1,a.eval p.2)).toList).length),(lM x ps)[i].1=((ps.map fun p=>(p.1,a.eval p.2)).toList)[i].1∧(lM x ps)[i].2≠.bX∧cq w (live C.X x.S) (lM x ps)[i].2 ((ps.map fun p=>(p.1,a.eval p.2)).toList)[i].2:=by
 refine⟨by simp[lM],fun i h1 h2=>⟨?_,hj _ (getElem_mem h1),?_⟩⟩
 ·simp[lM]
 simp only[lM,getElem_map,Array.toList_map];exact h.eval _
theorem Zd {E:Array Field} {places:Array (Nat×Nat)} {z:Value} (ho:o.op = .build t ps) (hz:∀w,(zeroValue t).run P w = .ok z w)
  (I:∀w,(underlying t).run P w = .ok (.struct E) w) (hp:∀w,(E.mapM fun f=>do pure (f.offset,←sizeOf f.type):Sem (Array (Nat×Nat))).run P w = .ok places w)
  (hj:∀p∈lM x ps,p.2≠.bX) (hd:mh (places[·]?) (z.cells.toList.map .v) (lM x ps)=some ds):bZ P G x o .none (.agg ds):=fun C a w _ h=>by
 obtain⟨q1,q2⟩:=Im h ps hj;obtain⟨BC,h1,h2⟩:=EK (w:=w) (L:=live C.X x.S) (places[·]?) (lM x ps) ((ps.map fun p=>(p.1,a.eval p.2)).toList) _ z.cells ds q1 q2 (cR.sJ _ _ _) hd;refine⟨.agg BC.toList.toArray,.agg _ _ h2.1 h2.2,fun w' _=>?_⟩;unfold execOp;simp only[ho,Instr.build,hz,I,hp,Sem.run_bind,Result.andThen_ok,h1,Sem.run_pure,Array.toArray_toList]
theorem Y2 {z:Value} (ho:o.op = .build t ps) (hz:∀w,(zeroValue t).run P w = .ok z w)
  (E:∀w,(underlying t).run P w = .ok (.array n e) w) (hs:∀w,(sizeOf e).run P w = .ok sz w)
  (hj:∀p∈lM x ps,p.2≠.bX) (hd:mh (fun i=>some (i*sz,sz)) (z.cells.toList.map .v) (lM x ps)=some ds):bZ P G x o .none (.agg ds):=fun C a w _ h=>by
 obtain⟨q1,q2⟩:=Im h ps hj;obtain⟨BC,h1,h2⟩:=EK (w:=w) (L:=live C.X x.S) (fun i=>some (i*sz,sz)) (lM x ps) ((ps.map fun p=>(p.1,a.eval p.2)).toList) _ z.cells ds q1 q2 (cR.sJ _ _ _) hd;refine⟨.agg BC.toList.toArray,.agg _ _ h2.1 h2.2,fun w' _=>?_⟩;unfold execOp;simp only[ho,Instr.build,hz,E,hs,Sem.run_bind,Result.andThen_ok,h1,Sem.run_pure,Array.toArray_toList]
def adL(x:St)(t:Nat)(e:TypeId)(len:Nat)(ds:List D)(y:St):Prop:=∃b,y=⟨x.n,(t,.v (.slice (some ⟨b,0,none⟩) len len))::x.env,⟨b,e,ds.length,ds⟩::x.S⟩
theorem HN {len:Nat} {z:Value} {zs:List D} (ho:o.op = .buildSlice t len ps) (jJ:o.dst=some tt) (hz:∀w,(zeroValue e).run P w = .ok z w)
  (I:∀w,(underlying t).run P w = .ok (.slice e) w) (hs:∀w,(sizeOf e).run P w = .ok sz w) (hl:0<len*sz) (iP:len*sz≤2 ^ 24) (eW:(Array.range (len*sz)).map (fun i=>z.cells[i % z.cells.size]!)=(zs.map (fun d=>match d with|.v u=>u|_=>undef)).toArray) (O:∀d∈zs,∃u,d = .v u)
  (hj:∀p∈lM x ps,p.2≠.bX) (hd:mh (fun i=>some (i*sz,sz)) zs (lM x ps)=some ds) (hne:isMap e=false:=by rfl):fQ P G x o [] (adL x tt e len ds):=fun C a w K Q hG h hK=>by
 obtain⟨q1,q2⟩:=Im h ps hj;have U:cR w (live C.X x.S) zs ((zs.map (fun d=>match d with|.v u=>u|_=>undef)).toArray).toList:=by
  refine⟨by simp,fun i h1 h2=>?_⟩;obtain⟨u,I⟩:=O _ (getElem_mem h1);simp only[getElem_map,I];exact .v _
 obtain⟨BC,h1,h2⟩:=EK (w:=w) (L:=live C.X x.S) (fun i=>some (i*sz,sz)) (lM x ps) ((ps.map fun p=>(p.1,a.eval p.2)).toList) _ _ ds q1 q2 U hd;unfold Oper.wp;have:(execOp a.eval o).run P w = .ok (.value (.slice (some ⟨w.heap.size,0,none⟩) len len)) (w.alloc (.cells BC e)):=by
  unfold execOp;have E:¬len*sz=0:=(by omega)
  have Z:¬len*sz>2 ^ 24:=(by omega)
  simp only[ho,Instr.buildSlice,hz,I,hs,Sem.run_bind,Result.andThen_ok,Sem.run_pure,if_neg E,if_neg Z,eW,h1];simp[newRow]
 rw[this,Oper.upon_value,jJ];exact hK _ _ _ ⟨w.heap.size,rfl⟩ (h.new (ds:=ds) h2 (by have:=h2.1;simpa using this) (fun L=>.v _) hne) (l5.alloc _ _) (Fr.alloc _ _ _)
theorem Oo(b:Nat):∀(vs:List Value) (o':Nat) (w:World) (cur:Array Value) (e:TypeId),w.heap[b]?=some (.cells cur e (0,0))→o'+vs.length≤cur.size →
  (w.setCells b o' vs).heap[b]?=some (.cells (vs.zipIdx.foldl (fun cs (x:Value×Nat)=>cs.setIfInBounds (o'+x.2) x.1) cur) e (0,0))∧(∀k,k≠b→(w.setCells b o' vs).heap[k]?=w.heap[k]?)∧(w.setCells b o' vs).heap.size=w.heap.size ∧
  (w.setCells b o' vs).os=w.os∧(w.setCells b o' vs).tape=w.tape∧(w.setCells b o' vs).output=w.output
 | [],o',w,cur,e,h,_=>⟨h,fun _ _=>rfl,rfl,rfl,rfl,rfl⟩
 | v::r,o',w,cur,e,h,hl=>by
  have h0:(w.setCell ⟨b,o',none⟩ v).heap[b]?=some (.cells (cur.setIfInBounds o' v) e (0,0)):=by
   simp[World.setCell,Array.getElem?_modify,h]
  obtain⟨i1,i2,i3,i4,i5,i6⟩:=Oo b r (o'+1) (w.setCell ⟨b,o',none⟩ v) (cur.setIfInBounds o' v) e h0 (by simp at hl ⊢;omega);refine⟨?_,fun k hk=>?_,?_,i4,i5,i6⟩
  ·rw[World.setCells,i1,zipIdx_cons,foldl_cons,Nat.add_zero,Il (fun (c:Array Value) v n=>c.setIfInBounds (o'+n) v)];congr 3;funext a b;rw[Nat.add_assoc,Nat.add_comm 1]
  ·rw[World.setCells,i2 k hk,Below.heap_setCell _ _ _ _ hk]
  rw[World.setCells,i3];simp
theorem yD:∀(ds cs:List D) (off:Nat),(dx cs off ds).length=cs.length
 | [],cs,off=>rfl
 | d::ds,cs,off=>by rw[dx,yD ds];simp
theorem bI.store{w:World}(h:bI C x a w){vs:List Value}(hk:x.S[k]?=some B)(hr:cR w (live C.X x.S) ds vs)(hl:o'+ds.length≤B.cs.length)(hne:isMap B.e=false:=by rfl) :
  bI C ⟨x.n,x.env,x.S.set k {B with cs:=dx B.cs o' ds}⟩ a (w.setCells B.b o' vs)∧l5 [B.b] w (w.setCells B.b o' vs)∧Fr w (aq x.S) (w.setCells B.b o' vs) (aq (x.S.set k {B with cs:=dx B.cs o' ds})):=by
 obtain⟨h0,cur,h1,h2,h3,h4⟩:=h.fA hk;rw[ku hne] at h1;have rQ:vs.length=ds.length:=hr.1;obtain⟨i1,i2,i3,i4,i5,i6⟩:=Oo B.b vs o' w cur B.e h1 w4;have dX:k<x.S.length:=(List.getElem?_eq_some_iff.1 hk).1;have vO:x.S[k]=B:=(List.getElem?_eq_some_iff.1 hk).2;have E:aq (x.S.set k {B with cs:=dx B.cs o' ds})=aq x.S:=by
  unfold aq;rw[map_set];apply ext_getElem bq;intro i q1 q2;rw[getElem_set];split
  ·rename_i e;subst e;simp[vO]
  rfl
 have I:live C.X (x.S.set k {B with cs:=dx B.cs o' ds})=live C.X x.S:=(by funext b;simp only[live,E])
 have hB:live C.X x.S B.b:=Qt hk;have H:∀b,b<w.heap.size→¬live C.X x.S b→(w.setCells B.b o' vs).heap[b]?=w.heap[b]?∧¬live C.X x.S b:=fun b _ hn=>⟨i2 b (fun e=>hn (e ▸ hB)),hn⟩
 refine⟨⟨h.defers,h.size,fun t ht=>?_,⟨fun B' MT=>?_,?_⟩,?_,h.ex,h.eP⟩,⟨by rw[i3];exact Nat.le_refl _,fun b _ hn=>i2 b (by simpa using hn)⟩,?_⟩
 ·simp only[I];exact(h.env t ht).mono H
 ·simp only[I];obtain⟨j,hj,O⟩:=mem_iff_getElem.1 MT;rw[length_set] at hj;rw[getElem_set] at O;by_cases e:k=j
  ·rw[if_pos e] at O;subst O;refine⟨by rw[i3];exact h0,_,i1.trans (by rw[ku hne]),?_,by simp only[yD];exact h3,fun i hi=>?_⟩
   ·have:=En vs.zipIdx cur o';have hlen:=congrArg length this;have aio:∀(l:List (Value×Nat)) (c:List Value),(l.foldl (fun cs (x:Value×Nat)=>cs.set (o'+x.2) x.1) c).length=c.length:=by
     intro l;induction l with
     | nil=>intro c;rfl
     | cons p l ih=>intro c;rw[foldl_cons,ih];simp
    rw[aio] at hlen;simp only[Array.length_toList] at hlen;rw[hlen,h2]
   have dH:cR w (live C.X x.S) B.cs (cur.toList.take B.cs.length):=by
    refine⟨by simp;omega,fun i q1 q2=>?_⟩;obtain⟨u,hu,hq⟩:=h4 i q1;have:(cur.toList.take B.cs.length)[i]=u:=by
     rw[getElem_take];rw[←Array.getElem?_toList,List.getElem?_eq_some_iff] at hu;exact hu.2
    rw[this];exact hq
   have U:=cR.dx ds vs B.cs (cur.toList.take B.cs.length) o' hr dH;have UL:∀(l:List (Value×Nat)) (c:List Value),(∀p∈l,o'+p.2<B.cs.length)→l.foldl (fun cs (x:Value×Nat)=>cs.set (o'+x.2) x.1) (c.take B.cs.length)=(l.foldl (fun cs (x:Value×Nat)=>cs.set (o'+x.2) x.1) c).take B.cs.length:=by
    intro l;induction l with
    | nil=>intro c _;rfl
    | cons p l ih =>
     intro c hp;rw[foldl_cons,foldl_cons,←ih _ (fun q hq=>hp q (mem_cons_of_mem _ hq)),take_set]
   rw[UL vs.zipIdx cur.toList (fun p hp=>by have:=mem_zipIdx hp;omega),←En] at U;simp only at hi;have G6:=hi;rw[←U.1] at G6;have hq:=U.2 i hi G6;rw[getElem_take] at hq;refine⟨_,?_,hq.mono H⟩;rw[←Array.getElem?_toList,getElem?_eq_getElem]
  rw[if_neg e] at O;subst O;have hne:x.S[j].b≠B.b:=fun he=>by
   have hn:=h.own.apart;have CS:(aq x.S)[j]'An=(aq x.S)[k]'Ak:=(by simp[aq,he,vO])
   have hp:=pairwise_iff_getElem.1 hn;rcases Nat.lt_trichotomy j k with Z|Z|Z
   ·exact hp j k An Ak Z CS
   ·exact e Z.symm
   exact hp k j Ak An Z CS.symm
  obtain⟨r0,lS,r1,r2,r3,r4⟩:=h.own.at_ x.S[j] (getElem_mem hj);refine⟨by rw[i3];exact r0,lS,(i2 _ hne).trans r1,r2,r3,fun i hi=>?_⟩;obtain⟨u,hu,hq⟩:=r4 i hi;exact⟨u,hu,hq.mono H⟩
 ·simp only[E];exact h.own.apart
 ·refine⟨i4.trans h.fr.os,i5.trans h.fr.tape,i6.trans h.fr.output,by rw[i3];exact h.fr.size,fun b hb hn=>?_⟩;obtain⟨q1,q2⟩:=h.fr.block b hb hn;refine⟨(i2 b (fun e=>q2 (e ▸ mem_map.2 ⟨B,mem_of_getElem? hk,rfl⟩))).trans q1,?_⟩;simp only[E];exact q2
 rw[E];exact⟨i4,i5,i6,by rw[i3];exact Nat.le_refl _,fun b hb hn=>⟨i2 b (fun e=>hn (e ▸ mem_map.2 ⟨B,mem_of_getElem? hk,rfl⟩)),hn⟩⟩
theorem Eo {d:D} {z:Operand} (ho:o.op = .store t y z) (jJ:o.dst=none) (hy:aG x y = .v (.pointer (some ⟨b,o',none⟩)))
  (hk:x.S[k]?=some B) (hb:B.b=b) (hz:aG x z=d) (hj:d≠.bX) (h1:(cellsOf d).all one=true) (hn:∀w,(sizeOf t).run P w = .ok n w) (gi:(cellsOf d).length=n) (hl:o'+n≤B.cs.length) (dH:dx B.cs o' (cellsOf d)=cs') (hne:isMap B.e=false:=by rfl) :
  fQ P G x o [b] (fun y=>y=⟨x.n,x.env,x.S.set k {B with cs:=cs'}⟩):=fun C a w K Q hG h hK=>by
 subst dH hb;have hr:=h.eval z;rw[hz] at hr;have hc:=hr.cells hj;obtain⟨s1,s2,s3⟩:=h.store hk hc (o':=o') w4 hne;obtain⟨h0,cur,q1,q2,q3,q4⟩:=h.fA hk;rw[ku hne] at q1;have U:(a.eval z).cells.toList.length=n:=(by rw[hc.1,gi])
 have E:=run_storeCells_cells (P:=P) B.b o' (a.eval z).cells.toList 0 w (fun j hj=>by
   have:(o'+0+j)<cur.size:=(by omega)
   rw[n8 q1 (u:=cur[o'+0+j]) (by simp[this])];rfl)
  (fun j hj=>by unfold World.frozen?;simp[q1]) (fun v hv=>by
   obtain⟨j,hj,rfl⟩:=mem_iff_getElem.1 hv;have O:j<(cellsOf d).length:=(by rw[←hc.1];exact hj)
   exact(hc.2 j O hj).Bg (all_eq_true.1 h1 _ (getElem_mem O)))
 have I:(execOp a.eval o).run P w = .ok .skip (w.setCells B.b o' (a.eval z).cells.toList):=by
  unfold execOp;have Z:(a.eval z).cells.size=n:=(by simpa using U)
  simp only[Nat.add_zero] at E;simp[ho,h.flat hy,Instr.storeAt,Instr.sureAddr,storeVar,hn,Z,E]
 unfold Oper.wp;rw[I,Oper.upon_skip,jJ];exact hK _ _ _ rfl s1 s2 s3

structure G7 (G:List (Nat×List Value)) (X:Nat→Prop) (w:World) (S:List ah) (args:List D) (vs:List Value):Prop where
 ex:∀b,X b→b<w.heap.size∧b∉aq S
 eP:∀g∈G,(g.1<w.heap.size∧g.1∉aq S∧¬X g.1)∧∀i v,g.2[i]?=some v→oc w g.1 i v
 own:Own w (live X S) S
 args:cR w (live X S) args vs
def VC(P:Program)(G:List (Nat×List Value))(f:FuncId)(args:List D)(S:List ah)(post:D→List ah→Prop):Prop :=
 ∀(X:Nat→Prop) (w:World) (vs:List Value),G7 G X w S args vs→Calls P f vs.toArray w fun e w'=>∃v r S',e = .returned v∧post r S'∧Own w' (live X S') S'∧cq w' (live X S') r v∧Fr w (aq S) w' (aq S')
abbrev VP(P:Program)(G:List (Nat×List Value))(f:FuncId)(args:List D)(r:D):Prop:=VC P G f args [] fun r' S'=>r'=r∧S'=[]
theorem yG(hp:S.Perm (Sf++R)):live X S=live (fun b=>X b∨b∈aq R) Sf:=by
 funext b;have:(aq S).Perm (aq Sf++aq R):=(by have:=hp.map ah.b;simpa[aq] using this)
 have:=this.mem_iff (a:=b);simp only[live,mem_append] at *;rw[this];exact propext ⟨fun h=>by rcases h with h|h|h<;>simp[h],fun h=>by rcases h with (h|h)|h<;>simp[h]⟩
theorem bI.call{w:World}(h:bI C x a w)(hG:C.G=G){f:FuncId}{args:List D}{vs:List Value}(hc:VC P G f args Sf post)(hp:x.S.Perm (Sf++R))(hr:cR w (live C.X x.S) args vs) :
  Calls P f vs.toArray w fun e w'=>∃v r S',e = .returned v∧post r S'∧cq w' (live C.X (S'++R)) r v∧bI C ⟨x.n,x.env,S'++R⟩ a w'∧l5 (aq Sf) w w'∧Fr w (aq x.S) w' (aq (S'++R)):=by
 have hb:(aq x.S).Perm (aq Sf++aq R):=(by have:=hp.map ah.b;simpa[aq] using this)
 have hL:=yG (X:=C.X) hp;have hnd:(aq Sf++aq R).Nodup:=hb.nodup_iff.1 h.own.apart;obtain⟨n1,n2,n3⟩:=nodup_append.1 hnd;have U:∀b,b∈aq R→b<w.heap.size:=fun b x6=>by
  obtain⟨B,O,rfl⟩:=mem_map.1 x6;exact(h.own.at_ B (hp.symm.subset (mem_append_right _ O))).1
 have Z:G7 G (fun b=>C.X b∨b∈aq R) w Sf args vs:=by
  refine⟨fun b hx=>?_,fun g hg=>?_,⟨fun B O=>?_,n1⟩,?_⟩
  ·rcases hx with hx|hx
   ·obtain⟨q1,q2⟩:=h.ex b hx;exact⟨Nat.lt_of_lt_of_le q1 h.fr.size,fun hm=>(h.fr.block b q1 q2).2 (hb.symm.subset (mem_append_left _ hm))⟩
   exact⟨U b hx,fun hm=>n3 b hm b hx rfl⟩
  ·rw[←hG] at hg;obtain⟨⟨q1,q2,q3⟩,q4⟩:=h.eP g hg;have q5:=(h.fr.block g.1 q1 q2).2;refine⟨⟨Nat.lt_of_lt_of_le q1 h.fr.size,fun hm=>q5 (hb.symm.subset (mem_append_left _ hm)),fun hx=>?_⟩,fun i v hi=>h.aT hg hi⟩;rcases hx with hx|hx
   ·exact q3 hx
   exact q5 (hb.symm.subset (mem_append_right _ hx))
  ·rw[←hL];exact h.own.at_ B (hp.symm.subset (mem_append_left _ O))
  rw[←hL];exact hr
 refine(hc _ w vs Z).mono fun e w' ⟨v,r,S',h1,h2,h3,h4,h5⟩=>⟨v,r,S',h1,h2,?_,?_,⟨h5.size,fun b I hn=>(h5.block b I hn).1⟩,?_⟩
 ·have:live C.X (S'++R)=live (fun b=>C.X b∨b∈aq R) S':=yG (Perm.refl _);rw[this];exact h4
 ·have Xp:live C.X (S'++R)=live (fun b=>C.X b∨b∈aq R) S':=yG (Perm.refl _);have H:∀b,b<w.heap.size→¬live C.X x.S b→w'.heap[b]?=w.heap[b]?∧¬live C.X (S'++R) b:=fun b aa hn=>by
   rw[hL] at hn;have E:b∉aq Sf:=fun hm=>hn (.inr hm);obtain⟨q1,q2⟩:=h5.block b aa E;refine⟨q1,fun hl=>?_⟩;rw[Xp] at hl;rcases hl with hl|hl
   ·exact hn (.inl hl)
   exact q2 hl
  refine⟨h.defers,h.size,fun t ht=>(h.env t ht).mono H,⟨fun B O=>?_,?_⟩,?_,h.ex,h.eP⟩
  ·rcases mem_append.1 O with O|O
   ·have:=h3.at_ B O;rw[←Xp] at this;exact this
   obtain⟨r0,cur,r1,r2,r3,r4⟩:=h.own.at_ B (hp.symm.subset (mem_append_right _ O));have CT:B.b∈aq R:=mem_map.2 ⟨B,O,rfl⟩;have E:B.b∉aq Sf:=fun hm=>n3 B.b hm B.b CT rfl;have hh:=(h5.block B.b r0 E).1;refine⟨qV r0 hh,cur,hh.trans r1,r2,r3,fun i hi=>?_⟩;obtain⟨u,hu,hq⟩:=r4 i hi;exact⟨u,hu,hq.mono H⟩
  ·show(aq (S'++R)).Nodup;have:aq (S'++R)=aq S'++aq R:=(by simp[aq])
   rw[this];refine nodup_append.2 ⟨h3.apart,n2,fun b jk c aY he=>?_⟩;subst he;have E:b∉aq Sf:=fun hm=>n3 b hm b aY rfl;exact(h5.block b (U b aY) E).2 jk
  refine⟨h5.os.trans h.fr.os,h5.tape.trans h.fr.tape,h5.output.trans h.fr.output,Nat.le_trans h.fr.size h5.size,fun b I hn=>?_⟩;obtain⟨q1,q2⟩:=h.fr.block b I hn;have gv:b∉aq Sf:=fun hm=>q2 (hb.symm.subset (mem_append_left _ hm));have iX:b∉aq R:=fun hm=>q2 (hb.symm.subset (mem_append_right _ hm));obtain⟨q3,q4⟩:=h5.block b (Nat.lt_of_lt_of_le I h.fr.size) gv;refine⟨q3.trans q1,fun hm=>?_⟩;have:aq (S'++R)=aq S'++aq R:=(by simp[aq])
  rw[this] at hm;rcases mem_append.1 hm with hm|hm
  ·exact q4 hm
  exact iX hm
 refine⟨h5.os,h5.tape,h5.output,h5.size,fun b I hn=>?_⟩;have gv:b∉aq Sf:=fun hm=>hn (hb.symm.subset (mem_append_left _ hm));have iX:b∉aq R:=fun hm=>hn (hb.symm.subset (mem_append_right _ hm));obtain⟨q3,q4⟩:=h5.block b I gv;refine⟨q3,fun hm=>?_⟩;have:aq (S'++R)=aq S'++aq R:=(by simp[aq])
 rw[this] at hm;rcases mem_append.1 hm with hm|hm
 ·exact q4 hm
 exact iX hm
theorem cR.Lf{w:World}(h:bI C x a w)(dj:List Operand):cR w (live C.X x.S) (dj.map (aG x)) (dj.map a.eval) :=
 ⟨by simp,fun i h1 h2=>by simp only[getElem_map];exact h.eval _⟩
theorem cR.append{w:World}{E:List D}{vs I:List Value}(h:cR w L ds vs)(h':cR w L E I):cR w L (ds++E) (vs++I) :=
 ⟨by simp[h.1,h'.1],fun i h1 h2=>by
  by_cases hi:i<ds.length
  ·rw[getElem_append_left hi,getElem_append_left (by rw[h.1];exact hi)];exact h.2 i _ _
  rw[getElem_append_right w4,getElem_append_right (by rw[h.1];omega)];have:=h.1;simp only[this];exact h'.2 _ _ _⟩
def called(x:St)(t:Nat)(R:List ah)(post:D→List ah→Prop)(y:St):Prop:=∃r S',post r S'∧y=⟨x.n,(t,r)::x.env,S'++R⟩
theorem Bh {f t:Nat} {args:List D} (ho:o.op = .call {callee:=.value fo,args:=dj,argTypes:=ts}) (hd:o.dst=some t)
  (hf:fo = .func f) (fq:∀args w,(callFunc f args).run P w = .ok (.enter f args) w) (ha:dj.toList.map (aG x)=args) (hp:x.S.Perm (Sf++R)) (hc:VC P G f args Sf post) :
  fQ P G x o (aq Sf) (called x t R post):=fun C a w K Q hG h hK=>by
 subst hf ha;have hr:=cR.Lf h dj.toList;have E:(execOp a.eval o).run P w = .ok (.enter f (dj.toList.map a.eval).toArray) w:=by
  unfold execOp;have e:dj.map a.eval=(dj.toList.map a.eval).toArray:=by
   rw[←Array.toList_map,Array.toArray_toList]
  simp only[ho,resolve,Act.eval,Deferred.ofValue,Sem.run_bind,Sem.run_pure,Result.andThen_ok,invoke,e];simp[fq]
 unfold Oper.wp;rw[E,Oper.upon_enter,hd];refine(h.call hG hc hp hr).mono fun e w' ⟨v,r,S',h1,h2,h3,h4,h5,h6⟩=>?_;subst h1;exact hK _ _ _ ⟨r,S',h2,rfl⟩ (h4.put h3) h5 h6
theorem aas {f t:Nat} {args E:List D} (ho:o.op = .call {callee:=.value fo,args:=dj,argTypes:=ts}) (hd:o.dst=some t)
  (hf:aG x fo = .eC (.func f) E) (fq:∀args w,(callFunc f args).run P w = .ok (.enter f args) w) (ha:dj.toList.map (aG x)++E=args) (hp:x.S.Perm (Sf++R)) (hc:VC P G f args Sf post) :
  fQ P G x o (aq Sf) (called x t R post):=fun C a w K Q hG h hK=>by
 subst ha;have hr:=cR.Lf h dj.toList;have fP:=h.eval fo;rw[hf] at fP;generalize hg:a.eval fo=u at fP;cases fP with
 | eC _ _ vs hl WA =>
  have I:(execOp a.eval o).run P w = .ok (.enter f (dj.toList.map a.eval++vs).toArray) w:=by
   unfold execOp;have e:dj.map a.eval++vs.toArray=(dj.toList.map a.eval++vs).toArray:=by
    rw[←append_toArray,←Array.toList_map,Array.toArray_toList]
   simp only[ho,resolve,hg,Deferred.ofValue,Sem.run_bind,Sem.run_pure,Result.andThen_ok,invoke];simp[fq]
  unfold Oper.wp;rw[I,Oper.upon_enter,hd];refine(h.call hG hc hp (hr.append ⟨hl,WA⟩)).mono fun e w' ⟨v,r,S',h1,h2,h3,h4,h5,h6⟩=>?_;subst h1;exact hK _ _ _ ⟨r,S',h2,rfl⟩ (h4.put h3) h5 h6
theorem uP(hk:S[k]?=some B):S.Perm (B::S.eraseIdx k):=by
 obtain⟨h1,h2⟩:=List.getElem?_eq_some_iff.1 hk;subst h2;clear hk;induction S generalizing k with
 | nil=>simp at h1
 | cons A S ih =>
  cases k with
  | zero=>exact Perm.refl _
  | succ k =>
   have E:k<S.length:=(by simpa using h1)
   rw[eraseIdx_cons_succ];exact((ih E).cons A).trans (Perm.swap _ _ _)
theorem eR(S:List ah):S.Perm ([]++S):=Perm.refl _
theorem kr(hk:S[k]?=some B):S.Perm ([B]++S.eraseIdx k):=uP hk
theorem Bi{k':Nat}{B':ah}(hk:S[k]?=some B)(E:(S.eraseIdx k)[k']?=some B'):S.Perm ([B,B']++(S.eraseIdx k).eraseIdx k'):=(uP hk).trans ((uP E).cons B)
theorem cq.wU{w:World}(h:Own w (live X S) S)(O:∀b,X b→b∉aq S)(hk:S[k]?=some B)(hl:B.cs.length=n*sz)(h1:n≤cap)(h2:cap≤maxLen)(hne:isMap B.e=false:=by rfl) :
  cq w (live X (S.eraseIdx k)) (.list sz B.cs n) (.slice (some ⟨B.b,0,none⟩) n cap):=by
 have hm:=mem_of_getElem? hk;obtain⟨r0,cur,r1,r2,U,I⟩:=h.at_ B hm;rw[ku hne] at r1;have E:(aq (S.eraseIdx k)).Sublist (aq S):=Sublist.map _ (eraseIdx_sublist S k);have hL:¬live X (S.eraseIdx k) B.b:=fun hl=>by
  rcases hl with hl|hl
  ·exact O _ hl (mem_map.2 ⟨B,hm,rfl⟩)
  have hp:(aq S).Perm (B.b::aq (S.eraseIdx k)):=(by have:=(uP hk).map ah.b;simpa[aq] using this)
  have hnd:=hp.nodup_iff.1 h.apart;exact(nodup_cons.1 hnd).1 hl
 refine .list sz B.cs n B.b 0 cap (fun i=>cur.getD i undef) hl h1 h2 r0 hL (fun i hi=>?_) (fun i hi=>?_)
 ·obtain⟨u,hu,_⟩:=I i hi;rw[Nat.zero_add,n8 r1 hu];simp[hu]
 obtain⟨u,hu,hq⟩:=I i hi;simp only[Array.getD_eq_getD_getElem?,hu,Option.getD_some];exact hq.mono fun b _ hn=>⟨rfl,fun hl=>hn (hl.imp id fun q=>E.subset q)⟩
theorem bI.Az{w:World}(h:bI C x a w):∀b,C.X b→b∉aq x.S:=fun b hb=>(h.fr.block b (h.ex b hb).1 (h.ex b hb).2).2
theorem Wk.vq{t:Nat}{cs:List D}(hk:S[k]?=some B)(ht:look t l = .v (.slice (some ⟨B.b,0,none⟩) m cap))(dH:B.cs=cs)(hl:cs.length=m*sz)(h1:m≤cap)(h2:cap≤maxLen)(hne:isMap B.e=false:=by rfl) :
  Wk ⟨n,l,S⟩ ⟨n,(t,.list sz cs m)::l,S.eraseIdx k⟩:=fun C a w h=>by
 subst dH;have hd:=Wk.drop n l S (S.eraseIdx k) (eraseIdx_sublist S k) C a w h;refine⟨hd.defers,hd.size,fun i hi=>?_,hd.own,hd.fr,hd.ex,hd.eP⟩;simp only[fT];by_cases e:t=i
 ·subst e;rw[if_pos rfl];have E:=h.env t hi;simp only[ht] at E;rw[E.kU];exact cq.wU h.own h.Az hk hl h1 h2 hne
 rw[if_neg e];exact hd.env i hi
theorem Wk.tL{t:Nat}(ht:look t l = .v (.slice none 0 0)):Wk ⟨n,l,S⟩ ⟨n,(t,.list sz [] 0)::l,S⟩:=fun C a w h=>by
 refine⟨h.defers,h.size,fun i hi=>?_,h.own,h.fr,h.ex,h.eP⟩;simp only[fT];by_cases e:t=i
 ·subst e;rw[if_pos rfl];have E:=h.env t hi;simp only[ht] at E;rw[E.kU];exact .nil sz
 rw[if_neg e];exact h.env i hi
theorem Wk.afs {A:ah} {cs:List D} (hk:S[k]?=some B) (hj:(S.eraseIdx k)[j]?=some A) (hi:A.cs[i]?=some (.v (.slice (some ⟨B.b,0,none⟩) m cap))) (dH:B.cs=cs) (hl:cs.length=m*sz) (h1:m≤cap) (h2:cap≤maxLen)
  (U:A.cs.set i (.list sz cs m)=cs') (hS:(S.eraseIdx k).set j {A with cs:=cs'}=S') (hne:isMap B.e=false:=by rfl):Wk ⟨n,l,S⟩ ⟨n,l,S'⟩:=fun C a w h=>by
 subst dH U hS;have hd:=Wk.drop n l S (S.eraseIdx k) (eraseIdx_sublist S k) C a w h;have Z:=cq.wU h.own h.Az hk hl h1 h2 hne;have l6:=(List.getElem?_eq_some_iff.1 hj).1;have hjA:=(List.getElem?_eq_some_iff.1 hj).2;have E:aq ((S.eraseIdx k).set j {A with cs:=A.cs.set i (.list sz B.cs m)})=aq (S.eraseIdx k):=by
  unfold aq;rw[map_set];apply ext_getElem bq;intro i q1 q2;rw[getElem_set];split
  ·rename_i e;subst e;simp[hjA]
  rfl
 have I:live C.X ((S.eraseIdx k).set j {A with cs:=A.cs.set i (.list sz B.cs m)})=live C.X (S.eraseIdx k):=(by funext b;simp only[live,E])
 refine⟨hd.defers,hd.size,fun t ht=>?_,⟨fun B' MT=>?_,?_⟩,?_,hd.ex,hd.eP⟩
 ·simp only[I];exact hd.env t ht
 ·simp only[I];obtain⟨p,hp,gX⟩:=mem_iff_getElem.1 MT;rw[length_set] at hp;rw[getElem_set] at gX;by_cases e:j=p
  ·rw[if_pos e] at gX;subst gX;obtain⟨r0,cur,r1,r2,r3,r4⟩:=hd.own.at_ A (mem_of_getElem? hj);refine⟨r0,cur,r1,r2,by simpa using r3,fun q hq=>?_⟩;simp only[length_set] at hq;obtain⟨u,hu,O⟩:=r4 q hq;refine⟨u,hu,?_⟩;rw[getElem_set];split
   ·rename_i he;subst he;have:=(List.getElem?_eq_some_iff.1 hi).2;rw[this] at O;rw[O.kU];exact Z
   exact O
  rw[if_neg e] at gX;subst gX;exact hd.own.at_ _ (getElem_mem hp)
 ·simp only[E];exact hd.own.apart
 simp only[E];exact hd.fr

def R6(x:St)(t:Nat)(e:TypeId)(sz len:Nat)(cs:List D)(S:List ah)(y:St):Prop :=
 ∃b cap,len≤cap∧cap≤maxLen∧y=⟨x.n,(t,.v (.slice (some ⟨b,0,none⟩) len cap))::x.env,⟨b,e,cap*sz,cs⟩::S⟩
theorem bI.grown {w:World} (h:bI C x a w) {t g e:Nat} {row:Option Nat} {cs:List D}
  (hS:S.Sublist x.S) (I:∀k,row=some k→k∈aq x.S∧k∉aq S) (E:w.grownBy w' row) (hg:row=some g∨g=w.heap.size) (aa:g<w'.heap.size)
  (Cc:w'.heap[g]?=some (.cells cur e (0,0))) (iy:cur.size=cap*sz) (hl:cs.length≤cap*sz) (hr:∀i (h:i<cs.length),∃u,cur[i]?=some u∧cq w (live C.X x.S) cs[i] u) (hne:isMap e=false:=by rfl) :
  bI C ⟨x.n,(t,.v (.slice (some ⟨g,0,none⟩) m cap))::x.env,⟨g,e,cap*sz,cs⟩::S⟩ (a.put (some t) (.slice (some ⟨g,0,none⟩) m cap)) w'∧l5 row.toList w w'∧Fr w (aq x.S) w' (aq (⟨g,e,cap*sz,cs⟩::S)):=by
 have O:(aq S).Sublist (aq x.S):=Sublist.map _ hS;have Z:∀b,live C.X x.S b→b<w.heap.size:=fun b hb=>by
  rcases hb with hb|hb
  ·exact Nat.lt_of_lt_of_le (h.ex b hb).1 h.fr.size
  obtain⟨B,hB,rfl⟩:=mem_map.1 hb;exact(h.own.at_ B hB).1
 have hgS:g∉aq S:=by
  rcases hg with hg|hg
  ·exact(I g hg).2
  intro hm;have:=Z g (.inr (O.subset hm));omega
 have hgX:¬C.X g:=fun hx=>by
  rcases hg with hg|hg
  ·exact h.Az g hx (I g hg).1
  have:=Z g (.inl hx);omega
 have U:g<w.heap.size→g∈aq x.S:=fun aa=>by
  rcases hg with hg|hg
  ·exact(I g hg).1
  omega
 have H:∀b,b<w.heap.size→¬live C.X x.S b→w'.heap[b]?=w.heap[b]?∧¬live C.X (⟨g,e,cap*sz,cs⟩::S) b:=fun b hb hn=>by
  refine⟨E.block b hb (fun hm=>hn (.inr (I b hm.symm).1)),fun hl=>?_⟩;rcases hl with hl|hl
  ·exact hn (.inl hl)
  simp only[aq,map_cons,mem_cons] at hl;rcases hl with hl|hl
  ·subst hl;exact hn (.inr (U hb))
  exact hn (.inr (O.subset hl))
 have base:bI C ⟨x.n,x.env,⟨g,e,cap*sz,cs⟩::S⟩ a w':=by
  refine⟨h.defers,h.size,fun t ht=>(h.env t ht).mono H,⟨fun B hB=>?_,?_⟩,?_,h.ex,h.eP⟩
  ·rcases mem_cons.1 hB with rfl|hB
   ·refine⟨aa,cur,Cc.trans (by rw[ku hne]),iy,hl,fun i hi=>?_⟩;obtain⟨u,hu,hq⟩:=hr i hi;exact⟨u,hu,hq.mono H⟩
   obtain⟨r0,lS,r1,r2,r3,r4⟩:=h.own.at_ B (hS.subset hB);have CT:B.b∈aq S:=mem_map.2 ⟨B,hB,rfl⟩;have hh:=E.block B.b r0 (fun hm=>(I B.b hm.symm).2 CT);refine⟨qV r0 hh,lS,hh.trans r1,r2,r3,fun i hi=>?_⟩;obtain⟨u,hu,hq⟩:=r4 i hi;exact⟨u,hu,hq.mono H⟩
  ·show(g::aq S).Nodup;exact nodup_cons.2 ⟨hgS,h.own.apart.sublist O⟩
  refine⟨E.os.trans h.fr.os,E.tape.trans h.fr.tape,E.output.trans h.fr.output,Nat.le_trans h.fr.size E.size,fun b hb hn=>?_⟩;obtain⟨q1,q2⟩:=h.fr.block b hb hn;have jP:=Nat.lt_of_lt_of_le hb h.fr.size;refine⟨(E.block b jP (fun hm=>q2 (I b hm.symm).1)).trans q1,fun hm=>?_⟩;simp only[aq,map_cons,mem_cons] at hm;rcases hm with hm|hm
  ·subst hm;exact q2 (U jP)
  exact q2 (O.subset hm)
 refine⟨base.put (.v _),⟨E.size,fun b hb hn=>E.block b hb (fun hm=>hn (by rw[←hm];simp))⟩,⟨E.os,E.tape,E.output,E.size,fun b hb hn=>?_⟩⟩;refine⟨E.block b hb (fun hm=>hn (I b hm.symm).1),fun hm=>?_⟩;simp only[aq,map_cons,mem_cons] at hm;rcases hm with hm|hm
 ·subst hm;exact hn (U hb)
 exact hn (O.subset hm)
theorem A3 {s:Operand} {t:Nat} {I:Value} {w:World} (ho:o.op = .call {callee:=.builtin .append,args:=#[s,y],argTypes:=#[t,t]}) (hs:a.eval s=v) (hy:a.eval y=u)
  (E:(Builtin.append_ #[t,t] o.type #[v,u]).run P w = .ok I w'):(execOp a.eval o).run P w = .ok (.value I) w':=by
 unfold execOp;simp[ho,resolve,invoke,builtin,hs,hy,E]
theorem yV{e:Nat}{z:Value}(hi:(P.info? e).map (fun i=>(i.zero,i.size,i.bytes))=some (some z,sz,bytes)):∃i,P.info? e=some i∧i.zero=some z∧i.size=sz∧i.bytes=bytes:=by
 cases h:P.info? e with
 | none=>simp[h] at hi
 | some i=>simp[h] at hi;exact⟨i,rfl,hi⟩
theorem OP {s:Operand} {t e:Nat} {z:Value} {cs:List D} (ho:o.op = .call {callee:=.builtin .append,args:=#[s,y],argTypes:=#[t,t]}) (hd:o.dst=some tt)
  (ht:P.underlying t=some (.slice e)) (hi:(P.info? e).map (fun i=>(i.zero,i.size,i.bytes))=some (some z,sz,bytes)) (eW:z.cells.size=sz) (iy:0<sz)
  (hs:aG x s = .v (.slice (some ⟨b,0,none⟩) n cap)) (hk:x.S[k]?=some B) (hb:B.b=b) (he:B.e=e) (aol:B.size=cap*sz) (hl:B.cs.length=n*sz) (hn:n≤cap) (Z:cap≤maxLen)
  (hy:aG x y = .list sz cs m) (iD:∀d∈cs,one d=true) (hm:0<m) (gw:n+m≤maxLen) (O:(n+m)*bytes≤140737488355328) (hne:isMap B.e=false:=by rfl) :
  fQ P G x o [b] (R6 x tt e sz (n+m) (B.cs++cs) (x.S.eraseIdx k)):=fun C a w K Q hG h hK=>by
 subst hb he;obtain⟨i,kj,lH,pn,qb⟩:=yV hi;obtain⟨r0,cur,r1,r2,r3,r4⟩:=h.fA hk;rw[ku hne] at r1;have hr:=h.eval y;rw[hy] at hr;generalize hg:a.eval y=u at hr;cases hr with
 | mj=>omega
 | list _ _ _ b' o' I f l7 q1 q2 jP hL hc AA =>
  have kJ:w.ownsRow 0 B.e sz (.slice (some ⟨B.b,0,none⟩) n cap) n (cur.toList.take (n*sz)) :=
   ⟨by simp;omega,.inr ⟨B.b,cap,cur,rfl,Nat.zero_le _,r1,hn,Z,by omega,rfl⟩⟩
  obtain⟨v',w',nK,h2,h3,_,h5⟩:=run_append_own_at (P:=P) w 0 t o.type B.e i z sz bytes ht kj lH pn qb eW iy _ n _ kJ ⟨b',o',none⟩ m I ((range cs.length).map f) (by simp[l7]) (fun j u hu=>by
    rw[Addr.add_mid];obtain⟨hj,he⟩:=List.getElem?_eq_some_iff.1 hu;simp only[length_map,length_range] at hj;rw[hc j hj,←he];simp) (fun u hu=>by
    obtain⟨j,hj,rfl⟩:=mem_map.1 hu;have jz:=mem_range.1 hj;exact(AA j jz).Bg (iD _ (getElem_mem jz))) gw O (Nat.zero_le _)
  obtain⟨g,E,rfl,_,aa⟩:=h2.form w4;have h6:(Value.slice (some ⟨B.b,0,none⟩) n cap).ownBlock=some g∨g=w.heap.size:=by
   rcases h5 with h5|h5
   ·exact .inl (by rw[←h5];rfl)
   right;simpa[Value.ownBlock] using h5
  obtain⟨_,h2⟩:=h2;rcases h2 with ⟨h2,_⟩|⟨g',I,lS,e1,_,e2,e3,e4,e5,e6⟩
  ·cases h2
  have CU:g=g'∧E=I:=(by simpa using e1)
  obtain⟨rfl,rfl⟩:=CU;have hlen:(B.cs++cs).length=(n+m)*sz:=(by rw[length_append,hl,l7,Nat.add_mul])
  have MU:(n+m)*sz≤E*sz:=Nat.mul_le_mul_right _ e3;have Cc:∀i,i<(n+m)*sz→lS[i]?=(cur.toList.take (n*sz)++(range cs.length).map f)[i]?:=fun i hi=>by
   rw[←e6,getElem?_take_of_lt hi,Array.getElem?_toList]
  obtain⟨s1,s2,s3⟩:=h.grown (t:=tt) (m:=n+m) (e:=B.e) (sz:=sz) (S:=x.S.eraseIdx k) (cs:=B.cs++cs) (row:=some B.b) (g:=g) (cap:=E) (eraseIdx_sublist _ _) (fun k' qN=>by
    have:B.b=k':=(by simpa using qN)
    subst this;refine⟨mem_map.2 ⟨B,mem_of_getElem? hk,rfl⟩,fun hm=>?_⟩;have hp:(aq x.S).Perm (B.b::aq (x.S.eraseIdx k)):=(by have:=(uP hk).map ah.b;simpa[aq] using this)
    exact(nodup_cons.1 (hp.nodup_iff.1 h.own.apart)).1 hm) h3 h6 aa e2 e5 w4 (fun i hi=>by
    rw[hlen] at hi;rw[Cc i hi];by_cases ko:i<n*sz
    ·obtain⟨u,hu,hq⟩:=r4 i w4;refine⟨u,?_,?_⟩
     ·rw[getElem?_append_left iu,getElem?_take_of_lt ko,Array.getElem?_toList,hu]
     rw[getElem_append_left w4];exact hq
    have U:i-n*sz<cs.length:=(by rw[l7];rw[Nat.add_mul] at hi;omega)
    refine⟨f (i-n*sz),?_,?_⟩
    ·rw[getElem?_append_right iu];have:(cur.toList.take (n*sz)).length=n*sz:=(by simp;omega)
     rw[this];simp[U]
    rw[getElem_append_right w4];have:=AA (i-n*sz) U;simp only[hl];exact this) hne
  unfold Oper.wp;rw[A3 (P:=P) ho (h.flat hs) hg nK,Oper.upon_value,hd];exact hK _ _ _ ⟨g,E,e3,e4,rfl⟩ s1 s2 s3
theorem Oq {s:Operand} {t e:Nat} {z:Value} {cs:List D} (ho:o.op = .call {callee:=.builtin .append,args:=#[s,y],argTypes:=#[t,t]}) (hd:o.dst=some tt)
  (ht:P.underlying t=some (.slice e)) (hi:(P.info? e).map (fun i=>(i.zero,i.size,i.bytes))=some (some z,sz,bytes)) (eW:z.cells.size=sz) (iy:0<sz)
  (hs:aG x s = .v (.slice none 0 0)) (hy:aG x y = .list sz cs m) (iD:∀d∈cs,one d=true) (hm:0<m) (gw:m≤maxLen) (O:m*bytes≤140737488355328) (hne:isMap e=false:=by rfl) :
  fQ P G x o [] (R6 x tt e sz m cs x.S):=fun C a w K Q hG h hK=>by
 obtain⟨i,kj,lH,pn,qb⟩:=yV hi;have hr:=h.eval y;rw[hy] at hr;generalize hg:a.eval y=u at hr;cases hr with
 | mj=>omega
 | list _ _ _ b' o' I f l7 q1 q2 jP hL hc U =>
  have Z:w.ownsRow 0 e sz (.slice none 0 0) 0 []:=⟨by simp,.inl ⟨rfl,rfl⟩⟩
  obtain⟨v',w',nK,h2,h3,_,h5⟩:=run_append_own_at (P:=P) w 0 t o.type e i z sz bytes ht kj lH pn qb eW iy _ 0 _ Z ⟨b',o',none⟩ m I ((range cs.length).map f) (by simp[l7]) (fun j u hu=>by
    rw[Addr.add_mid];obtain⟨hj,he⟩:=List.getElem?_eq_some_iff.1 hu;simp only[length_map,length_range] at hj;rw[hc j hj,←he];simp) (fun u hu=>by
    obtain⟨j,hj,rfl⟩:=mem_map.1 hu;have jz:=mem_range.1 hj;exact(U j jz).Bg (iD _ (getElem_mem jz))) (by rw[Nat.zero_add];exact gw) (by rw[Nat.zero_add];exact O) (Nat.zero_le _)
  simp only[Nat.zero_add,nil_append] at h2;obtain⟨g,E,rfl,_,aa⟩:=h2.form w4;have h6:(none:Option Nat)=some g∨g=w.heap.size:=by
   rcases h5 with h5|h5
   ·simp[Value.ownBlock] at h5
   right;simpa[Value.ownBlock] using h5
  obtain⟨_,h2⟩:=h2;rcases h2 with ⟨h2,_⟩|⟨g',I,lS,e1,_,e2,e3,e4,e5,e6⟩
  ·cases h2
  have CU:g=g'∧E=I:=(by simpa using e1)
  obtain⟨rfl,rfl⟩:=CU;have MU:m*sz≤E*sz:=Nat.mul_le_mul_right _ e3;obtain⟨s1,s2,s3⟩:=h.grown (t:=tt) (m:=m) (e:=e) (sz:=sz) (S:=x.S) (cs:=cs) (row:=none) (g:=g) (cap:=E) (Sublist.refl _) (fun k' qN=>by cases qN) h3 h6 aa e2 e5 w4 (fun i hi=>by
    refine⟨f i,?_,U i hi⟩;have:lS[i]?=((range cs.length).map f)[i]?:=(by rw[←e6,getElem?_take_of_lt w4,Array.getElem?_toList])
    rw[this];simp[hi]) hne
  unfold Oper.wp;rw[A3 (P:=P) ho (h.flat hs) hg nK,Oper.upon_value,hd];exact hK _ _ _ ⟨g,E,e3,e4,rfl⟩ s1 s2 s3
theorem Ot {s:Operand} {t e:Nat} {cs:List D} (ho:o.op = .call {callee:=.builtin .append,args:=#[s,y],argTypes:=#[t,t]})
  (O:∀w,(underlying t).run P w = .ok (.slice e) w) (E:∀w,(sizeOf e).run P w = .ok sz w) (hs:aG x s = .v (.slice ad n cap)) (hn:n≤cap) (hy:aG x y = .list sz cs 0):bZ P G x o .none (.v (.slice ad n cap)):=fun C a w _ h=>by
 refine⟨_,.v _,fun w' _=>?_⟩;have hr:=h.eval y;rw[hy] at hr;generalize hg:a.eval y=u at hr;refine A3 (P:=P) ho (h.flat hs) hg ?_;have U:n+0≤cap:=hn;cases hr with
 | mj _ I kK=>cases I<;>cases ad<;>simp[Builtin.append_,O,E,Builtin.lenOf,Builtin.firstCells,storeCells,loadCells,loadCellsFrom,hn,Nat.not_lt.2 hn]
 | list _ _ _ b' o' kK f l7 q1 q2 jP hL hc Z=>cases ad<;>simp[Builtin.append_,O,E,Builtin.lenOf,Builtin.firstCells,storeCells,loadCells,loadCellsFrom,hn,Nat.not_lt.2 hn]

end Go.Proofs.YtdgichenhdikgaaGreatDoor.V
namespace Go.Proofs.YtdgichenhdikgaaGreatDoor.V
open List
open Go.RowKit
variable {g t n:Nat} {E b:Bool} {l':List (Nat×D)} {S':List ah} {c:Code} {ds:List D} {fn:Func} {L:Nat→Prop} {r1:ResultVar}
def LQ(C:dN)(Q:Exit→St→Prop):Exit→Act→World→Prop:=fun e a w=>(∃y,bI C y a w∧Q e y)∨(e = .ret∧C.CR a w)
def CD(P:Program)(C:dN)(c:Code)(x:St)(Q:Exit→St→Prop):Prop:=∀a w,bI C x a w→c.wp P (LQ C Q) a w
def OD(P:Program)(C:dN)(ops:Array Oper)(l:List Oper)(x:St)(Q:Exit→St→Prop):Prop:=∀a w,bI C x a w→wpList P ops (LQ C Q) l a w
variable {P:Program} {C:dN} {Q:Exit→St→Prop} {x y:St} {ops:Array Oper} {l:List Oper} {o:Oper}
def cg(ops:Array Oper)(x:St)(o:Oper)(b:Bool):Prop:=∀C a w,bI C x a w→Region.wanted o (yielded ops a.tmps)=b
theorem r9(h:o.guard=none):cg ops x o true:=fun C a w _=>by simp[Region.wanted,h]
theorem Qu(h:o.guard=some (g,E))(hg:(ops[g]?).bind (·.dst)=some t)(ht:t<x.n)(hb:look t x.env = .v (.bool b)):cg ops x o (b==E):=fun C a w hs=>by
 have I:=hs.env t ht;rw[hb] at I;have I:=I.kU;have O:=hs.size;have:a.tmps[t]?=some (.bool b):=by
  rw[Array.getD_eq_getD_getElem?,Array.getElem?_eq_getElem w4] at I;rw[Array.getElem?_eq_getElem w4];simpa using I
 simp only[Region.wanted,h,yielded,hg,Option.bind_some,this];cases b<;>cases E<;>rfl
theorem fB{d:D}{r:List (Nat×D)}:look t ((t,d)::r)=d:=by rw[fT,if_pos rfl]
theorem fU{d d':D}{r:List (Nat×D)}(h:d=d'):look t ((t,d)::r)=d':=by rw[fT,if_pos rfl,h]
theorem fH{i:Nat}{d d':D}{r:List (Nat×D)}(h:Nat.beq i t=false)(k:look t r=d'):look t ((i,d)::r)=d':=by rw[look,h];exact k
theorem bP{v:Value}{x:St}:aG x (.const v) = .v v:=rfl
theorem tv{f:FuncId}{x:St}:aG x (.func f) = .eC (.func f) []:=rfl
theorem wo{x:St}:aG x (.global g) = .v (.pointer (some ⟨g,0,none⟩)):=rfl
theorem tJ{d:D}{x:St}(h:Nat.blt t x.n=true)(k:look t x.env=d):aG x (.tmp t)=d:=by simp only[aG,h,k];rfl
theorem lk{l:List (Nat×D)}{d:D}(h:look t l=d:=by (repeat (first|exact fB|(apply fH;focus rfl)|exact look_nil));first|done|fail):look t l=d:=h
theorem ot{d:D}{x:St}(h:Nat.blt t x.n=true:=by exact rfl)(k:look t x.env=d:=by (repeat (first|exact fB|(apply fH;focus rfl)|exact look_nil));first|done|fail):aG x (.tmp t)=d:=tJ h k
def ni(l:List (Nat×D)):List (Nat×D)→Prop
 | []=>True
 | (i,d)::r=>look i l=d∧ni l r
theorem ni.look{l:List (Nat×D)}:∀{l':List (Nat×D)},ni l l'→∀t,V.look t l'=V.look t l∨V.look t l' = .bX
 | [],_,t=>.inr rfl
 | (i,d)::r,h,t=>by
  rw[fT];by_cases e:i=t
  ·subst e;rw[if_pos rfl];exact .inl h.1.symm
  rw[if_neg e];exact h.2.look t
theorem Wk.kC{l:List (Nat×D)}{S:List ah}(h:ni l l'):Wk ⟨n,l,S⟩ ⟨n,l',S⟩:=fun C a w hs =>
 ⟨hs.defers,hs.size,fun t ht=>by
  rcases h.look t with e|e
  ·simp only[e];exact hs.env t ht
  simp only[e];exact .bX _,hs.own,hs.fr,hs.ex,hs.eP⟩
theorem Wk.dS{x:St}(hn:x.n=n)(hS:x.S=S')(h:ni x.env l'):Wk x ⟨n,l',S'⟩:=by
 obtain⟨n0,l0,S0⟩:=x;simp only at hn hS h;subst hn hS;exact Wk.kC h
theorem Wk.asS{x:St}(hn:x.n=n)(hS:S'.Sublist x.S)(h:ni x.env l'):Wk x ⟨n,l',S'⟩:=by
 obtain⟨n0,l0,S0⟩:=x;simp only at hn hS h;subst hn;exact(Wk.drop n0 l0 S0 S' hS).trans (Wk.kC h)
theorem tM{ops:Array Oper}{x:St}{o:Oper}(h:o.guard=some (g,E))(hg:(ops[g]?).bind (·.dst)=some t)(ht:Nat.blt t x.n=true)(hb:look t x.env = .v (.bool b))(hw:b=E):cg ops x o true:=by
 have:=Qu h hg (Nat.le_of_ble_eq_true ht) hb;rw[hw] at this;simpa using this
theorem mE{ops:Array Oper}{x:St}{o:Oper}(h:o.guard=some (g,E))(hg:(ops[g]?).bind (·.dst)=some t)(ht:Nat.blt t x.n=true)(hb:look t x.env = .v (.bool b))(hw:b = !E):cg ops x o false:=by
 have:=Qu h hg (Nat.le_of_ble_eq_true ht) hb;rw[hw] at this;cases E<;>simpa using this
theorem Jq{ops:Array Oper}{x:St}{o:Oper}{b:Bool}(h:o.guard=some (g,E))(hg:(ops[g]?).bind (·.dst)=some t)(ht:Nat.blt t x.n=true)(hb:look t x.env = .v (.tuple #[])):cg ops x o false:=fun C a w hs=>by
 have I:=hs.env t (Nat.le_of_ble_eq_true ht);rw[hb] at I;have I:=I.kU;have O:=hs.size;have G8:t<x.n:=Nat.le_of_ble_eq_true ht;have:a.tmps[t]?=some (.tuple #[]):=by
  rw[Array.getD_eq_getD_getElem?,Array.getElem?_eq_getElem w4] at I;rw[Array.getElem?_eq_getElem w4];simpa using I
 simp only[Region.wanted,h,yielded,hg,Option.bind_some,this];cases E<;>rfl
theorem OD.nil(h:Q .normal x):OD P C ops [] x Q:=fun a w hs=>.inl ⟨x,hs,h⟩
theorem OD.fV{W:List Nat}{post:St→Prop}(hw:cg ops x o true)(h:fQ P C.G x o W post)(k:∀y,post y→OD P C ops l y Q):OD P C ops (o::l) x Q:=fun a w hs=>by
 unfold wpList;rw[if_pos (hw C a w hs)];exact .inl (h C a w _ _ rfl hs fun y a' w' hp E _ _=>k y hp a' w' E)
theorem OD.still{kd:Rd}{d:D}(hw:cg ops x o true)(hd:o.dst=some t)(h:bZ P C.G x o kd d)(k:OD P C ops l (x.put t d) Q):OD P C ops (o::l) x Q :=
 OD.fV hw (h.fV hd) fun y hy=>by subst hy;exact k
theorem OD.skip(hw:cg ops x o false)(hd:o.dst=some t)(k:OD P C ops l (x.put t (.v (.tuple #[]))) Q):OD P C ops (o::l) x Q:=fun a w hs=>by
 unfold wpList;rw[if_neg (by rw[hw C a w hs];simp),hd];exact k _ _ (hs.put (.v _))
theorem OD.wk(h:Wk x y)(k:OD P C ops l y Q):OD P C ops l x Q:=fun a w hs=>k a w (h C a w hs)
theorem CD.wk(h:Wk x y)(k:CD P C c y Q):CD P C c x Q:=fun a w hs=>k a w (h C a w hs)
theorem CD.mono{E:Exit→St→Prop}(h:CD P C c x Q)(k:∀e y,Q e y→E e y):CD P C c x E:=fun a w hs =>
 wp_mono (h a w hs) fun e a' w' h=>h.imp (fun ⟨y,h1,h2⟩=>⟨y,h1,k e y h2⟩) id
theorem CD.skip(h:Q .normal x):CD P C .skip x Q:=fun a w hs=>wp_skip (.inl ⟨x,hs,h⟩)
theorem CD.ret(h:Q .ret x):CD P C .ret x Q:=fun a w hs=>wp_ret (.inl ⟨x,hs,h⟩)
theorem CD.exit{id:Nat}(h:Q (.exit id) x):CD P C (.exit id) x Q:=fun a w hs=>wp_exit (.inl ⟨x,hs,h⟩)
def Ce(P:Program)(C:dN)(c:Code)(Q:Exit→St→Prop):Exit→St→Prop
 | .normal,y=>CD P C c y Q
 | e,y=>Q e y
theorem CD.seq{c d:Code}(h:CD P C c x (Ce P C d Q)):CD P C (.seq c d) x Q:=fun a w hs =>
 wp_seq (wp_mono (h a w hs) fun e a' w' h=>by
  rcases h with ⟨y,h1,h2⟩|⟨rfl,h⟩
  ·cases e<;>first|exact h2 a' w' h1|exact .inl ⟨y,h1,h2⟩
  exact .inr ⟨rfl,h⟩)
theorem CD.region{id:Nat}{l:List Oper}(h:OD P C l.toArray l x Q):CD P C (.region id l.toArray false) x Q:=fun a w hs=>wp_region_lit (h a w hs)
theorem CD.cond{c:Operand}{d e:Code}{b:Bool}(hc:aG x c = .v (.bool b))(ht:b=true→CD P C d x Q)(hf:b=false→CD P C e x Q):CD P C (.cond c d e) x Q:=fun a w hs =>
 wp_cond_split (hs.flat hc) (fun h=>ht h a w hs) (fun h=>hf h a w hs)
theorem CD.agV{c:Operand}{d e:Code}(hc:aG x c = .v (.bool b))(hb:b=true)(ht:CD P C d x Q):CD P C (.cond c d e) x Q:=fun a w hs =>
 wp_cond_true (by rw[hs.flat hc,hb]) (ht a w hs)
theorem CD.KG{c:Operand}{d e:Code}(hc:aG x c = .v (.bool b))(hb:b=false)(hf:CD P C e x Q):CD P C (.cond c d e) x Q:=fun a w hs =>
 wp_cond_false (by rw[hs.flat hc,hb]) (hf a w hs)
def MV(Inv:St→Prop)(Q:Exit→St→Prop):Exit→St→Prop
 | .normal,y=>∃z,Wk y z∧Inv z
 | e,y=>Q e y
theorem CD.cut{d:Code}(E:St→Prop)(h1:CD P C c x (MV E Q))(h2:∀z,E z→CD P C d z Q):CD P C (.seq c d) x Q :=
 CD.seq (CD.mono h1 fun e y h=>by cases e<;>first|(obtain⟨z,hw,hz⟩:=h;exact CD.wk hw (h2 z hz))|exact h)
def Bp(id:Nat)(Q:Exit→St→Prop):Exit→St→Prop
 | .exit s6,y=>bif Nat.beq s6 id then Q .normal y else Q (.exit s6) y
 | e,y=>Q e y
theorem CD.block{id:Nat}{c:Code}(h:CD P C c x (Bp id Q)):CD P C (.block id c) x Q:=fun a w hs =>
 wp_block (wp_mono (h a w hs) fun e a' w' h=>by
  rcases h with ⟨y,h1,h2⟩|⟨rfl,h⟩
  case inr=>exact .inr ⟨rfl,h⟩
  cases e with
  | exit s6 =>
   simp only[Bp] at h2;simp only[Exit.inBlock];by_cases he:s6=id
   ·subst he;rw[if_pos rfl];simp at h2;exact .inl ⟨y,h1,h2⟩
   rw[if_neg he];have:Nat.beq s6 id=false:=by
    cases h:Nat.beq s6 id with
    | false=>rfl
    | true=>exact absurd (Nat.eq_of_beq_eq_true h) he
   rw[this] at h2;exact .inl ⟨y,h1,h2⟩
  | _=>exact .inl ⟨y,h1,h2⟩)
theorem least(p:Nat→Prop)(h:∃n,p n):∃n,p n∧∀m,p m→n≤m:=by
 obtain⟨n,hn⟩:=h;induction n using Nat.strongRecOn with
 | _ n ih =>
  by_cases hq:∃m,m<n∧p m
  ·obtain⟨m,hm,hp⟩:=hq;exact ih m hm hp
  exact⟨n,hn,fun m hm=>Nat.le_of_not_lt fun aa=>hq ⟨m,aa,hm⟩⟩
def BM{ι:Type}(I:ι→St→Prop)(μ:ι→Nat)(i:ι)(Q:Exit→St→Prop):Exit→St→Prop
 | .normal,y=>∃j z,μ j < μ i∧Wk y z∧I j z
 | e,y=>Q e y
open Classical in
theorem CD.loop{ι:Type}{c:Code}(I:ι→St→Prop)(μ:ι→Nat)(i:ι)(h0:I i x)(round:∀i y,I i y→CD P C c y (BM I μ i Q)):CD P C (.loop c) x Q:=fun a w hs=>by
 let p:Act→World→Nat→Prop:=fun a w n=>∃i y,μ i=n∧I i y∧bI C y a w
 let m:Act→World→Nat:=fun a w=>if h:∃n,p a w n then Classical.choose (least _ h) else 0
 refine wp_loop (fun a w=>∃n,p a w n) m ⟨_,i,x,rfl,h0,hs⟩ fun a w O=>?_;have hm:m a w=Classical.choose (least _ O):=dif_pos O;obtain⟨⟨i,y,h1,h2,h3⟩,_⟩:=Classical.choose_spec (least _ O);rw[←hm] at h1;refine wp_mono (round i y h2 a w h3) fun e a' w' h=>?_;rcases h with ⟨z,q1,q2⟩|⟨rfl,h⟩
 case inr=>exact .inr ⟨rfl,h⟩
 cases e with
 | normal =>
  obtain⟨j,z',r1,r2,Z⟩:=q2;have hp:p a' w' (μ j):=⟨j,z',rfl,Z,r2 C a' w' q1⟩
  have E:∃n,p a' w' n:=⟨_,hp⟩
  have U:m a' w'=Classical.choose (least _ E):=dif_pos E;refine⟨E,?_⟩;have:=(Classical.choose_spec (least _ E)).2 _ hp;rw[U];omega
 | _=>exact .inl ⟨z,q1,q2⟩
def Lg(tmps:Array Value):ResultVar→Sem Value
 | .tmp t=>pure (tmps.getD t undef)
 | .cell a t=>do loadVar t (←asAddr (tmps.getD a undef))
theorem H6(fn:Func)(tmps:Array Value):results fn tmps=(do let vs ←fn.results.mapM (Lg tmps);pure (if h:vs.size=1 then vs[0] else .tuple vs)):=rfl
def s7(P:Program)(y:St)(rv:ResultVar)(d:D):Prop :=
 ∀C a w,bI C y a w→∃v,cq w (live C.X y.S) d v∧(Lg a.tmps rv).run P w = .ok v w
theorem yW{d:D}(ht:t<y.n)(hd:look t y.env=d):s7 P y (.tmp t) d:=fun C a w h=>⟨_,hd ▸ h.env t ht,rfl⟩
theorem sj{c k b:Nat}{B:ah}(hc:c<y.n)(hd:look c y.env = .v (.pointer (some ⟨b,0,none⟩)))(hk:y.S[k]?=some B)(hb:B.b=b)(ha:∀w,(isAgg t).run P w = .ok true w)(hn:∀w,(sizeOf t).run P w = .ok n w)(dH:B.cs=ds)(hl:ds.length=n)(hne:isMap B.e=false:=by rfl):s7 P y (.cell c t) (.agg ds):=fun C a w h=>by
 subst hb dH;have he:=h.env c hc;rw[hd] at he;obtain⟨_,cur,h1,h2,h3,h4⟩:=h.fA hk;rw[ku hne] at h1;refine⟨.agg ((range n).map fun j=>cur.getD j undef).toArray,.agg _ _ (by simp[hl]) (fun i q1 q2=>?_),?_⟩
 ·obtain⟨u,hu,hr⟩:=h4 i q1;simp only[getElem_map,getElem_range,Array.getD_eq_getD_getElem?,hu,Option.getD_some];exact hr
 simp only[Lg,he.kU,asAddr,Sem.run_bind,Sem.run_pure,Result.andThen_ok];have:=Ij (P:=P) (t:=t) (w:=w) (b:=B.b) (o':=0) (vs:=(range n).map fun j=>cur.getD j undef) ha hn bq (fun j hj=>by
  simp only[length_map,length_range] at hj;obtain⟨u,hu,_⟩:=h4 j w4;simp only[getElem_map,getElem_range,Array.getD_eq_getD_getElem?,hu,Option.getD_some,Nat.zero_add];exact n8 h1 hu)
 simpa[Instr.loadAt,Instr.sureAddr] using this
def s8(P:Program)(fn:Func)(y:St)(r:D):Prop:=∀C a w,bI C y a w→∃v,cq w (live C.X y.S) r v∧(results fn a.tmps).run P w = .ok v w
theorem qp(hr:fn.results = #[]):s8 P fn y (.dJ []):=fun C a w h =>
 ⟨.tuple #[],.dJ [] [] rfl (fun i h1 _=>by simp at h1),by unfold results;simp[hr]⟩
theorem R7{rv:ResultVar}{d:D}(hr:fn.results = #[rv])(h:s7 P y rv d):s8 P fn y d:=fun C a w hs=>by
 obtain⟨v,h1,h2⟩:=h C a w hs;refine⟨v,h1,?_⟩;rw[H6,hr];simp[h2]
theorem R8{w:World}{vs:List Value}(h:cR w L ds vs):cq w L (.dJ ds) (.tuple vs.toArray):=.dJ ds vs h.1 h.2
theorem cR.cons{w:World}{d:D}{v:Value}{vs:List Value}(h:cq w L d v)(hs:cR w L ds vs):cR w L (d::ds) (v::vs) :=
 ⟨by simp[hs.1],fun i h1 h2=>by
  cases i with
  | zero=>exact h
  | succ i=>exact hs.2 i _ _⟩
theorem cR.nil(w:World)(L:Nat→Prop):cR w L [] []:=⟨rfl,fun i h=>by simp at h⟩
theorem Jr{E:ResultVar}{d1 d2:D}(hr:fn.results = #[r1,E])(h1:s7 P y r1 d1)(h2:s7 P y E d2):s8 P fn y (.dJ [d1,d2]):=fun C a w hs=>by
 obtain⟨v1,a1,b1⟩:=h1 C a w hs;obtain⟨v2,a2,b2⟩:=h2 C a w hs;refine⟨_,R8 (.cons a1 (.cons a2 (.nil _ _))),?_⟩;rw[H6,hr];simp[b1,b2]
theorem aat{E I:ResultVar}{d1 d2 O:D}(hr:fn.results = #[r1,E,I])(h1:s7 P y r1 d1)(h2:s7 P y E d2)(h3:s7 P y I O):s8 P fn y (.dJ [d1,d2,O]):=fun C a w hs=>by
 obtain⟨v1,a1,b1⟩:=h1 C a w hs;obtain⟨v2,a2,b2⟩:=h2 C a w hs;obtain⟨v3,a3,b3⟩:=h3 C a w hs;refine⟨_,R8 (.cons a1 (.cons a2 (.cons a3 (.nil _ _)))),?_⟩;rw[H6,hr];simp[b1,b2,b3]
def Body(P:Program)(fn:Func)(post:D→List ah→Prop)(e:Exit)(y:St):Prop :=
 (e = .normal∨e = .ret)∧∃r S',S'.Sublist y.S∧s8 P fn y r∧post r S'
def sD:Nat→List D→List (Nat×D)
 | _,[]=>[]
 | i,d::r=>(i,d)::sD (i+1) r
theorem Eg:∀(ds:List D) (i t:Nat),look t (sD i ds)=if i≤t then ds.getD (t-i) .bX else .bX
 | [],i,t=>by simp[sD,look]
 | d::r,i,t=>by
  rw[sD,fT,Eg r (i+1) t];by_cases h:i=t
  ·subst h;simp
  rw[if_neg h];by_cases h2:i≤t
  ·rw[if_pos h2,if_pos w4,show t-i=(t-(i+1))+1 from by omega];simp
  rw[if_neg h2,if_neg w4]
theorem VC.body {G:List (Nat×List Value)} {f:FuncId} {fn:Func} {c:Code} {n:Nat} {args:List D} {S:List ah} {post:D→List ah→Prop} (hf:P.funcs[f]?=some fn) (hb:fn.body=some c) (hn:fn.ntmps=n) (hl:args.length≤n)
  (h:∀X w0 S0,CD P ⟨X,w0,S0,G,[],fun _ _=>False⟩ c ⟨n,sD 0 args,S⟩ (Body P fn post)):VC P G f args S post:=fun X w vs hp=>by
 have Z:vs.length=args.length:=hp.args.1;let C:dN:=⟨X,w,aq S,G,[],fun _ _=>False⟩
 have I:bI C ⟨n,sD 0 args,S⟩ {tmps:=vs.toArray++Array.replicate (fn.ntmps-vs.toArray.size) undef,defers:=[]} w:=by
  refine⟨rfl,by simp[hn];omega,fun t ht=>?_,hp.own,Fr.refl _ _,hp.ex,hp.eP⟩;simp only[Eg,Nat.zero_le,if_true,Nat.sub_zero];by_cases aa:t<args.length
  ·have e1:args.getD t .bX=args[t]:=(by simp[getD,aa])
   have e2:(vs.toArray++Array.replicate (fn.ntmps-vs.toArray.size) undef).getD t undef=vs[t]'w4:=by
    rw[Array.getD_eq_getD_getElem?,Array.getElem?_append_left iu];simp[show t<vs.length by omega]
   rw[e1,e2];exact hp.args.2 t aa w4
  have e1:args.getD t .bX = .bX:=(by simp[getD,getElem?_eq_none (show args.length≤t by omega)])
  rw[e1];exact .bX _
 refine calls_of_wp hf hb (wp_mono (h _ _ _ _ _ I) fun e a w' h=>?_);rcases h with ⟨y,h1,h2,r,S',h3,h4,h5⟩|⟨_,h⟩
 case inr=>exact h.elim
 obtain⟨v,q1,q2⟩:=h4 C a w' h1;have E:(aq S').Sublist (aq y.S):=Sublist.map _ h3;have key:a.defers=[]∧∃v,(results fn a.tmps).run P w' = .ok v w'∧∃U r S',Ending.returned v = .returned U∧post r S'∧Own w' (live X S') S'∧cq w' (live X S') r U∧Fr w (aq S) w' (aq S') :=
  ⟨h1.defers,v,q2,v,r,S',rfl,h5,h1.own.sub h3,q1.mono fun b _ hn=>⟨rfl,fun hl=>hn (hl.imp id fun q=>E.subset q)⟩,
   ⟨h1.fr.os,h1.fr.tape,h1.fr.output,h1.fr.size,fun b O hn=>⟨(h1.fr.block b O hn).1,fun q=>(h1.fr.block b O hn).2 (E.subset q)⟩⟩⟩
 rcases h2 with rfl|rfl<;>exact key

end Go.Proofs.YtdgichenhdikgaaGreatDoor.V
namespace Go.Proofs.YtdgichenhdikgaaGreatDoor.V
open List
open Go.RowKit
variable {fuel i t:Nat} {ld:Array Bool}
def kV(w1:World)(S1 T:List Nat)(w:World):Prop:=(∀b,b<w1.heap.size→b∉S1→w.heap[b]?=w1.heap[b]?)∧∀b∈T,w.heap[b]?=w1.heap[b]?
def AD(P:Program)(C:dN)(ops:Array Oper)(S1 T:List Nat)(fuel:Nat)(ld:Array Bool)(x:St)(Q:Exit→St→Prop):Prop :=
 ∀w1 a w,bI C x a w→(∀b∈T,b∈S1)→(∀b∈S1,b<w1.heap.size)→Fr w1 S1 w (aq x.S)→kV w1 S1 T w→wpAnyH P .any ops (LQ C Q) (kV w1 S1 T) fuel ld a w
def dm(P:Program)(C:dN)(ops:Array Oper)(S1 T:List Nat)(fuel:Nat)(ld:Array Bool)(x:St)(Q:Exit→St→Prop):Prop :=
 ∀a w,bI C x a w→aq x.S=S1→(∀b∈T,b∈S1)→wpAnyH P .any ops (LQ C Q) (kV w S1 T) fuel ld a w
def NP(Q:Exit→St→Prop):Prop:=∀c y t,Q (.panic c) y→Q (.panic c) (y.put t .bX)
variable {P:Program} {C:dN} {Q:Exit→St→Prop} {x y:St} {ops:Array Oper} {l:List Oper} {o:Oper} {S1 T:List Nat}
theorem NP.body{fn:Func}{post:D→List ah→Prop}:NP (Body P fn post):=fun E y t hq=>by rcases hq.1 with h|h<;>cases h
def Tl(P:Program)(C:dN)(ops:Array Oper)(l:List Oper)(Q:Exit→St→Prop):Exit→St→Prop
 | .normal,y=>OD P C ops l y Q
 | e,y=>Q e y
theorem kV.refl(E:World)(S1 T:List Nat):kV E S1 T E:=⟨fun _ _ _=>rfl,fun _ _=>rfl⟩
theorem dm.later(hS:aq x.S=S1)(h:AD P C ops S1 T fuel ld x Q):dm P C ops S1 T fuel ld x Q:=fun a w hs _ hT =>
 h w a w hs hT (fun b hb=>by
  rw[←hS] at hb;obtain⟨B,hB,rfl⟩:=mem_map.1 hb;exact(hs.own.at_ B hB).1) (hS ▸ Fr.refl _ _) (kV.refl _ _ _)
def Safe(x:St)(T:List Nat):Rd→Prop
 | .none=>True
 | .j4=>True
 | .fA k=>∃B,x.S[k]?=some B∧B.b∈T
theorem zl(h:NP Q)(d:Option Nat)(v:Value):∀c a w,LQ C Q (.panic c) (a.put d v) w→LQ C Q (.panic c) a w:=fun c a w hq=>by
 rcases hq with ⟨y,h1,h2⟩|⟨h2,_⟩
 ·cases d with
  | none=>exact .inl ⟨y,h1,h2⟩
  | some t =>
   refine .inl ⟨y.put t .bX,⟨h1.defers,by have E:=h1.size;simp only[Act.put,Array.size_setIfInBounds] at E;exact E,fun q hq=>?_,h1.own,h1.fr,h1.ex,h1.eP⟩,h c y t h2⟩;have h3:=h1.env q hq;simp only[St.put,fT];by_cases e:t=q
   ·rw[if_pos e];exact .bX _
   rw[if_neg e];have:(a.put (some t) v).tmps.getD q undef=a.tmps.getD q undef:=(by simp[Act.put,Array.getD_eq_getD_getElem?,Array.getElem?_setIfInBounds,e])
   rw[this] at h3;exact h3
 cases h2
theorem dm.take {k:Rd} {d:D} (hi:ops[i]?=some o) (hs:Region.noSelect ops=true) (hf:Region.free .any ops ld i=true) (hr:(Region.ready .any ops ld).contains i=true) (hp:NP Q)
  (hw:cg ops x o true) (hd:o.dst=some t) (h:bZ P C.G x o k d) (hk:Safe x T k) (K:dm P C ops S1 T fuel (ld.setIfInBounds i true) (x.put t d) Q):dm P C ops S1 T (fuel+1) ld x Q:=fun a w E hS hT=>by
 obtain⟨v,h1,h2⟩:=h C a w rfl E;refine wpAnyH_take hi hs hf hr (zl hp _ v) (.inl ⟨hw C a w E,fun w' I=>h2 w' ?_⟩) (kV.refl _ _ _) ?_
 ·cases k with
  | none=>trivial
  | j4=>exact fun b hb hn=>I.1 b hb (fun hm=>hn (.inr (hS ▸ hm)))
  | fA k =>
   obtain⟨B,hB,hm⟩:=hk;intro B' O;rw[hB] at O;obtain rfl:=Option.some.inj O;exact I.2 _ hm
 rw[hd];exact K _ _ (E.put h1) hS hT
theorem dm.IV (hi:ops[i]?=some o) (hs:Region.noSelect ops=true) (hf:Region.free .any ops ld i=true) (hr:(Region.ready .any ops ld).contains i=true) (hp:NP Q)
  (hw:cg ops x o false) (hd:o.dst=some t) (K:dm P C ops S1 T fuel (ld.setIfInBounds i true) (x.put t (.v (.tuple #[]))) Q):dm P C ops S1 T (fuel+1) ld x Q:=fun a w E hS hT=>by
 refine wpAnyH_take (v:=undef) hi hs hf hr (zl hp _ _) (.inr ⟨hw C a w E,rfl⟩) (kV.refl _ _ _) ?_;rw[hd];exact K _ _ (E.put (.v _)) hS hT
theorem AD.take {k:Rd} {d:D} (hi:ops[i]?=some o) (hs:Region.noSelect ops=true) (hf:Region.free .any ops ld i=true) (hr:(Region.ready .any ops ld).contains i=true) (hp:NP Q)
  (hw:cg ops x o true) (hd:o.dst=some t) (h:bZ P C.G x o k d) (hk:Safe x T k) (nU:k≠.j4) (K:AD P C ops S1 T fuel (ld.setIfInBounds i true) (x.put t d) Q):AD P C ops S1 T (fuel+1) ld x Q:=fun Z a w E hT aa O fG=>by
 obtain⟨v,h1,h2⟩:=h C a w rfl E;refine wpAnyH_take hi hs hf hr (zl hp _ v) (.inl ⟨hw C a w E,fun w' U=>h2 w' ?_⟩) fG ?_
 ·cases k with
  | none=>trivial
  | j4=>exact absurd rfl nU
  | fA k =>
   obtain⟨B,hB,hm⟩:=hk;intro B' I;rw[hB] at I;obtain rfl:=Option.some.inj I;exact(U.2 _ hm).trans (fG.2 _ hm).symm
 rw[hd];exact K _ _ _ (E.put h1) hT aa O fG
theorem AD.IV (hi:ops[i]?=some o) (hs:Region.noSelect ops=true) (hf:Region.free .any ops ld i=true) (hr:(Region.ready .any ops ld).contains i=true) (hp:NP Q)
  (hw:cg ops x o false) (hd:o.dst=some t) (K:AD P C ops S1 T fuel (ld.setIfInBounds i true) (x.put t (.v (.tuple #[]))) Q):AD P C ops S1 T (fuel+1) ld x Q:=fun O a w E hT aa I fG=>by
 refine wpAnyH_take (v:=undef) hi hs hf hr (zl hp _ _) (.inr ⟨hw C a w E,rfl⟩) fG ?_;rw[hd];exact K _ _ _ (E.put (.v _)) hT aa I fG
def bj(P:Program)(C:dN)(ops:Array Oper)(S1 T:List Nat)(fuel:Nat)(ld:Array Bool)(x:St)(Q:Exit→St→Prop)(i:Nat):Prop :=
 ∀w1 a w,bI C x a w→(∀b∈T,b∈S1)→(∀b∈S1,b<w1.heap.size)→Fr w1 S1 w (aq x.S)→kV w1 S1 T w →
  wpOp P ops (LQ C Q) i (fun a' w'=>kV w1 S1 T w'∧wpAnyH P .any ops (LQ C Q) (kV w1 S1 T) fuel (ld.setIfInBounds i true) a' w') a w
theorem AD.all{I:List Nat}(hr:Region.ready .any ops ld=I)(hne:I≠[])(h:∀i∈I,bj P C ops S1 T fuel ld x Q i):AD P C ops S1 T (fuel+1) ld x Q:=fun U a w E hT aa O fG =>
 wpAnyH_all hr hne fun i hi=>h i hi U a w E hT aa O fG
theorem AD.one(hr:Region.ready .any ops ld=[i])(h:bj P C ops S1 T fuel ld x Q i):AD P C ops S1 T (fuel+1) ld x Q :=
 AD.all hr bq fun j hj=>by
  have:j=i:=(by simpa using hj)
  subst this;exact h
theorem AD.two{j:Nat}(hr:Region.ready .any ops ld=[i,j])(h:bj P C ops S1 T fuel ld x Q i)(h':bj P C ops S1 T fuel ld x Q j):AD P C ops S1 T (fuel+1) ld x Q :=
 AD.all hr bq fun k hk=>by
  simp only[mem_cons,not_mem_nil,or_false] at hk;rcases hk with rfl|rfl
  ·exact h
  exact h'
theorem AD.three{j k:Nat}(hr:Region.ready .any ops ld=[i,j,k])(h:bj P C ops S1 T fuel ld x Q i)(h':bj P C ops S1 T fuel ld x Q j)(E:bj P C ops S1 T fuel ld x Q k):AD P C ops S1 T (fuel+1) ld x Q :=
 AD.all hr bq fun m hm=>by
  simp only[mem_cons,not_mem_nil,or_false] at hm;rcases hm with rfl|rfl|rfl
  ·exact h
  ·exact h'
  exact E
theorem AD.done(hr:Region.ready .any ops ld=[])(h:Q .normal x):AD P C ops S1 T fuel ld x Q:=fun O a w E hT aa I fG=>wpAnyH_done hr (.inl ⟨x,E,h⟩) _
theorem bj.fV {W:List Nat} {post:St→Prop} (hi:ops[i]?=some o) (hw:cg ops x o true) (h:fQ P C.G x o W post) (hW:∀C a w,bI C x a w→∀b∈T,b∉W) (hWx:∀b∈W,b∈aq x.S)
  (k:∀y,post y→AD P C ops S1 T fuel (ld.setIfInBounds i true) y Q):bj P C ops S1 T fuel ld x Q i:=fun Z a w I hT aa E fG=>by
 unfold wpOp;simp only[hi,hw C a w I,if_true];refine .inl (h C a w _ _ rfl I fun y a' w' hp rR hc hf=>?_);have O:Fr Z S1 w' (aq y.S):=⟨hf.os.trans E.os,hf.tape.trans E.tape,hf.output.trans E.output,Nat.le_trans E.size hf.size,fun b hb hn=>by
  obtain⟨q1,q2⟩:=E.block b hb hn;obtain⟨q3,q4⟩:=hf.block b (Nat.lt_of_lt_of_le hb E.size) q2;exact⟨q3.trans q1,q4⟩⟩
 have U:kV Z S1 T w':=⟨fun b hb hn=>(O.block b hb hn).1,fun b hb=>by
  have jk:=Nat.lt_of_lt_of_le (aa b (hT b hb)) E.size;exact(hc.2 b jk (hW C a w I b hb)).trans (fG.2 b hb)⟩
 exact⟨U,k y hp Z a' w' rR hT aa O U⟩
theorem bj.still{kd:Rd}{d:D}(hi:ops[i]?=some o)(hw:cg ops x o true)(hd:o.dst=some t)(h:bZ P C.G x o kd d)(k:AD P C ops S1 T fuel (ld.setIfInBounds i true) (x.put t d) Q):bj P C ops S1 T fuel ld x Q i :=
 bj.fV hi hw (h.fV hd) (fun _ _ _ _ b _ hb=>by simp at hb) (fun b hb=>by simp at hb) fun y hy=>by subst hy;exact k
theorem bj.skip(hi:ops[i]?=some o)(hw:cg ops x o false)(hd:o.dst=some t)(k:AD P C ops S1 T fuel (ld.setIfInBounds i true) (x.put t (.v (.tuple #[]))) Q):bj P C ops S1 T fuel ld x Q i:=fun O a w E hT aa I fG=>by
 unfold wpOp;simp only[hi,hw C a w E,hd];exact⟨fG,k O _ w (E.put (.v _)) hT aa I fG⟩
theorem AD.wk(h:Wk x y)(hb:aq y.S=aq x.S)(k:AD P C ops S1 T fuel ld y Q):AD P C ops S1 T fuel ld x Q:=fun O a w E hT aa I fG=>k O a w (h C a w E) hT aa (hb ▸ I) fG
theorem AD.FN(h:Wk x y)(hb:∀b∈aq y.S,b∈aq x.S)(k:AD P C ops S1 T fuel ld y Q):AD P C ops S1 T fuel ld x Q:=fun O a w I hT aa E fG =>
 k O a w (h C a w I) hT aa ⟨E.os,E.tape,E.output,E.size,fun b h1 h2=>⟨(E.block b h1 h2).1,fun h3=>(E.block b h1 h2).2 (hb b h3)⟩⟩ fG
theorem CD.draw{id:Nat}{l:List Oper}(T:List Nat)(hm:P.follows .mixedOrders=true)(hT:∀b∈T,b∈aq x.S)(h:dm P C l.toArray (aq x.S) T l.toArray.size (Array.replicate l.toArray.size false) x Q):CD P C (.region id l.toArray true) x Q:=fun a w hs =>
 wp_region_held (S:=kV {w with drawn:=w.drawn+1} (aq x.S) T) hm (h a _ ⟨hs.defers,hs.size,fun t ht=>(hs.env t ht).mono fun b _ hn=>⟨rfl,hn⟩,⟨fun B E=>by
  obtain⟨r0,cur,r1,r2,I,O⟩:=hs.own.at_ B E;exact⟨r0,cur,r1,r2,I,fun i hi=>by
   obtain⟨u,hu,hq⟩:=O i hi;exact⟨u,hu,hq.mono fun b _ hn=>⟨rfl,hn⟩⟩⟩,hs.own.apart⟩,⟨hs.fr.os,hs.fr.tape,hs.fr.output,hs.fr.size,hs.fr.block⟩,hs.ex,hs.eP⟩ rfl hT)

end Go.Proofs.YtdgichenhdikgaaGreatDoor.V

namespace Go.Proofs.YtdgichenhdikgaaGreatDoor.V
open List
open Go.RowKit
variable {P:Program}

variable {t:TypeId} {k:IntKind} {a b:Int} {us:List Value}
theorem Js{op:BinOp}{r:Int}(h:(op = .add∧k.wrap (a+b)=r)∨(op = .sub∧k.wrap (a-b)=r)∨(op = .mul∧k.wrap (a*b)=r)):kO P op t (.int k a) (.int k b) (.int k r):=fun y z w=>by
 rcases h with ⟨rfl,h⟩|⟨rfl,h⟩|⟨rfl,h⟩<;>simp[eqGuard,binOp,Op.intArith,h]

theorem kx{r:Int}(h:k.wrap (a+b)=r):kO P .add t (.int k a) (.int k b) (.int k r):=Js (.inl ⟨rfl,h⟩)
theorem gj{r:Int}(h:k.wrap (a-b)=r):kO P .sub t (.int k a) (.int k b) (.int k r):=Js (.inr (.inl ⟨rfl,h⟩))
theorem Jt{r:Int}(h:k.wrap (a*b)=r):kO P .mul t (.int k a) (.int k b) (.int k r):=Js (.inr (.inr ⟨rfl,h⟩))
theorem R9:kO P .lss t (.int k a) (.int k b) (.bool (decide (a<b))):=fun y z w=>by simp[eqGuard,binOp,Op.intCmp]
theorem Se:kO P .leq t (.int k a) (.int k b) (.bool (decide (a≤b))):=fun y z w=>by simp[eqGuard,binOp,Op.intCmp]
theorem Si:kO P .gtr t (.int k a) (.int k b) (.bool (decide (a>b))):=fun y z w=>by simp[eqGuard,binOp,Op.intCmp]
theorem Sj:kO P .geq t (.int k a) (.int k b) (.bool (decide (a≥b))):=fun y z w=>by simp[eqGuard,binOp,Op.intCmp]
theorem Sk:kO P .eql t (.int k a) (.int k b) (.bool (a==b)):=fun y z w=>by simp[eqGuard,binOp,Op.intCmp]
theorem Sn:kO P .neq t (.int k a) (.int k b) (.bool (a != b)):=fun y z w=>by simp[eqGuard,binOp,Op.intCmp]
theorem adM{r:Int}(hb:b≠0)(h:k.wrap (a.tdiv b)=r):kO P .quo t (.int k a) (.int k b) (.int k r):=fun y z w=>by simp[eqGuard,binOp,Op.intDiv,hb,h]
theorem Ju(hb:b≠0):kO P .rem t (.int k a) (.int k b) (.int k (a.tmod b)):=fun y z w=>by simp[eqGuard,binOp,Op.intDiv,hb]

theorem Qv{a b:ByteArray}:kO P .eql t (.string a) (.string b) (.bool (a.toList==b.toList)):=fun y z w=>by simp[eqGuard,binOp,Op.stringOp]
theorem Qw{a b:ByteArray}:kO P .neq t (.string a) (.string b) (.bool (!(a.toList==b.toList))):=fun y z w=>by simp[eqGuard,binOp,Op.stringOp]
theorem Jv{a b:ByteArray}(h:a.size+b.size≤9223372036854775807):kO P .add t (.string a) (.string b) (.string (a++b)):=fun y z w=>by
 have:¬(((a.size+b.size:Nat):Int)>IntKind.i64.max):=by
  have:IntKind.i64.max=9223372036854775807:=rfl;omega
 simp only[eqGuard,binOp,Op.stringOp,Sem.run_bind];simp only[this,if_false];simp

theorem EH{a b:Bool}(E:P.underlying t=some .bool):kO P .eql t (.bool a) (.bool b) (.bool (a==b)):=fun y z w=>by
 have:binOp .eql t (.bool a) (.bool b)=(do pure (.bool (←Op.equal t (.bool a) (.bool b)))):=rfl;simp only[eqGuard,this,Sem.run_bind];simp[run_equal_bool w t a b E]
theorem Qx{a b:Bool}(E:P.underlying t=some .bool):kO P .neq t (.bool a) (.bool b) (.bool (!(a==b))):=fun y z w=>by
 have:binOp .neq t (.bool a) (.bool b)=(do pure (.bool (!(←Op.equal t (.bool a) (.bool b))))):=rfl;simp only[eqGuard,this,Sem.run_bind];simp[run_equal_bool w t a b E]

theorem cq.UM{w:World}{L:Nat→Prop}{v:Value}(h:cq w L (.agg (us.map .v)) v):v = .agg us.toArray:=by
 cases h with
 | agg _ vs hl hr =>
  congr 1;congr 1;refine ext_getElem xk fun i h1 h2=>?_;have:=hr i (by simpa using h2) h1;simp only[getElem_map] at this;exact this.kU

section
variable {G:List (Nat×List Value)} {x:St} {o:Oper}

theorem Pe {t':TypeId} {y z:Operand} {MW:List Value} {r:Bool} (ho:o.op = .binOp .neq t y z t') (hy:aG x y = .agg (us.map .v)) (hz:aG x z = .agg (MW.map .v)) (hg:P.eqGuardType P.depth t=false)
  (hE:∀w,(Op.equalIn 10000 t (.agg us.toArray) (.agg MW.toArray)).run P w = .ok r w):bZ P G x o .none (.v (.bool !r)):=fun C a w _ h=>by
 have h1:=h.eval y;have h2:=h.eval z;rw[hy] at h1;rw[hz] at h2;refine⟨_,.v _,fun w' _=>?_⟩;unfold execOp;simp only[ho,h1.UM,h2.UM,Sem.run_bind,run_eqGuard_agg _ _ _ _ _ _ _ hg,Result.andThen_ok,run_neq_struct,hE,Sem.run_pure]

def vc(b:UInt8):D:=.v (.int .u8 (b.toNat:Int))

theorem YR{s e:TypeId}{y:Operand}{bs:List UInt8}{n:Nat}(ho:o.op = .convert s t y)(hy:aG x y = .list 1 (bs.map vc) n)(hs:P.underlying s=some (.slice e))(he:P.underlying e=some (.int .u8))(ht:P.underlying t=some .string) :
  bZ P G x o .j4 (.v (.string ⟨bs.toArray⟩)):=fun C a w _ h=>by
 have hr:=h.eval y;rw[hy] at hr;generalize hg:a.eval y=u at hr;generalize dH:bs.map vc=cs at hr;cases hr with
 | mj _ ad cap =>
  have:bs=[]:=(by simpa using dH)
  subst this;refine⟨_,.v _,fun w' _=>?_⟩;unfold execOp;simp only[ho,hg,Sem.run_bind,run_convert_bytes_string w' s t e ad 0 cap hs he ht];cases ad<;>simp[Conv.bytesToString,loadCells,loadCellsFrom]<;>rfl
 | list _ _ _ b I cap g hl q1 q2 hb hL hc O =>
  subst dH;simp only[length_map,Nat.mul_one] at hl hc;refine⟨_,.v _,fun w' hw=>?_⟩;unfold execOp;have E:=run_convert_bytes_back (P:=P) w' s t e ⟨b,I,none⟩ cap bs hs he ht (fun j hj=>by
   rw[Addr.add_mid];have U:=World.cell?_of_block (w:=w) (a:=⟨b,I+j,none⟩) (hw b hb hL);rw[U,hc j hj];have:=O j (by simpa using hj);simp only[getElem_map,vc] at this;rw[this.kU])
  rw[hl] at E;simp only[ho,hg,Sem.run_bind,E,Result.andThen_ok,Sem.run_pure]
end

theorem aft{b:Bool}:∀w,(Op.unary .not (.bool b)).run P w = .ok (.bool !b) w:=fun w=>rfl
theorem J7{r:Int}(h:k.wrap (0-a)=r):∀w,(Op.unary .neg (.int k a)).run P w = .ok (.int k r) w:=fun w=>by
 subst h;rfl

theorem oN{s:TypeId}{k':IntKind}{r:Int}{d:TypeDesc}(hs:∀w,(underlying s).run P w = .ok d w)(ht:∀w,(underlying t).run P w = .ok (.int k') w)(h:k'.wrap a=r):∀w,(convert s t (.int k a)).run P w = .ok (.int k' r) w:=fun w=>by
 subst h;simp[convert,hs,ht,Conv.intToInt]

theorem wrap_i64{x:Int}(h1:-9223372036854775808≤x)(h2:x≤9223372036854775807):IntKind.i64.wrap x=x:=IntWalk.i64_in _ w4

theorem afu{ts:Array TypeId}{E:TypeId}:∀cs w,(builtin .min ts E cs #[.int k a,.int k b]).run P w = .ok (.value (.int k (if b<a then b else a))) w:=fun cs w=>by
 simp[builtin,Builtin.min_,Builtin.min2]
theorem nx:(∀{p:Prop} [Decidable p],(decide p=true)=p)∧(∀{p:Prop} [Decidable p],(decide p=false)↔¬p)∧(∀{a b:Int},(a==b)=true↔a=b)∧(∀{a b:Int},(a != b)=true↔a≠b)∧(∀{a b:Bool},(a==b)=true↔a=b)∧(∀{a b:Bool},(a != b)=true↔a≠b)
  ∧ (∀{b:Bool},((!b)=true)=(b=false))∧(∀{b:Bool},((!b)=false)=(b=true))∧(∀{b:Bool},(¬b=true)=(b=false))∧(∀{b:Bool},(¬b=false)=(b=true))∧(∀{a b:Int},(a==b)=false↔¬a=b)∧(∀{a b:Int},(a != b)=false↔a=b)∧(∀{a b:Bool},(a==b)=false↔¬a=b)∧(∀{a b:Bool},(a != b)=false↔a=b)
  ∧ (∀{a b:Bool},((a&&b)=true)=(a=true∧b=true))∧(∀{a b:Bool},((a||b)=true)=(a=true∨b=true))∧(∀{b:Bool},(!!b)=b)∧(∀{a b:Bool},(a&&b)=false↔a=false∨b=false)∧(∀{a b:Bool},(a||b)=false↔a=false∧b=false)∧(∀{a b:Int},(¬a<b)↔b≤a)∧(∀{a b:Int},(¬a≤b)↔b<a):=by
 refine⟨fun {p} _=>by simp,fun {p} _=>by simp,by simp,by simp,by simp,by simp,by simp,by simp,by simp,by simp,by simp,by simp,by simp,by simp,by simp,by simp,by simp,by simp,by simp,by simp,by simp⟩
end Go.Proofs.YtdgichenhdikgaaGreatDoor.V
