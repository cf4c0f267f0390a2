/-
  What the proof of SelectTrue leans on, part 1 of 9: walks of the program's functions at the level of values, and plain facts of what they compute.
-/
import Derived.WalkKit
import Derived.Deep.MidRow
import Derived.Deep.AppendLies
import Derived.OrdersHeld
import Derived.IntWalk
import Derived.Laws.Cover3
import Derived.ChangeKeysEq
import Derived.ProofKit
import Derived.OpenShut
import Derived.Lib.LaidTab
import Derived.Below
import Derived.Deep.Slices
import Derived.ArgAppend
import Derived.Lib.AppendStr
import Derived.MapKept
import Derived.RangeFuncLeaves
import Derived.RangeFuncOwn
import Derived.OrdersIn
import Derived.TacticsIn
import Derived.Shelf.Abstract
import Derived.RecoverIn
import Derived.WalkLawsBesides
import Derived.Lib.AppendZeros
import Derived.Laws.IdiomCopy
import Derived.Lib.Overlaps
import Derived.Lib.AppendZerosOnto
import Derived.Lib.BytesEntry
import Derived.Shelf.Strings.Builder1
import Derived.Shelf.Strings.Builder2
import Derived.Shelf.Small.Strs
import Derived.Shelf.Small.Wraps
import Derived.Shelf.Strings.BuilderF
import Derived.Shelf.Strings.BuilderK
import Derived.Shelf.Utf8.RuneCount
import Derived.Shelf.Strings.Builder2Cap
import Derived.Shelf.Strings.Search1
import Derived.Shelf.Strings.Search2
import Derived.Shelf.Strings.Search3
import Derived.Shelf.Strings.Count
import Derived.Shelf.LaysM
import Derived.Shelf.Strings.Shaped
import Derived.Shelf.Strings.Split
import Derived.Shelf.Strings.Replace
import Derived.Shelf.Strings.SplitShaped
import Derived.Shelf.Unicode.Decode
import Derived.Shelf.Strings.RuneCount
import Derived.Shelf.Unicode.DecodeSlow
import Derived.Shelf.Unicode.DecodeAny
import Derived.Shelf.Strings.BuilderCap
import Derived.Shelf.Slices.Turned
import Derived.Shelf.Slices.Reverse
import Derived.Ground.Names2Prog
import Derived.Shelf.Slices.Clone
import Derived.Shelf.Slices.SearchI
import Derived.Shelf.Slices.Delete
import Derived.Shelf.Slices.Cells
import Derived.Shelf.Slices.Empties
import Derived.Shelf.Bytes.SlSearch0
import Derived.Shelf.Bytes.SlEqualAll
import Derived.Shelf.Bytes.Small
import Derived.SizedLaws
import Derived.Lib.Bytealg
import Derived.Test.YtdgichenhdikgaaGreatDoorRows
import Derived.Test.YtdgichenhdikgaaGreatDoorProg
set_option linter.unusedVariables false
set_option linter.unusedSimpArgs false
set_option maxRecDepth 100000
set_option maxHeartbeats 4000000
namespace Go.Proofs.YtdgichenhdikgaaGreatDoor
open List
variable {p:Prop}
theorem w4(h:p:=by omega):p:=h
theorem w5(h:p:=by first|assumption|omega):p:=h
theorem w6(h:p:=by (repeat (first|exact fu|(apply fT;focus (first|rfl|(simp;done)|(congr 2;omega)|(apply eG;rw[←Pp aa];unfold pi;first|(rw[FG (by assumption)];simp;done)|(rw[FH (by assumption),take_of_length_le (l:=lE (uN l[i])) (by rw[wI];omega)];simp;done)|(rw[FI (by assumption),←A7];simp;done)|(rw[U3 (by assumption) (by assumption) (by assumption)];done))|(apply eG;rfl)|(apply eG;simp;done)))|(apply fC;focus rfl)));done):p:=h
theorem w7(h:p:=by (repeat (first|exact fu|(apply fT;focus (first|rfl|(rw[uw];done)|(simp;done)))|(apply fC;focus rfl)));done):p:=h
theorem w8(h:p:=by decide):p:=h
theorem w9(h:p:=by simp only[length_append,length_map,length_cons,length_nil];omega):p:=h
theorem vE(h:p:=by have c8:=dR;have q1:=EY Mr i;(try have q2:=Mr _ (getElem_mem aa));(try simp only[length_append,length_cons,length_nil]);omega):p:=h
theorem p9(h:p:=by simp only[maxLen,length_append,length_map,length_cons,length_nil];omega):p:=h
theorem mY(h:p:=by simp only[maxLen,length_cons,length_nil] at *;omega):p:=h
theorem mZ(h:p:=by simp only[length_cons,length_nil] at *;omega):p:=h
theorem GG(h:p:=by rw[←Pp aa];unfold pi;first|(rw[FG (by assumption)];simp;done)|(rw[FH (by assumption),take_of_length_le (l:=lE (uN l[i])) (by rw[wI];omega)];simp;done)|(rw[FI (by assumption),←A7];simp;done)|(rw[U3 (by assumption) (by assumption) (by assumption)];done)):p:=h
theorem vF(h:p:=by show _=p.kids.drop (if p.leaf=true then 2 else 3);rw[fI];rfl):p:=h
theorem vG(h:p:=by show _=p.keys.drop (if p.leaf=true then 2 else 3);rw[fI];rfl):p:=h
theorem bn(h:p:=by simp):p:=h
theorem jn(h:p:=by first|rfl|assumption):p:=h
theorem zX(h:p:=by have c8:=dR;(try simp only[length_append,length_cons,length_nil,length_take,wI]);omega):p:=h
theorem GH(h:p:=by (repeat (first|exact fu|(apply fT;focus (first|rfl|(simp;done)|(congr 2;omega)|(apply eG;rfl)|(apply eG;simp;done)))|(apply fC;focus rfl)));done):p:=h
theorem zY(h:p:=by simp only[flatten_cons,flatten_nil,length_append,length_cons,length_nil];omega):p:=h
theorem zZ(h:p:=by have c8:=dR;(try simp only[length_append,length_cons,length_nil]);omega):p:=h
theorem nc(h:p:=by first|rfl|simp[St.put]):p:=h
theorem jS(h:p:=by first|rfl|simp):p:=h
theorem oO(h:p:=by rw[length_take];omega):p:=h
theorem ij(h:p:=by simp;omega):p:=h
theorem sW(h:p:=by rw[pV,jg,append_assoc];rfl):p:=h
theorem Ms(h:p:=by have:=Ey s.names s.names.length;(try rw[sX]);simp only[length_append,length_map,length_cons,length_nil];omega):p:=h
theorem pu(h:p:=by rw[append_nil]):p:=h
theorem GI(h:p:=by simp only[maxLen,length_append,length_cons,length_nil] at *;omega):p:=h
theorem sY(h:p:=by rw[y2,pV,jg];simp):p:=h
theorem nf(h:p:=by simpa using h):p:=h
theorem CE(h:p:=by first|rfl|(show(1:Int)+_=1+_;omega)|omega):p:=h
theorem vH(h:p:=by rw[length_append];omega):p:=h
theorem CF(h:p:=by rw[length_append,length_singleton];omega):p:=h
theorem qN(h:p:=by rw[ua];omega):p:=h
theorem GJ(h:p:=by show _=p.kids.take (if p.leaf=true then 2 else 3);rw[fI];rfl):p:=h
theorem GK(h:p:=by show 0+_*1+1≤_;rw[cn ez,length_set];omega):p:=h
theorem vI(h:p:=by rw[length_set];omega):p:=h
theorem CG(h:p:=by show(-1:Int)≤9223372036854775807;decide):p:=h
theorem xJ(h:p:=by rw[length_set];exact fZ):p:=h
theorem xK(h:p:=by rw[length_set];exact hj):p:=h
theorem rN(h:p:=by rw[←ho];rfl):p:=h
theorem ux(h:p:=by first|exact yU rfl gb (fun h=>by cases h) runUnderlying151 sizeOf88 w4|exact oB (fun _=>rfl) runUnderlying151 sizeOf88 w4|exact yV (fun h=>by cases h) (fun _=>rfl) runUnderlying151 sizeOf88 w4 w4|exact nP (fun h=>by cases h) (fun _=>rfl) runUnderlying151 sizeOf88 w4 w4):p:=h
theorem uy(h:p:=by first|exact yU rfl ez (fun h=>by cases h) runUnderlying67 sizeOf3 w4|exact oB (fun _=>rfl) runUnderlying67 sizeOf3 w4|exact yV (fun h=>by cases h) (fun _=>rfl) runUnderlying67 sizeOf3 w4 w4|exact nP (fun h=>by cases h) (fun _=>rfl) runUnderlying67 sizeOf3 w4 w4):p:=h
theorem Aa(h:p:=by first|exact yU rfl gb (fun h=>by cases h) runUnderlying67 sizeOf3 w4|exact yU rfl ez (fun h=>by cases h) runUnderlying67 sizeOf3 w4|exact oB (fun _=>rfl) runUnderlying67 sizeOf3 w4|exact nP (fun h=>by cases h) (fun _=>rfl) runUnderlying67 sizeOf3 w4 w4):p:=h
theorem GL(h:p:=by first|exact yU rfl gb (fun h=>by cases h) runUnderlying151 sizeOf88 w4|exact yU rfl ez (fun h=>by cases h) runUnderlying151 sizeOf88 w4|exact oB (fun _=>rfl) runUnderlying151 sizeOf88 w4|exact nP (fun h=>by cases h) (fun _=>rfl) runUnderlying151 sizeOf88 w4 w4):p:=h
theorem GM(h:p:=by first|exact nQ nw (fun h=>by cases h) runUnderlying30 sizeOf43 w4|exact oB (fun h=>by cases h) runUnderlying30 sizeOf43 w4|exact nP (fun _=>rfl) (fun h=>by cases h) runUnderlying30 sizeOf43 w4 w4):p:=h
theorem Mt(h:p:=by first|exact nQ gb (fun h=>by cases h) runUnderlying151 sizeOf88 w4|exact oB (fun h=>by cases h) runUnderlying151 sizeOf88 w4|exact yV (fun _=>rfl) (fun h=>by cases h) runUnderlying151 sizeOf88 w4 w4|exact nP (fun _=>rfl) (fun h=>by cases h) runUnderlying151 sizeOf88 w4 w4):p:=h
theorem Mu(h:p:=by first|exact nQ ez (fun h=>by cases h) runUnderlying67 sizeOf3 w4|exact oB (fun h=>by cases h) runUnderlying67 sizeOf3 w4|exact yV (fun _=>rfl) (fun h=>by cases h) runUnderlying67 sizeOf3 w4 w4|exact nP (fun _=>rfl) (fun h=>by cases h) runUnderlying67 sizeOf3 w4 w4):p:=h
theorem Mw(h:p:=by first|exact nQ jf (fun h=>by cases h) runUnderlying29 sizeOf9 w4|exact nQ lN (fun h=>by cases h) runUnderlying29 sizeOf9 w4|exact oB (fun h=>by cases h) runUnderlying29 sizeOf9 w4|exact nP (fun _=>rfl) (fun h=>by cases h) runUnderlying29 sizeOf9 w4 w4):p:=h
theorem Mx(h:p:=by (repeat (first|exact fu|(apply fT;focus (first|rfl|(simp;done)|(congr 2;omega)|(apply eG;first|exact Ij aa w4 _|exact H6 aa w4 _)|(apply eG;simp[jM])|(apply eG;simp;done)))|(apply fC;focus rfl)));done):p:=h
theorem qO(h:p:=by rw[←Int.ofNat_sub w4];exact wrap_i64 w4 w4):p:=h
theorem Ab(h:p:=by rw[←Int.natCast_add];exact wrap_i64 w4 w4):p:=h
theorem My(h:p:=by rw[←show(p.kids.drop 3)=(cl p).kids from vF];simp only[length_take,length_drop];omega):p:=h
theorem Mz(h:p:=by rw[←show(p.kids.drop 2)=(cl p).kids from vF];simp only[length_take,length_drop];omega):p:=h
theorem MA(h:p:=by rw[←show(p.keys.drop 3)=(cl p).keys from vG];simp only[length_take,length_drop];omega):p:=h
theorem MB(h:p:=by rw[←show(p.keys.drop 2)=(cl p).keys from vG];simp only[length_take,length_drop];omega):p:=h
theorem MC(h:p:=by rw[show(((a+(t+1):Nat):Int)-1)=((a+t:Nat):Int) by omega];exact wrap_i64 w4 w4):p:=h
theorem vJ(h:p:=by rw[←xL];exact fZ):p:=h
theorem MD(h:p:=by rw[show((j:Int)-1)=((j-1:Nat):Int) by omega];exact wrap_i64 w4 w4):p:=h
theorem xM(h:p:=by rw[g.ay];exact SB):p:=h
theorem ME(h:p:=by exact iT (k:=2) (i:=(eH H l[i])) gb rfl rfl rfl isAgg98 gE rfl):p:=h
theorem MF(h:p:=by exact iT (k:=1) (i:=(eH H l[i])) gb rfl rfl rfl isAgg98 gE rfl):p:=h
theorem MG(h:p:=by exact iT (k:=0) (i:=(eH H l[i])) gb rfl rfl rfl isAgg98 gE rfl):p:=h
theorem GN(h:p:=by show 0+_*1+1≤_;rw[cn ez];omega):p:=h
theorem uz(h:p:=by simp at aP;omega):p:=h
theorem MH(h:p:=by unfold gp;rw[if_neg cA,if_neg dW,if_neg fh,if_pos gA,sZ]):p:=h
theorem vK(h:p:=by simp[maxLen];omega):p:=h
theorem MI(h:p:=by rw[ei];exact mem_flatMap.2 ⟨_,getElem_mem d1,hx⟩):p:=h
theorem uA(h:p:=by rw[vp];simp):p:=h
theorem MJ(h:p:=by first|exact fun _ hq=>hq|exact fun _ hq=>by cases hq.1):p:=h
theorem xN(h:p:=by rw[g.ay];decide):p:=h
theorem s5(h:p:=by rw[y1];rfl):p:=h
theorem Ac(h:p:=by first|omega|decide):p:=h
theorem vL(h:p:=by simpa using aZ):p:=h
theorem GO(h:p:=by rw[length_append];simp;omega):p:=h
theorem Ad(h:p:=by simpa[au] using dU):p:=h
theorem Ae(h:p:=by show 1≤10;decide):p:=h
theorem Af(h:p:=by simpa[au] using hj):p:=h
theorem Ag(h:p:=by rw[Bj];decide):p:=h
theorem xO(h:p:=by rw[iQ];decide):p:=h
theorem MK(h:p:=by show _≤1000;exact Nat.le_of_ble_eq_true rfl):p:=h
theorem xP(h:p:=by simpa using aP):p:=h
theorem xQ(h:p:=by rw[h4];decide):p:=h
theorem GP(h:p:=by rw[length_set];exact CH):p:=h
theorem Ah(h:p:=by exact fun _=>rfl):p:=h
theorem ML(h:p:=by show w.heap.size<(w.heap.push _).size;simp):p:=h
theorem xR(h:p:=by simpa using hl):p:=h
theorem MM(h:p:=by show(w.heap.push _)[w.heap.size]?=_;simp):p:=h
theorem MN(h:p:=by rw[cn u7,length_take];omega):p:=h
theorem uB(h:p:=by assumption):p:=h
theorem GQ(h:p:=by rw[length_map];omega):p:=h
theorem GR(h:p:=by simp only[maxLen];omega):p:=h
theorem GS(h:p:=by show i<cs.length;omega):p:=h
theorem z4(h:p:=by
  refine AD.one (i:=9) az ?_;refine at_ rfl (cR (mk:=Op.load 9) rfl ot (by exact qB (g:=cS) (ls:=dZ) (i:=tj) (d:=bj tn) jf isAgg9 rO (by show some (D.v (.string (dZ[tj]'rO)))=some (D.v (.string tn));rw[VB]))) ?_;refine cy 10 rfl (nO (pl:=[(0,_),(1,_),(9,_)]) (ds:=[_,_,_,_,_,_,_,_,_,_,_,_]) rfl zeroValue32 runUnderlying32 OH ⟨rfl,ot,rfl,ot,rfl,bV,trivial⟩ rfl rfl) ?_;refine AD.one (i:=12) az ?_;refine dG 0 [_,_,_,_,_,_,_,_,_,_,_,_] sizeOf32 ?_;refine W5 [(1,_),(2,_),(3,_)] [⟨b3,32,12,[_,_,_,_,_,_,_,_,_,_,_,_]⟩,⟨b2,32,12,[_,_,_,_,_,_,_,_,_,_,_,_]⟩,⟨b1,77,14,[_,_,_,_,_,_,_,_,_,_,_,_,_,_]⟩] ?_;refine AD.done az ?_;exact⟨rfl,_,trivial,Wk.refl _⟩):p:=h
theorem z5(h:p:=by
  refine CD.perm (dV (A:=[_,_,_,_,_,_,_,_])) ?_;refine gJ 6 (au (take 1 _)) ?_ (fun _ h=>(Sublist.map _ (take_sublist _ _)).subset h);refine aC 0 rfl bF ?_;refine aC 1 rfl bF ?_;first|refine aC 2 rfl (D0 (n:=st.length) (k:=(take (st.length-(bw ops[i].k).toNat) st).length) (cs:=st.flatMap cV) rfl ot rfl ⟨_,_,ot,by rw[length_take];omega⟩ runUnderlying28 sizeOf41 oO oc) ?_|refine aC 2 rfl (D0 (n:=st.length) (k:=(take (st.length-(bw ops[i].k).toNat) st).length) (cs:=st.flatMap cV) rfl ot rfl ⟨_,_,ot,by rw[length_take];omega⟩ runUnderlying28 sizeOf41 oO (bM (e:=41) (g:=cV) (ls:=st) xj wP)) ?_
  refine aC 3 rfl (cR (mk:=Op.load 41) rfl ot (by first|exact qy (k:=0) (ds:=[_,_,_]) rfl rfl isAgg41 sizeOf41 rfl rfl|exact jZ nw isAgg41 sizeOf41 w5|exact jZ ff isAgg41 sizeOf41 w5|exact dA (k:=0) nw rfl rfl rfl isAgg41 sizeOf41 w5|exact dA (k:=1) nw rfl rfl rfl isAgg41 sizeOf41 w5|exact dA (k:=2) nw rfl rfl rfl isAgg41 sizeOf41 w5|exact dA (k:=3) nw rfl rfl rfl isAgg41 sizeOf41 w5|exact dA (k:=4) nw rfl rfl rfl isAgg41 sizeOf41 w5|exact dA (k:=5) nw rfl rfl rfl isAgg41 sizeOf41 w5|exact dA (k:=6) nw rfl rfl rfl isAgg41 sizeOf41 w5|exact dA (k:=7) nw rfl rfl rfl isAgg41 sizeOf41 w5|exact dA (k:=0) ff rfl rfl rfl isAgg41 sizeOf41 w5|exact dA (k:=1) ff rfl rfl rfl isAgg41 sizeOf41 w5|exact dA (k:=2) ff rfl rfl rfl isAgg41 sizeOf41 w5|exact dA (k:=3) ff rfl rfl rfl isAgg41 sizeOf41 w5|exact dA (k:=4) ff rfl rfl rfl isAgg41 sizeOf41 w5|exact dA (k:=5) ff rfl rfl rfl isAgg41 sizeOf41 w5|exact dA (k:=6) ff rfl rfl rfl isAgg41 sizeOf41 w5|exact dA (k:=7) ff rfl rfl rfl isAgg41 sizeOf41 w5|exact qE (ds:=[_,_,_]) isAgg41 sizeOf41 rfl rfl)) ?_;refine dH.later rfl ?_;refine AD.one (i:=4) az ?_;refine j3 (cf 0 [_]) [.int .i64 0,.int .i64 0,.string ⟨#[]⟩] [_,_,_] zeroValue41 runUnderlying28 sizeOf41 (fun Ai=>?_);refine j4 0 58 3 1 ?_;refine AD.one (i:=5) az ?_
  refine bz.ey (ls:=(take (st.length-(bw ops[i].k).toNat) (st))) (new:=[(cD l row ops[i] (dS aV ops[i].k st) (dM aV ops[i].k st)).1]) (Sq:=B0) ff Fl rfl ap rfl rfl underlying28 ZX rfl w8 ot BG (cZ (A:=[_,_,_,_,_,_,_,_])) ot bn vK ij (fun s6 sG B3 B4=>?_);refine AD.perm (dV (S1:=[⟨s6,41,sG*3,flatMap cV ((take (st.length-(bw ops[i].k).toNat) (st))++[(cD l row ops[i] (dS aV ops[i].k st) (dM aV ops[i].k st)).1])⟩]) (A:=[_,_,_,_,_,_,_,_])) ?_;refine e9 ?_;refine bq [1,4,6,7,16,17,18] ?_;refine cc [1,4,6,7,16,17,18] ?_;refine⟨((i+1),(st.take (st.length-(bw ops[i].k).toNat)++[(cD l row ops[i] (dS aV ops[i].k st) (dM aV ops[i].k st)).1]),(some ⟨s6,0,none⟩),sG,[⟨s6,41,sG*3,flatMap cV ((take (st.length-(bw ops[i].k).toNat) (st))++[(cD l row ops[i] (dS aV ops[i].k st) (dM aV ops[i].k st)).1])⟩]),_,cq,(aK (h:=by repeat (first|exact trivial|refine⟨GH,?_⟩))),w4,(by rw[s7];omega),oe,(hinv.trans (SC aa hz)),aiW,(bp.cast (bM B3 B4) (by rfl)),rfl⟩):p:=h
theorem z6(h:p:=by
  refine cL [0,4,5,6,73,74] ?_;refine aS 2 ?_ (h:=by exact(D4 (pl:=[(0,_),(1,_)]) (ds:=[_,_,_,_,_,_]) rfl zeroValue173 runUnderlying173 sizeOf41 ⟨rfl,ot,rfl,ot,trivial⟩ rfl rfl));refine bI ?_;refine eA [0,4,5,6,73] (fun aX _ (i:Nat) aG=>(i≤2)∧(∀j,j<i→¬((iL a b j).k≠2∧(iL a b j).k≠0))∧aG=(⟨106,(74,ae (i:Nat))::aX,[⟨b6,41,3,[ae 0,ae 0,fk]⟩,⟨b5,41,3,[ae b.k,ae b.n,bj b.s]⟩,⟨b4,41,3,[ae a.k,ae a.n,bj a.s]⟩]⟩:St)) (fun (i:Nat)=>2-i) 0 ⟨(Nat.zero_le _),(fun j hj=>absurd hj (Nat.not_lt_zero _)),rfl⟩ ?_;rintro i _ ⟨hi,eY,rfl⟩;have MO:k=8∨k=9∨k=10:=(by omega)
  refine af [0,4,5,6,73,74,75] ?_;refine aq ?_ ?_<;>intro F8 BH
  ·have aa:i<2:=(by omega)
   refine bU ?_;refine bN (HT (j:=i) rfl ot ot runUnderlying173 sizeOf41 isAgg41 rfl aa (Il a b aa)) ?_;refine OD.alloc (ds:=[_,_,_]) ap rfl rfl zeroValue41 rfl (fun lf=>?_);refine aR 0 [_,_,_] sizeOf41 ?_;refine an 106 [0,4,5,6,11,73,74] ?_;refine aB 4 ?_;refine bP 80 (fun Lh FJ=>?_) (fun Lh FJ=>?_)
   ·refine bq [0,4,5,6,73,74,84] ?_;refine aq ?_ ?_<;>intro vq FK
    ·have aW:fi k a b=(aV,4):=aej ng MO aa (by simp_all) (by simp_all);refine aB 1 ?_;refine aR 1 [_,_,_] sizeOf41 ?_;refine an 106 [6,7] ?_;refine aI [] ?_;rw[aW];first|exact⟨rfl,rfl⟩|(refine⟨?_,rfl⟩;clear aW eT xS nh j5 oP nG;generalize (dX a b==0)=z1 at *;generalize (decide (dX a b<0))=z2 at *;subst_vars;simp_all;done)
    have iB:¬((iL a b i).k≠2∧(iL a b i).k≠0):=(by simp_all)
    refine cc [0,4,5,6,73,74] ?_;refine⟨(i+1),_,cq,aK,w4,(Ez (p:=fun v=>¬(v.k≠2∧v.k≠0)) eY iB),rfl⟩
   refine bq [0,4,5,6,73,74,84] ?_;refine fJ ?_;have iB:¬((iL a b i).k≠2∧(iL a b i).k≠0):=(by simp_all)
   refine cc [0,4,5,6,73,74] ?_;refine⟨(i+1),_,cq,aK,w4,(Ez (p:=fun v=>¬(v.k≠2∧v.k≠0)) eY iB),rfl⟩
  have CJ:=Jv (p:=fun v=>¬(v.k≠2∧v.k≠0)) eY w4;have MP:=Pq ng MO (fun h=>h.elim CJ.1 CJ.2);refine cz [0,4,5,6,89] (nG) ?_;refine aq ?_ ?_<;>intro F9 ahk
  ·have aW:fi k a b=(aV,0):=(by rw[MP,if_pos F9])
   refine aB 1 ?_;refine aR 0 [_,_,_] sizeOf41 ?_;refine an 106 [6,7] ?_;refine aI [] ?_;rw[aW];first|exact⟨rfl,rfl⟩|(refine⟨?_,rfl⟩;clear aW eT xS nh j5 oP nG;generalize (dX a b==0)=z1 at *;generalize (decide (dX a b<0))=z2 at *;subst_vars;simp_all;done)
  refine cz [6,12,13] (xS) ?_;refine af [6,12,101] ?_;refine aq ?_ ?_<;>intro Li ahl
  ·have aW:fi k a b=(aV,5):=(by rw[MP,if_neg (by rw[F9];simp),if_neg (by simpa using Li)])
   refine aB 1 ?_;refine aR 0 [_,_,_] sizeOf41 ?_;refine an 106 [6,7] ?_;refine aI [] ?_;rw[aW];first|exact⟨rfl,rfl⟩|(refine⟨?_,rfl⟩;clear aW eT xS nh j5 oP nG;generalize (dX a b==0)=z1 at *;generalize (decide (dX a b<0))=z2 at *;subst_vars;simp_all;done)
  have aW:fi k a b=(⟨2,(pN k a.n b.n).1,⟨#[]⟩⟩,0):=(by rw[MP,if_neg (by rw[F9];simp),if_pos (by simpa using Li)])
  refine aB 2 ?_;refine aR 0 [_,_,_] sizeOf41 ?_;refine an 106 [6,7] ?_;refine aI [] ?_;rw[aW];first|exact⟨rfl,rfl⟩|(refine⟨?_,rfl⟩;clear aW eT xS nh j5 oP nG;generalize (dX a b==0)=z1 at *;generalize (decide (dX a b<0))=z2 at *;subst_vars;simp_all;done)):p:=h
theorem z7(h:p:=by
  refine aR 0 [_,_,_] sizeOf41 ?_;refine an 106 [6,7] ?_;refine aI [] ?_;rw[aW];first|exact⟨rfl,rfl⟩|(refine⟨?_,rfl⟩;clear aW eT xS nh j5 oP nG;generalize (dX a b==0)=z1 at *;generalize (decide (dX a b<0))=z2 at *;subst_vars;simp_all;done)):p:=h
theorem z8(h:p:=by
  refine AD.one (i:=17) az ?_;refine bz.call rfl ap rfl rfl rfl call131 (OU p.kids (aL (t.pg (aH t k h t.root)) k) ci bi qa fm GU w4) ⟨ot,ot,ot,trivial⟩ (mo (k:=5) rfl) iD ?_;rintro _ _ ⟨rfl,rfl⟩;refine AD.perm (perm_middle (l₁:=[_,_,_,_,_])).symm ?_;refine cy 18 rfl qb ?_;refine cy 19 rfl (dF 1) ?_;refine AD.one (i:=20) az ?_;refine bz.storeAt (k:=3) (cs':=flatMap gO (L.set (aH t k h t.root).toNat (⟨{p with keys:=(p.keys.eraseIdx (aL (t.pg (aH t k h t.root)) k))},some ⟨bk,0,none⟩,ck,[⟨bk,88,ck*1,flatMap cK (p.keys.eraseIdx (aL (t.pg (aH t k h t.root)) k))⟩],some ⟨bi,0,none⟩,ci,[⟨bi,3,ci*1,flatMap cI p.kids⟩]⟩:aY))) rfl ap rfl rfl ot rfl rfl ot rfl rfl sizeOf151 rfl (by show 0+(aH t k h t.root).toNat*5+1+1≤(flatMap gO L).length;rw[cn gN];omega) (by show(L.flatMap gO).set (0+(aH t k h t.root).toNat*5+1) _=_;rw[Nat.zero_add];exact v8 gN w8 hj (by rw[←ho];show gO (⟨{p with keys:=(p.keys.eraseIdx (aL (t.pg (aH t k h t.root)) k))},some ⟨bk,0,none⟩,ck,[⟨bk,88,ck*1,flatMap cK (p.keys.eraseIdx (aL (t.pg (aH t k h t.root)) k))⟩],some ⟨bi,0,none⟩,ci,[⟨bi,3,ci*1,flatMap cI p.kids⟩]⟩:aY)=(gO (⟨p,some ⟨bk,0,none⟩,ck,[⟨bk,88,ck*1,flatMap cK p.keys⟩],some ⟨bi,0,none⟩,ci,[⟨bi,3,ci*1,flatMap cI p.kids⟩]⟩:aY)).set 1 _;unfold gO;rw[length_eraseIdx_of_lt ha];rfl)) iD ?_;refine e9 ?_;refine aF 2 ?_
  refine OD.storeAt (k:=3) (cs':=flatMap gO (L.set (aH t k h t.root).toNat (⟨(kH p (aL (t.pg (aH t k h t.root)) k)),some ⟨bk,0,none⟩,ck,[⟨bk,88,ck*1,flatMap cK (p.keys.eraseIdx (aL (t.pg (aH t k h t.root)) k))⟩],some ⟨bi,0,none⟩,ci,[⟨bi,3,ci*1,flatMap cI (p.kids.eraseIdx (aL (t.pg (aH t k h t.root)) k))⟩]⟩:aY))) ap rfl rfl ot rfl rfl ot rfl rfl sizeOf67 rfl (by show 0+(aH t k h t.root).toNat*5+2+1≤(flatMap gO (L.set (aH t k h t.root).toNat (⟨{p with keys:=(p.keys.eraseIdx (aL (t.pg (aH t k h t.root)) k))},some ⟨bk,0,none⟩,ck,[⟨bk,88,ck*1,flatMap cK (p.keys.eraseIdx (aL (t.pg (aH t k h t.root)) k))⟩],some ⟨bi,0,none⟩,ci,[⟨bi,3,ci*1,flatMap cI p.kids⟩]⟩:aY))).length;rw[cn gN,length_set];omega) (by show(flatMap gO (L.set (aH t k h t.root).toNat (⟨{p with keys:=(p.keys.eraseIdx (aL (t.pg (aH t k h t.root)) k))},some ⟨bk,0,none⟩,ck,[⟨bk,88,ck*1,flatMap cK (p.keys.eraseIdx (aL (t.pg (aH t k h t.root)) k))⟩],some ⟨bi,0,none⟩,ci,[⟨bi,3,ci*1,flatMap cI p.kids⟩]⟩:aY))).set (0+(aH t k h t.root).toNat*5+2) _=_;rw[Nat.zero_add,v8 gN (a':=(⟨(kH p (aL (t.pg (aH t k h t.root)) k)),some ⟨bk,0,none⟩,ck,[⟨bk,88,ck*1,flatMap cK (p.keys.eraseIdx (aL (t.pg (aH t k h t.root)) k))⟩],some ⟨bi,0,none⟩,ci,[⟨bi,3,ci*1,flatMap cI (p.kids.eraseIdx (aL (t.pg (aH t k h t.root)) k))⟩]⟩:aY)) w8 xK (by rw[getElem_set_self];show gO (⟨(kH p (aL (t.pg (aH t k h t.root)) k)),some ⟨bk,0,none⟩,ck,[⟨bk,88,ck*1,flatMap cK (p.keys.eraseIdx (aL (t.pg (aH t k h t.root)) k))⟩],some ⟨bi,0,none⟩,ci,[⟨bi,3,ci*1,flatMap cI (p.kids.eraseIdx (aL (t.pg (aH t k h t.root)) k))⟩]⟩:aY)=(gO (⟨{p with keys:=(p.keys.eraseIdx (aL (t.pg (aH t k h t.root)) k))},some ⟨bk,0,none⟩,ck,[⟨bk,88,ck*1,flatMap cK (p.keys.eraseIdx (aL (t.pg (aH t k h t.root)) k))⟩],some ⟨bi,0,none⟩,ci,[⟨bi,3,ci*1,flatMap cI p.kids⟩]⟩:aY)).set 2 _;unfold gO kH;simp only[];rw[length_eraseIdx_of_lt qa];rfl),set_set]) ?_
  have vM:(⟨bk,88,ck*1,flatMap cK (p.keys.eraseIdx (aL (t.pg (aH t k h t.root)) k))⟩::⟨bi,3,ci*1,flatMap cI (p.kids.eraseIdx (aL (t.pg (aH t k h t.root)) k))⟩::((L.eraseIdx (aH t k h t.root).toNat).flatMap bO)).Perm ((L.set (aH t k h t.root).toNat (⟨(kH p (aL (t.pg (aH t k h t.root)) k)),some ⟨bk,0,none⟩,ck,[⟨bk,88,ck*1,flatMap cK (p.keys.eraseIdx (aL (t.pg (aH t k h t.root)) k))⟩],some ⟨bi,0,none⟩,ci,[⟨bi,3,ci*1,flatMap cI (p.kids.eraseIdx (aL (t.pg (aH t k h t.root)) k))⟩]⟩:aY)).flatMap bO):=(yK bO hj (⟨(kH p (aL (t.pg (aH t k h t.root)) k)),some ⟨bk,0,none⟩,ck,[⟨bk,88,ck*1,flatMap cK (p.keys.eraseIdx (aL (t.pg (aH t k h t.root)) k))⟩],some ⟨bi,0,none⟩,ci,[⟨bi,3,ci*1,flatMap cI (p.kids.eraseIdx (aL (t.pg (aH t k h t.root)) k))⟩]⟩:aY)).symm;refine OD.perm (Perm.cons _ (Perm.cons _ (Perm.cons _ (Perm.cons _ vM)))) ?_;refine an 58 [4,7] ?_;refine aB 1 ?_;refine aR 1 [_,_] sizeOf51 ?_;refine an 58 [4,5] ?_
  refine aI ([⟨bx,153,cap*5,flatMap gO (L.set (aH t k h t.root).toNat (⟨(kH p (aL (t.pg (aH t k h t.root)) k)),some ⟨bk,0,none⟩,ck,[⟨bk,88,ck*1,flatMap cK (p.keys.eraseIdx (aL (t.pg (aH t k h t.root)) k))⟩],some ⟨bi,0,none⟩,ci,[⟨bi,3,ci*1,flatMap cI (p.kids.eraseIdx (aL (t.pg (aH t k h t.root)) k))⟩]⟩:aY))⟩]++(L.set (aH t k h t.root).toNat (⟨(kH p (aL (t.pg (aH t k h t.root)) k)),some ⟨bk,0,none⟩,ck,[⟨bk,88,ck*1,flatMap cK (p.keys.eraseIdx (aL (t.pg (aH t k h t.root)) k))⟩],some ⟨bi,0,none⟩,ci,[⟨bi,3,ci*1,flatMap cI (p.kids.eraseIdx (aL (t.pg (aH t k h t.root)) k))⟩]⟩:aY)).flatMap bO) ?_;unfold rB;rw[if_pos hz,if_pos iQ];refine⟨_,rfl,L.set (aH t k h t.root).toNat (⟨(kH p (aL (t.pg (aH t k h t.root)) k)),some ⟨bk,0,none⟩,ck,[⟨bk,88,ck*1,flatMap cK (p.keys.eraseIdx (aL (t.pg (aH t k h t.root)) k))⟩],some ⟨bi,0,none⟩,ci,[⟨bi,3,ci*1,flatMap cI (p.kids.eraseIdx (aL (t.pg (aH t k h t.root)) k))⟩]⟩:aY),some ⟨bx,0,none⟩,cap,_,by rw[length_set];rfl,bM xJ xT,fun x hx=>?_,?_,rfl⟩
  ·rcases mem_or_eq_of_mem_set hx with hx|rfl
   ·exact aQ x hx
   exact⟨bM (by show(p.keys.eraseIdx (aL (t.pg (aH t k h t.root)) k)).length≤ck;rw[length_eraseIdx_of_lt ha];omega) xU,bM (by show(p.kids.eraseIdx (aL (t.pg (aH t k h t.root)) k)).length≤ci;rw[length_eraseIdx_of_lt qa];omega) GU⟩
  rw[map_set,hL];show _=t.ag.set (aH t k h t.root).toNat (kH (t.pg (aH t k h t.root)) (aL (t.pg (aH t k h t.root)) k));rw[←gK]):p:=h
theorem z10(h:p:=by
  refine AD.one (i:=12) az ?_;refine dG 0 [_,_,_,_,_,_,_,_,_,_,_,_] sizeOf32 ?_;refine W5 [(1,_),(2,_),(3,_)] [⟨b3,32,12,[_,_,_,_,_,_,_,_,_,_,_,_]⟩,⟨b2,32,12,[_,_,_,_,_,_,_,_,_,_,_,_]⟩,⟨b1,77,14,[_,_,_,_,_,_,_,_,_,_,_,_,_,_]⟩] ?_;refine AD.done az ?_;exact⟨rfl,_,trivial,Wk.refl _⟩):p:=h
theorem MQ(h:p:=by
  refine AD.one (i:=15) az ?_;refine bz.ey (ls:=L) (new:=[(⟨(t.ag[i]'aa),iE,iF,Sy,l5,l6,Sz⟩:aY)]) (Sq:=Sx) gN Fm rfl ap rfl rfl underlying49 ZB rfl w8 ot dN (QD (A:=[_,_,_])) ot bn mY mZ (fun GV Ga aiX aiY=>?_);refine AD.perm (acn (S3:=[⟨GV,153,Ga*5,flatMap gO (L++[(⟨(t.ag[i]'aa),iE,iF,Sy,l5,l6,Sz⟩:aY)])⟩]) (A:=[_,_,_])) ?_;refine AD.perm (S':=⟨b5,153,5,cP (t.ag[i]'aa)⟩::⟨b3,51,2,[aN c9 L.length cM,ae t.root]⟩::⟨b2,51,2,[bH,ae 0]⟩::([⟨GV,153,Ga*5,flatMap gO (L++[(⟨(t.ag[i]'aa),iE,iF,Sy,l5,l6,Sz⟩:aY)])⟩]++(L++[(⟨(t.ag[i]'aa),iE,iF,Sy,l5,l6,Sz⟩:aY)]).flatMap bO)) (jE fun mz=>by rw[SD];simp only[bO,map_append,map_cons,map_nil,sum_append,sum_cons,sum_nil];omega) ?_;refine e9 ?_;refine aF 1 ?_;refine aR 1 [_,_] sizeOf49 ?_;refine an 51 [2,3,13,14,15] ?_;refine cc [2,3,13,14,15] ?_;refine⟨((i+1),(L++[(⟨(t.ag[i]'aa),iE,iF,Sy,l5,l6,Sz⟩:aY)]),(some ⟨GV,0,none⟩),Ga,[⟨GV,153,Ga*5,flatMap gO (L++[(⟨(t.ag[i]'aa),iE,iF,Sy,l5,l6,Sz⟩:aY)])⟩]),_,cq,aK,w4,vN,jN,(bM aiX aiY),rfl⟩):p:=h
theorem z12(h:p:=by
  refine CD.perm (dV (A:=[_,_])) ?_;refine dK 2 ?_;first|refine bN (D0 (n:=st.length) (k:=(take (st.length-(bw ops[i].k).toNat) st).length) (cs:=st.flatMap cI) rfl ot rfl ⟨_,_,ot,by rw[length_take];omega⟩ runUnderlying67 sizeOf3 oO oc) ?_|refine OD.still ap rfl (D0 (n:=st.length) (k:=(take (st.length-(bw ops[i].k).toNat) st).length) (cs:=st.flatMap cI) rfl ot rfl ⟨_,_,ot,by rw[length_take];omega⟩ runUnderlying67 sizeOf3 oO (bM (e:=3) (g:=cI) (ls:=st) xj wP)) ?_
  refine aF 1 ?_;refine en (cf 0 [_]) [.int .i64 0] [_] zeroValue3 runUnderlying67 sizeOf3 (fun Ai=>?_);refine fA 0 58 1 1 ?_;refine OD.ey (ls:=(take (st.length-(bw ops[i].k).toNat) (st))) (new:=[(iW l ops[i] (dS 0 ops[i].k st) (dM 0 ops[i].k st)).1]) (Sq:=B0) ez nR ap rfl rfl underlying67 aaO rfl w8 ot BG (cZ (A:=[_,_])) ot bn vK ij (fun s6 sG B3 B4=>?_);refine OD.perm (dV (S1:=[⟨s6,3,sG*1,flatMap cI ((take (st.length-(bw ops[i].k).toNat) (st))++[(iW l ops[i] (dS 0 ops[i].k st) (dM 0 ops[i].k st)).1])⟩]) (A:=[_,_])) ?_;refine an 64 [1,6,7,16,17,18] ?_;refine cc [1,6,7,16,17,18] ?_;refine⟨((i+1),(st.take (st.length-(bw ops[i].k).toNat)++[(iW l ops[i] (dS 0 ops[i].k st) (dM 0 ops[i].k st)).1]),(some ⟨s6,0,none⟩),sG,[⟨s6,3,sG*1,flatMap cI ((take (st.length-(bw ops[i].k).toNat) (st))++[(iW l ops[i] (dS 0 ops[i].k st) (dM 0 ops[i].k st)).1])⟩]),_,cq,(aK (h:=by repeat (first|exact trivial|refine⟨GH,?_⟩))),w4,(by rw[s7];omega),oe,(hinv.trans (SC aa hz)),(bp.cast (bM B3 B4) (by rfl)),rfl⟩):p:=h
theorem W6(h:p:=by
  refine qc 13 rfl ?_;refine qc 16 rfl ?_;refine AD.two (i:=14) (j:=17) az ?_ ?_
  ·refine bz.skip rfl (mH rfl rfl rfl lk jn) rfl ?_;refine AD.two (i:=15) (j:=17) az ?_ ?_
   ·refine bz.skip rfl (mH rfl rfl rfl lk jn) rfl ?_;refine AD.one (i:=17) az ?_;refine bz.skip rfl (mH rfl rfl rfl lk jn) rfl ?_;refine qc 18 rfl ?_;refine qc 19 rfl ?_;refine cy 20 rfl vr ?_;refine e9 ?_;refine bq [3] ?_;refine af [52] ?_;refine eD ?_;refine af [2] ?_;refine eJ ?_;refine⟨vi ?_,rfl⟩;try simp only[u3] at *
    simp only[uc,oC];try simp_all
    try omega
   refine bz.skip rfl (mH rfl rfl rfl lk jn) rfl ?_;refine qc 18 rfl ?_;refine AD.one (i:=15) az ?_;refine bz.skip rfl (mH rfl rfl rfl lk jn) rfl ?_;refine qc 19 rfl ?_;refine cy 20 rfl vr ?_;refine e9 ?_;refine bq [3] ?_;refine af [52] ?_;refine eD ?_;refine af [2] ?_;refine eJ ?_;refine⟨vi ?_,rfl⟩;try simp only[u3] at *
   simp only[uc,oC];try simp_all
   try omega
  refine bz.skip rfl (mH rfl rfl rfl lk jn) rfl ?_;refine qc 18 rfl ?_;refine AD.one (i:=14) az ?_;refine bz.skip rfl (mH rfl rfl rfl lk jn) rfl ?_;refine AD.one (i:=15) az ?_;refine bz.skip rfl (mH rfl rfl rfl lk jn) rfl ?_;refine qc 19 rfl ?_;refine cy 20 rfl vr ?_;refine e9 ?_;refine bq [3] ?_;refine af [52] ?_;refine eD ?_;refine af [2] ?_;refine eJ ?_;refine⟨vi ?_,rfl⟩;try simp only[u3] at *
  simp only[uc,oC];try simp_all
  try omega):p:=h
theorem vO(h:p:=by
  refine⟨vi ?_,rfl⟩;first|exact hf.symm|(rw[hf,hx,QE aa qJ (by first|assumption|decide)];done)|(rw[hf,eS,if_pos (by simpa using qd)];done)|(rw[hf,eS,if_neg (by simpa using qd)];done)):p:=h
theorem GW(h:p:=by
  refine⟨vb (EA fun hp=>?_),rfl⟩;have g1:=hp.eE;have g2:=hp.hlen;have g3:=hp.xk;have g4:=hp.wQ;have g5:=hp.xm;have g6:=hp.leaf;have g7:=fun h=>(hp.node h).1;have g8:=fun h (e:p.keys.length=0)=>(hp.node h).2 (length_eq_zero_iff.1 e);clear hp;first|omega|(rw[ahm g5] at aP;cases aP;done)|(have:=g6 rC;omega)|(have fI:p.leaf=false:=(by simpa using uo);have:=g7 fI;omega)|(have fI:p.leaf=false:=(by simpa using uo);exact g8 fI w4)):p:=h
theorem GX(h:p:=by
  have rP:¬h<bw l[i].k:=(by simpa using gj)
  have aQ:eX h l[i]=0:=(by unfold eX;rw[if_neg de,if_neg uA,if_neg vf,if_neg j6,if_neg rP])
  refine ik [3,11,12,13] ?_;refine cH (yW l[i].k) ?_;refine bI ?_;refine cc [3,11,12,13] ?_;refine⟨((i+1),(h+(1-bw l[i].k))),_,cq,aK,w4,(by rw[hx];exact QF aa aQ),w4,(by have:=qz l[i].k;omega),rfl⟩):p:=h
theorem W7(h:p:=by
  have MR:((bu[bu.length-1].k==6) || !(((cU (ku key) (bu.take 2))==0)==nt))=true:=(by first|rw[KL,Bool.true_or]|rw[gL,Bool.or_true])
  have CK:(fO key (f+1) ops (lo,hi))=pQ (fP [bu[(cU fU (bu.take 2)).toNat].v]).1 b1:=(by rw[U4];unfold sH;rw[show((bu[bu.length-1].k==6)||((cU (ku key) (bu.take 2))==0)!=nt)=true from MR,←iZ];rfl)
  refine aB 7 ?_;refine bP 141 (fun ahn afW=>?_) (fun ahn afW=>?_)
  ·refine bq [0,11,149] ?_;refine eD ?_;have s8:b1.2.length=0∨compareBytes (fP [bu[(cU fU (bu.take 2)).toNat].v]).1 b1.2<0:=(by first|exact .inl w4|exact .inr (by simpa using gj))
   have s9:(fO key (f+1) ops (lo,hi))=(b1.1,(fP [bu[(cU fU (bu.take 2)).toNat].v]).1):=(by rw[CK];unfold pQ;rw[if_pos s8])
   refine dK 2 ?_;refine dP call95 (IU (fP [bu[(cU fU (bu.take 2)).toNat].v]).1 w4) ?_;refine aF 2 ?_;refine aR 0 [_,_] sizeOf88 ?_;refine an 155 [] ?_;refine aI [⟨b0,_,_,_⟩] ?_;refine⟨rfl,?_⟩;first|rw[s9]|rw[aW]
  refine aF 5 ?_;refine OD.gZ iq rfl rfl rfl call51 (SE (fP [bu[(cU fU (bu.take 2)).toNat].v]).1 b1.2) ⟨ot,ot,trivial⟩ ?_;refine an 155 [0,11,149] ?_;refine aq ?_ ?_<;>intro gj lB
  ·have s8:b1.2.length=0∨compareBytes (fP [bu[(cU fU (bu.take 2)).toNat].v]).1 b1.2<0:=(by first|exact .inl w4|exact .inr (by simpa using gj))
   have s9:(fO key (f+1) ops (lo,hi))=(b1.1,(fP [bu[(cU fU (bu.take 2)).toNat].v]).1):=(by rw[CK];unfold pQ;rw[if_pos s8])
   refine dK 2 ?_;refine dP call95 (IU (fP [bu[(cU fU (bu.take 2)).toNat].v]).1 w4) ?_;refine aF 2 ?_;refine aR 0 [_,_] sizeOf88 ?_;refine an 155 [] ?_;refine aI [⟨b0,_,_,_⟩] ?_;refine⟨rfl,?_⟩;first|rw[s9]|rw[aW]
  have s8:¬(b1.2.length=0∨compareBytes (fP [bu[(cU fU (bu.take 2)).toNat].v]).1 b1.2<0):=(by (have W8:¬compareBytes (fP [bu[(cU fU (bu.take 2)).toNat].v]).1 b1.2<0:=by simpa using gj);omega)
  have s9:(fO key (f+1) ops (lo,hi))=b1:=(by rw[CK];unfold pQ;rw[if_neg s8])
  refine aI [⟨b0,_,_,_⟩] ?_;refine⟨rfl,?_⟩;first|rw[s9]|rw[aW]):p:=h
theorem W9(h:p:=by
  refine aB 1 ?_;refine OD.wk (Wk.dG (n:=19) (l':=[(0,_),(1,_)]) (S':=S) rfl nc fa) ?_;refine OD.nil ?_;refine aB 3 ?_;refine OD.wk (Wk.dG (n:=19) (l':=[(0,_),(1,_),(7,_),(8,_)]) (S':=S) rfl nc fa) ?_;refine OD.nil ?_;refine eA [0,1,7] (fun aX _ (k:Nat) aG=>(k≤ls.length)∧(∀x∈ls.take k,p x=false)∧aG=(⟨19,(8,ae (k:Nat))::aX,S⟩:St)) (fun (k:Nat)=>ls.length-k) 0 ⟨Nat.zero_le _,bn,rfl⟩ ?_;rintro k _ ⟨hk,h0,rfl⟩;refine aB 1 ?_;refine OD.wk (Wk.dG (n:=19) (l':=[(0,_),(1,_),(7,_),(8,_),(9,_)]) (S':=S) rfl nc fa) ?_;refine OD.nil ?_;refine aq ?_ ?_<;>intro aP bC
  ·refine aB 2 ?_;refine OD.wk (Wk.dG (n:=19) (l':=[(0,_),(1,_),(5,_),(7,_),(8,_)]) (S':=S) rfl nc fa) ?_;refine OD.nil ?_;refine aB 5 ?_;refine OD.kx (f:=g) (args:=[_]) ap rfl rfl (tQ rfl lk) fg (hp (ls[k]'w4) (getElem_mem _)) rfl ⟨tQ rfl lk,trivial⟩ (IV _) ?_;rintro _ S2 ⟨rfl,iG⟩;rw[iG];clear iG;refine OD.wk (Wk.dG (n:=19) (l':=[(0,_),(1,_),(5,_),(7,_),(8,_),(16,_)]) (S':=S) rfl nc fa) ?_;refine OD.nil ?_;refine aq ?_ ?_<;>intro aZ cr
   ·refine aB 2 ?_;refine OD.wk (Wk.dG (n:=19) (l':=[(4,_)]) (S':=S) rfl nc fa) ?_;refine OD.nil ?_;refine aI S ?_;refine⟨?_,rfl⟩;first|(rw[wo w4 h0 uB])|(rw[wc w4 h0])
   refine dK 2 ?_;refine OD.wk (Wk.dG (n:=19) (l':=[(0,_),(1,_),(7,_),(8,_)]) (S':=S) rfl nc fa) ?_;refine OD.nil ?_;refine⟨k+1,_,cq,aK,w4,(by rw[take_succ_eq_append_getElem w4];intro x hx;rcases mem_append.1 hx with hx|hx;exact h0 x hx;simp only[mem_singleton] at hx;subst hx;assumption),rfl⟩
  refine aB 1 ?_;refine OD.wk (Wk.dG (n:=19) (l':=[(4,_)]) (S':=S) rfl nc fa) ?_;refine OD.nil ?_;refine aI S ?_;refine⟨?_,rfl⟩;first|(rw[wo w4 h0 uB])|(rw[wc w4 h0])
  ):p:=h
theorem MS(h:p:=by
  refine af [2] ?_;refine eJ ?_;refine⟨vi ?_,rfl⟩;try simp only[u3] at *
  simp only[uc,oC];try simp_all
  try omega):p:=h
theorem z20(h:p:=by
  refine cz [1,3] (QG hm hw s.names (by have:=hf.ok.2.2.1;omega) hf.n) ?_;refine af [1,3,36] ?_;refine aq ?_ ?_<;>intro cN dW
  ·refine af [2] ?_;refine eJ ?_;refine⟨vi ?_,rfl⟩;unfold pc ja;simp_all;all_goals (try (intros;(repeat' split)<;>first|rfl|omega))
  refine cz [1,4] (Ee hm hw s.aj (fun o h=>(hf.w o h).1)) ?_;refine af [1,4,42] ?_;refine aq ?_ ?_<;>intro ec fh
  ·refine af [2] ?_;refine eJ ?_;refine⟨vi ?_,rfl⟩;unfold pc ja;simp_all;all_goals (try (intros;(repeat' split)<;>first|rfl|omega))
  refine af [1,46] ?_;refine aq ?_ ?_<;>intro fj gA
  ·refine cz [2] (tT hm hw s.order hf.o) ?_;refine eJ ?_;refine⟨vi ?_,rfl⟩;unfold pc ja;simp_all;all_goals (try (intros;(repeat' split)<;>first|rfl|omega))
  refine af [2] ?_;refine eJ ?_;refine⟨vi ?_,rfl⟩;unfold pc ja;simp_all;all_goals (try (intros;(repeat' split)<;>first|rfl|omega))):p:=h
theorem z21(h:p:=by
  refine an 76 [11,12] ?_;refine af [12,74] ?_;refine aq ?_ ?_<;>intro vq FK
  ·refine af [8,9] ?_;refine aI [] ?_;refine⟨?_,rfl⟩;unfold iW okF xn;simp_all
  refine af [8,9] ?_;refine aI [] ?_;refine⟨?_,rfl⟩;unfold iW okF xn;simp_all):p:=h
theorem z22(h:p:=by
  refine af [8,9] ?_;refine aI [] ?_;refine⟨?_,rfl⟩;unfold iW okF xn;simp_all):p:=h
theorem MT(h:p:=by
  refine⟨vi ?_,rfl⟩;try simp only[u3] at *
  simp only[uc,oC];try simp_all
  try omega):p:=h
theorem z24(h:p:=by
  refine eJ ?_;refine⟨vi ?_,rfl⟩;unfold pc ja;simp_all;all_goals (try (intros;(repeat' split)<;>first|rfl|omega))):p:=h
theorem Xa(h:p:=by
  refine⟨vi ?_,rfl⟩;unfold pc ja;simp_all;all_goals (try (intros;(repeat' split)<;>first|rfl|omega))):p:=h
theorem Xb(h:p:=by
  skip;refine nH 20 [0,2,3,8,9,59,64,69,74] ?_;refine aS 4 ?_ (h:=by exact(cR (mk:=Op.load 3) rfl ot (vg (g:=Ph.cs) (ls:=ps) (i:=k) (j:=1) za isAgg3 aa rfl)));refine aS 4 ?_ (h:=by exact(cR (mk:=Op.load 3) rfl ot (vg (g:=Ph.cs) (ls:=ps) (i:=k) (j:=2) za isAgg3 aa rfl)));refine aS 4 ?_ (h:=by exact(cR (mk:=Op.load 3) rfl ot (vg (g:=Ph.cs) (ls:=ps) (i:=k) (j:=3) za isAgg3 aa rfl)));refine aS 4 ?_ (h:=by exact(cR (mk:=Op.load 75) rfl ot (vg (g:=Ph.cs) (ls:=ps) (i:=k) (j:=4) za isAgg75 aa rfl)));refine jb ?_;refine aF 1 ?_;refine OD.call ap rfl rfl rfl call23 (VC.GY (Um hm hw ht hG (⟨2,(ps[k]'aa).t,(ps[k]'aa).a,(ps[k]'aa).b,(ps[k]'aa).row,.mk 0 0 ⟨#[]⟩ [],.mk 0 0 ⟨#[]⟩ [],false⟩:Ph) ⟨(show(-9223372036854775808:Int)≤2∧(2:Int)≤9223372036854775807 by decide),rQ.t,rQ.a,rQ.b,rQ.row,Un,Un⟩) (args':=[.agg [ae 2,ae (ps[k]'aa).t,ae (ps[k]'aa).a,ae (ps[k]'aa).b,.list 3 ((ps[k]'aa).row.flatMap cV) (ps[k]'aa).row.length,ae 0,ae 0,fk,bH,ae 0,ae 0,fk,bH,bJ false]]) ⟨BA ⟨dJ,dJ,dJ,dJ,dJ,dJ,dJ,dJ,eZ,dJ,dJ,dJ,eZ,dJ,trivial⟩,trivial⟩) ⟨ot,trivial⟩ (eV _) ?_;rintro _ _ ⟨s',rfl,rfl,aiZ,ai0⟩;have hk9:s'.kind=3:=ai0.trans (show(1:Int)+dY 2 6=3 by decide);have ai1:¬s'.kind=1∧¬s'.kind=2:=(by omega)
  refine aR 0 [_,_,_,_,_,_,_,_,_,_,_,_] sizeOf32 ?_;refine an 88 [0,2,3,8,9] ?_;refine⟨_,aK,s',aiZ,ai1,rfl⟩):p:=h
theorem Xc(h:p:=by
  refine bP 103 (fun BI afX=>?_) (fun BI afX=>?_)
  ·refine aF 3 ?_;refine OD.gZ iq rfl rfl rfl call51 (wJ p.keys[i] p.high) ⟨ot,ot,trivial⟩ ?_;refine an 132 [1,2,73,74,75,110] ?_;refine aq ?_ ?_<;>intro cN dW
   ·have oK:¬vh p i:=fun hk=>by obtain⟨k1,k2,k3⟩:=hk aa;unfold bA at k2 k3;first|(rw[k1] at xo;cases xo;done)|(have:=k2 w4;omega)|(have:=k3 (Kk BI);have hx:=of_decide_eq_true cN;omega)
    refine af [4] ?_;refine aI [] ?_;refine⟨vb (EA fun hp=>?_),rfl⟩;exact oK (SF hp i)
   have hK:vh p i:=fun _=>⟨by simpa using xo,fun h0=>by unfold bA;first|(exfalso;omega)|(have hx:=of_decide_eq_false zG;omega),fun hne=>by first|exact absurd (len_nil BI) hne|(unfold bA;have hx:=of_decide_eq_false cN;omega)⟩
   refine cc [1,2,73,74,75] ?_;refine⟨(i+1),_,cq,aK,w4,(fun j hj=>by rcases Nat.lt_or_ge j i with h|h;exact uC j h;obtain rfl:j=i:=w4;exact hK),rfl⟩
  refine an 132 [1,2,73,74,75,110] ?_;refine fJ ?_;have hK:vh p i:=fun _=>⟨by simpa using xo,fun h0=>by unfold bA;first|(exfalso;omega)|(have hx:=of_decide_eq_false zG;omega),fun hne=>by first|exact absurd (len_nil BI) hne|(unfold bA;have hx:=of_decide_eq_false cN;omega)⟩
  refine cc [1,2,73,74,75] ?_;refine⟨(i+1),_,cq,aK,w4,(fun j hj=>by rcases Nat.lt_or_ge j i with h|h;exact uC j h;obtain rfl:j=i:=w4;exact hK),rfl⟩):p:=h
theorem z28(h:p:=by
  refine an 69 [4] ?_;refine aI [_] ?_;first|exact gh.cast (gh.mk (g:=cO) (e:=43) (sz:=5) (ls:=[(⟨1,rD n s,⟨#[]⟩⟩:aJ)]) (bM (ls:=[(⟨1,rD n s,⟨#[]⟩⟩:aJ)]) (Nat.le_refl _) (show 1≤maxLen by decide))) (by unfold lM rm;rw[if_neg w4])|exact gh.cast (gh.mk (g:=cO) (e:=43) (sz:=5) (ls:=[(⟨kk,rD n s,⟨#[]⟩⟩:aJ)]) (bM (ls:=[(⟨kk,rD n s,⟨#[]⟩⟩:aJ)]) (Nat.le_refl _) (show 1≤maxLen by decide))) (by unfold lM rm;rw[if_neg w4,show kk=1 by omega])|exact gh.cast (gh.mk (g:=cO) (e:=43) (sz:=5) (ls:=[(⟨kk,aV,ph (j:Int)⟩:aJ)]) (bM (ls:=[(⟨kk,aV,ph (j:Int)⟩:aJ)]) (Nat.le_refl _) (show 1≤maxLen by decide))) (by unfold lM vj;rw[if_pos w4,hj,show kk=2 by omega])):p:=h
theorem Xd(h:p:=by
  refine cL [5,6,7,10,15,16,98] ?_;refine aS 2 ?_ (h:=by exact(aaP (us:=[_,_,_]) (xV:=[_,_,_]) rfl ot ot eqGuardType41 (Vl.FL ev ⟨1,1,⟨#[]⟩⟩)));refine jb ?_;refine aq ?_ ?_<;>intro ec fh
  ·have hy:vt w (j7[i]'aa)=true:=GZ.trans ec;refine dK 5 ?_;refine en (cf 0 [_]) [.slice none 0 0] [_] zeroValue28 runUnderlying34 sizeOf28 (fun apL=>?_);refine fA 0 104 1 1 ?_;refine OD.ey (ls:=(acc)) (new:=[(j7[i]'aa)]) (Sq:=Sx) jJ IW ap rfl rfl underlying34 ZY rfl w8 ot dN (cZ (A:=[_,_,_,_,_,_,_])) ot bn mY mZ (fun Gb KM aho ahp=>?_);refine OD.perm (dV (S1:=[⟨Gb,28,KM*1,flatMap fG ((acc)++[(j7[i]'aa)])⟩]) (A:=[_,_,_,_,_,_,_])) ?_;refine an 116 [5,6,7,10,15,16] ?_;refine cc [5,6,7,10,15,16] ?_;refine⟨((i+1),(acc++[(j7[i]'aa)]),(some ⟨Gb,0,none⟩),KM,[⟨Gb,28,KM*1,flatMap fG ((acc)++[(j7[i]'aa)])⟩]),_,cq,aK,w4,(by rw[Pr aa,if_pos hy,nB]),(bp.cast (bM aho ahp) jS),rfl⟩
  have hy:vt w (j7[i]'aa)=false:=GZ.trans ec;refine cc [5,6,7,10,15,16] ?_;refine⟨((i+1),acc,c9,cM,Sx),_,cq,aK,w4,(by rw[Pr aa,if_neg (by rw[hy];decide),append_nil];exact nB),(bp.cast dN jS),rfl⟩):p:=h
theorem Xe(h:p:=by
  have tc:((bu[bu.length-1].k==6)||(((cU (ku key) (bu.take 2))==0)==nt))=true:=(by first|rw[KN,Bool.true_or]|rw[ec,Bool.or_true])
  refine cz [0,8,9,11,13,122] (SE (fP [bu[(cU fU (bu.take 2)).toNat].v]).1 lo) ?_;refine aq ?_ ?_<;>intro fj gA
  ·have xW:compareBytes (fP [bu[(cU fU (bu.take 2)).toNat].v]).1 lo>0:=(by simpa using fj)
   have CL:((fP [bu[(cU fU (bu.take 2)).toNat].v]).1,hi)=(bif (bu[bu.length-1].k==6)||(((cU (ku key) (bu.take 2))==0)==nt) then mQ (fP [bu[(cU fU (bu.take 2)).toNat].v]).1 (lo,hi) else (lo,hi)):=(by rw[tc];show _=mQ _ _;unfold mQ;rw[if_pos xW])
   refine dK 2 ?_;refine dP call95 (IU (fP [bu[(cU fU (bu.take 2)).toNat].v]).1 w4) ?_;refine aF 2 ?_;refine aR 1 [_,_] sizeOf88 ?_;refine an 155 [0,8,9,11,13] ?_;refine⟨_,aK,((fP [bu[(cU fU (bu.take 2)).toNat].v]).1,hi),CL,(by first|exact dU|exact eK),er,rfl⟩
  have xW:¬compareBytes (fP [bu[(cU fU (bu.take 2)).toNat].v]).1 lo>0:=(by simpa using fj)
  have CL:(lo,hi)=(bif (bu[bu.length-1].k==6)||(((cU (ku key) (bu.take 2))==0)==nt) then mQ (fP [bu[(cU fU (bu.take 2)).toNat].v]).1 (lo,hi) else (lo,hi)):=(by rw[tc];show _=mQ _ _;unfold mQ;rw[if_neg xW])
  refine CD.skip ?_;refine⟨_,aK,(lo,hi),CL,(by first|exact dU|exact eK),er,rfl⟩):p:=h
theorem z31(h:p:=by
  have fB:rp eo y=false:=(by unfold rp;simp_all[Uo])
  refine CI.skip ?_;refine CI.region MJ rfl ?_;refine bN (dI 1) ?_;refine bN (Lj 0 [_,_]) ?_;refine en (cf 0 [_]) [.slice none 0 0,.int .i64 0] [_,_] zeroValue90 runUnderlying85 sizeOf90 (fun G0=>?_);refine fA 0 40 2 1 ?_;refine OD.ey (ls:=pre) (new:=[y]) (Sq:=So) Up afY ap rfl rfl underlying85 ZZ rfl w8 ot ho (cZ (A:=[_,_,_])) ot bn GI GI (fun vP Gc ai3 ai4=>?_);refine OD.perm (dV (S1:=[⟨vP,90,Gc*2,flatMap cE (pre++[y])⟩]) (A:=[_,_,_])) ?_;refine aR 1 [_] sizeOf85 ?_;refine OD.wk (Wk.dG (n:=43) (l':=[]) (S':=(⟨j8,90,2,[_,_]⟩::⟨b9,85,1,[_]⟩::⟨b5,88,1,[_]⟩::[⟨vP,90,Gc*2,flatMap cE (pre++[y])⟩])) rfl rfl trivial) ?_;refine OD.nil ?_;exact⟨_,Sublist.cons _ (Sublist.refl _),(fun x hx=>by rcases mem_append.1 hx with hx|hx;exact aQ x hx;rw[mem_singleton] at hx;subst hx;exact fB),(some ⟨vP,0,none⟩),Gc,[⟨vP,90,Gc*2,flatMap cE (pre++[y])⟩],(bM ai3 ai4),rfl⟩):p:=h
theorem Xf(h:p:=by
  refine aB 1 ?_;refine OD.kx (f:=52) (args:=[_]) (all:=[_,_,_]) (Sf:=[_,_]) (R:=[]) ap rfl rfl ot call52 (KO r k n d s ts 0 b2 b3 IH gk iR hs hd1 hd w8) rfl ⟨bV,trivial⟩ (Perm.refl _) ?_;rintro _ _ ⟨MU,⟨apM,apN,rfl,ai5⟩,rfl⟩;refine OD.perm (QH (A:=[_,_])) ?_;refine aF 2 ?_;refine en (cf 0 [_]) [.int .i64 0,.int .i64 0,.int .i64 0,.string ⟨#[]⟩,.string ⟨#[]⟩] [_,_,_,_,_] zeroValue43 runUnderlying30 sizeOf43 (fun Ai=>?_);refine fA 0 58 5 1 ?_;refine OD.ey (ls:=(gi r ts n s 0)) (new:=[(⟨kk,aV,⟨#[]⟩⟩:aJ)]) (Sq:=MU) nw Kl ap rfl rfl underlying30 H7 rfl w8 ot ai5 (cZ (A:=[_,_])) ot bn zZ zZ (fun s6 sG B3 B4=>?_);refine OD.perm (dV (S1:=[⟨s6,43,sG*5,flatMap cO ((gi r ts n s 0)++[(⟨kk,aV,⟨#[]⟩⟩:aJ)])⟩]) (A:=[_,_])) ?_;refine an 69 [4] ?_;refine aI [⟨s6,43,sG*5,flatMap cO ((gi r ts n s 0)++[(⟨kk,aV,⟨#[]⟩⟩:aJ)])⟩] ?_;exact gh.cast (gh.mk (bM B3 B4)) (by rw[uX,lF,if_neg w4,if_neg w4,if_pos w4];rfl)):p:=h
theorem G1(h:p:=by
  refine aI [] ?_;refine⟨?_,rfl⟩;unfold jh;first|(rw[if_pos bC];first|done|rfl)|(rw[if_neg bC,if_pos de,hj];rcases j with _|_|j<;>first|rfl|omega)|(rw[if_neg bC,if_neg cr,if_pos cA];first|done|rfl)|(rw[if_neg bC,if_neg cr,if_neg cA,if_pos w4,show -v.n=0-v.n by omega];first|done|rfl)|(rw[if_neg bC,if_neg cr,if_neg cA,if_neg w4];first|done|rfl)):p:=h
theorem Xg(h:p:=by
  refine at_ rfl eN ?_;refine cy 14 rfl (dw 1 (h:=by first|exact .l (j:=a+t+1) rfl w4|exact .r (j:=a+t+1) rfl w4)) ?_;refine AD.one (i:=15) az ?_;refine bz.storeAt (k:=0) (cs':=((Mv P B Q x (t+1)).set (a+t+1) ((Mv P B Q x (t+1))[a+t])).flatMap cI) rfl ap rfl rfl ot rfl rfl ot rfl rfl sizeOf3 rfl GN (by rw[Nat.zero_add];exact o8 ez _ _ w4) iD ?_;refine e9 ?_;refine aF 1 ?_;refine OD.storeAt (k:=0) (cs':=(Mv P B Q x (t)).flatMap cI) ap rfl rfl ot rfl rfl ot rfl rfl sizeOf3 rfl GK (by rw[Nat.zero_add];exact(o8 ez ((Mv P B Q x (t+1)).set (a+t+1) ((Mv P B Q x (t+1))[a+t])) ((Mv P B Q x (t+1))[a+t+1]) vI).trans (congrArg (flatMap cI) (afZ MV hP w4 w4))) ?_;refine an 220 [0,14,17] ?_;refine ik [0,14,17] ?_;refine aS 1 ?_ (h:=by exact(dz rfl ot bV (gY (r:=((a+t:Nat):Int)) MC)));refine bI ?_;refine⟨t,_,cq,aK,w4,w4,rfl⟩):p:=h
theorem Xh(h:p:=by
  refine at_ rfl eN ?_;refine cy 14 rfl (dw 1 (h:=by first|exact .l (j:=a+t) rfl w4|exact .r (j:=a+t) rfl w4)) ?_;refine AD.one (i:=15) az ?_;refine bz.storeAt (k:=0) (cs':=((Mv P B Q x (t)).set (a+t) ((Mv P B Q x (t))[a+t+1])).flatMap cI) rfl ap rfl rfl ot rfl rfl ot rfl rfl sizeOf3 rfl GN (by rw[Nat.zero_add];exact o8 ez _ _ w4) iD ?_;refine e9 ?_;refine aF 1 ?_;refine OD.storeAt (k:=0) (cs':=(Mv P B Q x (t+1)).flatMap cI) ap rfl rfl ot rfl rfl ot rfl rfl sizeOf3 rfl GK (by rw[Nat.zero_add];exact(o8 ez ((Mv P B Q x (t)).set (a+t) ((Mv P B Q x (t))[a+t+1])) ((Mv P B Q x (t))[a+t]) vI).trans (congrArg (flatMap cI) (af0 MV hP w4 w4))) ?_;refine an 220 [0,10,13] ?_;refine ik [0,10,13] ?_;refine aS 1 ?_ (h:=by exact(dz rfl ot bV (kr (r:=((a+(t+1):Nat):Int)) (by rw[show(((a+t:Nat):Int)+1)=((a+(t+1):Nat):Int) by omega];exact wrap_i64 w4 w4))));refine bI ?_;refine⟨(t+1),_,cq,aK,w4,rfl⟩):p:=h
theorem Xi(h:p:=by
  refine at_ rfl eN ?_;refine cy 14 rfl (dw 1 (h:=by first|exact .l (j:=j) rfl w4|exact .r (j:=j) rfl w4)) ?_;refine AD.one (i:=15) az ?_;refine bz.storeAt (k:=0) (cs':=(lG.set j (lG[j-1]'qP)).flatMap cI) rfl ap rfl rfl ot rfl rfl ot rfl rfl sizeOf3 rfl GN (by rw[Nat.zero_add];exact o8 ez _ _ qQ) iD ?_;refine e9 ?_;refine aF 1 ?_;refine OD.storeAt (k:=0) (cs':=((lG.set j (lG[j-1]'qP)).set (j-1) (lG[j]'qQ)).flatMap cI) ap rfl rfl ot rfl rfl ot rfl rfl sizeOf3 rfl GK (by rw[Nat.zero_add];exact o8 ez _ _ (by rw[length_set];exact qP)) ?_;refine an 53 [0,1,2,3,8,9] ?_;refine ik [0,1,2,3,8,9] ?_;refine aS 1 ?_ (h:=by exact(dz rfl ot bV (gY (r:=((j-1:Nat):Int)) MD)));refine bI ?_;refine⟨((j-1),((lG.set j (lG[j-1]'qP)).set (j-1) (lG[j]'qQ))),_,cq,aK,(aaQ hj hja qQ qP (EZ ahq)),(by simpa using zH),rfl⟩):p:=h
theorem z37(h:p:=by
  refine bP 71 (fun ai6 ahr=>?_) (fun ai6 ahr=>?_)
  ·refine bq [0,2,4,6,8,79] ?_;refine aq ?_ ?_<;>intro bX cA
   ·have sI:(bu.length≠3∨(nt=true∧bu[bu.length-1].k≠7)∨(bu[bu.length-1].k≠6∧bu[bu.length-1].k≠7)):=(by first|omega|(simp_all;omega)|simp_all)
    have mR:mr key bu nt (lo,hi)=(lo,hi):=(by unfold mr;rw[sA vu,if_pos sI])
    rw[mR] at aW;refine aI [⟨b0,_,_,_⟩] ?_;refine⟨rfl,?_⟩;first|rw[s9]|rw[aW]
   have sI:¬(bu.length≠3∨(nt=true∧bu[bu.length-1].k≠7)∨(bu[bu.length-1].k≠6∧bu[bu.length-1].k≠7)):=(by first|omega|(simp_all;omega)|simp_all)
   refine CD.skip ?_;refine⟨_,aK,sI,rfl⟩
  refine bq [0,2,4,6,8,79] ?_;refine fJ ?_;have sI:¬(bu.length≠3∨(nt=true∧bu[bu.length-1].k≠7)∨(bu[bu.length-1].k≠6∧bu[bu.length-1].k≠7)):=(by first|omega|(simp_all;omega)|simp_all)
  refine CD.skip ?_;refine⟨_,aK,sI,rfl⟩):p:=h
theorem Xj(h:p:=by
  have sI:(bu.length≠3∨(nt=true∧bu[bu.length-1].k≠7)∨(bu[bu.length-1].k≠6∧bu[bu.length-1].k≠7)):=(by first|omega|(simp_all;omega)|simp_all)
  have mR:mr key bu nt (lo,hi)=(lo,hi):=(by unfold mr;rw[sA vu,if_pos sI])
  rw[mR] at aW;refine aI [⟨b0,_,_,_⟩] ?_;refine⟨rfl,?_⟩;first|rw[s9]|rw[aW]):p:=h
theorem Xk(h:p:=by
  refine af [0] ?_;refine af [3] ?_;refine af [3,4] ?_;refine aq ?_ ?_<;>intro aP bC
  ·refine eD ?_;refine af [2] ?_;refine aI [] ?_;refine⟨vi ?_,rfl⟩;unfold bw;simp_all
  refine cc [3,4] ?_;refine aq ?_ ?_<;>intro aZ cr
  ·refine af [2] ?_;refine aI [] ?_;refine⟨vi ?_,rfl⟩;unfold bw;simp_all
  refine af [3,7] ?_;refine aq ?_ ?_<;>intro bX cA
  ·refine eD ?_;refine af [2] ?_;refine aI [] ?_;refine⟨vi ?_,rfl⟩;unfold bw;simp_all
  refine cc [7] ?_;refine aq ?_ ?_<;>intro cN dW
  ·refine af [2] ?_;refine aI [] ?_;refine⟨vi ?_,rfl⟩;unfold bw;simp_all
  refine af [2] ?_;refine aI [] ?_;refine⟨vi ?_,rfl⟩;unfold bw;simp_all
  ):p:=h
theorem z40(h:p:=by
  have oK:¬vh p i:=fun hk=>by obtain⟨k1,k2,k3⟩:=hk aa;unfold bA at k2 k3;first|(rw[k1] at xo;cases xo;done)|(have:=k2 w4;omega)|(have:=k3 (Kk BI);have hx:=of_decide_eq_true cN;omega)
  refine af [4] ?_;refine aI [] ?_;refine⟨vb (EA fun hp=>?_),rfl⟩;exact oK (SF hp i)):p:=h
theorem MW(h:p:=by
  refine aF 1 ?_;first|refine OD.cells (k:=0) (cs':=[.list 1 [] 0,_]) rfl ⟨eZ,dJ,trivial⟩ rfl ?_|skip
  first|refine OD.cells (k:=1) (cs':=[.list 1 [] 0,_]) rfl ⟨eZ,dJ,trivial⟩ rfl ?_|skip
  first|refine OD.cells (k:=1) (cs':=[.list 5 [] 0]) rfl ⟨eZ,trivial⟩ rfl ?_|skip
  first|refine OD.cells (k:=2) (cs':=[.list 5 [] 0]) rfl ⟨eZ,trivial⟩ rfl ?_|skip
  refine an 46 [4,5,6] ?_;refine aI [] ?_;rw[aW];exact⟨rfl,rfl⟩):p:=h
theorem Xl(h:p:=by
  refine⟨vi ?_,rfl⟩;try simp only[u3] at *
  unfold bW;simp_all;try omega):p:=h
theorem Xm(h:p:=by
  refine aI [⟨b0,_,_,_⟩] ?_;refine⟨rfl,?_⟩;first|rw[s9]|rw[aW]):p:=h
theorem Xn(h:p:=by
  refine at_ rfl eN ?_;refine cy 20 rfl (dw 1) ?_;refine AD.one (i:=21) az ?_;refine bz.storeAt (k:=0) (cs':=((jT l la lb i).set (la+i) ((jT l la lb i)[lb+i]'hb)).flatMap cI) rfl ap rfl rfl ot rfl rfl ot rfl rfl sizeOf3 rfl GN (by rw[Nat.zero_add];exact o8 ez _ _ ha) iD ?_;refine e9 ?_;refine aF 1 ?_;refine OD.storeAt (k:=0) (cs':=(jT l la lb (i+1)).flatMap cI) ap rfl rfl ot rfl rfl ot rfl rfl sizeOf3 rfl GK (by rw[Nat.zero_add];exact(o8 ez ((jT l la lb i).set (la+i) ((jT l la lb i)[lb+i]'hb)) ((jT l la lb i)[la+i]'ha) (by rw[length_set];exact hb)).trans (by rw[jT,sw,mI ha,mI hb])) ?_;refine an 38 [0,1,2,3,10] ?_;refine cc [0,1,2,3,10] ?_;refine⟨(i+1),_,cq,aK,w4,rfl⟩):p:=h
theorem oQ(h:p:=by
  refine aI [] ?_;rw[aW];exact⟨rfl,rfl⟩):p:=h
theorem z46(h:p:=by
  refine af [4] ?_;refine aI [] ?_;first|exact⟨rfl,rfl⟩|(refine⟨vi ?_,rfl⟩;unfold pW;simp_all;done)|(refine⟨vi ?_,rfl⟩;unfold pW;split<;>(try split)<;>simp_all<;>omega)):p:=h
theorem xX(h:p:=by
  refine an 90 [4] ?_;refine aI [] ?_;refine⟨vb ?_,rfl⟩;unfold ji ja;simp_all;all_goals (try (intros;omega))):p:=h
theorem Xo(h:p:=by
  have uD:p.1∈ts:=(by rw[←hr.keys];exact mem_map_of_mem fK)
  refine⟨uD,?_⟩;rw[hr.at uD];have eY:∀(j:Nat) (p':Oper),k≤j→ops[j]?=some p'→p'.dst≠some p.1:=fun j p' hj G2 iS=>by
   obtain⟨e1,tc,iZ,jF⟩:=E0 (by simpa using Aj) G2 iS uD;have:=(wK hp zI).1 e1 tc iZ;omega
  have h5:=k0.later (q:=p.1) (fun p' Ak=>by
   rw[←jo] at Ak;obtain⟨j,hj,rfl⟩:=mem_iff_getElem.1 Ak;refine eY (k+1+j) _ w4 ?_;rw[←Array.getElem?_toList,←getElem?_drop,getElem?_eq_getElem hj])
  rw[h5,fS,if_neg (fun e1:t=p.1=>eY k o (Nat.le_refl _) zI (by rw[←e1];exact hd))]):p:=h
theorem z49(h:p:=by
  refine⟨vb ?_,rfl⟩;unfold ji ja;simp_all;all_goals (try (intros;omega))):p:=h
theorem Xp(h:p:=by
  skip;have hz:(cD l row ops[i] (dS aV ops[i].k st) (dM aV ops[i].k st)).2≠0:=(by simpa using cN)
  have aW:=hinv.trans (SG aa hz);refine aB 2 ?_;refine aR 7 [_,_,_] sizeOf41 ?_;refine an 64 [4,5] ?_;refine aI [⟨br,28,1,[av 3 cV row]⟩,⟨bc,27,1,[av 2 cC l]⟩] ?_;rw[aW];exact⟨rfl,rfl⟩):p:=h
theorem z51(h:p:=by
  refine aI [] ?_;exact⟨rfl,rfl⟩
  ):p:=h
theorem G3(h:p:=by
  refine aI [] ?_;rw[aW];exact⟨rfl,fun h=>by dsimp only at h;omega⟩):p:=h
theorem z53(h:p:=by
  refine an 69 [4] ?_;refine aI [_] ?_;first|exact gh.cast (gh.mk (g:=cO) (e:=43) (sz:=5) (ls:=[(⟨kk,rD n s,⟨#[]⟩⟩:aJ)]) (bM (ls:=[(⟨kk,rD n s,⟨#[]⟩⟩:aJ)]) (Nat.le_refl _) (show 1≤maxLen by decide))) (by rw[uX,lF,if_pos w4];unfold rm;rw[show kk=1 by omega])|exact gh.cast (gh.mk (g:=cO) (e:=43) (sz:=5) (ls:=[(⟨kk,aV,ph (j:Int)⟩:aJ)]) (bM (ls:=[(⟨kk,aV,ph (j:Int)⟩:aJ)]) (Nat.le_refl _) (show 1≤maxLen by decide))) (by rw[uX,lF,if_neg w4,if_pos w4];unfold vj;rw[hj,show kk=2 by omega])):p:=h
theorem G4(h:p:=by
  refine bq [2] ?_;refine eJ ?_;refine⟨vb ?_,rfl⟩;rw[Bool.eq_iff_iff];simp[wC];first|done|omega):p:=h
theorem Xq(h:p:=by
  refine OD.perm (dV (A:=[])) ?_;refine an 29 [3,8,9,10] ?_;refine cc [3,8,9,10] ?_;refine⟨((i+1),VD,VE,Xt),_,cq,(aK (h:=by repeat (first|exact trivial|refine⟨(by (repeat (first|exact fu|(apply fT;focus (first|rfl|(simp;done)|(congr 2;omega)|(apply eG;first|exact IY aa w4|exact Im aa w4)|(apply eG;rfl)|(apply eG;simp;done)))|(apply fC;focus rfl)));done),?_⟩))),w4,(bp.cast VF (by first|exact IY aa w4|exact Im aa w4)),rfl⟩):p:=h
theorem MX(h:p:=by
  refine⟨vs ?_,rfl⟩;have Am:k=s.size∨6≤k:=(by omega)
  have Ll:min k s.size=k:=Nat.min_eq_left hk;simp only[length_map,length_take,kO,Ll] at *;unfold wR zm;first|(rw[if_pos w4];done)|(rw[if_neg w4,QI hk Am h6])):p:=h
theorem Xu(h:p:=by
  have hF:¬((bD t.ay s.set)=0∧(dD t.ay (rowAt t ((ax t s.aj).1[k]'aa)) s.bL).1.k=0):=(by first|exact fun h=>(show ¬(dD t.ay (rowAt t ((ax t s.aj).1[k]'aa)) s.bL).1.k=0 from by simpa using gL) h.2|exact fun h=>absurd h.1 (by simpa using zG))
  have oe:(iO t (bD t.ay s.set) s.bL [] (ax t s.aj).1)=iO t (bD t.ay s.set) s.bL (acc++[(dD t.ay (rowAt t ((ax t s.aj).1[k]'aa)) s.bL).1]) ((ax t s.aj).1.drop (k+1)):=(by rw[An,jo,iO,if_neg hE,if_neg hF])
  refine CD.skip ?_;refine⟨_,aK,oe,rfl⟩):p:=h
theorem G5(h:p:=by
  skip;obtain⟨hz,_⟩:=xY aP;obtain rfl:=length_eq_zero_iff.1 hz;refine af [2] ?_;refine aI [] ?_;exact⟨none,0,rfl,.inl ⟨rfl,rfl,rfl,rfl,rfl⟩⟩):p:=h
theorem z59(h:p:=by
  refine aR 0 [_,_,_] sizeOf41 ?_;refine an 35 [4,5] ?_;refine aI [] ?_;refine⟨?_,rfl⟩;unfold nC;simp_all[aV]):p:=h
theorem z60(h:p:=by
  refine aI [⟨br,28,1,[av 3 cV row]⟩,⟨bc,27,1,[av 2 cC l]⟩] ?_;rw[aW];exact⟨rfl,rfl⟩):p:=h
theorem Xv(h:p:=by
  skip;have hz:(iW l ops[i] (dS 0 ops[i].k st) (dM 0 ops[i].k st)).2≠0:=(by simpa using cN)
  have aW:=hinv.trans (SG aa hz);refine af [4,5] ?_;refine aI [⟨b2,27,1,[av 2 cC l]⟩] ?_;rw[aW];exact⟨rfl,rfl⟩):p:=h
theorem MY(h:p:=by
  refine af [2] ?_;refine aI [] ?_;refine⟨vi ?_,rfl⟩;try simp only[OV] at *
  simp only[cG];first|(rw[if_pos w4];done)|(rw[if_neg w4];cases h1:oC s<;>cases h2:u9.any (ja s)<;>simp_all)):p:=h
theorem G6(h:p:=by
  refine aI _ ?_;first|exact⟨rfl,_,KP,rfl⟩|exact⟨rfl,_,E1 qK nI Xw,rfl⟩|exact⟨rfl,_,E1 qK nI (Ps qK nI w4),rfl⟩):p:=h
theorem xZ(h:p:=by
  refine af [2] ?_;refine eJ ?_;rw[aW];exact⟨rfl,rfl⟩):p:=h
theorem Xx(h:p:=by
  have hC:0≤p.kids[i]∧(p.leaf=false→p.kids[i]<many):=⟨by have hx:=of_decide_eq_false KQ;omega,fun hl=>by first|(rw[hl] at FM;cases FM;done)|(have hx:=of_decide_eq_false fj;omega)⟩
  refine cc [1,2,113,114,115] ?_;refine⟨(i+1),_,cq,aK,w4,(fun j hj hl=>by rcases Nat.lt_or_ge j i with h|h;exact j5 j h hl;obtain rfl:j=i:=w4;exact hC),rfl⟩):p:=h
theorem Xy(h:p:=by
  have eS:j=a∨Rc cF Lt (lG[j-1]'qP) (lG[j]'qQ):=(by first|exact .inr (Fp ha (aek hj (by have q:=of_decide_eq_true qL;omega) qQ qP hq) w4)|exact .inl (by have q:=of_decide_eq_false qL;omega))
  refine cc [0,1,2,3,8] ?_;refine⟨((i+1),lG),_,cq,aK,(fun _=>aco ht hj w4 w4 eS),w4,w4,w4,zH,rfl⟩):p:=h
theorem Xz(h:p:=by
  refine aR 0 [_,_,_] sizeOf137 ?_;refine an 14 [2] ?_;refine aI [] ?_;refine⟨?_,rfl⟩;unfold zJ;first|(rw[if_neg j9,if_neg x4,show((j:Nat):Int).toNat=j from rfl,getD_eq_getElem?_getD,getElem?_eq_getElem hj];rfl)|(rw[if_pos xP];rfl)|(rw[if_neg xP,if_pos vL];rfl)):p:=h
theorem uE(h:p:=by
  refine aI [] ?_;rw[aW];exact⟨rfl,rfl⟩
  ):p:=h
theorem XA(h:p:=by
  have oK:vs[i].k≠l[i].k∧(i=0∨vs[i].k≠0):=(by first|(simp at *;omega)|(constructor<;>simp_all<;>omega))
  have hf:lW i l[i] vs[i]=4:=(by unfold lW;rw[if_neg hz,if_pos oK])
  have aW:dB l vs=4:=(by rw[hinv,QJ Lm aa (by rw[hf];decide),hf])
  refine af [4] ?_;refine eJ ?_;rw[aW];exact⟨rfl,rfl⟩):p:=h
theorem z70(h:p:=by
  have oK:¬(0≤p.kids[i]∧(p.leaf=false→p.kids[i]<many)):=fun hk=>by obtain⟨k1,k2⟩:=hk;first|(have hx:=of_decide_eq_true KQ;omega)|(have:=k2 (by simpa using FM);have hx:=of_decide_eq_true fj;omega)
  refine af [4] ?_;refine eJ ?_;refine⟨vb (EA fun hp=>?_),rfl⟩;exact oK (ael hp aa)):p:=h
theorem XB(h:p:=by
  refine an 70 [1,2,11,35,36,37] ?_;refine cc [1,2,11,35,36,37] ?_;refine⟨((k+1),(acc++[(L[k]'aa).2]),(some ⟨qR,0,none⟩),rE,[⟨qR,3,rE*1,flatMap Tw.cI ((acc)++[(L[k]'aa).2])⟩]),_,cq,aK,w4,GO,oe,(bp.cast (bM Ge Gf) jS),rfl⟩):p:=h
theorem z72(h:p:=by
  have oG:¬(vs[i].k≠l[i].k∧(i=0∨vs[i].k≠0)):=(by first|(simp_all;done)|omega|(simp at *;omega))
  have hf:lW i l[i] vs[i]=0:=(by unfold lW;rw[if_neg hz,if_neg oG])
  have jg:=hinv.trans (aaR Lm aa hf);refine cc [0,19,20,21] ?_;refine⟨(i+1),_,cq,aK,w4,jg,rfl⟩):p:=h
theorem XC(h:p:=by
  refine cc [1,3,33,34,35] ?_;refine⟨(i+1),_,cq,(aK (h:=by repeat (first|exact trivial|refine⟨(by (repeat (first|exact fu|(apply fT;focus (first|rfl|(rw[EB,if_neg zK];rfl)|(rw[EB,if_pos zK];rfl)|(simp;done)|(congr 2;omega)))|(apply fC;focus rfl)));done),?_⟩))),w4,rfl⟩):p:=h
theorem G7(h:p:=by
  refine OD.perm (dV (A:=[])) ?_;refine an 8 [2] ?_;refine aI S7 ?_;exact⟨_,_,rfl,qe⟩
  ):p:=h
theorem z75(h:p:=by
  refine e9 ?_;refine OD.gZ iq rfl rfl rfl call29 (fL) ⟨ot,ot,trivial⟩ ?_;refine an 31 [1,10,11,12,29] ?_;refine aq ?_ ?_<;>intro bX cA
  ·exact absurd bX (by (simp at bX;omega))
  refine cc [1,10,11,12] ?_;refine⟨(i+1),_,cq,aK,w4,rfl⟩):p:=h
theorem z76(h:p:=by
  refine aI [] ?_;rw[eS];exact⟨rfl,rfl⟩):p:=h
theorem MZ(h:p:=by
  skip;refine bq [1,33] ?_;refine eD ?_;refine af [2] ?_;refine eJ ?_;exact⟨vi (OM w4).symm,rfl⟩):p:=h
theorem M1(h:p:=by
  refine aR 0 [_,_,_] sizeOf41 ?_;refine an 29 [2] ?_;refine aI [] ?_;refine⟨?_,rfl⟩;unfold oD aV;simp_all):p:=h
theorem XD(h:p:=by
  have hC:¬((dr t.ay s.bL).1≠(t.ay.getD (bD t.ay s.set).toNat ⟨⟨#[]⟩,0⟩).k∧(dr t.ay s.bL).1≠0):=(by rw[ke];first|exact fun h=>h.2 (by simpa using bX)|exact fun h=>h.1 zn)
  refine CD.skip ?_;refine⟨_,aK,hC,rfl⟩):p:=h
theorem z80(h:p:=by
  have nh:¬(0≤s.hU∧s.hU<lz.length):=(by first|exact fun h=>lB h.2|(intro h;omega))
  refine CD.skip ?_;refine⟨_,aK,lz,(by unfold ud sJ;rw[←ni,Int.toNat_natCast,←hM,←VG,if_neg nh]),VH,w4,rfl⟩):p:=h
theorem M2(h:p:=by
  refine an 135 [4,5] ?_;refine aI [] ?_;rw[aW];exact⟨[],none,0,[],rfl,iy,(fun o h=>by cases h),rfl,rfl⟩):p:=h
theorem XE(h:p:=by
  have ahs:¬(f.length≤100∧eo.length≤100):=(by simp_all;omega)
  refine af [6,7] ?_;refine CD.wk (Wk.tU (t:=6) (sz:=2) lk) ?_;refine M3 ?_;exact⟨by unfold wS;rw[if_pos hz,if_neg ahs];rfl,rfl⟩):p:=h
theorem CM(h:p:=by
  refine aI [] ?_;rw[eS];exact⟨rfl,rfl⟩
  ):p:=h
theorem XF(h:p:=by
  unfold cC;refine bU ?_;refine OD.box (ds:=[_,_]) ap rfl rfl ot rfl rfl (fun b2=>?_);refine an 8 [1,2] ?_;refine af [3] ?_;refine aI [⟨b,9,1,[bj nm]⟩] ?_;exact⟨rfl,rfl⟩
  ):p:=h
theorem z85(h:p:=by
  have iB:¬((iL a b i).k≠1∧(iL a b i).k≠0):=(by simp_all)
  refine cc [2,3,4,6,14,15] ?_;refine⟨(i+1),_,cq,aK,w4,(Ez (p:=fun v=>¬(v.k≠1∧v.k≠0)) eY iB),rfl⟩):p:=h
theorem XG(h:p:=by
  unfold dX cmpL fM fM fM fM;rcases qt a.k b.k with ⟨h1,h2⟩|⟨h1,h2⟩|⟨h1,h2⟩<;>rcases qt a.n b.n with ⟨k1,k2⟩|⟨k1,k2⟩|⟨k1,k2⟩<;>simp only[h1,k1]<;>(repeat' split)<;>omega):p:=h
theorem z87(h:p:=by
  refine bI ?_;refine cL [6,7] ?_;refine aS 6 ?_ (h:=by exact(dz rfl ot ot (EC underlying4)));refine bI ?_;refine aI [] ?_;refine⟨?_,rfl⟩;unfold pN;simp_all):p:=h
theorem XH(h:p:=by
  have aht:¬((iL a b i).k=1∧(iL a b i).n=d):=(by simp_all)
  refine cc [2,3,4,6,30,31] ?_;refine⟨(i+1),_,cq,aK,w4,(Ez (p:=fun v=>¬(v.k=1∧v.n=d)) KR aht),rfl⟩):p:=h
theorem XI(h:p:=by refine⟨_,(aK (h:=by repeat (first|exact trivial|refine⟨(by (repeat (first|exact fu|(apply fT;focus (first|rfl|(rw[dg];done)|(simp;done)))|(apply fC;focus rfl)));done),?_⟩))),rfl⟩):p:=h
theorem XJ(h:p:=by refine⟨_,(aK (h:=by repeat (first|exact trivial|refine⟨(by (repeat (first|exact fu|(apply fT;focus (first|rfl|(rw[ke];done)|(simp;done)))|(apply fC;focus rfl)));done),?_⟩))),rfl⟩):p:=h
theorem z91(h:p:=by
  skip;obtain⟨hz,_⟩:=xY aP;obtain rfl:=length_eq_zero_iff.1 hz;refine af [2] ?_;refine CD.wk (Wk.tU (t:=2) (sz:=1) lk) ?_;refine aI [] ?_;exact⟨rfl,rfl⟩):p:=h
theorem XK(h:p:=by
  refine af [4] ?_;refine aI [] ?_;first|exact⟨vi (ED hn).symm,rfl⟩|exact⟨vi (Ef hz vL).symm,rfl⟩|exact⟨vi (Jw hz vL).symm,rfl⟩):p:=h
theorem z93(h:p:=by
  rw[←jo] at fK;obtain⟨j,hj,rfl⟩:=mem_iff_getElem.1 fK;refine lg (k+1+j) _ w4 ?_;rw[←Array.getElem?_toList,←getElem?_drop,getElem?_eq_getElem hj]):p:=h
theorem XL(h:p:=by
  refine af [4] ?_;refine eJ ?_;refine⟨vi ?_,rfl⟩;unfold aL;first|(rw[B5] at XM;cases fI:p.leaf<;>simp_all;done)|(simp_all;done)|(simp_all;omega)):p:=h
theorem M4(h:p:=by
  refine af [2,3] ?_;refine aI [] ?_;first|(rw[aW];exact⟨none,0,rfl,iy⟩)):p:=h
theorem M5(h:p:=by
  refine af [2] ?_;refine aI [] ?_;exact⟨by first|rw[aW]|rw[aW];rfl,rfl⟩):p:=h
theorem XN(h:p:=by
  have g6:=po.leaf;have g7:=fun h=>(po.node h).1;cases fI:(t.ag[i]'aa).leaf with
  | true=>have:=g6 fI;omega
  | false=>have:=g7 fI;omega):p:=h
theorem XO(h:p:=by
  refine cc [0,1,5] ?_;refine⟨(i+1),_,cq,aK,w4,(by rw[take_succ_eq_append_getElem aa,take_succ_eq_append_getElem sK,G8,XP]),rfl⟩):p:=h
theorem XQ(h:p:=by
  split
  ·rw[getD_eq_getElem?_getD,getD_eq_getElem?_getD,length_append,getElem?_append_right w4];congr 2;omega
  rfl):p:=h
theorem VJ(h:p:=by
  rw[map_set,hn];have:l[i].nm=(l.map aM.nm)[i]'(by rw[length_map];exact hi):=(by rw[getElem_map])
  rw[this,set_getElem_self]):p:=h
theorem VK(h:p:=by
  have uF:not=false:=(by simpa using h')
  have h7:o2.k=7:=(by rcases G9 with h6|h7;rw[h6] at h;cases h;exact h7)
  have:=m5 h7 uF;omega):p:=h
theorem VL(h:p:=by refine⟨((((i+j)/2)+1),j),_,cq,aK,w4,w4,w4,(.inr ⟨by omega,by omega,by exact uw⟩),fb,rfl⟩):p:=h
theorem VM(h:p:=by
  obtain⟨t',h3,h4⟩:=(wK hp G2).2;rw[iS] at h3;obtain rfl:=Option.some.inj h3;exact h4 k o hj zI hd):p:=h
theorem VN(h:p:=by
  unfold mq;rw[mk_data,getD_eq_getElem?_getD,getElem?_eq_getElem w4];exact getElem_mem _):p:=h
theorem z105(h:p:=by
  rw[pX] at px;rcases mem_cons.1 px with rfl|px
  ·exact .inl (tG _ _)
  exact m.Uq x px):p:=h
theorem VO(h:p:=by
  have eS:dB l=1:=if_pos w4;refine af [2] ?_;refine eJ ?_;rw[eS];exact⟨rfl,rfl⟩):p:=h
theorem z107(h:p:=by
  refine aI [⟨br,28,1,[av 3 cV row]⟩,⟨bc,27,1,[av 2 cC l]⟩] ?_;rw[aW];exact⟨rfl,rfl⟩
  ):p:=h
theorem zL(h:p:=by exact absurd aP (by simp at aP)):p:=h
theorem z109(h:p:=by refine⟨(i,((i+j)/2)),_,cq,aK,w4,w4,w4,de,(.inr ⟨by omega,by omega,Ao⟩),rfl⟩):p:=h
theorem VQ(h:p:=by
  refine CD.skip ?_;have ahu:l1=l:=acp Ln w4;rw[ahu];refine⟨_,aK,rfl⟩):p:=h
theorem VR(h:p:=by
  refine cz [0,4,5,6,41] (nG) ?_;refine aq ?_ ?_<;>intro fj gA
  ·have aW:fi k a b=(aV,0):=(by unfold fi;rw[if_neg (by simp[ng]),if_neg w4,if_neg w4,if_pos w4,if_pos fj])
   refine aB 1 ?_;exact z7
  refine af [0,4,5,6,47] ?_;refine aq ?_ ?_<;>intro gL kU
  ·have aW:fi k a b=(aV,4):=(by unfold fi;rw[if_neg (by simp[ng]),if_neg w4,if_neg w4,if_pos w4,if_neg (by rw[fj];simp),if_pos (by simpa using gL)])
   refine aB 1 ?_;exact z7
  have aW:fi k a b=(mK ((dX a b==0&&k==6)||(decide (dX a b<0)&&k==7)),0):=(by unfold fi;rw[if_neg (by simp[ng]),if_neg w4,if_neg w4,if_pos w4,if_neg (by rw[fj];simp),if_neg (by simpa using gL)])
  refine cz [0,6,9] (eT) ?_;refine aB 3 ?_;refine bP 54 (fun zM zn=>?_) (fun zM zn=>?_)
  ·refine aF 4 ?_;refine bP 58 (fun ai7 ahv=>?_) (fun ai7 ahv=>?_)
   ·refine x5 3 ?_;refine aF 4 ?_;refine dP call100 (tH _) ?_;exact z7
   refine aF 3 ?_;refine bP 61 (fun Lo KS=>?_) (fun Lo KS=>?_)
   ·refine aF 4 ?_;refine dP call100 (tH _) ?_;exact z7
   refine aF 4 ?_;refine dP call100 (tH _) ?_;exact z7
  refine aF 7 ?_;refine bP 61 (fun Lo KS=>?_) (fun Lo KS=>?_)
  ·refine aF 4 ?_;refine dP call100 (tH _) ?_;exact z7
  refine aF 4 ?_;refine dP call100 (tH _) ?_;exact z7):p:=h
theorem VS(h:p:=by
  have vf:¬((l[i].k != 1 && !(zeroV l[i].v))||(l[i].k != 2 && !(l[i].nm.toList==(⟨#[]⟩:ByteArray).toList)))=true:=(by unfold zeroV;simp_all)
  refine af [3,5,11,12,13,52] ?_;refine aq ?_ ?_<;>intro fj gA
  ·refine cz [3,5,7,11,12,13] (tT hm hw l[i].nm (hs _ (getElem_mem aa))) ?_;refine af [3,5,7,11,12,13,57] ?_;refine aq ?_ ?_<;>intro gL kU
   ·have qS:cG l[i].nm≠0:=(by simpa using gL)
    have qJ:eX h l[i]=cG l[i].nm:=(by unfold eX;rw[if_neg de,if_neg uA,if_neg vf,if_pos ⟨by simpa using fj,qS⟩])
    refine af [2] ?_;refine aI [] ?_;exact vO
   have j6:¬(l[i].k=2∧cG l[i].nm≠0):=(by simp at gL;simp[gL])
   refine cz [3,5,11,12,13,63] (yW l[i].k) ?_;refine aq ?_ ?_<;>intro gj lB
   ·have rP:h<bw l[i].k:=(by simpa using gj)
    have qJ:eX h l[i]=7:=(by unfold eX;rw[if_neg de,if_neg uA,if_neg vf,if_neg j6,if_pos rP])
    refine af [2] ?_;refine aI [] ?_;exact vO
   exact GX
  have j6:¬(l[i].k=2∧cG l[i].nm≠0):=(by simp at fj;simp[fj])
  refine cz [3,5,11,12,13,63] (yW l[i].k) ?_;refine aq ?_ ?_<;>intro gj lB
  ·have rP:h<bw l[i].k:=(by simpa using gj)
   have qJ:eX h l[i]=7:=(by unfold eX;rw[if_neg de,if_neg uA,if_neg vf,if_neg j6,if_pos rP])
   refine af [2] ?_;refine aI [] ?_;exact vO
  exact GX):p:=h
theorem VT(h:p:=by
  have vf:¬((l[i].k != 1 && !(zeroV l[i].v))||(l[i].k != 2 && !(l[i].nm.toList==(⟨#[]⟩:ByteArray).toList)))=true:=(by unfold zeroV;simp_all)
  refine af [3,5,11,12,13,52] ?_;refine aq ?_ ?_<;>intro fj gA
  ·refine cz [3,5,7,11,12,13] (tT hm hw l[i].nm (hs _ (getElem_mem aa))) ?_;refine af [3,5,7,11,12,13,57] ?_;refine aq ?_ ?_<;>intro gL kU
   ·have qS:cG l[i].nm≠0:=(by simpa using gL)
    have qJ:eX h l[i]=cG l[i].nm:=(by unfold eX;rw[if_neg de,if_neg uA,if_neg vf,if_pos ⟨by simpa using fj,qS⟩])
    refine af [2] ?_;refine eJ ?_;exact vO
   have j6:¬(l[i].k=2∧cG l[i].nm≠0):=(by simp at gL;simp[gL])
   refine cz [3,5,11,12,13,63] (yW l[i].k) ?_;refine aq ?_ ?_<;>intro gj lB
   ·have rP:h<bw l[i].k:=(by simpa using gj)
    have qJ:eX h l[i]=7:=(by unfold eX;rw[if_neg de,if_neg uA,if_neg vf,if_neg j6,if_pos rP])
    refine af [2] ?_;refine eJ ?_;exact vO
   exact GX
  have j6:¬(l[i].k=2∧cG l[i].nm≠0):=(by simp at fj;simp[fj])
  refine cz [3,5,11,12,13,63] (yW l[i].k) ?_;refine aq ?_ ?_<;>intro gj lB
  ·have rP:h<bw l[i].k:=(by simpa using gj)
   have qJ:eX h l[i]=7:=(by unfold eX;rw[if_neg de,if_neg uA,if_neg vf,if_neg j6,if_pos rP])
   refine af [2] ?_;refine eJ ?_;exact vO
  exact GX):p:=h
theorem VU(h:p:=by
  refine cy 8 rfl (dw 1 (h:=by first|exact .l (j:=tj) rfl rO|exact .r (j:=tj) rfl rO)) ?_;refine AD.two (i:=9) (j:=11) az ?_ ?_
  ·refine at_ rfl (cR (mk:=Op.load 9) rfl ot (by exact qB (g:=cS) (ls:=dZ) (i:=tj) (d:=bj tn) jf isAgg9 rO (by show some (D.v (.string (dZ[tj]'rO)))=some (D.v (.string tn));rw[VB]))) ?_;refine cy 10 rfl (nO (pl:=[(0,_),(1,_),(9,_)]) (ds:=[_,_,_,_,_,_,_,_,_,_,_,_]) rfl zeroValue32 runUnderlying32 OH ⟨rfl,ot,rfl,ot,rfl,bV,trivial⟩ rfl rfl) ?_;refine AD.one (i:=11) az ?_;refine bz.alloc (ds:=[_,_,_,_,_,_,_,_,_,_,_,_]) rfl ap rfl rfl zeroValue32 rfl (fun b3=>?_);exact z10
  refine bz.alloc (ds:=[_,_,_,_,_,_,_,_,_,_,_,_]) rfl ap rfl rfl zeroValue32 rfl (fun b3=>?_);exact z4):p:=h
theorem Lp(h:p:=by
  refine dK 2 ?_;refine OD.kx (f:=134) (args:=[_,_]) (all:=[_,_]) (Sf:=[]) ap rfl rfl ot call134 (zo a 2) rfl ⟨ot,bV,trivial⟩ (eV _) ?_;rintro _ _ ⟨rfl,rfl⟩;refine aF 1 ?_;refine bP 68 (fun ai8 ahw=>?_) (fun ai8 ahw=>?_)
  ·refine aF 2 ?_;refine OD.kx (f:=134) (args:=[_,_]) (all:=[_,_]) (Sf:=[]) iq rfl rfl ot call134 (zo b 2) rfl ⟨ot,bV,trivial⟩ (eV _) ?_;rintro _ _ ⟨rfl,rfl⟩;exact z21
  refine an 76 [11,12] ?_;refine af [12,74] ?_;refine eD ?_;exact z22):p:=h
theorem z116(h:p:=by
  refine AD.one (i:=7) az ?_;refine lj call21 (Gg) ?_;refine cy 8 rfl (dw 1 (h:=by first|exact .l (j:=tj) rfl rO|exact .r (j:=tj) rfl rO)) ?_;exact z4):p:=h
theorem z117(h:p:=by
  refine aB 4 ?_;refine OD.kx (f:=98) (args:=[_,_,_]) (all:=[_,_,_,_]) (Sf:=[⟨b2,27,1,[av 2 cC l]⟩]) ap rfl rfl ot call98 (Pt l hl ops[i] _ _ _ _ ha hb b2) rfl ⟨ot,ot,ot,trivial⟩ (mo (k:=1) rfl) ?_;rintro _ _ ⟨rfl,rfl⟩;refine an 64 [1,6,7,13,14,15,16,17,18] ?_;refine af [1,6,7,13,14,15,16,17,18,51] ?_;refine aq ?_ ?_<;>intro cN dW
  ·exact Xv
  have hz:(iW l ops[i] (dS 0 ops[i].k st) (dM 0 ops[i].k st)).2=0:=(by simpa using cN)
  refine CD.skip ?_;refine CD.sJ (k:=(st.length-(bw ops[i].k).toNat)) (ls:=(st)) (Sq:=[⟨bh,3,kf*1,flatMap cI st⟩]) ez w4 (bM (g:=cI) (ls:=st) xj wP) (cZ (A:=[_,_])) (fun B0 BG=>?_);exact z12):p:=h
theorem VV(h:p:=by
  refine cy 8 rfl (dw 1 (h:=by first|exact .l (j:=tj) rfl rO|exact .r (j:=tj) rfl rO)) ?_;exact z4):p:=h
theorem z119(h:p:=by
  rintro _ _ ⟨rfl,rfl⟩;refine aF 3 ?_;refine OD.alloc (ds:=[_,_,_]) ap rfl rfl zeroValue41 rfl (fun Ap=>?_);refine aR 0 [_,_,_] sizeOf41 ?_;refine an 64 [1,4,6,7,13,14,15,16,17,18] ?_;refine af [1,4,6,7,13,14,15,16,17,18,51] ?_;refine aq ?_ ?_<;>intro cN dW
  ·exact Xp
  have hz:(cD l row ops[i] (dS aV ops[i].k st) (dM aV ops[i].k st)).2=0:=(by simpa using cN)
  refine CD.skip ?_;refine CD.sJ (k:=(st.length-(bw ops[i].k).toNat)) (ls:=(st)) (Sq:=[⟨bh,41,kf*3,flatMap cV st⟩]) ff w4 (bM (g:=cV) (ls:=st) xj wP) (cZ (A:=[_,_,_,_,_,_,_,_])) (fun B0 BG=>?_);exact z5):p:=h
theorem VW(h:p:=by
  refine CD.seq ?_;refine td 11 10 [5,7,31] ?_;refine cH (lu G n 40 gk iR w8) ?_;refine cH (QK ⟨n,dY n 40-20,s⟩ fQ) ?_;refine og ?_;refine jb ?_;refine⟨rfl,fun b7=>?_⟩;refine aR 0 [_,_,_] sizeOf41 ?_;refine an 69 [5,7] ?_;refine aB 2 ?_;refine dP call16 (Fq (oD ⟨n,dY n 40-20,s⟩).s 4 w4) ?_;refine aF 1 ?_;refine aR 0 [_,_,_] sizeOf9 ?_;refine an 69 [5,7] ?_;refine aB 3 ?_;refine en (cf 0 [_]) [.int .i64 0,.int .i64 0,.int .i64 0,.string ⟨#[]⟩,.string ⟨#[]⟩] [_,_,_,_,_] zeroValue43 runUnderlying30 sizeOf43 (fun CN=>?_);exact z28):p:=h
theorem VX(h:p:=by
  refine dK 2 ?_;refine OD.kx (f:=134) (args:=[_,_]) (all:=[_,_]) (Sf:=[]) ap rfl rfl ot call134 (zo a 1) rfl ⟨ot,bV,trivial⟩ (eV _) ?_;rintro _ _ ⟨rfl,rfl⟩;refine aF 1 ?_;refine bP 40 (fun Lq KT=>?_) (fun Lq KT=>?_)
  ·refine aF 2 ?_;refine OD.kx (f:=134) (args:=[_,_]) (all:=[_,_]) (Sf:=[]) iq rfl rfl ot call134 (zo b 1) rfl ⟨ot,bV,trivial⟩ (eV _) ?_;rintro _ _ ⟨rfl,rfl⟩;exact z21
  refine an 76 [11,12] ?_;refine af [12,74] ?_;refine eD ?_;exact z22):p:=h
theorem VY(h:p:=by
  refine AD.one (i:=10) az ?_;refine lj call95 (mj (t.ag[i]'aa).high w4) ?_;refine cy 13 rfl (nO (pl:=[(0,_),(1,_),(2,_),(3,_),(4,_)]) (ds:=[_,_,_,_,_]) rfl zeroValue153 runUnderlying153 Ox ⟨rfl,ot,rfl,ot,rfl,ot,rfl,ot,rfl,ot,trivial⟩ rfl rfl) ?_;refine AD.one (i:=14) az ?_;refine j3 (cf 0 [_]) [.bool false,.slice none 0 0,.slice none 0 0,.slice none 0 0,.int .i64 0] [_,_,_,_,_] zeroValue153 runUnderlying49 sizeOf153 (fun Aq=>?_);refine j4 0 46 5 1 ?_;exact MQ):p:=h
theorem Lr(h:p:=by
  refine e9 ?_;refine bq [3] ?_;refine af [52] ?_;refine aq ?_ ?_<;>intro fj gA
  ·exact MS
  exact MS):p:=h
theorem z124(h:p:=by
  refine af [4,5,6] ?_;refine CD.wk (Wk.tU (t:=4) (sz:=1) lk) ?_;refine CD.wk (Wk.tU (t:=5) (sz:=1) lk) ?_;exact oQ):p:=h
theorem VZ(h:p:=by
  refine dK 3 ?_;refine OD.kx (f:=134) (args:=[_,_]) (all:=[_,_]) (Sf:=[]) ap rfl rfl ot call134 (zo a b) rfl ⟨ot,ot,trivial⟩ (eV _) ?_;rintro _ _ ⟨rfl,rfl⟩;refine aF 1 ?_;refine bP 57 (fun uq BJ=>?_) (fun uq BJ=>?_)
  ·refine an 76 [11,12] ?_;refine af [12,74] ?_;refine fJ ?_;exact z22
  exact z21):p:=h
theorem Ls(h:p:=by
  refine af [2] ?_;refine aI [] ?_;exact vO):p:=h
theorem z127(h:p:=by
  refine af [2] ?_;refine eJ ?_;exact vO):p:=h
theorem V0(h:p:=by
  refine VC.body func10 rfl ntmps10 aO fun X0 w0 bg=>?_;refine bU ?_;refine OD.alloc (ds:=[_,_,_,_,_,_,_,_,_,_,_,_]) ap rfl rfl zeroValue32 rfl (fun b4=>?_);refine an 8 [0,1,4] ?_;refine aB 3 ?_;refine aR 0 [_,_,_,_,_,_,_,_,_,_,_,_] sizeOf32 ?_;refine an 8 [4] ?_;exact z51):p:=h
theorem V1(h:p:=by
  refine mA 7 rfl ?_;refine mA 8 rfl ?_;refine mA 9 rfl ?_;refine dH.later rfl ?_;refine AD.one (i:=10) az ?_;refine bz.skip rfl (mH rfl rfl rfl lk jn) rfl ?_;refine cy 11 rfl vr ?_;refine cy 12 rfl bF ?_;exact W6):p:=h
theorem z130(h:p:=by
  skip;refine bq [1,2,39] ?_;refine eD ?_;refine af [4] ?_;refine eJ ?_;exact GW):p:=h
theorem z131(h:p:=by
  have bX:(cU (ku key) (bu.take 2))<0∨(cU fU (bu.take 2))<0:=(by first|omega|(simp_all;omega)|simp_all)
  have mR:mr key bu nt (lo,hi)=(lo,hi):=(by unfold mr;rw[sA vu,if_neg sI,if_pos bX])
  rw[mR] at aW;exact Xm):p:=h
theorem xp(h:p:=by
  refine af [2] ?_;refine eJ ?_;exact Xl):p:=h
theorem V2(h:p:=by
  refine bU ?_;refine OD.alloc (ds:=[_,_,_]) ap rfl rfl zeroValue137 rfl (fun b2=>?_);refine an 5 [0,2] ?_;refine aB 2 ?_;refine aR 0 [_,_,_] sizeOf137 ?_;refine an 5 [2] ?_;exact z51):p:=h
theorem V3(h:p:=by
  refine af [52] ?_;refine aq ?_ ?_<;>intro fj gA
  ·refine af [2] ?_;refine aI [] ?_;exact MT
  refine af [2] ?_;refine aI [] ?_;exact MT):p:=h
theorem V4(h:p:=by
  refine VC.body func51 rfl ntmps51 aO fun X0 w0 bg=>?_;refine af [0,1] ?_;refine aB 2 ?_;refine bN (Zf rfl ot ot func96 az az az az) ?_;refine an 8 [4] ?_;exact z51):p:=h
theorem V5(h:p:=by
  have hf:nD (l.take i) l[i]=2:=(by unfold nD;rw[if_neg gE,if_pos w4])
  have aW:fD l=2:=(by rw[hinv,IZ aa (by rw[hf];decide),hf])
  exact xZ):p:=h
theorem B6(h:p:=by
  refine af [2] ?_;refine aI [] ?_;exact Xl):p:=h
theorem z138(h:p:=by
  have eS:pR a b=true:=EE (by rw[take_of_length_le w4,take_of_length_le w4] at G8;exact G8);refine af [4] ?_;exact CM):p:=h
theorem z139(h:p:=by
  refine OD.perm (dV (A:=[])) ?_;refine an 8 [2] ?_;refine CD.gP (t:=2) (Sq:=S7) lk qe (cn pO _) (cZ (A:=[])) ?_;exact z51):p:=h
theorem V6(h:p:=by
  skip;refine bq [1,14] ?_;refine aq ?_ ?_<;>intro bX cA
  ·refine af [2] ?_;exact z24
  exact z20):p:=h
theorem z141(h:p:=by
  refine af [4,5] ?_;exact G3):p:=h
theorem Lu(h:p:=by
  refine aR 0 [_,_,_] sizeOf41 ?_;refine an 42 [8,9] ?_;exact z60):p:=h
theorem z143(h:p:=by
  skip;refine aF 5 ?_;refine bP 17 (fun xq wT=>?_) (fun xq wT=>?_)
  ·exact G4
  exact G4):p:=h
theorem V7(h:p:=by
  skip;have eS:pR a b=false:=Jy fun e=>by rw[e] at aP;simp at aP
  refine af [4] ?_;exact z76):p:=h
theorem z145(h:p:=by
  skip;refine bq [1,2,71] ?_;refine eD ?_;refine af [4] ?_;refine eJ ?_;exact GW):p:=h
theorem z146(h:p:=by
  refine AD.two (i:=4) (j:=7) az ?_ ?_
  ·refine j3 (cf 0 [_,_]) [.string ⟨#[]⟩,.string ⟨#[]⟩] [_,_] zeroValue9 runUnderlying29 sizeOf9 (fun b8=>?_);refine j4 0 8 1 2 ?_;exact z116
  refine lj call21 (Gg) ?_;refine AD.one (i:=4) az ?_;refine j3 (cf 0 [_,_]) [.string ⟨#[]⟩,.string ⟨#[]⟩] [_,_] zeroValue9 runUnderlying29 sizeOf9 (fun b8=>?_);refine j4 0 8 1 2 ?_;exact VV):p:=h
theorem V8(h:p:=by
  refine AD.two (i:=7) (j:=11) az ?_ ?_
  ·refine lj call21 (Gg) ?_;exact VU
  refine bz.alloc (ds:=[_,_,_,_,_,_,_,_,_,_,_,_]) rfl ap rfl rfl zeroValue32 rfl (fun b3=>?_);exact z116):p:=h
theorem z148(h:p:=by
  refine AD.one (i:=15) az ?_;refine bz.gZ rfl iq rfl rfl rfl call139 (SH t.s 140 wU call140 QL hs) ⟨ot,tI,trivial⟩ ?_;refine cy 19 rfl nj ?_;refine cy 20 rfl xu ?_;exact Lr):p:=h
theorem V9(h:p:=by
  have qJ:eX h l[i]=6:=(by unfold eX zeroV;rw[if_neg de,if_neg uA,if_pos (by simp_all)])
  exact Ls):p:=h

end Go.Proofs.YtdgichenhdikgaaGreatDoor
namespace Go.Proofs.YtdgichenhdikgaaGreatDoor.V
open List
open Go.RowKit
variable {L X:Nat→Prop} {w':World} {b i k n off o' cap sz j m h' tt bytes:Nat} {I:Array Field} {v u:Value} {e t:TypeId} {y fo:Operand} {a:Act} {cur:Array Value} {lo hi:Option Operand} {ts:Array TypeId} {ad:Option Addr} {ps:Array (Nat×Operand)} {cX:Array Operand}
inductive D where
 | v (x:Value)
 | list (sz:Nat) (cs:List D) (len:Nat)
 | fx (cs:List D) (off:Nat)
 | agg (cs:List D)
 | di (cs:List D)
 | ew (f:Fn) (cs:List D)
 | kg (l:Nat) (os:List (Nat×Obj))
 | bS
 deriving Inhabited
variable {ds cs':List D} {l:List (Nat×D)}
inductive cg (w:World) (L:Nat→Prop):D→Value→Prop
 | v (x:Value):cg w L (.v x) x
 | my (sz:Nat) (ad:Option Addr) (cap:Nat):cg w L (.list sz [] 0) (.slice ad 0 cap)
 | list (sz:Nat) (cs:List D) (len b o cap:Nat) (f:Nat→Value) (hl:cs.length=len*sz) (h1:len≤cap) (h2:cap≤maxLen) (hb:b<w.heap.size) (hL:¬L b)
   (hc:∀i,i<cs.length→w.cell? ⟨b,o+i,none⟩=some (f i)) (hr:∀i (h:i<cs.length),cg w L cs[i] (f i)):cg w L (.list sz cs len) (.slice (some ⟨b,o,none⟩) len cap)
 | fx (cs:List D) (off b o:Nat) (f:Nat→Value) (hb:b<w.heap.size) (hL:¬L b)
   (hc:∀i,i<cs.length→w.cell? ⟨b,o+i,none⟩=some (f i)) (hr:∀i (h:i<cs.length),cg w L cs[i] (f i)):cg w L (.fx cs off) (.pointer (some ⟨b,o+off,none⟩))
 | agg (cs:List D) (vs:List Value) (hl:vs.length=cs.length) (hr:∀i (h:i<cs.length) (h':i<vs.length),cg w L cs[i] vs[i]):cg w L (.agg cs) (.agg vs.toArray)
 | di (cs:List D) (vs:List Value) (hl:vs.length=cs.length) (hr:∀i (h:i<cs.length) (h':i<vs.length),cg w L cs[i] vs[i]):cg w L (.di cs) (.tuple vs.toArray)
 | ew (fn:Fn) (cs:List D) (vs:List Value) (hl:vs.length=cs.length) (hr:∀i (h:i<cs.length) (h':i<vs.length),cg w L cs[i] vs[i]):cg w L (.ew fn cs) (.func fn #[] vs.toArray)
 | kg (l:Nat) (os:List (Nat×Obj)) (h:∀z∈os,z.1<w.heap.size∧¬L z.1∧w.heap[z.1]?=some z.2):cg w L (.kg l os) (.func (.yield l) #[] #[])
 | bS (x:Value):cg w L .bS x
theorem cg.nil{w:World}(sz:Nat):cg w L (.list sz [] 0) (.slice none 0 0):=.my sz none 0
theorem q8{w:World}(hb:b<w.heap.size)(h:w'.heap[b]?=w.heap[b]?):b<w'.heap.size:=by
 rcases Nat.lt_or_ge b w'.heap.size with h'|h'
 ·exact h'
 rw[Array.getElem?_eq_none h',Array.getElem?_eq_getElem hb] at h;cases h
theorem cg.mono{w:World}{I:Nat→Prop}{d:D}(h:cg w L d v)(H:∀b,b<w.heap.size→¬L b→w'.heap[b]?=w.heap[b]?∧¬I b):cg w' I d v:=by
 induction h with
 | v x=>exact .v x
 | my sz ad cap=>exact .my sz ad cap
 | list sz cs len b o cap f hl h1 h2 hb hL hc hr ih =>
  have E:=H b hb hL;exact .list sz cs len b o cap f hl h1 h2 (q8 hb E.1) E.2 (fun i hi=>(World.cell?_of_block (w:=w) (a:=⟨b,o+i,none⟩) E.1).trans (hc i hi)) ih
 | fx cs off b o f hb hL hc hr ih =>
  have E:=H b hb hL;exact .fx cs off b o f (q8 hb E.1) E.2 (fun i hi=>(World.cell?_of_block (w:=w) (a:=⟨b,o+i,none⟩) E.1).trans (hc i hi)) ih
 | agg cs vs hl hr ih=>exact .agg cs vs hl ih
 | di cs vs hl hr ih=>exact .di cs vs hl ih
 | ew fn cs vs hl hr ih=>exact .ew fn cs vs hl ih
 | kg l os h =>
  refine .kg l os fun z hz=>?_;obtain⟨h1,h2,h3⟩:=h z hz;have E:=H z.1 h1 h2;exact⟨q8 h1 E.1,E.2,E.1.trans h3⟩
 | bS x=>exact .bS x
structure ah where
 b:Nat
 e:TypeId
 size:Nat
 cs:List D
 deriving Inhabited
variable {S S' Sf R:List ah} {B:ah} {post:D→List ah→Prop}
def zb:TypeId:=1000003
def SI:TypeId:=1000004
def isMap(e:TypeId):Bool:=Nat.beq e zb||Nat.beq e SI
def BK(cur:Array Value):Obj:=.map (cur.mapIdx fun i k=>⟨k,.agg #[],i⟩) cur.size
def Ur:Value→Nat
 | .int _ n=>n.toNat
 | _=>0
def Wa:List Value→List MapEntry
 | k::v::b::r=>⟨k,v,Ur b⟩::Wa r
 | _=>[]
def af1(cur:Array Value):Obj:=match cur.toList with
 | c::r=>.map (Wa r).toArray (Ur c)
 | []=>.map #[] 0
def ob(e:TypeId)(cur:Array Value):Obj:=bif isMap e then (bif Nat.beq e SI then af1 cur else BK cur) else .cells cur e (0,0)
theorem kp(he:isMap e=false)(cur:Array Value):ob e cur = .cells cur e (0,0):=by rw[ob,he];rfl
theorem Us(cur:Array Value):ob zb cur=BK cur:=rfl
def KU(w:World)(L:Nat→Prop)(B:ah):Prop :=
 B.b<w.heap.size∧∃cur:Array Value,w.heap[B.b]?=some (ob B.e cur)∧cur.size=B.size∧B.cs.length≤B.size∧∀i (h:i<B.cs.length),∃u,cur[i]?=some u∧cg w L B.cs[i] u
def rj:Value→Bool
 | .tuple _=>false
 | _=>true
def ox(w:World)(b i:Nat):Value→Prop
 | .tuple vs=>∃t fz,w.heap[b]?=some (.cells vs t fz)
 | v=>w.cell? ⟨b,i,none⟩=some v
theorem ox.cell{w:World}(h:ox w b i v)(E:rj v=true):w.cell? ⟨b,i,none⟩=some v:=by
 cases v<;>first|exact h|cases E
theorem ox.of{w:World}(h:w.cell? ⟨b,i,none⟩=some v)(E:rj v=true):ox w b i v:=by
 cases v<;>first|exact h|cases E
theorem ox.on{w:World}(hb:w'.heap[b]?=w.heap[b]?)(h:ox w b i v):ox w' b i v:=by
 by_cases E:rj v=true
 ·exact .of ((World.cell?_of_block (w:=w) (a:=⟨b,i,none⟩) hb).trans (h.cell E)) E
 cases v<;>first|exact absurd rfl E|(obtain⟨t,fz,h⟩:=h;exact⟨t,fz,hb.trans h⟩)
theorem ox.lt{w:World}(h:ox w b i v):b<w.heap.size:=by
 by_cases E:rj v=true
 ·exact World.block_lt_of_cell? w _ (h.cell E)
 cases v<;>first|exact absurd rfl E|(obtain⟨t,fz,h⟩:=h;exact(Array.getElem?_eq_some_iff.1 h).1)
theorem QM{vs:List Value}(h:vs.all rj=true)(hi:vs[i]?=some v):rj v=true:=all_eq_true.1 h v (mem_of_getElem? hi)
structure dy where
 X:Nat→Prop
 w0:World
 S0:List Nat
 G:List (Nat×List Value)
 df:List Deferred
 CO:Act→World→Prop
variable {C:dy}
structure St where
 n:Nat
 env:List (Nat×D)
 S:List ah
def look(t:Nat):List (Nat×D)→D
 | []=>.bS
 | (i,d)::r=>bif Nat.beq i t then d else look t r
theorem fS(t i:Nat)(d:D)(l:List (Nat×D)):look t ((i,d)::l)=if i=t then d else look t l:=by
 rw[look];by_cases e:i=t
 ·subst e;simp
 have:Nat.beq i t=false:=by
  cases h:Nat.beq i t with
  | false=>rfl
  | true=>exact absurd (Nat.eq_of_beq_eq_true h) e
 rw[this,if_neg e];rfl
def au(S:List ah):List Nat:=S.map (·.b)
def live(X:Nat→Prop)(S:List ah)(b:Nat):Prop:=X b∨b∈au S
structure Fr (w:World) (S:List Nat) (w':World) (S':List Nat):Prop where
 os:w'.os=w.os
 tape:w'.tape=w.tape
 output:w'.output=w.output
 size:w.heap.size≤w'.heap.size
 block:∀b,b<w.heap.size→b∉S→w'.heap[b]?=w.heap[b]?∧b∉S'
theorem Fr.refl(w:World)(S:List Nat):Fr w S w S:=⟨rfl,rfl,rfl,Nat.le_refl _,fun _ _ h=>⟨rfl,h⟩⟩
theorem Fr.trans{E I O:World}{S1 S2 S3:List Nat}(h:Fr E S1 I S2)(k:Fr I S2 O S3):Fr E S1 O S3 :=
 ⟨k.os.trans h.os,k.tape.trans h.tape,k.output.trans h.output,Nat.le_trans h.size k.size,fun b hb hn =>
  have h1:=h.block b hb hn;have h2:=k.block b (Nat.lt_of_lt_of_le hb h.size) h1.2
  ⟨h2.1.trans h1.1,h2.2⟩⟩
structure Own (w:World) (L:Nat→Prop) (S:List ah):Prop where
 at_:∀B∈S,KU w L B
 apart:(au S).Nodup
structure bG (C:dy) (x:St) (a:Act) (w:World):Prop where
 defers:a.defers=C.df
 size:a.tmps.size=x.n
 env:∀t,t<x.n→cg w (live C.X x.S) (look t x.env) (a.tmps.getD t undef)
 own:Own w (live C.X x.S) x.S
 fr:Fr C.w0 C.S0 w (au x.S)
 ex:∀b,C.X b→b<C.w0.heap.size∧b∉C.S0
 eL:∀g∈C.G,(g.1<C.w0.heap.size∧g.1∉C.S0∧¬C.X g.1)∧∀i v,g.2[i]?=some v→ox C.w0 g.1 i v
def St.put(x:St)(t:Nat)(d:D):St:=⟨x.n,(t,d)::x.env,x.S⟩
theorem bG.put{C:dy}{x:St}{a:Act}{w:World}(h:bG C x a w){t:Nat}{d:D}{v:Value}(hd:cg w (live C.X x.S) d v):bG C (x.put t d) (a.put (some t) v) w:=by
 refine⟨h.defers,by simp[Act.put,St.put,h.size],fun i hi=>?_,h.own,h.fr,h.ex,h.eL⟩;have hs:=h.size;simp only[St.put,fS,Act.put] at hi ⊢;by_cases e:t=i
 ·subst e;rw[if_pos rfl];have:(a.tmps.setIfInBounds t v).getD t undef=v:=by
   simp[Array.getElem?_setIfInBounds,hs,hi]
  rw[this];exact hd
 rw[if_neg e];have:(a.tmps.setIfInBounds t v).getD i undef=a.tmps.getD i undef:=by
  simp[Array.getElem?_setIfInBounds_ne e]
 rw[this];exact h.env i hi
def Wk(x y:St):Prop:=∀C a w,bG C x a w→bG C y a w
theorem Wk.refl(x:St):Wk x x:=fun _ _ _ h=>h
theorem Wk.trans{x y z:St}(h:Wk x y)(k:Wk y z):Wk x z:=fun C a w s=>k C a w (h C a w s)
theorem Own.sub{w:World}(h:Own w (live X S) S)(hs:S'.Sublist S):Own w (live X S') S' :=
 have E:(au S').Sublist (au S):=Sublist.map _ hs
 ⟨fun B I=>by
  obtain⟨h0,cur,h1,h2,h3,h4⟩:=h.at_ B (hs.subset I);refine⟨h0,cur,h1,h2,h3,fun i hi=>?_⟩;obtain⟨u,hu,hr⟩:=h4 i hi;exact⟨u,hu,hr.mono fun b _ hn=>⟨rfl,fun hl=>hn (hl.imp id fun q=>E.subset q)⟩⟩,h.apart.sublist E⟩
theorem Wk.drop(n:Nat)(l:List (Nat×D))(S S':List ah)(hs:S'.Sublist S):Wk ⟨n,l,S⟩ ⟨n,l,S'⟩:=fun C a w h =>
 have E:(au S').Sublist (au S):=Sublist.map _ hs
 ⟨h.defers,h.size,fun t ht=>(h.env t ht).mono fun b _ hn=>⟨rfl,fun hl=>hn (hl.imp id fun q=>E.subset q)⟩,h.own.sub hs,
  ⟨h.fr.os,h.fr.tape,h.fr.output,h.fr.size,fun b hb hn=>⟨(h.fr.block b hb hn).1,fun q=>(h.fr.block b hb hn).2 (E.subset q)⟩⟩,h.ex,h.eL⟩
theorem cg.kV{w:World}{x y:Value}(h:cg w L (.v x) y):y=x:=by cases h;rfl
def aE(x:St):Operand→D
 | .tmp t=>bif Nat.blt t x.n then look t x.env else .bS
 | .const v=>.v v
 | .global g=>.v (.pointer (some ⟨g,0,none⟩))
 | .func f=>.ew (.func f) []
theorem bG.eval{C:dy}{x:St}{a:Act}{w:World}(h:bG C x a w)(o:Operand):cg w (live C.X x.S) (aE x o) (a.eval o):=by
 cases o with
 | tmp t =>
  simp only[aE,Act.eval];cases ht:Nat.blt t x.n with
  | true=>exact h.env t (Nat.le_of_ble_eq_true ht)
  | false=>exact .bS _
 | const v=>exact .v _
 | global g=>exact .v _
 | func f=>exact .ew (.func f) [] [] rfl (fun i h=>by simp at h)
theorem bG.flat{x:St}{w:World}(h:bG C x a w){o:Operand}(ho:aE x o = .v u):a.eval o=u:=by
 have:=h.eval o;rw[ho] at this;exact this.kV
theorem bG.fp{x:St}{w:World}(h:bG C x a w)(hk:x.S[k]?=some B):KU w (live C.X x.S) B:=h.own.at_ B (mem_of_getElem? hk)
theorem QN(hk:S[k]?=some B):live X S B.b:=.inr (mem_map.2 ⟨B,mem_of_getElem? hk,rfl⟩)
theorem bG.aT{x:St}{w:World}(h:bG C x a w){g:Nat×List Value}(hg:g∈C.G)(hi:g.2[i]?=some v):ox w g.1 i v:=by
 obtain⟨⟨h1,h2,h3⟩,h4⟩:=h.eL g hg;exact(h4 i v hi).on (h.fr.block g.1 h1 h2).1

inductive Rd where
 | none
 | fp (k:Nat)
 | jU
def Same(C:dy)(x:St)(w w':World):Rd→Prop
 | .none=>True
 | .fp k=>∀B,x.S[k]?=some B→w'.heap[B.b]?=w.heap[B.b]?
 | .jU=>∀b,b<w.heap.size→¬live C.X x.S b→w'.heap[b]?=w.heap[b]?
theorem Same.self(C:dy)(x:St)(w:World):∀k,Same C x w w k
 | .none=>trivial
 | .fp _=>fun _ _=>rfl
 | .jU=>fun _ _ _=>rfl
def bQ(P:Program)(G:List (Nat×List Value))(x:St)(o:Oper)(k:Rd)(d:D):Prop :=
 ∀C a w,C.G=G→bG C x a w→∃v,cg w (live C.X x.S) d v∧∀w',Same C x w w' k→(execOp a.eval o).run P w' = .ok (.value v) w'
variable {P:Program} {G:List (Nat×List Value)} {x:St} {o:Oper}
theorem Z0(ho:o.op = .move y):bQ P G x o .none (aE x y):=fun C a w _ h =>
 ⟨a.eval y,h.eval y,fun w' _=>by unfold execOp;simp[ho]⟩
theorem Zp(ho:o.op = .assign y):bQ P G x o .none (aE x y):=fun C a w _ h =>
 ⟨a.eval y,h.eval y,fun w' _=>by unfold execOp;simp[ho]⟩
theorem OW{c z:Operand}{t:Bool}(ho:o.op = .pick c y z)(hc:aE x c = .v (.bool t)):bQ P G x o .none (if t then aE x y else aE x z):=fun C a w _ h=>by
 refine⟨if t then a.eval y else a.eval z,by cases t<;>simp[h.eval],fun w' _=>?_⟩;unfold execOp;simp only[ho,h.flat hc,asBool];cases t<;>simp
def kQ(P:Program)(op:BinOp)(t:TypeId)(u u' r:Value):Prop:=∀(y z:Operand) w,(do eqGuard op t y z u u';Go.binOp op t u u':Sem Value).run P w = .ok r w
theorem dz{op:BinOp}{t':TypeId}{z:Operand}{u' r:Value}(ho:o.op = .binOp op t y z t')(hy:aE x y = .v u)(hz:aE x z = .v u')(hb:kQ P op t u u' r):bQ P G x o .none (.v r):=fun C a w _ h =>
 ⟨r,.v _,fun w' _=>by
  unfold execOp;have:=hb y z w';simp only[Sem.run_bind] at this;simp only[ho,h.flat hy,h.flat hz,Sem.run_bind,this,Result.andThen_ok,Sem.run_pure]⟩
theorem EF{op:UnOp}{r:Value}(ho:o.op = .unOp op t y)(hy:aE x y = .v u)(hb:∀w,(Op.unary op u).run P w = .ok r w):bQ P G x o .none (.v r):=fun C a w _ h =>
 ⟨r,.v _,fun w' _=>by
  unfold execOp;simp only[ho,h.flat hy,Sem.run_bind,hb w',Result.andThen_ok,Sem.run_pure]⟩
theorem oX{s:TypeId}{r:Value}(ho:o.op = .convert s t y)(hy:aE x y = .v u)(hb:∀w,(Go.convert s t u).run P w = .ok r w):bQ P G x o .none (.v r):=fun C a w _ h =>
 ⟨r,.v _,fun w' _=>by
  unfold execOp;simp only[ho,h.flat hy,Sem.run_bind,hb w',Result.andThen_ok,Sem.run_pure]⟩
theorem Oy{s:TypeId}{f:Field}{w:World}(O:∀w,(underlying s).run P w = .ok (.struct I) w)(hf:I[i]?=some f)(hn:∀w,(sizeOf f.type).run P w = .ok (n+1) w)(E:f.offset=off) :
  (Instr.fieldAt s (.pointer (some ⟨b,o',none⟩)) i).run P w = .ok (.pointer (some ⟨b,o'+off,none⟩)) w:=by
 subst E;simp[Instr.fieldAt,O,hf,Instr.sureAddr,fieldPlace,hn,Addr.add_mid]
theorem ZC {s:TypeId} {f:Field} (ho:o.op = .fieldAddr s y i) (hy:aE x y = .v (.pointer (some ⟨b,o',none⟩)))
  (O:∀w,(underlying s).run P w = .ok (.struct I) w) (hf:I[i]?=some f) (hn:∀w,(sizeOf f.type).run P w = .ok (n+1) w) (E:f.offset=off):bQ P G x o .none (.v (.pointer (some ⟨b,o'+off,none⟩))):=fun C a w _ h =>
 ⟨_,.v _,fun w' _=>by
  unfold execOp;simp only[ho,h.flat hy,Sem.run_bind,Oy O hf hn E,Result.andThen_ok,Sem.run_pure]⟩
theorem Zq {s:TypeId} {cs:List D} {f:Field} {O:Array Field} (ho:o.op = .fieldAddr s y i) (hy:aE x y = .fx cs o')
  (U:∀w,(underlying s).run P w = .ok (.struct O) w) (hf:O[i]?=some f) (hn:∀w,(sizeOf f.type).run P w = .ok (n+1) w) (E:f.offset=off):bQ P G x o .none (.fx cs (o'+off)):=fun C a w _ h=>by
 have hr:=h.eval y;rw[hy] at hr;generalize hg:a.eval y=u at hr;cases hr with
 | fx _ _ b I g hb hL hc hr =>
  refine⟨_,.fx cs (o'+off) b I g hb hL hc hr,fun w' _=>?_⟩;unfold execOp;simp only[ho,hg,Sem.run_bind,Oy U hf hn E,Result.andThen_ok,Sem.run_pure,Nat.add_assoc]
theorem Zg{cs:List D}{d:D}(ho:o.op = .extract y i)(hy:aE x y = .di cs)(hd:cs[i]?=some d):bQ P G x o .none d:=fun C a w _ h=>by
 have hr:=h.eval y;rw[hy] at hr;generalize hg:a.eval y=u at hr;cases hr with
 | di _ vs hl hr =>
  obtain⟨aa,he⟩:=List.getElem?_eq_some_iff.1 hd;refine⟨vs[i]'w4,?_,fun w' _=>?_⟩
  ·rw[←he];exact hr _ aa w4
  unfold execOp;simp[ho,hg,Instr.extract,getElem?_eq_getElem (show i<vs.length by omega)]
theorem Io{w:World}(ha:∀w,(isAgg t).run P w = .ok false w)(hc:w.cell? ⟨b,o',none⟩=some v) :
  (Instr.loadAt t (.pointer (some ⟨b,o',none⟩))).run P w = .ok v w:=by
 simp[Instr.loadAt,Instr.sureAddr,loadVar,ha,hc]
theorem Ip {vs:List Value} {w:World} (ha:∀w,(isAgg t).run P w = .ok true w) (hn:∀w,(sizeOf t).run P w = .ok n w) (hl:vs.length=n)
  (hc:∀j (h:j<vs.length),w.cell? ⟨b,o'+j,none⟩=some vs[j]) :
  (Instr.loadAt t (.pointer (some ⟨b,o',none⟩))).run P w = .ok (.agg vs.toArray) w:=by
 have:=run_loadCells_list (P:=P) w ⟨b,o',none⟩ vs (fun j v E=>by
  obtain⟨h1,h2⟩:=List.getElem?_eq_some_iff.1 E;rw[Addr.add_mid,hc j h1,h2])
 rw[hl] at this;simp[Instr.loadAt,Instr.sureAddr,loadVar,ha,hn,this]
theorem ow{w:World}(E:w.heap[b]?=some (.cells cur e (0,0)))(I:cur[i]?=some u):w.cell? ⟨b,i,none⟩=some u:=by
 unfold World.cell?;simp[E,I]
theorem D5 {d:D} (ho:o.op = .load t y) (hy:aE x y = .v (.pointer (some ⟨b,o',none⟩)))
  (hk:x.S[k]?=some B) (hb:B.b=b) (ha:∀w,(isAgg t).run P w = .ok false w) (hd:B.cs[o']?=some d) (hne:isMap B.e=false:=by rfl):bQ P G x o (.fp k) d:=fun C a w _ h=>by
 obtain⟨_,cur,h1,h2,h3,h4⟩:=h.fp hk;rw[kp hne] at h1;obtain⟨aa,he⟩:=List.getElem?_eq_some_iff.1 hd;obtain⟨u,hu,hr⟩:=h4 o' aa;refine⟨u,by rw[←he];exact hr,fun w' hw=>?_⟩;have E:w'.heap[B.b]?=_:=(hw B hk).trans h1;unfold execOp;subst hb;simp only[ho,h.flat hy,Sem.run_bind,Io ha (ow E hu),Result.andThen_ok,Sem.run_pure]
theorem AR (ho:o.op = .load t y) (hy:aE x y = .v (.pointer (some ⟨b,o',none⟩)))
  (hk:x.S[k]?=some B) (hb:B.b=b) (ha:∀w,(isAgg t).run P w = .ok true w) (hn:∀w,(sizeOf t).run P w = .ok n w) (hl:ds.length=n) (hd:(B.cs.drop o').take n=ds) (hne:isMap B.e=false:=by rfl):bQ P G x o (.fp k) (.agg ds):=fun C a w _ h=>by
 obtain⟨_,cur,h1,h2,h3,h4⟩:=h.fp hk;rw[kp hne] at h1;have hlen:o'+n≤B.cs.length∨n=0:=by
  have:=congrArg length hd;simp only[length_take,length_drop] at this;omega
 have E:∀j,j<n→∃u,cur[o'+j]?=some u∧∀(h:j<ds.length),cg w (live C.X x.S) ds[j] u:=fun j hj=>by
  obtain⟨u,hu,hr⟩:=h4 (o'+j) w4;refine⟨u,hu,fun h=>?_⟩;subst hd;simpa using hr
 refine⟨.agg ((range n).map fun j=>cur.getD (o'+j) undef).toArray,.agg _ _ (by simp[hl]) (fun i q1 q2=>?_),fun w' hw=>?_⟩
 ·obtain⟨u,hu,hr⟩:=E i w4;simp only[getElem_map,getElem_range,Array.getD_eq_getD_getElem?,hu,Option.getD_some];exact hr q1
 have I:w'.heap[B.b]?=_:=(hw B hk).trans h1;unfold execOp;subst hb;have:=Ip (P:=P) (w:=w') (b:=B.b) (o':=o') (vs:=(range n).map fun j=>cur.getD (o'+j) undef) ha hn bn (fun j hj=>by
  simp only[length_map,length_range] at hj;obtain⟨u,hu,_⟩:=E j hj;simp only[getElem_map,getElem_range,Array.getD_eq_getD_getElem?,hu,Option.getD_some];exact ow I hu)
 simp only[ho,h.flat hy,Sem.run_bind,this,Result.andThen_ok,Sem.run_pure]
theorem D3 {cs:List D} {d:D} (ho:o.op = .load t y) (hy:aE x y = .fx cs o')
  (ha:∀w,(isAgg t).run P w = .ok false w) (hd:cs[o']?=some d):bQ P G x o .jU d:=fun C a w _ h=>by
 have hr:=h.eval y;rw[hy] at hr;generalize hg:a.eval y=u at hr;cases hr with
 | fx _ _ b E g hb hL hc hr =>
  obtain⟨aa,he⟩:=List.getElem?_eq_some_iff.1 hd;refine⟨g o',by rw[←he];exact hr o' aa,fun w' hw=>?_⟩;have I:=World.cell?_of_block (w:=w) (a:=⟨b,E+o',none⟩) (hw b hb hL);unfold execOp;simp only[ho,hg,Sem.run_bind,Io ha (I.trans (hc o' aa)),Result.andThen_ok,Sem.run_pure]
theorem HR {cs:List D} (ho:o.op = .load t y) (hy:aE x y = .fx cs o')
  (ha:∀w,(isAgg t).run P w = .ok true w) (hn:∀w,(sizeOf t).run P w = .ok n w) (hl:ds.length=n) (hd:(cs.drop o').take n=ds):bQ P G x o .jU (.agg ds):=fun C a w _ h=>by
 have hr:=h.eval y;rw[hy] at hr;generalize hg:a.eval y=u at hr;cases hr with
 | fx _ _ b E g hb hL hc hr =>
  have hlen:o'+n≤cs.length∨n=0:=by
   have:=congrArg length hd;simp only[length_take,length_drop] at this;omega
  refine⟨.agg ((range n).map fun j=>g (o'+j)).toArray,.agg _ _ (by simp[hl]) (fun i q1 q2=>?_),fun w' hw=>?_⟩
  ·simp only[getElem_map,getElem_range];have:=hr (o'+i) w4;subst hd;simpa using this
  have:=Ip (P:=P) (w:=w') (b:=b) (o':=E+o') (vs:=(range n).map fun j=>g (o'+j)) ha hn bn (fun j hj=>by
   simp only[length_map,length_range] at hj;simp only[getElem_map,getElem_range];have I:=World.cell?_of_block (w:=w) (a:=⟨b,E+o'+j,none⟩) (hw b hb hL);rw[I,Nat.add_assoc];exact hc _ w4)
  unfold execOp;simp only[ho,hg,Sem.run_bind,this,Result.andThen_ok,Sem.run_pure]
theorem ZD {vs:List Value} (ho:o.op = .load t y) (hy:aE x y = .v (.pointer (some ⟨b,o',none⟩)))
  (hg:(b,vs)∈G) (ha:∀w,(isAgg t).run P w = .ok false w) (hd:vs[o']?=some v) (qT:rj v=true:=by rfl):bQ P G x o .jU (.v v):=fun C a w hG h=>by
 subst hG;refine⟨v,.v _,fun w' hw=>?_⟩;have h1:=(h.aT hg hd).cell qT;obtain⟨⟨q1,q2,E⟩,_⟩:=h.eL _ hg;have hb:b<w.heap.size:=Nat.lt_of_lt_of_le q1 h.fr.size;have hn:¬live C.X x.S b:=fun hl=>hl.elim E (h.fr.block b q1 q2).2;have I:=World.cell?_of_block (w:=w) (a:=⟨b,o',none⟩) (hw b hb hn);unfold execOp;simp only[ho,h.flat hy,Sem.run_bind,Io ha (I.trans h1),Result.andThen_ok,Sem.run_pure]

theorem SJ{len:Nat}{k:IntKind}{i:Int}{w:World}(E:∀w,(underlying t).run P w = .ok (.slice e) w)(hs:∀w,(sizeOf e).run P w = .ok sz w)(hi:i=j)(hj:j<len) :
  (Instr.indexAt t (.slice (some ⟨b,o',none⟩) len cap) (.int k i)).run P w = .ok (.pointer (some ⟨b,o'+j*sz,none⟩)) w:=by
 subst hi;simp[Instr.indexAt,asIntOf,E,hs,hj,Addr.add_mid]
theorem Pu {len:Nat} {cs:List D} {k:IntKind} {i:Int} {z:Operand} (ho:o.op = .indexAddr t y z) (hy:aE x y = .list sz cs len) (hz:aE x z = .v (.int k i))
  (I:∀w,(underlying t).run P w = .ok (.slice e) w) (hs:∀w,(sizeOf e).run P w = .ok sz w) (hi:i=j) (hj:j<len):bQ P G x o .none (.fx cs (j*sz)):=fun C a w _ h=>by
 have hr:=h.eval y;rw[hy] at hr;generalize hg:a.eval y=u at hr;cases hr with
 | my=>omega
 | list _ _ _ b E cap g hl h1 h2 hb hL hc hr =>
  refine⟨_,.fx cs (j*sz) b E g hb hL hc hr,fun w' _=>?_⟩;unfold execOp;simp only[ho,hg,h.flat hz,Sem.run_bind,SJ I hs hi hj,Result.andThen_ok,Sem.run_pure]
theorem OX {len:Nat} {k:IntKind} {i:Int} {z:Operand} (ho:o.op = .indexAddr t y z) (hy:aE x y = .v (.slice (some ⟨b,o',none⟩) len cap)) (hz:aE x z = .v (.int k i))
  (E:∀w,(underlying t).run P w = .ok (.slice e) w) (hs:∀w,(sizeOf e).run P w = .ok sz w) (hi:i=j) (hj:j<len):bQ P G x o .none (.v (.pointer (some ⟨b,o'+j*sz,none⟩))):=fun C a w _ h =>
 ⟨_,.v _,fun w' _=>by
  unfold execOp;simp only[ho,h.flat hy,h.flat hz,Sem.run_bind,SJ E hs hi hj,Result.andThen_ok,Sem.run_pure]⟩
theorem acq{len:Nat}{k:IntKind}{i:Int}{w:World}(E:∀w,(underlying t).run P w = .ok (.array len e) w)(hs:∀w,(sizeOf e).run P w = .ok sz w)(hi:i=j)(hj:j<len) :
  (Instr.indexAt t (.pointer (some ⟨b,o',none⟩)) (.int k i)).run P w = .ok (.pointer (some ⟨b,o'+j*sz,none⟩)) w:=by
 subst hi;simp[Instr.indexAt,asIntOf,E,hs,hj,Addr.add_mid,Instr.sureAddr]
theorem Z1 {len:Nat} {k:IntKind} {i:Int} {z:Operand} (ho:o.op = .indexAddr t y z) (hy:aE x y = .v (.pointer (some ⟨b,o',none⟩))) (hz:aE x z = .v (.int k i))
  (E:∀w,(underlying t).run P w = .ok (.array len e) w) (hs:∀w,(sizeOf e).run P w = .ok sz w) (hi:i=j) (hj:j<len):bQ P G x o .none (.v (.pointer (some ⟨b,o'+j*sz,none⟩))):=fun C a w _ h =>
 ⟨_,.v _,fun w' _=>by
  unfold execOp;simp only[ho,h.flat hy,h.flat hz,Sem.run_bind,acq E hs hi hj,Result.andThen_ok,Sem.run_pure]⟩
theorem H8 {s:ByteArray} {c:UInt8} {k:IntKind} {i:Int} {z:Operand} (ho:o.op = .index t y z) (hy:aE x y = .v (.string s)) (hz:aE x z = .v (.int k i))
  (E:∀w,(underlying t).run P w = .ok .string w) (hi:i=j) (hj:s[j]?=some c):bQ P G x o .none (.v (.int .u8 c.toNat)):=fun C a w _ h =>
 ⟨_,.v _,fun w' _=>by
  subst hi;unfold execOp;simp[ho,h.flat hy,h.flat hz,Instr.index,asIntOf,E,hj]⟩
theorem Z2 {len:Nat} {cs:List D} {d:D} {k:IntKind} {i:Int} {z:Operand} (ho:o.op = .index t y z) (hy:aE x y = .agg cs) (hz:aE x z = .v (.int k i))
  (E:∀w,(underlying t).run P w = .ok (.array len e) w) (hs:∀w,(sizeOf e).run P w = .ok sz w) (ha:∀w,(isAgg e).run P w = .ok false w) (hi:i=j) (hj:j<len) (hd:cs[j*sz]?=some d):bQ P G x o .none d:=fun C a w _ h=>by
 have hr:=h.eval y;rw[hy] at hr;generalize hg:a.eval y=u at hr;subst hi;cases hr with
 | agg _ vs hl hr =>
  obtain⟨aa,he⟩:=List.getElem?_eq_some_iff.1 hd;refine⟨vs[j*sz]'w4,?_,fun w' _=>?_⟩
  ·rw[←he];exact hr _ aa w4
  unfold execOp;simp[ho,hg,h.flat hz,Instr.index,asIntOf,E,hj,part,ha,hs,getElem?_eq_getElem (show j*sz<vs.length by omega)]
def mL(x:St)(y:Option Operand)(n:Nat)(ai9:Nat):Prop :=
 match y with
 | some y=>∃(k:IntKind) (i:Int),aE x y = .v (.int k i)∧i=n
 | none=>n=ai9
theorem sj{w:World}(h:bG C x a w){y:Option Operand}{E:Nat}(hb:mL x y n E):(∃k,y.map a.eval=some (.int k n))∨(y.map a.eval=none∧n=E):=by
 cases y with
 | none=>exact .inr ⟨rfl,hb⟩
 | some y =>
  obtain⟨k,i,h1,h2⟩:=hb;exact .inl ⟨k,by rw[Option.map_some,h.flat h1,h2]⟩
theorem D6{k:IntKind}{code:BoundsCode}{w:World}(h:n≤m):(Instr.sliceBound (.int k n) m code).run P w = .ok n w:=by
 unfold Instr.sliceBound;simp[asIntOf,h]
theorem v7{il:Bool}{len l h:Nat}{lo hi:Option Value}{w:World}(eK:(∃k,lo=some (.int k l))∨(lo=none∧l=0))(er:(∃k,hi=some (.int k h))∨(hi=none∧h=len))(h1:l≤h)(h2:h≤cap) :
  (Instr.sliceBounds il len cap lo hi none).run P w = .ok (l,h,cap) w:=by
 unfold Instr.sliceBounds;rcases eK with ⟨k,rfl⟩|⟨rfl,rfl⟩<;>rcases er with ⟨k',rfl⟩|⟨rfl,rfl⟩<;>simp[D6,h1,h2]
theorem HU {len l:Nat} {cs:List D} (ho:o.op = .slice t y lo hi none) (hy:aE x y = .list sz cs len) (eK:mL x lo l 0) (er:mL x hi h' len)
  (U:∀w,(underlying t).run P w = .ok (.slice e) w) (hs:∀w,(sizeOf e).run P w = .ok sz w) (h1:l≤h') (h2:h'≤len):bQ P G x o .none (.list sz ((cs.drop (l*sz)).take ((h'-l)*sz)) (h'-l)):=fun C a w _ h=>by
 have hr:=h.eval y;rw[hy] at hr;generalize hg:a.eval y=u at hr;have b1:=sj h eK;have b2:=sj h er;cases hr with
 | my _ ad cap =>
  have e1:l=0:=(by omega)
  have e2:h'=0:=(by omega)
  subst e1 e2;refine⟨.slice (if cap=0 then ad else ad.map (·.add (0*sz))) 0 cap,by simpa using cg.my sz _ _,fun w' _=>?_⟩;unfold execOp;simp[ho,hg,Instr.sliceAt,Instr.slice,U,v7 b1 b2 (Nat.le_refl _) (Nat.zero_le _),hs]
 | list _ _ _ b E cap g hl q1 q2 hb hL hc hr =>
  have hlen:((cs.drop (l*sz)).take ((h'-l)*sz)).length=(h'-l)*sz:=by
   rw[length_take,length_drop,hl,←Nat.sub_mul];exact Nat.min_eq_left (Nat.mul_le_mul_right _ w4)
  have O:∀i,i<(h'-l)*sz→l*sz+i<cs.length:=fun i hi=>by
   rw[hl];have:l*sz+(h'-l)*sz≤len*sz:=(by rw[←Nat.add_mul];exact Nat.mul_le_mul_right _ w4)
   omega
  by_cases I:cap=l
  ·have e2:h'=l:=(by omega)
   refine⟨.slice (some ⟨b,E,none⟩) (h'-l) (cap-l),?_,fun w' _=>?_⟩
   ·refine .list sz _ _ b E _ g hlen w4 w4 hb hL (fun i hi=>?_) (fun i hi=>?_)<;>(rw[hlen,e2] at hi;simp at hi)
   have b3:=fun w=>v7 (P:=P) (il:=true) (w:=w) b1 b2 h1 (Nat.le_trans h2 q1);unfold execOp;simp only[ho,hg,Instr.sliceAt,Instr.slice,U,Sem.run_bind,Result.andThen_ok,Option.map_none,b3,hs,Sem.run_pure,if_pos I]
  refine⟨.slice (some ⟨b,E+l*sz,none⟩) (h'-l) (cap-l),?_,fun w' _=>?_⟩
  ·refine .list sz _ _ b (E+l*sz) _ (fun i=>g (l*sz+i)) hlen w4 w4 hb hL (fun i hi=>?_) (fun i hi=>?_)
   ·rw[Nat.add_assoc];exact hc _ (O i (by rw[hlen] at hi;exact hi))
   simp only[getElem_take,getElem_drop];exact hr _ _
  have b3:=fun w=>v7 (P:=P) (il:=true) (w:=w) b1 b2 h1 (Nat.le_trans h2 q1);unfold execOp;simp only[ho,hg,Instr.sliceAt,Instr.slice,U,Sem.run_bind,Result.andThen_ok,Option.map_none,b3,hs,Sem.run_pure,if_neg I,Option.map_some,Addr.add_mid]
theorem OI {len:Nat} (ho:o.op = .slice t y lo hi none) (hy:aE x y = .v (.slice (some ⟨b,o',none⟩) len cap)) (eK:mL x lo 0 0) (er:mL x hi h' len)
  (E:∀w,(underlying t).run P w = .ok (.slice e) w) (hs:∀w,(sizeOf e).run P w = .ok sz w) (h2:h'≤cap):bQ P G x o .none (.v (.slice (some ⟨b,o',none⟩) h' cap)):=fun C a w _ h =>
 ⟨_,.v _,fun w' _=>by
  have b1:=sj h eK;have b2:=sj h er;unfold execOp;simp[ho,h.flat hy,Instr.sliceAt,Instr.slice,E,v7 b1 b2 (Nat.zero_le _) h2,hs,Addr.add_mid]⟩
theorem Zr {s:ByteArray} {l:Nat} (ho:o.op = .slice t y lo hi none) (hy:aE x y = .v (.string s)) (eK:mL x lo l 0) (er:mL x hi h' s.size)
  (E:∀w,(underlying t).run P w = .ok .string w) (h1:l≤h') (h2:h'≤s.size):bQ P G x o .none (.v (.string (s.extract l h'))):=fun C a w _ h =>
 ⟨_,.v _,fun w' _=>by
  have b1:=sj h eK;have b2:=sj h er;unfold execOp;simp[ho,h.flat hy,Instr.sliceAt,Instr.slice,E,v7 b1 b2 h1 h2]⟩
theorem aaS{len:Nat}{cs:List D}(ho:o.op = .call {callee:=.builtin .len,args:=#[y],argTypes:=ts})(ht:ts = #[t])(hy:aE x y = .list sz cs len)(E:∀w,(underlying t).run P w = .ok (.slice e) w):bQ P G x o .none (.v (.int .i64 len)):=fun C a w _ h=>by
 have hr:=h.eval y;rw[hy] at hr;generalize hg:a.eval y=u at hr;subst ht;refine⟨_,.v _,fun w' _=>?_⟩;cases hr<;>(unfold execOp;simp[ho,hg,resolve,invoke,builtin,Builtin.len_,E,goInt])
theorem OY{len:Nat}(ho:o.op = .call {callee:=.builtin .len,args:=#[y],argTypes:=ts})(ht:ts = #[t])(hy:aE x y = .v (.slice ad len cap))(E:∀w,(underlying t).run P w = .ok (.slice e) w):bQ P G x o .none (.v (.int .i64 len)):=fun C a w _ h=>by
 subst ht;refine⟨_,.v _,fun w' _=>?_⟩;unfold execOp;simp[ho,h.flat hy,resolve,invoke,builtin,Builtin.len_,E,goInt]
theorem D7 {s:ByteArray} (ho:o.op = .call {callee:=.builtin .len,args:=#[y],argTypes:=ts}) (ht:ts = #[t]) (hy:aE x y = .v (.string s))
  (E:∀w,(underlying t).run P w = .ok .string w):bQ P G x o .none (.v (.int .i64 s.size)):=fun C a w _ h=>by
 subst ht;refine⟨_,.v _,fun w' _=>?_⟩;unfold execOp;simp[ho,h.flat hy,resolve,invoke,builtin,Builtin.len_,E,goInt]
theorem Zs {b:Builtin} {u' r:Value} {z:Operand} (ho:o.op = .call {callee:=.builtin b,args:=#[y,z],argTypes:=ts}) (hy:aE x y = .v u) (hz:aE x z = .v u')
  (hb:∀cs w,(Go.builtin b ts o.type cs #[u,u']).run P w = .ok (.value r) w):bQ P G x o .none (.v r):=fun C a w _ h =>
 ⟨_,.v _,fun w' _=>by
  unfold execOp;simp[ho,h.flat hy,h.flat hz,resolve,invoke,hb]⟩
theorem Z3{fn:Fn}{E:Array Operand}(ho:o.op = .makeFunc fn #[] E)(hd:E.toList.map (aE x)=ds):bQ P G x o .none (.ew fn ds):=fun C a w _ h=>by
 subst hd;refine⟨.func fn #[] (E.toList.map a.eval).toArray,.ew _ _ _ bn (fun i q1 q2=>?_),fun w' _=>?_⟩
 ·simp only[getElem_map];exact h.eval _
 unfold execOp;simp[ho,Instr.makeFunc];rw[←Array.toList_map,Array.toArray_toList]
def l7(W:List Nat)(w w':World):Prop:=w.heap.size≤w'.heap.size∧∀b,b<w.heap.size→b∉W→w'.heap[b]?=w.heap[b]?
def fN(P:Program)(G:List (Nat×List Value))(x:St)(o:Oper)(W:List Nat)(post:St→Prop):Prop :=
 ∀(C:dy) (a:Act) (w:World) (K:Act→World→Prop) (Q:Exit→Act→World→Prop),C.G=G→bG C x a w→(∀y a' w',post y→bG C y a' w'→l7 W w w'→Fr w (au x.S) w' (au y.S)→K a' w')→o.wp P a w K Q
theorem l7.refl(W:List Nat)(w:World):l7 W w w:=⟨Nat.le_refl _,fun _ _ _=>rfl⟩
theorem bQ.fV{k:Rd}{d:D}{t:Nat}(h:bQ P G x o k d)(hd:o.dst=some t):fN P G x o [] (fun y=>y=x.put t d):=fun C a w K Q hG hs hK=>by
 obtain⟨v,hr,nW⟩:=h C a w hG hs;unfold Oper.wp;rw[nW w (Same.self C x w k),Oper.upon_value,hd];exact hK _ _ _ rfl (hs.put hr) (l7.refl _ _) (Fr.refl _ _)
def cellsOf:D→List D
 | .agg cs=>cs
 | .v (.agg cs)=>cs.toList.map .v
 | d=>[d]
def cx(w:World)(L:Nat→Prop)(ds:List D)(vs:List Value):Prop:=vs.length=ds.length∧∀i (h:i<ds.length) (h':i<vs.length),cg w L ds[i] vs[i]
theorem cx.mono{w w':World}{L E:Nat→Prop}{ds:List D}{vs:List Value}(h:cx w L ds vs)(H:∀b,b<w.heap.size→¬L b→w'.heap[b]?=w.heap[b]?∧¬E b):cx w' E ds vs :=
 ⟨h.1,fun i h1 h2=>(h.2 i h1 h2).mono H⟩
def one:D→Bool
 | .v x=>x.oneCell'
 | .list ..|.fx ..|.ew ..=>true
 | _=>false
theorem cg.A8{w:World}{d:D}(h:cg w L d v)(hd:one d=true):v.oneCell'=true:=by
 cases h<;>first|exact hd|rfl|exact absurd hd (by simp[one])
theorem cg.cells{w:World}{L:Nat→Prop}{d:D}{v:Value}(h:cg w L d v)(hd:d≠.bS):cx w L (cellsOf d) v.cells.toList:=by
 have E:∀(d:D) (v:Value),v.cells = #[v]→cellsOf d=[d]→cg w L d v→cx w L (cellsOf d) v.cells.toList:=fun d v h1 h2 h3=>by
  rw[h1,h2];refine⟨rfl,fun i q1 q2=>?_⟩;have:i=0:=(by simpa using q1)
  subst this;exact h3
 cases h with
 | v =>
  cases v with
  | agg cs =>
   refine⟨by simp[cellsOf,Value.cells],fun i q1 q2=>?_⟩;simp only[cellsOf,getElem_map,Value.cells];exact .v _
  | _=>exact E _ _ rfl rfl (.v _)
 | my sz ad cap=>exact E _ _ rfl rfl (.my sz ad cap)
 | list sz cs len b o cap f hl h1 h2 hb hL hc hr=>exact E _ _ rfl rfl (.list sz cs len b o cap f hl h1 h2 hb hL hc hr)
 | fx cs off b o f hb hL hc hr=>exact E _ _ rfl rfl (.fx cs off b o f hb hL hc hr)
 | agg cs vs hl hr=>exact⟨by simp[cellsOf,Value.cells,hl],fun i q1 q2=>hr i q1 q2⟩
 | di cs vs hl hr=>exact E _ _ rfl rfl (.di cs vs hl hr)
 | ew fn cs vs hl hr=>exact E _ _ rfl rfl (.ew fn cs vs hl hr)
 | kg l os h=>exact E _ _ rfl rfl (.kg l os h)
 | bS=>exact absurd rfl hd
theorem getElem?_push_lt{w:World}{ob:Obj}(h:b<w.heap.size):(w.alloc ob).heap[b]?=w.heap[b]?:=Below.heap_alloc w ob b h
theorem bG.U5 {w:World} (h:bG C x a w) {t:Nat} {cells:Array Value} {size:Nat} (hr:cx w (live C.X x.S) ds cells.toList) (O:cells.size=size) {d:D}
  (hd:∀L,cg (w.alloc (ob e cells)) L d v) :
  bG C ⟨x.n,(t,d)::x.env,⟨w.heap.size,e,size,ds⟩::x.S⟩ (a.put (some t) v) (w.alloc (ob e cells)):=by
 have aa:∀b,live C.X x.S b→b<w.heap.size:=fun b hb=>by
  rcases hb with hb|hb
  ·exact Nat.lt_of_lt_of_le (h.ex b hb).1 h.fr.size
  obtain⟨B,I,rfl⟩:=mem_map.1 hb;exact(h.own.at_ B I).1
 have H:∀b,b<w.heap.size→¬live C.X x.S b→(w.alloc (ob e cells)).heap[b]?=w.heap[b]?∧¬live C.X (⟨w.heap.size,e,size,ds⟩::x.S) b:=fun b hb hn =>
  ⟨getElem?_push_lt hb,fun hl=>by
   rcases hl with hl|hl
   ·exact hn (.inl hl)
   simp only[au,map_cons,mem_cons] at hl;rcases hl with hl|hl
   ·omega
   exact hn (.inr hl)⟩
 have base:bG C ⟨x.n,x.env,⟨w.heap.size,e,size,ds⟩::x.S⟩ a (w.alloc (ob e cells)):=by
  refine⟨h.defers,h.size,fun t ht=>(h.env t ht).mono H,⟨fun B I=>?_,?_⟩,?_,h.ex,h.eL⟩
  ·rcases mem_cons.1 I with rfl|I
   ·refine⟨by simp,cells,heap_alloc_new w _,O,?_,fun i hi=>?_⟩
    ·have:=hr.1;simp at this;simp only;omega
    have E:i<cells.toList.length:=(by rw[hr.1];exact hi)
    refine⟨cells.toList[i],?_,(hr.2 i hi E).mono H⟩;simp at E;simp[E]
   obtain⟨h0,cur,h1,h2,h3,h4⟩:=h.own.at_ B I;refine⟨by simp;omega,cur,(getElem?_push_lt h0).trans h1,h2,h3,fun i hi=>?_⟩;obtain⟨u,hu,hq⟩:=h4 i hi;exact⟨u,hu,hq.mono H⟩
  ·show(w.heap.size::au x.S).Nodup;exact nodup_cons.2 ⟨fun hm=>Nat.lt_irrefl _ (aa _ (.inr hm)),h.own.apart⟩
  refine⟨h.fr.os,h.fr.tape,h.fr.output,by simp;have:=h.fr.size;omega,fun b hb hn=>?_⟩;obtain⟨q1,q2⟩:=h.fr.block b hb hn;have U:=Nat.lt_of_lt_of_le hb h.fr.size;refine⟨(getElem?_push_lt U).trans q1,fun hm=>?_⟩;simp only[au,map_cons,mem_cons] at hm;rcases hm with hm|hm
  ·omega
  exact q2 hm
 exact base.put (hd _)
theorem bG.new {w:World} (h:bG C x a w) {t:Nat} {cells:Array Value} {size:Nat} (hr:cx w (live C.X x.S) ds cells.toList) (E:cells.size=size) {d:D}
  (hd:∀L,cg (w.alloc (.cells cells e)) L d v) (hne:isMap e=false:=by rfl) :
  bG C ⟨x.n,(t,d)::x.env,⟨w.heap.size,e,size,ds⟩::x.S⟩ (a.put (some t) v) (w.alloc (.cells cells e)):=by
 have:=bG.U5 h (e:=e) hr E (t:=t) (d:=d) (v:=v) (fun L=>by rw[kp hne];exact hd L);rw[kp hne] at this;exact this
theorem l7.alloc(w:World)(ob:Obj):l7 [] w (w.alloc ob):=⟨by simp,fun b hb _=>getElem?_push_lt hb⟩
theorem Fr.alloc(w:World)(ob:Obj)(S:List Nat):Fr w S (w.alloc ob) (w.heap.size::S) :=
 ⟨rfl,rfl,rfl,by simp,fun b hb hn=>⟨getElem?_push_lt hb,fun hm=>by
  rcases mem_cons.1 hm with hm|hm
  ·omega
  exact hn hm⟩⟩
def wL(x:St)(t:Nat)(e:TypeId)(ds:List D)(y:St):Prop:=∃b,y=⟨x.n,(t,.v (.pointer (some ⟨b,0,none⟩)))::x.env,⟨b,e,ds.length,ds⟩::x.S⟩
theorem AW{z:Value}{t:Nat}(ho:o.op = .alloc e)(hd:o.dst=some t)(hz:∀w,(zeroValue e).run P w = .ok z w)(jq:z.cells.toList.map .v=ds)(hne:isMap e=false:=by rfl):fN P G x o [] (wL x t e ds):=fun C a w K Q hG h hK=>by
 subst jq;unfold Oper.wp;have:(execOp a.eval o).run P w = .ok (.value (.pointer (some ⟨w.heap.size,0,none⟩))) (w.alloc (.cells z.cells e)):=by
  unfold execOp;simp[ho,Instr.alloc,hz,newVar,newRow]
 rw[this,Oper.upon_value,hd];refine hK _ _ _ ⟨w.heap.size,rfl⟩ (h.new (ds:=z.cells.toList.map .v) ⟨by simp,fun i q1 q2=>?_⟩ bn (fun L=>.v _) hne) (l7.alloc _ _) (Fr.alloc _ _ _);simp only[getElem_map];exact .v _
theorem aem{t:Nat}{d:D}(ho:o.op = .box e y)(hd:o.dst=some t)(hy:aE x y=d)(hj:d≠.bS)(jq:cellsOf d=ds)(hne:isMap e=false:=by rfl):fN P G x o [] (wL x t e ds):=fun C a w K Q hG h hK=>by
 subst jq;unfold Oper.wp;have:(execOp a.eval o).run P w = .ok (.value (.pointer (some ⟨w.heap.size,0,none⟩))) (w.alloc (.cells (a.eval y).cells e)):=by
  unfold execOp;simp[ho,Instr.box,newVar,newRow]
 rw[this,Oper.upon_value,hd];have hr:=h.eval y;rw[hy] at hr;have hc:=hr.cells hj;refine hK _ _ _ ⟨w.heap.size,rfl⟩ (h.new (ds:=cellsOf d) hc (by have:=hc.1;simpa using this) (fun L=>.v _) hne) (l7.alloc _ _) (Fr.alloc _ _ _)

def da(cs:List D)(off:Nat):List D→List D
 | []=>cs
 | d::r=>da (cs.set off d) (off+1) r
def mu(place:Nat→Option (Nat×Nat))(cells:List D):List (Nat×D)→Option (List D)
 | []=>some cells
 | (i,d)::rest =>
  match place i with
  | none=>none
  | some (off,size)=>if (cellsOf d).length≠size||off+(cellsOf d).length>cells.length then none else mu place (da cells off (cellsOf d)) rest
theorem cx.set{w:World}{L:Nat→Prop}{ds:List D}{vs:List Value}(h:cx w L ds vs)(i:Nat){d:D}{v:Value}(hd:cg w L d v):cx w L (ds.set i d) (vs.set i v) :=
 ⟨by simp[h.1],fun j h1 h2=>by
  rw[getElem_set,getElem_set];split
  ·exact hd
  exact h.2 j _ _⟩
theorem cx.tail{w:World}{d:D}{vs:List Value}(h:cx w L (d::ds) (v::vs)):cg w L d v∧cx w L ds vs :=
 ⟨h.2 0 bn bn,by simpa using h.1,fun i h1 h2=>h.2 (i+1) (by simpa using h1) (by simpa using h2)⟩
theorem Iq{β:Type}(f:β→Value→Nat→β):∀(r:List Value) (k:Nat) (z:β),(r.zipIdx (k+1)).foldl (fun c (x:Value×Nat)=>f c x.1 x.2) z=(r.zipIdx k).foldl (fun c (x:Value×Nat)=>f c x.1 (x.2+1)) z
 | [],_,_=>rfl
 | v::r,k,z=>by
  simp only[zipIdx_cons,foldl_cons];exact Iq f r (k+1) _
theorem cx.da{w:World}{L:Nat→Prop}:∀(ds:List D) (vs:List Value) (cs:List D) (cells:List Value) (off:Nat),cx w L ds vs→cx w L cs cells→cx w L (da cs off ds) (vs.zipIdx.foldl (fun cs (c,j)=>cs.set (off+j) c) cells)
 | [],[],cs,cells,off,_,h=>h
 | [],_::_,_,_,_,h,_=>by simp[cx] at h
 | _::_,[],_,_,_,h,_=>by simp[cx] at h
 | d::ds,v::vs,cs,cells,off,h,hc=>by
  obtain⟨h0,h1⟩:=h.tail;have E:=cx.da ds vs (cs.set off d) (cells.set off v) (off+1) h1 (hc.set off h0);have e:(v::vs).zipIdx.foldl (fun cs (x:Value×Nat)=>cs.set (off+x.2) x.1) cells=vs.zipIdx.foldl (fun cs (x:Value×Nat)=>cs.set (off+1+x.2) x.1) (cells.set off v):=by
   rw[zipIdx_cons,foldl_cons,Nat.add_zero,Iq (fun (c:List Value) v n=>c.set (off+n) v)];congr 1;funext a b;rw[Nat.add_assoc,Nat.add_comm 1]
  rw[e];exact E
theorem Eg:∀(l:List (Value×Nat)) (cells:Array Value) (off:Nat),(l.foldl (fun cs (x:Value×Nat)=>cs.setIfInBounds (off+x.2) x.1) cells).toList=l.foldl (fun cs (x:Value×Nat)=>cs.set (off+x.2) x.1) cells.toList
 | [],_,_=>rfl
 | (v,j)::l,cells,off=>by
  simp only[foldl_cons];rw[Eg l];simp
theorem EG{w:World}{L:Nat→Prop}(place:Nat→Option (Nat×Nat)):∀(E:List (Nat×D)) (sL:List (Nat×Value)) (cs:List D) (cells:Array Value) (ds:List D),
  E.length=sL.length→(∀i (h:i<E.length) (h':i<sL.length),E[i].1=sL[i].1∧E[i].2≠.bS∧cg w L E[i].2 sL[i].2)→cx w L cs cells.toList→mu place cs E=some ds →
  ∃I,Instr.fill place cells sL=some I∧cx w L ds I.toList
 | [],[],cs,cells,ds,_,_,hc,hf=>by
  simp only[mu,Option.some.injEq] at hf;subst hf;exact⟨cells,rfl,hc⟩
 | [],_::_,_,_,_,h,_,_,_=>by simp at h
 | _::_,[],_,_,_,h,_,_,_=>by simp at h
 | (i,d)::E,(j,v)::sL,cs,cells,ds,hl,hp,hc,hf=>by
  obtain⟨h1,h2,h3⟩:=hp 0 bn bn;simp only[getElem_cons_zero] at h1 h2 h3;subst h1;have O:=h3.cells h2;have U:v.cells.size=(cellsOf d).length:=(by have:=O.1;simpa using this)
  have Z:cells.size=cs.length:=(by have:=hc.1;simpa using this)
  unfold mu at hf;unfold Instr.fill;cases fK:place i with
  | none=>rw[fK] at hf;simp at hf
  | some os =>
   obtain⟨off,size⟩:=os;simp only[fK] at hf ⊢;rw[U,Z];split at hf
   ·cases hf
   rename_i hn;rw[if_neg hn];refine EG place E sL _ _ ds xR (fun i h h'=>hp (i+1) nf (by simpa using h')) ?_ hf;have:=cx.da (w:=w) (L:=L) (cellsOf d) v.cells.toList cs cells.toList off O hc;rw[←Eg] at this;have e:v.cells.zipIdx.foldl (fun cs (x:Value×Nat)=>cs.setIfInBounds (off+x.2) x.1) cells=v.cells.toList.zipIdx.foldl (fun cs (x:Value×Nat)=>cs.setIfInBounds (off+x.2) x.1) cells:=by
    rw[←Array.foldl_toList,Array.toList_zipIdx]
   rw[e];exact this
theorem cx.sL(w:World)(L:Nat→Prop)(vs:List Value):cx w L (vs.map .v) vs:=⟨by simp,fun i h1 h2=>by simp only[getElem_map];exact .v _⟩
def lO(x:St)(ps:Array (Nat×Operand)):List (Nat×D):=ps.toList.map fun p=>(p.1,aE x p.2)
theorem Ir{w:World}(h:bG C x a w)(ps:Array (Nat×Operand))(hj:∀p∈lO x ps,p.2≠.bS):(lO x ps).length=((ps.map fun p=>(p.1,a.eval p.2)).toList).length ∧
  ∀i (h1:i<(lO x ps).length) (h2:i<((ps.map fun p=>(p.1,a.eval p.2)).toList).length),(lO x ps)[i].1=((ps.map fun p=>(p.1,a.eval p.2)).toList)[i].1∧(lO x ps)[i].2≠.bS∧cg w (live C.X x.S) (lO x ps)[i].2 ((ps.map fun p=>(p.1,a.eval p.2)).toList)[i].2:=by
 refine⟨by simp[lO],fun i h1 h2=>⟨?_,hj _ (getElem_mem h1),?_⟩⟩
 ·simp[lO]
 simp only[lO,getElem_map,Array.toList_map];exact h.eval _
theorem ZE {E:Array Field} {places:Array (Nat×Nat)} {z:Value} (ho:o.op = .build t ps) (hz:∀w,(zeroValue t).run P w = .ok z w)
  (I:∀w,(underlying t).run P w = .ok (.struct E) w) (hp:∀w,(E.mapM fun f=>do pure (f.offset,←sizeOf f.type):Sem (Array (Nat×Nat))).run P w = .ok places w)
  (hj:∀p∈lO x ps,p.2≠.bS) (hd:mu (places[·]?) (z.cells.toList.map .v) (lO x ps)=some ds):bQ P G x o .none (.agg ds):=fun C a w _ h=>by
 obtain⟨q1,q2⟩:=Ir h ps hj;obtain⟨BB,h1,h2⟩:=EG (w:=w) (L:=live C.X x.S) (places[·]?) (lO x ps) ((ps.map fun p=>(p.1,a.eval p.2)).toList) _ z.cells ds q1 q2 (cx.sL _ _ _) hd;refine⟨.agg BB.toList.toArray,.agg _ _ h2.1 h2.2,fun w' _=>?_⟩;unfold execOp;simp only[ho,Instr.build,hz,I,hp,Sem.run_bind,Result.andThen_ok,h1,Sem.run_pure,Array.toArray_toList]
theorem Zt {z:Value} (ho:o.op = .build t ps) (hz:∀w,(zeroValue t).run P w = .ok z w)
  (E:∀w,(underlying t).run P w = .ok (.array n e) w) (hs:∀w,(sizeOf e).run P w = .ok sz w)
  (hj:∀p∈lO x ps,p.2≠.bS) (hd:mu (fun i=>some (i*sz,sz)) (z.cells.toList.map .v) (lO x ps)=some ds):bQ P G x o .none (.agg ds):=fun C a w _ h=>by
 obtain⟨q1,q2⟩:=Ir h ps hj;obtain⟨BB,h1,h2⟩:=EG (w:=w) (L:=live C.X x.S) (fun i=>some (i*sz,sz)) (lO x ps) ((ps.map fun p=>(p.1,a.eval p.2)).toList) _ z.cells ds q1 q2 (cx.sL _ _ _) hd;refine⟨.agg BB.toList.toArray,.agg _ _ h2.1 h2.2,fun w' _=>?_⟩;unfold execOp;simp only[ho,Instr.build,hz,E,hs,Sem.run_bind,Result.andThen_ok,h1,Sem.run_pure,Array.toArray_toList]
def aen(x:St)(t:Nat)(e:TypeId)(len:Nat)(ds:List D)(y:St):Prop:=∃b,y=⟨x.n,(t,.v (.slice (some ⟨b,0,none⟩) len len))::x.env,⟨b,e,ds.length,ds⟩::x.S⟩
theorem HQ {len:Nat} {z:Value} {zs:List D} (ho:o.op = .buildSlice t len ps) (jz:o.dst=some tt) (hz:∀w,(zeroValue e).run P w = .ok z w)
  (I:∀w,(underlying t).run P w = .ok (.slice e) w) (hs:∀w,(sizeOf e).run P w = .ok sz w) (hl:0<len*sz) (ir:len*sz≤2 ^ 24) (eO:(Array.range (len*sz)).map (fun i=>z.cells[i % z.cells.size]!)=(zs.map (fun d=>match d with|.v u=>u|_=>undef)).toArray) (O:∀d∈zs,∃u,d = .v u)
  (hj:∀p∈lO x ps,p.2≠.bS) (hd:mu (fun i=>some (i*sz,sz)) zs (lO x ps)=some ds) (hne:isMap e=false:=by rfl):fN P G x o [] (aen x tt e len ds):=fun C a w K Q hG h hK=>by
 obtain⟨q1,q2⟩:=Ir h ps hj;have U:cx w (live C.X x.S) zs ((zs.map (fun d=>match d with|.v u=>u|_=>undef)).toArray).toList:=by
  refine⟨by simp,fun i h1 h2=>?_⟩;obtain⟨u,I⟩:=O _ (getElem_mem h1);simp only[getElem_map,I];exact .v _
 obtain⟨BB,h1,h2⟩:=EG (w:=w) (L:=live C.X x.S) (fun i=>some (i*sz,sz)) (lO x ps) ((ps.map fun p=>(p.1,a.eval p.2)).toList) _ _ ds q1 q2 U hd;unfold Oper.wp;have:(execOp a.eval o).run P w = .ok (.value (.slice (some ⟨w.heap.size,0,none⟩) len len)) (w.alloc (.cells BB e)):=by
  unfold execOp;have E:¬len*sz=0:=(by omega)
  have Z:¬len*sz>2 ^ 24:=(by omega)
  simp only[ho,Instr.buildSlice,hz,I,hs,Sem.run_bind,Result.andThen_ok,Sem.run_pure,if_neg E,if_neg Z,eO,h1];simp[newRow]
 rw[this,Oper.upon_value,jz];exact hK _ _ _ ⟨w.heap.size,rfl⟩ (h.new (ds:=ds) h2 (by have:=h2.1;simpa using this) (fun L=>.v _) hne) (l7.alloc _ _) (Fr.alloc _ _ _)
theorem Oz(b:Nat):∀(vs:List Value) (o':Nat) (w:World) (cur:Array Value) (e:TypeId),w.heap[b]?=some (.cells cur e (0,0))→o'+vs.length≤cur.size →
  (w.setCells b o' vs).heap[b]?=some (.cells (vs.zipIdx.foldl (fun cs (x:Value×Nat)=>cs.setIfInBounds (o'+x.2) x.1) cur) e (0,0))∧(∀k,k≠b→(w.setCells b o' vs).heap[k]?=w.heap[k]?)∧(w.setCells b o' vs).heap.size=w.heap.size ∧
  (w.setCells b o' vs).os=w.os∧(w.setCells b o' vs).tape=w.tape∧(w.setCells b o' vs).output=w.output
 | [],o',w,cur,e,h,_=>⟨h,fun _ _=>rfl,rfl,rfl,rfl,rfl⟩
 | v::r,o',w,cur,e,h,hl=>by
  have h0:(w.setCell ⟨b,o',none⟩ v).heap[b]?=some (.cells (cur.setIfInBounds o' v) e (0,0)):=by
   simp[World.setCell,Array.getElem?_modify,h]
  obtain⟨i1,i2,i3,i4,i5,i6⟩:=Oz b r (o'+1) (w.setCell ⟨b,o',none⟩ v) (cur.setIfInBounds o' v) e h0 (by simp at hl ⊢;omega);refine⟨?_,fun k hk=>?_,?_,i4,i5,i6⟩
  ·rw[World.setCells,i1,zipIdx_cons,foldl_cons,Nat.add_zero,Iq (fun (c:Array Value) v n=>c.setIfInBounds (o'+n) v)];congr 3;funext a b;rw[Nat.add_assoc,Nat.add_comm 1]
  ·rw[World.setCells,i2 k hk,Below.heap_setCell _ _ _ _ hk]
  rw[World.setCells,i3];simp
theorem yE:∀(ds cs:List D) (off:Nat),(da cs off ds).length=cs.length
 | [],cs,off=>rfl
 | d::ds,cs,off=>by rw[da,yE ds];simp
theorem bG.store{w:World}(h:bG C x a w){vs:List Value}(hk:x.S[k]?=some B)(hr:cx w (live C.X x.S) ds vs)(hl:o'+ds.length≤B.cs.length)(hne:isMap B.e=false:=by rfl) :
  bG C ⟨x.n,x.env,x.S.set k {B with cs:=da B.cs o' ds}⟩ a (w.setCells B.b o' vs)∧l7 [B.b] w (w.setCells B.b o' vs)∧Fr w (au x.S) (w.setCells B.b o' vs) (au (x.S.set k {B with cs:=da B.cs o' ds})):=by
 obtain⟨h0,cur,h1,h2,h3,h4⟩:=h.fp hk;rw[kp hne] at h1;have rR:vs.length=ds.length:=hr.1;obtain⟨i1,i2,i3,i4,i5,i6⟩:=Oz B.b vs o' w cur B.e h1 w4;have dU:k<x.S.length:=(List.getElem?_eq_some_iff.1 hk).1;have vQ:x.S[k]=B:=(List.getElem?_eq_some_iff.1 hk).2;have E:au (x.S.set k {B with cs:=da B.cs o' ds})=au x.S:=by
  unfold au;rw[map_set];apply ext_getElem bn;intro i q1 q2;rw[getElem_set];split
  ·rename_i e;subst e;simp[vQ]
  rfl
 have I:live C.X (x.S.set k {B with cs:=da B.cs o' ds})=live C.X x.S:=(by funext b;simp only[live,E])
 have hB:live C.X x.S B.b:=QN hk;have H:∀b,b<w.heap.size→¬live C.X x.S b→(w.setCells B.b o' vs).heap[b]?=w.heap[b]?∧¬live C.X x.S b:=fun b _ hn=>⟨i2 b (fun e=>hn (e ▸ hB)),hn⟩
 refine⟨⟨h.defers,h.size,fun t ht=>?_,⟨fun B' M6=>?_,?_⟩,?_,h.ex,h.eL⟩,⟨by rw[i3];exact Nat.le_refl _,fun b _ hn=>i2 b (by simpa using hn)⟩,?_⟩
 ·simp only[I];exact(h.env t ht).mono H
 ·simp only[I];obtain⟨j,hj,O⟩:=mem_iff_getElem.1 M6;rw[length_set] at hj;rw[getElem_set] at O;by_cases e:k=j
  ·rw[if_pos e] at O;subst O;refine⟨by rw[i3];exact h0,_,i1.trans (by rw[kp hne]),?_,by simp only[yE];exact h3,fun i hi=>?_⟩
   ·have:=Eg vs.zipIdx cur o';have hlen:=congrArg length this;have aja:∀(l:List (Value×Nat)) (c:List Value),(l.foldl (fun cs (x:Value×Nat)=>cs.set (o'+x.2) x.1) c).length=c.length:=by
     intro l;induction l with
     | nil=>intro c;rfl
     | cons p l ih=>intro c;rw[foldl_cons,ih];simp
    rw[aja] at hlen;simp only[Array.length_toList] at hlen;rw[hlen,h2]
   have dh:cx w (live C.X x.S) B.cs (cur.toList.take B.cs.length):=by
    refine⟨by simp;omega,fun i q1 q2=>?_⟩;obtain⟨u,hu,hq⟩:=h4 i q1;have:(cur.toList.take B.cs.length)[i]=u:=by
     rw[getElem_take];rw[←Array.getElem?_toList,List.getElem?_eq_some_iff] at hu;exact hu.2
    rw[this];exact hq
   have U:=cx.da ds vs B.cs (cur.toList.take B.cs.length) o' hr dh;have U6:∀(l:List (Value×Nat)) (c:List Value),(∀p∈l,o'+p.2<B.cs.length)→l.foldl (fun cs (x:Value×Nat)=>cs.set (o'+x.2) x.1) (c.take B.cs.length)=(l.foldl (fun cs (x:Value×Nat)=>cs.set (o'+x.2) x.1) c).take B.cs.length:=by
    intro l;induction l with
    | nil=>intro c _;rfl
    | cons p l ih =>
     intro c hp;rw[foldl_cons,foldl_cons,←ih _ (fun q hq=>hp q (mem_cons_of_mem _ hq)),take_set]
   rw[U6 vs.zipIdx cur.toList (fun p hp=>by have:=mem_zipIdx hp;omega),←Eg] at U;simp only at hi;have He:=hi;rw[←U.1] at He;have hq:=U.2 i hi He;rw[getElem_take] at hq;refine⟨_,?_,hq.mono H⟩;rw[←Array.getElem?_toList,getElem?_eq_getElem]
  rw[if_neg e] at O;subst O;have hne:x.S[j].b≠B.b:=fun he=>by
   have hn:=h.own.apart;have CP:(au x.S)[j]'Af=(au x.S)[k]'Ad:=(by simp[au,he,vQ])
   have hp:=pairwise_iff_getElem.1 hn;rcases Nat.lt_trichotomy j k with Z|Z|Z
   ·exact hp j k Af Ad Z CP
   ·exact e Z.symm
   exact hp k j Ad Af Z CP.symm
  obtain⟨r0,lX,r1,r2,r3,r4⟩:=h.own.at_ x.S[j] (getElem_mem hj);refine⟨by rw[i3];exact r0,lX,(i2 _ hne).trans r1,r2,r3,fun i hi=>?_⟩;obtain⟨u,hu,hq⟩:=r4 i hi;exact⟨u,hu,hq.mono H⟩
 ·simp only[E];exact h.own.apart
 ·refine⟨i4.trans h.fr.os,i5.trans h.fr.tape,i6.trans h.fr.output,by rw[i3];exact h.fr.size,fun b hb hn=>?_⟩;obtain⟨q1,q2⟩:=h.fr.block b hb hn;refine⟨(i2 b (fun e=>q2 (e ▸ mem_map.2 ⟨B,mem_of_getElem? hk,rfl⟩))).trans q1,?_⟩;simp only[E];exact q2
 rw[E];exact⟨i4,i5,i6,by rw[i3];exact Nat.le_refl _,fun b hb hn=>⟨i2 b (fun e=>hn (e ▸ mem_map.2 ⟨B,mem_of_getElem? hk,rfl⟩)),hn⟩⟩
theorem Eh {d:D} {z:Operand} (ho:o.op = .store t y z) (jz:o.dst=none) (hy:aE x y = .v (.pointer (some ⟨b,o',none⟩)))
  (hk:x.S[k]?=some B) (hb:B.b=b) (hz:aE x z=d) (hj:d≠.bS) (h1:(cellsOf d).all one=true) (hn:∀w,(sizeOf t).run P w = .ok n w) (gd:(cellsOf d).length=n) (hl:o'+n≤B.cs.length) (dh:da B.cs o' (cellsOf d)=cs') (hne:isMap B.e=false:=by rfl) :
  fN P G x o [b] (fun y=>y=⟨x.n,x.env,x.S.set k {B with cs:=cs'}⟩):=fun C a w K Q hG h hK=>by
 subst dh hb;have hr:=h.eval z;rw[hz] at hr;have hc:=hr.cells hj;obtain⟨s1,s2,s3⟩:=h.store hk hc (o':=o') w4 hne;obtain⟨h0,cur,q1,q2,q3,q4⟩:=h.fp hk;rw[kp hne] at q1;have U:(a.eval z).cells.toList.length=n:=(by rw[hc.1,gd])
 have E:=run_storeCells_cells (P:=P) B.b o' (a.eval z).cells.toList 0 w (fun j hj=>by
   have:(o'+0+j)<cur.size:=(by omega)
   rw[ow q1 (u:=cur[o'+0+j]) (by simp[this])];rfl)
  (fun j hj=>by unfold World.frozen?;simp[q1]) (fun v hv=>by
   obtain⟨j,hj,rfl⟩:=mem_iff_getElem.1 hv;have O:j<(cellsOf d).length:=(by rw[←hc.1];exact hj)
   exact(hc.2 j O hj).A8 (all_eq_true.1 h1 _ (getElem_mem O)))
 have I:(execOp a.eval o).run P w = .ok .skip (w.setCells B.b o' (a.eval z).cells.toList):=by
  unfold execOp;have Z:(a.eval z).cells.size=n:=(by simpa using U)
  simp only[Nat.add_zero] at E;simp[ho,h.flat hy,Instr.storeAt,Instr.sureAddr,storeVar,hn,Z,E]
 unfold Oper.wp;rw[I,Oper.upon_skip,jz];exact hK _ _ _ rfl s1 s2 s3

structure Hf (G:List (Nat×List Value)) (X:Nat→Prop) (w:World) (S:List ah) (args:List D) (vs:List Value):Prop where
 ex:∀b,X b→b<w.heap.size∧b∉au S
 eL:∀g∈G,(g.1<w.heap.size∧g.1∉au S∧¬X g.1)∧∀i v,g.2[i]?=some v→ox w g.1 i v
 own:Own w (live X S) S
 args:cx w (live X S) args vs
def VC(P:Program)(G:List (Nat×List Value))(f:FuncId)(args:List D)(S:List ah)(post:D→List ah→Prop):Prop :=
 ∀(X:Nat→Prop) (w:World) (vs:List Value),Hf G X w S args vs→Calls P f vs.toArray w fun e w'=>∃v r S',e = .returned v∧post r S'∧Own w' (live X S') S'∧cg w' (live X S') r v∧Fr w (au S) w' (au S')
abbrev VP(P:Program)(G:List (Nat×List Value))(f:FuncId)(args:List D)(r:D):Prop:=VC P G f args [] fun r' S'=>r'=r∧S'=[]
theorem yG(hp:S.Perm (Sf++R)):live X S=live (fun b=>X b∨b∈au R) Sf:=by
 funext b;have:(au S).Perm (au Sf++au R):=(by have:=hp.map ah.b;simpa[au] using this)
 have:=this.mem_iff (a:=b);simp only[live,mem_append] at *;rw[this];exact propext ⟨fun h=>by rcases h with h|h|h<;>simp[h],fun h=>by rcases h with (h|h)|h<;>simp[h]⟩
theorem bG.call{w:World}(h:bG C x a w)(hG:C.G=G){f:FuncId}{args:List D}{vs:List Value}(hc:VC P G f args Sf post)(hp:x.S.Perm (Sf++R))(hr:cx w (live C.X x.S) args vs) :
  Calls P f vs.toArray w fun e w'=>∃v r S',e = .returned v∧post r S'∧cg w' (live C.X (S'++R)) r v∧bG C ⟨x.n,x.env,S'++R⟩ a w'∧l7 (au Sf) w w'∧Fr w (au x.S) w' (au (S'++R)):=by
 have hb:(au x.S).Perm (au Sf++au R):=(by have:=hp.map ah.b;simpa[au] using this)
 have hL:=yG (X:=C.X) hp;have hnd:(au Sf++au R).Nodup:=hb.nodup_iff.1 h.own.apart;obtain⟨n1,n2,n3⟩:=nodup_append.1 hnd;have U:∀b,b∈au R→b<w.heap.size:=fun b x6=>by
  obtain⟨B,O,rfl⟩:=mem_map.1 x6;exact(h.own.at_ B (hp.symm.subset (mem_append_right _ O))).1
 have Z:Hf G (fun b=>C.X b∨b∈au R) w Sf args vs:=by
  refine⟨fun b hx=>?_,fun g hg=>?_,⟨fun B O=>?_,n1⟩,?_⟩
  ·rcases hx with hx|hx
   ·obtain⟨q1,q2⟩:=h.ex b hx;exact⟨Nat.lt_of_lt_of_le q1 h.fr.size,fun hm=>(h.fr.block b q1 q2).2 (hb.symm.subset (mem_append_left _ hm))⟩
   exact⟨U b hx,fun hm=>n3 b hm b hx rfl⟩
  ·rw[←hG] at hg;obtain⟨⟨q1,q2,q3⟩,q4⟩:=h.eL g hg;have q5:=(h.fr.block g.1 q1 q2).2;refine⟨⟨Nat.lt_of_lt_of_le q1 h.fr.size,fun hm=>q5 (hb.symm.subset (mem_append_left _ hm)),fun hx=>?_⟩,fun i v hi=>h.aT hg hi⟩;rcases hx with hx|hx
   ·exact q3 hx
   exact q5 (hb.symm.subset (mem_append_right _ hx))
  ·rw[←hL];exact h.own.at_ B (hp.symm.subset (mem_append_left _ O))
  rw[←hL];exact hr
 refine(hc _ w vs Z).mono fun e w' ⟨v,r,S',h1,h2,h3,h4,h5⟩=>⟨v,r,S',h1,h2,?_,?_,⟨h5.size,fun b I hn=>(h5.block b I hn).1⟩,?_⟩
 ·have:live C.X (S'++R)=live (fun b=>C.X b∨b∈au R) S':=yG (Perm.refl _);rw[this];exact h4
 ·have XR:live C.X (S'++R)=live (fun b=>C.X b∨b∈au R) S':=yG (Perm.refl _);have H:∀b,b<w.heap.size→¬live C.X x.S b→w'.heap[b]?=w.heap[b]?∧¬live C.X (S'++R) b:=fun b aa hn=>by
   rw[hL] at hn;have E:b∉au Sf:=fun hm=>hn (.inr hm);obtain⟨q1,q2⟩:=h5.block b aa E;refine⟨q1,fun hl=>?_⟩;rw[XR] at hl;rcases hl with hl|hl
   ·exact hn (.inl hl)
   exact q2 hl
  refine⟨h.defers,h.size,fun t ht=>(h.env t ht).mono H,⟨fun B O=>?_,?_⟩,?_,h.ex,h.eL⟩
  ·rcases mem_append.1 O with O|O
   ·have:=h3.at_ B O;rw[←XR] at this;exact this
   obtain⟨r0,cur,r1,r2,r3,r4⟩:=h.own.at_ B (hp.symm.subset (mem_append_right _ O));have CQ:B.b∈au R:=mem_map.2 ⟨B,O,rfl⟩;have E:B.b∉au Sf:=fun hm=>n3 B.b hm B.b CQ rfl;have hh:=(h5.block B.b r0 E).1;refine⟨q8 r0 hh,cur,hh.trans r1,r2,r3,fun i hi=>?_⟩;obtain⟨u,hu,hq⟩:=r4 i hi;exact⟨u,hu,hq.mono H⟩
  ·show(au (S'++R)).Nodup;have:au (S'++R)=au S'++au R:=(by simp[au])
   rw[this];refine nodup_append.2 ⟨h3.apart,n2,fun b iZ c aZ he=>?_⟩;subst he;have E:b∉au Sf:=fun hm=>n3 b hm b aZ rfl;exact(h5.block b (U b aZ) E).2 iZ
  refine⟨h5.os.trans h.fr.os,h5.tape.trans h.fr.tape,h5.output.trans h.fr.output,Nat.le_trans h.fr.size h5.size,fun b I hn=>?_⟩;obtain⟨q1,q2⟩:=h.fr.block b I hn;have gk:b∉au Sf:=fun hm=>q2 (hb.symm.subset (mem_append_left _ hm));have iR:b∉au R:=fun hm=>q2 (hb.symm.subset (mem_append_right _ hm));obtain⟨q3,q4⟩:=h5.block b (Nat.lt_of_lt_of_le I h.fr.size) gk;refine⟨q3.trans q1,fun hm=>?_⟩;have:au (S'++R)=au S'++au R:=(by simp[au])
  rw[this] at hm;rcases mem_append.1 hm with hm|hm
  ·exact q4 hm
  exact iR hm
 refine⟨h5.os,h5.tape,h5.output,h5.size,fun b I hn=>?_⟩;have gk:b∉au Sf:=fun hm=>hn (hb.symm.subset (mem_append_left _ hm));have iR:b∉au R:=fun hm=>hn (hb.symm.subset (mem_append_right _ hm));obtain⟨q3,q4⟩:=h5.block b I gk;refine⟨q3,fun hm=>?_⟩;have:au (S'++R)=au S'++au R:=(by simp[au])
 rw[this] at hm;rcases mem_append.1 hm with hm|hm
 ·exact q4 hm
 exact iR hm
theorem cx.Lv{w:World}(h:bG C x a w)(cX:List Operand):cx w (live C.X x.S) (cX.map (aE x)) (cX.map a.eval) :=
 ⟨by simp,fun i h1 h2=>by simp only[getElem_map];exact h.eval _⟩
theorem cx.append{w:World}{E:List D}{vs I:List Value}(h:cx w L ds vs)(h':cx w L E I):cx w L (ds++E) (vs++I) :=
 ⟨by simp[h.1,h'.1],fun i h1 h2=>by
  by_cases hi:i<ds.length
  ·rw[getElem_append_left hi,getElem_append_left (by rw[h.1];exact hi)];exact h.2 i _ _
  rw[getElem_append_right w4,getElem_append_right (by rw[h.1];omega)];have:=h.1;simp only[this];exact h'.2 _ _ _⟩
def called(x:St)(t:Nat)(R:List ah)(post:D→List ah→Prop)(y:St):Prop:=∃r S',post r S'∧y=⟨x.n,(t,r)::x.env,S'++R⟩
theorem A9 {f t:Nat} {args:List D} (ho:o.op = .call {callee:=.value fo,args:=cX,argTypes:=ts}) (hd:o.dst=some t)
  (hf:fo = .func f) (fg:∀args w,(callFunc f args).run P w = .ok (.enter f args) w) (ha:cX.toList.map (aE x)=args) (hp:x.S.Perm (Sf++R)) (hc:VC P G f args Sf post) :
  fN P G x o (au Sf) (called x t R post):=fun C a w K Q hG h hK=>by
 subst hf ha;have hr:=cx.Lv h cX.toList;have E:(execOp a.eval o).run P w = .ok (.enter f (cX.toList.map a.eval).toArray) w:=by
  unfold execOp;have e:cX.map a.eval=(cX.toList.map a.eval).toArray:=by
   rw[←Array.toList_map,Array.toArray_toList]
  simp only[ho,resolve,Act.eval,Deferred.ofValue,Sem.run_bind,Sem.run_pure,Result.andThen_ok,invoke,e];simp[fg]
 unfold Oper.wp;rw[E,Oper.upon_enter,hd];refine(h.call hG hc hp hr).mono fun e w' ⟨v,r,S',h1,h2,h3,h4,h5,h6⟩=>?_;subst h1;exact hK _ _ _ ⟨r,S',h2,rfl⟩ (h4.put h3) h5 h6
theorem aaT {f t:Nat} {args E:List D} (ho:o.op = .call {callee:=.value fo,args:=cX,argTypes:=ts}) (hd:o.dst=some t)
  (hf:aE x fo = .ew (.func f) E) (fg:∀args w,(callFunc f args).run P w = .ok (.enter f args) w) (ha:cX.toList.map (aE x)++E=args) (hp:x.S.Perm (Sf++R)) (hc:VC P G f args Sf post) :
  fN P G x o (au Sf) (called x t R post):=fun C a w K Q hG h hK=>by
 subst ha;have hr:=cx.Lv h cX.toList;have fL:=h.eval fo;rw[hf] at fL;generalize hg:a.eval fo=u at fL;cases fL with
 | ew _ _ vs hl W8 =>
  have I:(execOp a.eval o).run P w = .ok (.enter f (cX.toList.map a.eval++vs).toArray) w:=by
   unfold execOp;have e:cX.map a.eval++vs.toArray=(cX.toList.map a.eval++vs).toArray:=by
    rw[←append_toArray,←Array.toList_map,Array.toArray_toList]
   simp only[ho,resolve,hg,Deferred.ofValue,Sem.run_bind,Sem.run_pure,Result.andThen_ok,invoke];simp[fg]
  unfold Oper.wp;rw[I,Oper.upon_enter,hd];refine(h.call hG hc hp (hr.append ⟨hl,W8⟩)).mono fun e w' ⟨v,r,S',h1,h2,h3,h4,h5,h6⟩=>?_;subst h1;exact hK _ _ _ ⟨r,S',h2,rfl⟩ (h4.put h3) h5 h6
theorem uU(hk:S[k]?=some B):S.Perm (B::S.eraseIdx k):=by
 obtain⟨h1,h2⟩:=List.getElem?_eq_some_iff.1 hk;subst h2;clear hk;induction S generalizing k with
 | nil=>simp at h1
 | cons A S ih =>
  cases k with
  | zero=>exact Perm.refl _
  | succ k =>
   have E:k<S.length:=(by simpa using h1)
   rw[eraseIdx_cons_succ];exact((ih E).cons A).trans (Perm.swap _ _ _)
theorem eV(S:List ah):S.Perm ([]++S):=Perm.refl _
theorem mo(hk:S[k]?=some B):S.Perm ([B]++S.eraseIdx k):=uU hk
theorem Bb{k':Nat}{B':ah}(hk:S[k]?=some B)(E:(S.eraseIdx k)[k']?=some B'):S.Perm ([B,B']++(S.eraseIdx k).eraseIdx k'):=(uU hk).trans ((uU E).cons B)
theorem cg.wV{w:World}(h:Own w (live X S) S)(O:∀b,X b→b∉au S)(hk:S[k]?=some B)(hl:B.cs.length=n*sz)(h1:n≤cap)(h2:cap≤maxLen)(hne:isMap B.e=false:=by rfl) :
  cg w (live X (S.eraseIdx k)) (.list sz B.cs n) (.slice (some ⟨B.b,0,none⟩) n cap):=by
 have hm:=mem_of_getElem? hk;obtain⟨r0,cur,r1,r2,U,I⟩:=h.at_ B hm;rw[kp hne] at r1;have E:(au (S.eraseIdx k)).Sublist (au S):=Sublist.map _ (eraseIdx_sublist S k);have hL:¬live X (S.eraseIdx k) B.b:=fun hl=>by
  rcases hl with hl|hl
  ·exact O _ hl (mem_map.2 ⟨B,hm,rfl⟩)
  have hp:(au S).Perm (B.b::au (S.eraseIdx k)):=(by have:=(uU hk).map ah.b;simpa[au] using this)
  have hnd:=hp.nodup_iff.1 h.apart;exact(nodup_cons.1 hnd).1 hl
 refine .list sz B.cs n B.b 0 cap (fun i=>cur.getD i undef) hl h1 h2 r0 hL (fun i hi=>?_) (fun i hi=>?_)
 ·obtain⟨u,hu,_⟩:=I i hi;rw[Nat.zero_add,ow r1 hu];simp[hu]
 obtain⟨u,hu,hq⟩:=I i hi;simp only[Array.getD_eq_getD_getElem?,hu,Option.getD_some];exact hq.mono fun b _ hn=>⟨rfl,fun hl=>hn (hl.imp id fun q=>E.subset q)⟩
theorem bG.Ar{w:World}(h:bG C x a w):∀b,C.X b→b∉au x.S:=fun b hb=>(h.fr.block b (h.ex b hb).1 (h.ex b hb).2).2
theorem Wk.vv{t:Nat}{cs:List D}(hk:S[k]?=some B)(ht:look t l = .v (.slice (some ⟨B.b,0,none⟩) m cap))(dh:B.cs=cs)(hl:cs.length=m*sz)(h1:m≤cap)(h2:cap≤maxLen)(hne:isMap B.e=false:=by rfl) :
  Wk ⟨n,l,S⟩ ⟨n,(t,.list sz cs m)::l,S.eraseIdx k⟩:=fun C a w h=>by
 subst dh;have hd:=Wk.drop n l S (S.eraseIdx k) (eraseIdx_sublist S k) C a w h;refine⟨hd.defers,hd.size,fun i hi=>?_,hd.own,hd.fr,hd.ex,hd.eL⟩;simp only[fS];by_cases e:t=i
 ·subst e;rw[if_pos rfl];have E:=h.env t hi;simp only[ht] at E;rw[E.kV];exact cg.wV h.own h.Ar hk hl h1 h2 hne
 rw[if_neg e];exact hd.env i hi
theorem Wk.tU{t:Nat}(ht:look t l = .v (.slice none 0 0)):Wk ⟨n,l,S⟩ ⟨n,(t,.list sz [] 0)::l,S⟩:=fun C a w h=>by
 refine⟨h.defers,h.size,fun i hi=>?_,h.own,h.fr,h.ex,h.eL⟩;simp only[fS];by_cases e:t=i
 ·subst e;rw[if_pos rfl];have E:=h.env t hi;simp only[ht] at E;rw[E.kV];exact .nil sz
 rw[if_neg e];exact h.env i hi
theorem Wk.af2 {A:ah} {cs:List D} (hk:S[k]?=some B) (hj:(S.eraseIdx k)[j]?=some A) (hi:A.cs[i]?=some (.v (.slice (some ⟨B.b,0,none⟩) m cap))) (dh:B.cs=cs) (hl:cs.length=m*sz) (h1:m≤cap) (h2:cap≤maxLen)
  (U:A.cs.set i (.list sz cs m)=cs') (hS:(S.eraseIdx k).set j {A with cs:=cs'}=S') (hne:isMap B.e=false:=by rfl):Wk ⟨n,l,S⟩ ⟨n,l,S'⟩:=fun C a w h=>by
 subst dh U hS;have hd:=Wk.drop n l S (S.eraseIdx k) (eraseIdx_sublist S k) C a w h;have Z:=cg.wV h.own h.Ar hk hl h1 h2 hne;have l8:=(List.getElem?_eq_some_iff.1 hj).1;have hjA:=(List.getElem?_eq_some_iff.1 hj).2;have E:au ((S.eraseIdx k).set j {A with cs:=A.cs.set i (.list sz B.cs m)})=au (S.eraseIdx k):=by
  unfold au;rw[map_set];apply ext_getElem bn;intro i q1 q2;rw[getElem_set];split
  ·rename_i e;subst e;simp[hjA]
  rfl
 have I:live C.X ((S.eraseIdx k).set j {A with cs:=A.cs.set i (.list sz B.cs m)})=live C.X (S.eraseIdx k):=(by funext b;simp only[live,E])
 refine⟨hd.defers,hd.size,fun t ht=>?_,⟨fun B' M6=>?_,?_⟩,?_,hd.ex,hd.eL⟩
 ·simp only[I];exact hd.env t ht
 ·simp only[I];obtain⟨p,hp,gK⟩:=mem_iff_getElem.1 M6;rw[length_set] at hp;rw[getElem_set] at gK;by_cases e:j=p
  ·rw[if_pos e] at gK;subst gK;obtain⟨r0,cur,r1,r2,r3,r4⟩:=hd.own.at_ A (mem_of_getElem? hj);refine⟨r0,cur,r1,r2,by simpa using r3,fun q hq=>?_⟩;simp only[length_set] at hq;obtain⟨u,hu,O⟩:=r4 q hq;refine⟨u,hu,?_⟩;rw[getElem_set];split
   ·rename_i he;subst he;have:=(List.getElem?_eq_some_iff.1 hi).2;rw[this] at O;rw[O.kV];exact Z
   exact O
  rw[if_neg e] at gK;subst gK;exact hd.own.at_ _ (getElem_mem hp)
 ·simp only[E];exact hd.own.apart
 simp only[E];exact hd.fr

def SK(x:St)(t:Nat)(e:TypeId)(sz len:Nat)(cs:List D)(S:List ah)(y:St):Prop :=
 ∃b cap,len≤cap∧cap≤maxLen∧y=⟨x.n,(t,.v (.slice (some ⟨b,0,none⟩) len cap))::x.env,⟨b,e,cap*sz,cs⟩::S⟩
theorem bG.grown {w:World} (h:bG C x a w) {t g e:Nat} {row:Option Nat} {cs:List D}
  (hS:S.Sublist x.S) (I:∀k,row=some k→k∈au x.S∧k∉au S) (E:w.grownBy w' row) (hg:row=some g∨g=w.heap.size) (aa:g<w'.heap.size)
  (B7:w'.heap[g]?=some (.cells cur e (0,0))) (iu:cur.size=cap*sz) (hl:cs.length≤cap*sz) (hr:∀i (h:i<cs.length),∃u,cur[i]?=some u∧cg w (live C.X x.S) cs[i] u) (hne:isMap e=false:=by rfl) :
  bG C ⟨x.n,(t,.v (.slice (some ⟨g,0,none⟩) m cap))::x.env,⟨g,e,cap*sz,cs⟩::S⟩ (a.put (some t) (.slice (some ⟨g,0,none⟩) m cap)) w'∧l7 row.toList w w'∧Fr w (au x.S) w' (au (⟨g,e,cap*sz,cs⟩::S)):=by
 have O:(au S).Sublist (au x.S):=Sublist.map _ hS;have Z:∀b,live C.X x.S b→b<w.heap.size:=fun b hb=>by
  rcases hb with hb|hb
  ·exact Nat.lt_of_lt_of_le (h.ex b hb).1 h.fr.size
  obtain⟨B,hB,rfl⟩:=mem_map.1 hb;exact(h.own.at_ B hB).1
 have hgS:g∉au S:=by
  rcases hg with hg|hg
  ·exact(I g hg).2
  intro hm;have:=Z g (.inr (O.subset hm));omega
 have hgX:¬C.X g:=fun hx=>by
  rcases hg with hg|hg
  ·exact h.Ar g hx (I g hg).1
  have:=Z g (.inl hx);omega
 have U:g<w.heap.size→g∈au x.S:=fun aa=>by
  rcases hg with hg|hg
  ·exact(I g hg).1
  omega
 have H:∀b,b<w.heap.size→¬live C.X x.S b→w'.heap[b]?=w.heap[b]?∧¬live C.X (⟨g,e,cap*sz,cs⟩::S) b:=fun b hb hn=>by
  refine⟨E.block b hb (fun hm=>hn (.inr (I b hm.symm).1)),fun hl=>?_⟩;rcases hl with hl|hl
  ·exact hn (.inl hl)
  simp only[au,map_cons,mem_cons] at hl;rcases hl with hl|hl
  ·subst hl;exact hn (.inr (U hb))
  exact hn (.inr (O.subset hl))
 have base:bG C ⟨x.n,x.env,⟨g,e,cap*sz,cs⟩::S⟩ a w':=by
  refine⟨h.defers,h.size,fun t ht=>(h.env t ht).mono H,⟨fun B hB=>?_,?_⟩,?_,h.ex,h.eL⟩
  ·rcases mem_cons.1 hB with rfl|hB
   ·refine⟨aa,cur,B7.trans (by rw[kp hne]),iu,hl,fun i hi=>?_⟩;obtain⟨u,hu,hq⟩:=hr i hi;exact⟨u,hu,hq.mono H⟩
   obtain⟨r0,lX,r1,r2,r3,r4⟩:=h.own.at_ B (hS.subset hB);have CQ:B.b∈au S:=mem_map.2 ⟨B,hB,rfl⟩;have hh:=E.block B.b r0 (fun hm=>(I B.b hm.symm).2 CQ);refine⟨q8 r0 hh,lX,hh.trans r1,r2,r3,fun i hi=>?_⟩;obtain⟨u,hu,hq⟩:=r4 i hi;exact⟨u,hu,hq.mono H⟩
  ·show(g::au S).Nodup;exact nodup_cons.2 ⟨hgS,h.own.apart.sublist O⟩
  refine⟨E.os.trans h.fr.os,E.tape.trans h.fr.tape,E.output.trans h.fr.output,Nat.le_trans h.fr.size E.size,fun b hb hn=>?_⟩;obtain⟨q1,q2⟩:=h.fr.block b hb hn;have jG:=Nat.lt_of_lt_of_le hb h.fr.size;refine⟨(E.block b jG (fun hm=>q2 (I b hm.symm).1)).trans q1,fun hm=>?_⟩;simp only[au,map_cons,mem_cons] at hm;rcases hm with hm|hm
  ·subst hm;exact q2 (U jG)
  exact q2 (O.subset hm)
 refine⟨base.put (.v _),⟨E.size,fun b hb hn=>E.block b hb (fun hm=>hn (by rw[←hm];simp))⟩,⟨E.os,E.tape,E.output,E.size,fun b hb hn=>?_⟩⟩;refine⟨E.block b hb (fun hm=>hn (I b hm.symm).1),fun hm=>?_⟩;simp only[au,map_cons,mem_cons] at hm;rcases hm with hm|hm
 ·subst hm;exact hn (U hb)
 exact hn (O.subset hm)
theorem AU {s:Operand} {t:Nat} {I:Value} {w:World} (ho:o.op = .call {callee:=.builtin .append,args:=#[s,y],argTypes:=#[t,t]}) (hs:a.eval s=v) (hy:a.eval y=u)
  (E:(Builtin.append_ #[t,t] o.type #[v,u]).run P w = .ok I w'):(execOp a.eval o).run P w = .ok (.value I) w':=by
 unfold execOp;simp[ho,resolve,invoke,builtin,hs,hy,E]
theorem yX{e:Nat}{z:Value}(hi:(P.info? e).map (fun i=>(i.zero,i.size,i.bytes))=some (some z,sz,bytes)):∃i,P.info? e=some i∧i.zero=some z∧i.size=sz∧i.bytes=bytes:=by
 cases h:P.info? e with
 | none=>simp[h] at hi
 | some i=>simp[h] at hi;exact⟨i,rfl,hi⟩
theorem OZ {s:Operand} {t e:Nat} {z:Value} {cs:List D} (ho:o.op = .call {callee:=.builtin .append,args:=#[s,y],argTypes:=#[t,t]}) (hd:o.dst=some tt)
  (ht:P.underlying t=some (.slice e)) (hi:(P.info? e).map (fun i=>(i.zero,i.size,i.bytes))=some (some z,sz,bytes)) (eO:z.cells.size=sz) (iu:0<sz)
  (hs:aE x s = .v (.slice (some ⟨b,0,none⟩) n cap)) (hk:x.S[k]?=some B) (hb:B.b=b) (he:B.e=e) (aph:B.size=cap*sz) (hl:B.cs.length=n*sz) (hn:n≤cap) (Z:cap≤maxLen)
  (hy:aE x y = .list sz cs m) (iB:∀d∈cs,one d=true) (hm:0<m) (gl:n+m≤maxLen) (O:(n+m)*bytes≤140737488355328) (hne:isMap B.e=false:=by rfl) :
  fN P G x o [b] (SK x tt e sz (n+m) (B.cs++cs) (x.S.eraseIdx k)):=fun C a w K Q hG h hK=>by
 subst hb he;obtain⟨i,kj,l9,py,qf⟩:=yX hi;obtain⟨r0,cur,r1,r2,r3,r4⟩:=h.fp hk;rw[kp hne] at r1;have hr:=h.eval y;rw[hy] at hr;generalize hg:a.eval y=u at hr;cases hr with
 | my=>omega
 | list _ _ _ b' o' I f mb q1 q2 jG hL hc As =>
  have kI:w.ownsRow 0 B.e sz (.slice (some ⟨B.b,0,none⟩) n cap) n (cur.toList.take (n*sz)) :=
   ⟨by simp;omega,.inr ⟨B.b,cap,cur,rfl,Nat.zero_le _,r1,hn,Z,by omega,rfl⟩⟩
  obtain⟨v',w',nW,h2,h3,_,h5⟩:=run_append_own_at (P:=P) w 0 t o.type B.e i z sz bytes ht kj l9 py qf eO iu _ n _ kI ⟨b',o',none⟩ m I ((range cs.length).map f) (by simp[mb]) (fun j u hu=>by
    rw[Addr.add_mid];obtain⟨hj,he⟩:=List.getElem?_eq_some_iff.1 hu;simp only[length_map,length_range] at hj;rw[hc j hj,←he];simp) (fun u hu=>by
    obtain⟨j,hj,rfl⟩:=mem_map.1 hu;have jr:=mem_range.1 hj;exact(As j jr).A8 (iB _ (getElem_mem jr))) gl O (Nat.zero_le _)
  obtain⟨g,E,rfl,_,aa⟩:=h2.form w4;have h6:(Value.slice (some ⟨B.b,0,none⟩) n cap).ownBlock=some g∨g=w.heap.size:=by
   rcases h5 with h5|h5
   ·exact .inl (by rw[←h5];rfl)
   right;simpa[Value.ownBlock] using h5
  obtain⟨_,h2⟩:=h2;rcases h2 with ⟨h2,_⟩|⟨g',I,lX,e1,_,e2,e3,e4,e5,e6⟩
  ·cases h2
  have CR:g=g'∧E=I:=(by simpa using e1)
  obtain⟨rfl,rfl⟩:=CR;have hlen:(B.cs++cs).length=(n+m)*sz:=(by rw[length_append,hl,mb,Nat.add_mul])
  have M7:(n+m)*sz≤E*sz:=Nat.mul_le_mul_right _ e3;have B7:∀i,i<(n+m)*sz→lX[i]?=(cur.toList.take (n*sz)++(range cs.length).map f)[i]?:=fun i hi=>by
   rw[←e6,getElem?_take_of_lt hi,Array.getElem?_toList]
  obtain⟨s1,s2,s3⟩:=h.grown (t:=tt) (m:=n+m) (e:=B.e) (sz:=sz) (S:=x.S.eraseIdx k) (cs:=B.cs++cs) (row:=some B.b) (g:=g) (cap:=E) (eraseIdx_sublist _ _) (fun k' qU=>by
    have:B.b=k':=(by simpa using qU)
    subst this;refine⟨mem_map.2 ⟨B,mem_of_getElem? hk,rfl⟩,fun hm=>?_⟩;have hp:(au x.S).Perm (B.b::au (x.S.eraseIdx k)):=(by have:=(uU hk).map ah.b;simpa[au] using this)
    exact(nodup_cons.1 (hp.nodup_iff.1 h.own.apart)).1 hm) h3 h6 aa e2 e5 w4 (fun i hi=>by
    rw[hlen] at hi;rw[B7 i hi];by_cases ko:i<n*sz
    ·obtain⟨u,hu,hq⟩:=r4 i w4;refine⟨u,?_,?_⟩
     ·rw[getElem?_append_left ij,getElem?_take_of_lt ko,Array.getElem?_toList,hu]
     rw[getElem_append_left w4];exact hq
    have U:i-n*sz<cs.length:=(by rw[mb];rw[Nat.add_mul] at hi;omega)
    refine⟨f (i-n*sz),?_,?_⟩
    ·rw[getElem?_append_right ij];have:(cur.toList.take (n*sz)).length=n*sz:=(by simp;omega)
     rw[this];simp[U]
    rw[getElem_append_right w4];have:=As (i-n*sz) U;simp only[hl];exact this) hne
  unfold Oper.wp;rw[AU (P:=P) ho (h.flat hs) hg nW,Oper.upon_value,hd];exact hK _ _ _ ⟨g,E,e3,e4,rfl⟩ s1 s2 s3
theorem OA {s:Operand} {t e:Nat} {z:Value} {cs:List D} (ho:o.op = .call {callee:=.builtin .append,args:=#[s,y],argTypes:=#[t,t]}) (hd:o.dst=some tt)
  (ht:P.underlying t=some (.slice e)) (hi:(P.info? e).map (fun i=>(i.zero,i.size,i.bytes))=some (some z,sz,bytes)) (eO:z.cells.size=sz) (iu:0<sz)
  (hs:aE x s = .v (.slice none 0 0)) (hy:aE x y = .list sz cs m) (iB:∀d∈cs,one d=true) (hm:0<m) (gl:m≤maxLen) (O:m*bytes≤140737488355328) (hne:isMap e=false:=by rfl) :
  fN P G x o [] (SK x tt e sz m cs x.S):=fun C a w K Q hG h hK=>by
 obtain⟨i,kj,l9,py,qf⟩:=yX hi;have hr:=h.eval y;rw[hy] at hr;generalize hg:a.eval y=u at hr;cases hr with
 | my=>omega
 | list _ _ _ b' o' I f mb q1 q2 jG hL hc U =>
  have Z:w.ownsRow 0 e sz (.slice none 0 0) 0 []:=⟨by simp,.inl ⟨rfl,rfl⟩⟩
  obtain⟨v',w',nW,h2,h3,_,h5⟩:=run_append_own_at (P:=P) w 0 t o.type e i z sz bytes ht kj l9 py qf eO iu _ 0 _ Z ⟨b',o',none⟩ m I ((range cs.length).map f) (by simp[mb]) (fun j u hu=>by
    rw[Addr.add_mid];obtain⟨hj,he⟩:=List.getElem?_eq_some_iff.1 hu;simp only[length_map,length_range] at hj;rw[hc j hj,←he];simp) (fun u hu=>by
    obtain⟨j,hj,rfl⟩:=mem_map.1 hu;have jr:=mem_range.1 hj;exact(U j jr).A8 (iB _ (getElem_mem jr))) (by rw[Nat.zero_add];exact gl) (by rw[Nat.zero_add];exact O) (Nat.zero_le _)
  simp only[Nat.zero_add,nil_append] at h2;obtain⟨g,E,rfl,_,aa⟩:=h2.form w4;have h6:(none:Option Nat)=some g∨g=w.heap.size:=by
   rcases h5 with h5|h5
   ·simp[Value.ownBlock] at h5
   right;simpa[Value.ownBlock] using h5
  obtain⟨_,h2⟩:=h2;rcases h2 with ⟨h2,_⟩|⟨g',I,lX,e1,_,e2,e3,e4,e5,e6⟩
  ·cases h2
  have CR:g=g'∧E=I:=(by simpa using e1)
  obtain⟨rfl,rfl⟩:=CR;have M7:m*sz≤E*sz:=Nat.mul_le_mul_right _ e3;obtain⟨s1,s2,s3⟩:=h.grown (t:=tt) (m:=m) (e:=e) (sz:=sz) (S:=x.S) (cs:=cs) (row:=none) (g:=g) (cap:=E) (Sublist.refl _) (fun k' qU=>by cases qU) h3 h6 aa e2 e5 w4 (fun i hi=>by
    refine⟨f i,?_,U i hi⟩;have:lX[i]?=((range cs.length).map f)[i]?:=(by rw[←e6,getElem?_take_of_lt w4,Array.getElem?_toList])
    rw[this];simp[hi]) hne
  unfold Oper.wp;rw[AU (P:=P) ho (h.flat hs) hg nW,Oper.upon_value,hd];exact hK _ _ _ ⟨g,E,e3,e4,rfl⟩ s1 s2 s3
theorem OB {s:Operand} {t e:Nat} {cs:List D} (ho:o.op = .call {callee:=.builtin .append,args:=#[s,y],argTypes:=#[t,t]})
  (O:∀w,(underlying t).run P w = .ok (.slice e) w) (E:∀w,(sizeOf e).run P w = .ok sz w) (hs:aE x s = .v (.slice ad n cap)) (hn:n≤cap) (hy:aE x y = .list sz cs 0):bQ P G x o .none (.v (.slice ad n cap)):=fun C a w _ h=>by
 refine⟨_,.v _,fun w' _=>?_⟩;have hr:=h.eval y;rw[hy] at hr;generalize hg:a.eval y=u at hr;refine AU (P:=P) ho (h.flat hs) hg ?_;have U:n+0≤cap:=hn;cases hr with
 | my _ I kJ=>cases I<;>cases ad<;>simp[Builtin.append_,O,E,Builtin.lenOf,Builtin.firstCells,storeCells,loadCells,loadCellsFrom,hn,Nat.not_lt.2 hn]
 | list _ _ _ b' o' kJ f mb q1 q2 jG hL hc Z=>cases ad<;>simp[Builtin.append_,O,E,Builtin.lenOf,Builtin.firstCells,storeCells,loadCells,loadCellsFrom,hn,Nat.not_lt.2 hn]

end Go.Proofs.YtdgichenhdikgaaGreatDoor.V
namespace Go.Proofs.YtdgichenhdikgaaGreatDoor.V
open List
open Go.RowKit
variable {g t n:Nat} {E b:Bool} {l':List (Nat×D)} {S':List ah} {c:Code} {ds:List D} {fn:Func} {L:Nat→Prop} {r1:ResultVar}
def LQ(C:dy)(Q:Exit→St→Prop):Exit→Act→World→Prop:=fun e a w=>(∃y,bG C y a w∧Q e y)∨(e = .ret∧C.CO a w)
def CD(P:Program)(C:dy)(c:Code)(x:St)(Q:Exit→St→Prop):Prop:=∀a w,bG C x a w→c.wp P (LQ C Q) a w
def OD(P:Program)(C:dy)(ops:Array Oper)(l:List Oper)(x:St)(Q:Exit→St→Prop):Prop:=∀a w,bG C x a w→wpList P ops (LQ C Q) l a w
variable {P:Program} {C:dy} {Q:Exit→St→Prop} {x y:St} {ops:Array Oper} {l:List Oper} {o:Oper}
def bY(ops:Array Oper)(x:St)(o:Oper)(b:Bool):Prop:=∀C a w,bG C x a w→Region.wanted o (yielded ops a.tmps)=b
theorem sc(h:o.guard=none):bY ops x o true:=fun C a w _=>by simp[Region.wanted,h]
theorem QO(h:o.guard=some (g,E))(hg:(ops[g]?).bind (·.dst)=some t)(ht:t<x.n)(hb:look t x.env = .v (.bool b)):bY ops x o (b==E):=fun C a w hs=>by
 have I:=hs.env t ht;rw[hb] at I;have I:=I.kV;have O:=hs.size;have:a.tmps[t]?=some (.bool b):=by
  rw[Array.getD_eq_getD_getElem?,Array.getElem?_eq_getElem w4] at I;rw[Array.getElem?_eq_getElem w4];simpa using I
 simp only[Region.wanted,h,yielded,hg,Option.bind_some,this];cases b<;>cases E<;>rfl
theorem fu{d:D}{r:List (Nat×D)}:look t ((t,d)::r)=d:=by rw[fS,if_pos rfl]
theorem fT{d d':D}{r:List (Nat×D)}(h:d=d'):look t ((t,d)::r)=d':=by rw[fS,if_pos rfl,h]
theorem fC{i:Nat}{d d':D}{r:List (Nat×D)}(h:Nat.beq i t=false)(k:look t r=d'):look t ((i,d)::r)=d':=by rw[look,h];exact k
theorem bV{v:Value}{x:St}:aE x (.const v) = .v v:=rfl
theorem tI{f:FuncId}{x:St}:aE x (.func f) = .ew (.func f) []:=rfl
theorem wq{x:St}:aE x (.global g) = .v (.pointer (some ⟨g,0,none⟩)):=rfl
theorem tQ{d:D}{x:St}(h:Nat.blt t x.n=true)(k:look t x.env=d):aE x (.tmp t)=d:=by simp only[aE,h,k];rfl
theorem lk{l:List (Nat×D)}{d:D}(h:look t l=d:=by (repeat (first|exact fu|(apply fC;focus rfl)|exact look_nil));first|done|fail):look t l=d:=h
theorem ot{d:D}{x:St}(h:Nat.blt t x.n=true:=by exact rfl)(k:look t x.env=d:=by (repeat (first|exact fu|(apply fC;focus rfl)|exact look_nil));first|done|fail):aE x (.tmp t)=d:=tQ h k
def ny(l:List (Nat×D)):List (Nat×D)→Prop
 | []=>True
 | (i,d)::r=>look i l=d∧ny l r
theorem ny.look{l:List (Nat×D)}:∀{l':List (Nat×D)},ny l l'→∀t,V.look t l'=V.look t l∨V.look t l' = .bS
 | [],_,t=>.inr rfl
 | (i,d)::r,h,t=>by
  rw[fS];by_cases e:i=t
  ·subst e;rw[if_pos rfl];exact .inl h.1.symm
  rw[if_neg e];exact h.2.look t
theorem Wk.kz{l:List (Nat×D)}{S:List ah}(h:ny l l'):Wk ⟨n,l,S⟩ ⟨n,l',S⟩:=fun C a w hs =>
 ⟨hs.defers,hs.size,fun t ht=>by
  rcases h.look t with e|e
  ·simp only[e];exact hs.env t ht
  simp only[e];exact .bS _,hs.own,hs.fr,hs.ex,hs.eL⟩
theorem Wk.dG{x:St}(hn:x.n=n)(hS:x.S=S')(h:ny x.env l'):Wk x ⟨n,l',S'⟩:=by
 obtain⟨n0,l0,S0⟩:=x;simp only at hn hS h;subst hn hS;exact Wk.kz h
theorem Wk.asS{x:St}(hn:x.n=n)(hS:S'.Sublist x.S)(h:ny x.env l'):Wk x ⟨n,l',S'⟩:=by
 obtain⟨n0,l0,S0⟩:=x;simp only at hn hS h;subst hn;exact(Wk.drop n0 l0 S0 S' hS).trans (Wk.kz h)
theorem tV{ops:Array Oper}{x:St}{o:Oper}(h:o.guard=some (g,E))(hg:(ops[g]?).bind (·.dst)=some t)(ht:Nat.blt t x.n=true)(hb:look t x.env = .v (.bool b))(hw:b=E):bY ops x o true:=by
 have:=QO h hg (Nat.le_of_ble_eq_true ht) hb;rw[hw] at this;simpa using this
theorem mH{ops:Array Oper}{x:St}{o:Oper}(h:o.guard=some (g,E))(hg:(ops[g]?).bind (·.dst)=some t)(ht:Nat.blt t x.n=true)(hb:look t x.env = .v (.bool b))(hw:b = !E):bY ops x o false:=by
 have:=QO h hg (Nat.le_of_ble_eq_true ht) hb;rw[hw] at this;cases E<;>simpa using this
theorem Jz{ops:Array Oper}{x:St}{o:Oper}{b:Bool}(h:o.guard=some (g,E))(hg:(ops[g]?).bind (·.dst)=some t)(ht:Nat.blt t x.n=true)(hb:look t x.env = .v (.tuple #[])):bY ops x o false:=fun C a w hs=>by
 have I:=hs.env t (Nat.le_of_ble_eq_true ht);rw[hb] at I;have I:=I.kV;have O:=hs.size;have Hg:t<x.n:=Nat.le_of_ble_eq_true ht;have:a.tmps[t]?=some (.tuple #[]):=by
  rw[Array.getD_eq_getD_getElem?,Array.getElem?_eq_getElem w4] at I;rw[Array.getElem?_eq_getElem w4];simpa using I
 simp only[Region.wanted,h,yielded,hg,Option.bind_some,this];cases E<;>rfl
theorem OD.nil(h:Q .normal x):OD P C ops [] x Q:=fun a w hs=>.inl ⟨x,hs,h⟩
theorem OD.fV{W:List Nat}{post:St→Prop}(hw:bY ops x o true)(h:fN P C.G x o W post)(k:∀y,post y→OD P C ops l y Q):OD P C ops (o::l) x Q:=fun a w hs=>by
 unfold wpList;rw[if_pos (hw C a w hs)];exact .inl (h C a w _ _ rfl hs fun y a' w' hp E _ _=>k y hp a' w' E)
theorem OD.still{kd:Rd}{d:D}(hw:bY ops x o true)(hd:o.dst=some t)(h:bQ P C.G x o kd d)(k:OD P C ops l (x.put t d) Q):OD P C ops (o::l) x Q :=
 OD.fV hw (h.fV hd) fun y hy=>by subst hy;exact k
theorem OD.skip(hw:bY ops x o false)(hd:o.dst=some t)(k:OD P C ops l (x.put t (.v (.tuple #[]))) Q):OD P C ops (o::l) x Q:=fun a w hs=>by
 unfold wpList;rw[if_neg (by rw[hw C a w hs];simp),hd];exact k _ _ (hs.put (.v _))
theorem OD.wk(h:Wk x y)(k:OD P C ops l y Q):OD P C ops l x Q:=fun a w hs=>k a w (h C a w hs)
theorem CD.wk(h:Wk x y)(k:CD P C c y Q):CD P C c x Q:=fun a w hs=>k a w (h C a w hs)
theorem CD.mono{E:Exit→St→Prop}(h:CD P C c x Q)(k:∀e y,Q e y→E e y):CD P C c x E:=fun a w hs =>
 wp_mono (h a w hs) fun e a' w' h=>h.imp (fun ⟨y,h1,h2⟩=>⟨y,h1,k e y h2⟩) id
theorem CD.skip(h:Q .normal x):CD P C .skip x Q:=fun a w hs=>wp_skip (.inl ⟨x,hs,h⟩)
theorem CD.ret(h:Q .ret x):CD P C .ret x Q:=fun a w hs=>wp_ret (.inl ⟨x,hs,h⟩)
theorem CD.exit{id:Nat}(h:Q (.exit id) x):CD P C (.exit id) x Q:=fun a w hs=>wp_exit (.inl ⟨x,hs,h⟩)
def B8(P:Program)(C:dy)(c:Code)(Q:Exit→St→Prop):Exit→St→Prop
 | .normal,y=>CD P C c y Q
 | e,y=>Q e y
theorem CD.seq{c d:Code}(h:CD P C c x (B8 P C d Q)):CD P C (.seq c d) x Q:=fun a w hs =>
 wp_seq (wp_mono (h a w hs) fun e a' w' h=>by
  rcases h with ⟨y,h1,h2⟩|⟨rfl,h⟩
  ·cases e<;>first|exact h2 a' w' h1|exact .inl ⟨y,h1,h2⟩
  exact .inr ⟨rfl,h⟩)
theorem CD.region{id:Nat}{l:List Oper}(h:OD P C l.toArray l x Q):CD P C (.region id l.toArray false) x Q:=fun a w hs=>wp_region_lit (h a w hs)
theorem CD.cond{c:Operand}{d e:Code}{b:Bool}(hc:aE x c = .v (.bool b))(ht:b=true→CD P C d x Q)(hf:b=false→CD P C e x Q):CD P C (.cond c d e) x Q:=fun a w hs =>
 wp_cond_split (hs.flat hc) (fun h=>ht h a w hs) (fun h=>hf h a w hs)
theorem CD.ahx{c:Operand}{d e:Code}(hc:aE x c = .v (.bool b))(hb:b=true)(ht:CD P C d x Q):CD P C (.cond c d e) x Q:=fun a w hs =>
 wp_cond_true (by rw[hs.flat hc,hb]) (ht a w hs)
theorem CD.KV{c:Operand}{d e:Code}(hc:aE x c = .v (.bool b))(hb:b=false)(hf:CD P C e x Q):CD P C (.cond c d e) x Q:=fun a w hs =>
 wp_cond_false (by rw[hs.flat hc,hb]) (hf a w hs)
def M8(Inv:St→Prop)(Q:Exit→St→Prop):Exit→St→Prop
 | .normal,y=>∃z,Wk y z∧Inv z
 | e,y=>Q e y
theorem CD.cut{d:Code}(E:St→Prop)(h1:CD P C c x (M8 E Q))(h2:∀z,E z→CD P C d z Q):CD P C (.seq c d) x Q :=
 CD.seq (CD.mono h1 fun e y h=>by cases e<;>first|(obtain⟨z,hw,hz⟩:=h;exact CD.wk hw (h2 z hz))|exact h)
def Bk(id:Nat)(Q:Exit→St→Prop):Exit→St→Prop
 | .exit tg,y=>bif Nat.beq tg id then Q .normal y else Q (.exit tg) y
 | e,y=>Q e y
theorem CD.block{id:Nat}{c:Code}(h:CD P C c x (Bk id Q)):CD P C (.block id c) x Q:=fun a w hs =>
 wp_block (wp_mono (h a w hs) fun e a' w' h=>by
  rcases h with ⟨y,h1,h2⟩|⟨rfl,h⟩
  case inr=>exact .inr ⟨rfl,h⟩
  cases e with
  | exit tg =>
   simp only[Bk] at h2;simp only[Exit.inBlock];by_cases he:tg=id
   ·subst he;rw[if_pos rfl];simp at h2;exact .inl ⟨y,h1,h2⟩
   rw[if_neg he];have:Nat.beq tg id=false:=by
    cases h:Nat.beq tg id with
    | false=>rfl
    | true=>exact absurd (Nat.eq_of_beq_eq_true h) he
   rw[this] at h2;exact .inl ⟨y,h1,h2⟩
  | _=>exact .inl ⟨y,h1,h2⟩)
theorem least(p:Nat→Prop)(h:∃n,p n):∃n,p n∧∀m,p m→n≤m:=by
 obtain⟨n,hn⟩:=h;induction n using Nat.strongRecOn with
 | _ n ih =>
  by_cases hq:∃m,m<n∧p m
  ·obtain⟨m,hm,hp⟩:=hq;exact ih m hm hp
  exact⟨n,hn,fun m hm=>Nat.le_of_not_lt fun aa=>hq ⟨m,aa,hm⟩⟩
def BL{ι:Type}(I:ι→St→Prop)(μ:ι→Nat)(i:ι)(Q:Exit→St→Prop):Exit→St→Prop
 | .normal,y=>∃j z,μ j < μ i∧Wk y z∧I j z
 | e,y=>Q e y
open Classical in
theorem CD.loop{ι:Type}{c:Code}(I:ι→St→Prop)(μ:ι→Nat)(i:ι)(h0:I i x)(round:∀i y,I i y→CD P C c y (BL I μ i Q)):CD P C (.loop c) x Q:=fun a w hs=>by
 let p:Act→World→Nat→Prop:=fun a w n=>∃i y,μ i=n∧I i y∧bG C y a w
 let m:Act→World→Nat:=fun a w=>if h:∃n,p a w n then Classical.choose (least _ h) else 0
 refine wp_loop (fun a w=>∃n,p a w n) m ⟨_,i,x,rfl,h0,hs⟩ fun a w O=>?_;have hm:m a w=Classical.choose (least _ O):=dif_pos O;obtain⟨⟨i,y,h1,h2,h3⟩,_⟩:=Classical.choose_spec (least _ O);rw[←hm] at h1;refine wp_mono (round i y h2 a w h3) fun e a' w' h=>?_;rcases h with ⟨z,q1,q2⟩|⟨rfl,h⟩
 case inr=>exact .inr ⟨rfl,h⟩
 cases e with
 | normal =>
  obtain⟨j,z',r1,r2,Z⟩:=q2;have hp:p a' w' (μ j):=⟨j,z',rfl,Z,r2 C a' w' q1⟩
  have E:∃n,p a' w' n:=⟨_,hp⟩
  have U:m a' w'=Classical.choose (least _ E):=dif_pos E;refine⟨E,?_⟩;have:=(Classical.choose_spec (least _ E)).2 _ hp;rw[U];omega
 | _=>exact .inl ⟨z,q1,q2⟩
def Lw(tmps:Array Value):ResultVar→Sem Value
 | .tmp t=>pure (tmps.getD t undef)
 | .cell a t=>do loadVar t (←asAddr (tmps.getD a undef))
theorem H9(fn:Func)(tmps:Array Value):results fn tmps=(do let vs ←fn.results.mapM (Lw tmps);pure (if h:vs.size=1 then vs[0] else .tuple vs)):=rfl
def th(P:Program)(y:St)(rv:ResultVar)(d:D):Prop :=
 ∀C a w,bG C y a w→∃v,cg w (live C.X y.S) d v∧(Lw a.tmps rv).run P w = .ok v w
theorem yY{d:D}(ht:t<y.n)(hd:look t y.env=d):th P y (.tmp t) d:=fun C a w h=>⟨_,hd ▸ h.env t ht,rfl⟩
theorem so{c k b:Nat}{B:ah}(hc:c<y.n)(hd:look c y.env = .v (.pointer (some ⟨b,0,none⟩)))(hk:y.S[k]?=some B)(hb:B.b=b)(ha:∀w,(isAgg t).run P w = .ok true w)(hn:∀w,(sizeOf t).run P w = .ok n w)(dh:B.cs=ds)(hl:ds.length=n)(hne:isMap B.e=false:=by rfl):th P y (.cell c t) (.agg ds):=fun C a w h=>by
 subst hb dh;have he:=h.env c hc;rw[hd] at he;obtain⟨_,cur,h1,h2,h3,h4⟩:=h.fp hk;rw[kp hne] at h1;refine⟨.agg ((range n).map fun j=>cur.getD j undef).toArray,.agg _ _ (by simp[hl]) (fun i q1 q2=>?_),?_⟩
 ·obtain⟨u,hu,hr⟩:=h4 i q1;simp only[getElem_map,getElem_range,Array.getD_eq_getD_getElem?,hu,Option.getD_some];exact hr
 simp only[Lw,he.kV,asAddr,Sem.run_bind,Sem.run_pure,Result.andThen_ok];have:=Ip (P:=P) (t:=t) (w:=w) (b:=B.b) (o':=0) (vs:=(range n).map fun j=>cur.getD j undef) ha hn bn (fun j hj=>by
  simp only[length_map,length_range] at hj;obtain⟨u,hu,_⟩:=h4 j w4;simp only[getElem_map,getElem_range,Array.getD_eq_getD_getElem?,hu,Option.getD_some,Nat.zero_add];exact ow h1 hu)
 simpa[Instr.loadAt,Instr.sureAddr] using this
def tq(P:Program)(fn:Func)(y:St)(r:D):Prop:=∀C a w,bG C y a w→∃v,cg w (live C.X y.S) r v∧(results fn a.tmps).run P w = .ok v w
theorem qv(hr:fn.results = #[]):tq P fn y (.di []):=fun C a w h =>
 ⟨.tuple #[],.di [] [] rfl (fun i h1 _=>by simp at h1),by unfold results;simp[hr]⟩
theorem SL{rv:ResultVar}{d:D}(hr:fn.results = #[rv])(h:th P y rv d):tq P fn y d:=fun C a w hs=>by
 obtain⟨v,h1,h2⟩:=h C a w hs;refine⟨v,h1,?_⟩;rw[H9,hr];simp[h2]
theorem SM{w:World}{vs:List Value}(h:cx w L ds vs):cg w L (.di ds) (.tuple vs.toArray):=.di ds vs h.1 h.2
theorem cx.cons{w:World}{d:D}{v:Value}{vs:List Value}(h:cg w L d v)(hs:cx w L ds vs):cx w L (d::ds) (v::vs) :=
 ⟨by simp[hs.1],fun i h1 h2=>by
  cases i with
  | zero=>exact h
  | succ i=>exact hs.2 i _ _⟩
theorem cx.nil(w:World)(L:Nat→Prop):cx w L [] []:=⟨rfl,fun i h=>by simp at h⟩
theorem JA{E:ResultVar}{d1 d2:D}(hr:fn.results = #[r1,E])(h1:th P y r1 d1)(h2:th P y E d2):tq P fn y (.di [d1,d2]):=fun C a w hs=>by
 obtain⟨v1,a1,b1⟩:=h1 C a w hs;obtain⟨v2,a2,b2⟩:=h2 C a w hs;refine⟨_,SM (.cons a1 (.cons a2 (.nil _ _))),?_⟩;rw[H9,hr];simp[b1,b2]
theorem aaU{E I:ResultVar}{d1 d2 O:D}(hr:fn.results = #[r1,E,I])(h1:th P y r1 d1)(h2:th P y E d2)(h3:th P y I O):tq P fn y (.di [d1,d2,O]):=fun C a w hs=>by
 obtain⟨v1,a1,b1⟩:=h1 C a w hs;obtain⟨v2,a2,b2⟩:=h2 C a w hs;obtain⟨v3,a3,b3⟩:=h3 C a w hs;refine⟨_,SM (.cons a1 (.cons a2 (.cons a3 (.nil _ _)))),?_⟩;rw[H9,hr];simp[b1,b2,b3]
def Body(P:Program)(fn:Func)(post:D→List ah→Prop)(e:Exit)(y:St):Prop :=
 (e = .normal∨e = .ret)∧∃r S',S'.Sublist y.S∧tq P fn y r∧post r S'
def sD:Nat→List D→List (Nat×D)
 | _,[]=>[]
 | i,d::r=>(i,d)::sD (i+1) r
theorem D8:∀(ds:List D) (i t:Nat),look t (sD i ds)=if i≤t then ds.getD (t-i) .bS else .bS
 | [],i,t=>by simp[sD,look]
 | d::r,i,t=>by
  rw[sD,fS,D8 r (i+1) t];by_cases h:i=t
  ·subst h;simp
  rw[if_neg h];by_cases h2:i≤t
  ·rw[if_pos h2,if_pos w4,show t-i=(t-(i+1))+1 from by omega];simp
  rw[if_neg h2,if_neg w4]
theorem VC.body {G:List (Nat×List Value)} {f:FuncId} {fn:Func} {c:Code} {n:Nat} {args:List D} {S:List ah} {post:D→List ah→Prop} (hf:P.funcs[f]?=some fn) (hb:fn.body=some c) (hn:fn.ntmps=n) (hl:args.length≤n)
  (h:∀X w0 S0,CD P ⟨X,w0,S0,G,[],fun _ _=>False⟩ c ⟨n,sD 0 args,S⟩ (Body P fn post)):VC P G f args S post:=fun X w vs hp=>by
 have Z:vs.length=args.length:=hp.args.1;let C:dy:=⟨X,w,au S,G,[],fun _ _=>False⟩
 have I:bG C ⟨n,sD 0 args,S⟩ {tmps:=vs.toArray++Array.replicate (fn.ntmps-vs.toArray.size) undef,defers:=[]} w:=by
  refine⟨rfl,by simp[hn];omega,fun t ht=>?_,hp.own,Fr.refl _ _,hp.ex,hp.eL⟩;simp only[D8,Nat.zero_le,if_true,Nat.sub_zero];by_cases aa:t<args.length
  ·have e1:args.getD t .bS=args[t]:=(by simp[getD,aa])
   have e2:(vs.toArray++Array.replicate (fn.ntmps-vs.toArray.size) undef).getD t undef=vs[t]'w4:=by
    rw[Array.getD_eq_getD_getElem?,Array.getElem?_append_left ij];simp[show t<vs.length by omega]
   rw[e1,e2];exact hp.args.2 t aa w4
  have e1:args.getD t .bS = .bS:=(by simp[getD,getElem?_eq_none (show args.length≤t by omega)])
  rw[e1];exact .bS _
 refine calls_of_wp hf hb (wp_mono (h _ _ _ _ _ I) fun e a w' h=>?_);rcases h with ⟨y,h1,h2,r,S',h3,h4,h5⟩|⟨_,h⟩
 case inr=>exact h.elim
 obtain⟨v,q1,q2⟩:=h4 C a w' h1;have E:(au S').Sublist (au y.S):=Sublist.map _ h3;have key:a.defers=[]∧∃v,(results fn a.tmps).run P w' = .ok v w'∧∃U r S',Ending.returned v = .returned U∧post r S'∧Own w' (live X S') S'∧cg w' (live X S') r U∧Fr w (au S) w' (au S') :=
  ⟨h1.defers,v,q2,v,r,S',rfl,h5,h1.own.sub h3,q1.mono fun b _ hn=>⟨rfl,fun hl=>hn (hl.imp id fun q=>E.subset q)⟩,
   ⟨h1.fr.os,h1.fr.tape,h1.fr.output,h1.fr.size,fun b O hn=>⟨(h1.fr.block b O hn).1,fun q=>(h1.fr.block b O hn).2 (E.subset q)⟩⟩⟩
 rcases h2 with rfl|rfl<;>exact key

end Go.Proofs.YtdgichenhdikgaaGreatDoor.V
namespace Go.Proofs.YtdgichenhdikgaaGreatDoor.V
open List
open Go.RowKit
variable {fuel i t:Nat} {ld:Array Bool}
def kW(w1:World)(S1 T:List Nat)(w:World):Prop:=(∀b,b<w1.heap.size→b∉S1→w.heap[b]?=w1.heap[b]?)∧∀b∈T,w.heap[b]?=w1.heap[b]?
def AD(P:Program)(C:dy)(ops:Array Oper)(S1 T:List Nat)(fuel:Nat)(ld:Array Bool)(x:St)(Q:Exit→St→Prop):Prop :=
 ∀w1 a w,bG C x a w→(∀b∈T,b∈S1)→(∀b∈S1,b<w1.heap.size)→Fr w1 S1 w (au x.S)→kW w1 S1 T w→wpAnyH P .any ops (LQ C Q) (kW w1 S1 T) fuel ld a w
def dH(P:Program)(C:dy)(ops:Array Oper)(S1 T:List Nat)(fuel:Nat)(ld:Array Bool)(x:St)(Q:Exit→St→Prop):Prop :=
 ∀a w,bG C x a w→au x.S=S1→(∀b∈T,b∈S1)→wpAnyH P .any ops (LQ C Q) (kW w S1 T) fuel ld a w
def NP(Q:Exit→St→Prop):Prop:=∀c y t,Q (.panic c) y→Q (.panic c) (y.put t .bS)
variable {P:Program} {C:dy} {Q:Exit→St→Prop} {x y:St} {ops:Array Oper} {l:List Oper} {o:Oper} {S1 T:List Nat}
theorem NP.body{fn:Func}{post:D→List ah→Prop}:NP (Body P fn post):=fun E y t hq=>by rcases hq.1 with h|h<;>cases h
def Tl(P:Program)(C:dy)(ops:Array Oper)(l:List Oper)(Q:Exit→St→Prop):Exit→St→Prop
 | .normal,y=>OD P C ops l y Q
 | e,y=>Q e y
theorem kW.refl(E:World)(S1 T:List Nat):kW E S1 T E:=⟨fun _ _ _=>rfl,fun _ _=>rfl⟩
theorem dH.later(hS:au x.S=S1)(h:AD P C ops S1 T fuel ld x Q):dH P C ops S1 T fuel ld x Q:=fun a w hs _ hT =>
 h w a w hs hT (fun b hb=>by
  rw[←hS] at hb;obtain⟨B,hB,rfl⟩:=mem_map.1 hb;exact(hs.own.at_ B hB).1) (hS ▸ Fr.refl _ _) (kW.refl _ _ _)
def Safe(x:St)(T:List Nat):Rd→Prop
 | .none=>True
 | .jU=>True
 | .fp k=>∃B,x.S[k]?=some B∧B.b∈T
theorem zq(h:NP Q)(d:Option Nat)(v:Value):∀c a w,LQ C Q (.panic c) (a.put d v) w→LQ C Q (.panic c) a w:=fun c a w hq=>by
 rcases hq with ⟨y,h1,h2⟩|⟨h2,_⟩
 ·cases d with
  | none=>exact .inl ⟨y,h1,h2⟩
  | some t =>
   refine .inl ⟨y.put t .bS,⟨h1.defers,by have E:=h1.size;simp only[Act.put,Array.size_setIfInBounds] at E;exact E,fun q hq=>?_,h1.own,h1.fr,h1.ex,h1.eL⟩,h c y t h2⟩;have h3:=h1.env q hq;simp only[St.put,fS];by_cases e:t=q
   ·rw[if_pos e];exact .bS _
   rw[if_neg e];have:(a.put (some t) v).tmps.getD q undef=a.tmps.getD q undef:=(by simp[Act.put,Array.getD_eq_getD_getElem?,Array.getElem?_setIfInBounds,e])
   rw[this] at h3;exact h3
 cases h2
theorem dH.take {k:Rd} {d:D} (hi:ops[i]?=some o) (hs:Region.noSelect ops=true) (hf:Region.free .any ops ld i=true) (hr:(Region.ready .any ops ld).contains i=true) (hp:NP Q)
  (hw:bY ops x o true) (hd:o.dst=some t) (h:bQ P C.G x o k d) (hk:Safe x T k) (K:dH P C ops S1 T fuel (ld.setIfInBounds i true) (x.put t d) Q):dH P C ops S1 T (fuel+1) ld x Q:=fun a w E hS hT=>by
 obtain⟨v,h1,h2⟩:=h C a w rfl E;refine wpAnyH_take hi hs hf hr (zq hp _ v) (.inl ⟨hw C a w E,fun w' I=>h2 w' ?_⟩) (kW.refl _ _ _) ?_
 ·cases k with
  | none=>trivial
  | jU=>exact fun b hb hn=>I.1 b hb (fun hm=>hn (.inr (hS ▸ hm)))
  | fp k =>
   obtain⟨B,hB,hm⟩:=hk;intro B' O;rw[hB] at O;obtain rfl:=Option.some.inj O;exact I.2 _ hm
 rw[hd];exact K _ _ (E.put h1) hS hT
theorem dH.I0 (hi:ops[i]?=some o) (hs:Region.noSelect ops=true) (hf:Region.free .any ops ld i=true) (hr:(Region.ready .any ops ld).contains i=true) (hp:NP Q)
  (hw:bY ops x o false) (hd:o.dst=some t) (K:dH P C ops S1 T fuel (ld.setIfInBounds i true) (x.put t (.v (.tuple #[]))) Q):dH P C ops S1 T (fuel+1) ld x Q:=fun a w E hS hT=>by
 refine wpAnyH_take (v:=undef) hi hs hf hr (zq hp _ _) (.inr ⟨hw C a w E,rfl⟩) (kW.refl _ _ _) ?_;rw[hd];exact K _ _ (E.put (.v _)) hS hT
theorem AD.take {k:Rd} {d:D} (hi:ops[i]?=some o) (hs:Region.noSelect ops=true) (hf:Region.free .any ops ld i=true) (hr:(Region.ready .any ops ld).contains i=true) (hp:NP Q)
  (hw:bY ops x o true) (hd:o.dst=some t) (h:bQ P C.G x o k d) (hk:Safe x T k) (qg:k≠.jU) (K:AD P C ops S1 T fuel (ld.setIfInBounds i true) (x.put t d) Q):AD P C ops S1 T (fuel+1) ld x Q:=fun Z a w E hT aa O fB=>by
 obtain⟨v,h1,h2⟩:=h C a w rfl E;refine wpAnyH_take hi hs hf hr (zq hp _ v) (.inl ⟨hw C a w E,fun w' U=>h2 w' ?_⟩) fB ?_
 ·cases k with
  | none=>trivial
  | jU=>exact absurd rfl qg
  | fp k =>
   obtain⟨B,hB,hm⟩:=hk;intro B' I;rw[hB] at I;obtain rfl:=Option.some.inj I;exact(U.2 _ hm).trans (fB.2 _ hm).symm
 rw[hd];exact K _ _ _ (E.put h1) hT aa O fB
theorem AD.I0 (hi:ops[i]?=some o) (hs:Region.noSelect ops=true) (hf:Region.free .any ops ld i=true) (hr:(Region.ready .any ops ld).contains i=true) (hp:NP Q)
  (hw:bY ops x o false) (hd:o.dst=some t) (K:AD P C ops S1 T fuel (ld.setIfInBounds i true) (x.put t (.v (.tuple #[]))) Q):AD P C ops S1 T (fuel+1) ld x Q:=fun O a w E hT aa I fB=>by
 refine wpAnyH_take (v:=undef) hi hs hf hr (zq hp _ _) (.inr ⟨hw C a w E,rfl⟩) fB ?_;rw[hd];exact K _ _ _ (E.put (.v _)) hT aa I fB
def bz(P:Program)(C:dy)(ops:Array Oper)(S1 T:List Nat)(fuel:Nat)(ld:Array Bool)(x:St)(Q:Exit→St→Prop)(i:Nat):Prop :=
 ∀w1 a w,bG C x a w→(∀b∈T,b∈S1)→(∀b∈S1,b<w1.heap.size)→Fr w1 S1 w (au x.S)→kW w1 S1 T w →
  wpOp P ops (LQ C Q) i (fun a' w'=>kW w1 S1 T w'∧wpAnyH P .any ops (LQ C Q) (kW w1 S1 T) fuel (ld.setIfInBounds i true) a' w') a w
theorem AD.all{I:List Nat}(hr:Region.ready .any ops ld=I)(hne:I≠[])(h:∀i∈I,bz P C ops S1 T fuel ld x Q i):AD P C ops S1 T (fuel+1) ld x Q:=fun U a w E hT aa O fB =>
 wpAnyH_all hr hne fun i hi=>h i hi U a w E hT aa O fB
theorem AD.one(hr:Region.ready .any ops ld=[i])(h:bz P C ops S1 T fuel ld x Q i):AD P C ops S1 T (fuel+1) ld x Q :=
 AD.all hr bn fun j hj=>by
  have:j=i:=(by simpa using hj)
  subst this;exact h
theorem AD.two{j:Nat}(hr:Region.ready .any ops ld=[i,j])(h:bz P C ops S1 T fuel ld x Q i)(h':bz P C ops S1 T fuel ld x Q j):AD P C ops S1 T (fuel+1) ld x Q :=
 AD.all hr bn fun k hk=>by
  simp only[mem_cons,not_mem_nil,or_false] at hk;rcases hk with rfl|rfl
  ·exact h
  exact h'
theorem AD.three{j k:Nat}(hr:Region.ready .any ops ld=[i,j,k])(h:bz P C ops S1 T fuel ld x Q i)(h':bz P C ops S1 T fuel ld x Q j)(E:bz P C ops S1 T fuel ld x Q k):AD P C ops S1 T (fuel+1) ld x Q :=
 AD.all hr bn fun m hm=>by
  simp only[mem_cons,not_mem_nil,or_false] at hm;rcases hm with rfl|rfl|rfl
  ·exact h
  ·exact h'
  exact E
theorem AD.done(hr:Region.ready .any ops ld=[])(h:Q .normal x):AD P C ops S1 T fuel ld x Q:=fun O a w E hT aa I fB=>wpAnyH_done hr (.inl ⟨x,E,h⟩) _
theorem bz.fV {W:List Nat} {post:St→Prop} (hi:ops[i]?=some o) (hw:bY ops x o true) (h:fN P C.G x o W post) (hW:∀C a w,bG C x a w→∀b∈T,b∉W) (hWx:∀b∈W,b∈au x.S)
  (k:∀y,post y→AD P C ops S1 T fuel (ld.setIfInBounds i true) y Q):bz P C ops S1 T fuel ld x Q i:=fun Z a w I hT aa E fB=>by
 unfold wpOp;simp only[hi,hw C a w I,if_true];refine .inl (h C a w _ _ rfl I fun y a' w' hp rS hc hf=>?_);have O:Fr Z S1 w' (au y.S):=⟨hf.os.trans E.os,hf.tape.trans E.tape,hf.output.trans E.output,Nat.le_trans E.size hf.size,fun b hb hn=>by
  obtain⟨q1,q2⟩:=E.block b hb hn;obtain⟨q3,q4⟩:=hf.block b (Nat.lt_of_lt_of_le hb E.size) q2;exact⟨q3.trans q1,q4⟩⟩
 have U:kW Z S1 T w':=⟨fun b hb hn=>(O.block b hb hn).1,fun b hb=>by
  have iZ:=Nat.lt_of_lt_of_le (aa b (hT b hb)) E.size;exact(hc.2 b iZ (hW C a w I b hb)).trans (fB.2 b hb)⟩
 exact⟨U,k y hp Z a' w' rS hT aa O U⟩
theorem bz.still{kd:Rd}{d:D}(hi:ops[i]?=some o)(hw:bY ops x o true)(hd:o.dst=some t)(h:bQ P C.G x o kd d)(k:AD P C ops S1 T fuel (ld.setIfInBounds i true) (x.put t d) Q):bz P C ops S1 T fuel ld x Q i :=
 bz.fV hi hw (h.fV hd) (fun _ _ _ _ b _ hb=>by simp at hb) (fun b hb=>by simp at hb) fun y hy=>by subst hy;exact k
theorem bz.skip(hi:ops[i]?=some o)(hw:bY ops x o false)(hd:o.dst=some t)(k:AD P C ops S1 T fuel (ld.setIfInBounds i true) (x.put t (.v (.tuple #[]))) Q):bz P C ops S1 T fuel ld x Q i:=fun O a w E hT aa I fB=>by
 unfold wpOp;simp only[hi,hw C a w E,hd];exact⟨fB,k O _ w (E.put (.v _)) hT aa I fB⟩
theorem AD.wk(h:Wk x y)(hb:au y.S=au x.S)(k:AD P C ops S1 T fuel ld y Q):AD P C ops S1 T fuel ld x Q:=fun O a w E hT aa I fB=>k O a w (h C a w E) hT aa (hb ▸ I) fB
theorem AD.FN(h:Wk x y)(hb:∀b∈au y.S,b∈au x.S)(k:AD P C ops S1 T fuel ld y Q):AD P C ops S1 T fuel ld x Q:=fun O a w I hT aa E fB =>
 k O a w (h C a w I) hT aa ⟨E.os,E.tape,E.output,E.size,fun b h1 h2=>⟨(E.block b h1 h2).1,fun h3=>(E.block b h1 h2).2 (hb b h3)⟩⟩ fB
theorem CD.draw{id:Nat}{l:List Oper}(T:List Nat)(hm:P.follows .mixedOrders=true)(hT:∀b∈T,b∈au x.S)(h:dH P C l.toArray (au x.S) T l.toArray.size (Array.replicate l.toArray.size false) x Q):CD P C (.region id l.toArray true) x Q:=fun a w hs =>
 wp_region_held (S:=kW {w with drawn:=w.drawn+1} (au x.S) T) hm (h a _ ⟨hs.defers,hs.size,fun t ht=>(hs.env t ht).mono fun b _ hn=>⟨rfl,hn⟩,⟨fun B E=>by
  obtain⟨r0,cur,r1,r2,I,O⟩:=hs.own.at_ B E;exact⟨r0,cur,r1,r2,I,fun i hi=>by
   obtain⟨u,hu,hq⟩:=O i hi;exact⟨u,hu,hq.mono fun b _ hn=>⟨rfl,hn⟩⟩⟩,hs.own.apart⟩,⟨hs.fr.os,hs.fr.tape,hs.fr.output,hs.fr.size,hs.fr.block⟩,hs.ex,hs.eL⟩ rfl hT)

end Go.Proofs.YtdgichenhdikgaaGreatDoor.V

namespace Go.Proofs.YtdgichenhdikgaaGreatDoor.V
open List
open Go.RowKit
variable {P:Program}

variable {t:TypeId} {k:IntKind} {a b:Int} {us xV:List Value} {y:Operand}
theorem JB{op:BinOp}{r:Int}(h:(op = .add∧k.wrap (a+b)=r)∨(op = .sub∧k.wrap (a-b)=r)∨(op = .mul∧k.wrap (a*b)=r)):kQ P op t (.int k a) (.int k b) (.int k r):=fun y z w=>by
 rcases h with ⟨rfl,h⟩|⟨rfl,h⟩|⟨rfl,h⟩<;>simp[eqGuard,binOp,Op.intArith,h]

theorem kr{r:Int}(h:k.wrap (a+b)=r):kQ P .add t (.int k a) (.int k b) (.int k r):=JB (.inl ⟨rfl,h⟩)
theorem gY{r:Int}(h:k.wrap (a-b)=r):kQ P .sub t (.int k a) (.int k b) (.int k r):=JB (.inr (.inl ⟨rfl,h⟩))
theorem JC{r:Int}(h:k.wrap (a*b)=r):kQ P .mul t (.int k a) (.int k b) (.int k r):=JB (.inr (.inr ⟨rfl,h⟩))
theorem SN:kQ P .lss t (.int k a) (.int k b) (.bool (decide (a<b))):=fun y z w=>by simp[eqGuard,binOp,Op.intCmp]
theorem SO:kQ P .leq t (.int k a) (.int k b) (.bool (decide (a≤b))):=fun y z w=>by simp[eqGuard,binOp,Op.intCmp]
theorem SP:kQ P .gtr t (.int k a) (.int k b) (.bool (decide (a>b))):=fun y z w=>by simp[eqGuard,binOp,Op.intCmp]
theorem SQ:kQ P .geq t (.int k a) (.int k b) (.bool (decide (a≥b))):=fun y z w=>by simp[eqGuard,binOp,Op.intCmp]
theorem SR:kQ P .eql t (.int k a) (.int k b) (.bool (a==b)):=fun y z w=>by simp[eqGuard,binOp,Op.intCmp]
theorem SS:kQ P .neq t (.int k a) (.int k b) (.bool (a != b)):=fun y z w=>by simp[eqGuard,binOp,Op.intCmp]
theorem aeo{r:Int}(hb:b≠0)(h:k.wrap (a.tdiv b)=r):kQ P .quo t (.int k a) (.int k b) (.int k r):=fun y z w=>by simp[eqGuard,binOp,Op.intDiv,hb,h]
theorem JD(hb:b≠0):kQ P .rem t (.int k a) (.int k b) (.int k (a.tmod b)):=fun y z w=>by simp[eqGuard,binOp,Op.intDiv,hb]

theorem QR{a b:ByteArray}:kQ P .eql t (.string a) (.string b) (.bool (a.toList==b.toList)):=fun y z w=>by simp[eqGuard,binOp,Op.stringOp]
theorem QS{a b:ByteArray}:kQ P .neq t (.string a) (.string b) (.bool (!(a.toList==b.toList))):=fun y z w=>by simp[eqGuard,binOp,Op.stringOp]
theorem JE{a b:ByteArray}(h:a.size+b.size≤9223372036854775807):kQ P .add t (.string a) (.string b) (.string (a++b)):=fun y z w=>by
 have:¬(((a.size+b.size:Nat):Int)>IntKind.i64.max):=by
  have:IntKind.i64.max=9223372036854775807:=rfl;omega
 simp only[eqGuard,binOp,Op.stringOp,Sem.run_bind];simp only[this,if_false];simp

theorem EC{a b:Bool}(E:P.underlying t=some .bool):kQ P .eql t (.bool a) (.bool b) (.bool (a==b)):=fun y z w=>by
 have:binOp .eql t (.bool a) (.bool b)=(do pure (.bool (←Op.equal t (.bool a) (.bool b)))):=rfl;simp only[eqGuard,this,Sem.run_bind];simp[run_equal_bool w t a b E]
theorem QT{a b:Bool}(E:P.underlying t=some .bool):kQ P .neq t (.bool a) (.bool b) (.bool (!(a==b))):=fun y z w=>by
 have:binOp .neq t (.bool a) (.bool b)=(do pure (.bool (!(←Op.equal t (.bool a) (.bool b))))):=rfl;simp only[eqGuard,this,Sem.run_bind];simp[run_equal_bool w t a b E]

theorem cg.FO{w:World}{L:Nat→Prop}{v:Value}(h:cg w L (.agg (us.map .v)) v):v = .agg us.toArray:=by
 cases h with
 | agg _ vs hl hr =>
  congr 1;congr 1;refine ext_getElem xR fun i h1 h2=>?_;have:=hr i (by simpa using h2) h1;simp only[getElem_map] at this;exact this.kV

section
variable {G:List (Nat×List Value)} {x:St} {o:Oper}

theorem aaP {t':TypeId} {z:Operand} {r:Bool} (ho:o.op = .binOp .eql t y z t') (hy:aE x y = .agg (us.map .v)) (hz:aE x z = .agg (xV.map .v)) (hg:P.eqGuardType P.depth t=false)
  (hE:∀w,(Op.equalIn 10000 t (.agg us.toArray) (.agg xV.toArray)).run P w = .ok r w):bQ P G x o .none (.v (.bool r)):=fun C a w _ h=>by
 have h1:=h.eval y;have h2:=h.eval z;rw[hy] at h1;rw[hz] at h2;refine⟨_,.v _,fun w' _=>?_⟩;unfold execOp;simp only[ho,h1.FO,h2.FO,Sem.run_bind,run_eqGuard_agg _ _ _ _ _ _ _ hg,Result.andThen_ok,run_eql_struct,hE,Sem.run_pure]

theorem Pv {t':TypeId} {z:Operand} {r:Bool} (ho:o.op = .binOp .neq t y z t') (hy:aE x y = .agg (us.map .v)) (hz:aE x z = .agg (xV.map .v)) (hg:P.eqGuardType P.depth t=false)
  (hE:∀w,(Op.equalIn 10000 t (.agg us.toArray) (.agg xV.toArray)).run P w = .ok r w):bQ P G x o .none (.v (.bool !r)):=fun C a w _ h=>by
 have h1:=h.eval y;have h2:=h.eval z;rw[hy] at h1;rw[hz] at h2;refine⟨_,.v _,fun w' _=>?_⟩;unfold execOp;simp only[ho,h1.FO,h2.FO,Sem.run_bind,run_eqGuard_agg _ _ _ _ _ _ _ hg,Result.andThen_ok,run_neq_struct,hE,Sem.run_pure]

def vk(b:UInt8):D:=.v (.int .u8 (b.toNat:Int))

theorem Zh{s e:TypeId}{bs:List UInt8}{n:Nat}(ho:o.op = .convert s t y)(hy:aE x y = .list 1 (bs.map vk) n)(hs:P.underlying s=some (.slice e))(he:P.underlying e=some (.int .u8))(ht:P.underlying t=some .string) :
  bQ P G x o .jU (.v (.string ⟨bs.toArray⟩)):=fun C a w _ h=>by
 have hr:=h.eval y;rw[hy] at hr;generalize hg:a.eval y=u at hr;generalize dh:bs.map vk=cs at hr;cases hr with
 | my _ ad cap =>
  have:bs=[]:=(by simpa using dh)
  subst this;refine⟨_,.v _,fun w' _=>?_⟩;unfold execOp;simp only[ho,hg,Sem.run_bind,run_convert_bytes_string w' s t e ad 0 cap hs he ht];cases ad<;>simp[Conv.bytesToString,loadCells,loadCellsFrom]<;>rfl
 | list _ _ _ b I cap g hl q1 q2 hb hL hc O =>
  subst dh;simp only[length_map,Nat.mul_one] at hl hc;refine⟨_,.v _,fun w' hw=>?_⟩;unfold execOp;have E:=run_convert_bytes_back (P:=P) w' s t e ⟨b,I,none⟩ cap bs hs he ht (fun j hj=>by
   rw[Addr.add_mid];have U:=World.cell?_of_block (w:=w) (a:=⟨b,I+j,none⟩) (hw b hb hL);rw[U,hc j hj];have:=O j (by simpa using hj);simp only[getElem_map,vk] at this;rw[this.kV])
  rw[hl] at E;simp only[ho,hg,Sem.run_bind,E,Result.andThen_ok,Sem.run_pure]
end

theorem af3{b:Bool}:∀w,(Op.unary .not (.bool b)).run P w = .ok (.bool !b) w:=fun w=>rfl
theorem Km{r:Int}(h:k.wrap (0-a)=r):∀w,(Op.unary .neg (.int k a)).run P w = .ok (.int k r) w:=fun w=>by
 subst h;rfl

theorem oY{s:TypeId}{k':IntKind}{r:Int}{d:TypeDesc}(hs:∀w,(underlying s).run P w = .ok d w)(ht:∀w,(underlying t).run P w = .ok (.int k') w)(h:k'.wrap a=r):∀w,(convert s t (.int k a)).run P w = .ok (.int k' r) w:=fun w=>by
 subst h;simp[convert,hs,ht,Conv.intToInt]

theorem wrap_i64{x:Int}(h1:-9223372036854775808≤x)(h2:x≤9223372036854775807):IntKind.i64.wrap x=x:=IntWalk.i64_in _ w4

theorem af4{ts:Array TypeId}{E:TypeId}:∀cs w,(builtin .min ts E cs #[.int k a,.int k b]).run P w = .ok (.value (.int k (if b<a then b else a))) w:=fun cs w=>by
 simp[builtin,Builtin.min_,Builtin.min2]
theorem nJ:(∀{p:Prop} [Decidable p],(decide p=true)=p)∧(∀{p:Prop} [Decidable p],(decide p=false)↔¬p)∧(∀{a b:Int},(a==b)=true↔a=b)∧(∀{a b:Int},(a != b)=true↔a≠b)∧(∀{a b:Bool},(a==b)=true↔a=b)∧(∀{a b:Bool},(a != b)=true↔a≠b)
  ∧ (∀{b:Bool},((!b)=true)=(b=false))∧(∀{b:Bool},((!b)=false)=(b=true))∧(∀{b:Bool},(¬b=true)=(b=false))∧(∀{b:Bool},(¬b=false)=(b=true))∧(∀{a b:Int},(a==b)=false↔¬a=b)∧(∀{a b:Int},(a != b)=false↔a=b)∧(∀{a b:Bool},(a==b)=false↔¬a=b)∧(∀{a b:Bool},(a != b)=false↔a=b)
  ∧ (∀{a b:Bool},((a&&b)=true)=(a=true∧b=true))∧(∀{a b:Bool},((a||b)=true)=(a=true∨b=true))∧(∀{b:Bool},(!!b)=b)∧(∀{a b:Bool},(a&&b)=false↔a=false∨b=false)∧(∀{a b:Bool},(a||b)=false↔a=false∧b=false)∧(∀{a b:Int},(¬a<b)↔b≤a)∧(∀{a b:Int},(¬a≤b)↔b<a):=by
 refine⟨fun {p} _=>by simp,fun {p} _=>by simp,by simp,by simp,by simp,by simp,by simp,by simp,by simp,by simp,by simp,by simp,by simp,by simp,by simp,by simp,by simp,by simp,by simp,by simp,by simp⟩
end Go.Proofs.YtdgichenhdikgaaGreatDoor.V
