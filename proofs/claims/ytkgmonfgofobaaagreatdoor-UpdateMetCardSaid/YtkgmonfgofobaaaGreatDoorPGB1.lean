/-
  GB: walks and plain facts, part 1.
-/
import Derived.WalkKit
import Derived.Deep.MidRow
import Derived.Deep.AppendLies
import Derived.OrdersHeld
import Derived.IntWalk
import Derived.Laws.Cover3
import Derived.ChangeKeysEq
import Derived.ProofKit
import Derived.OpenShut
import Derived.Lib.LaidTab
import Derived.Below
import Derived.Deep.Slices
import Derived.ArgAppend
import Derived.Lib.AppendStr
import Derived.MapKept
import Derived.RangeFuncLeaves
import Derived.RangeFuncOwn
import Derived.OrdersIn
import Derived.TacticsIn
import Derived.Shelf.Abstract
import Derived.RecoverIn
import Derived.WalkLawsBesides
import Derived.Lib.AppendZeros
import Derived.Laws.IdiomCopy
import Derived.Lib.Overlaps
import Derived.Lib.AppendZerosOnto
import Derived.Lib.BytesEntry
import Derived.Shelf.Strings.Builder1
import Derived.Shelf.Strings.Builder2
import Derived.Shelf.Small.Strs
import Derived.Shelf.Small.Wraps
import Derived.Shelf.Strings.BuilderF
import Derived.Shelf.Strings.BuilderK
import Derived.Shelf.Utf8.RuneCount
import Derived.Shelf.Strings.Builder2Cap
import Derived.Shelf.Strings.Search1
import Derived.Shelf.Strings.Search2
import Derived.Shelf.Strings.Search3
import Derived.Shelf.Strings.Count
import Derived.Shelf.LaysM
import Derived.Shelf.Strings.Shaped
import Derived.Shelf.Strings.Split
import Derived.Shelf.Strings.Replace
import Derived.Shelf.Strings.SplitShaped
import Derived.Shelf.Unicode.Decode
import Derived.Shelf.Strings.RuneCount
import Derived.Shelf.Unicode.DecodeSlow
import Derived.Shelf.Unicode.DecodeAny
import Derived.Shelf.Strings.BuilderCap
import Derived.Shelf.Slices.Turned
import Derived.Shelf.Slices.Reverse
import Derived.Ground.Names2Prog
import Derived.Shelf.Slices.Clone
import Derived.Shelf.Slices.SearchI
import Derived.Shelf.Slices.Delete
import Derived.Shelf.Slices.Cells
import Derived.Shelf.Slices.Empties
import Derived.Shelf.Bytes.SlSearch0
import Derived.Ground.SlgnProg
import Derived.Shelf.SlicesE.Clone
import Derived.Shelf.Bytes.SlEqualAll
import Derived.Shelf.Bytes.Small
import Derived.SizedLaws
import Derived.Lib.Bytealg
import Derived.Test.YtkgmonfgofobaaaGreatDoorRows
import Derived.Test.YtkgmonfgofobaaaGreatDoorProg
set_option linter.unusedVariables false
set_option linter.unusedSimpArgs false
set_option maxRecDepth 100000
set_option maxHeartbeats 4000000
namespace Go.Proofs.YtkgmonfgofobaaaGreatDoor
open List
variable {p:Prop}
theorem w4(h:p:=by omega):p:=h
theorem w5(h:p:=by first|assumption|omega):p:=h
theorem w6(h:p:=by (repeat (first|exact fI|(apply fX;focus (first|rfl|(simp;done)|(congr 2;omega)|(apply eL;rw[←Pr aa];unfold pY;first|(rw[FT (by assumption)];simp;done)|(rw[FU (by assumption),take_of_length_le (l:=l7 (uN l[i])) (by rw[wE];omega)];simp;done)|(rw[FV (by assumption),←Bk];simp;done)|(rw[Vb (by assumption) (by assumption) (by assumption)];done))|(apply eL;rfl)|(apply eL;simp;done)))|(apply fN;focus rfl)));done):p:=h
theorem w7(h:p:=by (repeat (first|exact fI|(apply fX;focus (first|rfl|(rw[uj];done)|(simp;done)))|(apply fN;focus rfl)));done):p:=h
theorem w8(h:p:=by decide):p:=h
theorem w9(h:p:=by simp only[length_append,length_map,length_cons,length_nil];omega):p:=h
theorem vB(h:p:=by have cY:=dN;have q1:=E7 MA i;(try have q2:=MA _ (getElem_mem aa));(try simp only[length_append,length_cons,length_nil]);omega):p:=h
theorem qe(h:p:=by simp only[maxLen,length_append,length_map,length_cons,length_nil];omega):p:=h
theorem nB(h:p:=by simp only[maxLen,length_cons,length_nil] at *;omega):p:=h
theorem GR(h:p:=by rw[←Pr aa];unfold pY;first|(rw[FT (by assumption)];simp;done)|(rw[FU (by assumption),take_of_length_le (l:=l7 (uN l[i])) (by rw[wE];omega)];simp;done)|(rw[FV (by assumption),←Bk];simp;done)|(rw[Vb (by assumption) (by assumption) (by assumption)];done)):p:=h
theorem nC(h:p:=by simp only[length_cons,length_nil] at *;omega):p:=h
theorem vC(h:p:=by show _=p.kids.drop (if p.leaf=true then 2 else 3);rw[fR];rfl):p:=h
theorem vD(h:p:=by show _=p.keys.drop (if p.leaf=true then 2 else 3);rw[fR];rfl):p:=h
theorem bq(h:p:=by simp):p:=h
theorem jr(h:p:=by first|rfl|assumption):p:=h
theorem zY(h:p:=by have cY:=dN;(try simp only[length_append,length_cons,length_nil,length_take,wE]);omega):p:=h
theorem GS(h:p:=by (repeat (first|exact fI|(apply fX;focus (first|rfl|(simp;done)|(congr 2;omega)|(apply eL;rfl)|(apply eL;simp;done)))|(apply fN;focus rfl)));done):p:=h
theorem zZ(h:p:=by simp only[flatten_cons,flatten_nil,length_append,length_cons,length_nil];omega):p:=h
theorem Aa(h:p:=by have cY:=dN;(try simp only[length_append,length_cons,length_nil]);omega):p:=h
theorem nc(h:p:=by first|rfl|simp[St.put]):p:=h
theorem k8(h:p:=by first|rfl|simp):p:=h
theorem ig(h:p:=by simp;omega):p:=h
theorem pp(h:p:=by rw[length_take];omega):p:=h
theorem sV(h:p:=by rw[pZ,jl,append_assoc];rfl):p:=h
theorem MB(h:p:=by have:=ED s.names s.names.length;(try rw[um]);simp only[length_append,length_map,length_cons,length_nil];omega):p:=h
theorem pu(h:p:=by rw[append_nil]):p:=h
theorem GU(h:p:=by simp only[maxLen,length_append,length_cons,length_nil] at *;omega):p:=h
theorem sW(h:p:=by rw[y2,pZ,jl];simp):p:=h
theorem Ab(h:p:=by show(-1:Int)≤9223372036854775807;decide):p:=h
theorem CM(h:p:=by first|rfl|(show(1:Int)+_=1+_;omega)|omega):p:=h
theorem vE(h:p:=by rw[length_append];omega):p:=h
theorem CN(h:p:=by rw[length_append,length_singleton];omega):p:=h
theorem qS(h:p:=by rw[tU];omega):p:=h
theorem GV(h:p:=by show _=p.kids.take (if p.leaf=true then 2 else 3);rw[fR];rfl):p:=h
theorem GW(h:p:=by show 0+_*1+1≤_;rw[cm eG,length_set];omega):p:=h
theorem vF(h:p:=by rw[length_set];omega):p:=h
theorem xH(h:p:=by rw[length_set];exact gg):p:=h
theorem rT(h:p:=by rw[KT];decide):p:=h
theorem xI(h:p:=by rw[length_set];exact hj):p:=h
theorem px(h:p:=by simpa using h):p:=h
theorem uo(h:p:=by first|exact yT rfl gi (fun h=>by cases h) runUnderlying144 sizeOf90 w4|exact nO (fun _=>rfl) runUnderlying144 sizeOf90 w4|exact yU (fun h=>by cases h) (fun _=>rfl) runUnderlying144 sizeOf90 w4 w4|exact nk (fun h=>by cases h) (fun _=>rfl) runUnderlying144 sizeOf90 w4 w4):p:=h
theorem uq(h:p:=by first|exact yT rfl eG (fun h=>by cases h) runUnderlying70 sizeOf3 w4|exact nO (fun _=>rfl) runUnderlying70 sizeOf3 w4|exact yU (fun h=>by cases h) (fun _=>rfl) runUnderlying70 sizeOf3 w4 w4|exact nk (fun h=>by cases h) (fun _=>rfl) runUnderlying70 sizeOf3 w4 w4):p:=h
theorem Ac(h:p:=by first|exact yT rfl gi (fun h=>by cases h) runUnderlying70 sizeOf3 w4|exact yT rfl eG (fun h=>by cases h) runUnderlying70 sizeOf3 w4|exact nO (fun _=>rfl) runUnderlying70 sizeOf3 w4|exact nk (fun h=>by cases h) (fun _=>rfl) runUnderlying70 sizeOf3 w4 w4):p:=h
theorem GX(h:p:=by first|exact yT rfl gi (fun h=>by cases h) runUnderlying144 sizeOf90 w4|exact yT rfl eG (fun h=>by cases h) runUnderlying144 sizeOf90 w4|exact nO (fun _=>rfl) runUnderlying144 sizeOf90 w4|exact nk (fun h=>by cases h) (fun _=>rfl) runUnderlying144 sizeOf90 w4 w4):p:=h
theorem GY(h:p:=by first|exact kO mQ (fun h=>by cases h) runUnderlying36 sizeOf35 w4|exact nO (fun h=>by cases h) runUnderlying36 sizeOf35 w4|exact nk (fun _=>rfl) (fun h=>by cases h) runUnderlying36 sizeOf35 w4 w4):p:=h
theorem MC(h:p:=by first|exact kO gi (fun h=>by cases h) runUnderlying144 sizeOf90 w4|exact nO (fun h=>by cases h) runUnderlying144 sizeOf90 w4|exact yU (fun _=>rfl) (fun h=>by cases h) runUnderlying144 sizeOf90 w4 w4|exact nk (fun _=>rfl) (fun h=>by cases h) runUnderlying144 sizeOf90 w4 w4):p:=h
theorem MD(h:p:=by first|exact kO eG (fun h=>by cases h) runUnderlying70 sizeOf3 w4|exact nO (fun h=>by cases h) runUnderlying70 sizeOf3 w4|exact yU (fun _=>rfl) (fun h=>by cases h) runUnderlying70 sizeOf3 w4 w4|exact nk (fun _=>rfl) (fun h=>by cases h) runUnderlying70 sizeOf3 w4 w4):p:=h
theorem ME(h:p:=by first|exact kO jB (fun h=>by cases h) runUnderlying44 sizeOf9 w4|exact kO lu (fun h=>by cases h) runUnderlying44 sizeOf9 w4|exact nO (fun h=>by cases h) runUnderlying44 sizeOf9 w4|exact nk (fun _=>rfl) (fun h=>by cases h) runUnderlying44 sizeOf9 w4 w4):p:=h
theorem MF(h:p:=by (repeat (first|exact fI|(apply fX;focus (first|rfl|(simp;done)|(congr 2;omega)|(apply eL;first|exact Iu aa w4 _|exact Ii aa w4 _)|(apply eL;simp[jY])|(apply eL;simp;done)))|(apply fN;focus rfl)));done):p:=h
theorem qT(h:p:=by rw[←Int.ofNat_sub w4];exact wrap_i64 w4 w4):p:=h
theorem Ad(h:p:=by rw[←Int.natCast_add];exact wrap_i64 w4 w4):p:=h
theorem MG(h:p:=by rw[←show(p.kids.drop 3)=(cr p).kids from vC];simp only[length_take,length_drop];omega):p:=h
theorem MH(h:p:=by rw[←show(p.kids.drop 2)=(cr p).kids from vC];simp only[length_take,length_drop];omega):p:=h
theorem MI(h:p:=by rw[←show(p.keys.drop 3)=(cr p).keys from vD];simp only[length_take,length_drop];omega):p:=h
theorem MJ(h:p:=by rw[←show(p.keys.drop 2)=(cr p).keys from vD];simp only[length_take,length_drop];omega):p:=h
theorem MK(h:p:=by rw[show(((a+(t+1):Nat):Int)-1)=((a+t:Nat):Int) by omega];exact wrap_i64 w4 w4):p:=h
theorem rU(h:p:=by rw[←ho];rfl):p:=h
theorem vG(h:p:=by rw[←xJ];exact gg):p:=h
theorem ML(h:p:=by rw[show((j:Int)-1)=((j-1:Nat):Int) by omega];exact wrap_i64 w4 w4):p:=h
theorem xK(h:p:=by rw[g.ay];exact JD):p:=h
theorem MM(h:p:=by exact iZ (k:=2) (i:=(ei H l[i])) gi rfl rfl rfl isAgg110 gJ rfl):p:=h
theorem MN(h:p:=by exact iZ (k:=1) (i:=(ei H l[i])) gi rfl rfl rfl isAgg110 gJ rfl):p:=h
theorem MO(h:p:=by exact iZ (k:=0) (i:=(ei H l[i])) gi rfl rfl rfl isAgg110 gJ rfl):p:=h
theorem GZ(h:p:=by show 0+_*1+1≤_;rw[cm eG];omega):p:=h
theorem ur(h:p:=by simp at aO;omega):p:=h
theorem MP(h:p:=by unfold en;rw[if_neg cN,if_neg ek,if_neg fB,if_pos gG,qU]):p:=h
theorem vH(h:p:=by simp[maxLen];omega):p:=h
theorem sX(h:p:=by rw[h4];decide):p:=h
theorem Ae(h:p:=by rw[length_map];omega):p:=h
theorem MQ(h:p:=by rw[eo];exact mem_flatMap.2 ⟨_,getElem_mem d1,hx⟩):p:=h
theorem MR(h:p:=by first|exact fun _ hq=>hq|exact fun _ hq=>by cases hq.1):p:=h
theorem xL(h:p:=by rw[g.ay];decide):p:=h
theorem sY(h:p:=by rw[y1];rfl):p:=h
theorem Af(h:p:=by first|omega|decide):p:=h
theorem vI(h:p:=by simpa using aY):p:=h
theorem G0(h:p:=by rw[length_append];simp;omega):p:=h
theorem Ag(h:p:=by simpa[av] using dU):p:=h
theorem Ah(h:p:=by show 1≤10;decide):p:=h
theorem vJ(h:p:=by simpa using hl):p:=h
theorem Ai(h:p:=by simpa[av] using hj):p:=h
theorem Aj(h:p:=by rw[E8];decide):p:=h
theorem xM(h:p:=by rw[iV];decide):p:=h
theorem MS(h:p:=by show _≤1000;exact Nat.le_of_ble_eq_true rfl):p:=h
theorem xN(h:p:=by simpa using aO):p:=h
theorem G1(h:p:=by rw[length_set];exact CO):p:=h
theorem Ak(h:p:=by exact fun _=>rfl):p:=h
theorem MT(h:p:=by show w.heap.size<(w.heap.push _).size;simp):p:=h
theorem G2(h:p:=by show ¬(4:Int)=2;decide):p:=h
theorem MU(h:p:=by show(w.heap.push _)[w.heap.size]?=_;simp):p:=h
theorem MV(h:p:=by rw[cm uZ,length_take];omega):p:=h
theorem uu(h:p:=by assumption):p:=h
theorem G3(h:p:=by show(4:Int)≤6;decide):p:=h
theorem G4(h:p:=by simp only[maxLen];omega):p:=h
theorem G5(h:p:=by show i<cs.length;omega):p:=h
theorem z4(h:p:=by
  refine AD.one (i:=17) aB ?_;refine bB.call rfl ap rfl rfl rfl call152 (OY p.kids (aL (t.pg (aI t k h t.root)) k) ci bi qf fC G6 w4) ⟨ot,ot,ot,trivial⟩ (mM (k:=5) rfl) iD ?_;rintro _ _ ⟨rfl,rfl⟩;refine AD.perm (perm_middle (l₁:=[_,_,_,_,_])).symm ?_;refine c9 18 rfl qg ?_;refine c9 19 rfl (dF 1) ?_;refine AD.one (i:=20) aB ?_;refine bB.storeAt (k:=3) (cs':=flatMap gO (L.set (aI t k h t.root).toNat (⟨{p with keys:=(p.keys.eraseIdx (aL (t.pg (aI t k h t.root)) k))},some ⟨bk,0,none⟩,ck,[⟨bk,90,ck*1,flatMap cK (p.keys.eraseIdx (aL (t.pg (aI t k h t.root)) k))⟩],some ⟨bi,0,none⟩,ci,[⟨bi,3,ci*1,flatMap cI p.kids⟩]⟩:aX))) rfl ap rfl rfl ot rfl rfl ot rfl rfl sizeOf144 rfl (by show 0+(aI t k h t.root).toNat*5+1+1≤(flatMap gO L).length;rw[cm hU];omega) (by show(L.flatMap gO).set (0+(aI t k h t.root).toNat*5+1) _=_;rw[Nat.zero_add];exact vX hU w8 hj (by rw[←ho];show gO (⟨{p with keys:=(p.keys.eraseIdx (aL (t.pg (aI t k h t.root)) k))},some ⟨bk,0,none⟩,ck,[⟨bk,90,ck*1,flatMap cK (p.keys.eraseIdx (aL (t.pg (aI t k h t.root)) k))⟩],some ⟨bi,0,none⟩,ci,[⟨bi,3,ci*1,flatMap cI p.kids⟩]⟩:aX)=(gO (⟨p,some ⟨bk,0,none⟩,ck,[⟨bk,90,ck*1,flatMap cK p.keys⟩],some ⟨bi,0,none⟩,ci,[⟨bi,3,ci*1,flatMap cI p.kids⟩]⟩:aX)).set 1 _;unfold gO;rw[length_eraseIdx_of_lt ha];rfl)) iD ?_;refine fw ?_;refine aG 2 ?_
  refine OD.storeAt (k:=3) (cs':=flatMap gO (L.set (aI t k h t.root).toNat (⟨(kH p (aL (t.pg (aI t k h t.root)) k)),some ⟨bk,0,none⟩,ck,[⟨bk,90,ck*1,flatMap cK (p.keys.eraseIdx (aL (t.pg (aI t k h t.root)) k))⟩],some ⟨bi,0,none⟩,ci,[⟨bi,3,ci*1,flatMap cI (p.kids.eraseIdx (aL (t.pg (aI t k h t.root)) k))⟩]⟩:aX))) ap rfl rfl ot rfl rfl ot rfl rfl sizeOf70 rfl (by show 0+(aI t k h t.root).toNat*5+2+1≤(flatMap gO (L.set (aI t k h t.root).toNat (⟨{p with keys:=(p.keys.eraseIdx (aL (t.pg (aI t k h t.root)) k))},some ⟨bk,0,none⟩,ck,[⟨bk,90,ck*1,flatMap cK (p.keys.eraseIdx (aL (t.pg (aI t k h t.root)) k))⟩],some ⟨bi,0,none⟩,ci,[⟨bi,3,ci*1,flatMap cI p.kids⟩]⟩:aX))).length;rw[cm hU,length_set];omega) (by show(flatMap gO (L.set (aI t k h t.root).toNat (⟨{p with keys:=(p.keys.eraseIdx (aL (t.pg (aI t k h t.root)) k))},some ⟨bk,0,none⟩,ck,[⟨bk,90,ck*1,flatMap cK (p.keys.eraseIdx (aL (t.pg (aI t k h t.root)) k))⟩],some ⟨bi,0,none⟩,ci,[⟨bi,3,ci*1,flatMap cI p.kids⟩]⟩:aX))).set (0+(aI t k h t.root).toNat*5+2) _=_;rw[Nat.zero_add,vX hU (a':=(⟨(kH p (aL (t.pg (aI t k h t.root)) k)),some ⟨bk,0,none⟩,ck,[⟨bk,90,ck*1,flatMap cK (p.keys.eraseIdx (aL (t.pg (aI t k h t.root)) k))⟩],some ⟨bi,0,none⟩,ci,[⟨bi,3,ci*1,flatMap cI (p.kids.eraseIdx (aL (t.pg (aI t k h t.root)) k))⟩]⟩:aX)) w8 xI (by rw[getElem_set_self];show gO (⟨(kH p (aL (t.pg (aI t k h t.root)) k)),some ⟨bk,0,none⟩,ck,[⟨bk,90,ck*1,flatMap cK (p.keys.eraseIdx (aL (t.pg (aI t k h t.root)) k))⟩],some ⟨bi,0,none⟩,ci,[⟨bi,3,ci*1,flatMap cI (p.kids.eraseIdx (aL (t.pg (aI t k h t.root)) k))⟩]⟩:aX)=(gO (⟨{p with keys:=(p.keys.eraseIdx (aL (t.pg (aI t k h t.root)) k))},some ⟨bk,0,none⟩,ck,[⟨bk,90,ck*1,flatMap cK (p.keys.eraseIdx (aL (t.pg (aI t k h t.root)) k))⟩],some ⟨bi,0,none⟩,ci,[⟨bi,3,ci*1,flatMap cI p.kids⟩]⟩:aX)).set 2 _;unfold gO kH;simp only[];rw[length_eraseIdx_of_lt qf];rfl),set_set]) ?_
  have vK:(⟨bk,90,ck*1,flatMap cK (p.keys.eraseIdx (aL (t.pg (aI t k h t.root)) k))⟩::⟨bi,3,ci*1,flatMap cI (p.kids.eraseIdx (aL (t.pg (aI t k h t.root)) k))⟩::((L.eraseIdx (aI t k h t.root).toNat).flatMap bO)).Perm ((L.set (aI t k h t.root).toNat (⟨(kH p (aL (t.pg (aI t k h t.root)) k)),some ⟨bk,0,none⟩,ck,[⟨bk,90,ck*1,flatMap cK (p.keys.eraseIdx (aL (t.pg (aI t k h t.root)) k))⟩],some ⟨bi,0,none⟩,ci,[⟨bi,3,ci*1,flatMap cI (p.kids.eraseIdx (aL (t.pg (aI t k h t.root)) k))⟩]⟩:aX)).flatMap bO):=(yL bO hj (⟨(kH p (aL (t.pg (aI t k h t.root)) k)),some ⟨bk,0,none⟩,ck,[⟨bk,90,ck*1,flatMap cK (p.keys.eraseIdx (aL (t.pg (aI t k h t.root)) k))⟩],some ⟨bi,0,none⟩,ci,[⟨bi,3,ci*1,flatMap cI (p.kids.eraseIdx (aL (t.pg (aI t k h t.root)) k))⟩]⟩:aX)).symm;refine OD.perm (Perm.cons _ (Perm.cons _ (Perm.cons _ (Perm.cons _ vK)))) ?_;refine an 58 [4,7] ?_;refine aA 1 ?_;refine aM 1 [_,_] sizeOf75 ?_;refine an 58 [4,5] ?_
  refine aK ([⟨bx,146,cap*5,flatMap gO (L.set (aI t k h t.root).toNat (⟨(kH p (aL (t.pg (aI t k h t.root)) k)),some ⟨bk,0,none⟩,ck,[⟨bk,90,ck*1,flatMap cK (p.keys.eraseIdx (aL (t.pg (aI t k h t.root)) k))⟩],some ⟨bi,0,none⟩,ci,[⟨bi,3,ci*1,flatMap cI (p.kids.eraseIdx (aL (t.pg (aI t k h t.root)) k))⟩]⟩:aX))⟩]++(L.set (aI t k h t.root).toNat (⟨(kH p (aL (t.pg (aI t k h t.root)) k)),some ⟨bk,0,none⟩,ck,[⟨bk,90,ck*1,flatMap cK (p.keys.eraseIdx (aL (t.pg (aI t k h t.root)) k))⟩],some ⟨bi,0,none⟩,ci,[⟨bi,3,ci*1,flatMap cI (p.kids.eraseIdx (aL (t.pg (aI t k h t.root)) k))⟩]⟩:aX)).flatMap bO) ?_;unfold rJ;rw[if_pos hz,if_pos iV];refine⟨_,rfl,L.set (aI t k h t.root).toNat (⟨(kH p (aL (t.pg (aI t k h t.root)) k)),some ⟨bk,0,none⟩,ck,[⟨bk,90,ck*1,flatMap cK (p.keys.eraseIdx (aL (t.pg (aI t k h t.root)) k))⟩],some ⟨bi,0,none⟩,ci,[⟨bi,3,ci*1,flatMap cI (p.kids.eraseIdx (aL (t.pg (aI t k h t.root)) k))⟩]⟩:aX),some ⟨bx,0,none⟩,cap,_,by rw[length_set];rfl,bM xH xO,fun x hx=>?_,?_,rfl⟩
  ·rcases mem_or_eq_of_mem_set hx with hx|rfl
   ·exact aV x hx
   exact⟨bM (by show(p.keys.eraseIdx (aL (t.pg (aI t k h t.root)) k)).length≤ck;rw[length_eraseIdx_of_lt ha];omega) xP,bM (by show(p.kids.eraseIdx (aL (t.pg (aI t k h t.root)) k)).length≤ci;rw[length_eraseIdx_of_lt qf];omega) G6⟩
  rw[map_set,hL];show _=t.ag.set (aI t k h t.root).toNat (kH (t.pg (aI t k h t.root)) (aL (t.pg (aI t k h t.root)) k));rw[←gW]):p:=h
theorem z5(h:p:=by
  refine AD.one (i:=15) aB ?_;refine bB.eB (ls:=L) (new:=[(⟨(t.ag[i]'aa),iE,iF,Sy,l8,l9,Sz⟩:aX)]) (Sq:=Sx) hU FB rfl ap rfl rfl underlying73 ZJ rfl w8 ot dX (Qx (A:=[_,_,_])) ot bq nB nC (fun G7 Gl ai0 ai1=>?_);refine AD.perm (acy (S3:=[⟨G7,146,Gl*5,flatMap gO (L++[(⟨(t.ag[i]'aa),iE,iF,Sy,l8,l9,Sz⟩:aX)])⟩]) (A:=[_,_,_])) ?_;refine AD.perm (S':=⟨b5,146,5,cP (t.ag[i]'aa)⟩::⟨b3,75,2,[aN dz L.length cZ,ae t.root]⟩::⟨b2,75,2,[bF,ae 0]⟩::([⟨G7,146,Gl*5,flatMap gO (L++[(⟨(t.ag[i]'aa),iE,iF,Sy,l8,l9,Sz⟩:aX)])⟩]++(L++[(⟨(t.ag[i]'aa),iE,iF,Sy,l8,l9,Sz⟩:aX)]).flatMap bO)) (jK fun mC=>by rw[SC];simp only[bO,map_append,map_cons,map_nil,sum_append,sum_cons,sum_nil];omega) ?_;refine fw ?_;refine aG 1 ?_;refine aM 1 [_,_] sizeOf73 ?_;refine an 51 [2,3,13,14,15] ?_;refine bX [2,3,13,14,15] ?_;refine⟨((i+1),(L++[(⟨(t.ag[i]'aa),iE,iF,Sy,l8,l9,Sz⟩:aX)]),(some ⟨G7,0,none⟩),Gl,[⟨G7,146,Gl*5,flatMap gO (L++[(⟨(t.ag[i]'aa),iE,iF,Sy,l8,l9,Sz⟩:aX)])⟩]),_,cn,aJ,w4,vL,jZ,(bM ai0 ai1),rfl⟩):p:=h
theorem z6(h:p:=by
  refine qh 13 rfl ?_;refine qh 16 rfl ?_;refine AD.two (i:=14) (j:=17) aB ?_ ?_
  ·refine bB.skip rfl (mN rfl rfl rfl lk jr) rfl ?_;refine AD.two (i:=15) (j:=17) aB ?_ ?_
   ·refine bB.skip rfl (mN rfl rfl rfl lk jr) rfl ?_;refine AD.one (i:=17) aB ?_;refine bB.skip rfl (mN rfl rfl rfl lk jr) rfl ?_;refine qh 18 rfl ?_;refine qh 19 rfl ?_;refine c9 20 rfl vo ?_;refine fw ?_;refine bp [3] ?_;refine af [52] ?_;refine eT ?_;refine af [2] ?_;refine eU ?_;refine⟨vi ?_,rfl⟩;try simp only[uU] at *
    simp only[tV,oo];try simp_all
    try omega
   refine bB.skip rfl (mN rfl rfl rfl lk jr) rfl ?_;refine qh 18 rfl ?_;refine AD.one (i:=15) aB ?_;refine bB.skip rfl (mN rfl rfl rfl lk jr) rfl ?_;refine qh 19 rfl ?_;refine c9 20 rfl vo ?_;refine fw ?_;refine bp [3] ?_;refine af [52] ?_;refine eT ?_;refine af [2] ?_;refine eU ?_;refine⟨vi ?_,rfl⟩;try simp only[uU] at *
   simp only[tV,oo];try simp_all
   try omega
  refine bB.skip rfl (mN rfl rfl rfl lk jr) rfl ?_;refine qh 18 rfl ?_;refine AD.one (i:=14) aB ?_;refine bB.skip rfl (mN rfl rfl rfl lk jr) rfl ?_;refine AD.one (i:=15) aB ?_;refine bB.skip rfl (mN rfl rfl rfl lk jr) rfl ?_;refine qh 19 rfl ?_;refine c9 20 rfl vo ?_;refine fw ?_;refine bp [3] ?_;refine af [52] ?_;refine eT ?_;refine af [2] ?_;refine eU ?_;refine⟨vi ?_,rfl⟩;try simp only[uU] at *
  simp only[tV,oo];try simp_all
  try omega):p:=h
theorem z7(h:p:=by
  refine⟨vb (EE fun hp=>?_),rfl⟩;have g1:=hp.eI;have g2:=hp.hlen;have g3:=hp.wY;have g4:=hp.wM;have g5:=hp.wZ;have g6:=hp.leaf;have g7:=fun h=>(hp.node h).1;have g8:=fun h (e:p.keys.length=0)=>(hp.node h).2 (length_eq_zero_iff.1 e);clear hp;first|omega|(rw[ahu g5] at aO;cases aO;done)|(have:=g6 rK;omega)|(have fR:p.leaf=false:=(by simpa using ua);have:=g7 fR;omega)|(have fR:p.leaf=false:=(by simpa using ua);exact g8 fR w4)):p:=h
theorem z8(h:p:=by
  refine aM 0 [_,_,_] sizeOf33 ?_;refine an 106 [6,7] ?_;refine aK [] ?_;rw[aW];first|exact⟨rfl,rfl⟩|(refine⟨?_,rfl⟩;clear aW eV G8 oI lF qV py;generalize (fg a b==0)=z1 at *;generalize (decide (fg a b<0))=z2 at *;subst_vars;simp_all;done)):p:=h
theorem WY(h:p:=by
  have MW:((bn[bn.length-1].k==6) || !(((dA (mr key) (bn.take 2))==0)==nt))=true:=(by first|rw[KU,Bool.true_or]|rw[iP,Bool.or_true])
  have CP:(gk key (f+1) ops (lo,hi))=sD (ga [bn[(dA gP (bn.take 2)).toNat].v]).1 b1:=(by rw[Vc];unfold vp;rw[show((bn[bn.length-1].k==6)||((dA (mr key) (bn.take 2))==0)!=nt)=true from MW,←ji];rfl)
  refine aA 7 ?_;refine bW 141 (fun ahv af7=>?_) (fun ahv af7=>?_)
  ·refine bp [0,11,149] ?_;refine eT ?_;have sZ:b1.2.length=0∨compareBytes (ga [bn[(dA gP (bn.take 2)).toNat].v]).1 b1.2<0:=(by first|exact .inl w4|exact .inr (by simpa using iG))
   have s5:(gk key (f+1) ops (lo,hi))=(b1.1,(ga [bn[(dA gP (bn.take 2)).toNat].v]).1):=(by rw[CP];unfold sD;rw[if_pos sZ])
   refine dG 2 ?_;refine dO call90 (I2 (ga [bn[(dA gP (bn.take 2)).toNat].v]).1 w4) ?_;refine aG 2 ?_;refine aM 0 [_,_] sizeOf90 ?_;refine an 155 [] ?_;refine aK [⟨b0,_,_,_⟩] ?_;refine⟨rfl,?_⟩;first|rw[s5]|rw[aW]
  refine aG 5 ?_;refine OD.gQ iq rfl rfl rfl call64 (SD (ga [bn[(dA gP (bn.take 2)).toNat].v]).1 b1.2) ⟨ot,ot,trivial⟩ ?_;refine an 155 [0,11,149] ?_;refine ax ?_ ?_<;>intro iG mU
  ·have sZ:b1.2.length=0∨compareBytes (ga [bn[(dA gP (bn.take 2)).toNat].v]).1 b1.2<0:=(by first|exact .inl w4|exact .inr (by simpa using iG))
   have s5:(gk key (f+1) ops (lo,hi))=(b1.1,(ga [bn[(dA gP (bn.take 2)).toNat].v]).1):=(by rw[CP];unfold sD;rw[if_pos sZ])
   refine dG 2 ?_;refine dO call90 (I2 (ga [bn[(dA gP (bn.take 2)).toNat].v]).1 w4) ?_;refine aG 2 ?_;refine aM 0 [_,_] sizeOf90 ?_;refine an 155 [] ?_;refine aK [⟨b0,_,_,_⟩] ?_;refine⟨rfl,?_⟩;first|rw[s5]|rw[aW]
  have sZ:¬(b1.2.length=0∨compareBytes (ga [bn[(dA gP (bn.take 2)).toNat].v]).1 b1.2<0):=(by (have WZ:¬compareBytes (ga [bn[(dA gP (bn.take 2)).toNat].v]).1 b1.2<0:=by simpa using iG);omega)
  have s5:(gk key (f+1) ops (lo,hi))=b1:=(by rw[CP];unfold sD;rw[if_neg sZ])
  refine aK [⟨b0,_,_,_⟩] ?_;refine⟨rfl,?_⟩;first|rw[s5]|rw[aW]):p:=h
theorem W0(h:p:=by
  refine aA 1 ?_;refine OD.wk (Wk.dP (n:=19) (l':=[(0,_),(1,_)]) (S':=S) rfl nc fy) ?_;refine OD.nil ?_;refine aA 3 ?_;refine OD.wk (Wk.dP (n:=19) (l':=[(0,_),(1,_),(7,_),(8,_)]) (S':=S) rfl nc fy) ?_;refine OD.nil ?_;refine ez [0,1,7] (fun aR _ (k:Nat) aD=>(k≤ls.length)∧(∀x∈ls.take k,p x=false)∧aD=(⟨19,(8,ae (k:Nat))::aR,S⟩:St)) (fun (k:Nat)=>ls.length-k) 0 ⟨Nat.zero_le _,bq,rfl⟩ ?_;rintro k _ ⟨hk,h0,rfl⟩;refine aA 1 ?_;refine OD.wk (Wk.dP (n:=19) (l':=[(0,_),(1,_),(7,_),(8,_),(9,_)]) (S':=S) rfl nc fy) ?_;refine OD.nil ?_;refine ax ?_ ?_<;>intro aO bA
  ·refine aA 2 ?_;refine OD.wk (Wk.dP (n:=19) (l':=[(0,_),(1,_),(5,_),(7,_),(8,_)]) (S':=S) rfl nc fy) ?_;refine OD.nil ?_;refine aA 5 ?_;refine OD.lS (f:=g) (args:=[_]) ap rfl rfl (tL rfl lk) fb (hp (ls[k]'w4) (getElem_mem _)) rfl ⟨tL rfl lk,trivial⟩ (I3 _) ?_;rintro _ S2 ⟨rfl,iH⟩;rw[iH];clear iH;refine OD.wk (Wk.dP (n:=19) (l':=[(0,_),(1,_),(5,_),(7,_),(8,_),(16,_)]) (S':=S) rfl nc fy) ?_;refine OD.nil ?_;refine ax ?_ ?_<;>intro aY cz
   ·refine aA 2 ?_;refine OD.wk (Wk.dP (n:=19) (l':=[(4,_)]) (S':=S) rfl nc fy) ?_;refine OD.nil ?_;refine aK S ?_;refine⟨?_,rfl⟩;first|(rw[we w4 h0 uu])|(rw[vY w4 h0])
   refine dG 2 ?_;refine OD.wk (Wk.dP (n:=19) (l':=[(0,_),(1,_),(7,_),(8,_)]) (S':=S) rfl nc fy) ?_;refine OD.nil ?_;refine⟨k+1,_,cn,aJ,w4,(by rw[take_succ_eq_append_getElem w4];intro x hx;rcases mem_append.1 hx with hx|hx;exact h0 x hx;simp only[mem_singleton] at hx;subst hx;assumption),rfl⟩
  refine aA 1 ?_;refine OD.wk (Wk.dP (n:=19) (l':=[(4,_)]) (S':=S) rfl nc fy) ?_;refine OD.nil ?_;refine aK S ?_;refine⟨?_,rfl⟩;first|(rw[we w4 h0 uu])|(rw[vY w4 h0])
  ):p:=h
theorem z12(h:p:=by
  refine af [2] ?_;refine eU ?_;refine⟨vi ?_,rfl⟩;try simp only[uU] at *
  simp only[tV,oo];try simp_all
  try omega):p:=h
theorem W4(h:p:=by
  refine cL [1,3] (Qy hm hw s.names (by have:=hf.ok.2.2.1;omega) hf.n) ?_;refine af [1,3,36] ?_;refine ax ?_ ?_<;>intro cQ ek
  ·refine af [2] ?_;refine eU ?_;refine⟨vi ?_,rfl⟩;unfold ox iQ;simp_all;all_goals (try (intros;(repeat' split)<;>first|rfl|omega))
  refine cL [1,4] (Ek hm hw s.aj (fun o h=>(hf.w o h).1)) ?_;refine af [1,4,42] ?_;refine ax ?_ ?_<;>intro dV fB
  ·refine af [2] ?_;refine eU ?_;refine⟨vi ?_,rfl⟩;unfold ox iQ;simp_all;all_goals (try (intros;(repeat' split)<;>first|rfl|omega))
  refine af [1,46] ?_;refine ax ?_ ?_<;>intro fD gG
  ·refine cL [2] (uV hm hw s.order hf.o) ?_;refine eU ?_;refine⟨vi ?_,rfl⟩;unfold ox iQ;simp_all;all_goals (try (intros;(repeat' split)<;>first|rfl|omega))
  refine af [2] ?_;refine eU ?_;refine⟨vi ?_,rfl⟩;unfold ox iQ;simp_all;all_goals (try (intros;(repeat' split)<;>first|rfl|omega))):p:=h
theorem G9(h:p:=by
  refine an 76 [11,12] ?_;refine af [12,74] ?_;refine ax ?_ ?_<;>intro vq FW
  ·refine af [8,9] ?_;refine aK [] ?_;refine⟨?_,rfl⟩;unfold jm okF xj;simp_all
  refine af [8,9] ?_;refine aK [] ?_;refine⟨?_,rfl⟩;unfold jm okF xj;simp_all):p:=h
theorem Am(h:p:=by
  refine af [8,9] ?_;refine aK [] ?_;refine⟨?_,rfl⟩;unfold jm okF xj;simp_all):p:=h
theorem MX(h:p:=by
  refine⟨vi ?_,rfl⟩;try simp only[uU] at *
  simp only[tV,oo];try simp_all
  try omega):p:=h
theorem CQ(h:p:=by
  refine eU ?_;refine⟨vi ?_,rfl⟩;unfold ox iQ;simp_all;all_goals (try (intros;(repeat' split)<;>first|rfl|omega))):p:=h
theorem W5(h:p:=by
  refine⟨vi ?_,rfl⟩;unfold ox iQ;simp_all;all_goals (try (intros;(repeat' split)<;>first|rfl|omega))):p:=h
theorem W6(h:p:=by
  skip;refine nD 20 [0,2,3,8,9,59,64,69,74] ?_;refine aP 4 ?_ (h:=by exact(cR (mk:=Op.load 3) rfl ot (vc (g:=Ph.cs) (ls:=ps) (i:=k) (j:=1) wF isAgg3 aa rfl)));refine aP 4 ?_ (h:=by exact(cR (mk:=Op.load 3) rfl ot (vc (g:=Ph.cs) (ls:=ps) (i:=k) (j:=2) wF isAgg3 aa rfl)));refine aP 4 ?_ (h:=by exact(cR (mk:=Op.load 3) rfl ot (vc (g:=Ph.cs) (ls:=ps) (i:=k) (j:=3) wF isAgg3 aa rfl)));refine aP 4 ?_ (h:=by exact(cR (mk:=Op.load 63) rfl ot (vc (g:=Ph.cs) (ls:=ps) (i:=k) (j:=4) wF isAgg63 aa rfl)));refine jI ?_;refine aG 1 ?_;refine OD.call ap rfl rfl rfl call23 (VC.xQ (Ut hm hw ht hG (⟨2,(ps[k]'aa).t,(ps[k]'aa).a,(ps[k]'aa).b,(ps[k]'aa).row,.mk 0 0 ⟨#[]⟩ [],.mk 0 0 ⟨#[]⟩ [],false⟩:Ph) ⟨(show(-9223372036854775808:Int)≤2∧(2:Int)≤9223372036854775807 by decide),rV.t,rV.a,rV.b,rV.row,Uu,Uu⟩) (args':=[.agg [ae 2,ae (ps[k]'aa).t,ae (ps[k]'aa).a,ae (ps[k]'aa).b,.list 3 ((ps[k]'aa).row.flatMap cV) (ps[k]'aa).row.length,ae 0,ae 0,fk,bF,ae 0,ae 0,fk,bF,bI false]]) ⟨u0 ⟨cq,cq,cq,cq,cq,cq,cq,cq,ey,cq,cq,cq,ey,cq,trivial⟩,trivial⟩) ⟨ot,trivial⟩ (fa _) ?_;rintro _ _ ⟨s',rfl,rfl,ai3,ai4⟩;have hk9:s'.kind=3:=ai4.trans (show(1:Int)+dI 2 6=3 by decide);have ai5:¬s'.kind=1∧¬s'.kind=2:=(by omega)
  refine aM 0 [_,_,_,_,_,_,_,_,_,_,_,_] sizeOf46 ?_;refine an 88 [0,2,3,8,9] ?_;refine⟨_,aJ,s',ai3,ai5,rfl⟩):p:=h
theorem z20(h:p:=by
  refine bW 103 (fun BL af8=>?_) (fun BL af8=>?_)
  ·refine aG 3 ?_;refine OD.gQ iq rfl rfl rfl call64 (wG p.keys[i] p.high) ⟨ot,ot,trivial⟩ ?_;refine an 132 [1,2,73,74,75,110] ?_;refine ax ?_ ?_<;>intro cQ ek
   ·have mz:¬ve p i:=fun hk=>by obtain⟨k1,k2,k3⟩:=hk aa;unfold bC at k2 k3;first|(rw[k1] at xk;cases xk;done)|(have:=k2 w4;omega)|(have:=k3 (Kt BL);have hx:=of_decide_eq_true cQ;omega)
    refine af [4] ?_;refine aK [] ?_;refine⟨vb (EE fun hp=>?_),rfl⟩;exact mz (SE hp i)
   have hK:ve p i:=fun _=>⟨by simpa using xk,fun h0=>by unfold bC;first|(exfalso;omega)|(have hx:=of_decide_eq_false zD;omega),fun hne=>by first|exact absurd (len_nil BL) hne|(unfold bC;have hx:=of_decide_eq_false cQ;omega)⟩
   refine bX [1,2,73,74,75] ?_;refine⟨(i+1),_,cn,aJ,w4,(fun j hj=>by rcases Nat.lt_or_ge j i with h|h;exact xR j h;obtain rfl:j=i:=w4;exact hK),rfl⟩
  refine an 132 [1,2,73,74,75,110] ?_;refine fY ?_;have hK:ve p i:=fun _=>⟨by simpa using xk,fun h0=>by unfold bC;first|(exfalso;omega)|(have hx:=of_decide_eq_false zD;omega),fun hne=>by first|exact absurd (len_nil BL) hne|(unfold bC;have hx:=of_decide_eq_false cQ;omega)⟩
  refine bX [1,2,73,74,75] ?_;refine⟨(i+1),_,cn,aJ,w4,(fun j hj=>by rcases Nat.lt_or_ge j i with h|h;exact xR j h;obtain rfl:j=i:=w4;exact hK),rfl⟩):p:=h
theorem z21(h:p:=by
  refine an 69 [4] ?_;refine aK [_] ?_;first|exact gv.cast (gv.mk (g:=cO) (e:=35) (sz:=5) (ls:=[(⟨1,qO n s,⟨#[]⟩⟩:aS)]) (bM (ls:=[(⟨1,qO n s,⟨#[]⟩⟩:aS)]) (Nat.le_refl _) (show 1≤maxLen by decide))) (by unfold kP pW;rw[if_neg w4])|exact gv.cast (gv.mk (g:=cO) (e:=35) (sz:=5) (ls:=[(⟨kk,qO n s,⟨#[]⟩⟩:aS)]) (bM (ls:=[(⟨kk,qO n s,⟨#[]⟩⟩:aS)]) (Nat.le_refl _) (show 1≤maxLen by decide))) (by unfold kP pW;rw[if_neg w4,show kk=1 by omega])|exact gv.cast (gv.mk (g:=cO) (e:=35) (sz:=5) (ls:=[(⟨kk,bu,ko (j:Int)⟩:aS)]) (bM (ls:=[(⟨kk,bu,ko (j:Int)⟩:aS)]) (Nat.le_refl _) (show 1≤maxLen by decide))) (by unfold kP sE;rw[if_pos w4,hj,show kk=2 by omega])):p:=h
theorem z22(h:p:=by
  have s6:((bn[bn.length-1].k==6)||(((dA (mr key) (bn.take 2))==0)==nt))=true:=(by first|rw[KV,Bool.true_or]|rw[dV,Bool.or_true])
  refine cL [0,8,9,11,13,122] (SD (ga [bn[(dA gP (bn.take 2)).toNat].v]).1 lo) ?_;refine ax ?_ ?_<;>intro fD gG
  ·have xS:compareBytes (ga [bn[(dA gP (bn.take 2)).toNat].v]).1 lo>0:=(by simpa using fD)
   have CR:((ga [bn[(dA gP (bn.take 2)).toNat].v]).1,hi)=(bif (bn[bn.length-1].k==6)||(((dA (mr key) (bn.take 2))==0)==nt) then oD (ga [bn[(dA gP (bn.take 2)).toNat].v]).1 (lo,hi) else (lo,hi)):=(by rw[s6];show _=oD _ _;unfold oD;rw[if_pos xS])
   refine dG 2 ?_;refine dO call90 (I2 (ga [bn[(dA gP (bn.take 2)).toNat].v]).1 w4) ?_;refine aG 2 ?_;refine aM 1 [_,_] sizeOf90 ?_;refine an 155 [0,8,9,11,13] ?_;refine⟨_,aJ,((ga [bn[(dA gP (bn.take 2)).toNat].v]).1,hi),CR,(by first|exact dU|exact eJ),eD,rfl⟩
  have xS:¬compareBytes (ga [bn[(dA gP (bn.take 2)).toNat].v]).1 lo>0:=(by simpa using fD)
  have CR:(lo,hi)=(bif (bn[bn.length-1].k==6)||(((dA (mr key) (bn.take 2))==0)==nt) then oD (ga [bn[(dA gP (bn.take 2)).toNat].v]).1 (lo,hi) else (lo,hi)):=(by rw[s6];show _=oD _ _;unfold oD;rw[if_neg xS])
  refine CD.skip ?_;refine⟨_,aJ,(lo,hi),CR,(by first|exact dU|exact eJ),eD,rfl⟩):p:=h
theorem z23(h:p:=by
  refine⟨vi ?_,rfl⟩;first|exact hf.symm|(rw[hf,hx,Qz aa xm (by first|assumption|decide)];done)|(rw[hf,fh,if_pos (by simpa using qi)];done)|(rw[hf,fh,if_neg (by simpa using qi)];done)):p:=h
theorem z24(h:p:=by
  have fL:vf eY y=false:=(by unfold vf;simp_all[Uv])
  refine CI.skip ?_;refine CI.region MR rfl ?_;refine bQ (dK 1) ?_;refine bQ (Lu 0 [_,_]) ?_;refine ew (cu 0 [_]) [.slice none 0 0,.int .i64 0] [_,_] zeroValue92 runUnderlying87 sizeOf92 (fun He=>?_);refine fS 0 40 2 1 ?_;refine OD.eB (ls:=pre) (new:=[y]) (Sq:=So) Uw af9 ap rfl rfl underlying87 Z6 rfl w8 ot ho (dg (A:=[_,_,_])) ot bq GU GU (fun vM Gm ai6 ai7=>?_);refine OD.perm (dW (S1:=[⟨vM,92,Gm*2,flatMap cE (pre++[y])⟩]) (A:=[_,_,_])) ?_;refine aM 1 [_] sizeOf87 ?_;refine OD.wk (Wk.dP (n:=43) (l':=[]) (S':=(⟨j6,92,2,[_,_]⟩::⟨b9,87,1,[_]⟩::⟨b5,90,1,[_]⟩::[⟨vM,92,Gm*2,flatMap cE (pre++[y])⟩])) rfl rfl trivial) ?_;refine OD.nil ?_;exact⟨_,Sublist.cons _ (Sublist.refl _),(fun x hx=>by rcases mem_append.1 hx with hx|hx;exact aV x hx;rw[mem_singleton] at hx;subst hx;exact fL),(some ⟨vM,0,none⟩),Gm,[⟨vM,92,Gm*2,flatMap cE (pre++[y])⟩],(bM ai6 ai7),rfl⟩):p:=h
theorem z25(h:p:=by
  refine aA 1 ?_;refine OD.lS (f:=65) (args:=[_]) (all:=[_,_,_]) (Sf:=[_,_]) (R:=[]) ap rfl rfl ot call65 (KW r k n d s ts 0 b2 b3 IH gw iI hs hd1 hd w8) rfl ⟨bP,trivial⟩ (Perm.refl _) ?_;rintro _ _ ⟨MY,⟨apW,apX,rfl,ai8⟩,rfl⟩;refine OD.perm (QA (A:=[_,_])) ?_;refine aG 2 ?_;refine ew (cu 0 [_]) [.int .i64 0,.int .i64 0,.int .i64 0,.string ⟨#[]⟩,.string ⟨#[]⟩] [_,_,_,_,_] zeroValue35 runUnderlying36 sizeOf35 (fun An=>?_);refine fS 0 58 5 1 ?_;refine OD.eB (ls:=(gb r ts n s 0)) (new:=[(⟨kk,bu,⟨#[]⟩⟩:aS)]) (Sq:=MY) mQ Ku ap rfl rfl underlying36 Ij rfl w8 ot ai8 (dg (A:=[_,_])) ot bq Aa Aa (fun s7 sI B5 B6=>?_);refine OD.perm (dW (S1:=[⟨s7,35,sI*5,flatMap cO ((gb r ts n s 0)++[(⟨kk,bu,⟨#[]⟩⟩:aS)])⟩]) (A:=[_,_])) ?_;refine an 69 [4] ?_;refine aK [⟨s7,35,sI*5,flatMap cO ((gb r ts n s 0)++[(⟨kk,bu,⟨#[]⟩⟩:aS)])⟩] ?_;exact gv.cast (gv.mk (bM B5 B6)) (by rw[tw,lG,if_neg w4,if_neg w4,if_pos w4];rfl)):p:=h
theorem z26(h:p:=by
  refine aK [] ?_;refine⟨?_,rfl⟩;unfold jd;first|(rw[if_pos bA];first|done|rfl)|(rw[if_neg bA,if_pos dL,hj];rcases j with _|_|j<;>first|rfl|omega)|(rw[if_neg bA,if_neg cz,if_pos cN];first|done|rfl)|(rw[if_neg bA,if_neg cz,if_neg cN,if_pos w4,show -v.n=0-v.n by omega];first|done|rfl)|(rw[if_neg bA,if_neg cz,if_neg cN,if_neg w4];first|done|rfl)):p:=h
theorem W7(h:p:=by
  refine at_ rfl eW ?_;refine c9 14 rfl (dw 1 (h:=by first|exact .l (j:=a+t+1) rfl w4|exact .r (j:=a+t+1) rfl w4)) ?_;refine AD.one (i:=15) aB ?_;refine bB.storeAt (k:=0) (cs':=((Mv P B Q x (t+1)).set (a+t+1) ((Mv P B Q x (t+1))[a+t])).flatMap cI) rfl ap rfl rfl ot rfl rfl ot rfl rfl sizeOf3 rfl GZ (by rw[Nat.zero_add];exact oq eG _ _ w4) iD ?_;refine fw ?_;refine aG 1 ?_;refine OD.storeAt (k:=0) (cs':=(Mv P B Q x (t)).flatMap cI) ap rfl rfl ot rfl rfl ot rfl rfl sizeOf3 rfl GW (by rw[Nat.zero_add];exact(oq eG ((Mv P B Q x (t+1)).set (a+t+1) ((Mv P B Q x (t+1))[a+t])) ((Mv P B Q x (t+1))[a+t+1]) vF).trans (congrArg (flatMap cI) (aga MZ hP w4 w4))) ?_;refine an 220 [0,14,17] ?_;refine gC [0,14,17] ?_;refine aP 1 ?_ (h:=by exact(dj rfl ot bP (gN (r:=((a+t:Nat):Int)) MK)));refine bD ?_;refine⟨t,_,cn,aJ,w4,w4,rfl⟩):p:=h
theorem z28(h:p:=by
  refine at_ rfl eW ?_;refine c9 14 rfl (dw 1 (h:=by first|exact .l (j:=a+t) rfl w4|exact .r (j:=a+t) rfl w4)) ?_;refine AD.one (i:=15) aB ?_;refine bB.storeAt (k:=0) (cs':=((Mv P B Q x (t)).set (a+t) ((Mv P B Q x (t))[a+t+1])).flatMap cI) rfl ap rfl rfl ot rfl rfl ot rfl rfl sizeOf3 rfl GZ (by rw[Nat.zero_add];exact oq eG _ _ w4) iD ?_;refine fw ?_;refine aG 1 ?_;refine OD.storeAt (k:=0) (cs':=(Mv P B Q x (t+1)).flatMap cI) ap rfl rfl ot rfl rfl ot rfl rfl sizeOf3 rfl GW (by rw[Nat.zero_add];exact(oq eG ((Mv P B Q x (t)).set (a+t) ((Mv P B Q x (t))[a+t+1])) ((Mv P B Q x (t))[a+t]) vF).trans (congrArg (flatMap cI) (agb MZ hP w4 w4))) ?_;refine an 220 [0,10,13] ?_;refine gC [0,10,13] ?_;refine aP 1 ?_ (h:=by exact(dj rfl ot bP (kz (r:=((a+(t+1):Nat):Int)) (by rw[show(((a+t:Nat):Int)+1)=((a+(t+1):Nat):Int) by omega];exact wrap_i64 w4 w4))));refine bD ?_;refine⟨(t+1),_,cn,aJ,w4,rfl⟩):p:=h
theorem W8(h:p:=by
  refine at_ rfl eW ?_;refine c9 14 rfl (dw 1 (h:=by first|exact .l (j:=j) rfl w4|exact .r (j:=j) rfl w4)) ?_;refine AD.one (i:=15) aB ?_;refine bB.storeAt (k:=0) (cs':=(lH.set j (lH[j-1]'qW)).flatMap cI) rfl ap rfl rfl ot rfl rfl ot rfl rfl sizeOf3 rfl GZ (by rw[Nat.zero_add];exact oq eG _ _ qX) iD ?_;refine fw ?_;refine aG 1 ?_;refine OD.storeAt (k:=0) (cs':=((lH.set j (lH[j-1]'qW)).set (j-1) (lH[j]'qX)).flatMap cI) ap rfl rfl ot rfl rfl ot rfl rfl sizeOf3 rfl GW (by rw[Nat.zero_add];exact oq eG _ _ (by rw[length_set];exact qW)) ?_;refine an 53 [0,1,2,3,8,9] ?_;refine gC [0,1,2,3,8,9] ?_;refine aP 1 ?_ (h:=by exact(dj rfl ot bP (gN (r:=((j-1:Nat):Int)) ML)));refine bD ?_;refine⟨((j-1),((lH.set j (lH[j-1]'qW)).set (j-1) (lH[j]'qX))),_,cn,aJ,(aaX hj uv qX qW (E9 ahw)),(by simpa using zE),rfl⟩):p:=h
theorem W9(h:p:=by
  refine bW 71 (fun ai9 ahx=>?_) (fun ai9 ahx=>?_)
  ·refine bp [0,2,4,6,8,79] ?_;refine ax ?_ ?_<;>intro cc cN
   ·have sJ:(bn.length≠3∨(nt=true∧bn[bn.length-1].k≠7)∨(bn[bn.length-1].k≠6∧bn[bn.length-1].k≠7)):=(by first|omega|(simp_all;omega)|simp_all)
    have mV:nu key bn nt (lo,hi)=(lo,hi):=(by unfold nu;rw[u3 vr,if_pos sJ])
    rw[mV] at aW;refine aK [⟨b0,_,_,_⟩] ?_;refine⟨rfl,?_⟩;first|rw[s5]|rw[aW]
   have sJ:¬(bn.length≠3∨(nt=true∧bn[bn.length-1].k≠7)∨(bn[bn.length-1].k≠6∧bn[bn.length-1].k≠7)):=(by first|omega|(simp_all;omega)|simp_all)
   refine CD.skip ?_;refine⟨_,aJ,sJ,rfl⟩
  refine bp [0,2,4,6,8,79] ?_;refine fY ?_;have sJ:¬(bn.length≠3∨(nt=true∧bn[bn.length-1].k≠7)∨(bn[bn.length-1].k≠6∧bn[bn.length-1].k≠7)):=(by first|omega|(simp_all;omega)|simp_all)
  refine CD.skip ?_;refine⟨_,aJ,sJ,rfl⟩):p:=h
theorem z31(h:p:=by
  have sJ:(bn.length≠3∨(nt=true∧bn[bn.length-1].k≠7)∨(bn[bn.length-1].k≠6∧bn[bn.length-1].k≠7)):=(by first|omega|(simp_all;omega)|simp_all)
  have mV:nu key bn nt (lo,hi)=(lo,hi):=(by unfold nu;rw[u3 vr,if_pos sJ])
  rw[mV] at aW;refine aK [⟨b0,_,_,_⟩] ?_;refine⟨rfl,?_⟩;first|rw[s5]|rw[aW]):p:=h
theorem Xa(h:p:=by
  have g3:decide (((rs[i-1]'p8)[0]'Ao).n≥((rs[i]'aa)[0]'Ap).n)=false:=decide_eq_false w4;refine gC [2,10,13,17,20,24,168] ?_;refine aP 13 ?_ (h:=by exact(dj (r:=.int .i64 ((i:Nat)-1)) rfl ot bP (gN (wrap_i64 w4 w4))));refine aP 0 ?_ (h:=by exact(dw 1 (h:=by first|exact .l (j:=i-1) w4 p8|exact .r (j:=i-1) w4 p8)));refine aP 1 ?_ (h:=by exact(oe (mk:=Op.indexAddr 43) rfl ot bP (by first|exact oU runUnderlying43 sizeOf33 (j:=0) rfl Ao|exact oV runUnderlying43 sizeOf33 (j:=0) rfl Ao)));refine aP 7 ?_ (h:=by exact(oe (mk:=Op.indexAddr 43) rfl ot bP (by first|exact oU runUnderlying43 sizeOf33 (j:=0) rfl Ap|exact oV runUnderlying43 sizeOf33 (j:=0) rfl Ap)));refine bD ?_;refine ax ?_ ?_<;>intro cQ ek
  ·exact absurd cQ (by first|(rw[g3];decide)|(simp at cQ;done))
  refine bX [2,10,13,17,20,24] ?_;refine⟨(i+1),_,cn,aJ,w4,w4,rfl⟩):p:=h
theorem Xb(h:p:=by
  refine af [0] ?_;refine af [3] ?_;refine af [3,4] ?_;refine ax ?_ ?_<;>intro aO bA
  ·refine eT ?_;refine af [2] ?_;refine aK [] ?_;refine⟨vi ?_,rfl⟩;unfold bK;simp_all
  refine bX [3,4] ?_;refine ax ?_ ?_<;>intro aY cz
  ·refine af [2] ?_;refine aK [] ?_;refine⟨vi ?_,rfl⟩;unfold bK;simp_all
  refine af [3,7] ?_;refine ax ?_ ?_<;>intro cc cN
  ·refine eT ?_;refine af [2] ?_;refine aK [] ?_;refine⟨vi ?_,rfl⟩;unfold bK;simp_all
  refine bX [7] ?_;refine ax ?_ ?_<;>intro cQ ek
  ·refine af [2] ?_;refine aK [] ?_;refine⟨vi ?_,rfl⟩;unfold bK;simp_all
  refine af [2] ?_;refine aK [] ?_;refine⟨vi ?_,rfl⟩;unfold bK;simp_all
  ):p:=h
theorem Xc(h:p:=by
  have mz:¬ve p i:=fun hk=>by obtain⟨k1,k2,k3⟩:=hk aa;unfold bC at k2 k3;first|(rw[k1] at xk;cases xk;done)|(have:=k2 w4;omega)|(have:=k3 (Kt BL);have hx:=of_decide_eq_true cQ;omega)
  refine af [4] ?_;refine aK [] ?_;refine⟨vb (EE fun hp=>?_),rfl⟩;exact mz (SE hp i)):p:=h
theorem M1(h:p:=by
  refine aG 1 ?_;first|refine OD.cells (k:=0) (cs':=[.list 1 [] 0,_]) rfl ⟨ey,cq,trivial⟩ rfl ?_|skip
  first|refine OD.cells (k:=1) (cs':=[.list 1 [] 0,_]) rfl ⟨ey,cq,trivial⟩ rfl ?_|skip
  first|refine OD.cells (k:=1) (cs':=[.list 5 [] 0]) rfl ⟨ey,trivial⟩ rfl ?_|skip
  first|refine OD.cells (k:=2) (cs':=[.list 5 [] 0]) rfl ⟨ey,trivial⟩ rfl ?_|skip
  refine an 46 [4,5,6] ?_;refine aK [] ?_;rw[aW];exact⟨rfl,rfl⟩):p:=h
theorem Xd(h:p:=by
  refine⟨vi ?_,rfl⟩;try simp only[uU] at *
  unfold cl;simp_all;try omega):p:=h
theorem z37(h:p:=by
  refine aK [⟨b0,_,_,_⟩] ?_;refine⟨rfl,?_⟩;first|rw[s5]|rw[aW]):p:=h
theorem Xe(h:p:=by
  refine at_ rfl eW ?_;refine c9 20 rfl (dw 1) ?_;refine AD.one (i:=21) aB ?_;refine bB.storeAt (k:=0) (cs':=((j7 l la lb i).set (la+i) ((j7 l la lb i)[lb+i]'hb)).flatMap cI) rfl ap rfl rfl ot rfl rfl ot rfl rfl sizeOf3 rfl GZ (by rw[Nat.zero_add];exact oq eG _ _ ha) iD ?_;refine fw ?_;refine aG 1 ?_;refine OD.storeAt (k:=0) (cs':=(j7 l la lb (i+1)).flatMap cI) ap rfl rfl ot rfl rfl ot rfl rfl sizeOf3 rfl GW (by rw[Nat.zero_add];exact(oq eG ((j7 l la lb i).set (la+i) ((j7 l la lb i)[lb+i]'hb)) ((j7 l la lb i)[la+i]'ha) (by rw[length_set];exact hb)).trans (by rw[j7,sw,mO ha,mO hb])) ?_;refine an 38 [0,1,2,3,10] ?_;refine bX [0,1,2,3,10] ?_;refine⟨(i+1),_,cn,aJ,w4,rfl⟩):p:=h
theorem oJ(h:p:=by
  refine aK [] ?_;rw[aW];exact⟨rfl,rfl⟩):p:=h
theorem z40(h:p:=by
  refine af [4] ?_;refine aK [] ?_;first|exact⟨rfl,rfl⟩|(refine⟨vi ?_,rfl⟩;unfold p9;simp_all;done)|(refine⟨vi ?_,rfl⟩;unfold p9;split<;>(try split)<;>simp_all<;>omega)):p:=h
theorem xT(h:p:=by
  refine an 90 [4] ?_;refine aK [] ?_;refine⟨vb ?_,rfl⟩;unfold eP iQ;simp_all;all_goals (try (intros;omega))):p:=h
theorem Xf(h:p:=by
  have uw:p.1∈ts:=(by rw[←hr.keys];exact mem_map_of_mem fE)
  refine⟨uw,?_⟩;rw[hr.at uw];have fm:∀(j:Nat) (p':Oper),k≤j→ops[j]?=some p'→p'.dst≠some p.1:=fun j p' hj Aq iW=>by
   obtain⟨e1,s6,ji,jP⟩:=Fa (by simpa using Ar) Aq iW uw;have:=(wH hp zF).1 e1 s6 ji;omega
  have h5:=k0.later (q:=p.1) (fun p' As=>by
   rw[←js] at As;obtain⟨j,hj,rfl⟩:=mem_iff_getElem.1 As;refine fm (k+1+j) _ w4 ?_;rw[←Array.getElem?_toList,←getElem?_drop,getElem?_eq_getElem hj])
  rw[h5,fW,if_neg (fun e1:t=p.1=>fm k o (Nat.le_refl _) zF (by rw[←e1];exact hd))]):p:=h
theorem M2(h:p:=by
  refine⟨vb ?_,rfl⟩;unfold eP iQ;simp_all;all_goals (try (intros;omega))):p:=h
theorem nE(h:p:=by
  refine aK [] ?_;exact⟨rfl,rfl⟩
  ):p:=h
theorem Hf(h:p:=by
  refine aK [] ?_;rw[aW];exact⟨rfl,fun h=>by dsimp only at h;omega⟩):p:=h
theorem z46(h:p:=by
  refine an 69 [4] ?_;refine aK [_] ?_;first|exact gv.cast (gv.mk (g:=cO) (e:=35) (sz:=5) (ls:=[(⟨kk,qO n s,⟨#[]⟩⟩:aS)]) (bM (ls:=[(⟨kk,qO n s,⟨#[]⟩⟩:aS)]) (Nat.le_refl _) (show 1≤maxLen by decide))) (by rw[tw,lG,if_pos w4];unfold pW;rw[show kk=1 by omega])|exact gv.cast (gv.mk (g:=cO) (e:=35) (sz:=5) (ls:=[(⟨kk,bu,ko (j:Int)⟩:aS)]) (bM (ls:=[(⟨kk,bu,ko (j:Int)⟩:aS)]) (Nat.le_refl _) (show 1≤maxLen by decide))) (by rw[tw,lG,if_neg w4,if_pos w4];unfold sE;rw[hj,show kk=2 by omega])):p:=h
theorem Hg(h:p:=by
  refine bp [2] ?_;refine eU ?_;refine⟨vb ?_,rfl⟩;rw[Bool.eq_iff_iff];simp[wu];first|done|omega):p:=h
theorem Xg(h:p:=by
  refine OD.perm (dW (A:=[])) ?_;refine an 29 [3,8,9,10] ?_;refine bX [3,8,9,10] ?_;refine⟨((i+1),VK,VL,Xh),_,cn,(aJ (h:=by repeat (first|exact trivial|refine⟨(by (repeat (first|exact fI|(apply fX;focus (first|rfl|(simp;done)|(congr 2;omega)|(apply eL;first|exact I4 aa w4|exact Iv aa w4)|(apply eL;rfl)|(apply eL;simp;done)))|(apply fN;focus rfl)));done),?_⟩))),w4,(bg.cast VM (by first|exact I4 aa w4|exact Iv aa w4)),rfl⟩):p:=h
theorem z49(h:p:=by
  refine⟨vs ?_,rfl⟩;have At:k=s.size∨6≤k:=(by omega)
  have Gn:min k s.size=k:=Nat.min_eq_left hk;simp only[length_map,length_take,kQ,Gn] at *;unfold wN zj;first|(rw[if_pos w4];done)|(rw[if_neg w4,QB hk At h6])):p:=h
theorem Xi(h:p:=by
  have hF:¬((bz t.ay s.set)=0∧(dZ t.ay (rowAt t ((aq t s.aj).1[k]'aa)) s.bN).1.k=0):=(by first|exact fun h=>(show ¬(dZ t.ay (rowAt t ((aq t s.aj).1[k]'aa)) s.bN).1.k=0 from by simpa using iP) h.2|exact fun h=>absurd h.1 (by simpa using zD))
  have nf:(fZ t (bz t.ay s.set) s.bN [] (aq t s.aj).1)=fZ t (bz t.ay s.set) s.bN (acc++[(dZ t.ay (rowAt t ((aq t s.aj).1[k]'aa)) s.bN).1]) ((aq t s.aj).1.drop (k+1)):=(by rw[Au,js,fZ,if_neg hE,if_neg hF])
  refine CD.skip ?_;refine⟨_,aJ,nf,rfl⟩):p:=h
theorem z51(h:p:=by
  skip;obtain⟨hz,_⟩:=xU aO;obtain rfl:=length_eq_zero_iff.1 hz;refine af [2] ?_;refine aK [] ?_;exact⟨none,0,rfl,.inl ⟨rfl,rfl,rfl,rfl,rfl⟩⟩):p:=h
theorem CS(h:p:=by
  refine aM 0 [_,_,_] sizeOf33 ?_;refine an 35 [4,5] ?_;refine aK [] ?_;refine⟨?_,rfl⟩;unfold uc;simp_all[bu]):p:=h
theorem z53(h:p:=by
  refine af [2] ?_;refine aK [] ?_;refine⟨vi ?_,rfl⟩;try simp only[OZ] at *
  simp only[cy];first|(rw[if_pos w4];done)|(rw[if_neg w4];cases h1:oo s<;>cases h2:u4.any (iQ s)<;>simp_all)):p:=h
theorem Hh(h:p:=by
  refine aK _ ?_;first|exact⟨rfl,_,KX,rfl⟩|exact⟨rfl,_,Fb qP oK Xj,rfl⟩|exact⟨rfl,_,Fb qP oK (Ps qP oK w4),rfl⟩):p:=h
theorem xV(h:p:=by
  refine af [2] ?_;refine eU ?_;rw[aW];exact⟨rfl,rfl⟩):p:=h
theorem Xk(h:p:=by
  have hC:0≤p.kids[i]∧(p.leaf=false→p.kids[i]<many):=⟨by have hx:=of_decide_eq_false KY;omega,fun hl=>by first|(rw[hl] at FX;cases FX;done)|(have hx:=of_decide_eq_false fD;omega)⟩
  refine bX [1,2,113,114,115] ?_;refine⟨(i+1),_,cn,aJ,w4,(fun j hj hl=>by rcases Nat.lt_or_ge j i with h|h;exact lF j h hl;obtain rfl:j=i:=w4;exact hC),rfl⟩):p:=h
theorem Xl(h:p:=by
  have fh:j=a∨Rc cF Lt (lH[j-1]'qW) (lH[j]'qX):=(by first|exact .inr (FC ha (aey hj (by have q:=of_decide_eq_true qQ;omega) qX qW hq) w4)|exact .inl (by have q:=of_decide_eq_false qQ;omega))
  refine bX [0,1,2,3,8] ?_;refine⟨((i+1),lH),_,cn,aJ,(fun _=>acz ht hj w4 w4 fh),w4,w4,w4,zE,rfl⟩):p:=h
theorem Xm(h:p:=by
  refine aM 0 [_,_,_] sizeOf170 ?_;refine an 14 [2] ?_;refine aK [] ?_;refine⟨?_,rfl⟩;unfold zG;first|(rw[if_neg mb,if_neg xW,show((j:Nat):Int).toNat=j from rfl,getD_eq_getElem?_getD,getElem?_eq_getElem hj];rfl)|(rw[if_pos xN];rfl)|(rw[if_neg xN,if_pos vI];rfl)):p:=h
theorem z59(h:p:=by
  refine aK [] ?_;rw[aW];exact⟨rfl,rfl⟩
  ):p:=h
theorem Xn(h:p:=by
  have mz:vs[i].k≠l[i].k∧(i=0∨vs[i].k≠0):=(by first|(simp at *;omega)|(constructor<;>simp_all<;>omega))
  have hf:lY i l[i] vs[i]=4:=(by unfold lY;rw[if_neg hz,if_pos mz])
  have aW:dR l vs=4:=(by rw[hinv,QC Lv aa (by rw[hf];decide),hf])
  refine af [4] ?_;refine eU ?_;rw[aW];exact⟨rfl,rfl⟩):p:=h
theorem Xo(h:p:=by
  have mz:¬(0≤p.kids[i]∧(p.leaf=false→p.kids[i]<many)):=fun hk=>by obtain⟨k1,k2⟩:=hk;first|(have hx:=of_decide_eq_true KY;omega)|(have:=k2 (by simpa using FX);have hx:=of_decide_eq_true fD;omega)
  refine af [4] ?_;refine eU ?_;refine⟨vb (EE fun hp=>?_),rfl⟩;exact mz (aez hp aa)):p:=h
theorem Xp(h:p:=by
  refine an 70 [1,2,11,35,36,37] ?_;refine bX [1,2,11,35,36,37] ?_;refine⟨((k+1),(acc++[(L[k]'aa).2]),(some ⟨qY,0,none⟩),rL,[⟨qY,3,rL*1,flatMap Tw.cI ((acc)++[(L[k]'aa).2])⟩]),_,cn,aJ,w4,G0,nf,(bg.cast (bM Gp Gq) k8),rfl⟩):p:=h
theorem Xq(h:p:=by
  have oA:¬(vs[i].k≠l[i].k∧(i=0∨vs[i].k≠0)):=(by first|(simp_all;done)|omega|(simp at *;omega))
  have hf:lY i l[i] vs[i]=0:=(by unfold lY;rw[if_neg hz,if_neg oA])
  have jl:=hinv.trans (aaY Lv aa hf);refine bX [0,19,20,21] ?_;refine⟨(i+1),_,cn,aJ,w4,jl,rfl⟩):p:=h
theorem Xt(h:p:=by
  refine bX [1,3,33,34,35] ?_;refine⟨(i+1),_,cn,(aJ (h:=by repeat (first|exact trivial|refine⟨(by (repeat (first|exact fI|(apply fX;focus (first|rfl|(rw[EF,if_neg zH];rfl)|(rw[EF,if_pos zH];rfl)|(simp;done)|(congr 2;omega)))|(apply fN;focus rfl)));done),?_⟩))),w4,rfl⟩):p:=h
theorem M3(h:p:=by
  refine aM 0 [_,_,_] sizeOf33 ?_;refine an 42 [8,9] ?_;refine aK [⟨br,43,1,[au 3 cV row]⟩,⟨bc,29,1,[au 2 cC l]⟩] ?_;rw[aW];exact⟨rfl,rfl⟩):p:=h
theorem CT(h:p:=by
  refine bX [6] ?_;refine aK [] ?_;refine⟨?_,rfl⟩;first|rfl|(simp[*];done)):p:=h
theorem Hi(h:p:=by
  refine OD.perm (dW (A:=[])) ?_;refine an 8 [2] ?_;refine aK S7 ?_;exact⟨_,_,rfl,qj⟩
  ):p:=h
theorem Xu(h:p:=by
  refine fw ?_;refine OD.gQ iq rfl rfl rfl call31 (fx) ⟨ot,ot,trivial⟩ ?_;refine an 31 [1,10,11,12,29] ?_;refine ax ?_ ?_<;>intro cc cN
  ·exact absurd cc (by (simp at cc;omega))
  refine bX [1,10,11,12] ?_;refine⟨(i+1),_,cn,aJ,w4,rfl⟩):p:=h
theorem xX(h:p:=by
  refine aK [] ?_;rw[fh];exact⟨rfl,rfl⟩):p:=h
theorem z70(h:p:=by
  skip;refine bp [1,33] ?_;refine eT ?_;refine af [2] ?_;refine eU ?_;exact⟨vi (OP w4).symm,rfl⟩):p:=h
theorem M4(h:p:=by
  refine aM 0 [_,_,_] sizeOf33 ?_;refine an 29 [2] ?_;refine aK [] ?_;refine⟨?_,rfl⟩;unfold ou bu;simp_all):p:=h
theorem z72(h:p:=by
  have hC:¬((dm t.ay s.bN).1≠(t.ay.getD (bz t.ay s.set).toNat ⟨⟨#[]⟩,0⟩).k∧(dm t.ay s.bN).1≠0):=(by rw[jt];first|exact fun h=>h.2 (by simpa using cc)|exact fun h=>h.1 zk)
  refine CD.skip ?_;refine⟨_,aJ,hC,rfl⟩):p:=h
theorem Xv(h:p:=by
  have oI:¬(0≤s.gS∧s.gS<lz.length):=(by first|exact fun h=>mU h.2|(intro h;omega))
  refine CD.skip ?_;refine⟨_,aJ,lz,(by unfold rB jF;rw[←ng,Int.toNat_natCast,←hM,←VN,if_neg oI]),VO,w4,rfl⟩):p:=h
theorem M5(h:p:=by
  refine an 135 [4,5] ?_;refine aK [] ?_;rw[aW];exact⟨[],none,0,[],rfl,iz,(fun o h=>by cases h),rfl,rfl⟩):p:=h
theorem z75(h:p:=by
  have ahy:¬(f.length≤100∧eY.length≤100):=(by simp_all;omega)
  refine af [6,7] ?_;refine CD.wk (Wk.tM (t:=6) (sz:=2) lk) ?_;refine M6 ?_;exact⟨by unfold wO;rw[if_pos hz,if_neg ahy];rfl,rfl⟩):p:=h
theorem z76(h:p:=by
  refine aK [] ?_;rw[fh];exact⟨rfl,rfl⟩
  ):p:=h
theorem Xw(h:p:=by
  unfold cC;refine bS ?_;refine OD.box (ds:=[_,_]) ap rfl rfl ot rfl rfl (fun b2=>?_);refine an 8 [1,2] ?_;refine af [3] ?_;refine aK [⟨b,9,1,[aZ nm]⟩] ?_;exact⟨rfl,rfl⟩
  ):p:=h
theorem Xx(h:p:=by
  have iS:¬((jg a b i).k≠2∧(jg a b i).k≠0):=(by simp_all)
  refine bX [0,4,5,6,73,74] ?_;refine⟨(i+1),_,cn,aJ,w4,(I5 (p:=fun v=>¬(v.k≠2∧v.k≠0)) fm iS),rfl⟩):p:=h
theorem Xy(h:p:=by
  have iS:¬((jg a b i).k≠1∧(jg a b i).k≠0):=(by simp_all)
  refine bX [2,3,4,6,14,15] ?_;refine⟨(i+1),_,cn,aJ,w4,(I5 (p:=fun v=>¬(v.k≠1∧v.k≠0)) fm iS),rfl⟩):p:=h
theorem z80(h:p:=by
  unfold fg cmpL gm gm gm gm;rcases su a.k b.k with ⟨h1,h2⟩|⟨h1,h2⟩|⟨h1,h2⟩<;>rcases su a.n b.n with ⟨k1,k2⟩|⟨k1,k2⟩|⟨k1,k2⟩<;>simp only[h1,k1]<;>(repeat' split)<;>omega):p:=h
theorem Xz(h:p:=by
  refine bD ?_;refine cM [6,7] ?_;refine aP 6 ?_ (h:=by exact(dj rfl ot ot (EG underlying4)));refine bD ?_;refine aK [] ?_;refine⟨?_,rfl⟩;unfold pS;simp_all):p:=h
theorem XA(h:p:=by
  have ahz:¬((jg a b i).k=1∧(jg a b i).n=d):=(by simp_all)
  refine bX [2,3,4,6,30,31] ?_;refine⟨(i+1),_,cn,aJ,w4,(I5 (p:=fun v=>¬(v.k=1∧v.n=d)) KZ ahz),rfl⟩):p:=h
theorem XB(h:p:=by refine⟨_,(aJ (h:=by repeat (first|exact trivial|refine⟨(by (repeat (first|exact fI|(apply fX;focus (first|rfl|(rw[dc];done)|(simp;done)))|(apply fN;focus rfl)));done),?_⟩))),rfl⟩):p:=h
theorem XC(h:p:=by refine⟨_,(aJ (h:=by repeat (first|exact trivial|refine⟨(by (repeat (first|exact fI|(apply fX;focus (first|rfl|(rw[jt];done)|(simp;done)))|(apply fN;focus rfl)));done),?_⟩))),rfl⟩):p:=h
theorem z85(h:p:=by
  skip;obtain⟨hz,_⟩:=xU aO;obtain rfl:=length_eq_zero_iff.1 hz;refine af [2] ?_;refine CD.wk (Wk.tM (t:=2) (sz:=1) lk) ?_;refine aK [] ?_;exact⟨rfl,rfl⟩):p:=h
theorem XD(h:p:=by
  refine af [4] ?_;refine aK [] ?_;first|exact⟨vi (EH hn).symm,rfl⟩|exact⟨vi (El hz vI).symm,rfl⟩|exact⟨vi (JE hz vI).symm,rfl⟩):p:=h
theorem z87(h:p:=by
  rw[←js] at fE;obtain⟨j,hj,rfl⟩:=mem_iff_getElem.1 fE;refine lf (k+1+j) _ w4 ?_;rw[←Array.getElem?_toList,←getElem?_drop,getElem?_eq_getElem hj]):p:=h
theorem XE(h:p:=by
  refine af [4] ?_;refine eU ?_;refine⟨vi ?_,rfl⟩;unfold aL;first|(rw[B7] at XF;cases fR:p.leaf<;>simp_all;done)|(simp_all;done)|(simp_all;omega)):p:=h
theorem M7(h:p:=by
  refine af [2,3] ?_;refine aK [] ?_;first|(rw[aW];exact⟨none,0,rfl,iz⟩)):p:=h
theorem CU(h:p:=by refine⟨_,aJ,_,(by unfold zeroV;simp_all),rfl⟩):p:=h
theorem z91(h:p:=by
  refine af [2] ?_;refine aK [] ?_;exact⟨by first|rw[aW]|rw[aW];rfl,rfl⟩):p:=h
theorem XG(h:p:=by
  refine bX [2,10,13,17,20,24,168] ?_;refine fY ?_;refine bX [2,10,13,17,20,24] ?_;refine⟨(i+1),_,cn,aJ,w4,w4,rfl⟩):p:=h
theorem z93(h:p:=by
  have g6:=po.leaf;have g7:=fun h=>(po.node h).1;cases fR:(t.ag[i]'aa).leaf with
  | true=>have:=g6 fR;omega
  | false=>have:=g7 fR;omega):p:=h
theorem XH(h:p:=by
  refine bX [0,1,5] ?_;refine⟨(i+1),_,cn,aJ,w4,(by rw[take_succ_eq_append_getElem aa,take_succ_eq_append_getElem sK,Hj,XI]),rfl⟩):p:=h
theorem XJ(h:p:=by
  rw[map_set,hn];have:l[i].nm=(l.map aH.nm)[i]'(by rw[length_map];exact hi):=(by rw[getElem_map])
  rw[this,set_getElem_self]):p:=h
theorem CV(h:p:=by refine⟨_,aJ,_,ig,rfl⟩):p:=h
theorem XK(h:p:=by refine⟨((((i+j)/2)+1),j),_,cn,aJ,w4,w4,w4,(.inr ⟨by omega,by omega,by exact uj⟩),fF,rfl⟩):p:=h
theorem XL(h:p:=by
  obtain⟨t',h3,h4⟩:=(wH hp Aq).2;rw[iW] at h3;obtain rfl:=Option.some.inj h3;exact h4 k o hj zF hd):p:=h
theorem XM(h:p:=by
  unfold mu;rw[mk_data,getD_eq_getElem?_getD,getElem?_eq_getElem w4];exact getElem_mem _):p:=h
theorem VQ(h:p:=by
  rw[qa] at pz;rcases mem_cons.1 pz with rfl|pz
  ·exact .inl (tD _ _)
  exact m.Ux x pz):p:=h
theorem VR(h:p:=by
  have fh:dR l=1:=if_pos w4;refine af [2] ?_;refine eU ?_;rw[fh];exact⟨rfl,rfl⟩):p:=h
theorem VS(h:p:=by
  refine aK [⟨br,43,1,[au 3 cV row]⟩,⟨bc,29,1,[au 2 cC l]⟩] ?_;rw[aW];exact⟨rfl,rfl⟩
  ):p:=h
theorem zI(h:p:=by exact absurd aO (by simp at aO)):p:=h
theorem VT(h:p:=by refine⟨(i,((i+j)/2)),_,cn,aJ,w4,w4,w4,dL,(.inr ⟨by omega,by omega,Av⟩),rfl⟩):p:=h
theorem z105(h:p:=by
  refine CD.skip ?_;have ahA:l1=l:=acA Lw w4;rw[ahA];refine⟨_,aJ,rfl⟩):p:=h
theorem Lx(h:p:=by
  refine dG 2 ?_;refine OD.lS (f:=120) (args:=[_,_]) (all:=[_,_]) (Sf:=[]) ap rfl rfl ot call120 (zl a 2) rfl ⟨ot,bP,trivial⟩ (fa _) ?_;rintro _ _ ⟨rfl,rfl⟩;refine aG 1 ?_;refine bW 68 (fun aja ahB=>?_) (fun aja ahB=>?_)
  ·refine aG 2 ?_;refine OD.lS (f:=120) (args:=[_,_]) (all:=[_,_]) (Sf:=[]) iq rfl rfl ot call120 (zl b 2) rfl ⟨ot,bP,trivial⟩ (fa _) ?_;rintro _ _ ⟨rfl,rfl⟩;exact G9
  refine an 76 [11,12] ?_;refine af [12,74] ?_;refine eT ?_;exact Am):p:=h
theorem z107(h:p:=by
  refine CD.seq ?_;refine s8 11 10 [5,7,31] ?_;refine cJ (kv G n 40 gw iI w8) ?_;refine cJ (QD ⟨n,dI n 40-20,s⟩ fT) ?_;refine pA ?_;refine jI ?_;refine⟨rfl,fun b7=>?_⟩;refine aM 0 [_,_,_] sizeOf33 ?_;refine an 69 [5,7] ?_;refine aA 2 ?_;refine dO call40 (FD (ou ⟨n,dI n 40-20,s⟩).s 4 w4) ?_;refine aG 1 ?_;refine aM 0 [_,_,_] sizeOf9 ?_;refine an 69 [5,7] ?_;refine aA 3 ?_;refine ew (cu 0 [_]) [.int .i64 0,.int .i64 0,.int .i64 0,.string ⟨#[]⟩,.string ⟨#[]⟩] [_,_,_,_,_] zeroValue35 runUnderlying36 sizeOf35 (fun CW=>?_);exact z21):p:=h
theorem VU(h:p:=by
  refine dG 2 ?_;refine OD.lS (f:=120) (args:=[_,_]) (all:=[_,_]) (Sf:=[]) ap rfl rfl ot call120 (zl a 1) rfl ⟨ot,bP,trivial⟩ (fa _) ?_;rintro _ _ ⟨rfl,rfl⟩;refine aG 1 ?_;refine bW 40 (fun Ly K0=>?_) (fun Ly K0=>?_)
  ·refine aG 2 ?_;refine OD.lS (f:=120) (args:=[_,_]) (all:=[_,_]) (Sf:=[]) iq rfl rfl ot call120 (zl b 1) rfl ⟨ot,bP,trivial⟩ (fa _) ?_;rintro _ _ ⟨rfl,rfl⟩;exact G9
  refine an 76 [11,12] ?_;refine af [12,74] ?_;refine eT ?_;exact Am):p:=h
theorem z109(h:p:=by
  refine AD.one (i:=10) aB ?_;refine qk call90 (mq (t.ag[i]'aa).high w4) ?_;refine c9 13 rfl (oR (pl:=[(0,_),(1,_),(2,_),(3,_),(4,_)]) (ds:=[_,_,_,_,_]) rfl zeroValue146 runUnderlying146 OB ⟨rfl,ot,rfl,ot,rfl,ot,rfl,ot,rfl,ot,trivial⟩ rfl rfl) ?_;refine AD.one (i:=14) aB ?_;refine nF (cu 0 [_]) [.bool false,.slice none 0 0,.slice none 0 0,.slice none 0 0,.int .i64 0] [_,_,_,_,_] zeroValue146 runUnderlying73 sizeOf146 (fun Aw=>?_);refine nG 0 46 5 1 ?_;exact z5):p:=h
theorem Lz(h:p:=by
  refine fw ?_;refine bp [3] ?_;refine af [52] ?_;refine ax ?_ ?_<;>intro fD gG
  ·exact z12
  exact z12):p:=h
theorem Gr(h:p:=by
  refine af [4,5,6] ?_;refine CD.wk (Wk.tM (t:=4) (sz:=1) lk) ?_;refine CD.wk (Wk.tM (t:=5) (sz:=1) lk) ?_;exact oJ):p:=h
theorem VV(h:p:=by
  refine dG 3 ?_;refine OD.lS (f:=120) (args:=[_,_]) (all:=[_,_]) (Sf:=[]) ap rfl rfl ot call120 (zl a b) rfl ⟨ot,ot,trivial⟩ (fa _) ?_;rintro _ _ ⟨rfl,rfl⟩;refine aG 1 ?_;refine bW 57 (fun ud BM=>?_) (fun ud BM=>?_)
  ·refine an 76 [11,12] ?_;refine af [12,74] ?_;refine fY ?_;exact Am
  exact G9):p:=h
theorem VW(h:p:=by
  refine VC.body func20 rfl ntmps20 aQ fun X0 w0 bf=>?_;refine bS ?_;refine OD.alloc (ds:=[_,_,_,_,_,_,_,_,_,_,_,_]) ap rfl rfl zeroValue46 rfl (fun b4=>?_);refine an 8 [0,1,4] ?_;refine aA 3 ?_;refine aM 0 [_,_,_,_,_,_,_,_,_,_,_,_] sizeOf46 ?_;refine an 8 [4] ?_;exact nE):p:=h
theorem VX(h:p:=by
  refine mD 7 rfl ?_;refine mD 8 rfl ?_;refine mD 9 rfl ?_;refine dH.later rfl ?_;refine AD.one (i:=10) aB ?_;refine bB.skip rfl (mN rfl rfl rfl lk jr) rfl ?_;refine c9 11 rfl vo ?_;refine c9 12 rfl bG ?_;exact z6):p:=h
theorem Gs(h:p:=by
  skip;refine bp [1,2,39] ?_;refine eT ?_;refine af [4] ?_;refine eU ?_;exact z7):p:=h
theorem z116(h:p:=by
  have cc:(dA (mr key) (bn.take 2))<0∨(dA gP (bn.take 2))<0:=(by first|omega|(simp_all;omega)|simp_all)
  have mV:nu key bn nt (lo,hi)=(lo,hi):=(by unfold nu;rw[u3 vr,if_neg sJ,if_pos cc])
  rw[mV] at aW;exact z37):p:=h
theorem z117(h:p:=by
  refine af [2] ?_;refine eU ?_;exact Xd):p:=h
theorem B8(h:p:=by
  refine aG 4 ?_;refine dO call121 (Bl _) ?_;exact z8):p:=h
theorem z119(h:p:=by
  refine bS ?_;refine OD.alloc (ds:=[_,_,_]) ap rfl rfl zeroValue170 rfl (fun b2=>?_);refine an 5 [0,2] ?_;refine aA 2 ?_;refine aM 0 [_,_,_] sizeOf170 ?_;refine an 5 [2] ?_;exact nE):p:=h
theorem VY(h:p:=by
  refine af [52] ?_;refine ax ?_ ?_<;>intro fD gG
  ·refine af [2] ?_;refine aK [] ?_;exact MX
  refine af [2] ?_;refine aK [] ?_;exact MX):p:=h
theorem VZ(h:p:=by
  refine VC.body func64 rfl ntmps64 aQ fun X0 w0 bf=>?_;refine af [0,1] ?_;refine aA 2 ?_;refine bQ (Zo rfl ot ot func117 aB aB aB aB) ?_;refine an 8 [4] ?_;exact nE):p:=h
theorem zJ(h:p:=by
  refine af [2] ?_;refine eU ?_;exact z23):p:=h
theorem V0(h:p:=by
  have hf:nx (l.take i) l[i]=2:=(by unfold nx;rw[if_neg gJ,if_pos w4])
  have aW:fO l=2:=(by rw[hinv,I6 aa (by rw[hf];decide),hf])
  exact xV):p:=h
theorem z124(h:p:=by
  refine af [2] ?_;refine aK [] ?_;exact Xd):p:=h
theorem V1(h:p:=by
  have fh:oB a b=true:=EI (by rw[take_of_length_le w4,take_of_length_le w4] at Hj;exact Hj);refine af [4] ?_;exact z76):p:=h
theorem V2(h:p:=by
  refine OD.perm (dW (A:=[])) ?_;refine an 8 [2] ?_;refine CD.ic (t:=2) (Sq:=S7) lk qj (cm pT _) (dg (A:=[])) ?_;exact nE):p:=h
theorem z127(h:p:=by
  skip;refine bp [1,14] ?_;refine ax ?_ ?_<;>intro cc cN
  ·refine af [2] ?_;exact CQ
  exact W4):p:=h
theorem xn(h:p:=by
  refine af [4,5] ?_;exact Hf):p:=h
theorem V3(h:p:=by
  skip;refine aG 5 ?_;refine bW 17 (fun xp wP=>?_) (fun xp wP=>?_)
  ·exact Hg
  exact Hg):p:=h
theorem z130(h:p:=by
  skip;have fh:oB a b=false:=JF fun e=>by rw[e] at aO;simp at aO
  refine af [4] ?_;exact xX):p:=h
theorem z131(h:p:=by
  skip;refine bp [1,2,71] ?_;refine eT ?_;refine af [4] ?_;refine eU ?_;exact z7):p:=h
theorem V4(h:p:=by
  refine AD.one (i:=15) aB ?_;refine bB.gQ rfl iq rfl rfl rfl call155 (SF t.s 156 wQ call156 QE hs) ⟨ot,tE,trivial⟩ ?_;refine c9 19 rfl ql ?_;refine c9 20 rfl xq ?_;exact Lz):p:=h

end Go.Proofs.YtkgmonfgofobaaaGreatDoor
namespace Go.Proofs.YtkgmonfgofobaaaGreatDoor.V
open List
open Go.RowKit
variable {L X:Nat→Prop} {w':World} {b i k n off o' cap sz j m h' tt bytes:Nat} {I:Array Field} {v u:Value} {e t:TypeId} {y fo:Operand} {a:Act} {cur:Array Value} {lo hi:Option Operand} {ts:Array TypeId} {ad:Option Addr} {ps:Array (Nat×Operand)} {cG:Array Operand}
inductive D where
 | v (x:Value)
 | list (sz:Nat) (cs:List D) (len:Nat)
 | fJ (cs:List D) (off:Nat)
 | agg (cs:List D)
 | dh (cs:List D)
 | eA (f:Fn) (cs:List D)
 | kr (l:Nat) (os:List (Nat×Obj))
 | bV
 deriving Inhabited
variable {ds cs':List D} {l:List (Nat×D)}
inductive cg (w:World) (L:Nat→Prop):D→Value→Prop
 | v (x:Value):cg w L (.v x) x
 | mA (sz:Nat) (ad:Option Addr) (cap:Nat):cg w L (.list sz [] 0) (.slice ad 0 cap)
 | list (sz:Nat) (cs:List D) (len b o cap:Nat) (f:Nat→Value) (hl:cs.length=len*sz) (h1:len≤cap) (h2:cap≤maxLen) (hb:b<w.heap.size) (hL:¬L b)
   (hc:∀i,i<cs.length→w.cell? ⟨b,o+i,none⟩=some (f i)) (hr:∀i (h:i<cs.length),cg w L cs[i] (f i)):cg w L (.list sz cs len) (.slice (some ⟨b,o,none⟩) len cap)
 | fJ (cs:List D) (off b o:Nat) (f:Nat→Value) (hb:b<w.heap.size) (hL:¬L b)
   (hc:∀i,i<cs.length→w.cell? ⟨b,o+i,none⟩=some (f i)) (hr:∀i (h:i<cs.length),cg w L cs[i] (f i)):cg w L (.fJ cs off) (.pointer (some ⟨b,o+off,none⟩))
 | agg (cs:List D) (vs:List Value) (hl:vs.length=cs.length) (hr:∀i (h:i<cs.length) (h':i<vs.length),cg w L cs[i] vs[i]):cg w L (.agg cs) (.agg vs.toArray)
 | dh (cs:List D) (vs:List Value) (hl:vs.length=cs.length) (hr:∀i (h:i<cs.length) (h':i<vs.length),cg w L cs[i] vs[i]):cg w L (.dh cs) (.tuple vs.toArray)
 | eA (fn:Fn) (cs:List D) (vs:List Value) (hl:vs.length=cs.length) (hr:∀i (h:i<cs.length) (h':i<vs.length),cg w L cs[i] vs[i]):cg w L (.eA fn cs) (.func fn #[] vs.toArray)
 | kr (l:Nat) (os:List (Nat×Obj)) (h:∀z∈os,z.1<w.heap.size∧¬L z.1∧w.heap[z.1]?=some z.2):cg w L (.kr l os) (.func (.yield l) #[] #[])
 | bV (x:Value):cg w L .bV x
theorem cg.nil{w:World}(sz:Nat):cg w L (.list sz [] 0) (.slice none 0 0):=.mA sz none 0
theorem qz{w:World}(hb:b<w.heap.size)(h:w'.heap[b]?=w.heap[b]?):b<w'.heap.size:=by
 rcases Nat.lt_or_ge b w'.heap.size with h'|h'
 ·exact h'
 rw[Array.getElem?_eq_none h',Array.getElem?_eq_getElem hb] at h;cases h
theorem cg.mono{w:World}{I:Nat→Prop}{d:D}(h:cg w L d v)(H:∀b,b<w.heap.size→¬L b→w'.heap[b]?=w.heap[b]?∧¬I b):cg w' I d v:=by
 induction h with
 | v x=>exact .v x
 | mA sz ad cap=>exact .mA sz ad cap
 | list sz cs len b o cap f hl h1 h2 hb hL hc hr ih =>
  have E:=H b hb hL;exact .list sz cs len b o cap f hl h1 h2 (qz hb E.1) E.2 (fun i hi=>(World.cell?_of_block (w:=w) (a:=⟨b,o+i,none⟩) E.1).trans (hc i hi)) ih
 | fJ cs off b o f hb hL hc hr ih =>
  have E:=H b hb hL;exact .fJ cs off b o f (qz hb E.1) E.2 (fun i hi=>(World.cell?_of_block (w:=w) (a:=⟨b,o+i,none⟩) E.1).trans (hc i hi)) ih
 | agg cs vs hl hr ih=>exact .agg cs vs hl ih
 | dh cs vs hl hr ih=>exact .dh cs vs hl ih
 | eA fn cs vs hl hr ih=>exact .eA fn cs vs hl ih
 | kr l os h =>
  refine .kr l os fun z hz=>?_;obtain⟨h1,h2,h3⟩:=h z hz;have E:=H z.1 h1 h2;exact⟨qz h1 E.1,E.2,E.1.trans h3⟩
 | bV x=>exact .bV x
structure ah where
 b:Nat
 e:TypeId
 size:Nat
 cs:List D
 deriving Inhabited
variable {S S' Sf R:List ah} {B:ah} {post:D→List ah→Prop}
def y9:TypeId:=1000003
def SG:TypeId:=1000004
def isMap(e:TypeId):Bool:=Nat.beq e y9||Nat.beq e SG
def BN(cur:Array Value):Obj:=.map (cur.mapIdx fun i k=>⟨k,.agg #[],i⟩) cur.size
def Uy:Value→Nat
 | .int _ n=>n.toNat
 | _=>0
def V5:List Value→List MapEntry
 | k::v::b::r=>⟨k,v,Uy b⟩::V5 r
 | _=>[]
def agc(cur:Array Value):Obj:=match cur.toList with
 | c::r=>.map (V5 r).toArray (Uy c)
 | []=>.map #[] 0
def ob(e:TypeId)(cur:Array Value):Obj:=bif isMap e then (bif Nat.beq e SG then agc cur else BN cur) else .cells cur e (0,0)
theorem kx(he:isMap e=false)(cur:Array Value):ob e cur = .cells cur e (0,0):=by rw[ob,he];rfl
theorem Uz(cur:Array Value):ob y9 cur=BN cur:=rfl
def K3(w:World)(L:Nat→Prop)(B:ah):Prop :=
 B.b<w.heap.size∧∃cur:Array Value,w.heap[B.b]?=some (ob B.e cur)∧cur.size=B.size∧B.cs.length≤B.size∧∀i (h:i<B.cs.length),∃u,cur[i]?=some u∧cg w L B.cs[i] u
def rC:Value→Bool
 | .tuple _=>false
 | _=>true
def oh(w:World)(b i:Nat):Value→Prop
 | .tuple vs=>∃t fz,w.heap[b]?=some (.cells vs t fz)
 | v=>w.cell? ⟨b,i,none⟩=some v
theorem oh.cell{w:World}(h:oh w b i v)(E:rC v=true):w.cell? ⟨b,i,none⟩=some v:=by
 cases v<;>first|exact h|cases E
theorem oh.of{w:World}(h:w.cell? ⟨b,i,none⟩=some v)(E:rC v=true):oh w b i v:=by
 cases v<;>first|exact h|cases E
theorem oh.on{w:World}(hb:w'.heap[b]?=w.heap[b]?)(h:oh w b i v):oh w' b i v:=by
 by_cases E:rC v=true
 ·exact .of ((World.cell?_of_block (w:=w) (a:=⟨b,i,none⟩) hb).trans (h.cell E)) E
 cases v<;>first|exact absurd rfl E|(obtain⟨t,fz,h⟩:=h;exact⟨t,fz,hb.trans h⟩)
theorem oh.lt{w:World}(h:oh w b i v):b<w.heap.size:=by
 by_cases E:rC v=true
 ·exact World.block_lt_of_cell? w _ (h.cell E)
 cases v<;>first|exact absurd rfl E|(obtain⟨t,fz,h⟩:=h;exact(Array.getElem?_eq_some_iff.1 h).1)
theorem QF{vs:List Value}(h:vs.all rC=true)(hi:vs[i]?=some v):rC v=true:=all_eq_true.1 h v (mem_of_getElem? hi)
structure dx where
 X:Nat→Prop
 w0:World
 S0:List Nat
 G:List (Nat×List Value)
 df:List Deferred
 CX:Act→World→Prop
variable {C:dx}
structure St where
 n:Nat
 env:List (Nat×D)
 S:List ah
def look(t:Nat):List (Nat×D)→D
 | []=>.bV
 | (i,d)::r=>bif Nat.beq i t then d else look t r
theorem fW(t i:Nat)(d:D)(l:List (Nat×D)):look t ((i,d)::l)=if i=t then d else look t l:=by
 rw[look];by_cases e:i=t
 ·subst e;simp
 have:Nat.beq i t=false:=by
  cases h:Nat.beq i t with
  | false=>rfl
  | true=>exact absurd (Nat.eq_of_beq_eq_true h) e
 rw[this,if_neg e];rfl
def av(S:List ah):List Nat:=S.map (·.b)
def live(X:Nat→Prop)(S:List ah)(b:Nat):Prop:=X b∨b∈av S
structure Fr (w:World) (S:List Nat) (w':World) (S':List Nat):Prop where
 os:w'.os=w.os
 tape:w'.tape=w.tape
 output:w'.output=w.output
 size:w.heap.size≤w'.heap.size
 block:∀b,b<w.heap.size→b∉S→w'.heap[b]?=w.heap[b]?∧b∉S'
theorem Fr.refl(w:World)(S:List Nat):Fr w S w S:=⟨rfl,rfl,rfl,Nat.le_refl _,fun _ _ h=>⟨rfl,h⟩⟩
theorem Fr.trans{w1 E w3:World}{S1 S2 S3:List Nat}(h:Fr w1 S1 E S2)(k:Fr E S2 w3 S3):Fr w1 S1 w3 S3 :=
 ⟨k.os.trans h.os,k.tape.trans h.tape,k.output.trans h.output,Nat.le_trans h.size k.size,fun b hb hn =>
  have h1:=h.block b hb hn;have h2:=k.block b (Nat.lt_of_lt_of_le hb h.size) h1.2
  ⟨h2.1.trans h1.1,h2.2⟩⟩
structure Own (w:World) (L:Nat→Prop) (S:List ah):Prop where
 at_:∀B∈S,K3 w L B
 apart:(av S).Nodup
structure bH (C:dx) (x:St) (a:Act) (w:World):Prop where
 defers:a.defers=C.df
 size:a.tmps.size=x.n
 env:∀t,t<x.n→cg w (live C.X x.S) (look t x.env) (a.tmps.getD t undef)
 own:Own w (live C.X x.S) x.S
 fr:Fr C.w0 C.S0 w (av x.S)
 ex:∀b,C.X b→b<C.w0.heap.size∧b∉C.S0
 eK:∀g∈C.G,(g.1<C.w0.heap.size∧g.1∉C.S0∧¬C.X g.1)∧∀i v,g.2[i]?=some v→oh C.w0 g.1 i v
def St.put(x:St)(t:Nat)(d:D):St:=⟨x.n,(t,d)::x.env,x.S⟩
theorem bH.put{C:dx}{x:St}{a:Act}{w:World}(h:bH C x a w){t:Nat}{d:D}{v:Value}(hd:cg w (live C.X x.S) d v):bH C (x.put t d) (a.put (some t) v) w:=by
 refine⟨h.defers,by simp[Act.put,St.put,h.size],fun i hi=>?_,h.own,h.fr,h.ex,h.eK⟩;have hs:=h.size;simp only[St.put,fW,Act.put] at hi ⊢;by_cases e:t=i
 ·subst e;rw[if_pos rfl];have:(a.tmps.setIfInBounds t v).getD t undef=v:=by
   simp[Array.getElem?_setIfInBounds,hs,hi]
  rw[this];exact hd
 rw[if_neg e];have:(a.tmps.setIfInBounds t v).getD i undef=a.tmps.getD i undef:=by
  simp[Array.getElem?_setIfInBounds_ne e]
 rw[this];exact h.env i hi
def Wk(x y:St):Prop:=∀C a w,bH C x a w→bH C y a w
theorem Wk.refl(x:St):Wk x x:=fun _ _ _ h=>h
theorem Wk.trans{x y z:St}(h:Wk x y)(k:Wk y z):Wk x z:=fun C a w s=>k C a w (h C a w s)
theorem Own.sub{w:World}(h:Own w (live X S) S)(hs:S'.Sublist S):Own w (live X S') S' :=
 have E:(av S').Sublist (av S):=Sublist.map _ hs
 ⟨fun B I=>by
  obtain⟨h0,cur,h1,h2,h3,h4⟩:=h.at_ B (hs.subset I);refine⟨h0,cur,h1,h2,h3,fun i hi=>?_⟩;obtain⟨u,hu,hr⟩:=h4 i hi;exact⟨u,hu,hr.mono fun b _ hn=>⟨rfl,fun hl=>hn (hl.imp id fun q=>E.subset q)⟩⟩,h.apart.sublist E⟩
theorem Wk.drop(n:Nat)(l:List (Nat×D))(S S':List ah)(hs:S'.Sublist S):Wk ⟨n,l,S⟩ ⟨n,l,S'⟩:=fun C a w h =>
 have E:(av S').Sublist (av S):=Sublist.map _ hs
 ⟨h.defers,h.size,fun t ht=>(h.env t ht).mono fun b _ hn=>⟨rfl,fun hl=>hn (hl.imp id fun q=>E.subset q)⟩,h.own.sub hs,
  ⟨h.fr.os,h.fr.tape,h.fr.output,h.fr.size,fun b hb hn=>⟨(h.fr.block b hb hn).1,fun q=>(h.fr.block b hb hn).2 (E.subset q)⟩⟩,h.ex,h.eK⟩
theorem cg.kU{w:World}{x y:Value}(h:cg w L (.v x) y):y=x:=by cases h;rfl
def aE(x:St):Operand→D
 | .tmp t=>bif Nat.blt t x.n then look t x.env else .bV
 | .const v=>.v v
 | .global g=>.v (.pointer (some ⟨g,0,none⟩))
 | .func f=>.eA (.func f) []
theorem bH.eval{C:dx}{x:St}{a:Act}{w:World}(h:bH C x a w)(o:Operand):cg w (live C.X x.S) (aE x o) (a.eval o):=by
 cases o with
 | tmp t =>
  simp only[aE,Act.eval];cases ht:Nat.blt t x.n with
  | true=>exact h.env t (Nat.le_of_ble_eq_true ht)
  | false=>exact .bV _
 | const v=>exact .v _
 | global g=>exact .v _
 | func f=>exact .eA (.func f) [] [] rfl (fun i h=>by simp at h)
theorem bH.flat{x:St}{w:World}(h:bH C x a w){o:Operand}(ho:aE x o = .v u):a.eval o=u:=by
 have:=h.eval o;rw[ho] at this;exact this.kU
theorem bH.fG{x:St}{w:World}(h:bH C x a w)(hk:x.S[k]?=some B):K3 w (live C.X x.S) B:=h.own.at_ B (mem_of_getElem? hk)
theorem QG(hk:S[k]?=some B):live X S B.b:=.inr (mem_map.2 ⟨B,mem_of_getElem? hk,rfl⟩)
theorem bH.aT{x:St}{w:World}(h:bH C x a w){g:Nat×List Value}(hg:g∈C.G)(hi:g.2[i]?=some v):oh w g.1 i v:=by
 obtain⟨⟨h1,h2,h3⟩,h4⟩:=h.eK g hg;exact(h4 i v hi).on (h.fr.block g.1 h1 h2).1

inductive Rd where
 | none
 | fG (k:Nat)
 | j8
def Same(C:dx)(x:St)(w w':World):Rd→Prop
 | .none=>True
 | .fG k=>∀B,x.S[k]?=some B→w'.heap[B.b]?=w.heap[B.b]?
 | .j8=>∀b,b<w.heap.size→¬live C.X x.S b→w'.heap[b]?=w.heap[b]?
theorem Same.self(C:dx)(x:St)(w:World):∀k,Same C x w w k
 | .none=>trivial
 | .fG _=>fun _ _=>rfl
 | .j8=>fun _ _ _=>rfl
def bU(P:Program)(G:List (Nat×List Value))(x:St)(o:Oper)(k:Rd)(d:D):Prop :=
 ∀C a w,C.G=G→bH C x a w→∃v,cg w (live C.X x.S) d v∧∀w',Same C x w w' k→(execOp a.eval o).run P w' = .ok (.value v) w'
variable {P:Program} {G:List (Nat×List Value)} {x:St} {o:Oper}
theorem Z7(ho:o.op = .move y):bU P G x o .none (aE x y):=fun C a w _ h =>
 ⟨a.eval y,h.eval y,fun w' _=>by unfold execOp;simp[ho]⟩
theorem Zx(ho:o.op = .assign y):bU P G x o .none (aE x y):=fun C a w _ h =>
 ⟨a.eval y,h.eval y,fun w' _=>by unfold execOp;simp[ho]⟩
theorem O0{c z:Operand}{t:Bool}(ho:o.op = .pick c y z)(hc:aE x c = .v (.bool t)):bU P G x o .none (if t then aE x y else aE x z):=fun C a w _ h=>by
 refine⟨if t then a.eval y else a.eval z,by cases t<;>simp[h.eval],fun w' _=>?_⟩;unfold execOp;simp only[ho,h.flat hc,asBool];cases t<;>simp
def kR(P:Program)(op:BinOp)(t:TypeId)(u u' r:Value):Prop:=∀(y z:Operand) w,(do eqGuard op t y z u u';Go.binOp op t u u':Sem Value).run P w = .ok r w
theorem dj{op:BinOp}{t':TypeId}{z:Operand}{u' r:Value}(ho:o.op = .binOp op t y z t')(hy:aE x y = .v u)(hz:aE x z = .v u')(hb:kR P op t u u' r):bU P G x o .none (.v r):=fun C a w _ h =>
 ⟨r,.v _,fun w' _=>by
  unfold execOp;have:=hb y z w';simp only[Sem.run_bind] at this;simp only[ho,h.flat hy,h.flat hz,Sem.run_bind,this,Result.andThen_ok,Sem.run_pure]⟩
theorem Bm{op:UnOp}{r:Value}(ho:o.op = .unOp op t y)(hy:aE x y = .v u)(hb:∀w,(Op.unary op u).run P w = .ok r w):bU P G x o .none (.v r):=fun C a w _ h =>
 ⟨r,.v _,fun w' _=>by
  unfold execOp;simp only[ho,h.flat hy,Sem.run_bind,hb w',Result.andThen_ok,Sem.run_pure]⟩
theorem oQ{s:TypeId}{r:Value}(ho:o.op = .convert s t y)(hy:aE x y = .v u)(hb:∀w,(Go.convert s t u).run P w = .ok r w):bU P G x o .none (.v r):=fun C a w _ h =>
 ⟨r,.v _,fun w' _=>by
  unfold execOp;simp only[ho,h.flat hy,Sem.run_bind,hb w',Result.andThen_ok,Sem.run_pure]⟩
theorem OC{s:TypeId}{f:Field}{w:World}(O:∀w,(underlying s).run P w = .ok (.struct I) w)(hf:I[i]?=some f)(hn:∀w,(sizeOf f.type).run P w = .ok (n+1) w)(E:f.offset=off) :
  (Instr.fieldAt s (.pointer (some ⟨b,o',none⟩)) i).run P w = .ok (.pointer (some ⟨b,o'+off,none⟩)) w:=by
 subst E;simp[Instr.fieldAt,O,hf,Instr.sureAddr,fieldPlace,hn,Addr.add_mid]
theorem ZK {s:TypeId} {f:Field} (ho:o.op = .fieldAddr s y i) (hy:aE x y = .v (.pointer (some ⟨b,o',none⟩)))
  (O:∀w,(underlying s).run P w = .ok (.struct I) w) (hf:I[i]?=some f) (hn:∀w,(sizeOf f.type).run P w = .ok (n+1) w) (E:f.offset=off):bU P G x o .none (.v (.pointer (some ⟨b,o'+off,none⟩))):=fun C a w _ h =>
 ⟨_,.v _,fun w' _=>by
  unfold execOp;simp only[ho,h.flat hy,Sem.run_bind,OC O hf hn E,Result.andThen_ok,Sem.run_pure]⟩
theorem Zy {s:TypeId} {cs:List D} {f:Field} {O:Array Field} (ho:o.op = .fieldAddr s y i) (hy:aE x y = .fJ cs o')
  (U:∀w,(underlying s).run P w = .ok (.struct O) w) (hf:O[i]?=some f) (hn:∀w,(sizeOf f.type).run P w = .ok (n+1) w) (E:f.offset=off):bU P G x o .none (.fJ cs (o'+off)):=fun C a w _ h=>by
 have hr:=h.eval y;rw[hy] at hr;generalize hg:a.eval y=u at hr;cases hr with
 | fJ _ _ b I g hb hL hc hr =>
  refine⟨_,.fJ cs (o'+off) b I g hb hL hc hr,fun w' _=>?_⟩;unfold execOp;simp only[ho,hg,Sem.run_bind,OC U hf hn E,Result.andThen_ok,Sem.run_pure,Nat.add_assoc]
theorem Zp{cs:List D}{d:D}(ho:o.op = .extract y i)(hy:aE x y = .dh cs)(hd:cs[i]?=some d):bU P G x o .none d:=fun C a w _ h=>by
 have hr:=h.eval y;rw[hy] at hr;generalize hg:a.eval y=u at hr;cases hr with
 | dh _ vs hl hr =>
  obtain⟨aa,he⟩:=List.getElem?_eq_some_iff.1 hd;refine⟨vs[i]'w4,?_,fun w' _=>?_⟩
  ·rw[←he];exact hr _ aa w4
  unfold execOp;simp[ho,hg,Instr.extract,getElem?_eq_getElem (show i<vs.length by omega)]
theorem Iw{w:World}(ha:∀w,(isAgg t).run P w = .ok false w)(hc:w.cell? ⟨b,o',none⟩=some v) :
  (Instr.loadAt t (.pointer (some ⟨b,o',none⟩))).run P w = .ok v w:=by
 simp[Instr.loadAt,Instr.sureAddr,loadVar,ha,hc]
theorem Iy {vs:List Value} {w:World} (ha:∀w,(isAgg t).run P w = .ok true w) (hn:∀w,(sizeOf t).run P w = .ok n w) (hl:vs.length=n)
  (hc:∀j (h:j<vs.length),w.cell? ⟨b,o'+j,none⟩=some vs[j]) :
  (Instr.loadAt t (.pointer (some ⟨b,o',none⟩))).run P w = .ok (.agg vs.toArray) w:=by
 have:=run_loadCells_list (P:=P) w ⟨b,o',none⟩ vs (fun j v E=>by
  obtain⟨h1,h2⟩:=List.getElem?_eq_some_iff.1 E;rw[Addr.add_mid,hc j h1,h2])
 rw[hl] at this;simp[Instr.loadAt,Instr.sureAddr,loadVar,ha,hn,this]
theorem og{w:World}(E:w.heap[b]?=some (.cells cur e (0,0)))(I:cur[i]?=some u):w.cell? ⟨b,i,none⟩=some u:=by
 unfold World.cell?;simp[E,I]
theorem Eb {d:D} (ho:o.op = .load t y) (hy:aE x y = .v (.pointer (some ⟨b,o',none⟩)))
  (hk:x.S[k]?=some B) (hb:B.b=b) (ha:∀w,(isAgg t).run P w = .ok false w) (hd:B.cs[o']?=some d) (hne:isMap B.e=false:=by rfl):bU P G x o (.fG k) d:=fun C a w _ h=>by
 obtain⟨_,cur,h1,h2,h3,h4⟩:=h.fG hk;rw[kx hne] at h1;obtain⟨aa,he⟩:=List.getElem?_eq_some_iff.1 hd;obtain⟨u,hu,hr⟩:=h4 o' aa;refine⟨u,by rw[←he];exact hr,fun w' hw=>?_⟩;have E:w'.heap[B.b]?=_:=(hw B hk).trans h1;unfold execOp;subst hb;simp only[ho,h.flat hy,Sem.run_bind,Iw ha (og E hu),Result.andThen_ok,Sem.run_pure]
theorem A3 (ho:o.op = .load t y) (hy:aE x y = .v (.pointer (some ⟨b,o',none⟩)))
  (hk:x.S[k]?=some B) (hb:B.b=b) (ha:∀w,(isAgg t).run P w = .ok true w) (hn:∀w,(sizeOf t).run P w = .ok n w) (hl:ds.length=n) (hd:(B.cs.drop o').take n=ds) (hne:isMap B.e=false:=by rfl):bU P G x o (.fG k) (.agg ds):=fun C a w _ h=>by
 obtain⟨_,cur,h1,h2,h3,h4⟩:=h.fG hk;rw[kx hne] at h1;have hlen:o'+n≤B.cs.length∨n=0:=by
  have:=congrArg length hd;simp only[length_take,length_drop] at this;omega
 have E:∀j,j<n→∃u,cur[o'+j]?=some u∧∀(h:j<ds.length),cg w (live C.X x.S) ds[j] u:=fun j hj=>by
  obtain⟨u,hu,hr⟩:=h4 (o'+j) w4;refine⟨u,hu,fun h=>?_⟩;subst hd;simpa using hr
 refine⟨.agg ((range n).map fun j=>cur.getD (o'+j) undef).toArray,.agg _ _ (by simp[hl]) (fun i q1 q2=>?_),fun w' hw=>?_⟩
 ·obtain⟨u,hu,hr⟩:=E i w4;simp only[getElem_map,getElem_range,Array.getD_eq_getD_getElem?,hu,Option.getD_some];exact hr q1
 have I:w'.heap[B.b]?=_:=(hw B hk).trans h1;unfold execOp;subst hb;have:=Iy (P:=P) (w:=w') (b:=B.b) (o':=o') (vs:=(range n).map fun j=>cur.getD (o'+j) undef) ha hn bq (fun j hj=>by
  simp only[length_map,length_range] at hj;obtain⟨u,hu,_⟩:=E j hj;simp only[getElem_map,getElem_range,Array.getD_eq_getD_getElem?,hu,Option.getD_some];exact og I hu)
 simp only[ho,h.flat hy,Sem.run_bind,this,Result.andThen_ok,Sem.run_pure]
theorem Ea {cs:List D} {d:D} (ho:o.op = .load t y) (hy:aE x y = .fJ cs o')
  (ha:∀w,(isAgg t).run P w = .ok false w) (hd:cs[o']?=some d):bU P G x o .j8 d:=fun C a w _ h=>by
 have hr:=h.eval y;rw[hy] at hr;generalize hg:a.eval y=u at hr;cases hr with
 | fJ _ _ b E g hb hL hc hr =>
  obtain⟨aa,he⟩:=List.getElem?_eq_some_iff.1 hd;refine⟨g o',by rw[←he];exact hr o' aa,fun w' hw=>?_⟩;have I:=World.cell?_of_block (w:=w) (a:=⟨b,E+o',none⟩) (hw b hb hL);unfold execOp;simp only[ho,hg,Sem.run_bind,Iw ha (I.trans (hc o' aa)),Result.andThen_ok,Sem.run_pure]
theorem H8 {cs:List D} (ho:o.op = .load t y) (hy:aE x y = .fJ cs o')
  (ha:∀w,(isAgg t).run P w = .ok true w) (hn:∀w,(sizeOf t).run P w = .ok n w) (hl:ds.length=n) (hd:(cs.drop o').take n=ds):bU P G x o .j8 (.agg ds):=fun C a w _ h=>by
 have hr:=h.eval y;rw[hy] at hr;generalize hg:a.eval y=u at hr;cases hr with
 | fJ _ _ b E g hb hL hc hr =>
  have hlen:o'+n≤cs.length∨n=0:=by
   have:=congrArg length hd;simp only[length_take,length_drop] at this;omega
  refine⟨.agg ((range n).map fun j=>g (o'+j)).toArray,.agg _ _ (by simp[hl]) (fun i q1 q2=>?_),fun w' hw=>?_⟩
  ·simp only[getElem_map,getElem_range];have:=hr (o'+i) w4;subst hd;simpa using this
  have:=Iy (P:=P) (w:=w') (b:=b) (o':=E+o') (vs:=(range n).map fun j=>g (o'+j)) ha hn bq (fun j hj=>by
   simp only[length_map,length_range] at hj;simp only[getElem_map,getElem_range];have I:=World.cell?_of_block (w:=w) (a:=⟨b,E+o'+j,none⟩) (hw b hb hL);rw[I,Nat.add_assoc];exact hc _ w4)
  unfold execOp;simp only[ho,hg,Sem.run_bind,this,Result.andThen_ok,Sem.run_pure]
theorem ZL {vs:List Value} (ho:o.op = .load t y) (hy:aE x y = .v (.pointer (some ⟨b,o',none⟩)))
  (hg:(b,vs)∈G) (ha:∀w,(isAgg t).run P w = .ok false w) (hd:vs[o']?=some v) (qZ:rC v=true:=by rfl):bU P G x o .j8 (.v v):=fun C a w hG h=>by
 subst hG;refine⟨v,.v _,fun w' hw=>?_⟩;have h1:=(h.aT hg hd).cell qZ;obtain⟨⟨q1,q2,q3⟩,_⟩:=h.eK _ hg;have hb:b<w.heap.size:=Nat.lt_of_lt_of_le q1 h.fr.size;have hn:¬live C.X x.S b:=fun hl=>hl.elim q3 (h.fr.block b q1 q2).2;have E:=World.cell?_of_block (w:=w) (a:=⟨b,o',none⟩) (hw b hb hn);unfold execOp;simp only[ho,h.flat hy,Sem.run_bind,Iw ha (E.trans h1),Result.andThen_ok,Sem.run_pure]

theorem SH{len:Nat}{k:IntKind}{i:Int}{w:World}(E:∀w,(underlying t).run P w = .ok (.slice e) w)(hs:∀w,(sizeOf e).run P w = .ok sz w)(hi:i=j)(hj:j<len) :
  (Instr.indexAt t (.slice (some ⟨b,o',none⟩) len cap) (.int k i)).run P w = .ok (.pointer (some ⟨b,o'+j*sz,none⟩)) w:=by
 subst hi;simp[Instr.indexAt,asIntOf,E,hs,hj,Addr.add_mid]
theorem Pt {len:Nat} {cs:List D} {k:IntKind} {i:Int} {z:Operand} (ho:o.op = .indexAddr t y z) (hy:aE x y = .list sz cs len) (hz:aE x z = .v (.int k i))
  (I:∀w,(underlying t).run P w = .ok (.slice e) w) (hs:∀w,(sizeOf e).run P w = .ok sz w) (hi:i=j) (hj:j<len):bU P G x o .none (.fJ cs (j*sz)):=fun C a w _ h=>by
 have hr:=h.eval y;rw[hy] at hr;generalize hg:a.eval y=u at hr;cases hr with
 | mA=>omega
 | list _ _ _ b E cap g hl h1 h2 hb hL hc hr =>
  refine⟨_,.fJ cs (j*sz) b E g hb hL hc hr,fun w' _=>?_⟩;unfold execOp;simp only[ho,hg,h.flat hz,Sem.run_bind,SH I hs hi hj,Result.andThen_ok,Sem.run_pure]
theorem O1 {len:Nat} {k:IntKind} {i:Int} {z:Operand} (ho:o.op = .indexAddr t y z) (hy:aE x y = .v (.slice (some ⟨b,o',none⟩) len cap)) (hz:aE x z = .v (.int k i))
  (E:∀w,(underlying t).run P w = .ok (.slice e) w) (hs:∀w,(sizeOf e).run P w = .ok sz w) (hi:i=j) (hj:j<len):bU P G x o .none (.v (.pointer (some ⟨b,o'+j*sz,none⟩))):=fun C a w _ h =>
 ⟨_,.v _,fun w' _=>by
  unfold execOp;simp only[ho,h.flat hy,h.flat hz,Sem.run_bind,SH E hs hi hj,Result.andThen_ok,Sem.run_pure]⟩
theorem acB{len:Nat}{k:IntKind}{i:Int}{w:World}(E:∀w,(underlying t).run P w = .ok (.array len e) w)(hs:∀w,(sizeOf e).run P w = .ok sz w)(hi:i=j)(hj:j<len) :
  (Instr.indexAt t (.pointer (some ⟨b,o',none⟩)) (.int k i)).run P w = .ok (.pointer (some ⟨b,o'+j*sz,none⟩)) w:=by
 subst hi;simp[Instr.indexAt,asIntOf,E,hs,hj,Addr.add_mid,Instr.sureAddr]
theorem Z8 {len:Nat} {k:IntKind} {i:Int} {z:Operand} (ho:o.op = .indexAddr t y z) (hy:aE x y = .v (.pointer (some ⟨b,o',none⟩))) (hz:aE x z = .v (.int k i))
  (E:∀w,(underlying t).run P w = .ok (.array len e) w) (hs:∀w,(sizeOf e).run P w = .ok sz w) (hi:i=j) (hj:j<len):bU P G x o .none (.v (.pointer (some ⟨b,o'+j*sz,none⟩))):=fun C a w _ h =>
 ⟨_,.v _,fun w' _=>by
  unfold execOp;simp only[ho,h.flat hy,h.flat hz,Sem.run_bind,acB E hs hi hj,Result.andThen_ok,Sem.run_pure]⟩
theorem Il {s:ByteArray} {c:UInt8} {k:IntKind} {i:Int} {z:Operand} (ho:o.op = .index t y z) (hy:aE x y = .v (.string s)) (hz:aE x z = .v (.int k i))
  (E:∀w,(underlying t).run P w = .ok .string w) (hi:i=j) (hj:s[j]?=some c):bU P G x o .none (.v (.int .u8 c.toNat)):=fun C a w _ h =>
 ⟨_,.v _,fun w' _=>by
  subst hi;unfold execOp;simp[ho,h.flat hy,h.flat hz,Instr.index,asIntOf,E,hj]⟩
theorem Z9 {len:Nat} {cs:List D} {d:D} {k:IntKind} {i:Int} {z:Operand} (ho:o.op = .index t y z) (hy:aE x y = .agg cs) (hz:aE x z = .v (.int k i))
  (E:∀w,(underlying t).run P w = .ok (.array len e) w) (hs:∀w,(sizeOf e).run P w = .ok sz w) (ha:∀w,(isAgg e).run P w = .ok false w) (hi:i=j) (hj:j<len) (hd:cs[j*sz]?=some d):bU P G x o .none d:=fun C a w _ h=>by
 have hr:=h.eval y;rw[hy] at hr;generalize hg:a.eval y=u at hr;subst hi;cases hr with
 | agg _ vs hl hr =>
  obtain⟨aa,he⟩:=List.getElem?_eq_some_iff.1 hd;refine⟨vs[j*sz]'w4,?_,fun w' _=>?_⟩
  ·rw[←he];exact hr _ aa w4
  unfold execOp;simp[ho,hg,h.flat hz,Instr.index,asIntOf,E,hj,part,ha,hs,getElem?_eq_getElem (show j*sz<vs.length by omega)]
def mS(x:St)(y:Option Operand)(n:Nat)(ajb:Nat):Prop :=
 match y with
 | some y=>∃(k:IntKind) (i:Int),aE x y = .v (.int k i)∧i=n
 | none=>n=ajb
theorem sy{w:World}(h:bH C x a w){y:Option Operand}{E:Nat}(hb:mS x y n E):(∃k,y.map a.eval=some (.int k n))∨(y.map a.eval=none∧n=E):=by
 cases y with
 | none=>exact .inr ⟨rfl,hb⟩
 | some y =>
  obtain⟨k,i,h1,h2⟩:=hb;exact .inl ⟨k,by rw[Option.map_some,h.flat h1,h2]⟩
theorem Ec{k:IntKind}{code:BoundsCode}{w:World}(h:n≤m):(Instr.sliceBound (.int k n) m code).run P w = .ok n w:=by
 unfold Instr.sliceBound;simp[asIntOf,h]
theorem vW{il:Bool}{len l h:Nat}{lo hi:Option Value}{w:World}(eJ:(∃k,lo=some (.int k l))∨(lo=none∧l=0))(eD:(∃k,hi=some (.int k h))∨(hi=none∧h=len))(h1:l≤h)(h2:h≤cap) :
  (Instr.sliceBounds il len cap lo hi none).run P w = .ok (l,h,cap) w:=by
 unfold Instr.sliceBounds;rcases eJ with ⟨k,rfl⟩|⟨rfl,rfl⟩<;>rcases eD with ⟨k',rfl⟩|⟨rfl,rfl⟩<;>simp[Ec,h1,h2]
theorem Ia {len l:Nat} {cs:List D} (ho:o.op = .slice t y lo hi none) (hy:aE x y = .list sz cs len) (eJ:mS x lo l 0) (eD:mS x hi h' len)
  (U:∀w,(underlying t).run P w = .ok (.slice e) w) (hs:∀w,(sizeOf e).run P w = .ok sz w) (h1:l≤h') (h2:h'≤len):bU P G x o .none (.list sz ((cs.drop (l*sz)).take ((h'-l)*sz)) (h'-l)):=fun C a w _ h=>by
 have hr:=h.eval y;rw[hy] at hr;generalize hg:a.eval y=u at hr;have b1:=sy h eJ;have b2:=sy h eD;cases hr with
 | mA _ ad cap =>
  have e1:l=0:=(by omega)
  have e2:h'=0:=(by omega)
  subst e1 e2;refine⟨.slice (if cap=0 then ad else ad.map (·.add (0*sz))) 0 cap,by simpa using cg.mA sz _ _,fun w' _=>?_⟩;unfold execOp;simp[ho,hg,Instr.sliceAt,Instr.slice,U,vW b1 b2 (Nat.le_refl _) (Nat.zero_le _),hs]
 | list _ _ _ b E cap g hl q1 q2 hb hL hc hr =>
  have hlen:((cs.drop (l*sz)).take ((h'-l)*sz)).length=(h'-l)*sz:=by
   rw[length_take,length_drop,hl,←Nat.sub_mul];exact Nat.min_eq_left (Nat.mul_le_mul_right _ w4)
  have O:∀i,i<(h'-l)*sz→l*sz+i<cs.length:=fun i hi=>by
   rw[hl];have:l*sz+(h'-l)*sz≤len*sz:=(by rw[←Nat.add_mul];exact Nat.mul_le_mul_right _ w4)
   omega
  by_cases I:cap=l
  ·have e2:h'=l:=(by omega)
   refine⟨.slice (some ⟨b,E,none⟩) (h'-l) (cap-l),?_,fun w' _=>?_⟩
   ·refine .list sz _ _ b E _ g hlen w4 w4 hb hL (fun i hi=>?_) (fun i hi=>?_)<;>(rw[hlen,e2] at hi;simp at hi)
   have b3:=fun w=>vW (P:=P) (il:=true) (w:=w) b1 b2 h1 (Nat.le_trans h2 q1);unfold execOp;simp only[ho,hg,Instr.sliceAt,Instr.slice,U,Sem.run_bind,Result.andThen_ok,Option.map_none,b3,hs,Sem.run_pure,if_pos I]
  refine⟨.slice (some ⟨b,E+l*sz,none⟩) (h'-l) (cap-l),?_,fun w' _=>?_⟩
  ·refine .list sz _ _ b (E+l*sz) _ (fun i=>g (l*sz+i)) hlen w4 w4 hb hL (fun i hi=>?_) (fun i hi=>?_)
   ·rw[Nat.add_assoc];exact hc _ (O i (by rw[hlen] at hi;exact hi))
   simp only[getElem_take,getElem_drop];exact hr _ _
  have b3:=fun w=>vW (P:=P) (il:=true) (w:=w) b1 b2 h1 (Nat.le_trans h2 q1);unfold execOp;simp only[ho,hg,Instr.sliceAt,Instr.slice,U,Sem.run_bind,Result.andThen_ok,Option.map_none,b3,hs,Sem.run_pure,if_neg I,Option.map_some,Addr.add_mid]
theorem OK {len:Nat} (ho:o.op = .slice t y lo hi none) (hy:aE x y = .v (.slice (some ⟨b,o',none⟩) len cap)) (eJ:mS x lo 0 0) (eD:mS x hi h' len)
  (E:∀w,(underlying t).run P w = .ok (.slice e) w) (hs:∀w,(sizeOf e).run P w = .ok sz w) (h2:h'≤cap):bU P G x o .none (.v (.slice (some ⟨b,o',none⟩) h' cap)):=fun C a w _ h =>
 ⟨_,.v _,fun w' _=>by
  have b1:=sy h eJ;have b2:=sy h eD;unfold execOp;simp[ho,h.flat hy,Instr.sliceAt,Instr.slice,E,vW b1 b2 (Nat.zero_le _) h2,hs,Addr.add_mid]⟩
theorem Zz {s:ByteArray} {l:Nat} (ho:o.op = .slice t y lo hi none) (hy:aE x y = .v (.string s)) (eJ:mS x lo l 0) (eD:mS x hi h' s.size)
  (E:∀w,(underlying t).run P w = .ok .string w) (h1:l≤h') (h2:h'≤s.size):bU P G x o .none (.v (.string (s.extract l h'))):=fun C a w _ h =>
 ⟨_,.v _,fun w' _=>by
  have b1:=sy h eJ;have b2:=sy h eD;unfold execOp;simp[ho,h.flat hy,Instr.sliceAt,Instr.slice,E,vW b1 b2 h1 h2]⟩
theorem aaZ{len:Nat}{cs:List D}(ho:o.op = .call {callee:=.builtin .len,args:=#[y],argTypes:=ts})(ht:ts = #[t])(hy:aE x y = .list sz cs len)(E:∀w,(underlying t).run P w = .ok (.slice e) w):bU P G x o .none (.v (.int .i64 len)):=fun C a w _ h=>by
 have hr:=h.eval y;rw[hy] at hr;generalize hg:a.eval y=u at hr;subst ht;refine⟨_,.v _,fun w' _=>?_⟩;cases hr<;>(unfold execOp;simp[ho,hg,resolve,invoke,builtin,Builtin.len_,E,goInt])
theorem O2{len:Nat}(ho:o.op = .call {callee:=.builtin .len,args:=#[y],argTypes:=ts})(ht:ts = #[t])(hy:aE x y = .v (.slice ad len cap))(E:∀w,(underlying t).run P w = .ok (.slice e) w):bU P G x o .none (.v (.int .i64 len)):=fun C a w _ h=>by
 subst ht;refine⟨_,.v _,fun w' _=>?_⟩;unfold execOp;simp[ho,h.flat hy,resolve,invoke,builtin,Builtin.len_,E,goInt]
theorem Ed {s:ByteArray} (ho:o.op = .call {callee:=.builtin .len,args:=#[y],argTypes:=ts}) (ht:ts = #[t]) (hy:aE x y = .v (.string s))
  (E:∀w,(underlying t).run P w = .ok .string w):bU P G x o .none (.v (.int .i64 s.size)):=fun C a w _ h=>by
 subst ht;refine⟨_,.v _,fun w' _=>?_⟩;unfold execOp;simp[ho,h.flat hy,resolve,invoke,builtin,Builtin.len_,E,goInt]
theorem OL {b:Builtin} {u' r:Value} {z:Operand} (ho:o.op = .call {callee:=.builtin b,args:=#[y,z],argTypes:=ts}) (hy:aE x y = .v u) (hz:aE x z = .v u')
  (hb:∀cs w,(Go.builtin b ts o.type cs #[u,u']).run P w = .ok (.value r) w):bU P G x o .none (.v r):=fun C a w _ h =>
 ⟨_,.v _,fun w' _=>by
  unfold execOp;simp[ho,h.flat hy,h.flat hz,resolve,invoke,hb]⟩
theorem aaa{fn:Fn}{E:Array Operand}(ho:o.op = .makeFunc fn #[] E)(hd:E.toList.map (aE x)=ds):bU P G x o .none (.eA fn ds):=fun C a w _ h=>by
 subst hd;refine⟨.func fn #[] (E.toList.map a.eval).toArray,.eA _ _ _ bq (fun i q1 q2=>?_),fun w' _=>?_⟩
 ·simp only[getElem_map];exact h.eval _
 unfold execOp;simp[ho,Instr.makeFunc];rw[←Array.toList_map,Array.toArray_toList]
def mc(W:List Nat)(w w':World):Prop:=w.heap.size≤w'.heap.size∧∀b,b<w.heap.size→b∉W→w'.heap[b]?=w.heap[b]?
def fM(P:Program)(G:List (Nat×List Value))(x:St)(o:Oper)(W:List Nat)(post:St→Prop):Prop :=
 ∀(C:dx) (a:Act) (w:World) (K:Act→World→Prop) (Q:Exit→Act→World→Prop),C.G=G→bH C x a w→(∀y a' w',post y→bH C y a' w'→mc W w w'→Fr w (av x.S) w' (av y.S)→K a' w')→o.wp P a w K Q
theorem mc.refl(W:List Nat)(w:World):mc W w w:=⟨Nat.le_refl _,fun _ _ _=>rfl⟩
theorem bU.fU{k:Rd}{d:D}{t:Nat}(h:bU P G x o k d)(hd:o.dst=some t):fM P G x o [] (fun y=>y=x.put t d):=fun C a w K Q hG hs hK=>by
 obtain⟨v,hr,nU⟩:=h C a w hG hs;unfold Oper.wp;rw[nU w (Same.self C x w k),Oper.upon_value,hd];exact hK _ _ _ rfl (hs.put hr) (mc.refl _ _) (Fr.refl _ _)
def cellsOf:D→List D
 | .agg cs=>cs
 | .v (.agg cs)=>cs.toList.map .v
 | d=>[d]
def cD(w:World)(L:Nat→Prop)(ds:List D)(vs:List Value):Prop:=vs.length=ds.length∧∀i (h:i<ds.length) (h':i<vs.length),cg w L ds[i] vs[i]
theorem cD.mono{w w':World}{L E:Nat→Prop}{ds:List D}{vs:List Value}(h:cD w L ds vs)(H:∀b,b<w.heap.size→¬L b→w'.heap[b]?=w.heap[b]?∧¬E b):cD w' E ds vs :=
 ⟨h.1,fun i h1 h2=>(h.2 i h1 h2).mono H⟩
def one:D→Bool
 | .v x=>x.oneCell'
 | .list ..|.fJ ..|.eA ..=>true
 | _=>false
theorem cg.Bn{w:World}{d:D}(h:cg w L d v)(hd:one d=true):v.oneCell'=true:=by
 cases h<;>first|exact hd|rfl|exact absurd hd (by simp[one])
theorem cg.cells{w:World}{L:Nat→Prop}{d:D}{v:Value}(h:cg w L d v)(hd:d≠.bV):cD w L (cellsOf d) v.cells.toList:=by
 have E:∀(d:D) (v:Value),v.cells = #[v]→cellsOf d=[d]→cg w L d v→cD w L (cellsOf d) v.cells.toList:=fun d v h1 h2 h3=>by
  rw[h1,h2];refine⟨rfl,fun i q1 q2=>?_⟩;have:i=0:=(by simpa using q1)
  subst this;exact h3
 cases h with
 | v =>
  cases v with
  | agg cs =>
   refine⟨by simp[cellsOf,Value.cells],fun i q1 q2=>?_⟩;simp only[cellsOf,getElem_map,Value.cells];exact .v _
  | _=>exact E _ _ rfl rfl (.v _)
 | mA sz ad cap=>exact E _ _ rfl rfl (.mA sz ad cap)
 | list sz cs len b o cap f hl h1 h2 hb hL hc hr=>exact E _ _ rfl rfl (.list sz cs len b o cap f hl h1 h2 hb hL hc hr)
 | fJ cs off b o f hb hL hc hr=>exact E _ _ rfl rfl (.fJ cs off b o f hb hL hc hr)
 | agg cs vs hl hr=>exact⟨by simp[cellsOf,Value.cells,hl],fun i q1 q2=>hr i q1 q2⟩
 | dh cs vs hl hr=>exact E _ _ rfl rfl (.dh cs vs hl hr)
 | eA fn cs vs hl hr=>exact E _ _ rfl rfl (.eA fn cs vs hl hr)
 | kr l os h=>exact E _ _ rfl rfl (.kr l os h)
 | bV=>exact absurd rfl hd
theorem getElem?_push_lt{w:World}{ob:Obj}(h:b<w.heap.size):(w.alloc ob).heap[b]?=w.heap[b]?:=Below.heap_alloc w ob b h
theorem bH.Vd {w:World} (h:bH C x a w) {t:Nat} {cells:Array Value} {size:Nat} (hr:cD w (live C.X x.S) ds cells.toList) (O:cells.size=size) {d:D}
  (hd:∀L,cg (w.alloc (ob e cells)) L d v) :
  bH C ⟨x.n,(t,d)::x.env,⟨w.heap.size,e,size,ds⟩::x.S⟩ (a.put (some t) v) (w.alloc (ob e cells)):=by
 have aa:∀b,live C.X x.S b→b<w.heap.size:=fun b hb=>by
  rcases hb with hb|hb
  ·exact Nat.lt_of_lt_of_le (h.ex b hb).1 h.fr.size
  obtain⟨B,I,rfl⟩:=mem_map.1 hb;exact(h.own.at_ B I).1
 have H:∀b,b<w.heap.size→¬live C.X x.S b→(w.alloc (ob e cells)).heap[b]?=w.heap[b]?∧¬live C.X (⟨w.heap.size,e,size,ds⟩::x.S) b:=fun b hb hn =>
  ⟨getElem?_push_lt hb,fun hl=>by
   rcases hl with hl|hl
   ·exact hn (.inl hl)
   simp only[av,map_cons,mem_cons] at hl;rcases hl with hl|hl
   ·omega
   exact hn (.inr hl)⟩
 have base:bH C ⟨x.n,x.env,⟨w.heap.size,e,size,ds⟩::x.S⟩ a (w.alloc (ob e cells)):=by
  refine⟨h.defers,h.size,fun t ht=>(h.env t ht).mono H,⟨fun B I=>?_,?_⟩,?_,h.ex,h.eK⟩
  ·rcases mem_cons.1 I with rfl|I
   ·refine⟨by simp,cells,heap_alloc_new w _,O,?_,fun i hi=>?_⟩
    ·have:=hr.1;simp at this;simp only;omega
    have E:i<cells.toList.length:=(by rw[hr.1];exact hi)
    refine⟨cells.toList[i],?_,(hr.2 i hi E).mono H⟩;simp at E;simp[E]
   obtain⟨h0,cur,h1,h2,h3,h4⟩:=h.own.at_ B I;refine⟨by simp;omega,cur,(getElem?_push_lt h0).trans h1,h2,h3,fun i hi=>?_⟩;obtain⟨u,hu,hq⟩:=h4 i hi;exact⟨u,hu,hq.mono H⟩
  ·show(w.heap.size::av x.S).Nodup;exact nodup_cons.2 ⟨fun hm=>Nat.lt_irrefl _ (aa _ (.inr hm)),h.own.apart⟩
  refine⟨h.fr.os,h.fr.tape,h.fr.output,by simp;have:=h.fr.size;omega,fun b hb hn=>?_⟩;obtain⟨q1,q2⟩:=h.fr.block b hb hn;have U:=Nat.lt_of_lt_of_le hb h.fr.size;refine⟨(getElem?_push_lt U).trans q1,fun hm=>?_⟩;simp only[av,map_cons,mem_cons] at hm;rcases hm with hm|hm
  ·omega
  exact q2 hm
 exact base.put (hd _)
theorem bH.new {w:World} (h:bH C x a w) {t:Nat} {cells:Array Value} {size:Nat} (hr:cD w (live C.X x.S) ds cells.toList) (E:cells.size=size) {d:D}
  (hd:∀L,cg (w.alloc (.cells cells e)) L d v) (hne:isMap e=false:=by rfl) :
  bH C ⟨x.n,(t,d)::x.env,⟨w.heap.size,e,size,ds⟩::x.S⟩ (a.put (some t) v) (w.alloc (.cells cells e)):=by
 have:=bH.Vd h (e:=e) hr E (t:=t) (d:=d) (v:=v) (fun L=>by rw[kx hne];exact hd L);rw[kx hne] at this;exact this
theorem mc.alloc(w:World)(ob:Obj):mc [] w (w.alloc ob):=⟨by simp,fun b hb _=>getElem?_push_lt hb⟩
theorem Fr.alloc(w:World)(ob:Obj)(S:List Nat):Fr w S (w.alloc ob) (w.heap.size::S) :=
 ⟨rfl,rfl,rfl,by simp,fun b hb hn=>⟨getElem?_push_lt hb,fun hm=>by
  rcases mem_cons.1 hm with hm|hm
  ·omega
  exact hn hm⟩⟩
def wI(x:St)(t:Nat)(e:TypeId)(ds:List D)(y:St):Prop:=∃b,y=⟨x.n,(t,.v (.pointer (some ⟨b,0,none⟩)))::x.env,⟨b,e,ds.length,ds⟩::x.S⟩
theorem Em{z:Value}{t:Nat}(ho:o.op = .alloc e)(hd:o.dst=some t)(hz:∀w,(zeroValue e).run P w = .ok z w)(jQ:z.cells.toList.map .v=ds)(hne:isMap e=false:=by rfl):fM P G x o [] (wI x t e ds):=fun C a w K Q hG h hK=>by
 subst jQ;unfold Oper.wp;have:(execOp a.eval o).run P w = .ok (.value (.pointer (some ⟨w.heap.size,0,none⟩))) (w.alloc (.cells z.cells e)):=by
  unfold execOp;simp[ho,Instr.alloc,hz,newVar,newRow]
 rw[this,Oper.upon_value,hd];refine hK _ _ _ ⟨w.heap.size,rfl⟩ (h.new (ds:=z.cells.toList.map .v) ⟨by simp,fun i q1 q2=>?_⟩ bq (fun L=>.v _) hne) (mc.alloc _ _) (Fr.alloc _ _ _);simp only[getElem_map];exact .v _
theorem aeA{t:Nat}{d:D}(ho:o.op = .box e y)(hd:o.dst=some t)(hy:aE x y=d)(hj:d≠.bV)(jQ:cellsOf d=ds)(hne:isMap e=false:=by rfl):fM P G x o [] (wI x t e ds):=fun C a w K Q hG h hK=>by
 subst jQ;unfold Oper.wp;have:(execOp a.eval o).run P w = .ok (.value (.pointer (some ⟨w.heap.size,0,none⟩))) (w.alloc (.cells (a.eval y).cells e)):=by
  unfold execOp;simp[ho,Instr.box,newVar,newRow]
 rw[this,Oper.upon_value,hd];have hr:=h.eval y;rw[hy] at hr;have hc:=hr.cells hj;refine hK _ _ _ ⟨w.heap.size,rfl⟩ (h.new (ds:=cellsOf d) hc (by have:=hc.1;simpa using this) (fun L=>.v _) hne) (mc.alloc _ _) (Fr.alloc _ _ _)

def c8(cs:List D)(off:Nat):List D→List D
 | []=>cs
 | d::r=>c8 (cs.set off d) (off+1) r
def mv(place:Nat→Option (Nat×Nat))(cells:List D):List (Nat×D)→Option (List D)
 | []=>some cells
 | (i,d)::rest =>
  match place i with
  | none=>none
  | some (off,size)=>if (cellsOf d).length≠size||off+(cellsOf d).length>cells.length then none else mv place (c8 cells off (cellsOf d)) rest
theorem cD.set{w:World}{L:Nat→Prop}{ds:List D}{vs:List Value}(h:cD w L ds vs)(i:Nat){d:D}{v:Value}(hd:cg w L d v):cD w L (ds.set i d) (vs.set i v) :=
 ⟨by simp[h.1],fun j h1 h2=>by
  rw[getElem_set,getElem_set];split
  ·exact hd
  exact h.2 j _ _⟩
theorem cD.tail{w:World}{d:D}{vs:List Value}(h:cD w L (d::ds) (v::vs)):cg w L d v∧cD w L ds vs :=
 ⟨h.2 0 bq bq,by simpa using h.1,fun i h1 h2=>h.2 (i+1) (by simpa using h1) (by simpa using h2)⟩
theorem Iz{β:Type}(f:β→Value→Nat→β):∀(r:List Value) (k:Nat) (z:β),(r.zipIdx (k+1)).foldl (fun c (x:Value×Nat)=>f c x.1 x.2) z=(r.zipIdx k).foldl (fun c (x:Value×Nat)=>f c x.1 (x.2+1)) z
 | [],_,_=>rfl
 | v::r,k,z=>by
  simp only[zipIdx_cons,foldl_cons];exact Iz f r (k+1) _
theorem cD.c8{w:World}{L:Nat→Prop}:∀(ds:List D) (vs:List Value) (cs:List D) (cells:List Value) (off:Nat),cD w L ds vs→cD w L cs cells→cD w L (c8 cs off ds) (vs.zipIdx.foldl (fun cs (c,j)=>cs.set (off+j) c) cells)
 | [],[],cs,cells,off,_,h=>h
 | [],_::_,_,_,_,h,_=>by simp[cD] at h
 | _::_,[],_,_,_,h,_=>by simp[cD] at h
 | d::ds,v::vs,cs,cells,off,h,hc=>by
  obtain⟨h0,h1⟩:=h.tail;have E:=cD.c8 ds vs (cs.set off d) (cells.set off v) (off+1) h1 (hc.set off h0);have e:(v::vs).zipIdx.foldl (fun cs (x:Value×Nat)=>cs.set (off+x.2) x.1) cells=vs.zipIdx.foldl (fun cs (x:Value×Nat)=>cs.set (off+1+x.2) x.1) (cells.set off v):=by
   rw[zipIdx_cons,foldl_cons,Nat.add_zero,Iz (fun (c:List Value) v n=>c.set (off+n) v)];congr 1;funext a b;rw[Nat.add_assoc,Nat.add_comm 1]
  rw[e];exact E
theorem En:∀(l:List (Value×Nat)) (cells:Array Value) (off:Nat),(l.foldl (fun cs (x:Value×Nat)=>cs.setIfInBounds (off+x.2) x.1) cells).toList=l.foldl (fun cs (x:Value×Nat)=>cs.set (off+x.2) x.1) cells.toList
 | [],_,_=>rfl
 | (v,j)::l,cells,off=>by
  simp only[foldl_cons];rw[En l];simp
theorem EJ{w:World}{L:Nat→Prop}(place:Nat→Option (Nat×Nat)):∀(E:List (Nat×D)) (sL:List (Nat×Value)) (cs:List D) (cells:Array Value) (ds:List D),
  E.length=sL.length→(∀i (h:i<E.length) (h':i<sL.length),E[i].1=sL[i].1∧E[i].2≠.bV∧cg w L E[i].2 sL[i].2)→cD w L cs cells.toList→mv place cs E=some ds →
  ∃I,Instr.fill place cells sL=some I∧cD w L ds I.toList
 | [],[],cs,cells,ds,_,_,hc,hf=>by
  simp only[mv,Option.some.injEq] at hf;subst hf;exact⟨cells,rfl,hc⟩
 | [],_::_,_,_,_,h,_,_,_=>by simp at h
 | _::_,[],_,_,_,h,_,_,_=>by simp at h
 | (i,d)::E,(j,v)::sL,cs,cells,ds,hl,hp,hc,hf=>by
  obtain⟨h1,h2,h3⟩:=hp 0 bq bq;simp only[getElem_cons_zero] at h1 h2 h3;subst h1;have O:=h3.cells h2;have U:v.cells.size=(cellsOf d).length:=(by have:=O.1;simpa using this)
  have Z:cells.size=cs.length:=(by have:=hc.1;simpa using this)
  unfold mv at hf;unfold Instr.fill;cases fE:place i with
  | none=>rw[fE] at hf;simp at hf
  | some os =>
   obtain⟨off,size⟩:=os;simp only[fE] at hf ⊢;rw[U,Z];split at hf
   ·cases hf
   rename_i hn;rw[if_neg hn];refine EJ place E sL _ _ ds vJ (fun i h h'=>hp (i+1) px (by simpa using h')) ?_ hf;have:=cD.c8 (w:=w) (L:=L) (cellsOf d) v.cells.toList cs cells.toList off O hc;rw[←En] at this;have e:v.cells.zipIdx.foldl (fun cs (x:Value×Nat)=>cs.setIfInBounds (off+x.2) x.1) cells=v.cells.toList.zipIdx.foldl (fun cs (x:Value×Nat)=>cs.setIfInBounds (off+x.2) x.1) cells:=by
    rw[←Array.foldl_toList,Array.toList_zipIdx]
   rw[e];exact this
theorem cD.sL(w:World)(L:Nat→Prop)(vs:List Value):cD w L (vs.map .v) vs:=⟨by simp,fun i h1 h2=>by simp only[getElem_map];exact .v _⟩
def lO(x:St)(ps:Array (Nat×Operand)):List (Nat×D):=ps.toList.map fun p=>(p.1,aE x p.2)
theorem IA{w:World}(h:bH C x a w)(ps:Array (Nat×Operand))(hj:∀p∈lO x ps,p.2≠.bV):(lO x ps).length=((ps.map fun p=>(p.1,a.eval p.2)).toList).length ∧
  ∀i (h1:i<(lO x ps).length) (h2:i<((ps.map fun p=>(p.1,a.eval p.2)).toList).length),(lO x ps)[i].1=((ps.map fun p=>(p.1,a.eval p.2)).toList)[i].1∧(lO x ps)[i].2≠.bV∧cg w (live C.X x.S) (lO x ps)[i].2 ((ps.map fun p=>(p.1,a.eval p.2)).toList)[i].2:=by
 refine⟨by simp[lO],fun i h1 h2=>⟨?_,hj _ (getElem_mem h1),?_⟩⟩
 ·simp[lO]
 simp only[lO,getElem_map,Array.toList_map];exact h.eval _
theorem ZM {E:Array Field} {places:Array (Nat×Nat)} {z:Value} (ho:o.op = .build t ps) (hz:∀w,(zeroValue t).run P w = .ok z w)
  (I:∀w,(underlying t).run P w = .ok (.struct E) w) (hp:∀w,(E.mapM fun f=>do pure (f.offset,←sizeOf f.type):Sem (Array (Nat×Nat))).run P w = .ok places w)
  (hj:∀p∈lO x ps,p.2≠.bV) (hd:mv (places[·]?) (z.cells.toList.map .v) (lO x ps)=some ds):bU P G x o .none (.agg ds):=fun C a w _ h=>by
 obtain⟨q1,q2⟩:=IA h ps hj;obtain⟨BE,h1,h2⟩:=EJ (w:=w) (L:=live C.X x.S) (places[·]?) (lO x ps) ((ps.map fun p=>(p.1,a.eval p.2)).toList) _ z.cells ds q1 q2 (cD.sL _ _ _) hd;refine⟨.agg BE.toList.toArray,.agg _ _ h2.1 h2.2,fun w' _=>?_⟩;unfold execOp;simp only[ho,Instr.build,hz,I,hp,Sem.run_bind,Result.andThen_ok,h1,Sem.run_pure,Array.toArray_toList]
theorem ZA {z:Value} (ho:o.op = .build t ps) (hz:∀w,(zeroValue t).run P w = .ok z w)
  (E:∀w,(underlying t).run P w = .ok (.array n e) w) (hs:∀w,(sizeOf e).run P w = .ok sz w)
  (hj:∀p∈lO x ps,p.2≠.bV) (hd:mv (fun i=>some (i*sz,sz)) (z.cells.toList.map .v) (lO x ps)=some ds):bU P G x o .none (.agg ds):=fun C a w _ h=>by
 obtain⟨q1,q2⟩:=IA h ps hj;obtain⟨BE,h1,h2⟩:=EJ (w:=w) (L:=live C.X x.S) (fun i=>some (i*sz,sz)) (lO x ps) ((ps.map fun p=>(p.1,a.eval p.2)).toList) _ z.cells ds q1 q2 (cD.sL _ _ _) hd;refine⟨.agg BE.toList.toArray,.agg _ _ h2.1 h2.2,fun w' _=>?_⟩;unfold execOp;simp only[ho,Instr.build,hz,E,hs,Sem.run_bind,Result.andThen_ok,h1,Sem.run_pure,Array.toArray_toList]
def aeB(x:St)(t:Nat)(e:TypeId)(len:Nat)(ds:List D)(y:St):Prop:=∃b,y=⟨x.n,(t,.v (.slice (some ⟨b,0,none⟩) len len))::x.env,⟨b,e,ds.length,ds⟩::x.S⟩
theorem H7 {len:Nat} {z:Value} {zs:List D} (ho:o.op = .buildSlice t len ps) (jG:o.dst=some tt) (hz:∀w,(zeroValue e).run P w = .ok z w)
  (I:∀w,(underlying t).run P w = .ok (.slice e) w) (hs:∀w,(sizeOf e).run P w = .ok sz w) (hl:0<len*sz) (ir:len*sz≤2 ^ 24) (eX:(Array.range (len*sz)).map (fun i=>z.cells[i % z.cells.size]!)=(zs.map (fun d=>match d with|.v u=>u|_=>undef)).toArray) (O:∀d∈zs,∃u,d = .v u)
  (hj:∀p∈lO x ps,p.2≠.bV) (hd:mv (fun i=>some (i*sz,sz)) zs (lO x ps)=some ds) (hne:isMap e=false:=by rfl):fM P G x o [] (aeB x tt e len ds):=fun C a w K Q hG h hK=>by
 obtain⟨q1,q2⟩:=IA h ps hj;have U:cD w (live C.X x.S) zs ((zs.map (fun d=>match d with|.v u=>u|_=>undef)).toArray).toList:=by
  refine⟨by simp,fun i h1 h2=>?_⟩;obtain⟨u,I⟩:=O _ (getElem_mem h1);simp only[getElem_map,I];exact .v _
 obtain⟨BE,h1,h2⟩:=EJ (w:=w) (L:=live C.X x.S) (fun i=>some (i*sz,sz)) (lO x ps) ((ps.map fun p=>(p.1,a.eval p.2)).toList) _ _ ds q1 q2 U hd;unfold Oper.wp;have:(execOp a.eval o).run P w = .ok (.value (.slice (some ⟨w.heap.size,0,none⟩) len len)) (w.alloc (.cells BE e)):=by
  unfold execOp;have E:¬len*sz=0:=(by omega)
  have Z:¬len*sz>2 ^ 24:=(by omega)
  simp only[ho,Instr.buildSlice,hz,I,hs,Sem.run_bind,Result.andThen_ok,Sem.run_pure,if_neg E,if_neg Z,eX,h1];simp[newRow]
 rw[this,Oper.upon_value,jG];exact hK _ _ _ ⟨w.heap.size,rfl⟩ (h.new (ds:=ds) h2 (by have:=h2.1;simpa using this) (fun L=>.v _) hne) (mc.alloc _ _) (Fr.alloc _ _ _)
theorem OE(b:Nat):∀(vs:List Value) (o':Nat) (w:World) (cur:Array Value) (e:TypeId),w.heap[b]?=some (.cells cur e (0,0))→o'+vs.length≤cur.size →
  (w.setCells b o' vs).heap[b]?=some (.cells (vs.zipIdx.foldl (fun cs (x:Value×Nat)=>cs.setIfInBounds (o'+x.2) x.1) cur) e (0,0))∧(∀k,k≠b→(w.setCells b o' vs).heap[k]?=w.heap[k]?)∧(w.setCells b o' vs).heap.size=w.heap.size ∧
  (w.setCells b o' vs).os=w.os∧(w.setCells b o' vs).tape=w.tape∧(w.setCells b o' vs).output=w.output
 | [],o',w,cur,e,h,_=>⟨h,fun _ _=>rfl,rfl,rfl,rfl,rfl⟩
 | v::r,o',w,cur,e,h,hl=>by
  have h0:(w.setCell ⟨b,o',none⟩ v).heap[b]?=some (.cells (cur.setIfInBounds o' v) e (0,0)):=by
   simp[World.setCell,Array.getElem?_modify,h]
  obtain⟨i1,i2,i3,i4,i5,i6⟩:=OE b r (o'+1) (w.setCell ⟨b,o',none⟩ v) (cur.setIfInBounds o' v) e h0 (by simp at hl ⊢;omega);refine⟨?_,fun k hk=>?_,?_,i4,i5,i6⟩
  ·rw[World.setCells,i1,zipIdx_cons,foldl_cons,Nat.add_zero,Iz (fun (c:Array Value) v n=>c.setIfInBounds (o'+n) v)];congr 3;funext a b;rw[Nat.add_assoc,Nat.add_comm 1]
  ·rw[World.setCells,i2 k hk,Below.heap_setCell _ _ _ _ hk]
  rw[World.setCells,i3];simp
theorem yF:∀(ds cs:List D) (off:Nat),(c8 cs off ds).length=cs.length
 | [],cs,off=>rfl
 | d::ds,cs,off=>by rw[c8,yF ds];simp
theorem bH.store{w:World}(h:bH C x a w){vs:List Value}(hk:x.S[k]?=some B)(hr:cD w (live C.X x.S) ds vs)(hl:o'+ds.length≤B.cs.length)(hne:isMap B.e=false:=by rfl) :
  bH C ⟨x.n,x.env,x.S.set k {B with cs:=c8 B.cs o' ds}⟩ a (w.setCells B.b o' vs)∧mc [B.b] w (w.setCells B.b o' vs)∧Fr w (av x.S) (w.setCells B.b o' vs) (av (x.S.set k {B with cs:=c8 B.cs o' ds})):=by
 obtain⟨h0,cur,h1,h2,h3,h4⟩:=h.fG hk;rw[kx hne] at h1;have qm:vs.length=ds.length:=hr.1;obtain⟨i1,i2,i3,i4,i5,i6⟩:=OE B.b vs o' w cur B.e h1 w4;have dU:k<x.S.length:=(List.getElem?_eq_some_iff.1 hk).1;have vN:x.S[k]=B:=(List.getElem?_eq_some_iff.1 hk).2;have E:av (x.S.set k {B with cs:=c8 B.cs o' ds})=av x.S:=by
  unfold av;rw[map_set];apply ext_getElem bq;intro i q1 q2;rw[getElem_set];split
  ·rename_i e;subst e;simp[vN]
  rfl
 have I:live C.X (x.S.set k {B with cs:=c8 B.cs o' ds})=live C.X x.S:=(by funext b;simp only[live,E])
 have hB:live C.X x.S B.b:=QG hk;have H:∀b,b<w.heap.size→¬live C.X x.S b→(w.setCells B.b o' vs).heap[b]?=w.heap[b]?∧¬live C.X x.S b:=fun b _ hn=>⟨i2 b (fun e=>hn (e ▸ hB)),hn⟩
 refine⟨⟨h.defers,h.size,fun t ht=>?_,⟨fun B' M8=>?_,?_⟩,?_,h.ex,h.eK⟩,⟨by rw[i3];exact Nat.le_refl _,fun b _ hn=>i2 b (by simpa using hn)⟩,?_⟩
 ·simp only[I];exact(h.env t ht).mono H
 ·simp only[I];obtain⟨j,hj,O⟩:=mem_iff_getElem.1 M8;rw[length_set] at hj;rw[getElem_set] at O;by_cases e:k=j
  ·rw[if_pos e] at O;subst O;refine⟨by rw[i3];exact h0,_,i1.trans (by rw[kx hne]),?_,by simp only[yF];exact h3,fun i hi=>?_⟩
   ·have:=En vs.zipIdx cur o';have hlen:=congrArg length this;have ajc:∀(l:List (Value×Nat)) (c:List Value),(l.foldl (fun cs (x:Value×Nat)=>cs.set (o'+x.2) x.1) c).length=c.length:=by
     intro l;induction l with
     | nil=>intro c;rfl
     | cons p l ih=>intro c;rw[foldl_cons,ih];simp
    rw[ajc] at hlen;simp only[Array.length_toList] at hlen;rw[hlen,h2]
   have de:cD w (live C.X x.S) B.cs (cur.toList.take B.cs.length):=by
    refine⟨by simp;omega,fun i q1 q2=>?_⟩;obtain⟨u,hu,hq⟩:=h4 i q1;have:(cur.toList.take B.cs.length)[i]=u:=by
     rw[getElem_take];rw[←Array.getElem?_toList,List.getElem?_eq_some_iff] at hu;exact hu.2
    rw[this];exact hq
   have U:=cD.c8 ds vs B.cs (cur.toList.take B.cs.length) o' hr de;have Ve:∀(l:List (Value×Nat)) (c:List Value),(∀p∈l,o'+p.2<B.cs.length)→l.foldl (fun cs (x:Value×Nat)=>cs.set (o'+x.2) x.1) (c.take B.cs.length)=(l.foldl (fun cs (x:Value×Nat)=>cs.set (o'+x.2) x.1) c).take B.cs.length:=by
    intro l;induction l with
    | nil=>intro c _;rfl
    | cons p l ih =>
     intro c hp;rw[foldl_cons,foldl_cons,←ih _ (fun q hq=>hp q (mem_cons_of_mem _ hq)),take_set]
   rw[Ve vs.zipIdx cur.toList (fun p hp=>by have:=mem_zipIdx hp;omega),←En] at U;simp only at hi;have Hl:=hi;rw[←U.1] at Hl;have hq:=U.2 i hi Hl;rw[getElem_take] at hq;refine⟨_,?_,hq.mono H⟩;rw[←Array.getElem?_toList,getElem?_eq_getElem]
  rw[if_neg e] at O;subst O;have hne:x.S[j].b≠B.b:=fun he=>by
   have hn:=h.own.apart;have CY:(av x.S)[j]'Ai=(av x.S)[k]'Ag:=(by simp[av,he,vN])
   have hp:=pairwise_iff_getElem.1 hn;rcases Nat.lt_trichotomy j k with Z|Z|Z
   ·exact hp j k Ai Ag Z CY
   ·exact e Z.symm
   exact hp k j Ag Ai Z CY.symm
  obtain⟨r0,lZ,r1,r2,r3,r4⟩:=h.own.at_ x.S[j] (getElem_mem hj);refine⟨by rw[i3];exact r0,lZ,(i2 _ hne).trans r1,r2,r3,fun i hi=>?_⟩;obtain⟨u,hu,hq⟩:=r4 i hi;exact⟨u,hu,hq.mono H⟩
 ·simp only[E];exact h.own.apart
 ·refine⟨i4.trans h.fr.os,i5.trans h.fr.tape,i6.trans h.fr.output,by rw[i3];exact h.fr.size,fun b hb hn=>?_⟩;obtain⟨q1,q2⟩:=h.fr.block b hb hn;refine⟨(i2 b (fun e=>q2 (e ▸ mem_map.2 ⟨B,mem_of_getElem? hk,rfl⟩))).trans q1,?_⟩;simp only[E];exact q2
 rw[E];exact⟨i4,i5,i6,by rw[i3];exact Nat.le_refl _,fun b hb hn=>⟨i2 b (fun e=>hn (e ▸ mem_map.2 ⟨B,mem_of_getElem? hk,rfl⟩)),hn⟩⟩
theorem Eo {d:D} {z:Operand} (ho:o.op = .store t y z) (jG:o.dst=none) (hy:aE x y = .v (.pointer (some ⟨b,o',none⟩)))
  (hk:x.S[k]?=some B) (hb:B.b=b) (hz:aE x z=d) (hj:d≠.bV) (h1:(cellsOf d).all one=true) (hn:∀w,(sizeOf t).run P w = .ok n w) (gp:(cellsOf d).length=n) (hl:o'+n≤B.cs.length) (de:c8 B.cs o' (cellsOf d)=cs') (hne:isMap B.e=false:=by rfl) :
  fM P G x o [b] (fun y=>y=⟨x.n,x.env,x.S.set k {B with cs:=cs'}⟩):=fun C a w K Q hG h hK=>by
 subst de hb;have hr:=h.eval z;rw[hz] at hr;have hc:=hr.cells hj;obtain⟨s1,s2,s3⟩:=h.store hk hc (o':=o') w4 hne;obtain⟨h0,cur,q1,q2,q3,q4⟩:=h.fG hk;rw[kx hne] at q1;have U:(a.eval z).cells.toList.length=n:=(by rw[hc.1,gp])
 have E:=run_storeCells_cells (P:=P) B.b o' (a.eval z).cells.toList 0 w (fun j hj=>by
   have:(o'+0+j)<cur.size:=(by omega)
   rw[og q1 (u:=cur[o'+0+j]) (by simp[this])];rfl)
  (fun j hj=>by unfold World.frozen?;simp[q1]) (fun v hv=>by
   obtain⟨j,hj,rfl⟩:=mem_iff_getElem.1 hv;have O:j<(cellsOf d).length:=(by rw[←hc.1];exact hj)
   exact(hc.2 j O hj).Bn (all_eq_true.1 h1 _ (getElem_mem O)))
 have I:(execOp a.eval o).run P w = .ok .skip (w.setCells B.b o' (a.eval z).cells.toList):=by
  unfold execOp;have Z:(a.eval z).cells.size=n:=(by simpa using U)
  simp only[Nat.add_zero] at E;simp[ho,h.flat hy,Instr.storeAt,Instr.sureAddr,storeVar,hn,Z,E]
 unfold Oper.wp;rw[I,Oper.upon_skip,jG];exact hK _ _ _ rfl s1 s2 s3

structure CZ (G:List (Nat×List Value)) (X:Nat→Prop) (w:World) (S:List ah) (args:List D) (vs:List Value):Prop where
 ex:∀b,X b→b<w.heap.size∧b∉av S
 eK:∀g∈G,(g.1<w.heap.size∧g.1∉av S∧¬X g.1)∧∀i v,g.2[i]?=some v→oh w g.1 i v
 own:Own w (live X S) S
 args:cD w (live X S) args vs
def VC(P:Program)(G:List (Nat×List Value))(f:FuncId)(args:List D)(S:List ah)(post:D→List ah→Prop):Prop :=
 ∀(X:Nat→Prop) (w:World) (vs:List Value),CZ G X w S args vs→Calls P f vs.toArray w fun e w'=>∃v r S',e = .returned v∧post r S'∧Own w' (live X S') S'∧cg w' (live X S') r v∧Fr w (av S) w' (av S')
theorem VC.mono{f:FuncId}{args:List D}{S:List ah}{post E:D→List ah→Prop}(h:VC P G f args S post)(k:∀r S',post r S'→E r S'):VC P G f args S E:=fun X w vs hp =>
 (h X w vs hp).mono fun e w' ⟨v,r,S',h1,h2,h3⟩=>⟨v,r,S',h1,k r S' h2,h3⟩
abbrev VP(P:Program)(G:List (Nat×List Value))(f:FuncId)(args:List D)(r:D):Prop:=VC P G f args [] fun r' S'=>r'=r∧S'=[]
theorem yH(hp:S.Perm (Sf++R)):live X S=live (fun b=>X b∨b∈av R) Sf:=by
 funext b;have:(av S).Perm (av Sf++av R):=(by have:=hp.map ah.b;simpa[av] using this)
 have:=this.mem_iff (a:=b);simp only[live,mem_append] at *;rw[this];exact propext ⟨fun h=>by rcases h with h|h|h<;>simp[h],fun h=>by rcases h with (h|h)|h<;>simp[h]⟩
theorem bH.call{w:World}(h:bH C x a w)(hG:C.G=G){f:FuncId}{args:List D}{vs:List Value}(hc:VC P G f args Sf post)(hp:x.S.Perm (Sf++R))(hr:cD w (live C.X x.S) args vs) :
  Calls P f vs.toArray w fun e w'=>∃v r S',e = .returned v∧post r S'∧cg w' (live C.X (S'++R)) r v∧bH C ⟨x.n,x.env,S'++R⟩ a w'∧mc (av Sf) w w'∧Fr w (av x.S) w' (av (S'++R)):=by
 have hb:(av x.S).Perm (av Sf++av R):=(by have:=hp.map ah.b;simpa[av] using this)
 have hL:=yH (X:=C.X) hp;have hnd:(av Sf++av R).Nodup:=hb.nodup_iff.1 h.own.apart;obtain⟨n1,n2,n3⟩:=nodup_append.1 hnd;have U:∀b,b∈av R→b<w.heap.size:=fun b xY=>by
  obtain⟨B,O,rfl⟩:=mem_map.1 xY;exact(h.own.at_ B (hp.symm.subset (mem_append_right _ O))).1
 have Z:CZ G (fun b=>C.X b∨b∈av R) w Sf args vs:=by
  refine⟨fun b hx=>?_,fun g hg=>?_,⟨fun B O=>?_,n1⟩,?_⟩
  ·rcases hx with hx|hx
   ·obtain⟨q1,q2⟩:=h.ex b hx;exact⟨Nat.lt_of_lt_of_le q1 h.fr.size,fun hm=>(h.fr.block b q1 q2).2 (hb.symm.subset (mem_append_left _ hm))⟩
   exact⟨U b hx,fun hm=>n3 b hm b hx rfl⟩
  ·rw[←hG] at hg;obtain⟨⟨q1,q2,q3⟩,q4⟩:=h.eK g hg;have q5:=(h.fr.block g.1 q1 q2).2;refine⟨⟨Nat.lt_of_lt_of_le q1 h.fr.size,fun hm=>q5 (hb.symm.subset (mem_append_left _ hm)),fun hx=>?_⟩,fun i v hi=>h.aT hg hi⟩;rcases hx with hx|hx
   ·exact q3 hx
   exact q5 (hb.symm.subset (mem_append_right _ hx))
  ·rw[←hL];exact h.own.at_ B (hp.symm.subset (mem_append_left _ O))
  rw[←hL];exact hr
 refine(hc _ w vs Z).mono fun e w' ⟨v,r,S',h1,h2,h3,h4,h5⟩=>⟨v,r,S',h1,h2,?_,?_,⟨h5.size,fun b I hn=>(h5.block b I hn).1⟩,?_⟩
 ·have:live C.X (S'++R)=live (fun b=>C.X b∨b∈av R) S':=yH (Perm.refl _);rw[this];exact h4
 ·have XN:live C.X (S'++R)=live (fun b=>C.X b∨b∈av R) S':=yH (Perm.refl _);have H:∀b,b<w.heap.size→¬live C.X x.S b→w'.heap[b]?=w.heap[b]?∧¬live C.X (S'++R) b:=fun b aa hn=>by
   rw[hL] at hn;have E:b∉av Sf:=fun hm=>hn (.inr hm);obtain⟨q1,q2⟩:=h5.block b aa E;refine⟨q1,fun hl=>?_⟩;rw[XN] at hl;rcases hl with hl|hl
   ·exact hn (.inl hl)
   exact q2 hl
  refine⟨h.defers,h.size,fun t ht=>(h.env t ht).mono H,⟨fun B O=>?_,?_⟩,?_,h.ex,h.eK⟩
  ·rcases mem_append.1 O with O|O
   ·have:=h3.at_ B O;rw[←XN] at this;exact this
   obtain⟨r0,cur,r1,r2,r3,r4⟩:=h.own.at_ B (hp.symm.subset (mem_append_right _ O));have C0:B.b∈av R:=mem_map.2 ⟨B,O,rfl⟩;have E:B.b∉av Sf:=fun hm=>n3 B.b hm B.b C0 rfl;have hh:=(h5.block B.b r0 E).1;refine⟨qz r0 hh,cur,hh.trans r1,r2,r3,fun i hi=>?_⟩;obtain⟨u,hu,hq⟩:=r4 i hi;exact⟨u,hu,hq.mono H⟩
  ·show(av (S'++R)).Nodup;have:av (S'++R)=av S'++av R:=(by simp[av])
   rw[this];refine nodup_append.2 ⟨h3.apart,n2,fun b ji c aY he=>?_⟩;subst he;have E:b∉av Sf:=fun hm=>n3 b hm b aY rfl;exact(h5.block b (U b aY) E).2 ji
  refine⟨h5.os.trans h.fr.os,h5.tape.trans h.fr.tape,h5.output.trans h.fr.output,Nat.le_trans h.fr.size h5.size,fun b I hn=>?_⟩;obtain⟨q1,q2⟩:=h.fr.block b I hn;have gw:b∉av Sf:=fun hm=>q2 (hb.symm.subset (mem_append_left _ hm));have iI:b∉av R:=fun hm=>q2 (hb.symm.subset (mem_append_right _ hm));obtain⟨q3,q4⟩:=h5.block b (Nat.lt_of_lt_of_le I h.fr.size) gw;refine⟨q3.trans q1,fun hm=>?_⟩;have:av (S'++R)=av S'++av R:=(by simp[av])
  rw[this] at hm;rcases mem_append.1 hm with hm|hm
  ·exact q4 hm
  exact iI hm
 refine⟨h5.os,h5.tape,h5.output,h5.size,fun b I hn=>?_⟩;have gw:b∉av Sf:=fun hm=>hn (hb.symm.subset (mem_append_left _ hm));have iI:b∉av R:=fun hm=>hn (hb.symm.subset (mem_append_right _ hm));obtain⟨q3,q4⟩:=h5.block b I gw;refine⟨q3,fun hm=>?_⟩;have:av (S'++R)=av S'++av R:=(by simp[av])
 rw[this] at hm;rcases mem_append.1 hm with hm|hm
 ·exact q4 hm
 exact iI hm
theorem cD.LA{w:World}(h:bH C x a w)(cG:List Operand):cD w (live C.X x.S) (cG.map (aE x)) (cG.map a.eval) :=
 ⟨by simp,fun i h1 h2=>by simp only[getElem_map];exact h.eval _⟩
theorem cD.append{w:World}{E:List D}{vs I:List Value}(h:cD w L ds vs)(h':cD w L E I):cD w L (ds++E) (vs++I) :=
 ⟨by simp[h.1,h'.1],fun i h1 h2=>by
  by_cases hi:i<ds.length
  ·rw[getElem_append_left hi,getElem_append_left (by rw[h.1];exact hi)];exact h.2 i _ _
  rw[getElem_append_right w4,getElem_append_right (by rw[h.1];omega)];have:=h.1;simp only[this];exact h'.2 _ _ _⟩
def called(x:St)(t:Nat)(R:List ah)(post:D→List ah→Prop)(y:St):Prop:=∃r S',post r S'∧y=⟨x.n,(t,r)::x.env,S'++R⟩
theorem Bo {f t:Nat} {args:List D} (ho:o.op = .call {callee:=.value fo,args:=cG,argTypes:=ts}) (hd:o.dst=some t)
  (hf:fo = .func f) (fb:∀args w,(callFunc f args).run P w = .ok (.enter f args) w) (ha:cG.toList.map (aE x)=args) (hp:x.S.Perm (Sf++R)) (hc:VC P G f args Sf post) :
  fM P G x o (av Sf) (called x t R post):=fun C a w K Q hG h hK=>by
 subst hf ha;have hr:=cD.LA h cG.toList;have E:(execOp a.eval o).run P w = .ok (.enter f (cG.toList.map a.eval).toArray) w:=by
  unfold execOp;have e:cG.map a.eval=(cG.toList.map a.eval).toArray:=by
   rw[←Array.toList_map,Array.toArray_toList]
  simp only[ho,resolve,Act.eval,Deferred.ofValue,Sem.run_bind,Sem.run_pure,Result.andThen_ok,invoke,e];simp[fb]
 unfold Oper.wp;rw[E,Oper.upon_enter,hd];refine(h.call hG hc hp hr).mono fun e w' ⟨v,r,S',h1,h2,h3,h4,h5,h6⟩=>?_;subst h1;exact hK _ _ _ ⟨r,S',h2,rfl⟩ (h4.put h3) h5 h6
theorem aa0 {f t:Nat} {args E:List D} (ho:o.op = .call {callee:=.value fo,args:=cG,argTypes:=ts}) (hd:o.dst=some t)
  (hf:aE x fo = .eA (.func f) E) (fb:∀args w,(callFunc f args).run P w = .ok (.enter f args) w) (ha:cG.toList.map (aE x)++E=args) (hp:x.S.Perm (Sf++R)) (hc:VC P G f args Sf post) :
  fM P G x o (av Sf) (called x t R post):=fun C a w K Q hG h hK=>by
 subst ha;have hr:=cD.LA h cG.toList;have fx:=h.eval fo;rw[hf] at fx;generalize hg:a.eval fo=u at fx;cases fx with
 | eA _ _ vs hl WZ =>
  have I:(execOp a.eval o).run P w = .ok (.enter f (cG.toList.map a.eval++vs).toArray) w:=by
   unfold execOp;have e:cG.map a.eval++vs.toArray=(cG.toList.map a.eval++vs).toArray:=by
    rw[←append_toArray,←Array.toList_map,Array.toArray_toList]
   simp only[ho,resolve,hg,Deferred.ofValue,Sem.run_bind,Sem.run_pure,Result.andThen_ok,invoke];simp[fb]
  unfold Oper.wp;rw[I,Oper.upon_enter,hd];refine(h.call hG hc hp (hr.append ⟨hl,WZ⟩)).mono fun e w' ⟨v,r,S',h1,h2,h3,h4,h5,h6⟩=>?_;subst h1;exact hK _ _ _ ⟨r,S',h2,rfl⟩ (h4.put h3) h5 h6
theorem uM(hk:S[k]?=some B):S.Perm (B::S.eraseIdx k):=by
 obtain⟨h1,h2⟩:=List.getElem?_eq_some_iff.1 hk;subst h2;clear hk;induction S generalizing k with
 | nil=>simp at h1
 | cons A S ih =>
  cases k with
  | zero=>exact Perm.refl _
  | succ k =>
   have E:k<S.length:=(by simpa using h1)
   rw[eraseIdx_cons_succ];exact((ih E).cons A).trans (Perm.swap _ _ _)
theorem fa(S:List ah):S.Perm ([]++S):=Perm.refl _
theorem mM(hk:S[k]?=some B):S.Perm ([B]++S.eraseIdx k):=uM hk
theorem I7{k':Nat}{B':ah}(hk:S[k]?=some B)(E:(S.eraseIdx k)[k']?=some B'):S.Perm ([B,B']++(S.eraseIdx k).eraseIdx k'):=(uM hk).trans ((uM E).cons B)
theorem cg.wR{w:World}(h:Own w (live X S) S)(O:∀b,X b→b∉av S)(hk:S[k]?=some B)(hl:B.cs.length=n*sz)(h1:n≤cap)(h2:cap≤maxLen)(hne:isMap B.e=false:=by rfl) :
  cg w (live X (S.eraseIdx k)) (.list sz B.cs n) (.slice (some ⟨B.b,0,none⟩) n cap):=by
 have hm:=mem_of_getElem? hk;obtain⟨r0,cur,r1,r2,r3,I⟩:=h.at_ B hm;rw[kx hne] at r1;have E:(av (S.eraseIdx k)).Sublist (av S):=Sublist.map _ (eraseIdx_sublist S k);have hL:¬live X (S.eraseIdx k) B.b:=fun hl=>by
  rcases hl with hl|hl
  ·exact O _ hl (mem_map.2 ⟨B,hm,rfl⟩)
  have hp:(av S).Perm (B.b::av (S.eraseIdx k)):=(by have:=(uM hk).map ah.b;simpa[av] using this)
  have hnd:=hp.nodup_iff.1 h.apart;exact(nodup_cons.1 hnd).1 hl
 refine .list sz B.cs n B.b 0 cap (fun i=>cur.getD i undef) hl h1 h2 r0 hL (fun i hi=>?_) (fun i hi=>?_)
 ·obtain⟨u,hu,_⟩:=I i hi;rw[Nat.zero_add,og r1 hu];simp[hu]
 obtain⟨u,hu,hq⟩:=I i hi;simp only[Array.getD_eq_getD_getElem?,hu,Option.getD_some];exact hq.mono fun b _ hn=>⟨rfl,fun hl=>hn (hl.imp id fun q=>E.subset q)⟩
theorem bH.Ax{w:World}(h:bH C x a w):∀b,C.X b→b∉av x.S:=fun b hb=>(h.fr.block b (h.ex b hb).1 (h.ex b hb).2).2
theorem Wk.vt{t:Nat}{cs:List D}(hk:S[k]?=some B)(ht:look t l = .v (.slice (some ⟨B.b,0,none⟩) m cap))(de:B.cs=cs)(hl:cs.length=m*sz)(h1:m≤cap)(h2:cap≤maxLen)(hne:isMap B.e=false:=by rfl) :
  Wk ⟨n,l,S⟩ ⟨n,(t,.list sz cs m)::l,S.eraseIdx k⟩:=fun C a w h=>by
 subst de;have hd:=Wk.drop n l S (S.eraseIdx k) (eraseIdx_sublist S k) C a w h;refine⟨hd.defers,hd.size,fun i hi=>?_,hd.own,hd.fr,hd.ex,hd.eK⟩;simp only[fW];by_cases e:t=i
 ·subst e;rw[if_pos rfl];have E:=h.env t hi;simp only[ht] at E;rw[E.kU];exact cg.wR h.own h.Ax hk hl h1 h2 hne
 rw[if_neg e];exact hd.env i hi
theorem Wk.tM{t:Nat}(ht:look t l = .v (.slice none 0 0)):Wk ⟨n,l,S⟩ ⟨n,(t,.list sz [] 0)::l,S⟩:=fun C a w h=>by
 refine⟨h.defers,h.size,fun i hi=>?_,h.own,h.fr,h.ex,h.eK⟩;simp only[fW];by_cases e:t=i
 ·subst e;rw[if_pos rfl];have E:=h.env t hi;simp only[ht] at E;rw[E.kU];exact .nil sz
 rw[if_neg e];exact h.env i hi
theorem Wk.agd {A:ah} {cs:List D} (hk:S[k]?=some B) (hj:(S.eraseIdx k)[j]?=some A) (hi:A.cs[i]?=some (.v (.slice (some ⟨B.b,0,none⟩) m cap))) (de:B.cs=cs) (hl:cs.length=m*sz) (h1:m≤cap) (h2:cap≤maxLen)
  (U:A.cs.set i (.list sz cs m)=cs') (hS:(S.eraseIdx k).set j {A with cs:=cs'}=S') (hne:isMap B.e=false:=by rfl):Wk ⟨n,l,S⟩ ⟨n,l,S'⟩:=fun C a w h=>by
 subst de U hS;have hd:=Wk.drop n l S (S.eraseIdx k) (eraseIdx_sublist S k) C a w h;have Z:=cg.wR h.own h.Ax hk hl h1 h2 hne;have jR:=(List.getElem?_eq_some_iff.1 hj).1;have hjA:=(List.getElem?_eq_some_iff.1 hj).2;have E:av ((S.eraseIdx k).set j {A with cs:=A.cs.set i (.list sz B.cs m)})=av (S.eraseIdx k):=by
  unfold av;rw[map_set];apply ext_getElem bq;intro i q1 q2;rw[getElem_set];split
  ·rename_i e;subst e;simp[hjA]
  rfl
 have I:live C.X ((S.eraseIdx k).set j {A with cs:=A.cs.set i (.list sz B.cs m)})=live C.X (S.eraseIdx k):=(by funext b;simp only[live,E])
 refine⟨hd.defers,hd.size,fun t ht=>?_,⟨fun B' M8=>?_,?_⟩,?_,hd.ex,hd.eK⟩
 ·simp only[I];exact hd.env t ht
 ·simp only[I];obtain⟨p,hp,gW⟩:=mem_iff_getElem.1 M8;rw[length_set] at hp;rw[getElem_set] at gW;by_cases e:j=p
  ·rw[if_pos e] at gW;subst gW;obtain⟨r0,cur,r1,r2,r3,r4⟩:=hd.own.at_ A (mem_of_getElem? hj);refine⟨r0,cur,r1,r2,by simpa using r3,fun q hq=>?_⟩;simp only[length_set] at hq;obtain⟨u,hu,O⟩:=r4 q hq;refine⟨u,hu,?_⟩;rw[getElem_set];split
   ·rename_i he;subst he;have:=(List.getElem?_eq_some_iff.1 hi).2;rw[this] at O;rw[O.kU];exact Z
   exact O
  rw[if_neg e] at gW;subst gW;exact hd.own.at_ _ (getElem_mem hp)
 ·simp only[E];exact hd.own.apart
 simp only[E];exact hd.fr

def SI(x:St)(t:Nat)(e:TypeId)(sz len:Nat)(cs:List D)(S:List ah)(y:St):Prop :=
 ∃b cap,len≤cap∧cap≤maxLen∧y=⟨x.n,(t,.v (.slice (some ⟨b,0,none⟩) len cap))::x.env,⟨b,e,cap*sz,cs⟩::S⟩
theorem bH.grown {w:World} (h:bH C x a w) {t g e:Nat} {row:Option Nat} {cs:List D}
  (hS:S.Sublist x.S) (I:∀k,row=some k→k∈av x.S∧k∉av S) (E:w.grownBy w' row) (hg:row=some g∨g=w.heap.size) (aa:g<w'.heap.size)
  (B9:w'.heap[g]?=some (.cells cur e (0,0))) (iu:cur.size=cap*sz) (hl:cs.length≤cap*sz) (hr:∀i (h:i<cs.length),∃u,cur[i]?=some u∧cg w (live C.X x.S) cs[i] u) (hne:isMap e=false:=by rfl) :
  bH C ⟨x.n,(t,.v (.slice (some ⟨g,0,none⟩) m cap))::x.env,⟨g,e,cap*sz,cs⟩::S⟩ (a.put (some t) (.slice (some ⟨g,0,none⟩) m cap)) w'∧mc row.toList w w'∧Fr w (av x.S) w' (av (⟨g,e,cap*sz,cs⟩::S)):=by
 have O:(av S).Sublist (av x.S):=Sublist.map _ hS;have Z:∀b,live C.X x.S b→b<w.heap.size:=fun b hb=>by
  rcases hb with hb|hb
  ·exact Nat.lt_of_lt_of_le (h.ex b hb).1 h.fr.size
  obtain⟨B,hB,rfl⟩:=mem_map.1 hb;exact(h.own.at_ B hB).1
 have hgS:g∉av S:=by
  rcases hg with hg|hg
  ·exact(I g hg).2
  intro hm;have:=Z g (.inr (O.subset hm));omega
 have hgX:¬C.X g:=fun hx=>by
  rcases hg with hg|hg
  ·exact h.Ax g hx (I g hg).1
  have:=Z g (.inl hx);omega
 have U:g<w.heap.size→g∈av x.S:=fun aa=>by
  rcases hg with hg|hg
  ·exact(I g hg).1
  omega
 have H:∀b,b<w.heap.size→¬live C.X x.S b→w'.heap[b]?=w.heap[b]?∧¬live C.X (⟨g,e,cap*sz,cs⟩::S) b:=fun b hb hn=>by
  refine⟨E.block b hb (fun hm=>hn (.inr (I b hm.symm).1)),fun hl=>?_⟩;rcases hl with hl|hl
  ·exact hn (.inl hl)
  simp only[av,map_cons,mem_cons] at hl;rcases hl with hl|hl
  ·subst hl;exact hn (.inr (U hb))
  exact hn (.inr (O.subset hl))
 have base:bH C ⟨x.n,x.env,⟨g,e,cap*sz,cs⟩::S⟩ a w':=by
  refine⟨h.defers,h.size,fun t ht=>(h.env t ht).mono H,⟨fun B hB=>?_,?_⟩,?_,h.ex,h.eK⟩
  ·rcases mem_cons.1 hB with rfl|hB
   ·refine⟨aa,cur,B9.trans (by rw[kx hne]),iu,hl,fun i hi=>?_⟩;obtain⟨u,hu,hq⟩:=hr i hi;exact⟨u,hu,hq.mono H⟩
   obtain⟨r0,lZ,r1,r2,r3,r4⟩:=h.own.at_ B (hS.subset hB);have C0:B.b∈av S:=mem_map.2 ⟨B,hB,rfl⟩;have hh:=E.block B.b r0 (fun hm=>(I B.b hm.symm).2 C0);refine⟨qz r0 hh,lZ,hh.trans r1,r2,r3,fun i hi=>?_⟩;obtain⟨u,hu,hq⟩:=r4 i hi;exact⟨u,hu,hq.mono H⟩
  ·show(g::av S).Nodup;exact nodup_cons.2 ⟨hgS,h.own.apart.sublist O⟩
  refine⟨E.os.trans h.fr.os,E.tape.trans h.fr.tape,E.output.trans h.fr.output,Nat.le_trans h.fr.size E.size,fun b hb hn=>?_⟩;obtain⟨q1,q2⟩:=h.fr.block b hb hn;have jS:=Nat.lt_of_lt_of_le hb h.fr.size;refine⟨(E.block b jS (fun hm=>q2 (I b hm.symm).1)).trans q1,fun hm=>?_⟩;simp only[av,map_cons,mem_cons] at hm;rcases hm with hm|hm
  ·subst hm;exact q2 (U jS)
  exact q2 (O.subset hm)
 refine⟨base.put (.v _),⟨E.size,fun b hb hn=>E.block b hb (fun hm=>hn (by rw[←hm];simp))⟩,⟨E.os,E.tape,E.output,E.size,fun b hb hn=>?_⟩⟩;refine⟨E.block b hb (fun hm=>hn (I b hm.symm).1),fun hm=>?_⟩;simp only[av,map_cons,mem_cons] at hm;rcases hm with hm|hm
 ·subst hm;exact hn (U hb)
 exact hn (O.subset hm)
theorem A6 {s:Operand} {t:Nat} {I:Value} {w:World} (ho:o.op = .call {callee:=.builtin .append,args:=#[s,y],argTypes:=#[t,t]}) (hs:a.eval s=v) (hy:a.eval y=u)
  (E:(Builtin.append_ #[t,t] o.type #[v,u]).run P w = .ok I w'):(execOp a.eval o).run P w = .ok (.value I) w':=by
 unfold execOp;simp[ho,resolve,invoke,builtin,hs,hy,E]
theorem yV{e:Nat}{z:Value}(hi:(P.info? e).map (fun i=>(i.zero,i.size,i.bytes))=some (some z,sz,bytes)):∃i,P.info? e=some i∧i.zero=some z∧i.size=sz∧i.bytes=bytes:=by
 cases h:P.info? e with
 | none=>simp[h] at hi
 | some i=>simp[h] at hi;exact⟨i,rfl,hi⟩
theorem O3 {s:Operand} {t e:Nat} {z:Value} {cs:List D} (ho:o.op = .call {callee:=.builtin .append,args:=#[s,y],argTypes:=#[t,t]}) (hd:o.dst=some tt)
  (ht:P.underlying t=some (.slice e)) (hi:(P.info? e).map (fun i=>(i.zero,i.size,i.bytes))=some (some z,sz,bytes)) (eX:z.cells.size=sz) (iu:0<sz)
  (hs:aE x s = .v (.slice (some ⟨b,0,none⟩) n cap)) (hk:x.S[k]?=some B) (hb:B.b=b) (he:B.e=e) (apt:B.size=cap*sz) (hl:B.cs.length=n*sz) (hn:n≤cap) (Z:cap≤maxLen)
  (hy:aE x y = .list sz cs m) (iS:∀d∈cs,one d=true) (hm:0<m) (gz:n+m≤maxLen) (O:(n+m)*bytes≤140737488355328) (hne:isMap B.e=false:=by rfl) :
  fM P G x o [b] (SI x tt e sz (n+m) (B.cs++cs) (x.S.eraseIdx k)):=fun C a w K Q hG h hK=>by
 subst hb he;obtain⟨i,j9,lI,pB,qn⟩:=yV hi;obtain⟨r0,cur,r1,r2,r3,r4⟩:=h.fG hk;rw[kx hne] at r1;have hr:=h.eval y;rw[hy] at hr;generalize hg:a.eval y=u at hr;cases hr with
 | mA=>omega
 | list _ _ _ b' o' I f me q1 q2 jS hL hc Ay =>
  have kI:w.ownsRow 0 B.e sz (.slice (some ⟨B.b,0,none⟩) n cap) n (cur.toList.take (n*sz)) :=
   ⟨by simp;omega,.inr ⟨B.b,cap,cur,rfl,Nat.zero_le _,r1,hn,Z,by omega,rfl⟩⟩
  obtain⟨v',w',nU,h2,h3,_,h5⟩:=run_append_own_at (P:=P) w 0 t o.type B.e i z sz bytes ht j9 lI pB qn eX iu _ n _ kI ⟨b',o',none⟩ m I ((range cs.length).map f) (by simp[me]) (fun j u hu=>by
    rw[Addr.add_mid];obtain⟨hj,he⟩:=List.getElem?_eq_some_iff.1 hu;simp only[length_map,length_range] at hj;rw[hc j hj,←he];simp) (fun u hu=>by
    obtain⟨j,hj,rfl⟩:=mem_map.1 hu;have ju:=mem_range.1 hj;exact(Ay j ju).Bn (iS _ (getElem_mem ju))) gz O (Nat.zero_le _)
  obtain⟨g,E,rfl,_,aa⟩:=h2.form w4;have h6:(Value.slice (some ⟨B.b,0,none⟩) n cap).ownBlock=some g∨g=w.heap.size:=by
   rcases h5 with h5|h5
   ·exact .inl (by rw[←h5];rfl)
   right;simpa[Value.ownBlock] using h5
  obtain⟨_,h2⟩:=h2;rcases h2 with ⟨h2,_⟩|⟨g',I,lZ,e1,_,e2,e3,e4,e5,e6⟩
  ·cases h2
  have C1:g=g'∧E=I:=(by simpa using e1)
  obtain⟨rfl,rfl⟩:=C1;have hlen:(B.cs++cs).length=(n+m)*sz:=(by rw[length_append,hl,me,Nat.add_mul])
  have M9:(n+m)*sz≤E*sz:=Nat.mul_le_mul_right _ e3;have B9:∀i,i<(n+m)*sz→lZ[i]?=(cur.toList.take (n*sz)++(range cs.length).map f)[i]?:=fun i hi=>by
   rw[←e6,getElem?_take_of_lt hi,Array.getElem?_toList]
  obtain⟨s1,s2,s3⟩:=h.grown (t:=tt) (m:=n+m) (e:=B.e) (sz:=sz) (S:=x.S.eraseIdx k) (cs:=B.cs++cs) (row:=some B.b) (g:=g) (cap:=E) (eraseIdx_sublist _ _) (fun k' q8=>by
    have:B.b=k':=(by simpa using q8)
    subst this;refine⟨mem_map.2 ⟨B,mem_of_getElem? hk,rfl⟩,fun hm=>?_⟩;have hp:(av x.S).Perm (B.b::av (x.S.eraseIdx k)):=(by have:=(uM hk).map ah.b;simpa[av] using this)
    exact(nodup_cons.1 (hp.nodup_iff.1 h.own.apart)).1 hm) h3 h6 aa e2 e5 w4 (fun i hi=>by
    rw[hlen] at hi;rw[B9 i hi];by_cases jv:i<n*sz
    ·obtain⟨u,hu,hq⟩:=r4 i w4;refine⟨u,?_,?_⟩
     ·rw[getElem?_append_left ig,getElem?_take_of_lt jv,Array.getElem?_toList,hu]
     rw[getElem_append_left w4];exact hq
    have U:i-n*sz<cs.length:=(by rw[me];rw[Nat.add_mul] at hi;omega)
    refine⟨f (i-n*sz),?_,?_⟩
    ·rw[getElem?_append_right ig];have:(cur.toList.take (n*sz)).length=n*sz:=(by simp;omega)
     rw[this];simp[U]
    rw[getElem_append_right w4];have:=Ay (i-n*sz) U;simp only[hl];exact this) hne
  unfold Oper.wp;rw[A6 (P:=P) ho (h.flat hs) hg nU,Oper.upon_value,hd];exact hK _ _ _ ⟨g,E,e3,e4,rfl⟩ s1 s2 s3
theorem OF {s:Operand} {t e:Nat} {z:Value} {cs:List D} (ho:o.op = .call {callee:=.builtin .append,args:=#[s,y],argTypes:=#[t,t]}) (hd:o.dst=some tt)
  (ht:P.underlying t=some (.slice e)) (hi:(P.info? e).map (fun i=>(i.zero,i.size,i.bytes))=some (some z,sz,bytes)) (eX:z.cells.size=sz) (iu:0<sz)
  (hs:aE x s = .v (.slice none 0 0)) (hy:aE x y = .list sz cs m) (iS:∀d∈cs,one d=true) (hm:0<m) (gz:m≤maxLen) (O:m*bytes≤140737488355328) (hne:isMap e=false:=by rfl) :
  fM P G x o [] (SI x tt e sz m cs x.S):=fun C a w K Q hG h hK=>by
 obtain⟨i,j9,lI,pB,qn⟩:=yV hi;have hr:=h.eval y;rw[hy] at hr;generalize hg:a.eval y=u at hr;cases hr with
 | mA=>omega
 | list _ _ _ b' o' I f me q1 q2 jS hL hc U =>
  have Z:w.ownsRow 0 e sz (.slice none 0 0) 0 []:=⟨by simp,.inl ⟨rfl,rfl⟩⟩
  obtain⟨v',w',nU,h2,h3,_,h5⟩:=run_append_own_at (P:=P) w 0 t o.type e i z sz bytes ht j9 lI pB qn eX iu _ 0 _ Z ⟨b',o',none⟩ m I ((range cs.length).map f) (by simp[me]) (fun j u hu=>by
    rw[Addr.add_mid];obtain⟨hj,he⟩:=List.getElem?_eq_some_iff.1 hu;simp only[length_map,length_range] at hj;rw[hc j hj,←he];simp) (fun u hu=>by
    obtain⟨j,hj,rfl⟩:=mem_map.1 hu;have ju:=mem_range.1 hj;exact(U j ju).Bn (iS _ (getElem_mem ju))) (by rw[Nat.zero_add];exact gz) (by rw[Nat.zero_add];exact O) (Nat.zero_le _)
  simp only[Nat.zero_add,nil_append] at h2;obtain⟨g,E,rfl,_,aa⟩:=h2.form w4;have h6:(none:Option Nat)=some g∨g=w.heap.size:=by
   rcases h5 with h5|h5
   ·simp[Value.ownBlock] at h5
   right;simpa[Value.ownBlock] using h5
  obtain⟨_,h2⟩:=h2;rcases h2 with ⟨h2,_⟩|⟨g',I,lZ,e1,_,e2,e3,e4,e5,e6⟩
  ·cases h2
  have C1:g=g'∧E=I:=(by simpa using e1)
  obtain⟨rfl,rfl⟩:=C1;have M9:m*sz≤E*sz:=Nat.mul_le_mul_right _ e3;obtain⟨s1,s2,s3⟩:=h.grown (t:=tt) (m:=m) (e:=e) (sz:=sz) (S:=x.S) (cs:=cs) (row:=none) (g:=g) (cap:=E) (Sublist.refl _) (fun k' q8=>by cases q8) h3 h6 aa e2 e5 w4 (fun i hi=>by
    refine⟨f i,?_,U i hi⟩;have:lZ[i]?=((range cs.length).map f)[i]?:=(by rw[←e6,getElem?_take_of_lt w4,Array.getElem?_toList])
    rw[this];simp[hi]) hne
  unfold Oper.wp;rw[A6 (P:=P) ho (h.flat hs) hg nU,Oper.upon_value,hd];exact hK _ _ _ ⟨g,E,e3,e4,rfl⟩ s1 s2 s3
theorem OG {s:Operand} {t e:Nat} {cs:List D} (ho:o.op = .call {callee:=.builtin .append,args:=#[s,y],argTypes:=#[t,t]})
  (O:∀w,(underlying t).run P w = .ok (.slice e) w) (E:∀w,(sizeOf e).run P w = .ok sz w) (hs:aE x s = .v (.slice ad n cap)) (hn:n≤cap) (hy:aE x y = .list sz cs 0):bU P G x o .none (.v (.slice ad n cap)):=fun C a w _ h=>by
 refine⟨_,.v _,fun w' _=>?_⟩;have hr:=h.eval y;rw[hy] at hr;generalize hg:a.eval y=u at hr;refine A6 (P:=P) ho (h.flat hs) hg ?_;have U:n+0≤cap:=hn;cases hr with
 | mA _ I kJ=>cases I<;>cases ad<;>simp[Builtin.append_,O,E,Builtin.lenOf,Builtin.firstCells,storeCells,loadCells,loadCellsFrom,hn,Nat.not_lt.2 hn]
 | list _ _ _ b' o' kJ f me q1 q2 jS hL hc Z=>cases ad<;>simp[Builtin.append_,O,E,Builtin.lenOf,Builtin.firstCells,storeCells,loadCells,loadCellsFrom,hn,Nat.not_lt.2 hn]

end Go.Proofs.YtkgmonfgofobaaaGreatDoor.V
namespace Go.Proofs.YtkgmonfgofobaaaGreatDoor.V
open List
open Go.RowKit
variable {g t n:Nat} {E b:Bool} {l':List (Nat×D)} {S':List ah} {c:Code} {ds:List D} {fn:Func} {L:Nat→Prop} {r1 r2:ResultVar}
def LQ(C:dx)(Q:Exit→St→Prop):Exit→Act→World→Prop:=fun e a w=>(∃y,bH C y a w∧Q e y)∨(e = .ret∧C.CX a w)
def CD(P:Program)(C:dx)(c:Code)(x:St)(Q:Exit→St→Prop):Prop:=∀a w,bH C x a w→c.wp P (LQ C Q) a w
def OD(P:Program)(C:dx)(ops:Array Oper)(l:List Oper)(x:St)(Q:Exit→St→Prop):Prop:=∀a w,bH C x a w→wpList P ops (LQ C Q) l a w
variable {P:Program} {C:dx} {Q:Exit→St→Prop} {x y:St} {ops:Array Oper} {l:List Oper} {o:Oper}
def bZ(ops:Array Oper)(x:St)(o:Oper)(b:Bool):Prop:=∀C a w,bH C x a w→Region.wanted o (yielded ops a.tmps)=b
theorem sj(h:o.guard=none):bZ ops x o true:=fun C a w _=>by simp[Region.wanted,h]
theorem QH(h:o.guard=some (g,E))(hg:(ops[g]?).bind (·.dst)=some t)(ht:t<x.n)(hb:look t x.env = .v (.bool b)):bZ ops x o (b==E):=fun C a w hs=>by
 have I:=hs.env t ht;rw[hb] at I;have I:=I.kU;have O:=hs.size;have:a.tmps[t]?=some (.bool b):=by
  rw[Array.getD_eq_getD_getElem?,Array.getElem?_eq_getElem w4] at I;rw[Array.getElem?_eq_getElem w4];simpa using I
 simp only[Region.wanted,h,yielded,hg,Option.bind_some,this];cases b<;>cases E<;>rfl
theorem fI{d:D}{r:List (Nat×D)}:look t ((t,d)::r)=d:=by rw[fW,if_pos rfl]
theorem fX{d d':D}{r:List (Nat×D)}(h:d=d'):look t ((t,d)::r)=d':=by rw[fW,if_pos rfl,h]
theorem fN{i:Nat}{d d':D}{r:List (Nat×D)}(h:Nat.beq i t=false)(k:look t r=d'):look t ((i,d)::r)=d':=by rw[look,h];exact k
theorem bP{v:Value}{x:St}:aE x (.const v) = .v v:=rfl
theorem tE{f:FuncId}{x:St}:aE x (.func f) = .eA (.func f) []:=rfl
theorem wg{x:St}:aE x (.global g) = .v (.pointer (some ⟨g,0,none⟩)):=rfl
theorem tL{d:D}{x:St}(h:Nat.blt t x.n=true)(k:look t x.env=d):aE x (.tmp t)=d:=by simp only[aE,h,k];rfl
theorem lk{l:List (Nat×D)}{d:D}(h:look t l=d:=by (repeat (first|exact fI|(apply fN;focus rfl)|exact look_nil));first|done|fail):look t l=d:=h
theorem ot{d:D}{x:St}(h:Nat.blt t x.n=true:=by exact rfl)(k:look t x.env=d:=by (repeat (first|exact fI|(apply fN;focus rfl)|exact look_nil));first|done|fail):aE x (.tmp t)=d:=tL h k
def nQ(l:List (Nat×D)):List (Nat×D)→Prop
 | []=>True
 | (i,d)::r=>look i l=d∧nQ l r
theorem nQ.look{l:List (Nat×D)}:∀{l':List (Nat×D)},nQ l l'→∀t,V.look t l'=V.look t l∨V.look t l' = .bV
 | [],_,t=>.inr rfl
 | (i,d)::r,h,t=>by
  rw[fW];by_cases e:i=t
  ·subst e;rw[if_pos rfl];exact .inl h.1.symm
  rw[if_neg e];exact h.2.look t
theorem Wk.kC{l:List (Nat×D)}{S:List ah}(h:nQ l l'):Wk ⟨n,l,S⟩ ⟨n,l',S⟩:=fun C a w hs =>
 ⟨hs.defers,hs.size,fun t ht=>by
  rcases h.look t with e|e
  ·simp only[e];exact hs.env t ht
  simp only[e];exact .bV _,hs.own,hs.fr,hs.ex,hs.eK⟩
theorem Wk.dP{x:St}(hn:x.n=n)(hS:x.S=S')(h:nQ x.env l'):Wk x ⟨n,l',S'⟩:=by
 obtain⟨n0,l0,S0⟩:=x;simp only at hn hS h;subst hn hS;exact Wk.kC h
theorem Wk.asS{x:St}(hn:x.n=n)(hS:S'.Sublist x.S)(h:nQ x.env l'):Wk x ⟨n,l',S'⟩:=by
 obtain⟨n0,l0,S0⟩:=x;simp only at hn hS h;subst hn;exact(Wk.drop n0 l0 S0 S' hS).trans (Wk.kC h)
theorem tN{ops:Array Oper}{x:St}{o:Oper}(h:o.guard=some (g,E))(hg:(ops[g]?).bind (·.dst)=some t)(ht:Nat.blt t x.n=true)(hb:look t x.env = .v (.bool b))(hw:b=E):bZ ops x o true:=by
 have:=QH h hg (Nat.le_of_ble_eq_true ht) hb;rw[hw] at this;simpa using this
theorem mN{ops:Array Oper}{x:St}{o:Oper}(h:o.guard=some (g,E))(hg:(ops[g]?).bind (·.dst)=some t)(ht:Nat.blt t x.n=true)(hb:look t x.env = .v (.bool b))(hw:b = !E):bZ ops x o false:=by
 have:=QH h hg (Nat.le_of_ble_eq_true ht) hb;rw[hw] at this;cases E<;>simpa using this
theorem JG{ops:Array Oper}{x:St}{o:Oper}{b:Bool}(h:o.guard=some (g,E))(hg:(ops[g]?).bind (·.dst)=some t)(ht:Nat.blt t x.n=true)(hb:look t x.env = .v (.tuple #[])):bZ ops x o false:=fun C a w hs=>by
 have I:=hs.env t (Nat.le_of_ble_eq_true ht);rw[hb] at I;have I:=I.kU;have O:=hs.size;have Ho:t<x.n:=Nat.le_of_ble_eq_true ht;have:a.tmps[t]?=some (.tuple #[]):=by
  rw[Array.getD_eq_getD_getElem?,Array.getElem?_eq_getElem w4] at I;rw[Array.getElem?_eq_getElem w4];simpa using I
 simp only[Region.wanted,h,yielded,hg,Option.bind_some,this];cases E<;>rfl
theorem OD.nil(h:Q .normal x):OD P C ops [] x Q:=fun a w hs=>.inl ⟨x,hs,h⟩
theorem OD.fU{W:List Nat}{post:St→Prop}(hw:bZ ops x o true)(h:fM P C.G x o W post)(k:∀y,post y→OD P C ops l y Q):OD P C ops (o::l) x Q:=fun a w hs=>by
 unfold wpList;rw[if_pos (hw C a w hs)];exact .inl (h C a w _ _ rfl hs fun y a' w' hp E _ _=>k y hp a' w' E)
theorem OD.still{kd:Rd}{d:D}(hw:bZ ops x o true)(hd:o.dst=some t)(h:bU P C.G x o kd d)(k:OD P C ops l (x.put t d) Q):OD P C ops (o::l) x Q :=
 OD.fU hw (h.fU hd) fun y hy=>by subst hy;exact k
theorem OD.skip(hw:bZ ops x o false)(hd:o.dst=some t)(k:OD P C ops l (x.put t (.v (.tuple #[]))) Q):OD P C ops (o::l) x Q:=fun a w hs=>by
 unfold wpList;rw[if_neg (by rw[hw C a w hs];simp),hd];exact k _ _ (hs.put (.v _))
theorem OD.wk(h:Wk x y)(k:OD P C ops l y Q):OD P C ops l x Q:=fun a w hs=>k a w (h C a w hs)
theorem CD.wk(h:Wk x y)(k:CD P C c y Q):CD P C c x Q:=fun a w hs=>k a w (h C a w hs)
theorem CD.mono{E:Exit→St→Prop}(h:CD P C c x Q)(k:∀e y,Q e y→E e y):CD P C c x E:=fun a w hs =>
 wp_mono (h a w hs) fun e a' w' h=>h.imp (fun ⟨y,h1,h2⟩=>⟨y,h1,k e y h2⟩) id
theorem CD.skip(h:Q .normal x):CD P C .skip x Q:=fun a w hs=>wp_skip (.inl ⟨x,hs,h⟩)
theorem CD.ret(h:Q .ret x):CD P C .ret x Q:=fun a w hs=>wp_ret (.inl ⟨x,hs,h⟩)
theorem CD.exit{id:Nat}(h:Q (.exit id) x):CD P C (.exit id) x Q:=fun a w hs=>wp_exit (.inl ⟨x,hs,h⟩)
def Ca(P:Program)(C:dx)(c:Code)(Q:Exit→St→Prop):Exit→St→Prop
 | .normal,y=>CD P C c y Q
 | e,y=>Q e y
theorem CD.seq{c d:Code}(h:CD P C c x (Ca P C d Q)):CD P C (.seq c d) x Q:=fun a w hs =>
 wp_seq (wp_mono (h a w hs) fun e a' w' h=>by
  rcases h with ⟨y,h1,h2⟩|⟨rfl,h⟩
  ·cases e<;>first|exact h2 a' w' h1|exact .inl ⟨y,h1,h2⟩
  exact .inr ⟨rfl,h⟩)
theorem CD.region{id:Nat}{l:List Oper}(h:OD P C l.toArray l x Q):CD P C (.region id l.toArray false) x Q:=fun a w hs=>wp_region_lit (h a w hs)
theorem CD.cond{c:Operand}{d e:Code}{b:Bool}(hc:aE x c = .v (.bool b))(ht:b=true→CD P C d x Q)(hf:b=false→CD P C e x Q):CD P C (.cond c d e) x Q:=fun a w hs =>
 wp_cond_split (hs.flat hc) (fun h=>ht h a w hs) (fun h=>hf h a w hs)
theorem CD.ahC{c:Operand}{d e:Code}(hc:aE x c = .v (.bool b))(hb:b=true)(ht:CD P C d x Q):CD P C (.cond c d e) x Q:=fun a w hs =>
 wp_cond_true (by rw[hs.flat hc,hb]) (ht a w hs)
theorem CD.K4{c:Operand}{d e:Code}(hc:aE x c = .v (.bool b))(hb:b=false)(hf:CD P C e x Q):CD P C (.cond c d e) x Q:=fun a w hs =>
 wp_cond_false (by rw[hs.flat hc,hb]) (hf a w hs)
def Na(Inv:St→Prop)(Q:Exit→St→Prop):Exit→St→Prop
 | .normal,y=>∃z,Wk y z∧Inv z
 | e,y=>Q e y
theorem CD.cut{d:Code}(E:St→Prop)(h1:CD P C c x (Na E Q))(h2:∀z,E z→CD P C d z Q):CD P C (.seq c d) x Q :=
 CD.seq (CD.mono h1 fun e y h=>by cases e<;>first|(obtain⟨z,hw,hz⟩:=h;exact CD.wk hw (h2 z hz))|exact h)
def Bv(id:Nat)(Q:Exit→St→Prop):Exit→St→Prop
 | .exit s9,y=>bif Nat.beq s9 id then Q .normal y else Q (.exit s9) y
 | e,y=>Q e y
theorem CD.block{id:Nat}{c:Code}(h:CD P C c x (Bv id Q)):CD P C (.block id c) x Q:=fun a w hs =>
 wp_block (wp_mono (h a w hs) fun e a' w' h=>by
  rcases h with ⟨y,h1,h2⟩|⟨rfl,h⟩
  case inr=>exact .inr ⟨rfl,h⟩
  cases e with
  | exit s9 =>
   simp only[Bv] at h2;simp only[Exit.inBlock];by_cases he:s9=id
   ·subst he;rw[if_pos rfl];simp at h2;exact .inl ⟨y,h1,h2⟩
   rw[if_neg he];have:Nat.beq s9 id=false:=by
    cases h:Nat.beq s9 id with
    | false=>rfl
    | true=>exact absurd (Nat.eq_of_beq_eq_true h) he
   rw[this] at h2;exact .inl ⟨y,h1,h2⟩
  | _=>exact .inl ⟨y,h1,h2⟩)
theorem least(p:Nat→Prop)(h:∃n,p n):∃n,p n∧∀m,p m→n≤m:=by
 obtain⟨n,hn⟩:=h;induction n using Nat.strongRecOn with
 | _ n ih =>
  by_cases hq:∃m,m<n∧p m
  ·obtain⟨m,hm,hp⟩:=hq;exact ih m hm hp
  exact⟨n,hn,fun m hm=>Nat.le_of_not_lt fun aa=>hq ⟨m,aa,hm⟩⟩
def BO{ι:Type}(I:ι→St→Prop)(μ:ι→Nat)(i:ι)(Q:Exit→St→Prop):Exit→St→Prop
 | .normal,y=>∃j z,μ j < μ i∧Wk y z∧I j z
 | e,y=>Q e y
open Classical in
theorem CD.loop{ι:Type}{c:Code}(I:ι→St→Prop)(μ:ι→Nat)(i:ι)(h0:I i x)(round:∀i y,I i y→CD P C c y (BO I μ i Q)):CD P C (.loop c) x Q:=fun a w hs=>by
 let p:Act→World→Nat→Prop:=fun a w n=>∃i y,μ i=n∧I i y∧bH C y a w
 let m:Act→World→Nat:=fun a w=>if h:∃n,p a w n then Classical.choose (least _ h) else 0
 refine wp_loop (fun a w=>∃n,p a w n) m ⟨_,i,x,rfl,h0,hs⟩ fun a w O=>?_;have hm:m a w=Classical.choose (least _ O):=dif_pos O;obtain⟨⟨i,y,h1,h2,h3⟩,_⟩:=Classical.choose_spec (least _ O);rw[←hm] at h1;refine wp_mono (round i y h2 a w h3) fun e a' w' h=>?_;rcases h with ⟨z,q1,q2⟩|⟨rfl,h⟩
 case inr=>exact .inr ⟨rfl,h⟩
 cases e with
 | normal =>
  obtain⟨j,z',r1,r2,r3⟩:=q2;have hp:p a' w' (μ j):=⟨j,z',rfl,r3,r2 C a' w' q1⟩
  have E:∃n,p a' w' n:=⟨_,hp⟩
  have U:m a' w'=Classical.choose (least _ E):=dif_pos E;refine⟨E,?_⟩;have:=(Classical.choose_spec (least _ E)).2 _ hp;rw[U];omega
 | _=>exact .inl ⟨z,q1,q2⟩
def LC(tmps:Array Value):ResultVar→Sem Value
 | .tmp t=>pure (tmps.getD t undef)
 | .cell a t=>do loadVar t (←asAddr (tmps.getD a undef))
theorem Im(fn:Func)(tmps:Array Value):results fn tmps=(do let vs ←fn.results.mapM (LC tmps);pure (if h:vs.size=1 then vs[0] else .tuple vs)):=rfl
def tc(P:Program)(y:St)(rv:ResultVar)(d:D):Prop :=
 ∀C a w,bH C y a w→∃v,cg w (live C.X y.S) d v∧(LC a.tmps rv).run P w = .ok v w
theorem yW{d:D}(ht:t<y.n)(hd:look t y.env=d):tc P y (.tmp t) d:=fun C a w h=>⟨_,hd ▸ h.env t ht,rfl⟩
theorem sA{c k b:Nat}{B:ah}(hc:c<y.n)(hd:look c y.env = .v (.pointer (some ⟨b,0,none⟩)))(hk:y.S[k]?=some B)(hb:B.b=b)(ha:∀w,(isAgg t).run P w = .ok true w)(hn:∀w,(sizeOf t).run P w = .ok n w)(de:B.cs=ds)(hl:ds.length=n)(hne:isMap B.e=false:=by rfl):tc P y (.cell c t) (.agg ds):=fun C a w h=>by
 subst hb de;have he:=h.env c hc;rw[hd] at he;obtain⟨_,cur,h1,h2,h3,h4⟩:=h.fG hk;rw[kx hne] at h1;refine⟨.agg ((range n).map fun j=>cur.getD j undef).toArray,.agg _ _ (by simp[hl]) (fun i q1 q2=>?_),?_⟩
 ·obtain⟨u,hu,hr⟩:=h4 i q1;simp only[getElem_map,getElem_range,Array.getD_eq_getD_getElem?,hu,Option.getD_some];exact hr
 simp only[LC,he.kU,asAddr,Sem.run_bind,Sem.run_pure,Result.andThen_ok];have:=Iy (P:=P) (t:=t) (w:=w) (b:=B.b) (o':=0) (vs:=(range n).map fun j=>cur.getD j undef) ha hn bq (fun j hj=>by
  simp only[length_map,length_range] at hj;obtain⟨u,hu,_⟩:=h4 j w4;simp only[getElem_map,getElem_range,Array.getD_eq_getD_getElem?,hu,Option.getD_some,Nat.zero_add];exact og h1 hu)
 simpa[Instr.loadAt,Instr.sureAddr] using this
def td(P:Program)(fn:Func)(y:St)(r:D):Prop:=∀C a w,bH C y a w→∃v,cg w (live C.X y.S) r v∧(results fn a.tmps).run P w = .ok v w
theorem qB(hr:fn.results = #[]):td P fn y (.dh []):=fun C a w h =>
 ⟨.tuple #[],.dh [] [] rfl (fun i h1 _=>by simp at h1),by unfold results;simp[hr]⟩
theorem SJ{rv:ResultVar}{d:D}(hr:fn.results = #[rv])(h:tc P y rv d):td P fn y d:=fun C a w hs=>by
 obtain⟨v,h1,h2⟩:=h C a w hs;refine⟨v,h1,?_⟩;rw[Im,hr];simp[h2]
theorem SK{w:World}{vs:List Value}(h:cD w L ds vs):cg w L (.dh ds) (.tuple vs.toArray):=.dh ds vs h.1 h.2
theorem cD.cons{w:World}{d:D}{v:Value}{vs:List Value}(h:cg w L d v)(hs:cD w L ds vs):cD w L (d::ds) (v::vs) :=
 ⟨by simp[hs.1],fun i h1 h2=>by
  cases i with
  | zero=>exact h
  | succ i=>exact hs.2 i _ _⟩
theorem cD.nil(w:World)(L:Nat→Prop):cD w L [] []:=⟨rfl,fun i h=>by simp at h⟩
theorem JH{d1 d2:D}(hr:fn.results = #[r1,r2])(h1:tc P y r1 d1)(h2:tc P y r2 d2):td P fn y (.dh [d1,d2]):=fun C a w hs=>by
 obtain⟨v1,a1,b1⟩:=h1 C a w hs;obtain⟨v2,a2,b2⟩:=h2 C a w hs;refine⟨_,SK (.cons a1 (.cons a2 (.nil _ _))),?_⟩;rw[Im,hr];simp[b1,b2]
theorem aa1{r3:ResultVar}{d1 d2 d3:D}(hr:fn.results = #[r1,r2,r3])(h1:tc P y r1 d1)(h2:tc P y r2 d2)(h3:tc P y r3 d3):td P fn y (.dh [d1,d2,d3]):=fun C a w hs=>by
 obtain⟨v1,a1,b1⟩:=h1 C a w hs;obtain⟨v2,a2,b2⟩:=h2 C a w hs;obtain⟨v3,a3,b3⟩:=h3 C a w hs;refine⟨_,SK (.cons a1 (.cons a2 (.cons a3 (.nil _ _)))),?_⟩;rw[Im,hr];simp[b1,b2,b3]
def Body(P:Program)(fn:Func)(post:D→List ah→Prop)(e:Exit)(y:St):Prop :=
 (e = .normal∨e = .ret)∧∃r S',S'.Sublist y.S∧td P fn y r∧post r S'
def sF:Nat→List D→List (Nat×D)
 | _,[]=>[]
 | i,d::r=>(i,d)::sF (i+1) r
theorem Ee:∀(ds:List D) (i t:Nat),look t (sF i ds)=if i≤t then ds.getD (t-i) .bV else .bV
 | [],i,t=>by simp[sF,look]
 | d::r,i,t=>by
  rw[sF,fW,Ee r (i+1) t];by_cases h:i=t
  ·subst h;simp
  rw[if_neg h];by_cases h2:i≤t
  ·rw[if_pos h2,if_pos w4,show t-i=(t-(i+1))+1 from by omega];simp
  rw[if_neg h2,if_neg w4]
theorem VC.body {G:List (Nat×List Value)} {f:FuncId} {fn:Func} {c:Code} {n:Nat} {args:List D} {S:List ah} {post:D→List ah→Prop} (hf:P.funcs[f]?=some fn) (hb:fn.body=some c) (hn:fn.ntmps=n) (hl:args.length≤n)
  (h:∀X w0 S0,CD P ⟨X,w0,S0,G,[],fun _ _=>False⟩ c ⟨n,sF 0 args,S⟩ (Body P fn post)):VC P G f args S post:=fun X w vs hp=>by
 have Z:vs.length=args.length:=hp.args.1;let C:dx:=⟨X,w,av S,G,[],fun _ _=>False⟩
 have I:bH C ⟨n,sF 0 args,S⟩ {tmps:=vs.toArray++Array.replicate (fn.ntmps-vs.toArray.size) undef,defers:=[]} w:=by
  refine⟨rfl,by simp[hn];omega,fun t ht=>?_,hp.own,Fr.refl _ _,hp.ex,hp.eK⟩;simp only[Ee,Nat.zero_le,if_true,Nat.sub_zero];by_cases aa:t<args.length
  ·have e1:args.getD t .bV=args[t]:=(by simp[getD,aa])
   have e2:(vs.toArray++Array.replicate (fn.ntmps-vs.toArray.size) undef).getD t undef=vs[t]'w4:=by
    rw[Array.getD_eq_getD_getElem?,Array.getElem?_append_left ig];simp[show t<vs.length by omega]
   rw[e1,e2];exact hp.args.2 t aa w4
  have e1:args.getD t .bV = .bV:=(by simp[getD,getElem?_eq_none (show args.length≤t by omega)])
  rw[e1];exact .bV _
 refine calls_of_wp hf hb (wp_mono (h _ _ _ _ _ I) fun e a w' h=>?_);rcases h with ⟨y,h1,h2,r,S',h3,h4,h5⟩|⟨_,h⟩
 case inr=>exact h.elim
 obtain⟨v,q1,q2⟩:=h4 C a w' h1;have E:(av S').Sublist (av y.S):=Sublist.map _ h3;have key:a.defers=[]∧∃v,(results fn a.tmps).run P w' = .ok v w'∧∃U r S',Ending.returned v = .returned U∧post r S'∧Own w' (live X S') S'∧cg w' (live X S') r U∧Fr w (av S) w' (av S') :=
  ⟨h1.defers,v,q2,v,r,S',rfl,h5,h1.own.sub h3,q1.mono fun b _ hn=>⟨rfl,fun hl=>hn (hl.imp id fun q=>E.subset q)⟩,
   ⟨h1.fr.os,h1.fr.tape,h1.fr.output,h1.fr.size,fun b O hn=>⟨(h1.fr.block b O hn).1,fun q=>(h1.fr.block b O hn).2 (E.subset q)⟩⟩⟩
 rcases h2 with rfl|rfl<;>exact key

end Go.Proofs.YtkgmonfgofobaaaGreatDoor.V
namespace Go.Proofs.YtkgmonfgofobaaaGreatDoor.V
open List
open Go.RowKit
variable {fuel i t:Nat} {ld:Array Bool}
def kV(w1:World)(S1 T:List Nat)(w:World):Prop:=(∀b,b<w1.heap.size→b∉S1→w.heap[b]?=w1.heap[b]?)∧∀b∈T,w.heap[b]?=w1.heap[b]?
def AD(P:Program)(C:dx)(ops:Array Oper)(S1 T:List Nat)(fuel:Nat)(ld:Array Bool)(x:St)(Q:Exit→St→Prop):Prop :=
 ∀w1 a w,bH C x a w→(∀b∈T,b∈S1)→(∀b∈S1,b<w1.heap.size)→Fr w1 S1 w (av x.S)→kV w1 S1 T w→wpAnyH P .any ops (LQ C Q) (kV w1 S1 T) fuel ld a w
def dH(P:Program)(C:dx)(ops:Array Oper)(S1 T:List Nat)(fuel:Nat)(ld:Array Bool)(x:St)(Q:Exit→St→Prop):Prop :=
 ∀a w,bH C x a w→av x.S=S1→(∀b∈T,b∈S1)→wpAnyH P .any ops (LQ C Q) (kV w S1 T) fuel ld a w
def NP(Q:Exit→St→Prop):Prop:=∀c y t,Q (.panic c) y→Q (.panic c) (y.put t .bV)
variable {P:Program} {C:dx} {Q:Exit→St→Prop} {x y:St} {ops:Array Oper} {l:List Oper} {o:Oper} {S1 T:List Nat}
theorem NP.body{fn:Func}{post:D→List ah→Prop}:NP (Body P fn post):=fun E y t hq=>by rcases hq.1 with h|h<;>cases h
def Tl(P:Program)(C:dx)(ops:Array Oper)(l:List Oper)(Q:Exit→St→Prop):Exit→St→Prop
 | .normal,y=>OD P C ops l y Q
 | e,y=>Q e y
theorem kV.refl(w1:World)(S1 T:List Nat):kV w1 S1 T w1:=⟨fun _ _ _=>rfl,fun _ _=>rfl⟩
theorem dH.later(hS:av x.S=S1)(h:AD P C ops S1 T fuel ld x Q):dH P C ops S1 T fuel ld x Q:=fun a w hs _ hT =>
 h w a w hs hT (fun b hb=>by
  rw[←hS] at hb;obtain⟨B,hB,rfl⟩:=mem_map.1 hb;exact(hs.own.at_ B hB).1) (hS ▸ Fr.refl _ _) (kV.refl _ _ _)
def Safe(x:St)(T:List Nat):Rd→Prop
 | .none=>True
 | .j8=>True
 | .fG k=>∃B,x.S[k]?=some B∧B.b∈T
theorem zm(h:NP Q)(d:Option Nat)(v:Value):∀c a w,LQ C Q (.panic c) (a.put d v) w→LQ C Q (.panic c) a w:=fun c a w hq=>by
 rcases hq with ⟨y,h1,h2⟩|⟨h2,_⟩
 ·cases d with
  | none=>exact .inl ⟨y,h1,h2⟩
  | some t =>
   refine .inl ⟨y.put t .bV,⟨h1.defers,by have E:=h1.size;simp only[Act.put,Array.size_setIfInBounds] at E;exact E,fun q hq=>?_,h1.own,h1.fr,h1.ex,h1.eK⟩,h c y t h2⟩;have h3:=h1.env q hq;simp only[St.put,fW];by_cases e:t=q
   ·rw[if_pos e];exact .bV _
   rw[if_neg e];have:(a.put (some t) v).tmps.getD q undef=a.tmps.getD q undef:=(by simp[Act.put,Array.getD_eq_getD_getElem?,Array.getElem?_setIfInBounds,e])
   rw[this] at h3;exact h3
 cases h2
theorem dH.take {k:Rd} {d:D} (hi:ops[i]?=some o) (hs:Region.noSelect ops=true) (hf:Region.free .any ops ld i=true) (hr:(Region.ready .any ops ld).contains i=true) (hp:NP Q)
  (hw:bZ ops x o true) (hd:o.dst=some t) (h:bU P C.G x o k d) (hk:Safe x T k) (K:dH P C ops S1 T fuel (ld.setIfInBounds i true) (x.put t d) Q):dH P C ops S1 T (fuel+1) ld x Q:=fun a w E hS hT=>by
 obtain⟨v,h1,h2⟩:=h C a w rfl E;refine wpAnyH_take hi hs hf hr (zm hp _ v) (.inl ⟨hw C a w E,fun w' I=>h2 w' ?_⟩) (kV.refl _ _ _) ?_
 ·cases k with
  | none=>trivial
  | j8=>exact fun b hb hn=>I.1 b hb (fun hm=>hn (.inr (hS ▸ hm)))
  | fG k =>
   obtain⟨B,hB,hm⟩:=hk;intro B' O;rw[hB] at O;obtain rfl:=Option.some.inj O;exact I.2 _ hm
 rw[hd];exact K _ _ (E.put h1) hS hT
theorem dH.I8 (hi:ops[i]?=some o) (hs:Region.noSelect ops=true) (hf:Region.free .any ops ld i=true) (hr:(Region.ready .any ops ld).contains i=true) (hp:NP Q)
  (hw:bZ ops x o false) (hd:o.dst=some t) (K:dH P C ops S1 T fuel (ld.setIfInBounds i true) (x.put t (.v (.tuple #[]))) Q):dH P C ops S1 T (fuel+1) ld x Q:=fun a w E hS hT=>by
 refine wpAnyH_take (v:=undef) hi hs hf hr (zm hp _ _) (.inr ⟨hw C a w E,rfl⟩) (kV.refl _ _ _) ?_;rw[hd];exact K _ _ (E.put (.v _)) hS hT
theorem AD.take {k:Rd} {d:D} (hi:ops[i]?=some o) (hs:Region.noSelect ops=true) (hf:Region.free .any ops ld i=true) (hr:(Region.ready .any ops ld).contains i=true) (hp:NP Q)
  (hw:bZ ops x o true) (hd:o.dst=some t) (h:bU P C.G x o k d) (hk:Safe x T k) (qo:k≠.j8) (K:AD P C ops S1 T fuel (ld.setIfInBounds i true) (x.put t d) Q):AD P C ops S1 T (fuel+1) ld x Q:=fun w1 a w E hT aa O fL=>by
 obtain⟨v,h1,h2⟩:=h C a w rfl E;refine wpAnyH_take hi hs hf hr (zm hp _ v) (.inl ⟨hw C a w E,fun w' U=>h2 w' ?_⟩) fL ?_
 ·cases k with
  | none=>trivial
  | j8=>exact absurd rfl qo
  | fG k =>
   obtain⟨B,hB,hm⟩:=hk;intro B' I;rw[hB] at I;obtain rfl:=Option.some.inj I;exact(U.2 _ hm).trans (fL.2 _ hm).symm
 rw[hd];exact K _ _ _ (E.put h1) hT aa O fL
theorem AD.I8 (hi:ops[i]?=some o) (hs:Region.noSelect ops=true) (hf:Region.free .any ops ld i=true) (hr:(Region.ready .any ops ld).contains i=true) (hp:NP Q)
  (hw:bZ ops x o false) (hd:o.dst=some t) (K:AD P C ops S1 T fuel (ld.setIfInBounds i true) (x.put t (.v (.tuple #[]))) Q):AD P C ops S1 T (fuel+1) ld x Q:=fun w1 a w E hT aa I fL=>by
 refine wpAnyH_take (v:=undef) hi hs hf hr (zm hp _ _) (.inr ⟨hw C a w E,rfl⟩) fL ?_;rw[hd];exact K _ _ _ (E.put (.v _)) hT aa I fL
def bB(P:Program)(C:dx)(ops:Array Oper)(S1 T:List Nat)(fuel:Nat)(ld:Array Bool)(x:St)(Q:Exit→St→Prop)(i:Nat):Prop :=
 ∀w1 a w,bH C x a w→(∀b∈T,b∈S1)→(∀b∈S1,b<w1.heap.size)→Fr w1 S1 w (av x.S)→kV w1 S1 T w →
  wpOp P ops (LQ C Q) i (fun a' w'=>kV w1 S1 T w'∧wpAnyH P .any ops (LQ C Q) (kV w1 S1 T) fuel (ld.setIfInBounds i true) a' w') a w
theorem AD.all{rs:List Nat}(hr:Region.ready .any ops ld=rs)(hne:rs≠[])(h:∀i∈rs,bB P C ops S1 T fuel ld x Q i):AD P C ops S1 T (fuel+1) ld x Q:=fun w1 a w E hT aa I fL =>
 wpAnyH_all hr hne fun i hi=>h i hi w1 a w E hT aa I fL
theorem AD.one(hr:Region.ready .any ops ld=[i])(h:bB P C ops S1 T fuel ld x Q i):AD P C ops S1 T (fuel+1) ld x Q :=
 AD.all hr bq fun j hj=>by
  have:j=i:=(by simpa using hj)
  subst this;exact h
theorem AD.two{j:Nat}(hr:Region.ready .any ops ld=[i,j])(h:bB P C ops S1 T fuel ld x Q i)(h':bB P C ops S1 T fuel ld x Q j):AD P C ops S1 T (fuel+1) ld x Q :=
 AD.all hr bq fun k hk=>by
  simp only[mem_cons,not_mem_nil,or_false] at hk;rcases hk with rfl|rfl
  ·exact h
  exact h'
theorem AD.done(hr:Region.ready .any ops ld=[])(h:Q .normal x):AD P C ops S1 T fuel ld x Q:=fun w1 a w E hT aa I fL=>wpAnyH_done hr (.inl ⟨x,E,h⟩) _
theorem bB.fU {W:List Nat} {post:St→Prop} (hi:ops[i]?=some o) (hw:bZ ops x o true) (h:fM P C.G x o W post) (hW:∀C a w,bH C x a w→∀b∈T,b∉W) (hWx:∀b∈W,b∈av x.S)
  (k:∀y,post y→AD P C ops S1 T fuel (ld.setIfInBounds i true) y Q):bB P C ops S1 T fuel ld x Q i:=fun w1 a w I hT aa E fL=>by
 unfold wpOp;simp only[hi,hw C a w I,if_true];refine .inl (h C a w _ _ rfl I fun y a' w' hp Z hc hf=>?_);have O:Fr w1 S1 w' (av y.S):=⟨hf.os.trans E.os,hf.tape.trans E.tape,hf.output.trans E.output,Nat.le_trans E.size hf.size,fun b hb hn=>by
  obtain⟨q1,q2⟩:=E.block b hb hn;obtain⟨q3,q4⟩:=hf.block b (Nat.lt_of_lt_of_le hb E.size) q2;exact⟨q3.trans q1,q4⟩⟩
 have U:kV w1 S1 T w':=⟨fun b hb hn=>(O.block b hb hn).1,fun b hb=>by
  have ji:=Nat.lt_of_lt_of_le (aa b (hT b hb)) E.size;exact(hc.2 b ji (hW C a w I b hb)).trans (fL.2 b hb)⟩
 exact⟨U,k y hp w1 a' w' Z hT aa O U⟩
theorem bB.still{kd:Rd}{d:D}(hi:ops[i]?=some o)(hw:bZ ops x o true)(hd:o.dst=some t)(h:bU P C.G x o kd d)(k:AD P C ops S1 T fuel (ld.setIfInBounds i true) (x.put t d) Q):bB P C ops S1 T fuel ld x Q i :=
 bB.fU hi hw (h.fU hd) (fun _ _ _ _ b _ hb=>by simp at hb) (fun b hb=>by simp at hb) fun y hy=>by subst hy;exact k
theorem bB.skip(hi:ops[i]?=some o)(hw:bZ ops x o false)(hd:o.dst=some t)(k:AD P C ops S1 T fuel (ld.setIfInBounds i true) (x.put t (.v (.tuple #[]))) Q):bB P C ops S1 T fuel ld x Q i:=fun w1 a w E hT aa I fL=>by
 unfold wpOp;simp only[hi,hw C a w E,hd];exact⟨fL,k w1 _ w (E.put (.v _)) hT aa I fL⟩
theorem AD.wk(h:Wk x y)(hb:av y.S=av x.S)(k:AD P C ops S1 T fuel ld y Q):AD P C ops S1 T fuel ld x Q:=fun w1 a w E hT aa I fL=>k w1 a w (h C a w E) hT aa (hb ▸ I) fL
theorem AD.FY(h:Wk x y)(hb:∀b∈av y.S,b∈av x.S)(k:AD P C ops S1 T fuel ld y Q):AD P C ops S1 T fuel ld x Q:=fun w1 a w I hT aa E fL =>
 k w1 a w (h C a w I) hT aa ⟨E.os,E.tape,E.output,E.size,fun b h1 h2=>⟨(E.block b h1 h2).1,fun h3=>(E.block b h1 h2).2 (hb b h3)⟩⟩ fL
theorem CD.draw{id:Nat}{l:List Oper}(T:List Nat)(hm:P.follows .mixedOrders=true)(hT:∀b∈T,b∈av x.S)(h:dH P C l.toArray (av x.S) T l.toArray.size (Array.replicate l.toArray.size false) x Q):CD P C (.region id l.toArray true) x Q:=fun a w hs =>
 wp_region_held (S:=kV {w with drawn:=w.drawn+1} (av x.S) T) hm (h a _ ⟨hs.defers,hs.size,fun t ht=>(hs.env t ht).mono fun b _ hn=>⟨rfl,hn⟩,⟨fun B E=>by
  obtain⟨r0,cur,r1,r2,r3,I⟩:=hs.own.at_ B E;exact⟨r0,cur,r1,r2,r3,fun i hi=>by
   obtain⟨u,hu,hq⟩:=I i hi;exact⟨u,hu,hq.mono fun b _ hn=>⟨rfl,hn⟩⟩⟩,hs.own.apart⟩,⟨hs.fr.os,hs.fr.tape,hs.fr.output,hs.fr.size,hs.fr.block⟩,hs.ex,hs.eK⟩ rfl hT)

end Go.Proofs.YtkgmonfgofobaaaGreatDoor.V

namespace Go.Proofs.YtkgmonfgofobaaaGreatDoor.V
open List
open Go.RowKit
variable {P:Program}

variable {t:TypeId} {k:IntKind} {a b:Int} {us xZ:List Value} {y:Operand}
theorem JI{op:BinOp}{r:Int}(h:(op = .add∧k.wrap (a+b)=r)∨(op = .sub∧k.wrap (a-b)=r)∨(op = .mul∧k.wrap (a*b)=r)):kR P op t (.int k a) (.int k b) (.int k r):=fun y z w=>by
 rcases h with ⟨rfl,h⟩|⟨rfl,h⟩|⟨rfl,h⟩<;>simp[eqGuard,binOp,Op.intArith,h]

theorem kz{r:Int}(h:k.wrap (a+b)=r):kR P .add t (.int k a) (.int k b) (.int k r):=JI (.inl ⟨rfl,h⟩)
theorem gN{r:Int}(h:k.wrap (a-b)=r):kR P .sub t (.int k a) (.int k b) (.int k r):=JI (.inr (.inl ⟨rfl,h⟩))
theorem JJ{r:Int}(h:k.wrap (a*b)=r):kR P .mul t (.int k a) (.int k b) (.int k r):=JI (.inr (.inr ⟨rfl,h⟩))
theorem SL:kR P .lss t (.int k a) (.int k b) (.bool (decide (a<b))):=fun y z w=>by simp[eqGuard,binOp,Op.intCmp]
theorem SM:kR P .leq t (.int k a) (.int k b) (.bool (decide (a≤b))):=fun y z w=>by simp[eqGuard,binOp,Op.intCmp]
theorem SN:kR P .gtr t (.int k a) (.int k b) (.bool (decide (a>b))):=fun y z w=>by simp[eqGuard,binOp,Op.intCmp]
theorem SO:kR P .geq t (.int k a) (.int k b) (.bool (decide (a≥b))):=fun y z w=>by simp[eqGuard,binOp,Op.intCmp]
theorem SP:kR P .eql t (.int k a) (.int k b) (.bool (a==b)):=fun y z w=>by simp[eqGuard,binOp,Op.intCmp]
theorem SQ:kR P .neq t (.int k a) (.int k b) (.bool (a != b)):=fun y z w=>by simp[eqGuard,binOp,Op.intCmp]
theorem aeC{r:Int}(hb:b≠0)(h:k.wrap (a.tdiv b)=r):kR P .quo t (.int k a) (.int k b) (.int k r):=fun y z w=>by simp[eqGuard,binOp,Op.intDiv,hb,h]
theorem JK(hb:b≠0):kR P .rem t (.int k a) (.int k b) (.int k (a.tmod b)):=fun y z w=>by simp[eqGuard,binOp,Op.intDiv,hb]

theorem QI{a b:ByteArray}:kR P .eql t (.string a) (.string b) (.bool (a.toList==b.toList)):=fun y z w=>by simp[eqGuard,binOp,Op.stringOp]
theorem QJ{a b:ByteArray}:kR P .neq t (.string a) (.string b) (.bool (!(a.toList==b.toList))):=fun y z w=>by simp[eqGuard,binOp,Op.stringOp]
theorem JL{a b:ByteArray}(h:a.size+b.size≤9223372036854775807):kR P .add t (.string a) (.string b) (.string (a++b)):=fun y z w=>by
 have:¬(((a.size+b.size:Nat):Int)>IntKind.i64.max):=by
  have:IntKind.i64.max=9223372036854775807:=rfl;omega
 simp only[eqGuard,binOp,Op.stringOp,Sem.run_bind];simp only[this,if_false];simp

theorem EG{a b:Bool}(E:P.underlying t=some .bool):kR P .eql t (.bool a) (.bool b) (.bool (a==b)):=fun y z w=>by
 have:binOp .eql t (.bool a) (.bool b)=(do pure (.bool (←Op.equal t (.bool a) (.bool b)))):=rfl;simp only[eqGuard,this,Sem.run_bind];simp[run_equal_bool w t a b E]
theorem QK{a b:Bool}(E:P.underlying t=some .bool):kR P .neq t (.bool a) (.bool b) (.bool (!(a==b))):=fun y z w=>by
 have:binOp .neq t (.bool a) (.bool b)=(do pure (.bool (!(←Op.equal t (.bool a) (.bool b))))):=rfl;simp only[eqGuard,this,Sem.run_bind];simp[run_equal_bool w t a b E]

theorem cg.FZ{w:World}{L:Nat→Prop}{v:Value}(h:cg w L (.agg (us.map .v)) v):v = .agg us.toArray:=by
 cases h with
 | agg _ vs hl hr =>
  congr 1;congr 1;refine ext_getElem vJ fun i h1 h2=>?_;have:=hr i (by simpa using h2) h1;simp only[getElem_map] at this;exact this.kU

section
variable {G:List (Nat×List Value)} {x:St} {o:Oper}

theorem aa2 {t':TypeId} {z:Operand} {r:Bool} (ho:o.op = .binOp .eql t y z t') (hy:aE x y = .agg (us.map .v)) (hz:aE x z = .agg (xZ.map .v)) (hg:P.eqGuardType P.depth t=false)
  (hE:∀w,(Op.equalIn 10000 t (.agg us.toArray) (.agg xZ.toArray)).run P w = .ok r w):bU P G x o .none (.v (.bool r)):=fun C a w _ h=>by
 have h1:=h.eval y;have h2:=h.eval z;rw[hy] at h1;rw[hz] at h2;refine⟨_,.v _,fun w' _=>?_⟩;unfold execOp;simp only[ho,h1.FZ,h2.FZ,Sem.run_bind,run_eqGuard_agg _ _ _ _ _ _ _ hg,Result.andThen_ok,run_eql_struct,hE,Sem.run_pure]

theorem Pu {t':TypeId} {z:Operand} {r:Bool} (ho:o.op = .binOp .neq t y z t') (hy:aE x y = .agg (us.map .v)) (hz:aE x z = .agg (xZ.map .v)) (hg:P.eqGuardType P.depth t=false)
  (hE:∀w,(Op.equalIn 10000 t (.agg us.toArray) (.agg xZ.toArray)).run P w = .ok r w):bU P G x o .none (.v (.bool !r)):=fun C a w _ h=>by
 have h1:=h.eval y;have h2:=h.eval z;rw[hy] at h1;rw[hz] at h2;refine⟨_,.v _,fun w' _=>?_⟩;unfold execOp;simp only[ho,h1.FZ,h2.FZ,Sem.run_bind,run_eqGuard_agg _ _ _ _ _ _ _ hg,Result.andThen_ok,run_neq_struct,hE,Sem.run_pure]

def vg(b:UInt8):D:=.v (.int .u8 (b.toNat:Int))

theorem Zq{s e:TypeId}{bs:List UInt8}{n:Nat}(ho:o.op = .convert s t y)(hy:aE x y = .list 1 (bs.map vg) n)(hs:P.underlying s=some (.slice e))(he:P.underlying e=some (.int .u8))(ht:P.underlying t=some .string) :
  bU P G x o .j8 (.v (.string ⟨bs.toArray⟩)):=fun C a w _ h=>by
 have hr:=h.eval y;rw[hy] at hr;generalize hg:a.eval y=u at hr;generalize de:bs.map vg=cs at hr;cases hr with
 | mA _ ad cap =>
  have:bs=[]:=(by simpa using de)
  subst this;refine⟨_,.v _,fun w' _=>?_⟩;unfold execOp;simp only[ho,hg,Sem.run_bind,run_convert_bytes_string w' s t e ad 0 cap hs he ht];cases ad<;>simp[Conv.bytesToString,loadCells,loadCellsFrom]<;>rfl
 | list _ _ _ b I cap g hl q1 q2 hb hL hc O =>
  subst de;simp only[length_map,Nat.mul_one] at hl hc;refine⟨_,.v _,fun w' hw=>?_⟩;unfold execOp;have E:=run_convert_bytes_back (P:=P) w' s t e ⟨b,I,none⟩ cap bs hs he ht (fun j hj=>by
   rw[Addr.add_mid];have U:=World.cell?_of_block (w:=w) (a:=⟨b,I+j,none⟩) (hw b hb hL);rw[U,hc j hj];have:=O j (by simpa using hj);simp only[getElem_map,vg] at this;rw[this.kU])
  rw[hl] at E;simp only[ho,hg,Sem.run_bind,E,Result.andThen_ok,Sem.run_pure]
end

theorem age{b:Bool}:∀w,(Op.unary .not (.bool b)).run P w = .ok (.bool !b) w:=fun w=>rfl
theorem FE{r:Int}(h:k.wrap (0-a)=r):∀w,(Op.unary .neg (.int k a)).run P w = .ok (.int k r) w:=fun w=>by
 subst h;rfl

theorem oS{s:TypeId}{k':IntKind}{r:Int}{d:TypeDesc}(hs:∀w,(underlying s).run P w = .ok d w)(ht:∀w,(underlying t).run P w = .ok (.int k') w)(h:k'.wrap a=r):∀w,(convert s t (.int k a)).run P w = .ok (.int k' r) w:=fun w=>by
 subst h;simp[convert,hs,ht,Conv.intToInt]

theorem wrap_i64{x:Int}(h1:-9223372036854775808≤x)(h2:x≤9223372036854775807):IntKind.i64.wrap x=x:=IntWalk.i64_in _ w4

theorem UA{ts:Array TypeId}{E:TypeId}:∀cs w,(builtin .min ts E cs #[.int k a,.int k b]).run P w = .ok (.value (.int k (if b<a then b else a))) w:=fun cs w=>by
 simp[builtin,Builtin.min_,Builtin.min2]
theorem nH:(∀{p:Prop} [Decidable p],(decide p=true)=p)∧(∀{p:Prop} [Decidable p],(decide p=false)↔¬p)∧(∀{a b:Int},(a==b)=true↔a=b)∧(∀{a b:Int},(a != b)=true↔a≠b)∧(∀{a b:Bool},(a==b)=true↔a=b)∧(∀{a b:Bool},(a != b)=true↔a≠b)
  ∧ (∀{b:Bool},((!b)=true)=(b=false))∧(∀{b:Bool},((!b)=false)=(b=true))∧(∀{b:Bool},(¬b=true)=(b=false))∧(∀{b:Bool},(¬b=false)=(b=true))∧(∀{a b:Int},(a==b)=false↔¬a=b)∧(∀{a b:Int},(a != b)=false↔a=b)∧(∀{a b:Bool},(a==b)=false↔¬a=b)∧(∀{a b:Bool},(a != b)=false↔a=b)
  ∧ (∀{a b:Bool},((a&&b)=true)=(a=true∧b=true))∧(∀{a b:Bool},((a||b)=true)=(a=true∨b=true))∧(∀{b:Bool},(!!b)=b)∧(∀{a b:Bool},(a&&b)=false↔a=false∨b=false)∧(∀{a b:Bool},(a||b)=false↔a=false∧b=false)∧(∀{a b:Int},(¬a<b)↔b≤a)∧(∀{a b:Int},(¬a≤b)↔b<a):=by
 refine⟨fun {p} _=>by simp,fun {p} _=>by simp,by simp,by simp,by simp,by simp,by simp,by simp,by simp,by simp,by simp,by simp,by simp,by simp,by simp,by simp,by simp,by simp,by simp,by simp,by simp⟩
end Go.Proofs.YtkgmonfgofobaaaGreatDoor.V

namespace Go.Proofs.YtkgmonfgofobaaaGreatDoor.V
open List
open Go.RowKit
variable {P:Program} {C:dx} {G:List (Nat×List Value)} {Q:Exit→St→Prop} {x y:St} {ops:Array Oper} {l:List Oper} {o:Oper}
variable {t e:TypeId} {ps:List (Nat×Operand)} {pl:List (Nat×D)} {ds:List D} {sz i:Nat} {fo:Operand} {cG:Array Operand} {ts:Array TypeId} {α:Type} {lo hi:Option Operand}
theorem acC{z:Operand}{d:D}(ho:o.op = .move z)(hd:aE x z=d):bU P G x o .none d:=hd ▸ Z7 ho
theorem acD{z:Operand}{d:D}(ho:o.op = .assign z)(hd:aE x z=d):bU P G x o .none d:=hd ▸ Zx ho
theorem ZN{c y z:Operand}{t:Bool}{d:D}(ho:o.op = .pick c y z)(hc:aE x c = .v (.bool t))(h:t=true)(hd:aE x y=d):bU P G x o .none d:=by
 have:=O0 (P:=P) (G:=G) ho hc;rw[if_pos h,hd] at this;exact this
theorem ZO{c y z:Operand}{t:Bool}{d:D}(ho:o.op = .pick c y z)(hc:aE x c = .v (.bool t))(h:t=false)(hd:aE x z=d):bU P G x o .none d:=by
 have:=O0 (P:=P) (G:=G) ho hc;rw[if_neg (by rw[h];simp),hd] at this;exact this
def mW(x:St):List Operand→List D→Prop
 | [],[]=>True
 | o::r,d::r'=>aE x o=d∧mW x r r'
 | _,_=>False
theorem mW.eq:∀{os:List Operand} {ds:List D},mW x os ds→os.map (aE x)=ds
 | [],[],_=>rfl
 | o::r,d::r',h=>by rw[map_cons,h.1,mW.eq h.2]
 | [],_::_,h=>h.elim
 | _::_,[],h=>h.elim
def jD(x:St):List (Nat×Operand)→List (Nat×D)→Prop
 | [],[]=>True
 | p::r,q::r'=>p.1=q.1∧aE x p.2=q.2∧jD x r r'
 | _,_=>False
theorem jD.eq:∀{ps:List (Nat×Operand)} {ds:List (Nat×D)},jD x ps ds→lO x ps.toArray=ds
 | [],[],_=>rfl
 | p::r,(i,d)::r',h=>by
  have:=jD.eq h.2.2;simp only[lO,map_cons] at this ⊢;rw[this,h.1,h.2.1]
 | [],_::_,h=>h.elim
 | _::_,[],h=>h.elim
def kS:D→Bool
 | .bV=>false
 | _=>true
theorem A4{ps:List (Nat×D)}(h:ps.all (fun p=>kS p.2)=true):∀p∈ps,p.2≠.bV:=fun p hp he=>by
 have:=all_eq_true.1 h p hp;rw[he] at this;cases this
theorem oR {E:Array Field} {places:Array (Nat×Nat)} {z:Value} (ho:o.op = .build t ps.toArray) (hz:∀w,(zeroValue t).run P w = .ok z w)
  (I:∀w,(underlying t).run P w = .ok (.struct E) w) (hp:∀w,(E.mapM fun f=>do pure (f.offset,←sizeOf f.type):Sem (Array (Nat×Nat))).run P w = .ok places w)
  (gK:jD x ps pl) (hj:pl.all (fun p=>kS p.2)=true) (hd:mv (places[·]?) (z.cells.toList.map .v) pl=some ds):bU P G x o .none (.agg ds):=by
 refine ZM ho hz I hp ?_ ?_
 ·rw[gK.eq];exact A4 hj
 rw[gK.eq];exact hd
theorem Ef {n:Nat} {z:Value} (ho:o.op = .build t ps.toArray) (hz:∀w,(zeroValue t).run P w = .ok z w)
  (E:∀w,(underlying t).run P w = .ok (.array n e) w) (hs:∀w,(sizeOf e).run P w = .ok sz w)
  (gK:jD x ps pl) (hj:pl.all (fun p=>kS p.2)=true) (hd:mv (fun i=>some (i*sz,sz)) (z.cells.toList.map .v) pl=some ds):bU P G x o .none (.agg ds):=by
 refine ZA ho hz E hs ?_ ?_
 ·rw[gK.eq];exact A4 hj
 rw[gK.eq];exact hd
def cu(k:Nat):List D→List (Nat×D)
 | []=>[]
 | d::r=>(k,d)::cu (k+1) r
theorem Pv:∀(ds pre post:List D),ds.length≤post.length→c8 (pre++post) pre.length ds=(pre++ds)++post.drop ds.length
 | [],pre,post,_=>by simp[c8]
 | d::ds,pre,[],h=>by simp at h
 | d::ds,pre,p::post,h=>by
  rw[c8,show(pre++p::post).set pre.length d=(pre++[d])++post by simp,show pre.length+1=(pre++[d]).length by simp,Pv ds (pre++[d]) post px];simp
theorem SR{sz:Nat}:∀(pd:List D) (k:Nat) (pre post:List D),(pd.all fun d=>Nat.beq (cellsOf d).length sz)=true→pre.length=k*sz→post.length=pd.length*sz→mv (fun i=>some (i*sz,sz)) (pre++post) (cu k pd)=some (pre++pd.flatMap cellsOf)
 | [],k,pre,post,_,_,h=>by
  have:post=[]:=length_eq_zero_iff.1 px;simp[cu,mv,this]
 | d::r,k,pre,post,ha,h1,h2=>by
  rw[all_cons,Bool.and_eq_true] at ha;have hd:(cellsOf d).length=sz:=Nat.eq_of_beq_eq_true ha.1;have hp:post.length=r.length*sz+sz:=(by rw[h2,length_cons,Nat.succ_mul])
  rw[cu,mv];simp only;rw[if_neg (by simp only[hd,length_append,h1,hp,ne_eq,not_true_eq_false,decide_false,Bool.false_or,decide_eq_true_eq];omega),←h1,Pv _ _ _ w4,SR r (k+1) _ _ ha.2 (by rw[length_append,hd,h1,Nat.succ_mul]) (by rw[length_drop,hd];omega),flatMap_cons];simp
theorem Pw{pd zs:List D}(ha:(pd.all fun d=>Nat.beq (cellsOf d).length sz)=true)(hl:Nat.beq zs.length (pd.length*sz)=true)(jQ:pd.flatMap cellsOf=ds):mv (fun i=>some (i*sz,sz)) zs (cu 0 pd)=some ds:=by
 have:=SR pd 0 [] zs ha bq (Nat.eq_of_beq_eq_true hl);rw[nil_append,nil_append,jQ] at this;exact this
theorem OD.LF {tt len:Nat} {z:Value} {oL:List Value} (hw:bZ ops x o true) (ho:o.op = .buildSlice t len ps.toArray) (jG:o.dst=some tt) (hz:∀w,(zeroValue e).run P w = .ok z w)
  (E:∀w,(underlying t).run P w = .ok (.slice e) w) (hs:∀w,(sizeOf e).run P w = .ok sz w) (hl:Nat.ble 1 (len*sz)=true) (ir:Nat.ble (len*sz) (2 ^ 24)=true) (eX:(Array.range (len*sz)).map (fun i=>z.cells[i % z.cells.size]!)=oL.toArray)
  (gK:jD x ps pl) (hj:pl.all (fun p=>kS p.2)=true) (hd:mv (fun i=>some (i*sz,sz)) (oL.map .v) pl=some ds)
  (k:∀b,OD P C ops l ⟨x.n,(tt,.v (.slice (some ⟨b,0,none⟩) len len))::x.env,⟨b,e,ds.length,ds⟩::x.S⟩ Q) (hne:isMap e=false:=by rfl):OD P C ops (o::l) x Q:=by
 refine OD.fU hw (H7 (hne:=hne) (zs:=oL.map .v) (ds:=ds) ho jG hz E hs (Nat.le_of_ble_eq_true hl) (Nat.le_of_ble_eq_true ir) ?_ ?_ ?_ ?_) ?_
 ·rw[eX];congr 1;rw[map_map];exact(map_id oL).symm
 ·intro d hd;obtain⟨u,_,rfl⟩:=mem_map.1 hd;exact⟨u,rfl⟩
 ·rw[gK.eq];exact A4 hj
 ·rw[gK.eq];exact hd
 rintro _ ⟨b,rfl⟩;exact k b
theorem OD.alloc {e:TypeId} {z:Value} {t:Nat} {ds:List D} (hw:bZ ops x o true) (ho:o.op = .alloc e) (hd:o.dst=some t) (hz:∀w,(zeroValue e).run P w = .ok z w) (jQ:z.cells.toList.map .v=ds)
  (k:∀b,OD P C ops l ⟨x.n,(t,.v (.pointer (some ⟨b,0,none⟩)))::x.env,⟨b,e,ds.length,ds⟩::x.S⟩ Q) (hne:isMap e=false:=by rfl):OD P C ops (o::l) x Q :=
 OD.fU hw (Em (hne:=hne) ho hd hz jQ) fun y ⟨b,hy⟩=>hy ▸ k b
theorem OD.box {e:TypeId} {z:Operand} {t:Nat} {d:D} {ds:List D} (hw:bZ ops x o true) (ho:o.op = .box e z) (hd:o.dst=some t) (hy:aE x z=d) (hj:kS d=true) (jQ:cellsOf d=ds)
  (k:∀b,OD P C ops l ⟨x.n,(t,.v (.pointer (some ⟨b,0,none⟩)))::x.env,⟨b,e,ds.length,ds⟩::x.S⟩ Q) (hne:isMap e=false:=by rfl):OD P C ops (o::l) x Q :=
 OD.fU hw (aeA (hne:=hne) ho hd hy (fun h=>by rw[h] at hj;cases hj) jQ) fun y ⟨b,hy⟩=>hy ▸ k b
theorem OD.store {t:TypeId} {k b o' n:Nat} {B:ah} {d:D} {cs':List D} {y z:Operand} (hw:bZ ops x o true) (ho:o.op = .store t y z) (jG:o.dst=none) (hy:aE x y = .v (.pointer (some ⟨b,o',none⟩)))
  (hk:x.S[k]?=some B) (hb:B.b=b) (hz:aE x z=d) (hj:kS d=true) (h1:(cellsOf d).all one=true) (hn:∀w,(sizeOf t).run P w = .ok n w) (gp:(cellsOf d).length=n) (hl:Nat.ble (o'+n) B.cs.length=true) (de:c8 B.cs o' (cellsOf d)=cs')
  (K:OD P C ops l ⟨x.n,x.env,x.S.set k {B with cs:=cs'}⟩ Q) (hne:isMap B.e=false:=by rfl):OD P C ops (o::l) x Q :=
 OD.fU hw (Eo (hne:=hne) ho jG hy hk hb hz (fun h=>by rw[h] at hj;cases hj) h1 hn gp (Nat.le_of_ble_eq_true hl) de) fun y hy=>hy ▸ K
theorem OD.call {f t:Nat} {fo:Operand} {cG:Array Operand} {ts:Array TypeId} {args:List D} {Sf R:List ah} {post:D→List ah→Prop} (hw:bZ ops x o true) (ho:o.op = .call {callee:=.value fo,args:=cG,argTypes:=ts}) (hd:o.dst=some t)
  (hf:fo = .func f) (fb:∀args w,(callFunc f args).run P w = .ok (.enter f args) w) (hc:VC P C.G f args Sf post) (ha:mW x cG.toList args) (hp:x.S.Perm (Sf++R))
  (K:∀r S',post r S'→OD P C ops l ⟨x.n,(t,r)::x.env,S'++R⟩ Q):OD P C ops (o::l) x Q :=
 OD.fU hw (Bo ho hd hf fb ha.eq hp hc) fun y ⟨r,S',h,hy⟩=>hy ▸ K r S' h
theorem OD.gQ {f t:Nat} {args:List D} {r:D} (hw:bZ ops x o true) (ho:o.op = .call {callee:=.value fo,args:=cG,argTypes:=ts}) (hd:o.dst=some t)
  (hf:fo = .func f) (fb:∀args w,(callFunc f args).run P w = .ok (.enter f args) w) (hc:VP P C.G f args r) (ha:mW x cG.toList args)
  (K:OD P C ops l (x.put t r) Q):OD P C ops (o::l) x Q :=
 OD.call hw ho hd hf fb hc ha (fa _) fun E S' ⟨h1,h2⟩=>by subst h1 h2;exact K
theorem OD.lS {f t:Nat} {args E all:List D} {Sf R:List ah} {post:D→List ah→Prop} (hw:bZ ops x o true) (ho:o.op = .call {callee:=.value fo,args:=cG,argTypes:=ts}) (hd:o.dst=some t)
  (hf:aE x fo = .eA (.func f) E) (fb:∀args w,(callFunc f args).run P w = .ok (.enter f args) w) (hc:VC P C.G f all Sf post) (fm:args++E=all) (ha:mW x cG.toList args) (hp:x.S.Perm (Sf++R))
  (K:∀r S',post r S'→OD P C ops l ⟨x.n,(t,r)::x.env,S'++R⟩ Q):OD P C ops (o::l) x Q :=
 OD.fU hw (aa0 ho hd hf fb (by rw[ha.eq,fm]) hp hc) fun y ⟨r,S',h,hy⟩=>hy ▸ K r S' h
theorem OD.append {s y:Operand} {t e tt sz bytes n m b cap k:Nat} {z:Value} {B:ah} {cs:List D} (hw:bZ ops x o true) (ho:o.op = .call {callee:=.builtin .append,args:=#[s,y],argTypes:=#[t,t]}) (hd:o.dst=some tt)
  (ht:P.underlying t=some (.slice e)) (hi:(P.info? e).map (fun i=>(i.zero,i.size,i.bytes))=some (some z,sz,bytes)) (eX:z.cells.size=sz) (iu:0<sz)
  (hs:aE x s = .v (.slice (some ⟨b,0,none⟩) n cap)) (hk:x.S[k]?=some B) (hb:B.b=b) (he:B.e=e) (O:B.size=cap*sz) (hl:B.cs.length=n*sz) (hn:n≤cap) (U:cap≤maxLen)
  (hy:aE x y = .list sz cs m) (iS:∀d∈cs,one d=true) (hm:0<m) (gz:n+m≤maxLen) (I:(n+m)*bytes≤140737488355328)
  (K:∀Z E,n+m≤E→E≤maxLen→OD P C ops l ⟨x.n,(tt,.v (.slice (some ⟨Z,0,none⟩) (n+m) E))::x.env,⟨Z,e,E*sz,B.cs++cs⟩::x.S.eraseIdx k⟩ Q) (hne:isMap B.e=false:=by rfl):OD P C ops (o::l) x Q :=
 OD.fU hw (O3 (hne:=hne) ho hd ht hi eX iu hs hk hb he O hl hn U hy iS hm gz I) fun y ⟨Z,E,h1,h2,hy⟩=>hy ▸ K Z E h1 h2
theorem OD.IB {s y:Operand} {t e tt bytes m:Nat} {z:Value} {cs:List D} (hw:bZ ops x o true) (ho:o.op = .call {callee:=.builtin .append,args:=#[s,y],argTypes:=#[t,t]}) (hd:o.dst=some tt)
  (ht:P.underlying t=some (.slice e)) (hi:(P.info? e).map (fun i=>(i.zero,i.size,i.bytes))=some (some z,sz,bytes)) (eX:z.cells.size=sz) (U:0<sz)
  (hs:aE x s = .v (.slice none 0 0)) (hy:aE x y = .list sz cs m) (iS:∀d∈cs,one d=true) (hm:0<m) (Z:m≤maxLen) (I:m*bytes≤140737488355328)
  (K:∀O E,m≤E→E≤maxLen→OD P C ops l ⟨x.n,(tt,.v (.slice (some ⟨O,0,none⟩) m E))::x.env,⟨O,e,E*sz,cs⟩::x.S⟩ Q) (hne:isMap e=false:=by rfl):OD P C ops (o::l) x Q :=
 OD.fU hw (OF (hne:=hne) ho hd ht hi eX U hs hy iS hm Z I) fun y ⟨O,E,h1,h2,hy⟩=>hy ▸ K O E h1 h2
theorem OD.split{t:Nat}{b:Bool}(hb:look t x.env = .v (.bool b))(h1:b=true→OD P C ops l x Q)(h2:b=false→OD P C ops l x Q):OD P C ops l x Q:=by
 cases h:b
 ·exact h2 h
 exact h1 h
theorem Zj{z:Operand}{a':Addr}(ho:o.op = .nilCheck z)(hz:aE x z = .v (.pointer (some a'))):bU P G x o .none (.v (.pointer (some a'))):=fun C a w _ h =>
 ⟨_,.v _,fun w' _=>by unfold execOp;simp only[ho,h.flat hz];rfl⟩
theorem Zi{z:Operand}{cs:List D}{off:Nat}(ho:o.op = .nilCheck z)(hz:aE x z = .fJ cs off):bU P G x o .none (.fJ cs off):=fun C a w _ h=>by
 have hr:=h.eval z;rw[hz] at hr;generalize hg:a.eval z=u at hr;cases hr with
 | fJ _ _ b E g hb hL hc I=>exact⟨_,.fJ cs off b E g hb hL hc I,fun w' _=>by unfold execOp;simp only[ho,hg];rfl⟩
theorem pP{fn:Fn}{E:Array Operand}(ho:o.op = .makeFunc fn #[] E)(hd:mW x E.toList ds):bU P G x o .none (.eA fn ds):=aaa ho hd.eq
theorem cm{α:Type}{g:α→List D}{sz:Nat}(hg:∀a,(g a).length=sz):∀(ls:List α),(ls.flatMap g).length=ls.length*sz
 | []=>by simp
 | a::r=>by rw[flatMap_cons,length_append,hg,cm hg r,length_cons,Nat.add_mul];omega
theorem uW{α:Type}{g:α→List D}{sz:Nat}(hg:∀a,(g a).length=sz):∀(ls:List α) (i:Nat),(ls.flatMap g).drop (i*sz)=(ls.drop i).flatMap g
 | [],i=>by simp
 | a::r,0=>by simp
 | a::r,i+1=>by
  rw[flatMap_cons,drop_succ_cons,←uW hg r i,Nat.add_mul,Nat.one_mul,Nat.add_comm,←drop_drop];congr 1;rw[←hg a,drop_left]
theorem tO{α:Type}{g:α→List D}{sz:Nat}(hg:∀a,(g a).length=sz):∀(ls:List α) (i:Nat),(ls.flatMap g).take (i*sz)=(ls.take i).flatMap g
 | [],i=>by simp
 | a::r,0=>by simp
 | a::r,i+1=>by
  rw[flatMap_cons,take_succ_cons,flatMap_cons,←tO hg r i,Nat.add_mul,Nat.one_mul,Nat.add_comm,←hg a,take_length_add_append]
theorem F0{g:α→List D}(hg:∀a,(g a).length=sz){ls:List α}(hi:i<ls.length):((ls.flatMap g).drop (i*sz)).take sz=g ls[i]:=by
 rw[uW hg,drop_eq_getElem_cons hi,flatMap_cons,←hg ls[i],take_left]
theorem yX{g:α→List D}(hg:∀a,(g a).length=sz){ls:List α}{j:Nat}{d:D}(hi:i<ls.length)(hd:(g ls[i])[j]?=some d):(ls.flatMap g)[i*sz+j]?=some d:=by
 have h:=F0 hg hi;have hj:=(List.getElem?_eq_some_iff.1 hd).1;rw[hg] at hj;rw[←hd,←h,getElem?_take_of_lt hj,getElem?_drop]
theorem I9{g:α→List D}(hg:∀a,(g a).length=sz){ls:List α}{d:D}(hi:i<ls.length)(hd:(g ls[i])[0]?=some d):(ls.flatMap g)[i*sz]?=some d:=yX hg hi hd
theorem tW{g:α→List D}(hg:∀a,(g a).all one=true)(ls:List α):∀d∈ls.flatMap g,one d=true:=fun d hd=>by
 obtain⟨a,_,h⟩:=mem_flatMap.1 hd;exact all_eq_true.1 (hg a) d h
theorem ZP {g:α→List D} {h':Nat} (hg:∀a,(g a).length=sz) {ls:List α} {y:Operand} (ho:o.op = .slice t y lo hi none) (hy:aE x y = .list sz (ls.flatMap g) ls.length) (eJ:mS x lo 0 0) (eD:mS x hi h' ls.length)
  (E:∀w,(underlying t).run P w = .ok (.slice e) w) (hs:∀w,(sizeOf e).run P w = .ok sz w) (h2:h'≤ls.length):bU P G x o .none (.list sz ((ls.take h').flatMap g) (ls.take h').length):=by
 have:=Ia (P:=P) (G:=G) ho hy eJ eD E hs (Nat.zero_le _) h2;rw[Nat.zero_mul,drop_zero,Nat.sub_zero,tO hg] at this;rw[length_take,Nat.min_eq_left h2];exact this
theorem ZQ {g:α→List D} {l':Nat} (hg:∀a,(g a).length=sz) {ls:List α} {y:Operand} (ho:o.op = .slice t y lo hi none) (hy:aE x y = .list sz (ls.flatMap g) ls.length) (eJ:mS x lo l' 0) (eD:mS x hi ls.length ls.length)
  (E:∀w,(underlying t).run P w = .ok (.slice e) w) (hs:∀w,(sizeOf e).run P w = .ok sz w) (h2:l'≤ls.length):bU P G x o .none (.list sz ((ls.drop l').flatMap g) (ls.drop l').length):=by
 have:=Ia (P:=P) (G:=G) ho hy eJ eD E hs h2 (Nat.le_refl _);rw[uW hg,take_of_length_le (by rw[cm hg,length_drop];exact Nat.le_refl _)] at this;rw[length_drop];exact this

end Go.Proofs.YtkgmonfgofobaaaGreatDoor.V
namespace Go.Proofs.YtkgmonfgofobaaaGreatDoor.V
open List
open Go.RowKit
variable {P:Program} {C:dx} {Q:Exit→St→Prop} {x:St} {ops:Array Oper} {o:Oper} {S1 T:List Nat} {fuel i:Nat} {ld:Array Bool}
variable {k t:Nat} {B:ah}
theorem Bw{S:List ah}(hk:S[k]?=some B):B.b∈av S:=mem_map.2 ⟨B,mem_of_getElem? hk,rfl⟩
theorem qC{S:List ah}{k0:Nat}(hk:x.S[k]?=some B)(h0:S[k0]?=some B):Safe x (av S) (.fG k):=⟨B,hk,Bw h0⟩
theorem AD.split{b:Bool}(hb:look t x.env = .v (.bool b))(h1:b=true→AD P C ops S1 T fuel ld x Q)(h2:b=false→AD P C ops S1 T fuel ld x Q):AD P C ops S1 T fuel ld x Q:=by
 cases h:b
 ·exact h2 h
 exact h1 h
theorem dH.split{b:Bool}(hb:look t x.env = .v (.bool b))(h1:b=true→dH P C ops S1 T fuel ld x Q)(h2:b=false→dH P C ops S1 T fuel ld x Q):dH P C ops S1 T fuel ld x Q:=by
 cases h:b
 ·exact h2 h
 exact h1 h
theorem bB.LG{post:St→Prop}(hi:ops[i]?=some o)(hw:bZ ops x o true)(h:fM P C.G x o [] post)(k:∀y,post y→AD P C ops S1 T fuel (ld.setIfInBounds i true) y Q):bB P C ops S1 T fuel ld x Q i :=
 bB.fU hi hw h (fun _ _ _ _ _ _ hb=>by simp at hb) (fun _ hb=>by simp at hb) k
theorem Gt{C:dx}{a:Act}{w:World}(h:bH C x a w)(hk:x.S[k]?=some B)(hT:∀b∈T,b∈av (x.S.eraseIdx k)):∀b∈T,b∉[B.b]:=fun b hb hm=>by
 have hp:(av x.S).Perm (B.b::av (x.S.eraseIdx k)):=(by have:=(uM hk).map ah.b;simpa[av] using this)
 have hn:=(nodup_cons.1 (hp.nodup_iff.1 h.own.apart)).1;have:b=B.b:=(by simpa using hm)
 exact hn (this ▸ hT b hb)
theorem bB.LF {t e:TypeId} {tt len sz:Nat} {ps:List (Nat×Operand)} {pl:List (Nat×D)} {z:Value} {oL:List Value} {ds:List D} (hi:ops[i]?=some o) (hw:bZ ops x o true) (ho:o.op = .buildSlice t len ps.toArray) (jG:o.dst=some tt) (hz:∀w,(zeroValue e).run P w = .ok z w)
  (E:∀w,(underlying t).run P w = .ok (.slice e) w) (hs:∀w,(sizeOf e).run P w = .ok sz w) (hl:Nat.ble 1 (len*sz)=true) (ir:Nat.ble (len*sz) (2 ^ 24)=true) (eX:(Array.range (len*sz)).map (fun i=>z.cells[i % z.cells.size]!)=oL.toArray)
  (gK:jD x ps pl) (hj:pl.all (fun p=>kS p.2)=true) (hd:mv (fun i=>some (i*sz,sz)) (oL.map .v) pl=some ds)
  (k:∀b,AD P C ops S1 T fuel (ld.setIfInBounds i true) ⟨x.n,(tt,.v (.slice (some ⟨b,0,none⟩) len len))::x.env,⟨b,e,ds.length,ds⟩::x.S⟩ Q) (hne:isMap e=false:=by rfl):bB P C ops S1 T fuel ld x Q i:=by
 refine bB.LG hi hw (H7 (hne:=hne) (zs:=oL.map .v) (ds:=ds) ho jG hz E hs (Nat.le_of_ble_eq_true hl) (Nat.le_of_ble_eq_true ir) ?_ ?_ ?_ ?_) ?_
 ·rw[eX];congr 1;rw[map_map];exact(map_id oL).symm
 ·intro d hd;obtain⟨u,_,rfl⟩:=mem_map.1 hd;exact⟨u,rfl⟩
 ·rw[gK.eq];exact A4 hj
 ·rw[gK.eq];exact hd
 rintro _ ⟨b,rfl⟩;exact k b
theorem bB.store {t:TypeId} {k b o' n:Nat} {B:ah} {d:D} {cs':List D} {y z:Operand} (hi:ops[i]?=some o) (hw:bZ ops x o true) (ho:o.op = .store t y z) (jG:o.dst=none) (hy:aE x y = .v (.pointer (some ⟨b,o',none⟩)))
  (hk:x.S[k]?=some B) (hb:B.b=b) (hz:aE x z=d) (hj:kS d=true) (h1:(cellsOf d).all one=true) (hn:∀w,(sizeOf t).run P w = .ok n w) (gp:(cellsOf d).length=n) (hl:Nat.ble (o'+n) B.cs.length=true) (de:c8 B.cs o' (cellsOf d)=cs')
  (hT:∀b∈T,b∈av (x.S.eraseIdx k))
  (K:AD P C ops S1 T fuel (ld.setIfInBounds i true) ⟨x.n,x.env,x.S.set k {B with cs:=cs'}⟩ Q) (hne:isMap B.e=false:=by rfl):bB P C ops S1 T fuel ld x Q i :=
 bB.fU hi hw (Eo (hne:=hne) ho jG hy hk hb hz (fun h=>by rw[h] at hj;cases hj) h1 hn gp (Nat.le_of_ble_eq_true hl) de) (fun C a w hs I E=>hb ▸ Gt hs hk hT I E) (fun I E=>by
  have:I=b:=(by simpa using E)
  subst this;rw[←hb];exact Bw hk) fun y hy=>hy ▸ K
theorem bB.gQ {f:Nat} {fo:Operand} {cG:Array Operand} {ts:Array TypeId} {args:List D} {r:D} (hi:ops[i]?=some o) (hw:bZ ops x o true) (ho:o.op = .call {callee:=.value fo,args:=cG,argTypes:=ts}) (hd:o.dst=some t)
  (hf:fo = .func f) (fb:∀args w,(callFunc f args).run P w = .ok (.enter f args) w) (hc:VP P C.G f args r) (ha:mW x cG.toList args)
  (K:AD P C ops S1 T fuel (ld.setIfInBounds i true) (x.put t r) Q):bB P C ops S1 T fuel ld x Q i :=
 bB.LG hi hw (Bo ho hd hf fb ha.eq (fa _) hc) fun y ⟨E,S',⟨h1,h2⟩,hy⟩=>by subst h1 h2;exact hy ▸ K
theorem bB.call {f t:Nat} {fo:Operand} {cG:Array Operand} {ts:Array TypeId} {args:List D} {Sf R:List ah} {post:D→List ah→Prop} (hi:ops[i]?=some o) (hw:bZ ops x o true) (ho:o.op = .call {callee:=.value fo,args:=cG,argTypes:=ts}) (hd:o.dst=some t)
  (hf:fo = .func f) (fb:∀args w,(callFunc f args).run P w = .ok (.enter f args) w) (hc:VC P C.G f args Sf post) (ha:mW x cG.toList args) (hp:x.S.Perm (Sf++R)) (hT:∀b∈T,b∈av R)
  (K:∀r S',post r S'→AD P C ops S1 T fuel (ld.setIfInBounds i true) ⟨x.n,(t,r)::x.env,S'++R⟩ Q):bB P C ops S1 T fuel ld x Q i :=
 bB.fU hi hw (Bo ho hd hf fb ha.eq hp hc) (fun C a w hs b hb hm=>by
  have h1:(av x.S).Perm (av Sf++av R):=(by have:=hp.map ah.b;simpa[av] using this)
  have h2:=h1.nodup_iff.1 hs.own.apart;exact(nodup_append.1 h2).2.2 b hm b (hT b hb) rfl) (fun b hb=>by
  have h1:(av x.S).Perm (av Sf++av R):=(by have:=hp.map ah.b;simpa[av] using this)
  exact h1.symm.subset (mem_append_left _ hb)) fun y ⟨r,S',h,hy⟩=>hy ▸ K r S' h
theorem bB.append {s y:Operand} {t e tt sz bytes n m b cap k:Nat} {z:Value} {B:ah} {cs:List D} (Hl:ops[i]?=some o) (hw:bZ ops x o true) (ho:o.op = .call {callee:=.builtin .append,args:=#[s,y],argTypes:=#[t,t]}) (hd:o.dst=some tt)
  (ht:P.underlying t=some (.slice e)) (hi:(P.info? e).map (fun i=>(i.zero,i.size,i.bytes))=some (some z,sz,bytes)) (eX:z.cells.size=sz) (iu:0<sz)
  (hs:aE x s = .v (.slice (some ⟨b,0,none⟩) n cap)) (hk:x.S[k]?=some B) (hb:B.b=b) (he:B.e=e) (U:B.size=cap*sz) (hl:B.cs.length=n*sz) (hn:n≤cap) (qb:cap≤maxLen)
  (hy:aE x y = .list sz cs m) (iS:∀d∈cs,one d=true) (hm:0<m) (gz:n+m≤maxLen) (I:(n+m)*bytes≤140737488355328) (hT:∀b∈T,b∈av (x.S.eraseIdx k))
  (K:∀O E,n+m≤E→E≤maxLen→AD P C ops S1 T fuel (ld.setIfInBounds i true) ⟨x.n,(tt,.v (.slice (some ⟨O,0,none⟩) (n+m) E))::x.env,⟨O,e,E*sz,B.cs++cs⟩::x.S.eraseIdx k⟩ Q) (hne:isMap B.e=false:=by rfl):bB P C ops S1 T fuel ld x Q i :=
 bB.fU Hl hw (O3 (hne:=hne) ho hd ht hi eX iu hs hk hb he U hl hn qb hy iS hm gz I) (fun C a w hs O Z=>hb ▸ Gt hs hk hT O Z) (fun O Z=>by
  have:O=b:=(by simpa using Z)
  subst this;rw[←hb];exact Bw hk) fun y ⟨O,E,h1,h2,hy⟩=>hy ▸ K O E h1 h2
theorem bB.IB {s y:Operand} {e tt sz bytes m:Nat} {z:Value} {cs:List D} (U:ops[i]?=some o) (hw:bZ ops x o true) (ho:o.op = .call {callee:=.builtin .append,args:=#[s,y],argTypes:=#[t,t]}) (hd:o.dst=some tt)
  (ht:P.underlying t=some (.slice e)) (hi:(P.info? e).map (fun i=>(i.zero,i.size,i.bytes))=some (some z,sz,bytes)) (eX:z.cells.size=sz) (Z:0<sz)
  (hs:aE x s = .v (.slice none 0 0)) (hy:aE x y = .list sz cs m) (iS:∀d∈cs,one d=true) (hm:0<m) (gz:m≤maxLen) (I:m*bytes≤140737488355328)
  (K:∀O E,m≤E→E≤maxLen→AD P C ops S1 T fuel (ld.setIfInBounds i true) ⟨x.n,(tt,.v (.slice (some ⟨O,0,none⟩) m E))::x.env,⟨O,e,E*sz,cs⟩::x.S⟩ Q) (hne:isMap e=false:=by rfl):bB P C ops S1 T fuel ld x Q i :=
 bB.LG U hw (OF (hne:=hne) ho hd ht hi eX Z hs hy iS hm gz I) fun y ⟨O,E,h1,h2,hy⟩=>hy ▸ K O E h1 h2

end Go.Proofs.YtkgmonfgofobaaaGreatDoor.V
