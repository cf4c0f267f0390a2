/-
  What the proof of TablesMade leans on, part 5 of 9: walks of the program's functions at the level of values, and plain facts of what they compute.
-/
import Derived.Test.YtdgichenhdikgaaGreatDoorPTablesMade4
set_option linter.unusedVariables false
set_option linter.unusedSimpArgs false
set_option maxRecDepth 100000
set_option maxHeartbeats 4000000
namespace Go.Proofs.YtdgichenhdikgaaGreatDoor.Ex
open List
open Go.Proofs.Tryz
open Go.RowKit V Pk Vl Go.Proofs.YtdgichenhdikgaaGreatDoor.Nm Pc
variable {α:Type} {l:List aX} {i:Nat} {h:Int}
theorem uO(p:α→Bool)(ls:List α):-1≤dR p ls∧dR p ls<ls.length:=by
 unfold dR;cases h:ls.findIdx? p with
 | none=>simp;omega
 | some i=>have:=(findIdx?_eq_some_iff_findIdx_eq.1 h).1;simp;omega
def bM(l:List cA)(nm:ByteArray):Int:=dR (fun c=>c.n.toList==nm.toList) l
def rF(a b:Int):Bool:=a==b||a==0
def okF(k a b:Int):Bool :=
 if k=3∨k=4 then rF a 1&&rF b 1 else if k=5 then rF a 1 else if k=6∨k=7 then rF a b||b==0 else if k=8∨k=9∨k=10 then rF a 2&&rF b 2 else true
def wR(k:Int):Int:=if k=8∨k=9∨k=10 then 2 else 1
def uU(l:List cA)(nm:ByteArray):Int×Int:=if bM l nm<0 then (0,8) else ((l.getD (bM l nm).toNat ⟨⟨#[]⟩,0⟩).k,0)
def je(l:List cA)(o:aX)(a b:Int):Int×Int :=
 if o.k=1 then (o.v.k,0) else if o.k=2 then uU l o.nm else if okF o.k a b=true then (wR o.k,0) else (0,4)
def fm(z:α)(k:Int)(st:List α):α:=if 0<bP k then st.getD (st.length-(bP k).toNat) z else z
def fa(z:α)(k:Int)(st:List α):α:=if 1<bP k then st.getD (st.length-(bP k).toNat+1) z else z
def jD{α:Type}(z:α)(f:aX→α→α→α × Int):List aX→List α→α × Int
 | [],st=>(st.getD 0 z,0)
 | o::r,st =>
  if (f o (fm z o.k st) (fa z o.k st)).2≠0 then (z,(f o (fm z o.k st) (fa z o.k st)).2)
  else jD z f r (st.take (st.length-(bP o.k).toNat)++[(f o (fm z o.k st) (fa z o.k st)).1])
theorem Rt{z:α}{f:aX→α→α→α × Int}{st:List α}(hi:i<l.length)(h:(f l[i] (fm z l[i].k st) (fa z l[i].k st)).2≠0) :
  jD z f (l.drop i) st=(z,(f l[i] (fm z l[i].k st) (fa z l[i].k st)).2):=by rw[drop_eq_getElem_cons hi,jD,if_pos h]
theorem Ro{z:α}{f:aX→α→α→α × Int}{st:List α}(hi:i<l.length)(h:(f l[i] (fm z l[i].k st) (fa z l[i].k st)).2=0) :
  jD z f (l.drop i) st=jD z f (l.drop (i+1)) (st.take (st.length-(bP l[i].k).toNat)++[(f l[i] (fm z l[i].k st) (fa z l[i].k st)).1]):=by
 rw[drop_eq_getElem_cons hi,jD,if_neg (by rw[h];simp)]
theorem Qw{z:α}{f:aX→α→α→α × Int}{st:List α}(hi:¬i<l.length):jD z f (l.drop i) st=(st.getD 0 z,0):=by
 rw[drop_of_length_le w4];rfl
theorem O5(hi:i<l.length)(h0:fK h (l.drop i)=0):fj h l[i]=0∧fK (h+(1-bP l[i].k)) (l.drop (i+1))=0:=by
 rw[drop_eq_getElem_cons hi,fK] at h0;by_cases he:fj h l[i]=0
 ·rw[if_pos he] at h0;exact⟨he,h0⟩
 rw[if_neg he] at h0;exact absurd h0 he
theorem Qx(hi:¬i<l.length)(h0:fK h (l.drop i)=0):h=1:=by
 rw[drop_of_length_le w4,fK] at h0;split at h0
 ·assumption
 cases h0
theorem v8{o:aX}(he:fj h o=0):bP o.k≤h∧(1≤o.k∧o.k≤11)∧iU o.v=0∧(o.k=2→cU o.nm=0):=by
 unfold fj at he;split at he
 ·cases he
 split at he
 ·rename_i h2;exact absurd he h2
 split at he
 ·cases he
 split at he
 ·rename_i h4;exact absurd he h4.2
 split at he
 ·cases he
 rename_i q1 q2 I E O;refine⟨by omega,by omega,by simpa using q2,fun hk=>?_⟩;by_cases hn:cU o.nm=0
 ·exact hn
 exact absurd ⟨hk,hn⟩ E
def tL(l:List cA)(ops:List aX):Int×Int:=jD 0 (je l) ops []
def ey(l:List cA)(ops:List aX):Int×Int:=if fI l≠0 then (0,fI l) else if iT ops≠0 then (0,iT ops) else tL l ops
def pL(r:Int×Int):D:=.dF [ae r.1,ae r.2]
def cI(n:Int):List D:=[ae n]
theorem eI(n:Int):(cI n).length=1:=rfl
theorem nD(n:Int):(cI n).all V.one=true:=rfl
theorem wj{ops:List aX}(h:iT ops=0):ops.length≤40∧fK 0 ops=0:=by
 unfold iT at h;split at h
 ·cases h
 exact⟨by omega,h⟩
variable {G:List (Nat×List Value)}
theorem EA(k:Int):VP Tryz.prog G 60 [ae k] (ae (bP k)):=by
 refine VC.body func60 rfl ntmps60 aS fun X0 w0 aZ=>?_;exact We
theorem Z9(c:cA)(nm:ByteArray)(b:Nat):VC Tryz.prog G 107 [.agg (cC c),dI b] [⟨b,9,1,[bn nm]⟩] (fun r S=>r=cg (c.n.toList==nm.toList)∧S=[⟨b,9,1,[bn nm]⟩]):=by
 refine VC.body func107 rfl ntmps107 aS fun X0 w0 aZ=>?_;exact z85
theorem pu(l:List cA)(hl:l.length≤6)(nm:ByteArray):VP Tryz.prog G 63 [av 2 cC l,bn nm] (ae (bM l nm)):=by
 refine VC.body func63 rfl ntmps63 aS fun X0 w0 aZ=>?_;refine bY ?_;refine OD.box (ds:=[_]) ap rfl rfl ot rfl rfl (fun b3=>?_);refine an 8 [0,3] ?_;refine aD 1 ?_;refine bH (pi (ds:=[_]) rfl ⟨ot,trivial⟩) ?_;refine OD.call ap rfl rfl rfl call106 (It l 107 [dI b3] _ (fun c=>c.n.toList==nm.toList) call107 (fun h _=>Z9 h nm b3) w4) ⟨ot,ot,trivial⟩ (kf (k:=0) rfl) ?_;rintro _ S2 ⟨rfl,iG⟩;rw[iG];clear iG;refine an 8 [4] ?_;exact z51
theorem yV(a b:Int):VP Tryz.prog G 134 [ae a,ae b] (cg (rF a b)):=by
 refine VC.body func134 rfl ntmps134 aS fun X0 w0 aZ=>?_;refine af [0,1] ?_;refine aD 4 ?_;refine bX 8 (fun I E=>?_) (fun I E=>?_)
 ·refine bg [4] ?_;refine eR ?_;refine⟨vb ?_,rfl⟩;unfold rF;simp_all
 refine bg [4] ?_;refine eR ?_;refine⟨vb ?_,rfl⟩;unfold rF;simp_all
theorem adD(l:List cA)(hl:l.length≤6)(o:aX)(a b:Int):VP Tryz.prog G 99 [.agg (cO o),av 2 cC l,ae a,ae b] (pL (je l o a b)):=by
 refine VC.body func99 rfl ntmps99 aS fun X0 w0 aZ=>?_;unfold cO pL;have I:=uO (fun c:cA=>c.n.toList==o.nm.toList) l;have E:bM l o.nm=dR (fun c:cA=>c.n.toList==o.nm.toList) l:=rfl;rw[←E] at I;clear E;refine bY ?_;refine OD.box (ds:=[_,_,_,_,_]) ap rfl rfl ot rfl rfl (fun b4=>?_);refine an 76 [1,2,3,4] ?_;refine af [1,2,3,4,10] ?_;refine af [1,2,3,4,10,11,12] ?_;refine af [1,2,3,4,10,11,12,15] ?_;refine af [1,2,3,4,10,11,12,15,16] ?_;refine au ?_ ?_<;>intro aN bC
 ·exact z22
 refine af [1,2,3,4,10,11,12,15,21] ?_;refine au ?_ ?_<;>intro aY cz
 ·refine cH [1,13] (pu l hl o.nm) ?_;refine af [1,13,28] ?_;refine au ?_ ?_<;>intro bZ cM
  ·have dA:uU l o.nm=(0,8):=(by unfold uU;rw[if_pos w4])
   exact z22
  have O:(bM l o.nm).toNat<l.length:=(by omega)
  have dA:uU l o.nm=(l[(bM l o.nm).toNat].k,0):=(by unfold uU;rw[if_neg w4,getD_eq_getElem?_getD,getElem?_eq_getElem O];rfl)
  exact z22
 refine af [2,3,10,11,12,15,34] ?_;refine au ?_ ?_<;>intro cW ek
 ·refine eM ?_;exact UZ
 refine cm [2,3,10,11,12,15,34] ?_;refine au ?_ ?_<;>intro eA fA
 ·exact UZ
 refine af [2,3,10,11,12,15,45] ?_;refine au ?_ ?_<;>intro fx gG
 ·refine dN 2 ?_;refine OD.kr (f:=134) (args:=[_,_]) (all:=[_,_]) (Sf:=[]) ap rfl rfl ot call134 (yV a 1) rfl ⟨ot,bL,trivial⟩ (eT _) ?_;rintro _ _ ⟨rfl,rfl⟩;exact z21
 refine af [2,3,10,11,12,15,50] ?_;refine au ?_ ?_<;>intro gX kO
 ·refine eM ?_;exact z124
 refine cm [2,3,10,11,12,15,50] ?_;refine au ?_ ?_<;>intro gv lp
 ·exact z124
 refine af [2,3,10,11,12,15,61] ?_;refine au ?_ ?_<;>intro pQ U
 ·refine eM ?_;exact KK
 refine af [2,3,10,11,12,15,61] ?_;refine au ?_ ?_<;>intro C2 Z
 ·refine eM ?_;exact KK
 refine cm [2,3,10,11,12,61] ?_;refine au ?_ ?_<;>intro FL Bm
 ·exact KK
 refine af [12,74] ?_;refine fT ?_;refine af [8,9] ?_;refine aJ [] ?_;refine⟨?_,rfl⟩;unfold je okF wR;simp_all
theorem OJ(l:List cA)(hl:l.length≤6)(o:aX)(a b a' I:Int)(ha:a=a')(hb:b=I)(b2:Nat):VC Tryz.prog G 98 [.agg (cO o),ae a',ae I,dI b2] [⟨b2,27,1,[av 2 cC l]⟩] (fun r S=>r=pL (je l o a b)∧S=[⟨b2,27,1,[av 2 cC l]⟩]):=by
 refine VC.body func98 rfl ntmps98 aS fun X0 w0 aZ=>?_;subst ha hb;have E:=adD (G:=G) l hl o a b;unfold cO at E ⊢;unfold pL at E ⊢;refine bY ?_;refine OD.box (ds:=[_,_,_,_,_]) ap rfl rfl ot rfl rfl (fun b4=>?_);refine an 16 [1,2,3,4] ?_;refine cH [7,8] (E) ?_;refine aJ [⟨b2,27,1,[av 2 cC l]⟩] ?_;exact⟨rfl,rfl⟩
theorem ZN:(Tryz.prog.info? 3).map (fun i=>(i.zero,i.size,i.bytes))=some (some (.int .i64 0),1,8):=by kernel_rfl
theorem abN(l:List cA)(hl:l.length≤6)(ops:List aX)(pW:ops.length≤40)(hx:fK 0 ops=0)(b2:Nat):VC Tryz.prog G 97 [av 5 cO ops,.eB (.func 98) [dI b2]] [⟨b2,27,1,[av 2 cC l]⟩] (fun r S=>r=pL (tL l ops)∧S=[⟨b2,27,1,[av 2 cC l]⟩]):=by
 refine VC.body func97 rfl ntmps97 aS fun X0 w0 aZ=>?_;unfold pL;refine af [0,1] ?_;refine af [0,1,6] ?_;refine bY ?_;refine bg [0,1,6,7] ?_;refine af [1,6,7,16,17,18] ?_;refine CD.block ?_;refine mR (fun (E:Nat×List Int×Option Addr×Nat×List ah) aI=>match E with|(i,st,I,j6,Z)=>(i≤ops.length)∧(st.length≤i)∧(fK ((st.length:Nat):Int) (ops.drop i)=0)∧(tL l ops=jD 0 (je l) (ops.drop i) st)∧(bz 3 1 ((st).flatMap cI) (st).length I j6 Z)∧aI=(⟨64,[(1,.eB (.func 98) [dI b2]),(6,ae 0),(7,aR I (st).length j6),(16,av 5 cO ops),(17,ae (ops.length:Nat)),(18,ae (i:Nat))],(⟨b2,27,1,[av 2 cC l]⟩::Z)⟩:St)) (fun (E:Nat×List Int×Option Addr×Nat×List ah)=>match E with|(i,st,I,j6,Z)=>ops.length-i) (0,[],none,0,[]) ⟨(Nat.zero_le _),(Nat.zero_le _),hx,rfl,(bz.cast iI kV),rfl⟩ (aQ (h:=by repeat (first|exact trivial|refine⟨Gk,?_⟩))) ?_;rintro⟨i,st,I,j6,Z⟩ _ ⟨hi,fG,hex,hinv,nN,rfl⟩;refine af [1,6,7,16,17,18,19] ?_;refine au ?_ ?_<;>intro aN bC
 ·have aa:i<ops.length:=(by omega)
  obtain⟨he,xV⟩:=O5 aa hex;obtain⟨rB,Vj,xW,qz⟩:=v8 he;have CX:=tr ops[i].k;have sO:(st.take (st.length-(bP ops[i].k).toNat)++[(je l ops[i] (fm 0 ops[i].k st) (fa 0 ops[i].k st)).1]).length=st.length+1-(bP ops[i].k).toNat:=(by rw[length_append,length_take,length_singleton];omega)
  have nO:fK (((st.take (st.length-(bP ops[i].k).toNat)++[(je l ops[i] (fm 0 ops[i].k st) (fa 0 ops[i].k st)).1]).length:Nat):Int) (ops.drop (i+1))=0:=(by rw[sO,show(((st.length+1-(bP ops[i].k).toNat:Nat)):Int)=(st.length:Int)+(1-bP ops[i].k) by omega];exact xV)
  refine aD 2 ?_;refine OD.alloc (ds:=[_,_,_,_,_]) ap rfl rfl zeroValue43 rfl (fun b9=>?_);refine aP 0 [_,_,_,_,_] sizeOf43 ?_;refine an 64 [1,6,7,9,16,17,18] ?_;refine af [1,6,7,9,10,11,16,17,18] ?_;refine cH [1,6,7,9,10,11,12,16,17,18] (EA ops[i].k) ?_;refine af [1,6,7,9,10,11,12,13,16,17,18] ?_;refine af [1,6,7,9,10,11,12,13,16,17,18,30] ?_;refine au ?_ ?_<;>intro aY cz
  ·obtain⟨bh,rfl,wO,wC,rfl⟩:=nN.pos w4;have uw:(st.length-(bP ops[i].k).toNat)<st.length:=(by omega)
   have ha:fm 0 ops[i].k st=st[(st.length-(bP ops[i].k).toNat)]:=(by unfold fm;rw[if_pos w4,getD_eq_getElem?_getD,getElem?_eq_getElem uw];rfl)
   refine iF [1,6,7,9,10,11,12,13,16,17,18] ?_;refine aU 2 ?_ (h:=by exact(dm 1 (h:=by first|exact .l (j:=(st.length-(bP ops[i].k).toNat)) w4 w4|exact .r (j:=(st.length-(bP ops[i].k).toNat)) w4 w4)));refine aU 0 ?_ (h:=by exact(cR (mk:=Op.load 3) rfl ot (ja (k:=2) eI rfl rfl rfl isAgg3 uw rfl)));refine bG ?_;refine af [1,6,7,9,10,11,13,16,17,18,36] ?_;refine au ?_ ?_<;>intro bZ cM
   ·have O:(st.length-(bP ops[i].k).toNat)+1<st.length:=(by omega)
    have hb:fa 0 ops[i].k st=st[(st.length-(bP ops[i].k).toNat)+1]:=(by unfold fa;rw[if_pos w4,getD_eq_getElem?_getD,getElem?_eq_getElem O];rfl)
    refine iF [1,6,7,9,10,11,13,16,17,18] ?_;refine aU 3 ?_ (h:=by exact(dm 1 (h:=by first|exact .l (j:=(st.length-(bP ops[i].k).toNat)+1) w4 w4|exact .r (j:=(st.length-(bP ops[i].k).toNat)+1) w4 w4)));refine aU 0 ?_ (h:=by exact(cR (mk:=Op.load 3) rfl ot (ja (k:=2) eI rfl rfl rfl isAgg3 O rfl)));refine bG ?_;exact z116
   have hb:fa 0 ops[i].k st=0:=(by unfold fa;rw[if_neg w4])
   exact z116
  have ha:fm 0 ops[i].k st=0:=(by unfold fm;rw[if_neg w4])
  refine af [1,6,7,9,10,11,13,16,17,18,36] ?_;refine au ?_ ?_<;>intro bZ cM
  ·exact absurd bZ (by simp at *;omega)
  have hb:fa 0 ops[i].k st=0:=(by unfold fa;rw[if_neg w4])
  refine aD 4 ?_;refine OD.kr (f:=98) (args:=[_,_,_]) (all:=[_,_,_,_]) (Sf:=[⟨b2,27,1,[av 2 cC l]⟩]) ap rfl rfl ot call98 (OJ l hl ops[i] _ _ _ _ ha hb b2) rfl ⟨ot,ot,ot,trivial⟩ (kf (k:=1) rfl) ?_;rintro _ _ ⟨rfl,rfl⟩;refine an 64 [1,6,7,13,14,15,16,17,18] ?_;refine af [1,6,7,13,14,15,16,17,18,51] ?_;refine au ?_ ?_<;>intro cW ek
  ·exact Wp
  have hz:(je l ops[i] (fm 0 ops[i].k st) (fa 0 ops[i].k st)).2=0:=(by simpa using cW)
  refine CD.skip ?_;refine CD.vg (k:=(st.length-(bP ops[i].k).toNat)) (ls:=(st)) (Sq:=Z) eI w4 nN (dD (A:=[_,_])) (fun BH Bl=>?_);exact z12
 have h1:=Qx w4 hex;have U:0<st.length:=(by omega)
 obtain⟨bh,rfl,wO,wC,rfl⟩:=nN.pos w4;have aV:=hinv.trans (Qw w4);have kW:st.getD 0 0=st[0]:=(by rw[getD_eq_getElem?_getD,getElem?_eq_getElem U];rfl)
 rw[kW] at aV;refine cQ [4,5] ?_;refine aU 1 ?_ (h:=by exact(rS (mk:=Op.indexAddr 67) rfl ot bL (by first|exact tE (j:=0) runUnderlying67 sizeOf3 rfl zR|exact tI (j:=0) runUnderlying67 sizeOf3 rfl zR)));refine aU 0 ?_ (h:=by exact(cR (mk:=Op.load 3) rfl ot (ja (k:=1) eI rfl rfl rfl isAgg3 U rfl)));refine bG ?_;refine aJ [⟨b2,27,1,[av 2 cC l]⟩] ?_;rw[aV];exact⟨rfl,rfl⟩
theorem aaa(l:List cA)(hl:l.length≤6)(ops:List aX)(hx:iT ops=0):VP Tryz.prog G 57 [av 2 cC l,av 5 cO ops] (pL (tL l ops)):=by
 refine VC.body func57 rfl ntmps57 aS fun X0 w0 aZ=>?_;obtain⟨E,gD⟩:=wj hx;have fy:=fun b2=>abN (G:=G) l hl ops E gD b2;unfold pL at fy ⊢;refine bY ?_;refine OD.box (ds:=[_]) ap rfl rfl ot rfl rfl (fun b2=>?_);refine an 11 [1,2] ?_;refine aD 1 ?_;refine bH (pi (ds:=[_]) rfl ⟨ot,trivial⟩) ?_;refine OD.call ap rfl rfl rfl call97 (fy b2) ⟨ot,ot,trivial⟩ (kf (k:=0) rfl) ?_;rintro _ _ ⟨rfl,rfl⟩;refine an 11 [4,5] ?_;exact z51
theorem afj(hm:(3,marksC)∈G)(hw:(1,wordsC)∈G)(ht:(0,typesC)∈G)(l:List cA)(hl:l.length≤6)(aT:∀c∈l,c.n.size≤maxLen)(ops:List aX)(ho:∀o∈ops,o.nm.size≤maxLen):VP Tryz.prog G 56 [av 2 cC l,av 5 cO ops] (ae (if fI l≠0 then fI l else iT ops)):=by
 refine VC.body func56 rfl ntmps56 aS fun X0 w0 aZ=>?_;have da:=dW;refine af [0,1] ?_;refine cH [1,5] (EV hm hw ht l w4 aT) ?_;refine af [1,5,9] ?_;refine au ?_ ?_<;>intro aN bC
 ·refine af [4] ?_;refine aJ [] ?_;refine⟨vi ?_,rfl⟩;simp_all
 refine cH [4] (I6 hm hw ops ho) ?_;refine aJ [] ?_;refine⟨vi ?_,rfl⟩;simp_all
theorem Jc(hm:(3,marksC)∈G)(hw:(1,wordsC)∈G)(ht:(0,typesC)∈G)(l:List cA)(hl:l.length≤6)(aT:∀c∈l,c.n.size≤maxLen)(ops:List aX)(ho:∀o∈ops,o.nm.size≤maxLen):VP Tryz.prog G 34 [av 2 cC l,av 5 cO ops] (pL (ey l ops)):=by
 refine VC.body func34 rfl ntmps34 aS fun X0 w0 aZ=>?_;have fg:=afj hm hw ht l hl aT ops ho;have E:=fun hx=>aaa (G:=G) l hl ops hx;unfold pL at E ⊢;refine af [0,1] ?_;refine cH [0,1,6] (fg) ?_;refine af [0,1,6,11] ?_;refine au ?_ ?_<;>intro aN bC
 ·have aV:ey l ops=(0,if fI l≠0 then fI l else iT ops):=(by unfold ey;split<;>simp_all)
  refine af [4,5] ?_;exact ow
 have h0:fI l=0∧iT ops=0:=(by split at aN<;>simp_all)
 have aV:ey l ops=tL l ops:=(by unfold ey;simp[h0])
 refine cH [4,5] (E h0.2) ?_;exact uf

end Go.Proofs.YtdgichenhdikgaaGreatDoor.Ex
namespace Go.Proofs.YtdgichenhdikgaaGreatDoor.Ex
open List
open Go.Proofs.Tryz
open Go.RowKit V Pk Vl Cd
variable {i:Nat} {a b:Vl} {p:Vl→Prop}
def wr(n:Int):Int:=IntKind.i64.wrap n
theorem agG(n:Int):-9223372036854775808≤wr n∧wr n≤9223372036854775807:=by unfold wr;rw[IntKind.wrap_i64];omega
def qg(b:Bool):Vl:=if b=true then ⟨1,1,⟨#[]⟩⟩ else ⟨1,0,⟨#[]⟩⟩
def iM(a b:Vl)(i:Nat):Vl:=if i=0 then a else b
theorem HG(a b:Vl)(h:i<2):(([ae a.k,ae a.n,bn a.s,ae b.k,ae b.n,bn b.s]:List D).drop (i*3)).take 3=[ae (iM a b i).k,ae (iM a b i).n,bn (iM a b i).s]:=by
 match i,h with
 | 0,_|1,_=>rfl
def lm(a b:Vl)(d:Int):Vl×Int :=
 if (a.k≠1∧a.k≠0)∨(b.k≠1∧b.k≠0) then (bQ,4) else if a.k=1∧a.n=d then (a,0) else if b.k=1∧b.n=d then (b,0) else if a.k=0∨b.k=0 then (bQ,0) else (a,0)
theorem IT(h:∀j,j<i→p (iM a b j))(hi:2≤i):p a∧p b:=⟨h 0 w4,h 1 w4⟩
theorem En(h:∀j,j<i→p (iM a b j))(h1:p (iM a b i)):∀j,j<i+1→p (iM a b j):=fun j hj=>by
 by_cases e:j=i
 ·subst e;exact h1
 exact h j w4
theorem aab{d:Int}(hi:i<2)(h1:(iM a b i).k≠1)(h2:(iM a b i).k≠0):lm a b d=(bQ,4):=by
 unfold lm;match i,hi with
 | 0,_=>rw[if_pos (.inl ⟨h1,h2⟩)]
 | 1,_=>rw[if_pos (.inr ⟨h1,h2⟩)]
theorem aac{d:Int}(hi:i<2)(hg:¬((a.k≠1∧a.k≠0)∨(b.k≠1∧b.k≠0)))(h0:∀j,j<i→¬((iM a b j).k=1∧(iM a b j).n=d))(h1:(iM a b i).k=1)(h2:(iM a b i).n=d):lm a b d=(iM a b i,0):=by
 unfold lm;rw[if_neg hg];match i,hi with
 | 0,_=>rw[if_pos ⟨h1,h2⟩];rfl
 | 1,_=>rw[if_neg (show ¬(a.k=1∧a.n=d) from h0 0 w4),if_pos (show b.k=1∧b.n=d from⟨h1,h2⟩)];rfl
def px(k a b:Int):Int×Bool :=
 if k=8 then (wr (a+b),decide (wr (a+b)<a)==decide (b<0)) else if k=9 then (wr (a-b),decide (wr (a-b)>a)==decide (b<0))
 else (wr (a*b),a==0||(wr ((wr (a*b)).tdiv a)==b && !(a == -1&&b == -9223372036854775808)))
def qT(a b:Vl):Bool:=a.k==0||b.k==0
def iB(k:Int)(a b:Vl):Vl×Int :=
 if mE a b≠0 then (bQ,mE a b) else if k=3 then lm a b 0 else if k=4 then lm a b 1
 else if k=6∨k=7 then (if qT a b=true then (bQ,0) else if a.k≠b.k then (bQ,4) else (qg ((gH a b==0&&k==6)||(decide (gH a b<0)&&k==7)),0))
 else if k=8∨k=9∨k=10 then (if (a.k≠2∧a.k≠0)∨(b.k≠2∧b.k≠0) then (bQ,4) else if qT a b=true then (bQ,0) else if (px k a.n b.n).2=true then (⟨2,(px k a.n b.n).1,⟨#[]⟩⟩,0) else (bQ,5))
 else (bQ,2)
def tQ(k:Int)(a:Vl):Vl×Int :=
 if dH a≠0 then (bQ,dH a) else if k=11 then (qg (a.k==0),0)
 else if k=5 then (if a.k=0 then (a,0) else if a.k=1 then (qg (a.n==0),0) else (bQ,4)) else (bQ,2)
def mU(r:Vl×Int):D:=.dF [.agg (cV r.1),ae r.2]
variable {G:List (Nat×List Value)}
theorem s6(b:Bool):VP Tryz.prog G 100 [cg b] (.agg (cV (qg b))):=by
 refine VC.body func100 rfl ntmps100 aS fun X0 w0 aZ=>?_;refine bY ?_;refine OD.alloc (ds:=[_,_,_]) ap rfl rfl zeroValue41 rfl (fun b2=>?_);refine an 6 [0,2] ?_;refine af [2,3] ?_;refine au ?_ ?_<;>intro aN bC
 ·refine aD 1 ?_;refine aP 0 [_,_,_] sizeOf41 ?_;refine an 6 [2] ?_;refine aJ [] ?_;refine⟨?_,rfl⟩;unfold qg;simp_all[cV]
 refine aD 1 ?_;refine aP 0 [_,_,_] sizeOf41 ?_;refine an 6 [2] ?_;refine aJ [] ?_;refine⟨?_,rfl⟩;unfold qg;simp_all[cV]
theorem Si(a b:Vl):VP Tryz.prog G 103 [.agg (cV a),.agg (cV b)] (cg (qT a b)):=by
 refine VC.body func103 rfl ntmps103 aS fun X0 w0 aZ=>?_;unfold cV;refine bY ?_;refine OD.box (ds:=[_,_,_]) ap rfl rfl ot rfl rfl (fun b2=>?_);refine OD.box (ds:=[_,_,_]) ap rfl rfl ot rfl rfl (fun b3=>?_);refine an 13 [2,3] ?_;refine aD 4 ?_;refine bX 8 (fun I E=>?_) (fun I E=>?_)
 ·refine bg [4] ?_;refine eR ?_;refine⟨vb ?_,rfl⟩;unfold qT;simp_all
 refine bg [4] ?_;refine eR ?_;refine⟨vb ?_,rfl⟩;unfold qT;simp_all
theorem Qy(a b:Vl)(d:Int):VP Tryz.prog G 102 [.agg (cV a),.agg (cV b),ae d] (mU (lm a b d)):=by
 refine VC.body func102 rfl ntmps102 aS fun X0 w0 aZ=>?_;unfold mU cV;have nu:=Si (G:=G) a b;unfold cV at nu;refine bY ?_;refine OD.box (ds:=[_,_,_]) ap rfl rfl ot rfl rfl (fun b3=>?_);refine OD.box (ds:=[_,_,_]) ap rfl rfl ot rfl rfl (fun b4=>?_);refine OD.alloc (ds:=[_,_,_]) ap rfl rfl zeroValue41 rfl (fun b6=>?_);refine an 50 [2,3,4,6] ?_;refine cQ [2,3,4,6,14,15] ?_;refine aU 2 ?_ (h:=by exact(DW (pl:=[(0,_),(1,_)]) (ds:=[_,_,_,_,_,_]) rfl zeroValue173 runUnderlying173 sizeOf41 ⟨rfl,ot,rfl,ot,trivial⟩ rfl rfl));refine bG ?_;refine eK [2,3,4,6,14] (fun aW _ (i:Nat) aI=>(i≤2)∧(∀j,j<i→¬((iM a b j).k≠1∧(iM a b j).k≠0))∧aI=(⟨50,(15,ae (i:Nat))::aW,[⟨b6,41,3,[ae 0,ae 0,fL]⟩,⟨b4,41,3,[ae b.k,ae b.n,bn b.s]⟩,⟨b3,41,3,[ae a.k,ae a.n,bn a.s]⟩]⟩:St)) (fun (i:Nat)=>2-i) 0 ⟨(Nat.zero_le _),(fun j hj=>absurd hj (Nat.not_lt_zero _)),rfl⟩ ?_;rintro i _ ⟨hi,fk,rfl⟩;refine af [2,3,4,6,14,15,16] ?_;refine au ?_ ?_<;>intro aN bC
 ·have aa:i<2:=(by omega)
  refine bY ?_;refine bH (Hp (j:=i) rfl ot ot runUnderlying173 sizeOf41 isAgg41 rfl aa (HG a b aa)) ?_;refine OD.alloc (ds:=[_,_,_]) ap rfl rfl zeroValue41 rfl (fun b9=>?_);refine aP 0 [_,_,_] sizeOf41 ?_;refine an 50 [2,3,4,6,9,14,15] ?_;refine aD 4 ?_;refine bX 21 (fun qs I=>?_) (fun qs I=>?_)
  ·refine bg [2,3,4,6,14,15,25] ?_;refine au ?_ ?_<;>intro aY cz
   ·have aV:lm a b d=(bQ,4):=aab aa (by simp_all) (by simp_all);refine aD 1 ?_;refine aP 1 [_,_,_] sizeOf41 ?_;refine an 50 [6,7] ?_;exact ow
   exact WA
  refine bg [2,3,4,6,14,15,25] ?_;refine fT ?_;exact WA
 have Cr:=IT (p:=fun v=>¬(v.k≠1∧v.k≠0)) fk w4;have hg:¬((a.k≠1∧a.k≠0)∨(b.k≠1∧b.k≠0)):=fun h=>h.elim Cr.1 Cr.2;clear fk hi;refine cQ [2,3,4,6,30,31] ?_;refine aU 2 ?_ (h:=by exact(DW (pl:=[(0,_),(1,_)]) (ds:=[_,_,_,_,_,_]) rfl zeroValue173 runUnderlying173 sizeOf41 ⟨rfl,ot,rfl,ot,trivial⟩ rfl rfl));refine bG ?_;refine eK [2,3,4,6,30] (fun aW _ (i:Nat) aI=>(i≤2)∧(∀j,j<i→¬((iM a b j).k=1∧(iM a b j).n=d))∧aI=(⟨50,(31,ae (i:Nat))::aW,[⟨b6,41,3,[ae 0,ae 0,fL]⟩,⟨b4,41,3,[ae b.k,ae b.n,bn b.s]⟩,⟨b3,41,3,[ae a.k,ae a.n,bn a.s]⟩]⟩:St)) (fun (i:Nat)=>2-i) 0 ⟨(Nat.zero_le _),(fun j hj=>absurd hj (Nat.not_lt_zero _)),rfl⟩ ?_;rintro i _ ⟨Z,J6,rfl⟩;refine af [2,3,4,6,30,31,32] ?_;refine au ?_ ?_<;>intro bZ cM
 ·have aa:i<2:=(by omega)
  refine bY ?_;refine bH (Hp (j:=i) rfl ot ot runUnderlying173 sizeOf41 isAgg41 rfl aa (HG a b aa)) ?_;refine OD.alloc (ds:=[_,_,_]) ap rfl rfl zeroValue41 rfl (fun kI=>?_);refine aP 0 [_,_,_] sizeOf41 ?_;refine an 50 [2,3,4,6,11,30,31] ?_;refine aD 4 ?_;refine bX 37 (fun U O=>?_) (fun U O=>?_)
  ·refine bg [2,3,4,6,11,30,31,42] ?_;refine au ?_ ?_<;>intro cW ek
   ·have aV:lm a b d=(iM a b i,0):=aac aa hg J6 (by simp_all) (by simp_all);refine aD 1 ?_;refine aP 1 [_,_,_] sizeOf41 ?_;refine an 50 [6,7] ?_;exact ow
   exact WD
  refine bg [2,3,4,6,11,30,31,42] ?_;refine fT ?_;exact WD
 have E:=IT (p:=fun v=>¬(v.k=1∧v.n=d)) J6 w4;refine cH [3,6,47] (nu) ?_;refine au ?_ ?_<;>intro eA fA
 ·have aV:lm a b d=(bQ,0):=(by unfold lm;rw[if_neg hg,if_neg E.1,if_neg E.2,if_pos (by unfold qT at eA;simpa using eA)])
  refine aD 1 ?_;refine aP 0 [_,_,_] sizeOf41 ?_;refine an 50 [6,7] ?_;exact ow
 have aV:lm a b d=(a,0):=(by unfold lm;rw[if_neg hg,if_neg E.1,if_neg E.2,if_neg (by unfold qT at eA;simpa using eA)])
 refine aD 1 ?_;refine aP 0 [_,_,_] sizeOf41 ?_;refine an 50 [6,7] ?_;exact uf
theorem abO(k a b:Int):VP Tryz.prog G 105 [ae k,ae a,ae b] (.dF [ae (px k a b).1,cg (px k a b).2]):=by
 refine VC.body func105 rfl ntmps105 aS fun X0 w0 aZ=>?_;refine af [0,1,2] ?_;refine af [1,2,11] ?_;refine af [1,2,11,12] ?_;refine au ?_ ?_<;>intro aN bC
 ·refine cQ [1,2,8] ?_;refine aU 2 ?_ (h:=by exact(c8 (r:=.int .i64 (wr (a+b))) rfl ot ot (ko rfl)));exact WB
 refine af [1,2,24] ?_;refine au ?_ ?_<;>intro aY cz
 ·refine cQ [1,2,9] ?_;refine aU 2 ?_ (h:=by exact(c8 (r:=.int .i64 (wr (a-b))) rfl ot ot (gk rfl)));exact WB
 refine cQ [1,2,10] ?_;refine aU 2 ?_ (h:=by exact(c8 (r:=.int .i64 (wr (a*b))) rfl ot ot (I0 rfl)));refine bG ?_;refine aD 4 ?_;refine bX 42 (fun qY E=>?_) (fun qY E=>?_)
 ·refine bg [6,7] ?_;refine Mp ?_;refine⟨?_,rfl⟩;unfold px;simp_all
 refine aE 2 ?_;refine OD.still iu rfl (c8 (r:=.int .i64 (wr ((wr (a*b)).tdiv a))) rfl ot ot (acX (by simpa using qY) rfl)) ?_;refine aE 3 ?_;refine bX 48 (fun U I=>?_) (fun U I=>?_)
 ·refine aE 3 ?_;refine bX 51 (fun Z O=>?_) (fun Z O=>?_)
  ·refine an 58 [6,7] ?_;refine aJ [] ?_;refine⟨?_,rfl⟩;unfold px;simp_all
  refine an 58 [6,7] ?_;refine aJ [] ?_;refine⟨?_,rfl⟩;unfold px;simp_all
 refine an 58 [6,7] ?_;refine aJ [] ?_;refine⟨?_,rfl⟩;unfold px;simp_all
theorem afk(k:Int)(a:Vl):VP Tryz.prog G 61 [ae k,.agg (cV a)] (mU (tQ k a)):=by
 refine VC.body func61 rfl ntmps61 aS fun X0 w0 aZ=>?_;unfold mU;have fg:=Vl.pn (G:=G) a;unfold cV at fg;unfold cV;refine bY ?_;refine OD.box (ds:=[_,_,_]) ap rfl rfl ot rfl rfl (fun b3=>?_);refine OD.alloc (ds:=[_,_,_]) ap rfl rfl zeroValue41 rfl (fun b4=>?_);refine an 35 [0,3,4] ?_;refine cH [0,3,4,6] (fg) ?_;refine af [0,3,4,6,10] ?_;refine au ?_ ?_<;>intro aN bC
 ·refine aD 2 ?_;exact Cw
 refine af [3,4,13] ?_;refine af [3,4,13,14] ?_;refine au ?_ ?_<;>intro aY cz
 ·refine aD 3 ?_;refine dS call100 (s6 _) ?_;exact Cw
 refine af [3,4,20] ?_;refine au ?_ ?_<;>intro bZ cM
 ·refine af [3,4,23] ?_;refine af [3,4,23,24] ?_;refine au ?_ ?_<;>intro cW ek
  ·refine aD 1 ?_;exact Cw
  refine af [3,4,27] ?_;refine au ?_ ?_<;>intro eA fA
  ·refine aD 3 ?_;refine dS call100 (s6 _) ?_;exact Cw
  refine aD 1 ?_;exact Cw
 refine aD 1 ?_;refine aP 0 [_,_,_] sizeOf41 ?_;refine an 35 [4,5] ?_;refine aJ [] ?_;refine⟨?_,rfl⟩;unfold tQ;simp_all[bQ]
theorem acS{k:Int}(h0:mE a b=0)(hk:k=8∨k=9∨k=10)(hi:i<2)(h1:(iM a b i).k≠2)(h2:(iM a b i).k≠0):iB k a b=(bQ,4):=by
 unfold iB;rw[if_neg (by simp[h0]),if_neg w4,if_neg w4,if_neg w4,if_pos hk];match i,hi with
 | 0,_=>rw[if_pos (.inl ⟨h1,h2⟩)]
 | 1,_=>rw[if_pos (.inr ⟨h1,h2⟩)]
theorem OH{k:Int}(h0:mE a b=0)(hk:k=8∨k=9∨k=10)(hg:¬((a.k≠2∧a.k≠0)∨(b.k≠2∧b.k≠0))) :
  iB k a b=if qT a b=true then (bQ,0) else if (px k a.n b.n).2=true then (⟨2,(px k a.n b.n).1,⟨#[]⟩⟩,0) else (bQ,5):=by
 unfold iB;rw[if_neg (by simp[h0]),if_neg w4,if_neg w4,if_neg w4,if_pos hk,if_neg hg]
theorem afl(k:Int)(a b:Vl)(oa:a.Ok)(ob:b.Ok):VP Tryz.prog G 62 [ae k,.agg (cV a),.agg (cV b)] (mU (iB k a b)):=by
 refine VC.body func62 rfl ntmps62 aS fun X0 w0 aZ=>?_;unfold mU;have ou:=Cd.RX (G:=G) a b;have nu:=Si (G:=G) a b;have mN:=Qy (G:=G) a b 0;have j4:=Qy (G:=G) a b 1;have fg:=Cd.Oq (G:=G) a b oa ob;have xA:=abO (G:=G) k a.n b.n;unfold mU at mN j4;unfold cV at ou nu mN j4 fg;unfold cV;refine bY ?_;refine OD.box (ds:=[_,_,_]) ap rfl rfl ot rfl rfl (fun b4=>?_);refine OD.box (ds:=[_,_,_]) ap rfl rfl ot rfl rfl (fun b5=>?_);refine OD.alloc (ds:=[_,_,_]) ap rfl rfl zeroValue41 rfl (fun b6=>?_);refine an 106 [0,4,5,6] ?_;refine cH [0,4,5,6,8] (ou) ?_;refine af [0,4,5,6,8,18] ?_;refine au ?_ ?_<;>intro aN bC
 ·have oq:mE a b≠0:=(by simpa using aN)
  have aV:iB k a b=(bQ,mE a b):=(by unfold iB;rw[if_pos oq])
  refine aD 2 ?_;exact z7
 have oq:mE a b=0:=(by simpa using aN)
 refine af [0,4,5,6,21] ?_;refine af [0,4,5,6,21,22] ?_;refine au ?_ ?_<;>intro aY cz
 ·have aV:iB k a b=lm a b 0:=(by unfold iB;rw[if_neg (by simp[oq]),if_pos w4])
  refine aD 2 ?_;refine dS call102 (mN) ?_;refine aE 2 ?_;exact z7
 refine af [0,4,5,6,21,29] ?_;refine au ?_ ?_<;>intro bZ cM
 ·have aV:iB k a b=lm a b 1:=(by unfold iB;rw[if_neg (by simp[oq]),if_neg w4,if_pos w4])
  refine aD 2 ?_;refine dS call102 (j4) ?_;refine aE 2 ?_;exact z7
 refine af [0,4,5,6,21,36] ?_;refine au ?_ ?_<;>intro cW ek
 ·refine eM ?_;exact UT
 refine cm [0,4,5,6,21,36] ?_;refine au ?_ ?_<;>intro eA fA
 ·exact UT
 refine af [0,4,5,6,21,67] ?_;refine au ?_ ?_<;>intro gv lp
 ·refine eM ?_;exact z6
 refine af [0,4,5,6,21,67] ?_;refine au ?_ ?_<;>intro pQ E
 ·refine eM ?_;exact z6
 refine cm [0,4,5,6,67] ?_;refine au ?_ ?_<;>intro O I
 ·exact z6
 have aV:iB k a b=(bQ,2):=(by unfold iB;rw[if_neg (by simp[oq]),if_neg w4,if_neg w4,if_neg w4,if_neg w4])
 refine aD 1 ?_;refine aP 0 [_,_,_] sizeOf41 ?_;refine an 106 [6,7] ?_;refine aJ [] ?_;rw[aV];first|exact⟨rfl,rfl⟩|(refine⟨?_,rfl⟩;clear aV fg xA mN j4 ou nu;generalize (gH a b==0)=z1 at *;generalize (decide (gH a b<0))=z2 at *;subst_vars;simp_all;done)

end Go.Proofs.YtdgichenhdikgaaGreatDoor.Ex
namespace Go.Proofs.YtdgichenhdikgaaGreatDoor.Ex
open List
open Go.Proofs.Tryz
open Go.RowKit V Pk Vl Go.Proofs.YtdgichenhdikgaaGreatDoor.Nm Pc
variable {a b:Vl} {l:List cA} {row:List Vl} {ops:List aX}
def fZ(l:List cA)(row:List Vl)(o:aX)(a b:Vl):Vl×Int :=
 if bP o.k=1 then tQ o.k a else if bP o.k=2 then iB o.k a b else if o.k=2 then (row.getD (bM l o.nm).toNat bQ,0) else (o.v,0)
def u5(l:List cA)(row:List Vl)(ops:List aX):Vl×Int:=jD bQ (fZ l row) ops []
def fw(l:List cA)(row:List Vl)(ops:List aX):Vl×Int :=
 if en l row≠0 then (bQ,en l row) else if (ey l ops).2≠0 then (bQ,(ey l ops).2) else u5 l row ops
theorem tM:bQ.Ok:=⟨by decide,by decide,by decide,by decide,Nat.zero_le _⟩
theorem Qz(b:Bool):(qg b).Ok:=by unfold qg;split<;>exact⟨by decide,by decide,by decide,by decide,Nat.zero_le _⟩
theorem ok_int{n:Int}(h:-9223372036854775808≤n∧n≤9223372036854775807):(⟨2,n,⟨#[]⟩⟩:Vl).Ok:=⟨by show -9223372036854775808≤(2:Int);decide,by show(2:Int)≤_;decide,h.1,h.2,Nat.zero_le _⟩
theorem abP{d:Int}(oa:a.Ok)(ob:b.Ok):(lm a b d).1.Ok:=by
 unfold lm;repeat' split
 all_goals first|exact tM|exact oa|exact ob
theorem ok_two{k:Int}(oa:a.Ok)(ob:b.Ok):(iB k a b).1.Ok:=by
 unfold iB;repeat' split
 all_goals first|exact tM|exact abP oa ob|exact Qz _|skip
 unfold px;repeat' split
 all_goals exact ok_int (agG _)
theorem ok_one{k:Int}(oa:a.Ok):(tQ k a).1.Ok:=by
 unfold tQ;repeat' split
 all_goals first|exact tM|exact oa|exact Qz _
theorem Sj(hr:∀v∈row,v.Ok){o:aX}(ho:o.v.Ok)(oa:a.Ok)(ob:b.Ok):(fZ l row o a b).1.Ok:=by
 unfold fZ;split
 ·exact ok_one oa
 split
 ·exact ok_two oa ob
 split
 ·show(row.getD _ bQ).Ok;rw[getD_eq_getElem?_getD];cases h:row[(bM l o.nm).toNat]? with
  | none=>exact tM
  | some v=>exact hr v (mem_of_getElem? h)
 exact ho
theorem Jd{st:List Vl}(h:∀v∈st,v.Ok)(j:Nat):(st.getD j bQ).Ok:=by
 rw[getD_eq_getElem?_getD];cases hj:st[j]? with
 | none=>exact tM
 | some v=>exact h v (mem_of_getElem? hj)
theorem A3{st:List Vl}(h:∀v∈st,v.Ok)(k:Int):(fm bQ k st).Ok:=by unfold fm;split;exact Jd h _;exact tM
theorem A4{st:List Vl}(h:∀v∈st,v.Ok)(k:Int):(fa bQ k st).Ok:=by unfold fa;split;exact Jd h _;exact tM
theorem O6{α:Type}{z:α}{f:aX→α→α→α × Int}:∀{l:List aX} {st:List α},(jD z f l st).2=0→∀o∈l,∃a b,(f o a b).2=0
 | [],_,_,o,ho=>by cases ho
 | x::r,st,h,o,ho=>by
  rw[jD] at h;split at h
  ·rename_i hne;exact absurd h hne
  rename_i he;rcases mem_cons.1 ho with rfl|ho
  ·exact⟨_,_,Classical.not_not.1 he⟩
  exact O6 h o ho
theorem O7(h:(tL l ops).2=0):∀o∈ops,o.k=2→0≤bM l o.nm:=fun o ho hk=>by
 obtain⟨a,b,he⟩:=O6 h o ho;unfold je at he;rw[if_neg w4,if_pos hk] at he;unfold uU at he;split at he
 ·cases he
 omega
theorem I4(h:en l row=0):row.length=l.length:=by
 unfold en at h;split at h
 ·rename_i h1;exact absurd h h1
 split at h
 ·cases h
 omega
theorem EW(h:(ey l ops).2=0):fI l=0∧iT ops=0∧ey l ops=tL l ops:=by
 unfold ey at h ⊢;split at h
 ·rename_i h1;exact absurd h h1
 rename_i h1;split at h
 ·rename_i h2;exact absurd h h2
 rename_i h2;exact⟨Classical.not_not.1 h1,Classical.not_not.1 h2,by rw[if_neg h1,if_neg h2]⟩
variable {G:List (Nat×List Value)}
theorem HP(l:List cA)(hl:l.length≤6)(row:List Vl)(rG:row.length=l.length)(o:aX)(I:o.k=2→0≤bM l o.nm)(a b a' b':Vl)(ha:a=a')(hb:b=b')(oa:a.Ok)(ob:b.Ok)(br bc:Nat):VC Tryz.prog G 59 [.agg (cO o),.agg (cV a'),.agg (cV b'),dI br,dI bc] [⟨br,28,1,[av 3 cV row]⟩,⟨bc,27,1,[av 2 cC l]⟩] (fun r S=>r=mU (fZ l row o a b)∧S=[⟨br,28,1,[av 3 cV row]⟩,⟨bc,27,1,[av 2 cC l]⟩]):=by
 refine VC.body func59 rfl ntmps59 aS fun X0 w0 aZ=>?_;subst ha hb;have mO:=afk (G:=G) o.k a;have E:=afl (G:=G) o.k a b oa ob;unfold mU at mO E ⊢;unfold cV at mO E;unfold cO cV;have U:=uO (fun c:cA=>c.n.toList==o.nm.toList) l;have O:bM l o.nm=dR (fun c:cA=>c.n.toList==o.nm.toList) l:=rfl;rw[←O] at U;clear O;refine bY ?_;refine OD.box (ds:=[_,_,_,_,_]) ap rfl rfl ot rfl rfl (fun b5=>?_);refine OD.box (ds:=[_,_,_]) ap rfl rfl ot rfl rfl (fun b6=>?_);refine OD.box (ds:=[_,_,_]) ap rfl rfl ot rfl rfl (fun b7=>?_);refine OD.alloc (ds:=[_,_,_]) ap rfl rfl zeroValue41 rfl (fun b8=>?_);refine an 42 [3,4,5,6,7,8] ?_;refine cH [3,4,5,6,7,8,12] (EA o.k) ?_;refine af [3,4,5,6,7,8,12,13] ?_;refine au ?_ ?_<;>intro aN bC
 ·have aV:fZ l row o a b=tQ o.k a:=(by unfold fZ;rw[if_pos w4])
  refine aD 3 ?_;refine dS call61 (mO) ?_;refine aE 2 ?_;exact z141
 refine af [3,4,5,6,7,8,21] ?_;refine au ?_ ?_<;>intro aY cz
 ·have aV:fZ l row o a b=iB o.k a b:=(by unfold fZ;rw[if_neg w4,if_pos w4])
  refine aD 4 ?_;refine dS call62 (E) ?_;refine aE 2 ?_;exact z141
 refine af [3,4,5,8,32] ?_;refine au ?_ ?_<;>intro bZ cM
 ·have fi:o.k=2:=(by omega)
  have aN:=I fi;have Z:(bM l o.nm).toNat<row.length:=(by omega)
  have aV:fZ l row o a b=(row[(bM l o.nm).toNat],0):=(by unfold fZ;rw[if_neg w4,if_neg w4,if_pos fi,getD_eq_getElem?_getD,getElem?_eq_getElem Z];rfl)
  refine CD.seq ?_;refine mg 7 [8,39] ?_;refine de (pu l hl o.nm) ?_;refine bG ?_;exact z141
 have aV:fZ l row o a b=(o.v,0):=(by unfold fZ;rw[if_neg w4,if_neg w4,if_neg w4])
 refine aD 2 ?_;refine aP 0 [_,_,_] sizeOf41 ?_;refine an 42 [8,9] ?_;exact z107
theorem YV:(Tryz.prog.info? 41).map (fun i=>(i.zero,i.size,i.bytes))=some (some (.agg #[.int .i64 0,.int .i64 0,.string ⟨#[]⟩]),3,32):=by kernel_rfl
theorem abQ(l:List cA)(hl:l.length≤6)(row:List Vl)(rG:row.length=l.length)(Le:∀v∈row,v.Ok)(ops:List aX)(fU:∀o∈ops,o.v.Ok)(E:∀o∈ops,o.k=2→0≤bM l o.nm)(pW:ops.length≤40)(hx:fK 0 ops=0)(br bc:Nat):VC Tryz.prog G 58 [av 5 cO ops,.eB (.func 59) [dI br,dI bc]] [⟨br,28,1,[av 3 cV row]⟩,⟨bc,27,1,[av 2 cC l]⟩] (fun r S=>r=mU (u5 l row ops)∧S=[⟨br,28,1,[av 3 cV row]⟩,⟨bc,27,1,[av 2 cC l]⟩]):=by
 refine VC.body func58 rfl ntmps58 aS fun X0 w0 aZ=>?_;unfold mU;refine bY ?_;refine OD.alloc (ds:=[_,_,_]) ap rfl rfl zeroValue41 rfl (fun b4=>?_);refine an 64 [0,1,4] ?_;refine bY ?_;refine OD.alloc (ds:=[_,_,_]) ap rfl rfl zeroValue41 rfl (fun b6=>?_);refine OD.perm (AR (k:=2) (k':=2) rfl rfl) ?_;refine an 64 [0,1,4,6] ?_;refine bY ?_;refine bg [0,1,4,6,7] ?_;refine af [1,4,6,7,16,17,18] ?_;refine CD.block ?_;refine mR (fun (I:Nat×List Vl×Option Addr×Nat×List ah) aI=>match I with|(i,st,O,j6,Sh)=>(i≤ops.length)∧(st.length≤i)∧(fK ((st.length:Nat):Int) (ops.drop i)=0)∧(u5 l row ops=jD bQ (fZ l row) (ops.drop i) st)∧(∀v∈st,v.Ok)∧(bz 41 3 ((st).flatMap cV) (st).length O j6 Sh)∧aI=(⟨64,[(1,.eB (.func 59) [dI br,dI bc]),(4,dI b4),(6,dI b6),(7,aR O (st).length j6),(16,av 5 cO ops),(17,ae (ops.length:Nat)),(18,ae (i:Nat))],(⟨br,28,1,[av 3 cV row]⟩::⟨bc,27,1,[av 2 cC l]⟩::⟨b6,41,3,[ae 0,ae 0,fL]⟩::⟨b4,41,3,[ae 0,ae 0,fL]⟩::Sh)⟩:St)) (fun (I:Nat×List Vl×Option Addr×Nat×List ah)=>match I with|(i,st,O,j6,Sh)=>ops.length-i) (0,[],none,0,[]) ⟨(Nat.zero_le _),(Nat.zero_le _),hx,rfl,(fun v U=>by cases U),(bz.cast iI kV),rfl⟩ (aQ (h:=by repeat (first|exact trivial|refine⟨Gk,?_⟩))) ?_;rintro⟨i,st,O,j6,Sh⟩ _ ⟨hi,fG,hex,hinv,aT,nN,rfl⟩;refine af [1,4,6,7,16,17,18,19] ?_;refine au ?_ ?_<;>intro aN bC
 ·have aa:i<ops.length:=(by omega)
  obtain⟨he,xV⟩:=O5 aa hex;obtain⟨rB,Vj,xW,qz⟩:=v8 he;have CX:=tr ops[i].k;have sO:(st.take (st.length-(bP ops[i].k).toNat)++[(fZ l row ops[i] (fm bQ ops[i].k st) (fa bQ ops[i].k st)).1]).length=st.length+1-(bP ops[i].k).toNat:=(by rw[length_append,length_take,length_singleton];omega)
  have nO:fK (((st.take (st.length-(bP ops[i].k).toNat)++[(fZ l row ops[i] (fm bQ ops[i].k st) (fa bQ ops[i].k st)).1]).length:Nat):Int) (ops.drop (i+1))=0:=(by rw[sO,show(((st.length+1-(bP ops[i].k).toNat:Nat)):Int)=(st.length:Int)+(1-bP ops[i].k) by omega];exact xV)
  have ahw:∀v∈st.take (st.length-(bP ops[i].k).toNat)++[(fZ l row ops[i] (fm bQ ops[i].k st) (fa bQ ops[i].k st)).1],v.Ok:=fun v U=>by rcases mem_append.1 U with U|U;exact aT v (mem_of_mem_take U);rw[mem_singleton] at U;rw[U];exact Sj Le (fU _ (getElem_mem aa)) (A3 aT _) (A4 aT _)
  refine aD 2 ?_;refine OD.alloc (ds:=[_,_,_,_,_]) ap rfl rfl zeroValue43 rfl (fun b9=>?_);refine aP 0 [_,_,_,_,_] sizeOf43 ?_;refine an 64 [1,4,6,7,9,16,17,18] ?_;refine bY ?_;refine OD.alloc (ds:=[_,_,_]) ap rfl rfl zeroValue41 rfl (fun kJ=>?_);refine OD.alloc (ds:=[_,_,_]) ap rfl rfl zeroValue41 rfl (fun kI=>?_);refine an 64 [1,4,6,7,9,10,11,16,17,18] ?_;refine cH [1,4,6,7,9,10,11,12,16,17,18] (EA ops[i].k) ?_;refine af [1,4,6,7,9,10,11,12,13,16,17,18] ?_;refine af [1,4,6,7,9,10,11,12,13,16,17,18,30] ?_;refine au ?_ ?_<;>intro aY cz
  ·obtain⟨bh,rfl,wO,wC,rfl⟩:=nN.pos w4;have uw:(st.length-(bP ops[i].k).toNat)<st.length:=(by omega)
   have ha:fm bQ ops[i].k st=st[(st.length-(bP ops[i].k).toNat)]:=(by unfold fm;rw[if_pos w4,getD_eq_getElem?_getD,getElem?_eq_getElem uw];rfl)
   refine dN 2 ?_;refine bH (dm 3 (h:=by first|exact .l (j:=(st.length-(bP ops[i].k).toNat)) w4 w4|exact .r (j:=(st.length-(bP ops[i].k).toNat)) w4 w4)) ?_;refine bH (cR (mk:=Op.load 41) rfl ot (dP (k:=7) fq rfl rfl rfl isAgg41 sizeOf41 uw)) ?_;refine aP 1 [_,_,_] sizeOf41 ?_;refine an 64 [1,4,6,7,9,10,11,12,13,16,17,18] ?_;refine af [1,4,6,7,9,10,11,13,16,17,18,36] ?_;refine au ?_ ?_<;>intro bZ cM
   ·have Z:(st.length-(bP ops[i].k).toNat)+1<st.length:=(by omega)
    have hb:fa bQ ops[i].k st=st[(st.length-(bP ops[i].k).toNat)+1]:=(by unfold fa;rw[if_pos w4,getD_eq_getElem?_getD,getElem?_eq_getElem Z];rfl)
    refine dN 3 ?_;refine bH (dm 3 (h:=by first|exact .l (j:=(st.length-(bP ops[i].k).toNat)+1) w4 w4|exact .r (j:=(st.length-(bP ops[i].k).toNat)+1) w4 w4)) ?_;refine bH (cR (mk:=Op.load 41) rfl ot (dP (k:=7) fq rfl rfl rfl isAgg41 sizeOf41 Z)) ?_;refine aP 0 [_,_,_] sizeOf41 ?_;refine an 64 [1,4,6,7,9,10,11,13,16,17,18] ?_;refine aD 4 ?_;refine OD.kr (f:=59) (args:=[_,_,_]) (all:=[_,_,_,_,_]) (Sf:=[⟨br,28,1,[av 3 cV row]⟩,⟨bc,27,1,[av 2 cC l]⟩]) ap rfl rfl ot call59 (HP l hl row rG ops[i] (E _ (getElem_mem aa)) _ _ (st[(st.length-(bP ops[i].k).toNat)]) (st[(st.length-(bP ops[i].k).toNat)+1]) ha hb (A3 aT _) (A4 aT _) br bc) rfl ⟨ot,ot,ot,trivial⟩ (AR (k:=3) (k':=3) rfl rfl) ?_;exact UY
   have hb:fa bQ ops[i].k st=bQ:=(by unfold fa;rw[if_neg w4])
   refine aD 4 ?_;refine OD.kr (f:=59) (args:=[_,_,_]) (all:=[_,_,_,_,_]) (Sf:=[⟨br,28,1,[av 3 cV row]⟩,⟨bc,27,1,[av 2 cC l]⟩]) ap rfl rfl ot call59 (HP l hl row rG ops[i] (E _ (getElem_mem aa)) _ _ (st[(st.length-(bP ops[i].k).toNat)]) (bQ) ha hb (A3 aT _) (A4 aT _) br bc) rfl ⟨ot,ot,ot,trivial⟩ (AR (k:=3) (k':=3) rfl rfl) ?_;exact UY
  have ha:fm bQ ops[i].k st=bQ:=(by unfold fm;rw[if_neg w4])
  refine af [1,4,6,7,9,10,11,13,16,17,18,36] ?_;refine au ?_ ?_<;>intro bZ cM
  ·exact absurd bZ (by simp at *;omega)
  have hb:fa bQ ops[i].k st=bQ:=(by unfold fa;rw[if_neg w4])
  refine aD 4 ?_;refine OD.kr (f:=59) (args:=[_,_,_]) (all:=[_,_,_,_,_]) (Sf:=[⟨br,28,1,[av 3 cV row]⟩,⟨bc,27,1,[av 2 cC l]⟩]) ap rfl rfl ot call59 (HP l hl row rG ops[i] (E _ (getElem_mem aa)) _ _ (bQ) (bQ) ha hb (A3 aT _) (A4 aT _) br bc) rfl ⟨ot,ot,ot,trivial⟩ (AR (k:=3) (k':=3) rfl rfl) ?_;rintro _ _ ⟨rfl,rfl⟩;refine aE 3 ?_;refine OD.alloc (ds:=[_,_,_]) ap rfl rfl zeroValue41 rfl (fun Ad=>?_);refine aP 0 [_,_,_] sizeOf41 ?_;refine an 64 [1,4,6,7,13,14,15,16,17,18] ?_;refine af [1,4,6,7,13,14,15,16,17,18,51] ?_;refine au ?_ ?_<;>intro cW ek
  ·exact z49
  have hz:(fZ l row ops[i] (fm bQ ops[i].k st) (fa bQ ops[i].k st)).2=0:=(by simpa using cW)
  refine CD.skip ?_;refine CD.vg (k:=(st.length-(bP ops[i].k).toNat)) (ls:=(st)) (Sq:=Sh) fq w4 nN (dD (A:=[_,_,_,_,_,_,_,_])) (fun BH Bl=>?_);exact z5
 have h1:=Qx w4 hex;have Vq:0<st.length:=(by omega)
 obtain⟨bh,rfl,wO,wC,rfl⟩:=nN.pos w4;have aV:=hinv.trans (Qw w4);have kW:st.getD 0 bQ=st[0]:=(by rw[getD_eq_getElem?_getD,getElem?_eq_getElem Vq];rfl)
 rw[kW] at aV;refine aD 1 ?_;refine bH (rS (mk:=Op.indexAddr 28) rfl ot bL (by first|exact tE (j:=0) runUnderlying28 sizeOf41 rfl zR|exact tI (j:=0) runUnderlying28 sizeOf41 rfl zR)) ?_;refine bH (cR (mk:=Op.load 41) rfl ot (dP (k:=4) fq rfl rfl rfl isAgg41 sizeOf41 Vq)) ?_;refine aP 3 [_,_,_] sizeOf41 ?_;refine an 64 [4,5] ?_;exact z107
theorem adE(l:List cA)(hl:l.length≤6)(row:List Vl)(O:row.length=l.length)(E:∀v∈row,v.Ok)(ops:List aX)(fU:∀o∈ops,o.v.Ok)(I:∀o∈ops,o.k=2→0≤bM l o.nm)(hx:iT ops=0):VP Tryz.prog G 35 [av 2 cC l,av 3 cV row,av 5 cO ops] (mU (u5 l row ops)):=by
 refine VC.body func35 rfl ntmps35 aS fun X0 w0 aZ=>?_;obtain⟨U,gD⟩:=wj hx;have fy:=fun br bc=>abQ (G:=G) l hl row O E ops fU I U gD br bc;unfold mU at fy ⊢;generalize u5 l row ops=q at fy ⊢;skip;refine bY ?_;refine OD.box (ds:=[_]) ap rfl rfl ot rfl rfl (fun b3=>?_);refine OD.box (ds:=[_]) ap rfl rfl ot rfl rfl (fun b4=>?_);refine OD.alloc (ds:=[_,_,_]) ap rfl rfl zeroValue41 rfl (fun b6=>?_);refine an 13 [2,3,4,6] ?_;refine aD 1 ?_;refine bH (pi (ds:=[_,_]) rfl ⟨ot,ot,trivial⟩) ?_;refine OD.call ap rfl rfl rfl call58 (fy b4 b3) ⟨ot,ot,trivial⟩ (AR (k:=1) (k':=1) rfl rfl) ?_;rintro _ _ ⟨rfl,rfl⟩;refine aE 2 ?_;refine aP 2 [_,_,_] sizeOf41 ?_;refine an 13 [6,7] ?_;exact z51
theorem Sk(hm:(3,marksC)∈G)(hw:(1,wordsC)∈G)(ht:(0,typesC)∈G)(l:List cA)(hl:l.length≤6)(aT:∀c∈l,c.n.size≤maxLen)(row:List Vl)(Z:row.length≤1000)(E:∀v∈row,v.Ok)(ops:List aX)(ho:∀o∈ops,o.nm.size≤maxLen)(fU:∀o∈ops,o.v.Ok):VP Tryz.prog G 20 [av 2 cC l,av 3 cV row,av 5 cO ops] (mU (fw l row ops)):=by
 refine VC.body func20 rfl ntmps20 aS fun X0 w0 aZ=>?_;have da:=dW;have U:=JK hm hw ht l w4 aT row w4;have I:=Jc hm hw ht l hl aT ops ho;unfold pL at I;unfold mU;refine bY ?_;refine OD.alloc (ds:=[_,_,_]) ap rfl rfl zeroValue41 rfl (fun b6=>?_);refine an 34 [0,1,2,6] ?_;refine cH [0,1,2,6,8] (U) ?_;refine af [0,1,2,6,8,15] ?_;refine au ?_ ?_<;>intro aN bC
 ·have h0:en l row≠0:=(by simpa using aN)
  have aV:fw l row ops=(bQ,en l row):=(by unfold fw;rw[if_pos h0])
  refine aD 2 ?_;refine aP 0 [_,_,_] sizeOf41 ?_;refine an 34 [6,7] ?_;exact ow
 have h0:en l row=0:=(by simpa using aN)
 refine cH [0,1,2,6,10] (I) ?_;refine af [0,1,2,6,10,25] ?_;refine au ?_ ?_<;>intro aY cz
 ·have h1:(ey l ops).2≠0:=(by simpa using aY)
  have aV:fw l row ops=(bQ,(ey l ops).2):=(by unfold fw;rw[if_neg (by simp[h0]),if_pos h1])
  refine aD 2 ?_;refine aP 0 [_,_,_] sizeOf41 ?_;refine an 34 [6,7] ?_;exact ow
 have h1:(ey l ops).2=0:=(by simpa using aY)
 obtain⟨k1,k2,k3⟩:=EW h1;have aV:fw l row ops=u5 l row ops:=(by unfold fw;rw[if_neg (by simp[h0]),if_neg (by simp[h1])])
 have O:=adE (G:=G) l hl row (I4 h0) E ops fU (O7 (by rw[←k3];exact h1)) k2;unfold mU at O;refine aD 3 ?_;refine dS call35 (O) ?_;refine aE 2 ?_;refine aP 0 [_,_,_] sizeOf41 ?_;refine an 34 [6,7] ?_;exact uf

end Go.Proofs.YtdgichenhdikgaaGreatDoor.Ex
namespace Go.Proofs.YtdgichenhdikgaaGreatDoor.Pc
open List
open Go.Proofs.Tryz
open Go.RowKit V Pk Vl Go.Proofs.YtdgichenhdikgaaGreatDoor.Nm
variable {G:List (Nat×List Value)}
def dM:List cA:=[⟨⟨#[105,100]⟩,2⟩,⟨⟨#[110]⟩,2⟩,⟨⟨#[115]⟩,3⟩,⟨⟨#[98]⟩,1⟩]
def qh(n:Int):Vl:=if eu n 3=2 then bQ else ⟨1,eu n 3,⟨#[]⟩⟩
def F6(n:Int):Vl:=⟨2,n,⟨#[]⟩⟩
theorem agH:cU ⟨#[105,100]⟩=0:=rQ (l:=[105,100]) w7 w7 w7
theorem aiY:cU ⟨#[110]⟩=0:=rQ (l:=[110]) w7 w7 w7
theorem aiZ:cU ⟨#[115]⟩=0:=rQ (l:=[115]) w7 w7 w7
theorem ai0:cU ⟨#[98]⟩=0:=rQ (l:=[98]) w7 w7 w7
theorem IS:fI dM=0:=by
 simp[fI,dM,qR,ni,agH,aiY,aiZ,ai0,vZ]
theorem acR:∀c∈dM,c.n.size≤maxLen:=fun c hc=>by
 have h:c.n.size≤2:=by
  simp only[dM,mem_cons,not_mem_nil,or_false] at hc;rcases hc with rfl|rfl|rfl|rfl
  ·exact Nat.le_refl 2
  ·exact Nat.le_succ 1
  ·exact Nat.le_succ 1
  exact Nat.le_succ 1
 exact Nat.le_trans h w7
theorem afm(n:Int):dH (F6 n)=0:=by
 unfold dH;rw[if_neg (show ¬(F6 n).k=0 by show ¬(2:Int)=0;decide),if_neg (show ¬(F6 n).k=1 by show ¬(2:Int)=1;decide),if_pos (show(F6 n).k=2 from rfl),if_neg (fun h=>h rfl)]
theorem Fz:dH bQ=0:=by decide
theorem HQ:VP Tryz.prog G 18 [] (av 2 cC dM):=by
 refine VC.body func18 rfl ntmps18 aS fun X0 w0 aZ=>?_;refine af [] ?_;refine aD 4 ?_;refine ez (cf 0 [_,_,_,_]) [.string ⟨#[]⟩,.int .i64 0,.string ⟨#[]⟩,.int .i64 0,.string ⟨#[]⟩,.int .i64 0,.string ⟨#[]⟩,.int .i64 0] [_,_,_,_,_,_,_,_] zeroValue69 runUnderlying27 sizeOf69 (fun b5=>?_);refine OD.perm (ee (S1:=[⟨b5,69,4*2,flatMap cC ([⟨⟨#[105,100]⟩,2⟩,⟨⟨#[110]⟩,2⟩,⟨⟨#[115]⟩,3⟩,⟨⟨#[98]⟩,1⟩])⟩]) (A:=[])) ?_;refine an 6 [0] ?_;refine CD.ij (t:=0) (Sq:=[⟨b5,69,4*2,flatMap cC ([⟨⟨#[105,100]⟩,2⟩,⟨⟨#[110]⟩,2⟩,⟨⟨#[115]⟩,3⟩,⟨⟨#[98]⟩,1⟩])⟩]) lk (bF (g:=cC) (sz:=2) (e:=69) (ls:=[⟨⟨#[105,100]⟩,2⟩,⟨⟨#[110]⟩,2⟩,⟨⟨#[115]⟩,3⟩,⟨⟨#[98]⟩,1⟩]) (Nat.le_refl _) (show 4≤maxLen by decide)) (cn lF _) (dD (A:=[])) ?_;exact z51

end Go.Proofs.YtdgichenhdikgaaGreatDoor.Pc
namespace Go.Proofs.YtdgichenhdikgaaGreatDoor.Ex
open List
open Go.Proofs.Tryz
open Go.RowKit V Pk Vl Go.Proofs.YtdgichenhdikgaaGreatDoor.Nm Pc
variable {k:Int} {a b:Vl} {l:List cA} {row:List Vl} {o:aX} {α:Type} {ks:List Int}
theorem Ht(b:Bool):dH (qg b)=0:=by cases b<;>decide
theorem aad(n:Int):dH ⟨2,n,⟨#[]⟩⟩=0:=afm n
theorem EX(h:¬(k=8∨k=9∨k=10)):wR k=1:=if_neg h
theorem adF(h:k=8∨k=9∨k=10):wR k=2:=if_pos h
theorem Iu(b:Bool):(qg b).k=1:=by cases b<;>rfl
theorem Eh{v:Vl}(h:iU v=0):dH v=0:=by
 unfold iU at h;split at h
 ·cases h
 exact h
def jO(k:Int)(v:Vl):Prop:=dH v=0∧(v.k=k∨v.k=0)
theorem Bg:jO 0 bQ:=⟨Fz,.inl rfl⟩
structure y9 (l:List cA) (o:aX):Prop where
 nm:o.nm.size≤maxLen
 ok:o.v.Ok
 ck:dH o.v=0
 k1:1≤o.k
 k2:o.k≤11
 XB:o.k=2→0≤bM l o.nm
def FB(l:List cA)(row:List Vl):Prop:=∀i:Nat,jO (l.getD i ⟨⟨#[]⟩,0⟩).k (row.getD i bQ)
theorem za{a b:Int}(h:rF a b=true):a=b∨a=0:=by
 unfold rF at h;simpa using h
theorem Zd{d:Int}(ha:dH a=0)(hb:dH b=0)(h1:a.k=1∨a.k=0)(h2:b.k=1∨b.k=0):(lm a b d).2=0∧jO 1 (lm a b d).1:=by
 unfold lm;rw[if_neg w4];split
 ·exact⟨rfl,ha,h1⟩
 split
 ·exact⟨rfl,hb,h2⟩
 split
 ·exact⟨rfl,Fz,.inr rfl⟩
 exact⟨rfl,ha,h1⟩
theorem adG(ha:dH a=0)(hb:dH b=0):Cd.mE a b=0:=by unfold Cd.mE;rw[ha,hb];rfl
theorem aae(h:Cd.mE a b=0)(hk:k=3∨k=4):∃d,iB k a b=lm a b d:=by
 unfold iB;rw[if_neg (by simp[h])];rcases hk with rfl|rfl
 ·exact⟨0,if_pos rfl⟩
 exact⟨1,by rw[if_neg w7,if_pos rfl]⟩
theorem abR(h:Cd.mE a b=0)(hk:k=6∨k=7):iB k a b=if qT a b=true then (bQ,0) else if a.k≠b.k then (bQ,4) else (qg ((Cd.gH a b==0&&k==6)||(decide (Cd.gH a b<0)&&k==7)),0):=by
 unfold iB;rw[if_neg (by simp[h]),if_neg w4,if_neg w4,if_pos hk]
theorem aaf(hr:FB l row)(ho:y9 l o){a b:Int}{E vb:Vl}(ha:jO a E)(hb:jO b vb)(h:(je l o a b).2=0) :
  (fZ l row o E vb).2=5∨((fZ l row o E vb).2=0∧jO (je l o a b).1 (fZ l row o E vb).1):=by
 have k1:=ho.k1;have k2:=ho.k2;obtain⟨ca,ka⟩:=ha;obtain⟨cb,kb⟩:=hb;have O:=adG ca cb;unfold je at h ⊢;by_cases e1:o.k=1
 ·rw[if_pos e1];have:fZ l row o E vb=(o.v,0):=(by unfold fZ bP;rw[if_neg w4,if_neg (by rw[if_pos (.inl e1)];omega),if_neg w4]<;>(try rw[if_pos (.inl e1)];omega))
  rw[this];exact .inr ⟨rfl,ho.ck,.inl rfl⟩
 rw[if_neg e1] at h ⊢;by_cases e2:o.k=2
 ·rw[if_pos e2] at h ⊢;have hp:bP o.k=0:=(by unfold bP;rw[if_pos (.inr e2)])
  have hc:=ho.XB e2;have:fZ l row o E vb=(row.getD (bM l o.nm).toNat bQ,0):=(by unfold fZ;rw[if_neg w4,if_neg w4,if_pos e2])
  rw[this];unfold uU;rw[if_neg w4];exact .inr ⟨rfl,hr _⟩
 rw[if_neg e2] at h ⊢;have aT:okF o.k a b=true:=by
  by_cases hk:okF o.k a b=true
  ·exact hk
  rw[if_neg hk] at h;cases h
 rw[if_pos aT];unfold okF at aT;by_cases I:o.k=5∨o.k=11
 ·have hp:bP o.k=1:=(by unfold bP;rw[if_neg w4,if_pos I])
  have he:fZ l row o E vb=tQ o.k E:=(by unfold fZ;rw[if_pos hp])
  rw[he];unfold tQ;rw[if_neg (by simp[ca])];rcases I with I|I
  ·have U:¬(o.k=3∨o.k=4):=(by omega)
   have Z:¬o.k=11:=(by omega)
   rw[if_neg U,if_pos I] at aT;have hi:=za aT;rw[if_neg Z,if_pos I,EX w4];by_cases z:E.k=0
   ·rw[if_pos z];exact .inr ⟨rfl,ca,.inr z⟩
   rw[if_neg z,if_pos w4];exact .inr ⟨rfl,Ht _,.inl (Iu _)⟩
  rw[if_pos I,EX w4];exact .inr ⟨rfl,Ht _,.inl (Iu _)⟩
 have hp:bP o.k=2:=(by unfold bP;rw[if_neg w4,if_neg I])
 have he:fZ l row o E vb=iB o.k E vb:=(by unfold fZ;rw[if_neg w4,if_pos hp])
 rw[he];by_cases e3:o.k=3∨o.k=4
 ·rw[if_pos e3,Bool.and_eq_true] at aT;have i1:=za aT.1;have i2:=za aT.2;obtain⟨d,hd⟩:=aae O e3;rw[hd,EX w4];exact .inr (Zd ca cb w4 w4)
 have n5:¬o.k=5:=(by omega)
 rw[if_neg e3,if_neg n5] at aT;by_cases e6:o.k=6∨o.k=7
 ·rw[if_pos e6,Bool.or_eq_true] at aT;rw[abR O e6,EX w4];by_cases hn:qT E vb=true
  ·rw[if_pos hn];exact .inr ⟨rfl,Fz,.inr rfl⟩
  rw[if_neg hn];unfold qT at hn;simp only[Bool.or_eq_true,beq_iff_eq,not_or] at hn;have lA:E.k=vb.k:=by
   rcases aT with aT|aT
   ·have:=za aT;omega
   have:b=0:=(by simpa using aT)
   omega
  rw[if_neg (by simpa using lA)];exact .inr ⟨rfl,Ht _,.inl (Iu _)⟩
 have e8:o.k=8∨o.k=9∨o.k=10:=(by omega)
 rw[if_neg e6,if_pos e8,Bool.and_eq_true] at aT;have i1:=za aT.1;have i2:=za aT.2;rw[OH O e8 w4,adF e8];split
 ·exact .inr ⟨rfl,Fz,.inr rfl⟩
 split
 ·exact .inr ⟨rfl,aad _,.inl rfl⟩
 exact .inl rfl
theorem Je{z:α}{f:aX→α→α→α × Int}{r:List aX}{st:List α}(h:(f o (fm z o.k st) (fa z o.k st)).2=0):jD z f (o::r) st=jD z f r (st.take (st.length-(bP o.k).toNat)++[(f o (fm z o.k st) (fa z o.k st)).1]):=by
 rw[jD,if_neg (by rw[h];simp)]
theorem Iv{z:α}{f:aX→α→α→α × Int}{r:List aX}{st:List α}(h:(f o (fm z o.k st) (fa z o.k st)).2≠0):jD z f (o::r) st=(z,(f o (fm z o.k st) (fa z o.k st)).2):=by
 rw[jD,if_pos h]
def BZ(ks:List Int)(vs:List Vl):Prop:=ks.length=vs.length∧∀i:Nat,jO (ks.getD i 0) (vs.getD i bQ)
theorem QA(z x:α)(l:List α)(n i:Nat)(hn:n≤l.length):(l.take n++[x]).getD i z=if i<n then l.getD i z else if i=n then x else z:=by
 have hl:(l.take n).length=n:=(by rw[length_take];omega)
 by_cases h1:i<n
 ·rw[if_pos h1,getD_eq_getElem?_getD,getD_eq_getElem?_getD,getElem?_append_left w4,getElem?_take,if_pos h1]
 rw[if_neg h1,getD_eq_getElem?_getD,getElem?_append_right w4,hl];by_cases h2:i=n
 ·rw[if_pos h2,h2,Nat.sub_self];rfl
 rw[if_neg h2,getElem?_eq_none (by rw[length_singleton];omega)];rfl
theorem adH{vs:List Vl}(h:BZ ks vs){v:Vl}(hr:jO k v){n:Nat}(hn:n≤ks.length):BZ (ks.take n++[k]) (vs.take n++[v]):=by
 have hl:=h.1;refine⟨by simp only[length_append,length_take,length_singleton];omega,fun i=>?_⟩;rw[QA _ _ _ _ _ hn,QA _ _ _ _ _ w4];split
 ·exact h.2 i
 split
 ·exact hr
 exact Bg
theorem adI{vs:List Vl}(h:BZ ks vs)(k:Int):jO (fm 0 k ks) (fm bQ k vs)∧jO (fa 0 k ks) (fa bQ k vs):=by
 have hl:=h.1;unfold fm fa;rw[hl];refine⟨?_,?_⟩
 ·split
  ·exact h.2 _
  exact Bg
 split
 ·exact h.2 _
 exact Bg
theorem O8{l:List cA}{row:List Vl}(hr:FB l row):∀(ops:List aX),(∀o∈ops,y9 l o)→∀(ks:List Int) (vs:List Vl),BZ ks vs→(jD 0 (je l) ops ks).2=0 →
  (jD bQ (fZ l row) ops vs).2=5∨((jD bQ (fZ l row) ops vs).2=0∧jO (jD 0 (je l) ops ks).1 (jD bQ (fZ l row) ops vs).1)
 | [],_,ks,vs,h,_=>.inr ⟨rfl,h.2 0⟩
 | o::r,hg,ks,vs,h,h0=>by
  obtain⟨hA,hB⟩:=adI h o.k;by_cases hm:(je l o (fm 0 o.k ks) (fa 0 o.k ks)).2=0
  ·rw[Je hm] at h0 ⊢;rcases aaf hr (hg o mem_cons_self) hA hB hm with h5|⟨hz,E⟩
   ·rw[Iv (by rw[h5];decide)];exact .inl h5
   rw[Je hz];have:=adH h E (n:=ks.length-(bP o.k).toNat) (Nat.sub_le _ _);rw[show vs.length-(bP o.k).toNat=ks.length-(bP o.k).toNat by rw[h.1]];exact O8 hr r (fun x hx=>hg x (mem_cons_of_mem _ hx)) _ _ this h0
  rw[Iv hm] at h0;exact absurd h0 hm
theorem abS(ho:y9 l o)(a b:Int):(je l o a b).2=0∨(je l o a b).2=4:=by
 unfold je;split
 ·exact .inl rfl
 split
 ·rename_i h2;have:=ho.XB h2;unfold uU;rw[if_neg w4];exact .inl rfl
 split
 ·exact .inl rfl
 exact .inr rfl
theorem QB{l:List cA}:∀(ops:List aX),(∀o∈ops,y9 l o)→∀ks,(jD 0 (je l) ops ks).2=0∨(jD 0 (je l) ops ks).2=4
 | [],_,ks=>.inl rfl
 | o::r,hg,ks=>by
  rw[jD];split
  ·rename_i hne;rcases abS (hg o mem_cons_self) (fm 0 o.k ks) (fa 0 o.k ks) with h|h
   ·exact absurd h hne
   exact .inr h
  exact QB r (fun x hx=>hg x (mem_cons_of_mem _ hx)) _
theorem adJ:BZ [] []:=⟨rfl,fun i=>by rw[getD_nil,getD_nil];exact Bg⟩
theorem aag{ops:List aX}(hl:fI l=0)(hw:en l row=0)(hr:FB l row)(hg:∀o∈ops,y9 l o)(hx:iT ops=0) :
  ey l ops=tL l ops∧((ey l ops).2=0∨(ey l ops).2=4)∧((ey l ops).2=4→fw l row ops=(bQ,4)) ∧
  ((ey l ops).2=0→fw l row ops=u5 l row ops∧((fw l row ops).2=5∨((fw l row ops).2=0∧jO (ey l ops).1 (fw l row ops).1))):=by
 have hk:ey l ops=tL l ops:=(by unfold ey;rw[if_neg (by simp[hl]),if_neg (by simp[hx])])
 refine⟨hk,by rw[hk];exact QB ops hg [],fun h4=>?_,fun h0=>?_⟩
 ·unfold fw;rw[if_neg (by simp[hw]),if_pos ze,h4]
 have he:fw l row ops=u5 l row ops:=(by unfold fw;rw[if_neg (by simp[hw]),if_neg (by simp[h0])])
 refine⟨he,?_⟩;rw[he,hk];exact O8 hr ops hg [] [] adJ (by rw[hk] at h0;exact h0)

end Go.Proofs.YtdgichenhdikgaaGreatDoor.Ex
namespace Go.Proofs.YtdgichenhdikgaaGreatDoor.Pc
open List
open Go.Proofs.Tryz
open Go.RowKit V Pk Vl Go.Proofs.YtdgichenhdikgaaGreatDoor.Nm
def typesB:List (List UInt8):=[[],[66,79,79,76],[73,78,84],[84,69,88,84]]
abbrev TypesTab(w:World):Prop:=Tab.mD w 0 typesC

end Go.Proofs.YtdgichenhdikgaaGreatDoor.Pc
namespace Go.Proofs.YtdgichenhdikgaaGreatDoor.Ex





open List
open Go.Proofs.Tryz
open Go.RowKit V Pk Vl Go.Proofs.YtdgichenhdikgaaGreatDoor.Nm Pc Cd
open Go.Lib (compareBytes)
variable {ops:List aX} {k:List UInt8}
def nB(ops:List aX)(i:Nat):Int:=(ops.getD i (qP 0)).k
def iV(ops:List aX):Nat→Int→Nat
 | 0,_=>0
 | i+1,need=>if need+(bP (nB ops i)-1)>0 then iV ops i (need+(bP (nB ops i)-1)) else i
theorem uR{i:Nat}(h:i<ops.length):nB ops i=ops[i].k:=by unfold nB;rw[getD_eq_getElem?_getD,getElem?_eq_getElem h];rfl
theorem TM{h h':Int}{o:aX}(he:fj h o=0)(hp:bP o.k≤h'):fj h' o=0:=by
 unfold fj at he ⊢;split at he
 ·cases he
 rename_i q1;rw[if_neg q1];split at he
 ·rename_i h2;exact absurd he h2
 rename_i q2;rw[if_neg q2];split at he
 ·cases he
 rename_i E;rw[if_neg E];split at he
 ·rename_i h4;exact absurd he h4.2
 rename_i I;rw[if_neg I,if_neg w4]
theorem HR{n:Nat}{h:Int}(hn:n<ops.length)(e:runs 0 (ops.take (n+1))=some h):∃h',runs 0 (ops.take n)=some h'∧fj h' ops[n]=0∧h=h'+(1-bP ops[n].k):=by
 rw[take_succ_eq_append_getElem hn,yg] at e;cases hr:runs 0 (ops.take n) with
 | none=>rw[hr] at e;cases e
 | some h' =>
  rw[hr,Option.bind_some,runs] at e;split at e
  ·rename_i he;rw[runs] at e;cases e;exact⟨h',rfl,he,rfl⟩
  cases e
theorem QC{ops:List aX}:∀(n:Nat) (need h:Int),n≤ops.length→runs 0 (ops.take n)=some h→1≤need→need≤h →
  iV ops n need<n∧runs 0 (ops.take (iV ops n need))=some (h-need)∧∀k:Int,0≤k→runs k ((ops.take n).drop (iV ops n need))=some (k+need)
 | 0,need,h,_,e,h1,h2=>by rw[List.take_zero,runs] at e;cases e;omega
 | n+1,need,h,hn,e,h1,h2=>by
  have aa:n<ops.length:=(by omega)
  obtain⟨h',e1,e2,U⟩:=HR aa e;have I:=tr ops[n].k;have rB:=(v8 e2).1;have E:∀m,m≤n→(ops.take (n+1)).drop m=(ops.take n).drop m++[ops[n]]:=fun m hm=>by
   rw[take_succ_eq_append_getElem aa,drop_append,show m-(ops.take n).length=0 by rw[length_take];omega,drop_zero]
  rw[iV,uR aa];by_cases hc:need+(bP ops[n].k-1)>0
  ·rw[if_pos hc];obtain⟨q1,q2,O⟩:=QC n (need+(bP ops[n].k-1)) h' w4 e1 w4 w4;refine⟨by omega,by rw[q2];congr 1;omega,fun k hk=>?_⟩;rw[E _ w4,yg,O k hk,Option.bind_some,runs,if_pos (TM e2 w4),runs];congr 1;omega
  rw[if_neg hc];refine⟨by omega,by rw[e1];congr 1;omega,fun k hk=>?_⟩;rw[E n (Nat.le_refl _),drop_of_length_le oP,nil_append,runs,if_pos (TM e2 w4),runs];congr 1;omega
def lZ(key:ByteArray)(o:aX):Bool:=o.k==2&&o.nm.toList==key.toList
def gS(o:aX):Bool:=o.k==1 && !(o.v.k==0)
abbrev k8:=List UInt8×List UInt8
variable {b:k8}
def om(k:List UInt8)(b:k8):k8:=if compareBytes k b.1>0 then (k,b.2) else b
def rY(k:List UInt8)(b:k8):k8:=if b.2.length=0∨compareBytes k b.2<0 then (b.1,k) else b
def ve(kc:Int)(eq not:Bool)(k:List UInt8)(b:k8):k8 :=
 bif eq||(kc==0)!=not then rY k (bif eq||(kc==0)==not then om k b else b) else bif eq||(kc==0)==not then om k b else b
def zw(ops:List aX):List UInt8:=(ga [(ops.getD (dR gS (ops.take 2)).toNat (qP 0)).v]).1
def nc(key:ByteArray)(ops:List aX)(not:Bool)(b:k8):k8 :=
 if ops.length≠3∨(not=true∧nB ops (ops.length-1)≠7)∨(nB ops (ops.length-1)≠6∧nB ops (ops.length-1)≠7) then b
 else if dR (lZ key) (ops.take 2)<0∨dR gS (ops.take 2)<0 then b
 else ve (dR (lZ key) (ops.take 2)) (nB ops (ops.length-1)==6) not (zw ops) b
def gh(key:ByteArray):Nat→List aX→k8→k8
 | 0,_,b=>b
 | f+1,ops,b =>
  if nB ops (ops.length-1)=3 then gh key f ((ops.take (ops.length-1)).drop (iV ops (ops.length-1) 1)) (gh key f (ops.take (iV ops (ops.length-1) 1)) b)
  else if nB ops (ops.length-1)=5 then nc key (ops.take (ops.length-1)) true b
  else nc key ops false b
variable {G:List (Nat×List Value)} {m:Int}
theorem aah(ops:List aX)(pW:ops.length≤40)(n:Nat)(hn:n≤ops.length)(h:Int)(hr:runs 0 (ops.take n)=some h)(h1:1≤h):VP Tryz.prog G 159 [av 5 cO ops,ae (n:Nat)] (ae (iV ops n 1:Nat)):=by
 refine VC.body func159 rfl ntmps159 aS fun X0 w0 aZ=>?_;refine af [0,1] ?_;refine af [0,5] ?_;refine af [0,5,6] ?_;refine eK [0] (fun aW _ (E:Nat×Int) aI=>match E with|(i,need)=>(i≤n)∧(0≤need)∧(need≤1+2*((n:Int)-i))∧((need=0∧iV ops n 1=i)∨(1≤need∧iV ops n 1=iV ops i need∧∃h,runs 0 (ops.take i)=some h∧need≤h))∧aI=(⟨22,(5,ae (i:Nat))::(6,ae need)::aW,[]⟩:St)) (fun (E:Nat×Int)=>match E with|(i,need)=>i) (n,1) ⟨(Nat.le_refl _),w7,w4,(.inr ⟨by decide,rfl,h,hr,h1⟩),rfl⟩ ?_;rintro⟨i,need⟩ _ ⟨hi,gL,Xk,hinv,rfl⟩;refine af [0,5,6,9] ?_;refine au ?_ ?_<;>intro aN bC
 ·obtain⟨hz,_⟩|⟨gw,I,h2,e1,e2⟩:=hinv
  ·omega
  have Ni:0<i:=(by rcases Nat.eq_zero_or_pos i with rfl|h;rw[List.take_zero,runs] at e1;cases e1;omega;exact h)
  have O:-9223372036854775808≤((i-1:Nat):Int):=(by omega)
  have U:((i-1:Nat):Int)≤9223372036854775807:=(by omega)
  have j8:(i:Int)-1=((i-1:Nat):Int):=(by omega)
  have aa:i-1<ops.length:=(by omega)
  have CX:=tr ops[i-1].k;obtain⟨h3,e3,e4,e5⟩:=HR aa (by rw[show i-1+1=i by omega];exact e1);have rB:=(v8 e4).1;have Z:iV ops i need=if need+(bP ops[i-1].k-1)>0 then iV ops (i-1) (need+(bP ops[i-1].k-1)) else i-1:=by obtain⟨j,rfl⟩:∃j,i=j+1:=⟨i-1,by omega⟩;rw[iV,uR w4];rfl
  have nO:(need+(bP ops[i-1].k-1)=0∧iV ops n 1=i-1)∨(1≤need+(bP ops[i-1].k-1)∧iV ops n 1=iV ops (i-1) (need+(bP ops[i-1].k-1))∧∃h,runs 0 (ops.take (i-1))=some h∧need+(bP ops[i-1].k-1)≤h):=(by (by_cases hc:need+(bP ops[i-1].k-1)>0);exact .inr ⟨by omega,by rw[I,Z,if_pos hc],h3,e3,by omega⟩;exact .inl ⟨by omega,by rw[I,Z,if_neg hc]⟩)
  refine cQ [0,5,6] ?_;refine aU 1 ?_ (h:=by exact(c8 rfl ot bL (gk (r:=((i-1:Nat):Int)) (by rw[j8];exact wrap_i64 O U))));refine bG ?_;refine iF [0,5,6] ?_;refine de (EA ops[i-1].k) ?_;refine bG ?_;refine⟨((i-1),(need+(bP ops[i-1].k-1))),_,cD,aQ,w4,w4,w4,nO,rfl⟩
 have aV:iV ops n 1=i:=(by rcases hinv with ⟨_,h⟩|⟨h,_⟩;exact h;omega)
 refine af [4] ?_;exact uf
theorem O9(ls:List aX)(g:Nat)(E:List D)(S:List ah)(p:aX→Bool)(fu:∀args w,(callFunc g args).run Tryz.prog w = .ok (.enter g args) w)(hp:∀x∈ls,VC Tryz.prog G g (.agg (cO x)::E) S (fun r S'=>r=cg (p x)∧S'=S))(hlen:ls.length≤1000000):VC Tryz.prog G 160 [av 5 cO ls,.eB (.func g) E] S (fun r S'=>r=ae (dR p ls)∧S'=S):=by
 refine VC.body func160 rfl ntmps160 aS fun X0 w0 aZ=>?_;unfold cO at hp;exact V4
theorem aai(o:aX)(nm:ByteArray)(b:Nat):VC Tryz.prog G 161 [.agg (cO o),dI b] [⟨b,9,1,[bn nm]⟩] (fun r S=>r=cg (lZ nm o)∧S=[⟨b,9,1,[bn nm]⟩]):=by
 refine VC.body func161 rfl ntmps161 aS fun X0 w0 aZ=>?_;unfold cO lZ;refine bY ?_;refine OD.box (ds:=[_,_,_,_,_]) ap rfl rfl ot rfl rfl (fun b2=>?_);refine an 13 [1,2] ?_;refine aD 4 ?_;refine bX 7 (fun I E=>?_) (fun I E=>?_)
 ·refine bg [3] ?_;refine aJ [⟨b,9,1,[bn nm]⟩] ?_;first|exact⟨rfl,rfl⟩|(refine⟨vb ?_,rfl⟩;simp_all)
 refine bg [3] ?_;refine aJ [⟨b,9,1,[bn nm]⟩] ?_;first|exact⟨rfl,rfl⟩|(refine⟨vb ?_,rfl⟩;simp_all)
theorem aaj(o:aX):VC Tryz.prog G 162 [.agg (cO o)] [] (fun r S=>r=cg (gS o)∧S=[]):=by
 refine VC.body func162 rfl ntmps162 aS fun X0 w0 aZ=>?_;unfold cO gS;refine bY ?_;refine OD.box (ds:=[_,_,_,_,_]) ap rfl rfl ot rfl rfl (fun b1=>?_);refine an 12 [1] ?_;refine aD 4 ?_;refine bX 6 (fun I E=>?_) (fun I E=>?_)
 ·refine bg [2] ?_;refine eR ?_;first|exact⟨rfl,rfl⟩|(refine⟨vb ?_,rfl⟩;simp_all;done)|(refine⟨vb ?_,rfl⟩;simp_all;rfl)
 refine bg [2] ?_;refine eR ?_;first|exact⟨rfl,rfl⟩|(refine⟨vb ?_,rfl⟩;simp_all;done)|(refine⟨vb ?_,rfl⟩;simp_all;rfl)
theorem Rq(a b:List UInt8):VP Tryz.prog G 51 [av 1 cB a,av 1 cB b] (ae (compareBytes a b)):=by
 exact U4
theorem aak:(Tryz.prog.info? 5).map (fun i=>(i.zero,i.size,i.bytes))=some (some (.int .u8 0),1,1):=by kernel_rfl
theorem Ig(a:List UInt8)(ha:a.length≤1000):VP Tryz.prog G 95 [av 1 cB a] (av 1 cB a):=by
 refine VC.body func95 rfl ntmps95 aS fun X0 w0 aZ=>?_;have da:=dW;refine af [0] ?_;refine aD 1 ?_;refine OD.yX ap rfl rfl ot bL underlying88 (fun O xE=>?_);refine an 8 [0,4] ?_;refine au ?_ ?_<;>intro aN bC
 ·exact WG
 refine bY ?_;refine OD.yY ap rfl rfl runUnderlying88 sizeOf5 (fun b5=>?_);refine aE 1 ?_;refine OD.ph (ls:=([]:List UInt8)) (new:=a) (Sq:=[⟨b5,5,0*1,[]⟩]) pz wz ap rfl rfl underlying88 aak rfl w7 runUnderlying88 sizeOf5 ot (.inr ⟨b5,rfl,Nat.le_refl _,Nat.zero_le _,rfl⟩) (dD (A:=[])) ot iq iq (fun E I S7 pR=>?_);exact z138
theorem ET(l:List Vl):(ga l).1.length≤100:=by
 unfold ga;split
 ·simp
 split
 ·simp
 split
 ·simp
 simpa using by omega
theorem adK(hk:k.length≤100)(h1:b.1.length≤100)(h2:b.2.length≤100):(om k b).1.length≤100∧(om k b).2.length≤100:=by unfold om;split<;>exact⟨by assumption,by assumption⟩
theorem QD(hk:k.length≤100)(h1:b.1.length≤100)(h2:b.2.length≤100):(rY k b).1.length≤100∧(rY k b).2.length≤100:=by unfold rY;split<;>exact⟨by assumption,by assumption⟩
theorem adL{E:Int}{eq not:Bool}(hk:k.length≤100)(h1:b.1.length≤100)(h2:b.2.length≤100):(ve E eq not k b).1.length≤100∧(ve E eq not k b).2.length≤100:=by
 unfold ve;have q1:=adK hk h1 h2;have q2:=QD hk h1 h2;have I:=QD hk q1.1 q1.2;cases(eq||(E==0)!=not)<;>cases(eq||(E==0)==not)
 ·exact⟨h1,h2⟩
 ·exact q1
 ·exact q2
 exact I
theorem yw{key:ByteArray}{not:Bool}(h1:b.1.length≤100)(h2:b.2.length≤100):(nc key ops not b).1.length≤100∧(nc key ops not b).2.length≤100:=by
 unfold nc;split
 ·exact⟨h1,h2⟩
 split
 ·exact⟨h1,h2⟩
 exact adL (ET _) h1 h2
theorem Jf(key:ByteArray):∀(f:Nat) (ops:List aX) (b:k8),b.1.length≤100→b.2.length≤100→(gh key f ops b).1.length≤100∧(gh key f ops b).2.length≤100
 | 0,_,b,h1,h2=>⟨h1,h2⟩
 | f+1,ops,b,h1,h2=>by
  rw[gh];split
  ·have q:=Jf key f (ops.take (iV ops (ops.length-1) 1)) b h1 h2;exact Jf key f _ _ q.1 q.2
  split
  ·exact yw h1 h2
  exact yw h1 h2
theorem EB(h:runs 0 ops=some 1):1≤ops.length:=by
 cases ops with
 | nil=>rw[runs] at h;cases h
 | cons=>simp
theorem QE(h:runs 0 ops=some 1):∃(hn:ops.length-1<ops.length),runs 0 (ops.take (ops.length-1))=some (bP ops[ops.length-1].k):=by
 have hp:=EB h;have aa:ops.length-1<ops.length:=(by omega)
 refine⟨aa,?_⟩;obtain⟨h',e1,e2,E⟩:=HR aa (by rw[show ops.length-1+1=ops.length by omega,take_length];exact h);rw[e1];congr 1;omega
theorem adM(h:runs 0 ops=some 1)(hk:nB ops (ops.length-1)=3):iV ops (ops.length-1) 1<ops.length-1∧runs 0 (ops.take (iV ops (ops.length-1) 1))=some 1∧runs 0 ((ops.take (ops.length-1)).drop (iV ops (ops.length-1) 1))=some 1∧runs 0 (ops.take (ops.length-1))=some 2:=by
 obtain⟨hn,e⟩:=QE h;rw[uR hn] at hk;rw[hk] at e;obtain⟨q1,q2,E⟩:=QC (ops.length-1) 1 2 w4 e w7 w7;exact⟨q1,q2,E 0 w7,e⟩
variable {key:ByteArray}
theorem afn{ls:List aX}{j:Nat}(h:j<ls.length):((ls.flatMap cO).drop (j*5+1)).take 3=cV ls[j].v:=by
 rw[←drop_drop,uL mY,drop_eq_getElem_cons h,flatMap_cons];rfl
theorem abT(hG:(2,[Value.int .i64 m])∈G)(key:ByteArray)(f:Nat)(hf:f≤40)(IH:∀(ops:List aX) (lo hi:List UInt8),ops.length≤f→runs 0 ops=some 1→(∀o∈ops,o.v.Ok)→lo.length≤100→hi.length≤100→∀b0,VC Tryz.prog G 151 [dI b0,bn key,av 5 cO ops] [⟨b0,225,2,[av 1 cB lo,av 1 cB hi]⟩] (fun r S=>r = .dF []∧S=[⟨b0,225,2,[.list 1 ((gh key f ops (lo,hi)).1.flatMap cB) (gh key f ops (lo,hi)).1.length,.list 1 ((gh key f ops (lo,hi)).2.flatMap cB) (gh key f ops (lo,hi)).2.length]⟩]))(ops:List aX)(lo hi:List UInt8)(hl:ops.length≤f+1)(pW:ops.length≤40)(hr:runs 0 ops=some 1)(aT:∀o∈ops,o.v.Ok)(eX:lo.length≤100)(eH:hi.length≤100)(b0:Nat):VC Tryz.prog G 151 [dI b0,bn key,av 5 cO ops] [⟨b0,225,2,[av 1 cB lo,av 1 cB hi]⟩] (fun r S=>r = .dF []∧S=[⟨b0,225,2,[.list 1 ((gh key (f+1) ops (lo,hi)).1.flatMap cB) (gh key (f+1) ops (lo,hi)).1.length,.list 1 ((gh key (f+1) ops (lo,hi)).2.flatMap cB) (gh key (f+1) ops (lo,hi)).2.length]⟩]):=by
 refine VC.body func151 rfl ntmps151 aS fun X0 w0 aZ=>?_;have hp0:=EB hr;obtain⟨gw,XC⟩:=QE hr;have I:=uR gw;have da:=dW;have CX:=tr ops[ops.length-1].k;refine bY ?_;refine OD.box (ds:=[_]) ap rfl rfl ot rfl rfl (fun b4=>?_);refine an 155 [0,2,4] ?_;refine cQ [0,2,4,6] ?_;refine aU 2 ?_ (h:=by exact(c8 rfl ot bL (gk (r:=((ops.length-1:Nat):Int)) (by rw[show((ops.length:Nat):Int)-1=((ops.length-1:Nat):Int) by omega];exact wrap_i64 w4 w4))));refine bG ?_;refine af [0,2,4,6,22] ?_;refine au ?_ ?_<;>intro aN bC
 ·have lR:nB ops (ops.length-1)=3:=(by rw[I];omega)
  obtain⟨C8,WQ,hm3,hm4⟩:=adM hr lR;have aV:(gh key (f+1) ops (lo,hi))=gh key f ((ops.take (ops.length-1)).drop (iV ops (ops.length-1) 1)) (gh key f (ops.take (iV ops (ops.length-1) 1)) (lo,hi)):=(by rw[gh,if_pos lR])
  have C9:=Jf key f (ops.take (iV ops (ops.length-1) 1)) (lo,hi) eX eH;refine cH [0,2,4,6,7] (aah ops w4 (ops.length-1) w4 2 hm4 w7) ?_;refine CD.seq ?_;refine mg 5 [0,2,4,6,7,26,27,30] ?_;refine aU 4 ?_ (h:=by exact(ei (l:=0) rfl ot trivial ⟨_,ot⟩ Gp));refine jJ ?_;refine OD.call ap rfl rfl rfl call151 (IH (ops.take (iV ops (ops.length-1) 1)) (lo) (hi) (by simp only[length_drop,length_take];omega) WQ (fun o ho=>aT o (mem_of_mem_take ho)) w4 w4 b0) ⟨ot,ot,ot,trivial⟩ (kf (k:=1) rfl) ?_;rintro _ _ ⟨rfl,rfl⟩;refine an 155 [0,2,4,6,7] ?_;refine CD.seq ?_;refine mg 6 [32,33,37] ?_;refine aU 5 ?_ (h:=by exact(ei (l:=(iV ops (ops.length-1) 1)) (h:=(ops.length-1)) rfl ot ⟨_,ot⟩ ⟨_,ot⟩ (ae6 mY (fun h=>by cases h) (fun h=>by cases h) runUnderlying30 sizeOf43 w4 w4)));refine jJ ?_;refine OD.call ap rfl rfl rfl call151 (IH ((ops.take (ops.length-1)).drop (iV ops (ops.length-1) 1)) ((gh key f (ops.take (iV ops (ops.length-1) 1)) (lo,hi)).1) ((gh key f (ops.take (iV ops (ops.length-1) 1)) (lo,hi)).2) (by simp only[length_drop,length_take];omega) hm3 (fun o ho=>aT o (mem_of_mem_take (mem_of_mem_drop ho))) w4 w4 b0) ⟨ot,ot,ot,trivial⟩ (kf (k:=0) rfl) ?_;rintro _ _ ⟨rfl,rfl⟩;refine an 155 [] ?_;exact Wh
 have lR:¬nB ops (ops.length-1)=3:=(by rw[I];omega)
 refine af [0,2,4,6,8] ?_;refine CD.cut (fun aI=>∃(bq:List aX),∃(nt:Bool),((gh key (f+1) ops (lo,hi))=nc key bq nt (lo,hi))∧(1≤bq.length)∧(bq.length≤40)∧(∀o∈bq,o.v.Ok)∧(bq.length-1<bq.length)∧aI=(⟨155,[(0,dI b0),(2,av 5 cO bq),(4,dI b4),(6,ae ((bq.length-1):Nat)),(8,cg nt)],[⟨b4,9,1,[bn key]⟩,⟨b0,225,2,[av 1 cB lo,av 1 cB hi]⟩]⟩:St)) ?_ ?_
 ·refine af [0,2,4,6,8,45] ?_;refine au ?_ ?_<;>intro aY cz
  ·have U:nB ops (ops.length-1)=5:=(by rw[I];simpa using aY)
   have iQ:2≤ops.length:=(by rw[←I,U] at XC;have:=EB XC;rw[length_take] at this;omega)
   have Ap:(gh key (f+1) ops (lo,hi))=nc key (ops.take (ops.length-1)) true (lo,hi):=(by rw[gh,if_neg lR,if_pos U])
   have oO:(ops.take (ops.length-1)).length=(ops.length-1):=(by rw[length_take];omega)
   refine cQ [0,2,4,6,8] ?_;refine aU 2 ?_ (h:=by exact(ei (l:=0) rfl ot trivial ⟨_,ot⟩ Gp));refine bG ?_;refine iF [0,2,4,6,8] ?_;refine aU 1 ?_ (h:=by exact(c8 rfl ot bL (gk (r:=((ops.length-1-1:Nat):Int)) (by rw[show((ops.length-1:Nat):Int)-1=((ops.length-1-1:Nat):Int) by omega];exact wrap_i64 w4 w4))));refine bG ?_;refine⟨_,(aQ (h:=by repeat (first|exact trivial|refine⟨(by (repeat (first|exact fD|(apply fX;focus (first|rfl|(rw[oO];done)|(rw[aY];done)))|(apply fH;focus rfl)));done),?_⟩))),(ops.take (ops.length-1)),true,Ap,w4,w4,(fun o ho=>aT o (mem_of_mem_take ho)),w4,rfl⟩
  have U:¬nB ops (ops.length-1)=5:=(by rw[I];simpa using aY)
  have Ap:(gh key (f+1) ops (lo,hi))=nc key ops false (lo,hi):=(by rw[gh,if_neg lR,if_neg U])
  refine CD.skip ?_;refine⟨_,(aQ (h:=by repeat (first|exact trivial|refine⟨(by (repeat (first|exact fD|(apply fX;focus (first|rfl|(rw[oO];done)|(rw[aY];done)))|(apply fH;focus rfl)));done),?_⟩))),ops,false,Ap,hp0,pW,aT,gw,rfl⟩
 rintro _ ⟨bq,nt,aV,ox,aoY,jQ,vf,rfl⟩;refine jV [0,2,4,6,8] (fun aW ux aI=>(¬(bq.length≠3∨(nt=true∧bq[bq.length-1].k≠7)∨(bq[bq.length-1].k≠6∧bq[bq.length-1].k≠7)))∧aI=(⟨155,aW,ux⟩:St)) ?_ ?_
 ·refine aD 3 ?_;refine bX 53 (fun K6 Kf=>?_) (fun K6 Kf=>?_)
  ·refine bg [0,2,4,6,8,79] ?_;refine eM ?_;exact z37
  refine aE 2 ?_;refine bX 55 (fun tO agI=>?_) (fun tO agI=>?_)
  ·refine aE 9 ?_;refine bX 64 (fun Lf Ki=>?_) (fun Lf Ki=>?_)
   ·refine bg [0,2,4,6,8,79] ?_;refine eM ?_;exact z37
   refine aE 7 ?_;exact Wd
  refine xI 6 ?_;refine aE 10 ?_;exact Wd
 rintro _ ⟨so,rfl⟩;refine aD 1 ?_;refine bH (ei (l:=0) (h:=2) rfl ot trivial ⟨_,bL⟩ Gp) ?_;refine bH (pi (ds:=[_]) rfl ⟨ot,trivial⟩) ?_;refine OD.call ap rfl rfl rfl call160 (O9 (bq.take 2) 161 [dI b4] _ (lZ key) call161 (fun h _=>aai h key b4) oP) ⟨ot,ot,trivial⟩ (kf (k:=0) rfl) ?_;rintro _ SS2 ⟨rfl,E⟩;rw[E];clear E;refine an 155 [0,2,6,8,9] ?_;refine aD 1 ?_;refine bH (ei (l:=0) (h:=2) rfl ot trivial ⟨_,bL⟩ Gp) ?_;refine OD.call ap rfl rfl rfl call160 (O9 (bq.take 2) 162 [] [] gS call162 (fun h _=>aaj h) oP) ⟨ot,s7,trivial⟩ (eT _) ?_;rintro _ SS2 ⟨rfl,E⟩;rw[E];clear E;refine an 155 [0,2,6,8,9,10] ?_;refine aD 3 ?_;refine bX 89 (fun ai3 agJ=>?_) (fun ai3 agJ=>?_)
 ·refine bg [0,2,6,8,9,10,92] ?_;refine eM ?_;exact U1
 refine bg [0,2,6,8,9,10,92] ?_;refine au ?_ ?_<;>intro cW ek
 ·exact U1
 have bZ:¬((dR (lZ key) (bq.take 2))<0∨(dR gS (bq.take 2))<0):=(by first|omega|(simp_all;omega)|simp_all)
 have hLb:=uO gS (bq.take 2);have GM:bq.length=3:=(by omega)
 rw[length_take] at hLb;have O:(dR gS (bq.take 2)).toNat<bq.length:=(by omega)
 have MU:zw bq=(ga [bq[(dR gS (bq.take 2)).toNat].v]).1:=(by unfold zw;rw[getD_eq_getElem?_getD,getElem?_eq_getElem O];rfl)
 have Uc:(gh key (f+1) ops (lo,hi))=ve (dR (lZ key) (bq.take 2)) (bq[bq.length-1].k==6) nt (ga [bq[(dR gS (bq.take 2)).toNat].v]).1 (lo,hi):=(by rw[aV];unfold nc;rw[uR vf,if_neg so,if_neg bZ,MU])
 have xX:=afb hG [bq[(dR gS (bq.take 2)).toNat].v] iq (fun v hv=>by rw[mem_singleton] at hv;rw[hv];exact jQ _ (getElem_mem O));have dY:=ET [bq[(dR gS (bq.take 2)).toNat].v];unfold KY Bf at xX;refine cQ [0,2,6,8,9,11] ?_;refine aU 2 ?_ (h:=by exact(dm 5 (h:=by first|exact .l (j:=(dR gS (bq.take 2)).toNat) w4 O|exact .r (j:=(dR gS (bq.take 2)).toNat) w4 O)));refine aU 1 ?_ (h:=by exact(cR (mk:=Op.load 41) rfl ot (qj isAgg41 sizeOf41 rfl (afn O))));refine de (xX) ?_;refine bG ?_;refine af [0,8,9,11,13] ?_;refine jV [0,8,9,11,13] (fun aW _ aI=>∃(b1:k8),(b1=(bif (bq[bq.length-1].k==6)||(((dR (lZ key) (bq.take 2))==0)==nt) then om (ga [bq[(dR gS (bq.take 2)).toNat].v]).1 (lo,hi) else (lo,hi)))∧(b1.1.length≤100)∧(b1.2.length≤100)∧aI=(⟨155,aW,[⟨b0,225,2,[av 1 cB b1.1,av 1 cB b1.2]⟩]⟩:St)) ?_ ?_
 ·refine aD 2 ?_;refine bX 110 (fun J2 Z=>?_) (fun J2 Z=>?_)
  ·refine bg [0,8,9,11,13,115] ?_;refine eM ?_;exact V8
  refine aE 3 ?_;refine OD.still iu rfl (c8 rfl ot ot (Er underlying4)) ?_;refine an 155 [0,8,9,11,13,115] ?_;refine au ?_ ?_<;>intro eA fA
  ·exact V8
  have Cu:(lo,hi)=(bif (bq[bq.length-1].k==6)||(((dR (lZ key) (bq.take 2))==0)==nt) then om (ga [bq[(dR gS (bq.take 2)).toNat].v]).1 (lo,hi) else (lo,hi)):=(by rw[J2,eA];rfl)
  refine CD.skip ?_;refine⟨_,aQ,(lo,hi),Cu,(by first|exact dY|exact eX),eH,rfl⟩
 rintro _ ⟨b1,iO,aoZ,ao0,rfl⟩;refine aD 2 ?_;refine bX 129 (fun J1 afo=>?_) (fun J1 afo=>?_)
 ·refine bg [0,11,134] ?_;refine eM ?_;exact V2
 refine aE 3 ?_;refine OD.still iu rfl (c8 rfl ot ot (P6 underlying4)) ?_;refine an 155 [0,11,134] ?_;refine au ?_ ?_<;>intro gX kO
 ·exact V2
 have Me:((bq[bq.length-1].k==6) || !(((dR (lZ key) (bq.take 2))==0)==nt))=false:=(by rw[J1,gX];rfl)
 have sQ:(gh key (f+1) ops (lo,hi))=b1:=(by rw[Uc];unfold ve;rw[show((bq[bq.length-1].k==6)||((dR (lZ key) (bq.take 2))==0)!=nt)=false from Me,←iO];rfl)
 refine aJ [⟨b0,_,_,_⟩] ?_;refine⟨rfl,?_⟩;first|rw[sQ]|rw[aV]
theorem TN(hG:(2,[Value.int .i64 m])∈G)(key:ByteArray):∀(f:Nat),f≤40→∀(ops:List aX) (lo hi:List UInt8),ops.length≤f→runs 0 ops=some 1→(∀o∈ops,o.v.Ok)→lo.length≤100→hi.length≤100→∀b0,VC Tryz.prog G 151 [dI b0,bn key,av 5 cO ops] [⟨b0,225,2,[av 1 cB lo,av 1 cB hi]⟩] (fun r S=>r = .dF []∧S=[⟨b0,225,2,[.list 1 ((gh key f ops (lo,hi)).1.flatMap cB) (gh key f ops (lo,hi)).1.length,.list 1 ((gh key f ops (lo,hi)).2.flatMap cB) (gh key f ops (lo,hi)).2.length]⟩]):=by
 intro f;induction f with
 | zero =>
  intro _ ops lo hi hl hr;have:=EB hr;omega
 | succ f IH =>
  intro hf ops lo hi hl hr aT eX eH b0;exact abT hG key f w4 (IH w4) ops lo hi hl w4 hr aT eX eH b0
def iR(l:List cA)(ops:List aX):k8×Int :=
 if fI l≠0 then (([],[]),fI l) else if ops.length=0 then (([],[]),0) else if (ey l ops).2≠0 then (([],[]),(ey l ops).2)
 else if (ey l ops).1≠1∧(ey l ops).1≠0 then (([],[]),4) else (gh (l.getD 0 ⟨⟨#[]⟩,0⟩).n ops.length ops ([],[]),0)
def Nj(r:k8×Int):D:=.dF [Bf r.1.1,Bf r.1.2,ae r.2]
theorem abU{l:List cA}(h:fI l=0):0<l.length:=by
 unfold fI at h;split at h
 ·cases h
 omega
theorem Ze(h:iT ops=0):runs 0 ops=some 1:=by
  obtain⟨_,h0⟩:=wj h;have key:∀(l:List aX) (k:Int),fK k l=0→runs k l=some 1:=by
    intro l;induction l with
    | nil => intro k h; rw[fK] at h; split at h; · rename_i e; rw[runs, e]
             · cases h
    | cons o r ih =>
      intro k h;rw[fK] at h;split at h
      · rename_i e;rw[runs,if_pos e];exact ih _ h
      rename_i e;exact absurd h e
  exact key ops 0 h0
theorem aal(hm:(3,marksC)∈G)(hw:(1,wordsC)∈G)(ht:(0,typesC)∈G)(hG:(2,[Value.int .i64 m])∈G)(l:List cA)(hl:l.length≤6)(I:∀c∈l,c.n.size≤maxLen)(ops:List aX)(ho:∀o∈ops,o.nm.size≤maxLen)(aT:∀o∈ops,o.v.Ok):VP Tryz.prog G 128 [av 2 cC l,av 5 cO ops] (Nj (iR l ops)):=by
 refine VC.body func128 rfl ntmps128 aS fun X0 w0 aZ=>?_;have da:=dW;have fg:=EV hm hw ht l w4 I;have Z:=Jc hm hw ht l hl I ops ho;unfold pL at Z;unfold Nj Bf;refine af [0,1] ?_;refine cH [0,1,7] (fg) ?_;refine af [0,1,7,13] ?_;refine au ?_ ?_<;>intro aN bC
 ·have h0:fI l≠0:=(by simpa using aN)
  have aV:iR l ops=(([],[]),fI l):=(by unfold iR;rw[if_pos h0])
  exact FU
 have h0:¬fI l≠0:=(by simpa using aN)
 have E:=abU (Classical.not_not.1 h0);refine af [0,1,17] ?_;refine au ?_ ?_<;>intro aY cz
 ·have h1:ops.length=0:=(by simpa using aY)
  have aV:iR l ops=(([],[]),0):=(by unfold iR;rw[if_neg h0,if_pos h1])
  exact FU
 have h1:¬ops.length=0:=(by simpa using aY)
 refine cH [0,1,6,8] (Z) ?_;refine af [0,1,6,8,25] ?_;refine au ?_ ?_<;>intro bZ cM
 ·have h2:(ey l ops).2≠0:=(by simpa using bZ)
  have aV:iR l ops=(([],[]),(ey l ops).2):=(by unfold iR;rw[if_neg h0,if_neg h1,if_pos h2])
  exact FU
 have h2:¬(ey l ops).2≠0:=(by simpa using bZ)
 obtain⟨k1,k2,k3⟩:=EW (Classical.not_not.1 h2);have Ap:=Ze k2;obtain⟨pW,_⟩:=wj k2;refine aD 3 ?_;refine bX 29 (fun ai4 O=>?_) (fun ai4 O=>?_)
 ·refine bg [0,1,32] ?_;refine au ?_ ?_<;>intro cW ek
  ·have h3:(ey l ops).1≠1∧(ey l ops).1≠0:=(by simp_all)
   have aV:iR l ops=(([],[]),4):=(by unfold iR;rw[if_neg h0,if_neg h1,if_neg h2,if_pos h3])
   exact FU
  have h3:¬((ey l ops).1≠1∧(ey l ops).1≠0):=(by simp_all)
  have aV:iR l ops=(gh l[0].n ops.length ops ([],[]),0):=(by unfold iR;rw[if_neg h0,if_neg h1,if_neg h2,if_neg h3,getD_eq_getElem?_getD,getElem?_eq_getElem E];rfl)
  refine aD 1 ?_;refine OD.box (ds:=[_,_]) ap rfl rfl ot rfl rfl (fun U=>?_);refine OD.wk (Wk.Vh (k:=0) (sz:=1) (sz':=1) rfl) ?_;refine an 50 [0,1,9] ?_;refine aD 2 ?_;refine bH (rS (mk:=Op.indexAddr 27) rfl ot bL (by first|exact tE runUnderlying27 sizeOf69 (j:=0) rfl E|exact tI runUnderlying27 sizeOf69 (j:=0) rfl E)) ?_;refine aE 3 ?_;refine OD.call ap rfl rfl rfl call151 (TN hG l[0].n ops.length pW ops [] [] (Nat.le_refl _) Ap aT (Nat.zero_le _) (Nat.zero_le _) U) ⟨ot,ot,ot,trivial⟩ (kf (k:=0) rfl) ?_;rintro _ _ ⟨rfl,rfl⟩;refine an 50 [9] ?_;refine af [4,5,6] ?_;exact ow
 refine bg [0,1,32] ?_;refine fT ?_;have h3:¬((ey l ops).1≠1∧(ey l ops).1≠0):=(by simp_all)
 have aV:iR l ops=(gh l[0].n ops.length ops ([],[]),0):=(by unfold iR;rw[if_neg h0,if_neg h1,if_neg h2,if_neg h3,getD_eq_getElem?_getD,getElem?_eq_getElem E];rfl)
 refine aD 1 ?_;refine OD.box (ds:=[_,_]) ap rfl rfl ot rfl rfl (fun U=>?_);refine OD.wk (Wk.Vh (k:=0) (sz:=1) (sz':=1) rfl) ?_;refine an 50 [0,1,9] ?_;refine aD 2 ?_;refine bH (rS (mk:=Op.indexAddr 27) rfl ot bL (by first|exact tE runUnderlying27 sizeOf69 (j:=0) rfl E|exact tI runUnderlying27 sizeOf69 (j:=0) rfl E)) ?_;refine aE 3 ?_;refine OD.call ap rfl rfl rfl call151 (TN hG l[0].n ops.length pW ops [] [] (Nat.le_refl _) Ap aT (Nat.zero_le _) (Nat.zero_le _) U) ⟨ot,ot,ot,trivial⟩ (kf (k:=0) rfl) ?_;rintro _ _ ⟨rfl,rfl⟩;refine an 50 [9] ?_;refine af [4,5,6] ?_;exact uf

end Go.Proofs.YtdgichenhdikgaaGreatDoor.Ex
namespace Go.Proofs.YtdgichenhdikgaaGreatDoor.Tr
open List
open Go.Proofs.Tryz
open Go.Lib (compareBytes)
variable {i j:Nat}
abbrev K:=List UInt8
variable {a b c k low:K}
theorem G0(a b:UInt8)(x y:K):compareBytes (a::x) (b::y)=if a<b then -1 else if b<a then 1 else compareBytes x y:=by rw[compareBytes]
theorem u8{a b:UInt8}:a<b↔a.toNat<b.toNat:=UInt8.lt_iff_toNat_lt
theorem xY:∀(x y:K),(compareBytes x y = -1∧compareBytes y x=1)∨(compareBytes x y=0∧x=y)∨(compareBytes x y=1∧compareBytes y x = -1)
 | [],[]=>.inr (.inl ⟨rfl,rfl⟩)
 | [],_::_=>.inl ⟨rfl,rfl⟩
 | _::_,[]=>.inr (.inr ⟨rfl,rfl⟩)
 | a::x,b::y=>by
  rw[G0,G0];by_cases h1:a<b
  ·have h2:¬b<a:=(by rw[u8] at h1 ⊢;omega)
   rw[if_pos h1,if_neg h2,if_pos h1];exact .inl ⟨rfl,rfl⟩
  by_cases h2:b<a
  ·rw[if_neg h1,if_pos h2,if_pos h2];exact .inr (.inr ⟨rfl,rfl⟩)
  rw[if_neg h1,if_neg h2,if_neg h2,if_neg h1];have qG:a=b:=by
   apply UInt8.toNat_inj.1;rw[u8] at h1 h2;omega
  subst qG;rcases xY x y with h|⟨h,e⟩|h
  ·exact .inl h
  ·exact .inr (.inl ⟨h,by rw[e]⟩)
  exact .inr (.inr h)
theorem Ul:∀(x y z:K),compareBytes x y = -1→compareBytes y z = -1→compareBytes x z = -1
 | [],[],_,h,_=>by cases h
 | _::_,[],_,h,_=>by cases h
 | _,_::_,[],_,h=>by cases h
 | [],_::_,_::_,_,_=>rfl
 | a::x,b::y,c::z,h1,h2=>by
  rw[G0] at h1 h2 ⊢;by_cases p:a<b
  ·by_cases q:b<c
   ·rw[if_pos (by rw[u8] at p q ⊢;omega)]
   rw[if_neg q] at h2;by_cases r:c<b
   ·rw[if_pos r] at h2;cases h2
   rw[if_pos (by rw[u8] at p q r ⊢;omega)]
  rw[if_neg p] at h1;by_cases p':b<a
  ·rw[if_pos p'] at h1;cases h1
  rw[if_neg p'] at h1;by_cases q:b<c
  ·rw[if_pos (by rw[u8] at p p' q ⊢;omega)]
  rw[if_neg q] at h2;by_cases r:c<b
  ·rw[if_pos r] at h2;cases h2
  rw[if_neg r] at h2;rw[if_neg (by rw[u8] at p p' q r ⊢;omega),if_neg (by rw[u8] at p p' q r ⊢;omega)];exact Ul x y z h1 h2
def bN(a b:K):Prop:=compareBytes a b<0
instance (a b:K):Decidable (bN a b):=inferInstanceAs (Decidable (_<_))
theorem Jg:bN a b↔compareBytes a b = -1:=by
 unfold bN;rcases xY a b with ⟨h,_⟩|⟨h,_⟩|⟨h,_⟩<;>rw[h]<;>decide
theorem Tu:0<compareBytes a b↔bN b a:=by
 unfold bN;rcases xY a b with ⟨h,h'⟩|⟨h,rfl⟩|⟨h,h'⟩
 ·rw[h,h'];decide
 ·rw[h]
 rw[h,h'];decide
theorem JM(a:K):¬bN a []:=by
 unfold bN;cases a with
 | nil=>decide
 | cons x y=>show ¬(1:Int)<0;decide
theorem kp(a:K):¬bN a a:=fun h=>by
 rcases xY a a with ⟨h1,h2⟩|⟨h1,_⟩|⟨h1,h2⟩
 ·omega
 ·unfold bN at h;omega
 omega
theorem mB(h1:bN a b)(h2:bN b c):bN a c:=Jg.2 (Ul a b c (Jg.1 h1) (Jg.1 h2))
theorem yN(h:bN a b):¬bN b a:=fun h'=>kp a (mB h h')
theorem yO(a b:K):bN a b∨a=b∨bN b a:=by
 unfold bN;rcases xY a b with ⟨h,_⟩|⟨_,h⟩|⟨_,h⟩
 ·exact .inl w4
 ·exact .inr (.inl h)
 exact .inr (.inr w4)
theorem Kj:compareBytes a b=0↔a=b:=⟨fun h=>by
 rcases xY a b with ⟨h1,_⟩|⟨_,h1⟩|⟨h1,_⟩
 ·omega
 ·exact h1
 ·omega,fun h=>by
 subst h;rcases xY a a with ⟨h1,h2⟩|⟨h1,_⟩|⟨h1,h2⟩
 ·omega
 ·exact h1
 omega⟩
theorem Ob(h1:¬bN b a)(h2:bN b c):bN a c:=by
 rcases yO a b with h|rfl|h
 ·exact mB h h2
 ·exact h2
 exact absurd h h1
theorem YR(h1:bN a b)(h2:¬bN c b):bN a c:=by
 rcases yO b c with h|rfl|h
 ·exact mB h1 h
 ·exact h1
 exact absurd h h2
theorem Um(h1:¬bN b a)(h2:¬bN c b):¬bN c a:=fun h=>by
 rcases yO a b with h'|rfl|h'
 ·exact h2 (mB h h')
 ·exact h2 h
 exact h1 h'
theorem qN{α β:Type}{l:List α}{f g:α→List β}(h:∀a∈l,f a=g a):l.flatMap f=l.flatMap g:=by
 induction l with
 | nil=>rfl
 | cons a r ih=>rw[flatMap_cons,flatMap_cons,h a mem_cons_self,ih fun x hx=>h x (mem_cons_of_mem _ hx)]
structure cX where
 leaf:Bool
 keys:List K
 kids:List Int
 high:K
 next:Int
variable {p:cX}
def ai5:cX:=⟨false,[],[],[],0⟩
structure aF where
 ag:List cX
 root:Int
def aF.pg(t:aF)(i:Int):cX:=t.ag.getD i.toNat ai5
def oM:aF:=⟨[⟨true,[],[],[],-1⟩],0⟩
structure eL (p:cX) (many:Int):Prop where
 eD:p.keys.length≤4
 hlen:p.high.length≤100
 wP:-1≤p.next
 wD:p.next<many
 wQ:p.next<0↔p.high=[]
 leaf:p.leaf=true→p.kids.length=p.keys.length
 node:p.leaf=false→p.kids.length=p.keys.length+1∧p.keys≠[]
 lq:∀k∈p.keys,1≤k.length∧k.length≤100
 qm:p.high≠[]→∀k∈p.keys,bN k p.high
 jS:p.keys.Pairwise bN
 aC:∀n∈p.kids,0≤n
 vk:p.leaf=false→∀n∈p.kids,n<many
theorem eL.more{m E:Int}(h:eL p m)(hm:m≤E):eL p E :=
 ⟨h.eD,h.hlen,h.wP,by have:=h.wD;omega,h.wQ,h.leaf,h.node,h.lq,h.qm,h.jS,h.aC,fun hl n hn=>by have:=h.vk hl n hn;omega⟩
def iw(low:K)(p:cX)(j:Nat):K:=if j=0 then low else p.keys.getD (j-1) []
def gY(p:cX)(j:Nat):K:=p.keys.getD j p.high
def dX(t:aF):Nat→Int→K→K→Prop
 | 0,i,low,high=>(0≤i∧i<t.ag.length)∧(t.pg i).leaf=true∧(t.pg i).high=high∧∀k∈(t.pg i).keys,¬bN k low
 | h+1,i,low,high=>(0≤i∧i<t.ag.length)∧(t.pg i).leaf=false∧(t.pg i).high=high∧(∀k∈(t.pg i).keys,¬bN k low) ∧
  ∀j (hj:j<(t.pg i).kids.length),dX t h (t.pg i).kids[j] (iw low (t.pg i) j) (gY (t.pg i) j)
def ids(t:aF):Nat→Int→List Int
 | 0,i=>[i]
 | h+1,i=>i::(t.pg i).kids.flatMap (ids t h)
def cG(t:aF):Nat→Int→List Int
 | 0,i=>[i]
 | d+1,i=>(t.pg i).kids.flatMap (cG t d)
def fb(p:cX):List (K×Int):=p.keys.zip p.kids
def ev(t:aF):Nat→Int→List (K×Int)
 | 0,i=>fb (t.pg i)
 | h+1,i=>(t.pg i).kids.flatMap (ev t h)
def fh(t:aF):List Int→Int→Prop
 | [],_=>True
 | [i],e=>(t.pg i).next=e
 | i::j::r,e=>(t.pg i).next=j∧fh t (j::r) e
structure Valid (t:aF) (h:Nat):Prop where
 pos:1≤t.ag.length
 nJ:t.ag.length≤4000
 fF:∀p∈t.ag,eL p t.ag.length
 ok:dX t h t.root [] []
 zx:(ids t h t.root).Nodup
 all:(ids t h t.root).length=t.ag.length
 oZ:∀d,d≤h→fh t (cG t d t.root) (-1)
theorem dX.idx{t:aF}:∀{h:Nat} {i:Int} {low high:K},dX t h i low high→0≤i∧i<t.ag.length
 | 0,_,_,_,h=>h.1
 | _+1,_,_,_,h=>h.1
theorem dX.high{t:aF}:∀{h:Nat} {i:Int} {low high:K},dX t h i low high→(t.pg i).high=high
 | 0,_,_,_,h=>h.2.2.1
 | _+1,_,_,_,h=>h.2.2.1
theorem u6{t:aF}{i:Int}(h:0≤i∧i<t.ag.length):t.pg i=t.ag[i.toNat]'w4:=by
 unfold aF.pg;rw[getD_eq_getElem?_getD,getElem?_eq_getElem w4];rfl
theorem jB{t:aF}{i:Int}(h:0≤i∧i<t.ag.length):t.pg i∈t.ag:=by rw[u6 h];exact getElem_mem _
theorem s5{t:aF}(h:Nat)(i:Int):i∈ids t h i:=by cases h<;>simp[ids]
theorem frame{t u:aF}:∀(h:Nat) (i:Int),(∀j∈ids t h i,u.pg j=t.pg j)→ids u h i=ids t h i∧ev u h i=ev t h i∧∀d,d≤h→cG u d i=cG t d i
 | 0,i,hp=>by
  have h0:=hp i (s5 0 i);refine⟨rfl,by unfold ev;rw[h0],fun d hd=>?_⟩;obtain rfl:d=0:=(by omega)
  rfl
 | h+1,i,hp=>by
  have h0:=hp i (s5 _ i);have hs:∀j∈(t.pg i).kids,ids u h j=ids t h j∧ev u h j=ev t h j∧∀d,d≤h→cG u d j=cG t d j:=fun j hj=>frame h j fun x hx=>hp x (by
   rw[ids];exact mem_cons_of_mem _ (mem_flatMap.2 ⟨j,hj,hx⟩))
  refine⟨?_,?_,fun d hd=>?_⟩
  ·rw[ids,ids,h0];congr 1;exact qN (fun j hj=>(hs j hj).1)
  ·rw[ev,ev,h0];exact qN (fun j hj=>(hs j hj).2.1)
  cases d with
  | zero=>rfl
  | succ d=>rw[cG,cG,h0];exact qN (fun j hj=>(hs j hj).2.2 d w4)
theorem dX.frame{t u:aF}(hl:t.ag.length≤u.ag.length):∀{h:Nat} {i:Int} {low high:K},dX t h i low high→(∀j∈ids t h i,u.pg j=t.pg j)→dX u h i low high
 | 0,i,low,high,⟨q1,q2,E,I⟩,hp=>by
  have h0:=hp i (s5 0 i);exact⟨⟨q1.1,by omega⟩,by rw[h0];exact q2,by rw[h0];exact E,by rw[h0];exact I⟩
 | h+1,i,low,high,⟨q1,q2,E,I,O⟩,hp=>by
  have h0:=hp i (s5 _ i);refine⟨⟨q1.1,by omega⟩,by rw[h0];exact q2,by rw[h0];exact E,by rw[h0];exact I,?_⟩;rw[h0];exact fun j hj=>dX.frame hl (O j hj) fun x hx=>hp x (by rw[ids];exact mem_cons_of_mem _ (mem_flatMap.2 ⟨_,getElem_mem hj,hx⟩))
theorem dX.ids{t:aF}:∀{h:Nat} {i:Int} {low high:K},dX t h i low high→∀j∈Tr.ids t h i,0≤j∧j<t.ag.length
 | 0,i,low,high,q,j,hj=>by
  rw[Tr.ids,mem_singleton] at hj;subst hj;exact q.1
 | h+1,i,low,high,⟨q1,q2,I,O,E⟩,j,hj=>by
  rw[Tr.ids] at hj;rcases mem_cons.1 hj with rfl|hj
  ·exact q1
  obtain⟨x,hx,hj⟩:=mem_flatMap.1 hj;obtain⟨n,hn,rfl⟩:=mem_iff_getElem.1 hx;exact dX.ids (E n hn) j hj

theorem Kk{α:Type}{p:α→Bool}:∀{l:List α} {i:Nat} (h:i<(l.takeWhile p).length),∃(h':i<l.length),p l[i]=true
 | a::r,i,h=>by
  rw[takeWhile_cons] at h;by_cases ha:p a=true
  ·rw[if_pos ha] at h;cases i with
   | zero=>exact⟨by simp,ha⟩
   | succ i =>
    obtain⟨h',q⟩:=Kk (l:=r) (i:=i) oR;exact⟨by simpa using h',by simpa using q⟩
  rw[if_neg ha] at h;simp at h
theorem JN{α:Type}{p:α→Bool}:∀{l:List α} (h:(l.takeWhile p).length<l.length),p l[(l.takeWhile p).length]=false
 | a::r,h=>by
  by_cases ha:p a=true
  ·have e:((a::r).takeWhile p).length=(r.takeWhile p).length+1:=(by rw[takeWhile_cons,if_pos ha];rfl)
   have h2:(r.takeWhile p).length<r.length:=(by rw[e] at h;simpa using h)
   have:=JN (l:=r) h2;simp only[e,getElem_cons_succ];exact this
  have e:((a::r).takeWhile p).length=0:=(by rw[takeWhile_cons,if_neg ha];rfl)
  simp only[e,getElem_cons_zero];simpa using ha
theorem Un{α:Type}(p:α→Bool)(l:List α):(l.takeWhile p).length≤l.length:=(takeWhile_sublist p).length_le
def gB(keys:List K)(k:K):Nat:=(keys.takeWhile fun x=>decide (bN x k)).length
def mF(keys:List K)(k:K):Nat:=(keys.takeWhile fun x=>decide (¬bN k x)).length
def aO(p:cX)(k:K):Nat:=if p.leaf=true then gB p.keys k else mF p.keys k
theorem AS{keys:List K}(h:i<gB keys k):∃(h':i<keys.length),bN keys[i] k:=by
 obtain⟨h',q⟩:=Kk h;exact⟨h',by simpa using q⟩
theorem AJ{keys:List K}(h:gB keys k<keys.length):¬bN keys[gB keys k] k:=by
 exact of_decide_eq_false (JN h)
theorem yx(keys:List K)(k:K):gB keys k≤keys.length:=Un _ _
theorem Iw{keys:List K}(h:i<mF keys k):∃(h':i<keys.length),¬bN k keys[i]:=by
 obtain⟨h',q⟩:=Kk h;exact⟨h',by simpa using q⟩
theorem HS{keys:List K}(h:mF keys k<keys.length):bN k keys[mF keys k]:=by
 exact Classical.not_not.1 (of_decide_eq_false (JN h))
theorem AT(keys:List K)(k:K):mF keys k≤keys.length:=Un _ _
theorem mW{keys:List K}(h:keys.Pairwise bN)(E:i<j)(hj:j<keys.length):bN keys[i] keys[j]:=pairwise_iff_getElem.1 h i j w4 hj E
theorem Fe(h:j<p.keys.length):gY p j=p.keys[j]:=by unfold gY;rw[getD_eq_getElem?_getD,getElem?_eq_getElem h];rfl
theorem Jh(h:p.keys.length≤j):gY p j=p.high:=by unfold gY;rw[getD_eq_getElem?_getD,getElem?_eq_none h];rfl
theorem EY(h:0<j)(h':j-1<p.keys.length):iw low p j=p.keys[j-1]:=by unfold iw;rw[if_neg w4,getD_eq_getElem?_getD,getElem?_eq_getElem h'];rfl
def lD(low high k:K):Prop:=¬bN k low∧(high≠[]→bN k high)
theorem tF(k:K):lD [] [] k:=⟨JM k,fun h=>absurd rfl h⟩
theorem down{n:Int}(hp:eL p n)(hl:p.leaf=false){high:K}(E:p.high=high)(hk:lD low high k):aO p k<p.kids.length∧lD (iw low p (aO p k)) (gY p (aO p k)) k:=by
 have e:aO p k=mF p.keys k:=(by unfold aO;rw[if_neg (by rw[hl];decide)])
 have I:=AT p.keys k;rw[e];refine⟨by rw[(hp.node hl).1];omega,?_,?_⟩
 ·rcases Nat.eq_zero_or_pos (mF p.keys k) with h0|h0
  ·rw[h0];exact hk.1
  obtain⟨h',q⟩:=Iw (keys:=p.keys) (k:=k) (i:=mF p.keys k-1) w4;rw[EY h0 h'];exact q
 intro hne;by_cases aa:mF p.keys k<p.keys.length
 ·rw[Fe aa];exact HS aa
 rw[Jh w4] at hne ⊢;rw[E] at hne ⊢;exact hk.2 hne
def aH(t:aF)(k:K):Nat→Int→Int
 | 0,i=>i
 | h+1,i=>aH t k h ((t.pg i).kids.getD (aO (t.pg i) k) 0)
def jf(t:aF)(k:K):Nat→Int→List Int
 | 0,i=>[i]
 | h+1,i=>i::jf t k h ((t.pg i).kids.getD (aO (t.pg i) k) 0)
theorem Pb(t:aF)(k:K):∀(h:Nat) (i:Int),(jf t k h i).getLast?=some (aH t k h i)
 | 0,i=>rfl
 | h+1,i=>by
  have:=Pb t k h ((t.pg i).kids.getD (aO (t.pg i) k) 0);rw[jf,aH,getLast?_cons,this];rfl
theorem wc(t:aF):∀(h:Nat) (i:Int),ev t h i=(cG t h i).flatMap fun l=>fb (t.pg l)
 | 0,i=>by simp[ev,cG]
 | h+1,i=>by
  rw[ev,cG,flatMap_assoc];exact qN fun j _=>wc t h j
theorem zip_fst{α β:Type}:∀{a:List α} {b:List β},b.length=a.length→(a.zip b).map Prod.fst=a
 | [],_,_=>by simp
 | x::a,[],h=>by simp at h
 | x::a,y::b,h=>by simp[zip_fst (a:=a) (b:=b) oR]
theorem QF{x:K×Int}(h:x∈fb p):x.1∈p.keys:=(of_mem_zip h).1
theorem tg(h:j<p.kids.length):p.kids.getD j 0=p.kids[j]:=by rw[getD_eq_getElem?_getD,getElem?_eq_getElem h];rfl
variable {t:aF} {n:Int}
theorem Zf(hp:eL p n)(hl:p.leaf=false){high:K}(I:p.high=high)(E:∀k∈p.keys,¬bN k low)(hj:j<p.kids.length)(hk:lD (iw low p j) (gY p j) k):lD low high k:=by
 have hn:=(hp.node hl).1;refine⟨?_,fun hne=>?_⟩
 ·rcases Nat.eq_zero_or_pos j with rfl|h0
  ·exact hk.1
  rw[EY h0 w4] at hk;exact Um (E _ (getElem_mem _)) hk.1
 by_cases aa:j<p.keys.length
 ·rw[Fe aa] at hk;have hm:=getElem_mem aa;have h2:=hk.2 (by intro e;have:=(hp.lq _ hm).1;rw[e] at this;simp at this);exact mB h2 (by rw[←I];exact hp.qm (by rw[I];exact hne) _ hm)
 rw[Jh w4,I] at hk;exact hk.2 hne
theorem HT(hp:eL p n)(hl:p.leaf=false)(I:i<j)(hj:j<p.kids.length)(ha:lD (iw low p i) (gY p i) a)(hb:lD (iw low p j) (gY p j) b):bN a b:=by
 have hn:=(hp.node hl).1;have E:i<p.keys.length:=(by omega)
 rw[Fe E] at ha;have h1:=ha.2 (by intro e;have:=(hp.lq _ (getElem_mem E)).1;rw[e] at this;simp at this);rw[EY w4 w4] at hb;refine YR h1 ?_;refine Um ?_ hb.1;rcases Nat.lt_or_ge i (j-1) with h|h
 ·exact yN (mW hp.jS h w4)
 have:j-1=i:=(by omega)
 simp only[this];exact kp _
theorem Ji(hp:∀p∈t.ag,eL p n):∀{h:Nat} {i:Int} {low high:K},dX t h i low high→(ev t h i).Pairwise (fun x y=>bN x.1 y.1)∧∀x∈ev t h i,lD low high x.1
 | 0,i,low,high,ok=>by
  obtain⟨q1,q2,E,I⟩:=ok;have po:=hp _ (jB q1);rw[ev];refine⟨?_,fun x hx=>⟨I _ (QF hx),fun hne=>by rw[←E] at hne ⊢;exact po.qm hne _ (QF hx)⟩⟩;have h1:((fb (t.pg i)).map Prod.fst).Pairwise bN:=(by unfold fb;rw[zip_fst (po.leaf q2)];exact po.jS)
  exact pairwise_map.1 h1
 | h+1,i,low,high,ok=>by
  obtain⟨q1,q2,E,I,O⟩:=ok;have po:=hp _ (jB q1);rw[ev];have hk:∀j (hj:j<(t.pg i).kids.length),(ev t h (t.pg i).kids[j]).Pairwise (fun x y=>bN x.1 y.1)∧∀x∈ev t h (t.pg i).kids[j],lD (iw low (t.pg i) j) (gY (t.pg i) j) x.1:=fun j hj=>Ji hp (O j hj);refine⟨pairwise_flatMap.2 ⟨fun a ha=>?_,?_⟩,fun x hx=>?_⟩
  ·obtain⟨j,hj,rfl⟩:=mem_iff_getElem.1 ha;exact(hk j hj).1
  ·refine pairwise_iff_getElem.2 fun a b ha hb qG x hx y hy=>?_;exact HT po q2 qG hb ((hk a ha).2 x hx) ((hk b hb).2 y hy)
  obtain⟨c,hc,hx⟩:=mem_flatMap.1 hx;obtain⟨j,hj,rfl⟩:=mem_iff_getElem.1 hc;exact Zf po q2 E I hj ((hk j hj).2 x hx)
theorem AU(hp:∀p∈t.ag,eL p n){k:K}:∀{h:Nat} {i:Int} {low high:K},dX t h i low high→lD low high k →
  ∃pre post lo hi,cG t h i=pre++aH t k h i::post∧(∀l∈pre,∀x∈fb (t.pg l),bN x.1 k)∧(∀l∈post,∀x∈fb (t.pg l),bN k x.1)∧dX t 0 (aH t k h i) lo hi∧lD lo hi k
 | 0,i,low,high,ok,hk=>⟨[],[],low,high,rfl,(fun _ h=>by cases h),(fun _ h=>by cases h),ok,hk⟩
 | h+1,i,low,high,ok,hk=>by
  obtain⟨q1,q2,I,O,E⟩:=ok;have po:=hp _ (jB q1);obtain⟨d1,d2⟩:=down po q2 I hk;obtain⟨pre,post,lo,hi,e,h1,h2,h3,h4⟩:=AU hp (E _ d1) d2;have hm:∀j (hj:j<(t.pg i).kids.length),∀l∈cG t h (t.pg i).kids[j],∀x∈fb (t.pg l),lD (iw low (t.pg i) j) (gY (t.pg i) j) x.1:=fun j hj l hl x hx =>
   (Ji hp (E j hj)).2 x (by rw[wc];exact mem_flatMap.2 ⟨l,hl,hx⟩)
  refine⟨((t.pg i).kids.take (aO (t.pg i) k)).flatMap (cG t h)++pre,post++((t.pg i).kids.drop (aO (t.pg i) k+1)).flatMap (cG t h),lo,hi,?_,?_,?_,?_,h4⟩
  ·rw[cG];conv=>lhs;rw[←take_append_drop (aO (t.pg i) k) (t.pg i).kids]
   rw[drop_eq_getElem_cons d1,flatMap_append,flatMap_cons,e,aH,tg d1];simp
  ·intro l hl x hx;rcases mem_append.1 hl with hl|hl
   ·obtain⟨c,hc,hl⟩:=mem_flatMap.1 hl;obtain⟨j,hj,rfl⟩:=mem_iff_getElem.1 hc;rw[length_take] at hj;rw[getElem_take] at hl;exact HT po q2 (show j<aO (t.pg i) k by omega) d1 (hm j w4 l hl x hx) d2
   exact h1 l hl x hx
  ·intro l hl x hx;rcases mem_append.1 hl with hl|hl
   ·exact h2 l hl x hx
   obtain⟨c,hc,hl⟩:=mem_flatMap.1 hl;obtain⟨j,hj,rfl⟩:=mem_iff_getElem.1 hc;rw[length_drop] at hj;rw[getElem_drop] at hl;exact HT po q2 (show aO (t.pg i) k<aO (t.pg i) k+1+j by omega) w4 d2 (hm _ w4 l hl x hx)
  rw[aH,tg d1];exact h3
theorem aam(hp:∀p∈t.ag,eL p n){h:Nat}{i:Int}{high:K}(ok:dX t h i low high)(hk:lD low high k) :
  ∃pre post,cG t h i=pre++aH t k h i::post∧(ev t h i).filter (fun x=>decide (¬bN x.1 k))=(fb (t.pg (aH t k h i))).drop (aO (t.pg (aH t k h i)) k)++post.flatMap fun l=>fb (t.pg l):=by
 obtain⟨pre,post,lo,hi,e,h1,h2,h3,h4⟩:=AU hp ok hk;refine⟨pre,post,e,?_⟩;have po:=hp _ (jB h3.1);rw[wc,e,flatMap_append,flatMap_cons,filter_append,filter_append];rw[filter_eq_nil_iff.2 (by
  intro x hx;obtain⟨l,hl,hx⟩:=mem_flatMap.1 hx;simpa using h1 l hl x hx),nil_append]
 congr 1
 ·have fN:=h3.2.1;rw[show aO (t.pg (aH t k h i)) k=gB (t.pg (aH t k h i)).keys k by unfold aO;rw[if_pos fN]];generalize I:t.pg (aH t k h i)=p at *;have E:=take_append_drop (gB p.keys k) (fb p);conv=>lhs;rw[←E]
  have hlen:=po.leaf fN;rw[filter_append,filter_eq_nil_iff.2 (by
   intro x hx;obtain⟨j,hj,rfl⟩:=mem_iff_getElem.1 hx;rw[length_take] at hj;obtain⟨h',q⟩:=AS (keys:=p.keys) (k:=k) (i:=j) w4;rw[getElem_take];simpa[fb] using q),nil_append,filter_eq_self.2]
  intro x hx;obtain⟨j,hj,rfl⟩:=mem_iff_getElem.1 hx;rw[length_drop] at hj;have fQ:(fb p).length=p.keys.length:=(by unfold fb;rw[length_zip,hlen,Nat.min_self])
  have hd:gB p.keys k<p.keys.length:=(by omega)
  have he:=AJ hd;rw[getElem_drop];have:¬bN p.keys[gB p.keys k+j] k:=by
   rcases Nat.eq_zero_or_pos j with rfl|h0
   ·exact he
   exact fun aa=>he (mB (mW po.jS w4 w4) aa)
  simpa[fb] using this
 rw[filter_eq_self.2];intro x hx;obtain⟨l,hl,hx⟩:=mem_flatMap.1 hx;simpa using yN (h2 l hl x hx)

end Go.Proofs.YtdgichenhdikgaaGreatDoor.Tr
namespace Go.Proofs.YtdgichenhdikgaaGreatDoor.Tr
open List
open Go.Proofs.Tryz
open Go.Lib (compareBytes)
variable {α:Type} {i n:Int} {p:cX} {up low:K} {h:Nat}
def gU(l:List α)(i:Nat)(x:α):List α:=l.take i++x::l.drop i
def aF.set(t:aF)(i:Int)(p:cX):aF:={t with ag:=t.ag.set i.toNat p}
variable {t:aF}
def bB(p:cX)(up:K)(aC:Int):cX :=
 {p with keys:=gU p.keys (aO p up) up,kids:=gU p.kids (if p.leaf=true then aO p up else aO p up+1) aC}
def ji(p:cX):K:=p.keys.getD 2 []
def bp(p:cX)(n:Int):cX:={leaf:=p.leaf,keys:=p.keys.take 2,kids:=p.kids.take (if p.leaf=true then 2 else 3),high:=ji p,next:=n}
def bw(p:cX):cX:={leaf:=p.leaf,keys:=p.keys.drop (if p.leaf=true then 2 else 3),kids:=p.kids.drop (if p.leaf=true then 2 else 3),high:=p.high,next:=p.next}
def q9(t:aF)(i:Int)(up:K)(aC:Int):aF×Option (K×Int) :=
 if (bB (t.pg i) up aC).keys.length≤4 then (t.set i (bB (t.pg i) up aC),none)
 else (⟨(t.ag.set i.toNat (bp (bB (t.pg i) up aC) t.ag.length))++[bw (bB (t.pg i) up aC)],t.root⟩,some (ji (bB (t.pg i) up aC),t.ag.length))
def gC(t:aF)(k:K)(row:Int):Nat→Int→aF×Option (K×Int)
 | 0,i=>q9 t i k row
 | h+1,i=>match gC t k row h ((t.pg i).kids.getD (aO (t.pg i) k) 0) with
  | (t',none)=>(t',none)
  | (t',some (up,aC))=>q9 t' i up aC
def agK(r:aF×Option (K×Int)):aF:=match r with
 | (t,none)=>t
 | (t,some (up,aC))=>⟨t.ag++[⟨false,[up],[t.root,aC],[],-1⟩],t.ag.length⟩
theorem nY(t:aF)(i:Int)(p:cX):(t.set i p).ag.length=t.ag.length:=by simp[aF.set]
theorem AV(h:0≤i∧i<t.ag.length)(p:cX):(t.set i p).pg i=p:=by
 unfold aF.pg aF.set;rw[getD_eq_getElem?_getD,getElem?_set_self w4];rfl
theorem vT{j:Int}(hi:0≤i)(hj:0≤j)(h:i≠j)(p:cX):(t.set i p).pg j=t.pg j:=by
 unfold aF.pg aF.set;rw[getD_eq_getElem?_getD,getD_eq_getElem?_getD,getElem?_set_ne w4]
theorem ym(l:List α){i:Nat}(h:i≤l.length)(x:α):(gU l i x).length=l.length+1:=by unfold gU;simp;omega
theorem uG{l:List α}{i:Nat}{x y:α}:y∈gU l i x↔y=x∨y∈l:=by
 unfold gU;conv=>rhs;rw[←take_append_drop i l]
 simp only[mem_append,mem_cons];constructor
 ·rintro(h|h|h)
  ·exact .inr (.inl h)
  ·exact .inl h
  exact .inr (.inr h)
 rintro(h|h|h)
 ·exact .inr (.inl h)
 ·exact .inl h
 exact .inr (.inr h)
theorem aan{β:Type}{a:List α}{b:List β}(h:b.length=a.length){i:Nat}(hi:i≤a.length)(x:α)(y:β):(gU a i x).zip (gU b i y)=gU (a.zip b) i (x,y):=by
 unfold gU;rw[zip_append (by simp[h]),zip_cons_cons];have h1:(a.zip b).take i=(a.take i).zip (b.take i):=take_zipWith;have h2:(a.zip b).drop i=(a.drop i).zip (b.drop i):=drop_zipWith;rw[h1,h2]
theorem Iy(hp:eL p n)(hn:up∉p.keys):(∀j (hj:j<p.keys.length),j<aO p up→bN p.keys[j] up)∧(∀j (hj:j<p.keys.length),aO p up≤j→bN up p.keys[j])∧aO p up≤p.keys.length:=by
 unfold aO;split
 ·refine⟨fun j hj h=>(AS h).2,fun j hj h=>?_,yx _ _⟩;have aa:gB p.keys up<p.keys.length:=(by omega)
  have h1:=AJ aa;have h2:¬bN p.keys[j] up:=by
   rcases Nat.lt_or_ge (gB p.keys up) j with h'|h'
   ·exact fun E=>h1 (mB (mW hp.jS h' hj) E)
   have:gB p.keys up=j:=(by omega)
   subst this;exact h1
  rcases yO p.keys[j] up with h|h|h
  ·exact absurd h h2
  ·exact absurd (h ▸ getElem_mem hj) hn
  exact h
 refine⟨fun j hj h=>?_,fun j hj h=>?_,AT _ _⟩
 ·have h2:=(Iw h).2;rcases yO p.keys[j] up with h|h|h
  ·exact h
  ·exact absurd (h ▸ getElem_mem hj) hn
  exact absurd h h2
 have aa:mF p.keys up<p.keys.length:=(by omega)
 have h1:=HS aa;rcases Nat.lt_or_ge (mF p.keys up) j with h'|h'
 ·exact mB h1 (mW hp.jS h' hj)
 have:mF p.keys up=j:=(by omega)
 subst this;exact h1
theorem abV(hp:eL p n)(hn:up∉p.keys):(gU p.keys (aO p up) up).Pairwise bN:=by
 obtain⟨h1,h2,h3⟩:=Iy hp hn;unfold gU;have hr:=hp.jS;conv at hr=>rw[←take_append_drop (aO p up) p.keys]
 rw[pairwise_append] at hr;rw[pairwise_append,pairwise_cons];refine⟨hr.1,⟨fun y hy=>?_,hr.2.1⟩,fun x hx y hy=>?_⟩
 ·obtain⟨j,hj,rfl⟩:=mem_iff_getElem.1 hy;rw[length_drop] at hj;rw[getElem_drop];exact h2 _ w4 w4
 rcases mem_cons.1 hy with rfl|hy
 ·obtain⟨j,hj,rfl⟩:=mem_iff_getElem.1 hx;rw[length_take] at hj;rw[getElem_take];exact h1 _ w4 w4
 exact hr.2.2 x hx y hy
structure wA (p:cX) (many:Int):Prop where
 eD:p.keys.length≤5
 hlen:p.high.length≤100
 wP:-1≤p.next
 wD:p.next<many
 wQ:p.next<0↔p.high=[]
 leaf:p.leaf=true→p.kids.length=p.keys.length
 node:p.leaf=false→p.kids.length=p.keys.length+1∧p.keys≠[]
 lq:∀k∈p.keys,1≤k.length∧k.length≤100
 qm:p.high≠[]→∀k∈p.keys,bN k p.high
 jS:p.keys.Pairwise bN
 aC:∀n∈p.kids,0≤n
 vk:p.leaf=false→∀n∈p.kids,n<many
theorem wA.ok(h:wA p n)(hl:p.keys.length≤4):eL p n:=⟨hl,h.hlen,h.wP,h.wD,h.wQ,h.leaf,h.node,h.lq,h.qm,h.jS,h.aC,h.vk⟩
theorem Iz(hp:eL p n){aC:Int}(hn:up∉p.keys)(U:1≤up.length∧up.length≤100)(Z:p.high≠[]→bN up p.high)(hk:0≤aC)(O:p.leaf=false→aC<n):wA (bB p up aC) n:=by
 obtain⟨_,_,h3⟩:=Iy hp hn;have hf:=hp.eD;refine⟨?_,hp.hlen,hp.wP,hp.wD,hp.wQ,fun hl=>?_,fun hl=>?_,fun k I=>?_,fun hne k I=>?_,abV hp hn,fun m hm=>?_,fun hl m hm=>?_⟩
 ·show(gU _ _ _).length≤5;rw[ym _ h3];omega
 ·have E:p.leaf=true:=hl;show(gU _ _ _).length=(gU _ _ _).length;rw[if_pos E,ym _ h3,ym _ (by rw[hp.leaf E];exact h3),hp.leaf E]
 ·have E:p.leaf=false:=hl;refine⟨?_,?_⟩
  ·show(gU _ _ _).length=(gU _ _ _).length+1;rw[if_neg (by rw[E];decide),ym _ h3,ym _ (by rw[(hp.node E).1];omega),(hp.node E).1]
  show gU _ _ _≠[];intro e;have:=congrArg length e;rw[ym _ h3] at this;simp at this
 ·rcases uG.1 I with rfl|h
  ·exact U
  exact hp.lq k h
 ·rcases uG.1 I with rfl|h
  ·exact Z hne
  exact hp.qm hne k h
 ·rcases uG.1 hm with rfl|h
  ·exact hk
  exact hp.aC m h
 rcases uG.1 hm with rfl|h
 ·exact O hl
 exact hp.vk hl m h
theorem yP(h:p.keys.length=5):ji p=p.keys[2]:=by unfold ji;rw[getD_eq_getElem?_getD,getElem?_eq_getElem w4];rfl
theorem TO(hp:wA p n)(h5:p.keys.length=5)(h0:0≤n):eL (bp p n) (n+1):=by
 have U:=yP h5;have I:ji p∈p.keys:=(by rw[U];exact getElem_mem _)
 refine⟨?_,(hp.lq _ I).2,by show -1≤n;omega,by show n<n+1;omega,?_,fun hl=>?_,fun hl=>?_,fun k hk=>hp.lq k (mem_of_mem_take hk),fun _ k hk=>?_,hp.jS.sublist (take_sublist _ _),fun x hx=>hp.aC x (mem_of_mem_take hx),fun hl x hx=>?_⟩
 ·show(p.keys.take 2).length≤4;rw[length_take];omega
 ·show n<0↔ji p=[];have:=(hp.lq _ I).1;exact⟨fun h=>by omega,fun h=>by rw[h] at this;simp at this⟩
 ·have E:p.leaf=true:=hl;show(p.kids.take (if p.leaf=true then 2 else 3)).length=(p.keys.take 2).length;rw[if_pos E,length_take,length_take,hp.leaf E]
 ·have E:p.leaf=false:=hl;refine⟨?_,?_⟩
  ·show(p.kids.take (if p.leaf=true then 2 else 3)).length=(p.keys.take 2).length+1;rw[if_neg (by rw[E];decide),length_take,length_take,(hp.node E).1];omega
  show p.keys.take 2≠[];intro e;have:=congrArg length e;rw[length_take,h5] at this;cases this
 ·have O:k∈p.keys.take 2:=hk;obtain⟨j,hj,rfl⟩:=mem_iff_getElem.1 O;rw[length_take] at hj;show bN (p.keys.take 2)[j] (ji p);rw[getElem_take,U];exact mW hp.jS w4 w4
 have E:p.leaf=false:=hl;have:=hp.vk E x (mem_of_mem_take hx);omega
theorem Sn{m:Int}(hp:wA p n)(h5:p.keys.length=5)(hm:n≤m):eL (bw p) m:=by
 refine⟨?_,hp.hlen,hp.wP,by have:=hp.wD;show p.next<m;omega,hp.wQ,fun hl=>?_,fun hl=>?_,fun k hk=>hp.lq k (mem_of_mem_drop hk),fun hne k hk=>hp.qm hne k (mem_of_mem_drop hk),hp.jS.sublist (drop_sublist _ _),fun x hx=>hp.aC x (mem_of_mem_drop hx),fun hl x hx=>?_⟩
 ·show(p.keys.drop _).length≤4;rw[length_drop];split<;>omega
 ·have E:p.leaf=true:=hl;show(p.kids.drop _).length=(p.keys.drop _).length;rw[length_drop,length_drop,hp.leaf E]
 ·have E:p.leaf=false:=hl;refine⟨?_,?_⟩
  ·show(p.kids.drop _).length=(p.keys.drop _).length+1;rw[length_drop,length_drop,(hp.node E).1,if_neg (by rw[E];decide)];omega
  show p.keys.drop _≠[];intro e;have:=congrArg length e;rw[length_drop,if_neg (by rw[E];decide)] at this;simp at this;omega
 have E:p.leaf=false:=hl;have:=hp.vk E x (mem_of_mem_drop hx);omega

def jo(t:aF)(h:Nat):K→List Int→List K→K→Prop
 | low,c::cs,ks,high=>match cs,ks with
  | [],[]=>dX t h c low high
  | _::_,k::ks=>dX t h c low k∧jo t h k cs ks high
  | _,_=>False
 | _,[],_,_=>False
theorem AW{high:K}{c:Int}:jo t h low [c] [] high↔dX t h c low high:=by rw[jo]
theorem p9{high k:K}{c d:Int}{cs:List Int}{ks:List K}:jo t h low (c::d::cs) (k::ks) high↔dX t h c low k∧jo t h k (d::cs) ks high:=by rw[jo]
theorem IA{t:aF}{h:Nat}{high:K}:∀{kids:List Int} {keys:List K} {low:K},kids.length=keys.length+1 →
  ((∀j (hj:j<kids.length),dX t h kids[j] (if j=0 then low else keys.getD (j-1) []) (keys.getD j high))↔jo t h low kids keys high)
 | [],keys,low,e=>by simp at e
 | [c],[],low,e=>by
  rw[AW];constructor
  ·intro q;exact q 0 bu
  intro q j hj;obtain rfl:j=0:=(by simpa using hj)
  exact q
 | [c],k::ks,low,e=>by simp at e
 | c::d::cs,[],low,e=>by simp at e
 | c::d::cs,k::ks,low,e=>by
  rw[p9,←IA (kids:=d::cs) (keys:=ks) (low:=k) (by simpa using e)];constructor
  ·intro q;refine⟨q 0 bu,fun j hj=>?_⟩;have:=q (j+1) (by simpa using hj);rw[if_neg w4] at this;simp only[getElem_cons_succ,Nat.add_sub_cancel,getD_cons_succ] at this;cases j with
   | zero=>exact this
   | succ j=>exact this
  rintro⟨q0,q⟩ j hj;cases j with
  | zero=>exact q0
  | succ j =>
   have:=q j (by simpa using hj);rw[if_neg w4];simp only[getElem_cons_succ,Nat.add_sub_cancel,getD_cons_succ];cases j with
   | zero=>exact this
   | succ j=>exact this
theorem A5{high:K}(hp:eL (t.pg i) n):dX t (h+1) i low high↔(0≤i∧i<t.ag.length)∧(t.pg i).leaf=false∧(t.pg i).high=high∧(∀k∈(t.pg i).keys,¬bN k low)∧jo t h low (t.pg i).kids (t.pg i).keys high:=by
 constructor
 ·rintro⟨q1,q2,E,O,I⟩;refine⟨q1,q2,E,O,?_⟩;rw[←IA (hp.node q2).1];intro j hj;have:=I j hj;unfold iw gY at this;rw[E] at this;exact this
 rintro⟨q1,q2,E,O,I⟩;refine⟨q1,q2,E,O,?_⟩;rw[←IA (hp.node q2).1] at I;intro j hj;have:=I j hj;unfold iw gY;rw[E];exact this
theorem QG{t u:aF}{h:Nat}{high:K}:∀{kids:List Int} {keys:List K} {low:K},jo t h low kids keys high→(∀c∈kids,∀lo hi,dX t h c lo hi→dX u h c lo hi)→jo u h low kids keys high
 | [],keys,low,q,_=>by simp[jo] at q
 | [c],[],low,q,f=>by rw[AW] at q ⊢;exact f c bu _ _ q
 | [c],k::ks,low,q,f=>by simp[jo] at q
 | c::d::cs,[],low,q,f=>by simp[jo] at q
 | c::d::cs,k::ks,low,q,f=>by
  rw[p9] at q ⊢;exact⟨f c bu _ _ q.1,QG q.2 fun x hx=>f x (by simp at hx ⊢;exact .inr hx)⟩
theorem QH{t u:aF}{h:Nat}{high up:K}{aC:Int}:∀(j:Nat) {kids:List Int} {keys:List K} {low:K} (hj:j<kids.length),jo t h low kids keys high →
  (∀c∈kids.eraseIdx j,∀lo hi,dX t h c lo hi→dX u h c lo hi) →
  (dX u h kids[j] (if j=0 then low else keys.getD (j-1) []) up)→dX u h aC up (keys.getD j high)→jo u h low (gU kids (j+1) aC) (gU keys j up) high
 | 0,[],keys,low,hj,q,f,q1,q2=>by simp at hj
 | 0,[c],[],low,hj,q,f,q1,q2=>by
  show jo u h low [c,aC] [up] high;rw[p9,AW];exact⟨q1,q2⟩
 | 0,[c],k::ks,low,hj,q,f,q1,q2=>by simp[jo] at q
 | 0,c::d::cs,[],low,hj,q,f,q1,q2=>by simp[jo] at q
 | 0,c::d::cs,k::ks,low,hj,q,f,q1,q2=>by
  show jo u h low (c::aC::d::cs) (up::k::ks) high;rw[p9,p9];rw[p9] at q;exact⟨q1,q2,QG q.2 fun x hx=>f x (by simpa using hx)⟩
 | j+1,[],keys,low,hj,q,f,q1,q2=>by simp at hj
 | j+1,[c],keys,low,hj,q,f,q1,q2=>by simp at hj
 | j+1,c::d::cs,[],low,hj,q,f,q1,q2=>by simp[jo] at q
 | j+1,c::d::cs,k::ks,low,hj,q,f,q1,q2=>by
  rw[p9] at q;have e1:gU (c::d::cs) (j+1+1) aC=c::gU (d::cs) (j+1) aC:=rfl;have e2:gU (k::ks) (j+1) up=k::gU ks j up:=rfl;rw[e1,e2];have E:=QH (t:=t) (u:=u) (up:=up) (aC:=aC) j (kids:=d::cs) (keys:=ks) (low:=k) (by simpa using hj) q.2 (fun x hx=>f x (by rw[eraseIdx_cons_succ];exact mem_cons_of_mem _ hx)) (by
   have:=q1;rw[if_neg w4] at this;simp only[getElem_cons_succ,Nat.add_sub_cancel] at this;cases j with
   | zero=>exact this
   | succ j=>exact this) (by simpa using q2)
  have I:gU (d::cs) (j+1) aC=d::gU cs j aC:=rfl;rw[I] at E ⊢;rw[p9];exact⟨f c (by rw[eraseIdx_cons_succ];simp) _ _ q.1,E⟩
theorem Oy{t:aF}{h:Nat}{high:K}:∀(m:Nat) {kids:List Int} {keys:List K} {low:K} (hm:m<keys.length),jo t h low kids keys high→jo t h low (kids.take (m+1)) (keys.take m) keys[m]∧jo t h keys[m] (kids.drop (m+1)) (keys.drop (m+1)) high
 | 0,c::d::cs,k::ks,low,hm,q=>by
  rw[p9] at q;exact⟨AW.2 q.1,q.2⟩
 | m+1,c::d::cs,k::ks,low,hm,q=>by
  rw[p9] at q;obtain⟨q1,q2⟩:=Oy m (kids:=d::cs) (keys:=ks) (by simpa using hm) q.2;refine⟨?_,q2⟩;have e:(c::d::cs).take (m+1+1)=c::d::cs.take m:=rfl;rw[e];show jo t h low (c::d::cs.take m) (k::ks.take m) _;rw[p9];exact⟨q.1,q1⟩
 | _,_,[],_,hm,_=>by simp at hm
 | _,[],_::_,_,_,q=>by simp[jo] at q
 | _,[c],_::_,_,_,q=>by simp[jo] at q
theorem A6{t:aF}{e:Int}:∀{a b:List Int},fh t (a++b) e↔fh t a (b.headD e)∧fh t b e
 | [],b=>by simp[fh]
 | [i],[]=>by simp[fh]
 | [i],j::b=>by simp[fh]
 | i::j::a,b=>by
  have:=A6 (t:=t) (e:=e) (a:=j::a) (b:=b);show(t.pg i).next=j∧fh t (j::a++b) e↔((t.pg i).next=j∧fh t (j::a) (b.headD e))∧fh t b e;rw[this,and_assoc]
theorem yn{t u:aF}:∀{a:List Int} {e:Int},(∀j∈a,(u.pg j).next=(t.pg j).next)→fh t a e→fh u a e
 | [],e,_,_=>trivial
 | [i],e,f,h=>by show(u.pg i).next=e;rw[f i bu];exact h
 | i::j::a,e,f,h=>⟨by rw[f i bu];exact h.1,yn (fun x hx=>f x (mem_cons_of_mem _ hx)) h.2⟩
theorem Ff{t:aF}{n:Int}(hp:∀p∈t.ag,eL p n):∀{h:Nat} {i:Int} {low high:K},dX t h i low high→∀d,d≤h→cG t d i≠[]
 | 0,i,low,high,ok,d,hd=>by
  obtain rfl:d=0:=(by omega)
  simp[cG]
 | h+1,i,low,high,ok,d,hd=>by
  cases d with
  | zero=>simp[cG]
  | succ d =>
   obtain⟨q1,q2,I,O,E⟩:=ok;have po:=hp _ (jB q1);have hl:=(po.node q2).1;have h0:0<(t.pg i).kids.length:=(by omega)
   have:=Ff hp (E 0 h0) d w4;rw[cG];intro e;rw[flatMap_eq_nil_iff] at e;exact this (e _ (getElem_mem h0))
theorem rU{t:aF}:∀(h:Nat) (i:Int) (d:Nat),d≤h→∀x∈cG t d i,x∈ids t h i
 | 0,i,d,hd,x,hx=>by
  obtain rfl:d=0:=(by omega)
  exact hx
 | h+1,i,0,hd,x,hx=>by
  have:x=i:=(by simpa[cG] using hx)
  subst this;exact s5 _ _
 | h+1,i,d+1,hd,x,hx=>by
  rw[cG] at hx;obtain⟨c,hc,hx⟩:=mem_flatMap.1 hx;rw[ids];exact mem_cons_of_mem _ (mem_flatMap.2 ⟨c,hc,rU h c d w4 x hx⟩)
theorem Ei{a b:List α}(h:a≠[])(e:α):(a++b).headD e=a.headD e:=by
 cases a with
 | nil=>exact absurd rfl h
 | cons x r=>rfl

def nK(t:aF)(h:Nat)(i:Int):Option (K×Int)→List Int
 | none=>ids t h i
 | some (_,aC)=>ids t h i++ids t h aC
def FC(t:aF)(h:Nat)(i:Int):Option (K×Int)→List (K×Int)
 | none=>ev t h i
 | some (_,aC)=>ev t h i++ev t h aC
def sE(t:aF)(d:Nat)(i:Int):Option (K×Int)→List Int
 | none=>cG t d i
 | some (_,aC)=>cG t d i++cG t d aC
def nQ(t:aF)(h:Nat)(i:Int)(low high:K):Option (K×Int)→Prop
 | none=>dX t h i low high
 | some (up,aC)=>(1≤up.length∧up.length≤100)∧bN low up∧(high≠[]→bN up high)∧dX t h i low up∧dX t h aC up high
structure oC (t u:aF) (h:Nat) (i:Int) (low high:K) (k:K) (row:Int) (r:Option (K×Int)):Prop where
 le:t.ag.length≤u.ag.length
 more:u.ag.length≤t.ag.length+(h+1)
 root:u.root=t.root
 fF:∀p∈u.ag,eL p u.ag.length
 out:∀j:Int,0≤j→j<t.ag.length→j∉ids t h i→u.pg j=t.pg j
 ok:nQ u h i low high r
 sub:∀x∈nK u h i r,x∈ids t h i∨(t.ag.length:Int)≤x
 nodup:(nK u h i r).Nodup
 XD:(nK u h i r).length+t.ag.length=(ids t h i).length+u.ag.length
 ev:∀x,x∈FC u h i r↔x=(k,row)∨x∈ev t h i
 oZ:∀d,d≤h→∀e,fh t (cG t d i) e→fh u (sE u d i r) e∧(sE u d i r).headD e=(cG t d i).headD e
def jq(t:aF)(i:Int)(a b:cX):aF:=⟨(t.ag.set i.toNat a)++[b],t.root⟩
theorem pp(t:aF)(i:Int)(a b:cX):(jq t i a b).ag.length=t.ag.length+1:=by simp[jq]
theorem Pd(h:0≤i∧i<t.ag.length)(a b:cX):(jq t i a b).pg i=a:=by
 unfold aF.pg jq;rw[getD_eq_getElem?_getD,getElem?_append_left vv,getElem?_set_self w4];rfl
theorem QI(t:aF)(i:Int)(a b:cX):(jq t i a b).pg t.ag.length=b:=by
 unfold aF.pg jq;rw[getD_eq_getElem?_getD,getElem?_append_right vv,length_set];simp
theorem Oz{j:Int}(hi:0≤i)(hj:0≤j∧j<t.ag.length)(h:i≠j)(a b:cX):(jq t i a b).pg j=t.pg j:=by
 unfold aF.pg jq;rw[getD_eq_getElem?_getD,getD_eq_getElem?_getD,getElem?_append_left vv,getElem?_set_ne w4]
theorem HU{q:cX}(hp:∀p∈t.ag,eL p n)(hq:eL q n):∀p∈(t.set i q).ag,eL p n:=fun p h=>by
 rcases mem_or_eq_of_mem_set h with h|rfl
 ·exact hp p h
 exact hq
theorem OA{a b:cX}{m:Int}(hp:∀p∈t.ag,eL p n)(hm:n≤m)(ha:eL a m)(hb:eL b m):∀p∈(jq t i a b).ag,eL p m:=fun p h=>by
 unfold jq at h;rcases mem_append.1 h with h|h
 ·rcases mem_or_eq_of_mem_set h with h|rfl
  ·exact(hp p h).more hm
  exact ha
 rw[mem_singleton] at h;subst h;exact hb
theorem IB{aC:Int}(h:(bB (t.pg i) up aC).keys.length≤4):q9 t i up aC=(t.set i (bB (t.pg i) up aC),none):=by unfold q9;rw[if_pos h]
theorem HV{aC:Int}(h:¬(bB (t.pg i) up aC).keys.length≤4):q9 t i up aC=(jq t i (bp (bB (t.pg i) up aC) t.ag.length) (bw (bB (t.pg i) up aC)),some (ji (bB (t.pg i) up aC),(t.ag.length:Int))):=by unfold q9;rw[if_neg h];rfl
theorem Ss{q:cX}(hr:q.keys.Pairwise bN)(h5:q.keys.length=5)(hl:∀k∈q.keys,¬bN k low):bN low (ji q)∧(∀k∈q.keys.drop 2,¬bN k (ji q)):=by
 rw[yP h5];refine⟨Ob (hl _ (getElem_mem (by omega:0<q.keys.length))) (mW hr w4 w4),fun k hk=>?_⟩;obtain⟨j,hj,rfl⟩:=mem_iff_getElem.1 hk;rw[length_drop] at hj;rw[getElem_drop];rcases Nat.eq_zero_or_pos j with rfl|h0
 ·exact kp _
 exact yN (mW hr w4 w4)
theorem abW(hp:∀p∈t.ag,eL p t.ag.length){high:K}(ok:dX t 0 i low high){k:K}{row:Int}(hk:lD low high k)(hn:∀x∈ev t 0 i,x.1≠k)(hl:1≤k.length∧k.length≤100)(hr:0≤row):oC t (q9 t i k row).1 0 i low high k row (q9 t i k row).2:=by
 obtain⟨q1,q2,O,q4⟩:=ok;have po:=hp _ (jB q1);have U:k∉(t.pg i).keys:=fun hm=>by
  obtain⟨j,hj,e⟩:=mem_iff_getElem.1 hm;have hlen:=po.leaf q2;refine hn ((t.pg i).keys[j],(t.pg i).kids[j]'w4) ?_ e;show _∈fb (t.pg i);unfold fb;exact mem_iff_getElem.2 ⟨j,by rw[length_zip];omega,by rw[getElem_zip]⟩
 have hf:wA (bB (t.pg i) k row) t.ag.length:=Iz po U hl (fun hne=>hk.2 (by rw[←O];exact hne) |> fun h=>by rw[O];exact h) hr (fun h=>by rw[q2] at h;cases h);have fQ:=(Iy po U).2.2;have hE:fb (bB (t.pg i) k row)=gU (fb (t.pg i)) (aO (t.pg i) k) (k,row):=by
  show(gU _ _ _).zip (gU _ _ _)=_;rw[if_pos q2];exact aan (po.leaf q2) fQ k row
 have E:∀x∈(bB (t.pg i) k row).keys,¬bN x low:=fun x hx=>by
  rcases uG.1 hx with rfl|h
  ·exact hk.1
  exact q4 x h
 by_cases h4:(bB (t.pg i) k row).keys.length≤4
 ·rw[IB h4];have Z:=AV q1 (bB (t.pg i) k row);refine⟨by rw[nY];omega,by rw[nY];omega,rfl,by rw[nY];exact HU hp (hf.ok h4),fun j h0 hj hne=>?_,?_,fun x hx=>.inl hx,?_,by rw[nY];rfl,fun x=>?_,fun d hd e hs=>?_⟩
  ·exact vT q1.1 h0 (by intro e;subst e;simp[ids] at hne) _
  ·exact⟨by rw[nY];exact q1,by rw[Z];exact q2,by rw[Z];exact O,by rw[Z];exact E⟩
  ·show[i].Nodup;simp
  ·show x∈fb ((t.set i _).pg i)↔_;rw[Z,hE,uG];rfl
  obtain rfl:d=0:=(by omega)
  refine⟨?_,rfl⟩;show((t.set i _).pg i).next=e;rw[Z];exact hs
 have h5:(bB (t.pg i) k row).keys.length=5:=(by have:=hf.eD;omega)
 rw[HV h4];have I:(bB (t.pg i) k row).leaf=true:=q2;have ea:=Pd q1 (bp (bB (t.pg i) k row) t.ag.length) (bw (bB (t.pg i) k row));have eb:=QI t i (bp (bB (t.pg i) k row) t.ag.length) (bw (bB (t.pg i) k row));obtain⟨u1,u2⟩:=Ss hf.jS h5 E;have Da:ji (bB (t.pg i) k row)∈(bB (t.pg i) k row).keys:=(by rw[yP h5];exact getElem_mem _)
 have gW:fb (bp (bB (t.pg i) k row) t.ag.length)++fb (bw (bB (t.pg i) k row))=fb (bB (t.pg i) k row):=by
  show((bB (t.pg i) k row).keys.take 2).zip ((bB (t.pg i) k row).kids.take (if (bB (t.pg i) k row).leaf=true then 2 else 3))++((bB (t.pg i) k row).keys.drop (if (bB (t.pg i) k row).leaf=true then 2 else 3)).zip ((bB (t.pg i) k row).kids.drop (if (bB (t.pg i) k row).leaf=true then 2 else 3))=_;rw[if_pos I,←zip_append (by rw[length_take,length_take,hf.leaf I]),take_append_drop,take_append_drop];rfl
 refine⟨by rw[pp];omega,by rw[pp];omega,rfl,?_,fun j h0 hj hne=>?_,⟨hf.lq _ Da,u1,fun hne=>hf.qm (by show(t.pg i).high≠[];rw[O];exact hne) _ Da |> fun h=>by rw[←O];exact h,?_,?_⟩,fun x hx=>?_,?_,by rw[pp];show[i,(t.ag.length:Int)].length+_=[i].length+_;simp;omega,fun x=>?_,fun d hd e hs=>?_⟩
 ·rw[pp];exact OA hp w4 (TO hf h5 w4) (Sn hf h5 w4)
 ·exact Oz q1.1 ⟨h0,hj⟩ (by intro e;subst e;simp[ids] at hne) _ _
 ·exact⟨by rw[pp];omega,by rw[ea];exact I,by rw[ea];rfl,by rw[ea];exact fun x hx=>E x (mem_of_mem_take hx)⟩
 ·refine⟨by rw[pp];omega,by rw[eb];exact I,by rw[eb];exact O,?_⟩;rw[eb];show ∀x∈(bB (t.pg i) k row).keys.drop (if (bB (t.pg i) k row).leaf=true then 2 else 3),_;rw[if_pos I];exact u2
 ·have oS:x∈[i,(t.ag.length:Int)]:=hx;simp only[mem_cons,not_mem_nil,or_false] at oS;rcases oS with rfl|rfl
  ·exact .inl (by simp[ids])
  exact .inr (Int.le_refl _)
 ·show[i,(t.ag.length:Int)].Nodup;simp;omega
 ·show x∈fb ((jq t i _ _).pg i)++fb ((jq t i _ _).pg _)↔_;rw[ea,eb,gW,hE,uG];rfl
 obtain rfl:d=0:=(by omega)
 refine⟨?_,rfl⟩;show((jq t i _ _).pg i).next=_∧((jq t i _ _).pg _).next=e;rw[ea,eb];exact⟨rfl,hs⟩

end Go.Proofs.YtdgichenhdikgaaGreatDoor.Tr

namespace Go.Proofs.YtdgichenhdikgaaGreatDoor.Tr
open List
open Go.Proofs.Tryz
open Go.Lib (compareBytes)
variable {α:Type} {A B:List Int} {v:aF}
theorem Jj{keys:List K}(hr:keys.Pairwise bN){up:K}{j:Nat}(hj:j≤keys.length)(h1:∀(h:0<j),¬bN up (keys[j-1]'w4))(h2:∀(h:j<keys.length),bN up keys[j]):mF keys up=j:=by
 have E:=AT keys up;rcases Nat.lt_trichotomy (mF keys up) j with h|h|h
 ·exfalso;have aa:mF keys up<keys.length:=(by omega)
  have h3:=HS aa;have h4:=h1 w4;rcases Nat.lt_or_ge (mF keys up) (j-1) with h5|h5
  ·exact h4 (mB h3 (mW hr h5 w4))
  have:mF keys up=j-1:=(by omega)
  simp only[this] at h3;exact h4 h3
 ·exact h
 exact absurd (h2 w4) (Iw h).2
theorem Oc{l:List α}{j:Nat}(hj:j<l.length)(x:α):gU l (j+1) x=l.take j++l[j]::x::l.drop (j+1):=by
 unfold gU;rw[take_succ_eq_append_getElem hj,append_assoc];rfl
theorem uJ{l:List α}{j:Nat}(hj:j<l.length):l=l.take j++l[j]::l.drop (j+1):=by
 conv=>lhs;rw[←take_append_drop j l,drop_eq_getElem_cons hj]
theorem YS{l:List α}{j:Nat}{x:α}(h:x∈l.eraseIdx j):x∈l.take j∨x∈l.drop (j+1):=by
 rw[eraseIdx_eq_take_drop_succ] at h;exact mem_append.1 h
variable {t:aF}
theorem vU{h:Nat}{i:Int}{j:Nat}(hj:j<(t.pg i).kids.length)(hn:(ids t (h+1) i).Nodup):(ids t h (t.pg i).kids[j]).Nodup∧i∉ids t h (t.pg i).kids[j]∧(∀x∈(t.pg i).kids.take j++(t.pg i).kids.drop (j+1),(∀y∈ids t h x,y∉ids t h (t.pg i).kids[j])∧i∉ids t h x) ∧
  (((t.pg i).kids.take j).flatMap (ids t h)++((t.pg i).kids.drop (j+1)).flatMap (ids t h)).Nodup∧i∉((t.pg i).kids.take j).flatMap (ids t h)++((t.pg i).kids.drop (j+1)).flatMap (ids t h):=by
 rw[ids,nodup_cons] at hn;obtain⟨h0,hn⟩:=hn;have hs:=uJ hj;rw[hs,flatMap_append,flatMap_cons] at hn h0;simp only[mem_append,not_or] at h0;rw[nodup_append] at hn;obtain⟨n1,n2,n3⟩:=hn;rw[nodup_append] at n2;obtain⟨n4,n5,n6⟩:=n2;refine⟨n4,h0.2.1,fun x hx=>?_,?_,?_⟩
 ·rcases mem_append.1 hx with hx|hx
  ·exact⟨fun y hy hc=>n3 y (mem_flatMap.2 ⟨x,hx,hy⟩) y (mem_append_left _ hc) rfl,fun hi=>h0.1 (mem_flatMap.2 ⟨x,hx,hi⟩)⟩
  exact⟨fun y hy hc=>n6 y hc y (mem_flatMap.2 ⟨x,hx,hy⟩) rfl,fun hi=>h0.2.2 (mem_flatMap.2 ⟨x,hx,hi⟩)⟩
 ·rw[nodup_append];exact⟨n1,n5,fun a ha b hb=>n3 a ha b (mem_append_right _ hb)⟩
 simp only[mem_append,not_or];exact⟨h0.1,h0.2.2⟩
theorem HW{f g:Int→List α}{c aC:Int}(hA:∀x∈A,f x=g x)(E:∀x∈B,f x=g x):(A++c::aC::B).flatMap f=A.flatMap g++(f c++f aC)++B.flatMap g:=by
 rw[flatMap_append,flatMap_cons,flatMap_cons,qN hA,qN E];simp
theorem IC{f g:Int→List α}{c:Int}(hA:∀x∈A,f x=g x)(E:∀x∈B,f x=g x):(A++c::B).flatMap f=A.flatMap g++f c++B.flatMap g:=by
 rw[flatMap_append,flatMap_cons,qN hA,qN E];simp

structure jz (t u:aF) (h:Nat) (i:Int) (low high:K) (j:Nat) (k:K) (row:Int) (r:Option (K×Int)):Prop where
 hp:∀p∈t.ag,eL p t.ag.length
 ok:dX t (h+1) i low high
 nd:(ids t (h+1) i).Nodup
 hj:j<(t.pg i).kids.length
 hk:lD (iw low (t.pg i) j) (gY (t.pg i) j) k
 ins:oC t u h ((t.pg i).kids.getD j 0) (iw low (t.pg i) j) (gY (t.pg i) j) k row r
section
variable {u:aF} {h:Nat} {i:Int} {low high:K} {j:Nat} {k:K} {row:Int} {r:Option (K×Int)}
theorem jz.aC(m:jz t u h i low high j k row r):(t.pg i).kids.getD j 0=(t.pg i).kids[j]'m.hj:=tg m.hj
theorem jz.same(m:jz t u h i low high j k row r):u.pg i=t.pg i:=by
 have:=(vU m.hj m.nd).2.1;exact m.ins.out i m.ok.idx.1 m.ok.idx.2 (by rw[m.aC];exact this)
structure n9 (u v:aF) (i:Int):Prop where
 le:u.ag.length≤v.ag.length
 pg:∀x:Int,0≤x→x<u.ag.length→x≠i→v.pg x=u.pg x
theorem jz.others(m:jz t u h i low high j k row r)(ha:n9 u v i):∀x∈(t.pg i).kids.take j++(t.pg i).kids.drop (j+1),∀y∈ids t h x,v.pg y=t.pg y:=fun x hx y hy=>by
 obtain⟨h1,h2⟩:=(vU m.hj m.nd).2.2.1 x hx;have I:y≠i:=fun e=>h2 (e ▸ hy);have E:0≤y∧y<t.ag.length:=by
  have hm:y∈ids t (h+1) i:=by
   rw[ids];refine mem_cons_of_mem _ (mem_flatMap.2 ⟨x,?_,hy⟩);rcases mem_append.1 hx with hx|hx
   ·exact mem_of_mem_take hx
   exact mem_of_mem_drop hx
  exact m.ok.ids y hm
 have O:=m.ins.le;rw[ha.pg y E.1 w4 I,m.ins.out y E.1 E.2 (by rw[m.aC];exact h1 y hy)]
theorem jz.below(m:jz t u h i low high j k row r)(ha:n9 u v i):∀y∈nK u h ((t.pg i).kids[j]'m.hj) r,0≤y→y<u.ag.length→v.pg y=u.pg y:=fun y hy h0 hl=>by
 refine ha.pg y h0 hl fun e=>?_;have hs:=m.ins.sub y (by rw[m.aC];exact hy);rw[m.aC] at hs;rcases hs with hs|hs
 ·exact(vU m.hj m.nd).2.1 (e ▸ hs)
 have:=m.ok.idx;omega
theorem jz.qi(m:jz t u h i low high j k row r)(ha:n9 u v i){x:Int}(hx:x∈(t.pg i).kids.take j++(t.pg i).kids.drop (j+1)):ids v h x=ids t h x∧ev v h x=ev t h x∧∀d,d≤h→cG v d x=cG t d x:=frame h x (m.others ha x hx)
theorem jz.Su(m:jz t u h i low high j k row r)(ha:n9 u v i){x:Int}(hx:x∈(t.pg i).kids.take j++(t.pg i).kids.drop (j+1)){lo hi:K}(aT:dX t h x lo hi):dX v h x lo hi:=by
 have:=m.ins.le;have:=ha.le;exact aT.frame w4 (m.others ha x hx)
theorem jz.QJ(m:jz t u h i low high j k row r):(((t.pg i).kids.take j).flatMap (ids t h)++nK u h ((t.pg i).kids[j]'m.hj) r++((t.pg i).kids.drop (j+1)).flatMap (ids t h)).Nodup∧i∉((t.pg i).kids.take j).flatMap (ids t h)++nK u h ((t.pg i).kids[j]'m.hj) r++((t.pg i).kids.drop (j+1)).flatMap (ids t h):=by
 obtain⟨a1,a2,a3,a4,a5⟩:=vU m.hj m.nd;have hnd:=m.ins.nodup;have E:=m.ins.sub;rw[m.aC] at hnd E;have aa:∀x∈(t.pg i).kids.take j++(t.pg i).kids.drop (j+1),∀y∈ids t h x,y<t.ag.length:=fun x hx y hy=>by
  refine(m.ok.ids y ?_).2;rw[ids];refine mem_cons_of_mem _ (mem_flatMap.2 ⟨x,?_,hy⟩);rcases mem_append.1 hx with hx|hx
  ·exact mem_of_mem_take hx
  exact mem_of_mem_drop hx
 have I:∀x∈(t.pg i).kids.take j++(t.pg i).kids.drop (j+1),∀y∈ids t h x,y∉nK u h ((t.pg i).kids[j]'m.hj) r:=fun x hx y hy hm=>by
  rcases E y hm with hs|hs
  ·exact(a3 x hx).1 y hy hs
  have:=aa x hx y hy;omega
 have O:i∉nK u h ((t.pg i).kids[j]'m.hj) r:=fun hm=>by
  rcases E i hm with hs|hs
  ·exact a2 hs
  have:=m.ok.idx;omega
 rw[nodup_append] at a4;obtain⟨b1,b2,b3⟩:=a4;refine⟨?_,?_⟩
 ·rw[nodup_append,nodup_append];refine⟨⟨b1,hnd,fun a ha b hb e=>?_⟩,b2,fun a ha b hb e=>?_⟩
  ·obtain⟨x,hx,ha⟩:=mem_flatMap.1 ha;subst e;exact I x (mem_append_left _ hx) a ha hb
  obtain⟨x,hx,jM⟩:=mem_flatMap.1 hb;subst e;rcases mem_append.1 ha with ha|ha
  ·exact b3 a ha a hb rfl
  exact I x (mem_append_right _ hx) a jM ha
 simp only[mem_append,not_or] at a5 ⊢;exact⟨⟨a5.1,O⟩,a5.2⟩
theorem jz.TP(m:jz t u h i low high j k row r):(((t.pg i).kids.take j).flatMap (ids t h)++nK u h ((t.pg i).kids[j]'m.hj) r++((t.pg i).kids.drop (j+1)).flatMap (ids t h)).length+1+t.ag.length=(ids t (h+1) i).length+u.ag.length:=by
 have hc:=m.ins.XD;rw[m.aC] at hc;have e:(ids t (h+1) i).length=1+((((t.pg i).kids.take j).flatMap (ids t h)).length+((ids t h ((t.pg i).kids[j]'m.hj)).length+(((t.pg i).kids.drop (j+1)).flatMap (ids t h)).length)):=by
  rw[ids];conv=>lhs;rw[uJ m.hj]
  rw[length_cons,flatMap_append,flatMap_cons,length_append,length_append];omega
 rw[e,length_append,length_append];omega
theorem jz.Ty(m:jz t u h i low high j k row r):∀x∈((t.pg i).kids.take j).flatMap (ids t h)++nK u h ((t.pg i).kids[j]'m.hj) r++((t.pg i).kids.drop (j+1)).flatMap (ids t h),x∈ids t (h+1) i∨(t.ag.length:Int)≤x:=fun x hx=>by
 have E:=m.ins.sub;rw[m.aC] at E;have up:∀c∈(t.pg i).kids,∀y∈ids t h c,y∈ids t (h+1) i:=fun c hc y hy=>by rw[ids];exact mem_cons_of_mem _ (mem_flatMap.2 ⟨c,hc,hy⟩)
 rcases mem_append.1 hx with hx|hx
 ·rcases mem_append.1 hx with hx|hx
  ·obtain⟨c,hc,hx⟩:=mem_flatMap.1 hx;exact .inl (up c (mem_of_mem_take hc) x hx)
  rcases E x hx with hs|hs
  ·exact .inl (up _ (getElem_mem _) x hs)
  exact .inr hs
 obtain⟨c,hc,hx⟩:=mem_flatMap.1 hx;exact .inl (up c (mem_of_mem_drop hc) x hx)
theorem jz.Jk(m:jz t u h i low high j k row r)(x:K×Int):x∈((t.pg i).kids.take j).flatMap (ev t h)++FC u h ((t.pg i).kids[j]'m.hj) r++((t.pg i).kids.drop (j+1)).flatMap (ev t h)↔x=(k,row)∨x∈ev t (h+1) i:=by
 have he:=m.ins.ev x;rw[m.aC] at he;have e:ev t (h+1) i=((t.pg i).kids.take j).flatMap (ev t h)++(ev t h ((t.pg i).kids[j]'m.hj)++((t.pg i).kids.drop (j+1)).flatMap (ev t h)):=by
  rw[ev];conv=>lhs;rw[uJ m.hj]
  rw[flatMap_append,flatMap_cons]
 rw[e];simp only[mem_append,he];constructor
 ·rintro((h|h|h)|h)
  ·exact .inr (.inl h)
  ·exact .inl h
  ·exact .inr (.inr (.inl h))
  exact .inr (.inr (.inr h))
 rintro(h|h|h|h)
 ·exact .inl (.inr (.inl h))
 ·exact .inl (.inl h)
 ·exact .inl (.inr (.inr h))
 exact .inr h
theorem jz.JO(m:jz t u h i low high j k row r)(ha:n9 u v i){d:Nat}(hd:d≤h){e:Int}(hs:fh t (cG t (d+1) i) e) :
  fh v (((t.pg i).kids.take j).flatMap (cG t d)++sE u d ((t.pg i).kids[j]'m.hj) r++((t.pg i).kids.drop (j+1)).flatMap (cG t d)) e∧(((t.pg i).kids.take j).flatMap (cG t d)++sE u d ((t.pg i).kids[j]'m.hj) r++((t.pg i).kids.drop (j+1)).flatMap (cG t d)).headD e=(cG t (d+1) i).headD e:=by
 have hl:cG t (d+1) i=((t.pg i).kids.take j).flatMap (cG t d)++(cG t d ((t.pg i).kids[j]'m.hj)++((t.pg i).kids.drop (j+1)).flatMap (cG t d)):=by
  rw[cG];conv=>lhs;rw[uJ m.hj]
  rw[flatMap_append,flatMap_cons]
 rw[hl] at hs ⊢;rw[A6,A6] at hs;obtain⟨s1,s2,s3⟩:=hs;obtain⟨g1,g2⟩:=m.ins.oZ d hd _ (by rw[m.aC];exact s2);rw[m.aC] at g1 g2;obtain⟨_,_,_,_,O⟩:=m.ok;have hne:cG t d ((t.pg i).kids[j]'m.hj)≠[]:=Ff m.hp (O j m.hj) d hd;have fr:∀x∈(t.pg i).kids.take j++(t.pg i).kids.drop (j+1),∀y∈cG t d x,(v.pg y).next=(t.pg y).next:=fun x hx y hy=>by rw[m.others ha x hx y (rU h x d hd y hy)]
 have U:∀y∈sE u d ((t.pg i).kids[j]'m.hj) r,(v.pg y).next=(u.pg y).next:=fun y hy=>by
  have aT:=m.ins.ok;rw[m.aC] at aT;cases r with
  | none =>
   have hi:=rU h _ d hd y hy;have hb:=dX.ids aT y hi;rw[m.below ha y hi hb.1 hb.2]
  | some q =>
   obtain⟨up,aC⟩:=q;obtain⟨_,_,_,o1,o2⟩:=aT;rcases mem_append.1 hy with hy|hy
   ·have hi:=rU h _ d hd y hy;have hb:=o1.ids y hi;rw[m.below ha y (mem_append_left _ hi) hb.1 hb.2]
   have hi:=rU h _ d hd y hy;have hb:=o2.ids y hi;rw[m.below ha y (mem_append_right _ hi) hb.1 hb.2]
 have E:sE u d ((t.pg i).kids[j]'m.hj) r≠[]:=fun e0=>by
  have aT:=m.ins.ok;rw[m.aC] at aT;cases r with
  | none=>exact Ff m.ins.fF aT d hd e0
  | some q =>
   obtain⟨up,aC⟩:=q;exact Ff m.ins.fF aT.2.2.2.1 d hd (append_eq_nil_iff.1 e0).1
 have I:=yn (u:=v) (fun y hy=>by obtain⟨x,hx,hy⟩:=mem_flatMap.1 hy;exact fr x (mem_append_left _ hx) y hy) s1;have Z:=yn (u:=v) (fun y hy=>by obtain⟨x,hx,hy⟩:=mem_flatMap.1 hy;exact fr x (mem_append_right _ hx) y hy) s3;have g1':=yn (u:=v) U g1;have hh:∀e':Int,(sE u d ((t.pg i).kids[j]'m.hj) r).headD e'=(cG t d ((t.pg i).kids[j]'m.hj)).headD e':=fun e'=>by
  cases h1:sE u d ((t.pg i).kids[j]'m.hj) r with
  | nil=>exact absurd h1 E
  | cons a b =>
   cases h2:cG t d ((t.pg i).kids[j]'m.hj) with
   | nil=>exact absurd h2 hne
   | cons a' b'=>rw[h1,h2] at g2;exact g2
 rw[append_assoc];refine⟨?_,?_⟩
 ·rw[A6,A6];refine⟨?_,g1',Z⟩;rw[Ei E,hh];rw[Ei hne] at I;exact I
 cases hA:((t.pg i).kids.take j).flatMap (cG t d) with
 | cons a b=>rfl
 | nil=>rw[nil_append,nil_append,Ei E,Ei hne,hh]
end
end Go.Proofs.YtdgichenhdikgaaGreatDoor.Tr

namespace Go.Proofs.YtdgichenhdikgaaGreatDoor.Tr
open List
open Go.Proofs.Tryz
open Go.Lib (compareBytes)
variable {t u:aF} {h:Nat} {i:Int} {low high:K} {j:Nat} {k:K} {row:Int}
theorem aao{α:Type}{l:List α}{j E:Nat}(I:E<l.length)(hne:E≠j):l[E]∈l.take j++l.drop (j+1):=by
 rcases Nat.lt_or_ge E j with h|h
 ·exact mem_append_left _ (mem_iff_getElem.2 ⟨E,by rw[length_take];omega,by rw[getElem_take]⟩)
 refine mem_append_right _ (mem_iff_getElem.2 ⟨E-(j+1),by rw[length_drop];omega,?_⟩);rw[getElem_drop];congr 1;omega
theorem ID(m:jz t u h i low high j k row none):oC t u (h+1) i low high k row none:=by
 have E:n9 u u i:=⟨Nat.le_refl _,fun _ _ _ _=>rfl⟩
 have I:=m.same;have Aq:=m.ok.idx;obtain⟨q1,q2,q3,q4,q5⟩:=m.ok;have aT:dX u h ((t.pg i).kids[j]'m.hj) (iw low (t.pg i) j) (gY (t.pg i) j):=(by have:=m.ins.ok;rw[m.aC] at this;exact this)
 have pI:ids u (h+1) i=i::(((t.pg i).kids.take j).flatMap (ids t h)++nK u h ((t.pg i).kids[j]'m.hj) none++((t.pg i).kids.drop (j+1)).flatMap (ids t h)):=by
  rw[ids,I];conv=>lhs;rw[uJ m.hj]
  rw[IC (fun x hx=>(m.qi E (mem_append_left _ hx)).1) (fun x hx=>(m.qi E (mem_append_right _ hx)).1)];rfl
 have O:ev u (h+1) i=((t.pg i).kids.take j).flatMap (ev t h)++FC u h ((t.pg i).kids[j]'m.hj) none++((t.pg i).kids.drop (j+1)).flatMap (ev t h):=by
  rw[ev,I];conv=>lhs;rw[uJ m.hj]
  rw[IC (fun x hx=>(m.qi E (mem_append_left _ hx)).2.1) (fun x hx=>(m.qi E (mem_append_right _ hx)).2.1)];rfl
 have U:∀d,d≤h→cG u (d+1) i=((t.pg i).kids.take j).flatMap (cG t d)++sE u d ((t.pg i).kids[j]'m.hj) none++((t.pg i).kids.drop (j+1)).flatMap (cG t d):=fun d hd=>by
  rw[cG,I];conv=>lhs;rw[uJ m.hj]
  rw[IC (fun x hx=>(m.qi E (mem_append_left _ hx)).2.2 d hd) (fun x hx=>(m.qi E (mem_append_right _ hx)).2.2 d hd)];rfl
 have hle:=m.ins.le;have Uo:=m.ins.more;have Z:=m.QJ;refine⟨hle,by omega,m.ins.root,m.ins.fF,fun x h0 hx hne=>?_,?_,?_,?_,?_,?_,?_⟩
 ·refine m.ins.out x h0 hx fun hm=>hne ?_;rw[m.aC] at hm;rw[ids];exact mem_cons_of_mem _ (mem_flatMap.2 ⟨_,getElem_mem _,hm⟩)
 ·refine⟨⟨Aq.1,by omega⟩,by rw[I];exact q2,by rw[I];exact q3,by rw[I];exact q4,?_⟩;rw[I];intro j' jx;by_cases e:j'=j
  ·subst e;exact aT
  exact m.Su E (aao jx e) (q5 j' jx)
 ·intro x hx;have oS:x∈ids u (h+1) i:=hx;exact z105
 ·show(ids u (h+1) i).Nodup;rw[pI,nodup_cons];exact⟨Z.2,Z.1⟩
 ·show(ids u (h+1) i).length+_=_;rw[pI,length_cons];exact m.TP
 ·intro x;show x∈ev u (h+1) i↔_;rw[O];exact m.Jk x
 intro d hd e hs;cases d with
 | zero=>exact⟨by show(u.pg i).next=e;rw[I];exact hs,rfl⟩
 | succ d =>
  show fh u (cG u (d+1) i) e∧(cG u (d+1) i).headD e=_;rw[U d w4];exact m.JO E w4 hs
theorem jz.place{up:K}{aC:Int}(m:jz t u h i low high j k row (some (up,aC))):aO (t.pg i) up=j∧up∉(t.pg i).keys∧lD low high up∧bN low up:=by
 obtain⟨q1,q2,I,O,Z⟩:=m.ok;have po:=m.hp _ (jB q1);have hn:=(po.node q2).1;have aT:=m.ins.ok;rw[m.aC] at aT;obtain⟨o1,o2,o3,o4,o5⟩:=aT;have U:=m.hj;have eX:∀(h0:0<j),bN ((t.pg i).keys[j-1]'w4) up:=fun h0=>by rw[EY h0 w4] at o2;exact o2
 have eH:∀(hl:j<(t.pg i).keys.length),bN up (t.pg i).keys[j]:=fun hl=>by
  rw[Fe hl] at o3;exact o3 (by intro e;have:=(po.lq _ (getElem_mem hl)).1;rw[e] at this;simp at this)
 have fQ:aO (t.pg i) up=j:=by
  unfold aO;rw[if_neg (by rw[q2];decide)];exact Jj po.jS w4 (fun h0=>yN (eX h0)) eH
 have E:bN low up:=by
  rcases Nat.eq_zero_or_pos j with h0|h0
  ·rw[h0] at o2;exact o2
  exact Ob (O _ (getElem_mem (by omega:j-1<_))) (eX h0)
 refine⟨fQ,fun hm=>?_,⟨yN E,fun hne=>?_⟩,E⟩
 ·obtain⟨a,ha,e⟩:=mem_iff_getElem.1 hm;rcases Nat.lt_or_ge a j with h1|h1
  ·have h2:=eX w4;rcases Nat.lt_or_ge a (j-1) with h3|h3
   ·have:=mB (mW po.jS h3 w4) h2;rw[e] at this;exact kp _ this
   have:a=j-1:=(by omega)
   subst this;rw[e] at h2;exact kp _ h2
  have h2:=eH w4;rcases Nat.lt_or_ge j a with h3|h3
  ·have:=mB h2 (mW po.jS h3 ha);rw[e] at this;exact kp _ this
  have:a=j:=(by omega)
  subst this;rw[e] at h2;exact kp _ h2
 by_cases hl:j<(t.pg i).keys.length
 ·exact mB (eH hl) (by rw[←I];exact po.qm (by rw[I];exact hne) _ (getElem_mem hl))
 rw[Jh w4,I] at o3;exact o3 hne
theorem abX{up:K}{aC:Int}(m:jz t u h i low high j k row (some (up,aC))):oC t (q9 u i up aC).1 (h+1) i low high k row (q9 u i up aC).2:=by
 obtain⟨p1,p2,p3,p4⟩:=m.place;have es:=m.same;have Aq:=m.ok.idx;have aT:=m.ins.ok;rw[m.aC] at aT;obtain⟨o1,o2,o3,o4,o5⟩:=aT;obtain⟨q1,q2,q3,q4,q5⟩:=m.ok;have hle:=m.ins.le;have Uo:=m.ins.more;have U:0≤i∧i<u.ag.length:=⟨Aq.1,by omega⟩
 have XE:=m.hp _ (jB q1);have po:eL (t.pg i) u.ag.length:=XE.more w4;have hn:=(po.node q2).1;have lT:=m.hj;have hf:wA (bB (t.pg i) up aC) u.ag.length:=Iz po p2 o1 (by rw[q3];exact p3.2) o5.idx.1 (fun _=>o5.idx.2);have I:(bB (t.pg i) up aC).kids=(t.pg i).kids.take j++((t.pg i).kids[j]'m.hj)::aC::(t.pg i).kids.drop (j+1):=by
  show gU _ (if (t.pg i).leaf=true then _ else _) aC=_;rw[if_neg (by rw[q2];decide),p1];exact Oc m.hj aC
 have agL:(bB (t.pg i) up aC).keys=gU (t.pg i).keys j up:=by
  show gU _ _ _=_;rw[p1]
 have Z:∀x∈(bB (t.pg i) up aC).keys,¬bN x low:=fun x hx=>by
  rcases uG.1 hx with rfl|h
  ·exact p3.1
  exact q4 x h
 have hKT:jo t h low (t.pg i).kids (t.pg i).keys high:=(A5 XE).1 m.ok |>.2.2.2.2
 -- what is below,in any tree ao1 anF
 have below:∀{v:aF},n9 u v i→(∀x,x∈ids u h ((t.pg i).kids[j]'m.hj)++ids u h aC→v.pg x=u.pg x):=fun E x hx=>by
  refine m.below E x hx ?_ ?_
  ·rcases mem_append.1 hx with hx|hx
   ·exact(o4.ids x hx).1
   exact(o5.ids x hx).1
  rcases mem_append.1 hx with hx|hx
  ·exact(o4.ids x hx).2
  exact(o5.ids x hx).2
 have Nk:∀{v:aF},n9 u v i→_:=fun {v} E=>frame (t:=u) (u:=v) h ((t.pg i).kids[j]'m.hj) (fun x hx=>below E x (mem_append_left _ hx));have Nl:∀{v:aF},n9 u v i→_:=fun {v} E=>frame (t:=u) (u:=v) h aC (fun x hx=>below E x (mem_append_right _ hx));have XF:∀{v:aF},n9 u v i→jo v h low (bB (t.pg i) up aC).kids (bB (t.pg i) up aC).keys high:=fun {v} E=>by
  have e1:(bB (t.pg i) up aC).kids=gU (t.pg i).kids (j+1) aC:=(by rw[I];exact(Oc m.hj aC).symm)
  rw[e1,agL];refine QH j m.hj hKT (fun c hc lo hi aT=>m.Su E ?_ aT) ?_ ?_
  ·rcases YS hc with hc|hc
   ·exact mem_append_left _ hc
   exact mem_append_right _ hc
  ·have:=o4.frame E.le (fun x hx=>below E x (mem_append_left _ hx));unfold iw at this;exact this
  have:=o5.frame E.le (fun x hx=>below E x (mem_append_right _ hx));unfold gY at this;rw[q3] at this;exact this
 have Vr:∀{v:aF},n9 u v i→(bB (t.pg i) up aC).kids.flatMap (ids v h)=((t.pg i).kids.take j).flatMap (ids t h)++nK u h ((t.pg i).kids[j]'m.hj) (some (up,aC))++((t.pg i).kids.drop (j+1)).flatMap (ids t h):=fun {v} E=>by
  rw[I,HW (fun x hx=>(m.qi E (mem_append_left _ hx)).1) (fun x hx=>(m.qi E (mem_append_right _ hx)).1),(Nk E).1,(Nl E).1];rfl
 have Up:∀{v:aF},n9 u v i→(bB (t.pg i) up aC).kids.flatMap (ev v h)=((t.pg i).kids.take j).flatMap (ev t h)++FC u h ((t.pg i).kids[j]'m.hj) (some (up,aC))++((t.pg i).kids.drop (j+1)).flatMap (ev t h):=fun {v} E=>by
  rw[I,HW (fun x hx=>(m.qi E (mem_append_left _ hx)).2.1) (fun x hx=>(m.qi E (mem_append_right _ hx)).2.1),(Nk E).2.1,(Nl E).2.1];rfl
 have Vs:∀{v:aF},n9 u v i→∀d,d≤h→(bB (t.pg i) up aC).kids.flatMap (cG v d)=((t.pg i).kids.take j).flatMap (cG t d)++sE u d ((t.pg i).kids[j]'m.hj) (some (up,aC))++((t.pg i).kids.drop (j+1)).flatMap (cG t d):=fun {v} E d hd=>by
  rw[I,HW (fun x hx=>(m.qi E (mem_append_left _ hx)).2.2 d hd) (fun x hx=>(m.qi E (mem_append_right _ hx)).2.2 d hd),(Nk E).2.2 d hd,(Nl E).2.2 d hd];rfl
 have vI:=m.QJ;have B0:=m.TP;have Vt:∀x:Int,0≤x→x<t.ag.length→x∉ids t (h+1) i→u.pg x=t.pg x∧x≠i:=fun x h0 hx hne=>by
  refine⟨m.ins.out x h0 hx fun hm=>hne ?_,fun e=>hne (by rw[e];exact s5 _ _)⟩;rw[m.aC] at hm;rw[ids];exact mem_cons_of_mem _ (mem_flatMap.2 ⟨_,getElem_mem _,hm⟩)
 by_cases h4:(bB (u.pg i) up aC).keys.length≤4
 ·rw[IB h4];rw[es] at h4 ⊢;have ep:=AV U (bB (t.pg i) up aC);have E:n9 u (u.set i (bB (t.pg i) up aC)) i:=⟨by rw[nY];omega,fun x h0 hx hne=>vT U.1 h0 (Ne.symm hne) _⟩
  have pI:ids (u.set i (bB (t.pg i) up aC)) (h+1) i=i::(((t.pg i).kids.take j).flatMap (ids t h)++nK u h ((t.pg i).kids[j]'m.hj) (some (up,aC))++((t.pg i).kids.drop (j+1)).flatMap (ids t h)):=(by rw[ids,ep,Vr E])
  refine⟨by rw[nY];omega,by rw[nY];omega,m.ins.root,by rw[nY];exact HU m.ins.fF (hf.ok h4),fun x h0 hx hne=>?_,?_,fun x hx=>?_,?_,?_,fun x=>?_,fun d hd e hs=>?_⟩
  ·obtain⟨e1,e2⟩:=Vt x h0 hx hne;rw[E.pg x h0 w4 e2,e1]
  ·show dX _ (h+1) i low high;refine(A5 (n:=u.ag.length) (by rw[ep];exact hf.ok h4)).2 ?_;rw[ep];exact⟨by rw[nY];exact U,q2,q3,Z,XF E⟩
  ·have oS:x∈ids (u.set i (bB (t.pg i) up aC)) (h+1) i:=hx;exact z105
  ·show(ids _ (h+1) i).Nodup;rw[pI,nodup_cons];exact⟨vI.2,vI.1⟩
  ·show(ids _ (h+1) i).length+_=_;rw[pI,length_cons,nY];exact B0
  ·show x∈ev _ (h+1) i↔_;rw[ev,ep,Up E];exact m.Jk x
  cases d with
  | zero=>exact⟨by show((u.set i _).pg i).next=e;rw[ep];exact hs,rfl⟩
  | succ d =>
   show fh _ (cG _ (d+1) i) e∧(cG _ (d+1) i).headD e=_;rw[cG,ep,Vs E d w4];exact m.JO E w4 hs
 have h5:(bB (t.pg i) up aC).keys.length=5:=(by rw[es] at h4;have:=hf.eD;omega)
 rw[HV h4];rw[es] at h4 ⊢;have Db:(bB (t.pg i) up aC).leaf=false:=q2;have ea:=Pd U (bp (bB (t.pg i) up aC) u.ag.length) (bw (bB (t.pg i) up aC));have eb:=QI u i (bp (bB (t.pg i) up aC) u.ag.length) (bw (bB (t.pg i) up aC));have E:n9 u (jq u i (bp (bB (t.pg i) up aC) u.ag.length) (bw (bB (t.pg i) up aC))) i:=⟨by rw[pp];omega,fun x h0 hx hne=>Oz U.1 ⟨h0,hx⟩ (Ne.symm hne) _ _⟩
 obtain⟨u1,u2⟩:=Ss hf.jS h5 Z;have Da:ji (bB (t.pg i) up aC)∈(bB (t.pg i) up aC).keys:=(by rw[yP h5];exact getElem_mem _)
 have eX:=TO hf h5 w4;have eH:=Sn (m:=u.ag.length+1) hf h5 w4;have Ai:=Oy 2 w4 (XF E);rw[←yP h5] at Ai;have G1:(bp (bB (t.pg i) up aC) u.ag.length).kids=(bB (t.pg i) up aC).kids.take 3:=by
  show(bB (t.pg i) up aC).kids.take (if _ then _ else _)=_;rw[if_neg (by rw[Db];decide)]
 have G2:(bw (bB (t.pg i) up aC)).kids=(bB (t.pg i) up aC).kids.drop 3:=by
  show(bB (t.pg i) up aC).kids.drop (if _ then _ else _)=_;rw[if_neg (by rw[Db];decide)]
 have ehy:(bw (bB (t.pg i) up aC)).keys=(bB (t.pg i) up aC).keys.drop 3:=by
  show(bB (t.pg i) up aC).keys.drop (if _ then _ else _)=_;rw[if_neg (by rw[Db];decide)]
 have O:∀{α:Type} (f:Int→List α),((bB (t.pg i) up aC).kids.take 3).flatMap f++((bB (t.pg i) up aC).kids.drop 3).flatMap f=(bB (t.pg i) up aC).kids.flatMap f:=fun f=>by rw[←flatMap_append,take_append_drop]
 have pI:nK (jq u i (bp (bB (t.pg i) up aC) u.ag.length) (bw (bB (t.pg i) up aC))) (h+1) i (some (ji (bB (t.pg i) up aC),(u.ag.length:Int)))=(i::((bB (t.pg i) up aC).kids.take 3).flatMap (ids (jq u i (bp (bB (t.pg i) up aC) u.ag.length) (bw (bB (t.pg i) up aC))) h))++((u.ag.length:Int)::((bB (t.pg i) up aC).kids.drop 3).flatMap (ids (jq u i (bp (bB (t.pg i) up aC) u.ag.length) (bw (bB (t.pg i) up aC))) h)):=by
  show ids _ (h+1) i++ids _ (h+1) _=_;rw[ids,ids,ea,eb,G1,G2]
 have pid:=(O (ids (jq u i (bp (bB (t.pg i) up aC) u.ag.length) (bw (bB (t.pg i) up aC))) h)).trans (Vr E);have ai6:∀x∈((t.pg i).kids.take j).flatMap (ids t h)++nK u h ((t.pg i).kids[j]'m.hj) (some (up,aC))++((t.pg i).kids.drop (j+1)).flatMap (ids t h),x<u.ag.length:=fun x hx=>by
  rcases mem_append.1 hx with hx|hx
  ·rcases mem_append.1 hx with hx|hx
   ·obtain⟨c,hc,hx⟩:=mem_flatMap.1 hx;obtain⟨a,ha,rfl⟩:=mem_iff_getElem.1 (mem_of_mem_take hc);have:=(q5 a ha).ids x hx;omega
   rcases mem_append.1 hx with hx|hx
   ·exact(o4.ids x hx).2
   exact(o5.ids x hx).2
  obtain⟨c,hc,hx⟩:=mem_flatMap.1 hx;obtain⟨a,ha,rfl⟩:=mem_iff_getElem.1 (mem_of_mem_drop hc);have:=(q5 a ha).ids x hx;omega
 refine⟨by rw[pp];omega,by rw[pp];omega,m.ins.root,?_,fun x h0 hx hne=>?_,⟨hf.lq _ Da,u1,fun hne=>?_,?_,?_⟩,fun x hx=>?_,?_,?_,fun x=>?_,fun d hd e hs=>?_⟩
 ·rw[pp];exact OA m.ins.fF w4 eX eH
 ·obtain⟨e1,e2⟩:=Vt x h0 hx hne;rw[E.pg x h0 w4 e2,e1]
 ·have:=hf.qm (by show(t.pg i).high≠[];rw[q3];exact hne) _ Da;rw[←q3];exact this
 ·refine(A5 (n:=(u.ag.length:Int)+1) (by rw[ea];exact eX)).2 ?_;rw[ea,G1];exact⟨by rw[pp];omega,Db,rfl,fun x hx=>Z x (mem_of_mem_take hx),Ai.1⟩
 ·refine(A5 (n:=(u.ag.length:Int)+1) (by rw[eb];exact eH)).2 ?_;rw[eb,G2,ehy];refine⟨by rw[pp];omega,Db,q3,fun x hx=>u2 x ?_,Ai.2⟩;rw[show 3=2+1 from rfl,←drop_drop] at hx;exact mem_of_mem_drop hx
 ·rw[pI] at hx;have fk:x=i∨x=(u.ag.length:Int)∨x∈((bB (t.pg i) up aC).kids.take 3).flatMap (ids (jq u i (bp (bB (t.pg i) up aC) u.ag.length) (bw (bB (t.pg i) up aC))) h)++((bB (t.pg i) up aC).kids.drop 3).flatMap (ids (jq u i (bp (bB (t.pg i) up aC) u.ag.length) (bw (bB (t.pg i) up aC))) h):=by
   rcases mem_append.1 hx with hx|hx
   ·rcases mem_cons.1 hx with h|h
    ·exact .inl h
    exact .inr (.inr (mem_append_left _ h))
   rcases mem_cons.1 hx with h|h
   ·exact .inr (.inl h)
   exact .inr (.inr (mem_append_right _ h))
  rw[pid] at fk;rcases fk with rfl|rfl|hx
  ·exact .inl (s5 _ _)
  ·exact .inr w4
  exact m.Ty x hx
 ·rw[pI];have hnd:=vI.1;rw[←pid,nodup_append] at hnd;have pT:=vI.2;rw[←pid] at pT;simp only[mem_append,not_or] at pT;have j5:∀x∈((bB (t.pg i) up aC).kids.take 3).flatMap (ids (jq u i (bp (bB (t.pg i) up aC) u.ag.length) (bw (bB (t.pg i) up aC))) h)++((bB (t.pg i) up aC).kids.drop 3).flatMap (ids (jq u i (bp (bB (t.pg i) up aC) u.ag.length) (bw (bB (t.pg i) up aC))) h),x<u.ag.length:=fun x hx=>ai6 x (by rw[←pid];exact hx);rw[nodup_append,nodup_cons,nodup_cons];refine⟨⟨pT.1,hnd.1⟩,⟨fun hm=>?_,hnd.2.1⟩,fun a ha b hb e=>?_⟩
  ·have:=j5 _ (mem_append_right _ hm);omega
  subst e;rcases mem_cons.1 ha with rfl|ha
  ·rcases mem_cons.1 hb with hb|hb
   ·omega
   exact pT.2 hb
  rcases mem_cons.1 hb with rfl|hb
  ·have:=j5 _ (mem_append_left _ ha);omega
  exact hnd.2.2 a ha a hb rfl
 ·rw[pI,pp];have:=congrArg length pid;rw[length_append] at this;rw[length_append,length_cons,length_cons];omega
 ·show x∈ev _ (h+1) i++ev _ (h+1) _↔_;rw[ev,ev,ea,eb,G1,G2,O,Up E];exact m.Jk x
 cases d with
 | zero =>
  refine⟨?_,rfl⟩;show((jq u i _ _).pg i).next=_∧((jq u i _ _).pg _).next=e;rw[ea,eb];exact⟨rfl,hs⟩
 | succ d =>
  show fh _ (cG _ (d+1) i++cG _ (d+1) _) e∧(cG _ (d+1) i++cG _ (d+1) _).headD e=_;rw[cG,cG,ea,eb,G1,G2,O,Vs E d w4];exact m.JO E w4 hs
theorem Fg:∀{h:Nat} {t:aF} (hp:∀p∈t.ag,eL p t.ag.length) {i:Int} {low high:K} (ok:dX t h i low high) (nd:(ids t h i).Nodup) {k:K} {row:Int} (hk:lD low high k) (hn:∀x∈ev t h i,x.1≠k) (hl:1≤k.length∧k.length≤100) (hr:0≤row),oC t (gC t k row h i).1 h i low high k row (gC t k row h i).2
 | 0,t,hp,i,low,high,ok,nd,k,row,hk,hn,hl,hr=>abW hp ok hk hn hl hr
 | h+1,t,hp,i,low,high,ok,nd,k,row,hk,hn,hl,hr=>by
  obtain⟨q1,q2,O,Z,U⟩:=id ok;have po:=hp _ (jB q1);obtain⟨d1,d2⟩:=down po q2 O hk;have E:=(vU d1 nd).1;have I:=Fg (h:=h) hp (U _ d1) E d2 (fun x hx=>hn x L8) hl hr;rw[←tg d1] at I;rw[gC];generalize gC t k row h ((t.pg i).kids.getD (aO (t.pg i) k) 0)=R at I;obtain⟨u,r⟩:=R;have m:jz t u h i low high (aO (t.pg i) k) k row r:=⟨hp,ok,nd,d1,d2,I⟩
  cases r with
  | none=>exact ID m
  | some q=>obtain⟨up,aC⟩:=q;exact abX m

end Go.Proofs.YtdgichenhdikgaaGreatDoor.Tr
namespace Go.Proofs.YtdgichenhdikgaaGreatDoor.Tr
open List
open Go.Proofs.Tryz
open Go.Lib (compareBytes)
variable {t:aF} {h:Nat} {k:K} {row:Int}
variable {p:cX}
def kU(t:aF)(h:Nat):List (K×Int):=ev t h t.root
def gJ(t:aF)(h:Nat)(k:K)(row:Int):aF:=agK (gC t k row h t.root)
def jb(u:aF)(up:K)(aC:Int):aF:=⟨u.ag++[⟨false,[up],[u.root,aC],[],-1⟩],u.ag.length⟩
theorem th(u:aF)(up:K)(aC:Int):(jb u up aC).ag.length=u.ag.length+1:=by simp[jb]
theorem abY(u:aF)(up:K)(aC:Int):(jb u up aC).pg u.ag.length=⟨false,[up],[u.root,aC],[],-1⟩:=by
 unfold aF.pg jb;rw[getD_eq_getElem?_getD,getElem?_append_right w4];simp
theorem abZ{u:aF}{x:Int}(hx:0≤x∧x<u.ag.length)(up:K)(aC:Int):(jb u up aC).pg x=u.pg x:=by
 unfold aF.pg jb;rw[getD_eq_getElem?_getD,getD_eq_getElem?_getD,getElem?_append_left w4]
theorem Valid.range(v:Valid t h):0≤t.root∧t.root<t.ag.length:=v.ok.idx
theorem QK(hp:∀p∈t.ag,eL p t.ag.length):∀{h:Nat} {i:Int} {low high:K},dX t h i low high→h+1≤(ids t h i).length
 | 0,_,_,_,_=>by simp[ids]
 | h+1,i,low,high,⟨q1,q2,I,O,E⟩=>by
  have po:=hp _ (jB q1);have hn:=(po.node q2).1;have h0:0<(t.pg i).kids.length:=(by omega)
  have:=QK hp (E 0 h0);rw[ids,length_cons,uJ h0,flatMap_append,flatMap_cons,length_append,length_append];omega
theorem Valid.high(v:Valid t h):h<t.ag.length:=by
 have:=QK v.fF v.ok;rw[v.all] at this;omega
theorem aap(v:Valid t h)(hn:∀x∈kU t h,x.1≠k)(hl:1≤k.length∧k.length≤100)(hr:0≤row)(hm:t.ag.length+(h+2)≤4000) :
  ∃h',(h≤h'∧h'≤h+1)∧Valid (gJ t h k row) h'∧(t.ag.length≤(gJ t h k row).ag.length∧(gJ t h k row).ag.length≤t.ag.length+(h+2))∧∀x,x∈kU (gJ t h k row) h'↔x=(k,row)∨x∈kU t h:=by
 have I:=Fg v.fF v.ok v.zx (tF k) hn hl hr;unfold gJ;generalize gC t k row h t.root=R at I;obtain⟨u,r⟩:=R;have hle:t.ag.length≤u.ag.length:=I.le;have Uo:u.ag.length≤t.ag.length+(h+1):=I.more;have O:(nK u h t.root r).length+t.ag.length=(ids t h t.root).length+u.ag.length:=I.XD;rw[v.all] at O;have ao2:=v.pos;have E:u.root=t.root:=I.root;cases r with
 | none =>
  refine⟨h,⟨Nat.le_refl _,by omega⟩,⟨by show 1≤u.ag.length;omega,by show u.ag.length≤4000;omega,I.fF,?_,?_,?_,fun d hd=>?_⟩,⟨hle,by show u.ag.length≤_;omega⟩,fun x=>?_⟩
  ·show dX u h u.root [] [];rw[E];exact I.ok
  ·show(ids u h u.root).Nodup;rw[E];exact I.nodup
  ·show(ids u h u.root).length=u.ag.length;rw[E];have:(ids u h t.root).length+t.ag.length=t.ag.length+u.ag.length:=O;omega
  ·show fh u (cG u d u.root) (-1);rw[E];exact(I.oZ d hd (-1) (v.oZ d hd)).1
  show x∈ev u h u.root↔_;rw[E];exact I.ev x
 | some q =>
  obtain⟨up,aC⟩:=q;obtain⟨o1,o2,o3,o4,o5⟩:(1≤up.length∧up.length≤100)∧bN [] up∧(([]:K)≠[]→bN up [])∧dX u h t.root [] up∧dX u h aC up []:=I.ok;have ho:∀x∈ids u h t.root++ids u h aC,(jb u up aC).pg x=u.pg x:=fun x hx=>by
   refine abZ ?_ up aC;rcases mem_append.1 hx with hx|hx
   ·exact o4.ids x hx
   exact o5.ids x hx
  have f1:=frame (t:=u) (u:=jb u up aC) h t.root (fun x hx=>ho x (mem_append_left _ hx));have f2:=frame (t:=u) (u:=jb u up aC) h aC (fun x hx=>ho x (mem_append_right _ hx));have g1:dX (jb u up aC) h t.root [] up:=o4.frame (by rw[th];omega) (fun x hx=>ho x (mem_append_left _ hx));have g2:dX (jb u up aC) h aC up []:=o5.frame (by rw[th];omega) (fun x hx=>ho x (mem_append_right _ hx));have U:=abY u up aC;rw[E] at U;have hnd:=I.nodup;have pI:ids (jb u up aC) (h+1) u.ag.length=(u.ag.length:Int)::(ids u h t.root++ids u h aC):=by
   rw[ids,U];show _::([t.root,aC].flatMap (ids (jb u up aC) h))=_;rw[flatMap_cons,flatMap_cons,flatMap_nil,append_nil,f1.1,f2.1]
  have Z:eL (⟨false,[up],[t.root,aC],[],-1⟩:cX) (u.ag.length+1:Nat):=by
   have i1:=o4.idx;have i2:=o5.idx;refine⟨by simp,by simp,by simp,by simp;omega,by simp,(fun h=>by cases h),fun _=>⟨rfl,by simp⟩,fun x hx=>?_,fun h=>absurd rfl h,by simp,fun x hx=>?_,fun _ x hx=>?_⟩
   ·have:x=up:=(by simpa using hx)
    subst this;exact o1
   ·have:x=t.root∨x=aC:=(by simpa using hx)
    rcases this with rfl|rfl
    ·exact i1.1
    exact i2.1
   have:x=t.root∨x=aC:=(by simpa using hx)
   rcases this with rfl|rfl<;>omega
  refine⟨h+1,⟨by omega,by omega⟩,⟨?_,?_,?_,?_,?_,?_,fun d hd=>?_⟩,⟨?_,?_⟩,fun x=>?_⟩
  ·show 1≤(jb u up aC).ag.length;rw[th];omega
  ·show(jb u up aC).ag.length≤4000;rw[th];omega
  ·show ∀p∈(jb u up aC).ag,eL p (jb u up aC).ag.length;rw[th];intro p hp;rcases mem_append.1 hp with hp|hp
   ·have zZ:eL p u.ag.length:=I.fF p hp;exact zZ.more w4
   rw[mem_singleton] at hp;subst hp;rw[E];exact Z
  ·show dX (jb u up aC) (h+1) u.ag.length [] [];refine(A5 (n:=(u.ag.length+1:Nat)) (by rw[U];exact Z)).2 ?_;rw[U];refine⟨by rw[th];omega,rfl,rfl,fun x _=>JM x,?_⟩;rw[p9,AW];exact⟨g1,g2⟩
  ·show(ids (jb u up aC) (h+1) u.ag.length).Nodup;rw[pI,nodup_cons];refine⟨fun hm=>?_,hnd⟩;rcases mem_append.1 hm with hm|hm
   ·have:=o4.ids _ hm;omega
   have:=o5.ids _ hm;omega
  ·show(ids (jb u up aC) (h+1) u.ag.length).length=(jb u up aC).ag.length;rw[pI,th,length_cons];have:(ids u h t.root++ids u h aC).length+t.ag.length=t.ag.length+u.ag.length:=O;omega
  ·show fh (jb u up aC) (cG (jb u up aC) d u.ag.length) (-1);cases d with
   | zero=>show((jb u up aC).pg u.ag.length).next = -1;rw[U]
   | succ d =>
    rw[cG,U];show fh _ ([t.root,aC].flatMap (cG (jb u up aC) d)) (-1);rw[flatMap_cons,flatMap_cons,flatMap_nil,append_nil,f1.2.2 d w4,f2.2.2 d w4];refine yn (fun x hx=>?_) (I.oZ d w4 (-1) (v.oZ d w4)).1;have oS:x∈cG u d t.root++cG u d aC:=hx;rw[ho x ?_];rcases mem_append.1 oS with oS|oS
    ·exact mem_append_left _ (rU h _ d w4 x oS)
    exact mem_append_right _ (rU h _ d w4 x oS)
  ·show t.ag.length≤(jb u up aC).ag.length;rw[th];omega
  ·show(jb u up aC).ag.length≤_;rw[th];omega
  show x∈ev (jb u up aC) (h+1) u.ag.length↔_;rw[ev,U];show x∈[t.root,aC].flatMap (ev (jb u up aC) h)↔_;rw[flatMap_cons,flatMap_cons,flatMap_nil,append_nil,f1.2.1,f2.2.1];exact I.ev x
theorem Pe:Valid oM 0:=by
 refine⟨by decide,by decide,fun p hp=>?_,⟨by decide,rfl,rfl,fun k hk=>by cases hk⟩,by simp[ids],rfl,fun d hd=>?_⟩
 ·have:p=⟨true,[],[],[],-1⟩:=(by simpa[oM] using hp)
  subst this;exact⟨by simp,by simp,by simp,by simp[oM],by simp,fun _=>rfl,(fun h=>by cases h),(fun k hk=>by cases hk),(fun h=>absurd rfl h),by simp,(fun n hn=>by cases hn),(fun h=>by cases h)⟩
 obtain rfl:d=0:=(by omega)
 rfl
theorem ab0:kU oM 0=[]:=rfl
theorem EC(hl:p.kids.length=p.keys.length){a:Nat}(ha:a<p.keys.length):(fb p)[a]'(by unfold fb;rw[length_zip];omega)=(p.keys[a],p.kids[a]'w4):=by unfold fb;rw[getElem_zip]
theorem AK(hl:p.kids.length=p.keys.length){x:K×Int}:x∈fb p↔∃a,∃(ha:a<p.keys.length),x=(p.keys[a],p.kids[a]'w4):=by
 constructor
 ·intro h;obtain⟨a,ha,e⟩:=mem_iff_getElem.1 h;have E:a<p.keys.length:=(by unfold fb at ha;rw[length_zip] at ha;omega)
  exact⟨a,E,by rw[←e,EC hl E]⟩
 rintro⟨a,ha,rfl⟩;exact mem_iff_getElem.2 ⟨a,by unfold fb;rw[length_zip];omega,EC hl ha⟩
def Bh(t:aF)(k:K)(h:Nat):Prop:=∃(ha:aO (t.pg (aH t k h t.root)) k<(t.pg (aH t k h t.root)).keys.length),(t.pg (aH t k h t.root)).keys[aO (t.pg (aH t k h t.root)) k]=k
theorem Valid.leaf(v:Valid t h)(k:K):(0≤aH t k h t.root∧aH t k h t.root<t.ag.length)∧(t.pg (aH t k h t.root)).leaf=true:=by
 obtain⟨_,_,_,_,_,_,_,h3,_⟩:=AU v.fF v.ok (tF k);exact⟨h3.1,h3.2.1⟩
theorem found(v:Valid t h)(k:K)(row:Int):(k,row)∈kU t h↔∃(ha:aO (t.pg (aH t k h t.root)) k<(t.pg (aH t k h t.root)).keys.length),(t.pg (aH t k h t.root)).keys[aO (t.pg (aH t k h t.root)) k]=k∧(t.pg (aH t k h t.root)).kids.getD (aO (t.pg (aH t k h t.root)) k) 0=row:=by
 obtain⟨pre,post,lo,hi,e,h1,h2,h3,h4⟩:=AU v.fF v.ok (tF k);have po:=v.fF _ (jB h3.1);have fN:=h3.2.1;have hlen:=po.leaf fN;unfold kU;rw[wc,e,flatMap_append,flatMap_cons];generalize I:t.pg (aH t k h t.root)=p at *;have fQ:aO p k=gB p.keys k:=(by unfold aO;rw[if_pos fN])
 rw[fQ];simp only[mem_append];constructor
 ·rintro(hx|hx|hx)
  ·obtain⟨l,hl,hx⟩:=mem_flatMap.1 hx;exact absurd (h1 l hl _ hx) (kp k)
  ·obtain⟨a,ha,e2⟩:=(AK hlen).1 hx;injection e2 with E O
   have:gB p.keys k=a:=by
    rcases Nat.lt_trichotomy (gB p.keys k) a with h5|h5|h5
    ·exfalso;have:=AJ (keys:=p.keys) (k:=k) w4;have h6:=mW po.jS h5 ha;rw[←E] at h6;exact this h6
    ·exact h5
    have:=(AS h5).2;rw[←E] at this;exact absurd this (kp k)
   subst this;exact⟨ha,E.symm,by rw[getD_eq_getElem?_getD,getElem?_eq_getElem w4];exact O.symm⟩
  obtain⟨l,hl,hx⟩:=mem_flatMap.1 hx;exact absurd (h2 l hl _ hx) (kp k)
 rintro⟨ha,e1,e2⟩;refine .inr (.inl ((AK hlen).2 ⟨_,ha,?_⟩));rw[getD_eq_getElem?_getD,getElem?_eq_getElem w4] at e2;rw[e1];congr 1;exact e2.symm
theorem AL(v:Valid t h)(k:K):Bh t k h↔∃row,(k,row)∈kU t h:=by
 constructor
 ·rintro⟨ha,e⟩;exact⟨_,(found v k _).2 ⟨ha,e,rfl⟩⟩
 rintro⟨row,hr⟩;obtain⟨ha,e,_⟩:=(found v k row).1 hr;exact⟨ha,e⟩
def kD(p:cX)(a:Nat):cX:={p with keys:=p.keys.eraseIdx a,kids:=p.kids.eraseIdx a}
def gK(t:aF)(h:Nat)(k:K):aF:=t.set (aH t k h t.root) (kD (t.pg (aH t k h t.root)) (aO (t.pg (aH t k h t.root)) k))
theorem afp{n:Int}(hp:eL p n)(hl:p.leaf=true){a:Nat}(ha:a<p.keys.length):eL (kD p a) n:=by
 have hlen:=hp.leaf hl;refine⟨?_,hp.hlen,hp.wP,hp.wD,hp.wQ,fun _=>?_,fun h=>?_,fun k hk=>hp.lq k ((eraseIdx_sublist _ _).subset hk),fun hne k hk=>hp.qm hne k ((eraseIdx_sublist _ _).subset hk),hp.jS.sublist (eraseIdx_sublist _ _),fun x hx=>hp.aC x ((eraseIdx_sublist _ _).subset hx),fun h=>?_⟩
 ·show(p.keys.eraseIdx a).length≤4;rw[length_eraseIdx_of_lt ha];have:=hp.eD;omega
 ·show(p.kids.eraseIdx a).length=(p.keys.eraseIdx a).length;rw[length_eraseIdx_of_lt ha,length_eraseIdx_of_lt w4,hlen]
 ·have:p.leaf=false:=h;rw[hl] at this;cases this
 have:p.leaf=false:=h;rw[hl] at this;cases this
theorem Pf{α β:Type}:∀{a:List α} {b:List β} {n:Nat},(a.eraseIdx n).zip (b.eraseIdx n)=(a.zip b).eraseIdx n
 | [],_,n=>by simp
 | _::_,[],n=>by cases n<;>simp
 | x::a,y::b,0=>by simp
 | x::a,y::b,n+1=>by simp[Pf (a:=a) (b:=b) (n:=n)]
theorem QL{q:cX}{l:Int}(hq:q.leaf=true)(hh:q.high=(t.pg l).high)(hx:q.next=(t.pg l).next)(hl:0≤l∧l<t.ag.length)(fN:(t.pg l).leaf=true)(E:∀k∈q.keys,k∈(t.pg l).keys):∀{h:Nat} {i:Int} {low high:K},dX t h i low high →
  dX (t.set l q) h i low high∧ids (t.set l q) h i=ids t h i∧∀d,d≤h→cG (t.set l q) d i=cG t d i
 | 0,i,low,high,⟨q1,q2,I,O⟩=>by
  refine⟨?_,rfl,fun d hd=>by cases Nat.le_zero.1 hd;rfl⟩;by_cases e:l=i
  ·subst e;rw[dX,AV hl,nY];exact⟨q1,hq,by rw[hh];exact I,fun k hk=>O k (E k hk)⟩
  rw[dX,vT hl.1 q1.1 e,nY];exact⟨q1,q2,I,O⟩
 | h+1,i,low,high,⟨q1,q2,I,O,q5⟩=>by
  have e:l≠i:=fun e=>by rw[e,q2] at fN;cases fN
  have U:=vT (t:=t) hl.1 q1.1 e q;have Z:=fun j (hj:j<(t.pg i).kids.length)=>QL hq hh hx hl fN E (q5 j hj);refine⟨?_,?_,fun d hd=>?_⟩
  ·rw[dX,U,nY];exact⟨q1,q2,I,O,fun j hj=>(Z j hj).1⟩
  ·rw[ids,ids,U];congr 1;refine qN fun c hc=>?_;obtain⟨j,hj,rfl⟩:=mem_iff_getElem.1 hc;exact(Z j hj).2.1
  cases d with
  | zero=>rfl
  | succ d =>
   rw[cG,cG,U];refine qN fun c hc=>?_;obtain⟨j,hj,rfl⟩:=mem_iff_getElem.1 hc;exact(Z j hj).2.2 d w4
theorem aaq(v:Valid t h)(ht:Bh t k h):Valid (gK t h k) h∧(gK t h k).ag.length=t.ag.length∧∀x,x∈kU (gK t h k) h↔x∈kU t h∧x.1≠k:=by
 obtain⟨ha,hk⟩:=ht;obtain⟨hl,fN⟩:=v.leaf k;have po:=v.fF _ (jB hl);have hq:=afp po fN ha;have hlen:=po.leaf fN;have S:=fun {i:Int} {low high:K} (ok:dX t h i low high)=>QL (t:=t) (q:=kD (t.pg (aH t k h t.root)) (aO (t.pg (aH t k h t.root)) k)) (l:=aH t k h t.root) fN rfl rfl hl fN (fun k hk=>(eraseIdx_sublist _ _).subset hk) ok;obtain⟨s1,s2,s3⟩:=S v.ok;have E:(gK t h k).ag.length=t.ag.length:=nY _ _ _;refine⟨⟨by rw[E];exact v.pos,by rw[E];exact v.nJ,?_,s1,?_,?_,fun d hd=>?_⟩,E,fun x=>?_⟩
 ·rw[E];exact HU v.fF hq
 ·show(ids (gK t h k) h t.root).Nodup;unfold gK;rw[s2];exact v.zx
 ·show(ids (gK t h k) h t.root).length=_;rw[E];unfold gK;rw[s2];exact v.all
 ·show fh (gK t h k) (cG (gK t h k) d t.root) (-1);unfold gK;rw[s3 d hd];refine yn (fun y hy=>?_) (v.oZ d hd);have I:=v.ok.ids y (rU h _ d hd y hy);by_cases e:aH t k h t.root=y
  ·rw[←e,AV hl];rfl
  rw[vT hl.1 I.1 e]
 obtain⟨pre,post,lo,hi,e,h1,h2,h3,h4⟩:=AU v.fF v.ok (tF k);have hlv:(cG t h t.root).Nodup→aH t k h t.root∉pre∧aH t k h t.root∉post:=fun hn=>by
  rw[e,nodup_append,nodup_cons] at hn;exact⟨fun hm=>hn.2.2 _ hm _ (mem_cons_self) rfl,hn.2.1.1⟩
 have eX:∀y∈pre,fb ((gK t h k).pg y)=fb (t.pg y)∨y=aH t k h t.root:=fun y hy=>by
  by_cases e':aH t k h t.root=y
  ·exact .inr e'.symm
  left;have I:=v.ok.ids y (rU h _ h (Nat.le_refl _) y (by rw[e];exact mem_append_left _ hy));unfold gK;rw[vT hl.1 I.1 e']
 have rB:∀y∈post,fb ((gK t h k).pg y)=fb (t.pg y)∨y=aH t k h t.root:=fun y hy=>by
  by_cases e':aH t k h t.root=y
  ·exact .inr e'.symm
  left;have I:=v.ok.ids y (rU h _ h (Nat.le_refl _) y (by rw[e];exact mem_append_right _ (mem_cons_of_mem _ hy)));unfold gK;rw[vT hl.1 I.1 e']
 have Z:(k,(t.pg (aH t k h t.root)).kids.getD (aO (t.pg (aH t k h t.root)) k) 0)∈fb (t.pg (aH t k h t.root)):=(AK hlen).2 ⟨_,ha,by rw[hk,getD_eq_getElem?_getD,getElem?_eq_getElem w4];rfl⟩;have ai7:aH t k h t.root∉pre:=fun hm=>absurd (h1 _ hm _ Z) (kp k);have agM:aH t k h t.root∉post:=fun hm=>absurd (h2 _ hm _ Z) (kp k);have ed:fb ((gK t h k).pg (aH t k h t.root))=(fb (t.pg (aH t k h t.root))).eraseIdx (aO (t.pg (aH t k h t.root)) k):=by
  unfold gK;rw[AV hl];exact Pf
 have fe:∀{A:List Int},(∀y∈A,fb ((gK t h k).pg y)=fb (t.pg y)∨y=aH t k h t.root)→aH t k h t.root∉A→A.flatMap (fun l=>fb ((gK t h k).pg l))=A.flatMap (fun l=>fb (t.pg l)):=fun {A} hA hn=>qN fun y hy=>(hA y hy).resolve_right fun e'=>hn (e' ▸ hy);have O:∀x:K×Int,x∈(fb (t.pg (aH t k h t.root))).eraseIdx (aO (t.pg (aH t k h t.root)) k)↔x∈fb (t.pg (aH t k h t.root))∧x.1≠k:=fun x=>by
  rw[mem_eraseIdx_iff_getElem];constructor
  ·rintro⟨a,XG,hne,rfl⟩;refine⟨getElem_mem _,fun hc=>hne ?_⟩;have U:a<(t.pg (aH t k h t.root)).keys.length:=(by unfold fb at XG;rw[length_zip] at XG;omega)
   rw[EC hlen U] at hc;have hc:(t.pg (aH t k h t.root)).keys[a]=k:=hc;rcases Nat.lt_trichotomy a (aO (t.pg (aH t k h t.root)) k) with h5|h5|h5
   ·have:=mW po.jS h5 ha;rw[hc,hk] at this;exact absurd this (kp k)
   ·exact h5
   have:=mW po.jS h5 U;rw[hc,hk] at this;exact absurd this (kp k)
  rintro⟨hx,hne⟩;obtain⟨a,U,rfl⟩:=(AK hlen).1 hx;refine⟨a,by unfold fb;rw[length_zip];omega,fun e'=>hne ?_,EC hlen U⟩;subst e';exact hk
 show x∈ev (gK t h k) h t.root↔x∈ev t h t.root∧_;rw[wc,wc];have ai8:cG (gK t h k) h t.root=cG t h t.root:=s3 h (Nat.le_refl _);rw[ai8,e,flatMap_append,flatMap_cons,flatMap_append,flatMap_cons,fe eX ai7,fe rB agM,ed];simp only[mem_append,O];constructor
 ·rintro(hx|hx|hx)
  ·refine⟨.inl hx,fun hc=>?_⟩;obtain⟨l,lV,hx⟩:=mem_flatMap.1 hx;have:=h1 l lV x hx;rw[hc] at this;exact kp k this
  ·exact⟨.inr (.inl hx.1),hx.2⟩
  refine⟨.inr (.inr hx),fun hc=>?_⟩;obtain⟨l,lV,hx⟩:=mem_flatMap.1 hx;have:=h2 l lV x hx;rw[hc] at this;exact kp k this
 rintro⟨hx|hx|hx,hne⟩
 ·exact .inl hx
 ·exact .inr (.inl ⟨hx,hne⟩)
 exact .inr (.inr hx)

end Go.Proofs.YtdgichenhdikgaaGreatDoor.Tr
namespace Go.Proofs.YtdgichenhdikgaaGreatDoor.Tr
open List
open Go.Proofs.Tryz
open Go.Lib (compareBytes)
def sF(lv:List (List Int))(n:Nat):List (List Int):=lv++replicate (n-lv.length) []
def kH(lv:List (List Int))(level:Nat)(i:Int):List (List Int):=(sF lv (level+1)).set level ((sF lv (level+1)).getD level []++[i])
abbrev jA:=List Int×List (List Int)
def lJ(go:Int→K→K→jA→Option (Nat×jA))(low:K)(p:cX):List Int→Nat→Option Nat→jA→Option (Nat×jA)
 | [],_,deep,s=>deep.map fun d=>(d,s)
 | c::cs,k,deep,s=>match go c (iw low p k) (gY p k) s with
  | none=>none
  | some (d,s')=>if deep=none∨deep=some d then lJ go low p cs (k+1) (some d) s' else none
def jr(t:aF):Nat→Int→K→K→Nat→jA→Option (Nat×jA)
 | 0,_,_,_,_,_=>none
 | f+1,i,low,high,level,s =>
  if i∈s.1 then none
  else if (t.pg i).high≠high∨(∃k,(t.pg i).keys.head?=some k∧bN k low) then none
  else if (t.pg i).leaf=true then some (level,(s.1++[i],kH s.2 level i))
  else lJ (fun c lo hi s=>jr t f c lo hi (level+1) s) low (t.pg i) (t.pg i).kids 0 none (s.1++[i],kH s.2 level i)
def uP(t:aF):Prop:=∀p∈t.ag,eL p t.ag.length
open Classical in
noncomputable def gE(t:aF):Int :=
 if t.ag.length<1∨t.ag.length>4000∨t.root<0∨t.root≥t.ag.length then 11
 else if ¬uP t then 11
 else match jr t (t.ag.length+1) t.root [] [] 0 ([],[]) with
  | none=>11
  | some (_,s)=>if s.1.length≠t.ag.length then 11 else if ∀l∈s.2,fh t l (-1) then 0 else 11
theorem QM(lv:List (List Int))(n:Nat):(sF lv n).length=max lv.length n:=by unfold sF;rw[length_append,length_replicate];omega
theorem Jl(lv:List (List Int))(n m:Nat):(sF lv n).getD m []=lv.getD m []:=by
 unfold sF;rw[getD_eq_getElem?_getD,getD_eq_getElem?_getD];rcases Nat.lt_or_ge m lv.length with h|h
 ·rw[getElem?_append_left h]
 rw[getElem?_append_right h,getElem?_eq_none h,getElem?_replicate];split<;>rfl
theorem IE(lv:List (List Int))(level:Nat)(i:Int):(kH lv level i).length=max lv.length (level+1):=by unfold kH;rw[length_set,QM]
theorem EZ(lv:List (List Int))(level:Nat)(i:Int)(m:Nat):(kH lv level i).getD m []=lv.getD m []++(if m=level then [i] else []):=by
 unfold kH;rw[getD_eq_getElem?_getD];by_cases e:m=level
 ·subst e;rw[getElem?_set_self (by rw[QM];omega),Jl,if_pos rfl];rfl
 rw[getElem?_set_ne (fun h=>e h.symm),if_neg e,append_nil,←getD_eq_getElem?_getD,Jl]
def wK(t:aF)(h level:Nat)(i:Int)(m:Nat):List Int:=if level≤m∧m≤level+h then cG t (m-level) i else []
variable {t:aF}
theorem QN {h level:Nat} {low:K} {p:cX} (go:Int→K→K→jA→Option (Nat×jA))
  (O:∀(c:Int) (lo hi:K) (s:jA),dX t h c lo hi→(∀x∈ids t h c,x∉s.1)→(ids t h c).Nodup→∃lv,go c lo hi s=some (level+1+h,(s.1++ids t h c,lv))∧lv.length=max s.2.length (level+1+h+1)∧∀m,lv.getD m []=s.2.getD m []++wK t h (level+1) c m) :
  ∀(cs:List Int) (k:Nat) (deep:Option Nat) (s:jA),(∀j (hj:j<cs.length),dX t h cs[j] (iw low p (k+j)) (gY p (k+j)))→(cs.flatMap (ids t h)).Nodup→(∀x∈cs.flatMap (ids t h),x∉s.1)→(deep=none∨deep=some (level+1+h))→(cs≠[]∨deep≠none) →
   ∃lv,lJ go low p cs k deep s=some (level+1+h,(s.1++cs.flatMap (ids t h),lv))∧lv.length=(if cs=[] then s.2.length else max s.2.length (level+1+h+1))∧∀m,lv.getD m []=s.2.getD m []++(if level+1≤m∧m≤level+1+h then cs.flatMap (cG t (m-(level+1))) else [])
 | [],k,deep,s,_,_,_,hd,hne=>by
  rcases hd with rfl|rfl
  ·rcases hne with h|h<;>exact absurd rfl h
  exact⟨s.2,by simp[lJ],by simp,fun m=>by split<;>simp⟩
 | c::cs,k,deep,s,aT,hnd,E,hd,_=>by
  rw[flatMap_cons] at hnd E;rw[nodup_append] at hnd;obtain⟨n1,n2,n3⟩:=hnd;obtain⟨I,e1,l1,m1⟩:=O c (iw low p k) (gY p k) s (aT 0 bu) (fun x hx=>E x (mem_append_left _ hx)) n1;obtain⟨U,e2,l2,m2⟩:=QN go O cs (k+1) (some (level+1+h)) (s.1++ids t h c,I) (fun j hj=>by
   have:=aT (j+1) (by simpa using hj);simp only[getElem_cons_succ] at this;rw[show k+1+j=k+(j+1) by omega];exact this) n2 (fun x hx hm=>by
    rcases mem_append.1 hm with hm|hm
    ·exact E x (mem_append_right _ hx) hm
    exact n3 x hm x hx rfl) (.inr rfl) (.inr bu)
  refine⟨U,?_,?_,fun m=>?_⟩
  ·rw[lJ,e1];show(if deep=none∨deep=some (level+1+h) then _ else _)=_;rw[if_pos hd,e2,flatMap_cons,append_assoc]
  ·rw[l2];show(if cs=[] then I.length else max I.length _)=_;rw[l1,if_neg (cons_ne_nil c cs)];split<;>omega
  rw[m2,m1];unfold wK;split
  ·rw[flatMap_cons,append_assoc]
  simp
theorem TQ(hp:∀p∈t.ag,eL p t.ag.length):∀{h f:Nat} {i:Int} {low high:K} {level:Nat} {s:jA},h<f→dX t h i low high→(∀x∈ids t h i,x∉s.1)→(ids t h i).Nodup →
  ∃lv,jr t f i low high level s=some (level+h,(s.1++ids t h i,lv))∧lv.length=max s.2.length (level+h+1)∧∀m,lv.getD m []=s.2.getD m []++wK t h level i m
 | h,0,_,_,_,_,_,hf,_,_,_=>by omega
 | 0,f+1,i,low,high,level,s,hf,ok,E,hnd=>by
  obtain⟨q1,q2,O,U⟩:=ok;refine⟨kH s.2 level i,?_,IE _ _ _,fun m=>?_⟩
  ·rw[jr,if_neg (E i (s5 0 i)),if_neg,if_pos q2];rfl;rintro(h|⟨k,hk,aa⟩)
   ·exact h O
   exact U k (mem_of_mem_head? hk) aa
  rw[EZ];unfold wK;congr 1;by_cases e:m=level
  ·subst e;rw[if_pos rfl,if_pos ⟨Nat.le_refl _,Nat.le_refl _⟩,Nat.sub_self];rfl
  rw[if_neg e,if_neg w4]
 | h+1,f+1,i,low,high,level,s,hf,ok,E,hnd=>by
  obtain⟨q1,q2,O,U,Z⟩:=ok;have po:=hp _ (jB q1);have I:(t.pg i).kids≠[]:=fun e=>by have:=(po.node q2).1;rw[e] at this;simp at this
  rw[ids,nodup_cons] at hnd;rw[ids] at E;obtain⟨lv,e,l,mm⟩:=QN (t:=t) (h:=h) (level:=level) (low:=low) (p:=t.pg i) (fun c lo hi s=>jr t f c lo hi (level+1) s)
   (fun c lo hi s ok hd hn=>TQ hp (h:=h) (f:=f) (level:=level+1) w4 ok hd hn) (t.pg i).kids 0 none (s.1++[i],kH s.2 level i) (fun j hj=>by rw[Nat.zero_add];exact Z j hj) hnd.2 (fun x hx hm=>by
    rcases mem_append.1 hm with hm|hm
    ·exact E x (mem_cons_of_mem _ hx) hm
    rw[mem_singleton] at hm;subst hm;exact hnd.1 hx) (.inl rfl) (.inl I)
  refine⟨lv,?_,?_,fun m=>?_⟩
  ·rw[jr,if_neg (E i mem_cons_self),if_neg,if_neg (by rw[q2];decide),e,ids]
   ·simp;omega
   rintro(h|⟨k,hk,aa⟩)
   ·exact h O
   exact U k (mem_of_mem_head? hk) aa
  ·rw[l,if_neg I];show max (kH s.2 level i).length _=_;rw[IE];omega
  rw[mm];show(kH s.2 level i).getD m []++_=_;rw[EZ];unfold wK;rw[append_assoc];congr 1;by_cases e1:m=level
  ·subst e1;rw[if_pos rfl,if_neg w4,if_pos ⟨Nat.le_refl _,by omega⟩,Nat.sub_self];rfl
  rw[if_neg e1,nil_append];by_cases e2:level+1≤m∧m≤level+1+h
  ·rw[if_pos e2,if_pos w4];obtain⟨d,rfl⟩:∃d,m=level+1+d:=⟨m-(level+1),by omega⟩
   rw[show level+1+d-(level+1)=d by omega,show level+1+d-level=d+1 by omega,cG]
  rw[if_neg e2,if_neg w4]
open Classical in
theorem IF{h:Nat}(v:Valid t h):gE t=0:=by
 have hr:=v.range;have E:=v.pos;have hm:=v.nJ;unfold gE;rw[if_neg w4,if_neg (by exact fun hn=>hn v.fF)];obtain⟨lv,e,l,I⟩:=TQ v.fF (f:=t.ag.length+1) (level:=0) (s:=([],[])) (by have:=v.high;omega) v.ok (fun x _ hx=>by cases hx) v.zx;rw[e];show(if ([]++ids t h t.root).length≠t.ag.length then _ else if ∀l∈lv,fh t l (-1) then (0:Int) else 11)=0;rw[if_neg (by rw[nil_append,v.all];simp),if_pos];intro x hx;obtain⟨m,sZ,rfl⟩:=mem_iff_getElem.1 hx;have:=I m;rw[getD_eq_getElem?_getD,getElem?_eq_getElem sZ] at this;have e2:lv[m]=wK t h 0 t.root m:=(by simpa using this)
 rw[e2];unfold wK;rw[l] at sZ;rw[if_pos (by simp at sZ;omega),Nat.sub_zero];exact v.oZ m (by simp at sZ;omega)

end Go.Proofs.YtdgichenhdikgaaGreatDoor.Tr
namespace Go.Proofs.YtdgichenhdikgaaGreatDoor.Tw
open List
open Go.Proofs.Tryz
open Go.RowKit V Tr Pk
open Go.Lib (compareBytes)
variable {l hi k:K} {p:cX} {many:Int} {i:Nat}
def cK(k:K):List D:=[av 1 cB k]
theorem gm(k:K):(cK k).length=1:=rfl
theorem pA(k:K):(cK k).all V.one=true:=rfl
def cI(n:Int):List D:=[ae n]
theorem eI(n:Int):(cI n).length=1:=rfl
theorem nD(n:Int):(cI n).all V.one=true:=rfl
def cP(p:cX):List D:=[cg p.leaf,av 1 cK p.keys,av 1 cI p.kids,av 1 cB p.high,ae p.next]
theorem Fh(p:cX):(cP p).length=5:=rfl
theorem afq(p:cX):(cP p).all V.one=true:=rfl
def cT(t:aF):List D:=[av 5 cP t.ag,ae t.root]
def oo(k:K):Bool:=decide (0<k.length∧k.length≤100)
def uZ(p:cX)(i:Nat):Prop:=∀(h:i<p.keys.length),oo p.keys[i]=true∧(∀(h0:0<i),bN (p.keys[i-1]'w4) p.keys[i])∧(p.high≠[]→bN p.keys[i] p.high)
theorem ab1{l:List K}(h:∀i (hi:i<l.length) (h0:0<i),bN (l[i-1]'w4) l[i]):l.Pairwise bN:=by
 refine pairwise_iff_getElem.2 fun i j hi hj E=>?_;obtain⟨d,rfl⟩:∃d,j=i+1+d:=⟨j-(i+1),by omega⟩
 induction d with
 | zero=>have:=h (i+1) hj w4;simpa using this
 | succ d ih =>
  have h1:=ih w4 w4;have h2:=h (i+1+(d+1)) hj w4;exact mB h1 (by simpa using h2)
theorem Rr{n:Int}(h:eL p n)(i:Nat):uZ p i:=fun hi=>by
 have hm:=getElem_mem hi;have:=h.lq _ hm;exact⟨by unfold oo;simp;omega,fun h0=>mW h.jS w4 hi,fun hne=>h.qm hne _ hm⟩
theorem JC(h:decide ((l.length:Int)>0)=true):l≠[]:=fun e=>by rw[e] at h;cases h
theorem len_nil(h:decide ((l.length:Int)>0)=false):l=[]:=by
 have:=of_decide_eq_false h;exact length_eq_zero_iff.1 w4
theorem Uq(h:decide ((hi.length:Int)>0)=true):decide (compareBytes k hi≥0)=decide (hi≠[]∧¬bN k hi):=by
 have:=JC h;unfold bN;simp[this]
theorem Ur(h:decide ((hi.length:Int)>0)=false):false=decide (hi≠[]∧¬bN k hi):=by simp[len_nil h]
variable {G:List (Nat×List Value)}
theorem wo(a b:K):VP Tryz.prog G 51 [av 1 cB a,av 1 cB b] (ae (compareBytes a b)):=by
 exact U4
theorem Us(a b:K)(ha:a.length≤maxLen)(hb:b.length≤maxLen):VP Tryz.prog G 133 [av 1 cB a,av 1 cB b] (cg (decide (a=b))):=by
 refine VC.body func133 rfl ntmps133 aS fun X0 w0 aZ=>?_;refine af [0,1] ?_;refine cQ [4] ?_;refine aU 1 ?_ (h:=by exact CN);refine aU 1 ?_ (h:=by exact CN);refine bG ?_;refine aJ [] ?_;refine⟨vb ?_,rfl⟩;rw[ByteArray.toList_eq,ByteArray.toList_eq];show(a==b)=decide (a=b);by_cases h:a=b<;>simp[h]
theorem yQ(k:K):VP Tryz.prog G 132 [av 1 cB k] (cg (oo k)):=by
 refine VC.body func132 rfl ntmps132 aS fun X0 w0 aZ=>?_;refine af [0] ?_;refine aD 4 ?_;refine bX 6 (fun I E=>?_) (fun I E=>?_)
 ·refine bg [2] ?_;refine eR ?_;refine⟨vb ?_,rfl⟩;unfold oo;first|(simp_all;done)|(simp_all;omega)
 refine bg [2] ?_;refine eR ?_;refine⟨vb ?_,rfl⟩;unfold oo;first|(simp_all;done)|(simp_all;omega)
theorem aar(p:cX)(k:K):VP Tryz.prog G 144 [.agg (cP p),av 1 cB k] (cg (decide (p.high≠[]∧¬bN k p.high))):=by
 refine VC.body func144 rfl ntmps144 aS fun X0 w0 aZ=>?_;unfold cP;refine bY ?_;refine OD.box (ds:=[_,_,_,_,_]) ap rfl rfl ot rfl rfl (fun b2=>?_);refine an 16 [1,2] ?_;refine aD 5 ?_;refine bX 9 (fun E I=>?_) (fun E I=>?_)
 ·refine aE 3 ?_;refine OD.gZ iu rfl rfl rfl call51 (wo k p.high) ⟨ot,ot,trivial⟩ ?_;refine an 16 [4] ?_;refine aJ [] ?_;refine⟨vb ?_,rfl⟩;first|exact Uq E|exact Ur E
 refine bg [4] ?_;refine eR ?_;refine⟨vb ?_,rfl⟩;first|exact Uq E|exact Ur E
theorem Ut{a:Int}(h:(decide (a<0)!=((l.length:Int)==0))=false):a<0↔l=[]:=by
 have h:decide (a<0)=((l.length:Int)==0):=(by simpa using h)
 rw[←length_eq_zero_iff];constructor
 ·intro q;rw[decide_eq_true q] at h;have:=beq_iff_eq.1 h.symm;omega
 intro q;rw[q] at h;exact of_decide_eq_true h
theorem af4{a:Int}(h:a<0↔l=[]):(!(decide (a<0)==((l.length:Int)==0)))=false:=by
 rw[←length_eq_zero_iff] at h;by_cases q:a<0
 ·rw[decide_eq_true q,h.1 q];rfl
 rw[decide_eq_false q];have:¬l.length=0:=fun e=>q (h.2 e);simp;exact fun e=>this (by rw[e];rfl)
open Classical in
noncomputable def Bt(p:cX)(many:Int):Bool:=decide (eL p many)
open Classical in
theorem Eo(h:¬eL p many):false=Bt p many:=(decide_eq_false h).symm
open Classical in
theorem aas(h:eL p many):true=Bt p many:=(decide_eq_true h).symm
theorem acU{n:Int}(h:eL p n)(hi:i<p.kids.length):0≤p.kids[i]∧(p.leaf=false→p.kids[i]<n):=⟨h.aC _ (getElem_mem hi),fun hl=>h.vk hl _ (getElem_mem hi)⟩
theorem ab2(f1:p.keys.length≤4)(f2:p.high.length≤100)(f3:-1≤p.next)(f4:p.next<many)(f5:(p.next<0↔p.high=[]))(I:(p.leaf=true→p.kids.length=p.keys.length))(E:(p.leaf=false→p.kids.length=p.keys.length+1∧p.keys.length≠0))(hk:∀j,j<p.keys.length→uZ p j)(hc:∀j (hj:j<p.kids.length),0≤p.kids[j]∧(p.leaf=false→p.kids[j]<many)):eL p many:=by
 refine⟨f1,f2,f3,f4,f5,I,fun h=>⟨(E h).1,fun e=>(E h).2 (by rw[e];rfl)⟩,fun k h=>?_,fun hne k h=>?_,ab1 fun i hi h0=>(hk i hi hi).2.1 h0,fun n h=>?_,fun hl n h=>?_⟩
 ·obtain⟨i,hi,rfl⟩:=mem_iff_getElem.1 h;have:=(hk i hi hi).1;unfold oo at this;have:=of_decide_eq_true this;omega
 ·obtain⟨i,hi,rfl⟩:=mem_iff_getElem.1 h;exact(hk i hi hi).2.2 hne
 ·obtain⟨i,hi,rfl⟩:=mem_iff_getElem.1 h;exact(hc i hi).1
 obtain⟨i,hi,rfl⟩:=mem_iff_getElem.1 h;exact(hc i hi).2 hl
theorem adN(p:cX)(many:Int)(dY:p.keys.length≤maxLen)(fB:p.kids.length≤maxLen):VP Tryz.prog G 91 [.agg (cP p),ae many] (cg (Bt p many)):=by
 refine VC.body func91 rfl ntmps91 aS fun X0 w0 aZ=>?_;unfold cP;have da:=dW;refine bY ?_;refine OD.box (ds:=[_,_,_,_,_]) ap rfl rfl ot rfl rfl (fun b2=>?_);refine an 132 [1,2] ?_;refine aD 5 ?_;refine bX 13 (fun ai9 Z=>?_) (fun ai9 Z=>?_)
 ·exact FW
 refine aE 6 ?_;refine bX 19 (fun K5 agN=>?_) (fun K5 agN=>?_)
 ·exact FW
 refine aE 5 ?_;refine bX 24 (fun aja agO=>?_) (fun aja agO=>?_)
 ·exact FW
 refine aE 6 ?_;refine bX 30 (fun ajb agP=>?_) (fun ajb agP=>?_)
 ·exact FW
 refine aE 7 ?_;refine OD.still iu rfl (c8 rfl ot ot (P6 underlying4)) ?_;refine an 132 [1,2,39] ?_;refine au ?_ ?_<;>intro aN bC
 ·refine af [4] ?_;refine aJ [] ?_;exact Gx
 refine CD.skip ?_;refine jV [1,2] (fun aW I aI=>(p.keys.length≤4)∧(p.high.length≤100)∧(-1≤p.next)∧(p.next<many)∧((p.next<0↔p.high=[]))∧((p.leaf=true→p.kids.length=p.keys.length))∧((p.leaf=false→p.kids.length=p.keys.length+1∧p.keys.length≠0))∧aI=(⟨132,aW,I⟩:St)) ?_ ?_
 ·refine aD 3 ?_;refine bX 42 (fun qY agR=>?_) (fun qY agR=>?_)
  ·refine aE 9 ?_;refine bX 51 (fun ajc agS=>?_) (fun ajc agS=>?_)
   ·exact U8
   refine aE 4 ?_;refine bX 55 (fun tO E=>?_) (fun tO E=>?_)
   ·exact absurd tO (by rw[qY];decide)
   refine bg [1,2,71] ?_;refine fT ?_;refine CD.skip ?_;refine⟨_,aQ,w4,w4,w4,w4,(Ut aN),(fun _=>by omega),(fun h=>absurd qY (by rw[h];decide)),rfl⟩
  refine xI 7 ?_;refine aE 6 ?_;refine bX 55 (fun tO E=>?_) (fun tO E=>?_)
  ·refine aE 9 ?_;refine bX 64 (fun Lf Ki=>?_) (fun Lf Ki=>?_)
   ·exact U8
   refine bg [1,2,71] ?_;refine au ?_ ?_<;>intro aY cz
   ·refine af [4] ?_;refine eR ?_;exact Gx
   refine CD.skip ?_;refine⟨_,aQ,w4,w4,w4,w4,(Ut aN),(fun h=>absurd qY (by rw[h];decide)),(fun _=>⟨by omega,by omega⟩),rfl⟩
  exact absurd tO (by rw[qY];decide)
 rintro _ ⟨f1,f2,f3,f4,f5,f6,f7,rfl⟩;refine af [1,2,73,74,75] ?_;refine eK [1,2,73,74] (fun aW I (i:Nat) aI=>(i≤p.keys.length)∧(∀j,j<i→uZ p j)∧aI=(⟨132,(75,ae (i:Nat))::aW,I⟩:St)) (fun (i:Nat)=>p.keys.length-i) 0 ⟨(Nat.zero_le _),(fun j h=>by omega),rfl⟩ ?_;rintro i _ ⟨hi,xC,rfl⟩;refine af [1,2,73,74,75,76] ?_;refine au ?_ ?_<;>intro bZ cM
 ·have aa:i<p.keys.length:=(by omega)
  refine af [1,2,5,6,73,74,75] ?_;refine aD 1 ?_;refine dS call132 (yQ p.keys[i]) ?_;refine aE 2 ?_;refine bX 83 (fun wS agT=>?_) (fun wS agT=>?_)
  ·refine an 132 [1,2,73,74,75,110] ?_;refine eM ?_;exact Wf
  refine aE 3 ?_;refine bX 86 (fun ajd agU=>?_) (fun ajd agU=>?_)
  ·refine aE 4 ?_;refine bH (dm 1 (h:=by first|exact .l (j:=i-1) w4 w4|exact .r (j:=i-1) w4 w4)) ?_;refine aE 2 ?_;refine OD.gZ iu rfl rfl rfl call51 (wo (p.keys[i-1]'w4) p.keys[i]) ⟨ot,ot,trivial⟩ ?_;refine aE 4 ?_;refine bX 98 (fun zf FD=>?_) (fun zf FD=>?_)
   ·refine an 132 [1,2,73,74,75,110] ?_;refine eM ?_;exact Wf
   refine aE 5 ?_;exact V7
  refine xI 9 ?_;refine aE 8 ?_;exact V7
 have agV:∀j,j<p.keys.length→uZ p j:=fun j hj=>xC j w4;refine af [1,2,113,114,115] ?_;refine eK [1,2,113,114] (fun aW I (i:Nat) aI=>(i≤p.kids.length)∧(∀j (_:j<i) (hj:j<p.kids.length),0≤p.kids[j]∧(p.leaf=false→p.kids[j]<many))∧aI=(⟨132,(115,ae (i:Nat))::aW,I⟩:St)) (fun (i:Nat)=>p.kids.length-i) 0 ⟨(Nat.zero_le _),(fun j h=>by omega),rfl⟩ ?_;rintro i _ ⟨j8,j4,rfl⟩;refine af [1,2,113,114,115,116] ?_;refine au ?_ ?_<;>intro eA fA
 ·have aa:i<p.kids.length:=(by omega)
  refine af [1,2,8,113,114,115] ?_;refine aD 3 ?_;refine bX 121 (fun J5 O=>?_) (fun J5 O=>?_)
  ·refine bg [1,2,113,114,115,130] ?_;refine eM ?_;exact Wv
  refine aE 4 ?_;refine bX 125 (fun Fm U=>?_) (fun Fm U=>?_)
  ·refine bg [1,2,113,114,115,130] ?_;refine au ?_ ?_<;>intro fx gG
   ·exact Wv
   exact Wr
  refine bg [1,2,113,114,115,130] ?_;refine fT ?_;exact Wr
 refine af [4] ?_;refine aJ [] ?_;refine⟨vb (aas (ab2 f1 f2 f3 f4 f5 f6 f7 agV fun j hj=>j4 j w4 hj)),rfl⟩

def mZ(keys:List K)(k:K):Bool:=decide (keys[gB keys k]?=some k)
theorem ab3{keys:List K}(hi:i≤keys.length)(h1:∀m (hm:m<keys.length),m<i→bN keys[m] k)(h2:∀m (hm:m<keys.length),i≤m→¬bN keys[m] k):gB keys k=i:=by
 have E:=yx keys k;rcases Nat.lt_trichotomy (gB keys k) i with h|h|h
 ·have aa:gB keys k<keys.length:=(by omega)
  exact absurd (h1 _ aa h) (AJ aa)
 ·exact h
 obtain⟨h',q⟩:=AS h;exact absurd q (h2 _ h' (Nat.le_refl _))
theorem aat{keys:List K}(hr:keys.Pairwise bN)(k:K):mF keys k=if mZ keys k=true then gB keys k+1 else gB keys k:=by
 have E:=yx keys k;split
 ·rename_i hf;unfold mZ at hf;have hf:=of_decide_eq_true hf;obtain⟨aa,he⟩:=List.getElem?_eq_some_iff.1 hf;refine Jj hr w4 (fun _=>?_) (fun h=>?_)
  ·show ¬bN k (keys[gB keys k+1-1]'w4);simp only[Nat.add_sub_cancel,he];exact kp k
  have:=mW hr (Nat.lt_succ_self (gB keys k)) h;rw[he] at this;exact this
 rename_i hf;refine Jj hr E (fun h0=>?_) (fun h=>?_)
 ·exact yN (AS (by omega:gB keys k-1<gB keys k)).2
 have h1:=AJ h;rcases yO keys[gB keys k] k with h2|h2|h2
 ·exact absurd h2 h1
 ·exfalso;apply hf;unfold mZ;rw[getElem?_eq_getElem h,h2];simp
 exact h2
theorem Bu{a:Nat}:((a:Nat):Int).fdiv (2 ^ min (1:Int).toNat IntKind.u64.bits)=((a/2:Nat):Int):=by
 rw[show min (1:Int).toNat IntKind.u64.bits=1 from rfl,Int.fdiv_eq_ediv_of_nonneg _ w7];rfl
theorem TR{keys:List K}(hd:gB keys k=i)(hi:i<keys.length):(D.dF [ae (i:Nat),cg (compareBytes keys[i] k==0)]) = .dF [ae (gB keys k:Nat),cg (mZ keys k)]∧([]:List ah)=[]:=by
 subst hd;refine⟨?_,rfl⟩;have:(compareBytes keys[gB keys k] k==0)=mZ keys k:=by
  unfold mZ;rw[getElem?_eq_getElem hi];by_cases h:keys[gB keys k]=k
  ·have:=Kj.2 h;rw[this];simp[h]
  have:¬compareBytes keys[gB keys k] k=0:=fun e=>h (Kj.1 e);simp[h,this]
 rw[this]
theorem SA{keys:List K}(hd:gB keys k=i)(hi:keys.length≤i):(D.dF [ae (i:Nat),cg false]) = .dF [ae (gB keys k:Nat),cg (mZ keys k)]∧([]:List ah)=[]:=by
 subst hd;refine⟨?_,rfl⟩;have:mZ keys k=false:=(by unfold mZ;rw[getElem?_eq_none hi];rfl)
 rw[this]
theorem aau(keys:List K)(k:K)(hr:keys.Pairwise bN)(hl:keys.length≤1000):VP Tryz.prog G 145 [av 1 cK keys,av 1 cB k,.eB (.func 51) []] (.dF [ae (gB keys k:Nat),cg (mZ keys k)]):=by
 refine VC.body func145 rfl ntmps145 aS fun X0 w0 aZ=>?_;have da:=dW;refine af [0,1,2] ?_;refine af [0,1,2,8] ?_;refine af [0,1,2,8,9,10] ?_;refine eK [0,1,2,8] (fun aW _ (I:Nat×Nat) aI=>match I with|(i,j)=>(i≤j)∧(j≤keys.length)∧(∀m (hm:m<keys.length),m<i→bN keys[m] k)∧(∀m (hm:m<keys.length),j≤m→¬bN keys[m] k)∧aI=(⟨49,(9,ae (i:Nat))::(10,ae (j:Nat))::aW,[]⟩:St)) (fun (I:Nat×Nat)=>match I with|(i,j)=>j-i) (0,keys.length) ⟨(Nat.zero_le _),(Nat.le_refl _),(fun m hm h=>by omega),(fun m hm h=>by omega),rfl⟩ ?_;rintro⟨i,j⟩ _ ⟨XH,hjn,h1,h2,rfl⟩;refine af [0,1,2,8,9,10,17] ?_;refine au ?_ ?_<;>intro aN bC
 ·have aa:i<j:=(by omega)
  have E:((i+j)/2)<keys.length:=(by omega)
  refine cQ [0,1,2,8,9,10,11] ?_;refine aU 2 ?_ (h:=by exact(c8 rfl ot ot (ko (r:=((i+j:Nat):Int)) zP)));refine aU 0 ?_ (h:=by exact(oF rfl ot (oG (r:=((i+j:Nat):Int)) runUnderlying3 runUnderlying231 (IntWalk.u64_in _ w4))));refine aU 0 ?_ (h:=by exact(c8 rfl ot bL (yG w7 Bu)));refine aU 0 ?_ (h:=by exact(oF rfl ot (oG (r:=((((i+j)/2):Nat):Int)) runUnderlying231 runUnderlying3 (wrap_i64 w4 w4))));refine bG ?_;refine aD 6 ?_;refine OD.kr (f:=51) (args:=[_,_]) (all:=[_,_]) (Sf:=[]) ap rfl rfl ot call51 (wo (keys[((i+j)/2)]'E) k) rfl ⟨ot,ot,trivial⟩ (eT _) ?_;rintro _ _ ⟨rfl,rfl⟩;refine an 49 [0,1,2,8,9,10,11,31] ?_;refine au ?_ ?_<;>intro aY cz
  ·have hc:bN (keys[((i+j)/2)]'E) k:=of_decide_eq_true aY;have Z:∀m (hm:m<keys.length),m<((i+j)/2)+1→bN keys[m] k:=fun m hm h=>by (rcases Nat.lt_or_ge m ((i+j)/2) with q|q);exact mB (mW hr q E) hc;(have:m=((i+j)/2):=by omega);subst this;exact hc
   refine cm [0,1,2,8,9,10] ?_;refine⟨((((i+j)/2)+1),j),_,cD,aQ,w4,w4,(fun m hm h=>by rcases Nat.lt_or_ge m i with q|q;exact h1 m hm q;exact Z m hm w4),h2,rfl⟩
  have hc:¬bN (keys[((i+j)/2)]'E) k:=of_decide_eq_false aY;have O:∀m (hm:m<keys.length),((i+j)/2)≤m→¬bN keys[m] k:=fun m hm h hh=>by (rcases Nat.lt_or_ge ((i+j)/2) m with q|q);exact hc (mB (mW hr q hm) hh);(have:m=((i+j)/2):=by omega);subst this;exact hc hh
  refine cm [0,1,2,8,9,10] ?_;refine⟨(i,((i+j)/2)),_,cD,aQ,w4,w4,h1,O,rfl⟩
 obtain rfl:i=j:=(by omega)
 have hd:=ab3 hjn h1 h2;refine aD 5 ?_;refine bX 39 (fun aje U=>?_) (fun aje U=>?_)
 ·refine aE 6 ?_;refine OD.kr (f:=51) (args:=[_,_]) (all:=[_,_]) (Sf:=[]) iu rfl rfl ot call51 (wo (keys[i]'w4) k) rfl ⟨ot,ot,trivial⟩ (eT _) ?_;rintro _ _ ⟨rfl,rfl⟩;refine an 49 [6,7] ?_;refine aJ [] ?_;first|exact TR hd w4|exact SA hd w4
 refine bg [6,7] ?_;refine Mp ?_;first|exact TR hd w4|exact SA hd w4
theorem IG(p:cX)(k:K)(hr:p.keys.Pairwise bN)(hl:p.keys.length≤1000):VP Tryz.prog G 123 [.agg (cP p),av 1 cB k] (ae (aO p k:Nat)):=by
 refine VC.body func123 rfl ntmps123 aS fun X0 w0 aZ=>?_;unfold cP;have da:=dW;have I:=yx p.keys k;have WJ:=aat hr k;refine bY ?_;refine OD.box (ds:=[_,_,_,_,_]) ap rfl rfl ot rfl rfl (fun b2=>?_);refine an 23 [1,2] ?_;refine cH [2,5,6] (aau p.keys k hr hl) ?_;refine aD 2 ?_;refine bX 15 (fun BL E=>?_) (fun BL E=>?_)
 ·refine bg [5,19] ?_;refine au ?_ ?_<;>intro aN bC
  ·refine cm [5] ?_;exact WI
  exact WI
 refine bg [5,19] ?_;refine fT ?_;refine af [4] ?_;refine eR ?_;refine⟨vi ?_,rfl⟩;unfold aO;first|(rw[BL] at WJ;cases fN:p.leaf<;>simp_all;done)|(simp_all;done)|(simp_all;omega)

theorem aav{t:aF}{d:Nat}{i:Int}{lo:K}(ok:dX t d i lo hi)(h:(t.pg i).leaf=true):d=0:=by
 cases d with
 | zero=>rfl
 | succ d=>obtain⟨_,q2,_⟩:=ok;rw[q2] at h;cases h
theorem aaw{t:aF}{d:Nat}{i:Int}{lo:K}(ok:dX t d i lo hi)(h:(t.pg i).leaf=false):∃d',d=d'+1:=by
 cases d with
 | zero=>obtain⟨_,q2,_⟩:=ok;rw[q2] at h;cases h
 | succ d=>exact⟨d,rfl⟩
theorem aax:(Tryz.prog.info? 3).map (fun i=>(i.zero,i.size,i.bytes))=some (some (.int .i64 0),1,8):=by kernel_rfl
theorem SB(t:aF)(h:Nat)(v:Valid t h)(k:K):VC Tryz.prog G 122 [.agg (cT t),av 1 cB k] [] (gp cI 3 1 (jf t k h t.root)):=by
 refine VC.body func122 rfl ntmps122 aS fun X0 w0 aZ=>?_;unfold cT;have da:=dW;have hval:=v;have eH:=v.high;have Nn:=v.nJ;refine bY ?_;refine OD.box (ds:=[_,_]) ap rfl rfl ot rfl rfl (fun b2=>?_);refine an 45 [1,2] ?_;refine aD 2 ?_;refine ez (cf 0 [_]) [.int .i64 0] [_] zeroValue3 runUnderlying67 sizeOf3 (fun kJ=>?_);refine OD.perm (ee (S1:=[⟨kJ,3,1*1,flatMap cI ([t.root])⟩]) (A:=[_])) ?_;refine an 45 [1,2,5] ?_;refine CD.block ?_;refine mR (fun (U:Nat×Int×K×K×List Int×Option Addr×Nat×List ah) aI=>match U with|(d,i,lo,hi,pre,G3,O,Sl)=>(dX t d i lo hi)∧(lD lo hi k)∧(pre++jf t k d i=jf t k h t.root)∧(pre.length+d≤h)∧(bz 3 1 (((pre++[i])).flatMap cI) ((pre++[i])).length G3 O Sl)∧aI=(⟨45,[(1,av 1 cB k),(2,dI b2),(5,aR G3 ((pre++[i])).length O)],(⟨b2,51,2,[av 5 cP t.ag,ae t.root]⟩::Sl)⟩:St)) (fun (U:Nat×Int×K×K×List Int×Option Addr×Nat×List ah)=>match U with|(d,i,lo,hi,pre,G3,O,Sl)=>d) (h,t.root,[],[],[],(some ⟨kJ,0,none⟩),1,[⟨kJ,3,1*1,flatMap cI ([t.root])⟩]) ⟨v.ok,(tF k),(nil_append _),bu,(bz.cast (bF (g:=cI) (sz:=1) (e:=3) (ls:=[t.root]) (Nat.le_refl _) (show 1≤maxLen by decide)) kV),rfl⟩ (aQ (h:=by repeat (first|exact trivial|refine⟨(by (repeat (first|exact fD|(apply fX;focus (first|rfl|(simp;done)|(congr 2;omega)|(apply eO;rw[Z])|(apply eO;simp;done)))|(apply fH;focus rfl)));done),?_⟩))) ?_
 rintro⟨d,i,lo,hi,pre,G3,O,Sl⟩ _ ⟨ok,j9,Uu,fQ,Na,rfl⟩;obtain⟨bl,rfl,B3,Bv,rfl⟩:=Na.pos bu;have q1:=ok.idx;have aa:i.toNat<t.ag.length:=(by omega)
 have E:t.pg i=(t.ag[i.toNat]'aa):=u6 q1;have po:=v.fF _ (jB q1);have Bw:=ok.high;rw[E] at po Bw;refine cQ [1,2,5,6] ?_;refine aU 4 ?_ (h:=by exact(dm 1 (h:=by first|exact .l (j:=pre.length) bu bu|exact .r (j:=pre.length) bu bu)));refine aU 0 ?_ (h:=by exact(cR (mk:=Op.load 3) rfl ot (ja (k:=1) (d:=ae i) (i:=pre.length) eI rfl rfl rfl isAgg3 bu (by simp[cI]))));refine bG ?_;refine aD 3 ?_;refine bH (dm 5 (h:=by first|exact .l (j:=i.toNat) (Int.toNat_of_nonneg q1.1).symm aa|exact .r (j:=i.toNat) (Int.toNat_of_nonneg q1.1).symm aa)) ?_;refine aE 1 ?_;refine OD.alloc (ds:=[_,_,_,_,_]) ap rfl rfl zeroValue153 rfl (fun b7=>?_);refine aP 0 [_,_,_,_,_] sizeOf153 ?_;refine an 45 [1,2,5,7] ?_;refine cH [1,2,5,7,24] (aar (t.ag[i.toNat]'aa) k) ?_;refine au ?_ ?_<;>intro aN bC
 ·exact absurd aN (by intro e;have e:=of_decide_eq_true e;rw[Bw] at e;exact e.2 (j9.2 e.1))
 refine af [1,2,5,7,33] ?_;refine au ?_ ?_<;>intro aY cz
 ·obtain rfl:=aav ok (by rw[E];exact aY);have aV:pre++[i]=jf t k h t.root:=(by rw[←Uu];rfl)
  refine af [4] ?_;refine aJ [⟨bl,3,O*1,flatMap cI (pre++[i])⟩] ?_;rw[←aV];exact⟨_,_,rfl,(bF (g:=cI) (ls:=pre++[i]) B3 Bv)⟩
 obtain⟨dd,rfl⟩:=aaw ok (by rw[E];exact aY);have ok0:=ok;obtain⟨_,fN,hh,ail,pM⟩:=ok0;obtain⟨d1,d2⟩:=down (p:=t.pg i) (by rw[E];exact po) fN hh j9;have jQ:=pM _ d1;rw[←tg d1] at jQ;have Lg:=d2;have afr:pre++[i]++jf t k dd ((t.pg i).kids.getD (aO (t.pg i) k) 0)=jf t k h t.root:=(by rw[←Uu,append_assoc];rfl)
 have qA:=IG (G:=G) (t.pg i) k (by rw[E];exact po.jS) (by rw[E];have:=po.eD;omega);have I:aO (t.ag[i.toNat]'aa) k<(t.ag[i.toNat]'aa).kids.length:=(by rw[←E];exact d1)
 have ajf:VP Tryz.prog G 123 [.agg (cP (t.ag[i.toNat]'aa)),av 1 cB k] (ae (aO (t.ag[i.toNat]'aa) k:Nat)):=(by rw[←E];exact qA)
 have Z:(t.pg i).kids.getD (aO (t.pg i) k) 0=(t.ag[i.toNat]'aa).kids[aO (t.ag[i.toNat]'aa) k]'I:=(by rw[E];exact tg I)
 refine CD.skip ?_;refine fO 10 (aq (take 2 _)) ?_ (fun _ h=>(Sublist.map _ (take_sublist _ _)).subset h);refine ay 0 rfl bf ?_;refine ay 1 rfl (dj 2) ?_;refine ay 2 rfl (dJ 0) ?_;refine ay 3 rfl (BK 0 [_,_,_,_,_]) ?_;refine ay 4 rfl bf ?_;refine di.later rfl ?_;refine AD.one (i:=5) aA ?_;refine jG call123 (ajf) ?_;refine cy 6 rfl (dm 1 (h:=by first|exact .l (j:=aO (t.ag[i.toNat]'aa) k) rfl I|exact .r (j:=aO (t.ag[i.toNat]'aa) k) rfl I)) ?_;refine AD.one (i:=7) aA ?_;refine at_ rfl eY ?_;refine AD.one (i:=8) aA ?_;refine jt (cf 0 [_]) [.int .i64 0] [_] zeroValue3 runUnderlying67 sizeOf3 (fun Xy=>?_);refine ju 0 43 1 1 ?_;refine AD.one (i:=9) aA ?_;refine bj.ew (ls:=(pre++[i])) (new:=[(t.ag[i.toNat]'aa).kids[aO (t.ag[i.toNat]'aa) k]'I]) (Sq:=[⟨bl,3,O*1,flatMap cI (pre++[i])⟩]) eI nD rfl ap rfl rfl underlying67 aax rfl w7 ot (bF (g:=cI) (ls:=pre++[i]) B3 Bv) (dD (A:=[_,_])) ot bu vy iq (fun No Lh ajg ajh=>?_);refine AD.perm (ee (S1:=[⟨No,3,Lh*1,flatMap cI ((pre++[i])++[(t.ag[i.toNat]'aa).kids[aO (t.ag[i.toNat]'aa) k]'I])⟩]) (A:=[_,_])) ?_;refine eJ ?_;refine bg [1,2,5] ?_
 refine⟨(dd,((t.pg i).kids.getD (aO (t.pg i) k) 0),(iw lo (t.pg i) (aO (t.pg i) k)),(gY (t.pg i) (aO (t.pg i) k)),(pre++[i]),(some ⟨No,0,none⟩),Lh,[⟨No,3,Lh*1,flatMap cI ((pre++[i])++[(t.ag[i.toNat]'aa).kids[aO (t.ag[i.toNat]'aa) k]'I])⟩]),_,cD,(aQ (h:=by repeat (first|exact trivial|refine⟨(by (repeat (first|exact fD|(apply fX;focus (first|rfl|(simp;done)|(congr 2;omega)|(apply eO;rw[Z])|(apply eO;simp;done)))|(apply fH;focus rfl)));done),?_⟩))),jQ,Lg,afr,iq,(bz.cast (bF ajg ajh) (by rw[Z])),rfl⟩
theorem adO(t:aF)(h:Nat)(v:Valid t h)(k:K):VP Tryz.prog G 122 [.agg (cT t),av 1 cB k] (.list 1 ((jf t k h t.root).flatMap cI) (jf t k h t.root).length):=(SB t h v k).wI eI

end Go.Proofs.YtdgichenhdikgaaGreatDoor.Tw
