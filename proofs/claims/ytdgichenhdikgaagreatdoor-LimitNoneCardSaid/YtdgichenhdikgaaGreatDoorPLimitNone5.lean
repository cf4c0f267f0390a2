/-
  What the proof of LimitNone leans on, part 5 of 8: walks of the program's functions at the level of values, and plain facts of what they compute.
-/
import Derived.Test.YtdgichenhdikgaaGreatDoorPLimitNone4
set_option linter.unusedVariables false
set_option linter.unusedSimpArgs false
set_option maxRecDepth 100000
set_option maxHeartbeats 4000000
namespace Go.Proofs.YtdgichenhdikgaaGreatDoor.Ex
open List
open Go.Proofs.Tryz
open Go.RowKit V Pk Vl Go.Proofs.YtdgichenhdikgaaGreatDoor.Nm Pc
variable {α:Type} {l:List aU} {i:Nat} {h:Int}
theorem yB(p:α→Bool)(ls:List α):-1≤dS p ls∧dS p ls<ls.length:=by
 unfold dS;cases h:ls.findIdx? p with
 | none=>simp;omega
 | some i=>have:=(findIdx?_eq_some_iff_findIdx_eq.1 h).1;simp;omega
def bM(l:List cz)(nm:ByteArray):Int:=dS (fun c=>c.n.toList==nm.toList) l
def rC(a b:Int):Bool:=a==b||a==0
def okF(k a b:Int):Bool :=
 if k=3∨k=4 then rC a 1&&rC b 1 else if k=5 then rC a 1 else if k=6∨k=7 then rC a b||b==0 else if k=8∨k=9∨k=10 then rC a 2&&rC b 2 else true
def wH(k:Int):Int:=if k=8∨k=9∨k=10 then 2 else 1
def uH(l:List cz)(nm:ByteArray):Int×Int:=if bM l nm<0 then (0,8) else ((l.getD (bM l nm).toNat ⟨⟨#[]⟩,0⟩).k,0)
def iX(l:List cz)(o:aU)(a b:Int):Int×Int :=
 if o.k=1 then (o.v.k,0) else if o.k=2 then uH l o.nm else if okF o.k a b=true then (wH o.k,0) else (0,4)
def fg(z:α)(k:Int)(st:List α):α:=if 0<bP k then st.getD (st.length-(bP k).toNat) z else z
def eX(z:α)(k:Int)(st:List α):α:=if 1<bP k then st.getD (st.length-(bP k).toNat+1) z else z
def jz{α:Type}(z:α)(f:aU→α→α→α × Int):List aU→List α→α × Int
 | [],st=>(st.getD 0 z,0)
 | o::r,st =>
  if (f o (fg z o.k st) (eX z o.k st)).2≠0 then (z,(f o (fg z o.k st) (eX z o.k st)).2)
  else jz z f r (st.take (st.length-(bP o.k).toNat)++[(f o (fg z o.k st) (eX z o.k st)).1])
theorem QW{z:α}{f:aU→α→α→α × Int}{st:List α}(hi:i<l.length)(h:(f l[i] (fg z l[i].k st) (eX z l[i].k st)).2≠0) :
  jz z f (l.drop i) st=(z,(f l[i] (fg z l[i].k st) (eX z l[i].k st)).2):=by rw[drop_eq_getElem_cons hi,jz,if_pos h]
theorem QS{z:α}{f:aU→α→α→α × Int}{st:List α}(hi:i<l.length)(h:(f l[i] (fg z l[i].k st) (eX z l[i].k st)).2=0) :
  jz z f (l.drop i) st=jz z f (l.drop (i+1)) (st.take (st.length-(bP l[i].k).toNat)++[(f l[i] (fg z l[i].k st) (eX z l[i].k st)).1]):=by
 rw[drop_eq_getElem_cons hi,jz,if_neg (by rw[h];simp)]
theorem P4{z:α}{f:aU→α→α→α × Int}{st:List α}(hi:¬i<l.length):jz z f (l.drop i) st=(st.getD 0 z,0):=by
 rw[drop_of_length_le w4];rfl
theorem OE(hi:i<l.length)(h0:fG h (l.drop i)=0):fa h l[i]=0∧fG (h+(1-bP l[i].k)) (l.drop (i+1))=0:=by
 rw[drop_eq_getElem_cons hi,fG] at h0;by_cases he:fa h l[i]=0
 ·rw[if_pos he] at h0;exact⟨he,h0⟩
 rw[if_neg he] at h0;exact absurd h0 he
theorem P5(hi:¬i<l.length)(h0:fG h (l.drop i)=0):h=1:=by
 rw[drop_of_length_le w4,fG] at h0;split at h0
 ·assumption
 cases h0
theorem vS{o:aU}(he:fa h o=0):bP o.k≤h∧(1≤o.k∧o.k≤11)∧iO o.v=0∧(o.k=2→cQ o.nm=0):=by
 unfold fa at he;split at he
 ·cases he
 split at he
 ·rename_i h2;exact absurd he h2
 split at he
 ·cases he
 split at he
 ·rename_i h4;exact absurd he h4.2
 split at he
 ·cases he
 rename_i q1 q2 I E O;refine⟨by omega,by omega,by simpa using q2,fun hk=>?_⟩;by_cases hn:cQ o.nm=0
 ·exact hn
 exact absurd ⟨hk,hn⟩ E
def tu(l:List cz)(ops:List aU):Int×Int:=jz 0 (iX l) ops []
def eo(l:List cz)(ops:List aU):Int×Int:=if fE l≠0 then (0,fE l) else if iM ops≠0 then (0,iM ops) else tu l ops
def pz(r:Int×Int):D:=.dG [ae r.1,ae r.2]
def cI(n:Int):List D:=[ae n]
theorem eA(n:Int):(cI n).length=1:=rfl
theorem nu(n:Int):(cI n).all V.one=true:=rfl
theorem vV{ops:List aU}(h:iM ops=0):ops.length≤40∧fG 0 ops=0:=by
 unfold iM at h;split at h
 ·cases h
 exact⟨by omega,h⟩
variable {G:List (Nat×List Value)}
theorem Eo(k:Int):VP Tryz.prog G 60 [ae k] (ae (bP k)):=by
 refine VC.body func60 rfl ntmps60 aO fun X0 w0 aY=>?_;exact Vw
theorem Zz(c:cz)(nm:ByteArray)(b:Nat):VC Tryz.prog G 107 [.agg (cC c),dJ b] [⟨b,9,1,[bf nm]⟩] (fun r S=>r=bX (c.n.toList==nm.toList)∧S=[⟨b,9,1,[bf nm]⟩]):=by
 refine VC.body func107 rfl ntmps107 aO fun X0 w0 aY=>?_;exact VV
theorem qI(l:List cz)(hl:l.length≤6)(nm:ByteArray):VP Tryz.prog G 63 [ax 2 cC l,bf nm] (ae (bM l nm)):=by
 refine VC.body func63 rfl ntmps63 aO fun X0 w0 aY=>?_;refine cf ?_;refine OD.box (ds:=[_]) ap rfl rfl ot rfl rfl (fun b3=>?_);refine an 8 [0,3] ?_;refine aC 1 ?_;refine bQ (oZ (ds:=[_]) rfl ⟨ot,trivial⟩) ?_;refine OD.call ap rfl rfl rfl call106 (If l 107 [dJ b3] _ (fun c=>c.n.toList==nm.toList) call107 (fun h _=>Zz h nm b3) w4) ⟨ot,ot,trivial⟩ (j5 (k:=0) rfl) ?_;rintro _ S2 ⟨rfl,iC⟩;rw[iC];clear iC;refine an 8 [4] ?_;exact mI
theorem yS(a b:Int):VP Tryz.prog G 134 [ae a,ae b] (bX (rC a b)):=by
 refine VC.body func134 rfl ntmps134 aO fun X0 w0 aY=>?_;refine af [0,1] ?_;refine aC 4 ?_;refine bW 8 (fun I E=>?_) (fun I E=>?_)
 ·refine bg [4] ?_;refine eK ?_;refine⟨vb ?_,rfl⟩;unfold rC;simp_all
 refine bg [4] ?_;refine eK ?_;refine⟨vb ?_,rfl⟩;unfold rC;simp_all
theorem acZ(l:List cz)(hl:l.length≤6)(o:aU)(a b:Int):VP Tryz.prog G 99 [.agg (cO o),ax 2 cC l,ae a,ae b] (pz (iX l o a b)):=by
 refine VC.body func99 rfl ntmps99 aO fun X0 w0 aY=>?_;unfold cO pz;have I:=yB (fun c:cz=>c.n.toList==o.nm.toList) l;have E:bM l o.nm=dS (fun c:cz=>c.n.toList==o.nm.toList) l:=rfl;rw[←E] at I;clear E;refine cf ?_;refine OD.box (ds:=[_,_,_,_,_]) ap rfl rfl ot rfl rfl (fun b4=>?_);refine an 76 [1,2,3,4] ?_;refine af [1,2,3,4,10] ?_;refine af [1,2,3,4,10,11,12] ?_;refine af [1,2,3,4,10,11,12,15] ?_;refine af [1,2,3,4,10,11,12,15,16] ?_;refine au ?_ ?_<;>intro aP bF
 ·exact z22
 refine af [1,2,3,4,10,11,12,15,21] ?_;refine au ?_ ?_<;>intro aX cJ
 ·refine cW [1,13] (qI l hl o.nm) ?_;refine af [1,13,28] ?_;refine au ?_ ?_<;>intro cr cU
  ·have dr:uH l o.nm=(0,8):=(by unfold uH;rw[if_pos w4])
   exact z22
  have O:(bM l o.nm).toNat<l.length:=(by omega)
  have dr:uH l o.nm=(l[(bM l o.nm).toNat].k,0):=(by unfold uH;rw[if_neg w4,getD_eq_getElem?_getD,getElem?_eq_getElem O];rfl)
  exact z22
 refine af [2,3,10,11,12,15,34] ?_;refine au ?_ ?_<;>intro cX ec
 ·refine eE ?_;exact z116
 refine cl [2,3,10,11,12,15,34] ?_;refine au ?_ ?_<;>intro ew fp
 ·exact z116
 refine af [2,3,10,11,12,15,45] ?_;refine au ?_ ?_<;>intro fm gv
 ·refine dQ 2 ?_;refine OD.j9 (f:=134) (args:=[_,_]) (all:=[_,_]) (Sf:=[]) ap rfl rfl ot call134 (yS a 1) rfl ⟨ot,bI,trivial⟩ (eO _) ?_;rintro _ _ ⟨rfl,rfl⟩;exact z21
 refine af [2,3,10,11,12,15,50] ?_;refine au ?_ ?_<;>intro gL kG
 ·refine eE ?_;exact Uk
 refine cl [2,3,10,11,12,15,50] ?_;refine au ?_ ?_<;>intro gg k8
 ·exact Uk
 refine af [2,3,10,11,12,15,61] ?_;refine au ?_ ?_<;>intro pF U
 ·refine eE ?_;exact Kq
 refine af [2,3,10,11,12,15,61] ?_;refine au ?_ ?_<;>intro CW Z
 ·refine eE ?_;exact Kq
 refine cl [2,3,10,11,12,61] ?_;refine au ?_ ?_<;>intro FF Bm
 ·exact Kq
 refine af [12,74] ?_;refine fM ?_;refine af [8,9] ?_;refine aI [] ?_;refine⟨?_,rfl⟩;unfold iX okF wH;simp_all
theorem Od(l:List cz)(hl:l.length≤6)(o:aU)(a b a' I:Int)(ha:a=a')(hb:b=I)(b2:Nat):VC Tryz.prog G 98 [.agg (cO o),ae a',ae I,dJ b2] [⟨b2,27,1,[ax 2 cC l]⟩] (fun r S=>r=pz (iX l o a b)∧S=[⟨b2,27,1,[ax 2 cC l]⟩]):=by
 refine VC.body func98 rfl ntmps98 aO fun X0 w0 aY=>?_;subst ha hb;have E:=acZ (G:=G) l hl o a b;unfold cO at E ⊢;unfold pz at E ⊢;refine cf ?_;refine OD.box (ds:=[_,_,_,_,_]) ap rfl rfl ot rfl rfl (fun b4=>?_);refine an 16 [1,2,3,4] ?_;refine cW [7,8] (E) ?_;refine aI [⟨b2,27,1,[ax 2 cC l]⟩] ?_;exact⟨rfl,rfl⟩
theorem Zb:(Tryz.prog.info? 3).map (fun i=>(i.zero,i.size,i.bytes))=some (some (.int .i64 0),1,8):=by kernel_rfl
theorem abg(l:List cz)(hl:l.length≤6)(ops:List aU)(pL:ops.length≤40)(hx:fG 0 ops=0)(b2:Nat):VC Tryz.prog G 97 [ax 5 cO ops,.ey (.func 98) [dJ b2]] [⟨b2,27,1,[ax 2 cC l]⟩] (fun r S=>r=pz (tu l ops)∧S=[⟨b2,27,1,[ax 2 cC l]⟩]):=by
 refine VC.body func97 rfl ntmps97 aO fun X0 w0 aY=>?_;unfold pz;refine af [0,1] ?_;refine af [0,1,6] ?_;refine cf ?_;refine bg [0,1,6,7] ?_;refine af [1,6,7,16,17,18] ?_;refine CD.block ?_;refine mM (fun (E:Nat×List Int×Option Addr×Nat×List ah) aJ=>match E with|(i,st,I,jY,Z)=>(i≤ops.length)∧(st.length≤i)∧(fG ((st.length:Nat):Int) (ops.drop i)=0)∧(tu l ops=jz 0 (iX l) (ops.drop i) st)∧(bw 3 1 ((st).flatMap cI) (st).length I jY Z)∧aJ=(⟨64,[(1,.ey (.func 98) [dJ b2]),(6,ae 0),(7,aN I (st).length jY),(16,ax 5 cO ops),(17,ae (ops.length:Nat)),(18,ae (i:Nat))],(⟨b2,27,1,[ax 2 cC l]⟩::Z)⟩:St)) (fun (E:Nat×List Int×Option Addr×Nat×List ah)=>match E with|(i,st,I,jY,Z)=>ops.length-i) (0,[],none,0,[]) ⟨(Nat.zero_le _),(Nat.zero_le _),hx,rfl,(bw.cast iK lK),rfl⟩ (aM (h:=by repeat (first|exact trivial|refine⟨Gb,?_⟩))) ?_;rintro⟨i,st,I,jY,Z⟩ _ ⟨hi,fC,hex,hinv,nH,rfl⟩;refine af [1,6,7,16,17,18,19] ?_;refine au ?_ ?_<;>intro aP bF
 ·have aa:i<ops.length:=(by omega)
  obtain⟨he,xP⟩:=OE aa hex;obtain⟨rp,UD,xQ,qs⟩:=vS he;have CR:=s6 ops[i].k;have sF:(st.take (st.length-(bP ops[i].k).toNat)++[(iX l ops[i] (fg 0 ops[i].k st) (eX 0 ops[i].k st)).1]).length=st.length+1-(bP ops[i].k).toNat:=(by rw[length_append,length_take,length_singleton];omega)
  have nI:fG (((st.take (st.length-(bP ops[i].k).toNat)++[(iX l ops[i] (fg 0 ops[i].k st) (eX 0 ops[i].k st)).1]).length:Nat):Int) (ops.drop (i+1))=0:=(by rw[sF,show(((st.length+1-(bP ops[i].k).toNat:Nat)):Int)=(st.length:Int)+(1-bP ops[i].k) by omega];exact xP)
  refine aC 2 ?_;refine OD.alloc (ds:=[_,_,_,_,_]) ap rfl rfl zeroValue43 rfl (fun b9=>?_);refine aK 0 [_,_,_,_,_] sizeOf43 ?_;refine an 64 [1,6,7,9,16,17,18] ?_;refine af [1,6,7,9,10,11,16,17,18] ?_;refine cW [1,6,7,9,10,11,12,16,17,18] (Eo ops[i].k) ?_;refine af [1,6,7,9,10,11,12,13,16,17,18] ?_;refine af [1,6,7,9,10,11,12,13,16,17,18,30] ?_;refine au ?_ ?_<;>intro aX cJ
  ·obtain⟨bh,rfl,wE,wg,rfl⟩:=nH.pos w4;have uf:(st.length-(bP ops[i].k).toNat)<st.length:=(by omega)
   have ha:fg 0 ops[i].k st=st[(st.length-(bP ops[i].k).toNat)]:=(by unfold fg;rw[if_pos w4,getD_eq_getElem?_getD,getElem?_eq_getElem uf];rfl)
   refine iB [1,6,7,9,10,11,12,13,16,17,18] ?_;refine aR 2 ?_ (h:=by exact(dF 1 (h:=by first|exact .l (j:=(st.length-(bP ops[i].k).toNat)) w4 w4|exact .r (j:=(st.length-(bP ops[i].k).toNat)) w4 w4)));refine aR 0 ?_ (h:=by exact(cM (mk:=Op.load 3) rfl ot (iU (k:=2) eA rfl rfl rfl isAgg3 uf rfl)));refine bH ?_;refine af [1,6,7,9,10,11,13,16,17,18,36] ?_;refine au ?_ ?_<;>intro cr cU
   ·have O:(st.length-(bP ops[i].k).toNat)+1<st.length:=(by omega)
    have hb:eX 0 ops[i].k st=st[(st.length-(bP ops[i].k).toNat)+1]:=(by unfold eX;rw[if_pos w4,getD_eq_getElem?_getD,getElem?_eq_getElem O];rfl)
    refine iB [1,6,7,9,10,11,13,16,17,18] ?_;refine aR 3 ?_ (h:=by exact(dF 1 (h:=by first|exact .l (j:=(st.length-(bP ops[i].k).toNat)+1) w4 w4|exact .r (j:=(st.length-(bP ops[i].k).toNat)+1) w4 w4)));refine aR 0 ?_ (h:=by exact(cM (mk:=Op.load 3) rfl ot (iU (k:=2) eA rfl rfl rfl isAgg3 O rfl)));refine bH ?_;exact Ug
   have hb:eX 0 ops[i].k st=0:=(by unfold eX;rw[if_neg w4])
   exact Ug
  have ha:fg 0 ops[i].k st=0:=(by unfold fg;rw[if_neg w4])
  refine af [1,6,7,9,10,11,13,16,17,18,36] ?_;refine au ?_ ?_<;>intro cr cU
  ·exact absurd cr (by simp at *;omega)
  have hb:eX 0 ops[i].k st=0:=(by unfold eX;rw[if_neg w4])
  refine aC 4 ?_;refine OD.j9 (f:=98) (args:=[_,_,_]) (all:=[_,_,_,_]) (Sf:=[⟨b2,27,1,[ax 2 cC l]⟩]) ap rfl rfl ot call98 (Od l hl ops[i] _ _ _ _ ha hb b2) rfl ⟨ot,ot,ot,trivial⟩ (j5 (k:=1) rfl) ?_;rintro _ _ ⟨rfl,rfl⟩;refine an 64 [1,6,7,13,14,15,16,17,18] ?_;refine af [1,6,7,13,14,15,16,17,18,51] ?_;refine au ?_ ?_<;>intro cX ec
  ·exact VJ
  have hz:(iX l ops[i] (fg 0 ops[i].k st) (eX 0 ops[i].k st)).2=0:=(by simpa using cX)
  refine CD.skip ?_;refine CD.rZ (k:=(st.length-(bP ops[i].k).toNat)) (ls:=(st)) (Sq:=Z) eA w4 nH (dI (A:=[_,_])) (fun BF Bl=>?_);exact z12
 have h1:=P5 w4 hex;have U:0<st.length:=(by omega)
 obtain⟨bh,rfl,wE,wg,rfl⟩:=nH.pos w4;have aV:=hinv.trans (P4 w4);have kN:st.getD 0 0=st[0]:=(by rw[getD_eq_getElem?_getD,getElem?_eq_getElem U];rfl)
 rw[kN] at aV;refine cR [4,5] ?_;refine aR 1 ?_ (h:=by exact(pW (mk:=Op.indexAddr 67) rfl ot bI (by first|exact qG (j:=0) runUnderlying67 sizeOf3 rfl zP|exact qL (j:=0) runUnderlying67 sizeOf3 rfl zP)));refine aR 0 ?_ (h:=by exact(cM (mk:=Op.load 3) rfl ot (iU (k:=1) eA rfl rfl rfl isAgg3 U rfl)));refine bH ?_;refine aI [⟨b2,27,1,[ax 2 cC l]⟩] ?_;rw[aV];exact⟨rfl,rfl⟩
theorem ZA(l:List cz)(hl:l.length≤6)(ops:List aU)(hx:iM ops=0):VP Tryz.prog G 57 [ax 2 cC l,ax 5 cO ops] (pz (tu l ops)):=by
 refine VC.body func57 rfl ntmps57 aO fun X0 w0 aY=>?_;obtain⟨E,gW⟩:=vV hx;have fR:=fun b2=>abg (G:=G) l hl ops E gW b2;unfold pz at fR ⊢;refine cf ?_;refine OD.box (ds:=[_]) ap rfl rfl ot rfl rfl (fun b2=>?_);refine an 11 [1,2] ?_;refine aC 1 ?_;refine bQ (oZ (ds:=[_]) rfl ⟨ot,trivial⟩) ?_;refine OD.call ap rfl rfl rfl call97 (fR b2) ⟨ot,ot,trivial⟩ (j5 (k:=0) rfl) ?_;rintro _ _ ⟨rfl,rfl⟩;refine an 11 [4,5] ?_;exact mI
theorem aeL(hm:(3,marksC)∈G)(hw:(1,wordsC)∈G)(ht:(0,typesC)∈G)(l:List cz)(hl:l.length≤6)(aT:∀c∈l,c.n.size≤maxLen)(ops:List aU)(ho:∀o∈ops,o.nm.size≤maxLen):VP Tryz.prog G 56 [ax 2 cC l,ax 5 cO ops] (ae (if fE l≠0 then fE l else iM ops)):=by
 refine VC.body func56 rfl ntmps56 aO fun X0 w0 aY=>?_;have dy:=dY;refine af [0,1] ?_;refine cW [1,5] (EH hm hw ht l w4 aT) ?_;refine af [1,5,9] ?_;refine au ?_ ?_<;>intro aP bF
 ·refine af [4] ?_;refine aI [] ?_;refine⟨vi ?_,rfl⟩;simp_all
 refine cW [4] (IS hm hw ops ho) ?_;refine aI [] ?_;refine⟨vi ?_,rfl⟩;simp_all
theorem I0(hm:(3,marksC)∈G)(hw:(1,wordsC)∈G)(ht:(0,typesC)∈G)(l:List cz)(hl:l.length≤6)(aT:∀c∈l,c.n.size≤maxLen)(ops:List aU)(ho:∀o∈ops,o.nm.size≤maxLen):VP Tryz.prog G 34 [ax 2 cC l,ax 5 cO ops] (pz (eo l ops)):=by
 refine VC.body func34 rfl ntmps34 aO fun X0 w0 aY=>?_;have ff:=aeL hm hw ht l hl aT ops ho;have E:=fun hx=>ZA (G:=G) l hl ops hx;unfold pz at E ⊢;refine af [0,1] ?_;refine cW [0,1,6] (ff) ?_;refine af [0,1,6,11] ?_;refine au ?_ ?_<;>intro aP bF
 ·have aV:eo l ops=(0,if fE l≠0 then fE l else iM ops):=(by unfold eo;split<;>simp_all)
  refine af [4,5] ?_;exact oM
 have h0:fE l=0∧iM ops=0:=(by split at aP<;>simp_all)
 have aV:eo l ops=tu l ops:=(by unfold eo;simp[h0])
 refine cW [4,5] (E h0.2) ?_;exact tU

end Go.Proofs.YtdgichenhdikgaaGreatDoor.Ex
namespace Go.Proofs.YtdgichenhdikgaaGreatDoor.Ex
open List
open Go.Proofs.Tryz
open Go.RowKit V Pk Vl Cd
variable {i:Nat} {a b:Vl} {p:Vl→Prop}
def wr(n:Int):Int:=IntKind.i64.wrap n
theorem af7(n:Int):-9223372036854775808≤wr n∧wr n≤9223372036854775807:=by unfold wr;rw[IntKind.wrap_i64];omega
def p8(b:Bool):Vl:=if b=true then ⟨1,1,⟨#[]⟩⟩ else ⟨1,0,⟨#[]⟩⟩
def iI(a b:Vl)(i:Nat):Vl:=if i=0 then a else b
theorem Hx(a b:Vl)(h:i<2):(([ae a.k,ae a.n,bf a.s,ae b.k,ae b.n,bf b.s]:List D).drop (i*3)).take 3=[ae (iI a b i).k,ae (iI a b i).n,bf (iI a b i).s]:=by
 match i,h with
 | 0,_|1,_=>rfl
def kY(a b:Vl)(d:Int):Vl×Int :=
 if (a.k≠1∧a.k≠0)∨(b.k≠1∧b.k≠0) then (bD,4) else if a.k=1∧a.n=d then (a,0) else if b.k=1∧b.n=d then (b,0) else if a.k=0∨b.k=0 then (bD,0) else (a,0)
theorem IE(h:∀j,j<i→p (iI a b j))(hi:2≤i):p a∧p b:=⟨h 0 w4,h 1 w4⟩
theorem Ed(h:∀j,j<i→p (iI a b j))(h1:p (iI a b i)):∀j,j<i+1→p (iI a b j):=fun j hj=>by
 by_cases e:j=i
 ·subst e;exact h1
 exact h j w4
theorem ZB{d:Int}(hi:i<2)(h1:(iI a b i).k≠1)(h2:(iI a b i).k≠0):kY a b d=(bD,4):=by
 unfold kY;match i,hi with
 | 0,_=>rw[if_pos (.inl ⟨h1,h2⟩)]
 | 1,_=>rw[if_pos (.inr ⟨h1,h2⟩)]
theorem ZC{d:Int}(hi:i<2)(hg:¬((a.k≠1∧a.k≠0)∨(b.k≠1∧b.k≠0)))(h0:∀j,j<i→¬((iI a b j).k=1∧(iI a b j).n=d))(h1:(iI a b i).k=1)(h2:(iI a b i).n=d):kY a b d=(iI a b i,0):=by
 unfold kY;rw[if_neg hg];match i,hi with
 | 0,_=>rw[if_pos ⟨h1,h2⟩];rfl
 | 1,_=>rw[if_neg (show ¬(a.k=1∧a.n=d) from h0 0 w4),if_pos (show b.k=1∧b.n=d from⟨h1,h2⟩)];rfl
def pc(k a b:Int):Int×Bool :=
 if k=8 then (wr (a+b),decide (wr (a+b)<a)==decide (b<0)) else if k=9 then (wr (a-b),decide (wr (a-b)>a)==decide (b<0))
 else (wr (a*b),a==0||(wr ((wr (a*b)).tdiv a)==b && !(a == -1&&b == -9223372036854775808)))
def qQ(a b:Vl):Bool:=a.k==0||b.k==0
def iu(k:Int)(a b:Vl):Vl×Int :=
 if mz a b≠0 then (bD,mz a b) else if k=3 then kY a b 0 else if k=4 then kY a b 1
 else if k=6∨k=7 then (if qQ a b=true then (bD,0) else if a.k≠b.k then (bD,4) else (p8 ((gw a b==0&&k==6)||(decide (gw a b<0)&&k==7)),0))
 else if k=8∨k=9∨k=10 then (if (a.k≠2∧a.k≠0)∨(b.k≠2∧b.k≠0) then (bD,4) else if qQ a b=true then (bD,0) else if (pc k a.n b.n).2=true then (⟨2,(pc k a.n b.n).1,⟨#[]⟩⟩,0) else (bD,5))
 else (bD,2)
def tF(k:Int)(a:Vl):Vl×Int :=
 if dP a≠0 then (bD,dP a) else if k=11 then (p8 (a.k==0),0)
 else if k=5 then (if a.k=0 then (a,0) else if a.k=1 then (p8 (a.n==0),0) else (bD,4)) else (bD,2)
def mO(r:Vl×Int):D:=.dG [.agg (cV r.1),ae r.2]
variable {G:List (Nat×List Value)}
theorem sS(b:Bool):VP Tryz.prog G 100 [bX b] (.agg (cV (p8 b))):=by
 refine VC.body func100 rfl ntmps100 aO fun X0 w0 aY=>?_;refine cf ?_;refine OD.alloc (ds:=[_,_,_]) ap rfl rfl zeroValue41 rfl (fun b2=>?_);refine an 6 [0,2] ?_;refine af [2,3] ?_;refine au ?_ ?_<;>intro aP bF
 ·refine aC 1 ?_;refine aK 0 [_,_,_] sizeOf41 ?_;refine an 6 [2] ?_;refine aI [] ?_;refine⟨?_,rfl⟩;unfold p8;simp_all[cV]
 refine aC 1 ?_;refine aK 0 [_,_,_] sizeOf41 ?_;refine an 6 [2] ?_;refine aI [] ?_;refine⟨?_,rfl⟩;unfold p8;simp_all[cV]
theorem RD(a b:Vl):VP Tryz.prog G 103 [.agg (cV a),.agg (cV b)] (bX (qQ a b)):=by
 refine VC.body func103 rfl ntmps103 aO fun X0 w0 aY=>?_;unfold cV;refine cf ?_;refine OD.box (ds:=[_,_,_]) ap rfl rfl ot rfl rfl (fun b2=>?_);refine OD.box (ds:=[_,_,_]) ap rfl rfl ot rfl rfl (fun b3=>?_);refine an 13 [2,3] ?_;refine aC 4 ?_;refine bW 8 (fun I E=>?_) (fun I E=>?_)
 ·refine bg [4] ?_;refine eK ?_;refine⟨vb ?_,rfl⟩;unfold qQ;simp_all
 refine bg [4] ?_;refine eK ?_;refine⟨vb ?_,rfl⟩;unfold qQ;simp_all
theorem P6(a b:Vl)(d:Int):VP Tryz.prog G 102 [.agg (cV a),.agg (cV b),ae d] (mO (kY a b d)):=by
 refine VC.body func102 rfl ntmps102 aO fun X0 w0 aY=>?_;unfold mO cV;have ng:=RD (G:=G) a b;unfold cV at ng;refine cf ?_;refine OD.box (ds:=[_,_,_]) ap rfl rfl ot rfl rfl (fun b3=>?_);refine OD.box (ds:=[_,_,_]) ap rfl rfl ot rfl rfl (fun b4=>?_);refine OD.alloc (ds:=[_,_,_]) ap rfl rfl zeroValue41 rfl (fun b6=>?_);refine an 50 [2,3,4,6] ?_;refine cR [2,3,4,6,14,15] ?_;refine aR 2 ?_ (h:=by exact(DN (pl:=[(0,_),(1,_)]) (ds:=[_,_,_,_,_,_]) rfl zeroValue173 runUnderlying173 sizeOf41 ⟨rfl,ot,rfl,ot,trivial⟩ rfl rfl));refine bH ?_;refine eL [2,3,4,6,14] (fun aW _ (i:Nat) aJ=>(i≤2)∧(∀j,j<i→¬((iI a b j).k≠1∧(iI a b j).k≠0))∧aJ=(⟨50,(15,ae (i:Nat))::aW,[⟨b6,41,3,[ae 0,ae 0,e9]⟩,⟨b4,41,3,[ae b.k,ae b.n,bf b.s]⟩,⟨b3,41,3,[ae a.k,ae a.n,bf a.s]⟩]⟩:St)) (fun (i:Nat)=>2-i) 0 ⟨(Nat.zero_le _),(fun j hj=>absurd hj (Nat.not_lt_zero _)),rfl⟩ ?_;rintro i _ ⟨hi,fb,rfl⟩;refine af [2,3,4,6,14,15,16] ?_;refine au ?_ ?_<;>intro aP bF
 ·have aa:i<2:=(by omega)
  refine cf ?_;refine bQ (He (j:=i) rfl ot ot runUnderlying173 sizeOf41 isAgg41 rfl aa (Hx a b aa)) ?_;refine OD.alloc (ds:=[_,_,_]) ap rfl rfl zeroValue41 rfl (fun b9=>?_);refine aK 0 [_,_,_] sizeOf41 ?_;refine an 50 [2,3,4,6,9,14,15] ?_;refine aC 4 ?_;refine bW 21 (fun ql I=>?_) (fun ql I=>?_)
  ·refine bg [2,3,4,6,14,15,25] ?_;refine au ?_ ?_<;>intro aX cJ
   ·have aV:kY a b d=(bD,4):=ZB aa (by simp_all) (by simp_all);refine aC 1 ?_;refine aK 1 [_,_,_] sizeOf41 ?_;refine an 50 [6,7] ?_;exact oM
   exact VW
  refine bg [2,3,4,6,14,15,25] ?_;refine fM ?_;exact VW
 have Cm:=IE (p:=fun v=>¬(v.k≠1∧v.k≠0)) fb w4;have hg:¬((a.k≠1∧a.k≠0)∨(b.k≠1∧b.k≠0)):=fun h=>h.elim Cm.1 Cm.2;clear fb hi;refine cR [2,3,4,6,30,31] ?_;refine aR 2 ?_ (h:=by exact(DN (pl:=[(0,_),(1,_)]) (ds:=[_,_,_,_,_,_]) rfl zeroValue173 runUnderlying173 sizeOf41 ⟨rfl,ot,rfl,ot,trivial⟩ rfl rfl));refine bH ?_;refine eL [2,3,4,6,30] (fun aW _ (i:Nat) aJ=>(i≤2)∧(∀j,j<i→¬((iI a b j).k=1∧(iI a b j).n=d))∧aJ=(⟨50,(31,ae (i:Nat))::aW,[⟨b6,41,3,[ae 0,ae 0,e9]⟩,⟨b4,41,3,[ae b.k,ae b.n,bf b.s]⟩,⟨b3,41,3,[ae a.k,ae a.n,bf a.s]⟩]⟩:St)) (fun (i:Nat)=>2-i) 0 ⟨(Nat.zero_le _),(fun j hj=>absurd hj (Nat.not_lt_zero _)),rfl⟩ ?_;rintro i _ ⟨Z,JR,rfl⟩;refine af [2,3,4,6,30,31,32] ?_;refine au ?_ ?_<;>intro cr cU
 ·have aa:i<2:=(by omega)
  refine cf ?_;refine bQ (He (j:=i) rfl ot ot runUnderlying173 sizeOf41 isAgg41 rfl aa (Hx a b aa)) ?_;refine OD.alloc (ds:=[_,_,_]) ap rfl rfl zeroValue41 rfl (fun kx=>?_);refine aK 0 [_,_,_] sizeOf41 ?_;refine an 50 [2,3,4,6,11,30,31] ?_;refine aC 4 ?_;refine bW 37 (fun U O=>?_) (fun U O=>?_)
  ·refine bg [2,3,4,6,11,30,31,42] ?_;refine au ?_ ?_<;>intro cX ec
   ·have aV:kY a b d=(iI a b i,0):=ZC aa hg JR (by simp_all) (by simp_all);refine aC 1 ?_;refine aK 1 [_,_,_] sizeOf41 ?_;refine an 50 [6,7] ?_;exact oM
   exact z85
  refine bg [2,3,4,6,11,30,31,42] ?_;refine fM ?_;exact z85
 have E:=IE (p:=fun v=>¬(v.k=1∧v.n=d)) JR w4;refine cW [3,6,47] (ng) ?_;refine au ?_ ?_<;>intro ew fp
 ·have aV:kY a b d=(bD,0):=(by unfold kY;rw[if_neg hg,if_neg E.1,if_neg E.2,if_pos (by unfold qQ at ew;simpa using ew)])
  refine aC 1 ?_;refine aK 0 [_,_,_] sizeOf41 ?_;refine an 50 [6,7] ?_;exact oM
 have aV:kY a b d=(a,0):=(by unfold kY;rw[if_neg hg,if_neg E.1,if_neg E.2,if_neg (by unfold qQ at ew;simpa using ew)])
 refine aC 1 ?_;refine aK 0 [_,_,_] sizeOf41 ?_;refine an 50 [6,7] ?_;exact tU
theorem abh(k a b:Int):VP Tryz.prog G 105 [ae k,ae a,ae b] (.dG [ae (pc k a b).1,bX (pc k a b).2]):=by
 refine VC.body func105 rfl ntmps105 aO fun X0 w0 aY=>?_;refine af [0,1,2] ?_;refine af [1,2,11] ?_;refine af [1,2,11,12] ?_;refine au ?_ ?_<;>intro aP bF
 ·refine cR [1,2,8] ?_;refine aR 2 ?_ (h:=by exact(c9 (r:=.int .i64 (wr (a+b))) rfl ot ot (j7 rfl)));exact VY
 refine af [1,2,24] ?_;refine au ?_ ?_<;>intro aX cJ
 ·refine cR [1,2,9] ?_;refine aR 2 ?_ (h:=by exact(c9 (r:=.int .i64 (wr (a-b))) rfl ot ot (fY rfl)));exact VY
 refine cR [1,2,10] ?_;refine aR 2 ?_ (h:=by exact(c9 (r:=.int .i64 (wr (a*b))) rfl ot ot (IK rfl)));refine bH ?_;refine aC 4 ?_;refine bW 42 (fun qT E=>?_) (fun qT E=>?_)
 ·refine bg [6,7] ?_;refine L0 ?_;refine⟨?_,rfl⟩;unfold pc;simp_all
 refine aE 2 ?_;refine OD.still ic rfl (c9 (r:=.int .i64 (wr ((wr (a*b)).tdiv a))) rfl ot ot (acq (by simpa using qT) rfl)) ?_;refine aE 3 ?_;refine bW 48 (fun U I=>?_) (fun U I=>?_)
 ·refine aE 3 ?_;refine bW 51 (fun Z O=>?_) (fun Z O=>?_)
  ·refine an 58 [6,7] ?_;refine aI [] ?_;refine⟨?_,rfl⟩;unfold pc;simp_all
  refine an 58 [6,7] ?_;refine aI [] ?_;refine⟨?_,rfl⟩;unfold pc;simp_all
 refine an 58 [6,7] ?_;refine aI [] ?_;refine⟨?_,rfl⟩;unfold pc;simp_all
theorem aeM(k:Int)(a:Vl):VP Tryz.prog G 61 [ae k,.agg (cV a)] (mO (tF k a)):=by
 refine VC.body func61 rfl ntmps61 aO fun X0 w0 aY=>?_;unfold mO;have ff:=Vl.o8 (G:=G) a;unfold cV at ff;unfold cV;refine cf ?_;refine OD.box (ds:=[_,_,_]) ap rfl rfl ot rfl rfl (fun b3=>?_);refine OD.alloc (ds:=[_,_,_]) ap rfl rfl zeroValue41 rfl (fun b4=>?_);refine an 35 [0,3,4] ?_;refine cW [0,3,4,6] (ff) ?_;refine af [0,3,4,6,10] ?_;refine au ?_ ?_<;>intro aP bF
 ·refine aC 2 ?_;exact Cr
 refine af [3,4,13] ?_;refine af [3,4,13,14] ?_;refine au ?_ ?_<;>intro aX cJ
 ·refine aC 3 ?_;refine dO call100 (sS _) ?_;exact Cr
 refine af [3,4,20] ?_;refine au ?_ ?_<;>intro cr cU
 ·refine af [3,4,23] ?_;refine af [3,4,23,24] ?_;refine au ?_ ?_<;>intro cX ec
  ·refine aC 1 ?_;exact Cr
  refine af [3,4,27] ?_;refine au ?_ ?_<;>intro ew fp
  ·refine aC 3 ?_;refine dO call100 (sS _) ?_;exact Cr
  refine aC 1 ?_;exact Cr
 refine aC 1 ?_;refine aK 0 [_,_,_] sizeOf41 ?_;refine an 35 [4,5] ?_;refine aI [] ?_;refine⟨?_,rfl⟩;unfold tF;simp_all[bD]
theorem ack{k:Int}(h0:mz a b=0)(hk:k=8∨k=9∨k=10)(hi:i<2)(h1:(iI a b i).k≠2)(h2:(iI a b i).k≠0):iu k a b=(bD,4):=by
 unfold iu;rw[if_neg (by simp[h0]),if_neg w4,if_neg w4,if_neg w4,if_pos hk];match i,hi with
 | 0,_=>rw[if_pos (.inl ⟨h1,h2⟩)]
 | 1,_=>rw[if_pos (.inr ⟨h1,h2⟩)]
theorem Ob{k:Int}(h0:mz a b=0)(hk:k=8∨k=9∨k=10)(hg:¬((a.k≠2∧a.k≠0)∨(b.k≠2∧b.k≠0))) :
  iu k a b=if qQ a b=true then (bD,0) else if (pc k a.n b.n).2=true then (⟨2,(pc k a.n b.n).1,⟨#[]⟩⟩,0) else (bD,5):=by
 unfold iu;rw[if_neg (by simp[h0]),if_neg w4,if_neg w4,if_neg w4,if_pos hk,if_neg hg]
theorem aeN(k:Int)(a b:Vl)(oa:a.Ok)(ob:b.Ok):VP Tryz.prog G 62 [ae k,.agg (cV a),.agg (cV b)] (mO (iu k a b)):=by
 refine VC.body func62 rfl ntmps62 aO fun X0 w0 aY=>?_;unfold mO;have pC:=Cd.Rr (G:=G) a b;have ng:=RD (G:=G) a b;have mH:=P6 (G:=G) a b 0;have jV:=P6 (G:=G) a b 1;have ff:=Cd.NX (G:=G) a b oa ob;have xu:=abh (G:=G) k a.n b.n;unfold mO at mH jV;unfold cV at pC ng mH jV ff;unfold cV;refine cf ?_;refine OD.box (ds:=[_,_,_]) ap rfl rfl ot rfl rfl (fun b4=>?_);refine OD.box (ds:=[_,_,_]) ap rfl rfl ot rfl rfl (fun b5=>?_);refine OD.alloc (ds:=[_,_,_]) ap rfl rfl zeroValue41 rfl (fun b6=>?_);refine an 106 [0,4,5,6] ?_;refine cW [0,4,5,6,8] (pC) ?_;refine af [0,4,5,6,8,18] ?_;refine au ?_ ?_<;>intro aP bF
 ·have n9:mz a b≠0:=(by simpa using aP)
  have aV:iu k a b=(bD,mz a b):=(by unfold iu;rw[if_pos n9])
  refine aC 2 ?_;exact z7
 have n9:mz a b=0:=(by simpa using aP)
 refine af [0,4,5,6,21] ?_;refine af [0,4,5,6,21,22] ?_;refine au ?_ ?_<;>intro aX cJ
 ·have aV:iu k a b=kY a b 0:=(by unfold iu;rw[if_neg (by simp[n9]),if_pos w4])
  refine aC 2 ?_;refine dO call102 (mH) ?_;refine aE 2 ?_;exact z7
 refine af [0,4,5,6,21,29] ?_;refine au ?_ ?_<;>intro cr cU
 ·have aV:iu k a b=kY a b 1:=(by unfold iu;rw[if_neg (by simp[n9]),if_neg w4,if_pos w4])
  refine aC 2 ?_;refine dO call102 (jV) ?_;refine aE 2 ?_;exact z7
 refine af [0,4,5,6,21,36] ?_;refine au ?_ ?_<;>intro cX ec
 ·refine eE ?_;exact Ue
 refine cl [0,4,5,6,21,36] ?_;refine au ?_ ?_<;>intro ew fp
 ·exact Ue
 refine af [0,4,5,6,21,67] ?_;refine au ?_ ?_<;>intro gg k8
 ·refine eE ?_;exact z6
 refine af [0,4,5,6,21,67] ?_;refine au ?_ ?_<;>intro pF E
 ·refine eE ?_;exact z6
 refine cl [0,4,5,6,67] ?_;refine au ?_ ?_<;>intro O I
 ·exact z6
 have aV:iu k a b=(bD,2):=(by unfold iu;rw[if_neg (by simp[n9]),if_neg w4,if_neg w4,if_neg w4,if_neg w4])
 refine aC 1 ?_;refine aK 0 [_,_,_] sizeOf41 ?_;refine an 106 [6,7] ?_;refine aI [] ?_;rw[aV];first|exact⟨rfl,rfl⟩|(refine⟨?_,rfl⟩;clear aV ff xu mH jV pC ng;generalize (gw a b==0)=z1 at *;generalize (decide (gw a b<0))=z2 at *;subst_vars;simp_all;done)

end Go.Proofs.YtdgichenhdikgaaGreatDoor.Ex
namespace Go.Proofs.YtdgichenhdikgaaGreatDoor.Ex
open List
open Go.Proofs.Tryz
open Go.RowKit V Pk Vl Go.Proofs.YtdgichenhdikgaaGreatDoor.Nm Pc
variable {a b:Vl} {l:List cz} {row:List Vl} {ops:List aU}
def fT(l:List cz)(row:List Vl)(o:aU)(a b:Vl):Vl×Int :=
 if bP o.k=1 then tF o.k a else if bP o.k=2 then iu o.k a b else if o.k=2 then (row.getD (bM l o.nm).toNat bD,0) else (o.v,0)
def uR(l:List cz)(row:List Vl)(ops:List aU):Vl×Int:=jz bD (fT l row) ops []
def eW(l:List cz)(row:List Vl)(ops:List aU):Vl×Int :=
 if dZ l row≠0 then (bD,dZ l row) else if (eo l ops).2≠0 then (bD,(eo l ops).2) else uR l row ops
theorem tv:bD.Ok:=⟨by decide,by decide,by decide,by decide,Nat.zero_le _⟩
theorem P7(b:Bool):(p8 b).Ok:=by unfold p8;split<;>exact⟨by decide,by decide,by decide,by decide,Nat.zero_le _⟩
theorem ok_int{n:Int}(h:-9223372036854775808≤n∧n≤9223372036854775807):(⟨2,n,⟨#[]⟩⟩:Vl).Ok:=⟨by show -9223372036854775808≤(2:Int);decide,by show(2:Int)≤_;decide,h.1,h.2,Nat.zero_le _⟩
theorem abi{d:Int}(oa:a.Ok)(ob:b.Ok):(kY a b d).1.Ok:=by
 unfold kY;repeat' split
 all_goals first|exact tv|exact oa|exact ob
theorem ok_two{k:Int}(oa:a.Ok)(ob:b.Ok):(iu k a b).1.Ok:=by
 unfold iu;repeat' split
 all_goals first|exact tv|exact abi oa ob|exact P7 _|skip
 unfold pc;repeat' split
 all_goals exact ok_int (af7 _)
theorem ok_one{k:Int}(oa:a.Ok):(tF k a).1.Ok:=by
 unfold tF;repeat' split
 all_goals first|exact tv|exact oa|exact P7 _
theorem RE(hr:∀v∈row,v.Ok){o:aU}(ho:o.v.Ok)(oa:a.Ok)(ob:b.Ok):(fT l row o a b).1.Ok:=by
 unfold fT;split
 ·exact ok_one oa
 split
 ·exact ok_two oa ob
 split
 ·show(row.getD _ bD).Ok;rw[getD_eq_getElem?_getD];cases h:row[(bM l o.nm).toNat]? with
  | none=>exact tv
  | some v=>exact hr v (mem_of_getElem? h)
 exact ho
theorem I1{st:List Vl}(h:∀v∈st,v.Ok)(j:Nat):(st.getD j bD).Ok:=by
 rw[getD_eq_getElem?_getD];cases hj:st[j]? with
 | none=>exact tv
 | some v=>exact h v (mem_of_getElem? hj)
theorem A5{st:List Vl}(h:∀v∈st,v.Ok)(k:Int):(fg bD k st).Ok:=by unfold fg;split;exact I1 h _;exact tv
theorem A6{st:List Vl}(h:∀v∈st,v.Ok)(k:Int):(eX bD k st).Ok:=by unfold eX;split;exact I1 h _;exact tv
theorem OF{α:Type}{z:α}{f:aU→α→α→α × Int}:∀{l:List aU} {st:List α},(jz z f l st).2=0→∀o∈l,∃a b,(f o a b).2=0
 | [],_,_,o,ho=>by cases ho
 | x::r,st,h,o,ho=>by
  rw[jz] at h;split at h
  ·rename_i hne;exact absurd h hne
  rename_i he;rcases mem_cons.1 ho with rfl|ho
  ·exact⟨_,_,Classical.not_not.1 he⟩
  exact OF h o ho
theorem OG(h:(tu l ops).2=0):∀o∈ops,o.k=2→0≤bM l o.nm:=fun o ho hk=>by
 obtain⟨a,b,he⟩:=OF h o ho;unfold iX at he;rw[if_neg w4,if_pos hk] at he;unfold uH at he;split at he
 ·cases he
 omega
theorem IQ(h:dZ l row=0):row.length=l.length:=by
 unfold dZ at h;split at h
 ·rename_i h1;exact absurd h h1
 split at h
 ·cases h
 omega
theorem EI(h:(eo l ops).2=0):fE l=0∧iM ops=0∧eo l ops=tu l ops:=by
 unfold eo at h ⊢;split at h
 ·rename_i h1;exact absurd h h1
 rename_i h1;split at h
 ·rename_i h2;exact absurd h h2
 rename_i h2;exact⟨Classical.not_not.1 h1,Classical.not_not.1 h2,by rw[if_neg h1,if_neg h2]⟩
variable {G:List (Nat×List Value)}
theorem HG(l:List cz)(hl:l.length≤6)(row:List Vl)(rD:row.length=l.length)(o:aU)(I:o.k=2→0≤bM l o.nm)(a b a' b':Vl)(ha:a=a')(hb:b=b')(oa:a.Ok)(ob:b.Ok)(br bc:Nat):VC Tryz.prog G 59 [.agg (cO o),.agg (cV a'),.agg (cV b'),dJ br,dJ bc] [⟨br,28,1,[ax 3 cV row]⟩,⟨bc,27,1,[ax 2 cC l]⟩] (fun r S=>r=mO (fT l row o a b)∧S=[⟨br,28,1,[ax 3 cV row]⟩,⟨bc,27,1,[ax 2 cC l]⟩]):=by
 refine VC.body func59 rfl ntmps59 aO fun X0 w0 aY=>?_;subst ha hb;have mJ:=aeM (G:=G) o.k a;have E:=aeN (G:=G) o.k a b oa ob;unfold mO at mJ E ⊢;unfold cV at mJ E;unfold cO cV;have U:=yB (fun c:cz=>c.n.toList==o.nm.toList) l;have O:bM l o.nm=dS (fun c:cz=>c.n.toList==o.nm.toList) l:=rfl;rw[←O] at U;clear O;refine cf ?_;refine OD.box (ds:=[_,_,_,_,_]) ap rfl rfl ot rfl rfl (fun b5=>?_);refine OD.box (ds:=[_,_,_]) ap rfl rfl ot rfl rfl (fun b6=>?_);refine OD.box (ds:=[_,_,_]) ap rfl rfl ot rfl rfl (fun b7=>?_);refine OD.alloc (ds:=[_,_,_]) ap rfl rfl zeroValue41 rfl (fun b8=>?_);refine an 42 [3,4,5,6,7,8] ?_;refine cW [3,4,5,6,7,8,12] (Eo o.k) ?_;refine af [3,4,5,6,7,8,12,13] ?_;refine au ?_ ?_<;>intro aP bF
 ·have aV:fT l row o a b=tF o.k a:=(by unfold fT;rw[if_pos w4])
  refine aC 3 ?_;refine dO call61 (mJ) ?_;refine aE 2 ?_;exact Ku
 refine af [3,4,5,6,7,8,21] ?_;refine au ?_ ?_<;>intro aX cJ
 ·have aV:fT l row o a b=iu o.k a b:=(by unfold fT;rw[if_neg w4,if_pos w4])
  refine aC 4 ?_;refine dO call62 (E) ?_;refine aE 2 ?_;exact Ku
 refine af [3,4,5,8,32] ?_;refine au ?_ ?_<;>intro cr cU
 ·have fu:o.k=2:=(by omega)
  have aP:=I fu;have Z:(bM l o.nm).toNat<row.length:=(by omega)
  have aV:fT l row o a b=(row[(bM l o.nm).toNat],0):=(by unfold fT;rw[if_neg w4,if_neg w4,if_pos fu,getD_eq_getElem?_getD,getElem?_eq_getElem Z];rfl)
  refine CD.seq ?_;refine l9 7 [8,39] ?_;refine cZ (qI l hl o.nm) ?_;refine bH ?_;exact Ku
 have aV:fT l row o a b=(o.v,0):=(by unfold fT;rw[if_neg w4,if_neg w4,if_neg w4])
 refine aC 2 ?_;refine aK 0 [_,_,_] sizeOf41 ?_;refine an 42 [8,9] ?_;exact Uc
theorem Yl:(Tryz.prog.info? 41).map (fun i=>(i.zero,i.size,i.bytes))=some (some (.agg #[.int .i64 0,.int .i64 0,.string ⟨#[]⟩]),3,32):=by kernel_rfl
theorem abj(l:List cz)(hl:l.length≤6)(row:List Vl)(rD:row.length=l.length)(KV:∀v∈row,v.Ok)(ops:List aU)(fN:∀o∈ops,o.v.Ok)(E:∀o∈ops,o.k=2→0≤bM l o.nm)(pL:ops.length≤40)(hx:fG 0 ops=0)(br bc:Nat):VC Tryz.prog G 58 [ax 5 cO ops,.ey (.func 59) [dJ br,dJ bc]] [⟨br,28,1,[ax 3 cV row]⟩,⟨bc,27,1,[ax 2 cC l]⟩] (fun r S=>r=mO (uR l row ops)∧S=[⟨br,28,1,[ax 3 cV row]⟩,⟨bc,27,1,[ax 2 cC l]⟩]):=by
 refine VC.body func58 rfl ntmps58 aO fun X0 w0 aY=>?_;unfold mO;refine cf ?_;refine OD.alloc (ds:=[_,_,_]) ap rfl rfl zeroValue41 rfl (fun b4=>?_);refine an 64 [0,1,4] ?_;refine cf ?_;refine OD.alloc (ds:=[_,_,_]) ap rfl rfl zeroValue41 rfl (fun b6=>?_);refine OD.perm (AR (k:=2) (k':=2) rfl rfl) ?_;refine an 64 [0,1,4,6] ?_;refine cf ?_;refine bg [0,1,4,6,7] ?_;refine af [1,4,6,7,16,17,18] ?_;refine CD.block ?_;refine mM (fun (I:Nat×List Vl×Option Addr×Nat×List ah) aJ=>match I with|(i,st,O,jY,Sh)=>(i≤ops.length)∧(st.length≤i)∧(fG ((st.length:Nat):Int) (ops.drop i)=0)∧(uR l row ops=jz bD (fT l row) (ops.drop i) st)∧(∀v∈st,v.Ok)∧(bw 41 3 ((st).flatMap cV) (st).length O jY Sh)∧aJ=(⟨64,[(1,.ey (.func 59) [dJ br,dJ bc]),(4,dJ b4),(6,dJ b6),(7,aN O (st).length jY),(16,ax 5 cO ops),(17,ae (ops.length:Nat)),(18,ae (i:Nat))],(⟨br,28,1,[ax 3 cV row]⟩::⟨bc,27,1,[ax 2 cC l]⟩::⟨b6,41,3,[ae 0,ae 0,e9]⟩::⟨b4,41,3,[ae 0,ae 0,e9]⟩::Sh)⟩:St)) (fun (I:Nat×List Vl×Option Addr×Nat×List ah)=>match I with|(i,st,O,jY,Sh)=>ops.length-i) (0,[],none,0,[]) ⟨(Nat.zero_le _),(Nat.zero_le _),hx,rfl,(fun v U=>by cases U),(bw.cast iK lK),rfl⟩ (aM (h:=by repeat (first|exact trivial|refine⟨Gb,?_⟩))) ?_;rintro⟨i,st,O,jY,Sh⟩ _ ⟨hi,fC,hex,hinv,aT,nH,rfl⟩;refine af [1,4,6,7,16,17,18,19] ?_;refine au ?_ ?_<;>intro aP bF
 ·have aa:i<ops.length:=(by omega)
  obtain⟨he,xP⟩:=OE aa hex;obtain⟨rp,UD,xQ,qs⟩:=vS he;have CR:=s6 ops[i].k;have sF:(st.take (st.length-(bP ops[i].k).toNat)++[(fT l row ops[i] (fg bD ops[i].k st) (eX bD ops[i].k st)).1]).length=st.length+1-(bP ops[i].k).toNat:=(by rw[length_append,length_take,length_singleton];omega)
  have nI:fG (((st.take (st.length-(bP ops[i].k).toNat)++[(fT l row ops[i] (fg bD ops[i].k st) (eX bD ops[i].k st)).1]).length:Nat):Int) (ops.drop (i+1))=0:=(by rw[sF,show(((st.length+1-(bP ops[i].k).toNat:Nat)):Int)=(st.length:Int)+(1-bP ops[i].k) by omega];exact xP)
  have agX:∀v∈st.take (st.length-(bP ops[i].k).toNat)++[(fT l row ops[i] (fg bD ops[i].k st) (eX bD ops[i].k st)).1],v.Ok:=fun v U=>by rcases mem_append.1 U with U|U;exact aT v (mem_of_mem_take U);rw[mem_singleton] at U;rw[U];exact RE KV (fN _ (getElem_mem aa)) (A5 aT _) (A6 aT _)
  refine aC 2 ?_;refine OD.alloc (ds:=[_,_,_,_,_]) ap rfl rfl zeroValue43 rfl (fun b9=>?_);refine aK 0 [_,_,_,_,_] sizeOf43 ?_;refine an 64 [1,4,6,7,9,16,17,18] ?_;refine cf ?_;refine OD.alloc (ds:=[_,_,_]) ap rfl rfl zeroValue41 rfl (fun kM=>?_);refine OD.alloc (ds:=[_,_,_]) ap rfl rfl zeroValue41 rfl (fun kx=>?_);refine an 64 [1,4,6,7,9,10,11,16,17,18] ?_;refine cW [1,4,6,7,9,10,11,12,16,17,18] (Eo ops[i].k) ?_;refine af [1,4,6,7,9,10,11,12,13,16,17,18] ?_;refine af [1,4,6,7,9,10,11,12,13,16,17,18,30] ?_;refine au ?_ ?_<;>intro aX cJ
  ·obtain⟨bh,rfl,wE,wg,rfl⟩:=nH.pos w4;have uf:(st.length-(bP ops[i].k).toNat)<st.length:=(by omega)
   have ha:fg bD ops[i].k st=st[(st.length-(bP ops[i].k).toNat)]:=(by unfold fg;rw[if_pos w4,getD_eq_getElem?_getD,getElem?_eq_getElem uf];rfl)
   refine dQ 2 ?_;refine bQ (dF 3 (h:=by first|exact .l (j:=(st.length-(bP ops[i].k).toNat)) w4 w4|exact .r (j:=(st.length-(bP ops[i].k).toNat)) w4 w4)) ?_;refine bQ (cM (mk:=Op.load 41) rfl ot (dN (k:=7) fj rfl rfl rfl isAgg41 sizeOf41 uf)) ?_;refine aK 1 [_,_,_] sizeOf41 ?_;refine an 64 [1,4,6,7,9,10,11,12,13,16,17,18] ?_;refine af [1,4,6,7,9,10,11,13,16,17,18,36] ?_;refine au ?_ ?_<;>intro cr cU
   ·have Z:(st.length-(bP ops[i].k).toNat)+1<st.length:=(by omega)
    have hb:eX bD ops[i].k st=st[(st.length-(bP ops[i].k).toNat)+1]:=(by unfold eX;rw[if_pos w4,getD_eq_getElem?_getD,getElem?_eq_getElem Z];rfl)
    refine dQ 3 ?_;refine bQ (dF 3 (h:=by first|exact .l (j:=(st.length-(bP ops[i].k).toNat)+1) w4 w4|exact .r (j:=(st.length-(bP ops[i].k).toNat)+1) w4 w4)) ?_;refine bQ (cM (mk:=Op.load 41) rfl ot (dN (k:=7) fj rfl rfl rfl isAgg41 sizeOf41 Z)) ?_;refine aK 0 [_,_,_] sizeOf41 ?_;refine an 64 [1,4,6,7,9,10,11,13,16,17,18] ?_;refine aC 4 ?_;refine OD.j9 (f:=59) (args:=[_,_,_]) (all:=[_,_,_,_,_]) (Sf:=[⟨br,28,1,[ax 3 cV row]⟩,⟨bc,27,1,[ax 2 cC l]⟩]) ap rfl rfl ot call59 (HG l hl row rD ops[i] (E _ (getElem_mem aa)) _ _ (st[(st.length-(bP ops[i].k).toNat)]) (st[(st.length-(bP ops[i].k).toNat)+1]) ha hb (A5 aT _) (A6 aT _) br bc) rfl ⟨ot,ot,ot,trivial⟩ (AR (k:=3) (k':=3) rfl rfl) ?_;exact Ui
   have hb:eX bD ops[i].k st=bD:=(by unfold eX;rw[if_neg w4])
   refine aC 4 ?_;refine OD.j9 (f:=59) (args:=[_,_,_]) (all:=[_,_,_,_,_]) (Sf:=[⟨br,28,1,[ax 3 cV row]⟩,⟨bc,27,1,[ax 2 cC l]⟩]) ap rfl rfl ot call59 (HG l hl row rD ops[i] (E _ (getElem_mem aa)) _ _ (st[(st.length-(bP ops[i].k).toNat)]) (bD) ha hb (A5 aT _) (A6 aT _) br bc) rfl ⟨ot,ot,ot,trivial⟩ (AR (k:=3) (k':=3) rfl rfl) ?_;exact Ui
  have ha:fg bD ops[i].k st=bD:=(by unfold fg;rw[if_neg w4])
  refine af [1,4,6,7,9,10,11,13,16,17,18,36] ?_;refine au ?_ ?_<;>intro cr cU
  ·exact absurd cr (by simp at *;omega)
  have hb:eX bD ops[i].k st=bD:=(by unfold eX;rw[if_neg w4])
  refine aC 4 ?_;refine OD.j9 (f:=59) (args:=[_,_,_]) (all:=[_,_,_,_,_]) (Sf:=[⟨br,28,1,[ax 3 cV row]⟩,⟨bc,27,1,[ax 2 cC l]⟩]) ap rfl rfl ot call59 (HG l hl row rD ops[i] (E _ (getElem_mem aa)) _ _ (bD) (bD) ha hb (A5 aT _) (A6 aT _) br bc) rfl ⟨ot,ot,ot,trivial⟩ (AR (k:=3) (k':=3) rfl rfl) ?_;rintro _ _ ⟨rfl,rfl⟩;refine aE 3 ?_;refine OD.alloc (ds:=[_,_,_]) ap rfl rfl zeroValue41 rfl (fun Ac=>?_);refine aK 0 [_,_,_] sizeOf41 ?_;refine an 64 [1,4,6,7,13,14,15,16,17,18] ?_;refine af [1,4,6,7,13,14,15,16,17,18,51] ?_;refine au ?_ ?_<;>intro cX ec
  ·exact VD
  have hz:(fT l row ops[i] (fg bD ops[i].k st) (eX bD ops[i].k st)).2=0:=(by simpa using cX)
  refine CD.skip ?_;refine CD.rZ (k:=(st.length-(bP ops[i].k).toNat)) (ls:=(st)) (Sq:=Sh) fj w4 nH (dI (A:=[_,_,_,_,_,_,_,_])) (fun BF Bl=>?_);exact z5
 have h1:=P5 w4 hex;have UJ:0<st.length:=(by omega)
 obtain⟨bh,rfl,wE,wg,rfl⟩:=nH.pos w4;have aV:=hinv.trans (P4 w4);have kN:st.getD 0 bD=st[0]:=(by rw[getD_eq_getElem?_getD,getElem?_eq_getElem UJ];rfl)
 rw[kN] at aV;refine aC 1 ?_;refine bQ (pW (mk:=Op.indexAddr 28) rfl ot bI (by first|exact qG (j:=0) runUnderlying28 sizeOf41 rfl zP|exact qL (j:=0) runUnderlying28 sizeOf41 rfl zP)) ?_;refine bQ (cM (mk:=Op.load 41) rfl ot (dN (k:=4) fj rfl rfl rfl isAgg41 sizeOf41 UJ)) ?_;refine aK 3 [_,_,_] sizeOf41 ?_;refine an 64 [4,5] ?_;exact Uc
theorem ac0(l:List cz)(hl:l.length≤6)(row:List Vl)(O:row.length=l.length)(E:∀v∈row,v.Ok)(ops:List aU)(fN:∀o∈ops,o.v.Ok)(I:∀o∈ops,o.k=2→0≤bM l o.nm)(hx:iM ops=0):VP Tryz.prog G 35 [ax 2 cC l,ax 3 cV row,ax 5 cO ops] (mO (uR l row ops)):=by
 refine VC.body func35 rfl ntmps35 aO fun X0 w0 aY=>?_;obtain⟨U,gW⟩:=vV hx;have fR:=fun br bc=>abj (G:=G) l hl row O E ops fN I U gW br bc;unfold mO at fR ⊢;generalize uR l row ops=q at fR ⊢;skip;refine cf ?_;refine OD.box (ds:=[_]) ap rfl rfl ot rfl rfl (fun b3=>?_);refine OD.box (ds:=[_]) ap rfl rfl ot rfl rfl (fun b4=>?_);refine OD.alloc (ds:=[_,_,_]) ap rfl rfl zeroValue41 rfl (fun b6=>?_);refine an 13 [2,3,4,6] ?_;refine aC 1 ?_;refine bQ (oZ (ds:=[_,_]) rfl ⟨ot,ot,trivial⟩) ?_;refine OD.call ap rfl rfl rfl call58 (fR b4 b3) ⟨ot,ot,trivial⟩ (AR (k:=1) (k':=1) rfl rfl) ?_;rintro _ _ ⟨rfl,rfl⟩;refine aE 2 ?_;refine aK 2 [_,_,_] sizeOf41 ?_;refine an 13 [6,7] ?_;exact mI
theorem RF(hm:(3,marksC)∈G)(hw:(1,wordsC)∈G)(ht:(0,typesC)∈G)(l:List cz)(hl:l.length≤6)(aT:∀c∈l,c.n.size≤maxLen)(row:List Vl)(Z:row.length≤1000)(E:∀v∈row,v.Ok)(ops:List aU)(ho:∀o∈ops,o.nm.size≤maxLen)(fN:∀o∈ops,o.v.Ok):VP Tryz.prog G 20 [ax 2 cC l,ax 3 cV row,ax 5 cO ops] (mO (eW l row ops)):=by
 refine VC.body func20 rfl ntmps20 aO fun X0 w0 aY=>?_;have dy:=dY;have U:=Jw hm hw ht l w4 aT row w4;have I:=I0 hm hw ht l hl aT ops ho;unfold pz at I;unfold mO;refine cf ?_;refine OD.alloc (ds:=[_,_,_]) ap rfl rfl zeroValue41 rfl (fun b6=>?_);refine an 34 [0,1,2,6] ?_;refine cW [0,1,2,6,8] (U) ?_;refine af [0,1,2,6,8,15] ?_;refine au ?_ ?_<;>intro aP bF
 ·have h0:dZ l row≠0:=(by simpa using aP)
  have aV:eW l row ops=(bD,dZ l row):=(by unfold eW;rw[if_pos h0])
  refine aC 2 ?_;refine aK 0 [_,_,_] sizeOf41 ?_;refine an 34 [6,7] ?_;exact oM
 have h0:dZ l row=0:=(by simpa using aP)
 refine cW [0,1,2,6,10] (I) ?_;refine af [0,1,2,6,10,25] ?_;refine au ?_ ?_<;>intro aX cJ
 ·have h1:(eo l ops).2≠0:=(by simpa using aX)
  have aV:eW l row ops=(bD,(eo l ops).2):=(by unfold eW;rw[if_neg (by simp[h0]),if_pos h1])
  refine aC 2 ?_;refine aK 0 [_,_,_] sizeOf41 ?_;refine an 34 [6,7] ?_;exact oM
 have h1:(eo l ops).2=0:=(by simpa using aX)
 obtain⟨k1,k2,k3⟩:=EI h1;have aV:eW l row ops=uR l row ops:=(by unfold eW;rw[if_neg (by simp[h0]),if_neg (by simp[h1])])
 have O:=ac0 (G:=G) l hl row (IQ h0) E ops fN (OG (by rw[←k3];exact h1)) k2;unfold mO at O;refine aC 3 ?_;refine dO call35 (O) ?_;refine aE 2 ?_;refine aK 0 [_,_,_] sizeOf41 ?_;refine an 34 [6,7] ?_;exact tU

end Go.Proofs.YtdgichenhdikgaaGreatDoor.Ex
namespace Go.Proofs.YtdgichenhdikgaaGreatDoor.Pc
open List
open Go.Proofs.Tryz
open Go.RowKit V Pk Vl Go.Proofs.YtdgichenhdikgaaGreatDoor.Nm
variable {G:List (Nat×List Value)}
def dB:List cz:=[⟨⟨#[105,100]⟩,2⟩,⟨⟨#[110]⟩,2⟩,⟨⟨#[115]⟩,3⟩,⟨⟨#[98]⟩,1⟩]
def p9(n:Int):Vl:=if ei n 3=2 then bD else ⟨1,ei n 3,⟨#[]⟩⟩
def wS(n:Int):Vl:=⟨2,n,⟨#[]⟩⟩
theorem af8:cQ ⟨#[105,100]⟩=0:=sQ (l:=[105,100]) w7 w7 w7
theorem aip:cQ ⟨#[110]⟩=0:=sQ (l:=[110]) w7 w7 w7
theorem aiq:cQ ⟨#[115]⟩=0:=sQ (l:=[115]) w7 w7 w7
theorem air:cQ ⟨#[98]⟩=0:=sQ (l:=[98]) w7 w7 w7
theorem yC:fE dB=0:=by
 simp[fE,dB,qO,mY,af8,aip,aiq,air,vQ]
theorem acj:∀c∈dB,c.n.size≤maxLen:=fun c hc=>by
 have h:c.n.size≤2:=by
  simp only[dB,mem_cons,not_mem_nil,or_false] at hc;rcases hc with rfl|rfl|rfl|rfl
  ·exact Nat.le_refl 2
  ·exact Nat.le_succ 1
  ·exact Nat.le_succ 1
  exact Nat.le_succ 1
 exact Nat.le_trans h w7
theorem aeO(n:Int):dP (wS n)=0:=by
 unfold dP;rw[if_neg (show ¬(wS n).k=0 by show ¬(2:Int)=0;decide),if_neg (show ¬(wS n).k=1 by show ¬(2:Int)=1;decide),if_pos (show(wS n).k=2 from rfl),if_neg (fun h=>h rfl)]
theorem Fm:dP bD=0:=by decide
theorem OH:VP Tryz.prog G 18 [] (ax 2 cC dB):=by
 refine VC.body func18 rfl ntmps18 aO fun X0 w0 aY=>?_;refine af [] ?_;refine aC 4 ?_;refine en (bZ 0 [_,_,_,_]) [.string ⟨#[]⟩,.int .i64 0,.string ⟨#[]⟩,.int .i64 0,.string ⟨#[]⟩,.int .i64 0,.string ⟨#[]⟩,.int .i64 0] [_,_,_,_,_,_,_,_] zeroValue69 runUnderlying27 sizeOf69 (fun b5=>?_);refine OD.perm (ee (S1:=[⟨b5,69,4*2,flatMap cC ([⟨⟨#[105,100]⟩,2⟩,⟨⟨#[110]⟩,2⟩,⟨⟨#[115]⟩,3⟩,⟨⟨#[98]⟩,1⟩])⟩]) (A:=[])) ?_;refine an 6 [0] ?_;refine CD.iq (t:=0) (Sq:=[⟨b5,69,4*2,flatMap cC ([⟨⟨#[105,100]⟩,2⟩,⟨⟨#[110]⟩,2⟩,⟨⟨#[115]⟩,3⟩,⟨⟨#[98]⟩,1⟩])⟩]) lk (bJ (g:=cC) (sz:=2) (e:=69) (ls:=[⟨⟨#[105,100]⟩,2⟩,⟨⟨#[110]⟩,2⟩,⟨⟨#[115]⟩,3⟩,⟨⟨#[98]⟩,1⟩]) (Nat.le_refl _) (show 4≤maxLen by decide)) (cy lB _) (dI (A:=[])) ?_;exact mI

end Go.Proofs.YtdgichenhdikgaaGreatDoor.Pc
namespace Go.Proofs.YtdgichenhdikgaaGreatDoor.Ex
open List
open Go.Proofs.Tryz
open Go.RowKit V Pk Vl Go.Proofs.YtdgichenhdikgaaGreatDoor.Nm Pc
variable {k:Int} {a b:Vl} {l:List cz} {row:List Vl} {o:aU} {α:Type} {ks:List Int}
theorem Hi(b:Bool):dP (p8 b)=0:=by cases b<;>decide
theorem ZD(n:Int):dP ⟨2,n,⟨#[]⟩⟩=0:=aeO n
theorem EJ(h:¬(k=8∨k=9∨k=10)):wH k=1:=if_neg h
theorem ac1(h:k=8∨k=9∨k=10):wH k=2:=if_pos h
theorem Ig(b:Bool):(p8 b).k=1:=by cases b<;>rfl
theorem D7{v:Vl}(h:iO v=0):dP v=0:=by
 unfold iO at h;split at h
 ·cases h
 exact h
def jI(k:Int)(v:Vl):Prop:=dP v=0∧(v.k=k∨v.k=0)
theorem Bh:jI 0 bD:=⟨Fm,.inl rfl⟩
structure y6 (l:List cz) (o:aU):Prop where
 nm:o.nm.size≤maxLen
 ok:o.v.Ok
 ck:dP o.v=0
 k1:1≤o.k
 k2:o.k≤11
 WW:o.k=2→0≤bM l o.nm
def Fp(l:List cz)(row:List Vl):Prop:=∀i:Nat,jI (l.getD i ⟨⟨#[]⟩,0⟩).k (row.getD i bD)
theorem y7{a b:Int}(h:rC a b=true):a=b∨a=0:=by
 unfold rC at h;simpa using h
theorem YE{d:Int}(ha:dP a=0)(hb:dP b=0)(h1:a.k=1∨a.k=0)(h2:b.k=1∨b.k=0):(kY a b d).2=0∧jI 1 (kY a b d).1:=by
 unfold kY;rw[if_neg w4];split
 ·exact⟨rfl,ha,h1⟩
 split
 ·exact⟨rfl,hb,h2⟩
 split
 ·exact⟨rfl,Fm,.inr rfl⟩
 exact⟨rfl,ha,h1⟩
theorem ac2(ha:dP a=0)(hb:dP b=0):Cd.mz a b=0:=by unfold Cd.mz;rw[ha,hb];rfl
theorem ZE(h:Cd.mz a b=0)(hk:k=3∨k=4):∃d,iu k a b=kY a b d:=by
 unfold iu;rw[if_neg (by simp[h])];rcases hk with rfl|rfl
 ·exact⟨0,if_pos rfl⟩
 exact⟨1,by rw[if_neg w7,if_pos rfl]⟩
theorem abk(h:Cd.mz a b=0)(hk:k=6∨k=7):iu k a b=if qQ a b=true then (bD,0) else if a.k≠b.k then (bD,4) else (p8 ((Cd.gw a b==0&&k==6)||(decide (Cd.gw a b<0)&&k==7)),0):=by
 unfold iu;rw[if_neg (by simp[h]),if_neg w4,if_neg w4,if_pos hk]
theorem ZF(hr:Fp l row)(ho:y6 l o){a b:Int}{E vb:Vl}(ha:jI a E)(hb:jI b vb)(h:(iX l o a b).2=0) :
  (fT l row o E vb).2=5∨((fT l row o E vb).2=0∧jI (iX l o a b).1 (fT l row o E vb).1):=by
 have k1:=ho.k1;have k2:=ho.k2;obtain⟨ca,ka⟩:=ha;obtain⟨cb,kb⟩:=hb;have O:=ac2 ca cb;unfold iX at h ⊢;by_cases e1:o.k=1
 ·rw[if_pos e1];have:fT l row o E vb=(o.v,0):=(by unfold fT bP;rw[if_neg w4,if_neg (by rw[if_pos (.inl e1)];omega),if_neg w4]<;>(try rw[if_pos (.inl e1)];omega))
  rw[this];exact .inr ⟨rfl,ho.ck,.inl rfl⟩
 rw[if_neg e1] at h ⊢;by_cases e2:o.k=2
 ·rw[if_pos e2] at h ⊢;have hp:bP o.k=0:=(by unfold bP;rw[if_pos (.inr e2)])
  have hc:=ho.WW e2;have:fT l row o E vb=(row.getD (bM l o.nm).toNat bD,0):=(by unfold fT;rw[if_neg w4,if_neg w4,if_pos e2])
  rw[this];unfold uH;rw[if_neg w4];exact .inr ⟨rfl,hr _⟩
 rw[if_neg e2] at h ⊢;have aT:okF o.k a b=true:=by
  by_cases hk:okF o.k a b=true
  ·exact hk
  rw[if_neg hk] at h;cases h
 rw[if_pos aT];unfold okF at aT;by_cases I:o.k=5∨o.k=11
 ·have hp:bP o.k=1:=(by unfold bP;rw[if_neg w4,if_pos I])
  have he:fT l row o E vb=tF o.k E:=(by unfold fT;rw[if_pos hp])
  rw[he];unfold tF;rw[if_neg (by simp[ca])];rcases I with I|I
  ·have U:¬(o.k=3∨o.k=4):=(by omega)
   have Z:¬o.k=11:=(by omega)
   rw[if_neg U,if_pos I] at aT;have hi:=y7 aT;rw[if_neg Z,if_pos I,EJ w4];by_cases z:E.k=0
   ·rw[if_pos z];exact .inr ⟨rfl,ca,.inr z⟩
   rw[if_neg z,if_pos w4];exact .inr ⟨rfl,Hi _,.inl (Ig _)⟩
  rw[if_pos I,EJ w4];exact .inr ⟨rfl,Hi _,.inl (Ig _)⟩
 have hp:bP o.k=2:=(by unfold bP;rw[if_neg w4,if_neg I])
 have he:fT l row o E vb=iu o.k E vb:=(by unfold fT;rw[if_neg w4,if_pos hp])
 rw[he];by_cases e3:o.k=3∨o.k=4
 ·rw[if_pos e3,Bool.and_eq_true] at aT;have i1:=y7 aT.1;have i2:=y7 aT.2;obtain⟨d,hd⟩:=ZE O e3;rw[hd,EJ w4];exact .inr (YE ca cb w4 w4)
 have n5:¬o.k=5:=(by omega)
 rw[if_neg e3,if_neg n5] at aT;by_cases e6:o.k=6∨o.k=7
 ·rw[if_pos e6,Bool.or_eq_true] at aT;rw[abk O e6,EJ w4];by_cases hn:qQ E vb=true
  ·rw[if_pos hn];exact .inr ⟨rfl,Fm,.inr rfl⟩
  rw[if_neg hn];unfold qQ at hn;simp only[Bool.or_eq_true,beq_iff_eq,not_or] at hn;have lj:E.k=vb.k:=by
   rcases aT with aT|aT
   ·have:=y7 aT;omega
   have:b=0:=(by simpa using aT)
   omega
  rw[if_neg (by simpa using lj)];exact .inr ⟨rfl,Hi _,.inl (Ig _)⟩
 have e8:o.k=8∨o.k=9∨o.k=10:=(by omega)
 rw[if_neg e6,if_pos e8,Bool.and_eq_true] at aT;have i1:=y7 aT.1;have i2:=y7 aT.2;rw[Ob O e8 w4,ac1 e8];split
 ·exact .inr ⟨rfl,Fm,.inr rfl⟩
 split
 ·exact .inr ⟨rfl,ZD _,.inl rfl⟩
 exact .inl rfl
theorem I2{z:α}{f:aU→α→α→α × Int}{r:List aU}{st:List α}(h:(f o (fg z o.k st) (eX z o.k st)).2=0):jz z f (o::r) st=jz z f r (st.take (st.length-(bP o.k).toNat)++[(f o (fg z o.k st) (eX z o.k st)).1]):=by
 rw[jz,if_neg (by rw[h];simp)]
theorem Ih{z:α}{f:aU→α→α→α × Int}{r:List aU}{st:List α}(h:(f o (fg z o.k st) (eX z o.k st)).2≠0):jz z f (o::r) st=(z,(f o (fg z o.k st) (eX z o.k st)).2):=by
 rw[jz,if_pos h]
def BX(ks:List Int)(vs:List Vl):Prop:=ks.length=vs.length∧∀i:Nat,jI (ks.getD i 0) (vs.getD i bD)
theorem P8(z x:α)(l:List α)(n i:Nat)(hn:n≤l.length):(l.take n++[x]).getD i z=if i<n then l.getD i z else if i=n then x else z:=by
 have hl:(l.take n).length=n:=(by rw[length_take];omega)
 by_cases h1:i<n
 ·rw[if_pos h1,getD_eq_getElem?_getD,getD_eq_getElem?_getD,getElem?_append_left w4,getElem?_take,if_pos h1]
 rw[if_neg h1,getD_eq_getElem?_getD,getElem?_append_right w4,hl];by_cases h2:i=n
 ·rw[if_pos h2,h2,Nat.sub_self];rfl
 rw[if_neg h2,getElem?_eq_none (by rw[length_singleton];omega)];rfl
theorem ac3{vs:List Vl}(h:BX ks vs){v:Vl}(hr:jI k v){n:Nat}(hn:n≤ks.length):BX (ks.take n++[k]) (vs.take n++[v]):=by
 have hl:=h.1;refine⟨by simp only[length_append,length_take,length_singleton];omega,fun i=>?_⟩;rw[P8 _ _ _ _ _ hn,P8 _ _ _ _ _ w4];split
 ·exact h.2 i
 split
 ·exact hr
 exact Bh
theorem ac4{vs:List Vl}(h:BX ks vs)(k:Int):jI (fg 0 k ks) (fg bD k vs)∧jI (eX 0 k ks) (eX bD k vs):=by
 have hl:=h.1;unfold fg eX;rw[hl];refine⟨?_,?_⟩
 ·split
  ·exact h.2 _
  exact Bh
 split
 ·exact h.2 _
 exact Bh
theorem OI{l:List cz}{row:List Vl}(hr:Fp l row):∀(ops:List aU),(∀o∈ops,y6 l o)→∀(ks:List Int) (vs:List Vl),BX ks vs→(jz 0 (iX l) ops ks).2=0 →
  (jz bD (fT l row) ops vs).2=5∨((jz bD (fT l row) ops vs).2=0∧jI (jz 0 (iX l) ops ks).1 (jz bD (fT l row) ops vs).1)
 | [],_,ks,vs,h,_=>.inr ⟨rfl,h.2 0⟩
 | o::r,hg,ks,vs,h,h0=>by
  obtain⟨hA,hB⟩:=ac4 h o.k;by_cases hm:(iX l o (fg 0 o.k ks) (eX 0 o.k ks)).2=0
  ·rw[I2 hm] at h0 ⊢;rcases ZF hr (hg o mem_cons_self) hA hB hm with h5|⟨hz,E⟩
   ·rw[Ih (by rw[h5];decide)];exact .inl h5
   rw[I2 hz];have:=ac3 h E (n:=ks.length-(bP o.k).toNat) (Nat.sub_le _ _);rw[show vs.length-(bP o.k).toNat=ks.length-(bP o.k).toNat by rw[h.1]];exact OI hr r (fun x hx=>hg x (mem_cons_of_mem _ hx)) _ _ this h0
  rw[Ih hm] at h0;exact absurd h0 hm
theorem abl(ho:y6 l o)(a b:Int):(iX l o a b).2=0∨(iX l o a b).2=4:=by
 unfold iX;split
 ·exact .inl rfl
 split
 ·rename_i h2;have:=ho.WW h2;unfold uH;rw[if_neg w4];exact .inl rfl
 split
 ·exact .inl rfl
 exact .inr rfl
theorem P9{l:List cz}:∀(ops:List aU),(∀o∈ops,y6 l o)→∀ks,(jz 0 (iX l) ops ks).2=0∨(jz 0 (iX l) ops ks).2=4
 | [],_,ks=>.inl rfl
 | o::r,hg,ks=>by
  rw[jz];split
  ·rename_i hne;rcases abl (hg o mem_cons_self) (fg 0 o.k ks) (eX 0 o.k ks) with h|h
   ·exact absurd h hne
   exact .inr h
  exact P9 r (fun x hx=>hg x (mem_cons_of_mem _ hx)) _
theorem ac5:BX [] []:=⟨rfl,fun i=>by rw[getD_nil,getD_nil];exact Bh⟩
theorem ZG{ops:List aU}(hl:fE l=0)(hw:dZ l row=0)(hr:Fp l row)(hg:∀o∈ops,y6 l o)(hx:iM ops=0) :
  eo l ops=tu l ops∧((eo l ops).2=0∨(eo l ops).2=4)∧((eo l ops).2=4→eW l row ops=(bD,4)) ∧
  ((eo l ops).2=0→eW l row ops=uR l row ops∧((eW l row ops).2=5∨((eW l row ops).2=0∧jI (eo l ops).1 (eW l row ops).1))):=by
 have hk:eo l ops=tu l ops:=(by unfold eo;rw[if_neg (by simp[hl]),if_neg (by simp[hx])])
 refine⟨hk,by rw[hk];exact P9 ops hg [],fun h4=>?_,fun h0=>?_⟩
 ·unfold eW;rw[if_neg (by simp[hw]),if_pos (by rw[h4];decide),h4]
 have he:eW l row ops=uR l row ops:=(by unfold eW;rw[if_neg (by simp[hw]),if_neg (by simp[h0])])
 refine⟨he,?_⟩;rw[he,hk];exact OI hr ops hg [] [] ac5 (by rw[hk] at h0;exact h0)

end Go.Proofs.YtdgichenhdikgaaGreatDoor.Ex
namespace Go.Proofs.YtdgichenhdikgaaGreatDoor.Pc
open List
open Go.Proofs.Tryz
open Go.RowKit V Pk Vl Go.Proofs.YtdgichenhdikgaaGreatDoor.Nm
def typesB:List (List UInt8):=[[],[66,79,79,76],[73,78,84],[84,69,88,84]]
abbrev TypesTab(w:World):Prop:=Tab.my w 0 typesC

end Go.Proofs.YtdgichenhdikgaaGreatDoor.Pc
namespace Go.Proofs.YtdgichenhdikgaaGreatDoor.Ex





open List
open Go.Proofs.Tryz
open Go.RowKit V Pk Vl Go.Proofs.YtdgichenhdikgaaGreatDoor.Nm Pc Cd
open Go.Lib (compareBytes)
variable {ops:List aU} {k:List UInt8}
def nq(ops:List aU)(i:Nat):Int:=(ops.getD i (qM 0)).k
def iP(ops:List aU):Nat→Int→Nat
 | 0,_=>0
 | i+1,need=>if need+(bP (nq ops i)-1)>0 then iP ops i (need+(bP (nq ops i)-1)) else i
theorem uE{i:Nat}(h:i<ops.length):nq ops i=ops[i].k:=by unfold nq;rw[getD_eq_getElem?_getD,getElem?_eq_getElem h];rfl
theorem S4{h h':Int}{o:aU}(he:fa h o=0)(hp:bP o.k≤h'):fa h' o=0:=by
 unfold fa at he ⊢;split at he
 ·cases he
 rename_i q1;rw[if_neg q1];split at he
 ·rename_i h2;exact absurd he h2
 rename_i q2;rw[if_neg q2];split at he
 ·cases he
 rename_i E;rw[if_neg E];split at he
 ·rename_i h4;exact absurd he h4.2
 rename_i I;rw[if_neg I,if_neg w4]
theorem HH{n:Nat}{h:Int}(hn:n<ops.length)(e:runs 0 (ops.take (n+1))=some h):∃h',runs 0 (ops.take n)=some h'∧fa h' ops[n]=0∧h=h'+(1-bP ops[n].k):=by
 rw[take_succ_eq_append_getElem hn,x7] at e;cases hr:runs 0 (ops.take n) with
 | none=>rw[hr] at e;cases e
 | some h' =>
  rw[hr,Option.bind_some,runs] at e;split at e
  ·rename_i he;rw[runs] at e;cases e;exact⟨h',rfl,he,rfl⟩
  cases e
theorem Qa{ops:List aU}:∀(n:Nat) (need h:Int),n≤ops.length→runs 0 (ops.take n)=some h→1≤need→need≤h →
  iP ops n need<n∧runs 0 (ops.take (iP ops n need))=some (h-need)∧∀k:Int,0≤k→runs k ((ops.take n).drop (iP ops n need))=some (k+need)
 | 0,need,h,_,e,h1,h2=>by rw[List.take_zero,runs] at e;cases e;omega
 | n+1,need,h,hn,e,h1,h2=>by
  have aa:n<ops.length:=(by omega)
  obtain⟨h',e1,e2,U⟩:=HH aa e;have I:=s6 ops[n].k;have rp:=(vS e2).1;have E:∀m,m≤n→(ops.take (n+1)).drop m=(ops.take n).drop m++[ops[n]]:=fun m hm=>by
   rw[take_succ_eq_append_getElem aa,drop_append,show m-(ops.take n).length=0 by rw[length_take];omega,drop_zero]
  rw[iP,uE aa];by_cases hc:need+(bP ops[n].k-1)>0
  ·rw[if_pos hc];obtain⟨q1,q2,O⟩:=Qa n (need+(bP ops[n].k-1)) h' w4 e1 w4 w4;refine⟨by omega,by rw[q2];congr 1;omega,fun k hk=>?_⟩;rw[E _ w4,x7,O k hk,Option.bind_some,runs,if_pos (S4 e2 w4),runs];congr 1;omega
  rw[if_neg hc];refine⟨by omega,by rw[e1];congr 1;omega,fun k hk=>?_⟩;rw[E n (Nat.le_refl _),drop_of_length_le oJ,nil_append,runs,if_pos (S4 e2 w4),runs];congr 1;omega
def lX(key:ByteArray)(o:aU):Bool:=o.k==2&&o.nm.toList==key.toList
def gG(o:aU):Bool:=o.k==1 && !(o.v.k==0)
abbrev kS:=List UInt8×List UInt8
variable {b:kS}
def nX(k:List UInt8)(b:kS):kS:=if compareBytes k b.1>0 then (k,b.2) else b
def rR(k:List UInt8)(b:kS):kS:=if b.2.length=0∨compareBytes k b.2<0 then (b.1,k) else b
def uW(kc:Int)(eq not:Bool)(k:List UInt8)(b:kS):kS :=
 bif eq||(kc==0)!=not then rR k (bif eq||(kc==0)==not then nX k b else b) else bif eq||(kc==0)==not then nX k b else b
def zu(ops:List aU):List UInt8:=(gb [(ops.getD (dS gG (ops.take 2)).toNat (qM 0)).v]).1
def mT(key:ByteArray)(ops:List aU)(not:Bool)(b:kS):kS :=
 if ops.length≠3∨(not=true∧nq ops (ops.length-1)≠7)∨(nq ops (ops.length-1)≠6∧nq ops (ops.length-1)≠7) then b
 else if dS (lX key) (ops.take 2)<0∨dS gG (ops.take 2)<0 then b
 else uW (dS (lX key) (ops.take 2)) (nq ops (ops.length-1)==6) not (zu ops) b
def fW(key:ByteArray):Nat→List aU→kS→kS
 | 0,_,b=>b
 | f+1,ops,b =>
  if nq ops (ops.length-1)=3 then fW key f ((ops.take (ops.length-1)).drop (iP ops (ops.length-1) 1)) (fW key f (ops.take (iP ops (ops.length-1) 1)) b)
  else if nq ops (ops.length-1)=5 then mT key (ops.take (ops.length-1)) true b
  else mT key ops false b
variable {G:List (Nat×List Value)} {m:Int}
theorem ZH(ops:List aU)(pL:ops.length≤40)(n:Nat)(hn:n≤ops.length)(h:Int)(hr:runs 0 (ops.take n)=some h)(h1:1≤h):VP Tryz.prog G 159 [ax 5 cO ops,ae (n:Nat)] (ae (iP ops n 1:Nat)):=by
 refine VC.body func159 rfl ntmps159 aO fun X0 w0 aY=>?_;refine af [0,1] ?_;refine af [0,5] ?_;refine af [0,5,6] ?_;refine eL [0] (fun aW _ (E:Nat×Int) aJ=>match E with|(i,need)=>(i≤n)∧(0≤need)∧(need≤1+2*((n:Int)-i))∧((need=0∧iP ops n 1=i)∨(1≤need∧iP ops n 1=iP ops i need∧∃h,runs 0 (ops.take i)=some h∧need≤h))∧aJ=(⟨22,(5,ae (i:Nat))::(6,ae need)::aW,[]⟩:St)) (fun (E:Nat×Int)=>match E with|(i,need)=>i) (n,1) ⟨(Nat.le_refl _),w7,w4,(.inr ⟨by decide,rfl,h,hr,h1⟩),rfl⟩ ?_;rintro⟨i,need⟩ _ ⟨hi,gE,WG,hinv,rfl⟩;refine af [0,5,6,9] ?_;refine au ?_ ?_<;>intro aP bF
 ·obtain⟨hz,_⟩|⟨gh,I,h2,e1,e2⟩:=hinv
  ·omega
  have MQ:0<i:=(by rcases Nat.eq_zero_or_pos i with rfl|h;rw[List.take_zero,runs] at e1;cases e1;omega;exact h)
  have O:-9223372036854775808≤((i-1:Nat):Int):=(by omega)
  have U:((i-1:Nat):Int)≤9223372036854775807:=(by omega)
  have j3:(i:Int)-1=((i-1:Nat):Int):=(by omega)
  have aa:i-1<ops.length:=(by omega)
  have CR:=s6 ops[i-1].k;obtain⟨h3,e3,e4,e5⟩:=HH aa (by rw[show i-1+1=i by omega];exact e1);have rp:=(vS e4).1;have Z:iP ops i need=if need+(bP ops[i-1].k-1)>0 then iP ops (i-1) (need+(bP ops[i-1].k-1)) else i-1:=by obtain⟨j,rfl⟩:∃j,i=j+1:=⟨i-1,by omega⟩;rw[iP,uE w4];rfl
  have nI:(need+(bP ops[i-1].k-1)=0∧iP ops n 1=i-1)∨(1≤need+(bP ops[i-1].k-1)∧iP ops n 1=iP ops (i-1) (need+(bP ops[i-1].k-1))∧∃h,runs 0 (ops.take (i-1))=some h∧need+(bP ops[i-1].k-1)≤h):=(by (by_cases hc:need+(bP ops[i-1].k-1)>0);exact .inr ⟨by omega,by rw[I,Z,if_pos hc],h3,e3,by omega⟩;exact .inl ⟨by omega,by rw[I,Z,if_neg hc]⟩)
  refine cR [0,5,6] ?_;refine aR 1 ?_ (h:=by exact(c9 rfl ot bI (fY (r:=((i-1:Nat):Int)) (by rw[j3];exact wrap_i64 O U))));refine bH ?_;refine iB [0,5,6] ?_;refine cZ (Eo ops[i-1].k) ?_;refine bH ?_;refine⟨((i-1),(need+(bP ops[i-1].k-1))),_,cD,aM,w4,w4,w4,nI,rfl⟩
 have aV:iP ops n 1=i:=(by rcases hinv with ⟨_,h⟩|⟨h,_⟩;exact h;omega)
 refine af [4] ?_;exact tU
theorem OJ(ls:List aU)(g:Nat)(E:List D)(S:List ah)(p:aU→Bool)(fk:∀args w,(callFunc g args).run Tryz.prog w = .ok (.enter g args) w)(hp:∀x∈ls,VC Tryz.prog G g (.agg (cO x)::E) S (fun r S'=>r=bX (p x)∧S'=S))(hlen:ls.length≤1000000):VC Tryz.prog G 160 [ax 5 cO ls,.ey (.func g) E] S (fun r S'=>r=ae (dS p ls)∧S'=S):=by
 refine VC.body func160 rfl ntmps160 aO fun X0 w0 aY=>?_;unfold cO at hp;exact Vm
theorem ZI(o:aU)(nm:ByteArray)(b:Nat):VC Tryz.prog G 161 [.agg (cO o),dJ b] [⟨b,9,1,[bf nm]⟩] (fun r S=>r=bX (lX nm o)∧S=[⟨b,9,1,[bf nm]⟩]):=by
 refine VC.body func161 rfl ntmps161 aO fun X0 w0 aY=>?_;unfold cO lX;refine cf ?_;refine OD.box (ds:=[_,_,_,_,_]) ap rfl rfl ot rfl rfl (fun b2=>?_);refine an 13 [1,2] ?_;refine aC 4 ?_;refine bW 7 (fun I E=>?_) (fun I E=>?_)
 ·refine bg [3] ?_;refine aI [⟨b,9,1,[bf nm]⟩] ?_;first|exact⟨rfl,rfl⟩|(refine⟨vb ?_,rfl⟩;simp_all)
 refine bg [3] ?_;refine aI [⟨b,9,1,[bf nm]⟩] ?_;first|exact⟨rfl,rfl⟩|(refine⟨vb ?_,rfl⟩;simp_all)
theorem ZJ(o:aU):VC Tryz.prog G 162 [.agg (cO o)] [] (fun r S=>r=bX (gG o)∧S=[]):=by
 refine VC.body func162 rfl ntmps162 aO fun X0 w0 aY=>?_;unfold cO gG;refine cf ?_;refine OD.box (ds:=[_,_,_,_,_]) ap rfl rfl ot rfl rfl (fun b1=>?_);refine an 12 [1] ?_;refine aC 4 ?_;refine bW 6 (fun I E=>?_) (fun I E=>?_)
 ·refine bg [2] ?_;refine eK ?_;first|exact⟨rfl,rfl⟩|(refine⟨vb ?_,rfl⟩;simp_all;done)|(refine⟨vb ?_,rfl⟩;simp_all;rfl)
 refine bg [2] ?_;refine eK ?_;first|exact⟨rfl,rfl⟩|(refine⟨vb ?_,rfl⟩;simp_all;done)|(refine⟨vb ?_,rfl⟩;simp_all;rfl)
theorem QU(a b:List UInt8):VP Tryz.prog G 51 [ax 1 cB a,ax 1 cB b] (ae (compareBytes a b)):=by
 exact z130
theorem ZK:(Tryz.prog.info? 5).map (fun i=>(i.zero,i.size,i.bytes))=some (some (.int .u8 0),1,1):=by kernel_rfl
theorem HZ(a:List UInt8)(ha:a.length≤1000):VP Tryz.prog G 95 [ax 1 cB a] (ax 1 cB a):=by
 refine VC.body func95 rfl ntmps95 aO fun X0 w0 aY=>?_;have dy:=dY;refine af [0] ?_;refine aC 1 ?_;refine OD.yU ap rfl rfl ot bI underlying88 (fun O xz=>?_);refine an 8 [0,4] ?_;refine au ?_ ?_<;>intro aP bF
 ·exact V0
 refine cf ?_;refine OD.yV ap rfl rfl runUnderlying88 sizeOf5 (fun b5=>?_);refine aE 1 ?_;refine OD.oY (ls:=([]:List UInt8)) (new:=a) (Sq:=[⟨b5,5,0*1,[]⟩]) pi v8 ap rfl rfl underlying88 ZK rfl w7 runUnderlying88 sizeOf5 ot (.inr ⟨b5,rfl,Nat.le_refl _,Nat.zero_le _,rfl⟩) (dI (A:=[])) ot hU hU (fun E I S7 pG=>?_);exact Up
theorem EF(l:List Vl):(gb l).1.length≤100:=by
 unfold gb;split
 ·simp
 split
 ·simp
 split
 ·simp
 simpa using by omega
theorem ac6(hk:k.length≤100)(h1:b.1.length≤100)(h2:b.2.length≤100):(nX k b).1.length≤100∧(nX k b).2.length≤100:=by unfold nX;split<;>exact⟨by assumption,by assumption⟩
theorem Qb(hk:k.length≤100)(h1:b.1.length≤100)(h2:b.2.length≤100):(rR k b).1.length≤100∧(rR k b).2.length≤100:=by unfold rR;split<;>exact⟨by assumption,by assumption⟩
theorem ac7{E:Int}{eq not:Bool}(hk:k.length≤100)(h1:b.1.length≤100)(h2:b.2.length≤100):(uW E eq not k b).1.length≤100∧(uW E eq not k b).2.length≤100:=by
 unfold uW;have q1:=ac6 hk h1 h2;have q2:=Qb hk h1 h2;have I:=Qb hk q1.1 q1.2;cases(eq||(E==0)!=not)<;>cases(eq||(E==0)==not)
 ·exact⟨h1,h2⟩
 ·exact q1
 ·exact q2
 exact I
theorem yl{key:ByteArray}{not:Bool}(h1:b.1.length≤100)(h2:b.2.length≤100):(mT key ops not b).1.length≤100∧(mT key ops not b).2.length≤100:=by
 unfold mT;split
 ·exact⟨h1,h2⟩
 split
 ·exact⟨h1,h2⟩
 exact ac7 (EF _) h1 h2
theorem I3(key:ByteArray):∀(f:Nat) (ops:List aU) (b:kS),b.1.length≤100→b.2.length≤100→(fW key f ops b).1.length≤100∧(fW key f ops b).2.length≤100
 | 0,_,b,h1,h2=>⟨h1,h2⟩
 | f+1,ops,b,h1,h2=>by
  rw[fW];split
  ·have q:=I3 key f (ops.take (iP ops (ops.length-1) 1)) b h1 h2;exact I3 key f _ _ q.1 q.2
  split
  ·exact yl h1 h2
  exact yl h1 h2
theorem Ep(h:runs 0 ops=some 1):1≤ops.length:=by
 cases ops with
 | nil=>rw[runs] at h;cases h
 | cons=>simp
theorem Qc(h:runs 0 ops=some 1):∃(hn:ops.length-1<ops.length),runs 0 (ops.take (ops.length-1))=some (bP ops[ops.length-1].k):=by
 have hp:=Ep h;have aa:ops.length-1<ops.length:=(by omega)
 refine⟨aa,?_⟩;obtain⟨h',e1,e2,E⟩:=HH aa (by rw[show ops.length-1+1=ops.length by omega,take_length];exact h);rw[e1];congr 1;omega
theorem ac8(h:runs 0 ops=some 1)(hk:nq ops (ops.length-1)=3):iP ops (ops.length-1) 1<ops.length-1∧runs 0 (ops.take (iP ops (ops.length-1) 1))=some 1∧runs 0 ((ops.take (ops.length-1)).drop (iP ops (ops.length-1) 1))=some 1∧runs 0 (ops.take (ops.length-1))=some 2:=by
 obtain⟨hn,e⟩:=Qc h;rw[uE hn] at hk;rw[hk] at e;obtain⟨q1,q2,E⟩:=Qa (ops.length-1) 1 2 w4 e w7 w7;exact⟨q1,q2,E 0 w7,e⟩
variable {key:ByteArray}
theorem aeP{ls:List aU}{j:Nat}(h:j<ls.length):((ls.flatMap cO).drop (j*5+1)).take 3=cV ls[j].v:=by
 rw[←drop_drop,uz mR,drop_eq_getElem_cons h,flatMap_cons];rfl
theorem abm(hG:(2,[Value.int .i64 m])∈G)(key:ByteArray)(f:Nat)(hf:f≤40)(IH:∀(ops:List aU) (lo hi:List UInt8),ops.length≤f→runs 0 ops=some 1→(∀o∈ops,o.v.Ok)→lo.length≤100→hi.length≤100→∀b0,VC Tryz.prog G 151 [dJ b0,bf key,ax 5 cO ops] [⟨b0,225,2,[ax 1 cB lo,ax 1 cB hi]⟩] (fun r S=>r = .dG []∧S=[⟨b0,225,2,[.list 1 ((fW key f ops (lo,hi)).1.flatMap cB) (fW key f ops (lo,hi)).1.length,.list 1 ((fW key f ops (lo,hi)).2.flatMap cB) (fW key f ops (lo,hi)).2.length]⟩]))(ops:List aU)(lo hi:List UInt8)(hl:ops.length≤f+1)(pL:ops.length≤40)(hr:runs 0 ops=some 1)(aT:∀o∈ops,o.v.Ok)(eR:lo.length≤100)(ez:hi.length≤100)(b0:Nat):VC Tryz.prog G 151 [dJ b0,bf key,ax 5 cO ops] [⟨b0,225,2,[ax 1 cB lo,ax 1 cB hi]⟩] (fun r S=>r = .dG []∧S=[⟨b0,225,2,[.list 1 ((fW key (f+1) ops (lo,hi)).1.flatMap cB) (fW key (f+1) ops (lo,hi)).1.length,.list 1 ((fW key (f+1) ops (lo,hi)).2.flatMap cB) (fW key (f+1) ops (lo,hi)).2.length]⟩]):=by
 refine VC.body func151 rfl ntmps151 aO fun X0 w0 aY=>?_;have hp0:=Ep hr;obtain⟨gh,WX⟩:=Qc hr;have I:=uE gh;have dy:=dY;have CR:=s6 ops[ops.length-1].k;refine cf ?_;refine OD.box (ds:=[_]) ap rfl rfl ot rfl rfl (fun b4=>?_);refine an 155 [0,2,4] ?_;refine cR [0,2,4,6] ?_;refine aR 2 ?_ (h:=by exact(c9 rfl ot bI (fY (r:=((ops.length-1:Nat):Int)) (by rw[show((ops.length:Nat):Int)-1=((ops.length-1:Nat):Int) by omega];exact wrap_i64 w4 w4))));refine bH ?_;refine af [0,2,4,6,22] ?_;refine au ?_ ?_<;>intro aP bF
 ·have lP:nq ops (ops.length-1)=3:=(by rw[I];omega)
  obtain⟨C1,Wc,hm3,hm4⟩:=ac8 hr lP;have aV:(fW key (f+1) ops (lo,hi))=fW key f ((ops.take (ops.length-1)).drop (iP ops (ops.length-1) 1)) (fW key f (ops.take (iP ops (ops.length-1) 1)) (lo,hi)):=(by rw[fW,if_pos lP])
  have C2:=I3 key f (ops.take (iP ops (ops.length-1) 1)) (lo,hi) eR ez;refine cW [0,2,4,6,7] (ZH ops w4 (ops.length-1) w4 2 hm4 w7) ?_;refine CD.seq ?_;refine l9 5 [0,2,4,6,7,26,27,30] ?_;refine aR 4 ?_ (h:=by exact(eu (l:=0) rfl ot trivial ⟨_,ot⟩ Gg));refine jX ?_;refine OD.call ap rfl rfl rfl call151 (IH (ops.take (iP ops (ops.length-1) 1)) (lo) (hi) (by simp only[length_drop,length_take];omega) Wc (fun o ho=>aT o (mem_of_mem_take ho)) w4 w4 b0) ⟨ot,ot,ot,trivial⟩ (j5 (k:=1) rfl) ?_;rintro _ _ ⟨rfl,rfl⟩;refine an 155 [0,2,4,6,7] ?_;refine CD.seq ?_;refine l9 6 [32,33,37] ?_;refine aR 5 ?_ (h:=by exact(eu (l:=(iP ops (ops.length-1) 1)) (h:=(ops.length-1)) rfl ot ⟨_,ot⟩ ⟨_,ot⟩ (aex mR (fun h=>by cases h) (fun h=>by cases h) runUnderlying30 sizeOf43 w4 w4)));refine jX ?_;refine OD.call ap rfl rfl rfl call151 (IH ((ops.take (ops.length-1)).drop (iP ops (ops.length-1) 1)) ((fW key f (ops.take (iP ops (ops.length-1) 1)) (lo,hi)).1) ((fW key f (ops.take (iP ops (ops.length-1) 1)) (lo,hi)).2) (by simp only[length_drop,length_take];omega) hm3 (fun o ho=>aT o (mem_of_mem_take (mem_of_mem_drop ho))) w4 w4 b0) ⟨ot,ot,ot,trivial⟩ (j5 (k:=0) rfl) ?_;rintro _ _ ⟨rfl,rfl⟩;refine an 155 [] ?_;exact Vz
 have lP:¬nq ops (ops.length-1)=3:=(by rw[I];omega)
 refine af [0,2,4,6,8] ?_;refine CD.cut (fun aJ=>∃(bp:List aU),∃(nt:Bool),((fW key (f+1) ops (lo,hi))=mT key bp nt (lo,hi))∧(1≤bp.length)∧(bp.length≤40)∧(∀o∈bp,o.v.Ok)∧(bp.length-1<bp.length)∧aJ=(⟨155,[(0,dJ b0),(2,ax 5 cO bp),(4,dJ b4),(6,ae ((bp.length-1):Nat)),(8,bX nt)],[⟨b4,9,1,[bf key]⟩,⟨b0,225,2,[ax 1 cB lo,ax 1 cB hi]⟩]⟩:St)) ?_ ?_
 ·refine af [0,2,4,6,8,45] ?_;refine au ?_ ?_<;>intro aX cJ
  ·have U:nq ops (ops.length-1)=5:=(by rw[I];simpa using aX)
   have iT:2≤ops.length:=(by rw[←I,U] at WX;have:=Ep WX;rw[length_take] at this;omega)
   have Ap:(fW key (f+1) ops (lo,hi))=mT key (ops.take (ops.length-1)) true (lo,hi):=(by rw[fW,if_neg lP,if_pos U])
   have oI:(ops.take (ops.length-1)).length=(ops.length-1):=(by rw[length_take];omega)
   refine cR [0,2,4,6,8] ?_;refine aR 2 ?_ (h:=by exact(eu (l:=0) rfl ot trivial ⟨_,ot⟩ Gg));refine bH ?_;refine iB [0,2,4,6,8] ?_;refine aR 1 ?_ (h:=by exact(c9 rfl ot bI (fY (r:=((ops.length-1-1:Nat):Int)) (by rw[show((ops.length-1:Nat):Int)-1=((ops.length-1-1:Nat):Int) by omega];exact wrap_i64 w4 w4))));refine bH ?_;refine⟨_,(aM (h:=by repeat (first|exact trivial|refine⟨(by (repeat (first|exact fx|(apply fQ;focus (first|rfl|(rw[oI];done)|(rw[aX];done)))|(apply fD;focus rfl)));done),?_⟩))),(ops.take (ops.length-1)),true,Ap,w4,w4,(fun o ho=>aT o (mem_of_mem_take ho)),w4,rfl⟩
  have U:¬nq ops (ops.length-1)=5:=(by rw[I];simpa using aX)
  have Ap:(fW key (f+1) ops (lo,hi))=mT key ops false (lo,hi):=(by rw[fW,if_neg lP,if_neg U])
  refine CD.skip ?_;refine⟨_,(aM (h:=by repeat (first|exact trivial|refine⟨(by (repeat (first|exact fx|(apply fQ;focus (first|rfl|(rw[oI];done)|(rw[aX];done)))|(apply fD;focus rfl)));done),?_⟩))),ops,false,Ap,hp0,pL,aT,gh,rfl⟩
 rintro _ ⟨bp,nt,aV,oc,aoA,jK,uX,rfl⟩;refine jQ [0,2,4,6,8] (fun aW ug aJ=>(¬(bp.length≠3∨(nt=true∧bp[bp.length-1].k≠7)∨(bp[bp.length-1].k≠6∧bp[bp.length-1].k≠7)))∧aJ=(⟨155,aW,ug⟩:St)) ?_ ?_
 ·refine aC 3 ?_;refine bW 53 (fun KN JZ=>?_) (fun KN JZ=>?_)
  ·refine bg [0,2,4,6,8,79] ?_;refine eE ?_;exact z37
  refine aE 2 ?_;refine bW 55 (fun tD af9=>?_) (fun tD af9=>?_)
  ·refine aE 9 ?_;refine bW 64 (fun KW J2=>?_) (fun KW J2=>?_)
   ·refine bg [0,2,4,6,8,79] ?_;refine eE ?_;exact z37
   refine aE 7 ?_;exact Vv
  refine xC 6 ?_;refine aE 10 ?_;exact Vv
 rintro _ ⟨rY,rfl⟩;refine aC 1 ?_;refine bQ (eu (l:=0) (h:=2) rfl ot trivial ⟨_,bI⟩ Gg) ?_;refine bQ (oZ (ds:=[_]) rfl ⟨ot,trivial⟩) ?_;refine OD.call ap rfl rfl rfl call160 (OJ (bp.take 2) 161 [dJ b4] _ (lX key) call161 (fun h _=>ZI h key b4) oJ) ⟨ot,ot,trivial⟩ (j5 (k:=0) rfl) ?_;rintro _ SS2 ⟨rfl,E⟩;rw[E];clear E;refine an 155 [0,2,6,8,9] ?_;refine aC 1 ?_;refine bQ (eu (l:=0) (h:=2) rfl ot trivial ⟨_,bI⟩ Gg) ?_;refine OD.call ap rfl rfl rfl call160 (OJ (bp.take 2) 162 [] [] gG call162 (fun h _=>ZJ h) oJ) ⟨ot,sU,trivial⟩ (eO _) ?_;rintro _ SS2 ⟨rfl,E⟩;rw[E];clear E;refine an 155 [0,2,6,8,9,10] ?_;refine aC 3 ?_;refine bW 89 (fun ais aga=>?_) (fun ais aga=>?_)
 ·refine bg [0,2,6,8,9,10,92] ?_;refine eE ?_;exact Um
 refine bg [0,2,6,8,9,10,92] ?_;refine au ?_ ?_<;>intro cX ec
 ·exact Um
 have cr:¬((dS (lX key) (bp.take 2))<0∨(dS gG (bp.take 2))<0):=(by first|omega|(simp_all;omega)|simp_all)
 have hLb:=yB gG (bp.take 2);have GA:bp.length=3:=(by omega)
 rw[length_take] at hLb;have O:(dS gG (bp.take 2)).toNat<bp.length:=(by omega)
 have Mt:zu bp=(gb [bp[(dS gG (bp.take 2)).toNat].v]).1:=(by unfold zu;rw[getD_eq_getElem?_getD,getElem?_eq_getElem O];rfl)
 have TA:(fW key (f+1) ops (lo,hi))=uW (dS (lX key) (bp.take 2)) (bp[bp.length-1].k==6) nt (gb [bp[(dS gG (bp.take 2)).toNat].v]).1 (lo,hi):=(by rw[aV];unfold mT;rw[uE uX,if_neg rY,if_neg cr,Mt])
 have xR:=aeD hG [bp[(dS gG (bp.take 2)).toNat].v] hU (fun v hv=>by rw[mem_singleton] at hv;rw[hv];exact jK _ (getElem_mem O));have dX:=EF [bp[(dS gG (bp.take 2)).toNat].v];unfold KF Bg at xR;refine cR [0,2,6,8,9,11] ?_;refine aR 2 ?_ (h:=by exact(dF 5 (h:=by first|exact .l (j:=(dS gG (bp.take 2)).toNat) w4 O|exact .r (j:=(dS gG (bp.take 2)).toNat) w4 O)));refine aR 1 ?_ (h:=by exact(cM (mk:=Op.load 41) rfl ot (qb isAgg41 sizeOf41 rfl (aeP O))));refine cZ (xR) ?_;refine bH ?_;refine af [0,8,9,11,13] ?_;refine jQ [0,8,9,11,13] (fun aW _ aJ=>∃(b1:kS),(b1=(bif (bp[bp.length-1].k==6)||(((dS (lX key) (bp.take 2))==0)==nt) then nX (gb [bp[(dS gG (bp.take 2)).toNat].v]).1 (lo,hi) else (lo,hi)))∧(b1.1.length≤100)∧(b1.2.length≤100)∧aJ=(⟨155,aW,[⟨b0,225,2,[ax 1 cB b1.1,ax 1 cB b1.2]⟩]⟩:St)) ?_ ?_
 ·refine aC 2 ?_;refine bW 110 (fun JN Z=>?_) (fun JN Z=>?_)
  ·refine bg [0,8,9,11,13,115] ?_;refine eE ?_;exact Vq
  refine aE 3 ?_;refine OD.still ic rfl (c9 rfl ot ot (Eg underlying4)) ?_;refine an 155 [0,8,9,11,13,115] ?_;refine au ?_ ?_<;>intro ew fp
  ·exact Vq
  have Co:(lo,hi)=(bif (bp[bp.length-1].k==6)||(((dS (lX key) (bp.take 2))==0)==nt) then nX (gb [bp[(dS gG (bp.take 2)).toNat].v]).1 (lo,hi) else (lo,hi)):=(by rw[JN,ew];rfl)
  refine CD.skip ?_;refine⟨_,aM,(lo,hi),Co,(by first|exact dX|exact eR),ez,rfl⟩
 rintro _ ⟨b1,jb,aoB,aoC,rfl⟩;refine aC 2 ?_;refine bW 129 (fun JM aeQ=>?_) (fun JM aeQ=>?_)
 ·refine bg [0,11,134] ?_;refine eE ?_;exact Vj
 refine aE 3 ?_;refine OD.still ic rfl (c9 rfl ot ot (Px underlying4)) ?_;refine an 155 [0,11,134] ?_;refine au ?_ ?_<;>intro gL kG
 ·exact Vj
 have LP:((bp[bp.length-1].k==6) || !(((dS (lX key) (bp.take 2))==0)==nt))=false:=(by rw[JM,gL];rfl)
 have sH:(fW key (f+1) ops (lo,hi))=b1:=(by rw[TA];unfold uW;rw[show((bp[bp.length-1].k==6)||((dS (lX key) (bp.take 2))==0)!=nt)=false from LP,←jb];rfl)
 refine aI [⟨b0,_,_,_⟩] ?_;refine⟨rfl,?_⟩;first|rw[sH]|rw[aV]
theorem S5(hG:(2,[Value.int .i64 m])∈G)(key:ByteArray):∀(f:Nat),f≤40→∀(ops:List aU) (lo hi:List UInt8),ops.length≤f→runs 0 ops=some 1→(∀o∈ops,o.v.Ok)→lo.length≤100→hi.length≤100→∀b0,VC Tryz.prog G 151 [dJ b0,bf key,ax 5 cO ops] [⟨b0,225,2,[ax 1 cB lo,ax 1 cB hi]⟩] (fun r S=>r = .dG []∧S=[⟨b0,225,2,[.list 1 ((fW key f ops (lo,hi)).1.flatMap cB) (fW key f ops (lo,hi)).1.length,.list 1 ((fW key f ops (lo,hi)).2.flatMap cB) (fW key f ops (lo,hi)).2.length]⟩]):=by
 intro f;induction f with
 | zero =>
  intro _ ops lo hi hl hr;have:=Ep hr;omega
 | succ f IH =>
  intro hf ops lo hi hl hr aT eR ez b0;exact abm hG key f w4 (IH w4) ops lo hi hl w4 hr aT eR ez b0
def ij(l:List cz)(ops:List aU):kS×Int :=
 if fE l≠0 then (([],[]),fE l) else if ops.length=0 then (([],[]),0) else if (eo l ops).2≠0 then (([],[]),(eo l ops).2)
 else if (eo l ops).1≠1∧(eo l ops).1≠0 then (([],[]),4) else (fW (l.getD 0 ⟨⟨#[]⟩,0⟩).n ops.length ops ([],[]),0)
def MR(r:kS×Int):D:=.dG [Bg r.1.1,Bg r.1.2,ae r.2]
theorem abn{l:List cz}(h:fE l=0):0<l.length:=by
 unfold fE at h;split at h
 ·cases h
 omega
theorem YF(h:iM ops=0):runs 0 ops=some 1:=by
  obtain⟨_,h0⟩:=vV h;have key:∀(l:List aU) (k:Int),fG k l=0→runs k l=some 1:=by
    intro l;induction l with
    | nil => intro k h; rw[fG] at h; split at h; · rename_i e; rw[runs, e]
             · cases h
    | cons o r ih =>
      intro k h;rw[fG] at h;split at h
      · rename_i e;rw[runs,if_pos e];exact ih _ h
      rename_i e;exact absurd h e
  exact key ops 0 h0
theorem ZL(hm:(3,marksC)∈G)(hw:(1,wordsC)∈G)(ht:(0,typesC)∈G)(hG:(2,[Value.int .i64 m])∈G)(l:List cz)(hl:l.length≤6)(I:∀c∈l,c.n.size≤maxLen)(ops:List aU)(ho:∀o∈ops,o.nm.size≤maxLen)(aT:∀o∈ops,o.v.Ok):VP Tryz.prog G 128 [ax 2 cC l,ax 5 cO ops] (MR (ij l ops)):=by
 refine VC.body func128 rfl ntmps128 aO fun X0 w0 aY=>?_;have dy:=dY;have ff:=EH hm hw ht l w4 I;have Z:=I0 hm hw ht l hl I ops ho;unfold pz at Z;unfold MR Bg;refine af [0,1] ?_;refine cW [0,1,7] (ff) ?_;refine af [0,1,7,13] ?_;refine au ?_ ?_<;>intro aP bF
 ·have h0:fE l≠0:=(by simpa using aP)
  have aV:ij l ops=(([],[]),fE l):=(by unfold ij;rw[if_pos h0])
  exact z119
 have h0:¬fE l≠0:=(by simpa using aP)
 have E:=abn (Classical.not_not.1 h0);refine af [0,1,17] ?_;refine au ?_ ?_<;>intro aX cJ
 ·have h1:ops.length=0:=(by simpa using aX)
  have aV:ij l ops=(([],[]),0):=(by unfold ij;rw[if_neg h0,if_pos h1])
  exact z119
 have h1:¬ops.length=0:=(by simpa using aX)
 refine cW [0,1,6,8] (Z) ?_;refine af [0,1,6,8,25] ?_;refine au ?_ ?_<;>intro cr cU
 ·have h2:(eo l ops).2≠0:=(by simpa using cr)
  have aV:ij l ops=(([],[]),(eo l ops).2):=(by unfold ij;rw[if_neg h0,if_neg h1,if_pos h2])
  exact z119
 have h2:¬(eo l ops).2≠0:=(by simpa using cr)
 obtain⟨k1,k2,k3⟩:=EI (Classical.not_not.1 h2);have Ap:=YF k2;obtain⟨pL,_⟩:=vV k2;refine aC 3 ?_;refine bW 29 (fun ait O=>?_) (fun ait O=>?_)
 ·refine bg [0,1,32] ?_;refine au ?_ ?_<;>intro cX ec
  ·have h3:(eo l ops).1≠1∧(eo l ops).1≠0:=(by simp_all)
   have aV:ij l ops=(([],[]),4):=(by unfold ij;rw[if_neg h0,if_neg h1,if_neg h2,if_pos h3])
   exact z119
  have h3:¬((eo l ops).1≠1∧(eo l ops).1≠0):=(by simp_all)
  have aV:ij l ops=(fW l[0].n ops.length ops ([],[]),0):=(by unfold ij;rw[if_neg h0,if_neg h1,if_neg h2,if_neg h3,getD_eq_getElem?_getD,getElem?_eq_getElem E];rfl)
  refine aC 1 ?_;refine OD.box (ds:=[_,_]) ap rfl rfl ot rfl rfl (fun U=>?_);refine OD.wk (Wk.UB (k:=0) (sz:=1) (sz':=1) rfl) ?_;refine an 50 [0,1,9] ?_;refine aC 2 ?_;refine bQ (pW (mk:=Op.indexAddr 27) rfl ot bI (by first|exact qG runUnderlying27 sizeOf69 (j:=0) rfl E|exact qL runUnderlying27 sizeOf69 (j:=0) rfl E)) ?_;refine aE 3 ?_;refine OD.call ap rfl rfl rfl call151 (S5 hG l[0].n ops.length pL ops [] [] (Nat.le_refl _) Ap aT (Nat.zero_le _) (Nat.zero_le _) U) ⟨ot,ot,ot,trivial⟩ (j5 (k:=0) rfl) ?_;rintro _ _ ⟨rfl,rfl⟩;refine an 50 [9] ?_;refine af [4,5,6] ?_;exact oM
 refine bg [0,1,32] ?_;refine fM ?_;have h3:¬((eo l ops).1≠1∧(eo l ops).1≠0):=(by simp_all)
 have aV:ij l ops=(fW l[0].n ops.length ops ([],[]),0):=(by unfold ij;rw[if_neg h0,if_neg h1,if_neg h2,if_neg h3,getD_eq_getElem?_getD,getElem?_eq_getElem E];rfl)
 refine aC 1 ?_;refine OD.box (ds:=[_,_]) ap rfl rfl ot rfl rfl (fun U=>?_);refine OD.wk (Wk.UB (k:=0) (sz:=1) (sz':=1) rfl) ?_;refine an 50 [0,1,9] ?_;refine aC 2 ?_;refine bQ (pW (mk:=Op.indexAddr 27) rfl ot bI (by first|exact qG runUnderlying27 sizeOf69 (j:=0) rfl E|exact qL runUnderlying27 sizeOf69 (j:=0) rfl E)) ?_;refine aE 3 ?_;refine OD.call ap rfl rfl rfl call151 (S5 hG l[0].n ops.length pL ops [] [] (Nat.le_refl _) Ap aT (Nat.zero_le _) (Nat.zero_le _) U) ⟨ot,ot,ot,trivial⟩ (j5 (k:=0) rfl) ?_;rintro _ _ ⟨rfl,rfl⟩;refine an 50 [9] ?_;refine af [4,5,6] ?_;exact tU

end Go.Proofs.YtdgichenhdikgaaGreatDoor.Ex
namespace Go.Proofs.YtdgichenhdikgaaGreatDoor.Tr
open List
open Go.Proofs.Tryz
open Go.Lib (compareBytes)
variable {i j:Nat}
abbrev K:=List UInt8
variable {a b c k low:K}
theorem GO(a b:UInt8)(x y:K):compareBytes (a::x) (b::y)=if a<b then -1 else if b<a then 1 else compareBytes x y:=by rw[compareBytes]
theorem u8{a b:UInt8}:a<b↔a.toNat<b.toNat:=UInt8.lt_iff_toNat_lt
theorem xS:∀(x y:K),(compareBytes x y = -1∧compareBytes y x=1)∨(compareBytes x y=0∧x=y)∨(compareBytes x y=1∧compareBytes y x = -1)
 | [],[]=>.inr (.inl ⟨rfl,rfl⟩)
 | [],_::_=>.inl ⟨rfl,rfl⟩
 | _::_,[]=>.inr (.inr ⟨rfl,rfl⟩)
 | a::x,b::y=>by
  rw[GO,GO];by_cases h1:a<b
  ·have h2:¬b<a:=(by rw[u8] at h1 ⊢;omega)
   rw[if_pos h1,if_neg h2,if_pos h1];exact .inl ⟨rfl,rfl⟩
  by_cases h2:b<a
  ·rw[if_neg h1,if_pos h2,if_pos h2];exact .inr (.inr ⟨rfl,rfl⟩)
  rw[if_neg h1,if_neg h2,if_neg h2,if_neg h1];have qy:a=b:=by
   apply UInt8.toNat_inj.1;rw[u8] at h1 h2;omega
  subst qy;rcases xS x y with h|⟨h,e⟩|h
  ·exact .inl h
  ·exact .inr (.inl ⟨h,by rw[e]⟩)
  exact .inr (.inr h)
theorem TI:∀(x y z:K),compareBytes x y = -1→compareBytes y z = -1→compareBytes x z = -1
 | [],[],_,h,_=>by cases h
 | _::_,[],_,h,_=>by cases h
 | _,_::_,[],_,h=>by cases h
 | [],_::_,_::_,_,_=>rfl
 | a::x,b::y,c::z,h1,h2=>by
  rw[GO] at h1 h2 ⊢;by_cases p:a<b
  ·by_cases q:b<c
   ·rw[if_pos (by rw[u8] at p q ⊢;omega)]
   rw[if_neg q] at h2;by_cases r:c<b
   ·rw[if_pos r] at h2;cases h2
   rw[if_pos (by rw[u8] at p q r ⊢;omega)]
  rw[if_neg p] at h1;by_cases p':b<a
  ·rw[if_pos p'] at h1;cases h1
  rw[if_neg p'] at h1;by_cases q:b<c
  ·rw[if_pos (by rw[u8] at p p' q ⊢;omega)]
  rw[if_neg q] at h2;by_cases r:c<b
  ·rw[if_pos r] at h2;cases h2
  rw[if_neg r] at h2;rw[if_neg (by rw[u8] at p p' q r ⊢;omega),if_neg (by rw[u8] at p p' q r ⊢;omega)];exact TI x y z h1 h2
def bN(a b:K):Prop:=compareBytes a b<0
instance (a b:K):Decidable (bN a b):=inferInstanceAs (Decidable (_<_))
theorem I4:bN a b↔compareBytes a b = -1:=by
 unfold bN;rcases xS a b with ⟨h,_⟩|⟨h,_⟩|⟨h,_⟩<;>rw[h]<;>decide
theorem SJ:0<compareBytes a b↔bN b a:=by
 unfold bN;rcases xS a b with ⟨h,h'⟩|⟨h,rfl⟩|⟨h,h'⟩
 ·rw[h,h'];decide
 ·rw[h]
 rw[h,h'];decide
theorem Jz(a:K):¬bN a []:=by
 unfold bN;cases a with
 | nil=>decide
 | cons x y=>show ¬(1:Int)<0;decide
theorem j8(a:K):¬bN a a:=fun h=>by
 rcases xS a a with ⟨h1,h2⟩|⟨h1,_⟩|⟨h1,h2⟩
 ·omega
 ·unfold bN at h;omega
 omega
theorem mv(h1:bN a b)(h2:bN b c):bN a c:=I4.2 (TI a b c (I4.1 h1) (I4.1 h2))
theorem yJ(h:bN a b):¬bN b a:=fun h'=>j8 a (mv h h')
theorem yK(a b:K):bN a b∨a=b∨bN b a:=by
 unfold bN;rcases xS a b with ⟨h,_⟩|⟨_,h⟩|⟨_,h⟩
 ·exact .inl w4
 ·exact .inr (.inl h)
 exact .inr (.inr w4)
theorem J3:compareBytes a b=0↔a=b:=⟨fun h=>by
 rcases xS a b with ⟨h1,_⟩|⟨_,h1⟩|⟨h1,_⟩
 ·omega
 ·exact h1
 ·omega,fun h=>by
 subst h;rcases xS a a with ⟨h1,h2⟩|⟨h1,_⟩|⟨h1,h2⟩
 ·omega
 ·exact h1
 omega⟩
theorem NI(h1:¬bN b a)(h2:bN b c):bN a c:=by
 rcases yK a b with h|rfl|h
 ·exact mv h h2
 ·exact h2
 exact absurd h h1
theorem Yh(h1:bN a b)(h2:¬bN c b):bN a c:=by
 rcases yK b c with h|rfl|h
 ·exact mv h1 h
 ·exact h1
 exact absurd h h2
theorem TJ(h1:¬bN b a)(h2:¬bN c b):¬bN c a:=fun h=>by
 rcases yK a b with h'|rfl|h'
 ·exact h2 (mv h h')
 ·exact h2 h
 exact h1 h'
theorem qF{α β:Type}{l:List α}{f g:α→List β}(h:∀a∈l,f a=g a):l.flatMap f=l.flatMap g:=by
 induction l with
 | nil=>rfl
 | cons a r ih=>rw[flatMap_cons,flatMap_cons,h a mem_cons_self,ih fun x hx=>h x (mem_cons_of_mem _ hx)]
structure cY where
 leaf:Bool
 keys:List K
 kids:List Int
 high:K
 next:Int
variable {p:cY}
def aiu:cY:=⟨false,[],[],[],0⟩
structure aG where
 ag:List cY
 root:Int
def aG.pg(t:aG)(i:Int):cY:=t.ag.getD i.toNat aiu
def sg:aG:=⟨[⟨true,[],[],[],-1⟩],0⟩
structure eC (p:cY) (many:Int):Prop where
 eM:p.keys.length≤4
 hlen:p.high.length≤100
 wF:-1≤p.next
 wi:p.next<many
 wG:p.next<0↔p.high=[]
 leaf:p.leaf=true→p.kids.length=p.keys.length
 node:p.leaf=false→p.kids.length=p.keys.length+1∧p.keys≠[]
 lf:∀k∈p.keys,1≤k.length∧k.length≤100
 qf:p.high≠[]→∀k∈p.keys,bN k p.high
 jN:p.keys.Pairwise bN
 aD:∀n∈p.kids,0≤n
 u0:p.leaf=false→∀n∈p.kids,n<many
theorem eC.more{m E:Int}(h:eC p m)(hm:m≤E):eC p E :=
 ⟨h.eM,h.hlen,h.wF,by have:=h.wi;omega,h.wG,h.leaf,h.node,h.lf,h.qf,h.jN,h.aD,fun hl n hn=>by have:=h.u0 hl n hn;omega⟩
def ig(low:K)(p:cY)(j:Nat):K:=if j=0 then low else p.keys.getD (j-1) []
def gM(p:cY)(j:Nat):K:=p.keys.getD j p.high
def dV(t:aG):Nat→Int→K→K→Prop
 | 0,i,low,high=>(0≤i∧i<t.ag.length)∧(t.pg i).leaf=true∧(t.pg i).high=high∧∀k∈(t.pg i).keys,¬bN k low
 | h+1,i,low,high=>(0≤i∧i<t.ag.length)∧(t.pg i).leaf=false∧(t.pg i).high=high∧(∀k∈(t.pg i).keys,¬bN k low) ∧
  ∀j (hj:j<(t.pg i).kids.length),dV t h (t.pg i).kids[j] (ig low (t.pg i) j) (gM (t.pg i) j)
def ids(t:aG):Nat→Int→List Int
 | 0,i=>[i]
 | h+1,i=>i::(t.pg i).kids.flatMap (ids t h)
def cA(t:aG):Nat→Int→List Int
 | 0,i=>[i]
 | d+1,i=>(t.pg i).kids.flatMap (cA t d)
def eY(p:cY):List (K×Int):=p.keys.zip p.kids
def ek(t:aG):Nat→Int→List (K×Int)
 | 0,i=>eY (t.pg i)
 | h+1,i=>(t.pg i).kids.flatMap (ek t h)
def eZ(t:aG):List Int→Int→Prop
 | [],_=>True
 | [i],e=>(t.pg i).next=e
 | i::j::r,e=>(t.pg i).next=j∧eZ t (j::r) e
structure Valid (t:aG) (h:Nat):Prop where
 pos:1≤t.ag.length
 nC:t.ag.length≤4000
 fA:∀p∈t.ag,eC p t.ag.length
 ok:dV t h t.root [] []
 zv:(ids t h t.root).Nodup
 all:(ids t h t.root).length=t.ag.length
 oV:∀d,d≤h→eZ t (cA t d t.root) (-1)
theorem dV.idx{t:aG}:∀{h:Nat} {i:Int} {low high:K},dV t h i low high→0≤i∧i<t.ag.length
 | 0,_,_,_,h=>h.1
 | _+1,_,_,_,h=>h.1
theorem dV.high{t:aG}:∀{h:Nat} {i:Int} {low high:K},dV t h i low high→(t.pg i).high=high
 | 0,_,_,_,h=>h.2.2.1
 | _+1,_,_,_,h=>h.2.2.1
theorem uS{t:aG}{i:Int}(h:0≤i∧i<t.ag.length):t.pg i=t.ag[i.toNat]'w4:=by
 unfold aG.pg;rw[getD_eq_getElem?_getD,getElem?_eq_getElem w4];rfl
theorem jx{t:aG}{i:Int}(h:0≤i∧i<t.ag.length):t.pg i∈t.ag:=by rw[uS h];exact getElem_mem _
theorem sR{t:aG}(h:Nat)(i:Int):i∈ids t h i:=by cases h<;>simp[ids]
theorem frame{t u:aG}:∀(h:Nat) (i:Int),(∀j∈ids t h i,u.pg j=t.pg j)→ids u h i=ids t h i∧ek u h i=ek t h i∧∀d,d≤h→cA u d i=cA t d i
 | 0,i,hp=>by
  have h0:=hp i (sR 0 i);refine⟨rfl,by unfold ek;rw[h0],fun d hd=>?_⟩;obtain rfl:d=0:=(by omega)
  rfl
 | h+1,i,hp=>by
  have h0:=hp i (sR _ i);have hs:∀j∈(t.pg i).kids,ids u h j=ids t h j∧ek u h j=ek t h j∧∀d,d≤h→cA u d j=cA t d j:=fun j hj=>frame h j fun x hx=>hp x (by
   rw[ids];exact mem_cons_of_mem _ (mem_flatMap.2 ⟨j,hj,hx⟩))
  refine⟨?_,?_,fun d hd=>?_⟩
  ·rw[ids,ids,h0];congr 1;exact qF (fun j hj=>(hs j hj).1)
  ·rw[ek,ek,h0];exact qF (fun j hj=>(hs j hj).2.1)
  cases d with
  | zero=>rfl
  | succ d=>rw[cA,cA,h0];exact qF (fun j hj=>(hs j hj).2.2 d w4)
theorem dV.frame{t u:aG}(hl:t.ag.length≤u.ag.length):∀{h:Nat} {i:Int} {low high:K},dV t h i low high→(∀j∈ids t h i,u.pg j=t.pg j)→dV u h i low high
 | 0,i,low,high,⟨q1,q2,E,I⟩,hp=>by
  have h0:=hp i (sR 0 i);exact⟨⟨q1.1,by omega⟩,by rw[h0];exact q2,by rw[h0];exact E,by rw[h0];exact I⟩
 | h+1,i,low,high,⟨q1,q2,E,I,O⟩,hp=>by
  have h0:=hp i (sR _ i);refine⟨⟨q1.1,by omega⟩,by rw[h0];exact q2,by rw[h0];exact E,by rw[h0];exact I,?_⟩;rw[h0];exact fun j hj=>dV.frame hl (O j hj) fun x hx=>hp x (by rw[ids];exact mem_cons_of_mem _ (mem_flatMap.2 ⟨_,getElem_mem hj,hx⟩))
theorem dV.ids{t:aG}:∀{h:Nat} {i:Int} {low high:K},dV t h i low high→∀j∈Tr.ids t h i,0≤j∧j<t.ag.length
 | 0,i,low,high,q,j,hj=>by
  rw[Tr.ids,mem_singleton] at hj;subst hj;exact q.1
 | h+1,i,low,high,⟨q1,q2,I,O,E⟩,j,hj=>by
  rw[Tr.ids] at hj;rcases mem_cons.1 hj with rfl|hj
  ·exact q1
  obtain⟨x,hx,hj⟩:=mem_flatMap.1 hj;obtain⟨n,hn,rfl⟩:=mem_iff_getElem.1 hx;exact dV.ids (E n hn) j hj

theorem J4{α:Type}{p:α→Bool}:∀{l:List α} {i:Nat} (h:i<(l.takeWhile p).length),∃(h':i<l.length),p l[i]=true
 | a::r,i,h=>by
  rw[takeWhile_cons] at h;by_cases ha:p a=true
  ·rw[if_pos ha] at h;cases i with
   | zero=>exact⟨by simp,ha⟩
   | succ i =>
    obtain⟨h',q⟩:=J4 (l:=r) (i:=i) oL;exact⟨by simpa using h',by simpa using q⟩
  rw[if_neg ha] at h;simp at h
theorem JA{α:Type}{p:α→Bool}:∀{l:List α} (h:(l.takeWhile p).length<l.length),p l[(l.takeWhile p).length]=false
 | a::r,h=>by
  by_cases ha:p a=true
  ·have e:((a::r).takeWhile p).length=(r.takeWhile p).length+1:=(by rw[takeWhile_cons,if_pos ha];rfl)
   have h2:(r.takeWhile p).length<r.length:=(by rw[e] at h;simpa using h)
   have:=JA (l:=r) h2;simp only[e,getElem_cons_succ];exact this
  have e:((a::r).takeWhile p).length=0:=(by rw[takeWhile_cons,if_neg ha];rfl)
  simp only[e,getElem_cons_zero];simpa using ha
theorem TK{α:Type}(p:α→Bool)(l:List α):(l.takeWhile p).length≤l.length:=(takeWhile_sublist p).length_le
def gk(keys:List K)(k:K):Nat:=(keys.takeWhile fun x=>decide (bN x k)).length
def mA(keys:List K)(k:K):Nat:=(keys.takeWhile fun x=>decide (¬bN k x)).length
def aL(p:cY)(k:K):Nat:=if p.leaf=true then gk p.keys k else mA p.keys k
theorem AS{keys:List K}(h:i<gk keys k):∃(h':i<keys.length),bN keys[i] k:=by
 obtain⟨h',q⟩:=J4 h;exact⟨h',by simpa using q⟩
theorem AJ{keys:List K}(h:gk keys k<keys.length):¬bN keys[gk keys k] k:=by
 exact of_decide_eq_false (JA h)
theorem ym(keys:List K)(k:K):gk keys k≤keys.length:=TK _ _
theorem Ii{keys:List K}(h:i<mA keys k):∃(h':i<keys.length),¬bN k keys[i]:=by
 obtain⟨h',q⟩:=J4 h;exact⟨h',by simpa using q⟩
theorem HI{keys:List K}(h:mA keys k<keys.length):bN k keys[mA keys k]:=by
 exact Classical.not_not.1 (of_decide_eq_false (JA h))
theorem AT(keys:List K)(k:K):mA keys k≤keys.length:=TK _ _
theorem mQ{keys:List K}(h:keys.Pairwise bN)(E:i<j)(hj:j<keys.length):bN keys[i] keys[j]:=pairwise_iff_getElem.1 h i j w4 hj E
theorem E0(h:j<p.keys.length):gM p j=p.keys[j]:=by unfold gM;rw[getD_eq_getElem?_getD,getElem?_eq_getElem h];rfl
theorem I5(h:p.keys.length≤j):gM p j=p.high:=by unfold gM;rw[getD_eq_getElem?_getD,getElem?_eq_none h];rfl
theorem EK(h:0<j)(h':j-1<p.keys.length):ig low p j=p.keys[j-1]:=by unfold ig;rw[if_neg w4,getD_eq_getElem?_getD,getElem?_eq_getElem h'];rfl
def lu(low high k:K):Prop:=¬bN k low∧(high≠[]→bN k high)
theorem td(k:K):lu [] [] k:=⟨Jz k,fun h=>absurd rfl h⟩
theorem down{n:Int}(hp:eC p n)(hl:p.leaf=false){high:K}(E:p.high=high)(hk:lu low high k):aL p k<p.kids.length∧lu (ig low p (aL p k)) (gM p (aL p k)) k:=by
 have e:aL p k=mA p.keys k:=(by unfold aL;rw[if_neg (by rw[hl];decide)])
 have I:=AT p.keys k;rw[e];refine⟨by rw[(hp.node hl).1];omega,?_,?_⟩
 ·rcases Nat.eq_zero_or_pos (mA p.keys k) with h0|h0
  ·rw[h0];exact hk.1
  obtain⟨h',q⟩:=Ii (keys:=p.keys) (k:=k) (i:=mA p.keys k-1) w4;rw[EK h0 h'];exact q
 intro hne;by_cases aa:mA p.keys k<p.keys.length
 ·rw[E0 aa];exact HI aa
 rw[I5 w4] at hne ⊢;rw[E] at hne ⊢;exact hk.2 hne
def aH(t:aG)(k:K):Nat→Int→Int
 | 0,i=>i
 | h+1,i=>aH t k h ((t.pg i).kids.getD (aL (t.pg i) k) 0)
def iY(t:aG)(k:K):Nat→Int→List Int
 | 0,i=>[i]
 | h+1,i=>i::iY t k h ((t.pg i).kids.getD (aL (t.pg i) k) 0)
theorem OK(t:aG)(k:K):∀(h:Nat) (i:Int),(iY t k h i).getLast?=some (aH t k h i)
 | 0,i=>rfl
 | h+1,i=>by
  have:=OK t k h ((t.pg i).kids.getD (aL (t.pg i) k) 0);rw[iY,aH,getLast?_cons,this];rfl
theorem vT(t:aG):∀(h:Nat) (i:Int),ek t h i=(cA t h i).flatMap fun l=>eY (t.pg l)
 | 0,i=>by simp[ek,cA]
 | h+1,i=>by
  rw[ek,cA,flatMap_assoc];exact qF fun j _=>vT t h j
theorem zip_fst{α β:Type}:∀{a:List α} {b:List β},b.length=a.length→(a.zip b).map Prod.fst=a
 | [],_,_=>by simp
 | x::a,[],h=>by simp at h
 | x::a,y::b,h=>by simp[zip_fst (a:=a) (b:=b) oL]
theorem Qd{x:K×Int}(h:x∈eY p):x.1∈p.keys:=(of_mem_zip h).1
theorem sZ(h:j<p.kids.length):p.kids.getD j 0=p.kids[j]:=by rw[getD_eq_getElem?_getD,getElem?_eq_getElem h];rfl
variable {t:aG} {n:Int}
theorem YG(hp:eC p n)(hl:p.leaf=false){high:K}(I:p.high=high)(E:∀k∈p.keys,¬bN k low)(hj:j<p.kids.length)(hk:lu (ig low p j) (gM p j) k):lu low high k:=by
 have hn:=(hp.node hl).1;refine⟨?_,fun hne=>?_⟩
 ·rcases Nat.eq_zero_or_pos j with rfl|h0
  ·exact hk.1
  rw[EK h0 w4] at hk;exact TJ (E _ (getElem_mem _)) hk.1
 by_cases aa:j<p.keys.length
 ·rw[E0 aa] at hk;have hm:=getElem_mem aa;have h2:=hk.2 (by intro e;have:=(hp.lf _ hm).1;rw[e] at this;simp at this);exact mv h2 (by rw[←I];exact hp.qf (by rw[I];exact hne) _ hm)
 rw[I5 w4,I] at hk;exact hk.2 hne
theorem HJ(hp:eC p n)(hl:p.leaf=false)(I:i<j)(hj:j<p.kids.length)(ha:lu (ig low p i) (gM p i) a)(hb:lu (ig low p j) (gM p j) b):bN a b:=by
 have hn:=(hp.node hl).1;have E:i<p.keys.length:=(by omega)
 rw[E0 E] at ha;have h1:=ha.2 (by intro e;have:=(hp.lf _ (getElem_mem E)).1;rw[e] at this;simp at this);rw[EK w4 w4] at hb;refine Yh h1 ?_;refine TJ ?_ hb.1;rcases Nat.lt_or_ge i (j-1) with h|h
 ·exact yJ (mQ hp.jN h w4)
 have:j-1=i:=(by omega)
 simp only[this];exact j8 _
theorem I6(hp:∀p∈t.ag,eC p n):∀{h:Nat} {i:Int} {low high:K},dV t h i low high→(ek t h i).Pairwise (fun x y=>bN x.1 y.1)∧∀x∈ek t h i,lu low high x.1
 | 0,i,low,high,ok=>by
  obtain⟨q1,q2,E,I⟩:=ok;have po:=hp _ (jx q1);rw[ek];refine⟨?_,fun x hx=>⟨I _ (Qd hx),fun hne=>by rw[←E] at hne ⊢;exact po.qf hne _ (Qd hx)⟩⟩;have h1:((eY (t.pg i)).map Prod.fst).Pairwise bN:=(by unfold eY;rw[zip_fst (po.leaf q2)];exact po.jN)
  exact pairwise_map.1 h1
 | h+1,i,low,high,ok=>by
  obtain⟨q1,q2,E,I,O⟩:=ok;have po:=hp _ (jx q1);rw[ek];have hk:∀j (hj:j<(t.pg i).kids.length),(ek t h (t.pg i).kids[j]).Pairwise (fun x y=>bN x.1 y.1)∧∀x∈ek t h (t.pg i).kids[j],lu (ig low (t.pg i) j) (gM (t.pg i) j) x.1:=fun j hj=>I6 hp (O j hj);refine⟨pairwise_flatMap.2 ⟨fun a ha=>?_,?_⟩,fun x hx=>?_⟩
  ·obtain⟨j,hj,rfl⟩:=mem_iff_getElem.1 ha;exact(hk j hj).1
  ·refine pairwise_iff_getElem.2 fun a b ha hb qy x hx y hy=>?_;exact HJ po q2 qy hb ((hk a ha).2 x hx) ((hk b hb).2 y hy)
  obtain⟨c,hc,hx⟩:=mem_flatMap.1 hx;obtain⟨j,hj,rfl⟩:=mem_iff_getElem.1 hc;exact YG po q2 E I hj ((hk j hj).2 x hx)
theorem AU(hp:∀p∈t.ag,eC p n){k:K}:∀{h:Nat} {i:Int} {low high:K},dV t h i low high→lu low high k →
  ∃pre post lo hi,cA t h i=pre++aH t k h i::post∧(∀l∈pre,∀x∈eY (t.pg l),bN x.1 k)∧(∀l∈post,∀x∈eY (t.pg l),bN k x.1)∧dV t 0 (aH t k h i) lo hi∧lu lo hi k
 | 0,i,low,high,ok,hk=>⟨[],[],low,high,rfl,(fun _ h=>by cases h),(fun _ h=>by cases h),ok,hk⟩
 | h+1,i,low,high,ok,hk=>by
  obtain⟨q1,q2,I,O,E⟩:=ok;have po:=hp _ (jx q1);obtain⟨d1,d2⟩:=down po q2 I hk;obtain⟨pre,post,lo,hi,e,h1,h2,h3,h4⟩:=AU hp (E _ d1) d2;have hm:∀j (hj:j<(t.pg i).kids.length),∀l∈cA t h (t.pg i).kids[j],∀x∈eY (t.pg l),lu (ig low (t.pg i) j) (gM (t.pg i) j) x.1:=fun j hj l hl x hx =>
   (I6 hp (E j hj)).2 x (by rw[vT];exact mem_flatMap.2 ⟨l,hl,hx⟩)
  refine⟨((t.pg i).kids.take (aL (t.pg i) k)).flatMap (cA t h)++pre,post++((t.pg i).kids.drop (aL (t.pg i) k+1)).flatMap (cA t h),lo,hi,?_,?_,?_,?_,h4⟩
  ·rw[cA];conv=>lhs;rw[←take_append_drop (aL (t.pg i) k) (t.pg i).kids]
   rw[drop_eq_getElem_cons d1,flatMap_append,flatMap_cons,e,aH,sZ d1];simp
  ·intro l hl x hx;rcases mem_append.1 hl with hl|hl
   ·obtain⟨c,hc,hl⟩:=mem_flatMap.1 hl;obtain⟨j,hj,rfl⟩:=mem_iff_getElem.1 hc;rw[length_take] at hj;rw[getElem_take] at hl;exact HJ po q2 (show j<aL (t.pg i) k by omega) d1 (hm j w4 l hl x hx) d2
   exact h1 l hl x hx
  ·intro l hl x hx;rcases mem_append.1 hl with hl|hl
   ·exact h2 l hl x hx
   obtain⟨c,hc,hl⟩:=mem_flatMap.1 hl;obtain⟨j,hj,rfl⟩:=mem_iff_getElem.1 hc;rw[length_drop] at hj;rw[getElem_drop] at hl;exact HJ po q2 (show aL (t.pg i) k<aL (t.pg i) k+1+j by omega) w4 d2 (hm _ w4 l hl x hx)
  rw[aH,sZ d1];exact h3
theorem ZM(hp:∀p∈t.ag,eC p n){h:Nat}{i:Int}{high:K}(ok:dV t h i low high)(hk:lu low high k) :
  ∃pre post,cA t h i=pre++aH t k h i::post∧(ek t h i).filter (fun x=>decide (¬bN x.1 k))=(eY (t.pg (aH t k h i))).drop (aL (t.pg (aH t k h i)) k)++post.flatMap fun l=>eY (t.pg l):=by
 obtain⟨pre,post,lo,hi,e,h1,h2,h3,h4⟩:=AU hp ok hk;refine⟨pre,post,e,?_⟩;have po:=hp _ (jx h3.1);rw[vT,e,flatMap_append,flatMap_cons,filter_append,filter_append];rw[filter_eq_nil_iff.2 (by
  intro x hx;obtain⟨l,hl,hx⟩:=mem_flatMap.1 hx;simpa using h1 l hl x hx),nil_append]
 congr 1
 ·have fI:=h3.2.1;rw[show aL (t.pg (aH t k h i)) k=gk (t.pg (aH t k h i)).keys k by unfold aL;rw[if_pos fI]];generalize I:t.pg (aH t k h i)=p at *;have E:=take_append_drop (gk p.keys k) (eY p);conv=>lhs;rw[←E]
  have hlen:=po.leaf fI;rw[filter_append,filter_eq_nil_iff.2 (by
   intro x hx;obtain⟨j,hj,rfl⟩:=mem_iff_getElem.1 hx;rw[length_take] at hj;obtain⟨h',q⟩:=AS (keys:=p.keys) (k:=k) (i:=j) w4;rw[getElem_take];simpa[eY] using q),nil_append,filter_eq_self.2]
  intro x hx;obtain⟨j,hj,rfl⟩:=mem_iff_getElem.1 hx;rw[length_drop] at hj;have fJ:(eY p).length=p.keys.length:=(by unfold eY;rw[length_zip,hlen,Nat.min_self])
  have hd:gk p.keys k<p.keys.length:=(by omega)
  have he:=AJ hd;rw[getElem_drop];have:¬bN p.keys[gk p.keys k+j] k:=by
   rcases Nat.eq_zero_or_pos j with rfl|h0
   ·exact he
   exact fun aa=>he (mv (mQ po.jN w4 w4) aa)
  simpa[eY] using this
 rw[filter_eq_self.2];intro x hx;obtain⟨l,hl,hx⟩:=mem_flatMap.1 hx;simpa using yJ (h2 l hl x hx)

end Go.Proofs.YtdgichenhdikgaaGreatDoor.Tr
namespace Go.Proofs.YtdgichenhdikgaaGreatDoor.Tr
open List
open Go.Proofs.Tryz
open Go.Lib (compareBytes)
variable {α:Type} {i n:Int} {p:cY} {up low:K} {h:Nat}
def gI(l:List α)(i:Nat)(x:α):List α:=l.take i++x::l.drop i
def aG.set(t:aG)(i:Int)(p:cY):aG:={t with ag:=t.ag.set i.toNat p}
variable {t:aG}
def bC(p:cY)(up:K)(aD:Int):cY :=
 {p with keys:=gI p.keys (aL p up) up,kids:=gI p.kids (if p.leaf=true then aL p up else aL p up+1) aD}
def je(p:cY):K:=p.keys.getD 2 []
def bn(p:cY)(n:Int):cY:={leaf:=p.leaf,keys:=p.keys.take 2,kids:=p.kids.take (if p.leaf=true then 2 else 3),high:=je p,next:=n}
def bq(p:cY):cY:={leaf:=p.leaf,keys:=p.keys.drop (if p.leaf=true then 2 else 3),kids:=p.kids.drop (if p.leaf=true then 2 else 3),high:=p.high,next:=p.next}
def qW(t:aG)(i:Int)(up:K)(aD:Int):aG×Option (K×Int) :=
 if (bC (t.pg i) up aD).keys.length≤4 then (t.set i (bC (t.pg i) up aD),none)
 else (⟨(t.ag.set i.toNat (bn (bC (t.pg i) up aD) t.ag.length))++[bq (bC (t.pg i) up aD)],t.root⟩,some (je (bC (t.pg i) up aD),t.ag.length))
def gl(t:aG)(k:K)(row:Int):Nat→Int→aG×Option (K×Int)
 | 0,i=>qW t i k row
 | h+1,i=>match gl t k row h ((t.pg i).kids.getD (aL (t.pg i) k) 0) with
  | (t',none)=>(t',none)
  | (t',some (up,aD))=>qW t' i up aD
def agb(r:aG×Option (K×Int)):aG:=match r with
 | (t,none)=>t
 | (t,some (up,aD))=>⟨t.ag++[⟨false,[up],[t.root,aD],[],-1⟩],t.ag.length⟩
theorem nQ(t:aG)(i:Int)(p:cY):(t.set i p).ag.length=t.ag.length:=by simp[aG.set]
theorem AV(h:0≤i∧i<t.ag.length)(p:cY):(t.set i p).pg i=p:=by
 unfold aG.pg aG.set;rw[getD_eq_getElem?_getD,getElem?_set_self w4];rfl
theorem vJ{j:Int}(hi:0≤i)(hj:0≤j)(h:i≠j)(p:cY):(t.set i p).pg j=t.pg j:=by
 unfold aG.pg aG.set;rw[getD_eq_getElem?_getD,getD_eq_getElem?_getD,getElem?_set_ne w4]
theorem yc(l:List α){i:Nat}(h:i≤l.length)(x:α):(gI l i x).length=l.length+1:=by unfold gI;simp;omega
theorem uu{l:List α}{i:Nat}{x y:α}:y∈gI l i x↔y=x∨y∈l:=by
 unfold gI;conv=>rhs;rw[←take_append_drop i l]
 simp only[mem_append,mem_cons];constructor
 ·rintro(h|h|h)
  ·exact .inr (.inl h)
  ·exact .inl h
  exact .inr (.inr h)
 rintro(h|h|h)
 ·exact .inr (.inl h)
 ·exact .inl h
 exact .inr (.inr h)
theorem ZN{β:Type}{a:List α}{b:List β}(h:b.length=a.length){i:Nat}(hi:i≤a.length)(x:α)(y:β):(gI a i x).zip (gI b i y)=gI (a.zip b) i (x,y):=by
 unfold gI;rw[zip_append (by simp[h]),zip_cons_cons];have h1:(a.zip b).take i=(a.take i).zip (b.take i):=take_zipWith;have h2:(a.zip b).drop i=(a.drop i).zip (b.drop i):=drop_zipWith;rw[h1,h2]
theorem Ij(hp:eC p n)(hn:up∉p.keys):(∀j (hj:j<p.keys.length),j<aL p up→bN p.keys[j] up)∧(∀j (hj:j<p.keys.length),aL p up≤j→bN up p.keys[j])∧aL p up≤p.keys.length:=by
 unfold aL;split
 ·refine⟨fun j hj h=>(AS h).2,fun j hj h=>?_,ym _ _⟩;have aa:gk p.keys up<p.keys.length:=(by omega)
  have h1:=AJ aa;have h2:¬bN p.keys[j] up:=by
   rcases Nat.lt_or_ge (gk p.keys up) j with h'|h'
   ·exact fun E=>h1 (mv (mQ hp.jN h' hj) E)
   have:gk p.keys up=j:=(by omega)
   subst this;exact h1
  rcases yK p.keys[j] up with h|h|h
  ·exact absurd h h2
  ·exact absurd (h ▸ getElem_mem hj) hn
  exact h
 refine⟨fun j hj h=>?_,fun j hj h=>?_,AT _ _⟩
 ·have h2:=(Ii h).2;rcases yK p.keys[j] up with h|h|h
  ·exact h
  ·exact absurd (h ▸ getElem_mem hj) hn
  exact absurd h h2
 have aa:mA p.keys up<p.keys.length:=(by omega)
 have h1:=HI aa;rcases Nat.lt_or_ge (mA p.keys up) j with h'|h'
 ·exact mv h1 (mQ hp.jN h' hj)
 have:mA p.keys up=j:=(by omega)
 subst this;exact h1
theorem abo(hp:eC p n)(hn:up∉p.keys):(gI p.keys (aL p up) up).Pairwise bN:=by
 obtain⟨h1,h2,h3⟩:=Ij hp hn;unfold gI;have hr:=hp.jN;conv at hr=>rw[←take_append_drop (aL p up) p.keys]
 rw[pairwise_append] at hr;rw[pairwise_append,pairwise_cons];refine⟨hr.1,⟨fun y hy=>?_,hr.2.1⟩,fun x hx y hy=>?_⟩
 ·obtain⟨j,hj,rfl⟩:=mem_iff_getElem.1 hy;rw[length_drop] at hj;rw[getElem_drop];exact h2 _ w4 w4
 rcases mem_cons.1 hy with rfl|hy
 ·obtain⟨j,hj,rfl⟩:=mem_iff_getElem.1 hx;rw[length_take] at hj;rw[getElem_take];exact h1 _ w4 w4
 exact hr.2.2 x hx y hy
structure wc (p:cY) (many:Int):Prop where
 eM:p.keys.length≤5
 hlen:p.high.length≤100
 wF:-1≤p.next
 wi:p.next<many
 wG:p.next<0↔p.high=[]
 leaf:p.leaf=true→p.kids.length=p.keys.length
 node:p.leaf=false→p.kids.length=p.keys.length+1∧p.keys≠[]
 lf:∀k∈p.keys,1≤k.length∧k.length≤100
 qf:p.high≠[]→∀k∈p.keys,bN k p.high
 jN:p.keys.Pairwise bN
 aD:∀n∈p.kids,0≤n
 u0:p.leaf=false→∀n∈p.kids,n<many
theorem wc.ok(h:wc p n)(hl:p.keys.length≤4):eC p n:=⟨hl,h.hlen,h.wF,h.wi,h.wG,h.leaf,h.node,h.lf,h.qf,h.jN,h.aD,h.u0⟩
theorem Il(hp:eC p n){aD:Int}(hn:up∉p.keys)(U:1≤up.length∧up.length≤100)(Z:p.high≠[]→bN up p.high)(hk:0≤aD)(O:p.leaf=false→aD<n):wc (bC p up aD) n:=by
 obtain⟨_,_,h3⟩:=Ij hp hn;have hf:=hp.eM;refine⟨?_,hp.hlen,hp.wF,hp.wi,hp.wG,fun hl=>?_,fun hl=>?_,fun k I=>?_,fun hne k I=>?_,abo hp hn,fun m hm=>?_,fun hl m hm=>?_⟩
 ·show(gI _ _ _).length≤5;rw[yc _ h3];omega
 ·have E:p.leaf=true:=hl;show(gI _ _ _).length=(gI _ _ _).length;rw[if_pos E,yc _ h3,yc _ (by rw[hp.leaf E];exact h3),hp.leaf E]
 ·have E:p.leaf=false:=hl;refine⟨?_,?_⟩
  ·show(gI _ _ _).length=(gI _ _ _).length+1;rw[if_neg (by rw[E];decide),yc _ h3,yc _ (by rw[(hp.node E).1];omega),(hp.node E).1]
  show gI _ _ _≠[];intro e;have:=congrArg length e;rw[yc _ h3] at this;simp at this
 ·rcases uu.1 I with rfl|h
  ·exact U
  exact hp.lf k h
 ·rcases uu.1 I with rfl|h
  ·exact Z hne
  exact hp.qf hne k h
 ·rcases uu.1 hm with rfl|h
  ·exact hk
  exact hp.aD m h
 rcases uu.1 hm with rfl|h
 ·exact O hl
 exact hp.u0 hl m h
theorem yL(h:p.keys.length=5):je p=p.keys[2]:=by unfold je;rw[getD_eq_getElem?_getD,getElem?_eq_getElem w4];rfl
theorem S6(hp:wc p n)(h5:p.keys.length=5)(h0:0≤n):eC (bn p n) (n+1):=by
 have U:=yL h5;have I:je p∈p.keys:=(by rw[U];exact getElem_mem _)
 refine⟨?_,(hp.lf _ I).2,by show -1≤n;omega,by show n<n+1;omega,?_,fun hl=>?_,fun hl=>?_,fun k hk=>hp.lf k (mem_of_mem_take hk),fun _ k hk=>?_,hp.jN.sublist (take_sublist _ _),fun x hx=>hp.aD x (mem_of_mem_take hx),fun hl x hx=>?_⟩
 ·show(p.keys.take 2).length≤4;rw[length_take];omega
 ·show n<0↔je p=[];have:=(hp.lf _ I).1;exact⟨fun h=>by omega,fun h=>by rw[h] at this;simp at this⟩
 ·have E:p.leaf=true:=hl;show(p.kids.take (if p.leaf=true then 2 else 3)).length=(p.keys.take 2).length;rw[if_pos E,length_take,length_take,hp.leaf E]
 ·have E:p.leaf=false:=hl;refine⟨?_,?_⟩
  ·show(p.kids.take (if p.leaf=true then 2 else 3)).length=(p.keys.take 2).length+1;rw[if_neg (by rw[E];decide),length_take,length_take,(hp.node E).1];omega
  show p.keys.take 2≠[];intro e;have:=congrArg length e;rw[length_take,h5] at this;cases this
 ·have O:k∈p.keys.take 2:=hk;obtain⟨j,hj,rfl⟩:=mem_iff_getElem.1 O;rw[length_take] at hj;show bN (p.keys.take 2)[j] (je p);rw[getElem_take,U];exact mQ hp.jN w4 w4
 have E:p.leaf=false:=hl;have:=hp.u0 E x (mem_of_mem_take hx);omega
theorem RG{m:Int}(hp:wc p n)(h5:p.keys.length=5)(hm:n≤m):eC (bq p) m:=by
 refine⟨?_,hp.hlen,hp.wF,by have:=hp.wi;show p.next<m;omega,hp.wG,fun hl=>?_,fun hl=>?_,fun k hk=>hp.lf k (mem_of_mem_drop hk),fun hne k hk=>hp.qf hne k (mem_of_mem_drop hk),hp.jN.sublist (drop_sublist _ _),fun x hx=>hp.aD x (mem_of_mem_drop hx),fun hl x hx=>?_⟩
 ·show(p.keys.drop _).length≤4;rw[length_drop];split<;>omega
 ·have E:p.leaf=true:=hl;show(p.kids.drop _).length=(p.keys.drop _).length;rw[length_drop,length_drop,hp.leaf E]
 ·have E:p.leaf=false:=hl;refine⟨?_,?_⟩
  ·show(p.kids.drop _).length=(p.keys.drop _).length+1;rw[length_drop,length_drop,(hp.node E).1,if_neg (by rw[E];decide)];omega
  show p.keys.drop _≠[];intro e;have:=congrArg length e;rw[length_drop,if_neg (by rw[E];decide)] at this;simp at this;omega
 have E:p.leaf=false:=hl;have:=hp.u0 E x (mem_of_mem_drop hx);omega

def jk(t:aG)(h:Nat):K→List Int→List K→K→Prop
 | low,c::cs,ks,high=>match cs,ks with
  | [],[]=>dV t h c low high
  | _::_,k::ks=>dV t h c low k∧jk t h k cs ks high
  | _,_=>False
 | _,[],_,_=>False
theorem AW{high:K}{c:Int}:jk t h low [c] [] high↔dV t h c low high:=by rw[jk]
theorem pT{high k:K}{c d:Int}{cs:List Int}{ks:List K}:jk t h low (c::d::cs) (k::ks) high↔dV t h c low k∧jk t h k (d::cs) ks high:=by rw[jk]
theorem Im{t:aG}{h:Nat}{high:K}:∀{kids:List Int} {keys:List K} {low:K},kids.length=keys.length+1 →
  ((∀j (hj:j<kids.length),dV t h kids[j] (if j=0 then low else keys.getD (j-1) []) (keys.getD j high))↔jk t h low kids keys high)
 | [],keys,low,e=>by simp at e
 | [c],[],low,e=>by
  rw[AW];constructor
  ·intro q;exact q 0 bu
  intro q j hj;obtain rfl:j=0:=(by simpa using hj)
  exact q
 | [c],k::ks,low,e=>by simp at e
 | c::d::cs,[],low,e=>by simp at e
 | c::d::cs,k::ks,low,e=>by
  rw[pT,←Im (kids:=d::cs) (keys:=ks) (low:=k) (by simpa using e)];constructor
  ·intro q;refine⟨q 0 bu,fun j hj=>?_⟩;have:=q (j+1) (by simpa using hj);rw[if_neg w4] at this;simp only[getElem_cons_succ,Nat.add_sub_cancel,getD_cons_succ] at this;cases j with
   | zero=>exact this
   | succ j=>exact this
  rintro⟨q0,q⟩ j hj;cases j with
  | zero=>exact q0
  | succ j =>
   have:=q j (by simpa using hj);rw[if_neg w4];simp only[getElem_cons_succ,Nat.add_sub_cancel,getD_cons_succ];cases j with
   | zero=>exact this
   | succ j=>exact this
theorem A7{high:K}(hp:eC (t.pg i) n):dV t (h+1) i low high↔(0≤i∧i<t.ag.length)∧(t.pg i).leaf=false∧(t.pg i).high=high∧(∀k∈(t.pg i).keys,¬bN k low)∧jk t h low (t.pg i).kids (t.pg i).keys high:=by
 constructor
 ·rintro⟨q1,q2,E,O,I⟩;refine⟨q1,q2,E,O,?_⟩;rw[←Im (hp.node q2).1];intro j hj;have:=I j hj;unfold ig gM at this;rw[E] at this;exact this
 rintro⟨q1,q2,E,O,I⟩;refine⟨q1,q2,E,O,?_⟩;rw[←Im (hp.node q2).1] at I;intro j hj;have:=I j hj;unfold ig gM;rw[E];exact this
theorem Qe{t u:aG}{h:Nat}{high:K}:∀{kids:List Int} {keys:List K} {low:K},jk t h low kids keys high→(∀c∈kids,∀lo hi,dV t h c lo hi→dV u h c lo hi)→jk u h low kids keys high
 | [],keys,low,q,_=>by simp[jk] at q
 | [c],[],low,q,f=>by rw[AW] at q ⊢;exact f c bu _ _ q
 | [c],k::ks,low,q,f=>by simp[jk] at q
 | c::d::cs,[],low,q,f=>by simp[jk] at q
 | c::d::cs,k::ks,low,q,f=>by
  rw[pT] at q ⊢;exact⟨f c bu _ _ q.1,Qe q.2 fun x hx=>f x (by simp at hx ⊢;exact .inr hx)⟩
theorem Qf{t u:aG}{h:Nat}{high up:K}{aD:Int}:∀(j:Nat) {kids:List Int} {keys:List K} {low:K} (hj:j<kids.length),jk t h low kids keys high →
  (∀c∈kids.eraseIdx j,∀lo hi,dV t h c lo hi→dV u h c lo hi) →
  (dV u h kids[j] (if j=0 then low else keys.getD (j-1) []) up)→dV u h aD up (keys.getD j high)→jk u h low (gI kids (j+1) aD) (gI keys j up) high
 | 0,[],keys,low,hj,q,f,q1,q2=>by simp at hj
 | 0,[c],[],low,hj,q,f,q1,q2=>by
  show jk u h low [c,aD] [up] high;rw[pT,AW];exact⟨q1,q2⟩
 | 0,[c],k::ks,low,hj,q,f,q1,q2=>by simp[jk] at q
 | 0,c::d::cs,[],low,hj,q,f,q1,q2=>by simp[jk] at q
 | 0,c::d::cs,k::ks,low,hj,q,f,q1,q2=>by
  show jk u h low (c::aD::d::cs) (up::k::ks) high;rw[pT,pT];rw[pT] at q;exact⟨q1,q2,Qe q.2 fun x hx=>f x (by simpa using hx)⟩
 | j+1,[],keys,low,hj,q,f,q1,q2=>by simp at hj
 | j+1,[c],keys,low,hj,q,f,q1,q2=>by simp at hj
 | j+1,c::d::cs,[],low,hj,q,f,q1,q2=>by simp[jk] at q
 | j+1,c::d::cs,k::ks,low,hj,q,f,q1,q2=>by
  rw[pT] at q;have e1:gI (c::d::cs) (j+1+1) aD=c::gI (d::cs) (j+1) aD:=rfl;have e2:gI (k::ks) (j+1) up=k::gI ks j up:=rfl;rw[e1,e2];have E:=Qf (t:=t) (u:=u) (up:=up) (aD:=aD) j (kids:=d::cs) (keys:=ks) (low:=k) (by simpa using hj) q.2 (fun x hx=>f x (by rw[eraseIdx_cons_succ];exact mem_cons_of_mem _ hx)) (by
   have:=q1;rw[if_neg w4] at this;simp only[getElem_cons_succ,Nat.add_sub_cancel] at this;cases j with
   | zero=>exact this
   | succ j=>exact this) (by simpa using q2)
  have I:gI (d::cs) (j+1) aD=d::gI cs j aD:=rfl;rw[I] at E ⊢;rw[pT];exact⟨f c (by rw[eraseIdx_cons_succ];simp) _ _ q.1,E⟩
theorem N3{t:aG}{h:Nat}{high:K}:∀(m:Nat) {kids:List Int} {keys:List K} {low:K} (hm:m<keys.length),jk t h low kids keys high→jk t h low (kids.take (m+1)) (keys.take m) keys[m]∧jk t h keys[m] (kids.drop (m+1)) (keys.drop (m+1)) high
 | 0,c::d::cs,k::ks,low,hm,q=>by
  rw[pT] at q;exact⟨AW.2 q.1,q.2⟩
 | m+1,c::d::cs,k::ks,low,hm,q=>by
  rw[pT] at q;obtain⟨q1,q2⟩:=N3 m (kids:=d::cs) (keys:=ks) (by simpa using hm) q.2;refine⟨?_,q2⟩;have e:(c::d::cs).take (m+1+1)=c::d::cs.take m:=rfl;rw[e];show jk t h low (c::d::cs.take m) (k::ks.take m) _;rw[pT];exact⟨q.1,q1⟩
 | _,_,[],_,hm,_=>by simp at hm
 | _,[],_::_,_,_,q=>by simp[jk] at q
 | _,[c],_::_,_,_,q=>by simp[jk] at q
theorem A8{t:aG}{e:Int}:∀{a b:List Int},eZ t (a++b) e↔eZ t a (b.headD e)∧eZ t b e
 | [],b=>by simp[eZ]
 | [i],[]=>by simp[eZ]
 | [i],j::b=>by simp[eZ]
 | i::j::a,b=>by
  have:=A8 (t:=t) (e:=e) (a:=j::a) (b:=b);show(t.pg i).next=j∧eZ t (j::a++b) e↔((t.pg i).next=j∧eZ t (j::a) (b.headD e))∧eZ t b e;rw[this,and_assoc]
theorem yd{t u:aG}:∀{a:List Int} {e:Int},(∀j∈a,(u.pg j).next=(t.pg j).next)→eZ t a e→eZ u a e
 | [],e,_,_=>trivial
 | [i],e,f,h=>by show(u.pg i).next=e;rw[f i bu];exact h
 | i::j::a,e,f,h=>⟨by rw[f i bu];exact h.1,yd (fun x hx=>f x (mem_cons_of_mem _ hx)) h.2⟩
theorem E1{t:aG}{n:Int}(hp:∀p∈t.ag,eC p n):∀{h:Nat} {i:Int} {low high:K},dV t h i low high→∀d,d≤h→cA t d i≠[]
 | 0,i,low,high,ok,d,hd=>by
  obtain rfl:d=0:=(by omega)
  simp[cA]
 | h+1,i,low,high,ok,d,hd=>by
  cases d with
  | zero=>simp[cA]
  | succ d =>
   obtain⟨q1,q2,I,O,E⟩:=ok;have po:=hp _ (jx q1);have hl:=(po.node q2).1;have h0:0<(t.pg i).kids.length:=(by omega)
   have:=E1 hp (E 0 h0) d w4;rw[cA];intro e;rw[flatMap_eq_nil_iff] at e;exact this (e _ (getElem_mem h0))
theorem rO{t:aG}:∀(h:Nat) (i:Int) (d:Nat),d≤h→∀x∈cA t d i,x∈ids t h i
 | 0,i,d,hd,x,hx=>by
  obtain rfl:d=0:=(by omega)
  exact hx
 | h+1,i,0,hd,x,hx=>by
  have:x=i:=(by simpa[cA] using hx)
  subst this;exact sR _ _
 | h+1,i,d+1,hd,x,hx=>by
  rw[cA] at hx;obtain⟨c,hc,hx⟩:=mem_flatMap.1 hx;rw[ids];exact mem_cons_of_mem _ (mem_flatMap.2 ⟨c,hc,rO h c d w4 x hx⟩)
theorem D8{a b:List α}(h:a≠[])(e:α):(a++b).headD e=a.headD e:=by
 cases a with
 | nil=>exact absurd rfl h
 | cons x r=>rfl

def nD(t:aG)(h:Nat)(i:Int):Option (K×Int)→List Int
 | none=>ids t h i
 | some (_,aD)=>ids t h i++ids t h aD
def Fq(t:aG)(h:Nat)(i:Int):Option (K×Int)→List (K×Int)
 | none=>ek t h i
 | some (_,aD)=>ek t h i++ek t h aD
def sj(t:aG)(d:Nat)(i:Int):Option (K×Int)→List Int
 | none=>cA t d i
 | some (_,aD)=>cA t d i++cA t d aD
def nK(t:aG)(h:Nat)(i:Int)(low high:K):Option (K×Int)→Prop
 | none=>dV t h i low high
 | some (up,aD)=>(1≤up.length∧up.length≤100)∧bN low up∧(high≠[]→bN up high)∧dV t h i low up∧dV t h aD up high
structure oh (t u:aG) (h:Nat) (i:Int) (low high:K) (k:K) (row:Int) (r:Option (K×Int)):Prop where
 le:t.ag.length≤u.ag.length
 more:u.ag.length≤t.ag.length+(h+1)
 root:u.root=t.root
 fA:∀p∈u.ag,eC p u.ag.length
 out:∀j:Int,0≤j→j<t.ag.length→j∉ids t h i→u.pg j=t.pg j
 ok:nK u h i low high r
 sub:∀x∈nD u h i r,x∈ids t h i∨(t.ag.length:Int)≤x
 nodup:(nD u h i r).Nodup
 WY:(nD u h i r).length+t.ag.length=(ids t h i).length+u.ag.length
 ek:∀x,x∈Fq u h i r↔x=(k,row)∨x∈ek t h i
 oV:∀d,d≤h→∀e,eZ t (cA t d i) e→eZ u (sj u d i r) e∧(sj u d i r).headD e=(cA t d i).headD e
def jl(t:aG)(i:Int)(a b:cY):aG:=⟨(t.ag.set i.toNat a)++[b],t.root⟩
theorem o9(t:aG)(i:Int)(a b:cY):(jl t i a b).ag.length=t.ag.length+1:=by simp[jl]
theorem OL(h:0≤i∧i<t.ag.length)(a b:cY):(jl t i a b).pg i=a:=by
 unfold aG.pg jl;rw[getD_eq_getElem?_getD,getElem?_append_left vh,getElem?_set_self w4];rfl
theorem Qg(t:aG)(i:Int)(a b:cY):(jl t i a b).pg t.ag.length=b:=by
 unfold aG.pg jl;rw[getD_eq_getElem?_getD,getElem?_append_right vh,length_set];simp
theorem N4{j:Int}(hi:0≤i)(hj:0≤j∧j<t.ag.length)(h:i≠j)(a b:cY):(jl t i a b).pg j=t.pg j:=by
 unfold aG.pg jl;rw[getD_eq_getElem?_getD,getD_eq_getElem?_getD,getElem?_append_left vh,getElem?_set_ne w4]
theorem HK{q:cY}(hp:∀p∈t.ag,eC p n)(hq:eC q n):∀p∈(t.set i q).ag,eC p n:=fun p h=>by
 rcases mem_or_eq_of_mem_set h with h|rfl
 ·exact hp p h
 exact hq
theorem N5{a b:cY}{m:Int}(hp:∀p∈t.ag,eC p n)(hm:n≤m)(ha:eC a m)(hb:eC b m):∀p∈(jl t i a b).ag,eC p m:=fun p h=>by
 unfold jl at h;rcases mem_append.1 h with h|h
 ·rcases mem_or_eq_of_mem_set h with h|rfl
  ·exact(hp p h).more hm
  exact ha
 rw[mem_singleton] at h;subst h;exact hb
theorem Io{aD:Int}(h:(bC (t.pg i) up aD).keys.length≤4):qW t i up aD=(t.set i (bC (t.pg i) up aD),none):=by unfold qW;rw[if_pos h]
theorem HL{aD:Int}(h:¬(bC (t.pg i) up aD).keys.length≤4):qW t i up aD=(jl t i (bn (bC (t.pg i) up aD) t.ag.length) (bq (bC (t.pg i) up aD)),some (je (bC (t.pg i) up aD),(t.ag.length:Int))):=by unfold qW;rw[if_neg h];rfl
theorem RH{q:cY}(hr:q.keys.Pairwise bN)(h5:q.keys.length=5)(hl:∀k∈q.keys,¬bN k low):bN low (je q)∧(∀k∈q.keys.drop 2,¬bN k (je q)):=by
 rw[yL h5];refine⟨NI (hl _ (getElem_mem (by omega:0<q.keys.length))) (mQ hr w4 w4),fun k hk=>?_⟩;obtain⟨j,hj,rfl⟩:=mem_iff_getElem.1 hk;rw[length_drop] at hj;rw[getElem_drop];rcases Nat.eq_zero_or_pos j with rfl|h0
 ·exact j8 _
 exact yJ (mQ hr w4 w4)
theorem abp(hp:∀p∈t.ag,eC p t.ag.length){high:K}(ok:dV t 0 i low high){k:K}{row:Int}(hk:lu low high k)(hn:∀x∈ek t 0 i,x.1≠k)(hl:1≤k.length∧k.length≤100)(hr:0≤row):oh t (qW t i k row).1 0 i low high k row (qW t i k row).2:=by
 obtain⟨q1,q2,O,q4⟩:=ok;have po:=hp _ (jx q1);have U:k∉(t.pg i).keys:=fun hm=>by
  obtain⟨j,hj,e⟩:=mem_iff_getElem.1 hm;have hlen:=po.leaf q2;refine hn ((t.pg i).keys[j],(t.pg i).kids[j]'w4) ?_ e;show _∈eY (t.pg i);unfold eY;exact mem_iff_getElem.2 ⟨j,by rw[length_zip];omega,by rw[getElem_zip]⟩
 have hf:wc (bC (t.pg i) k row) t.ag.length:=Il po U hl (fun hne=>hk.2 (by rw[←O];exact hne) |> fun h=>by rw[O];exact h) hr (fun h=>by rw[q2] at h;cases h);have fJ:=(Ij po U).2.2;have hE:eY (bC (t.pg i) k row)=gI (eY (t.pg i)) (aL (t.pg i) k) (k,row):=by
  show(gI _ _ _).zip (gI _ _ _)=_;rw[if_pos q2];exact ZN (po.leaf q2) fJ k row
 have E:∀x∈(bC (t.pg i) k row).keys,¬bN x low:=fun x hx=>by
  rcases uu.1 hx with rfl|h
  ·exact hk.1
  exact q4 x h
 by_cases h4:(bC (t.pg i) k row).keys.length≤4
 ·rw[Io h4];have Z:=AV q1 (bC (t.pg i) k row);refine⟨by rw[nQ];omega,by rw[nQ];omega,rfl,by rw[nQ];exact HK hp (hf.ok h4),fun j h0 hj hne=>?_,?_,fun x hx=>.inl hx,?_,by rw[nQ];rfl,fun x=>?_,fun d hd e hs=>?_⟩
  ·exact vJ q1.1 h0 (by intro e;subst e;simp[ids] at hne) _
  ·exact⟨by rw[nQ];exact q1,by rw[Z];exact q2,by rw[Z];exact O,by rw[Z];exact E⟩
  ·show[i].Nodup;simp
  ·show x∈eY ((t.set i _).pg i)↔_;rw[Z,hE,uu];rfl
  obtain rfl:d=0:=(by omega)
  refine⟨?_,rfl⟩;show((t.set i _).pg i).next=e;rw[Z];exact hs
 have h5:(bC (t.pg i) k row).keys.length=5:=(by have:=hf.eM;omega)
 rw[HL h4];have I:(bC (t.pg i) k row).leaf=true:=q2;have ea:=OL q1 (bn (bC (t.pg i) k row) t.ag.length) (bq (bC (t.pg i) k row));have eb:=Qg t i (bn (bC (t.pg i) k row) t.ag.length) (bq (bC (t.pg i) k row));obtain⟨u1,u2⟩:=RH hf.jN h5 E;have C3:je (bC (t.pg i) k row)∈(bC (t.pg i) k row).keys:=(by rw[yL h5];exact getElem_mem _)
 have gK:eY (bn (bC (t.pg i) k row) t.ag.length)++eY (bq (bC (t.pg i) k row))=eY (bC (t.pg i) k row):=by
  show((bC (t.pg i) k row).keys.take 2).zip ((bC (t.pg i) k row).kids.take (if (bC (t.pg i) k row).leaf=true then 2 else 3))++((bC (t.pg i) k row).keys.drop (if (bC (t.pg i) k row).leaf=true then 2 else 3)).zip ((bC (t.pg i) k row).kids.drop (if (bC (t.pg i) k row).leaf=true then 2 else 3))=_;rw[if_pos I,←zip_append (by rw[length_take,length_take,hf.leaf I]),take_append_drop,take_append_drop];rfl
 refine⟨by rw[o9];omega,by rw[o9];omega,rfl,?_,fun j h0 hj hne=>?_,⟨hf.lf _ C3,u1,fun hne=>hf.qf (by show(t.pg i).high≠[];rw[O];exact hne) _ C3 |> fun h=>by rw[←O];exact h,?_,?_⟩,fun x hx=>?_,?_,by rw[o9];show[i,(t.ag.length:Int)].length+_=[i].length+_;simp;omega,fun x=>?_,fun d hd e hs=>?_⟩
 ·rw[o9];exact N5 hp w4 (S6 hf h5 w4) (RG hf h5 w4)
 ·exact N4 q1.1 ⟨h0,hj⟩ (by intro e;subst e;simp[ids] at hne) _ _
 ·exact⟨by rw[o9];omega,by rw[ea];exact I,by rw[ea];rfl,by rw[ea];exact fun x hx=>E x (mem_of_mem_take hx)⟩
 ·refine⟨by rw[o9];omega,by rw[eb];exact I,by rw[eb];exact O,?_⟩;rw[eb];show ∀x∈(bC (t.pg i) k row).keys.drop (if (bC (t.pg i) k row).leaf=true then 2 else 3),_;rw[if_pos I];exact u2
 ·have oN:x∈[i,(t.ag.length:Int)]:=hx;simp only[mem_cons,not_mem_nil,or_false] at oN;rcases oN with rfl|rfl
  ·exact .inl (by simp[ids])
  exact .inr (Int.le_refl _)
 ·show[i,(t.ag.length:Int)].Nodup;simp;omega
 ·show x∈eY ((jl t i _ _).pg i)++eY ((jl t i _ _).pg _)↔_;rw[ea,eb,gK,hE,uu];rfl
 obtain rfl:d=0:=(by omega)
 refine⟨?_,rfl⟩;show((jl t i _ _).pg i).next=_∧((jl t i _ _).pg _).next=e;rw[ea,eb];exact⟨rfl,hs⟩

end Go.Proofs.YtdgichenhdikgaaGreatDoor.Tr

namespace Go.Proofs.YtdgichenhdikgaaGreatDoor.Tr
open List
open Go.Proofs.Tryz
open Go.Lib (compareBytes)
variable {α:Type} {A B:List Int} {v:aG}
theorem I7{keys:List K}(hr:keys.Pairwise bN){up:K}{j:Nat}(hj:j≤keys.length)(h1:∀(h:0<j),¬bN up (keys[j-1]'w4))(h2:∀(h:j<keys.length),bN up keys[j]):mA keys up=j:=by
 have E:=AT keys up;rcases Nat.lt_trichotomy (mA keys up) j with h|h|h
 ·exfalso;have aa:mA keys up<keys.length:=(by omega)
  have h3:=HI aa;have h4:=h1 w4;rcases Nat.lt_or_ge (mA keys up) (j-1) with h5|h5
  ·exact h4 (mv h3 (mQ hr h5 w4))
  have:mA keys up=j-1:=(by omega)
  simp only[this] at h3;exact h4 h3
 ·exact h
 exact absurd (h2 w4) (Ii h).2
theorem NJ{l:List α}{j:Nat}(hj:j<l.length)(x:α):gI l (j+1) x=l.take j++l[j]::x::l.drop (j+1):=by
 unfold gI;rw[take_succ_eq_append_getElem hj,append_assoc];rfl
theorem uw{l:List α}{j:Nat}(hj:j<l.length):l=l.take j++l[j]::l.drop (j+1):=by
 conv=>lhs;rw[←take_append_drop j l,drop_eq_getElem_cons hj]
theorem Yi{l:List α}{j:Nat}{x:α}(h:x∈l.eraseIdx j):x∈l.take j∨x∈l.drop (j+1):=by
 rw[eraseIdx_eq_take_drop_succ] at h;exact mem_append.1 h
variable {t:aG}
theorem vK{h:Nat}{i:Int}{j:Nat}(hj:j<(t.pg i).kids.length)(hn:(ids t (h+1) i).Nodup):(ids t h (t.pg i).kids[j]).Nodup∧i∉ids t h (t.pg i).kids[j]∧(∀x∈(t.pg i).kids.take j++(t.pg i).kids.drop (j+1),(∀y∈ids t h x,y∉ids t h (t.pg i).kids[j])∧i∉ids t h x) ∧
  (((t.pg i).kids.take j).flatMap (ids t h)++((t.pg i).kids.drop (j+1)).flatMap (ids t h)).Nodup∧i∉((t.pg i).kids.take j).flatMap (ids t h)++((t.pg i).kids.drop (j+1)).flatMap (ids t h):=by
 rw[ids,nodup_cons] at hn;obtain⟨h0,hn⟩:=hn;have hs:=uw hj;rw[hs,flatMap_append,flatMap_cons] at hn h0;simp only[mem_append,not_or] at h0;rw[nodup_append] at hn;obtain⟨n1,n2,n3⟩:=hn;rw[nodup_append] at n2;obtain⟨n4,n5,n6⟩:=n2;refine⟨n4,h0.2.1,fun x hx=>?_,?_,?_⟩
 ·rcases mem_append.1 hx with hx|hx
  ·exact⟨fun y hy hc=>n3 y (mem_flatMap.2 ⟨x,hx,hy⟩) y (mem_append_left _ hc) rfl,fun hi=>h0.1 (mem_flatMap.2 ⟨x,hx,hi⟩)⟩
  exact⟨fun y hy hc=>n6 y hc y (mem_flatMap.2 ⟨x,hx,hy⟩) rfl,fun hi=>h0.2.2 (mem_flatMap.2 ⟨x,hx,hi⟩)⟩
 ·rw[nodup_append];exact⟨n1,n5,fun a ha b hb=>n3 a ha b (mem_append_right _ hb)⟩
 simp only[mem_append,not_or];exact⟨h0.1,h0.2.2⟩
theorem HM{f g:Int→List α}{c aD:Int}(hA:∀x∈A,f x=g x)(E:∀x∈B,f x=g x):(A++c::aD::B).flatMap f=A.flatMap g++(f c++f aD)++B.flatMap g:=by
 rw[flatMap_append,flatMap_cons,flatMap_cons,qF hA,qF E];simp
theorem Ip{f g:Int→List α}{c:Int}(hA:∀x∈A,f x=g x)(E:∀x∈B,f x=g x):(A++c::B).flatMap f=A.flatMap g++f c++B.flatMap g:=by
 rw[flatMap_append,flatMap_cons,qF hA,qF E];simp

structure jv (t u:aG) (h:Nat) (i:Int) (low high:K) (j:Nat) (k:K) (row:Int) (r:Option (K×Int)):Prop where
 hp:∀p∈t.ag,eC p t.ag.length
 ok:dV t (h+1) i low high
 nd:(ids t (h+1) i).Nodup
 hj:j<(t.pg i).kids.length
 hk:lu (ig low (t.pg i) j) (gM (t.pg i) j) k
 ins:oh t u h ((t.pg i).kids.getD j 0) (ig low (t.pg i) j) (gM (t.pg i) j) k row r
section
variable {u:aG} {h:Nat} {i:Int} {low high:K} {j:Nat} {k:K} {row:Int} {r:Option (K×Int)}
theorem jv.aD(m:jv t u h i low high j k row r):(t.pg i).kids.getD j 0=(t.pg i).kids[j]'m.hj:=sZ m.hj
theorem jv.same(m:jv t u h i low high j k row r):u.pg i=t.pg i:=by
 have:=(vK m.hj m.nd).2.1;exact m.ins.out i m.ok.idx.1 m.ok.idx.2 (by rw[m.aD];exact this)
structure nS (u v:aG) (i:Int):Prop where
 le:u.ag.length≤v.ag.length
 pg:∀x:Int,0≤x→x<u.ag.length→x≠i→v.pg x=u.pg x
theorem jv.others(m:jv t u h i low high j k row r)(ha:nS u v i):∀x∈(t.pg i).kids.take j++(t.pg i).kids.drop (j+1),∀y∈ids t h x,v.pg y=t.pg y:=fun x hx y hy=>by
 obtain⟨h1,h2⟩:=(vK m.hj m.nd).2.2.1 x hx;have I:y≠i:=fun e=>h2 (e ▸ hy);have E:0≤y∧y<t.ag.length:=by
  have hm:y∈ids t (h+1) i:=by
   rw[ids];refine mem_cons_of_mem _ (mem_flatMap.2 ⟨x,?_,hy⟩);rcases mem_append.1 hx with hx|hx
   ·exact mem_of_mem_take hx
   exact mem_of_mem_drop hx
  exact m.ok.ids y hm
 have O:=m.ins.le;rw[ha.pg y E.1 w4 I,m.ins.out y E.1 E.2 (by rw[m.aD];exact h1 y hy)]
theorem jv.below(m:jv t u h i low high j k row r)(ha:nS u v i):∀y∈nD u h ((t.pg i).kids[j]'m.hj) r,0≤y→y<u.ag.length→v.pg y=u.pg y:=fun y hy h0 hl=>by
 refine ha.pg y h0 hl fun e=>?_;have hs:=m.ins.sub y (by rw[m.aD];exact hy);rw[m.aD] at hs;rcases hs with hs|hs
 ·exact(vK m.hj m.nd).2.1 (e ▸ hs)
 have:=m.ok.idx;omega
theorem jv.qa(m:jv t u h i low high j k row r)(ha:nS u v i){x:Int}(hx:x∈(t.pg i).kids.take j++(t.pg i).kids.drop (j+1)):ids v h x=ids t h x∧ek v h x=ek t h x∧∀d,d≤h→cA v d x=cA t d x:=frame h x (m.others ha x hx)
theorem jv.RI(m:jv t u h i low high j k row r)(ha:nS u v i){x:Int}(hx:x∈(t.pg i).kids.take j++(t.pg i).kids.drop (j+1)){lo hi:K}(aT:dV t h x lo hi):dV v h x lo hi:=by
 have:=m.ins.le;have:=ha.le;exact aT.frame w4 (m.others ha x hx)
theorem jv.Qh(m:jv t u h i low high j k row r):(((t.pg i).kids.take j).flatMap (ids t h)++nD u h ((t.pg i).kids[j]'m.hj) r++((t.pg i).kids.drop (j+1)).flatMap (ids t h)).Nodup∧i∉((t.pg i).kids.take j).flatMap (ids t h)++nD u h ((t.pg i).kids[j]'m.hj) r++((t.pg i).kids.drop (j+1)).flatMap (ids t h):=by
 obtain⟨a1,a2,a3,a4,a5⟩:=vK m.hj m.nd;have hnd:=m.ins.nodup;have E:=m.ins.sub;rw[m.aD] at hnd E;have aa:∀x∈(t.pg i).kids.take j++(t.pg i).kids.drop (j+1),∀y∈ids t h x,y<t.ag.length:=fun x hx y hy=>by
  refine(m.ok.ids y ?_).2;rw[ids];refine mem_cons_of_mem _ (mem_flatMap.2 ⟨x,?_,hy⟩);rcases mem_append.1 hx with hx|hx
  ·exact mem_of_mem_take hx
  exact mem_of_mem_drop hx
 have I:∀x∈(t.pg i).kids.take j++(t.pg i).kids.drop (j+1),∀y∈ids t h x,y∉nD u h ((t.pg i).kids[j]'m.hj) r:=fun x hx y hy hm=>by
  rcases E y hm with hs|hs
  ·exact(a3 x hx).1 y hy hs
  have:=aa x hx y hy;omega
 have O:i∉nD u h ((t.pg i).kids[j]'m.hj) r:=fun hm=>by
  rcases E i hm with hs|hs
  ·exact a2 hs
  have:=m.ok.idx;omega
 rw[nodup_append] at a4;obtain⟨b1,b2,b3⟩:=a4;refine⟨?_,?_⟩
 ·rw[nodup_append,nodup_append];refine⟨⟨b1,hnd,fun a ha b hb e=>?_⟩,b2,fun a ha b hb e=>?_⟩
  ·obtain⟨x,hx,ha⟩:=mem_flatMap.1 ha;subst e;exact I x (mem_append_left _ hx) a ha hb
  obtain⟨x,hx,jG⟩:=mem_flatMap.1 hb;subst e;rcases mem_append.1 ha with ha|ha
  ·exact b3 a ha a hb rfl
  exact I x (mem_append_right _ hx) a jG ha
 simp only[mem_append,not_or] at a5 ⊢;exact⟨⟨a5.1,O⟩,a5.2⟩
theorem jv.S8(m:jv t u h i low high j k row r):(((t.pg i).kids.take j).flatMap (ids t h)++nD u h ((t.pg i).kids[j]'m.hj) r++((t.pg i).kids.drop (j+1)).flatMap (ids t h)).length+1+t.ag.length=(ids t (h+1) i).length+u.ag.length:=by
 have hc:=m.ins.WY;rw[m.aD] at hc;have e:(ids t (h+1) i).length=1+((((t.pg i).kids.take j).flatMap (ids t h)).length+((ids t h ((t.pg i).kids[j]'m.hj)).length+(((t.pg i).kids.drop (j+1)).flatMap (ids t h)).length)):=by
  rw[ids];conv=>lhs;rw[uw m.hj]
  rw[length_cons,flatMap_append,flatMap_cons,length_append,length_append];omega
 rw[e,length_append,length_append];omega
theorem jv.SL(m:jv t u h i low high j k row r):∀x∈((t.pg i).kids.take j).flatMap (ids t h)++nD u h ((t.pg i).kids[j]'m.hj) r++((t.pg i).kids.drop (j+1)).flatMap (ids t h),x∈ids t (h+1) i∨(t.ag.length:Int)≤x:=fun x hx=>by
 have E:=m.ins.sub;rw[m.aD] at E;have up:∀c∈(t.pg i).kids,∀y∈ids t h c,y∈ids t (h+1) i:=fun c hc y hy=>by rw[ids];exact mem_cons_of_mem _ (mem_flatMap.2 ⟨c,hc,hy⟩)
 rcases mem_append.1 hx with hx|hx
 ·rcases mem_append.1 hx with hx|hx
  ·obtain⟨c,hc,hx⟩:=mem_flatMap.1 hx;exact .inl (up c (mem_of_mem_take hc) x hx)
  rcases E x hx with hs|hs
  ·exact .inl (up _ (getElem_mem _) x hs)
  exact .inr hs
 obtain⟨c,hc,hx⟩:=mem_flatMap.1 hx;exact .inl (up c (mem_of_mem_drop hc) x hx)
theorem jv.I8(m:jv t u h i low high j k row r)(x:K×Int):x∈((t.pg i).kids.take j).flatMap (ek t h)++Fq u h ((t.pg i).kids[j]'m.hj) r++((t.pg i).kids.drop (j+1)).flatMap (ek t h)↔x=(k,row)∨x∈ek t (h+1) i:=by
 have he:=m.ins.ek x;rw[m.aD] at he;have e:ek t (h+1) i=((t.pg i).kids.take j).flatMap (ek t h)++(ek t h ((t.pg i).kids[j]'m.hj)++((t.pg i).kids.drop (j+1)).flatMap (ek t h)):=by
  rw[ek];conv=>lhs;rw[uw m.hj]
  rw[flatMap_append,flatMap_cons]
 rw[e];simp only[mem_append,he];constructor
 ·rintro((h|h|h)|h)
  ·exact .inr (.inl h)
  ·exact .inl h
  ·exact .inr (.inr (.inl h))
  exact .inr (.inr (.inr h))
 rintro(h|h|h|h)
 ·exact .inl (.inr (.inl h))
 ·exact .inl (.inl h)
 ·exact .inl (.inr (.inr h))
 exact .inr h
theorem jv.JB(m:jv t u h i low high j k row r)(ha:nS u v i){d:Nat}(hd:d≤h){e:Int}(hs:eZ t (cA t (d+1) i) e) :
  eZ v (((t.pg i).kids.take j).flatMap (cA t d)++sj u d ((t.pg i).kids[j]'m.hj) r++((t.pg i).kids.drop (j+1)).flatMap (cA t d)) e∧(((t.pg i).kids.take j).flatMap (cA t d)++sj u d ((t.pg i).kids[j]'m.hj) r++((t.pg i).kids.drop (j+1)).flatMap (cA t d)).headD e=(cA t (d+1) i).headD e:=by
 have hl:cA t (d+1) i=((t.pg i).kids.take j).flatMap (cA t d)++(cA t d ((t.pg i).kids[j]'m.hj)++((t.pg i).kids.drop (j+1)).flatMap (cA t d)):=by
  rw[cA];conv=>lhs;rw[uw m.hj]
  rw[flatMap_append,flatMap_cons]
 rw[hl] at hs ⊢;rw[A8,A8] at hs;obtain⟨s1,s2,s3⟩:=hs;obtain⟨g1,g2⟩:=m.ins.oV d hd _ (by rw[m.aD];exact s2);rw[m.aD] at g1 g2;obtain⟨_,_,_,_,O⟩:=m.ok;have hne:cA t d ((t.pg i).kids[j]'m.hj)≠[]:=E1 m.hp (O j m.hj) d hd;have fr:∀x∈(t.pg i).kids.take j++(t.pg i).kids.drop (j+1),∀y∈cA t d x,(v.pg y).next=(t.pg y).next:=fun x hx y hy=>by rw[m.others ha x hx y (rO h x d hd y hy)]
 have U:∀y∈sj u d ((t.pg i).kids[j]'m.hj) r,(v.pg y).next=(u.pg y).next:=fun y hy=>by
  have aT:=m.ins.ok;rw[m.aD] at aT;cases r with
  | none =>
   have hi:=rO h _ d hd y hy;have hb:=dV.ids aT y hi;rw[m.below ha y hi hb.1 hb.2]
  | some q =>
   obtain⟨up,aD⟩:=q;obtain⟨_,_,_,o1,o2⟩:=aT;rcases mem_append.1 hy with hy|hy
   ·have hi:=rO h _ d hd y hy;have hb:=o1.ids y hi;rw[m.below ha y (mem_append_left _ hi) hb.1 hb.2]
   have hi:=rO h _ d hd y hy;have hb:=o2.ids y hi;rw[m.below ha y (mem_append_right _ hi) hb.1 hb.2]
 have E:sj u d ((t.pg i).kids[j]'m.hj) r≠[]:=fun e0=>by
  have aT:=m.ins.ok;rw[m.aD] at aT;cases r with
  | none=>exact E1 m.ins.fA aT d hd e0
  | some q =>
   obtain⟨up,aD⟩:=q;exact E1 m.ins.fA aT.2.2.2.1 d hd (append_eq_nil_iff.1 e0).1
 have I:=yd (u:=v) (fun y hy=>by obtain⟨x,hx,hy⟩:=mem_flatMap.1 hy;exact fr x (mem_append_left _ hx) y hy) s1;have Z:=yd (u:=v) (fun y hy=>by obtain⟨x,hx,hy⟩:=mem_flatMap.1 hy;exact fr x (mem_append_right _ hx) y hy) s3;have g1':=yd (u:=v) U g1;have hh:∀e':Int,(sj u d ((t.pg i).kids[j]'m.hj) r).headD e'=(cA t d ((t.pg i).kids[j]'m.hj)).headD e':=fun e'=>by
  cases h1:sj u d ((t.pg i).kids[j]'m.hj) r with
  | nil=>exact absurd h1 E
  | cons a b =>
   cases h2:cA t d ((t.pg i).kids[j]'m.hj) with
   | nil=>exact absurd h2 hne
   | cons a' b'=>rw[h1,h2] at g2;exact g2
 rw[append_assoc];refine⟨?_,?_⟩
 ·rw[A8,A8];refine⟨?_,g1',Z⟩;rw[D8 E,hh];rw[D8 hne] at I;exact I
 cases hA:((t.pg i).kids.take j).flatMap (cA t d) with
 | cons a b=>rfl
 | nil=>rw[nil_append,nil_append,D8 E,D8 hne,hh]
end
end Go.Proofs.YtdgichenhdikgaaGreatDoor.Tr

namespace Go.Proofs.YtdgichenhdikgaaGreatDoor.Tr
open List
open Go.Proofs.Tryz
open Go.Lib (compareBytes)
variable {t u:aG} {h:Nat} {i:Int} {low high:K} {j:Nat} {k:K} {row:Int}
theorem ZO{α:Type}{l:List α}{j E:Nat}(I:E<l.length)(hne:E≠j):l[E]∈l.take j++l.drop (j+1):=by
 rcases Nat.lt_or_ge E j with h|h
 ·exact mem_append_left _ (mem_iff_getElem.2 ⟨E,by rw[length_take];omega,by rw[getElem_take]⟩)
 refine mem_append_right _ (mem_iff_getElem.2 ⟨E-(j+1),by rw[length_drop];omega,?_⟩);rw[getElem_drop];congr 1;omega
theorem Iq(m:jv t u h i low high j k row none):oh t u (h+1) i low high k row none:=by
 have E:nS u u i:=⟨Nat.le_refl _,fun _ _ _ _=>rfl⟩
 have I:=m.same;have Aq:=m.ok.idx;obtain⟨q1,q2,q3,q4,q5⟩:=m.ok;have aT:dV u h ((t.pg i).kids[j]'m.hj) (ig low (t.pg i) j) (gM (t.pg i) j):=(by have:=m.ins.ok;rw[m.aD] at this;exact this)
 have px:ids u (h+1) i=i::(((t.pg i).kids.take j).flatMap (ids t h)++nD u h ((t.pg i).kids[j]'m.hj) none++((t.pg i).kids.drop (j+1)).flatMap (ids t h)):=by
  rw[ids,I];conv=>lhs;rw[uw m.hj]
  rw[Ip (fun x hx=>(m.qa E (mem_append_left _ hx)).1) (fun x hx=>(m.qa E (mem_append_right _ hx)).1)];rfl
 have O:ek u (h+1) i=((t.pg i).kids.take j).flatMap (ek t h)++Fq u h ((t.pg i).kids[j]'m.hj) none++((t.pg i).kids.drop (j+1)).flatMap (ek t h):=by
  rw[ek,I];conv=>lhs;rw[uw m.hj]
  rw[Ip (fun x hx=>(m.qa E (mem_append_left _ hx)).2.1) (fun x hx=>(m.qa E (mem_append_right _ hx)).2.1)];rfl
 have U:∀d,d≤h→cA u (d+1) i=((t.pg i).kids.take j).flatMap (cA t d)++sj u d ((t.pg i).kids[j]'m.hj) none++((t.pg i).kids.drop (j+1)).flatMap (cA t d):=fun d hd=>by
  rw[cA,I];conv=>lhs;rw[uw m.hj]
  rw[Ip (fun x hx=>(m.qa E (mem_append_left _ hx)).2.2 d hd) (fun x hx=>(m.qa E (mem_append_right _ hx)).2.2 d hd)];rfl
 have hle:=m.ins.le;have TL:=m.ins.more;have Z:=m.Qh;refine⟨hle,by omega,m.ins.root,m.ins.fA,fun x h0 hx hne=>?_,?_,?_,?_,?_,?_,?_⟩
 ·refine m.ins.out x h0 hx fun hm=>hne ?_;rw[m.aD] at hm;rw[ids];exact mem_cons_of_mem _ (mem_flatMap.2 ⟨_,getElem_mem _,hm⟩)
 ·refine⟨⟨Aq.1,by omega⟩,by rw[I];exact q2,by rw[I];exact q3,by rw[I];exact q4,?_⟩;rw[I];intro j' jt;by_cases e:j'=j
  ·subst e;exact aT
  exact m.RI E (ZO jt e) (q5 j' jt)
 ·intro x hx;have oN:x∈ids u (h+1) i:=hx;exact Ua
 ·show(ids u (h+1) i).Nodup;rw[px,nodup_cons];exact⟨Z.2,Z.1⟩
 ·show(ids u (h+1) i).length+_=_;rw[px,length_cons];exact m.S8
 ·intro x;show x∈ek u (h+1) i↔_;rw[O];exact m.I8 x
 intro d hd e hs;cases d with
 | zero=>exact⟨by show(u.pg i).next=e;rw[I];exact hs,rfl⟩
 | succ d =>
  show eZ u (cA u (d+1) i) e∧(cA u (d+1) i).headD e=_;rw[U d w4];exact m.JB E w4 hs
theorem jv.place{up:K}{aD:Int}(m:jv t u h i low high j k row (some (up,aD))):aL (t.pg i) up=j∧up∉(t.pg i).keys∧lu low high up∧bN low up:=by
 obtain⟨q1,q2,I,O,Z⟩:=m.ok;have po:=m.hp _ (jx q1);have hn:=(po.node q2).1;have aT:=m.ins.ok;rw[m.aD] at aT;obtain⟨o1,o2,o3,o4,o5⟩:=aT;have U:=m.hj;have eR:∀(h0:0<j),bN ((t.pg i).keys[j-1]'w4) up:=fun h0=>by rw[EK h0 w4] at o2;exact o2
 have ez:∀(hl:j<(t.pg i).keys.length),bN up (t.pg i).keys[j]:=fun hl=>by
  rw[E0 hl] at o3;exact o3 (by intro e;have:=(po.lf _ (getElem_mem hl)).1;rw[e] at this;simp at this)
 have fJ:aL (t.pg i) up=j:=by
  unfold aL;rw[if_neg (by rw[q2];decide)];exact I7 po.jN w4 (fun h0=>yJ (eR h0)) ez
 have E:bN low up:=by
  rcases Nat.eq_zero_or_pos j with h0|h0
  ·rw[h0] at o2;exact o2
  exact NI (O _ (getElem_mem (by omega:j-1<_))) (eR h0)
 refine⟨fJ,fun hm=>?_,⟨yJ E,fun hne=>?_⟩,E⟩
 ·obtain⟨a,ha,e⟩:=mem_iff_getElem.1 hm;rcases Nat.lt_or_ge a j with h1|h1
  ·have h2:=eR w4;rcases Nat.lt_or_ge a (j-1) with h3|h3
   ·have:=mv (mQ po.jN h3 w4) h2;rw[e] at this;exact j8 _ this
   have:a=j-1:=(by omega)
   subst this;rw[e] at h2;exact j8 _ h2
  have h2:=ez w4;rcases Nat.lt_or_ge j a with h3|h3
  ·have:=mv h2 (mQ po.jN h3 ha);rw[e] at this;exact j8 _ this
  have:a=j:=(by omega)
  subst this;rw[e] at h2;exact j8 _ h2
 by_cases hl:j<(t.pg i).keys.length
 ·exact mv (ez hl) (by rw[←I];exact po.qf (by rw[I];exact hne) _ (getElem_mem hl))
 rw[I5 w4,I] at o3;exact o3 hne
theorem abq{up:K}{aD:Int}(m:jv t u h i low high j k row (some (up,aD))):oh t (qW u i up aD).1 (h+1) i low high k row (qW u i up aD).2:=by
 obtain⟨p1,p2,p3,p4⟩:=m.place;have es:=m.same;have Aq:=m.ok.idx;have aT:=m.ins.ok;rw[m.aD] at aT;obtain⟨o1,o2,o3,o4,o5⟩:=aT;obtain⟨q1,q2,q3,q4,q5⟩:=m.ok;have hle:=m.ins.le;have TL:=m.ins.more;have U:0≤i∧i<u.ag.length:=⟨Aq.1,by omega⟩
 have WZ:=m.hp _ (jx q1);have po:eC (t.pg i) u.ag.length:=WZ.more w4;have hn:=(po.node q2).1;have lR:=m.hj;have hf:wc (bC (t.pg i) up aD) u.ag.length:=Il po p2 o1 (by rw[q3];exact p3.2) o5.idx.1 (fun _=>o5.idx.2);have I:(bC (t.pg i) up aD).kids=(t.pg i).kids.take j++((t.pg i).kids[j]'m.hj)::aD::(t.pg i).kids.drop (j+1):=by
  show gI _ (if (t.pg i).leaf=true then _ else _) aD=_;rw[if_neg (by rw[q2];decide),p1];exact NJ m.hj aD
 have agc:(bC (t.pg i) up aD).keys=gI (t.pg i).keys j up:=by
  show gI _ _ _=_;rw[p1]
 have Z:∀x∈(bC (t.pg i) up aD).keys,¬bN x low:=fun x hx=>by
  rcases uu.1 hx with rfl|h
  ·exact p3.1
  exact q4 x h
 have hKT:jk t h low (t.pg i).kids (t.pg i).keys high:=(A7 WZ).1 m.ok |>.2.2.2.2
 -- what is below,in any tree aoD ang
 have below:∀{v:aG},nS u v i→(∀x,x∈ids u h ((t.pg i).kids[j]'m.hj)++ids u h aD→v.pg x=u.pg x):=fun E x hx=>by
  refine m.below E x hx ?_ ?_
  ·rcases mem_append.1 hx with hx|hx
   ·exact(o4.ids x hx).1
   exact(o5.ids x hx).1
  rcases mem_append.1 hx with hx|hx
  ·exact(o4.ids x hx).2
  exact(o5.ids x hx).2
 have MS:∀{v:aG},nS u v i→_:=fun {v} E=>frame (t:=u) (u:=v) h ((t.pg i).kids[j]'m.hj) (fun x hx=>below E x (mem_append_left _ hx));have MT:∀{v:aG},nS u v i→_:=fun {v} E=>frame (t:=u) (u:=v) h aD (fun x hx=>below E x (mem_append_right _ hx));have W0:∀{v:aG},nS u v i→jk v h low (bC (t.pg i) up aD).kids (bC (t.pg i) up aD).keys high:=fun {v} E=>by
  have e1:(bC (t.pg i) up aD).kids=gI (t.pg i).kids (j+1) aD:=(by rw[I];exact(NJ m.hj aD).symm)
  rw[e1,agc];refine Qf j m.hj hKT (fun c hc lo hi aT=>m.RI E ?_ aT) ?_ ?_
  ·rcases Yi hc with hc|hc
   ·exact mem_append_left _ hc
   exact mem_append_right _ hc
  ·have:=o4.frame E.le (fun x hx=>below E x (mem_append_left _ hx));unfold ig at this;exact this
  have:=o5.frame E.le (fun x hx=>below E x (mem_append_right _ hx));unfold gM at this;rw[q3] at this;exact this
 have UK:∀{v:aG},nS u v i→(bC (t.pg i) up aD).kids.flatMap (ids v h)=((t.pg i).kids.take j).flatMap (ids t h)++nD u h ((t.pg i).kids[j]'m.hj) (some (up,aD))++((t.pg i).kids.drop (j+1)).flatMap (ids t h):=fun {v} E=>by
  rw[I,HM (fun x hx=>(m.qa E (mem_append_left _ hx)).1) (fun x hx=>(m.qa E (mem_append_right _ hx)).1),(MS E).1,(MT E).1];rfl
 have TM:∀{v:aG},nS u v i→(bC (t.pg i) up aD).kids.flatMap (ek v h)=((t.pg i).kids.take j).flatMap (ek t h)++Fq u h ((t.pg i).kids[j]'m.hj) (some (up,aD))++((t.pg i).kids.drop (j+1)).flatMap (ek t h):=fun {v} E=>by
  rw[I,HM (fun x hx=>(m.qa E (mem_append_left _ hx)).2.1) (fun x hx=>(m.qa E (mem_append_right _ hx)).2.1),(MS E).2.1,(MT E).2.1];rfl
 have UL:∀{v:aG},nS u v i→∀d,d≤h→(bC (t.pg i) up aD).kids.flatMap (cA v d)=((t.pg i).kids.take j).flatMap (cA t d)++sj u d ((t.pg i).kids[j]'m.hj) (some (up,aD))++((t.pg i).kids.drop (j+1)).flatMap (cA t d):=fun {v} E d hd=>by
  rw[I,HM (fun x hx=>(m.qa E (mem_append_left _ hx)).2.2 d hd) (fun x hx=>(m.qa E (mem_append_right _ hx)).2.2 d hd),(MS E).2.2 d hd,(MT E).2.2 d hd];rfl
 have vw:=m.Qh;have BY:=m.S8;have UM:∀x:Int,0≤x→x<t.ag.length→x∉ids t (h+1) i→u.pg x=t.pg x∧x≠i:=fun x h0 hx hne=>by
  refine⟨m.ins.out x h0 hx fun hm=>hne ?_,fun e=>hne (by rw[e];exact sR _ _)⟩;rw[m.aD] at hm;rw[ids];exact mem_cons_of_mem _ (mem_flatMap.2 ⟨_,getElem_mem _,hm⟩)
 by_cases h4:(bC (u.pg i) up aD).keys.length≤4
 ·rw[Io h4];rw[es] at h4 ⊢;have ep:=AV U (bC (t.pg i) up aD);have E:nS u (u.set i (bC (t.pg i) up aD)) i:=⟨by rw[nQ];omega,fun x h0 hx hne=>vJ U.1 h0 (Ne.symm hne) _⟩
  have px:ids (u.set i (bC (t.pg i) up aD)) (h+1) i=i::(((t.pg i).kids.take j).flatMap (ids t h)++nD u h ((t.pg i).kids[j]'m.hj) (some (up,aD))++((t.pg i).kids.drop (j+1)).flatMap (ids t h)):=(by rw[ids,ep,UK E])
  refine⟨by rw[nQ];omega,by rw[nQ];omega,m.ins.root,by rw[nQ];exact HK m.ins.fA (hf.ok h4),fun x h0 hx hne=>?_,?_,fun x hx=>?_,?_,?_,fun x=>?_,fun d hd e hs=>?_⟩
  ·obtain⟨e1,e2⟩:=UM x h0 hx hne;rw[E.pg x h0 w4 e2,e1]
  ·show dV _ (h+1) i low high;refine(A7 (n:=u.ag.length) (by rw[ep];exact hf.ok h4)).2 ?_;rw[ep];exact⟨by rw[nQ];exact U,q2,q3,Z,W0 E⟩
  ·have oN:x∈ids (u.set i (bC (t.pg i) up aD)) (h+1) i:=hx;exact Ua
  ·show(ids _ (h+1) i).Nodup;rw[px,nodup_cons];exact⟨vw.2,vw.1⟩
  ·show(ids _ (h+1) i).length+_=_;rw[px,length_cons,nQ];exact BY
  ·show x∈ek _ (h+1) i↔_;rw[ek,ep,TM E];exact m.I8 x
  cases d with
  | zero=>exact⟨by show((u.set i _).pg i).next=e;rw[ep];exact hs,rfl⟩
  | succ d =>
   show eZ _ (cA _ (d+1) i) e∧(cA _ (d+1) i).headD e=_;rw[cA,ep,UL E d w4];exact m.JB E w4 hs
 have h5:(bC (t.pg i) up aD).keys.length=5:=(by rw[es] at h4;have:=hf.eM;omega)
 rw[HL h4];rw[es] at h4 ⊢;have C4:(bC (t.pg i) up aD).leaf=false:=q2;have ea:=OL U (bn (bC (t.pg i) up aD) u.ag.length) (bq (bC (t.pg i) up aD));have eb:=Qg u i (bn (bC (t.pg i) up aD) u.ag.length) (bq (bC (t.pg i) up aD));have E:nS u (jl u i (bn (bC (t.pg i) up aD) u.ag.length) (bq (bC (t.pg i) up aD))) i:=⟨by rw[o9];omega,fun x h0 hx hne=>N4 U.1 ⟨h0,hx⟩ (Ne.symm hne) _ _⟩
 obtain⟨u1,u2⟩:=RH hf.jN h5 Z;have C3:je (bC (t.pg i) up aD)∈(bC (t.pg i) up aD).keys:=(by rw[yL h5];exact getElem_mem _)
 have eR:=S6 hf h5 w4;have ez:=RG (m:=u.ag.length+1) hf h5 w4;have Ai:=N3 2 w4 (W0 E);rw[←yL h5] at Ai;have GP:(bn (bC (t.pg i) up aD) u.ag.length).kids=(bC (t.pg i) up aD).kids.take 3:=by
  show(bC (t.pg i) up aD).kids.take (if _ then _ else _)=_;rw[if_neg (by rw[C4];decide)]
 have GQ:(bq (bC (t.pg i) up aD)).kids=(bC (t.pg i) up aD).kids.drop 3:=by
  show(bC (t.pg i) up aD).kids.drop (if _ then _ else _)=_;rw[if_neg (by rw[C4];decide)]
 have ehy:(bq (bC (t.pg i) up aD)).keys=(bC (t.pg i) up aD).keys.drop 3:=by
  show(bC (t.pg i) up aD).keys.drop (if _ then _ else _)=_;rw[if_neg (by rw[C4];decide)]
 have O:∀{α:Type} (f:Int→List α),((bC (t.pg i) up aD).kids.take 3).flatMap f++((bC (t.pg i) up aD).kids.drop 3).flatMap f=(bC (t.pg i) up aD).kids.flatMap f:=fun f=>by rw[←flatMap_append,take_append_drop]
 have px:nD (jl u i (bn (bC (t.pg i) up aD) u.ag.length) (bq (bC (t.pg i) up aD))) (h+1) i (some (je (bC (t.pg i) up aD),(u.ag.length:Int)))=(i::((bC (t.pg i) up aD).kids.take 3).flatMap (ids (jl u i (bn (bC (t.pg i) up aD) u.ag.length) (bq (bC (t.pg i) up aD))) h))++((u.ag.length:Int)::((bC (t.pg i) up aD).kids.drop 3).flatMap (ids (jl u i (bn (bC (t.pg i) up aD) u.ag.length) (bq (bC (t.pg i) up aD))) h)):=by
  show ids _ (h+1) i++ids _ (h+1) _=_;rw[ids,ids,ea,eb,GP,GQ]
 have pid:=(O (ids (jl u i (bn (bC (t.pg i) up aD) u.ag.length) (bq (bC (t.pg i) up aD))) h)).trans (UK E);have aiv:∀x∈((t.pg i).kids.take j).flatMap (ids t h)++nD u h ((t.pg i).kids[j]'m.hj) (some (up,aD))++((t.pg i).kids.drop (j+1)).flatMap (ids t h),x<u.ag.length:=fun x hx=>by
  rcases mem_append.1 hx with hx|hx
  ·rcases mem_append.1 hx with hx|hx
   ·obtain⟨c,hc,hx⟩:=mem_flatMap.1 hx;obtain⟨a,ha,rfl⟩:=mem_iff_getElem.1 (mem_of_mem_take hc);have:=(q5 a ha).ids x hx;omega
   rcases mem_append.1 hx with hx|hx
   ·exact(o4.ids x hx).2
   exact(o5.ids x hx).2
  obtain⟨c,hc,hx⟩:=mem_flatMap.1 hx;obtain⟨a,ha,rfl⟩:=mem_iff_getElem.1 (mem_of_mem_drop hc);have:=(q5 a ha).ids x hx;omega
 refine⟨by rw[o9];omega,by rw[o9];omega,m.ins.root,?_,fun x h0 hx hne=>?_,⟨hf.lf _ C3,u1,fun hne=>?_,?_,?_⟩,fun x hx=>?_,?_,?_,fun x=>?_,fun d hd e hs=>?_⟩
 ·rw[o9];exact N5 m.ins.fA w4 eR ez
 ·obtain⟨e1,e2⟩:=UM x h0 hx hne;rw[E.pg x h0 w4 e2,e1]
 ·have:=hf.qf (by show(t.pg i).high≠[];rw[q3];exact hne) _ C3;rw[←q3];exact this
 ·refine(A7 (n:=(u.ag.length:Int)+1) (by rw[ea];exact eR)).2 ?_;rw[ea,GP];exact⟨by rw[o9];omega,C4,rfl,fun x hx=>Z x (mem_of_mem_take hx),Ai.1⟩
 ·refine(A7 (n:=(u.ag.length:Int)+1) (by rw[eb];exact ez)).2 ?_;rw[eb,GQ,ehy];refine⟨by rw[o9];omega,C4,q3,fun x hx=>u2 x ?_,Ai.2⟩;rw[show 3=2+1 from rfl,←drop_drop] at hx;exact mem_of_mem_drop hx
 ·rw[px] at hx;have fb:x=i∨x=(u.ag.length:Int)∨x∈((bC (t.pg i) up aD).kids.take 3).flatMap (ids (jl u i (bn (bC (t.pg i) up aD) u.ag.length) (bq (bC (t.pg i) up aD))) h)++((bC (t.pg i) up aD).kids.drop 3).flatMap (ids (jl u i (bn (bC (t.pg i) up aD) u.ag.length) (bq (bC (t.pg i) up aD))) h):=by
   rcases mem_append.1 hx with hx|hx
   ·rcases mem_cons.1 hx with h|h
    ·exact .inl h
    exact .inr (.inr (mem_append_left _ h))
   rcases mem_cons.1 hx with h|h
   ·exact .inr (.inl h)
   exact .inr (.inr (mem_append_right _ h))
  rw[pid] at fb;rcases fb with rfl|rfl|hx
  ·exact .inl (sR _ _)
  ·exact .inr w4
  exact m.SL x hx
 ·rw[px];have hnd:=vw.1;rw[←pid,nodup_append] at hnd;have pI:=vw.2;rw[←pid] at pI;simp only[mem_append,not_or] at pI;have jW:∀x∈((bC (t.pg i) up aD).kids.take 3).flatMap (ids (jl u i (bn (bC (t.pg i) up aD) u.ag.length) (bq (bC (t.pg i) up aD))) h)++((bC (t.pg i) up aD).kids.drop 3).flatMap (ids (jl u i (bn (bC (t.pg i) up aD) u.ag.length) (bq (bC (t.pg i) up aD))) h),x<u.ag.length:=fun x hx=>aiv x (by rw[←pid];exact hx);rw[nodup_append,nodup_cons,nodup_cons];refine⟨⟨pI.1,hnd.1⟩,⟨fun hm=>?_,hnd.2.1⟩,fun a ha b hb e=>?_⟩
  ·have:=jW _ (mem_append_right _ hm);omega
  subst e;rcases mem_cons.1 ha with rfl|ha
  ·rcases mem_cons.1 hb with hb|hb
   ·omega
   exact pI.2 hb
  rcases mem_cons.1 hb with rfl|hb
  ·have:=jW _ (mem_append_left _ ha);omega
  exact hnd.2.2 a ha a hb rfl
 ·rw[px,o9];have:=congrArg length pid;rw[length_append] at this;rw[length_append,length_cons,length_cons];omega
 ·show x∈ek _ (h+1) i++ek _ (h+1) _↔_;rw[ek,ek,ea,eb,GP,GQ,O,TM E];exact m.I8 x
 cases d with
 | zero =>
  refine⟨?_,rfl⟩;show((jl u i _ _).pg i).next=_∧((jl u i _ _).pg _).next=e;rw[ea,eb];exact⟨rfl,hs⟩
 | succ d =>
  show eZ _ (cA _ (d+1) i++cA _ (d+1) _) e∧(cA _ (d+1) i++cA _ (d+1) _).headD e=_;rw[cA,cA,ea,eb,GP,GQ,O,UL E d w4];exact m.JB E w4 hs
theorem E2:∀{h:Nat} {t:aG} (hp:∀p∈t.ag,eC p t.ag.length) {i:Int} {low high:K} (ok:dV t h i low high) (nd:(ids t h i).Nodup) {k:K} {row:Int} (hk:lu low high k) (hn:∀x∈ek t h i,x.1≠k) (hl:1≤k.length∧k.length≤100) (hr:0≤row),oh t (gl t k row h i).1 h i low high k row (gl t k row h i).2
 | 0,t,hp,i,low,high,ok,nd,k,row,hk,hn,hl,hr=>abp hp ok hk hn hl hr
 | h+1,t,hp,i,low,high,ok,nd,k,row,hk,hn,hl,hr=>by
  obtain⟨q1,q2,O,Z,U⟩:=id ok;have po:=hp _ (jx q1);obtain⟨d1,d2⟩:=down po q2 O hk;have E:=(vK d1 nd).1;have I:=E2 (h:=h) hp (U _ d1) E d2 (fun x hx=>hn x LH) hl hr;rw[←sZ d1] at I;rw[gl];generalize gl t k row h ((t.pg i).kids.getD (aL (t.pg i) k) 0)=R at I;obtain⟨u,r⟩:=R;have m:jv t u h i low high (aL (t.pg i) k) k row r:=⟨hp,ok,nd,d1,d2,I⟩
  cases r with
  | none=>exact Iq m
  | some q=>obtain⟨up,aD⟩:=q;exact abq m

end Go.Proofs.YtdgichenhdikgaaGreatDoor.Tr
namespace Go.Proofs.YtdgichenhdikgaaGreatDoor.Tr
open List
open Go.Proofs.Tryz
open Go.Lib (compareBytes)
variable {t:aG} {h:Nat} {k:K} {row:Int}
variable {p:cY}
def kL(t:aG)(h:Nat):List (K×Int):=ek t h t.root
def gB(t:aG)(h:Nat)(k:K)(row:Int):aG:=agb (gl t k row h t.root)
def iV(u:aG)(up:K)(aD:Int):aG:=⟨u.ag++[⟨false,[up],[u.root,aD],[],-1⟩],u.ag.length⟩
theorem s5(u:aG)(up:K)(aD:Int):(iV u up aD).ag.length=u.ag.length+1:=by simp[iV]
theorem abr(u:aG)(up:K)(aD:Int):(iV u up aD).pg u.ag.length=⟨false,[up],[u.root,aD],[],-1⟩:=by
 unfold aG.pg iV;rw[getD_eq_getElem?_getD,getElem?_append_right w4];simp
theorem abt{u:aG}{x:Int}(hx:0≤x∧x<u.ag.length)(up:K)(aD:Int):(iV u up aD).pg x=u.pg x:=by
 unfold aG.pg iV;rw[getD_eq_getElem?_getD,getD_eq_getElem?_getD,getElem?_append_left w4]
theorem Valid.range(v:Valid t h):0≤t.root∧t.root<t.ag.length:=v.ok.idx
theorem Qi(hp:∀p∈t.ag,eC p t.ag.length):∀{h:Nat} {i:Int} {low high:K},dV t h i low high→h+1≤(ids t h i).length
 | 0,_,_,_,_=>by simp[ids]
 | h+1,i,low,high,⟨q1,q2,I,O,E⟩=>by
  have po:=hp _ (jx q1);have hn:=(po.node q2).1;have h0:0<(t.pg i).kids.length:=(by omega)
  have:=Qi hp (E 0 h0);rw[ids,length_cons,uw h0,flatMap_append,flatMap_cons,length_append,length_append];omega
theorem Valid.high(v:Valid t h):h<t.ag.length:=by
 have:=Qi v.fA v.ok;rw[v.all] at this;omega
theorem ZP(v:Valid t h)(hn:∀x∈kL t h,x.1≠k)(hl:1≤k.length∧k.length≤100)(hr:0≤row)(hm:t.ag.length+(h+2)≤4000) :
  ∃h',(h≤h'∧h'≤h+1)∧Valid (gB t h k row) h'∧(t.ag.length≤(gB t h k row).ag.length∧(gB t h k row).ag.length≤t.ag.length+(h+2))∧∀x,x∈kL (gB t h k row) h'↔x=(k,row)∨x∈kL t h:=by
 have I:=E2 v.fA v.ok v.zv (td k) hn hl hr;unfold gB;generalize gl t k row h t.root=R at I;obtain⟨u,r⟩:=R;have hle:t.ag.length≤u.ag.length:=I.le;have TL:u.ag.length≤t.ag.length+(h+1):=I.more;have O:(nD u h t.root r).length+t.ag.length=(ids t h t.root).length+u.ag.length:=I.WY;rw[v.all] at O;have aoE:=v.pos;have E:u.root=t.root:=I.root;cases r with
 | none =>
  refine⟨h,⟨Nat.le_refl _,by omega⟩,⟨by show 1≤u.ag.length;omega,by show u.ag.length≤4000;omega,I.fA,?_,?_,?_,fun d hd=>?_⟩,⟨hle,by show u.ag.length≤_;omega⟩,fun x=>?_⟩
  ·show dV u h u.root [] [];rw[E];exact I.ok
  ·show(ids u h u.root).Nodup;rw[E];exact I.nodup
  ·show(ids u h u.root).length=u.ag.length;rw[E];have:(ids u h t.root).length+t.ag.length=t.ag.length+u.ag.length:=O;omega
  ·show eZ u (cA u d u.root) (-1);rw[E];exact(I.oV d hd (-1) (v.oV d hd)).1
  show x∈ek u h u.root↔_;rw[E];exact I.ek x
 | some q =>
  obtain⟨up,aD⟩:=q;obtain⟨o1,o2,o3,o4,o5⟩:(1≤up.length∧up.length≤100)∧bN [] up∧(([]:K)≠[]→bN up [])∧dV u h t.root [] up∧dV u h aD up []:=I.ok;have ho:∀x∈ids u h t.root++ids u h aD,(iV u up aD).pg x=u.pg x:=fun x hx=>by
   refine abt ?_ up aD;rcases mem_append.1 hx with hx|hx
   ·exact o4.ids x hx
   exact o5.ids x hx
  have f1:=frame (t:=u) (u:=iV u up aD) h t.root (fun x hx=>ho x (mem_append_left _ hx));have f2:=frame (t:=u) (u:=iV u up aD) h aD (fun x hx=>ho x (mem_append_right _ hx));have g1:dV (iV u up aD) h t.root [] up:=o4.frame (by rw[s5];omega) (fun x hx=>ho x (mem_append_left _ hx));have g2:dV (iV u up aD) h aD up []:=o5.frame (by rw[s5];omega) (fun x hx=>ho x (mem_append_right _ hx));have U:=abr u up aD;rw[E] at U;have hnd:=I.nodup;have px:ids (iV u up aD) (h+1) u.ag.length=(u.ag.length:Int)::(ids u h t.root++ids u h aD):=by
   rw[ids,U];show _::([t.root,aD].flatMap (ids (iV u up aD) h))=_;rw[flatMap_cons,flatMap_cons,flatMap_nil,append_nil,f1.1,f2.1]
  have Z:eC (⟨false,[up],[t.root,aD],[],-1⟩:cY) (u.ag.length+1:Nat):=by
   have i1:=o4.idx;have i2:=o5.idx;refine⟨by simp,by simp,by simp,by simp;omega,by simp,(fun h=>by cases h),fun _=>⟨rfl,by simp⟩,fun x hx=>?_,fun h=>absurd rfl h,by simp,fun x hx=>?_,fun _ x hx=>?_⟩
   ·have:x=up:=(by simpa using hx)
    subst this;exact o1
   ·have:x=t.root∨x=aD:=(by simpa using hx)
    rcases this with rfl|rfl
    ·exact i1.1
    exact i2.1
   have:x=t.root∨x=aD:=(by simpa using hx)
   rcases this with rfl|rfl<;>omega
  refine⟨h+1,⟨by omega,by omega⟩,⟨?_,?_,?_,?_,?_,?_,fun d hd=>?_⟩,⟨?_,?_⟩,fun x=>?_⟩
  ·show 1≤(iV u up aD).ag.length;rw[s5];omega
  ·show(iV u up aD).ag.length≤4000;rw[s5];omega
  ·show ∀p∈(iV u up aD).ag,eC p (iV u up aD).ag.length;rw[s5];intro p hp;rcases mem_append.1 hp with hp|hp
   ·have zY:eC p u.ag.length:=I.fA p hp;exact zY.more w4
   rw[mem_singleton] at hp;subst hp;rw[E];exact Z
  ·show dV (iV u up aD) (h+1) u.ag.length [] [];refine(A7 (n:=(u.ag.length+1:Nat)) (by rw[U];exact Z)).2 ?_;rw[U];refine⟨by rw[s5];omega,rfl,rfl,fun x _=>Jz x,?_⟩;rw[pT,AW];exact⟨g1,g2⟩
  ·show(ids (iV u up aD) (h+1) u.ag.length).Nodup;rw[px,nodup_cons];refine⟨fun hm=>?_,hnd⟩;rcases mem_append.1 hm with hm|hm
   ·have:=o4.ids _ hm;omega
   have:=o5.ids _ hm;omega
  ·show(ids (iV u up aD) (h+1) u.ag.length).length=(iV u up aD).ag.length;rw[px,s5,length_cons];have:(ids u h t.root++ids u h aD).length+t.ag.length=t.ag.length+u.ag.length:=O;omega
  ·show eZ (iV u up aD) (cA (iV u up aD) d u.ag.length) (-1);cases d with
   | zero=>show((iV u up aD).pg u.ag.length).next = -1;rw[U]
   | succ d =>
    rw[cA,U];show eZ _ ([t.root,aD].flatMap (cA (iV u up aD) d)) (-1);rw[flatMap_cons,flatMap_cons,flatMap_nil,append_nil,f1.2.2 d w4,f2.2.2 d w4];refine yd (fun x hx=>?_) (I.oV d w4 (-1) (v.oV d w4)).1;have oN:x∈cA u d t.root++cA u d aD:=hx;rw[ho x ?_];rcases mem_append.1 oN with oN|oN
    ·exact mem_append_left _ (rO h _ d w4 x oN)
    exact mem_append_right _ (rO h _ d w4 x oN)
  ·show t.ag.length≤(iV u up aD).ag.length;rw[s5];omega
  ·show(iV u up aD).ag.length≤_;rw[s5];omega
  show x∈ek (iV u up aD) (h+1) u.ag.length↔_;rw[ek,U];show x∈[t.root,aD].flatMap (ek (iV u up aD) h)↔_;rw[flatMap_cons,flatMap_cons,flatMap_nil,append_nil,f1.2.1,f2.2.1];exact I.ek x
theorem OM:Valid sg 0:=by
 refine⟨by decide,by decide,fun p hp=>?_,⟨by decide,rfl,rfl,fun k hk=>by cases hk⟩,by simp[ids],rfl,fun d hd=>?_⟩
 ·have:p=⟨true,[],[],[],-1⟩:=(by simpa[sg] using hp)
  subst this;exact⟨by simp,by simp,by simp,by simp[sg],by simp,fun _=>rfl,(fun h=>by cases h),(fun k hk=>by cases hk),(fun h=>absurd rfl h),by simp,(fun n hn=>by cases hn),(fun h=>by cases h)⟩
 obtain rfl:d=0:=(by omega)
 rfl
theorem abu:kL sg 0=[]:=rfl
theorem Er(hl:p.kids.length=p.keys.length){a:Nat}(ha:a<p.keys.length):(eY p)[a]'(by unfold eY;rw[length_zip];omega)=(p.keys[a],p.kids[a]'w4):=by unfold eY;rw[getElem_zip]
theorem AK(hl:p.kids.length=p.keys.length){x:K×Int}:x∈eY p↔∃a,∃(ha:a<p.keys.length),x=(p.keys[a],p.kids[a]'w4):=by
 constructor
 ·intro h;obtain⟨a,ha,e⟩:=mem_iff_getElem.1 h;have E:a<p.keys.length:=(by unfold eY at ha;rw[length_zip] at ha;omega)
  exact⟨a,E,by rw[←e,Er hl E]⟩
 rintro⟨a,ha,rfl⟩;exact mem_iff_getElem.2 ⟨a,by unfold eY;rw[length_zip];omega,Er hl ha⟩
def Bi(t:aG)(k:K)(h:Nat):Prop:=∃(ha:aL (t.pg (aH t k h t.root)) k<(t.pg (aH t k h t.root)).keys.length),(t.pg (aH t k h t.root)).keys[aL (t.pg (aH t k h t.root)) k]=k
theorem Valid.leaf(v:Valid t h)(k:K):(0≤aH t k h t.root∧aH t k h t.root<t.ag.length)∧(t.pg (aH t k h t.root)).leaf=true:=by
 obtain⟨_,_,_,_,_,_,_,h3,_⟩:=AU v.fA v.ok (td k);exact⟨h3.1,h3.2.1⟩
theorem found(v:Valid t h)(k:K)(row:Int):(k,row)∈kL t h↔∃(ha:aL (t.pg (aH t k h t.root)) k<(t.pg (aH t k h t.root)).keys.length),(t.pg (aH t k h t.root)).keys[aL (t.pg (aH t k h t.root)) k]=k∧(t.pg (aH t k h t.root)).kids.getD (aL (t.pg (aH t k h t.root)) k) 0=row:=by
 obtain⟨pre,post,lo,hi,e,h1,h2,h3,h4⟩:=AU v.fA v.ok (td k);have po:=v.fA _ (jx h3.1);have fI:=h3.2.1;have hlen:=po.leaf fI;unfold kL;rw[vT,e,flatMap_append,flatMap_cons];generalize I:t.pg (aH t k h t.root)=p at *;have fJ:aL p k=gk p.keys k:=(by unfold aL;rw[if_pos fI])
 rw[fJ];simp only[mem_append];constructor
 ·rintro(hx|hx|hx)
  ·obtain⟨l,hl,hx⟩:=mem_flatMap.1 hx;exact absurd (h1 l hl _ hx) (j8 k)
  ·obtain⟨a,ha,e2⟩:=(AK hlen).1 hx;injection e2 with E O
   have:gk p.keys k=a:=by
    rcases Nat.lt_trichotomy (gk p.keys k) a with h5|h5|h5
    ·exfalso;have:=AJ (keys:=p.keys) (k:=k) w4;have h6:=mQ po.jN h5 ha;rw[←E] at h6;exact this h6
    ·exact h5
    have:=(AS h5).2;rw[←E] at this;exact absurd this (j8 k)
   subst this;exact⟨ha,E.symm,by rw[getD_eq_getElem?_getD,getElem?_eq_getElem w4];exact O.symm⟩
  obtain⟨l,hl,hx⟩:=mem_flatMap.1 hx;exact absurd (h2 l hl _ hx) (j8 k)
 rintro⟨ha,e1,e2⟩;refine .inr (.inl ((AK hlen).2 ⟨_,ha,?_⟩));rw[getD_eq_getElem?_getD,getElem?_eq_getElem w4] at e2;rw[e1];congr 1;exact e2.symm
theorem AL(v:Valid t h)(k:K):Bi t k h↔∃row,(k,row)∈kL t h:=by
 constructor
 ·rintro⟨ha,e⟩;exact⟨_,(found v k _).2 ⟨ha,e,rfl⟩⟩
 rintro⟨row,hr⟩;obtain⟨ha,e,_⟩:=(found v k row).1 hr;exact⟨ha,e⟩
def kp(p:cY)(a:Nat):cY:={p with keys:=p.keys.eraseIdx a,kids:=p.kids.eraseIdx a}
def gC(t:aG)(h:Nat)(k:K):aG:=t.set (aH t k h t.root) (kp (t.pg (aH t k h t.root)) (aL (t.pg (aH t k h t.root)) k))
theorem aeR{n:Int}(hp:eC p n)(hl:p.leaf=true){a:Nat}(ha:a<p.keys.length):eC (kp p a) n:=by
 have hlen:=hp.leaf hl;refine⟨?_,hp.hlen,hp.wF,hp.wi,hp.wG,fun _=>?_,fun h=>?_,fun k hk=>hp.lf k ((eraseIdx_sublist _ _).subset hk),fun hne k hk=>hp.qf hne k ((eraseIdx_sublist _ _).subset hk),hp.jN.sublist (eraseIdx_sublist _ _),fun x hx=>hp.aD x ((eraseIdx_sublist _ _).subset hx),fun h=>?_⟩
 ·show(p.keys.eraseIdx a).length≤4;rw[length_eraseIdx_of_lt ha];have:=hp.eM;omega
 ·show(p.kids.eraseIdx a).length=(p.keys.eraseIdx a).length;rw[length_eraseIdx_of_lt ha,length_eraseIdx_of_lt w4,hlen]
 ·have:p.leaf=false:=h;rw[hl] at this;cases this
 have:p.leaf=false:=h;rw[hl] at this;cases this
theorem ON{α β:Type}:∀{a:List α} {b:List β} {n:Nat},(a.eraseIdx n).zip (b.eraseIdx n)=(a.zip b).eraseIdx n
 | [],_,n=>by simp
 | _::_,[],n=>by cases n<;>simp
 | x::a,y::b,0=>by simp
 | x::a,y::b,n+1=>by simp[ON (a:=a) (b:=b) (n:=n)]
theorem Qj{q:cY}{l:Int}(hq:q.leaf=true)(hh:q.high=(t.pg l).high)(hx:q.next=(t.pg l).next)(hl:0≤l∧l<t.ag.length)(fI:(t.pg l).leaf=true)(E:∀k∈q.keys,k∈(t.pg l).keys):∀{h:Nat} {i:Int} {low high:K},dV t h i low high →
  dV (t.set l q) h i low high∧ids (t.set l q) h i=ids t h i∧∀d,d≤h→cA (t.set l q) d i=cA t d i
 | 0,i,low,high,⟨q1,q2,I,O⟩=>by
  refine⟨?_,rfl,fun d hd=>by cases Nat.le_zero.1 hd;rfl⟩;by_cases e:l=i
  ·subst e;rw[dV,AV hl,nQ];exact⟨q1,hq,by rw[hh];exact I,fun k hk=>O k (E k hk)⟩
  rw[dV,vJ hl.1 q1.1 e,nQ];exact⟨q1,q2,I,O⟩
 | h+1,i,low,high,⟨q1,q2,I,O,q5⟩=>by
  have e:l≠i:=fun e=>by rw[e,q2] at fI;cases fI
  have U:=vJ (t:=t) hl.1 q1.1 e q;have Z:=fun j (hj:j<(t.pg i).kids.length)=>Qj hq hh hx hl fI E (q5 j hj);refine⟨?_,?_,fun d hd=>?_⟩
  ·rw[dV,U,nQ];exact⟨q1,q2,I,O,fun j hj=>(Z j hj).1⟩
  ·rw[ids,ids,U];congr 1;refine qF fun c hc=>?_;obtain⟨j,hj,rfl⟩:=mem_iff_getElem.1 hc;exact(Z j hj).2.1
  cases d with
  | zero=>rfl
  | succ d =>
   rw[cA,cA,U];refine qF fun c hc=>?_;obtain⟨j,hj,rfl⟩:=mem_iff_getElem.1 hc;exact(Z j hj).2.2 d w4
theorem ZQ(v:Valid t h)(ht:Bi t k h):Valid (gC t h k) h∧(gC t h k).ag.length=t.ag.length∧∀x,x∈kL (gC t h k) h↔x∈kL t h∧x.1≠k:=by
 obtain⟨ha,hk⟩:=ht;obtain⟨hl,fI⟩:=v.leaf k;have po:=v.fA _ (jx hl);have hq:=aeR po fI ha;have hlen:=po.leaf fI;have S:=fun {i:Int} {low high:K} (ok:dV t h i low high)=>Qj (t:=t) (q:=kp (t.pg (aH t k h t.root)) (aL (t.pg (aH t k h t.root)) k)) (l:=aH t k h t.root) fI rfl rfl hl fI (fun k hk=>(eraseIdx_sublist _ _).subset hk) ok;obtain⟨s1,s2,s3⟩:=S v.ok;have E:(gC t h k).ag.length=t.ag.length:=nQ _ _ _;refine⟨⟨by rw[E];exact v.pos,by rw[E];exact v.nC,?_,s1,?_,?_,fun d hd=>?_⟩,E,fun x=>?_⟩
 ·rw[E];exact HK v.fA hq
 ·show(ids (gC t h k) h t.root).Nodup;unfold gC;rw[s2];exact v.zv
 ·show(ids (gC t h k) h t.root).length=_;rw[E];unfold gC;rw[s2];exact v.all
 ·show eZ (gC t h k) (cA (gC t h k) d t.root) (-1);unfold gC;rw[s3 d hd];refine yd (fun y hy=>?_) (v.oV d hd);have I:=v.ok.ids y (rO h _ d hd y hy);by_cases e:aH t k h t.root=y
  ·rw[←e,AV hl];rfl
  rw[vJ hl.1 I.1 e]
 obtain⟨pre,post,lo,hi,e,h1,h2,h3,h4⟩:=AU v.fA v.ok (td k);have hlv:(cA t h t.root).Nodup→aH t k h t.root∉pre∧aH t k h t.root∉post:=fun hn=>by
  rw[e,nodup_append,nodup_cons] at hn;exact⟨fun hm=>hn.2.2 _ hm _ (mem_cons_self) rfl,hn.2.1.1⟩
 have eR:∀y∈pre,eY ((gC t h k).pg y)=eY (t.pg y)∨y=aH t k h t.root:=fun y hy=>by
  by_cases e':aH t k h t.root=y
  ·exact .inr e'.symm
  left;have I:=v.ok.ids y (rO h _ h (Nat.le_refl _) y (by rw[e];exact mem_append_left _ hy));unfold gC;rw[vJ hl.1 I.1 e']
 have rp:∀y∈post,eY ((gC t h k).pg y)=eY (t.pg y)∨y=aH t k h t.root:=fun y hy=>by
  by_cases e':aH t k h t.root=y
  ·exact .inr e'.symm
  left;have I:=v.ok.ids y (rO h _ h (Nat.le_refl _) y (by rw[e];exact mem_append_right _ (mem_cons_of_mem _ hy)));unfold gC;rw[vJ hl.1 I.1 e']
 have Z:(k,(t.pg (aH t k h t.root)).kids.getD (aL (t.pg (aH t k h t.root)) k) 0)∈eY (t.pg (aH t k h t.root)):=(AK hlen).2 ⟨_,ha,by rw[hk,getD_eq_getElem?_getD,getElem?_eq_getElem w4];rfl⟩;have aiw:aH t k h t.root∉pre:=fun hm=>absurd (h1 _ hm _ Z) (j8 k);have agd:aH t k h t.root∉post:=fun hm=>absurd (h2 _ hm _ Z) (j8 k);have ed:eY ((gC t h k).pg (aH t k h t.root))=(eY (t.pg (aH t k h t.root))).eraseIdx (aL (t.pg (aH t k h t.root)) k):=by
  unfold gC;rw[AV hl];exact ON
 have fe:∀{A:List Int},(∀y∈A,eY ((gC t h k).pg y)=eY (t.pg y)∨y=aH t k h t.root)→aH t k h t.root∉A→A.flatMap (fun l=>eY ((gC t h k).pg l))=A.flatMap (fun l=>eY (t.pg l)):=fun {A} hA hn=>qF fun y hy=>(hA y hy).resolve_right fun e'=>hn (e' ▸ hy);have O:∀x:K×Int,x∈(eY (t.pg (aH t k h t.root))).eraseIdx (aL (t.pg (aH t k h t.root)) k)↔x∈eY (t.pg (aH t k h t.root))∧x.1≠k:=fun x=>by
  rw[mem_eraseIdx_iff_getElem];constructor
  ·rintro⟨a,W4,hne,rfl⟩;refine⟨getElem_mem _,fun hc=>hne ?_⟩;have U:a<(t.pg (aH t k h t.root)).keys.length:=(by unfold eY at W4;rw[length_zip] at W4;omega)
   rw[Er hlen U] at hc;have hc:(t.pg (aH t k h t.root)).keys[a]=k:=hc;rcases Nat.lt_trichotomy a (aL (t.pg (aH t k h t.root)) k) with h5|h5|h5
   ·have:=mQ po.jN h5 ha;rw[hc,hk] at this;exact absurd this (j8 k)
   ·exact h5
   have:=mQ po.jN h5 U;rw[hc,hk] at this;exact absurd this (j8 k)
  rintro⟨hx,hne⟩;obtain⟨a,U,rfl⟩:=(AK hlen).1 hx;refine⟨a,by unfold eY;rw[length_zip];omega,fun e'=>hne ?_,Er hlen U⟩;subst e';exact hk
 show x∈ek (gC t h k) h t.root↔x∈ek t h t.root∧_;rw[vT,vT];have aix:cA (gC t h k) h t.root=cA t h t.root:=s3 h (Nat.le_refl _);rw[aix,e,flatMap_append,flatMap_cons,flatMap_append,flatMap_cons,fe eR aiw,fe rp agd,ed];simp only[mem_append,O];constructor
 ·rintro(hx|hx|hx)
  ·refine⟨.inl hx,fun hc=>?_⟩;obtain⟨l,lT,hx⟩:=mem_flatMap.1 hx;have:=h1 l lT x hx;rw[hc] at this;exact j8 k this
  ·exact⟨.inr (.inl hx.1),hx.2⟩
  refine⟨.inr (.inr hx),fun hc=>?_⟩;obtain⟨l,lT,hx⟩:=mem_flatMap.1 hx;have:=h2 l lT x hx;rw[hc] at this;exact j8 k this
 rintro⟨hx|hx|hx,hne⟩
 ·exact .inl hx
 ·exact .inr (.inl ⟨hx,hne⟩)
 exact .inr (.inr hx)

end Go.Proofs.YtdgichenhdikgaaGreatDoor.Tr
namespace Go.Proofs.YtdgichenhdikgaaGreatDoor.Tr
open List
open Go.Proofs.Tryz
open Go.Lib (compareBytes)
def so(lv:List (List Int))(n:Nat):List (List Int):=lv++replicate (n-lv.length) []
def kv(lv:List (List Int))(level:Nat)(i:Int):List (List Int):=(so lv (level+1)).set level ((so lv (level+1)).getD level []++[i])
abbrev jw:=List Int×List (List Int)
def lF(go:Int→K→K→jw→Option (Nat×jw))(low:K)(p:cY):List Int→Nat→Option Nat→jw→Option (Nat×jw)
 | [],_,deep,s=>deep.map fun d=>(d,s)
 | c::cs,k,deep,s=>match go c (ig low p k) (gM p k) s with
  | none=>none
  | some (d,s')=>if deep=none∨deep=some d then lF go low p cs (k+1) (some d) s' else none
def jm(t:aG):Nat→Int→K→K→Nat→jw→Option (Nat×jw)
 | 0,_,_,_,_,_=>none
 | f+1,i,low,high,level,s =>
  if i∈s.1 then none
  else if (t.pg i).high≠high∨(∃k,(t.pg i).keys.head?=some k∧bN k low) then none
  else if (t.pg i).leaf=true then some (level,(s.1++[i],kv s.2 level i))
  else lF (fun c lo hi s=>jm t f c lo hi (level+1) s) low (t.pg i) (t.pg i).kids 0 none (s.1++[i],kv s.2 level i)
def uB(t:aG):Prop:=∀p∈t.ag,eC p t.ag.length
open Classical in
noncomputable def gm(t:aG):Int :=
 if t.ag.length<1∨t.ag.length>4000∨t.root<0∨t.root≥t.ag.length then 11
 else if ¬uB t then 11
 else match jm t (t.ag.length+1) t.root [] [] 0 ([],[]) with
  | none=>11
  | some (_,s)=>if s.1.length≠t.ag.length then 11 else if ∀l∈s.2,eZ t l (-1) then 0 else 11
theorem Qk(lv:List (List Int))(n:Nat):(so lv n).length=max lv.length n:=by unfold so;rw[length_append,length_replicate];omega
theorem I9(lv:List (List Int))(n m:Nat):(so lv n).getD m []=lv.getD m []:=by
 unfold so;rw[getD_eq_getElem?_getD,getD_eq_getElem?_getD];rcases Nat.lt_or_ge m lv.length with h|h
 ·rw[getElem?_append_left h]
 rw[getElem?_append_right h,getElem?_eq_none h,getElem?_replicate];split<;>rfl
theorem Ir(lv:List (List Int))(level:Nat)(i:Int):(kv lv level i).length=max lv.length (level+1):=by unfold kv;rw[length_set,Qk]
theorem EL(lv:List (List Int))(level:Nat)(i:Int)(m:Nat):(kv lv level i).getD m []=lv.getD m []++(if m=level then [i] else []):=by
 unfold kv;rw[getD_eq_getElem?_getD];by_cases e:m=level
 ·subst e;rw[getElem?_set_self (by rw[Qk];omega),I9,if_pos rfl];rfl
 rw[getElem?_set_ne (fun h=>e h.symm),if_neg e,append_nil,←getD_eq_getElem?_getD,I9]
def wA(t:aG)(h level:Nat)(i:Int)(m:Nat):List Int:=if level≤m∧m≤level+h then cA t (m-level) i else []
variable {t:aG}
theorem Ql {h level:Nat} {low:K} {p:cY} (go:Int→K→K→jw→Option (Nat×jw))
  (O:∀(c:Int) (lo hi:K) (s:jw),dV t h c lo hi→(∀x∈ids t h c,x∉s.1)→(ids t h c).Nodup→∃lv,go c lo hi s=some (level+1+h,(s.1++ids t h c,lv))∧lv.length=max s.2.length (level+1+h+1)∧∀m,lv.getD m []=s.2.getD m []++wA t h (level+1) c m) :
  ∀(cs:List Int) (k:Nat) (deep:Option Nat) (s:jw),(∀j (hj:j<cs.length),dV t h cs[j] (ig low p (k+j)) (gM p (k+j)))→(cs.flatMap (ids t h)).Nodup→(∀x∈cs.flatMap (ids t h),x∉s.1)→(deep=none∨deep=some (level+1+h))→(cs≠[]∨deep≠none) →
   ∃lv,lF go low p cs k deep s=some (level+1+h,(s.1++cs.flatMap (ids t h),lv))∧lv.length=(if cs=[] then s.2.length else max s.2.length (level+1+h+1))∧∀m,lv.getD m []=s.2.getD m []++(if level+1≤m∧m≤level+1+h then cs.flatMap (cA t (m-(level+1))) else [])
 | [],k,deep,s,_,_,_,hd,hne=>by
  rcases hd with rfl|rfl
  ·rcases hne with h|h<;>exact absurd rfl h
  exact⟨s.2,by simp[lF],by simp,fun m=>by split<;>simp⟩
 | c::cs,k,deep,s,aT,hnd,E,hd,_=>by
  rw[flatMap_cons] at hnd E;rw[nodup_append] at hnd;obtain⟨n1,n2,n3⟩:=hnd;obtain⟨I,e1,l1,m1⟩:=O c (ig low p k) (gM p k) s (aT 0 bu) (fun x hx=>E x (mem_append_left _ hx)) n1;obtain⟨U,e2,l2,m2⟩:=Ql go O cs (k+1) (some (level+1+h)) (s.1++ids t h c,I) (fun j hj=>by
   have:=aT (j+1) (by simpa using hj);simp only[getElem_cons_succ] at this;rw[show k+1+j=k+(j+1) by omega];exact this) n2 (fun x hx hm=>by
    rcases mem_append.1 hm with hm|hm
    ·exact E x (mem_append_right _ hx) hm
    exact n3 x hm x hx rfl) (.inr rfl) (.inr bu)
  refine⟨U,?_,?_,fun m=>?_⟩
  ·rw[lF,e1];show(if deep=none∨deep=some (level+1+h) then _ else _)=_;rw[if_pos hd,e2,flatMap_cons,append_assoc]
  ·rw[l2];show(if cs=[] then I.length else max I.length _)=_;rw[l1,if_neg (cons_ne_nil c cs)];split<;>omega
  rw[m2,m1];unfold wA;split
  ·rw[flatMap_cons,append_assoc]
  simp
theorem Ta(hp:∀p∈t.ag,eC p t.ag.length):∀{h f:Nat} {i:Int} {low high:K} {level:Nat} {s:jw},h<f→dV t h i low high→(∀x∈ids t h i,x∉s.1)→(ids t h i).Nodup →
  ∃lv,jm t f i low high level s=some (level+h,(s.1++ids t h i,lv))∧lv.length=max s.2.length (level+h+1)∧∀m,lv.getD m []=s.2.getD m []++wA t h level i m
 | h,0,_,_,_,_,_,hf,_,_,_=>by omega
 | 0,f+1,i,low,high,level,s,hf,ok,E,hnd=>by
  obtain⟨q1,q2,O,U⟩:=ok;refine⟨kv s.2 level i,?_,Ir _ _ _,fun m=>?_⟩
  ·rw[jm,if_neg (E i (sR 0 i)),if_neg,if_pos q2];rfl;rintro(h|⟨k,hk,aa⟩)
   ·exact h O
   exact U k (mem_of_mem_head? hk) aa
  rw[EL];unfold wA;congr 1;by_cases e:m=level
  ·subst e;rw[if_pos rfl,if_pos ⟨Nat.le_refl _,Nat.le_refl _⟩,Nat.sub_self];rfl
  rw[if_neg e,if_neg w4]
 | h+1,f+1,i,low,high,level,s,hf,ok,E,hnd=>by
  obtain⟨q1,q2,O,U,Z⟩:=ok;have po:=hp _ (jx q1);have I:(t.pg i).kids≠[]:=fun e=>by have:=(po.node q2).1;rw[e] at this;simp at this
  rw[ids,nodup_cons] at hnd;rw[ids] at E;obtain⟨lv,e,l,mm⟩:=Ql (t:=t) (h:=h) (level:=level) (low:=low) (p:=t.pg i) (fun c lo hi s=>jm t f c lo hi (level+1) s)
   (fun c lo hi s ok hd hn=>Ta hp (h:=h) (f:=f) (level:=level+1) w4 ok hd hn) (t.pg i).kids 0 none (s.1++[i],kv s.2 level i) (fun j hj=>by rw[Nat.zero_add];exact Z j hj) hnd.2 (fun x hx hm=>by
    rcases mem_append.1 hm with hm|hm
    ·exact E x (mem_cons_of_mem _ hx) hm
    rw[mem_singleton] at hm;subst hm;exact hnd.1 hx) (.inl rfl) (.inl I)
  refine⟨lv,?_,?_,fun m=>?_⟩
  ·rw[jm,if_neg (E i mem_cons_self),if_neg,if_neg (by rw[q2];decide),e,ids]
   ·simp;omega
   rintro(h|⟨k,hk,aa⟩)
   ·exact h O
   exact U k (mem_of_mem_head? hk) aa
  ·rw[l,if_neg I];show max (kv s.2 level i).length _=_;rw[Ir];omega
  rw[mm];show(kv s.2 level i).getD m []++_=_;rw[EL];unfold wA;rw[append_assoc];congr 1;by_cases e1:m=level
  ·subst e1;rw[if_pos rfl,if_neg w4,if_pos ⟨Nat.le_refl _,by omega⟩,Nat.sub_self];rfl
  rw[if_neg e1,nil_append];by_cases e2:level+1≤m∧m≤level+1+h
  ·rw[if_pos e2,if_pos w4];obtain⟨d,rfl⟩:∃d,m=level+1+d:=⟨m-(level+1),by omega⟩
   rw[show level+1+d-(level+1)=d by omega,show level+1+d-level=d+1 by omega,cA]
  rw[if_neg e2,if_neg w4]
open Classical in
theorem Is{h:Nat}(v:Valid t h):gm t=0:=by
 have hr:=v.range;have E:=v.pos;have hm:=v.nC;unfold gm;rw[if_neg w4,if_neg (by exact fun hn=>hn v.fA)];obtain⟨lv,e,l,I⟩:=Ta v.fA (f:=t.ag.length+1) (level:=0) (s:=([],[])) (by have:=v.high;omega) v.ok (fun x _ hx=>by cases hx) v.zv;rw[e];show(if ([]++ids t h t.root).length≠t.ag.length then _ else if ∀l∈lv,eZ t l (-1) then (0:Int) else 11)=0;rw[if_neg (by rw[nil_append,v.all];simp),if_pos];intro x hx;obtain⟨m,sO,rfl⟩:=mem_iff_getElem.1 hx;have:=I m;rw[getD_eq_getElem?_getD,getElem?_eq_getElem sO] at this;have e2:lv[m]=wA t h 0 t.root m:=(by simpa using this)
 rw[e2];unfold wA;rw[l] at sO;rw[if_pos (by simp at sO;omega),Nat.sub_zero];exact v.oV m (by simp at sO;omega)

end Go.Proofs.YtdgichenhdikgaaGreatDoor.Tr
namespace Go.Proofs.YtdgichenhdikgaaGreatDoor.Tw
open List
open Go.Proofs.Tryz
open Go.RowKit V Tr Pk
open Go.Lib (compareBytes)
variable {l hi k:K} {p:cY} {many:Int} {i:Nat}
def cK(k:K):List D:=[ax 1 cB k]
theorem ga(k:K):(cK k).length=1:=rfl
theorem pn(k:K):(cK k).all V.one=true:=rfl
def cI(n:Int):List D:=[ae n]
theorem eA(n:Int):(cI n).length=1:=rfl
theorem nu(n:Int):(cI n).all V.one=true:=rfl
def cP(p:cY):List D:=[bX p.leaf,ax 1 cK p.keys,ax 1 cI p.kids,ax 1 cB p.high,ae p.next]
theorem E3(p:cY):(cP p).length=5:=rfl
theorem aeS(p:cY):(cP p).all V.one=true:=rfl
def cT(t:aG):List D:=[ax 5 cP t.ag,ae t.root]
def nZ(k:K):Bool:=decide (0<k.length∧k.length≤100)
def uM(p:cY)(i:Nat):Prop:=∀(h:i<p.keys.length),nZ p.keys[i]=true∧(∀(h0:0<i),bN (p.keys[i-1]'w4) p.keys[i])∧(p.high≠[]→bN p.keys[i] p.high)
theorem abv{l:List K}(h:∀i (hi:i<l.length) (h0:0<i),bN (l[i-1]'w4) l[i]):l.Pairwise bN:=by
 refine pairwise_iff_getElem.2 fun i j hi hj E=>?_;obtain⟨d,rfl⟩:∃d,j=i+1+d:=⟨j-(i+1),by omega⟩
 induction d with
 | zero=>have:=h (i+1) hj w4;simpa using this
 | succ d ih =>
  have h1:=ih w4 w4;have h2:=h (i+1+(d+1)) hj w4;exact mv h1 (by simpa using h2)
theorem QV{n:Int}(h:eC p n)(i:Nat):uM p i:=fun hi=>by
 have hm:=getElem_mem hi;have:=h.lf _ hm;exact⟨by unfold nZ;simp;omega,fun h0=>mQ h.jN w4 hi,fun hne=>h.qf hne _ hm⟩
theorem Jo(h:decide ((l.length:Int)>0)=true):l≠[]:=fun e=>by rw[e] at h;cases h
theorem len_nil(h:decide ((l.length:Int)>0)=false):l=[]:=by
 have:=of_decide_eq_false h;exact length_eq_zero_iff.1 w4
theorem TN(h:decide ((hi.length:Int)>0)=true):decide (compareBytes k hi≥0)=decide (hi≠[]∧¬bN k hi):=by
 have:=Jo h;unfold bN;simp[this]
theorem TO(h:decide ((hi.length:Int)>0)=false):false=decide (hi≠[]∧¬bN k hi):=by simp[len_nil h]
variable {G:List (Nat×List Value)}
theorem vY(a b:K):VP Tryz.prog G 51 [ax 1 cB a,ax 1 cB b] (ae (compareBytes a b)):=by
 exact z130
theorem TP(a b:K)(ha:a.length≤maxLen)(hb:b.length≤maxLen):VP Tryz.prog G 133 [ax 1 cB a,ax 1 cB b] (bX (decide (a=b))):=by
 refine VC.body func133 rfl ntmps133 aO fun X0 w0 aY=>?_;refine af [0,1] ?_;refine cR [4] ?_;refine aR 1 ?_ (h:=by exact CG);refine aR 1 ?_ (h:=by exact CG);refine bH ?_;refine aI [] ?_;refine⟨vb ?_,rfl⟩;rw[ByteArray.toList_eq,ByteArray.toList_eq];show(a==b)=decide (a=b);by_cases h:a=b<;>simp[h]
theorem yM(k:K):VP Tryz.prog G 132 [ax 1 cB k] (bX (nZ k)):=by
 refine VC.body func132 rfl ntmps132 aO fun X0 w0 aY=>?_;refine af [0] ?_;refine aC 4 ?_;refine bW 6 (fun I E=>?_) (fun I E=>?_)
 ·refine bg [2] ?_;refine eK ?_;refine⟨vb ?_,rfl⟩;unfold nZ;first|(simp_all;done)|(simp_all;omega)
 refine bg [2] ?_;refine eK ?_;refine⟨vb ?_,rfl⟩;unfold nZ;first|(simp_all;done)|(simp_all;omega)
theorem ZR(p:cY)(k:K):VP Tryz.prog G 144 [.agg (cP p),ax 1 cB k] (bX (decide (p.high≠[]∧¬bN k p.high))):=by
 refine VC.body func144 rfl ntmps144 aO fun X0 w0 aY=>?_;unfold cP;refine cf ?_;refine OD.box (ds:=[_,_,_,_,_]) ap rfl rfl ot rfl rfl (fun b2=>?_);refine an 16 [1,2] ?_;refine aC 5 ?_;refine bW 9 (fun E I=>?_) (fun E I=>?_)
 ·refine aE 3 ?_;refine OD.gY ic rfl rfl rfl call51 (vY k p.high) ⟨ot,ot,trivial⟩ ?_;refine an 16 [4] ?_;refine aI [] ?_;refine⟨vb ?_,rfl⟩;first|exact TN E|exact TO E
 refine bg [4] ?_;refine eK ?_;refine⟨vb ?_,rfl⟩;first|exact TN E|exact TO E
theorem TQ{a:Int}(h:(decide (a<0)!=((l.length:Int)==0))=false):a<0↔l=[]:=by
 have h:decide (a<0)=((l.length:Int)==0):=(by simpa using h)
 rw[←length_eq_zero_iff];constructor
 ·intro q;rw[decide_eq_true q] at h;have:=beq_iff_eq.1 h.symm;omega
 intro q;rw[q] at h;exact of_decide_eq_true h
theorem afw{a:Int}(h:a<0↔l=[]):(!(decide (a<0)==((l.length:Int)==0)))=false:=by
 rw[←length_eq_zero_iff] at h;by_cases q:a<0
 ·rw[decide_eq_true q,h.1 q];rfl
 rw[decide_eq_false q];have:¬l.length=0:=fun e=>q (h.2 e);simp;exact fun e=>this (by rw[e];rfl)
open Classical in
noncomputable def Bt(p:cY)(many:Int):Bool:=decide (eC p many)
open Classical in
theorem Ee(h:¬eC p many):false=Bt p many:=(decide_eq_false h).symm
open Classical in
theorem ZS(h:eC p many):true=Bt p many:=(decide_eq_true h).symm
theorem acn{n:Int}(h:eC p n)(hi:i<p.kids.length):0≤p.kids[i]∧(p.leaf=false→p.kids[i]<n):=⟨h.aD _ (getElem_mem hi),fun hl=>h.u0 hl _ (getElem_mem hi)⟩
theorem abw(f1:p.keys.length≤4)(f2:p.high.length≤100)(f3:-1≤p.next)(f4:p.next<many)(I:(p.next<0↔p.high=[]))(O:(p.leaf=true→p.kids.length=p.keys.length))(E:(p.leaf=false→p.kids.length=p.keys.length+1∧p.keys.length≠0))(hk:∀j,j<p.keys.length→uM p j)(hc:∀j (hj:j<p.kids.length),0≤p.kids[j]∧(p.leaf=false→p.kids[j]<many)):eC p many:=by
 refine⟨f1,f2,f3,f4,I,O,fun h=>⟨(E h).1,fun e=>(E h).2 (by rw[e];rfl)⟩,fun k h=>?_,fun hne k h=>?_,abv fun i hi h0=>(hk i hi hi).2.1 h0,fun n h=>?_,fun hl n h=>?_⟩
 ·obtain⟨i,hi,rfl⟩:=mem_iff_getElem.1 h;have:=(hk i hi hi).1;unfold nZ at this;have:=of_decide_eq_true this;omega
 ·obtain⟨i,hi,rfl⟩:=mem_iff_getElem.1 h;exact(hk i hi hi).2.2 hne
 ·obtain⟨i,hi,rfl⟩:=mem_iff_getElem.1 h;exact(hc i hi).1
 obtain⟨i,hi,rfl⟩:=mem_iff_getElem.1 h;exact(hc i hi).2 hl
theorem ac9(p:cY)(many:Int)(dX:p.keys.length≤maxLen)(fq:p.kids.length≤maxLen):VP Tryz.prog G 91 [.agg (cP p),ae many] (bX (Bt p many)):=by
 refine VC.body func91 rfl ntmps91 aO fun X0 w0 aY=>?_;unfold cP;have dy:=dY;refine cf ?_;refine OD.box (ds:=[_,_,_,_,_]) ap rfl rfl ot rfl rfl (fun b2=>?_);refine an 132 [1,2] ?_;refine aC 5 ?_;refine bW 13 (fun aiy Z=>?_) (fun aiy Z=>?_)
 ·exact FO
 refine aE 6 ?_;refine bW 19 (fun KM age=>?_) (fun KM age=>?_)
 ·exact FO
 refine aE 5 ?_;refine bW 24 (fun aiz agf=>?_) (fun aiz agf=>?_)
 ·exact FO
 refine aE 6 ?_;refine bW 30 (fun aiA agh=>?_) (fun aiA agh=>?_)
 ·exact FO
 refine aE 7 ?_;refine OD.still ic rfl (c9 rfl ot ot (Px underlying4)) ?_;refine an 132 [1,2,39] ?_;refine au ?_ ?_<;>intro aP bF
 ·refine af [4] ?_;refine aI [] ?_;exact Gm
 refine CD.skip ?_;refine jQ [1,2] (fun aW I aJ=>(p.keys.length≤4)∧(p.high.length≤100)∧(-1≤p.next)∧(p.next<many)∧((p.next<0↔p.high=[]))∧((p.leaf=true→p.kids.length=p.keys.length))∧((p.leaf=false→p.kids.length=p.keys.length+1∧p.keys.length≠0))∧aJ=(⟨132,aW,I⟩:St)) ?_ ?_
 ·refine aC 3 ?_;refine bW 42 (fun qT agi=>?_) (fun qT agi=>?_)
  ·refine aE 9 ?_;refine bW 51 (fun aiB agj=>?_) (fun aiB agj=>?_)
   ·exact z138
   refine aE 4 ?_;refine bW 55 (fun tD E=>?_) (fun tD E=>?_)
   ·exact absurd tD (by rw[qT];decide)
   refine bg [1,2,71] ?_;refine fM ?_;refine CD.skip ?_;refine⟨_,aM,w4,w4,w4,w4,(TQ aP),(fun _=>by omega),(fun h=>absurd qT (by rw[h];decide)),rfl⟩
  refine xC 7 ?_;refine aE 6 ?_;refine bW 55 (fun tD E=>?_) (fun tD E=>?_)
  ·refine aE 9 ?_;refine bW 64 (fun KW J2=>?_) (fun KW J2=>?_)
   ·exact z138
   refine bg [1,2,71] ?_;refine au ?_ ?_<;>intro aX cJ
   ·refine af [4] ?_;refine eK ?_;exact Gm
   refine CD.skip ?_;refine⟨_,aM,w4,w4,w4,w4,(TQ aP),(fun h=>absurd qT (by rw[h];decide)),(fun _=>⟨by omega,by omega⟩),rfl⟩
  exact absurd tD (by rw[qT];decide)
 rintro _ ⟨f1,f2,f3,f4,f5,f6,f7,rfl⟩;refine af [1,2,73,74,75] ?_;refine eL [1,2,73,74] (fun aW I (i:Nat) aJ=>(i≤p.keys.length)∧(∀j,j<i→uM p j)∧aJ=(⟨132,(75,ae (i:Nat))::aW,I⟩:St)) (fun (i:Nat)=>p.keys.length-i) 0 ⟨(Nat.zero_le _),(fun j h=>by omega),rfl⟩ ?_;rintro i _ ⟨hi,xx,rfl⟩;refine af [1,2,73,74,75,76] ?_;refine au ?_ ?_<;>intro cr cU
 ·have aa:i<p.keys.length:=(by omega)
  refine af [1,2,5,6,73,74,75] ?_;refine aC 1 ?_;refine dO call132 (yM p.keys[i]) ?_;refine aE 2 ?_;refine bW 83 (fun wI agk=>?_) (fun wI agk=>?_)
  ·refine an 132 [1,2,73,74,75,110] ?_;refine eE ?_;exact Vx
  refine aE 3 ?_;refine bW 86 (fun aiC agl=>?_) (fun aiC agl=>?_)
  ·refine aE 4 ?_;refine bQ (dF 1 (h:=by first|exact .l (j:=i-1) w4 w4|exact .r (j:=i-1) w4 w4)) ?_;refine aE 2 ?_;refine OD.gY ic rfl rfl rfl call51 (vY (p.keys[i-1]'w4) p.keys[i]) ⟨ot,ot,trivial⟩ ?_;refine aE 4 ?_;refine bW 98 (fun zb Fs=>?_) (fun zb Fs=>?_)
   ·refine an 132 [1,2,73,74,75,110] ?_;refine eE ?_;exact Vx
   refine aE 5 ?_;exact Vp
  refine xC 9 ?_;refine aE 8 ?_;exact Vp
 have agm:∀j,j<p.keys.length→uM p j:=fun j hj=>xx j w4;refine af [1,2,113,114,115] ?_;refine eL [1,2,113,114] (fun aW I (i:Nat) aJ=>(i≤p.kids.length)∧(∀j (_:j<i) (hj:j<p.kids.length),0≤p.kids[j]∧(p.leaf=false→p.kids[j]<many))∧aJ=(⟨132,(115,ae (i:Nat))::aW,I⟩:St)) (fun (i:Nat)=>p.kids.length-i) 0 ⟨(Nat.zero_le _),(fun j h=>by omega),rfl⟩ ?_;rintro i _ ⟨j3,jV,rfl⟩;refine af [1,2,113,114,115,116] ?_;refine au ?_ ?_<;>intro ew fp
 ·have aa:i<p.kids.length:=(by omega)
  refine af [1,2,8,113,114,115] ?_;refine aC 3 ?_;refine bW 121 (fun JQ O=>?_) (fun JQ O=>?_)
  ·refine bg [1,2,113,114,115,130] ?_;refine eE ?_;exact VQ
  refine aE 4 ?_;refine bW 125 (fun Fa U=>?_) (fun Fa U=>?_)
  ·refine bg [1,2,113,114,115,130] ?_;refine au ?_ ?_<;>intro fm gv
   ·exact VQ
   exact VL
  refine bg [1,2,113,114,115,130] ?_;refine fM ?_;exact VL
 refine af [4] ?_;refine aI [] ?_;refine⟨vb (ZS (abw f1 f2 f3 f4 f5 f6 f7 agm fun j hj=>jV j w4 hj)),rfl⟩

def mS(keys:List K)(k:K):Bool:=decide (keys[gk keys k]?=some k)
theorem abx{keys:List K}(hi:i≤keys.length)(h1:∀m (hm:m<keys.length),m<i→bN keys[m] k)(h2:∀m (hm:m<keys.length),i≤m→¬bN keys[m] k):gk keys k=i:=by
 have E:=ym keys k;rcases Nat.lt_trichotomy (gk keys k) i with h|h|h
 ·have aa:gk keys k<keys.length:=(by omega)
  exact absurd (h1 _ aa h) (AJ aa)
 ·exact h
 obtain⟨h',q⟩:=AS h;exact absurd q (h2 _ h' (Nat.le_refl _))
theorem ZT{keys:List K}(hr:keys.Pairwise bN)(k:K):mA keys k=if mS keys k=true then gk keys k+1 else gk keys k:=by
 have E:=ym keys k;split
 ·rename_i hf;unfold mS at hf;have hf:=of_decide_eq_true hf;obtain⟨aa,he⟩:=List.getElem?_eq_some_iff.1 hf;refine I7 hr w4 (fun _=>?_) (fun h=>?_)
  ·show ¬bN k (keys[gk keys k+1-1]'w4);simp only[Nat.add_sub_cancel,he];exact j8 k
  have:=mQ hr (Nat.lt_succ_self (gk keys k)) h;rw[he] at this;exact this
 rename_i hf;refine I7 hr E (fun h0=>?_) (fun h=>?_)
 ·exact yJ (AS (by omega:gk keys k-1<gk keys k)).2
 have h1:=AJ h;rcases yK keys[gk keys k] k with h2|h2|h2
 ·exact absurd h2 h1
 ·exfalso;apply hf;unfold mS;rw[getElem?_eq_getElem h,h2];simp
 exact h2
theorem Bu{a:Nat}:((a:Nat):Int).fdiv (2 ^ min (1:Int).toNat IntKind.u64.bits)=((a/2:Nat):Int):=by
 rw[show min (1:Int).toNat IntKind.u64.bits=1 from rfl,Int.fdiv_eq_ediv_of_nonneg _ w7];rfl
theorem Tb{keys:List K}(hd:gk keys k=i)(hi:i<keys.length):(D.dG [ae (i:Nat),bX (compareBytes keys[i] k==0)]) = .dG [ae (gk keys k:Nat),bX (mS keys k)]∧([]:List ah)=[]:=by
 subst hd;refine⟨?_,rfl⟩;have:(compareBytes keys[gk keys k] k==0)=mS keys k:=by
  unfold mS;rw[getElem?_eq_getElem hi];by_cases h:keys[gk keys k]=k
  ·have:=J3.2 h;rw[this];simp[h]
  have:¬compareBytes keys[gk keys k] k=0:=fun e=>h (J3.1 e);simp[h,this]
 rw[this]
theorem RJ{keys:List K}(hd:gk keys k=i)(hi:keys.length≤i):(D.dG [ae (i:Nat),bX false]) = .dG [ae (gk keys k:Nat),bX (mS keys k)]∧([]:List ah)=[]:=by
 subst hd;refine⟨?_,rfl⟩;have:mS keys k=false:=(by unfold mS;rw[getElem?_eq_none hi];rfl)
 rw[this]
theorem ZU(keys:List K)(k:K)(hr:keys.Pairwise bN)(hl:keys.length≤1000):VP Tryz.prog G 145 [ax 1 cK keys,ax 1 cB k,.ey (.func 51) []] (.dG [ae (gk keys k:Nat),bX (mS keys k)]):=by
 refine VC.body func145 rfl ntmps145 aO fun X0 w0 aY=>?_;have dy:=dY;refine af [0,1,2] ?_;refine af [0,1,2,8] ?_;refine af [0,1,2,8,9,10] ?_;refine eL [0,1,2,8] (fun aW _ (I:Nat×Nat) aJ=>match I with|(i,j)=>(i≤j)∧(j≤keys.length)∧(∀m (hm:m<keys.length),m<i→bN keys[m] k)∧(∀m (hm:m<keys.length),j≤m→¬bN keys[m] k)∧aJ=(⟨49,(9,ae (i:Nat))::(10,ae (j:Nat))::aW,[]⟩:St)) (fun (I:Nat×Nat)=>match I with|(i,j)=>j-i) (0,keys.length) ⟨(Nat.zero_le _),(Nat.le_refl _),(fun m hm h=>by omega),(fun m hm h=>by omega),rfl⟩ ?_;rintro⟨i,j⟩ _ ⟨W5,hjn,h1,h2,rfl⟩;refine af [0,1,2,8,9,10,17] ?_;refine au ?_ ?_<;>intro aP bF
 ·have aa:i<j:=(by omega)
  have E:((i+j)/2)<keys.length:=(by omega)
  refine cR [0,1,2,8,9,10,11] ?_;refine aR 2 ?_ (h:=by exact(c9 rfl ot ot (j7 (r:=((i+j:Nat):Int)) zN)));refine aR 0 ?_ (h:=by exact(oq rfl ot (ou (r:=((i+j:Nat):Int)) runUnderlying3 runUnderlying231 (IntWalk.u64_in _ w4))));refine aR 0 ?_ (h:=by exact(c9 rfl ot bI (yA w7 Bu)));refine aR 0 ?_ (h:=by exact(oq rfl ot (ou (r:=((((i+j)/2):Nat):Int)) runUnderlying231 runUnderlying3 (wrap_i64 w4 w4))));refine bH ?_;refine aC 6 ?_;refine OD.j9 (f:=51) (args:=[_,_]) (all:=[_,_]) (Sf:=[]) ap rfl rfl ot call51 (vY (keys[((i+j)/2)]'E) k) rfl ⟨ot,ot,trivial⟩ (eO _) ?_;rintro _ _ ⟨rfl,rfl⟩;refine an 49 [0,1,2,8,9,10,11,31] ?_;refine au ?_ ?_<;>intro aX cJ
  ·have hc:bN (keys[((i+j)/2)]'E) k:=of_decide_eq_true aX;have Z:∀m (hm:m<keys.length),m<((i+j)/2)+1→bN keys[m] k:=fun m hm h=>by (rcases Nat.lt_or_ge m ((i+j)/2) with q|q);exact mv (mQ hr q E) hc;(have:m=((i+j)/2):=by omega);subst this;exact hc
   refine cl [0,1,2,8,9,10] ?_;refine⟨((((i+j)/2)+1),j),_,cD,aM,w4,w4,(fun m hm h=>by rcases Nat.lt_or_ge m i with q|q;exact h1 m hm q;exact Z m hm w4),h2,rfl⟩
  have hc:¬bN (keys[((i+j)/2)]'E) k:=of_decide_eq_false aX;have O:∀m (hm:m<keys.length),((i+j)/2)≤m→¬bN keys[m] k:=fun m hm h hh=>by (rcases Nat.lt_or_ge ((i+j)/2) m with q|q);exact hc (mv (mQ hr q hm) hh);(have:m=((i+j)/2):=by omega);subst this;exact hc hh
  refine cl [0,1,2,8,9,10] ?_;refine⟨(i,((i+j)/2)),_,cD,aM,w4,w4,h1,O,rfl⟩
 obtain rfl:i=j:=(by omega)
 have hd:=abx hjn h1 h2;refine aC 5 ?_;refine bW 39 (fun aiD U=>?_) (fun aiD U=>?_)
 ·refine aE 6 ?_;refine OD.j9 (f:=51) (args:=[_,_]) (all:=[_,_]) (Sf:=[]) ic rfl rfl ot call51 (vY (keys[i]'w4) k) rfl ⟨ot,ot,trivial⟩ (eO _) ?_;rintro _ _ ⟨rfl,rfl⟩;refine an 49 [6,7] ?_;refine aI [] ?_;first|exact Tb hd w4|exact RJ hd w4
 refine bg [6,7] ?_;refine L0 ?_;first|exact Tb hd w4|exact RJ hd w4
theorem It(p:cY)(k:K)(hr:p.keys.Pairwise bN)(hl:p.keys.length≤1000):VP Tryz.prog G 123 [.agg (cP p),ax 1 cB k] (ae (aL p k:Nat)):=by
 refine VC.body func123 rfl ntmps123 aO fun X0 w0 aY=>?_;unfold cP;have dy:=dY;have I:=ym p.keys k;have V3:=ZT hr k;refine cf ?_;refine OD.box (ds:=[_,_,_,_,_]) ap rfl rfl ot rfl rfl (fun b2=>?_);refine an 23 [1,2] ?_;refine cW [2,5,6] (ZU p.keys k hr hl) ?_;refine aC 2 ?_;refine bW 15 (fun BJ E=>?_) (fun BJ E=>?_)
 ·refine bg [5,19] ?_;refine au ?_ ?_<;>intro aP bF
  ·refine cl [5] ?_;exact z91
  exact z91
 refine bg [5,19] ?_;refine fM ?_;refine af [4] ?_;refine eK ?_;refine⟨vi ?_,rfl⟩;unfold aL;first|(rw[BJ] at V3;cases fI:p.leaf<;>simp_all;done)|(simp_all;done)|(simp_all;omega)

theorem ZV{t:aG}{d:Nat}{i:Int}{lo:K}(ok:dV t d i lo hi)(h:(t.pg i).leaf=true):d=0:=by
 cases d with
 | zero=>rfl
 | succ d=>obtain⟨_,q2,_⟩:=ok;rw[q2] at h;cases h
theorem ZW{t:aG}{d:Nat}{i:Int}{lo:K}(ok:dV t d i lo hi)(h:(t.pg i).leaf=false):∃d',d=d'+1:=by
 cases d with
 | zero=>obtain⟨_,q2,_⟩:=ok;rw[q2] at h;cases h
 | succ d=>exact⟨d,rfl⟩
theorem ZX:(Tryz.prog.info? 3).map (fun i=>(i.zero,i.size,i.bytes))=some (some (.int .i64 0),1,8):=by kernel_rfl
theorem RL(t:aG)(h:Nat)(v:Valid t h)(k:K):VC Tryz.prog G 122 [.agg (cT t),ax 1 cB k] [] (gd cI 3 1 (iY t k h t.root)):=by
 refine VC.body func122 rfl ntmps122 aO fun X0 w0 aY=>?_;unfold cT;have dy:=dY;have hval:=v;have ez:=v.high;have MU:=v.nC;refine cf ?_;refine OD.box (ds:=[_,_]) ap rfl rfl ot rfl rfl (fun b2=>?_);refine an 45 [1,2] ?_;refine aC 2 ?_;refine en (bZ 0 [_]) [.int .i64 0] [_] zeroValue3 runUnderlying67 sizeOf3 (fun kM=>?_);refine OD.perm (ee (S1:=[⟨kM,3,1*1,flatMap cI ([t.root])⟩]) (A:=[_])) ?_;refine an 45 [1,2,5] ?_;refine CD.block ?_;refine mM (fun (U:Nat×Int×K×K×List Int×Option Addr×Nat×List ah) aJ=>match U with|(d,i,lo,hi,pre,GR,O,Sl)=>(dV t d i lo hi)∧(lu lo hi k)∧(pre++iY t k d i=iY t k h t.root)∧(pre.length+d≤h)∧(bw 3 1 (((pre++[i])).flatMap cI) ((pre++[i])).length GR O Sl)∧aJ=(⟨45,[(1,ax 1 cB k),(2,dJ b2),(5,aN GR ((pre++[i])).length O)],(⟨b2,51,2,[ax 5 cP t.ag,ae t.root]⟩::Sl)⟩:St)) (fun (U:Nat×Int×K×K×List Int×Option Addr×Nat×List ah)=>match U with|(d,i,lo,hi,pre,GR,O,Sl)=>d) (h,t.root,[],[],[],(some ⟨kM,0,none⟩),1,[⟨kM,3,1*1,flatMap cI ([t.root])⟩]) ⟨v.ok,(td k),(nil_append _),bu,(bw.cast (bJ (g:=cI) (sz:=1) (e:=3) (ls:=[t.root]) (Nat.le_refl _) (show 1≤maxLen by decide)) lK),rfl⟩ (aM (h:=by repeat (first|exact trivial|refine⟨(by (repeat (first|exact fx|(apply fQ;focus (first|rfl|(simp;done)|(congr 2;omega)|(apply eG;rw[Z])|(apply eG;simp;done)))|(apply fD;focus rfl)));done),?_⟩))) ?_
 rintro⟨d,i,lo,hi,pre,GR,O,Sl⟩ _ ⟨ok,kP,TR,fJ,MJ,rfl⟩;obtain⟨bl,rfl,BZ,Bv,rfl⟩:=MJ.pos bu;have q1:=ok.idx;have aa:i.toNat<t.ag.length:=(by omega)
 have E:t.pg i=(t.ag[i.toNat]'aa):=uS q1;have po:=v.fA _ (jx q1);have Bw:=ok.high;rw[E] at po Bw;refine cR [1,2,5,6] ?_;refine aR 4 ?_ (h:=by exact(dF 1 (h:=by first|exact .l (j:=pre.length) bu bu|exact .r (j:=pre.length) bu bu)));refine aR 0 ?_ (h:=by exact(cM (mk:=Op.load 3) rfl ot (iU (k:=1) (d:=ae i) (i:=pre.length) eA rfl rfl rfl isAgg3 bu (by simp[cI]))));refine bH ?_;refine aC 3 ?_;refine bQ (dF 5 (h:=by first|exact .l (j:=i.toNat) (Int.toNat_of_nonneg q1.1).symm aa|exact .r (j:=i.toNat) (Int.toNat_of_nonneg q1.1).symm aa)) ?_;refine aE 1 ?_;refine OD.alloc (ds:=[_,_,_,_,_]) ap rfl rfl zeroValue153 rfl (fun b7=>?_);refine aK 0 [_,_,_,_,_] sizeOf153 ?_;refine an 45 [1,2,5,7] ?_;refine cW [1,2,5,7,24] (ZR (t.ag[i.toNat]'aa) k) ?_;refine au ?_ ?_<;>intro aP bF
 ·exact absurd aP (by intro e;have e:=of_decide_eq_true e;rw[Bw] at e;exact e.2 (kP.2 e.1))
 refine af [1,2,5,7,33] ?_;refine au ?_ ?_<;>intro aX cJ
 ·obtain rfl:=ZV ok (by rw[E];exact aX);have aV:pre++[i]=iY t k h t.root:=(by rw[←TR];rfl)
  refine af [4] ?_;refine aI [⟨bl,3,O*1,flatMap cI (pre++[i])⟩] ?_;rw[←aV];exact⟨_,_,rfl,(bJ (g:=cI) (ls:=pre++[i]) BZ Bv)⟩
 obtain⟨dd,rfl⟩:=ZW ok (by rw[E];exact aX);have ok0:=ok;obtain⟨_,fI,hh,ahL,pA⟩:=ok0;obtain⟨d1,d2⟩:=down (p:=t.pg i) (by rw[E];exact po) fI hh kP;have jK:=pA _ d1;rw[←sZ d1] at jK;have KX:=d2;have aeT:pre++[i]++iY t k dd ((t.pg i).kids.getD (aL (t.pg i) k) 0)=iY t k h t.root:=(by rw[←TR,append_assoc];rfl)
 have qt:=It (G:=G) (t.pg i) k (by rw[E];exact po.jN) (by rw[E];have:=po.eM;omega);have I:aL (t.ag[i.toNat]'aa) k<(t.ag[i.toNat]'aa).kids.length:=(by rw[←E];exact d1)
 have aiE:VP Tryz.prog G 123 [.agg (cP (t.ag[i.toNat]'aa)),ax 1 cB k] (ae (aL (t.ag[i.toNat]'aa) k:Nat)):=(by rw[←E];exact qt)
 have Z:(t.pg i).kids.getD (aL (t.pg i) k) 0=(t.ag[i.toNat]'aa).kids[aL (t.ag[i.toNat]'aa) k]'I:=(by rw[E];exact sZ I)
 refine CD.skip ?_;refine fL 10 (aq (take 2 _)) ?_ (fun _ h=>(Sublist.map _ (take_sublist _ _)).subset h);refine az 0 rfl bj ?_;refine az 1 rfl (da 2) ?_;refine az 2 rfl (dD 0) ?_;refine az 3 rfl (BI 0 [_,_,_,_,_]) ?_;refine az 4 rfl bj ?_;refine dm.later rfl ?_;refine AD.one (i:=5) aA ?_;refine jB call123 (aiE) ?_;refine cu 6 rfl (dF 1 (h:=by first|exact .l (j:=aL (t.ag[i.toNat]'aa) k) rfl I|exact .r (j:=aL (t.ag[i.toNat]'aa) k) rfl I)) ?_;refine AD.one (i:=7) aA ?_;refine at_ rfl eS ?_;refine AD.one (i:=8) aA ?_;refine jo (bZ 0 [_]) [.int .i64 0] [_] zeroValue3 runUnderlying67 sizeOf3 (fun WT=>?_);refine jq 0 43 1 1 ?_;refine AD.one (i:=9) aA ?_;refine aZ.ev (ls:=(pre++[i])) (new:=[(t.ag[i.toNat]'aa).kids[aL (t.ag[i.toNat]'aa) k]'I]) (Sq:=[⟨bl,3,O*1,flatMap cI (pre++[i])⟩]) eA nu rfl ap rfl rfl underlying67 ZX rfl w7 ot (bJ (g:=cI) (ls:=pre++[i]) BZ Bv) (dI (A:=[_,_])) ot bu vl hU (fun MV KY aiF aiG=>?_);refine AD.perm (ee (S1:=[⟨MV,3,KY*1,flatMap cI ((pre++[i])++[(t.ag[i.toNat]'aa).kids[aL (t.ag[i.toNat]'aa) k]'I])⟩]) (A:=[_,_])) ?_;refine eD ?_;refine bg [1,2,5] ?_
 refine⟨(dd,((t.pg i).kids.getD (aL (t.pg i) k) 0),(ig lo (t.pg i) (aL (t.pg i) k)),(gM (t.pg i) (aL (t.pg i) k)),(pre++[i]),(some ⟨MV,0,none⟩),KY,[⟨MV,3,KY*1,flatMap cI ((pre++[i])++[(t.ag[i.toNat]'aa).kids[aL (t.ag[i.toNat]'aa) k]'I])⟩]),_,cD,(aM (h:=by repeat (first|exact trivial|refine⟨(by (repeat (first|exact fx|(apply fQ;focus (first|rfl|(simp;done)|(congr 2;omega)|(apply eG;rw[Z])|(apply eG;simp;done)))|(apply fD;focus rfl)));done),?_⟩))),jK,KX,aeT,hU,(bw.cast (bJ aiF aiG) (by rw[Z])),rfl⟩
theorem ada(t:aG)(h:Nat)(v:Valid t h)(k:K):VP Tryz.prog G 122 [.agg (cT t),ax 1 cB k] (.list 1 ((iY t k h t.root).flatMap cI) (iY t k h t.root).length):=(RL t h v k).wv eA

end Go.Proofs.YtdgichenhdikgaaGreatDoor.Tw
