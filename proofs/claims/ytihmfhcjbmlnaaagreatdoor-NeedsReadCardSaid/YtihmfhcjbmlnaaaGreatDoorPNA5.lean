/-
  NA: walks and plain facts, part 5.
-/
import Derived.Test.YtihmfhcjbmlnaaaGreatDoorPNA4
set_option linter.unusedVariables false
set_option linter.unusedSimpArgs false
set_option maxRecDepth 100000
set_option maxHeartbeats 4000000
namespace Go.Proofs.YtihmfhcjbmlnaaaGreatDoor
namespace Ex
open List
open Go.Proofs.Tryz
open Go.RowKit V Pk Vl Go.Proofs.YtihmfhcjbmlnaaaGreatDoor.Nm Pc
variable {α:Type} {l:List aQ} {i:Nat} {h:Int}
theorem vX(p:α->Bool)(ls:List α):-1<=dD p ls/\dD p ls<ls.length:=by
 unfold dD;cases h:ls.findIdx? p with
 | none=>simp;omega
 | some i=>have:=(findIdx?_eq_some_iff_findIdx_eq.1 h).1;simp;omega
def bE(l:List dc)(nm:ByteArray):Int:=dD (fun c=>c.n.toList==nm.toList) l
def uM(a b:Int):Bool:=a==b||a==0
def okF(k a b:Int):Bool :=
 if k=3\/k=4 then uM a 1&&uM b 1 else if k=5 then uM a 1 else if k=6\/k=7 then uM a b||b==0 else if k=8\/k=9\/k=10 then uM a 2&&uM b 2 else true
def wG(k:Int):Int:=if k=8\/k=9\/k=10 then 2 else 1
def u4(l:List dc)(nm:ByteArray):Int×Int:=if bE l nm<0 then (0,8) else ((l.getD (bE l nm).toNat ⟨⟨#[]⟩,0⟩).k,0)
def gk(l:List dc)(o:aQ)(a b:Int):Int×Int :=
 if o.k=1 then (o.v.k,0) else if o.k=2 then u4 l o.nm else if okF o.k a b=true then (wG o.k,0) else (0,4)
def fT(z:α)(k:Int)(st:List α):α:=if 0<cn k then st.getD (st.length-(cn k).toNat) z else z
def fU(z:α)(k:Int)(st:List α):α:=if 1<cn k then st.getD (st.length-(cn k).toNat+1) z else z
def jH{α:Type}(z:α)(f:aQ->α->α->α × Int):List aQ->List α->α × Int
 | [],st=>(st.getD 0 z,0)
 | o::r,st =>
  if (f o (fT z o.k st) (fU z o.k st)).2≠0 then (z,(f o (fT z o.k st) (fU z o.k st)).2)
  else jH z f r (st.take (st.length-(cn o.k).toNat)++[(f o (fT z o.k st) (fU z o.k st)).1])
theorem XO{z:α}{f:aQ->α->α->α × Int}{st:List α}(hi:i<l.length)(h:(f l[i] (fT z l[i].k st) (fU z l[i].k st)).2≠0) :
  jH z f (l.drop i) st=(z,(f l[i] (fT z l[i].k st) (fU z l[i].k st)).2):=by rw[drop_eq_getElem_cons hi,jH,if_pos h]
theorem XP{z:α}{f:aQ->α->α->α × Int}{st:List α}(hi:i<l.length)(h:(f l[i] (fT z l[i].k st) (fU z l[i].k st)).2=0) :
  jH z f (l.drop i) st=jH z f (l.drop (i+1)) (st.take (st.length-(cn l[i].k).toNat)++[(f l[i] (fT z l[i].k st) (fU z l[i].k st)).1]):=by
 rw[drop_eq_getElem_cons hi,jH,if_neg (by rw[h];simp)]
theorem Wd{z:α}{f:aQ->α->α->α × Int}{st:List α}(hi:¬i<l.length):jH z f (l.drop i) st=(st.getD 0 z,0):=by
 rw[drop_of_length_le w4];rfl
theorem UN(hi:i<l.length)(h0:gH h (l.drop i)=0):ga h l[i]=0/\gH (h+(1-cn l[i].k)) (l.drop (i+1))=0:=by
 rw[drop_eq_getElem_cons hi,gH] at h0;by_cases he:ga h l[i]=0
 ·rw[if_pos he] at h0;exact⟨he,h0⟩
 rw[if_neg he] at h0;exact absurd h0 he
theorem We(hi:¬i<l.length)(h0:gH h (l.drop i)=0):h=1:=by
 rw[drop_of_length_le w4,gH] at h0;split at h0
 ·assumption
 cases h0
theorem zh{o:aQ}(he:ga h o=0):cn o.k<=h/\(1<=o.k/\o.k<=11)/\jj o.v=0/\(o.k=2->dH o.nm=0):=by
 unfold ga at he;split at he
 ·cases he
 split at he
 ·rename_i h2;exact absurd he h2
 split at he
 ·cases he
 split at he
 ·rename_i h4;exact absurd he h4.2
 split at he
 ·cases he
 rename_i q1 q2 q3 E I;refine⟨by omega,by omega,by simpa using q2,fun hk=>?_⟩;by_cases hn:dH o.nm=0
 ·exact hn
 exact absurd ⟨hk,hn⟩ E
def rM(l:List dc)(ops:List aQ):Int×Int:=jH 0 (gk l) ops []
def dZ(l:List dc)(ops:List aQ):Int×Int:=if gG l≠0 then (0,gG l) else if jw ops≠0 then (0,jw ops) else rM l ops
def qY(r:Int×Int):D:=.dF [ae r.1,ae r.2]
def cI(n:Int):List D:=[ae n]
theorem fp(n:Int):(cI n).length=1:=rfl
theorem pV(n:Int):(cI n).all V.one=true:=rfl
theorem zo{ops:List aQ}(h:jw ops=0):ops.length<=40/\gH 0 ops=0:=by
 unfold jw at h;split at h
 ·cases h
 exact⟨by omega,h⟩
variable {G:List (Nat×List Value)}
theorem H8(k:Int):VP Tryz.prog G 128 [ae k] (ae (cn k)):=by
 refine bA func128 rfl ntmps128 aO fun X0 w0 bz=>?_;exact z44
theorem agB(c:dc)(nm:ByteArray)(b:Nat):VC Tryz.prog G 179 [.agg (cC c),dw b] [⟨b,9,1,[aG nm]⟩] (fun r S=>r=aW (c.n.toList==nm.toList)/\S=[⟨b,9,1,[aG nm]⟩]):=by
 refine bA func179 rfl ntmps179 aO fun X0 w0 bz=>?_;exact RD
theorem sQ(l:List dc)(hl:l.length<=6)(nm:ByteArray):VP Tryz.prog G 156 [aj 2 cC l,aG nm] (ae (bE l nm)):=by
 refine bA func156 rfl ntmps156 aO fun X0 w0 bz=>?_;refine cq ?_;refine dm [_] (fun b3=>?_);refine ap 8 [0,3] ?_;refine az 1 ?_;refine bS (sM (ds:=[_]) rfl ⟨ot,trivial⟩) ?_;refine eH au rfl rfl rfl call52 (H6 l 179 [dw b3] _ (fun c=>c.n.toList==nm.toList) call179 (fun h _=>agB h nm b3) w4) ⟨ot,ot,trivial⟩ (nA (k:=0) rfl) ?_;rintro _ S2 ⟨rfl,gY⟩;rw[gY];clear gY;refine ap 8 [4] ?_;exact z46
theorem Ce(a b:Int):VP Tryz.prog G 155 [ae a,ae b] (aW (uM a b)):=by
 refine bA func155 rfl ntmps155 aO fun X0 w0 bz=>?_;refine ay [0,1] ?_;refine az 4 ?_;refine cz 8 (fun I E=>?_) (fun I E=>?_)
 ·refine bL [4] ?_;refine fJ ?_;refine⟨vb ?_,rfl⟩;unfold uM;simp_all
 refine bL [4] ?_;refine fJ ?_;refine⟨vb ?_,rfl⟩;unfold uM;simp_all
theorem akd(l:List dc)(hl:l.length<=6)(o:aQ)(a b:Int):VP Tryz.prog G 127 [.agg (cO o),aj 2 cC l,ae a,ae b] (qY (gk l o a b)):=by
 refine bA func127 rfl ntmps127 aO fun X0 w0 bz=>?_;unfold cO qY;have I:=vX (fun c:dc=>c.n.toList==o.nm.toList) l;have E:bE l o.nm=dD (fun c:dc=>c.n.toList==o.nm.toList) l:=rfl;rw[<-E] at I;clear E;refine cq ?_;refine dm [_,_,_,_,_] (fun b4=>?_);refine ap 76 [1,2,3,4] ?_;refine ay [1,2,3,4,10] ?_;refine ay [1,2,3,4,10,11,12] ?_;refine ay [1,2,3,4,10,11,12,15] ?_;refine ax [1,2,3,4,10,11,12,15,16] ?_ ?_<;>intro aP bH
 ·exact CZ
 refine ax [1,2,3,4,10,11,12,15,21] ?_ ?_<;>intro bg cM
 ·refine cW [1,13] (sQ l hl o.nm) ?_;refine ax [1,13,28] ?_ ?_<;>intro cl di
  ·have en:u4 l o.nm=(0,8):=(by unfold u4;rw[if_pos w4])
   exact CZ
  have O:(bE l o.nm).toNat<l.length:=(by omega)
  have en:u4 l o.nm=(l[(bE l o.nm).toNat].k,0):=(by unfold u4;rw[if_neg w4,getD_eq_getElem?_getD,getElem?_eq_getElem O];rfl)
  exact CZ
 refine ax [2,3,10,11,12,15,34] ?_ ?_<;>intro da eP
 ·refine fu ?_;exact aaV
 refine bM [2,3,10,11,12,15,34] ?_;refine bX ?_ ?_<;>intro eo fR
 ·exact aaV
 refine ax [2,3,10,11,12,15,45] ?_ ?_<;>intro fH ik
 ·refine dB 2 ?_;refine nB (f:=155) (args:=[_,_]) (all:=[_,_]) (Sf:=[]) au rfl rfl ot call155 (Ce a 1) rfl ⟨ot,bP,trivial⟩ (fj _) ?_;rintro _ _ ⟨rfl,rfl⟩;exact KC
 refine ax [2,3,10,11,12,15,50] ?_ ?_<;>intro iu Z
 ·refine fu ?_;exact z162
 refine bM [2,3,10,11,12,15,50] ?_;refine bX ?_ ?_<;>intro iE nJ
 ·exact z162
 refine ax [2,3,10,11,12,15,61] ?_ ?_<;>intro sb CE
 ·refine fu ?_;exact Qe
 refine ax [2,3,10,11,12,15,61] ?_ ?_<;>intro wX Ff
 ·refine fu ?_;exact Qe
 refine bM [2,3,10,11,12,61] ?_;refine bX ?_ ?_<;>intro Ka U
 ·exact Qe
 refine ay [12,74] ?_;refine gK ?_;refine dS [8,9] [] ?_;refine⟨?_,rfl⟩;unfold gk okF wG;simp_all
theorem agC(l:List dc)(hl:l.length<=6)(o:aQ)(a b a' E:Int)(ha:a=a')(hb:b=E)(b2:Nat):VC Tryz.prog G 126 [.agg (cO o),ae a',ae E,dw b2] [⟨b2,29,1,[aj 2 cC l]⟩] (fun r S=>r=qY (gk l o a b)/\S=[⟨b2,29,1,[aj 2 cC l]⟩]):=by
 refine bA func126 rfl ntmps126 aO fun X0 w0 bz=>?_;subst ha hb;have nq:=akd (G:=G) l hl o a b;unfold cO at nq |-;unfold qY at nq |-;refine cq ?_;refine dm [_,_,_,_,_] (fun b4=>?_);refine ap 16 [1,2,3,4] ?_;refine cW [7,8] (nq) ?_;refine eD [⟨b2,29,1,[aj 2 cC l]⟩] ?_;exact⟨rfl,rfl⟩
theorem agD:(Tryz.prog.info? 3).map (fun i=>(i.zero,i.size,i.bytes))=some (some (.int .i64 0),1,8):=by kernel_rfl
theorem aix(l:List dc)(hl:l.length<=6)(ops:List aQ)(sC:ops.length<=40)(hx:gH 0 ops=0)(b2:Nat):VC Tryz.prog G 125 [aj 5 cO ops,.fg (.func 126) [dw b2]] [⟨b2,29,1,[aj 2 cC l]⟩] (fun r S=>r=qY (rM l ops)/\S=[⟨b2,29,1,[aj 2 cC l]⟩]):=by
 refine bA func125 rfl ntmps125 aO fun X0 w0 bz=>?_;unfold qY;refine ay [0,1] ?_;refine ay [0,1,6] ?_;refine cq ?_;refine bL [0,1,6,7] ?_;refine ay [1,6,7,16,17,18] ?_;refine kU ?_;refine oB (fun (aR:Nat×List Int×Option Addr×Nat×List ag) aE=>match aR with|(i,st,I,E,Sh)=>(i<=ops.length)/\(st.length<=i)/\(gH ((st.length:Nat):Int) (ops.drop i)=0)/\(rM l ops=jH 0 (gk l) (ops.drop i) st)/\(bF 3 1 ((st).flatMap cI) (st).length I E Sh)/\aE=(⟨64,[(1,.fg (.func 126) [dw b2]),(6,ae 0),(7,aS I (st).length E),(16,aj 5 cO ops),(17,ae (ops.length:Nat)),(18,ae (i:Nat))],(⟨b2,29,1,[aj 2 cC l]⟩::Sh)⟩:St)) (fun (aR:Nat×List Int×Option Addr×Nat×List ag)=>match aR with|(i,st,I,E,Sh)=>ops.length-i) (0,[],none,0,[]) ⟨(Nat.zero_le _),(Nat.zero_le _),hx,rfl,(bF.cast jt lU),rfl⟩ (aL (h:=Kq)) ?_;rintro⟨i,st,I,E,Sh⟩ _ ⟨hi,ff,hex,hinv,U,rfl⟩;refine ax [1,6,7,16,17,18,19] ?_ ?_<;>intro aP bH
 ·have aa:i<ops.length:=(by omega)
  obtain⟨he,A3⟩:=UN aa hex;obtain⟨uH,abd,A4,yK⟩:=zh he;have Gk:=wc ops[i].k;have vO:(st.take (st.length-(cn ops[i].k).toNat)++[(gk l ops[i] (fT 0 ops[i].k st) (fU 0 ops[i].k st)).1]).length=st.length+1-(cn ops[i].k).toNat:=(by rw[length_append,length_take,length_singleton];omega)
  have kM:gH (((st.take (st.length-(cn ops[i].k).toNat)++[(gk l ops[i] (fT 0 ops[i].k st) (fU 0 ops[i].k st)).1]).length:Nat):Int) (ops.drop (i+1))=0:=(by rw[vO,show(((st.length+1-(cn ops[i].k).toNat:Nat)):Int)=(st.length:Int)+(1-cn ops[i].k) by omega];exact A3)
  refine az 2 ?_;refine cD (ds:=[_,_,_,_,_]) au rfl rfl zeroValue38 rfl (fun b9=>?_);refine aN 0 [_,_,_,_,_] sizeOf38 ?_;refine ap 64 [1,6,7,9,16,17,18] ?_;refine ay [1,6,7,9,10,11,16,17,18] ?_;refine cW [1,6,7,9,10,11,12,16,17,18] (H8 ops[i].k) ?_;refine ay [1,6,7,9,10,11,12,13,16,17,18] ?_;refine iM [1,6,9,11,12,13,16,17,18] (fun aU _ aE=>∃(va:Int),∃(I:Option Addr),∃(E:Nat),∃(Sh:List ag),(fT 0 ops[i].k st=va)/\(bF 3 1 (st.flatMap cI) st.length I E Sh)/\aE=(⟨64,(7,aS I st.length E)::(10,ae va)::aU,(⟨b9,38,5,[ae ops[i].k,ae ops[i].v.k,ae ops[i].v.n,aG ops[i].v.s,aG ops[i].nm]⟩::⟨b2,29,1,[aj 2 cC l]⟩::Sh)⟩:St)) ?_ ?_
  ·refine ax [1,6,7,9,10,11,12,13,16,17,18,30] ?_ ?_<;>intro bg cM
   ·obtain⟨bh,rfl,Z,O,rfl⟩:=U.pos w4;have wY:(st.length-(cn ops[i].k).toNat)<st.length:=(by omega)
    have ha:fT 0 ops[i].k st=st[(st.length-(cn ops[i].k).toNat)]:=(by unfold fT;rw[if_pos w4,getD_eq_getElem?_getD,getElem?_eq_getElem wY];rfl)
    refine fW [1,6,7,9,10,11,12,13,16,17,18] ?_;refine aM 2 ?_ (h:=by exact(ei 1 (h:=Z7)));refine aM 0 ?_ (h:=by exact(ez (mk:=Op.load 3) rfl ot (kV (k:=2) fp rfl rfl rfl isAgg3 wY rfl)));refine bB ?_;refine⟨_,aL,(st[(st.length-(cn ops[i].k).toNat)]),(some ⟨bh,0,none⟩),E,[⟨bh,3,E*1,flatMap cI st⟩],ha,(cj (g:=cI) (ls:=st) Z O),rfl⟩
   have ha:fT 0 ops[i].k st=0:=(by unfold fT;rw[if_neg w4])
   refine eI ?_;refine⟨_,aL,0,I,E,Sh,ha,U,rfl⟩
  rintro _ ⟨va,I,E,Sh,ha,U,rfl⟩;refine iM [1,6,9,10,13,16,17,18] (fun aU _ aE=>∃(vb:Int),∃(I:Option Addr),∃(E:Nat),∃(Sh:List ag),(fU 0 ops[i].k st=vb)/\(bF 3 1 (st.flatMap cI) st.length I E Sh)/\aE=(⟨64,(7,aS I st.length E)::(11,ae vb)::aU,(⟨b9,38,5,[ae ops[i].k,ae ops[i].v.k,ae ops[i].v.n,aG ops[i].v.s,aG ops[i].nm]⟩::⟨b2,29,1,[aj 2 cC l]⟩::Sh)⟩:St)) ?_ ?_
  ·refine ax [1,6,7,9,10,11,13,16,17,18,36] ?_ ?_<;>intro cl di
   ·obtain⟨bh,rfl,Z,O,rfl⟩:=U.pos w4;have Fh:(st.length-(cn ops[i].k).toNat)+1<st.length:=(by omega)
    have hb:fU 0 ops[i].k st=st[(st.length-(cn ops[i].k).toNat)+1]:=(by unfold fU;rw[if_pos w4,getD_eq_getElem?_getD,getElem?_eq_getElem Fh];rfl)
    refine fW [1,6,7,9,10,11,13,16,17,18] ?_;refine aM 3 ?_ (h:=by exact(ei 1 (h:=Z3)));refine aM 0 ?_ (h:=by exact(ez (mk:=Op.load 3) rfl ot (kV (k:=2) fp rfl rfl rfl isAgg3 Fh rfl)));refine bB ?_;refine⟨_,aL,(st[(st.length-(cn ops[i].k).toNat)+1]),(some ⟨bh,0,none⟩),E,[⟨bh,3,E*1,flatMap cI st⟩],hb,(cj (g:=cI) (ls:=st) Z O),rfl⟩
   have hb:fU 0 ops[i].k st=0:=(by unfold fU;rw[if_neg w4])
   refine eI ?_;refine⟨_,aL,0,I,E,Sh,hb,U,rfl⟩
  rintro _ ⟨vb,I,E,Sh,hb,U,rfl⟩;refine az 4 ?_;refine nB (f:=126) (args:=[_,_,_]) (all:=[_,_,_,_]) (Sf:=[⟨b2,29,1,[aj 2 cC l]⟩]) au rfl rfl ot call126 (agC l hl ops[i] _ _ _ _ ha hb b2) rfl ⟨ot,ot,ot,trivial⟩ (nA (k:=1) rfl) ?_;rintro _ _ ⟨rfl,rfl⟩;refine ap 64 [1,6,7,13,14,15,16,17,18] ?_;refine ax [1,6,7,13,14,15,16,17,18,51] ?_ ?_<;>intro da eP
  ·have hz:(gk l ops[i] (fT 0 ops[i].k st) (fU 0 ops[i].k st)).2≠0:=(by simpa using da)
   have aZ:=hinv.trans (XO aa hz);refine dS [4,5] [⟨b2,29,1,[aj 2 cC l]⟩] ?_;rw[aZ];exact⟨rfl,rfl⟩
  have hz:(gk l ops[i] (fT 0 ops[i].k st) (fU 0 ops[i].k st)).2=0:=(by simpa using da)
  refine eI ?_;refine Xx (k:=(st.length-(cn ops[i].k).toNat)) (ls:=st) (Sq:=Sh) fp w4 U (dL (A:=[_,_])) (fun Qz Pf=>?_);refine rE (eM (A:=[_,_])) ?_;refine dB 2 ?_;first|refine bS (G8 (n:=st.length) (k:=(take (st.length-(cn ops[i].k).toNat) st).length) (cs:=st.flatMap cI) rfl ot rfl ⟨_,_,ot,by rw[length_take];omega⟩ runUnderlying27 sizeOf3 qD U) ?_|refine qM au rfl (G8 (n:=st.length) (k:=(take (st.length-(cn ops[i].k).toNat) st).length) (cs:=st.flatMap cI) rfl ot rfl ⟨_,_,ot,by rw[length_take];omega⟩ runUnderlying27 sizeOf3 qD (cj (e:=3) (g:=cI) (ls:=st) Z O)) ?_
  refine aF 1 ?_;refine eR (cU 0 [_]) [.int .i64 0] [_] zeroValue3 runUnderlying27 sizeOf3 (fun C0=>?_);refine gb 0 58 1 1 ?_;refine gi (ls:=(take (st.length-(cn ops[i].k).toNat) st)) (new:=[(gk l ops[i] (fT 0 ops[i].k st) (fU 0 ops[i].k st)).1]) (Sq:=Qz) fp pV au rfl rfl underlying27 agD rfl w7 ot Pf (dL (A:=[_,_])) ot bC x7 jk (fun vG vk EX EY=>?_);refine cg (eM (S1:=[⟨vG,3,vk*1,flatMap cI ((take (st.length-(cn ops[i].k).toNat) st)++[(gk l ops[i] (fT 0 ops[i].k st) (fU 0 ops[i].k st)).1])⟩]) (A:=[_,_])) ?_;refine ap 64 [1,6,7,16,17,18] ?_;refine bM [1,6,7,16,17,18] ?_;refine⟨((i+1),(st.take (st.length-(cn ops[i].k).toNat)++[(gk l ops[i] (fT 0 ops[i].k st) (fU 0 ops[i].k st)).1]),(some ⟨vG,0,none⟩),vk,[⟨vG,3,vk*1,flatMap cI ((take (st.length-(cn ops[i].k).toNat) st)++[(gk l ops[i] (fT 0 ops[i].k st) (fU 0 ops[i].k st)).1])⟩]),_,cR,(aL (h:=Kq)),w4,(by rw[vO];omega),kM,(hinv.trans (XP aa hz)),(bF.cast (cj EX EY) (by rfl)),rfl⟩
 have h1:=We w4 hex;have Fi:0<st.length:=(by omega)
 obtain⟨bh,rfl,Z,O,rfl⟩:=U.pos w4;have aZ:=hinv.trans (Wd w4);have jm:st.getD 0 0=st[0]:=(by rw[getD_eq_getElem?_getD,getElem?_eq_getElem Fi];rfl)
 rw[jm] at aZ;refine cJ [4,5] ?_;refine aM 1 ?_ (h:=by exact(ny (mk:=Op.indexAddr 27) rfl ot bP (by first|exact qj (j:=0) runUnderlying27 sizeOf3 rfl rV|exact qp (j:=0) runUnderlying27 sizeOf3 rfl rV)));refine aM 0 ?_ (h:=by exact(ez (mk:=Op.load 3) rfl ot (kV (k:=1) fp rfl rfl rfl isAgg3 Fi rfl)));refine bB ?_;refine eD [⟨b2,29,1,[aj 2 cC l]⟩] ?_;rw[aZ];exact⟨rfl,rfl⟩
theorem agE(l:List dc)(hl:l.length<=6)(ops:List aQ)(hx:jw ops=0):VP Tryz.prog G 88 [aj 2 cC l,aj 5 cO ops] (qY (rM l ops)):=by
 refine bA func88 rfl ntmps88 aO fun X0 w0 bz=>?_;obtain⟨E,iU⟩:=zo hx;have gj:=fun b2=>aix (G:=G) l hl ops E iU b2;unfold qY at gj |-;refine cq ?_;refine dm [_] (fun b2=>?_);refine ap 11 [1,2] ?_;refine az 1 ?_;refine bS (sM (ds:=[_]) rfl ⟨ot,trivial⟩) ?_;refine eH au rfl rfl rfl call125 (gj b2) ⟨ot,ot,trivial⟩ (nA (k:=0) rfl) ?_;rintro _ _ ⟨rfl,rfl⟩;refine ap 11 [4,5] ?_;exact z46
theorem alQ(hm:(3,marksC)∈G)(hw:(1,wordsC)∈G)(ht:(0,typesC)∈G)(l:List dc)(hl:l.length<=6)(bf:∀c∈l,c.n.size<=maxLen)(ops:List aQ)(ho:∀o∈ops,o.nm.size<=maxLen):VP Tryz.prog G 87 [aj 2 cC l,aj 5 cO ops] (ae (if gG l≠0 then gG l else jw ops)):=by
 refine bA func87 rfl ntmps87 aO fun X0 w0 bz=>?_;have dy:=ee;refine ay [0,1] ?_;refine cW [1,5] (Iy hm hw ht l w4 bf) ?_;refine ax [1,5,9] ?_ ?_<;>intro aP bH
 ·refine dS [4] [] ?_;refine⟨vi ?_,rfl⟩;simp_all
 refine cW [4] (NG hm hw ops ho) ?_;refine eD [] ?_;refine⟨vi ?_,rfl⟩;simp_all
theorem Iz(hm:(3,marksC)∈G)(hw:(1,wordsC)∈G)(ht:(0,typesC)∈G)(l:List dc)(hl:l.length<=6)(bf:∀c∈l,c.n.size<=maxLen)(ops:List aQ)(ho:∀o∈ops,o.nm.size<=maxLen):VP Tryz.prog G 49 [aj 2 cC l,aj 5 cO ops] (qY (dZ l ops)):=by
 refine bA func49 rfl ntmps49 aO fun X0 w0 bz=>?_;have fB:=alQ hm hw ht l hl bf ops ho;have E:=fun hx=>agE (G:=G) l hl ops hx;unfold qY at E |-;refine ay [0,1] ?_;refine cW [0,1,6] (fB) ?_;refine ax [0,1,6,11] ?_ ?_<;>intro aP bH
 ·have aZ:dZ l ops=(0,if gG l≠0 then gG l else jw ops):=(by unfold dZ;split<;>simp_all)
  refine ay [4,5] ?_;exact kO
 have h0:gG l=0/\jw ops=0:=(by split at aP<;>simp_all)
 have aZ:dZ l ops=rM l ops:=(by unfold dZ;simp[h0])
 refine cW [4,5] (E h0.2) ?_;exact tg
end Ex
namespace Ex
open List
open Go.Proofs.Tryz
open Go.RowKit V Pk Vl Cd
variable {i:Nat} {a b:Vl} {p:Vl->Prop}
def wr(n:Int):Int:=IntKind.i64.wrap n
theorem am9(n:Int):-9223372036854775808<=wr n/\wr n<=9223372036854775807:=by unfold wr;rw[IntKind.wrap_i64];omega
def sS(b:Bool):Vl:=if b=true then ⟨1,1,⟨#[]⟩⟩ else ⟨1,0,⟨#[]⟩⟩
def jZ(a b:Vl)(i:Nat):Vl:=if i=0 then a else b
theorem Mo(a b:Vl)(h:i<2):(([ae a.k,ae a.n,aG a.s,ae b.k,ae b.n,aG b.s]:List D).drop (i*3)).take 3=[ae (jZ a b i).k,ae (jZ a b i).n,aG (jZ a b i).s]:=by
 match i,h with
 | 0,_|1,_=>rfl
def mX(a b:Vl)(d:Int):Vl×Int :=
 if (a.k≠1/\a.k≠0)\/(b.k≠1/\b.k≠0) then (aX,4) else if a.k=1/\a.n=d then (a,0) else if b.k=1/\b.n=d then (b,0) else if a.k=0\/b.k=0 then (aX,0) else (a,0)
theorem NL(h:∀j,j<i->p (jZ a b j))(hi:2<=i):p a/\p b:=⟨h 0 w4,h 1 w4⟩
theorem MQ(h:∀j,j<i->p (jZ a b j))(h1:p (jZ a b i)):∀j,j<i+1->p (jZ a b j):=fun j hj=>by
 by_cases e:j=i
 ·subst e;exact h1
 exact h j w4
theorem agF{d:Int}(hi:i<2)(h1:(jZ a b i).k≠1)(h2:(jZ a b i).k≠0):mX a b d=(aX,4):=by
 unfold mX;match i,hi with
 | 0,_=>rw[if_pos (.inl ⟨h1,h2⟩)]
 | 1,_=>rw[if_pos (.inr ⟨h1,h2⟩)]
theorem agG{d:Int}(hi:i<2)(hg:¬((a.k≠1/\a.k≠0)\/(b.k≠1/\b.k≠0)))(h0:∀j,j<i->¬((jZ a b j).k=1/\(jZ a b j).n=d))(h1:(jZ a b i).k=1)(h2:(jZ a b i).n=d):mX a b d=(jZ a b i,0):=by
 unfold mX;rw[if_neg hg];match i,hi with
 | 0,_=>rw[if_pos ⟨h1,h2⟩];rfl
 | 1,_=>rw[if_neg (show ¬(a.k=1/\a.n=d) from h0 0 w4),if_pos (show b.k=1/\b.n=d from⟨h1,h2⟩)];rfl
def rH(k a b:Int):Int×Bool :=
 if k=8 then (wr (a+b),decide (wr (a+b)<a)==decide (b<0)) else if k=9 then (wr (a-b),decide (wr (a-b)>a)==decide (b<0))
 else (wr (a*b),a==0||(wr ((wr (a*b)).tdiv a)==b && !(a == -1&&b == -9223372036854775808)))
def uq(a b:Vl):Bool:=a.k==0||b.k==0
def jy(k:Int)(a b:Vl):Vl×Int :=
 if oP a b≠0 then (aX,oP a b) else if k=3 then mX a b 0 else if k=4 then mX a b 1
 else if k=6\/k=7 then (if uq a b=true then (aX,0) else if a.k≠b.k then (aX,4) else (sS ((fh a b==0&&k==6)||(decide (fh a b<0)&&k==7)),0))
 else if k=8\/k=9\/k=10 then (if (a.k≠2/\a.k≠0)\/(b.k≠2/\b.k≠0) then (aX,4) else if uq a b=true then (aX,0) else if (rH k a.n b.n).2=true then (⟨2,(rH k a.n b.n).1,⟨#[]⟩⟩,0) else (aX,5))
 else (aX,2)
def wI(k:Int)(a:Vl):Vl×Int :=
 if bW a≠0 then (aX,bW a) else if k=11 then (sS (a.k==0),0)
 else if k=5 then (if a.k=0 then (a,0) else if a.k=1 then (sS (a.n==0),0) else (aX,4)) else (aX,2)
def ph(r:Vl×Int):D:=.dF [.agg (cV r.1),ae r.2]
variable {G:List (Nat×List Value)}
theorem DP(b:Bool):VP Tryz.prog G 191 [aW b] (.agg (cV (sS b))):=by
 refine bA func191 rfl ntmps191 aO fun X0 w0 bz=>?_;refine cq ?_;refine cD (ds:=[_,_,_]) au rfl rfl zeroValue36 rfl (fun b2=>?_);refine ap 6 [0,2] ?_;refine ax [2,3] ?_ ?_<;>intro aP bH
 ·refine az 1 ?_;refine aN 0 [_,_,_] sizeOf36 ?_;refine eA 6 [2] [] ?_;refine⟨?_,rfl⟩;unfold sS;simp_all[cV]
 refine az 1 ?_;refine aN 0 [_,_,_] sizeOf36 ?_;refine eA 6 [2] [] ?_;refine⟨?_,rfl⟩;unfold sS;simp_all[cV]
theorem XQ(a b:Vl):VP Tryz.prog G 193 [.agg (cV a),.agg (cV b)] (aW (uq a b)):=by
 refine bA func193 rfl ntmps193 aO fun X0 w0 bz=>?_;unfold cV;refine cq ?_;refine dm [_,_,_] (fun b2=>?_);refine dm [_,_,_] (fun b3=>?_);refine ap 13 [2,3] ?_;refine az 4 ?_;refine cz 8 (fun I E=>?_) (fun I E=>?_)
 ·refine bL [4] ?_;refine fJ ?_;refine⟨vb ?_,rfl⟩;unfold uq;simp_all
 refine bL [4] ?_;refine fJ ?_;refine⟨vb ?_,rfl⟩;unfold uq;simp_all
theorem Wf(a b:Vl)(d:Int):VP Tryz.prog G 192 [.agg (cV a),.agg (cV b),ae d] (ph (mX a b d)):=by
 refine bA func192 rfl ntmps192 aO fun X0 w0 bz=>?_;unfold ph cV;have rf:=XQ (G:=G) a b;unfold cV at rf;refine cq ?_;refine dm [_,_,_] (fun b3=>?_);refine dm [_,_,_] (fun b4=>?_);refine cD (ds:=[_,_,_]) au rfl rfl zeroValue36 rfl (fun b6=>?_);refine ap 50 [2,3,4,6] ?_;refine cJ [2,3,4,6,14,15] ?_;refine aM 2 ?_ (h:=Q7);refine bB ?_;refine eZ [2,3,4,6,14] (fun aU _ (i:Nat) aE=>(i<=2)/\(∀j,j<i->¬((jZ a b j).k≠1/\(jZ a b j).k≠0))/\aE=(⟨50,(15,ae (i:Nat))::aU,[⟨b6,36,3,[ae 0,ae 0,dj]⟩,⟨b4,36,3,[ae b.k,ae b.n,aG b.s]⟩,⟨b3,36,3,[ae a.k,ae a.n,aG a.s]⟩]⟩:St)) (fun (i:Nat)=>2-i) 0 ⟨(Nat.zero_le _),(fun j hj=>absurd hj (Nat.not_lt_zero _)),rfl⟩ ?_;rintro i _ ⟨hi,fb,rfl⟩;refine ax [2,3,4,6,14,15,16] ?_ ?_<;>intro aP bH
 ·have aa:i<2:=(by omega)
  refine cq ?_;refine bS (LL (j:=i) rfl ot ot runUnderlying268 sizeOf36 isAgg36 rfl aa (Mo a b aa)) ?_;refine cD (ds:=[_,_,_]) au rfl rfl zeroValue36 rfl (fun b9=>?_);refine aN 0 [_,_,_] sizeOf36 ?_;refine ap 50 [2,3,4,6,9,14,15] ?_;refine az 4 ?_;refine cz 21 (fun s8 I=>?_) (fun s8 I=>?_)
  ·refine bL [2,3,4,6,14,15,25] ?_;refine bX ?_ ?_<;>intro bg cM
   ·have aZ:mX a b d=(aX,4):=agF aa (by simp_all) (by simp_all);refine az 1 ?_;refine aN 1 [_,_,_] sizeOf36 ?_;refine ap 50 [6,7] ?_;exact kO
   exact aaF
  refine bL [2,3,4,6,14,15,25] ?_;refine gK ?_;exact aaF
 have U:=NL (p:=fun v=>¬(v.k≠1/\v.k≠0)) fb w4;have hg:¬((a.k≠1/\a.k≠0)\/(b.k≠1/\b.k≠0)):=fun h=>h.elim U.1 U.2;clear fb hi;refine cJ [2,3,4,6,30,31] ?_;refine aM 2 ?_ (h:=Q7);refine bB ?_;refine eZ [2,3,4,6,30] (fun aU _ (i:Nat) aE=>(i<=2)/\(∀j,j<i->¬((jZ a b j).k=1/\(jZ a b j).n=d))/\aE=(⟨50,(31,ae (i:Nat))::aU,[⟨b6,36,3,[ae 0,ae 0,dj]⟩,⟨b4,36,3,[ae b.k,ae b.n,aG b.s]⟩,⟨b3,36,3,[ae a.k,ae a.n,aG a.s]⟩]⟩:St)) (fun (i:Nat)=>2-i) 0 ⟨(Nat.zero_le _),(fun j hj=>absurd hj (Nat.not_lt_zero _)),rfl⟩ ?_;rintro i _ ⟨nr,O5,rfl⟩;refine ax [2,3,4,6,30,31,32] ?_ ?_<;>intro cl di
 ·have aa:i<2:=(by omega)
  refine cq ?_;refine bS (LL (j:=i) rfl ot ot runUnderlying268 sizeOf36 isAgg36 rfl aa (Mo a b aa)) ?_;refine cD (ds:=[_,_,_]) au rfl rfl zeroValue36 rfl (fun mQ=>?_);refine aN 0 [_,_,_] sizeOf36 ?_;refine ap 50 [2,3,4,6,11,30,31] ?_;refine az 4 ?_;refine cz 37 (fun Z O=>?_) (fun Z O=>?_)
  ·refine bL [2,3,4,6,11,30,31,42] ?_;refine bX ?_ ?_<;>intro da eP
   ·have aZ:mX a b d=(jZ a b i,0):=agG aa hg O5 (by simp_all) (by simp_all);refine az 1 ?_;refine aN 1 [_,_,_] sizeOf36 ?_;refine ap 50 [6,7] ?_;exact kO
   exact aaH
  refine bL [2,3,4,6,11,30,31,42] ?_;refine gK ?_;exact aaH
 have E:=NL (p:=fun v=>¬(v.k=1/\v.n=d)) O5 w4;refine cW [3,6,47] (rf) ?_;refine bX ?_ ?_<;>intro eo fR
 ·have aZ:mX a b d=(aX,0):=(by unfold mX;rw[if_neg hg,if_neg E.1,if_neg E.2,if_pos (by unfold uq at eo;simpa using eo)])
  refine az 1 ?_;refine aN 0 [_,_,_] sizeOf36 ?_;refine ap 50 [6,7] ?_;exact kO
 have aZ:mX a b d=(a,0):=(by unfold mX;rw[if_neg hg,if_neg E.1,if_neg E.2,if_neg (by unfold uq at eo;simpa using eo)])
 refine az 1 ?_;refine aN 0 [_,_,_] sizeOf36 ?_;refine ap 50 [6,7] ?_;exact tg
theorem aiy(k a b:Int):VP Tryz.prog G 194 [ae k,ae a,ae b] (.dF [ae (rH k a b).1,aW (rH k a b).2]):=by
 refine bA func194 rfl ntmps194 aO fun X0 w0 bz=>?_;refine ay [0,1,2] ?_;refine ay [1,2,11] ?_;refine ax [1,2,11,12] ?_ ?_<;>intro aP bH
 ·refine cJ [1,2,8] ?_;refine aM 2 ?_ (h:=by exact(eE (r:=.int .i64 (wr (a+b))) rfl ot ot (mB rfl)));exact z116
 refine ax [1,2,24] ?_ ?_<;>intro bg cM
 ·refine cJ [1,2,9] ?_;refine aM 2 ?_ (h:=by exact(eE (r:=.int .i64 (wr (a-b))) rfl ot ot (je rfl)));exact z116
 refine cJ [1,2,10] ?_;refine aM 2 ?_ (h:=by exact(eE (r:=.int .i64 (wr (a*b))) rfl ot ot (NA rfl)));refine bB ?_;refine az 4 ?_;refine cz 42 (fun ux E=>?_) (fun ux E=>?_)
 ·refine bL [6,7] ?_;refine RF ?_;refine⟨?_,rfl⟩;unfold rH;simp_all
 refine aF 2 ?_;refine qM jq rfl (eE (r:=.int .i64 (wr ((wr (a*b)).tdiv a))) rfl ot ot (ajG (by simpa using ux) rfl)) ?_;refine aF 3 ?_;refine cz 48 (fun U I=>?_) (fun U I=>?_)
 ·refine aF 3 ?_;refine cz 51 (fun Z O=>?_) (fun Z O=>?_)
  ·refine eA 58 [6,7] [] ?_;refine⟨?_,rfl⟩;unfold rH;simp_all
  refine eA 58 [6,7] [] ?_;refine⟨?_,rfl⟩;unfold rH;simp_all
 refine eA 58 [6,7] [] ?_;refine⟨?_,rfl⟩;unfold rH;simp_all
theorem alR(k:Int)(a:Vl):VP Tryz.prog G 177 [ae k,.agg (cV a)] (ph (wI k a)):=by
 refine bA func177 rfl ntmps177 aO fun X0 w0 bz=>?_;unfold ph;have fB:=Vl.qP (G:=G) a;unfold cV at fB;unfold cV;refine cq ?_;refine dm [_,_,_] (fun b3=>?_);refine cD (ds:=[_,_,_]) au rfl rfl zeroValue36 rfl (fun b4=>?_);refine ap 35 [0,3,4] ?_;refine cW [0,3,4,6] (fB) ?_;refine ax [0,3,4,6,10] ?_ ?_<;>intro aP bH
 ·refine az 2 ?_;exact FW
 refine ay [3,4,13] ?_;refine ax [3,4,13,14] ?_ ?_<;>intro bg cM
 ·refine az 3 ?_;refine dK call191 (DP _) ?_;exact FW
 refine ax [3,4,20] ?_ ?_<;>intro cl di
 ·refine ay [3,4,23] ?_;refine ax [3,4,23,24] ?_ ?_<;>intro da eP
  ·refine az 1 ?_;exact FW
  refine ax [3,4,27] ?_ ?_<;>intro eo fR
  ·refine az 3 ?_;refine dK call191 (DP _) ?_;exact FW
  refine az 1 ?_;exact FW
 refine az 1 ?_;refine aN 0 [_,_,_] sizeOf36 ?_;refine eA 35 [4,5] [] ?_;refine⟨?_,rfl⟩;unfold wI;simp_all[aX]
theorem ake{k:Int}(h0:oP a b=0)(hk:k=8\/k=9\/k=10)(hi:i<2)(h1:(jZ a b i).k≠2)(h2:(jZ a b i).k≠0):jy k a b=(aX,4):=by
 unfold jy;rw[if_neg (by simp[h0]),if_neg w4,if_neg w4,if_neg w4,if_pos hk];match i,hi with
 | 0,_=>rw[if_pos (.inl ⟨h1,h2⟩)]
 | 1,_=>rw[if_pos (.inr ⟨h1,h2⟩)]
theorem UO{k:Int}(h0:oP a b=0)(hk:k=8\/k=9\/k=10)(hg:¬((a.k≠2/\a.k≠0)\/(b.k≠2/\b.k≠0))) :
  jy k a b=if uq a b=true then (aX,0) else if (rH k a.n b.n).2=true then (⟨2,(rH k a.n b.n).1,⟨#[]⟩⟩,0) else (aX,5):=by
 unfold jy;rw[if_neg (by simp[h0]),if_neg w4,if_neg w4,if_neg w4,if_pos hk,if_neg hg]
theorem alS(k:Int)(a b:Vl)(oa:a.Ok)(ob:b.Ok):VP Tryz.prog G 178 [ae k,.agg (cV a),.agg (cV b)] (ph (jy k a b)):=by
 refine bA func178 rfl ntmps178 aO fun X0 w0 bz=>?_;unfold ph;have pL:=Cd.XE (G:=G) a b;have rf:=XQ (G:=G) a b;have pM:=Wf (G:=G) a b 0;have mr:=Wf (G:=G) a b 1;have fB:=Cd.Ua (G:=G) a b oa ob;have r9:=aiy (G:=G) k a.n b.n;unfold ph at pM mr;unfold cV at pL rf pM mr fB;unfold cV;refine cq ?_;refine dm [_,_,_] (fun b4=>?_);refine dm [_,_,_] (fun b5=>?_);refine cD (ds:=[_,_,_]) au rfl rfl zeroValue36 rfl (fun b6=>?_);refine ap 106 [0,4,5,6] ?_;refine cW [0,4,5,6,8] (pL) ?_;refine ax [0,4,5,6,8,18] ?_ ?_<;>intro aP bH
 ·have E:oP a b≠0:=(by simpa using aP)
  have aZ:jy k a b=(aX,oP a b):=(by unfold jy;rw[if_pos E])
  refine az 2 ?_;exact wQ
 have E:oP a b=0:=(by simpa using aP)
 refine ay [0,4,5,6,21] ?_;refine ax [0,4,5,6,21,22] ?_ ?_<;>intro bg cM
 ·have aZ:jy k a b=mX a b 0:=(by unfold jy;rw[if_neg (by simp[E]),if_pos w4])
  refine az 2 ?_;refine dK call192 (pM) ?_;refine aF 2 ?_;exact wQ
 refine ax [0,4,5,6,21,29] ?_ ?_<;>intro cl di
 ·have aZ:jy k a b=mX a b 1:=(by unfold jy;rw[if_neg (by simp[E]),if_neg w4,if_pos w4])
  refine az 2 ?_;refine dK call192 (mr) ?_;refine aF 2 ?_;exact wQ
 refine iM [0,4,5,6,21] (fun aU j4 aE=>∃(q:Bool),(q=true↔k=6\/k=7)/\aE=(⟨106,(36,aW q)::aU,j4⟩:St)) ?_ ?_
 ·refine ax [0,4,5,6,21,36] ?_ ?_<;>intro da eP
  ·refine eI ?_;exact z139
  refine bM [0,4,5,6,21,36] ?_;exact z139
 rintro _ ⟨q,hq,rfl⟩;refine bX ?_ ?_<;>intro eo fR
 ·have awa:=hq.1 eo;refine cW [0,4,5,6,41] (rf) ?_;refine bX ?_ ?_<;>intro fH ik
  ·have aZ:jy k a b=(aX,0):=(by unfold jy;rw[if_neg (by simp[E]),if_neg w4,if_neg w4,if_pos w4,if_pos fH])
   refine az 1 ?_;exact wQ
  refine ax [0,4,5,6,47] ?_ ?_<;>intro iu qa
  ·have aZ:jy k a b=(aX,4):=(by unfold jy;rw[if_neg (by simp[E]),if_neg w4,if_neg w4,if_pos w4,if_neg (by rw[fH];simp),if_pos (by simpa using iu)])
   refine az 1 ?_;exact wQ
  have aZ:jy k a b=(sS ((fh a b==0&&k==6)||(decide (fh a b<0)&&k==7)),0):=(by unfold jy;rw[if_neg (by simp[E]),if_neg w4,if_neg w4,if_pos w4,if_neg (by rw[fH];simp),if_neg (by simpa using iu)])
  refine cW [0,6,9] (fB) ?_;refine az 3 ?_;refine cz 54 (fun CK Cc=>?_) (fun CK Cc=>?_)
  ·refine aF 4 ?_;refine cz 58 (fun apH ana=>?_) (fun apH ana=>?_)
   ·refine AM 3 ?_;exact E3
   refine aF 3 ?_;refine cz 61 (fun O I=>?_) (fun O I=>?_)
   ·exact E3
   exact E3
  refine aF 7 ?_;refine cz 61 (fun O I=>?_) (fun O I=>?_)
  ·exact E3
  exact E3
 have awb:¬(k=6\/k=7):=fun h=>by rw[hq.2 h] at eo;cases eo
 refine iM [0,4,5,6] (fun aU j4 aE=>∃(q:Bool),(q=true↔k=8\/k=9\/k=10)/\aE=(⟨106,(67,aW q)::aU,j4⟩:St)) ?_ ?_
 ·refine ax [0,4,5,6,21,67] ?_ ?_<;>intro iE nJ
  ·refine eI ?_;exact z139
  refine ax [0,4,5,6,21,67] ?_ ?_<;>intro sb CE
  ·refine eI ?_;exact z139
  refine bM [0,4,5,6,67] ?_;exact z139
 rintro _ ⟨q,vy,rfl⟩;refine bX ?_ ?_<;>intro wX Ff
 ·have K9:=vy.1 wX;refine cJ [0,4,5,6,73,74] ?_;refine aM 2 ?_ (h:=Q7);refine bB ?_;refine eZ [0,4,5,6,73] (fun aU _ (i:Nat) aE=>(i<=2)/\(∀j,j<i->¬((jZ a b j).k≠2/\(jZ a b j).k≠0))/\aE=(⟨106,(74,ae (i:Nat))::aU,[⟨b6,36,3,[ae 0,ae 0,dj]⟩,⟨b5,36,3,[ae b.k,ae b.n,aG b.s]⟩,⟨b4,36,3,[ae a.k,ae a.n,aG a.s]⟩]⟩:St)) (fun (i:Nat)=>2-i) 0 ⟨(Nat.zero_le _),(fun j hj=>absurd hj (Nat.not_lt_zero _)),rfl⟩ ?_;rintro i _ ⟨hi,fb,rfl⟩;have K9:k=8\/k=9\/k=10:=(by omega)
  refine ax [0,4,5,6,73,74,75] ?_ ?_<;>intro Ka Jp
  ·have aa:i<2:=(by omega)
   refine cq ?_;refine bS (LL (j:=i) rfl ot ot runUnderlying268 sizeOf36 isAgg36 rfl aa (Mo a b aa)) ?_;refine cD (ds:=[_,_,_]) au rfl rfl zeroValue36 rfl (fun mQ=>?_);refine aN 0 [_,_,_] sizeOf36 ?_;refine ap 106 [0,4,5,6,11,73,74] ?_;refine az 4 ?_;refine cz 80 (fun QA Jq=>?_) (fun QA Jq=>?_)
   ·refine bL [0,4,5,6,73,74,84] ?_;refine bX ?_ ?_<;>intro yc Ji
    ·have aZ:jy k a b=(aX,4):=ake E K9 aa (by simp_all) (by simp_all);refine az 1 ?_;refine aN 1 [_,_,_] sizeOf36 ?_;refine eA 106 [6,7] [] ?_;rw[aZ];first|exact⟨rfl,rfl⟩|(refine⟨?_,rfl⟩;clear aZ fB r9 pM mr pL rf;generalize (fh a b==0)=z1 at *;generalize (decide (fh a b<0))=z2 at *;subst_vars;simp_all;done)
    exact aaE
   refine bL [0,4,5,6,73,74,84] ?_;refine gK ?_;exact aaE
  have hAB:=NL (p:=fun v=>¬(v.k≠2/\v.k≠0)) fb w4;have SG:=UO E K9 (fun h=>h.elim hAB.1 hAB.2);refine cW [0,4,5,6,89] (rf) ?_;refine bX ?_ ?_<;>intro U anb
  ·have aZ:jy k a b=(aX,0):=(by rw[SG,if_pos U])
   refine az 1 ?_;exact wQ
  refine cW [6,12,13] (r9) ?_;refine ax [6,12,101] ?_ ?_<;>intro Z anc
  ·have aZ:jy k a b=(aX,5):=(by rw[SG,if_neg (by rw[U];simp),if_neg (by simpa using Z)])
   refine az 1 ?_;exact wQ
  have aZ:jy k a b=(⟨2,(rH k a.n b.n).1,⟨#[]⟩⟩,0):=(by rw[SG,if_neg (by rw[U];simp),if_pos (by simpa using Z)])
  refine az 2 ?_;exact wQ
 have hn8:¬(k=8\/k=9\/k=10):=fun h=>by rw[vy.2 h] at wX;cases wX
 have aZ:jy k a b=(aX,2):=(by unfold jy;rw[if_neg (by simp[E]),if_neg w4,if_neg w4,if_neg w4,if_neg w4])
 refine az 1 ?_;refine aN 0 [_,_,_] sizeOf36 ?_;refine eA 106 [6,7] [] ?_;rw[aZ];first|exact⟨rfl,rfl⟩|(refine⟨?_,rfl⟩;clear aZ fB r9 pM mr pL rf;generalize (fh a b==0)=z1 at *;generalize (decide (fh a b<0))=z2 at *;subst_vars;simp_all;done)
end Ex
namespace Ex
open List
open Go.Proofs.Tryz
open Go.RowKit V Pk Vl Go.Proofs.YtihmfhcjbmlnaaaGreatDoor.Nm Pc
variable {a b:Vl} {l:List dc} {row:List Vl} {ops:List aQ}
def ij(l:List dc)(row:List Vl)(o:aQ)(a b:Vl):Vl×Int :=
 if cn o.k=1 then wI o.k a else if cn o.k=2 then jy o.k a b else if o.k=2 then (row.getD (bE l o.nm).toNat aX,0) else (o.v,0)
def xZ(l:List dc)(row:List Vl)(ops:List aQ):Vl×Int:=jH aX (ij l row) ops []
def gl(l:List dc)(row:List Vl)(ops:List aQ):Vl×Int :=
 if dV l row≠0 then (aX,dV l row) else if (dZ l ops).2≠0 then (aX,(dZ l ops).2) else xZ l row ops
theorem wz:aX.Ok:=⟨by decide,by decide,by decide,by decide,Nat.zero_le _⟩
theorem Wg(b:Bool):(sS b).Ok:=by unfold sS;split<;>exact⟨by decide,by decide,by decide,by decide,Nat.zero_le _⟩
theorem ok_int{n:Int}(h:-9223372036854775808<=n/\n<=9223372036854775807):(⟨2,n,⟨#[]⟩⟩:Vl).Ok:=⟨by show -9223372036854775808<=(2:Int);decide,by show(2:Int)<=_;decide,h.1,h.2,Nat.zero_le _⟩
theorem aiz{d:Int}(oa:a.Ok)(ob:b.Ok):(mX a b d).1.Ok:=by
 unfold mX;repeat' split
 all_goals first|exact wz|exact oa|exact ob
theorem ok_two{k:Int}(oa:a.Ok)(ob:b.Ok):(jy k a b).1.Ok:=by
 unfold jy;repeat' split
 all_goals first|exact wz|exact aiz oa ob|exact Wg _|skip
 unfold rH;repeat' split
 all_goals exact ok_int (am9 _)
theorem ok_one{k:Int}(oa:a.Ok):(wI k a).1.Ok:=by
 unfold wI;repeat' split
 all_goals first|exact wz|exact oa|exact Wg _
theorem XR(hr:∀v∈row,v.Ok){o:aQ}(ho:o.v.Ok)(oa:a.Ok)(ob:b.Ok):(ij l row o a b).1.Ok:=by
 unfold ij;split
 ·exact ok_one oa
 split
 ·exact ok_two oa ob
 split
 ·show(row.getD _ aX).Ok;rw[getD_eq_getElem?_getD];cases h:row[(bE l o.nm).toNat]? with
  | none=>exact wz
  | some v=>exact hr v (mem_of_getElem? h)
 exact ho
theorem NM{st:List Vl}(h:∀v∈st,v.Ok)(j:Nat):(st.getD j aX).Ok:=by
 rw[getD_eq_getElem?_getD];cases hj:st[j]? with
 | none=>exact wz
 | some v=>exact h v (mem_of_getElem? hj)
theorem NN{st:List Vl}(h:∀v∈st,v.Ok)(k:Int):(fT aX k st).Ok:=by unfold fT;split;exact NM h _;exact wz
theorem NQ{st:List Vl}(h:∀v∈st,v.Ok)(k:Int):(fU aX k st).Ok:=by unfold fU;split;exact NM h _;exact wz
theorem UP{α:Type}{z:α}{f:aQ->α->α->α × Int}:∀{l:List aQ} {st:List α},(jH z f l st).2=0->∀o∈l,∃a b,(f o a b).2=0
 | [],_,_,o,ho=>by cases ho
 | x::r,st,h,o,ho=>by
  rw[jH] at h;split at h
  ·rename_i hne;exact absurd h hne
  rename_i he;rcases mem_cons.1 ho with rfl|ho
  ·exact⟨_,_,Classical.not_not.1 he⟩
  exact UP h o ho
theorem UQ(h:(rM l ops).2=0):∀o∈ops,o.k=2->0<=bE l o.nm:=fun o ho hk=>by
 obtain⟨a,b,he⟩:=UP h o ho;unfold gk at he;rw[if_neg w4,if_pos hk] at he;unfold u4 at he;split at he
 ·cases he
 omega
theorem ND(h:dV l row=0):row.length=l.length:=by
 unfold dV at h;split at h
 ·rename_i h1;exact absurd h h1
 split at h
 ·cases h
 omega
theorem IA(h:(dZ l ops).2=0):gG l=0/\jw ops=0/\dZ l ops=rM l ops:=by
 unfold dZ at h |-;split at h
 ·rename_i h1;exact absurd h h1
 rename_i h1;split at h
 ·rename_i h2;exact absurd h h2
 rename_i h2;exact⟨Classical.not_not.1 h1,Classical.not_not.1 h2,by rw[if_neg h1,if_neg h2]⟩
variable {G:List (Nat×List Value)}
theorem agH(l:List dc)(hl:l.length<=6)(row:List Vl)(wZ:row.length=l.length)(o:aQ)(I:o.k=2->0<=bE l o.nm)(a b a' b':Vl)(ha:a=a')(hb:b=b')(oa:a.Ok)(ob:b.Ok)(br bc:Nat):VC Tryz.prog G 176 [.agg (cO o),.agg (cV a'),.agg (cV b'),dw br,dw bc] [⟨br,30,1,[aj 3 cV row]⟩,⟨bc,29,1,[aj 2 cC l]⟩] (fun r S=>r=ph (ij l row o a b)/\S=[⟨br,30,1,[aj 3 cV row]⟩,⟨bc,29,1,[aj 2 cC l]⟩]):=by
 refine bA func176 rfl ntmps176 aO fun X0 w0 bz=>?_;subst ha hb;have oY:=alR (G:=G) o.k a;have E:=alS (G:=G) o.k a b oa ob;unfold ph at oY E |-;unfold cV at oY E;unfold cO cV;have U:=vX (fun c:dc=>c.n.toList==o.nm.toList) l;have O:bE l o.nm=dD (fun c:dc=>c.n.toList==o.nm.toList) l:=rfl;rw[<-O] at U;clear O;refine cq ?_;refine dm [_,_,_,_,_] (fun b5=>?_);refine dm [_,_,_] (fun b6=>?_);refine dm [_,_,_] (fun b7=>?_);refine cD (ds:=[_,_,_]) au rfl rfl zeroValue36 rfl (fun b8=>?_);refine ap 42 [3,4,5,6,7,8] ?_;refine cW [3,4,5,6,7,8,12] (H8 o.k) ?_;refine ax [3,4,5,6,7,8,12,13] ?_ ?_<;>intro aP bH
 ·have aZ:ij l row o a b=wI o.k a:=(by unfold ij;rw[if_pos w4])
  refine az 3 ?_;refine dK call177 (oY) ?_;refine aF 2 ?_;exact RE
 refine ax [3,4,5,6,7,8,21] ?_ ?_<;>intro bg cM
 ·have aZ:ij l row o a b=jy o.k a b:=(by unfold ij;rw[if_neg w4,if_pos w4])
  refine az 4 ?_;refine dK call178 (E) ?_;refine aF 2 ?_;exact RE
 refine ax [3,4,5,8,32] ?_ ?_<;>intro cl di
 ·have fD:o.k=2:=(by omega)
  have aP:=I fD;have Z:(bE l o.nm).toNat<row.length:=(by omega)
  have aZ:ij l row o a b=(row[(bE l o.nm).toNat],0):=(by unfold ij;rw[if_neg w4,if_neg w4,if_pos fD,getD_eq_getElem?_getD,getElem?_eq_getElem Z];rfl)
  refine cL ?_;refine nj 7 [8,39] ?_;refine cA (sQ l hl o.nm) ?_;refine bB ?_;exact RE
 have aZ:ij l row o a b=(o.v,0):=(by unfold ij;rw[if_neg w4,if_neg w4,if_neg w4])
 refine az 2 ?_;refine aN 0 [_,_,_] sizeOf36 ?_;refine ap 42 [8,9] ?_;exact aaR
theorem afJ:(Tryz.prog.info? 36).map (fun i=>(i.zero,i.size,i.bytes))=some (some (.agg #[.int .i64 0,.int .i64 0,.string ⟨#[]⟩]),3,32):=by kernel_rfl
theorem aiA(l:List dc)(hl:l.length<=6)(row:List Vl)(wZ:row.length=l.length)(QB:∀v∈row,v.Ok)(ops:List aQ)(gM:∀o∈ops,o.v.Ok)(apI:∀o∈ops,o.k=2->0<=bE l o.nm)(sC:ops.length<=40)(hx:gH 0 ops=0)(br bc:Nat):VC Tryz.prog G 175 [aj 5 cO ops,.fg (.func 176) [dw br,dw bc]] [⟨br,30,1,[aj 3 cV row]⟩,⟨bc,29,1,[aj 2 cC l]⟩] (fun r S=>r=ph (xZ l row ops)/\S=[⟨br,30,1,[aj 3 cV row]⟩,⟨bc,29,1,[aj 2 cC l]⟩]):=by
 refine bA func175 rfl ntmps175 aO fun X0 w0 bz=>?_;unfold ph;refine cq ?_;refine cD (ds:=[_,_,_]) au rfl rfl zeroValue36 rfl (fun b4=>?_);refine ap 64 [0,1,4] ?_;refine cq ?_;refine cD (ds:=[_,_,_]) au rfl rfl zeroValue36 rfl (fun b6=>?_);refine cg (MS (k:=2) (k':=2) rfl rfl) ?_;refine ap 64 [0,1,4,6] ?_;refine cq ?_;refine bL [0,1,4,6,7] ?_;refine ay [1,4,6,7,16,17,18] ?_;refine kU ?_;refine oB (fun (aR:Nat×List Vl×Option Addr×Nat×List ag) aE=>match aR with|(i,st,I,E,Sh)=>(i<=ops.length)/\(st.length<=i)/\(gH ((st.length:Nat):Int) (ops.drop i)=0)/\(xZ l row ops=jH aX (ij l row) (ops.drop i) st)/\(∀v∈st,v.Ok)/\(bF 36 3 ((st).flatMap cV) (st).length I E Sh)/\aE=(⟨64,[(1,.fg (.func 176) [dw br,dw bc]),(4,dw b4),(6,dw b6),(7,aS I (st).length E),(16,aj 5 cO ops),(17,ae (ops.length:Nat)),(18,ae (i:Nat))],(⟨br,30,1,[aj 3 cV row]⟩::⟨bc,29,1,[aj 2 cC l]⟩::⟨b6,36,3,[ae 0,ae 0,dj]⟩::⟨b4,36,3,[ae 0,ae 0,dj]⟩::Sh)⟩:St)) (fun (aR:Nat×List Vl×Option Addr×Nat×List ag)=>match aR with|(i,st,I,E,Sh)=>ops.length-i) (0,[],none,0,[]) ⟨(Nat.zero_le _),(Nat.zero_le _),hx,rfl,(fun v hv=>by cases hv),(bF.cast jt lU),rfl⟩ (aL (h:=Kq)) ?_;rintro⟨i,st,I,E,Sh⟩ _ ⟨hi,ff,hex,hinv,bf,U,rfl⟩;refine ax [1,4,6,7,16,17,18,19] ?_ ?_<;>intro aP bH
 ·have aa:i<ops.length:=(by omega)
  obtain⟨he,A3⟩:=UN aa hex;obtain⟨uH,abd,A4,yK⟩:=zh he;have Gk:=wc ops[i].k;have vO:(st.take (st.length-(cn ops[i].k).toNat)++[(ij l row ops[i] (fT aX ops[i].k st) (fU aX ops[i].k st)).1]).length=st.length+1-(cn ops[i].k).toNat:=(by rw[length_append,length_take,length_singleton];omega)
  have kM:gH (((st.take (st.length-(cn ops[i].k).toNat)++[(ij l row ops[i] (fT aX ops[i].k st) (fU aX ops[i].k st)).1]).length:Nat):Int) (ops.drop (i+1))=0:=(by rw[vO,show(((st.length+1-(cn ops[i].k).toNat:Nat)):Int)=(st.length:Int)+(1-cn ops[i].k) by omega];exact A3)
  have apJ:∀v∈st.take (st.length-(cn ops[i].k).toNat)++[(ij l row ops[i] (fT aX ops[i].k st) (fU aX ops[i].k st)).1],v.Ok:=fun v hv=>by rcases mem_append.1 hv with hv|hv;exact bf v (mem_of_mem_take hv);rw[mem_singleton] at hv;rw[hv];exact XR QB (gM _ (getElem_mem aa)) (NN bf _) (NQ bf _)
  refine az 2 ?_;refine cD (ds:=[_,_,_,_,_]) au rfl rfl zeroValue38 rfl (fun b9=>?_);refine aN 0 [_,_,_,_,_] sizeOf38 ?_;refine ap 64 [1,4,6,7,9,16,17,18] ?_;refine cq ?_;refine cD (ds:=[_,_,_]) au rfl rfl zeroValue36 rfl (fun kr=>?_);refine cD (ds:=[_,_,_]) au rfl rfl zeroValue36 rfl (fun mQ=>?_);refine ap 64 [1,4,6,7,9,10,11,16,17,18] ?_;refine cW [1,4,6,7,9,10,11,12,16,17,18] (H8 ops[i].k) ?_;refine ay [1,4,6,7,9,10,11,12,13,16,17,18] ?_;refine iM [1,4,6,9,10,11,12,13,16,17,18] (fun aU _ aE=>∃(va:Vl),∃(I:Option Addr),∃(E:Nat),∃(Sh:List ag),(fT aX ops[i].k st=va)/\(bF 36 3 (st.flatMap cV) st.length I E Sh)/\aE=(⟨64,(7,aS I st.length E)::aU,(⟨mQ,36,3,[ae 0,ae 0,dj]⟩::⟨kr,36,3,[ae va.k,ae va.n,aG va.s]⟩::⟨b9,38,5,[ae ops[i].k,ae ops[i].v.k,ae ops[i].v.n,aG ops[i].v.s,aG ops[i].nm]⟩::⟨br,30,1,[aj 3 cV row]⟩::⟨bc,29,1,[aj 2 cC l]⟩::⟨b6,36,3,[ae 0,ae 0,dj]⟩::⟨b4,36,3,[ae 0,ae 0,dj]⟩::Sh)⟩:St)) ?_ ?_
  ·refine ax [1,4,6,7,9,10,11,12,13,16,17,18,30] ?_ ?_<;>intro bg cM
   ·obtain⟨bh,rfl,Z,O,rfl⟩:=U.pos w4;have wY:(st.length-(cn ops[i].k).toNat)<st.length:=(by omega)
    have ha:fT aX ops[i].k st=st[(st.length-(cn ops[i].k).toNat)]:=(by unfold fT;rw[if_pos w4,getD_eq_getElem?_getD,getElem?_eq_getElem wY];rfl)
    refine dB 2 ?_;refine bS (ei 3 (h:=Z7)) ?_;refine bS (ez (mk:=Op.load 36) rfl ot (dM (k:=7) fX rfl rfl rfl isAgg36 sizeOf36 wY)) ?_;refine aN 1 [_,_,_] sizeOf36 ?_;refine ap 64 [1,4,6,7,9,10,11,12,13,16,17,18] ?_;refine⟨_,aL,(st[(st.length-(cn ops[i].k).toNat)]),(some ⟨bh,0,none⟩),E,[⟨bh,36,E*3,flatMap cV st⟩],ha,(cj (g:=cV) (ls:=st) Z O),rfl⟩
   have ha:fT aX ops[i].k st=aX:=(by unfold fT;rw[if_neg w4])
   refine eI ?_;refine⟨_,aL,aX,I,E,Sh,ha,U,rfl⟩
  rintro _ ⟨va,I,E,Sh,ha,U,rfl⟩;refine iM [1,4,6,9,10,11,13,16,17,18] (fun aU _ aE=>∃(vb:Vl),∃(I:Option Addr),∃(E:Nat),∃(Sh:List ag),(fU aX ops[i].k st=vb)/\(bF 36 3 (st.flatMap cV) st.length I E Sh)/\aE=(⟨64,(7,aS I st.length E)::aU,(⟨mQ,36,3,[ae vb.k,ae vb.n,aG vb.s]⟩::⟨kr,36,3,[ae va.k,ae va.n,aG va.s]⟩::⟨b9,38,5,[ae ops[i].k,ae ops[i].v.k,ae ops[i].v.n,aG ops[i].v.s,aG ops[i].nm]⟩::⟨br,30,1,[aj 3 cV row]⟩::⟨bc,29,1,[aj 2 cC l]⟩::⟨b6,36,3,[ae 0,ae 0,dj]⟩::⟨b4,36,3,[ae 0,ae 0,dj]⟩::Sh)⟩:St)) ?_ ?_
  ·refine ax [1,4,6,7,9,10,11,13,16,17,18,36] ?_ ?_<;>intro cl di
   ·obtain⟨bh,rfl,Z,O,rfl⟩:=U.pos w4;have Fh:(st.length-(cn ops[i].k).toNat)+1<st.length:=(by omega)
    have hb:fU aX ops[i].k st=st[(st.length-(cn ops[i].k).toNat)+1]:=(by unfold fU;rw[if_pos w4,getD_eq_getElem?_getD,getElem?_eq_getElem Fh];rfl)
    refine dB 3 ?_;refine bS (ei 3 (h:=Z3)) ?_;refine bS (ez (mk:=Op.load 36) rfl ot (dM (k:=7) fX rfl rfl rfl isAgg36 sizeOf36 Fh)) ?_;refine aN 0 [_,_,_] sizeOf36 ?_;refine ap 64 [1,4,6,7,9,10,11,13,16,17,18] ?_;refine⟨_,aL,(st[(st.length-(cn ops[i].k).toNat)+1]),(some ⟨bh,0,none⟩),E,[⟨bh,36,E*3,flatMap cV st⟩],hb,(cj (g:=cV) (ls:=st) Z O),rfl⟩
   have hb:fU aX ops[i].k st=aX:=(by unfold fU;rw[if_neg w4])
   refine eI ?_;refine⟨_,aL,aX,I,E,Sh,hb,U,rfl⟩
  rintro _ ⟨vb,I,E,Sh,hb,U,rfl⟩;refine az 4 ?_;refine nB (f:=176) (args:=[_,_,_]) (all:=[_,_,_,_,_]) (Sf:=[⟨br,30,1,[aj 3 cV row]⟩,⟨bc,29,1,[aj 2 cC l]⟩]) au rfl rfl ot call176 (agH l hl row wZ ops[i] (apI _ (getElem_mem aa)) _ _ (va) (vb) ha hb (NN bf _) (NQ bf _) br bc) rfl ⟨ot,ot,ot,trivial⟩ (MS (k:=3) (k':=3) rfl rfl) ?_;rintro _ _ ⟨rfl,rfl⟩;refine aF 3 ?_;refine cD (ds:=[_,_,_]) au rfl rfl zeroValue36 rfl (fun yM=>?_);refine aN 0 [_,_,_] sizeOf36 ?_;refine ap 64 [1,4,6,7,13,14,15,16,17,18] ?_;refine ax [1,4,6,7,13,14,15,16,17,18,51] ?_ ?_<;>intro da eP
  ·have hz:(ij l row ops[i] (fT aX ops[i].k st) (fU aX ops[i].k st)).2≠0:=(by simpa using da)
   have aZ:=hinv.trans (XO aa hz);refine az 2 ?_;refine aN 7 [_,_,_] sizeOf36 ?_;refine eA 64 [4,5] [⟨br,30,1,[aj 3 cV row]⟩,⟨bc,29,1,[aj 2 cC l]⟩] ?_;rw[aZ];exact⟨rfl,rfl⟩
  have hz:(ij l row ops[i] (fT aX ops[i].k st) (fU aX ops[i].k st)).2=0:=(by simpa using da)
  refine eI ?_;refine Xx (k:=(st.length-(cn ops[i].k).toNat)) (ls:=st) (Sq:=Sh) fX w4 U (dL (A:=[_,_,_,_,_,_,_,_])) (fun Qz Pf=>?_);refine rE (eM (A:=[_,_,_,_,_,_,_,_])) ?_;refine iX 6 (aq (take 1 _)) ?_ (fun _ h=>(Sublist.map _ (take_sublist _ _)).subset h);refine iD [0,1] ?_;first|refine cm 2 rfl (G8 (n:=st.length) (k:=(take (st.length-(cn ops[i].k).toNat) st).length) (cs:=st.flatMap cV) rfl ot rfl ⟨_,_,ot,by rw[length_take];omega⟩ runUnderlying30 sizeOf36 qD U) ?_|refine cm 2 rfl (G8 (n:=st.length) (k:=(take (st.length-(cn ops[i].k).toNat) st).length) (cs:=st.flatMap cV) rfl ot rfl ⟨_,_,ot,by rw[length_take];omega⟩ runUnderlying30 sizeOf36 qD (cj (e:=36) (g:=cV) (ls:=st) Z O)) ?_
  refine cm 3 rfl (ez (mk:=Op.load 36) rfl ot (by first|exact rD (k:=0) (ds:=[_,_,_]) rfl rfl isAgg36 sizeOf36 rfl rfl|exact jM mU isAgg36 sizeOf36 w5|exact jM fX isAgg36 sizeOf36 w5|exact dM (k:=0) mU rfl rfl rfl isAgg36 sizeOf36 w5|exact dM (k:=1) mU rfl rfl rfl isAgg36 sizeOf36 w5|exact dM (k:=2) mU rfl rfl rfl isAgg36 sizeOf36 w5|exact dM (k:=3) mU rfl rfl rfl isAgg36 sizeOf36 w5|exact dM (k:=4) mU rfl rfl rfl isAgg36 sizeOf36 w5|exact dM (k:=5) mU rfl rfl rfl isAgg36 sizeOf36 w5|exact dM (k:=6) mU rfl rfl rfl isAgg36 sizeOf36 w5|exact dM (k:=7) mU rfl rfl rfl isAgg36 sizeOf36 w5|exact dM (k:=0) fX rfl rfl rfl isAgg36 sizeOf36 w5|exact dM (k:=1) fX rfl rfl rfl isAgg36 sizeOf36 w5|exact dM (k:=2) fX rfl rfl rfl isAgg36 sizeOf36 w5|exact dM (k:=3) fX rfl rfl rfl isAgg36 sizeOf36 w5|exact dM (k:=4) fX rfl rfl rfl isAgg36 sizeOf36 w5|exact dM (k:=5) fX rfl rfl rfl isAgg36 sizeOf36 w5|exact dM (k:=6) fX rfl rfl rfl isAgg36 sizeOf36 w5|exact dM (k:=7) fX rfl rfl rfl isAgg36 sizeOf36 w5|exact rL (ds:=[_,_,_]) isAgg36 sizeOf36 rfl rfl)) ?_;refine ew.later rfl ?_;refine bV (i:=4) aD ?_;refine oZ (cU 0 [_]) [.int .i64 0,.int .i64 0,.string ⟨#[]⟩] [_,_,_] zeroValue36 runUnderlying30 sizeOf36 (fun C0=>?_);refine o8 0 58 3 1 ?_;refine bV (i:=5) aD ?_
  refine rz (ls:=(take (st.length-(cn ops[i].k).toNat) st)) (new:=[(ij l row ops[i] (fT aX ops[i].k st) (fU aX ops[i].k st)).1]) (Sq:=Qz) fX I1 rfl au rfl rfl underlying30 afJ rfl w7 ot Pf (dL (A:=[_,_,_,_,_,_,_,_])) ot bC x7 jk (fun vG vk EX EY=>?_);refine gS (eM (S1:=[⟨vG,36,vk*3,flatMap cV ((take (st.length-(cn ops[i].k).toNat) st)++[(ij l row ops[i] (fT aX ops[i].k st) (fU aX ops[i].k st)).1])⟩]) (A:=[_,_,_,_,_,_,_,_])) ?_;refine gd ?_;refine bL [1,4,6,7,16,17,18] ?_;refine bM [1,4,6,7,16,17,18] ?_;refine⟨((i+1),(st.take (st.length-(cn ops[i].k).toNat)++[(ij l row ops[i] (fT aX ops[i].k st) (fU aX ops[i].k st)).1]),(some ⟨vG,0,none⟩),vk,[⟨vG,36,vk*3,flatMap cV ((take (st.length-(cn ops[i].k).toNat) st)++[(ij l row ops[i] (fT aX ops[i].k st) (fU aX ops[i].k st)).1])⟩]),_,cR,(aL (h:=Kq)),w4,(by rw[vO];omega),kM,(hinv.trans (XP aa hz)),apJ,(bF.cast (cj EX EY) (by rfl)),rfl⟩
 have h1:=We w4 hex;have Fi:0<st.length:=(by omega)
 obtain⟨bh,rfl,Z,O,rfl⟩:=U.pos w4;have aZ:=hinv.trans (Wd w4);have jm:st.getD 0 aX=st[0]:=(by rw[getD_eq_getElem?_getD,getElem?_eq_getElem Fi];rfl)
 rw[jm] at aZ;refine az 1 ?_;refine bS (ny (mk:=Op.indexAddr 30) rfl ot bP (by first|exact qj (j:=0) runUnderlying30 sizeOf36 rfl rV|exact qp (j:=0) runUnderlying30 sizeOf36 rfl rV)) ?_;refine bS (ez (mk:=Op.load 36) rfl ot (dM (k:=4) fX rfl rfl rfl isAgg36 sizeOf36 Fi)) ?_;refine aN 3 [_,_,_] sizeOf36 ?_;refine ap 64 [4,5] ?_;exact aaR
theorem akf(l:List dc)(hl:l.length<=6)(row:List Vl)(O:row.length=l.length)(E:∀v∈row,v.Ok)(ops:List aQ)(gM:∀o∈ops,o.v.Ok)(I:∀o∈ops,o.k=2->0<=bE l o.nm)(hx:jw ops=0):VP Tryz.prog G 147 [aj 2 cC l,aj 3 cV row,aj 5 cO ops] (ph (xZ l row ops)):=by
 refine bA func147 rfl ntmps147 aO fun X0 w0 bz=>?_;obtain⟨U,iU⟩:=zo hx;have gj:=fun br bc=>aiA (G:=G) l hl row O E ops gM I U iU br bc;unfold ph at gj |-;generalize xZ l row ops=q at gj |-;skip;refine cq ?_;refine dm [_] (fun b3=>?_);refine dm [_] (fun b4=>?_);refine cD (ds:=[_,_,_]) au rfl rfl zeroValue36 rfl (fun b6=>?_);refine ap 13 [2,3,4,6] ?_;refine az 1 ?_;refine bS (sM (ds:=[_,_]) rfl ⟨ot,ot,trivial⟩) ?_;refine eH au rfl rfl rfl call175 (gj b4 b3) ⟨ot,ot,trivial⟩ (MS (k:=1) (k':=1) rfl rfl) ?_;rintro _ _ ⟨rfl,rfl⟩;refine aF 2 ?_;refine aN 2 [_,_,_] sizeOf36 ?_;refine ap 13 [6,7] ?_;exact z46
theorem XS(hm:(3,marksC)∈G)(hw:(1,wordsC)∈G)(ht:(0,typesC)∈G)(l:List dc)(hl:l.length<=6)(bf:∀c∈l,c.n.size<=maxLen)(row:List Vl)(U:row.length<=1000)(E:∀v∈row,v.Ok)(ops:List aQ)(ho:∀o∈ops,o.nm.size<=maxLen)(gM:∀o∈ops,o.v.Ok):VP Tryz.prog G 110 [aj 2 cC l,aj 3 cV row,aj 5 cO ops] (ph (gl l row ops)):=by
 refine bA func110 rfl ntmps110 aO fun X0 w0 bz=>?_;have dy:=ee;have O:=I2 hm hw ht l w4 bf row w4;have I:=Iz hm hw ht l hl bf ops ho;unfold qY at I;unfold ph;refine cq ?_;refine cD (ds:=[_,_,_]) au rfl rfl zeroValue36 rfl (fun b6=>?_);refine ap 34 [0,1,2,6] ?_;refine cW [0,1,2,6,8] (O) ?_;refine ax [0,1,2,6,8,15] ?_ ?_<;>intro aP bH
 ·have h0:dV l row≠0:=(by simpa using aP)
  have aZ:gl l row ops=(aX,dV l row):=(by unfold gl;rw[if_pos h0])
  refine az 2 ?_;refine aN 0 [_,_,_] sizeOf36 ?_;refine ap 34 [6,7] ?_;exact kO
 have h0:dV l row=0:=(by simpa using aP)
 refine cW [0,1,2,6,10] (I) ?_;refine ax [0,1,2,6,10,25] ?_ ?_<;>intro bg cM
 ·have h1:(dZ l ops).2≠0:=(by simpa using bg)
  have aZ:gl l row ops=(aX,(dZ l ops).2):=(by unfold gl;rw[if_neg (by simp[h0]),if_pos h1])
  refine az 2 ?_;refine aN 0 [_,_,_] sizeOf36 ?_;refine ap 34 [6,7] ?_;exact kO
 have h1:(dZ l ops).2=0:=(by simpa using bg)
 obtain⟨k1,k2,k3⟩:=IA h1;have aZ:gl l row ops=xZ l row ops:=(by unfold gl;rw[if_neg (by simp[h0]),if_neg (by simp[h1])])
 have k8:=akf (G:=G) l hl row (ND h0) E ops gM (UQ (by rw[<-k3];exact h1)) k2;unfold ph at k8;refine az 3 ?_;refine dK call147 (k8) ?_;refine aF 2 ?_;refine aN 0 [_,_,_] sizeOf36 ?_;refine ap 34 [6,7] ?_;exact tg
end Ex
namespace Pc
open List
open Go.Proofs.Tryz
open Go.RowKit V Pk Vl Go.Proofs.YtihmfhcjbmlnaaaGreatDoor.Nm
variable {G:List (Nat×List Value)}
def cx:List dc:=[⟨⟨#[105,100]⟩,2⟩,⟨⟨#[110]⟩,2⟩,⟨⟨#[115]⟩,3⟩,⟨⟨#[98]⟩,1⟩]
def rK(n:Int):Vl:=if cN n 3=2 then aX else ⟨1,cN n 3,⟨#[]⟩⟩
def dz(n:Int):Vl:=⟨2,n,⟨#[]⟩⟩
theorem Pg:dH ⟨#[105,100]⟩=0:=vP (l:=[105,100]) w7 w7 w7
theorem apK:dH ⟨#[110]⟩=0:=vP (l:=[110]) w7 w7 w7
theorem apL:dH ⟨#[115]⟩=0:=vP (l:=[115]) w7 w7 w7
theorem apM:dH ⟨#[98]⟩=0:=vP (l:=[98]) w7 w7 w7
theorem D3:gG cx=0:=by
 simp[gG,cx,um,pF,Pg,apK,apL,apM,zf]
theorem W0:∀c∈cx,c.n.size<=maxLen:=fun c hc=>by
 have h:c.n.size<=2:=by
  simp only[cx,mem_cons,not_mem_nil,or_false] at hc;rcases hc with rfl|rfl|rfl|rfl
  ·exact Nat.le_refl 2
  ·exact Nat.le_succ 1
  ·exact Nat.le_succ 1
  exact Nat.le_succ 1
 exact Nat.le_trans h w7
theorem BZ(n:Int):bW (dz n)=0:=by
 unfold bW;rw[if_neg (show ¬(dz n).k=0 by show ¬(2:Int)=0;decide),if_neg (show ¬(dz n).k=1 by show ¬(2:Int)=1;decide),if_pos (show(dz n).k=2 from rfl),if_neg (fun h=>h rfl)]
theorem Jr:bW aX=0:=by decide
theorem UR:VP Tryz.prog G 21 [] (aj 2 cC cx):=by
 refine bA func21 rfl ntmps21 aO fun X0 w0 bz=>?_;refine ay [] ?_;refine az 4 ?_;refine eR (cU 0 [_,_,_,_]) [.string ⟨#[]⟩,.int .i64 0,.string ⟨#[]⟩,.int .i64 0,.string ⟨#[]⟩,.int .i64 0,.string ⟨#[]⟩,.int .i64 0] [_,_,_,_,_,_,_,_] zeroValue109 runUnderlying29 sizeOf109 (fun b5=>?_);refine cg (eM (S1:=[⟨b5,109,4*2,flatMap cC ([⟨⟨#[105,100]⟩,2⟩,⟨⟨#[110]⟩,2⟩,⟨⟨#[115]⟩,3⟩,⟨⟨#[98]⟩,1⟩])⟩]) (A:=[])) ?_;refine ap 6 [0] ?_;refine mS (t:=0) (Sq:=[⟨b5,109,4*2,flatMap cC ([⟨⟨#[105,100]⟩,2⟩,⟨⟨#[110]⟩,2⟩,⟨⟨#[115]⟩,3⟩,⟨⟨#[98]⟩,1⟩])⟩]) lk (cj (g:=cC) (sz:=2) (e:=109) (ls:=[⟨⟨#[105,100]⟩,2⟩,⟨⟨#[110]⟩,2⟩,⟨⟨#[115]⟩,3⟩,⟨⟨#[98]⟩,1⟩]) (Nat.le_refl _) (show 4<=maxLen by decide)) (dg mV _) (dL (A:=[])) ?_;exact z46
end Pc
namespace Ex
open List
open Go.Proofs.Tryz
open Go.RowKit V Pk Vl Go.Proofs.YtihmfhcjbmlnaaaGreatDoor.Nm Pc
variable {k:Int} {a b:Vl} {l:List dc} {row:List Vl} {o:aQ} {α:Type} {ks:List Int}
theorem LN(b:Bool):bW (sS b)=0:=by cases b<;>decide
theorem agI(n:Int):bW ⟨2,n,⟨#[]⟩⟩=0:=BZ n
theorem IB(h:¬(k=8\/k=9\/k=10)):wG k=1:=if_neg h
theorem akg(h:k=8\/k=9\/k=10):wG k=2:=if_pos h
theorem MW(b:Bool):(sS b).k=1:=by cases b<;>rfl
theorem HE{v:Vl}(h:jj v=0):bW v=0:=by
 unfold jj at h;split at h
 ·cases h
 exact h
def lE(k:Int)(v:Vl):Prop:=bW v=0/\(v.k=k\/v.k=0)
theorem Eu:lE 0 aX:=⟨Jr,.inl rfl⟩
structure Ck (l:List dc) (o:aQ):Prop where
 nm:o.nm.size<=maxLen
 ok:o.v.Ok
 ck:bW o.v=0
 k1:1<=o.k
 k2:o.k<=11
 col:o.k=2->0<=bE l o.nm
def Js(l:List dc)(row:List Vl):Prop:=∀i:Nat,lE (l.getD i ⟨⟨#[]⟩,0⟩).k (row.getD i aX)
theorem Cl{a b:Int}(h:uM a b=true):a=b\/a=0:=by
 unfold uM at h;simpa using h
theorem afK{d:Int}(ha:bW a=0)(hb:bW b=0)(h1:a.k=1\/a.k=0)(h2:b.k=1\/b.k=0):(mX a b d).2=0/\lE 1 (mX a b d).1:=by
 unfold mX;rw[if_neg w4];split
 ·exact⟨rfl,ha,h1⟩
 split
 ·exact⟨rfl,hb,h2⟩
 split
 ·exact⟨rfl,Jr,.inr rfl⟩
 exact⟨rfl,ha,h1⟩
theorem akh(ha:bW a=0)(hb:bW b=0):Cd.oP a b=0:=by unfold Cd.oP;rw[ha,hb];rfl
theorem agJ(h:Cd.oP a b=0)(hk:k=3\/k=4):∃d,jy k a b=mX a b d:=by
 unfold jy;rw[if_neg (by simp[h])];rcases hk with rfl|rfl
 ·exact⟨0,if_pos rfl⟩
 exact⟨1,by rw[if_neg w7,if_pos rfl]⟩
theorem aiB(h:Cd.oP a b=0)(hk:k=6\/k=7):jy k a b=if uq a b=true then (aX,0) else if a.k≠b.k then (aX,4) else (sS ((Cd.fh a b==0&&k==6)||(decide (Cd.fh a b<0)&&k==7)),0):=by
 unfold jy;rw[if_neg (by simp[h]),if_neg w4,if_neg w4,if_pos hk]
theorem agK(hr:Js l row)(ho:Ck l o){a b:Int}{E vb:Vl}(ha:lE a E)(hb:lE b vb)(h:(gk l o a b).2=0) :
  (ij l row o E vb).2=5\/((ij l row o E vb).2=0/\lE (gk l o a b).1 (ij l row o E vb).1):=by
 have k1:=ho.k1;have k2:=ho.k2;obtain⟨ca,ka⟩:=ha;obtain⟨cb,kb⟩:=hb;have O:=akh ca cb;unfold gk at h |-;by_cases e1:o.k=1
 ·rw[if_pos e1];have:ij l row o E vb=(o.v,0):=(by unfold ij cn;rw[if_neg w4,if_neg (by rw[if_pos (.inl e1)];omega),if_neg w4]<;>(try rw[if_pos (.inl e1)];omega))
  rw[this];exact .inr ⟨rfl,ho.ck,.inl rfl⟩
 rw[if_neg e1] at h |-;by_cases e2:o.k=2
 ·rw[if_pos e2] at h |-;have hp:cn o.k=0:=(by unfold cn;rw[if_pos (.inr e2)])
  have hc:=ho.col e2;have:ij l row o E vb=(row.getD (bE l o.nm).toNat aX,0):=(by unfold ij;rw[if_neg w4,if_neg w4,if_pos e2])
  rw[this];unfold u4;rw[if_neg w4];exact .inr ⟨rfl,hr _⟩
 rw[if_neg e2] at h |-;have bf:okF o.k a b=true:=by
  by_cases hk:okF o.k a b=true
  ·exact hk
  rw[if_neg hk] at h;cases h
 rw[if_pos bf];unfold okF at bf;by_cases I:o.k=5\/o.k=11
 ·have hp:cn o.k=1:=(by unfold cn;rw[if_neg w4,if_pos I])
  have he:ij l row o E vb=wI o.k E:=(by unfold ij;rw[if_pos hp])
  rw[he];unfold wI;rw[if_neg (by simp[ca])];rcases I with I|I
  ·have U:¬(o.k=3\/o.k=4):=(by omega)
   have Z:¬o.k=11:=(by omega)
   rw[if_neg U,if_pos I] at bf;have hi:=Cl bf;rw[if_neg Z,if_pos I,IB w4];by_cases z:E.k=0
   ·rw[if_pos z];exact .inr ⟨rfl,ca,.inr z⟩
   rw[if_neg z,if_pos w4];exact .inr ⟨rfl,LN _,.inl (MW _)⟩
  rw[if_pos I,IB w4];exact .inr ⟨rfl,LN _,.inl (MW _)⟩
 have hp:cn o.k=2:=(by unfold cn;rw[if_neg w4,if_neg I])
 have he:ij l row o E vb=jy o.k E vb:=(by unfold ij;rw[if_neg w4,if_pos hp])
 rw[he];by_cases e3:o.k=3\/o.k=4
 ·rw[if_pos e3,Bool.and_eq_true] at bf;have i1:=Cl bf.1;have i2:=Cl bf.2;obtain⟨d,hd⟩:=agJ O e3;rw[hd,IB w4];exact .inr (afK ca cb w4 w4)
 have n5:¬o.k=5:=(by omega)
 rw[if_neg e3,if_neg n5] at bf;by_cases e6:o.k=6\/o.k=7
 ·rw[if_pos e6,Bool.or_eq_true] at bf;rw[aiB O e6,IB w4];by_cases hn:uq E vb=true
  ·rw[if_pos hn];exact .inr ⟨rfl,Jr,.inr rfl⟩
  rw[if_neg hn];unfold uq at hn;simp only[Bool.or_eq_true,beq_iff_eq,not_or] at hn;have nP:E.k=vb.k:=by
   rcases bf with bf|bf
   ·have:=Cl bf;omega
   have:b=0:=(by simpa using bf)
   omega
  rw[if_neg (by simpa using nP)];exact .inr ⟨rfl,LN _,.inl (MW _)⟩
 have e8:o.k=8\/o.k=9\/o.k=10:=(by omega)
 rw[if_neg e6,if_pos e8,Bool.and_eq_true] at bf;have i1:=Cl bf.1;have i2:=Cl bf.2;rw[UO O e8 w4,akg e8];split
 ·exact .inr ⟨rfl,Jr,.inr rfl⟩
 split
 ·exact .inr ⟨rfl,agI _,.inl rfl⟩
 exact .inl rfl
theorem Ef{z:α}{f:aQ->α->α->α × Int}{r:List aQ}{st:List α}(h:(f o (fT z o.k st) (fU z o.k st)).2=0):jH z f (o::r) st=jH z f r (st.take (st.length-(cn o.k).toNat)++[(f o (fT z o.k st) (fU z o.k st)).1]):=by
 rw[jH,if_neg (by rw[h];simp)]
theorem MX{z:α}{f:aQ->α->α->α × Int}{r:List aQ}{st:List α}(h:(f o (fT z o.k st) (fU z o.k st)).2≠0):jH z f (o::r) st=(z,(f o (fT z o.k st) (fU z o.k st)).2):=by
 rw[jH,if_pos h]
def Fj(ks:List Int)(vs:List Vl):Prop:=ks.length=vs.length/\∀i:Nat,lE (ks.getD i 0) (vs.getD i aX)
theorem Wh(z x:α)(l:List α)(n i:Nat)(hn:n<=l.length):(l.take n++[x]).getD i z=if i<n then l.getD i z else if i=n then x else z:=by
 have hl:(l.take n).length=n:=(by rw[length_take];omega)
 by_cases h1:i<n
 ·rw[if_pos h1,getD_eq_getElem?_getD,getD_eq_getElem?_getD,getElem?_append_left w4,getElem?_take,if_pos h1]
 rw[if_neg h1,getD_eq_getElem?_getD,getElem?_append_right w4,hl];by_cases h2:i=n
 ·rw[if_pos h2,h2,Nat.sub_self];rfl
 rw[if_neg h2,getElem?_eq_none (by rw[length_singleton];omega)];rfl
theorem aki{vs:List Vl}(h:Fj ks vs){v:Vl}(hr:lE k v){n:Nat}(hn:n<=ks.length):Fj (ks.take n++[k]) (vs.take n++[v]):=by
 have hl:=h.1;refine⟨by simp only[length_append,length_take,length_singleton];omega,fun i=>?_⟩;rw[Wh _ _ _ _ _ hn,Wh _ _ _ _ _ w4];split
 ·exact h.2 i
 split
 ·exact hr
 exact Eu
theorem akj{vs:List Vl}(h:Fj ks vs)(k:Int):lE (fT 0 k ks) (fT aX k vs)/\lE (fU 0 k ks) (fU aX k vs):=by
 have hl:=h.1;unfold fT fU;rw[hl];refine⟨?_,?_⟩
 ·split
  ·exact h.2 _
  exact Eu
 split
 ·exact h.2 _
 exact Eu
theorem US{l:List dc}{row:List Vl}(hr:Js l row):∀(ops:List aQ),(∀o∈ops,Ck l o)->∀(ks:List Int) (vs:List Vl),Fj ks vs->(jH 0 (gk l) ops ks).2=0 ->
  (jH aX (ij l row) ops vs).2=5\/((jH aX (ij l row) ops vs).2=0/\lE (jH 0 (gk l) ops ks).1 (jH aX (ij l row) ops vs).1)
 | [],_,ks,vs,h,_=>.inr ⟨rfl,h.2 0⟩
 | o::r,hg,ks,vs,h,h0=>by
  obtain⟨hA,hB⟩:=akj h o.k;by_cases hm:(gk l o (fT 0 o.k ks) (fU 0 o.k ks)).2=0
  ·rw[Ef hm] at h0 |-;rcases agK hr (hg o mem_cons_self) hA hB hm with h5|⟨hz,E⟩
   ·rw[MX (by rw[h5];decide)];exact .inl h5
   rw[Ef hz];have:=aki h E (n:=ks.length-(cn o.k).toNat) (Nat.sub_le _ _);rw[show vs.length-(cn o.k).toNat=ks.length-(cn o.k).toNat by rw[h.1]];exact US hr r (fun x hx=>hg x (mem_cons_of_mem _ hx)) _ _ this h0
  rw[MX hm] at h0;exact absurd h0 hm
theorem aiC(ho:Ck l o)(a b:Int):(gk l o a b).2=0\/(gk l o a b).2=4:=by
 unfold gk;split
 ·exact .inl rfl
 split
 ·rename_i h2;have:=ho.col h2;unfold u4;rw[if_neg w4];exact .inl rfl
 split
 ·exact .inl rfl
 exact .inr rfl
theorem Wi{l:List dc}:∀(ops:List aQ),(∀o∈ops,Ck l o)->∀ks,(jH 0 (gk l) ops ks).2=0\/(jH 0 (gk l) ops ks).2=4
 | [],_,ks=>.inl rfl
 | o::r,hg,ks=>by
  rw[jH];split
  ·rename_i hne;rcases aiC (hg o mem_cons_self) (fT 0 o.k ks) (fU 0 o.k ks) with h|h
   ·exact absurd h hne
   exact .inr h
  exact Wi r (fun x hx=>hg x (mem_cons_of_mem _ hx)) _
theorem akk:Fj [] []:=⟨rfl,fun i=>by rw[getD_nil,getD_nil];exact Eu⟩
theorem agL{ops:List aQ}(hl:gG l=0)(hw:dV l row=0)(hr:Js l row)(hg:∀o∈ops,Ck l o)(hx:jw ops=0) :
  dZ l ops=rM l ops/\((dZ l ops).2=0\/(dZ l ops).2=4)/\((dZ l ops).2=4->gl l row ops=(aX,4)) /\
  ((dZ l ops).2=0->gl l row ops=xZ l row ops/\((gl l row ops).2=5\/((gl l row ops).2=0/\lE (dZ l ops).1 (gl l row ops).1))):=by
 have hk:dZ l ops=rM l ops:=(by unfold dZ;rw[if_neg (by simp[hl]),if_neg (by simp[hx])])
 refine⟨hk,by rw[hk];exact Wi ops hg [],fun h4=>?_,fun h0=>?_⟩
 ·unfold gl;rw[if_neg (by simp[hw]),if_pos vg,h4]
 have he:gl l row ops=xZ l row ops:=(by unfold gl;rw[if_neg (by simp[hw]),if_neg (by simp[h0])])
 refine⟨he,?_⟩;rw[he,hk];exact US hr ops hg [] [] akk (by rw[hk] at h0;exact h0)
end Ex
namespace Pc
open List
open Go.Proofs.Tryz
open Go.RowKit V Pk Vl Go.Proofs.YtihmfhcjbmlnaaaGreatDoor.Nm
def typesB:List (List UInt8):=[[],[66,79,79,76],[73,78,84],[84,69,88,84]]
abbrev TypesTab(w:World):Prop:=Tab.lS w 0 typesC
end Pc
namespace Ex
open List
open Go.Proofs.Tryz
open Go.RowKit V Pk Vl Go.Proofs.YtihmfhcjbmlnaaaGreatDoor.Nm Pc Cd
open Go.Lib (compareBytes)
variable {ops:List aQ} {k:List UInt8}
def kx(ops:List aQ)(i:Nat):Int:=(ops.getD i (fI 0)).k
def jP(ops:List aQ):Nat->Int->Nat
 | 0,_=>0
 | i+1,need=>if need+(cn (kx ops i)-1)>0 then jP ops i (need+(cn (kx ops i)-1)) else i
theorem xM{i:Nat}(h:i<ops.length):kx ops i=ops[i].k:=by unfold kx;rw[getD_eq_getElem?_getD,getElem?_eq_getElem h];rfl
theorem YZ{h h':Int}{o:aQ}(he:ga h o=0)(hp:cn o.k<=h'):ga h' o=0:=by
 unfold ga at he |-;split at he
 ·cases he
 rename_i q1;rw[if_neg q1];split at he
 ·rename_i h2;exact absurd he h2
 rename_i q2;rw[if_neg q2];split at he
 ·cases he
 rename_i q3;rw[if_neg q3];split at he
 ·rename_i h4;exact absurd he h4.2
 rename_i E;rw[if_neg E,if_neg w4]
theorem Mp{n:Nat}{h:Int}(hn:n<ops.length)(e:runs 0 (ops.take (n+1))=some h):∃h',runs 0 (ops.take n)=some h'/\ga h' ops[n]=0/\h=h'+(1-cn ops[n].k):=by
 rw[take_succ_eq_append_getElem hn,Bm] at e;cases hr:runs 0 (ops.take n) with
 | none=>rw[hr] at e;cases e
 | some h' =>
  rw[hr,Option.bind_some,runs] at e;split at e
  ·rename_i he;rw[runs] at e;cases e;exact⟨h',rfl,he,rfl⟩
  cases e
theorem Wj{ops:List aQ}:∀(n:Nat) (need h:Int),n<=ops.length->runs 0 (ops.take n)=some h->1<=need->need<=h ->
  jP ops n need<n/\runs 0 (ops.take (jP ops n need))=some (h-need)/\∀k:Int,0<=k->runs k ((ops.take n).drop (jP ops n need))=some (k+need)
 | 0,need,h,_,e,h1,h2=>by rw[List.take_zero,runs] at e;cases e;omega
 | n+1,need,h,hn,e,h1,h2=>by
  have aa:n<ops.length:=(by omega)
  obtain⟨h',e1,e2,O⟩:=Mp aa e;have I:=wc ops[n].k;have uH:=(zh e2).1;have E:∀m,m<=n->(ops.take (n+1)).drop m=(ops.take n).drop m++[ops[n]]:=fun m hm=>by
   rw[take_succ_eq_append_getElem aa,drop_append,show m-(ops.take n).length=0 by rw[length_take];omega,drop_zero]
  rw[jP,xM aa];by_cases hc:need+(cn ops[n].k-1)>0
  ·rw[if_pos hc];obtain⟨q1,q2,q3⟩:=Wj n (need+(cn ops[n].k-1)) h' w4 e1 w4 w4;refine⟨by omega,by rw[q2];congr 1;omega,fun k hk=>?_⟩;rw[E _ w4,Bm,q3 k hk,Option.bind_some,runs,if_pos (YZ e2 w4),runs];congr 1;omega
  rw[if_neg hc];refine⟨by omega,by rw[e1];congr 1;omega,fun k hk=>?_⟩;rw[E n (Nat.le_refl _),drop_of_length_le qD,nil_append,runs,if_pos (YZ e2 w4),runs];congr 1;omega
def lQ(key:ByteArray)(o:aQ):Bool:=o.k==2&&o.nm.toList==key.toList
def gU(o:aQ):Bool:=o.k==1 && !(o.v.k==0)
abbrev lY:=List UInt8×List UInt8
variable {b:lY}
def pE(k:List UInt8)(b:lY):lY:=if compareBytes k b.1>0 then (k,b.2) else b
def sW(k:List UInt8)(b:lY):lY:=if b.2.length=0\/compareBytes k b.2<0 then (b.1,k) else b
def pC(kc:Int)(eq not:Bool)(k:List UInt8)(b:lY):lY :=
 bif eq||(kc==0)!=not then sW k (bif eq||(kc==0)==not then pE k b else b) else bif eq||(kc==0)==not then pE k b else b
def Ab(ops:List aQ):List UInt8:=(fS [(ops.getD (dD gU (ops.take 2)).toNat (fI 0)).v]).1
def kY(key:ByteArray)(ops:List aQ)(not:Bool)(b:lY):lY :=
 if ops.length≠3\/(not=true/\kx ops (ops.length-1)≠7)\/(kx ops (ops.length-1)≠6/\kx ops (ops.length-1)≠7) then b
 else if dD (lQ key) (ops.take 2)<0\/dD gU (ops.take 2)<0 then b
 else pC (dD (lQ key) (ops.take 2)) (kx ops (ops.length-1)==6) not (Ab ops) b
def gI(key:ByteArray):Nat->List aQ->lY->lY
 | 0,_,b=>b
 | f+1,ops,b =>
  if kx ops (ops.length-1)=3 then gI key f ((ops.take (ops.length-1)).drop (jP ops (ops.length-1) 1)) (gI key f (ops.take (jP ops (ops.length-1) 1)) b)
  else if kx ops (ops.length-1)=5 then kY key (ops.take (ops.length-1)) true b
  else kY key ops false b
variable {G:List (Nat×List Value)} {m:Int}
theorem agM(ops:List aQ)(sC:ops.length<=40)(n:Nat)(hn:n<=ops.length)(h:Int)(hr:runs 0 (ops.take n)=some h)(h1:1<=h):VP Tryz.prog G 89 [aj 5 cO ops,ae (n:Nat)] (ae (jP ops n 1:Nat)):=by
 refine bA func89 rfl ntmps89 aO fun X0 w0 bz=>?_;refine ay [0,1] ?_;refine ay [0,5] ?_;refine ay [0,5,6] ?_;refine eZ [0] (fun aU _ (aR:Nat×Int) aE=>match aR with|(i,need)=>(i<=n)/\(0<=need)/\(need<=1+2*((n:Int)-i))/\((need=0/\jP ops n 1=i)\/(1<=need/\jP ops n 1=jP ops i need/\∃h,runs 0 (ops.take i)=some h/\need<=h))/\aE=(⟨22,(5,ae (i:Nat))::(6,ae need)::aU,[]⟩:St)) (fun (aR:Nat×Int)=>match aR with|(i,need)=>i) (n,1) ⟨(Nat.le_refl _),w7,w4,(.inr ⟨by decide,rfl,h,hr,h1⟩),rfl⟩ ?_;rintro⟨i,need⟩ _ ⟨hi,iV,hnb,hinv,rfl⟩;refine ax [0,5,6,9] ?_ ?_<;>intro aP bH
 ·obtain⟨hz,_⟩|⟨dQ,E,h2,e1,e2⟩:=hinv
  ·omega
  have SH:0<i:=(by rcases Nat.eq_zero_or_pos i with rfl|h;rw[List.take_zero,runs] at e1;cases e1;omega;exact h)
  have I:-9223372036854775808<=((i-1:Nat):Int):=(by omega)
  have O:((i-1:Nat):Int)<=9223372036854775807:=(by omega)
  have Z:(i:Int)-1=((i-1:Nat):Int):=(by omega)
  have aa:i-1<ops.length:=(by omega)
  have Gk:=wc ops[i-1].k;obtain⟨h3,e3,e4,e5⟩:=Mp aa (by rw[show i-1+1=i by omega];exact e1);have uH:=(zh e4).1;have U:jP ops i need=if need+(cn ops[i-1].k-1)>0 then jP ops (i-1) (need+(cn ops[i-1].k-1)) else i-1:=by obtain⟨j,rfl⟩:∃j,i=j+1:=⟨i-1,by omega⟩;rw[jP,xM w4];rfl
  have kM:(need+(cn ops[i-1].k-1)=0/\jP ops n 1=i-1)\/(1<=need+(cn ops[i-1].k-1)/\jP ops n 1=jP ops (i-1) (need+(cn ops[i-1].k-1))/\∃h,runs 0 (ops.take (i-1))=some h/\need+(cn ops[i-1].k-1)<=h):=(by (by_cases hc:need+(cn ops[i-1].k-1)>0);exact .inr ⟨by omega,by rw[E,U,if_pos hc],h3,e3,by omega⟩;exact .inl ⟨by omega,by rw[E,U,if_neg hc]⟩)
  refine cJ [0,5,6] ?_;refine aM 1 ?_ (h:=by exact(eE rfl ot bP (je (r:=((i-1:Nat):Int)) (by rw[Z];exact wrap_i64 I O))));refine bB ?_;refine fW [0,5,6] ?_;refine cA (H8 ops[i-1].k) ?_;refine bB ?_;refine⟨((i-1),(need+(cn ops[i-1].k-1))),_,cR,aL,w4,w4,w4,kM,rfl⟩
 have aZ:jP ops n 1=i:=(by rcases hinv with ⟨_,h⟩|⟨h,_⟩;exact h;omega)
 refine ay [4] ?_;exact tg
theorem UT(ls:List aQ)(g:Nat)(E:List D)(S:List ag)(p:aQ->Bool)(fY:∀args w,(callFunc g args).run Tryz.prog w = .ok (.enter g args) w)(hp:∀x∈ls,VC Tryz.prog G g (.agg (cO x)::E) S (fun r S'=>r=aW (p x)/\S'=S))(hlen:ls.length<=1000000):VC Tryz.prog G 90 [aj 5 cO ls,.fg (.func g) E] S (fun r S'=>r=ae (dD p ls)/\S'=S):=by
 refine bA func90 rfl ntmps90 aO fun X0 w0 bz=>?_;unfold cO at hp;exact z14
theorem agN(o:aQ)(nm:ByteArray)(b:Nat):VC Tryz.prog G 91 [.agg (cO o),dw b] [⟨b,9,1,[aG nm]⟩] (fun r S=>r=aW (lQ nm o)/\S=[⟨b,9,1,[aG nm]⟩]):=by
 refine bA func91 rfl ntmps91 aO fun X0 w0 bz=>?_;unfold cO lQ;refine cq ?_;refine dm [_,_,_,_,_] (fun b2=>?_);refine ap 13 [1,2] ?_;refine az 4 ?_;refine cz 7 (fun I E=>?_) (fun I E=>?_)
 ·refine bL [3] ?_;refine eD [⟨b,9,1,[aG nm]⟩] ?_;first|exact⟨rfl,rfl⟩|(refine⟨vb ?_,rfl⟩;simp_all)
 refine bL [3] ?_;refine eD [⟨b,9,1,[aG nm]⟩] ?_;first|exact⟨rfl,rfl⟩|(refine⟨vb ?_,rfl⟩;simp_all)
theorem agO(o:aQ):VC Tryz.prog G 92 [.agg (cO o)] [] (fun r S=>r=aW (gU o)/\S=[]):=by
 refine bA func92 rfl ntmps92 aO fun X0 w0 bz=>?_;unfold cO gU;refine cq ?_;refine dm [_,_,_,_,_] (fun b1=>?_);refine ap 12 [1] ?_;refine az 4 ?_;refine cz 6 (fun I E=>?_) (fun I E=>?_)
 ·refine bL [2] ?_;refine fJ ?_;first|exact⟨rfl,rfl⟩|(refine⟨vb ?_,rfl⟩;simp_all;done)|(refine⟨vb ?_,rfl⟩;simp_all;rfl)
 refine bL [2] ?_;refine fJ ?_;first|exact⟨rfl,rfl⟩|(refine⟨vb ?_,rfl⟩;simp_all;done)|(refine⟨vb ?_,rfl⟩;simp_all;rfl)
theorem W8(a b:List UInt8):VP Tryz.prog G 61 [aj 1 cB a,aj 1 cB b] (ae (compareBytes a b)):=by
 exact z173
theorem agP:(Tryz.prog.info? 5).map (fun i=>(i.zero,i.size,i.bytes))=some (some (.int .u8 0),1,1):=by kernel_rfl
theorem MO(a:List UInt8)(ha:a.length<=1000):VP Tryz.prog G 93 [aj 1 cB a] (aj 1 cB a):=by
 refine bA func93 rfl ntmps93 aO fun X0 w0 bz=>?_;have dy:=ee;refine ay [0] ?_;refine az 1 ?_;refine Bx au rfl rfl ot bP underlying83 (fun O AA=>?_);refine ap 8 [0,4] ?_;refine bX ?_ ?_<;>intro aP bH
 ·exact aaK
 refine cq ?_;refine By au rfl rfl runUnderlying83 sizeOf5 (fun b5=>?_);refine aF 1 ?_;refine tN (ls:=([]:List UInt8)) (new:=a) (Sq:=[⟨b5,5,0*1,[]⟩]) qS zz au rfl rfl underlying83 agP rfl w7 runUnderlying83 sizeOf5 ot (.inr ⟨b5,rfl,Nat.le_refl _,Nat.zero_le _,rfl⟩) (dL (A:=[])) ot jk jk (fun E I S7 sg=>?_);exact aa1
theorem Iv(l:List Vl):(fS l).1.length<=100:=by
 unfold fS;split
 ·simp
 split
 ·simp
 split
 ·simp
 simpa using by omega
theorem akl(hk:k.length<=100)(h1:b.1.length<=100)(h2:b.2.length<=100):(pE k b).1.length<=100/\(pE k b).2.length<=100:=by unfold pE;split<;>exact⟨by assumption,by assumption⟩
theorem Wl(hk:k.length<=100)(h1:b.1.length<=100)(h2:b.2.length<=100):(sW k b).1.length<=100/\(sW k b).2.length<=100:=by unfold sW;split<;>exact⟨by assumption,by assumption⟩
theorem akm{kc:Int}{eq not:Bool}(hk:k.length<=100)(h1:b.1.length<=100)(h2:b.2.length<=100):(pC kc eq not k b).1.length<=100/\(pC kc eq not k b).2.length<=100:=by
 unfold pC;have q1:=akl hk h1 h2;have q2:=Wl hk h1 h2;have q3:=Wl hk q1.1 q1.2;cases(eq||(kc==0)!=not)<;>cases(eq||(kc==0)==not)
 ·exact⟨h1,h2⟩
 ·exact q1
 ·exact q2
 exact q3
theorem BC{key:ByteArray}{not:Bool}(h1:b.1.length<=100)(h2:b.2.length<=100):(kY key ops not b).1.length<=100/\(kY key ops not b).2.length<=100:=by
 unfold kY;split
 ·exact⟨h1,h2⟩
 split
 ·exact⟨h1,h2⟩
 exact akm (Iv _) h1 h2
theorem NR(key:ByteArray):∀(f:Nat) (ops:List aQ) (b:lY),b.1.length<=100->b.2.length<=100->(gI key f ops b).1.length<=100/\(gI key f ops b).2.length<=100
 | 0,_,b,h1,h2=>⟨h1,h2⟩
 | f+1,ops,b,h1,h2=>by
  rw[gI];split
  ·have q:=NR key f (ops.take (jP ops (ops.length-1) 1)) b h1 h2;exact NR key f _ _ q.1 q.2
  split
  ·exact BC h1 h2
  exact BC h1 h2
theorem H9(h:runs 0 ops=some 1):1<=ops.length:=by
 cases ops with
 | nil=>rw[runs] at h;cases h
 | cons=>simp
theorem Wm(h:runs 0 ops=some 1):∃(hn:ops.length-1<ops.length),runs 0 (ops.take (ops.length-1))=some (cn ops[ops.length-1].k):=by
 have hp:=H9 h;have aa:ops.length-1<ops.length:=(by omega)
 refine⟨aa,?_⟩;obtain⟨h',e1,e2,E⟩:=Mp aa (by rw[show ops.length-1+1=ops.length by omega,take_length];exact h);rw[e1];congr 1;omega
theorem akn(h:runs 0 ops=some 1)(hk:kx ops (ops.length-1)=3):jP ops (ops.length-1) 1<ops.length-1/\runs 0 (ops.take (jP ops (ops.length-1) 1))=some 1/\runs 0 ((ops.take (ops.length-1)).drop (jP ops (ops.length-1) 1))=some 1/\runs 0 (ops.take (ops.length-1))=some 2:=by
 obtain⟨hn,e⟩:=Wm h;rw[xM hn] at hk;rw[hk] at e;obtain⟨q1,q2,q3⟩:=Wj (ops.length-1) 1 2 w4 e w7 w7;exact⟨q1,q2,q3 0 w7,e⟩
variable {key:ByteArray}
theorem alT{ls:List aQ}{j:Nat}(h:j<ls.length):((ls.flatMap cO).drop (j*5+1)).take 3=cV ls[j].v:=by
 rw[<-drop_drop,xF mU,drop_eq_getElem_cons h,flatMap_cons];rfl
theorem aiD(hG:(2,[Value.int .i64 m])∈G)(key:ByteArray)(f:Nat)(hf:f<=40)(IH:∀(ops:List aQ) (lo hi:List UInt8),ops.length<=f->runs 0 ops=some 1->(∀o∈ops,o.v.Ok)->lo.length<=100->hi.length<=100->∀b0,VC Tryz.prog G 51 [dw b0,aG key,aj 5 cO ops] [⟨b0,118,2,[aj 1 cB lo,aj 1 cB hi]⟩] (fun r S=>r = .dF []/\S=[⟨b0,118,2,[.list 1 ((gI key f ops (lo,hi)).1.flatMap cB) (gI key f ops (lo,hi)).1.length,.list 1 ((gI key f ops (lo,hi)).2.flatMap cB) (gI key f ops (lo,hi)).2.length]⟩]))(ops:List aQ)(lo hi:List UInt8)(hl:ops.length<=f+1)(sC:ops.length<=40)(hr:runs 0 ops=some 1)(bf:∀o∈ops,o.v.Ok)(fA:lo.length<=100)(fk:hi.length<=100)(b0:Nat):VC Tryz.prog G 51 [dw b0,aG key,aj 5 cO ops] [⟨b0,118,2,[aj 1 cB lo,aj 1 cB hi]⟩] (fun r S=>r = .dF []/\S=[⟨b0,118,2,[.list 1 ((gI key (f+1) ops (lo,hi)).1.flatMap cB) (gI key (f+1) ops (lo,hi)).1.length,.list 1 ((gI key (f+1) ops (lo,hi)).2.flatMap cB) (gI key (f+1) ops (lo,hi)).2.length]⟩]):=by
 refine bA func51 rfl ntmps51 aO fun X0 w0 bz=>?_;have hp0:=H9 hr;obtain⟨dQ,hre⟩:=Wm hr;have I:=xM dQ;have dy:=ee;have Gk:=wc ops[ops.length-1].k;refine cq ?_;refine dm [_] (fun b4=>?_);refine ap 155 [0,2,4] ?_;refine cJ [0,2,4,6] ?_;refine aM 2 ?_ (h:=by exact(eE rfl ot bP (je (r:=((ops.length-1:Nat):Int)) (by rw[show((ops.length:Nat):Int)-1=((ops.length-1:Nat):Int) by omega];exact wrap_i64 w4 w4))));refine bB ?_;refine ax [0,2,4,6,22] ?_ ?_<;>intro aP bH
 ·have gX:kx ops (ops.length-1)=3:=(by rw[I];omega)
  obtain⟨tH,hm2,hm3,hm4⟩:=akn hr gX;have aZ:(gI key (f+1) ops (lo,hi))=gI key f ((ops.take (ops.length-1)).drop (jP ops (ops.length-1) 1)) (gI key f (ops.take (jP ops (ops.length-1) 1)) (lo,hi)):=(by rw[gI,if_pos gX])
  have Gu:=NR key f (ops.take (jP ops (ops.length-1) 1)) (lo,hi) fA fk;refine cW [0,2,4,6,7] (agM ops w4 (ops.length-1) w4 2 hm4 w7) ?_;refine cL ?_;refine nj 5 [0,2,4,6,7,26,27,30] ?_;refine aM 4 ?_ (h:=by exact(fw (l:=0) rfl ot trivial ⟨_,ot⟩ Kt));refine kN ?_;refine eH au rfl rfl rfl call51 (IH (ops.take (jP ops (ops.length-1) 1)) (lo) (hi) (by simp only[length_drop,length_take];omega) hm2 (fun o ho=>bf o (mem_of_mem_take ho)) w4 w4 b0) ⟨ot,ot,ot,trivial⟩ (nA (k:=1) rfl) ?_;rintro _ _ ⟨rfl,rfl⟩;refine ap 155 [0,2,4,6,7] ?_;refine cL ?_;refine nj 6 [32,33,37] ?_;refine aM 5 ?_ (h:=by exact(fw (l:=(jP ops (ops.length-1) 1)) (h:=(ops.length-1)) rfl ot ⟨_,ot⟩ ⟨_,ot⟩ (alG mU (fun h=>by cases h) (fun h=>by cases h) runUnderlying32 sizeOf38 w4 w4)));refine kN ?_;refine eH au rfl rfl rfl call51 (IH ((ops.take (ops.length-1)).drop (jP ops (ops.length-1) 1)) ((gI key f (ops.take (jP ops (ops.length-1) 1)) (lo,hi)).1) ((gI key f (ops.take (jP ops (ops.length-1) 1)) (lo,hi)).2) (by simp only[length_drop,length_take];omega) hm3 (fun o ho=>bf o (mem_of_mem_take (mem_of_mem_drop ho))) w4 w4 b0) ⟨ot,ot,ot,trivial⟩ (nA (k:=0) rfl) ?_;rintro _ _ ⟨rfl,rfl⟩;refine ap 155 [] ?_;exact z50
 have gX:¬kx ops (ops.length-1)=3:=(by rw[I];omega)
 refine ay [0,2,4,6,8] ?_;refine ue (fun aE=>∃(bK:List aQ),∃(nt:Bool),((gI key (f+1) ops (lo,hi))=kY key bK nt (lo,hi))/\(1<=bK.length)/\(bK.length<=40)/\(∀o∈bK,o.v.Ok)/\(bK.length-1<bK.length)/\aE=(⟨155,[(0,dw b0),(2,aj 5 cO bK),(4,dw b4),(6,ae ((bK.length-1):Nat)),(8,aW nt)],[⟨b4,9,1,[aG key]⟩,⟨b0,118,2,[aj 1 cB lo,aj 1 cB hi]⟩]⟩:St)) ?_ ?_
 ·refine ax [0,2,4,6,8,45] ?_ ?_<;>intro bg cM
  ·have qg:kx ops (ops.length-1)=5:=(by rw[I];simpa using bg)
   have hU:2<=ops.length:=(by rw[<-I,qg] at hre;have:=H9 hre;rw[length_take] at this;omega)
   have A5:(gI key (f+1) ops (lo,hi))=kY key (ops.take (ops.length-1)) true (lo,hi):=(by rw[gI,if_neg gX,if_pos qg])
   have yz:(ops.take (ops.length-1)).length=(ops.length-1):=(by rw[length_take];omega)
   refine cJ [0,2,4,6,8] ?_;refine aM 2 ?_ (h:=by exact(fw (l:=0) rfl ot trivial ⟨_,ot⟩ Kt));refine bB ?_;refine fW [0,2,4,6,8] ?_;refine aM 1 ?_ (h:=by exact(eE rfl ot bP (je (r:=((ops.length-1-1:Nat):Int)) (by rw[show((ops.length-1:Nat):Int)-1=((ops.length-1-1:Nat):Int) by omega];exact wrap_i64 w4 w4))));refine bB ?_;refine⟨_,(aL (h:=w94)),(ops.take (ops.length-1)),true,A5,w4,w4,(fun o ho=>bf o (mem_of_mem_take ho)),w4,rfl⟩
  have qg:¬kx ops (ops.length-1)=5:=(by rw[I];simpa using bg)
  have A5:(gI key (f+1) ops (lo,hi))=kY key ops false (lo,hi):=(by rw[gI,if_neg gX,if_neg qg])
  refine eI ?_;refine⟨_,(aL (h:=w94)),ops,false,A5,hp0,sC,bf,dQ,rfl⟩
 rintro _ ⟨bK,nt,aZ,qE,awc,lH,yd,rfl⟩;refine iM [0,2,4,6,8] (fun aU j4 aE=>(¬(bK.length≠3\/(nt=true/\bK[bK.length-1].k≠7)\/(bK[bK.length-1].k≠6/\bK[bK.length-1].k≠7)))/\aE=(⟨155,aU,j4⟩:St)) ?_ ?_
 ·refine az 3 ?_;refine cz 53 (fun Qs Pb=>?_) (fun Qs Pb=>?_)
  ·refine bL [0,2,4,6,8,79] ?_;refine fu ?_;exact z42
  refine aF 2 ?_;refine cz 55 (fun wF ane=>?_) (fun wF ane=>?_)
  ·refine aF 9 ?_;refine cz 64 (fun QC Pj=>?_) (fun QC Pj=>?_)
   ·refine bL [0,2,4,6,8,79] ?_;refine fu ?_;exact z42
   refine aF 7 ?_;exact z40
  refine AM 6 ?_;refine aF 10 ?_;exact z40
 rintro _ ⟨vl,rfl⟩;refine az 1 ?_;refine bS (fw (l:=0) (h:=2) rfl ot trivial ⟨_,bP⟩ Kt) ?_;refine bS (sM (ds:=[_]) rfl ⟨ot,trivial⟩) ?_;refine eH au rfl rfl rfl call90 (UT (bK.take 2) 91 [dw b4] _ (lQ key) call91 (fun h _=>agN h key b4) qD) ⟨ot,ot,trivial⟩ (nA (k:=0) rfl) ?_;rintro _ SS2 ⟨rfl,E⟩;rw[E];clear E;refine ap 155 [0,2,6,8,9] ?_;refine az 1 ?_;refine bS (fw (l:=0) (h:=2) rfl ot trivial ⟨_,bP⟩ Kt) ?_;refine eH au rfl rfl rfl call90 (UT (bK.take 2) 92 [] [] gU call92 (fun h _=>agO h) qD) ⟨ot,vS,trivial⟩ (fj _) ?_;rintro _ SS2 ⟨rfl,E⟩;rw[E];clear E;refine ap 155 [0,2,6,8,9,10] ?_;refine az 3 ?_;refine cz 89 (fun apN anf=>?_) (fun apN anf=>?_)
 ·refine bL [0,2,6,8,9,10,92] ?_;refine fu ?_;exact z167
 refine bL [0,2,6,8,9,10,92] ?_;refine bX ?_ ?_<;>intro da eP
 ·exact z167
 have cl:¬((dD (lQ key) (bK.take 2))<0\/(dD gU (bK.take 2))<0):=(by first|omega|(simp_all;omega)|simp_all)
 have hLb:=vX gU (bK.take 2);have KZ:bK.length=3:=(by omega)
 rw[length_take] at hLb;have O:(dD gU (bK.take 2)).toNat<bK.length:=(by omega)
 have R6:Ab bK=(fS [bK[(dD gU (bK.take 2)).toNat].v]).1:=(by unfold Ab;rw[getD_eq_getElem?_getD,getElem?_eq_getElem O];rfl)
 have Zn:(gI key (f+1) ops (lo,hi))=pC (dD (lQ key) (bK.take 2)) (bK[bK.length-1].k==6) nt (fS [bK[(dD gU (bK.take 2)).toNat].v]).1 (lo,hi):=(by rw[aZ];unfold kY;rw[xM yd,if_neg vl,if_neg cl,R6])
 have k8:=Ou hG [bK[(dD gU (bK.take 2)).toNat].v] jk (fun v hv=>by rw[mem_singleton] at hv;rw[hv];exact lH _ (getElem_mem O));have eT:=Iv [bK[(dD gU (bK.take 2)).toNat].v];unfold EZ wm at k8;refine cJ [0,2,6,8,9,11] ?_;refine aM 2 ?_ (h:=by exact(ei 5 (h:=by first|exact .l (j:=(dD gU (bK.take 2)).toNat) w4 O|exact .r (j:=(dD gU (bK.take 2)).toNat) w4 O)));refine aM 1 ?_ (h:=by exact(ez (mk:=Op.load 36) rfl ot (rL isAgg36 sizeOf36 rfl (alT O))));refine cA (k8) ?_;refine bB ?_;refine ay [0,8,9,11,13] ?_;refine iM [0,8,9,11,13] (fun aU _ aE=>∃(b1:lY),(b1=(bif (bK[bK.length-1].k==6)||(((dD (lQ key) (bK.take 2))==0)==nt) then pE (fS [bK[(dD gU (bK.take 2)).toNat].v]).1 (lo,hi) else (lo,hi)))/\(b1.1.length<=100)/\(b1.2.length<=100)/\aE=(⟨155,aU,[⟨b0,118,2,[aj 1 cB b1.1,aj 1 cB b1.2]⟩]⟩:St)) ?_ ?_
 ·refine az 2 ?_;refine cz 110 (fun OZ U=>?_) (fun OZ U=>?_)
  ·refine bL [0,8,9,11,13,115] ?_;refine fu ?_;exact z28
  refine aF 3 ?_;refine qM jq rfl (eE rfl ot ot (HP underlying4)) ?_;refine ap 155 [0,8,9,11,13,115] ?_;refine bX ?_ ?_<;>intro eo fR
  ·exact z28
  have FQ:(lo,hi)=(bif (bK[bK.length-1].k==6)||(((dD (lQ key) (bK.take 2))==0)==nt) then pE (fS [bK[(dD gU (bK.take 2)).toNat].v]).1 (lo,hi) else (lo,hi)):=(by rw[OZ,eo];rfl)
  refine eI ?_;refine⟨_,aL,(lo,hi),FQ,(by first|exact eT|exact fA),fk,rfl⟩
 rintro _ ⟨b1,iI,awd,awe,rfl⟩;refine az 2 ?_;refine cz 129 (fun OY Z=>?_) (fun OY Z=>?_)
 ·refine bL [0,11,134] ?_;refine fu ?_;exact z13
 refine aF 3 ?_;refine qM jq rfl (eE rfl ot ot (VL underlying4)) ?_;refine ap 155 [0,11,134] ?_;refine bX ?_ ?_<;>intro iu qa
 ·exact z13
 have Rt:((bK[bK.length-1].k==6) || !(((dD (lQ key) (bK.take 2))==0)==nt))=false:=(by rw[OY,iu];rfl)
 have vE:(gI key (f+1) ops (lo,hi))=b1:=(by rw[Zn];unfold pC;rw[show((bK[bK.length-1].k==6)||((dD (lQ key) (bK.take 2))==0)!=nt)=false from Rt,<-iI];rfl)
 refine eD [⟨b0,_,_,_⟩] ?_;refine⟨rfl,?_⟩;first|rw[vE]|rw[aZ]
theorem Y0(hG:(2,[Value.int .i64 m])∈G)(key:ByteArray):∀(f:Nat),f<=40->∀(ops:List aQ) (lo hi:List UInt8),ops.length<=f->runs 0 ops=some 1->(∀o∈ops,o.v.Ok)->lo.length<=100->hi.length<=100->∀b0,VC Tryz.prog G 51 [dw b0,aG key,aj 5 cO ops] [⟨b0,118,2,[aj 1 cB lo,aj 1 cB hi]⟩] (fun r S=>r = .dF []/\S=[⟨b0,118,2,[.list 1 ((gI key f ops (lo,hi)).1.flatMap cB) (gI key f ops (lo,hi)).1.length,.list 1 ((gI key f ops (lo,hi)).2.flatMap cB) (gI key f ops (lo,hi)).2.length]⟩]):=by
 intro f;induction f with
 | zero =>
  intro _ ops lo hi hl hr;have:=H9 hr;omega
 | succ f IH =>
  intro hf ops lo hi hl hr bf fA fk b0;exact aiD hG key f w4 (IH w4) ops lo hi hl w4 hr bf fA fk b0
def eG(l:List dc)(ops:List aQ):lY×Int :=
 if gG l≠0 then (([],[]),gG l) else if ops.length=0 then (([],[]),0) else if (dZ l ops).2≠0 then (([],[]),(dZ l ops).2)
 else if (dZ l ops).1≠1/\(dZ l ops).1≠0 then (([],[]),4) else (gI (l.getD 0 ⟨⟨#[]⟩,0⟩).n ops.length ops ([],[]),0)
def Gw(r:lY×Int):D:=.dF [wm r.1.1,wm r.1.2,ae r.2]
theorem aiE{l:List dc}(h:gG l=0):0<l.length:=by
 unfold gG at h;split at h
 ·cases h
 omega
theorem afL(h:jw ops=0):runs 0 ops=some 1:=by
  obtain⟨_,h0⟩:=zo h;have key:∀(l:List aQ) (k:Int),gH k l=0->runs k l=some 1:=by
    intro l;induction l with
    | nil => intro k h; rw[gH] at h; split at h; · rename_i e; rw[runs, e]
             · cases h
    | cons o r ih =>
      intro k h;rw[gH] at h;split at h
      · rename_i e;rw[runs,if_pos e];exact ih _ h
      rename_i e;exact absurd h e
  exact key ops 0 h0
theorem Mq(hm:(3,marksC)∈G)(hw:(1,wordsC)∈G)(ht:(0,typesC)∈G)(hG:(2,[Value.int .i64 m])∈G)(l:List dc)(hl:l.length<=6)(E:∀c∈l,c.n.size<=maxLen)(ops:List aQ)(ho:∀o∈ops,o.nm.size<=maxLen)(bf:∀o∈ops,o.v.Ok):VP Tryz.prog G 28 [aj 2 cC l,aj 5 cO ops] (Gw (eG l ops)):=by
 refine bA func28 rfl ntmps28 aO fun X0 w0 bz=>?_;have dy:=ee;have fB:=Iy hm hw ht l w4 E;have U:=Iz hm hw ht l hl E ops ho;unfold qY at U;unfold Gw wm;refine ay [0,1] ?_;refine cW [0,1,7] (fB) ?_;refine ax [0,1,7,13] ?_ ?_<;>intro aP bH
 ·have h0:gG l≠0:=(by simpa using aP)
  have aZ:eG l ops=(([],[]),gG l):=(by unfold eG;rw[if_pos h0])
  exact JX
 have h0:¬gG l≠0:=(by simpa using aP)
 have Kx:=aiE (Classical.not_not.1 h0);refine ax [0,1,17] ?_ ?_<;>intro bg cM
 ·have h1:ops.length=0:=(by simpa using bg)
  have aZ:eG l ops=(([],[]),0):=(by unfold eG;rw[if_neg h0,if_pos h1])
  exact JX
 have h1:¬ops.length=0:=(by simpa using bg)
 refine cW [0,1,6,8] (U) ?_;refine ax [0,1,6,8,25] ?_ ?_<;>intro cl di
 ·have h2:(dZ l ops).2≠0:=(by simpa using cl)
  have aZ:eG l ops=(([],[]),(dZ l ops).2):=(by unfold eG;rw[if_neg h0,if_neg h1,if_pos h2])
  exact JX
 have h2:¬(dZ l ops).2≠0:=(by simpa using cl)
 obtain⟨k1,k2,k3⟩:=IA (Classical.not_not.1 h2);have Z:=afL k2;obtain⟨sC,_⟩:=zo k2;refine az 3 ?_;refine cz 29 (fun apO I=>?_) (fun apO I=>?_)
 ·refine bL [0,1,32] ?_;refine bX ?_ ?_<;>intro da eP
  ·have h3:(dZ l ops).1≠1/\(dZ l ops).1≠0:=(by simp_all)
   have aZ:eG l ops=(([],[]),4):=(by unfold eG;rw[if_neg h0,if_neg h1,if_neg h2,if_pos h3])
   exact JX
  have h3:¬((dZ l ops).1≠1/\(dZ l ops).1≠0):=(by simp_all)
  have aZ:eG l ops=(gI l[0].n ops.length ops ([],[]),0):=(by unfold eG;rw[if_neg h0,if_neg h1,if_neg h2,if_neg h3,getD_eq_getElem?_getD,getElem?_eq_getElem Kx];rfl)
  refine az 1 ?_;refine dm [_,_] (fun O=>?_);refine fF (Wk.abb (k:=0) (sz:=1) (sz':=1) rfl) ?_;refine ap 50 [0,1,9] ?_;refine az 2 ?_;refine bS (ny (mk:=Op.indexAddr 29) rfl ot bP aae) ?_;refine aF 3 ?_;refine eH au rfl rfl rfl call51 (Y0 hG l[0].n ops.length sC ops [] [] (Nat.le_refl _) Z bf (Nat.zero_le _) (Nat.zero_le _) O) ⟨ot,ot,ot,trivial⟩ (nA (k:=0) rfl) ?_;rintro _ _ ⟨rfl,rfl⟩;refine ap 50 [9] ?_;refine ay [4,5,6] ?_;exact kO
 refine bL [0,1,32] ?_;refine gK ?_;have h3:¬((dZ l ops).1≠1/\(dZ l ops).1≠0):=(by simp_all)
 have aZ:eG l ops=(gI l[0].n ops.length ops ([],[]),0):=(by unfold eG;rw[if_neg h0,if_neg h1,if_neg h2,if_neg h3,getD_eq_getElem?_getD,getElem?_eq_getElem Kx];rfl)
 refine az 1 ?_;refine dm [_,_] (fun O=>?_);refine fF (Wk.abb (k:=0) (sz:=1) (sz':=1) rfl) ?_;refine ap 50 [0,1,9] ?_;refine az 2 ?_;refine bS (ny (mk:=Op.indexAddr 29) rfl ot bP aae) ?_;refine aF 3 ?_;refine eH au rfl rfl rfl call51 (Y0 hG l[0].n ops.length sC ops [] [] (Nat.le_refl _) Z bf (Nat.zero_le _) (Nat.zero_le _) O) ⟨ot,ot,ot,trivial⟩ (nA (k:=0) rfl) ?_;rintro _ _ ⟨rfl,rfl⟩;refine ap 50 [9] ?_;refine ay [4,5,6] ?_;exact tg
end Ex
namespace Tr
open List
open Go.Proofs.Tryz
open Go.Lib (compareBytes)
section
variable {i j:Nat}
abbrev K:=List UInt8
variable {a b c k low:K}
theorem Lf(a b:UInt8)(x y:K):compareBytes (a::x) (b::y)=if a<b then -1 else if b<a then 1 else compareBytes x y:=by rw[compareBytes]
theorem u8{a b:UInt8}:a<b↔a.toNat<b.toNat:=UInt8.lt_iff_toNat_lt
theorem A6:∀(x y:K),(compareBytes x y = -1/\compareBytes y x=1)\/(compareBytes x y=0/\x=y)\/(compareBytes x y=1/\compareBytes y x = -1)
 | [],[]=>.inr (.inl ⟨rfl,rfl⟩)
 | [],_::_=>.inl ⟨rfl,rfl⟩
 | _::_,[]=>.inr (.inr ⟨rfl,rfl⟩)
 | a::x,b::y=>by
  rw[Lf,Lf];by_cases h1:a<b
  ·have h2:¬b<a:=(by rw[u8] at h1 |-;omega)
   rw[if_pos h1,if_neg h2,if_pos h1];exact .inl ⟨rfl,rfl⟩
  by_cases h2:b<a
  ·rw[if_neg h1,if_pos h2,if_pos h2];exact .inr (.inr ⟨rfl,rfl⟩)
  rw[if_neg h1,if_neg h2,if_neg h2,if_neg h1];have tE:a=b:=by
   apply UInt8.toNat_inj.1;rw[u8] at h1 h2;omega
  subst tE;rcases A6 x y with h|⟨h,e⟩|h
  ·exact .inl h
  ·exact .inr (.inl ⟨h,by rw[e]⟩)
  exact .inr (.inr h)
theorem Zy:∀(x y z:K),compareBytes x y = -1->compareBytes y z = -1->compareBytes x z = -1
 | [],[],_,h,_=>by cases h
 | _::_,[],_,h,_=>by cases h
 | _,_::_,[],_,h=>by cases h
 | [],_::_,_::_,_,_=>rfl
 | a::x,b::y,c::z,h1,h2=>by
  rw[Lf] at h1 h2 |-;by_cases p:a<b
  ·by_cases q:b<c
   ·rw[if_pos (by rw[u8] at p q |-;omega)]
   rw[if_neg q] at h2;by_cases r:c<b
   ·rw[if_pos r] at h2;cases h2
   rw[if_pos (by rw[u8] at p q r |-;omega)]
  rw[if_neg p] at h1;by_cases p':b<a
  ·rw[if_pos p'] at h1;cases h1
  rw[if_neg p'] at h1;by_cases q:b<c
  ·rw[if_pos (by rw[u8] at p p' q |-;omega)]
  rw[if_neg q] at h2;by_cases r:c<b
  ·rw[if_pos r] at h2;cases h2
  rw[if_neg r] at h2;rw[if_neg (by rw[u8] at p p' q r |-;omega),if_neg (by rw[u8] at p p' q r |-;omega)];exact Zy x y z h1 h2
def bI(a b:K):Prop:=compareBytes a b<0
instance (a b:K):Decidable (bI a b):=inferInstanceAs (Decidable (_<_))
theorem NT:bI a b↔compareBytes a b = -1:=by
 unfold bI;rcases A6 a b with ⟨h,_⟩|⟨h,_⟩|⟨h,_⟩<;>rw[h]<;>decide
theorem YK:0<compareBytes a b↔bI b a:=by
 unfold bI;rcases A6 a b with ⟨h,h'⟩|⟨h,rfl⟩|⟨h,h'⟩
 ·rw[h,h'];decide
 ·rw[h]
 rw[h,h'];decide
theorem OE(a:K):¬bI a []:=by
 unfold bI;cases a with
 | nil=>decide
 | cons x y=>show ¬(1:Int)<0;decide
theorem jK(a:K):¬bI a a:=fun h=>by
 rcases A6 a a with ⟨h1,h2⟩|⟨h1,_⟩|⟨h1,h2⟩
 ·omega
 ·unfold bI at h;omega
 omega
theorem l5(h1:bI a b)(h2:bI b c):bI a c:=NT.2 (Zy a b c (NT.1 h1) (NT.1 h2))
theorem zw(h:bI a b):¬bI b a:=fun h'=>jK a (l5 h h')
theorem B5(a b:K):bI a b\/a=b\/bI b a:=by
 unfold bI;rcases A6 a b with ⟨h,_⟩|⟨_,h⟩|⟨_,h⟩
 ·exact .inl w4
 ·exact .inr (.inl h)
 exact .inr (.inr w4)
theorem lR:compareBytes a b=0↔a=b:=⟨fun h=>by
 rcases A6 a b with ⟨h1,_⟩|⟨_,h1⟩|⟨h1,_⟩
 ·omega
 ·exact h1
 ·omega,fun h=>by
 subst h;rcases A6 a a with ⟨h1,h2⟩|⟨h1,_⟩|⟨h1,h2⟩
 ·omega
 ·exact h1
 omega⟩
theorem TT(h1:¬bI b a)(h2:bI b c):bI a c:=by
 rcases B5 a b with h|rfl|h
 ·exact l5 h h2
 ·exact h2
 exact absurd h h1
theorem afn(h1:bI a b)(h2:¬bI c b):bI a c:=by
 rcases B5 b c with h|rfl|h
 ·exact l5 h1 h
 ·exact h1
 exact absurd h h2
theorem Zz(h1:¬bI b a)(h2:¬bI c b):¬bI c a:=fun h=>by
 rcases B5 a b with h'|rfl|h'
 ·exact h2 (l5 h h')
 ·exact h2 h
 exact h1 h'
theorem tW{α β:Type}{l:List α}{f g:α->List β}(h:∀a∈l,f a=g a):l.flatMap f=l.flatMap g:=by
 induction l with
 | nil=>rfl
 | cons a r ih=>rw[flatMap_cons,flatMap_cons,h a mem_cons_self,ih fun x hx=>h x (mem_cons_of_mem _ hx)]
structure dU where
 leaf:Bool
 keys:List K
 kids:List Int
 high:K
 next:Int
variable {p:dU}
def apP:dU:=⟨false,[],[],[],0⟩
structure aI where
 af:List dU
 root:Int
def aI.pg(t:aI)(i:Int):dU:=t.af.getD i.toNat apP
def nc:aI:=⟨[⟨true,[],[],[],-1⟩],0⟩
structure fq (p:dU) (many:Int):Prop where
 fm:p.keys.length<=4
 hlen:p.high.length<=100
 zU:-1<=p.next
 zB:p.next<many
 zV:p.next<0↔p.high=[]
 leaf:p.leaf=true->p.kids.length=p.keys.length
 node:p.leaf=false->p.kids.length=p.keys.length+1/\p.keys≠[]
 nf:∀k∈p.keys,1<=k.length/\k.length<=100
 s6:p.high≠[]->∀k∈p.keys,bI k p.high
 lJ:p.keys.Pairwise bI
 aB:∀n∈p.kids,0<=n
 yg:p.leaf=false->∀n∈p.kids,n<many
theorem fq.more{m E:Int}(h:fq p m)(hm:m<=E):fq p E :=
 ⟨h.fm,h.hlen,h.zU,by have:=h.zB;omega,h.zV,h.leaf,h.node,h.nf,h.s6,h.lJ,h.aB,fun hl n hn=>by have:=h.yg hl n hn;omega⟩
def jr(low:K)(p:dU)(j:Nat):K:=if j=0 then low else p.keys.getD (j-1) []
def jd(p:dU)(j:Nat):K:=p.keys.getD j p.high
def eS(t:aI):Nat->Int->K->K->Prop
 | 0,i,low,high=>(0<=i/\i<t.af.length)/\(t.pg i).leaf=true/\(t.pg i).high=high/\∀k∈(t.pg i).keys,¬bI k low
 | h+1,i,low,high=>(0<=i/\i<t.af.length)/\(t.pg i).leaf=false/\(t.pg i).high=high/\(∀k∈(t.pg i).keys,¬bI k low) /\
  ∀j (hj:j<(t.pg i).kids.length),eS t h (t.pg i).kids[j] (jr low (t.pg i) j) (jd (t.pg i) j)
def ids(t:aI):Nat->Int->List Int
 | 0,i=>[i]
 | h+1,i=>i::(t.pg i).kids.flatMap (ids t h)
def dx(t:aI):Nat->Int->List Int
 | 0,i=>[i]
 | d+1,i=>(t.pg i).kids.flatMap (dx t d)
def fO(p:dU):List (K×Int):=p.keys.zip p.kids
def e9(t:aI):Nat->Int->List (K×Int)
 | 0,i=>fO (t.pg i)
 | h+1,i=>(t.pg i).kids.flatMap (e9 t h)
def fV(t:aI):List Int->Int->Prop
 | [],_=>True
 | [i],e=>(t.pg i).next=e
 | i::j::r,e=>(t.pg i).next=j/\fV t (j::r) e
structure Valid (t:aI) (h:Nat):Prop where
 pos:1<=t.af.length
 qb:t.af.length<=4000
 gB:∀p∈t.af,fq p t.af.length
 ok:eS t h t.root [] []
 CL:(ids t h t.root).Nodup
 all:(ids t h t.root).length=t.af.length
 rX:∀d,d<=h->fV t (dx t d t.root) (-1)
theorem eS.idx{t:aI}:∀{h:Nat} {i:Int} {low high:K},eS t h i low high->0<=i/\i<t.af.length
 | 0,_,_,_,h=>h.1
 | _+1,_,_,_,h=>h.1
theorem eS.high{t:aI}:∀{h:Nat} {i:Int} {low high:K},eS t h i low high->(t.pg i).high=high
 | 0,_,_,_,h=>h.2.2.1
 | _+1,_,_,_,h=>h.2.2.1
theorem x4{t:aI}{i:Int}(h:0<=i/\i<t.af.length):t.pg i=t.af[i.toNat]'w4:=by
 unfold aI.pg;rw[getD_eq_getElem?_getD,getElem?_eq_getElem w4];rfl
theorem kH{t:aI}{i:Int}(h:0<=i/\i<t.af.length):t.pg i∈t.af:=by rw[x4 h];exact getElem_mem _
theorem vR{t:aI}(h:Nat)(i:Int):i∈ids t h i:=by cases h<;>simp[ids]
theorem frame{t u:aI}:∀(h:Nat) (i:Int),(∀j∈ids t h i,u.pg j=t.pg j)->ids u h i=ids t h i/\e9 u h i=e9 t h i/\∀d,d<=h->dx u d i=dx t d i
 | 0,i,hp=>by
  have h0:=hp i (vR 0 i);refine⟨rfl,by unfold e9;rw[h0],fun d hd=>?_⟩;obtain rfl:d=0:=(by omega)
  rfl
 | h+1,i,hp=>by
  have h0:=hp i (vR _ i);have hs:∀j∈(t.pg i).kids,ids u h j=ids t h j/\e9 u h j=e9 t h j/\∀d,d<=h->dx u d j=dx t d j:=fun j hj=>frame h j fun x hx=>hp x (by
   rw[ids];exact mem_cons_of_mem _ (mem_flatMap.2 ⟨j,hj,hx⟩))
  refine⟨?_,?_,fun d hd=>?_⟩
  ·rw[ids,ids,h0];congr 1;exact tW (fun j hj=>(hs j hj).1)
  ·rw[e9,e9,h0];exact tW (fun j hj=>(hs j hj).2.1)
  cases d with
  | zero=>rfl
  | succ d=>rw[dx,dx,h0];exact tW (fun j hj=>(hs j hj).2.2 d w4)
theorem eS.frame{t u:aI}(hl:t.af.length<=u.af.length):∀{h:Nat} {i:Int} {low high:K},eS t h i low high->(∀j∈ids t h i,u.pg j=t.pg j)->eS u h i low high
 | 0,i,low,high,⟨q1,q2,q3,E⟩,hp=>by
  have h0:=hp i (vR 0 i);exact⟨⟨q1.1,by omega⟩,by rw[h0];exact q2,by rw[h0];exact q3,by rw[h0];exact E⟩
 | h+1,i,low,high,⟨q1,q2,q3,E,I⟩,hp=>by
  have h0:=hp i (vR _ i);refine⟨⟨q1.1,by omega⟩,by rw[h0];exact q2,by rw[h0];exact q3,by rw[h0];exact E,?_⟩;rw[h0];exact fun j hj=>eS.frame hl (I j hj) fun x hx=>hp x (by rw[ids];exact mem_cons_of_mem _ (mem_flatMap.2 ⟨_,getElem_mem hj,hx⟩))
theorem eS.ids{t:aI}:∀{h:Nat} {i:Int} {low high:K},eS t h i low high->∀j∈Tr.ids t h i,0<=j/\j<t.af.length
 | 0,i,low,high,q,j,hj=>by
  rw[Tr.ids,mem_singleton] at hj;subst hj;exact q.1
 | h+1,i,low,high,⟨q1,q2,q3,I,E⟩,j,hj=>by
  rw[Tr.ids] at hj;rcases mem_cons.1 hj with rfl|hj
  ·exact q1
  obtain⟨x,hx,hj⟩:=mem_flatMap.1 hj;obtain⟨n,hn,rfl⟩:=mem_iff_getElem.1 hx;exact eS.ids (E n hn) j hj
theorem Pm{α:Type}{p:α->Bool}:∀{l:List α} {i:Nat} (h:i<(l.takeWhile p).length),∃(h':i<l.length),p l[i]=true
 | a::r,i,h=>by
  rw[takeWhile_cons] at h;by_cases ha:p a=true
  ·rw[if_pos ha] at h;cases i with
   | zero=>exact⟨by simp,ha⟩
   | succ i =>
    obtain⟨h',q⟩:=Pm (l:=r) (i:=i) qz;exact⟨by simpa using h',by simpa using q⟩
  rw[if_neg ha] at h;simp at h
theorem OF{α:Type}{p:α->Bool}:∀{l:List α} (h:(l.takeWhile p).length<l.length),p l[(l.takeWhile p).length]=false
 | a::r,h=>by
  by_cases ha:p a=true
  ·have e:((a::r).takeWhile p).length=(r.takeWhile p).length+1:=(by rw[takeWhile_cons,if_pos ha];rfl)
   have h2:(r.takeWhile p).length<r.length:=(by rw[e] at h;simpa using h)
   have:=OF (l:=r) h2;simp only[e,getElem_cons_succ];exact this
  have e:((a::r).takeWhile p).length=0:=(by rw[takeWhile_cons,if_neg ha];rfl)
  simp only[e,getElem_cons_zero];simpa using ha
theorem ZA{α:Type}(p:α->Bool)(l:List α):(l.takeWhile p).length<=l.length:=(takeWhile_sublist p).length_le
def iL(keys:List K)(k:K):Nat:=(keys.takeWhile fun x=>decide (bI x k)).length
def oQ(keys:List K)(k:K):Nat:=(keys.takeWhile fun x=>decide (¬bI k x)).length
def bn(p:dU)(k:K):Nat:=if p.leaf=true then iL p.keys k else oQ p.keys k
theorem DS{keys:List K}(h:i<iL keys k):∃(h':i<keys.length),bI keys[i] k:=by
 obtain⟨h',q⟩:=Pm h;exact⟨h',by simpa using q⟩
theorem DI{keys:List K}(h:iL keys k<keys.length):¬bI keys[iL keys k] k:=by
 exact of_decide_eq_false (OF h)
theorem BD(keys:List K)(k:K):iL keys k<=keys.length:=ZA _ _
theorem MY{keys:List K}(h:i<oQ keys k):∃(h':i<keys.length),¬bI k keys[i]:=by
 obtain⟨h',q⟩:=Pm h;exact⟨h',by simpa using q⟩
theorem Mr{keys:List K}(h:oQ keys k<keys.length):bI k keys[oQ keys k]:=by
 exact Classical.not_not.1 (of_decide_eq_false (OF h))
theorem DT(keys:List K)(k:K):oQ keys k<=keys.length:=ZA _ _
theorem py{keys:List K}(h:keys.Pairwise bI)(E:i<j)(hj:j<keys.length):bI keys[i] keys[j]:=pairwise_iff_getElem.1 h i j w4 hj E
theorem I4(h:j<p.keys.length):jd p j=p.keys[j]:=by unfold jd;rw[getD_eq_getElem?_getD,getElem?_eq_getElem h];rfl
theorem NU(h:p.keys.length<=j):jd p j=p.high:=by unfold jd;rw[getD_eq_getElem?_getD,getElem?_eq_none h];rfl
theorem IC(h:0<j)(h':j-1<p.keys.length):jr low p j=p.keys[j-1]:=by unfold jr;rw[if_neg w4,getD_eq_getElem?_getD,getElem?_eq_getElem h'];rfl
def nw(low high k:K):Prop:=¬bI k low/\(high≠[]->bI k high)
theorem we(k:K):nw [] [] k:=⟨OE k,fun h=>absurd rfl h⟩
theorem down{n:Int}(hp:fq p n)(hl:p.leaf=false){high:K}(E:p.high=high)(hk:nw low high k):bn p k<p.kids.length/\nw (jr low p (bn p k)) (jd p (bn p k)) k:=by
 have e:bn p k=oQ p.keys k:=(by unfold bn;rw[if_neg (by rw[hl];decide)])
 have I:=DT p.keys k;rw[e];refine⟨by rw[(hp.node hl).1];omega,?_,?_⟩
 ·rcases Nat.eq_zero_or_pos (oQ p.keys k) with h0|h0
  ·rw[h0];exact hk.1
  obtain⟨h',q⟩:=MY (keys:=p.keys) (k:=k) (i:=oQ p.keys k-1) w4;rw[IC h0 h'];exact q
 intro hne;by_cases aa:oQ p.keys k<p.keys.length
 ·rw[I4 aa];exact Mr aa
 rw[NU w4] at hne |-;rw[E] at hne |-;exact hk.2 hne
def aV(t:aI)(k:K):Nat->Int->Int
 | 0,i=>i
 | h+1,i=>aV t k h ((t.pg i).kids.getD (bn (t.pg i) k) 0)
def jY(t:aI)(k:K):Nat->Int->List Int
 | 0,i=>[i]
 | h+1,i=>i::jY t k h ((t.pg i).kids.getD (bn (t.pg i) k) 0)
theorem UU(t:aI)(k:K):∀(h:Nat) (i:Int),(jY t k h i).getLast?=some (aV t k h i)
 | 0,i=>rfl
 | h+1,i=>by
  have:=UU t k h ((t.pg i).kids.getD (bn (t.pg i) k) 0);rw[jY,aV,getLast?_cons,this];rfl
theorem zi(t:aI):∀(h:Nat) (i:Int),e9 t h i=(dx t h i).flatMap fun l=>fO (t.pg l)
 | 0,i=>by simp[e9,dx]
 | h+1,i=>by
  rw[e9,dx,flatMap_assoc];exact tW fun j _=>zi t h j
theorem zip_fst{α β:Type}:∀{a:List α} {b:List β},b.length=a.length->(a.zip b).map Prod.fst=a
 | [],_,_=>by simp
 | x::a,[],h=>by simp at h
 | x::a,y::b,h=>by simp[zip_fst (a:=a) (b:=b) qz]
theorem Wn{x:K×Int}(h:x∈fO p):x.1∈p.keys:=(of_mem_zip h).1
theorem vV(h:j<p.kids.length):p.kids.getD j 0=p.kids[j]:=by rw[getD_eq_getElem?_getD,getElem?_eq_getElem h];rfl
variable {t:aI} {n:Int}
theorem afM(hp:fq p n)(hl:p.leaf=false){high:K}(I:p.high=high)(E:∀k∈p.keys,¬bI k low)(hj:j<p.kids.length)(hk:nw (jr low p j) (jd p j) k):nw low high k:=by
 have hn:=(hp.node hl).1;refine⟨?_,fun hne=>?_⟩
 ·rcases Nat.eq_zero_or_pos j with rfl|h0
  ·exact hk.1
  rw[IC h0 w4] at hk;exact Zz (E _ (getElem_mem _)) hk.1
 by_cases aa:j<p.keys.length
 ·rw[I4 aa] at hk;have hm:=getElem_mem aa;have h2:=hk.2 (by intro e;have:=(hp.nf _ hm).1;rw[e] at this;simp at this);exact l5 h2 (by rw[<-I];exact hp.s6 (by rw[I];exact hne) _ hm)
 rw[NU w4,I] at hk;exact hk.2 hne
theorem Ms(hp:fq p n)(hl:p.leaf=false)(I:i<j)(hj:j<p.kids.length)(ha:nw (jr low p i) (jd p i) a)(hb:nw (jr low p j) (jd p j) b):bI a b:=by
 have hn:=(hp.node hl).1;have E:i<p.keys.length:=(by omega)
 rw[I4 E] at ha;have h1:=ha.2 (by intro e;have:=(hp.nf _ (getElem_mem E)).1;rw[e] at this;simp at this);rw[IC w4 w4] at hb;refine afn h1 ?_;refine Zz ?_ hb.1;rcases Nat.lt_or_ge i (j-1) with h|h
 ·exact zw (py hp.lJ h w4)
 have:j-1=i:=(by omega)
 simp only[this];exact jK _
theorem NV(hp:∀p∈t.af,fq p n):∀{h:Nat} {i:Int} {low high:K},eS t h i low high->(e9 t h i).Pairwise (fun x y=>bI x.1 y.1)/\∀x∈e9 t h i,nw low high x.1
 | 0,i,low,high,ok=>by
  obtain⟨q1,q2,q3,E⟩:=ok;have po:=hp _ (kH q1);rw[e9];refine⟨?_,fun x hx=>⟨E _ (Wn hx),fun hne=>by rw[<-q3] at hne |-;exact po.s6 hne _ (Wn hx)⟩⟩;have h1:((fO (t.pg i)).map Prod.fst).Pairwise bI:=(by unfold fO;rw[zip_fst (po.leaf q2)];exact po.lJ)
  exact pairwise_map.1 h1
 | h+1,i,low,high,ok=>by
  obtain⟨q1,q2,q3,E,I⟩:=ok;have po:=hp _ (kH q1);rw[e9];have hk:∀j (hj:j<(t.pg i).kids.length),(e9 t h (t.pg i).kids[j]).Pairwise (fun x y=>bI x.1 y.1)/\∀x∈e9 t h (t.pg i).kids[j],nw (jr low (t.pg i) j) (jd (t.pg i) j) x.1:=fun j hj=>NV hp (I j hj);refine⟨pairwise_flatMap.2 ⟨fun a ha=>?_,?_⟩,fun x hx=>?_⟩
  ·obtain⟨j,hj,rfl⟩:=mem_iff_getElem.1 ha;exact(hk j hj).1
  ·refine pairwise_iff_getElem.2 fun a b ha hb tE x hx y hy=>?_;exact Ms po q2 tE hb ((hk a ha).2 x hx) ((hk b hb).2 y hy)
  obtain⟨c,hc,hx⟩:=mem_flatMap.1 hx;obtain⟨j,hj,rfl⟩:=mem_iff_getElem.1 hc;exact afM po q2 q3 E hj ((hk j hj).2 x hx)
theorem DU(hp:∀p∈t.af,fq p n){k:K}:∀{h:Nat} {i:Int} {low high:K},eS t h i low high->nw low high k ->
  ∃pre post lo hi,dx t h i=pre++aV t k h i::post/\(∀l∈pre,∀x∈fO (t.pg l),bI x.1 k)/\(∀l∈post,∀x∈fO (t.pg l),bI k x.1)/\eS t 0 (aV t k h i) lo hi/\nw lo hi k
 | 0,i,low,high,ok,hk=>⟨[],[],low,high,rfl,(fun _ h=>by cases h),(fun _ h=>by cases h),ok,hk⟩
 | h+1,i,low,high,ok,hk=>by
  obtain⟨q1,q2,q3,I,E⟩:=ok;have po:=hp _ (kH q1);obtain⟨d1,d2⟩:=down po q2 q3 hk;obtain⟨pre,post,lo,hi,e,h1,h2,h3,h4⟩:=DU hp (E _ d1) d2;have hm:∀j (hj:j<(t.pg i).kids.length),∀l∈dx t h (t.pg i).kids[j],∀x∈fO (t.pg l),nw (jr low (t.pg i) j) (jd (t.pg i) j) x.1:=fun j hj l hl x hx =>
   (NV hp (E j hj)).2 x (by rw[zi];exact mem_flatMap.2 ⟨l,hl,hx⟩)
  refine⟨((t.pg i).kids.take (bn (t.pg i) k)).flatMap (dx t h)++pre,post++((t.pg i).kids.drop (bn (t.pg i) k+1)).flatMap (dx t h),lo,hi,?_,?_,?_,?_,h4⟩
  ·rw[dx];conv=>lhs;rw[<-take_append_drop (bn (t.pg i) k) (t.pg i).kids]
   rw[drop_eq_getElem_cons d1,flatMap_append,flatMap_cons,e,aV,vV d1];simp
  ·intro l hl x hx;rcases mem_append.1 hl with hl|hl
   ·obtain⟨c,hc,hl⟩:=mem_flatMap.1 hl;obtain⟨j,hj,rfl⟩:=mem_iff_getElem.1 hc;rw[length_take] at hj;rw[getElem_take] at hl;exact Ms po q2 (show j<bn (t.pg i) k by omega) d1 (hm j w4 l hl x hx) d2
   exact h1 l hl x hx
  ·intro l hl x hx;rcases mem_append.1 hl with hl|hl
   ·exact h2 l hl x hx
   obtain⟨c,hc,hl⟩:=mem_flatMap.1 hl;obtain⟨j,hj,rfl⟩:=mem_iff_getElem.1 hc;rw[length_drop] at hj;rw[getElem_drop] at hl;exact Ms po q2 (show bn (t.pg i) k<bn (t.pg i) k+1+j by omega) w4 d2 (hm _ w4 l hl x hx)
  rw[aV,vV d1];exact h3
theorem agR(hp:∀p∈t.af,fq p n){h:Nat}{i:Int}{high:K}(ok:eS t h i low high)(hk:nw low high k) :
  ∃pre post,dx t h i=pre++aV t k h i::post/\(e9 t h i).filter (fun x=>decide (¬bI x.1 k))=(fO (t.pg (aV t k h i))).drop (bn (t.pg (aV t k h i)) k)++post.flatMap fun l=>fO (t.pg l):=by
 obtain⟨pre,post,lo,hi,e,h1,h2,h3,h4⟩:=DU hp ok hk;refine⟨pre,post,e,?_⟩;have po:=hp _ (kH h3.1);rw[zi,e,flatMap_append,flatMap_cons,filter_append,filter_append];rw[filter_eq_nil_iff.2 (by
  intro x hx;obtain⟨l,hl,hx⟩:=mem_flatMap.1 hx;simpa using h1 l hl x hx),nil_append]
 congr 1
 ·have gJ:=h3.2.1;rw[show bn (t.pg (aV t k h i)) k=iL (t.pg (aV t k h i)).keys k by unfold bn;rw[if_pos gJ]];generalize I:t.pg (aV t k h i)=p at *;have E:=take_append_drop (iL p.keys k) (fO p);conv=>lhs;rw[<-E]
  have hlen:=po.leaf gJ;rw[filter_append,filter_eq_nil_iff.2 (by
   intro x hx;obtain⟨j,hj,rfl⟩:=mem_iff_getElem.1 hx;rw[length_take] at hj;obtain⟨h',q⟩:=DS (keys:=p.keys) (k:=k) (i:=j) w4;rw[getElem_take];simpa[fO] using q),nil_append,filter_eq_self.2]
  intro x hx;obtain⟨j,hj,rfl⟩:=mem_iff_getElem.1 hx;rw[length_drop] at hj;have fC:(fO p).length=p.keys.length:=(by unfold fO;rw[length_zip,hlen,Nat.min_self])
  have hd:iL p.keys k<p.keys.length:=(by omega)
  have he:=DI hd;rw[getElem_drop];have:¬bI p.keys[iL p.keys k+j] k:=by
   rcases Nat.eq_zero_or_pos j with rfl|h0
   ·exact he
   exact fun aa=>he (l5 (py po.lJ w4 w4) aa)
  simpa[fO] using this
 rw[filter_eq_self.2];intro x hx;obtain⟨l,hl,hx⟩:=mem_flatMap.1 hx;simpa using zw (h2 l hl x hx)
end
section
variable {α:Type} {i n:Int} {p:dU} {up low:K} {h:Nat}
def ja(l:List α)(i:Nat)(x:α):List α:=l.take i++x::l.drop i
def aI.set(t:aI)(i:Int)(p:dU):aI:={t with af:=t.af.set i.toNat p}
variable {t:aI}
def bU(p:dU)(up:K)(aB:Int):dU :=
 {p with keys:=ja p.keys (bn p up) up,kids:=ja p.kids (if p.leaf=true then bn p up else bn p up+1) aB}
def iY(p:dU):K:=p.keys.getD 2 []
def fa(p:dU)(n:Int):dU:={leaf:=p.leaf,keys:=p.keys.take 2,kids:=p.kids.take (if p.leaf=true then 2 else 3),high:=iY p,next:=n}
def dh(p:dU):dU:={leaf:=p.leaf,keys:=p.keys.drop (if p.leaf=true then 2 else 3),kids:=p.kids.drop (if p.leaf=true then 2 else 3),high:=p.high,next:=p.next}
def uA(t:aI)(i:Int)(up:K)(aB:Int):aI×Option (K×Int) :=
 if (bU (t.pg i) up aB).keys.length<=4 then (t.set i (bU (t.pg i) up aB),none)
 else (⟨(t.af.set i.toNat (fa (bU (t.pg i) up aB) t.af.length))++[dh (bU (t.pg i) up aB)],t.root⟩,some (iY (bU (t.pg i) up aB),t.af.length))
def iB(t:aI)(k:K)(row:Int):Nat->Int->aI×Option (K×Int)
 | 0,i=>uA t i k row
 | h+1,i=>match iB t k row h ((t.pg i).kids.getD (bn (t.pg i) k) 0) with
  | (t',none)=>(t',none)
  | (t',some (up,aB))=>uA t' i up aB
def ang(r:aI×Option (K×Int)):aI:=match r with
 | (t,none)=>t
 | (t,some (up,aB))=>⟨t.af++[⟨false,[up],[t.root,aB],[],-1⟩],t.af.length⟩
theorem qn(t:aI)(i:Int)(p:dU):(t.set i p).af.length=t.af.length:=by simp[aI.set]
theorem DV(h:0<=i/\i<t.af.length)(p:dU):(t.set i p).pg i=p:=by
 unfold aI.pg aI.set;rw[getD_eq_getElem?_getD,getElem?_set_self w4];rfl
theorem y4{j:Int}(hi:0<=i)(hj:0<=j)(h:i≠j)(p:dU):(t.set i p).pg j=t.pg j:=by
 unfold aI.pg aI.set;rw[getD_eq_getElem?_getD,getD_eq_getElem?_getD,getElem?_set_ne w4]
theorem Bs(l:List α){i:Nat}(h:i<=l.length)(x:α):(ja l i x).length=l.length+1:=by unfold ja;simp;omega
theorem xx{l:List α}{i:Nat}{x y:α}:y∈ja l i x↔y=x\/y∈l:=by
 unfold ja;conv=>rhs;rw[<-take_append_drop i l]
 simp only[mem_append,mem_cons];constructor
 ·rintro(h|h|h)
  ·exact .inr (.inl h)
  ·exact .inl h
  exact .inr (.inr h)
 rintro(h|h|h)
 ·exact .inr (.inl h)
 ·exact .inl h
 exact .inr (.inr h)
theorem agS{β:Type}{a:List α}{b:List β}(h:b.length=a.length){i:Nat}(hi:i<=a.length)(x:α)(y:β):(ja a i x).zip (ja b i y)=ja (a.zip b) i (x,y):=by
 unfold ja;rw[zip_append (by simp[h]),zip_cons_cons];have h1:(a.zip b).take i=(a.take i).zip (b.take i):=take_zipWith;have h2:(a.zip b).drop i=(a.drop i).zip (b.drop i):=drop_zipWith;rw[h1,h2]
theorem MZ(hp:fq p n)(hn:up∉p.keys):(∀j (hj:j<p.keys.length),j<bn p up->bI p.keys[j] up)/\(∀j (hj:j<p.keys.length),bn p up<=j->bI up p.keys[j])/\bn p up<=p.keys.length:=by
 unfold bn;split
 ·refine⟨fun j hj h=>(DS h).2,fun j hj h=>?_,BD _ _⟩;have aa:iL p.keys up<p.keys.length:=(by omega)
  have h1:=DI aa;have h2:¬bI p.keys[j] up:=by
   rcases Nat.lt_or_ge (iL p.keys up) j with h'|h'
   ·exact fun E=>h1 (l5 (py hp.lJ h' hj) E)
   have:iL p.keys up=j:=(by omega)
   subst this;exact h1
  rcases B5 p.keys[j] up with h|h|h
  ·exact absurd h h2
  ·exact absurd (h ▸ getElem_mem hj) hn
  exact h
 refine⟨fun j hj h=>?_,fun j hj h=>?_,DT _ _⟩
 ·have h2:=(MY h).2;rcases B5 p.keys[j] up with h|h|h
  ·exact h
  ·exact absurd (h ▸ getElem_mem hj) hn
  exact absurd h h2
 have aa:oQ p.keys up<p.keys.length:=(by omega)
 have h1:=Mr aa;rcases Nat.lt_or_ge (oQ p.keys up) j with h'|h'
 ·exact l5 h1 (py hp.lJ h' hj)
 have:oQ p.keys up=j:=(by omega)
 subst this;exact h1
theorem aiF(hp:fq p n)(hn:up∉p.keys):(ja p.keys (bn p up) up).Pairwise bI:=by
 obtain⟨h1,h2,h3⟩:=MZ hp hn;unfold ja;have hr:=hp.lJ;conv at hr=>rw[<-take_append_drop (bn p up) p.keys]
 rw[pairwise_append] at hr;rw[pairwise_append,pairwise_cons];refine⟨hr.1,⟨fun y hy=>?_,hr.2.1⟩,fun x hx y hy=>?_⟩
 ·obtain⟨j,hj,rfl⟩:=mem_iff_getElem.1 hy;rw[length_drop] at hj;rw[getElem_drop];exact h2 _ w4 w4
 rcases mem_cons.1 hy with rfl|hy
 ·obtain⟨j,hj,rfl⟩:=mem_iff_getElem.1 hx;rw[length_take] at hj;rw[getElem_take];exact h1 _ w4 w4
 exact hr.2.2 x hx y hy
structure zA (p:dU) (many:Int):Prop where
 fm:p.keys.length<=5
 hlen:p.high.length<=100
 zU:-1<=p.next
 zB:p.next<many
 zV:p.next<0↔p.high=[]
 leaf:p.leaf=true->p.kids.length=p.keys.length
 node:p.leaf=false->p.kids.length=p.keys.length+1/\p.keys≠[]
 nf:∀k∈p.keys,1<=k.length/\k.length<=100
 s6:p.high≠[]->∀k∈p.keys,bI k p.high
 lJ:p.keys.Pairwise bI
 aB:∀n∈p.kids,0<=n
 yg:p.leaf=false->∀n∈p.kids,n<many
theorem zA.ok(h:zA p n)(hl:p.keys.length<=4):fq p n:=⟨hl,h.hlen,h.zU,h.zB,h.zV,h.leaf,h.node,h.nf,h.s6,h.lJ,h.aB,h.yg⟩
theorem M1(hp:fq p n){aB:Int}(hn:up∉p.keys)(U:1<=up.length/\up.length<=100)(Z:p.high≠[]->bI up p.high)(hk:0<=aB)(O:p.leaf=false->aB<n):zA (bU p up aB) n:=by
 obtain⟨_,_,h3⟩:=MZ hp hn;have hf:=hp.fm;refine⟨?_,hp.hlen,hp.zU,hp.zB,hp.zV,fun hl=>?_,fun hl=>?_,fun k I=>?_,fun hne k I=>?_,aiF hp hn,fun m hm=>?_,fun hl m hm=>?_⟩
 ·show(ja _ _ _).length<=5;rw[Bs _ h3];omega
 ·have E:p.leaf=true:=hl;show(ja _ _ _).length=(ja _ _ _).length;rw[if_pos E,Bs _ h3,Bs _ (by rw[hp.leaf E];exact h3),hp.leaf E]
 ·have E:p.leaf=false:=hl;refine⟨?_,?_⟩
  ·show(ja _ _ _).length=(ja _ _ _).length+1;rw[if_neg (by rw[E];decide),Bs _ h3,Bs _ (by rw[(hp.node E).1];omega),(hp.node E).1]
  show ja _ _ _≠[];intro e;have:=congrArg length e;rw[Bs _ h3] at this;simp at this
 ·rcases xx.1 I with rfl|h
  ·exact U
  exact hp.nf k h
 ·rcases xx.1 I with rfl|h
  ·exact Z hne
  exact hp.s6 hne k h
 ·rcases xx.1 hm with rfl|h
  ·exact hk
  exact hp.aB m h
 rcases xx.1 hm with rfl|h
 ·exact O hl
 exact hp.yg hl m h
theorem B6(h:p.keys.length=5):iY p=p.keys[2]:=by unfold iY;rw[getD_eq_getElem?_getD,getElem?_eq_getElem w4];rfl
theorem Y1(hp:zA p n)(h5:p.keys.length=5)(h0:0<=n):fq (fa p n) (n+1):=by
 have U:=B6 h5;have I:iY p∈p.keys:=(by rw[U];exact getElem_mem _)
 refine⟨?_,(hp.nf _ I).2,by show -1<=n;omega,by show n<n+1;omega,?_,fun hl=>?_,fun hl=>?_,fun k hk=>hp.nf k (mem_of_mem_take hk),fun _ k hk=>?_,hp.lJ.sublist (take_sublist _ _),fun x hx=>hp.aB x (mem_of_mem_take hx),fun hl x hx=>?_⟩
 ·show(p.keys.take 2).length<=4;rw[length_take];omega
 ·show n<0↔iY p=[];have:=(hp.nf _ I).1;exact⟨fun h=>by omega,fun h=>by rw[h] at this;simp at this⟩
 ·have E:p.leaf=true:=hl;show(p.kids.take (if p.leaf=true then 2 else 3)).length=(p.keys.take 2).length;rw[if_pos E,length_take,length_take,hp.leaf E]
 ·have E:p.leaf=false:=hl;refine⟨?_,?_⟩
  ·show(p.kids.take (if p.leaf=true then 2 else 3)).length=(p.keys.take 2).length+1;rw[if_neg (by rw[E];decide),length_take,length_take,(hp.node E).1];omega
  show p.keys.take 2≠[];intro e;have:=congrArg length e;rw[length_take,h5] at this;cases this
 ·have O:k∈p.keys.take 2:=hk;obtain⟨j,hj,rfl⟩:=mem_iff_getElem.1 O;rw[length_take] at hj;show bI (p.keys.take 2)[j] (iY p);rw[getElem_take,U];exact py hp.lJ w4 w4
 have E:p.leaf=false:=hl;have:=hp.yg E x (mem_of_mem_take hx);omega
theorem XT{m:Int}(hp:zA p n)(h5:p.keys.length=5)(hm:n<=m):fq (dh p) m:=by
 refine⟨?_,hp.hlen,hp.zU,by have:=hp.zB;show p.next<m;omega,hp.zV,fun hl=>?_,fun hl=>?_,fun k hk=>hp.nf k (mem_of_mem_drop hk),fun hne k hk=>hp.s6 hne k (mem_of_mem_drop hk),hp.lJ.sublist (drop_sublist _ _),fun x hx=>hp.aB x (mem_of_mem_drop hx),fun hl x hx=>?_⟩
 ·show(p.keys.drop _).length<=4;rw[length_drop];split<;>omega
 ·have E:p.leaf=true:=hl;show(p.kids.drop _).length=(p.keys.drop _).length;rw[length_drop,length_drop,hp.leaf E]
 ·have E:p.leaf=false:=hl;refine⟨?_,?_⟩
  ·show(p.kids.drop _).length=(p.keys.drop _).length+1;rw[length_drop,length_drop,(hp.node E).1,if_neg (by rw[E];decide)];omega
  show p.keys.drop _≠[];intro e;have:=congrArg length e;rw[length_drop,if_neg (by rw[E];decide)] at this;simp at this;omega
 have E:p.leaf=false:=hl;have:=hp.yg E x (mem_of_mem_drop hx);omega
def j9(t:aI)(h:Nat):K->List Int->List K->K->Prop
 | low,c::cs,ks,high=>match cs,ks with
  | [],[]=>eS t h c low high
  | _::_,k::ks=>eS t h c low k/\j9 t h k cs ks high
  | _,_=>False
 | _,[],_,_=>False
theorem DW{high:K}{c:Int}:j9 t h low [c] [] high↔eS t h c low high:=by rw[j9]
theorem sL{high k:K}{c d:Int}{cs:List Int}{ks:List K}:j9 t h low (c::d::cs) (k::ks) high↔eS t h c low k/\j9 t h k (d::cs) ks high:=by rw[j9]
theorem M2{t:aI}{h:Nat}{high:K}:∀{kids:List Int} {keys:List K} {low:K},kids.length=keys.length+1 ->
  ((∀j (hj:j<kids.length),eS t h kids[j] (if j=0 then low else keys.getD (j-1) []) (keys.getD j high))↔j9 t h low kids keys high)
 | [],keys,low,e=>by simp at e
 | [c],[],low,e=>by
  rw[DW];constructor
  ·intro q;exact q 0 bC
  intro q j hj;obtain rfl:j=0:=(by simpa using hj)
  exact q
 | [c],k::ks,low,e=>by simp at e
 | c::d::cs,[],low,e=>by simp at e
 | c::d::cs,k::ks,low,e=>by
  rw[sL,<-M2 (kids:=d::cs) (keys:=ks) (low:=k) (by simpa using e)];constructor
  ·intro q;refine⟨q 0 bC,fun j hj=>?_⟩;have:=q (j+1) (by simpa using hj);rw[if_neg w4] at this;simp only[getElem_cons_succ,Nat.add_sub_cancel,getD_cons_succ] at this;cases j with
   | zero=>exact this
   | succ j=>exact this
  rintro⟨q0,q⟩ j hj;cases j with
  | zero=>exact q0
  | succ j =>
   have:=q j (by simpa using hj);rw[if_neg w4];simp only[getElem_cons_succ,Nat.add_sub_cancel,getD_cons_succ];cases j with
   | zero=>exact this
   | succ j=>exact this
theorem Eg{high:K}(hp:fq (t.pg i) n):eS t (h+1) i low high↔(0<=i/\i<t.af.length)/\(t.pg i).leaf=false/\(t.pg i).high=high/\(∀k∈(t.pg i).keys,¬bI k low)/\j9 t h low (t.pg i).kids (t.pg i).keys high:=by
 constructor
 ·rintro⟨q1,q2,q3,I,E⟩;refine⟨q1,q2,q3,I,?_⟩;rw[<-M2 (hp.node q2).1];intro j hj;have:=E j hj;unfold jr jd at this;rw[q3] at this;exact this
 rintro⟨q1,q2,q3,I,E⟩;refine⟨q1,q2,q3,I,?_⟩;rw[<-M2 (hp.node q2).1] at E;intro j hj;have:=E j hj;unfold jr jd;rw[q3];exact this
theorem Wo{t u:aI}{h:Nat}{high:K}:∀{kids:List Int} {keys:List K} {low:K},j9 t h low kids keys high->(∀c∈kids,∀lo hi,eS t h c lo hi->eS u h c lo hi)->j9 u h low kids keys high
 | [],keys,low,q,_=>by simp[j9] at q
 | [c],[],low,q,f=>by rw[DW] at q |-;exact f c bC _ _ q
 | [c],k::ks,low,q,f=>by simp[j9] at q
 | c::d::cs,[],low,q,f=>by simp[j9] at q
 | c::d::cs,k::ks,low,q,f=>by
  rw[sL] at q |-;exact⟨f c bC _ _ q.1,Wo q.2 fun x hx=>f x (by simp at hx |-;exact .inr hx)⟩
theorem Wp{t u:aI}{h:Nat}{high up:K}{aB:Int}:∀(j:Nat) {kids:List Int} {keys:List K} {low:K} (hj:j<kids.length),j9 t h low kids keys high ->
  (∀c∈kids.eraseIdx j,∀lo hi,eS t h c lo hi->eS u h c lo hi) ->
  (eS u h kids[j] (if j=0 then low else keys.getD (j-1) []) up)->eS u h aB up (keys.getD j high)->j9 u h low (ja kids (j+1) aB) (ja keys j up) high
 | 0,[],keys,low,hj,q,f,q1,q2=>by simp at hj
 | 0,[c],[],low,hj,q,f,q1,q2=>by
  show j9 u h low [c,aB] [up] high;rw[sL,DW];exact⟨q1,q2⟩
 | 0,[c],k::ks,low,hj,q,f,q1,q2=>by simp[j9] at q
 | 0,c::d::cs,[],low,hj,q,f,q1,q2=>by simp[j9] at q
 | 0,c::d::cs,k::ks,low,hj,q,f,q1,q2=>by
  show j9 u h low (c::aB::d::cs) (up::k::ks) high;rw[sL,sL];rw[sL] at q;exact⟨q1,q2,Wo q.2 fun x hx=>f x wD⟩
 | j+1,[],keys,low,hj,q,f,q1,q2=>by simp at hj
 | j+1,[c],keys,low,hj,q,f,q1,q2=>by simp at hj
 | j+1,c::d::cs,[],low,hj,q,f,q1,q2=>by simp[j9] at q
 | j+1,c::d::cs,k::ks,low,hj,q,f,q1,q2=>by
  rw[sL] at q;have e1:ja (c::d::cs) (j+1+1) aB=c::ja (d::cs) (j+1) aB:=rfl;have e2:ja (k::ks) (j+1) up=k::ja ks j up:=rfl;rw[e1,e2];have ih:=Wp (t:=t) (u:=u) (up:=up) (aB:=aB) j (kids:=d::cs) (keys:=ks) (low:=k) (by simpa using hj) q.2 (fun x hx=>f x (by rw[eraseIdx_cons_succ];exact mem_cons_of_mem _ hx)) (by
   have:=q1;rw[if_neg w4] at this;simp only[getElem_cons_succ,Nat.add_sub_cancel] at this;cases j with
   | zero=>exact this
   | succ j=>exact this) (by simpa using q2)
  have E:ja (d::cs) (j+1) aB=d::ja cs j aB:=rfl;rw[E] at ih |-;rw[sL];exact⟨f c (by rw[eraseIdx_cons_succ];simp) _ _ q.1,ih⟩
theorem Ue{t:aI}{h:Nat}{high:K}:∀(m:Nat) {kids:List Int} {keys:List K} {low:K} (hm:m<keys.length),j9 t h low kids keys high->j9 t h low (kids.take (m+1)) (keys.take m) keys[m]/\j9 t h keys[m] (kids.drop (m+1)) (keys.drop (m+1)) high
 | 0,c::d::cs,k::ks,low,hm,q=>by
  rw[sL] at q;exact⟨DW.2 q.1,q.2⟩
 | m+1,c::d::cs,k::ks,low,hm,q=>by
  rw[sL] at q;obtain⟨q1,q2⟩:=Ue m (kids:=d::cs) (keys:=ks) (by simpa using hm) q.2;refine⟨?_,q2⟩;have e:(c::d::cs).take (m+1+1)=c::d::cs.take m:=rfl;rw[e];show j9 t h low (c::d::cs.take m) (k::ks.take m) _;rw[sL];exact⟨q.1,q1⟩
 | _,_,[],_,hm,_=>by simp at hm
 | _,[],_::_,_,_,q=>by simp[j9] at q
 | _,[c],_::_,_,_,q=>by simp[j9] at q
theorem Eh{t:aI}{e:Int}:∀{a b:List Int},fV t (a++b) e↔fV t a (b.headD e)/\fV t b e
 | [],b=>by simp[fV]
 | [i],[]=>by simp[fV]
 | [i],j::b=>by simp[fV]
 | i::j::a,b=>by
  have:=Eh (t:=t) (e:=e) (a:=j::a) (b:=b);show(t.pg i).next=j/\fV t (j::a++b) e↔((t.pg i).next=j/\fV t (j::a) (b.headD e))/\fV t b e;rw[this,and_assoc]
theorem Bt{t u:aI}:∀{a:List Int} {e:Int},(∀j∈a,(u.pg j).next=(t.pg j).next)->fV t a e->fV u a e
 | [],e,_,_=>trivial
 | [i],e,f,h=>by show(u.pg i).next=e;rw[f i bC];exact h
 | i::j::a,e,f,h=>⟨by rw[f i bC];exact h.1,Bt (fun x hx=>f x (mem_cons_of_mem _ hx)) h.2⟩
theorem I5{t:aI}{n:Int}(hp:∀p∈t.af,fq p n):∀{h:Nat} {i:Int} {low high:K},eS t h i low high->∀d,d<=h->dx t d i≠[]
 | 0,i,low,high,ok,d,hd=>by
  obtain rfl:d=0:=(by omega)
  simp[dx]
 | h+1,i,low,high,ok,d,hd=>by
  cases d with
  | zero=>simp[dx]
  | succ d =>
   obtain⟨q1,q2,q3,I,E⟩:=ok;have po:=hp _ (kH q1);have hl:=(po.node q2).1;have h0:0<(t.pg i).kids.length:=(by omega)
   have:=I5 hp (E 0 h0) d w4;rw[dx];intro e;rw[flatMap_eq_nil_iff] at e;exact this (e _ (getElem_mem h0))
theorem uY{t:aI}:∀(h:Nat) (i:Int) (d:Nat),d<=h->∀x∈dx t d i,x∈ids t h i
 | 0,i,d,hd,x,hx=>by
  obtain rfl:d=0:=(by omega)
  exact hx
 | h+1,i,0,hd,x,hx=>by
  have:x=i:=(by simpa[dx] using hx)
  subst this;exact vR _ _
 | h+1,i,d+1,hd,x,hx=>by
  rw[dx] at hx;obtain⟨c,hc,hx⟩:=mem_flatMap.1 hx;rw[ids];exact mem_cons_of_mem _ (mem_flatMap.2 ⟨c,hc,uY h c d w4 x hx⟩)
theorem HF{a b:List α}(h:a≠[])(e:α):(a++b).headD e=a.headD e:=by
 cases a with
 | nil=>exact absurd rfl h
 | cons x r=>rfl
def qc(t:aI)(h:Nat)(i:Int):Option (K×Int)->List Int
 | none=>ids t h i
 | some (_,aB)=>ids t h i++ids t h aB
def Jt(t:aI)(h:Nat)(i:Int):Option (K×Int)->List (K×Int)
 | none=>e9 t h i
 | some (_,aB)=>e9 t h i++e9 t h aB
def vr(t:aI)(d:Nat)(i:Int):Option (K×Int)->List Int
 | none=>dx t d i
 | some (_,aB)=>dx t d i++dx t d aB
def qh(t:aI)(h:Nat)(i:Int)(low high:K):Option (K×Int)->Prop
 | none=>eS t h i low high
 | some (up,aB)=>(1<=up.length/\up.length<=100)/\bI low up/\(high≠[]->bI up high)/\eS t h i low up/\eS t h aB up high
structure qJ (t u:aI) (h:Nat) (i:Int) (low high:K) (k:K) (row:Int) (r:Option (K×Int)):Prop where
 le:t.af.length<=u.af.length
 more:u.af.length<=t.af.length+(h+1)
 root:u.root=t.root
 gB:∀p∈u.af,fq p u.af.length
 out:∀j:Int,0<=j->j<t.af.length->j∉ids t h i->u.pg j=t.pg j
 ok:qh u h i low high r
 sub:∀x∈qc u h i r,x∈ids t h i\/(t.af.length:Int)<=x
 nodup:(qc u h i r).Nodup
 cnt:(qc u h i r).length+t.af.length=(ids t h i).length+u.af.length
 e9:∀x,x∈Jt u h i r↔x=(k,row)\/x∈e9 t h i
 rX:∀d,d<=h->∀e,fV t (dx t d i) e->fV u (vr u d i r) e/\(vr u d i r).headD e=(dx t d i).headD e
def kf(t:aI)(i:Int)(a b:dU):aI:=⟨(t.af.set i.toNat a)++[b],t.root⟩
theorem rC(t:aI)(i:Int)(a b:dU):(kf t i a b).af.length=t.af.length+1:=by simp[kf]
theorem UW(h:0<=i/\i<t.af.length)(a b:dU):(kf t i a b).pg i=a:=by
 unfold aI.pg kf;rw[getD_eq_getElem?_getD,getElem?_append_left x5,getElem?_set_self w4];rfl
theorem Wq(t:aI)(i:Int)(a b:dU):(kf t i a b).pg t.af.length=b:=by
 unfold aI.pg kf;rw[getD_eq_getElem?_getD,getElem?_append_right x5,length_set];simp
theorem Uf{j:Int}(hi:0<=i)(hj:0<=j/\j<t.af.length)(h:i≠j)(a b:dU):(kf t i a b).pg j=t.pg j:=by
 unfold aI.pg kf;rw[getD_eq_getElem?_getD,getD_eq_getElem?_getD,getElem?_append_left x5,getElem?_set_ne w4]
theorem Mt{q:dU}(hp:∀p∈t.af,fq p n)(hq:fq q n):∀p∈(t.set i q).af,fq p n:=fun p h=>by
 rcases mem_or_eq_of_mem_set h with h|rfl
 ·exact hp p h
 exact hq
theorem Ug{a b:dU}{m:Int}(hp:∀p∈t.af,fq p n)(hm:n<=m)(ha:fq a m)(hb:fq b m):∀p∈(kf t i a b).af,fq p m:=fun p h=>by
 unfold kf at h;rcases mem_append.1 h with h|h
 ·rcases mem_or_eq_of_mem_set h with h|rfl
  ·exact(hp p h).more hm
  exact ha
 rw[mem_singleton] at h;subst h;exact hb
theorem M3{aB:Int}(h:(bU (t.pg i) up aB).keys.length<=4):uA t i up aB=(t.set i (bU (t.pg i) up aB),none):=by unfold uA;rw[if_pos h]
theorem Mu{aB:Int}(h:¬(bU (t.pg i) up aB).keys.length<=4):uA t i up aB=(kf t i (fa (bU (t.pg i) up aB) t.af.length) (dh (bU (t.pg i) up aB)),some (iY (bU (t.pg i) up aB),(t.af.length:Int))):=by unfold uA;rw[if_neg h];rfl
theorem XU{q:dU}(hr:q.keys.Pairwise bI)(h5:q.keys.length=5)(hl:∀k∈q.keys,¬bI k low):bI low (iY q)/\(∀k∈q.keys.drop 2,¬bI k (iY q)):=by
 rw[B6 h5];refine⟨TT (hl _ (getElem_mem (by omega:0<q.keys.length))) (py hr w4 w4),fun k hk=>?_⟩;obtain⟨j,hj,rfl⟩:=mem_iff_getElem.1 hk;rw[length_drop] at hj;rw[getElem_drop];rcases Nat.eq_zero_or_pos j with rfl|h0
 ·exact jK _
 exact zw (py hr w4 w4)
theorem aiG(hp:∀p∈t.af,fq p t.af.length){high:K}(ok:eS t 0 i low high){k:K}{row:Int}(hk:nw low high k)(hn:∀x∈e9 t 0 i,x.1≠k)(hl:1<=k.length/\k.length<=100)(hr:0<=row):qJ t (uA t i k row).1 0 i low high k row (uA t i k row).2:=by
 obtain⟨q1,q2,q3,q4⟩:=ok;have po:=hp _ (kH q1);have O:k∉(t.pg i).keys:=fun hm=>by
  obtain⟨j,hj,e⟩:=mem_iff_getElem.1 hm;have hlen:=po.leaf q2;refine hn ((t.pg i).keys[j],(t.pg i).kids[j]'w4) ?_ e;show _∈fO (t.pg i);unfold fO;exact mem_iff_getElem.2 ⟨j,by rw[length_zip];omega,by rw[getElem_zip]⟩
 have hf:zA (bU (t.pg i) k row) t.af.length:=M1 po O hl (fun hne=>hk.2 (by rw[<-q3];exact hne) |> fun h=>by rw[q3];exact h) hr (fun h=>by rw[q2] at h;cases h);have fC:=(MZ po O).2.2;have hE:fO (bU (t.pg i) k row)=ja (fO (t.pg i)) (bn (t.pg i) k) (k,row):=by
  show(ja _ _ _).zip (ja _ _ _)=_;rw[if_pos q2];exact agS (po.leaf q2) fC k row
 have E:∀x∈(bU (t.pg i) k row).keys,¬bI x low:=fun x hx=>by
  rcases xx.1 hx with rfl|h
  ·exact hk.1
  exact q4 x h
 by_cases h4:(bU (t.pg i) k row).keys.length<=4
 ·rw[M3 h4];have U:=DV q1 (bU (t.pg i) k row);refine⟨by rw[qn];omega,by rw[qn];omega,rfl,by rw[qn];exact Mt hp (hf.ok h4),fun j h0 hj hne=>?_,?_,fun x hx=>.inl hx,?_,by rw[qn];rfl,fun x=>?_,fun d hd e hs=>?_⟩
  ·exact y4 q1.1 h0 (by intro e;subst e;simp[ids] at hne) _
  ·exact⟨by rw[qn];exact q1,by rw[U];exact q2,by rw[U];exact q3,by rw[U];exact E⟩
  ·show[i].Nodup;simp
  ·show x∈fO ((t.set i _).pg i)↔_;rw[U,hE,xx];rfl
  obtain rfl:d=0:=(by omega)
  refine⟨?_,rfl⟩;show((t.set i _).pg i).next=e;rw[U];exact hs
 have h5:(bU (t.pg i) k row).keys.length=5:=(by have:=hf.fm;omega)
 rw[Mu h4];have I:(bU (t.pg i) k row).leaf=true:=q2;have Z:=UW q1 (fa (bU (t.pg i) k row) t.af.length) (dh (bU (t.pg i) k row));have eb:=Wq t i (fa (bU (t.pg i) k row) t.af.length) (dh (bU (t.pg i) k row));obtain⟨u1,u2⟩:=XU hf.lJ h5 E;have Gx:iY (bU (t.pg i) k row)∈(bU (t.pg i) k row).keys:=(by rw[B6 h5];exact getElem_mem _)
 have jl:fO (fa (bU (t.pg i) k row) t.af.length)++fO (dh (bU (t.pg i) k row))=fO (bU (t.pg i) k row):=by
  show((bU (t.pg i) k row).keys.take 2).zip ((bU (t.pg i) k row).kids.take (if (bU (t.pg i) k row).leaf=true then 2 else 3))++((bU (t.pg i) k row).keys.drop (if (bU (t.pg i) k row).leaf=true then 2 else 3)).zip ((bU (t.pg i) k row).kids.drop (if (bU (t.pg i) k row).leaf=true then 2 else 3))=_;rw[if_pos I,<-zip_append (by rw[length_take,length_take,hf.leaf I]),take_append_drop,take_append_drop];rfl
 refine⟨by rw[rC];omega,by rw[rC];omega,rfl,?_,fun j h0 hj hne=>?_,⟨hf.nf _ Gx,u1,fun hne=>hf.s6 (by show(t.pg i).high≠[];rw[q3];exact hne) _ Gx |> fun h=>by rw[<-q3];exact h,?_,?_⟩,fun x hx=>?_,?_,by rw[rC];show[i,(t.af.length:Int)].length+_=[i].length+_;simp;omega,fun x=>?_,fun d hd e hs=>?_⟩
 ·rw[rC];exact Ug hp w4 (Y1 hf h5 w4) (XT hf h5 w4)
 ·exact Uf q1.1 ⟨h0,hj⟩ (by intro e;subst e;simp[ids] at hne) _ _
 ·exact⟨by rw[rC];omega,by rw[Z];exact I,by rw[Z];rfl,by rw[Z];exact fun x hx=>E x (mem_of_mem_take hx)⟩
 ·refine⟨by rw[rC];omega,by rw[eb];exact I,by rw[eb];exact q3,?_⟩;rw[eb];show ∀x∈(bU (t.pg i) k row).keys.drop (if (bU (t.pg i) k row).leaf=true then 2 else 3),_;rw[if_pos I];exact u2
 ·have ri:x∈[i,(t.af.length:Int)]:=hx;simp only[mem_cons,not_mem_nil,or_false] at ri;rcases ri with rfl|rfl
  ·exact .inl (by simp[ids])
  exact .inr (Int.le_refl _)
 ·show[i,(t.af.length:Int)].Nodup;simp;omega
 ·show x∈fO ((kf t i _ _).pg i)++fO ((kf t i _ _).pg _)↔_;rw[Z,eb,jl,hE,xx];rfl
 obtain rfl:d=0:=(by omega)
 refine⟨?_,rfl⟩;show((kf t i _ _).pg i).next=_/\((kf t i _ _).pg _).next=e;rw[Z,eb];exact⟨rfl,hs⟩
end
section
variable {α:Type} {A B:List Int} {v:aI}
theorem NW{keys:List K}(hr:keys.Pairwise bI){up:K}{j:Nat}(hj:j<=keys.length)(h1:∀(h:0<j),¬bI up (keys[j-1]'w4))(h2:∀(h:j<keys.length),bI up keys[j]):oQ keys up=j:=by
 have E:=DT keys up;rcases Nat.lt_trichotomy (oQ keys up) j with h|h|h
 ·exfalso;have aa:oQ keys up<keys.length:=(by omega)
  have h3:=Mr aa;have h4:=h1 w4;rcases Nat.lt_or_ge (oQ keys up) (j-1) with h5|h5
  ·exact h4 (l5 h3 (py hr h5 w4))
  have:oQ keys up=j-1:=(by omega)
  simp only[this] at h3;exact h4 h3
 ·exact h
 exact absurd (h2 w4) (MY h).2
theorem TU{l:List α}{j:Nat}(hj:j<l.length)(x:α):ja l (j+1) x=l.take j++l[j]::x::l.drop (j+1):=by
 unfold ja;rw[take_succ_eq_append_getElem hj,append_assoc];rfl
theorem xB{l:List α}{j:Nat}(hj:j<l.length):l=l.take j++l[j]::l.drop (j+1):=by
 conv=>lhs;rw[<-take_append_drop j l,drop_eq_getElem_cons hj]
theorem afo{l:List α}{j:Nat}{x:α}(h:x∈l.eraseIdx j):x∈l.take j\/x∈l.drop (j+1):=by
 rw[eraseIdx_eq_take_drop_succ] at h;exact mem_append.1 h
variable {t:aI}
theorem y5{h:Nat}{i:Int}{j:Nat}(hj:j<(t.pg i).kids.length)(hn:(ids t (h+1) i).Nodup):(ids t h (t.pg i).kids[j]).Nodup/\i∉ids t h (t.pg i).kids[j]/\(∀x∈(t.pg i).kids.take j++(t.pg i).kids.drop (j+1),(∀y∈ids t h x,y∉ids t h (t.pg i).kids[j])/\i∉ids t h x) /\
  (((t.pg i).kids.take j).flatMap (ids t h)++((t.pg i).kids.drop (j+1)).flatMap (ids t h)).Nodup/\i∉((t.pg i).kids.take j).flatMap (ids t h)++((t.pg i).kids.drop (j+1)).flatMap (ids t h):=by
 rw[ids,nodup_cons] at hn;obtain⟨h0,hn⟩:=hn;have hs:=xB hj;rw[hs,flatMap_append,flatMap_cons] at hn h0;simp only[mem_append,not_or] at h0;rw[nodup_append] at hn;obtain⟨n1,n2,n3⟩:=hn;rw[nodup_append] at n2;obtain⟨n4,n5,n6⟩:=n2;refine⟨n4,h0.2.1,fun x hx=>?_,?_,?_⟩
 ·rcases mem_append.1 hx with hx|hx
  ·exact⟨fun y hy hc=>n3 y (mem_flatMap.2 ⟨x,hx,hy⟩) y (mem_append_left _ hc) rfl,fun hi=>h0.1 (mem_flatMap.2 ⟨x,hx,hi⟩)⟩
  exact⟨fun y hy hc=>n6 y hc y (mem_flatMap.2 ⟨x,hx,hy⟩) rfl,fun hi=>h0.2.2 (mem_flatMap.2 ⟨x,hx,hi⟩)⟩
 ·rw[nodup_append];exact⟨n1,n5,fun a ha b hb=>n3 a ha b (mem_append_right _ hb)⟩
 simp only[mem_append,not_or];exact⟨h0.1,h0.2.2⟩
theorem Mw{f g:Int->List α}{c aB:Int}(hA:∀x∈A,f x=g x)(hB:∀x∈B,f x=g x):(A++c::aB::B).flatMap f=A.flatMap g++(f c++f aB)++B.flatMap g:=by
 rw[flatMap_append,flatMap_cons,flatMap_cons,tW hA,tW hB];simp
theorem M4{f g:Int->List α}{c:Int}(hA:∀x∈A,f x=g x)(hB:∀x∈B,f x=g x):(A++c::B).flatMap f=A.flatMap g++f c++B.flatMap g:=by
 rw[flatMap_append,flatMap_cons,tW hA,tW hB];simp
structure kz (t u:aI) (h:Nat) (i:Int) (low high:K) (j:Nat) (k:K) (row:Int) (r:Option (K×Int)):Prop where
 hp:∀p∈t.af,fq p t.af.length
 ok:eS t (h+1) i low high
 nd:(ids t (h+1) i).Nodup
 hj:j<(t.pg i).kids.length
 hk:nw (jr low (t.pg i) j) (jd (t.pg i) j) k
 ins:qJ t u h ((t.pg i).kids.getD j 0) (jr low (t.pg i) j) (jd (t.pg i) j) k row r
section
variable {u:aI} {h:Nat} {i:Int} {low high:K} {j:Nat} {k:K} {row:Int} {r:Option (K×Int)}
theorem kz.aB(m:kz t u h i low high j k row r):(t.pg i).kids.getD j 0=(t.pg i).kids[j]'m.hj:=vV m.hj
theorem kz.same(m:kz t u h i low high j k row r):u.pg i=t.pg i:=by
 have:=(y5 m.hj m.nd).2.1;exact m.ins.out i m.ok.idx.1 m.ok.idx.2 (by rw[m.aB];exact this)
structure qt (u v:aI) (i:Int):Prop where
 le:u.af.length<=v.af.length
 pg:∀x:Int,0<=x->x<u.af.length->x≠i->v.pg x=u.pg x
theorem kz.others(m:kz t u h i low high j k row r)(ha:qt u v i):∀x∈(t.pg i).kids.take j++(t.pg i).kids.drop (j+1),∀y∈ids t h x,v.pg y=t.pg y:=fun x hx y hy=>by
 obtain⟨h1,h2⟩:=(y5 m.hj m.nd).2.2.1 x hx;have I:y≠i:=fun e=>h2 (e ▸ hy);have E:0<=y/\y<t.af.length:=by
  have hm:y∈ids t (h+1) i:=by
   rw[ids];refine mem_cons_of_mem _ (mem_flatMap.2 ⟨x,?_,hy⟩);rcases mem_append.1 hx with hx|hx
   ·exact mem_of_mem_take hx
   exact mem_of_mem_drop hx
  exact m.ok.ids y hm
 have O:=m.ins.le;rw[ha.pg y E.1 w4 I,m.ins.out y E.1 E.2 (by rw[m.aB];exact h1 y hy)]
theorem kz.below(m:kz t u h i low high j k row r)(ha:qt u v i):∀y∈qc u h ((t.pg i).kids[j]'m.hj) r,0<=y->y<u.af.length->v.pg y=u.pg y:=fun y hy h0 hl=>by
 refine ha.pg y h0 hl fun e=>?_;have hs:=m.ins.sub y (by rw[m.aB];exact hy);rw[m.aB] at hs;rcases hs with hs|hs
 ·exact(y5 m.hj m.nd).2.1 (e ▸ hs)
 have:=m.ok.idx;omega
theorem kz.sU(m:kz t u h i low high j k row r)(ha:qt u v i){x:Int}(hx:x∈(t.pg i).kids.take j++(t.pg i).kids.drop (j+1)):ids v h x=ids t h x/\e9 v h x=e9 t h x/\∀d,d<=h->dx v d x=dx t d x:=frame h x (m.others ha x hx)
theorem kz.XV(m:kz t u h i low high j k row r)(ha:qt u v i){x:Int}(hx:x∈(t.pg i).kids.take j++(t.pg i).kids.drop (j+1)){lo hi:K}(bf:eS t h x lo hi):eS v h x lo hi:=by
 have:=m.ins.le;have:=ha.le;exact bf.frame w4 (m.others ha x hx)
theorem kz.Wr(m:kz t u h i low high j k row r):(((t.pg i).kids.take j).flatMap (ids t h)++qc u h ((t.pg i).kids[j]'m.hj) r++((t.pg i).kids.drop (j+1)).flatMap (ids t h)).Nodup/\i∉((t.pg i).kids.take j).flatMap (ids t h)++qc u h ((t.pg i).kids[j]'m.hj) r++((t.pg i).kids.drop (j+1)).flatMap (ids t h):=by
 obtain⟨a1,a2,a3,a4,a5⟩:=y5 m.hj m.nd;have hnd:=m.ins.nodup;have E:=m.ins.sub;rw[m.aB] at hnd E;have aa:∀x∈(t.pg i).kids.take j++(t.pg i).kids.drop (j+1),∀y∈ids t h x,y<t.af.length:=fun x hx y hy=>by
  refine(m.ok.ids y ?_).2;rw[ids];refine mem_cons_of_mem _ (mem_flatMap.2 ⟨x,?_,hy⟩);rcases mem_append.1 hx with hx|hx
  ·exact mem_of_mem_take hx
  exact mem_of_mem_drop hx
 have I:∀x∈(t.pg i).kids.take j++(t.pg i).kids.drop (j+1),∀y∈ids t h x,y∉qc u h ((t.pg i).kids[j]'m.hj) r:=fun x hx y hy hm=>by
  rcases E y hm with hs|hs
  ·exact(a3 x hx).1 y hy hs
  have:=aa x hx y hy;omega
 have O:i∉qc u h ((t.pg i).kids[j]'m.hj) r:=fun hm=>by
  rcases E i hm with hs|hs
  ·exact a2 hs
  have:=m.ok.idx;omega
 rw[nodup_append] at a4;obtain⟨b1,b2,b3⟩:=a4;refine⟨?_,?_⟩
 ·rw[nodup_append,nodup_append];refine⟨⟨b1,hnd,fun a ha b hb e=>?_⟩,b2,fun a ha b hb e=>?_⟩
  ·obtain⟨x,hx,ha⟩:=mem_flatMap.1 ha;subst e;exact I x (mem_append_left _ hx) a ha hb
  obtain⟨x,hx,lg⟩:=mem_flatMap.1 hb;subst e;rcases mem_append.1 ha with ha|ha
  ·exact b3 a ha a hb rfl
  exact I x (mem_append_right _ hx) a lg ha
 simp only[mem_append,not_or] at a5 |-;exact⟨⟨a5.1,O⟩,a5.2⟩
theorem kz.Y2(m:kz t u h i low high j k row r):(((t.pg i).kids.take j).flatMap (ids t h)++qc u h ((t.pg i).kids[j]'m.hj) r++((t.pg i).kids.drop (j+1)).flatMap (ids t h)).length+1+t.af.length=(ids t (h+1) i).length+u.af.length:=by
 have hc:=m.ins.cnt;rw[m.aB] at hc;have e:(ids t (h+1) i).length=1+((((t.pg i).kids.take j).flatMap (ids t h)).length+((ids t h ((t.pg i).kids[j]'m.hj)).length+(((t.pg i).kids.drop (j+1)).flatMap (ids t h)).length)):=by
  rw[ids];conv=>lhs;rw[xB m.hj]
  rw[length_cons,flatMap_append,flatMap_cons,length_append,length_append];omega
 rw[e,length_append,length_append];omega
theorem kz.YM(m:kz t u h i low high j k row r):∀x∈((t.pg i).kids.take j).flatMap (ids t h)++qc u h ((t.pg i).kids[j]'m.hj) r++((t.pg i).kids.drop (j+1)).flatMap (ids t h),x∈ids t (h+1) i\/(t.af.length:Int)<=x:=fun x hx=>by
 have E:=m.ins.sub;rw[m.aB] at E;have up:∀c∈(t.pg i).kids,∀y∈ids t h c,y∈ids t (h+1) i:=fun c hc y hy=>by rw[ids];exact mem_cons_of_mem _ (mem_flatMap.2 ⟨c,hc,hy⟩)
 rcases mem_append.1 hx with hx|hx
 ·rcases mem_append.1 hx with hx|hx
  ·obtain⟨c,hc,hx⟩:=mem_flatMap.1 hx;exact .inl (up c (mem_of_mem_take hc) x hx)
  rcases E x hx with hs|hs
  ·exact .inl (up _ (getElem_mem _) x hs)
  exact .inr hs
 obtain⟨c,hc,hx⟩:=mem_flatMap.1 hx;exact .inl (up c (mem_of_mem_drop hc) x hx)
theorem kz.NX(m:kz t u h i low high j k row r)(x:K×Int):x∈((t.pg i).kids.take j).flatMap (e9 t h)++Jt u h ((t.pg i).kids[j]'m.hj) r++((t.pg i).kids.drop (j+1)).flatMap (e9 t h)↔x=(k,row)\/x∈e9 t (h+1) i:=by
 have he:=m.ins.e9 x;rw[m.aB] at he;have e:e9 t (h+1) i=((t.pg i).kids.take j).flatMap (e9 t h)++(e9 t h ((t.pg i).kids[j]'m.hj)++((t.pg i).kids.drop (j+1)).flatMap (e9 t h)):=by
  rw[e9];conv=>lhs;rw[xB m.hj]
  rw[flatMap_append,flatMap_cons]
 rw[e];simp only[mem_append,he];constructor
 ·rintro((h|h|h)|h)
  ·exact .inr (.inl h)
  ·exact .inl h
  ·exact .inr (.inr (.inl h))
  exact .inr (.inr (.inr h))
 rintro(h|h|h|h)
 ·exact .inl (.inr (.inl h))
 ·exact .inl (.inl h)
 ·exact .inl (.inr (.inr h))
 exact .inr h
theorem kz.OG(m:kz t u h i low high j k row r)(ha:qt u v i){d:Nat}(hd:d<=h){e:Int}(hs:fV t (dx t (d+1) i) e) :
  fV v (((t.pg i).kids.take j).flatMap (dx t d)++vr u d ((t.pg i).kids[j]'m.hj) r++((t.pg i).kids.drop (j+1)).flatMap (dx t d)) e/\(((t.pg i).kids.take j).flatMap (dx t d)++vr u d ((t.pg i).kids[j]'m.hj) r++((t.pg i).kids.drop (j+1)).flatMap (dx t d)).headD e=(dx t (d+1) i).headD e:=by
 have hl:dx t (d+1) i=((t.pg i).kids.take j).flatMap (dx t d)++(dx t d ((t.pg i).kids[j]'m.hj)++((t.pg i).kids.drop (j+1)).flatMap (dx t d)):=by
  rw[dx];conv=>lhs;rw[xB m.hj]
  rw[flatMap_append,flatMap_cons]
 rw[hl] at hs |-;rw[Eh,Eh] at hs;obtain⟨s1,s2,s3⟩:=hs;obtain⟨g1,g2⟩:=m.ins.rX d hd _ (by rw[m.aB];exact s2);rw[m.aB] at g1 g2;obtain⟨_,_,_,_,O⟩:=m.ok;have hne:dx t d ((t.pg i).kids[j]'m.hj)≠[]:=I5 m.hp (O j m.hj) d hd;have fr:∀x∈(t.pg i).kids.take j++(t.pg i).kids.drop (j+1),∀y∈dx t d x,(v.pg y).next=(t.pg y).next:=fun x hx y hy=>by rw[m.others ha x hx y (uY h x d hd y hy)]
 have U:∀y∈vr u d ((t.pg i).kids[j]'m.hj) r,(v.pg y).next=(u.pg y).next:=fun y hy=>by
  have bf:=m.ins.ok;rw[m.aB] at bf;cases r with
  | none =>
   have hi:=uY h _ d hd y hy;have hb:=eS.ids bf y hi;rw[m.below ha y hi hb.1 hb.2]
  | some q =>
   obtain⟨up,aB⟩:=q;obtain⟨_,_,_,o1,o2⟩:=bf;rcases mem_append.1 hy with hy|hy
   ·have hi:=uY h _ d hd y hy;have hb:=o1.ids y hi;rw[m.below ha y (mem_append_left _ hi) hb.1 hb.2]
   have hi:=uY h _ d hd y hy;have hb:=o2.ids y hi;rw[m.below ha y (mem_append_right _ hi) hb.1 hb.2]
 have E:vr u d ((t.pg i).kids[j]'m.hj) r≠[]:=fun e0=>by
  have bf:=m.ins.ok;rw[m.aB] at bf;cases r with
  | none=>exact I5 m.ins.gB bf d hd e0
  | some q =>
   obtain⟨up,aB⟩:=q;exact I5 m.ins.gB bf.2.2.2.1 d hd (append_eq_nil_iff.1 e0).1
 have I:=Bt (u:=v) (fun y hy=>by obtain⟨x,hx,hy⟩:=mem_flatMap.1 hy;exact fr x (mem_append_left _ hx) y hy) s1;have Z:=Bt (u:=v) (fun y hy=>by obtain⟨x,hx,hy⟩:=mem_flatMap.1 hy;exact fr x (mem_append_right _ hx) y hy) s3;have g1':=Bt (u:=v) U g1;have hh:∀e':Int,(vr u d ((t.pg i).kids[j]'m.hj) r).headD e'=(dx t d ((t.pg i).kids[j]'m.hj)).headD e':=fun e'=>by
  cases h1:vr u d ((t.pg i).kids[j]'m.hj) r with
  | nil=>exact absurd h1 E
  | cons a b =>
   cases h2:dx t d ((t.pg i).kids[j]'m.hj) with
   | nil=>exact absurd h2 hne
   | cons a' b'=>rw[h1,h2] at g2;exact g2
 rw[append_assoc];refine⟨?_,?_⟩
 ·rw[Eh,Eh];refine⟨?_,g1',Z⟩;rw[HF E,hh];rw[HF hne] at I;exact I
 cases hA:((t.pg i).kids.take j).flatMap (dx t d) with
 | cons a b=>rfl
 | nil=>rw[nil_append,nil_append,HF E,HF hne,hh]
end
end
section
variable {t u:aI} {h:Nat} {i:Int} {low high:K} {j:Nat} {k:K} {row:Int}
theorem agT{α:Type}{l:List α}{j E:Nat}(I:E<l.length)(hne:E≠j):l[E]∈l.take j++l.drop (j+1):=by
 rcases Nat.lt_or_ge E j with h|h
 ·exact mem_append_left _ (mem_iff_getElem.2 ⟨E,by rw[length_take];omega,by rw[getElem_take]⟩)
 refine mem_append_right _ (mem_iff_getElem.2 ⟨E-(j+1),by rw[length_drop];omega,?_⟩);rw[getElem_drop];congr 1;omega
theorem M5(m:kz t u h i low high j k row none):qJ t u (h+1) i low high k row none:=by
 have E:qt u u i:=⟨Nat.le_refl _,fun _ _ _ _=>rfl⟩
 have I:=m.same;have Dm:=m.ok.idx;obtain⟨q1,q2,q3,q4,q5⟩:=m.ok;have bf:eS u h ((t.pg i).kids[j]'m.hj) (jr low (t.pg i) j) (jd (t.pg i) j):=(by have:=m.ins.ok;rw[m.aB] at this;exact this)
 have rS:ids u (h+1) i=i::(((t.pg i).kids.take j).flatMap (ids t h)++qc u h ((t.pg i).kids[j]'m.hj) none++((t.pg i).kids.drop (j+1)).flatMap (ids t h)):=by
  rw[ids,I];conv=>lhs;rw[xB m.hj]
  rw[M4 (fun x hx=>(m.sU E (mem_append_left _ hx)).1) (fun x hx=>(m.sU E (mem_append_right _ hx)).1)];rfl
 have O:e9 u (h+1) i=((t.pg i).kids.take j).flatMap (e9 t h)++Jt u h ((t.pg i).kids[j]'m.hj) none++((t.pg i).kids.drop (j+1)).flatMap (e9 t h):=by
  rw[e9,I];conv=>lhs;rw[xB m.hj]
  rw[M4 (fun x hx=>(m.sU E (mem_append_left _ hx)).2.1) (fun x hx=>(m.sU E (mem_append_right _ hx)).2.1)];rfl
 have U:∀d,d<=h->dx u (d+1) i=((t.pg i).kids.take j).flatMap (dx t d)++vr u d ((t.pg i).kids[j]'m.hj) none++((t.pg i).kids.drop (j+1)).flatMap (dx t d):=fun d hd=>by
  rw[dx,I];conv=>lhs;rw[xB m.hj]
  rw[M4 (fun x hx=>(m.sU E (mem_append_left _ hx)).2.2 d hd) (fun x hx=>(m.sU E (mem_append_right _ hx)).2.2 d hd)];rfl
 have hle:=m.ins.le;have ZB:=m.ins.more;have Z:=m.Wr;refine⟨hle,by omega,m.ins.root,m.ins.gB,fun x h0 hx hne=>?_,?_,?_,?_,?_,?_,?_⟩
 ·refine m.ins.out x h0 hx fun hm=>hne ?_;rw[m.aB] at hm;rw[ids];exact mem_cons_of_mem _ (mem_flatMap.2 ⟨_,getElem_mem _,hm⟩)
 ·refine⟨⟨Dm.1,by omega⟩,by rw[I];exact q2,by rw[I];exact q3,by rw[I];exact q4,?_⟩;rw[I];intro j' mu;by_cases e:j'=j
  ·subst e;exact bf
  exact m.XV E (agT mu e) (q5 j' mu)
 ·intro x hx;have ri:x∈ids u (h+1) i:=hx;exact z145
 ·show(ids u (h+1) i).Nodup;rw[rS,nodup_cons];exact⟨Z.2,Z.1⟩
 ·show(ids u (h+1) i).length+_=_;rw[rS,length_cons];exact m.Y2
 ·intro x;show x∈e9 u (h+1) i↔_;rw[O];exact m.NX x
 intro d hd e hs;cases d with
 | zero=>exact⟨by show(u.pg i).next=e;rw[I];exact hs,rfl⟩
 | succ d =>
  show fV u (dx u (d+1) i) e/\(dx u (d+1) i).headD e=_;rw[U d w4];exact m.OG E w4 hs
theorem kz.place{up:K}{aB:Int}(m:kz t u h i low high j k row (some (up,aB))):bn (t.pg i) up=j/\up∉(t.pg i).keys/\nw low high up/\bI low up:=by
 obtain⟨q1,q2,q3,I,O⟩:=m.ok;have po:=m.hp _ (kH q1);have hn:=(po.node q2).1;have bf:=m.ins.ok;rw[m.aB] at bf;obtain⟨o1,o2,o3,U,Z⟩:=bf;have jz:=m.hj;have fA:∀(h0:0<j),bI ((t.pg i).keys[j-1]'w4) up:=fun h0=>by rw[IC h0 w4] at o2;exact o2
 have fk:∀(hl:j<(t.pg i).keys.length),bI up (t.pg i).keys[j]:=fun hl=>by
  rw[I4 hl] at o3;exact o3 (by intro e;have:=(po.nf _ (getElem_mem hl)).1;rw[e] at this;simp at this)
 have fC:bn (t.pg i) up=j:=by
  unfold bn;rw[if_neg (by rw[q2];decide)];exact NW po.lJ w4 (fun h0=>zw (fA h0)) fk
 have E:bI low up:=by
  rcases Nat.eq_zero_or_pos j with h0|h0
  ·rw[h0] at o2;exact o2
  exact TT (I _ (getElem_mem (by omega:j-1<_))) (fA h0)
 refine⟨fC,fun hm=>?_,⟨zw E,fun hne=>?_⟩,E⟩
 ·obtain⟨a,ha,e⟩:=mem_iff_getElem.1 hm;rcases Nat.lt_or_ge a j with h1|h1
  ·have h2:=fA w4;rcases Nat.lt_or_ge a (j-1) with h3|h3
   ·have:=l5 (py po.lJ h3 w4) h2;rw[e] at this;exact jK _ this
   have:a=j-1:=(by omega)
   subst this;rw[e] at h2;exact jK _ h2
  have h2:=fk w4;rcases Nat.lt_or_ge j a with h3|h3
  ·have:=l5 h2 (py po.lJ h3 ha);rw[e] at this;exact jK _ this
  have:a=j:=(by omega)
  subst this;rw[e] at h2;exact jK _ h2
 by_cases hl:j<(t.pg i).keys.length
 ·exact l5 (fk hl) (by rw[<-q3];exact po.s6 (by rw[q3];exact hne) _ (getElem_mem hl))
 rw[NU w4,q3] at o3;exact o3 hne
theorem aiH{up:K}{aB:Int}(m:kz t u h i low high j k row (some (up,aB))):qJ t (uA u i up aB).1 (h+1) i low high k row (uA u i up aB).2:=by
 obtain⟨p1,p2,p3,p4⟩:=m.place;have es:=m.same;have Dm:=m.ok.idx;have bf:=m.ins.ok;rw[m.aB] at bf;obtain⟨o1,o2,o3,o4,o5⟩:=bf;obtain⟨q1,q2,q3,q4,q5⟩:=m.ok;have hle:=m.ins.le;have ZB:=m.ins.more;have U:0<=i/\i<u.af.length:=⟨Dm.1,by omega⟩
 have poT:=m.hp _ (kH q1);have po:fq (t.pg i) u.af.length:=poT.more w4;have hn:=(po.node q2).1;have jz:=m.hj;have hf:zA (bU (t.pg i) up aB) u.af.length:=M1 po p2 o1 (by rw[q3];exact p3.2) o5.idx.1 (fun _=>o5.idx.2);have I:(bU (t.pg i) up aB).kids=(t.pg i).kids.take j++((t.pg i).kids[j]'m.hj)::aB::(t.pg i).kids.drop (j+1):=by
  show ja _ (if (t.pg i).leaf=true then _ else _) aB=_;rw[if_neg (by rw[q2];decide),p1];exact TU m.hj aB
 have anh:(bU (t.pg i) up aB).keys=ja (t.pg i).keys j up:=by
  show ja _ _ _=_;rw[p1]
 have Z:∀x∈(bU (t.pg i) up aB).keys,¬bI x low:=fun x hx=>by
  rcases xx.1 hx with rfl|h
  ·exact p3.1
  exact q4 x h
 have hKT:j9 t h low (t.pg i).kids (t.pg i).keys high:=(Eg poT).1 m.ok |>.2.2.2.2
 -- what is below,in any tree awf auF
 have below:∀{v:aI},qt u v i->(∀x,x∈ids u h ((t.pg i).kids[j]'m.hj)++ids u h aB->v.pg x=u.pg x):=fun E x hx=>by
  refine m.below E x hx ?_ ?_
  ·rcases mem_append.1 hx with hx|hx
   ·exact(o4.ids x hx).1
   exact(o5.ids x hx).1
  rcases mem_append.1 hx with hx|hx
  ·exact(o4.ids x hx).2
  exact(o5.ids x hx).2
 have SI:∀{v:aI},qt u v i->_:=fun {v} E=>frame (t:=u) (u:=v) h ((t.pg i).kids[j]'m.hj) (fun x hx=>below E x (mem_append_left _ hx));have SJ:∀{v:aI},qt u v i->_:=fun {v} E=>frame (t:=u) (u:=v) h aB (fun x hx=>below E x (mem_append_right _ hx));have hKV:∀{v:aI},qt u v i->j9 v h low (bU (t.pg i) up aB).kids (bU (t.pg i) up aB).keys high:=fun {v} E=>by
  have e1:(bU (t.pg i) up aB).kids=ja (t.pg i).kids (j+1) aB:=(by rw[I];exact(TU m.hj aB).symm)
  rw[e1,anh];refine Wp j m.hj hKT (fun c hc lo hi bf=>m.XV E ?_ bf) ?_ ?_
  ·rcases afo hc with hc|hc
   ·exact mem_append_left _ hc
   exact mem_append_right _ hc
  ·have:=o4.frame E.le (fun x hx=>below E x (mem_append_left _ hx));unfold jr at this;exact this
  have:=o5.frame E.le (fun x hx=>below E x (mem_append_right _ hx));unfold jd at this;rw[q3] at this;exact this
 have abi:∀{v:aI},qt u v i->(bU (t.pg i) up aB).kids.flatMap (ids v h)=((t.pg i).kids.take j).flatMap (ids t h)++qc u h ((t.pg i).kids[j]'m.hj) (some (up,aB))++((t.pg i).kids.drop (j+1)).flatMap (ids t h):=fun {v} E=>by
  rw[I,Mw (fun x hx=>(m.sU E (mem_append_left _ hx)).1) (fun x hx=>(m.sU E (mem_append_right _ hx)).1),(SI E).1,(SJ E).1];rfl
 have ZC:∀{v:aI},qt u v i->(bU (t.pg i) up aB).kids.flatMap (e9 v h)=((t.pg i).kids.take j).flatMap (e9 t h)++Jt u h ((t.pg i).kids[j]'m.hj) (some (up,aB))++((t.pg i).kids.drop (j+1)).flatMap (e9 t h):=fun {v} E=>by
  rw[I,Mw (fun x hx=>(m.sU E (mem_append_left _ hx)).2.1) (fun x hx=>(m.sU E (mem_append_right _ hx)).2.1),(SI E).2.1,(SJ E).2.1];rfl
 have abj:∀{v:aI},qt u v i->∀d,d<=h->(bU (t.pg i) up aB).kids.flatMap (dx v d)=((t.pg i).kids.take j).flatMap (dx t d)++vr u d ((t.pg i).kids[j]'m.hj) (some (up,aB))++((t.pg i).kids.drop (j+1)).flatMap (dx t d):=fun {v} E d hd=>by
  rw[I,Mw (fun x hx=>(m.sU E (mem_append_left _ hx)).2.2 d hd) (fun x hx=>(m.sU E (mem_append_right _ hx)).2.2 d hd),(SI E).2.2 d hd,(SJ E).2.2 d hd];rfl
 have yJ:=m.Wr;have Fk:=m.Y2;have abk:∀x:Int,0<=x->x<t.af.length->x∉ids t (h+1) i->u.pg x=t.pg x/\x≠i:=fun x h0 hx hne=>by
  refine⟨m.ins.out x h0 hx fun hm=>hne ?_,fun e=>hne (by rw[e];exact vR _ _)⟩;rw[m.aB] at hm;rw[ids];exact mem_cons_of_mem _ (mem_flatMap.2 ⟨_,getElem_mem _,hm⟩)
 by_cases h4:(bU (u.pg i) up aB).keys.length<=4
 ·rw[M3 h4];rw[es] at h4 |-;have ep:=DV U (bU (t.pg i) up aB);have E:qt u (u.set i (bU (t.pg i) up aB)) i:=⟨by rw[qn];omega,fun x h0 hx hne=>y4 U.1 h0 (Ne.symm hne) _⟩
  have rS:ids (u.set i (bU (t.pg i) up aB)) (h+1) i=i::(((t.pg i).kids.take j).flatMap (ids t h)++qc u h ((t.pg i).kids[j]'m.hj) (some (up,aB))++((t.pg i).kids.drop (j+1)).flatMap (ids t h)):=(by rw[ids,ep,abi E])
  refine⟨by rw[qn];omega,by rw[qn];omega,m.ins.root,by rw[qn];exact Mt m.ins.gB (hf.ok h4),fun x h0 hx hne=>?_,?_,fun x hx=>?_,?_,?_,fun x=>?_,fun d hd e hs=>?_⟩
  ·obtain⟨e1,e2⟩:=abk x h0 hx hne;rw[E.pg x h0 w4 e2,e1]
  ·show eS _ (h+1) i low high;refine(Eg (n:=u.af.length) (by rw[ep];exact hf.ok h4)).2 ?_;rw[ep];exact⟨by rw[qn];exact U,q2,q3,Z,hKV E⟩
  ·have ri:x∈ids (u.set i (bU (t.pg i) up aB)) (h+1) i:=hx;exact z145
  ·show(ids _ (h+1) i).Nodup;rw[rS,nodup_cons];exact⟨yJ.2,yJ.1⟩
  ·show(ids _ (h+1) i).length+_=_;rw[rS,length_cons,qn];exact Fk
  ·show x∈e9 _ (h+1) i↔_;rw[e9,ep,ZC E];exact m.NX x
  cases d with
  | zero=>exact⟨by show((u.set i _).pg i).next=e;rw[ep];exact hs,rfl⟩
  | succ d =>
   show fV _ (dx _ (d+1) i) e/\(dx _ (d+1) i).headD e=_;rw[dx,ep,abj E d w4];exact m.OG E w4 hs
 have h5:(bU (t.pg i) up aB).keys.length=5:=(by rw[es] at h4;have:=hf.fm;omega)
 rw[Mu h4];rw[es] at h4 |-;have Gy:(bU (t.pg i) up aB).leaf=false:=q2;have ea:=UW U (fa (bU (t.pg i) up aB) u.af.length) (dh (bU (t.pg i) up aB));have eb:=Wq u i (fa (bU (t.pg i) up aB) u.af.length) (dh (bU (t.pg i) up aB));have E:qt u (kf u i (fa (bU (t.pg i) up aB) u.af.length) (dh (bU (t.pg i) up aB))) i:=⟨by rw[rC];omega,fun x h0 hx hne=>Uf U.1 ⟨h0,hx⟩ (Ne.symm hne) _ _⟩
 obtain⟨u1,u2⟩:=XU hf.lJ h5 Z;have Gx:iY (bU (t.pg i) up aB)∈(bU (t.pg i) up aB).keys:=(by rw[B6 h5];exact getElem_mem _)
 have fA:=Y1 hf h5 w4;have fk:=XT (m:=u.af.length+1) hf h5 w4;have vL:=Ue 2 w4 (hKV E);rw[<-B6 h5] at vL;have Lg:(fa (bU (t.pg i) up aB) u.af.length).kids=(bU (t.pg i) up aB).kids.take 3:=by
  show(bU (t.pg i) up aB).kids.take (if _ then _ else _)=_;rw[if_neg (by rw[Gy];decide)]
 have Lh:(dh (bU (t.pg i) up aB)).kids=(bU (t.pg i) up aB).kids.drop 3:=by
  show(bU (t.pg i) up aB).kids.drop (if _ then _ else _)=_;rw[if_neg (by rw[Gy];decide)]
 have ehy:(dh (bU (t.pg i) up aB)).keys=(bU (t.pg i) up aB).keys.drop 3:=by
  show(bU (t.pg i) up aB).keys.drop (if _ then _ else _)=_;rw[if_neg (by rw[Gy];decide)]
 have O:∀{α:Type} (f:Int->List α),((bU (t.pg i) up aB).kids.take 3).flatMap f++((bU (t.pg i) up aB).kids.drop 3).flatMap f=(bU (t.pg i) up aB).kids.flatMap f:=fun f=>by rw[<-flatMap_append,take_append_drop]
 have rS:qc (kf u i (fa (bU (t.pg i) up aB) u.af.length) (dh (bU (t.pg i) up aB))) (h+1) i (some (iY (bU (t.pg i) up aB),(u.af.length:Int)))=(i::((bU (t.pg i) up aB).kids.take 3).flatMap (ids (kf u i (fa (bU (t.pg i) up aB) u.af.length) (dh (bU (t.pg i) up aB))) h))++((u.af.length:Int)::((bU (t.pg i) up aB).kids.drop 3).flatMap (ids (kf u i (fa (bU (t.pg i) up aB) u.af.length) (dh (bU (t.pg i) up aB))) h)):=by
  show ids _ (h+1) i++ids _ (h+1) _=_;rw[ids,ids,ea,eb,Lg,Lh]
 have pid:=(O (ids (kf u i (fa (bU (t.pg i) up aB) u.af.length) (dh (bU (t.pg i) up aB))) h)).trans (abi E);have apQ:∀x∈((t.pg i).kids.take j).flatMap (ids t h)++qc u h ((t.pg i).kids[j]'m.hj) (some (up,aB))++((t.pg i).kids.drop (j+1)).flatMap (ids t h),x<u.af.length:=fun x hx=>by
  rcases mem_append.1 hx with hx|hx
  ·rcases mem_append.1 hx with hx|hx
   ·obtain⟨c,hc,hx⟩:=mem_flatMap.1 hx;obtain⟨a,ha,rfl⟩:=mem_iff_getElem.1 (mem_of_mem_take hc);have:=(q5 a ha).ids x hx;omega
   rcases mem_append.1 hx with hx|hx
   ·exact(o4.ids x hx).2
   exact(o5.ids x hx).2
  obtain⟨c,hc,hx⟩:=mem_flatMap.1 hx;obtain⟨a,ha,rfl⟩:=mem_iff_getElem.1 (mem_of_mem_drop hc);have:=(q5 a ha).ids x hx;omega
 refine⟨by rw[rC];omega,by rw[rC];omega,m.ins.root,?_,fun x h0 hx hne=>?_,⟨hf.nf _ Gx,u1,fun hne=>?_,?_,?_⟩,fun x hx=>?_,?_,?_,fun x=>?_,fun d hd e hs=>?_⟩
 ·rw[rC];exact Ug m.ins.gB w4 fA fk
 ·obtain⟨e1,e2⟩:=abk x h0 hx hne;rw[E.pg x h0 w4 e2,e1]
 ·have:=hf.s6 (by show(t.pg i).high≠[];rw[q3];exact hne) _ Gx;rw[<-q3];exact this
 ·refine(Eg (n:=(u.af.length:Int)+1) (by rw[ea];exact fA)).2 ?_;rw[ea,Lg];exact⟨by rw[rC];omega,Gy,rfl,fun x hx=>Z x (mem_of_mem_take hx),vL.1⟩
 ·refine(Eg (n:=(u.af.length:Int)+1) (by rw[eb];exact fk)).2 ?_;rw[eb,Lh,ehy];refine⟨by rw[rC];omega,Gy,q3,fun x hx=>u2 x ?_,vL.2⟩;rw[show 3=2+1 from rfl,<-drop_drop] at hx;exact mem_of_mem_drop hx
 ·rw[rS] at hx;have fb:x=i\/x=(u.af.length:Int)\/x∈((bU (t.pg i) up aB).kids.take 3).flatMap (ids (kf u i (fa (bU (t.pg i) up aB) u.af.length) (dh (bU (t.pg i) up aB))) h)++((bU (t.pg i) up aB).kids.drop 3).flatMap (ids (kf u i (fa (bU (t.pg i) up aB) u.af.length) (dh (bU (t.pg i) up aB))) h):=by
   rcases mem_append.1 hx with hx|hx
   ·rcases mem_cons.1 hx with h|h
    ·exact .inl h
    exact .inr (.inr (mem_append_left _ h))
   rcases mem_cons.1 hx with h|h
   ·exact .inr (.inl h)
   exact .inr (.inr (mem_append_right _ h))
  rw[pid] at fb;rcases fb with rfl|rfl|hx
  ·exact .inl (vR _ _)
  ·exact .inr w4
  exact m.YM x hx
 ·rw[rS];have hnd:=yJ.1;rw[<-pid,nodup_append] at hnd;have sy:=yJ.2;rw[<-pid] at sy;simp only[mem_append,not_or] at sy;have qI:∀x∈((bU (t.pg i) up aB).kids.take 3).flatMap (ids (kf u i (fa (bU (t.pg i) up aB) u.af.length) (dh (bU (t.pg i) up aB))) h)++((bU (t.pg i) up aB).kids.drop 3).flatMap (ids (kf u i (fa (bU (t.pg i) up aB) u.af.length) (dh (bU (t.pg i) up aB))) h),x<u.af.length:=fun x hx=>apQ x (by rw[<-pid];exact hx);rw[nodup_append,nodup_cons,nodup_cons];refine⟨⟨sy.1,hnd.1⟩,⟨fun hm=>?_,hnd.2.1⟩,fun a ha b hb e=>?_⟩
  ·have:=qI _ (mem_append_right _ hm);omega
  subst e;rcases mem_cons.1 ha with rfl|ha
  ·rcases mem_cons.1 hb with hb|hb
   ·omega
   exact sy.2 hb
  rcases mem_cons.1 hb with rfl|hb
  ·have:=qI _ (mem_append_left _ ha);omega
  exact hnd.2.2 a ha a hb rfl
 ·rw[rS,rC];have:=congrArg length pid;rw[length_append] at this;rw[length_append,length_cons,length_cons];omega
 ·show x∈e9 _ (h+1) i++e9 _ (h+1) _↔_;rw[e9,e9,ea,eb,Lg,Lh,O,ZC E];exact m.NX x
 cases d with
 | zero =>
  refine⟨?_,rfl⟩;show((kf u i _ _).pg i).next=_/\((kf u i _ _).pg _).next=e;rw[ea,eb];exact⟨rfl,hs⟩
 | succ d =>
  show fV _ (dx _ (d+1) i++dx _ (d+1) _) e/\(dx _ (d+1) i++dx _ (d+1) _).headD e=_;rw[dx,dx,ea,eb,Lg,Lh,O,abj E d w4];exact m.OG E w4 hs
theorem I6:∀{h:Nat} {t:aI} (hp:∀p∈t.af,fq p t.af.length) {i:Int} {low high:K} (ok:eS t h i low high) (nd:(ids t h i).Nodup) {k:K} {row:Int} (hk:nw low high k) (hn:∀x∈e9 t h i,x.1≠k) (hl:1<=k.length/\k.length<=100) (hr:0<=row),qJ t (iB t k row h i).1 h i low high k row (iB t k row h i).2
 | 0,t,hp,i,low,high,ok,nd,k,row,hk,hn,hl,hr=>aiG hp ok hk hn hl hr
 | h+1,t,hp,i,low,high,ok,nd,k,row,hk,hn,hl,hr=>by
  obtain⟨q1,q2,q3,O,I⟩:=id ok;have po:=hp _ (kH q1);obtain⟨d1,d2⟩:=down po q2 q3 hk;have E:=(y5 d1 nd).1;have ih:=I6 (h:=h) hp (I _ d1) E d2 (fun x hx=>hn x PN) hl hr;rw[<-vV d1] at ih;rw[iB];generalize iB t k row h ((t.pg i).kids.getD (bn (t.pg i) k) 0)=R at ih;obtain⟨u,r⟩:=R;have m:kz t u h i low high (bn (t.pg i) k) k row r:=⟨hp,ok,nd,d1,d2,ih⟩
  cases r with
  | none=>exact M5 m
  | some q=>obtain⟨up,aB⟩:=q;exact aiH m
end
section
variable {t:aI} {h:Nat} {k:K} {row:Int}
variable {p:dU}
def mJ(t:aI)(h:Nat):List (K×Int):=e9 t h t.root
def iS(t:aI)(h:Nat)(k:K)(row:Int):aI:=ang (iB t k row h t.root)
def jV(u:aI)(up:K)(aB:Int):aI:=⟨u.af++[⟨false,[up],[u.root,aB],[],-1⟩],u.af.length⟩
theorem vW(u:aI)(up:K)(aB:Int):(jV u up aB).af.length=u.af.length+1:=by simp[jV]
theorem aiI(u:aI)(up:K)(aB:Int):(jV u up aB).pg u.af.length=⟨false,[up],[u.root,aB],[],-1⟩:=by
 unfold aI.pg jV;rw[getD_eq_getElem?_getD,getElem?_append_right w4];simp
theorem aiJ{u:aI}{x:Int}(hx:0<=x/\x<u.af.length)(up:K)(aB:Int):(jV u up aB).pg x=u.pg x:=by
 unfold aI.pg jV;rw[getD_eq_getElem?_getD,getD_eq_getElem?_getD,getElem?_append_left w4]
theorem Valid.range(v:Valid t h):0<=t.root/\t.root<t.af.length:=v.ok.idx
theorem Ws(hp:∀p∈t.af,fq p t.af.length):∀{h:Nat} {i:Int} {low high:K},eS t h i low high->h+1<=(ids t h i).length
 | 0,_,_,_,_=>by simp[ids]
 | h+1,i,low,high,⟨q1,q2,q3,I,E⟩=>by
  have po:=hp _ (kH q1);have hn:=(po.node q2).1;have h0:0<(t.pg i).kids.length:=(by omega)
  have:=Ws hp (E 0 h0);rw[ids,length_cons,xB h0,flatMap_append,flatMap_cons,length_append,length_append];omega
theorem Valid.high(v:Valid t h):h<t.af.length:=by
 have:=Ws v.gB v.ok;rw[v.all] at this;omega
theorem agU(v:Valid t h)(hn:∀x∈mJ t h,x.1≠k)(hl:1<=k.length/\k.length<=100)(hr:0<=row)(hm:t.af.length+(h+2)<=4000) :
  ∃h',(h<=h'/\h'<=h+1)/\Valid (iS t h k row) h'/\(t.af.length<=(iS t h k row).af.length/\(iS t h k row).af.length<=t.af.length+(h+2))/\∀x,x∈mJ (iS t h k row) h'↔x=(k,row)\/x∈mJ t h:=by
 have I:=I6 v.gB v.ok v.CL (we k) hn hl hr;unfold iS;generalize iB t k row h t.root=R at I;obtain⟨u,r⟩:=R;have hle:t.af.length<=u.af.length:=I.le;have ZB:u.af.length<=t.af.length+(h+1):=I.more;have O:(qc u h t.root r).length+t.af.length=(ids t h t.root).length+u.af.length:=I.cnt;rw[v.all] at O;have rR:=v.pos;have E:u.root=t.root:=I.root;cases r with
 | none =>
  refine⟨h,⟨Nat.le_refl _,by omega⟩,⟨by show 1<=u.af.length;omega,by show u.af.length<=4000;omega,I.gB,?_,?_,?_,fun d hd=>?_⟩,⟨hle,by show u.af.length<=_;omega⟩,fun x=>?_⟩
  ·show eS u h u.root [] [];rw[E];exact I.ok
  ·show(ids u h u.root).Nodup;rw[E];exact I.nodup
  ·show(ids u h u.root).length=u.af.length;rw[E];have:(ids u h t.root).length+t.af.length=t.af.length+u.af.length:=O;omega
  ·show fV u (dx u d u.root) (-1);rw[E];exact(I.rX d hd (-1) (v.rX d hd)).1
  show x∈e9 u h u.root↔_;rw[E];exact I.e9 x
 | some q =>
  obtain⟨up,aB⟩:=q;obtain⟨o1,o2,o3,o4,o5⟩:(1<=up.length/\up.length<=100)/\bI [] up/\(([]:K)≠[]->bI up [])/\eS u h t.root [] up/\eS u h aB up []:=I.ok;have ho:∀x∈ids u h t.root++ids u h aB,(jV u up aB).pg x=u.pg x:=fun x hx=>by
   refine aiJ ?_ up aB;rcases mem_append.1 hx with hx|hx
   ·exact o4.ids x hx
   exact o5.ids x hx
  have f1:=frame (t:=u) (u:=jV u up aB) h t.root (fun x hx=>ho x (mem_append_left _ hx));have f2:=frame (t:=u) (u:=jV u up aB) h aB (fun x hx=>ho x (mem_append_right _ hx));have g1:eS (jV u up aB) h t.root [] up:=o4.frame (by rw[vW];omega) (fun x hx=>ho x (mem_append_left _ hx));have g2:eS (jV u up aB) h aB up []:=o5.frame (by rw[vW];omega) (fun x hx=>ho x (mem_append_right _ hx));have U:=aiI u up aB;rw[E] at U;have hnd:=I.nodup;have rS:ids (jV u up aB) (h+1) u.af.length=(u.af.length:Int)::(ids u h t.root++ids u h aB):=by
   rw[ids,U];show _::([t.root,aB].flatMap (ids (jV u up aB) h))=_;rw[flatMap_cons,flatMap_cons,flatMap_nil,append_nil,f1.1,f2.1]
  have Z:fq (⟨false,[up],[t.root,aB],[],-1⟩:dU) (u.af.length+1:Nat):=by
   have i1:=o4.idx;have i2:=o5.idx;refine⟨by simp,by simp,by simp,by simp;omega,by simp,(fun h=>by cases h),fun _=>⟨rfl,by simp⟩,fun x hx=>?_,fun h=>absurd rfl h,by simp,fun x hx=>?_,fun _ x hx=>?_⟩
   ·have:x=up:=(by simpa using hx)
    subst this;exact o1
   ·have:x=t.root\/x=aB:=(by simpa using hx)
    rcases this with rfl|rfl
    ·exact i1.1
    exact i2.1
   have:x=t.root\/x=aB:=(by simpa using hx)
   rcases this with rfl|rfl<;>omega
  refine⟨h+1,⟨by omega,by omega⟩,⟨?_,?_,?_,?_,?_,?_,fun d hd=>?_⟩,⟨?_,?_⟩,fun x=>?_⟩
  ·show 1<=(jV u up aB).af.length;rw[vW];omega
  ·show(jV u up aB).af.length<=4000;rw[vW];omega
  ·show ∀p∈(jV u up aB).af,fq p (jV u up aB).af.length;rw[vW];intro p hp;rcases mem_append.1 hp with hp|hp
   ·have C4:fq p u.af.length:=I.gB p hp;exact C4.more w4
   rw[mem_singleton] at hp;subst hp;rw[E];exact Z
  ·show eS (jV u up aB) (h+1) u.af.length [] [];refine(Eg (n:=(u.af.length+1:Nat)) (by rw[U];exact Z)).2 ?_;rw[U];refine⟨by rw[vW];omega,rfl,rfl,fun x _=>OE x,?_⟩;rw[sL,DW];exact⟨g1,g2⟩
  ·show(ids (jV u up aB) (h+1) u.af.length).Nodup;rw[rS,nodup_cons];refine⟨fun hm=>?_,hnd⟩;rcases mem_append.1 hm with hm|hm
   ·have:=o4.ids _ hm;omega
   have:=o5.ids _ hm;omega
  ·show(ids (jV u up aB) (h+1) u.af.length).length=(jV u up aB).af.length;rw[rS,vW,length_cons];have:(ids u h t.root++ids u h aB).length+t.af.length=t.af.length+u.af.length:=O;omega
  ·show fV (jV u up aB) (dx (jV u up aB) d u.af.length) (-1);cases d with
   | zero=>show((jV u up aB).pg u.af.length).next = -1;rw[U]
   | succ d =>
    rw[dx,U];show fV _ ([t.root,aB].flatMap (dx (jV u up aB) d)) (-1);rw[flatMap_cons,flatMap_cons,flatMap_nil,append_nil,f1.2.2 d w4,f2.2.2 d w4];refine Bt (fun x hx=>?_) (I.rX d w4 (-1) (v.rX d w4)).1;have ri:x∈dx u d t.root++dx u d aB:=hx;rw[ho x ?_];rcases mem_append.1 ri with ri|ri
    ·exact mem_append_left _ (uY h _ d w4 x ri)
    exact mem_append_right _ (uY h _ d w4 x ri)
  ·show t.af.length<=(jV u up aB).af.length;rw[vW];omega
  ·show(jV u up aB).af.length<=_;rw[vW];omega
  show x∈e9 (jV u up aB) (h+1) u.af.length↔_;rw[e9,U];show x∈[t.root,aB].flatMap (e9 (jV u up aB) h)↔_;rw[flatMap_cons,flatMap_cons,flatMap_nil,append_nil,f1.2.1,f2.2.1];exact I.e9 x
theorem UX:Valid nc 0:=by
 refine⟨by decide,by decide,fun p hp=>?_,⟨by decide,rfl,rfl,fun k hk=>by cases hk⟩,by simp[ids],rfl,fun d hd=>?_⟩
 ·have:p=⟨true,[],[],[],-1⟩:=(by simpa[nc] using hp)
  subst this;exact⟨by simp,by simp,by simp,by simp[nc],by simp,fun _=>rfl,(fun h=>by cases h),(fun k hk=>by cases hk),(fun h=>absurd rfl h),by simp,(fun n hn=>by cases hn),(fun h=>by cases h)⟩
 obtain rfl:d=0:=(by omega)
 rfl
theorem aiK:mJ nc 0=[]:=rfl
theorem Ia(hl:p.kids.length=p.keys.length){a:Nat}(ha:a<p.keys.length):(fO p)[a]'(by unfold fO;rw[length_zip];omega)=(p.keys[a],p.kids[a]'w4):=by unfold fO;rw[getElem_zip]
theorem DJ(hl:p.kids.length=p.keys.length){x:K×Int}:x∈fO p↔∃a,∃(ha:a<p.keys.length),x=(p.keys[a],p.kids[a]'w4):=by
 constructor
 ·intro h;obtain⟨a,ha,e⟩:=mem_iff_getElem.1 h;have E:a<p.keys.length:=(by unfold fO at ha;rw[length_zip] at ha;omega)
  exact⟨a,E,by rw[<-e,Ia hl E]⟩
 rintro⟨a,ha,rfl⟩;exact mem_iff_getElem.2 ⟨a,by unfold fO;rw[length_zip];omega,Ia hl ha⟩
def Ev(t:aI)(k:K)(h:Nat):Prop:=∃(ha:bn (t.pg (aV t k h t.root)) k<(t.pg (aV t k h t.root)).keys.length),(t.pg (aV t k h t.root)).keys[bn (t.pg (aV t k h t.root)) k]=k
theorem Valid.leaf(v:Valid t h)(k:K):(0<=aV t k h t.root/\aV t k h t.root<t.af.length)/\(t.pg (aV t k h t.root)).leaf=true:=by
 obtain⟨_,_,_,_,_,_,_,h3,_⟩:=DU v.gB v.ok (we k);exact⟨h3.1,h3.2.1⟩
theorem found(v:Valid t h)(k:K)(row:Int):(k,row)∈mJ t h↔∃(ha:bn (t.pg (aV t k h t.root)) k<(t.pg (aV t k h t.root)).keys.length),(t.pg (aV t k h t.root)).keys[bn (t.pg (aV t k h t.root)) k]=k/\(t.pg (aV t k h t.root)).kids.getD (bn (t.pg (aV t k h t.root)) k) 0=row:=by
 obtain⟨pre,post,lo,hi,e,h1,h2,h3,h4⟩:=DU v.gB v.ok (we k);have po:=v.gB _ (kH h3.1);have gJ:=h3.2.1;have hlen:=po.leaf gJ;unfold mJ;rw[zi,e,flatMap_append,flatMap_cons];generalize I:t.pg (aV t k h t.root)=p at *;have fC:bn p k=iL p.keys k:=(by unfold bn;rw[if_pos gJ])
 rw[fC];simp only[mem_append];constructor
 ·rintro(hx|hx|hx)
  ·obtain⟨l,hl,hx⟩:=mem_flatMap.1 hx;exact absurd (h1 l hl _ hx) (jK k)
  ·obtain⟨a,ha,e2⟩:=(DJ hlen).1 hx;injection e2 with E O
   have:iL p.keys k=a:=by
    rcases Nat.lt_trichotomy (iL p.keys k) a with h5|h5|h5
    ·exfalso;have:=DI (keys:=p.keys) (k:=k) w4;have h6:=py po.lJ h5 ha;rw[<-E] at h6;exact this h6
    ·exact h5
    have:=(DS h5).2;rw[<-E] at this;exact absurd this (jK k)
   subst this;exact⟨ha,E.symm,by rw[getD_eq_getElem?_getD,getElem?_eq_getElem w4];exact O.symm⟩
  obtain⟨l,hl,hx⟩:=mem_flatMap.1 hx;exact absurd (h2 l hl _ hx) (jK k)
 rintro⟨ha,e1,e2⟩;refine .inr (.inl ((DJ hlen).2 ⟨_,ha,?_⟩));rw[getD_eq_getElem?_getD,getElem?_eq_getElem w4] at e2;rw[e1];congr 1;exact e2.symm
theorem DK(v:Valid t h)(k:K):Ev t k h↔∃row,(k,row)∈mJ t h:=by
 constructor
 ·rintro⟨ha,e⟩;exact⟨_,(found v k _).2 ⟨ha,e,rfl⟩⟩
 rintro⟨row,hr⟩;obtain⟨ha,e,_⟩:=(found v k row).1 hr;exact⟨ha,e⟩
def nI(p:dU)(a:Nat):dU:={p with keys:=p.keys.eraseIdx a,kids:=p.kids.eraseIdx a}
def iT(t:aI)(h:Nat)(k:K):aI:=t.set (aV t k h t.root) (nI (t.pg (aV t k h t.root)) (bn (t.pg (aV t k h t.root)) k))
theorem alU{n:Int}(hp:fq p n)(hl:p.leaf=true){a:Nat}(ha:a<p.keys.length):fq (nI p a) n:=by
 have hlen:=hp.leaf hl;refine⟨?_,hp.hlen,hp.zU,hp.zB,hp.zV,fun _=>?_,fun h=>?_,fun k hk=>hp.nf k ((eraseIdx_sublist _ _).subset hk),fun hne k hk=>hp.s6 hne k ((eraseIdx_sublist _ _).subset hk),hp.lJ.sublist (eraseIdx_sublist _ _),fun x hx=>hp.aB x ((eraseIdx_sublist _ _).subset hx),fun h=>?_⟩
 ·show(p.keys.eraseIdx a).length<=4;rw[length_eraseIdx_of_lt ha];have:=hp.fm;omega
 ·show(p.kids.eraseIdx a).length=(p.keys.eraseIdx a).length;rw[length_eraseIdx_of_lt ha,length_eraseIdx_of_lt w4,hlen]
 ·have:p.leaf=false:=h;rw[hl] at this;cases this
 have:p.leaf=false:=h;rw[hl] at this;cases this
theorem UY{α β:Type}:∀{a:List α} {b:List β} {n:Nat},(a.eraseIdx n).zip (b.eraseIdx n)=(a.zip b).eraseIdx n
 | [],_,n=>by simp
 | _::_,[],n=>by cases n<;>simp
 | x::a,y::b,0=>by simp
 | x::a,y::b,n+1=>by simp[UY (a:=a) (b:=b) (n:=n)]
theorem Wt{q:dU}{l:Int}(hq:q.leaf=true)(O:q.high=(t.pg l).high)(hx:q.next=(t.pg l).next)(hl:0<=l/\l<t.af.length)(gJ:(t.pg l).leaf=true)(nN:∀k∈q.keys,k∈(t.pg l).keys):∀{h:Nat} {i:Int} {low high:K},eS t h i low high ->
  eS (t.set l q) h i low high/\ids (t.set l q) h i=ids t h i/\∀d,d<=h->dx (t.set l q) d i=dx t d i
 | 0,i,low,high,⟨q1,q2,q3,E⟩=>by
  refine⟨?_,rfl,fun d hd=>by cases Nat.le_zero.1 hd;rfl⟩;by_cases e:l=i
  ·subst e;rw[eS,DV hl,qn];exact⟨q1,hq,by rw[O];exact q3,fun k hk=>E k (nN k hk)⟩
  rw[eS,y4 hl.1 q1.1 e,qn];exact⟨q1,q2,q3,E⟩
 | h+1,i,low,high,⟨q1,q2,q3,E,U⟩=>by
  have e:l≠i:=fun e=>by rw[e,q2] at gJ;cases gJ
  have I:=y4 (t:=t) hl.1 q1.1 e q;have ih:=fun j (hj:j<(t.pg i).kids.length)=>Wt hq O hx hl gJ nN (U j hj);refine⟨?_,?_,fun d hd=>?_⟩
  ·rw[eS,I,qn];exact⟨q1,q2,q3,E,fun j hj=>(ih j hj).1⟩
  ·rw[ids,ids,I];congr 1;refine tW fun c hc=>?_;obtain⟨j,hj,rfl⟩:=mem_iff_getElem.1 hc;exact(ih j hj).2.1
  cases d with
  | zero=>rfl
  | succ d =>
   rw[dx,dx,I];refine tW fun c hc=>?_;obtain⟨j,hj,rfl⟩:=mem_iff_getElem.1 hc;exact(ih j hj).2.2 d w4
theorem agV(v:Valid t h)(ht:Ev t k h):Valid (iT t h k) h/\(iT t h k).af.length=t.af.length/\∀x,x∈mJ (iT t h k) h↔x∈mJ t h/\x.1≠k:=by
 obtain⟨ha,hk⟩:=ht;obtain⟨hl,gJ⟩:=v.leaf k;have po:=v.gB _ (kH hl);have hq:=alU po gJ ha;have hlen:=po.leaf gJ;have S:=fun {i:Int} {low high:K} (ok:eS t h i low high)=>Wt (t:=t) (q:=nI (t.pg (aV t k h t.root)) (bn (t.pg (aV t k h t.root)) k)) (l:=aV t k h t.root) gJ rfl rfl hl gJ (fun k hk=>(eraseIdx_sublist _ _).subset hk) ok;obtain⟨s1,s2,s3⟩:=S v.ok;have E:(iT t h k).af.length=t.af.length:=qn _ _ _;refine⟨⟨by rw[E];exact v.pos,by rw[E];exact v.qb,?_,s1,?_,?_,fun d hd=>?_⟩,E,fun x=>?_⟩
 ·rw[E];exact Mt v.gB hq
 ·show(ids (iT t h k) h t.root).Nodup;unfold iT;rw[s2];exact v.CL
 ·show(ids (iT t h k) h t.root).length=_;rw[E];unfold iT;rw[s2];exact v.all
 ·show fV (iT t h k) (dx (iT t h k) d t.root) (-1);unfold iT;rw[s3 d hd];refine Bt (fun y hy=>?_) (v.rX d hd);have I:=v.ok.ids y (uY h _ d hd y hy);by_cases e:aV t k h t.root=y
  ·rw[<-e,DV hl];rfl
  rw[y4 hl.1 I.1 e]
 obtain⟨pre,post,lo,hi,e,h1,h2,h3,h4⟩:=DU v.gB v.ok (we k);have fi:(dx t h t.root).Nodup->aV t k h t.root∉pre/\aV t k h t.root∉post:=fun hn=>by
  rw[e,nodup_append,nodup_cons] at hn;exact⟨fun hm=>hn.2.2 _ hm _ (mem_cons_self) rfl,hn.2.1.1⟩
 have fA:∀y∈pre,fO ((iT t h k).pg y)=fO (t.pg y)\/y=aV t k h t.root:=fun y hy=>by
  by_cases e':aV t k h t.root=y
  ·exact .inr e'.symm
  left;have I:=v.ok.ids y (uY h _ h (Nat.le_refl _) y (by rw[e];exact mem_append_left _ hy));unfold iT;rw[y4 hl.1 I.1 e']
 have uH:∀y∈post,fO ((iT t h k).pg y)=fO (t.pg y)\/y=aV t k h t.root:=fun y hy=>by
  by_cases e':aV t k h t.root=y
  ·exact .inr e'.symm
  left;have I:=v.ok.ids y (uY h _ h (Nat.le_refl _) y (by rw[e];exact mem_append_right _ (mem_cons_of_mem _ hy)));unfold iT;rw[y4 hl.1 I.1 e']
 have U:(k,(t.pg (aV t k h t.root)).kids.getD (bn (t.pg (aV t k h t.root)) k) 0)∈fO (t.pg (aV t k h t.root)):=(DJ hlen).2 ⟨_,ha,by rw[hk,getD_eq_getElem?_getD,getElem?_eq_getElem w4];rfl⟩;have apR:aV t k h t.root∉pre:=fun hm=>absurd (h1 _ hm _ U) (jK k);have Z:aV t k h t.root∉post:=fun hm=>absurd (h2 _ hm _ U) (jK k);have ed:fO ((iT t h k).pg (aV t k h t.root))=(fO (t.pg (aV t k h t.root))).eraseIdx (bn (t.pg (aV t k h t.root)) k):=by
  unfold iT;rw[DV hl];exact UY
 have fe:∀{A:List Int},(∀y∈A,fO ((iT t h k).pg y)=fO (t.pg y)\/y=aV t k h t.root)->aV t k h t.root∉A->A.flatMap (fun l=>fO ((iT t h k).pg l))=A.flatMap (fun l=>fO (t.pg l)):=fun {A} hA hn=>tW fun y hy=>(hA y hy).resolve_right fun e'=>hn (e' ▸ hy);have O:∀x:K×Int,x∈(fO (t.pg (aV t k h t.root))).eraseIdx (bn (t.pg (aV t k h t.root)) k)↔x∈fO (t.pg (aV t k h t.root))/\x.1≠k:=fun x=>by
  rw[mem_eraseIdx_iff_getElem];constructor
  ·rintro⟨a,ha',hne,rfl⟩;refine⟨getElem_mem _,fun hc=>hne ?_⟩;have pK:a<(t.pg (aV t k h t.root)).keys.length:=(by unfold fO at ha';rw[length_zip] at ha';omega)
   rw[Ia hlen pK] at hc;have hc:(t.pg (aV t k h t.root)).keys[a]=k:=hc;rcases Nat.lt_trichotomy a (bn (t.pg (aV t k h t.root)) k) with h5|h5|h5
   ·have:=py po.lJ h5 ha;rw[hc,hk] at this;exact absurd this (jK k)
   ·exact h5
   have:=py po.lJ h5 pK;rw[hc,hk] at this;exact absurd this (jK k)
  rintro⟨hx,hne⟩;obtain⟨a,pK,rfl⟩:=(DJ hlen).1 hx;refine⟨a,by unfold fO;rw[length_zip];omega,fun e'=>hne ?_,Ia hlen pK⟩;subst e';exact hk
 show x∈e9 (iT t h k) h t.root↔x∈e9 t h t.root/\_;rw[zi,zi];have apS:dx (iT t h k) h t.root=dx t h t.root:=s3 h (Nat.le_refl _);rw[apS,e,flatMap_append,flatMap_cons,flatMap_append,flatMap_cons,fe fA apR,fe uH Z,ed];simp only[mem_append,O];constructor
 ·rintro(hx|hx|hx)
  ·refine⟨.inl hx,fun hc=>?_⟩;obtain⟨l,nU,hx⟩:=mem_flatMap.1 hx;have:=h1 l nU x hx;rw[hc] at this;exact jK k this
  ·exact⟨.inr (.inl hx.1),hx.2⟩
  refine⟨.inr (.inr hx),fun hc=>?_⟩;obtain⟨l,nU,hx⟩:=mem_flatMap.1 hx;have:=h2 l nU x hx;rw[hc] at this;exact jK k this
 rintro⟨hx|hx|hx,hne⟩
 ·exact .inl hx
 ·exact .inr (.inl ⟨hx,hne⟩)
 exact .inr (.inr hx)
end
def vt(lv:List (List Int))(n:Nat):List (List Int):=lv++replicate (n-lv.length) []
def mj(lv:List (List Int))(level:Nat)(i:Int):List (List Int):=(vt lv (level+1)).set level ((vt lv (level+1)).getD level []++[i])
abbrev kC:=List Int×List (List Int)
def nH(go:Int->K->K->kC->Option (Nat×kC))(low:K)(p:dU):List Int->Nat->Option Nat->kC->Option (Nat×kC)
 | [],_,deep,s=>deep.map fun d=>(d,s)
 | c::cs,k,deep,s=>match go c (jr low p k) (jd p k) s with
  | none=>none
  | some (d,s')=>if deep=none\/deep=some d then nH go low p cs (k+1) (some d) s' else none
def kg(t:aI):Nat->Int->K->K->Nat->kC->Option (Nat×kC)
 | 0,_,_,_,_,_=>none
 | f+1,i,low,high,level,s =>
  if i∈s.1 then none
  else if (t.pg i).high≠high\/(∃k,(t.pg i).keys.head?=some k/\bI k low) then none
  else if (t.pg i).leaf=true then some (level,(s.1++[i],mj s.2 level i))
  else nH (fun c lo hi s=>kg t f c lo hi (level+1) s) low (t.pg i) (t.pg i).kids 0 none (s.1++[i],mj s.2 level i)
def xH(t:aI):Prop:=∀p∈t.af,fq p t.af.length
open Classical in
noncomputable def gF(t:aI):Int :=
 if t.af.length<1\/t.af.length>4000\/t.root<0\/t.root>=t.af.length then 11
 else if ¬xH t then 11
 else match kg t (t.af.length+1) t.root [] [] 0 ([],[]) with
  | none=>11
  | some (_,s)=>if s.1.length≠t.af.length then 11 else if ∀l∈s.2,fV t l (-1) then 0 else 11
theorem Wu(lv:List (List Int))(n:Nat):(vt lv n).length=max lv.length n:=by unfold vt;rw[length_append,length_replicate];omega
theorem NY(lv:List (List Int))(n m:Nat):(vt lv n).getD m []=lv.getD m []:=by
 unfold vt;rw[getD_eq_getElem?_getD,getD_eq_getElem?_getD];rcases Nat.lt_or_ge m lv.length with h|h
 ·rw[getElem?_append_left h]
 rw[getElem?_append_right h,getElem?_eq_none h,getElem?_replicate];split<;>rfl
theorem M6(lv:List (List Int))(level:Nat)(i:Int):(mj lv level i).length=max lv.length (level+1):=by unfold mj;rw[length_set,Wu]
theorem ID(lv:List (List Int))(level:Nat)(i:Int)(m:Nat):(mj lv level i).getD m []=lv.getD m []++(if m=level then [i] else []):=by
 unfold mj;rw[getD_eq_getElem?_getD];by_cases e:m=level
 ·subst e;rw[getElem?_set_self (by rw[Wu];omega),NY,if_pos rfl];rfl
 rw[getElem?_set_ne (fun h=>e h.symm),if_neg e,append_nil,<-getD_eq_getElem?_getD,NY]
def zK(t:aI)(h level:Nat)(i:Int)(m:Nat):List Int:=if level<=m/\m<=level+h then dx t (m-level) i else []
variable {t:aI}
theorem Wv {h level:Nat} {low:K} {p:dU} (go:Int->K->K->kC->Option (Nat×kC))
  (O:∀(c:Int) (lo hi:K) (s:kC),eS t h c lo hi->(∀x∈ids t h c,x∉s.1)->(ids t h c).Nodup->∃lv,go c lo hi s=some (level+1+h,(s.1++ids t h c,lv))/\lv.length=max s.2.length (level+1+h+1)/\∀m,lv.getD m []=s.2.getD m []++zK t h (level+1) c m) :
  ∀(cs:List Int) (k:Nat) (deep:Option Nat) (s:kC),(∀j (hj:j<cs.length),eS t h cs[j] (jr low p (k+j)) (jd p (k+j)))->(cs.flatMap (ids t h)).Nodup->(∀x∈cs.flatMap (ids t h),x∉s.1)->(deep=none\/deep=some (level+1+h))->(cs≠[]\/deep≠none) ->
   ∃lv,nH go low p cs k deep s=some (level+1+h,(s.1++cs.flatMap (ids t h),lv))/\lv.length=(if cs=[] then s.2.length else max s.2.length (level+1+h+1))/\∀m,lv.getD m []=s.2.getD m []++(if level+1<=m/\m<=level+1+h then cs.flatMap (dx t (m-(level+1))) else [])
 | [],k,deep,s,_,_,_,hd,hne=>by
  rcases hd with rfl|rfl
  ·rcases hne with h|h<;>exact absurd rfl h
  exact⟨s.2,by simp[nH],by simp,fun m=>by split<;>simp⟩
 | c::cs,k,deep,s,bf,hnd,E,hd,_=>by
  rw[flatMap_cons] at hnd E;rw[nodup_append] at hnd;obtain⟨n1,n2,n3⟩:=hnd;obtain⟨I,e1,l1,m1⟩:=O c (jr low p k) (jd p k) s (bf 0 bC) (fun x hx=>E x (mem_append_left _ hx)) n1;obtain⟨U,e2,l2,m2⟩:=Wv go O cs (k+1) (some (level+1+h)) (s.1++ids t h c,I) (fun j hj=>by
   have:=bf (j+1) (by simpa using hj);simp only[getElem_cons_succ] at this;rw[show k+1+j=k+(j+1) by omega];exact this) n2 (fun x hx hm=>by
    rcases mem_append.1 hm with hm|hm
    ·exact E x (mem_append_right _ hx) hm
    exact n3 x hm x hx rfl) (.inr rfl) (.inr bC)
  refine⟨U,?_,?_,fun m=>?_⟩
  ·rw[nH,e1];show(if deep=none\/deep=some (level+1+h) then _ else _)=_;rw[if_pos hd,e2,flatMap_cons,append_assoc]
  ·rw[l2];show(if cs=[] then I.length else max I.length _)=_;rw[l1,if_neg (cons_ne_nil c cs)];split<;>omega
  rw[m2,m1];unfold zK;split
  ·rw[flatMap_cons,append_assoc]
  simp
theorem Y3(hp:∀p∈t.af,fq p t.af.length):∀{h f:Nat} {i:Int} {low high:K} {level:Nat} {s:kC},h<f->eS t h i low high->(∀x∈ids t h i,x∉s.1)->(ids t h i).Nodup ->
  ∃lv,kg t f i low high level s=some (level+h,(s.1++ids t h i,lv))/\lv.length=max s.2.length (level+h+1)/\∀m,lv.getD m []=s.2.getD m []++zK t h level i m
 | h,0,_,_,_,_,_,hf,_,_,_=>by omega
 | 0,f+1,i,low,high,level,s,hf,ok,E,hnd=>by
  obtain⟨q1,q2,q3,O⟩:=ok;refine⟨mj s.2 level i,?_,M6 _ _ _,fun m=>?_⟩
  ·rw[kg,if_neg (E i (vR 0 i)),if_neg,if_pos q2];rfl;rintro(h|⟨k,hk,aa⟩)
   ·exact h q3
   exact O k (mem_of_mem_head? hk) aa
  rw[ID];unfold zK;congr 1;by_cases e:m=level
  ·subst e;rw[if_pos rfl,if_pos ⟨Nat.le_refl _,Nat.le_refl _⟩,Nat.sub_self];rfl
  rw[if_neg e,if_neg w4]
 | h+1,f+1,i,low,high,level,s,hf,ok,E,hnd=>by
  obtain⟨q1,q2,q3,O,U⟩:=ok;have po:=hp _ (kH q1);have I:(t.pg i).kids≠[]:=fun e=>by have:=(po.node q2).1;rw[e] at this;simp at this
  rw[ids,nodup_cons] at hnd;rw[ids] at E;obtain⟨lv,e,l,Z⟩:=Wv (t:=t) (h:=h) (level:=level) (low:=low) (p:=t.pg i) (fun c lo hi s=>kg t f c lo hi (level+1) s)
   (fun c lo hi s ok hd hn=>Y3 hp (h:=h) (f:=f) (level:=level+1) w4 ok hd hn) (t.pg i).kids 0 none (s.1++[i],mj s.2 level i) (fun j hj=>by rw[Nat.zero_add];exact U j hj) hnd.2 (fun x hx hm=>by
    rcases mem_append.1 hm with hm|hm
    ·exact E x (mem_cons_of_mem _ hx) hm
    rw[mem_singleton] at hm;subst hm;exact hnd.1 hx) (.inl rfl) (.inl I)
  refine⟨lv,?_,?_,fun m=>?_⟩
  ·rw[kg,if_neg (E i mem_cons_self),if_neg,if_neg (by rw[q2];decide),e,ids]
   ·simp;omega
   rintro(h|⟨k,hk,aa⟩)
   ·exact h q3
   exact O k (mem_of_mem_head? hk) aa
  ·rw[l,if_neg I];show max (mj s.2 level i).length _=_;rw[M6];omega
  rw[Z];show(mj s.2 level i).getD m []++_=_;rw[ID];unfold zK;rw[append_assoc];congr 1;by_cases e1:m=level
  ·subst e1;rw[if_pos rfl,if_neg w4,if_pos ⟨Nat.le_refl _,by omega⟩,Nat.sub_self];rfl
  rw[if_neg e1,nil_append];by_cases e2:level+1<=m/\m<=level+1+h
  ·rw[if_pos e2,if_pos w4];obtain⟨d,rfl⟩:∃d,m=level+1+d:=⟨m-(level+1),by omega⟩
   rw[show level+1+d-(level+1)=d by omega,show level+1+d-level=d+1 by omega,dx]
  rw[if_neg e2,if_neg w4]
open Classical in
theorem Ib{h:Nat}(v:Valid t h):gF t=0:=by
 have hr:=v.range;have rR:=v.pos;have hm:=v.qb;unfold gF;rw[if_neg w4,if_neg (by exact fun hn=>hn v.gB)];obtain⟨lv,e,l,E⟩:=Y3 v.gB (f:=t.af.length+1) (level:=0) (s:=([],[])) (by have:=v.high;omega) v.ok (fun x _ hx=>by cases hx) v.CL;rw[e];show(if ([]++ids t h t.root).length≠t.af.length then _ else if ∀l∈lv,fV t l (-1) then (0:Int) else 11)=0;rw[if_neg (by rw[nil_append,v.all];simp),if_pos];intro x hx;obtain⟨m,vM,rfl⟩:=mem_iff_getElem.1 hx;have:=E m;rw[getD_eq_getElem?_getD,getElem?_eq_getElem vM] at this;have e2:lv[m]=zK t h 0 t.root m:=(by simpa using this)
 rw[e2];unfold zK;rw[l] at vM;rw[if_pos (by simp at vM;omega),Nat.sub_zero];exact v.rX m (by simp at vM;omega)
end Tr
namespace Tw
open List
open Go.Proofs.Tryz
open Go.RowKit V Tr Pk
open Go.Lib (compareBytes)
variable {l k:K} {p:dU} {many:Int} {i:Nat}
def cK(k:K):List D:=[aj 1 cB k]
theorem iw(k:K):(cK k).length=1:=rfl
theorem rJ(k:K):(cK k).all V.one=true:=rfl
def cI(n:Int):List D:=[ae n]
theorem fp(n:Int):(cI n).length=1:=rfl
theorem pV(n:Int):(cI n).all V.one=true:=rfl
def cP(p:dU):List D:=[aW p.leaf,aj 1 cK p.keys,aj 1 cI p.kids,aj 1 cB p.high,ae p.next]
theorem I7(p:dU):(cP p).length=5:=rfl
theorem alV(p:dU):(cP p).all V.one=true:=rfl
def cT(t:aI):List D:=[aj 5 cP t.af,ae t.root]
def qB(k:K):Bool:=decide (0<k.length/\k.length<=100)
def xS(p:dU)(i:Nat):Prop:=∀(h:i<p.keys.length),qB p.keys[i]=true/\(∀(h0:0<i),bI (p.keys[i-1]'w4) p.keys[i])/\(p.high≠[]->bI p.keys[i] p.high)
theorem aiL{l:List K}(h:∀i (hi:i<l.length) (h0:0<i),bI (l[i-1]'w4) l[i]):l.Pairwise bI:=by
 refine pairwise_iff_getElem.2 fun i j hi hj E=>?_;obtain⟨d,rfl⟩:∃d,j=i+1+d:=⟨j-(i+1),by omega⟩
 induction d with
 | zero=>have:=h (i+1) hj w4;simpa using this
 | succ d ih =>
  have h1:=ih w4 w4;have h2:=h (i+1+(d+1)) hj w4;exact l5 h1 (by simpa using h2)
theorem W9{n:Int}(h:fq p n)(i:Nat):xS p i:=fun hi=>by
 have hm:=getElem_mem hi;have:=h.nf _ hm;exact⟨by unfold qB;simp;omega,fun h0=>py h.lJ w4 hi,fun hne=>h.s6 hne _ hm⟩
theorem Oo(h:decide ((l.length:Int)>0)=true):l≠[]:=fun e=>by rw[e] at h;cases h
theorem len_nil(h:decide ((l.length:Int)>0)=false):l=[]:=by
 have:=of_decide_eq_false h;exact length_eq_zero_iff.1 w4
theorem ZD{hi:K}(h:decide ((hi.length:Int)>0)=true):decide (compareBytes k hi>=0)=decide (hi≠[]/\¬bI k hi):=by
 have:=Oo h;unfold bI;simp[this]
theorem ZE{hi:K}(h:decide ((hi.length:Int)>0)=false):false=decide (hi≠[]/\¬bI k hi):=by simp[len_nil h]
variable {G:List (Nat×List Value)}
theorem zv(a b:K):VP Tryz.prog G 61 [aj 1 cB a,aj 1 cB b] (ae (compareBytes a b)):=by
 exact z173
theorem Pn(a b:K)(ha:a.length<=maxLen)(hb:b.length<=maxLen):VP Tryz.prog G 95 [aj 1 cB a,aj 1 cB b] (aW (decide (a=b))):=by
 refine bA func95 rfl ntmps95 aO fun X0 w0 bz=>?_;refine ay [0,1] ?_;refine cJ [4] ?_;refine aM 1 ?_ (h:=by exact Ay);refine aM 1 ?_ (h:=by exact Ay);refine bB ?_;refine eD [] ?_;refine⟨vb ?_,rfl⟩;rw[ByteArray.toList_eq,ByteArray.toList_eq];show(a==b)=decide (a=b);by_cases h:a=b<;>simp[h]
theorem B7(k:K):VP Tryz.prog G 135 [aj 1 cB k] (aW (qB k)):=by
 refine bA func135 rfl ntmps135 aO fun X0 w0 bz=>?_;refine ay [0] ?_;refine az 4 ?_;refine cz 6 (fun I E=>?_) (fun I E=>?_)
 ·refine bL [2] ?_;refine fJ ?_;refine⟨vb ?_,rfl⟩;unfold qB;first|(simp_all;done)|(simp_all;omega)
 refine bL [2] ?_;refine fJ ?_;refine⟨vb ?_,rfl⟩;unfold qB;first|(simp_all;done)|(simp_all;omega)
theorem agW(p:dU)(k:K):VP Tryz.prog G 163 [.agg (cP p),aj 1 cB k] (aW (decide (p.high≠[]/\¬bI k p.high))):=by
 refine bA func163 rfl ntmps163 aO fun X0 w0 bz=>?_;unfold cP;refine cq ?_;refine dm [_,_,_,_,_] (fun b2=>?_);refine ap 16 [1,2] ?_;refine az 5 ?_;refine cz 9 (fun E I=>?_) (fun E I=>?_)
 ·refine aF 3 ?_;refine pS jq rfl rfl rfl call61 (zv k p.high) ⟨ot,ot,trivial⟩ ?_;refine eA 16 [4] [] ?_;refine⟨vb ?_,rfl⟩;first|exact ZD E|exact ZE E
 refine bL [4] ?_;refine fJ ?_;refine⟨vb ?_,rfl⟩;first|exact ZD E|exact ZE E
theorem ZF{a:Int}(h:(decide (a<0)!=((l.length:Int)==0))=false):a<0↔l=[]:=by
 have h:decide (a<0)=((l.length:Int)==0):=(by simpa using h)
 rw[<-length_eq_zero_iff];constructor
 ·intro q;rw[decide_eq_true q] at h;have:=beq_iff_eq.1 h.symm;omega
 intro q;rw[q] at h;exact of_decide_eq_true h
theorem amz{a:Int}(h:a<0↔l=[]):(!(decide (a<0)==((l.length:Int)==0)))=false:=by
 rw[<-length_eq_zero_iff] at h;by_cases q:a<0
 ·rw[decide_eq_true q,h.1 q];rfl
 rw[decide_eq_false q];have:¬l.length=0:=fun e=>q (h.2 e);simp;exact fun e=>this (by rw[e];rfl)
open Classical in
noncomputable def EJ(p:dU)(many:Int):Bool:=decide (fq p many)
open Classical in
theorem HN(h:¬fq p many):false=EJ p many:=(decide_eq_false h).symm
open Classical in
theorem agX(h:fq p many):true=EJ p many:=(decide_eq_true h).symm
theorem ajC{n:Int}(h:fq p n)(hi:i<p.kids.length):0<=p.kids[i]/\(p.leaf=false->p.kids[i]<n):=⟨h.aB _ (getElem_mem hi),fun hl=>h.yg hl _ (getElem_mem hi)⟩
theorem aiM(f1:p.keys.length<=4)(f2:p.high.length<=100)(f3:-1<=p.next)(f4:p.next<many)(f5:(p.next<0↔p.high=[]))(f6:(p.leaf=true->p.kids.length=p.keys.length))(f7:(p.leaf=false->p.kids.length=p.keys.length+1/\p.keys.length≠0))(hk:∀j,j<p.keys.length->xS p j)(hc:∀j (hj:j<p.kids.length),0<=p.kids[j]/\(p.leaf=false->p.kids[j]<many)):fq p many:=by
 refine⟨f1,f2,f3,f4,f5,f6,fun h=>⟨(f7 h).1,fun e=>(f7 h).2 (by rw[e];rfl)⟩,fun k h=>?_,fun hne k h=>?_,aiL fun i hi h0=>(hk i hi hi).2.1 h0,fun n h=>?_,fun hl n h=>?_⟩
 ·obtain⟨i,hi,rfl⟩:=mem_iff_getElem.1 h;have:=(hk i hi hi).1;unfold qB at this;have:=of_decide_eq_true this;omega
 ·obtain⟨i,hi,rfl⟩:=mem_iff_getElem.1 h;exact(hk i hi hi).2.2 hne
 ·obtain⟨i,hi,rfl⟩:=mem_iff_getElem.1 h;exact(hc i hi).1
 obtain⟨i,hi,rfl⟩:=mem_iff_getElem.1 h;exact(hc i hi).2 hl
theorem ako(p:dU)(many:Int)(eT:p.keys.length<=maxLen)(gq:p.kids.length<=maxLen):VP Tryz.prog G 96 [.agg (cP p),ae many] (aW (EJ p many)):=by
 refine bA func96 rfl ntmps96 aO fun X0 w0 bz=>?_;unfold cP;have dy:=ee;refine cq ?_;refine dm [_,_,_,_,_] (fun b2=>?_);refine ap 132 [1,2] ?_;refine az 5 ?_;refine cz 13 (fun apT Z=>?_) (fun apT Z=>?_)
 ·exact JZ
 refine aF 6 ?_;refine cz 19 (fun Qr ani=>?_) (fun Qr ani=>?_)
 ·exact JZ
 refine aF 5 ?_;refine cz 24 (fun apU anj=>?_) (fun apU anj=>?_)
 ·exact JZ
 refine aF 6 ?_;refine cz 30 (fun apV ank=>?_) (fun apV ank=>?_)
 ·exact JZ
 refine aF 7 ?_;refine qM jq rfl (eE rfl ot ot (VL underlying4)) ?_;refine ap 132 [1,2,39] ?_;refine bX ?_ ?_<;>intro aP bH
 ·refine dS [4] [] ?_;exact KB
 refine eI ?_;refine iM [1,2] (fun aU I aE=>(p.keys.length<=4)/\(p.high.length<=100)/\(-1<=p.next)/\(p.next<many)/\((p.next<0↔p.high=[]))/\((p.leaf=true->p.kids.length=p.keys.length))/\((p.leaf=false->p.kids.length=p.keys.length+1/\p.keys.length≠0))/\aE=(⟨132,aU,I⟩:St)) ?_ ?_
 ·refine az 3 ?_;refine cz 42 (fun ux anl=>?_) (fun ux anl=>?_)
  ·refine aF 9 ?_;refine cz 51 (fun apW anm=>?_) (fun apW anm=>?_)
   ·exact aa3
   refine aF 4 ?_;refine cz 55 (fun wF E=>?_) (fun wF E=>?_)
   ·exact absurd wF (by rw[ux];decide)
   refine bL [1,2,71] ?_;refine gK ?_;refine eI ?_;refine⟨_,aL,w4,w4,w4,w4,(ZF aP),(fun _=>by omega),(fun h=>absurd ux (by rw[h];decide)),rfl⟩
  refine AM 7 ?_;refine aF 6 ?_;refine cz 55 (fun wF E=>?_) (fun wF E=>?_)
  ·refine aF 9 ?_;refine cz 64 (fun QC Pj=>?_) (fun QC Pj=>?_)
   ·exact aa3
   refine bL [1,2,71] ?_;refine bX ?_ ?_<;>intro bg cM
   ·refine ay [4] ?_;refine fJ ?_;exact KB
   refine eI ?_;refine⟨_,aL,w4,w4,w4,w4,(ZF aP),(fun h=>absurd ux (by rw[h];decide)),(fun _=>⟨by omega,by omega⟩),rfl⟩
  exact absurd wF (by rw[ux];decide)
 rintro _ ⟨f1,f2,f3,f4,f5,f6,f7,rfl⟩;refine ay [1,2,73,74,75] ?_;refine eZ [1,2,73,74] (fun aU I (i:Nat) aE=>(i<=p.keys.length)/\(∀j,j<i->xS p j)/\aE=(⟨132,(75,ae (i:Nat))::aU,I⟩:St)) (fun (i:Nat)=>p.keys.length-i) 0 ⟨(Nat.zero_le _),(fun j h=>by omega),rfl⟩ ?_;rintro i _ ⟨hi,wR,rfl⟩;refine ax [1,2,73,74,75,76] ?_ ?_<;>intro cl di
 ·have aa:i<p.keys.length:=(by omega)
  refine ay [1,2,5,6,73,74,75] ?_;refine az 1 ?_;refine dK call135 (B7 p.keys[i]) ?_;refine aF 2 ?_;refine cz 83 (fun zX ann=>?_) (fun zX ann=>?_)
  ·refine ap 132 [1,2,73,74,75,110] ?_;refine fu ?_;exact z45
  refine aF 3 ?_;refine cz 86 (fun apX ano=>?_) (fun apX ano=>?_)
  ·refine aF 4 ?_;refine bS (ei 1 (h:=by first|exact .l (j:=i-1) w4 w4|exact .r (j:=i-1) w4 w4)) ?_;refine aF 2 ?_;refine pS jq rfl rfl rfl call61 (zv (p.keys[i-1]'w4) p.keys[i]) ⟨ot,ot,trivial⟩ ?_;refine aF 4 ?_;refine cz 98 (fun Ct Ju=>?_) (fun Ct Ju=>?_)
   ·refine ap 132 [1,2,73,74,75,110] ?_;refine fu ?_;exact z45
   refine aF 5 ?_;exact z25
  refine AM 9 ?_;refine aF 8 ?_;exact z25
 have anp:∀j,j<p.keys.length->xS p j:=fun j hj=>wR j w4;refine ay [1,2,113,114,115] ?_;refine eZ [1,2,113,114] (fun aU I (i:Nat) aE=>(i<=p.kids.length)/\(∀j (_:j<i) (hj:j<p.kids.length),0<=p.kids[j]/\(p.leaf=false->p.kids[j]<many))/\aE=(⟨132,(115,ae (i:Nat))::aU,I⟩:St)) (fun (i:Nat)=>p.kids.length-i) 0 ⟨(Nat.zero_le _),(fun j h=>by omega),rfl⟩ ?_;rintro i _ ⟨mM,mr,rfl⟩;refine ax [1,2,113,114,115,116] ?_ ?_<;>intro eo fR
 ·have aa:i<p.kids.length:=(by omega)
  refine ay [1,2,8,113,114,115] ?_;refine az 3 ?_;refine cz 121 (fun O3 O=>?_) (fun O3 O=>?_)
  ·refine bL [1,2,113,114,115,130] ?_;refine fu ?_;exact z89
  refine aF 4 ?_;refine cz 125 (fun Jj U=>?_) (fun Jj U=>?_)
  ·refine bL [1,2,113,114,115,130] ?_;refine bX ?_ ?_<;>intro fH ik
   ·exact z89
   exact z79
  refine bL [1,2,113,114,115,130] ?_;refine gK ?_;exact z79
 refine dS [4] [] ?_;refine⟨vb (agX (aiM f1 f2 f3 f4 f5 f6 f7 anp fun j hj=>mr j w4 hj)),rfl⟩
def pz(keys:List K)(k:K):Bool:=decide (keys[iL keys k]?=some k)
theorem aiN{keys:List K}(hi:i<=keys.length)(h1:∀m (hm:m<keys.length),m<i->bI keys[m] k)(h2:∀m (hm:m<keys.length),i<=m->¬bI keys[m] k):iL keys k=i:=by
 have E:=BD keys k;rcases Nat.lt_trichotomy (iL keys k) i with h|h|h
 ·have aa:iL keys k<keys.length:=(by omega)
  exact absurd (h1 _ aa h) (DI aa)
 ·exact h
 obtain⟨h',q⟩:=DS h;exact absurd q (h2 _ h' (Nat.le_refl _))
theorem agY{keys:List K}(hr:keys.Pairwise bI)(k:K):oQ keys k=if pz keys k=true then iL keys k+1 else iL keys k:=by
 have E:=BD keys k;split
 ·rename_i hf;unfold pz at hf;have hf:=of_decide_eq_true hf;obtain⟨aa,he⟩:=List.getElem?_eq_some_iff.1 hf;refine NW hr w4 (fun _=>?_) (fun h=>?_)
  ·show ¬bI k (keys[iL keys k+1-1]'w4);simp only[Nat.add_sub_cancel,he];exact jK k
  have:=py hr (Nat.lt_succ_self (iL keys k)) h;rw[he] at this;exact this
 rename_i hf;refine NW hr E (fun h0=>?_) (fun h=>?_)
 ·exact zw (DS (by omega:iL keys k-1<iL keys k)).2
 have h1:=DI h;rcases B5 keys[iL keys k] k with h2|h2|h2
 ·exact absurd h2 h1
 ·exfalso;apply hf;unfold pz;rw[getElem?_eq_getElem h,h2];simp
 exact h2
theorem amy{a:Nat}:((a:Nat):Int).fdiv (2 ^ min (1:Int).toNat IntKind.u64.bits)=((a/2:Nat):Int):=by
 rw[show min (1:Int).toNat IntKind.u64.bits=1 from rfl,Int.fdiv_eq_ediv_of_nonneg _ w7];rfl
theorem Y4{keys:List K}(hd:iL keys k=i)(hi:i<keys.length):(D.dF [ae (i:Nat),aW (compareBytes keys[i] k==0)]) = .dF [ae (iL keys k:Nat),aW (pz keys k)]/\([]:List ag)=[]:=by
 subst hd;refine⟨?_,rfl⟩;have:(compareBytes keys[iL keys k] k==0)=pz keys k:=by
  unfold pz;rw[getElem?_eq_getElem hi];by_cases h:keys[iL keys k]=k
  ·have:=lR.2 h;rw[this];simp[h]
  have:¬compareBytes keys[iL keys k] k=0:=fun e=>h (lR.1 e);simp[h,this]
 rw[this]
theorem XW{keys:List K}(hd:iL keys k=i)(hi:keys.length<=i):(D.dF [ae (i:Nat),aW false]) = .dF [ae (iL keys k:Nat),aW (pz keys k)]/\([]:List ag)=[]:=by
 subst hd;refine⟨?_,rfl⟩;have:pz keys k=false:=(by unfold pz;rw[getElem?_eq_none hi];rfl)
 rw[this]
theorem agZ(keys:List K)(k:K)(hr:keys.Pairwise bI)(hl:keys.length<=1000):VP Tryz.prog G 164 [aj 1 cK keys,aj 1 cB k,.fg (.func 61) []] (.dF [ae (iL keys k:Nat),aW (pz keys k)]):=by
 refine bA func164 rfl ntmps164 aO fun X0 w0 bz=>?_;have dy:=ee;refine ay [0,1,2] ?_;refine ay [0,1,2,8] ?_;refine ay [0,1,2,8,9,10] ?_;refine eZ [0,1,2,8] (fun aU _ (aR:Nat×Nat) aE=>match aR with|(i,j)=>(i<=j)/\(j<=keys.length)/\(∀m (hm:m<keys.length),m<i->bI keys[m] k)/\(∀m (hm:m<keys.length),j<=m->¬bI keys[m] k)/\aE=(⟨49,(9,ae (i:Nat))::(10,ae (j:Nat))::aU,[]⟩:St)) (fun (aR:Nat×Nat)=>match aR with|(i,j)=>j-i) (0,keys.length) ⟨(Nat.zero_le _),(Nat.le_refl _),(fun m hm h=>by omega),(fun m hm h=>by omega),rfl⟩ ?_;rintro⟨i,j⟩ _ ⟨hij,hjn,h1,h2,rfl⟩;refine ax [0,1,2,8,9,10,17] ?_ ?_<;>intro aP bH
 ·have aa:i<j:=(by omega)
  have E:((i+j)/2)<keys.length:=(by omega)
  refine cJ [0,1,2,8,9,10,11] ?_;refine aM 2 ?_ (h:=Rj);refine aM 0 ?_ (h:=Ri);refine aM 0 ?_ (h:=FL);refine aM 0 ?_ (h:=Rh);refine bB ?_;refine az 6 ?_;refine nB (f:=61) (args:=[_,_]) (all:=[_,_]) (Sf:=[]) au rfl rfl ot call61 (zv (keys[((i+j)/2)]'E) k) rfl ⟨ot,ot,trivial⟩ (fj _) ?_;rintro _ _ ⟨rfl,rfl⟩;refine ap 49 [0,1,2,8,9,10,11,31] ?_;refine bX ?_ ?_<;>intro bg cM
  ·have hc:bI (keys[((i+j)/2)]'E) k:=of_decide_eq_true bg;have U:∀m (hm:m<keys.length),m<((i+j)/2)+1->bI keys[m] k:=fun m hm h=>by (rcases Nat.lt_or_ge m ((i+j)/2) with q|q);exact l5 (py hr q E) hc;(have:m=((i+j)/2):=by omega);subst this;exact hc
   refine bM [0,1,2,8,9,10] ?_;refine⟨((((i+j)/2)+1),j),_,cR,aL,w4,w4,(fun m hm h=>by rcases Nat.lt_or_ge m i with q|q;exact h1 m hm q;exact U m hm w4),h2,rfl⟩
  have hc:¬bI (keys[((i+j)/2)]'E) k:=of_decide_eq_false bg;have I:∀m (hm:m<keys.length),((i+j)/2)<=m->¬bI keys[m] k:=fun m hm h hh=>by (rcases Nat.lt_or_ge ((i+j)/2) m with q|q);exact hc (l5 (py hr q hm) hh);(have:m=((i+j)/2):=by omega);subst this;exact hc hh
  refine bM [0,1,2,8,9,10] ?_;refine⟨(i,((i+j)/2)),_,cR,aL,w4,w4,h1,I,rfl⟩
 obtain rfl:i=j:=(by omega)
 have hd:=aiN hjn h1 h2;refine az 5 ?_;refine cz 39 (fun Z O=>?_) (fun Z O=>?_)
 ·refine aF 6 ?_;refine nB (f:=61) (args:=[_,_]) (all:=[_,_]) (Sf:=[]) jq rfl rfl ot call61 (zv (keys[i]'w4) k) rfl ⟨ot,ot,trivial⟩ (fj _) ?_;rintro _ _ ⟨rfl,rfl⟩;refine eA 49 [6,7] [] ?_;first|exact Y4 hd w4|exact XW hd w4
 refine bL [6,7] ?_;refine RF ?_;first|exact Y4 hd w4|exact XW hd w4
theorem M7(p:dU)(k:K)(hr:p.keys.Pairwise bI)(hl:p.keys.length<=1000):VP Tryz.prog G 137 [.agg (cP p),aj 1 cB k] (ae (bn p k:Nat)):=by
 refine bA func137 rfl ntmps137 aO fun X0 w0 bz=>?_;unfold cP;have dy:=ee;have I:=BD p.keys k;have hud:=agY hr k;refine cq ?_;refine dm [_,_,_,_,_] (fun b2=>?_);refine ap 23 [1,2] ?_;refine cW [2,5,6] (agZ p.keys k hr hl) ?_;refine az 2 ?_;refine cz 15 (fun E1 E=>?_) (fun E1 E=>?_)
 ·refine bL [5,19] ?_;refine bX ?_ ?_<;>intro aP bH
  ·refine bM [5] ?_;exact z127
  exact z127
 refine bL [5,19] ?_;refine gK ?_;refine ay [4] ?_;refine fJ ?_;refine⟨vi ?_,rfl⟩;unfold bn;first|(rw[E1] at hud;cases gJ:p.leaf<;>simp_all;done)|(simp_all;done)|(simp_all;omega)
end Tw
end Go.Proofs.YtihmfhcjbmlnaaaGreatDoor
