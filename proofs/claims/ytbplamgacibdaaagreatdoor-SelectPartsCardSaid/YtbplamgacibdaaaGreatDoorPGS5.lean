/-
  GS: walks and plain facts, part 5.
-/
import Derived.Test.YtbplamgacibdaaaGreatDoorPGS4
set_option linter.unusedVariables false
set_option linter.unusedSimpArgs false
set_option maxRecDepth 100000
set_option maxHeartbeats 4000000
namespace Go.Proofs.YtbplamgacibdaaaGreatDoor
namespace Ex
open List
open Go.Proofs.Tryz
open Go.RowKit V Pk Vl Go.Proofs.YtbplamgacibdaaaGreatDoor.Nm Pc
variable {α:Type} {l:List aH} {i:Nat} {h:Int}
theorem x8(p:α->Bool)(ls:List α):-1<=c9 p ls/\c9 p ls<ls.length:=by
 unfold c9;cases h:ls.findIdx? p with
 | none=>simp;omega
 | some i=>have:=(findIdx?_eq_some_iff_findIdx_eq.1 h).1;simp;omega
def bE(l:List cm)(nm:ByteArray):Int:=c9 (fun c=>c.n.toList==nm.toList) l
def r9(a b:Int):Bool:=a==b||a==0
def okF(k a b:Int):Bool :=
 if k=3\/k=4 then r9 a 1&&r9 b 1 else if k=5 then r9 a 1 else if k=6\/k=7 then r9 a b||b==0 else if k=8\/k=9\/k=10 then r9 a 2&&r9 b 2 else true
def um(k:Int):Int:=if k=8\/k=9\/k=10 then 2 else 1
def vr(l:List cm)(nm:ByteArray):Int×Int:=if bE l nm<0 then (0,8) else ((l.getD (bE l nm).toNat ⟨⟨#[]⟩,0⟩).k,0)
def gA(l:List cm)(o:aH)(a b:Int):Int×Int :=
 if o.k=1 then (o.v.k,0) else if o.k=2 then vr l o.nm else if okF o.k a b=true then (um o.k,0) else (0,4)
def dM(z:α)(k:Int)(st:List α):α:=if 0<bu k then st.getD (st.length-(bu k).toNat) z else z
def dZ(z:α)(k:Int)(st:List α):α:=if 1<bu k then st.getD (st.length-(bu k).toNat+1) z else z
def fk{α:Type}(z:α)(f:aH->α->α->α × Int):List aH->List α->α × Int
 | [],st=>(st.getD 0 z,0)
 | o::r,st =>
  if (f o (dM z o.k st) (dZ z o.k st)).2≠0 then (z,(f o (dM z o.k st) (dZ z o.k st)).2)
  else fk z f r (st.take (st.length-(bu o.k).toNat)++[(f o (dM z o.k st) (dZ z o.k st)).1])
theorem Vk{z:α}{f:aH->α->α->α × Int}{st:List α}(hi:i<l.length)(h:(f l[i] (dM z l[i].k st) (dZ z l[i].k st)).2≠0) :
  fk z f (l.drop i) st=(z,(f l[i] (dM z l[i].k st) (dZ z l[i].k st)).2):=by rw[drop_eq_getElem_cons hi,fk,if_pos h]
theorem Vm{z:α}{f:aH->α->α->α × Int}{st:List α}(hi:i<l.length)(h:(f l[i] (dM z l[i].k st) (dZ z l[i].k st)).2=0) :
  fk z f (l.drop i) st=fk z f (l.drop (i+1)) (st.take (st.length-(bu l[i].k).toNat)++[(f l[i] (dM z l[i].k st) (dZ z l[i].k st)).1]):=by
 rw[drop_eq_getElem_cons hi,fk,if_neg (by rw[h];simp)]
theorem TM{z:α}{f:aH->α->α->α × Int}{st:List α}(hi:¬i<l.length):fk z f (l.drop i) st=(st.getD 0 z,0):=by
 rw[drop_of_length_le w4];rfl
theorem RI(hi:i<l.length)(h0:gb h (l.drop i)=0):gG h l[i]=0/\gb (h+(1-bu l[i].k)) (l.drop (i+1))=0:=by
 rw[drop_eq_getElem_cons hi,gb] at h0;by_cases he:gG h l[i]=0
 ·rw[if_pos he] at h0;exact⟨he,h0⟩
 rw[if_neg he] at h0;exact absurd h0 he
theorem TN(hi:¬i<l.length)(h0:gb h (l.drop i)=0):h=1:=by
 rw[drop_of_length_le w4,gb] at h0;split at h0
 ·assumption
 cases h0
theorem u9{o:aH}(he:gG h o=0):bu o.k<=h/\(1<=o.k/\o.k<=11)/\jy o.v=0/\(o.k=2->cR o.nm=0):=by
 unfold gG at he;split at he
 ·cases he
 split at he
 ·rename_i h2;exact absurd he h2
 split at he
 ·cases he
 split at he
 ·rename_i h4;exact absurd he h4.2
 split at he
 ·cases he
 rename_i q1 q2 I E O;refine⟨by omega,by omega,by simpa using q2,fun hk=>?_⟩;by_cases hn:cR o.nm=0
 ·exact hn
 exact absurd ⟨hk,hn⟩ E
def sP(l:List cm)(ops:List aH):Int×Int:=fk 0 (gA l) ops []
def cu(l:List cm)(ops:List aH):Int×Int:=if ga l≠0 then (0,ga l) else if fR ops≠0 then (0,fR ops) else sP l ops
def qb(r:Int×Int):D:=.dB [ae r.1,ae r.2]
def cI(n:Int):List D:=[ae n]
theorem eS(n:Int):(cI n).length=1:=rfl
theorem oM(n:Int):(cI n).all V.one=true:=rfl
theorem x9{ops:List aH}(h:fR ops=0):ops.length<=40/\gb 0 ops=0:=by
 unfold fR at h;split at h
 ·cases h
 exact⟨by omega,h⟩
variable {G:List (Nat×List Value)}
theorem FV(k:Int):VP Tryz.prog G 102 [ae k] (ae (bu k)):=by
 refine bn func102 rfl ntmps102 aP fun X0 w0 bj=>?_;exact ZO
theorem aeb(c:cm)(nm:ByteArray)(b:Nat):VC Tryz.prog G 134 [.agg (cC c),da b] [⟨b,9,1,[bg nm]⟩] (fun r S=>r=bP (c.n.toList==nm.toList)/\S=[⟨b,9,1,[bg nm]⟩]):=by
 refine bn func134 rfl ntmps134 aP fun X0 w0 bj=>?_;exact Z5
theorem rA(l:List cm)(hl:l.length<=6)(nm:ByteArray):VP Tryz.prog G 104 [an 2 cC l,bg nm] (ae (bE l nm)):=by
 refine bn func104 rfl ntmps104 aP fun X0 w0 bj=>?_;refine bX ?_;refine cW [_] (fun b3=>?_);refine aq 8 [0,3] ?_;refine az 1 ?_;refine bQ (tU (ds:=[_]) rfl ⟨ot,trivial⟩) ?_;refine fg av rfl rfl rfl call125 (Ko l 134 [da b3] _ (fun c=>c.n.toList==nm.toList) call134 (fun h _=>aeb h nm b3) w4) ⟨ot,ot,trivial⟩ (nB (k:=0) rfl) ?_;rintro _ S2 ⟨rfl,iK⟩;rw[iK];clear iK;refine aq 8 [4] ?_;exact oD
theorem AK(a b:Int):VP Tryz.prog G 103 [ae a,ae b] (bP (r9 a b)):=by
 refine bn func103 rfl ntmps103 aP fun X0 w0 bj=>?_;refine aA [0,1] ?_;refine az 4 ?_;refine bU 8 (fun I E=>?_) (fun I E=>?_)
 ·refine bA [4] ?_;refine fi ?_;refine⟨vb ?_,rfl⟩;unfold r9;simp_all
 refine bA [4] ?_;refine fi ?_;refine⟨vb ?_,rfl⟩;unfold r9;simp_all
theorem ahP(l:List cm)(hl:l.length<=6)(o:aH)(a b:Int):VP Tryz.prog G 60 [.agg (cO o),an 2 cC l,ae a,ae b] (qb (gA l o a b)):=by
 refine bn func60 rfl ntmps60 aP fun X0 w0 bj=>?_;unfold cO qb;have I:=x8 (fun c:cm=>c.n.toList==o.nm.toList) l;have E:bE l o.nm=c9 (fun c:cm=>c.n.toList==o.nm.toList) l:=rfl;rw[<-E] at I;clear E;refine bX ?_;refine cW [_,_,_,_,_] (fun b4=>?_);refine aq 76 [1,2,3,4] ?_;refine aA [1,2,3,4,10] ?_;refine aA [1,2,3,4,10,11,12] ?_;refine aA [1,2,3,4,10,11,12,15] ?_;refine ax [1,2,3,4,10,11,12,15,16] ?_ ?_<;>intro aM bG
 ·exact Bq
 refine ax [1,2,3,4,10,11,12,15,21] ?_ ?_<;>intro bf cD
 ·refine cX [1,13] (rA l hl o.nm) ?_;refine ax [1,13,28] ?_ ?_<;>intro cr cU
  ·have dA:vr l o.nm=(0,8):=(by unfold vr;rw[if_pos w4])
   exact Bq
  have O:(bE l o.nm).toNat<l.length:=(by omega)
  have dA:vr l o.nm=(l[(bE l o.nm).toNat].k,0):=(by unfold vr;rw[if_neg w4,getD_eq_getElem?_getD,getElem?_eq_getElem O];rfl)
  exact Bq
 refine ax [2,3,10,11,12,15,34] ?_ ?_<;>intro de eG
 ·refine e9 ?_;exact Yc
 refine cc [2,3,10,11,12,15,34] ?_;refine cj ?_ ?_<;>intro eo fS
 ·exact Yc
 refine ax [2,3,10,11,12,15,45] ?_ ?_<;>intro gk iC
 ·refine dV 2 ?_;refine my (f:=103) (args:=[_,_]) (all:=[_,_]) (Sf:=[]) av rfl rfl ot call103 (AK a 1) rfl ⟨ot,cf,trivial⟩ (fx _) ?_;rintro _ _ ⟨rfl,rfl⟩;exact Ih
 refine ax [2,3,10,11,12,15,50] ?_ ?_<;>intro iQ Z
 ·refine e9 ?_;exact Yd
 refine cc [2,3,10,11,12,15,50] ?_;refine cj ?_ ?_<;>intro jn nK
 ·exact Yd
 refine ax [2,3,10,11,12,15,61] ?_ ?_<;>intro qP Bc
 ·refine e9 ?_;exact Na
 refine ax [2,3,10,11,12,15,61] ?_ ?_<;>intro vQ Dl
 ·refine e9 ?_;exact Na
 refine cc [2,3,10,11,12,61] ?_;refine cj ?_ ?_<;>intro HI U
 ·exact Na
 refine aA [12,74] ?_;refine gB ?_;refine dj [8,9] [] ?_;refine⟨?_,rfl⟩;unfold gA okF um;simp_all
theorem aec(l:List cm)(hl:l.length<=6)(o:aH)(a b a' I:Int)(ha:a=a')(hb:b=I)(b2:Nat):VC Tryz.prog G 59 [.agg (cO o),ae a',ae I,da b2] [⟨b2,39,1,[an 2 cC l]⟩] (fun r S=>r=qb (gA l o a b)/\S=[⟨b2,39,1,[an 2 cC l]⟩]):=by
 refine bn func59 rfl ntmps59 aP fun X0 w0 bj=>?_;subst ha hb;have E:=ahP (G:=G) l hl o a b;unfold cO at E |-;unfold qb at E |-;refine bX ?_;refine cW [_,_,_,_,_] (fun O=>?_);refine aq 16 [1,2,3,4] ?_;refine cX [7,8] (E) ?_;refine eu [⟨b2,39,1,[an 2 cC l]⟩] ?_;exact⟨rfl,rfl⟩
theorem aed:(Tryz.prog.info? 3).map (fun i=>(i.zero,i.size,i.bytes))=some (some (.int .i64 0),1,8):=by kernel_rfl
theorem af0(l:List cm)(hl:l.length<=6)(ops:List aH)(qZ:ops.length<=40)(hx:gb 0 ops=0)(b2:Nat):VC Tryz.prog G 58 [an 5 cO ops,.eK (.func 59) [da b2]] [⟨b2,39,1,[an 2 cC l]⟩] (fun r S=>r=qb (sP l ops)/\S=[⟨b2,39,1,[an 2 cC l]⟩]):=by
 refine bn func58 rfl ntmps58 aP fun X0 w0 bj=>?_;unfold qb;refine aA [0,1] ?_;refine aA [0,1,6] ?_;refine bX ?_;refine bA [0,1,6,7] ?_;refine aA [1,6,7,16,17,18] ?_;refine kp ?_;refine nY (fun (nk:Nat×List Int×Option Addr×Nat×List ag) aF=>match nk with|(i,st,I,E,Sh)=>(i<=ops.length)/\(st.length<=i)/\(gb ((st.length:Nat):Int) (ops.drop i)=0)/\(sP l ops=fk 0 (gA l) (ops.drop i) st)/\(bq 3 1 ((st).flatMap cI) (st).length I E Sh)/\aF=(⟨64,[(1,.eK (.func 59) [da b2]),(6,ae 0),(7,aN I (st).length E),(16,an 5 cO ops),(17,ae (ops.length:Nat)),(18,ae (i:Nat))],(⟨b2,39,1,[an 2 cC l]⟩::Sh)⟩:St)) (fun (nk:Nat×List Int×Option Addr×Nat×List ag)=>match nk with|(i,st,I,E,Sh)=>ops.length-i) (0,[],none,0,[]) ⟨(Nat.zero_le _),(Nat.zero_le _),hx,rfl,(bq.cast jj lW),rfl⟩ (aI (h:=HX)) ?_;rintro⟨i,st,I,E,Sh⟩ _ ⟨hi,fX,hex,hinv,U,rfl⟩;refine ax [1,6,7,16,17,18,19] ?_ ?_<;>intro aM bG
 ·have aa:i<ops.length:=(by omega)
  obtain⟨he,zD⟩:=RI aa hex;obtain⟨tq,Yx,zE,BI⟩:=u9 he;have Ek:=rz ops[i].k;have uW:(st.take (st.length-(bu ops[i].k).toNat)++[(gA l ops[i] (dM 0 ops[i].k st) (dZ 0 ops[i].k st)).1]).length=st.length+1-(bu ops[i].k).toNat:=(by rw[length_append,length_take,length_singleton];omega)
  have oX:gb (((st.take (st.length-(bu ops[i].k).toNat)++[(gA l ops[i] (dM 0 ops[i].k st) (dZ 0 ops[i].k st)).1]).length:Nat):Int) (ops.drop (i+1))=0:=(by rw[uW,show(((st.length+1-(bu ops[i].k).toNat:Nat)):Int)=(st.length:Int)+(1-bu ops[i].k) by omega];exact zD)
  refine az 2 ?_;refine dF (ds:=[_,_,_,_,_]) av rfl rfl zeroValue58 rfl (fun b9=>?_);refine aR 0 [_,_,_,_,_] sizeOf58 ?_;refine aq 64 [1,6,7,9,16,17,18] ?_;refine aA [1,6,7,9,10,11,16,17,18] ?_;refine cX [1,6,7,9,10,11,12,16,17,18] (FV ops[i].k) ?_;refine aA [1,6,7,9,10,11,12,13,16,17,18] ?_;refine iT [1,6,9,11,12,13,16,17,18] (fun aV _ aF=>∃(va:Int),∃(I:Option Addr),∃(E:Nat),∃(Sh:List ag),(dM 0 ops[i].k st=va)/\(bq 3 1 (st.flatMap cI) st.length I E Sh)/\aF=(⟨64,(7,aN I st.length E)::(10,ae va)::aV,(⟨b9,58,5,[ae ops[i].k,ae ops[i].v.k,ae ops[i].v.n,bg ops[i].v.s,bg ops[i].nm]⟩::⟨b2,39,1,[an 2 cC l]⟩::Sh)⟩:St)) ?_ ?_
  ·refine ax [1,6,7,9,10,11,12,13,16,17,18,30] ?_ ?_<;>intro bf cD
   ·obtain⟨bh,rfl,Z,O,rfl⟩:=U.pos w4;have vR:(st.length-(bu ops[i].k).toNat)<st.length:=(by omega)
    have ha:dM 0 ops[i].k st=st[(st.length-(bu ops[i].k).toNat)]:=(by unfold dM;rw[if_pos w4,getD_eq_getElem?_getD,getElem?_eq_getElem vR];rfl)
    refine jg [1,6,7,9,10,11,12,13,16,17,18] ?_;refine aT 2 ?_ (h:=by exact(ei 1 (h:=XC)));refine aT 0 ?_ (h:=by exact(dN (mk:=Op.load 3) rfl ot (ke (k:=2) eS rfl rfl rfl isAgg3 vR rfl)));refine bL ?_;refine⟨_,aI,(st[(st.length-(bu ops[i].k).toNat)]),(some ⟨bh,0,none⟩),E,[⟨bh,3,E*1,flatMap cI st⟩],ha,(bN (g:=cI) (ls:=st) Z O),rfl⟩
   have ha:dM 0 ops[i].k st=0:=(by unfold dM;rw[if_neg w4])
   refine en ?_;refine⟨_,aI,0,I,E,Sh,ha,U,rfl⟩
  rintro _ ⟨va,I,E,Sh,ha,U,rfl⟩;refine iT [1,6,9,10,13,16,17,18] (fun aV _ aF=>∃(vb:Int),∃(I:Option Addr),∃(E:Nat),∃(Sh:List ag),(dZ 0 ops[i].k st=vb)/\(bq 3 1 (st.flatMap cI) st.length I E Sh)/\aF=(⟨64,(7,aN I st.length E)::(11,ae vb)::aV,(⟨b9,58,5,[ae ops[i].k,ae ops[i].v.k,ae ops[i].v.n,bg ops[i].v.s,bg ops[i].nm]⟩::⟨b2,39,1,[an 2 cC l]⟩::Sh)⟩:St)) ?_ ?_
  ·refine ax [1,6,7,9,10,11,13,16,17,18,36] ?_ ?_<;>intro cr cU
   ·obtain⟨bh,rfl,Z,O,rfl⟩:=U.pos w4;have Dm:(st.length-(bu ops[i].k).toNat)+1<st.length:=(by omega)
    have hb:dZ 0 ops[i].k st=st[(st.length-(bu ops[i].k).toNat)+1]:=(by unfold dZ;rw[if_pos w4,getD_eq_getElem?_getD,getElem?_eq_getElem Dm];rfl)
    refine jg [1,6,7,9,10,11,13,16,17,18] ?_;refine aT 3 ?_ (h:=by exact(ei 1 (h:=XA)));refine aT 0 ?_ (h:=by exact(dN (mk:=Op.load 3) rfl ot (ke (k:=2) eS rfl rfl rfl isAgg3 Dm rfl)));refine bL ?_;refine⟨_,aI,(st[(st.length-(bu ops[i].k).toNat)+1]),(some ⟨bh,0,none⟩),E,[⟨bh,3,E*1,flatMap cI st⟩],hb,(bN (g:=cI) (ls:=st) Z O),rfl⟩
   have hb:dZ 0 ops[i].k st=0:=(by unfold dZ;rw[if_neg w4])
   refine en ?_;refine⟨_,aI,0,I,E,Sh,hb,U,rfl⟩
  rintro _ ⟨vb,I,E,Sh,hb,U,rfl⟩;refine az 4 ?_;refine my (f:=59) (args:=[_,_,_]) (all:=[_,_,_,_]) (Sf:=[⟨b2,39,1,[an 2 cC l]⟩]) av rfl rfl ot call59 (aec l hl ops[i] _ _ _ _ ha hb b2) rfl ⟨ot,ot,ot,trivial⟩ (nB (k:=1) rfl) ?_;rintro _ _ ⟨rfl,rfl⟩;refine aq 64 [1,6,7,13,14,15,16,17,18] ?_;refine ax [1,6,7,13,14,15,16,17,18,51] ?_ ?_<;>intro de eG
  ·have hz:(gA l ops[i] (dM 0 ops[i].k st) (dZ 0 ops[i].k st)).2≠0:=(by simpa using de)
   have aY:=hinv.trans (Vk aa hz);refine dj [4,5] [⟨b2,39,1,[an 2 cC l]⟩] ?_;rw[aY];exact⟨rfl,rfl⟩
  have hz:(gA l ops[i] (dM 0 ops[i].k st) (dZ 0 ops[i].k st)).2=0:=(by simpa using de)
  refine en ?_;refine UZ (k:=(st.length-(bu ops[i].k).toNat)) (ls:=st) (Sq:=Sh) eS w4 U (dK (A:=[_,_])) (fun ND MA=>?_);refine qs (ew (A:=[_,_])) ?_;refine dV 2 ?_;first|refine bQ (Fc (n:=st.length) (k:=(take (st.length-(bu ops[i].k).toNat) st).length) (cs:=st.flatMap cI) rfl ot rfl ⟨_,_,ot,by rw[length_take];omega⟩ runUnderlying61 sizeOf3 pF U) ?_|refine pR av rfl (Fc (n:=st.length) (k:=(take (st.length-(bu ops[i].k).toNat) st).length) (cs:=st.flatMap cI) rfl ot rfl ⟨_,_,ot,by rw[length_take];omega⟩ runUnderlying61 sizeOf3 pF (bN (e:=3) (g:=cI) (ls:=st) Z O)) ?_
  refine aG 1 ?_;refine eH (cx 0 [_]) [.int .i64 0] [_] zeroValue3 runUnderlying61 sizeOf3 (fun Br=>?_);refine gh 0 58 1 1 ?_;refine fY (ls:=(take (st.length-(bu ops[i].k).toNat) st)) (new:=[(gA l ops[i] (dM 0 ops[i].k st) (dZ 0 ops[i].k st)).1]) (Sq:=ND) eS oM av rfl rfl underlying61 aed rfl w8 ot MA (dK (A:=[_,_])) ot bp wP iI (fun uK uo C5 C6=>?_);refine bZ (ew (S1:=[⟨uK,3,uo*1,flatMap cI ((take (st.length-(bu ops[i].k).toNat) st)++[(gA l ops[i] (dM 0 ops[i].k st) (dZ 0 ops[i].k st)).1])⟩]) (A:=[_,_])) ?_;refine aq 64 [1,6,7,16,17,18] ?_;refine cc [1,6,7,16,17,18] ?_;refine⟨((i+1),(st.take (st.length-(bu ops[i].k).toNat)++[(gA l ops[i] (dM 0 ops[i].k st) (dZ 0 ops[i].k st)).1]),(some ⟨uK,0,none⟩),uo,[⟨uK,3,uo*1,flatMap cI ((take (st.length-(bu ops[i].k).toNat) st)++[(gA l ops[i] (dM 0 ops[i].k st) (dZ 0 ops[i].k st)).1])⟩]),_,cG,(aI (h:=HX)),w4,(by rw[uW];omega),oX,(hinv.trans (Vm aa hz)),(bq.cast (bN C5 C6) (by rfl)),rfl⟩
 have h1:=TN w4 hex;have Dn:0<st.length:=(by omega)
 obtain⟨bh,rfl,Z,O,rfl⟩:=U.pos w4;have aY:=hinv.trans (TM w4);have k8:st.getD 0 0=st[0]:=(by rw[getD_eq_getElem?_getD,getElem?_eq_getElem Dn];rfl)
 rw[k8] at aY;refine cN [4,5] ?_;refine aT 1 ?_ (h:=by exact(tV (mk:=Op.indexAddr 61) rfl ot cf (by first|exact we (j:=0) runUnderlying61 sizeOf3 rfl AV|exact wB (j:=0) runUnderlying61 sizeOf3 rfl AV)));refine aT 0 ?_ (h:=by exact(dN (mk:=Op.load 3) rfl ot (ke (k:=1) eS rfl rfl rfl isAgg3 Dn rfl)));refine bL ?_;refine eu [⟨b2,39,1,[an 2 cC l]⟩] ?_;rw[aY];exact⟨rfl,rfl⟩
theorem aee(l:List cm)(hl:l.length<=6)(ops:List aH)(hx:fR ops=0):VP Tryz.prog G 33 [an 2 cC l,an 5 cO ops] (qb (sP l ops)):=by
 refine bn func33 rfl ntmps33 aP fun X0 w0 bj=>?_;obtain⟨E,jm⟩:=x9 hx;have fF:=fun b2=>af0 (G:=G) l hl ops E jm b2;unfold qb at fF |-;refine bX ?_;refine cW [_] (fun b2=>?_);refine aq 11 [1,2] ?_;refine az 1 ?_;refine bQ (tU (ds:=[_]) rfl ⟨ot,trivial⟩) ?_;refine fg av rfl rfl rfl call58 (fF b2) ⟨ot,ot,trivial⟩ (nB (k:=0) rfl) ?_;rintro _ _ ⟨rfl,rfl⟩;refine aq 11 [4,5] ?_;exact oD
theorem ajA(hm:(3,marksC)∈G)(hw:(1,wordsC)∈G)(ht:(0,typesC)∈G)(l:List cm)(hl:l.length<=6)(aQ:∀c∈l,c.n.size<=maxLen)(ops:List aH)(ho:∀o∈ops,o.nm.size<=maxLen):VP Tryz.prog G 32 [an 2 cC l,an 5 cO ops] (ae (if ga l≠0 then ga l else fR ops)):=by
 refine bn func32 rfl ntmps32 aP fun X0 w0 bj=>?_;have dH:=ey;refine aA [0,1] ?_;refine cX [1,5] (Gh hm hw ht l w4 aQ) ?_;refine ax [1,5,9] ?_ ?_<;>intro aM bG
 ·refine dj [4] [] ?_;refine⟨vi ?_,rfl⟩;simp_all
 refine cX [4] (K6 hm hw ops ho) ?_;refine eu [] ?_;refine⟨vi ?_,rfl⟩;simp_all
theorem Gi(hm:(3,marksC)∈G)(hw:(1,wordsC)∈G)(ht:(0,typesC)∈G)(l:List cm)(hl:l.length<=6)(aQ:∀c∈l,c.n.size<=maxLen)(ops:List aH)(ho:∀o∈ops,o.nm.size<=maxLen):VP Tryz.prog G 13 [an 2 cC l,an 5 cO ops] (qb (cu l ops)):=by
 refine bn func13 rfl ntmps13 aP fun X0 w0 bj=>?_;have fE:=ajA hm hw ht l hl aQ ops ho;have E:=fun hx=>aee (G:=G) l hl ops hx;unfold qb at E |-;refine aA [0,1] ?_;refine cX [0,1,6] (fE) ?_;refine ax [0,1,6,11] ?_ ?_<;>intro aM bG
 ·have aY:cu l ops=(0,if ga l≠0 then ga l else fR ops):=(by unfold cu;split<;>simp_all)
  refine aA [4,5] ?_;exact pH
 have h0:ga l=0/\fR ops=0:=(by split at aM<;>simp_all)
 have aY:cu l ops=sP l ops:=(by unfold cu;simp[h0])
 refine cX [4,5] (E h0.2) ?_;exact vH
end Ex
namespace Ex
open List
open Go.Proofs.Tryz
open Go.RowKit V Pk Vl Cd
variable {i:Nat} {a b:Vl} {p:Vl->Prop}
def wr(n:Int):Int:=IntKind.i64.wrap n
theorem ak1(n:Int):-9223372036854775808<=wr n/\wr n<=9223372036854775807:=by unfold wr;rw[IntKind.wrap_i64];omega
def nF(b:Bool):Vl:=if b=true then ⟨1,1,⟨#[]⟩⟩ else ⟨1,0,⟨#[]⟩⟩
def jH(a b:Vl)(i:Nat):Vl:=if i=0 then a else b
theorem JT(a b:Vl)(h:i<2):(([ae a.k,ae a.n,bg a.s,ae b.k,ae b.n,bg b.s]:List D).drop (i*3)).take 3=[ae (jH a b i).k,ae (jH a b i).n,bg (jH a b i).s]:=by
 match i,h with
 | 0,_|1,_=>rfl
def lN(a b:Vl)(d:Int):Vl×Int :=
 if (a.k≠1/\a.k≠0)\/(b.k≠1/\b.k≠0) then (aU,4) else if a.k=1/\a.n=d then (a,0) else if b.k=1/\b.n=d then (b,0) else if a.k=0\/b.k=0 then (aU,0) else (a,0)
theorem Lf(h:∀j,j<i->p (jH a b j))(hi:2<=i):p a/\p b:=⟨h 0 w4,h 1 w4⟩
theorem Kh(h:∀j,j<i->p (jH a b j))(h1:p (jH a b i)):∀j,j<i+1->p (jH a b j):=fun j hj=>by
 by_cases e:j=i
 ·subst e;exact h1
 exact h j w4
theorem aef{d:Int}(hi:i<2)(h1:(jH a b i).k≠1)(h2:(jH a b i).k≠0):lN a b d=(aU,4):=by
 unfold lN;match i,hi with
 | 0,_=>rw[if_pos (.inl ⟨h1,h2⟩)]
 | 1,_=>rw[if_pos (.inr ⟨h1,h2⟩)]
theorem aeg{d:Int}(hi:i<2)(hg:¬((a.k≠1/\a.k≠0)\/(b.k≠1/\b.k≠0)))(h0:∀j,j<i->¬((jH a b j).k=1/\(jH a b j).n=d))(h1:(jH a b i).k=1)(h2:(jH a b i).n=d):lN a b d=(jH a b i,0):=by
 unfold lN;rw[if_neg hg];match i,hi with
 | 0,_=>rw[if_pos ⟨h1,h2⟩];rfl
 | 1,_=>rw[if_neg (show ¬(a.k=1/\a.n=d) from h0 0 w4),if_pos (show b.k=1/\b.n=d from⟨h1,h2⟩)];rfl
def qu(k a b:Int):Int×Bool :=
 if k=8 then (wr (a+b),decide (wr (a+b)<a)==decide (b<0)) else if k=9 then (wr (a-b),decide (wr (a-b)>a)==decide (b<0))
 else (wr (a*b),a==0||(wr ((wr (a*b)).tdiv a)==b && !(a == -1&&b == -9223372036854775808)))
def qA(a b:Vl):Bool:=a.k==0||b.k==0
def fI(k:Int)(a b:Vl):Vl×Int :=
 if mG a b≠0 then (aU,mG a b) else if k=3 then lN a b 0 else if k=4 then lN a b 1
 else if k=6\/k=7 then (if qA a b=true then (aU,0) else if a.k≠b.k then (aU,4) else (nF ((eN a b==0&&k==6)||(decide (eN a b<0)&&k==7)),0))
 else if k=8\/k=9\/k=10 then (if (a.k≠2/\a.k≠0)\/(b.k≠2/\b.k≠0) then (aU,4) else if qA a b=true then (aU,0) else if (qu k a.n b.n).2=true then (⟨2,(qu k a.n b.n).1,⟨#[]⟩⟩,0) else (aU,5))
 else (aU,2)
def j3(k:Int)(a:Vl):Vl×Int :=
 if bY a≠0 then (aU,bY a) else if k=11 then (nF (a.k==0),0)
 else if k=5 then (if a.k=0 then (a,0) else if a.k=1 then (nF (a.n==0),0) else (aU,4)) else (aU,2)
def oc(r:Vl×Int):D:=.dB [.agg (cV r.1),ae r.2]
variable {G:List (Nat×List Value)}
theorem Ce(b:Bool):VP Tryz.prog G 168 [bP b] (.agg (cV (nF b))):=by
 refine bn func168 rfl ntmps168 aP fun X0 w0 bj=>?_;refine bX ?_;refine dF (ds:=[_,_,_]) av rfl rfl zeroValue56 rfl (fun b2=>?_);refine aq 6 [0,2] ?_;refine ax [2,3] ?_ ?_<;>intro aM bG
 ·refine az 1 ?_;refine aR 0 [_,_,_] sizeOf56 ?_;refine dY 6 [2] [] ?_;refine⟨?_,rfl⟩;unfold nF;simp_all[cV]
 refine az 1 ?_;refine aR 0 [_,_,_] sizeOf56 ?_;refine dY 6 [2] [] ?_;refine⟨?_,rfl⟩;unfold nF;simp_all[cV]
theorem Vn(a b:Vl):VP Tryz.prog G 170 [.agg (cV a),.agg (cV b)] (bP (qA a b)):=by
 refine bn func170 rfl ntmps170 aP fun X0 w0 bj=>?_;unfold cV;refine bX ?_;refine cW [_,_,_] (fun b2=>?_);refine cW [_,_,_] (fun b3=>?_);refine aq 13 [2,3] ?_;refine az 4 ?_;refine bU 8 (fun I E=>?_) (fun I E=>?_)
 ·refine bA [4] ?_;refine fi ?_;refine⟨vb ?_,rfl⟩;unfold qA;simp_all
 refine bA [4] ?_;refine fi ?_;refine⟨vb ?_,rfl⟩;unfold qA;simp_all
theorem TO(a b:Vl)(d:Int):VP Tryz.prog G 169 [.agg (cV a),.agg (cV b),ae d] (oc (lN a b d)):=by
 refine bn func169 rfl ntmps169 aP fun X0 w0 bj=>?_;unfold oc cV;have qe:=Vn (G:=G) a b;unfold cV at qe;refine bX ?_;refine cW [_,_,_] (fun b3=>?_);refine cW [_,_,_] (fun b4=>?_);refine dF (ds:=[_,_,_]) av rfl rfl zeroValue56 rfl (fun b6=>?_);refine aq 50 [2,3,4,6] ?_;refine cN [2,3,4,6,14,15] ?_;refine aT 2 ?_ (h:=Oa);refine bL ?_;refine fa [2,3,4,6,14] (fun aV _ (i:Nat) aF=>(i<=2)/\(∀j,j<i->¬((jH a b j).k≠1/\(jH a b j).k≠0))/\aF=(⟨50,(15,ae (i:Nat))::aV,[⟨b6,56,3,[ae 0,ae 0,fN]⟩,⟨b4,56,3,[ae b.k,ae b.n,bg b.s]⟩,⟨b3,56,3,[ae a.k,ae a.n,bg a.s]⟩]⟩:St)) (fun (i:Nat)=>2-i) 0 ⟨(Nat.zero_le _),(fun j hj=>absurd hj (Nat.not_lt_zero _)),rfl⟩ ?_;rintro i _ ⟨hi,eL,rfl⟩;refine ax [2,3,4,6,14,15,16] ?_ ?_<;>intro aM bG
 ·have aa:i<2:=(by omega)
  refine bX ?_;refine bQ (Jl (j:=i) rfl ot ot runUnderlying245 sizeOf56 isAgg56 rfl aa (JT a b aa)) ?_;refine dF (ds:=[_,_,_]) av rfl rfl zeroValue56 rfl (fun b9=>?_);refine aR 0 [_,_,_] sizeOf56 ?_;refine aq 50 [2,3,4,6,9,14,15] ?_;refine az 4 ?_;refine bU 21 (fun rK I=>?_) (fun rK I=>?_)
  ·refine bA [2,3,4,6,14,15,25] ?_;refine cj ?_ ?_<;>intro bf cD
   ·have aY:lN a b d=(aU,4):=aef aa (by simp_all) (by simp_all);refine az 1 ?_;refine aR 1 [_,_,_] sizeOf56 ?_;refine aq 50 [6,7] ?_;exact pH
   exact z80
  refine bA [2,3,4,6,14,15,25] ?_;refine gB ?_;exact z80
 have U:=Lf (p:=fun v=>¬(v.k≠1/\v.k≠0)) eL w4;have hg:¬((a.k≠1/\a.k≠0)\/(b.k≠1/\b.k≠0)):=fun h=>h.elim U.1 U.2;clear eL hi;refine cN [2,3,4,6,30,31] ?_;refine aT 2 ?_ (h:=Oa);refine bL ?_;refine fa [2,3,4,6,30] (fun aV _ (i:Nat) aF=>(i<=2)/\(∀j,j<i->¬((jH a b j).k=1/\(jH a b j).n=d))/\aF=(⟨50,(31,ae (i:Nat))::aV,[⟨b6,56,3,[ae 0,ae 0,fN]⟩,⟨b4,56,3,[ae b.k,ae b.n,bg b.s]⟩,⟨b3,56,3,[ae a.k,ae a.n,bg a.s]⟩]⟩:St)) (fun (i:Nat)=>2-i) 0 ⟨(Nat.zero_le _),(fun j hj=>absurd hj (Nat.not_lt_zero _)),rfl⟩ ?_;rintro i _ ⟨gE,Mq,rfl⟩;refine ax [2,3,4,6,30,31,32] ?_ ?_<;>intro cr cU
 ·have aa:i<2:=(by omega)
  refine bX ?_;refine bQ (Jl (j:=i) rfl ot ot runUnderlying245 sizeOf56 isAgg56 rfl aa (JT a b aa)) ?_;refine dF (ds:=[_,_,_]) av rfl rfl zeroValue56 rfl (fun mv=>?_);refine aR 0 [_,_,_] sizeOf56 ?_;refine aq 50 [2,3,4,6,11,30,31] ?_;refine az 4 ?_;refine bU 37 (fun Z O=>?_) (fun Z O=>?_)
  ·refine bA [2,3,4,6,11,30,31,42] ?_;refine cj ?_ ?_<;>intro de eG
   ·have aY:lN a b d=(jH a b i,0):=aeg aa hg Mq (by simp_all) (by simp_all);refine az 1 ?_;refine aR 1 [_,_,_] sizeOf56 ?_;refine aq 50 [6,7] ?_;exact pH
   exact Z9
  refine bA [2,3,4,6,11,30,31,42] ?_;refine gB ?_;exact Z9
 have E:=Lf (p:=fun v=>¬(v.k=1/\v.n=d)) Mq w4;refine cX [3,6,47] (qe) ?_;refine cj ?_ ?_<;>intro eo fS
 ·have aY:lN a b d=(aU,0):=(by unfold lN;rw[if_neg hg,if_neg E.1,if_neg E.2,if_pos (by unfold qA at eo;simpa using eo)])
  refine az 1 ?_;refine aR 0 [_,_,_] sizeOf56 ?_;refine aq 50 [6,7] ?_;exact pH
 have aY:lN a b d=(a,0):=(by unfold lN;rw[if_neg hg,if_neg E.1,if_neg E.2,if_neg (by unfold qA at eo;simpa using eo)])
 refine az 1 ?_;refine aR 0 [_,_,_] sizeOf56 ?_;refine aq 50 [6,7] ?_;exact vH
theorem af1(k a b:Int):VP Tryz.prog G 171 [ae k,ae a,ae b] (.dB [ae (qu k a b).1,bP (qu k a b).2]):=by
 refine bn func171 rfl ntmps171 aP fun X0 w0 bj=>?_;refine aA [0,1,2] ?_;refine aA [1,2,11] ?_;refine ax [1,2,11,12] ?_ ?_<;>intro aM bG
 ·refine cN [1,2,8] ?_;refine aT 2 ?_ (h:=by exact(dX (r:=.int .i64 (wr (a+b))) rfl ot ot (lI rfl)));exact Z8
 refine ax [1,2,24] ?_ ?_<;>intro bf cD
 ·refine cN [1,2,9] ?_;refine aT 2 ?_ (h:=by exact(dX (r:=.int .i64 (wr (a-b))) rfl ot ot (iL rfl)));exact Z8
 refine cN [1,2,10] ?_;refine aT 2 ?_ (h:=by exact(dX (r:=.int .i64 (wr (a*b))) rfl ot ot (KW rfl)));refine bL ?_;refine az 4 ?_;refine bU 42 (fun sU E=>?_) (fun sU E=>?_)
 ·refine bA [6,7] ?_;refine OG ?_;refine⟨?_,rfl⟩;unfold qu;simp_all
 refine aG 2 ?_;refine pR iR rfl (dX (r:=.int .i64 (wr ((wr (a*b)).tdiv a))) rfl ot ot (ahg (by simpa using sU) rfl)) ?_;refine aG 3 ?_;refine bU 48 (fun U I=>?_) (fun U I=>?_)
 ·refine aG 3 ?_;refine bU 51 (fun Z O=>?_) (fun Z O=>?_)
  ·refine dY 58 [6,7] [] ?_;refine⟨?_,rfl⟩;unfold qu;simp_all
  refine dY 58 [6,7] [] ?_;refine⟨?_,rfl⟩;unfold qu;simp_all
 refine dY 58 [6,7] [] ?_;refine⟨?_,rfl⟩;unfold qu;simp_all
theorem ajB(k:Int)(a:Vl):VP Tryz.prog G 151 [ae k,.agg (cV a)] (oc (j3 k a)):=by
 refine bn func151 rfl ntmps151 aP fun X0 w0 bj=>?_;unfold oc;have fE:=Vl.qo (G:=G) a;unfold cV at fE;unfold cV;refine bX ?_;refine cW [_,_,_] (fun b3=>?_);refine dF (ds:=[_,_,_]) av rfl rfl zeroValue56 rfl (fun E=>?_);refine aq 35 [0,3,4] ?_;refine cX [0,3,4,6] (fE) ?_;refine ax [0,3,4,6,10] ?_ ?_<;>intro aM bG
 ·refine az 2 ?_;exact DS
 refine aA [3,4,13] ?_;refine ax [3,4,13,14] ?_ ?_<;>intro bf cD
 ·refine az 3 ?_;refine eB call168 (Ce _) ?_;exact DS
 refine ax [3,4,20] ?_ ?_<;>intro cr cU
 ·refine aA [3,4,23] ?_;refine ax [3,4,23,24] ?_ ?_<;>intro de eG
  ·refine az 1 ?_;exact DS
  refine ax [3,4,27] ?_ ?_<;>intro eo fS
  ·refine az 3 ?_;refine eB call168 (Ce _) ?_;exact DS
  refine az 1 ?_;exact DS
 refine az 1 ?_;refine aR 0 [_,_,_] sizeOf56 ?_;refine dY 35 [4,5] [] ?_;refine⟨?_,rfl⟩;unfold j3;simp_all[aU]
theorem ahQ{k:Int}(h0:mG a b=0)(hk:k=8\/k=9\/k=10)(hi:i<2)(h1:(jH a b i).k≠2)(h2:(jH a b i).k≠0):fI k a b=(aU,4):=by
 unfold fI;rw[if_neg (by simp[h0]),if_neg w4,if_neg w4,if_neg w4,if_pos hk];match i,hi with
 | 0,_=>rw[if_pos (.inl ⟨h1,h2⟩)]
 | 1,_=>rw[if_pos (.inr ⟨h1,h2⟩)]
theorem RJ{k:Int}(h0:mG a b=0)(hk:k=8\/k=9\/k=10)(hg:¬((a.k≠2/\a.k≠0)\/(b.k≠2/\b.k≠0))) :
  fI k a b=if qA a b=true then (aU,0) else if (qu k a.n b.n).2=true then (⟨2,(qu k a.n b.n).1,⟨#[]⟩⟩,0) else (aU,5):=by
 unfold fI;rw[if_neg (by simp[h0]),if_neg w4,if_neg w4,if_neg w4,if_pos hk,if_neg hg]
theorem ajC(k:Int)(a b:Vl)(oa:a.Ok)(ob:b.Ok):VP Tryz.prog G 152 [ae k,.agg (cV a),.agg (cV b)] (oc (fI k a b)):=by
 refine bn func152 rfl ntmps152 aP fun X0 w0 bj=>?_;unfold oc;have rP:=Cd.U9 (G:=G) a b;have qe:=Vn (G:=G) a b;have pG:=TO (G:=G) a b 0;have mi:=TO (G:=G) a b 1;have fE:=Cd.Q3 (G:=G) a b oa ob;have Ig:=af1 (G:=G) k a.n b.n;unfold oc at pG mi;unfold cV at rP qe pG mi fE;unfold cV;refine bX ?_;refine cW [_,_,_] (fun b4=>?_);refine cW [_,_,_] (fun b5=>?_);refine dF (ds:=[_,_,_]) av rfl rfl zeroValue56 rfl (fun b6=>?_);refine aq 106 [0,4,5,6] ?_;refine cX [0,4,5,6,8] (rP) ?_;refine ax [0,4,5,6,8,18] ?_ ?_<;>intro aM bG
 ·have E:mG a b≠0:=(by simpa using aM)
  have aY:fI k a b=(aU,mG a b):=(by unfold fI;rw[if_pos E])
  refine az 2 ?_;exact z8
 have E:mG a b=0:=(by simpa using aM)
 refine aA [0,4,5,6,21] ?_;refine ax [0,4,5,6,21,22] ?_ ?_<;>intro bf cD
 ·have aY:fI k a b=lN a b 0:=(by unfold fI;rw[if_neg (by simp[E]),if_pos w4])
  refine az 2 ?_;refine eB call169 (pG) ?_;refine aG 2 ?_;exact z8
 refine ax [0,4,5,6,21,29] ?_ ?_<;>intro cr cU
 ·have aY:fI k a b=lN a b 1:=(by unfold fI;rw[if_neg (by simp[E]),if_neg w4,if_pos w4])
  refine az 2 ?_;refine eB call169 (mi) ?_;refine aG 2 ?_;exact z8
 refine iT [0,4,5,6,21] (fun aV oI aF=>∃(q:Bool),(q=true↔k=6\/k=7)/\aF=(⟨106,(36,bP q)::aV,oI⟩:St)) ?_ ?_
 ·refine ax [0,4,5,6,21,36] ?_ ?_<;>intro de eG
  ·refine en ?_;exact DU
  refine cc [0,4,5,6,21,36] ?_;exact DU
 rintro _ ⟨q,hq,rfl⟩;refine cj ?_ ?_<;>intro eo fS
 ·have at4:=hq.1 eo;refine cX [0,4,5,6,41] (qe) ?_;refine cj ?_ ?_<;>intro gk iC
  ·have aY:fI k a b=(aU,0):=(by unfold fI;rw[if_neg (by simp[E]),if_neg w4,if_neg w4,if_pos w4,if_pos gk])
   refine az 1 ?_;exact z8
  refine ax [0,4,5,6,47] ?_ ?_<;>intro iQ qa
  ·have aY:fI k a b=(aU,4):=(by unfold fI;rw[if_neg (by simp[E]),if_neg w4,if_neg w4,if_pos w4,if_neg (by rw[gk];simp),if_pos (by simpa using iQ)])
   refine az 1 ?_;exact z8
  have aY:fI k a b=(nF ((eN a b==0&&k==6)||(decide (eN a b<0)&&k==7)),0):=(by unfold fI;rw[if_neg (by simp[E]),if_neg w4,if_neg w4,if_pos w4,if_neg (by rw[gk];simp),if_neg (by simpa using iQ)])
  refine cX [0,6,9] (fE) ?_;refine az 3 ?_;refine bU 54 (fun Bi AJ=>?_) (fun Bi AJ=>?_)
  ·refine aG 4 ?_;refine bU 58 (fun ans ak2=>?_) (fun ans ak2=>?_)
   ·refine zn 3 ?_;exact z117
   refine aG 3 ?_;refine bU 61 (fun O I=>?_) (fun O I=>?_)
   ·exact z117
   exact z117
  refine aG 7 ?_;refine bU 61 (fun O I=>?_) (fun O I=>?_)
  ·exact z117
  exact z117
 have at5:¬(k=6\/k=7):=fun h=>by rw[hq.2 h] at eo;cases eo
 refine iT [0,4,5,6] (fun aV oI aF=>∃(q:Bool),(q=true↔k=8\/k=9\/k=10)/\aF=(⟨106,(67,bP q)::aV,oI⟩:St)) ?_ ?_
 ·refine ax [0,4,5,6,21,67] ?_ ?_<;>intro jn nK
  ·refine en ?_;exact DU
  refine ax [0,4,5,6,21,67] ?_ ?_<;>intro qP Bc
  ·refine en ?_;exact DU
  refine cc [0,4,5,6,67] ?_;exact DU
 rintro _ ⟨q,vO,rfl⟩;refine cj ?_ ?_<;>intro vQ Dl
 ·have IM:=vO.1 vQ;refine cN [0,4,5,6,73,74] ?_;refine aT 2 ?_ (h:=Oa);refine bL ?_;refine fa [0,4,5,6,73] (fun aV _ (i:Nat) aF=>(i<=2)/\(∀j,j<i->¬((jH a b j).k≠2/\(jH a b j).k≠0))/\aF=(⟨106,(74,ae (i:Nat))::aV,[⟨b6,56,3,[ae 0,ae 0,fN]⟩,⟨b5,56,3,[ae b.k,ae b.n,bg b.s]⟩,⟨b4,56,3,[ae a.k,ae a.n,bg a.s]⟩]⟩:St)) (fun (i:Nat)=>2-i) 0 ⟨(Nat.zero_le _),(fun j hj=>absurd hj (Nat.not_lt_zero _)),rfl⟩ ?_;rintro i _ ⟨hi,eL,rfl⟩;have IM:k=8\/k=9\/k=10:=(by omega)
  refine ax [0,4,5,6,73,74,75] ?_ ?_<;>intro HI G5
  ·have aa:i<2:=(by omega)
   refine bX ?_;refine bQ (Jl (j:=i) rfl ot ot runUnderlying245 sizeOf56 isAgg56 rfl aa (JT a b aa)) ?_;refine dF (ds:=[_,_,_]) av rfl rfl zeroValue56 rfl (fun mv=>?_);refine aR 0 [_,_,_] sizeOf56 ?_;refine aq 106 [0,4,5,6,11,73,74] ?_;refine az 4 ?_;refine bU 80 (fun NE G6=>?_) (fun NE G6=>?_)
   ·refine bA [0,4,5,6,73,74,84] ?_;refine cj ?_ ?_<;>intro wR GU
    ·have aY:fI k a b=(aU,4):=ahQ E IM aa (by simp_all) (by simp_all);refine az 1 ?_;refine aR 1 [_,_,_] sizeOf56 ?_;refine dY 106 [6,7] [] ?_;rw[aY];first|exact⟨rfl,rfl⟩|(refine⟨?_,rfl⟩;clear aY fE Ig pG mi rP qe;generalize (eN a b==0)=z1 at *;generalize (decide (eN a b<0))=z2 at *;subst_vars;simp_all;done)
    exact Z6
   refine bA [0,4,5,6,73,74,84] ?_;refine gB ?_;exact Z6
  have hAB:=Lf (p:=fun v=>¬(v.k≠2/\v.k≠0)) eL w4;have PM:=RJ E IM (fun h=>h.elim hAB.1 hAB.2);refine cX [0,4,5,6,89] (qe) ?_;refine cj ?_ ?_<;>intro U ak3
  ·have aY:fI k a b=(aU,0):=(by rw[PM,if_pos U])
   refine az 1 ?_;exact z8
  refine cX [6,12,13] (Ig) ?_;refine ax [6,12,101] ?_ ?_<;>intro Z ak4
  ·have aY:fI k a b=(aU,5):=(by rw[PM,if_neg (by rw[U];simp),if_neg (by simpa using Z)])
   refine az 1 ?_;exact z8
  have aY:fI k a b=(⟨2,(qu k a.n b.n).1,⟨#[]⟩⟩,0):=(by rw[PM,if_neg (by rw[U];simp),if_pos (by simpa using Z)])
  refine az 2 ?_;exact z8
 have hn8:¬(k=8\/k=9\/k=10):=fun h=>by rw[vO.2 h] at vQ;cases vQ
 have aY:fI k a b=(aU,2):=(by unfold fI;rw[if_neg (by simp[E]),if_neg w4,if_neg w4,if_neg w4,if_neg w4])
 refine az 1 ?_;refine aR 0 [_,_,_] sizeOf56 ?_;refine dY 106 [6,7] [] ?_;rw[aY];first|exact⟨rfl,rfl⟩|(refine⟨?_,rfl⟩;clear aY fE Ig pG mi rP qe;generalize (eN a b==0)=z1 at *;generalize (decide (eN a b<0))=z2 at *;subst_vars;simp_all;done)
end Ex
namespace Ex
open List
open Go.Proofs.Tryz
open Go.RowKit V Pk Vl Go.Proofs.YtbplamgacibdaaaGreatDoor.Nm Pc
variable {a b:Vl} {l:List cm} {row:List Vl} {ops:List aH}
def cJ(l:List cm)(row:List Vl)(o:aH)(a b:Vl):Vl×Int :=
 if bu o.k=1 then j3 o.k a else if bu o.k=2 then fI o.k a b else if o.k=2 then (row.getD (bE l o.nm).toNat aU,0) else (o.v,0)
def gD(l:List cm)(row:List Vl)(ops:List aH):Vl×Int:=fk aU (cJ l row) ops []
def c8(l:List cm)(row:List Vl)(ops:List aH):Vl×Int :=
 if dR l row≠0 then (aU,dR l row) else if (cu l ops).2≠0 then (aU,(cu l ops).2) else gD l row ops
theorem sQ:aU.Ok:=⟨by decide,by decide,by decide,by decide,Nat.zero_le _⟩
theorem TP(b:Bool):(nF b).Ok:=by unfold nF;split<;>exact⟨by decide,by decide,by decide,by decide,Nat.zero_le _⟩
theorem ok_int{n:Int}(h:-9223372036854775808<=n/\n<=9223372036854775807):(⟨2,n,⟨#[]⟩⟩:Vl).Ok:=⟨by show -9223372036854775808<=(2:Int);decide,by show(2:Int)<=_;decide,h.1,h.2,Nat.zero_le _⟩
theorem af2{d:Int}(oa:a.Ok)(ob:b.Ok):(lN a b d).1.Ok:=by
 unfold lN;repeat' split
 all_goals first|exact sQ|exact oa|exact ob
theorem ok_two{k:Int}(oa:a.Ok)(ob:b.Ok):(fI k a b).1.Ok:=by
 unfold fI;repeat' split
 all_goals first|exact sQ|exact af2 oa ob|exact TP _|skip
 unfold qu;repeat' split
 all_goals exact ok_int (ak1 _)
theorem ok_one{k:Int}(oa:a.Ok):(j3 k a).1.Ok:=by
 unfold j3;repeat' split
 all_goals first|exact sQ|exact oa|exact TP _
theorem Vo(hr:∀v∈row,v.Ok){o:aH}(ho:o.v.Ok)(oa:a.Ok)(ob:b.Ok):(cJ l row o a b).1.Ok:=by
 unfold cJ;split
 ·exact ok_one oa
 split
 ·exact ok_two oa ob
 split
 ·show(row.getD _ aU).Ok;rw[getD_eq_getElem?_getD];cases h:row[(bE l o.nm).toNat]? with
  | none=>exact sQ
  | some v=>exact hr v (mem_of_getElem? h)
 exact ho
theorem Lg{st:List Vl}(h:∀v∈st,v.Ok)(j:Nat):(st.getD j aU).Ok:=by
 rw[getD_eq_getElem?_getD];cases hj:st[j]? with
 | none=>exact sQ
 | some v=>exact h v (mem_of_getElem? hj)
theorem Lh{st:List Vl}(h:∀v∈st,v.Ok)(k:Int):(dM aU k st).Ok:=by unfold dM;split;exact Lg h _;exact sQ
theorem Li{st:List Vl}(h:∀v∈st,v.Ok)(k:Int):(dZ aU k st).Ok:=by unfold dZ;split;exact Lg h _;exact sQ
theorem RL{α:Type}{z:α}{f:aH->α->α->α × Int}:∀{l:List aH} {st:List α},(fk z f l st).2=0->∀o∈l,∃a b,(f o a b).2=0
 | [],_,_,o,ho=>by cases ho
 | x::r,st,h,o,ho=>by
  rw[fk] at h;split at h
  ·rename_i hne;exact absurd h hne
  rename_i he;rcases mem_cons.1 ho with rfl|ho
  ·exact⟨_,_,Classical.not_not.1 he⟩
  exact RL h o ho
theorem RM(h:(sP l ops).2=0):∀o∈ops,o.k=2->0<=bE l o.nm:=fun o ho hk=>by
 obtain⟨a,b,he⟩:=RL h o ho;unfold gA at he;rw[if_neg w4,if_pos hk] at he;unfold vr at he;split at he
 ·cases he
 omega
theorem K0(h:dR l row=0):row.length=l.length:=by
 unfold dR at h;split at h
 ·rename_i h1;exact absurd h h1
 split at h
 ·cases h
 omega
theorem Gj(h:(cu l ops).2=0):ga l=0/\fR ops=0/\cu l ops=sP l ops:=by
 unfold cu at h |-;split at h
 ·rename_i h1;exact absurd h h1
 rename_i h1;split at h
 ·rename_i h2;exact absurd h h2
 rename_i h2;exact⟨Classical.not_not.1 h1,Classical.not_not.1 h2,by rw[if_neg h1,if_neg h2]⟩
variable {G:List (Nat×List Value)}
theorem aeh(l:List cm)(hl:l.length<=6)(row:List Vl)(vS:row.length=l.length)(o:aH)(I:o.k=2->0<=bE l o.nm)(a b a' b':Vl)(ha:a=a')(hb:b=b')(oa:a.Ok)(ob:b.Ok)(br bc:Nat):VC Tryz.prog G 150 [.agg (cO o),.agg (cV a'),.agg (cV b'),da br,da bc] [⟨br,40,1,[an 3 cV row]⟩,⟨bc,39,1,[an 2 cC l]⟩] (fun r S=>r=oc (cJ l row o a b)/\S=[⟨br,40,1,[an 3 cV row]⟩,⟨bc,39,1,[an 2 cC l]⟩]):=by
 refine bn func150 rfl ntmps150 aP fun X0 w0 bj=>?_;subst ha hb;have nU:=ajB (G:=G) o.k a;have E:=ajC (G:=G) o.k a b oa ob;unfold oc at nU E |-;unfold cV at nU E;unfold cO cV;have U:=x8 (fun c:cm=>c.n.toList==o.nm.toList) l;have O:bE l o.nm=c9 (fun c:cm=>c.n.toList==o.nm.toList) l:=rfl;rw[<-O] at U;clear O;refine bX ?_;refine cW [_,_,_,_,_] (fun b5=>?_);refine cW [_,_,_] (fun b6=>?_);refine cW [_,_,_] (fun b7=>?_);refine dF (ds:=[_,_,_]) av rfl rfl zeroValue56 rfl (fun b8=>?_);refine aq 42 [3,4,5,6,7,8] ?_;refine cX [3,4,5,6,7,8,12] (FV o.k) ?_;refine ax [3,4,5,6,7,8,12,13] ?_ ?_<;>intro aM bG
 ·have aY:cJ l row o a b=j3 o.k a:=(by unfold cJ;rw[if_pos w4])
  refine az 3 ?_;refine eB call151 (nU) ?_;refine aG 2 ?_;exact OE
 refine ax [3,4,5,6,7,8,21] ?_ ?_<;>intro bf cD
 ·have aY:cJ l row o a b=fI o.k a b:=(by unfold cJ;rw[if_neg w4,if_pos w4])
  refine az 4 ?_;refine eB call152 (E) ?_;refine aG 2 ?_;exact OE
 refine ax [3,4,5,8,32] ?_ ?_<;>intro cr cU
 ·have eR:o.k=2:=(by omega)
  have aM:=I eR;have Z:(bE l o.nm).toNat<row.length:=(by omega)
  have aY:cJ l row o a b=(row[(bE l o.nm).toNat],0):=(by unfold cJ;rw[if_neg w4,if_neg w4,if_pos eR,getD_eq_getElem?_getD,getElem?_eq_getElem Z];rfl)
  refine cQ ?_;refine oC 7 [8,39] ?_;refine cL (rA l hl o.nm) ?_;refine bL ?_;exact OE
 have aY:cJ l row o a b=(o.v,0):=(by unfold cJ;rw[if_neg w4,if_neg w4,if_neg w4])
 refine az 2 ?_;refine aR 0 [_,_,_] sizeOf56 ?_;refine aq 42 [8,9] ?_;exact Ya
theorem ac1:(Tryz.prog.info? 56).map (fun i=>(i.zero,i.size,i.bytes))=some (some (.agg #[.int .i64 0,.int .i64 0,.string ⟨#[]⟩]),3,32):=by kernel_rfl
theorem af3(l:List cm)(hl:l.length<=6)(row:List Vl)(vS:row.length=l.length)(NF:∀v∈row,v.Ok)(ops:List aH)(gl:∀o∈ops,o.v.Ok)(ant:∀o∈ops,o.k=2->0<=bE l o.nm)(qZ:ops.length<=40)(hx:gb 0 ops=0)(br bc:Nat):VC Tryz.prog G 149 [an 5 cO ops,.eK (.func 150) [da br,da bc]] [⟨br,40,1,[an 3 cV row]⟩,⟨bc,39,1,[an 2 cC l]⟩] (fun r S=>r=oc (gD l row ops)/\S=[⟨br,40,1,[an 3 cV row]⟩,⟨bc,39,1,[an 2 cC l]⟩]):=by
 refine bn func149 rfl ntmps149 aP fun X0 w0 bj=>?_;unfold oc;refine bX ?_;refine dF (ds:=[_,_,_]) av rfl rfl zeroValue56 rfl (fun b4=>?_);refine aq 64 [0,1,4] ?_;refine bX ?_;refine dF (ds:=[_,_,_]) av rfl rfl zeroValue56 rfl (fun b6=>?_);refine bZ (Kj (k:=2) (k':=2) rfl rfl) ?_;refine aq 64 [0,1,4,6] ?_;refine bX ?_;refine bA [0,1,4,6,7] ?_;refine aA [1,4,6,7,16,17,18] ?_;refine kp ?_;refine nY (fun (nk:Nat×List Vl×Option Addr×Nat×List ag) aF=>match nk with|(i,st,I,E,Sh)=>(i<=ops.length)/\(st.length<=i)/\(gb ((st.length:Nat):Int) (ops.drop i)=0)/\(gD l row ops=fk aU (cJ l row) (ops.drop i) st)/\(∀v∈st,v.Ok)/\(bq 56 3 ((st).flatMap cV) (st).length I E Sh)/\aF=(⟨64,[(1,.eK (.func 150) [da br,da bc]),(4,da b4),(6,da b6),(7,aN I (st).length E),(16,an 5 cO ops),(17,ae (ops.length:Nat)),(18,ae (i:Nat))],(⟨br,40,1,[an 3 cV row]⟩::⟨bc,39,1,[an 2 cC l]⟩::⟨b6,56,3,[ae 0,ae 0,fN]⟩::⟨b4,56,3,[ae 0,ae 0,fN]⟩::Sh)⟩:St)) (fun (nk:Nat×List Vl×Option Addr×Nat×List ag)=>match nk with|(i,st,I,E,Sh)=>ops.length-i) (0,[],none,0,[]) ⟨(Nat.zero_le _),(Nat.zero_le _),hx,rfl,(fun v hv=>by cases hv),(bq.cast jj lW),rfl⟩ (aI (h:=HX)) ?_;rintro⟨i,st,I,E,Sh⟩ _ ⟨hi,fX,hex,hinv,aQ,U,rfl⟩;refine ax [1,4,6,7,16,17,18,19] ?_ ?_<;>intro aM bG
 ·have aa:i<ops.length:=(by omega)
  obtain⟨he,zD⟩:=RI aa hex;obtain⟨tq,Yx,zE,BI⟩:=u9 he;have Ek:=rz ops[i].k;have uW:(st.take (st.length-(bu ops[i].k).toNat)++[(cJ l row ops[i] (dM aU ops[i].k st) (dZ aU ops[i].k st)).1]).length=st.length+1-(bu ops[i].k).toNat:=(by rw[length_append,length_take,length_singleton];omega)
  have oX:gb (((st.take (st.length-(bu ops[i].k).toNat)++[(cJ l row ops[i] (dM aU ops[i].k st) (dZ aU ops[i].k st)).1]).length:Nat):Int) (ops.drop (i+1))=0:=(by rw[uW,show(((st.length+1-(bu ops[i].k).toNat:Nat)):Int)=(st.length:Int)+(1-bu ops[i].k) by omega];exact zD)
  have anu:∀v∈st.take (st.length-(bu ops[i].k).toNat)++[(cJ l row ops[i] (dM aU ops[i].k st) (dZ aU ops[i].k st)).1],v.Ok:=fun v hv=>by rcases mem_append.1 hv with hv|hv;exact aQ v (mem_of_mem_take hv);rw[mem_singleton] at hv;rw[hv];exact Vo NF (gl _ (getElem_mem aa)) (Lh aQ _) (Li aQ _)
  refine az 2 ?_;refine dF (ds:=[_,_,_,_,_]) av rfl rfl zeroValue58 rfl (fun b9=>?_);refine aR 0 [_,_,_,_,_] sizeOf58 ?_;refine aq 64 [1,4,6,7,9,16,17,18] ?_;refine bX ?_;refine dF (ds:=[_,_,_]) av rfl rfl zeroValue56 rfl (fun kY=>?_);refine dF (ds:=[_,_,_]) av rfl rfl zeroValue56 rfl (fun mv=>?_);refine aq 64 [1,4,6,7,9,10,11,16,17,18] ?_;refine cX [1,4,6,7,9,10,11,12,16,17,18] (FV ops[i].k) ?_;refine aA [1,4,6,7,9,10,11,12,13,16,17,18] ?_;refine iT [1,4,6,9,10,11,12,13,16,17,18] (fun aV _ aF=>∃(va:Vl),∃(I:Option Addr),∃(E:Nat),∃(Sh:List ag),(dM aU ops[i].k st=va)/\(bq 56 3 (st.flatMap cV) st.length I E Sh)/\aF=(⟨64,(7,aN I st.length E)::aV,(⟨mv,56,3,[ae 0,ae 0,fN]⟩::⟨kY,56,3,[ae va.k,ae va.n,bg va.s]⟩::⟨b9,58,5,[ae ops[i].k,ae ops[i].v.k,ae ops[i].v.n,bg ops[i].v.s,bg ops[i].nm]⟩::⟨br,40,1,[an 3 cV row]⟩::⟨bc,39,1,[an 2 cC l]⟩::⟨b6,56,3,[ae 0,ae 0,fN]⟩::⟨b4,56,3,[ae 0,ae 0,fN]⟩::Sh)⟩:St)) ?_ ?_
  ·refine ax [1,4,6,7,9,10,11,12,13,16,17,18,30] ?_ ?_<;>intro bf cD
   ·obtain⟨bh,rfl,Z,O,rfl⟩:=U.pos w4;have vR:(st.length-(bu ops[i].k).toNat)<st.length:=(by omega)
    have ha:dM aU ops[i].k st=st[(st.length-(bu ops[i].k).toNat)]:=(by unfold dM;rw[if_pos w4,getD_eq_getElem?_getD,getElem?_eq_getElem vR];rfl)
    refine dV 2 ?_;refine bQ (ei 3 (h:=XC)) ?_;refine bQ (dN (mk:=Op.load 56) rfl ot (dO (k:=7) fQ rfl rfl rfl isAgg56 sizeOf56 vR)) ?_;refine aR 1 [_,_,_] sizeOf56 ?_;refine aq 64 [1,4,6,7,9,10,11,12,13,16,17,18] ?_;refine⟨_,aI,(st[(st.length-(bu ops[i].k).toNat)]),(some ⟨bh,0,none⟩),E,[⟨bh,56,E*3,flatMap cV st⟩],ha,(bN (g:=cV) (ls:=st) Z O),rfl⟩
   have ha:dM aU ops[i].k st=aU:=(by unfold dM;rw[if_neg w4])
   refine en ?_;refine⟨_,aI,aU,I,E,Sh,ha,U,rfl⟩
  rintro _ ⟨va,I,E,Sh,ha,U,rfl⟩;refine iT [1,4,6,9,10,11,13,16,17,18] (fun aV _ aF=>∃(vb:Vl),∃(I:Option Addr),∃(E:Nat),∃(Sh:List ag),(dZ aU ops[i].k st=vb)/\(bq 56 3 (st.flatMap cV) st.length I E Sh)/\aF=(⟨64,(7,aN I st.length E)::aV,(⟨mv,56,3,[ae vb.k,ae vb.n,bg vb.s]⟩::⟨kY,56,3,[ae va.k,ae va.n,bg va.s]⟩::⟨b9,58,5,[ae ops[i].k,ae ops[i].v.k,ae ops[i].v.n,bg ops[i].v.s,bg ops[i].nm]⟩::⟨br,40,1,[an 3 cV row]⟩::⟨bc,39,1,[an 2 cC l]⟩::⟨b6,56,3,[ae 0,ae 0,fN]⟩::⟨b4,56,3,[ae 0,ae 0,fN]⟩::Sh)⟩:St)) ?_ ?_
  ·refine ax [1,4,6,7,9,10,11,13,16,17,18,36] ?_ ?_<;>intro cr cU
   ·obtain⟨bh,rfl,Z,O,rfl⟩:=U.pos w4;have Dm:(st.length-(bu ops[i].k).toNat)+1<st.length:=(by omega)
    have hb:dZ aU ops[i].k st=st[(st.length-(bu ops[i].k).toNat)+1]:=(by unfold dZ;rw[if_pos w4,getD_eq_getElem?_getD,getElem?_eq_getElem Dm];rfl)
    refine dV 3 ?_;refine bQ (ei 3 (h:=XA)) ?_;refine bQ (dN (mk:=Op.load 56) rfl ot (dO (k:=7) fQ rfl rfl rfl isAgg56 sizeOf56 Dm)) ?_;refine aR 0 [_,_,_] sizeOf56 ?_;refine aq 64 [1,4,6,7,9,10,11,13,16,17,18] ?_;refine⟨_,aI,(st[(st.length-(bu ops[i].k).toNat)+1]),(some ⟨bh,0,none⟩),E,[⟨bh,56,E*3,flatMap cV st⟩],hb,(bN (g:=cV) (ls:=st) Z O),rfl⟩
   have hb:dZ aU ops[i].k st=aU:=(by unfold dZ;rw[if_neg w4])
   refine en ?_;refine⟨_,aI,aU,I,E,Sh,hb,U,rfl⟩
  rintro _ ⟨vb,I,E,Sh,hb,U,rfl⟩;refine az 4 ?_;refine my (f:=150) (args:=[_,_,_]) (all:=[_,_,_,_,_]) (Sf:=[⟨br,40,1,[an 3 cV row]⟩,⟨bc,39,1,[an 2 cC l]⟩]) av rfl rfl ot call150 (aeh l hl row vS ops[i] (ant _ (getElem_mem aa)) _ _ (va) (vb) ha hb (Lh aQ _) (Li aQ _) br bc) rfl ⟨ot,ot,ot,trivial⟩ (Kj (k:=3) (k':=3) rfl rfl) ?_;rintro _ _ ⟨rfl,rfl⟩;refine aG 3 ?_;refine dF (ds:=[_,_,_]) av rfl rfl zeroValue56 rfl (fun BM=>?_);refine aR 0 [_,_,_] sizeOf56 ?_;refine aq 64 [1,4,6,7,13,14,15,16,17,18] ?_;refine ax [1,4,6,7,13,14,15,16,17,18,51] ?_ ?_<;>intro de eG
  ·have hz:(cJ l row ops[i] (dM aU ops[i].k st) (dZ aU ops[i].k st)).2≠0:=(by simpa using de)
   have aY:=hinv.trans (Vk aa hz);refine az 2 ?_;refine aR 7 [_,_,_] sizeOf56 ?_;refine dY 64 [4,5] [⟨br,40,1,[an 3 cV row]⟩,⟨bc,39,1,[an 2 cC l]⟩] ?_;rw[aY];exact⟨rfl,rfl⟩
  have hz:(cJ l row ops[i] (dM aU ops[i].k st) (dZ aU ops[i].k st)).2=0:=(by simpa using de)
  refine en ?_;refine UZ (k:=(st.length-(bu ops[i].k).toNat)) (ls:=st) (Sq:=Sh) fQ w4 U (dK (A:=[_,_,_,_,_,_,_,_])) (fun ND MA=>?_);refine qs (ew (A:=[_,_,_,_,_,_,_,_])) ?_;refine iD 6 (aj (take 1 _)) ?_ (fun _ h=>(Sublist.map _ (take_sublist _ _)).subset h);refine aC 0 rfl bJ ?_;refine aC 1 rfl bJ ?_;first|refine aC 2 rfl (Fc (n:=st.length) (k:=(take (st.length-(bu ops[i].k).toNat) st).length) (cs:=st.flatMap cV) rfl ot rfl ⟨_,_,ot,by rw[length_take];omega⟩ runUnderlying40 sizeOf56 pF U) ?_|refine aC 2 rfl (Fc (n:=st.length) (k:=(take (st.length-(bu ops[i].k).toNat) st).length) (cs:=st.flatMap cV) rfl ot rfl ⟨_,_,ot,by rw[length_take];omega⟩ runUnderlying40 sizeOf56 pF (bN (e:=56) (g:=cV) (ls:=st) Z O)) ?_
  refine aC 3 rfl (dN (mk:=Op.load 56) rfl ot (by first|exact ry (k:=0) (ds:=[_,_,_]) rfl rfl isAgg56 sizeOf56 rfl rfl|exact kR mY isAgg56 sizeOf56 w5|exact kR fQ isAgg56 sizeOf56 w5|exact dO (k:=0) mY rfl rfl rfl isAgg56 sizeOf56 w5|exact dO (k:=1) mY rfl rfl rfl isAgg56 sizeOf56 w5|exact dO (k:=2) mY rfl rfl rfl isAgg56 sizeOf56 w5|exact dO (k:=3) mY rfl rfl rfl isAgg56 sizeOf56 w5|exact dO (k:=4) mY rfl rfl rfl isAgg56 sizeOf56 w5|exact dO (k:=5) mY rfl rfl rfl isAgg56 sizeOf56 w5|exact dO (k:=6) mY rfl rfl rfl isAgg56 sizeOf56 w5|exact dO (k:=7) mY rfl rfl rfl isAgg56 sizeOf56 w5|exact dO (k:=0) fQ rfl rfl rfl isAgg56 sizeOf56 w5|exact dO (k:=1) fQ rfl rfl rfl isAgg56 sizeOf56 w5|exact dO (k:=2) fQ rfl rfl rfl isAgg56 sizeOf56 w5|exact dO (k:=3) fQ rfl rfl rfl isAgg56 sizeOf56 w5|exact dO (k:=4) fQ rfl rfl rfl isAgg56 sizeOf56 w5|exact dO (k:=5) fQ rfl rfl rfl isAgg56 sizeOf56 w5|exact dO (k:=6) fQ rfl rfl rfl isAgg56 sizeOf56 w5|exact dO (k:=7) fQ rfl rfl rfl isAgg56 sizeOf56 w5|exact rE (ds:=[_,_,_]) isAgg56 sizeOf56 rfl rfl)) ?_;refine dW.later rfl ?_;refine bH (i:=4) aB ?_;refine oE (cx 0 [_]) [.int .i64 0,.int .i64 0,.string ⟨#[]⟩] [_,_,_] zeroValue56 runUnderlying40 sizeOf56 (fun Br=>?_);refine oF 0 58 3 1 ?_;refine bH (i:=5) aB ?_
  refine qk (ls:=(take (st.length-(bu ops[i].k).toNat) st)) (new:=[(cJ l row ops[i] (dM aU ops[i].k st) (dZ aU ops[i].k st)).1]) (Sq:=ND) fQ GF rfl av rfl rfl underlying40 ac1 rfl w8 ot MA (dK (A:=[_,_,_,_,_,_,_,_])) ot bp wP iI (fun uK uo C5 C6=>?_);refine gq (ew (S1:=[⟨uK,56,uo*3,flatMap cV ((take (st.length-(bu ops[i].k).toNat) st)++[(cJ l row ops[i] (dM aU ops[i].k st) (dZ aU ops[i].k st)).1])⟩]) (A:=[_,_,_,_,_,_,_,_])) ?_;refine fD ?_;refine bA [1,4,6,7,16,17,18] ?_;refine cc [1,4,6,7,16,17,18] ?_;refine⟨((i+1),(st.take (st.length-(bu ops[i].k).toNat)++[(cJ l row ops[i] (dM aU ops[i].k st) (dZ aU ops[i].k st)).1]),(some ⟨uK,0,none⟩),uo,[⟨uK,56,uo*3,flatMap cV ((take (st.length-(bu ops[i].k).toNat) st)++[(cJ l row ops[i] (dM aU ops[i].k st) (dZ aU ops[i].k st)).1])⟩]),_,cG,(aI (h:=HX)),w4,(by rw[uW];omega),oX,(hinv.trans (Vm aa hz)),anu,(bq.cast (bN C5 C6) (by rfl)),rfl⟩
 have h1:=TN w4 hex;have Dn:0<st.length:=(by omega)
 obtain⟨bh,rfl,Z,O,rfl⟩:=U.pos w4;have aY:=hinv.trans (TM w4);have k8:st.getD 0 aU=st[0]:=(by rw[getD_eq_getElem?_getD,getElem?_eq_getElem Dn];rfl)
 rw[k8] at aY;refine az 1 ?_;refine bQ (tV (mk:=Op.indexAddr 40) rfl ot cf (by first|exact we (j:=0) runUnderlying40 sizeOf56 rfl AV|exact wB (j:=0) runUnderlying40 sizeOf56 rfl AV)) ?_;refine bQ (dN (mk:=Op.load 56) rfl ot (dO (k:=4) fQ rfl rfl rfl isAgg56 sizeOf56 Dn)) ?_;refine aR 3 [_,_,_] sizeOf56 ?_;refine aq 64 [4,5] ?_;exact Ya
theorem ahR(l:List cm)(hl:l.length<=6)(row:List Vl)(O:row.length=l.length)(E:∀v∈row,v.Ok)(ops:List aH)(gl:∀o∈ops,o.v.Ok)(I:∀o∈ops,o.k=2->0<=bE l o.nm)(hx:fR ops=0):VP Tryz.prog G 131 [an 2 cC l,an 3 cV row,an 5 cO ops] (oc (gD l row ops)):=by
 refine bn func131 rfl ntmps131 aP fun X0 w0 bj=>?_;obtain⟨U,jm⟩:=x9 hx;have fF:=fun br bc=>af3 (G:=G) l hl row O E ops gl I U jm br bc;unfold oc at fF |-;generalize gD l row ops=q at fF |-;skip;refine bX ?_;refine cW [_] (fun b3=>?_);refine cW [_] (fun Z=>?_);refine dF (ds:=[_,_,_]) av rfl rfl zeroValue56 rfl (fun b6=>?_);refine aq 13 [2,3,4,6] ?_;refine az 1 ?_;refine bQ (tU (ds:=[_,_]) rfl ⟨ot,ot,trivial⟩) ?_;refine fg av rfl rfl rfl call149 (fF Z b3) ⟨ot,ot,trivial⟩ (Kj (k:=1) (k':=1) rfl rfl) ?_;rintro _ _ ⟨rfl,rfl⟩;refine aG 2 ?_;refine aR 2 [_,_,_] sizeOf56 ?_;refine aq 13 [6,7] ?_;exact oD
theorem Vp(hm:(3,marksC)∈G)(hw:(1,wordsC)∈G)(ht:(0,typesC)∈G)(l:List cm)(hl:l.length<=6)(aQ:∀c∈l,c.n.size<=maxLen)(row:List Vl)(Z:row.length<=1000)(E:∀v∈row,v.Ok)(ops:List aH)(ho:∀o∈ops,o.nm.size<=maxLen)(gl:∀o∈ops,o.v.Ok):VP Tryz.prog G 94 [an 2 cC l,an 3 cV row,an 5 cO ops] (oc (c8 l row ops)):=by
 refine bn func94 rfl ntmps94 aP fun X0 w0 bj=>?_;have dH:=ey;have U:=L4 hm hw ht l w4 aQ row w4;have I:=Gi hm hw ht l hl aQ ops ho;unfold qb at I;unfold oc;refine bX ?_;refine dF (ds:=[_,_,_]) av rfl rfl zeroValue56 rfl (fun b6=>?_);refine aq 34 [0,1,2,6] ?_;refine cX [0,1,2,6,8] (U) ?_;refine ax [0,1,2,6,8,15] ?_ ?_<;>intro aM bG
 ·have h0:dR l row≠0:=(by simpa using aM)
  have aY:c8 l row ops=(aU,dR l row):=(by unfold c8;rw[if_pos h0])
  refine az 2 ?_;refine aR 0 [_,_,_] sizeOf56 ?_;refine aq 34 [6,7] ?_;exact pH
 have h0:dR l row=0:=(by simpa using aM)
 refine cX [0,1,2,6,10] (I) ?_;refine ax [0,1,2,6,10,25] ?_ ?_<;>intro bf cD
 ·have h1:(cu l ops).2≠0:=(by simpa using bf)
  have aY:c8 l row ops=(aU,(cu l ops).2):=(by unfold c8;rw[if_neg (by simp[h0]),if_pos h1])
  refine az 2 ?_;refine aR 0 [_,_,_] sizeOf56 ?_;refine aq 34 [6,7] ?_;exact pH
 have h1:(cu l ops).2=0:=(by simpa using bf)
 obtain⟨k1,k2,k3⟩:=Gj h1;have aY:c8 l row ops=gD l row ops:=(by unfold c8;rw[if_neg (by simp[h0]),if_neg (by simp[h1])])
 have O:=ahR (G:=G) l hl row (K0 h0) E ops gl (RM (by rw[<-k3];exact h1)) k2;unfold oc at O;refine az 3 ?_;refine eB call131 (O) ?_;refine aG 2 ?_;refine aR 0 [_,_,_] sizeOf56 ?_;refine aq 34 [6,7] ?_;exact vH
end Ex
namespace Pc
open List
open Go.Proofs.Tryz
open Go.RowKit V Pk Vl Go.Proofs.YtbplamgacibdaaaGreatDoor.Nm
variable {G:List (Nat×List Value)}
def aL:List cm:=[⟨⟨#[105,100]⟩,2⟩,⟨⟨#[110]⟩,2⟩,⟨⟨#[115]⟩,3⟩,⟨⟨#[98]⟩,1⟩]
def qx(n:Int):Vl:=if cH n 3=2 then aU else ⟨1,cH n 3,⟨#[]⟩⟩
def kH(n:Int):Vl:=⟨2,n,⟨#[]⟩⟩
theorem ak5:cR ⟨#[105,100]⟩=0:=uZ (l:=[105,100]) w8 w8 w8
theorem anv:cR ⟨#[110]⟩=0:=uZ (l:=[110]) w8 w8 w8
theorem anw:cR ⟨#[115]⟩=0:=uZ (l:=[115]) w8 w8 w8
theorem anx:cR ⟨#[98]⟩=0:=uZ (l:=[98]) w8 w8 w8
theorem vg:ga aL=0:=by
 simp[ga,aL,sN,ou,ak5,anv,anw,anx,xZ]
theorem UA:∀c∈aL,c.n.size<=maxLen:=fun c hc=>by
 have h:c.n.size<=2:=by
  simp only[aL,mem_cons,not_mem_nil,or_false] at hc;rcases hc with rfl|rfl|rfl|rfl
  ·exact Nat.le_refl 2
  ·exact Nat.le_succ 1
  ·exact Nat.le_succ 1
  exact Nat.le_succ 1
 exact Nat.le_trans h w8
theorem ajD(n:Int):bY (kH n)=0:=by
 unfold bY;rw[if_neg (show ¬(kH n).k=0 by show ¬(2:Int)=0;decide),if_neg (show ¬(kH n).k=1 by show ¬(2:Int)=1;decide),if_pos (show(kH n).k=2 from rfl),if_neg (fun h=>h rfl)]
theorem AS:bY aU=0:=by decide
theorem JU:VP Tryz.prog G 14 [] (an 2 cC aL):=by
 refine bn func14 rfl ntmps14 aP fun X0 w0 bj=>?_;refine aA [] ?_;refine az 4 ?_;refine eH (cx 0 [_,_,_,_]) [.string ⟨#[]⟩,.int .i64 0,.string ⟨#[]⟩,.int .i64 0,.string ⟨#[]⟩,.int .i64 0,.string ⟨#[]⟩,.int .i64 0] [_,_,_,_,_,_,_,_] zeroValue93 runUnderlying39 sizeOf93 (fun b5=>?_);refine bZ (ew (S1:=[⟨b5,93,4*2,flatMap cC ([⟨⟨#[105,100]⟩,2⟩,⟨⟨#[110]⟩,2⟩,⟨⟨#[115]⟩,3⟩,⟨⟨#[98]⟩,1⟩])⟩]) (A:=[])) ?_;refine aq 6 [0] ?_;refine oL (t:=0) (Sq:=[⟨b5,93,4*2,flatMap cC ([⟨⟨#[105,100]⟩,2⟩,⟨⟨#[110]⟩,2⟩,⟨⟨#[115]⟩,3⟩,⟨⟨#[98]⟩,1⟩])⟩]) lk (bN (g:=cC) (sz:=2) (e:=93) (ls:=[⟨⟨#[105,100]⟩,2⟩,⟨⟨#[110]⟩,2⟩,⟨⟨#[115]⟩,3⟩,⟨⟨#[98]⟩,1⟩]) (Nat.le_refl _) (show 4<=maxLen by decide)) (cz mB _) (dK (A:=[])) ?_;exact oD
end Pc
namespace Ex
open List
open Go.Proofs.Tryz
open Go.RowKit V Pk Vl Go.Proofs.YtbplamgacibdaaaGreatDoor.Nm Pc
variable {k:Int} {a b:Vl} {l:List cm} {row:List Vl} {o:aH} {α:Type} {ks:List Int}
theorem Jo(b:Bool):bY (nF b)=0:=by cases b<;>decide
theorem aei(n:Int):bY ⟨2,n,⟨#[]⟩⟩=0:=ajD n
theorem Gk(h:¬(k=8\/k=9\/k=10)):um k=1:=if_neg h
theorem ahS(h:k=8\/k=9\/k=10):um k=2:=if_pos h
theorem Kr(b:Bool):(nF b).k=1:=by cases b<;>rfl
theorem B8{v:Vl}(h:jy v=0):bY v=0:=by
 unfold jy at h;split at h
 ·cases h
 exact h
def jL(k:Int)(v:Vl):Prop:=bY v=0/\(v.k=k\/v.k=0)
theorem CK:jL 0 aU:=⟨AS,.inl rfl⟩
structure kz (l:List cm) (o:aH):Prop where
 nm:o.nm.size<=maxLen
 ok:o.v.Ok
 ck:bY o.v=0
 k1:1<=o.k
 k2:o.k<=11
 col:o.k=2->0<=bE l o.nm
def G7(l:List cm)(row:List Vl):Prop:=∀i:Nat,jL (l.getD i ⟨⟨#[]⟩,0⟩).k (row.getD i aU)
theorem AT{a b:Int}(h:r9 a b=true):a=b\/a=0:=by
 unfold r9 at h;simpa using h
theorem ac2{d:Int}(ha:bY a=0)(hb:bY b=0)(h1:a.k=1\/a.k=0)(h2:b.k=1\/b.k=0):(lN a b d).2=0/\jL 1 (lN a b d).1:=by
 unfold lN;rw[if_neg w4];split
 ·exact⟨rfl,ha,h1⟩
 split
 ·exact⟨rfl,hb,h2⟩
 split
 ·exact⟨rfl,AS,.inr rfl⟩
 exact⟨rfl,ha,h1⟩
theorem ahT(ha:bY a=0)(hb:bY b=0):Cd.mG a b=0:=by unfold Cd.mG;rw[ha,hb];rfl
theorem aej(h:Cd.mG a b=0)(hk:k=3\/k=4):∃d,fI k a b=lN a b d:=by
 unfold fI;rw[if_neg (by simp[h])];rcases hk with rfl|rfl
 ·exact⟨0,if_pos rfl⟩
 exact⟨1,by rw[if_neg w8,if_pos rfl]⟩
theorem af4(h:Cd.mG a b=0)(hk:k=6\/k=7):fI k a b=if qA a b=true then (aU,0) else if a.k≠b.k then (aU,4) else (nF ((Cd.eN a b==0&&k==6)||(decide (Cd.eN a b<0)&&k==7)),0):=by
 unfold fI;rw[if_neg (by simp[h]),if_neg w4,if_neg w4,if_pos hk]
theorem aek(hr:G7 l row)(ho:kz l o){a b:Int}{E vb:Vl}(ha:jL a E)(hb:jL b vb)(h:(gA l o a b).2=0) :
  (cJ l row o E vb).2=5\/((cJ l row o E vb).2=0/\jL (gA l o a b).1 (cJ l row o E vb).1):=by
 have k1:=ho.k1;have k2:=ho.k2;obtain⟨ca,ka⟩:=ha;obtain⟨cb,kb⟩:=hb;have O:=ahT ca cb;unfold gA at h |-;by_cases e1:o.k=1
 ·rw[if_pos e1];have:cJ l row o E vb=(o.v,0):=(by unfold cJ bu;rw[if_neg w4,if_neg (by rw[if_pos (.inl e1)];omega),if_neg w4]<;>(try rw[if_pos (.inl e1)];omega))
  rw[this];exact .inr ⟨rfl,ho.ck,.inl rfl⟩
 rw[if_neg e1] at h |-;by_cases e2:o.k=2
 ·rw[if_pos e2] at h |-;have hp:bu o.k=0:=(by unfold bu;rw[if_pos (.inr e2)])
  have hc:=ho.col e2;have:cJ l row o E vb=(row.getD (bE l o.nm).toNat aU,0):=(by unfold cJ;rw[if_neg w4,if_neg w4,if_pos e2])
  rw[this];unfold vr;rw[if_neg w4];exact .inr ⟨rfl,hr _⟩
 rw[if_neg e2] at h |-;have aQ:okF o.k a b=true:=by
  by_cases hk:okF o.k a b=true
  ·exact hk
  rw[if_neg hk] at h;cases h
 rw[if_pos aQ];unfold okF at aQ;by_cases I:o.k=5\/o.k=11
 ·have hp:bu o.k=1:=(by unfold bu;rw[if_neg w4,if_pos I])
  have he:cJ l row o E vb=j3 o.k E:=(by unfold cJ;rw[if_pos hp])
  rw[he];unfold j3;rw[if_neg (by simp[ca])];rcases I with I|I
  ·have U:¬(o.k=3\/o.k=4):=(by omega)
   have Z:¬o.k=11:=(by omega)
   rw[if_neg U,if_pos I] at aQ;have hi:=AT aQ;rw[if_neg Z,if_pos I,Gk w4];by_cases z:E.k=0
   ·rw[if_pos z];exact .inr ⟨rfl,ca,.inr z⟩
   rw[if_neg z,if_pos w4];exact .inr ⟨rfl,Jo _,.inl (Kr _)⟩
  rw[if_pos I,Gk w4];exact .inr ⟨rfl,Jo _,.inl (Kr _)⟩
 have hp:bu o.k=2:=(by unfold bu;rw[if_neg w4,if_neg I])
 have he:cJ l row o E vb=fI o.k E vb:=(by unfold cJ;rw[if_neg w4,if_pos hp])
 rw[he];by_cases e3:o.k=3\/o.k=4
 ·rw[if_pos e3,Bool.and_eq_true] at aQ;have i1:=AT aQ.1;have i2:=AT aQ.2;obtain⟨d,hd⟩:=aej O e3;rw[hd,Gk w4];exact .inr (ac2 ca cb w4 w4)
 have n5:¬o.k=5:=(by omega)
 rw[if_neg e3,if_neg n5] at aQ;by_cases e6:o.k=6\/o.k=7
 ·rw[if_pos e6,Bool.or_eq_true] at aQ;rw[af4 O e6,Gk w4];by_cases hn:qA E vb=true
  ·rw[if_pos hn];exact .inr ⟨rfl,AS,.inr rfl⟩
  rw[if_neg hn];unfold qA at hn;simp only[Bool.or_eq_true,beq_iff_eq,not_or] at hn;have mO:E.k=vb.k:=by
   rcases aQ with aQ|aQ
   ·have:=AT aQ;omega
   have:b=0:=(by simpa using aQ)
   omega
  rw[if_neg (by simpa using mO)];exact .inr ⟨rfl,Jo _,.inl (Kr _)⟩
 have e8:o.k=8\/o.k=9\/o.k=10:=(by omega)
 rw[if_neg e6,if_pos e8,Bool.and_eq_true] at aQ;have i1:=AT aQ.1;have i2:=AT aQ.2;rw[RJ O e8 w4,ahS e8];split
 ·exact .inr ⟨rfl,AS,.inr rfl⟩
 split
 ·exact .inr ⟨rfl,aei _,.inl rfl⟩
 exact .inl rfl
theorem wz{z:α}{f:aH->α->α->α × Int}{r:List aH}{st:List α}(h:(f o (dM z o.k st) (dZ z o.k st)).2=0):fk z f (o::r) st=fk z f r (st.take (st.length-(bu o.k).toNat)++[(f o (dM z o.k st) (dZ z o.k st)).1]):=by
 rw[fk,if_neg (by rw[h];simp)]
theorem x5{z:α}{f:aH->α->α->α × Int}{r:List aH}{st:List α}(h:(f o (dM z o.k st) (dZ z o.k st)).2≠0):fk z f (o::r) st=(z,(f o (dM z o.k st) (dZ z o.k st)).2):=by
 rw[fk,if_pos h]
def Dp(ks:List Int)(vs:List Vl):Prop:=ks.length=vs.length/\∀i:Nat,jL (ks.getD i 0) (vs.getD i aU)
theorem TQ(z x:α)(l:List α)(n i:Nat)(hn:n<=l.length):(l.take n++[x]).getD i z=if i<n then l.getD i z else if i=n then x else z:=by
 have hl:(l.take n).length=n:=(by rw[length_take];omega)
 by_cases h1:i<n
 ·rw[if_pos h1,getD_eq_getElem?_getD,getD_eq_getElem?_getD,getElem?_append_left w4,getElem?_take,if_pos h1]
 rw[if_neg h1,getD_eq_getElem?_getD,getElem?_append_right w4,hl];by_cases h2:i=n
 ·rw[if_pos h2,h2,Nat.sub_self];rfl
 rw[if_neg h2,getElem?_eq_none (by rw[length_singleton];omega)];rfl
theorem ahU{vs:List Vl}(h:Dp ks vs){v:Vl}(hr:jL k v){n:Nat}(hn:n<=ks.length):Dp (ks.take n++[k]) (vs.take n++[v]):=by
 have hl:=h.1;refine⟨by simp only[length_append,length_take,length_singleton];omega,fun i=>?_⟩;rw[TQ _ _ _ _ _ hn,TQ _ _ _ _ _ w4];split
 ·exact h.2 i
 split
 ·exact hr
 exact CK
theorem ahV{vs:List Vl}(h:Dp ks vs)(k:Int):jL (dM 0 k ks) (dM aU k vs)/\jL (dZ 0 k ks) (dZ aU k vs):=by
 have hl:=h.1;unfold dM dZ;rw[hl];refine⟨?_,?_⟩
 ·split
  ·exact h.2 _
  exact CK
 split
 ·exact h.2 _
 exact CK
theorem RN{l:List cm}{row:List Vl}(hr:G7 l row):∀(ops:List aH),(∀o∈ops,kz l o)->∀(ks:List Int) (vs:List Vl),Dp ks vs->(fk 0 (gA l) ops ks).2=0 ->
  (fk aU (cJ l row) ops vs).2=5\/((fk aU (cJ l row) ops vs).2=0/\jL (fk 0 (gA l) ops ks).1 (fk aU (cJ l row) ops vs).1)
 | [],_,ks,vs,h,_=>.inr ⟨rfl,h.2 0⟩
 | o::r,hg,ks,vs,h,h0=>by
  obtain⟨hA,hB⟩:=ahV h o.k;by_cases hm:(gA l o (dM 0 o.k ks) (dZ 0 o.k ks)).2=0
  ·rw[wz hm] at h0 |-;rcases aek hr (hg o mem_cons_self) hA hB hm with h5|⟨hz,E⟩
   ·rw[x5 (by rw[h5];decide)];exact .inl h5
   rw[wz hz];have:=ahU h E (n:=ks.length-(bu o.k).toNat) (Nat.sub_le _ _);rw[show vs.length-(bu o.k).toNat=ks.length-(bu o.k).toNat by rw[h.1]];exact RN hr r (fun x hx=>hg x (mem_cons_of_mem _ hx)) _ _ this h0
  rw[x5 hm] at h0;exact absurd h0 hm
theorem af5(ho:kz l o)(a b:Int):(gA l o a b).2=0\/(gA l o a b).2=4:=by
 unfold gA;split
 ·exact .inl rfl
 split
 ·rename_i h2;have:=ho.col h2;unfold vr;rw[if_neg w4];exact .inl rfl
 split
 ·exact .inl rfl
 exact .inr rfl
theorem TR{l:List cm}:∀(ops:List aH),(∀o∈ops,kz l o)->∀ks,(fk 0 (gA l) ops ks).2=0\/(fk 0 (gA l) ops ks).2=4
 | [],_,ks=>.inl rfl
 | o::r,hg,ks=>by
  rw[fk];split
  ·rename_i hne;rcases af5 (hg o mem_cons_self) (dM 0 o.k ks) (dZ 0 o.k ks) with h|h
   ·exact absurd h hne
   exact .inr h
  exact TR r (fun x hx=>hg x (mem_cons_of_mem _ hx)) _
theorem ahW:Dp [] []:=⟨rfl,fun i=>by rw[getD_nil,getD_nil];exact CK⟩
theorem RO{ops:List aH}(hl:ga l=0)(hw:dR l row=0)(hr:G7 l row)(hg:∀o∈ops,kz l o)(hx:fR ops=0) :
  cu l ops=sP l ops/\((cu l ops).2=0\/(cu l ops).2=4)/\((cu l ops).2=4->c8 l row ops=(aU,4)) /\
  ((cu l ops).2=0->c8 l row ops=gD l row ops/\((c8 l row ops).2=5\/((c8 l row ops).2=0/\jL (cu l ops).1 (c8 l row ops).1))):=by
 have hk:cu l ops=sP l ops:=(by unfold cu;rw[if_neg (by simp[hl]),if_neg (by simp[hx])])
 refine⟨hk,by rw[hk];exact TR ops hg [],fun h4=>?_,fun h0=>?_⟩
 ·unfold c8;rw[if_neg (by simp[hw]),if_pos A3,h4]
 have he:c8 l row ops=gD l row ops:=(by unfold c8;rw[if_neg (by simp[hw]),if_neg (by simp[h0])])
 refine⟨he,?_⟩;rw[he,hk];exact RN hr ops hg [] [] ahW (by rw[hk] at h0;exact h0)
theorem Xa:bE aL ⟨#[105,100]⟩=0:=by decide +kernel
theorem anz:bE aL ⟨#[110]⟩=1:=by decide +kernel
theorem anA:bE aL ⟨#[115]⟩=2:=by decide +kernel
theorem anB:bE aL ⟨#[98]⟩=3:=by decide +kernel
theorem ahX(j:Int):0<=bE aL (pX j):=by
 unfold pX;split
 ·rw[Xa];decide
 split
 ·rw[anz];decide
 split
 ·rw[anA];decide
 rw[anB];decide
theorem ac3(j:Int):(pX j).size<=2:=by
 unfold pX;split
 ·decide
 split
 ·decide
 split<;>decide
theorem GG(n:Int)(s:ByteArray):(sV n s).Ok:=by
 have h1:=j7 n (by decide:(1:Int)<=40);have h2:=j7 (cH n 40-20) (by decide:(1:Int)<=2);have hc:∀x:ByteArray,(nj x 4).size<=4:=fun x=>by rw[Fw];omega
 have hm:4<=maxLen:=(by decide)
 have hv:∀v:Vl,(0<=v.k/\v.k<=3)->(-20<=v.n/\v.n<=20)->({v with s:=nj v.s 4}:Vl).Ok:=fun v hk hn=>⟨by show _<=v.k;omega,by show v.k<=_;omega,by show _<=v.n;omega,by show v.n<=_;omega,Nat.le_trans (hc _) hm⟩
 unfold sV;refine hv _ ?_ ?_
 ·unfold px aU;repeat' split
  all_goals (simp only[];omega)
 unfold px aU;repeat' split
 all_goals (simp only[];omega)
theorem TS(l:List cm)(n:Int)(s:ByteArray):kz l (sK n s):=⟨Nat.zero_le _,GG n s,B8 (TK n s),by show(1:Int)<=1;decide,by show(1:Int)<=11;decide,fun h=>absurd h (by show ¬(1:Int)=2;decide)⟩
theorem TT(n:Int):kz aL (wI n):=⟨Nat.le_trans (ac3 _) w8,sQ,AS,by show(1:Int)<=2;decide,by show(2:Int)<=11;decide,fun _=>ahX _⟩
theorem JV(l:List cm)(h1:3<=k)(h2:k<=11):kz l (cY k):=⟨Nat.zero_le _,sQ,AS,by show 1<=k;omega,h2,fun h=>absurd h (by show ¬k=2;omega)⟩
theorem RP(k n:Int)(s:ByteArray):∀o∈mz k n s,kz aL o:=fun o ho=>by
 unfold mz at ho;split at ho<;>(rw[mem_singleton] at ho;subst ho)
 ·exact TT n
 exact TS _ n s
theorem TU:∀(r:Nat) (t:Tw),∀o∈gH r t,kz aL o
 | 0,.mk k n s ts=>RP k n s
 | r+1,.mk k n s ts=>by
  have E:∀i:Nat,∀o∈gJ r ts n s i,kz aL o:=fun i=>by
   unfold gJ;split
   ·exact TU r _
   exact RP _ _ _
  have hk:=j7 k (by decide:(1:Int)<=11);intro o ho;rw[v7] at ho;split at ho
  ·rw[mem_singleton] at ho;subst ho;exact TS _ n s
  split at ho
  ·rw[mem_singleton] at ho;subst ho;exact TT n
  split at ho
  ·rcases mem_append.1 ho with ho|ho
   ·exact E 0 o ho
   rw[mem_singleton] at ho;subst ho;exact JV _ w4 w4
  rcases mem_append.1 ho with ho|ho
  ·rcases mem_append.1 ho with ho|ho
   ·exact E 0 o ho
   exact E 1 o ho
  rw[mem_singleton] at ho;subst ho;exact JV _ w4 w4
end Ex
namespace Pc
open List
open Go.Proofs.Tryz
open Go.RowKit V Pk Vl Go.Proofs.YtbplamgacibdaaaGreatDoor.Nm
def typesB:List (List UInt8):=[[],[66,79,79,76],[73,78,84],[84,69,88,84]]
abbrev TypesTab(w:World):Prop:=Tab.nH w 0 typesC
end Pc
namespace Ex
end Ex
namespace Ex
open List
open Go.Proofs.Tryz
open Go.RowKit V Pk Vl Go.Proofs.YtbplamgacibdaaaGreatDoor.Nm Go.Proofs.YtbplamgacibdaaaGreatDoor.Pc
variable {k:Int} {row:List Vl} {x:List aH}
def ic{α:Type}(z:α)(f:aH->α->α->α × Int):List aH->List α->List α × Int
 | [],st=>(st,0)
 | o::r,st =>
  if (f o (dM z o.k st) (dZ z o.k st)).2≠0 then ([],(f o (dM z o.k st) (dZ z o.k st)).2)
  else ic z f r (st.take (st.length-(bu o.k).toNat)++[(f o (dM z o.k st) (dZ z o.k st)).1])
section
variable {α:Type} {z:α} {f:aH->α->α->α × Int}
theorem sJ{o:aH}{r:List aH}{st:List α}(h:(f o (dM z o.k st) (dZ z o.k st)).2=0):ic z f (o::r) st=ic z f r (st.take (st.length-(bu o.k).toNat)++[(f o (dM z o.k st) (dZ z o.k st)).1]):=by
 rw[ic,if_neg (by rw[h];simp)]
theorem Ao{o:aH}{r:List aH}{st:List α}(h:(f o (dM z o.k st) (dZ z o.k st)).2≠0):ic z f (o::r) st=([],(f o (dM z o.k st) (dZ z o.k st)).2):=by
 rw[ic,if_pos h]
theorem sB:∀(ops:List aH) (st:List α),fk z f ops st=if (ic z f ops st).2≠0 then (z,(ic z f ops st).2) else ((ic z f ops st).1.getD 0 z,0)
 | [],st=>rfl
 | o::r,st=>by
  by_cases h:(f o (dM z o.k st) (dZ z o.k st)).2=0
  ·rw[wz h,sJ h];exact sB r _
  rw[x5 h,Ao h,if_pos h]
theorem zP:∀(a b:List aH) (st:List α),(ic z f a st).2=0->ic z f (a++b) st=ic z f b (ic z f a st).1
 | [],b,st,_=>rfl
 | o::r,b,st,h=>by
  by_cases he:(f o (dM z o.k st) (dZ z o.k st)).2=0
  ·rw[sJ he] at h |-;rw[cons_append,sJ he];exact zP r b _ h
  rw[Ao he] at h;exact absurd h he
theorem RQ(k:Int)(E st:List α)(h:bu k<=st.length):dM z k (E++st)=dM z k st/\dZ z k (E++st)=dZ z k st:=by
 have hp:=rz k;unfold dM dZ;refine⟨?_,?_⟩
 ·exact z93
 exact z93
theorem Q7(k:Int)(E st:List α)(h:bu k<=st.length):(E++st).take ((E++st).length-(bu k).toNat)=E++st.take (st.length-(bu k).toNat):=by
 have hp:=rz k;rw[length_append,show E.length+st.length-(bu k).toNat=E.length+(st.length-(bu k).toNat) by omega,take_length_add_append]
theorem TV(k:Int)(st:List α)(x:α)(h:bu k<=st.length):(((st.take (st.length-(bu k).toNat)++[x]).length:Nat):Int)=st.length+(1-bu k):=by
 have hp:=rz k;rw[length_append,length_take,length_singleton];omega
theorem JW:∀(ops:List aH) (E st:List α) (h':Int),runs st.length ops=some h'->(ic z f ops st).2=0->ic z f ops (E++st)=(E++(ic z f ops st).1,0)/\(((ic z f ops st).1.length:Nat):Int)=h'
 | [],E,st,h',hr,_=>by cases hr;exact⟨rfl,rfl⟩
 | o::r,E,st,h',hr,h0=>by
  rw[runs] at hr;split at hr
  ·rename_i he;have hp:=(u9 he).1;obtain⟨a1,a2⟩:=RQ (z:=z) o.k E st hp;by_cases hz:(f o (dM z o.k st) (dZ z o.k st)).2=0
   ·rw[sJ hz] at h0 |-;rw[sJ (by rw[a1,a2];exact hz),a1,a2,Q7 o.k E st hp,append_assoc];exact JW r E _ h' (by rw[TV o.k st _ hp];exact hr) h0
   rw[Ao hz] at h0;exact absurd h0 hz
  cases hr
end
theorem ahY{a:Vl}(h:(j3 k a).2≠0):(j3 k a).1=aU:=by
 unfold j3 at h |-;split at h
 ·rename_i c;rw[if_pos c]
 rename_i E;rw[if_neg E];split at h
 ·exact absurd rfl h
 rename_i I;rw[if_neg I];split at h
 ·rename_i c;rw[if_pos c];split at h
  ·exact absurd rfl h
  rename_i O;rw[if_neg O];split at h
  ·exact absurd rfl h
  rename_i U;rw[if_neg U]
 rename_i c;rw[if_neg c]
theorem Lj{l:List cm}(hr:runs 0 x=some 1)(h:(gD l row x).2=0)(E:List Vl):ic aU (cJ l row) x E=(E++[(gD l row x).1],0):=by
 unfold gD at h |-;rw[sB] at h |-;have h0:(ic aU (cJ l row) x []).2=0:=by
  by_cases hz:(ic aU (cJ l row) x []).2=0
  ·exact hz
  rw[if_pos hz] at h;exact absurd h hz
 obtain⟨q1,q2⟩:=JW x E [] 1 hr h0;rw[append_nil] at q1;rw[q1,if_neg (by simpa using h0)];have hl:(ic aU (cJ l row) x []).1.length=1:=(by omega)
 obtain⟨v,hv⟩:=length_eq_one_iff.1 hl;rw[hv];rfl
theorem af6{l:List cm}(hx:runs 0 x=some 1)(h1:(gD l row x).2=0)(hk:bu k=1):gD l row (x++[cY k])=j3 k (gD l row x).1:=by
 have e1:=Lj hx h1 [];show fk aU (cJ l row) (x++[cY k]) []=_;rw[sB,zP _ _ _ (by rw[e1]),e1];generalize (gD l row x).1=v;have ha:dM aU (cY k).k [v]=v:=(by unfold dM;rw[show(cY k).k=k from rfl,hk];rfl)
 have E:∀w,cJ l row (cY k) v w=j3 k v:=fun w=>by unfold cJ;rw[show(cY k).k=k from rfl,hk];rfl
 rw[nil_append];by_cases hz:(j3 k v).2=0
 ·rw[sJ (by rw[ha,E];exact hz),ha,E,show(cY k).k=k from rfl,hk];show(if (0:Int)≠0 then _ else ((j3 k v).1,(0:Int)))=_;rw[if_neg bp,<-hz]
 rw[Ao (by rw[ha,E];exact hz),ha,E];show(if (j3 k v).2≠0 then (aU,(j3 k v).2) else _)=_;rw[if_pos hz,<-ahY hz]
theorem Ck(hx:runs 0 x=some 1)(hl:x.length<=30)(h3:3<=k)(E:k<=11)(hk:bu k=1):fR (x++[cY k])=0:=by
 have hr:runs 0 (x++[cY k])=some 1:=by
  rw[xP,hx,Option.bind_some,runs,if_pos (Kp h3 E w4),runs];rw[show(cY k).k=k from rfl,hk];rfl
 unfold fR;rw[if_neg (by simp only[length_append,length_singleton];omega)];have:=JB [] hr;rw[append_nil] at this;rw[this];rfl
theorem Ks(hx:∀o∈x,kz aL o)(h3:3<=k)(E:k<=11):∀o∈x++[cY k],kz aL o:=fun o ho=>by
 rcases mem_append.1 ho with ho|ho
 ·exact hx o ho
 rw[mem_singleton] at ho;subst ho;exact JV _ h3 E
end Ex
namespace Ex
open List
open Go.Proofs.Tryz
open Go.RowKit V Pk Vl Go.Proofs.YtbplamgacibdaaaGreatDoor.Nm Pc Cd
open Go.Lib (compareBytes)
variable {ops:List aH} {k:List UInt8}
def l6(ops:List aH)(i:Nat):Int:=(ops.getD i (cY 0)).k
def iO(ops:List aH):Nat->Int->Nat
 | 0,_=>0
 | i+1,need=>if need+(bu (l6 ops i)-1)>0 then iO ops i (need+(bu (l6 ops i)-1)) else i
theorem sE{i:Nat}(h:i<ops.length):l6 ops i=ops[i].k:=by unfold l6;rw[getD_eq_getElem?_getD,getElem?_eq_getElem h];rfl
theorem Wt{h h':Int}{o:aH}(he:gG h o=0)(hp:bu o.k<=h'):gG h' o=0:=by
 unfold gG at he |-;split at he
 ·cases he
 rename_i q1;rw[if_neg q1];split at he
 ·rename_i h2;exact absurd he h2
 rename_i q2;rw[if_neg q2];split at he
 ·cases he
 rename_i E;rw[if_neg E];split at he
 ·rename_i h4;exact absurd he h4.2
 rename_i I;rw[if_neg I,if_neg w4]
theorem JX{n:Nat}{h:Int}(hn:n<ops.length)(e:runs 0 (ops.take (n+1))=some h):∃h',runs 0 (ops.take n)=some h'/\gG h' ops[n]=0/\h=h'+(1-bu ops[n].k):=by
 rw[take_succ_eq_append_getElem hn,xP] at e;cases hr:runs 0 (ops.take n) with
 | none=>rw[hr] at e;cases e
 | some h' =>
  rw[hr,Option.bind_some,runs] at e;split at e
  ·rename_i he;rw[runs] at e;cases e;exact⟨h',rfl,he,rfl⟩
  cases e
theorem TW{ops:List aH}:∀(n:Nat) (need h:Int),n<=ops.length->runs 0 (ops.take n)=some h->1<=need->need<=h ->
  iO ops n need<n/\runs 0 (ops.take (iO ops n need))=some (h-need)/\∀k:Int,0<=k->runs k ((ops.take n).drop (iO ops n need))=some (k+need)
 | 0,need,h,_,e,h1,h2=>by rw[List.take_zero,runs] at e;cases e;omega
 | n+1,need,h,hn,e,h1,h2=>by
  have aa:n<ops.length:=(by omega)
  obtain⟨h',e1,e2,U⟩:=JX aa e;have I:=rz ops[n].k;have tq:=(u9 e2).1;have E:∀m,m<=n->(ops.take (n+1)).drop m=(ops.take n).drop m++[ops[n]]:=fun m hm=>by
   rw[take_succ_eq_append_getElem aa,drop_append,show m-(ops.take n).length=0 by rw[length_take];omega,drop_zero]
  rw[iO,sE aa];by_cases hc:need+(bu ops[n].k-1)>0
  ·rw[if_pos hc];obtain⟨q1,q2,O⟩:=TW n (need+(bu ops[n].k-1)) h' w4 e1 w4 w4;refine⟨by omega,by rw[q2];congr 1;omega,fun k hk=>?_⟩;rw[E _ w4,xP,O k hk,Option.bind_some,runs,if_pos (Wt e2 w4),runs];congr 1;omega
  rw[if_neg hc];refine⟨by omega,by rw[e1];congr 1;omega,fun k hk=>?_⟩;rw[E n (Nat.le_refl _),drop_of_length_le pF,nil_append,runs,if_pos (Wt e2 w4),runs];congr 1;omega
def lu(key:ByteArray)(o:aH):Bool:=o.k==2&&o.nm.toList==key.toList
def gv(o:aH):Bool:=o.k==1 && !(o.v.k==0)
abbrev jD:=List UInt8×List UInt8
variable {b:jD}
def nL(k:List UInt8)(b:jD):jD:=if compareBytes k b.1>0 then (k,b.2) else b
def qy(k:List UInt8)(b:jD):jD:=if b.2.length=0\/compareBytes k b.2<0 then (b.1,k) else b
def uk(kc:Int)(eq not:Bool)(k:List UInt8)(b:jD):jD :=
 bif eq||(kc==0)!=not then qy k (bif eq||(kc==0)==not then nL k b else b) else bif eq||(kc==0)==not then nL k b else b
def ux(ops:List aH):List UInt8:=(gj [(ops.getD (c9 gv (ops.take 2)).toNat (cY 0)).v]).1
def mb(key:ByteArray)(ops:List aH)(not:Bool)(b:jD):jD :=
 if ops.length≠3\/(not=true/\l6 ops (ops.length-1)≠7)\/(l6 ops (ops.length-1)≠6/\l6 ops (ops.length-1)≠7) then b
 else if c9 (lu key) (ops.take 2)<0\/c9 gv (ops.take 2)<0 then b
 else uk (c9 (lu key) (ops.take 2)) (l6 ops (ops.length-1)==6) not (ux ops) b
def fM(key:ByteArray):Nat->List aH->jD->jD
 | 0,_,b=>b
 | f+1,ops,b =>
  if l6 ops (ops.length-1)=3 then fM key f ((ops.take (ops.length-1)).drop (iO ops (ops.length-1) 1)) (fM key f (ops.take (iO ops (ops.length-1) 1)) b)
  else if l6 ops (ops.length-1)=5 then mb key (ops.take (ops.length-1)) true b
  else mb key ops false b
variable {G:List (Nat×List Value)} {m:Int}
theorem ael(ops:List aH)(qZ:ops.length<=40)(n:Nat)(hn:n<=ops.length)(h:Int)(hr:runs 0 (ops.take n)=some h)(h1:1<=h):VP Tryz.prog G 161 [an 5 cO ops,ae (n:Nat)] (ae (iO ops n 1:Nat)):=by
 refine bn func161 rfl ntmps161 aP fun X0 w0 bj=>?_;refine aA [0,1] ?_;refine aA [0,5] ?_;refine aA [0,5,6] ?_;refine fa [0] (fun aV _ (E:Nat×Int) aF=>match E with|(i,need)=>(i<=n)/\(0<=need)/\(need<=1+2*((n:Int)-i))/\((need=0/\iO ops n 1=i)\/(1<=need/\iO ops n 1=iO ops i need/\∃h,runs 0 (ops.take i)=some h/\need<=h))/\aF=(⟨22,(5,ae (i:Nat))::(6,ae need)::aV,[]⟩:St)) (fun (E:Nat×Int)=>match E with|(i,need)=>i) (n,1) ⟨(Nat.le_refl _),w8,w4,(.inr ⟨by decide,rfl,h,hr,h1⟩),rfl⟩ ?_;rintro⟨i,need⟩ _ ⟨hi,ir,hnb,hinv,rfl⟩;refine ax [0,5,6,9] ?_ ?_<;>intro aM bG
 ·obtain⟨hz,_⟩|⟨gM,I,h2,e1,e2⟩:=hinv
  ·omega
  have PN:0<i:=(by rcases Nat.eq_zero_or_pos i with rfl|h;rw[List.take_zero,runs] at e1;cases e1;omega;exact h)
  have O:-9223372036854775808<=((i-1:Nat):Int):=(by omega)
  have U:((i-1:Nat):Int)<=9223372036854775807:=(by omega)
  have lg:(i:Int)-1=((i-1:Nat):Int):=(by omega)
  have aa:i-1<ops.length:=(by omega)
  have Ek:=rz ops[i-1].k;obtain⟨h3,e3,e4,e5⟩:=JX aa (by rw[show i-1+1=i by omega];exact e1);have tq:=(u9 e4).1;have Z:iO ops i need=if need+(bu ops[i-1].k-1)>0 then iO ops (i-1) (need+(bu ops[i-1].k-1)) else i-1:=by obtain⟨j,rfl⟩:∃j,i=j+1:=⟨i-1,by omega⟩;rw[iO,sE w4];rfl
  have oX:(need+(bu ops[i-1].k-1)=0/\iO ops n 1=i-1)\/(1<=need+(bu ops[i-1].k-1)/\iO ops n 1=iO ops (i-1) (need+(bu ops[i-1].k-1))/\∃h,runs 0 (ops.take (i-1))=some h/\need+(bu ops[i-1].k-1)<=h):=(by (by_cases hc:need+(bu ops[i-1].k-1)>0);exact .inr ⟨by omega,by rw[I,Z,if_pos hc],h3,e3,by omega⟩;exact .inl ⟨by omega,by rw[I,Z,if_neg hc]⟩)
  refine cN [0,5,6] ?_;refine aT 1 ?_ (h:=by exact(dX rfl ot cf (iL (r:=((i-1:Nat):Int)) (by rw[lg];exact wrap_i64 O U))));refine bL ?_;refine jg [0,5,6] ?_;refine cL (FV ops[i-1].k) ?_;refine bL ?_;refine⟨((i-1),(need+(bu ops[i-1].k-1))),_,cG,aI,w4,w4,w4,oX,rfl⟩
 have aY:iO ops n 1=i:=(by rcases hinv with ⟨_,h⟩|⟨h,_⟩;exact h;omega)
 refine aA [4] ?_;exact vH
theorem RR(ls:List aH)(g:Nat)(E:List D)(S:List ag)(p:aH->Bool)(fH:∀args w,(callFunc g args).run Tryz.prog w = .ok (.enter g args) w)(hp:∀x∈ls,VC Tryz.prog G g (.agg (cO x)::E) S (fun r S'=>r=bP (p x)/\S'=S))(hlen:ls.length<=1000000):VC Tryz.prog G 162 [an 5 cO ls,.eK (.func g) E] S (fun r S'=>r=ae (c9 p ls)/\S'=S):=by
 refine bn func162 rfl ntmps162 aP fun X0 w0 bj=>?_;unfold cO at hp;exact ZG
theorem aem(o:aH)(nm:ByteArray)(b:Nat):VC Tryz.prog G 163 [.agg (cO o),da b] [⟨b,9,1,[bg nm]⟩] (fun r S=>r=bP (lu nm o)/\S=[⟨b,9,1,[bg nm]⟩]):=by
 refine bn func163 rfl ntmps163 aP fun X0 w0 bj=>?_;unfold cO lu;refine bX ?_;refine cW [_,_,_,_,_] (fun b2=>?_);refine aq 13 [1,2] ?_;refine az 4 ?_;refine bU 7 (fun I E=>?_) (fun I E=>?_)
 ·refine bA [3] ?_;refine eu [⟨b,9,1,[bg nm]⟩] ?_;first|exact⟨rfl,rfl⟩|(refine⟨vb ?_,rfl⟩;simp_all)
 refine bA [3] ?_;refine eu [⟨b,9,1,[bg nm]⟩] ?_;first|exact⟨rfl,rfl⟩|(refine⟨vb ?_,rfl⟩;simp_all)
theorem aen(o:aH):VC Tryz.prog G 164 [.agg (cO o)] [] (fun r S=>r=bP (gv o)/\S=[]):=by
 refine bn func164 rfl ntmps164 aP fun X0 w0 bj=>?_;unfold cO gv;refine bX ?_;refine cW [_,_,_,_,_] (fun b1=>?_);refine aq 12 [1] ?_;refine az 4 ?_;refine bU 6 (fun I E=>?_) (fun I E=>?_)
 ·refine bA [2] ?_;refine fi ?_;first|exact⟨rfl,rfl⟩|(refine⟨vb ?_,rfl⟩;simp_all;done)|(refine⟨vb ?_,rfl⟩;simp_all;rfl)
 refine bA [2] ?_;refine fi ?_;first|exact⟨rfl,rfl⟩|(refine⟨vb ?_,rfl⟩;simp_all;done)|(refine⟨vb ?_,rfl⟩;simp_all;rfl)
theorem UC(a b:List UInt8):VP Tryz.prog G 53 [an 1 cB a,an 1 cB b] (ae (compareBytes a b)):=by
 exact Yh
theorem aeo:(Tryz.prog.info? 5).map (fun i=>(i.zero,i.size,i.bytes))=some (some (.int .u8 0),1,1):=by kernel_rfl
theorem Kf(a:List UInt8)(ha:a.length<=1000):VP Tryz.prog G 70 [an 1 cB a] (an 1 cB a):=by
 refine bn func70 rfl ntmps70 aP fun X0 w0 bj=>?_;have dH:=ey;refine aA [0] ?_;refine az 1 ?_;refine zY av rfl rfl ot cf underlying86 (fun O za=>?_);refine aq 8 [0,4] ?_;refine cj ?_ ?_<;>intro aM bG
 ·exact z86
 refine bX ?_;refine zZ av rfl rfl runUnderlying86 sizeOf5 (fun b5=>?_);refine aG 1 ?_;refine sj (ls:=([]:List UInt8)) (new:=a) (Sq:=[⟨b5,5,0*1,[]⟩]) qv yf av rfl rfl underlying86 aeo rfl w8 runUnderlying86 sizeOf5 ot (.inr ⟨b5,rfl,Nat.le_refl _,Nat.zero_le _,rfl⟩) (dK (A:=[])) ot iI iI (fun E I S7 qQ=>?_);exact z124
theorem Ge(l:List Vl):(gj l).1.length<=100:=by
 unfold gj;split
 ·simp
 split
 ·simp
 split
 ·simp
 simpa using by omega
theorem ahZ(hk:k.length<=100)(h1:b.1.length<=100)(h2:b.2.length<=100):(nL k b).1.length<=100/\(nL k b).2.length<=100:=by unfold nL;split<;>exact⟨by assumption,by assumption⟩
theorem TX(hk:k.length<=100)(h1:b.1.length<=100)(h2:b.2.length<=100):(qy k b).1.length<=100/\(qy k b).2.length<=100:=by unfold qy;split<;>exact⟨by assumption,by assumption⟩
theorem ah0{E:Int}{eq not:Bool}(hk:k.length<=100)(h1:b.1.length<=100)(h2:b.2.length<=100):(uk E eq not k b).1.length<=100/\(uk E eq not k b).2.length<=100:=by
 unfold uk;have q1:=ahZ hk h1 h2;have q2:=TX hk h1 h2;have I:=TX hk q1.1 q1.2;cases(eq||(E==0)!=not)<;>cases(eq||(E==0)==not)
 ·exact⟨h1,h2⟩
 ·exact q1
 ·exact q2
 exact I
theorem Ad{key:ByteArray}{not:Bool}(h1:b.1.length<=100)(h2:b.2.length<=100):(mb key ops not b).1.length<=100/\(mb key ops not b).2.length<=100:=by
 unfold mb;split
 ·exact⟨h1,h2⟩
 split
 ·exact⟨h1,h2⟩
 exact ah0 (Ge _) h1 h2
theorem Ll(key:ByteArray):∀(f:Nat) (ops:List aH) (b:jD),b.1.length<=100->b.2.length<=100->(fM key f ops b).1.length<=100/\(fM key f ops b).2.length<=100
 | 0,_,b,h1,h2=>⟨h1,h2⟩
 | f+1,ops,b,h1,h2=>by
  rw[fM];split
  ·have q:=Ll key f (ops.take (iO ops (ops.length-1) 1)) b h1 h2;exact Ll key f _ _ q.1 q.2
  split
  ·exact Ad h1 h2
  exact Ad h1 h2
theorem vc(h:runs 0 ops=some 1):1<=ops.length:=by
 cases ops with
 | nil=>rw[runs] at h;cases h
 | cons=>simp
theorem FW(h:runs 0 ops=some 1):∃(hn:ops.length-1<ops.length),runs 0 (ops.take (ops.length-1))=some (bu ops[ops.length-1].k):=by
 have hp:=vc h;have aa:ops.length-1<ops.length:=(by omega)
 refine⟨aa,?_⟩;obtain⟨h',e1,e2,E⟩:=JX aa (by rw[show ops.length-1+1=ops.length by omega,take_length];exact h);rw[e1];congr 1;omega
theorem Vq(h:runs 0 ops=some 1)(hk:l6 ops (ops.length-1)=3):iO ops (ops.length-1) 1<ops.length-1/\runs 0 (ops.take (iO ops (ops.length-1) 1))=some 1/\runs 0 ((ops.take (ops.length-1)).drop (iO ops (ops.length-1) 1))=some 1/\runs 0 (ops.take (ops.length-1))=some 2:=by
 obtain⟨hn,e⟩:=FW h;rw[sE hn] at hk;rw[hk] at e;obtain⟨q1,q2,E⟩:=TW (ops.length-1) 1 2 w4 e w8 w8;exact⟨q1,q2,E 0 w8,e⟩
variable {key:ByteArray}
theorem ajE{ls:List aH}{j:Nat}(h:j<ls.length):((ls.flatMap cO).drop (j*5+1)).take 3=cV ls[j].v:=by
 rw[<-drop_drop,wm mY,drop_eq_getElem_cons h,flatMap_cons];rfl
theorem af7(hG:(2,[Value.int .i64 m])∈G)(key:ByteArray)(f:Nat)(hf:f<=40)(IH:∀(ops:List aH) (lo hi:List UInt8),ops.length<=f->runs 0 ops=some 1->(∀o∈ops,o.v.Ok)->lo.length<=100->hi.length<=100->∀b0,VC Tryz.prog G 143 [da b0,bg key,an 5 cO ops] [⟨b0,215,2,[an 1 cB lo,an 1 cB hi]⟩] (fun r S=>r = .dB []/\S=[⟨b0,215,2,[.list 1 ((fM key f ops (lo,hi)).1.flatMap cB) (fM key f ops (lo,hi)).1.length,.list 1 ((fM key f ops (lo,hi)).2.flatMap cB) (fM key f ops (lo,hi)).2.length]⟩]))(ops:List aH)(lo hi:List UInt8)(hl:ops.length<=f+1)(qZ:ops.length<=40)(hr:runs 0 ops=some 1)(aQ:∀o∈ops,o.v.Ok)(ff:lo.length<=100)(eJ:hi.length<=100)(b0:Nat):VC Tryz.prog G 143 [da b0,bg key,an 5 cO ops] [⟨b0,215,2,[an 1 cB lo,an 1 cB hi]⟩] (fun r S=>r = .dB []/\S=[⟨b0,215,2,[.list 1 ((fM key (f+1) ops (lo,hi)).1.flatMap cB) (fM key (f+1) ops (lo,hi)).1.length,.list 1 ((fM key (f+1) ops (lo,hi)).2.flatMap cB) (fM key (f+1) ops (lo,hi)).2.length]⟩]):=by
 refine bn func143 rfl ntmps143 aP fun X0 w0 bj=>?_;have hp0:=vc hr;obtain⟨gM,hre⟩:=FW hr;have I:=sE gM;have dH:=ey;have Ek:=rz ops[ops.length-1].k;refine bX ?_;refine cW [_] (fun b4=>?_);refine aq 155 [0,2,4] ?_;refine cN [0,2,4,6] ?_;refine aT 2 ?_ (h:=by exact(dX rfl ot cf (iL (r:=((ops.length-1:Nat):Int)) (by rw[show((ops.length:Nat):Int)-1=((ops.length-1:Nat):Int) by omega];exact wrap_i64 w4 w4))));refine bL ?_;refine ax [0,2,4,6,22] ?_ ?_<;>intro aM bG
 ·have kf:l6 ops (ops.length-1)=3:=(by rw[I];omega)
  obtain⟨Ev,hm2,hm3,hm4⟩:=Vq hr kf;have aY:(fM key (f+1) ops (lo,hi))=fM key f ((ops.take (ops.length-1)).drop (iO ops (ops.length-1) 1)) (fM key f (ops.take (iO ops (ops.length-1) 1)) (lo,hi)):=(by rw[fM,if_pos kf])
  have Ew:=Ll key f (ops.take (iO ops (ops.length-1) 1)) (lo,hi) ff eJ;refine cX [0,2,4,6,7] (ael ops w4 (ops.length-1) w4 2 hm4 w8) ?_;refine cQ ?_;refine oC 5 [0,2,4,6,7,26,27,30] ?_;refine aT 4 ?_ (h:=by exact(fb (l:=0) rfl ot trivial ⟨_,ot⟩ HZ));refine jR ?_;refine fg av rfl rfl rfl call143 (IH (ops.take (iO ops (ops.length-1) 1)) (lo) (hi) (by simp only[length_drop,length_take];omega) hm2 (fun o ho=>aQ o (mem_of_mem_take ho)) w4 w4 b0) ⟨ot,ot,ot,trivial⟩ (nB (k:=1) rfl) ?_;rintro _ _ ⟨rfl,rfl⟩;refine aq 155 [0,2,4,6,7] ?_;refine cQ ?_;refine oC 6 [32,33,37] ?_;refine aT 5 ?_ (h:=by exact(fb (l:=(iO ops (ops.length-1) 1)) (h:=(ops.length-1)) rfl ot ⟨_,ot⟩ ⟨_,ot⟩ (ajm mY (fun h=>by cases h) (fun h=>by cases h) runUnderlying42 sizeOf58 w4 w4)));refine jR ?_;refine fg av rfl rfl rfl call143 (IH ((ops.take (ops.length-1)).drop (iO ops (ops.length-1) 1)) ((fM key f (ops.take (iO ops (ops.length-1) 1)) (lo,hi)).1) ((fM key f (ops.take (iO ops (ops.length-1) 1)) (lo,hi)).2) (by simp only[length_drop,length_take];omega) hm3 (fun o ho=>aQ o (mem_of_mem_take (mem_of_mem_drop ho))) w4 w4 b0) ⟨ot,ot,ot,trivial⟩ (nB (k:=0) rfl) ?_;rintro _ _ ⟨rfl,rfl⟩;refine aq 155 [] ?_;exact ZR
 have kf:¬l6 ops (ops.length-1)=3:=(by rw[I];omega)
 refine aA [0,2,4,6,8] ?_;refine sG (fun aF=>∃(bz:List aH),∃(nt:Bool),((fM key (f+1) ops (lo,hi))=mb key bz nt (lo,hi))/\(1<=bz.length)/\(bz.length<=40)/\(∀o∈bz,o.v.Ok)/\(bz.length-1<bz.length)/\aF=(⟨155,[(0,da b0),(2,an 5 cO bz),(4,da b4),(6,ae ((bz.length-1):Nat)),(8,bP nt)],[⟨b4,9,1,[bg key]⟩,⟨b0,215,2,[an 1 cB lo,an 1 cB hi]⟩]⟩:St)) ?_ ?_
 ·refine ax [0,2,4,6,8,45] ?_ ?_<;>intro bf cD
  ·have U:l6 ops (ops.length-1)=5:=(by rw[I];simpa using bf)
   have iu:2<=ops.length:=(by rw[<-I,U] at hre;have:=vc hre;rw[length_take] at this;omega)
   have PO:(fM key (f+1) ops (lo,hi))=mb key (ops.take (ops.length-1)) true (lo,hi):=(by rw[fM,if_neg kf,if_pos U])
   have uG:(ops.take (ops.length-1)).length=(ops.length-1):=(by rw[length_take];omega)
   refine cN [0,2,4,6,8] ?_;refine aT 2 ?_ (h:=by exact(fb (l:=0) rfl ot trivial ⟨_,ot⟩ HZ));refine bL ?_;refine jg [0,2,4,6,8] ?_;refine aT 1 ?_ (h:=by exact(dX rfl ot cf (iL (r:=((ops.length-1-1:Nat):Int)) (by rw[show((ops.length-1:Nat):Int)-1=((ops.length-1-1:Nat):Int) by omega];exact wrap_i64 w4 w4))));refine bL ?_;refine⟨_,(aI (h:=Zw)),(ops.take (ops.length-1)),true,PO,w4,w4,(fun o ho=>aQ o (mem_of_mem_take ho)),w4,rfl⟩
  have U:¬l6 ops (ops.length-1)=5:=(by rw[I];simpa using bf)
  have PO:(fM key (f+1) ops (lo,hi))=mb key ops false (lo,hi):=(by rw[fM,if_neg kf,if_neg U])
  refine en ?_;refine⟨_,(aI (h:=Zw)),ops,false,PO,hp0,qZ,aQ,gM,rfl⟩
 rintro _ ⟨bz,nt,aY,mS,at6,kD,wS,rfl⟩;refine iT [0,2,4,6,8] (fun aV oI aF=>(¬(bz.length≠3\/(nt=true/\bz[bz.length-1].k≠7)\/(bz[bz.length-1].k≠6/\bz[bz.length-1].k≠7)))/\aF=(⟨155,aV,oI⟩:St)) ?_ ?_
 ·refine az 3 ?_;refine bU 53 (fun Nx Mx=>?_) (fun Nx Mx=>?_)
  ·refine bA [0,2,4,6,8,79] ?_;refine e9 ?_;exact z31
  refine aG 2 ?_;refine bU 55 (fun vz ak6=>?_) (fun vz ak6=>?_)
  ·refine aG 9 ?_;refine bU 64 (fun NG MB=>?_) (fun NG MB=>?_)
   ·refine bA [0,2,4,6,8,79] ?_;refine e9 ?_;exact z31
   refine aG 7 ?_;exact ZN
  refine zn 6 ?_;refine aG 10 ?_;exact ZN
 rintro _ ⟨uq,rfl⟩;refine az 1 ?_;refine bQ (fb (l:=0) (h:=2) rfl ot trivial ⟨_,cf⟩ HZ) ?_;refine bQ (tU (ds:=[_]) rfl ⟨ot,trivial⟩) ?_;refine fg av rfl rfl rfl call162 (RR (bz.take 2) 163 [da b4] _ (lu key) call163 (fun h _=>aem h key b4) pF) ⟨ot,ot,trivial⟩ (nB (k:=0) rfl) ?_;rintro _ SS2 ⟨rfl,E⟩;rw[E];clear E;refine aq 155 [0,2,6,8,9] ?_;refine az 1 ?_;refine bQ (fb (l:=0) (h:=2) rfl ot trivial ⟨_,cf⟩ HZ) ?_;refine fg av rfl rfl rfl call162 (RR (bz.take 2) 164 [] [] gv call164 (fun h _=>aen h) pF) ⟨ot,u4,trivial⟩ (fx _) ?_;rintro _ SS2 ⟨rfl,E⟩;rw[E];clear E;refine aq 155 [0,2,6,8,9,10] ?_;refine az 3 ?_;refine bU 89 (fun anC ak7=>?_) (fun anC ak7=>?_)
 ·refine bA [0,2,6,8,9,10,92] ?_;refine e9 ?_;exact Yf
 refine bA [0,2,6,8,9,10,92] ?_;refine cj ?_ ?_<;>intro de eG
 ·exact Yf
 have cr:¬((c9 (lu key) (bz.take 2))<0\/(c9 gv (bz.take 2))<0):=(by first|omega|(simp_all;omega)|simp_all)
 have hLb:=x8 gv (bz.take 2);have IA:bz.length=3:=(by omega)
 rw[length_take] at hLb;have O:(c9 gv (bz.take 2)).toNat<bz.length:=(by omega)
 have O8:ux bz=(gj [bz[(c9 gv (bz.take 2)).toNat].v]).1:=(by unfold ux;rw[getD_eq_getElem?_getD,getElem?_eq_getElem O];rfl)
 have WU:(fM key (f+1) ops (lo,hi))=uk (c9 (lu key) (bz.take 2)) (bz[bz.length-1].k==6) nt (gj [bz[(c9 gv (bz.take 2)).toNat].v]).1 (lo,hi):=(by rw[aY];unfold mb;rw[sE wS,if_neg uq,if_neg cr,O8])
 have hev:=ajr hG [bz[(c9 gv (bz.take 2)).toNat].v] iI (fun v hv=>by rw[mem_singleton] at hv;rw[hv];exact kD _ (getElem_mem O));have er:=Ge [bz[(c9 gv (bz.take 2)).toNat].v];unfold Np CJ at hev;refine cN [0,2,6,8,9,11] ?_;refine aT 2 ?_ (h:=by exact(ei 5 (h:=by first|exact .l (j:=(c9 gv (bz.take 2)).toNat) w4 O|exact .r (j:=(c9 gv (bz.take 2)).toNat) w4 O)));refine aT 1 ?_ (h:=by exact(dN (mk:=Op.load 56) rfl ot (rE isAgg56 sizeOf56 rfl (ajE O))));refine cL (hev) ?_;refine bL ?_;refine aA [0,8,9,11,13] ?_;refine iT [0,8,9,11,13] (fun aV _ aF=>∃(b1:jD),(b1=(bif (bz[bz.length-1].k==6)||(((c9 (lu key) (bz.take 2))==0)==nt) then nL (gj [bz[(c9 gv (bz.take 2)).toNat].v]).1 (lo,hi) else (lo,hi)))/\(b1.1.length<=100)/\(b1.2.length<=100)/\aF=(⟨155,aV,[⟨b0,215,2,[an 1 cB b1.1,an 1 cB b1.2]⟩]⟩:St)) ?_ ?_
 ·refine az 2 ?_;refine bU 110 (fun Mm Z=>?_) (fun Mm Z=>?_)
  ·refine bA [0,8,9,11,13,115] ?_;refine e9 ?_;exact z22
  refine aG 3 ?_;refine pR iR rfl (dX rfl ot ot (FK underlying4)) ?_;refine aq 155 [0,8,9,11,13,115] ?_;refine cj ?_ ?_<;>intro eo fS
  ·exact z22
  have DR:(lo,hi)=(bif (bz[bz.length-1].k==6)||(((c9 (lu key) (bz.take 2))==0)==nt) then nL (gj [bz[(c9 gv (bz.take 2)).toNat].v]).1 (lo,hi) else (lo,hi)):=(by rw[Mm,eo];rfl)
  refine en ?_;refine⟨_,aI,(lo,hi),DR,(by first|exact er|exact ff),eJ,rfl⟩
 rintro _ ⟨b1,gw,at7,aua,rfl⟩;refine az 2 ?_;refine bU 129 (fun Ml ajF=>?_) (fun Ml ajF=>?_)
 ·refine bA [0,11,134] ?_;refine e9 ?_;exact ZE
 refine aG 3 ?_;refine pR iR rfl (dX rfl ot ot (Tc underlying4)) ?_;refine aq 155 [0,11,134] ?_;refine cj ?_ ?_<;>intro iQ qa
 ·exact ZE
 have xz:((bz[bz.length-1].k==6) || !(((c9 (lu key) (bz.take 2))==0)==nt))=false:=(by rw[Ml,iQ];rfl)
 have uJ:(fM key (f+1) ops (lo,hi))=b1:=(by rw[WU];unfold uk;rw[show((bz[bz.length-1].k==6)||((c9 (lu key) (bz.take 2))==0)!=nt)=false from xz,<-gw];rfl)
 refine eu [⟨b0,_,_,_⟩] ?_;refine⟨rfl,?_⟩;first|rw[uJ]|rw[aY]
theorem Wu(hG:(2,[Value.int .i64 m])∈G)(key:ByteArray):∀(f:Nat),f<=40->∀(ops:List aH) (lo hi:List UInt8),ops.length<=f->runs 0 ops=some 1->(∀o∈ops,o.v.Ok)->lo.length<=100->hi.length<=100->∀b0,VC Tryz.prog G 143 [da b0,bg key,an 5 cO ops] [⟨b0,215,2,[an 1 cB lo,an 1 cB hi]⟩] (fun r S=>r = .dB []/\S=[⟨b0,215,2,[.list 1 ((fM key f ops (lo,hi)).1.flatMap cB) (fM key f ops (lo,hi)).1.length,.list 1 ((fM key f ops (lo,hi)).2.flatMap cB) (fM key f ops (lo,hi)).2.length]⟩]):=by
 intro f;induction f with
 | zero =>
  intro _ ops lo hi hl hr;have:=vc hr;omega
 | succ f IH =>
  intro hf ops lo hi hl hr aQ ff eJ b0;exact af7 hG key f w4 (IH w4) ops lo hi hl w4 hr aQ ff eJ b0
def fB(l:List cm)(ops:List aH):jD×Int :=
 if ga l≠0 then (([],[]),ga l) else if ops.length=0 then (([],[]),0) else if (cu l ops).2≠0 then (([],[]),(cu l ops).2)
 else if (cu l ops).1≠1/\(cu l ops).1≠0 then (([],[]),4) else (fM (l.getD 0 ⟨⟨#[]⟩,0⟩).n ops.length ops ([],[]),0)
def PP(r:jD×Int):D:=.dB [CJ r.1.1,CJ r.1.2,ae r.2]
theorem af8{l:List cm}(h:ga l=0):0<l.length:=by
 unfold ga at h;split at h
 ·cases h
 omega
theorem u0(h:fR ops=0):runs 0 ops=some 1:=by
  obtain⟨_,h0⟩:=x9 h;have key:∀(l:List aH) (k:Int),gb k l=0->runs k l=some 1:=by
    intro l;induction l with
    | nil => intro k h; rw[gb] at h; split at h; · rename_i e; rw[runs, e]
             · cases h
    | cons o r ih =>
      intro k h;rw[gb] at h;split at h
      · rename_i e;rw[runs,if_pos e];exact ih _ h
      rename_i e;exact absurd h e
  exact key ops 0 h0
theorem aep(hm:(3,marksC)∈G)(hw:(1,wordsC)∈G)(ht:(0,typesC)∈G)(hG:(2,[Value.int .i64 m])∈G)(l:List cm)(hl:l.length<=6)(E:∀c∈l,c.n.size<=maxLen)(ops:List aH)(ho:∀o∈ops,o.nm.size<=maxLen)(aQ:∀o∈ops,o.v.Ok):VP Tryz.prog G 127 [an 2 cC l,an 5 cO ops] (PP (fB l ops)):=by
 refine bn func127 rfl ntmps127 aP fun X0 w0 bj=>?_;have dH:=ey;have fE:=Gh hm hw ht l w4 E;have U:=Gi hm hw ht l hl E ops ho;unfold qb at U;unfold PP CJ;refine aA [0,1] ?_;refine cX [0,1,7] (fE) ?_;refine ax [0,1,7,13] ?_ ?_<;>intro aM bG
 ·have h0:ga l≠0:=(by simpa using aM)
  have aY:fB l ops=(([],[]),ga l):=(by unfold fB;rw[if_pos h0])
  exact Hy
 have h0:¬ga l≠0:=(by simpa using aM)
 have Ic:=af8 (Classical.not_not.1 h0);refine ax [0,1,17] ?_ ?_<;>intro bf cD
 ·have h1:ops.length=0:=(by simpa using bf)
  have aY:fB l ops=(([],[]),0):=(by unfold fB;rw[if_neg h0,if_pos h1])
  exact Hy
 have h1:¬ops.length=0:=(by simpa using bf)
 refine cX [0,1,6,8] (U) ?_;refine ax [0,1,6,8,25] ?_ ?_<;>intro cr cU
 ·have h2:(cu l ops).2≠0:=(by simpa using cr)
  have aY:fB l ops=(([],[]),(cu l ops).2):=(by unfold fB;rw[if_neg h0,if_neg h1,if_pos h2])
  exact Hy
 have h2:¬(cu l ops).2≠0:=(by simpa using cr)
 obtain⟨k1,k2,k3⟩:=Gj (Classical.not_not.1 h2);have Z:=u0 k2;obtain⟨qZ,_⟩:=x9 k2;refine az 3 ?_;refine bU 29 (fun anD I=>?_) (fun anD I=>?_)
 ·refine bA [0,1,32] ?_;refine cj ?_ ?_<;>intro de eG
  ·have h3:(cu l ops).1≠1/\(cu l ops).1≠0:=(by simp_all)
   have aY:fB l ops=(([],[]),4):=(by unfold fB;rw[if_neg h0,if_neg h1,if_neg h2,if_pos h3])
   exact Hy
  have h3:¬((cu l ops).1≠1/\(cu l ops).1≠0):=(by simp_all)
  have aY:fB l ops=(fM l[0].n ops.length ops ([],[]),0):=(by unfold fB;rw[if_neg h0,if_neg h1,if_neg h2,if_neg h3,getD_eq_getElem?_getD,getElem?_eq_getElem Ic];rfl)
  refine az 1 ?_;refine cW [_,_] (fun O=>?_);refine fC (Wk.Yr (k:=0) (sz:=1) (sz':=1) rfl) ?_;refine aq 50 [0,1,9] ?_;refine az 2 ?_;refine bQ (tV (mk:=Op.indexAddr 39) rfl ot cf XK) ?_;refine aG 3 ?_;refine fg av rfl rfl rfl call143 (Wu hG l[0].n ops.length qZ ops [] [] (Nat.le_refl _) Z aQ (Nat.zero_le _) (Nat.zero_le _) O) ⟨ot,ot,ot,trivial⟩ (nB (k:=0) rfl) ?_;rintro _ _ ⟨rfl,rfl⟩;refine aq 50 [9] ?_;refine aA [4,5,6] ?_;exact pH
 refine bA [0,1,32] ?_;refine gB ?_;have h3:¬((cu l ops).1≠1/\(cu l ops).1≠0):=(by simp_all)
 have aY:fB l ops=(fM l[0].n ops.length ops ([],[]),0):=(by unfold fB;rw[if_neg h0,if_neg h1,if_neg h2,if_neg h3,getD_eq_getElem?_getD,getElem?_eq_getElem Ic];rfl)
 refine az 1 ?_;refine cW [_,_] (fun O=>?_);refine fC (Wk.Yr (k:=0) (sz:=1) (sz':=1) rfl) ?_;refine aq 50 [0,1,9] ?_;refine az 2 ?_;refine bQ (tV (mk:=Op.indexAddr 39) rfl ot cf XK) ?_;refine aG 3 ?_;refine fg av rfl rfl rfl call143 (Wu hG l[0].n ops.length qZ ops [] [] (Nat.le_refl _) Z aQ (Nat.zero_le _) (Nat.zero_le _) O) ⟨ot,ot,ot,trivial⟩ (nB (k:=0) rfl) ?_;rintro _ _ ⟨rfl,rfl⟩;refine aq 50 [9] ?_;refine aA [4,5,6] ?_;exact vH
end Ex
namespace Tr
open List
open Go.Proofs.Tryz
open Go.Lib (compareBytes)
section
variable {i j:Nat}
abbrev K:=List UInt8
variable {a b c k low:K}
theorem IU(a b:UInt8)(x y:K):compareBytes (a::x) (b::y)=if a<b then -1 else if b<a then 1 else compareBytes x y:=by rw[compareBytes]
theorem u8{a b:UInt8}:a<b↔a.toNat<b.toNat:=UInt8.lt_iff_toNat_lt
theorem zF:∀(x y:K),(compareBytes x y = -1/\compareBytes y x=1)\/(compareBytes x y=0/\x=y)\/(compareBytes x y=1/\compareBytes y x = -1)
 | [],[]=>.inr (.inl ⟨rfl,rfl⟩)
 | [],_::_=>.inl ⟨rfl,rfl⟩
 | _::_,[]=>.inr (.inr ⟨rfl,rfl⟩)
 | a::x,b::y=>by
  rw[IU,IU];by_cases h1:a<b
  ·have h2:¬b<a:=(by rw[u8] at h1 |-;omega)
   rw[if_pos h1,if_neg h2,if_pos h1];exact .inl ⟨rfl,rfl⟩
  by_cases h2:b<a
  ·rw[if_neg h1,if_pos h2,if_pos h2];exact .inr (.inr ⟨rfl,rfl⟩)
  rw[if_neg h1,if_neg h2,if_neg h2,if_neg h1];have nw:a=b:=by
   apply UInt8.toNat_inj.1;rw[u8] at h1 h2;omega
  subst nw;rcases zF x y with h|⟨h,e⟩|h
  ·exact .inl h
  ·exact .inr (.inl ⟨h,by rw[e]⟩)
  exact .inr (.inr h)
theorem Xb:∀(x y z:K),compareBytes x y = -1->compareBytes y z = -1->compareBytes x z = -1
 | [],[],_,h,_=>by cases h
 | _::_,[],_,h,_=>by cases h
 | _,_::_,[],_,h=>by cases h
 | [],_::_,_::_,_,_=>rfl
 | a::x,b::y,c::z,h1,h2=>by
  rw[IU] at h1 h2 |-;by_cases p:a<b
  ·by_cases q:b<c
   ·rw[if_pos (by rw[u8] at p q |-;omega)]
   rw[if_neg q] at h2;by_cases r:c<b
   ·rw[if_pos r] at h2;cases h2
   rw[if_pos (by rw[u8] at p q r |-;omega)]
  rw[if_neg p] at h1;by_cases p':b<a
  ·rw[if_pos p'] at h1;cases h1
  rw[if_neg p'] at h1;by_cases q:b<c
  ·rw[if_pos (by rw[u8] at p p' q |-;omega)]
  rw[if_neg q] at h2;by_cases r:c<b
  ·rw[if_pos r] at h2;cases h2
  rw[if_neg r] at h2;rw[if_neg (by rw[u8] at p p' q r |-;omega),if_neg (by rw[u8] at p p' q r |-;omega)];exact Xb x y z h1 h2
def bC(a b:K):Prop:=compareBytes a b<0
instance (a b:K):Decidable (bC a b):=inferInstanceAs (Decidable (_<_))
theorem Lm:bC a b↔compareBytes a b = -1:=by
 unfold bC;rcases zF a b with ⟨h,_⟩|⟨h,_⟩|⟨h,_⟩<;>rw[h]<;>decide
theorem Wc:0<compareBytes a b↔bC b a:=by
 unfold bC;rcases zF a b with ⟨h,h'⟩|⟨h,rfl⟩|⟨h,h'⟩
 ·rw[h,h'];decide
 ·rw[h]
 rw[h,h'];decide
theorem L7(a:K):¬bC a []:=by
 unfold bC;cases a with
 | nil=>decide
 | cons x y=>show ¬(1:Int)<0;decide
theorem kr(a:K):¬bC a a:=fun h=>by
 rcases zF a a with ⟨h1,h2⟩|⟨h1,_⟩|⟨h1,h2⟩
 ·omega
 ·unfold bC at h;omega
 omega
theorem mE(h1:bC a b)(h2:bC b c):bC a c:=Lm.2 (Xb a b c (Lm.1 h1) (Lm.1 h2))
theorem Ay(h:bC a b):¬bC b a:=fun h'=>kr a (mE h h')
theorem Az(a b:K):bC a b\/a=b\/bC b a:=by
 unfold bC;rcases zF a b with ⟨h,_⟩|⟨_,h⟩|⟨_,h⟩
 ·exact .inl w4
 ·exact .inr (.inl h)
 exact .inr (.inr w4)
theorem vt:compareBytes a b=0↔a=b:=⟨fun h=>by
 rcases zF a b with ⟨h1,_⟩|⟨_,h1⟩|⟨h1,_⟩
 ·omega
 ·exact h1
 ·omega,fun h=>by
 subst h;rcases zF a a with ⟨h1,h2⟩|⟨h1,_⟩|⟨h1,h2⟩
 ·omega
 ·exact h1
 omega⟩
theorem QO(h1:¬bC b a)(h2:bC b c):bC a c:=by
 rcases Az a b with h|rfl|h
 ·exact mE h h2
 ·exact h2
 exact absurd h h1
theorem acF(h1:bC a b)(h2:¬bC c b):bC a c:=by
 rcases Az b c with h|rfl|h
 ·exact mE h1 h
 ·exact h1
 exact absurd h h2
theorem Xc(h1:¬bC b a)(h2:¬bC c b):¬bC c a:=fun h=>by
 rcases Az a b with h'|rfl|h'
 ·exact h2 (mE h h')
 ·exact h2 h
 exact h1 h'
theorem sC{α β:Type}{l:List α}{f g:α->List β}(h:∀a∈l,f a=g a):l.flatMap f=l.flatMap g:=by
 induction l with
 | nil=>rfl
 | cons a r ih=>rw[flatMap_cons,flatMap_cons,h a mem_cons_self,ih fun x hx=>h x (mem_cons_of_mem _ hx)]
structure dc where
 leaf:Bool
 keys:List K
 kids:List Int
 high:K
 next:Int
variable {p:dc}
def anE:dc:=⟨false,[],[],[],0⟩
structure aE where
 af:List dc
 root:Int
def aE.pg(t:aE)(i:Int):dc:=t.af.getD i.toNat anE
def qH:aE:=⟨[⟨true,[],[],[],-1⟩],0⟩
structure eT (p:dc) (many:Int):Prop where
 eU:p.keys.length<=4
 hlen:p.high.length<=100
 yD:-1<=p.next
 yh:p.next<many
 yE:p.next<0↔p.high=[]
 leaf:p.leaf=true->p.kids.length=p.keys.length
 node:p.leaf=false->p.kids.length=p.keys.length+1/\p.keys≠[]
 me:∀k∈p.keys,1<=k.length/\k.length<=100
 rH:p.high≠[]->∀k∈p.keys,bC k p.high
 kI:p.keys.Pairwise bC
 ay:∀n∈p.kids,0<=n
 wW:p.leaf=false->∀n∈p.kids,n<many
theorem eT.more{m E:Int}(h:eT p m)(hm:m<=E):eT p E :=
 ⟨h.eU,h.hlen,h.yD,by have:=h.yh;omega,h.yE,h.leaf,h.node,h.me,h.rH,h.kI,h.ay,fun hl n hn=>by have:=h.wW hl n hn;omega⟩
def iU(low:K)(p:dc)(j:Nat):K:=if j=0 then low else p.keys.getD (j-1) []
def iE(p:dc)(j:Nat):K:=p.keys.getD j p.high
def ee(t:aE):Nat->Int->K->K->Prop
 | 0,i,low,high=>(0<=i/\i<t.af.length)/\(t.pg i).leaf=true/\(t.pg i).high=high/\∀k∈(t.pg i).keys,¬bC k low
 | h+1,i,low,high=>(0<=i/\i<t.af.length)/\(t.pg i).leaf=false/\(t.pg i).high=high/\(∀k∈(t.pg i).keys,¬bC k low) /\
  ∀j (hj:j<(t.pg i).kids.length),ee t h (t.pg i).kids[j] (iU low (t.pg i) j) (iE (t.pg i) j)
def ids(t:aE):Nat->Int->List Int
 | 0,i=>[i]
 | h+1,i=>i::(t.pg i).kids.flatMap (ids t h)
def cA(t:aE):Nat->Int->List Int
 | 0,i=>[i]
 | d+1,i=>(t.pg i).kids.flatMap (cA t d)
def fu(p:dc):List (K×Int):=p.keys.zip p.kids
def ez(t:aE):Nat->Int->List (K×Int)
 | 0,i=>fu (t.pg i)
 | h+1,i=>(t.pg i).kids.flatMap (ez t h)
def fA(t:aE):List Int->Int->Prop
 | [],_=>True
 | [i],e=>(t.pg i).next=e
 | i::j::r,e=>(t.pg i).next=j/\fA t (j::r) e
structure Valid (t:aE) (h:Nat):Prop where
 pos:1<=t.af.length
 oT:t.af.length<=4000
 fU:∀p∈t.af,eT p t.af.length
 ok:ee t h t.root [] []
 Bj:(ids t h t.root).Nodup
 all:(ids t h t.root).length=t.af.length
 qK:∀d,d<=h->fA t (cA t d t.root) (-1)
theorem ee.idx{t:aE}:∀{h:Nat} {i:Int} {low high:K},ee t h i low high->0<=i/\i<t.af.length
 | 0,_,_,_,h=>h.1
 | _+1,_,_,_,h=>h.1
theorem ee.high{t:aE}:∀{h:Nat} {i:Int} {low high:K},ee t h i low high->(t.pg i).high=high
 | 0,_,_,_,h=>h.2.2.1
 | _+1,_,_,_,h=>h.2.2.1
theorem wM{t:aE}{i:Int}(h:0<=i/\i<t.af.length):t.pg i=t.af[i.toNat]'w4:=by
 unfold aE.pg;rw[getD_eq_getElem?_getD,getElem?_eq_getElem w4];rfl
theorem jY{t:aE}{i:Int}(h:0<=i/\i<t.af.length):t.pg i∈t.af:=by rw[wM h];exact getElem_mem _
theorem u3{t:aE}(h:Nat)(i:Int):i∈ids t h i:=by cases h<;>simp[ids]
theorem frame{t u:aE}:∀(h:Nat) (i:Int),(∀j∈ids t h i,u.pg j=t.pg j)->ids u h i=ids t h i/\ez u h i=ez t h i/\∀d,d<=h->cA u d i=cA t d i
 | 0,i,hp=>by
  have h0:=hp i (u3 0 i);refine⟨rfl,by unfold ez;rw[h0],fun d hd=>?_⟩;obtain rfl:d=0:=(by omega)
  rfl
 | h+1,i,hp=>by
  have h0:=hp i (u3 _ i);have hs:∀j∈(t.pg i).kids,ids u h j=ids t h j/\ez u h j=ez t h j/\∀d,d<=h->cA u d j=cA t d j:=fun j hj=>frame h j fun x hx=>hp x (by
   rw[ids];exact mem_cons_of_mem _ (mem_flatMap.2 ⟨j,hj,hx⟩))
  refine⟨?_,?_,fun d hd=>?_⟩
  ·rw[ids,ids,h0];congr 1;exact sC (fun j hj=>(hs j hj).1)
  ·rw[ez,ez,h0];exact sC (fun j hj=>(hs j hj).2.1)
  cases d with
  | zero=>rfl
  | succ d=>rw[cA,cA,h0];exact sC (fun j hj=>(hs j hj).2.2 d w4)
theorem ee.frame{t u:aE}(hl:t.af.length<=u.af.length):∀{h:Nat} {i:Int} {low high:K},ee t h i low high->(∀j∈ids t h i,u.pg j=t.pg j)->ee u h i low high
 | 0,i,low,high,⟨q1,q2,E,I⟩,hp=>by
  have h0:=hp i (u3 0 i);exact⟨⟨q1.1,by omega⟩,by rw[h0];exact q2,by rw[h0];exact E,by rw[h0];exact I⟩
 | h+1,i,low,high,⟨q1,q2,E,I,O⟩,hp=>by
  have h0:=hp i (u3 _ i);refine⟨⟨q1.1,by omega⟩,by rw[h0];exact q2,by rw[h0];exact E,by rw[h0];exact I,?_⟩;rw[h0];exact fun j hj=>ee.frame hl (O j hj) fun x hx=>hp x (by rw[ids];exact mem_cons_of_mem _ (mem_flatMap.2 ⟨_,getElem_mem hj,hx⟩))
theorem ee.ids{t:aE}:∀{h:Nat} {i:Int} {low high:K},ee t h i low high->∀j∈Tr.ids t h i,0<=j/\j<t.af.length
 | 0,i,low,high,q,j,hj=>by
  rw[Tr.ids,mem_singleton] at hj;subst hj;exact q.1
 | h+1,i,low,high,⟨q1,q2,I,O,E⟩,j,hj=>by
  rw[Tr.ids] at hj;rcases mem_cons.1 hj with rfl|hj
  ·exact q1
  obtain⟨x,hx,hj⟩:=mem_flatMap.1 hj;obtain⟨n,hn,rfl⟩:=mem_iff_getElem.1 hx;exact ee.ids (E n hn) j hj
theorem MC{α:Type}{p:α->Bool}:∀{l:List α} {i:Nat} (h:i<(l.takeWhile p).length),∃(h':i<l.length),p l[i]=true
 | a::r,i,h=>by
  rw[takeWhile_cons] at h;by_cases ha:p a=true
  ·rw[if_pos ha] at h;cases i with
   | zero=>exact⟨by simp,ha⟩
   | succ i =>
    obtain⟨h',q⟩:=MC (l:=r) (i:=i) nS;exact⟨by simpa using h',by simpa using q⟩
  rw[if_neg ha] at h;simp at h
theorem L8{α:Type}{p:α->Bool}:∀{l:List α} (h:(l.takeWhile p).length<l.length),p l[(l.takeWhile p).length]=false
 | a::r,h=>by
  by_cases ha:p a=true
  ·have e:((a::r).takeWhile p).length=(r.takeWhile p).length+1:=(by rw[takeWhile_cons,if_pos ha];rfl)
   have h2:(r.takeWhile p).length<r.length:=(by rw[e] at h;simpa using h)
   have:=L8 (l:=r) h2;simp only[e,getElem_cons_succ];exact this
  have e:((a::r).takeWhile p).length=0:=(by rw[takeWhile_cons,if_neg ha];rfl)
  simp only[e,getElem_cons_zero];simpa using ha
theorem Xd{α:Type}(p:α->Bool)(l:List α):(l.takeWhile p).length<=l.length:=(takeWhile_sublist p).length_le
def gS(keys:List K)(k:K):Nat:=(keys.takeWhile fun x=>decide (bC x k)).length
def nI(keys:List K)(k:K):Nat:=(keys.takeWhile fun x=>decide (¬bC k x)).length
def aS(p:dc)(k:K):Nat:=if p.leaf=true then gS p.keys k else nI p.keys k
theorem Cl{keys:List K}(h:i<gS keys k):∃(h':i<keys.length),bC keys[i] k:=by
 obtain⟨h',q⟩:=MC h;exact⟨h',by simpa using q⟩
theorem B9{keys:List K}(h:gS keys k<keys.length):¬bC keys[gS keys k] k:=by
 exact of_decide_eq_false (L8 h)
theorem Ae(keys:List K)(k:K):gS keys k<=keys.length:=Xd _ _
theorem Kt{keys:List K}(h:i<nI keys k):∃(h':i<keys.length),¬bC k keys[i]:=by
 obtain⟨h',q⟩:=MC h;exact⟨h',by simpa using q⟩
theorem JY{keys:List K}(h:nI keys k<keys.length):bC k keys[nI keys k]:=by
 exact Classical.not_not.1 (of_decide_eq_false (L8 h))
theorem Cm(keys:List K)(k:K):nI keys k<=keys.length:=Xd _ _
theorem oh{keys:List K}(h:keys.Pairwise bC)(E:i<j)(hj:j<keys.length):bC keys[i] keys[j]:=pairwise_iff_getElem.1 h i j w4 hj E
theorem GI(h:j<p.keys.length):iE p j=p.keys[j]:=by unfold iE;rw[getD_eq_getElem?_getD,getElem?_eq_getElem h];rfl
theorem Ln(h:p.keys.length<=j):iE p j=p.high:=by unfold iE;rw[getD_eq_getElem?_getD,getElem?_eq_none h];rfl
theorem Gl(h:0<j)(h':j-1<p.keys.length):iU low p j=p.keys[j-1]:=by unfold iU;rw[if_neg w4,getD_eq_getElem?_getD,getElem?_eq_getElem h'];rfl
def mw(low high k:K):Prop:=¬bC k low/\(high≠[]->bC k high)
theorem vm(k:K):mw [] [] k:=⟨L7 k,fun h=>absurd rfl h⟩
theorem down{n:Int}(hp:eT p n)(hl:p.leaf=false){high:K}(E:p.high=high)(hk:mw low high k):aS p k<p.kids.length/\mw (iU low p (aS p k)) (iE p (aS p k)) k:=by
 have e:aS p k=nI p.keys k:=(by unfold aS;rw[if_neg (by rw[hl];decide)])
 have I:=Cm p.keys k;rw[e];refine⟨by rw[(hp.node hl).1];omega,?_,?_⟩
 ·rcases Nat.eq_zero_or_pos (nI p.keys k) with h0|h0
  ·rw[h0];exact hk.1
  obtain⟨h',q⟩:=Kt (keys:=p.keys) (k:=k) (i:=nI p.keys k-1) w4;rw[Gl h0 h'];exact q
 intro hne;by_cases aa:nI p.keys k<p.keys.length
 ·rw[GI aa];exact JY aa
 rw[Ln w4] at hne |-;rw[E] at hne |-;exact hk.2 hne
def aJ(t:aE)(k:K):Nat->Int->Int
 | 0,i=>i
 | h+1,i=>aJ t k h ((t.pg i).kids.getD (aS (t.pg i) k) 0)
def jG(t:aE)(k:K):Nat->Int->List Int
 | 0,i=>[i]
 | h+1,i=>i::jG t k h ((t.pg i).kids.getD (aS (t.pg i) k) 0)
theorem RS(t:aE)(k:K):∀(h:Nat) (i:Int),(jG t k h i).getLast?=some (aJ t k h i)
 | 0,i=>rfl
 | h+1,i=>by
  have:=RS t k h ((t.pg i).kids.getD (aS (t.pg i) k) 0);rw[jG,aJ,getLast?_cons,this];rfl
theorem x6(t:aE):∀(h:Nat) (i:Int),ez t h i=(cA t h i).flatMap fun l=>fu (t.pg l)
 | 0,i=>by simp[ez,cA]
 | h+1,i=>by
  rw[ez,cA,flatMap_assoc];exact sC fun j _=>x6 t h j
theorem zip_fst{α β:Type}:∀{a:List α} {b:List β},b.length=a.length->(a.zip b).map Prod.fst=a
 | [],_,_=>by simp
 | x::a,[],h=>by simp at h
 | x::a,y::b,h=>by simp[zip_fst (a:=a) (b:=b) nS]
theorem TY{x:K×Int}(h:x∈fu p):x.1∈p.keys:=(of_mem_zip h).1
theorem ve(h:j<p.kids.length):p.kids.getD j 0=p.kids[j]:=by rw[getD_eq_getElem?_getD,getElem?_eq_getElem h];rfl
variable {t:aE} {n:Int}
theorem ac4(hp:eT p n)(hl:p.leaf=false){high:K}(I:p.high=high)(E:∀k∈p.keys,¬bC k low)(hj:j<p.kids.length)(hk:mw (iU low p j) (iE p j) k):mw low high k:=by
 have hn:=(hp.node hl).1;refine⟨?_,fun hne=>?_⟩
 ·rcases Nat.eq_zero_or_pos j with rfl|h0
  ·exact hk.1
  rw[Gl h0 w4] at hk;exact Xc (E _ (getElem_mem _)) hk.1
 by_cases aa:j<p.keys.length
 ·rw[GI aa] at hk;have hm:=getElem_mem aa;have h2:=hk.2 (by intro e;have:=(hp.me _ hm).1;rw[e] at this;simp at this);exact mE h2 (by rw[<-I];exact hp.rH (by rw[I];exact hne) _ hm)
 rw[Ln w4,I] at hk;exact hk.2 hne
theorem JZ(hp:eT p n)(hl:p.leaf=false)(I:i<j)(hj:j<p.kids.length)(ha:mw (iU low p i) (iE p i) a)(hb:mw (iU low p j) (iE p j) b):bC a b:=by
 have hn:=(hp.node hl).1;have E:i<p.keys.length:=(by omega)
 rw[GI E] at ha;have h1:=ha.2 (by intro e;have:=(hp.me _ (getElem_mem E)).1;rw[e] at this;simp at this);rw[Gl w4 w4] at hb;refine acF h1 ?_;refine Xc ?_ hb.1;rcases Nat.lt_or_ge i (j-1) with h|h
 ·exact Ay (oh hp.kI h w4)
 have:j-1=i:=(by omega)
 simp only[this];exact kr _
theorem Lo(hp:∀p∈t.af,eT p n):∀{h:Nat} {i:Int} {low high:K},ee t h i low high->(ez t h i).Pairwise (fun x y=>bC x.1 y.1)/\∀x∈ez t h i,mw low high x.1
 | 0,i,low,high,ok=>by
  obtain⟨q1,q2,E,I⟩:=ok;have po:=hp _ (jY q1);rw[ez];refine⟨?_,fun x hx=>⟨I _ (TY hx),fun hne=>by rw[<-E] at hne |-;exact po.rH hne _ (TY hx)⟩⟩;have h1:((fu (t.pg i)).map Prod.fst).Pairwise bC:=(by unfold fu;rw[zip_fst (po.leaf q2)];exact po.kI)
  exact pairwise_map.1 h1
 | h+1,i,low,high,ok=>by
  obtain⟨q1,q2,E,I,O⟩:=ok;have po:=hp _ (jY q1);rw[ez];have hk:∀j (hj:j<(t.pg i).kids.length),(ez t h (t.pg i).kids[j]).Pairwise (fun x y=>bC x.1 y.1)/\∀x∈ez t h (t.pg i).kids[j],mw (iU low (t.pg i) j) (iE (t.pg i) j) x.1:=fun j hj=>Lo hp (O j hj);refine⟨pairwise_flatMap.2 ⟨fun a ha=>?_,?_⟩,fun x hx=>?_⟩
  ·obtain⟨j,hj,rfl⟩:=mem_iff_getElem.1 ha;exact(hk j hj).1
  ·refine pairwise_iff_getElem.2 fun a b ha hb nw x hx y hy=>?_;exact JZ po q2 nw hb ((hk a ha).2 x hx) ((hk b hb).2 y hy)
  obtain⟨c,hc,hx⟩:=mem_flatMap.1 hx;obtain⟨j,hj,rfl⟩:=mem_iff_getElem.1 hc;exact ac4 po q2 E I hj ((hk j hj).2 x hx)
theorem Cn(hp:∀p∈t.af,eT p n){k:K}:∀{h:Nat} {i:Int} {low high:K},ee t h i low high->mw low high k ->
  ∃pre post lo hi,cA t h i=pre++aJ t k h i::post/\(∀l∈pre,∀x∈fu (t.pg l),bC x.1 k)/\(∀l∈post,∀x∈fu (t.pg l),bC k x.1)/\ee t 0 (aJ t k h i) lo hi/\mw lo hi k
 | 0,i,low,high,ok,hk=>⟨[],[],low,high,rfl,(fun _ h=>by cases h),(fun _ h=>by cases h),ok,hk⟩
 | h+1,i,low,high,ok,hk=>by
  obtain⟨q1,q2,I,O,E⟩:=ok;have po:=hp _ (jY q1);obtain⟨d1,d2⟩:=down po q2 I hk;obtain⟨pre,post,lo,hi,e,h1,h2,h3,h4⟩:=Cn hp (E _ d1) d2;have hm:∀j (hj:j<(t.pg i).kids.length),∀l∈cA t h (t.pg i).kids[j],∀x∈fu (t.pg l),mw (iU low (t.pg i) j) (iE (t.pg i) j) x.1:=fun j hj l hl x hx =>
   (Lo hp (E j hj)).2 x (by rw[x6];exact mem_flatMap.2 ⟨l,hl,hx⟩)
  refine⟨((t.pg i).kids.take (aS (t.pg i) k)).flatMap (cA t h)++pre,post++((t.pg i).kids.drop (aS (t.pg i) k+1)).flatMap (cA t h),lo,hi,?_,?_,?_,?_,h4⟩
  ·rw[cA];conv=>lhs;rw[<-take_append_drop (aS (t.pg i) k) (t.pg i).kids]
   rw[drop_eq_getElem_cons d1,flatMap_append,flatMap_cons,e,aJ,ve d1];simp
  ·intro l hl x hx;rcases mem_append.1 hl with hl|hl
   ·obtain⟨c,hc,hl⟩:=mem_flatMap.1 hl;obtain⟨j,hj,rfl⟩:=mem_iff_getElem.1 hc;rw[length_take] at hj;rw[getElem_take] at hl;exact JZ po q2 (show j<aS (t.pg i) k by omega) d1 (hm j w4 l hl x hx) d2
   exact h1 l hl x hx
  ·intro l hl x hx;rcases mem_append.1 hl with hl|hl
   ·exact h2 l hl x hx
   obtain⟨c,hc,hl⟩:=mem_flatMap.1 hl;obtain⟨j,hj,rfl⟩:=mem_iff_getElem.1 hc;rw[length_drop] at hj;rw[getElem_drop] at hl;exact JZ po q2 (show aS (t.pg i) k<aS (t.pg i) k+1+j by omega) w4 d2 (hm _ w4 l hl x hx)
  rw[aJ,ve d1];exact h3
theorem aeq(hp:∀p∈t.af,eT p n){h:Nat}{i:Int}{high:K}(ok:ee t h i low high)(hk:mw low high k) :
  ∃pre post,cA t h i=pre++aJ t k h i::post/\(ez t h i).filter (fun x=>decide (¬bC x.1 k))=(fu (t.pg (aJ t k h i))).drop (aS (t.pg (aJ t k h i)) k)++post.flatMap fun l=>fu (t.pg l):=by
 obtain⟨pre,post,lo,hi,e,h1,h2,h3,h4⟩:=Cn hp ok hk;refine⟨pre,post,e,?_⟩;have po:=hp _ (jY h3.1);rw[x6,e,flatMap_append,flatMap_cons,filter_append,filter_append];rw[filter_eq_nil_iff.2 (by
  intro x hx;obtain⟨l,hl,hx⟩:=mem_flatMap.1 hx;simpa using h1 l hl x hx),nil_append]
 congr 1
 ·have gg:=h3.2.1;rw[show aS (t.pg (aJ t k h i)) k=gS (t.pg (aJ t k h i)).keys k by unfold aS;rw[if_pos gg]];generalize I:t.pg (aJ t k h i)=p at *;have E:=take_append_drop (gS p.keys k) (fu p);conv=>lhs;rw[<-E]
  have hlen:=po.leaf gg;rw[filter_append,filter_eq_nil_iff.2 (by
   intro x hx;obtain⟨j,hj,rfl⟩:=mem_iff_getElem.1 hx;rw[length_take] at hj;obtain⟨h',q⟩:=Cl (keys:=p.keys) (k:=k) (i:=j) w4;rw[getElem_take];simpa[fu] using q),nil_append,filter_eq_self.2]
  intro x hx;obtain⟨j,hj,rfl⟩:=mem_iff_getElem.1 hx;rw[length_drop] at hj;have eP:(fu p).length=p.keys.length:=(by unfold fu;rw[length_zip,hlen,Nat.min_self])
  have hd:gS p.keys k<p.keys.length:=(by omega)
  have he:=B9 hd;rw[getElem_drop];have:¬bC p.keys[gS p.keys k+j] k:=by
   rcases Nat.eq_zero_or_pos j with rfl|h0
   ·exact he
   exact fun aa=>he (mE (oh po.kI w4 w4) aa)
  simpa[fu] using this
 rw[filter_eq_self.2];intro x hx;obtain⟨l,hl,hx⟩:=mem_flatMap.1 hx;simpa using Ay (h2 l hl x hx)
end
section
variable {α:Type} {i n:Int} {p:dc} {up low:K} {h:Nat}
def iA(l:List α)(i:Nat)(x:α):List α:=l.take i++x::l.drop i
def aE.set(t:aE)(i:Int)(p:dc):aE:={t with af:=t.af.set i.toNat p}
variable {t:aE}
def bD(p:dc)(up:K)(ay:Int):dc :=
 {p with keys:=iA p.keys (aS p up) up,kids:=iA p.kids (if p.leaf=true then aS p up else aS p up+1) ay}
def iy(p:dc):K:=p.keys.getD 2 []
def eA(p:dc)(n:Int):dc:={leaf:=p.leaf,keys:=p.keys.take 2,kids:=p.kids.take (if p.leaf=true then 2 else 3),high:=iy p,next:=n}
def cy(p:dc):dc:={leaf:=p.leaf,keys:=p.keys.drop (if p.leaf=true then 2 else 3),kids:=p.kids.drop (if p.leaf=true then 2 else 3),high:=p.high,next:=p.next}
def sZ(t:aE)(i:Int)(up:K)(ay:Int):aE×Option (K×Int) :=
 if (bD (t.pg i) up ay).keys.length<=4 then (t.set i (bD (t.pg i) up ay),none)
 else (⟨(t.af.set i.toNat (eA (bD (t.pg i) up ay) t.af.length))++[cy (bD (t.pg i) up ay)],t.root⟩,some (iy (bD (t.pg i) up ay),t.af.length))
def gX(t:aE)(k:K)(row:Int):Nat->Int->aE×Option (K×Int)
 | 0,i=>sZ t i k row
 | h+1,i=>match gX t k row h ((t.pg i).kids.getD (aS (t.pg i) k) 0) with
  | (t',none)=>(t',none)
  | (t',some (up,ay))=>sZ t' i up ay
def ak8(r:aE×Option (K×Int)):aE:=match r with
 | (t,none)=>t
 | (t,some (up,ay))=>⟨t.af++[⟨false,[up],[t.root,ay],[],-1⟩],t.af.length⟩
theorem pn(t:aE)(i:Int)(p:dc):(t.set i p).af.length=t.af.length:=by simp[aE.set]
theorem Co(h:0<=i/\i<t.af.length)(p:dc):(t.set i p).pg i=p:=by
 unfold aE.pg aE.set;rw[getD_eq_getElem?_getD,getElem?_set_self w4];rfl
theorem xT{j:Int}(hi:0<=i)(hj:0<=j)(h:i≠j)(p:dc):(t.set i p).pg j=t.pg j:=by
 unfold aE.pg aE.set;rw[getD_eq_getElem?_getD,getD_eq_getElem?_getD,getElem?_set_ne w4]
theorem zT(l:List α){i:Nat}(h:i<=l.length)(x:α):(iA l i x).length=l.length+1:=by unfold iA;simp;omega
theorem vZ{l:List α}{i:Nat}{x y:α}:y∈iA l i x↔y=x\/y∈l:=by
 unfold iA;conv=>rhs;rw[<-take_append_drop i l]
 simp only[mem_append,mem_cons];constructor
 ·rintro(h|h|h)
  ·exact .inr (.inl h)
  ·exact .inl h
  exact .inr (.inr h)
 rintro(h|h|h)
 ·exact .inr (.inl h)
 ·exact .inl h
 exact .inr (.inr h)
theorem aer{β:Type}{a:List α}{b:List β}(h:b.length=a.length){i:Nat}(hi:i<=a.length)(x:α)(y:β):(iA a i x).zip (iA b i y)=iA (a.zip b) i (x,y):=by
 unfold iA;rw[zip_append (by simp[h]),zip_cons_cons];have h1:(a.zip b).take i=(a.take i).zip (b.take i):=take_zipWith;have h2:(a.zip b).drop i=(a.drop i).zip (b.drop i):=drop_zipWith;rw[h1,h2]
theorem Ku(hp:eT p n)(hn:up∉p.keys):(∀j (hj:j<p.keys.length),j<aS p up->bC p.keys[j] up)/\(∀j (hj:j<p.keys.length),aS p up<=j->bC up p.keys[j])/\aS p up<=p.keys.length:=by
 unfold aS;split
 ·refine⟨fun j hj h=>(Cl h).2,fun j hj h=>?_,Ae _ _⟩;have aa:gS p.keys up<p.keys.length:=(by omega)
  have h1:=B9 aa;have h2:¬bC p.keys[j] up:=by
   rcases Nat.lt_or_ge (gS p.keys up) j with h'|h'
   ·exact fun E=>h1 (mE (oh hp.kI h' hj) E)
   have:gS p.keys up=j:=(by omega)
   subst this;exact h1
  rcases Az p.keys[j] up with h|h|h
  ·exact absurd h h2
  ·exact absurd (h ▸ getElem_mem hj) hn
  exact h
 refine⟨fun j hj h=>?_,fun j hj h=>?_,Cm _ _⟩
 ·have h2:=(Kt h).2;rcases Az p.keys[j] up with h|h|h
  ·exact h
  ·exact absurd (h ▸ getElem_mem hj) hn
  exact absurd h h2
 have aa:nI p.keys up<p.keys.length:=(by omega)
 have h1:=JY aa;rcases Nat.lt_or_ge (nI p.keys up) j with h'|h'
 ·exact mE h1 (oh hp.kI h' hj)
 have:nI p.keys up=j:=(by omega)
 subst this;exact h1
theorem af9(hp:eT p n)(hn:up∉p.keys):(iA p.keys (aS p up) up).Pairwise bC:=by
 obtain⟨h1,h2,h3⟩:=Ku hp hn;unfold iA;have hr:=hp.kI;conv at hr=>rw[<-take_append_drop (aS p up) p.keys]
 rw[pairwise_append] at hr;rw[pairwise_append,pairwise_cons];refine⟨hr.1,⟨fun y hy=>?_,hr.2.1⟩,fun x hx y hy=>?_⟩
 ·obtain⟨j,hj,rfl⟩:=mem_iff_getElem.1 hy;rw[length_drop] at hj;rw[getElem_drop];exact h2 _ w4 w4
 rcases mem_cons.1 hy with rfl|hy
 ·obtain⟨j,hj,rfl⟩:=mem_iff_getElem.1 hx;rw[length_take] at hj;rw[getElem_take];exact h1 _ w4 w4
 exact hr.2.2 x hx y hy
structure yg (p:dc) (many:Int):Prop where
 eU:p.keys.length<=5
 hlen:p.high.length<=100
 yD:-1<=p.next
 yh:p.next<many
 yE:p.next<0↔p.high=[]
 leaf:p.leaf=true->p.kids.length=p.keys.length
 node:p.leaf=false->p.kids.length=p.keys.length+1/\p.keys≠[]
 me:∀k∈p.keys,1<=k.length/\k.length<=100
 rH:p.high≠[]->∀k∈p.keys,bC k p.high
 kI:p.keys.Pairwise bC
 ay:∀n∈p.kids,0<=n
 wW:p.leaf=false->∀n∈p.kids,n<many
theorem yg.ok(h:yg p n)(hl:p.keys.length<=4):eT p n:=⟨hl,h.hlen,h.yD,h.yh,h.yE,h.leaf,h.node,h.me,h.rH,h.kI,h.ay,h.wW⟩
theorem Kv(hp:eT p n){ay:Int}(hn:up∉p.keys)(U:1<=up.length/\up.length<=100)(Z:p.high≠[]->bC up p.high)(hk:0<=ay)(O:p.leaf=false->ay<n):yg (bD p up ay) n:=by
 obtain⟨_,_,h3⟩:=Ku hp hn;have hf:=hp.eU;refine⟨?_,hp.hlen,hp.yD,hp.yh,hp.yE,fun hl=>?_,fun hl=>?_,fun k I=>?_,fun hne k I=>?_,af9 hp hn,fun m hm=>?_,fun hl m hm=>?_⟩
 ·show(iA _ _ _).length<=5;rw[zT _ h3];omega
 ·have E:p.leaf=true:=hl;show(iA _ _ _).length=(iA _ _ _).length;rw[if_pos E,zT _ h3,zT _ (by rw[hp.leaf E];exact h3),hp.leaf E]
 ·have E:p.leaf=false:=hl;refine⟨?_,?_⟩
  ·show(iA _ _ _).length=(iA _ _ _).length+1;rw[if_neg (by rw[E];decide),zT _ h3,zT _ (by rw[(hp.node E).1];omega),(hp.node E).1]
  show iA _ _ _≠[];intro e;have:=congrArg length e;rw[zT _ h3] at this;simp at this
 ·rcases vZ.1 I with rfl|h
  ·exact U
  exact hp.me k h
 ·rcases vZ.1 I with rfl|h
  ·exact Z hne
  exact hp.rH hne k h
 ·rcases vZ.1 hm with rfl|h
  ·exact hk
  exact hp.ay m h
 rcases vZ.1 hm with rfl|h
 ·exact O hl
 exact hp.wW hl m h
theorem AA(h:p.keys.length=5):iy p=p.keys[2]:=by unfold iy;rw[getD_eq_getElem?_getD,getElem?_eq_getElem w4];rfl
theorem Wv(hp:yg p n)(h5:p.keys.length=5)(h0:0<=n):eT (eA p n) (n+1):=by
 have U:=AA h5;have I:iy p∈p.keys:=(by rw[U];exact getElem_mem _)
 refine⟨?_,(hp.me _ I).2,by show -1<=n;omega,by show n<n+1;omega,?_,fun hl=>?_,fun hl=>?_,fun k hk=>hp.me k (mem_of_mem_take hk),fun _ k hk=>?_,hp.kI.sublist (take_sublist _ _),fun x hx=>hp.ay x (mem_of_mem_take hx),fun hl x hx=>?_⟩
 ·show(p.keys.take 2).length<=4;rw[length_take];omega
 ·show n<0↔iy p=[];have:=(hp.me _ I).1;exact⟨fun h=>by omega,fun h=>by rw[h] at this;simp at this⟩
 ·have E:p.leaf=true:=hl;show(p.kids.take (if p.leaf=true then 2 else 3)).length=(p.keys.take 2).length;rw[if_pos E,length_take,length_take,hp.leaf E]
 ·have E:p.leaf=false:=hl;refine⟨?_,?_⟩
  ·show(p.kids.take (if p.leaf=true then 2 else 3)).length=(p.keys.take 2).length+1;rw[if_neg (by rw[E];decide),length_take,length_take,(hp.node E).1];omega
  show p.keys.take 2≠[];intro e;have:=congrArg length e;rw[length_take,h5] at this;cases this
 ·have O:k∈p.keys.take 2:=hk;obtain⟨j,hj,rfl⟩:=mem_iff_getElem.1 O;rw[length_take] at hj;show bC (p.keys.take 2)[j] (iy p);rw[getElem_take,U];exact oh hp.kI w4 w4
 have E:p.leaf=false:=hl;have:=hp.wW E x (mem_of_mem_take hx);omega
theorem Vr{m:Int}(hp:yg p n)(h5:p.keys.length=5)(hm:n<=m):eT (cy p) m:=by
 refine⟨?_,hp.hlen,hp.yD,by have:=hp.yh;show p.next<m;omega,hp.yE,fun hl=>?_,fun hl=>?_,fun k hk=>hp.me k (mem_of_mem_drop hk),fun hne k hk=>hp.rH hne k (mem_of_mem_drop hk),hp.kI.sublist (drop_sublist _ _),fun x hx=>hp.ay x (mem_of_mem_drop hx),fun hl x hx=>?_⟩
 ·show(p.keys.drop _).length<=4;rw[length_drop];split<;>omega
 ·have E:p.leaf=true:=hl;show(p.kids.drop _).length=(p.keys.drop _).length;rw[length_drop,length_drop,hp.leaf E]
 ·have E:p.leaf=false:=hl;refine⟨?_,?_⟩
  ·show(p.kids.drop _).length=(p.keys.drop _).length+1;rw[length_drop,length_drop,(hp.node E).1,if_neg (by rw[E];decide)];omega
  show p.keys.drop _≠[];intro e;have:=congrArg length e;rw[length_drop,if_neg (by rw[E];decide)] at this;simp at this;omega
 have E:p.leaf=false:=hl;have:=hp.wW E x (mem_of_mem_drop hx);omega
def jM(t:aE)(h:Nat):K->List Int->List K->K->Prop
 | low,c::cs,ks,high=>match cs,ks with
  | [],[]=>ee t h c low high
  | _::_,k::ks=>ee t h c low k/\jM t h k cs ks high
  | _,_=>False
 | _,[],_,_=>False
theorem Cp{high:K}{c:Int}:jM t h low [c] [] high↔ee t h c low high:=by rw[jM]
theorem rm{high k:K}{c d:Int}{cs:List Int}{ks:List K}:jM t h low (c::d::cs) (k::ks) high↔ee t h c low k/\jM t h k (d::cs) ks high:=by rw[jM]
theorem Kw{t:aE}{h:Nat}{high:K}:∀{kids:List Int} {keys:List K} {low:K},kids.length=keys.length+1 ->
  ((∀j (hj:j<kids.length),ee t h kids[j] (if j=0 then low else keys.getD (j-1) []) (keys.getD j high))↔jM t h low kids keys high)
 | [],keys,low,e=>by simp at e
 | [c],[],low,e=>by
  rw[Cp];constructor
  ·intro q;exact q 0 bp
  intro q j hj;obtain rfl:j=0:=(by simpa using hj)
  exact q
 | [c],k::ks,low,e=>by simp at e
 | c::d::cs,[],low,e=>by simp at e
 | c::d::cs,k::ks,low,e=>by
  rw[rm,<-Kw (kids:=d::cs) (keys:=ks) (low:=k) (by simpa using e)];constructor
  ·intro q;refine⟨q 0 bp,fun j hj=>?_⟩;have:=q (j+1) (by simpa using hj);rw[if_neg w4] at this;simp only[getElem_cons_succ,Nat.add_sub_cancel,getD_cons_succ] at this;cases j with
   | zero=>exact this
   | succ j=>exact this
  rintro⟨q0,q⟩ j hj;cases j with
  | zero=>exact q0
  | succ j =>
   have:=q j (by simpa using hj);rw[if_neg w4];simp only[getElem_cons_succ,Nat.add_sub_cancel,getD_cons_succ];cases j with
   | zero=>exact this
   | succ j=>exact this
theorem Cx{high:K}(hp:eT (t.pg i) n):ee t (h+1) i low high↔(0<=i/\i<t.af.length)/\(t.pg i).leaf=false/\(t.pg i).high=high/\(∀k∈(t.pg i).keys,¬bC k low)/\jM t h low (t.pg i).kids (t.pg i).keys high:=by
 constructor
 ·rintro⟨q1,q2,E,O,I⟩;refine⟨q1,q2,E,O,?_⟩;rw[<-Kw (hp.node q2).1];intro j hj;have:=I j hj;unfold iU iE at this;rw[E] at this;exact this
 rintro⟨q1,q2,E,O,I⟩;refine⟨q1,q2,E,O,?_⟩;rw[<-Kw (hp.node q2).1] at I;intro j hj;have:=I j hj;unfold iU iE;rw[E];exact this
theorem TZ{t u:aE}{h:Nat}{high:K}:∀{kids:List Int} {keys:List K} {low:K},jM t h low kids keys high->(∀c∈kids,∀lo hi,ee t h c lo hi->ee u h c lo hi)->jM u h low kids keys high
 | [],keys,low,q,_=>by simp[jM] at q
 | [c],[],low,q,f=>by rw[Cp] at q |-;exact f c bp _ _ q
 | [c],k::ks,low,q,f=>by simp[jM] at q
 | c::d::cs,[],low,q,f=>by simp[jM] at q
 | c::d::cs,k::ks,low,q,f=>by
  rw[rm] at q |-;exact⟨f c bp _ _ q.1,TZ q.2 fun x hx=>f x (by simp at hx |-;exact .inr hx)⟩
theorem T0{t u:aE}{h:Nat}{high up:K}{ay:Int}:∀(j:Nat) {kids:List Int} {keys:List K} {low:K} (hj:j<kids.length),jM t h low kids keys high ->
  (∀c∈kids.eraseIdx j,∀lo hi,ee t h c lo hi->ee u h c lo hi) ->
  (ee u h kids[j] (if j=0 then low else keys.getD (j-1) []) up)->ee u h ay up (keys.getD j high)->jM u h low (iA kids (j+1) ay) (iA keys j up) high
 | 0,[],keys,low,hj,q,f,q1,q2=>by simp at hj
 | 0,[c],[],low,hj,q,f,q1,q2=>by
  show jM u h low [c,ay] [up] high;rw[rm,Cp];exact⟨q1,q2⟩
 | 0,[c],k::ks,low,hj,q,f,q1,q2=>by simp[jM] at q
 | 0,c::d::cs,[],low,hj,q,f,q1,q2=>by simp[jM] at q
 | 0,c::d::cs,k::ks,low,hj,q,f,q1,q2=>by
  show jM u h low (c::ay::d::cs) (up::k::ks) high;rw[rm,rm];rw[rm] at q;exact⟨q1,q2,TZ q.2 fun x hx=>f x (by simpa using hx)⟩
 | j+1,[],keys,low,hj,q,f,q1,q2=>by simp at hj
 | j+1,[c],keys,low,hj,q,f,q1,q2=>by simp at hj
 | j+1,c::d::cs,[],low,hj,q,f,q1,q2=>by simp[jM] at q
 | j+1,c::d::cs,k::ks,low,hj,q,f,q1,q2=>by
  rw[rm] at q;have e1:iA (c::d::cs) (j+1+1) ay=c::iA (d::cs) (j+1) ay:=rfl;have e2:iA (k::ks) (j+1) up=k::iA ks j up:=rfl;rw[e1,e2];have E:=T0 (t:=t) (u:=u) (up:=up) (ay:=ay) j (kids:=d::cs) (keys:=ks) (low:=k) (by simpa using hj) q.2 (fun x hx=>f x (by rw[eraseIdx_cons_succ];exact mem_cons_of_mem _ hx)) (by
   have:=q1;rw[if_neg w4] at this;simp only[getElem_cons_succ,Nat.add_sub_cancel] at this;cases j with
   | zero=>exact this
   | succ j=>exact this) (by simpa using q2)
  have I:iA (d::cs) (j+1) ay=d::iA cs j ay:=rfl;rw[I] at E |-;rw[rm];exact⟨f c (by rw[eraseIdx_cons_succ];simp) _ _ q.1,E⟩
theorem Q8{t:aE}{h:Nat}{high:K}:∀(m:Nat) {kids:List Int} {keys:List K} {low:K} (hm:m<keys.length),jM t h low kids keys high->jM t h low (kids.take (m+1)) (keys.take m) keys[m]/\jM t h keys[m] (kids.drop (m+1)) (keys.drop (m+1)) high
 | 0,c::d::cs,k::ks,low,hm,q=>by
  rw[rm] at q;exact⟨Cp.2 q.1,q.2⟩
 | m+1,c::d::cs,k::ks,low,hm,q=>by
  rw[rm] at q;obtain⟨q1,q2⟩:=Q8 m (kids:=d::cs) (keys:=ks) (by simpa using hm) q.2;refine⟨?_,q2⟩;have e:(c::d::cs).take (m+1+1)=c::d::cs.take m:=rfl;rw[e];show jM t h low (c::d::cs.take m) (k::ks.take m) _;rw[rm];exact⟨q.1,q1⟩
 | _,_,[],_,hm,_=>by simp at hm
 | _,[],_::_,_,_,q=>by simp[jM] at q
 | _,[c],_::_,_,_,q=>by simp[jM] at q
theorem Cy{t:aE}{e:Int}:∀{a b:List Int},fA t (a++b) e↔fA t a (b.headD e)/\fA t b e
 | [],b=>by simp[fA]
 | [i],[]=>by simp[fA]
 | [i],j::b=>by simp[fA]
 | i::j::a,b=>by
  have:=Cy (t:=t) (e:=e) (a:=j::a) (b:=b);show(t.pg i).next=j/\fA t (j::a++b) e↔((t.pg i).next=j/\fA t (j::a) (b.headD e))/\fA t b e;rw[this,and_assoc]
theorem zU{t u:aE}:∀{a:List Int} {e:Int},(∀j∈a,(u.pg j).next=(t.pg j).next)->fA t a e->fA u a e
 | [],e,_,_=>trivial
 | [i],e,f,h=>by show(u.pg i).next=e;rw[f i bp];exact h
 | i::j::a,e,f,h=>⟨by rw[f i bp];exact h.1,zU (fun x hx=>f x (mem_cons_of_mem _ hx)) h.2⟩
theorem GJ{t:aE}{n:Int}(hp:∀p∈t.af,eT p n):∀{h:Nat} {i:Int} {low high:K},ee t h i low high->∀d,d<=h->cA t d i≠[]
 | 0,i,low,high,ok,d,hd=>by
  obtain rfl:d=0:=(by omega)
  simp[cA]
 | h+1,i,low,high,ok,d,hd=>by
  cases d with
  | zero=>simp[cA]
  | succ d =>
   obtain⟨q1,q2,I,O,E⟩:=ok;have po:=hp _ (jY q1);have hl:=(po.node q2).1;have h0:0<(t.pg i).kids.length:=(by omega)
   have:=GJ hp (E 0 h0) d w4;rw[cA];intro e;rw[flatMap_eq_nil_iff] at e;exact this (e _ (getElem_mem h0))
theorem tY{t:aE}:∀(h:Nat) (i:Int) (d:Nat),d<=h->∀x∈cA t d i,x∈ids t h i
 | 0,i,d,hd,x,hx=>by
  obtain rfl:d=0:=(by omega)
  exact hx
 | h+1,i,0,hd,x,hx=>by
  have:x=i:=(by simpa[cA] using hx)
  subst this;exact u3 _ _
 | h+1,i,d+1,hd,x,hx=>by
  rw[cA] at hx;obtain⟨c,hc,hx⟩:=mem_flatMap.1 hx;rw[ids];exact mem_cons_of_mem _ (mem_flatMap.2 ⟨c,hc,tY h c d w4 x hx⟩)
theorem Fz{a b:List α}(h:a≠[])(e:α):(a++b).headD e=a.headD e:=by
 cases a with
 | nil=>exact absurd rfl h
 | cons x r=>rfl
def oU(t:aE)(h:Nat)(i:Int):Option (K×Int)->List Int
 | none=>ids t h i
 | some (_,ay)=>ids t h i++ids t h ay
def G8(t:aE)(h:Nat)(i:Int):Option (K×Int)->List (K×Int)
 | none=>ez t h i
 | some (_,ay)=>ez t h i++ez t h ay
def uy(t:aE)(d:Nat)(i:Int):Option (K×Int)->List Int
 | none=>cA t d i
 | some (_,ay)=>cA t d i++cA t d ay
def o8(t:aE)(h:Nat)(i:Int)(low high:K):Option (K×Int)->Prop
 | none=>ee t h i low high
 | some (up,ay)=>(1<=up.length/\up.length<=100)/\bC low up/\(high≠[]->bC up high)/\ee t h i low up/\ee t h ay up high
structure pO (t u:aE) (h:Nat) (i:Int) (low high:K) (k:K) (row:Int) (r:Option (K×Int)):Prop where
 le:t.af.length<=u.af.length
 more:u.af.length<=t.af.length+(h+1)
 root:u.root=t.root
 fU:∀p∈u.af,eT p u.af.length
 out:∀j:Int,0<=j->j<t.af.length->j∉ids t h i->u.pg j=t.pg j
 ok:o8 u h i low high r
 sub:∀x∈oU u h i r,x∈ids t h i\/(t.af.length:Int)<=x
 nodup:(oU u h i r).Nodup
 cnt:(oU u h i r).length+t.af.length=(ids t h i).length+u.af.length
 ez:∀x,x∈G8 u h i r↔x=(k,row)\/x∈ez t h i
 qK:∀d,d<=h->∀e,fA t (cA t d i) e->fA u (uy u d i r) e/\(uy u d i r).headD e=(cA t d i).headD e
def jO(t:aE)(i:Int)(a b:dc):aE:=⟨(t.af.set i.toNat a)++[b],t.root⟩
theorem qp(t:aE)(i:Int)(a b:dc):(jO t i a b).af.length=t.af.length+1:=by simp[jO]
theorem RT(h:0<=i/\i<t.af.length)(a b:dc):(jO t i a b).pg i=a:=by
 unfold aE.pg jO;rw[getD_eq_getElem?_getD,getElem?_append_left xx,getElem?_set_self w4];rfl
theorem T1(t:aE)(i:Int)(a b:dc):(jO t i a b).pg t.af.length=b:=by
 unfold aE.pg jO;rw[getD_eq_getElem?_getD,getElem?_append_right xx,length_set];simp
theorem Q9{j:Int}(hi:0<=i)(hj:0<=j/\j<t.af.length)(h:i≠j)(a b:dc):(jO t i a b).pg j=t.pg j:=by
 unfold aE.pg jO;rw[getD_eq_getElem?_getD,getD_eq_getElem?_getD,getElem?_append_left xx,getElem?_set_ne w4]
theorem J0{q:dc}(hp:∀p∈t.af,eT p n)(hq:eT q n):∀p∈(t.set i q).af,eT p n:=fun p h=>by
 rcases mem_or_eq_of_mem_set h with h|rfl
 ·exact hp p h
 exact hq
theorem Ra{a b:dc}{m:Int}(hp:∀p∈t.af,eT p n)(hm:n<=m)(ha:eT a m)(hb:eT b m):∀p∈(jO t i a b).af,eT p m:=fun p h=>by
 unfold jO at h;rcases mem_append.1 h with h|h
 ·rcases mem_or_eq_of_mem_set h with h|rfl
  ·exact(hp p h).more hm
  exact ha
 rw[mem_singleton] at h;subst h;exact hb
theorem Kx{ay:Int}(h:(bD (t.pg i) up ay).keys.length<=4):sZ t i up ay=(t.set i (bD (t.pg i) up ay),none):=by unfold sZ;rw[if_pos h]
theorem J1{ay:Int}(h:¬(bD (t.pg i) up ay).keys.length<=4):sZ t i up ay=(jO t i (eA (bD (t.pg i) up ay) t.af.length) (cy (bD (t.pg i) up ay)),some (iy (bD (t.pg i) up ay),(t.af.length:Int))):=by unfold sZ;rw[if_neg h];rfl
theorem Vs{q:dc}(hr:q.keys.Pairwise bC)(h5:q.keys.length=5)(hl:∀k∈q.keys,¬bC k low):bC low (iy q)/\(∀k∈q.keys.drop 2,¬bC k (iy q)):=by
 rw[AA h5];refine⟨QO (hl _ (getElem_mem (by omega:0<q.keys.length))) (oh hr w4 w4),fun k hk=>?_⟩;obtain⟨j,hj,rfl⟩:=mem_iff_getElem.1 hk;rw[length_drop] at hj;rw[getElem_drop];rcases Nat.eq_zero_or_pos j with rfl|h0
 ·exact kr _
 exact Ay (oh hr w4 w4)
theorem aga(hp:∀p∈t.af,eT p t.af.length){high:K}(ok:ee t 0 i low high){k:K}{row:Int}(hk:mw low high k)(hn:∀x∈ez t 0 i,x.1≠k)(hl:1<=k.length/\k.length<=100)(hr:0<=row):pO t (sZ t i k row).1 0 i low high k row (sZ t i k row).2:=by
 obtain⟨q1,q2,O,q4⟩:=ok;have po:=hp _ (jY q1);have U:k∉(t.pg i).keys:=fun hm=>by
  obtain⟨j,hj,e⟩:=mem_iff_getElem.1 hm;have hlen:=po.leaf q2;refine hn ((t.pg i).keys[j],(t.pg i).kids[j]'w4) ?_ e;show _∈fu (t.pg i);unfold fu;exact mem_iff_getElem.2 ⟨j,by rw[length_zip];omega,by rw[getElem_zip]⟩
 have hf:yg (bD (t.pg i) k row) t.af.length:=Kv po U hl (fun hne=>hk.2 (by rw[<-O];exact hne) |> fun h=>by rw[O];exact h) hr (fun h=>by rw[q2] at h;cases h);have eP:=(Ku po U).2.2;have hE:fu (bD (t.pg i) k row)=iA (fu (t.pg i)) (aS (t.pg i) k) (k,row):=by
  show(iA _ _ _).zip (iA _ _ _)=_;rw[if_pos q2];exact aer (po.leaf q2) eP k row
 have E:∀x∈(bD (t.pg i) k row).keys,¬bC x low:=fun x hx=>by
  rcases vZ.1 hx with rfl|h
  ·exact hk.1
  exact q4 x h
 by_cases h4:(bD (t.pg i) k row).keys.length<=4
 ·rw[Kx h4];have Z:=Co q1 (bD (t.pg i) k row);refine⟨by rw[pn];omega,by rw[pn];omega,rfl,by rw[pn];exact J0 hp (hf.ok h4),fun j h0 hj hne=>?_,?_,fun x hx=>.inl hx,?_,by rw[pn];rfl,fun x=>?_,fun d hd e hs=>?_⟩
  ·exact xT q1.1 h0 (by intro e;subst e;simp[ids] at hne) _
  ·exact⟨by rw[pn];exact q1,by rw[Z];exact q2,by rw[Z];exact O,by rw[Z];exact E⟩
  ·show[i].Nodup;simp
  ·show x∈fu ((t.set i _).pg i)↔_;rw[Z,hE,vZ];rfl
  obtain rfl:d=0:=(by omega)
  refine⟨?_,rfl⟩;show((t.set i _).pg i).next=e;rw[Z];exact hs
 have h5:(bD (t.pg i) k row).keys.length=5:=(by have:=hf.eU;omega)
 rw[J1 h4];have I:(bD (t.pg i) k row).leaf=true:=q2;have ea:=RT q1 (eA (bD (t.pg i) k row) t.af.length) (cy (bD (t.pg i) k row));have eb:=T1 t i (eA (bD (t.pg i) k row) t.af.length) (cy (bD (t.pg i) k row));obtain⟨u1,u2⟩:=Vs hf.kI h5 E;have Ey:iy (bD (t.pg i) k row)∈(bD (t.pg i) k row).keys:=(by rw[AA h5];exact getElem_mem _)
 have iJ:fu (eA (bD (t.pg i) k row) t.af.length)++fu (cy (bD (t.pg i) k row))=fu (bD (t.pg i) k row):=by
  show((bD (t.pg i) k row).keys.take 2).zip ((bD (t.pg i) k row).kids.take (if (bD (t.pg i) k row).leaf=true then 2 else 3))++((bD (t.pg i) k row).keys.drop (if (bD (t.pg i) k row).leaf=true then 2 else 3)).zip ((bD (t.pg i) k row).kids.drop (if (bD (t.pg i) k row).leaf=true then 2 else 3))=_;rw[if_pos I,<-zip_append (by rw[length_take,length_take,hf.leaf I]),take_append_drop,take_append_drop];rfl
 refine⟨by rw[qp];omega,by rw[qp];omega,rfl,?_,fun j h0 hj hne=>?_,⟨hf.me _ Ey,u1,fun hne=>hf.rH (by show(t.pg i).high≠[];rw[O];exact hne) _ Ey |> fun h=>by rw[<-O];exact h,?_,?_⟩,fun x hx=>?_,?_,by rw[qp];show[i,(t.af.length:Int)].length+_=[i].length+_;simp;omega,fun x=>?_,fun d hd e hs=>?_⟩
 ·rw[qp];exact Ra hp w4 (Wv hf h5 w4) (Vr hf h5 w4)
 ·exact Q9 q1.1 ⟨h0,hj⟩ (by intro e;subst e;simp[ids] at hne) _ _
 ·exact⟨by rw[qp];omega,by rw[ea];exact I,by rw[ea];rfl,by rw[ea];exact fun x hx=>E x (mem_of_mem_take hx)⟩
 ·refine⟨by rw[qp];omega,by rw[eb];exact I,by rw[eb];exact O,?_⟩;rw[eb];show ∀x∈(bD (t.pg i) k row).keys.drop (if (bD (t.pg i) k row).leaf=true then 2 else 3),_;rw[if_pos I];exact u2
 ·have qf:x∈[i,(t.af.length:Int)]:=hx;simp only[mem_cons,not_mem_nil,or_false] at qf;rcases qf with rfl|rfl
  ·exact .inl (by simp[ids])
  exact .inr (Int.le_refl _)
 ·show[i,(t.af.length:Int)].Nodup;simp;omega
 ·show x∈fu ((jO t i _ _).pg i)++fu ((jO t i _ _).pg _)↔_;rw[ea,eb,iJ,hE,vZ];rfl
 obtain rfl:d=0:=(by omega)
 refine⟨?_,rfl⟩;show((jO t i _ _).pg i).next=_/\((jO t i _ _).pg _).next=e;rw[ea,eb];exact⟨rfl,hs⟩
end
section
variable {α:Type} {A B:List Int} {v:aE}
theorem Lp{keys:List K}(hr:keys.Pairwise bC){up:K}{j:Nat}(hj:j<=keys.length)(h1:∀(h:0<j),¬bC up (keys[j-1]'w4))(h2:∀(h:j<keys.length),bC up keys[j]):nI keys up=j:=by
 have E:=Cm keys up;rcases Nat.lt_trichotomy (nI keys up) j with h|h|h
 ·exfalso;have aa:nI keys up<keys.length:=(by omega)
  have h3:=JY aa;have h4:=h1 w4;rcases Nat.lt_or_ge (nI keys up) (j-1) with h5|h5
  ·exact h4 (mE h3 (oh hr h5 w4))
  have:nI keys up=j-1:=(by omega)
  simp only[this] at h3;exact h4 h3
 ·exact h
 exact absurd (h2 w4) (Kt h).2
theorem QR{l:List α}{j:Nat}(hj:j<l.length)(x:α):iA l (j+1) x=l.take j++l[j]::x::l.drop (j+1):=by
 unfold iA;rw[take_succ_eq_append_getElem hj,append_assoc];rfl
theorem wc{l:List α}{j:Nat}(hj:j<l.length):l=l.take j++l[j]::l.drop (j+1):=by
 conv=>lhs;rw[<-take_append_drop j l,drop_eq_getElem_cons hj]
theorem acG{l:List α}{j:Nat}{x:α}(h:x∈l.eraseIdx j):x∈l.take j\/x∈l.drop (j+1):=by
 rw[eraseIdx_eq_take_drop_succ] at h;exact mem_append.1 h
variable {t:aE}
theorem xU{h:Nat}{i:Int}{j:Nat}(hj:j<(t.pg i).kids.length)(hn:(ids t (h+1) i).Nodup):(ids t h (t.pg i).kids[j]).Nodup/\i∉ids t h (t.pg i).kids[j]/\(∀x∈(t.pg i).kids.take j++(t.pg i).kids.drop (j+1),(∀y∈ids t h x,y∉ids t h (t.pg i).kids[j])/\i∉ids t h x) /\
  (((t.pg i).kids.take j).flatMap (ids t h)++((t.pg i).kids.drop (j+1)).flatMap (ids t h)).Nodup/\i∉((t.pg i).kids.take j).flatMap (ids t h)++((t.pg i).kids.drop (j+1)).flatMap (ids t h):=by
 rw[ids,nodup_cons] at hn;obtain⟨h0,hn⟩:=hn;have hs:=wc hj;rw[hs,flatMap_append,flatMap_cons] at hn h0;simp only[mem_append,not_or] at h0;rw[nodup_append] at hn;obtain⟨n1,n2,n3⟩:=hn;rw[nodup_append] at n2;obtain⟨n4,n5,n6⟩:=n2;refine⟨n4,h0.2.1,fun x hx=>?_,?_,?_⟩
 ·rcases mem_append.1 hx with hx|hx
  ·exact⟨fun y hy hc=>n3 y (mem_flatMap.2 ⟨x,hx,hy⟩) y (mem_append_left _ hc) rfl,fun hi=>h0.1 (mem_flatMap.2 ⟨x,hx,hi⟩)⟩
  exact⟨fun y hy hc=>n6 y hc y (mem_flatMap.2 ⟨x,hx,hy⟩) rfl,fun hi=>h0.2.2 (mem_flatMap.2 ⟨x,hx,hi⟩)⟩
 ·rw[nodup_append];exact⟨n1,n5,fun a ha b hb=>n3 a ha b (mem_append_right _ hb)⟩
 simp only[mem_append,not_or];exact⟨h0.1,h0.2.2⟩
theorem J2{f g:Int->List α}{c ay:Int}(hA:∀x∈A,f x=g x)(hB:∀x∈B,f x=g x):(A++c::ay::B).flatMap f=A.flatMap g++(f c++f ay)++B.flatMap g:=by
 rw[flatMap_append,flatMap_cons,flatMap_cons,sC hA,sC hB];simp
theorem Ky{f g:Int->List α}{c:Int}(hA:∀x∈A,f x=g x)(hB:∀x∈B,f x=g x):(A++c::B).flatMap f=A.flatMap g++f c++B.flatMap g:=by
 rw[flatMap_append,flatMap_cons,sC hA,sC hB];simp
structure jS (t u:aE) (h:Nat) (i:Int) (low high:K) (j:Nat) (k:K) (row:Int) (r:Option (K×Int)):Prop where
 hp:∀p∈t.af,eT p t.af.length
 ok:ee t (h+1) i low high
 nd:(ids t (h+1) i).Nodup
 hj:j<(t.pg i).kids.length
 hk:mw (iU low (t.pg i) j) (iE (t.pg i) j) k
 ins:pO t u h ((t.pg i).kids.getD j 0) (iU low (t.pg i) j) (iE (t.pg i) j) k row r
section
variable {u:aE} {h:Nat} {i:Int} {low high:K} {j:Nat} {k:K} {row:Int} {r:Option (K×Int)}
theorem jS.ay(m:jS t u h i low high j k row r):(t.pg i).kids.getD j 0=(t.pg i).kids[j]'m.hj:=ve m.hj
theorem jS.same(m:jS t u h i low high j k row r):u.pg i=t.pg i:=by
 have:=(xU m.hj m.nd).2.1;exact m.ins.out i m.ok.idx.1 m.ok.idx.2 (by rw[m.ay];exact this)
structure py (u v:aE) (i:Int):Prop where
 le:u.af.length<=v.af.length
 pg:∀x:Int,0<=x->x<u.af.length->x≠i->v.pg x=u.pg x
theorem jS.others(m:jS t u h i low high j k row r)(ha:py u v i):∀x∈(t.pg i).kids.take j++(t.pg i).kids.drop (j+1),∀y∈ids t h x,v.pg y=t.pg y:=fun x hx y hy=>by
 obtain⟨h1,h2⟩:=(xU m.hj m.nd).2.2.1 x hx;have I:y≠i:=fun e=>h2 (e ▸ hy);have E:0<=y/\y<t.af.length:=by
  have hm:y∈ids t (h+1) i:=by
   rw[ids];refine mem_cons_of_mem _ (mem_flatMap.2 ⟨x,?_,hy⟩);rcases mem_append.1 hx with hx|hx
   ·exact mem_of_mem_take hx
   exact mem_of_mem_drop hx
  exact m.ok.ids y hm
 have O:=m.ins.le;rw[ha.pg y E.1 w4 I,m.ins.out y E.1 E.2 (by rw[m.ay];exact h1 y hy)]
theorem jS.below(m:jS t u h i low high j k row r)(ha:py u v i):∀y∈oU u h ((t.pg i).kids[j]'m.hj) r,0<=y->y<u.af.length->v.pg y=u.pg y:=fun y hy h0 hl=>by
 refine ha.pg y h0 hl fun e=>?_;have hs:=m.ins.sub y (by rw[m.ay];exact hy);rw[m.ay] at hs;rcases hs with hs|hs
 ·exact(xU m.hj m.nd).2.1 (e ▸ hs)
 have:=m.ok.idx;omega
theorem jS.rD(m:jS t u h i low high j k row r)(ha:py u v i){x:Int}(hx:x∈(t.pg i).kids.take j++(t.pg i).kids.drop (j+1)):ids v h x=ids t h x/\ez v h x=ez t h x/\∀d,d<=h->cA v d x=cA t d x:=frame h x (m.others ha x hx)
theorem jS.Vt(m:jS t u h i low high j k row r)(ha:py u v i){x:Int}(hx:x∈(t.pg i).kids.take j++(t.pg i).kids.drop (j+1)){lo hi:K}(aQ:ee t h x lo hi):ee v h x lo hi:=by
 have:=m.ins.le;have:=ha.le;exact aQ.frame w4 (m.others ha x hx)
theorem jS.T2(m:jS t u h i low high j k row r):(((t.pg i).kids.take j).flatMap (ids t h)++oU u h ((t.pg i).kids[j]'m.hj) r++((t.pg i).kids.drop (j+1)).flatMap (ids t h)).Nodup/\i∉((t.pg i).kids.take j).flatMap (ids t h)++oU u h ((t.pg i).kids[j]'m.hj) r++((t.pg i).kids.drop (j+1)).flatMap (ids t h):=by
 obtain⟨a1,a2,a3,a4,a5⟩:=xU m.hj m.nd;have hnd:=m.ins.nodup;have E:=m.ins.sub;rw[m.ay] at hnd E;have aa:∀x∈(t.pg i).kids.take j++(t.pg i).kids.drop (j+1),∀y∈ids t h x,y<t.af.length:=fun x hx y hy=>by
  refine(m.ok.ids y ?_).2;rw[ids];refine mem_cons_of_mem _ (mem_flatMap.2 ⟨x,?_,hy⟩);rcases mem_append.1 hx with hx|hx
  ·exact mem_of_mem_take hx
  exact mem_of_mem_drop hx
 have I:∀x∈(t.pg i).kids.take j++(t.pg i).kids.drop (j+1),∀y∈ids t h x,y∉oU u h ((t.pg i).kids[j]'m.hj) r:=fun x hx y hy hm=>by
  rcases E y hm with hs|hs
  ·exact(a3 x hx).1 y hy hs
  have:=aa x hx y hy;omega
 have O:i∉oU u h ((t.pg i).kids[j]'m.hj) r:=fun hm=>by
  rcases E i hm with hs|hs
  ·exact a2 hs
  have:=m.ok.idx;omega
 rw[nodup_append] at a4;obtain⟨b1,b2,b3⟩:=a4;refine⟨?_,?_⟩
 ·rw[nodup_append,nodup_append];refine⟨⟨b1,hnd,fun a ha b hb e=>?_⟩,b2,fun a ha b hb e=>?_⟩
  ·obtain⟨x,hx,ha⟩:=mem_flatMap.1 ha;subst e;exact I x (mem_append_left _ hx) a ha hb
  obtain⟨x,hx,jo⟩:=mem_flatMap.1 hb;subst e;rcases mem_append.1 ha with ha|ha
  ·exact b3 a ha a hb rfl
  exact I x (mem_append_right _ hx) a jo ha
 simp only[mem_append,not_or] at a5 |-;exact⟨⟨a5.1,O⟩,a5.2⟩
theorem jS.Ww(m:jS t u h i low high j k row r):(((t.pg i).kids.take j).flatMap (ids t h)++oU u h ((t.pg i).kids[j]'m.hj) r++((t.pg i).kids.drop (j+1)).flatMap (ids t h)).length+1+t.af.length=(ids t (h+1) i).length+u.af.length:=by
 have hc:=m.ins.cnt;rw[m.ay] at hc;have e:(ids t (h+1) i).length=1+((((t.pg i).kids.take j).flatMap (ids t h)).length+((ids t h ((t.pg i).kids[j]'m.hj)).length+(((t.pg i).kids.drop (j+1)).flatMap (ids t h)).length)):=by
  rw[ids];conv=>lhs;rw[wc m.hj]
  rw[length_cons,flatMap_append,flatMap_cons,length_append,length_append];omega
 rw[e,length_append,length_append];omega
theorem jS.Wf(m:jS t u h i low high j k row r):∀x∈((t.pg i).kids.take j).flatMap (ids t h)++oU u h ((t.pg i).kids[j]'m.hj) r++((t.pg i).kids.drop (j+1)).flatMap (ids t h),x∈ids t (h+1) i\/(t.af.length:Int)<=x:=fun x hx=>by
 have E:=m.ins.sub;rw[m.ay] at E;have up:∀c∈(t.pg i).kids,∀y∈ids t h c,y∈ids t (h+1) i:=fun c hc y hy=>by rw[ids];exact mem_cons_of_mem _ (mem_flatMap.2 ⟨c,hc,hy⟩)
 rcases mem_append.1 hx with hx|hx
 ·rcases mem_append.1 hx with hx|hx
  ·obtain⟨c,hc,hx⟩:=mem_flatMap.1 hx;exact .inl (up c (mem_of_mem_take hc) x hx)
  rcases E x hx with hs|hs
  ·exact .inl (up _ (getElem_mem _) x hs)
  exact .inr hs
 obtain⟨c,hc,hx⟩:=mem_flatMap.1 hx;exact .inl (up c (mem_of_mem_drop hc) x hx)
theorem jS.Lq(m:jS t u h i low high j k row r)(x:K×Int):x∈((t.pg i).kids.take j).flatMap (ez t h)++G8 u h ((t.pg i).kids[j]'m.hj) r++((t.pg i).kids.drop (j+1)).flatMap (ez t h)↔x=(k,row)\/x∈ez t (h+1) i:=by
 have he:=m.ins.ez x;rw[m.ay] at he;have e:ez t (h+1) i=((t.pg i).kids.take j).flatMap (ez t h)++(ez t h ((t.pg i).kids[j]'m.hj)++((t.pg i).kids.drop (j+1)).flatMap (ez t h)):=by
  rw[ez];conv=>lhs;rw[wc m.hj]
  rw[flatMap_append,flatMap_cons]
 rw[e];simp only[mem_append,he];constructor
 ·rintro((h|h|h)|h)
  ·exact .inr (.inl h)
  ·exact .inl h
  ·exact .inr (.inr (.inl h))
  exact .inr (.inr (.inr h))
 rintro(h|h|h|h)
 ·exact .inl (.inr (.inl h))
 ·exact .inl (.inl h)
 ·exact .inl (.inr (.inr h))
 exact .inr h
theorem jS.L9(m:jS t u h i low high j k row r)(ha:py u v i){d:Nat}(hd:d<=h){e:Int}(hs:fA t (cA t (d+1) i) e) :
  fA v (((t.pg i).kids.take j).flatMap (cA t d)++uy u d ((t.pg i).kids[j]'m.hj) r++((t.pg i).kids.drop (j+1)).flatMap (cA t d)) e/\(((t.pg i).kids.take j).flatMap (cA t d)++uy u d ((t.pg i).kids[j]'m.hj) r++((t.pg i).kids.drop (j+1)).flatMap (cA t d)).headD e=(cA t (d+1) i).headD e:=by
 have hl:cA t (d+1) i=((t.pg i).kids.take j).flatMap (cA t d)++(cA t d ((t.pg i).kids[j]'m.hj)++((t.pg i).kids.drop (j+1)).flatMap (cA t d)):=by
  rw[cA];conv=>lhs;rw[wc m.hj]
  rw[flatMap_append,flatMap_cons]
 rw[hl] at hs |-;rw[Cy,Cy] at hs;obtain⟨s1,s2,s3⟩:=hs;obtain⟨g1,g2⟩:=m.ins.qK d hd _ (by rw[m.ay];exact s2);rw[m.ay] at g1 g2;obtain⟨_,_,_,_,O⟩:=m.ok;have hne:cA t d ((t.pg i).kids[j]'m.hj)≠[]:=GJ m.hp (O j m.hj) d hd;have fr:∀x∈(t.pg i).kids.take j++(t.pg i).kids.drop (j+1),∀y∈cA t d x,(v.pg y).next=(t.pg y).next:=fun x hx y hy=>by rw[m.others ha x hx y (tY h x d hd y hy)]
 have U:∀y∈uy u d ((t.pg i).kids[j]'m.hj) r,(v.pg y).next=(u.pg y).next:=fun y hy=>by
  have aQ:=m.ins.ok;rw[m.ay] at aQ;cases r with
  | none =>
   have hi:=tY h _ d hd y hy;have hb:=ee.ids aQ y hi;rw[m.below ha y hi hb.1 hb.2]
  | some q =>
   obtain⟨up,ay⟩:=q;obtain⟨_,_,_,o1,o2⟩:=aQ;rcases mem_append.1 hy with hy|hy
   ·have hi:=tY h _ d hd y hy;have hb:=o1.ids y hi;rw[m.below ha y (mem_append_left _ hi) hb.1 hb.2]
   have hi:=tY h _ d hd y hy;have hb:=o2.ids y hi;rw[m.below ha y (mem_append_right _ hi) hb.1 hb.2]
 have E:uy u d ((t.pg i).kids[j]'m.hj) r≠[]:=fun e0=>by
  have aQ:=m.ins.ok;rw[m.ay] at aQ;cases r with
  | none=>exact GJ m.ins.fU aQ d hd e0
  | some q =>
   obtain⟨up,ay⟩:=q;exact GJ m.ins.fU aQ.2.2.2.1 d hd (append_eq_nil_iff.1 e0).1
 have I:=zU (u:=v) (fun y hy=>by obtain⟨x,hx,hy⟩:=mem_flatMap.1 hy;exact fr x (mem_append_left _ hx) y hy) s1;have Z:=zU (u:=v) (fun y hy=>by obtain⟨x,hx,hy⟩:=mem_flatMap.1 hy;exact fr x (mem_append_right _ hx) y hy) s3;have g1':=zU (u:=v) U g1;have hh:∀e':Int,(uy u d ((t.pg i).kids[j]'m.hj) r).headD e'=(cA t d ((t.pg i).kids[j]'m.hj)).headD e':=fun e'=>by
  cases h1:uy u d ((t.pg i).kids[j]'m.hj) r with
  | nil=>exact absurd h1 E
  | cons a b =>
   cases h2:cA t d ((t.pg i).kids[j]'m.hj) with
   | nil=>exact absurd h2 hne
   | cons a' b'=>rw[h1,h2] at g2;exact g2
 rw[append_assoc];refine⟨?_,?_⟩
 ·rw[Cy,Cy];refine⟨?_,g1',Z⟩;rw[Fz E,hh];rw[Fz hne] at I;exact I
 cases hA:((t.pg i).kids.take j).flatMap (cA t d) with
 | cons a b=>rfl
 | nil=>rw[nil_append,nil_append,Fz E,Fz hne,hh]
end
end
section
variable {t u:aE} {h:Nat} {i:Int} {low high:K} {j:Nat} {k:K} {row:Int}
theorem aes{α:Type}{l:List α}{j E:Nat}(I:E<l.length)(hne:E≠j):l[E]∈l.take j++l.drop (j+1):=by
 rcases Nat.lt_or_ge E j with h|h
 ·exact mem_append_left _ (mem_iff_getElem.2 ⟨E,by rw[length_take];omega,by rw[getElem_take]⟩)
 refine mem_append_right _ (mem_iff_getElem.2 ⟨E-(j+1),by rw[length_drop];omega,?_⟩);rw[getElem_drop];congr 1;omega
theorem Kz(m:jS t u h i low high j k row none):pO t u (h+1) i low high k row none:=by
 have E:py u u i:=⟨Nat.le_refl _,fun _ _ _ _=>rfl⟩
 have I:=m.same;have BN:=m.ok.idx;obtain⟨q1,q2,q3,q4,q5⟩:=m.ok;have aQ:ee u h ((t.pg i).kids[j]'m.hj) (iU low (t.pg i) j) (iE (t.pg i) j):=(by have:=m.ins.ok;rw[m.ay] at this;exact this)
 have qF:ids u (h+1) i=i::(((t.pg i).kids.take j).flatMap (ids t h)++oU u h ((t.pg i).kids[j]'m.hj) none++((t.pg i).kids.drop (j+1)).flatMap (ids t h)):=by
  rw[ids,I];conv=>lhs;rw[wc m.hj]
  rw[Ky (fun x hx=>(m.rD E (mem_append_left _ hx)).1) (fun x hx=>(m.rD E (mem_append_right _ hx)).1)];rfl
 have O:ez u (h+1) i=((t.pg i).kids.take j).flatMap (ez t h)++G8 u h ((t.pg i).kids[j]'m.hj) none++((t.pg i).kids.drop (j+1)).flatMap (ez t h):=by
  rw[ez,I];conv=>lhs;rw[wc m.hj]
  rw[Ky (fun x hx=>(m.rD E (mem_append_left _ hx)).2.1) (fun x hx=>(m.rD E (mem_append_right _ hx)).2.1)];rfl
 have U:∀d,d<=h->cA u (d+1) i=((t.pg i).kids.take j).flatMap (cA t d)++uy u d ((t.pg i).kids[j]'m.hj) none++((t.pg i).kids.drop (j+1)).flatMap (cA t d):=fun d hd=>by
  rw[cA,I];conv=>lhs;rw[wc m.hj]
  rw[Ky (fun x hx=>(m.rD E (mem_append_left _ hx)).2.2 d hd) (fun x hx=>(m.rD E (mem_append_right _ hx)).2.2 d hd)];rfl
 have hle:=m.ins.le;have Xe:=m.ins.more;have Z:=m.T2;refine⟨hle,by omega,m.ins.root,m.ins.fU,fun x h0 hx hne=>?_,?_,?_,?_,?_,?_,?_⟩
 ·refine m.ins.out x h0 hx fun hm=>hne ?_;rw[m.ay] at hm;rw[ids];exact mem_cons_of_mem _ (mem_flatMap.2 ⟨_,getElem_mem _,hm⟩)
 ·refine⟨⟨BN.1,by omega⟩,by rw[I];exact q2,by rw[I];exact q3,by rw[I];exact q4,?_⟩;rw[I];intro j' kM;by_cases e:j'=j
  ·subst e;exact aQ
  exact m.Vt E (aes kM e) (q5 j' kM)
 ·intro x hx;have qf:x∈ids u (h+1) i:=hx;exact X8
 ·show(ids u (h+1) i).Nodup;rw[qF,nodup_cons];exact⟨Z.2,Z.1⟩
 ·show(ids u (h+1) i).length+_=_;rw[qF,length_cons];exact m.Ww
 ·intro x;show x∈ez u (h+1) i↔_;rw[O];exact m.Lq x
 intro d hd e hs;cases d with
 | zero=>exact⟨by show(u.pg i).next=e;rw[I];exact hs,rfl⟩
 | succ d =>
  show fA u (cA u (d+1) i) e/\(cA u (d+1) i).headD e=_;rw[U d w4];exact m.L9 E w4 hs
theorem jS.place{up:K}{ay:Int}(m:jS t u h i low high j k row (some (up,ay))):aS (t.pg i) up=j/\up∉(t.pg i).keys/\mw low high up/\bC low up:=by
 obtain⟨q1,q2,I,O,U⟩:=m.ok;have po:=m.hp _ (jY q1);have hn:=(po.node q2).1;have aQ:=m.ins.ok;rw[m.ay] at aQ;obtain⟨o1,o2,o3,Z,o5⟩:=aQ;have ja:=m.hj;have ff:∀(h0:0<j),bC ((t.pg i).keys[j-1]'w4) up:=fun h0=>by rw[Gl h0 w4] at o2;exact o2
 have eJ:∀(hl:j<(t.pg i).keys.length),bC up (t.pg i).keys[j]:=fun hl=>by
  rw[GI hl] at o3;exact o3 (by intro e;have:=(po.me _ (getElem_mem hl)).1;rw[e] at this;simp at this)
 have eP:aS (t.pg i) up=j:=by
  unfold aS;rw[if_neg (by rw[q2];decide)];exact Lp po.kI w4 (fun h0=>Ay (ff h0)) eJ
 have E:bC low up:=by
  rcases Nat.eq_zero_or_pos j with h0|h0
  ·rw[h0] at o2;exact o2
  exact QO (O _ (getElem_mem (by omega:j-1<_))) (ff h0)
 refine⟨eP,fun hm=>?_,⟨Ay E,fun hne=>?_⟩,E⟩
 ·obtain⟨a,ha,e⟩:=mem_iff_getElem.1 hm;rcases Nat.lt_or_ge a j with h1|h1
  ·have h2:=ff w4;rcases Nat.lt_or_ge a (j-1) with h3|h3
   ·have:=mE (oh po.kI h3 w4) h2;rw[e] at this;exact kr _ this
   have:a=j-1:=(by omega)
   subst this;rw[e] at h2;exact kr _ h2
  have h2:=eJ w4;rcases Nat.lt_or_ge j a with h3|h3
  ·have:=mE h2 (oh po.kI h3 ha);rw[e] at this;exact kr _ this
  have:a=j:=(by omega)
  subst this;rw[e] at h2;exact kr _ h2
 by_cases hl:j<(t.pg i).keys.length
 ·exact mE (eJ hl) (by rw[<-I];exact po.rH (by rw[I];exact hne) _ (getElem_mem hl))
 rw[Ln w4,I] at o3;exact o3 hne
theorem agb{up:K}{ay:Int}(m:jS t u h i low high j k row (some (up,ay))):pO t (sZ u i up ay).1 (h+1) i low high k row (sZ u i up ay).2:=by
 obtain⟨p1,p2,p3,p4⟩:=m.place;have es:=m.same;have BN:=m.ok.idx;have aQ:=m.ins.ok;rw[m.ay] at aQ;obtain⟨o1,o2,o3,o4,o5⟩:=aQ;obtain⟨q1,q2,q3,q4,q5⟩:=m.ok;have hle:=m.ins.le;have Xe:=m.ins.more;have U:0<=i/\i<u.af.length:=⟨BN.1,by omega⟩
 have poT:=m.hp _ (jY q1);have po:eT (t.pg i) u.af.length:=poT.more w4;have hn:=(po.node q2).1;have ja:=m.hj;have hf:yg (bD (t.pg i) up ay) u.af.length:=Kv po p2 o1 (by rw[q3];exact p3.2) o5.idx.1 (fun _=>o5.idx.2);have I:(bD (t.pg i) up ay).kids=(t.pg i).kids.take j++((t.pg i).kids[j]'m.hj)::ay::(t.pg i).kids.drop (j+1):=by
  show iA _ (if (t.pg i).leaf=true then _ else _) ay=_;rw[if_neg (by rw[q2];decide),p1];exact QR m.hj ay
 have ak9:(bD (t.pg i) up ay).keys=iA (t.pg i).keys j up:=by
  show iA _ _ _=_;rw[p1]
 have Z:∀x∈(bD (t.pg i) up ay).keys,¬bC x low:=fun x hx=>by
  rcases vZ.1 hx with rfl|h
  ·exact p3.1
  exact q4 x h
 have hKT:jM t h low (t.pg i).kids (t.pg i).keys high:=(Cx poT).1 m.ok |>.2.2.2.2
 -- what is below,in any tree aub asF
 have below:∀{v:aE},py u v i->(∀x,x∈ids u h ((t.pg i).kids[j]'m.hj)++ids u h ay->v.pg x=u.pg x):=fun E x hx=>by
  refine m.below E x hx ?_ ?_
  ·rcases mem_append.1 hx with hx|hx
   ·exact(o4.ids x hx).1
   exact(o5.ids x hx).1
  rcases mem_append.1 hx with hx|hx
  ·exact(o4.ids x hx).2
  exact(o5.ids x hx).2
 have PR:∀{v:aE},py u v i->_:=fun {v} E=>frame (t:=u) (u:=v) h ((t.pg i).kids[j]'m.hj) (fun x hx=>below E x (mem_append_left _ hx));have PT:∀{v:aE},py u v i->_:=fun {v} E=>frame (t:=u) (u:=v) h ay (fun x hx=>below E x (mem_append_right _ hx));have hKV:∀{v:aE},py u v i->jM v h low (bD (t.pg i) up ay).kids (bD (t.pg i) up ay).keys high:=fun {v} E=>by
  have e1:(bD (t.pg i) up ay).kids=iA (t.pg i).kids (j+1) ay:=(by rw[I];exact(QR m.hj ay).symm)
  rw[e1,ak9];refine T0 j m.hj hKT (fun c hc lo hi aQ=>m.Vt E ?_ aQ) ?_ ?_
  ·rcases acG hc with hc|hc
   ·exact mem_append_left _ hc
   exact mem_append_right _ hc
  ·have:=o4.frame E.le (fun x hx=>below E x (mem_append_left _ hx));unfold iU at this;exact this
  have:=o5.frame E.le (fun x hx=>below E x (mem_append_right _ hx));unfold iE at this;rw[q3] at this;exact this
 have YD:∀{v:aE},py u v i->(bD (t.pg i) up ay).kids.flatMap (ids v h)=((t.pg i).kids.take j).flatMap (ids t h)++oU u h ((t.pg i).kids[j]'m.hj) (some (up,ay))++((t.pg i).kids.drop (j+1)).flatMap (ids t h):=fun {v} E=>by
  rw[I,J2 (fun x hx=>(m.rD E (mem_append_left _ hx)).1) (fun x hx=>(m.rD E (mem_append_right _ hx)).1),(PR E).1,(PT E).1];rfl
 have Xf:∀{v:aE},py u v i->(bD (t.pg i) up ay).kids.flatMap (ez v h)=((t.pg i).kids.take j).flatMap (ez t h)++G8 u h ((t.pg i).kids[j]'m.hj) (some (up,ay))++((t.pg i).kids.drop (j+1)).flatMap (ez t h):=fun {v} E=>by
  rw[I,J2 (fun x hx=>(m.rD E (mem_append_left _ hx)).2.1) (fun x hx=>(m.rD E (mem_append_right _ hx)).2.1),(PR E).2.1,(PT E).2.1];rfl
 have YE:∀{v:aE},py u v i->∀d,d<=h->(bD (t.pg i) up ay).kids.flatMap (cA v d)=((t.pg i).kids.take j).flatMap (cA t d)++uy u d ((t.pg i).kids[j]'m.hj) (some (up,ay))++((t.pg i).kids.drop (j+1)).flatMap (cA t d):=fun {v} E d hd=>by
  rw[I,J2 (fun x hx=>(m.rD E (mem_append_left _ hx)).2.2 d hd) (fun x hx=>(m.rD E (mem_append_right _ hx)).2.2 d hd),(PR E).2.2 d hd,(PT E).2.2 d hd];rfl
 have xF:=m.T2;have Dq:=m.Ww;have YF:∀x:Int,0<=x->x<t.af.length->x∉ids t (h+1) i->u.pg x=t.pg x/\x≠i:=fun x h0 hx hne=>by
  refine⟨m.ins.out x h0 hx fun hm=>hne ?_,fun e=>hne (by rw[e];exact u3 _ _)⟩;rw[m.ay] at hm;rw[ids];exact mem_cons_of_mem _ (mem_flatMap.2 ⟨_,getElem_mem _,hm⟩)
 by_cases h4:(bD (u.pg i) up ay).keys.length<=4
 ·rw[Kx h4];rw[es] at h4 |-;have ep:=Co U (bD (t.pg i) up ay);have E:py u (u.set i (bD (t.pg i) up ay)) i:=⟨by rw[pn];omega,fun x h0 hx hne=>xT U.1 h0 (Ne.symm hne) _⟩
  have qF:ids (u.set i (bD (t.pg i) up ay)) (h+1) i=i::(((t.pg i).kids.take j).flatMap (ids t h)++oU u h ((t.pg i).kids[j]'m.hj) (some (up,ay))++((t.pg i).kids.drop (j+1)).flatMap (ids t h)):=(by rw[ids,ep,YD E])
  refine⟨by rw[pn];omega,by rw[pn];omega,m.ins.root,by rw[pn];exact J0 m.ins.fU (hf.ok h4),fun x h0 hx hne=>?_,?_,fun x hx=>?_,?_,?_,fun x=>?_,fun d hd e hs=>?_⟩
  ·obtain⟨e1,e2⟩:=YF x h0 hx hne;rw[E.pg x h0 w4 e2,e1]
  ·show ee _ (h+1) i low high;refine(Cx (n:=u.af.length) (by rw[ep];exact hf.ok h4)).2 ?_;rw[ep];exact⟨by rw[pn];exact U,q2,q3,Z,hKV E⟩
  ·have qf:x∈ids (u.set i (bD (t.pg i) up ay)) (h+1) i:=hx;exact X8
  ·show(ids _ (h+1) i).Nodup;rw[qF,nodup_cons];exact⟨xF.2,xF.1⟩
  ·show(ids _ (h+1) i).length+_=_;rw[qF,length_cons,pn];exact Dq
  ·show x∈ez _ (h+1) i↔_;rw[ez,ep,Xf E];exact m.Lq x
  cases d with
  | zero=>exact⟨by show((u.set i _).pg i).next=e;rw[ep];exact hs,rfl⟩
  | succ d =>
   show fA _ (cA _ (d+1) i) e/\(cA _ (d+1) i).headD e=_;rw[cA,ep,YE E d w4];exact m.L9 E w4 hs
 have h5:(bD (t.pg i) up ay).keys.length=5:=(by rw[es] at h4;have:=hf.eU;omega)
 rw[J1 h4];rw[es] at h4 |-;have Ez:(bD (t.pg i) up ay).leaf=false:=q2;have ea:=RT U (eA (bD (t.pg i) up ay) u.af.length) (cy (bD (t.pg i) up ay));have eb:=T1 u i (eA (bD (t.pg i) up ay) u.af.length) (cy (bD (t.pg i) up ay));have E:py u (jO u i (eA (bD (t.pg i) up ay) u.af.length) (cy (bD (t.pg i) up ay))) i:=⟨by rw[qp];omega,fun x h0 hx hne=>Q9 U.1 ⟨h0,hx⟩ (Ne.symm hne) _ _⟩
 obtain⟨u1,u2⟩:=Vs hf.kI h5 Z;have Ey:iy (bD (t.pg i) up ay)∈(bD (t.pg i) up ay).keys:=(by rw[AA h5];exact getElem_mem _)
 have ff:=Wv hf h5 w4;have eJ:=Vr (m:=u.af.length+1) hf h5 w4;have uQ:=Q8 2 w4 (hKV E);rw[<-AA h5] at uQ;have IV:(eA (bD (t.pg i) up ay) u.af.length).kids=(bD (t.pg i) up ay).kids.take 3:=by
  show(bD (t.pg i) up ay).kids.take (if _ then _ else _)=_;rw[if_neg (by rw[Ez];decide)]
 have IW:(cy (bD (t.pg i) up ay)).kids=(bD (t.pg i) up ay).kids.drop 3:=by
  show(bD (t.pg i) up ay).kids.drop (if _ then _ else _)=_;rw[if_neg (by rw[Ez];decide)]
 have ehy:(cy (bD (t.pg i) up ay)).keys=(bD (t.pg i) up ay).keys.drop 3:=by
  show(bD (t.pg i) up ay).keys.drop (if _ then _ else _)=_;rw[if_neg (by rw[Ez];decide)]
 have O:∀{α:Type} (f:Int->List α),((bD (t.pg i) up ay).kids.take 3).flatMap f++((bD (t.pg i) up ay).kids.drop 3).flatMap f=(bD (t.pg i) up ay).kids.flatMap f:=fun f=>by rw[<-flatMap_append,take_append_drop]
 have qF:oU (jO u i (eA (bD (t.pg i) up ay) u.af.length) (cy (bD (t.pg i) up ay))) (h+1) i (some (iy (bD (t.pg i) up ay),(u.af.length:Int)))=(i::((bD (t.pg i) up ay).kids.take 3).flatMap (ids (jO u i (eA (bD (t.pg i) up ay) u.af.length) (cy (bD (t.pg i) up ay))) h))++((u.af.length:Int)::((bD (t.pg i) up ay).kids.drop 3).flatMap (ids (jO u i (eA (bD (t.pg i) up ay) u.af.length) (cy (bD (t.pg i) up ay))) h)):=by
  show ids _ (h+1) i++ids _ (h+1) _=_;rw[ids,ids,ea,eb,IV,IW]
 have pid:=(O (ids (jO u i (eA (bD (t.pg i) up ay) u.af.length) (cy (bD (t.pg i) up ay))) h)).trans (YD E);have anF:∀x∈((t.pg i).kids.take j).flatMap (ids t h)++oU u h ((t.pg i).kids[j]'m.hj) (some (up,ay))++((t.pg i).kids.drop (j+1)).flatMap (ids t h),x<u.af.length:=fun x hx=>by
  rcases mem_append.1 hx with hx|hx
  ·rcases mem_append.1 hx with hx|hx
   ·obtain⟨c,hc,hx⟩:=mem_flatMap.1 hx;obtain⟨a,ha,rfl⟩:=mem_iff_getElem.1 (mem_of_mem_take hc);have:=(q5 a ha).ids x hx;omega
   rcases mem_append.1 hx with hx|hx
   ·exact(o4.ids x hx).2
   exact(o5.ids x hx).2
  obtain⟨c,hc,hx⟩:=mem_flatMap.1 hx;obtain⟨a,ha,rfl⟩:=mem_iff_getElem.1 (mem_of_mem_drop hc);have:=(q5 a ha).ids x hx;omega
 refine⟨by rw[qp];omega,by rw[qp];omega,m.ins.root,?_,fun x h0 hx hne=>?_,⟨hf.me _ Ey,u1,fun hne=>?_,?_,?_⟩,fun x hx=>?_,?_,?_,fun x=>?_,fun d hd e hs=>?_⟩
 ·rw[qp];exact Ra m.ins.fU w4 ff eJ
 ·obtain⟨e1,e2⟩:=YF x h0 hx hne;rw[E.pg x h0 w4 e2,e1]
 ·have:=hf.rH (by show(t.pg i).high≠[];rw[q3];exact hne) _ Ey;rw[<-q3];exact this
 ·refine(Cx (n:=(u.af.length:Int)+1) (by rw[ea];exact ff)).2 ?_;rw[ea,IV];exact⟨by rw[qp];omega,Ez,rfl,fun x hx=>Z x (mem_of_mem_take hx),uQ.1⟩
 ·refine(Cx (n:=(u.af.length:Int)+1) (by rw[eb];exact eJ)).2 ?_;rw[eb,IW,ehy];refine⟨by rw[qp];omega,Ez,q3,fun x hx=>u2 x ?_,uQ.2⟩;rw[show 3=2+1 from rfl,<-drop_drop] at hx;exact mem_of_mem_drop hx
 ·rw[qF] at hx;have eL:x=i\/x=(u.af.length:Int)\/x∈((bD (t.pg i) up ay).kids.take 3).flatMap (ids (jO u i (eA (bD (t.pg i) up ay) u.af.length) (cy (bD (t.pg i) up ay))) h)++((bD (t.pg i) up ay).kids.drop 3).flatMap (ids (jO u i (eA (bD (t.pg i) up ay) u.af.length) (cy (bD (t.pg i) up ay))) h):=by
   rcases mem_append.1 hx with hx|hx
   ·rcases mem_cons.1 hx with h|h
    ·exact .inl h
    exact .inr (.inr (mem_append_left _ h))
   rcases mem_cons.1 hx with h|h
   ·exact .inr (.inl h)
   exact .inr (.inr (mem_append_right _ h))
  rw[pid] at eL;rcases eL with rfl|rfl|hx
  ·exact .inl (u3 _ _)
  ·exact .inr w4
  exact m.Wf x hx
 ·rw[qF];have hnd:=xF.1;rw[<-pid,nodup_append] at hnd;have qV:=xF.2;rw[<-pid] at qV;simp only[mem_append,not_or] at qV;have pN:∀x∈((bD (t.pg i) up ay).kids.take 3).flatMap (ids (jO u i (eA (bD (t.pg i) up ay) u.af.length) (cy (bD (t.pg i) up ay))) h)++((bD (t.pg i) up ay).kids.drop 3).flatMap (ids (jO u i (eA (bD (t.pg i) up ay) u.af.length) (cy (bD (t.pg i) up ay))) h),x<u.af.length:=fun x hx=>anF x (by rw[<-pid];exact hx);rw[nodup_append,nodup_cons,nodup_cons];refine⟨⟨qV.1,hnd.1⟩,⟨fun hm=>?_,hnd.2.1⟩,fun a ha b hb e=>?_⟩
  ·have:=pN _ (mem_append_right _ hm);omega
  subst e;rcases mem_cons.1 ha with rfl|ha
  ·rcases mem_cons.1 hb with hb|hb
   ·omega
   exact qV.2 hb
  rcases mem_cons.1 hb with rfl|hb
  ·have:=pN _ (mem_append_left _ ha);omega
  exact hnd.2.2 a ha a hb rfl
 ·rw[qF,qp];have:=congrArg length pid;rw[length_append] at this;rw[length_append,length_cons,length_cons];omega
 ·show x∈ez _ (h+1) i++ez _ (h+1) _↔_;rw[ez,ez,ea,eb,IV,IW,O,Xf E];exact m.Lq x
 cases d with
 | zero =>
  refine⟨?_,rfl⟩;show((jO u i _ _).pg i).next=_/\((jO u i _ _).pg _).next=e;rw[ea,eb];exact⟨rfl,hs⟩
 | succ d =>
  show fA _ (cA _ (d+1) i++cA _ (d+1) _) e/\(cA _ (d+1) i++cA _ (d+1) _).headD e=_;rw[cA,cA,ea,eb,IV,IW,O,YE E d w4];exact m.L9 E w4 hs
theorem GK:∀{h:Nat} {t:aE} (hp:∀p∈t.af,eT p t.af.length) {i:Int} {low high:K} (ok:ee t h i low high) (nd:(ids t h i).Nodup) {k:K} {row:Int} (hk:mw low high k) (hn:∀x∈ez t h i,x.1≠k) (hl:1<=k.length/\k.length<=100) (hr:0<=row),pO t (gX t k row h i).1 h i low high k row (gX t k row h i).2
 | 0,t,hp,i,low,high,ok,nd,k,row,hk,hn,hl,hr=>aga hp ok hk hn hl hr
 | h+1,t,hp,i,low,high,ok,nd,k,row,hk,hn,hl,hr=>by
  obtain⟨q1,q2,O,Z,U⟩:=id ok;have po:=hp _ (jY q1);obtain⟨d1,d2⟩:=down po q2 O hk;have E:=(xU d1 nd).1;have I:=GK (h:=h) hp (U _ d1) E d2 (fun x hx=>hn x MV) hl hr;rw[<-ve d1] at I;rw[gX];generalize gX t k row h ((t.pg i).kids.getD (aS (t.pg i) k) 0)=R at I;obtain⟨u,r⟩:=R;have m:jS t u h i low high (aS (t.pg i) k) k row r:=⟨hp,ok,nd,d1,d2,I⟩
  cases r with
  | none=>exact Kz m
  | some q=>obtain⟨up,ay⟩:=q;exact agb m
end
section
variable {t:aE} {h:Nat} {k:K} {row:Int}
variable {p:dc}
def lU(t:aE)(h:Nat):List (K×Int):=ez t h t.root
def ie(t:aE)(h:Nat)(k:K)(row:Int):aE:=ak8 (gX t k row h t.root)
def jE(u:aE)(up:K)(ay:Int):aE:=⟨u.af++[⟨false,[up],[u.root,ay],[],-1⟩],u.af.length⟩
theorem vf(u:aE)(up:K)(ay:Int):(jE u up ay).af.length=u.af.length+1:=by simp[jE]
theorem agc(u:aE)(up:K)(ay:Int):(jE u up ay).pg u.af.length=⟨false,[up],[u.root,ay],[],-1⟩:=by
 unfold aE.pg jE;rw[getD_eq_getElem?_getD,getElem?_append_right w4];simp
theorem agd{u:aE}{x:Int}(hx:0<=x/\x<u.af.length)(up:K)(ay:Int):(jE u up ay).pg x=u.pg x:=by
 unfold aE.pg jE;rw[getD_eq_getElem?_getD,getD_eq_getElem?_getD,getElem?_append_left w4]
theorem Valid.range(v:Valid t h):0<=t.root/\t.root<t.af.length:=v.ok.idx
theorem T3(hp:∀p∈t.af,eT p t.af.length):∀{h:Nat} {i:Int} {low high:K},ee t h i low high->h+1<=(ids t h i).length
 | 0,_,_,_,_=>by simp[ids]
 | h+1,i,low,high,⟨q1,q2,I,O,E⟩=>by
  have po:=hp _ (jY q1);have hn:=(po.node q2).1;have h0:0<(t.pg i).kids.length:=(by omega)
  have:=T3 hp (E 0 h0);rw[ids,length_cons,wc h0,flatMap_append,flatMap_cons,length_append,length_append];omega
theorem Valid.high(v:Valid t h):h<t.af.length:=by
 have:=T3 v.fU v.ok;rw[v.all] at this;omega
theorem aet(v:Valid t h)(hn:∀x∈lU t h,x.1≠k)(hl:1<=k.length/\k.length<=100)(hr:0<=row)(hm:t.af.length+(h+2)<=4000) :
  ∃h',(h<=h'/\h'<=h+1)/\Valid (ie t h k row) h'/\(t.af.length<=(ie t h k row).af.length/\(ie t h k row).af.length<=t.af.length+(h+2))/\∀x,x∈lU (ie t h k row) h'↔x=(k,row)\/x∈lU t h:=by
 have I:=GK v.fU v.ok v.Bj (vm k) hn hl hr;unfold ie;generalize gX t k row h t.root=R at I;obtain⟨u,r⟩:=R;have hle:t.af.length<=u.af.length:=I.le;have Xe:u.af.length<=t.af.length+(h+1):=I.more;have O:(oU u h t.root r).length+t.af.length=(ids t h t.root).length+u.af.length:=I.cnt;rw[v.all] at O;have auc:=v.pos;have E:u.root=t.root:=I.root;cases r with
 | none =>
  refine⟨h,⟨Nat.le_refl _,by omega⟩,⟨by show 1<=u.af.length;omega,by show u.af.length<=4000;omega,I.fU,?_,?_,?_,fun d hd=>?_⟩,⟨hle,by show u.af.length<=_;omega⟩,fun x=>?_⟩
  ·show ee u h u.root [] [];rw[E];exact I.ok
  ·show(ids u h u.root).Nodup;rw[E];exact I.nodup
  ·show(ids u h u.root).length=u.af.length;rw[E];have:(ids u h t.root).length+t.af.length=t.af.length+u.af.length:=O;omega
  ·show fA u (cA u d u.root) (-1);rw[E];exact(I.qK d hd (-1) (v.qK d hd)).1
  show x∈ez u h u.root↔_;rw[E];exact I.ez x
 | some q =>
  obtain⟨up,ay⟩:=q;obtain⟨o1,o2,o3,o4,o5⟩:(1<=up.length/\up.length<=100)/\bC [] up/\(([]:K)≠[]->bC up [])/\ee u h t.root [] up/\ee u h ay up []:=I.ok;have ho:∀x∈ids u h t.root++ids u h ay,(jE u up ay).pg x=u.pg x:=fun x hx=>by
   refine agd ?_ up ay;rcases mem_append.1 hx with hx|hx
   ·exact o4.ids x hx
   exact o5.ids x hx
  have f1:=frame (t:=u) (u:=jE u up ay) h t.root (fun x hx=>ho x (mem_append_left _ hx));have f2:=frame (t:=u) (u:=jE u up ay) h ay (fun x hx=>ho x (mem_append_right _ hx));have g1:ee (jE u up ay) h t.root [] up:=o4.frame (by rw[vf];omega) (fun x hx=>ho x (mem_append_left _ hx));have g2:ee (jE u up ay) h ay up []:=o5.frame (by rw[vf];omega) (fun x hx=>ho x (mem_append_right _ hx));have U:=agc u up ay;rw[E] at U;have hnd:=I.nodup;have qF:ids (jE u up ay) (h+1) u.af.length=(u.af.length:Int)::(ids u h t.root++ids u h ay):=by
   rw[ids,U];show _::([t.root,ay].flatMap (ids (jE u up ay) h))=_;rw[flatMap_cons,flatMap_cons,flatMap_nil,append_nil,f1.1,f2.1]
  have Z:eT (⟨false,[up],[t.root,ay],[],-1⟩:dc) (u.af.length+1:Nat):=by
   have i1:=o4.idx;have i2:=o5.idx;refine⟨by simp,by simp,by simp,by simp;omega,by simp,(fun h=>by cases h),fun _=>⟨rfl,by simp⟩,fun x hx=>?_,fun h=>absurd rfl h,by simp,fun x hx=>?_,fun _ x hx=>?_⟩
   ·have:x=up:=(by simpa using hx)
    subst this;exact o1
   ·have:x=t.root\/x=ay:=(by simpa using hx)
    rcases this with rfl|rfl
    ·exact i1.1
    exact i2.1
   have:x=t.root\/x=ay:=(by simpa using hx)
   rcases this with rfl|rfl<;>omega
  refine⟨h+1,⟨by omega,by omega⟩,⟨?_,?_,?_,?_,?_,?_,fun d hd=>?_⟩,⟨?_,?_⟩,fun x=>?_⟩
  ·show 1<=(jE u up ay).af.length;rw[vf];omega
  ·show(jE u up ay).af.length<=4000;rw[vf];omega
  ·show ∀p∈(jE u up ay).af,eT p (jE u up ay).af.length;rw[vf];intro p hp;rcases mem_append.1 hp with hp|hp
   ·have tu:eT p u.af.length:=I.fU p hp;exact tu.more w4
   rw[mem_singleton] at hp;subst hp;rw[E];exact Z
  ·show ee (jE u up ay) (h+1) u.af.length [] [];refine(Cx (n:=(u.af.length+1:Nat)) (by rw[U];exact Z)).2 ?_;rw[U];refine⟨by rw[vf];omega,rfl,rfl,fun x _=>L7 x,?_⟩;rw[rm,Cp];exact⟨g1,g2⟩
  ·show(ids (jE u up ay) (h+1) u.af.length).Nodup;rw[qF,nodup_cons];refine⟨fun hm=>?_,hnd⟩;rcases mem_append.1 hm with hm|hm
   ·have:=o4.ids _ hm;omega
   have:=o5.ids _ hm;omega
  ·show(ids (jE u up ay) (h+1) u.af.length).length=(jE u up ay).af.length;rw[qF,vf,length_cons];have:(ids u h t.root++ids u h ay).length+t.af.length=t.af.length+u.af.length:=O;omega
  ·show fA (jE u up ay) (cA (jE u up ay) d u.af.length) (-1);cases d with
   | zero=>show((jE u up ay).pg u.af.length).next = -1;rw[U]
   | succ d =>
    rw[cA,U];show fA _ ([t.root,ay].flatMap (cA (jE u up ay) d)) (-1);rw[flatMap_cons,flatMap_cons,flatMap_nil,append_nil,f1.2.2 d w4,f2.2.2 d w4];refine zU (fun x hx=>?_) (I.qK d w4 (-1) (v.qK d w4)).1;have qf:x∈cA u d t.root++cA u d ay:=hx;rw[ho x ?_];rcases mem_append.1 qf with qf|qf
    ·exact mem_append_left _ (tY h _ d w4 x qf)
    exact mem_append_right _ (tY h _ d w4 x qf)
  ·show t.af.length<=(jE u up ay).af.length;rw[vf];omega
  ·show(jE u up ay).af.length<=_;rw[vf];omega
  show x∈ez (jE u up ay) (h+1) u.af.length↔_;rw[ez,U];show x∈[t.root,ay].flatMap (ez (jE u up ay) h)↔_;rw[flatMap_cons,flatMap_cons,flatMap_nil,append_nil,f1.2.1,f2.2.1];exact I.ez x
theorem RU:Valid qH 0:=by
 refine⟨by decide,by decide,fun p hp=>?_,⟨by decide,rfl,rfl,fun k hk=>by cases hk⟩,by simp[ids],rfl,fun d hd=>?_⟩
 ·have:p=⟨true,[],[],[],-1⟩:=(by simpa[qH] using hp)
  subst this;exact⟨by simp,by simp,by simp,by simp[qH],by simp,fun _=>rfl,(fun h=>by cases h),(fun k hk=>by cases hk),(fun h=>absurd rfl h),by simp,(fun n hn=>by cases hn),(fun h=>by cases h)⟩
 obtain rfl:d=0:=(by omega)
 rfl
theorem age:lU qH 0=[]:=rfl
theorem FX(hl:p.kids.length=p.keys.length){a:Nat}(ha:a<p.keys.length):(fu p)[a]'(by unfold fu;rw[length_zip];omega)=(p.keys[a],p.kids[a]'w4):=by unfold fu;rw[getElem_zip]
theorem Ca(hl:p.kids.length=p.keys.length){x:K×Int}:x∈fu p↔∃a,∃(ha:a<p.keys.length),x=(p.keys[a],p.kids[a]'w4):=by
 constructor
 ·intro h;obtain⟨a,ha,e⟩:=mem_iff_getElem.1 h;have E:a<p.keys.length:=(by unfold fu at ha;rw[length_zip] at ha;omega)
  exact⟨a,E,by rw[<-e,FX hl E]⟩
 rintro⟨a,ha,rfl⟩;exact mem_iff_getElem.2 ⟨a,by unfold fu;rw[length_zip];omega,FX hl ha⟩
def CL(t:aE)(k:K)(h:Nat):Prop:=∃(ha:aS (t.pg (aJ t k h t.root)) k<(t.pg (aJ t k h t.root)).keys.length),(t.pg (aJ t k h t.root)).keys[aS (t.pg (aJ t k h t.root)) k]=k
theorem Valid.leaf(v:Valid t h)(k:K):(0<=aJ t k h t.root/\aJ t k h t.root<t.af.length)/\(t.pg (aJ t k h t.root)).leaf=true:=by
 obtain⟨_,_,_,_,_,_,_,h3,_⟩:=Cn v.fU v.ok (vm k);exact⟨h3.1,h3.2.1⟩
theorem found(v:Valid t h)(k:K)(row:Int):(k,row)∈lU t h↔∃(ha:aS (t.pg (aJ t k h t.root)) k<(t.pg (aJ t k h t.root)).keys.length),(t.pg (aJ t k h t.root)).keys[aS (t.pg (aJ t k h t.root)) k]=k/\(t.pg (aJ t k h t.root)).kids.getD (aS (t.pg (aJ t k h t.root)) k) 0=row:=by
 obtain⟨pre,post,lo,hi,e,h1,h2,h3,h4⟩:=Cn v.fU v.ok (vm k);have po:=v.fU _ (jY h3.1);have gg:=h3.2.1;have hlen:=po.leaf gg;unfold lU;rw[x6,e,flatMap_append,flatMap_cons];generalize I:t.pg (aJ t k h t.root)=p at *;have eP:aS p k=gS p.keys k:=(by unfold aS;rw[if_pos gg])
 rw[eP];simp only[mem_append];constructor
 ·rintro(hx|hx|hx)
  ·obtain⟨l,hl,hx⟩:=mem_flatMap.1 hx;exact absurd (h1 l hl _ hx) (kr k)
  ·obtain⟨a,ha,e2⟩:=(Ca hlen).1 hx;injection e2 with E O
   have:gS p.keys k=a:=by
    rcases Nat.lt_trichotomy (gS p.keys k) a with h5|h5|h5
    ·exfalso;have:=B9 (keys:=p.keys) (k:=k) w4;have h6:=oh po.kI h5 ha;rw[<-E] at h6;exact this h6
    ·exact h5
    have:=(Cl h5).2;rw[<-E] at this;exact absurd this (kr k)
   subst this;exact⟨ha,E.symm,by rw[getD_eq_getElem?_getD,getElem?_eq_getElem w4];exact O.symm⟩
  obtain⟨l,hl,hx⟩:=mem_flatMap.1 hx;exact absurd (h2 l hl _ hx) (kr k)
 rintro⟨ha,e1,e2⟩;refine .inr (.inl ((Ca hlen).2 ⟨_,ha,?_⟩));rw[getD_eq_getElem?_getD,getElem?_eq_getElem w4] at e2;rw[e1];congr 1;exact e2.symm
theorem Cb(v:Valid t h)(k:K):CL t k h↔∃row,(k,row)∈lU t h:=by
 constructor
 ·rintro⟨ha,e⟩;exact⟨_,(found v k _).2 ⟨ha,e,rfl⟩⟩
 rintro⟨row,hr⟩;obtain⟨ha,e,_⟩:=(found v k row).1 hr;exact⟨ha,e⟩
def mK(p:dc)(a:Nat):dc:={p with keys:=p.keys.eraseIdx a,kids:=p.kids.eraseIdx a}
def ig(t:aE)(h:Nat)(k:K):aE:=t.set (aJ t k h t.root) (mK (t.pg (aJ t k h t.root)) (aS (t.pg (aJ t k h t.root)) k))
theorem ajG{n:Int}(hp:eT p n)(hl:p.leaf=true){a:Nat}(ha:a<p.keys.length):eT (mK p a) n:=by
 have hlen:=hp.leaf hl;refine⟨?_,hp.hlen,hp.yD,hp.yh,hp.yE,fun _=>?_,fun h=>?_,fun k hk=>hp.me k ((eraseIdx_sublist _ _).subset hk),fun hne k hk=>hp.rH hne k ((eraseIdx_sublist _ _).subset hk),hp.kI.sublist (eraseIdx_sublist _ _),fun x hx=>hp.ay x ((eraseIdx_sublist _ _).subset hx),fun h=>?_⟩
 ·show(p.keys.eraseIdx a).length<=4;rw[length_eraseIdx_of_lt ha];have:=hp.eU;omega
 ·show(p.kids.eraseIdx a).length=(p.keys.eraseIdx a).length;rw[length_eraseIdx_of_lt ha,length_eraseIdx_of_lt w4,hlen]
 ·have:p.leaf=false:=h;rw[hl] at this;cases this
 have:p.leaf=false:=h;rw[hl] at this;cases this
theorem RV{α β:Type}:∀{a:List α} {b:List β} {n:Nat},(a.eraseIdx n).zip (b.eraseIdx n)=(a.zip b).eraseIdx n
 | [],_,n=>by simp
 | _::_,[],n=>by cases n<;>simp
 | x::a,y::b,0=>by simp
 | x::a,y::b,n+1=>by simp[RV (a:=a) (b:=b) (n:=n)]
theorem T4{q:dc}{l:Int}(hq:q.leaf=true)(Z:q.high=(t.pg l).high)(hx:q.next=(t.pg l).next)(hl:0<=l/\l<t.af.length)(gg:(t.pg l).leaf=true)(oW:∀k∈q.keys,k∈(t.pg l).keys):∀{h:Nat} {i:Int} {low high:K},ee t h i low high ->
  ee (t.set l q) h i low high/\ids (t.set l q) h i=ids t h i/\∀d,d<=h->cA (t.set l q) d i=cA t d i
 | 0,i,low,high,⟨q1,q2,E,I⟩=>by
  refine⟨?_,rfl,fun d hd=>by cases Nat.le_zero.1 hd;rfl⟩;by_cases e:l=i
  ·subst e;rw[ee,Co hl,pn];exact⟨q1,hq,by rw[Z];exact E,fun k hk=>I k (oW k hk)⟩
  rw[ee,xT hl.1 q1.1 e,pn];exact⟨q1,q2,E,I⟩
 | h+1,i,low,high,⟨q1,q2,E,I,q5⟩=>by
  have e:l≠i:=fun e=>by rw[e,q2] at gg;cases gg
  have O:=xT (t:=t) hl.1 q1.1 e q;have U:=fun j (hj:j<(t.pg i).kids.length)=>T4 hq Z hx hl gg oW (q5 j hj);refine⟨?_,?_,fun d hd=>?_⟩
  ·rw[ee,O,pn];exact⟨q1,q2,E,I,fun j hj=>(U j hj).1⟩
  ·rw[ids,ids,O];congr 1;refine sC fun c hc=>?_;obtain⟨j,hj,rfl⟩:=mem_iff_getElem.1 hc;exact(U j hj).2.1
  cases d with
  | zero=>rfl
  | succ d =>
   rw[cA,cA,O];refine sC fun c hc=>?_;obtain⟨j,hj,rfl⟩:=mem_iff_getElem.1 hc;exact(U j hj).2.2 d w4
theorem aeu(v:Valid t h)(ht:CL t k h):Valid (ig t h k) h/\(ig t h k).af.length=t.af.length/\∀x,x∈lU (ig t h k) h↔x∈lU t h/\x.1≠k:=by
 obtain⟨ha,hk⟩:=ht;obtain⟨hl,gg⟩:=v.leaf k;have po:=v.fU _ (jY hl);have hq:=ajG po gg ha;have hlen:=po.leaf gg;have S:=fun {i:Int} {low high:K} (ok:ee t h i low high)=>T4 (t:=t) (q:=mK (t.pg (aJ t k h t.root)) (aS (t.pg (aJ t k h t.root)) k)) (l:=aJ t k h t.root) gg rfl rfl hl gg (fun k hk=>(eraseIdx_sublist _ _).subset hk) ok;obtain⟨s1,s2,s3⟩:=S v.ok;have E:(ig t h k).af.length=t.af.length:=pn _ _ _;refine⟨⟨by rw[E];exact v.pos,by rw[E];exact v.oT,?_,s1,?_,?_,fun d hd=>?_⟩,E,fun x=>?_⟩
 ·rw[E];exact J0 v.fU hq
 ·show(ids (ig t h k) h t.root).Nodup;unfold ig;rw[s2];exact v.Bj
 ·show(ids (ig t h k) h t.root).length=_;rw[E];unfold ig;rw[s2];exact v.all
 ·show fA (ig t h k) (cA (ig t h k) d t.root) (-1);unfold ig;rw[s3 d hd];refine zU (fun y hy=>?_) (v.qK d hd);have I:=v.ok.ids y (tY h _ d hd y hy);by_cases e:aJ t k h t.root=y
  ·rw[<-e,Co hl];rfl
  rw[xT hl.1 I.1 e]
 obtain⟨pre,post,lo,hi,e,h1,h2,h3,h4⟩:=Cn v.fU v.ok (vm k);have eO:(cA t h t.root).Nodup->aJ t k h t.root∉pre/\aJ t k h t.root∉post:=fun hn=>by
  rw[e,nodup_append,nodup_cons] at hn;exact⟨fun hm=>hn.2.2 _ hm _ (mem_cons_self) rfl,hn.2.1.1⟩
 have ff:∀y∈pre,fu ((ig t h k).pg y)=fu (t.pg y)\/y=aJ t k h t.root:=fun y hy=>by
  by_cases e':aJ t k h t.root=y
  ·exact .inr e'.symm
  left;have I:=v.ok.ids y (tY h _ h (Nat.le_refl _) y (by rw[e];exact mem_append_left _ hy));unfold ig;rw[xT hl.1 I.1 e']
 have tq:∀y∈post,fu ((ig t h k).pg y)=fu (t.pg y)\/y=aJ t k h t.root:=fun y hy=>by
  by_cases e':aJ t k h t.root=y
  ·exact .inr e'.symm
  left;have I:=v.ok.ids y (tY h _ h (Nat.le_refl _) y (by rw[e];exact mem_append_right _ (mem_cons_of_mem _ hy)));unfold ig;rw[xT hl.1 I.1 e']
 have U:(k,(t.pg (aJ t k h t.root)).kids.getD (aS (t.pg (aJ t k h t.root)) k) 0)∈fu (t.pg (aJ t k h t.root)):=(Ca hlen).2 ⟨_,ha,by rw[hk,getD_eq_getElem?_getD,getElem?_eq_getElem w4];rfl⟩;have anG:aJ t k h t.root∉pre:=fun hm=>absurd (h1 _ hm _ U) (kr k);have Z:aJ t k h t.root∉post:=fun hm=>absurd (h2 _ hm _ U) (kr k);have ed:fu ((ig t h k).pg (aJ t k h t.root))=(fu (t.pg (aJ t k h t.root))).eraseIdx (aS (t.pg (aJ t k h t.root)) k):=by
  unfold ig;rw[Co hl];exact RV
 have fe:∀{A:List Int},(∀y∈A,fu ((ig t h k).pg y)=fu (t.pg y)\/y=aJ t k h t.root)->aJ t k h t.root∉A->A.flatMap (fun l=>fu ((ig t h k).pg l))=A.flatMap (fun l=>fu (t.pg l)):=fun {A} hA hn=>sC fun y hy=>(hA y hy).resolve_right fun e'=>hn (e' ▸ hy);have O:∀x:K×Int,x∈(fu (t.pg (aJ t k h t.root))).eraseIdx (aS (t.pg (aJ t k h t.root)) k)↔x∈fu (t.pg (aJ t k h t.root))/\x.1≠k:=fun x=>by
  rw[mem_eraseIdx_iff_getElem];constructor
  ·rintro⟨a,ha',hne,rfl⟩;refine⟨getElem_mem _,fun hc=>hne ?_⟩;have qL:a<(t.pg (aJ t k h t.root)).keys.length:=(by unfold fu at ha';rw[length_zip] at ha';omega)
   rw[FX hlen qL] at hc;have hc:(t.pg (aJ t k h t.root)).keys[a]=k:=hc;rcases Nat.lt_trichotomy a (aS (t.pg (aJ t k h t.root)) k) with h5|h5|h5
   ·have:=oh po.kI h5 ha;rw[hc,hk] at this;exact absurd this (kr k)
   ·exact h5
   have:=oh po.kI h5 qL;rw[hc,hk] at this;exact absurd this (kr k)
  rintro⟨hx,hne⟩;obtain⟨a,qL,rfl⟩:=(Ca hlen).1 hx;refine⟨a,by unfold fu;rw[length_zip];omega,fun e'=>hne ?_,FX hlen qL⟩;subst e';exact hk
 show x∈ez (ig t h k) h t.root↔x∈ez t h t.root/\_;rw[x6,x6];have anH:cA (ig t h k) h t.root=cA t h t.root:=s3 h (Nat.le_refl _);rw[anH,e,flatMap_append,flatMap_cons,flatMap_append,flatMap_cons,fe ff anG,fe tq Z,ed];simp only[mem_append,O];constructor
 ·rintro(hx|hx|hx)
  ·refine⟨.inl hx,fun hc=>?_⟩;obtain⟨l,lj,hx⟩:=mem_flatMap.1 hx;have:=h1 l lj x hx;rw[hc] at this;exact kr k this
  ·exact⟨.inr (.inl hx.1),hx.2⟩
  refine⟨.inr (.inr hx),fun hc=>?_⟩;obtain⟨l,lj,hx⟩:=mem_flatMap.1 hx;have:=h2 l lj x hx;rw[hc] at this;exact kr k this
 rintro⟨hx|hx|hx,hne⟩
 ·exact .inl hx
 ·exact .inr (.inl ⟨hx,hne⟩)
 exact .inr (.inr hx)
end
def uz(lv:List (List Int))(n:Nat):List (List Int):=lv++replicate (n-lv.length) []
def lC(lv:List (List Int))(level:Nat)(i:Int):List (List Int):=(uz lv (level+1)).set level ((uz lv (level+1)).getD level []++[i])
abbrev jT:=List Int×List (List Int)
def mH(go:Int->K->K->jT->Option (Nat×jT))(low:K)(p:dc):List Int->Nat->Option Nat->jT->Option (Nat×jT)
 | [],_,deep,s=>deep.map fun d=>(d,s)
 | c::cs,k,deep,s=>match go c (iU low p k) (iE p k) s with
  | none=>none
  | some (d,s')=>if deep=none\/deep=some d then mH go low p cs (k+1) (some d) s' else none
def jP(t:aE):Nat->Int->K->K->Nat->jT->Option (Nat×jT)
 | 0,_,_,_,_,_=>none
 | f+1,i,low,high,level,s =>
  if i∈s.1 then none
  else if (t.pg i).high≠high\/(∃k,(t.pg i).keys.head?=some k/\bC k low) then none
  else if (t.pg i).leaf=true then some (level,(s.1++[i],lC s.2 level i))
  else mH (fun c lo hi s=>jP t f c lo hi (level+1) s) low (t.pg i) (t.pg i).kids 0 none (s.1++[i],lC s.2 level i)
def wA(t:aE):Prop:=∀p∈t.af,eT p t.af.length
open Classical in
noncomputable def gZ(t:aE):Int :=
 if t.af.length<1\/t.af.length>4000\/t.root<0\/t.root>=t.af.length then 11
 else if ¬wA t then 11
 else match jP t (t.af.length+1) t.root [] [] 0 ([],[]) with
  | none=>11
  | some (_,s)=>if s.1.length≠t.af.length then 11 else if ∀l∈s.2,fA t l (-1) then 0 else 11
theorem T5(lv:List (List Int))(n:Nat):(uz lv n).length=max lv.length n:=by unfold uz;rw[length_append,length_replicate];omega
theorem Lr(lv:List (List Int))(n m:Nat):(uz lv n).getD m []=lv.getD m []:=by
 unfold uz;rw[getD_eq_getElem?_getD,getD_eq_getElem?_getD];rcases Nat.lt_or_ge m lv.length with h|h
 ·rw[getElem?_append_left h]
 rw[getElem?_append_right h,getElem?_eq_none h,getElem?_replicate];split<;>rfl
theorem KA(lv:List (List Int))(level:Nat)(i:Int):(lC lv level i).length=max lv.length (level+1):=by unfold lC;rw[length_set,T5]
theorem Gm(lv:List (List Int))(level:Nat)(i:Int)(m:Nat):(lC lv level i).getD m []=lv.getD m []++(if m=level then [i] else []):=by
 unfold lC;rw[getD_eq_getElem?_getD];by_cases e:m=level
 ·subst e;rw[getElem?_set_self (by rw[T5];omega),Lr,if_pos rfl];rfl
 rw[getElem?_set_ne (fun h=>e h.symm),if_neg e,append_nil,<-getD_eq_getElem?_getD,Lr]
def yu(t:aE)(h level:Nat)(i:Int)(m:Nat):List Int:=if level<=m/\m<=level+h then cA t (m-level) i else []
variable {t:aE}
theorem T6 {h level:Nat} {low:K} {p:dc} (go:Int->K->K->jT->Option (Nat×jT))
  (O:∀(c:Int) (lo hi:K) (s:jT),ee t h c lo hi->(∀x∈ids t h c,x∉s.1)->(ids t h c).Nodup->∃lv,go c lo hi s=some (level+1+h,(s.1++ids t h c,lv))/\lv.length=max s.2.length (level+1+h+1)/\∀m,lv.getD m []=s.2.getD m []++yu t h (level+1) c m) :
  ∀(cs:List Int) (k:Nat) (deep:Option Nat) (s:jT),(∀j (hj:j<cs.length),ee t h cs[j] (iU low p (k+j)) (iE p (k+j)))->(cs.flatMap (ids t h)).Nodup->(∀x∈cs.flatMap (ids t h),x∉s.1)->(deep=none\/deep=some (level+1+h))->(cs≠[]\/deep≠none) ->
   ∃lv,mH go low p cs k deep s=some (level+1+h,(s.1++cs.flatMap (ids t h),lv))/\lv.length=(if cs=[] then s.2.length else max s.2.length (level+1+h+1))/\∀m,lv.getD m []=s.2.getD m []++(if level+1<=m/\m<=level+1+h then cs.flatMap (cA t (m-(level+1))) else [])
 | [],k,deep,s,_,_,_,hd,hne=>by
  rcases hd with rfl|rfl
  ·rcases hne with h|h<;>exact absurd rfl h
  exact⟨s.2,by simp[mH],by simp,fun m=>by split<;>simp⟩
 | c::cs,k,deep,s,aQ,hnd,E,hd,_=>by
  rw[flatMap_cons] at hnd E;rw[nodup_append] at hnd;obtain⟨n1,n2,n3⟩:=hnd;obtain⟨I,e1,l1,m1⟩:=O c (iU low p k) (iE p k) s (aQ 0 bp) (fun x hx=>E x (mem_append_left _ hx)) n1;obtain⟨U,e2,l2,m2⟩:=T6 go O cs (k+1) (some (level+1+h)) (s.1++ids t h c,I) (fun j hj=>by
   have:=aQ (j+1) (by simpa using hj);simp only[getElem_cons_succ] at this;rw[show k+1+j=k+(j+1) by omega];exact this) n2 (fun x hx hm=>by
    rcases mem_append.1 hm with hm|hm
    ·exact E x (mem_append_right _ hx) hm
    exact n3 x hm x hx rfl) (.inr rfl) (.inr bp)
  refine⟨U,?_,?_,fun m=>?_⟩
  ·rw[mH,e1];show(if deep=none\/deep=some (level+1+h) then _ else _)=_;rw[if_pos hd,e2,flatMap_cons,append_assoc]
  ·rw[l2];show(if cs=[] then I.length else max I.length _)=_;rw[l1,if_neg (cons_ne_nil c cs)];split<;>omega
  rw[m2,m1];unfold yu;split
  ·rw[flatMap_cons,append_assoc]
  simp
theorem Wx(hp:∀p∈t.af,eT p t.af.length):∀{h f:Nat} {i:Int} {low high:K} {level:Nat} {s:jT},h<f->ee t h i low high->(∀x∈ids t h i,x∉s.1)->(ids t h i).Nodup ->
  ∃lv,jP t f i low high level s=some (level+h,(s.1++ids t h i,lv))/\lv.length=max s.2.length (level+h+1)/\∀m,lv.getD m []=s.2.getD m []++yu t h level i m
 | h,0,_,_,_,_,_,hf,_,_,_=>by omega
 | 0,f+1,i,low,high,level,s,hf,ok,E,hnd=>by
  obtain⟨q1,q2,O,U⟩:=ok;refine⟨lC s.2 level i,?_,KA _ _ _,fun m=>?_⟩
  ·rw[jP,if_neg (E i (u3 0 i)),if_neg,if_pos q2];rfl;rintro(h|⟨k,hk,aa⟩)
   ·exact h O
   exact U k (mem_of_mem_head? hk) aa
  rw[Gm];unfold yu;congr 1;by_cases e:m=level
  ·subst e;rw[if_pos rfl,if_pos ⟨Nat.le_refl _,Nat.le_refl _⟩,Nat.sub_self];rfl
  rw[if_neg e,if_neg w4]
 | h+1,f+1,i,low,high,level,s,hf,ok,E,hnd=>by
  obtain⟨q1,q2,O,U,Z⟩:=ok;have po:=hp _ (jY q1);have I:(t.pg i).kids≠[]:=fun e=>by have:=(po.node q2).1;rw[e] at this;simp at this
  rw[ids,nodup_cons] at hnd;rw[ids] at E;obtain⟨lv,e,l,mm⟩:=T6 (t:=t) (h:=h) (level:=level) (low:=low) (p:=t.pg i) (fun c lo hi s=>jP t f c lo hi (level+1) s)
   (fun c lo hi s ok hd hn=>Wx hp (h:=h) (f:=f) (level:=level+1) w4 ok hd hn) (t.pg i).kids 0 none (s.1++[i],lC s.2 level i) (fun j hj=>by rw[Nat.zero_add];exact Z j hj) hnd.2 (fun x hx hm=>by
    rcases mem_append.1 hm with hm|hm
    ·exact E x (mem_cons_of_mem _ hx) hm
    rw[mem_singleton] at hm;subst hm;exact hnd.1 hx) (.inl rfl) (.inl I)
  refine⟨lv,?_,?_,fun m=>?_⟩
  ·rw[jP,if_neg (E i mem_cons_self),if_neg,if_neg (by rw[q2];decide),e,ids]
   ·simp;omega
   rintro(h|⟨k,hk,aa⟩)
   ·exact h O
   exact U k (mem_of_mem_head? hk) aa
  ·rw[l,if_neg I];show max (lC s.2 level i).length _=_;rw[KA];omega
  rw[mm];show(lC s.2 level i).getD m []++_=_;rw[Gm];unfold yu;rw[append_assoc];congr 1;by_cases e1:m=level
  ·subst e1;rw[if_pos rfl,if_neg w4,if_pos ⟨Nat.le_refl _,by omega⟩,Nat.sub_self];rfl
  rw[if_neg e1,nil_append];by_cases e2:level+1<=m/\m<=level+1+h
  ·rw[if_pos e2,if_pos w4];obtain⟨d,rfl⟩:∃d,m=level+1+d:=⟨m-(level+1),by omega⟩
   rw[show level+1+d-(level+1)=d by omega,show level+1+d-level=d+1 by omega,cA]
  rw[if_neg e2,if_neg w4]
open Classical in
theorem KB{h:Nat}(v:Valid t h):gZ t=0:=by
 have hr:=v.range;have E:=v.pos;have hm:=v.oT;unfold gZ;rw[if_neg w4,if_neg (by exact fun hn=>hn v.fU)];obtain⟨lv,e,l,I⟩:=Wx v.fU (f:=t.af.length+1) (level:=0) (s:=([],[])) (by have:=v.high;omega) v.ok (fun x _ hx=>by cases hx) v.Bj;rw[e];show(if ([]++ids t h t.root).length≠t.af.length then _ else if ∀l∈lv,fA t l (-1) then (0:Int) else 11)=0;rw[if_neg (by rw[nil_append,v.all];simp),if_pos];intro x hx;obtain⟨m,qX,rfl⟩:=mem_iff_getElem.1 hx;have:=I m;rw[getD_eq_getElem?_getD,getElem?_eq_getElem qX] at this;have e2:lv[m]=yu t h 0 t.root m:=(by simpa using this)
 rw[e2];unfold yu;rw[l] at qX;rw[if_pos (by simp at qX;omega),Nat.sub_zero];exact v.qK m (by simp at qX;omega)
end Tr
end Go.Proofs.YtbplamgacibdaaaGreatDoor
