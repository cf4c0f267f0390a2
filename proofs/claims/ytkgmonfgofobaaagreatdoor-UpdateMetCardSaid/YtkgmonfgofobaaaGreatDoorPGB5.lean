/-
  GB: walks and plain facts, part 5.
-/
import Derived.Test.YtkgmonfgofobaaaGreatDoorPGB4
set_option linter.unusedVariables false
set_option linter.unusedSimpArgs false
set_option maxRecDepth 100000
set_option maxHeartbeats 4000000
namespace Go.Proofs.YtkgmonfgofobaaaGreatDoor.Ex
open List
open Go.Proofs.Tryz
open Go.RowKit V Pk Vl Go.Proofs.YtkgmonfgofobaaaGreatDoor.Nm Pc
variable {a b:Vl} {l:List cx} {row:List Vl} {ops:List aS}
def gj(l:List cx)(row:List Vl)(o:aS)(a b:Vl):Vl×Int :=
 if bK o.k=1 then uc o.k a else if bK o.k=2 then iB o.k a b else if o.k=2 then (row.getD (bz l o.nm).toNat bu,0) else (o.v,0)
def vk(l:List cx)(row:List Vl)(ops:List aS):Vl×Int:=jE bu (gj l row) ops []
def dZ(l:List cx)(row:List Vl)(ops:List aS):Vl×Int :=
 if dR l row≠0 then (bu,dR l row) else if (dm l ops).2≠0 then (bu,(dm l ops).2) else vk l row ops
theorem rH:bu.Ok:=⟨by decide,by decide,by decide,by decide,Nat.zero_le _⟩
theorem Rm(b:Bool):(qG b).Ok:=by unfold qG;split<;>exact⟨by decide,by decide,by decide,by decide,Nat.zero_le _⟩
theorem ok_int{n:Int}(h:-9223372036854775808≤n∧n≤9223372036854775807):(⟨2,n,⟨#[]⟩⟩:Vl).Ok:=⟨by show -9223372036854775808≤(2:Int);decide,by show(2:Int)≤_;decide,h.1,h.2,Nat.zero_le _⟩
theorem ada{d:Int}(oa:a.Ok)(ob:b.Ok):(lB a b d).1.Ok:=by
 unfold lB;repeat' split
 all_goals first|exact rH|exact oa|exact ob
theorem ok_two{k:Int}(oa:a.Ok)(ob:b.Ok):(iB k a b).1.Ok:=by
 unfold iB;repeat' split
 all_goals first|exact rH|exact ada oa ob|exact Rm _|skip
 unfold pS;repeat' split
 all_goals exact ok_int (ah4 _)
theorem ok_one{k:Int}(oa:a.Ok):(uc k a).1.Ok:=by
 unfold uc;repeat' split
 all_goals first|exact rH|exact oa|exact Rm _
theorem TC(hr:∀v∈row,v.Ok){o:aS}(ho:o.v.Ok)(oa:a.Ok)(ob:b.Ok):(gj l row o a b).1.Ok:=by
 unfold gj;split
 ·exact ok_one oa
 split
 ·exact ok_two oa ob
 split
 ·show(row.getD _ bu).Ok;rw[getD_eq_getElem?_getD];cases h:row[(bz l o.nm).toNat]? with
  | none=>exact rH
  | some v=>exact hr v (mem_of_getElem? h)
 exact ho
theorem JY{st:List Vl}(h:∀v∈st,v.Ok)(j:Nat):(st.getD j bu).Ok:=by
 rw[getD_eq_getElem?_getD];cases hj:st[j]? with
 | none=>exact rH
 | some v=>exact h v (mem_of_getElem? hj)
theorem JZ{st:List Vl}(h:∀v∈st,v.Ok)(k:Int):(fp bu k st).Ok:=by unfold fp;split;exact JY h _;exact rH
theorem J0{st:List Vl}(h:∀v∈st,v.Ok)(k:Int):(fq bu k st).Ok:=by unfold fq;split;exact JY h _;exact rH
theorem PU{α:Type}{z:α}{f:aS→α→α→α × Int}:∀{l:List aS} {st:List α},(jE z f l st).2=0→∀o∈l,∃a b,(f o a b).2=0
 | [],_,_,o,ho=>by cases ho
 | x::r,st,h,o,ho=>by
  rw[jE] at h;split at h
  ·rename_i hne;exact absurd h hne
  rename_i he;rcases mem_cons.1 ho with rfl|ho
  ·exact⟨_,_,Classical.not_not.1 he⟩
  exact PU h o ho
theorem PV(h:(tZ l ops).2=0):∀o∈ops,o.k=2→0≤bz l o.nm:=fun o ho hk=>by
 obtain⟨a,b,he⟩:=PU h o ho;unfold jm at he;rw[if_neg w4,if_pos hk] at he;unfold u6 at he;split at he
 ·cases he
 omega
theorem JN(h:dR l row=0):row.length=l.length:=by
 unfold dR at h;split at h
 ·rename_i h1;exact absurd h h1
 split at h
 ·cases h
 omega
theorem Fp(h:(dm l ops).2=0):fO l=0∧ij ops=0∧dm l ops=tZ l ops:=by
 unfold dm at h ⊢;split at h
 ·rename_i h1;exact absurd h h1
 rename_i h1;split at h
 ·rename_i h2;exact absurd h h2
 rename_i h2;exact⟨Classical.not_not.1 h1,Classical.not_not.1 h2,by rw[if_neg h1,if_neg h2]⟩
variable {G:List (Nat×List Value)}
theorem abp(l:List cx)(hl:l.length≤6)(row:List Vl)(rm:row.length=l.length)(o:aS)(I:o.k=2→0≤bz l o.nm)(a b a' b':Vl)(ha:a=a')(hb:b=b')(oa:a.Ok)(ob:b.Ok)(br bc:Nat):VC Tryz.prog G 74 [.agg (cO o),.agg (cV a'),.agg (cV b'),cU br,cU bc] [⟨br,43,1,[au 3 cV row]⟩,⟨bc,29,1,[au 2 cC l]⟩] (fun r S=>r=mI (gj l row o a b)∧S=[⟨br,43,1,[au 3 cV row]⟩,⟨bc,29,1,[au 2 cC l]⟩]):=by
 refine VC.body func74 rfl ntmps74 aQ fun X0 w0 bf=>?_;subst ha hb;have ng:=agJ (G:=G) o.k a;have E:=agK (G:=G) o.k a b oa ob;unfold mI at ng E ⊢;unfold cV at ng E;unfold cO cV;have U:=wz (fun c:cx=>c.n.toList==o.nm.toList) l;have O:bz l o.nm=dA (fun c:cx=>c.n.toList==o.nm.toList) l:=rfl;rw[←O] at U;clear O;refine bS ?_;refine OD.box (ds:=[_,_,_,_,_]) ap rfl rfl ot rfl rfl (fun b5=>?_);refine OD.box (ds:=[_,_,_]) ap rfl rfl ot rfl rfl (fun b6=>?_);refine OD.box (ds:=[_,_,_]) ap rfl rfl ot rfl rfl (fun b7=>?_);refine OD.alloc (ds:=[_,_,_]) ap rfl rfl zeroValue33 rfl (fun b8=>?_);refine an 42 [3,4,5,6,7,8] ?_;refine cL [3,4,5,6,7,8,12] (EO o.k) ?_;refine af [3,4,5,6,7,8,12,13] ?_;refine ax ?_ ?_<;>intro aO bA
 ·have aW:gj l row o a b=uc o.k a:=(by unfold gj;rw[if_pos w4])
  refine aA 3 ?_;refine dO call76 (ng) ?_;refine aG 2 ?_;exact M3
 refine af [3,4,5,6,7,8,21] ?_;refine ax ?_ ?_<;>intro aY cz
 ·have aW:gj l row o a b=iB o.k a b:=(by unfold gj;rw[if_neg w4,if_pos w4])
  refine aA 4 ?_;refine dO call77 (E) ?_;refine aG 2 ?_;exact M3
 refine af [3,4,5,8,32] ?_;refine ax ?_ ?_<;>intro cc cN
 ·have fF:o.k=2:=(by omega)
  have aO:=I fF;have Z:(bz l o.nm).toNat<row.length:=(by omega)
  have aW:gj l row o a b=(row[(bz l o.nm).toNat],0):=(by unfold gj;rw[if_neg w4,if_neg w4,if_pos fF,getD_eq_getElem?_getD,getElem?_eq_getElem Z];rfl)
  refine CD.seq ?_;refine nD 7 [8,39] ?_;refine cJ (qF l hl o.nm) ?_;refine bD ?_;exact M3
 have aW:gj l row o a b=(o.v,0):=(by unfold gj;rw[if_neg w4,if_neg w4,if_neg w4])
 refine aA 2 ?_;refine aM 0 [_,_,_] sizeOf33 ?_;refine an 42 [8,9] ?_;exact VS
theorem aam:(Tryz.prog.info? 33).map (fun i=>(i.zero,i.size,i.bytes))=some (some (.agg #[.int .i64 0,.int .i64 0,.string ⟨#[]⟩]),3,32):=by kernel_rfl
theorem adb(l:List cx)(hl:l.length≤6)(row:List Vl)(rm:row.length=l.length)(L9:∀v∈row,v.Ok)(ops:List aS)(fT:∀o∈ops,o.v.Ok)(akq:∀o∈ops,o.k=2→0≤bz l o.nm)(pG:ops.length≤40)(hx:fP 0 ops=0)(br bc:Nat):VC Tryz.prog G 73 [au 5 cO ops,.eA (.func 74) [cU br,cU bc]] [⟨br,43,1,[au 3 cV row]⟩,⟨bc,29,1,[au 2 cC l]⟩] (fun r S=>r=mI (vk l row ops)∧S=[⟨br,43,1,[au 3 cV row]⟩,⟨bc,29,1,[au 2 cC l]⟩]):=by
 refine VC.body func73 rfl ntmps73 aQ fun X0 w0 bf=>?_;unfold mI;refine bS ?_;refine OD.alloc (ds:=[_,_,_]) ap rfl rfl zeroValue33 rfl (fun b4=>?_);refine an 64 [0,1,4] ?_;refine bS ?_;refine OD.alloc (ds:=[_,_,_]) ap rfl rfl zeroValue33 rfl (fun b6=>?_);refine OD.perm (I7 (k:=2) (k':=2) rfl rfl) ?_;refine an 64 [0,1,4,6] ?_;refine bS ?_;refine bp [0,1,4,6,7] ?_;refine af [1,4,6,7,16,17,18] ?_;refine CD.block ?_;refine ni (fun (iO:Nat×List Vl×Option Addr×Nat×List ah) aD=>match iO with|(i,st,I,E,Sh)=>(i≤ops.length)∧(st.length≤i)∧(fP ((st.length:Nat):Int) (ops.drop i)=0)∧(vk l row ops=jE bu (gj l row) (ops.drop i) st)∧(∀v∈st,v.Ok)∧(bg 33 3 ((st).flatMap cV) (st).length I E Sh)∧aD=(⟨64,[(1,.eA (.func 74) [cU br,cU bc]),(4,cU b4),(6,cU b6),(7,aN I (st).length E),(16,au 5 cO ops),(17,ae (ops.length:Nat)),(18,ae (i:Nat))],(⟨br,43,1,[au 3 cV row]⟩::⟨bc,29,1,[au 2 cC l]⟩::⟨b6,33,3,[ae 0,ae 0,fk]⟩::⟨b4,33,3,[ae 0,ae 0,fk]⟩::Sh)⟩:St)) (fun (iO:Nat×List Vl×Option Addr×Nat×List ah)=>match iO with|(i,st,I,E,Sh)=>ops.length-i) (0,[],none,0,[]) ⟨(Nat.zero_le _),(Nat.zero_le _),hx,rfl,(fun v hv=>by cases hv),(bg.cast iz k8),rfl⟩ (aJ (h:=by repeat (first|exact trivial|refine⟨GS,?_⟩))) ?_;rintro⟨i,st,I,E,Sh⟩ _ ⟨hi,fL,hex,hinv,aV,U,rfl⟩;refine af [1,4,6,7,16,17,18,19] ?_;refine ax ?_ ?_<;>intro aO bA
 ·have aa:i<ops.length:=(by omega)
  obtain⟨he,yo⟩:=PS aa hex;obtain⟨rV,We,yp,AK⟩:=wo he;have yj:=tP ops[i].k;have pI:(st.take (st.length-(bK ops[i].k).toNat)++[(gj l row ops[i] (fp bu ops[i].k st) (fq bu ops[i].k st)).1]).length=st.length+1-(bK ops[i].k).toNat:=(by rw[length_append,length_take,length_singleton];omega)
  have nf:fP (((st.take (st.length-(bK ops[i].k).toNat)++[(gj l row ops[i] (fp bu ops[i].k st) (fq bu ops[i].k st)).1]).length:Nat):Int) (ops.drop (i+1))=0:=(by rw[pI,show(((st.length+1-(bK ops[i].k).toNat:Nat)):Int)=(st.length:Int)+(1-bK ops[i].k) by omega];exact yo)
  have akr:∀v∈st.take (st.length-(bK ops[i].k).toNat)++[(gj l row ops[i] (fp bu ops[i].k st) (fq bu ops[i].k st)).1],v.Ok:=fun v hv=>by rcases mem_append.1 hv with hv|hv;exact aV v (mem_of_mem_take hv);rw[mem_singleton] at hv;rw[hv];exact TC L9 (fT _ (getElem_mem aa)) (JZ aV _) (J0 aV _)
  refine aA 2 ?_;refine OD.alloc (ds:=[_,_,_,_,_]) ap rfl rfl zeroValue35 rfl (fun b9=>?_);refine aM 0 [_,_,_,_,_] sizeOf35 ?_;refine an 64 [1,4,6,7,9,16,17,18] ?_;refine bS ?_;refine OD.alloc (ds:=[_,_,_]) ap rfl rfl zeroValue33 rfl (fun j6=>?_);refine OD.alloc (ds:=[_,_,_]) ap rfl rfl zeroValue33 rfl (fun kN=>?_);refine an 64 [1,4,6,7,9,10,11,16,17,18] ?_;refine cL [1,4,6,7,9,10,11,12,16,17,18] (EO ops[i].k) ?_;refine af [1,4,6,7,9,10,11,12,13,16,17,18] ?_;refine iv [1,4,6,9,10,11,12,13,16,17,18] (fun aR _ aD=>∃(va:Vl),∃(I:Option Addr),∃(E:Nat),∃(Sh:List ah),(fp bu ops[i].k st=va)∧(bg 33 3 (st.flatMap cV) st.length I E Sh)∧aD=(⟨64,(7,aN I st.length E)::aR,(⟨kN,33,3,[ae 0,ae 0,fk]⟩::⟨j6,33,3,[ae va.k,ae va.n,aZ va.s]⟩::⟨b9,35,5,[ae ops[i].k,ae ops[i].v.k,ae ops[i].v.n,aZ ops[i].v.s,aZ ops[i].nm]⟩::⟨br,43,1,[au 3 cV row]⟩::⟨bc,29,1,[au 2 cC l]⟩::⟨b6,33,3,[ae 0,ae 0,fk]⟩::⟨b4,33,3,[ae 0,ae 0,fk]⟩::Sh)⟩:St)) ?_ ?_
  ·refine af [1,4,6,7,9,10,11,12,13,16,17,18,30] ?_;refine ax ?_ ?_<;>intro aY cz
   ·obtain⟨bh,rfl,Z,O,rfl⟩:=U.pos w4;have uE:(st.length-(bK ops[i].k).toNat)<st.length:=(by omega)
    have ha:fp bu ops[i].k st=st[(st.length-(bK ops[i].k).toNat)]:=(by unfold fp;rw[if_pos w4,getD_eq_getElem?_getD,getElem?_eq_getElem uE];rfl)
    refine dG 2 ?_;refine bQ (dw 3 (h:=by first|exact .l (j:=(st.length-(bK ops[i].k).toNat)) w4 w4|exact .r (j:=(st.length-(bK ops[i].k).toNat)) w4 w4)) ?_;refine bQ (cR (mk:=Op.load 33) rfl ot (dy (k:=7) eZ rfl rfl rfl isAgg33 sizeOf33 uE)) ?_;refine aM 1 [_,_,_] sizeOf33 ?_;refine an 64 [1,4,6,7,9,10,11,12,13,16,17,18] ?_;refine⟨_,aJ,(st[(st.length-(bK ops[i].k).toNat)]),(some ⟨bh,0,none⟩),E,[⟨bh,33,E*3,flatMap cV st⟩],ha,(bM (g:=cV) (ls:=st) Z O),rfl⟩
   have ha:fp bu ops[i].k st=bu:=(by unfold fp;rw[if_neg w4])
   refine CD.skip ?_;refine⟨_,aJ,bu,I,E,Sh,ha,U,rfl⟩
  rintro _ ⟨va,I,E,Sh,ha,U,rfl⟩;refine iv [1,4,6,9,10,11,13,16,17,18] (fun aR _ aD=>∃(vb:Vl),∃(I:Option Addr),∃(E:Nat),∃(Sh:List ah),(fq bu ops[i].k st=vb)∧(bg 33 3 (st.flatMap cV) st.length I E Sh)∧aD=(⟨64,(7,aN I st.length E)::aR,(⟨kN,33,3,[ae vb.k,ae vb.n,aZ vb.s]⟩::⟨j6,33,3,[ae va.k,ae va.n,aZ va.s]⟩::⟨b9,35,5,[ae ops[i].k,ae ops[i].v.k,ae ops[i].v.n,aZ ops[i].v.s,aZ ops[i].nm]⟩::⟨br,43,1,[au 3 cV row]⟩::⟨bc,29,1,[au 2 cC l]⟩::⟨b6,33,3,[ae 0,ae 0,fk]⟩::⟨b4,33,3,[ae 0,ae 0,fk]⟩::Sh)⟩:St)) ?_ ?_
  ·refine af [1,4,6,7,9,10,11,13,16,17,18,36] ?_;refine ax ?_ ?_<;>intro cc cN
   ·obtain⟨bh,rfl,Z,O,rfl⟩:=U.pos w4;have Cm:(st.length-(bK ops[i].k).toNat)+1<st.length:=(by omega)
    have hb:fq bu ops[i].k st=st[(st.length-(bK ops[i].k).toNat)+1]:=(by unfold fq;rw[if_pos w4,getD_eq_getElem?_getD,getElem?_eq_getElem Cm];rfl)
    refine dG 3 ?_;refine bQ (dw 3 (h:=by first|exact .l (j:=(st.length-(bK ops[i].k).toNat)+1) w4 w4|exact .r (j:=(st.length-(bK ops[i].k).toNat)+1) w4 w4)) ?_;refine bQ (cR (mk:=Op.load 33) rfl ot (dy (k:=7) eZ rfl rfl rfl isAgg33 sizeOf33 Cm)) ?_;refine aM 0 [_,_,_] sizeOf33 ?_;refine an 64 [1,4,6,7,9,10,11,13,16,17,18] ?_;refine⟨_,aJ,(st[(st.length-(bK ops[i].k).toNat)+1]),(some ⟨bh,0,none⟩),E,[⟨bh,33,E*3,flatMap cV st⟩],hb,(bM (g:=cV) (ls:=st) Z O),rfl⟩
   have hb:fq bu ops[i].k st=bu:=(by unfold fq;rw[if_neg w4])
   refine CD.skip ?_;refine⟨_,aJ,bu,I,E,Sh,hb,U,rfl⟩
  rintro _ ⟨vb,I,E,Sh,hb,U,rfl⟩;refine aA 4 ?_;refine OD.lS (f:=74) (args:=[_,_,_]) (all:=[_,_,_,_,_]) (Sf:=[⟨br,43,1,[au 3 cV row]⟩,⟨bc,29,1,[au 2 cC l]⟩]) ap rfl rfl ot call74 (abp l hl row rm ops[i] (akq _ (getElem_mem aa)) _ _ (va) (vb) ha hb (JZ aV _) (J0 aV _) br bc) rfl ⟨ot,ot,ot,trivial⟩ (I7 (k:=3) (k':=3) rfl rfl) ?_;rintro _ _ ⟨rfl,rfl⟩;refine aG 3 ?_;refine OD.alloc (ds:=[_,_,_]) ap rfl rfl zeroValue33 rfl (fun AO=>?_);refine aM 0 [_,_,_] sizeOf33 ?_;refine an 64 [1,4,6,7,13,14,15,16,17,18] ?_;refine af [1,4,6,7,13,14,15,16,17,18,51] ?_;refine ax ?_ ?_<;>intro cQ ek
  ·have hz:(gj l row ops[i] (fp bu ops[i].k st) (fq bu ops[i].k st)).2≠0:=(by simpa using cQ)
   have aW:=hinv.trans (Tz aa hz);refine aA 2 ?_;refine aM 7 [_,_,_] sizeOf33 ?_;refine an 64 [4,5] ?_;refine aK [⟨br,43,1,[au 3 cV row]⟩,⟨bc,29,1,[au 2 cC l]⟩] ?_;rw[aW];exact⟨rfl,rfl⟩
  have hz:(gj l row ops[i] (fp bu ops[i].k st) (fq bu ops[i].k st)).2=0:=(by simpa using cQ)
  refine CD.skip ?_;refine CD.jF (k:=(st.length-(bK ops[i].k).toNat)) (ls:=st) (Sq:=Sh) eZ w4 U (dg (A:=[_,_,_,_,_,_,_,_])) (fun L7 Lb=>?_);refine CD.perm (dW (A:=[_,_,_,_,_,_,_,_])) ?_;refine gX 6 (av (take 1 _)) ?_ (fun _ h=>(Sublist.map _ (take_sublist _ _)).subset h);refine aC 0 rfl bG ?_;refine aC 1 rfl bG ?_;first|refine aC 2 rfl (D9 (n:=st.length) (k:=(take (st.length-(bK ops[i].k).toNat) st).length) (cs:=st.flatMap cV) rfl ot rfl ⟨_,_,ot,by rw[length_take];omega⟩ runUnderlying43 sizeOf33 pp U) ?_|refine aC 2 rfl (D9 (n:=st.length) (k:=(take (st.length-(bK ops[i].k).toNat) st).length) (cs:=st.flatMap cV) rfl ot rfl ⟨_,_,ot,by rw[length_take];omega⟩ runUnderlying43 sizeOf33 pp (bM (e:=33) (g:=cV) (ls:=st) Z O)) ?_
  refine aC 3 rfl (cR (mk:=Op.load 33) rfl ot (by first|exact qE (k:=0) (ds:=[_,_,_]) rfl rfl isAgg33 sizeOf33 rfl rfl|exact kj mQ isAgg33 sizeOf33 w5|exact kj eZ isAgg33 sizeOf33 w5|exact dy (k:=0) mQ rfl rfl rfl isAgg33 sizeOf33 w5|exact dy (k:=1) mQ rfl rfl rfl isAgg33 sizeOf33 w5|exact dy (k:=2) mQ rfl rfl rfl isAgg33 sizeOf33 w5|exact dy (k:=3) mQ rfl rfl rfl isAgg33 sizeOf33 w5|exact dy (k:=4) mQ rfl rfl rfl isAgg33 sizeOf33 w5|exact dy (k:=5) mQ rfl rfl rfl isAgg33 sizeOf33 w5|exact dy (k:=6) mQ rfl rfl rfl isAgg33 sizeOf33 w5|exact dy (k:=7) mQ rfl rfl rfl isAgg33 sizeOf33 w5|exact dy (k:=0) eZ rfl rfl rfl isAgg33 sizeOf33 w5|exact dy (k:=1) eZ rfl rfl rfl isAgg33 sizeOf33 w5|exact dy (k:=2) eZ rfl rfl rfl isAgg33 sizeOf33 w5|exact dy (k:=3) eZ rfl rfl rfl isAgg33 sizeOf33 w5|exact dy (k:=4) eZ rfl rfl rfl isAgg33 sizeOf33 w5|exact dy (k:=5) eZ rfl rfl rfl isAgg33 sizeOf33 w5|exact dy (k:=6) eZ rfl rfl rfl isAgg33 sizeOf33 w5|exact dy (k:=7) eZ rfl rfl rfl isAgg33 sizeOf33 w5|exact qJ (ds:=[_,_,_]) isAgg33 sizeOf33 rfl rfl)) ?_;refine dH.later rfl ?_;refine AD.one (i:=4) aB ?_;refine nF (cu 0 [_]) [.int .i64 0,.int .i64 0,.string ⟨#[]⟩] [_,_,_] zeroValue33 runUnderlying43 sizeOf33 (fun An=>?_);refine nG 0 58 3 1 ?_;refine AD.one (i:=5) aB ?_
  refine bB.eB (ls:=(take (st.length-(bK ops[i].k).toNat) st)) (new:=[(gj l row ops[i] (fp bu ops[i].k st) (fq bu ops[i].k st)).1]) (Sq:=L7) eZ BF rfl ap rfl rfl underlying43 aam rfl w8 ot Lb (dg (A:=[_,_,_,_,_,_,_,_])) ot bq vH ig (fun s7 sI B5 B6=>?_);refine AD.perm (dW (S1:=[⟨s7,33,sI*3,flatMap cV ((take (st.length-(bK ops[i].k).toNat) st)++[(gj l row ops[i] (fp bu ops[i].k st) (fq bu ops[i].k st)).1])⟩]) (A:=[_,_,_,_,_,_,_,_])) ?_;refine fw ?_;refine bp [1,4,6,7,16,17,18] ?_;refine bX [1,4,6,7,16,17,18] ?_;refine⟨((i+1),(st.take (st.length-(bK ops[i].k).toNat)++[(gj l row ops[i] (fp bu ops[i].k st) (fq bu ops[i].k st)).1]),(some ⟨s7,0,none⟩),sI,[⟨s7,33,sI*3,flatMap cV ((take (st.length-(bK ops[i].k).toNat) st)++[(gj l row ops[i] (fp bu ops[i].k st) (fq bu ops[i].k st)).1])⟩]),_,cn,(aJ (h:=by repeat (first|exact trivial|refine⟨GS,?_⟩))),w4,(by rw[pI];omega),nf,(hinv.trans (TA aa hz)),akr,(bg.cast (bM B5 B6) (by rfl)),rfl⟩
 have h1:=Rk w4 hex;have Cn:0<st.length:=(by omega)
 obtain⟨bh,rfl,Z,O,rfl⟩:=U.pos w4;have aW:=hinv.trans (Rj w4);have jt:st.getD 0 bu=st[0]:=(by rw[getD_eq_getElem?_getD,getElem?_eq_getElem Cn];rfl)
 rw[jt] at aW;refine aA 1 ?_;refine bQ (oe (mk:=Op.indexAddr 43) rfl ot bP (by first|exact oU (j:=0) runUnderlying43 sizeOf33 rfl Af|exact oV (j:=0) runUnderlying43 sizeOf33 rfl Af)) ?_;refine bQ (cR (mk:=Op.load 33) rfl ot (dy (k:=4) eZ rfl rfl rfl isAgg33 sizeOf33 Cn)) ?_;refine aM 3 [_,_,_] sizeOf33 ?_;refine an 64 [4,5] ?_;exact VS
theorem afb(l:List cx)(hl:l.length≤6)(row:List Vl)(O:row.length=l.length)(E:∀v∈row,v.Ok)(ops:List aS)(fT:∀o∈ops,o.v.Ok)(I:∀o∈ops,o.k=2→0≤bz l o.nm)(hx:ij ops=0):VP Tryz.prog G 38 [au 2 cC l,au 3 cV row,au 5 cO ops] (mI (vk l row ops)):=by
 refine VC.body func38 rfl ntmps38 aQ fun X0 w0 bf=>?_;obtain⟨U,fH⟩:=wA hx;have fx:=fun br bc=>adb (G:=G) l hl row O E ops fT I U fH br bc;unfold mI at fx ⊢;generalize vk l row ops=q at fx ⊢;skip;refine bS ?_;refine OD.box (ds:=[_]) ap rfl rfl ot rfl rfl (fun b3=>?_);refine OD.box (ds:=[_]) ap rfl rfl ot rfl rfl (fun b4=>?_);refine OD.alloc (ds:=[_,_,_]) ap rfl rfl zeroValue33 rfl (fun Z=>?_);refine an 13 [2,3,4,6] ?_;refine aA 1 ?_;refine bQ (pP (ds:=[_,_]) rfl ⟨ot,ot,trivial⟩) ?_;refine OD.call ap rfl rfl rfl call73 (fx b4 b3) ⟨ot,ot,trivial⟩ (I7 (k:=1) (k':=1) rfl rfl) ?_;rintro _ _ ⟨rfl,rfl⟩;refine aG 2 ?_;refine aM 2 [_,_,_] sizeOf33 ?_;refine an 13 [6,7] ?_;exact nE
theorem J1(hm:(3,marksC)∈G)(hw:(1,wordsC)∈G)(ht:(0,typesC)∈G)(l:List cx)(hl:l.length≤6)(aV:∀c∈l,c.n.size≤maxLen)(row:List Vl)(Z:row.length≤1000)(E:∀v∈row,v.Ok)(ops:List aS)(ho:∀o∈ops,o.nm.size≤maxLen)(fT:∀o∈ops,o.v.Ok):VP Tryz.prog G 22 [au 2 cC l,au 3 cV row,au 5 cO ops] (mI (dZ l row ops)):=by
 refine VC.body func22 rfl ntmps22 aQ fun X0 w0 bf=>?_;have cY:=dN;have U:=KD hm hw ht l w4 aV row w4;have I:=Fm hm hw ht l hl aV ops ho;unfold ph at I;unfold mI;refine bS ?_;refine OD.alloc (ds:=[_,_,_]) ap rfl rfl zeroValue33 rfl (fun b6=>?_);refine an 34 [0,1,2,6] ?_;refine cL [0,1,2,6,8] (U) ?_;refine af [0,1,2,6,8,15] ?_;refine ax ?_ ?_<;>intro aO bA
 ·have h0:dR l row≠0:=(by simpa using aO)
  have aW:dZ l row ops=(bu,dR l row):=(by unfold dZ;rw[if_pos h0])
  refine aA 2 ?_;refine aM 0 [_,_,_] sizeOf33 ?_;refine an 34 [6,7] ?_;exact oJ
 have h0:dR l row=0:=(by simpa using aO)
 refine cL [0,1,2,6,10] (I) ?_;refine af [0,1,2,6,10,25] ?_;refine ax ?_ ?_<;>intro aY cz
 ·have h1:(dm l ops).2≠0:=(by simpa using aY)
  have aW:dZ l row ops=(bu,(dm l ops).2):=(by unfold dZ;rw[if_neg (by simp[h0]),if_pos h1])
  refine aA 2 ?_;refine aM 0 [_,_,_] sizeOf33 ?_;refine an 34 [6,7] ?_;exact oJ
 have h1:(dm l ops).2=0:=(by simpa using aY)
 obtain⟨k1,k2,k3⟩:=Fp h1;have aW:dZ l row ops=vk l row ops:=(by unfold dZ;rw[if_neg (by simp[h0]),if_neg (by simp[h1])])
 have O:=afb (G:=G) l hl row (JN h0) E ops fT (PV (by rw[←k3];exact h1)) k2;unfold mI at O;refine aA 3 ?_;refine dO call38 (O) ?_;refine aG 2 ?_;refine aM 0 [_,_,_] sizeOf33 ?_;refine an 34 [6,7] ?_;exact z59

end Go.Proofs.YtkgmonfgofobaaaGreatDoor.Ex
namespace Go.Proofs.YtkgmonfgofobaaaGreatDoor.Pc
open List
open Go.Proofs.Tryz
open Go.RowKit V Pk Vl Go.Proofs.YtkgmonfgofobaaaGreatDoor.Nm
variable {G:List (Nat×List Value)}
def bY:List cx:=[⟨⟨#[105,100]⟩,2⟩,⟨⟨#[110]⟩,2⟩,⟨⟨#[115]⟩,3⟩,⟨⟨#[98]⟩,1⟩]
def qH(n:Int):Vl:=if dI n 3=2 then bu else ⟨1,dI n 3,⟨#[]⟩⟩
def GF(n:Int):Vl:=⟨2,n,⟨#[]⟩⟩
theorem ah8:cy ⟨#[105,100]⟩=0:=tv (l:=[105,100]) w8 w8 w8
theorem aks:cy ⟨#[110]⟩=0:=tv (l:=[110]) w8 w8 w8
theorem akt:cy ⟨#[115]⟩=0:=tv (l:=[115]) w8 w8 w8
theorem aku:cy ⟨#[98]⟩=0:=tv (l:=[98]) w8 w8 w8
theorem E8:fO bY=0:=by
 simp[fO,bY,rF,nx,ah8,aks,akt,aku,wj]
theorem JD:∀c∈bY,c.n.size≤maxLen:=fun c hc=>by
 have h:c.n.size≤2:=by
  simp only[bY,mem_cons,not_mem_nil,or_false] at hc;rcases hc with rfl|rfl|rfl|rfl
  ·exact Nat.le_refl 2
  ·exact Nat.le_succ 1
  ·exact Nat.le_succ 1
  exact Nat.le_succ 1
 exact Nat.le_trans h w8
theorem agL(n:Int):cl (GF n)=0:=by
 unfold cl;rw[if_neg (show ¬(GF n).k=0 by show ¬(2:Int)=0;decide),if_neg (show ¬(GF n).k=1 by show ¬(2:Int)=1;decide),if_pos (show(GF n).k=2 from rfl),if_neg (fun h=>h rfl)]
theorem zz:cl bu=0:=by decide
theorem Bc:VP Tryz.prog G 13 [] (au 2 cC bY):=by
 refine VC.body func13 rfl ntmps13 aQ fun X0 w0 bf=>?_;refine af [] ?_;refine aA 4 ?_;refine ew (cu 0 [_,_,_,_]) [.string ⟨#[]⟩,.int .i64 0,.string ⟨#[]⟩,.int .i64 0,.string ⟨#[]⟩,.int .i64 0,.string ⟨#[]⟩,.int .i64 0] [_,_,_,_,_,_,_,_] zeroValue28 runUnderlying29 sizeOf28 (fun b5=>?_);refine OD.perm (dW (S1:=[⟨b5,28,4*2,flatMap cC ([⟨⟨#[105,100]⟩,2⟩,⟨⟨#[110]⟩,2⟩,⟨⟨#[115]⟩,3⟩,⟨⟨#[98]⟩,1⟩])⟩]) (A:=[])) ?_;refine an 6 [0] ?_;refine CD.ic (t:=0) (Sq:=[⟨b5,28,4*2,flatMap cC ([⟨⟨#[105,100]⟩,2⟩,⟨⟨#[110]⟩,2⟩,⟨⟨#[115]⟩,3⟩,⟨⟨#[98]⟩,1⟩])⟩]) lk (bM (g:=cC) (sz:=2) (e:=28) (ls:=[⟨⟨#[105,100]⟩,2⟩,⟨⟨#[110]⟩,2⟩,⟨⟨#[115]⟩,3⟩,⟨⟨#[98]⟩,1⟩]) (Nat.le_refl _) (show 4≤maxLen by decide)) (cm lu _) (dg (A:=[])) ?_;exact nE

end Go.Proofs.YtkgmonfgofobaaaGreatDoor.Pc
namespace Go.Proofs.YtkgmonfgofobaaaGreatDoor.Ex
open List
open Go.Proofs.Tryz
open Go.RowKit V Pk Vl Go.Proofs.YtkgmonfgofobaaaGreatDoor.Nm Pc
variable {k:Int} {a b:Vl} {l:List cx} {row:List Vl} {o:aS} {α:Type} {ks:List Int}
theorem Ig(b:Bool):cl (qG b)=0:=by cases b<;>decide
theorem abq(n:Int):cl ⟨2,n,⟨#[]⟩⟩=0:=agL n
theorem Fq(h:¬(k=8∨k=9∨k=10)):xj k=1:=if_neg h
theorem afc(h:k=8∨k=9∨k=10):xj k=2:=if_pos h
theorem Jf(b:Bool):(qG b).k=1:=by cases b<;>rfl
theorem Be{v:Vl}(h:iT v=0):cl v=0:=by
 unfold iT at h;split at h
 ·cases h
 exact h
def jX(k:Int)(v:Vl):Prop:=cl v=0∧(v.k=k∨v.k=0)
theorem BH:jX 0 bu:=⟨zz,.inl rfl⟩
structure qM (l:List cx) (o:aS):Prop where
 nm:o.nm.size≤maxLen
 ok:o.v.Ok
 ck:cl o.v=0
 k1:1≤o.k
 k2:o.k≤11
 YD:o.k=2→0≤bz l o.nm
def Gb(l:List cx)(row:List Vl):Prop:=∀i:Nat,jX (l.getD i ⟨⟨#[]⟩,0⟩).k (row.getD i bu)
theorem zA{a b:Int}(h:rY a b=true):a=b∨a=0:=by
 unfold rY at h;simpa using h
theorem aan{d:Int}(ha:cl a=0)(hb:cl b=0)(h1:a.k=1∨a.k=0)(h2:b.k=1∨b.k=0):(lB a b d).2=0∧jX 1 (lB a b d).1:=by
 unfold lB;rw[if_neg w4];split
 ·exact⟨rfl,ha,h1⟩
 split
 ·exact⟨rfl,hb,h2⟩
 split
 ·exact⟨rfl,zz,.inr rfl⟩
 exact⟨rfl,ha,h1⟩
theorem afd(ha:cl a=0)(hb:cl b=0):Cd.lU a b=0:=by unfold Cd.lU;rw[ha,hb];rfl
theorem abr(h:Cd.lU a b=0)(hk:k=3∨k=4):∃d,iB k a b=lB a b d:=by
 unfold iB;rw[if_neg (by simp[h])];rcases hk with rfl|rfl
 ·exact⟨0,if_pos rfl⟩
 exact⟨1,by rw[if_neg w8,if_pos rfl]⟩
theorem ade(h:Cd.lU a b=0)(hk:k=6∨k=7):iB k a b=if rG a b=true then (bu,0) else if a.k≠b.k then (bu,4) else (qG ((Cd.fg a b==0&&k==6)||(decide (Cd.fg a b<0)&&k==7)),0):=by
 unfold iB;rw[if_neg (by simp[h]),if_neg w4,if_neg w4,if_pos hk]
theorem abt(hr:Gb l row)(ho:qM l o){a b:Int}{E vb:Vl}(ha:jX a E)(hb:jX b vb)(h:(jm l o a b).2=0) :
  (gj l row o E vb).2=5∨((gj l row o E vb).2=0∧jX (jm l o a b).1 (gj l row o E vb).1):=by
 have k1:=ho.k1;have k2:=ho.k2;obtain⟨ca,ka⟩:=ha;obtain⟨cb,kb⟩:=hb;have O:=afd ca cb;unfold jm at h ⊢;by_cases e1:o.k=1
 ·rw[if_pos e1];have:gj l row o E vb=(o.v,0):=(by unfold gj bK;rw[if_neg w4,if_neg (by rw[if_pos (.inl e1)];omega),if_neg w4]<;>(try rw[if_pos (.inl e1)];omega))
  rw[this];exact .inr ⟨rfl,ho.ck,.inl rfl⟩
 rw[if_neg e1] at h ⊢;by_cases e2:o.k=2
 ·rw[if_pos e2] at h ⊢;have hp:bK o.k=0:=(by unfold bK;rw[if_pos (.inr e2)])
  have hc:=ho.YD e2;have:gj l row o E vb=(row.getD (bz l o.nm).toNat bu,0):=(by unfold gj;rw[if_neg w4,if_neg w4,if_pos e2])
  rw[this];unfold u6;rw[if_neg w4];exact .inr ⟨rfl,hr _⟩
 rw[if_neg e2] at h ⊢;have aV:okF o.k a b=true:=by
  by_cases hk:okF o.k a b=true
  ·exact hk
  rw[if_neg hk] at h;cases h
 rw[if_pos aV];unfold okF at aV;by_cases I:o.k=5∨o.k=11
 ·have hp:bK o.k=1:=(by unfold bK;rw[if_neg w4,if_pos I])
  have he:gj l row o E vb=uc o.k E:=(by unfold gj;rw[if_pos hp])
  rw[he];unfold uc;rw[if_neg (by simp[ca])];rcases I with I|I
  ·have U:¬(o.k=3∨o.k=4):=(by omega)
   have Z:¬o.k=11:=(by omega)
   rw[if_neg U,if_pos I] at aV;have hi:=zA aV;rw[if_neg Z,if_pos I,Fq w4];by_cases z:E.k=0
   ·rw[if_pos z];exact .inr ⟨rfl,ca,.inr z⟩
   rw[if_neg z,if_pos w4];exact .inr ⟨rfl,Ig _,.inl (Jf _)⟩
  rw[if_pos I,Fq w4];exact .inr ⟨rfl,Ig _,.inl (Jf _)⟩
 have hp:bK o.k=2:=(by unfold bK;rw[if_neg w4,if_neg I])
 have he:gj l row o E vb=iB o.k E vb:=(by unfold gj;rw[if_neg w4,if_pos hp])
 rw[he];by_cases e3:o.k=3∨o.k=4
 ·rw[if_pos e3,Bool.and_eq_true] at aV;have i1:=zA aV.1;have i2:=zA aV.2;obtain⟨d,hd⟩:=abr O e3;rw[hd,Fq w4];exact .inr (aan ca cb w4 w4)
 have n5:¬o.k=5:=(by omega)
 rw[if_neg e3,if_neg n5] at aV;by_cases e6:o.k=6∨o.k=7
 ·rw[if_pos e6,Bool.or_eq_true] at aV;rw[ade O e6,Fq w4];by_cases hn:rG E vb=true
  ·rw[if_pos hn];exact .inr ⟨rfl,zz,.inr rfl⟩
  rw[if_neg hn];unfold rG at hn;simp only[Bool.or_eq_true,beq_iff_eq,not_or] at hn;have lG:E.k=vb.k:=by
   rcases aV with aV|aV
   ·have:=zA aV;omega
   have:b=0:=(by simpa using aV)
   omega
  rw[if_neg (by simpa using lG)];exact .inr ⟨rfl,Ig _,.inl (Jf _)⟩
 have e8:o.k=8∨o.k=9∨o.k=10:=(by omega)
 rw[if_neg e6,if_pos e8,Bool.and_eq_true] at aV;have i1:=zA aV.1;have i2:=zA aV.2;rw[PT O e8 w4,afc e8];split
 ·exact .inr ⟨rfl,zz,.inr rfl⟩
 split
 ·exact .inr ⟨rfl,abq _,.inl rfl⟩
 exact .inl rfl
theorem J2{z:α}{f:aS→α→α→α × Int}{r:List aS}{st:List α}(h:(f o (fp z o.k st) (fq z o.k st)).2=0):jE z f (o::r) st=jE z f r (st.take (st.length-(bK o.k).toNat)++[(f o (fp z o.k st) (fq z o.k st)).1]):=by
 rw[jE,if_neg (by rw[h];simp)]
theorem Jg{z:α}{f:aS→α→α→α × Int}{r:List aS}{st:List α}(h:(f o (fp z o.k st) (fq z o.k st)).2≠0):jE z f (o::r) st=(z,(f o (fp z o.k st) (fq z o.k st)).2):=by
 rw[jE,if_pos h]
def Co(ks:List Int)(vs:List Vl):Prop:=ks.length=vs.length∧∀i:Nat,jX (ks.getD i 0) (vs.getD i bu)
theorem Rn(z x:α)(l:List α)(n i:Nat)(hn:n≤l.length):(l.take n++[x]).getD i z=if i<n then l.getD i z else if i=n then x else z:=by
 have hl:(l.take n).length=n:=(by rw[length_take];omega)
 by_cases h1:i<n
 ·rw[if_pos h1,getD_eq_getElem?_getD,getD_eq_getElem?_getD,getElem?_append_left w4,getElem?_take,if_pos h1]
 rw[if_neg h1,getD_eq_getElem?_getD,getElem?_append_right w4,hl];by_cases h2:i=n
 ·rw[if_pos h2,h2,Nat.sub_self];rfl
 rw[if_neg h2,getElem?_eq_none (by rw[length_singleton];omega)];rfl
theorem afe{vs:List Vl}(h:Co ks vs){v:Vl}(hr:jX k v){n:Nat}(hn:n≤ks.length):Co (ks.take n++[k]) (vs.take n++[v]):=by
 have hl:=h.1;refine⟨by simp only[length_append,length_take,length_singleton];omega,fun i=>?_⟩;rw[Rn _ _ _ _ _ hn,Rn _ _ _ _ _ w4];split
 ·exact h.2 i
 split
 ·exact hr
 exact BH
theorem aff{vs:List Vl}(h:Co ks vs)(k:Int):jX (fp 0 k ks) (fp bu k vs)∧jX (fq 0 k ks) (fq bu k vs):=by
 have hl:=h.1;unfold fp fq;rw[hl];refine⟨?_,?_⟩
 ·split
  ·exact h.2 _
  exact BH
 split
 ·exact h.2 _
 exact BH
theorem PW{l:List cx}{row:List Vl}(hr:Gb l row):∀(ops:List aS),(∀o∈ops,qM l o)→∀(ks:List Int) (vs:List Vl),Co ks vs→(jE 0 (jm l) ops ks).2=0 →
  (jE bu (gj l row) ops vs).2=5∨((jE bu (gj l row) ops vs).2=0∧jX (jE 0 (jm l) ops ks).1 (jE bu (gj l row) ops vs).1)
 | [],_,ks,vs,h,_=>.inr ⟨rfl,h.2 0⟩
 | o::r,hg,ks,vs,h,h0=>by
  obtain⟨hA,hB⟩:=aff h o.k;by_cases hm:(jm l o (fp 0 o.k ks) (fq 0 o.k ks)).2=0
  ·rw[J2 hm] at h0 ⊢;rcases abt hr (hg o mem_cons_self) hA hB hm with h5|⟨hz,E⟩
   ·rw[Jg (by rw[h5];decide)];exact .inl h5
   rw[J2 hz];have:=afe h E (n:=ks.length-(bK o.k).toNat) (Nat.sub_le _ _);rw[show vs.length-(bK o.k).toNat=ks.length-(bK o.k).toNat by rw[h.1]];exact PW hr r (fun x hx=>hg x (mem_cons_of_mem _ hx)) _ _ this h0
  rw[Jg hm] at h0;exact absurd h0 hm
theorem adf(ho:qM l o)(a b:Int):(jm l o a b).2=0∨(jm l o a b).2=4:=by
 unfold jm;split
 ·exact .inl rfl
 split
 ·rename_i h2;have:=ho.YD h2;unfold u6;rw[if_neg w4];exact .inl rfl
 split
 ·exact .inl rfl
 exact .inr rfl
theorem Ro{l:List cx}:∀(ops:List aS),(∀o∈ops,qM l o)→∀ks,(jE 0 (jm l) ops ks).2=0∨(jE 0 (jm l) ops ks).2=4
 | [],_,ks=>.inl rfl
 | o::r,hg,ks=>by
  rw[jE];split
  ·rename_i hne;rcases adf (hg o mem_cons_self) (fp 0 o.k ks) (fq 0 o.k ks) with h|h
   ·exact absurd h hne
   exact .inr h
  exact Ro r (fun x hx=>hg x (mem_cons_of_mem _ hx)) _
theorem afg:Co [] []:=⟨rfl,fun i=>by rw[getD_nil,getD_nil];exact BH⟩
theorem PX{ops:List aS}(hl:fO l=0)(hw:dR l row=0)(hr:Gb l row)(hg:∀o∈ops,qM l o)(hx:ij ops=0) :
  dm l ops=tZ l ops∧((dm l ops).2=0∨(dm l ops).2=4)∧((dm l ops).2=4→dZ l row ops=(bu,4)) ∧
  ((dm l ops).2=0→dZ l row ops=vk l row ops∧((dZ l row ops).2=5∨((dZ l row ops).2=0∧jX (dm l ops).1 (dZ l row ops).1))):=by
 have hk:dm l ops=tZ l ops:=(by unfold dm;rw[if_neg (by simp[hl]),if_neg (by simp[hx])])
 refine⟨hk,by rw[hk];exact Ro ops hg [],fun h4=>?_,fun h0=>?_⟩
 ·unfold dZ;rw[if_neg (by simp[hw]),if_pos sX,h4]
 have he:dZ l row ops=vk l row ops:=(by unfold dZ;rw[if_neg (by simp[hw]),if_neg (by simp[h0])])
 refine⟨he,?_⟩;rw[he,hk];exact PW hr ops hg [] [] afg (by rw[hk] at h0;exact h0)

end Go.Proofs.YtkgmonfgofobaaaGreatDoor.Ex
namespace Go.Proofs.YtkgmonfgofobaaaGreatDoor.Pc
open List
open Go.Proofs.Tryz
open Go.RowKit V Pk Vl Go.Proofs.YtkgmonfgofobaaaGreatDoor.Nm
def typesB:List (List UInt8):=[[],[66,79,79,76],[73,78,84],[84,69,88,84]]
abbrev TypesTab(w:World):Prop:=Tab.mw w 0 typesC

end Go.Proofs.YtkgmonfgofobaaaGreatDoor.Pc
namespace Go.Proofs.YtkgmonfgofobaaaGreatDoor.Ex





open List
open Go.Proofs.Tryz
open Go.RowKit V Pk Vl Go.Proofs.YtkgmonfgofobaaaGreatDoor.Nm Pc Cd
open Go.Lib (compareBytes)
variable {ops:List aS} {k:List UInt8}
def nN(ops:List aS)(i:Nat):Int:=(ops.getD i (lQ 0)).k
def iU(ops:List aS):Nat→Int→Nat
 | 0,_=>0
 | i+1,need=>if need+(bK (nN ops i)-1)>0 then iU ops i (need+(bK (nN ops i)-1)) else i
theorem u3{i:Nat}(h:i<ops.length):nN ops i=ops[i].k:=by unfold nN;rw[getD_eq_getElem?_getD,getElem?_eq_getElem h];rfl
theorem UM{h h':Int}{o:aS}(he:gq h o=0)(hp:bK o.k≤h'):gq h' o=0:=by
 unfold gq at he ⊢;split at he
 ·cases he
 rename_i q1;rw[if_neg q1];split at he
 ·rename_i h2;exact absurd he h2
 rename_i q2;rw[if_neg q2];split at he
 ·cases he
 rename_i q3;rw[if_neg q3];split at he
 ·rename_i h4;exact absurd he h4.2
 rename_i E;rw[if_neg E,if_neg w4]
theorem IK{n:Nat}{h:Int}(hn:n<ops.length)(e:runs 0 (ops.take (n+1))=some h):∃h',runs 0 (ops.take n)=some h'∧gq h' ops[n]=0∧h=h'+(1-bK ops[n].k):=by
 rw[take_succ_eq_append_getElem hn,yG] at e;cases hr:runs 0 (ops.take n) with
 | none=>rw[hr] at e;cases e
 | some h' =>
  rw[hr,Option.bind_some,runs] at e;split at e
  ·rename_i he;rw[runs] at e;cases e;exact⟨h',rfl,he,rfl⟩
  cases e
theorem Rp{ops:List aS}:∀(n:Nat) (need h:Int),n≤ops.length→runs 0 (ops.take n)=some h→1≤need→need≤h →
  iU ops n need<n∧runs 0 (ops.take (iU ops n need))=some (h-need)∧∀k:Int,0≤k→runs k ((ops.take n).drop (iU ops n need))=some (k+need)
 | 0,need,h,_,e,h1,h2=>by rw[List.take_zero,runs] at e;cases e;omega
 | n+1,need,h,hn,e,h1,h2=>by
  have aa:n<ops.length:=(by omega)
  obtain⟨h',e1,e2,O⟩:=IK aa e;have I:=tP ops[n].k;have rV:=(wo e2).1;have E:∀m,m≤n→(ops.take (n+1)).drop m=(ops.take n).drop m++[ops[n]]:=fun m hm=>by
   rw[take_succ_eq_append_getElem aa,drop_append,show m-(ops.take n).length=0 by rw[length_take];omega,drop_zero]
  rw[iU,u3 aa];by_cases hc:need+(bK ops[n].k-1)>0
  ·rw[if_pos hc];obtain⟨q1,q2,q3⟩:=Rp n (need+(bK ops[n].k-1)) h' w4 e1 w4 w4;refine⟨by omega,by rw[q2];congr 1;omega,fun k hk=>?_⟩;rw[E _ w4,yG,q3 k hk,Option.bind_some,runs,if_pos (UM e2 w4),runs];congr 1;omega
  rw[if_neg hc];refine⟨by omega,by rw[e1];congr 1;omega,fun k hk=>?_⟩;rw[E n (Nat.le_refl _),drop_of_length_le pp,nil_append,runs,if_pos (UM e2 w4),runs];congr 1;omega
def mr(key:ByteArray)(o:aS):Bool:=o.k==2&&o.nm.toList==key.toList
def gP(o:aS):Bool:=o.k==1 && !(o.v.k==0)
abbrev lp:=List UInt8×List UInt8
variable {b:lp}
def oD(k:List UInt8)(b:lp):lp:=if compareBytes k b.1>0 then (k,b.2) else b
def sD(k:List UInt8)(b:lp):lp:=if b.2.length=0∨compareBytes k b.2<0 then (b.1,k) else b
def vp(kc:Int)(eq not:Bool)(k:List UInt8)(b:lp):lp :=
 bif eq||(kc==0)!=not then sD k (bif eq||(kc==0)==not then oD k b else b) else bif eq||(kc==0)==not then oD k b else b
def zU(ops:List aS):List UInt8:=(ga [(ops.getD (dA gP (ops.take 2)).toNat (lQ 0)).v]).1
def nu(key:ByteArray)(ops:List aS)(not:Bool)(b:lp):lp :=
 if ops.length≠3∨(not=true∧nN ops (ops.length-1)≠7)∨(nN ops (ops.length-1)≠6∧nN ops (ops.length-1)≠7) then b
 else if dA (mr key) (ops.take 2)<0∨dA gP (ops.take 2)<0 then b
 else vp (dA (mr key) (ops.take 2)) (nN ops (ops.length-1)==6) not (zU ops) b
def gk(key:ByteArray):Nat→List aS→lp→lp
 | 0,_,b=>b
 | f+1,ops,b =>
  if nN ops (ops.length-1)=3 then gk key f ((ops.take (ops.length-1)).drop (iU ops (ops.length-1) 1)) (gk key f (ops.take (iU ops (ops.length-1) 1)) b)
  else if nN ops (ops.length-1)=5 then nu key (ops.take (ops.length-1)) true b
  else nu key ops false b
variable {G:List (Nat×List Value)} {m:Int}
theorem abu(ops:List aS)(pG:ops.length≤40)(n:Nat)(hn:n≤ops.length)(h:Int)(hr:runs 0 (ops.take n)=some h)(h1:1≤h):VP Tryz.prog G 173 [au 5 cO ops,ae (n:Nat)] (ae (iU ops n 1:Nat)):=by
 refine VC.body func173 rfl ntmps173 aQ fun X0 w0 bf=>?_;refine af [0,1] ?_;refine af [0,5] ?_;refine af [0,5,6] ?_;refine ez [0] (fun aR _ (E:Nat×Int) aD=>match E with|(i,need)=>(i≤n)∧(0≤need)∧(need≤1+2*((n:Int)-i))∧((need=0∧iU ops n 1=i)∨(1≤need∧iU ops n 1=iU ops i need∧∃h,runs 0 (ops.take i)=some h∧need≤h))∧aD=(⟨22,(5,ae (i:Nat))::(6,ae need)::aR,[]⟩:St)) (fun (E:Nat×Int)=>match E with|(i,need)=>i) (n,1) ⟨(Nat.le_refl _),w8,w4,(.inr ⟨by decide,rfl,h,hr,h1⟩),rfl⟩ ?_;rintro⟨i,need⟩ _ ⟨hi,gJ,Yl,hinv,rfl⟩;refine af [0,5,6,9] ?_;refine ax ?_ ?_<;>intro aO bA
 ·obtain⟨hz,_⟩|⟨gw,I,h2,e1,e2⟩:=hinv
  ·omega
  have NV:0<i:=(by rcases Nat.eq_zero_or_pos i with rfl|h;rw[List.take_zero,runs] at e1;cases e1;omega;exact h)
  have O:-9223372036854775808≤((i-1:Nat):Int):=(by omega)
  have U:((i-1:Nat):Int)≤9223372036854775807:=(by omega)
  have j9:(i:Int)-1=((i-1:Nat):Int):=(by omega)
  have aa:i-1<ops.length:=(by omega)
  have yj:=tP ops[i-1].k;obtain⟨h3,e3,e4,e5⟩:=IK aa (by rw[show i-1+1=i by omega];exact e1);have rV:=(wo e4).1;have Z:iU ops i need=if need+(bK ops[i-1].k-1)>0 then iU ops (i-1) (need+(bK ops[i-1].k-1)) else i-1:=by obtain⟨j,rfl⟩:∃j,i=j+1:=⟨i-1,by omega⟩;rw[iU,u3 w4];rfl
  have nf:(need+(bK ops[i-1].k-1)=0∧iU ops n 1=i-1)∨(1≤need+(bK ops[i-1].k-1)∧iU ops n 1=iU ops (i-1) (need+(bK ops[i-1].k-1))∧∃h,runs 0 (ops.take (i-1))=some h∧need+(bK ops[i-1].k-1)≤h):=(by (by_cases hc:need+(bK ops[i-1].k-1)>0);exact .inr ⟨by omega,by rw[I,Z,if_pos hc],h3,e3,by omega⟩;exact .inl ⟨by omega,by rw[I,Z,if_neg hc]⟩)
  refine cM [0,5,6] ?_;refine aP 1 ?_ (h:=by exact(dj rfl ot bP (gN (r:=((i-1:Nat):Int)) (by rw[j9];exact wrap_i64 O U))));refine bD ?_;refine gC [0,5,6] ?_;refine cJ (EO ops[i-1].k) ?_;refine bD ?_;refine⟨((i-1),(need+(bK ops[i-1].k-1))),_,cn,aJ,w4,w4,w4,nf,rfl⟩
 have aW:iU ops n 1=i:=(by rcases hinv with ⟨_,h⟩|⟨h,_⟩;exact h;omega)
 refine af [4] ?_;exact z59
theorem PY(ls:List aS)(g:Nat)(E:List D)(S:List ah)(p:aS→Bool)(fb:∀args w,(callFunc g args).run Tryz.prog w = .ok (.enter g args) w)(hp:∀x∈ls,VC Tryz.prog G g (.agg (cO x)::E) S (fun r S'=>r=bI (p x)∧S'=S))(hlen:ls.length≤1000000):VC Tryz.prog G 174 [au 5 cO ls,.eA (.func g) E] S (fun r S'=>r=ae (dA p ls)∧S'=S):=by
 refine VC.body func174 rfl ntmps174 aQ fun X0 w0 bf=>?_;unfold cO at hp;exact W0
theorem abv(o:aS)(nm:ByteArray)(b:Nat):VC Tryz.prog G 175 [.agg (cO o),cU b] [⟨b,9,1,[aZ nm]⟩] (fun r S=>r=bI (mr nm o)∧S=[⟨b,9,1,[aZ nm]⟩]):=by
 refine VC.body func175 rfl ntmps175 aQ fun X0 w0 bf=>?_;unfold cO mr;refine bS ?_;refine OD.box (ds:=[_,_,_,_,_]) ap rfl rfl ot rfl rfl (fun b2=>?_);refine an 13 [1,2] ?_;refine aA 4 ?_;refine bW 7 (fun I E=>?_) (fun I E=>?_)
 ·refine bp [3] ?_;refine aK [⟨b,9,1,[aZ nm]⟩] ?_;first|exact⟨rfl,rfl⟩|(refine⟨vb ?_,rfl⟩;simp_all)
 refine bp [3] ?_;refine aK [⟨b,9,1,[aZ nm]⟩] ?_;first|exact⟨rfl,rfl⟩|(refine⟨vb ?_,rfl⟩;simp_all)
theorem abw(o:aS):VC Tryz.prog G 176 [.agg (cO o)] [] (fun r S=>r=bI (gP o)∧S=[]):=by
 refine VC.body func176 rfl ntmps176 aQ fun X0 w0 bf=>?_;unfold cO gP;refine bS ?_;refine OD.box (ds:=[_,_,_,_,_]) ap rfl rfl ot rfl rfl (fun b1=>?_);refine an 12 [1] ?_;refine aA 4 ?_;refine bW 6 (fun I E=>?_) (fun I E=>?_)
 ·refine bp [2] ?_;refine eU ?_;first|exact⟨rfl,rfl⟩|(refine⟨vb ?_,rfl⟩;simp_all;done)|(refine⟨vb ?_,rfl⟩;simp_all;rfl)
 refine bp [2] ?_;refine eU ?_;first|exact⟨rfl,rfl⟩|(refine⟨vb ?_,rfl⟩;simp_all;done)|(refine⟨vb ?_,rfl⟩;simp_all;rfl)
theorem SD(a b:List UInt8):VP Tryz.prog G 64 [au 1 cB a,au 1 cB b] (ae (compareBytes a b)):=by
 exact VZ
theorem abx:(Tryz.prog.info? 5).map (fun i=>(i.zero,i.size,i.bytes))=some (some (.int .u8 0),1,1):=by kernel_rfl
theorem I2(a:List UInt8)(ha:a.length≤1000):VP Tryz.prog G 90 [au 1 cB a] (au 1 cB a):=by
 refine VC.body func90 rfl ntmps90 aQ fun X0 w0 bf=>?_;have cY:=dN;refine af [0] ?_;refine aA 1 ?_;refine OD.zn ap rfl rfl ot bP underlying90 (fun O xU=>?_);refine an 8 [0,4] ?_;refine ax ?_ ?_<;>intro aO bA
 ·exact z85
 refine bS ?_;refine OD.zo ap rfl rfl runUnderlying90 sizeOf5 (fun b5=>?_);refine aG 1 ?_;refine OD.pO (ls:=([]:List UInt8)) (new:=a) (Sq:=[⟨b5,5,0*1,[]⟩]) pT wJ ap rfl rfl underlying90 abx rfl w8 runUnderlying90 sizeOf5 ot (.inr ⟨b5,rfl,Nat.le_refl _,Nat.zero_le _,rfl⟩) (dg (A:=[])) ot ig ig (fun E I S7 qj=>?_);exact V2
theorem Fi(l:List Vl):(ga l).1.length≤100:=by
 unfold ga;split
 ·simp
 split
 ·simp
 split
 ·simp
 simpa using by omega
theorem afh(hk:k.length≤100)(h1:b.1.length≤100)(h2:b.2.length≤100):(oD k b).1.length≤100∧(oD k b).2.length≤100:=by unfold oD;split<;>exact⟨by assumption,by assumption⟩
theorem Rq(hk:k.length≤100)(h1:b.1.length≤100)(h2:b.2.length≤100):(sD k b).1.length≤100∧(sD k b).2.length≤100:=by unfold sD;split<;>exact⟨by assumption,by assumption⟩
theorem J3{E:Int}{eq not:Bool}(hk:k.length≤100)(h1:b.1.length≤100)(h2:b.2.length≤100):(vp E eq not k b).1.length≤100∧(vp E eq not k b).2.length≤100:=by
 unfold vp;have q1:=afh hk h1 h2;have q2:=Rq hk h1 h2;have q3:=Rq hk q1.1 q1.2;cases(eq||(E==0)!=not)<;>cases(eq||(E==0)==not)
 ·exact⟨h1,h2⟩
 ·exact q1
 ·exact q2
 exact q3
theorem yQ{key:ByteArray}{not:Bool}(h1:b.1.length≤100)(h2:b.2.length≤100):(nu key ops not b).1.length≤100∧(nu key ops not b).2.length≤100:=by
 unfold nu;split
 ·exact⟨h1,h2⟩
 split
 ·exact⟨h1,h2⟩
 exact J3 (Fi _) h1 h2
theorem J4(key:ByteArray):∀(f:Nat) (ops:List aS) (b:lp),b.1.length≤100→b.2.length≤100→(gk key f ops b).1.length≤100∧(gk key f ops b).2.length≤100
 | 0,_,b,h1,h2=>⟨h1,h2⟩
 | f+1,ops,b,h1,h2=>by
  rw[gk];split
  ·have q:=J4 key f (ops.take (iU ops (ops.length-1) 1)) b h1 h2;exact J4 key f _ _ q.1 q.2
  split
  ·exact yQ h1 h2
  exact yQ h1 h2
theorem EP(h:runs 0 ops=some 1):1≤ops.length:=by
 cases ops with
 | nil=>rw[runs] at h;cases h
 | cons=>simp
theorem Rr(h:runs 0 ops=some 1):∃(hn:ops.length-1<ops.length),runs 0 (ops.take (ops.length-1))=some (bK ops[ops.length-1].k):=by
 have hp:=EP h;have aa:ops.length-1<ops.length:=(by omega)
 refine⟨aa,?_⟩;obtain⟨h',e1,e2,E⟩:=IK aa (by rw[show ops.length-1+1=ops.length by omega,take_length];exact h);rw[e1];congr 1;omega
theorem afi(h:runs 0 ops=some 1)(hk:nN ops (ops.length-1)=3):iU ops (ops.length-1) 1<ops.length-1∧runs 0 (ops.take (iU ops (ops.length-1) 1))=some 1∧runs 0 ((ops.take (ops.length-1)).drop (iU ops (ops.length-1) 1))=some 1∧runs 0 (ops.take (ops.length-1))=some 2:=by
 obtain⟨hn,e⟩:=Rr h;rw[u3 hn] at hk;rw[hk] at e;obtain⟨q1,q2,q3⟩:=Rp (ops.length-1) 1 2 w4 e w8 w8;exact⟨q1,q2,q3 0 w8,e⟩
variable {key:ByteArray}
theorem agM{ls:List aS}{j:Nat}(h:j<ls.length):((ls.flatMap cO).drop (j*5+1)).take 3=cV ls[j].v:=by
 rw[←drop_drop,uW mQ,drop_eq_getElem_cons h,flatMap_cons];rfl
theorem adg(hG:(2,[Value.int .i64 m])∈G)(key:ByteArray)(f:Nat)(hf:f≤40)(IH:∀(ops:List aS) (lo hi:List UInt8),ops.length≤f→runs 0 ops=some 1→(∀o∈ops,o.v.Ok)→lo.length≤100→hi.length≤100→∀b0,VC Tryz.prog G 162 [cU b0,aZ key,au 5 cO ops] [⟨b0,230,2,[au 1 cB lo,au 1 cB hi]⟩] (fun r S=>r = .dh []∧S=[⟨b0,230,2,[.list 1 ((gk key f ops (lo,hi)).1.flatMap cB) (gk key f ops (lo,hi)).1.length,.list 1 ((gk key f ops (lo,hi)).2.flatMap cB) (gk key f ops (lo,hi)).2.length]⟩]))(ops:List aS)(lo hi:List UInt8)(hl:ops.length≤f+1)(pG:ops.length≤40)(hr:runs 0 ops=some 1)(aV:∀o∈ops,o.v.Ok)(eJ:lo.length≤100)(eD:hi.length≤100)(b0:Nat):VC Tryz.prog G 162 [cU b0,aZ key,au 5 cO ops] [⟨b0,230,2,[au 1 cB lo,au 1 cB hi]⟩] (fun r S=>r = .dh []∧S=[⟨b0,230,2,[.list 1 ((gk key (f+1) ops (lo,hi)).1.flatMap cB) (gk key (f+1) ops (lo,hi)).1.length,.list 1 ((gk key (f+1) ops (lo,hi)).2.flatMap cB) (gk key (f+1) ops (lo,hi)).2.length]⟩]):=by
 refine VC.body func162 rfl ntmps162 aQ fun X0 w0 bf=>?_;have hp0:=EP hr;obtain⟨gw,YE⟩:=Rr hr;have I:=u3 gw;have cY:=dN;have yj:=tP ops[ops.length-1].k;refine bS ?_;refine OD.box (ds:=[_]) ap rfl rfl ot rfl rfl (fun b4=>?_);refine an 155 [0,2,4] ?_;refine cM [0,2,4,6] ?_;refine aP 2 ?_ (h:=by exact(dj rfl ot bP (gN (r:=((ops.length-1:Nat):Int)) (by rw[show((ops.length:Nat):Int)-1=((ops.length-1:Nat):Int) by omega];exact wrap_i64 w4 w4))));refine bD ?_;refine af [0,2,4,6,22] ?_;refine ax ?_ ?_<;>intro aO bA
 ·have mb:nN ops (ops.length-1)=3:=(by rw[I];omega)
  obtain⟨Dt,XQ,hm3,hm4⟩:=afi hr mb;have aW:(gk key (f+1) ops (lo,hi))=gk key f ((ops.take (ops.length-1)).drop (iU ops (ops.length-1) 1)) (gk key f (ops.take (iU ops (ops.length-1) 1)) (lo,hi)):=(by rw[gk,if_pos mb])
  have Du:=J4 key f (ops.take (iU ops (ops.length-1) 1)) (lo,hi) eJ eD;refine cL [0,2,4,6,7] (abu ops w4 (ops.length-1) w4 2 hm4 w8) ?_;refine CD.seq ?_;refine nD 5 [0,2,4,6,7,26,27,30] ?_;refine aP 4 ?_ (h:=by exact(eE (l:=0) rfl ot trivial ⟨_,ot⟩ GY));refine jI ?_;refine OD.call ap rfl rfl rfl call162 (IH (ops.take (iU ops (ops.length-1) 1)) (lo) (hi) (by simp only[length_drop,length_take];omega) XQ (fun o ho=>aV o (mem_of_mem_take ho)) w4 w4 b0) ⟨ot,ot,ot,trivial⟩ (mM (k:=1) rfl) ?_;rintro _ _ ⟨rfl,rfl⟩;refine an 155 [0,2,4,6,7] ?_;refine CD.seq ?_;refine nD 6 [32,33,37] ?_;refine aP 5 ?_ (h:=by exact(eE (l:=(iU ops (ops.length-1) 1)) (h:=(ops.length-1)) rfl ot ⟨_,ot⟩ ⟨_,ot⟩ (agw mQ (fun h=>by cases h) (fun h=>by cases h) runUnderlying36 sizeOf35 w4 w4)));refine jI ?_;refine OD.call ap rfl rfl rfl call162 (IH ((ops.take (ops.length-1)).drop (iU ops (ops.length-1) 1)) ((gk key f (ops.take (iU ops (ops.length-1) 1)) (lo,hi)).1) ((gk key f (ops.take (iU ops (ops.length-1) 1)) (lo,hi)).2) (by simp only[length_drop,length_take];omega) hm3 (fun o ho=>aV o (mem_of_mem_take (mem_of_mem_drop ho))) w4 w4 b0) ⟨ot,ot,ot,trivial⟩ (mM (k:=0) rfl) ?_;rintro _ _ ⟨rfl,rfl⟩;refine an 155 [] ?_;exact z37
 have mb:¬nN ops (ops.length-1)=3:=(by rw[I];omega)
 refine af [0,2,4,6,8] ?_;refine CD.cut (fun aD=>∃(bn:List aS),∃(nt:Bool),((gk key (f+1) ops (lo,hi))=nu key bn nt (lo,hi))∧(1≤bn.length)∧(bn.length≤40)∧(∀o∈bn,o.v.Ok)∧(bn.length-1<bn.length)∧aD=(⟨155,[(0,cU b0),(2,au 5 cO bn),(4,cU b4),(6,ae ((bn.length-1):Nat)),(8,bI nt)],[⟨b4,9,1,[aZ key]⟩,⟨b0,230,2,[au 1 cB lo,au 1 cB hi]⟩]⟩:St)) ?_ ?_
 ·refine af [0,2,4,6,8,45] ?_;refine ax ?_ ?_<;>intro aY cz
  ·have U:nN ops (ops.length-1)=5:=(by rw[I];simpa using aY)
   have ir:2≤ops.length:=(by rw[←I,U] at YE;have:=EP YE;rw[length_take] at this;omega)
   have AP:(gk key (f+1) ops (lo,hi))=nu key (ops.take (ops.length-1)) true (lo,hi):=(by rw[gk,if_neg mb,if_pos U])
   have tq:(ops.take (ops.length-1)).length=(ops.length-1):=(by rw[length_take];omega)
   refine cM [0,2,4,6,8] ?_;refine aP 2 ?_ (h:=by exact(eE (l:=0) rfl ot trivial ⟨_,ot⟩ GY));refine bD ?_;refine gC [0,2,4,6,8] ?_;refine aP 1 ?_ (h:=by exact(dj rfl ot bP (gN (r:=((ops.length-1-1:Nat):Int)) (by rw[show((ops.length-1:Nat):Int)-1=((ops.length-1-1:Nat):Int) by omega];exact wrap_i64 w4 w4))));refine bD ?_;refine⟨_,(aJ (h:=by repeat (first|exact trivial|refine⟨(by (repeat (first|exact fI|(apply fX;focus (first|rfl|(rw[tq];done)|(rw[aY];done)))|(apply fN;focus rfl)));done),?_⟩))),(ops.take (ops.length-1)),true,AP,w4,w4,(fun o ho=>aV o (mem_of_mem_take ho)),w4,rfl⟩
  have U:¬nN ops (ops.length-1)=5:=(by rw[I];simpa using aY)
  have AP:(gk key (f+1) ops (lo,hi))=nu key ops false (lo,hi):=(by rw[gk,if_neg mb,if_neg U])
  refine CD.skip ?_;refine⟨_,(aJ (h:=by repeat (first|exact trivial|refine⟨(by (repeat (first|exact fI|(apply fX;focus (first|rfl|(rw[tq];done)|(rw[aY];done)))|(apply fN;focus rfl)));done),?_⟩))),ops,false,AP,hp0,pG,aV,gw,rfl⟩
 rintro _ ⟨bn,nt,aW,oK,aqL,jZ,vr,rfl⟩;refine iv [0,2,4,6,8] (fun aR lK aD=>(¬(bn.length≠3∨(nt=true∧bn[bn.length-1].k≠7)∨(bn[bn.length-1].k≠6∧bn[bn.length-1].k≠7)))∧aD=(⟨155,aR,lK⟩:St)) ?_ ?_
 ·refine aA 3 ?_;refine bW 53 (fun LY K8=>?_) (fun LY K8=>?_)
  ·refine bp [0,2,4,6,8,79] ?_;refine eT ?_;exact z31
  refine aG 2 ?_;refine bW 55 (fun ua ah9=>?_) (fun ua ah9=>?_)
  ·refine aG 9 ?_;refine bW 64 (fun Ma Lc=>?_) (fun Ma Lc=>?_)
   ·refine bp [0,2,4,6,8,79] ?_;refine eT ?_;exact z31
   refine aG 7 ?_;exact W9
  refine yd 6 ?_;refine aG 10 ?_;exact W9
 rintro _ ⟨sJ,rfl⟩;refine aA 1 ?_;refine bQ (eE (l:=0) (h:=2) rfl ot trivial ⟨_,bP⟩ GY) ?_;refine bQ (pP (ds:=[_]) rfl ⟨ot,trivial⟩) ?_;refine OD.call ap rfl rfl rfl call174 (PY (bn.take 2) 175 [cU b4] _ (mr key) call175 (fun h _=>abv h key b4) pp) ⟨ot,ot,trivial⟩ (mM (k:=0) rfl) ?_;rintro _ SS2 ⟨rfl,E⟩;rw[E];clear E;refine an 155 [0,2,6,8,9] ?_;refine aA 1 ?_;refine bQ (eE (l:=0) (h:=2) rfl ot trivial ⟨_,bP⟩ GY) ?_;refine OD.call ap rfl rfl rfl call174 (PY (bn.take 2) 176 [] [] gP call176 (fun h _=>abw h) pp) ⟨ot,tE,trivial⟩ (fa _) ?_;rintro _ SS2 ⟨rfl,E⟩;rw[E];clear E;refine an 155 [0,2,6,8,9,10] ?_;refine aA 3 ?_;refine bW 89 (fun akv aia=>?_) (fun akv aia=>?_)
 ·refine bp [0,2,6,8,9,10,92] ?_;refine eT ?_;exact z116
 refine bp [0,2,6,8,9,10,92] ?_;refine ax ?_ ?_<;>intro cQ ek
 ·exact z116
 have cc:¬((dA (mr key) (bn.take 2))<0∨(dA gP (bn.take 2))<0):=(by first|omega|(simp_all;omega)|simp_all)
 have hLb:=wz gP (bn.take 2);have Hr:bn.length=3:=(by omega)
 rw[length_take] at hLb;have O:(dA gP (bn.take 2)).toNat<bn.length:=(by omega)
 have Ny:zU bn=(ga [bn[(dA gP (bn.take 2)).toNat].v]).1:=(by unfold zU;rw[getD_eq_getElem?_getD,getElem?_eq_getElem O];rfl)
 have Vc:(gk key (f+1) ops (lo,hi))=vp (dA (mr key) (bn.take 2)) (bn[bn.length-1].k==6) nt (ga [bn[(dA gP (bn.take 2)).toNat].v]).1 (lo,hi):=(by rw[aW];unfold nu;rw[u3 vr,if_neg sJ,if_neg cc,Ny])
 have uF:=agz hG [bn[(dA gP (bn.take 2)).toNat].v] ig (fun v hv=>by rw[mem_singleton] at hv;rw[hv];exact jZ _ (getElem_mem O));have dU:=Fi [bn[(dA gP (bn.take 2)).toNat].v];unfold LO BG at uF;refine cM [0,2,6,8,9,11] ?_;refine aP 2 ?_ (h:=by exact(dw 5 (h:=by first|exact .l (j:=(dA gP (bn.take 2)).toNat) w4 O|exact .r (j:=(dA gP (bn.take 2)).toNat) w4 O)));refine aP 1 ?_ (h:=by exact(cR (mk:=Op.load 33) rfl ot (qJ isAgg33 sizeOf33 rfl (agM O))));refine cJ (uF) ?_;refine bD ?_;refine af [0,8,9,11,13] ?_;refine iv [0,8,9,11,13] (fun aR _ aD=>∃(b1:lp),(b1=(bif (bn[bn.length-1].k==6)||(((dA (mr key) (bn.take 2))==0)==nt) then oD (ga [bn[(dA gP (bn.take 2)).toNat].v]).1 (lo,hi) else (lo,hi)))∧(b1.1.length≤100)∧(b1.2.length≤100)∧aD=(⟨155,aR,[⟨b0,230,2,[au 1 cB b1.1,au 1 cB b1.2]⟩]⟩:St)) ?_ ?_
 ·refine aA 2 ?_;refine bW 110 (fun KV Z=>?_) (fun KV Z=>?_)
  ·refine bp [0,8,9,11,13,115] ?_;refine eT ?_;exact z22
  refine aG 3 ?_;refine OD.still iq rfl (dj rfl ot ot (EG underlying4)) ?_;refine an 155 [0,8,9,11,13,115] ?_;refine ax ?_ ?_<;>intro dV fB
  ·exact z22
  have CR:(lo,hi)=(bif (bn[bn.length-1].k==6)||(((dA (mr key) (bn.take 2))==0)==nt) then oD (ga [bn[(dA gP (bn.take 2)).toNat].v]).1 (lo,hi) else (lo,hi)):=(by rw[KV,dV];rfl)
  refine CD.skip ?_;refine⟨_,aJ,(lo,hi),CR,(by first|exact dU|exact eJ),eD,rfl⟩
 rintro _ ⟨b1,ji,aqM,aqN,rfl⟩;refine aA 2 ?_;refine bW 129 (fun KU agN=>?_) (fun KU agN=>?_)
 ·refine bp [0,11,134] ?_;refine eT ?_;exact WY
 refine aG 3 ?_;refine OD.still iq rfl (dj rfl ot ot (QK underlying4)) ?_;refine an 155 [0,11,134] ?_;refine ax ?_ ?_<;>intro iP o9
 ·exact WY
 have MW:((bn[bn.length-1].k==6) || !(((dA (mr key) (bn.take 2))==0)==nt))=false:=(by rw[KU,iP];rfl)
 have s5:(gk key (f+1) ops (lo,hi))=b1:=(by rw[Vc];unfold vp;rw[show((bn[bn.length-1].k==6)||((dA (mr key) (bn.take 2))==0)!=nt)=false from MW,←ji];rfl)
 refine aK [⟨b0,_,_,_⟩] ?_;refine⟨rfl,?_⟩;first|rw[s5]|rw[aW]
theorem UN(hG:(2,[Value.int .i64 m])∈G)(key:ByteArray):∀(f:Nat),f≤40→∀(ops:List aS) (lo hi:List UInt8),ops.length≤f→runs 0 ops=some 1→(∀o∈ops,o.v.Ok)→lo.length≤100→hi.length≤100→∀b0,VC Tryz.prog G 162 [cU b0,aZ key,au 5 cO ops] [⟨b0,230,2,[au 1 cB lo,au 1 cB hi]⟩] (fun r S=>r = .dh []∧S=[⟨b0,230,2,[.list 1 ((gk key f ops (lo,hi)).1.flatMap cB) (gk key f ops (lo,hi)).1.length,.list 1 ((gk key f ops (lo,hi)).2.flatMap cB) (gk key f ops (lo,hi)).2.length]⟩]):=by
 intro f;induction f with
 | zero =>
  intro _ ops lo hi hl hr;have:=EP hr;omega
 | succ f IH =>
  intro hf ops lo hi hl hr aV eJ eD b0;exact adg hG key f w4 (IH w4) ops lo hi hl w4 hr aV eJ eD b0
def iK(l:List cx)(ops:List aS):lp×Int :=
 if fO l≠0 then (([],[]),fO l) else if ops.length=0 then (([],[]),0) else if (dm l ops).2≠0 then (([],[]),(dm l ops).2)
 else if (dm l ops).1≠1∧(dm l ops).1≠0 then (([],[]),4) else (gk (l.getD 0 ⟨⟨#[]⟩,0⟩).n ops.length ops ([],[]),0)
def NW(r:lp×Int):D:=.dh [BG r.1.1,BG r.1.2,ae r.2]
theorem adi{l:List cx}(h:fO l=0):0<l.length:=by
 unfold fO at h;split at h
 ·cases h
 omega
theorem aao(h:ij ops=0):runs 0 ops=some 1:=by
  obtain⟨_,h0⟩:=wA h;have key:∀(l:List aS) (k:Int),fP k l=0→runs k l=some 1:=by
    intro l;induction l with
    | nil => intro k h; rw[fP] at h; split at h; · rename_i e; rw[runs, e]
             · cases h
    | cons o r ih =>
      intro k h;rw[fP] at h;split at h
      · rename_i e;rw[runs,if_pos e];exact ih _ h
      rename_i e;exact absurd h e
  exact key ops 0 h0
theorem aby(hm:(3,marksC)∈G)(hw:(1,wordsC)∈G)(ht:(0,typesC)∈G)(hG:(2,[Value.int .i64 m])∈G)(l:List cx)(hl:l.length≤6)(I:∀c∈l,c.n.size≤maxLen)(ops:List aS)(ho:∀o∈ops,o.nm.size≤maxLen)(aV:∀o∈ops,o.v.Ok):VP Tryz.prog G 149 [au 2 cC l,au 5 cO ops] (NW (iK l ops)):=by
 refine VC.body func149 rfl ntmps149 aQ fun X0 w0 bf=>?_;have cY:=dN;have eV:=Fl hm hw ht l w4 I;have Z:=Fm hm hw ht l hl I ops ho;unfold ph at Z;unfold NW BG;refine af [0,1] ?_;refine cL [0,1,7] (eV) ?_;refine af [0,1,7,13] ?_;refine ax ?_ ?_<;>intro aO bA
 ·have h0:fO l≠0:=(by simpa using aO)
  have aW:iK l ops=(([],[]),fO l):=(by unfold iK;rw[if_pos h0])
  exact Gr
 have h0:¬fO l≠0:=(by simpa using aO)
 have E:=adi (Classical.not_not.1 h0);refine af [0,1,17] ?_;refine ax ?_ ?_<;>intro aY cz
 ·have h1:ops.length=0:=(by simpa using aY)
  have aW:iK l ops=(([],[]),0):=(by unfold iK;rw[if_neg h0,if_pos h1])
  exact Gr
 have h1:¬ops.length=0:=(by simpa using aY)
 refine cL [0,1,6,8] (Z) ?_;refine af [0,1,6,8,25] ?_;refine ax ?_ ?_<;>intro cc cN
 ·have h2:(dm l ops).2≠0:=(by simpa using cc)
  have aW:iK l ops=(([],[]),(dm l ops).2):=(by unfold iK;rw[if_neg h0,if_neg h1,if_pos h2])
  exact Gr
 have h2:¬(dm l ops).2≠0:=(by simpa using cc)
 obtain⟨k1,k2,k3⟩:=Fp (Classical.not_not.1 h2);have AP:=aao k2;obtain⟨pG,_⟩:=wA k2;refine aA 3 ?_;refine bW 29 (fun akw O=>?_) (fun akw O=>?_)
 ·refine bp [0,1,32] ?_;refine ax ?_ ?_<;>intro cQ ek
  ·have h3:(dm l ops).1≠1∧(dm l ops).1≠0:=(by simp_all)
   have aW:iK l ops=(([],[]),4):=(by unfold iK;rw[if_neg h0,if_neg h1,if_neg h2,if_pos h3])
   exact Gr
  have h3:¬((dm l ops).1≠1∧(dm l ops).1≠0):=(by simp_all)
  have aW:iK l ops=(gk l[0].n ops.length ops ([],[]),0):=(by unfold iK;rw[if_neg h0,if_neg h1,if_neg h2,if_neg h3,getD_eq_getElem?_getD,getElem?_eq_getElem E];rfl)
  refine aA 1 ?_;refine OD.box (ds:=[_,_]) ap rfl rfl ot rfl rfl (fun U=>?_);refine OD.wk (Wk.Wc (k:=0) (sz:=1) (sz':=1) rfl) ?_;refine an 50 [0,1,9] ?_;refine aA 2 ?_;refine bQ (oe (mk:=Op.indexAddr 29) rfl ot bP (by first|exact oU runUnderlying29 sizeOf28 (j:=0) rfl E|exact oV runUnderlying29 sizeOf28 (j:=0) rfl E)) ?_;refine aG 3 ?_;refine OD.call ap rfl rfl rfl call162 (UN hG l[0].n ops.length pG ops [] [] (Nat.le_refl _) AP aV (Nat.zero_le _) (Nat.zero_le _) U) ⟨ot,ot,ot,trivial⟩ (mM (k:=0) rfl) ?_;rintro _ _ ⟨rfl,rfl⟩;refine an 50 [9] ?_;refine af [4,5,6] ?_;exact oJ
 refine bp [0,1,32] ?_;refine fY ?_;have h3:¬((dm l ops).1≠1∧(dm l ops).1≠0):=(by simp_all)
 have aW:iK l ops=(gk l[0].n ops.length ops ([],[]),0):=(by unfold iK;rw[if_neg h0,if_neg h1,if_neg h2,if_neg h3,getD_eq_getElem?_getD,getElem?_eq_getElem E];rfl)
 refine aA 1 ?_;refine OD.box (ds:=[_,_]) ap rfl rfl ot rfl rfl (fun U=>?_);refine OD.wk (Wk.Wc (k:=0) (sz:=1) (sz':=1) rfl) ?_;refine an 50 [0,1,9] ?_;refine aA 2 ?_;refine bQ (oe (mk:=Op.indexAddr 29) rfl ot bP (by first|exact oU runUnderlying29 sizeOf28 (j:=0) rfl E|exact oV runUnderlying29 sizeOf28 (j:=0) rfl E)) ?_;refine aG 3 ?_;refine OD.call ap rfl rfl rfl call162 (UN hG l[0].n ops.length pG ops [] [] (Nat.le_refl _) AP aV (Nat.zero_le _) (Nat.zero_le _) U) ⟨ot,ot,ot,trivial⟩ (mM (k:=0) rfl) ?_;rintro _ _ ⟨rfl,rfl⟩;refine an 50 [9] ?_;refine af [4,5,6] ?_;exact z59

end Go.Proofs.YtkgmonfgofobaaaGreatDoor.Ex
namespace Go.Proofs.YtkgmonfgofobaaaGreatDoor.Tr
open List
open Go.Proofs.Tryz
open Go.Lib (compareBytes)
variable {i j:Nat}
abbrev K:=List UInt8
variable {a b c k low:K}
theorem HI(a b:UInt8)(x y:K):compareBytes (a::x) (b::y)=if a<b then -1 else if b<a then 1 else compareBytes x y:=by rw[compareBytes]
theorem u8{a b:UInt8}:a<b↔a.toNat<b.toNat:=UInt8.lt_iff_toNat_lt
theorem yq:∀(x y:K),(compareBytes x y = -1∧compareBytes y x=1)∨(compareBytes x y=0∧x=y)∨(compareBytes x y=1∧compareBytes y x = -1)
 | [],[]=>.inr (.inl ⟨rfl,rfl⟩)
 | [],_::_=>.inl ⟨rfl,rfl⟩
 | _::_,[]=>.inr (.inr ⟨rfl,rfl⟩)
 | a::x,b::y=>by
  rw[HI,HI];by_cases h1:a<b
  ·have h2:¬b<a:=(by rw[u8] at h1 ⊢;omega)
   rw[if_pos h1,if_neg h2,if_pos h1];exact .inl ⟨rfl,rfl⟩
  by_cases h2:b<a
  ·rw[if_neg h1,if_pos h2,if_pos h2];exact .inr (.inr ⟨rfl,rfl⟩)
  rw[if_neg h1,if_neg h2,if_neg h2,if_neg h1];have ri:a=b:=by
   apply UInt8.toNat_inj.1;rw[u8] at h1 h2;omega
  subst ri;rcases yq x y with h|⟨h,e⟩|h
  ·exact .inl h
  ·exact .inr (.inl ⟨h,by rw[e]⟩)
  exact .inr (.inr h)
theorem Vm:∀(x y z:K),compareBytes x y = -1→compareBytes y z = -1→compareBytes x z = -1
 | [],[],_,h,_=>by cases h
 | _::_,[],_,h,_=>by cases h
 | _,_::_,[],_,h=>by cases h
 | [],_::_,_::_,_,_=>rfl
 | a::x,b::y,c::z,h1,h2=>by
  rw[HI] at h1 h2 ⊢;by_cases p:a<b
  ·by_cases q:b<c
   ·rw[if_pos (by rw[u8] at p q ⊢;omega)]
   rw[if_neg q] at h2;by_cases r:c<b
   ·rw[if_pos r] at h2;cases h2
   rw[if_pos (by rw[u8] at p q r ⊢;omega)]
  rw[if_neg p] at h1;by_cases p':b<a
  ·rw[if_pos p'] at h1;cases h1
  rw[if_neg p'] at h1;by_cases q:b<c
  ·rw[if_pos (by rw[u8] at p p' q ⊢;omega)]
  rw[if_neg q] at h2;by_cases r:c<b
  ·rw[if_pos r] at h2;cases h2
  rw[if_neg r] at h2;rw[if_neg (by rw[u8] at p p' q r ⊢;omega),if_neg (by rw[u8] at p p' q r ⊢;omega)];exact Vm x y z h1 h2
def bC(a b:K):Prop:=compareBytes a b<0
instance (a b:K):Decidable (bC a b):=inferInstanceAs (Decidable (_<_))
theorem J5:bC a b↔compareBytes a b = -1:=by
 unfold bC;rcases yq a b with ⟨h,_⟩|⟨h,_⟩|⟨h,_⟩<;>rw[h]<;>decide
theorem Uv:0<compareBytes a b↔bC b a:=by
 unfold bC;rcases yq a b with ⟨h,h'⟩|⟨h,rfl⟩|⟨h,h'⟩
 ·rw[h,h'];decide
 ·rw[h]
 rw[h,h'];decide
theorem KF(a:K):¬bC a []:=by
 unfold bC;cases a with
 | nil=>decide
 | cons x y=>show ¬(1:Int)<0;decide
theorem jV(a:K):¬bC a a:=fun h=>by
 rcases yq a a with ⟨h1,h2⟩|⟨h1,_⟩|⟨h1,h2⟩
 ·omega
 ·unfold bC at h;omega
 omega
theorem lR(h1:bC a b)(h2:bC b c):bC a c:=J5.2 (Vm a b c (J5.1 h1) (J5.1 h2))
theorem zc(h:bC a b):¬bC b a:=fun h'=>jV a (lR h h')
theorem u7(a b:K):bC a b∨a=b∨bC b a:=by
 unfold bC;rcases yq a b with ⟨h,_⟩|⟨_,h⟩|⟨_,h⟩
 ·exact .inl w4
 ·exact .inr (.inl h)
 exact .inr (.inr w4)
theorem tY:compareBytes a b=0↔a=b:=⟨fun h=>by
 rcases yq a b with ⟨h1,_⟩|⟨_,h1⟩|⟨h1,_⟩
 ·omega
 ·exact h1
 ·omega,fun h=>by
 subst h;rcases yq a a with ⟨h1,h2⟩|⟨h1,_⟩|⟨h1,h2⟩
 ·omega
 ·exact h1
 omega⟩
theorem OV(h1:¬bC b a)(h2:bC b c):bC a c:=by
 rcases u7 a b with h|rfl|h
 ·exact lR h h2
 ·exact h2
 exact absurd h h1
theorem Z2(h1:bC a b)(h2:¬bC c b):bC a c:=by
 rcases u7 b c with h|rfl|h
 ·exact lR h1 h
 ·exact h1
 exact absurd h h2
theorem Vn(h1:¬bC b a)(h2:¬bC c b):¬bC c a:=fun h=>by
 rcases u7 a b with h'|rfl|h'
 ·exact h2 (lR h h')
 ·exact h2 h
 exact h1 h'
theorem rz{α β:Type}{l:List α}{f g:α→List β}(h:∀a∈l,f a=g a):l.flatMap f=l.flatMap g:=by
 induction l with
 | nil=>rfl
 | cons a r ih=>rw[flatMap_cons,flatMap_cons,h a mem_cons_self,ih fun x hx=>h x (mem_cons_of_mem _ hx)]
structure cW where
 leaf:Bool
 keys:List K
 kids:List Int
 high:K
 next:Int
variable {p:cW}
def akx:cW:=⟨false,[],[],[],0⟩
structure aF where
 ag:List cW
 root:Int
def aF.pg(t:aF)(i:Int):cW:=t.ag.getD i.toNat akx
def qc:aF:=⟨[⟨true,[],[],[],-1⟩],0⟩
structure eH (p:cW) (many:Int):Prop where
 eI:p.keys.length≤4
 hlen:p.high.length≤100
 wY:-1≤p.next
 wM:p.next<many
 wZ:p.next<0↔p.high=[]
 leaf:p.leaf=true→p.kids.length=p.keys.length
 node:p.leaf=false→p.kids.length=p.keys.length+1∧p.keys≠[]
 lC:∀k∈p.keys,1≤k.length∧k.length≤100
 qN:p.high≠[]→∀k∈p.keys,bC k p.high
 j4:p.keys.Pairwise bC
 az:∀n∈p.kids,0≤n
 vu:p.leaf=false→∀n∈p.kids,n<many
theorem eH.more{m E:Int}(h:eH p m)(hm:m≤E):eH p E :=
 ⟨h.eI,h.hlen,h.wY,by have:=h.wM;omega,h.wZ,h.leaf,h.node,h.lC,h.qN,h.j4,h.az,fun hl n hn=>by have:=h.vu hl n hn;omega⟩
def iw(low:K)(p:cW)(j:Nat):K:=if j=0 then low else p.keys.getD (j-1) []
def gY(p:cW)(j:Nat):K:=p.keys.getD j p.high
def dM(t:aF):Nat→Int→K→K→Prop
 | 0,i,low,high=>(0≤i∧i<t.ag.length)∧(t.pg i).leaf=true∧(t.pg i).high=high∧∀k∈(t.pg i).keys,¬bC k low
 | h+1,i,low,high=>(0≤i∧i<t.ag.length)∧(t.pg i).leaf=false∧(t.pg i).high=high∧(∀k∈(t.pg i).keys,¬bC k low) ∧
  ∀j (hj:j<(t.pg i).kids.length),dM t h (t.pg i).kids[j] (iw low (t.pg i) j) (gY (t.pg i) j)
def ids(t:aF):Nat→Int→List Int
 | 0,i=>[i]
 | h+1,i=>i::(t.pg i).kids.flatMap (ids t h)
def cA(t:aF):Nat→Int→List Int
 | 0,i=>[i]
 | d+1,i=>(t.pg i).kids.flatMap (cA t d)
def ff(p:cW):List (K×Int):=p.keys.zip p.kids
def eo(t:aF):Nat→Int→List (K×Int)
 | 0,i=>ff (t.pg i)
 | h+1,i=>(t.pg i).kids.flatMap (eo t h)
def fi(t:aF):List Int→Int→Prop
 | [],_=>True
 | [i],e=>(t.pg i).next=e
 | i::j::r,e=>(t.pg i).next=j∧fi t (j::r) e
structure Valid (t:aF) (h:Nat):Prop where
 pos:1≤t.ag.length
 nW:t.ag.length≤4000
 fK:∀p∈t.ag,eH p t.ag.length
 ok:dM t h t.root [] []
 zV:(ids t h t.root).Nodup
 all:(ids t h t.root).length=t.ag.length
 pJ:∀d,d≤h→fi t (cA t d t.root) (-1)
theorem dM.idx{t:aF}:∀{h:Nat} {i:Int} {low high:K},dM t h i low high→0≤i∧i<t.ag.length
 | 0,_,_,_,h=>h.1
 | _+1,_,_,_,h=>h.1
theorem dM.high{t:aF}:∀{h:Nat} {i:Int} {low high:K},dM t h i low high→(t.pg i).high=high
 | 0,_,_,_,h=>h.2.2.1
 | _+1,_,_,_,h=>h.2.2.1
theorem vl{t:aF}{i:Int}(h:0≤i∧i<t.ag.length):t.pg i=t.ag[i.toNat]'w4:=by
 unfold aF.pg;rw[getD_eq_getElem?_getD,getElem?_eq_getElem w4];rfl
theorem jC{t:aF}{i:Int}(h:0≤i∧i<t.ag.length):t.pg i∈t.ag:=by rw[vl h];exact getElem_mem _
theorem tD{t:aF}(h:Nat)(i:Int):i∈ids t h i:=by cases h<;>simp[ids]
theorem frame{t u:aF}:∀(h:Nat) (i:Int),(∀j∈ids t h i,u.pg j=t.pg j)→ids u h i=ids t h i∧eo u h i=eo t h i∧∀d,d≤h→cA u d i=cA t d i
 | 0,i,hp=>by
  have h0:=hp i (tD 0 i);refine⟨rfl,by unfold eo;rw[h0],fun d hd=>?_⟩;obtain rfl:d=0:=(by omega)
  rfl
 | h+1,i,hp=>by
  have h0:=hp i (tD _ i);have hs:∀j∈(t.pg i).kids,ids u h j=ids t h j∧eo u h j=eo t h j∧∀d,d≤h→cA u d j=cA t d j:=fun j hj=>frame h j fun x hx=>hp x (by
   rw[ids];exact mem_cons_of_mem _ (mem_flatMap.2 ⟨j,hj,hx⟩))
  refine⟨?_,?_,fun d hd=>?_⟩
  ·rw[ids,ids,h0];congr 1;exact rz (fun j hj=>(hs j hj).1)
  ·rw[eo,eo,h0];exact rz (fun j hj=>(hs j hj).2.1)
  cases d with
  | zero=>rfl
  | succ d=>rw[cA,cA,h0];exact rz (fun j hj=>(hs j hj).2.2 d w4)
theorem dM.frame{t u:aF}(hl:t.ag.length≤u.ag.length):∀{h:Nat} {i:Int} {low high:K},dM t h i low high→(∀j∈ids t h i,u.pg j=t.pg j)→dM u h i low high
 | 0,i,low,high,⟨q1,q2,q3,E⟩,hp=>by
  have h0:=hp i (tD 0 i);exact⟨⟨q1.1,by omega⟩,by rw[h0];exact q2,by rw[h0];exact q3,by rw[h0];exact E⟩
 | h+1,i,low,high,⟨q1,q2,q3,E,I⟩,hp=>by
  have h0:=hp i (tD _ i);refine⟨⟨q1.1,by omega⟩,by rw[h0];exact q2,by rw[h0];exact q3,by rw[h0];exact E,?_⟩;rw[h0];exact fun j hj=>dM.frame hl (I j hj) fun x hx=>hp x (by rw[ids];exact mem_cons_of_mem _ (mem_flatMap.2 ⟨_,getElem_mem hj,hx⟩))
theorem dM.ids{t:aF}:∀{h:Nat} {i:Int} {low high:K},dM t h i low high→∀j∈Tr.ids t h i,0≤j∧j<t.ag.length
 | 0,i,low,high,q,j,hj=>by
  rw[Tr.ids,mem_singleton] at hj;subst hj;exact q.1
 | h+1,i,low,high,⟨q1,q2,q3,I,E⟩,j,hj=>by
  rw[Tr.ids] at hj;rcases mem_cons.1 hj with rfl|hj
  ·exact q1
  obtain⟨x,hx,hj⟩:=mem_flatMap.1 hj;obtain⟨n,hn,rfl⟩:=mem_iff_getElem.1 hx;exact dM.ids (E n hn) j hj

theorem Ld{α:Type}{p:α→Bool}:∀{l:List α} {i:Nat} (h:i<(l.takeWhile p).length),∃(h':i<l.length),p l[i]=true
 | a::r,i,h=>by
  rw[takeWhile_cons] at h;by_cases ha:p a=true
  ·rw[if_pos ha] at h;cases i with
   | zero=>exact⟨by simp,ha⟩
   | succ i =>
    obtain⟨h',q⟩:=Ld (l:=r) (i:=i) px;exact⟨by simpa using h',by simpa using q⟩
  rw[if_neg ha] at h;simp at h
theorem KG{α:Type}{p:α→Bool}:∀{l:List α} (h:(l.takeWhile p).length<l.length),p l[(l.takeWhile p).length]=false
 | a::r,h=>by
  by_cases ha:p a=true
  ·have e:((a::r).takeWhile p).length=(r.takeWhile p).length+1:=(by rw[takeWhile_cons,if_pos ha];rfl)
   have h2:(r.takeWhile p).length<r.length:=(by rw[e] at h;simpa using h)
   have:=KG (l:=r) h2;simp only[e,getElem_cons_succ];exact this
  have e:((a::r).takeWhile p).length=0:=(by rw[takeWhile_cons,if_neg ha];rfl)
  simp only[e,getElem_cons_zero];simpa using ha
theorem Vo{α:Type}(p:α→Bool)(l:List α):(l.takeWhile p).length≤l.length:=(takeWhile_sublist p).length_le
def gA(keys:List K)(k:K):Nat:=(keys.takeWhile fun x=>decide (bC x k)).length
def mT(keys:List K)(k:K):Nat:=(keys.takeWhile fun x=>decide (¬bC k x)).length
def aL(p:cW)(k:K):Nat:=if p.leaf=true then gA p.keys k else mT p.keys k
theorem Bq{keys:List K}(h:i<gA keys k):∃(h':i<keys.length),bC keys[i] k:=by
 obtain⟨h',q⟩:=Ld h;exact⟨h',by simpa using q⟩
theorem Bf{keys:List K}(h:gA keys k<keys.length):¬bC keys[gA keys k] k:=by
 exact of_decide_eq_false (KG h)
theorem yR(keys:List K)(k:K):gA keys k≤keys.length:=Vo _ _
theorem Jh{keys:List K}(h:i<mT keys k):∃(h':i<keys.length),¬bC k keys[i]:=by
 obtain⟨h',q⟩:=Ld h;exact⟨h',by simpa using q⟩
theorem IL{keys:List K}(h:mT keys k<keys.length):bC k keys[mT keys k]:=by
 exact Classical.not_not.1 (of_decide_eq_false (KG h))
theorem Br(keys:List K)(k:K):mT keys k≤keys.length:=Vo _ _
theorem nq{keys:List K}(h:keys.Pairwise bC)(E:i<j)(hj:j<keys.length):bC keys[i] keys[j]:=pairwise_iff_getElem.1 h i j w4 hj E
theorem FL(h:j<p.keys.length):gY p j=p.keys[j]:=by unfold gY;rw[getD_eq_getElem?_getD,getElem?_eq_getElem h];rfl
theorem J6(h:p.keys.length≤j):gY p j=p.high:=by unfold gY;rw[getD_eq_getElem?_getD,getElem?_eq_none h];rfl
theorem Fs(h:0<j)(h':j-1<p.keys.length):iw low p j=p.keys[j-1]:=by unfold iw;rw[if_neg w4,getD_eq_getElem?_getD,getElem?_eq_getElem h'];rfl
def lM(low high k:K):Prop:=¬bC k low∧(high≠[]→bC k high)
theorem tQ(k:K):lM [] [] k:=⟨KF k,fun h=>absurd rfl h⟩
theorem down{n:Int}(hp:eH p n)(hl:p.leaf=false){high:K}(E:p.high=high)(hk:lM low high k):aL p k<p.kids.length∧lM (iw low p (aL p k)) (gY p (aL p k)) k:=by
 have e:aL p k=mT p.keys k:=(by unfold aL;rw[if_neg (by rw[hl];decide)])
 have I:=Br p.keys k;rw[e];refine⟨by rw[(hp.node hl).1];omega,?_,?_⟩
 ·rcases Nat.eq_zero_or_pos (mT p.keys k) with h0|h0
  ·rw[h0];exact hk.1
  obtain⟨h',q⟩:=Jh (keys:=p.keys) (k:=k) (i:=mT p.keys k-1) w4;rw[Fs h0 h'];exact q
 intro hne;by_cases aa:mT p.keys k<p.keys.length
 ·rw[FL aa];exact IL aa
 rw[J6 w4] at hne ⊢;rw[E] at hne ⊢;exact hk.2 hne
def aI(t:aF)(k:K):Nat→Int→Int
 | 0,i=>i
 | h+1,i=>aI t k h ((t.pg i).kids.getD (aL (t.pg i) k) 0)
def je(t:aF)(k:K):Nat→Int→List Int
 | 0,i=>[i]
 | h+1,i=>i::je t k h ((t.pg i).kids.getD (aL (t.pg i) k) 0)
theorem PZ(t:aF)(k:K):∀(h:Nat) (i:Int),(je t k h i).getLast?=some (aI t k h i)
 | 0,i=>rfl
 | h+1,i=>by
  have:=PZ t k h ((t.pg i).kids.getD (aL (t.pg i) k) 0);rw[je,aI,getLast?_cons,this];rfl
theorem wq(t:aF):∀(h:Nat) (i:Int),eo t h i=(cA t h i).flatMap fun l=>ff (t.pg l)
 | 0,i=>by simp[eo,cA]
 | h+1,i=>by
  rw[eo,cA,flatMap_assoc];exact rz fun j _=>wq t h j
theorem zip_fst{α β:Type}:∀{a:List α} {b:List β},b.length=a.length→(a.zip b).map Prod.fst=a
 | [],_,_=>by simp
 | x::a,[],h=>by simp at h
 | x::a,y::b,h=>by simp[zip_fst (a:=a) (b:=b) px]
theorem Rt{x:K×Int}(h:x∈ff p):x.1∈p.keys:=(of_mem_zip h).1
theorem tJ(h:j<p.kids.length):p.kids.getD j 0=p.kids[j]:=by rw[getD_eq_getElem?_getD,getElem?_eq_getElem h];rfl
variable {t:aF} {n:Int}
theorem aap(hp:eH p n)(hl:p.leaf=false){high:K}(I:p.high=high)(E:∀k∈p.keys,¬bC k low)(hj:j<p.kids.length)(hk:lM (iw low p j) (gY p j) k):lM low high k:=by
 have hn:=(hp.node hl).1;refine⟨?_,fun hne=>?_⟩
 ·rcases Nat.eq_zero_or_pos j with rfl|h0
  ·exact hk.1
  rw[Fs h0 w4] at hk;exact Vn (E _ (getElem_mem _)) hk.1
 by_cases aa:j<p.keys.length
 ·rw[FL aa] at hk;have hm:=getElem_mem aa;have h2:=hk.2 (by intro e;have:=(hp.lC _ hm).1;rw[e] at this;simp at this);exact lR h2 (by rw[←I];exact hp.qN (by rw[I];exact hne) _ hm)
 rw[J6 w4,I] at hk;exact hk.2 hne
theorem IM(hp:eH p n)(hl:p.leaf=false)(I:i<j)(hj:j<p.kids.length)(ha:lM (iw low p i) (gY p i) a)(hb:lM (iw low p j) (gY p j) b):bC a b:=by
 have hn:=(hp.node hl).1;have E:i<p.keys.length:=(by omega)
 rw[FL E] at ha;have h1:=ha.2 (by intro e;have:=(hp.lC _ (getElem_mem E)).1;rw[e] at this;simp at this);rw[Fs w4 w4] at hb;refine Z2 h1 ?_;refine Vn ?_ hb.1;rcases Nat.lt_or_ge i (j-1) with h|h
 ·exact zc (nq hp.j4 h w4)
 have:j-1=i:=(by omega)
 simp only[this];exact jV _
theorem J7(hp:∀p∈t.ag,eH p n):∀{h:Nat} {i:Int} {low high:K},dM t h i low high→(eo t h i).Pairwise (fun x y=>bC x.1 y.1)∧∀x∈eo t h i,lM low high x.1
 | 0,i,low,high,ok=>by
  obtain⟨q1,q2,q3,E⟩:=ok;have po:=hp _ (jC q1);rw[eo];refine⟨?_,fun x hx=>⟨E _ (Rt hx),fun hne=>by rw[←q3] at hne ⊢;exact po.qN hne _ (Rt hx)⟩⟩;have h1:((ff (t.pg i)).map Prod.fst).Pairwise bC:=(by unfold ff;rw[zip_fst (po.leaf q2)];exact po.j4)
  exact pairwise_map.1 h1
 | h+1,i,low,high,ok=>by
  obtain⟨q1,q2,q3,E,I⟩:=ok;have po:=hp _ (jC q1);rw[eo];have hk:∀j (hj:j<(t.pg i).kids.length),(eo t h (t.pg i).kids[j]).Pairwise (fun x y=>bC x.1 y.1)∧∀x∈eo t h (t.pg i).kids[j],lM (iw low (t.pg i) j) (gY (t.pg i) j) x.1:=fun j hj=>J7 hp (I j hj);refine⟨pairwise_flatMap.2 ⟨fun a ha=>?_,?_⟩,fun x hx=>?_⟩
  ·obtain⟨j,hj,rfl⟩:=mem_iff_getElem.1 ha;exact(hk j hj).1
  ·refine pairwise_iff_getElem.2 fun a b ha hb ri x hx y hy=>?_;exact IM po q2 ri hb ((hk a ha).2 x hx) ((hk b hb).2 y hy)
  obtain⟨c,hc,hx⟩:=mem_flatMap.1 hx;obtain⟨j,hj,rfl⟩:=mem_iff_getElem.1 hc;exact aap po q2 q3 E hj ((hk j hj).2 x hx)
theorem Bs(hp:∀p∈t.ag,eH p n){k:K}:∀{h:Nat} {i:Int} {low high:K},dM t h i low high→lM low high k →
  ∃pre post lo hi,cA t h i=pre++aI t k h i::post∧(∀l∈pre,∀x∈ff (t.pg l),bC x.1 k)∧(∀l∈post,∀x∈ff (t.pg l),bC k x.1)∧dM t 0 (aI t k h i) lo hi∧lM lo hi k
 | 0,i,low,high,ok,hk=>⟨[],[],low,high,rfl,(fun _ h=>by cases h),(fun _ h=>by cases h),ok,hk⟩
 | h+1,i,low,high,ok,hk=>by
  obtain⟨q1,q2,q3,I,E⟩:=ok;have po:=hp _ (jC q1);obtain⟨d1,d2⟩:=down po q2 q3 hk;obtain⟨pre,post,lo,hi,e,h1,h2,h3,h4⟩:=Bs hp (E _ d1) d2;have hm:∀j (hj:j<(t.pg i).kids.length),∀l∈cA t h (t.pg i).kids[j],∀x∈ff (t.pg l),lM (iw low (t.pg i) j) (gY (t.pg i) j) x.1:=fun j hj l hl x hx =>
   (J7 hp (E j hj)).2 x (by rw[wq];exact mem_flatMap.2 ⟨l,hl,hx⟩)
  refine⟨((t.pg i).kids.take (aL (t.pg i) k)).flatMap (cA t h)++pre,post++((t.pg i).kids.drop (aL (t.pg i) k+1)).flatMap (cA t h),lo,hi,?_,?_,?_,?_,h4⟩
  ·rw[cA];conv=>lhs;rw[←take_append_drop (aL (t.pg i) k) (t.pg i).kids]
   rw[drop_eq_getElem_cons d1,flatMap_append,flatMap_cons,e,aI,tJ d1];simp
  ·intro l hl x hx;rcases mem_append.1 hl with hl|hl
   ·obtain⟨c,hc,hl⟩:=mem_flatMap.1 hl;obtain⟨j,hj,rfl⟩:=mem_iff_getElem.1 hc;rw[length_take] at hj;rw[getElem_take] at hl;exact IM po q2 (show j<aL (t.pg i) k by omega) d1 (hm j w4 l hl x hx) d2
   exact h1 l hl x hx
  ·intro l hl x hx;rcases mem_append.1 hl with hl|hl
   ·exact h2 l hl x hx
   obtain⟨c,hc,hl⟩:=mem_flatMap.1 hl;obtain⟨j,hj,rfl⟩:=mem_iff_getElem.1 hc;rw[length_drop] at hj;rw[getElem_drop] at hl;exact IM po q2 (show aL (t.pg i) k<aL (t.pg i) k+1+j by omega) w4 d2 (hm _ w4 l hl x hx)
  rw[aI,tJ d1];exact h3
theorem abz(hp:∀p∈t.ag,eH p n){h:Nat}{i:Int}{high:K}(ok:dM t h i low high)(hk:lM low high k) :
  ∃pre post,cA t h i=pre++aI t k h i::post∧(eo t h i).filter (fun x=>decide (¬bC x.1 k))=(ff (t.pg (aI t k h i))).drop (aL (t.pg (aI t k h i)) k)++post.flatMap fun l=>ff (t.pg l):=by
 obtain⟨pre,post,lo,hi,e,h1,h2,h3,h4⟩:=Bs hp ok hk;refine⟨pre,post,e,?_⟩;have po:=hp _ (jC h3.1);rw[wq,e,flatMap_append,flatMap_cons,filter_append,filter_append];rw[filter_eq_nil_iff.2 (by
  intro x hx;obtain⟨l,hl,hx⟩:=mem_flatMap.1 hx;simpa using h1 l hl x hx),nil_append]
 congr 1
 ·have fR:=h3.2.1;rw[show aL (t.pg (aI t k h i)) k=gA (t.pg (aI t k h i)).keys k by unfold aL;rw[if_pos fR]];generalize I:t.pg (aI t k h i)=p at *;have E:=take_append_drop (gA p.keys k) (ff p);conv=>lhs;rw[←E]
  have hlen:=po.leaf fR;rw[filter_append,filter_eq_nil_iff.2 (by
   intro x hx;obtain⟨j,hj,rfl⟩:=mem_iff_getElem.1 hx;rw[length_take] at hj;obtain⟨h',q⟩:=Bq (keys:=p.keys) (k:=k) (i:=j) w4;rw[getElem_take];simpa[ff] using q),nil_append,filter_eq_self.2]
  intro x hx;obtain⟨j,hj,rfl⟩:=mem_iff_getElem.1 hx;rw[length_drop] at hj;have fE:(ff p).length=p.keys.length:=(by unfold ff;rw[length_zip,hlen,Nat.min_self])
  have hd:gA p.keys k<p.keys.length:=(by omega)
  have he:=Bf hd;rw[getElem_drop];have:¬bC p.keys[gA p.keys k+j] k:=by
   rcases Nat.eq_zero_or_pos j with rfl|h0
   ·exact he
   exact fun aa=>he (lR (nq po.j4 w4 w4) aa)
  simpa[ff] using this
 rw[filter_eq_self.2];intro x hx;obtain⟨l,hl,hx⟩:=mem_flatMap.1 hx;simpa using zc (h2 l hl x hx)

end Go.Proofs.YtkgmonfgofobaaaGreatDoor.Tr
namespace Go.Proofs.YtkgmonfgofobaaaGreatDoor.Tr
open List
open Go.Proofs.Tryz
open Go.Lib (compareBytes)
variable {α:Type} {i n:Int} {p:cW} {up low:K} {h:Nat}
def gU(l:List α)(i:Nat)(x:α):List α:=l.take i++x::l.drop i
def aF.set(t:aF)(i:Int)(p:cW):aF:={t with ag:=t.ag.set i.toNat p}
variable {t:aF}
def bw(p:cW)(up:K)(az:Int):cW :=
 {p with keys:=gU p.keys (aL p up) up,kids:=gU p.kids (if p.leaf=true then aL p up else aL p up+1) az}
def gM(p:cW):K:=p.keys.getD 2 []
def er(p:cW)(n:Int):cW:={leaf:=p.leaf,keys:=p.keys.take 2,kids:=p.kids.take (if p.leaf=true then 2 else 3),high:=gM p,next:=n}
def cr(p:cW):cW:={leaf:=p.leaf,keys:=p.keys.drop (if p.leaf=true then 2 else 3),kids:=p.kids.drop (if p.leaf=true then 2 else 3),high:=p.high,next:=p.next}
def rN(t:aF)(i:Int)(up:K)(az:Int):aF×Option (K×Int) :=
 if (bw (t.pg i) up az).keys.length≤4 then (t.set i (bw (t.pg i) up az),none)
 else (⟨(t.ag.set i.toNat (er (bw (t.pg i) up az) t.ag.length))++[cr (bw (t.pg i) up az)],t.root⟩,some (gM (bw (t.pg i) up az),t.ag.length))
def gB(t:aF)(k:K)(row:Int):Nat→Int→aF×Option (K×Int)
 | 0,i=>rN t i k row
 | h+1,i=>match gB t k row h ((t.pg i).kids.getD (aL (t.pg i) k) 0) with
  | (t',none)=>(t',none)
  | (t',some (up,az))=>rN t' i up az
def aib(r:aF×Option (K×Int)):aF:=match r with
 | (t,none)=>t
 | (t,some (up,az))=>⟨t.ag++[⟨false,[up],[t.root,az],[],-1⟩],t.ag.length⟩
theorem om(t:aF)(i:Int)(p:cW):(t.set i p).ag.length=t.ag.length:=by simp[aF.set]
theorem Bt(h:0≤i∧i<t.ag.length)(p:cW):(t.set i p).pg i=p:=by
 unfold aF.pg aF.set;rw[getD_eq_getElem?_getD,getElem?_set_self w4];rfl
theorem v7{j:Int}(hi:0≤i)(hj:0≤j)(h:i≠j)(p:cW):(t.set i p).pg j=t.pg j:=by
 unfold aF.pg aF.set;rw[getD_eq_getElem?_getD,getD_eq_getElem?_getD,getElem?_set_ne w4]
theorem yI(l:List α){i:Nat}(h:i≤l.length)(x:α):(gU l i x).length=l.length+1:=by unfold gU;simp;omega
theorem uP{l:List α}{i:Nat}{x y:α}:y∈gU l i x↔y=x∨y∈l:=by
 unfold gU;conv=>rhs;rw[←take_append_drop i l]
 simp only[mem_append,mem_cons];constructor
 ·rintro(h|h|h)
  ·exact .inr (.inl h)
  ·exact .inl h
  exact .inr (.inr h)
 rintro(h|h|h)
 ·exact .inr (.inl h)
 ·exact .inl h
 exact .inr (.inr h)
theorem abA{β:Type}{a:List α}{b:List β}(h:b.length=a.length){i:Nat}(hi:i≤a.length)(x:α)(y:β):(gU a i x).zip (gU b i y)=gU (a.zip b) i (x,y):=by
 unfold gU;rw[zip_append (by simp[h]),zip_cons_cons];have h1:(a.zip b).take i=(a.take i).zip (b.take i):=take_zipWith;have h2:(a.zip b).drop i=(a.drop i).zip (b.drop i):=drop_zipWith;rw[h1,h2]
theorem Ji(hp:eH p n)(hn:up∉p.keys):(∀j (hj:j<p.keys.length),j<aL p up→bC p.keys[j] up)∧(∀j (hj:j<p.keys.length),aL p up≤j→bC up p.keys[j])∧aL p up≤p.keys.length:=by
 unfold aL;split
 ·refine⟨fun j hj h=>(Bq h).2,fun j hj h=>?_,yR _ _⟩;have aa:gA p.keys up<p.keys.length:=(by omega)
  have h1:=Bf aa;have h2:¬bC p.keys[j] up:=by
   rcases Nat.lt_or_ge (gA p.keys up) j with h'|h'
   ·exact fun E=>h1 (lR (nq hp.j4 h' hj) E)
   have:gA p.keys up=j:=(by omega)
   subst this;exact h1
  rcases u7 p.keys[j] up with h|h|h
  ·exact absurd h h2
  ·exact absurd (h ▸ getElem_mem hj) hn
  exact h
 refine⟨fun j hj h=>?_,fun j hj h=>?_,Br _ _⟩
 ·have h2:=(Jh h).2;rcases u7 p.keys[j] up with h|h|h
  ·exact h
  ·exact absurd (h ▸ getElem_mem hj) hn
  exact absurd h h2
 have aa:mT p.keys up<p.keys.length:=(by omega)
 have h1:=IL aa;rcases Nat.lt_or_ge (mT p.keys up) j with h'|h'
 ·exact lR h1 (nq hp.j4 h' hj)
 have:mT p.keys up=j:=(by omega)
 subst this;exact h1
theorem adj(hp:eH p n)(hn:up∉p.keys):(gU p.keys (aL p up) up).Pairwise bC:=by
 obtain⟨h1,h2,h3⟩:=Ji hp hn;unfold gU;have hr:=hp.j4;conv at hr=>rw[←take_append_drop (aL p up) p.keys]
 rw[pairwise_append] at hr;rw[pairwise_append,pairwise_cons];refine⟨hr.1,⟨fun y hy=>?_,hr.2.1⟩,fun x hx y hy=>?_⟩
 ·obtain⟨j,hj,rfl⟩:=mem_iff_getElem.1 hy;rw[length_drop] at hj;rw[getElem_drop];exact h2 _ w4 w4
 rcases mem_cons.1 hy with rfl|hy
 ·obtain⟨j,hj,rfl⟩:=mem_iff_getElem.1 hx;rw[length_take] at hj;rw[getElem_take];exact h1 _ w4 w4
 exact hr.2.2 x hx y hy
structure wK (p:cW) (many:Int):Prop where
 eI:p.keys.length≤5
 hlen:p.high.length≤100
 wY:-1≤p.next
 wM:p.next<many
 wZ:p.next<0↔p.high=[]
 leaf:p.leaf=true→p.kids.length=p.keys.length
 node:p.leaf=false→p.kids.length=p.keys.length+1∧p.keys≠[]
 lC:∀k∈p.keys,1≤k.length∧k.length≤100
 qN:p.high≠[]→∀k∈p.keys,bC k p.high
 j4:p.keys.Pairwise bC
 az:∀n∈p.kids,0≤n
 vu:p.leaf=false→∀n∈p.kids,n<many
theorem wK.ok(h:wK p n)(hl:p.keys.length≤4):eH p n:=⟨hl,h.hlen,h.wY,h.wM,h.wZ,h.leaf,h.node,h.lC,h.qN,h.j4,h.az,h.vu⟩
theorem Jj(hp:eH p n){az:Int}(hn:up∉p.keys)(U:1≤up.length∧up.length≤100)(Z:p.high≠[]→bC up p.high)(hk:0≤az)(O:p.leaf=false→az<n):wK (bw p up az) n:=by
 obtain⟨_,_,h3⟩:=Ji hp hn;have hf:=hp.eI;refine⟨?_,hp.hlen,hp.wY,hp.wM,hp.wZ,fun hl=>?_,fun hl=>?_,fun k I=>?_,fun hne k I=>?_,adj hp hn,fun m hm=>?_,fun hl m hm=>?_⟩
 ·show(gU _ _ _).length≤5;rw[yI _ h3];omega
 ·have E:p.leaf=true:=hl;show(gU _ _ _).length=(gU _ _ _).length;rw[if_pos E,yI _ h3,yI _ (by rw[hp.leaf E];exact h3),hp.leaf E]
 ·have E:p.leaf=false:=hl;refine⟨?_,?_⟩
  ·show(gU _ _ _).length=(gU _ _ _).length+1;rw[if_neg (by rw[E];decide),yI _ h3,yI _ (by rw[(hp.node E).1];omega),(hp.node E).1]
  show gU _ _ _≠[];intro e;have:=congrArg length e;rw[yI _ h3] at this;simp at this
 ·rcases uP.1 I with rfl|h
  ·exact U
  exact hp.lC k h
 ·rcases uP.1 I with rfl|h
  ·exact Z hne
  exact hp.qN hne k h
 ·rcases uP.1 hm with rfl|h
  ·exact hk
  exact hp.az m h
 rcases uP.1 hm with rfl|h
 ·exact O hl
 exact hp.vu hl m h
theorem ze(h:p.keys.length=5):gM p=p.keys[2]:=by unfold gM;rw[getD_eq_getElem?_getD,getElem?_eq_getElem w4];rfl
theorem UO(hp:wK p n)(h5:p.keys.length=5)(h0:0≤n):eH (er p n) (n+1):=by
 have U:=ze h5;have I:gM p∈p.keys:=(by rw[U];exact getElem_mem _)
 refine⟨?_,(hp.lC _ I).2,by show -1≤n;omega,by show n<n+1;omega,?_,fun hl=>?_,fun hl=>?_,fun k hk=>hp.lC k (mem_of_mem_take hk),fun _ k hk=>?_,hp.j4.sublist (take_sublist _ _),fun x hx=>hp.az x (mem_of_mem_take hx),fun hl x hx=>?_⟩
 ·show(p.keys.take 2).length≤4;rw[length_take];omega
 ·show n<0↔gM p=[];have:=(hp.lC _ I).1;exact⟨fun h=>by omega,fun h=>by rw[h] at this;simp at this⟩
 ·have E:p.leaf=true:=hl;show(p.kids.take (if p.leaf=true then 2 else 3)).length=(p.keys.take 2).length;rw[if_pos E,length_take,length_take,hp.leaf E]
 ·have E:p.leaf=false:=hl;refine⟨?_,?_⟩
  ·show(p.kids.take (if p.leaf=true then 2 else 3)).length=(p.keys.take 2).length+1;rw[if_neg (by rw[E];decide),length_take,length_take,(hp.node E).1];omega
  show p.keys.take 2≠[];intro e;have:=congrArg length e;rw[length_take,h5] at this;cases this
 ·have O:k∈p.keys.take 2:=hk;obtain⟨j,hj,rfl⟩:=mem_iff_getElem.1 O;rw[length_take] at hj;show bC (p.keys.take 2)[j] (gM p);rw[getElem_take,U];exact nq hp.j4 w4 w4
 have E:p.leaf=false:=hl;have:=hp.vu E x (mem_of_mem_take hx);omega
theorem TD{m:Int}(hp:wK p n)(h5:p.keys.length=5)(hm:n≤m):eH (cr p) m:=by
 refine⟨?_,hp.hlen,hp.wY,by have:=hp.wM;show p.next<m;omega,hp.wZ,fun hl=>?_,fun hl=>?_,fun k hk=>hp.lC k (mem_of_mem_drop hk),fun hne k hk=>hp.qN hne k (mem_of_mem_drop hk),hp.j4.sublist (drop_sublist _ _),fun x hx=>hp.az x (mem_of_mem_drop hx),fun hl x hx=>?_⟩
 ·show(p.keys.drop _).length≤4;rw[length_drop];split<;>omega
 ·have E:p.leaf=true:=hl;show(p.kids.drop _).length=(p.keys.drop _).length;rw[length_drop,length_drop,hp.leaf E]
 ·have E:p.leaf=false:=hl;refine⟨?_,?_⟩
  ·show(p.kids.drop _).length=(p.keys.drop _).length+1;rw[length_drop,length_drop,(hp.node E).1,if_neg (by rw[E];decide)];omega
  show p.keys.drop _≠[];intro e;have:=congrArg length e;rw[length_drop,if_neg (by rw[E];decide)] at this;simp at this;omega
 have E:p.leaf=false:=hl;have:=hp.vu E x (mem_of_mem_drop hx);omega

def jn(t:aF)(h:Nat):K→List Int→List K→K→Prop
 | low,c::cs,ks,high=>match cs,ks with
  | [],[]=>dM t h c low high
  | _::_,k::ks=>dM t h c low k∧jn t h k cs ks high
  | _,_=>False
 | _,[],_,_=>False
theorem Bu{high:K}{c:Int}:jn t h low [c] [] high↔dM t h c low high:=by rw[jn]
theorem qA{high k:K}{c d:Int}{cs:List Int}{ks:List K}:jn t h low (c::d::cs) (k::ks) high↔dM t h c low k∧jn t h k (d::cs) ks high:=by rw[jn]
theorem Jk{t:aF}{h:Nat}{high:K}:∀{kids:List Int} {keys:List K} {low:K},kids.length=keys.length+1 →
  ((∀j (hj:j<kids.length),dM t h kids[j] (if j=0 then low else keys.getD (j-1) []) (keys.getD j high))↔jn t h low kids keys high)
 | [],keys,low,e=>by simp at e
 | [c],[],low,e=>by
  rw[Bu];constructor
  ·intro q;exact q 0 bq
  intro q j hj;obtain rfl:j=0:=(by simpa using hj)
  exact q
 | [c],k::ks,low,e=>by simp at e
 | c::d::cs,[],low,e=>by simp at e
 | c::d::cs,k::ks,low,e=>by
  rw[qA,←Jk (kids:=d::cs) (keys:=ks) (low:=k) (by simpa using e)];constructor
  ·intro q;refine⟨q 0 bq,fun j hj=>?_⟩;have:=q (j+1) (by simpa using hj);rw[if_neg w4] at this;simp only[getElem_cons_succ,Nat.add_sub_cancel,getD_cons_succ] at this;cases j with
   | zero=>exact this
   | succ j=>exact this
  rintro⟨q0,q⟩ j hj;cases j with
  | zero=>exact q0
  | succ j =>
   have:=q j (by simpa using hj);rw[if_neg w4];simp only[getElem_cons_succ,Nat.add_sub_cancel,getD_cons_succ];cases j with
   | zero=>exact this
   | succ j=>exact this
theorem By{high:K}(hp:eH (t.pg i) n):dM t (h+1) i low high↔(0≤i∧i<t.ag.length)∧(t.pg i).leaf=false∧(t.pg i).high=high∧(∀k∈(t.pg i).keys,¬bC k low)∧jn t h low (t.pg i).kids (t.pg i).keys high:=by
 constructor
 ·rintro⟨q1,q2,q3,I,E⟩;refine⟨q1,q2,q3,I,?_⟩;rw[←Jk (hp.node q2).1];intro j hj;have:=E j hj;unfold iw gY at this;rw[q3] at this;exact this
 rintro⟨q1,q2,q3,I,E⟩;refine⟨q1,q2,q3,I,?_⟩;rw[←Jk (hp.node q2).1] at E;intro j hj;have:=E j hj;unfold iw gY;rw[q3];exact this
theorem Ru{t u:aF}{h:Nat}{high:K}:∀{kids:List Int} {keys:List K} {low:K},jn t h low kids keys high→(∀c∈kids,∀lo hi,dM t h c lo hi→dM u h c lo hi)→jn u h low kids keys high
 | [],keys,low,q,_=>by simp[jn] at q
 | [c],[],low,q,f=>by rw[Bu] at q ⊢;exact f c bq _ _ q
 | [c],k::ks,low,q,f=>by simp[jn] at q
 | c::d::cs,[],low,q,f=>by simp[jn] at q
 | c::d::cs,k::ks,low,q,f=>by
  rw[qA] at q ⊢;exact⟨f c bq _ _ q.1,Ru q.2 fun x hx=>f x (by simp at hx ⊢;exact .inr hx)⟩
theorem Rv{t u:aF}{h:Nat}{high up:K}{az:Int}:∀(j:Nat) {kids:List Int} {keys:List K} {low:K} (hj:j<kids.length),jn t h low kids keys high →
  (∀c∈kids.eraseIdx j,∀lo hi,dM t h c lo hi→dM u h c lo hi) →
  (dM u h kids[j] (if j=0 then low else keys.getD (j-1) []) up)→dM u h az up (keys.getD j high)→jn u h low (gU kids (j+1) az) (gU keys j up) high
 | 0,[],keys,low,hj,q,f,q1,q2=>by simp at hj
 | 0,[c],[],low,hj,q,f,q1,q2=>by
  show jn u h low [c,az] [up] high;rw[qA,Bu];exact⟨q1,q2⟩
 | 0,[c],k::ks,low,hj,q,f,q1,q2=>by simp[jn] at q
 | 0,c::d::cs,[],low,hj,q,f,q1,q2=>by simp[jn] at q
 | 0,c::d::cs,k::ks,low,hj,q,f,q1,q2=>by
  show jn u h low (c::az::d::cs) (up::k::ks) high;rw[qA,qA];rw[qA] at q;exact⟨q1,q2,Ru q.2 fun x hx=>f x (by simpa using hx)⟩
 | j+1,[],keys,low,hj,q,f,q1,q2=>by simp at hj
 | j+1,[c],keys,low,hj,q,f,q1,q2=>by simp at hj
 | j+1,c::d::cs,[],low,hj,q,f,q1,q2=>by simp[jn] at q
 | j+1,c::d::cs,k::ks,low,hj,q,f,q1,q2=>by
  rw[qA] at q;have e1:gU (c::d::cs) (j+1+1) az=c::gU (d::cs) (j+1) az:=rfl;have e2:gU (k::ks) (j+1) up=k::gU ks j up:=rfl;rw[e1,e2];have E:=Rv (t:=t) (u:=u) (up:=up) (az:=az) j (kids:=d::cs) (keys:=ks) (low:=k) (by simpa using hj) q.2 (fun x hx=>f x (by rw[eraseIdx_cons_succ];exact mem_cons_of_mem _ hx)) (by
   have:=q1;rw[if_neg w4] at this;simp only[getElem_cons_succ,Nat.add_sub_cancel] at this;cases j with
   | zero=>exact this
   | succ j=>exact this) (by simpa using q2)
  have I:gU (d::cs) (j+1) az=d::gU cs j az:=rfl;rw[I] at E ⊢;rw[qA];exact⟨f c (by rw[eraseIdx_cons_succ];simp) _ _ q.1,E⟩
theorem Pf{t:aF}{h:Nat}{high:K}:∀(m:Nat) {kids:List Int} {keys:List K} {low:K} (hm:m<keys.length),jn t h low kids keys high→jn t h low (kids.take (m+1)) (keys.take m) keys[m]∧jn t h keys[m] (kids.drop (m+1)) (keys.drop (m+1)) high
 | 0,c::d::cs,k::ks,low,hm,q=>by
  rw[qA] at q;exact⟨Bu.2 q.1,q.2⟩
 | m+1,c::d::cs,k::ks,low,hm,q=>by
  rw[qA] at q;obtain⟨q1,q2⟩:=Pf m (kids:=d::cs) (keys:=ks) (by simpa using hm) q.2;refine⟨?_,q2⟩;have e:(c::d::cs).take (m+1+1)=c::d::cs.take m:=rfl;rw[e];show jn t h low (c::d::cs.take m) (k::ks.take m) _;rw[qA];exact⟨q.1,q1⟩
 | _,_,[],_,hm,_=>by simp at hm
 | _,[],_::_,_,_,q=>by simp[jn] at q
 | _,[c],_::_,_,_,q=>by simp[jn] at q
theorem Bz{t:aF}{e:Int}:∀{a b:List Int},fi t (a++b) e↔fi t a (b.headD e)∧fi t b e
 | [],b=>by simp[fi]
 | [i],[]=>by simp[fi]
 | [i],j::b=>by simp[fi]
 | i::j::a,b=>by
  have:=Bz (t:=t) (e:=e) (a:=j::a) (b:=b);show(t.pg i).next=j∧fi t (j::a++b) e↔((t.pg i).next=j∧fi t (j::a) (b.headD e))∧fi t b e;rw[this,and_assoc]
theorem yJ{t u:aF}:∀{a:List Int} {e:Int},(∀j∈a,(u.pg j).next=(t.pg j).next)→fi t a e→fi u a e
 | [],e,_,_=>trivial
 | [i],e,f,h=>by show(u.pg i).next=e;rw[f i bq];exact h
 | i::j::a,e,f,h=>⟨by rw[f i bq];exact h.1,yJ (fun x hx=>f x (mem_cons_of_mem _ hx)) h.2⟩
theorem FM{t:aF}{n:Int}(hp:∀p∈t.ag,eH p n):∀{h:Nat} {i:Int} {low high:K},dM t h i low high→∀d,d≤h→cA t d i≠[]
 | 0,i,low,high,ok,d,hd=>by
  obtain rfl:d=0:=(by omega)
  simp[cA]
 | h+1,i,low,high,ok,d,hd=>by
  cases d with
  | zero=>simp[cA]
  | succ d =>
   obtain⟨q1,q2,q3,I,E⟩:=ok;have po:=hp _ (jC q1);have hl:=(po.node q2).1;have h0:0<(t.pg i).kids.length:=(by omega)
   have:=FM hp (E 0 h0) d w4;rw[cA];intro e;rw[flatMap_eq_nil_iff] at e;exact this (e _ (getElem_mem h0))
theorem sB{t:aF}:∀(h:Nat) (i:Int) (d:Nat),d≤h→∀x∈cA t d i,x∈ids t h i
 | 0,i,d,hd,x,hx=>by
  obtain rfl:d=0:=(by omega)
  exact hx
 | h+1,i,0,hd,x,hx=>by
  have:x=i:=(by simpa[cA] using hx)
  subst this;exact tD _ _
 | h+1,i,d+1,hd,x,hx=>by
  rw[cA] at hx;obtain⟨c,hc,hx⟩:=mem_flatMap.1 hx;rw[ids];exact mem_cons_of_mem _ (mem_flatMap.2 ⟨c,hc,sB h c d w4 x hx⟩)
theorem Ey{a b:List α}(h:a≠[])(e:α):(a++b).headD e=a.headD e:=by
 cases a with
 | nil=>exact absurd rfl h
 | cons x r=>rfl

def nX(t:aF)(h:Nat)(i:Int):Option (K×Int)→List Int
 | none=>ids t h i
 | some (_,az)=>ids t h i++ids t h az
def Gc(t:aF)(h:Nat)(i:Int):Option (K×Int)→List (K×Int)
 | none=>eo t h i
 | some (_,az)=>eo t h i++eo t h az
def sP(t:aF)(d:Nat)(i:Int):Option (K×Int)→List Int
 | none=>cA t d i
 | some (_,az)=>cA t d i++cA t d az
def n9(t:aF)(h:Nat)(i:Int)(low high:K):Option (K×Int)→Prop
 | none=>dM t h i low high
 | some (up,az)=>(1≤up.length∧up.length≤100)∧bC low up∧(high≠[]→bC up high)∧dM t h i low up∧dM t h az up high
structure oN (t u:aF) (h:Nat) (i:Int) (low high:K) (k:K) (row:Int) (r:Option (K×Int)):Prop where
 le:t.ag.length≤u.ag.length
 more:u.ag.length≤t.ag.length+(h+1)
 root:u.root=t.root
 fK:∀p∈u.ag,eH p u.ag.length
 out:∀j:Int,0≤j→j<t.ag.length→j∉ids t h i→u.pg j=t.pg j
 ok:n9 u h i low high r
 sub:∀x∈nX u h i r,x∈ids t h i∨(t.ag.length:Int)≤x
 nodup:(nX u h i r).Nodup
 jj:(nX u h i r).length+t.ag.length=(ids t h i).length+u.ag.length
 eo:∀x,x∈Gc u h i r↔x=(k,row)∨x∈eo t h i
 pJ:∀d,d≤h→∀e,fi t (cA t d i) e→fi u (sP u d i r) e∧(sP u d i r).headD e=(cA t d i).headD e
def jo(t:aF)(i:Int)(a b:cW):aF:=⟨(t.ag.set i.toNat a)++[b],t.root⟩
theorem pR(t:aF)(i:Int)(a b:cW):(jo t i a b).ag.length=t.ag.length+1:=by simp[jo]
theorem P0(h:0≤i∧i<t.ag.length)(a b:cW):(jo t i a b).pg i=a:=by
 unfold aF.pg jo;rw[getD_eq_getElem?_getD,getElem?_append_left vF,getElem?_set_self w4];rfl
theorem Rw(t:aF)(i:Int)(a b:cW):(jo t i a b).pg t.ag.length=b:=by
 unfold aF.pg jo;rw[getD_eq_getElem?_getD,getElem?_append_right vF,length_set];simp
theorem Pg{j:Int}(hi:0≤i)(hj:0≤j∧j<t.ag.length)(h:i≠j)(a b:cW):(jo t i a b).pg j=t.pg j:=by
 unfold aF.pg jo;rw[getD_eq_getElem?_getD,getD_eq_getElem?_getD,getElem?_append_left vF,getElem?_set_ne w4]
theorem IN{q:cW}(hp:∀p∈t.ag,eH p n)(hq:eH q n):∀p∈(t.set i q).ag,eH p n:=fun p h=>by
 rcases mem_or_eq_of_mem_set h with h|rfl
 ·exact hp p h
 exact hq
theorem Pj{a b:cW}{m:Int}(hp:∀p∈t.ag,eH p n)(hm:n≤m)(ha:eH a m)(hb:eH b m):∀p∈(jo t i a b).ag,eH p m:=fun p h=>by
 unfold jo at h;rcases mem_append.1 h with h|h
 ·rcases mem_or_eq_of_mem_set h with h|rfl
  ·exact(hp p h).more hm
  exact ha
 rw[mem_singleton] at h;subst h;exact hb
theorem Jl{az:Int}(h:(bw (t.pg i) up az).keys.length≤4):rN t i up az=(t.set i (bw (t.pg i) up az),none):=by unfold rN;rw[if_pos h]
theorem IP{az:Int}(h:¬(bw (t.pg i) up az).keys.length≤4):rN t i up az=(jo t i (er (bw (t.pg i) up az) t.ag.length) (cr (bw (t.pg i) up az)),some (gM (bw (t.pg i) up az),(t.ag.length:Int))):=by unfold rN;rw[if_neg h];rfl
theorem TE{q:cW}(hr:q.keys.Pairwise bC)(h5:q.keys.length=5)(hl:∀k∈q.keys,¬bC k low):bC low (gM q)∧(∀k∈q.keys.drop 2,¬bC k (gM q)):=by
 rw[ze h5];refine⟨OV (hl _ (getElem_mem (by omega:0<q.keys.length))) (nq hr w4 w4),fun k hk=>?_⟩;obtain⟨j,hj,rfl⟩:=mem_iff_getElem.1 hk;rw[length_drop] at hj;rw[getElem_drop];rcases Nat.eq_zero_or_pos j with rfl|h0
 ·exact jV _
 exact zc (nq hr w4 w4)
theorem adk(hp:∀p∈t.ag,eH p t.ag.length){high:K}(ok:dM t 0 i low high){k:K}{row:Int}(hk:lM low high k)(hn:∀x∈eo t 0 i,x.1≠k)(hl:1≤k.length∧k.length≤100)(hr:0≤row):oN t (rN t i k row).1 0 i low high k row (rN t i k row).2:=by
 obtain⟨q1,q2,q3,q4⟩:=ok;have po:=hp _ (jC q1);have O:k∉(t.pg i).keys:=fun hm=>by
  obtain⟨j,hj,e⟩:=mem_iff_getElem.1 hm;have hlen:=po.leaf q2;refine hn ((t.pg i).keys[j],(t.pg i).kids[j]'w4) ?_ e;show _∈ff (t.pg i);unfold ff;exact mem_iff_getElem.2 ⟨j,by rw[length_zip];omega,by rw[getElem_zip]⟩
 have hf:wK (bw (t.pg i) k row) t.ag.length:=Jj po O hl (fun hne=>hk.2 (by rw[←q3];exact hne) |> fun h=>by rw[q3];exact h) hr (fun h=>by rw[q2] at h;cases h);have fE:=(Ji po O).2.2;have hE:ff (bw (t.pg i) k row)=gU (ff (t.pg i)) (aL (t.pg i) k) (k,row):=by
  show(gU _ _ _).zip (gU _ _ _)=_;rw[if_pos q2];exact abA (po.leaf q2) fE k row
 have E:∀x∈(bw (t.pg i) k row).keys,¬bC x low:=fun x hx=>by
  rcases uP.1 hx with rfl|h
  ·exact hk.1
  exact q4 x h
 by_cases h4:(bw (t.pg i) k row).keys.length≤4
 ·rw[Jl h4];have U:=Bt q1 (bw (t.pg i) k row);refine⟨by rw[om];omega,by rw[om];omega,rfl,by rw[om];exact IN hp (hf.ok h4),fun j h0 hj hne=>?_,?_,fun x hx=>.inl hx,?_,by rw[om];rfl,fun x=>?_,fun d hd e hs=>?_⟩
  ·exact v7 q1.1 h0 (by intro e;subst e;simp[ids] at hne) _
  ·exact⟨by rw[om];exact q1,by rw[U];exact q2,by rw[U];exact q3,by rw[U];exact E⟩
  ·show[i].Nodup;simp
  ·show x∈ff ((t.set i _).pg i)↔_;rw[U,hE,uP];rfl
  obtain rfl:d=0:=(by omega)
  refine⟨?_,rfl⟩;show((t.set i _).pg i).next=e;rw[U];exact hs
 have h5:(bw (t.pg i) k row).keys.length=5:=(by have:=hf.eI;omega)
 rw[IP h4];have I:(bw (t.pg i) k row).leaf=true:=q2;have Z:=P0 q1 (er (bw (t.pg i) k row) t.ag.length) (cr (bw (t.pg i) k row));have eb:=Rw t i (er (bw (t.pg i) k row) t.ag.length) (cr (bw (t.pg i) k row));obtain⟨u1,u2⟩:=TE hf.j4 h5 E;have Dv:gM (bw (t.pg i) k row)∈(bw (t.pg i) k row).keys:=(by rw[ze h5];exact getElem_mem _)
 have gW:ff (er (bw (t.pg i) k row) t.ag.length)++ff (cr (bw (t.pg i) k row))=ff (bw (t.pg i) k row):=by
  show((bw (t.pg i) k row).keys.take 2).zip ((bw (t.pg i) k row).kids.take (if (bw (t.pg i) k row).leaf=true then 2 else 3))++((bw (t.pg i) k row).keys.drop (if (bw (t.pg i) k row).leaf=true then 2 else 3)).zip ((bw (t.pg i) k row).kids.drop (if (bw (t.pg i) k row).leaf=true then 2 else 3))=_;rw[if_pos I,←zip_append (by rw[length_take,length_take,hf.leaf I]),take_append_drop,take_append_drop];rfl
 refine⟨by rw[pR];omega,by rw[pR];omega,rfl,?_,fun j h0 hj hne=>?_,⟨hf.lC _ Dv,u1,fun hne=>hf.qN (by show(t.pg i).high≠[];rw[q3];exact hne) _ Dv |> fun h=>by rw[←q3];exact h,?_,?_⟩,fun x hx=>?_,?_,by rw[pR];show[i,(t.ag.length:Int)].length+_=[i].length+_;simp;omega,fun x=>?_,fun d hd e hs=>?_⟩
 ·rw[pR];exact Pj hp w4 (UO hf h5 w4) (TD hf h5 w4)
 ·exact Pg q1.1 ⟨h0,hj⟩ (by intro e;subst e;simp[ids] at hne) _ _
 ·exact⟨by rw[pR];omega,by rw[Z];exact I,by rw[Z];rfl,by rw[Z];exact fun x hx=>E x (mem_of_mem_take hx)⟩
 ·refine⟨by rw[pR];omega,by rw[eb];exact I,by rw[eb];exact q3,?_⟩;rw[eb];show ∀x∈(bw (t.pg i) k row).keys.drop (if (bw (t.pg i) k row).leaf=true then 2 else 3),_;rw[if_pos I];exact u2
 ·have pz:x∈[i,(t.ag.length:Int)]:=hx;simp only[mem_cons,not_mem_nil,or_false] at pz;rcases pz with rfl|rfl
  ·exact .inl (by simp[ids])
  exact .inr (Int.le_refl _)
 ·show[i,(t.ag.length:Int)].Nodup;simp;omega
 ·show x∈ff ((jo t i _ _).pg i)++ff ((jo t i _ _).pg _)↔_;rw[Z,eb,gW,hE,uP];rfl
 obtain rfl:d=0:=(by omega)
 refine⟨?_,rfl⟩;show((jo t i _ _).pg i).next=_∧((jo t i _ _).pg _).next=e;rw[Z,eb];exact⟨rfl,hs⟩

end Go.Proofs.YtkgmonfgofobaaaGreatDoor.Tr

namespace Go.Proofs.YtkgmonfgofobaaaGreatDoor.Tr
open List
open Go.Proofs.Tryz
open Go.Lib (compareBytes)
variable {α:Type} {A B:List Int} {v:aF}
theorem J8{keys:List K}(hr:keys.Pairwise bC){up:K}{j:Nat}(hj:j≤keys.length)(h1:∀(h:0<j),¬bC up (keys[j-1]'w4))(h2:∀(h:j<keys.length),bC up keys[j]):mT keys up=j:=by
 have E:=Br keys up;rcases Nat.lt_trichotomy (mT keys up) j with h|h|h
 ·exfalso;have aa:mT keys up<keys.length:=(by omega)
  have h3:=IL aa;have h4:=h1 w4;rcases Nat.lt_or_ge (mT keys up) (j-1) with h5|h5
  ·exact h4 (lR h3 (nq hr h5 w4))
  have:mT keys up=j-1:=(by omega)
  simp only[this] at h3;exact h4 h3
 ·exact h
 exact absurd (h2 w4) (Jh h).2
theorem OW{l:List α}{j:Nat}(hj:j<l.length)(x:α):gU l (j+1) x=l.take j++l[j]::x::l.drop (j+1):=by
 unfold gU;rw[take_succ_eq_append_getElem hj,append_assoc];rfl
theorem uR{l:List α}{j:Nat}(hj:j<l.length):l=l.take j++l[j]::l.drop (j+1):=by
 conv=>lhs;rw[←take_append_drop j l,drop_eq_getElem_cons hj]
theorem Z3{l:List α}{j:Nat}{x:α}(h:x∈l.eraseIdx j):x∈l.take j∨x∈l.drop (j+1):=by
 rw[eraseIdx_eq_take_drop_succ] at h;exact mem_append.1 h
variable {t:aF}
theorem v8{h:Nat}{i:Int}{j:Nat}(hj:j<(t.pg i).kids.length)(hn:(ids t (h+1) i).Nodup):(ids t h (t.pg i).kids[j]).Nodup∧i∉ids t h (t.pg i).kids[j]∧(∀x∈(t.pg i).kids.take j++(t.pg i).kids.drop (j+1),(∀y∈ids t h x,y∉ids t h (t.pg i).kids[j])∧i∉ids t h x) ∧
  (((t.pg i).kids.take j).flatMap (ids t h)++((t.pg i).kids.drop (j+1)).flatMap (ids t h)).Nodup∧i∉((t.pg i).kids.take j).flatMap (ids t h)++((t.pg i).kids.drop (j+1)).flatMap (ids t h):=by
 rw[ids,nodup_cons] at hn;obtain⟨h0,hn⟩:=hn;have hs:=uR hj;rw[hs,flatMap_append,flatMap_cons] at hn h0;simp only[mem_append,not_or] at h0;rw[nodup_append] at hn;obtain⟨n1,n2,n3⟩:=hn;rw[nodup_append] at n2;obtain⟨n4,n5,n6⟩:=n2;refine⟨n4,h0.2.1,fun x hx=>?_,?_,?_⟩
 ·rcases mem_append.1 hx with hx|hx
  ·exact⟨fun y hy hc=>n3 y (mem_flatMap.2 ⟨x,hx,hy⟩) y (mem_append_left _ hc) rfl,fun hi=>h0.1 (mem_flatMap.2 ⟨x,hx,hi⟩)⟩
  exact⟨fun y hy hc=>n6 y hc y (mem_flatMap.2 ⟨x,hx,hy⟩) rfl,fun hi=>h0.2.2 (mem_flatMap.2 ⟨x,hx,hi⟩)⟩
 ·rw[nodup_append];exact⟨n1,n5,fun a ha b hb=>n3 a ha b (mem_append_right _ hb)⟩
 simp only[mem_append,not_or];exact⟨h0.1,h0.2.2⟩
theorem IQ{f g:Int→List α}{c az:Int}(hA:∀x∈A,f x=g x)(E:∀x∈B,f x=g x):(A++c::az::B).flatMap f=A.flatMap g++(f c++f az)++B.flatMap g:=by
 rw[flatMap_append,flatMap_cons,flatMap_cons,rz hA,rz E];simp
theorem Jm{f g:Int→List α}{c:Int}(hA:∀x∈A,f x=g x)(E:∀x∈B,f x=g x):(A++c::B).flatMap f=A.flatMap g++f c++B.flatMap g:=by
 rw[flatMap_append,flatMap_cons,rz hA,rz E];simp

structure jy (t u:aF) (h:Nat) (i:Int) (low high:K) (j:Nat) (k:K) (row:Int) (r:Option (K×Int)):Prop where
 hp:∀p∈t.ag,eH p t.ag.length
 ok:dM t (h+1) i low high
 nd:(ids t (h+1) i).Nodup
 hj:j<(t.pg i).kids.length
 hk:lM (iw low (t.pg i) j) (gY (t.pg i) j) k
 ins:oN t u h ((t.pg i).kids.getD j 0) (iw low (t.pg i) j) (gY (t.pg i) j) k row r
section
variable {u:aF} {h:Nat} {i:Int} {low high:K} {j:Nat} {k:K} {row:Int} {r:Option (K×Int)}
theorem jy.az(m:jy t u h i low high j k row r):(t.pg i).kids.getD j 0=(t.pg i).kids[j]'m.hj:=tJ m.hj
theorem jy.same(m:jy t u h i low high j k row r):u.pg i=t.pg i:=by
 have:=(v8 m.hj m.nd).2.1;exact m.ins.out i m.ok.idx.1 m.ok.idx.2 (by rw[m.az];exact this)
structure ow (u v:aF) (i:Int):Prop where
 le:u.ag.length≤v.ag.length
 pg:∀x:Int,0≤x→x<u.ag.length→x≠i→v.pg x=u.pg x
theorem jy.others(m:jy t u h i low high j k row r)(ha:ow u v i):∀x∈(t.pg i).kids.take j++(t.pg i).kids.drop (j+1),∀y∈ids t h x,v.pg y=t.pg y:=fun x hx y hy=>by
 obtain⟨h1,h2⟩:=(v8 m.hj m.nd).2.2.1 x hx;have I:y≠i:=fun e=>h2 (e ▸ hy);have E:0≤y∧y<t.ag.length:=by
  have hm:y∈ids t (h+1) i:=by
   rw[ids];refine mem_cons_of_mem _ (mem_flatMap.2 ⟨x,?_,hy⟩);rcases mem_append.1 hx with hx|hx
   ·exact mem_of_mem_take hx
   exact mem_of_mem_drop hx
  exact m.ok.ids y hm
 have O:=m.ins.le;rw[ha.pg y E.1 w4 I,m.ins.out y E.1 E.2 (by rw[m.az];exact h1 y hy)]
theorem jy.below(m:jy t u h i low high j k row r)(ha:ow u v i):∀y∈nX u h ((t.pg i).kids[j]'m.hj) r,0≤y→y<u.ag.length→v.pg y=u.pg y:=fun y hy h0 hl=>by
 refine ha.pg y h0 hl fun e=>?_;have hs:=m.ins.sub y (by rw[m.az];exact hy);rw[m.az] at hs;rcases hs with hs|hs
 ·exact(v8 m.hj m.nd).2.1 (e ▸ hs)
 have:=m.ok.idx;omega
theorem jy.qI(m:jy t u h i low high j k row r)(ha:ow u v i){x:Int}(hx:x∈(t.pg i).kids.take j++(t.pg i).kids.drop (j+1)):ids v h x=ids t h x∧eo v h x=eo t h x∧∀d,d≤h→cA v d x=cA t d x:=frame h x (m.others ha x hx)
theorem jy.TF(m:jy t u h i low high j k row r)(ha:ow u v i){x:Int}(hx:x∈(t.pg i).kids.take j++(t.pg i).kids.drop (j+1)){lo hi:K}(aV:dM t h x lo hi):dM v h x lo hi:=by
 have:=m.ins.le;have:=ha.le;exact aV.frame w4 (m.others ha x hx)
theorem jy.Rx(m:jy t u h i low high j k row r):(((t.pg i).kids.take j).flatMap (ids t h)++nX u h ((t.pg i).kids[j]'m.hj) r++((t.pg i).kids.drop (j+1)).flatMap (ids t h)).Nodup∧i∉((t.pg i).kids.take j).flatMap (ids t h)++nX u h ((t.pg i).kids[j]'m.hj) r++((t.pg i).kids.drop (j+1)).flatMap (ids t h):=by
 obtain⟨a1,a2,a3,a4,a5⟩:=v8 m.hj m.nd;have hnd:=m.ins.nodup;have E:=m.ins.sub;rw[m.az] at hnd E;have aa:∀x∈(t.pg i).kids.take j++(t.pg i).kids.drop (j+1),∀y∈ids t h x,y<t.ag.length:=fun x hx y hy=>by
  refine(m.ok.ids y ?_).2;rw[ids];refine mem_cons_of_mem _ (mem_flatMap.2 ⟨x,?_,hy⟩);rcases mem_append.1 hx with hx|hx
  ·exact mem_of_mem_take hx
  exact mem_of_mem_drop hx
 have I:∀x∈(t.pg i).kids.take j++(t.pg i).kids.drop (j+1),∀y∈ids t h x,y∉nX u h ((t.pg i).kids[j]'m.hj) r:=fun x hx y hy hm=>by
  rcases E y hm with hs|hs
  ·exact(a3 x hx).1 y hy hs
  have:=aa x hx y hy;omega
 have O:i∉nX u h ((t.pg i).kids[j]'m.hj) r:=fun hm=>by
  rcases E i hm with hs|hs
  ·exact a2 hs
  have:=m.ok.idx;omega
 rw[nodup_append] at a4;obtain⟨b1,b2,b3⟩:=a4;refine⟨?_,?_⟩
 ·rw[nodup_append,nodup_append];refine⟨⟨b1,hnd,fun a ha b hb e=>?_⟩,b2,fun a ha b hb e=>?_⟩
  ·obtain⟨x,hx,ha⟩:=mem_flatMap.1 ha;subst e;exact I x (mem_append_left _ hx) a ha hb
  obtain⟨x,hx,jS⟩:=mem_flatMap.1 hb;subst e;rcases mem_append.1 ha with ha|ha
  ·exact b3 a ha a hb rfl
  exact I x (mem_append_right _ hx) a jS ha
 simp only[mem_append,not_or] at a5 ⊢;exact⟨⟨a5.1,O⟩,a5.2⟩
theorem jy.UP(m:jy t u h i low high j k row r):(((t.pg i).kids.take j).flatMap (ids t h)++nX u h ((t.pg i).kids[j]'m.hj) r++((t.pg i).kids.drop (j+1)).flatMap (ids t h)).length+1+t.ag.length=(ids t (h+1) i).length+u.ag.length:=by
 have hc:=m.ins.jj;rw[m.az] at hc;have e:(ids t (h+1) i).length=1+((((t.pg i).kids.take j).flatMap (ids t h)).length+((ids t h ((t.pg i).kids[j]'m.hj)).length+(((t.pg i).kids.drop (j+1)).flatMap (ids t h)).length)):=by
  rw[ids];conv=>lhs;rw[uR m.hj]
  rw[length_cons,flatMap_append,flatMap_cons,length_append,length_append];omega
 rw[e,length_append,length_append];omega
theorem jy.Ux(m:jy t u h i low high j k row r):∀x∈((t.pg i).kids.take j).flatMap (ids t h)++nX u h ((t.pg i).kids[j]'m.hj) r++((t.pg i).kids.drop (j+1)).flatMap (ids t h),x∈ids t (h+1) i∨(t.ag.length:Int)≤x:=fun x hx=>by
 have E:=m.ins.sub;rw[m.az] at E;have up:∀c∈(t.pg i).kids,∀y∈ids t h c,y∈ids t (h+1) i:=fun c hc y hy=>by rw[ids];exact mem_cons_of_mem _ (mem_flatMap.2 ⟨c,hc,hy⟩)
 rcases mem_append.1 hx with hx|hx
 ·rcases mem_append.1 hx with hx|hx
  ·obtain⟨c,hc,hx⟩:=mem_flatMap.1 hx;exact .inl (up c (mem_of_mem_take hc) x hx)
  rcases E x hx with hs|hs
  ·exact .inl (up _ (getElem_mem _) x hs)
  exact .inr hs
 obtain⟨c,hc,hx⟩:=mem_flatMap.1 hx;exact .inl (up c (mem_of_mem_drop hc) x hx)
theorem jy.J9(m:jy t u h i low high j k row r)(x:K×Int):x∈((t.pg i).kids.take j).flatMap (eo t h)++Gc u h ((t.pg i).kids[j]'m.hj) r++((t.pg i).kids.drop (j+1)).flatMap (eo t h)↔x=(k,row)∨x∈eo t (h+1) i:=by
 have he:=m.ins.eo x;rw[m.az] at he;have e:eo t (h+1) i=((t.pg i).kids.take j).flatMap (eo t h)++(eo t h ((t.pg i).kids[j]'m.hj)++((t.pg i).kids.drop (j+1)).flatMap (eo t h)):=by
  rw[eo];conv=>lhs;rw[uR m.hj]
  rw[flatMap_append,flatMap_cons]
 rw[e];simp only[mem_append,he];constructor
 ·rintro((h|h|h)|h)
  ·exact .inr (.inl h)
  ·exact .inl h
  ·exact .inr (.inr (.inl h))
  exact .inr (.inr (.inr h))
 rintro(h|h|h|h)
 ·exact .inl (.inr (.inl h))
 ·exact .inl (.inl h)
 ·exact .inl (.inr (.inr h))
 exact .inr h
theorem jy.KH(m:jy t u h i low high j k row r)(ha:ow u v i){d:Nat}(hd:d≤h){e:Int}(hs:fi t (cA t (d+1) i) e) :
  fi v (((t.pg i).kids.take j).flatMap (cA t d)++sP u d ((t.pg i).kids[j]'m.hj) r++((t.pg i).kids.drop (j+1)).flatMap (cA t d)) e∧(((t.pg i).kids.take j).flatMap (cA t d)++sP u d ((t.pg i).kids[j]'m.hj) r++((t.pg i).kids.drop (j+1)).flatMap (cA t d)).headD e=(cA t (d+1) i).headD e:=by
 have hl:cA t (d+1) i=((t.pg i).kids.take j).flatMap (cA t d)++(cA t d ((t.pg i).kids[j]'m.hj)++((t.pg i).kids.drop (j+1)).flatMap (cA t d)):=by
  rw[cA];conv=>lhs;rw[uR m.hj]
  rw[flatMap_append,flatMap_cons]
 rw[hl] at hs ⊢;rw[Bz,Bz] at hs;obtain⟨s1,s2,s3⟩:=hs;obtain⟨g1,g2⟩:=m.ins.pJ d hd _ (by rw[m.az];exact s2);rw[m.az] at g1 g2;obtain⟨_,_,_,_,O⟩:=m.ok;have hne:cA t d ((t.pg i).kids[j]'m.hj)≠[]:=FM m.hp (O j m.hj) d hd;have fr:∀x∈(t.pg i).kids.take j++(t.pg i).kids.drop (j+1),∀y∈cA t d x,(v.pg y).next=(t.pg y).next:=fun x hx y hy=>by rw[m.others ha x hx y (sB h x d hd y hy)]
 have U:∀y∈sP u d ((t.pg i).kids[j]'m.hj) r,(v.pg y).next=(u.pg y).next:=fun y hy=>by
  have aV:=m.ins.ok;rw[m.az] at aV;cases r with
  | none =>
   have hi:=sB h _ d hd y hy;have hb:=dM.ids aV y hi;rw[m.below ha y hi hb.1 hb.2]
  | some q =>
   obtain⟨up,az⟩:=q;obtain⟨_,_,_,o1,o2⟩:=aV;rcases mem_append.1 hy with hy|hy
   ·have hi:=sB h _ d hd y hy;have hb:=o1.ids y hi;rw[m.below ha y (mem_append_left _ hi) hb.1 hb.2]
   have hi:=sB h _ d hd y hy;have hb:=o2.ids y hi;rw[m.below ha y (mem_append_right _ hi) hb.1 hb.2]
 have E:sP u d ((t.pg i).kids[j]'m.hj) r≠[]:=fun e0=>by
  have aV:=m.ins.ok;rw[m.az] at aV;cases r with
  | none=>exact FM m.ins.fK aV d hd e0
  | some q =>
   obtain⟨up,az⟩:=q;exact FM m.ins.fK aV.2.2.2.1 d hd (append_eq_nil_iff.1 e0).1
 have I:=yJ (u:=v) (fun y hy=>by obtain⟨x,hx,hy⟩:=mem_flatMap.1 hy;exact fr x (mem_append_left _ hx) y hy) s1;have Z:=yJ (u:=v) (fun y hy=>by obtain⟨x,hx,hy⟩:=mem_flatMap.1 hy;exact fr x (mem_append_right _ hx) y hy) s3;have g1':=yJ (u:=v) U g1;have hh:∀e':Int,(sP u d ((t.pg i).kids[j]'m.hj) r).headD e'=(cA t d ((t.pg i).kids[j]'m.hj)).headD e':=fun e'=>by
  cases h1:sP u d ((t.pg i).kids[j]'m.hj) r with
  | nil=>exact absurd h1 E
  | cons a b =>
   cases h2:cA t d ((t.pg i).kids[j]'m.hj) with
   | nil=>exact absurd h2 hne
   | cons a' b'=>rw[h1,h2] at g2;exact g2
 rw[append_assoc];refine⟨?_,?_⟩
 ·rw[Bz,Bz];refine⟨?_,g1',Z⟩;rw[Ey E,hh];rw[Ey hne] at I;exact I
 cases hA:((t.pg i).kids.take j).flatMap (cA t d) with
 | cons a b=>rfl
 | nil=>rw[nil_append,nil_append,Ey E,Ey hne,hh]
end
end Go.Proofs.YtkgmonfgofobaaaGreatDoor.Tr

namespace Go.Proofs.YtkgmonfgofobaaaGreatDoor.Tr
open List
open Go.Proofs.Tryz
open Go.Lib (compareBytes)
variable {t u:aF} {h:Nat} {i:Int} {low high:K} {j:Nat} {k:K} {row:Int}
theorem abB{α:Type}{l:List α}{j E:Nat}(I:E<l.length)(hne:E≠j):l[E]∈l.take j++l.drop (j+1):=by
 rcases Nat.lt_or_ge E j with h|h
 ·exact mem_append_left _ (mem_iff_getElem.2 ⟨E,by rw[length_take];omega,by rw[getElem_take]⟩)
 refine mem_append_right _ (mem_iff_getElem.2 ⟨E-(j+1),by rw[length_drop];omega,?_⟩);rw[getElem_drop];congr 1;omega
theorem Jn(m:jy t u h i low high j k row none):oN t u (h+1) i low high k row none:=by
 have E:ow u u i:=⟨Nat.le_refl _,fun _ _ _ _=>rfl⟩
 have I:=m.same;have AR:=m.ok.idx;obtain⟨q1,q2,q3,q4,q5⟩:=m.ok;have aV:dM u h ((t.pg i).kids[j]'m.hj) (iw low (t.pg i) j) (gY (t.pg i) j):=(by have:=m.ins.ok;rw[m.az] at this;exact this)
 have qa:ids u (h+1) i=i::(((t.pg i).kids.take j).flatMap (ids t h)++nX u h ((t.pg i).kids[j]'m.hj) none++((t.pg i).kids.drop (j+1)).flatMap (ids t h)):=by
  rw[ids,I];conv=>lhs;rw[uR m.hj]
  rw[Jm (fun x hx=>(m.qI E (mem_append_left _ hx)).1) (fun x hx=>(m.qI E (mem_append_right _ hx)).1)];rfl
 have O:eo u (h+1) i=((t.pg i).kids.take j).flatMap (eo t h)++Gc u h ((t.pg i).kids[j]'m.hj) none++((t.pg i).kids.drop (j+1)).flatMap (eo t h):=by
  rw[eo,I];conv=>lhs;rw[uR m.hj]
  rw[Jm (fun x hx=>(m.qI E (mem_append_left _ hx)).2.1) (fun x hx=>(m.qI E (mem_append_right _ hx)).2.1)];rfl
 have U:∀d,d≤h→cA u (d+1) i=((t.pg i).kids.take j).flatMap (cA t d)++sP u d ((t.pg i).kids[j]'m.hj) none++((t.pg i).kids.drop (j+1)).flatMap (cA t d):=fun d hd=>by
  rw[cA,I];conv=>lhs;rw[uR m.hj]
  rw[Jm (fun x hx=>(m.qI E (mem_append_left _ hx)).2.2 d hd) (fun x hx=>(m.qI E (mem_append_right _ hx)).2.2 d hd)];rfl
 have hle:=m.ins.le;have Vp:=m.ins.more;have Z:=m.Rx;refine⟨hle,by omega,m.ins.root,m.ins.fK,fun x h0 hx hne=>?_,?_,?_,?_,?_,?_,?_⟩
 ·refine m.ins.out x h0 hx fun hm=>hne ?_;rw[m.az] at hm;rw[ids];exact mem_cons_of_mem _ (mem_flatMap.2 ⟨_,getElem_mem _,hm⟩)
 ·refine⟨⟨AR.1,by omega⟩,by rw[I];exact q2,by rw[I];exact q3,by rw[I];exact q4,?_⟩;rw[I];intro j' ju;by_cases e:j'=j
  ·subst e;exact aV
  exact m.TF E (abB ju e) (q5 j' ju)
 ·intro x hx;have pz:x∈ids u (h+1) i:=hx;exact VQ
 ·show(ids u (h+1) i).Nodup;rw[qa,nodup_cons];exact⟨Z.2,Z.1⟩
 ·show(ids u (h+1) i).length+_=_;rw[qa,length_cons];exact m.UP
 ·intro x;show x∈eo u (h+1) i↔_;rw[O];exact m.J9 x
 intro d hd e hs;cases d with
 | zero=>exact⟨by show(u.pg i).next=e;rw[I];exact hs,rfl⟩
 | succ d =>
  show fi u (cA u (d+1) i) e∧(cA u (d+1) i).headD e=_;rw[U d w4];exact m.KH E w4 hs
theorem jy.place{up:K}{az:Int}(m:jy t u h i low high j k row (some (up,az))):aL (t.pg i) up=j∧up∉(t.pg i).keys∧lM low high up∧bC low up:=by
 obtain⟨q1,q2,q3,I,U⟩:=m.ok;have po:=m.hp _ (jC q1);have hn:=(po.node q2).1;have aV:=m.ins.ok;rw[m.az] at aV;obtain⟨o1,o2,o3,Z,o5⟩:=aV;have O:=m.hj;have eJ:∀(h0:0<j),bC ((t.pg i).keys[j-1]'w4) up:=fun h0=>by rw[Fs h0 w4] at o2;exact o2
 have eD:∀(hl:j<(t.pg i).keys.length),bC up (t.pg i).keys[j]:=fun hl=>by
  rw[FL hl] at o3;exact o3 (by intro e;have:=(po.lC _ (getElem_mem hl)).1;rw[e] at this;simp at this)
 have fE:aL (t.pg i) up=j:=by
  unfold aL;rw[if_neg (by rw[q2];decide)];exact J8 po.j4 w4 (fun h0=>zc (eJ h0)) eD
 have E:bC low up:=by
  rcases Nat.eq_zero_or_pos j with h0|h0
  ·rw[h0] at o2;exact o2
  exact OV (I _ (getElem_mem (by omega:j-1<_))) (eJ h0)
 refine⟨fE,fun hm=>?_,⟨zc E,fun hne=>?_⟩,E⟩
 ·obtain⟨a,ha,e⟩:=mem_iff_getElem.1 hm;rcases Nat.lt_or_ge a j with h1|h1
  ·have h2:=eJ w4;rcases Nat.lt_or_ge a (j-1) with h3|h3
   ·have:=lR (nq po.j4 h3 w4) h2;rw[e] at this;exact jV _ this
   have:a=j-1:=(by omega)
   subst this;rw[e] at h2;exact jV _ h2
  have h2:=eD w4;rcases Nat.lt_or_ge j a with h3|h3
  ·have:=lR h2 (nq po.j4 h3 ha);rw[e] at this;exact jV _ this
  have:a=j:=(by omega)
  subst this;rw[e] at h2;exact jV _ h2
 by_cases hl:j<(t.pg i).keys.length
 ·exact lR (eD hl) (by rw[←q3];exact po.qN (by rw[q3];exact hne) _ (getElem_mem hl))
 rw[J6 w4,q3] at o3;exact o3 hne
theorem adm{up:K}{az:Int}(m:jy t u h i low high j k row (some (up,az))):oN t (rN u i up az).1 (h+1) i low high k row (rN u i up az).2:=by
 obtain⟨p1,p2,p3,p4⟩:=m.place;have es:=m.same;have AR:=m.ok.idx;have aV:=m.ins.ok;rw[m.az] at aV;obtain⟨o1,o2,o3,o4,o5⟩:=aV;obtain⟨q1,q2,q3,q4,q5⟩:=m.ok;have hle:=m.ins.le;have Vp:=m.ins.more;have U:0≤i∧i<u.ag.length:=⟨AR.1,by omega⟩
 have YF:=m.hp _ (jC q1);have po:eH (t.pg i) u.ag.length:=YF.more w4;have hn:=(po.node q2).1;have jR:=m.hj;have hf:wK (bw (t.pg i) up az) u.ag.length:=Jj po p2 o1 (by rw[q3];exact p3.2) o5.idx.1 (fun _=>o5.idx.2);have I:(bw (t.pg i) up az).kids=(t.pg i).kids.take j++((t.pg i).kids[j]'m.hj)::az::(t.pg i).kids.drop (j+1):=by
  show gU _ (if (t.pg i).leaf=true then _ else _) az=_;rw[if_neg (by rw[q2];decide),p1];exact OW m.hj az
 have aic:(bw (t.pg i) up az).keys=gU (t.pg i).keys j up:=by
  show gU _ _ _=_;rw[p1]
 have Z:∀x∈(bw (t.pg i) up az).keys,¬bC x low:=fun x hx=>by
  rcases uP.1 hx with rfl|h
  ·exact p3.1
  exact q4 x h
 have hKT:jn t h low (t.pg i).kids (t.pg i).keys high:=(By YF).1 m.ok |>.2.2.2.2
 -- what is below,in any tree aqO apo
 have below:∀{v:aF},ow u v i→(∀x,x∈ids u h ((t.pg i).kids[j]'m.hj)++ids u h az→v.pg x=u.pg x):=fun E x hx=>by
  refine m.below E x hx ?_ ?_
  ·rcases mem_append.1 hx with hx|hx
   ·exact(o4.ids x hx).1
   exact(o5.ids x hx).1
  rcases mem_append.1 hx with hx|hx
  ·exact(o4.ids x hx).2
  exact(o5.ids x hx).2
 have NX:∀{v:aF},ow u v i→_:=fun {v} E=>frame (t:=u) (u:=v) h ((t.pg i).kids[j]'m.hj) (fun x hx=>below E x (mem_append_left _ hx));have NY:∀{v:aF},ow u v i→_:=fun {v} E=>frame (t:=u) (u:=v) h az (fun x hx=>below E x (mem_append_right _ hx));have YG:∀{v:aF},ow u v i→jn v h low (bw (t.pg i) up az).kids (bw (t.pg i) up az).keys high:=fun {v} E=>by
  have e1:(bw (t.pg i) up az).kids=gU (t.pg i).kids (j+1) az:=(by rw[I];exact(OW m.hj az).symm)
  rw[e1,aic];refine Rv j m.hj hKT (fun c hc lo hi aV=>m.TF E ?_ aV) ?_ ?_
  ·rcases Z3 hc with hc|hc
   ·exact mem_append_left _ hc
   exact mem_append_right _ hc
  ·have:=o4.frame E.le (fun x hx=>below E x (mem_append_left _ hx));unfold iw at this;exact this
  have:=o5.frame E.le (fun x hx=>below E x (mem_append_right _ hx));unfold gY at this;rw[q3] at this;exact this
 have Wl:∀{v:aF},ow u v i→(bw (t.pg i) up az).kids.flatMap (ids v h)=((t.pg i).kids.take j).flatMap (ids t h)++nX u h ((t.pg i).kids[j]'m.hj) (some (up,az))++((t.pg i).kids.drop (j+1)).flatMap (ids t h):=fun {v} E=>by
  rw[I,IQ (fun x hx=>(m.qI E (mem_append_left _ hx)).1) (fun x hx=>(m.qI E (mem_append_right _ hx)).1),(NX E).1,(NY E).1];rfl
 have Vq:∀{v:aF},ow u v i→(bw (t.pg i) up az).kids.flatMap (eo v h)=((t.pg i).kids.take j).flatMap (eo t h)++Gc u h ((t.pg i).kids[j]'m.hj) (some (up,az))++((t.pg i).kids.drop (j+1)).flatMap (eo t h):=fun {v} E=>by
  rw[I,IQ (fun x hx=>(m.qI E (mem_append_left _ hx)).2.1) (fun x hx=>(m.qI E (mem_append_right _ hx)).2.1),(NX E).2.1,(NY E).2.1];rfl
 have Wm:∀{v:aF},ow u v i→∀d,d≤h→(bw (t.pg i) up az).kids.flatMap (cA v d)=((t.pg i).kids.take j).flatMap (cA t d)++sP u d ((t.pg i).kids[j]'m.hj) (some (up,az))++((t.pg i).kids.drop (j+1)).flatMap (cA t d):=fun {v} E d hd=>by
  rw[I,IQ (fun x hx=>(m.qI E (mem_append_left _ hx)).2.2 d hd) (fun x hx=>(m.qI E (mem_append_right _ hx)).2.2 d hd),(NX E).2.2 d hd,(NY E).2.2 d hd];rfl
 have vQ:=m.Rx;have Cp:=m.UP;have Wn:∀x:Int,0≤x→x<t.ag.length→x∉ids t (h+1) i→u.pg x=t.pg x∧x≠i:=fun x h0 hx hne=>by
  refine⟨m.ins.out x h0 hx fun hm=>hne ?_,fun e=>hne (by rw[e];exact tD _ _)⟩;rw[m.az] at hm;rw[ids];exact mem_cons_of_mem _ (mem_flatMap.2 ⟨_,getElem_mem _,hm⟩)
 by_cases h4:(bw (u.pg i) up az).keys.length≤4
 ·rw[Jl h4];rw[es] at h4 ⊢;have ep:=Bt U (bw (t.pg i) up az);have E:ow u (u.set i (bw (t.pg i) up az)) i:=⟨by rw[om];omega,fun x h0 hx hne=>v7 U.1 h0 (Ne.symm hne) _⟩
  have qa:ids (u.set i (bw (t.pg i) up az)) (h+1) i=i::(((t.pg i).kids.take j).flatMap (ids t h)++nX u h ((t.pg i).kids[j]'m.hj) (some (up,az))++((t.pg i).kids.drop (j+1)).flatMap (ids t h)):=(by rw[ids,ep,Wl E])
  refine⟨by rw[om];omega,by rw[om];omega,m.ins.root,by rw[om];exact IN m.ins.fK (hf.ok h4),fun x h0 hx hne=>?_,?_,fun x hx=>?_,?_,?_,fun x=>?_,fun d hd e hs=>?_⟩
  ·obtain⟨e1,e2⟩:=Wn x h0 hx hne;rw[E.pg x h0 w4 e2,e1]
  ·show dM _ (h+1) i low high;refine(By (n:=u.ag.length) (by rw[ep];exact hf.ok h4)).2 ?_;rw[ep];exact⟨by rw[om];exact U,q2,q3,Z,YG E⟩
  ·have pz:x∈ids (u.set i (bw (t.pg i) up az)) (h+1) i:=hx;exact VQ
  ·show(ids _ (h+1) i).Nodup;rw[qa,nodup_cons];exact⟨vQ.2,vQ.1⟩
  ·show(ids _ (h+1) i).length+_=_;rw[qa,length_cons,om];exact Cp
  ·show x∈eo _ (h+1) i↔_;rw[eo,ep,Vq E];exact m.J9 x
  cases d with
  | zero=>exact⟨by show((u.set i _).pg i).next=e;rw[ep];exact hs,rfl⟩
  | succ d =>
   show fi _ (cA _ (d+1) i) e∧(cA _ (d+1) i).headD e=_;rw[cA,ep,Wm E d w4];exact m.KH E w4 hs
 have h5:(bw (t.pg i) up az).keys.length=5:=(by rw[es] at h4;have:=hf.eI;omega)
 rw[IP h4];rw[es] at h4 ⊢;have Dw:(bw (t.pg i) up az).leaf=false:=q2;have ea:=P0 U (er (bw (t.pg i) up az) u.ag.length) (cr (bw (t.pg i) up az));have eb:=Rw u i (er (bw (t.pg i) up az) u.ag.length) (cr (bw (t.pg i) up az));have E:ow u (jo u i (er (bw (t.pg i) up az) u.ag.length) (cr (bw (t.pg i) up az))) i:=⟨by rw[pR];omega,fun x h0 hx hne=>Pg U.1 ⟨h0,hx⟩ (Ne.symm hne) _ _⟩
 obtain⟨u1,u2⟩:=TE hf.j4 h5 Z;have Dv:gM (bw (t.pg i) up az)∈(bw (t.pg i) up az).keys:=(by rw[ze h5];exact getElem_mem _)
 have eJ:=UO hf h5 w4;have eD:=TD (m:=u.ag.length+1) hf h5 w4;have AB:=Pf 2 w4 (YG E);rw[←ze h5] at AB;have HJ:(er (bw (t.pg i) up az) u.ag.length).kids=(bw (t.pg i) up az).kids.take 3:=by
  show(bw (t.pg i) up az).kids.take (if _ then _ else _)=_;rw[if_neg (by rw[Dw];decide)]
 have HK:(cr (bw (t.pg i) up az)).kids=(bw (t.pg i) up az).kids.drop 3:=by
  show(bw (t.pg i) up az).kids.drop (if _ then _ else _)=_;rw[if_neg (by rw[Dw];decide)]
 have ehy:(cr (bw (t.pg i) up az)).keys=(bw (t.pg i) up az).keys.drop 3:=by
  show(bw (t.pg i) up az).keys.drop (if _ then _ else _)=_;rw[if_neg (by rw[Dw];decide)]
 have O:∀{α:Type} (f:Int→List α),((bw (t.pg i) up az).kids.take 3).flatMap f++((bw (t.pg i) up az).kids.drop 3).flatMap f=(bw (t.pg i) up az).kids.flatMap f:=fun f=>by rw[←flatMap_append,take_append_drop]
 have qa:nX (jo u i (er (bw (t.pg i) up az) u.ag.length) (cr (bw (t.pg i) up az))) (h+1) i (some (gM (bw (t.pg i) up az),(u.ag.length:Int)))=(i::((bw (t.pg i) up az).kids.take 3).flatMap (ids (jo u i (er (bw (t.pg i) up az) u.ag.length) (cr (bw (t.pg i) up az))) h))++((u.ag.length:Int)::((bw (t.pg i) up az).kids.drop 3).flatMap (ids (jo u i (er (bw (t.pg i) up az) u.ag.length) (cr (bw (t.pg i) up az))) h)):=by
  show ids _ (h+1) i++ids _ (h+1) _=_;rw[ids,ids,ea,eb,HJ,HK]
 have pid:=(O (ids (jo u i (er (bw (t.pg i) up az) u.ag.length) (cr (bw (t.pg i) up az))) h)).trans (Wl E);have aky:∀x∈((t.pg i).kids.take j).flatMap (ids t h)++nX u h ((t.pg i).kids[j]'m.hj) (some (up,az))++((t.pg i).kids.drop (j+1)).flatMap (ids t h),x<u.ag.length:=fun x hx=>by
  rcases mem_append.1 hx with hx|hx
  ·rcases mem_append.1 hx with hx|hx
   ·obtain⟨c,hc,hx⟩:=mem_flatMap.1 hx;obtain⟨a,ha,rfl⟩:=mem_iff_getElem.1 (mem_of_mem_take hc);have:=(q5 a ha).ids x hx;omega
   rcases mem_append.1 hx with hx|hx
   ·exact(o4.ids x hx).2
   exact(o5.ids x hx).2
  obtain⟨c,hc,hx⟩:=mem_flatMap.1 hx;obtain⟨a,ha,rfl⟩:=mem_iff_getElem.1 (mem_of_mem_drop hc);have:=(q5 a ha).ids x hx;omega
 refine⟨by rw[pR];omega,by rw[pR];omega,m.ins.root,?_,fun x h0 hx hne=>?_,⟨hf.lC _ Dv,u1,fun hne=>?_,?_,?_⟩,fun x hx=>?_,?_,?_,fun x=>?_,fun d hd e hs=>?_⟩
 ·rw[pR];exact Pj m.ins.fK w4 eJ eD
 ·obtain⟨e1,e2⟩:=Wn x h0 hx hne;rw[E.pg x h0 w4 e2,e1]
 ·have:=hf.qN (by show(t.pg i).high≠[];rw[q3];exact hne) _ Dv;rw[←q3];exact this
 ·refine(By (n:=(u.ag.length:Int)+1) (by rw[ea];exact eJ)).2 ?_;rw[ea,HJ];exact⟨by rw[pR];omega,Dw,rfl,fun x hx=>Z x (mem_of_mem_take hx),AB.1⟩
 ·refine(By (n:=(u.ag.length:Int)+1) (by rw[eb];exact eD)).2 ?_;rw[eb,HK,ehy];refine⟨by rw[pR];omega,Dw,q3,fun x hx=>u2 x ?_,AB.2⟩;rw[show 3=2+1 from rfl,←drop_drop] at hx;exact mem_of_mem_drop hx
 ·rw[qa] at hx;have fm:x=i∨x=(u.ag.length:Int)∨x∈((bw (t.pg i) up az).kids.take 3).flatMap (ids (jo u i (er (bw (t.pg i) up az) u.ag.length) (cr (bw (t.pg i) up az))) h)++((bw (t.pg i) up az).kids.drop 3).flatMap (ids (jo u i (er (bw (t.pg i) up az) u.ag.length) (cr (bw (t.pg i) up az))) h):=by
   rcases mem_append.1 hx with hx|hx
   ·rcases mem_cons.1 hx with h|h
    ·exact .inl h
    exact .inr (.inr (mem_append_left _ h))
   rcases mem_cons.1 hx with h|h
   ·exact .inr (.inl h)
   exact .inr (.inr (mem_append_right _ h))
  rw[pid] at fm;rcases fm with rfl|rfl|hx
  ·exact .inl (tD _ _)
  ·exact .inr w4
  exact m.Ux x hx
 ·rw[qa];have hnd:=vQ.1;rw[←pid,nodup_append] at hnd;have qo:=vQ.2;rw[←pid] at qo;simp only[mem_append,not_or] at qo;have n8:∀x∈((bw (t.pg i) up az).kids.take 3).flatMap (ids (jo u i (er (bw (t.pg i) up az) u.ag.length) (cr (bw (t.pg i) up az))) h)++((bw (t.pg i) up az).kids.drop 3).flatMap (ids (jo u i (er (bw (t.pg i) up az) u.ag.length) (cr (bw (t.pg i) up az))) h),x<u.ag.length:=fun x hx=>aky x (by rw[←pid];exact hx);rw[nodup_append,nodup_cons,nodup_cons];refine⟨⟨qo.1,hnd.1⟩,⟨fun hm=>?_,hnd.2.1⟩,fun a ha b hb e=>?_⟩
  ·have:=n8 _ (mem_append_right _ hm);omega
  subst e;rcases mem_cons.1 ha with rfl|ha
  ·rcases mem_cons.1 hb with hb|hb
   ·omega
   exact qo.2 hb
  rcases mem_cons.1 hb with rfl|hb
  ·have:=n8 _ (mem_append_left _ ha);omega
  exact hnd.2.2 a ha a hb rfl
 ·rw[qa,pR];have:=congrArg length pid;rw[length_append] at this;rw[length_append,length_cons,length_cons];omega
 ·show x∈eo _ (h+1) i++eo _ (h+1) _↔_;rw[eo,eo,ea,eb,HJ,HK,O,Vq E];exact m.J9 x
 cases d with
 | zero =>
  refine⟨?_,rfl⟩;show((jo u i _ _).pg i).next=_∧((jo u i _ _).pg _).next=e;rw[ea,eb];exact⟨rfl,hs⟩
 | succ d =>
  show fi _ (cA _ (d+1) i++cA _ (d+1) _) e∧(cA _ (d+1) i++cA _ (d+1) _).headD e=_;rw[cA,cA,ea,eb,HJ,HK,O,Wm E d w4];exact m.KH E w4 hs
theorem FN:∀{h:Nat} {t:aF} (hp:∀p∈t.ag,eH p t.ag.length) {i:Int} {low high:K} (ok:dM t h i low high) (nd:(ids t h i).Nodup) {k:K} {row:Int} (hk:lM low high k) (hn:∀x∈eo t h i,x.1≠k) (hl:1≤k.length∧k.length≤100) (hr:0≤row),oN t (gB t k row h i).1 h i low high k row (gB t k row h i).2
 | 0,t,hp,i,low,high,ok,nd,k,row,hk,hn,hl,hr=>adk hp ok hk hn hl hr
 | h+1,t,hp,i,low,high,ok,nd,k,row,hk,hn,hl,hr=>by
  obtain⟨q1,q2,q3,U,O⟩:=id ok;have po:=hp _ (jC q1);obtain⟨d1,d2⟩:=down po q2 q3 hk;have E:=(v8 d1 nd).1;have I:=FN (h:=h) hp (O _ d1) E d2 (fun x hx=>hn x MQ) hl hr;rw[←tJ d1] at I;rw[gB];generalize gB t k row h ((t.pg i).kids.getD (aL (t.pg i) k) 0)=R at I;obtain⟨u,r⟩:=R;have m:jy t u h i low high (aL (t.pg i) k) k row r:=⟨hp,ok,nd,d1,d2,I⟩
  cases r with
  | none=>exact Jn m
  | some q=>obtain⟨up,az⟩:=q;exact adm m

end Go.Proofs.YtkgmonfgofobaaaGreatDoor.Tr
namespace Go.Proofs.YtkgmonfgofobaaaGreatDoor.Tr
open List
open Go.Proofs.Tryz
open Go.Lib (compareBytes)
variable {t:aF} {h:Nat} {k:K} {row:Int}
variable {p:cW}
def kY(t:aF)(h:Nat):List (K×Int):=eo t h t.root
def gH(t:aF)(h:Nat)(k:K)(row:Int):aF:=aib (gB t k row h t.root)
def ja(u:aF)(up:K)(az:Int):aF:=⟨u.ag++[⟨false,[up],[u.root,az],[],-1⟩],u.ag.length⟩
theorem tK(u:aF)(up:K)(az:Int):(ja u up az).ag.length=u.ag.length+1:=by simp[ja]
theorem adn(u:aF)(up:K)(az:Int):(ja u up az).pg u.ag.length=⟨false,[up],[u.root,az],[],-1⟩:=by
 unfold aF.pg ja;rw[getD_eq_getElem?_getD,getElem?_append_right w4];simp
theorem adp{u:aF}{x:Int}(hx:0≤x∧x<u.ag.length)(up:K)(az:Int):(ja u up az).pg x=u.pg x:=by
 unfold aF.pg ja;rw[getD_eq_getElem?_getD,getD_eq_getElem?_getD,getElem?_append_left w4]
theorem Valid.range(v:Valid t h):0≤t.root∧t.root<t.ag.length:=v.ok.idx
theorem Ry(hp:∀p∈t.ag,eH p t.ag.length):∀{h:Nat} {i:Int} {low high:K},dM t h i low high→h+1≤(ids t h i).length
 | 0,_,_,_,_=>by simp[ids]
 | h+1,i,low,high,⟨q1,q2,q3,I,E⟩=>by
  have po:=hp _ (jC q1);have hn:=(po.node q2).1;have h0:0<(t.pg i).kids.length:=(by omega)
  have:=Ry hp (E 0 h0);rw[ids,length_cons,uR h0,flatMap_append,flatMap_cons,length_append,length_append];omega
theorem Valid.high(v:Valid t h):h<t.ag.length:=by
 have:=Ry v.fK v.ok;rw[v.all] at this;omega
theorem abC(v:Valid t h)(hn:∀x∈kY t h,x.1≠k)(hl:1≤k.length∧k.length≤100)(hr:0≤row)(hm:t.ag.length+(h+2)≤4000) :
  ∃h',(h≤h'∧h'≤h+1)∧Valid (gH t h k row) h'∧(t.ag.length≤(gH t h k row).ag.length∧(gH t h k row).ag.length≤t.ag.length+(h+2))∧∀x,x∈kY (gH t h k row) h'↔x=(k,row)∨x∈kY t h:=by
 have I:=FN v.fK v.ok v.zV (tQ k) hn hl hr;unfold gH;generalize gB t k row h t.root=R at I;obtain⟨u,r⟩:=R;have hle:t.ag.length≤u.ag.length:=I.le;have Vp:u.ag.length≤t.ag.length+(h+1):=I.more;have O:(nX u h t.root r).length+t.ag.length=(ids t h t.root).length+u.ag.length:=I.jj;rw[v.all] at O;have aqP:=v.pos;have E:u.root=t.root:=I.root;cases r with
 | none =>
  refine⟨h,⟨Nat.le_refl _,by omega⟩,⟨by show 1≤u.ag.length;omega,by show u.ag.length≤4000;omega,I.fK,?_,?_,?_,fun d hd=>?_⟩,⟨hle,by show u.ag.length≤_;omega⟩,fun x=>?_⟩
  ·show dM u h u.root [] [];rw[E];exact I.ok
  ·show(ids u h u.root).Nodup;rw[E];exact I.nodup
  ·show(ids u h u.root).length=u.ag.length;rw[E];have:(ids u h t.root).length+t.ag.length=t.ag.length+u.ag.length:=O;omega
  ·show fi u (cA u d u.root) (-1);rw[E];exact(I.pJ d hd (-1) (v.pJ d hd)).1
  show x∈eo u h u.root↔_;rw[E];exact I.eo x
 | some q =>
  obtain⟨up,az⟩:=q;obtain⟨o1,o2,o3,o4,o5⟩:(1≤up.length∧up.length≤100)∧bC [] up∧(([]:K)≠[]→bC up [])∧dM u h t.root [] up∧dM u h az up []:=I.ok;have ho:∀x∈ids u h t.root++ids u h az,(ja u up az).pg x=u.pg x:=fun x hx=>by
   refine adp ?_ up az;rcases mem_append.1 hx with hx|hx
   ·exact o4.ids x hx
   exact o5.ids x hx
  have f1:=frame (t:=u) (u:=ja u up az) h t.root (fun x hx=>ho x (mem_append_left _ hx));have f2:=frame (t:=u) (u:=ja u up az) h az (fun x hx=>ho x (mem_append_right _ hx));have g1:dM (ja u up az) h t.root [] up:=o4.frame (by rw[tK];omega) (fun x hx=>ho x (mem_append_left _ hx));have g2:dM (ja u up az) h az up []:=o5.frame (by rw[tK];omega) (fun x hx=>ho x (mem_append_right _ hx));have U:=adn u up az;rw[E] at U;have hnd:=I.nodup;have qa:ids (ja u up az) (h+1) u.ag.length=(u.ag.length:Int)::(ids u h t.root++ids u h az):=by
   rw[ids,U];show _::([t.root,az].flatMap (ids (ja u up az) h))=_;rw[flatMap_cons,flatMap_cons,flatMap_nil,append_nil,f1.1,f2.1]
  have Z:eH (⟨false,[up],[t.root,az],[],-1⟩:cW) (u.ag.length+1:Nat):=by
   have i1:=o4.idx;have i2:=o5.idx;refine⟨by simp,by simp,by simp,by simp;omega,by simp,(fun h=>by cases h),fun _=>⟨rfl,by simp⟩,fun x hx=>?_,fun h=>absurd rfl h,by simp,fun x hx=>?_,fun _ x hx=>?_⟩
   ·have:x=up:=(by simpa using hx)
    subst this;exact o1
   ·have:x=t.root∨x=az:=(by simpa using hx)
    rcases this with rfl|rfl
    ·exact i1.1
    exact i2.1
   have:x=t.root∨x=az:=(by simpa using hx)
   rcases this with rfl|rfl<;>omega
  refine⟨h+1,⟨by omega,by omega⟩,⟨?_,?_,?_,?_,?_,?_,fun d hd=>?_⟩,⟨?_,?_⟩,fun x=>?_⟩
  ·show 1≤(ja u up az).ag.length;rw[tK];omega
  ·show(ja u up az).ag.length≤4000;rw[tK];omega
  ·show ∀p∈(ja u up az).ag,eH p (ja u up az).ag.length;rw[tK];intro p hp;rcases mem_append.1 hp with hp|hp
   ·have As:eH p u.ag.length:=I.fK p hp;exact As.more w4
   rw[mem_singleton] at hp;subst hp;rw[E];exact Z
  ·show dM (ja u up az) (h+1) u.ag.length [] [];refine(By (n:=(u.ag.length+1:Nat)) (by rw[U];exact Z)).2 ?_;rw[U];refine⟨by rw[tK];omega,rfl,rfl,fun x _=>KF x,?_⟩;rw[qA,Bu];exact⟨g1,g2⟩
  ·show(ids (ja u up az) (h+1) u.ag.length).Nodup;rw[qa,nodup_cons];refine⟨fun hm=>?_,hnd⟩;rcases mem_append.1 hm with hm|hm
   ·have:=o4.ids _ hm;omega
   have:=o5.ids _ hm;omega
  ·show(ids (ja u up az) (h+1) u.ag.length).length=(ja u up az).ag.length;rw[qa,tK,length_cons];have:(ids u h t.root++ids u h az).length+t.ag.length=t.ag.length+u.ag.length:=O;omega
  ·show fi (ja u up az) (cA (ja u up az) d u.ag.length) (-1);cases d with
   | zero=>show((ja u up az).pg u.ag.length).next = -1;rw[U]
   | succ d =>
    rw[cA,U];show fi _ ([t.root,az].flatMap (cA (ja u up az) d)) (-1);rw[flatMap_cons,flatMap_cons,flatMap_nil,append_nil,f1.2.2 d w4,f2.2.2 d w4];refine yJ (fun x hx=>?_) (I.pJ d w4 (-1) (v.pJ d w4)).1;have pz:x∈cA u d t.root++cA u d az:=hx;rw[ho x ?_];rcases mem_append.1 pz with pz|pz
    ·exact mem_append_left _ (sB h _ d w4 x pz)
    exact mem_append_right _ (sB h _ d w4 x pz)
  ·show t.ag.length≤(ja u up az).ag.length;rw[tK];omega
  ·show(ja u up az).ag.length≤_;rw[tK];omega
  show x∈eo (ja u up az) (h+1) u.ag.length↔_;rw[eo,U];show x∈[t.root,az].flatMap (eo (ja u up az) h)↔_;rw[flatMap_cons,flatMap_cons,flatMap_nil,append_nil,f1.2.1,f2.2.1];exact I.eo x
theorem P1:Valid qc 0:=by
 refine⟨by decide,by decide,fun p hp=>?_,⟨by decide,rfl,rfl,fun k hk=>by cases hk⟩,by simp[ids],rfl,fun d hd=>?_⟩
 ·have:p=⟨true,[],[],[],-1⟩:=(by simpa[qc] using hp)
  subst this;exact⟨by simp,by simp,by simp,by simp[qc],by simp,fun _=>rfl,(fun h=>by cases h),(fun k hk=>by cases hk),(fun h=>absurd rfl h),by simp,(fun n hn=>by cases hn),(fun h=>by cases h)⟩
 obtain rfl:d=0:=(by omega)
 rfl
theorem adq:kY qc 0=[]:=rfl
theorem EQ(hl:p.kids.length=p.keys.length){a:Nat}(ha:a<p.keys.length):(ff p)[a]'(by unfold ff;rw[length_zip];omega)=(p.keys[a],p.kids[a]'w4):=by unfold ff;rw[getElem_zip]
theorem Bg(hl:p.kids.length=p.keys.length){x:K×Int}:x∈ff p↔∃a,∃(ha:a<p.keys.length),x=(p.keys[a],p.kids[a]'w4):=by
 constructor
 ·intro h;obtain⟨a,ha,e⟩:=mem_iff_getElem.1 h;have E:a<p.keys.length:=(by unfold ff at ha;rw[length_zip] at ha;omega)
  exact⟨a,E,by rw[←e,EQ hl E]⟩
 rintro⟨a,ha,rfl⟩;exact mem_iff_getElem.2 ⟨a,by unfold ff;rw[length_zip];omega,EQ hl ha⟩
def BI(t:aF)(k:K)(h:Nat):Prop:=∃(ha:aL (t.pg (aI t k h t.root)) k<(t.pg (aI t k h t.root)).keys.length),(t.pg (aI t k h t.root)).keys[aL (t.pg (aI t k h t.root)) k]=k
theorem Valid.leaf(v:Valid t h)(k:K):(0≤aI t k h t.root∧aI t k h t.root<t.ag.length)∧(t.pg (aI t k h t.root)).leaf=true:=by
 obtain⟨_,_,_,_,_,_,_,h3,_⟩:=Bs v.fK v.ok (tQ k);exact⟨h3.1,h3.2.1⟩
theorem found(v:Valid t h)(k:K)(row:Int):(k,row)∈kY t h↔∃(ha:aL (t.pg (aI t k h t.root)) k<(t.pg (aI t k h t.root)).keys.length),(t.pg (aI t k h t.root)).keys[aL (t.pg (aI t k h t.root)) k]=k∧(t.pg (aI t k h t.root)).kids.getD (aL (t.pg (aI t k h t.root)) k) 0=row:=by
 obtain⟨pre,post,lo,hi,e,h1,h2,h3,h4⟩:=Bs v.fK v.ok (tQ k);have po:=v.fK _ (jC h3.1);have fR:=h3.2.1;have hlen:=po.leaf fR;unfold kY;rw[wq,e,flatMap_append,flatMap_cons];generalize I:t.pg (aI t k h t.root)=p at *;have fE:aL p k=gA p.keys k:=(by unfold aL;rw[if_pos fR])
 rw[fE];simp only[mem_append];constructor
 ·rintro(hx|hx|hx)
  ·obtain⟨l,hl,hx⟩:=mem_flatMap.1 hx;exact absurd (h1 l hl _ hx) (jV k)
  ·obtain⟨a,ha,e2⟩:=(Bg hlen).1 hx;injection e2 with E O
   have:gA p.keys k=a:=by
    rcases Nat.lt_trichotomy (gA p.keys k) a with h5|h5|h5
    ·exfalso;have:=Bf (keys:=p.keys) (k:=k) w4;have h6:=nq po.j4 h5 ha;rw[←E] at h6;exact this h6
    ·exact h5
    have:=(Bq h5).2;rw[←E] at this;exact absurd this (jV k)
   subst this;exact⟨ha,E.symm,by rw[getD_eq_getElem?_getD,getElem?_eq_getElem w4];exact O.symm⟩
  obtain⟨l,hl,hx⟩:=mem_flatMap.1 hx;exact absurd (h2 l hl _ hx) (jV k)
 rintro⟨ha,e1,e2⟩;refine .inr (.inl ((Bg hlen).2 ⟨_,ha,?_⟩));rw[getD_eq_getElem?_getD,getElem?_eq_getElem w4] at e2;rw[e1];congr 1;exact e2.symm
theorem Bh(v:Valid t h)(k:K):BI t k h↔∃row,(k,row)∈kY t h:=by
 constructor
 ·rintro⟨ha,e⟩;exact⟨_,(found v k _).2 ⟨ha,e,rfl⟩⟩
 rintro⟨row,hr⟩;obtain⟨ha,e,_⟩:=(found v k row).1 hr;exact⟨ha,e⟩
def kH(p:cW)(a:Nat):cW:={p with keys:=p.keys.eraseIdx a,kids:=p.kids.eraseIdx a}
def gI(t:aF)(h:Nat)(k:K):aF:=t.set (aI t k h t.root) (kH (t.pg (aI t k h t.root)) (aL (t.pg (aI t k h t.root)) k))
theorem agO{n:Int}(hp:eH p n)(hl:p.leaf=true){a:Nat}(ha:a<p.keys.length):eH (kH p a) n:=by
 have hlen:=hp.leaf hl;refine⟨?_,hp.hlen,hp.wY,hp.wM,hp.wZ,fun _=>?_,fun h=>?_,fun k hk=>hp.lC k ((eraseIdx_sublist _ _).subset hk),fun hne k hk=>hp.qN hne k ((eraseIdx_sublist _ _).subset hk),hp.j4.sublist (eraseIdx_sublist _ _),fun x hx=>hp.az x ((eraseIdx_sublist _ _).subset hx),fun h=>?_⟩
 ·show(p.keys.eraseIdx a).length≤4;rw[length_eraseIdx_of_lt ha];have:=hp.eI;omega
 ·show(p.kids.eraseIdx a).length=(p.keys.eraseIdx a).length;rw[length_eraseIdx_of_lt ha,length_eraseIdx_of_lt w4,hlen]
 ·have:p.leaf=false:=h;rw[hl] at this;cases this
 have:p.leaf=false:=h;rw[hl] at this;cases this
theorem P2{α β:Type}:∀{a:List α} {b:List β} {n:Nat},(a.eraseIdx n).zip (b.eraseIdx n)=(a.zip b).eraseIdx n
 | [],_,n=>by simp
 | _::_,[],n=>by cases n<;>simp
 | x::a,y::b,0=>by simp
 | x::a,y::b,n+1=>by simp[P2 (a:=a) (b:=b) (n:=n)]
theorem Rz{q:cW}{l:Int}(hq:q.leaf=true)(Z:q.high=(t.pg l).high)(hx:q.next=(t.pg l).next)(hl:0≤l∧l<t.ag.length)(fR:(t.pg l).leaf=true)(E:∀k∈q.keys,k∈(t.pg l).keys):∀{h:Nat} {i:Int} {low high:K},dM t h i low high →
  dM (t.set l q) h i low high∧ids (t.set l q) h i=ids t h i∧∀d,d≤h→cA (t.set l q) d i=cA t d i
 | 0,i,low,high,⟨q1,q2,q3,I⟩=>by
  refine⟨?_,rfl,fun d hd=>by cases Nat.le_zero.1 hd;rfl⟩;by_cases e:l=i
  ·subst e;rw[dM,Bt hl,om];exact⟨q1,hq,by rw[Z];exact q3,fun k hk=>I k (E k hk)⟩
  rw[dM,v7 hl.1 q1.1 e,om];exact⟨q1,q2,q3,I⟩
 | h+1,i,low,high,⟨q1,q2,q3,I,q5⟩=>by
  have e:l≠i:=fun e=>by rw[e,q2] at fR;cases fR
  have O:=v7 (t:=t) hl.1 q1.1 e q;have U:=fun j (hj:j<(t.pg i).kids.length)=>Rz hq Z hx hl fR E (q5 j hj);refine⟨?_,?_,fun d hd=>?_⟩
  ·rw[dM,O,om];exact⟨q1,q2,q3,I,fun j hj=>(U j hj).1⟩
  ·rw[ids,ids,O];congr 1;refine rz fun c hc=>?_;obtain⟨j,hj,rfl⟩:=mem_iff_getElem.1 hc;exact(U j hj).2.1
  cases d with
  | zero=>rfl
  | succ d =>
   rw[cA,cA,O];refine rz fun c hc=>?_;obtain⟨j,hj,rfl⟩:=mem_iff_getElem.1 hc;exact(U j hj).2.2 d w4
theorem abD(v:Valid t h)(ht:BI t k h):Valid (gI t h k) h∧(gI t h k).ag.length=t.ag.length∧∀x,x∈kY (gI t h k) h↔x∈kY t h∧x.1≠k:=by
 obtain⟨ha,hk⟩:=ht;obtain⟨hl,fR⟩:=v.leaf k;have po:=v.fK _ (jC hl);have hq:=agO po fR ha;have hlen:=po.leaf fR;have S:=fun {i:Int} {low high:K} (ok:dM t h i low high)=>Rz (t:=t) (q:=kH (t.pg (aI t k h t.root)) (aL (t.pg (aI t k h t.root)) k)) (l:=aI t k h t.root) fR rfl rfl hl fR (fun k hk=>(eraseIdx_sublist _ _).subset hk) ok;obtain⟨s1,s2,s3⟩:=S v.ok;have E:(gI t h k).ag.length=t.ag.length:=om _ _ _;refine⟨⟨by rw[E];exact v.pos,by rw[E];exact v.nW,?_,s1,?_,?_,fun d hd=>?_⟩,E,fun x=>?_⟩
 ·rw[E];exact IN v.fK hq
 ·show(ids (gI t h k) h t.root).Nodup;unfold gI;rw[s2];exact v.zV
 ·show(ids (gI t h k) h t.root).length=_;rw[E];unfold gI;rw[s2];exact v.all
 ·show fi (gI t h k) (cA (gI t h k) d t.root) (-1);unfold gI;rw[s3 d hd];refine yJ (fun y hy=>?_) (v.pJ d hd);have I:=v.ok.ids y (sB h _ d hd y hy);by_cases e:aI t k h t.root=y
  ·rw[←e,Bt hl];rfl
  rw[v7 hl.1 I.1 e]
 obtain⟨pre,post,lo,hi,e,h1,h2,h3,h4⟩:=Bs v.fK v.ok (tQ k);have hlv:(cA t h t.root).Nodup→aI t k h t.root∉pre∧aI t k h t.root∉post:=fun hn=>by
  rw[e,nodup_append,nodup_cons] at hn;exact⟨fun hm=>hn.2.2 _ hm _ (mem_cons_self) rfl,hn.2.1.1⟩
 have eJ:∀y∈pre,ff ((gI t h k).pg y)=ff (t.pg y)∨y=aI t k h t.root:=fun y hy=>by
  by_cases e':aI t k h t.root=y
  ·exact .inr e'.symm
  left;have I:=v.ok.ids y (sB h _ h (Nat.le_refl _) y (by rw[e];exact mem_append_left _ hy));unfold gI;rw[v7 hl.1 I.1 e']
 have rV:∀y∈post,ff ((gI t h k).pg y)=ff (t.pg y)∨y=aI t k h t.root:=fun y hy=>by
  by_cases e':aI t k h t.root=y
  ·exact .inr e'.symm
  left;have I:=v.ok.ids y (sB h _ h (Nat.le_refl _) y (by rw[e];exact mem_append_right _ (mem_cons_of_mem _ hy)));unfold gI;rw[v7 hl.1 I.1 e']
 have Z:(k,(t.pg (aI t k h t.root)).kids.getD (aL (t.pg (aI t k h t.root)) k) 0)∈ff (t.pg (aI t k h t.root)):=(Bg hlen).2 ⟨_,ha,by rw[hk,getD_eq_getElem?_getD,getElem?_eq_getElem w4];rfl⟩;have akz:aI t k h t.root∉pre:=fun hm=>absurd (h1 _ hm _ Z) (jV k);have aid:aI t k h t.root∉post:=fun hm=>absurd (h2 _ hm _ Z) (jV k);have ed:ff ((gI t h k).pg (aI t k h t.root))=(ff (t.pg (aI t k h t.root))).eraseIdx (aL (t.pg (aI t k h t.root)) k):=by
  unfold gI;rw[Bt hl];exact P2
 have fe:∀{A:List Int},(∀y∈A,ff ((gI t h k).pg y)=ff (t.pg y)∨y=aI t k h t.root)→aI t k h t.root∉A→A.flatMap (fun l=>ff ((gI t h k).pg l))=A.flatMap (fun l=>ff (t.pg l)):=fun {A} hA hn=>rz fun y hy=>(hA y hy).resolve_right fun e'=>hn (e' ▸ hy);have O:∀x:K×Int,x∈(ff (t.pg (aI t k h t.root))).eraseIdx (aL (t.pg (aI t k h t.root)) k)↔x∈ff (t.pg (aI t k h t.root))∧x.1≠k:=fun x=>by
  rw[mem_eraseIdx_iff_getElem];constructor
  ·rintro⟨a,YH,hne,rfl⟩;refine⟨getElem_mem _,fun hc=>hne ?_⟩;have U:a<(t.pg (aI t k h t.root)).keys.length:=(by unfold ff at YH;rw[length_zip] at YH;omega)
   rw[EQ hlen U] at hc;have hc:(t.pg (aI t k h t.root)).keys[a]=k:=hc;rcases Nat.lt_trichotomy a (aL (t.pg (aI t k h t.root)) k) with h5|h5|h5
   ·have:=nq po.j4 h5 ha;rw[hc,hk] at this;exact absurd this (jV k)
   ·exact h5
   have:=nq po.j4 h5 U;rw[hc,hk] at this;exact absurd this (jV k)
  rintro⟨hx,hne⟩;obtain⟨a,U,rfl⟩:=(Bg hlen).1 hx;refine⟨a,by unfold ff;rw[length_zip];omega,fun e'=>hne ?_,EQ hlen U⟩;subst e';exact hk
 show x∈eo (gI t h k) h t.root↔x∈eo t h t.root∧_;rw[wq,wq];have akA:cA (gI t h k) h t.root=cA t h t.root:=s3 h (Nat.le_refl _);rw[akA,e,flatMap_append,flatMap_cons,flatMap_append,flatMap_cons,fe eJ akz,fe rV aid,ed];simp only[mem_append,O];constructor
 ·rintro(hx|hx|hx)
  ·refine⟨.inl hx,fun hc=>?_⟩;obtain⟨l,me,hx⟩:=mem_flatMap.1 hx;have:=h1 l me x hx;rw[hc] at this;exact jV k this
  ·exact⟨.inr (.inl hx.1),hx.2⟩
  refine⟨.inr (.inr hx),fun hc=>?_⟩;obtain⟨l,me,hx⟩:=mem_flatMap.1 hx;have:=h2 l me x hx;rw[hc] at this;exact jV k this
 rintro⟨hx|hx|hx,hne⟩
 ·exact .inl hx
 ·exact .inr (.inl ⟨hx,hne⟩)
 exact .inr (.inr hx)

end Go.Proofs.YtkgmonfgofobaaaGreatDoor.Tr
namespace Go.Proofs.YtkgmonfgofobaaaGreatDoor.Tr
open List
open Go.Proofs.Tryz
open Go.Lib (compareBytes)
def sQ(lv:List (List Int))(n:Nat):List (List Int):=lv++replicate (n-lv.length) []
def kK(lv:List (List Int))(level:Nat)(i:Int):List (List Int):=(sQ lv (level+1)).set level ((sQ lv (level+1)).getD level []++[i])
abbrev jz:=List Int×List (List Int)
def lV(go:Int→K→K→jz→Option (Nat×jz))(low:K)(p:cW):List Int→Nat→Option Nat→jz→Option (Nat×jz)
 | [],_,deep,s=>deep.map fun d=>(d,s)
 | c::cs,k,deep,s=>match go c (iw low p k) (gY p k) s with
  | none=>none
  | some (d,s')=>if deep=none∨deep=some d then lV go low p cs (k+1) (some d) s' else none
def jq(t:aF):Nat→Int→K→K→Nat→jz→Option (Nat×jz)
 | 0,_,_,_,_,_=>none
 | f+1,i,low,high,level,s =>
  if i∈s.1 then none
  else if (t.pg i).high≠high∨(∃k,(t.pg i).keys.head?=some k∧bC k low) then none
  else if (t.pg i).leaf=true then some (level,(s.1++[i],kK s.2 level i))
  else lV (fun c lo hi s=>jq t f c lo hi (level+1) s) low (t.pg i) (t.pg i).kids 0 none (s.1++[i],kK s.2 level i)
def uY(t:aF):Prop:=∀p∈t.ag,eH p t.ag.length
open Classical in
noncomputable def gD(t:aF):Int :=
 if t.ag.length<1∨t.ag.length>4000∨t.root<0∨t.root≥t.ag.length then 11
 else if ¬uY t then 11
 else match jq t (t.ag.length+1) t.root [] [] 0 ([],[]) with
  | none=>11
  | some (_,s)=>if s.1.length≠t.ag.length then 11 else if ∀l∈s.2,fi t l (-1) then 0 else 11
theorem RA(lv:List (List Int))(n:Nat):(sQ lv n).length=max lv.length n:=by unfold sQ;rw[length_append,length_replicate];omega
theorem Ka(lv:List (List Int))(n m:Nat):(sQ lv n).getD m []=lv.getD m []:=by
 unfold sQ;rw[getD_eq_getElem?_getD,getD_eq_getElem?_getD];rcases Nat.lt_or_ge m lv.length with h|h
 ·rw[getElem?_append_left h]
 rw[getElem?_append_right h,getElem?_eq_none h,getElem?_replicate];split<;>rfl
theorem Jo(lv:List (List Int))(level:Nat)(i:Int):(kK lv level i).length=max lv.length (level+1):=by unfold kK;rw[length_set,RA]
theorem Ft(lv:List (List Int))(level:Nat)(i:Int)(m:Nat):(kK lv level i).getD m []=lv.getD m []++(if m=level then [i] else []):=by
 unfold kK;rw[getD_eq_getElem?_getD];by_cases e:m=level
 ·subst e;rw[getElem?_set_self (by rw[RA];omega),Ka,if_pos rfl];rfl
 rw[getElem?_set_ne (fun h=>e h.symm),if_neg e,append_nil,←getD_eq_getElem?_getD,Ka]
def wU(t:aF)(h level:Nat)(i:Int)(m:Nat):List Int:=if level≤m∧m≤level+h then cA t (m-level) i else []
variable {t:aF}
theorem RB {h level:Nat} {low:K} {p:cW} (go:Int→K→K→jz→Option (Nat×jz))
  (O:∀(c:Int) (lo hi:K) (s:jz),dM t h c lo hi→(∀x∈ids t h c,x∉s.1)→(ids t h c).Nodup→∃lv,go c lo hi s=some (level+1+h,(s.1++ids t h c,lv))∧lv.length=max s.2.length (level+1+h+1)∧∀m,lv.getD m []=s.2.getD m []++wU t h (level+1) c m) :
  ∀(cs:List Int) (k:Nat) (deep:Option Nat) (s:jz),(∀j (hj:j<cs.length),dM t h cs[j] (iw low p (k+j)) (gY p (k+j)))→(cs.flatMap (ids t h)).Nodup→(∀x∈cs.flatMap (ids t h),x∉s.1)→(deep=none∨deep=some (level+1+h))→(cs≠[]∨deep≠none) →
   ∃lv,lV go low p cs k deep s=some (level+1+h,(s.1++cs.flatMap (ids t h),lv))∧lv.length=(if cs=[] then s.2.length else max s.2.length (level+1+h+1))∧∀m,lv.getD m []=s.2.getD m []++(if level+1≤m∧m≤level+1+h then cs.flatMap (cA t (m-(level+1))) else [])
 | [],k,deep,s,_,_,_,hd,hne=>by
  rcases hd with rfl|rfl
  ·rcases hne with h|h<;>exact absurd rfl h
  exact⟨s.2,by simp[lV],by simp,fun m=>by split<;>simp⟩
 | c::cs,k,deep,s,aV,hnd,E,hd,_=>by
  rw[flatMap_cons] at hnd E;rw[nodup_append] at hnd;obtain⟨n1,n2,n3⟩:=hnd;obtain⟨I,e1,l1,m1⟩:=O c (iw low p k) (gY p k) s (aV 0 bq) (fun x hx=>E x (mem_append_left _ hx)) n1;obtain⟨U,e2,l2,m2⟩:=RB go O cs (k+1) (some (level+1+h)) (s.1++ids t h c,I) (fun j hj=>by
   have:=aV (j+1) (by simpa using hj);simp only[getElem_cons_succ] at this;rw[show k+1+j=k+(j+1) by omega];exact this) n2 (fun x hx hm=>by
    rcases mem_append.1 hm with hm|hm
    ·exact E x (mem_append_right _ hx) hm
    exact n3 x hm x hx rfl) (.inr rfl) (.inr bq)
  refine⟨U,?_,?_,fun m=>?_⟩
  ·rw[lV,e1];show(if deep=none∨deep=some (level+1+h) then _ else _)=_;rw[if_pos hd,e2,flatMap_cons,append_assoc]
  ·rw[l2];show(if cs=[] then I.length else max I.length _)=_;rw[l1,if_neg (cons_ne_nil c cs)];split<;>omega
  rw[m2,m1];unfold wU;split
  ·rw[flatMap_cons,append_assoc]
  simp
theorem UQ(hp:∀p∈t.ag,eH p t.ag.length):∀{h f:Nat} {i:Int} {low high:K} {level:Nat} {s:jz},h<f→dM t h i low high→(∀x∈ids t h i,x∉s.1)→(ids t h i).Nodup →
  ∃lv,jq t f i low high level s=some (level+h,(s.1++ids t h i,lv))∧lv.length=max s.2.length (level+h+1)∧∀m,lv.getD m []=s.2.getD m []++wU t h level i m
 | h,0,_,_,_,_,_,hf,_,_,_=>by omega
 | 0,f+1,i,low,high,level,s,hf,ok,E,hnd=>by
  obtain⟨q1,q2,q3,O⟩:=ok;refine⟨kK s.2 level i,?_,Jo _ _ _,fun m=>?_⟩
  ·rw[jq,if_neg (E i (tD 0 i)),if_neg,if_pos q2];rfl;rintro(h|⟨k,hk,aa⟩)
   ·exact h q3
   exact O k (mem_of_mem_head? hk) aa
  rw[Ft];unfold wU;congr 1;by_cases e:m=level
  ·subst e;rw[if_pos rfl,if_pos ⟨Nat.le_refl _,Nat.le_refl _⟩,Nat.sub_self];rfl
  rw[if_neg e,if_neg w4]
 | h+1,f+1,i,low,high,level,s,hf,ok,E,hnd=>by
  obtain⟨q1,q2,q3,O,U⟩:=ok;have po:=hp _ (jC q1);have I:(t.pg i).kids≠[]:=fun e=>by have:=(po.node q2).1;rw[e] at this;simp at this
  rw[ids,nodup_cons] at hnd;rw[ids] at E;obtain⟨lv,e,l,Z⟩:=RB (t:=t) (h:=h) (level:=level) (low:=low) (p:=t.pg i) (fun c lo hi s=>jq t f c lo hi (level+1) s)
   (fun c lo hi s ok hd hn=>UQ hp (h:=h) (f:=f) (level:=level+1) w4 ok hd hn) (t.pg i).kids 0 none (s.1++[i],kK s.2 level i) (fun j hj=>by rw[Nat.zero_add];exact U j hj) hnd.2 (fun x hx hm=>by
    rcases mem_append.1 hm with hm|hm
    ·exact E x (mem_cons_of_mem _ hx) hm
    rw[mem_singleton] at hm;subst hm;exact hnd.1 hx) (.inl rfl) (.inl I)
  refine⟨lv,?_,?_,fun m=>?_⟩
  ·rw[jq,if_neg (E i mem_cons_self),if_neg,if_neg (by rw[q2];decide),e,ids]
   ·simp;omega
   rintro(h|⟨k,hk,aa⟩)
   ·exact h q3
   exact O k (mem_of_mem_head? hk) aa
  ·rw[l,if_neg I];show max (kK s.2 level i).length _=_;rw[Jo];omega
  rw[Z];show(kK s.2 level i).getD m []++_=_;rw[Ft];unfold wU;rw[append_assoc];congr 1;by_cases e1:m=level
  ·subst e1;rw[if_pos rfl,if_neg w4,if_pos ⟨Nat.le_refl _,by omega⟩,Nat.sub_self];rfl
  rw[if_neg e1,nil_append];by_cases e2:level+1≤m∧m≤level+1+h
  ·rw[if_pos e2,if_pos w4];obtain⟨d,rfl⟩:∃d,m=level+1+d:=⟨m-(level+1),by omega⟩
   rw[show level+1+d-(level+1)=d by omega,show level+1+d-level=d+1 by omega,cA]
  rw[if_neg e2,if_neg w4]
open Classical in
theorem Jp{h:Nat}(v:Valid t h):gD t=0:=by
 have hr:=v.range;have E:=v.pos;have hm:=v.nW;unfold gD;rw[if_neg w4,if_neg (by exact fun hn=>hn v.fK)];obtain⟨lv,e,l,I⟩:=UQ v.fK (f:=t.ag.length+1) (level:=0) (s:=([],[])) (by have:=v.high;omega) v.ok (fun x _ hx=>by cases hx) v.zV;rw[e];show(if ([]++ids t h t.root).length≠t.ag.length then _ else if ∀l∈lv,fi t l (-1) then (0:Int) else 11)=0;rw[if_neg (by rw[nil_append,v.all];simp),if_pos];intro x hx;obtain⟨m,tu,rfl⟩:=mem_iff_getElem.1 hx;have:=I m;rw[getD_eq_getElem?_getD,getElem?_eq_getElem tu] at this;have e2:lv[m]=wU t h 0 t.root m:=(by simpa using this)
 rw[e2];unfold wU;rw[l] at tu;rw[if_pos (by simp at tu;omega),Nat.sub_zero];exact v.pJ m (by simp at tu;omega)

end Go.Proofs.YtkgmonfgofobaaaGreatDoor.Tr
namespace Go.Proofs.YtkgmonfgofobaaaGreatDoor.Tw
open List
open Go.Proofs.Tryz
open Go.RowKit V Tr Pk
open Go.Lib (compareBytes)
variable {l hi k:K} {p:cW} {n many:Int} {i:Nat} {t:aF}
def cK(k:K):List D:=[au 1 cB k]
theorem gi(k:K):(cK k).length=1:=rfl
theorem pU(k:K):(cK k).all V.one=true:=rfl
def cI(n:Int):List D:=[ae n]
theorem eG(n:Int):(cI n).length=1:=rfl
theorem nP(n:Int):(cI n).all V.one=true:=rfl
def cP(p:cW):List D:=[bI p.leaf,au 1 cK p.keys,au 1 cI p.kids,au 1 cB p.high,ae p.next]
theorem FO(p:cW):(cP p).length=5:=rfl
theorem agP(p:cW):(cP p).all V.one=true:=rfl
def cT(t:aF):List D:=[au 5 cP t.ag,ae t.root]
def oG(k:K):Bool:=decide (0<k.length∧k.length≤100)
def ve(p:cW)(i:Nat):Prop:=∀(h:i<p.keys.length),oG p.keys[i]=true∧(∀(h0:0<i),bC (p.keys[i-1]'w4) p.keys[i])∧(p.high≠[]→bC p.keys[i] p.high)
theorem adr{l:List K}(h:∀i (hi:i<l.length) (h0:0<i),bC (l[i-1]'w4) l[i]):l.Pairwise bC:=by
 refine pairwise_iff_getElem.2 fun i j hi hj E=>?_;obtain⟨d,rfl⟩:∃d,j=i+1+d:=⟨j-(i+1),by omega⟩
 induction d with
 | zero=>have:=h (i+1) hj w4;simpa using this
 | succ d ih =>
  have h1:=ih w4 w4;have h2:=h (i+1+(d+1)) hj w4;exact lR h1 (by simpa using h2)
theorem SE(h:eH p n)(i:Nat):ve p i:=fun hi=>by
 have hm:=getElem_mem hi;have:=h.lC _ hm;exact⟨by unfold oG;simp;omega,fun h0=>nq h.j4 w4 hi,fun hne=>h.qN hne _ hm⟩
theorem Kt(h:decide ((l.length:Int)>0)=true):l≠[]:=fun e=>by rw[e] at h;cases h
theorem len_nil(h:decide ((l.length:Int)>0)=false):l=[]:=by
 have:=of_decide_eq_false h;exact length_eq_zero_iff.1 w4
theorem Vr(h:decide ((hi.length:Int)>0)=true):decide (compareBytes k hi≥0)=decide (hi≠[]∧¬bC k hi):=by
 have:=Kt h;unfold bC;simp[this]
theorem Vs(h:decide ((hi.length:Int)>0)=false):false=decide (hi≠[]∧¬bC k hi):=by simp[len_nil h]
variable {G:List (Nat×List Value)}
theorem wG(a b:K):VP Tryz.prog G 64 [au 1 cB a,au 1 cB b] (ae (compareBytes a b)):=by
 exact VZ
theorem Vt(a b:K)(ha:a.length≤maxLen)(hb:b.length≤maxLen):VP Tryz.prog G 133 [au 1 cB a,au 1 cB b] (bI (decide (a=b))):=by
 refine VC.body func133 rfl ntmps133 aQ fun X0 w0 bf=>?_;refine af [0,1] ?_;refine cM [4] ?_;refine aP 1 ?_ (h:=by exact C9);refine aP 1 ?_ (h:=by exact C9);refine bD ?_;refine aK [] ?_;refine⟨vb ?_,rfl⟩;rw[ByteArray.toList_eq,ByteArray.toList_eq];show(a==b)=decide (a=b);by_cases h:a=b<;>simp[h]
theorem zf(k:K):VP Tryz.prog G 132 [au 1 cB k] (bI (oG k)):=by
 refine VC.body func132 rfl ntmps132 aQ fun X0 w0 bf=>?_;refine af [0] ?_;refine aA 4 ?_;refine bW 6 (fun I E=>?_) (fun I E=>?_)
 ·refine bp [2] ?_;refine eU ?_;refine⟨vb ?_,rfl⟩;unfold oG;first|(simp_all;done)|(simp_all;omega)
 refine bp [2] ?_;refine eU ?_;refine⟨vb ?_,rfl⟩;unfold oG;first|(simp_all;done)|(simp_all;omega)
theorem abE(p:cW)(k:K):VP Tryz.prog G 134 [.agg (cP p),au 1 cB k] (bI (decide (p.high≠[]∧¬bC k p.high))):=by
 refine VC.body func134 rfl ntmps134 aQ fun X0 w0 bf=>?_;unfold cP;refine bS ?_;refine OD.box (ds:=[_,_,_,_,_]) ap rfl rfl ot rfl rfl (fun b2=>?_);refine an 16 [1,2] ?_;refine aA 5 ?_;refine bW 9 (fun E I=>?_) (fun E I=>?_)
 ·refine aG 3 ?_;refine OD.gQ iq rfl rfl rfl call64 (wG k p.high) ⟨ot,ot,trivial⟩ ?_;refine an 16 [4] ?_;refine aK [] ?_;refine⟨vb ?_,rfl⟩;first|exact Vr E|exact Vs E
 refine bp [4] ?_;refine eU ?_;refine⟨vb ?_,rfl⟩;first|exact Vr E|exact Vs E
theorem Vu{a:Int}(h:(decide (a<0)!=((l.length:Int)==0))=false):a<0↔l=[]:=by
 have h:decide (a<0)=((l.length:Int)==0):=(by simpa using h)
 rw[←length_eq_zero_iff];constructor
 ·intro q;rw[decide_eq_true q] at h;have:=beq_iff_eq.1 h.symm;omega
 intro q;rw[q] at h;exact of_decide_eq_true h
theorem ahu{a:Int}(h:a<0↔l=[]):(!(decide (a<0)==((l.length:Int)==0)))=false:=by
 rw[←length_eq_zero_iff] at h;by_cases q:a<0
 ·rw[decide_eq_true q,h.1 q];rfl
 rw[decide_eq_false q];have:¬l.length=0:=fun e=>q (h.2 e);simp;exact fun e=>this (by rw[e];rfl)
open Classical in
noncomputable def BS(p:cW)(many:Int):Bool:=decide (eH p many)
open Classical in
theorem EE(h:¬eH p many):false=BS p many:=(decide_eq_false h).symm
open Classical in
theorem abF(h:eH p many):true=BS p many:=(decide_eq_true h).symm
theorem aez(h:eH p n)(hi:i<p.kids.length):0≤p.kids[i]∧(p.leaf=false→p.kids[i]<n):=⟨h.az _ (getElem_mem hi),fun hl=>h.vu hl _ (getElem_mem hi)⟩
theorem ads(f1:p.keys.length≤4)(f2:p.high.length≤100)(f3:-1≤p.next)(f4:p.next<many)(I:(p.next<0↔p.high=[]))(f6:(p.leaf=true→p.kids.length=p.keys.length))(E:(p.leaf=false→p.kids.length=p.keys.length+1∧p.keys.length≠0))(hk:∀j,j<p.keys.length→ve p j)(hc:∀j (hj:j<p.kids.length),0≤p.kids[j]∧(p.leaf=false→p.kids[j]<many)):eH p many:=by
 refine⟨f1,f2,f3,f4,I,f6,fun h=>⟨(E h).1,fun e=>(E h).2 (by rw[e];rfl)⟩,fun k h=>?_,fun hne k h=>?_,adr fun i hi h0=>(hk i hi hi).2.1 h0,fun n h=>?_,fun hl n h=>?_⟩
 ·obtain⟨i,hi,rfl⟩:=mem_iff_getElem.1 h;have:=(hk i hi hi).1;unfold oG at this;have:=of_decide_eq_true this;omega
 ·obtain⟨i,hi,rfl⟩:=mem_iff_getElem.1 h;exact(hk i hi hi).2.2 hne
 ·obtain⟨i,hi,rfl⟩:=mem_iff_getElem.1 h;exact(hc i hi).1
 obtain⟨i,hi,rfl⟩:=mem_iff_getElem.1 h;exact(hc i hi).2 hl
theorem afj(p:cW)(many:Int)(dU:p.keys.length≤maxLen)(fC:p.kids.length≤maxLen):VP Tryz.prog G 114 [.agg (cP p),ae many] (bI (BS p many)):=by
 refine VC.body func114 rfl ntmps114 aQ fun X0 w0 bf=>?_;unfold cP;have cY:=dN;refine bS ?_;refine OD.box (ds:=[_,_,_,_,_]) ap rfl rfl ot rfl rfl (fun b2=>?_);refine an 132 [1,2] ?_;refine aA 5 ?_;refine bW 13 (fun akB Z=>?_) (fun akB Z=>?_)
 ·exact Gs
 refine aG 6 ?_;refine bW 19 (fun LX aie=>?_) (fun LX aie=>?_)
 ·exact Gs
 refine aG 5 ?_;refine bW 24 (fun akC aif=>?_) (fun akC aif=>?_)
 ·exact Gs
 refine aG 6 ?_;refine bW 30 (fun akD aih=>?_) (fun akD aih=>?_)
 ·exact Gs
 refine aG 7 ?_;refine OD.still iq rfl (dj rfl ot ot (QK underlying4)) ?_;refine an 132 [1,2,39] ?_;refine ax ?_ ?_<;>intro aO bA
 ·refine af [4] ?_;refine aK [] ?_;exact z7
 refine CD.skip ?_;refine iv [1,2] (fun aR I aD=>(p.keys.length≤4)∧(p.high.length≤100)∧(-1≤p.next)∧(p.next<many)∧((p.next<0↔p.high=[]))∧((p.leaf=true→p.kids.length=p.keys.length))∧((p.leaf=false→p.kids.length=p.keys.length+1∧p.keys.length≠0))∧aD=(⟨132,aR,I⟩:St)) ?_ ?_
 ·refine aA 3 ?_;refine bW 42 (fun rK aii=>?_) (fun rK aii=>?_)
  ·refine aG 9 ?_;refine bW 51 (fun akE aij=>?_) (fun akE aij=>?_)
   ·exact z131
   refine aG 4 ?_;refine bW 55 (fun ua E=>?_) (fun ua E=>?_)
   ·exact absurd ua (by rw[rK];decide)
   refine bp [1,2,71] ?_;refine fY ?_;refine CD.skip ?_;refine⟨_,aJ,w4,w4,w4,w4,(Vu aO),(fun _=>by omega),(fun h=>absurd rK (by rw[h];decide)),rfl⟩
  refine yd 7 ?_;refine aG 6 ?_;refine bW 55 (fun ua E=>?_) (fun ua E=>?_)
  ·refine aG 9 ?_;refine bW 64 (fun Ma Lc=>?_) (fun Ma Lc=>?_)
   ·exact z131
   refine bp [1,2,71] ?_;refine ax ?_ ?_<;>intro aY cz
   ·refine af [4] ?_;refine eU ?_;exact z7
   refine CD.skip ?_;refine⟨_,aJ,w4,w4,w4,w4,(Vu aO),(fun h=>absurd rK (by rw[h];decide)),(fun _=>⟨by omega,by omega⟩),rfl⟩
  exact absurd ua (by rw[rK];decide)
 rintro _ ⟨f1,f2,f3,f4,f5,f6,f7,rfl⟩;refine af [1,2,73,74,75] ?_;refine ez [1,2,73,74] (fun aR I (i:Nat) aD=>(i≤p.keys.length)∧(∀j,j<i→ve p j)∧aD=(⟨132,(75,ae (i:Nat))::aR,I⟩:St)) (fun (i:Nat)=>p.keys.length-i) 0 ⟨(Nat.zero_le _),(fun j h=>by omega),rfl⟩ ?_;rintro i _ ⟨hi,xR,rfl⟩;refine af [1,2,73,74,75,76] ?_;refine ax ?_ ?_<;>intro cc cN
 ·have aa:i<p.keys.length:=(by omega)
  refine af [1,2,5,6,73,74,75] ?_;refine aA 1 ?_;refine dO call132 (zf p.keys[i]) ?_;refine aG 2 ?_;refine bW 83 (fun xk aik=>?_) (fun xk aik=>?_)
  ·refine an 132 [1,2,73,74,75,110] ?_;refine eT ?_;exact Xc
  refine aG 3 ?_;refine bW 86 (fun akF ail=>?_) (fun akF ail=>?_)
  ·refine aG 4 ?_;refine bQ (dw 1 (h:=by first|exact .l (j:=i-1) w4 w4|exact .r (j:=i-1) w4 w4)) ?_;refine aG 2 ?_;refine OD.gQ iq rfl rfl rfl call64 (wG (p.keys[i-1]'w4) p.keys[i]) ⟨ot,ot,trivial⟩ ?_;refine aG 4 ?_;refine bW 98 (fun zD Ge=>?_) (fun zD Ge=>?_)
   ·refine an 132 [1,2,73,74,75,110] ?_;refine eT ?_;exact Xc
   refine aG 5 ?_;exact z20
  refine yd 9 ?_;refine aG 8 ?_;exact z20
 have aim:∀j,j<p.keys.length→ve p j:=fun j hj=>xR j w4;refine af [1,2,113,114,115] ?_;refine ez [1,2,113,114] (fun aR I (i:Nat) aD=>(i≤p.kids.length)∧(∀j (_:j<i) (hj:j<p.kids.length),0≤p.kids[j]∧(p.leaf=false→p.kids[j]<many))∧aD=(⟨132,(115,ae (i:Nat))::aR,I⟩:St)) (fun (i:Nat)=>p.kids.length-i) 0 ⟨(Nat.zero_le _),(fun j h=>by omega),rfl⟩ ?_;rintro i _ ⟨j9,lF,rfl⟩;refine af [1,2,113,114,115,116] ?_;refine ax ?_ ?_<;>intro dV fB
 ·have aa:i<p.kids.length:=(by omega)
  refine af [1,2,8,113,114,115] ?_;refine aA 3 ?_;refine bW 121 (fun KY O=>?_) (fun KY O=>?_)
  ·refine bp [1,2,113,114,115,130] ?_;refine eT ?_;exact Xo
  refine aG 4 ?_;refine bW 125 (fun FX U=>?_) (fun FX U=>?_)
  ·refine bp [1,2,113,114,115,130] ?_;refine ax ?_ ?_<;>intro fD gG
   ·exact Xo
   exact Xk
  refine bp [1,2,113,114,115,130] ?_;refine fY ?_;exact Xk
 refine af [4] ?_;refine aK [] ?_;refine⟨vb (abF (ads f1 f2 f3 f4 f5 f6 f7 aim fun j hj=>lF j w4 hj)),rfl⟩

def nr(keys:List K)(k:K):Bool:=decide (keys[gA keys k]?=some k)
theorem adt{keys:List K}(hi:i≤keys.length)(h1:∀m (hm:m<keys.length),m<i→bC keys[m] k)(h2:∀m (hm:m<keys.length),i≤m→¬bC keys[m] k):gA keys k=i:=by
 have E:=yR keys k;rcases Nat.lt_trichotomy (gA keys k) i with h|h|h
 ·have aa:gA keys k<keys.length:=(by omega)
  exact absurd (h1 _ aa h) (Bf aa)
 ·exact h
 obtain⟨h',q⟩:=Bq h;exact absurd q (h2 _ h' (Nat.le_refl _))
theorem abG{keys:List K}(hr:keys.Pairwise bC)(k:K):mT keys k=if nr keys k=true then gA keys k+1 else gA keys k:=by
 have E:=yR keys k;split
 ·rename_i hf;unfold nr at hf;have hf:=of_decide_eq_true hf;obtain⟨aa,he⟩:=List.getElem?_eq_some_iff.1 hf;refine J8 hr w4 (fun _=>?_) (fun h=>?_)
  ·show ¬bC k (keys[gA keys k+1-1]'w4);simp only[Nat.add_sub_cancel,he];exact jV k
  have:=nq hr (Nat.lt_succ_self (gA keys k)) h;rw[he] at this;exact this
 rename_i hf;refine J8 hr E (fun h0=>?_) (fun h=>?_)
 ·exact zc (Bq (by omega:gA keys k-1<gA keys k)).2
 have h1:=Bf h;rcases u7 keys[gA keys k] k with h2|h2|h2
 ·exact absurd h2 h1
 ·exfalso;apply hf;unfold nr;rw[getElem?_eq_getElem h,h2];simp
 exact h2
theorem BU{a:Nat}:((a:Nat):Int).fdiv (2 ^ min (1:Int).toNat IntKind.u64.bits)=((a/2:Nat):Int):=by
 rw[show min (1:Int).toNat IntKind.u64.bits=1 from rfl,Int.fdiv_eq_ediv_of_nonneg _ w8];rfl
theorem UR{keys:List K}(hd:gA keys k=i)(hi:i<keys.length):(D.dh [ae (i:Nat),bI (compareBytes keys[i] k==0)]) = .dh [ae (gA keys k:Nat),bI (nr keys k)]∧([]:List ah)=[]:=by
 subst hd;refine⟨?_,rfl⟩;have:(compareBytes keys[gA keys k] k==0)=nr keys k:=by
  unfold nr;rw[getElem?_eq_getElem hi];by_cases h:keys[gA keys k]=k
  ·have:=tY.2 h;rw[this];simp[h]
  have:¬compareBytes keys[gA keys k] k=0:=fun e=>h (tY.1 e);simp[h,this]
 rw[this]
theorem TG{keys:List K}(hd:gA keys k=i)(hi:keys.length≤i):(D.dh [ae (i:Nat),bI false]) = .dh [ae (gA keys k:Nat),bI (nr keys k)]∧([]:List ah)=[]:=by
 subst hd;refine⟨?_,rfl⟩;have:nr keys k=false:=(by unfold nr;rw[getElem?_eq_none hi];rfl)
 rw[this]
theorem abH(keys:List K)(k:K)(hr:keys.Pairwise bC)(hl:keys.length≤1000):VP Tryz.prog G 135 [au 1 cK keys,au 1 cB k,.eA (.func 64) []] (.dh [ae (gA keys k:Nat),bI (nr keys k)]):=by
 refine VC.body func135 rfl ntmps135 aQ fun X0 w0 bf=>?_;have cY:=dN;refine af [0,1,2] ?_;refine af [0,1,2,8] ?_;refine af [0,1,2,8,9,10] ?_;refine ez [0,1,2,8] (fun aR _ (I:Nat×Nat) aD=>match I with|(i,j)=>(i≤j)∧(j≤keys.length)∧(∀m (hm:m<keys.length),m<i→bC keys[m] k)∧(∀m (hm:m<keys.length),j≤m→¬bC keys[m] k)∧aD=(⟨49,(9,ae (i:Nat))::(10,ae (j:Nat))::aR,[]⟩:St)) (fun (I:Nat×Nat)=>match I with|(i,j)=>j-i) (0,keys.length) ⟨(Nat.zero_le _),(Nat.le_refl _),(fun m hm h=>by omega),(fun m hm h=>by omega),rfl⟩ ?_;rintro⟨i,j⟩ _ ⟨YI,hjn,h1,h2,rfl⟩;refine af [0,1,2,8,9,10,17] ?_;refine ax ?_ ?_<;>intro aO bA
 ·have aa:i<j:=(by omega)
  have E:((i+j)/2)<keys.length:=(by omega)
  refine cM [0,1,2,8,9,10,11] ?_;refine aP 2 ?_ (h:=by exact(dj rfl ot ot (kz (r:=((i+j:Nat):Int)) Ad)));refine aP 0 ?_ (h:=by exact(oQ rfl ot (oS (r:=((i+j:Nat):Int)) runUnderlying3 runUnderlying225 (IntWalk.u64_in _ w4))));refine aP 0 ?_ (h:=by exact(dj rfl ot bP (y4 w8 BU)));refine aP 0 ?_ (h:=by exact(oQ rfl ot (oS (r:=((((i+j)/2):Nat):Int)) runUnderlying225 runUnderlying3 (wrap_i64 w4 w4))));refine bD ?_;refine aA 6 ?_;refine OD.lS (f:=64) (args:=[_,_]) (all:=[_,_]) (Sf:=[]) ap rfl rfl ot call64 (wG (keys[((i+j)/2)]'E) k) rfl ⟨ot,ot,trivial⟩ (fa _) ?_;rintro _ _ ⟨rfl,rfl⟩;refine an 49 [0,1,2,8,9,10,11,31] ?_;refine ax ?_ ?_<;>intro aY cz
  ·have hc:bC (keys[((i+j)/2)]'E) k:=of_decide_eq_true aY;have Z:∀m (hm:m<keys.length),m<((i+j)/2)+1→bC keys[m] k:=fun m hm h=>by (rcases Nat.lt_or_ge m ((i+j)/2) with q|q);exact lR (nq hr q E) hc;(have:m=((i+j)/2):=by omega);subst this;exact hc
   refine bX [0,1,2,8,9,10] ?_;refine⟨((((i+j)/2)+1),j),_,cn,aJ,w4,w4,(fun m hm h=>by rcases Nat.lt_or_ge m i with q|q;exact h1 m hm q;exact Z m hm w4),h2,rfl⟩
  have hc:¬bC (keys[((i+j)/2)]'E) k:=of_decide_eq_false aY;have O:∀m (hm:m<keys.length),((i+j)/2)≤m→¬bC keys[m] k:=fun m hm h hh=>by (rcases Nat.lt_or_ge ((i+j)/2) m with q|q);exact hc (lR (nq hr q hm) hh);(have:m=((i+j)/2):=by omega);subst this;exact hc hh
  refine bX [0,1,2,8,9,10] ?_;refine⟨(i,((i+j)/2)),_,cn,aJ,w4,w4,h1,O,rfl⟩
 obtain rfl:i=j:=(by omega)
 have hd:=adt hjn h1 h2;refine aA 5 ?_;refine bW 39 (fun akG U=>?_) (fun akG U=>?_)
 ·refine aG 6 ?_;refine OD.lS (f:=64) (args:=[_,_]) (all:=[_,_]) (Sf:=[]) iq rfl rfl ot call64 (wG (keys[i]'w4) k) rfl ⟨ot,ot,trivial⟩ (fa _) ?_;rintro _ _ ⟨rfl,rfl⟩;refine an 49 [6,7] ?_;refine aK [] ?_;first|exact UR hd w4|exact TG hd w4
 refine bp [6,7] ?_;refine M6 ?_;first|exact UR hd w4|exact TG hd w4
theorem Jq(p:cW)(k:K)(hr:p.keys.Pairwise bC)(hl:p.keys.length≤1000):VP Tryz.prog G 91 [.agg (cP p),au 1 cB k] (ae (aL p k:Nat)):=by
 refine VC.body func91 rfl ntmps91 aQ fun X0 w0 bf=>?_;unfold cP;have cY:=dN;have I:=yR p.keys k;have XF:=abG hr k;refine bS ?_;refine OD.box (ds:=[_,_,_,_,_]) ap rfl rfl ot rfl rfl (fun b2=>?_);refine an 23 [1,2] ?_;refine cL [2,5,6] (abH p.keys k hr hl) ?_;refine aA 2 ?_;refine bW 15 (fun B7 E=>?_) (fun B7 E=>?_)
 ·refine bp [5,19] ?_;refine ax ?_ ?_<;>intro aO bA
  ·refine bX [5] ?_;exact XE
  exact XE
 refine bp [5,19] ?_;refine fY ?_;refine af [4] ?_;refine eU ?_;refine⟨vi ?_,rfl⟩;unfold aL;first|(rw[B7] at XF;cases fR:p.leaf<;>simp_all;done)|(simp_all;done)|(simp_all;omega)

theorem abI{d:Nat}{i:Int}{lo:K}(ok:dM t d i lo hi)(h:(t.pg i).leaf=true):d=0:=by
 cases d with
 | zero=>rfl
 | succ d=>obtain⟨_,q2,_⟩:=ok;rw[q2] at h;cases h
theorem abJ{d:Nat}{i:Int}{lo:K}(ok:dM t d i lo hi)(h:(t.pg i).leaf=false):∃d',d=d'+1:=by
 cases d with
 | zero=>obtain⟨_,q2,_⟩:=ok;rw[q2] at h;cases h
 | succ d=>exact⟨d,rfl⟩
theorem abK:(Tryz.prog.info? 3).map (fun i=>(i.zero,i.size,i.bytes))=some (some (.int .i64 0),1,8):=by kernel_rfl
theorem TH(t:aF)(h:Nat)(v:Valid t h)(k:K):VC Tryz.prog G 89 [.agg (cT t),au 1 cB k] [] (gv cI 3 1 (je t k h t.root)):=by
 refine VC.body func89 rfl ntmps89 aQ fun X0 w0 bf=>?_;unfold cT;have cY:=dN;have hval:=v;have eD:=v.high;have NZ:=v.nW;refine bS ?_;refine OD.box (ds:=[_,_]) ap rfl rfl ot rfl rfl (fun b2=>?_);refine an 45 [1,2] ?_;refine aA 2 ?_;refine ew (cu 0 [_]) [.int .i64 0] [_] zeroValue3 runUnderlying70 sizeOf3 (fun j6=>?_);refine OD.perm (dW (S1:=[⟨j6,3,1*1,flatMap cI ([t.root])⟩]) (A:=[_])) ?_;refine an 45 [1,2,5] ?_;refine CD.block ?_;refine ni (fun (U:Nat×Int×K×K×List Int×Option Addr×Nat×List ah) aD=>match U with|(d,i,lo,hi,pre,HL,O,Sl)=>(dM t d i lo hi)∧(lM lo hi k)∧(pre++je t k d i=je t k h t.root)∧(pre.length+d≤h)∧(bg 3 1 (((pre++[i])).flatMap cI) ((pre++[i])).length HL O Sl)∧aD=(⟨45,[(1,au 1 cB k),(2,cU b2),(5,aN HL ((pre++[i])).length O)],(⟨b2,75,2,[au 5 cP t.ag,ae t.root]⟩::Sl)⟩:St)) (fun (U:Nat×Int×K×K×List Int×Option Addr×Nat×List ah)=>match U with|(d,i,lo,hi,pre,HL,O,Sl)=>d) (h,t.root,[],[],[],(some ⟨j6,0,none⟩),1,[⟨j6,3,1*1,flatMap cI ([t.root])⟩]) ⟨v.ok,(tQ k),(nil_append _),bq,(bg.cast (bM (g:=cI) (sz:=1) (e:=3) (ls:=[t.root]) (Nat.le_refl _) (show 1≤maxLen by decide)) k8),rfl⟩ (aJ (h:=by repeat (first|exact trivial|refine⟨(by (repeat (first|exact fI|(apply fX;focus (first|rfl|(simp;done)|(congr 2;omega)|(apply eL;rw[Z])|(apply eL;simp;done)))|(apply fN;focus rfl)));done),?_⟩))) ?_
 rintro⟨d,i,lo,hi,pre,HL,O,Sl⟩ _ ⟨ok,jv,Vv,fE,NK,rfl⟩;obtain⟨bl,rfl,Cq,BV,rfl⟩:=NK.pos bq;have q1:=ok.idx;have aa:i.toNat<t.ag.length:=(by omega)
 have E:t.pg i=(t.ag[i.toNat]'aa):=vl q1;have po:=v.fK _ (jC q1);have BW:=ok.high;rw[E] at po BW;refine cM [1,2,5,6] ?_;refine aP 4 ?_ (h:=by exact(dw 1 (h:=by first|exact .l (j:=pre.length) bq bq|exact .r (j:=pre.length) bq bq)));refine aP 0 ?_ (h:=by exact(cR (mk:=Op.load 3) rfl ot (iZ (k:=1) (d:=ae i) (i:=pre.length) eG rfl rfl rfl isAgg3 bq (by simp[cI]))));refine bD ?_;refine aA 3 ?_;refine bQ (dw 5 (h:=by first|exact .l (j:=i.toNat) (Int.toNat_of_nonneg q1.1).symm aa|exact .r (j:=i.toNat) (Int.toNat_of_nonneg q1.1).symm aa)) ?_;refine aG 1 ?_;refine OD.alloc (ds:=[_,_,_,_,_]) ap rfl rfl zeroValue146 rfl (fun b7=>?_);refine aM 0 [_,_,_,_,_] sizeOf146 ?_;refine an 45 [1,2,5,7] ?_;refine cL [1,2,5,7,24] (abE (t.ag[i.toNat]'aa) k) ?_;refine ax ?_ ?_<;>intro aO bA
 ·exact absurd aO (by intro e;have e:=of_decide_eq_true e;rw[BW] at e;exact e.2 (jv.2 e.1))
 refine af [1,2,5,7,33] ?_;refine ax ?_ ?_<;>intro aY cz
 ·obtain rfl:=abI ok (by rw[E];exact aY);have aW:pre++[i]=je t k h t.root:=(by rw[←Vv];rfl)
  refine af [4] ?_;refine aK [⟨bl,3,O*1,flatMap cI (pre++[i])⟩] ?_;rw[←aW];exact⟨_,_,rfl,(bM (g:=cI) (ls:=pre++[i]) Cq BV)⟩
 obtain⟨dd,rfl⟩:=abJ ok (by rw[E];exact aY);have ok0:=ok;obtain⟨_,fR,hh,ajN,qR⟩:=ok0;obtain⟨d1,d2⟩:=down (p:=t.pg i) (by rw[E];exact po) fR hh jv;have jZ:=qR _ d1;rw[←tJ d1] at jZ;have Mb:=d2;have agR:pre++[i]++je t k dd ((t.pg i).kids.getD (aL (t.pg i) k) 0)=je t k h t.root:=(by rw[←Vv,append_assoc];rfl)
 have qZ:=Jq (G:=G) (t.pg i) k (by rw[E];exact po.j4) (by rw[E];have:=po.eI;omega);have I:aL (t.ag[i.toNat]'aa) k<(t.ag[i.toNat]'aa).kids.length:=(by rw[←E];exact d1)
 have akH:VP Tryz.prog G 91 [.agg (cP (t.ag[i.toNat]'aa)),au 1 cB k] (ae (aL (t.ag[i.toNat]'aa) k:Nat)):=(by rw[←E];exact qZ)
 have Z:(t.pg i).kids.getD (aL (t.pg i) k) 0=(t.ag[i.toNat]'aa).kids[aL (t.ag[i.toNat]'aa) k]'I:=(by rw[E];exact tJ I)
 refine CD.skip ?_;refine gX 10 (av (take 2 _)) ?_ (fun _ h=>(Sublist.map _ (take_sublist _ _)).subset h);refine aC 0 rfl bG ?_;refine aC 1 rfl (dF 2) ?_;refine aC 2 rfl (dK 0) ?_;refine aC 3 rfl (Lu 0 [_,_,_,_,_]) ?_;refine aC 4 rfl bG ?_;refine dH.later rfl ?_;refine AD.one (i:=5) aB ?_;refine qk call91 (akH) ?_;refine c9 6 rfl (dw 1 (h:=by first|exact .l (j:=aL (t.ag[i.toNat]'aa) k) rfl I|exact .r (j:=aL (t.ag[i.toNat]'aa) k) rfl I)) ?_;refine AD.one (i:=7) aB ?_;refine at_ rfl eW ?_;refine AD.one (i:=8) aB ?_;refine nF (cu 0 [_]) [.int .i64 0] [_] zeroValue3 runUnderlying70 sizeOf3 (fun Yy=>?_);refine nG 0 43 1 1 ?_;refine AD.one (i:=9) aB ?_;refine bB.eB (ls:=(pre++[i])) (new:=[(t.ag[i.toNat]'aa).kids[aL (t.ag[i.toNat]'aa) k]'I]) (Sq:=[⟨bl,3,O*1,flatMap cI (pre++[i])⟩]) eG nP rfl ap rfl rfl underlying70 abK rfl w8 ot (bM (g:=cI) (ls:=pre++[i]) Cq BV) (dg (A:=[_,_])) ot bq vH ig (fun N0 Mc akI akJ=>?_);refine AD.perm (dW (S1:=[⟨N0,3,Mc*1,flatMap cI ((pre++[i])++[(t.ag[i.toNat]'aa).kids[aL (t.ag[i.toNat]'aa) k]'I])⟩]) (A:=[_,_])) ?_;refine fw ?_;refine bp [1,2,5] ?_
 refine⟨(dd,((t.pg i).kids.getD (aL (t.pg i) k) 0),(iw lo (t.pg i) (aL (t.pg i) k)),(gY (t.pg i) (aL (t.pg i) k)),(pre++[i]),(some ⟨N0,0,none⟩),Mc,[⟨N0,3,Mc*1,flatMap cI ((pre++[i])++[(t.ag[i.toNat]'aa).kids[aL (t.ag[i.toNat]'aa) k]'I])⟩]),_,cn,(aJ (h:=by repeat (first|exact trivial|refine⟨(by (repeat (first|exact fI|(apply fX;focus (first|rfl|(simp;done)|(congr 2;omega)|(apply eL;rw[Z])|(apply eL;simp;done)))|(apply fN;focus rfl)));done),?_⟩))),jZ,Mb,agR,ig,(bg.cast (bM akI akJ) (by rw[Z])),rfl⟩
theorem afk(t:aF)(h:Nat)(v:Valid t h)(k:K):VP Tryz.prog G 89 [.agg (cT t),au 1 cB k] (.list 1 ((je t k h t.root).flatMap cI) (je t k h t.root).length):=(TH t h v k).wR eG

def iA(t:aF)(k:K)(h:Nat):Bool:=nr (t.pg (aI t k h t.root)).keys k
theorem Eh{h:Nat}(v:Valid t h)(k:K):iA t k h=true↔BI t k h:=by
 unfold iA nr BI;have hl:=(v.leaf k).2;have fE:aL (t.pg (aI t k h t.root)) k=gA (t.pg (aI t k h t.root)).keys k:=(by unfold aL;rw[if_pos hl])
 rw[fE,decide_eq_true_iff,List.getElem?_eq_some_iff]
theorem TI(hl:p.leaf=true)(ha:aL p k<p.keys.length):decide (p.keys[aL p k]=k)=nr p.keys k:=by
 unfold nr;have fE:aL p k=gA p.keys k:=(by unfold aL;rw[if_pos hl])
 simp only[fE] at ha ⊢;rw[getElem?_eq_getElem ha];simp
theorem TJ(hl:p.leaf=true)(ha:¬aL p k<p.keys.length):false=nr p.keys k:=by
 unfold nr;have fE:aL p k=gA p.keys k:=(by unfold aL;rw[if_pos hl])
 rw[fE] at ha;rw[getElem?_eq_none w4];rfl
theorem afl{h:Nat}{i:Int}:∃(hn:(je t k h i).length-1<(je t k h i).length),(je t k h i)[(je t k h i).length-1]=aI t k h i:=by
 have h1:=PZ t k h i;rw[getLast?_eq_getElem?] at h1;exact List.getElem?_eq_some_iff.1 h1
theorem RC(hp:eH p n)(k:K):aL p k≤p.keys.length:=by
 unfold aL;split
 ·exact yR _ _
 exact Br _ _
theorem ER(t:aF)(k:K):∀(h:Nat) (i:Int),(je t k h i).length=h+1
 | 0,i=>rfl
 | h+1,i=>by rw[je,length_cons,ER t k h]
theorem qF(t:aF)(h:Nat)(v:Valid t h)(k:K)(dU:k.length≤maxLen)(U:(je t k h t.root).length≤1000000):VP Tryz.prog G 87 [.agg (cT t),au 1 cB k] (.dh [ae (aI t k h t.root),ae (aL (t.pg (aI t k h t.root)) k:Nat),bI (iA t k h)]):=by
 refine VC.body func87 rfl ntmps87 aQ fun X0 w0 bf=>?_;unfold cT;have cY:=dN;have qZ:=afk (G:=G) t h v k;unfold cT at qZ;obtain⟨gp,Z⟩:=afl (t:=t) (k:=k) (h:=h) (i:=t.root);obtain⟨q1,Le⟩:=v.leaf k;have aa:(aI t k h t.root).toNat<t.ag.length:=(by omega)
 have I:t.pg (aI t k h t.root)=(t.ag[(aI t k h t.root).toNat]'aa):=vl q1;have po:=v.fK _ (jC q1);have NZ:=v.nW;have Wo:(je t k h t.root).length≤1000000:=U;have akK:=Jq (G:=G) (t.pg (aI t k h t.root)) k po.j4 (by have:=po.eI;omega);have akL:VP Tryz.prog G 91 [.agg (cP (t.ag[(aI t k h t.root).toNat]'aa)),au 1 cB k] (ae (aL (t.ag[(aI t k h t.root).toNat]'aa) k:Nat)):=(by rw[←I];exact akK)
 have akM:∀x∈(t.ag[(aI t k h t.root).toNat]'aa).keys,x.length≤maxLen:=fun x hx=>by rw[←I] at hx;have:=(po.lC x hx).2;omega
 have E:(t.ag[(aI t k h t.root).toNat]'aa).leaf=true:=(by rw[←I];exact Le)
 have O:iA t k h=nr (t.ag[(aI t k h t.root).toNat]'aa).keys k:=(by unfold iA;rw[I])
 have mY:=po.eI;have akN:=(RC po k)
 rw[I] at mY akN;refine bS ?_;refine OD.box (ds:=[_,_]) ap rfl rfl ot rfl rfl (fun b2=>?_);refine an 42 [1,2] ?_;refine cL [1,2,7] (qZ) ?_;refine cM [1,2,4] ?_;refine aP 4 ?_ (h:=by exact(dw 1 (h:=by first|exact .l (j:=(je t k h t.root).length-1) w4 gp|exact .r (j:=(je t k h t.root).length-1) w4 gp)));refine aP 0 ?_ (h:=by exact(cR (mk:=Op.load 3) rfl ot (rD (d:=ae (aI t k h t.root)) (i:=(je t k h t.root).length-1) eG isAgg3 gp (by rw[Z];rfl))));refine bD ?_;refine aA 5 ?_;refine OD.alloc (ds:=[_,_,_,_,_]) ap rfl rfl zeroValue146 rfl (fun b8=>?_);refine aM 0 [_,_,_,_,_] sizeOf146 ?_;refine an 42 [1,4,8] ?_;refine cL [1,4,5,8] (akL) ?_;refine aA 8 ?_;refine bW 33 (fun akO ain=>?_) (fun akO ain=>?_)
 ·refine aG 6 ?_;refine OD.gQ iq rfl rfl rfl call133 (Vt ((t.ag[(aI t k h t.root).toNat]'aa).keys[aL (t.ag[(aI t k h t.root).toNat]'aa) k]'w4) k (akM _ (getElem_mem _)) dU) ⟨ot,ot,trivial⟩ ?_;refine an 42 [4,5,6] ?_;refine aK [] ?_;rw[O,I];first|exact⟨by rw[TI E w4],rfl⟩|exact⟨by rw[←TJ E w4],rfl⟩
 refine bp [4,5,6] ?_;refine aK [] ?_;rw[O,I];first|exact⟨by rw[TI E w4],rfl⟩|exact⟨by rw[←TJ E w4],rfl⟩

end Go.Proofs.YtkgmonfgofobaaaGreatDoor.Tw
namespace Go.Proofs.YtkgmonfgofobaaaGreatDoor.Tw
open List
open Go.Proofs.Tryz
open Go.RowKit V Tr Pk
abbrev mZ(ls:List Int)(ad:Option Addr)(cap:Nat)(S:List ah):Prop:=bg 3 1 (ls.flatMap cI) ls.length ad cap S
abbrev nR(ls:List K)(ad:Option Addr)(cap:Nat)(S:List ah):Prop:=bg 90 1 (ls.flatMap cK) ls.length ad cap S
variable {G:List (Nat×List Value)}
theorem abL:(Tryz.prog.info? 5).map (fun i=>(i.zero,i.size,i.bytes))=some (some (.int .u8 0),1,1):=by kernel_rfl
theorem mq(a:List UInt8)(ha:a.length≤1000000):VP Tryz.prog G 90 [au 1 cB a] (au 1 cB a):=by
 refine VC.body func90 rfl ntmps90 aQ fun X0 w0 bf=>?_;have cY:=dN;refine af [0] ?_;refine aA 1 ?_;refine OD.zn ap rfl rfl ot bP underlying90 (fun O xU=>?_);refine an 8 [0,4] ?_;refine ax ?_ ?_<;>intro aO bA
 ·exact z85
 refine bS ?_;refine OD.zo ap rfl rfl runUnderlying90 sizeOf5 (fun b5=>?_);refine aG 1 ?_;refine OD.pO (ls:=([]:List UInt8)) (new:=a) (Sq:=[⟨b5,5,0*1,[]⟩]) pT wJ ap rfl rfl underlying90 abL rfl w8 runUnderlying90 sizeOf5 ot (.inr ⟨b5,rfl,Nat.le_refl _,Nat.zero_le _,rfl⟩) (dg (A:=[])) ot ig ig (fun E I S7 qj=>?_);exact V2
theorem abM:(Tryz.prog.info? 3).map (fun i=>(i.zero,i.size,i.bytes))=some (some (.int .i64 0),1,8):=by kernel_rfl
theorem ru(a:List Int)(ha:a.length≤1000000):VC Tryz.prog G 131 [au 1 cI a] [] (fun r S=>∃ad cap,r=aN ad a.length cap∧mZ a ad cap S):=by
 refine VC.body func131 rfl ntmps131 aQ fun X0 w0 bf=>?_;have cY:=dN;refine af [0] ?_;refine aA 1 ?_;refine OD.zn ap rfl rfl ot bP underlying70 (fun O xU=>?_);refine an 8 [0,4] ?_;refine ax ?_ ?_<;>intro aO bA
 ·exact z51
 refine bS ?_;refine OD.zo ap rfl rfl runUnderlying70 sizeOf3 (fun b5=>?_);refine aG 1 ?_;refine OD.pO (ls:=([]:List Int)) (new:=a) (Sq:=[⟨b5,3,0*1,[]⟩]) eG nP ap rfl rfl underlying70 abM rfl w8 runUnderlying70 sizeOf3 ot (.inr ⟨b5,rfl,Nat.le_refl _,Nat.zero_le _,rfl⟩) (dg (A:=[])) ot ig ig (fun E I S7 qj=>?_);exact Hi
theorem aaq:(Tryz.prog.info? 90).map (fun i=>(i.zero,i.size,i.bytes))=some (some (.slice none 0 0),1,24):=by kernel_rfl
theorem wc(a:List K)(ha:a.length≤1000000):VC Tryz.prog G 140 [au 1 cK a] [] (fun r S=>∃ad cap,r=aN ad a.length cap∧nR a ad cap S):=by
 refine VC.body func140 rfl ntmps140 aQ fun X0 w0 bf=>?_;have cY:=dN;refine af [0] ?_;refine aA 1 ?_;refine OD.zn ap rfl rfl ot bP underlying144 (fun O xU=>?_);refine an 8 [0,4] ?_;refine ax ?_ ?_<;>intro aO bA
 ·exact z51
 refine bS ?_;refine OD.zo ap rfl rfl runUnderlying144 sizeOf90 (fun b5=>?_);refine aG 1 ?_;refine OD.pO (ls:=([]:List K)) (new:=a) (Sq:=[⟨b5,90,0*1,[]⟩]) gi pU ap rfl rfl underlying144 aaq rfl w8 runUnderlying144 sizeOf90 ot (.inr ⟨b5,rfl,Nat.le_refl _,Nat.zero_le _,rfl⟩) (dg (A:=[])) ot ig ig (fun E I S7 qj=>?_);exact Hi

structure aX where
 p:cW
 ak:Option Addr
 ck:Nat
 sk:List ah
 ai:Option Addr
 ci:Nat
 si:List ah
def gO(o:aX):List D:=[bI o.p.leaf,aN o.ak o.p.keys.length o.ck,aN o.ai o.p.kids.length o.ci,au 1 cB o.p.high,ae o.p.next]
theorem hU(o:aX):(gO o).length=5:=rfl
theorem FB(o:aX):(gO o).all V.one=true:=rfl
def bO(o:aX):List ah:=o.sk++o.si
def rp(o:aX):Prop:=nR o.p.keys o.ak o.ck o.sk∧mZ o.p.kids o.ai o.ci o.si
theorem TK{S:List ah}:∀{L:List aX},(∀o∈L,rp o)→(∀B∈L.flatMap bO,B∈S)→gE S (L.flatMap gO) ((L.map aX.p).flatMap cP)
 | [],_,_=>trivial
 | o::L,h,hs=>by
  rw[map_cons,flatMap_cons,flatMap_cons];obtain⟨h1,h2⟩:=h o mem_cons_self;refine gE.append ⟨eO,lq h1 (cm gi _) (fun B E=>hs B ?_),lq h2 (cm eG _) (fun B E=>hs B ?_),eO,eO,trivial⟩ (TK (fun o ho=>h o (mem_cons_of_mem _ ho)) fun B E=>hs B ?_)
  ·rw[flatMap_cons];exact mem_append_left _ (mem_append_left _ E)
  ·rw[flatMap_cons];exact mem_append_left _ (mem_append_right _ E)
  rw[flatMap_cons];exact mem_append_right _ E
abbrev ue(L:List aX)(ad:Option Addr)(cap:Nat)(S:List ah):Prop:=bg 146 5 (L.flatMap gO) L.length ad cap S
theorem KI{S Sx:List ah}{L:List aX}{ad:Option Addr}{cap:Nat}{root:Int}(ho:ue L ad cap Sx)(h:∀o∈L,rp o)(hs:∀B∈Sx++L.flatMap bO,B∈S) :
  View S (.agg [aN ad L.length cap,ae root]) (.agg (cT ⟨L.map aX.p,root⟩)):=by
 refine uQ ⟨?_,eO,trivial⟩;have:=A8 ho (TK h fun B E=>hs B (mem_append_right _ E)) (cm FO _ |>.trans bq) (fun B E=>hs B (mem_append_left _ E));first|rw[length_map]|(show View _ _ (.list _ _ (length _));rw[length_map])|(show View _ _ (.agg [.list _ _ (length _)]);rw[length_map])
 exact this
def GG(t:aF)(r:D)(S:List ah):Prop:=∃L ad cap Sx,r = .agg [aN ad (length L) cap,ae t.root]∧ue L ad cap Sx∧(∀o∈L,rp o)∧L.map aX.p=t.ag∧S=Sx++L.flatMap bO
theorem SC(L:List aX)(o:aX):(L++[o]).flatMap bO=L.flatMap bO++bO o:=by simp
theorem pN{α:Type}{l:List α}{j:Nat}(h:j<l.length):take j l++[l[j]]=take (j+1) l:=(take_succ_eq_append_getElem h).symm
theorem aar:(Tryz.prog.info? 90).map (fun i=>(i.zero,i.size,i.bytes))=some (some (.slice none 0 0),1,24):=by kernel_rfl
theorem ZJ:(Tryz.prog.info? 146).map (fun i=>(i.zero,i.size,i.bytes))=some (some (.agg #[.bool false,.slice none 0 0,.slice none 0 0,.slice none 0 0,.int .i64 0]),5,88):=by kernel_rfl
theorem OB : ∀ w, ((#[{ name := "Leaf", type := 4, offset := 0, embedded := false, tag := "", pkgPath := "", byteOffset := 0 }, { name := "Keys", type := 144, offset := 1, embedded := false, tag := "", pkgPath := "", byteOffset := 8 }, { name := "Kids", type := 70, offset := 2, embedded := false, tag := "", pkgPath := "", byteOffset := 32 }, { name := "High", type := 90, offset := 3, embedded := false, tag := "", pkgPath := "", byteOffset := 56 }, { name := "Next", type := 3, offset := 4, embedded := false, tag := "", pkgPath := "", byteOffset := 80 }] : Array Field).mapM fun f => do pure (f.offset, ← sizeOf f.type) : Sem (Array (Nat × Nat))).run Tryz.prog w = .ok #[(0, 1), (1, 1), (2, 1), (3, 1), (4, 1)] w := fun w => by simp [sizeOf144, sizeOf3, sizeOf4, sizeOf70, sizeOf90]
theorem FP(t:aF)(h:Nat)(v:Valid t h):VC Tryz.prog G 88 [.agg (cT t)] [] (GG t):=by
 refine VC.body func88 rfl ntmps88 aQ fun X0 w0 bf=>?_;unfold cT;have cY:=dN;have hval:=v;have NZ:=v.nW;refine bS ?_;refine OD.box (ds:=[_,_]) ap rfl rfl ot rfl rfl (fun b1=>?_);refine OD.alloc (ds:=[_,_]) ap rfl rfl zeroValue75 rfl (fun b2=>?_);refine an 51 [1,2] ?_;refine aA 3 ?_;refine OD.alloc (ds:=[_,_]) ap rfl rfl zeroValue75 rfl (fun b3=>?_);refine aM 0 [_,_] sizeOf75 ?_;refine an 51 [1,2,3] ?_;refine af [2,3,13,14,15] ?_;refine ez [2,3,13,14] (fun aR _ (E:Nat×List aX×Option Addr×Nat×List ah) aD=>match E with|(i,L,dz,cZ,Sx)=>(i≤t.ag.length)∧(L.map aX.p=t.ag.take i)∧(∀o∈L,rp o)∧(ue L dz cZ Sx)∧aD=(⟨51,(15,ae (i:Nat))::aR,(⟨b3,75,2,[aN dz L.length cZ,ae t.root]⟩::⟨b2,75,2,[bF,ae 0]⟩::(Sx++L.flatMap bO))⟩:St)) (fun (E:Nat×List aX×Option Addr×Nat×List ah)=>match E with|(i,L,dz,cZ,Sx)=>t.ag.length-i) (0,([]:List aX),none,0,[]) ⟨(Nat.zero_le _),rfl,(fun o h=>by cases h),iz,rfl⟩ ?_;rintro⟨i,L,dz,cZ,Sx⟩ _ ⟨hi,hL,aV,dX,rfl⟩;refine af [2,3,13,14,15,16] ?_;refine ax ?_ ?_<;>intro aO bA
 ·have aa:i<t.ag.length:=(by omega)
  have po:=v.fK _ (getElem_mem aa);have rZ:L.length=i:=(by have:=congrArg length hL;rw[length_map,length_take] at this;omega)
  have mY:=po.eI;have YJ:=po.hlen;have Gf:(t.ag[i]'aa).kids.length≤5:=by
      exact z93
  refine aA 2 ?_;refine OD.alloc (ds:=[_,_,_,_,_]) ap rfl rfl zeroValue146 rfl (fun b5=>?_);refine aM 0 [_,_,_,_,_] sizeOf146 ?_;refine an 51 [2,3,5,13,14,15] ?_;refine bS ?_;refine bp [2,3,5,6,13,14,15] ?_;refine af [2,3,5,6,13,14,15,20,21,22] ?_;refine CD.block ?_;refine ni (fun (E:Nat×Option Addr×Nat×List ah) aD=>match E with|(j,iE,iF,Sy)=>(j≤(t.ag[i]'aa).keys.length)∧(nR (take j (t.ag[i]'aa).keys) iE iF Sy)∧aD=(⟨51,[(2,cU b2),(3,cU b3),(5,cU b5),(6,aN iE (take j (t.ag[i]'aa).keys).length iF),(13,au 5 cP t.ag),(14,ae (t.ag.length:Nat)),(15,ae (i:Nat)),(20,.list 1 ((t.ag[i]'aa).keys.flatMap cK) (t.ag[i]'aa).keys.length),(21,ae ((t.ag[i]'aa).keys.length:Nat)),(22,ae (j:Nat))],(⟨b5,146,5,cP (t.ag[i]'aa)⟩::⟨b3,75,2,[aN dz L.length cZ,ae t.root]⟩::⟨b2,75,2,[bF,ae 0]⟩::(Sy++(Sx++L.flatMap bO)))⟩:St)) (fun (E:Nat×Option Addr×Nat×List ah)=>match E with|(j,iE,iF,Sy)=>(t.ag[i]'aa).keys.length-j) (0,none,0,[]) ⟨(Nat.zero_le _),iz,rfl⟩ (aJ (h:=by repeat (first|exact trivial|refine⟨(by (repeat (first|exact fI|(apply fX;focus (first|rfl|(simp;done)|(congr 2;omega)|(apply eL;exact pN O)))|(apply fN;focus rfl)));done),?_⟩))) ?_;rintro⟨j,iE,iF,Sy⟩ _ ⟨hj,U,rfl⟩;refine af [2,3,5,6,13,14,15,20,21,22,23] ?_;refine ax ?_ ?_<;>intro aY cz
  ·have O:j<(t.ag[i]'aa).keys.length:=(by omega)
   have Md:=(po.lC _ (getElem_mem O)).2;refine af [2,3,5,6,8,13,14,15,20,21,22] ?_;refine dG 2 ?_;refine dO call90 (mq (t.ag[i]'aa).keys[j] w4) ?_;refine ew (cu 0 [_]) [.slice none 0 0] [_] zeroValue90 runUnderlying144 sizeOf90 (fun uC=>?_);refine fS 0 29 1 1 ?_;refine OD.eB (ls:=(take j (t.ag[i]'aa).keys)) (new:=[(t.ag[i]'aa).keys[j]]) (Sq:=Sy) gi pU ap rfl rfl underlying144 aar rfl w8 ot U (Ja (A:=[_,_,_])) ot bq vH ig (fun Z I L4 L5=>?_);refine OD.perm (QM (S1:=[⟨Z,90,I*1,flatMap cK ((take j (t.ag[i]'aa).keys)++[(t.ag[i]'aa).keys[j]])⟩]) (A:=[_,_,_])) ?_;refine an 51 [2,3,5,6,13,14,15,20,21,22] ?_;refine bX [2,3,5,6,13,14,15,20,21,22] ?_;refine⟨((j+1),(some ⟨Z,0,none⟩),I,[⟨Z,90,I*1,flatMap cK ((take j (t.ag[i]'aa).keys)++[(t.ag[i]'aa).keys[j]])⟩]),_,cn,(aJ (h:=by repeat (first|exact trivial|refine⟨(by (repeat (first|exact fI|(apply fX;focus (first|rfl|(simp;done)|(congr 2;omega)|(apply eL;exact pN O)))|(apply fN;focus rfl)));done),?_⟩))),w4,(bg.cast (bM L4 L5) (pN O)),rfl⟩
  have hjt:take j (t.ag[i]'aa).keys=(t.ag[i]'aa).keys:=take_of_length_le w4;rw[hjt] at U ⊢;refine CD.exit ?_;refine gX 16 (av (take 1 _)) ?_ (fun _ h=>(Sublist.map _ (take_sublist _ _)).subset h);refine aC 0 rfl (dF 0) ?_;refine aC 2 rfl (dF 0) ?_;refine aC 3 rfl (dK 0) ?_;refine aC 4 rfl bG ?_;refine aC 5 rfl (dF 2) ?_;refine aC 6 rfl (dK 0) ?_;refine aC 8 rfl (dF 3) ?_;refine aC 9 rfl (dK 0) ?_;refine aC 11 rfl (dF 4) ?_;refine aC 12 rfl (dK 0) ?_;refine dH.later rfl ?_;refine AD.two (i:=1) (j:=7) aB ?_ ?_
  ·refine at_ rfl (dK 1) ?_;refine AD.one (i:=7) aB ?_;refine bB.call rfl ap rfl rfl rfl call131 (ru (t.ag[i]'aa).kids w4) ⟨ot,trivial⟩ (fa _) (fun b hb=>by simp[av,St.put] at hb ⊢;try simp[hb]) ?_;rintro _ Sz ⟨l8,l9,rfl,yt⟩;refine AD.perm (kf (A:=[_,_,_])) ?_;have vL:(L++[(⟨(t.ag[i]'aa),iE,iF,Sy,l8,l9,Sz⟩:aX)]).map aX.p=t.ag.take (i+1):=(by rw[map_append,hL];exact pN aa)
   have jZ:∀o∈L++[(⟨(t.ag[i]'aa),iE,iF,Sy,l8,l9,Sz⟩:aX)],rp o:=fun o ho=>by rcases mem_append.1 ho with ho|ho;exact aV o ho;rw[mem_singleton] at ho;subst ho;exact⟨U,yt⟩
   exact z109
  refine bB.call rfl ap rfl rfl rfl call131 (ru (t.ag[i]'aa).kids w4) ⟨ot,trivial⟩ (fa _) (fun b hb=>by simp[av,St.put] at hb ⊢;try simp[hb]) ?_;rintro _ Sz ⟨l8,l9,rfl,yt⟩;refine AD.perm (kf (A:=[_,_,_])) ?_;have vL:(L++[(⟨(t.ag[i]'aa),iE,iF,Sy,l8,l9,Sz⟩:aX)]).map aX.p=t.ag.take (i+1):=(by rw[map_append,hL];exact pN aa)
  have jZ:∀o∈L++[(⟨(t.ag[i]'aa),iE,iF,Sy,l8,l9,Sz⟩:aX)],rp o:=fun o ho=>by rcases mem_append.1 ho with ho|ho;exact aV o ho;rw[mem_singleton] at ho;subst ho;exact⟨U,yt⟩
  refine AD.two (i:=1) (j:=10) aB ?_ ?_
  ·refine at_ rfl (dK 1) ?_;exact z109
  refine qk call90 (mq (t.ag[i]'aa).high w4) ?_;refine c9 13 rfl (oR (pl:=[(0,_),(1,_),(2,_),(3,_),(4,_)]) (ds:=[_,_,_,_,_]) rfl zeroValue146 runUnderlying146 OB ⟨rfl,ot,rfl,ot,rfl,ot,rfl,ot,rfl,ot,trivial⟩ rfl rfl) ?_;refine AD.two (i:=1) (j:=14) aB ?_ ?_
  ·refine at_ rfl (dK 1) ?_;refine AD.one (i:=14) aB ?_;refine nF (cu 0 [_]) [.bool false,.slice none 0 0,.slice none 0 0,.slice none 0 0,.int .i64 0] [_,_,_,_,_] zeroValue146 runUnderlying73 sizeOf146 (fun Aw=>?_);refine nG 0 46 5 1 ?_;exact z5
  refine nF (cu 0 [_]) [.bool false,.slice none 0 0,.slice none 0 0,.slice none 0 0,.int .i64 0] [_,_,_,_,_] zeroValue146 runUnderlying73 sizeOf146 (fun Aw=>?_);refine nG 0 46 5 1 ?_;refine AD.one (i:=1) aB ?_;refine at_ rfl (dK 1) ?_;exact z5
 refine aA 1 ?_;refine aM 1 [_,_] sizeOf75 ?_;refine an 51 [2] ?_;refine aK (Sx++L.flatMap bO) ?_;exact⟨L,dz,cZ,Sx,rfl,dX,aV,by rw[hL,take_of_length_le w4],rfl⟩

end Go.Proofs.YtkgmonfgofobaaaGreatDoor.Tw
