/-
  NA: walks and plain facts, part 9.
-/
import Derived.Test.YtihmfhcjbmlnaaaGreatDoorPNA8
set_option linter.unusedVariables false
set_option linter.unusedSimpArgs false
set_option maxRecDepth 100000
set_option maxHeartbeats 4000000
namespace Go.Proofs.YtihmfhcjbmlnaaaGreatDoor
namespace Ba
open List
open Go.Proofs.Tryz
open Go.RowKit V Pk Tr Vl Go.Proofs.YtihmfhcjbmlnaaaGreatDoor.Nm Pc Cd Ex Tw
open Pa (aT aY dJ bZ cY cZ dA dO dr bN bJ Ph)
variable {G:List (Nat×List Value)} {m:Int}
def rP(t:aA)(s:aT):Bool:=((((eG t.an s.ah).1.1.length:Nat):Int)+(((eG t.an s.ah).1.2.length:Nat):Int)==0)||((s.kind==5)&&(bE t.an s.set==0))
noncomputable def sX(t:aA)(s:aT):List bq :=
 if s.kind=3 then [⟨tB s.table,2⟩,⟨dI s.table (de s.row),5⟩,oN t (de s.row) 5]
 else if rP t s=true then [⟨tB s.table,if s.kind=4 then 3 else 5⟩]
 else ⟨tB s.table,if s.kind=4 then 1 else 2⟩::jf t (eG t.an s.ah).1.1 (eG t.an s.ah).1.2 (if s.kind=4 then 3 else 5)
noncomputable def gE(l:List aA)(s:aT):List bq×Int :=
 if bZ s≠0 then ([],bZ s) else if 7<=s.kind then ([],2) else if s.kind<=2 then ([⟨⟨#[]⟩,5⟩],0)
 else if aC l s.table<0 then ([⟨⟨#[]⟩,1⟩],0)
 else if iy (l.getD (aC l s.table).toNat ⟨s.table,[],[],nc⟩) s=true then ([⟨⟨#[]⟩,1⟩],0)
 else (⟨⟨#[]⟩,1⟩::sX (l.getD (aC l s.table).toNat ⟨s.table,[],[],nc⟩) s,0)
theorem anY{l:List aA}{x:ByteArray}(h:¬aC l x<0)(hl:(aC l x).toNat<l.length):l[(aC l x).toNat].nm=x:=by
 cases e:l.findIdx? (fun t=>t.nm.toList==x.toList) with
 | none=>exact absurd (by unfold aC dD;rw[e];decide) h
 | some q =>
  obtain⟨hq,h1,_⟩:=findIdx?_eq_some_iff_getElem.1 e;have hi:(aC l x).toNat=q:=(by unfold aC dD;rw[e];exact Int.toNat_natCast q)
  subst hi;exact vY.1 h1
theorem aju(t:aA)(s:aT)(b:Nat):VC Tryz.prog G 26 [.agg (cr t),dw b] [⟨b,34,12,[ae s.kind,aG s.table,aj 2 cC s.an,aj 3 cV s.row,aj 1 cS s.names,aW s.count,aj 5 cO s.ah,aG s.order,aW s.down,ae s.iA,aG s.set,aj 5 cO s.bG]⟩] (fun r S=>r=aW (t.nm.toList==s.table.toList)/\S=[⟨b,34,12,[ae s.kind,aG s.table,aj 2 cC s.an,aj 3 cV s.row,aj 1 cS s.names,aW s.count,aj 5 cO s.ah,aG s.order,aW s.down,ae s.iA,aG s.set,aj 5 cO s.bG]⟩]):=by
 refine bA func26 rfl ntmps26 aO fun X0 w0 bz=>?_;unfold cr;refine cq ?_;refine dm [_,_,_,_,_] (fun b2=>?_);refine ap 9 [1,2] ?_;refine dS [3] [⟨b,34,12,[ae s.kind,aG s.table,aj 2 cC s.an,aj 3 cV s.row,aj 1 cS s.names,aW s.count,aj 5 cO s.ah,aG s.order,aW s.down,ae s.iA,aG s.set,aj 5 cO s.bG]⟩] ?_;exact⟨rfl,rfl⟩
theorem tX(hm:(3,marksC)∈G)(hw:(1,wordsC)∈G)(ht:(0,typesC)∈G)(hG:(2,[Value.int .i64 m])∈G)(l:List aA){n:Nat}(g:pY l n)(s:aT)(hs:uG s):VP Tryz.prog G 12 [.agg [aj 5 cr (l)],.agg (aY s)] (.dF [.list 2 ((gE l s).1.flatMap lp) (gE l s).1.length,ae (gE l s).2]):=by
 refine bA func12 rfl ntmps12 aO fun X0 w0 bz=>?_;have dy:=ee;have kZ:=g.fm;have pL:=Mg hm hw ht hG l g;have fB:=Pa.MV (G:=G) hm hw ht s hs.fin;unfold aY at fB |-;refine cq ?_;refine dm [_] (fun b2=>?_);refine dm [_,_,_,_,_,_,_,_,_,_,_,_] (fun b3=>?_);refine ap 157 [2,3] ?_;refine cW [2,3,6] (pL) ?_;refine ax [2,3,6,20] ?_ ?_<;>intro aP bH
 ·exact z87
 refine cW [2,3,7] (fB) ?_;refine ax [2,3,7,25] ?_ ?_<;>intro bg cM
 ·have pO:bZ s≠0:=(by simpa using bg)
  have aZ:gE l s=([],bZ s):=(by unfold gE;rw[if_pos pO])
  refine ay [4,5] ?_;refine kX (Wk.tY (t:=4) (sz:=2) lk) ?_;exact kO
 have pO:bZ s=0:=(by simpa using bg)
 refine ax [2,3,27] ?_ ?_<;>intro cl di
 ·have vI:7<=s.kind:=(by simpa using cl)
  have aZ:gE l s=([],2):=(by unfold gE;rw[if_neg (fun e=>e pO),if_pos vI])
  refine ay [4,5] ?_;refine kX (Wk.tY (t:=4) (sz:=2) lk) ?_;exact kO
 have vI:¬7<=s.kind:=(by simpa using cl)
 refine ax [2,3,31] ?_ ?_<;>intro da eP
 ·have fD:s.kind<=2:=(by simpa using da)
  have aZ:gE l s=([⟨⟨#[]⟩,5⟩],0):=(by unfold gE;rw[if_neg (fun e=>e pO),if_neg vI,if_pos fD])
  refine az 1 ?_;refine eR (cU 0 [_]) [.string ⟨#[]⟩,.int .i64 0] [_,_] zeroValue44 runUnderlying39 sizeOf44 (fun AX=>?_);refine cg (eM (S1:=[⟨AX,44,1*2,flatMap lp ([(⟨⟨#[]⟩,5⟩:bq)])⟩]) (A:=[_,_])) ?_;refine ap 157 [4,5] ?_;refine mS (t:=4) (Sq:=[⟨AX,44,1*2,flatMap lp ([(⟨⟨#[]⟩,5⟩:bq)])⟩]) lk (cj (g:=lp) (sz:=2) (e:=44) (ls:=[(⟨⟨#[]⟩,5⟩:bq)]) (Nat.le_refl _) (show 1<=maxLen by decide)) (dg qQ _) (dL (A:=[_,_])) ?_;exact kO
 have fD:¬s.kind<=2:=(by simpa using da)
 refine az 1 ?_;refine dm [_,_,_,_,_,_] (fun E=>?_);refine ap 157 [2,3,8] ?_;refine az 1 ?_;refine eH au rfl rfl rfl call24 (wv ⟨#[]⟩ 1 ([]:List bq) bC (dj) (aJ) (aJ) (aJ) (ae 0) none 0 E [] jt) ⟨ot,bP,bP,trivial⟩ (Perm.cons _ (perm_append_comm (l₁:=[_,_]))) ?_;rintro _ _ ⟨rfl,O,U,E2,JY,rfl⟩;refine cg (Perm.cons _ (perm_append_comm (l₂:=[_,_]))) ?_;refine ap 157 [2,3,8] ?_;refine az 2 ?_;refine bS (sM (ds:=[_]) rfl ⟨ot,trivial⟩) ?_;refine eH au rfl rfl rfl call25 (U9 l 26 [dw b3] _ (fun t=>t.nm.toList==s.table.toList) call26 (fun h _=>aju h s b3) w4) ⟨ot,ot,trivial⟩ (nA (k:=1) rfl) ?_;rintro _ S2 ⟨rfl,gY⟩;rw[gY,show dD (fun t:aA=>t.nm.toList==s.table.toList) l=aC l s.table from rfl];clear gY;refine cg (Perm.swap _ _ _) ?_;refine ap 157 [2,3,8,9] ?_;refine cL ?_;refine cL ?_;by_cases h0:aC l s.table<0
 ·have hb:decide (aC l s.table<0)=true:=decide_eq_true h0;have aZ:gE l s=([⟨⟨#[]⟩,1⟩],0):=(by unfold gE;rw[if_neg (fun e=>e pO),if_neg vI,if_neg fD,if_pos h0])
  refine bM [2,3,8,9,55] ?_;refine fu ?_;exact z164
 have hb:decide (aC l s.table<0)=false:=decide_eq_false h0;have nO:=vX (fun t:aA=>t.nm.toList==s.table.toList) l;rw[show dD (fun t:aA=>t.nm.toList==s.table.toList) l=aC l s.table from rfl] at nO;have bp:(aC l s.table).toNat<l.length:=(by omega)
 have qf:=g.tb (l[(aC l s.table).toNat]'bp) (getElem_mem bp);have jm:l.getD (aC l s.table).toNat ⟨s.table,[],[],nc⟩=(l[(aC l s.table).toNat]'bp):=(by rw[getD_eq_getElem?_getD,getElem?_eq_getElem bp];rfl)
 have yK:(l[(aC l s.table).toNat]'bp).nm=s.table:=anY h0 bp;have Z:s.table.size<=100:=(by rw[<-yK];exact Nat.le_trans (Pa.IK qf.nm).2 w7)
 have pN:=ahF hm hw ht hG (l[(aC l s.table).toNat]'bp) qf s hs;have AU:=Mq (G:=G) hm hw ht hG (l[(aC l s.table).toNat]'bp).an (by rw[qf.an];decide) (by rw[qf.an];exact W0) s.ah hs.Tj hs.Tm;obtain⟨mr,hU⟩:=Za (l[(aC l s.table).toNat]'bp).an s.ah;have dP:=Uk (G:=G) (l[(aC l s.table).toNat]'bp) (by rw[qf.an];decide) s.set;unfold Gw wm at AU;unfold cr at pN dP;unfold aY at pN;refine fW [2,3,8,9,55] ?_;refine aM 6 ?_ (h:=by exact(ei 5 (h:=Z0)));refine cA (pN) ?_;refine bB ?_;refine bX ?_ ?_<;>intro eo fR
 ·exact z164
 have I:gE l s=(⟨⟨#[]⟩,1⟩::sX (l[(aC l s.table).toNat]'bp) s,0):=(by unfold gE;rw[if_neg (fun e=>e pO),if_neg vI,if_neg fD,if_neg h0,jm,if_neg (by rw[eo];decide)])
 refine az 4 ?_;refine bS (ei 5 (h:=Z0)) ?_;refine aF 3 ?_;refine aN 0 [_,_,_,_,_,_] sizeOf76 ?_;refine ap 157 [3,8] ?_;refine cW [3,8,10,11] (AU) ?_;refine iM [3,8,10,11] (fun aU j4 aE=>∃(al:Bool),(al=rP (l[(aC l s.table).toNat]'bp) s)/\aE=(⟨157,(13,aW al)::aU,j4⟩:St)) ?_ ?_
 ·rcases Bool.eq_false_or_eq_true ((((eG (l[(aC l s.table).toNat]'bp).an s.ah).1.1.length:Nat):Int)+(((eG (l[(aC l s.table).toNat]'bp).an s.ah).1.2.length:Nat):Int)==0) with iI|iI
  ·have fb:rP (l[(aC l s.table).toNat]'bp) s=true:=(by unfold rP;rw[iI];rfl)
   refine fW [3,8,10,11,13] ?_;refine aM 4 ?_ (h:=Re);refine bB ?_;refine⟨_,aL,true,fb.symm,rfl⟩
  rcases Bool.eq_false_or_eq_true (s.kind==5) with jT|jT
  ·have fb:rP (l[(aC l s.table).toNat]'bp) s=(bE (l[(aC l s.table).toNat]'bp).an s.set==0):=(by unfold rP;rw[iI,jT];rfl)
   refine fW [3,8,10,11,13] ?_;refine aM 4 ?_ (h:=Re);refine cA (dP) ?_;refine bB ?_;refine⟨_,aL,(bE (l[(aC l s.table).toNat]'bp).an s.set==0),fb.symm,rfl⟩
  have fb:rP (l[(aC l s.table).toNat]'bp) s=false:=(by unfold rP;rw[iI,jT];rfl)
  refine fW [3,8,10,11,13] ?_;refine aM 4 ?_ (h:=Re);refine bB ?_;refine⟨_,aL,false,fb.symm,rfl⟩
 rintro _ ⟨al,pK,rfl⟩;refine cq ?_;refine bS (He (pl:=[(0,_),(1,_),(2,_)]) (ds:=[_,_,_]) rfl zeroValue87 runUnderlying87 sizeOf3 ⟨rfl,bP,rfl,bP,rfl,bP,trivial⟩ rfl rfl) ?_;refine cD (ds:=[_,_,_]) au rfl rfl zeroValue87 rfl (fun yM=>?_);refine aN 0 [_,_,_] sizeOf87 ?_;refine ap 157 [3,8,10,11,13,14] ?_;refine iM [3,8,10,11,13,14] (fun aU _ aE=>∃(m0:Int),∃(m1:Int),(m0=(if s.kind=4 then 3 else 5))/\(m1=(if s.kind=4 then 1 else 2))/\aE=(⟨157,aU,(⟨yM,87,3,[ae m0,ae m1,ae m0]⟩::⟨E,78,6,[aG (l[(aC l s.table).toNat]'bp).nm,.list 2 ((l[(aC l s.table).toNat]'bp).an.flatMap cC) (l[(aC l s.table).toNat]'bp).an.length,.list 1 ((l[(aC l s.table).toNat]'bp).rows.flatMap eX) (l[(aC l s.table).toNat]'bp).rows.length,.list 5 ((l[(aC l s.table).toNat]'bp).ix.af.flatMap cP) (l[(aC l s.table).toNat]'bp).ix.af.length,ae (l[(aC l s.table).toNat]'bp).ix.root,aS O ((([]:List bq)++[(⟨⟨#[]⟩,1⟩:bq)])).length U]⟩::⟨b3,34,12,[ae s.kind,aG s.table,aj 2 cC s.an,aj 3 cV s.row,aj 1 cS s.names,aW s.count,aj 5 cO s.ah,aG s.order,aW s.down,ae s.iA,aG s.set,aj 5 cO s.bG]⟩::⟨b2,25,1,[aj 5 cr (l)]⟩::E2)⟩:St)) ?_ ?_
 ·refine ax [3,8,10,11,13,14,104] ?_ ?_<;>intro fH ik
  ·have jS:¬s.kind=4:=(by simpa using fH)
   refine uK ?_;refine bS (He (pl:=[(0,_),(1,_),(2,_)]) (ds:=[_,_,_]) rfl zeroValue87 runUnderlying87 sizeOf3 ⟨rfl,bP,rfl,bP,rfl,bP,trivial⟩ rfl rfl) ?_;refine aN 0 [_,_,_] sizeOf87 ?_;refine ap 157 [3,8,10,11,13,14] ?_;refine⟨_,aL,5,2,(by rw[if_neg jS]),(by rw[if_neg jS]),rfl⟩
  have jS:s.kind=4:=(by simpa using fH)
  refine eI ?_;refine⟨_,aL,3,1,(by rw[if_pos jS]),(by rw[if_pos jS]),rfl⟩
 rintro _ ⟨m0,m1,hm0,tH,rfl⟩;refine ax [3,8,10,11,13,14,119] ?_ ?_<;>intro iu qa
 ·have gX:s.kind=3:=(by simpa using iu)
  have yV:Pc.dV (l[(aC l s.table).toNat]'bp).an s.row=0:=(by have:=eo;unfold iy at this;rw[if_pos gX] at this;simpa using this)
  rw[qf.an] at yV;have FR:=qu yV;have eT:=(pu yV).2;have k8:=Ou (G:=G) hG (s.row.take 1) qD (fun v hv=>hs.row v (mem_of_mem_take hv));unfold EZ wm at k8;have aZ:gE l s=(((((([]:List bq)++[(⟨⟨#[]⟩,1⟩:bq)])++[(⟨tB s.table,2⟩:bq)])++[(⟨dI s.table (de s.row),5⟩:bq)])++[oN (l[(aC l s.table).toNat]'bp) (de s.row) 5]),0):=(by rw[I];unfold sX;rw[if_pos gX];rfl)
  refine cJ [3,8,15] ?_;refine aM 2 ?_ (h:=by exact(fw (l:=0) (h:=1) rfl ot trivial ⟨_,bP⟩ (by first|exact nC j7 (fun h=>by cases h) runUnderlying30 sizeOf36 w4|exact nC qQ (fun h=>by cases h) runUnderlying30 sizeOf36 w4|exact nC mV (fun h=>by cases h) runUnderlying30 sizeOf36 w4|exact nC mU (fun h=>by cases h) runUnderlying30 sizeOf36 w4|exact nC fX (fun h=>by cases h) runUnderlying30 sizeOf36 w4|exact nC qS (fun h=>by cases h) runUnderlying30 sizeOf36 w4|exact qq (fun h=>by cases h) runUnderlying30 sizeOf36 w4|exact pU (fun _=>rfl) (fun h=>by cases h) runUnderlying30 sizeOf36 w4 w4)));refine cA (k8) ?_;refine bB ?_;refine az 3 ?_;refine dK call31 (MI s.table Z) ?_;refine eH au rfl rfl rfl call24 (wv (tB s.table) 2 (([]:List bq)++[(⟨⟨#[]⟩,1⟩:bq)]) bC (aG (l[(aC l s.table).toNat]'bp).nm) (.list 2 ((l[(aC l s.table).toNat]'bp).an.flatMap cC) (l[(aC l s.table).toNat]'bp).an.length) (.list 1 ((l[(aC l s.table).toNat]'bp).rows.flatMap eX) (l[(aC l s.table).toNat]'bp).rows.length) (.list 5 ((l[(aC l s.table).toNat]'bp).ix.af.flatMap cP) (l[(aC l s.table).toNat]'bp).ix.af.length) (ae (l[(aC l s.table).toNat]'bp).ix.root) O U E E2 JY) ⟨ot,ot,bP,trivial⟩ ((Perm.swap _ _ _).trans (Perm.cons _ (perm_append_comm (l₁:=[_,_,_])))) ?_;rintro _ _ ⟨rfl,anZ,an0,an1,an2,rfl⟩
  refine cg (Perm.cons _ (perm_append_comm (l₂:=[_,_,_]))) ?_;refine ap 157 [3,8,15] ?_;refine az 4 ?_;refine dK call32 (Oe s.table Z (de s.row) w4) ?_;refine eH au rfl rfl rfl call24 (wv (dI s.table (de s.row)) 5 ((([]:List bq)++[(⟨⟨#[]⟩,1⟩:bq)])++[(⟨tB s.table,2⟩:bq)]) bC (aG (l[(aC l s.table).toNat]'bp).nm) (.list 2 ((l[(aC l s.table).toNat]'bp).an.flatMap cC) (l[(aC l s.table).toNat]'bp).an.length) (.list 1 ((l[(aC l s.table).toNat]'bp).rows.flatMap eX) (l[(aC l s.table).toNat]'bp).rows.length) (.list 5 ((l[(aC l s.table).toNat]'bp).ix.af.flatMap cP) (l[(aC l s.table).toNat]'bp).ix.af.length) (ae (l[(aC l s.table).toNat]'bp).ix.root) anZ an0 E an1 an2) ⟨ot,ot,bP,trivial⟩ (Perm.cons _ (perm_append_comm (l₁:=[_,_,_]))) ?_;rintro _ _ ⟨rfl,an3,an4,an5,an6,rfl⟩;refine cg (Perm.cons _ (perm_append_comm (l₂:=[_,_,_]))) ?_;refine ap 157 [8,15] ?_;refine dB 2 ?_;refine eH au rfl rfl rfl call33 (YE (l[(aC l s.table).toNat]'bp) qf (de s.row) eT 5 (((([]:List bq)++[(⟨⟨#[]⟩,1⟩:bq)])++[(⟨tB s.table,2⟩:bq)])++[(⟨dI s.table (de s.row),5⟩:bq)]) bC an3 an4 E an5 an6) ⟨ot,ot,bP,trivial⟩ (Perm.cons _ (perm_append_comm (l₁:=[_,_,_]))) ?_;rintro _ _ ⟨rfl,ave,avf,an7,an8,rfl⟩;refine cg (Perm.cons _ (perm_append_comm (l₂:=[_,_,_]))) ?_;refine ap 157 [8] ?_;refine ay [4,5] ?_
  refine mS (t:=4) (Sq:=an7) lk an8 (dg qQ _) (dL (A:=[_,_,_,_])) ?_;exact kO
 have gX:¬s.kind=3:=(by simpa using iu)
 refine ax [3,8,10,11,14,144] ?_ ?_<;>intro iE nJ
 ·have aZ:gE l s=(((([]:List bq)++[(⟨⟨#[]⟩,1⟩:bq)])++[(⟨tB s.table,m0⟩:bq)]),0):=(by rw[I];unfold sX;rw[if_neg gX,if_pos (by rw[<-pK];exact iE),<-hm0];rfl)
  refine nj 6 [8,146,149,151] ?_;refine cA (MI s.table Z) ?_;refine aM 0 ?_ (h:=by exact(ny (mk:=Op.indexAddr 87) rfl ot bP (by first|exact Et (j:=0) runUnderlying87 sizeOf3 rfl rV)));refine bB ?_;refine eH au rfl rfl rfl call24 (wv (tB s.table) m0 (([]:List bq)++[(⟨⟨#[]⟩,1⟩:bq)]) bC (aG (l[(aC l s.table).toNat]'bp).nm) (.list 2 ((l[(aC l s.table).toNat]'bp).an.flatMap cC) (l[(aC l s.table).toNat]'bp).an.length) (.list 1 ((l[(aC l s.table).toNat]'bp).rows.flatMap eX) (l[(aC l s.table).toNat]'bp).rows.length) (.list 5 ((l[(aC l s.table).toNat]'bp).ix.af.flatMap cP) (l[(aC l s.table).toNat]'bp).ix.af.length) (ae (l[(aC l s.table).toNat]'bp).ix.root) O U E E2 JY) ⟨ot,ot,ot,trivial⟩ ((Perm.swap _ _ _).trans (Perm.cons _ (perm_append_comm (l₁:=[_,_,_])))) ?_;rintro _ _ ⟨rfl,avg,avh,an9,aoa,rfl⟩;refine cg (Perm.cons _ (perm_append_comm (l₂:=[_,_,_]))) ?_;refine ap 157 [8] ?_;refine ay [4,5] ?_;refine mS (t:=4) (Sq:=an9) lk aoa (dg qQ _) (dL (A:=[_,_,_,_])) ?_;exact kO
 have aZ:gE l s=((((([]:List bq)++[(⟨⟨#[]⟩,1⟩:bq)])++[(⟨tB s.table,m1⟩:bq)])++jf (l[(aC l s.table).toNat]'bp) (eG (l[(aC l s.table).toNat]'bp).an s.ah).1.1 (eG (l[(aC l s.table).toNat]'bp).an s.ah).1.2 m0),0):=(by rw[I];unfold sX;rw[if_neg gX,if_neg (by rw[<-pK,iE];decide),<-hm0,<-tH];rfl)
 refine cL ?_;refine nj 6 [8,10,11,14,106,109,111] ?_;refine cA (MI s.table Z) ?_;refine aM 0 ?_ (h:=by exact(ny (mk:=Op.indexAddr 87) rfl ot bP (by first|exact Et (j:=1) runUnderlying87 sizeOf3 rfl rV)));refine bB ?_;refine eH au rfl rfl rfl call24 (wv (tB s.table) m1 (([]:List bq)++[(⟨⟨#[]⟩,1⟩:bq)]) bC (aG (l[(aC l s.table).toNat]'bp).nm) (.list 2 ((l[(aC l s.table).toNat]'bp).an.flatMap cC) (l[(aC l s.table).toNat]'bp).an.length) (.list 1 ((l[(aC l s.table).toNat]'bp).rows.flatMap eX) (l[(aC l s.table).toNat]'bp).rows.length) (.list 5 ((l[(aC l s.table).toNat]'bp).ix.af.flatMap cP) (l[(aC l s.table).toNat]'bp).ix.af.length) (ae (l[(aC l s.table).toNat]'bp).ix.root) O U E E2 JY) ⟨ot,ot,ot,trivial⟩ ((Perm.swap _ _ _).trans (Perm.cons _ (perm_append_comm (l₁:=[_,_,_])))) ?_;rintro _ _ ⟨rfl,aob,aoc,aod,aoe,rfl⟩;refine cg (Perm.cons _ (perm_append_comm (l₂:=[_,_,_]))) ?_;refine ap 157 [8,10,11,14] ?_;refine dB 3 ?_;refine bS (ny (mk:=Op.indexAddr 87) rfl ot bP (by first|exact Et (j:=2) runUnderlying87 sizeOf3 rfl rV)) ?_;refine aF 1 ?_
 refine eH au rfl rfl rfl call34 (ak2 (l[(aC l s.table).toNat]'bp) qf (eG (l[(aC l s.table).toNat]'bp).an s.ah).1.1 (eG (l[(aC l s.table).toNat]'bp).an s.ah).1.2 mr hU m0 ((([]:List bq)++[(⟨⟨#[]⟩,1⟩:bq)])++[(⟨tB s.table,m1⟩:bq)]) bC aob aoc E aod aoe) ⟨ot,ot,ot,ot,trivial⟩ (Perm.cons _ (perm_append_comm (l₁:=[_,_,_]))) ?_;rintro _ _ ⟨rfl,avi,avj,aof,aog,rfl⟩;refine cg (Perm.cons _ (perm_append_comm (l₂:=[_,_,_]))) ?_;refine ap 157 [8] ?_;refine ay [4,5] ?_;refine mS (t:=4) (Sq:=aof) lk aog (dg qQ _) (dL (A:=[_,_,_,_])) ?_;exact tg
end Ba
namespace Ba
end Ba
namespace Ex
end Ex
namespace Ba
open List
open Go.Proofs.Tryz
open Go.RowKit V Pk Tr Vl Go.Proofs.YtihmfhcjbmlnaaaGreatDoor.Nm Pc Cd Ex Tw
open Pa (aT aY dJ bZ cY cZ dA dO dr bN bJ Ph)
open Go.Lib (compareBytes)
theorem BM{l:List aA}(h:l.map aA.nm=bJ)(h0:0<l.length){s:aT}(ht:s.table=⟨#[116]⟩)(hc:bZ s=0)(k1:3<=s.kind)(k2:s.kind<=6):gE l s=(if iy l[0] s=true then [⟨⟨#[]⟩,1⟩] else ⟨⟨#[]⟩,1⟩::sX l[0] s,0):=by
 have jm:l.getD (0:Int).toNat ⟨s.table,[],[],nc⟩=l[0]:=(by show l.getD 0 _=_;rw[getD_eq_getElem?_getD,getElem?_eq_getElem h0];rfl)
 unfold gE;rw[if_neg (fun e=>e hc),if_neg w4,if_neg w4,show aC l s.table=0 by rw[ht];exact Cs h,if_neg w7,jm];split<;>rfl
end Ba
namespace Ba
end Ba
end Go.Proofs.YtihmfhcjbmlnaaaGreatDoor
