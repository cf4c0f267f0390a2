/-
  What the proof of InsertOne leans on, part 9 of 9: walks of the program's functions at the level of values, and plain facts of what they compute.
-/
import Derived.Test.YtdgichenhdikgaaGreatDoorPInsertOne8
set_option linter.unusedVariables false
set_option linter.unusedSimpArgs false
set_option maxRecDepth 100000
set_option maxHeartbeats 4000000
namespace Go.Proofs.YtdgichenhdikgaaGreatDoor.Ba
open List
open Go.Proofs.Tryz
open Go.RowKit V Pk Tr Vl Go.Proofs.YtdgichenhdikgaaGreatDoor.Nm Pc Cd Ex Tw
open Pa (cU bX lB iw kR gZ jM kN iM gX eE Ph)
variable {G:List (Nat×List Value)} {m:Int}
theorem Uw(E I O:Int)(sx:ByteArray):kR (nD ⟨#[116]⟩ (lC E I sx O)):=Pa.rC.vo (Pa.PF (t:=⟨#[116]⟩) (by decide +kernel) (iW E w7) (iW I w7) (Io (lT sx 2)).2)
theorem ag4(E I O:Int)(sx:ByteArray):iw (nD ⟨#[116]⟩ (lC E I sx O))=0:=by
 have hg:=Uw E I O sx;unfold iw;rw[if_neg (by rw[xL];decide),if_neg (fun e=>e hg.2.2.2.2),if_neg];have hl:Pa.pK (nD ⟨#[116]⟩ (lC E I sx O))=[⟨#[73,78,83,69,82,84]⟩,⟨#[73,78,84,79]⟩,⟨#[116]⟩,⟨#[86,65,76,85,69,83]⟩].map Pa.bF++Pa.lu ((lC E I sx O).map Pa.iJ):=by
  unfold Pa.pK;rw[if_neg CT,if_neg (by rw[xL];decide),if_pos xL];rfl
 have hp:=Pa.Bz (Pa.Jd (lC E I sx O)) ((lC E I sx O).map Pa.iJ).length;have U:((lC E I sx O).map Pa.iJ).length=4:=(by rw[length_map];rfl)
 rw[hl];unfold Pa.lu;rw[length_append,length_append,length_map,length_singleton];rw[U] at hp ⊢;show ¬4+(_+1)>100;omega
theorem W8{l:List aO}(h:l.map aO.nm=eE):aT l ⟨#[117]⟩=1:=by
 match l,h with
 | [],h=>exact absurd (congrArg length h) (by show ¬(0:Nat)=2;decide)
 | [_],h=>exact absurd (congrArg length h) (by show ¬(1:Nat)=2;decide)
 | a::b::r,h =>
  rw[map_cons,map_cons] at h;have ha:a.nm=⟨#[116]⟩:=(by injection h)
  have hb:b.nm=⟨#[117]⟩:=(by injection h with _ h;injection h)
  unfold aT;rw[uL (ls:=a::b::r) (k:=1) bf (fun x hx=>by rw[show(a::b::r).take 1=[a] from rfl,mem_singleton] at hx;rw[hx,ha];decide +kernel) (by show(b.nm.toList==_)=true;rw[hb];exact BEq.rfl)];rfl
theorem Vd{r:List Vl}(h:0<r.length):fst r=r[0]:=by unfold fst;rw[getD_eq_getElem?_getD,getElem?_eq_getElem h];rfl
theorem Fa{t:aO}{n:Nat}(g:eD t n):∀r∈kS t,r.length≤1000000:=fun r hr=>by
 obtain⟨i,hi,rfl⟩:=mem_iff_getElem.1 hr;obtain⟨v,r,e,h,_⟩:=PG g hi;rw[e,length_cons,h];decide
theorem afK{l:List aO}{a c:Nat}(I:pN l a c)(E:a+c≤30)(h:l.map aO.nm=eE){row:List Vl}(hg:kR (nD ⟨#[116]⟩ row))(O:iw (nD ⟨#[116]⟩ row)=0)(hf:Pc.dO c8 row=0)(aQ:∀v∈row,v.Ok)(h0:0<l.length) :
  ((kS l[0]).any (fun r=>tg (fst r) (fst row))=true∧nr l (nD ⟨#[116]⟩ row)=([],(([],0),9)))∨((kS l[0]).any (fun r=>tg (fst r) (fst row))=false∧∃t a' U,nr l (nD ⟨#[116]⟩ row)=(l.set 0 t,(([],1),0))∧kS t=nK row false (kS l[0])∧pN (l.set 0 t) a' U∧(l.set 0 t).map aO.nm=eE):=by
 have g:=I.g.tb _ (getElem_mem h0);have hr:gB l (nD ⟨#[116]⟩ row)=(l.set 0 (e9 l[0] row).1,((([]:List (List Vl)),(1:Int)),(e9 l[0] row).2)):=by
  unfold gB;rw[if_neg CT,show aT l (nD ⟨#[116]⟩ row).table=0 from My h,if_neg w7,if_pos xL];have j9:l.getD (0:Int).toNat (gQ (nD ⟨#[116]⟩ row))=l[0]:=(by show l.getD 0 _=_;rw[getD_eq_getElem?_getD,getElem?_eq_getElem h0];rfl)
  rw[j9];rfl
 have hR:nr l (nD ⟨#[116]⟩ row)=(if (e9 l[0] row).2≠0 then ([],(([],0),(e9 l[0] row).2)) else (l.set 0 (e9 l[0] row).1,(([],1),0)):List aO×((List (List Vl)×Int)×Int)):=by
  unfold nr;rw[if_neg (fun e=>e O),if_neg alp,hr]
 have gg:=ack g hf aQ;have mY:l[0].rows.length≤a:=I.r _ (getElem_mem h0);cases hb:(kS l[0]).any (fun r=>tg (fst r) (fst row)) with
 | true =>
  rw[hb] at gg;refine .inl ⟨rfl,?_⟩;have hi:e9 l[0] row=(l[0],9):=(by unfold e9;rw[if_neg (fun e=>e (by rw[g.ay];exact hf)),if_pos gg])
  rw[hR,hi];rfl
 | false =>
  rw[hb] at gg;have hi:(e9 l[0] row).2=0:=(by unfold e9;rw[if_neg (fun e=>e (by rw[g.ay];exact hf)),if_neg vH,if_neg w4])
  have hn:a*(1+c)≤300:=Nat.le_trans (JB E) w7;have Z:(gB l (nD ⟨#[116]⟩ row)).2.2=0:=(by rw[hr];exact hi)
  obtain⟨a',U,_,g',_,Hs⟩:=E9 I E (kR.st hg) (by rw[xL];decide) (Ko hg) (fun e=>absurd e CT) Z;have oE:=Hs CT;rw[hr] at g' oE;exact .inr ⟨rfl,(e9 l[0] row).1,a',U,by rw[hR,if_neg (fun e=>e hi)],aed g hn hf aQ hi,g',oE.trans h⟩
theorem Iv:(Tryz.prog.info? 28).map (fun i=>(i.zero,i.size,i.bytes))=some (some (.slice none 0 0),1,24):=by kernel_rfl
theorem ZE(hm:(3,marksC)∈G)(hw:(1,wordsC)∈G)(ht:(0,typesC)∈G)(hG:(2,[Value.int .i64 m])∈G)(ps:List Ph)(ig:∀p∈ps,p.Ok)(fN:ps.length≤maxLen)(Z:Int)(x01:-9223372036854775808≤Z)(x02:Z≤9223372036854775807)(x1:Int)(x11:-9223372036854775808≤x1)(x12:x1≤9223372036854775807)(sx:ByteArray)(hsx:sx.size≤maxLen)(x3:Int)(x31:-9223372036854775808≤x3)(x32:x3≤9223372036854775807):VP Tryz.prog G 4 [.list 14 (ps.flatMap Ph.cs) ps.length,ae Z,ae x1,bw sx,ae x3] (cj true):=by
 refine VC.body func4 rfl ntmps4 aR fun X0 w0 aZ=>?_;have dm:=ec;refine af [0,1,2,3,4] ?_;refine aD 1 ?_;refine OD.call ap rfl rfl rfl call9 (afH hm hw ht hG ps ig fN) ⟨ot,trivial⟩ (eO _) ?_;rintro _ _ ⟨l,a,c,rfl,rfl,gn,OJ,GW⟩;refine OD.alloc (ds:=[_]) ap rfl rfl zeroValue25 rfl (fun jN=>?_);refine aP 0 [_] sizeOf25 ?_;refine an 180 [1,2,3,4,11] ?_;refine aD 4 ?_;refine OD.call ap rfl rfl rfl call13 (aeb Z x01 x02 x1 x11 x12 sx hsx x3 x31 x32) ⟨ot,ot,ot,ot,trivial⟩ (eO _) ?_;rintro _ _ ⟨br,rfl,rfl⟩;refine OD.perm (Perm.refl _) ?_;refine aE 1 ?_;refine OD.gN (t:=12) (Sq:=[⟨br,41,12,(lC Z x1 sx x3).flatMap cV⟩]) lk (bE (g:=cV) (sz:=3) (ls:=(lC Z x1 sx x3)) (cap:=4) (by show 4≤4;decide) w7) (cr fi _) (Perm.refl _) ?_;refine an 180 [11,12] ?_;refine CD.seq ?_;have iO:=alr GW;have HW:0<l.length:=(by omega)
 have OK:1<l.length:=(by omega)
 have hg0:=gn.g.tb _ (getElem_mem HW);have HX:=FC hm hw ht hG l gn.g ⟨#[116]⟩;rw[FT (i:=0) (My GW) HW] at HX;dsimp only at HX;have OL:=FC hm hw ht hG l gn.g ⟨#[117]⟩;rw[FT (i:=1) (W8 GW) OK] at OL;dsimp only at OL;have hrf:=By hg0;have AE:=Uw Z x1 x3 sx;have yu:=ag4 Z x1 x3 sx;have GD:=(ac5 Z x1 sx x3).1;have zQ:=agp Z x1 sx x3;have Ox:(lC Z x1 sx x3).length=4:=rfl;have Ei:=afK gn OJ GW AE yu GD zQ HW;have hr:=VC.M9 (Ln hm hw ht hG gn OJ (s:=nD ⟨#[116]⟩ (lC Z x1 sx x3)) (kR.st AE) (by rw[xL];decide) (fun _=>Ko AE) (by rw[xL];decide) (fun h=>absurd h CT)) (args':=[.agg [av 5 c9 (l)],.agg [ae 3,bw ⟨#[116]⟩,cf,.list 3 ((lC Z x1 sx x3).flatMap cV) (lC Z x1 sx x3).length,cf,cj false,cf,gb,cj false,ae (-1),gb,cf]]) ⟨ev,FE ⟨ev,ev,fQ,ev,fQ,ev,fQ,ev,ev,ev,ev,fQ,trivial⟩,trivial⟩;generalize hRR:nr l (nD ⟨#[116]⟩ (lC Z x1 sx x3))=RR at Ei hr;obtain⟨X,⟨rs,k⟩,E⟩:=RR;unfold AZ at hr;dsimp only at hr;generalize (lC Z x1 sx x3)=row at Ei hr Ox GD zQ AE yu hRR ⊢;obtain⟨I,W9⟩:∃I,I=kS l[0]:=⟨_,rfl⟩
 rw[←W9] at HX Ei hrf;have hw4:∀i (h:i<I.length),0<I[i].length:=fun i h=>by subst W9;obtain⟨v,r,e,_⟩:=PG hg0 h;rw[e];exact Nat.zero_lt_succ _
 refine ie [11,12,13,14] ?_;refine dh (HX) ?_;refine bG ?_;refine aD 3 ?_;refine dQ call11 (hr) ?_;refine aE 4 ?_;refine OD.alloc (ds:=[_]) ap rfl rfl zeroValue25 rfl (fun HC=>?_);refine OD.alloc (ds:=[_,_]) ap rfl rfl zeroValue36 rfl (fun OM=>?_);refine aP 1 [_] sizeOf25 ?_;refine aP 0 [_,_] sizeOf36 ?_;refine an 180 [11,12,13,14,15,16,17] ?_;refine af [11,12,13,14,15,16,17,18] ?_;refine bY ?_;refine bg [11,12,13,14,15,16,17,18,19] ?_;refine af [11,12,13,14,15,16,17,18,19,20] ?_;refine af [11,12,13,14,15,16,17,18,19,20,21] ?_;refine eA [11,12,13,14,15,16,17] (fun aU _ (kJ:Nat×Bool×Bool×List (List Vl)×Option Addr×Nat×List ah) aH=>match kJ with|(i,th,dn,acc,dg,cR,Sx)=>(i≤I.length)∧(th=(I.take i).any (fun r=>tg (fst r) (fst row)))∧(acc++nK row dn (I.drop i)=nK row false I)∧(acc.length≤2*i)∧(bn 28 1 ((acc).flatMap fa) (acc).length dg cR Sx)∧aH=(⟨180,(18,cj th)::(19,aN dg (acc).length cR)::(20,cj dn)::(21,ae (i:Nat))::aU,(⟨OM,36,2,[av 1 fa rs,ae k]⟩::⟨HC,25,1,[av 5 c9 (X)]⟩::⟨jN,25,1,[av 5 c9 (l)]⟩::Sx)⟩:St)) (fun (kJ:Nat×Bool×Bool×List (List Vl)×Option Addr×Nat×List ah)=>match kJ with|(i,th,dn,acc,dg,cR,Sx)=>I.length-i) (0,false,false,([]:List (List Vl)),none,0,[]) ⟨(Nat.zero_le _),rfl,rfl,(Nat.zero_le _),(bn.cast iv j6),rfl⟩ ?_;rintro⟨i,th,dn,acc,dg,cR,Sx⟩ _ ⟨hi,gg,U,qb,dW,rfl⟩;refine af [11,12,13,14,15,16,17,18,19,20,21,51] ?_
 refine au ?_ ?_<;>intro aM bD
 ·have aa:i<I.length:=(by omega)
  have tq:=hw4 i aa;have mY:0<row.length:=(by omega)
  have Nk:=Vd tq;have Cm:=Vd mY;refine CD.skip ?_;refine CD.seq ?_;refine CD.block ?_;refine jB [11,12,13,14,15,16,17,19,20,21] (fun aU rN aH=>∃(HY:Bool),(HY=(th||tg (fst (I[i]'aa)) (fst row)))∧aH=(⟨180,(18,cj HY)::aU,rN⟩:St)) ?_ ?_
  ·rcases Bool.eq_false_or_eq_true th with hb|hb
   ·refine lF 13 [11,12,13,14,15,16,17,19,20,21,66] ?_;exact VS
   refine lF 13 [11,12,13,14,15,16,17,19,20,21,66] ?_;refine aS 6 ?_ (h:=by exact(oM (mk:=Op.indexAddr 28) rfl ot bI (by first|exact pD runUnderlying28 sizeOf41 (j:=0) rfl tq|exact pH runUnderlying28 sizeOf41 (j:=0) rfl tq)));refine aS 2 ?_ (h:=by exact(oM (mk:=Op.indexAddr 28) rfl ot bI (by first|exact pD runUnderlying28 sizeOf41 (j:=0) rfl mY|exact pH runUnderlying28 sizeOf41 (j:=0) rfl mY)));refine aS 1 ?_ (h:=by exact(aaW rfl ot ot eqGuardType41 (Go.Proofs.YtdgichenhdikgaaGreatDoor.Vl.F9 _ _)));exact VS
  rintro _ ⟨HY,als,rfl⟩;refine jB [11,12,13,14,15,16,17,18,21] (fun aU _ aH=>∃(HZ:Bool),∃(O:List (List Vl)),∃(qg:Option Addr),∃(ON:Nat),∃(S2:List ah),(O++((I[i]'aa)::nK row HZ (I.drop (i+1)))=nK row false I)∧(O.length≤2*i+1)∧(bn 28 1 (O.flatMap fa) O.length qg ON S2)∧aH=(⟨180,(19,aN qg O.length ON)::(20,cj HZ)::aU,(⟨OM,36,2,[av 1 fa rs,ae k]⟩::⟨HC,25,1,[av 5 c9 (X)]⟩::⟨jN,25,1,[av 5 c9 (l)]⟩::S2)⟩:St)) ?_ ?_
  ·refine CD.seq ?_;rcases Bool.eq_false_or_eq_true dn with hb|hb
   ·have jx:(!dn)=false:=(by rw[hb];rfl)
    refine cm [11,12,13,14,15,16,17,18,19,20,21,82] ?_;refine fM ?_;refine CD.skip ?_;refine⟨_,aK,_,_,dg,cR,Sx,(by rw[drop_eq_getElem_cons aa,nK] at U;rw[if_neg (fun q=>by rw[hb] at q;cases q.1)] at U;exact U),MY,dW,rfl⟩
   have jx:(!dn)=true:=(by rw[hb];rfl)
   refine ie [11,12,13,14,15,16,17,18,19,20,21,82] ?_;refine aS 7 ?_ (h:=by exact(oM (mk:=Op.indexAddr 28) rfl ot bI (by first|exact pD runUnderlying28 sizeOf41 (j:=0) rfl tq|exact pH runUnderlying28 sizeOf41 (j:=0) rfl tq)));refine aS 3 ?_ (h:=by exact(oM (mk:=Op.indexAddr 28) rfl ot bI (by first|exact pD runUnderlying28 sizeOf41 (j:=0) rfl mY|exact pH runUnderlying28 sizeOf41 (j:=0) rfl mY)));refine bG ?_;refine au ?_ ?_<;>intro aY cy
   ·refine aD 2 ?_;refine ei (bW 0 [_]) [.slice none 0 0] [_] zeroValue28 runUnderlying34 sizeOf28 (fun HD=>?_);refine fw 0 85 1 1 ?_;refine OD.ek (ls:=(acc)) (new:=[row]) (Sq:=Sx) jE Bx ap rfl rfl underlying34 Iv rfl w7 ot dW (de (A:=[_,_,_])) ot bf w9 lY (fun uH Mz alu alv=>?_);refine OD.perm (dZ (S1:=[⟨uH,28,Mz*1,flatMap fa ((acc)++[row])⟩]) (A:=[_,_,_])) ?_;refine an 180 [11,12,13,14,15,16,17,18,19,21] ?_;refine cm [11,12,13,14,15,16,17,18,19,20,21] ?_;refine⟨_,aK,_,_,(some ⟨uH,0,none⟩),Mz,[⟨uH,28,Mz*1,flatMap fa ((acc)++[row])⟩],(by rw[drop_eq_getElem_cons aa,nK] at U;rw[if_pos ⟨hb,(by rw[Nk,Cm];have:=cy;omega)⟩] at U;rw[append_assoc];exact U),MY,(bE alu alv),rfl⟩
   refine CD.skip ?_;refine⟨_,aK,_,_,dg,cR,Sx,(by rw[drop_eq_getElem_cons aa,nK] at U;rw[if_neg (fun q=>by have q2:=q.2;rw[Nk,Cm] at q2;have:=cy;omega)] at U;exact U),MY,dW,rfl⟩
  rintro _ ⟨HZ,O,qg,ON,S2,alw,aqB,pu,rfl⟩;refine dM 5 ?_;refine ei (bW 0 [_]) [.slice none 0 0] [_] zeroValue28 runUnderlying34 sizeOf28 (fun b92=>?_);refine fw 0 92 1 1 ?_;refine OD.ek (ls:=O) (new:=[(I[i]'aa)]) (Sq:=S2) jE Bx ap rfl rfl underlying34 Iv rfl w7 ot pu (de (A:=[_,_,_])) ot bf w9 lY (fun AP MA alx aly=>?_);refine OD.perm (dZ (S1:=[⟨AP,28,MA*1,flatMap fa (O++[(I[i]'aa)])⟩]) (A:=[_,_,_])) ?_;refine an 180 [11,12,13,14,15,16,17,18,19,20,21] ?_;refine cm [11,12,13,14,15,16,17,18,19,20,21] ?_;refine⟨((i+1),HY,HZ,(O++[(I[i]'aa)]),(some ⟨AP,0,none⟩),MA,[⟨AP,28,MA*1,flatMap fa (O++[(I[i]'aa)])⟩]),_,cD,aK,w4,(by rw[als,gg,take_succ_eq_append_getElem aa,any_append];simp),(by rw[append_assoc];exact alw),Ag,(bn.cast (bE alx aly) j6),rfl⟩
 have sQ:i=I.length:=(by omega)
 rw[drop_of_length_le w4] at U;rw[take_of_length_le w4] at gg;refine CD.exit ?_;refine jB [11,14,15,16,17,18] (fun aU _ aH=>∃(yC:List (List Vl)),∃(OO:Option Addr),∃(OP:Nat),∃(SF:List ah),(yC=nK row false I)∧(bn 28 1 (yC.flatMap fa) yC.length OO OP SF)∧aH=(⟨180,(19,aN OO yC.length OP)::aU,(⟨OM,36,2,[av 1 fa rs,ae k]⟩::⟨HC,25,1,[av 5 c9 (X)]⟩::⟨jN,25,1,[av 5 c9 (l)]⟩::SF)⟩:St)) ?_ ?_
 ·refine af [11,12,14,15,16,17,18,19,95] ?_;refine au ?_ ?_<;>intro bZ cN
  ·refine dM 2 ?_;refine ei (bW 0 [_]) [.slice none 0 0] [_] zeroValue28 runUnderlying34 sizeOf28 (fun b98=>?_);refine fw 0 98 1 1 ?_;refine OD.ek (ls:=(acc)) (new:=[row]) (Sq:=Sx) jE Bx ap rfl rfl underlying34 Iv rfl w7 ot dW (de (A:=[_,_,_])) ot bf w9 lY (fun yB MB alz alA=>?_);refine OD.perm (dZ (S1:=[⟨yB,28,MB*1,flatMap fa ((acc)++[row])⟩]) (A:=[_,_,_])) ?_;refine an 180 [11,14,15,16,17,18,19] ?_;refine⟨_,aK,_,(some ⟨yB,0,none⟩),MB,[⟨yB,28,MB*1,flatMap fa ((acc)++[row])⟩],(by have e:dn=false:=(by simpa using bZ);rw[e] at U;exact U),(bE alz alA),rfl⟩
  refine CD.skip ?_;refine⟨_,aK,_,dg,cR,Sx,(by have e:dn=true:=(by simpa using bZ);rw[e] at U;rw[←U];exact(append_nil _).symm),dW,rfl⟩
 rintro _ ⟨yC,OO,OP,SF,haF,hoF,rfl⟩;refine af [11,14,15,16,17,19,100] ?_;refine au ?_ ?_<;>intro cX en
 ·have hT:=gg.symm.trans cX;obtain⟨_,e⟩:=Ei.resolve_right (fun q=>by rw[q.1] at hT;cases hT);cases e;refine af [10] ?_;refine aI [] ?_;refine⟨?_,rfl⟩;first|rfl|(simp;done)
 have hF:=gg.symm.trans cX;obtain⟨_,t,a2,c2,e,aiw,Eh,Xa⟩:=Ei.resolve_left (fun q=>by rw[q.1] at hF;cases hF);cases e;have nx:0<(l.set 0 t).length:=(by rw[length_set];exact HW)
 have alB:1<(l.set 0 t).length:=(by rw[length_set];exact OK)
 have MC:=FC hm hw ht hG _ Eh.g ⟨#[116]⟩;rw[FT (i:=0) (My Xa) nx,getElem_set_self] at MC;dsimp only at MC;have MD:=FC hm hw ht hG _ Eh.g ⟨#[117]⟩;rw[FT (i:=1) (W8 Xa) alB,getElem_set_ne w7] at MD;dsimp only at MD;have AV:eD t _:=(by have:=Eh.g.tb _ (getElem_mem nx);rwa [getElem_set_self] at this)
 have hg1:=gn.g.tb _ (getElem_mem OK);have eF:yC=kS t:=haF.trans aiw.symm;have vT:=SK (G:=G) (kS t) yC (Nat.le_trans (By AV) w7) (by rw[eF];exact Nat.le_trans (By AV) w7) (Fa AV) (by rw[eF];exact Fa AV);rw[EU eF.symm] at vT;have Zc:=SK (G:=G) (kS l[1]) (kS l[1]) (Nat.le_trans (By hg1) w7) (Nat.le_trans (By hg1) w7) (Fa hg1) (Fa hg1);rw[EU rfl] at Zc;refine af [11,14,15,16,17,19,114] ?_;refine au ?_ ?_<;>intro er fq
 ·exact absurd er (by simp at er)
 refine cJ [11,14,15,16,17,19,22,23] (MC) ?_;refine cJ [11,14,16,17,19,22,23,24,25] (MD) ?_;refine cJ [14,16,17,19,22,23,24,25,26,27] (OL) ?_;refine aD 26 ?_;refine OD.gN (t:=172) (Sq:=SF) lk hoF (cr jE _) (de (A:=[_,_,_])) ?_;refine OD.gM gW rfl rfl rfl call15 (vT) ⟨ot,ot,trivial⟩ ?_;refine aE 4 ?_;refine OD.gM gW rfl rfl rfl call15 (Zc) ⟨ot,ot,trivial⟩ ?_;refine an 180 [10] ?_;refine aI [] ?_;refine⟨?_,rfl⟩;first|rfl|(simp;done)
theorem walkInsertOne(l:List Ph)(v:Value)(ok:(∀x∈l,x.Ok)∧l.length≤maxLen)(U:Int)(E:(Lit.int .i64 U).wf=true)(Z:Int)(I:(Lit.int .i64 Z).wf=true)(sx:ByteArray)(wsx:sx.size≤maxLen)(x3:Int)(O:(Lit.int .i64 x3).wf=true)(w:World)(h1:MarksTab w)(h2:WordsTab w)(h3:TypesTab w){m:Int}(hm:Tab.mI w 2 [Value.int .i64 m])(hv:cq w (fun _=>False) (.list 14 (l.flatMap Ph.cs) l.length) v):Calls Tryz.prog 4 #[v,.int .i64 U,.int .i64 Z,.string sx,.int .i64 x3] w fun e w'=>e = .returned (.bool true)∧Below w.heap.size w w' :=
 (ZE (G:=A4 m) tm1 tm2 tm3 tm4 l ok.1 ok.2 U (wY E).1 (wY E).2 Z (wY I).1 (wY I).2 sx wsx x3 (wY O).1 (wY O).2).aiM (alq h1 h2 h3 hm) (vs:=[v,_,_,_,_]) (cQ.cons hv (cQ.vs w _ [_,_,_,_]))

end Go.Proofs.YtdgichenhdikgaaGreatDoor.Ba
