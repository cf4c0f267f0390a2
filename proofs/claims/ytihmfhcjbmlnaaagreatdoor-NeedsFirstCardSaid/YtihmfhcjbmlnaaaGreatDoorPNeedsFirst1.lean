/-
  NeedsFirst: walks and plain facts.
-/
import Derived.Test.YtihmfhcjbmlnaaaGreatDoorPNA9
set_option linter.unusedVariables false
set_option linter.unusedSimpArgs false
set_option maxRecDepth 100000
set_option maxHeartbeats 4000000
namespace Go.Proofs.YtihmfhcjbmlnaaaGreatDoor
open List
namespace Pa
open Go.Proofs.Tryz
open Go.RowKit V Pk Vl Go.Proofs.YtihmfhcjbmlnaaaGreatDoor.Nm Pc
variable {G:List (Nat×List Value)}
theorem Zp:∀x∈[⟨#[115]⟩,⟨#[105,100]⟩,⟨#[110]⟩],dH x=0:=by decide +kernel
end Pa
namespace Pa
open Go.Proofs.Tryz
open Go.RowKit V Pk Go.Proofs.YtihmfhcjbmlnaaaGreatDoor.Vl Go.Proofs.YtihmfhcjbmlnaaaGreatDoor.Nm Go.Proofs.YtihmfhcjbmlnaaaGreatDoor.Pc
section
variable {H:Type} {enc:TypeId×Value->H} {P:Program} {w:World} {base:Nat} {sp:Nat->Bool} {held:Bool}
end
theorem rd_phrase{H:Type}{enc:TypeId×Value->H}{w:World}{base E:Nat}{sp:Nat->Bool}{held:Bool}{v:Value}{d:DataW H}{p:List MemPlace}(hval:Value.okWide Tryz.prog w .any E 62 v)(h:DataW.Trod enc Tryz.prog w base sp held 62 v d p) :
  ∃t:Ph,cG w (fun _=>False) (.agg t.cs) v/\t.Ok/\True:=YS underlying62 Mc hval h
end Pa
namespace Ba
open Go.Proofs.Tryz
open Go.RowKit V Pk Tr Vl Go.Proofs.YtihmfhcjbmlnaaaGreatDoor.Nm Pc Cd Ex Tw
open Pa (aT aY dJ bZ cY cZ dA dO dr bN bJ Ph)
variable {G:List (Nat×List Value)} {m:Int}
variable {row:List Vl}
theorem Np(l:List aA)(s:aT):(∃e,kK l s=(([],(([],0),e)):List aA×((List (List Vl)×Int)×Int))/\e≠0)\/(kK l s=((gz l s).1,((gz l s).2.1,0))/\(gz l s).2.2=0):=by
 exact z84
open Pa (mA mF oR zD xJ uI gA q8) in
theorem Jd(k t a b:Int)(row:List Vl)(tz:Tw):q8 (mF k t a b row tz):=by
 exact z27
open Pa (mA mF oR) in
theorem OU(k t a b:Int)(row:List Vl)(tz wh:Tw)(bare:Bool):cY (mA k t a b row tz wh bare)/\(mA k t a b row tz wh bare).kind=1+cN k 6/\(mA k t a b row tz wh bare).table=oR t:=by
 have h:=Jd k t a b row tz;have hk:(mF k t a b row tz).kind=1+cN k 6/\(mF k t a b row tz).table=oR t:=by
  unfold mF;split
  ·rename_i h;exact⟨by rw[h],rfl⟩
  split
  ·rename_i h;exact⟨by rw[h],rfl⟩
  split
  ·rename_i h;exact⟨by rw[h],rfl⟩
  split
  ·rename_i h;exact⟨by rw[h],rfl⟩
  exact⟨rfl,rfl⟩
 unfold mA;split
 ·rename_i hq;exact⟨h.2 (iP 3 wh) (Pa.El _) (.inl hq.1),hk⟩
 exact⟨h.wL,hk⟩
theorem OV{k t a b:Int}{O U:Int}{Z:ByteArray}{E:List Tw}{y1 y2:Int}{y3:ByteArray}{I:List Tw}{bare:Bool}(h:Ph.Ok ⟨k,t,a,b,row,⟨O,U,Z,E⟩,⟨y1,y2,y3,I⟩,bare⟩) :
  VP Tryz.prog G 18 [.agg [ae k,ae t,ae a,ae b,aj 3 cV row,ae O,ae U,aG Z,.list 4 (Tw.mz E) E.length,ae y1,ae y2,aG y3,.list 4 (Tw.mz I) I.length,aW bare]] (.agg (aY (Pa.mA k t a b row ⟨O,U,Z,E⟩ ⟨y1,y2,y3,I⟩ bare))) :=
 (Pa.LI k t a b row O U Z E y1 y2 y3 I bare h.k.1 h.k.2 h.t.1 h.t.2 h.a.1 h.a.2 h.b.1 h.b.2 h.row h.bG h.wh).mono fun r S' ⟨s,h1,h2,_,_,_,h6⟩=>⟨by rw[h1,h6],h2⟩
theorem OW{k t a b:Int}{p q:Tw}{bare:Bool}(h:Ph.Ok ⟨k,t,a,b,row,p,q,bare⟩){k':Int}(h1:-9223372036854775808<=k')(h2:k'<=9223372036854775807):Ph.Ok ⟨k',0,a,b,row,p,q,bare⟩:=⟨⟨h1,h2⟩,⟨by show(-9223372036854775808:Int)<=0;decide,by show(0:Int)<=9223372036854775807;decide⟩,h.a,h.b,h.row,h.bG,h.wh⟩
theorem Q3:Pa.oR 0=⟨#[116]⟩:=by decide +kernel
end Ba
namespace Ba
open Go.Proofs.Tryz
open Go.RowKit V Pk Tr Vl Go.Proofs.YtihmfhcjbmlnaaaGreatDoor.Nm Pc Cd Ex Tw
open Pa (aT aY dJ bZ cY cZ dA dO dr bN bJ Ph)
open Go.Lib (compareBytes)
theorem MJ{l:List aA}(h:l.map aA.nm=bJ)(h0:0<l.length){s:aT}(k1:¬s.kind=1)(ht:s.table=⟨#[116]⟩)(hf:iy l[0] s=true):(kK l s).2.2≠0:=by
 exact z12
end Ba
namespace Ba
open Go.Proofs.Tryz
open Go.RowKit V Pk Tr Vl Go.Proofs.YtihmfhcjbmlnaaaGreatDoor.Nm Pc Cd Ex Tw
open Pa (aT aY dJ bZ cY cZ dA dO dr bN bJ Ph)
variable {G:List (Nat×List Value)} {m:Int}
theorem sY:tB ⟨#[116]⟩=⟨#[116,116]⟩:=by decide +kernel
theorem Nn{s:aT}(hg:cY s)(hc:bZ s≠0):bZ s=10:=by
 unfold bZ at hc |-;rw[if_neg (by have:=hg.2.1;have:=hg.2.2.1;omega),if_neg (fun e=>e hg.2.2.2.2)] at hc |-;split
 ·rfl
 rename_i h;rw[if_neg h] at hc;exact absurd rfl hc
theorem ahN{l:List aA}{h0:0<l.length}{s:aT}(ht:s.table=⟨#[116]⟩):∃m1 L,sX l[0] s=⟨⟨#[116,116]⟩,m1⟩::L:=by
 unfold sX;rw[ht,sY];split
 ·exact⟨_,_,rfl⟩
 split
 ·exact⟨_,_,rfl⟩
 exact⟨_,_,rfl⟩
theorem afs{l:List aA}(h:l.map aA.nm=bJ)(h0:0<l.length){s:aT}(hg:cY s)(ht:s.table=⟨#[116]⟩):(∃L,gE l s=(L,10))\/(s.kind<=2/\gE l s=([⟨⟨#[]⟩,5⟩],0))\/(3<=s.kind/\gE l s=([⟨⟨#[]⟩,1⟩],0)/\(kK l s).2.2≠0)\/(3<=s.kind/\∃m1 L,gE l s=(⟨⟨#[]⟩,1⟩::⟨⟨#[116,116]⟩,m1⟩::L,0)):=by
 have k1:=hg.2.1;have E:=hg.2.2.1;by_cases hc:bZ s=0
 ·by_cases k2:s.kind<=2
  ·refine .inr (.inl ⟨k2,?_⟩);unfold gE;rw[if_neg (fun e=>e hc),if_neg w4,if_pos k2]
  have hn:=BM h h0 ht hc w4 E;by_cases hf:iy l[0] s=true
  ·rw[if_pos hf] at hn;exact .inr (.inr (.inl ⟨by omega,hn,MJ h h0 w4 ht hf⟩))
  rw[if_neg hf] at hn;obtain⟨m1,L,e⟩:=ahN (h0:=h0) ht;rw[e] at hn;exact .inr (.inr (.inr ⟨by omega,m1,L,hn⟩))
 refine .inl ⟨[],?_⟩;unfold gE;rw[if_pos hc,Nn hg hc]
theorem aeI(hm:(3,marksC)∈G)(hw:(1,wordsC)∈G)(ht:(0,typesC)∈G)(hG:(2,[Value.int .i64 m])∈G)(ps:List Ph)(gv:∀p∈ps,p.Ok)(fC:ps.length<=maxLen)(p:Ph)(U:p.Ok):VP Tryz.prog G 7 [.list 14 (ps.flatMap Ph.cs) ps.length,.agg p.cs] (aW true):=by
 refine bA func7 rfl ntmps7 aO fun X0 w0 bz=>?_;have dy:=ee;obtain⟨k,t,pa,pb,row,⟨x1,x2,x3,Z⟩,⟨y1,y2,y3,Ds⟩,bare⟩:=p;simp only[Ph.cs,Tw.cs,cons_append,nil_append];refine cq ?_;refine dm [_,_,_,_,_,_,_,_,_,_,_,_,_,_] (fun b3=>?_);refine ap 88 [0,3] ?_;refine az 1 ?_;refine eH au rfl rfl rfl call10 (zq hm hw ht hG ps gv fC) ⟨ot,trivial⟩ (fj _) ?_;rintro _ _ ⟨l,a,c,rfl,rfl,gn,Bf,O⟩;refine cD (ds:=[_]) au rfl rfl zeroValue25 rfl (fun b5=>?_);refine aN 0 [_] sizeOf25 ?_;refine ap 88 [3,5] ?_;refine cL ?_;have hU:=At O;have pi:0<l.length:=(by omega)
 obtain⟨I,nN,nO⟩:=OU k 0 pa pb row ⟨x1,x2,x3,Z⟩ ⟨y1,y2,y3,Ds⟩ bare;rw[Q3] at nO;have ff:=OV (G:=G) (OW (k':=k) U U.k.1 U.k.2);generalize Pa.mA k 0 pa pb row ⟨x1,x2,x3,Z⟩ ⟨y1,y2,y3,Ds⟩ bare=s at ff I nO;have hn:=tX hm hw ht hG l gn.g s (cY.st I);have hd:=afs O pi I nO;have hr:=fun (h:¬s.kind=2) (h1:¬s.kind=1)=>ES hm hw ht hG gn Bf (cY.st I) h (fun _=>YB I) I.2.2.1 (fun e=>absurd e h1);unfold qL at hr;generalize gE l s=N at hn hd;generalize kK l s=R at hr hd;obtain⟨ns,e⟩:=N;obtain⟨X,⟨rs,k1⟩,E⟩:=R;dsimp only at hn hr;unfold aY at ff hn hr;refine dB 1 ?_;refine aN 1 [_,_,_,_,_,_,_,_,_,_,_,_,_,_] sizeOf3 ?_;refine ap 88 [3,5] ?_;refine az 1 ?_;refine dK call18 (ff) ?_;refine cD (ds:=[_,_,_,_,_,_,_,_,_,_,_,_]) au rfl rfl zeroValue34 rfl (fun b6=>?_);refine aN 0 [_,_,_,_,_,_,_,_,_,_,_,_] sizeOf34 ?_;refine ap 88 [5,6] ?_;refine cW [5,6,7,8] (hn) ?_;refine cL ?_;refine cL ?_;rcases hd with ⟨L,hq⟩|⟨fD,hq⟩|⟨gX,hq,hE⟩|⟨gX,m1,L,hq⟩
 ·obtain⟨rfl,rfl⟩:=Prod.mk.inj hq;refine bM [5,6,7,8,24] ?_;refine bX ?_ ?_<;>intro aP bH
  ·exact z148
  exact z87
 ·obtain⟨rfl,rfl⟩:=Prod.mk.inj hq;have iU:0<[(⟨⟨#[]⟩,5⟩:bq)].length:=(by show 0<1;decide)
  rcases Bool.eq_false_or_eq_true (s.kind==1) with hb|hb
  ·refine bM [5,6,7,8,24] ?_;refine bX ?_ ?_<;>intro aP bH
   ·exact z87
   refine cJ [5,6,7,38] ?_;refine aM 9 ?_ (h:=Au);refine bB ?_;refine bX ?_ ?_<;>intro bg cM
   ·exact wJ
   refine ay [5,6,7,46] ?_;refine fu ?_;exact z93
  have hk:s.kind=2:=(by have:=I.2.1;have h9:¬s.kind=1:=(by simpa using hb);omega)
  refine bM [5,6,7,8,24] ?_;refine bX ?_ ?_<;>intro aP bH
  ·exact z87
  refine cJ [5,6,7,38] ?_;refine aM 9 ?_ (h:=Au);refine bB ?_;refine bX ?_ ?_<;>intro bg cM
  ·exact wJ
  refine ax [5,6,7,46] ?_ ?_<;>intro cl di
  ·exact z93
  exact absurd cl (by simp[hk] at cl)
 ·obtain⟨rfl,rfl⟩:=Prod.mk.inj hq;have iU:0<[(⟨⟨#[]⟩,1⟩:bq)].length:=(by show 0<1;decide)
  have KS:(E != 0)=true:=bne_iff_ne.2 hE;have iI:(s.kind==1)=false:=beq_eq_false_iff_ne.2 w4;have hr:=hr w4 w4;refine bM [5,6,7,8,24] ?_;refine bX ?_ ?_<;>intro aP bH
  ·exact z87
  refine cJ [5,6,7,38] ?_;refine aM 9 ?_ (h:=Au);refine bB ?_;refine bX ?_ ?_<;>intro bg cM
  ·exact wJ
  refine ax [5,6,7,46] ?_ ?_<;>intro cl di
  ·exact absurd cl (by (simp at cl;omega))
  refine az 2 ?_;refine dK call17 (hr) ?_;refine aF 4 ?_;refine cD (ds:=[_]) au rfl rfl zeroValue25 rfl (fun b9=>?_);refine cD (ds:=[_,_]) au rfl rfl zeroValue54 rfl (fun kr=>?_);refine aN 1 [_] sizeOf25 ?_;refine aN 0 [_,_] sizeOf54 ?_;refine ap 88 [7,11] ?_;refine cJ [7,11,80] ?_;refine aM 1 ?_ (h:=Au);refine bB ?_;refine gK ?_;exact z148
 obtain⟨rfl,rfl⟩:=Prod.mk.inj hq;have iU:0<((⟨⟨#[]⟩,1⟩:bq)::⟨⟨#[116,116]⟩,m1⟩::L).length:=(by rw[length_cons];omega)
 have eY:1<((⟨⟨#[]⟩,1⟩:bq)::⟨⟨#[116,116]⟩,m1⟩::L).length:=(by rw[length_cons,length_cons];omega)
 have f0:((((((⟨⟨#[]⟩,1⟩:bq)::⟨⟨#[116,116]⟩,m1⟩::L)).length:Nat):Int)==0)=false:=beq_eq_false_iff_ne.2 (by rw[length_cons];omega);have f1:decide (((((⟨⟨#[]⟩,1⟩:bq)::⟨⟨#[116,116]⟩,m1⟩::L).length:Nat):Int)>1)=true:=decide_eq_true w4;have iI:(s.kind==1)=false:=beq_eq_false_iff_ne.2 w4;have hr:=hr w4 w4;refine bM [5,6,7,8,24] ?_;refine bX ?_ ?_<;>intro aP bH
 ·exact z87
 refine cJ [5,6,7,38] ?_;refine aM 9 ?_ (h:=Au);refine bB ?_;refine bX ?_ ?_<;>intro bg cM
 ·exact wJ
 refine ax [5,6,7,46] ?_ ?_<;>intro cl di
 ·exact absurd cl (by (simp at cl;omega))
 refine az 2 ?_;refine dK call17 (hr) ?_;refine aF 4 ?_;refine cD (ds:=[_]) au rfl rfl zeroValue25 rfl (fun b9=>?_);refine cD (ds:=[_,_]) au rfl rfl zeroValue54 rfl (fun kr=>?_);refine aN 1 [_] sizeOf25 ?_;refine aN 0 [_,_] sizeOf54 ?_;refine ap 88 [7,11] ?_;refine cJ [7,11,80] ?_;refine aM 1 ?_ (h:=Au);refine aM 9 ?_ (h:=ZT);refine bB ?_;refine bX ?_ ?_<;>intro da eP
 ·exact absurd da (by simp at da)
 refine dS [4] [] ?_;refine⟨?_,rfl⟩;first|rfl|exact congrArg (fun b=>D.v (.bool b)) KS
theorem walkNeedsFirst(l:List Ph)(v:Value)(ok:(∀x∈l,x.Ok)/\l.length<=maxLen)(p:Ph)(E:Value)(I:p.Ok)(w:World)(h1:MarksTab w)(h2:WordsTab w)(h3:TypesTab w){m:Int}(hm:Tab.lS w 2 [Value.int .i64 m])(hv:cG w (fun _=>False) (.list 14 (l.flatMap Ph.cs) l.length) v)(O:cG w (fun _=>False) (.agg p.cs) E):Calls Tryz.prog 7 #[v,E] w fun e w'=>e = .returned (.bool true)/\Below w.heap.size w w' :=
 (aeI (G:=tM m) Bg Bh Bi Bj l ok.1 ok.2 p I).Ae (As h1 h2 h3 hm) (vs:=[v,E]) (cX.cons hv (cX.cons O (cX.vs w _ [])))
end Ba
end Go.Proofs.YtihmfhcjbmlnaaaGreatDoor
