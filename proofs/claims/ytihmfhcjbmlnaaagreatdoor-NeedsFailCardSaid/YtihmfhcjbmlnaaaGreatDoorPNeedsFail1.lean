/-
  NeedsFail: walks and plain facts.
-/
import Derived.Test.YtihmfhcjbmlnaaaGreatDoorPNA9
set_option linter.unusedVariables false
set_option linter.unusedSimpArgs false
set_option maxRecDepth 100000
set_option maxHeartbeats 4000000
namespace Go.Proofs.YtihmfhcjbmlnaaaGreatDoor
open List
namespace Ba
open Go.Proofs.Tryz
open Go.RowKit V Pk Tr Vl Go.Proofs.YtihmfhcjbmlnaaaGreatDoor.Nm Pc Cd Ex Tw
open Pa (aT aY dJ bZ cY cZ dA dO dr bN bJ Ph)
section
variable {G:List (Nat×List Value)} {m:Int}
theorem YF{l:List aA}(h:l.map aA.nm=bJ):aC l ⟨#[110,111,110,101]⟩<0:=by
 unfold aC;rw[xq (k:=l.length) w4 (fun x hx=>?_)]
 ·decide
 rw[take_of_length_le (Nat.le_refl _)] at hx;have:x.nm∈bJ:=h ▸ mem_map_of_mem hx;have key:∀y∈bJ,(y.toList==(⟨#[110,111,110,101]⟩:ByteArray).toList)=false:=(by decide +kernel)
 exact key _ this
def iR(w:List aQ):aT:={bN with kind:=4,table:=⟨#[116]⟩,ah:=w}
theorem Np(l:List aA)(s:aT):(∃e,kK l s=(([],(([],0),e)):List aA×((List (List Vl)×Int)×Int))/\e≠0)\/(kK l s=((gz l s).1,((gz l s).2.1,0))/\(gz l s).2.2=0):=by
 exact z84
end
section
def FH(w:List aQ):aT:={bN with kind:=6,table:=⟨#[116]⟩,ah:=w}
open Go.Lib (compareBytes)
theorem MJ{l:List aA}(h:l.map aA.nm=bJ)(h0:0<l.length){s:aT}(k1:¬s.kind=1)(ht:s.table=⟨#[116]⟩)(hf:iy l[0] s=true):(kK l s).2.2≠0:=by
 exact z12
end
variable {G:List (Nat×List Value)} {m:Int}
theorem x8(E I:ByteArray)(m1 O:Int):∀w,(Op.equalIn 10000 44 (.agg [.string E,.int .i64 m1].toArray) (.agg [.string I,.int .i64 O].toArray)).run Tryz.prog w = .ok (E.toList==I.toList&&m1==O) w:=fun w=>by
 have hS:Tryz.prog.underlying 44=some (.struct (Tryz.prog.fieldsOf 44)):=(by kernel_rfl)
 have hp:Tryz.prog.stoodInHeld 44=false:=(by kernel_rfl)
 rw[show(10000:Nat)=9999+1 from rfl,run_equalIn_agg w 9999 44 _ _ hS hp];have u:=underlying44;have U:=underlying3;have Z:=underlying9;have a3:=isAgg3;have a9:=isAgg9;have z3:=sizeOf3;have z9:=sizeOf9;simp only[Program.fieldsOf,u];go_simp
 by_cases h1:E.toList=I.toList<;>by_cases h2:m1=O<;>simp[h1,h2]
theorem u0(a:ByteArray)(p:Int):(a.toList==a.toList&&p==p)=true:=by simp
def FI:aT:={bN with kind:=5,table:=⟨#[116]⟩,set:=⟨#[110]⟩,bG:=[⟨1,aX,⟨#[]⟩⟩]}
def wO:aT:={bN with kind:=8}
def Ey(c:List dc)(s:aT):Bool :=
 if s.kind=3 then (Pc.dV c s.row != 0)
 else if s.kind=4/\((s.names.any fun x=>decide (bE c x<0))=true\/(¬s.order=⟨#[]⟩/\bE c s.order<0)) then true
 else if s.kind=5/\(bE c s.set<0\/(dZ c s.bG).2≠0\/((dZ c s.bG).1≠0/\(dZ c s.bG).1≠(c.getD (bE c s.set).toNat ⟨⟨#[]⟩,0⟩).k)) then true
 else ((eG c s.ah).2 != 0)
theorem Of(t:aA)(s:aT):iy t s=Ey t.an s:=rfl
def wi:List aT:=[iR [],FH [],FI]
def vj:List aT:=[{bN with kind:=4,table:=⟨#[110,111,110,101]⟩},{bN with kind:=4,table:=⟨#[116]⟩,names:=[⟨#[110,111,110,101]⟩]},{bN with kind:=4,table:=⟨#[116]⟩,order:=⟨#[110,111,110,101]⟩},{bN with kind:=3,table:=⟨#[116]⟩,row:=[aX]},{bN with kind:=5,table:=⟨#[116]⟩,set:=⟨#[110,111,110,101]⟩,bG:=[⟨1,aX,⟨#[]⟩⟩]},{bN with kind:=5,table:=⟨#[116]⟩,set:=⟨#[110]⟩,bG:=[⟨2,aX,⟨#[115]⟩⟩]},{bN with kind:=6,table:=⟨#[116]⟩,ah:=[⟨2,aX,⟨#[105,100]⟩⟩]}]
theorem YG:∀s∈vj,bZ s=0/\3<=s.kind/\s.kind<=6/\(s.table=⟨#[110,111,110,101]⟩\/(s.table=⟨#[116]⟩/\Ey cx s=true)):=by decide +kernel
theorem Uo:∀s∈wi++vj++[wO],(s.an.length<=6/\s.row.length<=6/\s.names.length<=6/\s.ah.length<=40/\s.bG.length<=40)/\s.table.size<=100/\s.an.length=0/\(∀x∈s.names,x.size<=100)/\s.order.size<=100/\s.set.size<=100/\(∀v∈s.row,(v.k=0/\v.n=0/\v.s.size=0))/\(∀o∈s.ah,(o.v.k=0/\o.v.n=0/\o.v.s.size=0)/\o.nm.size<=100)/\(∀o∈s.bG,(o.v.k=0/\o.v.n=0/\o.v.s.size=0)/\o.nm.size<=100):=by decide +kernel
theorem BH{s:aT}(h:s∈wi++vj++[wO]):uG s:=by
 exact z48
theorem ahI{l:List aA}{a c:Nat}(gn:mZ l a c)(h:l.map aA.nm=bJ)(h0:0<l.length){s:aT}(hs:s∈vj):gE l s=([⟨⟨#[]⟩,1⟩],0)/\(kK l s).2.2≠0:=by
 have g:=gn.g.tb _ (getElem_mem h0);obtain⟨a1,a2,a3,a4⟩:=YG s hs;rcases a4 with a4|⟨a4,a5⟩
 ·refine⟨?_,?_⟩
  ·unfold gE;rw[if_neg (fun e=>e a1),if_neg w4,if_neg w4,if_pos (by rw[a4];exact YF h)]
  rcases Np l s with ⟨e,h1,h2⟩|⟨_,hz⟩
  ·rw[h1];exact h2
  exfalso;unfold gz at hz;rw[if_neg w4,if_pos (by rw[a4];exact YF h)] at hz;cases hz
 have hf:iy l[0] s=true:=(by rw[Of,g.an];exact a5)
 exact⟨by rw[BM h h0 a4 a1 a2 a3,if_pos hf],MJ h h0 w4 a4 hf⟩
theorem ahJ:∀s∈vj,dH s.table=0:=by decide +kernel
theorem y7(hm:(3,marksC)∈G)(hw:(1,wordsC)∈G)(ht:(0,typesC)∈G)(hG:(2,[Value.int .i64 m])∈G){l:List aA}{a c:Nat}(gn:mZ l a c)(E:a+c<=30)(h:l.map aA.nm=bJ)(h0:0<l.length){s:aT}(hs:s∈vj):VP Tryz.prog G 12 [.agg [aj 5 cr (l)],.agg (aY s)] (.dF [.list 2 ([(⟨⟨#[]⟩,1⟩:bq)].flatMap lp) 1,ae 0])/\∃R,VP Tryz.prog G 17 [.agg [aj 5 cr (l)],.agg (aY s)] (qL R)/\R.2.2≠0:=by
 obtain⟨a1,a2,a3,a4⟩:=YG s hs;obtain⟨e1,e2⟩:=ahI gn h h0 hs;have ff:=BH (mem_append_left _ (mem_append_right wi hs));refine⟨?_,kK l s,ES hm hw ht hG gn E ff w4 (fun _=>ahJ s hs) a3 (fun e=>by omega),e2⟩;have hn:=tX hm hw ht hG l gn.g s ff;rw[e1] at hn;exact hn
theorem aeY(hm:(3,marksC)∈G)(hw:(1,wordsC)∈G)(ht:(0,typesC)∈G)(hG:(2,[Value.int .i64 m])∈G)(ps:List Ph)(gv:∀p∈ps,p.Ok)(fC:ps.length<=maxLen)(q:Int)(q1:-9223372036854775808<=q)(q2:q<=9223372036854775807):VP Tryz.prog G 6 [.list 14 (ps.flatMap Ph.cs) ps.length,ae q] (aW true):=by
 refine bA func6 rfl ntmps6 aO fun X0 w0 bz=>?_;have dy:=ee;have FP:=iK q (show(1:Int)<=7 by decide);have U:=jU G q 7 q1 q2 w7;generalize cN q 7=kk at FP U;have vI:kk=0\/kk=1\/kk=2\/kk=3\/kk=4\/kk=5\/kk=6:=(by omega)
 refine ay [0,1] ?_;refine az 1 ?_;refine eH au rfl rfl rfl call10 (zq hm hw ht hG ps gv fC) ⟨ot,trivial⟩ (fj _) ?_;rintro _ _ ⟨l,a,c,rfl,rfl,gn,Z,O⟩;refine cD (ds:=[_]) au rfl rfl zeroValue25 rfl (fun b5=>?_);refine aN 0 [_] sizeOf25 ?_;refine ap 70 [1,5] ?_;have hU:=At O;have pi:0<l.length:=(by omega)
 have f1:=u0 ⟨#[]⟩ 1;refine ay [1,5,6] ?_;refine iM [5] (fun aU _ aE=>∃(b7:Nat),∃(c0:D),∃(c1:D),∃(c2:D),∃(c3:D),∃(c4:D),∃(c5:D),∃(c6:D),∃(c7:D),∃(c8:D),∃(c9:D),∃(Lz:D),∃(LC:D),∃(X:List aA),∃(rs:List (List Vl)),∃(k1:Int),∃(E:Int),(VP Tryz.prog G 12 [.agg [aj 5 cr (l)],.agg [c0,c1,c2,c3,c4,c5,c6,c7,c8,c9,Lz,LC]] (.dF [.list 2 ([(⟨⟨#[]⟩,1⟩:bq)].flatMap lp) 1,ae 0]))/\(VP Tryz.prog G 17 [.agg [aj 5 cr (l)],.agg [c0,c1,c2,c3,c4,c5,c6,c7,c8,c9,Lz,LC]] (.dF [.agg [aj 5 cr X],.agg [aj 1 eX rs,ae k1],ae E]))/\(E≠0)/\aE=(⟨70,(7,dw b7)::aU,[⟨b7,34,12,[c0,c1,c2,c3,c4,c5,c6,c7,c8,c9,Lz,LC]⟩,⟨b5,25,1,[aj 5 cr (l)]⟩]⟩:St)) ?_ ?_
 ·rcases vI with rfl|rfl|rfl|rfl|rfl|rfl|rfl
  ·obtain⟨b1,R,b2,b3⟩:=y7 hm hw ht hG gn Z O pi (s:={bN with kind:=4,table:=⟨#[110,111,110,101]⟩}) zN;have dQ:=VC.lK b1 (args':=[.agg [aj 5 cr (l)],.agg [ae 4,aG ⟨#[110,111,110,101]⟩,aJ,aJ,aJ,aW false,aJ,dj,aW false,ae (-1),dj,aJ]]) ⟨aH,kW ⟨aH,aH,bQ,bQ,bQ,aH,bQ,aH,aH,aH,aH,bQ,trivial⟩,trivial⟩;have I:=VC.lK b2 (args':=[.agg [aj 5 cr (l)],.agg [ae 4,aG ⟨#[110,111,110,101]⟩,aJ,aJ,aJ,aW false,aJ,dj,aW false,ae (-1),dj,aJ]]) ⟨aH,kW ⟨aH,aH,bQ,bQ,bQ,aH,bQ,aH,aH,aH,aH,bQ,trivial⟩,trivial⟩;clear b1 b2;unfold qL at I;obtain⟨X,⟨rs,k1⟩,E⟩:=R;dsimp only at I b3;refine dB 4 ?_;refine dK call11 (U) ?_;refine bS (ei 12 (h:=vz)) ?_;refine aF 1 ?_;refine cD (ds:=[_,_,_,_,_,_,_,_,_,_,_,_]) au rfl rfl zeroValue34 rfl (fun b7=>?_);refine aN 0 [_,_,_,_,_,_,_,_,_,_,_,_] sizeOf34 ?_;refine ap 70 [5,7] ?_;refine⟨_,aL,b7,(ae 4),(aG ⟨#[110,111,110,101]⟩),(aJ),(aJ),(aJ),(aW false),(aJ),(dj),(aW false),(ae (-1)),(dj),(aJ),X,rs,k1,E,dQ,I,b3,rfl⟩
  ·obtain⟨b1,R,b2,b3⟩:=y7 hm hw ht hG gn Z O pi (s:={bN with kind:=4,table:=⟨#[116]⟩,names:=[⟨#[110,111,110,101]⟩]}) zN;have dQ:=VC.lK b1 (args':=[.agg [aj 5 cr (l)],.agg [ae 4,aG ⟨#[116]⟩,aJ,aJ,.list 1 ([(⟨#[110,111,110,101]⟩:ByteArray)].flatMap cS) 1,aW false,aJ,dj,aW false,ae (-1),dj,aJ]]) ⟨aH,kW ⟨aH,aH,bQ,bQ,aH,aH,bQ,aH,aH,aH,aH,bQ,trivial⟩,trivial⟩;have I:=VC.lK b2 (args':=[.agg [aj 5 cr (l)],.agg [ae 4,aG ⟨#[116]⟩,aJ,aJ,.list 1 ([(⟨#[110,111,110,101]⟩:ByteArray)].flatMap cS) 1,aW false,aJ,dj,aW false,ae (-1),dj,aJ]]) ⟨aH,kW ⟨aH,aH,bQ,bQ,aH,aH,bQ,aH,aH,aH,aH,bQ,trivial⟩,trivial⟩;clear b1 b2;unfold qL at I;obtain⟨X,⟨rs,k1⟩,E⟩:=R;dsimp only at I b3;refine dB 4 ?_;refine dK call11 (U) ?_;refine bS (ei 12 (h:=vz)) ?_;refine aF 1 ?_;refine cD (ds:=[_,_,_,_,_,_,_,_,_,_,_,_]) au rfl rfl zeroValue34 rfl (fun b7=>?_);refine aN 0 [_,_,_,_,_,_,_,_,_,_,_,_] sizeOf34 ?_;refine ap 70 [5,7] ?_;refine⟨_,aL,b7,(ae 4),(aG ⟨#[116]⟩),(aJ),(aJ),(.list 1 ([(⟨#[110,111,110,101]⟩:ByteArray)].flatMap cS) 1),(aW false),(aJ),(dj),(aW false),(ae (-1)),(dj),(aJ),X,rs,k1,E,dQ,I,b3,rfl⟩
  ·obtain⟨b1,R,b2,b3⟩:=y7 hm hw ht hG gn Z O pi (s:={bN with kind:=4,table:=⟨#[116]⟩,order:=⟨#[110,111,110,101]⟩}) zN;have dQ:=VC.lK b1 (args':=[.agg [aj 5 cr (l)],.agg [ae 4,aG ⟨#[116]⟩,aJ,aJ,aJ,aW false,aJ,aG ⟨#[110,111,110,101]⟩,aW false,ae (-1),dj,aJ]]) ⟨aH,kW ⟨aH,aH,bQ,bQ,bQ,aH,bQ,aH,aH,aH,aH,bQ,trivial⟩,trivial⟩;have I:=VC.lK b2 (args':=[.agg [aj 5 cr (l)],.agg [ae 4,aG ⟨#[116]⟩,aJ,aJ,aJ,aW false,aJ,aG ⟨#[110,111,110,101]⟩,aW false,ae (-1),dj,aJ]]) ⟨aH,kW ⟨aH,aH,bQ,bQ,bQ,aH,bQ,aH,aH,aH,aH,bQ,trivial⟩,trivial⟩;clear b1 b2;unfold qL at I;obtain⟨X,⟨rs,k1⟩,E⟩:=R;dsimp only at I b3;refine dB 4 ?_;refine dK call11 (U) ?_;refine bS (ei 12 (h:=vz)) ?_;refine aF 1 ?_;refine cD (ds:=[_,_,_,_,_,_,_,_,_,_,_,_]) au rfl rfl zeroValue34 rfl (fun b7=>?_);refine aN 0 [_,_,_,_,_,_,_,_,_,_,_,_] sizeOf34 ?_;refine ap 70 [5,7] ?_;refine⟨_,aL,b7,(ae 4),(aG ⟨#[116]⟩),(aJ),(aJ),(aJ),(aW false),(aJ),(aG ⟨#[110,111,110,101]⟩),(aW false),(ae (-1)),(dj),(aJ),X,rs,k1,E,dQ,I,b3,rfl⟩
  ·obtain⟨b1,R,b2,b3⟩:=y7 hm hw ht hG gn Z O pi (s:={bN with kind:=3,table:=⟨#[116]⟩,row:=[aX]}) zN;have dQ:=VC.lK b1 (args':=[.agg [aj 5 cr (l)],.agg [ae 3,aG ⟨#[116]⟩,aJ,.list 3 ([aX].flatMap cV) 1,aJ,aW false,aJ,dj,aW false,ae (-1),dj,aJ]]) ⟨aH,kW ⟨aH,aH,bQ,aH,bQ,aH,bQ,aH,aH,aH,aH,bQ,trivial⟩,trivial⟩;have I:=VC.lK b2 (args':=[.agg [aj 5 cr (l)],.agg [ae 3,aG ⟨#[116]⟩,aJ,.list 3 ([aX].flatMap cV) 1,aJ,aW false,aJ,dj,aW false,ae (-1),dj,aJ]]) ⟨aH,kW ⟨aH,aH,bQ,aH,bQ,aH,bQ,aH,aH,aH,aH,bQ,trivial⟩,trivial⟩;clear b1 b2;unfold qL at I;obtain⟨X,⟨rs,k1⟩,E⟩:=R;dsimp only at I b3;refine dB 4 ?_;refine dK call11 (U) ?_;refine bS (ei 12 (h:=vz)) ?_;refine aF 1 ?_;refine cD (ds:=[_,_,_,_,_,_,_,_,_,_,_,_]) au rfl rfl zeroValue34 rfl (fun b7=>?_);refine aN 0 [_,_,_,_,_,_,_,_,_,_,_,_] sizeOf34 ?_;refine ap 70 [5,7] ?_;refine⟨_,aL,b7,(ae 3),(aG ⟨#[116]⟩),(aJ),(.list 3 ([aX].flatMap cV) 1),(aJ),(aW false),(aJ),(dj),(aW false),(ae (-1)),(dj),(aJ),X,rs,k1,E,dQ,I,b3,rfl⟩
  ·obtain⟨b1,R,b2,b3⟩:=y7 hm hw ht hG gn Z O pi (s:={bN with kind:=5,table:=⟨#[116]⟩,set:=⟨#[110,111,110,101]⟩,bG:=[⟨1,aX,⟨#[]⟩⟩]}) zN;have dQ:=VC.lK b1 (args':=[.agg [aj 5 cr (l)],.agg [ae 5,aG ⟨#[116]⟩,aJ,aJ,aJ,aW false,aJ,dj,aW false,ae (-1),aG ⟨#[110,111,110,101]⟩,.list 5 ([(⟨1,aX,⟨#[]⟩⟩:aQ)].flatMap cO) 1]]) ⟨aH,kW ⟨aH,aH,bQ,bQ,bQ,aH,bQ,aH,aH,aH,aH,aH,trivial⟩,trivial⟩;have I:=VC.lK b2 (args':=[.agg [aj 5 cr (l)],.agg [ae 5,aG ⟨#[116]⟩,aJ,aJ,aJ,aW false,aJ,dj,aW false,ae (-1),aG ⟨#[110,111,110,101]⟩,.list 5 ([(⟨1,aX,⟨#[]⟩⟩:aQ)].flatMap cO) 1]]) ⟨aH,kW ⟨aH,aH,bQ,bQ,bQ,aH,bQ,aH,aH,aH,aH,aH,trivial⟩,trivial⟩;clear b1 b2;unfold qL at I;obtain⟨X,⟨rs,k1⟩,E⟩:=R;dsimp only at I b3;refine dB 4 ?_;refine dK call11 (U) ?_;refine bS (ei 12 (h:=vz)) ?_;refine aF 1 ?_;refine cD (ds:=[_,_,_,_,_,_,_,_,_,_,_,_]) au rfl rfl zeroValue34 rfl (fun b7=>?_);refine aN 0 [_,_,_,_,_,_,_,_,_,_,_,_] sizeOf34 ?_;refine ap 70 [5,7] ?_;refine⟨_,aL,b7,(ae 5),(aG ⟨#[116]⟩),(aJ),(aJ),(aJ),(aW false),(aJ),(dj),(aW false),(ae (-1)),(aG ⟨#[110,111,110,101]⟩),(.list 5 ([(⟨1,aX,⟨#[]⟩⟩:aQ)].flatMap cO) 1),X,rs,k1,E,dQ,I,b3,rfl⟩
  ·obtain⟨b1,R,b2,b3⟩:=y7 hm hw ht hG gn Z O pi (s:={bN with kind:=5,table:=⟨#[116]⟩,set:=⟨#[110]⟩,bG:=[⟨2,aX,⟨#[115]⟩⟩]}) zN;have dQ:=VC.lK b1 (args':=[.agg [aj 5 cr (l)],.agg [ae 5,aG ⟨#[116]⟩,aJ,aJ,aJ,aW false,aJ,dj,aW false,ae (-1),aG ⟨#[110]⟩,.list 5 ([(⟨2,aX,⟨#[115]⟩⟩:aQ)].flatMap cO) 1]]) ⟨aH,kW ⟨aH,aH,bQ,bQ,bQ,aH,bQ,aH,aH,aH,aH,aH,trivial⟩,trivial⟩;have I:=VC.lK b2 (args':=[.agg [aj 5 cr (l)],.agg [ae 5,aG ⟨#[116]⟩,aJ,aJ,aJ,aW false,aJ,dj,aW false,ae (-1),aG ⟨#[110]⟩,.list 5 ([(⟨2,aX,⟨#[115]⟩⟩:aQ)].flatMap cO) 1]]) ⟨aH,kW ⟨aH,aH,bQ,bQ,bQ,aH,bQ,aH,aH,aH,aH,aH,trivial⟩,trivial⟩;clear b1 b2;unfold qL at I;obtain⟨X,⟨rs,k1⟩,E⟩:=R;dsimp only at I b3;refine dB 4 ?_;refine dK call11 (U) ?_;refine bS (ei 12 (h:=vz)) ?_;refine aF 1 ?_;refine cD (ds:=[_,_,_,_,_,_,_,_,_,_,_,_]) au rfl rfl zeroValue34 rfl (fun b7=>?_);refine aN 0 [_,_,_,_,_,_,_,_,_,_,_,_] sizeOf34 ?_;refine ap 70 [5,7] ?_;refine⟨_,aL,b7,(ae 5),(aG ⟨#[116]⟩),(aJ),(aJ),(aJ),(aW false),(aJ),(dj),(aW false),(ae (-1)),(aG ⟨#[110]⟩),(.list 5 ([(⟨2,aX,⟨#[115]⟩⟩:aQ)].flatMap cO) 1),X,rs,k1,E,dQ,I,b3,rfl⟩
  obtain⟨b1,R,b2,b3⟩:=y7 hm hw ht hG gn Z O pi (s:={bN with kind:=6,table:=⟨#[116]⟩,ah:=[⟨2,aX,⟨#[105,100]⟩⟩]}) zN;have dQ:=VC.lK b1 (args':=[.agg [aj 5 cr (l)],.agg [ae 6,aG ⟨#[116]⟩,aJ,aJ,aJ,aW false,.list 5 ([(⟨2,aX,⟨#[105,100]⟩⟩:aQ)].flatMap cO) 1,dj,aW false,ae (-1),dj,aJ]]) ⟨aH,kW ⟨aH,aH,bQ,bQ,bQ,aH,aH,aH,aH,aH,aH,bQ,trivial⟩,trivial⟩;have I:=VC.lK b2 (args':=[.agg [aj 5 cr (l)],.agg [ae 6,aG ⟨#[116]⟩,aJ,aJ,aJ,aW false,.list 5 ([(⟨2,aX,⟨#[105,100]⟩⟩:aQ)].flatMap cO) 1,dj,aW false,ae (-1),dj,aJ]]) ⟨aH,kW ⟨aH,aH,bQ,bQ,bQ,aH,aH,aH,aH,aH,aH,bQ,trivial⟩,trivial⟩;clear b1 b2;unfold qL at I;obtain⟨X,⟨rs,k1⟩,E⟩:=R;dsimp only at I b3;refine dB 4 ?_;refine dK call11 (U) ?_;refine bS (ei 12 (h:=vz)) ?_;refine aF 1 ?_;refine cD (ds:=[_,_,_,_,_,_,_,_,_,_,_,_]) au rfl rfl zeroValue34 rfl (fun b7=>?_);refine aN 0 [_,_,_,_,_,_,_,_,_,_,_,_] sizeOf34 ?_;refine ap 70 [5,7] ?_;refine⟨_,aL,b7,(ae 6),(aG ⟨#[116]⟩),(aJ),(aJ),(aJ),(aW false),(.list 5 ([(⟨2,aX,⟨#[105,100]⟩⟩:aQ)].flatMap cO) 1),(dj),(aW false),(ae (-1)),(dj),(aJ),X,rs,k1,E,dQ,I,b3,rfl⟩
 rintro _ ⟨b7,c0,c1,c2,c3,c4,c5,c6,c7,c8,c9,Lz,LC,X,rs,k1,E,dQ,I,hE,rfl⟩;refine cW [5,7,8,9] (dQ) ?_;refine az 2 ?_;refine dK call17 (I) ?_;refine aF 4 ?_;refine cD (ds:=[_]) au rfl rfl zeroValue25 rfl (fun kr=>?_);refine cD (ds:=[_,_]) au rfl rfl zeroValue54 rfl (fun mQ=>?_);refine aN 1 [_] sizeOf25 ?_;refine aN 0 [_,_] sizeOf54 ?_;refine ap 70 [8,9,12] ?_;have KS:(E != 0)=true:=bne_iff_ne.2 hE;refine cJ [4] ?_;refine aM 13 ?_ (h:=ZU);refine aM 2 ?_ (h:=PS);refine bB ?_;refine eD [] ?_;exact⟨congrArg (fun b=>D.v (.bool b)) f1,rfl⟩
theorem walkNeedsFail(l:List Ph)(v:Value)(ok:(∀x∈l,x.Ok)/\l.length<=maxLen)(q:Int)(E:(Lit.int .i64 q).wf=true)(w:World)(h1:MarksTab w)(h2:WordsTab w)(h3:TypesTab w){m:Int}(hm:Tab.lS w 2 [Value.int .i64 m])(hv:cG w (fun _=>False) (.list 14 (l.flatMap Ph.cs) l.length) v) :Calls Tryz.prog 6 #[v,.int .i64 q] w fun e w'=>e = .returned (.bool true)/\Below w.heap.size w w' :=
 (aeY (G:=tM m) Bg Bh Bi Bj l ok.1 ok.2 q (qw E).1 (qw E).2).Ae (As h1 h2 h3 hm) (vs:=[v,_]) (cX.cons hv (cX.vs w _ [_]))
end Ba
end Go.Proofs.YtihmfhcjbmlnaaaGreatDoor
