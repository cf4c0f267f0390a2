/-
  NeedsWhole: walks and plain facts.
-/
import Derived.Test.YtihmfhcjbmlnaaaGreatDoorPNA9
set_option linter.unusedVariables false
set_option linter.unusedSimpArgs false
set_option maxRecDepth 100000
set_option maxHeartbeats 4000000
namespace Go.Proofs.YtihmfhcjbmlnaaaGreatDoor
open List
namespace Ba
open Go.Proofs.Tryz
open Go.RowKit V Pk Tr Vl Go.Proofs.YtihmfhcjbmlnaaaGreatDoor.Nm Pc Cd Ex Tw
open Pa (aT aY dJ bZ cY cZ dA dO dr bN bJ Ph)
section
variable {G:List (Nat×List Value)} {m:Int}
def iR(w:List aQ):aT:={bN with kind:=4,table:=⟨#[116]⟩,ah:=w}
end
def FH(w:List aQ):aT:={bN with kind:=6,table:=⟨#[116]⟩,ah:=w}
variable {G:List (Nat×List Value)} {m:Int}
theorem x8(E I:ByteArray)(m1 O:Int):∀w,(Op.equalIn 10000 44 (.agg [.string E,.int .i64 m1].toArray) (.agg [.string I,.int .i64 O].toArray)).run Tryz.prog w = .ok (E.toList==I.toList&&m1==O) w:=fun w=>by
 have hS:Tryz.prog.underlying 44=some (.struct (Tryz.prog.fieldsOf 44)):=(by kernel_rfl)
 have hp:Tryz.prog.stoodInHeld 44=false:=(by kernel_rfl)
 rw[show(10000:Nat)=9999+1 from rfl,run_equalIn_agg w 9999 44 _ _ hS hp];have u:=underlying44;have U:=underlying3;have Z:=underlying9;have a3:=isAgg3;have a9:=isAgg9;have z3:=sizeOf3;have z9:=sizeOf9;simp only[Program.fieldsOf,u];go_simp
 by_cases h1:E.toList=I.toList<;>by_cases h2:m1=O<;>simp[h1,h2]
theorem u0(a:ByteArray)(p:Int):(a.toList==a.toList&&p==p)=true:=by simp
theorem sY:tB ⟨#[116]⟩=⟨#[116,116]⟩:=by decide +kernel
def FI:aT:={bN with kind:=5,table:=⟨#[116]⟩,set:=⟨#[110]⟩,bG:=[⟨1,aX,⟨#[]⟩⟩]}
def wO:aT:={bN with kind:=8}
def Ey(c:List dc)(s:aT):Bool :=
 if s.kind=3 then (Pc.dV c s.row != 0)
 else if s.kind=4/\((s.names.any fun x=>decide (bE c x<0))=true\/(¬s.order=⟨#[]⟩/\bE c s.order<0)) then true
 else if s.kind=5/\(bE c s.set<0\/(dZ c s.bG).2≠0\/((dZ c s.bG).1≠0/\(dZ c s.bG).1≠(c.getD (bE c s.set).toNat ⟨⟨#[]⟩,0⟩).k)) then true
 else ((eG c s.ah).2 != 0)
theorem Of(t:aA)(s:aT):iy t s=Ey t.an s:=rfl
def wi:List aT:=[iR [],FH [],FI]
theorem ahG:∀s∈wi,bZ s=0/\Ey cx s=false/\s.table=⟨#[116]⟩/\3<=s.kind/\s.kind<=6/\¬s.kind=3/\(((((eG cx s.ah).1.1.length:Nat):Int)+(((eG cx s.ah).1.2.length:Nat):Int)==0)||((s.kind==5)&&(bE cx s.set==0)))=true:=by decide +kernel
def vj:List aT:=[{bN with kind:=4,table:=⟨#[110,111,110,101]⟩},{bN with kind:=4,table:=⟨#[116]⟩,names:=[⟨#[110,111,110,101]⟩]},{bN with kind:=4,table:=⟨#[116]⟩,order:=⟨#[110,111,110,101]⟩},{bN with kind:=3,table:=⟨#[116]⟩,row:=[aX]},{bN with kind:=5,table:=⟨#[116]⟩,set:=⟨#[110,111,110,101]⟩,bG:=[⟨1,aX,⟨#[]⟩⟩]},{bN with kind:=5,table:=⟨#[116]⟩,set:=⟨#[110]⟩,bG:=[⟨2,aX,⟨#[115]⟩⟩]},{bN with kind:=6,table:=⟨#[116]⟩,ah:=[⟨2,aX,⟨#[105,100]⟩⟩]}]
theorem Uo:∀s∈wi++vj++[wO],(s.an.length<=6/\s.row.length<=6/\s.names.length<=6/\s.ah.length<=40/\s.bG.length<=40)/\s.table.size<=100/\s.an.length=0/\(∀x∈s.names,x.size<=100)/\s.order.size<=100/\s.set.size<=100/\(∀v∈s.row,(v.k=0/\v.n=0/\v.s.size=0))/\(∀o∈s.ah,(o.v.k=0/\o.v.n=0/\o.v.s.size=0)/\o.nm.size<=100)/\(∀o∈s.bG,(o.v.k=0/\o.v.n=0/\o.v.s.size=0)/\o.nm.size<=100):=by decide +kernel
theorem BH{s:aT}(h:s∈wi++vj++[wO]):uG s:=by
 exact z48
theorem LP{l:List aA}{a c:Nat}(gn:mZ l a c)(h:l.map aA.nm=bJ)(h0:0<l.length){s:aT}(hs:s∈wi):gE l s=([⟨⟨#[]⟩,1⟩,⟨⟨#[116,116]⟩,if s.kind=4 then 3 else 5⟩],0):=by
 have g:=gn.g.tb _ (getElem_mem h0);obtain⟨a1,a2,a3,a4,a5,a6,a7⟩:=ahG s hs;have ha:rP l[0] s=true:=(by unfold rP;rw[g.an];exact a7)
 rw[BM h h0 a3 a1 a4 a5,Of,g.an,a2,if_neg w7];unfold sX;rw[if_neg a6,if_pos ha,a3,sY]
theorem ahH(l:List aA):gE l wO=([],2):=by
 unfold gE;rw[if_neg (show ¬bZ wO≠0 from fun e=>e zR),if_pos (show 7<=wO.kind from by show(7:Int)<=8;decide)]
theorem aeF(hm:(3,marksC)∈G)(hw:(1,wordsC)∈G)(ht:(0,typesC)∈G)(hG:(2,[Value.int .i64 m])∈G)(ps:List Ph)(gv:∀p∈ps,p.Ok)(fC:ps.length<=maxLen)(q:Int)(q1:-9223372036854775808<=q)(q2:q<=9223372036854775807):VP Tryz.prog G 3 [.list 14 (ps.flatMap Ph.cs) ps.length,ae q] (aW true):=by
 refine bA func3 rfl ntmps3 aO fun X0 w0 bz=>?_;have dy:=ee;have FP:=iK q (show(1:Int)<=3 by decide);have I:=jU G q 3 q1 q2 w7;generalize cN q 3=kk at FP I;have gX:kk=0\/kk=1\/kk=2:=(by omega)
 refine ay [0,1] ?_;refine az 1 ?_;refine eH au rfl rfl rfl call10 (zq hm hw ht hG ps gv fC) ⟨ot,trivial⟩ (fj _) ?_;rintro _ _ ⟨l,a,c,rfl,rfl,gn,U,E⟩;refine cD (ds:=[_]) au rfl rfl zeroValue25 rfl (fun b5=>?_);refine aN 0 [_] sizeOf25 ?_;refine ap 68 [1,5] ?_;refine cL ?_;have hU:=At E;have O:0<l.length:=(by omega)
 have gZ:=VC.lK (tX hm hw ht hG l gn.g wO (BH (mem_append_right _ (mem_singleton.2 rfl)))) (args':=[.agg [aj 5 cr (l)],.agg [ae 8,dj,aJ,aJ,aJ,aW false,aJ,dj,aW false,ae (-1),dj,aJ]]) ⟨aH,kW ⟨aH,aH,bQ,bQ,bQ,aH,bQ,aH,aH,aH,aH,bQ,trivial⟩,trivial⟩;rw[ahH] at gZ;dsimp only at gZ;have f1:=u0 ⟨#[]⟩ 1;rcases gX with rfl|rfl|rfl
 ·have dQ:=VC.lK (tX hm hw ht hG l gn.g (iR []) (BH Cq)) (args':=[.agg [aj 5 cr (l)],.agg [ae 4,aG ⟨#[116]⟩,aJ,aJ,aJ,aW false,aJ,dj,aW false,ae (-1),dj,aJ]]) ⟨aH,kW ⟨aH,aH,bQ,bQ,bQ,aH,bQ,aH,aH,aH,aH,bQ,trivial⟩,trivial⟩;rw[LP gn E O Cq] at dQ;rw[show(if (iR []).kind=4 then (3:Int) else 5)=3 from rfl] at dQ;dsimp only at dQ;have f2:=u0 ⟨#[116,116]⟩ 3;refine fW [5,6] ?_;refine Df (g:=Tw.cI) (([4,6,5]:List Int)) ?_;refine cA (I) ?_;refine aM 0 ?_ (h:=by exact(ei 1 (h:=vz)));refine bB ?_;refine az 2 ?_;refine cD (ds:=[_,_,_,_,_,_,_,_,_,_,_,_]) au rfl rfl zeroValue34 rfl (fun b7=>?_);refine aN 0 [_,_,_,_,_,_,_,_,_,_,_,_] sizeOf34 ?_;refine ap 68 [5,6,7] ?_;refine ay [5,6,7,8] ?_;refine ax [5,6,7,8,23] ?_ ?_<;>intro aP bH
  ·refine bM [5,6,7,8] ?_;exact z183
  exact z87
 ·have dQ:=VC.lK (tX hm hw ht hG l gn.g (FH []) (BH Cq)) (args':=[.agg [aj 5 cr (l)],.agg [ae 6,aG ⟨#[116]⟩,aJ,aJ,aJ,aW false,aJ,dj,aW false,ae (-1),dj,aJ]]) ⟨aH,kW ⟨aH,aH,bQ,bQ,bQ,aH,bQ,aH,aH,aH,aH,bQ,trivial⟩,trivial⟩;rw[LP gn E O Cq] at dQ;rw[show(if (FH []).kind=4 then (3:Int) else 5)=5 from rfl] at dQ;dsimp only at dQ;have f2:=u0 ⟨#[116,116]⟩ 5;refine fW [5,6] ?_;refine Df (g:=Tw.cI) (([4,6,5]:List Int)) ?_;refine cA (I) ?_;refine aM 0 ?_ (h:=by exact(ei 1 (h:=vz)));refine bB ?_;refine az 2 ?_;refine cD (ds:=[_,_,_,_,_,_,_,_,_,_,_,_]) au rfl rfl zeroValue34 rfl (fun b7=>?_);refine aN 0 [_,_,_,_,_,_,_,_,_,_,_,_] sizeOf34 ?_;refine ap 68 [5,6,7] ?_;refine ay [5,6,7,8] ?_;refine ax [5,6,7,8,23] ?_ ?_<;>intro aP bH
  ·exact z87
  exact z183
 have dQ:=VC.lK (tX hm hw ht hG l gn.g (FI) (BH Cq)) (args':=[.agg [aj 5 cr (l)],.agg [ae 5,aG ⟨#[116]⟩,aJ,aJ,aJ,aW false,aJ,dj,aW false,ae (-1),aG ⟨#[110]⟩,.list 5 ([(⟨1,aX,⟨#[]⟩⟩:aQ)].flatMap cO) 1]]) ⟨aH,kW ⟨aH,aH,bQ,bQ,bQ,aH,bQ,aH,aH,aH,aH,aH,trivial⟩,trivial⟩;rw[LP gn E O Cq] at dQ;rw[show(if (FI).kind=4 then (3:Int) else 5)=5 from rfl] at dQ;dsimp only at dQ;have f2:=u0 ⟨#[116,116]⟩ 5;refine fW [5,6] ?_;refine Df (g:=Tw.cI) (([4,6,5]:List Int)) ?_;refine cA (I) ?_;refine aM 0 ?_ (h:=by exact(ei 1 (h:=vz)));refine bB ?_;refine az 2 ?_;refine cD (ds:=[_,_,_,_,_,_,_,_,_,_,_,_]) au rfl rfl zeroValue34 rfl (fun b7=>?_);refine aN 0 [_,_,_,_,_,_,_,_,_,_,_,_] sizeOf34 ?_;refine ap 68 [5,6,7] ?_;refine ay [5,6,7,8] ?_;refine ax [5,6,7,8,23] ?_ ?_<;>intro aP bH
 ·exact z87
 refine ax [5,7,8,25] ?_ ?_<;>intro bg cM
 ·refine az 1 ?_;refine aN 0 [_,_,_,_,_,_,_,_,_,_,_,_] sizeOf9 ?_;refine ap 68 [5,7,8] ?_;refine dB 1 ?_;refine eR (cU 0 [_]) [.int .i64 0,.int .i64 0,.int .i64 0,.string ⟨#[]⟩,.string ⟨#[]⟩] [_,_,_,_,_] zeroValue38 runUnderlying32 sizeOf38 (fun Z=>?_);refine gb 0 28 5 1 ?_;refine aF 1 ?_;refine aN 0 [_,_,_,_,_,_,_,_,_,_,_,_] sizeOf32 ?_;refine ap 68 [5,7,8] ?_;exact z24
 exact absurd bg (by simp at bg)
theorem walkNeedsWhole(l:List Ph)(v:Value)(ok:(∀x∈l,x.Ok)/\l.length<=maxLen)(q:Int)(E:(Lit.int .i64 q).wf=true)(w:World)(h1:MarksTab w)(h2:WordsTab w)(h3:TypesTab w){m:Int}(hm:Tab.lS w 2 [Value.int .i64 m])(hv:cG w (fun _=>False) (.list 14 (l.flatMap Ph.cs) l.length) v) :Calls Tryz.prog 3 #[v,.int .i64 q] w fun e w'=>e = .returned (.bool true)/\Below w.heap.size w w' :=
 (aeF (G:=tM m) Bg Bh Bi Bj l ok.1 ok.2 q (qw E).1 (qw E).2).Ae (As h1 h2 h3 hm) (vs:=[v,_]) (cX.cons hv (cX.vs w _ [_]))
end Ba
end Go.Proofs.YtihmfhcjbmlnaaaGreatDoor
