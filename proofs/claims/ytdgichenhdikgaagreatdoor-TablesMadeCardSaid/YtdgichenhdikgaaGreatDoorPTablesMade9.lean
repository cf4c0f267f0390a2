/-
  What the proof of TablesMade leans on, part 9 of 9: walks of the program's functions at the level of values, and plain facts of what they compute.
-/
import Derived.Test.YtdgichenhdikgaaGreatDoorPTablesMade8
set_option linter.unusedVariables false
set_option linter.unusedSimpArgs false
set_option maxRecDepth 100000
set_option maxHeartbeats 4000000
namespace Go.Proofs.YtdgichenhdikgaaGreatDoor.Ba
open List
open Go.Proofs.Tryz
open Go.RowKit V Pk Tr Vl Go.Proofs.YtdgichenhdikgaaGreatDoor.Nm Pc Cd Ex Tw
open Pa (cx bI j3 gQ jZ gP jF ku iA gN dZ Ph)
variable {G:List (Nat×List Value)} {m:Int}
variable {α:Type} {l:List aL}
open Classical in
noncomputable def pB(a b:α):Bool:=decide (a=b)
theorem Il{a b:α}(h:a=b):pB a b=true:=by unfold pB;simp[h]
theorem IV{a b:α}(h:¬a=b):pB a b=false:=by unfold pB;simp[h]
theorem aeE{a b:α}(h:pB a b=true):a=b:=by unfold pB at h;simpa using h
theorem acP(a b:List Vl)(ha:a.length≤1000000)(hb:b.length≤1000000):VP Tryz.prog G 22 [av 3 cV a,av 3 cV b] (cg (pB a b)):=by
 refine VC.body func22 rfl ntmps22 aS fun X0 w0 aZ=>?_;have da:=dW;refine af [0,1] ?_;refine af [0,1,10] ?_;refine au ?_ ?_<;>intro aN bC
 ·exact z143
 have E:a.length=b.length:=(by simp at aN;omega)
 refine af [0,1,5] ?_;refine eK [0,1] (fun aW _ (i:Nat) aI=>(i≤a.length)∧(a.take i=b.take i)∧aI=(⟨26,(5,ae (i:Nat))::aW,[]⟩:St)) (fun (i:Nat)=>a.length-i) 0 ⟨(Nat.zero_le _),rfl,rfl⟩ ?_;rintro i _ ⟨hi,GH,rfl⟩;refine af [0,1,5,14] ?_;refine au ?_ ?_<;>intro aY cz
 ·have aa:i<a.length:=(by omega)
  have su:i<b.length:=(by omega)
  refine cQ [0,1,5,25] ?_;refine aU 8 ?_ (h:=by exact(OL rfl ot ot eqGuardType41 (Go.Proofs.YtdgichenhdikgaaGreatDoor.Vl.Ke _ _)));refine jJ ?_;refine au ?_ ?_<;>intro bZ cM
  ·have hne:¬a[i]'aa=b[i]'su:=fun e=>by rw[e] at bZ;exact absurd bZ bu
   have ff:pB a b=false:=IV fun e=>hne (by subst e;rfl);refine af [4] ?_;exact xH
  have WL:a[i]'aa=b[i]'su:=(by have h3:GV (a[i]'aa) (b[i]'su)=true:=(by simpa[GV] using bZ);exact adb.1 h3)
  exact UM
 exact U6
theorem acQ(a b:List (List Vl))(ha:a.length≤1000000)(hb:b.length≤1000000)(E:∀r∈a,r.length≤1000000)(I:∀r∈b,r.length≤1000000):VP Tryz.prog G 15 [av 1 gq a,av 1 gq b] (cg (pB a b)):=by
 refine VC.body func15 rfl ntmps15 aS fun X0 w0 aZ=>?_;have da:=dW;refine af [0,1] ?_;refine af [0,1,10] ?_;refine au ?_ ?_<;>intro aN bC
 ·exact z143
 have O:a.length=b.length:=(by simp at aN;omega)
 refine af [0,1,5] ?_;refine eK [0,1] (fun aW _ (i:Nat) aI=>(i≤a.length)∧(a.take i=b.take i)∧aI=(⟨27,(5,ae (i:Nat))::aW,[]⟩:St)) (fun (i:Nat)=>a.length-i) 0 ⟨(Nat.zero_le _),rfl,rfl⟩ ?_;rintro i _ ⟨hi,GH,rfl⟩;refine af [0,1,5,14] ?_;refine au ?_ ?_<;>intro aY cz
 ·have aa:i<a.length:=(by omega)
  have su:i<b.length:=(by omega)
  refine cH [0,1,5,26] (acP (a[i]'aa) (b[i]'su) (E _ (getElem_mem aa)) (I _ (getElem_mem su))) ?_;refine au ?_ ?_<;>intro bZ cM
  ·have hne:¬a[i]'aa=b[i]'su:=fun e=>by rw[Il e] at bZ;cases bZ
   have ff:pB a b=false:=IV fun e=>hne (by subst e;rfl);refine af [4] ?_;exact xH
  have WL:a[i]'aa=b[i]'su:=(by cases h3:pB (a[i]'aa) (b[i]'su) with|false=>(rw[h3] at bZ;cases bZ)|true=>exact aeE h3)
  exact UM
 exact U6

theorem Rn{t:aL}{n:Nat}(g:eW t n):∀r∈qo t,r.length≤1000000:=fun r hr=>by
 obtain⟨i,hi,rfl⟩:=mem_iff_getElem.1 hr;obtain⟨v,r,e,h,_⟩:=ZM g hi;rw[e,length_cons,h];decide

def eN(s:ByteArray):ByteArray:=⟨#[120]⟩++nl (tJ s) 4
theorem PY(s:ByteArray):(eN s).data.toList=120::(r9 s).take 4:=by
 unfold eN;rw[ByteArray.data_append,Array.toList_append,HO];rfl
theorem Bk(s:ByteArray):cU (eN s)=0:=by
 have e:eN s=⟨(120::(r9 s).take 4).toArray⟩:=(by rw[←PY])
 rw[e];refine rQ (Nat.succ_pos _) (by rw[length_cons,length_take];omega) fun c hc=>?_;rcases mem_cons.1 hc with rfl|hc
 ·decide
 exact Y8 s c (mem_of_mem_take hc)
def ye(s:ByteArray):cx:={gN with kind:=2,table:=eN s}
theorem E5(s:ByteArray):jZ (eo (eN s)):=Pa.qt.tU (Pa.HE (Bk s))
theorem Tp(s:ByteArray):jZ (ye s):=Pa.qt.tU (Pa.Rj (Bk s))
theorem UF(s:ByteArray):gQ (eo (eN s))=0:=by
 have hg:=E5 s;unfold gQ;rw[if_neg (by show ¬((1:Int)<1∨(1:Int)>9);decide),if_neg (fun e=>e hg.2.2.2.2),if_neg];rw[show(Pa.pC (eo (eN s))).length=16 from by kernel_rfl];decide
theorem ahv(s:ByteArray):gQ (ye s)=0:=by
 have hg:=Tp s;unfold gQ;rw[if_neg (by show ¬((2:Int)<1∨(2:Int)>9);decide),if_neg (fun e=>e hg.2.2.2.2),if_neg];rw[show(Pa.pC (ye s)).length=3 from by kernel_rfl];decide
theorem LI(h:l.map aL.nm=dZ)(s:ByteArray):aM l (eN s)<0:=by
 unfold aM;rw[uC (k:=l.length) w4 (fun x hx=>?_)]
 ·decide
 rw[take_of_length_le (Nat.le_refl _)] at hx;exact z75
theorem KA(h:l.map aL.nm=dZ)(s:ByteArray):aM (l++[eC (eo (eN s))]) (eN s)=((2:Nat):Int):=by
 have hl:=zE h;have h0:=LI h s;unfold aM at h0 ⊢;refine uH (k:=2) Gq (fun x hx=>?_) ?_
 ·rw[take_append_of_le_length w4,take_of_length_le w4] at hx;exact z75
 have e:(l++[eC (eo (eN s))])[2]'Gq=eC (eo (eN s)):=(by rw[getElem_append_right w4];simp[hl])
 rw[e];exact BEq.rfl
theorem J0(h:l.map aL.nm=dZ)(s:ByteArray):gi l (eo (eN s))=(l++[eC (eo (eN s))],(([],0),0)):=by
 have hl:=zE h;have h0:=LI h s;unfold gi nT;rw[if_pos (show(eo (eN s)).kind=1 from rfl),if_neg (by show ¬0≤aM l (eN s);omega),if_neg w4]
theorem af0(h:l.map aL.nm=dZ)(s:ByteArray):nM l (eo (eN s))=(l++[eC (eo (eN s))],(([],0),0)):=by
 unfold nM;rw[if_neg (fun e=>e (UF s)),if_neg (by show ¬(7:Int)≤1;decide),J0 h s];rfl
theorem aeF(h:l.map aL.nm=dZ)(s:ByteArray):nM (l++[eC (eo (eN s))]) (eo (eN s))=([],(([],0),9)):=by
 have h2:=KA h s;have hc:nT (l++[eC (eo (eN s))]) (eo (eN s))=(l++[eC (eo (eN s))],9):=by
  unfold nT;rw[if_pos (by show 0≤aM _ (eN s);omega)]
 have hr:gi (l++[eC (eo (eN s))]) (eo (eN s))=(l++[eC (eo (eN s))],(([],0),9)):=by
  unfold gi;rw[if_pos (show(eo (eN s)).kind=1 from rfl),hc]
 unfold nM;rw[if_neg (fun e=>e (UF s)),if_neg (by show ¬(7:Int)≤1;decide),hr];rfl
theorem af1(h:l.map aL.nm=dZ)(s:ByteArray):rp (pF (l++[eC (eo (eN s))]) (ye s)) (ye s)=(l,(([],0),0)):=by
 have h2:=KA h s;have hl:=zE h;unfold rp pF;rw[if_neg (fun e=>e (ahv s)),if_neg (by show ¬(7:Int)≤2;decide),show aM (l++[eC (eo (eN s))]) (ye s).table=((2:Nat):Int) from h2,if_neg (show ¬((2:Nat):Int)<0 by decide),if_neg (fun e=>e rfl)];have e:(l++[eC (eo (eN s))]).eraseIdx ((2:Nat):Int).toNat=l:=by
  show(l++[eC (eo (eN s))]).eraseIdx 2=l;rw[eraseIdx_append_of_length_le w4,hl];simp
 rw[e]
theorem aeG(h:l.map aL.nm=dZ)(s:ByteArray):qV (l++[eC (eo (eN s))]) (eN s)=([],0):=by
 have hl:=zE h;rw[T7 (i:=2) (KA h s) Gq];have e:(l++[eC (eo (eN s))])[2]'Gq=eC (eo (eN s)):=(by rw[getElem_append_right w4];simp[hl])
 rw[e];unfold qo;rw[show(eC (eo (eN s))).ix=oM from rfl,Q0];rfl
theorem aeH(h:l.map aL.nm=dZ)(s:ByteArray):qV l (eN s)=([],8):=by
 unfold qV;rw[if_pos (LI h s)]
theorem Yl(hm:(3,marksC)∈G)(hw:(1,wordsC)∈G)(ht:(0,typesC)∈G)(hG:(2,[Value.int .i64 m])∈G)(ps:List Ph)(ic:∀p∈ps,p.Ok)(fQ:ps.length≤maxLen)(sx:ByteArray)(hsx:sx.size≤maxLen):VP Tryz.prog G 5 [.list 14 (ps.flatMap Ph.cs) ps.length,bn sx] (cg true):=by
 refine VC.body func5 rfl ntmps5 aS fun X0 w0 aZ=>?_;have da:=dW;refine af [0,1] ?_;refine aD 1 ?_;refine OD.call ap rfl rfl rfl call9 (aeB hm hw ht hG ps ic fQ) ⟨ot,trivial⟩ (eT _) ?_;rintro _ _ ⟨l,a,c,rfl,rfl,gn,Z,E⟩;refine OD.alloc (ds:=[_]) ap rfl rfl zeroValue25 rfl (fun b5=>?_);refine aP 0 [_] sizeOf25 ?_;refine an 127 [1,5] ?_;refine CD.seq ?_;obtain⟨t0,t1,rfl⟩:∃t0 t1,l=[t0,t1]:=(by match l,zE E with|[t0,t1],_=>exact⟨t0,t1,rfl⟩)
 have iQ:=zE E;have h0l:0<([t0,t1]:List aL).length:=Nat.succ_pos _;have C3:=(Oj sx).2;have h00:(gi [t0,t1] (eo (eN sx))).2.2=0:=(by rw[J0 E sx])
 obtain⟨a2,c2,_,gx,hx,_⟩:=EK gn Z (jZ.st (E5 sx)) (by show ¬(1:Int)=2;decide) (Bk sx) (fun _=>rfl) h00;obtain⟨_,rfl,rfl⟩:=hx rfl;rw[J0 E sx] at gx;dsimp only at gx;have I:=VC.Ct (FJ hm hw ht hG gn Z (s:=eo (eN sx)) (jZ.st (E5 sx)) (by show ¬(1:Int)=2;decide) (fun _=>Bk sx) (by show(1:Int)≤6;decide) (fun _=>rfl)) (args':=[.agg [.list 5 (([t0,t1]).flatMap dg) ([t0,t1]).length],.agg [ae 1,bn (eN sx),av 2 cC dM,bS,bS,cg false,bS,fL,cg false,ae (-1),fL,bS]]) ⟨cY,yK ⟨cY,cY,cY,eV,eV,cY,eV,cY,cY,cY,cY,eV,trivial⟩,trivial⟩;rw[af0 E sx] at I;unfold uB at I;dsimp only at I;have O:=VC.Ct (FJ hm hw ht hG gx Z (s:=eo (eN sx)) (jZ.st (E5 sx)) (by show ¬(1:Int)=2;decide) (fun _=>Bk sx) (by show(1:Int)≤6;decide) (fun _=>rfl)) (args':=[.agg [.list 5 ((([t0,t1]++[eC (eo (eN sx))])).flatMap dg) (([t0,t1]++[eC (eo (eN sx))])).length],.agg [ae 1,bn (eN sx),av 2 cC dM,bS,bS,cg false,bS,fL,cg false,ae (-1),fL,bS]]) ⟨cY,yK ⟨cY,cY,cY,eV,eV,cY,eV,cY,cY,cY,cY,eV,trivial⟩,trivial⟩;rw[aeF E sx] at O;unfold uB at O;dsimp only at O
 have hd:=VC.Ct (aet hm hw ht hG ([t0,t1]++[eC (eo (eN sx))]) gx.g (ye sx) (Tp sx).1 rfl) (args':=[.agg [.list 5 ((([t0,t1]++[eC (eo (eN sx))])).flatMap dg) (([t0,t1]++[eC (eo (eN sx))])).length],.agg [ae 2,bn (eN sx),bS,bS,bS,cg false,bS,fL,cg false,ae (-1),fL,bS]]) ⟨cY,yK ⟨cY,cY,eV,eV,eV,cY,eV,cY,cY,cY,cY,eV,trivial⟩,trivial⟩;rw[af1 E sx] at hd;unfold uB at hd;dsimp only at hd;have NR:=JB hm hw ht hG ([t0,t1]++[eC (eo (eN sx))]) gx.g (eN sx);rw[aeG E sx] at NR;dsimp only at NR;have jL:=JB hm hw ht hG [t0,t1] gn.g (eN sx);rw[aeH E sx] at jL;dsimp only at jL;have U:=JB hm hw ht hG [t0,t1] gn.g ⟨#[116]⟩;rw[T7 (i:=0) (akp E) h0l] at U;dsimp only at U;have hg0:=gn.g.tb t0 mem_cons_self;have hq:=acQ (G:=G) (qo t0) (qo t0) (Nat.le_trans (Rm hg0) w7) (Nat.le_trans (Rm hg0) w7) (Rn hg0) (Rn hg0);rw[Il rfl] at hq;have hlx:([t0,t1]++[eC (eo (eN sx))]).length=3:=rfl;refine dN 1 ?_;refine dS call17 (qe sx hsx) ?_;refine dS call16 (Bc (tJ sx) 4 Cp) ?_;refine bH (show bV _ _ _ _ _ (bn (eN sx)) from c8 rfl bL ot (EP (by have h9:(⟨#[120]⟩:ByteArray).size=1:=rfl;rw[Ec];have h8:=dW;omega))) ?_;refine OD.gZ ap rfl rfl rfl call18 (HQ) trivial ?_;refine aE 1 ?_
 refine OD.alloc (ds:=[_,_,_,_,_,_,_,_,_,_,_,_]) ap rfl rfl zeroValue32 rfl (fun b6=>?_);refine aP 0 [_,_,_,_,_,_,_,_,_,_,_,_] sizeOf32 ?_;refine an 127 [5,6] ?_;refine aD 2 ?_;refine dS call11 (I) ?_;refine aE 4 ?_;refine OD.alloc (ds:=[_]) ap rfl rfl zeroValue25 rfl (fun b7=>?_);refine OD.alloc (ds:=[_,_]) ap rfl rfl zeroValue36 rfl (fun b8=>?_);refine aP 1 [_] sizeOf25 ?_;refine aP 0 [_,_] sizeOf36 ?_;refine an 127 [5,6,7,9] ?_;refine aD 2 ?_;refine dS call11 (O) ?_;refine aE 4 ?_;refine OD.alloc (ds:=[_]) ap rfl rfl zeroValue25 rfl (fun kJ=>?_);refine OD.alloc (ds:=[_,_]) ap rfl rfl zeroValue36 rfl (fun kI=>?_);refine aP 1 [_] sizeOf25 ?_;refine aP 0 [_,_] sizeOf36 ?_;refine an 127 [5,6,7,9,12] ?_;refine cH [5,6,7,9,12,13,14] (NR) ?_;refine aD 4 ?_;refine dS call11 (hd) ?_;refine aE 4 ?_;refine OD.alloc (ds:=[_]) ap rfl rfl zeroValue25 rfl (fun b15=>?_);refine OD.alloc (ds:=[_,_]) ap rfl rfl zeroValue36 rfl (fun b16=>?_);refine aP 1 [_] sizeOf25 ?_;refine aP 0 [_,_] sizeOf36 ?_;refine an 127 [5,6,7,9,12,13,14,15,17] ?_;refine cH [6,7,9,12,13,14,15,17,18,19] (U) ?_;refine cH [6,7,9,12,13,14,15,17,18,19,20,21] (U) ?_;refine cH [7,9,12,13,14,15,17,18,19,20,21,23] (jL) ?_;refine cH [4] (hq) ?_;refine aJ [] ?_;refine⟨?_,rfl⟩;first|rfl|(simp;done)
theorem walkTablesMade(l:List Ph)(v:Value)(ok:(∀x∈l,x.Ok)∧l.length≤maxLen)(sx:ByteArray)(E:sx.size≤maxLen)(w:World)(h1:MarksTab w)(h2:WordsTab w)(h3:TypesTab w){m:Int}(hm:Tab.mD w 2 [Value.int .i64 m])(I:cq w (fun _=>False) (.list 14 (l.flatMap Ph.cs) l.length) v):Calls Tryz.prog 5 #[v,.string sx] w fun e w'=>e = .returned (.bool true)∧Below w.heap.size w w' :=
 (Yl (G:=Aw m) tm1 tm2 tm3 tm4 l ok.1 ok.2 sx E).ahL (akq h1 h2 h3 hm) (vs:=[v,_]) (cN.cons I (cN.vs w _ [_]))

end Go.Proofs.YtdgichenhdikgaaGreatDoor.Ba
