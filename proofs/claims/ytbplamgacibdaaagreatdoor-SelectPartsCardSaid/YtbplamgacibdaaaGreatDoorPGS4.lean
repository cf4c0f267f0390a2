/-
  GS: walks and plain facts, part 4.
-/
import Derived.Test.YtbplamgacibdaaaGreatDoorPGS3
set_option linter.unusedVariables false
set_option linter.unusedSimpArgs false
set_option maxRecDepth 100000
set_option maxHeartbeats 4000000
namespace Go.Proofs.YtbplamgacibdaaaGreatDoor
open List
namespace Nm
open Go.Proofs.Tryz
open Go.RowKit V
variable {k:Nat}
def wordsB:List (List UInt8):=[[67,82,69,65,84,69],[84,65,66,76,69],[68,82,79,80],[73,78,83,69,82,84],[73,78,84,79],[86,65,76,85,69,83],[83,69,76,69,67,84],[67,79,85,78,84],[70,82,79,77],[87,72,69,82,69],[79,82,68,69,82],[66,89],[68,69,83,67],[76,73,77,73,84],[85,80,68,65,84,69],[83,69,84],[68,69,76,69,84,69],[66,69,71,73,78],[67,79,77,77,73,84],[82,79,76,76,66,65,67,75],[65,78,68],[79,82],[78,79,84],[73,83],[78,85,76,76],[84,82,85,69],[70,65,76,83,69],[73,78,84],[84,69,88,84],[66,79,79,76]]
def marksB:List (List UInt8):=[[60,61],[62,61],[60,62],[40],[41],[44],[42],[43],[45],[61],[60],[62]]
def wD:List ByteArray:=wordsB.map fun b=>⟨b.toArray⟩
def GC:List ByteArray:=marksB.map fun b=>⟨b.toArray⟩
def wordsC:List Value:=wD.map .string
def marksC:List Value:=GC.map .string
def x7(c:UInt8):Bool:=decide ((97<=c.toNat/\c.toNat<=122)\/(65<=c.toNat/\c.toNat<=90)\/c.toNat=95)
def GD(c:UInt8):Bool:=decide (48<=c.toNat/\c.toNat<=57)
def ym(c:UInt8):Bool:=x7 c||GD c
def G3(p:UInt8->Bool)(s:ByteArray):Nat:=(s.data.toList.takeWhile p).length
theorem Wm(p:UInt8->Bool):∀(l:List UInt8) (k:Nat),k<=l.length->(∀x∈l.take k,p x=true)->(∀h:k<l.length,p l[k]=false)->(l.takeWhile p).length=k
 | [],k,h,_,_=>by simp at h;subst h;rfl
 | a::r,0,_,_,h=>by
  have:p a=false:=h bp;rw[takeWhile_cons];simp[this]
 | a::r,k+1,h1,h2,h3=>by
  have ha:p a=true:=h2 a bp;rw[takeWhile_cons,if_pos ha,length_cons,Wm p r k (by simpa using h1) (fun x hx=>h2 x (by rw[take_succ_cons];exact mem_cons_of_mem _ hx)) (fun h=>by have:=h3 nS;simpa using this)]
theorem Gc{p:UInt8->Bool}{s:ByteArray}(hk:k<=s.size)(h0:∀x∈s.data.toList.take k,p x=true)(h1:k<s.size->p (mZ s k)=false):G3 p s=k :=
 Wm p _ k (by rw[lJ];exact hk) h0 fun h=>by rw[Jy h];exact h1 (by rw[lJ] at h;exact h)
structure Tk where
 k:Int
 s:ByteArray
 n:Int
def cT(t:Tk):List D:=[ae t.k,bg t.s,ae t.n]
theorem jk(t:Tk):(cT t).length=3:=rfl
def pu(s:ByteArray):Bool:=!decide (s.size=0)&&x7 (mZ s 0)&&((G3 ym s:Int)==(s.size:Int))
def vo(t:Tk):Int :=
 if t.k=1 then (if (decide (t.n=0)&&pu t.s)=true then 0 else 6)
 else if t.k=2 then (if t.n<0 then 3 else if t.s.size=0 then 0 else 6)
 else if t.k=3 then (if t.n=0 then 0 else 6)
 else if t.k=4 then (if (decide (t.n=0)&&GC.any (jf t.s))=true then 0 else 6)
 else 2
def cR(s:ByteArray):Int:=if s.size>8 then 1 else if (!(pu s)||wD.any (jf s))=true then 6 else 0
theorem QV(s:ByteArray):vo ⟨1,s,0⟩=if pu s=true then 0 else 6:=by
 unfold vo;rw[if_pos rfl];simp
variable {G:List (Nat×List Value)}
theorem Rv(c:UInt8):VP Tryz.prog G 135 [.v (.int .u8 ((c).toNat:Int))] (bP (x7 c)):=by
 refine bn func135 rfl ntmps135 aP fun X0 w0 bj=>?_;refine aA [0] ?_;refine az 3 ?_;refine bU 5 (fun tF O=>?_) (fun tF O=>?_)
 ·refine aG 4 ?_;refine bU 9 (fun Z U=>?_) (fun Z U=>?_)
  ·exact Im
  refine aG 3 ?_;refine bU 12 (fun I E=>?_) (fun I E=>?_)
  ·exact Yk
  exact Im
 refine aG 7 ?_;refine bU 12 (fun I E=>?_) (fun I E=>?_)
 ·exact Yk
 refine bA [2] ?_;refine fi ?_;refine⟨vb ?_,rfl⟩;rw[Bool.eq_iff_iff];simp[x7];first|done|omega
theorem afO(c:UInt8):VP Tryz.prog G 138 [.v (.int .u8 ((c).toNat:Int))] (bP (GD c)):=by
 refine bn func138 rfl ntmps138 aP fun X0 w0 bj=>?_;refine aA [0] ?_;refine az 3 ?_;refine bU 5 (fun tF E=>?_) (fun tF E=>?_)
 ·refine bA [2] ?_;refine fi ?_;refine⟨vb ?_,rfl⟩;rw[Bool.eq_iff_iff];simp[GD];first|done|omega
 refine bA [2] ?_;refine fi ?_;refine⟨vb ?_,rfl⟩;rw[Bool.eq_iff_iff];simp[GD];first|done|omega
theorem S4(c:UInt8):VP Tryz.prog G 137 [.v (.int .u8 ((c).toNat:Int))] (bP (ym c)):=by
 refine bn func137 rfl ntmps137 aP fun X0 w0 bj=>?_;refine aA [0] ?_;refine az 1 ?_;refine eB call135 (Rv c) ?_;refine aG 1 ?_;refine bU 5 (fun tF E=>?_) (fun tF E=>?_)
 ·refine dY 9 [2] [] ?_;exact⟨vb (by simp[ym, *]),rfl⟩
 refine aG 1 ?_;refine oK iR rfl rfl rfl call138 (afO c) ⟨ot,trivial⟩ ?_;refine dY 9 [2] [] ?_;exact⟨vb (by simp[ym, *]),rfl⟩
theorem UE(s:ByteArray)(g:Nat)(p:UInt8->Bool)(fH:∀args w,(callFunc g args).run Tryz.prog w = .ok (.enter g args) w)(hp:∀c,VP Tryz.prog G g [.v (.int .u8 ((c).toNat:Int))] (bP (p c)))(hs:s.size<=maxLen):VP Tryz.prog G 136 [bg s,.eK (.func g) []] (ae (G3 p s)):=by
 refine bn func136 rfl ntmps136 aP fun X0 w0 bj=>?_;simp only[maxLen] at hs;refine aA [0,1] ?_;refine aA [0,1,5] ?_;refine fa [0,1] (fun aV _ (k:Nat) aF=>(k<=s.size)/\(∀x∈s.data.toList.take k,p x=true)/\aF=(⟨20,(5,ae (k:Nat))::aV,[]⟩:St)) (fun (k:Nat)=>s.size-k) 0 ⟨(Nat.zero_le _),bp,rfl⟩ ?_;rintro k _ ⟨hk,h0,rfl⟩;refine az 5 ?_;refine bU 10 (fun I E=>?_) (fun I E=>?_)
 ·have oW:k<s.size:=(by omega)
  have y6:s[k]?=some (mZ s k):=LV oW;refine aG 3 ?_;refine pR iR rfl (Jt rfl ot ot runUnderlying9 rfl (by first|assumption|rfl)) ?_;refine my (f:=g) (args:=[_]) (all:=[_]) iR rfl rfl ot fH (hp (mZ s k)) rfl ⟨ot,trivial⟩ (fx _) ?_;rintro _ S2 ⟨rfl,rfl⟩;refine aq 20 [0,1,5,16] ?_;refine cj ?_ ?_<;>intro aM bG
  ·refine cc [0,1,5] ?_;refine⟨(k+1),_,cG,aI,w4,(Ac (by rw[lJ];exact oW) h0 (by rw[Jy];assumption)),rfl⟩
  refine dj [4] [] ?_;refine⟨vi ?_,rfl⟩;first|(rw[Gc hk h0 (fun h=>by omega)];done)|(rw[Gc hk h0 (fun h=>by assumption)];done)
 refine bA [0,1,5,16] ?_;refine gB ?_;refine aA [4] ?_;refine fi ?_;refine⟨vi ?_,rfl⟩;first|(rw[Gc hk h0 (fun h=>by omega)];done)|(rw[Gc hk h0 (fun h=>by assumption)];done)
theorem afP(E:List ByteArray)(s:ByteArray)(hlen:E.length<=maxLen):VP Tryz.prog G 139 [an 1 cS E,bg s] (ae (c9 (jf s) E)):=by
 refine bn func139 rfl ntmps139 aP fun X0 w0 bj=>?_;simp only[maxLen] at hlen;refine aA [0,1] ?_;refine aA [0,1,7,8] ?_;refine fa [0,1,7] (fun aV _ (k:Nat) aF=>(k<=E.length)/\(∀x∈E.take k,jf s x=false)/\aF=(⟨19,(8,ae (k:Nat))::aV,[]⟩:St)) (fun (k:Nat)=>E.length-k) 0 ⟨(Nat.zero_le _),bp,rfl⟩ ?_;rintro k _ ⟨hk,h0,rfl⟩;refine ax [0,1,7,8,9] ?_ ?_<;>intro aM bG
 ·have aa:k<E.length:=(by omega)
  refine aA [0,1,5,7,8] ?_;refine ax [0,1,5,7,8,16] ?_ ?_<;>intro bf cD
  ·refine dj [4] [] ?_;refine⟨vi ?_,rfl⟩;first|(rw[xW w4 h0 bf];done)|(rw[xQ w4 h0];done)
  refine cc [0,1,7,8] ?_;refine⟨(k+1),_,cG,aI,w4,(Ac w4 h0 bf),rfl⟩
 refine dj [4] [] ?_;refine⟨vi ?_,rfl⟩;first|(rw[xW w4 h0 bf];done)|(rw[xQ w4 h0];done)
theorem QK(E:List ByteArray)(s:ByteArray)(hlen:E.length<=maxLen):VP Tryz.prog G 106 [an 1 cS E,bg s] (bP (E.any (jf s))):=by
 refine bn func106 rfl ntmps106 aP fun X0 w0 bj=>?_;refine aA [0,1] ?_;refine cX [4] (afP E s hlen) ?_;refine eu [] ?_;exact⟨vb Tg,rfl⟩
theorem qo(hm:(3,marksC)∈G)(t:Tk)(hs:t.s.size<=maxLen):VP Tryz.prog G 105 [.agg (cT t)] (ae (vo t)):=by
 refine bn func105 rfl ntmps105 aP fun X0 w0 bj=>?_;unfold cT;refine bX ?_;refine cW [_,_,_] (fun b1=>?_);refine aq 53 [1] ?_;refine aA [1,3] ?_;refine aA [1,3,8] ?_;refine ax [1,3,8,9] ?_ ?_<;>intro aM bG
 ·refine iD 21 (aj _) ?_ (fun _ h=>h);refine aC 0 rfl bJ ?_;refine aC 1 rfl bJ ?_;refine dW.split (t:=12) lk (fun U=>?_) (fun U=>?_)
  ·have E:=U;(try simp only[V.oG,ne_eq] at E)
   refine aC 2 rfl (dU 1) ?_;refine aC 3 rfl (ec 0) ?_;refine aC 4 rfl qS ?_;refine aC 5 rfl yJ ?_;refine aC 6 rfl bJ ?_;refine dW.split (t:=17) lk (fun yI=>?_) (fun yI=>?_)
   ·have yl:=yI;(try simp only[V.oG,ne_eq] at yl)
    refine aC 7 rfl (dU 1) ?_;refine aC 8 rfl (ec 0) ?_;refine aC 9 rfl (Jt (c:=mZ t.s 0) rfl ot cf runUnderlying9 rfl (LV (ai7 vy))) ?_;refine dW.later rfl ?_;refine bH (i:=10) aB ?_;refine BW rfl iR rfl rfl rfl call135 (Rv _) ⟨ot,trivial⟩ ?_;refine dr 11 rfl yJ ?_;refine dr 12 rfl bJ ?_;refine FP (t:=23) lk (fun Z=>?_) (fun Z=>?_)
    ·have I:=Z;(try simp only[V.oG,ne_eq] at I)
     refine dr 13 rfl (dU 1) ?_;refine dr 16 rfl (dU 1) ?_;refine lK (i:=14) (j:=17) aB ?_ ?_
     ·refine at_ rfl (ec 0) ?_;refine lK (i:=15) (j:=17) aB ?_ ?_
      ·refine BW rfl iR rfl rfl rfl call136 (UE t.s 137 ym call137 S4 hs) ⟨ot,u4,trivial⟩ ?_;refine bH (i:=17) aB ?_;refine at_ rfl (ec 0) ?_;refine dr 18 rfl (Fh rfl rfl ot runUnderlying9) ?_;refine dr 19 rfl qS ?_;refine dr 20 rfl yJ ?_;exact Nc
      refine at_ rfl (ec 0) ?_;refine dr 18 rfl (Fh rfl rfl ot runUnderlying9) ?_;exact z130
     refine at_ rfl (ec 0) ?_;refine dr 18 rfl (Fh rfl rfl ot runUnderlying9) ?_;refine bH (i:=14) aB ?_;refine at_ rfl (ec 0) ?_;exact z130
    have I:=Z;(try simp only[V.oG,ne_eq] at I)
    exact z6
   have yl:=yI;(try simp only[V.oG,ne_eq] at yl)
   exact Ye
  have E:=U;(try simp only[V.oG,ne_eq] at E)
  refine nr 2 rfl ?_;refine nr 3 rfl ?_;refine nr 4 rfl ?_;refine aC 5 rfl wQ ?_;refine aC 6 rfl bJ ?_;exact Ye
 refine ax [1,3,8,32] ?_ ?_<;>intro bf cD
 ·refine ax [1,36] ?_ ?_<;>intro cr cU
  ·refine dj [2] [] ?_;exact Ov
  refine cc [3] ?_;exact z119
 refine ax [1,3,8,40] ?_ ?_<;>intro de eG
 ·exact z119
 refine ax [1,3,42] ?_ ?_<;>intro eo fS
 ·refine iD 7 (aj _) ?_ (fun _ h=>h);refine aC 0 rfl bJ ?_;refine aC 1 rfl bJ ?_;refine dW.split (t:=45) lk (fun No=>?_) (fun No=>?_)
  ·have O:=No;(try simp only[V.oG,ne_eq] at O)
   refine aC 2 rfl (fb (l:=0) (h:=0) rfl xX trivial trivial (by first|exact UT (ls:=GC) (g:=cS) hm rfl rfl runUnderlying208 sizeOf9 rfl w8 w8)) ?_;refine aC 3 rfl (dU 1) ?_;refine aC 4 rfl (ec 0) ?_;refine dW.later rfl ?_;refine bH (i:=5) aB ?_;refine BW rfl iR rfl rfl rfl call106 (QK GC t.s w8) ⟨ot,ot,trivial⟩ ?_;refine dr 6 rfl yJ ?_;exact Nc
  have O:=No;(try simp only[V.oG,ne_eq] at O)
  refine nr 2 rfl ?_;refine nr 3 rfl ?_;refine nr 4 rfl ?_;refine dW.later rfl ?_;refine bH (i:=5) aB ?_;refine ql rfl (nC rfl rfl rfl lk jQ) rfl ?_;refine dr 6 rfl wQ ?_;refine fD ?_;refine bA [3] ?_;refine aA [52] ?_;refine e9 ?_;exact z12
 refine dj [2] [] ?_;refine⟨vi ?_,rfl⟩;try simp only[wg] at *
 simp only[vo,pu];try simp_all
 try omega
theorem wi(hm:(3,marksC)∈G)(hw:(1,wordsC)∈G)(s:ByteArray)(hs:s.size<=maxLen):VP Tryz.prog G 61 [bg s] (ae (cR s)):=by
 refine bn func61 rfl ntmps61 aP fun X0 w0 bj=>?_;refine aA [0] ?_;refine ax [0,5] ?_ ?_<;>intro aM bG
 ·exact OC
 refine az 2 ?_;refine eB call105 (qo hm ⟨1,s,0⟩ hs) ?_;refine aG 2 ?_;refine bU 10 (fun I E=>?_) (fun I E=>?_)
 ·refine aq 15 [14] ?_;refine e9 ?_;exact OC
 refine pR iR rfl (fb (l:=0) (h:=0) rfl xX trivial trivial (by first|exact UT (ls:=wD) (g:=cS) hw rfl rfl runUnderlying177 sizeOf9 rfl w8 w8)) ?_;refine aG 1 ?_;refine oK iR rfl rfl rfl call106 (QK wD s w8) ⟨ot,ot,trivial⟩ ?_;refine aq 15 [14] ?_;refine cj ?_ ?_<;>intro bf cD
 ·exact OC
 refine dj [2] [] ?_;refine⟨vi ?_,rfl⟩;try simp only[QV] at *
 simp only[cR];first|(rw[if_pos w4];done)|(rw[if_neg w4];cases h1:pu s<;>cases h2:wD.any (jf s)<;>simp_all)
def wb(c:UInt8):UInt8:=UInt8.ofNat (97+c.toNat % 26)
theorem ajp(c:UInt8):(wb c).toNat=97+c.toNat % 26:=by
 have:c.toNat % 26<26:=Nat.mod_lt _ w8;unfold wb;rw[UInt8.toNat_ofNat'];exact Nat.mod_eq_of_lt w4
theorem ahw(c:UInt8):IntKind.u8.wrap (97+(c.toNat:Int).tmod 26)=((wb c).toNat:Int):=by
 rw[ajp];have h1:(c.toNat:Int).tmod 26=((c.toNat % 26:Nat):Int):=rfl;have:c.toNat % 26<26:=Nat.mod_lt _ w8;rw[h1];have e:(97+((c.toNat % 26:Nat):Int))=((97+c.toNat % 26:Nat):Int):=(by omega)
 rw[e];show((97+c.toNat % 26:Nat):Int) % 256=_;omega
def AH(s:ByteArray):List UInt8:=if s.size=0 then [120] else (s.data.toList.take 6).map wb
def wJ(s:ByteArray):ByteArray:=⟨(AH s).toArray⟩
theorem SQ{s:ByteArray}(h:k<s.size):(s.data.toList.take k).map wb++[wb (mZ s k)]=(s.data.toList.take (k+1)).map wb:=by
 have h':k<s.data.toList.length:=(by rw[lJ];exact h)
 rw[take_succ_eq_append_getElem h',map_append,Jy h'];rfl
theorem SX{s:ByteArray}(hk:k<=s.size)(h:k=s.size\/6<=k)(h6:k<=6):(s.data.toList.take k)=s.data.toList.take 6:=by
 rcases h with h|h
 ·rw[take_of_length_le (by rw[lJ];omega),take_of_length_le (by rw[lJ];omega)]
 rw[show k=6 by omega]
theorem adY:(Tryz.prog.info? 5).map (fun i=>(i.zero,i.size,i.bytes))=some (some (.int .u8 0),1,1):=by kernel_rfl
theorem sD(s:ByteArray)(hs:s.size<=maxLen):VP Tryz.prog G 24 [bg s] (bg (wJ s)):=by
 refine bn func24 rfl ntmps24 aP fun X0 w0 bj=>?_;simp only[maxLen] at hs;refine aA [0] ?_;refine bX ?_;refine bA [0,3] ?_;refine aA [0,3,4] ?_;refine kp ?_;refine nY (fun (E:Nat×Option Addr×Nat×List ag) aF=>match E with|(k,O,U,Sb)=>(k<=s.size)/\(k<=6)/\(bq 5 1 (((s.data.toList.take k).map wb).flatMap cB) ((s.data.toList.take k).map wb).length O U Sb)/\aF=(⟨28,[(0,bg s),(3,aN O ((s.data.toList.take k).map wb).length U),(4,ae (k:Nat))],(Sb)⟩:St)) (fun (E:Nat×Option Addr×Nat×List ag)=>match E with|(k,O,U,Sb)=>s.size-k) (0,none,0,[]) ⟨(Nat.zero_le _),(Nat.zero_le _),(bq.cast jj lW),rfl⟩ (aI (h:=Zp)) ?_;rintro⟨k,O,U,Sb⟩ _ ⟨hk,h6,Z,rfl⟩;refine az 5 ?_;refine bU 9 (fun hg9 amx=>?_) (fun hg9 amx=>?_)
 ·refine bA [0,3,4,12] ?_;refine cj ?_ ?_<;>intro aM bG
  ·refine dV 2 ?_;have oW:k<s.size:=(by omega)
   have y6:s[k]?=some (mZ s k):=LV oW;refine aG 1 ?_;refine bQ (Jt rfl ot ot runUnderlying9 rfl (by first|assumption|rfl)) ?_;refine bQ (dX rfl ot cf (KX w4)) ?_;refine bQ (dX (r:=.int .u8 ((wb (mZ s k)).toNat:Int)) rfl cf ot (lI (ahw _))) ?_;refine eH (cx 0 [_]) [.int .u8 0] [_] zeroValue5 runUnderlying86 sizeOf5 (fun Ej=>?_);refine gh 0 21 1 1 ?_;refine fY (ls:=((s.data.toList.take k).map wb)) (new:=[wb (mZ s k)]) (Sq:=Sb) qv yf av rfl rfl underlying86 adY rfl w8 ot Z (dK (A:=[])) ot bp wP iI (fun Pt I amy amz=>?_);refine bZ (ew (S1:=[⟨Pt,5,I*1,flatMap cB (((s.data.toList.take k).map wb)++[wb (mZ s k)])⟩]) (A:=[])) ?_;refine aq 28 [0,3,4] ?_;refine cc [0,3,4] ?_;refine⟨((k+1),(some ⟨Pt,0,none⟩),I,[⟨Pt,5,I*1,flatMap cB (((s.data.toList.take k).map wb)++[wb (mZ s k)])⟩]),_,cG,(aI (h:=Zp)),w4,w4,(bq.cast (bN amy amz) (by exact SQ oW)),rfl⟩
  refine ax [3,25] ?_ ?_<;>intro bf cD
  ·refine aA [2] ?_;refine fi ?_;exact OB
  refine az 1 ?_;refine qn (t:=26) (Sq:=Sb) lk Z (cz qv _) (dK (A:=[])) ?_;refine bQ D7 ?_;refine dY 28 [2] [] ?_;exact OB
 refine bA [0,3,4,12] ?_;refine gB ?_;refine ax [3,25] ?_ ?_<;>intro bf cD
 ·refine aA [2] ?_;refine fi ?_;exact OB
 refine az 1 ?_;refine qn (t:=26) (Sq:=Sb) lk Z (cz qv _) (dK (A:=[])) ?_;refine bQ D7 ?_;refine dY 28 [2] [] ?_;refine⟨vs ?_,rfl⟩;have Bs:k=s.size\/6<=k:=(by omega)
 have M7:min k s.size=k:=Nat.min_eq_left hk;simp only[length_map,length_take,lJ,M7] at *;unfold wJ AH;first|(rw[if_pos w4];done)|(rw[if_neg w4,SX hk Bs h6])
abbrev MarksTab(w:World):Prop:=Tab.nH w 3 marksC
end Nm
namespace Pk
open Go.Proofs.Tryz
open Go.RowKit V
def cH(n m:Int):Int:=if n<0 then (-(n+1)).tmod m else n.tmod m
theorem j7(n:Int){m:Int}(h:1<=m):0<=cH n m/\cH n m<m:=by
 have key:∀k:Int,0<=k->0<=k.tmod m/\k.tmod m<m:=fun k hk=>⟨Int.tmod_nonneg _ hk,Int.tmod_lt_of_pos _ w4⟩
 unfold cH;split
 ·exact key _ w4
 exact key _ w4
variable (G:List (Nat×List Value))
theorem l7(n m:Int)(hn:-9223372036854775808<=n)(iS:n<=9223372036854775807)(hm:1<=m):VP Tryz.prog G 16 [ae n,ae m] (ae (cH n m)):=by
 refine bn func16 rfl ntmps16 aP fun X0 w0 bj=>?_;refine aA [0,1] ?_;refine ax [0,1,6] ?_ ?_<;>intro aM bG
 ·refine jg [0,1] ?_;refine aT 2 ?_ (h:=by exact(FM rfl ot (LS (r:=-(n+1)) (by rw[wrap_i64]<;>omega))));refine bL ?_;refine cN [4] ?_;refine aT 2 ?_ (h:=by exact(dX rfl ot ot (KX w4)));refine bL ?_;refine eu [] ?_;exact⟨by unfold cH;split<;>first|rfl|omega,rfl⟩
 refine cN [4] ?_;refine aT 2 ?_ (h:=by exact(dX rfl ot ot (KX w4)));refine bL ?_;refine eu [] ?_;exact⟨by unfold cH;split<;>first|rfl|omega,rfl⟩
end Pk
namespace Nm
open Go.Proofs.Tryz
open Go.RowKit V Pk
variable {l:List UInt8}
theorem mk_data(l:List UInt8):(⟨l.toArray⟩:ByteArray).data.toList=l:=rfl
theorem K4(l:List UInt8):(⟨l.toArray⟩:ByteArray).size=l.length:=by rw[<-lJ]
theorem adZ(s:ByteArray):1<=(AH s).length/\(AH s).length<=6:=by
 unfold AH;split
 ·exact⟨by decide,by decide⟩
 rw[length_map,length_take,lJ];omega
theorem Qz{p:UInt8->Bool}:∀{l:List UInt8},(∀c∈l,p c=true)->l.takeWhile p=l
 | [],_=>rfl
 | a::l,h=>by rw[takeWhile_cons,if_pos (h a mem_cons_self),Qz fun c hc=>h c (mem_cons_of_mem _ hc)]
theorem QD{c:UInt8}(h:97<=c.toNat/\c.toNat<=122):x7 c=true:=by unfold x7;exact decide_eq_true (.inl h)
theorem afQ(h1:1<=l.length)(h:∀c∈l,97<=c.toNat/\c.toNat<=122):pu ⟨l.toArray⟩=true:=by
 unfold pu G3;rw[K4,mk_data,Qz fun c hc=>by unfold ym;rw[QD (h c hc)];rfl];have h0:mZ ⟨l.toArray⟩ 0∈l:=by
  exact X7
 rw[QD (h _ h0)];have:l.length≠0:=(by omega)
 simp[this]
theorem acw:∀x∈wD,(mZ x 0).toNat<=90:=by decide
theorem acX(h1:1<=l.length)(h:∀c∈l,97<=c.toNat/\c.toNat<=122):wD.any (jf ⟨l.toArray⟩)=false:=by
 rw[any_eq_false];intro x hx he;have he:=wo.1 he;have h0:mZ ⟨l.toArray⟩ 0∈l:=by
  exact X7
 have:=h _ h0;have h2:=acw x hx;rw[<-he] at h2;omega
theorem uZ(h1:1<=l.length)(E:l.length<=8)(h:∀c∈l,97<=c.toNat/\c.toNat<=122):cR ⟨l.toArray⟩=0:=by
 unfold cR;rw[K4,if_neg w4,afQ h1 h,acX h1 h];rfl
theorem acY(s:ByteArray):1<=(wJ s).size/\(wJ s).size<=6:=by unfold wJ;rw[K4];exact adZ s
variable {G:List (Nat×List Value)}
abbrev WordsTab(w:World):Prop:=Tab.nH w 1 wordsC
end Nm
namespace Vl
open Go.Proofs.Tryz
open Go.RowKit V Pk
structure Vl where
 k:Int
 n:Int
 s:ByteArray
def cV(v:Vl):List D:=[ae v.k,ae v.n,bg v.s]
theorem fQ(v:Vl):(cV v).length=3:=rfl
theorem GF(v:Vl):(cV v).all V.one=true:=rfl
structure Vl.Ok (v:Vl):Prop where
 k1:-9223372036854775808<=v.k
 k2:v.k<=9223372036854775807
 n1:-9223372036854775808<=v.n
 n2:v.n<=9223372036854775807
 s:v.s.size<=maxLen
def aU:Vl:=⟨0,0,⟨#[]⟩⟩
def bY(v:Vl):Int :=
 if v.k=0 then (if v.n≠0\/v.s.size≠0 then 6 else 0)
 else if v.k=1 then (if v.n<0\/v.n>1\/v.s.size≠0 then 6 else 0)
 else if v.k=2 then (if v.s.size≠0 then 6 else 0)
 else if v.k=3 then (if v.n≠0 then 6 else if v.s.size>20 then 1 else 0)
 else 2
theorem Vl.ext'{x y:Vl}(h1:x.k=y.k)(h2:x.n=y.n)(h3:x.s=y.s):x=y:=by cases x;cases y;simp only at h1 h2 h3;subst h1 h2 h3;rfl
def tG(x y:Vl):Bool:=x.k==y.k&&(x.n==y.n&&x.s.toList==y.s.toList)
theorem U2{x y:Vl}:tG x y=true↔x=y:=by
 unfold tG;rw[Bool.and_eq_true,Bool.and_eq_true,beq_iff_eq,beq_iff_eq];constructor
 ·rintro⟨h1,h2,h3⟩;exact Vl.ext' h1 h2 (wo.1 h3)
 rintro rfl;exact⟨rfl,rfl,wo.2 rfl⟩
def nj(s:ByteArray)(m:Nat):ByteArray:=s.extract 0 (min s.size m)
def px(r:Vl):Vl :=
 if cH r.k 4=1 then ⟨1,cH r.n 2,⟨#[]⟩⟩
 else if cH r.k 4=2 then ⟨2,r.n,⟨#[]⟩⟩
 else if cH r.k 4=3 then ⟨3,0,nj r.s 10⟩
 else aU
theorem Rx(s:ByteArray)(m:Nat):(nj s m).data.toList=s.data.toList.take m:=by
 unfold nj;rw[ByteArray.data_extract,Array.toList_extract];simp only[extract_eq_take_drop,drop_zero,Nat.sub_zero];rw[<-lJ];rcases Nat.le_total s.data.toList.length m with h|h
 ·rw[Nat.min_eq_left h,take_length,take_of_length_le h]
 rw[Nat.min_eq_right h]
theorem Fw(s:ByteArray)(m:Nat):(nj s m).size=min s.size m:=by
 rw[<-lJ,Rx,length_take,lJ,Nat.min_comm]
variable {G:List (Nat×List Value)}
theorem qo(v:Vl):VP Tryz.prog G 107 [.agg (cV v)] (ae (bY v)):=by
 refine bn func107 rfl ntmps107 aP fun X0 w0 bj=>?_;unfold cV;refine bX ?_;refine cW [_,_,_] (fun b1=>?_);refine aq 44 [1] ?_;refine aA [1,4] ?_;refine ax [1,4,5] ?_ ?_<;>intro aM bG
 ·refine az 4 ?_;refine bU 10 (fun U E=>?_) (fun U E=>?_)
  ·refine bA [14] ?_;refine e9 ?_;exact z116
  refine bA [14] ?_;refine cj ?_ ?_<;>intro bf cD
  ·exact z116
  exact z116
 refine ax [1,4,15] ?_ ?_<;>intro cr cU
 ·refine az 4 ?_;refine bU 20 (fun Z I=>?_) (fun Z I=>?_)
  ·refine bA [29] ?_;refine e9 ?_;exact z116
  refine aG 5 ?_;refine bU 25 (fun amA O=>?_) (fun amA O=>?_)
  ·refine bA [29] ?_;refine e9 ?_;exact z116
  refine bA [29] ?_;refine cj ?_ ?_<;>intro de eG
  ·exact z116
  exact z116
 refine ax [1,4,30] ?_ ?_<;>intro eo fS
 ·refine ax [34] ?_ ?_<;>intro gk iC
  ·exact C9
  exact C9
 refine ax [1,35] ?_ ?_<;>intro iQ qa
 ·refine ax [1,39] ?_ ?_<;>intro jn nK
  ·exact C9
  refine ax [43] ?_ ?_<;>intro qP Bc
  ·exact C9
  exact C9
 refine dj [2] [] ?_;refine⟨vi ?_,rfl⟩;try simp only[wg] at *
 unfold bY;simp_all;try omega
theorem GA(s:ByteArray)(m:Nat)(hs:s.size<=maxLen):VP Tryz.prog G 25 [bg s,ae (m:Int)] (bg (nj s m)):=by
 refine bn func25 rfl ntmps25 aP fun X0 w0 bj=>?_;simp only[maxLen] at hs;refine aA [0,1] ?_;refine cN [4] ?_;refine aT 4 ?_ (h:=by exact(abZ (r:=.int .i64 ((min s.size m:Nat):Int)) rfl ot ot (fun cs w=>(ai1 cs w).trans (by split<;>(congr 3;omega)))));refine aT 0 ?_ (h:=by exact(fb (l:=0) rfl ot trivial ⟨_,ot⟩ (by first|exact ai5 (fun _=>rfl) (fun h=>by cases h) runUnderlying9 w4 w4)));refine bL ?_;refine eu [] ?_;exact⟨by first|rfl|(simp[*];done),rfl⟩
theorem SZ(r:Vl)(h:r.Ok):VP Tryz.prog G 55 [.agg (cV r)] (.agg (cV (px r))):=by
 refine bn func55 rfl ntmps55 aP fun X0 w0 bj=>?_;unfold cV;refine bX ?_;refine cW [_,_,_] (fun b1=>?_);refine dF (ds:=[_,_,_]) av rfl rfl zeroValue56 rfl (fun b2=>?_);refine aq 29 [1,2] ?_;refine cX [1,2,3] (l7 G r.k 4 h.k1 h.k2 w8) ?_;refine aA [1,2,3,7] ?_;refine ax [1,2,3,7,8] ?_ ?_<;>intro aM bG
 ·refine az 3 ?_;refine eB call16 (l7 G r.n 2 h.n1 h.n2 w8) ?_;refine aG 1 ?_;exact OF
 refine ax [1,2,3,7,15] ?_ ?_<;>intro bf cD
 ·refine az 4 ?_;exact OF
 refine ax [1,2,3,21] ?_ ?_<;>intro cr cU
 ·refine az 3 ?_;refine eB call25 (GA r.s 10 h.s) ?_;refine aG 1 ?_;exact OF
 refine az 1 ?_;refine aR 0 [_,_,_] sizeOf56 ?_;refine dY 29 [2] [] ?_;refine⟨?_,rfl⟩;unfold px aU;simp_all
end Vl
namespace Nm
open Go.Proofs.Tryz
open Go.RowKit V Pk Vl
variable {i:Nat} {h:Int}
theorem akR(x y:Vl):∀w,(Op.equalIn 10000 56 (.agg [.int .i64 x.k,.int .i64 x.n,.string x.s].toArray) (.agg [.int .i64 y.k,.int .i64 y.n,.string y.s].toArray)).run Tryz.prog w = .ok (x.k==y.k&&(x.n==y.n&&x.s.toList==y.s.toList)) w:=fun w=>by
 have hS:Tryz.prog.underlying 56=some (.struct (Tryz.prog.fieldsOf 56)):=(by kernel_rfl)
 have hp:Tryz.prog.stoodInHeld 56=false:=(by kernel_rfl)
 rw[show(10000:Nat)=9999+1 from rfl,run_equalIn_agg w 9999 56 _ _ hS hp];have u:=underlying56;have E:=underlying3;have I:=underlying9;have O:=isAgg3;have U:=isAgg9;have Z:=sizeOf3;have z9:=sizeOf9;simp only[Program.fieldsOf,u];go_simp
 by_cases h1:x.k=y.k<;>by_cases h2:x.n=y.n<;>by_cases h3:x.s.toList=y.s.toList<;>simp[h1,h2,h3]
def jy(v:Vl):Int:=if v.k=2/\v.n = -9223372036854775808 then 3 else bY v
structure aH where
 k:Int
 v:Vl
 nm:ByteArray
variable {l:List aH}
def cO(o:aH):List D:=[ae o.k,ae o.v.k,ae o.v.n,bg o.v.s,bg o.nm]
theorem mY(o:aH):(cO o).length=5:=rfl
theorem At(o:aH):(cO o).all V.one=true:=rfl
def bu(k:Int):Int:=if k=1\/k=2 then 0 else if k=5\/k=11 then 1 else 2
theorem rz(k:Int):0<=bu k/\bu k<=2:=by unfold bu;split<;>(try split)<;>omega
def zeroV(v:Vl):Bool:=v.k==0&&(v.n==0&&v.s.toList==(⟨#[]⟩:ByteArray).toList)
def gG(h:Int)(o:aH):Int :=
 if o.k<1\/o.k>11 then 2
 else if jy o.v≠0 then jy o.v
 else if ((o.k != 1 && !(zeroV o.v))||(o.k != 2 && !(o.nm.toList==(⟨#[]⟩:ByteArray).toList)))=true then 6
 else if o.k=2/\cR o.nm≠0 then cR o.nm
 else if h<bu o.k then 7 else 0
def gb:Int->List aH->Int
 | h,[]=>if h=1 then 0 else 7
 | h,o::r=>if gG h o=0 then gb (h+(1-bu o.k)) r else gG h o
def fR(l:List aH):Int:=if l.length>40 then 10 else gb 0 l
theorem Tu(hi:i<l.length)(he:gG h l[i]=0):gb h (l.drop i)=gb (h+(1-bu l[i].k)) (l.drop (i+1)):=by
 rw[drop_eq_getElem_cons hi,gb,if_pos he]
theorem SU{e:Int}(hi:i<l.length)(he:gG h l[i]=e)(h0:e≠0):gb h (l.drop i)=e:=by
 rw[drop_eq_getElem_cons hi,gb,if_neg (by rw[he];exact h0),he]
theorem Ry(hi:l.length<=i):gb h (l.drop i)=if h=1 then 0 else 7:=by
 rw[drop_of_length_le hi,gb]
variable {G:List (Nat×List Value)}
theorem Q0(v:Vl):VP Tryz.prog G 100 [.agg (cV v)] (ae (jy v)):=by
 refine bn func100 rfl ntmps100 aP fun X0 w0 bj=>?_;unfold cV;refine bX ?_;refine cW [_,_,_] (fun b1=>?_);refine aq 13 [1] ?_;refine az 4 ?_;refine bU 6 (fun I E=>?_) (fun I E=>?_)
 ·refine bA [1,10] ?_;refine cj ?_ ?_<;>intro aM bG
  ·refine aA [2] ?_;refine fi ?_;refine⟨vi ?_,rfl⟩;unfold jy;simp_all
  refine cX [2] (Vl.qo v) ?_;refine fi ?_;refine⟨vi ?_,rfl⟩;unfold jy;simp_all
 refine bA [1,10] ?_;refine gB ?_;refine cX [2] (Vl.qo v) ?_;refine fi ?_;refine⟨vi ?_,rfl⟩;unfold jy;simp_all
theorem K5(k:Int):VP Tryz.prog G 101 [ae k] (ae (bu k)):=by
 refine bn func101 rfl ntmps101 aP fun X0 w0 bj=>?_;exact ZO
theorem K6(hm:(3,marksC)∈G)(hw:(1,wordsC)∈G)(l:List aH)(hs:∀o∈l,o.nm.size<=maxLen):VP Tryz.prog G 57 [an 5 cO l] (ae (fR l)):=by
 refine bn func57 rfl ntmps57 aP fun X0 w0 bj=>?_;have hlx:l.length<=40\/40<l.length:=(by omega)
 refine aA [0] ?_;refine ax [0,10] ?_ ?_<;>intro aM bG
 ·have hf:fR l=10:=if_pos w4;refine dj [2] [] ?_;exact Ow
 have hf:fR l=gb 0 l:=if_neg w4;have qZ:l.length<=40:=(by omega)
 refine aA [0,3] ?_;refine aA [3,11,12,13] ?_;refine fa [11,12] (fun aV _ (Z:Nat×Int) aF=>match Z with|(i,h)=>(i<=l.length)/\(gb 0 l=gb h (l.drop i))/\(0<=h)/\(h<=i)/\aF=(⟨73,(3,ae h)::(13,ae (i:Nat))::aV,[]⟩:St)) (fun (Z:Nat×Int)=>match Z with|(i,h)=>l.length-i) (0,0) ⟨(Nat.zero_le _),rfl,(Int.le_refl _),(Int.le_refl _),rfl⟩ ?_;rintro⟨i,h⟩ _ ⟨hi,hx,h0,hh,rfl⟩;refine ax [3,11,12,13,14] ?_ ?_<;>intro bf cD
 ·have aa:i<l.length:=(by omega)
  have Ek:=rz l[i].k;refine az 2 ?_;refine dF (ds:=[_,_,_,_,_]) av rfl rfl zeroValue58 rfl (fun b5=>?_);refine aR 0 [_,_,_,_,_] sizeOf58 ?_;refine aq 73 [3,5,11,12,13] ?_;refine az 4 ?_;refine bU 20 (fun amB Mw=>?_) (fun amB Mw=>?_)
  ·refine bA [3,5,11,12,13,24] ?_;refine e9 ?_;have yG:gG h l[i]=2:=(by unfold gG;rw[if_pos w4])
   exact A7
  refine bA [3,5,11,12,13,24] ?_;refine cj ?_ ?_<;>intro cr cU
  ·have yG:gG h l[i]=2:=(by unfold gG;rw[if_pos w4])
   exact A7
  have cl:¬(l[i].k<1\/l[i].k>11):=(by omega)
  refine cX [3,5,6,11,12,13] (Q0 l[i].v) ?_;refine ax [3,5,6,11,12,13,29] ?_ ?_<;>intro de eG
  ·have E:jy l[i].v≠0:=(by simpa using de)
   have yG:gG h l[i]=jy l[i].v:=(by unfold gG;rw[if_neg cl,if_pos E])
   exact A7
  have E:jy l[i].v=0:=(by simpa using de)
  refine en ?_;refine cQ ?_;refine iT [3,5,11,12,13] (fun aV oI aF=>∃(q:Bool),(q=((l[i].k != 1 && !(zeroV l[i].v))||(l[i].k != 2 && !(l[i].nm.toList==(⟨#[]⟩:ByteArray).toList))))/\aF=(⟨73,(49,bP q)::aV,oI⟩:St)) ?_ ?_
  ·refine dV 4 ?_;refine bU 34 (fun amC akS=>?_) (fun amC akS=>?_)
   ·refine aG 3 ?_;refine pR iR rfl (adP (us:=[_,_,_]) (OM:=[_,_,_]) rfl ot ot eqGuardType56 (akR l[i].v ⟨0,0,⟨#[]⟩⟩)) ?_;refine aG 2 ?_;refine bU 40 (fun Nb Mr=>?_) (fun Nb Mr=>?_)
    ·refine aq 73 [3,5,11,12,13,49] ?_;exact DT
    refine aG 4 ?_;refine bU 44 (fun Dj I=>?_) (fun Dj I=>?_)
    ·refine aq 73 [3,5,11,12,13,49] ?_;exact DT
    refine aq 73 [3,5,11,12,13,49] ?_;exact DT
   refine zn 4 ?_;refine aG 6 ?_;refine bU 44 (fun Dj I=>?_) (fun Dj I=>?_)
   ·refine bA [3,5,11,12,13,49] ?_;exact DT
   refine bA [3,5,11,12,13,49] ?_;exact DT
  rintro _ ⟨q,hq,rfl⟩;refine cj ?_ ?_<;>intro eo fS
  ·have yG:gG h l[i]=6:=(by unfold gG;rw[if_neg cl,if_neg (by rw[E];simp),if_pos (by rw[<-hq];exact eo)])
   exact A7
  have O:¬((l[i].k != 1 && !(zeroV l[i].v))||(l[i].k != 2 && !(l[i].nm.toList==(⟨#[]⟩:ByteArray).toList)))=true:=(by rw[<-hq,eo];simp)
  refine en ?_;refine iT [3,5,11,12,13] (fun aV oI aF=>(¬(l[i].k=2/\cR l[i].nm≠0))/\aF=(⟨73,aV,oI⟩:St)) ?_ ?_
  ·refine ax [3,5,11,12,13,52] ?_ ?_<;>intro gk iC
   ·refine cX [3,5,7,11,12,13] (wi hm hw l[i].nm (hs _ (getElem_mem aa))) ?_;refine ax [3,5,7,11,12,13,57] ?_ ?_<;>intro iQ qa
    ·have BI:cR l[i].nm≠0:=(by simpa using iQ)
     have yG:gG h l[i]=cR l[i].nm:=(by unfold gG;rw[if_neg cl,if_neg (by rw[E];simp),if_neg O,if_pos ⟨by simpa using gk,BI⟩])
     exact A7
    have U:¬(l[i].k=2/\cR l[i].nm≠0):=(by simp at iQ;simp[iQ])
    refine en ?_;refine⟨_,aI,U,rfl⟩
   have U:¬(l[i].k=2/\cR l[i].nm≠0):=(by simp at gk;simp[gk])
   refine en ?_;refine⟨_,aI,U,rfl⟩
  rintro _ ⟨U,rfl⟩;refine cX [3,5,11,12,13,63] (K5 l[i].k) ?_;refine cj ?_ ?_<;>intro jn nK
  ·have D4:h<bu l[i].k:=(by simpa using jn)
   have yG:gG h l[i]=7:=(by unfold gG;rw[if_neg cl,if_neg (by rw[E];simp),if_neg O,if_neg U,if_pos D4])
   exact A7
  have D4:¬h<bu l[i].k:=(by simpa using jn)
  have aQ:gG h l[i]=0:=(by unfold gG;rw[if_neg cl,if_neg (by rw[E];simp),if_neg O,if_neg U,if_neg D4])
  refine jg [3,11,12,13] ?_;refine cL (K5 l[i].k) ?_;refine bL ?_;refine cc [3,11,12,13] ?_;refine⟨((i+1),(h+(1-bu l[i].k))),_,cG,aI,w4,(by rw[hx];exact Tu aa aQ),w4,(by have:=rz l[i].k;omega),rfl⟩
 have fw:=hx.trans (Ry (show l.length<=i by omega));refine ax [72] ?_ ?_<;>intro qP Bc
 ·refine dj [2] [] ?_;exact Ow
 refine dj [2] [] ?_;refine⟨vi ?_,rfl⟩;first|exact hf.symm|(rw[hf,hx,SU aa yG (by first|assumption|decide)];done)|(rw[hf,fw,if_pos (by simpa using qP)];done)|(rw[hf,fw,if_neg (by simpa using qP)];done)
end Nm
end Go.Proofs.YtbplamgacibdaaaGreatDoor
namespace Go.Proofs
open Go.Shelf
def Tryz.acy:Go.Shelf.Ren:=⟨fun|106=>148|213=>167|265=>179|n=>n,fun|9=>9|3=>3|n=>n,fun|n=>n⟩
theorem Tryz.ahx:Go.Proofs.Lays.n106 Tryz.prog Tryz.acy:={
 mixed:=by kernel_rfl
 f106:=Tryz.func148.trans (congrArg some (by kernel_rfl))
 f213:=Tryz.func167.trans (congrArg some (by kernel_rfl))
 f265:=Tryz.func179.trans (congrArg some (by kernel_rfl))
 t3:=Tryz.underlying3
 a3:=Tryz.isAgg3
 z3:=Tryz.sizeOf3
 v3:=Tryz.zeroValue3
 t9:=Tryz.underlying9
 a9:=Tryz.isAgg9
 z9:=Tryz.sizeOf9
 v9:=Tryz.zeroValue9}
open Go.RowKit in
theorem Tryz.strings_Compare(a b:ByteArray)(w:World) :
  Calls Tryz.prog 148 #[.string a,.string b] w fun e w'=>e = .returned (.int .i64 (Lib.compareBytes a.data.toList b.data.toList))/\w'=w:=Any.strings_Compare Tryz.ahx a b w
def Tryz.QL:Go.Shelf.Ren:=⟨fun|155=>118|154=>142|138=>155|165=>156|143=>157|166=>158|197=>159|169=>160|195=>172|218=>173|240=>174|241=>175|219=>176|260=>177|276=>180|277=>181|217=>182|225=>183|224=>184|267=>185|266=>186|314=>187|n=>n,fun|9=>9|3=>3|4=>4|72=>229|0=>0|76=>233|105=>235|21=>21|5=>5|70=>227|20=>20|37=>86|75=>232|127=>249|164=>250|46=>210|119=>253|139=>256|138=>255|146=>258|51=>257|80=>237|n=>n,fun|1=>2|3=>4|4=>5|n=>n⟩
theorem Tryz.ahy:Go.Proofs.Lays.n155 Tryz.prog Tryz.QL:={
 mixed:=by kernel_rfl
 f138:=Tryz.func155.trans (congrArg some (by kernel_rfl))
 f143:=Tryz.func157.trans (congrArg some (by kernel_rfl))
 f154:=Tryz.func142.trans (congrArg some (by kernel_rfl))
 f155:=Tryz.func118.trans (congrArg some (by kernel_rfl))
 f165:=Tryz.func156.trans (congrArg some (by kernel_rfl))
 f166:=Tryz.func158.trans (congrArg some (by kernel_rfl))
 f169:=Tryz.func160.trans (congrArg some (by kernel_rfl))
 f195:=Tryz.func172.trans (congrArg some (by kernel_rfl))
 f197:=Tryz.func159.trans (congrArg some (by kernel_rfl))
 f217:=Tryz.func182.trans (congrArg some (by kernel_rfl))
 f218:=Tryz.func173.trans (congrArg some (by kernel_rfl))
 f219:=Tryz.func176.trans (congrArg some (by kernel_rfl))
 f224:=Tryz.func184.trans (congrArg some (by kernel_rfl))
 f225:=Tryz.func183.trans (congrArg some (by kernel_rfl))
 f240:=Tryz.func174.trans (congrArg some (by kernel_rfl))
 f241:=Tryz.func175.trans (congrArg some (by kernel_rfl))
 f260:=Tryz.func177.trans (congrArg some (by kernel_rfl))
 f266:=Tryz.func186.trans (congrArg some (by kernel_rfl))
 f267:=Tryz.func185.trans (congrArg some (by kernel_rfl))
 f276:=Tryz.func180.trans (congrArg some (by kernel_rfl))
 f277:=Tryz.func181.trans (congrArg some (by kernel_rfl))
 f314:=Tryz.func187.trans (congrArg some (by kernel_rfl))
 t0:=Tryz.underlying0
 a0:=Tryz.isAgg0
 z0:=Tryz.sizeOf0
 v0:=Tryz.zeroValue0
 t3:=Tryz.underlying3
 a3:=Tryz.isAgg3
 z3:=Tryz.sizeOf3
 v3:=Tryz.zeroValue3
 t4:=Tryz.underlying4
 a4:=Tryz.isAgg4
 z4:=Tryz.sizeOf4
 v4:=Tryz.zeroValue4
 t5:=Tryz.underlying5
 a5:=Tryz.isAgg5
 z5:=Tryz.sizeOf5
 v5:=Tryz.zeroValue5
 t9:=Tryz.underlying9
 a9:=Tryz.isAgg9
 z9:=Tryz.sizeOf9
 v9:=Tryz.zeroValue9
 t20:=Tryz.underlying20
 a20:=Tryz.isAgg20
 z20:=Tryz.sizeOf20
 v20:=Tryz.zeroValue20
 t21:=Tryz.underlying21
 a21:=Tryz.isAgg21
 z21:=Tryz.sizeOf21
 v21:=Tryz.zeroValue21
 t37:=Tryz.underlying86
 a37:=Tryz.isAgg86
 z37:=Tryz.sizeOf86
 v37:=Tryz.zeroValue86
 t46:=Tryz.underlying210
 a46:=Tryz.isAgg210
 z46:=Tryz.sizeOf210
 v46:=Tryz.zeroValue210
 t51:=Tryz.underlying257
 a51:=Tryz.isAgg257
 z51:=Tryz.sizeOf257
 v51:=Tryz.zeroValue257
 t70:=Tryz.underlying227
 a70:=Tryz.isAgg227
 z70:=Tryz.sizeOf227
 v70:=Tryz.zeroValue227
 t72:=Tryz.underlying229
 a72:=Tryz.isAgg229
 z72:=Tryz.sizeOf229
 v72:=Tryz.zeroValue229
 t75:=Tryz.underlying232
 a75:=Tryz.isAgg232
 z75:=Tryz.sizeOf232
 v75:=Tryz.zeroValue232
 t76:=Tryz.underlying233
 a76:=Tryz.isAgg233
 z76:=Tryz.sizeOf233
 v76:=Tryz.zeroValue233
 t105:=Tryz.underlying235
 a105:=Tryz.isAgg235
 z105:=Tryz.sizeOf235
 v105:=Tryz.zeroValue235
 t119:=Tryz.underlying253
 a119:=Tryz.isAgg253
 z119:=Tryz.sizeOf253
 t127:=Tryz.underlying249
 a127:=Tryz.isAgg249
 z127:=Tryz.sizeOf249
 v127:=Tryz.zeroValue249
 t138:=Tryz.underlying255
 a138:=Tryz.isAgg255
 z138:=Tryz.sizeOf255
 v138:=Tryz.zeroValue255
 t139:=Tryz.underlying256
 a139:=Tryz.isAgg256
 z139:=Tryz.sizeOf256
 v139:=Tryz.zeroValue256
 t146:=Tryz.underlying258
 a146:=Tryz.isAgg258
 z146:=Tryz.sizeOf258
 v146:=Tryz.zeroValue258
 t164:=Tryz.underlying250
 a164:=Tryz.isAgg250
 z164:=Tryz.sizeOf250
 v164:=Tryz.zeroValue250
 g1:=by kernel_rfl
 g3:=by kernel_rfl
 g4:=by kernel_rfl}
theorem Tryz.abC:Builder.Extra Tryz.prog Tryz.QL:={
 sizeBuilder:=by kernel_rfl
 liesBuilder:=by kernel_rfl
 t5:=Tryz.underlying5
 a5:=Tryz.isAgg5
 z5:=Tryz.sizeOf5
 v5:=Tryz.zeroValue5
 infoByte:=by kernel_rfl
 cellsByte:=by kernel_rfl
 sizeByte:=by kernel_rfl
 neB5:=by decide}
open Go.RowKit Go.Lib in
theorem Tryz.strings_ReplaceAll(s old new:ByteArray)(m:Int)(w:World)(hs:s.size<4294967281)(hm:w.cell? ⟨2,0,none⟩=some (.int .i64 m))(h1:1<=old.size)(hlen:s.size+Lib.countB s old*new.size<=140737488355328) :
  Calls Tryz.prog 118 #[.string s,.string old,.string new] w fun e w' =>
   e = .returned (.string ⟨(Lib.replaceAll s.data.toList old.data.toList new.data.toList).toArray⟩)/\Below w.heap.size w w':=Any.strings_ReplaceAll Tryz.ahy Tryz.abC s old new m w hs hm h1 hlen
end Go.Proofs
namespace Go.Proofs.YtbplamgacibdaaaGreatDoor
namespace Cd
open List
open Go.Proofs.Tryz
open Go.RowKit V Pk Vl
section
variable {v:Vl}
theorem Tv(c:UInt8)(new:List UInt8):∀s:List UInt8,Lib.replaceK [c] new (s.count c) s=s.flatMap fun b=>if b=c then new else [b]
 | []=>rfl
 | b::l=>by
  have E:=Tv c new l;by_cases h:b=c
  ·subst h;have hi:Lib.index (b::l) [b]=((0:Nat):Int):=(by rw[Lib.index_one];simp[Lib.indexByte])
   rw[count_cons_self,Lib.replaceK_hit _ _ _ _ _ hi,flatMap_cons,if_pos rfl,<-E];simp
  have hc:(b::l).count c=l.count c:=count_cons_of_ne h;rw[hc,flatMap_cons,if_neg h,<-E];cases hk:l.count c with
  | zero=>rfl
  | succ k =>
   obtain⟨i,hi⟩:=Lib.index_of_count (s:=l) (old:=[c]) (by rw[Lib.count_one];omega);have gE:Lib.index (b::l) [c]=((i+1:Nat):Int):=by
    rw[Lib.index_one] at hi |-;unfold Lib.indexByte;rw[if_neg nS,hi,if_neg (by rw[beq_iff_eq];omega)];omega
   rw[Lib.replaceK_hit _ _ _ _ _ gE,Lib.replaceK_hit _ _ _ _ _ hi];simp
def wF(c:UInt8)(new:List UInt8)(s:ByteArray):ByteArray:=⟨(s.data.toList.flatMap fun b=>if b=c then new else [b]).toArray⟩
theorem acz(c:UInt8)(new s:List UInt8):Lib.replaceAll s [c] new=s.flatMap fun b=>if b=c then new else [b]:=by
 unfold Lib.replaceAll Lib.replace Lib.replaceNum;split
 ·rename_i h;have h':[c]=new:=(by simpa using h)
  subst h';induction s with
  | nil=>rfl
  | cons b l ih =>
   rw[flatMap_cons,<-ih];have:(if b=c then [c] else [b])=[b]:=by
    split
    ·rename_i e;rw[e]
    rfl
   rw[this];rfl
 rw[if_pos (.inl w8),Lib.count_one,Tv]
variable {G:List (Nat×List Value)} {m:Int}
theorem ahz(hG:(2,[Value.int .i64 m])∈G)(c:UInt8)(new:ByteArray)(s:ByteArray)(hs:s.size<=1000000)(hn:new.size<=1000):VP Tryz.prog G 118 [bg s,bg ⟨#[c]⟩,bg new] (bg (wF c new.data.toList s)):=by
 have hc:Lib.countB s ⟨#[c]⟩<=1000000:=by
  show Lib.count s.data.toList [c]<=1000000;rw[Lib.count_one];exact Nat.le_trans count_le_length (by rw[lJ];exact hs)
 have I:Lib.countB s ⟨#[c]⟩*new.size<=1000000*1000:=Nat.mul_le_mul hc hn;have key:=VP.UX (P:=Tryz.prog) (G:=G) (f:=118) (vs:=[.string s,.string ⟨#[c]⟩,.string new]) (v:=.string (wF c new.data.toList s)) fun w E=>by
  refine(Tryz.strings_ReplaceAll s ⟨#[c]⟩ new m w w4 (E _ hG 0 _ rfl) (Nat.le_refl _) w4).mono fun e w' ⟨h1,h2⟩=>⟨?_,h2⟩
  rw[h1];congr 2;show(⟨(Lib.replaceAll s.data.toList [c] new.data.toList).toArray⟩:ByteArray)=_;rw[acz];rfl
 exact key
def kb(v:Vl):UInt8:=UInt8.ofNat v.k.toNat
def nb(v:Vl):UInt8:=UInt8.ofNat v.n.toNat
def uN(v:Vl):Nat:=(v.n+9223372036854775808).toNat
def yO(u k:Nat):UInt8:=UInt8.ofNat (u/256 ^ (7-k))
def mh(u:Nat):List UInt8:=(range 8).map (yO u)
def p9(s:List UInt8):List UInt8:=s.flatMap fun b=>if b=0 then [0,255] else [b]
def sX(v:Vl):List UInt8:=if v.k=1 then [nb v] else if v.k=2 then mh (uN v) else if v.k=3 then p9 v.s.data.toList++[0,0] else []
def p8(v:Vl):List UInt8:=kb v::sX v
def dL(l:List Vl):List UInt8:=l.flatMap p8
def uv:List Vl->Int
 | []=>0
 | v::r=>if bY v=0 then uv r else bY v
def gj(l:List Vl):List UInt8×Int:=if l.length>6 then ([],1) else if uv l≠0 then ([],uv l) else if (dL l).length>100 then ([],5) else (dL l,0)
def CJ(b:List UInt8):D:=an 1 cB b
def Np(r:List UInt8×Int):D:=.dB [CJ r.1,ae r.2]
theorem U3:∀{l:List Vl} {i:Nat} (hi:i<l.length),(∀v∈l.take i,bY v=0)->bY l[i]≠0->uv l=bY l[i]
 | v::r,0,hi,_,h=>by
  have h':bY v≠0:=h;show uv (v::r)=bY v;rw[uv,if_neg h']
 | v::r,i+1,hi,h0,h=>by
  rw[uv,if_pos (h0 v bp)];exact U3 (l:=r) (i:=i) (by simpa using hi) (fun x hx=>h0 x (by rw[take_succ_cons];exact mem_cons_of_mem _ hx)) h
theorem Cv:∀{l:List Vl},(∀v∈l,bY v=0)->uv l=0
 | [],_=>rfl
 | v::r,h=>by rw[uv,if_pos (h v mem_cons_self)];exact Cv fun x hx=>h x (mem_cons_of_mem _ hx)
theorem Jz(h:bY v=0):0<=v.k/\v.k<=3:=by
 unfold bY at h;split at h
 ·omega
 split at h
 ·omega
 split at h
 ·omega
 split at h
 ·omega
 cases h
theorem JA(h:bY v=0)(hk:v.k=1):0<=v.n/\v.n<=1:=by
 unfold bY at h;rw[if_neg w4,if_pos hk] at h;split at h
 ·cases h
 omega
theorem Q1(h:bY v=0)(hk:v.k=3):v.s.size<=20:=by
 unfold bY at h;rw[if_neg w4,if_neg w4,if_neg w4,if_pos hk] at h;split at h
 ·cases h
 split at h
 ·cases h
 omega
theorem LY(h:bY v=0):((kb v).toNat:Int)=v.k:=by
 have:=Jz h;unfold kb;rw[UInt8.toNat_ofNat'];omega
theorem LZ(h:bY v=0)(hk:v.k=1):((nb v).toNat:Int)=v.n:=by
 have:=JA h hk;unfold nb;rw[UInt8.toNat_ofNat'];omega
theorem ahA(h:bY v=0):IntKind.u8.wrap v.k=((kb v).toNat:Int):=by
 have:=Jz h;rw[LY h];show v.k % 256=_;omega
theorem ahB(h:bY v=0)(hk:v.k=1):IntKind.u8.wrap v.n=((nb v).toNat:Int):=by
 have:=JA h hk;rw[LZ h hk];show v.n % 256=_;omega
theorem L0(h:v.Ok):((uN v:Nat):Int)=v.n+9223372036854775808:=by have:=h.n1;unfold uN;omega
theorem ajq{u k:Nat}(hk:k<=7):(u:Int).fdiv (2 ^ min ((56:Int)-8*(k:Int)).toNat IntKind.u64.bits)=((u/256 ^ (7-k):Nat):Int):=by
 have e1:min ((56:Int)-8*(k:Int)).toNat IntKind.u64.bits=8*(7-k):=by
  show min _ 64=_;omega
 have E:(2 ^ (8*(7-k)):Nat)=256 ^ (7-k):=(by rw[Nat.pow_mul])
 have e2:((2:Int) ^ (8*(7-k)))=((256 ^ (7-k):Nat):Int):=by
  rw[<-E,Int.natCast_pow];rfl
 rw[e1,e2];exact(Int.ofNat_fdiv _ _).symm
theorem ahC(x:Nat):IntKind.u8.wrap (x:Int)=((UInt8.ofNat x).toNat:Int):=by
 rw[UInt8.toNat_ofNat'];show(x:Int) % 256=_;omega
theorem KP{u k:Nat}(hk:k<=7):(mh u).take k++[yO u k]=(mh u).take (k+1):=by
 have hl:k<(mh u).length:=(by simp[mh];omega)
 rw[take_succ_eq_append_getElem hl];congr 2;simp[mh]
theorem yd(u:Nat):(mh u).length=8:=by simp[mh]
theorem U4(s:List UInt8):(p9 s).length<=2*s.length:=by
 induction s with
 | nil=>simp[p9]
 | cons b l ih =>
  unfold p9 at ih |-;rw[flatMap_cons,length_append,length_cons];split<;>simp only[length_cons,length_nil]<;>omega
theorem Ge(h:bY v=0):(p8 v).length<=43:=by
 unfold p8 sX;rw[length_cons];split
 ·simp
 split
 ·rw[yd];omega
 split
 ·rename_i hk;have h1:=Q1 h hk;have h2:=U4 v.s.data.toList;rw[lJ] at h2;rw[length_append];simp;omega
 simp
theorem FU:∀{l:List Vl},(∀v∈l,bY v=0)->(dL l).length<=43*l.length
 | [],_=>Nat.le_refl _
 | v::r,h=>by
  have h1:=Ge (h v mem_cons_self);have h2:=FU (l:=r) fun x hx=>h x (mem_cons_of_mem _ hx);unfold dL at h2 |-;rw[flatMap_cons,length_append,length_cons];omega
theorem Rj{l:List Vl}{i:Nat}(hi:i<l.length):dL (l.take i)++p8 l[i]=dL (l.take (i+1)):=by
 unfold dL;rw[take_succ_eq_append_getElem hi,flatMap_append];simp
theorem GP(h:v.k=1):sX v=[nb v]:=if_pos h
theorem GQ(h:v.k=2):sX v=mh (uN v):=by unfold sX;rw[if_neg w4,if_pos h]
theorem GR(h:v.k=3):sX v=p9 v.s.data.toList++[0,0]:=by unfold sX;rw[if_neg w4,if_neg w4,if_pos h]
theorem WT(h1:¬v.k=1)(h2:¬v.k=2)(h3:¬v.k=3):sX v=[]:=by unfold sX;rw[if_neg h1,if_neg h2,if_neg h3]
theorem FI(s:ByteArray):(wF 0 [0,255] s).data.toList=p9 s.data.toList:=rfl
def Nq(p:List UInt8×Int)(r:D)(S:List ag):Prop:=∃ad cap,r = .dB [aN ad p.1.length cap,ae p.2]/\bq 5 1 (p.1.flatMap cB) p.1.length ad cap S
theorem Nq.view{p:List UInt8×Int}{r:D}{S:List ag}(h:Nq p r S):View S r (Np p):=by
 obtain⟨ad,cap,rfl,ho⟩:=h;exact FQ ⟨mX ho (cz qv _) (fun B h=>h),fq,trivial⟩
theorem B7:(Tryz.prog.info? 5).map (fun i=>(i.zero,i.size,i.bytes))=some (some (.int .u8 0),1,1):=by kernel_rfl
theorem Wn(hG:(2,[Value.int .i64 m])∈G)(l:List Vl)(hl:l.length<=maxLen)(aQ:∀v∈l,v.Ok):VC Tryz.prog G 75 [an 3 cV l] [] (Nq (gj l)):=by
 refine bn func75 rfl ntmps75 aP fun X0 w0 bj=>?_;refine aA [0] ?_;refine ax [0,12] ?_ ?_<;>intro aM bG
 ·have aY:gj l=([],1):=if_pos w4;exact OH
 have h6:l.length<=6:=(by omega)
 refine bX ?_;refine bA [0,4] ?_;refine aA [4,13,14,15] ?_;refine kp ?_;refine nY (fun (E:Nat×Option Addr×Nat×List ag) aF=>match E with|(i,I,O,Sb)=>(i<=l.length)/\(∀v∈l.take i,bY v=0)/\(bq 5 1 ((dL (l.take i)).flatMap cB) (dL (l.take i)).length I O Sb)/\aF=(⟨72,[(4,aN I (dL (l.take i)).length O),(13,an 3 cV l),(14,ae l.length),(15,ae (i:Nat))],(Sb)⟩:St)) (fun (E:Nat×Option Addr×Nat×List ag)=>match E with|(i,I,O,Sb)=>l.length-i) (0,none,0,[]) ⟨(Nat.zero_le _),bp,(bq.cast jj (by rfl)),rfl⟩ (aI (h:=w7)) ?_;rintro⟨i,I,O,Sb⟩ _ ⟨hi,h0,pL,rfl⟩;refine ax [4,13,14,15,16] ?_ ?_<;>intro bf cD
 ·have aa:i<l.length:=(by omega)
  have OS:=FU h0;rw[length_take] at OS;have dH:=ey;have gl:=aQ _ (getElem_mem aa);refine az 2 ?_;refine dF (ds:=[_,_,_]) av rfl rfl zeroValue56 rfl (fun b6=>?_);refine aR 0 [_,_,_] sizeOf56 ?_;refine aq 72 [4,6,13,14,15] ?_;refine cX [4,6,7,13,14,15] (Vl.qo l[i]) ?_;refine ax [4,6,7,13,14,15,22] ?_ ?_<;>intro cr cU
  ·have hne:bY l[i]≠0:=(by simpa using cr)
   have aY:gj l=([],bY l[i]):=(by unfold gj;rw[if_neg w4,U3 aa h0 hne,if_pos hne])
   exact OH
  have U:bY l[i]=0:=(by simpa using cr)
  refine az 3 ?_;refine bQ (tO (r:=.int .u8 ((kb l[i]).toNat:Int)) rfl ot (tT runUnderlying3 runUnderlying5 (ahA U))) ?_;refine eH (cx 0 [_]) [.int .u8 0] [_] zeroValue5 runUnderlying86 sizeOf5 (fun Pu=>?_);refine gh 0 28 1 1 ?_;refine fY (ls:=(dL (l.take i))) (new:=[kb l[i]]) (Sq:=Sb) qv yf av rfl rfl underlying86 B7 rfl w8 ot pL (dK (A:=[_])) ot bp Bm Bm (fun vP Z HC HD=>?_);refine bZ (ew (S1:=[⟨vP,5,Z*1,flatMap cB ((dL (l.take i))++[kb l[i]])⟩]) (A:=[_])) ?_;refine aq 72 [4,6,13,14,15] ?_;refine aA [4,6,13,14,15,31] ?_;refine ax [4,6,13,14,15,31,32] ?_ ?_<;>intro de eG
  ·have cl:l[i].k=1:=(by simpa using de)
   refine dV 3 ?_;refine bQ (tO (r:=.int .u8 ((nb l[i]).toNat:Int)) rfl ot (tT runUnderlying3 runUnderlying5 (ahB U cl))) ?_;refine eH (cx 0 [_]) [.int .u8 0] [_] zeroValue5 runUnderlying86 sizeOf5 (fun Pv=>?_);refine gh 0 38 1 1 ?_;refine fY (ls:=((dL (l.take i))++[kb l[i]])) (new:=[nb l[i]]) (Sq:=[⟨vP,5,Z*1,flatMap cB ((dL (l.take i))++[kb l[i]])⟩]) qv yf av rfl rfl underlying86 B7 rfl w8 ot (bN HC HD) (dK (A:=[_])) ot bp Bm Bm (fun DV Nr amD amE=>?_);refine bZ (ew (S1:=[⟨DV,5,Nr*1,flatMap cB (((dL (l.take i))++[kb l[i]])++[nb l[i]])⟩]) (A:=[_])) ?_;refine aq 72 [4,13,14,15] ?_;refine cc [4,13,14,15] ?_;refine⟨((i+1),(some ⟨DV,0,none⟩),Nr,[⟨DV,5,Nr*1,flatMap cB (((dL (l.take i))++[kb l[i]])++[nb l[i]])⟩]),_,cG,(aI (h:=w7)),w4,(Ac aa h0 U),(bq.cast (bN amD amE) HV),rfl⟩
  have cl:¬l[i].k=1:=(by simpa using de)
  refine ax [4,6,13,14,15,31,40] ?_ ?_<;>intro eo fS
  ·have eR:l[i].k=2:=(by simpa using eo)
   refine cN [4,8,13,14,15] ?_;refine aT 3 ?_ (h:=by exact(dX (r:=.int .u64 ((uN l[i]:Nat):Int)) rfl ot cf (ahl (by rw[L0 gl];exact ahn gl.n1 gl.n2))));refine bL ?_;refine aA [4,8,9,13,14,15] ?_;refine kp ?_;refine nY (fun (E:Nat×Option Addr×Nat×List ag) aF=>match E with|(k,I,O,Sb)=>(k<=8)/\(bq 5 1 (((dL (l.take i)++[kb l[i]])++(mh (uN l[i])).take k).flatMap cB) ((dL (l.take i)++[kb l[i]])++(mh (uN l[i])).take k).length I O Sb)/\aF=(⟨72,[(4,aN I ((dL (l.take i)++[kb l[i]])++(mh (uN l[i])).take k).length O),(8,.v (.int .u64 ((uN l[i]:Nat):Int))),(9,ae (56-8*(k:Int))),(13,an 3 cV l),(14,ae l.length),(15,ae (i:Nat))],(Sb)⟩:St)) (fun (E:Nat×Option Addr×Nat×List ag)=>match E with|(k,I,O,Sb)=>8-k) (0,(some ⟨vP,0,none⟩),Z,[⟨vP,5,Z*1,flatMap cB ((dL (l.take i))++[kb l[i]])⟩]) ⟨w8,(bq.cast (bN HC HD) bp),rfl⟩ (aI (h:=Zk)) ?_;rintro⟨k,I,O,Sb⟩ _ ⟨IM,pL,rfl⟩;refine ax [4,8,9,13,14,15,47] ?_ ?_<;>intro gk iC
   ·have hk7:k<=7:=(by omega)
    refine dV 3 ?_;refine bQ (dX (r:=.int .u64 ((uN l[i]/256 ^ (7-k):Nat):Int)) rfl ot ot (Uz w4 (ajq hk7))) ?_;refine bQ (tO (r:=.int .u8 ((yO (uN l[i]) k).toNat:Int)) rfl ot (tT runUnderlying189 runUnderlying5 (ahC _))) ?_;refine eH (cx 0 [_]) [.int .u8 0] [_] zeroValue5 runUnderlying86 sizeOf5 (fun b55=>?_);refine gh 0 55 1 1 ?_;refine fY (ls:=((dL (l.take i)++[kb l[i]])++(mh (uN l[i])).take k)) (new:=[yO (uN l[i]) k]) (Sq:=Sb) qv yf av rfl rfl underlying86 B7 rfl w8 ot pL (dK (A:=[])) ot bp Bm Bm (fun lH Ns amF amG=>?_);refine bZ (ew (S1:=[⟨lH,5,Ns*1,flatMap cB (((dL (l.take i)++[kb l[i]])++(mh (uN l[i])).take k)++[yO (uN l[i]) k])⟩]) (A:=[])) ?_;refine aq 72 [4,8,9,13,14,15] ?_;refine cc [4,8,9,13,14,15] ?_;refine⟨((k+1),(some ⟨lH,0,none⟩),Ns,[⟨lH,5,Ns*1,flatMap cB (((dL (l.take i)++[kb l[i]])++(mh (uN l[i])).take k)++[yO (uN l[i]) k])⟩]),_,cG,(aI (h:=Zk)),w4,(bq.cast (bN amF amG) (by rw[<-KP w4];simp)),rfl⟩
   have atQ:k=8:=(by omega)
   have atS:8<=k:=(by omega)
   refine cc [4,13,14,15] ?_;refine⟨((i+1),I,O,Sb),_,cG,(aI (h:=w7)),w4,(Ac aa h0 U),(bq.cast pL HV),rfl⟩
  have eR:¬l[i].k=2:=(by simpa using eo)
  refine ax [4,6,13,14,15,57] ?_ ?_<;>intro iQ qa
  ·have kf:l[i].k=3:=(by simpa using iQ)
   have N7:=Q1 U kf;have Ef:=U4 l[i].s.data.toList;rw[lJ] at Ef;have hrs:(wF 0 [0,255] l[i].s).size=(p9 l[i].s.data.toList).length:=(by rw[<-lJ,FI])
   refine az 3 ?_;refine eB call118 (ahz hG 0 ⟨#[0,255]⟩ l[i].s w4 w8) ?_;refine abQ (ls:=((dL (l.take i))++[kb l[i]])) (Sq:=[⟨vP,5,Z*1,flatMap cB ((dL (l.take i))++[kb l[i]])⟩]) av rfl rfl underlying86 underlying9 B7 ot (bN HC HD) (dK (A:=[_])) ot ZA ZA (fun Yw yP El Dk=>?_);refine bZ (ew (A:=[_])) ?_;refine aq 72 [4,13,14,15] ?_;refine dV 1 ?_;refine eH (cx 0 [_,_]) [.int .u8 0,.int .u8 0] [_,_] zeroValue5 runUnderlying86 sizeOf5 (fun b65=>?_);refine gh 0 65 1 2 ?_;refine fY (ls:=(((dL (l.take i))++[kb l[i]])++(wF 0 [0,255] l[i].s).data.toList)) (new:=[(0:UInt8),0]) (Sq:=El) qv yf av rfl rfl underlying86 B7 rfl w8 ot Dk (dK (A:=[_])) ot bp XS XS (fun qi Be Bf Bg=>?_);refine bZ (ew (S1:=[⟨qi,5,Be*1,flatMap cB ((((dL (l.take i))++[kb l[i]])++(wF 0 [0,255] l[i].s).data.toList)++[(0:UInt8),0])⟩]) (A:=[_])) ?_;refine aq 72 [4,13,14,15] ?_;refine cc [4,13,14,15] ?_;refine⟨((i+1),(some ⟨qi,0,none⟩),Be,[⟨qi,5,Be*1,flatMap cB ((((dL (l.take i))++[kb l[i]])++(wF 0 [0,255] l[i].s).data.toList)++[(0:UInt8),0])⟩]),_,cG,(aI (h:=w7)),w4,(Ac aa h0 U),(bq.cast (bN Bf Bg) HV),rfl⟩
  have kf:¬l[i].k=3:=(by simpa using iQ)
  refine cc [4,13,14,15] ?_;refine⟨((i+1),(some ⟨vP,0,none⟩),Z,[⟨vP,5,Z*1,flatMap cB ((dL (l.take i))++[kb l[i]])⟩]),_,cG,(aI (h:=w7)),w4,(Ac aa h0 U),(bq.cast (bN HC HD) HV),rfl⟩
 have eL:∀v∈l,bY v=0:=(by rw[take_of_length_le w4] at h0;exact h0)
 have hle:=FU eL;have Em:dL (l.take i)=dL l:=(by rw[take_of_length_le w4])
 refine ax [4,70] ?_ ?_<;>intro jn nK
 ·have aY:gj l=([],5):=(by unfold gj;rw[if_neg w4,Cv eL,if_neg bp,if_pos (by rw[Em] at jn;simp at jn;omega)])
  exact OH
 have aY:gj l=(dL l,0):=(by unfold gj;rw[if_neg w4,Cv eL,if_neg bp,if_neg (by rw[Em] at jn;simp at jn;omega)])
 refine dj [2,3] Sb ?_;rw[aY,<-Em];exact⟨I,O,rfl,pL⟩
theorem ajr(hG:(2,[Value.int .i64 m])∈G)(l:List Vl)(hl:l.length<=maxLen)(aQ:∀v∈l,v.Ok):VP Tryz.prog G 75 [an 3 cV l] (Np (gj l)):=(Wn hG l hl aQ).cover fun r S hr=>hr.view
end
section
def mN(l:List UInt8):Nat:=l.foldl (fun a c=>a*256+c.toNat) 0
theorem JO(l:List UInt8)(c:UInt8):mN (l++[c])=mN l*256+c.toNat:=by unfold mN;rw[foldl_append];rfl
theorem K7:∀(n:Nat) (l:List UInt8),l.length=n->mN l<256 ^ n
 | 0,l,h=>by rw[eq_nil_of_length_eq_zero h];decide
 | n+1,l,h=>by
  have hne:l≠[]:=(by intro e;subst e;simp at h)
  rw[<-dropLast_concat_getLast hne,JO];have h1:=K7 n l.dropLast (by rw[length_dropLast,h];rfl);have h2:(l.getLast hne).toNat<256:=(l.getLast hne).toNat_lt;rw[Nat.pow_succ];omega
variable {G:List (Nat×List Value)}
end
variable {v:Vl}
theorem Jm:∀(b a:List UInt8),mN (a++b)=mN a*256 ^ b.length+mN b
 | [],a=>by simp[mN]
 | c::b,a=>by
  have h1:=Jm b (a++[c]);have h2:=Jm b [c];rw[append_assoc,singleton_append,JO] at h1;have h3:mN (c::b)=c.toNat*256 ^ b.length+mN b:=by
   rw[singleton_append] at h2;rw[h2];have:mN [c]=c.toNat:=(by simp[mN])
   rw[this]
  rw[h1,h3,length_cons,Nat.pow_succ,Nat.add_mul,Nat.mul_assoc,Nat.mul_comm 256];omega
theorem Ty{u:Nat}(h:u<18446744073709551616):mN (mh u)=u:=by
 have key:∀k,k<=8->mN ((mh u).take k)=u/256 ^ (8-k):=by
  intro k;induction k with
  | zero=>intro _;show 0=u/256 ^ 8;exact(Nat.div_eq_of_lt h).symm
  | succ k ih =>
   intro hk;have hb:=ih w4;rw[<-KP w4,JO,hb];unfold yO;rw[UInt8.toNat_ofNat',show 8-k=(7-k)+1 by omega,show 8-(k+1)=7-k by omega,Nat.pow_succ,<-Nat.div_div_eq_div_mul];have:=Nat.div_add_mod (u/256 ^ (7-k)) 256;omega
 have:=key 8 (Nat.le_refl _);rw[take_of_length_le (by rw[yd];omega)] at this;rw[this];simp
theorem JP{s:ByteArray}(h:s.size=0):s=⟨#[]⟩:=Ct (eq_nil_of_length_eq_zero (by rw[lJ,h]))
theorem Gf(h:bY v=0)(hk:v.k=0):v=⟨0,0,⟨#[]⟩⟩:=by
 unfold bY at h;rw[if_pos hk] at h;split at h
 ·cases h
 rename_i hn;exact Vl.ext' hk (by show v.n=0;omega) (JP w4)
theorem U5(h:bY v=0)(hk:v.k=1):v.s=⟨#[]⟩:=by
 unfold bY at h;rw[if_neg w4,if_pos hk] at h;split at h
 ·cases h
 exact JP w4
theorem U6(h:bY v=0)(hk:v.k=2):v.s=⟨#[]⟩:=by
 unfold bY at h;rw[if_neg w4,if_neg w4,if_pos hk] at h;split at h
 ·cases h
 exact JP w4
theorem U7(h:bY v=0)(hk:v.k=3):v.n=0:=by
 unfold bY at h;rw[if_neg w4,if_neg w4,if_neg w4,if_pos hk] at h;split at h
 ·cases h
 omega
end Cd
namespace Cd
open List
open Go.Proofs.Tryz
open Go.RowKit V Pk Vl
open Go.Lib (compareBytes)
variable {a b:UInt8} {l:List Int}
theorem vn:a<b↔a.toNat<b.toNat:=UInt8.lt_iff_toNat_lt
theorem ajs(h:a≠b):a.toNat≠b.toNat:=fun e=>h (UInt8.toNat_inj.1 e)
theorem An(a b:UInt8)(x y:List UInt8):compareBytes (a::x) (b::y)=if a<b then -1 else if b<a then 1 else compareBytes x y:=by rw[compareBytes]
theorem yq(x y:List UInt8)(h:a.toNat<b.toNat):compareBytes (a::x) (b::y) = -1:=by rw[An,if_pos (vn.2 h)]
theorem vt(a:UInt8)(x y:List UInt8):compareBytes (a::x) (a::y)=compareBytes x y:=by
 rw[An,if_neg rO,if_neg rO]
theorem K8:∀(p x y:List UInt8),compareBytes (p++x) (p++y)=compareBytes x y
 | [],_,_=>rfl
 | a::p,x,y=>by rw[cons_append,cons_append,vt,K8 p x y]
theorem Cw:∀(x y:List UInt8),compareBytes y x = - compareBytes x y
 | [],[]=>rfl
 | [],_::_=>rfl
 | _::_,[]=>rfl
 | a::x,b::y=>by
  have E:=Cw x y;rw[An,An];rcases Nat.lt_trichotomy a.toNat b.toNat with h|h|h
  ·rw[if_neg rO,if_pos (vn.2 h),if_pos (vn.2 h)];rfl
  ·rw[if_neg rO,if_neg rO,if_neg rO,if_neg rO,E]
  rw[if_pos (vn.2 h),if_neg rO,if_pos (vn.2 h)]
theorem Kn:∀(x y:List UInt8),compareBytes x y = -1\/compareBytes x y=0/\x=y\/compareBytes x y=1
 | [],[]=>.inr (.inl ⟨rfl,rfl⟩)
 | [],_::_=>.inl rfl
 | _::_,[]=>.inr (.inr rfl)
 | a::x,b::y=>by
  rw[An];rcases Nat.lt_trichotomy a.toNat b.toNat with h|h|h
  ·exact .inl (if_pos (vn.2 h))
  ·have e:a=b:=UInt8.toNat_inj.1 h;subst e;rw[if_neg rO,if_neg rO];rcases Kn x y with h|⟨h,e⟩|h
   ·exact .inl h
   ·exact .inr (.inl ⟨h,by rw[e]⟩)
   exact .inr (.inr h)
  exact .inr (.inr (by rw[if_neg rO,if_pos (vn.2 h)]))
theorem Rz(c:UInt8)(b:List UInt8):mN (c::b)=c.toNat*256 ^ b.length+mN b:=by
 have h2:=Jm b [c];rw[singleton_append] at h2;rw[h2];have:mN [c]=c.toNat:=(by simp[mN])
 rw[this]
theorem W7:∀(l k:List UInt8) (x y:List UInt8),l.length=k.length->mN l<mN k->compareBytes (l++x) (k++y) = -1
 | [],[],_,_,_,h=>absurd h (Nat.lt_irrefl _)
 | [],_::_,_,_,h,_=>by simp at h
 | _::_,[],_,_,h,_=>by simp at h
 | a::l,b::k,x,y,hl,h=>by
  simp only[length_cons,Nat.add_right_cancel_iff] at hl;rw[Rz,Rz,hl] at h;have h1:=K7 _ l hl;have h2:=K7 _ k rfl;rw[cons_append,cons_append];rcases Nat.lt_trichotomy a.toNat b.toNat with e|e|e
  ·exact yq _ _ e
  ·have e':a=b:=UInt8.toNat_inj.1 e;subst e';rw[vt];exact W7 l k x y hl w4
  exfalso;have:(b.toNat+1)*256 ^ k.length<=a.toNat*256 ^ k.length:=Nat.mul_le_mul_right _ e;rw[Nat.succ_mul] at this;omega
theorem Cj(c:UInt8)(s:List UInt8):p9 (c::s)=(if c=0 then [0,255] else [c])++p9 s:=by unfold p9;rw[flatMap_cons]
theorem Wo{c:UInt8}(h:¬c=0):0<c.toNat:=by
 have:=ajs h;have e:(0:UInt8).toNat=0:=rfl;omega
theorem Wp:∀(s t x y:List UInt8),compareBytes s t = -1->compareBytes (p9 s++([0,0]++x)) (p9 t++([0,0]++y)) = -1
 | [],[],_,_,h=>by exact absurd h w8
 | _::_,[],_,_,h=>by exact absurd (show(1:Int) = -1 from h) w8
 | [],d::t,x,y,_=>by
  rw[Cj];by_cases hd:d=0
  ·rw[if_pos hd];show compareBytes (0::0::x) (0::255::(p9 t++([0,0]++y))) = -1;rw[vt];exact yq _ _ w8
  rw[if_neg hd];exact yq (a:=0) _ _ (Wo hd)
 | c::s,d::t,x,y,h=>by
  rcases Nat.lt_trichotomy c.toNat d.toNat with e|e|e
  ·have hd:¬d=0:=fun hd=>by subst hd;have:(0:UInt8).toNat=0:=rfl;omega
   rw[Cj,Cj,if_neg hd];by_cases hc:c=0
   ·rw[if_pos hc];exact yq (a:=0) _ _ (Wo hd)
   rw[if_neg hc];exact yq _ _ e
  ·have e':c=d:=UInt8.toNat_inj.1 e;subst e';rw[vt] at h;rw[Cj,Cj,append_assoc,append_assoc,K8];exact Wp s t x y h
  rw[An,if_neg rO,if_pos (vn.2 e)] at h;exact absurd h w8
def qE(x y:Int):Int:=if x<y then -1 else if x>y then 1 else 0
def fK:List Int->Int
 | []=>0
 | a::l=>if a≠0 then a else fK l
def cmpL(a b:Vl):List Int:=[qE a.k b.k,qE a.n b.n,compareBytes a.s.data.toList b.s.data.toList]
def eN(a b:Vl):Int:=fK (cmpL a b)
theorem rj(x y:Int):qE x y = -1/\x<y\/qE x y=0/\x=y\/qE x y=1/\y<x:=by unfold qE;split;omega;split<;>omega
theorem RA(x y:Int):qE y x = - qE x y:=by
 rcases rj x y with h|h|h<;>rcases rj y x with k|k|k<;>omega
theorem xS(a b:Vl):eN b a = - eN a b:=by
 unfold eN cmpL fK fK fK fK;rw[RA a.k b.k,RA a.n b.n,Cw a.s.data.toList b.s.data.toList];repeat' split
 all_goals omega
theorem zS{a b:Vl}(h:eN a b=0):a=b:=by
 unfold eN cmpL fK fK fK fK at h;rcases rj a.k b.k with h1|h1|h1<;>rcases rj a.n b.n with h2|h2|h2<;>rcases Kn a.s.data.toList b.s.data.toList with h3|h3|h3
 all_goals (rw[h1.1,h2.1] at h;first|rw[h3.1] at h|rw[h3] at h)
 all_goals first
  | exact absurd h w8
  | exact Vl.ext' h1.2 h2.2 (Ct h3.2)
theorem Wq{v w:Vl}(hv:bY v=0)(E:v.Ok)(hw:bY w=0)(I:w.Ok)(x y:List UInt8)(h:eN v w = -1):compareBytes (p8 v++x) (p8 w++y) = -1:=by
 have U:=LY hv;have Z:=LY hw;unfold p8;rw[cons_append,cons_append];unfold eN cmpL fK fK fK fK at h;rcases rj v.k w.k with h1|h1|h1
 ·exact yq _ _ w4
 ·have O:kb v=kb w:=UInt8.toNat_inj.1 w4;rw[O,vt];rw[h1.1,if_neg bp] at h;have hk:=Jz hv;have h4:v.k=0\/v.k=1\/v.k=2\/v.k=3:=(by omega)
  rcases rj v.n w.n with h2|h2|h2
  ·rcases h4 with e|e|e|e
   ·have:=Gf hv e;have:=Gf hw w4;simp_all
   ·have n1:=LZ hv e;have n2:=LZ hw w4;rw[GP e,GP w4];exact yq _ _ w4
   ·have u1:=L0 E;have u2:=L0 I;have b1:=E.n2;have b2:=I.n2;rw[GQ e,GQ w4];exact W7 _ _ _ _ (by rw[yd,yd]) (by rw[Ty w4,Ty w4];omega)
   have:=U7 hv e;have:=U7 hw w4;omega
  ·rw[h2.1,if_neg bp] at h;have h:compareBytes v.s.data.toList w.s.data.toList = -1:=by
    by_cases hz:compareBytes v.s.data.toList w.s.data.toList=0
    ·rw[hz] at h;simp at h
    rw[if_pos hz] at h;exact h
   rcases h4 with e|e|e|e
   ·rw[Gf hv e,Gf hw w4] at h;exact absurd h w8
   ·rw[U5 hv e,U5 hw w4] at h;exact absurd h w8
   ·rw[U6 hv e,U6 hw w4] at h;exact absurd h w8
   rw[GR e,GR w4,append_assoc,append_assoc];exact Wp _ _ _ _ h
  rw[h2.1,if_pos w8] at h;exact absurd h w8
 rw[h1.1,if_pos w8] at h;exact absurd h w8
theorem Q2(v w:Vl):eN v w = -1\/eN v w=0\/eN v w=1:=by
 unfold eN cmpL fK fK fK fK;rcases rj v.k w.k with h1|h1|h1<;>rcases rj v.n w.n with h2|h2|h2<;>rcases Kn v.s.data.toList w.s.data.toList with h3|h3|h3
 all_goals (rw[h1.1,h2.1];first|rw[h3.1]|rw[h3])
 all_goals decide
theorem K9{v w:Vl}(hv:bY v=0)(E:v.Ok)(hw:bY w=0)(I:w.Ok)(x y:List UInt8)(h:eN v w≠0):compareBytes (p8 v++x) (p8 w++y)=eN v w:=by
 rcases Q2 v w with e|e|e
 ·rw[e];exact Wq hv E hw I x y e
 ·exact absurd e h
 rw[e,Cw,Wq hw I hv E y x (by rw[xS,e])];rfl
variable {G:List (Nat×List Value)} {m:Int}
def cI(n:Int):List D:=[ae n]
theorem afR:∀{i:Nat} (hi:i<l.length),(∀x∈l.take i,x=0)->fK l=fK (l.drop i):=by
 induction l with
 | nil=>intro i hi;simp at hi
 | cons a l ih =>
  intro i hi h;cases i with
  | zero=>rfl
  | succ i =>
   have ha:a=0:=h a bp;show(if a≠0 then a else fK l)=fK (l.drop i);rw[if_neg (by simp[ha])];exact ih (by simpa using hi) (fun x hx=>h x (by simp[hx]))
theorem ahD{i:Nat}(hi:i<l.length)(h:∀x∈l.take i,x=0)(h1:l[i]≠0):fK l=l[i]:=by
 rw[afR hi h,drop_eq_getElem_cons hi];exact if_pos h1
theorem Tz:∀{l:List Int},(∀x∈l,x=0)->fK l=0
 | [],_=>rfl
 | a::l,h=>by
  show(if a≠0 then a else fK l)=0;rw[if_neg (by simp[h a bp]),Tz fun x hx=>h x (by simp[hx])]
theorem take_zero{i:Nat}(hi:i<l.length)(h:∀x∈l.take i,x=0)(h1:l[i]=0):∀x∈l.take (i+1),x=0:=fun x hx=>by
 rw[take_succ_eq_append_getElem hi] at hx;rcases mem_append.1 hx with hx|hx
 ·exact h x hx
 simp only[mem_singleton] at hx;rw[hx];exact h1
theorem Wr(x:Int):VP Tryz.prog G 166 [ae x] (bP false):=by
 refine bn func166 rfl ntmps166 aP fun X0 w0 bj=>?_;refine aA [0] ?_;refine dj [2] [] ?_;first|exact⟨rfl,rfl⟩|(refine⟨vb ?_,rfl⟩;simp)
theorem U8(x y:Int):VP Tryz.prog G 147 [ae x,ae y] (ae (qE x y)):=by
 refine bn func147 rfl ntmps147 aP fun X0 w0 bj=>?_;refine aA [0,1] ?_;refine cX [0,1,5] (Wr x) ?_;refine cX [0,1,5,6] (Wr y) ?_;refine ax [0,1,6,11] ?_ ?_<;>intro aM bG
 ·refine ax [12] ?_ ?_<;>intro bf cD
  ·exact z40
  exact z40
 refine ax [0,1,13] ?_ ?_<;>intro cr cU
 ·exact z40
 refine ax [0,1,16] ?_ ?_<;>intro de eG
 ·exact z40
 refine ax [19] ?_ ?_<;>intro eo fS
 ·exact z40
 refine dj [4] [] ?_;first|exact⟨rfl,rfl⟩|(refine⟨vi ?_,rfl⟩;unfold qE;simp_all;done)|(refine⟨vi ?_,rfl⟩;unfold qE;split<;>(try split)<;>simp_all<;>omega)
theorem ajt(l:List Int)(hl:l.length<=100):VP Tryz.prog G 146 [an 1 cI l] (ae (fK l)):=by
 refine bn func146 rfl ntmps146 aP fun X0 w0 bj=>?_;have dH:=ey;refine aA [0] ?_;refine aA [0,3] ?_;refine aA [3,6,7,8] ?_;refine fa [3,6,7] (fun aV _ (i:Nat) aF=>(i<=l.length)/\(∀x∈l.take i,x=0)/\aF=(⟨18,(8,ae (i:Nat))::aV,[]⟩:St)) (fun (i:Nat)=>l.length-i) 0 ⟨(Nat.zero_le _),(fun x hx=>by simp at hx),rfl⟩ ?_;rintro i _ ⟨hi,hz,rfl⟩;refine ax [3,6,7,8,9] ?_ ?_<;>intro aM bG
 ·have aa:i<l.length:=(by omega)
  refine aA [3,5,6,7,8] ?_;refine ax [3,5,6,7,8,14] ?_ ?_<;>intro bf cD
  ·have aY:fK l=l[i]:=ahD aa hz uh;refine aA [2] ?_;exact pH
  refine cc [3,6,7,8] ?_;refine⟨(i+1),_,cG,aI,w4,(take_zero aa hz uh),rfl⟩
 have aY:fK l=0:=Tz (by rw[take_of_length_le w4] at hz;exact hz);refine aA [2] ?_;exact vH
theorem ahE(a b:ByteArray):VP Tryz.prog G 148 [bg a,bg b] (ae (compareBytes a.data.toList b.data.toList)) :=
 VP.UX (P:=Tryz.prog) (G:=G) (f:=148) (vs:=[.string a,.string b]) (v:=.int .i64 (compareBytes a.data.toList b.data.toList)) fun w _ =>
  (Tryz.strings_Compare a b w).mono fun e w' ⟨h1,h2⟩=>⟨h1,h2 ▸ Below.refl _ _⟩
theorem Q3(a b:Vl)(ha:a.Ok)(hb:b.Ok):VP Tryz.prog G 130 [.agg (cV a),.agg (cV b)] (ae (eN a b)):=by
 refine bn func130 rfl ntmps130 aP fun X0 w0 bj=>?_;unfold cV;refine bX ?_;refine cW [_,_,_] (fun b2=>?_);refine cW [_,_,_] (fun b3=>?_);refine aq 22 [2,3] ?_;refine cN [4] ?_;refine cL (U8 a.k b.k) ?_;refine cL (U8 a.n b.n) ?_;refine cL (ahE a.s b.s) ?_;refine cL (ajt (cmpL a b) (by show 3<=100;decide)) ?_;refine bL ?_;exact oD
def mG(a b:Vl):Int:=if bY a≠0 then bY a else bY b
def Nt(a b:Vl):D:=.dB [ae (if mG a b≠0 then 0 else eN a b),ae (mG a b)]
theorem U9(a b:Vl):VP Tryz.prog G 129 [.agg (cV a),.agg (cV b)] (ae (mG a b)):=by
 refine bn func129 rfl ntmps129 aP fun X0 w0 bj=>?_;unfold cV;refine bX ?_;refine cW [_,_,_] (fun b2=>?_);refine cW [_,_,_] (fun b3=>?_);refine aq 13 [2,3] ?_;refine cX [3,5] (qo a) ?_;refine ax [3,5,9] ?_ ?_<;>intro aM bG
 ·refine dj [4] [] ?_;refine⟨vi ?_,rfl⟩;unfold mG;simp_all
 refine cX [4] (qo b) ?_;refine eu [] ?_;refine⟨vi ?_,rfl⟩;unfold mG;simp_all
theorem acZ(a b:Vl)(ha:a.Ok)(hb:b.Ok):VP Tryz.prog G 93 [.agg (cV a),.agg (cV b)] (Nt a b):=by
 refine bn func93 rfl ntmps93 aP fun X0 w0 bj=>?_;unfold cV Nt;refine bX ?_;refine cW [_,_,_] (fun b2=>?_);refine cW [_,_,_] (fun b3=>?_);refine aq 16 [2,3] ?_;refine cX [2,3,6] (U9 a b) ?_;refine ax [2,3,6,11] ?_ ?_<;>intro aM bG
 ·refine dj [4,5] [] ?_;first|(simp_all;done)|(refine⟨?_,rfl⟩;simp_all;done)
 refine cX [4,5] (Q3 a b ha hb) ?_;refine eu [] ?_;first|(simp_all;done)|(refine⟨?_,rfl⟩;simp_all;done)
theorem La(l:List UInt8):compareBytes l l=0:=by have:=K8 l [] [];rw[append_nil] at this;exact this
end Cd
namespace Pc
open List
open Go.Proofs.Tryz
open Go.RowKit V Pk Vl Go.Proofs.YtbplamgacibdaaaGreatDoor.Nm
variable {i:Nat}
def typesC:List Value:=[.string ⟨#[]⟩,.string ⟨#[66,79,79,76]⟩,.string ⟨#[73,78,84]⟩,.string ⟨#[84,69,88,84]⟩]
structure cm where
 n:ByteArray
 k:Int
variable {l:List cm}
def cC(c:cm):List D:=[bg c.n,ae c.k]
theorem mB(c:cm):(cC c).length=2:=rfl
theorem aju(c:cm):(cC c).all V.one=true:=rfl
def ou(pre:List cm)(c:cm):Int :=
 if cR c.n≠0 then cR c.n else if c.k<1\/c.k>3 then 2 else if (pre.any fun d=>d.n.toList==c.n.toList)=true then 9 else 0
def sN:List cm->List cm->Int
 | _,[]=>0
 | pre,c::r=>if ou pre c≠0 then ou pre c else sN (pre++[c]) r
def ga(l:List cm):Int:=if l.length<1\/l.length>6 then 1 else sN [] l
theorem ad0(hi:i<l.length)(h:ou (l.take i) l[i]=0):sN (l.take i) (l.drop i)=sN (l.take (i+1)) (l.drop (i+1)):=by
 rw[drop_eq_getElem_cons hi,take_succ_eq_append_getElem hi];exact if_neg (by simp[h])
theorem Ki(hi:i<l.length)(h:ou (l.take i) l[i]≠0):sN (l.take i) (l.drop i)=ou (l.take i) l[i]:=by
 rw[drop_eq_getElem_cons hi];exact if_pos h
theorem afS(hi:¬i<l.length):sN (l.take i) (l.drop i)=0:=by
 rw[drop_of_length_le w4];rfl
theorem Kg(S:List ag):S.Perm (S++[]):=by rw[append_nil]
variable {G:List (Nat×List Value)}
theorem Ko(ls:List cm)(g:Nat)(E:List D)(S:List ag)(p:cm->Bool)(fH:∀args w,(callFunc g args).run Tryz.prog w = .ok (.enter g args) w)(hp:∀x∈ls,VC Tryz.prog G g (.agg (cC x)::E) S (fun r S'=>r=bP (p x)/\S'=S))(hlen:ls.length<=1000000):VC Tryz.prog G 125 [an 2 cC ls,.eK (.func g) E] S (fun r S'=>r=ae (c9 p ls)/\S'=S):=by
 refine bn func125 rfl ntmps125 aP fun X0 w0 bj=>?_;unfold cC at hp;exact ZG
theorem acA(ls:List cm)(g:Nat)(E:List D)(S:List ag)(p:cm->Bool)(fH:∀args w,(callFunc g args).run Tryz.prog w = .ok (.enter g args) w)(hp:∀x∈ls,VC Tryz.prog G g (.agg (cC x)::E) S (fun r S'=>r=bP (p x)/\S'=S))(hlen:ls.length<=1000000):VC Tryz.prog G 119 [an 2 cC ls,.eK (.func g) E] S (fun r S'=>r=bP (ls.any p)/\S'=S):=by
 refine bn func119 rfl ntmps119 aP fun X0 w0 bj=>?_;refine az 1 ?_;refine fC (Wk.ek (n:=9) (l':=[(0,_),(1,_)]) (S':=S) rfl nR fJ) ?_;refine jX ?_;refine az 2 ?_;refine fg av rfl rfl rfl call125 (Ko ls g E S p fH hp hlen) ⟨vh rfl lk,vh rfl lk,trivial⟩ (Kg _) ?_;rintro _ S2 ⟨rfl,iK⟩;rw[iK];clear iK;refine aG 2 ?_;refine fC (Wk.ek (n:=9) (l':=[(4,_)]) (S':=S) rfl nR fJ) ?_;refine jX ?_;refine eu S ?_;refine⟨?_,rfl⟩;rw[Tg]
theorem ahF(h x:cm)(b:Nat):VC Tryz.prog G 120 [.agg (cC h),da b] [⟨b,93,2,cC x⟩] (fun r S=>r=bP (h.n.toList==x.n.toList)/\S=[⟨b,93,2,cC x⟩]):=by
 refine bn func120 rfl ntmps120 aP fun X0 w0 bj=>?_;unfold cC;refine bX ?_;refine cW [_,_] (fun b2=>?_);refine aq 9 [1,2] ?_;refine dj [3] [⟨b,93,2,cC x⟩] ?_;exact⟨rfl,rfl⟩
theorem ahG(hm:(3,marksC)∈G)(hw:(1,wordsC)∈G)(l:List cm)(hl:l.length<=maxLen)(aQ:∀c∈l,c.n.size<=maxLen):VP Tryz.prog G 76 [an 2 cC l] (ae (ga l)):=by
 refine bn func76 rfl ntmps76 aP fun X0 w0 bj=>?_;have dH:=ey;refine aA [0] ?_;refine az 4 ?_;refine bU 9 (fun Z O=>?_) (fun Z O=>?_)
 ·refine bA [0,13] ?_;refine e9 ?_;have aY:ga l=1:=if_pos w4;exact zb
 refine bA [0,13] ?_;refine cj ?_ ?_<;>intro aM bG
 ·have aY:ga l=1:=if_pos w4;exact zb
 have h16:¬(l.length<1\/l.length>6):=(by omega)
 have E:ga l=sN (l.take 0) (l.drop 0):=if_neg h16;refine aA [0,14,15,16] ?_;refine fa [0,14,15] (fun aV _ (i:Nat) aF=>(i<=l.length)/\(ga l=sN (l.take i) (l.drop i))/\aF=(⟨41,(16,ae (i:Nat))::aV,[]⟩:St)) (fun (i:Nat)=>l.length-i) 0 ⟨(Nat.zero_le _),E,rfl⟩ ?_;rintro i _ ⟨hi,hinv,rfl⟩;refine ax [0,14,15,16,17] ?_ ?_<;>intro bf cD
 ·have aa:i<l.length:=(by omega)
  refine az 3 ?_;refine dF (ds:=[_,_]) av rfl rfl zeroValue93 rfl (fun b4=>?_);refine aG 1 ?_;refine aR 0 [_,_] sizeOf93 ?_;refine aq 41 [0,3,4,14,15,16] ?_;refine cX [0,3,4,5,14,15,16] (wi hm hw l[i].n (aQ _ (getElem_mem aa))) ?_;refine ax [0,3,4,5,14,15,16,25] ?_ ?_<;>intro cr cU
  ·have hne:cR l[i].n≠0:=(by simpa using cr)
   have hf:ou (l.take i) l[i]=cR l[i].n:=if_pos hne;have aY:ga l=cR l[i].n:=(by rw[hinv,Ki aa (by rw[hf];exact hne),hf])
   refine aA [2] ?_;exact pH
  have ir:¬cR l[i].n≠0:=(by simpa using cr)
  refine az 4 ?_;refine bU 30 (fun U I=>?_) (fun U I=>?_)
  ·refine bA [0,3,4,14,15,16,34] ?_;refine e9 ?_;exact Yi
  refine bA [0,3,4,14,15,16,34] ?_;refine cj ?_ ?_<;>intro de eG
  ·exact Yi
  have hk:¬(l[i].k<1\/l[i].k>3):=(by omega)
  refine az 2 ?_;refine bQ (fb (l:=0) rfl ot trivial ⟨_,ot⟩ (by first|exact pT mB (fun h=>by cases h) runUnderlying39 sizeOf93 w4|exact pU (fun h=>by cases h) runUnderlying39 sizeOf93 w4|exact ph (fun _=>rfl) (fun h=>by cases h) runUnderlying39 sizeOf93 w4 w4)) ?_;refine bQ (tU (ds:=[_]) rfl ⟨ot,trivial⟩) ?_;refine fg av rfl rfl rfl call119 (acA (l.take i) 120 [da b4] _ (fun d=>d.n.toList==l[i].n.toList) call120 (fun h _=>ahF h l[i] b4) pF) ⟨vh rfl lk,vh rfl lk,trivial⟩ (nB (k:=0) rfl) ?_;rintro _ S2 ⟨rfl,iK⟩;rw[iK];clear iK;refine aq 41 [0,14,15,16,39] ?_;refine cj ?_ ?_<;>intro eo fS
  ·have hf:ou (l.take i) l[i]=9:=(by unfold ou;rw[if_neg ir,if_neg hk,if_pos eo])
   have aY:ga l=9:=(by rw[hinv,Ki aa (by rw[hf];decide),hf])
   refine aA [2] ?_;exact pH
  have hf:ou (l.take i) l[i]=0:=(by unfold ou;rw[if_neg ir,if_neg hk,if_neg (by rw[eo];simp)])
  have iY:=hinv.trans (ad0 aa hf);refine cc [0,14,15,16] ?_;refine⟨(i+1),_,cG,aI,w4,iY,rfl⟩
 have aY:ga l=0:=(by rw[hinv];exact afS w4)
 refine aA [2] ?_;exact vH
end Pc
namespace Pa
open List
open Go.Proofs.Tryz
open Go.RowKit V Pk Vl Go.Proofs.YtbplamgacibdaaaGreatDoor.Nm Pc
structure cn where
 kind:Int
 table:ByteArray
 au:List cm
 row:List Vl
 names:List ByteArray
 count:Bool
 ah:List aH
 order:ByteArray
 down:Bool
 iz:Int
 set:ByteArray
 bM:List aH
def fm:cn:=⟨0,⟨#[]⟩,[],[],[],false,[],⟨#[]⟩,false,-1,⟨#[]⟩,[]⟩
end Pa
namespace Pa
section
open List
open Go.Proofs.Tryz
open Go.RowKit V Pk Vl Go.Proofs.YtbplamgacibdaaaGreatDoor.Nm Pc
variable {G:List (Nat×List Value)}
variable {α:Type}
theorem JG{ls:List (List α)}{j:Nat}(h:j<ls.length):(ls.take (j+1)).flatten=(ls.take j).flatten++ls[j]:=by
 rw[take_succ_eq_append_getElem h,flatten_append,flatten_cons,flatten_nil,append_nil]
theorem QA{ls:List (List α)}{j:Nat}(h:j<ls.length):((ls.take (j+1)).flatten).length=((ls.take j).flatten).length+ls[j].length:=by rw[JG h,length_append]
theorem QE(ls:List (List α))(j:Nat):((ls.take j).flatten).length<=ls.flatten.length:=by
 conv=>rhs;rw[<-take_append_drop j ls,flatten_append,length_append]
 omega
theorem ad4{e sz b cap:Nat}(h:cap<=maxLen):bq e sz [] 0 (some ⟨b,0,none⟩) cap [⟨b,e,cap*sz,[]⟩]:=.inr ⟨b,rfl,Nat.zero_le _,h,rfl⟩
end
section
open List
open Go.Proofs.Tryz
open Go.RowKit V Pk Vl Go.Proofs.YtbplamgacibdaaaGreatDoor.Nm Pc
variable {G:List (Nat×List Value)}
variable {α:Type} {i n:Nat} {ts h:List (List Tk)} {o:aH}
def ajv:List ByteArray:=[⟨#[]⟩,⟨#[66,79,79,76]⟩,⟨#[73,78,84]⟩,⟨#[84,69,88,84]⟩]
theorem mD(t:Tk):(cT t).all V.one=true:=rfl
def bI(s:ByteArray):Tk:=⟨1,s,0⟩
def dS(s:ByteArray):Tk:=⟨4,s,0⟩
def cK(l:List Tk):List D:=[an 3 cT l]
theorem gF(l:List Tk):(cK l).length=1:=rfl
theorem qw(l:List Tk):(cK l).all V.one=true:=rfl
theorem zV{β:Type}(f:α->β){l:List α}(hi:i<l.length):(l.take i).map f++[f l[i]]=(l.take (i+1)).map f:=by rw[take_succ_eq_append_getElem hi,map_append];rfl
theorem Lb{β:Type}(f:α->β){l:List α}(hi:l.length<=i):(l.take i).map f=l.map f:=by rw[take_of_length_le hi]
theorem og(s:ByteArray):VP Tryz.prog G 86 [bg s] (.agg (cT (dS s))):=by
 refine bn func86 rfl ntmps86 aP fun X0 w0 bj=>?_;exact Yg
theorem sD(s:ByteArray):VP Tryz.prog G 122 [bg s] (.agg (cT (bI s))):=by
 refine bn func122 rfl ntmps122 aP fun X0 w0 bj=>?_;exact Yg
theorem BZ:(Tryz.prog.info? 153).map (fun i=>(i.zero,i.size,i.bytes))=some (some (.agg #[.int .i64 0,.string ⟨#[]⟩,.int .i64 0]),3,32):=by kernel_rfl
theorem Ax(l:List ByteArray)(hl:l.length<=10):VC Tryz.prog G 81 [an 1 cS l] [] (gI cT 153 3 (l.map bI)):=by
 refine bn func81 rfl ntmps81 aP fun X0 w0 bj=>?_;have dH:=ey;refine aA [0] ?_;refine bX ?_;refine bA [0,3] ?_;refine aA [3,6,7,8] ?_;refine kp ?_;refine nY (fun (E:Nat×Option Addr×Nat×List ag) aF=>match E with|(i,O,U,Sa)=>(i<=l.length)/\(bq 153 3 (((l.take i).map bI).flatMap cT) ((l.take i).map bI).length O U Sa)/\aF=(⟨19,[(3,aN O ((l.take i).map bI).length U),(6,an 1 cS l),(7,ae (l.length:Nat)),(8,ae (i:Nat))],(Sa)⟩:St)) (fun (E:Nat×Option Addr×Nat×List ag)=>match E with|(i,O,U,Sa)=>l.length-i) (0,none,0,[]) ⟨(Nat.zero_le _),(bq.cast jj lW),rfl⟩ (aI (h:=Zh)) ?_;rintro⟨i,O,U,Sa⟩ _ ⟨hi,pM,rfl⟩;refine ax [3,6,7,8,9] ?_ ?_<;>intro aM bG
 ·have aa:i<l.length:=(by omega)
  refine aA [3,5,6,7,8] ?_;refine dV 2 ?_;refine eB call122 (sD l[i]) ?_;refine eH (cx 0 [_]) [.int .i64 0,.string ⟨#[]⟩,.int .i64 0] [_,_,_] zeroValue153 runUnderlying101 sizeOf153 (fun b15=>?_);refine gh 0 15 3 1 ?_;refine fY (ls:=((l.take i).map bI)) (new:=[bI l[i]]) (Sq:=Sa) jk mD av rfl rfl underlying101 BZ rfl w8 ot pM (dK (A:=[])) ot bp XD XD (fun Z I amH amI=>?_);refine bZ (ew (S1:=[⟨Z,153,I*3,flatMap cT (((l.take i).map bI)++[bI l[i]])⟩]) (A:=[])) ?_;refine aq 19 [3,6,7,8] ?_;refine cc [3,6,7,8] ?_;refine⟨((i+1),(some ⟨Z,0,none⟩),I,[⟨Z,153,I*3,flatMap cT (((l.take i).map bI)++[bI l[i]])⟩]),_,cG,(aI (h:=Zh)),w4,(bq.cast (bN amH amI) (by exact zV bI aa)),rfl⟩
 have fw:=Lb bI (show l.length<=i by omega);refine aA [2] ?_;refine eu _ ?_;exact gI.cast (gI.mk pM) fw
theorem uc(l:List ByteArray)(hl:l.length<=10):VP Tryz.prog G 81 [an 1 cS l] (.list 3 ((l.map bI).flatMap cT) (l.map bI).length):=VC.yn jk (Ax l hl)
def lS(ts:List (List Tk)):Nat->List Tk
 | 0=>[dS ⟨#[40]⟩]
 | i+1=>lS ts i++(if i>0 then [dS ⟨#[44]⟩] else [])++ts.getD i []
def nf(ts:List (List Tk)):List Tk:=lS ts ts.length++[dS ⟨#[41]⟩]
theorem F7{ts:List (List Tk)}(h:∀x∈ts,x.length<=10):∀i,(lS ts i).length<=1+11*i
 | 0=>Nat.le_refl _
 | i+1=>by
  have E:=F7 h i;have h2:(ts.getD i []).length<=10:=by
   rw[getD_eq_getElem?_getD];cases hx:ts[i]? with
   | none=>exact Nat.zero_le _
   | some x=>exact h x (mem_of_getElem? hx)
  have h3:(if i>0 then [dS ⟨#[44]⟩] else []).length<=1:=(by split<;>simp)
  unfold lS;rw[length_append,length_append];omega
theorem SO(hi:i<ts.length)(h:0<i):(lS ts i++[dS ⟨#[44]⟩])++ts[i]=lS ts (i+1):=by
 rw[lS,if_pos h,getD_eq_getElem?_getD,getElem?_eq_getElem hi];rfl
theorem Rk(hi:i<ts.length)(h:¬0<i):lS ts i++ts[i]=lS ts (i+1):=by
 rw[lS,if_neg h,append_nil,getD_eq_getElem?_getD,getElem?_eq_getElem hi];rfl
theorem Va(ts:List (List Tk))(hl:ts.length<=10)(N7:∀x∈ts,x.length<=10):VP Tryz.prog G 82 [an 1 cK ts] (.list 3 ((nf ts).flatMap cT) (nf ts).length):=by
 refine bn func82 rfl ntmps82 aP fun X0 w0 bj=>?_;have dH:=ey;refine aA [0] ?_;refine bX ?_;refine eB call86 (og ⟨#[40]⟩) ?_;refine eH (cx 0 [_]) [.int .i64 0,.string ⟨#[]⟩,.int .i64 0] [_,_,_] zeroValue153 runUnderlying101 sizeOf153 (fun b7=>?_);refine bZ (ew (S1:=[⟨b7,153,1*3,flatMap cT ([dS ⟨#[40]⟩])⟩]) (A:=[])) ?_;refine aq 29 [0,3] ?_;refine aA [3,8,9,10] ?_;refine kp ?_;refine nY (fun (E:Nat×Option Addr×Nat×List ag) aF=>match E with|(i,I,O,Sa)=>(i<=ts.length)/\(bq 153 3 ((lS ts i).flatMap cT) (lS ts i).length I O Sa)/\aF=(⟨29,[(3,aN I (lS ts i).length O),(8,an 1 cK ts),(9,ae (ts.length:Nat)),(10,ae (i:Nat))],(Sa)⟩:St)) (fun (E:Nat×Option Addr×Nat×List ag)=>match E with|(i,I,O,Sa)=>ts.length-i) (0,(some ⟨b7,0,none⟩),1,[⟨b7,153,1*3,flatMap cT ([dS ⟨#[40]⟩])⟩]) ⟨(Nat.zero_le _),(bq.cast (bN (g:=cT) (sz:=3) (e:=153) (ls:=[dS ⟨#[40]⟩]) (Nat.le_refl _) (show 1<=maxLen by decide)) (by rfl)),rfl⟩ (aI (h:=Zj)) ?_;rintro⟨i,I,O,Sa⟩ _ ⟨hi,pM,rfl⟩;refine ax [3,8,9,10,11] ?_ ?_<;>intro aM bG
 ·have aa:i<ts.length:=(by omega)
  refine aA [3,4,5,8,9,10] ?_;refine ax [3,5,8,9,10,16] ?_ ?_<;>intro bf cD
  ·refine dV 1 ?_;refine eB call86 (og ⟨#[44]⟩) ?_;refine eH (cx 0 [_]) [.int .i64 0,.string ⟨#[]⟩,.int .i64 0] [_,_,_] zeroValue153 runUnderlying101 sizeOf153 (fun b19=>?_);refine gh 0 19 3 1 ?_;refine fY (ls:=(lS ts i)) (new:=[dS ⟨#[44]⟩]) (Sq:=Sa) jk mD av rfl rfl underlying101 BZ rfl w8 ot pM (dK (A:=[])) ot bp xm xm (fun Pw U amJ amK=>?_);refine bZ (ew (S1:=[⟨Pw,153,U*3,flatMap cT ((lS ts i)++[dS ⟨#[44]⟩])⟩]) (A:=[])) ?_;refine aq 29 [3,5,8,9,10] ?_;refine dV 2 ?_;refine sj (ls:=((lS ts i)++[dS ⟨#[44]⟩])) (new:=ts[i]) (Sq:=[⟨Pw,153,U*3,flatMap cT ((lS ts i)++[dS ⟨#[44]⟩])⟩]) jk mD av rfl rfl underlying101 BZ rfl w8 runUnderlying101 sizeOf153 ot (bN amJ amK) (dK (A:=[])) ot xm xm (fun XY XZ ZU X4=>?_);exact z49
  refine dV 2 ?_;refine sj (ls:=(lS ts i)) (new:=ts[i]) (Sq:=Sa) jk mD av rfl rfl underlying101 BZ rfl w8 runUnderlying101 sizeOf153 ot pM (dK (A:=[])) ot xm xm (fun XY XZ ZU X4=>?_);exact z49
 have vG:i=ts.length:=(by omega)
 have ox:lS ts i++[dS ⟨#[41]⟩]=nf ts:=(by unfold nf;rw[<-vG])
 refine az 1 ?_;refine eB call86 (og ⟨#[41]⟩) ?_;refine eH (cx 0 [_]) [.int .i64 0,.string ⟨#[]⟩,.int .i64 0] [_,_,_] zeroValue153 runUnderlying101 sizeOf153 (fun b27=>?_);refine gh 0 27 3 1 ?_;refine fY (ls:=(lS ts i)) (new:=[dS ⟨#[41]⟩]) (Sq:=Sa) jk mD av rfl rfl underlying101 BZ rfl w8 ot pM (dK (A:=[])) ot bp xm xm (fun Pu Z amL amM=>?_);refine bZ (ew (S1:=[⟨Pu,153,Z*3,flatMap cT ((lS ts i)++[dS ⟨#[41]⟩])⟩]) (A:=[])) ?_;refine aq 29 [2] ?_;refine oL (t:=2) (Sq:=[⟨Pu,153,Z*3,flatMap cT ((lS ts i)++[dS ⟨#[41]⟩])⟩]) lk (bN amL amM) (cz jk _) (dK (A:=[])) ?_;refine eu [] ?_;rw[ox];exact⟨rfl,rfl⟩
def jZ(v:Vl):List Tk :=
 if v.k=0 then [bI ⟨#[78,85,76,76]⟩]
 else if v.k=1 then [bI (if v.n=0 then ⟨#[70,65,76,83,69]⟩ else ⟨#[84,82,85,69]⟩)]
 else if v.k=3 then [⟨3,v.s,0⟩]
 else if v.n<0 then [dS ⟨#[45]⟩,⟨2,⟨#[]⟩,-v.n⟩] else [⟨2,⟨#[]⟩,v.n⟩]
def n9(v:Vl):Prop:=(v.k=1->v.n=0\/v.n=1)/\-9223372036854775807<=v.n/\v.n<=9223372036854775807
theorem RC(v:Vl):0<(jZ v).length/\(jZ v).length<=2:=by
 unfold jZ;repeat' split
 all_goals exact⟨by simp,by simp⟩
def G4:List ByteArray:=[⟨#[]⟩,⟨#[]⟩,⟨#[]⟩,⟨#[]⟩,⟨#[]⟩,⟨#[]⟩,⟨#[61]⟩,⟨#[60]⟩,⟨#[43]⟩,⟨#[45]⟩,⟨#[42]⟩]
def A6(k:Int):Tk:=if k=3 then bI ⟨#[65,78,68]⟩ else if k=4 then bI ⟨#[79,82]⟩ else dS (G4.getD k.toNat ⟨#[]⟩)
theorem akT{j:Nat}(h:j<11):(G4.map fun s=>D.v (.string s))[j*1]?=some (bg (G4[j]'h)):=by
 rw[Nat.mul_one,getElem?_map,getElem?_eq_getElem h];rfl
theorem QF(v:Vl)(h:n9 v):VP Tryz.prog G 83 [.agg (cV v)] (.list 3 ((jZ v).flatMap cT) (jZ v).length):=by
 refine bn func83 rfl ntmps83 aP fun X0 w0 bj=>?_;obtain⟨h1,h2,h3⟩:=h;unfold cV;refine bX ?_;refine cW [_,_,_] (fun b1=>?_);refine aq 42 [1] ?_;refine ax [1,3] ?_ ?_<;>intro aM bG
 ·refine cX [2] (uc [⟨#[78,85,76,76]⟩] AX) ?_;exact Ij
 refine ax [1,9] ?_ ?_<;>intro bf cD
 ·have cl:v.k=1:=(by simpa using bf)
  obtain⟨j,hj,I⟩:∃j:Nat,v.n=(j:Int)/\j<2:=(by (rcases h1 cl with h|h;exact⟨0,h,by decide⟩;exact⟨1,h,by decide⟩))
  rw[hj];refine cN [2] ?_;refine O3 (g:=cS) ([⟨#[70,65,76,83,69]⟩,⟨#[84,82,85,69]⟩]) ?_;refine aT 3 ?_ (h:=by exact(dN (mk:=Op.load 9) rfl ot (by exact sI (i:=j) jW isAgg9 (by show j<2;omega) rfl)));refine cL (uc [([⟨#[70,65,76,83,69]⟩,⟨#[84,82,85,69]⟩]:List ByteArray)[j]'(by show j<2;omega)] AX) ?_;refine bL ?_;exact Ij
 refine ax [1,20] ?_ ?_<;>intro cr cU
 ·refine az 3 ?_;refine eH (cx 0 [_]) [.int .i64 0,.string ⟨#[]⟩,.int .i64 0] [_,_,_] zeroValue153 runUnderlying101 sizeOf153 (fun E=>?_);refine bZ (ew (S1:=[⟨E,153,1*3,flatMap cT ([(⟨3,v.s,0⟩:Tk)])⟩]) (A:=[_])) ?_;refine aq 42 [2] ?_;refine oL (t:=2) (Sq:=[⟨E,153,1*3,flatMap cT ([(⟨3,v.s,0⟩:Tk)])⟩]) lk (bN (g:=cT) (sz:=3) (e:=153) (ls:=[(⟨3,v.s,0⟩:Tk)]) (Nat.le_refl _) (show 1<=maxLen by decide)) (cz jk _) (dK (A:=[_])) ?_;exact Ij
 refine ax [1,28] ?_ ?_<;>intro de eG
 ·refine cN [2] ?_;refine cL (og ⟨#[45]⟩) ?_;refine aT 2 ?_ (h:=by exact(FM rfl ot (LS (wrap_i64 w4 w4))));refine bL ?_;exact Ij
 refine az 3 ?_;refine eH (cx 0 [_]) [.int .i64 0,.string ⟨#[]⟩,.int .i64 0] [_,_,_] zeroValue153 runUnderlying101 sizeOf153 (fun xA=>?_);refine bZ (ew (S1:=[⟨xA,153,1*3,flatMap cT ([(⟨2,⟨#[]⟩,v.n⟩:Tk)])⟩]) (A:=[_])) ?_;refine aq 42 [2] ?_;refine oL (t:=2) (Sq:=[⟨xA,153,1*3,flatMap cT ([(⟨2,⟨#[]⟩,v.n⟩:Tk)])⟩]) lk (bN (g:=cT) (sz:=3) (e:=153) (ls:=[(⟨2,⟨#[]⟩,v.n⟩:Tk)]) (Nat.le_refl _) (show 1<=maxLen by decide)) (cz jk _) (dK (A:=[_])) ?_;refine eu [] ?_;refine⟨?_,rfl⟩;unfold jZ;first|(rw[if_pos bG];first|done|rfl)|(rw[if_neg bG,if_pos cl,hj];rcases j with _|_|j<;>first|rfl|omega)|(rw[if_neg bG,if_neg cD,if_pos cU];first|done|rfl)|(rw[if_neg bG,if_neg cD,if_neg cU,if_pos w4,show -v.n=0-v.n by omega];first|done|rfl)|(rw[if_neg bG,if_neg cD,if_neg cU,if_neg w4];first|done|rfl)
theorem ac0(k:Int)(h:k=3\/k=4\/6<=k/\k<=10):VP Tryz.prog G 124 [ae k] (.agg (cT (A6 k))):=by
 refine bn func124 rfl ntmps124 aP fun X0 w0 bj=>?_;refine bX ?_;refine dF (ds:=[_,_,_]) av rfl rfl zeroValue153 rfl (fun b2=>?_);refine aq 14 [0,2] ?_;refine aA [0,2,3] ?_;refine ax [0,2,3,4] ?_ ?_<;>intro aM bG
 ·refine bX ?_;refine eB call122 (sD ⟨#[65,78,68]⟩) ?_;exact ZW
 refine ax [0,2,7] ?_ ?_<;>intro bf cD
 ·refine bX ?_;refine eB call122 (sD ⟨#[79,82]⟩) ?_;exact ZW
 have kf:¬k=3:=(by simpa using aM)
 have zc:¬k=4:=(by simpa using bf)
 obtain⟨j,rfl⟩:∃j:Nat,k=(j:Int):=⟨k.toNat,by omega⟩
 have hj:j<11:=(by omega)
 refine bX ?_;refine bQ (QT (pl:=[(6,_),(7,_),(8,_),(9,_),(10,_)]) (ds:=[_,_,_,_,_,_,_,_,_,_,_]) rfl zeroValue212 runUnderlying212 sizeOf9 ⟨rfl,cf,rfl,cf,rfl,cf,rfl,cf,rfl,cf,trivial⟩ rfl rfl) ?_;refine aG 1 ?_;refine bQ (acN (j:=j) rfl ot ot runUnderlying212 sizeOf9 isAgg9 rfl hj (akT hj)) ?_;refine eB call86 (og (G4[j]'hj)) ?_;refine aR 0 [_,_,_] sizeOf153 ?_;refine dY 14 [2] [] ?_;refine⟨?_,rfl⟩;unfold A6;first|(rw[if_neg kf,if_neg zc,show((j:Nat):Int).toNat=j from rfl,getD_eq_getElem?_getD,getElem?_eq_getElem hj];rfl)|(rw[if_pos yA];rfl)|(rw[if_neg yA,if_pos uh];rfl)
def En(q:List Tk):List D:=[an 3 cT q]
theorem QM:(Tryz.prog.info? 153).map (fun i=>(i.zero,i.size,i.bytes))=some (some (.agg #[.int .i64 0,.string ⟨#[]⟩,.int .i64 0]),3,32):=by kernel_rfl
theorem ad5(n:Nat)(h0:0<n)(hn:n<=100000):VC Tryz.prog G 123 [bW,ae (n:Nat)] [] (fun r S=>∃b cap,cap<=maxLen/\r=aN (some ⟨b,0,none⟩) 0 cap/\S=[⟨b,153,cap*3,[]⟩]):=by
 refine bn func123 rfl ntmps123 aP fun X0 w0 bj=>?_;refine aA [0,1] ?_;refine ax [0,1,6] ?_ ?_<;>intro aM bG
 ·exact absurd aM vv
 refine cN [0,1] ?_;refine aT 2 ?_ (h:=by exact(Fv rfl rfl ot runUnderlying101));refine aT 1 ?_ (h:=by exact(dN (mk:=fun y=>.call {callee:=.builtin .len,args:=#[y],argTypes:=#[101]}) rfl ot (US rfl runUnderlying101)));refine bL ?_;refine ax [0,1,16] ?_ ?_<;>intro bf cD
 ·refine dV 2 ?_;refine bQ (Fv rfl rfl ot runUnderlying101) ?_;refine bQ (Fb rfl ot rfl ⟨_,_,ot,rfl⟩ runUnderlying101 sizeOf153) ?_;refine aG 1 ?_;refine acr (m:=n) (sz:=3) av rfl rfl underlying101 underlying3 QM rfl w8 ot (Eq.trans ot (congrArg (fun z=>D.v (.int .i64 z)) (show((n:Nat):Int)-(0-0)=((n:Nat):Int) by omega))) h0 Hs w4 (fun b cap h1 h2=>?_);refine aG 1 ?_;refine bQ (dN (mk:=fun y=>.call {callee:=.builtin .len,args:=#[y],argTypes:=#[101]}) rfl ot (US rfl runUnderlying101)) ?_;refine bQ (fb (l:=0) (h:=0) rfl ot trivial ⟨_,ot⟩ (by first|exact pU (fun h=>by cases h) runUnderlying101 sizeOf153 w4|exact ph (fun _=>rfl) (fun h=>by cases h) runUnderlying101 sizeOf153 w4 w4)) ?_;refine aq 27 [0] ?_;refine dj [4] [⟨b,153,cap*3,[]⟩] ?_;exact⟨b,cap,h2,rfl,rfl⟩
 exact absurd bf (by simp at bf;omega)
theorem acB(ls:List (List Tk))(hls:ls.length<=1000)(h0:0<ls.flatten.length)(hn:ls.flatten.length<=100000):VC Tryz.prog G 85 [an 1 En ls] [] (fun r S=>∃ad cap,r=aN ad ls.flatten.length cap/\bq 153 3 (ls.flatten.flatMap cT) ls.flatten.length ad cap S):=by
 refine bn func85 rfl ntmps85 aP fun X0 w0 bj=>?_;refine aA [0] ?_;refine aA [0,3] ?_;refine aA [0,3,9,10,11] ?_;refine kp ?_;refine nY (fun (j:Nat) aF=>(j<=ls.length)/\aF=(⟨36,[(0,an 1 En ls),(3,ae ((((ls.take j).flatten).length:Nat):Int)),(9,an 1 En ls),(10,ae (ls.length:Nat)),(11,ae (j:Nat))],[]⟩:St)) (fun (j:Nat)=>ls.length-j) 0 ⟨(Nat.zero_le _),rfl⟩ (aI (h:=Zz)) ?_;rintro j _ ⟨hj,rfl⟩;refine ax [0,3,9,10,11,12] ?_ ?_<;>intro aM bG
 ·have aa:j<ls.length:=(by simp at aM;omega)
  have O:=QA aa;have hle:=QE ls (j+1);refine aA [0,3,5,9,10,11] ?_;refine cN [0,3,9,10,11] ?_;refine aT 3 ?_ (h:=by exact(dX (r:=.int .i64 ((((ls.take (j+1)).flatten).length:Nat):Int)) rfl ot ot (lI (by rw[show((((ls.take j).flatten).length:Nat):Int)+(ls[j].length:Nat)=((((ls.take (j+1)).flatten).length:Nat):Int) by omega];exact wrap_i64 w4 w4))));refine bL ?_;refine ax [0,3,9,10,11,20] ?_ ?_<;>intro bf cD
  ·exact absurd bf (by simp at bf;omega)
  refine cc [0,3,9,10,11] ?_;refine⟨(j+1),_,cG,(aI (h:=Zz)),w4,rfl⟩
 obtain rfl:j=ls.length:=(by simp at aM;omega)
 rw[take_length];refine az 1 ?_;refine fg av rfl rfl rfl call123 (ad5 ls.flatten.length h0 hn) ⟨cf,ot,trivial⟩ (Perm.refl _) ?_;rintro _ _ ⟨b,cp,y8,rfl,rfl⟩;refine bZ (Perm.refl _) ?_;refine aq 36 [0,6] ?_;refine aA [6,25,26,27] ?_;refine kp ?_;refine nY (fun (E:Nat×Option Addr×Nat×List ag) aF=>match E with|(j,dP,dm,Sx)=>(j<=ls.length)/\(bq 153 3 (((ls.take j).flatten).flatMap cT) ((ls.take j).flatten).length dP dm Sx)/\aF=(⟨36,[(6,aN dP ((ls.take j).flatten).length dm),(25,an 1 En ls),(26,ae (ls.length:Nat)),(27,ae (j:Nat))],(Sx)⟩:St)) (fun (E:Nat×Option Addr×Nat×List ag)=>match E with|(j,dP,dm,Sx)=>ls.length-j) (0,(some ⟨b,0,none⟩),cp,[⟨b,153,cp*3,[]⟩]) ⟨(Nat.zero_le _),(bq.cast (ad4 y8) (by rfl)),rfl⟩ (aI (h:=Zf)) ?_;rintro⟨j,dP,dm,Sx⟩ _ ⟨hj,ev,rfl⟩;refine ax [6,25,26,27,28] ?_ ?_<;>intro cr cU
 ·have aa:j<ls.length:=(by simp at cr;omega)
  have O:=QA aa;have hle:=QE ls (j+1);refine aA [6,8,25,26,27] ?_;refine dV 2 ?_;refine sj (ls:=((ls.take j).flatten)) (new:=ls[j]) (Sq:=Sx) jk mD av rfl rfl underlying101 QM rfl w8 runUnderlying101 sizeOf153 ot ev (dK (A:=[])) ot Hs w4 (fun U Z S33 amN=>?_);refine bZ (ew (A:=[])) ?_;refine aq 36 [6,25,26,27] ?_;refine cc [6,25,26,27] ?_;refine⟨((j+1),U,Z,S33),_,cG,(aI (h:=Zf)),w4,(bq.cast amN (by rw[JG aa])),rfl⟩
 obtain rfl:j=ls.length:=(by simp at cr;omega)
 refine dj [2] Sx ?_;have I:=ev;rw[take_length] at I;exact⟨dP,dm,by rw[take_length],I⟩
theorem Fx(ls:List (List Tk))(E:ls.length<=1000)(h0:0<ls.flatten.length)(hn:ls.flatten.length<=100000):VP Tryz.prog G 85 [an 1 En ls] (an 3 cT ls.flatten):=VC.yn jk (acB ls E h0 hn)
def uw(o:aH)(a b:List Tk):List Tk :=
 if o.k=1 then jZ o.v else if o.k=2 then [bI o.nm]
 else if o.k=5 then [[dS ⟨#[40]⟩,bI ⟨#[78,79,84]⟩],a,[dS ⟨#[41]⟩]].flatten
 else if o.k=11 then [[dS ⟨#[40]⟩],a,[bI ⟨#[73,83]⟩,bI ⟨#[78,85,76,76]⟩],[dS ⟨#[41]⟩]].flatten
 else [[dS ⟨#[40]⟩],a,[A6 o.k],b,[dS ⟨#[41]⟩]].flatten
def eX(h:List (List Tk))(o:aH):Nat:=h.length-(bu o.k).toNat
def pA(h:List (List Tk))(o:aH):List (List Tk):=h.take (eX h o)++[uw o (h.getD (eX h o) []) (h.getD (eX h o+1) [])]
def sO(l:List aH):List Tk:=(l.foldl pA []).getD 0 []
theorem ahH{h:Int}(he:gG h o=0):1<=o.k/\o.k<=11/\jy o.v=0/\bu o.k<=h:=by
 unfold gG at he;split at he
 ·cases he
 split at he
 ·exact absurd he vy
 split at he
 ·cases he
 split at he
 ·rename_i h4;exact absurd he h4.2
 split at he
 ·cases he
 exact⟨by omega,by omega,by omega,by omega⟩
theorem ahI{l:List aH}{h:Int}(hi:i<l.length)(he:gb h (l.drop i)=0):gG h l[i]=0:=by
 rw[drop_eq_getElem_cons hi,gb] at he;split at he
 ·assumption
 exact he
theorem GG{v:Vl}(h:jy v=0)(h1:-9223372036854775808<=v.n)(h2:v.n<=9223372036854775807):n9 v:=by
 unfold jy bY at h;split at h
 ·cases h
 have hn:¬(v.k=2/\v.n = -9223372036854775808):=(by assumption)
 repeat' split at h
 all_goals first|(exfalso;omega)|(unfold n9;refine⟨?_,?_,h2⟩<;>omega)
theorem TA(hp:bu o.k<=(h.length:Int)):((pA h o).length:Int)=h.length+(1-bu o.k):=by
 have:=rz o.k;unfold pA eX;rw[length_append,length_take];simp only[length_cons,length_nil];omega
theorem BV(h:List (List Tk))(n:Nat):h.flatten.length=(h.take n).flatten.length+(h.drop n).flatten.length:=by
 conv=>lhs;rw[<-take_append_drop n h,flatten_append,length_append]
theorem vY:(h.getD n []).length<=(h.drop n).flatten.length/\(h.getD n []).length+(h.getD (n+1) []).length<=(h.drop n).flatten.length:=by
 by_cases hn:n<h.length
 ·rw[drop_eq_getElem_cons hn];have e1:h.getD n []=h[n]:=(by rw[getD_eq_getElem?_getD,getElem?_eq_getElem hn];rfl)
  rw[e1,flatten_cons,length_append];refine⟨by omega,?_⟩;by_cases iS:n+1<h.length
  ·rw[drop_eq_getElem_cons iS,flatten_cons,length_append];have e2:h.getD (n+1) []=h[n+1]:=(by rw[getD_eq_getElem?_getD,getElem?_eq_getElem iS];rfl)
   rw[e2];omega
  have e2:h.getD (n+1) []=[]:=(by rw[getD_eq_getElem?_getD,getElem?_eq_none w4];rfl)
  rw[e2];simp only[length_nil];omega
 have e1:h.getD n []=[]:=(by rw[getD_eq_getElem?_getD,getElem?_eq_none w4];rfl)
 have e2:h.getD (n+1) []=[]:=(by rw[getD_eq_getElem?_getD,getElem?_eq_none w4];rfl)
 rw[e1,e2];exact⟨by simp,by simp⟩
theorem Vb(o:aH)(a b:List Tk):(uw o a b).length<=a.length+b.length+5/\0<(uw o a b).length:=by
 have:=RC o.v;unfold uw;repeat' split
 all_goals first|exact⟨by omega,by omega⟩|(simp only[flatten_cons,flatten_nil,length_append,length_cons,length_nil];exact⟨by omega,by omega⟩)
theorem RD:(pA h o).flatten.length<=h.flatten.length+5:=by
 have h1:=BV h (eX h o);have h2:=(vY (h:=h) (n:=eX h o)).2;have h3:=(Vb o (h.getD (eX h o) []) (h.getD (eX h o+1) [])).1;unfold pA;rw[flatten_append,length_append];simp only[flatten_cons,flatten_nil,append_nil];omega
theorem ad6{l:List aH}(hi:i<l.length):(l.take (i+1)).foldl pA []=pA ((l.take i).foldl pA []) l[i]:=by
 rw[take_succ_eq_append_getElem hi,foldl_append];rfl
theorem Gg{e sz cap:Nat}{cs:List D}{ad:Option Addr}{S:List ag}(h:bq e sz cs n ad cap S)(hn:0<n):∃b,ad=some ⟨b,0,none⟩/\n<=cap/\cap<=maxLen/\S=[⟨b,e,cap*sz,cs⟩]:=by
 rcases h with ⟨h1,_⟩|h
 ·omega
 exact h
theorem nD{h:List α}{d:α}(hn:n<h.length):h.getD n d=h[n]:=by rw[getD_eq_getElem?_getD,getElem?_eq_getElem hn];rfl
theorem acC:(Tryz.prog.info? 101).map (fun i=>(i.zero,i.size,i.bytes))=some (some (.slice none 0 0),1,24):=by kernel_rfl
theorem Q4(l:List aH)(hl:l.length<=40)(he:gb 0 l=0)(hr:∀o∈l,-9223372036854775808<=o.v.n/\o.v.n<=9223372036854775807):VP Tryz.prog G 87 [an 5 cO l] (.list 3 ((sO l).flatMap cT) (sO l).length):=by
 refine bn func87 rfl ntmps87 aP fun X0 w0 bj=>?_;have dH:=ey;refine aA [0] ?_;refine bX ?_;refine bA [0,3] ?_;refine aA [3,8,9,10] ?_;refine kp ?_;refine nY (fun (nk:Nat×List (List Tk)×Option Addr×Nat×List ag) aF=>match nk with|(i,H,BJ,E,Sh)=>(i<=l.length)/\(H=(l.take i).foldl pA [])/\(gb ((H).length:Int) (l.drop i)=0)/\((H).length<=i)/\((H).flatten.length<=5*i)/\(bq 101 1 ((H).flatMap cK) (H).length BJ E Sh)/\aF=(⟨90,[(3,aN BJ (H).length E),(8,an 5 cO l),(9,ae (l.length:Nat)),(10,ae (i:Nat))],(Sh)⟩:St)) (fun (nk:Nat×List (List Tk)×Option Addr×Nat×List ag)=>match nk with|(i,H,BJ,E,Sh)=>l.length-i) (0,[],none,0,[]) ⟨(Nat.zero_le _),rfl,he,(Nat.le_refl _),(Nat.le_refl _),(bq.cast jj (by rfl)),rfl⟩ (aI (h:=Zg)) ?_;rintro⟨i,H,BJ,E,Sh⟩ _ ⟨hi,hH,hx,hHi,hHf,BK,rfl⟩;refine ax [3,8,9,10,11] ?_ ?_<;>intro aM bG
 ·have aa:i<l.length:=(by simp at aM;omega)
  have BD:=ahI aa hx;obtain⟨cl,Yx,amO,Iy⟩:=ahH BD;have Ek:=rz l[i].k;have Nu:l.length<=40:=hl;have amP:eX H l[i]<=H.length:=Nat.sub_le _ _;have amQ:=GG amO (hr _ (getElem_mem aa)).1 (hr _ (getElem_mem aa)).2;refine az 2 ?_;refine dF (ds:=[_,_,_,_,_]) av rfl rfl zeroValue58 rfl (fun b5=>?_);refine aR 0 [_,_,_,_,_] sizeOf58 ?_;refine aq 90 [3,5,8,9,10] ?_;refine cN [3,5,6,8,9,10] ?_;refine cL (K5 l[i].k) ?_;refine aT 0 ?_ (h:=by exact(dX (r:=.int .i64 (((eX H l[i]):Nat):Int)) rfl ot ot (iL (by rw[show((H.length:Nat):Int)-bu l[i].k=(((eX H l[i]):Nat):Int) by unfold eX;omega];exact wrap_i64 w4 w4))));refine bL ?_;refine aA [3,5,6,8,9,10] ?_;refine iT [6,8,9,10] (fun aV _ aF=>∃(Tx:List Tk),∃(ad:Option Addr),∃(cp:Nat),∃(Sx:List ag),(Tx=uw l[i] (H.getD (eX H l[i]) []) (H.getD (eX H l[i]+1) []))/\(bq 101 1 (H.flatMap cK) H.length ad cp Sx)/\aF=(⟨90,(3,aN ad H.length cp)::(7,an 3 cT Tx)::aV,Sx⟩:St)) ?_ ?_
  ·refine aA [3,5,6,8,9,10,21] ?_;refine ax [3,5,6,8,9,10,21,41] ?_ ?_<;>intro bf cD
   ·refine jg [3,6,7,8,9,10] ?_;refine cL (QF l[i].v amQ) ?_;refine bL ?_;refine⟨_,aI,jZ l[i].v,BJ,E,Sh,(by unfold uw;rw[if_pos cD]),BK,rfl⟩
   refine ax [3,5,6,8,9,10,21,46] ?_ ?_<;>intro cr cU
   ·refine jg [3,6,7,8,9,10] ?_;refine cL (uc [l[i].nm] AX) ?_;refine bL ?_;refine⟨_,aI,[bI l[i].nm],BJ,E,Sh,(by unfold uw;rw[if_neg cD,if_pos cU]),BK,rfl⟩
   refine ax [3,5,6,8,9,10,21,52] ?_ ?_<;>intro de eG
   ·have zx:l[i].k=5:=(by simpa using de)
    have hp1:bu l[i].k=1:=(by rw[zx];decide)
    have hg1:=(vY (h:=H) (n:=eX H l[i])).1;have hg2:=(vY (h:=H) (n:=eX H l[i])).2;have hg3:=BV H (eX H l[i]);have Z:0<H.length:=(by omega)
    obtain⟨bh,I,O,U,zB⟩:=Gg BK Z;subst I zB;have ir:eX H l[i]<H.length:=(by unfold eX;omega)
    rw[nD ir] at hg1 hg2;skip;refine jg [3,6,7,8,9,10] ?_;refine cL (og ⟨#[40]⟩) ?_;refine cL (sD ⟨#[78,79,84]⟩) ?_;refine aT 4 ?_ (h:=N8);refine cL (og ⟨#[41]⟩) ?_;refine cL (Fx ([[dS ⟨#[40]⟩,bI ⟨#[78,79,84]⟩],H[eX H l[i]],[dS ⟨#[41]⟩]]) M1 Bn Bn) ?_;refine bL ?_;refine⟨_,aI,[[dS ⟨#[40]⟩,bI ⟨#[78,79,84]⟩],H[eX H l[i]],[dS ⟨#[41]⟩]].flatten,(some ⟨bh,0,none⟩),E,[⟨bh,101,E*1,H.flatMap cK⟩],(by unfold uw;rw[if_neg cD,if_neg cU,if_pos eG,nD ir]),(bN O U),rfl⟩
   refine ax [3,5,6,8,9,10,65] ?_ ?_<;>intro eo fS
   ·have Px:l[i].k=11:=(by simpa using eo)
    have hp1:bu l[i].k=1:=(by rw[Px];decide)
    have hg1:=(vY (h:=H) (n:=eX H l[i])).1;have hg2:=(vY (h:=H) (n:=eX H l[i])).2;have hg3:=BV H (eX H l[i]);have Z:0<H.length:=(by omega)
    obtain⟨bh,I,O,U,zB⟩:=Gg BK Z;subst I zB;have ir:eX H l[i]<H.length:=(by unfold eX;omega)
    rw[nD ir] at hg1 hg2;skip;refine jg [3,6,7,8,9,10] ?_;refine cL (og ⟨#[40]⟩) ?_;refine aT 4 ?_ (h:=N8);refine cL (uc [⟨#[73,83]⟩,⟨#[78,85,76,76]⟩] (by show 2<=10;decide)) ?_;refine cL (og ⟨#[41]⟩) ?_;refine cL (Fx ([[dS ⟨#[40]⟩],H[eX H l[i]],[bI ⟨#[73,83]⟩,bI ⟨#[78,85,76,76]⟩],[dS ⟨#[41]⟩]]) M1 Bn Bn) ?_;refine bL ?_;refine⟨_,aI,[[dS ⟨#[40]⟩],H[eX H l[i]],[bI ⟨#[73,83]⟩,bI ⟨#[78,85,76,76]⟩],[dS ⟨#[41]⟩]].flatten,(some ⟨bh,0,none⟩),E,[⟨bh,101,E*1,H.flatMap cK⟩],(by unfold uw;rw[if_neg cD,if_neg cU,if_neg eG,if_pos fS,nD ir]),(bN O U),rfl⟩
   have hkb:¬l[i].k=1/\¬l[i].k=2/\¬l[i].k=5/\¬l[i].k=11:=⟨by simpa using bf,by simpa using cr,by simpa using de,by simpa using eo⟩
   have mS:bu l[i].k=2:=(by unfold bu;rw[if_neg w4,if_neg w4])
   have hg1:=(vY (h:=H) (n:=eX H l[i])).1;have hg2:=(vY (h:=H) (n:=eX H l[i])).2;have hg3:=BV H (eX H l[i]);have Z:0<H.length:=(by omega)
   obtain⟨bh,I,O,U,zB⟩:=Gg BK Z;subst I zB;have ir:eX H l[i]<H.length:=(by unfold eX;omega)
   have gM:eX H l[i]+1<H.length:=(by unfold eX;omega)
   rw[nD ir,nD gM] at hg2;rw[nD ir] at hg1;refine jg [3,6,7,8,9,10] ?_;refine cL (og ⟨#[40]⟩) ?_;refine aT 4 ?_ (h:=N8);refine cL (ac0 l[i].k w4) ?_;refine aT 3 ?_ (h:=by exact(dX (r:=.int .i64 ((((eX H l[i])+1:Nat)):Int)) rfl ot cf (lI (by rw[show(((eX H l[i]):Nat):Int)+1=(((eX H l[i])+1:Nat):Int) by omega];exact wrap_i64 w4 w4))));refine aT 1 ?_ (h:=by first|exact(dN (mk:=Op.load 101) rfl ot (by exact ke (k:=0) (i:=((eX H l[i])+1)) gF rfl rfl rfl isAgg101 gM rfl))|exact(dN (mk:=Op.load 101) rfl ot (by exact ke (k:=1) (i:=((eX H l[i])+1)) gF rfl rfl rfl isAgg101 gM rfl))|exact(dN (mk:=Op.load 101) rfl ot (by exact ke (k:=2) (i:=((eX H l[i])+1)) gF rfl rfl rfl isAgg101 gM rfl)));refine cL (og ⟨#[41]⟩) ?_;refine cL (Fx ([[dS ⟨#[40]⟩],H[eX H l[i]],[A6 l[i].k],H[eX H l[i]+1],[dS ⟨#[41]⟩]]) M1 Bn Bn) ?_;refine bL ?_;refine⟨_,aI,[[dS ⟨#[40]⟩],H[eX H l[i]],[A6 l[i].k],H[eX H l[i]+1],[dS ⟨#[41]⟩]].flatten,(some ⟨bh,0,none⟩),E,[⟨bh,101,E*1,H.flatMap cK⟩],(by unfold uw;rw[if_neg cD,if_neg cU,if_neg eG,if_neg fS,nD ir,nD gM]),(bN O U),rfl⟩
  rintro _ ⟨Tx,ad,cp,Sx,hT,ev,rfl⟩;have hTl:=Vb l[i] (H.getD (eX H l[i]) []) (H.getD (eX H l[i]+1) []);refine dV 3 ?_;refine bQ (abT ev rfl ot ot ot runUnderlying146 sizeOf101 (by unfold eX;omega)) ?_;refine aG 1 ?_;refine eH (cx 0 [_]) [.slice none 0 0] [_] zeroValue101 runUnderlying146 sizeOf101 (fun b84=>?_);refine gh 0 84 1 1 ?_;refine abU (ls:=H) (new:=[Tx]) (n:=eX H l[i]) (Sq:=Sx) gF qw av rfl rfl underlying146 acC rfl w8 ot ev (dK (A:=[])) (by unfold eX;omega) ot bp (by simp only[maxLen,length_cons,length_nil];omega) (by simp only[length_cons,length_nil];omega) (fun Py Nv amR amS=>?_);refine bZ (ew (S1:=[⟨Py,101,Nv*1,flatMap cK (H.take (eX H l[i])++[Tx])⟩]) (A:=[])) ?_;refine aq 90 [3,8,9,10] ?_;refine cc [3,8,9,10] ?_;refine⟨((i+1),(pA H l[i]),(some ⟨Py,0,none⟩),Nv,[⟨Py,101,Nv*1,flatMap cK (H.take (eX H l[i])++[Tx])⟩]),_,cG,(aI (h:=Zg)),w4,(by rw[hH,<-ad6 aa]),(by rw[TA Iy,<-Tu aa BD];exact hx),(by have:=TA Iy;omega),(by have:=RD (h:=H) (o:=l[i]);omega),(bq.cast (bN amR amS) (by rw[hT];rfl)),rfl⟩
 have vG:l.length<=i:=(by simp at aM;omega)
 have fw:=hx;rw[Ry vG] at fw;have hH1:H.length=1:=(by (split at fw;omega;cases fw))
 refine qq ?_;refine cQ ?_;obtain⟨bh,I,O,U,zB⟩:=Gg BK (show 0<H.length by omega);subst I zB;have ir:0<H.length:=(by omega)
 refine jg [2] ?_;refine aT 1 ?_ (h:=by exact(tV (mk:=Op.indexAddr 146) rfl ot cf (by first|exact we runUnderlying146 sizeOf101 (j:=0) rfl (by first|exact ir|exact gM)|exact wB runUnderlying146 sizeOf101 (j:=0) rfl (by first|exact ir|exact gM))));refine aT 0 ?_ (h:=by first|exact(dN (mk:=Op.load 101) rfl ot (by exact ke (k:=0) (i:=0) gF rfl rfl rfl isAgg101 ir rfl))|exact(dN (mk:=Op.load 101) rfl ot (by exact ke (k:=1) (i:=0) gF rfl rfl rfl isAgg101 ir rfl))|exact(dN (mk:=Op.load 101) rfl ot (by exact ke (k:=2) (i:=0) gF rfl rfl rfl isAgg101 ir rfl)));refine bL ?_;refine eu [] ?_;refine⟨?_,rfl⟩;unfold sO;rw[show l.foldl pA []=H by rw[hH,take_of_length_le vG],nD ir]
end
open List
open Go.Proofs.Tryz
open Go.RowKit V Pk Vl Go.Proofs.YtbplamgacibdaaaGreatDoor.Nm Pc
variable {G:List (Nat×List Value)}
variable {α:Type} {i:Nat} {E:List ByteArray}
def bK(s:cn):List D:=[ae s.kind,bg s.table,an 2 cC s.au,an 3 cV s.row,an 1 cS s.names,bP s.count,an 5 cO s.ah,bg s.order,bP s.down,ae s.iz,bg s.set,an 5 cO s.bM]
def okS(s:cn):Prop:=s.au.length<=6/\s.row.length<=6/\s.names.length<=6/\s.ah.length<=40/\s.bM.length<=40
def kx{α:Type}(f:α->Int):List α->Int
 | []=>0
 | a::r=>if f a≠0 then f a else kx f r
theorem TB{f:α->Int}{l:List α}(hi:i<l.length)(h:f l[i]≠0):kx f (l.drop i)=f l[i]:=by rw[drop_eq_getElem_cons hi,kx,if_pos h]
theorem TC{f:α->Int}{l:List α}(hi:i<l.length)(h:f l[i]=0):kx f (l.drop i)=kx f (l.drop (i+1)):=by rw[drop_eq_getElem_cons hi,kx,if_neg (by rw[h];decide)]
theorem RE{f:α->Int}{l:List α}(hi:l.length<=i):kx f (l.drop i)=0:=by rw[drop_of_length_le hi];rfl
def dR(l:List Vl):Int:=if l.length<1\/l.length>6 then 1 else kx jy l
def om(l:List aH):Int:=if l.length=0 then 0 else fR l
def pW(s:cn):Int :=
 if s.names.length>6 then 1 else if s.iz < -1 then 3
 else if (s.count=true/\0<s.names.length)\/(s.down=true/\jf s.order ⟨#[]⟩=true) then 6
 else if kx cR s.names≠0 then kx cR s.names else if om s.ah≠0 then om s.ah else if jf s.order ⟨#[]⟩=true then 0 else cR s.order
def iM(s h:cn):Bool:=jf s.table h.table&&(((s.au.length:Int)==(h.au.length:Int))&&(((s.row.length:Int)==(h.row.length:Int))&&(((s.names.length:Int)==(h.names.length:Int))&&((s.count==h.count)&&(((s.ah.length:Int)==(h.ah.length:Int))&&(jf s.order h.order&&((s.down==h.down)&&((s.iz==h.iz)&&(jf s.set h.set&&((s.bM.length:Int)==(h.bM.length:Int)))))))))))
structure iZ (s:cn):Prop where
 ok:okS s
 t:s.table.size<=maxLen
 c:∀c∈s.au,c.n.size<=maxLen
 n:∀x∈s.names,x.size<=maxLen
 o:s.order.size<=maxLen
 e:s.set.size<=maxLen
 r:∀v∈s.row,-9223372036854775808<=v.n/\v.n<=9223372036854775807
 w:∀o∈s.ah,o.nm.size<=maxLen/\-9223372036854775808<=o.v.n/\o.v.n<=9223372036854775807
 x:∀o∈s.bM,o.nm.size<=maxLen/\-9223372036854775808<=o.v.n/\o.v.n<=9223372036854775807
def kW(l:List aH):List Tk:=if l.length=0 then [] else [⟨#[87,72,69,82,69]⟩].map bI++sO l
theorem SS(hm:(3,marksC)∈G)(hw:(1,wordsC)∈G)(l:List ByteArray)(hl:l.length<=1000)(hs:∀s∈l,s.size<=maxLen):VP Tryz.prog G 121 [an 1 cS l] (ae (kx cR l)):=by
 refine bn func121 rfl ntmps121 aP fun X0 w0 bj=>?_;refine aA [0] ?_;refine aA [6,7,8] ?_;refine fa [6,7] (fun aV _ (i:Nat) aF=>(i<=l.length)/\(kx cR l=kx cR (l.drop i))/\aF=(⟨18,(8,ae (i:Nat))::aV,[]⟩:St)) (fun (i:Nat)=>l.length-i) 0 ⟨(Nat.zero_le _),rfl,rfl⟩ ?_;rintro i _ ⟨hi,hx,rfl⟩;refine ax [6,7,8,9] ?_ ?_<;>intro aM bG
 ·have aa:i<l.length:=(by simp at aM;omega)
  refine aA [4,6,7,8] ?_;refine cX [5,6,7,8] (wi hm hw l[i] (hs _ (getElem_mem aa))) ?_;refine ax [5,6,7,8,15] ?_ ?_<;>intro bf cD
  ·have hn:cR l[i]≠0:=(by simpa using bf)
   have fw:=hx.trans (TB aa hn);exact OI
  have h0:cR l[i]=0:=(by simpa using bf)
  refine cc [6,7,8] ?_;refine⟨(i+1),_,cG,aI,w4,(hx.trans (TC aa h0)),rfl⟩
 have fw:kx cR l=0:=hx.trans (RE vv);refine aA [2] ?_;exact Iu
theorem ahJ(l:List Vl)(hl:l.length<=1000):VP Tryz.prog G 77 [an 3 cV l] (ae (dR l)):=by
 refine bn func77 rfl ntmps77 aP fun X0 w0 bj=>?_;have O:(l.length<1\/l.length>6)\/¬(l.length<1\/l.length>6):=(by omega)
 refine aA [0] ?_;refine az 4 ?_;refine bU 9 (fun I E=>?_) (fun I E=>?_)
 ·refine bA [0,13] ?_;refine e9 ?_;exact X9
 refine bA [0,13] ?_;refine cj ?_ ?_<;>intro aM bG
 ·exact X9
 have hf:dR l=kx jy l:=if_neg w4;refine aA [14,15,16] ?_;refine fa [14,15] (fun aV _ (i:Nat) aF=>(i<=l.length)/\(kx jy l=kx jy (l.drop i))/\aF=(⟨26,(16,ae (i:Nat))::aV,[]⟩:St)) (fun (i:Nat)=>l.length-i) 0 ⟨(Nat.zero_le _),rfl,rfl⟩ ?_;rintro i _ ⟨hi,hx,rfl⟩;refine ax [14,15,16,17] ?_ ?_<;>intro bf cD
 ·have aa:i<l.length:=(by simp at bf;omega)
  refine az 2 ?_;refine dF (ds:=[_,_,_]) av rfl rfl zeroValue56 rfl (fun U=>?_);refine aR 0 [_,_,_] sizeOf56 ?_;refine aq 26 [4,14,15,16] ?_;refine cX [5,14,15,16] (Nm.Q0 l[i]) ?_;refine ax [5,14,15,16,23] ?_ ?_<;>intro cr cU
  ·have hn:jy l[i]≠0:=(by simpa using cr)
   have fw:=hf.trans (hx.trans (TB aa hn));exact OI
  have h0:jy l[i]=0:=(by simpa using cr)
  refine cc [14,15,16] ?_;refine⟨(i+1),_,cG,aI,w4,(hx.trans (TC aa h0)),rfl⟩
 have fw:dR l=0:=hf.trans (hx.trans (RE (by simp at bf;omega)));refine aA [2] ?_;exact Iu
theorem Fp(hm:(3,marksC)∈G)(hw:(1,wordsC)∈G)(l:List aH)(hs:∀o∈l,o.nm.size<=maxLen):VP Tryz.prog G 79 [an 5 cO l] (ae (om l)):=by
 refine bn func79 rfl ntmps79 aP fun X0 w0 bj=>?_;refine aA [0] ?_;refine ax [0,5] ?_ ?_<;>intro aM bG
 ·have fw:om l=0:=if_pos vv;exact OI
 have fw:om l=fR l:=if_neg vv;refine cX [2] (K6 hm hw l hs) ?_;exact Iu
theorem afT(hm:(3,marksC)∈G)(hw:(1,wordsC)∈G)(s:cn)(hf:iZ s):VP Tryz.prog G 78 [.agg (bK s)] (ae (pW s)):=by
 refine bn func78 rfl ntmps78 aP fun X0 w0 bj=>?_;unfold bK;refine bX ?_;refine cW [_,_,_,_,_,_,_,_,_,_,_,_] (fun b1=>?_);refine aq 50 [1] ?_;refine ax [1,5] ?_ ?_<;>intro aM bG
 ·refine dj [2] [] ?_;exact ZI
 refine ax [1,10] ?_ ?_<;>intro bf cD
 ·refine dj [2] [] ?_;exact ZI
 refine az 3 ?_;refine bU 17 (fun yI yl=>?_) (fun yI yl=>?_)
 ·refine aG 6 ?_;refine bU 23 (fun U O=>?_) (fun U O=>?_)
  ·refine bA [1,14] ?_;refine e9 ?_;refine aA [2] ?_;exact DP
  refine aG 3 ?_;refine bU 26 (fun I E=>?_) (fun I E=>?_)
  ·exact Yj
  refine bA [1,14] ?_;refine gB ?_;exact ZH
 refine zn 4 ?_;refine aG 5 ?_;refine bU 26 (fun I E=>?_) (fun I E=>?_)
 ·exact Yj
 refine bA [1,14] ?_;refine gB ?_;refine cX [1,3] (SS hm hw s.names (by have:=hf.ok.2.2.1;omega) hf.n) ?_;refine ax [1,3,36] ?_ ?_<;>intro de eG
 ·refine aA [2] ?_;exact DP
 refine cX [1,4] (Fp hm hw s.ah (fun o h=>(hf.w o h).1)) ?_;refine ax [1,4,42] ?_ ?_<;>intro eo fS
 ·refine aA [2] ?_;exact DP
 refine ax [1,46] ?_ ?_<;>intro gk iC
 ·refine cX [2] (wi hm hw s.order hf.o) ?_;exact DP
 refine aA [2] ?_;refine fi ?_;refine⟨vi ?_,rfl⟩;unfold pW jf;simp_all;all_goals (try (intros;(repeat' split)<;>first|rfl|omega))
theorem ahK(s h:cn):VP Tryz.prog G 80 [.agg (bK s),.agg (bK h)] (bP (iM s h)):=by
 refine bn func80 rfl ntmps80 aP fun X0 w0 bj=>?_;unfold bK;refine bX ?_;refine cW [_,_,_,_,_,_,_,_,_,_,_,_] (fun b2=>?_);refine cW [_,_,_,_,_,_,_,_,_,_,_,_] (fun b3=>?_);refine aq 90 [2,3] ?_;refine az 6 ?_;refine bU 10 (fun amT E=>?_) (fun amT E=>?_)
 ·refine aG 9 ?_;refine bU 19 (fun Nw I=>?_) (fun Nw I=>?_)
  ·refine aG 9 ?_;refine bU 28 (fun amU O=>?_) (fun amU O=>?_)
   ·refine aG 9 ?_;refine bU 37 (fun amV U=>?_) (fun amV U=>?_)
    ·refine aG 4 ?_;refine pR iR rfl (dX rfl ot ot (FK underlying4)) ?_;refine aG 2 ?_;refine bU 44 (fun Dj Z=>?_) (fun Dj Z=>?_)
     ·refine aG 9 ?_;refine bU 53 (fun Nx Mx=>?_) (fun Nx Mx=>?_)
      ·refine aG 7 ?_;refine bU 60 (fun amW My=>?_) (fun amW My=>?_)
       ·refine aG 4 ?_;refine pR iR rfl (dX rfl ot ot (FK underlying4)) ?_;refine aG 2 ?_;refine bU 67 (fun amX akU=>?_) (fun amX akU=>?_)
        ·refine aG 7 ?_;refine bU 74 (fun amY akV=>?_) (fun amY akV=>?_)
         ·refine aG 7 ?_;refine bU 81 (fun amZ akW=>?_) (fun amZ akW=>?_)
          ·exact y9
          exact y9
         exact y9
        exact y9
       exact y9
      exact y9
     exact y9
    refine bA [4] ?_;refine fi ?_;exact OA
   refine bA [4] ?_;refine fi ?_;exact OA
  refine bA [4] ?_;refine fi ?_;exact OA
 refine bA [4] ?_;refine fi ?_;refine⟨vb ?_,rfl⟩;unfold iM jf;simp_all;all_goals (try (intros;omega))
theorem acD:(Tryz.prog.info? 153).map (fun i=>(i.zero,i.size,i.bytes))=some (some (.agg #[.int .i64 0,.string ⟨#[]⟩,.int .i64 0]),3,32):=by kernel_rfl
theorem Ji(l:List aH)(hl:l.length<=40)(he:l.length=0\/gb 0 l=0)(hr:∀o∈l,-9223372036854775808<=o.v.n/\o.v.n<=9223372036854775807)(hsl:(sO l).length<=1000):VP Tryz.prog G 88 [an 5 cO l] (.list 3 ((kW l).flatMap cT) (kW l).length):=by
 refine bn func88 rfl ntmps88 aP fun X0 w0 bj=>?_;refine aA [0] ?_;refine ax [0,5] ?_ ?_<;>intro aM bG
 ·have fw:kW l=[]:=if_pos vv;refine aA [2] ?_;refine kS (Wk.vj (t:=2) (sz:=3) lk) ?_;refine eu [] ?_;rw[fw];exact⟨rfl,rfl⟩
 have fw:kW l=[⟨#[87,72,69,82,69]⟩].map bI++sO l:=if_neg vv;have I:gb 0 l=0:=he.resolve_left vv;refine bX ?_;refine eH (cx 0 [_]) [.string ⟨#[]⟩] [_] zeroValue9 runUnderlying41 sizeOf9 (fun b6=>?_);refine bZ (ew (S1:=[⟨b6,9,1*1,flatMap cS ([⟨#[87,72,69,82,69]⟩])⟩]) (A:=[])) ?_;refine qn (t:=6) (Sq:=[⟨b6,9,1*1,flatMap cS ([⟨#[87,72,69,82,69]⟩])⟩]) lk (bN (g:=cS) (sz:=1) (e:=9) (ls:=[⟨#[87,72,69,82,69]⟩]) (Nat.le_refl _) (show 1<=maxLen by decide)) (cz jW _) (dK (A:=[])) ?_;refine fg av rfl rfl rfl call81 (Ax [⟨#[87,72,69,82,69]⟩] AX) ⟨ot,trivial⟩ (fx _) ?_;rintro _ S7 ⟨ad7,cp7,rfl,qQ⟩;refine bZ (S':=S7) (append_nil _ ▸ Perm.refl _) ?_;refine aG 1 ?_;refine eB call87 (Q4 l hl I hr) ?_;refine sj (ls:=([⟨#[87,72,69,82,69]⟩].map bI)) (new:=(sO l)) (Sq:=S7) jk mD av rfl rfl underlying101 acD rfl w8 runUnderlying101 sizeOf153 ot qQ (dK (A:=[])) ot (by simp only[maxLen,length_map,length_cons,length_nil];omega) (by simp only[length_map,length_cons,length_nil];omega) (fun U Z O E=>?_);refine bZ (ew (A:=[])) ?_;refine aq 11 [2] ?_;refine oL (t:=2) (Sq:=O) lk E (cz jk _) (dK (A:=[])) ?_;exact Iu
def sY(s:cn):ByteArray:=if s.kind<7 then s.table else ⟨#[]⟩
def gi(s:cn):cn :=
 if s.kind=1 then {fm with kind:=s.kind,table:=(sY s),au:=s.au} else if s.kind=3 then {fm with kind:=s.kind,table:=(sY s),row:=s.row} else if s.kind=4 then {fm with kind:=s.kind,table:=(sY s),names:=s.names,count:=s.count,ah:=s.ah,order:=s.order,down:=s.down,iz:=s.iz} else if s.kind=5 then {fm with kind:=s.kind,table:=(sY s),set:=s.set,bM:=s.bM,ah:=s.ah} else if s.kind=6 then {fm with kind:=s.kind,table:=(sY s),ah:=s.ah} else {fm with kind:=s.kind,table:=(sY s)}
def gW(s:cn):Int :=
 if s.kind=1 then ga s.au else if s.kind=3 then dR s.row else if s.kind=4 then pW s
 else if s.kind=5 then (if cR s.set=0 then (if fR s.bM=0 then om s.ah else fR s.bM) else cR s.set) else if s.kind=6 then om s.ah else 0
def fL(s:cn):Int:=if s.kind<7/\cR s.table≠0 then cR s.table else if gW s=0/\iM s (gi s)=false then 6 else gW s
theorem ad8(hm:(3,marksC)∈G)(hw:(1,wordsC)∈G)(s:cn)(hf:iZ s):VP Tryz.prog G 41 [.agg (bK s)] (ae (fL s)):=by
 refine bn func41 rfl ntmps41 aP fun X0 w0 bj=>?_;have I:=afT hm hw s hf;unfold bK at I;unfold bK;refine bX ?_;refine cW [_,_,_,_,_,_,_,_,_,_,_,_] (fun b1=>?_);refine aq 102 [1] ?_;refine az 3 ?_;refine dF (ds:=[_,_,_,_,_,_,_,_,_,_,_,_]) av rfl rfl zeroValue44 rfl (fun b3=>?_);refine aR 0 [_,_,_,_,_,_,_,_,_,_,_,_] sizeOf44 ?_;refine aq 102 [1,3] ?_;refine iT [1,3] (fun aV _ aF=>∃(tb:ByteArray),(tb=sY s)/\(¬(s.kind<7/\cR s.table≠0))/\aF=(⟨102,aV,[⟨b3,44,12,[ae s.kind,bg tb,.list 2 [] 0,.list 3 [] 0,.list 1 [] 0,bP false,.list 5 [] 0,fN,bP false,ae (-1),fN,.list 5 [] 0]⟩,⟨b1,44,12,[ae s.kind,bg s.table,an 2 cC s.au,an 3 cV s.row,an 1 cS s.names,bP s.count,an 5 cO s.ah,bg s.order,bP s.down,ae s.iz,bg s.set,an 5 cO s.bM]⟩]⟩:St)) ?_ ?_
 ·refine cQ ?_;refine Tp (k:=0) (cs':=[_,_,.list 2 [] 0,.list 3 [] 0,.list 1 [] 0,_,.list 5 [] 0,_,_,_,_,.list 5 [] 0]) (S':=[_,_]) rfl Oc rfl ?_;refine cc [1,3,11] ?_;refine cj ?_ ?_<;>intro aM bG
  ·refine az 3 ?_;refine aR 0 [_,_,_,_,_,_,_,_,_,_,_,_] sizeOf9 ?_;refine aq 102 [1,3] ?_;refine cX [1,3,4] (wi hm hw s.table hf.t) ?_;refine ax [1,3,4,19] ?_ ?_<;>intro bf cD
   ·have aY:fL s=cR s.table:=(by unfold fL;rw[if_pos ⟨bG,by simpa using bf⟩])
    exact z91
   have ir:cR s.table=0:=(by simpa using bf)
   have O:s.table=sY s:=(by unfold sY;rw[if_pos bG])
   have U:¬(s.kind<7/\cR s.table≠0):=fun h=>h.2 ir;refine en ?_;refine⟨_,aI,s.table,O,U,rfl⟩
  have O:(⟨#[]⟩:ByteArray)=sY s:=(by unfold sY;rw[if_neg w4])
  have U:¬(s.kind<7/\cR s.table≠0):=fun h=>by omega
  refine en ?_;refine⟨_,aI,⟨#[]⟩,O,U,rfl⟩
 rintro _ ⟨tb,uH,pN,rfl⟩;refine aA [1,3,5] ?_;refine iT [1,3] (fun aV _ aF=>∃(H:cn),∃(e:Int),(H=gi s)/\(e=gW s)/\aF=(⟨102,(5,ae e)::aV,[⟨b3,44,12,[ae H.kind,bg H.table,an 2 cC H.au,an 3 cV H.row,an 1 cS H.names,bP H.count,an 5 cO H.ah,bg H.order,bP H.down,ae H.iz,bg H.set,an 5 cO H.bM]⟩,⟨b1,44,12,[ae s.kind,bg s.table,an 2 cC s.au,an 3 cV s.row,an 1 cS s.names,bP s.count,an 5 cO s.ah,bg s.order,bP s.down,ae s.iz,bg s.set,an 5 cO s.bM]⟩]⟩:St)) ?_ ?_
 ·refine aA [1,3,5,22] ?_;refine ax [1,3,5,22,23] ?_ ?_<;>intro cr cU
  ·refine az 3 ?_;refine aR 0 [_,_,_,_,_,_,_,_,_,_,_,_] sizeOf39 ?_;refine aq 102 [1,3] ?_;refine jg [1,3,5] ?_;refine cL (ahG hm hw s.au (by have:=hf.ok.1;simp only[maxLen];omega) hf.c) ?_;refine bL ?_;refine⟨_,aI,{fm with kind:=s.kind,table:=tb,au:=s.au},ga s.au,(by unfold gi;rw[if_pos cU,uH]),(by unfold gW;rw[if_pos cU]),rfl⟩
  refine ax [1,3,5,22,31] ?_ ?_<;>intro de eG
  ·refine az 3 ?_;refine aR 0 [_,_,_,_,_,_,_,_,_,_,_,_] sizeOf40 ?_;refine aq 102 [1,3] ?_;refine jg [1,3,5] ?_;refine cL (ahJ s.row (by have:=hf.ok.2.1;omega)) ?_;refine bL ?_;refine⟨_,aI,{fm with kind:=s.kind,table:=tb,row:=s.row},dR s.row,(by unfold gi;rw[if_neg cU,if_pos eG,uH]),(by unfold gW;rw[if_neg cU,if_pos eG]),rfl⟩
  refine ax [1,3,5,22,39] ?_ ?_<;>intro eo fS
  ·refine cQ ?_;refine iD 22 (aj (eraseIdx _ 0)) ?_ (fun _ h=>(Sublist.map _ (eraseIdx_sublist _ 0)).subset h);refine aC 0 rfl (dU 4) ?_;refine aC 1 rfl (ec 1) ?_;refine aC 2 rfl (dU 5) ?_;refine aC 3 rfl (ec 1) ?_;refine aC 4 rfl (dU 6) ?_;refine aC 5 rfl (ec 1) ?_;refine aC 6 rfl (dU 7) ?_;refine aC 7 rfl (ec 1) ?_;refine aC 8 rfl (dU 8) ?_;refine aC 9 rfl (ec 1) ?_;refine aC 10 rfl (dU 9) ?_;refine aC 11 rfl (ec 1) ?_;refine aC 12 rfl (dU 4) ?_;refine dW.later rfl ?_;refine bH (i:=13) aB ?_;refine ek 0 [_,_,_,_,_,_,_,_,_,_,_,_] sizeOf41 ?_;refine dr 14 rfl (dU 5) ?_;refine bH (i:=15) aB ?_;refine ek 0 [_,_,_,_,_,_,_,_,_,_,_,_] sizeOf4 ?_;refine dr 16 rfl (dU 6) ?_;refine bH (i:=17) aB ?_;refine ek 0 [_,_,_,_,_,_,_,_,_,_,_,_] sizeOf42 ?_;refine dr 18 rfl (dU 7) ?_;refine bH (i:=19) aB ?_;refine ek 0 [_,_,_,_,_,_,_,_,_,_,_,_] sizeOf9 ?_;refine dr 20 rfl (dU 8) ?_;refine bH (i:=21) aB ?_;refine ek 0 [_,_,_,_,_,_,_,_,_,_,_,_] sizeOf4 ?_;refine fD ?_;refine aG 1 ?_;refine aR 0 [_,_,_,_,_,_,_,_,_,_,_,_] sizeOf3 ?_;refine aq 102 [1,3] ?_;refine jg [1,3,5] ?_;refine cL (I) ?_;refine bL ?_;refine⟨_,aI,{fm with kind:=s.kind,table:=tb,names:=s.names,count:=s.count,ah:=s.ah,order:=s.order,down:=s.down,iz:=s.iz},pW s,(by unfold gi;rw[if_neg cU,if_neg eG,if_pos fS,uH]),(by unfold gW;rw[if_neg cU,if_neg eG,if_pos fS]),rfl⟩
  refine ax [1,3,5,22,61] ?_ ?_<;>intro gk iC
  ·refine cQ ?_;refine iD 10 (aj (eraseIdx _ 0)) ?_ (fun _ h=>(Sublist.map _ (eraseIdx_sublist _ 0)).subset h);refine aC 0 rfl (dU 10) ?_;refine aC 1 rfl (ec 1) ?_;refine aC 2 rfl (dU 11) ?_;refine aC 3 rfl (ec 1) ?_;refine aC 4 rfl (dU 6) ?_;refine aC 5 rfl (ec 1) ?_;refine aC 6 rfl (dU 10) ?_;refine dW.later rfl ?_;refine bH (i:=7) aB ?_;refine ek 0 [_,_,_,_,_,_,_,_,_,_,_,_] sizeOf9 ?_;refine dr 8 rfl (dU 11) ?_;refine bH (i:=9) aB ?_;refine ek 0 [_,_,_,_,_,_,_,_,_,_,_,_] sizeOf42 ?_;refine fD ?_;refine aG 1 ?_;refine aR 0 [_,_,_,_,_,_,_,_,_,_,_,_] sizeOf42 ?_;refine aq 102 [1,3] ?_;refine cX [1,3,5] (wi hm hw s.set hf.e) ?_;refine ax [1,3,5,76] ?_ ?_<;>intro iQ qa
   ·have Z:cR s.set=0:=(by simpa using iQ)
    refine jg [1,3,5] ?_;refine cL (K6 hm hw s.bM (fun o h=>(hf.x o h).1)) ?_;refine bL ?_;refine ax [1,3,5,81] ?_ ?_<;>intro jn nK
    ·have Pz:fR s.bM=0:=(by simpa using jn)
     refine jg [1,3,5] ?_;refine cL (Fp hm hw s.ah (fun o h=>(hf.w o h).1)) ?_;refine bL ?_;refine⟨_,aI,{fm with kind:=s.kind,table:=tb,set:=s.set,bM:=s.bM,ah:=s.ah},om s.ah,MT,(by unfold gW;rw[if_neg cU,if_neg eG,if_neg fS,if_pos iC,if_pos Z,if_pos Pz]),rfl⟩
    have Pz:¬fR s.bM=0:=(by simpa using jn)
    refine en ?_;refine⟨_,aI,{fm with kind:=s.kind,table:=tb,set:=s.set,bM:=s.bM,ah:=s.ah},fR s.bM,MT,(by unfold gW;rw[if_neg cU,if_neg eG,if_neg fS,if_pos iC,if_pos Z,if_neg Pz]),rfl⟩
   have Z:¬cR s.set=0:=(by simpa using iQ)
   refine ax [1,3,5,81] ?_ ?_<;>intro jn nK
   ·exact absurd jn (by simp[Z])
   refine en ?_;refine⟨_,aI,{fm with kind:=s.kind,table:=tb,set:=s.set,bM:=s.bM,ah:=s.ah},cR s.set,MT,(by unfold gW;rw[if_neg cU,if_neg eG,if_neg fS,if_pos iC,if_neg Z]),rfl⟩
  refine ax [1,3,5,85] ?_ ?_<;>intro qP E
  ·refine az 3 ?_;refine aR 0 [_,_,_,_,_,_,_,_,_,_,_,_] sizeOf42 ?_;refine aq 102 [1,3] ?_;refine jg [1,3,5] ?_;refine cL (Fp hm hw s.ah (fun o h=>(hf.w o h).1)) ?_;refine bL ?_;refine⟨_,aI,{fm with kind:=s.kind,table:=tb,ah:=s.ah},om s.ah,(by unfold gi;rw[if_neg cU,if_neg eG,if_neg fS,if_neg iC,if_pos E,uH]),(by unfold gW;rw[if_neg cU,if_neg eG,if_neg fS,if_neg iC,if_pos E]),rfl⟩
  refine en ?_;refine⟨_,aI,{fm with kind:=s.kind,table:=tb},0,(by unfold gi;rw[if_neg cU,if_neg eG,if_neg fS,if_neg iC,if_neg E,uH]),(by unfold gW;rw[if_neg cU,if_neg eG,if_neg fS,if_neg iC,if_neg E]),rfl⟩
 rintro _ ⟨H,e,hH,Eo,rfl⟩;refine cQ ?_;refine cQ ?_;have W8:=ahK (G:=G) s H;unfold bK at W8;refine dV 3 ?_;refine bU 95 (fun Yy akX=>?_) (fun Yy akX=>?_)
 ·refine aG 2 ?_;refine oK iR rfl rfl rfl call80 (W8) ⟨ot,ot,trivial⟩ ?_;refine aq 102 [5,100] ?_;refine cj ?_ ?_<;>intro vQ Dl
  ·have aY:fL s=6:=(by unfold fL;rw[if_neg pN,if_pos ⟨by rw[<-Eo];simpa using Yy,by rw[<-hH];simpa using vQ⟩])
   refine cc [5] ?_;exact z91
  have aY:fL s=e:=(by unfold fL;rw[if_neg pN,if_neg (by rw[<-Eo,<-hH];exact(fun h=>by obtain⟨h1,h2⟩:=h;simp_all)),Eo])
  exact z91
 refine bA [5,100] ?_;refine gB ?_;have aY:fL s=e:=(by unfold fL;rw[if_neg pN,if_neg (by rw[<-Eo,<-hH];exact(fun h=>by obtain⟨h1,h2⟩:=h;simp_all)),Eo])
 refine aA [2] ?_;refine fi ?_;exact⟨by first|rw[aY]|rw[aY];rfl,rfl⟩
theorem RF:∀(l:List aH) (H:List (List Tk)),(l.foldl pA H).flatten.length<=H.flatten.length+5*l.length
 | [],H=>by simp
 | o::r,H=>by
  have h1:=RF r (pA H o);have h2:=RD (h:=H) (o:=o);rw[foldl_cons,length_cons];omega
theorem Fy(l:List aH):(sO l).length<=5*l.length:=by
 have h:=RF l [];have h2:=(vY (h:=l.foldl pA []) (n:=0)).1;have h3:=BV (l.foldl pA []) 0;simp only[List.take_zero,flatten_nil,length_nil] at h h3;unfold sO;omega
theorem JQ(l:List aH):(kW l).length<=5*l.length+1:=by
 have h:=Fy l;unfold kW;split
 ·simp
 rw[length_append,length_map];simp only[length_cons,length_nil];omega
def kC(ns:List ByteArray):Nat->List Tk
 | 0=>[]
 | i+1=>kC ns i++(if i>0 then [dS ⟨#[44]⟩] else [])++[bI (ns.getD i ⟨#[]⟩)]
theorem Ke(E:List ByteArray):∀i,(kC E i).length<=2*i
 | 0=>Nat.le_refl _
 | i+1=>by
  have I:=Ke E i;have h3:(if i>0 then [dS ⟨#[44]⟩] else []).length<=1:=(by split<;>simp)
  unfold kC;rw[length_append,length_append];simp only[length_cons,length_nil];omega
theorem JH(hi:i<E.length)(h:0<i)(X:List Tk):((X++kC E i)++[dS ⟨#[44]⟩])++[bI E[i]]=X++kC E (i+1):=by
 rw[kC,if_pos h,nD hi];simp only[append_assoc]
theorem Jq(hi:i<E.length)(h:¬0<i)(X:List Tk):(X++kC E i)++[bI E[i]]=X++kC E (i+1):=by
 rw[kC,if_neg h,nD hi];simp only[append_assoc,append_nil]
def yt(s:cn):List Tk:=if s.count=true then [bI ⟨#[67,79,85,78,84]⟩,dS ⟨#[40]⟩,dS ⟨#[42]⟩,dS ⟨#[41]⟩] else if s.names.length=0 then [dS ⟨#[42]⟩] else kC s.names s.names.length
def Bh(s:cn):List Tk:=if jf s.order ⟨#[]⟩=true then [] else [⟨#[79,82,68,69,82]⟩,⟨#[66,89]⟩,s.order].map bI++(if s.down=true then [bI ⟨#[68,69,83,67]⟩] else [])
def HE(s:cn):List Tk:=if 0<=s.iz then [bI ⟨#[76,73,77,73,84]⟩,⟨2,⟨#[]⟩,s.iz⟩] else []
def AR(s:cn):List Tk:=((([⟨#[83,69,76,69,67,84]⟩].map bI++yt s)++[⟨#[70,82,79,77]⟩,s.table].map bI++kW s.ah)++Bh s)++HE s
theorem tN:(Tryz.prog.info? 153).map (fun i=>(i.zero,i.size,i.bytes))=some (some (.agg #[.int .i64 0,.string ⟨#[]⟩,.int .i64 0]),3,32):=by kernel_rfl
theorem abV : ∀ w, ((#[{ name := "Kind", type := 3, offset := 0, embedded := false, tag := "", pkgPath := "", byteOffset := 0 }, { name := "Text", type := 9, offset := 1, embedded := false, tag := "", pkgPath := "", byteOffset := 8 }, { name := "Int", type := 3, offset := 2, embedded := false, tag := "", pkgPath := "", byteOffset := 24 }] : Array Field).mapM fun f => do pure (f.offset, ← sizeOf f.type) : Sem (Array (Nat × Nat))).run Tryz.prog w = .ok #[(0, 1), (1, 1), (2, 1)] w := fun w => by simp [sizeOf3, sizeOf9]
theorem acE(s:cn)(hf:iZ s)(Ep:s.ah.length=0\/gb 0 s.ah=0):VP Tryz.prog G 84 [.agg (bK s)] (.list 3 ((AR s).flatMap cT) (AR s).length):=by
 refine bn func84 rfl ntmps84 aP fun X0 w0 bj=>?_;have dH:=ey;have h6:=hf.ok.2.2.1;have qZ:=hf.ok.2.2.2.1;have IN:=JQ s.ah;have PA:=Fy s.ah;unfold bK;refine bX ?_;refine cW [_,_,_,_,_,_,_,_,_,_,_,_] (fun b1=>?_);refine aq 84 [1] ?_;refine bX ?_;refine eH (cx 0 [_]) [.string ⟨#[]⟩] [_] zeroValue9 runUnderlying41 sizeOf9 (fun b6=>?_);refine bZ (ew (S1:=[⟨b6,9,1*1,flatMap cS ([⟨#[83,69,76,69,67,84]⟩])⟩]) (A:=[_])) ?_;refine qn (t:=6) (Sq:=[⟨b6,9,1*1,flatMap cS ([⟨#[83,69,76,69,67,84]⟩])⟩]) lk (bN (g:=cS) (sz:=1) (e:=9) (ls:=[⟨#[83,69,76,69,67,84]⟩]) (Nat.le_refl _) (show 1<=maxLen by decide)) (cz jW _) (dK (A:=[_])) ?_;refine fg av rfl rfl rfl call81 (Ax [⟨#[83,69,76,69,67,84]⟩] AX) ⟨ot,trivial⟩ (fx _) ?_;rintro _ S7 ⟨ad7,cp7,rfl,qQ⟩;refine bZ (ew (A:=[_])) ?_;refine aq 84 [1,3] ?_;refine iT [1] (fun aV _ aF=>∃(Q:List Tk),∃(ad:Option Addr),∃(cp:Nat),∃(Sx:List ag),(Q=[⟨#[83,69,76,69,67,84]⟩].map bI++yt s)/\(bq 153 3 (Q.flatMap cT) Q.length ad cp Sx)/\(Q.length<=20)/\aF=(⟨84,(3,aN ad Q.length cp)::aV,(⟨b1,44,12,[ae s.kind,bg s.table,an 2 cC s.au,an 3 cV s.row,an 1 cS s.names,bP s.count,an 5 cO s.ah,bg s.order,bP s.down,ae s.iz,bg s.set,an 5 cO s.bM]⟩::Sx)⟩:St)) ?_ ?_
 ·refine ax [1,3,28] ?_ ?_<;>intro aM bG
  ·refine dV 1 ?_;refine eB call122 (sD ⟨#[67,79,85,78,84]⟩) ?_;refine eB call86 (og ⟨#[40]⟩) ?_;refine eB call86 (og ⟨#[42]⟩) ?_;refine eB call86 (og ⟨#[41]⟩) ?_;refine eH (cx 0 [_,_,_,_]) [.int .i64 0,.string ⟨#[]⟩,.int .i64 0,.int .i64 0,.string ⟨#[]⟩,.int .i64 0,.int .i64 0,.string ⟨#[]⟩,.int .i64 0,.int .i64 0,.string ⟨#[]⟩,.int .i64 0] [_,_,_,_,_,_,_,_,_,_,_,_] zeroValue153 runUnderlying101 sizeOf153 (fun IP=>?_);refine gh 0 36 3 4 ?_;refine fY (ls:=([⟨#[83,69,76,69,67,84]⟩].map bI)) (new:=[bI ⟨#[67,79,85,78,84]⟩,dS ⟨#[40]⟩,dS ⟨#[42]⟩,dS ⟨#[41]⟩]) (Sq:=S7) jk mD av rfl rfl underlying101 tN rfl w8 ot qQ (dK (A:=[_])) ot bp qI w9 (fun PB U am0 am1=>?_);refine bZ (ew (S1:=[⟨PB,153,U*3,flatMap cT (([⟨#[83,69,76,69,67,84]⟩].map bI)++[bI ⟨#[67,79,85,78,84]⟩,dS ⟨#[40]⟩,dS ⟨#[42]⟩,dS ⟨#[41]⟩])⟩]) (A:=[_])) ?_;refine aq 84 [1,3] ?_;refine⟨_,aI,(([⟨#[83,69,76,69,67,84]⟩].map bI)++[bI ⟨#[67,79,85,78,84]⟩,dS ⟨#[40]⟩,dS ⟨#[42]⟩,dS ⟨#[41]⟩]),(some ⟨PB,0,none⟩),U,[⟨PB,153,U*3,flatMap cT (([⟨#[83,69,76,69,67,84]⟩].map bI)++[bI ⟨#[67,79,85,78,84]⟩,dS ⟨#[40]⟩,dS ⟨#[42]⟩,dS ⟨#[41]⟩])⟩],(by unfold yt;rw[if_pos bG]),(bN am0 am1),Ob,rfl⟩
  refine ax [1,3,38] ?_ ?_<;>intro bf cD
  ·refine dV 1 ?_;refine eB call86 (og ⟨#[42]⟩) ?_;refine eH (cx 0 [_]) [.int .i64 0,.string ⟨#[]⟩,.int .i64 0] [_,_,_] zeroValue153 runUnderlying101 sizeOf153 (fun b45=>?_);refine gh 0 45 3 1 ?_;refine fY (ls:=([⟨#[83,69,76,69,67,84]⟩].map bI)) (new:=[dS ⟨#[42]⟩]) (Sq:=S7) jk mD av rfl rfl underlying101 tN rfl w8 ot qQ (dK (A:=[_])) ot bp qI w9 (fun Bv Z am2 am3=>?_);refine bZ (ew (S1:=[⟨Bv,153,Z*3,flatMap cT (([⟨#[83,69,76,69,67,84]⟩].map bI)++[dS ⟨#[42]⟩])⟩]) (A:=[_])) ?_;refine aq 84 [1,3] ?_;refine⟨_,aI,(([⟨#[83,69,76,69,67,84]⟩].map bI)++[dS ⟨#[42]⟩]),(some ⟨Bv,0,none⟩),Z,[⟨Bv,153,Z*3,flatMap cT (([⟨#[83,69,76,69,67,84]⟩].map bI)++[dS ⟨#[42]⟩])⟩],(by unfold yt;rw[if_neg yA,if_pos w4]),(bN am2 am3),Ob,rfl⟩
  refine aA [1,3,9,10,11] ?_;refine kp ?_;refine nY (fun (nk:Nat×Option Addr×Nat×List ag) aF=>match nk with|(i,Er,Es,So)=>(i<=s.names.length)/\(bq 153 3 ((([⟨#[83,69,76,69,67,84]⟩].map bI++kC s.names i)).flatMap cT) (([⟨#[83,69,76,69,67,84]⟩].map bI++kC s.names i)).length Er Es So)/\aF=(⟨84,[(1,da b1),(3,aN Er (([⟨#[83,69,76,69,67,84]⟩].map bI++kC s.names i)).length Es),(9,an 1 cS s.names),(10,ae (s.names.length:Nat)),(11,ae (i:Nat))],((⟨b1,44,12,[ae s.kind,bg s.table,an 2 cC s.au,an 3 cV s.row,an 1 cS s.names,bP s.count,an 5 cO s.ah,bg s.order,bP s.down,ae s.iz,bg s.set,an 5 cO s.bM]⟩:ag)::So)⟩:St)) (fun (nk:Nat×Option Addr×Nat×List ag)=>match nk with|(i,Er,Es,So)=>s.names.length-i) (0,ad7,cp7,S7) ⟨(Nat.zero_le _),(bq.cast qQ (by simp[kC])),rfl⟩ (aI (h:=Od)) ?_;rintro⟨i,Er,Es,So⟩ _ ⟨hi,Et,rfl⟩;refine ax [1,3,9,10,11,12] ?_ ?_<;>intro cr cU
  ·have aa:i<s.names.length:=(by simp at cr;omega)
   have eP:=Ke s.names i;refine aA [1,3,4,5,9,10,11] ?_;refine ax [1,3,5,9,10,11,17] ?_ ?_<;>intro de eG
   ·refine dV 1 ?_;refine eB call86 (og ⟨#[44]⟩) ?_;refine eH (cx 0 [_]) [.int .i64 0,.string ⟨#[]⟩,.int .i64 0] [_,_,_] zeroValue153 runUnderlying101 sizeOf153 (fun Pw=>?_);refine gh 0 20 3 1 ?_;refine fY (ls:=(([⟨#[83,69,76,69,67,84]⟩].map bI++kC s.names i))) (new:=[dS ⟨#[44]⟩]) (Sq:=So) jk mD av rfl rfl underlying101 tN rfl w8 ot Et (dK (A:=[_])) ot bp qI w9 (fun Ej Yz am4 am5=>?_);refine bZ (ew (S1:=[⟨Ej,153,Yz*3,flatMap cT ((([⟨#[83,69,76,69,67,84]⟩].map bI++kC s.names i))++[dS ⟨#[44]⟩])⟩]) (A:=[_])) ?_;refine aq 84 [1,3,5,9,10,11] ?_;refine dV 2 ?_;refine eB call122 (sD s.names[i]) ?_;refine eH (cx 0 [_]) [.int .i64 0,.string ⟨#[]⟩,.int .i64 0] [_,_,_] zeroValue153 runUnderlying101 sizeOf153 (fun zC=>?_);refine gh 0 25 3 1 ?_;refine fY (ls:=((([⟨#[83,69,76,69,67,84]⟩].map bI++kC s.names i))++[dS ⟨#[44]⟩])) (new:=[bI s.names[i]]) (Sq:=[⟨Ej,153,Yz*3,flatMap cT ((([⟨#[83,69,76,69,67,84]⟩].map bI++kC s.names i))++[dS ⟨#[44]⟩])⟩]) jk mD av rfl rfl underlying101 tN rfl w8 ot (bN am4 am5) (dK (A:=[_])) ot bp qI w9 (fun I E Ny Nz=>?_);refine bZ (ew (S1:=[⟨I,153,E*3,flatMap cT (((([⟨#[83,69,76,69,67,84]⟩].map bI++kC s.names i))++[dS ⟨#[44]⟩])++[bI s.names[i]])⟩]) (A:=[_])) ?_;refine aq 84 [1,3,9,10,11] ?_;refine cc [1,3,9,10,11] ?_
    refine⟨((i+1),(some ⟨I,0,none⟩),E,[⟨I,153,E*3,flatMap cT (((([⟨#[83,69,76,69,67,84]⟩].map bI++kC s.names i))++[dS ⟨#[44]⟩])++[bI s.names[i]])⟩]),_,cG,(aI (h:=Od)),w4,(bq.cast (bN Ny Nz) (by first|exact JH aa w4 _|exact Jq aa w4 _)),rfl⟩
   refine dV 2 ?_;refine eB call122 (sD s.names[i]) ?_;refine eH (cx 0 [_]) [.int .i64 0,.string ⟨#[]⟩,.int .i64 0] [_,_,_] zeroValue153 runUnderlying101 sizeOf153 (fun zC=>?_);refine gh 0 25 3 1 ?_;refine fY (ls:=(([⟨#[83,69,76,69,67,84]⟩].map bI++kC s.names i))) (new:=[bI s.names[i]]) (Sq:=So) jk mD av rfl rfl underlying101 tN rfl w8 ot Et (dK (A:=[_])) ot bp qI w9 (fun I E Ny Nz=>?_);refine bZ (ew (S1:=[⟨I,153,E*3,flatMap cT ((([⟨#[83,69,76,69,67,84]⟩].map bI++kC s.names i))++[bI s.names[i]])⟩]) (A:=[_])) ?_;refine aq 84 [1,3,9,10,11] ?_;refine cc [1,3,9,10,11] ?_;refine⟨((i+1),(some ⟨I,0,none⟩),E,[⟨I,153,E*3,flatMap cT ((([⟨#[83,69,76,69,67,84]⟩].map bI++kC s.names i))++[bI s.names[i]])⟩]),_,cG,(aI (h:=Od)),w4,(bq.cast (bN Ny Nz) (by first|exact JH aa w4 _|exact Jq aa w4 _)),rfl⟩
  have vG:i=s.names.length:=(by simp at cr;omega)
  refine qq ?_;refine⟨_,aI,(([⟨#[83,69,76,69,67,84]⟩].map bI++kC s.names i)),Er,Es,So,(by unfold yt;rw[if_neg yA,if_neg w4,vG]),Et,Ob,rfl⟩
 rintro _ ⟨Q,ad,cp,Sx,hQ,ev,hQl,rfl⟩;refine az 3 ?_;refine eH (cx 0 [_,_]) [.string ⟨#[]⟩,.string ⟨#[]⟩] [_,_] zeroValue9 runUnderlying41 sizeOf9 (fun BL=>?_);refine bZ (Ab (S2:=[⟨BL,9,2*1,flatMap cS ([⟨#[70,82,79,77]⟩,s.table])⟩]) (A:=[_])) ?_;refine qn (t:=50) (Sq:=[⟨BL,9,2*1,flatMap cS ([⟨#[70,82,79,77]⟩,s.table])⟩]) lk (bN (g:=cS) (sz:=1) (e:=9) (ls:=[⟨#[70,82,79,77]⟩,s.table]) (Nat.le_refl _) (show 2<=maxLen by decide)) (cz jW _) (Aa (A:=[_])) ?_;refine eB call81 (uc [⟨#[70,82,79,77]⟩,s.table] (by show 2<=10;decide)) ?_;refine fY (ls:=Q) (new:=([⟨#[70,82,79,77]⟩,s.table].map bI)) (Sq:=Sx) jk mD av rfl rfl underlying101 tN rfl w8 ot ev (dK (A:=[_])) ot bp qI w9 (fun b52 YA am6 am7=>?_);refine bZ (ew (S1:=[⟨b52,153,YA*3,flatMap cT (Q++([⟨#[70,82,79,77]⟩,s.table].map bI))⟩]) (A:=[_])) ?_;refine aq 84 [1,3] ?_;refine az 3 ?_;refine eB call88 (Ji s.ah qZ Ep (fun o h=>(hf.w o h).2) w4) ?_;refine sj (ls:=(Q++([⟨#[70,82,79,77]⟩,s.table].map bI))) (new:=(kW s.ah)) (Sq:=[⟨b52,153,YA*3,flatMap cT (Q++([⟨#[70,82,79,77]⟩,s.table].map bI))⟩]) jk mD av rfl rfl underlying101 tN rfl w8 runUnderlying101 sizeOf153 ot (bN am6 am7) (dK (A:=[_])) ot qI w9 (fun am8 am9 IQ HF=>?_);refine bZ (ew (A:=[_])) ?_;refine aq 84 [1,3] ?_
 refine iT [1] (fun aV _ aF=>∃(Q:List Tk),∃(ad:Option Addr),∃(cp:Nat),∃(Sx:List ag),(Q=(([⟨#[83,69,76,69,67,84]⟩].map bI++yt s)++[⟨#[70,82,79,77]⟩,s.table].map bI++kW s.ah)++Bh s)/\(bq 153 3 (Q.flatMap cT) Q.length ad cp Sx)/\(Q.length<=500)/\aF=(⟨84,(3,aN ad Q.length cp)::aV,(⟨b1,44,12,[ae s.kind,bg s.table,an 2 cC s.au,an 3 cV s.row,an 1 cS s.names,bP s.count,an 5 cO s.ah,bg s.order,bP s.down,ae s.iz,bg s.set,an 5 cO s.bM]⟩::Sx)⟩:St)) ?_ ?_
 ·refine ax [1,3,60] ?_ ?_<;>intro eo fS
  ·refine az 3 ?_;refine eH (cx 0 [_,_,_]) [.string ⟨#[]⟩,.string ⟨#[]⟩,.string ⟨#[]⟩] [_,_,_] zeroValue9 runUnderlying41 sizeOf9 (fun Eu=>?_);refine bZ (Ab (S2:=[⟨Eu,9,3*1,flatMap cS ([⟨#[79,82,68,69,82]⟩,⟨#[66,89]⟩,s.order])⟩]) (A:=[_])) ?_;refine qn (t:=64) (Sq:=[⟨Eu,9,3*1,flatMap cS ([⟨#[79,82,68,69,82]⟩,⟨#[66,89]⟩,s.order])⟩]) lk (bN (g:=cS) (sz:=1) (e:=9) (ls:=[⟨#[79,82,68,69,82]⟩,⟨#[66,89]⟩,s.order]) (Nat.le_refl _) (show 3<=maxLen by decide)) (cz jW _) (Aa (A:=[_])) ?_;refine eB call81 (uc [⟨#[79,82,68,69,82]⟩,⟨#[66,89]⟩,s.order] (by show 3<=10;decide)) ?_;refine fY (ls:=((Q++([⟨#[70,82,79,77]⟩,s.table].map bI))++(kW s.ah))) (new:=([⟨#[79,82,68,69,82]⟩,⟨#[66,89]⟩,s.order].map bI)) (Sq:=IQ) jk mD av rfl rfl underlying101 tN rfl w8 ot HF (dK (A:=[_])) ot bp qI w9 (fun qi O Bf Bg=>?_);refine bZ (ew (S1:=[⟨qi,153,O*3,flatMap cT (((Q++([⟨#[70,82,79,77]⟩,s.table].map bI))++(kW s.ah))++([⟨#[79,82,68,69,82]⟩,⟨#[66,89]⟩,s.order].map bI))⟩]) (A:=[_])) ?_;refine aq 84 [1,3] ?_;refine ax [1,3,68] ?_ ?_<;>intro gk iC
   ·refine dV 1 ?_;refine eB call122 (sD ⟨#[68,69,83,67]⟩) ?_;refine eH (cx 0 [_]) [.int .i64 0,.string ⟨#[]⟩,.int .i64 0] [_,_,_] zeroValue153 runUnderlying101 sizeOf153 (fun b71=>?_);refine gh 0 71 3 1 ?_;refine fY (ls:=(((Q++([⟨#[70,82,79,77]⟩,s.table].map bI))++(kW s.ah))++([⟨#[79,82,68,69,82]⟩,⟨#[66,89]⟩,s.order].map bI))) (new:=[bI ⟨#[68,69,83,67]⟩]) (Sq:=[⟨qi,153,O*3,flatMap cT (((Q++([⟨#[70,82,79,77]⟩,s.table].map bI))++(kW s.ah))++([⟨#[79,82,68,69,82]⟩,⟨#[66,89]⟩,s.order].map bI))⟩]) jk mD av rfl rfl underlying101 tN rfl w8 ot (bN Bf Bg) (dK (A:=[_])) ot bp qI w9 (fun PC NA ana anb=>?_);refine bZ (ew (S1:=[⟨PC,153,NA*3,flatMap cT ((((Q++([⟨#[70,82,79,77]⟩,s.table].map bI))++(kW s.ah))++([⟨#[79,82,68,69,82]⟩,⟨#[66,89]⟩,s.order].map bI))++[bI ⟨#[68,69,83,67]⟩])⟩]) (A:=[_])) ?_;refine aq 84 [1,3] ?_;refine⟨_,aI,((((Q++([⟨#[70,82,79,77]⟩,s.table].map bI))++(kW s.ah))++([⟨#[79,82,68,69,82]⟩,⟨#[66,89]⟩,s.order].map bI))++[bI ⟨#[68,69,83,67]⟩]),(some ⟨PC,0,none⟩),NA,[⟨PC,153,NA*3,flatMap cT ((((Q++([⟨#[70,82,79,77]⟩,s.table].map bI))++(kW s.ah))++([⟨#[79,82,68,69,82]⟩,⟨#[66,89]⟩,s.order].map bI))++[bI ⟨#[68,69,83,67]⟩])⟩],(by rw[hQ];unfold Bh;rw[if_neg (by unfold jf;simpa using eo),if_pos iC];simp only[append_assoc]),(bN ana anb),w9,rfl⟩
   refine en ?_;refine⟨_,aI,(((Q++([⟨#[70,82,79,77]⟩,s.table].map bI))++(kW s.ah))++([⟨#[79,82,68,69,82]⟩,⟨#[66,89]⟩,s.order].map bI)),(some ⟨qi,0,none⟩),O,[⟨qi,153,O*3,flatMap cT (((Q++([⟨#[70,82,79,77]⟩,s.table].map bI))++(kW s.ah))++([⟨#[79,82,68,69,82]⟩,⟨#[66,89]⟩,s.order].map bI))⟩],(by rw[hQ];unfold Bh;rw[if_neg (by unfold jf;simpa using eo),if_neg (by simpa using gk)];simp only[append_assoc,append_nil]),(bN Bf Bg),w9,rfl⟩
  refine en ?_;refine⟨_,aI,((Q++([⟨#[70,82,79,77]⟩,s.table].map bI))++(kW s.ah)),am8,am9,IQ,(by rw[hQ];unfold Bh;rw[if_pos (by unfold jf;simpa using eo)];simp),HF,w9,rfl⟩
 rintro _ ⟨Q,ad,cp,Sx,hQ,ev,hQl,rfl⟩;refine ax [1,3,75] ?_ ?_<;>intro iQ qa
 ·refine iD 7 (aj (take 1 _)) ?_ (fun _ h=>(Sublist.map _ (take_sublist _ _)).subset h);refine aC 0 rfl bJ ?_;refine aC 2 rfl (dU 9) ?_;refine aC 3 rfl (ec 0) ?_;refine aC 4 rfl (pQ (pl:=[(0,_),(2,_)]) (ds:=[_,_,_]) rfl zeroValue153 runUnderlying153 abV ⟨rfl,cf,rfl,ot,trivial⟩ rfl rfl) ?_;refine dW.later rfl ?_;refine bH (i:=1) aB ?_;refine qR call122 (sD ⟨#[76,73,77,73,84]⟩) ?_;refine bH (i:=5) aB ?_;refine oE (cx 0 [_,_]) [.int .i64 0,.string ⟨#[]⟩,.int .i64 0,.int .i64 0,.string ⟨#[]⟩,.int .i64 0] [_,_,_,_,_,_] zeroValue153 runUnderlying101 sizeOf153 (fun b81=>?_);refine oF 0 81 3 2 ?_;refine bH (i:=6) aB ?_;refine qk (ls:=Q) (new:=[bI ⟨#[76,73,77,73,84]⟩,(⟨2,⟨#[]⟩,s.iz⟩:Tk)]) (Sq:=Sx) jk mD rfl av rfl rfl underlying101 tN rfl w8 ot ev (dK (A:=[_])) ot bp qI w9 (fun b82 YB anc ane=>?_);refine gq (ew (S1:=[⟨b82,153,YB*3,flatMap cT (Q++[bI ⟨#[76,73,77,73,84]⟩,(⟨2,⟨#[]⟩,s.iz⟩:Tk)])⟩]) (A:=[_])) ?_;refine fD ?_;refine bA [3] ?_;refine aA [2] ?_;refine oL (t:=2) (Sq:=[⟨b82,153,YB*3,flatMap cT (Q++[bI ⟨#[76,73,77,73,84]⟩,(⟨2,⟨#[]⟩,s.iz⟩:Tk)])⟩]) lk (bN anc ane) (cz jk _) (dK (A:=[_])) ?_;refine fi ?_;refine⟨?_,rfl⟩;rw[hQ];unfold AR HE;rw[if_pos w4]
 refine aA [2] ?_;refine oL (t:=2) (Sq:=Sx) lk ev (cz jk _) (dK (A:=[_])) ?_;refine eu [] ?_;refine⟨?_,rfl⟩;rw[hQ];unfold AR HE;rw[if_neg w4];simp only[append_nil]
def Mz(k:Int):ByteArray:=ajv.getD k.toNat ⟨#[]⟩
theorem afU{k:Int}(h1:1<=k)(h2:k<=3):typesC[0+k.toNat*1]?=some (.string (Mz k)):=by
 have h:k=1\/k=2\/k=3:=(by omega)
 rcases h with rfl|rfl|rfl<;>rfl
def jN(c:cm):List Tk:=[c.n,Mz c.k].map bI
def HG:List ByteArray:=[⟨#[66,69,71,73,78]⟩,⟨#[67,79,77,77,73,84]⟩,⟨#[82,79,76,76,66,65,67,75]⟩]
def qz(s:cn):List Tk :=
 if s.kind=1 then [⟨#[67,82,69,65,84,69]⟩,⟨#[84,65,66,76,69]⟩,s.table].map bI++nf (s.au.map jN)
 else if s.kind=2 then [⟨#[68,82,79,80]⟩,⟨#[84,65,66,76,69]⟩,s.table].map bI
 else if s.kind=3 then [⟨#[73,78,83,69,82,84]⟩,⟨#[73,78,84,79]⟩,s.table,⟨#[86,65,76,85,69,83]⟩].map bI++nf (s.row.map jZ)
 else if s.kind=4 then AR s
 else if s.kind=5 then [[⟨#[85,80,68,65,84,69]⟩,s.table,⟨#[83,69,84]⟩,s.set].map bI,[dS ⟨#[61]⟩],sO s.bM,kW s.ah].flatten
 else if s.kind=6 then [⟨#[68,69,76,69,84,69]⟩,⟨#[70,82,79,77]⟩,s.table].map bI++kW s.ah
 else [HG.getD (s.kind-7).toNat ⟨#[]⟩].map bI
structure ShS (s:cn):Prop where
 fin:iZ s
 k1:1<=s.kind
 k9:s.kind<=9
 c:s.kind=1->∀c∈s.au,1<=c.k/\c.k<=3
 r:s.kind=3->∀v∈s.row,n9 v
 w:s.kind=4\/s.kind=5\/s.kind=6->s.ah.length=0\/gb 0 s.ah=0
 t:s.kind=5->gb 0 s.bM=0
theorem TD(ts:List (List Tk)):0<(nf ts).length:=by unfold nf;rw[length_append];simp
theorem TE{ts:List (List Tk)}(h:∀x∈ts,x.length<=10):(nf ts).length<=2+11*ts.length:=by
 have h1:=F7 h ts.length;unfold nf;rw[length_append];simp only[length_cons,length_nil];omega
theorem Lc(l:List cm):∀x∈l.map jN,x.length<=10:=fun x hx=>by obtain⟨c,_,rfl⟩:=mem_map.1 hx;show 2<=10;decide
theorem TF(l:List Vl):∀x∈l.map jZ,x.length<=10:=fun x hx=>by obtain⟨v,_,rfl⟩:=mem_map.1 hx;have:=RC v;omega
theorem QN:(Tryz.prog.info? 101).map (fun i=>(i.zero,i.size,i.bytes))=some (some (.slice none 0 0),1,24):=by kernel_rfl
theorem Jn:(Tryz.prog.info? 153).map (fun i=>(i.zero,i.size,i.bytes))=some (some (.agg #[.int .i64 0,.string ⟨#[]⟩,.int .i64 0]),3,32):=by kernel_rfl
theorem ahL(hty:(0,typesC)∈G)(s:cn)(hs:ShS s):VP Tryz.prog G 42 [.agg (bK s)] (.list 3 ((qz s).flatMap cT) (qz s).length):=by
 refine bn func42 rfl ntmps42 aP fun X0 w0 bj=>?_;have dH:=ey;have hf:=hs.fin;have h6:=hf.ok.1;have h6r:=hf.ok.2.1;have qZ:=hf.ok.2.2.2.1;have anf:=hf.ok.2.2.2.2;have IN:=JQ s.ah;have PA:=Fy s.ah;have HH:=Fy s.bM;have lm:=TE (Lc s.au);have qT:=TE (TF s.row);have O:=acE (G:=G) s hf
 (first|rw[length_map] at lm|(unfold an at lm;rw[length_map] at lm));(first|rw[length_map] at qT|(unfold an at qT;rw[length_map] at qT))
 unfold bK at O;unfold bK;refine bX ?_;refine cW [_,_,_,_,_,_,_,_,_,_,_,_] (fun b1=>?_);refine aq 107 [1] ?_;refine cN [1,10] ?_;refine aT 1 ?_ (h:=vw);refine jR ?_;refine ax [1,10,11] ?_ ?_<;>intro aM bG
 ·refine bX ?_;refine bA [1,3] ?_;refine cN [1,3,14,15,16] ?_;refine aT 1 ?_ (h:=vw);refine bL ?_;refine kp ?_;refine nY (fun (E:Nat×Option Addr×Nat×List ag) aF=>match E with|(i,dP,dm,Sx)=>(i<=s.au.length)/\(bq 101 1 (((s.au.take i).map jN).flatMap cK) ((s.au.take i).map jN).length dP dm Sx)/\aF=(⟨107,[(1,da b1),(3,aN dP ((s.au.take i).map jN).length dm),(14,an 2 cC s.au),(15,ae (s.au.length:Nat)),(16,ae (i:Nat))],((⟨b1,44,12,[ae s.kind,bg s.table,an 2 cC s.au,an 3 cV s.row,an 1 cS s.names,bP s.count,an 5 cO s.ah,bg s.order,bP s.down,ae s.iz,bg s.set,an 5 cO s.bM]⟩:ag)::Sx)⟩:St)) (fun (E:Nat×Option Addr×Nat×List ag)=>match E with|(i,dP,dm,Sx)=>s.au.length-i) (0,none,0,[]) ⟨(Nat.zero_le _),(bq.cast jj lW),rfl⟩ (aI (h:=Zo)) ?_;rintro⟨i,dP,dm,Sx⟩ _ ⟨hi,ev,rfl⟩;refine ax [1,3,14,15,16,17] ?_ ?_<;>intro bf cD
  ·have aa:i<s.au.length:=(by simp at bf;omega)
   have hki:=hs.c bG _ (getElem_mem aa);refine az 1 ?_;refine bQ (dN (mk:=Op.load 93) rfl ot (by first|exact ry (k:=0) (ds:=[_,_]) rfl rfl isAgg93 sizeOf93 rfl rfl|exact kR mB isAgg93 sizeOf93 w5|exact kR fQ isAgg93 sizeOf93 w5|exact kR jW isAgg93 sizeOf93 w5|exact dO (k:=0) mB rfl rfl rfl isAgg93 sizeOf93 w5|exact dO (k:=0) fQ rfl rfl rfl isAgg93 sizeOf93 w5|exact dO (k:=0) jW rfl rfl rfl isAgg93 sizeOf93 w5|exact rE (ds:=[_,_]) isAgg93 sizeOf93 rfl rfl)) ?_;refine dF (ds:=[_,_]) av rfl rfl zeroValue93 rfl (fun b5=>?_);refine aR 0 [_,_] sizeOf93 ?_;refine aq 107 [1,3,5,14,15,16] ?_;refine iD 11 (aj (take 2 _)) ?_ (fun _ h=>(Sublist.map _ (take_sublist _ _)).subset h);refine aC 0 rfl bJ ?_;refine aC 1 rfl (dU 0) ?_;refine aC 2 rfl fW ?_;refine aC 3 rfl (dU 1) ?_;refine aC 4 rfl fW ?_;refine aC 5 rfl (tV (mk:=Op.indexAddr 148) rfl xX ot (by first|exact Wi runUnderlying148 sizeOf9 rfl w5|exact Wi (j:=Int.toNat _) runUnderlying148 sizeOf9 (Int.toNat_of_nonneg w4).symm w4)) ?_
   refine aC 6 rfl (dN (mk:=Op.load 9) rfl ot (by first|exact Av (k:=0) rfl rfl isAgg9 rfl|exact Av (k:=1) rfl rfl isAgg9 rfl|exact wG mB isAgg9 w5 rfl|exact sI mB isAgg9 w5 rfl|exact wG fQ isAgg9 w5 rfl|exact sI fQ isAgg9 w5 rfl|exact wG jW isAgg9 w5 rfl|exact sI jW isAgg9 w5 rfl|exact l9 (k:=0) mB rfl rfl rfl isAgg9 w5 rfl|exact ke (k:=0) mB rfl rfl rfl isAgg9 w5 rfl|exact l9 (k:=1) mB rfl rfl rfl isAgg9 w5 rfl|exact ke (k:=1) mB rfl rfl rfl isAgg9 w5 rfl|exact l9 (k:=0) fQ rfl rfl rfl isAgg9 w5 rfl|exact ke (k:=0) fQ rfl rfl rfl isAgg9 w5 rfl|exact l9 (k:=1) fQ rfl rfl rfl isAgg9 w5 rfl|exact ke (k:=1) fQ rfl rfl rfl isAgg9 w5 rfl|exact l9 (k:=0) jW rfl rfl rfl isAgg9 w5 rfl|exact ke (k:=0) jW rfl rfl rfl isAgg9 w5 rfl|exact l9 (k:=1) jW rfl rfl rfl isAgg9 w5 rfl|exact ke (k:=1) jW rfl rfl rfl isAgg9 w5 rfl|exact De isAgg9 rfl|exact ai4 hty isAgg9 (afU hki.1 hki.2))) ?_;refine dW.later rfl ?_;refine bH (i:=7) aB ?_;refine oE (cx 0 [_,_]) [.string ⟨#[]⟩,.string ⟨#[]⟩] [_,_] zeroValue9 runUnderlying41 sizeOf9 (fun b27=>?_);refine oF 0 27 1 2 ?_;refine bH (i:=8) aB ?_;refine qR call81 (uc [s.au[i].n,Mz s.au[i].k] (by show 2<=10;decide)) ?_;refine bH (i:=9) aB ?_;refine oE (cx 0 [_]) [.slice none 0 0] [_] zeroValue101 runUnderlying146 sizeOf101 (fun vP=>?_)
   refine oF 0 29 1 1 ?_;refine bH (i:=10) aB ?_;refine Qs (Sq:=Sx) (R:=[_,_]) rfl av rfl rfl underlying146 QN rfl w8 ot ev (perm_append_comm (l₁:=[_,_])) (cz gF _) ot (sH qw [jN s.au[i]]) w8 (by rw[length_map,length_take];simp only[maxLen];omega) (by rw[length_map,length_take];omega) jb (fun PF U NB NC=>?_);refine gq (ew (S1:=[⟨PF,101,U*1,flatMap cK ((s.au.take i).map jN)++flatMap cK [jN s.au[i]]⟩]) (A:=[_,_])) ?_;rw[show flatMap cK ((s.au.take i).map jN)++flatMap cK [jN s.au[i]]=flatMap cK ((s.au.take i).map jN++[jN s.au[i]]) from List.flatMap_append.symm,show((s.au.take i).map jN).length+1=((s.au.take i).map jN++[jN s.au[i]]).length from by rw[length_append];rfl];refine fD ?_;refine bA [1,3,14,15,16] ?_;refine cc [1,3,14,15,16] ?_;refine⟨((i+1),(some ⟨PF,0,none⟩),U,[⟨PF,101,U*1,flatMap cK ((s.au.take i).map jN++[jN s.au[i]])⟩]),_,cG,(aI (h:=Zo)),w4,(bq.cast (bN (by rw[length_append];exact NB) NC) (by exact zV jN aa)),rfl⟩
  have fw:=Lb jN (show s.au.length<=i by simp at bf;omega);have eO:=Va (G:=G) (s.au.map jN) Hr (Lc s.au);rw[<-fw] at eO lm;refine az 1 ?_;refine bQ fW ?_;refine eH (cx 0 [_,_,_]) [.string ⟨#[]⟩,.string ⟨#[]⟩,.string ⟨#[]⟩] [_,_,_] zeroValue9 runUnderlying41 sizeOf9 (fun b34=>?_);refine bZ (Ab (S2:=[⟨b34,9,3*1,flatMap cS ([⟨#[67,82,69,65,84,69]⟩,⟨#[84,65,66,76,69]⟩,s.table])⟩]) (A:=[_])) ?_;refine qn (t:=34) (Sq:=[⟨b34,9,3*1,flatMap cS ([⟨#[67,82,69,65,84,69]⟩,⟨#[84,65,66,76,69]⟩,s.table])⟩]) lk (bN (g:=cS) (sz:=1) (e:=9) (ls:=[⟨#[67,82,69,65,84,69]⟩,⟨#[84,65,66,76,69]⟩,s.table]) (Nat.le_refl _) (show 3<=maxLen by decide)) (cz jW _) (Aa (A:=[_])) ?_;refine fg av rfl rfl rfl call81 (Ax [⟨#[67,82,69,65,84,69]⟩,⟨#[84,65,66,76,69]⟩,s.table] (by show 3<=10;decide)) ⟨ot,trivial⟩ (fx _) ?_;rintro _ S35 ⟨atT,atU,rfl,ang⟩;refine bZ (Ab (A:=[_])) ?_;refine aG 1 ?_;refine qn (t:=36) (Sq:=Sx) lk ev (cz gF _) (pS (A:=[_])) ?_;refine eB call82 (eO) ?_;refine fY (ls:=([⟨#[67,82,69,65,84,69]⟩,⟨#[84,65,66,76,69]⟩,s.table].map bI)) (new:=(nf ((s.au.take i).map jN))) (Sq:=S35) jk mD av rfl rfl underlying101 Jn rfl w8 ot ang (dK (A:=[_])) ot (TD _) qI w9 (fun Pv YC anh ani=>?_)
  refine bZ (ew (S1:=[⟨Pv,153,YC*3,flatMap cT (([⟨#[67,82,69,65,84,69]⟩,⟨#[84,65,66,76,69]⟩,s.table].map bI)++(nf ((s.au.take i).map jN)))⟩]) (A:=[_])) ?_;refine aq 107 [2] ?_;refine oL (t:=2) (Sq:=[⟨Pv,153,YC*3,flatMap cT (([⟨#[67,82,69,65,84,69]⟩,⟨#[84,65,66,76,69]⟩,s.table].map bI)++(nf ((s.au.take i).map jN)))⟩]) lk (bN anh ani) (cz jk _) (dK (A:=[_])) ?_;refine eu [] ?_;refine⟨?_,rfl⟩;unfold qz;rw[if_pos bG,<-fw]
 refine ax [1,10,39] ?_ ?_<;>intro cr cU
 ·refine cN [2] ?_;refine aT 1 ?_ (h:=vw);refine cL (uc [⟨#[68,82,79,80]⟩,⟨#[84,65,66,76,69]⟩,s.table] (by show 3<=10;decide)) ?_;refine bL ?_;refine eu [] ?_;refine⟨?_,rfl⟩;unfold qz;rw[if_neg bG,if_pos cU]
 refine ax [1,10,45] ?_ ?_<;>intro de eG
 ·refine bX ?_;refine bA [1,6] ?_;refine cN [1,6,48,49,50] ?_;refine aT 1 ?_ (h:=vw);refine bL ?_;refine kp ?_;refine nY (fun (E:Nat×Option Addr×Nat×List ag) aF=>match E with|(i,IR,IS,Sv)=>(i<=s.row.length)/\(bq 101 1 (((s.row.take i).map jZ).flatMap cK) ((s.row.take i).map jZ).length IR IS Sv)/\aF=(⟨107,[(1,da b1),(6,aN IR ((s.row.take i).map jZ).length IS),(48,an 3 cV s.row),(49,ae (s.row.length:Nat)),(50,ae (i:Nat))],((⟨b1,44,12,[ae s.kind,bg s.table,an 2 cC s.au,an 3 cV s.row,an 1 cS s.names,bP s.count,an 5 cO s.ah,bg s.order,bP s.down,ae s.iz,bg s.set,an 5 cO s.bM]⟩:ag)::Sv)⟩:St)) (fun (E:Nat×Option Addr×Nat×List ag)=>match E with|(i,IR,IS,Sv)=>s.row.length-i) (0,none,0,[]) ⟨(Nat.zero_le _),(bq.cast jj lW),rfl⟩ (aI (h:=Zm)) ?_;rintro⟨i,IR,IS,Sv⟩ _ ⟨hi,nU,rfl⟩;refine ax [1,6,48,49,50,51] ?_ ?_<;>intro eo fS
  ·have aa:i<s.row.length:=(by simp at eo;omega)
   refine az 1 ?_;refine bQ (dN (mk:=Op.load 56) rfl ot (by first|exact ry (k:=0) (ds:=[_,_,_]) rfl rfl isAgg56 sizeOf56 rfl rfl|exact kR mB isAgg56 sizeOf56 w5|exact kR fQ isAgg56 sizeOf56 w5|exact kR jW isAgg56 sizeOf56 w5|exact dO (k:=0) mB rfl rfl rfl isAgg56 sizeOf56 w5|exact dO (k:=0) fQ rfl rfl rfl isAgg56 sizeOf56 w5|exact dO (k:=0) jW rfl rfl rfl isAgg56 sizeOf56 w5|exact rE (ds:=[_,_,_]) isAgg56 sizeOf56 rfl rfl)) ?_;refine dF (ds:=[_,_,_]) av rfl rfl zeroValue56 rfl (fun b8=>?_);refine aR 0 [_,_,_] sizeOf56 ?_;refine aq 107 [1,6,8,48,49,50] ?_;refine dV 1 ?_;refine bQ (dN (mk:=Op.load 56) rfl ot (by first|exact ry (k:=0) (ds:=[_,_,_]) rfl rfl isAgg56 sizeOf56 rfl rfl|exact kR mB isAgg56 sizeOf56 w5|exact kR fQ isAgg56 sizeOf56 w5|exact kR jW isAgg56 sizeOf56 w5|exact dO (k:=0) mB rfl rfl rfl isAgg56 sizeOf56 w5|exact dO (k:=1) mB rfl rfl rfl isAgg56 sizeOf56 w5|exact dO (k:=0) fQ rfl rfl rfl isAgg56 sizeOf56 w5|exact dO (k:=1) fQ rfl rfl rfl isAgg56 sizeOf56 w5|exact dO (k:=0) jW rfl rfl rfl isAgg56 sizeOf56 w5|exact dO (k:=1) jW rfl rfl rfl isAgg56 sizeOf56 w5|exact rE (ds:=[_,_,_]) isAgg56 sizeOf56 rfl rfl)) ?_;refine eB call83 (QF s.row[i] (hs.r eG _ (getElem_mem aa))) ?_;refine eH (cx 0 [_]) [.slice none 0 0] [_] zeroValue101 runUnderlying146 sizeOf101 (fun b57=>?_)
   refine gh 0 57 1 1 ?_;refine fY (ls:=((s.row.take i).map jZ)) (new:=[jZ s.row[i]]) (Sq:=Sv) gF qw av rfl rfl underlying146 QN rfl w8 ot nU (dK (A:=[_,_])) ot bp (by simp only[maxLen,length_map,length_take,length_cons,length_nil];omega) (by simp only[length_map,length_take,length_cons,length_nil];omega) (fun Br Z anj ank=>?_);refine bZ (ew (S1:=[⟨Br,101,Z*1,flatMap cK (((s.row.take i).map jZ)++[jZ s.row[i]])⟩]) (A:=[_,_])) ?_;refine aq 107 [1,6,48,49,50] ?_;refine cc [1,6,48,49,50] ?_;refine⟨((i+1),(some ⟨Br,0,none⟩),Z,[⟨Br,101,Z*1,flatMap cK (((s.row.take i).map jZ)++[jZ s.row[i]])⟩]),_,cG,(aI (h:=Zm)),w4,(bq.cast (bN anj ank) (by exact zV jZ aa)),rfl⟩
  have W9:=Lb jZ (show s.row.length<=i by simp at eo;omega);have eO:=Va (G:=G) (s.row.map jZ) Hr (TF s.row);rw[<-W9] at eO qT;refine az 1 ?_;refine bQ fW ?_;refine eH (cx 0 [_,_,_,_]) [.string ⟨#[]⟩,.string ⟨#[]⟩,.string ⟨#[]⟩,.string ⟨#[]⟩] [_,_,_,_] zeroValue9 runUnderlying41 sizeOf9 (fun PG=>?_);refine bZ (Ab (S2:=[⟨PG,9,4*1,flatMap cS ([⟨#[73,78,83,69,82,84]⟩,⟨#[73,78,84,79]⟩,s.table,⟨#[86,65,76,85,69,83]⟩])⟩]) (A:=[_])) ?_;refine qn (t:=62) (Sq:=[⟨PG,9,4*1,flatMap cS ([⟨#[73,78,83,69,82,84]⟩,⟨#[73,78,84,79]⟩,s.table,⟨#[86,65,76,85,69,83]⟩])⟩]) lk (bN (g:=cS) (sz:=1) (e:=9) (ls:=[⟨#[73,78,83,69,82,84]⟩,⟨#[73,78,84,79]⟩,s.table,⟨#[86,65,76,85,69,83]⟩]) (Nat.le_refl _) (show 4<=maxLen by decide)) (cz jW _) (Aa (A:=[_])) ?_;refine fg av rfl rfl rfl call81 (Ax [⟨#[73,78,83,69,82,84]⟩,⟨#[73,78,84,79]⟩,s.table,⟨#[86,65,76,85,69,83]⟩] (by show 4<=10;decide)) ⟨ot,trivial⟩ (fx _) ?_;rintro _ El ⟨Yw,yP,rfl,Dk⟩;refine bZ (Ab (A:=[_])) ?_;refine aG 1 ?_;refine qn (t:=64) (Sq:=Sv) lk nU (cz gF _) (pS (A:=[_])) ?_;refine eB call82 (eO) ?_;refine fY (ls:=([⟨#[73,78,83,69,82,84]⟩,⟨#[73,78,84,79]⟩,s.table,⟨#[86,65,76,85,69,83]⟩].map bI)) (new:=(nf ((s.row.take i).map jZ))) (Sq:=El) jk mD av rfl rfl underlying101 Jn rfl w8 ot Dk (dK (A:=[_])) ot (TD _) qI w9 (fun qi Be Bf Bg=>?_)
  refine bZ (ew (S1:=[⟨qi,153,Be*3,flatMap cT (([⟨#[73,78,83,69,82,84]⟩,⟨#[73,78,84,79]⟩,s.table,⟨#[86,65,76,85,69,83]⟩].map bI)++(nf ((s.row.take i).map jZ)))⟩]) (A:=[_])) ?_;refine aq 107 [2] ?_;refine oL (t:=2) (Sq:=[⟨qi,153,Be*3,flatMap cT (([⟨#[73,78,83,69,82,84]⟩,⟨#[73,78,84,79]⟩,s.table,⟨#[86,65,76,85,69,83]⟩].map bI)++(nf ((s.row.take i).map jZ)))⟩]) lk (bN Bf Bg) (cz jk _) (dK (A:=[_])) ?_;refine eu [] ?_;refine⟨?_,rfl⟩;unfold qz;rw[if_neg bG,if_neg cU,if_pos eG,<-W9]
 refine ax [1,10,67] ?_ ?_<;>intro gk iC
 ·refine cN [2] ?_;refine aT 0 ?_ (h:=by exact(dN (mk:=Op.load 44) rfl ot (by first|exact ry (k:=0) (ds:=[_,_,_,_,_,_,_,_,_,_,_,_]) rfl rfl isAgg44 sizeOf44 rfl rfl|exact kR mB isAgg44 sizeOf44 w5|exact kR fQ isAgg44 sizeOf44 w5|exact kR jW isAgg44 sizeOf44 w5|exact dO (k:=0) mB rfl rfl rfl isAgg44 sizeOf44 w5|exact dO (k:=0) fQ rfl rfl rfl isAgg44 sizeOf44 w5|exact dO (k:=0) jW rfl rfl rfl isAgg44 sizeOf44 w5|exact rE (ds:=[_,_,_,_,_,_,_,_,_,_,_,_]) isAgg44 sizeOf44 rfl rfl)));refine cL (O (hs.w (.inl iC))) ?_;refine bL ?_;refine eu [] ?_;refine⟨?_,rfl⟩;unfold qz;rw[if_neg bG,if_neg cU,if_neg eG,if_pos iC]
 refine ax [1,10,71] ?_ ?_<;>intro iQ I
 ·refine cN [2] ?_;refine aT 1 ?_ (h:=vw);refine aT 1 ?_ (h:=vw);refine cL (uc [⟨#[85,80,68,65,84,69]⟩,s.table,⟨#[83,69,84]⟩,s.set] (by show 4<=10;decide)) ?_;refine cL (og ⟨#[61]⟩) ?_;refine aT 2 ?_ (h:=vw);refine cL (Q4 s.bM anf (hs.t I) (fun o h=>(hf.x o h).2)) ?_;refine aT 1 ?_ (h:=vw);refine cL (Ji s.ah qZ (hs.w (.inr (.inl I))) (fun o h=>(hf.w o h).2) w4) ?_;refine cL (Fx [[⟨#[85,80,68,65,84,69]⟩,s.table,⟨#[83,69,84]⟩,s.set].map bI,[dS ⟨#[61]⟩],sO s.bM,kW s.ah] (by show 4<=1000;decide) XH XH) ?_;refine bL ?_;refine eu [] ?_;refine⟨?_,rfl⟩;unfold qz;rw[if_neg bG,if_neg cU,if_neg eG,if_neg iC,if_pos I]
 refine ax [1,89] ?_ ?_<;>intro jn nK
 ·refine cQ ?_;refine iD 8 (aj (take 1 _)) ?_ (fun _ h=>(Sublist.map _ (take_sublist _ _)).subset h);refine aC 0 rfl (dU 1) ?_;refine aC 1 rfl fW ?_;refine aC 4 rfl (dU 6) ?_;refine aC 5 rfl fW ?_;refine dW.later rfl ?_;refine bH (i:=2) aB ?_;refine oE (cx 0 [_,_,_]) [.string ⟨#[]⟩,.string ⟨#[]⟩,.string ⟨#[]⟩] [_,_,_] zeroValue9 runUnderlying41 sizeOf9 (fun b93=>?_);refine oF 0 93 1 3 ?_;refine bH (i:=3) aB ?_;refine ko rfl av rfl rfl rfl call81 (Ax [⟨#[68,69,76,69,84,69]⟩,⟨#[70,82,79,77]⟩,s.table] (by show 3<=10;decide)) ⟨ot,trivial⟩ (fx _) jb ?_;rintro _ S94 ⟨atV,kX,rfl,anl⟩;refine gq (ew (A:=[_])) ?_;refine bH (i:=6) aB ?_;refine qR call88 (Ji s.ah qZ (hs.w (.inr (.inr nK))) (fun o h=>(hf.w o h).2) w4) ?_;refine bH (i:=7) aB ?_;refine abF (ls:=([⟨#[68,69,76,69,84,69]⟩,⟨#[70,82,79,77]⟩,s.table].map bI)) (new:=(kW s.ah)) (Sq:=S94) jk mD rfl av rfl rfl underlying101 Jn rfl w8 runUnderlying101 sizeOf153 ot anl (dK (A:=[_])) ot qI w9 (fun atW atX S98 anm=>?_);refine gq (ew (A:=[_])) ?_;refine fD ?_;refine bA [2] ?_;refine oL (t:=2) (Sq:=S98) lk anm (cz jk _) (dK (A:=[_])) ?_;refine fi ?_;refine⟨?_,rfl⟩;unfold qz;rw[if_neg bG,if_neg cU,if_neg eG,if_neg iC,if_neg I,if_pos nK]
 obtain⟨j,hj,PI⟩:∃j:Nat,s.kind=((7+j:Nat):Int)/\j<HG.length:=⟨(s.kind-7).toNat,by have:=hs.k1;have:=hs.k9;omega,by have:=hs.k1;have:=hs.k9;show _<3;omega⟩
 refine cN [2] ?_;refine O3 (g:=cS) (HG) ?_;refine aT 1 ?_ (h:=vw);refine aT 0 ?_ (h:=by exact(dX (r:=.int .i64 ((j:Nat):Int)) rfl ot cf (iL (by rw[hj,show(((7+j:Nat)):Int)-7=((j:Nat):Int) by omega];exact wrap_i64 w4 (by have:j<3:=PI;omega)))));refine aT 1 ?_ (h:=by exact(dN (mk:=Op.load 9) rfl ot (by exact sI (i:=j) jW isAgg9 PI rfl)));refine cL (uc [HG[j]] AX) ?_;refine bL ?_;refine eu [] ?_;refine⟨?_,rfl⟩;unfold qz;rw[if_neg bG,if_neg cU,if_neg eG,if_neg iC,if_neg I,if_neg nK,hj,show(((7+j:Nat):Int)-7).toNat=j by omega,nD PI];first|done|rfl
theorem Q5:∀(l pre:List cm),sN pre l=0->∀c∈l,cR c.n=0/\1<=c.k/\c.k<=3
 | [],_,_,c,hc=>by cases hc
 | a::l,pre,h,c,hc=>by
  have h:(if ou pre a≠0 then ou pre a else sN (pre++[a]) l)=0:=h;by_cases h0:ou pre a=0
  ·rw[if_neg (by simp[h0])] at h;rcases mem_cons.1 hc with rfl|hc
   ·unfold ou at h0;by_cases h1:cR c.n=0
    ·rw[if_neg (by simp[h1])] at h0;by_cases h2:c.k<1\/c.k>3
     ·rw[if_pos h2] at h0;cases h0
     exact⟨h1,by omega⟩
    rw[if_pos h1] at h0;exact absurd h0 h1
   exact Q5 l _ h c hc
  rw[if_pos h0] at h;exact absurd h h0
theorem ad9{l:List cm}(h:ga l=0):(1<=l.length/\l.length<=6)/\∀c∈l,cR c.n=0/\1<=c.k/\c.k<=3:=by
 unfold ga at h;split at h
 ·cases h
 exact⟨by omega,Q5 l [] h⟩
theorem Vc{α:Type}{f:α->Int}:∀{l:List α},kx f l=0->∀a∈l,f a=0
 | [],_,a,h=>by cases h
 | b::r,h,a,ha=>by
  unfold kx at h;split at h
  ·exact absurd h vy
  rcases mem_cons.1 ha with rfl|ha
  ·have hn:¬f a≠0:=(by assumption)
   omega
  exact Vc h a ha
theorem Ld{l:List aH}(h:om l=0):l.length=0\/gb 0 l=0:=by
 unfold om at h;split at h
 ·exact .inl vy
 right;unfold fR at h;split at h
 ·cases h
 exact h
theorem ajw{l:List aH}(h:fR l=0):gb 0 l=0/\l.length<=40:=by
 unfold fR at h;split at h
 ·cases h
 exact⟨h,by omega⟩
theorem akY{s:cn}(h:fL s=0):gW s=0/\iM s (gi s)=true/\(s.kind<7->cR s.table=0):=by
 unfold fL at h;split at h
 ·rename_i h1;exact absurd h h1.2
 rename_i h1;split at h
 ·cases h
 rename_i h2;refine⟨h,?_,fun hk=>?_⟩
 ·cases hb:iM s (gi s) with
  | true=>rfl
  | false=>exact absurd ⟨h,hb⟩ h2
 by_cases hn:cR s.table=0
 ·exact hn
 exact absurd ⟨hk,hn⟩ h1
theorem akZ{s:cn}(hf:iZ s)(h1:1<=s.kind)(E:s.kind<=9)(h:fL s=0):ShS s:=by
 have he:=(akY h).1;unfold gW at he;refine⟨hf,h1,E,fun hk=>?_,fun hk v hv=>?_,fun hk=>?_,fun hk=>?_⟩
 ·rw[if_pos hk] at he;exact fun c hc=>((ad9 he).2 c hc).2
 ·rw[if_neg w4,if_pos hk] at he;unfold dR at he;split at he
  ·cases he
  exact GG (Vc he v hv) (hf.r v hv).1 (hf.r v hv).2
 ·by_cases h4:s.kind=4
  ·rw[if_neg w4,if_neg w4,if_pos h4] at he;unfold pW at he;repeat' split at he
   all_goals first|(exfalso;omega)|exact Ld w4
  by_cases h5:s.kind=5
  ·rw[if_neg w4,if_neg w4,if_neg h4,if_pos h5] at he;repeat' split at he
   all_goals first|(exfalso;omega)|exact Ld he
  rw[if_neg w4,if_neg w4,if_neg h4,if_neg h5,if_pos w4] at he;exact Ld he
 rw[if_neg w4,if_neg w4,if_neg w4,if_pos hk] at he;repeat' split at he
 all_goals first|(exfalso;omega)|exact(ajw vy).1
def fZ(s:cn):Int:=if s.kind<1\/s.kind>9 then 2 else if fL s≠0 then fL s else if (qz s).length>100 then 10 else 0
theorem TG(hm:(3,marksC)∈G)(hw:(1,wordsC)∈G)(O:(0,typesC)∈G)(s:cn)(hf:iZ s):VP Tryz.prog G 21 [.agg (bK s)] (ae (fZ s)):=by
 refine bn func21 rfl ntmps21 aP fun X0 w0 bj=>?_;have dH:=ey;have fE:=ad8 hm hw s hf;unfold bK at fE;unfold bK;have Z:(s.kind<1\/s.kind>9)\/¬(s.kind<1\/s.kind>9):=(by omega)
 refine bX ?_;refine cW [_,_,_,_,_,_,_,_,_,_,_,_] (fun b1=>?_);refine aq 21 [1] ?_;refine az 4 ?_;refine bU 7 (fun U E=>?_) (fun U E=>?_)
 ·refine bA [1,11] ?_;refine e9 ?_;have aY:fZ s=2:=if_pos w4;exact zb
 refine bA [1,11] ?_;refine cj ?_ ?_<;>intro aM bG
 ·have aY:fZ s=2:=if_pos w4;exact zb
 have hk:¬(s.kind<1\/s.kind>9):=(by omega)
 refine cX [1,3] (fE) ?_;refine ax [1,3,15] ?_ ?_<;>intro bf cD
 ·have hn:fL s≠0:=(by simpa using bf)
  have aY:fZ s=fL s:=(by unfold fZ;rw[if_neg hk,if_pos hn])
  exact zb
 have h0:fL s=0:=(by simpa using bf)
 have I:=ahL O s (akZ hf w4 w4 h0);unfold bK at I;have ir:¬fL s≠0:=fun h=>h h0;refine cX [20] (I) ?_;refine cj ?_ ?_<;>intro cr cU
 ·have aY:fZ s=10:=(by unfold fZ;rw[if_neg hk,if_neg ir,if_pos (by simp at cr;omega)])
  exact zb
 have aY:fZ s=0:=(by unfold fZ;rw[if_neg hk,if_neg ir,if_neg (by simp at cr;omega)])
 refine aA [2] ?_;refine fi ?_;rw[aY];exact⟨rfl,rfl⟩
end Pa
namespace Pc
open List
open Go.Proofs.Tryz
open Go.RowKit V Pk Vl Go.Proofs.YtbplamgacibdaaaGreatDoor.Nm Pa
variable {G:List (Nat×List Value)}
variable {i:Nat}
theorem ajx:cR ⟨#[116]⟩=0:=uZ (l:=[116]) w8 w8 (fun c hc=>by simp only[mem_singleton] at hc;subst hc;decide)
def r8(l:List cm):cn:={fm with kind:=1,table:=⟨#[116]⟩,au:=l}
theorem ak0{l:List cm}(h6:l.length<=6)(aQ:∀c∈l,c.n.size<=maxLen):iZ (r8 l) :=
 ⟨⟨h6,Nat.zero_le _,Nat.zero_le _,Nat.zero_le _,Nat.zero_le _⟩,(by show 1<=maxLen;decide),aQ,(fun _ h=>by cases h),Nat.zero_le _,Nat.zero_le _,(fun _ h=>by cases h),(fun _ h=>by cases h),(fun _ h=>by cases h)⟩
theorem ajy(l:List cm):iM (r8 l) (r8 l)=true:=by
 unfold iM;simp only[Bool.and_eq_true,beq_iff_eq,wo,and_self]
theorem ahM(l:List cm):fL (r8 l)=ga l:=by
 have h1:gW (r8 l)=ga l:=rfl;have h2:gi (r8 l)=r8 l:=rfl;unfold fL;rw[if_neg (fun h=>h.2 ajx),h2,h1,if_neg (fun h=>by rw[ajy] at h;cases h.2)]
theorem afV{l:List cm}(h6:l.length<=6):fZ (r8 l)=ga l:=by
 unfold fZ;rw[if_neg (fun h=>by have:(r8 l).kind=1:=rfl;omega),ahM];split
 ·rfl
 rename_i h0;have h1:=F7 (ts:=l.map jN) (Lc l) (l.map jN).length;have h2:(nf (l.map jN)).length<=80:=(by unfold nf;rw[length_append];(first|rw[length_map] at h1|(unfold an at h1;rw[length_map] at h1));(first|rw[length_map]|(unfold an;rw[length_map]));simp only[length_cons,length_nil];omega)
 have h3:(qz (r8 l)).length<=100:=by
  show([_,_,_].map bI++nf (l.map jN)).length<=100;rw[length_append];simp only[length_map,length_cons,length_nil];omega
 rw[if_neg w4];simp only[ne_eq,Decidable.not_not] at h0;exact h0.symm
def PJ(l:List cm):List D:=[ae 1,bg ⟨#[116]⟩,an 2 cC l,bW,bW,bP false,bW,fN,bP false,ae (-1),fN,bW]
theorem aea(hm:(3,marksC)∈G)(hw:(1,wordsC)∈G)(ht:(0,typesC)∈G)(l:List cm)(hl:l.length<=6)(aQ:∀c∈l,c.n.size<=maxLen):VP Tryz.prog G 21 [.agg (PJ l)] (ae (ga l)):=by
 have h:=Pa.TG (G:=G) hm hw ht (r8 l) (ak0 hl aQ);rw[afV hl] at h;refine VC.args h rfl fun w L i h1 h2 v hv=>?_;have:i=0:=(by simp only[length_cons,length_nil] at h1;omega)
 subst this;exact As (a:=PJ l) (b:=bK (r8 l)) ⟨dG,dG,dG,fG,fG,dG,fG,dG,dG,dG,dG,fG,trivial⟩ w L v hv
theorem Gh(hm:(3,marksC)∈G)(hw:(1,wordsC)∈G)(ht:(0,typesC)∈G)(l:List cm)(hl:l.length<=6)(aQ:∀c∈l,c.n.size<=maxLen):VP Tryz.prog G 56 [an 2 cC l] (ae (ga l)):=by
 refine bn func56 rfl ntmps56 aP fun X0 w0 bj=>?_;have dH:=ey;have fE:=aea hm hw ht l hl aQ;unfold PJ at fE;refine aA [0] ?_;refine cX [2] (fE) ?_;exact oD
def nh(i:Nat)(c:cm)(v:Vl):Int:=if bY v≠0 then bY v else if v.k≠c.k/\(i=0\/v.k≠0) then 4 else 0
def qG:Nat->List cm->List Vl->Int
 | i,c::cs,v::vs=>if nh i c v≠0 then nh i c v else qG (i+1) cs vs
 | _,_,_=>0
def dR(cs:List cm)(vs:List Vl):Int:=if ga cs≠0 then ga cs else if vs.length≠cs.length then 1 else qG 0 cs vs
theorem adL{cs:List cm}{vs:List Vl}(h1:i<cs.length)(h2:i<vs.length)(h:nh i cs[i] vs[i]=0):qG i (cs.drop i) (vs.drop i)=qG (i+1) (cs.drop (i+1)) (vs.drop (i+1)):=by
 rw[drop_eq_getElem_cons h1,drop_eq_getElem_cons h2];exact if_neg (by simp[h])
theorem SY{cs:List cm}{vs:List Vl}(h1:i<cs.length)(h2:i<vs.length)(h:nh i cs[i] vs[i]≠0):qG i (cs.drop i) (vs.drop i)=nh i cs[i] vs[i]:=by
 rw[drop_eq_getElem_cons h1,drop_eq_getElem_cons h2];exact if_pos h
theorem afW{cs:List cm}{vs:List Vl}(h:¬i<vs.length):qG i (cs.drop i) (vs.drop i)=0:=by
 rw[drop_of_length_le (l:=vs) w4];cases cs.drop i<;>rfl
theorem L4(hm:(3,marksC)∈G)(hw:(1,wordsC)∈G)(ht:(0,typesC)∈G)(l:List cm)(hl:l.length<=6)(aQ:∀c∈l,c.n.size<=maxLen)(vs:List Vl)(qT:vs.length<=maxLen):VP Tryz.prog G 62 [an 2 cC l,an 3 cV vs] (ae (dR l vs)):=by
 refine bn func62 rfl ntmps62 aP fun X0 w0 bj=>?_;have dH:=ey;refine aA [0,1] ?_;refine cX [0,1,5] (Gh hm hw ht l hl aQ) ?_;refine ax [0,1,5,12] ?_ ?_<;>intro aM bG
 ·have hne:ga l≠0:=(by simpa using aM)
  have aY:dR l vs=ga l:=if_pos hne;refine aA [4] ?_;exact pH
 have h0:¬ga l≠0:=(by simpa using aM)
 refine ax [0,1,18] ?_ ?_<;>intro bf cD
 ·have aY:dR l vs=1:=(by unfold dR;rw[if_neg h0,if_pos w4])
  refine aA [4] ?_;exact pH
 have Z:vs.length=l.length:=(by omega)
 have E:dR l vs=qG 0 (l.drop 0) (vs.drop 0):=(by unfold dR;rw[if_neg h0,if_neg (by simp[Z])];rfl)
 refine aA [0,19,20,21] ?_;refine fa [0,19,20] (fun aV _ (i:Nat) aF=>(i<=vs.length)/\(dR l vs=qG i (l.drop i) (vs.drop i))/\aF=(⟨49,(21,ae (i:Nat))::aV,[]⟩:St)) (fun (i:Nat)=>vs.length-i) 0 ⟨(Nat.zero_le _),E,rfl⟩ ?_;rintro i _ ⟨hi,hinv,rfl⟩;refine ax [0,19,20,21,22] ?_ ?_<;>intro cr cU
 ·have aa:i<vs.length:=(by omega)
  have M8:i<l.length:=(by omega)
  refine az 3 ?_;refine dF (ds:=[_,_,_]) av rfl rfl zeroValue56 rfl (fun b7=>?_);refine aG 1 ?_;refine aR 0 [_,_,_] sizeOf56 ?_;refine aq 49 [0,6,7,19,20,21] ?_;refine cX [0,6,7,8,19,20,21] (Vl.qo vs[i]) ?_;refine ax [0,6,7,8,19,20,21,29] ?_ ?_<;>intro de eG
  ·have hne:bY vs[i]≠0:=(by simpa using de)
   have hf:nh i l[i] vs[i]=bY vs[i]:=if_pos hne;have aY:dR l vs=bY vs[i]:=(by rw[hinv,SY M8 aa (by rw[hf];exact hne),hf])
   refine aA [4] ?_;exact pH
  have hz:¬bY vs[i]≠0:=(by simpa using de)
  refine en ?_;refine cQ ?_;refine oC 7 [0,6,7,19,20,21,32,37] ?_;refine bL ?_;refine aG 2 ?_;refine bU 39 (fun U I=>?_) (fun U I=>?_)
  ·refine aG 3 ?_;refine bU 42 (fun sU O=>?_) (fun sU O=>?_)
   ·refine bA [0,19,20,21,47] ?_;refine e9 ?_;exact ZX
   refine bA [0,19,20,21,47] ?_;refine cj ?_ ?_<;>intro eo fS
   ·exact ZX
   exact Z0
  refine bA [0,19,20,21,47] ?_;refine gB ?_;exact Z0
 have aY:dR l vs=0:=(by rw[hinv];exact afW w4)
 refine aA [4] ?_;exact vH
end Pc
namespace Nm
open List
open Go.Proofs.Tryz
open Go.RowKit V Pk Vl
section
inductive Tw where
 | mk (k n:Int) (s:ByteArray) (ts:List Tw)
mutual
def Tw.cs:Tw->List D
 | .mk k n s ts=>[.v (.int .i64 k),.v (.int .i64 n),.v (.string s),.list 4 (Tw.ny ts) ts.length]
def Tw.ny:List Tw->List D
 | []=>[]
 | t::r=>t.cs++Tw.ny r
end
theorem Tw.L5:∀ts:List Tw,Tw.ny ts=ts.flatMap Tw.cs
 | []=>rfl
 | t::r=>by rw[Tw.ny,Tw.L5 r,flatMap_cons]
theorem Tw.GH(t:Tw):t.cs.length=4:=by cases t;rfl
mutual
def Tw.Ok:Tw->Prop
 | .mk k n s ts=>(-9223372036854775808<=k/\k<=9223372036854775807)/\(-9223372036854775808<=n/\n<=9223372036854775807)/\s.size<=maxLen/\ts.length<=maxLen/\Tw.IT ts
def Tw.IT:List Tw->Prop
 | []=>True
 | t::r=>t.Ok/\Tw.IT r
end
theorem Tw.Vd:∀{ts:List Tw},Tw.IT ts->∀t∈ts,t.Ok
 | [],_,t,h=>by cases h
 | a::r,⟨h1,h2⟩,t,h=>by
  rcases mem_cons.1 h with rfl|h
  ·exact h1
  exact Tw.Vd h2 t h
theorem Tw.Ve:∀{ts:List Tw},(∀t∈ts,t.Ok)->Tw.IT ts
 | [],_=>trivial
 | a::r,h=>⟨h a mem_cons_self,Tw.Ve fun t ht=>h t (mem_cons_of_mem _ ht)⟩
def pX(j:Int):ByteArray:=if j=0 then ⟨#[105,100]⟩ else if j=1 then ⟨#[110]⟩ else if j=2 then ⟨#[115]⟩ else ⟨#[98]⟩
def sV(n:Int)(s:ByteArray):Vl:={px ⟨n,cH n 40-20,s⟩ with s:=nj (px ⟨n,cH n 40-20,s⟩).s 4}
def sK(n:Int)(s:ByteArray):aH:=⟨1,sV n s,⟨#[]⟩⟩
def wI(n:Int):aH:=⟨2,aU,pX (cH n 4)⟩
def cY(k:Int):aH:=⟨k,aU,⟨#[]⟩⟩
def mz(k n:Int)(s:ByteArray):List aH:=if 1+cH k 11=2 then [wI n] else [sK n s]
def gH:Nat->Tw->List aH
 | 0,.mk k n s _=>mz k n s
 | r+1,.mk k n s ts =>
  if 1+cH k 11=1 then [sK n s]
  else if 1+cH k 11=2 then [wI n]
  else if 1+cH k 11=5\/1+cH k 11=11 then (match ts[0]? with|some t=>gH r t|none=>mz n 0 s)++[cY (1+cH k 11)]
  else ((match ts[0]? with|some t=>gH r t|none=>mz n 0 s)++(match ts[1]? with|some t=>gH r t|none=>mz n 1 s))++[cY (1+cH k 11)]
def gJ(r:Nat)(ts:List Tw)(n:Int)(s:ByteArray)(i:Nat):List aH:=match ts[i]? with|some t=>gH r t|none=>mz n i s
theorem Ad(k n:Int)(s:ByteArray):(mz k n s).length=1:=by unfold mz;split<;>rfl
theorem Le:∀(r:Nat) (t:Tw),1<=(gH r t).length/\(gH r t).length+1<=2 ^ (r+1)
 | 0,.mk k n s ts=>by rw[gH,Ad];exact⟨by decide,by decide⟩
 | r+1,.mk k n s ts=>by
  have E:∀i:Nat,1<=(gJ r ts n s i).length/\(gJ r ts n s i).length+1<=2 ^ (r+1):=fun i=>by
   unfold gJ;split
   ·exact Le r _
   rw[Ad];exact⟨by decide,by rw[Nat.pow_succ];have:=Nat.one_le_two_pow (n:=r);omega⟩
  have h0:=E 0;have h1:=E 1;unfold gJ at h0 h1;have hp:2 ^ (r+1+1)=2 ^ (r+1)+2 ^ (r+1):=(by rw[Nat.pow_succ];omega)
  rw[gH];simp only[Int.natCast_zero,Int.natCast_one] at h0 h1;split
  ·exact⟨by simp,by simp;omega⟩
  split
  ·exact⟨by simp,by simp;omega⟩
  split<;>simp only[length_append,length_cons,length_nil]<;>omega
theorem Vf(r:Nat)(ts:List Tw)(n:Int)(s:ByteArray)(i:Nat):1<=(gJ r ts n s i).length/\(gJ r ts n s i).length+1<=2 ^ (r+1):=by
 unfold gJ;split
 ·exact Le r _
 rw[Ad];exact⟨by decide,by rw[Nat.pow_succ];have:=Nat.one_le_two_pow (n:=r);omega⟩
theorem Q6(r:Vl):(px r).s.size<=10:=by
 unfold px aU;split
 ·exact Nat.zero_le _
 split
 ·exact Nat.zero_le _
 split
 ·show(nj r.s 10).size<=10;rw[Fw];omega
 decide
theorem Vg{j:Nat}(h:j<4):[D.v (.string ⟨#[105,100]⟩),D.v (.string ⟨#[110]⟩),D.v (.string ⟨#[115]⟩),D.v (.string ⟨#[98]⟩)][j*1]?=some (bg (pX (j:Int))):=by
 match j,h with
 | 0,_|1,_|2,_|3,_=>rfl
variable {G:List (Nat×List Value)}
abbrev yQ(ls:List aH)(r:D)(S:List ag):Prop:=gI cO 58 5 ls r S
theorem Vh(k n d:Int)(s:ByteArray)(d4:D)(h4:kV d4=true)(cl:-9223372036854775808<=k)(eR:k<=9223372036854775807)(gM:-9223372036854775808<=n)(iS:n<=9223372036854775807)(hs:s.size<=maxLen)(hd:2<d):VC Tryz.prog G 31 [.agg [ae k,ae n,bg s,d4],ae d] [] (yQ (mz k n s)):=by
 refine bn func31 rfl ntmps31 aP fun X0 w0 bj=>?_;have hpk:=j7 k (by decide:(1:Int)<=11);have hpn:=j7 n (by decide:(1:Int)<=40);have U:=j7 n (by decide:(1:Int)<=4);obtain⟨j,hj⟩:=Int.eq_ofNat_of_zero_le U.1;have Z:j<4:=(by omega)
 have I:=l7 G n 4 gM iS w8;rw[hj] at I;have gl:(⟨n,cH n 40-20,s⟩:Vl).Ok:=⟨gM,iS,by show _<=cH n 40-20;omega,by show cH n 40-20<=_;omega,hs⟩
 have hvs:=Q6 ⟨n,cH n 40-20,s⟩;have hml:100<=maxLen:=(by decide)
 obtain⟨kk,mO⟩:∃kk:Int,1+cH k 11=kk:=⟨_,rfl⟩
 refine bX ?_;refine cW [_,_,_,_] (fun b2=>?_);refine cW [_] (fun b3=>?_);refine aq 69 [2,3] ?_;refine cN [2,3,5] ?_;refine cL (l7 G k 11 cl eR w8) ?_;refine aT 0 ?_ (h:=XN);refine bL ?_;refine az 3 ?_;refine bU 14 (fun E O=>?_) (fun E O=>?_)
 ·refine bA [2,3,5,17] ?_;refine cj ?_ ?_<;>intro aM bG
  ·refine cc [2,3,5] ?_;refine cN [2,5,6] ?_;refine aT 0 ?_ (h:=Ia);refine bL ?_;refine aA [2,5,6,19] ?_;refine aA [2,5,6,19,20] ?_;refine e9 ?_;exact z107
  refine cN [2,5,6] ?_;refine aT 0 ?_ (h:=Ia);refine bL ?_;refine aA [2,5,6,19] ?_;refine ax [2,5,6,19,20] ?_ ?_<;>intro bf cD
  ·exact z107
  refine ax [2,5,6,19,40] ?_ ?_<;>intro cr cU
  ·refine az 1 ?_;refine eH (cx 0 [_,_,_,_]) [.string ⟨#[]⟩,.string ⟨#[]⟩,.string ⟨#[]⟩,.string ⟨#[]⟩] [_,_,_,_] zeroValue9 runUnderlying41 sizeOf9 (fun b43=>?_);refine gh 0 43 1 4 ?_;refine aG 2 ?_;refine eB call16 (I) ?_;refine aG 1 ?_;refine bQ (dN (mk:=Op.load 9) rfl ot (De isAgg9 (Vg Z))) ?_;refine aG 1 ?_;refine eH (cx 0 [_]) [.int .i64 0,.int .i64 0,.int .i64 0,.string ⟨#[]⟩,.string ⟨#[]⟩] [_,_,_,_,_] zeroValue58 runUnderlying42 sizeOf58 (fun BL=>?_);exact z21
  exact absurd cr (by simp at aM bf cr;omega)
 exact absurd E (by simp at E;omega)
end
variable {G:List (Nat×List Value)}
variable {ts:List Tw} {h:Int} {sp:Nat->Bool}
theorem TH{r:Nat}{n:Int}{s:ByteArray}{i:Nat}(hi:i<ts.length):gH r ts[i]=gJ r ts n s i:=by unfold gJ;rw[getElem?_eq_getElem hi]
theorem TI{r:Nat}{n:Int}{s:ByteArray}{i:Nat}(hi:ts.length<=i):mz n i s=gJ r ts n s i:=by unfold gJ;rw[getElem?_eq_none hi]
theorem v7(r:Nat)(k n:Int)(s:ByteArray)(ts:List Tw):gH (r+1) (.mk k n s ts)=if 1+cH k 11=1 then [sK n s] else if 1+cH k 11=2 then [wI n]
  else if 1+cH k 11=5\/1+cH k 11=11 then gJ r ts n s 0++[cY (1+cH k 11)] else (gJ r ts n s 0++gJ r ts n s 1)++[cY (1+cH k 11)]:=rfl
theorem Mn(r:Nat)(k n d:Int)(s:ByteArray)(ts:List Tw)(i b2 b3:Nat)(IH:∀t∈ts,VC Tryz.prog G 31 [.agg t.cs,ae (d+1)] [] (yQ (gH r t)))(gM:-9223372036854775808<=n)(iS:n<=9223372036854775807)(hs:s.size<=maxLen)(hd1:0<=d)(hd:d<=2)(hi:i<=1):VC Tryz.prog G 54 [ae (i:Int),da b2,da b3] [⟨b3,3,1,[ae d]⟩,⟨b2,26,4,[ae k,ae n,bg s,.list 4 (ts.flatMap Tw.cs) ts.length]⟩] (fun x S=>∃S1,yQ (gJ r ts n s i) x S1/\S=S1++[⟨b3,3,1,[ae d]⟩,⟨b2,26,4,[ae k,ae n,bg s,.list 4 (ts.flatMap Tw.cs) ts.length]⟩]):=by
 refine bn func54 rfl ntmps54 aP fun X0 w0 bj=>?_;refine az 1 ?_;refine fC (Wk.ek (n:=25) (l':=[(0,_),(1,_),(2,_)]) (S':=_) rfl rfl fJ) ?_;refine jX ?_;refine az 5 ?_;refine fC (Wk.ek (n:=25) (l':=[(0,_),(1,_),(2,_),(9,_)]) (S':=_) rfl rfl fJ) ?_;refine jX ?_;refine cj ?_ ?_<;>intro aM bG
 ·have aa:i<ts.length:=(by omega)
  refine cQ ?_;refine KU (aj _) aB (fun _ h=>h) ?_;refine aC 0 rfl (dU 3) ?_;refine aC 1 rfl (ec 1) ?_;refine aC 2 rfl bJ ?_;refine aC 3 rfl (ei 4) ?_;refine aC 4 rfl (dN (mk:=Op.load 26) rfl ot (by first|exact ry (k:=0) (ds:=[_,_,_,_]) rfl rfl isAgg26 sizeOf26 rfl rfl|exact ry (k:=1) (ds:=[_,_,_,_]) rfl rfl isAgg26 sizeOf26 rfl rfl|exact kR Tw.GH isAgg26 sizeOf26 w5|exact dO (k:=0) Tw.GH rfl rfl rfl isAgg26 sizeOf26 w5|exact dO (k:=1) Tw.GH rfl rfl rfl isAgg26 sizeOf26 w5|exact rE (ds:=[_,_,_,_]) isAgg26 sizeOf26 rfl rfl)) ?_;refine aC 5 rfl (ec 0) ?_;refine aC 6 rfl qS ?_;refine dW.later rfl ?_;refine bH (i:=7) aB ?_;refine ko rfl av rfl rfl rfl call31 (IH _ (getElem_mem aa)) ⟨ot,ot,trivial⟩ (fx _) (fun _ h=>h) ?_;rintro _ O ⟨U,Z,rfl,E⟩;refine dr 8 rfl bJ ?_;refine Mt (y:=⟨25,[(4,_)],((O++[_,_]))⟩) (Wk.ek rfl rfl fJ) rfl ?_;refine Ga aB ?_;refine eu _ ?_;first|exact⟨_,gI.cast (gI.mk E) (TH aa),rfl⟩|exact⟨_,gI.cast (gI.mk I) (TI w4),rfl⟩
 refine az 6 ?_;refine fg av rfl rfl rfl call31 (Vh n (i:Int) 9 s (bW) rfl gM iS w4 w4 hs w8) ⟨ot,cf,trivial⟩ (fx _) ?_;rintro _ S24 ⟨atY,atZ,rfl,I⟩;refine aG 1 ?_;refine fC (Wk.ek (n:=25) (l':=[(4,_)]) (S':=_) rfl rfl fJ) ?_;refine jX ?_;refine eu _ ?_;first|exact⟨_,gI.cast (gI.mk E) (TH aa),rfl⟩|exact⟨_,gI.cast (gI.mk I) (TI w4),rfl⟩
theorem Jr:(Tryz.prog.info? 58).map (fun i=>(i.zero,i.size,i.bytes))=some (some (.agg #[.int .i64 0,.int .i64 0,.int .i64 0,.string ⟨#[]⟩,.string ⟨#[]⟩]),5,56):=by kernel_rfl
theorem ahN(r:Nat)(hr:r<=2)(k n d:Int)(s:ByteArray)(ts:List Tw)(IH:∀t∈ts,VC Tryz.prog G 31 [.agg t.cs,ae (d+1)] [] (yQ (gH r t)))(cl:-9223372036854775808<=k)(eR:k<=9223372036854775807)(gM:-9223372036854775808<=n)(iS:n<=9223372036854775807)(hs:s.size<=maxLen)(hd1:0<=d)(hd:d<=2):VC Tryz.prog G 31 [.agg [ae k,ae n,bg s,.list 4 (ts.flatMap Tw.cs) ts.length],ae d] [] (yQ (gH (r+1) (.mk k n s ts))):=by
 refine bn func31 rfl ntmps31 aP fun X0 w0 bj=>?_;have hpk:=j7 k (by decide:(1:Int)<=11);have hpn:=j7 n (by decide:(1:Int)<=40);have hpc:=j7 n (by decide:(1:Int)<=4);obtain⟨j,hj⟩:=Int.eq_ofNat_of_zero_le hpc.1;have hj4:j<4:=(by omega)
 have I:=l7 G n 4 gM iS w8;rw[hj] at I;have gl:(⟨n,cH n 40-20,s⟩:Vl).Ok:=⟨gM,iS,by show _<=cH n 40-20;omega,by show cH n 40-20<=_;omega,hs⟩
 have hvs:=Q6 ⟨n,cH n 40-20,s⟩;have hml:100<=maxLen:=(by decide)
 obtain⟨kk,mO⟩:∃kk:Int,1+cH k 11=kk:=⟨_,rfl⟩
 have pG:=Vf r ts n s 0;have mi:=Vf r ts n s 1;have h2p:2 ^ (r+1)<=8:=Nat.pow_le_pow_right w8 (show r+1<=3 by omega);refine bX ?_;refine cW [_,_,_,_] (fun b2=>?_);refine cW [_] (fun b3=>?_);refine aq 69 [2,3] ?_;refine cN [2,3,5] ?_;refine cL (l7 G k 11 cl eR w8) ?_;refine aT 0 ?_ (h:=XN);refine bL ?_;refine az 3 ?_;refine bU 14 (fun E Z=>?_) (fun E Z=>?_)
 ·exact absurd E (by simp at E;omega)
 refine bA [2,3,5,17] ?_;refine gB ?_;refine cN [2,5,6] ?_;refine aT 0 ?_ (h:=Ia);refine bL ?_;refine aA [2,5,6,19] ?_;refine ax [2,5,6,19,20] ?_ ?_<;>intro bf cD
 ·refine cQ ?_;refine uL 11 10 [5,7,31] ?_;refine cL (l7 G n 40 gM iS w8) ?_;refine cL (SZ ⟨n,cH n 40-20,s⟩ gl) ?_;refine nV ?_;refine jR ?_;refine⟨rfl,fun b7=>?_⟩;refine aR 0 [_,_,_] sizeOf56 ?_;refine aq 69 [5,7] ?_;refine az 2 ?_;refine eB call25 (GA (px ⟨n,cH n 40-20,s⟩).s 4 w4) ?_;refine aG 1 ?_;refine aR 0 [_,_,_] sizeOf9 ?_;refine aq 69 [5,7] ?_;refine az 3 ?_;refine eH (cx 0 [_]) [.int .i64 0,.int .i64 0,.int .i64 0,.string ⟨#[]⟩,.string ⟨#[]⟩] [_,_,_,_,_] zeroValue58 runUnderlying42 sizeOf58 (fun DV=>?_);exact z46
 refine ax [2,5,6,19,40] ?_ ?_<;>intro cr cU
 ·refine az 1 ?_;refine eH (cx 0 [_,_,_,_]) [.string ⟨#[]⟩,.string ⟨#[]⟩,.string ⟨#[]⟩,.string ⟨#[]⟩] [_,_,_,_] zeroValue9 runUnderlying41 sizeOf9 (fun b43=>?_);refine gh 0 43 1 4 ?_;refine aG 2 ?_;refine eB call16 (I) ?_;refine aG 1 ?_;refine bQ (dN (mk:=Op.load 9) rfl ot (De isAgg9 (Vg hj4))) ?_;refine aG 1 ?_;refine eH (cx 0 [_]) [.int .i64 0,.int .i64 0,.int .i64 0,.string ⟨#[]⟩,.string ⟨#[]⟩] [_,_,_,_,_] zeroValue58 runUnderlying42 sizeOf58 (fun BL=>?_);exact z46
 refine ax [5,6,19,51] ?_ ?_<;>intro de eG
 ·refine e9 ?_;exact ZK
 refine cc [5,6,51] ?_;refine cj ?_ ?_<;>intro eo fS
 ·exact ZK
 refine az 1 ?_;refine my (f:=54) (args:=[_]) (all:=[_,_,_]) (Sf:=[_,_]) (R:=[]) av rfl rfl ot call54 (Mn r k n d s ts 0 b2 b3 IH gM iS hs hd1 hd w8) rfl ⟨cf,trivial⟩ (Perm.refl _) ?_;rintro _ _ ⟨S61,⟨at2,at3,rfl,ann⟩,rfl⟩;refine bZ (SV (A:=[_,_])) ?_;refine aG 1 ?_;refine my (f:=54) (args:=[_]) (all:=[_,_,_]) (Sf:=[_,_]) (R:=S61) av rfl rfl ot call54 (Mn r k n d s ts 1 b2 b3 IH gM iS hs hd1 hd w8) rfl ⟨cf,trivial⟩ (Perm.refl _) ?_;rintro _ _ ⟨El,⟨Yw,yP,rfl,Dk⟩,rfl⟩;refine bZ (afD (A:=[_,_])) ?_;refine qn (t:=63) (Sq:=El) lk Dk (cz mY _) (Aa (A:=[_,_])) ?_;refine fY (ls:=(gJ r ts n s 0)) (new:=(gJ r ts n s 1)) (Sq:=S61) mY At av rfl rfl underlying42 Jr rfl w8 ot ann (dK (A:=[_,_])) ot w4 Bo Bo (fun Eu O ano anp=>?_);refine bZ (ew (S1:=[⟨Eu,58,O*5,flatMap cO ((gJ r ts n s 0)++(gJ r ts n s 1))⟩]) (A:=[_,_])) ?_;refine aG 2 ?_;refine eH (cx 0 [_]) [.int .i64 0,.int .i64 0,.int .i64 0,.string ⟨#[]⟩,.string ⟨#[]⟩] [_,_,_,_,_] zeroValue58 runUnderlying42 sizeOf58 (fun rT=>?_);refine gh 0 67 5 1 ?_
 refine fY (ls:=((gJ r ts n s 0)++(gJ r ts n s 1))) (new:=[(⟨kk,aU,⟨#[]⟩⟩:aH)]) (Sq:=[⟨Eu,58,O*5,flatMap cO ((gJ r ts n s 0)++(gJ r ts n s 1))⟩]) mY At av rfl rfl underlying42 Jr rfl w8 ot (bN ano anp) (dK (A:=[_,_])) ot bp Bo Bo (fun b68 U anq anr=>?_);refine bZ (ew (S1:=[⟨b68,58,U*5,flatMap cO (((gJ r ts n s 0)++(gJ r ts n s 1))++[(⟨kk,aU,⟨#[]⟩⟩:aH)])⟩]) (A:=[_,_])) ?_;refine dY 69 [4] [⟨b68,58,U*5,flatMap cO (((gJ r ts n s 0)++(gJ r ts n s 1))++[(⟨kk,aU,⟨#[]⟩⟩:aH)])⟩] ?_;exact gI.cast (gI.mk (bN anq anr)) (by rw[v7,mO,if_neg w4,if_neg w4,if_neg w4];rfl)
theorem Ws:∀(r:Nat),r<=3->∀(t:Tw),t.Ok->VC Tryz.prog G 31 [.agg t.cs,ae (3-(r:Int))] [] (yQ (gH r t))
 | 0,_,.mk k n s ts,h=>Vh k n 3 s (.list 4 (Tw.ny ts) ts.length) rfl h.1.1 h.1.2 h.2.1.1 h.2.1.2 h.2.2.1 w8
 | r+1,hr,.mk k n s ts,h=>by
  have:=ahN (G:=G) r w4 k n (3-((r+1:Nat):Int)) s ts (fun t ht=>by
   have h1:=Ws r w4 t (Tw.Vd h.2.2.2.2 t ht);rw[show(3-((r+1:Nat):Int)+1)=3-(r:Int) by omega];exact h1) h.1.1 h.1.2 h.2.1.1 h.2.1.2 h.2.2.1 w4 w4
  rw[<-Tw.L5] at this;exact this
theorem ajz(t:Tw)(h:t.Ok):VC Tryz.prog G 12 [.agg t.cs] [] (yQ (gH 3 t)):=by
 refine bn func12 rfl ntmps12 aP fun X0 w0 bj=>?_;obtain⟨k,n,s,ts⟩:=t;have E:=Ws (G:=G) 3 (Nat.le_refl _) (.mk k n s ts) h;unfold Tw.cs at E |-;refine bX ?_;refine cW [_,_,_,_] (fun b1=>?_);refine aq 5 [1] ?_;refine az 1 ?_;refine fg av rfl rfl rfl call31 (E) ⟨ot,cf,trivial⟩ (fx _) ?_;rintro _ O ⟨U,Z,rfl,I⟩;refine bZ ew ?_;refine dY 5 [2] O ?_;exact gI.mk I
theorem L6(t:Tw)(h:t.Ok):VP Tryz.prog G 12 [.agg t.cs] (.list 5 ((gH 3 t).flatMap cO) (gH 3 t).length):=(ajz t h).yn mY
def runs:Int->List aH->Option Int
 | h,[]=>some h
 | h,o::r=>if gG h o=0 then runs (h+(1-bu o.k)) r else none
theorem xP:∀(a b:List aH) (h:Int),runs h (a++b)=(runs h a).bind fun h'=>runs h' b
 | [],b,h=>rfl
 | o::r,b,h=>by
  rw[cons_append,runs,runs];split
  ·exact xP r b _
  rfl
theorem JB:∀{a:List aH} {h h':Int} (b:List aH),runs h a=some h'->gb h (a++b)=gb h' b
 | [],h,h',b,e=>by cases e;rfl
 | o::r,h,h',b,e=>by
  rw[runs] at e;split at e
  ·rename_i h0;rw[cons_append,gb,if_pos h0];exact JB b e
  cases e
theorem ahO:((⟨#[]⟩:ByteArray).toList==(⟨#[]⟩:ByteArray).toList)=true:=by simp
theorem RG:zeroV aU=true:=by unfold zeroV aU;simp
theorem TJ:jy aU=0:=by decide
theorem TK(n:Int)(s:ByteArray):jy (sV n s)=0:=by
 have h1:=j7 n (by decide:(1:Int)<=40);have h2:=j7 (cH n 40-20) (by decide:(1:Int)<=2);have hc:(nj (nj s 10) 4).size<=4:=(by rw[Fw];omega)
 have he:nj (⟨#[]⟩:ByteArray) 4=ByteArray.empty:=Ct (by rw[Rx];rfl);unfold jy sV px;split
 ·simp[bY,he];omega
 split
 ·simp[bY,he];omega
 split
 ·simp[bY];omega
 unfold aU;simp[bY,he]
theorem Vi(h0:0<=h)(n:Int)(s:ByteArray):gG h (sK n s)=0:=by
 unfold gG sK;rw[TK];simp[bu];omega
theorem afX(j:Int):cR (pX j)=0:=by
 unfold pX;split
 ·exact uZ (l:=[105,100]) w8 w8 w8
 split
 ·exact uZ (l:=[110]) w8 w8 w8
 split
 ·exact uZ (l:=[115]) w8 w8 w8
 exact uZ (l:=[98]) w8 w8 w8
theorem Vj(h0:0<=h)(n:Int):gG h (wI n)=0:=by
 unfold gG wI;rw[TJ,RG,afX];simp[bu];omega
theorem Kp{k:Int}(h1:3<=k)(h2:k<=11)(E:bu k<=h):gG h (cY k)=0:=by
 unfold gG cY;simp only[TJ,RG,ahO];rw[if_neg w4,if_neg bp,if_neg bp,if_neg w4,if_neg w4]
theorem RH(h0:0<=h)(k n:Int)(s:ByteArray):runs h (mz k n s)=some (h+1):=by
 unfold mz;split
 ·rw[runs,if_pos (Vj h0 n),runs];rfl
 rw[runs,if_pos (Vi h0 n s),runs];rfl
theorem TL:∀(r:Nat) (t:Tw) (h:Int),0<=h->runs h (gH r t)=some (h+1)
 | 0,.mk k n s ts,h,h0=>RH h0 k n s
 | r+1,.mk k n s ts,h,h0=>by
  have E:∀(i:Nat) (h:Int),0<=h->runs h (gJ r ts n s i)=some (h+1):=fun i h h0=>by
   unfold gJ;split
   ·exact TL r _ h h0
   exact RH h0 _ _ _
  have hk:=j7 k (by decide:(1:Int)<=11);rw[v7];split
  ·rw[runs,if_pos (Vi h0 n s),runs];rfl
  split
  ·rw[runs,if_pos (Vj h0 n),runs];rfl
  split
  ·rename_i h3;rw[xP,E 0 h h0,Option.bind_some,runs,if_pos (Kp w4 w4 (by unfold bu;rw[if_neg w4,if_pos h3];omega)),runs];unfold cY bu;rw[if_neg (by simp only[];omega),if_pos h3];simp
  rename_i h3;rw[xP,xP,E 0 h h0,Option.bind_some,E 1 (h+1) w4,Option.bind_some,runs,if_pos (Kp w4 w4 (by unfold bu;rw[if_neg w4,if_neg h3];omega)),runs];unfold cY bu;rw[if_neg (by simp only[];omega),if_neg h3];congr 1;omega
theorem JR(t:Tw):1<=(gH 3 t).length/\(gH 3 t).length<=15:=by
 have:=Le 3 t;omega
theorem JS(t:Tw):fR (gH 3 t)=0:=by
 unfold fR;rw[if_neg (by have:=JR t;omega)];have:=JB [] (TL 3 t 0 (Int.le_refl _));rw[append_nil] at this;rw[this];rfl
theorem afY(t:Tw):∀o∈gH 3 t,o.nm.size<=2:=by
 have hn:∀j:Int,(pX j).size<=2:=fun j=>by
  unfold pX;split
  ·decide
  split
  ·decide
  split<;>decide
 have E:∀k n s,∀o∈mz k n s,o.nm.size<=2:=fun k n s o ho=>by
  unfold mz at ho;split at ho<;>(simp only[mem_singleton] at ho;subst ho)
  ·exact hn _
  exact Nat.zero_le _
 have key:∀(r:Nat) (t:Tw),∀o∈gH r t,o.nm.size<=2:=by
  intro r;induction r with
  | zero=>intro t;obtain⟨k,n,s,ts⟩:=t;exact E k n s
  | succ r ih =>
   intro t o ho;obtain⟨k,n,s,ts⟩:=t;have I:∀i:Nat,∀o∈gJ r ts n s i,o.nm.size<=2:=fun i o ho=>by
    unfold gJ at ho;split at ho
    ·exact ih _ o ho
    exact E _ _ _ o ho
   have hb:∀k,(cY k).nm.size<=2:=fun k=>Nat.zero_le _;rw[v7] at ho;split at ho
   ·simp only[mem_singleton] at ho;subst ho;exact Nat.zero_le _
   split at ho
   ·simp only[mem_singleton] at ho;subst ho;exact hn _
   split at ho
   ·rcases mem_append.1 ho with ho|ho
    ·exact I 0 o ho
    simp only[mem_singleton] at ho;subst ho;exact hb _
   rcases mem_append.1 ho with ho|ho
   ·rcases mem_append.1 ho with ho|ho
    ·exact I 0 o ho
    exact I 1 o ho
   simp only[mem_singleton] at ho;subst ho;exact hb _
 exact key 3 t
theorem afZ{l:List aH}(h:∀o∈l,o.nm.size<=2):∀o∈l,o.nm.size<=maxLen:=fun o ho=>Nat.le_trans (h o ho) w8
theorem Kq{H:Type}{enc:TypeId×Value->H}{w:World}{base:Nat}{held:Bool}:∀n,mM n enc Tryz.prog w base sp held 26 Tw.cs Tw.Ok:=by
 intro n;induction n using Nat.strongRecOn with
 | _ n ih =>
  intro cs x h;obtain⟨⟨k,m,s,ts⟩,h1,h2,h3,h4,h5⟩:=acW (fuel:=n) (n0:=1) (n1:=1) (n2:=1) (n3:=1) underlying26 aB rfl rfl rfl rfl aB aB aB aB
   (fun q _=>(wE underlying3).at q) (fun q _=>(wE underlying3).at q) (fun q _=>(Rp underlying9).at q) (fun q hq=>Rt (sz:=4) underlying24 aB w8 (fun z hz=>ih z w4) Tw.GH) cs x h
  refine⟨.mk k m s ts,?_,h2,h3,h4,h5.2,Tw.Ve h5.1⟩;unfold Tw.cs;rw[Tw.L5];exact h1
theorem rd_twig{H:Type}{enc:TypeId×Value->H}{w:World}{base E:Nat}{held:Bool}{v:Value}{d:DataW H}{p:List MemPlace}(hval:Value.okWide Tryz.prog w .any E 26 v)(h:DataW.Trod enc Tryz.prog w base sp held 26 v d p) :
  ∃t:Tw,cq w (fun _=>False) (.agg t.cs) v/\t.Ok/\True:=ajk underlying26 Kq hval h
end Nm
end Go.Proofs.YtbplamgacibdaaaGreatDoor
