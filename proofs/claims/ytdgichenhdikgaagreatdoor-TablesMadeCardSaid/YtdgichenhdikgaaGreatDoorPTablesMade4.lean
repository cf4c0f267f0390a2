/-
  What the proof of TablesMade leans on, part 4 of 9: walks of the program's functions at the level of values, and plain facts of what they compute.
-/
import Derived.Test.YtdgichenhdikgaaGreatDoorPTablesMade3
set_option linter.unusedVariables false
set_option linter.unusedSimpArgs false
set_option maxRecDepth 100000
set_option maxHeartbeats 4000000
namespace Go.Proofs.YtdgichenhdikgaaGreatDoor.V
open List
open Go.RowKit V
instance ik3:Ik Tryz.prog 3 .i64:=⟨by kernel_rfl⟩
instance aoh:Sl Tryz.prog 22 14:=⟨by kernel_rfl⟩
instance aoi:Sl Tryz.prog 23 5:=⟨by kernel_rfl⟩
instance anN:sY Tryz.prog 23 5:=⟨by kernel_rfl⟩
instance am0:Fo Tryz.prog 25 0 0:=⟨by kernel_rfl⟩
instance aoj:Sz Tryz.prog 25 1:=⟨by kernel_rfl⟩
instance aok:Sb Tryz.prog 25 [.slice none 0 0] [(0,1)]:=⟨by kernel_rfl,by kernel_rfl⟩
instance aol:Sl Tryz.prog 27 2:=⟨by kernel_rfl⟩
instance aom:Sl Tryz.prog 28 3:=⟨by kernel_rfl⟩
instance anO:sY Tryz.prog 28 3:=⟨by kernel_rfl⟩
instance aon:Sl Tryz.prog 29 1:=⟨by kernel_rfl⟩
instance anP:sY Tryz.prog 29 1:=⟨by kernel_rfl⟩
instance aoo:Sl Tryz.prog 30 5:=⟨by kernel_rfl⟩
instance am1:Fo Tryz.prog 32 0 0:=⟨by kernel_rfl⟩
instance am2:Fo Tryz.prog 32 1 1:=⟨by kernel_rfl⟩
instance am3:Fo Tryz.prog 32 2 2:=⟨by kernel_rfl⟩
instance am4:Fo Tryz.prog 32 3 3:=⟨by kernel_rfl⟩
instance am5:Fo Tryz.prog 32 4 4:=⟨by kernel_rfl⟩
instance am6:Fo Tryz.prog 32 5 5:=⟨by kernel_rfl⟩
instance am7:Fo Tryz.prog 32 6 6:=⟨by kernel_rfl⟩
instance am8:Fo Tryz.prog 32 7 7:=⟨by kernel_rfl⟩
instance am9:Fo Tryz.prog 32 8 8:=⟨by kernel_rfl⟩
instance ana:Fo Tryz.prog 32 9 9:=⟨by kernel_rfl⟩
instance amG:Fo Tryz.prog 32 10 10:=⟨by kernel_rfl⟩
instance amH:Fo Tryz.prog 32 11 11:=⟨by kernel_rfl⟩
instance aop:Sz Tryz.prog 32 12:=⟨by kernel_rfl⟩
instance aoq:Sb Tryz.prog 32 [.int .i64 0,.string ⟨#[]⟩,.slice none 0 0,.slice none 0 0,.slice none 0 0,.bool false,.slice none 0 0,.string ⟨#[]⟩,.bool false,.int .i64 0,.string ⟨#[]⟩,.slice none 0 0] [(0,1),(1,1),(2,1),(3,1),(4,1),(5,1),(6,1),(7,1),(8,1),(9,1),(10,1),(11,1)]:=⟨by kernel_rfl,by kernel_rfl⟩
instance aor:Sl Tryz.prog 34 1:=⟨by kernel_rfl⟩
instance anb:Fo Tryz.prog 36 0 0:=⟨by kernel_rfl⟩
instance aos:Sz Tryz.prog 36 2:=⟨by kernel_rfl⟩
instance aot:Sb Tryz.prog 36 [.slice none 0 0,.int .i64 0] [(0,1),(1,1)]:=⟨by kernel_rfl,by kernel_rfl⟩
instance anc:Fo Tryz.prog 41 0 0:=⟨by kernel_rfl⟩
instance ane:Fo Tryz.prog 41 1 1:=⟨by kernel_rfl⟩
instance anf:Fo Tryz.prog 41 2 2:=⟨by kernel_rfl⟩
instance aou:Sz Tryz.prog 41 3:=⟨by kernel_rfl⟩
instance aov:Sb Tryz.prog 41 [.int .i64 0,.int .i64 0,.string ⟨#[]⟩] [(0,1),(1,1),(2,1)]:=⟨by kernel_rfl,by kernel_rfl⟩
instance ang:Fo Tryz.prog 43 0 0:=⟨by kernel_rfl⟩
instance anh:Fo Tryz.prog 43 1 1:=⟨by kernel_rfl⟩
instance ani:Fo Tryz.prog 43 2 4:=⟨by kernel_rfl⟩
instance aow:Sz Tryz.prog 43 5:=⟨by kernel_rfl⟩
instance aox:Sb Tryz.prog 43 [.int .i64 0,.int .i64 0,.int .i64 0,.string ⟨#[]⟩,.string ⟨#[]⟩] [(0,1),(1,3),(4,1)]:=⟨by kernel_rfl,by kernel_rfl⟩
instance aoy:Sl Tryz.prog 49 5:=⟨by kernel_rfl⟩
instance anj:Fo Tryz.prog 51 0 0:=⟨by kernel_rfl⟩
instance ank:Fo Tryz.prog 51 1 1:=⟨by kernel_rfl⟩
instance aoz:Sz Tryz.prog 51 2:=⟨by kernel_rfl⟩
instance aoA:Sb Tryz.prog 51 [.slice none 0 0,.int .i64 0] [(0,1),(1,1)]:=⟨by kernel_rfl,by kernel_rfl⟩
instance anl:Fo Tryz.prog 53 0 0:=⟨by kernel_rfl⟩
instance anm:Fo Tryz.prog 53 1 1:=⟨by kernel_rfl⟩
instance ann:Fo Tryz.prog 53 2 2:=⟨by kernel_rfl⟩
instance ano:Fo Tryz.prog 53 3 3:=⟨by kernel_rfl⟩
instance aoB:Sz Tryz.prog 53 5:=⟨by kernel_rfl⟩
instance aoC:Sb Tryz.prog 53 [.string ⟨#[]⟩,.slice none 0 0,.slice none 0 0,.slice none 0 0,.int .i64 0] [(0,1),(1,1),(2,1),(3,2)]:=⟨by kernel_rfl,by kernel_rfl⟩
instance anp:Fo Tryz.prog 62 0 0:=⟨by kernel_rfl⟩
instance anq:Fo Tryz.prog 62 1 1:=⟨by kernel_rfl⟩
instance anr:Fo Tryz.prog 62 2 2:=⟨by kernel_rfl⟩
instance ans:Fo Tryz.prog 62 3 3:=⟨by kernel_rfl⟩
instance aoD:Sz Tryz.prog 62 4:=⟨by kernel_rfl⟩
instance aoE:Sb Tryz.prog 62 [.int .i64 0,.int .i64 0,.string ⟨#[]⟩,.slice none 0 0] [(0,1),(1,1),(2,1),(3,1)]:=⟨by kernel_rfl,by kernel_rfl⟩
instance aoF:Sl Tryz.prog 67 1:=⟨by kernel_rfl⟩
instance anQ:sY Tryz.prog 67 1:=⟨by kernel_rfl⟩
instance ant:Fo Tryz.prog 69 0 0:=⟨by kernel_rfl⟩
instance anu:Fo Tryz.prog 69 1 1:=⟨by kernel_rfl⟩
instance aoG:Sz Tryz.prog 69 2:=⟨by kernel_rfl⟩
instance aoH:Sb Tryz.prog 69 [.string ⟨#[]⟩,.int .i64 0] [(0,1),(1,1)]:=⟨by kernel_rfl,by kernel_rfl⟩
instance anv:Fo Tryz.prog 77 1 1:=⟨by kernel_rfl⟩
instance anw:Fo Tryz.prog 77 2 2:=⟨by kernel_rfl⟩
instance anx:Fo Tryz.prog 77 3 3:=⟨by kernel_rfl⟩
instance anz:Fo Tryz.prog 77 4 4:=⟨by kernel_rfl⟩
instance anA:Fo Tryz.prog 77 5 5:=⟨by kernel_rfl⟩
instance anB:Fo Tryz.prog 77 6 9:=⟨by kernel_rfl⟩
instance anC:Fo Tryz.prog 77 7 13:=⟨by kernel_rfl⟩
instance aoI:Sz Tryz.prog 77 14:=⟨by kernel_rfl⟩
instance aoJ:Sb Tryz.prog 77 [.int .i64 0,.int .i64 0,.int .i64 0,.int .i64 0,.slice none 0 0,.int .i64 0,.int .i64 0,.string ⟨#[]⟩,.slice none 0 0,.int .i64 0,.int .i64 0,.string ⟨#[]⟩,.slice none 0 0,.bool false] [(0,1),(1,1),(2,1),(3,1),(4,1),(5,4),(9,4),(13,1)]:=⟨by kernel_rfl,by kernel_rfl⟩
instance aoK:Sl Tryz.prog 85 2:=⟨by kernel_rfl⟩
instance anD:Fo Tryz.prog 90 1 1:=⟨by kernel_rfl⟩
instance aoL:Sz Tryz.prog 90 2:=⟨by kernel_rfl⟩
instance anR:sY Tryz.prog 98 3:=⟨by kernel_rfl⟩
instance amI:Fo Tryz.prog 114 0 0:=⟨by kernel_rfl⟩
instance amJ:Fo Tryz.prog 114 1 1:=⟨by kernel_rfl⟩
instance amK:Fo Tryz.prog 114 2 2:=⟨by kernel_rfl⟩
instance anS:Sz Tryz.prog 114 3:=⟨by kernel_rfl⟩
instance anT:Sb Tryz.prog 114 [.int .i64 0,.int .i64 0,.string ⟨#[]⟩] [(0,1),(1,1),(2,1)]:=⟨by kernel_rfl,by kernel_rfl⟩
instance anU:Sl Tryz.prog 130 1:=⟨by kernel_rfl⟩
instance anE:sY Tryz.prog 130 1:=⟨by kernel_rfl⟩
instance amL:Fo Tryz.prog 137 0 0:=⟨by kernel_rfl⟩
instance amM:Fo Tryz.prog 137 1 1:=⟨by kernel_rfl⟩
instance amN:Fo Tryz.prog 137 2 2:=⟨by kernel_rfl⟩
instance anV:Sz Tryz.prog 137 3:=⟨by kernel_rfl⟩
instance anW:Sb Tryz.prog 137 [.int .i64 0,.string ⟨#[]⟩,.int .i64 0] [(0,1),(1,1),(2,1)]:=⟨by kernel_rfl,by kernel_rfl⟩
instance anX:Sl Tryz.prog 151 1:=⟨by kernel_rfl⟩
instance amO:Fo Tryz.prog 153 0 0:=⟨by kernel_rfl⟩
instance amP:Fo Tryz.prog 153 1 1:=⟨by kernel_rfl⟩
instance amQ:Fo Tryz.prog 153 2 2:=⟨by kernel_rfl⟩
instance amR:Fo Tryz.prog 153 3 3:=⟨by kernel_rfl⟩
instance amS:Fo Tryz.prog 153 4 4:=⟨by kernel_rfl⟩
instance anY:Sz Tryz.prog 153 5:=⟨by kernel_rfl⟩
instance anZ:Sb Tryz.prog 153 [.bool false,.slice none 0 0,.slice none 0 0,.slice none 0 0,.int .i64 0] [(0,1),(1,1),(2,1),(3,1),(4,1)]:=⟨by kernel_rfl,by kernel_rfl⟩
instance an0:Sl Tryz.prog 157 1:=⟨by kernel_rfl⟩
instance amT:Fo Tryz.prog 159 0 0:=⟨by kernel_rfl⟩
instance amU:Fo Tryz.prog 159 1 2:=⟨by kernel_rfl⟩
instance amV:Fo Tryz.prog 159 2 3:=⟨by kernel_rfl⟩
instance an1:Sz Tryz.prog 159 4:=⟨by kernel_rfl⟩
instance an2:Sb Tryz.prog 159 [.slice none 0 0,.int .i64 0,.map none,.slice none 0 0] [(0,2),(2,1),(3,1)]:=⟨by kernel_rfl,by kernel_rfl⟩
instance an3:Sz Tryz.prog 203 0:=⟨by kernel_rfl⟩
instance an4:Sb Tryz.prog 203 [] []:=⟨by kernel_rfl,by kernel_rfl⟩
instance an5:Ik Tryz.prog 213 .u64:=⟨by kernel_rfl⟩
instance amW:Fo Tryz.prog 225 0 0:=⟨by kernel_rfl⟩
instance amX:Fo Tryz.prog 225 1 1:=⟨by kernel_rfl⟩
instance an6:Sz Tryz.prog 225 2:=⟨by kernel_rfl⟩
instance an7:Sb Tryz.prog 225 [.slice none 0 0,.slice none 0 0] [(0,1),(1,1)]:=⟨by kernel_rfl,by kernel_rfl⟩

end Go.Proofs.YtdgichenhdikgaaGreatDoor.V
namespace Go.Proofs.YtdgichenhdikgaaGreatDoor.Nm
open List
open Go.Proofs.Tryz
open Go.RowKit V
variable {k:Nat}
def wordsB:List (List UInt8):=[[67,82,69,65,84,69],[84,65,66,76,69],[68,82,79,80],[73,78,83,69,82,84],[73,78,84,79],[86,65,76,85,69,83],[83,69,76,69,67,84],[67,79,85,78,84],[70,82,79,77],[87,72,69,82,69],[79,82,68,69,82],[66,89],[68,69,83,67],[76,73,77,73,84],[85,80,68,65,84,69],[83,69,84],[68,69,76,69,84,69],[66,69,71,73,78],[67,79,77,77,73,84],[82,79,76,76,66,65,67,75],[65,78,68],[79,82],[78,79,84],[73,83],[78,85,76,76],[84,82,85,69],[70,65,76,83,69],[73,78,84],[84,69,88,84],[66,79,79,76]]
def marksB:List (List UInt8):=[[60,61],[62,61],[60,62],[40],[41],[44],[42],[43],[45],[61],[60],[62]]
def uS:List ByteArray:=wordsB.map fun b=>⟨b.toArray⟩
def Fa:List ByteArray:=marksB.map fun b=>⟨b.toArray⟩
def wordsC:List Value:=uS.map .string
def marksC:List Value:=Fa.map .string
def wg(c:UInt8):Bool:=decide ((97≤c.toNat∧c.toNat≤122)∨(65≤c.toNat∧c.toNat≤90)∨c.toNat=95)
def Fb(c:UInt8):Bool:=decide (48≤c.toNat∧c.toNat≤57)
def wH(c:UInt8):Bool:=wg c||Fb c
def Fx(p:UInt8→Bool)(s:ByteArray):Nat:=(s.data.toList.takeWhile p).length
theorem TF(p:UInt8→Bool):∀(l:List UInt8) (k:Nat),k≤l.length→(∀x∈l.take k,p x=true)→(∀h:k<l.length,p l[k]=false)→(l.takeWhile p).length=k
 | [],k,h,_,_=>by simp at h;subst h;rfl
 | a::r,0,_,_,h=>by
  have:p a=false:=h bu;rw[takeWhile_cons];simp[this]
 | a::r,k+1,h1,h2,h3=>by
  have ha:p a=true:=h2 a bu;rw[takeWhile_cons,if_pos ha,length_cons,TF p r k (by simpa using h1) (fun x hx=>h2 x (by rw[take_succ_cons];exact mem_cons_of_mem _ hx)) (fun h=>by have:=h3 oR;simpa using this)]
theorem ER{p:UInt8→Bool}{s:ByteArray}(hk:k≤s.size)(h0:∀x∈s.data.toList.take k,p x=true)(h1:k<s.size→p (l5 s k)=false):Fx p s=k :=
 TF p _ k (by rw[lg];exact hk) h0 fun h=>by rw[Hz h];exact h1 (by rw[lg] at h;exact h)
structure Tk where
 k:Int
 s:ByteArray
 n:Int
def cT(t:Tk):List D:=[ae t.k,bn t.s,ae t.n]
theorem iJ(t:Tk):(cT t).length=3:=rfl
def n8(s:ByteArray):Bool:=!decide (s.size=0)&&wg (l5 s 0)&&((Fx wH s:Int)==(s.size:Int))
def tH(t:Tk):Int :=
 if t.k=1 then (if (decide (t.n=0)&&n8 t.s)=true then 0 else 6)
 else if t.k=2 then (if t.n<0 then 3 else if t.s.size=0 then 0 else 6)
 else if t.k=3 then (if t.n=0 then 0 else 6)
 else if t.k=4 then (if (decide (t.n=0)&&Fa.any (jh t.s))=true then 0 else 6)
 else 2
def cU(s:ByteArray):Int:=if s.size>8 then 1 else if (!(n8 s)||uS.any (jh s))=true then 6 else 0
theorem Oe(s:ByteArray):tH ⟨1,s,0⟩=if n8 s=true then 0 else 6:=by
 unfold tH;rw[if_pos rfl];simp
variable {G:List (Nat×List Value)}
theorem OT(c:UInt8):VP Tryz.prog G 138 [.v (.int .u8 ((c).toNat:Int))] (cg (wg c)):=by
 refine VC.body func138 rfl ntmps138 aS fun X0 w0 aZ=>?_;refine af [0] ?_;refine aD 3 ?_;refine bX 5 (fun Z O=>?_) (fun Z O=>?_)
 ·refine aE 4 ?_;refine bX 9 (fun MY U=>?_) (fun MY U=>?_)
  ·exact z53
  refine aE 3 ?_;refine bX 12 (fun I E=>?_) (fun I E=>?_)
  ·exact U7
  exact z53
 refine aE 7 ?_;refine bX 12 (fun I E=>?_) (fun I E=>?_)
 ·exact U7
 refine bg [2] ?_;refine eR ?_;refine⟨vb ?_,rfl⟩;rw[Bool.eq_iff_iff];simp[wg];first|done|omega
theorem abA(c:UInt8):VP Tryz.prog G 141 [.v (.int .u8 ((c).toNat:Int))] (cg (Fb c)):=by
 refine VC.body func141 rfl ntmps141 aS fun X0 w0 aZ=>?_;refine af [0] ?_;refine aD 3 ?_;refine bX 5 (fun I E=>?_) (fun I E=>?_)
 ·refine bg [2] ?_;refine eR ?_;refine⟨vb ?_,rfl⟩;rw[Bool.eq_iff_iff];simp[Fb];first|done|omega
 refine bg [2] ?_;refine eR ?_;refine⟨vb ?_,rfl⟩;rw[Bool.eq_iff_iff];simp[Fb];first|done|omega
theorem P0(c:UInt8):VP Tryz.prog G 140 [.v (.int .u8 ((c).toNat:Int))] (cg (wH c)):=by
 refine VC.body func140 rfl ntmps140 aS fun X0 w0 aZ=>?_;refine af [0] ?_;refine aD 1 ?_;refine dS call138 (OT c) ?_;refine aE 1 ?_;refine bX 5 (fun I E=>?_) (fun I E=>?_)
 ·refine an 9 [2] ?_;refine aJ [] ?_;exact⟨vb (by simp[wH, *]),rfl⟩
 refine aE 1 ?_;refine OD.gZ iu rfl rfl rfl call141 (abA c) ⟨ot,trivial⟩ ?_;refine an 9 [2] ?_;refine aJ [] ?_;exact⟨vb (by simp[wH, *]),rfl⟩
theorem Ru(s:ByteArray)(g:Nat)(p:UInt8→Bool)(fu:∀args w,(callFunc g args).run Tryz.prog w = .ok (.enter g args) w)(hp:∀c,VP Tryz.prog G g [.v (.int .u8 ((c).toNat:Int))] (cg (p c)))(hs:s.size≤maxLen):VP Tryz.prog G 139 [bn s,.eB (.func g) []] (ae (Fx p s)):=by
 refine VC.body func139 rfl ntmps139 aS fun X0 w0 aZ=>?_;simp only[maxLen] at hs;refine af [0,1] ?_;refine af [0,1,5] ?_;refine eK [0,1] (fun aW _ (k:Nat) aI=>(k≤s.size)∧(∀x∈s.data.toList.take k,p x=true)∧aI=(⟨20,(5,ae (k:Nat))::aW,[]⟩:St)) (fun (k:Nat)=>s.size-k) 0 ⟨(Nat.zero_le _),bu,rfl⟩ ?_;rintro k _ ⟨hk,h0,rfl⟩;refine aD 5 ?_;refine bX 10 (fun I E=>?_) (fun I E=>?_)
 ·have O:k<s.size:=(by omega)
  have xB:s[k]?=some (l5 s k):=JG O;refine aE 3 ?_;refine OD.still iu rfl (Hx rfl ot ot runUnderlying9 rfl (by first|assumption|rfl)) ?_;refine OD.kr (f:=g) (args:=[_]) (all:=[_]) iu rfl rfl ot fu (hp (l5 s k)) rfl ⟨ot,trivial⟩ (eT _) ?_;rintro _ S2 ⟨rfl,rfl⟩;refine an 20 [0,1,5,16] ?_;refine au ?_ ?_<;>intro aN bC
  ·refine cm [0,1,5] ?_;refine⟨(k+1),_,cD,aQ,w4,(yu (by rw[lg];exact O) h0 (by rw[Hz];assumption)),rfl⟩
  refine af [4] ?_;refine aJ [] ?_;refine⟨vi ?_,rfl⟩;first|(rw[ER hk h0 (fun h=>by omega)];done)|(rw[ER hk h0 (fun h=>by assumption)];done)
 refine bg [0,1,5,16] ?_;refine fT ?_;refine af [4] ?_;refine eR ?_;refine⟨vi ?_,rfl⟩;first|(rw[ER hk h0 (fun h=>by omega)];done)|(rw[ER hk h0 (fun h=>by assumption)];done)
theorem abB(E:List ByteArray)(s:ByteArray)(hlen:E.length≤maxLen):VP Tryz.prog G 142 [av 1 cS E,bn s] (ae (dR (jh s) E)):=by
 refine VC.body func142 rfl ntmps142 aS fun X0 w0 aZ=>?_;simp only[maxLen] at hlen;refine af [0,1] ?_;refine af [0,1,7,8] ?_;refine eK [0,1,7] (fun aW _ (k:Nat) aI=>(k≤E.length)∧(∀x∈E.take k,jh s x=false)∧aI=(⟨19,(8,ae (k:Nat))::aW,[]⟩:St)) (fun (k:Nat)=>E.length-k) 0 ⟨(Nat.zero_le _),bu,rfl⟩ ?_;rintro k _ ⟨hk,h0,rfl⟩;refine af [0,1,7,8,9] ?_;refine au ?_ ?_<;>intro aN bC
 ·have aa:k<E.length:=(by omega)
  refine af [0,1,5,7,8] ?_;refine af [0,1,5,7,8,16] ?_;refine au ?_ ?_<;>intro aY cz
  ·refine af [4] ?_;refine aJ [] ?_;refine⟨vi ?_,rfl⟩;first|(rw[uH w4 h0 aY];done)|(rw[uC w4 h0];done)
  refine cm [0,1,7,8] ?_;refine⟨(k+1),_,cD,aQ,w4,(yu w4 h0 aY),rfl⟩
 refine af [4] ?_;refine aJ [] ?_;refine⟨vi ?_,rfl⟩;first|(rw[uH w4 h0 aY];done)|(rw[uC w4 h0];done)
theorem N8(E:List ByteArray)(s:ByteArray)(hlen:E.length≤maxLen):VP Tryz.prog G 109 [av 1 cS E,bn s] (cg (E.any (jh s))):=by
 refine VC.body func109 rfl ntmps109 aS fun X0 w0 aZ=>?_;refine af [0,1] ?_;refine cH [4] (abB E s hlen) ?_;refine aJ [] ?_;exact⟨vb P8,rfl⟩
theorem pn(hm:(3,marksC)∈G)(t:Tk)(hs:t.s.size≤maxLen):VP Tryz.prog G 108 [.agg (cT t)] (ae (tH t)):=by
 refine VC.body func108 rfl ntmps108 aS fun X0 w0 aZ=>?_;unfold cT;refine bY ?_;refine OD.box (ds:=[_,_,_]) ap rfl rfl ot rfl rfl (fun b1=>?_);refine an 53 [1] ?_;refine af [1,3] ?_;refine af [1,3,8] ?_;refine af [1,3,8,9] ?_;refine au ?_ ?_<;>intro aN bC
 ·refine fO 21 (aq _) ?_ (fun _ h=>h);refine ay 0 rfl bf ?_;refine ay 1 rfl bf ?_;refine di.split (t:=12) lk (fun U=>?_) (fun U=>?_)
  ·have E:=U;(try simp only[V.nv,ne_eq] at E)
   refine ay 2 rfl (dj 1) ?_;refine ay 3 rfl (dJ 0) ?_;refine ay 4 rfl mP ?_;refine ay 5 rfl wV ?_;refine ay 6 rfl bf ?_;refine di.split (t:=17) lk (fun wU=>?_) (fun wU=>?_)
   ·have wG:=wU;(try simp only[V.nv,ne_eq] at wG)
    refine ay 7 rfl (dj 1) ?_;refine ay 8 rfl (dJ 0) ?_;refine ay 9 rfl (Hx (c:=l5 t.s 0) rfl ot bL runUnderlying9 rfl (JG (aeU tN))) ?_;refine di.later rfl ?_;refine AD.one (i:=10) aA ?_;refine bj.gZ rfl iu rfl rfl rfl call138 (OT _) ⟨ot,trivial⟩ ?_;refine cy 11 rfl wV ?_;refine cy 12 rfl bf ?_;refine AD.split (t:=23) lk (fun Z=>?_) (fun Z=>?_)
    ·have I:=Z;(try simp only[V.nv,ne_eq] at I)
     refine cy 13 rfl (dj 1) ?_;refine cy 16 rfl (dj 1) ?_;refine AD.two (i:=14) (j:=17) aA ?_ ?_
     ·refine at_ rfl (dJ 0) ?_;refine AD.two (i:=15) (j:=17) aA ?_ ?_
      ·refine bj.gZ rfl iu rfl rfl rfl call139 (Ru t.s 140 wH call140 P0 hs) ⟨ot,s7,trivial⟩ ?_;refine AD.one (i:=17) aA ?_;refine at_ rfl (dJ 0) ?_;refine cy 18 rfl (DZ rfl rfl ot runUnderlying9) ?_;refine cy 19 rfl mP ?_;refine cy 20 rfl wV ?_;exact KM
      refine at_ rfl (dJ 0) ?_;refine cy 18 rfl (DZ rfl rfl ot runUnderlying9) ?_;exact U9
     refine at_ rfl (dJ 0) ?_;refine cy 18 rfl (DZ rfl rfl ot runUnderlying9) ?_;refine AD.one (i:=14) aA ?_;refine at_ rfl (dJ 0) ?_;exact U9
    have I:=Z;(try simp only[V.nv,ne_eq] at I)
    exact V1
   have wG:=wU;(try simp only[V.nv,ne_eq] at wG)
   exact z127
  have E:=U;(try simp only[V.nv,ne_eq] at E)
  refine mh 2 rfl ?_;refine mh 3 rfl ?_;refine mh 4 rfl ?_;refine ay 5 rfl vc ?_;refine ay 6 rfl bf ?_;exact z127
 refine af [1,3,8,32] ?_;refine au ?_ ?_<;>intro aY cz
 ·refine af [1,36] ?_;refine au ?_ ?_<;>intro bZ cM
  ·refine af [2] ?_;refine aJ [] ?_;exact Mg
  refine cm [3] ?_;exact U3
 refine af [1,3,8,40] ?_;refine au ?_ ?_<;>intro cW ek
 ·exact U3
 refine af [1,3,42] ?_;refine au ?_ ?_<;>intro eA fA
 ·refine fO 7 (aq _) ?_ (fun _ h=>h);refine ay 0 rfl bf ?_;refine ay 1 rfl bf ?_;refine di.split (t:=45) lk (fun KX=>?_) (fun KX=>?_)
  ·have O:=KX;(try simp only[V.nv,ne_eq] at O)
   refine ay 2 rfl (ei (l:=0) (h:=0) rfl vX trivial trivial (by first|exact RI (ls:=Fa) (g:=cS) hm rfl rfl runUnderlying211 sizeOf9 rfl w7 w7)) ?_;refine ay 3 rfl (dj 1) ?_;refine ay 4 rfl (dJ 0) ?_;refine di.later rfl ?_;refine AD.one (i:=5) aA ?_;refine bj.gZ rfl iu rfl rfl rfl call109 (N8 Fa t.s w7) ⟨ot,ot,trivial⟩ ?_;refine cy 6 rfl wV ?_;exact KM
  have O:=KX;(try simp only[V.nv,ne_eq] at O)
  refine mh 2 rfl ?_;refine mh 3 rfl ?_;refine mh 4 rfl ?_;refine di.later rfl ?_;refine AD.one (i:=5) aA ?_;refine bj.skip rfl (mw rfl rfl rfl lk js) rfl ?_;refine cy 6 rfl vc ?_;refine eJ ?_;refine bg [3] ?_;refine af [52] ?_;refine eM ?_;exact Mf
 refine af [2] ?_;refine aJ [] ?_;refine⟨vi ?_,rfl⟩;try simp only[uK] at *
 simp only[tH,n8];try simp_all
 try omega
theorem tv(hm:(3,marksC)∈G)(hw:(1,wordsC)∈G)(s:ByteArray)(hs:s.size≤maxLen):VP Tryz.prog G 64 [bn s] (ae (cU s)):=by
 refine VC.body func64 rfl ntmps64 aS fun X0 w0 aZ=>?_;refine af [0] ?_;refine af [0,5] ?_;refine au ?_ ?_<;>intro aN bC
 ·exact Ml
 refine aD 2 ?_;refine dS call108 (pn hm ⟨1,s,0⟩ hs) ?_;refine aE 2 ?_;refine bX 10 (fun I E=>?_) (fun I E=>?_)
 ·refine an 15 [14] ?_;refine eM ?_;exact Ml
 refine OD.still iu rfl (ei (l:=0) (h:=0) rfl vX trivial trivial (by first|exact RI (ls:=uS) (g:=cS) hw rfl rfl runUnderlying180 sizeOf9 rfl w7 w7)) ?_;refine aE 1 ?_;refine OD.gZ iu rfl rfl rfl call109 (N8 uS s w7) ⟨ot,ot,trivial⟩ ?_;refine an 15 [14] ?_;refine au ?_ ?_<;>intro aY cz
 ·exact Ml
 refine af [2] ?_;refine aJ [] ?_;refine⟨vi ?_,rfl⟩;try simp only[Oe] at *
 simp only[cU];first|(rw[if_pos w4];done)|(rw[if_neg w4];cases h1:n8 s<;>cases h2:uS.any (jh s)<;>simp_all)
def wb(c:UInt8):UInt8:=UInt8.ofNat (97+c.toNat % 26)
theorem TG(c:UInt8):(wb c).toNat=97+c.toNat % 26:=by
 have:c.toNat % 26<26:=Nat.mod_lt _ w7;unfold wb;rw[UInt8.toNat_ofNat'];exact Nat.mod_eq_of_lt w4
theorem ada(c:UInt8):IntKind.u8.wrap (97+(c.toNat:Int).tmod 26)=((wb c).toNat:Int):=by
 rw[TG];have h1:(c.toNat:Int).tmod 26=((c.toNat % 26:Nat):Int):=rfl;have:c.toNat % 26<26:=Nat.mod_lt _ w7;rw[h1];have e:(97+((c.toNat % 26:Nat):Int))=((97+c.toNat % 26:Nat):Int):=(by omega)
 rw[e];show((97+c.toNat % 26:Nat):Int) % 256=_;omega
def r9(s:ByteArray):List UInt8:=if s.size=0 then [120] else (s.data.toList.take 6).map wb
def tJ(s:ByteArray):ByteArray:=⟨(r9 s).toArray⟩
theorem Is{s:ByteArray}(h:k<s.size):(s.data.toList.take k).map wb++[wb (l5 s k)]=(s.data.toList.take (k+1)).map wb:=by
 have h':k<s.data.toList.length:=(by rw[lg];exact h)
 rw[take_succ_eq_append_getElem h',map_append,Hz h'];rfl
theorem PW{s:ByteArray}(hk:k≤s.size)(h:k=s.size∨6≤k)(h6:k≤6):(s.data.toList.take k)=s.data.toList.take 6:=by
 rcases h with h|h
 ·rw[take_of_length_le (by rw[lg];omega),take_of_length_le (by rw[lg];omega)]
 rw[show k=6 by omega]
theorem Z0:(Tryz.prog.info? 5).map (fun i=>(i.zero,i.size,i.bytes))=some (some (.int .u8 0),1,1):=by kernel_rfl
theorem qe(s:ByteArray)(hs:s.size≤maxLen):VP Tryz.prog G 17 [bn s] (bn (tJ s)):=by
 refine VC.body func17 rfl ntmps17 aS fun X0 w0 aZ=>?_;simp only[maxLen] at hs;refine af [0] ?_;refine bY ?_;refine bg [0,3] ?_;refine af [0,3,4] ?_;refine CD.block ?_;refine mR (fun (E:Nat×Option Addr×Nat×List ah) aI=>match E with|(k,O,U,Sb)=>(k≤s.size)∧(k≤6)∧(bz 5 1 (((s.data.toList.take k).map wb).flatMap cB) ((s.data.toList.take k).map wb).length O U Sb)∧aI=(⟨28,[(0,bn s),(3,aR O ((s.data.toList.take k).map wb).length U),(4,ae (k:Nat))],(Sb)⟩:St)) (fun (E:Nat×Option Addr×Nat×List ah)=>match E with|(k,O,U,Sb)=>s.size-k) (0,none,0,[]) ⟨(Nat.zero_le _),(Nat.zero_le _),(bz.cast iI kV),rfl⟩ (aQ (h:=by repeat (first|exact trivial|refine⟨(by (repeat (first|exact fD|(apply fX;focus (first|rfl|(simp;done)|(congr 2;omega)|(apply eO;exact Is Z)|(apply eO;simp;done)))|(apply fH;focus rfl)));done),?_⟩))) ?_;rintro⟨k,O,U,Sb⟩ _ ⟨hk,h6,oX,rfl⟩;refine aD 5 ?_;refine bX 9 (fun MY ah3=>?_) (fun MY ah3=>?_)
 ·refine bg [0,3,4,12] ?_;refine au ?_ ?_<;>intro aN bC
  ·refine dN 2 ?_;have Z:k<s.size:=(by omega)
   have xB:s[k]?=some (l5 s k):=JG Z;refine aE 1 ?_;refine bH (Hx rfl ot ot runUnderlying9 rfl (by first|assumption|rfl)) ?_;refine bH (c8 rfl ot bL (I1 w4)) ?_;refine bH (c8 (r:=.int .u8 ((wb (l5 s k)).toNat:Int)) rfl bL ot (ko (ada _))) ?_;refine ez (cf 0 [_]) [.int .u8 0] [_] zeroValue5 runUnderlying88 sizeOf5 (fun CW=>?_);refine fP 0 21 1 1 ?_;refine OD.ew (ls:=((s.data.toList.take k).map wb)) (new:=[wb (l5 s k)]) (Sq:=Sb) pz wz ap rfl rfl underlying88 Z0 rfl w7 ot oX (dD (A:=[])) ot bu vy iq (fun MZ I ah4 ah5=>?_);refine OD.perm (ee (S1:=[⟨MZ,5,I*1,flatMap cB (((s.data.toList.take k).map wb)++[wb (l5 s k)])⟩]) (A:=[])) ?_;refine an 28 [0,3,4] ?_;refine cm [0,3,4] ?_;refine⟨((k+1),(some ⟨MZ,0,none⟩),I,[⟨MZ,5,I*1,flatMap cB (((s.data.toList.take k).map wb)++[wb (l5 s k)])⟩]),_,cD,(aQ (h:=by repeat (first|exact trivial|refine⟨(by (repeat (first|exact fD|(apply fX;focus (first|rfl|(simp;done)|(congr 2;omega)|(apply eO;exact Is Z)|(apply eO;simp;done)))|(apply fH;focus rfl)));done),?_⟩))),w4,w4,(bz.cast (bF ah4 ah5) (by exact Is Z)),rfl⟩
  refine af [3,25] ?_;refine au ?_ ?_<;>intro aY cz
  ·refine af [2] ?_;refine eR ?_;exact Mk
  refine aD 1 ?_;refine OD.ij (t:=26) (Sq:=Sb) lk oX (cn pz _) (dD (A:=[])) ?_;refine bH CN ?_;refine an 28 [2] ?_;refine aJ [] ?_;exact Mk
 refine bg [0,3,4,12] ?_;refine fT ?_;refine af [3,25] ?_;refine au ?_ ?_<;>intro aY cz
 ·refine af [2] ?_;refine eR ?_;exact Mk
 refine aD 1 ?_;refine OD.ij (t:=26) (Sq:=Sb) lk oX (cn pz _) (dD (A:=[])) ?_;refine bH CN ?_;refine an 28 [2] ?_;refine aJ [] ?_;refine⟨vs ?_,rfl⟩;have Aa:k=s.size∨6≤k:=(by omega)
 have KG:min k s.size=k:=Nat.min_eq_left hk;simp only[length_map,length_take,lg,KG] at *;unfold tJ r9;first|(rw[if_pos w4];done)|(rw[if_neg w4,PW hk Aa h6])
abbrev MarksTab(w:World):Prop:=Tab.mD w 3 marksC

end Go.Proofs.YtdgichenhdikgaaGreatDoor.Nm
namespace Go.Proofs.YtdgichenhdikgaaGreatDoor.Pk
open List
open Go.Proofs.Tryz
open Go.RowKit V
def eu(n m:Int):Int:=if n<0 then (-(n+1)).tmod m else n.tmod m
theorem ke(n:Int){m:Int}(h:1≤m):0≤eu n m∧eu n m<m:=by
 have key:∀k:Int,0≤k→0≤k.tmod m∧k.tmod m<m:=fun k hk=>⟨Int.tmod_nonneg _ hk,Int.tmod_lt_of_pos _ w4⟩
 unfold eu;split
 ·exact key _ w4
 exact key _ w4
variable (G:List (Nat×List Value))
theorem lf(n m:Int)(hn:-9223372036854775808≤n)(iX:n≤9223372036854775807)(hm:1≤m):VP Tryz.prog G 21 [ae n,ae m] (ae (eu n m)):=by
 refine VC.body func21 rfl ntmps21 aS fun X0 w0 aZ=>?_;refine af [0,1] ?_;refine af [0,1,6] ?_;refine au ?_ ?_<;>intro aN bC
 ·refine iF [0,1] ?_;refine aU 2 ?_ (h:=by exact(Et rfl ot (JE (r:=-(n+1)) (by rw[wrap_i64]<;>omega))));refine bG ?_;refine cQ [4] ?_;refine aU 2 ?_ (h:=by exact(c8 rfl ot ot (I1 w4)));refine bG ?_;refine aJ [] ?_;exact⟨by unfold eu;split<;>first|rfl|omega,rfl⟩
 refine cQ [4] ?_;refine aU 2 ?_ (h:=by exact(c8 rfl ot ot (I1 w4)));refine bG ?_;refine aJ [] ?_;exact⟨by unfold eu;split<;>first|rfl|omega,rfl⟩

end Go.Proofs.YtdgichenhdikgaaGreatDoor.Pk
namespace Go.Proofs.YtdgichenhdikgaaGreatDoor.Nm
open List
open Go.Proofs.Tryz
open Go.RowKit V Pk
variable {l:List UInt8}
theorem mk_data(l:List UInt8):(⟨l.toArray⟩:ByteArray).data.toList=l:=rfl
theorem I5(l:List UInt8):(⟨l.toArray⟩:ByteArray).size=l.length:=by rw[←lg]
theorem Z1(s:ByteArray):1≤(r9 s).length∧(r9 s).length≤6:=by
 unfold r9;split
 ·exact⟨by decide,by decide⟩
 rw[length_map,length_take,lg];omega
theorem Y8(s:ByteArray):∀c∈r9 s,97≤c.toNat∧c.toNat≤122:=by
 intro c hc;unfold r9 at hc;split at hc
 ·simp only[mem_singleton] at hc;subst hc;decide
 obtain⟨b,_,rfl⟩:=mem_map.1 hc;rw[TG];have:b.toNat % 26<26:=Nat.mod_lt _ w7;omega
theorem NZ{p:UInt8→Bool}:∀{l:List UInt8},(∀c∈l,p c=true)→l.takeWhile p=l
 | [],_=>rfl
 | a::l,h=>by rw[takeWhile_cons,if_pos (h a mem_cons_self),NZ fun c hc=>h c (mem_cons_of_mem _ hc)]
theorem N3{c:UInt8}(h:97≤c.toNat∧c.toNat≤122):wg c=true:=by unfold wg;exact decide_eq_true (.inl h)
theorem abC(h1:1≤l.length)(h:∀c∈l,97≤c.toNat∧c.toNat≤122):n8 ⟨l.toArray⟩=true:=by
 unfold n8 Fx;rw[I5,mk_data,NZ fun c hc=>by unfold wH;rw[N3 (h c hc)];rfl];have h0:l5 ⟨l.toArray⟩ 0∈l:=by
  exact UQ
 rw[N3 (h _ h0)];have:l.length≠0:=(by omega)
 simp[this]
theorem YK:∀x∈uS,(l5 x 0).toNat≤90:=by decide
theorem Y9(h1:1≤l.length)(h:∀c∈l,97≤c.toNat∧c.toNat≤122):uS.any (jh ⟨l.toArray⟩)=false:=by
 rw[any_eq_false];intro x hx he;have he:=wi.1 he;have h0:l5 ⟨l.toArray⟩ 0∈l:=by
  exact UQ
 have:=h _ h0;have h2:=YK x hx;rw[←he] at h2;omega
theorem rQ(h1:1≤l.length)(E:l.length≤8)(h:∀c∈l,97≤c.toNat∧c.toNat≤122):cU ⟨l.toArray⟩=0:=by
 unfold cU;rw[I5,if_neg w4,abC h1 h,Y9 h1 h];rfl
theorem Oj(s:ByteArray):1≤(tJ s).size∧(tJ s).size≤6:=by unfold tJ;rw[I5];exact Z1 s
variable {G:List (Nat×List Value)}
abbrev WordsTab(w:World):Prop:=Tab.mD w 1 wordsC

end Go.Proofs.YtdgichenhdikgaaGreatDoor.Nm
namespace Go.Proofs.YtdgichenhdikgaaGreatDoor.Vl
open List
open Go.Proofs.Tryz
open Go.RowKit V Pk
structure Vl where
 k:Int
 n:Int
 s:ByteArray
def cV(v:Vl):List D:=[ae v.k,ae v.n,bn v.s]
theorem fq(v:Vl):(cV v).length=3:=rfl
theorem E7(v:Vl):(cV v).all V.one=true:=rfl
structure Vl.Ok (v:Vl):Prop where
 k1:-9223372036854775808≤v.k
 k2:v.k≤9223372036854775807
 n1:-9223372036854775808≤v.n
 n2:v.n≤9223372036854775807
 s:v.s.size≤maxLen
def bQ:Vl:=⟨0,0,⟨#[]⟩⟩
def dH(v:Vl):Int :=
 if v.k=0 then (if v.n≠0∨v.s.size≠0 then 6 else 0)
 else if v.k=1 then (if v.n<0∨v.n>1∨v.s.size≠0 then 6 else 0)
 else if v.k=2 then (if v.s.size≠0 then 6 else 0)
 else if v.k=3 then (if v.n≠0 then 6 else if v.s.size>20 then 1 else 0)
 else 2
theorem Ke(x y:Vl):∀w,(Op.equalIn 10000 41 (.agg [.int .i64 x.k,.int .i64 x.n,.string x.s].toArray) (.agg [.int .i64 y.k,.int .i64 y.n,.string y.s].toArray)).run Tryz.prog w = .ok (x.k==y.k&&(x.n==y.n&&x.s.toList==y.s.toList)) w:=fun w=>by
 have hS:Tryz.prog.underlying 41=some (.struct (Tryz.prog.fieldsOf 41)):=(by kernel_rfl)
 have hp:Tryz.prog.stoodInHeld 41=false:=(by kernel_rfl)
 rw[show(10000:Nat)=9999+1 from rfl,run_equalIn_agg w 9999 41 _ _ hS hp];have u:=underlying41;have E:=underlying3;have I:=underlying9;have O:=isAgg3;have U:=isAgg9;have Z:=sizeOf3;have z9:=sizeOf9;simp only[Program.fieldsOf,u];go_simp
 by_cases h1:x.k=y.k<;>by_cases h2:x.n=y.n<;>by_cases h3:x.s.toList=y.s.toList<;>simp[h1,h2,h3]
theorem Vl.ext'{x y:Vl}(h1:x.k=y.k)(h2:x.n=y.n)(h3:x.s=y.s):x=y:=by cases x;cases y;simp only at h1 h2 h3;subst h1 h2 h3;rfl
def GV(x y:Vl):Bool:=x.k==y.k&&(x.n==y.n&&x.s.toList==y.s.toList)
theorem adb{x y:Vl}:GV x y=true↔x=y:=by
 unfold GV;rw[Bool.and_eq_true,Bool.and_eq_true,beq_iff_eq,beq_iff_eq];constructor
 ·rintro⟨h1,h2,h3⟩;exact Vl.ext' h1 h2 (wi.1 h3)
 rintro rfl;exact⟨rfl,rfl,wi.2 rfl⟩
def nl(s:ByteArray)(m:Nat):ByteArray:=s.extract 0 (min s.size m)
def py(r:Vl):Vl :=
 if eu r.k 4=1 then ⟨1,eu r.n 2,⟨#[]⟩⟩
 else if eu r.k 4=2 then ⟨2,r.n,⟨#[]⟩⟩
 else if eu r.k 4=3 then ⟨3,0,nl r.s 10⟩
 else bQ
theorem HO(s:ByteArray)(m:Nat):(nl s m).data.toList=s.data.toList.take m:=by
 unfold nl;rw[ByteArray.data_extract,Array.toList_extract];simp only[extract_eq_take_drop,drop_zero,Nat.sub_zero];rw[←lg];rcases Nat.le_total s.data.toList.length m with h|h
 ·rw[Nat.min_eq_left h,take_length,take_of_length_le h]
 rw[Nat.min_eq_right h]
theorem Ec(s:ByteArray)(m:Nat):(nl s m).size=min s.size m:=by
 rw[←lg,HO,length_take,lg,Nat.min_comm]
variable {G:List (Nat×List Value)}
theorem pn(v:Vl):VP Tryz.prog G 55 [.agg (cV v)] (ae (dH v)):=by
 refine VC.body func55 rfl ntmps55 aS fun X0 w0 aZ=>?_;unfold cV;refine bY ?_;refine OD.box (ds:=[_,_,_]) ap rfl rfl ot rfl rfl (fun b1=>?_);refine an 44 [1] ?_;refine af [1,4] ?_;refine af [1,4,5] ?_;refine au ?_ ?_<;>intro aN bC
 ·refine aD 4 ?_;refine bX 10 (fun U E=>?_) (fun U E=>?_)
  ·refine bg [14] ?_;refine eM ?_;exact z130
  refine bg [14] ?_;refine au ?_ ?_<;>intro aY cz
  ·exact z130
  exact z130
 refine af [1,4,15] ?_;refine au ?_ ?_<;>intro bZ cM
 ·refine aD 4 ?_;refine bX 20 (fun Z I=>?_) (fun Z I=>?_)
  ·refine bg [29] ?_;refine eM ?_;exact z130
  refine aE 5 ?_;refine bX 25 (fun ah6 O=>?_) (fun ah6 O=>?_)
  ·refine bg [29] ?_;refine eM ?_;exact z130
  refine bg [29] ?_;refine au ?_ ?_<;>intro cW ek
  ·exact z130
  exact z130
 refine af [1,4,30] ?_;refine au ?_ ?_<;>intro eA fA
 ·refine af [34] ?_;refine au ?_ ?_<;>intro fx gG
  ·exact BM
  exact BM
 refine af [1,35] ?_;refine au ?_ ?_<;>intro gX kO
 ·refine af [1,39] ?_;refine au ?_ ?_<;>intro gv lp
  ·exact BM
  refine af [43] ?_;refine au ?_ ?_<;>intro pQ F1
  ·exact BM
  exact BM
 refine af [2] ?_;refine aJ [] ?_;refine⟨vi ?_,rfl⟩;try simp only[uK] at *
 unfold dH;simp_all;try omega
theorem Bc(s:ByteArray)(m:Nat)(hs:s.size≤maxLen):VP Tryz.prog G 16 [bn s,ae (m:Int)] (bn (nl s m)):=by
 refine VC.body func16 rfl ntmps16 aS fun X0 w0 aZ=>?_;simp only[maxLen] at hs;refine af [0,1] ?_;refine cQ [4] ?_;refine aU 4 ?_ (h:=by exact(Yp (r:=.int .i64 ((min s.size m:Nat):Int)) rfl ot ot (fun cs w=>(aeQ cs w).trans (by split<;>(congr 3;omega)))));refine aU 0 ?_ (h:=by exact(ei (l:=0) rfl ot trivial ⟨_,ot⟩ (by first|exact aeS (fun _=>rfl) (fun h=>by cases h) runUnderlying9 w4 w4)));refine bG ?_;refine aJ [] ?_;exact⟨by first|rfl|(simp[*];done),rfl⟩
theorem PZ(r:Vl)(h:r.Ok):VP Tryz.prog G 53 [.agg (cV r)] (.agg (cV (py r))):=by
 refine VC.body func53 rfl ntmps53 aS fun X0 w0 aZ=>?_;unfold cV;refine bY ?_;refine OD.box (ds:=[_,_,_]) ap rfl rfl ot rfl rfl (fun b1=>?_);refine OD.alloc (ds:=[_,_,_]) ap rfl rfl zeroValue41 rfl (fun b2=>?_);refine an 29 [1,2] ?_;refine cH [1,2,3] (lf G r.k 4 h.k1 h.k2 w7) ?_;refine af [1,2,3,7] ?_;refine af [1,2,3,7,8] ?_;refine au ?_ ?_<;>intro aN bC
 ·refine aD 3 ?_;refine dS call21 (lf G r.n 2 h.n1 h.n2 w7) ?_;refine aE 1 ?_;exact Mn
 refine af [1,2,3,7,15] ?_;refine au ?_ ?_<;>intro aY cz
 ·refine aD 4 ?_;exact Mn
 refine af [1,2,3,21] ?_;refine au ?_ ?_<;>intro bZ cM
 ·refine aD 3 ?_;refine dS call16 (Bc r.s 10 h.s) ?_;refine aE 1 ?_;exact Mn
 refine aD 1 ?_;refine aP 0 [_,_,_] sizeOf41 ?_;refine an 29 [2] ?_;refine aJ [] ?_;refine⟨?_,rfl⟩;unfold py bQ;simp_all

end Go.Proofs.YtdgichenhdikgaaGreatDoor.Vl
namespace Go.Proofs.YtdgichenhdikgaaGreatDoor.Nm
open List
open Go.Proofs.Tryz
open Go.RowKit V Pk Vl
variable {i:Nat} {h:Int}
theorem Ke(x y:Vl):∀w,(Op.equalIn 10000 41 (.agg [.int .i64 x.k,.int .i64 x.n,.string x.s].toArray) (.agg [.int .i64 y.k,.int .i64 y.n,.string y.s].toArray)).run Tryz.prog w = .ok (x.k==y.k&&(x.n==y.n&&x.s.toList==y.s.toList)) w:=fun w=>by
 have hS:Tryz.prog.underlying 41=some (.struct (Tryz.prog.fieldsOf 41)):=(by kernel_rfl)
 have hp:Tryz.prog.stoodInHeld 41=false:=(by kernel_rfl)
 rw[show(10000:Nat)=9999+1 from rfl,run_equalIn_agg w 9999 41 _ _ hS hp];have u:=underlying41;have E:=underlying3;have I:=underlying9;have O:=isAgg3;have U:=isAgg9;have Z:=sizeOf3;have z9:=sizeOf9;simp only[Program.fieldsOf,u];go_simp
 by_cases h1:x.k=y.k<;>by_cases h2:x.n=y.n<;>by_cases h3:x.s.toList=y.s.toList<;>simp[h1,h2,h3]
def iU(v:Vl):Int:=if v.k=2∧v.n = -9223372036854775808 then 3 else dH v
structure aX where
 k:Int
 v:Vl
 nm:ByteArray
variable {l:List aX}
def cO(o:aX):List D:=[ae o.k,ae o.v.k,ae o.v.n,bn o.v.s,bn o.nm]
theorem mY(o:aX):(cO o).length=5:=rfl
theorem JD(o:aX):(cO o).all V.one=true:=rfl
def bP(k:Int):Int:=if k=1∨k=2 then 0 else if k=5∨k=11 then 1 else 2
theorem tr(k:Int):0≤bP k∧bP k≤2:=by unfold bP;split<;>(try split)<;>omega
def zeroV(v:Vl):Bool:=v.k==0&&(v.n==0&&v.s.toList==(⟨#[]⟩:ByteArray).toList)
def fj(h:Int)(o:aX):Int :=
 if o.k<1∨o.k>11 then 2
 else if iU o.v≠0 then iU o.v
 else if ((o.k != 1 && !(zeroV o.v))||(o.k != 2 && !(o.nm.toList==(⟨#[]⟩:ByteArray).toList)))=true then 6
 else if o.k=2∧cU o.nm≠0 then cU o.nm
 else if h<bP o.k then 7 else 0
def fK:Int→List aX→Int
 | h,[]=>if h=1 then 0 else 7
 | h,o::r=>if fj h o=0 then fK (h+(1-bP o.k)) r else fj h o
def iT(l:List aX):Int:=if l.length>40 then 10 else fK 0 l
theorem PT(hi:i<l.length)(he:fj h l[i]=0):fK h (l.drop i)=fK (h+(1-bP l[i].k)) (l.drop (i+1)):=by
 rw[drop_eq_getElem_cons hi,fK,if_pos he]
theorem PS{e:Int}(hi:i<l.length)(he:fj h l[i]=e)(h0:e≠0):fK h (l.drop i)=e:=by
 rw[drop_eq_getElem_cons hi,fK,if_neg (by rw[he];exact h0),he]
theorem OU(hi:l.length≤i):fK h (l.drop i)=if h=1 then 0 else 7:=by
 rw[drop_of_length_le hi,fK]
variable {G:List (Nat×List Value)}
theorem Ol(v:Vl):VP Tryz.prog G 114 [.agg (cV v)] (ae (iU v)):=by
 refine VC.body func114 rfl ntmps114 aS fun X0 w0 aZ=>?_;unfold cV;refine bY ?_;refine OD.box (ds:=[_,_,_]) ap rfl rfl ot rfl rfl (fun b1=>?_);refine an 13 [1] ?_;refine aD 4 ?_;refine bX 6 (fun I E=>?_) (fun I E=>?_)
 ·refine bg [1,10] ?_;refine au ?_ ?_<;>intro aN bC
  ·refine af [2] ?_;refine eR ?_;refine⟨vi ?_,rfl⟩;unfold iU;simp_all
  refine cH [2] (Vl.pn v) ?_;refine eR ?_;refine⟨vi ?_,rfl⟩;unfold iU;simp_all
 refine bg [1,10] ?_;refine fT ?_;refine cH [2] (Vl.pn v) ?_;refine eR ?_;refine⟨vi ?_,rfl⟩;unfold iU;simp_all
theorem yA(k:Int):VP Tryz.prog G 116 [ae k] (ae (bP k)):=by
 refine VC.body func116 rfl ntmps116 aS fun X0 w0 aZ=>?_;exact We
theorem I6(hm:(3,marksC)∈G)(hw:(1,wordsC)∈G)(l:List aX)(hs:∀o∈l,o.nm.size≤maxLen):VP Tryz.prog G 70 [av 5 cO l] (ae (iT l)):=by
 refine VC.body func70 rfl ntmps70 aS fun X0 w0 aZ=>?_;have hlx:l.length≤40∨40<l.length:=(by omega)
 refine af [0] ?_;refine af [0,10] ?_;refine au ?_ ?_<;>intro aN bC
 ·have hf:iT l=10:=if_pos w4;exact KN
 have hf:iT l=fK 0 l:=if_neg w4;have pW:l.length≤40:=(by omega)
 refine af [0,3] ?_;refine af [3,11,12,13] ?_;refine eK [11,12] (fun aW _ (I:Nat×Int) aI=>match I with|(i,h)=>(i≤l.length)∧(fK 0 l=fK h (l.drop i))∧(0≤h)∧(h≤i)∧aI=(⟨73,(3,ae h)::(13,ae (i:Nat))::aW,[]⟩:St)) (fun (I:Nat×Int)=>match I with|(i,h)=>l.length-i) (0,0) ⟨(Nat.zero_le _),rfl,(Int.le_refl _),(Int.le_refl _),rfl⟩ ?_;rintro⟨i,h⟩ _ ⟨hi,hx,h0,hh,rfl⟩;refine af [3,11,12,13,14] ?_;refine au ?_ ?_<;>intro aY cz
 ·have aa:i<l.length:=(by omega)
  have CX:=tr l[i].k;refine aD 2 ?_;refine OD.alloc (ds:=[_,_,_,_,_]) ap rfl rfl zeroValue43 rfl (fun b5=>?_);refine aP 0 [_,_,_,_,_] sizeOf43 ?_;refine an 73 [3,5,11,12,13] ?_;refine aD 4 ?_;refine bX 20 (fun ah7 U=>?_) (fun ah7 U=>?_)
  ·refine bg [3,5,11,12,13,24] ?_;refine eM ?_;have qp:fj h l[i]=2:=(by unfold fj;rw[if_pos w4])
   exact FV
  refine bg [3,5,11,12,13,24] ?_;refine au ?_ ?_<;>intro bZ cM
  ·have qp:fj h l[i]=2:=(by unfold fj;rw[if_pos w4])
   exact FV
  have dO:¬(l[i].k<1∨l[i].k>11):=(by omega)
  refine cH [3,5,6,11,12,13] (Ol l[i].v) ?_;refine af [3,5,6,11,12,13,29] ?_;refine au ?_ ?_<;>intro cW ek
  ·have u9:iU l[i].v≠0:=(by simpa using cW)
   have qp:fj h l[i]=iU l[i].v:=(by unfold fj;rw[if_neg dO,if_pos u9])
   exact FV
  have u9:iU l[i].v=0:=(by simpa using cW)
  refine aD 4 ?_;refine bX 34 (fun ah8 Z=>?_) (fun ah8 Z=>?_)
  ·refine aE 3 ?_;refine OD.still iu rfl (OL (us:=[_,_,_]) (Mx:=[_,_,_]) rfl ot ot eqGuardType41 (Ke l[i].v ⟨0,0,⟨#[]⟩⟩)) ?_;refine aE 2 ?_;refine bX 40 (fun KL J8=>?_) (fun KL J8=>?_)
   ·refine an 73 [3,5,11,12,13,49] ?_;refine eM ?_;exact z148
   refine aE 4 ?_;refine bX 44 (fun O E=>?_) (fun O E=>?_)
   ·refine an 73 [3,5,11,12,13,49] ?_;refine au ?_ ?_<;>intro eA fA
    ·exact z148
    exact UU
   refine an 73 [3,5,11,12,13,49] ?_;refine fT ?_;exact UU
  refine xI 4 ?_;refine aE 6 ?_;refine bX 44 (fun O E=>?_) (fun O E=>?_)
  ·refine bg [3,5,11,12,13,49] ?_;refine au ?_ ?_<;>intro eA fA
   ·have qp:fj h l[i]=6:=(by unfold fj zeroV;rw[if_neg dO,if_neg ud,if_pos (by simp_all)])
    exact FV
   exact UW
  refine bg [3,5,11,12,13,49] ?_;refine fT ?_;exact UW
 have ff:=hx.trans (OU (show l.length≤i by omega));refine af [72] ?_;refine au ?_ ?_<;>intro pQ F1
 ·exact KN
 refine af [2] ?_;refine aJ [] ?_;refine⟨vi ?_,rfl⟩;first|exact hf.symm|(rw[hf,hx,PS aa qp (by first|assumption|decide)];done)|(rw[hf,ff,if_pos (by simpa using pQ)];done)|(rw[hf,ff,if_neg (by simpa using pQ)];done)

end Go.Proofs.YtdgichenhdikgaaGreatDoor.Nm
namespace Go.Proofs
open Go.Shelf
def Tryz.YL:Go.Shelf.Ren:=⟨fun|106=>137|213=>155|265=>164|n=>n,fun|9=>9|3=>3|n=>n,fun|n=>n⟩
theorem Tryz.ade:Go.Proofs.Lays.n106 Tryz.prog Tryz.YL:={
 mixed:=by kernel_rfl
 f106:=Tryz.func137.trans (congrArg some (by kernel_rfl))
 f213:=Tryz.func155.trans (congrArg some (by kernel_rfl))
 f265:=Tryz.func164.trans (congrArg some (by kernel_rfl))
 t3:=Tryz.underlying3
 a3:=Tryz.isAgg3
 z3:=Tryz.sizeOf3
 v3:=Tryz.zeroValue3
 t9:=Tryz.underlying9
 a9:=Tryz.isAgg9
 z9:=Tryz.sizeOf9
 v9:=Tryz.zeroValue9}
open Go.RowKit in
theorem Tryz.strings_Compare(a b:ByteArray)(w:World) :
  Calls Tryz.prog 137 #[.string a,.string b] w fun e w'=>e = .returned (.int .i64 (Lib.compareBytes a.data.toList b.data.toList))∧w'=w:=Any.strings_Compare Tryz.ade a b w
def Tryz.N9:Go.Shelf.Ren:=⟨fun|155=>143|154=>156|138=>165|165=>166|143=>167|166=>168|197=>169|169=>170|195=>174|218=>175|240=>176|241=>177|219=>178|260=>179|276=>180|277=>181|217=>182|225=>183|224=>184|267=>185|266=>186|314=>187|n=>n,fun|9=>9|3=>3|4=>4|72=>237|0=>0|76=>241|105=>243|21=>21|5=>5|70=>235|20=>20|37=>88|75=>240|127=>250|164=>251|46=>231|119=>254|139=>257|138=>256|146=>259|51=>258|80=>245|n=>n,fun|1=>2|3=>4|4=>5|n=>n⟩
theorem Tryz.adf:Go.Proofs.Lays.n155 Tryz.prog Tryz.N9:={
 mixed:=by kernel_rfl
 f138:=Tryz.func165.trans (congrArg some (by kernel_rfl))
 f143:=Tryz.func167.trans (congrArg some (by kernel_rfl))
 f154:=Tryz.func156.trans (congrArg some (by kernel_rfl))
 f155:=Tryz.func143.trans (congrArg some (by kernel_rfl))
 f165:=Tryz.func166.trans (congrArg some (by kernel_rfl))
 f166:=Tryz.func168.trans (congrArg some (by kernel_rfl))
 f169:=Tryz.func170.trans (congrArg some (by kernel_rfl))
 f195:=Tryz.func174.trans (congrArg some (by kernel_rfl))
 f197:=Tryz.func169.trans (congrArg some (by kernel_rfl))
 f217:=Tryz.func182.trans (congrArg some (by kernel_rfl))
 f218:=Tryz.func175.trans (congrArg some (by kernel_rfl))
 f219:=Tryz.func178.trans (congrArg some (by kernel_rfl))
 f224:=Tryz.func184.trans (congrArg some (by kernel_rfl))
 f225:=Tryz.func183.trans (congrArg some (by kernel_rfl))
 f240:=Tryz.func176.trans (congrArg some (by kernel_rfl))
 f241:=Tryz.func177.trans (congrArg some (by kernel_rfl))
 f260:=Tryz.func179.trans (congrArg some (by kernel_rfl))
 f266:=Tryz.func186.trans (congrArg some (by kernel_rfl))
 f267:=Tryz.func185.trans (congrArg some (by kernel_rfl))
 f276:=Tryz.func180.trans (congrArg some (by kernel_rfl))
 f277:=Tryz.func181.trans (congrArg some (by kernel_rfl))
 f314:=Tryz.func187.trans (congrArg some (by kernel_rfl))
 t0:=Tryz.underlying0
 a0:=Tryz.isAgg0
 z0:=Tryz.sizeOf0
 v0:=Tryz.zeroValue0
 t3:=Tryz.underlying3
 a3:=Tryz.isAgg3
 z3:=Tryz.sizeOf3
 v3:=Tryz.zeroValue3
 t4:=Tryz.underlying4
 a4:=Tryz.isAgg4
 z4:=Tryz.sizeOf4
 v4:=Tryz.zeroValue4
 t5:=Tryz.underlying5
 a5:=Tryz.isAgg5
 z5:=Tryz.sizeOf5
 v5:=Tryz.zeroValue5
 t9:=Tryz.underlying9
 a9:=Tryz.isAgg9
 z9:=Tryz.sizeOf9
 v9:=Tryz.zeroValue9
 t20:=Tryz.underlying20
 a20:=Tryz.isAgg20
 z20:=Tryz.sizeOf20
 v20:=Tryz.zeroValue20
 t21:=Tryz.underlying21
 a21:=Tryz.isAgg21
 z21:=Tryz.sizeOf21
 v21:=Tryz.zeroValue21
 t37:=Tryz.underlying88
 a37:=Tryz.isAgg88
 z37:=Tryz.sizeOf88
 v37:=Tryz.zeroValue88
 t46:=Tryz.underlying231
 a46:=Tryz.isAgg231
 z46:=Tryz.sizeOf231
 v46:=Tryz.zeroValue231
 t51:=Tryz.underlying258
 a51:=Tryz.isAgg258
 z51:=Tryz.sizeOf258
 v51:=Tryz.zeroValue258
 t70:=Tryz.underlying235
 a70:=Tryz.isAgg235
 z70:=Tryz.sizeOf235
 v70:=Tryz.zeroValue235
 t72:=Tryz.underlying237
 a72:=Tryz.isAgg237
 z72:=Tryz.sizeOf237
 v72:=Tryz.zeroValue237
 t75:=Tryz.underlying240
 a75:=Tryz.isAgg240
 z75:=Tryz.sizeOf240
 v75:=Tryz.zeroValue240
 t76:=Tryz.underlying241
 a76:=Tryz.isAgg241
 z76:=Tryz.sizeOf241
 v76:=Tryz.zeroValue241
 t105:=Tryz.underlying243
 a105:=Tryz.isAgg243
 z105:=Tryz.sizeOf243
 v105:=Tryz.zeroValue243
 t119:=Tryz.underlying254
 a119:=Tryz.isAgg254
 z119:=Tryz.sizeOf254
 t127:=Tryz.underlying250
 a127:=Tryz.isAgg250
 z127:=Tryz.sizeOf250
 v127:=Tryz.zeroValue250
 t138:=Tryz.underlying256
 a138:=Tryz.isAgg256
 z138:=Tryz.sizeOf256
 v138:=Tryz.zeroValue256
 t139:=Tryz.underlying257
 a139:=Tryz.isAgg257
 z139:=Tryz.sizeOf257
 v139:=Tryz.zeroValue257
 t146:=Tryz.underlying259
 a146:=Tryz.isAgg259
 z146:=Tryz.sizeOf259
 v146:=Tryz.zeroValue259
 t164:=Tryz.underlying251
 a164:=Tryz.isAgg251
 z164:=Tryz.sizeOf251
 v164:=Tryz.zeroValue251
 g1:=by kernel_rfl
 g3:=by kernel_rfl
 g4:=by kernel_rfl}
theorem Tryz.X5:Builder.Extra Tryz.prog Tryz.N9:={
 sizeBuilder:=by kernel_rfl
 liesBuilder:=by kernel_rfl
 t5:=Tryz.underlying5
 a5:=Tryz.isAgg5
 z5:=Tryz.sizeOf5
 v5:=Tryz.zeroValue5
 infoByte:=by kernel_rfl
 cellsByte:=by kernel_rfl
 sizeByte:=by kernel_rfl
 neB5:=by decide}
open Go.RowKit Go.Lib in
theorem Tryz.strings_ReplaceAll(s old new:ByteArray)(m:Int)(w:World)(hs:s.size<4294967281)(hm:w.cell? ⟨2,0,none⟩=some (.int .i64 m))(h1:1≤old.size)(hlen:s.size+Lib.countB s old*new.size≤140737488355328) :
  Calls Tryz.prog 143 #[.string s,.string old,.string new] w fun e w' =>
   e = .returned (.string ⟨(Lib.replaceAll s.data.toList old.data.toList new.data.toList).toArray⟩)∧Below w.heap.size w w':=Any.strings_ReplaceAll Tryz.adf Tryz.X5 s old new m w hs hm h1 hlen

end Go.Proofs
namespace Go.Proofs.YtdgichenhdikgaaGreatDoor.Cd
open List
open Go.Proofs.Tryz
open Go.RowKit V Pk Vl
variable {v:Vl}
theorem Qh(c:UInt8)(new:List UInt8):∀s:List UInt8,Lib.replaceK [c] new (s.count c) s=s.flatMap fun b=>if b=c then new else [b]
 | []=>rfl
 | b::l=>by
  have I:=Qh c new l;by_cases h:b=c
  ·subst h;have hi:Lib.index (b::l) [b]=((0:Nat):Int):=(by rw[Lib.index_one];simp[Lib.indexByte])
   rw[count_cons_self,Lib.replaceK_hit _ _ _ _ _ hi,flatMap_cons,if_pos rfl,←I];simp
  have hc:(b::l).count c=l.count c:=count_cons_of_ne h;rw[hc,flatMap_cons,if_neg h,←I];cases hk:l.count c with
  | zero=>rfl
  | succ k =>
   obtain⟨i,hi⟩:=Lib.index_of_count (s:=l) (old:=[c]) (by rw[Lib.count_one];omega);have E:Lib.index (b::l) [c]=((i+1:Nat):Int):=by
    rw[Lib.index_one] at hi ⊢;unfold Lib.indexByte;rw[if_neg oR,hi,if_neg (by rw[beq_iff_eq];omega)];omega
   rw[Lib.replaceK_hit _ _ _ _ _ E,Lib.replaceK_hit _ _ _ _ _ hi];simp
def tK(c:UInt8)(new:List UInt8)(s:ByteArray):ByteArray:=⟨(s.data.toList.flatMap fun b=>if b=c then new else [b]).toArray⟩
theorem YM(c:UInt8)(new s:List UInt8):Lib.replaceAll s [c] new=s.flatMap fun b=>if b=c then new else [b]:=by
 unfold Lib.replaceAll Lib.replace Lib.replaceNum;split
 ·rename_i h;have h':[c]=new:=(by simpa using h)
  subst h';induction s with
  | nil=>rfl
  | cons b l ih =>
   rw[flatMap_cons,←ih];have:(if b=c then [c] else [b])=[b]:=by
    split
    ·rename_i e;rw[e]
    rfl
   rw[this];rfl
 rw[if_pos (.inl w7),Lib.count_one,Qh]
variable {G:List (Nat×List Value)} {m:Int}
theorem adg(hG:(2,[Value.int .i64 m])∈G)(c:UInt8)(new:ByteArray)(s:ByteArray)(hs:s.size≤1000000)(hn:new.size≤1000):VP Tryz.prog G 143 [bn s,bn ⟨#[c]⟩,bn new] (bn (tK c new.data.toList s)):=by
 have hc:Lib.countB s ⟨#[c]⟩≤1000000:=by
  show Lib.count s.data.toList [c]≤1000000;rw[Lib.count_one];exact Nat.le_trans count_le_length (by rw[lg];exact hs)
 have I:Lib.countB s ⟨#[c]⟩*new.size≤1000000*1000:=Nat.mul_le_mul hc hn;have key:=VP.RM (P:=Tryz.prog) (G:=G) (f:=143) (vs:=[.string s,.string ⟨#[c]⟩,.string new]) (v:=.string (tK c new.data.toList s)) fun w E=>by
  refine(Tryz.strings_ReplaceAll s ⟨#[c]⟩ new m w w4 (E _ hG 0 _ rfl) (Nat.le_refl _) w4).mono fun e w' ⟨h1,h2⟩=>⟨?_,h2⟩
  rw[h1];congr 2;show(⟨(Lib.replaceAll s.data.toList [c] new.data.toList).toArray⟩:ByteArray)=_;rw[YM];rfl
 exact key
def kb(v:Vl):UInt8:=UInt8.ofNat v.k.toNat
def nb(v:Vl):UInt8:=UInt8.ofNat v.n.toNat
def uN(v:Vl):Nat:=(v.n+9223372036854775808).toNat
def zo(u k:Nat):UInt8:=UInt8.ofNat (u/256 ^ (7-k))
def mL(u:Nat):List UInt8:=(range 8).map (zo u)
def tV(s:List UInt8):List UInt8:=s.flatMap fun b=>if b=0 then [0,255] else [b]
def sB(v:Vl):List UInt8:=if v.k=1 then [nb v] else if v.k=2 then mL (uN v) else if v.k=3 then tV v.s.data.toList++[0,0] else []
def u7(v:Vl):List UInt8:=kb v::sB v
def gb(l:List Vl):List UInt8:=l.flatMap u7
def sC:List Vl→Int
 | []=>0
 | v::r=>if dH v=0 then sC r else dH v
def ga(l:List Vl):List UInt8×Int:=if l.length>6 then ([],1) else if sC l≠0 then ([],sC l) else if (gb l).length>100 then ([],5) else (gb l,0)
def Bf(b:List UInt8):D:=av 1 cB b
def KY(r:List UInt8×Int):D:=.dF [Bf r.1,ae r.2]
theorem RS:∀{l:List Vl} {i:Nat} (hi:i<l.length),(∀v∈l.take i,dH v=0)→dH l[i]≠0→sC l=dH l[i]
 | v::r,0,hi,_,h=>by
  have h':dH v≠0:=h;show sC (v::r)=dH v;rw[sC,if_neg h']
 | v::r,i+1,hi,h0,h=>by
  rw[sC,if_pos (h0 v bu)];exact RS (l:=r) (i:=i) (by simpa using hi) (fun x hx=>h0 x (by rw[take_succ_cons];exact mem_cons_of_mem _ hx)) h
theorem ES:∀{l:List Vl},(∀v∈l,dH v=0)→sC l=0
 | [],_=>rfl
 | v::r,h=>by rw[sC,if_pos (h v mem_cons_self)];exact ES fun x hx=>h x (mem_cons_of_mem _ hx)
theorem Om(h:dH v=0):0≤v.k∧v.k≤3:=by
 unfold dH at h;split at h
 ·omega
 split at h
 ·omega
 split at h
 ·omega
 split at h
 ·omega
 cases h
theorem On(h:dH v=0)(hk:v.k=1):0≤v.n∧v.n≤1:=by
 unfold dH at h;rw[if_neg w4,if_pos hk] at h;split at h
 ·cases h
 omega
theorem Oo(h:dH v=0)(hk:v.k=3):v.s.size≤20:=by
 unfold dH at h;rw[if_neg w4,if_neg w4,if_neg w4,if_pos hk] at h;split at h
 ·cases h
 split at h
 ·cases h
 omega
theorem ae7(h:dH v=0):((kb v).toNat:Int)=v.k:=by
 have:=Om h;unfold kb;rw[UInt8.toNat_ofNat'];omega
theorem ae8(h:dH v=0)(hk:v.k=1):((nb v).toNat:Int)=v.n:=by
 have:=On h hk;unfold nb;rw[UInt8.toNat_ofNat'];omega
theorem adi(h:dH v=0):IntKind.u8.wrap v.k=((kb v).toNat:Int):=by
 have:=Om h;rw[ae7 h];show v.k % 256=_;omega
theorem adj(h:dH v=0)(hk:v.k=1):IntKind.u8.wrap v.n=((nb v).toNat:Int):=by
 have:=On h hk;rw[ae8 h hk];show v.n % 256=_;omega
theorem ae9(h:v.Ok):((uN v:Nat):Int)=v.n+9223372036854775808:=by have:=h.n1;unfold uN;omega
theorem afa{u k:Nat}(hk:k≤7):(u:Int).fdiv (2 ^ min ((56:Int)-8*(k:Int)).toNat IntKind.u64.bits)=((u/256 ^ (7-k):Nat):Int):=by
 have e1:min ((56:Int)-8*(k:Int)).toNat IntKind.u64.bits=8*(7-k):=by
  show min _ 64=_;omega
 have E:(2 ^ (8*(7-k)):Nat)=256 ^ (7-k):=(by rw[Nat.pow_mul])
 have e2:((2:Int) ^ (8*(7-k)))=((256 ^ (7-k):Nat):Int):=by
  rw[←E,Int.natCast_pow];rfl
 rw[e1,e2];exact(Int.ofNat_fdiv _ _).symm
theorem adk(x:Nat):IntKind.u8.wrap (x:Int)=((UInt8.ofNat x).toNat:Int):=by
 rw[UInt8.toNat_ofNat'];show(x:Int) % 256=_;omega
theorem I7{u k:Nat}(hk:k≤7):(mL u).take k++[zo u k]=(mL u).take (k+1):=by
 have hl:k<(mL u).length:=(by simp[mL];omega)
 rw[take_succ_eq_append_getElem hl];congr 2;simp[mL]
theorem E6(u:Nat):(mL u).length=8:=by simp[mL]
theorem RT(s:List UInt8):(tV s).length≤2*s.length:=by
 induction s with
 | nil=>simp[tV]
 | cons b l ih =>
  unfold tV at ih ⊢;rw[flatMap_cons,length_append,length_cons];split<;>simp only[length_cons,length_nil]<;>omega
theorem ET(h:dH v=0):(u7 v).length≤43:=by
 unfold u7 sB;rw[length_cons];split
 ·simp
 split
 ·rw[E6];omega
 split
 ·rename_i hk;have h1:=Oo h hk;have h2:=RT v.s.data.toList;rw[lg] at h2;rw[length_append];simp;omega
 simp
theorem Ez:∀{l:List Vl},(∀v∈l,dH v=0)→(gb l).length≤43*l.length
 | [],_=>Nat.le_refl _
 | v::r,h=>by
  have h1:=ET (h v mem_cons_self);have h2:=Ez (l:=r) fun x hx=>h x (mem_cons_of_mem _ hx);unfold gb at h2 ⊢;rw[flatMap_cons,length_append,length_cons];omega
theorem OG{l:List Vl}{i:Nat}(hi:i<l.length):gb (l.take i)++u7 l[i]=gb (l.take (i+1)):=by
 unfold gb;rw[take_succ_eq_append_getElem hi,flatMap_append];simp
theorem T8(h:v.k=1):sB v=[nb v]:=if_pos h
theorem T9(h:v.k=2):sB v=mL (uN v):=by unfold sB;rw[if_neg w4,if_pos h]
theorem Ua(h:v.k=3):sB v=tV v.s.data.toList++[0,0]:=by unfold sB;rw[if_neg w4,if_neg w4,if_pos h]
theorem Ub(h1:¬v.k=1)(h2:¬v.k=2)(h3:¬v.k=3):sB v=[]:=by unfold sB;rw[if_neg h1,if_neg h2,if_neg h3]
theorem AN(s:ByteArray):(tK 0 [0,255] s).data.toList=tV s.data.toList:=rfl
def KZ(p:List UInt8×Int)(r:D)(S:List ah):Prop:=∃ad cap,r = .dF [aR ad p.1.length cap,ae p.2]∧bz 5 1 (p.1.flatMap cB) p.1.length ad cap S
theorem KZ.view{p:List UInt8×Int}{r:D}{S:List ah}(h:KZ p r S):View S r (KY p):=by
 obtain⟨ad,cap,rfl,ho⟩:=h;exact Ev ⟨lE ho (cn pz _) (fun B h=>h),eU,trivial⟩
theorem AH:(Tryz.prog.info? 5).map (fun i=>(i.zero,i.size,i.bytes))=some (some (.int .u8 0),1,1):=by kernel_rfl
theorem TH(hG:(2,[Value.int .i64 m])∈G)(l:List Vl)(hl:l.length≤maxLen)(aT:∀v∈l,v.Ok):VC Tryz.prog G 111 [av 3 cV l] [] (KZ (ga l)):=by
 refine VC.body func111 rfl ntmps111 aS fun X0 w0 aZ=>?_;refine af [0] ?_;refine af [0,12] ?_;refine au ?_ ?_<;>intro aN bC
 ·have aV:ga l=([],1):=if_pos w4;exact Mq
 have h6:l.length≤6:=(by omega)
 refine bY ?_;refine bg [0,4] ?_;refine af [4,13,14,15] ?_;refine CD.block ?_;refine mR (fun (E:Nat×Option Addr×Nat×List ah) aI=>match E with|(i,I,O,Sb)=>(i≤l.length)∧(∀v∈l.take i,dH v=0)∧(bz 5 1 ((gb (l.take i)).flatMap cB) (gb (l.take i)).length I O Sb)∧aI=(⟨72,[(4,aR I (gb (l.take i)).length O),(13,av 3 cV l),(14,ae l.length),(15,ae (i:Nat))],(Sb)⟩:St)) (fun (E:Nat×Option Addr×Nat×List ah)=>match E with|(i,I,O,Sb)=>l.length-i) (0,none,0,[]) ⟨(Nat.zero_le _),bu,(bz.cast iI (by rfl)),rfl⟩ (aQ (h:=by repeat (first|exact trivial|refine⟨w6,?_⟩))) ?_;rintro⟨i,I,O,Sb⟩ _ ⟨hi,h0,oX,rfl⟩;refine af [4,13,14,15,16] ?_;refine au ?_ ?_<;>intro aY cz
 ·have aa:i<l.length:=(by omega)
  have MC:=Ez h0;rw[length_take] at MC;have da:=dW;have fU:=aT _ (getElem_mem aa);refine aD 2 ?_;refine OD.alloc (ds:=[_,_,_]) ap rfl rfl zeroValue41 rfl (fun b6=>?_);refine aP 0 [_,_,_] sizeOf41 ?_;refine an 72 [4,6,13,14,15] ?_;refine cH [4,6,7,13,14,15] (Vl.pn l[i]) ?_;refine af [4,6,7,13,14,15,22] ?_;refine au ?_ ?_<;>intro bZ cM
  ·have hne:dH l[i]≠0:=(by simpa using bZ)
   have aV:ga l=([],dH l[i]):=(by unfold ga;rw[if_neg w4,RS aa h0 hne,if_pos hne])
   exact Mq
  have U:dH l[i]=0:=(by simpa using bZ)
  refine aD 3 ?_;refine bH (oF (r:=.int .u8 ((kb l[i]).toNat:Int)) rfl ot (oG runUnderlying3 runUnderlying5 (adi U))) ?_;refine ez (cf 0 [_]) [.int .u8 0] [_] zeroValue5 runUnderlying88 sizeOf5 (fun M1=>?_);refine fP 0 28 1 1 ?_;refine OD.ew (ls:=(gb (l.take i))) (new:=[kb l[i]]) (Sq:=Sb) pz wz ap rfl rfl underlying88 AH rfl w7 ot oX (dD (A:=[_])) ot bu zH zH (fun uv Z F2 F3=>?_);refine OD.perm (ee (S1:=[⟨uv,5,Z*1,flatMap cB ((gb (l.take i))++[kb l[i]])⟩]) (A:=[_])) ?_;refine an 72 [4,6,13,14,15] ?_;refine af [4,6,13,14,15,31] ?_;refine af [4,6,13,14,15,31,32] ?_;refine au ?_ ?_<;>intro cW ek
  ·have dO:l[i].k=1:=(by simpa using cW)
   refine dN 3 ?_;refine bH (oF (r:=.int .u8 ((nb l[i]).toNat:Int)) rfl ot (oG runUnderlying3 runUnderlying5 (adj U dO))) ?_;refine ez (cf 0 [_]) [.int .u8 0] [_] zeroValue5 runUnderlying88 sizeOf5 (fun M2=>?_);refine fP 0 38 1 1 ?_;refine OD.ew (ls:=((gb (l.take i))++[kb l[i]])) (new:=[nb l[i]]) (Sq:=[⟨uv,5,Z*1,flatMap cB ((gb (l.take i))++[kb l[i]])⟩]) pz wz ap rfl rfl underlying88 AH rfl w7 ot (bF F2 F3) (dD (A:=[_])) ot bu zH zH (fun Cy K0 ah9 aia=>?_);refine OD.perm (ee (S1:=[⟨Cy,5,K0*1,flatMap cB (((gb (l.take i))++[kb l[i]])++[nb l[i]])⟩]) (A:=[_])) ?_;refine an 72 [4,13,14,15] ?_;refine cm [4,13,14,15] ?_;refine⟨((i+1),(some ⟨Cy,0,none⟩),K0,[⟨Cy,5,K0*1,flatMap cB (((gb (l.take i))++[kb l[i]])++[nb l[i]])⟩]),_,cD,(aQ (h:=by repeat (first|exact trivial|refine⟨w6,?_⟩))),w4,(yu aa h0 U),(bz.cast (bF ah9 aia) Gj),rfl⟩
  have dO:¬l[i].k=1:=(by simpa using cW)
  refine af [4,6,13,14,15,31,40] ?_;refine au ?_ ?_<;>intro eA fA
  ·have fi:l[i].k=2:=(by simpa using eA)
   refine cQ [4,8,13,14,15] ?_;refine aU 3 ?_ (h:=by exact(c8 (r:=.int .u64 ((uN l[i]:Nat):Int)) rfl ot bL (ac1 (by rw[ae9 fU];exact ac3 fU.n1 fU.n2))));refine bG ?_;refine af [4,8,9,13,14,15] ?_;refine CD.block ?_;refine mR (fun (E:Nat×Option Addr×Nat×List ah) aI=>match E with|(k,I,O,Sb)=>(k≤8)∧(bz 5 1 (((gb (l.take i)++[kb l[i]])++(mL (uN l[i])).take k).flatMap cB) ((gb (l.take i)++[kb l[i]])++(mL (uN l[i])).take k).length I O Sb)∧aI=(⟨72,[(4,aR I ((gb (l.take i)++[kb l[i]])++(mL (uN l[i])).take k).length O),(8,.v (.int .u64 ((uN l[i]:Nat):Int))),(9,ae (56-8*(k:Int))),(13,av 3 cV l),(14,ae l.length),(15,ae (i:Nat))],(Sb)⟩:St)) (fun (E:Nat×Option Addr×Nat×List ah)=>match E with|(k,I,O,Sb)=>8-k) (0,(some ⟨uv,0,none⟩),Z,[⟨uv,5,Z*1,flatMap cB ((gb (l.take i))++[kb l[i]])⟩]) ⟨w7,(bz.cast (bF F2 F3) bu),rfl⟩ (aQ (h:=by repeat (first|exact trivial|refine⟨(by (repeat (first|exact fD|(apply fX;focus (first|rfl|(congr 2;omega)|(simp;done)|(apply eO;rw[←I7 w4];simp)|(apply eO;simp)|(apply eO;simp;done)))|(apply fH;focus rfl)));done),?_⟩))) ?_;rintro⟨k,I,O,Sb⟩ _ ⟨Mb,oX,rfl⟩;refine af [4,8,9,13,14,15,47] ?_;refine au ?_ ?_<;>intro fx gG
   ·have hk7:k≤7:=(by omega)
    refine dN 3 ?_;refine bH (c8 (r:=.int .u64 ((uN l[i]/256 ^ (7-k):Nat):Int)) rfl ot ot (yG w4 (afa hk7))) ?_;refine bH (oF (r:=.int .u8 ((zo (uN l[i]) k).toNat:Int)) rfl ot (oG runUnderlying213 runUnderlying5 (adk _))) ?_;refine ez (cf 0 [_]) [.int .u8 0] [_] zeroValue5 runUnderlying88 sizeOf5 (fun b55=>?_);refine fP 0 55 1 1 ?_;refine OD.ew (ls:=((gb (l.take i)++[kb l[i]])++(mL (uN l[i])).take k)) (new:=[zo (uN l[i]) k]) (Sq:=Sb) pz wz ap rfl rfl underlying88 AH rfl w7 ot oX (dD (A:=[])) ot bu zH zH (fun M3 K1 aib aic=>?_);refine OD.perm (ee (S1:=[⟨M3,5,K1*1,flatMap cB (((gb (l.take i)++[kb l[i]])++(mL (uN l[i])).take k)++[zo (uN l[i]) k])⟩]) (A:=[])) ?_;refine an 72 [4,8,9,13,14,15] ?_;refine cm [4,8,9,13,14,15] ?_;refine⟨((k+1),(some ⟨M3,0,none⟩),K1,[⟨M3,5,K1*1,flatMap cB (((gb (l.take i)++[kb l[i]])++(mL (uN l[i])).take k)++[zo (uN l[i]) k])⟩]),_,cD,(aQ (h:=by repeat (first|exact trivial|refine⟨(by (repeat (first|exact fD|(apply fX;focus (first|rfl|(congr 2;omega)|(simp;done)|(apply eO;rw[←I7 w4];simp)|(apply eO;simp)|(apply eO;simp;done)))|(apply fH;focus rfl)));done),?_⟩))),w4,(bz.cast (bF aib aic) (by rw[←I7 w4];simp)),rfl⟩
   have aoM:k=8:=(by omega)
   have aoN:8≤k:=(by omega)
   refine cm [4,13,14,15] ?_;refine⟨((i+1),I,O,Sb),_,cD,(aQ (h:=by repeat (first|exact trivial|refine⟨w6,?_⟩))),w4,(yu aa h0 U),(bz.cast oX Gj),rfl⟩
  have fi:¬l[i].k=2:=(by simpa using eA)
  refine af [4,6,13,14,15,57] ?_;refine au ?_ ?_<;>intro gX kO
  ·have lR:l[i].k=3:=(by simpa using gX)
   have LJ:=Oo U lR;have CV:=RT l[i].s.data.toList;rw[lg] at CV;have Xn:(tK 0 [0,255] l[i].s).size=(tV l[i].s.data.toList).length:=(by rw[←lg,AN])
   refine aD 3 ?_;refine dS call143 (adg hG 0 ⟨#[0,255]⟩ l[i].s w4 w7) ?_;refine OD.Y2 (ls:=((gb (l.take i))++[kb l[i]])) (Sq:=[⟨uv,5,Z*1,flatMap cB ((gb (l.take i))++[kb l[i]])⟩]) ap rfl rfl underlying88 underlying9 AH ot (bF F2 F3) (dD (A:=[_])) ot (by rw[show(tK 0 (⟨#[0,255]⟩:ByteArray).data.toList l[i].s).size=(tV l[i].s.data.toList).length from Xn];simp only[length_append,length_cons,length_nil];omega) (by rw[show(tK 0 (⟨#[0,255]⟩:ByteArray).data.toList l[i].s).size=(tV l[i].s.data.toList).length from Xn];simp only[length_append,length_cons,length_nil];omega) (fun Vi xj CY BX=>?_);refine OD.perm (ee (A:=[_])) ?_;refine an 72 [4,13,14,15] ?_;refine dN 1 ?_;refine ez (cf 0 [_,_]) [.int .u8 0,.int .u8 0] [_,_] zeroValue5 runUnderlying88 sizeOf5 (fun b65=>?_);refine fP 0 65 1 2 ?_;refine OD.ew (ls:=(((gb (l.take i))++[kb l[i]])++(tK 0 [0,255] l[i].s).data.toList)) (new:=[(0:UInt8),0]) (Sq:=CY) pz wz ap rfl rfl underlying88 AH rfl w7 ot BX (dD (A:=[_])) ot bu (by rw[AN];simp only[length_append,length_cons,length_nil];omega) (by rw[AN];simp only[length_append,length_cons,length_nil];omega) (fun oY zq zu zv=>?_);refine OD.perm (ee (S1:=[⟨oY,5,zq*1,flatMap cB ((((gb (l.take i))++[kb l[i]])++(tK 0 [0,255] l[i].s).data.toList)++[(0:UInt8),0])⟩]) (A:=[_])) ?_
   refine an 72 [4,13,14,15] ?_;refine cm [4,13,14,15] ?_;refine⟨((i+1),(some ⟨oY,0,none⟩),zq,[⟨oY,5,zq*1,flatMap cB ((((gb (l.take i))++[kb l[i]])++(tK 0 [0,255] l[i].s).data.toList)++[(0:UInt8),0])⟩]),_,cD,(aQ (h:=by repeat (first|exact trivial|refine⟨w6,?_⟩))),w4,(yu aa h0 U),(bz.cast (bF zu zv) Gj),rfl⟩
  have lR:¬l[i].k=3:=(by simpa using gX)
  refine cm [4,13,14,15] ?_;refine⟨((i+1),(some ⟨uv,0,none⟩),Z,[⟨uv,5,Z*1,flatMap cB ((gb (l.take i))++[kb l[i]])⟩]),_,cD,(aQ (h:=by repeat (first|exact trivial|refine⟨w6,?_⟩))),w4,(yu aa h0 U),(bz.cast (bF F2 F3) Gj),rfl⟩
 have fk:∀v∈l,dH v=0:=(by rw[take_of_length_le w4] at h0;exact h0)
 have hle:=Ez fk;have M4:gb (l.take i)=gb l:=(by rw[take_of_length_le w4])
 refine af [4,70] ?_;refine au ?_ ?_<;>intro gv lp
 ·have aV:ga l=([],5):=(by unfold ga;rw[if_neg w4,ES fk,if_neg bu,if_pos (by rw[M4] at gv;simp at gv;omega)])
  exact Mq
 have aV:ga l=(gb l,0):=(by unfold ga;rw[if_neg w4,ES fk,if_neg bu,if_neg (by rw[M4] at gv;simp at gv;omega)])
 refine af [2,3] ?_;refine aJ Sb ?_;rw[aV,←M4];exact⟨I,O,rfl,oX⟩
theorem afb(hG:(2,[Value.int .i64 m])∈G)(l:List Vl)(hl:l.length≤maxLen)(aT:∀v∈l,v.Ok):VP Tryz.prog G 111 [av 3 cV l] (KY (ga l)):=(TH hG l hl aT).cover fun r S hr=>hr.view

end Go.Proofs.YtdgichenhdikgaaGreatDoor.Cd
namespace Go.Proofs.YtdgichenhdikgaaGreatDoor.Cd









open List
open Go.Proofs.Tryz
open Go.RowKit V Pk Vl
open Go.Lib (compareBytes)
variable {l:List Int}
theorem Bb{a b:UInt8}:a<b↔a.toNat<b.toNat:=UInt8.lt_iff_toNat_lt
theorem RU(a b:UInt8)(x y:List UInt8):compareBytes (a::x) (b::y)=if a<b then -1 else if b<a then 1 else compareBytes x y:=by rw[compareBytes]
theorem RV:∀(x y:List UInt8),compareBytes y x = - compareBytes x y
 | [],[]=>rfl
 | [],_::_=>rfl
 | _::_,[]=>rfl
 | a::x,b::y=>by
  have E:=RV x y;rw[RU,RU];rcases Nat.lt_trichotomy a.toNat b.toNat with h|h|h
  ·rw[if_neg zV,if_pos (Bb.2 h),if_pos (Bb.2 h)];rfl
  ·rw[if_neg zV,if_neg zV,if_neg zV,if_neg zV,E]
  rw[if_pos (Bb.2 h),if_neg zV,if_pos (Bb.2 h)]
def pH(x y:Int):Int:=if x<y then -1 else if x>y then 1 else 0
def iP:List Int→Int
 | []=>0
 | a::l=>if a≠0 then a else iP l
def cmpL(a b:Vl):List Int:=[pH a.k b.k,pH a.n b.n,compareBytes a.s.data.toList b.s.data.toList]
def gH(a b:Vl):Int:=iP (cmpL a b)
theorem yj(x y:Int):pH x y = -1∧x<y∨pH x y=0∧x=y∨pH x y=1∧y<x:=by unfold pH;split;omega;split<;>omega
theorem OV(x y:Int):pH y x = - pH x y:=by
 rcases yj x y with h|h|h<;>rcases yj y x with k|k|k<;>omega
theorem Ed(a b:Vl):gH b a = - gH a b:=by
 unfold gH cmpL iP iP iP iP;rw[OV a.k b.k,OV a.n b.n,RV a.s.data.toList b.s.data.toList];repeat' split
 all_goals omega

variable {G:List (Nat×List Value)} {m:Int}
def cI(n:Int):List D:=[ae n]
theorem abD:∀{i:Nat} (hi:i<l.length),(∀x∈l.take i,x=0)→iP l=iP (l.drop i):=by
 induction l with
 | nil=>intro i hi;simp at hi
 | cons a l ih =>
  intro i hi h;cases i with
  | zero=>rfl
  | succ i =>
   have ha:a=0:=h a bu;show(if a≠0 then a else iP l)=iP (l.drop i);rw[if_neg (by simp[ha])];exact ih (by simpa using hi) (fun x hx=>h x (by simp[hx]))
theorem adm{i:Nat}(hi:i<l.length)(h:∀x∈l.take i,x=0)(h1:l[i]≠0):iP l=l[i]:=by
 rw[abD hi h,drop_eq_getElem_cons hi];exact if_pos h1
theorem Qi:∀{l:List Int},(∀x∈l,x=0)→iP l=0
 | [],_=>rfl
 | a::l,h=>by
  show(if a≠0 then a else iP l)=0;rw[if_neg (by simp[h a bu]),Qi fun x hx=>h x (by simp[hx])]
theorem take_zero{i:Nat}(hi:i<l.length)(h:∀x∈l.take i,x=0)(h1:l[i]=0):∀x∈l.take (i+1),x=0:=fun x hx=>by
 rw[take_succ_eq_append_getElem hi] at hx;rcases mem_append.1 hx with hx|hx
 ·exact h x hx
 simp only[mem_singleton] at hx;rw[hx];exact h1
theorem TI(x:Int):VP Tryz.prog G 154 [ae x] (cg false):=by
 refine VC.body func154 rfl ntmps154 aS fun X0 w0 aZ=>?_;refine af [0] ?_;refine af [2] ?_;refine aJ [] ?_;first|exact⟨rfl,rfl⟩|(refine⟨vb ?_,rfl⟩;simp)
theorem RW(x y:Int):VP Tryz.prog G 136 [ae x,ae y] (ae (pH x y)):=by
 refine VC.body func136 rfl ntmps136 aS fun X0 w0 aZ=>?_;refine af [0,1] ?_;refine cH [0,1,5] (TI x) ?_;refine cH [0,1,5,6] (TI y) ?_;refine af [0,1,6,11] ?_;refine au ?_ ?_<;>intro aN bC
 ·refine af [12] ?_;refine au ?_ ?_<;>intro aY cz
  ·exact Cv
  exact Cv
 refine af [0,1,13] ?_;refine au ?_ ?_<;>intro bZ cM
 ·exact Cv
 refine af [0,1,16] ?_;refine au ?_ ?_<;>intro cW ek
 ·exact Cv
 refine af [19] ?_;refine au ?_ ?_<;>intro eA fA
 ·exact Cv
 refine af [4] ?_;refine aJ [] ?_;first|exact⟨rfl,rfl⟩|(refine⟨vi ?_,rfl⟩;unfold pH;simp_all;done)|(refine⟨vi ?_,rfl⟩;unfold pH;split<;>(try split)<;>simp_all<;>omega)
theorem afc(l:List Int)(hl:l.length≤100):VP Tryz.prog G 135 [av 1 cI l] (ae (iP l)):=by
 refine VC.body func135 rfl ntmps135 aS fun X0 w0 aZ=>?_;have da:=dW;refine af [0] ?_;refine af [0,3] ?_;refine af [3,6,7,8] ?_;refine eK [3,6,7] (fun aW _ (i:Nat) aI=>(i≤l.length)∧(∀x∈l.take i,x=0)∧aI=(⟨18,(8,ae (i:Nat))::aW,[]⟩:St)) (fun (i:Nat)=>l.length-i) 0 ⟨(Nat.zero_le _),(fun x hx=>by simp at hx),rfl⟩ ?_;rintro i _ ⟨hi,hz,rfl⟩;refine af [3,6,7,8,9] ?_;refine au ?_ ?_<;>intro aN bC
 ·have aa:i<l.length:=(by omega)
  refine af [3,5,6,7,8] ?_;refine af [3,5,6,7,8,14] ?_;refine au ?_ ?_<;>intro aY cz
  ·have aV:iP l=l[i]:=adm aa hz vz;refine af [2] ?_;exact ow
  refine cm [3,6,7,8] ?_;refine⟨(i+1),_,cD,aQ,w4,(take_zero aa hz vz),rfl⟩
 have aV:iP l=0:=Qi (by rw[take_of_length_le w4] at hz;exact hz);refine af [2] ?_;exact uf
theorem adn(a b:ByteArray):VP Tryz.prog G 137 [bn a,bn b] (ae (compareBytes a.data.toList b.data.toList)) :=
 VP.RM (P:=Tryz.prog) (G:=G) (f:=137) (vs:=[.string a,.string b]) (v:=.int .i64 (compareBytes a.data.toList b.data.toList)) fun w _ =>
  (Tryz.strings_Compare a b w).mono fun e w' ⟨h1,h2⟩=>⟨h1,h2 ▸ Below.refl _ _⟩
theorem Oq(a b:Vl)(ha:a.Ok)(hb:b.Ok):VP Tryz.prog G 104 [.agg (cV a),.agg (cV b)] (ae (gH a b)):=by
 refine VC.body func104 rfl ntmps104 aS fun X0 w0 aZ=>?_;unfold cV;refine bY ?_;refine OD.box (ds:=[_,_,_]) ap rfl rfl ot rfl rfl (fun b2=>?_);refine OD.box (ds:=[_,_,_]) ap rfl rfl ot rfl rfl (fun b3=>?_);refine an 22 [2,3] ?_;refine cQ [4] ?_;refine de (RW a.k b.k) ?_;refine de (RW a.n b.n) ?_;refine de (adn a.s b.s) ?_;refine de (afc (cmpL a b) (by show 3≤100;decide)) ?_;refine bG ?_;exact z51
def mE(a b:Vl):Int:=if dH a≠0 then dH a else dH b
def K2(a b:Vl):D:=.dF [ae (if mE a b≠0 then 0 else gH a b),ae (mE a b)]
theorem RX(a b:Vl):VP Tryz.prog G 101 [.agg (cV a),.agg (cV b)] (ae (mE a b)):=by
 refine VC.body func101 rfl ntmps101 aS fun X0 w0 aZ=>?_;unfold cV;refine bY ?_;refine OD.box (ds:=[_,_,_]) ap rfl rfl ot rfl rfl (fun b2=>?_);refine OD.box (ds:=[_,_,_]) ap rfl rfl ot rfl rfl (fun b3=>?_);refine an 13 [2,3] ?_;refine cH [3,5] (pn a) ?_;refine af [3,5,9] ?_;refine au ?_ ?_<;>intro aN bC
 ·refine af [4] ?_;refine aJ [] ?_;refine⟨vi ?_,rfl⟩;unfold mE;simp_all
 refine cH [4] (pn b) ?_;refine aJ [] ?_;refine⟨vi ?_,rfl⟩;unfold mE;simp_all
theorem Za(a b:Vl)(ha:a.Ok)(hb:b.Ok):VP Tryz.prog G 89 [.agg (cV a),.agg (cV b)] (K2 a b):=by
 refine VC.body func89 rfl ntmps89 aS fun X0 w0 aZ=>?_;unfold cV K2;refine bY ?_;refine OD.box (ds:=[_,_,_]) ap rfl rfl ot rfl rfl (fun b2=>?_);refine OD.box (ds:=[_,_,_]) ap rfl rfl ot rfl rfl (fun b3=>?_);refine an 16 [2,3] ?_;refine cH [2,3,6] (RX a b) ?_;refine af [2,3,6,11] ?_;refine au ?_ ?_<;>intro aN bC
 ·refine af [4,5] ?_;refine aJ [] ?_;first|(simp_all;done)|(refine⟨?_,rfl⟩;simp_all;done)
 refine cH [4,5] (Oq a b ha hb) ?_;refine aJ [] ?_;first|(simp_all;done)|(refine⟨?_,rfl⟩;simp_all;done)

end Go.Proofs.YtdgichenhdikgaaGreatDoor.Cd
namespace Go.Proofs.YtdgichenhdikgaaGreatDoor.Pc
open List
open Go.Proofs.Tryz
open Go.RowKit V Pk Vl Go.Proofs.YtdgichenhdikgaaGreatDoor.Nm
variable {i:Nat}
def typesC:List Value:=[.string ⟨#[]⟩,.string ⟨#[66,79,79,76]⟩,.string ⟨#[73,78,84]⟩,.string ⟨#[84,69,88,84]⟩]
structure cA where
 n:ByteArray
 k:Int
variable {l:List cA}
def cC(c:cA):List D:=[bn c.n,ae c.k]
theorem lF(c:cA):(cC c).length=2:=rfl
theorem afd(c:cA):(cC c).all V.one=true:=rfl
def ni(pre:List cA)(c:cA):Int :=
 if cU c.n≠0 then cU c.n else if c.k<1∨c.k>3 then 2 else if (pre.any fun d=>d.n.toList==c.n.toList)=true then 9 else 0
def qR:List cA→List cA→Int
 | _,[]=>0
 | pre,c::r=>if ni pre c≠0 then ni pre c else qR (pre++[c]) r
def fI(l:List cA):Int:=if l.length<1∨l.length>6 then 1 else qR [] l
theorem Z2(hi:i<l.length)(h:ni (l.take i) l[i]=0):qR (l.take i) (l.drop i)=qR (l.take (i+1)) (l.drop (i+1)):=by
 rw[drop_eq_getElem_cons hi,take_succ_eq_append_getElem hi];exact if_neg (by simp[h])
theorem Ij(hi:i<l.length)(h:ni (l.take i) l[i]≠0):qR (l.take i) (l.drop i)=ni (l.take i) l[i]:=by
 rw[drop_eq_getElem_cons hi];exact if_pos h
theorem abE(hi:¬i<l.length):qR (l.take i) (l.drop i)=0:=by
 rw[drop_of_length_le w4];rfl
theorem Ih(S:List ah):S.Perm (S++[]):=by rw[append_nil]
variable {G:List (Nat×List Value)}
theorem It(ls:List cA)(g:Nat)(E:List D)(S:List ah)(p:cA→Bool)(fu:∀args w,(callFunc g args).run Tryz.prog w = .ok (.enter g args) w)(hp:∀x∈ls,VC Tryz.prog G g (.agg (cC x)::E) S (fun r S'=>r=cg (p x)∧S'=S))(hlen:ls.length≤1000000):VC Tryz.prog G 106 [av 2 cC ls,.eB (.func g) E] S (fun r S'=>r=ae (dR p ls)∧S'=S):=by
 refine VC.body func106 rfl ntmps106 aS fun X0 w0 aZ=>?_;unfold cC at hp;exact V4
theorem YN(ls:List cA)(g:Nat)(E:List D)(S:List ah)(p:cA→Bool)(fu:∀args w,(callFunc g args).run Tryz.prog w = .ok (.enter g args) w)(hp:∀x∈ls,VC Tryz.prog G g (.agg (cC x)::E) S (fun r S'=>r=cg (p x)∧S'=S))(hlen:ls.length≤1000000):VC Tryz.prog G 112 [av 2 cC ls,.eB (.func g) E] S (fun r S'=>r=cg (ls.any p)∧S'=S):=by
 refine VC.body func112 rfl ntmps112 aS fun X0 w0 aZ=>?_;refine aD 1 ?_;refine OD.wk (Wk.dU (n:=9) (l':=[(0,_),(1,_)]) (S':=S) rfl mM fp) ?_;refine OD.nil ?_;refine aD 2 ?_;refine OD.call ap rfl rfl rfl call106 (It ls g E S p fu hp hlen) ⟨tu rfl lk,tu rfl lk,trivial⟩ (Ih _) ?_;rintro _ S2 ⟨rfl,iG⟩;rw[iG];clear iG;refine aE 2 ?_;refine OD.wk (Wk.dU (n:=9) (l':=[(4,_)]) (S':=S) rfl mM fp) ?_;refine OD.nil ?_;refine aJ S ?_;refine⟨?_,rfl⟩;rw[P8]
theorem adp(h x:cA)(b:Nat):VC Tryz.prog G 113 [.agg (cC h),dI b] [⟨b,69,2,cC x⟩] (fun r S=>r=cg (h.n.toList==x.n.toList)∧S=[⟨b,69,2,cC x⟩]):=by
 refine VC.body func113 rfl ntmps113 aS fun X0 w0 aZ=>?_;unfold cC;refine bY ?_;refine OD.box (ds:=[_,_]) ap rfl rfl ot rfl rfl (fun b2=>?_);refine an 9 [1,2] ?_;refine af [3] ?_;refine aJ [⟨b,69,2,cC x⟩] ?_;exact⟨rfl,rfl⟩
theorem adq(hm:(3,marksC)∈G)(hw:(1,wordsC)∈G)(l:List cA)(hl:l.length≤maxLen)(aT:∀c∈l,c.n.size≤maxLen):VP Tryz.prog G 67 [av 2 cC l] (ae (fI l)):=by
 refine VC.body func67 rfl ntmps67 aS fun X0 w0 aZ=>?_;have da:=dW;refine af [0] ?_;refine aD 4 ?_;refine bX 9 (fun Z O=>?_) (fun Z O=>?_)
 ·refine bg [0,13] ?_;refine eM ?_;have aV:fI l=1:=if_pos w4;exact xF
 refine bg [0,13] ?_;refine au ?_ ?_<;>intro aN bC
 ·have aV:fI l=1:=if_pos w4;exact xF
 have h16:¬(l.length<1∨l.length>6):=(by omega)
 have E:fI l=qR (l.take 0) (l.drop 0):=if_neg h16;refine af [0,14,15,16] ?_;refine eK [0,14,15] (fun aW _ (i:Nat) aI=>(i≤l.length)∧(fI l=qR (l.take i) (l.drop i))∧aI=(⟨41,(16,ae (i:Nat))::aW,[]⟩:St)) (fun (i:Nat)=>l.length-i) 0 ⟨(Nat.zero_le _),E,rfl⟩ ?_;rintro i _ ⟨hi,hinv,rfl⟩;refine af [0,14,15,16,17] ?_;refine au ?_ ?_<;>intro aY cz
 ·have aa:i<l.length:=(by omega)
  refine aD 3 ?_;refine OD.alloc (ds:=[_,_]) ap rfl rfl zeroValue69 rfl (fun b4=>?_);refine aE 1 ?_;refine aP 0 [_,_] sizeOf69 ?_;refine an 41 [0,3,4,14,15,16] ?_;refine cH [0,3,4,5,14,15,16] (tv hm hw l[i].n (aT _ (getElem_mem aa))) ?_;refine af [0,3,4,5,14,15,16,25] ?_;refine au ?_ ?_<;>intro bZ cM
  ·have hne:cU l[i].n≠0:=(by simpa using bZ)
   have hf:ni (l.take i) l[i]=cU l[i].n:=if_pos hne;have aV:fI l=cU l[i].n:=(by rw[hinv,Ij aa (by rw[hf];exact hne),hf])
   refine af [2] ?_;exact ow
  have gL:¬cU l[i].n≠0:=(by simpa using bZ)
  refine aD 4 ?_;refine bX 30 (fun U I=>?_) (fun U I=>?_)
  ·refine bg [0,3,4,14,15,16,34] ?_;refine eM ?_;exact U5
  refine bg [0,3,4,14,15,16,34] ?_;refine au ?_ ?_<;>intro cW ek
  ·exact U5
  have hk:¬(l[i].k<1∨l[i].k>3):=(by omega)
  refine aD 2 ?_;refine bH (ei (l:=0) rfl ot trivial ⟨_,ot⟩ (by first|exact nW lF (fun h=>by cases h) runUnderlying27 sizeOf69 w4|exact mX (fun h=>by cases h) runUnderlying27 sizeOf69 w4|exact mv (fun _=>rfl) (fun h=>by cases h) runUnderlying27 sizeOf69 w4 w4)) ?_;refine bH (pi (ds:=[_]) rfl ⟨ot,trivial⟩) ?_;refine OD.call ap rfl rfl rfl call112 (YN (l.take i) 113 [dI b4] _ (fun d=>d.n.toList==l[i].n.toList) call113 (fun h _=>adp h l[i] b4) oP) ⟨tu rfl lk,tu rfl lk,trivial⟩ (kf (k:=0) rfl) ?_;rintro _ S2 ⟨rfl,iG⟩;rw[iG];clear iG;refine an 41 [0,14,15,16,39] ?_;refine au ?_ ?_<;>intro eA fA
  ·have hf:ni (l.take i) l[i]=9:=(by unfold ni;rw[if_neg gL,if_neg hk,if_pos eA])
   have aV:fI l=9:=(by rw[hinv,Ij aa (by rw[hf];decide),hf])
   refine af [2] ?_;exact ow
  have hf:ni (l.take i) l[i]=0:=(by unfold ni;rw[if_neg gL,if_neg hk,if_neg (by rw[eA];simp)])
  have jm:=hinv.trans (Z2 aa hf);refine cm [0,14,15,16] ?_;refine⟨(i+1),_,cD,aQ,w4,jm,rfl⟩
 have aV:fI l=0:=(by rw[hinv];exact abE w4)
 refine af [2] ?_;exact uf

end Go.Proofs.YtdgichenhdikgaaGreatDoor.Pc
namespace Go.Proofs.YtdgichenhdikgaaGreatDoor.Pa
open List
open Go.Proofs.Tryz
open Go.RowKit V Pk Vl Go.Proofs.YtdgichenhdikgaaGreatDoor.Nm Pc
structure cx where
 kind:Int
 table:ByteArray
 az:List cA
 row:List Vl
 names:List ByteArray
 count:Bool
 aj:List aX
 order:ByteArray
 down:Bool
 ig:Int
 set:ByteArray
 bU:List aX
def gN:cx:=⟨0,⟨#[]⟩,[],[],[],false,[],⟨#[]⟩,false,-1,⟨#[]⟩,[]⟩

end Go.Proofs.YtdgichenhdikgaaGreatDoor.Pa
namespace Go.Proofs.YtdgichenhdikgaaGreatDoor.Pa







open List
open Go.Proofs.Tryz
open Go.RowKit V Pk Vl Go.Proofs.YtdgichenhdikgaaGreatDoor.Nm Pc
variable {G:List (Nat×List Value)}
variable {α:Type}
theorem Ee{ls:List (List α)}{j:Nat}(h:j<ls.length):(ls.take (j+1)).flatten=(ls.take j).flatten++ls[j]:=by
 rw[take_succ_eq_append_getElem h,flatten_append,flatten_cons,flatten_nil,append_nil]
theorem N0{ls:List (List α)}{j:Nat}(h:j<ls.length):((ls.take (j+1)).flatten).length=((ls.take j).flatten).length+ls[j].length:=by rw[Ee h,length_append]
theorem N4(ls:List (List α))(j:Nat):((ls.take j).flatten).length≤ls.flatten.length:=by
 conv=>rhs;rw[←take_append_drop j ls,flatten_append,length_append]
 omega
theorem Z3{e sz b cap:Nat}(h:cap≤maxLen):bz e sz [] 0 (some ⟨b,0,none⟩) cap [⟨b,e,cap*sz,[]⟩]:=.inr ⟨b,rfl,Nat.zero_le _,h,rfl⟩

end Go.Proofs.YtdgichenhdikgaaGreatDoor.Pa
namespace Go.Proofs.YtdgichenhdikgaaGreatDoor.Pa



open List
open Go.Proofs.Tryz
open Go.RowKit V Pk Vl Go.Proofs.YtdgichenhdikgaaGreatDoor.Nm Pc
variable {G:List (Nat×List Value)}
variable {α:Type} {i n:Nat} {ts h:List (List Tk)} {o:aX}
def afe:List ByteArray:=[⟨#[]⟩,⟨#[66,79,79,76]⟩,⟨#[73,78,84]⟩,⟨#[84,69,88,84]⟩]

theorem lH(t:Tk):(cT t).all V.one=true:=rfl
def bD(s:ByteArray):Tk:=⟨1,s,0⟩
def dV(s:ByteArray):Tk:=⟨4,s,0⟩
def cK(l:List Tk):List D:=[av 3 cT l]
theorem gm(l:List Tk):(cK l).length=1:=rfl
theorem pA(l:List Tk):(cK l).all V.one=true:=rfl
theorem td{β:Type}(f:α→β){l:List α}(hi:i<l.length):(l.take i).map f++[f l[i]]=(l.take (i+1)).map f:=by rw[take_succ_eq_append_getElem hi,map_append];rfl
theorem I8{β:Type}(f:α→β){l:List α}(hi:l.length≤i):(l.take i).map f=l.map f:=by rw[take_of_length_le hi]
theorem mV(s:ByteArray):VP Tryz.prog G 78 [bn s] (.agg (cT (dV s))):=by
 refine VC.body func78 rfl ntmps78 aS fun X0 w0 aZ=>?_;exact U2
theorem qe(s:ByteArray):VP Tryz.prog G 117 [bn s] (.agg (cT (bD s))):=by
 refine VC.body func117 rfl ntmps117 aS fun X0 w0 aZ=>?_;exact U2
theorem AA:(Tryz.prog.info? 137).map (fun i=>(i.zero,i.size,i.bytes))=some (some (.agg #[.int .i64 0,.string ⟨#[]⟩,.int .i64 0]),3,32):=by kernel_rfl
theorem yM(l:List ByteArray)(hl:l.length≤10):VC Tryz.prog G 73 [av 1 cS l] [] (gp cT 137 3 (l.map bD)):=by
 refine VC.body func73 rfl ntmps73 aS fun X0 w0 aZ=>?_;have da:=dW;refine af [0] ?_;refine bY ?_;refine bg [0,3] ?_;refine af [3,6,7,8] ?_;refine CD.block ?_;refine mR (fun (E:Nat×Option Addr×Nat×List ah) aI=>match E with|(i,O,U,Sa)=>(i≤l.length)∧(bz 137 3 (((l.take i).map bD).flatMap cT) ((l.take i).map bD).length O U Sa)∧aI=(⟨19,[(3,aR O ((l.take i).map bD).length U),(6,av 1 cS l),(7,ae (l.length:Nat)),(8,ae (i:Nat))],(Sa)⟩:St)) (fun (E:Nat×Option Addr×Nat×List ah)=>match E with|(i,O,U,Sa)=>l.length-i) (0,none,0,[]) ⟨(Nat.zero_le _),(bz.cast iI kV),rfl⟩ (aQ (h:=by repeat (first|exact trivial|refine⟨(by (repeat (first|exact fD|(apply fX;focus (first|rfl|(simp;done)|(congr 2;omega)|(apply eO;exact td bD aa)|(apply eO;simp;done)))|(apply fH;focus rfl)));done),?_⟩))) ?_;rintro⟨i,O,U,Sa⟩ _ ⟨hi,oB,rfl⟩;refine af [3,6,7,8,9] ?_;refine au ?_ ?_<;>intro aN bC
 ·have aa:i<l.length:=(by omega)
  refine af [3,5,6,7,8] ?_;refine dN 2 ?_;refine dS call117 (qe l[i]) ?_;refine ez (cf 0 [_]) [.int .i64 0,.string ⟨#[]⟩,.int .i64 0] [_,_,_] zeroValue137 runUnderlying98 sizeOf137 (fun b15=>?_);refine fP 0 15 3 1 ?_;refine OD.ew (ls:=((l.take i).map bD)) (new:=[bD l[i]]) (Sq:=Sa) iJ lH ap rfl rfl underlying98 AA rfl w7 ot oB (dD (A:=[])) ot bu (by have da:=dW;(try simp only[length_append,length_cons,length_nil,length_map,length_take]);omega) (by have da:=dW;(try simp only[length_append,length_cons,length_nil,length_map,length_take]);omega) (fun Z I aid aie=>?_);refine OD.perm (ee (S1:=[⟨Z,137,I*3,flatMap cT (((l.take i).map bD)++[bD l[i]])⟩]) (A:=[])) ?_;refine an 19 [3,6,7,8] ?_;refine cm [3,6,7,8] ?_;refine⟨((i+1),(some ⟨Z,0,none⟩),I,[⟨Z,137,I*3,flatMap cT (((l.take i).map bD)++[bD l[i]])⟩]),_,cD,(aQ (h:=by repeat (first|exact trivial|refine⟨(by (repeat (first|exact fD|(apply fX;focus (first|rfl|(simp;done)|(congr 2;omega)|(apply eO;exact td bD aa)|(apply eO;simp;done)))|(apply fH;focus rfl)));done),?_⟩))),w4,(bz.cast (bF aid aie) (by exact td bD aa)),rfl⟩
 have ff:=I8 bD (show l.length≤i by omega);refine af [2] ?_;refine aJ _ ?_;exact gp.cast (gp.mk oB) ff
theorem rX(l:List ByteArray)(hl:l.length≤10):VP Tryz.prog G 73 [av 1 cS l] (.list 3 ((l.map bD).flatMap cT) (l.map bD).length):=VC.wI iJ (yM l hl)
def kS(ts:List (List Tk)):Nat→List Tk
 | 0=>[dV ⟨#[40]⟩]
 | i+1=>kS ts i++(if i>0 then [dV ⟨#[44]⟩] else [])++ts.getD i []
def l7(ts:List (List Tk)):List Tk:=kS ts ts.length++[dV ⟨#[41]⟩]
theorem EL{ts:List (List Tk)}(h:∀x∈ts,x.length≤10):∀i,(kS ts i).length≤1+11*i
 | 0=>Nat.le_refl _
 | i+1=>by
  have E:=EL h i;have h2:(ts.getD i []).length≤10:=by
   rw[getD_eq_getElem?_getD];cases hx:ts[i]? with
   | none=>exact Nat.zero_le _
   | some x=>exact h x (mem_of_getElem? hx)
  have h3:(if i>0 then [dV ⟨#[44]⟩] else []).length≤1:=(by split<;>simp)
  unfold kS;rw[length_append,length_append];omega
theorem Ii(hi:i<ts.length)(h:0<i):(kS ts i++[dV ⟨#[44]⟩])++ts[i]=kS ts (i+1):=by
 rw[kS,if_pos h,getD_eq_getElem?_getD,getElem?_eq_getElem hi];rfl
theorem HH(hi:i<ts.length)(h:¬0<i):kS ts i++ts[i]=kS ts (i+1):=by
 rw[kS,if_neg h,append_nil,getD_eq_getElem?_getD,getElem?_eq_getElem hi];rfl
theorem RY(ts:List (List Tk))(hl:ts.length≤10)(LJ:∀x∈ts,x.length≤10):VP Tryz.prog G 74 [av 1 cK ts] (.list 3 ((l7 ts).flatMap cT) (l7 ts).length):=by
 refine VC.body func74 rfl ntmps74 aS fun X0 w0 aZ=>?_;have da:=dW;refine af [0] ?_;refine bY ?_;refine dS call78 (mV ⟨#[40]⟩) ?_;refine ez (cf 0 [_]) [.int .i64 0,.string ⟨#[]⟩,.int .i64 0] [_,_,_] zeroValue137 runUnderlying98 sizeOf137 (fun b7=>?_);refine OD.perm (ee (S1:=[⟨b7,137,1*3,flatMap cT ([dV ⟨#[40]⟩])⟩]) (A:=[])) ?_;refine an 29 [0,3] ?_;refine af [3,8,9,10] ?_;refine CD.block ?_;refine mR (fun (E:Nat×Option Addr×Nat×List ah) aI=>match E with|(i,I,O,Sa)=>(i≤ts.length)∧(bz 137 3 ((kS ts i).flatMap cT) (kS ts i).length I O Sa)∧aI=(⟨29,[(3,aR I (kS ts i).length O),(8,av 1 cK ts),(9,ae (ts.length:Nat)),(10,ae (i:Nat))],(Sa)⟩:St)) (fun (E:Nat×Option Addr×Nat×List ah)=>match E with|(i,I,O,Sa)=>ts.length-i) (0,(some ⟨b7,0,none⟩),1,[⟨b7,137,1*3,flatMap cT ([dV ⟨#[40]⟩])⟩]) ⟨(Nat.zero_le _),(bz.cast (bF (g:=cT) (sz:=3) (e:=137) (ls:=[dV ⟨#[40]⟩]) (Nat.le_refl _) (show 1≤maxLen by decide)) (by rfl)),rfl⟩ (aQ (h:=by repeat (first|exact trivial|refine⟨(by (repeat (first|exact fD|(apply fX;focus (first|rfl|(simp;done)|(congr 2;omega)|(apply eO;first|exact Ii aa w4|exact HH aa w4)|(apply eO;rfl)|(apply eO;simp;done)))|(apply fH;focus rfl)));done),?_⟩))) ?_;rintro⟨i,I,O,Sa⟩ _ ⟨hi,oB,rfl⟩;refine af [3,8,9,10,11] ?_;refine au ?_ ?_<;>intro aN bC
 ·have aa:i<ts.length:=(by omega)
  refine af [3,4,5,8,9,10] ?_;refine af [3,5,8,9,10,16] ?_;refine au ?_ ?_<;>intro aY cz
  ·refine dN 1 ?_;refine dS call78 (mV ⟨#[44]⟩) ?_;refine ez (cf 0 [_]) [.int .i64 0,.string ⟨#[]⟩,.int .i64 0] [_,_,_] zeroValue137 runUnderlying98 sizeOf137 (fun b19=>?_);refine fP 0 19 3 1 ?_;refine OD.ew (ls:=(kS ts i)) (new:=[dV ⟨#[44]⟩]) (Sq:=Sa) iJ lH ap rfl rfl underlying98 AA rfl w7 ot oB (dD (A:=[])) ot bu w9 w9 (fun M5 U aif aih=>?_);refine OD.perm (ee (S1:=[⟨M5,137,U*3,flatMap cT ((kS ts i)++[dV ⟨#[44]⟩])⟩]) (A:=[])) ?_;refine an 29 [3,5,8,9,10] ?_;refine dN 2 ?_;refine OD.ph (ls:=((kS ts i)++[dV ⟨#[44]⟩])) (new:=ts[i]) (Sq:=[⟨M5,137,U*3,flatMap cT ((kS ts i)++[dV ⟨#[44]⟩])⟩]) iJ lH ap rfl rfl underlying98 AA rfl w7 runUnderlying98 sizeOf137 ot (bF aif aih) (dD (A:=[])) ot w9 w9 (fun UH UI Wn UJ=>?_);exact Wm
  refine dN 2 ?_;refine OD.ph (ls:=(kS ts i)) (new:=ts[i]) (Sq:=Sa) iJ lH ap rfl rfl underlying98 AA rfl w7 runUnderlying98 sizeOf137 ot oB (dD (A:=[])) ot w9 w9 (fun UH UI Wn UJ=>?_);exact Wm
 have tZ:i=ts.length:=(by omega)
 have nk:kS ts i++[dV ⟨#[41]⟩]=l7 ts:=(by unfold l7;rw[←tZ])
 refine aD 1 ?_;refine dS call78 (mV ⟨#[41]⟩) ?_;refine ez (cf 0 [_]) [.int .i64 0,.string ⟨#[]⟩,.int .i64 0] [_,_,_] zeroValue137 runUnderlying98 sizeOf137 (fun b27=>?_);refine fP 0 27 3 1 ?_;refine OD.ew (ls:=(kS ts i)) (new:=[dV ⟨#[41]⟩]) (Sq:=Sa) iJ lH ap rfl rfl underlying98 AA rfl w7 ot oB (dD (A:=[])) ot bu w9 w9 (fun M1 Z aii aij=>?_);refine OD.perm (ee (S1:=[⟨M1,137,Z*3,flatMap cT ((kS ts i)++[dV ⟨#[41]⟩])⟩]) (A:=[])) ?_;refine an 29 [2] ?_;refine CD.ij (t:=2) (Sq:=[⟨M1,137,Z*3,flatMap cT ((kS ts i)++[dV ⟨#[41]⟩])⟩]) lk (bF aii aij) (cn iJ _) (dD (A:=[])) ?_;refine aJ [] ?_;rw[nk];exact⟨rfl,rfl⟩
def jn(v:Vl):List Tk :=
 if v.k=0 then [bD ⟨#[78,85,76,76]⟩]
 else if v.k=1 then [bD (if v.n=0 then ⟨#[70,65,76,83,69]⟩ else ⟨#[84,82,85,69]⟩)]
 else if v.k=3 then [⟨3,v.s,0⟩]
 else if v.n<0 then [dV ⟨#[45]⟩,⟨2,⟨#[]⟩,-v.n⟩] else [⟨2,⟨#[]⟩,v.n⟩]
def mT(v:Vl):Prop:=(v.k=1→v.n=0∨v.n=1)∧-9223372036854775807≤v.n∧v.n≤9223372036854775807
theorem OW(v:Vl):0<(jn v).length∧(jn v).length≤2:=by
 unfold jn;repeat' split
 all_goals exact⟨by simp,by simp⟩
def Fy:List ByteArray:=[⟨#[]⟩,⟨#[]⟩,⟨#[]⟩,⟨#[]⟩,⟨#[]⟩,⟨#[]⟩,⟨#[61]⟩,⟨#[60]⟩,⟨#[43]⟩,⟨#[45]⟩,⟨#[42]⟩]
def zi(k:Int):Tk:=if k=3 then bD ⟨#[65,78,68]⟩ else if k=4 then bD ⟨#[79,82]⟩ else dV (Fy.getD k.toNat ⟨#[]⟩)
theorem agy{j:Nat}(h:j<11):(Fy.map fun s=>D.v (.string s))[j*1]?=some (bn (Fy[j]'h)):=by
 rw[Nat.mul_one,getElem?_map,getElem?_eq_getElem h];rfl
theorem N5(v:Vl)(h:mT v):VP Tryz.prog G 75 [.agg (cV v)] (.list 3 ((jn v).flatMap cT) (jn v).length):=by
 refine VC.body func75 rfl ntmps75 aS fun X0 w0 aZ=>?_;obtain⟨h1,h2,h3⟩:=h;unfold cV;refine bY ?_;refine OD.box (ds:=[_,_,_]) ap rfl rfl ot rfl rfl (fun b1=>?_);refine an 42 [1] ?_;refine af [1,3] ?_;refine au ?_ ?_<;>intro aN bC
 ·refine cH [2] (rX [⟨#[78,85,76,76]⟩] zT) ?_;exact GA
 refine af [1,9] ?_;refine au ?_ ?_<;>intro aY cz
 ·have dO:v.k=1:=(by simpa using aY)
  obtain⟨j,hj,I⟩:∃j:Nat,v.n=(j:Int)∧j<2:=(by (rcases h1 dO with h|h;exact⟨0,h,by decide⟩;exact⟨1,h,by decide⟩))
  rw[hj];refine cQ [2] ?_;refine MQ (g:=cS) ([⟨#[70,65,76,83,69]⟩,⟨#[84,82,85,69]⟩]) ?_;refine aU 3 ?_ (h:=by exact(cR (mk:=Op.load 9) rfl ot (by exact qf (i:=j) jl isAgg9 (by show j<2;omega) rfl)));refine de (rX [([⟨#[70,65,76,83,69]⟩,⟨#[84,82,85,69]⟩]:List ByteArray)[j]'(by show j<2;omega)] zT) ?_;refine bG ?_;exact GA
 refine af [1,20] ?_;refine au ?_ ?_<;>intro bZ cM
 ·refine aD 3 ?_;refine ez (cf 0 [_]) [.int .i64 0,.string ⟨#[]⟩,.int .i64 0] [_,_,_] zeroValue137 runUnderlying98 sizeOf137 (fun E=>?_);refine OD.perm (ee (S1:=[⟨E,137,1*3,flatMap cT ([(⟨3,v.s,0⟩:Tk)])⟩]) (A:=[_])) ?_;refine an 42 [2] ?_;refine CD.ij (t:=2) (Sq:=[⟨E,137,1*3,flatMap cT ([(⟨3,v.s,0⟩:Tk)])⟩]) lk (bF (g:=cT) (sz:=3) (e:=137) (ls:=[(⟨3,v.s,0⟩:Tk)]) (Nat.le_refl _) (show 1≤maxLen by decide)) (cn iJ _) (dD (A:=[_])) ?_;exact GA
 refine af [1,28] ?_;refine au ?_ ?_<;>intro cW ek
 ·refine cQ [2] ?_;refine de (mV ⟨#[45]⟩) ?_;refine aU 2 ?_ (h:=by exact(Et rfl ot (JE (wrap_i64 w4 w4))));refine bG ?_;exact GA
 refine aD 3 ?_;refine ez (cf 0 [_]) [.int .i64 0,.string ⟨#[]⟩,.int .i64 0] [_,_,_] zeroValue137 runUnderlying98 sizeOf137 (fun vE=>?_);refine OD.perm (ee (S1:=[⟨vE,137,1*3,flatMap cT ([(⟨2,⟨#[]⟩,v.n⟩:Tk)])⟩]) (A:=[_])) ?_;refine an 42 [2] ?_;refine CD.ij (t:=2) (Sq:=[⟨vE,137,1*3,flatMap cT ([(⟨2,⟨#[]⟩,v.n⟩:Tk)])⟩]) lk (bF (g:=cT) (sz:=3) (e:=137) (ls:=[(⟨2,⟨#[]⟩,v.n⟩:Tk)]) (Nat.le_refl _) (show 1≤maxLen by decide)) (cn iJ _) (dD (A:=[_])) ?_;refine aJ [] ?_;refine⟨?_,rfl⟩;unfold jn;first|(rw[if_pos bC];first|done|rfl)|(rw[if_neg bC,if_pos dO,hj];rcases j with _|_|j<;>first|rfl|omega)|(rw[if_neg bC,if_neg cz,if_pos cM];first|done|rfl)|(rw[if_neg bC,if_neg cz,if_neg cM,if_pos w4,show -v.n=0-v.n by omega];first|done|rfl)|(rw[if_neg bC,if_neg cz,if_neg cM,if_neg w4];first|done|rfl)
theorem Zb(k:Int)(h:k=3∨k=4∨6≤k∧k≤10):VP Tryz.prog G 119 [ae k] (.agg (cT (zi k))):=by
 refine VC.body func119 rfl ntmps119 aS fun X0 w0 aZ=>?_;refine bY ?_;refine OD.alloc (ds:=[_,_,_]) ap rfl rfl zeroValue137 rfl (fun b2=>?_);refine an 14 [0,2] ?_;refine af [0,2,3] ?_;refine af [0,2,3,4] ?_;refine au ?_ ?_<;>intro aN bC
 ·refine bY ?_;refine dS call117 (qe ⟨#[65,78,68]⟩) ?_;exact Wt
 refine af [0,2,7] ?_;refine au ?_ ?_<;>intro aY cz
 ·refine bY ?_;refine dS call117 (qe ⟨#[79,82]⟩) ?_;exact Wt
 have lR:¬k=3:=(by simpa using aN)
 have xG:¬k=4:=(by simpa using aY)
 obtain⟨j,rfl⟩:∃j:Nat,k=(j:Int):=⟨k.toNat,by omega⟩
 have hj:j<11:=(by omega)
 refine bY ?_;refine bH (DW (pl:=[(6,_),(7,_),(8,_),(9,_),(10,_)]) (ds:=[_,_,_,_,_,_,_,_,_,_,_]) rfl zeroValue215 runUnderlying215 sizeOf9 ⟨rfl,bL,rfl,bL,rfl,bL,rfl,bL,rfl,bL,trivial⟩ rfl rfl) ?_;refine aE 1 ?_;refine bH (YZ (j:=j) rfl ot ot runUnderlying215 sizeOf9 isAgg9 rfl hj (agy hj)) ?_;refine dS call78 (mV (Fy[j]'hj)) ?_;refine aP 0 [_,_,_] sizeOf137 ?_;refine an 14 [2] ?_;refine aJ [] ?_;refine⟨?_,rfl⟩;unfold zi;first|(rw[if_neg lR,if_neg xG,show((j:Nat):Int).toNat=j from rfl,getD_eq_getElem?_getD,getElem?_eq_getElem hj];rfl)|(rw[if_pos xz];rfl)|(rw[if_neg xz,if_pos vz];rfl)

def CZ(q:List Tk):List D:=[av 3 cT q]
theorem Oa:(Tryz.prog.info? 137).map (fun i=>(i.zero,i.size,i.bytes))=some (some (.agg #[.int .i64 0,.string ⟨#[]⟩,.int .i64 0]),3,32):=by kernel_rfl
theorem Z4(n:Nat)(h0:0<n)(hn:n≤100000):VC Tryz.prog G 118 [bS,ae (n:Nat)] [] (fun r S=>∃b cap,cap≤maxLen∧r=aR (some ⟨b,0,none⟩) 0 cap∧S=[⟨b,137,cap*3,[]⟩]):=by
 refine VC.body func118 rfl ntmps118 aS fun X0 w0 aZ=>?_;refine af [0,1] ?_;refine af [0,1,6] ?_;refine au ?_ ?_<;>intro aN bC
 ·exact absurd aN sL
 refine cQ [0,1] ?_;refine aU 2 ?_ (h:=by exact(Eb rfl rfl ot runUnderlying98));refine aU 1 ?_ (h:=by exact(cR (mk:=fun y=>.call {callee:=.builtin .len,args:=#[y],argTypes:=#[98]}) rfl ot (RH rfl runUnderlying98)));refine bG ?_;refine af [0,1,16] ?_;refine au ?_ ?_<;>intro aY cz
 ·refine dN 2 ?_;refine bH (Eb rfl rfl ot runUnderlying98) ?_;refine bH (DU rfl ot rfl ⟨_,_,ot,rfl⟩ runUnderlying98 sizeOf137) ?_;refine aE 1 ?_;refine OD.aby (m:=n) (sz:=3) ap rfl rfl underlying98 underlying3 Oa rfl w7 ot (Eq.trans ot (congrArg (fun z=>D.v (.int .i64 z)) (show((n:Nat):Int)-(0-0)=((n:Nat):Int) by omega))) h0 Cp w4 (fun b cap h1 h2=>?_);refine aE 1 ?_;refine bH (cR (mk:=fun y=>.call {callee:=.builtin .len,args:=#[y],argTypes:=#[98]}) rfl ot (RH rfl runUnderlying98)) ?_;refine bH (ei (l:=0) (h:=0) rfl ot trivial ⟨_,ot⟩ (by first|exact mX (fun h=>by cases h) runUnderlying98 sizeOf137 w4|exact mv (fun _=>rfl) (fun h=>by cases h) runUnderlying98 sizeOf137 w4 w4)) ?_;refine an 27 [0] ?_;refine af [4] ?_;refine aJ [⟨b,137,cap*3,[]⟩] ?_;exact⟨b,cap,h2,rfl,rfl⟩
 exact absurd aY (by simp at aY;omega)
theorem YO(ls:List (List Tk))(Xm:ls.length≤1000)(h0:0<ls.flatten.length)(hn:ls.flatten.length≤100000):VC Tryz.prog G 77 [av 1 CZ ls] [] (fun r S=>∃ad cap,r=aR ad ls.flatten.length cap∧bz 137 3 (ls.flatten.flatMap cT) ls.flatten.length ad cap S):=by
 refine VC.body func77 rfl ntmps77 aS fun X0 w0 aZ=>?_;refine af [0] ?_;refine af [0,3] ?_;refine af [0,3,9,10,11] ?_;refine CD.block ?_;refine mR (fun (j:Nat) aI=>(j≤ls.length)∧aI=(⟨36,[(0,av 1 CZ ls),(3,ae ((((ls.take j).flatten).length:Nat):Int)),(9,av 1 CZ ls),(10,ae (ls.length:Nat)),(11,ae (j:Nat))],[]⟩:St)) (fun (j:Nat)=>ls.length-j) 0 ⟨(Nat.zero_le _),rfl⟩ (aQ (h:=by repeat (first|exact trivial|refine⟨(by (repeat (first|exact fD|(apply fX;focus (first|rfl|(congr 2;omega)|(simp;done)))|(apply fH;focus rfl)));done),?_⟩))) ?_;rintro j _ ⟨hj,rfl⟩;refine af [0,3,9,10,11,12] ?_;refine au ?_ ?_<;>intro aN bC
 ·have aa:j<ls.length:=(by simp at aN;omega)
  have O:=N0 aa;have hle:=N4 ls (j+1);refine af [0,3,5,9,10,11] ?_;refine cQ [0,3,9,10,11] ?_;refine aU 3 ?_ (h:=by exact(c8 (r:=.int .i64 ((((ls.take (j+1)).flatten).length:Nat):Int)) rfl ot ot (ko (by rw[show((((ls.take j).flatten).length:Nat):Int)+(ls[j].length:Nat)=((((ls.take (j+1)).flatten).length:Nat):Int) by omega];exact wrap_i64 w4 w4))));refine bG ?_;refine af [0,3,9,10,11,20] ?_;refine au ?_ ?_<;>intro aY cz
  ·exact absurd aY (by simp at aY;omega)
  refine cm [0,3,9,10,11] ?_;refine⟨(j+1),_,cD,(aQ (h:=by repeat (first|exact trivial|refine⟨(by (repeat (first|exact fD|(apply fX;focus (first|rfl|(congr 2;omega)|(simp;done)))|(apply fH;focus rfl)));done),?_⟩))),w4,rfl⟩
 obtain rfl:j=ls.length:=(by simp at aN;omega)
 rw[take_length];refine aD 1 ?_;refine OD.call ap rfl rfl rfl call118 (Z4 ls.flatten.length h0 hn) ⟨bL,ot,trivial⟩ (Perm.refl _) ?_;rintro _ _ ⟨b,cp,xD,rfl,rfl⟩;refine OD.perm (Perm.refl _) ?_;refine an 36 [0,6] ?_;refine af [6,25,26,27] ?_;refine CD.block ?_;refine mR (fun (E:Nat×Option Addr×Nat×List ah) aI=>match E with|(j,dQ,dc,Sx)=>(j≤ls.length)∧(bz 137 3 (((ls.take j).flatten).flatMap cT) ((ls.take j).flatten).length dQ dc Sx)∧aI=(⟨36,[(6,aR dQ ((ls.take j).flatten).length dc),(25,av 1 CZ ls),(26,ae (ls.length:Nat)),(27,ae (j:Nat))],(Sx)⟩:St)) (fun (E:Nat×Option Addr×Nat×List ah)=>match E with|(j,dQ,dc,Sx)=>ls.length-j) (0,(some ⟨b,0,none⟩),cp,[⟨b,137,cp*3,[]⟩]) ⟨(Nat.zero_le _),(bz.cast (Z3 xD) (by rfl)),rfl⟩ (aQ (h:=by repeat (first|exact trivial|refine⟨(by (repeat (first|exact fD|(apply fX;focus (first|rfl|(simp;done)|(congr 2;omega)|(apply eO;rw[Ee aa])|(apply eO;rfl)|(apply eO;simp;done)))|(apply fH;focus rfl)));done),?_⟩))) ?_;rintro⟨j,dQ,dc,Sx⟩ _ ⟨hj,ec,rfl⟩;refine af [6,25,26,27,28] ?_;refine au ?_ ?_<;>intro bZ cM
 ·have aa:j<ls.length:=(by simp at bZ;omega)
  have O:=N0 aa;have hle:=N4 ls (j+1);refine af [6,8,25,26,27] ?_;refine dN 2 ?_;refine OD.ph (ls:=((ls.take j).flatten)) (new:=ls[j]) (Sq:=Sx) iJ lH ap rfl rfl underlying98 Oa rfl w7 runUnderlying98 sizeOf137 ot ec (dD (A:=[])) ot Cp w4 (fun U Z S33 aik=>?_);refine OD.perm (ee (A:=[])) ?_;refine an 36 [6,25,26,27] ?_;refine cm [6,25,26,27] ?_;refine⟨((j+1),U,Z,S33),_,cD,(aQ (h:=by repeat (first|exact trivial|refine⟨(by (repeat (first|exact fD|(apply fX;focus (first|rfl|(simp;done)|(congr 2;omega)|(apply eO;rw[Ee aa])|(apply eO;rfl)|(apply eO;simp;done)))|(apply fH;focus rfl)));done),?_⟩))),w4,(bz.cast aik (by rw[Ee aa])),rfl⟩
 obtain rfl:j=ls.length:=(by simp at bZ;omega)
 refine af [2] ?_;refine aJ Sx ?_;have I:=ec;rw[take_length] at I;exact⟨dQ,dc,by rw[take_length],I⟩
theorem Ef(ls:List (List Tk))(E:ls.length≤1000)(h0:0<ls.flatten.length)(hn:ls.flatten.length≤100000):VP Tryz.prog G 77 [av 1 CZ ls] (av 3 cT ls.flatten):=VC.wI iJ (YO ls E h0 hn)
def sD(o:aX)(a b:List Tk):List Tk :=
 if o.k=1 then jn o.v else if o.k=2 then [bD o.nm]
 else if o.k=5 then [[dV ⟨#[40]⟩,bD ⟨#[78,79,84]⟩],a,[dV ⟨#[41]⟩]].flatten
 else if o.k=11 then [[dV ⟨#[40]⟩],a,[bD ⟨#[73,83]⟩,bD ⟨#[78,85,76,76]⟩],[dV ⟨#[41]⟩]].flatten
 else [[dV ⟨#[40]⟩],a,[zi o.k],b,[dV ⟨#[41]⟩]].flatten
def eP(h:List (List Tk))(o:aX):Nat:=h.length-(bP o.k).toNat
def oe(h:List (List Tk))(o:aX):List (List Tk):=h.take (eP h o)++[sD o (h.getD (eP h o) []) (h.getD (eP h o+1) [])]
def qS(l:List aX):List Tk:=(l.foldl oe []).getD 0 []
theorem adr{h:Int}(he:fj h o=0):1≤o.k∧o.k≤11∧iU o.v=0∧bP o.k≤h:=by
 unfold fj at he;split at he
 ·cases he
 split at he
 ·exact absurd he tN
 split at he
 ·cases he
 split at he
 ·rename_i h4;exact absurd he h4.2
 split at he
 ·cases he
 exact⟨by omega,by omega,by omega,by omega⟩
theorem ads{l:List aX}{h:Int}(hi:i<l.length)(he:fK h (l.drop i)=0):fj h l[i]=0:=by
 rw[drop_eq_getElem_cons hi,fK] at he;split at he
 ·assumption
 exact he
theorem TJ{v:Vl}(h:iU v=0)(h1:-9223372036854775808≤v.n)(h2:v.n≤9223372036854775807):mT v:=by
 unfold iU dH at h;split at h
 ·cases h
 have hn:¬(v.k=2∧v.n = -9223372036854775808):=(by assumption)
 repeat' split at h
 all_goals first|(exfalso;omega)|(unfold mT;refine⟨?_,?_,h2⟩<;>omega)
theorem Qj(hp:bP o.k≤(h.length:Int)):((oe h o).length:Int)=h.length+(1-bP o.k):=by
 have:=tr o.k;unfold oe eP;rw[length_append,length_take];simp only[length_cons,length_nil];omega
theorem Ax(h:List (List Tk))(n:Nat):h.flatten.length=(h.take n).flatten.length+(h.drop n).flatten.length:=by
 conv=>lhs;rw[←take_append_drop n h,flatten_append,length_append]
theorem uF:(h.getD n []).length≤(h.drop n).flatten.length∧(h.getD n []).length+(h.getD (n+1) []).length≤(h.drop n).flatten.length:=by
 by_cases hn:n<h.length
 ·rw[drop_eq_getElem_cons hn];have e1:h.getD n []=h[n]:=(by rw[getD_eq_getElem?_getD,getElem?_eq_getElem hn];rfl)
  rw[e1,flatten_cons,length_append];refine⟨by omega,?_⟩;by_cases iX:n+1<h.length
  ·rw[drop_eq_getElem_cons iX,flatten_cons,length_append];have e2:h.getD (n+1) []=h[n+1]:=(by rw[getD_eq_getElem?_getD,getElem?_eq_getElem iX];rfl)
   rw[e2];omega
  have e2:h.getD (n+1) []=[]:=(by rw[getD_eq_getElem?_getD,getElem?_eq_none w4];rfl)
  rw[e2];simp only[length_nil];omega
 have e1:h.getD n []=[]:=(by rw[getD_eq_getElem?_getD,getElem?_eq_none w4];rfl)
 have e2:h.getD (n+1) []=[]:=(by rw[getD_eq_getElem?_getD,getElem?_eq_none w4];rfl)
 rw[e1,e2];exact⟨by simp,by simp⟩
theorem RZ(o:aX)(a b:List Tk):(sD o a b).length≤a.length+b.length+5∧0<(sD o a b).length:=by
 have:=OW o.v;unfold sD;repeat' split
 all_goals first|exact⟨by omega,by omega⟩|(simp only[flatten_cons,flatten_nil,length_append,length_cons,length_nil];exact⟨by omega,by omega⟩)
theorem OX:(oe h o).flatten.length≤h.flatten.length+5:=by
 have h1:=Ax h (eP h o);have h2:=(uF (h:=h) (n:=eP h o)).2;have h3:=(RZ o (h.getD (eP h o) []) (h.getD (eP h o+1) [])).1;unfold oe;rw[flatten_append,length_append];simp only[flatten_cons,flatten_nil,append_nil];omega
theorem Z5{l:List aX}(hi:i<l.length):(l.take (i+1)).foldl oe []=oe ((l.take i).foldl oe []) l[i]:=by
 rw[take_succ_eq_append_getElem hi,foldl_append];rfl
theorem EU{e sz cap:Nat}{cs:List D}{ad:Option Addr}{S:List ah}(h:bz e sz cs n ad cap S)(hn:0<n):∃b,ad=some ⟨b,0,none⟩∧n≤cap∧cap≤maxLen∧S=[⟨b,e,cap*sz,cs⟩]:=by
 rcases h with ⟨h1,_⟩|h
 ·omega
 exact h
theorem mz{h:List α}{d:α}(hn:n<h.length):h.getD n d=h[n]:=by rw[getD_eq_getElem?_getD,getElem?_eq_getElem hn];rfl
theorem Zc:(Tryz.prog.info? 98).map (fun i=>(i.zero,i.size,i.bytes))=some (some (.slice none 0 0),1,24):=by kernel_rfl
theorem Ot(l:List aX)(hl:l.length≤40)(he:fK 0 l=0)(hr:∀o∈l,-9223372036854775808≤o.v.n∧o.v.n≤9223372036854775807):VP Tryz.prog G 79 [av 5 cO l] (.list 3 ((qS l).flatMap cT) (qS l).length):=by
 refine VC.body func79 rfl ntmps79 aS fun X0 w0 aZ=>?_;have da:=dW;refine af [0] ?_;refine bY ?_;refine bg [0,3] ?_;refine af [3,8,9,10] ?_;refine CD.block ?_;refine mR (fun (me:Nat×List (List Tk)×Option Addr×Nat×List ah) aI=>match me with|(i,H,An,j6,Sh)=>(i≤l.length)∧(H=(l.take i).foldl oe [])∧(fK ((H).length:Int) (l.drop i)=0)∧((H).length≤i)∧((H).flatten.length≤5*i)∧(bz 98 1 ((H).flatMap cK) (H).length An j6 Sh)∧aI=(⟨90,[(3,aR An (H).length j6),(8,av 5 cO l),(9,ae (l.length:Nat)),(10,ae (i:Nat))],(Sh)⟩:St)) (fun (me:Nat×List (List Tk)×Option Addr×Nat×List ah)=>match me with|(i,H,An,j6,Sh)=>l.length-i) (0,[],none,0,[]) ⟨(Nat.zero_le _),rfl,he,(Nat.le_refl _),(Nat.le_refl _),(bz.cast iI (by rfl)),rfl⟩ (aQ (h:=by repeat (first|exact trivial|refine⟨(by (repeat (first|exact fD|(apply fX;focus (first|rfl|(simp;done)|(congr 2;omega)|(apply eO;rw[hT];rfl)|(apply eO;rfl)|(apply eO;simp;done)))|(apply fH;focus rfl)));done),?_⟩))) ?_;rintro⟨i,H,An,j6,Sh⟩ _ ⟨hi,hH,hx,hHi,hHf,nN,rfl⟩;refine af [3,8,9,10,11] ?_;refine au ?_ ?_<;>intro aN bC
 ·have aa:i<l.length:=(by simp at aN;omega)
  have Am:=ads aa hx;obtain⟨dO,Vj,u9,GL⟩:=adr Am;have CX:=tr l[i].k;have K3:l.length≤40:=hl;have ail:eP H l[i]≤H.length:=Nat.sub_le _ _;have aim:=TJ u9 (hr _ (getElem_mem aa)).1 (hr _ (getElem_mem aa)).2;refine aD 2 ?_;refine OD.alloc (ds:=[_,_,_,_,_]) ap rfl rfl zeroValue43 rfl (fun b5=>?_);refine aP 0 [_,_,_,_,_] sizeOf43 ?_;refine an 90 [3,5,8,9,10] ?_;refine cQ [3,5,6,8,9,10] ?_;refine de (yA l[i].k) ?_;refine aU 0 ?_ (h:=by exact(c8 (r:=.int .i64 (((eP H l[i]):Nat):Int)) rfl ot ot (gk (by rw[show((H.length:Nat):Int)-bP l[i].k=(((eP H l[i]):Nat):Int) by unfold eP;omega];exact wrap_i64 w4 w4))));refine bG ?_;refine af [3,5,6,8,9,10] ?_;refine jV [6,8,9,10] (fun aW _ aI=>∃(Tx:List Tk),∃(ad:Option Addr),∃(cp:Nat),∃(Sx:List ah),(Tx=sD l[i] (H.getD (eP H l[i]) []) (H.getD (eP H l[i]+1) []))∧(bz 98 1 (H.flatMap cK) H.length ad cp Sx)∧aI=(⟨90,(3,aR ad H.length cp)::(7,av 3 cT Tx)::aW,Sx⟩:St)) ?_ ?_
  ·refine af [3,5,6,8,9,10,21] ?_;refine af [3,5,6,8,9,10,21,41] ?_;refine au ?_ ?_<;>intro aY cz
   ·refine iF [3,6,7,8,9,10] ?_;refine de (N5 l[i].v aim) ?_;refine bG ?_;refine⟨_,aQ,jn l[i].v,An,j6,Sh,(by unfold sD;rw[if_pos cz]),nN,rfl⟩
   refine af [3,5,6,8,9,10,21,46] ?_;refine au ?_ ?_<;>intro bZ cM
   ·refine iF [3,6,7,8,9,10] ?_;refine de (rX [l[i].nm] zT) ?_;refine bG ?_;refine⟨_,aQ,[bD l[i].nm],An,j6,Sh,(by unfold sD;rw[if_neg cz,if_pos cM]),nN,rfl⟩
   refine af [3,5,6,8,9,10,21,52] ?_;refine au ?_ ?_<;>intro cW ek
   ·have C0:l[i].k=5:=(by simpa using cW)
    have hp1:bP l[i].k=1:=(by rw[C0];decide)
    have hg1:=(uF (h:=H) (n:=eP H l[i])).1;have hg2:=(uF (h:=H) (n:=eP H l[i])).2;have hg3:=Ax H (eP H l[i]);have U:0<H.length:=(by omega)
    obtain⟨bh,E,I,O,Z⟩:=EU nN U;subst E Z;have gL:eP H l[i]<H.length:=(by unfold eP;omega)
    rw[mz gL] at hg1 hg2;skip;refine iF [3,6,7,8,9,10] ?_;refine de (mV ⟨#[40]⟩) ?_;refine de (qe ⟨#[78,79,84]⟩) ?_;refine aU 4 ?_ (h:=by first|exact(cR (mk:=Op.load 98) rfl ot L6)|exact(cR (mk:=Op.load 98) rfl ot L5)|exact(cR (mk:=Op.load 98) rfl ot L4));refine de (mV ⟨#[41]⟩) ?_;refine de (Ef ([[dV ⟨#[40]⟩,bD ⟨#[78,79,84]⟩],H[eP H l[i]],[dV ⟨#[41]⟩]]) Ma zI zI) ?_;refine bG ?_;refine⟨_,aQ,[[dV ⟨#[40]⟩,bD ⟨#[78,79,84]⟩],H[eP H l[i]],[dV ⟨#[41]⟩]].flatten,(some ⟨bh,0,none⟩),j6,[⟨bh,98,j6*1,H.flatMap cK⟩],(by unfold sD;rw[if_neg cz,if_neg cM,if_pos ek,mz gL]),(bF I O),rfl⟩
   refine af [3,5,6,8,9,10,65] ?_;refine au ?_ ?_<;>intro eA fA
   ·have M6:l[i].k=11:=(by simpa using eA)
    have hp1:bP l[i].k=1:=(by rw[M6];decide)
    have hg1:=(uF (h:=H) (n:=eP H l[i])).1;have hg2:=(uF (h:=H) (n:=eP H l[i])).2;have hg3:=Ax H (eP H l[i]);have U:0<H.length:=(by omega)
    obtain⟨bh,E,I,O,Z⟩:=EU nN U;subst E Z;have gL:eP H l[i]<H.length:=(by unfold eP;omega)
    rw[mz gL] at hg1 hg2;skip;refine iF [3,6,7,8,9,10] ?_;refine de (mV ⟨#[40]⟩) ?_;refine aU 4 ?_ (h:=by first|exact(cR (mk:=Op.load 98) rfl ot L6)|exact(cR (mk:=Op.load 98) rfl ot L5)|exact(cR (mk:=Op.load 98) rfl ot L4));refine de (rX [⟨#[73,83]⟩,⟨#[78,85,76,76]⟩] (by show 2≤10;decide)) ?_;refine de (mV ⟨#[41]⟩) ?_;refine de (Ef ([[dV ⟨#[40]⟩],H[eP H l[i]],[bD ⟨#[73,83]⟩,bD ⟨#[78,85,76,76]⟩],[dV ⟨#[41]⟩]]) Ma zI zI) ?_;refine bG ?_;refine⟨_,aQ,[[dV ⟨#[40]⟩],H[eP H l[i]],[bD ⟨#[73,83]⟩,bD ⟨#[78,85,76,76]⟩],[dV ⟨#[41]⟩]].flatten,(some ⟨bh,0,none⟩),j6,[⟨bh,98,j6*1,H.flatMap cK⟩],(by unfold sD;rw[if_neg cz,if_neg cM,if_neg ek,if_pos fA,mz gL]),(bF I O),rfl⟩
   have hkb:¬l[i].k=1∧¬l[i].k=2∧¬l[i].k=5∧¬l[i].k=11:=⟨by simpa using aY,by simpa using bZ,by simpa using cW,by simpa using eA⟩
   have ox:bP l[i].k=2:=(by unfold bP;rw[if_neg w4,if_neg w4])
   have hg1:=(uF (h:=H) (n:=eP H l[i])).1;have hg2:=(uF (h:=H) (n:=eP H l[i])).2;have hg3:=Ax H (eP H l[i]);have U:0<H.length:=(by omega)
   obtain⟨bh,E,I,O,Z⟩:=EU nN U;subst E Z;have gL:eP H l[i]<H.length:=(by unfold eP;omega)
   have gw:eP H l[i]+1<H.length:=(by unfold eP;omega)
   rw[mz gL,mz gw] at hg2;rw[mz gL] at hg1;refine iF [3,6,7,8,9,10] ?_;refine de (mV ⟨#[40]⟩) ?_;refine aU 4 ?_ (h:=by first|exact(cR (mk:=Op.load 98) rfl ot L6)|exact(cR (mk:=Op.load 98) rfl ot L5)|exact(cR (mk:=Op.load 98) rfl ot L4));refine de (Zb l[i].k w4) ?_;refine aU 3 ?_ (h:=by exact(c8 (r:=.int .i64 ((((eP H l[i])+1:Nat)):Int)) rfl ot bL (ko (by rw[show(((eP H l[i]):Nat):Int)+1=(((eP H l[i])+1:Nat):Int) by omega];exact wrap_i64 w4 w4))));refine aU 1 ?_ (h:=by first|exact(cR (mk:=Op.load 98) rfl ot (by exact ja (k:=0) (i:=((eP H l[i])+1)) gm rfl rfl rfl isAgg98 gw rfl))|exact(cR (mk:=Op.load 98) rfl ot (by exact ja (k:=1) (i:=((eP H l[i])+1)) gm rfl rfl rfl isAgg98 gw rfl))|exact(cR (mk:=Op.load 98) rfl ot (by exact ja (k:=2) (i:=((eP H l[i])+1)) gm rfl rfl rfl isAgg98 gw rfl)));refine de (mV ⟨#[41]⟩) ?_;refine de (Ef ([[dV ⟨#[40]⟩],H[eP H l[i]],[zi l[i].k],H[eP H l[i]+1],[dV ⟨#[41]⟩]]) Ma zI zI) ?_;refine bG ?_;refine⟨_,aQ,[[dV ⟨#[40]⟩],H[eP H l[i]],[zi l[i].k],H[eP H l[i]+1],[dV ⟨#[41]⟩]].flatten,(some ⟨bh,0,none⟩),j6,[⟨bh,98,j6*1,H.flatMap cK⟩],(by unfold sD;rw[if_neg cz,if_neg cM,if_neg ek,if_neg fA,mz gL,mz gw]),(bF I O),rfl⟩
  rintro _ ⟨Tx,ad,cp,Sx,hT,ec,rfl⟩;have hTl:=RZ l[i] (H.getD (eP H l[i]) []) (H.getD (eP H l[i]+1) []);refine dN 3 ?_;refine bH (Yj ec rfl ot ot ot runUnderlying130 sizeOf98 (by unfold eP;omega)) ?_;refine aE 1 ?_;refine ez (cf 0 [_]) [.slice none 0 0] [_] zeroValue98 runUnderlying130 sizeOf98 (fun b84=>?_);refine fP 0 84 1 1 ?_;refine OD.Y7 (ls:=H) (new:=[Tx]) (n:=eP H l[i]) (Sq:=Sx) gm pA ap rfl rfl underlying130 Zc rfl w7 ot ec (dD (A:=[])) (by unfold eP;omega) ot bu (by simp only[maxLen,length_cons,length_nil];omega) (by simp only[length_cons,length_nil];omega) (fun M7 K4 ain aio=>?_);refine OD.perm (ee (S1:=[⟨M7,98,K4*1,flatMap cK (H.take (eP H l[i])++[Tx])⟩]) (A:=[])) ?_;refine an 90 [3,8,9,10] ?_;refine cm [3,8,9,10] ?_;refine⟨((i+1),(oe H l[i]),(some ⟨M7,0,none⟩),K4,[⟨M7,98,K4*1,flatMap cK (H.take (eP H l[i])++[Tx])⟩]),_,cD,(aQ (h:=by repeat (first|exact trivial|refine⟨(by (repeat (first|exact fD|(apply fX;focus (first|rfl|(simp;done)|(congr 2;omega)|(apply eO;rw[hT];rfl)|(apply eO;rfl)|(apply eO;simp;done)))|(apply fH;focus rfl)));done),?_⟩))),w4,(by rw[hH,←Z5 aa]),(by rw[Qj GL,←PT aa Am];exact hx),(by have:=Qj GL;omega),(by have:=OX (h:=H) (o:=l[i]);omega),(bz.cast (bF ain aio) (by rw[hT];rfl)),rfl⟩
 have tZ:l.length≤i:=(by simp at aN;omega)
 have ff:=hx;rw[OU tZ] at ff;have hH1:H.length=1:=(by (split at ff;omega;cases ff))
 refine CD.exit ?_;refine CD.seq ?_;obtain⟨bh,E,I,O,Z⟩:=EU nN (show 0<H.length by omega);subst E Z;have gL:0<H.length:=(by omega)
 refine iF [2] ?_;refine aU 1 ?_ (h:=by exact(rS (mk:=Op.indexAddr 130) rfl ot bL (by first|exact tE runUnderlying130 sizeOf98 (j:=0) rfl (by first|exact gL|exact gw)|exact tI runUnderlying130 sizeOf98 (j:=0) rfl (by first|exact gL|exact gw))));refine aU 0 ?_ (h:=by first|exact(cR (mk:=Op.load 98) rfl ot (by exact ja (k:=0) (i:=0) gm rfl rfl rfl isAgg98 gL rfl))|exact(cR (mk:=Op.load 98) rfl ot (by exact ja (k:=1) (i:=0) gm rfl rfl rfl isAgg98 gL rfl))|exact(cR (mk:=Op.load 98) rfl ot (by exact ja (k:=2) (i:=0) gm rfl rfl rfl isAgg98 gL rfl)));refine bG ?_;refine aJ [] ?_;refine⟨?_,rfl⟩;unfold qS;rw[show l.foldl oe []=H by rw[hH,take_of_length_le tZ],mz gL]

end Go.Proofs.YtdgichenhdikgaaGreatDoor.Pa
namespace Go.Proofs.YtdgichenhdikgaaGreatDoor.Pa

open List
open Go.Proofs.Tryz
open Go.RowKit V Pk Vl Go.Proofs.YtdgichenhdikgaaGreatDoor.Nm Pc
variable {G:List (Nat×List Value)}
variable {α:Type} {i:Nat} {E:List ByteArray}
def bI(s:cx):List D:=[ae s.kind,bn s.table,av 2 cC s.az,av 3 cV s.row,av 1 cS s.names,cg s.count,av 5 cO s.aj,bn s.order,cg s.down,ae s.ig,bn s.set,av 5 cO s.bU]
def okS(s:cx):Prop:=s.az.length≤6∧s.row.length≤6∧s.names.length≤6∧s.aj.length≤40∧s.bU.length≤40

def jN{α:Type}(f:α→Int):List α→Int
 | []=>0
 | a::r=>if f a≠0 then f a else jN f r
theorem Qk{f:α→Int}{l:List α}(hi:i<l.length)(h:f l[i]≠0):jN f (l.drop i)=f l[i]:=by rw[drop_eq_getElem_cons hi,jN,if_pos h]
theorem Ql{f:α→Int}{l:List α}(hi:i<l.length)(h:f l[i]=0):jN f (l.drop i)=jN f (l.drop (i+1)):=by rw[drop_eq_getElem_cons hi,jN,if_neg (by rw[h];decide)]
theorem OY{f:α→Int}{l:List α}(hi:l.length≤i):jN f (l.drop i)=0:=by rw[drop_of_length_le hi];rfl
def en(l:List Vl):Int:=if l.length<1∨l.length>6 then 1 else jN iU l
def nE(l:List aX):Int:=if l.length=0 then 0 else iT l
def oK(s:cx):Int :=
 if s.names.length>6 then 1 else if s.ig < -1 then 3
 else if (s.count=true∧0<s.names.length)∨(s.down=true∧jh s.order ⟨#[]⟩=true) then 6
 else if jN cU s.names≠0 then jN cU s.names else if nE s.aj≠0 then nE s.aj else if jh s.order ⟨#[]⟩=true then 0 else cU s.order
def ku(s h:cx):Bool:=jh s.table h.table&&(((s.az.length:Int)==(h.az.length:Int))&&(((s.row.length:Int)==(h.row.length:Int))&&(((s.names.length:Int)==(h.names.length:Int))&&((s.count==h.count)&&(((s.aj.length:Int)==(h.aj.length:Int))&&(jh s.order h.order&&((s.down==h.down)&&((s.ig==h.ig)&&(jh s.set h.set&&((s.bU.length:Int)==(h.bU.length:Int)))))))))))
structure j3 (s:cx):Prop where
 ok:okS s
 t:s.table.size≤maxLen
 c:∀c∈s.az,c.n.size≤maxLen
 n:∀x∈s.names,x.size≤maxLen
 o:s.order.size≤maxLen
 e:s.set.size≤maxLen
 r:∀v∈s.row,-9223372036854775808≤v.n∧v.n≤9223372036854775807
 w:∀o∈s.aj,o.nm.size≤maxLen∧-9223372036854775808≤o.v.n∧o.v.n≤9223372036854775807
 x:∀o∈s.bU,o.nm.size≤maxLen∧-9223372036854775808≤o.v.n∧o.v.n≤9223372036854775807
def kx(l:List aX):List Tk:=if l.length=0 then [] else [⟨#[87,72,69,82,69]⟩].map bD++qS l
theorem PU(hm:(3,marksC)∈G)(hw:(1,wordsC)∈G)(l:List ByteArray)(hl:l.length≤1000)(hs:∀s∈l,s.size≤maxLen):VP Tryz.prog G 115 [av 1 cS l] (ae (jN cU l)):=by
 refine VC.body func115 rfl ntmps115 aS fun X0 w0 aZ=>?_;refine af [0] ?_;refine af [6,7,8] ?_;refine eK [6,7] (fun aW _ (i:Nat) aI=>(i≤l.length)∧(jN cU l=jN cU (l.drop i))∧aI=(⟨18,(8,ae (i:Nat))::aW,[]⟩:St)) (fun (i:Nat)=>l.length-i) 0 ⟨(Nat.zero_le _),rfl,rfl⟩ ?_;rintro i _ ⟨hi,hx,rfl⟩;refine af [6,7,8,9] ?_;refine au ?_ ?_<;>intro aN bC
 ·have aa:i<l.length:=(by simp at aN;omega)
  refine af [4,6,7,8] ?_;refine cH [5,6,7,8] (tv hm hw l[i] (hs _ (getElem_mem aa))) ?_;refine af [5,6,7,8,15] ?_;refine au ?_ ?_<;>intro aY cz
  ·have hn:cU l[i]≠0:=(by simpa using aY)
   have ff:=hx.trans (Qk aa hn);refine af [2] ?_;exact xH
  have h0:cU l[i]=0:=(by simpa using aY)
  refine cm [6,7,8] ?_;refine⟨(i+1),_,cD,aQ,w4,(hx.trans (Ql aa h0)),rfl⟩
 have ff:jN cU l=0:=hx.trans (OY sL);refine af [2] ?_;exact Cx
theorem adt(l:List Vl)(hl:l.length≤1000):VP Tryz.prog G 68 [av 3 cV l] (ae (en l)):=by
 refine VC.body func68 rfl ntmps68 aS fun X0 w0 aZ=>?_;have O:(l.length<1∨l.length>6)∨¬(l.length<1∨l.length>6):=(by omega)
 refine af [0] ?_;refine aD 4 ?_;refine bX 9 (fun I E=>?_) (fun I E=>?_)
 ·refine bg [0,13] ?_;refine eM ?_;exact UR
 refine bg [0,13] ?_;refine au ?_ ?_<;>intro aN bC
 ·exact UR
 have hf:en l=jN iU l:=if_neg w4;refine af [14,15,16] ?_;refine eK [14,15] (fun aW _ (i:Nat) aI=>(i≤l.length)∧(jN iU l=jN iU (l.drop i))∧aI=(⟨26,(16,ae (i:Nat))::aW,[]⟩:St)) (fun (i:Nat)=>l.length-i) 0 ⟨(Nat.zero_le _),rfl,rfl⟩ ?_;rintro i _ ⟨hi,hx,rfl⟩;refine af [14,15,16,17] ?_;refine au ?_ ?_<;>intro aY cz
 ·have aa:i<l.length:=(by simp at aY;omega)
  refine aD 2 ?_;refine OD.alloc (ds:=[_,_,_]) ap rfl rfl zeroValue41 rfl (fun b4=>?_);refine aP 0 [_,_,_] sizeOf41 ?_;refine an 26 [4,14,15,16] ?_;refine cH [5,14,15,16] (Nm.Ol l[i]) ?_;refine af [5,14,15,16,23] ?_;refine au ?_ ?_<;>intro bZ cM
  ·have hn:iU l[i]≠0:=(by simpa using bZ)
   have ff:=hf.trans (hx.trans (Qk aa hn));refine af [2] ?_;exact xH
  have h0:iU l[i]=0:=(by simpa using bZ)
  refine cm [14,15,16] ?_;refine⟨(i+1),_,cD,aQ,w4,(hx.trans (Ql aa h0)),rfl⟩
 have ff:en l=0:=hf.trans (hx.trans (OY (by simp at aY;omega)));refine af [2] ?_;exact Cx
theorem D6(hm:(3,marksC)∈G)(hw:(1,wordsC)∈G)(l:List aX)(hs:∀o∈l,o.nm.size≤maxLen):VP Tryz.prog G 71 [av 5 cO l] (ae (nE l)):=by
 refine VC.body func71 rfl ntmps71 aS fun X0 w0 aZ=>?_;refine af [0] ?_;refine af [0,5] ?_;refine au ?_ ?_<;>intro aN bC
 ·have ff:nE l=0:=if_pos sL;refine af [2] ?_;exact xH
 have ff:nE l=iT l:=if_neg sL;refine cH [2] (I6 hm hw l hs) ?_;exact Cx
theorem abF(hm:(3,marksC)∈G)(hw:(1,wordsC)∈G)(s:cx)(hf:j3 s):VP Tryz.prog G 69 [.agg (bI s)] (ae (oK s)):=by
 refine VC.body func69 rfl ntmps69 aS fun X0 w0 aZ=>?_;unfold bI;refine bY ?_;refine OD.box (ds:=[_,_,_,_,_,_,_,_,_,_,_,_]) ap rfl rfl ot rfl rfl (fun b1=>?_);refine an 50 [1] ?_;refine af [1,5] ?_;refine au ?_ ?_<;>intro aN bC
 ·refine af [2] ?_;refine aJ [] ?_;exact V5
 refine af [1,10] ?_;refine au ?_ ?_<;>intro aY cz
 ·refine af [2] ?_;refine aJ [] ?_;exact V5
 refine aD 3 ?_;refine bX 17 (fun wU wG=>?_) (fun wU wG=>?_)
 ·refine aE 6 ?_;refine bX 23 (fun U O=>?_) (fun U O=>?_)
  ·refine bg [1,14] ?_;refine eM ?_;refine af [2] ?_;exact z24
  refine aE 3 ?_;refine bX 26 (fun I E=>?_) (fun I E=>?_)
  ·exact z139
  refine bg [1,14] ?_;refine fT ?_;exact z20
 refine xI 4 ?_;refine aE 5 ?_;refine bX 26 (fun I E=>?_) (fun I E=>?_)
 ·exact z139
 refine bg [1,14] ?_;refine fT ?_;refine cH [1,3] (PU hm hw s.names (by have:=hf.ok.2.2.1;omega) hf.n) ?_;refine af [1,3,36] ?_;refine au ?_ ?_<;>intro cW ek
 ·refine af [2] ?_;exact z24
 refine cH [1,4] (D6 hm hw s.aj (fun o h=>(hf.w o h).1)) ?_;refine af [1,4,42] ?_;refine au ?_ ?_<;>intro eA fA
 ·refine af [2] ?_;exact z24
 refine af [1,46] ?_;refine au ?_ ?_<;>intro fx gG
 ·refine cH [2] (tv hm hw s.order hf.o) ?_;exact z24
 refine af [2] ?_;refine eR ?_;refine⟨vi ?_,rfl⟩;unfold oK jh;simp_all;all_goals (try (intros;(repeat' split)<;>first|rfl|omega))
theorem adu(s h:cx):VP Tryz.prog G 72 [.agg (bI s),.agg (bI h)] (cg (ku s h)):=by
 refine VC.body func72 rfl ntmps72 aS fun X0 w0 aZ=>?_;unfold bI;refine bY ?_;refine OD.box (ds:=[_,_,_,_,_,_,_,_,_,_,_,_]) ap rfl rfl ot rfl rfl (fun b2=>?_);refine OD.box (ds:=[_,_,_,_,_,_,_,_,_,_,_,_]) ap rfl rfl ot rfl rfl (fun b3=>?_);refine an 90 [2,3] ?_;refine aD 6 ?_;refine bX 10 (fun aip E=>?_) (fun aip E=>?_)
 ·refine aE 9 ?_;refine bX 19 (fun K5 I=>?_) (fun K5 I=>?_)
  ·refine aE 9 ?_;refine bX 28 (fun aiq O=>?_) (fun aiq O=>?_)
   ·refine aE 9 ?_;refine bX 37 (fun air U=>?_) (fun air U=>?_)
    ·refine aE 4 ?_;refine OD.still iu rfl (c8 rfl ot ot (Er underlying4)) ?_;refine aE 2 ?_;refine bX 44 (fun ais Z=>?_) (fun ais Z=>?_)
     ·refine aE 9 ?_;refine bX 53 (fun K6 Kf=>?_) (fun K6 Kf=>?_)
      ·refine aE 7 ?_;refine bX 60 (fun ait Kg=>?_) (fun ait Kg=>?_)
       ·refine aE 4 ?_;refine OD.still iu rfl (c8 rfl ot ot (Er underlying4)) ?_;refine aE 2 ?_;refine bX 67 (fun aiu agz=>?_) (fun aiu agz=>?_)
        ·refine aE 7 ?_;refine bX 74 (fun aiv agA=>?_) (fun aiv agA=>?_)
         ·refine aE 7 ?_;refine bX 81 (fun aiw agB=>?_) (fun aiw agB=>?_)
          ·exact z46
          exact z46
         exact z46
        exact z46
       exact z46
      exact z46
     exact z46
    refine bg [4] ?_;refine eR ?_;exact Mj
   refine bg [4] ?_;refine eR ?_;exact Mj
  refine bg [4] ?_;refine eR ?_;exact Mj
 refine bg [4] ?_;refine eR ?_;refine⟨vb ?_,rfl⟩;unfold ku jh;simp_all;all_goals (try (intros;omega))
theorem YP:(Tryz.prog.info? 137).map (fun i=>(i.zero,i.size,i.bytes))=some (some (.agg #[.int .i64 0,.string ⟨#[]⟩,.int .i64 0]),3,32):=by kernel_rfl
theorem Ho(l:List aX)(hl:l.length≤40)(he:l.length=0∨fK 0 l=0)(hr:∀o∈l,-9223372036854775808≤o.v.n∧o.v.n≤9223372036854775807)(hsl:(qS l).length≤1000):VP Tryz.prog G 80 [av 5 cO l] (.list 3 ((kx l).flatMap cT) (kx l).length):=by
 refine VC.body func80 rfl ntmps80 aS fun X0 w0 aZ=>?_;refine af [0] ?_;refine af [0,5] ?_;refine au ?_ ?_<;>intro aN bC
 ·have ff:kx l=[]:=if_pos sL;refine af [2] ?_;refine CD.wk (Wk.tw (t:=2) (sz:=3) lk) ?_;exact xH
 have ff:kx l=[⟨#[87,72,69,82,69]⟩].map bD++qS l:=if_neg sL;have I:fK 0 l=0:=he.resolve_left sL;refine bY ?_;refine ez (cf 0 [_]) [.string ⟨#[]⟩] [_] zeroValue9 runUnderlying29 sizeOf9 (fun b6=>?_);refine OD.perm (ee (S1:=[⟨b6,9,1*1,flatMap cS ([⟨#[87,72,69,82,69]⟩])⟩]) (A:=[])) ?_;refine OD.ij (t:=6) (Sq:=[⟨b6,9,1*1,flatMap cS ([⟨#[87,72,69,82,69]⟩])⟩]) lk (bF (g:=cS) (sz:=1) (e:=9) (ls:=[⟨#[87,72,69,82,69]⟩]) (Nat.le_refl _) (show 1≤maxLen by decide)) (cn jl _) (dD (A:=[])) ?_;refine OD.call ap rfl rfl rfl call73 (yM [⟨#[87,72,69,82,69]⟩] zT) ⟨ot,trivial⟩ (eT _) ?_;rintro _ S7 ⟨Xo,Xp,rfl,pR⟩;refine OD.perm (S':=S7) (append_nil _ ▸ Perm.refl _) ?_;refine aE 1 ?_;refine dS call79 (Ot l hl I hr) ?_;refine OD.ph (ls:=([⟨#[87,72,69,82,69]⟩].map bD)) (new:=(qS l)) (Sq:=S7) iJ lH ap rfl rfl underlying98 YP rfl w7 runUnderlying98 sizeOf137 ot pR (dD (A:=[])) ot (by simp only[maxLen,length_map,length_cons,length_nil];omega) (by simp only[length_map,length_cons,length_nil];omega) (fun U Z O E=>?_);refine OD.perm (ee (A:=[])) ?_;refine an 11 [2] ?_;refine CD.ij (t:=2) (Sq:=O) lk E (cn iJ _) (dD (A:=[])) ?_;exact Cx

def q8(s:cx):ByteArray:=if s.kind<7 then s.table else ⟨#[]⟩
def iA(s:cx):cx :=
 if s.kind=1 then {gN with kind:=s.kind,table:=(q8 s),az:=s.az} else if s.kind=3 then {gN with kind:=s.kind,table:=(q8 s),row:=s.row} else if s.kind=4 then {gN with kind:=s.kind,table:=(q8 s),names:=s.names,count:=s.count,aj:=s.aj,order:=s.order,down:=s.down,ig:=s.ig} else if s.kind=5 then {gN with kind:=s.kind,table:=(q8 s),set:=s.set,bU:=s.bU,aj:=s.aj} else if s.kind=6 then {gN with kind:=s.kind,table:=(q8 s),aj:=s.aj} else {gN with kind:=s.kind,table:=(q8 s)}
def jF(s:cx):Int :=
 if s.kind=1 then fI s.az else if s.kind=3 then en s.row else if s.kind=4 then oK s
 else if s.kind=5 then (if cU s.set=0 then (if iT s.bU=0 then nE s.aj else iT s.bU) else cU s.set) else if s.kind=6 then nE s.aj else 0
def gP(s:cx):Int:=if s.kind<7∧cU s.table≠0 then cU s.table else if jF s=0∧ku s (iA s)=false then 6 else jF s
theorem Z6(hm:(3,marksC)∈G)(hw:(1,wordsC)∈G)(s:cx)(hf:j3 s):VP Tryz.prog G 38 [.agg (bI s)] (ae (gP s)):=by
 refine VC.body func38 rfl ntmps38 aS fun X0 w0 aZ=>?_;have I:=abF hm hw s hf;unfold bI at I;unfold bI;refine bY ?_;refine OD.box (ds:=[_,_,_,_,_,_,_,_,_,_,_,_]) ap rfl rfl ot rfl rfl (fun b1=>?_);refine an 102 [1] ?_;refine aD 3 ?_;refine OD.alloc (ds:=[_,_,_,_,_,_,_,_,_,_,_,_]) ap rfl rfl zeroValue32 rfl (fun b3=>?_);refine aP 0 [_,_,_,_,_,_,_,_,_,_,_,_] sizeOf32 ?_;refine an 102 [1,3] ?_;refine jV [1,3] (fun aW _ aI=>∃(tb:ByteArray),(tb=q8 s)∧(¬(s.kind<7∧cU s.table≠0))∧aI=(⟨102,aW,[⟨b3,32,12,[ae s.kind,bn tb,.list 2 [] 0,.list 3 [] 0,.list 1 [] 0,cg false,.list 5 [] 0,fL,cg false,ae (-1),fL,.list 5 [] 0]⟩,⟨b1,32,12,[ae s.kind,bn s.table,av 2 cC s.az,av 3 cV s.row,av 1 cS s.names,cg s.count,av 5 cO s.aj,bn s.order,cg s.down,ae s.ig,bn s.set,av 5 cO s.bU]⟩]⟩:St)) ?_ ?_
 ·refine CD.seq ?_;refine CD.cells (k:=0) (cs':=[_,_,.list 2 [] 0,.list 3 [] 0,.list 1 [] 0,_,.list 5 [] 0,_,_,_,_,.list 5 [] 0]) (S':=[_,_]) rfl (by repeat (first|exact trivial|exact⟨cY,trivial⟩|exact⟨eV,trivial⟩|refine⟨cY,?_⟩|refine⟨eV,?_⟩)) rfl ?_;refine cm [1,3,11] ?_;refine au ?_ ?_<;>intro aN bC
  ·refine aD 3 ?_;refine aP 0 [_,_,_,_,_,_,_,_,_,_,_,_] sizeOf9 ?_;refine an 102 [1,3] ?_;refine cH [1,3,4] (tv hm hw s.table hf.t) ?_;refine af [1,3,4,19] ?_;refine au ?_ ?_<;>intro aY cz
   ·have aV:gP s=cU s.table:=(by unfold gP;rw[if_pos ⟨bC,by simpa using aY⟩])
    exact Ms
   have gL:cU s.table=0:=(by simpa using aY)
   have O:s.table=q8 s:=(by unfold q8;rw[if_pos bC])
   have U:¬(s.kind<7∧cU s.table≠0):=fun h=>h.2 gL;refine CD.skip ?_;refine⟨_,aQ,s.table,O,U,rfl⟩
  have O:(⟨#[]⟩:ByteArray)=q8 s:=(by unfold q8;rw[if_neg w4])
  have U:¬(s.kind<7∧cU s.table≠0):=fun h=>by omega
  refine CD.skip ?_;refine⟨_,aQ,⟨#[]⟩,O,U,rfl⟩
 rintro _ ⟨tb,qv,j5,rfl⟩;refine af [1,3,5] ?_;refine jV [1,3] (fun aW _ aI=>∃(H:cx),∃(e:Int),(H=iA s)∧(e=jF s)∧aI=(⟨102,(5,ae e)::aW,[⟨b3,32,12,[ae H.kind,bn H.table,av 2 cC H.az,av 3 cV H.row,av 1 cS H.names,cg H.count,av 5 cO H.aj,bn H.order,cg H.down,ae H.ig,bn H.set,av 5 cO H.bU]⟩,⟨b1,32,12,[ae s.kind,bn s.table,av 2 cC s.az,av 3 cV s.row,av 1 cS s.names,cg s.count,av 5 cO s.aj,bn s.order,cg s.down,ae s.ig,bn s.set,av 5 cO s.bU]⟩]⟩:St)) ?_ ?_
 ·refine af [1,3,5,22] ?_;refine af [1,3,5,22,23] ?_;refine au ?_ ?_<;>intro bZ cM
  ·refine aD 3 ?_;refine aP 0 [_,_,_,_,_,_,_,_,_,_,_,_] sizeOf27 ?_;refine an 102 [1,3] ?_;refine iF [1,3,5] ?_;refine de (adq hm hw s.az (by have:=hf.ok.1;simp only[maxLen];omega) hf.c) ?_;refine bG ?_;refine⟨_,aQ,{gN with kind:=s.kind,table:=tb,az:=s.az},fI s.az,(by unfold iA;rw[if_pos cM,qv]),(by unfold jF;rw[if_pos cM]),rfl⟩
  refine af [1,3,5,22,31] ?_;refine au ?_ ?_<;>intro cW ek
  ·refine aD 3 ?_;refine aP 0 [_,_,_,_,_,_,_,_,_,_,_,_] sizeOf28 ?_;refine an 102 [1,3] ?_;refine iF [1,3,5] ?_;refine de (adt s.row (by have:=hf.ok.2.1;omega)) ?_;refine bG ?_;refine⟨_,aQ,{gN with kind:=s.kind,table:=tb,row:=s.row},en s.row,(by unfold iA;rw[if_neg cM,if_pos ek,qv]),(by unfold jF;rw[if_neg cM,if_pos ek]),rfl⟩
  refine af [1,3,5,22,39] ?_;refine au ?_ ?_<;>intro eA fA
  ·refine CD.seq ?_;refine fO 22 (aq (eraseIdx _ 0)) ?_ (fun _ h=>(Sublist.map _ (eraseIdx_sublist _ 0)).subset h);refine ay 0 rfl (dj 4) ?_;refine ay 1 rfl (dJ 1) ?_;refine ay 2 rfl (dj 5) ?_;refine ay 3 rfl (dJ 1) ?_;refine ay 4 rfl (dj 6) ?_;refine ay 5 rfl (dJ 1) ?_;refine ay 6 rfl (dj 7) ?_;refine ay 7 rfl (dJ 1) ?_;refine ay 8 rfl (dj 8) ?_;refine ay 9 rfl (dJ 1) ?_;refine ay 10 rfl (dj 9) ?_;refine ay 11 rfl (dJ 1) ?_;refine ay 12 rfl (dj 4) ?_;refine di.later rfl ?_;refine AD.one (i:=13) aA ?_;refine dU 0 [_,_,_,_,_,_,_,_,_,_,_,_] sizeOf29 ?_;refine cy 14 rfl (dj 5) ?_;refine AD.one (i:=15) aA ?_;refine dU 0 [_,_,_,_,_,_,_,_,_,_,_,_] sizeOf4 ?_;refine cy 16 rfl (dj 6) ?_;refine AD.one (i:=17) aA ?_;refine dU 0 [_,_,_,_,_,_,_,_,_,_,_,_] sizeOf30 ?_;refine cy 18 rfl (dj 7) ?_;refine AD.one (i:=19) aA ?_;refine dU 0 [_,_,_,_,_,_,_,_,_,_,_,_] sizeOf9 ?_;refine cy 20 rfl (dj 8) ?_;refine AD.one (i:=21) aA ?_;refine dU 0 [_,_,_,_,_,_,_,_,_,_,_,_] sizeOf4 ?_;refine eJ ?_;refine aE 1 ?_;refine aP 0 [_,_,_,_,_,_,_,_,_,_,_,_] sizeOf3 ?_;refine an 102 [1,3] ?_;refine iF [1,3,5] ?_;refine de (I) ?_;refine bG ?_;refine⟨_,aQ,{gN with kind:=s.kind,table:=tb,names:=s.names,count:=s.count,aj:=s.aj,order:=s.order,down:=s.down,ig:=s.ig},oK s,(by unfold iA;rw[if_neg cM,if_neg ek,if_pos fA,qv]),(by unfold jF;rw[if_neg cM,if_neg ek,if_pos fA]),rfl⟩
  refine af [1,3,5,22,61] ?_;refine au ?_ ?_<;>intro fx gG
  ·refine CD.seq ?_;refine fO 10 (aq (eraseIdx _ 0)) ?_ (fun _ h=>(Sublist.map _ (eraseIdx_sublist _ 0)).subset h);refine ay 0 rfl (dj 10) ?_;refine ay 1 rfl (dJ 1) ?_;refine ay 2 rfl (dj 11) ?_;refine ay 3 rfl (dJ 1) ?_;refine ay 4 rfl (dj 6) ?_;refine ay 5 rfl (dJ 1) ?_;refine ay 6 rfl (dj 10) ?_;refine di.later rfl ?_;refine AD.one (i:=7) aA ?_;refine dU 0 [_,_,_,_,_,_,_,_,_,_,_,_] sizeOf9 ?_;refine cy 8 rfl (dj 11) ?_;refine AD.one (i:=9) aA ?_;refine dU 0 [_,_,_,_,_,_,_,_,_,_,_,_] sizeOf30 ?_;refine eJ ?_;refine aE 1 ?_;refine aP 0 [_,_,_,_,_,_,_,_,_,_,_,_] sizeOf30 ?_;refine an 102 [1,3] ?_;refine cH [1,3,5] (tv hm hw s.set hf.e) ?_;refine af [1,3,5,76] ?_;refine au ?_ ?_<;>intro gX kO
   ·have Z:cU s.set=0:=(by simpa using gX)
    refine iF [1,3,5] ?_;refine de (I6 hm hw s.bU (fun o h=>(hf.x o h).1)) ?_;refine bG ?_;refine af [1,3,5,81] ?_;refine au ?_ ?_<;>intro gv lp
    ·have M8:iT s.bU=0:=(by simpa using gv)
     refine iF [1,3,5] ?_;refine de (D6 hm hw s.aj (fun o h=>(hf.w o h).1)) ?_;refine bG ?_;refine⟨_,aQ,{gN with kind:=s.kind,table:=tb,set:=s.set,bU:=s.bU,aj:=s.aj},nE s.aj,L7,(by unfold jF;rw[if_neg cM,if_neg ek,if_neg fA,if_pos gG,if_pos Z,if_pos M8]),rfl⟩
    have M8:¬iT s.bU=0:=(by simpa using gv)
    refine CD.skip ?_;refine⟨_,aQ,{gN with kind:=s.kind,table:=tb,set:=s.set,bU:=s.bU,aj:=s.aj},iT s.bU,L7,(by unfold jF;rw[if_neg cM,if_neg ek,if_neg fA,if_pos gG,if_pos Z,if_neg M8]),rfl⟩
   have Z:¬cU s.set=0:=(by simpa using gX)
   refine af [1,3,5,81] ?_;refine au ?_ ?_<;>intro gv lp
   ·exact absurd gv (by simp[Z])
   refine CD.skip ?_;refine⟨_,aQ,{gN with kind:=s.kind,table:=tb,set:=s.set,bU:=s.bU,aj:=s.aj},cU s.set,L7,(by unfold jF;rw[if_neg cM,if_neg ek,if_neg fA,if_pos gG,if_neg Z]),rfl⟩
  refine af [1,3,5,85] ?_;refine au ?_ ?_<;>intro pQ E
  ·refine aD 3 ?_;refine aP 0 [_,_,_,_,_,_,_,_,_,_,_,_] sizeOf30 ?_;refine an 102 [1,3] ?_;refine iF [1,3,5] ?_;refine de (D6 hm hw s.aj (fun o h=>(hf.w o h).1)) ?_;refine bG ?_;refine⟨_,aQ,{gN with kind:=s.kind,table:=tb,aj:=s.aj},nE s.aj,(by unfold iA;rw[if_neg cM,if_neg ek,if_neg fA,if_neg gG,if_pos E,qv]),(by unfold jF;rw[if_neg cM,if_neg ek,if_neg fA,if_neg gG,if_pos E]),rfl⟩
  refine CD.skip ?_;refine⟨_,aQ,{gN with kind:=s.kind,table:=tb},0,(by unfold iA;rw[if_neg cM,if_neg ek,if_neg fA,if_neg gG,if_neg E,qv]),(by unfold jF;rw[if_neg cM,if_neg ek,if_neg fA,if_neg gG,if_neg E]),rfl⟩
 rintro _ ⟨H,e,hH,C1,rfl⟩;refine CD.seq ?_;refine CD.seq ?_;have Uj:=adu (G:=G) s H;unfold bI at Uj;refine dN 3 ?_;refine bX 95 (fun Vk agC=>?_) (fun Vk agC=>?_)
 ·refine aE 2 ?_;refine OD.gZ iu rfl rfl rfl call72 (Uj) ⟨ot,ot,trivial⟩ ?_;refine an 102 [5,100] ?_;refine au ?_ ?_<;>intro C2 K7
  ·have aV:gP s=6:=(by unfold gP;rw[if_neg j5,if_pos ⟨by rw[←C1];simpa using Vk,by rw[←hH];simpa using C2⟩])
   refine cm [5] ?_;exact Ms
  have aV:gP s=e:=(by unfold gP;rw[if_neg j5,if_neg (by rw[←C1,←hH];exact(fun h=>by obtain⟨h1,h2⟩:=h;simp_all)),C1])
  exact Ms
 refine bg [5,100] ?_;refine fT ?_;have aV:gP s=e:=(by unfold gP;rw[if_neg j5,if_neg (by rw[←C1,←hH];exact(fun h=>by obtain⟨h1,h2⟩:=h;simp_all)),C1])
 refine af [2] ?_;refine eR ?_;exact⟨by first|rw[aV]|rw[aV];rfl,rfl⟩

theorem OZ:∀(l:List aX) (H:List (List Tk)),(l.foldl oe H).flatten.length≤H.flatten.length+5*l.length
 | [],H=>by simp
 | o::r,H=>by
  have h1:=OZ r (oe H o);have h2:=OX (h:=H) (o:=o);rw[foldl_cons,length_cons];omega
theorem Eg(l:List aX):(qS l).length≤5*l.length:=by
 have h:=OZ l [];have h2:=(uF (h:=l.foldl oe []) (n:=0)).1;have h3:=Ax (l.foldl oe []) 0;simp only[List.take_zero,flatten_nil,length_nil] at h h3;unfold qS;omega
theorem O0(l:List aX):(kx l).length≤5*l.length+1:=by
 have h:=Eg l;unfold kx;split
 ·simp
 rw[length_append,length_map];simp only[length_cons,length_nil];omega
def jP(ns:List ByteArray):Nat→List Tk
 | 0=>[]
 | i+1=>jP ns i++(if i>0 then [dV ⟨#[44]⟩] else [])++[bD (ns.getD i ⟨#[]⟩)]
theorem If(E:List ByteArray):∀i,(jP E i).length≤2*i
 | 0=>Nat.le_refl _
 | i+1=>by
  have I:=If E i;have h3:(if i>0 then [dV ⟨#[44]⟩] else []).length≤1:=(by split<;>simp)
  unfold jP;rw[length_append,length_append];simp only[length_cons,length_nil];omega
theorem HF(hi:i<E.length)(h:0<i)(X:List Tk):((X++jP E i)++[dV ⟨#[44]⟩])++[bD E[i]]=X++jP E (i+1):=by
 rw[jP,if_pos h,mz hi];simp only[append_assoc]
theorem Hv(hi:i<E.length)(h:¬0<i)(X:List Tk):(X++jP E i)++[bD E[i]]=X++jP E (i+1):=by
 rw[jP,if_neg h,mz hi];simp only[append_assoc,append_nil]
def y8(s:cx):List Tk:=if s.count=true then [bD ⟨#[67,79,85,78,84]⟩,dV ⟨#[40]⟩,dV ⟨#[42]⟩,dV ⟨#[41]⟩] else if s.names.length=0 then [dV ⟨#[42]⟩] else jP s.names s.names.length
def BY(s:cx):List Tk:=if jh s.order ⟨#[]⟩=true then [] else [⟨#[79,82,68,69,82]⟩,⟨#[66,89]⟩,s.order].map bD++(if s.down=true then [bD ⟨#[68,69,83,67]⟩] else [])
def K8(s:cx):List Tk:=if 0≤s.ig then [bD ⟨#[76,73,77,73,84]⟩,⟨2,⟨#[]⟩,s.ig⟩] else []
def Bs(s:cx):List Tk:=((([⟨#[83,69,76,69,67,84]⟩].map bD++y8 s)++[⟨#[70,82,79,77]⟩,s.table].map bD++kx s.aj)++BY s)++K8 s
theorem rO:(Tryz.prog.info? 137).map (fun i=>(i.zero,i.size,i.bytes))=some (some (.agg #[.int .i64 0,.string ⟨#[]⟩,.int .i64 0]),3,32):=by kernel_rfl
theorem Yk : ∀ w, ((#[{ name := "Kind", type := 3, offset := 0, embedded := false, tag := "", pkgPath := "", byteOffset := 0 }, { name := "Text", type := 9, offset := 1, embedded := false, tag := "", pkgPath := "", byteOffset := 8 }, { name := "Int", type := 3, offset := 2, embedded := false, tag := "", pkgPath := "", byteOffset := 24 }] : Array Field).mapM fun f => do pure (f.offset, ← sizeOf f.type) : Sem (Array (Nat × Nat))).run Tryz.prog w = .ok #[(0, 1), (1, 1), (2, 1)] w := fun w => by simp [sizeOf3, sizeOf9]
theorem YQ(s:cx)(hf:j3 s)(M9:s.aj.length=0∨fK 0 s.aj=0):VP Tryz.prog G 76 [.agg (bI s)] (.list 3 ((Bs s).flatMap cT) (Bs s).length):=by
 refine VC.body func76 rfl ntmps76 aS fun X0 w0 aZ=>?_;have da:=dW;have h6:=hf.ok.2.2.1;have pW:=hf.ok.2.2.2.1;have C3:=O0 s.aj;have Na:=Eg s.aj;unfold bI;refine bY ?_;refine OD.box (ds:=[_,_,_,_,_,_,_,_,_,_,_,_]) ap rfl rfl ot rfl rfl (fun b1=>?_);refine an 84 [1] ?_;refine bY ?_;refine ez (cf 0 [_]) [.string ⟨#[]⟩] [_] zeroValue9 runUnderlying29 sizeOf9 (fun b6=>?_);refine OD.perm (ee (S1:=[⟨b6,9,1*1,flatMap cS ([⟨#[83,69,76,69,67,84]⟩])⟩]) (A:=[_])) ?_;refine OD.ij (t:=6) (Sq:=[⟨b6,9,1*1,flatMap cS ([⟨#[83,69,76,69,67,84]⟩])⟩]) lk (bF (g:=cS) (sz:=1) (e:=9) (ls:=[⟨#[83,69,76,69,67,84]⟩]) (Nat.le_refl _) (show 1≤maxLen by decide)) (cn jl _) (dD (A:=[_])) ?_;refine OD.call ap rfl rfl rfl call73 (yM [⟨#[83,69,76,69,67,84]⟩] zT) ⟨ot,trivial⟩ (eT _) ?_;rintro _ S7 ⟨Xo,Xp,rfl,pR⟩;refine OD.perm (ee (A:=[_])) ?_;refine an 84 [1,3] ?_;refine jV [1] (fun aW _ aI=>∃(Q:List Tk),∃(ad:Option Addr),∃(cp:Nat),∃(Sx:List ah),(Q=[⟨#[83,69,76,69,67,84]⟩].map bD++y8 s)∧(bz 137 3 (Q.flatMap cT) Q.length ad cp Sx)∧(Q.length≤20)∧aI=(⟨84,(3,aR ad Q.length cp)::aW,(⟨b1,32,12,[ae s.kind,bn s.table,av 2 cC s.az,av 3 cV s.row,av 1 cS s.names,cg s.count,av 5 cO s.aj,bn s.order,cg s.down,ae s.ig,bn s.set,av 5 cO s.bU]⟩::Sx)⟩:St)) ?_ ?_
 ·refine af [1,3,28] ?_;refine au ?_ ?_<;>intro aN bC
  ·refine dN 1 ?_;refine dS call117 (qe ⟨#[67,79,85,78,84]⟩) ?_;refine dS call78 (mV ⟨#[40]⟩) ?_;refine dS call78 (mV ⟨#[42]⟩) ?_;refine dS call78 (mV ⟨#[41]⟩) ?_;refine ez (cf 0 [_,_,_,_]) [.int .i64 0,.string ⟨#[]⟩,.int .i64 0,.int .i64 0,.string ⟨#[]⟩,.int .i64 0,.int .i64 0,.string ⟨#[]⟩,.int .i64 0,.int .i64 0,.string ⟨#[]⟩,.int .i64 0] [_,_,_,_,_,_,_,_,_,_,_,_] zeroValue137 runUnderlying98 sizeOf137 (fun GW=>?_);refine fP 0 36 3 4 ?_;refine OD.ew (ls:=([⟨#[83,69,76,69,67,84]⟩].map bD)) (new:=[bD ⟨#[67,79,85,78,84]⟩,dV ⟨#[40]⟩,dV ⟨#[42]⟩,dV ⟨#[41]⟩]) (Sq:=S7) iJ lH ap rfl rfl underlying98 rO rfl w7 ot pR (dD (A:=[_])) ot bu pN w8 (fun Nb U aix aiy=>?_);refine OD.perm (ee (S1:=[⟨Nb,137,U*3,flatMap cT (([⟨#[83,69,76,69,67,84]⟩].map bD)++[bD ⟨#[67,79,85,78,84]⟩,dV ⟨#[40]⟩,dV ⟨#[42]⟩,dV ⟨#[41]⟩])⟩]) (A:=[_])) ?_;refine an 84 [1,3] ?_;refine⟨_,aQ,(([⟨#[83,69,76,69,67,84]⟩].map bD)++[bD ⟨#[67,79,85,78,84]⟩,dV ⟨#[40]⟩,dV ⟨#[42]⟩,dV ⟨#[41]⟩]),(some ⟨Nb,0,none⟩),U,[⟨Nb,137,U*3,flatMap cT (([⟨#[83,69,76,69,67,84]⟩].map bD)++[bD ⟨#[67,79,85,78,84]⟩,dV ⟨#[40]⟩,dV ⟨#[42]⟩,dV ⟨#[41]⟩])⟩],(by unfold y8;rw[if_pos bC]),(bF aix aiy),LL,rfl⟩
  refine af [1,3,38] ?_;refine au ?_ ?_<;>intro aY cz
  ·refine dN 1 ?_;refine dS call78 (mV ⟨#[42]⟩) ?_;refine ez (cf 0 [_]) [.int .i64 0,.string ⟨#[]⟩,.int .i64 0] [_,_,_] zeroValue137 runUnderlying98 sizeOf137 (fun b45=>?_);refine fP 0 45 3 1 ?_;refine OD.ew (ls:=([⟨#[83,69,76,69,67,84]⟩].map bD)) (new:=[dV ⟨#[42]⟩]) (Sq:=S7) iJ lH ap rfl rfl underlying98 rO rfl w7 ot pR (dD (A:=[_])) ot bu pN w8 (fun Ae Z aiz aiA=>?_);refine OD.perm (ee (S1:=[⟨Ae,137,Z*3,flatMap cT (([⟨#[83,69,76,69,67,84]⟩].map bD)++[dV ⟨#[42]⟩])⟩]) (A:=[_])) ?_;refine an 84 [1,3] ?_;refine⟨_,aQ,(([⟨#[83,69,76,69,67,84]⟩].map bD)++[dV ⟨#[42]⟩]),(some ⟨Ae,0,none⟩),Z,[⟨Ae,137,Z*3,flatMap cT (([⟨#[83,69,76,69,67,84]⟩].map bD)++[dV ⟨#[42]⟩])⟩],(by unfold y8;rw[if_neg xz,if_pos w4]),(bF aiz aiA),LL,rfl⟩
  refine af [1,3,9,10,11] ?_;refine CD.block ?_;refine mR (fun (me:Nat×Option Addr×Nat×List ah) aI=>match me with|(i,C4,C5,So)=>(i≤s.names.length)∧(bz 137 3 ((([⟨#[83,69,76,69,67,84]⟩].map bD++jP s.names i)).flatMap cT) (([⟨#[83,69,76,69,67,84]⟩].map bD++jP s.names i)).length C4 C5 So)∧aI=(⟨84,[(1,dI b1),(3,aR C4 (([⟨#[83,69,76,69,67,84]⟩].map bD++jP s.names i)).length C5),(9,av 1 cS s.names),(10,ae (s.names.length:Nat)),(11,ae (i:Nat))],((⟨b1,32,12,[ae s.kind,bn s.table,av 2 cC s.az,av 3 cV s.row,av 1 cS s.names,cg s.count,av 5 cO s.aj,bn s.order,cg s.down,ae s.ig,bn s.set,av 5 cO s.bU]⟩:ah)::So)⟩:St)) (fun (me:Nat×Option Addr×Nat×List ah)=>match me with|(i,C4,C5,So)=>s.names.length-i) (0,Xo,Xp,S7) ⟨(Nat.zero_le _),(bz.cast pR (by simp[jP])),rfl⟩ (aQ (h:=by repeat (first|exact trivial|refine⟨LP,?_⟩))) ?_;rintro⟨i,C4,C5,So⟩ _ ⟨hi,C6,rfl⟩;refine af [1,3,9,10,11,12] ?_;refine au ?_ ?_<;>intro bZ cM
  ·have aa:i<s.names.length:=(by simp at bZ;omega)
   have fQ:=If s.names i;refine af [1,3,4,5,9,10,11] ?_;refine af [1,3,5,9,10,11,17] ?_;refine au ?_ ?_<;>intro cW ek
   ·refine dN 1 ?_;refine dS call78 (mV ⟨#[44]⟩) ?_;refine ez (cf 0 [_]) [.int .i64 0,.string ⟨#[]⟩,.int .i64 0] [_,_,_] zeroValue137 runUnderlying98 sizeOf137 (fun M5=>?_);refine fP 0 20 3 1 ?_;refine OD.ew (ls:=(([⟨#[83,69,76,69,67,84]⟩].map bD++jP s.names i))) (new:=[dV ⟨#[44]⟩]) (Sq:=So) iJ lH ap rfl rfl underlying98 rO rfl w7 ot C6 (dD (A:=[_])) ot bu pN w8 (fun CW Vm aiB aiC=>?_);refine OD.perm (ee (S1:=[⟨CW,137,Vm*3,flatMap cT ((([⟨#[83,69,76,69,67,84]⟩].map bD++jP s.names i))++[dV ⟨#[44]⟩])⟩]) (A:=[_])) ?_;refine an 84 [1,3,5,9,10,11] ?_;refine dN 2 ?_;refine dS call117 (qe s.names[i]) ?_;refine ez (cf 0 [_]) [.int .i64 0,.string ⟨#[]⟩,.int .i64 0] [_,_,_] zeroValue137 runUnderlying98 sizeOf137 (fun xU=>?_);refine fP 0 25 3 1 ?_;refine OD.ew (ls:=((([⟨#[83,69,76,69,67,84]⟩].map bD++jP s.names i))++[dV ⟨#[44]⟩])) (new:=[bD s.names[i]]) (Sq:=[⟨CW,137,Vm*3,flatMap cT ((([⟨#[83,69,76,69,67,84]⟩].map bD++jP s.names i))++[dV ⟨#[44]⟩])⟩]) iJ lH ap rfl rfl underlying98 rO rfl w7 ot (bF aiB aiC) (dD (A:=[_])) ot bu pN w8 (fun I E K9 La=>?_);refine OD.perm (ee (S1:=[⟨I,137,E*3,flatMap cT (((([⟨#[83,69,76,69,67,84]⟩].map bD++jP s.names i))++[dV ⟨#[44]⟩])++[bD s.names[i]])⟩]) (A:=[_])) ?_;refine an 84 [1,3,9,10,11] ?_;refine cm [1,3,9,10,11] ?_
    refine⟨((i+1),(some ⟨I,0,none⟩),E,[⟨I,137,E*3,flatMap cT (((([⟨#[83,69,76,69,67,84]⟩].map bD++jP s.names i))++[dV ⟨#[44]⟩])++[bD s.names[i]])⟩]),_,cD,(aQ (h:=by repeat (first|exact trivial|refine⟨LP,?_⟩))),w4,(bz.cast (bF K9 La) (by first|exact HF aa w4 _|exact Hv aa w4 _)),rfl⟩
   refine dN 2 ?_;refine dS call117 (qe s.names[i]) ?_;refine ez (cf 0 [_]) [.int .i64 0,.string ⟨#[]⟩,.int .i64 0] [_,_,_] zeroValue137 runUnderlying98 sizeOf137 (fun xU=>?_);refine fP 0 25 3 1 ?_;refine OD.ew (ls:=(([⟨#[83,69,76,69,67,84]⟩].map bD++jP s.names i))) (new:=[bD s.names[i]]) (Sq:=So) iJ lH ap rfl rfl underlying98 rO rfl w7 ot C6 (dD (A:=[_])) ot bu pN w8 (fun I E K9 La=>?_);refine OD.perm (ee (S1:=[⟨I,137,E*3,flatMap cT ((([⟨#[83,69,76,69,67,84]⟩].map bD++jP s.names i))++[bD s.names[i]])⟩]) (A:=[_])) ?_;refine an 84 [1,3,9,10,11] ?_;refine cm [1,3,9,10,11] ?_;refine⟨((i+1),(some ⟨I,0,none⟩),E,[⟨I,137,E*3,flatMap cT ((([⟨#[83,69,76,69,67,84]⟩].map bD++jP s.names i))++[bD s.names[i]])⟩]),_,cD,(aQ (h:=by repeat (first|exact trivial|refine⟨LP,?_⟩))),w4,(bz.cast (bF K9 La) (by first|exact HF aa w4 _|exact Hv aa w4 _)),rfl⟩
  have tZ:i=s.names.length:=(by simp at bZ;omega)
  refine CD.exit ?_;refine⟨_,aQ,(([⟨#[83,69,76,69,67,84]⟩].map bD++jP s.names i)),C4,C5,So,(by unfold y8;rw[if_neg xz,if_neg w4,tZ]),C6,LL,rfl⟩
 rintro _ ⟨Q,ad,cp,Sx,hQ,ec,hQl,rfl⟩;refine aD 3 ?_;refine ez (cf 0 [_,_]) [.string ⟨#[]⟩,.string ⟨#[]⟩] [_,_] zeroValue9 runUnderlying29 sizeOf9 (fun Ao=>?_);refine OD.perm (yt (S2:=[⟨Ao,9,2*1,flatMap cS ([⟨#[70,82,79,77]⟩,s.table])⟩]) (A:=[_])) ?_;refine OD.ij (t:=50) (Sq:=[⟨Ao,9,2*1,flatMap cS ([⟨#[70,82,79,77]⟩,s.table])⟩]) lk (bF (g:=cS) (sz:=1) (e:=9) (ls:=[⟨#[70,82,79,77]⟩,s.table]) (Nat.le_refl _) (show 2≤maxLen by decide)) (cn jl _) (yq (A:=[_])) ?_;refine dS call73 (rX [⟨#[70,82,79,77]⟩,s.table] (by show 2≤10;decide)) ?_;refine OD.ew (ls:=Q) (new:=([⟨#[70,82,79,77]⟩,s.table].map bD)) (Sq:=Sx) iJ lH ap rfl rfl underlying98 rO rfl w7 ot ec (dD (A:=[_])) ot bu pN w8 (fun Xq Vn aiD aiE=>?_);refine OD.perm (ee (S1:=[⟨Xq,137,Vn*3,flatMap cT (Q++([⟨#[70,82,79,77]⟩,s.table].map bD))⟩]) (A:=[_])) ?_;refine an 84 [1,3] ?_;refine aD 3 ?_;refine dS call80 (Ho s.aj pW M9 (fun o h=>(hf.w o h).2) w4) ?_;refine OD.ph (ls:=(Q++([⟨#[70,82,79,77]⟩,s.table].map bD))) (new:=(kx s.aj)) (Sq:=[⟨Xq,137,Vn*3,flatMap cT (Q++([⟨#[70,82,79,77]⟩,s.table].map bD))⟩]) iJ lH ap rfl rfl underlying98 rO rfl w7 runUnderlying98 sizeOf137 ot (bF aiD aiE) (dD (A:=[_])) ot pN w8 (fun aiF aiG vJ vj=>?_);refine OD.perm (ee (A:=[_])) ?_;refine an 84 [1,3] ?_
 refine jV [1] (fun aW _ aI=>∃(Q:List Tk),∃(ad:Option Addr),∃(cp:Nat),∃(Sx:List ah),(Q=(([⟨#[83,69,76,69,67,84]⟩].map bD++y8 s)++[⟨#[70,82,79,77]⟩,s.table].map bD++kx s.aj)++BY s)∧(bz 137 3 (Q.flatMap cT) Q.length ad cp Sx)∧(Q.length≤500)∧aI=(⟨84,(3,aR ad Q.length cp)::aW,(⟨b1,32,12,[ae s.kind,bn s.table,av 2 cC s.az,av 3 cV s.row,av 1 cS s.names,cg s.count,av 5 cO s.aj,bn s.order,cg s.down,ae s.ig,bn s.set,av 5 cO s.bU]⟩::Sx)⟩:St)) ?_ ?_
 ·refine af [1,3,60] ?_;refine au ?_ ?_<;>intro eA fA
  ·refine aD 3 ?_;refine ez (cf 0 [_,_,_]) [.string ⟨#[]⟩,.string ⟨#[]⟩,.string ⟨#[]⟩] [_,_,_] zeroValue9 runUnderlying29 sizeOf9 (fun C7=>?_);refine OD.perm (yt (S2:=[⟨C7,9,3*1,flatMap cS ([⟨#[79,82,68,69,82]⟩,⟨#[66,89]⟩,s.order])⟩]) (A:=[_])) ?_;refine OD.ij (t:=64) (Sq:=[⟨C7,9,3*1,flatMap cS ([⟨#[79,82,68,69,82]⟩,⟨#[66,89]⟩,s.order])⟩]) lk (bF (g:=cS) (sz:=1) (e:=9) (ls:=[⟨#[79,82,68,69,82]⟩,⟨#[66,89]⟩,s.order]) (Nat.le_refl _) (show 3≤maxLen by decide)) (cn jl _) (yq (A:=[_])) ?_;refine dS call73 (rX [⟨#[79,82,68,69,82]⟩,⟨#[66,89]⟩,s.order] (by show 3≤10;decide)) ?_;refine OD.ew (ls:=((Q++([⟨#[70,82,79,77]⟩,s.table].map bD))++(kx s.aj))) (new:=([⟨#[79,82,68,69,82]⟩,⟨#[66,89]⟩,s.order].map bD)) (Sq:=vJ) iJ lH ap rfl rfl underlying98 rO rfl w7 ot vj (dD (A:=[_])) ot bu pN w8 (fun oY O zu zv=>?_);refine OD.perm (ee (S1:=[⟨oY,137,O*3,flatMap cT (((Q++([⟨#[70,82,79,77]⟩,s.table].map bD))++(kx s.aj))++([⟨#[79,82,68,69,82]⟩,⟨#[66,89]⟩,s.order].map bD))⟩]) (A:=[_])) ?_;refine an 84 [1,3] ?_;refine af [1,3,68] ?_;refine au ?_ ?_<;>intro fx gG
   ·refine dN 1 ?_;refine dS call117 (qe ⟨#[68,69,83,67]⟩) ?_;refine ez (cf 0 [_]) [.int .i64 0,.string ⟨#[]⟩,.int .i64 0] [_,_,_] zeroValue137 runUnderlying98 sizeOf137 (fun b71=>?_);refine fP 0 71 3 1 ?_;refine OD.ew (ls:=(((Q++([⟨#[70,82,79,77]⟩,s.table].map bD))++(kx s.aj))++([⟨#[79,82,68,69,82]⟩,⟨#[66,89]⟩,s.order].map bD))) (new:=[bD ⟨#[68,69,83,67]⟩]) (Sq:=[⟨oY,137,O*3,flatMap cT (((Q++([⟨#[70,82,79,77]⟩,s.table].map bD))++(kx s.aj))++([⟨#[79,82,68,69,82]⟩,⟨#[66,89]⟩,s.order].map bD))⟩]) iJ lH ap rfl rfl underlying98 rO rfl w7 ot (bF zu zv) (dD (A:=[_])) ot bu pN w8 (fun Nc Lb aiH aiI=>?_);refine OD.perm (ee (S1:=[⟨Nc,137,Lb*3,flatMap cT ((((Q++([⟨#[70,82,79,77]⟩,s.table].map bD))++(kx s.aj))++([⟨#[79,82,68,69,82]⟩,⟨#[66,89]⟩,s.order].map bD))++[bD ⟨#[68,69,83,67]⟩])⟩]) (A:=[_])) ?_;refine an 84 [1,3] ?_;refine⟨_,aQ,((((Q++([⟨#[70,82,79,77]⟩,s.table].map bD))++(kx s.aj))++([⟨#[79,82,68,69,82]⟩,⟨#[66,89]⟩,s.order].map bD))++[bD ⟨#[68,69,83,67]⟩]),(some ⟨Nc,0,none⟩),Lb,[⟨Nc,137,Lb*3,flatMap cT ((((Q++([⟨#[70,82,79,77]⟩,s.table].map bD))++(kx s.aj))++([⟨#[79,82,68,69,82]⟩,⟨#[66,89]⟩,s.order].map bD))++[bD ⟨#[68,69,83,67]⟩])⟩],(by rw[hQ];unfold BY;rw[if_neg (by unfold jh;simpa using eA),if_pos gG];simp only[append_assoc]),(bF aiH aiI),w8,rfl⟩
   refine CD.skip ?_;refine⟨_,aQ,(((Q++([⟨#[70,82,79,77]⟩,s.table].map bD))++(kx s.aj))++([⟨#[79,82,68,69,82]⟩,⟨#[66,89]⟩,s.order].map bD)),(some ⟨oY,0,none⟩),O,[⟨oY,137,O*3,flatMap cT (((Q++([⟨#[70,82,79,77]⟩,s.table].map bD))++(kx s.aj))++([⟨#[79,82,68,69,82]⟩,⟨#[66,89]⟩,s.order].map bD))⟩],(by rw[hQ];unfold BY;rw[if_neg (by unfold jh;simpa using eA),if_neg (by simpa using fx)];simp only[append_assoc,append_nil]),(bF zu zv),w8,rfl⟩
  refine CD.skip ?_;refine⟨_,aQ,((Q++([⟨#[70,82,79,77]⟩,s.table].map bD))++(kx s.aj)),aiF,aiG,vJ,(by rw[hQ];unfold BY;rw[if_pos (by unfold jh;simpa using eA)];simp),vj,w8,rfl⟩
 rintro _ ⟨Q,ad,cp,Sx,hQ,ec,hQl,rfl⟩;refine af [1,3,75] ?_;refine au ?_ ?_<;>intro gX kO
 ·refine fO 7 (aq (take 1 _)) ?_ (fun _ h=>(Sublist.map _ (take_sublist _ _)).subset h);refine ay 0 rfl bf ?_;refine ay 2 rfl (dj 9) ?_;refine ay 3 rfl (dJ 0) ?_;refine ay 4 rfl (nC (pl:=[(0,_),(2,_)]) (ds:=[_,_,_]) rfl zeroValue137 runUnderlying137 Yk ⟨rfl,bL,rfl,ot,trivial⟩ rfl rfl) ?_;refine di.later rfl ?_;refine AD.one (i:=1) aA ?_;refine jG call117 (qe ⟨#[76,73,77,73,84]⟩) ?_;refine AD.one (i:=5) aA ?_;refine jt (cf 0 [_,_]) [.int .i64 0,.string ⟨#[]⟩,.int .i64 0,.int .i64 0,.string ⟨#[]⟩,.int .i64 0] [_,_,_,_,_,_] zeroValue137 runUnderlying98 sizeOf137 (fun b81=>?_);refine ju 0 81 3 2 ?_;refine AD.one (i:=6) aA ?_;refine bj.ew (ls:=Q) (new:=[bD ⟨#[76,73,77,73,84]⟩,(⟨2,⟨#[]⟩,s.ig⟩:Tk)]) (Sq:=Sx) iJ lH rfl ap rfl rfl underlying98 rO rfl w7 ot ec (dD (A:=[_])) ot bu pN w8 (fun Xt Vo aiJ aiK=>?_);refine AD.perm (ee (S1:=[⟨Xt,137,Vo*3,flatMap cT (Q++[bD ⟨#[76,73,77,73,84]⟩,(⟨2,⟨#[]⟩,s.ig⟩:Tk)])⟩]) (A:=[_])) ?_;refine eJ ?_;refine bg [3] ?_;refine af [2] ?_;refine CD.ij (t:=2) (Sq:=[⟨Xt,137,Vo*3,flatMap cT (Q++[bD ⟨#[76,73,77,73,84]⟩,(⟨2,⟨#[]⟩,s.ig⟩:Tk)])⟩]) lk (bF aiJ aiK) (cn iJ _) (dD (A:=[_])) ?_;refine eR ?_;refine⟨?_,rfl⟩;rw[hQ];unfold Bs K8;rw[if_pos w4]
 refine af [2] ?_;refine CD.ij (t:=2) (Sq:=Sx) lk ec (cn iJ _) (dD (A:=[_])) ?_;refine aJ [] ?_;refine⟨?_,rfl⟩;rw[hQ];unfold Bs K8;rw[if_neg w4];simp only[append_nil]

def Kh(k:Int):ByteArray:=afe.getD k.toNat ⟨#[]⟩
theorem abG{k:Int}(h1:1≤k)(h2:k≤3):typesC[0+k.toNat*1]?=some (.string (Kh k)):=by
 have h:k=1∨k=2∨k=3:=(by omega)
 rcases h with rfl|rfl|rfl<;>rfl
def jg(c:cA):List Tk:=[c.n,Kh c.k].map bD
def F4:List ByteArray:=[⟨#[66,69,71,73,78]⟩,⟨#[67,79,77,77,73,84]⟩,⟨#[82,79,76,76,66,65,67,75]⟩]
def pC(s:cx):List Tk :=
 if s.kind=1 then [⟨#[67,82,69,65,84,69]⟩,⟨#[84,65,66,76,69]⟩,s.table].map bD++l7 (s.az.map jg)
 else if s.kind=2 then [⟨#[68,82,79,80]⟩,⟨#[84,65,66,76,69]⟩,s.table].map bD
 else if s.kind=3 then [⟨#[73,78,83,69,82,84]⟩,⟨#[73,78,84,79]⟩,s.table,⟨#[86,65,76,85,69,83]⟩].map bD++l7 (s.row.map jn)
 else if s.kind=4 then Bs s
 else if s.kind=5 then [[⟨#[85,80,68,65,84,69]⟩,s.table,⟨#[83,69,84]⟩,s.set].map bD,[dV ⟨#[61]⟩],qS s.bU,kx s.aj].flatten
 else if s.kind=6 then [⟨#[68,69,76,69,84,69]⟩,⟨#[70,82,79,77]⟩,s.table].map bD++kx s.aj
 else [F4.getD (s.kind-7).toNat ⟨#[]⟩].map bD
structure Xu (s:cx):Prop where
 fin:j3 s
 k1:1≤s.kind
 k9:s.kind≤9
 c:s.kind=1→∀c∈s.az,1≤c.k∧c.k≤3
 r:s.kind=3→∀v∈s.row,mT v
 w:s.kind=4∨s.kind=5∨s.kind=6→s.aj.length=0∨fK 0 s.aj=0
 t:s.kind=5→fK 0 s.bU=0
theorem Qm(ts:List (List Tk)):0<(l7 ts).length:=by unfold l7;rw[length_append];simp
theorem Qn{ts:List (List Tk)}(h:∀x∈ts,x.length≤10):(l7 ts).length≤2+11*ts.length:=by
 have h1:=EL h ts.length;unfold l7;rw[length_append];simp only[length_cons,length_nil];omega
theorem I9(l:List cA):∀x∈l.map jg,x.length≤10:=fun x hx=>by obtain⟨c,_,rfl⟩:=mem_map.1 hx;show 2≤10;decide
theorem Qo(l:List Vl):∀x∈l.map jn,x.length≤10:=fun x hx=>by obtain⟨v,_,rfl⟩:=mem_map.1 hx;have:=OW v;omega
theorem Ou:(Tryz.prog.info? 98).map (fun i=>(i.zero,i.size,i.bytes))=some (some (.slice none 0 0),1,24):=by kernel_rfl
theorem Hs:(Tryz.prog.info? 137).map (fun i=>(i.zero,i.size,i.bytes))=some (some (.agg #[.int .i64 0,.string ⟨#[]⟩,.int .i64 0]),3,32):=by kernel_rfl
theorem adw(hty:(0,typesC)∈G)(s:cx)(hs:Xu s):VP Tryz.prog G 39 [.agg (bI s)] (.list 3 ((pC s).flatMap cT) (pC s).length):=by
 refine VC.body func39 rfl ntmps39 aS fun X0 w0 aZ=>?_;have da:=dW;have hf:=hs.fin;have h6:=hf.ok.1;have h6r:=hf.ok.2.1;have pW:=hf.ok.2.2.2.1;have aiL:=hf.ok.2.2.2.2;have C3:=O0 s.aj;have Na:=Eg s.aj;have F5:=Eg s.bU;have kY:=Qn (I9 s.az);have rD:=Qn (Qo s.row);have I:=YQ (G:=G) s hf;rw[length_map] at kY rD;unfold bI at I;unfold bI;refine bY ?_;refine OD.box (ds:=[_,_,_,_,_,_,_,_,_,_,_,_]) ap rfl rfl ot rfl rfl (fun b1=>?_);refine an 107 [1] ?_;refine cQ [1,10] ?_;refine aU 1 ?_ (h:=by exact eY);refine jJ ?_;refine af [1,10,11] ?_;refine au ?_ ?_<;>intro aN bC
 ·refine bY ?_;refine bg [1,3] ?_;refine cQ [1,3,14,15,16] ?_;refine aU 1 ?_ (h:=by exact eY);refine bG ?_;refine CD.block ?_;refine mR (fun (E:Nat×Option Addr×Nat×List ah) aI=>match E with|(i,dQ,dc,Sx)=>(i≤s.az.length)∧(bz 98 1 (((s.az.take i).map jg).flatMap cK) ((s.az.take i).map jg).length dQ dc Sx)∧aI=(⟨107,[(1,dI b1),(3,aR dQ ((s.az.take i).map jg).length dc),(14,av 2 cC s.az),(15,ae (s.az.length:Nat)),(16,ae (i:Nat))],((⟨b1,32,12,[ae s.kind,bn s.table,av 2 cC s.az,av 3 cV s.row,av 1 cS s.names,cg s.count,av 5 cO s.aj,bn s.order,cg s.down,ae s.ig,bn s.set,av 5 cO s.bU]⟩:ah)::Sx)⟩:St)) (fun (E:Nat×Option Addr×Nat×List ah)=>match E with|(i,dQ,dc,Sx)=>s.az.length-i) (0,none,0,[]) ⟨(Nat.zero_le _),(bz.cast iI kV),rfl⟩ (aQ (h:=by repeat (first|exact trivial|refine⟨(by (repeat (first|exact fD|(apply fX;focus (first|rfl|(simp;done)|(congr 2;omega)|(apply eO;exact td jg aa)|(apply eO;simp;done)))|(apply fH;focus rfl)));done),?_⟩))) ?_;rintro⟨i,dQ,dc,Sx⟩ _ ⟨hi,ec,rfl⟩;refine af [1,3,14,15,16,17] ?_;refine au ?_ ?_<;>intro aY cz
  ·have aa:i<s.az.length:=(by simp at aY;omega)
   have Xv:=hs.c bC _ (getElem_mem aa);refine aD 1 ?_;refine bH (cR (mk:=Op.load 69) rfl ot (by first|exact qd (k:=0) (ds:=[_,_]) rfl rfl isAgg69 sizeOf69 rfl rfl|exact jY lF isAgg69 sizeOf69 w5|exact jY fq isAgg69 sizeOf69 w5|exact jY jl isAgg69 sizeOf69 w5|exact dP (k:=0) lF rfl rfl rfl isAgg69 sizeOf69 w5|exact dP (k:=0) fq rfl rfl rfl isAgg69 sizeOf69 w5|exact dP (k:=0) jl rfl rfl rfl isAgg69 sizeOf69 w5|exact qj (ds:=[_,_]) isAgg69 sizeOf69 rfl rfl)) ?_;refine OD.alloc (ds:=[_,_]) ap rfl rfl zeroValue69 rfl (fun b5=>?_);refine aP 0 [_,_] sizeOf69 ?_;refine an 107 [1,3,5,14,15,16] ?_;refine fO 11 (aq (take 2 _)) ?_ (fun _ h=>(Sublist.map _ (take_sublist _ _)).subset h);refine ay 0 rfl bf ?_;refine ay 1 rfl (dj 0) ?_;refine ay 2 rfl eY ?_;refine ay 3 rfl (dj 1) ?_;refine ay 4 rfl eY ?_;refine ay 5 rfl (rS (mk:=Op.indexAddr 132) rfl vX ot (by first|exact TB runUnderlying132 sizeOf9 rfl w5|exact TB (j:=Int.toNat _) runUnderlying132 sizeOf9 (Int.toNat_of_nonneg w4).symm w4)) ?_
   refine ay 6 rfl (cR (mk:=Op.load 9) rfl ot (by first|exact rW (k:=0) rfl rfl isAgg9 rfl|exact rW (k:=1) rfl rfl isAgg9 rfl|exact uY lF isAgg9 w5 rfl|exact qf lF isAgg9 w5 rfl|exact uY fq isAgg9 w5 rfl|exact qf fq isAgg9 w5 rfl|exact uY jl isAgg9 w5 rfl|exact qf jl isAgg9 w5 rfl|exact lj (k:=0) lF rfl rfl rfl isAgg9 w5 rfl|exact ja (k:=0) lF rfl rfl rfl isAgg9 w5 rfl|exact lj (k:=1) lF rfl rfl rfl isAgg9 w5 rfl|exact ja (k:=1) lF rfl rfl rfl isAgg9 w5 rfl|exact lj (k:=0) fq rfl rfl rfl isAgg9 w5 rfl|exact ja (k:=0) fq rfl rfl rfl isAgg9 w5 rfl|exact lj (k:=1) fq rfl rfl rfl isAgg9 w5 rfl|exact ja (k:=1) fq rfl rfl rfl isAgg9 w5 rfl|exact lj (k:=0) jl rfl rfl rfl isAgg9 w5 rfl|exact ja (k:=0) jl rfl rfl rfl isAgg9 w5 rfl|exact lj (k:=1) jl rfl rfl rfl isAgg9 w5 rfl|exact ja (k:=1) jl rfl rfl rfl isAgg9 w5 rfl|exact BQ isAgg9 rfl|exact aeR hty isAgg9 (abG Xv.1 Xv.2))) ?_;refine di.later rfl ?_;refine AD.one (i:=7) aA ?_;refine jt (cf 0 [_,_]) [.string ⟨#[]⟩,.string ⟨#[]⟩] [_,_] zeroValue9 runUnderlying29 sizeOf9 (fun b27=>?_);refine ju 0 27 1 2 ?_;refine AD.one (i:=8) aA ?_;refine jG call73 (rX [s.az[i].n,Kh s.az[i].k] (by show 2≤10;decide)) ?_;refine AD.one (i:=9) aA ?_;refine jt (cf 0 [_]) [.slice none 0 0] [_] zeroValue98 runUnderlying130 sizeOf98 (fun uv=>?_)
   refine ju 0 29 1 1 ?_;refine AD.one (i:=10) aA ?_;refine bj.Ea (Sq:=Sx) (R:=[_,_]) rfl ap rfl rfl underlying130 Ou rfl w7 ot ec (perm_append_comm (l₁:=[_,_])) (cn gm _) ot (rV pA [jg s.az[i]]) w7 (by rw[length_map,length_take];simp only[maxLen];omega) (by rw[length_map,length_take];omega) ir (fun Nd O Lc Ld=>?_);refine AD.perm (ee (S1:=[⟨Nd,98,O*1,flatMap cK ((s.az.take i).map jg)++flatMap cK [jg s.az[i]]⟩]) (A:=[_,_])) ?_;rw[show flatMap cK ((s.az.take i).map jg)++flatMap cK [jg s.az[i]]=flatMap cK ((s.az.take i).map jg++[jg s.az[i]]) from List.flatMap_append.symm,show((s.az.take i).map jg).length+1=((s.az.take i).map jg++[jg s.az[i]]).length from by rw[length_append];rfl];refine eJ ?_;refine bg [1,3,14,15,16] ?_;refine cm [1,3,14,15,16] ?_;refine⟨((i+1),(some ⟨Nd,0,none⟩),O,[⟨Nd,98,O*1,flatMap cK ((s.az.take i).map jg++[jg s.az[i]])⟩]),_,cD,(aQ (h:=by repeat (first|exact trivial|refine⟨(by (repeat (first|exact fD|(apply fX;focus (first|rfl|(simp;done)|(congr 2;omega)|(apply eO;exact td jg aa)|(apply eO;simp;done)))|(apply fH;focus rfl)));done),?_⟩))),w4,(bz.cast (bF (by rw[length_append];exact Lc) Ld) (by exact td jg aa)),rfl⟩
  have ff:=I8 jg (show s.az.length≤i by simp at aY;omega);have U:=RY (G:=G) (s.az.map jg) Co (I9 s.az);rw[←ff] at U kY;refine aD 1 ?_;refine bH eY ?_;refine ez (cf 0 [_,_,_]) [.string ⟨#[]⟩,.string ⟨#[]⟩,.string ⟨#[]⟩] [_,_,_] zeroValue9 runUnderlying29 sizeOf9 (fun Xw=>?_);refine OD.perm (yt (S2:=[⟨Xw,9,3*1,flatMap cS ([⟨#[67,82,69,65,84,69]⟩,⟨#[84,65,66,76,69]⟩,s.table])⟩]) (A:=[_])) ?_;refine OD.ij (t:=34) (Sq:=[⟨Xw,9,3*1,flatMap cS ([⟨#[67,82,69,65,84,69]⟩,⟨#[84,65,66,76,69]⟩,s.table])⟩]) lk (bF (g:=cS) (sz:=1) (e:=9) (ls:=[⟨#[67,82,69,65,84,69]⟩,⟨#[84,65,66,76,69]⟩,s.table]) (Nat.le_refl _) (show 3≤maxLen by decide)) (cn jl _) (yq (A:=[_])) ?_;refine OD.call ap rfl rfl rfl call73 (yM [⟨#[67,82,69,65,84,69]⟩,⟨#[84,65,66,76,69]⟩,s.table] (by show 3≤10;decide)) ⟨ot,trivial⟩ (eT _) ?_;rintro _ S35 ⟨aoO,aoP,rfl,aiM⟩;refine OD.perm (yt (A:=[_])) ?_;refine aE 1 ?_;refine OD.ij (t:=36) (Sq:=Sx) lk ec (cn gm _) (oH (A:=[_])) ?_;refine dS call74 (U) ?_;refine OD.ew (ls:=([⟨#[67,82,69,65,84,69]⟩,⟨#[84,65,66,76,69]⟩,s.table].map bD)) (new:=(l7 ((s.az.take i).map jg))) (Sq:=S35) iJ lH ap rfl rfl underlying98 Hs rfl w7 ot aiM (dD (A:=[_])) ot (Qm _) pN w8 (fun M2 Vp aiN aiO=>?_)
  refine OD.perm (ee (S1:=[⟨M2,137,Vp*3,flatMap cT (([⟨#[67,82,69,65,84,69]⟩,⟨#[84,65,66,76,69]⟩,s.table].map bD)++(l7 ((s.az.take i).map jg)))⟩]) (A:=[_])) ?_;refine an 107 [2] ?_;refine CD.ij (t:=2) (Sq:=[⟨M2,137,Vp*3,flatMap cT (([⟨#[67,82,69,65,84,69]⟩,⟨#[84,65,66,76,69]⟩,s.table].map bD)++(l7 ((s.az.take i).map jg)))⟩]) lk (bF aiN aiO) (cn iJ _) (dD (A:=[_])) ?_;refine aJ [] ?_;refine⟨?_,rfl⟩;unfold pC;rw[if_pos bC,←ff]
 refine af [1,10,39] ?_;refine au ?_ ?_<;>intro bZ cM
 ·refine cQ [2] ?_;refine aU 1 ?_ (h:=by exact eY);refine de (rX [⟨#[68,82,79,80]⟩,⟨#[84,65,66,76,69]⟩,s.table] (by show 3≤10;decide)) ?_;refine bG ?_;refine aJ [] ?_;refine⟨?_,rfl⟩;unfold pC;rw[if_neg bC,if_pos cM]
 refine af [1,10,45] ?_;refine au ?_ ?_<;>intro cW ek
 ·refine bY ?_;refine bg [1,6] ?_;refine cQ [1,6,48,49,50] ?_;refine aU 1 ?_ (h:=by exact eY);refine bG ?_;refine CD.block ?_;refine mR (fun (E:Nat×Option Addr×Nat×List ah) aI=>match E with|(i,GX,GY,Sv)=>(i≤s.row.length)∧(bz 98 1 (((s.row.take i).map jn).flatMap cK) ((s.row.take i).map jn).length GX GY Sv)∧aI=(⟨107,[(1,dI b1),(6,aR GX ((s.row.take i).map jn).length GY),(48,av 3 cV s.row),(49,ae (s.row.length:Nat)),(50,ae (i:Nat))],((⟨b1,32,12,[ae s.kind,bn s.table,av 2 cC s.az,av 3 cV s.row,av 1 cS s.names,cg s.count,av 5 cO s.aj,bn s.order,cg s.down,ae s.ig,bn s.set,av 5 cO s.bU]⟩:ah)::Sv)⟩:St)) (fun (E:Nat×Option Addr×Nat×List ah)=>match E with|(i,GX,GY,Sv)=>s.row.length-i) (0,none,0,[]) ⟨(Nat.zero_le _),(bz.cast iI kV),rfl⟩ (aQ (h:=by repeat (first|exact trivial|refine⟨(by (repeat (first|exact fD|(apply fX;focus (first|rfl|(simp;done)|(congr 2;omega)|(apply eO;exact td jn aa)|(apply eO;simp;done)))|(apply fH;focus rfl)));done),?_⟩))) ?_;rintro⟨i,GX,GY,Sv⟩ _ ⟨hi,mO,rfl⟩;refine af [1,6,48,49,50,51] ?_;refine au ?_ ?_<;>intro eA fA
  ·have aa:i<s.row.length:=(by simp at eA;omega)
   refine aD 1 ?_;refine bH (cR (mk:=Op.load 41) rfl ot (by first|exact qd (k:=0) (ds:=[_,_,_]) rfl rfl isAgg41 sizeOf41 rfl rfl|exact jY lF isAgg41 sizeOf41 w5|exact jY fq isAgg41 sizeOf41 w5|exact jY jl isAgg41 sizeOf41 w5|exact dP (k:=0) lF rfl rfl rfl isAgg41 sizeOf41 w5|exact dP (k:=0) fq rfl rfl rfl isAgg41 sizeOf41 w5|exact dP (k:=0) jl rfl rfl rfl isAgg41 sizeOf41 w5|exact qj (ds:=[_,_,_]) isAgg41 sizeOf41 rfl rfl)) ?_;refine OD.alloc (ds:=[_,_,_]) ap rfl rfl zeroValue41 rfl (fun b8=>?_);refine aP 0 [_,_,_] sizeOf41 ?_;refine an 107 [1,6,8,48,49,50] ?_;refine dN 1 ?_;refine bH (cR (mk:=Op.load 41) rfl ot (by first|exact qd (k:=0) (ds:=[_,_,_]) rfl rfl isAgg41 sizeOf41 rfl rfl|exact jY lF isAgg41 sizeOf41 w5|exact jY fq isAgg41 sizeOf41 w5|exact jY jl isAgg41 sizeOf41 w5|exact dP (k:=0) lF rfl rfl rfl isAgg41 sizeOf41 w5|exact dP (k:=1) lF rfl rfl rfl isAgg41 sizeOf41 w5|exact dP (k:=0) fq rfl rfl rfl isAgg41 sizeOf41 w5|exact dP (k:=1) fq rfl rfl rfl isAgg41 sizeOf41 w5|exact dP (k:=0) jl rfl rfl rfl isAgg41 sizeOf41 w5|exact dP (k:=1) jl rfl rfl rfl isAgg41 sizeOf41 w5|exact qj (ds:=[_,_,_]) isAgg41 sizeOf41 rfl rfl)) ?_;refine dS call75 (N5 s.row[i] (hs.r ek _ (getElem_mem aa))) ?_;refine ez (cf 0 [_]) [.slice none 0 0] [_] zeroValue98 runUnderlying130 sizeOf98 (fun b57=>?_)
   refine fP 0 57 1 1 ?_;refine OD.ew (ls:=((s.row.take i).map jn)) (new:=[jn s.row[i]]) (Sq:=Sv) gm pA ap rfl rfl underlying130 Ou rfl w7 ot mO (dD (A:=[_,_])) ot bu (by simp only[maxLen,length_map,length_take,length_cons,length_nil];omega) (by simp only[length_map,length_take,length_cons,length_nil];omega) (fun zX Z aiP aiQ=>?_);refine OD.perm (ee (S1:=[⟨zX,98,Z*1,flatMap cK (((s.row.take i).map jn)++[jn s.row[i]])⟩]) (A:=[_,_])) ?_;refine an 107 [1,6,48,49,50] ?_;refine cm [1,6,48,49,50] ?_;refine⟨((i+1),(some ⟨zX,0,none⟩),Z,[⟨zX,98,Z*1,flatMap cK (((s.row.take i).map jn)++[jn s.row[i]])⟩]),_,cD,(aQ (h:=by repeat (first|exact trivial|refine⟨(by (repeat (first|exact fD|(apply fX;focus (first|rfl|(simp;done)|(congr 2;omega)|(apply eO;exact td jn aa)|(apply eO;simp;done)))|(apply fH;focus rfl)));done),?_⟩))),w4,(bz.cast (bF aiP aiQ) (by exact td jn aa)),rfl⟩
  have Uk:=I8 jn (show s.row.length≤i by simp at eA;omega);have U:=RY (G:=G) (s.row.map jn) Co (Qo s.row);rw[←Uk] at U rD;refine aD 1 ?_;refine bH eY ?_;refine ez (cf 0 [_,_,_,_]) [.string ⟨#[]⟩,.string ⟨#[]⟩,.string ⟨#[]⟩,.string ⟨#[]⟩] [_,_,_,_] zeroValue9 runUnderlying29 sizeOf9 (fun Nf=>?_);refine OD.perm (yt (S2:=[⟨Nf,9,4*1,flatMap cS ([⟨#[73,78,83,69,82,84]⟩,⟨#[73,78,84,79]⟩,s.table,⟨#[86,65,76,85,69,83]⟩])⟩]) (A:=[_])) ?_;refine OD.ij (t:=62) (Sq:=[⟨Nf,9,4*1,flatMap cS ([⟨#[73,78,83,69,82,84]⟩,⟨#[73,78,84,79]⟩,s.table,⟨#[86,65,76,85,69,83]⟩])⟩]) lk (bF (g:=cS) (sz:=1) (e:=9) (ls:=[⟨#[73,78,83,69,82,84]⟩,⟨#[73,78,84,79]⟩,s.table,⟨#[86,65,76,85,69,83]⟩]) (Nat.le_refl _) (show 4≤maxLen by decide)) (cn jl _) (yq (A:=[_])) ?_;refine OD.call ap rfl rfl rfl call73 (yM [⟨#[73,78,83,69,82,84]⟩,⟨#[73,78,84,79]⟩,s.table,⟨#[86,65,76,85,69,83]⟩] (by show 4≤10;decide)) ⟨ot,trivial⟩ (eT _) ?_;rintro _ CY ⟨Vi,xj,rfl,BX⟩;refine OD.perm (yt (A:=[_])) ?_;refine aE 1 ?_;refine OD.ij (t:=64) (Sq:=Sv) lk mO (cn gm _) (oH (A:=[_])) ?_;refine dS call74 (U) ?_;refine OD.ew (ls:=([⟨#[73,78,83,69,82,84]⟩,⟨#[73,78,84,79]⟩,s.table,⟨#[86,65,76,85,69,83]⟩].map bD)) (new:=(l7 ((s.row.take i).map jn))) (Sq:=CY) iJ lH ap rfl rfl underlying98 Hs rfl w7 ot BX (dD (A:=[_])) ot (Qm _) pN w8 (fun oY zq zu zv=>?_)
  refine OD.perm (ee (S1:=[⟨oY,137,zq*3,flatMap cT (([⟨#[73,78,83,69,82,84]⟩,⟨#[73,78,84,79]⟩,s.table,⟨#[86,65,76,85,69,83]⟩].map bD)++(l7 ((s.row.take i).map jn)))⟩]) (A:=[_])) ?_;refine an 107 [2] ?_;refine CD.ij (t:=2) (Sq:=[⟨oY,137,zq*3,flatMap cT (([⟨#[73,78,83,69,82,84]⟩,⟨#[73,78,84,79]⟩,s.table,⟨#[86,65,76,85,69,83]⟩].map bD)++(l7 ((s.row.take i).map jn)))⟩]) lk (bF zu zv) (cn iJ _) (dD (A:=[_])) ?_;refine aJ [] ?_;refine⟨?_,rfl⟩;unfold pC;rw[if_neg bC,if_neg cM,if_pos ek,←Uk]
 refine af [1,10,67] ?_;refine au ?_ ?_<;>intro fx gG
 ·refine cQ [2] ?_;refine aU 0 ?_ (h:=by exact(cR (mk:=Op.load 32) rfl ot (by first|exact qd (k:=0) (ds:=[_,_,_,_,_,_,_,_,_,_,_,_]) rfl rfl isAgg32 sizeOf32 rfl rfl|exact jY lF isAgg32 sizeOf32 w5|exact jY fq isAgg32 sizeOf32 w5|exact jY jl isAgg32 sizeOf32 w5|exact dP (k:=0) lF rfl rfl rfl isAgg32 sizeOf32 w5|exact dP (k:=0) fq rfl rfl rfl isAgg32 sizeOf32 w5|exact dP (k:=0) jl rfl rfl rfl isAgg32 sizeOf32 w5|exact qj (ds:=[_,_,_,_,_,_,_,_,_,_,_,_]) isAgg32 sizeOf32 rfl rfl)));refine de (I (hs.w (.inl gG))) ?_;refine bG ?_;refine aJ [] ?_;refine⟨?_,rfl⟩;unfold pC;rw[if_neg bC,if_neg cM,if_neg ek,if_pos gG]
 refine af [1,10,71] ?_;refine au ?_ ?_<;>intro gX kO
 ·refine cQ [2] ?_;refine aU 1 ?_ (h:=by exact eY);refine aU 1 ?_ (h:=by exact eY);refine de (rX [⟨#[85,80,68,65,84,69]⟩,s.table,⟨#[83,69,84]⟩,s.set] (by show 4≤10;decide)) ?_;refine de (mV ⟨#[61]⟩) ?_;refine aU 2 ?_ (h:=by exact eY);refine de (Ot s.bU aiL (hs.t kO) (fun o h=>(hf.x o h).2)) ?_;refine aU 1 ?_ (h:=by exact eY);refine de (Ho s.aj pW (hs.w (.inr (.inl kO))) (fun o h=>(hf.w o h).2) w4) ?_;refine de (Ef [[⟨#[85,80,68,65,84,69]⟩,s.table,⟨#[83,69,84]⟩,s.set].map bD,[dV ⟨#[61]⟩],qS s.bU,kx s.aj] (by show 4≤1000;decide) (by simp only[flatten_cons,flatten_nil,length_append,length_map,length_cons,length_nil];omega) (by simp only[flatten_cons,flatten_nil,length_append,length_map,length_cons,length_nil];omega)) ?_;refine bG ?_;refine aJ [] ?_;refine⟨?_,rfl⟩;unfold pC;rw[if_neg bC,if_neg cM,if_neg ek,if_neg gG,if_pos kO]
 refine af [1,89] ?_;refine au ?_ ?_<;>intro gv lp
 ·refine CD.seq ?_;refine fO 8 (aq (take 1 _)) ?_ (fun _ h=>(Sublist.map _ (take_sublist _ _)).subset h);refine ay 0 rfl (dj 1) ?_;refine ay 1 rfl eY ?_;refine ay 4 rfl (dj 6) ?_;refine ay 5 rfl eY ?_;refine di.later rfl ?_;refine AD.one (i:=2) aA ?_;refine jt (cf 0 [_,_,_]) [.string ⟨#[]⟩,.string ⟨#[]⟩,.string ⟨#[]⟩] [_,_,_] zeroValue9 runUnderlying29 sizeOf9 (fun Xx=>?_);refine ju 0 93 1 3 ?_;refine AD.one (i:=3) aA ?_;refine bj.call rfl ap rfl rfl rfl call73 (yM [⟨#[68,69,76,69,84,69]⟩,⟨#[70,82,79,77]⟩,s.table] (by show 3≤10;decide)) ⟨ot,trivial⟩ (eT _) ir ?_;rintro _ S94 ⟨aoQ,aoR,rfl,aiR⟩;refine AD.perm (ee (A:=[_])) ?_;refine AD.one (i:=6) aA ?_;refine jG call80 (Ho s.aj pW (hs.w (.inr (.inr lp))) (fun o h=>(hf.w o h).2) w4) ?_;refine AD.one (i:=7) aA ?_;refine bj.ph (ls:=([⟨#[68,69,76,69,84,69]⟩,⟨#[70,82,79,77]⟩,s.table].map bD)) (new:=(kx s.aj)) (Sq:=S94) iJ lH rfl ap rfl rfl underlying98 Hs rfl w7 runUnderlying98 sizeOf137 ot aiR (dD (A:=[_])) ot pN w8 (fun aoS aoT S98 aiS=>?_);refine AD.perm (ee (A:=[_])) ?_;refine eJ ?_;refine bg [2] ?_;refine CD.ij (t:=2) (Sq:=S98) lk aiS (cn iJ _) (dD (A:=[_])) ?_;refine eR ?_;refine⟨?_,rfl⟩;unfold pC;rw[if_neg bC,if_neg cM,if_neg ek,if_neg gG,if_neg kO,if_pos lp]
 obtain⟨j,hj,Ng⟩:∃j:Nat,s.kind=((7+j:Nat):Int)∧j<F4.length:=⟨(s.kind-7).toNat,by have:=hs.k1;have:=hs.k9;omega,by have:=hs.k1;have:=hs.k9;show _<3;omega⟩
 refine cQ [2] ?_;refine MQ (g:=cS) (F4) ?_;refine aU 1 ?_ (h:=by exact eY);refine aU 0 ?_ (h:=by exact(c8 (r:=.int .i64 ((j:Nat):Int)) rfl ot bL (gk (by rw[hj,show(((7+j:Nat)):Int)-7=((j:Nat):Int) by omega];exact wrap_i64 w4 (by have:j<3:=Ng;omega)))));refine aU 1 ?_ (h:=by exact(cR (mk:=Op.load 9) rfl ot (by exact qf (i:=j) jl isAgg9 Ng rfl)));refine de (rX [F4[j]] zT) ?_;refine bG ?_;refine aJ [] ?_;refine⟨?_,rfl⟩;unfold pC;rw[if_neg bC,if_neg cM,if_neg ek,if_neg gG,if_neg kO,if_neg lp,hj,show(((7+j:Nat):Int)-7).toNat=j by omega,mz Ng];first|done|rfl

theorem Ov:∀(l pre:List cA),qR pre l=0→∀c∈l,cU c.n=0∧1≤c.k∧c.k≤3
 | [],_,_,c,hc=>by cases hc
 | a::l,pre,h,c,hc=>by
  have h:(if ni pre a≠0 then ni pre a else qR (pre++[a]) l)=0:=h;by_cases h0:ni pre a=0
  ·rw[if_neg (by simp[h0])] at h;rcases mem_cons.1 hc with rfl|hc
   ·unfold ni at h0;by_cases h1:cU c.n=0
    ·rw[if_neg (by simp[h1])] at h0;by_cases h2:c.k<1∨c.k>3
     ·rw[if_pos h2] at h0;cases h0
     exact⟨h1,by omega⟩
    rw[if_pos h1] at h0;exact absurd h0 h1
   exact Ov l _ h c hc
  rw[if_pos h0] at h;exact absurd h h0
theorem Z7{l:List cA}(h:fI l=0):(1≤l.length∧l.length≤6)∧∀c∈l,cU c.n=0∧1≤c.k∧c.k≤3:=by
 unfold fI at h;split at h
 ·cases h
 exact⟨by omega,Ov l [] h⟩
theorem R3{α:Type}{f:α→Int}:∀{l:List α},jN f l=0→∀a∈l,f a=0
 | [],_,a,h=>by cases h
 | b::r,h,a,ha=>by
  unfold jN at h;split at h
  ·exact absurd h tN
  rcases mem_cons.1 ha with rfl|ha
  ·have hn:¬f a≠0:=(by assumption)
   omega
  exact R3 h a ha
theorem Ja{l:List aX}(h:nE l=0):l.length=0∨fK 0 l=0:=by
 unfold nE at h;split at h
 ·exact .inl tN
 right;unfold iT at h;split at h
 ·cases h
 exact h
theorem aff{l:List aX}(h:iT l=0):fK 0 l=0∧l.length≤40:=by
 unfold iT at h;split at h
 ·cases h
 exact⟨h,by omega⟩
theorem agD{s:cx}(h:gP s=0):jF s=0∧ku s (iA s)=true∧(s.kind<7→cU s.table=0):=by
 unfold gP at h;split at h
 ·rename_i h1;exact absurd h h1.2
 rename_i h1;split at h
 ·cases h
 rename_i h2;refine⟨h,?_,fun hk=>?_⟩
 ·cases hb:ku s (iA s) with
  | true=>rfl
  | false=>exact absurd ⟨h,hb⟩ h2
 by_cases hn:cU s.table=0
 ·exact hn
 exact absurd ⟨hk,hn⟩ h1
theorem agE{s:cx}(hf:j3 s)(h1:1≤s.kind)(I:s.kind≤9)(h:gP s=0):Xu s:=by
 have he:=(agD h).1;unfold jF at he;refine⟨hf,h1,I,fun hk=>?_,fun hk v E=>?_,fun hk=>?_,fun hk=>?_⟩
 ·rw[if_pos hk] at he;exact fun c hc=>((Z7 he).2 c hc).2
 ·rw[if_neg w4,if_pos hk] at he;unfold en at he;split at he
  ·cases he
  exact TJ (R3 he v E) (hf.r v E).1 (hf.r v E).2
 ·by_cases h4:s.kind=4
  ·rw[if_neg w4,if_neg w4,if_pos h4] at he;unfold oK at he;repeat' split at he
   all_goals first|(exfalso;omega)|exact Ja w4
  by_cases h5:s.kind=5
  ·rw[if_neg w4,if_neg w4,if_neg h4,if_pos h5] at he;repeat' split at he
   all_goals first|(exfalso;omega)|exact Ja he
  rw[if_neg w4,if_neg w4,if_neg h4,if_neg h5,if_pos w4] at he;exact Ja he
 rw[if_neg w4,if_neg w4,if_neg w4,if_pos hk] at he;repeat' split at he
 all_goals first|(exfalso;omega)|exact(aff tN).1
def gQ(s:cx):Int:=if s.kind<1∨s.kind>9 then 2 else if gP s≠0 then gP s else if (pC s).length>100 then 10 else 0
theorem Qp(hm:(3,marksC)∈G)(hw:(1,wordsC)∈G)(O:(0,typesC)∈G)(s:cx)(hf:j3 s):VP Tryz.prog G 25 [.agg (bI s)] (ae (gQ s)):=by
 refine VC.body func25 rfl ntmps25 aS fun X0 w0 aZ=>?_;have da:=dW;have fg:=Z6 hm hw s hf;unfold bI at fg;unfold bI;have Z:(s.kind<1∨s.kind>9)∨¬(s.kind<1∨s.kind>9):=(by omega)
 refine bY ?_;refine OD.box (ds:=[_,_,_,_,_,_,_,_,_,_,_,_]) ap rfl rfl ot rfl rfl (fun b1=>?_);refine an 21 [1] ?_;refine aD 4 ?_;refine bX 7 (fun U E=>?_) (fun U E=>?_)
 ·refine bg [1,11] ?_;refine eM ?_;have aV:gQ s=2:=if_pos w4;exact xF
 refine bg [1,11] ?_;refine au ?_ ?_<;>intro aN bC
 ·have aV:gQ s=2:=if_pos w4;exact xF
 have hk:¬(s.kind<1∨s.kind>9):=(by omega)
 refine cH [1,3] (fg) ?_;refine af [1,3,15] ?_;refine au ?_ ?_<;>intro aY cz
 ·have hn:gP s≠0:=(by simpa using aY)
  have aV:gQ s=gP s:=(by unfold gQ;rw[if_neg hk,if_pos hn])
  exact xF
 have h0:gP s=0:=(by simpa using aY)
 have I:=adw O s (agE hf w4 w4 h0);unfold bI at I;have gL:¬gP s≠0:=fun h=>h h0;refine cH [20] (I) ?_;refine au ?_ ?_<;>intro bZ cM
 ·have aV:gQ s=10:=(by unfold gQ;rw[if_neg hk,if_neg gL,if_pos (by simp at bZ;omega)])
  exact xF
 have aV:gQ s=0:=(by unfold gQ;rw[if_neg hk,if_neg gL,if_neg (by simp at bZ;omega)])
 refine af [2] ?_;refine eR ?_;rw[aV];exact⟨rfl,rfl⟩

end Go.Proofs.YtdgichenhdikgaaGreatDoor.Pa
namespace Go.Proofs.YtdgichenhdikgaaGreatDoor.Pc
open List
open Go.Proofs.Tryz
open Go.RowKit V Pk Vl Go.Proofs.YtdgichenhdikgaaGreatDoor.Nm Pa
variable {G:List (Nat×List Value)}
variable {i:Nat}
theorem afg:cU ⟨#[116]⟩=0:=rQ (l:=[116]) w7 w7 (fun c hc=>by simp only[mem_singleton] at hc;subst hc;decide)
def qH(l:List cA):cx:={gN with kind:=1,table:=⟨#[116]⟩,az:=l}
theorem agF{l:List cA}(h6:l.length≤6)(aT:∀c∈l,c.n.size≤maxLen):j3 (qH l) :=
 ⟨⟨h6,Nat.zero_le _,Nat.zero_le _,Nat.zero_le _,Nat.zero_le _⟩,(by show 1≤maxLen;decide),aT,(fun _ h=>by cases h),Nat.zero_le _,Nat.zero_le _,(fun _ h=>by cases h),(fun _ h=>by cases h),(fun _ h=>by cases h)⟩
theorem afh(l:List cA):ku (qH l) (qH l)=true:=by
 unfold ku;simp only[Bool.and_eq_true,beq_iff_eq,wi,and_self]
theorem adA(l:List cA):gP (qH l)=fI l:=by
 have h1:jF (qH l)=fI l:=rfl;have h2:iA (qH l)=qH l:=rfl;unfold gP;rw[if_neg (fun h=>h.2 afg),h2,h1,if_neg (fun h=>by rw[afh] at h;cases h.2)]
theorem abH{l:List cA}(h6:l.length≤6):gQ (qH l)=fI l:=by
 unfold gQ;rw[if_neg (fun h=>by have:(qH l).kind=1:=rfl;omega),adA];split
 ·rfl
 rename_i h0;have h1:=EL (ts:=l.map jg) (I9 l) (l.map jg).length;have h2:(l7 (l.map jg)).length≤80:=(by unfold l7;rw[length_append];rw[length_map] at h1 ⊢;simp only[length_cons,length_nil];omega)
 have h3:(pC (qH l)).length≤100:=by
  show([_,_,_].map bD++l7 (l.map jg)).length≤100;rw[length_append];simp only[length_map,length_cons,length_nil];omega
 rw[if_neg w4];simp only[ne_eq,Decidable.not_not] at h0;exact h0.symm
def Nh(l:List cA):List D:=[ae 1,bn ⟨#[116]⟩,av 2 cC l,bS,bS,cg false,bS,fL,cg false,ae (-1),fL,bS]
theorem Z8(hm:(3,marksC)∈G)(hw:(1,wordsC)∈G)(ht:(0,typesC)∈G)(l:List cA)(hl:l.length≤6)(aT:∀c∈l,c.n.size≤maxLen):VP Tryz.prog G 25 [.agg (Nh l)] (ae (fI l)):=by
 have h:=Pa.Qp (G:=G) hm hw ht (qH l) (agF hl aT);rw[abH hl] at h;refine VC.args h rfl fun w L i h1 h2 v E=>?_;have:i=0:=(by simp only[length_cons,length_nil] at h1;omega)
 subst this;exact yK (a:=Nh l) (b:=bI (qH l)) ⟨cY,cY,cY,eV,eV,cY,eV,cY,cY,cY,cY,eV,trivial⟩ w L v E
theorem EV(hm:(3,marksC)∈G)(hw:(1,wordsC)∈G)(ht:(0,typesC)∈G)(l:List cA)(hl:l.length≤6)(aT:∀c∈l,c.n.size≤maxLen):VP Tryz.prog G 54 [av 2 cC l] (ae (fI l)):=by
 refine VC.body func54 rfl ntmps54 aS fun X0 w0 aZ=>?_;have da:=dW;have fg:=Z8 hm hw ht l hl aT;unfold Nh at fg;refine af [0] ?_;refine cH [2] (fg) ?_;exact z51
def l9(i:Nat)(c:cA)(v:Vl):Int:=if dH v≠0 then dH v else if v.k≠c.k∧(i=0∨v.k≠0) then 4 else 0
def pK:Nat→List cA→List Vl→Int
 | i,c::cs,v::vs=>if l9 i c v≠0 then l9 i c v else pK (i+1) cs vs
 | _,_,_=>0
def en(cs:List cA)(vs:List Vl):Int:=if fI cs≠0 then fI cs else if vs.length≠cs.length then 1 else pK 0 cs vs
theorem ZP{cs:List cA}{vs:List Vl}(h1:i<cs.length)(h2:i<vs.length)(h:l9 i cs[i] vs[i]=0):pK i (cs.drop i) (vs.drop i)=pK (i+1) (cs.drop (i+1)) (vs.drop (i+1)):=by
 rw[drop_eq_getElem_cons h1,drop_eq_getElem_cons h2];exact if_neg (by simp[h])
theorem PX{cs:List cA}{vs:List Vl}(h1:i<cs.length)(h2:i<vs.length)(h:l9 i cs[i] vs[i]≠0):pK i (cs.drop i) (vs.drop i)=l9 i cs[i] vs[i]:=by
 rw[drop_eq_getElem_cons h1,drop_eq_getElem_cons h2];exact if_pos h
theorem abI{cs:List cA}{vs:List Vl}(h:¬i<vs.length):pK i (cs.drop i) (vs.drop i)=0:=by
 rw[drop_of_length_le (l:=vs) w4];cases cs.drop i<;>rfl
theorem JK(hm:(3,marksC)∈G)(hw:(1,wordsC)∈G)(ht:(0,typesC)∈G)(l:List cA)(hl:l.length≤6)(aT:∀c∈l,c.n.size≤maxLen)(vs:List Vl)(rD:vs.length≤maxLen):VP Tryz.prog G 33 [av 2 cC l,av 3 cV vs] (ae (en l vs)):=by
 refine VC.body func33 rfl ntmps33 aS fun X0 w0 aZ=>?_;have da:=dW;refine af [0,1] ?_;refine cH [0,1,5] (EV hm hw ht l hl aT) ?_;refine af [0,1,5,12] ?_;refine au ?_ ?_<;>intro aN bC
 ·have hne:fI l≠0:=(by simpa using aN)
  have aV:en l vs=fI l:=if_pos hne;refine af [4] ?_;exact ow
 have h0:¬fI l≠0:=(by simpa using aN)
 refine af [0,1,18] ?_;refine au ?_ ?_<;>intro aY cz
 ·have aV:en l vs=1:=(by unfold en;rw[if_neg h0,if_pos w4])
  refine af [4] ?_;exact ow
 have Z:vs.length=l.length:=(by omega)
 have E:en l vs=pK 0 (l.drop 0) (vs.drop 0):=(by unfold en;rw[if_neg h0,if_neg (by simp[Z])];rfl)
 refine af [0,19,20,21] ?_;refine eK [0,19,20] (fun aW _ (i:Nat) aI=>(i≤vs.length)∧(en l vs=pK i (l.drop i) (vs.drop i))∧aI=(⟨49,(21,ae (i:Nat))::aW,[]⟩:St)) (fun (i:Nat)=>vs.length-i) 0 ⟨(Nat.zero_le _),E,rfl⟩ ?_;rintro i _ ⟨hi,hinv,rfl⟩;refine af [0,19,20,21,22] ?_;refine au ?_ ?_<;>intro bZ cM
 ·have aa:i<vs.length:=(by omega)
  have KH:i<l.length:=(by omega)
  refine aD 3 ?_;refine OD.alloc (ds:=[_,_,_]) ap rfl rfl zeroValue41 rfl (fun b7=>?_);refine aE 1 ?_;refine aP 0 [_,_,_] sizeOf41 ?_;refine an 49 [0,6,7,19,20,21] ?_;refine cH [0,6,7,8,19,20,21] (Vl.pn vs[i]) ?_;refine af [0,6,7,8,19,20,21,29] ?_;refine au ?_ ?_<;>intro cW ek
  ·have hne:dH vs[i]≠0:=(by simpa using cW)
   have hf:l9 i l[i] vs[i]=dH vs[i]:=if_pos hne;have aV:en l vs=dH vs[i]:=(by rw[hinv,PX KH aa (by rw[hf];exact hne),hf])
   refine af [4] ?_;exact ow
  have hz:¬dH vs[i]≠0:=(by simpa using cW)
  refine CD.skip ?_;refine CD.seq ?_;refine mg 7 [0,6,7,19,20,21,32,37] ?_;refine bG ?_;refine aE 2 ?_;refine bX 39 (fun U I=>?_) (fun U I=>?_)
  ·refine aE 3 ?_;refine bX 42 (fun qY O=>?_) (fun qY O=>?_)
   ·refine bg [0,19,20,21,47] ?_;refine eM ?_;exact Wu
   refine bg [0,19,20,21,47] ?_;refine au ?_ ?_<;>intro eA fA
   ·exact Wu
   exact z72
  refine bg [0,19,20,21,47] ?_;refine fT ?_;exact z72
 have aV:en l vs=0:=(by rw[hinv];exact abI w4)
 refine af [4] ?_;exact uf

end Go.Proofs.YtdgichenhdikgaaGreatDoor.Pc

namespace Go.Proofs.YtdgichenhdikgaaGreatDoor.Nm
open List
open Go.Proofs.Tryz
open Go.RowKit V Pk Vl
inductive Tw where
 | mk (k n:Int) (s:ByteArray) (ts:List Tw)
mutual
def Tw.cs:Tw→List D
 | .mk k n s ts=>[.v (.int .i64 k),.v (.int .i64 n),.v (.string s),.list 4 (Tw.mq ts) ts.length]
def Tw.mq:List Tw→List D
 | []=>[]
 | t::r=>t.cs++Tw.mq r
end
theorem Tw.JL:∀ts:List Tw,Tw.mq ts=ts.flatMap Tw.cs
 | []=>rfl
 | t::r=>by rw[Tw.mq,Tw.JL r,flatMap_cons]
theorem Tw.Fc(t:Tw):t.cs.length=4:=by cases t;rfl
mutual
def Tw.Ok:Tw→Prop
 | .mk k n s ts=>(-9223372036854775808≤k∧k≤9223372036854775807)∧(-9223372036854775808≤n∧n≤9223372036854775807)∧s.size≤maxLen∧ts.length≤maxLen∧Tw.GZ ts
def Tw.GZ:List Tw→Prop
 | []=>True
 | t::r=>t.Ok∧Tw.GZ r
end
theorem Tw.R4:∀{ts:List Tw},Tw.GZ ts→∀t∈ts,t.Ok
 | [],_,t,h=>by cases h
 | a::r,⟨h1,h2⟩,t,h=>by
  rcases mem_cons.1 h with rfl|h
  ·exact h1
  exact Tw.R4 h2 t h
theorem Tw.R5:∀{ts:List Tw},(∀t∈ts,t.Ok)→Tw.GZ ts
 | [],_=>trivial
 | a::r,h=>⟨h a mem_cons_self,Tw.R5 fun t ht=>h t (mem_cons_of_mem _ ht)⟩

def r8(j:Int):ByteArray:=if j=0 then ⟨#[105,100]⟩ else if j=1 then ⟨#[110]⟩ else if j=2 then ⟨#[115]⟩ else ⟨#[98]⟩
def tP(n:Int)(s:ByteArray):Vl:={py ⟨n,eu n 40-20,s⟩ with s:=nl (py ⟨n,eu n 40-20,s⟩).s 4}
def rZ(n:Int)(s:ByteArray):aX:=⟨1,tP n s,⟨#[]⟩⟩
def wE(n:Int):aX:=⟨2,bQ,r8 (eu n 4)⟩
def qP(k:Int):aX:=⟨k,bQ,⟨#[]⟩⟩
def my(k n:Int)(s:ByteArray):List aX:=if 1+eu k 11=2 then [wE n] else [rZ n s]
def iz:Nat→Tw→List aX
 | 0,.mk k n s _=>my k n s
 | r+1,.mk k n s ts =>
  if 1+eu k 11=1 then [rZ n s]
  else if 1+eu k 11=2 then [wE n]
  else if 1+eu k 11=5∨1+eu k 11=11 then (match ts[0]? with|some t=>iz r t|none=>my n 0 s)++[qP (1+eu k 11)]
  else ((match ts[0]? with|some t=>iz r t|none=>my n 0 s)++(match ts[1]? with|some t=>iz r t|none=>my n 1 s))++[qP (1+eu k 11)]
def gI(r:Nat)(ts:List Tw)(n:Int)(s:ByteArray)(i:Nat):List aX:=match ts[i]? with|some t=>iz r t|none=>my n i s
theorem yw(k n:Int)(s:ByteArray):(my k n s).length=1:=by unfold my;split<;>rfl
theorem Jb:∀(r:Nat) (t:Tw),1≤(iz r t).length∧(iz r t).length+1≤2 ^ (r+1)
 | 0,.mk k n s ts=>by rw[iz,yw];exact⟨by decide,by decide⟩
 | r+1,.mk k n s ts=>by
  have E:∀i:Nat,1≤(gI r ts n s i).length∧(gI r ts n s i).length+1≤2 ^ (r+1):=fun i=>by
   unfold gI;split
   ·exact Jb r _
   rw[yw];exact⟨by decide,by rw[Nat.pow_succ];have:=Nat.one_le_two_pow (n:=r);omega⟩
  have h0:=E 0;have h1:=E 1;unfold gI at h0 h1;have hp:2 ^ (r+1+1)=2 ^ (r+1)+2 ^ (r+1):=(by rw[Nat.pow_succ];omega)
  rw[iz];simp only[Int.natCast_zero,Int.natCast_one] at h0 h1;split
  ·exact⟨by simp,by simp;omega⟩
  split
  ·exact⟨by simp,by simp;omega⟩
  split<;>simp only[length_append,length_cons,length_nil]<;>omega
theorem R6(r:Nat)(ts:List Tw)(n:Int)(s:ByteArray)(i:Nat):1≤(gI r ts n s i).length∧(gI r ts n s i).length+1≤2 ^ (r+1):=by
 unfold gI;split
 ·exact Jb r _
 rw[yw];exact⟨by decide,by rw[Nat.pow_succ];have:=Nat.one_le_two_pow (n:=r);omega⟩
theorem Ow(r:Vl):(py r).s.size≤10:=by
 unfold py bQ;split
 ·exact Nat.zero_le _
 split
 ·exact Nat.zero_le _
 split
 ·show(nl r.s 10).size≤10;rw[Ec];omega
 decide
theorem R7{j:Nat}(h:j<4):[D.v (.string ⟨#[105,100]⟩),D.v (.string ⟨#[110]⟩),D.v (.string ⟨#[115]⟩),D.v (.string ⟨#[98]⟩)][j*1]?=some (bn (r8 (j:Int))):=by
 match j,h with
 | 0,_|1,_|2,_|3,_=>rfl
variable {G:List (Nat×List Value)}
abbrev xk(ls:List aX)(r:D)(S:List ah):Prop:=gp cO 43 5 ls r S

theorem R8(k n d:Int)(s:ByteArray)(d4:D)(h4:kM d4=true)(dO:-9223372036854775808≤k)(fi:k≤9223372036854775807)(gw:-9223372036854775808≤n)(iX:n≤9223372036854775807)(hs:s.size≤maxLen)(hd:2<d):VC Tryz.prog G 32 [.agg [ae k,ae n,bn s,d4],ae d] [] (xk (my k n s)):=by
 refine VC.body func32 rfl ntmps32 aS fun X0 w0 aZ=>?_;have hpk:=ke k (by decide:(1:Int)≤11);have hpn:=ke n (by decide:(1:Int)≤40);have U:=ke n (by decide:(1:Int)≤4);obtain⟨j,hj⟩:=Int.eq_ofNat_of_zero_le U.1;have Z:j<4:=(by omega)
 have I:=lf G n 4 gw iX w7;rw[hj] at I;have fU:(⟨n,eu n 40-20,s⟩:Vl).Ok:=⟨gw,iX,by show _≤eu n 40-20;omega,by show eu n 40-20≤_;omega,hs⟩
 have WS:=Ow ⟨n,eu n 40-20,s⟩;have hml:100≤maxLen:=(by decide)
 obtain⟨kk,lA⟩:∃kk:Int,1+eu k 11=kk:=⟨_,rfl⟩
 refine bY ?_;refine OD.box (ds:=[_,_,_,_]) ap rfl rfl ot rfl rfl (fun b2=>?_);refine OD.box (ds:=[_]) ap rfl rfl ot rfl rfl (fun b3=>?_);refine an 69 [2,3] ?_;refine cQ [2,3,5] ?_;refine de (lf G k 11 dO fi w7) ?_;refine aU 0 ?_ (h:=by exact(c8 (r:=.int .i64 kk) rfl bL ot (ko (by rw[lA];exact wrap_i64 w4 w4))));refine bG ?_;refine aD 3 ?_;refine bX 14 (fun E O=>?_) (fun E O=>?_)
 ·refine bg [2,3,5,17] ?_;refine au ?_ ?_<;>intro aN bC
  ·refine cm [2,3,5] ?_;refine cQ [2,5,6] ?_;refine aU 0 ?_ (h:=by exact(pi (ds:=[_,_]) rfl ⟨ot,ot,trivial⟩));refine bG ?_;refine af [2,5,6,19] ?_;refine af [2,5,6,19,20] ?_;refine eM ?_;exact z119
  refine cQ [2,5,6] ?_;refine aU 0 ?_ (h:=by exact(pi (ds:=[_,_]) rfl ⟨ot,ot,trivial⟩));refine bG ?_;refine af [2,5,6,19] ?_;refine af [2,5,6,19,20] ?_;refine au ?_ ?_<;>intro aY cz
  ·exact z119
  refine af [2,5,6,19,40] ?_;refine au ?_ ?_<;>intro bZ cM
  ·refine aD 1 ?_;refine ez (cf 0 [_,_,_,_]) [.string ⟨#[]⟩,.string ⟨#[]⟩,.string ⟨#[]⟩,.string ⟨#[]⟩] [_,_,_,_] zeroValue9 runUnderlying29 sizeOf9 (fun Xy=>?_);refine fP 0 43 1 4 ?_;refine aE 2 ?_;refine dS call21 (I) ?_;refine aE 1 ?_;refine bH (cR (mk:=Op.load 9) rfl ot (BQ isAgg9 (R7 Z))) ?_;refine aE 1 ?_;refine ez (cf 0 [_]) [.int .i64 0,.int .i64 0,.int .i64 0,.string ⟨#[]⟩,.string ⟨#[]⟩] [_,_,_,_,_] zeroValue43 runUnderlying30 sizeOf43 (fun Ao=>?_);exact z28
  exact absurd bZ (by simp at aN aY bZ;omega)
 exact absurd E (by simp at E;omega)

end Go.Proofs.YtdgichenhdikgaaGreatDoor.Nm

namespace Go.Proofs.YtdgichenhdikgaaGreatDoor.Nm
open List
open Go.Proofs.Tryz
open Go.RowKit V Pk Vl
variable {G:List (Nat×List Value)}
variable {ts:List Tw} {h:Int}
theorem Qq{r:Nat}{n:Int}{s:ByteArray}{i:Nat}(hi:i<ts.length):iz r ts[i]=gI r ts n s i:=by unfold gI;rw[getElem?_eq_getElem hi]
theorem Qr{r:Nat}{n:Int}{s:ByteArray}{i:Nat}(hi:ts.length≤i):my n i s=gI r ts n s i:=by unfold gI;rw[getElem?_eq_none hi]
theorem vW(r:Nat)(k n:Int)(s:ByteArray)(ts:List Tw):iz (r+1) (.mk k n s ts)=if 1+eu k 11=1 then [rZ n s] else if 1+eu k 11=2 then [wE n]
  else if 1+eu k 11=5∨1+eu k 11=11 then gI r ts n s 0++[qP (1+eu k 11)] else (gI r ts n s 0++gI r ts n s 1)++[qP (1+eu k 11)]:=rfl
theorem J3(r:Nat)(k n d:Int)(s:ByteArray)(ts:List Tw)(i b2 b3:Nat)(IH:∀t∈ts,VC Tryz.prog G 32 [.agg t.cs,ae (d+1)] [] (xk (iz r t)))(gw:-9223372036854775808≤n)(iX:n≤9223372036854775807)(hs:s.size≤maxLen)(hd1:0≤d)(hd:d≤2)(hi:i≤1):VC Tryz.prog G 52 [ae (i:Int),dI b2,dI b3] [⟨b3,3,1,[ae d]⟩,⟨b2,62,4,[ae k,ae n,bn s,.list 4 (ts.flatMap Tw.cs) ts.length]⟩] (fun x S=>∃S1,xk (gI r ts n s i) x S1∧S=S1++[⟨b3,3,1,[ae d]⟩,⟨b2,62,4,[ae k,ae n,bn s,.list 4 (ts.flatMap Tw.cs) ts.length]⟩]):=by
 refine VC.body func52 rfl ntmps52 aS fun X0 w0 aZ=>?_;refine aD 1 ?_;refine OD.wk (Wk.dU (n:=25) (l':=[(0,_),(1,_),(2,_)]) (S':=_) rfl rfl fp) ?_;refine OD.nil ?_;refine aD 5 ?_;refine OD.wk (Wk.dU (n:=25) (l':=[(0,_),(1,_),(2,_),(9,_)]) (S':=_) rfl rfl fp) ?_;refine OD.nil ?_;refine au ?_ ?_<;>intro aN bC
 ·have aa:i<ts.length:=(by omega)
  refine CD.seq ?_;refine CD.draw (aq _) aA (fun _ h=>h) ?_;refine ay 0 rfl (dj 3) ?_;refine ay 1 rfl (dJ 1) ?_;refine ay 2 rfl bf ?_;refine ay 3 rfl (dm 4) ?_;refine ay 4 rfl (cR (mk:=Op.load 62) rfl ot (by first|exact qd (k:=0) (ds:=[_,_,_,_]) rfl rfl isAgg62 sizeOf62 rfl rfl|exact qd (k:=1) (ds:=[_,_,_,_]) rfl rfl isAgg62 sizeOf62 rfl rfl|exact jY Tw.Fc isAgg62 sizeOf62 w5|exact dP (k:=0) Tw.Fc rfl rfl rfl isAgg62 sizeOf62 w5|exact dP (k:=1) Tw.Fc rfl rfl rfl isAgg62 sizeOf62 w5|exact qj (ds:=[_,_,_,_]) isAgg62 sizeOf62 rfl rfl)) ?_;refine ay 5 rfl (dJ 0) ?_;refine ay 6 rfl mP ?_;refine di.later rfl ?_;refine AD.one (i:=7) aA ?_;refine bj.call rfl ap rfl rfl rfl call32 (IH _ (getElem_mem aa)) ⟨ot,ot,trivial⟩ (eT _) (fun _ h=>h) ?_;rintro _ O ⟨U,Z,rfl,E⟩;refine cy 8 rfl bf ?_;refine AD.wk (y:=⟨25,[(4,_)],((O++[_,_]))⟩) (Wk.dU rfl rfl fp) rfl ?_;refine AD.done aA ?_;refine aJ _ ?_;first|exact⟨_,gp.cast (gp.mk E) (Qq aa),rfl⟩|exact⟨_,gp.cast (gp.mk I) (Qr w4),rfl⟩
 refine aD 6 ?_;refine OD.call ap rfl rfl rfl call32 (R8 n (i:Int) 9 s (bS) rfl gw iX w4 w4 hs w7) ⟨ot,bL,trivial⟩ (eT _) ?_;rintro _ S24 ⟨aoU,aoV,rfl,I⟩;refine aE 1 ?_;refine OD.wk (Wk.dU (n:=25) (l':=[(4,_)]) (S':=_) rfl rfl fp) ?_;refine OD.nil ?_;refine aJ _ ?_;first|exact⟨_,gp.cast (gp.mk E) (Qq aa),rfl⟩|exact⟨_,gp.cast (gp.mk I) (Qr w4),rfl⟩
theorem Hw:(Tryz.prog.info? 43).map (fun i=>(i.zero,i.size,i.bytes))=some (some (.agg #[.int .i64 0,.int .i64 0,.int .i64 0,.string ⟨#[]⟩,.string ⟨#[]⟩]),5,56):=by kernel_rfl
theorem adB(r:Nat)(hr:r≤2)(k n d:Int)(s:ByteArray)(ts:List Tw)(IH:∀t∈ts,VC Tryz.prog G 32 [.agg t.cs,ae (d+1)] [] (xk (iz r t)))(dO:-9223372036854775808≤k)(fi:k≤9223372036854775807)(gw:-9223372036854775808≤n)(iX:n≤9223372036854775807)(hs:s.size≤maxLen)(hd1:0≤d)(hd:d≤2):VC Tryz.prog G 32 [.agg [ae k,ae n,bn s,.list 4 (ts.flatMap Tw.cs) ts.length],ae d] [] (xk (iz (r+1) (.mk k n s ts))):=by
 refine VC.body func32 rfl ntmps32 aS fun X0 w0 aZ=>?_;have hpk:=ke k (by decide:(1:Int)≤11);have hpn:=ke n (by decide:(1:Int)≤40);have hpc:=ke n (by decide:(1:Int)≤4);obtain⟨j,hj⟩:=Int.eq_ofNat_of_zero_le hpc.1;have hj4:j<4:=(by omega)
 have I:=lf G n 4 gw iX w7;rw[hj] at I;have fU:(⟨n,eu n 40-20,s⟩:Vl).Ok:=⟨gw,iX,by show _≤eu n 40-20;omega,by show eu n 40-20≤_;omega,hs⟩
 have WS:=Ow ⟨n,eu n 40-20,s⟩;have hml:100≤maxLen:=(by decide)
 obtain⟨kk,lA⟩:∃kk:Int,1+eu k 11=kk:=⟨_,rfl⟩
 have mN:=R6 r ts n s 0;have j4:=R6 r ts n s 1;have h2p:2 ^ (r+1)≤8:=Nat.pow_le_pow_right w7 (show r+1≤3 by omega);refine bY ?_;refine OD.box (ds:=[_,_,_,_]) ap rfl rfl ot rfl rfl (fun b2=>?_);refine OD.box (ds:=[_]) ap rfl rfl ot rfl rfl (fun b3=>?_);refine an 69 [2,3] ?_;refine cQ [2,3,5] ?_;refine de (lf G k 11 dO fi w7) ?_;refine aU 0 ?_ (h:=by exact(c8 (r:=.int .i64 kk) rfl bL ot (ko (by rw[lA];exact wrap_i64 w4 w4))));refine bG ?_;refine aD 3 ?_;refine bX 14 (fun E Z=>?_) (fun E Z=>?_)
 ·exact absurd E (by simp at E;omega)
 refine bg [2,3,5,17] ?_;refine fT ?_;refine cQ [2,5,6] ?_;refine aU 0 ?_ (h:=by exact(pi (ds:=[_,_]) rfl ⟨ot,ot,trivial⟩));refine bG ?_;refine af [2,5,6,19] ?_;refine af [2,5,6,19,20] ?_;refine au ?_ ?_<;>intro aY cz
 ·refine CD.seq ?_;refine ug 11 10 [5,7,31] ?_;refine de (lf G n 40 gw iX w7) ?_;refine de (PZ ⟨n,eu n 40-20,s⟩ fU) ?_;refine rC ?_;refine jJ ?_;refine⟨rfl,fun b7=>?_⟩;refine aP 0 [_,_,_] sizeOf41 ?_;refine an 69 [5,7] ?_;refine aD 2 ?_;refine dS call16 (Bc (py ⟨n,eu n 40-20,s⟩).s 4 w4) ?_;refine aE 1 ?_;refine aP 0 [_,_,_] sizeOf9 ?_;refine an 69 [5,7] ?_;refine aD 3 ?_;refine ez (cf 0 [_]) [.int .i64 0,.int .i64 0,.int .i64 0,.string ⟨#[]⟩,.string ⟨#[]⟩] [_,_,_,_,_] zeroValue43 runUnderlying30 sizeOf43 (fun Cy=>?_);exact Wl
 refine af [2,5,6,19,40] ?_;refine au ?_ ?_<;>intro bZ cM
 ·refine aD 1 ?_;refine ez (cf 0 [_,_,_,_]) [.string ⟨#[]⟩,.string ⟨#[]⟩,.string ⟨#[]⟩,.string ⟨#[]⟩] [_,_,_,_] zeroValue9 runUnderlying29 sizeOf9 (fun Xy=>?_);refine fP 0 43 1 4 ?_;refine aE 2 ?_;refine dS call21 (I) ?_;refine aE 1 ?_;refine bH (cR (mk:=Op.load 9) rfl ot (BQ isAgg9 (R7 hj4))) ?_;refine aE 1 ?_;refine ez (cf 0 [_]) [.int .i64 0,.int .i64 0,.int .i64 0,.string ⟨#[]⟩,.string ⟨#[]⟩] [_,_,_,_,_] zeroValue43 runUnderlying30 sizeOf43 (fun Ao=>?_);exact Wl
 refine af [5,6,19,51] ?_;refine au ?_ ?_<;>intro cW ek
 ·refine eM ?_;exact z31
 refine cm [5,6,51] ?_;refine au ?_ ?_<;>intro eA fA
 ·exact z31
 refine aD 1 ?_;refine OD.kr (f:=52) (args:=[_]) (all:=[_,_,_]) (Sf:=[_,_]) (R:=[]) ap rfl rfl ot call52 (J3 r k n d s ts 0 b2 b3 IH gw iX hs hd1 hd w7) rfl ⟨bL,trivial⟩ (Perm.refl _) ?_;rintro _ _ ⟨Xz,⟨aoW,aoX,rfl,aiT⟩,rfl⟩;refine OD.perm (PV (A:=[_,_])) ?_;refine aE 1 ?_;refine OD.kr (f:=52) (args:=[_]) (all:=[_,_,_]) (Sf:=[_,_]) (R:=Xz) ap rfl rfl ot call52 (J3 r k n d s ts 1 b2 b3 IH gw iX hs hd1 hd w7) rfl ⟨bL,trivial⟩ (Perm.refl _) ?_;rintro _ _ ⟨CY,⟨Vi,xj,rfl,BX⟩,rfl⟩;refine OD.perm (abo (A:=[_,_])) ?_;refine OD.ij (t:=63) (Sq:=CY) lk BX (cn mY _) (yq (A:=[_,_])) ?_;refine OD.ew (ls:=(gI r ts n s 0)) (new:=(gI r ts n s 1)) (Sq:=Xz) mY JD ap rfl rfl underlying30 Hw rfl w7 ot aiT (dD (A:=[_,_])) ot w4 zJ zJ (fun C7 O aiU aiV=>?_);refine OD.perm (ee (S1:=[⟨C7,43,O*5,flatMap cO ((gI r ts n s 0)++(gI r ts n s 1))⟩]) (A:=[_,_])) ?_;refine aE 2 ?_;refine ez (cf 0 [_]) [.int .i64 0,.int .i64 0,.int .i64 0,.string ⟨#[]⟩,.string ⟨#[]⟩] [_,_,_,_,_] zeroValue43 runUnderlying30 sizeOf43 (fun qy=>?_);refine fP 0 67 5 1 ?_
 refine OD.ew (ls:=((gI r ts n s 0)++(gI r ts n s 1))) (new:=[(⟨kk,bQ,⟨#[]⟩⟩:aX)]) (Sq:=[⟨C7,43,O*5,flatMap cO ((gI r ts n s 0)++(gI r ts n s 1))⟩]) mY JD ap rfl rfl underlying30 Hw rfl w7 ot (bF aiU aiV) (dD (A:=[_,_])) ot bu zJ zJ (fun XA U aiW aiX=>?_);refine OD.perm (ee (S1:=[⟨XA,43,U*5,flatMap cO (((gI r ts n s 0)++(gI r ts n s 1))++[(⟨kk,bQ,⟨#[]⟩⟩:aX)])⟩]) (A:=[_,_])) ?_;refine an 69 [4] ?_;refine aJ [⟨XA,43,U*5,flatMap cO (((gI r ts n s 0)++(gI r ts n s 1))++[(⟨kk,bQ,⟨#[]⟩⟩:aX)])⟩] ?_;exact gp.cast (gp.mk (bF aiW aiX)) (by rw[vW,lA,if_neg w4,if_neg w4,if_neg w4];rfl)
theorem TK:∀(r:Nat),r≤3→∀(t:Tw),t.Ok→VC Tryz.prog G 32 [.agg t.cs,ae (3-(r:Int))] [] (xk (iz r t))
 | 0,_,.mk k n s ts,h=>R8 k n 3 s (.list 4 (Tw.mq ts) ts.length) rfl h.1.1 h.1.2 h.2.1.1 h.2.1.2 h.2.2.1 w7
 | r+1,hr,.mk k n s ts,h=>by
  have:=adB (G:=G) r w4 k n (3-((r+1:Nat):Int)) s ts (fun t ht=>by
   have h1:=TK r w4 t (Tw.R4 h.2.2.2.2 t ht);rw[show(3-((r+1:Nat):Int)+1)=3-(r:Int) by omega];exact h1) h.1.1 h.1.2 h.2.1.1 h.2.1.2 h.2.2.1 w4 w4
  rw[←Tw.JL] at this;exact this
theorem afi(t:Tw)(h:t.Ok):VC Tryz.prog G 19 [.agg t.cs] [] (xk (iz 3 t)):=by
 refine VC.body func19 rfl ntmps19 aS fun X0 w0 aZ=>?_;obtain⟨k,n,s,ts⟩:=t;have E:=TK (G:=G) 3 (Nat.le_refl _) (.mk k n s ts) h;unfold Tw.cs at E ⊢;refine bY ?_;refine OD.box (ds:=[_,_,_,_]) ap rfl rfl ot rfl rfl (fun b1=>?_);refine an 5 [1] ?_;refine aD 1 ?_;refine OD.call ap rfl rfl rfl call32 (E) ⟨ot,bL,trivial⟩ (eT _) ?_;rintro _ O ⟨U,Z,rfl,I⟩;refine OD.perm ee ?_;refine an 5 [2] ?_;refine aJ O ?_;exact gp.mk I
theorem TL(t:Tw)(h:t.Ok):VP Tryz.prog G 19 [.agg t.cs] (.list 5 ((iz 3 t).flatMap cO) (iz 3 t).length):=(afi t h).wI mY

def runs:Int→List aX→Option Int
 | h,[]=>some h
 | h,o::r=>if fj h o=0 then runs (h+(1-bP o.k)) r else none
theorem yg:∀(a b:List aX) (h:Int),runs h (a++b)=(runs h a).bind fun h'=>runs h' b
 | [],b,h=>rfl
 | o::r,b,h=>by
  rw[cons_append,runs,runs];split
  ·exact yg r b _
  rfl
theorem Ox:∀{a:List aX} {h h':Int} (b:List aX),runs h a=some h'→fK h (a++b)=fK h' b
 | [],h,h',b,e=>by cases e;rfl
 | o::r,h,h',b,e=>by
  rw[runs] at e;split at e
  ·rename_i h0;rw[cons_append,fK,if_pos h0];exact Ox b e
  cases e
theorem adC:((⟨#[]⟩:ByteArray).toList==(⟨#[]⟩:ByteArray).toList)=true:=by simp
theorem O1:zeroV bQ=true:=by unfold zeroV bQ;simp
theorem Qs:iU bQ=0:=by decide
theorem abJ(n:Int)(s:ByteArray):iU (tP n s)=0:=by
 have h1:=ke n (by decide:(1:Int)≤40);have h2:=ke (eu n 40-20) (by decide:(1:Int)≤2);have hc:(nl (nl s 10) 4).size≤4:=(by rw[Ec];omega)
 have he:nl (⟨#[]⟩:ByteArray) 4=ByteArray.empty:=I2 (by rw[HO];rfl);unfold iU tP py;split
 ·simp[dH,he];omega
 split
 ·simp[dH,he];omega
 split
 ·simp[dH];omega
 unfold bQ;simp[dH,he]
theorem R9(h0:0≤h)(n:Int)(s:ByteArray):fj h (rZ n s)=0:=by
 unfold fj rZ;rw[abJ];simp[bP];omega
theorem abK(j:Int):cU (r8 j)=0:=by
 unfold r8;split
 ·exact rQ (l:=[105,100]) w7 w7 w7
 split
 ·exact rQ (l:=[110]) w7 w7 w7
 split
 ·exact rQ (l:=[115]) w7 w7 w7
 exact rQ (l:=[98]) w7 w7 w7
theorem Se(h0:0≤h)(n:Int):fj h (wE n)=0:=by
 unfold fj wE;rw[Qs,O1,abK];simp[bP];omega
theorem Qt{k:Int}(h1:3≤k)(h2:k≤11)(E:bP k≤h):fj h (qP k)=0:=by
 unfold fj qP;simp only[Qs,O1,adC];rw[if_neg w4,if_neg bu,if_neg bu,if_neg w4,if_neg w4]
theorem O2(h0:0≤h)(k n:Int)(s:ByteArray):runs h (my k n s)=some (h+1):=by
 unfold my;split
 ·rw[runs,if_pos (Se h0 n),runs];rfl
 rw[runs,if_pos (R9 h0 n s),runs];rfl
theorem Qu:∀(r:Nat) (t:Tw) (h:Int),0≤h→runs h (iz r t)=some (h+1)
 | 0,.mk k n s ts,h,h0=>O2 h0 k n s
 | r+1,.mk k n s ts,h,h0=>by
  have E:∀(i:Nat) (h:Int),0≤h→runs h (gI r ts n s i)=some (h+1):=fun i h h0=>by
   unfold gI;split
   ·exact Qu r _ h h0
   exact O2 h0 _ _ _
  have hk:=ke k (by decide:(1:Int)≤11);rw[vW];split
  ·rw[runs,if_pos (R9 h0 n s),runs];rfl
  split
  ·rw[runs,if_pos (Se h0 n),runs];rfl
  split
  ·rename_i h3;rw[yg,E 0 h h0,Option.bind_some,runs,if_pos (Qt w4 w4 (by unfold bP;rw[if_neg w4,if_pos h3];omega)),runs];unfold qP bP;rw[if_neg (by simp only[];omega),if_pos h3];simp
  rename_i h3;rw[yg,yg,E 0 h h0,Option.bind_some,E 1 (h+1) w4,Option.bind_some,runs,if_pos (Qt w4 w4 (by unfold bP;rw[if_neg w4,if_neg h3];omega)),runs];unfold qP bP;rw[if_neg (by simp only[];omega),if_neg h3];congr 1;omega
theorem O3(t:Tw):1≤(iz 3 t).length∧(iz 3 t).length≤15:=by
 have:=Jb 3 t;omega
theorem O4(t:Tw):iT (iz 3 t)=0:=by
 unfold iT;rw[if_neg (by have:=O3 t;omega)];have:=Ox [] (Qu 3 t 0 (Int.le_refl _));rw[append_nil] at this;rw[this];rfl
theorem abL(t:Tw):∀o∈iz 3 t,o.nm.size≤2:=by
 have hn:∀j:Int,(r8 j).size≤2:=fun j=>by
  unfold r8;split
  ·decide
  split
  ·decide
  split<;>decide
 have E:∀k n s,∀o∈my k n s,o.nm.size≤2:=fun k n s o ho=>by
  unfold my at ho;split at ho<;>(simp only[mem_singleton] at ho;subst ho)
  ·exact hn _
  exact Nat.zero_le _
 have key:∀(r:Nat) (t:Tw),∀o∈iz r t,o.nm.size≤2:=by
  intro r;induction r with
  | zero=>intro t;obtain⟨k,n,s,ts⟩:=t;exact E k n s
  | succ r ih =>
   intro t o ho;obtain⟨k,n,s,ts⟩:=t;have I:∀i:Nat,∀o∈gI r ts n s i,o.nm.size≤2:=fun i o ho=>by
    unfold gI at ho;split at ho
    ·exact ih _ o ho
    exact E _ _ _ o ho
   have hb:∀k,(qP k).nm.size≤2:=fun k=>Nat.zero_le _;rw[vW] at ho;split at ho
   ·simp only[mem_singleton] at ho;subst ho;exact Nat.zero_le _
   split at ho
   ·simp only[mem_singleton] at ho;subst ho;exact hn _
   split at ho
   ·rcases mem_append.1 ho with ho|ho
    ·exact I 0 o ho
    simp only[mem_singleton] at ho;subst ho;exact hb _
   rcases mem_append.1 ho with ho|ho
   ·rcases mem_append.1 ho with ho|ho
    ·exact I 0 o ho
    exact I 1 o ho
   simp only[mem_singleton] at ho;subst ho;exact hb _
 exact key 3 t
theorem abM{l:List aX}(h:∀o∈l,o.nm.size≤2):∀o∈l,o.nm.size≤maxLen:=fun o ho=>Nat.le_trans (h o ho) w7
theorem Qv{H:Type}{enc:TypeId×Value→H}{w:World}{base:Nat}{sp:Nat→Bool}{held:Bool}:∀n,mc n enc Tryz.prog w base sp held 62 Tw.cs Tw.Ok:=by
 intro n;induction n using Nat.strongRecOn with
 | _ n ih =>
  intro cs x h;obtain⟨⟨k,m,s,ts⟩,h1,h2,h3,h4,h5⟩:=Y6 (fuel:=n) (n0:=1) (n1:=1) (n2:=1) (n3:=1) underlying62 aA rfl rfl rfl rfl aA aA aA aA
   (fun q _=>(uT underlying3).at q) (fun q _=>(uT underlying3).at q) (fun q _=>(OO underlying9).at q) (fun q hq=>OS (sz:=4) underlying60 aA w7 (fun z hz=>ih z w4) Tw.Fc) cs x h
  refine⟨.mk k m s ts,?_,h2,h3,h4,h5.2,Tw.R5 h5.1⟩;unfold Tw.cs;rw[Tw.JL];exact h1

end Go.Proofs.YtdgichenhdikgaaGreatDoor.Nm
