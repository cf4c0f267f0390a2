/-
  What the proof of SelectNames leans on, part 4 of 9: walks of the program's functions at the level of values, and plain facts of what they compute.
-/
import Derived.Test.YtdgichenhdikgaaGreatDoorPSelectNames3
set_option linter.unusedVariables false
set_option linter.unusedSimpArgs false
set_option maxRecDepth 100000
set_option maxHeartbeats 4000000
namespace Go.Proofs.YtdgichenhdikgaaGreatDoor.V
open List
open Go.RowKit V
instance ik3:Ik Tryz.prog 3 .i64:=⟨by kernel_rfl⟩
instance aoT:Sl Tryz.prog 22 14:=⟨by kernel_rfl⟩
instance aoU:Sl Tryz.prog 23 5:=⟨by kernel_rfl⟩
instance aop:tc Tryz.prog 23 5:=⟨by kernel_rfl⟩
instance anE:Fo Tryz.prog 25 0 0:=⟨by kernel_rfl⟩
instance aoV:Sz Tryz.prog 25 1:=⟨by kernel_rfl⟩
instance aoW:Sb Tryz.prog 25 [.slice none 0 0] [(0,1)]:=⟨by kernel_rfl,by kernel_rfl⟩
instance aoX:Sl Tryz.prog 27 2:=⟨by kernel_rfl⟩
instance aoY:Sl Tryz.prog 28 3:=⟨by kernel_rfl⟩
instance aoq:tc Tryz.prog 28 3:=⟨by kernel_rfl⟩
instance aoZ:Sl Tryz.prog 29 1:=⟨by kernel_rfl⟩
instance aor:tc Tryz.prog 29 1:=⟨by kernel_rfl⟩
instance ao0:Sl Tryz.prog 30 5:=⟨by kernel_rfl⟩
instance anF:Fo Tryz.prog 32 0 0:=⟨by kernel_rfl⟩
instance anG:Fo Tryz.prog 32 1 1:=⟨by kernel_rfl⟩
instance anH:Fo Tryz.prog 32 2 2:=⟨by kernel_rfl⟩
instance anI:Fo Tryz.prog 32 3 3:=⟨by kernel_rfl⟩
instance anJ:Fo Tryz.prog 32 4 4:=⟨by kernel_rfl⟩
instance anK:Fo Tryz.prog 32 5 5:=⟨by kernel_rfl⟩
instance anL:Fo Tryz.prog 32 6 6:=⟨by kernel_rfl⟩
instance anM:Fo Tryz.prog 32 7 7:=⟨by kernel_rfl⟩
instance anN:Fo Tryz.prog 32 8 8:=⟨by kernel_rfl⟩
instance anO:Fo Tryz.prog 32 9 9:=⟨by kernel_rfl⟩
instance anj:Fo Tryz.prog 32 10 10:=⟨by kernel_rfl⟩
instance ank:Fo Tryz.prog 32 11 11:=⟨by kernel_rfl⟩
instance ao1:Sz Tryz.prog 32 12:=⟨by kernel_rfl⟩
instance ao2:Sb Tryz.prog 32 [.int .i64 0,.string ⟨#[]⟩,.slice none 0 0,.slice none 0 0,.slice none 0 0,.bool false,.slice none 0 0,.string ⟨#[]⟩,.bool false,.int .i64 0,.string ⟨#[]⟩,.slice none 0 0] [(0,1),(1,1),(2,1),(3,1),(4,1),(5,1),(6,1),(7,1),(8,1),(9,1),(10,1),(11,1)]:=⟨by kernel_rfl,by kernel_rfl⟩
instance ao3:Sl Tryz.prog 34 1:=⟨by kernel_rfl⟩
instance anP:Fo Tryz.prog 36 0 0:=⟨by kernel_rfl⟩
instance ao4:Sz Tryz.prog 36 2:=⟨by kernel_rfl⟩
instance ao5:Sb Tryz.prog 36 [.slice none 0 0,.int .i64 0] [(0,1),(1,1)]:=⟨by kernel_rfl,by kernel_rfl⟩
instance anQ:Fo Tryz.prog 41 0 0:=⟨by kernel_rfl⟩
instance anR:Fo Tryz.prog 41 1 1:=⟨by kernel_rfl⟩
instance anS:Fo Tryz.prog 41 2 2:=⟨by kernel_rfl⟩
instance ao6:Sz Tryz.prog 41 3:=⟨by kernel_rfl⟩
instance ao7:Sb Tryz.prog 41 [.int .i64 0,.int .i64 0,.string ⟨#[]⟩] [(0,1),(1,1),(2,1)]:=⟨by kernel_rfl,by kernel_rfl⟩
instance anT:Fo Tryz.prog 43 0 0:=⟨by kernel_rfl⟩
instance anU:Fo Tryz.prog 43 1 1:=⟨by kernel_rfl⟩
instance anV:Fo Tryz.prog 43 2 4:=⟨by kernel_rfl⟩
instance ao8:Sz Tryz.prog 43 5:=⟨by kernel_rfl⟩
instance ao9:Sb Tryz.prog 43 [.int .i64 0,.int .i64 0,.int .i64 0,.string ⟨#[]⟩,.string ⟨#[]⟩] [(0,1),(1,3),(4,1)]:=⟨by kernel_rfl,by kernel_rfl⟩
instance apa:Sl Tryz.prog 49 5:=⟨by kernel_rfl⟩
instance anW:Fo Tryz.prog 51 0 0:=⟨by kernel_rfl⟩
instance anX:Fo Tryz.prog 51 1 1:=⟨by kernel_rfl⟩
instance apb:Sz Tryz.prog 51 2:=⟨by kernel_rfl⟩
instance apc:Sb Tryz.prog 51 [.slice none 0 0,.int .i64 0] [(0,1),(1,1)]:=⟨by kernel_rfl,by kernel_rfl⟩
instance anY:Fo Tryz.prog 53 0 0:=⟨by kernel_rfl⟩
instance anZ:Fo Tryz.prog 53 1 1:=⟨by kernel_rfl⟩
instance an0:Fo Tryz.prog 53 2 2:=⟨by kernel_rfl⟩
instance an1:Fo Tryz.prog 53 3 3:=⟨by kernel_rfl⟩
instance apd:Sz Tryz.prog 53 5:=⟨by kernel_rfl⟩
instance ape:Sb Tryz.prog 53 [.string ⟨#[]⟩,.slice none 0 0,.slice none 0 0,.slice none 0 0,.int .i64 0] [(0,1),(1,1),(2,1),(3,2)]:=⟨by kernel_rfl,by kernel_rfl⟩
instance an2:Fo Tryz.prog 62 0 0:=⟨by kernel_rfl⟩
instance an3:Fo Tryz.prog 62 1 1:=⟨by kernel_rfl⟩
instance an4:Fo Tryz.prog 62 2 2:=⟨by kernel_rfl⟩
instance an5:Fo Tryz.prog 62 3 3:=⟨by kernel_rfl⟩
instance apf:Sz Tryz.prog 62 4:=⟨by kernel_rfl⟩
instance apg:Sb Tryz.prog 62 [.int .i64 0,.int .i64 0,.string ⟨#[]⟩,.slice none 0 0] [(0,1),(1,1),(2,1),(3,1)]:=⟨by kernel_rfl,by kernel_rfl⟩
instance aph:Sl Tryz.prog 67 1:=⟨by kernel_rfl⟩
instance aos:tc Tryz.prog 67 1:=⟨by kernel_rfl⟩
instance an6:Fo Tryz.prog 69 0 0:=⟨by kernel_rfl⟩
instance an7:Fo Tryz.prog 69 1 1:=⟨by kernel_rfl⟩
instance api:Sz Tryz.prog 69 2:=⟨by kernel_rfl⟩
instance apj:Sb Tryz.prog 69 [.string ⟨#[]⟩,.int .i64 0] [(0,1),(1,1)]:=⟨by kernel_rfl,by kernel_rfl⟩
instance an8:Fo Tryz.prog 77 1 1:=⟨by kernel_rfl⟩
instance an9:Fo Tryz.prog 77 2 2:=⟨by kernel_rfl⟩
instance aoa:Fo Tryz.prog 77 3 3:=⟨by kernel_rfl⟩
instance aob:Fo Tryz.prog 77 4 4:=⟨by kernel_rfl⟩
instance aoc:Fo Tryz.prog 77 5 5:=⟨by kernel_rfl⟩
instance aod:Fo Tryz.prog 77 6 9:=⟨by kernel_rfl⟩
instance aoe:Fo Tryz.prog 77 7 13:=⟨by kernel_rfl⟩
instance apk:Sz Tryz.prog 77 14:=⟨by kernel_rfl⟩
instance apl:Sb Tryz.prog 77 [.int .i64 0,.int .i64 0,.int .i64 0,.int .i64 0,.slice none 0 0,.int .i64 0,.int .i64 0,.string ⟨#[]⟩,.slice none 0 0,.int .i64 0,.int .i64 0,.string ⟨#[]⟩,.slice none 0 0,.bool false] [(0,1),(1,1),(2,1),(3,1),(4,1),(5,4),(9,4),(13,1)]:=⟨by kernel_rfl,by kernel_rfl⟩
instance apm:Sl Tryz.prog 85 2:=⟨by kernel_rfl⟩
instance aof:Fo Tryz.prog 90 1 1:=⟨by kernel_rfl⟩
instance apn:Sz Tryz.prog 90 2:=⟨by kernel_rfl⟩
instance aot:tc Tryz.prog 98 3:=⟨by kernel_rfl⟩
instance anl:Fo Tryz.prog 114 0 0:=⟨by kernel_rfl⟩
instance anm:Fo Tryz.prog 114 1 1:=⟨by kernel_rfl⟩
instance ann:Fo Tryz.prog 114 2 2:=⟨by kernel_rfl⟩
instance aou:Sz Tryz.prog 114 3:=⟨by kernel_rfl⟩
instance aov:Sb Tryz.prog 114 [.int .i64 0,.int .i64 0,.string ⟨#[]⟩] [(0,1),(1,1),(2,1)]:=⟨by kernel_rfl,by kernel_rfl⟩
instance aow:Sl Tryz.prog 130 1:=⟨by kernel_rfl⟩
instance aog:tc Tryz.prog 130 1:=⟨by kernel_rfl⟩
instance ano:Fo Tryz.prog 137 0 0:=⟨by kernel_rfl⟩
instance anp:Fo Tryz.prog 137 1 1:=⟨by kernel_rfl⟩
instance anq:Fo Tryz.prog 137 2 2:=⟨by kernel_rfl⟩
instance aox:Sz Tryz.prog 137 3:=⟨by kernel_rfl⟩
instance aoy:Sb Tryz.prog 137 [.int .i64 0,.string ⟨#[]⟩,.int .i64 0] [(0,1),(1,1),(2,1)]:=⟨by kernel_rfl,by kernel_rfl⟩
instance aoz:Sl Tryz.prog 151 1:=⟨by kernel_rfl⟩
instance anr:Fo Tryz.prog 153 0 0:=⟨by kernel_rfl⟩
instance ans:Fo Tryz.prog 153 1 1:=⟨by kernel_rfl⟩
instance ant:Fo Tryz.prog 153 2 2:=⟨by kernel_rfl⟩
instance anu:Fo Tryz.prog 153 3 3:=⟨by kernel_rfl⟩
instance anv:Fo Tryz.prog 153 4 4:=⟨by kernel_rfl⟩
instance aoA:Sz Tryz.prog 153 5:=⟨by kernel_rfl⟩
instance aoB:Sb Tryz.prog 153 [.bool false,.slice none 0 0,.slice none 0 0,.slice none 0 0,.int .i64 0] [(0,1),(1,1),(2,1),(3,1),(4,1)]:=⟨by kernel_rfl,by kernel_rfl⟩
instance aoC:Sl Tryz.prog 157 1:=⟨by kernel_rfl⟩
instance anw:Fo Tryz.prog 159 0 0:=⟨by kernel_rfl⟩
instance anx:Fo Tryz.prog 159 1 2:=⟨by kernel_rfl⟩
instance anz:Fo Tryz.prog 159 2 3:=⟨by kernel_rfl⟩
instance aoD:Sz Tryz.prog 159 4:=⟨by kernel_rfl⟩
instance aoE:Sb Tryz.prog 159 [.slice none 0 0,.int .i64 0,.map none,.slice none 0 0] [(0,2),(2,1),(3,1)]:=⟨by kernel_rfl,by kernel_rfl⟩
instance aoF:Sz Tryz.prog 203 0:=⟨by kernel_rfl⟩
instance aoG:Sb Tryz.prog 203 [] []:=⟨by kernel_rfl,by kernel_rfl⟩
instance aoH:Ik Tryz.prog 213 .u64:=⟨by kernel_rfl⟩
instance anA:Fo Tryz.prog 225 0 0:=⟨by kernel_rfl⟩
instance anB:Fo Tryz.prog 225 1 1:=⟨by kernel_rfl⟩
instance aoI:Sz Tryz.prog 225 2:=⟨by kernel_rfl⟩
instance aoJ:Sb Tryz.prog 225 [.slice none 0 0,.slice none 0 0] [(0,1),(1,1)]:=⟨by kernel_rfl,by kernel_rfl⟩

end Go.Proofs.YtdgichenhdikgaaGreatDoor.V
namespace Go.Proofs.YtdgichenhdikgaaGreatDoor.Nm
open List
open Go.Proofs.Tryz
open Go.RowKit V
variable {k:Nat}
def wordsB:List (List UInt8):=[[67,82,69,65,84,69],[84,65,66,76,69],[68,82,79,80],[73,78,83,69,82,84],[73,78,84,79],[86,65,76,85,69,83],[83,69,76,69,67,84],[67,79,85,78,84],[70,82,79,77],[87,72,69,82,69],[79,82,68,69,82],[66,89],[68,69,83,67],[76,73,77,73,84],[85,80,68,65,84,69],[83,69,84],[68,69,76,69,84,69],[66,69,71,73,78],[67,79,77,77,73,84],[82,79,76,76,66,65,67,75],[65,78,68],[79,82],[78,79,84],[73,83],[78,85,76,76],[84,82,85,69],[70,65,76,83,69],[73,78,84],[84,69,88,84],[66,79,79,76]]
def marksB:List (List UInt8):=[[60,61],[62,61],[60,62],[40],[41],[44],[42],[43],[45],[61],[60],[62]]
def u3:List ByteArray:=wordsB.map fun b=>⟨b.toArray⟩
def Fw:List ByteArray:=marksB.map fun b=>⟨b.toArray⟩
def wordsC:List Value:=u3.map .string
def marksC:List Value:=Fw.map .string
def wB(c:UInt8):Bool:=decide ((97≤c.toNat∧c.toNat≤122)∨(65≤c.toNat∧c.toNat≤90)∨c.toNat=95)
def Fx(c:UInt8):Bool:=decide (48≤c.toNat∧c.toNat≤57)
def wT(c:UInt8):Bool:=wB c||Fx c
def FV(p:UInt8→Bool)(s:ByteArray):Nat:=(s.data.toList.takeWhile p).length
theorem Ue(p:UInt8→Bool):∀(l:List UInt8) (k:Nat),k≤l.length→(∀x∈l.take k,p x=true)→(∀h:k<l.length,p l[k]=false)→(l.takeWhile p).length=k
 | [],k,h,_,_=>by simp at h;subst h;rfl
 | a::r,0,_,_,h=>by
  have:p a=false:=h bq;rw[takeWhile_cons];simp[this]
 | a::r,k+1,h1,h2,h3=>by
  have ha:p a=true:=h2 a bq;rw[takeWhile_cons,if_pos ha,length_cons,Ue p r k (by simpa using h1) (fun x hx=>h2 x (by rw[take_succ_cons];exact mem_cons_of_mem _ hx)) (fun h=>by have:=h3 ph;simpa using this)]
theorem E8{p:UInt8→Bool}{s:ByteArray}(hk:k≤s.size)(h0:∀x∈s.data.toList.take k,p x=true)(h1:k<s.size→p (me s k)=false):FV p s=k :=
 Ue p _ k (by rw[kN];exact hk) h0 fun h=>by rw[H7 h];exact h1 (by rw[kN] at h;exact h)
structure Tk where
 k:Int
 s:ByteArray
 n:Int
def cT(t:Tk):List D:=[ae t.k,bn t.s,ae t.n]
theorem iK(t:Tk):(cT t).length=3:=rfl
def og(s:ByteArray):Bool:=!decide (s.size=0)&&wB (me s 0)&&((FV wT s:Int)==(s.size:Int))
def tU(t:Tk):Int :=
 if t.k=1 then (if (decide (t.n=0)&&og t.s)=true then 0 else 6)
 else if t.k=2 then (if t.n<0 then 3 else if t.s.size=0 then 0 else 6)
 else if t.k=3 then (if t.n=0 then 0 else 6)
 else if t.k=4 then (if (decide (t.n=0)&&Fw.any (jl t.s))=true then 0 else 6)
 else 2
def cL(s:ByteArray):Int:=if s.size>8 then 1 else if (!(og s)||u3.any (jl s))=true then 6 else 0
theorem OL(s:ByteArray):tU ⟨1,s,0⟩=if og s=true then 0 else 6:=by
 unfold tU;rw[if_pos rfl];simp
variable {G:List (Nat×List Value)}
theorem Pq(c:UInt8):VP Tryz.prog G 138 [.v (.int .u8 ((c).toNat:Int))] (bS (wB c)):=by
 refine VC.body func138 rfl ntmps138 aQ fun X0 w0 bg=>?_;refine af [0] ?_;refine aD 3 ?_;refine bW 5 (fun Z O=>?_) (fun Z O=>?_)
 ·refine aE 4 ?_;refine bW 9 (fun Nr U=>?_) (fun Nr U=>?_)
  ·exact z53
  refine aE 3 ?_;refine bW 12 (fun I E=>?_) (fun I E=>?_)
  ·exact VE
  exact z53
 refine aE 7 ?_;refine bW 12 (fun I E=>?_) (fun I E=>?_)
 ·exact VE
 refine bf [2] ?_;refine eO ?_;refine⟨vb ?_,rfl⟩;rw[Bool.eq_iff_iff];simp[wB];first|done|omega
theorem acg(c:UInt8):VP Tryz.prog G 141 [.v (.int .u8 ((c).toNat:Int))] (bS (Fx c)):=by
 refine VC.body func141 rfl ntmps141 aQ fun X0 w0 bg=>?_;refine af [0] ?_;refine aD 3 ?_;refine bW 5 (fun I E=>?_) (fun I E=>?_)
 ·refine bf [2] ?_;refine eO ?_;refine⟨vb ?_,rfl⟩;rw[Bool.eq_iff_iff];simp[Fx];first|done|omega
 refine bf [2] ?_;refine eO ?_;refine⟨vb ?_,rfl⟩;rw[Bool.eq_iff_iff];simp[Fx];first|done|omega
theorem Qr(c:UInt8):VP Tryz.prog G 140 [.v (.int .u8 ((c).toNat:Int))] (bS (wT c)):=by
 refine VC.body func140 rfl ntmps140 aQ fun X0 w0 bg=>?_;refine af [0] ?_;refine aD 1 ?_;refine dV call138 (Pq c) ?_;refine aE 1 ?_;refine bW 5 (fun I E=>?_) (fun I E=>?_)
 ·refine an 9 [2] ?_;refine aJ [] ?_;exact⟨vb (by simp[wT, *]),rfl⟩
 refine aE 1 ?_;refine OD.hU iw rfl rfl rfl call141 (acg c) ⟨ot,trivial⟩ ?_;refine an 9 [2] ?_;refine aJ [] ?_;exact⟨vb (by simp[wT, *]),rfl⟩
theorem R3(s:ByteArray)(g:Nat)(p:UInt8→Bool)(fq:∀args w,(callFunc g args).run Tryz.prog w = .ok (.enter g args) w)(hp:∀c,VP Tryz.prog G g [.v (.int .u8 ((c).toNat:Int))] (bS (p c)))(hs:s.size≤maxLen):VP Tryz.prog G 139 [bn s,.eC (.func g) []] (ae (FV p s)):=by
 refine VC.body func139 rfl ntmps139 aQ fun X0 w0 bg=>?_;simp only[maxLen] at hs;refine af [0,1] ?_;refine af [0,1,5] ?_;refine eD [0,1] (fun aW _ (k:Nat) aH=>(k≤s.size)∧(∀x∈s.data.toList.take k,p x=true)∧aH=(⟨20,(5,ae (k:Nat))::aW,[]⟩:St)) (fun (k:Nat)=>s.size-k) 0 ⟨(Nat.zero_le _),bq,rfl⟩ ?_;rintro k _ ⟨hk,h0,rfl⟩;refine aD 5 ?_;refine bW 10 (fun I E=>?_) (fun I E=>?_)
 ·have O:k<s.size:=(by omega)
  have xV:s[k]?=some (me s k):=J9 O;refine aE 3 ?_;refine OD.still iw rfl (HZ rfl ot ot runUnderlying9 rfl (by first|assumption|rfl)) ?_;refine OD.kz (f:=g) (args:=[_]) (all:=[_]) iw rfl rfl ot fq (hp (me s k)) rfl ⟨ot,trivial⟩ (eR _) ?_;rintro _ S2 ⟨rfl,rfl⟩;refine an 20 [0,1,5,16] ?_;refine au ?_ ?_<;>intro aO bE
  ·refine cl [0,1,5] ?_;refine⟨(k+1),_,cz,aK,w4,(yN (by rw[kN];exact O) h0 (by rw[H7];assumption)),rfl⟩
  refine af [4] ?_;refine aJ [] ?_;refine⟨vi ?_,rfl⟩;first|(rw[E8 hk h0 (fun h=>by omega)];done)|(rw[E8 hk h0 (fun h=>by assumption)];done)
 refine bf [0,1,5,16] ?_;refine fN ?_;refine af [4] ?_;refine eO ?_;refine⟨vi ?_,rfl⟩;first|(rw[E8 hk h0 (fun h=>by omega)];done)|(rw[E8 hk h0 (fun h=>by assumption)];done)
theorem ach(E:List ByteArray)(s:ByteArray)(hlen:E.length≤maxLen):VP Tryz.prog G 142 [av 1 cS E,bn s] (ae (dR (jl s) E)):=by
 refine VC.body func142 rfl ntmps142 aQ fun X0 w0 bg=>?_;simp only[maxLen] at hlen;refine af [0,1] ?_;refine af [0,1,7,8] ?_;refine eD [0,1,7] (fun aW _ (k:Nat) aH=>(k≤E.length)∧(∀x∈E.take k,jl s x=false)∧aH=(⟨19,(8,ae (k:Nat))::aW,[]⟩:St)) (fun (k:Nat)=>E.length-k) 0 ⟨(Nat.zero_le _),bq,rfl⟩ ?_;rintro k _ ⟨hk,h0,rfl⟩;refine af [0,1,7,8,9] ?_;refine au ?_ ?_<;>intro aO bE
 ·have aa:k<E.length:=(by omega)
  refine af [0,1,5,7,8] ?_;refine af [0,1,5,7,8,16] ?_;refine au ?_ ?_<;>intro aY cJ
  ·refine af [4] ?_;refine aJ [] ?_;refine⟨vi ?_,rfl⟩;first|(rw[wj w4 h0 aY];done)|(rw[v8 w4 h0];done)
  refine cl [0,1,7,8] ?_;refine⟨(k+1),_,cz,aK,w4,(yN w4 h0 aY),rfl⟩
 refine af [4] ?_;refine aJ [] ?_;refine⟨vi ?_,rfl⟩;first|(rw[wj w4 h0 aY];done)|(rw[v8 w4 h0];done)
theorem OF(E:List ByteArray)(s:ByteArray)(hlen:E.length≤maxLen):VP Tryz.prog G 109 [av 1 cS E,bn s] (bS (E.any (jl s))):=by
 refine VC.body func109 rfl ntmps109 aQ fun X0 w0 bg=>?_;refine af [0,1] ?_;refine cX [4] (ach E s hlen) ?_;refine aJ [] ?_;exact⟨vb QB,rfl⟩
theorem pH(hm:(3,marksC)∈G)(t:Tk)(hs:t.s.size≤maxLen):VP Tryz.prog G 108 [.agg (cT t)] (ae (tU t)):=by
 refine VC.body func108 rfl ntmps108 aQ fun X0 w0 bg=>?_;unfold cT;refine bY ?_;refine OD.box (ds:=[_,_,_]) ap rfl rfl ot rfl rfl (fun b1=>?_);refine an 53 [1] ?_;refine af [1,3] ?_;refine af [1,3,8] ?_;refine af [1,3,8,9] ?_;refine au ?_ ?_<;>intro aO bE
 ·refine fE 21 (aq _) ?_ (fun _ h=>h);refine ay 0 rfl aZ ?_;refine ay 1 rfl aZ ?_;refine dm.split (t:=12) lk (fun U=>?_) (fun U=>?_)
  ·have E:=U;(try simp only[V.nx,ne_eq] at E)
   refine ay 2 rfl (dh 1) ?_;refine ay 3 rfl (dI 0) ?_;refine ay 4 rfl mT ?_;refine ay 5 rfl xx ?_;refine ay 6 rfl aZ ?_;refine dm.split (t:=17) lk (fun xw=>?_) (fun xw=>?_)
   ·have wS:=xw;(try simp only[V.nx,ne_eq] at wS)
    refine ay 7 rfl (dh 1) ?_;refine ay 8 rfl (dI 0) ?_;refine ay 9 rfl (HZ (c:=me t.s 0) rfl ot bP runUnderlying9 rfl (J9 (afz uf))) ?_;refine dm.later rfl ?_;refine AD.one (i:=10) aA ?_;refine bj.hU rfl iw rfl rfl rfl call138 (Pq _) ⟨ot,trivial⟩ ?_;refine cr 11 rfl xx ?_;refine cr 12 rfl aZ ?_;refine AD.split (t:=23) lk (fun Z=>?_) (fun Z=>?_)
    ·have I:=Z;(try simp only[V.nx,ne_eq] at I)
     refine cr 13 rfl (dh 1) ?_;refine cr 16 rfl (dh 1) ?_;refine AD.two (i:=14) (j:=17) aA ?_ ?_
     ·refine at_ rfl (dI 0) ?_;refine AD.two (i:=15) (j:=17) aA ?_ ?_
      ·refine bj.hU rfl iw rfl rfl rfl call139 (R3 t.s 140 wT call140 Qr hs) ⟨ot,tv,trivial⟩ ?_;refine AD.one (i:=17) aA ?_;refine at_ rfl (dI 0) ?_;refine cr 18 rfl (Ef rfl rfl ot runUnderlying9) ?_;refine cr 19 rfl mT ?_;refine cr 20 rfl xx ?_;exact z119
      refine at_ rfl (dI 0) ?_;refine cr 18 rfl (Ef rfl rfl ot runUnderlying9) ?_;exact z141
     refine at_ rfl (dI 0) ?_;refine cr 18 rfl (Ef rfl rfl ot runUnderlying9) ?_;refine AD.one (i:=14) aA ?_;refine at_ rfl (dI 0) ?_;exact z141
    have I:=Z;(try simp only[V.nx,ne_eq] at I)
    exact Wy
   have wS:=xw;(try simp only[V.nx,ne_eq] at wS)
   exact z124
  have E:=U;(try simp only[V.nx,ne_eq] at E)
  refine mw 2 rfl ?_;refine mw 3 rfl ?_;refine mw 4 rfl ?_;refine ay 5 rfl vn ?_;refine ay 6 rfl aZ ?_;exact z124
 refine af [1,3,8,32] ?_;refine au ?_ ?_<;>intro aY cJ
 ·refine af [1,36] ?_;refine au ?_ ?_<;>intro cm cW
  ·refine af [2] ?_;refine aJ [] ?_;exact MJ
  refine cl [3] ?_;exact VA
 refine af [1,3,8,40] ?_;refine au ?_ ?_<;>intro da ek
 ·exact VA
 refine af [1,3,42] ?_;refine au ?_ ?_<;>intro ez fw
 ·refine fE 7 (aq _) ?_ (fun _ h=>h);refine ay 0 rfl aZ ?_;refine ay 1 rfl aZ ?_;refine dm.split (t:=45) lk (fun Lp=>?_) (fun Lp=>?_)
  ·have O:=Lp;(try simp only[V.nx,ne_eq] at O)
   refine ay 2 rfl (eA (l:=0) (h:=0) rfl wo trivial trivial (by first|exact SA (ls:=Fw) (g:=cS) hm rfl rfl runUnderlying211 sizeOf9 rfl w7 w7)) ?_;refine ay 3 rfl (dh 1) ?_;refine ay 4 rfl (dI 0) ?_;refine dm.later rfl ?_;refine AD.one (i:=5) aA ?_;refine bj.hU rfl iw rfl rfl rfl call109 (OF Fw t.s w7) ⟨ot,ot,trivial⟩ ?_;refine cr 6 rfl xx ?_;exact z119
  have O:=Lp;(try simp only[V.nx,ne_eq] at O)
  refine mw 2 rfl ?_;refine mw 3 rfl ?_;refine mw 4 rfl ?_;refine dm.later rfl ?_;refine AD.one (i:=5) aA ?_;refine bj.skip rfl (mE rfl rfl rfl lk jw) rfl ?_;refine cr 6 rfl vn ?_;refine eE ?_;refine bf [3] ?_;refine af [52] ?_;refine eI ?_;exact MI
 refine af [2] ?_;refine aJ [] ?_;refine⟨vi ?_,rfl⟩;try simp only[uU] at *
 simp only[tU,og];try simp_all
 try omega
theorem tK(hm:(3,marksC)∈G)(hw:(1,wordsC)∈G)(s:ByteArray)(hs:s.size≤maxLen):VP Tryz.prog G 64 [bn s] (ae (cL s)):=by
 refine VC.body func64 rfl ntmps64 aQ fun X0 w0 bg=>?_;refine af [0] ?_;refine af [0,5] ?_;refine au ?_ ?_<;>intro aO bE
 ·exact MO
 refine aD 2 ?_;refine dV call108 (pH hm ⟨1,s,0⟩ hs) ?_;refine aE 2 ?_;refine bW 10 (fun I E=>?_) (fun I E=>?_)
 ·refine an 15 [14] ?_;refine eI ?_;exact MO
 refine OD.still iw rfl (eA (l:=0) (h:=0) rfl wo trivial trivial (by first|exact SA (ls:=u3) (g:=cS) hw rfl rfl runUnderlying180 sizeOf9 rfl w7 w7)) ?_;refine aE 1 ?_;refine OD.hU iw rfl rfl rfl call109 (OF u3 s w7) ⟨ot,ot,trivial⟩ ?_;refine an 15 [14] ?_;refine au ?_ ?_<;>intro aY cJ
 ·exact MO
 refine af [2] ?_;refine aJ [] ?_;refine⟨vi ?_,rfl⟩;try simp only[OL] at *
 simp only[cL];first|(rw[if_pos w4];done)|(rw[if_neg w4];cases h1:og s<;>cases h2:u3.any (jl s)<;>simp_all)
def wb(c:UInt8):UInt8:=UInt8.ofNat (97+c.toNat % 26)
theorem afM(c:UInt8):(wb c).toNat=97+c.toNat % 26:=by
 have:c.toNat % 26<26:=Nat.mod_lt _ w7;unfold wb;rw[UInt8.toNat_ofNat'];exact Nat.mod_eq_of_lt w4
theorem adZ(c:UInt8):IntKind.u8.wrap (97+(c.toNat:Int).tmod 26)=((wb c).toNat:Int):=by
 rw[afM];have h1:(c.toNat:Int).tmod 26=((c.toNat % 26:Nat):Int):=rfl;have:c.toNat % 26<26:=Nat.mod_lt _ w7;rw[h1];have e:(97+((c.toNat % 26:Nat):Int))=((97+c.toNat % 26:Nat):Int):=(by omega)
 rw[e];show((97+c.toNat % 26:Nat):Int) % 256=_;omega
def zi(s:ByteArray):List UInt8:=if s.size=0 then [120] else (s.data.toList.take 6).map wb
def wQ(s:ByteArray):ByteArray:=⟨(zi s).toArray⟩
theorem IZ{s:ByteArray}(h:k<s.size):(s.data.toList.take k).map wb++[wb (me s k)]=(s.data.toList.take (k+1)).map wb:=by
 have h':k<s.data.toList.length:=(by rw[kN];exact h)
 rw[take_succ_eq_append_getElem h',map_append,H7 h'];rfl
theorem Qo{s:ByteArray}(hk:k≤s.size)(h:k=s.size∨6≤k)(h6:k≤6):(s.data.toList.take k)=s.data.toList.take 6:=by
 rcases h with h|h
 ·rw[take_of_length_le (by rw[kN];omega),take_of_length_le (by rw[kN];omega)]
 rw[show k=6 by omega]
theorem aaB:(Tryz.prog.info? 5).map (fun i=>(i.zero,i.size,i.bytes))=some (some (.int .u8 0),1,1):=by kernel_rfl
theorem qZ(s:ByteArray)(hs:s.size≤maxLen):VP Tryz.prog G 17 [bn s] (bn (wQ s)):=by
 refine VC.body func17 rfl ntmps17 aQ fun X0 w0 bg=>?_;simp only[maxLen] at hs;refine af [0] ?_;refine bY ?_;refine bf [0,3] ?_;refine af [0,3,4] ?_;refine CD.block ?_;refine mV (fun (E:Nat×Option Addr×Nat×List ah) aH=>match E with|(k,O,U,Sb)=>(k≤s.size)∧(k≤6)∧(bp 5 1 (((s.data.toList.take k).map wb).flatMap cB) ((s.data.toList.take k).map wb).length O U Sb)∧aH=(⟨28,[(0,bn s),(3,aP O ((s.data.toList.take k).map wb).length U),(4,ae (k:Nat))],(Sb)⟩:St)) (fun (E:Nat×Option Addr×Nat×List ah)=>match E with|(k,O,U,Sb)=>s.size-k) (0,none,0,[]) ⟨(Nat.zero_le _),(Nat.zero_le _),(bp.cast ik jN),rfl⟩ (aK (h:=by repeat (first|exact trivial|refine⟨(by (repeat (first|exact fB|(apply fU;focus (first|rfl|(simp;done)|(congr 2;omega)|(apply eL;exact IZ Z)|(apply eL;simp;done)))|(apply fH;focus rfl)));done),?_⟩))) ?_;rintro⟨k,O,U,Sb⟩ _ ⟨hk,h6,py,rfl⟩;refine aD 5 ?_;refine bW 9 (fun Nr aiI=>?_) (fun Nr aiI=>?_)
 ·refine bf [0,3,4,12] ?_;refine au ?_ ?_<;>intro aO bE
  ·refine dO 2 ?_;have Z:k<s.size:=(by omega)
   have xV:s[k]?=some (me s k):=J9 Z;refine aE 1 ?_;refine bN (HZ rfl ot ot runUnderlying9 rfl (by first|assumption|rfl)) ?_;refine bN (dw rfl ot bP (Ju w4)) ?_;refine bN (dw (r:=.int .u8 ((wb (me s k)).toNat:Int)) rfl bP ot (kx (adZ _))) ?_;refine ev (cc 0 [_]) [.int .u8 0] [_] zeroValue5 runUnderlying88 sizeOf5 (fun Dc=>?_);refine fF 0 21 1 1 ?_;refine OD.en (ls:=((s.data.toList.take k).map wb)) (new:=[wb (me s k)]) (Sq:=Sb) pL wK ap rfl rfl underlying88 aaB rfl w7 ot py (dg (A:=[])) ot bq vH iu (fun Ns I aiJ aiK=>?_);refine OD.perm (ee (S1:=[⟨Ns,5,I*1,flatMap cB (((s.data.toList.take k).map wb)++[wb (me s k)])⟩]) (A:=[])) ?_;refine an 28 [0,3,4] ?_;refine cl [0,3,4] ?_;refine⟨((k+1),(some ⟨Ns,0,none⟩),I,[⟨Ns,5,I*1,flatMap cB (((s.data.toList.take k).map wb)++[wb (me s k)])⟩]),_,cz,(aK (h:=by repeat (first|exact trivial|refine⟨(by (repeat (first|exact fB|(apply fU;focus (first|rfl|(simp;done)|(congr 2;omega)|(apply eL;exact IZ Z)|(apply eL;simp;done)))|(apply fH;focus rfl)));done),?_⟩))),w4,w4,(bp.cast (bH aiJ aiK) (by exact IZ Z)),rfl⟩
  refine af [3,25] ?_;refine au ?_ ?_<;>intro aY cJ
  ·refine af [2] ?_;refine eO ?_;exact MN
  refine aD 1 ?_;refine OD.ic (t:=26) (Sq:=Sb) lk py (cu pL _) (dg (A:=[])) ?_;refine bN C3 ?_;refine an 28 [2] ?_;refine aJ [] ?_;exact MN
 refine bf [0,3,4,12] ?_;refine fN ?_;refine af [3,25] ?_;refine au ?_ ?_<;>intro aY cJ
 ·refine af [2] ?_;refine eO ?_;exact MN
 refine aD 1 ?_;refine OD.ic (t:=26) (Sq:=Sb) lk py (cu pL _) (dg (A:=[])) ?_;refine bN C3 ?_;refine an 28 [2] ?_;refine aJ [] ?_;refine⟨vs ?_,rfl⟩;have At:k=s.size∨6≤k:=(by omega)
 have K7:min k s.size=k:=Nat.min_eq_left hk;simp only[length_map,length_take,kN,K7] at *;unfold wQ zi;first|(rw[if_pos w4];done)|(rw[if_neg w4,Qo hk At h6])
abbrev MarksTab(w:World):Prop:=Tab.mJ w 3 marksC

end Go.Proofs.YtdgichenhdikgaaGreatDoor.Nm
namespace Go.Proofs.YtdgichenhdikgaaGreatDoor.Pk
open List
open Go.Proofs.Tryz
open Go.RowKit V
def dU(n m:Int):Int:=if n<0 then (-(n+1)).tmod m else n.tmod m
theorem jD(n:Int){m:Int}(h:1≤m):0≤dU n m∧dU n m<m:=by
 have key:∀k:Int,0≤k→0≤k.tmod m∧k.tmod m<m:=fun k hk=>⟨Int.tmod_nonneg _ hk,Int.tmod_lt_of_pos _ w4⟩
 unfold dU;split
 ·exact key _ w4
 exact key _ w4
variable (G:List (Nat×List Value))
theorem kp(n m:Int)(hn:-9223372036854775808≤n)(iX:n≤9223372036854775807)(hm:1≤m):VP Tryz.prog G 21 [ae n,ae m] (ae (dU n m)):=by
 refine VC.body func21 rfl ntmps21 aQ fun X0 w0 bg=>?_;refine af [0,1] ?_;refine af [0,1,6] ?_;refine au ?_ ?_<;>intro aO bE
 ·refine iv [0,1] ?_;refine aS 2 ?_ (h:=by exact(EJ rfl ot (J7 (r:=-(n+1)) (by rw[wrap_i64]<;>omega))));refine bK ?_;refine cZ [4] ?_;refine aS 2 ?_ (h:=by exact(dw rfl ot ot (Ju w4)));refine bK ?_;refine aJ [] ?_;exact⟨by unfold dU;split<;>first|rfl|omega,rfl⟩
 refine cZ [4] ?_;refine aS 2 ?_ (h:=by exact(dw rfl ot ot (Ju w4)));refine bK ?_;refine aJ [] ?_;exact⟨by unfold dU;split<;>first|rfl|omega,rfl⟩

end Go.Proofs.YtdgichenhdikgaaGreatDoor.Pk
namespace Go.Proofs.YtdgichenhdikgaaGreatDoor.Nm
open List
open Go.Proofs.Tryz
open Go.RowKit V Pk
variable {l:List UInt8}
theorem mk_data(l:List UInt8):(⟨l.toArray⟩:ByteArray).data.toList=l:=rfl
theorem Jz(l:List UInt8):(⟨l.toArray⟩:ByteArray).size=l.length:=by rw[←kN]
theorem aaC(s:ByteArray):1≤(zi s).length∧(zi s).length≤6:=by
 unfold zi;split
 ·exact⟨by decide,by decide⟩
 rw[length_map,length_take,kN];omega
theorem Ov{p:UInt8→Bool}:∀{l:List UInt8},(∀c∈l,p c=true)→l.takeWhile p=l
 | [],_=>rfl
 | a::l,h=>by rw[takeWhile_cons,if_pos (h a mem_cons_self),Ov fun c hc=>h c (mem_cons_of_mem _ hc)]
theorem Oz{c:UInt8}(h:97≤c.toNat∧c.toNat≤122):wB c=true:=by unfold wB;exact decide_eq_true (.inl h)
theorem aci(h1:1≤l.length)(h:∀c∈l,97≤c.toNat∧c.toNat≤122):og ⟨l.toArray⟩=true:=by
 unfold og FV;rw[Jz,mk_data,Ov fun c hc=>by unfold wT;rw[Oz (h c hc)];rfl];have h0:me ⟨l.toArray⟩ 0∈l:=by
  exact Vm
 rw[Oz (h _ h0)];have:l.length≠0:=(by omega)
 simp[this]
theorem Zl:∀x∈u3,(me x 0).toNat≤90:=by decide
theorem ZJ(h1:1≤l.length)(h:∀c∈l,97≤c.toNat∧c.toNat≤122):u3.any (jl ⟨l.toArray⟩)=false:=by
 rw[any_eq_false];intro x hx he;have he:=wC.1 he;have h0:me ⟨l.toArray⟩ 0∈l:=by
  exact Vm
 have:=h _ h0;have h2:=Zl x hx;rw[←he] at h2;omega
theorem tq(h1:1≤l.length)(E:l.length≤8)(h:∀c∈l,97≤c.toNat∧c.toNat≤122):cL ⟨l.toArray⟩=0:=by
 unfold cL;rw[Jz,if_neg w4,aci h1 h,ZJ h1 h];rfl
theorem ZK(s:ByteArray):1≤(wQ s).size∧(wQ s).size≤6:=by unfold wQ;rw[Jz];exact aaC s
variable {G:List (Nat×List Value)}
abbrev WordsTab(w:World):Prop:=Tab.mJ w 1 wordsC

end Go.Proofs.YtdgichenhdikgaaGreatDoor.Nm
namespace Go.Proofs.YtdgichenhdikgaaGreatDoor.Vl
open List
open Go.Proofs.Tryz
open Go.RowKit V Pk
structure Vl where
 k:Int
 n:Int
 s:ByteArray
def cV(v:Vl):List D:=[ae v.k,ae v.n,bn v.s]
theorem eS(v:Vl):(cV v).length=3:=rfl
theorem BA(v:Vl):(cV v).all V.one=true:=rfl
structure Vl.Ok (v:Vl):Prop where
 k1:-9223372036854775808≤v.k
 k2:v.k≤9223372036854775807
 n1:-9223372036854775808≤v.n
 n2:v.n≤9223372036854775807
 s:v.s.size≤maxLen
def bJ:Vl:=⟨0,0,⟨#[]⟩⟩
def cD(v:Vl):Int :=
 if v.k=0 then (if v.n≠0∨v.s.size≠0 then 6 else 0)
 else if v.k=1 then (if v.n<0∨v.n>1∨v.s.size≠0 then 6 else 0)
 else if v.k=2 then (if v.s.size≠0 then 6 else 0)
 else if v.k=3 then (if v.n≠0 then 6 else if v.s.size>20 then 1 else 0)
 else 2
theorem KJ(x y:Vl):∀w,(Op.equalIn 10000 41 (.agg [.int .i64 x.k,.int .i64 x.n,.string x.s].toArray) (.agg [.int .i64 y.k,.int .i64 y.n,.string y.s].toArray)).run Tryz.prog w = .ok (x.k==y.k&&(x.n==y.n&&x.s.toList==y.s.toList)) w:=fun w=>by
 have hS:Tryz.prog.underlying 41=some (.struct (Tryz.prog.fieldsOf 41)):=(by kernel_rfl)
 have hp:Tryz.prog.stoodInHeld 41=false:=(by kernel_rfl)
 rw[show(10000:Nat)=9999+1 from rfl,run_equalIn_agg w 9999 41 _ _ hS hp];have u:=underlying41;have E:=underlying3;have I:=underlying9;have O:=isAgg3;have U:=isAgg9;have Z:=sizeOf3;have z9:=sizeOf9;simp only[Program.fieldsOf,u];go_simp
 by_cases h1:x.k=y.k<;>by_cases h2:x.n=y.n<;>by_cases h3:x.s.toList=y.s.toList<;>simp[h1,h2,h3]
theorem Vl.ext'{x y:Vl}(h1:x.k=y.k)(h2:x.n=y.n)(h3:x.s=y.s):x=y:=by cases x;cases y;simp only at h1 h2 h3;subst h1 h2 h3;rfl
def Hp(x y:Vl):Bool:=x.k==y.k&&(x.n==y.n&&x.s.toList==y.s.toList)
theorem ad0{x y:Vl}:Hp x y=true↔x=y:=by
 unfold Hp;rw[Bool.and_eq_true,Bool.and_eq_true,beq_iff_eq,beq_iff_eq];constructor
 ·rintro⟨h1,h2,h3⟩;exact Vl.ext' h1 h2 (wC.1 h3)
 rintro rfl;exact⟨rfl,rfl,wC.2 rfl⟩
def nM(s:ByteArray)(m:Nat):ByteArray:=s.extract 0 (min s.size m)
def pK(r:Vl):Vl :=
 if dU r.k 4=1 then ⟨1,dU r.n 2,⟨#[]⟩⟩
 else if dU r.k 4=2 then ⟨2,r.n,⟨#[]⟩⟩
 else if dU r.k 4=3 then ⟨3,0,nM r.s 10⟩
 else bJ
theorem Pr(s:ByteArray)(m:Nat):(nM s m).data.toList=s.data.toList.take m:=by
 unfold nM;rw[ByteArray.data_extract,Array.toList_extract];simp only[extract_eq_take_drop,drop_zero,Nat.sub_zero];rw[←kN];rcases Nat.le_total s.data.toList.length m with h|h
 ·rw[Nat.min_eq_left h,take_length,take_of_length_le h]
 rw[Nat.min_eq_right h]
theorem Iq(s:ByteArray)(m:Nat):(nM s m).size=min s.size m:=by
 rw[←kN,Pr,length_take,kN,Nat.min_comm]
variable {G:List (Nat×List Value)}
theorem pH(v:Vl):VP Tryz.prog G 55 [.agg (cV v)] (ae (cD v)):=by
 refine VC.body func55 rfl ntmps55 aQ fun X0 w0 bg=>?_;unfold cV;refine bY ?_;refine OD.box (ds:=[_,_,_]) ap rfl rfl ot rfl rfl (fun b1=>?_);refine an 44 [1] ?_;refine af [1,4] ?_;refine af [1,4,5] ?_;refine au ?_ ?_<;>intro aO bE
 ·refine aD 4 ?_;refine bW 10 (fun U E=>?_) (fun U E=>?_)
  ·refine bf [14] ?_;refine eI ?_;exact z127
  refine bf [14] ?_;refine au ?_ ?_<;>intro aY cJ
  ·exact z127
  exact z127
 refine af [1,4,15] ?_;refine au ?_ ?_<;>intro cm cW
 ·refine aD 4 ?_;refine bW 20 (fun Z I=>?_) (fun Z I=>?_)
  ·refine bf [29] ?_;refine eI ?_;exact z127
  refine aE 5 ?_;refine bW 25 (fun aiL O=>?_) (fun aiL O=>?_)
  ·refine bf [29] ?_;refine eI ?_;exact z127
  refine bf [29] ?_;refine au ?_ ?_<;>intro da ek
  ·exact z127
  exact z127
 refine af [1,4,30] ?_;refine au ?_ ?_<;>intro ez fw
 ·refine af [34] ?_;refine au ?_ ?_<;>intro fg gB
  ·exact Cb
  exact Cb
 refine af [1,35] ?_;refine au ?_ ?_<;>intro gY kS
 ·refine af [1,39] ?_;refine au ?_ ?_<;>intro gq lB
  ·exact Cb
  refine af [43] ?_;refine au ?_ ?_<;>intro p9 Gs
  ·exact Cb
  exact Cb
 refine af [2] ?_;refine aJ [] ?_;refine⟨vi ?_,rfl⟩;try simp only[uU] at *
 unfold cD;simp_all;try omega
theorem Fu(s:ByteArray)(m:Nat)(hs:s.size≤maxLen):VP Tryz.prog G 16 [bn s,ae (m:Int)] (bn (nM s m)):=by
 refine VC.body func16 rfl ntmps16 aQ fun X0 w0 bg=>?_;simp only[maxLen] at hs;refine af [0,1] ?_;refine cZ [4] ?_;refine aS 4 ?_ (h:=by exact(Y1 (r:=.int .i64 ((min s.size m:Nat):Int)) rfl ot ot (fun cs w=>(afu cs w).trans (by split<;>(congr 3;omega)))));refine aS 0 ?_ (h:=by exact(eA (l:=0) rfl ot trivial ⟨_,ot⟩ (by first|exact afw (fun _=>rfl) (fun h=>by cases h) runUnderlying9 w4 w4)));refine bK ?_;refine aJ [] ?_;exact⟨by first|rfl|(simp[*];done),rfl⟩
theorem Qq(r:Vl)(h:r.Ok):VP Tryz.prog G 53 [.agg (cV r)] (.agg (cV (pK r))):=by
 refine VC.body func53 rfl ntmps53 aQ fun X0 w0 bg=>?_;unfold cV;refine bY ?_;refine OD.box (ds:=[_,_,_]) ap rfl rfl ot rfl rfl (fun b1=>?_);refine OD.alloc (ds:=[_,_,_]) ap rfl rfl zeroValue41 rfl (fun b2=>?_);refine an 29 [1,2] ?_;refine cX [1,2,3] (kp G r.k 4 h.k1 h.k2 w7) ?_;refine af [1,2,3,7] ?_;refine af [1,2,3,7,8] ?_;refine au ?_ ?_<;>intro aO bE
 ·refine aD 3 ?_;refine dV call21 (kp G r.n 2 h.n1 h.n2 w7) ?_;refine aE 1 ?_;exact z76
 refine af [1,2,3,7,15] ?_;refine au ?_ ?_<;>intro aY cJ
 ·refine aD 4 ?_;exact z76
 refine af [1,2,3,21] ?_;refine au ?_ ?_<;>intro cm cW
 ·refine aD 3 ?_;refine dV call16 (Fu r.s 10 h.s) ?_;refine aE 1 ?_;exact z76
 refine aD 1 ?_;refine aN 0 [_,_,_] sizeOf41 ?_;refine an 29 [2] ?_;refine aJ [] ?_;refine⟨?_,rfl⟩;unfold pK bJ;simp_all

end Go.Proofs.YtdgichenhdikgaaGreatDoor.Vl
namespace Go.Proofs.YtdgichenhdikgaaGreatDoor.Nm
open List
open Go.Proofs.Tryz
open Go.RowKit V Pk Vl
variable {i:Nat} {h:Int}
theorem KJ(x y:Vl):∀w,(Op.equalIn 10000 41 (.agg [.int .i64 x.k,.int .i64 x.n,.string x.s].toArray) (.agg [.int .i64 y.k,.int .i64 y.n,.string y.s].toArray)).run Tryz.prog w = .ok (x.k==y.k&&(x.n==y.n&&x.s.toList==y.s.toList)) w:=fun w=>by
 have hS:Tryz.prog.underlying 41=some (.struct (Tryz.prog.fieldsOf 41)):=(by kernel_rfl)
 have hp:Tryz.prog.stoodInHeld 41=false:=(by kernel_rfl)
 rw[show(10000:Nat)=9999+1 from rfl,run_equalIn_agg w 9999 41 _ _ hS hp];have u:=underlying41;have E:=underlying3;have I:=underlying9;have O:=isAgg3;have U:=isAgg9;have Z:=sizeOf3;have z9:=sizeOf9;simp only[Program.fieldsOf,u];go_simp
 by_cases h1:x.k=y.k<;>by_cases h2:x.n=y.n<;>by_cases h3:x.s.toList=y.s.toList<;>simp[h1,h2,h3]
def iS(v:Vl):Int:=if v.k=2∧v.n = -9223372036854775808 then 3 else cD v
structure aX where
 k:Int
 v:Vl
 nm:ByteArray
variable {l:List aX}
def cO(o:aX):List D:=[ae o.k,ae o.v.k,ae o.v.n,bn o.v.s,bn o.nm]
theorem nf(o:aX):(cO o).length=5:=rfl
theorem J6(o:aX):(cO o).all V.one=true:=rfl
def bQ(k:Int):Int:=if k=1∨k=2 then 0 else if k=5∨k=11 then 1 else 2
theorem tI(k:Int):0≤bQ k∧bQ k≤2:=by unfold bQ;split<;>(try split)<;>omega
def zeroV(v:Vl):Bool:=v.k==0&&(v.n==0&&v.s.toList==(⟨#[]⟩:ByteArray).toList)
def fh(h:Int)(o:aX):Int :=
 if o.k<1∨o.k>11 then 2
 else if iS o.v≠0 then iS o.v
 else if ((o.k != 1 && !(zeroV o.v))||(o.k != 2 && !(o.nm.toList==(⟨#[]⟩:ByteArray).toList)))=true then 6
 else if o.k=2∧cL o.nm≠0 then cL o.nm
 else if h<bQ o.k then 7 else 0
def fK:Int→List aX→Int
 | h,[]=>if h=1 then 0 else 7
 | h,o::r=>if fh h o=0 then fK (h+(1-bQ o.k)) r else fh h o
def iR(l:List aX):Int:=if l.length>40 then 10 else fK 0 l
theorem Ql(hi:i<l.length)(he:fh h l[i]=0):fK h (l.drop i)=fK (h+(1-bQ l[i].k)) (l.drop (i+1)):=by
 rw[drop_eq_getElem_cons hi,fK,if_pos he]
theorem Qk{e:Int}(hi:i<l.length)(he:fh h l[i]=e)(h0:e≠0):fK h (l.drop i)=e:=by
 rw[drop_eq_getElem_cons hi,fK,if_neg (by rw[he];exact h0),he]
theorem Ps(hi:l.length≤i):fK h (l.drop i)=if h=1 then 0 else 7:=by
 rw[drop_of_length_le hi,fK]
variable {G:List (Nat×List Value)}
theorem OQ(v:Vl):VP Tryz.prog G 114 [.agg (cV v)] (ae (iS v)):=by
 refine VC.body func114 rfl ntmps114 aQ fun X0 w0 bg=>?_;unfold cV;refine bY ?_;refine OD.box (ds:=[_,_,_]) ap rfl rfl ot rfl rfl (fun b1=>?_);refine an 13 [1] ?_;refine aD 4 ?_;refine bW 6 (fun I E=>?_) (fun I E=>?_)
 ·refine bf [1,10] ?_;refine au ?_ ?_<;>intro aO bE
  ·refine af [2] ?_;refine eO ?_;refine⟨vi ?_,rfl⟩;unfold iS;simp_all
  refine cX [2] (Vl.pH v) ?_;refine eO ?_;refine⟨vi ?_,rfl⟩;unfold iS;simp_all
 refine bf [1,10] ?_;refine fN ?_;refine cX [2] (Vl.pH v) ?_;refine eO ?_;refine⟨vi ?_,rfl⟩;unfold iS;simp_all
theorem yU(k:Int):VP Tryz.prog G 116 [ae k] (ae (bQ k)):=by
 refine VC.body func116 rfl ntmps116 aQ fun X0 w0 bg=>?_;exact WN
theorem JA(hm:(3,marksC)∈G)(hw:(1,wordsC)∈G)(l:List aX)(hs:∀o∈l,o.nm.size≤maxLen):VP Tryz.prog G 70 [av 5 cO l] (ae (iR l)):=by
 refine VC.body func70 rfl ntmps70 aQ fun X0 w0 bg=>?_;have hlx:l.length≤40∨40<l.length:=(by omega)
 refine af [0] ?_;refine af [0,10] ?_;refine au ?_ ?_<;>intro aO bE
 ·have hf:iR l=10:=if_pos w4;exact Ld
 have hf:iR l=fK 0 l:=if_neg w4;have qf:l.length≤40:=(by omega)
 refine af [0,3] ?_;refine af [3,11,12,13] ?_;refine eD [11,12] (fun aW _ (I:Nat×Int) aH=>match I with|(i,h)=>(i≤l.length)∧(fK 0 l=fK h (l.drop i))∧(0≤h)∧(h≤i)∧aH=(⟨73,(3,ae h)::(13,ae (i:Nat))::aW,[]⟩:St)) (fun (I:Nat×Int)=>match I with|(i,h)=>l.length-i) (0,0) ⟨(Nat.zero_le _),rfl,(Int.le_refl _),(Int.le_refl _),rfl⟩ ?_;rintro⟨i,h⟩ _ ⟨hi,hx,h0,hh,rfl⟩;refine af [3,11,12,13,14] ?_;refine au ?_ ?_<;>intro aY cJ
 ·have aa:i<l.length:=(by omega)
  have uI:=tI l[i].k;refine aD 2 ?_;refine OD.alloc (ds:=[_,_,_,_,_]) ap rfl rfl zeroValue43 rfl (fun b5=>?_);refine aN 0 [_,_,_,_,_] sizeOf43 ?_;refine an 73 [3,5,11,12,13] ?_;refine aD 4 ?_;refine bW 20 (fun aiM U=>?_) (fun aiM U=>?_)
  ·refine bf [3,5,11,12,13,24] ?_;refine eI ?_;have qC:fh h l[i]=2:=(by unfold fh;rw[if_pos w4])
   exact Gl
  refine bf [3,5,11,12,13,24] ?_;refine au ?_ ?_<;>intro cm cW
  ·have qC:fh h l[i]=2:=(by unfold fh;rw[if_pos w4])
   exact Gl
  have dP:¬(l[i].k<1∨l[i].k>11):=(by omega)
  refine cX [3,5,6,11,12,13] (OQ l[i].v) ?_;refine af [3,5,6,11,12,13,29] ?_;refine au ?_ ?_<;>intro da ek
  ·have vl:iS l[i].v≠0:=(by simpa using da)
   have qC:fh h l[i]=iS l[i].v:=(by unfold fh;rw[if_neg dP,if_pos vl])
   exact Gl
  have vl:iS l[i].v=0:=(by simpa using da)
  refine aD 4 ?_;refine bW 34 (fun aiN Z=>?_) (fun aiN Z=>?_)
  ·refine aE 3 ?_;refine OD.still iw rfl (Pe (us:=[_,_,_]) (MW:=[_,_,_]) rfl ot ot eqGuardType41 (KJ l[i].v ⟨0,0,⟨#[]⟩⟩)) ?_;refine aE 2 ?_;refine bW 40 (fun Lc KE=>?_) (fun Lc KE=>?_)
   ·refine an 73 [3,5,11,12,13,49] ?_;refine eI ?_;exact VG
   refine aE 4 ?_;refine bW 44 (fun O E=>?_) (fun O E=>?_)
   ·refine an 73 [3,5,11,12,13,49] ?_;refine au ?_ ?_<;>intro ez fw
    ·exact VG
    exact Vr
   refine an 73 [3,5,11,12,13,49] ?_;refine fN ?_;exact Vr
  refine x5 4 ?_;refine aE 6 ?_;refine bW 44 (fun O E=>?_) (fun O E=>?_)
  ·refine bf [3,5,11,12,13,49] ?_;refine au ?_ ?_<;>intro ez fw
   ·have qC:fh h l[i]=6:=(by unfold fh zeroV;rw[if_neg dP,if_neg ux,if_pos (by simp_all)])
    exact Gl
   exact z109
  refine bf [3,5,11,12,13,49] ?_;refine fN ?_;exact z109
 have fb:=hx.trans (Ps (show l.length≤i by omega));refine af [72] ?_;refine au ?_ ?_<;>intro p9 Gs
 ·exact Ld
 refine af [2] ?_;refine aJ [] ?_;refine⟨vi ?_,rfl⟩;first|exact hf.symm|(rw[hf,hx,Qk aa qC (by first|assumption|decide)];done)|(rw[hf,fb,if_pos (by simpa using p9)];done)|(rw[hf,fb,if_neg (by simpa using p9)];done)

end Go.Proofs.YtdgichenhdikgaaGreatDoor.Nm
namespace Go.Proofs
open Go.Shelf
def Tryz.Zm:Go.Shelf.Ren:=⟨fun|106=>137|213=>155|265=>164|n=>n,fun|9=>9|3=>3|n=>n,fun|n=>n⟩
theorem Tryz.ad4:Go.Proofs.Lays.n106 Tryz.prog Tryz.Zm:={
 mixed:=by kernel_rfl
 f106:=Tryz.func137.trans (congrArg some (by kernel_rfl))
 f213:=Tryz.func155.trans (congrArg some (by kernel_rfl))
 f265:=Tryz.func164.trans (congrArg some (by kernel_rfl))
 t3:=Tryz.underlying3
 a3:=Tryz.isAgg3
 z3:=Tryz.sizeOf3
 v3:=Tryz.zeroValue3
 t9:=Tryz.underlying9
 a9:=Tryz.isAgg9
 z9:=Tryz.sizeOf9
 v9:=Tryz.zeroValue9}
open Go.RowKit in
theorem Tryz.strings_Compare(a b:ByteArray)(w:World) :
  Calls Tryz.prog 137 #[.string a,.string b] w fun e w'=>e = .returned (.int .i64 (Lib.compareBytes a.data.toList b.data.toList))∧w'=w:=Any.strings_Compare Tryz.ad4 a b w
def Tryz.OG:Go.Shelf.Ren:=⟨fun|155=>143|154=>156|138=>165|165=>166|143=>167|166=>168|197=>169|169=>170|195=>174|218=>175|240=>176|241=>177|219=>178|260=>179|276=>180|277=>181|217=>182|225=>183|224=>184|267=>185|266=>186|314=>187|n=>n,fun|9=>9|3=>3|4=>4|72=>237|0=>0|76=>241|105=>243|21=>21|5=>5|70=>235|20=>20|37=>88|75=>240|127=>250|164=>251|46=>231|119=>254|139=>257|138=>256|146=>259|51=>258|80=>245|n=>n,fun|1=>2|3=>4|4=>5|n=>n⟩
theorem Tryz.ad5:Go.Proofs.Lays.n155 Tryz.prog Tryz.OG:={
 mixed:=by kernel_rfl
 f138:=Tryz.func165.trans (congrArg some (by kernel_rfl))
 f143:=Tryz.func167.trans (congrArg some (by kernel_rfl))
 f154:=Tryz.func156.trans (congrArg some (by kernel_rfl))
 f155:=Tryz.func143.trans (congrArg some (by kernel_rfl))
 f165:=Tryz.func166.trans (congrArg some (by kernel_rfl))
 f166:=Tryz.func168.trans (congrArg some (by kernel_rfl))
 f169:=Tryz.func170.trans (congrArg some (by kernel_rfl))
 f195:=Tryz.func174.trans (congrArg some (by kernel_rfl))
 f197:=Tryz.func169.trans (congrArg some (by kernel_rfl))
 f217:=Tryz.func182.trans (congrArg some (by kernel_rfl))
 f218:=Tryz.func175.trans (congrArg some (by kernel_rfl))
 f219:=Tryz.func178.trans (congrArg some (by kernel_rfl))
 f224:=Tryz.func184.trans (congrArg some (by kernel_rfl))
 f225:=Tryz.func183.trans (congrArg some (by kernel_rfl))
 f240:=Tryz.func176.trans (congrArg some (by kernel_rfl))
 f241:=Tryz.func177.trans (congrArg some (by kernel_rfl))
 f260:=Tryz.func179.trans (congrArg some (by kernel_rfl))
 f266:=Tryz.func186.trans (congrArg some (by kernel_rfl))
 f267:=Tryz.func185.trans (congrArg some (by kernel_rfl))
 f276:=Tryz.func180.trans (congrArg some (by kernel_rfl))
 f277:=Tryz.func181.trans (congrArg some (by kernel_rfl))
 f314:=Tryz.func187.trans (congrArg some (by kernel_rfl))
 t0:=Tryz.underlying0
 a0:=Tryz.isAgg0
 z0:=Tryz.sizeOf0
 v0:=Tryz.zeroValue0
 t3:=Tryz.underlying3
 a3:=Tryz.isAgg3
 z3:=Tryz.sizeOf3
 v3:=Tryz.zeroValue3
 t4:=Tryz.underlying4
 a4:=Tryz.isAgg4
 z4:=Tryz.sizeOf4
 v4:=Tryz.zeroValue4
 t5:=Tryz.underlying5
 a5:=Tryz.isAgg5
 z5:=Tryz.sizeOf5
 v5:=Tryz.zeroValue5
 t9:=Tryz.underlying9
 a9:=Tryz.isAgg9
 z9:=Tryz.sizeOf9
 v9:=Tryz.zeroValue9
 t20:=Tryz.underlying20
 a20:=Tryz.isAgg20
 z20:=Tryz.sizeOf20
 v20:=Tryz.zeroValue20
 t21:=Tryz.underlying21
 a21:=Tryz.isAgg21
 z21:=Tryz.sizeOf21
 v21:=Tryz.zeroValue21
 t37:=Tryz.underlying88
 a37:=Tryz.isAgg88
 z37:=Tryz.sizeOf88
 v37:=Tryz.zeroValue88
 t46:=Tryz.underlying231
 a46:=Tryz.isAgg231
 z46:=Tryz.sizeOf231
 v46:=Tryz.zeroValue231
 t51:=Tryz.underlying258
 a51:=Tryz.isAgg258
 z51:=Tryz.sizeOf258
 v51:=Tryz.zeroValue258
 t70:=Tryz.underlying235
 a70:=Tryz.isAgg235
 z70:=Tryz.sizeOf235
 v70:=Tryz.zeroValue235
 t72:=Tryz.underlying237
 a72:=Tryz.isAgg237
 z72:=Tryz.sizeOf237
 v72:=Tryz.zeroValue237
 t75:=Tryz.underlying240
 a75:=Tryz.isAgg240
 z75:=Tryz.sizeOf240
 v75:=Tryz.zeroValue240
 t76:=Tryz.underlying241
 a76:=Tryz.isAgg241
 z76:=Tryz.sizeOf241
 v76:=Tryz.zeroValue241
 t105:=Tryz.underlying243
 a105:=Tryz.isAgg243
 z105:=Tryz.sizeOf243
 v105:=Tryz.zeroValue243
 t119:=Tryz.underlying254
 a119:=Tryz.isAgg254
 z119:=Tryz.sizeOf254
 t127:=Tryz.underlying250
 a127:=Tryz.isAgg250
 z127:=Tryz.sizeOf250
 v127:=Tryz.zeroValue250
 t138:=Tryz.underlying256
 a138:=Tryz.isAgg256
 z138:=Tryz.sizeOf256
 v138:=Tryz.zeroValue256
 t139:=Tryz.underlying257
 a139:=Tryz.isAgg257
 z139:=Tryz.sizeOf257
 v139:=Tryz.zeroValue257
 t146:=Tryz.underlying259
 a146:=Tryz.isAgg259
 z146:=Tryz.sizeOf259
 v146:=Tryz.zeroValue259
 t164:=Tryz.underlying251
 a164:=Tryz.isAgg251
 z164:=Tryz.sizeOf251
 v164:=Tryz.zeroValue251
 g1:=by kernel_rfl
 g3:=by kernel_rfl
 g4:=by kernel_rfl}
theorem Tryz.YI:Builder.Extra Tryz.prog Tryz.OG:={
 sizeBuilder:=by kernel_rfl
 liesBuilder:=by kernel_rfl
 t5:=Tryz.underlying5
 a5:=Tryz.isAgg5
 z5:=Tryz.sizeOf5
 v5:=Tryz.zeroValue5
 infoByte:=by kernel_rfl
 cellsByte:=by kernel_rfl
 sizeByte:=by kernel_rfl
 neB5:=by decide}
open Go.RowKit Go.Lib in
theorem Tryz.strings_ReplaceAll(s old new:ByteArray)(m:Int)(w:World)(hs:s.size<4294967281)(hm:w.cell? ⟨2,0,none⟩=some (.int .i64 m))(h1:1≤old.size)(hlen:s.size+Lib.countB s old*new.size≤140737488355328) :
  Calls Tryz.prog 143 #[.string s,.string old,.string new] w fun e w' =>
   e = .returned (.string ⟨(Lib.replaceAll s.data.toList old.data.toList new.data.toList).toArray⟩)∧Below w.heap.size w w':=Any.strings_ReplaceAll Tryz.ad5 Tryz.YI s old new m w hs hm h1 hlen

end Go.Proofs
namespace Go.Proofs.YtdgichenhdikgaaGreatDoor.Cd
open List
open Go.Proofs.Tryz
open Go.RowKit V Pk Vl
variable {v:Vl}
theorem QK(c:UInt8)(new:List UInt8):∀s:List UInt8,Lib.replaceK [c] new (s.count c) s=s.flatMap fun b=>if b=c then new else [b]
 | []=>rfl
 | b::l=>by
  have I:=QK c new l;by_cases h:b=c
  ·subst h;have hi:Lib.index (b::l) [b]=((0:Nat):Int):=(by rw[Lib.index_one];simp[Lib.indexByte])
   rw[count_cons_self,Lib.replaceK_hit _ _ _ _ _ hi,flatMap_cons,if_pos rfl,←I];simp
  have hc:(b::l).count c=l.count c:=count_cons_of_ne h;rw[hc,flatMap_cons,if_neg h,←I];cases hk:l.count c with
  | zero=>rfl
  | succ k =>
   obtain⟨i,hi⟩:=Lib.index_of_count (s:=l) (old:=[c]) (by rw[Lib.count_one];omega);have E:Lib.index (b::l) [c]=((i+1:Nat):Int):=by
    rw[Lib.index_one] at hi ⊢;unfold Lib.indexByte;rw[if_neg ph,hi,if_neg (by rw[beq_iff_eq];omega)];omega
   rw[Lib.replaceK_hit _ _ _ _ _ E,Lib.replaceK_hit _ _ _ _ _ hi];simp
def ua(c:UInt8)(new:List UInt8)(s:ByteArray):ByteArray:=⟨(s.data.toList.flatMap fun b=>if b=c then new else [b]).toArray⟩
theorem Zn(c:UInt8)(new s:List UInt8):Lib.replaceAll s [c] new=s.flatMap fun b=>if b=c then new else [b]:=by
 unfold Lib.replaceAll Lib.replace Lib.replaceNum;split
 ·rename_i h;have h':[c]=new:=(by simpa using h)
  subst h';induction s with
  | nil=>rfl
  | cons b l ih =>
   rw[flatMap_cons,←ih];have:(if b=c then [c] else [b])=[b]:=by
    split
    ·rename_i e;rw[e]
    rfl
   rw[this];rfl
 rw[if_pos (.inl w7),Lib.count_one,QK]
variable {G:List (Nat×List Value)} {m:Int}
theorem ad6(hG:(2,[Value.int .i64 m])∈G)(c:UInt8)(new:ByteArray)(s:ByteArray)(hs:s.size≤1000000)(hn:new.size≤1000):VP Tryz.prog G 143 [bn s,bn ⟨#[c]⟩,bn new] (bn (ua c new.data.toList s)):=by
 have hc:Lib.countB s ⟨#[c]⟩≤1000000:=by
  show Lib.count s.data.toList [c]≤1000000;rw[Lib.count_one];exact Nat.le_trans count_le_length (by rw[kN];exact hs)
 have I:Lib.countB s ⟨#[c]⟩*new.size≤1000000*1000:=Nat.mul_le_mul hc hn;have key:=VP.SD (P:=Tryz.prog) (G:=G) (f:=143) (vs:=[.string s,.string ⟨#[c]⟩,.string new]) (v:=.string (ua c new.data.toList s)) fun w E=>by
  refine(Tryz.strings_ReplaceAll s ⟨#[c]⟩ new m w w4 (E _ hG 0 _ rfl) (Nat.le_refl _) w4).mono fun e w' ⟨h1,h2⟩=>⟨?_,h2⟩
  rw[h1];congr 2;show(⟨(Lib.replaceAll s.data.toList [c] new.data.toList).toArray⟩:ByteArray)=_;rw[Zn];rfl
 exact key
def kb(v:Vl):UInt8:=UInt8.ofNat v.k.toNat
def nb(v:Vl):UInt8:=UInt8.ofNat v.n.toNat
def uN(v:Vl):Nat:=(v.n+9223372036854775808).toNat
def xB(u k:Nat):UInt8:=UInt8.ofNat (u/256 ^ (7-k))
def lV(u:Nat):List UInt8:=(range 8).map (xB u)
def oA(s:List UInt8):List UInt8:=s.flatMap fun b=>if b=0 then [0,255] else [b]
def sL(v:Vl):List UInt8:=if v.k=1 then [nb v] else if v.k=2 then lV (uN v) else if v.k=3 then oA v.s.data.toList++[0,0] else []
def pQ(v:Vl):List UInt8:=kb v::sL v
def ff(l:List Vl):List UInt8:=l.flatMap pQ
def sM:List Vl→Int
 | []=>0
 | v::r=>if cD v=0 then sM r else cD v
def fX(l:List Vl):List UInt8×Int:=if l.length>6 then ([],1) else if sM l≠0 then ([],sM l) else if (ff l).length>100 then ([],5) else (ff l,0)
def BD(b:List UInt8):D:=av 1 cB b
def Lq(r:List UInt8×Int):D:=.dJ [BD r.1,ae r.2]
theorem SJ:∀{l:List Vl} {i:Nat} (hi:i<l.length),(∀v∈l.take i,cD v=0)→cD l[i]≠0→sM l=cD l[i]
 | v::r,0,hi,_,h=>by
  have h':cD v≠0:=h;show sM (v::r)=cD v;rw[sM,if_neg h']
 | v::r,i+1,hi,h0,h=>by
  rw[sM,if_pos (h0 v bq)];exact SJ (l:=r) (i:=i) (by simpa using hi) (fun x hx=>h0 x (by rw[take_succ_cons];exact mem_cons_of_mem _ hx)) h
theorem E9:∀{l:List Vl},(∀v∈l,cD v=0)→sM l=0
 | [],_=>rfl
 | v::r,h=>by rw[sM,if_pos (h v mem_cons_self)];exact E9 fun x hx=>h x (mem_cons_of_mem _ hx)
theorem H8(h:cD v=0):0≤v.k∧v.k≤3:=by
 unfold cD at h;split at h
 ·omega
 split at h
 ·omega
 split at h
 ·omega
 split at h
 ·omega
 cases h
theorem OR(h:cD v=0)(hk:v.k=1):0≤v.n∧v.n≤1:=by
 unfold cD at h;rw[if_neg w4,if_pos hk] at h;split at h
 ·cases h
 omega
theorem OS(h:cD v=0)(hk:v.k=3):v.s.size≤20:=by
 unfold cD at h;rw[if_neg w4,if_neg w4,if_neg w4,if_pos hk] at h;split at h
 ·cases h
 split at h
 ·cases h
 omega
theorem Ke(h:cD v=0):((kb v).toNat:Int)=v.k:=by
 have:=H8 h;unfold kb;rw[UInt8.toNat_ofNat'];omega
theorem Kf(h:cD v=0)(hk:v.k=1):((nb v).toNat:Int)=v.n:=by
 have:=OR h hk;unfold nb;rw[UInt8.toNat_ofNat'];omega
theorem ad8(h:cD v=0):IntKind.u8.wrap v.k=((kb v).toNat:Int):=by
 have:=H8 h;rw[Ke h];show v.k % 256=_;omega
theorem ad9(h:cD v=0)(hk:v.k=1):IntKind.u8.wrap v.n=((nb v).toNat:Int):=by
 have:=OR h hk;rw[Kf h hk];show v.n % 256=_;omega
theorem Kg(h:v.Ok):((uN v:Nat):Int)=v.n+9223372036854775808:=by have:=h.n1;unfold uN;omega
theorem afN{u k:Nat}(hk:k≤7):(u:Int).fdiv (2 ^ min ((56:Int)-8*(k:Int)).toNat IntKind.u64.bits)=((u/256 ^ (7-k):Nat):Int):=by
 have e1:min ((56:Int)-8*(k:Int)).toNat IntKind.u64.bits=8*(7-k):=by
  show min _ 64=_;omega
 have E:(2 ^ (8*(7-k)):Nat)=256 ^ (7-k):=(by rw[Nat.pow_mul])
 have e2:((2:Int) ^ (8*(7-k)))=((256 ^ (7-k):Nat):Int):=by
  rw[←E,Int.natCast_pow];rfl
 rw[e1,e2];exact(Int.ofNat_fdiv _ _).symm
theorem aea(x:Nat):IntKind.u8.wrap (x:Int)=((UInt8.ofNat x).toNat:Int):=by
 rw[UInt8.toNat_ofNat'];show(x:Int) % 256=_;omega
theorem Fa{u k:Nat}(hk:k≤7):(lV u).take k++[xB u k]=(lV u).take (k+1):=by
 have hl:k<(lV u).length:=(by simp[lV];omega)
 rw[take_succ_eq_append_getElem hl];congr 2;simp[lV]
theorem wG(u:Nat):(lV u).length=8:=by simp[lV]
theorem SK(s:List UInt8):(oA s).length≤2*s.length:=by
 induction s with
 | nil=>simp[oA]
 | cons b l ih =>
  unfold oA at ih ⊢;rw[flatMap_cons,length_append,length_cons];split<;>simp only[length_cons,length_nil]<;>omega
theorem Fb(h:cD v=0):(pQ v).length≤43:=by
 unfold pQ sL;rw[length_cons];split
 ·simp
 split
 ·rw[wG];omega
 split
 ·rename_i hk;have h1:=OS h hk;have h2:=SK v.s.data.toList;rw[kN] at h2;rw[length_append];simp;omega
 simp
theorem EP:∀{l:List Vl},(∀v∈l,cD v=0)→(ff l).length≤43*l.length
 | [],_=>Nat.le_refl _
 | v::r,h=>by
  have h1:=Fb (h v mem_cons_self);have h2:=EP (l:=r) fun x hx=>h x (mem_cons_of_mem _ hx);unfold ff at h2 ⊢;rw[flatMap_cons,length_append,length_cons];omega
theorem O7{l:List Vl}{i:Nat}(hi:i<l.length):ff (l.take i)++pQ l[i]=ff (l.take (i+1)):=by
 unfold ff;rw[take_succ_eq_append_getElem hi,flatMap_append];simp
theorem FH(h:v.k=1):sL v=[nb v]:=if_pos h
theorem FI(h:v.k=2):sL v=lV (uN v):=by unfold sL;rw[if_neg w4,if_pos h]
theorem FJ(h:v.k=3):sL v=oA v.s.data.toList++[0,0]:=by unfold sL;rw[if_neg w4,if_neg w4,if_pos h]
theorem UI(h1:¬v.k=1)(h2:¬v.k=2)(h3:¬v.k=3):sL v=[]:=by unfold sL;rw[if_neg h1,if_neg h2,if_neg h3]
theorem Bf(s:ByteArray):(ua 0 [0,255] s).data.toList=oA s.data.toList:=rfl
def Lr(p:List UInt8×Int)(r:D)(S:List ah):Prop:=∃ad cap,r = .dJ [aP ad p.1.length cap,ae p.2]∧bp 5 1 (p.1.flatMap cB) p.1.length ad cap S
theorem Lr.view{p:List UInt8×Int}{r:D}{S:List ah}(h:Lr p r S):View S r (Lq p):=by
 obtain⟨ad,cap,rfl,ho⟩:=h;exact EL ⟨lK ho (cu pL _) (fun B h=>h),eU,trivial⟩
theorem A7:(Tryz.prog.info? 5).map (fun i=>(i.zero,i.size,i.bytes))=some (some (.int .u8 0),1,1):=by kernel_rfl
theorem Uf(hG:(2,[Value.int .i64 m])∈G)(l:List Vl)(hl:l.length≤maxLen)(aR:∀v∈l,v.Ok):VC Tryz.prog G 111 [av 3 cV l] [] (Lr (fX l)):=by
 refine VC.body func111 rfl ntmps111 aQ fun X0 w0 bg=>?_;refine af [0] ?_;refine af [0,12] ?_;refine au ?_ ?_<;>intro aO bE
 ·have aV:fX l=([],1):=if_pos w4;exact MR
 have h6:l.length≤6:=(by omega)
 refine bY ?_;refine bf [0,4] ?_;refine af [4,13,14,15] ?_;refine CD.block ?_;refine mV (fun (E:Nat×Option Addr×Nat×List ah) aH=>match E with|(i,I,O,Sb)=>(i≤l.length)∧(∀v∈l.take i,cD v=0)∧(bp 5 1 ((ff (l.take i)).flatMap cB) (ff (l.take i)).length I O Sb)∧aH=(⟨72,[(4,aP I (ff (l.take i)).length O),(13,av 3 cV l),(14,ae l.length),(15,ae (i:Nat))],(Sb)⟩:St)) (fun (E:Nat×Option Addr×Nat×List ah)=>match E with|(i,I,O,Sb)=>l.length-i) (0,none,0,[]) ⟨(Nat.zero_le _),bq,(bp.cast ik (by rfl)),rfl⟩ (aK (h:=by repeat (first|exact trivial|refine⟨w6,?_⟩))) ?_;rintro⟨i,I,O,Sb⟩ _ ⟨hi,h0,py,rfl⟩;refine af [4,13,14,15,16] ?_;refine au ?_ ?_<;>intro aY cJ
 ·have aa:i<l.length:=(by omega)
  have M2:=EP h0;rw[length_take] at M2;have dz:=ei;have fR:=aR _ (getElem_mem aa);refine aD 2 ?_;refine OD.alloc (ds:=[_,_,_]) ap rfl rfl zeroValue41 rfl (fun b6=>?_);refine aN 0 [_,_,_] sizeOf41 ?_;refine an 72 [4,6,13,14,15] ?_;refine cX [4,6,7,13,14,15] (Vl.pH l[i]) ?_;refine af [4,6,7,13,14,15,22] ?_;refine au ?_ ?_<;>intro cm cW
  ·have hne:cD l[i]≠0:=(by simpa using cm)
   have aV:fX l=([],cD l[i]):=(by unfold fX;rw[if_neg w4,SJ aa h0 hne,if_pos hne])
   exact MR
  have U:cD l[i]=0:=(by simpa using cm)
  refine aD 3 ?_;refine bN (oM (r:=.int .u8 ((kb l[i]).toNat:Int)) rfl ot (oN runUnderlying3 runUnderlying5 (ad8 U))) ?_;refine ev (cc 0 [_]) [.int .u8 0] [_] zeroValue5 runUnderlying88 sizeOf5 (fun Nt=>?_);refine fF 0 28 1 1 ?_;refine OD.en (ls:=(ff (l.take i))) (new:=[kb l[i]]) (Sq:=Sb) pL wK ap rfl rfl underlying88 A7 rfl w7 ot py (dg (A:=[_])) ot bq zZ zZ (fun uJ Z Gt Gu=>?_);refine OD.perm (ee (S1:=[⟨uJ,5,Z*1,flatMap cB ((ff (l.take i))++[kb l[i]])⟩]) (A:=[_])) ?_;refine an 72 [4,6,13,14,15] ?_;refine af [4,6,13,14,15,31] ?_;refine af [4,6,13,14,15,31,32] ?_;refine au ?_ ?_<;>intro da ek
  ·have dP:l[i].k=1:=(by simpa using da)
   refine dO 3 ?_;refine bN (oM (r:=.int .u8 ((nb l[i]).toNat:Int)) rfl ot (oN runUnderlying3 runUnderlying5 (ad9 U dP))) ?_;refine ev (cc 0 [_]) [.int .u8 0] [_] zeroValue5 runUnderlying88 sizeOf5 (fun Nu=>?_);refine fF 0 38 1 1 ?_;refine OD.en (ls:=((ff (l.take i))++[kb l[i]])) (new:=[nb l[i]]) (Sq:=[⟨uJ,5,Z*1,flatMap cB ((ff (l.take i))++[kb l[i]])⟩]) pL wK ap rfl rfl underlying88 A7 rfl w7 ot (bH Gt Gu) (dg (A:=[_])) ot bq zZ zZ (fun CQ Ls aiO aiP=>?_);refine OD.perm (ee (S1:=[⟨CQ,5,Ls*1,flatMap cB (((ff (l.take i))++[kb l[i]])++[nb l[i]])⟩]) (A:=[_])) ?_;refine an 72 [4,13,14,15] ?_;refine cl [4,13,14,15] ?_;refine⟨((i+1),(some ⟨CQ,0,none⟩),Ls,[⟨CQ,5,Ls*1,flatMap cB (((ff (l.take i))++[kb l[i]])++[nb l[i]])⟩]),_,cz,(aK (h:=by repeat (first|exact trivial|refine⟨w6,?_⟩))),w4,(yN aa h0 U),(bp.cast (bH aiO aiP) GM),rfl⟩
  have dP:¬l[i].k=1:=(by simpa using da)
  refine af [4,6,13,14,15,31,40] ?_;refine au ?_ ?_<;>intro ez fw
  ·have fy:l[i].k=2:=(by simpa using ez)
   refine cZ [4,8,13,14,15] ?_;refine aS 3 ?_ (h:=by exact(dw (r:=.int .u64 ((uN l[i]:Nat):Int)) rfl ot bP (adQ (by rw[Kg fR];exact adS fR.n1 fR.n2))));refine bK ?_;refine af [4,8,9,13,14,15] ?_;refine CD.block ?_;refine mV (fun (E:Nat×Option Addr×Nat×List ah) aH=>match E with|(k,I,O,Sb)=>(k≤8)∧(bp 5 1 (((ff (l.take i)++[kb l[i]])++(lV (uN l[i])).take k).flatMap cB) ((ff (l.take i)++[kb l[i]])++(lV (uN l[i])).take k).length I O Sb)∧aH=(⟨72,[(4,aP I ((ff (l.take i)++[kb l[i]])++(lV (uN l[i])).take k).length O),(8,.v (.int .u64 ((uN l[i]:Nat):Int))),(9,ae (56-8*(k:Int))),(13,av 3 cV l),(14,ae l.length),(15,ae (i:Nat))],(Sb)⟩:St)) (fun (E:Nat×Option Addr×Nat×List ah)=>match E with|(k,I,O,Sb)=>8-k) (0,(some ⟨uJ,0,none⟩),Z,[⟨uJ,5,Z*1,flatMap cB ((ff (l.take i))++[kb l[i]])⟩]) ⟨w7,(bp.cast (bH Gt Gu) bq),rfl⟩ (aK (h:=by repeat (first|exact trivial|refine⟨(by (repeat (first|exact fB|(apply fU;focus (first|rfl|(congr 2;omega)|(simp;done)|(apply eL;rw[←Fa w4];simp)|(apply eL;simp)|(apply eL;simp;done)))|(apply fH;focus rfl)));done),?_⟩))) ?_;rintro⟨k,I,O,Sb⟩ _ ⟨ME,py,rfl⟩;refine af [4,8,9,13,14,15,47] ?_;refine au ?_ ?_<;>intro fg gB
   ·have hk7:k≤7:=(by omega)
    refine dO 3 ?_;refine bN (dw (r:=.int .u64 ((uN l[i]/256 ^ (7-k):Nat):Int)) rfl ot ot (y4 w4 (afN hk7))) ?_;refine bN (oM (r:=.int .u8 ((xB (uN l[i]) k).toNat:Int)) rfl ot (oN runUnderlying213 runUnderlying5 (aea _))) ?_;refine ev (cc 0 [_]) [.int .u8 0] [_] zeroValue5 runUnderlying88 sizeOf5 (fun b55=>?_);refine fF 0 55 1 1 ?_;refine OD.en (ls:=((ff (l.take i)++[kb l[i]])++(lV (uN l[i])).take k)) (new:=[xB (uN l[i]) k]) (Sq:=Sb) pL wK ap rfl rfl underlying88 A7 rfl w7 ot py (dg (A:=[])) ot bq zZ zZ (fun Nv Lu aiQ aiR=>?_);refine OD.perm (ee (S1:=[⟨Nv,5,Lu*1,flatMap cB (((ff (l.take i)++[kb l[i]])++(lV (uN l[i])).take k)++[xB (uN l[i]) k])⟩]) (A:=[])) ?_;refine an 72 [4,8,9,13,14,15] ?_;refine cl [4,8,9,13,14,15] ?_;refine⟨((k+1),(some ⟨Nv,0,none⟩),Lu,[⟨Nv,5,Lu*1,flatMap cB (((ff (l.take i)++[kb l[i]])++(lV (uN l[i])).take k)++[xB (uN l[i]) k])⟩]),_,cz,(aK (h:=by repeat (first|exact trivial|refine⟨(by (repeat (first|exact fB|(apply fU;focus (first|rfl|(congr 2;omega)|(simp;done)|(apply eL;rw[←Fa w4];simp)|(apply eL;simp)|(apply eL;simp;done)))|(apply fH;focus rfl)));done),?_⟩))),w4,(bp.cast (bH aiQ aiR) (by rw[←Fa w4];simp)),rfl⟩
   have apo:k=8:=(by omega)
   have apq:8≤k:=(by omega)
   refine cl [4,13,14,15] ?_;refine⟨((i+1),I,O,Sb),_,cz,(aK (h:=by repeat (first|exact trivial|refine⟨w6,?_⟩))),w4,(yN aa h0 U),(bp.cast py GM),rfl⟩
  have fy:¬l[i].k=2:=(by simpa using ez)
  refine af [4,6,13,14,15,57] ?_;refine au ?_ ?_<;>intro gY kS
  ·have lZ:l[i].k=3:=(by simpa using gY)
   have Mf:=OS U lZ;have Db:=SK l[i].s.data.toList;rw[kN] at Db;have XX:(ua 0 [0,255] l[i].s).size=(oA l[i].s.data.toList).length:=(by rw[←kN,Bf])
   refine aD 3 ?_;refine dV call143 (ad6 hG 0 ⟨#[0,255]⟩ l[i].s w4 w7) ?_;refine OD.ZD (ls:=((ff (l.take i))++[kb l[i]])) (Sq:=[⟨uJ,5,Z*1,flatMap cB ((ff (l.take i))++[kb l[i]])⟩]) ap rfl rfl underlying88 underlying9 A7 ot (bH Gt Gu) (dg (A:=[_])) ot (by rw[show(ua 0 (⟨#[0,255]⟩:ByteArray).data.toList l[i].s).size=(oA l[i].s.data.toList).length from XX];simp only[length_append,length_cons,length_nil];omega) (by rw[show(ua 0 (⟨#[0,255]⟩:ByteArray).data.toList l[i].s).size=(oA l[i].s.data.toList).length from XX];simp only[length_append,length_cons,length_nil];omega) (fun VR xC De Cl=>?_);refine OD.perm (ee (A:=[_])) ?_;refine an 72 [4,13,14,15] ?_;refine dO 1 ?_;refine ev (cc 0 [_,_]) [.int .u8 0,.int .u8 0] [_,_] zeroValue5 runUnderlying88 sizeOf5 (fun b65=>?_);refine fF 0 65 1 2 ?_;refine OD.en (ls:=(((ff (l.take i))++[kb l[i]])++(ua 0 [0,255] l[i].s).data.toList)) (new:=[(0:UInt8),0]) (Sq:=De) pL wK ap rfl rfl underlying88 A7 rfl w7 ot Cl (dg (A:=[_])) ot bq (by rw[Bf];simp only[length_append,length_cons,length_nil];omega) (by rw[Bf];simp only[length_append,length_cons,length_nil];omega) (fun pA zM zN zO=>?_);refine OD.perm (ee (S1:=[⟨pA,5,zM*1,flatMap cB ((((ff (l.take i))++[kb l[i]])++(ua 0 [0,255] l[i].s).data.toList)++[(0:UInt8),0])⟩]) (A:=[_])) ?_
   refine an 72 [4,13,14,15] ?_;refine cl [4,13,14,15] ?_;refine⟨((i+1),(some ⟨pA,0,none⟩),zM,[⟨pA,5,zM*1,flatMap cB ((((ff (l.take i))++[kb l[i]])++(ua 0 [0,255] l[i].s).data.toList)++[(0:UInt8),0])⟩]),_,cz,(aK (h:=by repeat (first|exact trivial|refine⟨w6,?_⟩))),w4,(yN aa h0 U),(bp.cast (bH zN zO) GM),rfl⟩
  have lZ:¬l[i].k=3:=(by simpa using gY)
  refine cl [4,13,14,15] ?_;refine⟨((i+1),(some ⟨uJ,0,none⟩),Z,[⟨uJ,5,Z*1,flatMap cB ((ff (l.take i))++[kb l[i]])⟩]),_,cz,(aK (h:=by repeat (first|exact trivial|refine⟨w6,?_⟩))),w4,(yN aa h0 U),(bp.cast (bH Gt Gu) GM),rfl⟩
 have fi:∀v∈l,cD v=0:=(by rw[take_of_length_le w4] at h0;exact h0)
 have hle:=EP fi;have Nw:ff (l.take i)=ff l:=(by rw[take_of_length_le w4])
 refine af [4,70] ?_;refine au ?_ ?_<;>intro gq lB
 ·have aV:fX l=([],5):=(by unfold fX;rw[if_neg w4,E9 fi,if_neg bq,if_pos (by rw[Nw] at gq;simp at gq;omega)])
  exact MR
 have aV:fX l=(ff l,0):=(by unfold fX;rw[if_neg w4,E9 fi,if_neg bq,if_neg (by rw[Nw] at gq;simp at gq;omega)])
 refine af [2,3] ?_;refine aJ Sb ?_;rw[aV,←Nw];exact⟨I,O,rfl,py⟩
theorem afO(hG:(2,[Value.int .i64 m])∈G)(l:List Vl)(hl:l.length≤maxLen)(aR:∀v∈l,v.Ok):VP Tryz.prog G 111 [av 3 cV l] (Lq (fX l)):=(Uf hG l hl aR).cover fun r S hr=>hr.view

end Go.Proofs.YtdgichenhdikgaaGreatDoor.Cd
namespace Go.Proofs.YtdgichenhdikgaaGreatDoor.Cd
open List
open Go.Proofs.Tryz
open Go.RowKit V Pk Vl
def lT(l:List UInt8):Nat:=l.foldl (fun a c=>a*256+c.toNat) 0
theorem Ir(l:List UInt8)(c:UInt8):lT (l++[c])=lT l*256+c.toNat:=by unfold lT;rw[foldl_append];rfl
theorem JB:∀(n:Nat) (l:List UInt8),l.length=n→lT l<256 ^ n
 | 0,l,h=>by rw[eq_nil_of_length_eq_zero h];decide
 | n+1,l,h=>by
  have hne:l≠[]:=(by intro e;subst e;simp at h)
  rw[←dropLast_concat_getLast hne,Ir];have h1:=JB n l.dropLast (by rw[length_dropLast,h];rfl);have h2:(l.getLast hne).toNat<256:=(l.getLast hne).toNat_lt;rw[Nat.pow_succ];omega
variable {G:List (Nat×List Value)}

end Go.Proofs.YtdgichenhdikgaaGreatDoor.Cd
namespace Go.Proofs.YtdgichenhdikgaaGreatDoor.Cd
open List
open Go.Proofs.Tryz
open Go.RowKit V Pk Vl
variable {v:Vl}
theorem HT:∀(b a:List UInt8),lT (a++b)=lT a*256 ^ b.length+lT b
 | [],a=>by simp[lT]
 | c::b,a=>by
  have h1:=HT b (a++[c]);have h2:=HT b [c];rw[append_assoc,singleton_append,Ir] at h1;have h3:lT (c::b)=c.toNat*256 ^ b.length+lT b:=by
   rw[singleton_append] at h2;rw[h2];have:lT [c]=c.toNat:=(by simp[lT])
   rw[this]
  rw[h1,h3,length_cons,Nat.pow_succ,Nat.add_mul,Nat.mul_assoc,Nat.mul_comm 256];omega
theorem QL{u:Nat}(h:u<18446744073709551616):lT (lV u)=u:=by
 have key:∀k,k≤8→lT ((lV u).take k)=u/256 ^ (8-k):=by
  intro k;induction k with
  | zero=>intro _;show 0=u/256 ^ 8;exact(Nat.div_eq_of_lt h).symm
  | succ k ih =>
   intro hk;have hb:=ih w4;rw[←Fa w4,Ir,hb];unfold xB;rw[UInt8.toNat_ofNat',show 8-k=(7-k)+1 by omega,show 8-(k+1)=7-k by omega,Nat.pow_succ,←Nat.div_div_eq_div_mul];have:=Nat.div_add_mod (u/256 ^ (7-k)) 256;omega
 have:=key 8 (Nat.le_refl _);rw[take_of_length_le (by rw[wG];omega)] at this;rw[this];simp
theorem Is{s:ByteArray}(h:s.size=0):s=⟨#[]⟩:=E6 (eq_nil_of_length_eq_zero (by rw[kN,h]))
theorem Fc(h:cD v=0)(hk:v.k=0):v=⟨0,0,⟨#[]⟩⟩:=by
 unfold cD at h;rw[if_pos hk] at h;split at h
 ·cases h
 rename_i hn;exact Vl.ext' hk (by show v.n=0;omega) (Is w4)
theorem SL(h:cD v=0)(hk:v.k=1):v.s=⟨#[]⟩:=by
 unfold cD at h;rw[if_neg w4,if_pos hk] at h;split at h
 ·cases h
 exact Is w4
theorem SM(h:cD v=0)(hk:v.k=2):v.s=⟨#[]⟩:=by
 unfold cD at h;rw[if_neg w4,if_neg w4,if_pos hk] at h;split at h
 ·cases h
 exact Is w4
theorem SN(h:cD v=0)(hk:v.k=3):v.n=0:=by
 unfold cD at h;rw[if_neg w4,if_neg w4,if_neg w4,if_pos hk] at h;split at h
 ·cases h
 omega

end Go.Proofs.YtdgichenhdikgaaGreatDoor.Cd
namespace Go.Proofs.YtdgichenhdikgaaGreatDoor.Cd





open List
open Go.Proofs.Tryz
open Go.RowKit V Pk Vl
open Go.Lib (compareBytes)
variable {a b:UInt8} {l:List Int}
theorem tT:a<b↔a.toNat<b.toNat:=UInt8.lt_iff_toNat_lt
theorem afP(h:a≠b):a.toNat≠b.toNat:=fun e=>h (UInt8.toNat_inj.1 e)
theorem y5(a b:UInt8)(x y:List UInt8):compareBytes (a::x) (b::y)=if a<b then -1 else if b<a then 1 else compareBytes x y:=by rw[compareBytes]
theorem wW(x y:List UInt8)(h:a.toNat<b.toNat):compareBytes (a::x) (b::y) = -1:=by rw[y5,if_pos (tT.2 h)]
theorem uc(a:UInt8)(x y:List UInt8):compareBytes (a::x) (a::y)=compareBytes x y:=by
 rw[y5,if_neg qG,if_neg qG]
theorem SO:∀(p x y:List UInt8),compareBytes (p++x) (p++y)=compareBytes x y
 | [],_,_=>rfl
 | a::p,x,y=>by rw[cons_append,cons_append,uc,SO p x y]
theorem JC:∀(x y:List UInt8),compareBytes y x = - compareBytes x y
 | [],[]=>rfl
 | [],_::_=>rfl
 | _::_,[]=>rfl
 | a::x,b::y=>by
  have E:=JC x y;rw[y5,y5];rcases Nat.lt_trichotomy a.toNat b.toNat with h|h|h
  ·rw[if_neg qG,if_pos (tT.2 h),if_pos (tT.2 h)];rfl
  ·rw[if_neg qG,if_neg qG,if_neg qG,if_neg qG,E]
  rw[if_pos (tT.2 h),if_neg qG,if_pos (tT.2 h)]
theorem QM:∀(x y:List UInt8),compareBytes x y = -1∨compareBytes x y=0∧x=y∨compareBytes x y=1
 | [],[]=>.inr (.inl ⟨rfl,rfl⟩)
 | [],_::_=>.inl rfl
 | _::_,[]=>.inr (.inr rfl)
 | a::x,b::y=>by
  rw[y5];rcases Nat.lt_trichotomy a.toNat b.toNat with h|h|h
  ·exact .inl (if_pos (tT.2 h))
  ·have e:a=b:=UInt8.toNat_inj.1 h;subst e;rw[if_neg qG,if_neg qG];rcases QM x y with h|⟨h,e⟩|h
   ·exact .inl h
   ·exact .inr (.inl ⟨h,by rw[e]⟩)
   exact .inr (.inr h)
  exact .inr (.inr (by rw[if_neg qG,if_pos (tT.2 h)]))
theorem Pt(c:UInt8)(b:List UInt8):lT (c::b)=c.toNat*256 ^ b.length+lT b:=by
 have h2:=HT b [c];rw[singleton_append] at h2;rw[h2];have:lT [c]=c.toNat:=(by simp[lT])
 rw[this]
theorem UQ:∀(l k:List UInt8) (x y:List UInt8),l.length=k.length→lT l<lT k→compareBytes (l++x) (k++y) = -1
 | [],[],_,_,_,h=>absurd h (Nat.lt_irrefl _)
 | [],_::_,_,_,h,_=>by simp at h
 | _::_,[],_,_,h,_=>by simp at h
 | a::l,b::k,x,y,hl,h=>by
  simp only[length_cons,Nat.add_right_cancel_iff] at hl;rw[Pt,Pt,hl] at h;have h1:=JB _ l hl;have h2:=JB _ k rfl;rw[cons_append,cons_append];rcases Nat.lt_trichotomy a.toNat b.toNat with e|e|e
  ·exact wW _ _ e
  ·have e':a=b:=UInt8.toNat_inj.1 e;subst e';rw[uc];exact UQ l k x y hl w4
  exfalso;have:(b.toNat+1)*256 ^ k.length≤a.toNat*256 ^ k.length:=Nat.mul_le_mul_right _ e;rw[Nat.succ_mul] at this;omega
theorem Bj(c:UInt8)(s:List UInt8):oA (c::s)=(if c=0 then [0,255] else [c])++oA s:=by unfold oA;rw[flatMap_cons]
theorem Ug{c:UInt8}(h:¬c=0):0<c.toNat:=by
 have:=afP h;have e:(0:UInt8).toNat=0:=rfl;omega
theorem Uh:∀(s t x y:List UInt8),compareBytes s t = -1→compareBytes (oA s++([0,0]++x)) (oA t++([0,0]++y)) = -1
 | [],[],_,_,h=>by exact absurd h w7
 | _::_,[],_,_,h=>by exact absurd (show(1:Int) = -1 from h) w7
 | [],d::t,x,y,_=>by
  rw[Bj];by_cases hd:d=0
  ·rw[if_pos hd];show compareBytes (0::0::x) (0::255::(oA t++([0,0]++y))) = -1;rw[uc];exact wW _ _ w7
  rw[if_neg hd];exact wW (a:=0) _ _ (Ug hd)
 | c::s,d::t,x,y,h=>by
  rcases Nat.lt_trichotomy c.toNat d.toNat with e|e|e
  ·have hd:¬d=0:=fun hd=>by subst hd;have:(0:UInt8).toNat=0:=rfl;omega
   rw[Bj,Bj,if_neg hd];by_cases hc:c=0
   ·rw[if_pos hc];exact wW (a:=0) _ _ (Ug hd)
   rw[if_neg hc];exact wW _ _ e
  ·have e':c=d:=UInt8.toNat_inj.1 e;subst e';rw[uc] at h;rw[Bj,Bj,append_assoc,append_assoc,SO];exact Uh s t x y h
  rw[y5,if_neg qG,if_pos (tT.2 e)] at h;exact absurd h w7
def pS(x y:Int):Int:=if x<y then -1 else if x>y then 1 else 0
def gh:List Int→Int
 | []=>0
 | a::l=>if a≠0 then a else gh l
def cmpL(a b:Vl):List Int:=[pS a.k b.k,pS a.n b.n,compareBytes a.s.data.toList b.s.data.toList]
def fk(a b:Vl):Int:=gh (cmpL a b)
theorem sc(x y:Int):pS x y = -1∧x<y∨pS x y=0∧x=y∨pS x y=1∧y<x:=by unfold pS;split;omega;split<;>omega
theorem Pu(x y:Int):pS y x = - pS x y:=by
 rcases sc x y with h|h|h<;>rcases sc y x with k|k|k<;>omega
theorem A8(a b:Vl):fk b a = - fk a b:=by
 unfold fk cmpL gh gh gh gh;rw[Pu a.k b.k,Pu a.n b.n,JC a.s.data.toList b.s.data.toList];repeat' split
 all_goals omega
theorem Ui{v w:Vl}(E:cD v=0)(I:v.Ok)(hw:cD w=0)(O:w.Ok)(x y:List UInt8)(h:fk v w = -1):compareBytes (pQ v++x) (pQ w++y) = -1:=by
 have Z:=Ke E;have kw:=Ke hw;unfold pQ;rw[cons_append,cons_append];unfold fk cmpL gh gh gh gh at h;rcases sc v.k w.k with h1|h1|h1
 ·exact wW _ _ w4
 ·have U:kb v=kb w:=UInt8.toNat_inj.1 w4;rw[U,uc];rw[h1.1,if_neg bq] at h;have hk:=H8 E;have h4:v.k=0∨v.k=1∨v.k=2∨v.k=3:=(by omega)
  rcases sc v.n w.n with h2|h2|h2
  ·rcases h4 with e|e|e|e
   ·have:=Fc E e;have:=Fc hw w4;simp_all
   ·have n1:=Kf E e;have n2:=Kf hw w4;rw[FH e,FH w4];exact wW _ _ w4
   ·have u1:=Kg I;have u2:=Kg O;have b1:=I.n2;have b2:=O.n2;rw[FI e,FI w4];exact UQ _ _ _ _ (by rw[wG,wG]) (by rw[QL w4,QL w4];omega)
   have:=SN E e;have:=SN hw w4;omega
  ·rw[h2.1,if_neg bq] at h;have h:compareBytes v.s.data.toList w.s.data.toList = -1:=by
    by_cases hz:compareBytes v.s.data.toList w.s.data.toList=0
    ·rw[hz] at h;simp at h
    rw[if_pos hz] at h;exact h
   rcases h4 with e|e|e|e
   ·rw[Fc E e,Fc hw w4] at h;exact absurd h w7
   ·rw[SL E e,SL hw w4] at h;exact absurd h w7
   ·rw[SM E e,SM hw w4] at h;exact absurd h w7
   rw[FJ e,FJ w4,append_assoc,append_assoc];exact Uh _ _ _ _ h
  rw[h2.1,if_pos w7] at h;exact absurd h w7
 rw[h1.1,if_pos w7] at h;exact absurd h w7
theorem ZL(v w:Vl):fk v w = -1∨fk v w=0∨fk v w=1:=by
 unfold fk cmpL gh gh gh gh;rcases sc v.k w.k with h1|h1|h1<;>rcases sc v.n w.n with h2|h2|h2<;>rcases QM v.s.data.toList w.s.data.toList with h3|h3|h3
 all_goals (rw[h1.1,h2.1];first|rw[h3.1]|rw[h3])
 all_goals decide
theorem SP{v w:Vl}(E:cD v=0)(I:v.Ok)(hw:cD w=0)(O:w.Ok)(x y:List UInt8)(h:fk v w≠0):compareBytes (pQ v++x) (pQ w++y)=fk v w:=by
 rcases ZL v w with e|e|e
 ·rw[e];exact Ui E I hw O x y e
 ·exact absurd e h
 rw[e,JC,Ui hw O E I y x (by rw[A8,e])];rfl

variable {G:List (Nat×List Value)} {m:Int}
def cI(n:Int):List D:=[ae n]
theorem acj:∀{i:Nat} (hi:i<l.length),(∀x∈l.take i,x=0)→gh l=gh (l.drop i):=by
 induction l with
 | nil=>intro i hi;simp at hi
 | cons a l ih =>
  intro i hi h;cases i with
  | zero=>rfl
  | succ i =>
   have ha:a=0:=h a bq;show(if a≠0 then a else gh l)=gh (l.drop i);rw[if_neg (by simp[ha])];exact ih (by simpa using hi) (fun x hx=>h x (by simp[hx]))
theorem aeb{i:Nat}(hi:i<l.length)(h:∀x∈l.take i,x=0)(h1:l[i]≠0):gh l=l[i]:=by
 rw[acj hi h,drop_eq_getElem_cons hi];exact if_pos h1
theorem QN:∀{l:List Int},(∀x∈l,x=0)→gh l=0
 | [],_=>rfl
 | a::l,h=>by
  show(if a≠0 then a else gh l)=0;rw[if_neg (by simp[h a bq]),QN fun x hx=>h x (by simp[hx])]
theorem take_zero{i:Nat}(hi:i<l.length)(h:∀x∈l.take i,x=0)(h1:l[i]=0):∀x∈l.take (i+1),x=0:=fun x hx=>by
 rw[take_succ_eq_append_getElem hi] at hx;rcases mem_append.1 hx with hx|hx
 ·exact h x hx
 simp only[mem_singleton] at hx;rw[hx];exact h1
theorem Uj(x:Int):VP Tryz.prog G 154 [ae x] (bS false):=by
 refine VC.body func154 rfl ntmps154 aQ fun X0 w0 bg=>?_;refine af [0] ?_;refine af [2] ?_;refine aJ [] ?_;first|exact⟨rfl,rfl⟩|(refine⟨vb ?_,rfl⟩;simp)
theorem SQ(x y:Int):VP Tryz.prog G 136 [ae x,ae y] (ae (pS x y)):=by
 refine VC.body func136 rfl ntmps136 aQ fun X0 w0 bg=>?_;refine af [0,1] ?_;refine cX [0,1,5] (Uj x) ?_;refine cX [0,1,5,6] (Uj y) ?_;refine af [0,1,6,11] ?_;refine au ?_ ?_<;>intro aO bE
 ·refine af [12] ?_;refine au ?_ ?_<;>intro aY cJ
  ·exact CO
  exact CO
 refine af [0,1,13] ?_;refine au ?_ ?_<;>intro cm cW
 ·exact CO
 refine af [0,1,16] ?_;refine au ?_ ?_<;>intro da ek
 ·exact CO
 refine af [19] ?_;refine au ?_ ?_<;>intro ez fw
 ·exact CO
 refine af [4] ?_;refine aJ [] ?_;first|exact⟨rfl,rfl⟩|(refine⟨vi ?_,rfl⟩;unfold pS;simp_all;done)|(refine⟨vi ?_,rfl⟩;unfold pS;split<;>(try split)<;>simp_all<;>omega)
theorem afQ(l:List Int)(hl:l.length≤100):VP Tryz.prog G 135 [av 1 cI l] (ae (gh l)):=by
 refine VC.body func135 rfl ntmps135 aQ fun X0 w0 bg=>?_;have dz:=ei;refine af [0] ?_;refine af [0,3] ?_;refine af [3,6,7,8] ?_;refine eD [3,6,7] (fun aW _ (i:Nat) aH=>(i≤l.length)∧(∀x∈l.take i,x=0)∧aH=(⟨18,(8,ae (i:Nat))::aW,[]⟩:St)) (fun (i:Nat)=>l.length-i) 0 ⟨(Nat.zero_le _),(fun x hx=>by simp at hx),rfl⟩ ?_;rintro i _ ⟨hi,hz,rfl⟩;refine af [3,6,7,8,9] ?_;refine au ?_ ?_<;>intro aO bE
 ·have aa:i<l.length:=(by omega)
  refine af [3,5,6,7,8] ?_;refine af [3,5,6,7,8,14] ?_;refine au ?_ ?_<;>intro aY cJ
  ·have aV:gh l=l[i]:=aeb aa hz vI;refine af [2] ?_;exact oE
  refine cl [3,6,7,8] ?_;refine⟨(i+1),_,cz,aK,w4,(take_zero aa hz vI),rfl⟩
 have aV:gh l=0:=QN (by rw[take_of_length_le w4] at hz;exact hz);refine af [2] ?_;exact uz
theorem aec(a b:ByteArray):VP Tryz.prog G 137 [bn a,bn b] (ae (compareBytes a.data.toList b.data.toList)) :=
 VP.SD (P:=Tryz.prog) (G:=G) (f:=137) (vs:=[.string a,.string b]) (v:=.int .i64 (compareBytes a.data.toList b.data.toList)) fun w _ =>
  (Tryz.strings_Compare a b w).mono fun e w' ⟨h1,h2⟩=>⟨h1,h2 ▸ Below.refl _ _⟩
theorem OT(a b:Vl)(ha:a.Ok)(hb:b.Ok):VP Tryz.prog G 104 [.agg (cV a),.agg (cV b)] (ae (fk a b)):=by
 refine VC.body func104 rfl ntmps104 aQ fun X0 w0 bg=>?_;unfold cV;refine bY ?_;refine OD.box (ds:=[_,_,_]) ap rfl rfl ot rfl rfl (fun b2=>?_);refine OD.box (ds:=[_,_,_]) ap rfl rfl ot rfl rfl (fun b3=>?_);refine an 22 [2,3] ?_;refine cZ [4] ?_;refine di (SQ a.k b.k) ?_;refine di (SQ a.n b.n) ?_;refine di (aec a.s b.s) ?_;refine di (afQ (cmpL a b) (by show 3≤100;decide)) ?_;refine bK ?_;exact nw
def mK(a b:Vl):Int:=if cD a≠0 then cD a else cD b
def Lv(a b:Vl):D:=.dJ [ae (if mK a b≠0 then 0 else fk a b),ae (mK a b)]
theorem SR(a b:Vl):VP Tryz.prog G 101 [.agg (cV a),.agg (cV b)] (ae (mK a b)):=by
 refine VC.body func101 rfl ntmps101 aQ fun X0 w0 bg=>?_;unfold cV;refine bY ?_;refine OD.box (ds:=[_,_,_]) ap rfl rfl ot rfl rfl (fun b2=>?_);refine OD.box (ds:=[_,_,_]) ap rfl rfl ot rfl rfl (fun b3=>?_);refine an 13 [2,3] ?_;refine cX [3,5] (pH a) ?_;refine af [3,5,9] ?_;refine au ?_ ?_<;>intro aO bE
 ·refine af [4] ?_;refine aJ [] ?_;refine⟨vi ?_,rfl⟩;unfold mK;simp_all
 refine cX [4] (pH b) ?_;refine aJ [] ?_;refine⟨vi ?_,rfl⟩;unfold mK;simp_all
theorem ZM(a b:Vl)(ha:a.Ok)(hb:b.Ok):VP Tryz.prog G 89 [.agg (cV a),.agg (cV b)] (Lv a b):=by
 refine VC.body func89 rfl ntmps89 aQ fun X0 w0 bg=>?_;unfold cV Lv;refine bY ?_;refine OD.box (ds:=[_,_,_]) ap rfl rfl ot rfl rfl (fun b2=>?_);refine OD.box (ds:=[_,_,_]) ap rfl rfl ot rfl rfl (fun b3=>?_);refine an 16 [2,3] ?_;refine cX [2,3,6] (SR a b) ?_;refine af [2,3,6,11] ?_;refine au ?_ ?_<;>intro aO bE
 ·refine af [4,5] ?_;refine aJ [] ?_;first|(simp_all;done)|(refine⟨?_,rfl⟩;simp_all;done)
 refine cX [4,5] (OT a b ha hb) ?_;refine aJ [] ?_;first|(simp_all;done)|(refine⟨?_,rfl⟩;simp_all;done)

end Go.Proofs.YtdgichenhdikgaaGreatDoor.Cd
namespace Go.Proofs.YtdgichenhdikgaaGreatDoor.Pc
open List
open Go.Proofs.Tryz
open Go.RowKit V Pk Vl Go.Proofs.YtdgichenhdikgaaGreatDoor.Nm
variable {i:Nat}
def typesC:List Value:=[.string ⟨#[]⟩,.string ⟨#[66,79,79,76]⟩,.string ⟨#[73,78,84]⟩,.string ⟨#[84,69,88,84]⟩]
structure cG where
 n:ByteArray
 k:Int
variable {l:List cG}
def cC(c:cG):List D:=[bn c.n,ae c.k]
theorem jS(c:cG):(cC c).length=2:=rfl
theorem afR(c:cG):(cC c).all V.one=true:=rfl
def nl(pre:List cG)(c:cG):Int :=
 if cL c.n≠0 then cL c.n else if c.k<1∨c.k>3 then 2 else if (pre.any fun d=>d.n.toList==c.n.toList)=true then 9 else 0
def ri:List cG→List cG→Int
 | _,[]=>0
 | pre,c::r=>if nl pre c≠0 then nl pre c else ri (pre++[c]) r
def fI(l:List cG):Int:=if l.length<1∨l.length>6 then 1 else ri [] l
theorem aaD(hi:i<l.length)(h:nl (l.take i) l[i]=0):ri (l.take i) (l.drop i)=ri (l.take (i+1)) (l.drop (i+1)):=by
 rw[drop_eq_getElem_cons hi,take_succ_eq_append_getElem hi];exact if_neg (by simp[h])
theorem IU(hi:i<l.length)(h:nl (l.take i) l[i]≠0):ri (l.take i) (l.drop i)=nl (l.take i) l[i]:=by
 rw[drop_eq_getElem_cons hi];exact if_pos h
theorem ack(hi:¬i<l.length):ri (l.take i) (l.drop i)=0:=by
 rw[drop_of_length_le w4];rfl
theorem IS(S:List ah):S.Perm (S++[]):=by rw[append_nil]
variable {G:List (Nat×List Value)}
theorem I0(ls:List cG)(g:Nat)(E:List D)(S:List ah)(p:cG→Bool)(fq:∀args w,(callFunc g args).run Tryz.prog w = .ok (.enter g args) w)(hp:∀x∈ls,VC Tryz.prog G g (.agg (cC x)::E) S (fun r S'=>r=bS (p x)∧S'=S))(hlen:ls.length≤1000000):VC Tryz.prog G 106 [av 2 cC ls,.eC (.func g) E] S (fun r S'=>r=ae (dR p ls)∧S'=S):=by
 refine VC.body func106 rfl ntmps106 aQ fun X0 w0 bg=>?_;unfold cC at hp;exact WB
theorem Zo(ls:List cG)(g:Nat)(E:List D)(S:List ah)(p:cG→Bool)(fq:∀args w,(callFunc g args).run Tryz.prog w = .ok (.enter g args) w)(hp:∀x∈ls,VC Tryz.prog G g (.agg (cC x)::E) S (fun r S'=>r=bS (p x)∧S'=S))(hlen:ls.length≤1000000):VC Tryz.prog G 112 [av 2 cC ls,.eC (.func g) E] S (fun r S'=>r=bS (ls.any p)∧S'=S):=by
 refine VC.body func112 rfl ntmps112 aQ fun X0 w0 bg=>?_;refine aD 1 ?_;refine OD.wk (Wk.dS (n:=9) (l':=[(0,_),(1,_)]) (S':=S) rfl mQ fm) ?_;refine OD.nil ?_;refine aD 2 ?_;refine OD.call ap rfl rfl rfl call106 (I0 ls g E S p fq hp hlen) ⟨tJ rfl lk,tJ rfl lk,trivial⟩ (IS _) ?_;rintro _ S2 ⟨rfl,iF⟩;rw[iF];clear iF;refine aE 2 ?_;refine OD.wk (Wk.dS (n:=9) (l':=[(4,_)]) (S':=S) rfl mQ fm) ?_;refine OD.nil ?_;refine aJ S ?_;refine⟨?_,rfl⟩;rw[QB]
theorem aed(h x:cG)(b:Nat):VC Tryz.prog G 113 [.agg (cC h),dM b] [⟨b,69,2,cC x⟩] (fun r S=>r=bS (h.n.toList==x.n.toList)∧S=[⟨b,69,2,cC x⟩]):=by
 refine VC.body func113 rfl ntmps113 aQ fun X0 w0 bg=>?_;unfold cC;refine bY ?_;refine OD.box (ds:=[_,_]) ap rfl rfl ot rfl rfl (fun b2=>?_);refine an 9 [1,2] ?_;refine af [3] ?_;refine aJ [⟨b,69,2,cC x⟩] ?_;exact⟨rfl,rfl⟩
theorem aee(hm:(3,marksC)∈G)(hw:(1,wordsC)∈G)(l:List cG)(hl:l.length≤maxLen)(aR:∀c∈l,c.n.size≤maxLen):VP Tryz.prog G 67 [av 2 cC l] (ae (fI l)):=by
 refine VC.body func67 rfl ntmps67 aQ fun X0 w0 bg=>?_;have dz:=ei;refine af [0] ?_;refine aD 4 ?_;refine bW 9 (fun Z O=>?_) (fun Z O=>?_)
 ·refine bf [0,13] ?_;refine eI ?_;have aV:fI l=1:=if_pos w4;exact xZ
 refine bf [0,13] ?_;refine au ?_ ?_<;>intro aO bE
 ·have aV:fI l=1:=if_pos w4;exact xZ
 have h16:¬(l.length<1∨l.length>6):=(by omega)
 have E:fI l=ri (l.take 0) (l.drop 0):=if_neg h16;refine af [0,14,15,16] ?_;refine eD [0,14,15] (fun aW _ (i:Nat) aH=>(i≤l.length)∧(fI l=ri (l.take i) (l.drop i))∧aH=(⟨41,(16,ae (i:Nat))::aW,[]⟩:St)) (fun (i:Nat)=>l.length-i) 0 ⟨(Nat.zero_le _),E,rfl⟩ ?_;rintro i _ ⟨hi,hinv,rfl⟩;refine af [0,14,15,16,17] ?_;refine au ?_ ?_<;>intro aY cJ
 ·have aa:i<l.length:=(by omega)
  refine aD 3 ?_;refine OD.alloc (ds:=[_,_]) ap rfl rfl zeroValue69 rfl (fun b4=>?_);refine aE 1 ?_;refine aN 0 [_,_] sizeOf69 ?_;refine an 41 [0,3,4,14,15,16] ?_;refine cX [0,3,4,5,14,15,16] (tK hm hw l[i].n (aR _ (getElem_mem aa))) ?_;refine af [0,3,4,5,14,15,16,25] ?_;refine au ?_ ?_<;>intro cm cW
  ·have hne:cL l[i].n≠0:=(by simpa using cm)
   have hf:nl (l.take i) l[i]=cL l[i].n:=if_pos hne;have aV:fI l=cL l[i].n:=(by rw[hinv,IU aa (by rw[hf];exact hne),hf])
   refine af [2] ?_;exact oE
  have gN:¬cL l[i].n≠0:=(by simpa using cm)
  refine aD 4 ?_;refine bW 30 (fun U I=>?_) (fun U I=>?_)
  ·refine bf [0,3,4,14,15,16,34] ?_;refine eI ?_;exact z131
  refine bf [0,3,4,14,15,16,34] ?_;refine au ?_ ?_<;>intro da ek
  ·exact z131
  have hk:¬(l[i].k<1∨l[i].k>3):=(by omega)
  refine aD 2 ?_;refine bN (eA (l:=0) rfl ot trivial ⟨_,ot⟩ (by first|exact oP jS (fun h=>by cases h) runUnderlying27 sizeOf69 w4|exact oR (fun h=>by cases h) runUnderlying27 sizeOf69 w4|exact n9 (fun _=>rfl) (fun h=>by cases h) runUnderlying27 sizeOf69 w4 w4)) ?_;refine bN (pG (ds:=[_]) rfl ⟨ot,trivial⟩) ?_;refine OD.call ap rfl rfl rfl call112 (Zo (l.take i) 113 [dM b4] _ (fun d=>d.n.toList==l[i].n.toList) call113 (fun h _=>aed h l[i] b4) o9) ⟨tJ rfl lk,tJ rfl lk,trivial⟩ (kr (k:=0) rfl) ?_;rintro _ S2 ⟨rfl,iF⟩;rw[iF];clear iF;refine an 41 [0,14,15,16,39] ?_;refine au ?_ ?_<;>intro ez fw
  ·have hf:nl (l.take i) l[i]=9:=(by unfold nl;rw[if_neg gN,if_neg hk,if_pos ez])
   have aV:fI l=9:=(by rw[hinv,IU aa (by rw[hf];decide),hf])
   refine af [2] ?_;exact oE
  have hf:nl (l.take i) l[i]=0:=(by unfold nl;rw[if_neg gN,if_neg hk,if_neg (by rw[ez];simp)])
  have jr:=hinv.trans (aaD aa hf);refine cl [0,14,15,16] ?_;refine⟨(i+1),_,cz,aK,w4,jr,rfl⟩
 have aV:fI l=0:=(by rw[hinv];exact ack w4)
 refine af [2] ?_;exact uz

end Go.Proofs.YtdgichenhdikgaaGreatDoor.Pc
namespace Go.Proofs.YtdgichenhdikgaaGreatDoor.Pa
open List
open Go.Proofs.Tryz
open Go.RowKit V Pk Vl Go.Proofs.YtdgichenhdikgaaGreatDoor.Nm Pc
structure cA where
 kind:Int
 table:ByteArray
 az:List cG
 row:List Vl
 names:List ByteArray
 count:Bool
 aj:List aX
 order:ByteArray
 down:Bool
 iq:Int
 set:ByteArray
 bV:List aX
def ga:cA:=⟨0,⟨#[]⟩,[],[],[],false,[],⟨#[]⟩,false,-1,⟨#[]⟩,[]⟩

end Go.Proofs.YtdgichenhdikgaaGreatDoor.Pa
namespace Go.Proofs.YtdgichenhdikgaaGreatDoor.Pa







open List
open Go.Proofs.Tryz
open Go.RowKit V Pk Vl Go.Proofs.YtdgichenhdikgaaGreatDoor.Nm Pc
variable {G:List (Nat×List Value)}
variable {α:Type}
theorem Es{ls:List (List α)}{j:Nat}(h:j<ls.length):(ls.take (j+1)).flatten=(ls.take j).flatten++ls[j]:=by
 rw[take_succ_eq_append_getElem h,flatten_append,flatten_cons,flatten_nil,append_nil]
theorem Ow{ls:List (List α)}{j:Nat}(h:j<ls.length):((ls.take (j+1)).flatten).length=((ls.take j).flatten).length+ls[j].length:=by rw[Es h,length_append]
theorem OA(ls:List (List α))(j:Nat):((ls.take j).flatten).length≤ls.flatten.length:=by
 conv=>rhs;rw[←take_append_drop j ls,flatten_append,length_append]
 omega
theorem aaE{e sz b cap:Nat}(h:cap≤maxLen):bp e sz [] 0 (some ⟨b,0,none⟩) cap [⟨b,e,cap*sz,[]⟩]:=.inr ⟨b,rfl,Nat.zero_le _,h,rfl⟩

end Go.Proofs.YtdgichenhdikgaaGreatDoor.Pa
namespace Go.Proofs.YtdgichenhdikgaaGreatDoor.Pa



open List
open Go.Proofs.Tryz
open Go.RowKit V Pk Vl Go.Proofs.YtdgichenhdikgaaGreatDoor.Nm Pc
variable {G:List (Nat×List Value)}
variable {α:Type} {i n:Nat} {ts h:List (List Tk)} {o:aX}
def afS:List ByteArray:=[⟨#[]⟩,⟨#[66,79,79,76]⟩,⟨#[73,78,84]⟩,⟨#[84,69,88,84]⟩]

theorem lN(t:Tk):(cT t).all V.one=true:=rfl
def bG(s:ByteArray):Tk:=⟨1,s,0⟩
def dW(s:ByteArray):Tk:=⟨4,s,0⟩
def cK(l:List Tk):List D:=[av 3 cT l]
theorem gl(l:List Tk):(cK l).length=1:=rfl
theorem pM(l:List Tk):(cK l).all V.one=true:=rfl
theorem tF{β:Type}(f:α→β){l:List α}(hi:i<l.length):(l.take i).map f++[f l[i]]=(l.take (i+1)).map f:=by rw[take_succ_eq_append_getElem hi,map_append];rfl
theorem JD{β:Type}(f:α→β){l:List α}(hi:l.length≤i):(l.take i).map f=l.map f:=by rw[take_of_length_le hi]
theorem mZ(s:ByteArray):VP Tryz.prog G 78 [bn s] (.agg (cT (dW s))):=by
 refine VC.body func78 rfl ntmps78 aQ fun X0 w0 bg=>?_;exact Vz
theorem qZ(s:ByteArray):VP Tryz.prog G 117 [bn s] (.agg (cT (bG s))):=by
 refine VC.body func117 rfl ntmps117 aQ fun X0 w0 bg=>?_;exact Vz
theorem AZ:(Tryz.prog.info? 137).map (fun i=>(i.zero,i.size,i.bytes))=some (some (.agg #[.int .i64 0,.string ⟨#[]⟩,.int .i64 0]),3,32):=by kernel_rfl
theorem y9(l:List ByteArray)(hl:l.length≤10):VC Tryz.prog G 73 [av 1 cS l] [] (gm cT 137 3 (l.map bG)):=by
 refine VC.body func73 rfl ntmps73 aQ fun X0 w0 bg=>?_;have dz:=ei;refine af [0] ?_;refine bY ?_;refine bf [0,3] ?_;refine af [3,6,7,8] ?_;refine CD.block ?_;refine mV (fun (E:Nat×Option Addr×Nat×List ah) aH=>match E with|(i,O,U,Sa)=>(i≤l.length)∧(bp 137 3 (((l.take i).map bG).flatMap cT) ((l.take i).map bG).length O U Sa)∧aH=(⟨19,[(3,aP O ((l.take i).map bG).length U),(6,av 1 cS l),(7,ae (l.length:Nat)),(8,ae (i:Nat))],(Sa)⟩:St)) (fun (E:Nat×Option Addr×Nat×List ah)=>match E with|(i,O,U,Sa)=>l.length-i) (0,none,0,[]) ⟨(Nat.zero_le _),(bp.cast ik jN),rfl⟩ (aK (h:=by repeat (first|exact trivial|refine⟨(by (repeat (first|exact fB|(apply fU;focus (first|rfl|(simp;done)|(congr 2;omega)|(apply eL;exact tF bG aa)|(apply eL;simp;done)))|(apply fH;focus rfl)));done),?_⟩))) ?_;rintro⟨i,O,U,Sa⟩ _ ⟨hi,oH,rfl⟩;refine af [3,6,7,8,9] ?_;refine au ?_ ?_<;>intro aO bE
 ·have aa:i<l.length:=(by omega)
  refine af [3,5,6,7,8] ?_;refine dO 2 ?_;refine dV call117 (qZ l[i]) ?_;refine ev (cc 0 [_]) [.int .i64 0,.string ⟨#[]⟩,.int .i64 0] [_,_,_] zeroValue137 runUnderlying98 sizeOf137 (fun b15=>?_);refine fF 0 15 3 1 ?_;refine OD.en (ls:=((l.take i).map bG)) (new:=[bG l[i]]) (Sq:=Sa) iK lN ap rfl rfl underlying98 AZ rfl w7 ot oH (dg (A:=[])) ot bq (by have dz:=ei;(try simp only[length_append,length_cons,length_nil,length_map,length_take]);omega) (by have dz:=ei;(try simp only[length_append,length_cons,length_nil,length_map,length_take]);omega) (fun Z I aiS aiT=>?_);refine OD.perm (ee (S1:=[⟨Z,137,I*3,flatMap cT (((l.take i).map bG)++[bG l[i]])⟩]) (A:=[])) ?_;refine an 19 [3,6,7,8] ?_;refine cl [3,6,7,8] ?_;refine⟨((i+1),(some ⟨Z,0,none⟩),I,[⟨Z,137,I*3,flatMap cT (((l.take i).map bG)++[bG l[i]])⟩]),_,cz,(aK (h:=by repeat (first|exact trivial|refine⟨(by (repeat (first|exact fB|(apply fU;focus (first|rfl|(simp;done)|(congr 2;omega)|(apply eL;exact tF bG aa)|(apply eL;simp;done)))|(apply fH;focus rfl)));done),?_⟩))),w4,(bp.cast (bH aiS aiT) (by exact tF bG aa)),rfl⟩
 have fb:=JD bG (show l.length≤i by omega);refine af [2] ?_;refine aJ _ ?_;exact gm.cast (gm.mk oH) fb
theorem sA(l:List ByteArray)(hl:l.length≤10):VP Tryz.prog G 73 [av 1 cS l] (.list 3 ((l.map bG).flatMap cT) (l.map bG).length):=VC.wU iK (y9 l hl)
def kX(ts:List (List Tk)):Nat→List Tk
 | 0=>[dW ⟨#[40]⟩]
 | i+1=>kX ts i++(if i>0 then [dW ⟨#[44]⟩] else [])++ts.getD i []
def mi(ts:List (List Tk)):List Tk:=kX ts ts.length++[dW ⟨#[41]⟩]
theorem E2{ts:List (List Tk)}(h:∀x∈ts,x.length≤10):∀i,(kX ts i).length≤1+11*i
 | 0=>Nat.le_refl _
 | i+1=>by
  have E:=E2 h i;have h2:(ts.getD i []).length≤10:=by
   rw[getD_eq_getElem?_getD];cases hx:ts[i]? with
   | none=>exact Nat.zero_le _
   | some x=>exact h x (mem_of_getElem? hx)
  have h3:(if i>0 then [dW ⟨#[44]⟩] else []).length≤1:=(by split<;>simp)
  unfold kX;rw[length_append,length_append];omega
theorem IT(hi:i<ts.length)(h:0<i):(kX ts i++[dW ⟨#[44]⟩])++ts[i]=kX ts (i+1):=by
 rw[kX,if_pos h,getD_eq_getElem?_getD,getElem?_eq_getElem hi];rfl
theorem Ih(hi:i<ts.length)(h:¬0<i):kX ts i++ts[i]=kX ts (i+1):=by
 rw[kX,if_neg h,append_nil,getD_eq_getElem?_getD,getElem?_eq_getElem hi];rfl
theorem SS(ts:List (List Tk))(hl:ts.length≤10)(Mf:∀x∈ts,x.length≤10):VP Tryz.prog G 74 [av 1 cK ts] (.list 3 ((mi ts).flatMap cT) (mi ts).length):=by
 refine VC.body func74 rfl ntmps74 aQ fun X0 w0 bg=>?_;have dz:=ei;refine af [0] ?_;refine bY ?_;refine dV call78 (mZ ⟨#[40]⟩) ?_;refine ev (cc 0 [_]) [.int .i64 0,.string ⟨#[]⟩,.int .i64 0] [_,_,_] zeroValue137 runUnderlying98 sizeOf137 (fun b7=>?_);refine OD.perm (ee (S1:=[⟨b7,137,1*3,flatMap cT ([dW ⟨#[40]⟩])⟩]) (A:=[])) ?_;refine an 29 [0,3] ?_;refine af [3,8,9,10] ?_;refine CD.block ?_;refine mV (fun (E:Nat×Option Addr×Nat×List ah) aH=>match E with|(i,I,O,Sa)=>(i≤ts.length)∧(bp 137 3 ((kX ts i).flatMap cT) (kX ts i).length I O Sa)∧aH=(⟨29,[(3,aP I (kX ts i).length O),(8,av 1 cK ts),(9,ae (ts.length:Nat)),(10,ae (i:Nat))],(Sa)⟩:St)) (fun (E:Nat×Option Addr×Nat×List ah)=>match E with|(i,I,O,Sa)=>ts.length-i) (0,(some ⟨b7,0,none⟩),1,[⟨b7,137,1*3,flatMap cT ([dW ⟨#[40]⟩])⟩]) ⟨(Nat.zero_le _),(bp.cast (bH (g:=cT) (sz:=3) (e:=137) (ls:=[dW ⟨#[40]⟩]) (Nat.le_refl _) (show 1≤maxLen by decide)) (by rfl)),rfl⟩ (aK (h:=by repeat (first|exact trivial|refine⟨(by (repeat (first|exact fB|(apply fU;focus (first|rfl|(simp;done)|(congr 2;omega)|(apply eL;first|exact IT aa w4|exact Ih aa w4)|(apply eL;rfl)|(apply eL;simp;done)))|(apply fH;focus rfl)));done),?_⟩))) ?_;rintro⟨i,I,O,Sa⟩ _ ⟨hi,oH,rfl⟩;refine af [3,8,9,10,11] ?_;refine au ?_ ?_<;>intro aO bE
 ·have aa:i<ts.length:=(by omega)
  refine af [3,4,5,8,9,10] ?_;refine af [3,5,8,9,10,16] ?_;refine au ?_ ?_<;>intro aY cJ
  ·refine dO 1 ?_;refine dV call78 (mZ ⟨#[44]⟩) ?_;refine ev (cc 0 [_]) [.int .i64 0,.string ⟨#[]⟩,.int .i64 0] [_,_,_] zeroValue137 runUnderlying98 sizeOf137 (fun b19=>?_);refine fF 0 19 3 1 ?_;refine OD.en (ls:=(kX ts i)) (new:=[dW ⟨#[44]⟩]) (Sq:=Sa) iK lN ap rfl rfl underlying98 AZ rfl w7 ot oH (dg (A:=[])) ot bq w9 w9 (fun Nx U aiU aiV=>?_);refine OD.perm (ee (S1:=[⟨Nx,137,U*3,flatMap cT ((kX ts i)++[dW ⟨#[44]⟩])⟩]) (A:=[])) ?_;refine an 29 [3,5,8,9,10] ?_;refine dO 2 ?_;refine OD.pF (ls:=((kX ts i)++[dW ⟨#[44]⟩])) (new:=ts[i]) (Sq:=[⟨Nx,137,U*3,flatMap cT ((kX ts i)++[dW ⟨#[44]⟩])⟩]) iK lN ap rfl rfl underlying98 AZ rfl w7 runUnderlying98 sizeOf137 ot (bH aiU aiV) (dg (A:=[])) ot w9 w9 (fun Vf Vg WW Vh=>?_);exact WV
  refine dO 2 ?_;refine OD.pF (ls:=(kX ts i)) (new:=ts[i]) (Sq:=Sa) iK lN ap rfl rfl underlying98 AZ rfl w7 runUnderlying98 sizeOf137 ot oH (dg (A:=[])) ot w9 w9 (fun Vf Vg WW Vh=>?_);exact WV
 have ur:i=ts.length:=(by omega)
 have nr:kX ts i++[dW ⟨#[41]⟩]=mi ts:=(by unfold mi;rw[←ur])
 refine aD 1 ?_;refine dV call78 (mZ ⟨#[41]⟩) ?_;refine ev (cc 0 [_]) [.int .i64 0,.string ⟨#[]⟩,.int .i64 0] [_,_,_] zeroValue137 runUnderlying98 sizeOf137 (fun b27=>?_);refine fF 0 27 3 1 ?_;refine OD.en (ls:=(kX ts i)) (new:=[dW ⟨#[41]⟩]) (Sq:=Sa) iK lN ap rfl rfl underlying98 AZ rfl w7 ot oH (dg (A:=[])) ot bq w9 w9 (fun Nt Z aiW aiX=>?_);refine OD.perm (ee (S1:=[⟨Nt,137,Z*3,flatMap cT ((kX ts i)++[dW ⟨#[41]⟩])⟩]) (A:=[])) ?_;refine an 29 [2] ?_;refine CD.ic (t:=2) (Sq:=[⟨Nt,137,Z*3,flatMap cT ((kX ts i)++[dW ⟨#[41]⟩])⟩]) lk (bH aiW aiX) (cu iK _) (dg (A:=[])) ?_;refine aJ [] ?_;rw[nr];exact⟨rfl,rfl⟩
def js(v:Vl):List Tk :=
 if v.k=0 then [bG ⟨#[78,85,76,76]⟩]
 else if v.k=1 then [bG (if v.n=0 then ⟨#[70,65,76,83,69]⟩ else ⟨#[84,82,85,69]⟩)]
 else if v.k=3 then [⟨3,v.s,0⟩]
 else if v.n<0 then [dW ⟨#[45]⟩,⟨2,⟨#[]⟩,-v.n⟩] else [⟨2,⟨#[]⟩,v.n⟩]
def mW(v:Vl):Prop:=(v.k=1→v.n=0∨v.n=1)∧-9223372036854775807≤v.n∧v.n≤9223372036854775807
theorem Pv(v:Vl):0<(js v).length∧(js v).length≤2:=by
 unfold js;repeat' split
 all_goals exact⟨by simp,by simp⟩
def FW:List ByteArray:=[⟨#[]⟩,⟨#[]⟩,⟨#[]⟩,⟨#[]⟩,⟨#[]⟩,⟨#[]⟩,⟨#[61]⟩,⟨#[60]⟩,⟨#[43]⟩,⟨#[45]⟩,⟨#[42]⟩]
def zF(k:Int):Tk:=if k=3 then bG ⟨#[65,78,68]⟩ else if k=4 then bG ⟨#[79,82]⟩ else dW (FW.getD k.toNat ⟨#[]⟩)
theorem ahf{j:Nat}(h:j<11):(FW.map fun s=>D.v (.string s))[j*1]?=some (bn (FW[j]'h)):=by
 rw[Nat.mul_one,getElem?_map,getElem?_eq_getElem h];rfl
theorem OB(v:Vl)(h:mW v):VP Tryz.prog G 75 [.agg (cV v)] (.list 3 ((js v).flatMap cT) (js v).length):=by
 refine VC.body func75 rfl ntmps75 aQ fun X0 w0 bg=>?_;obtain⟨h1,h2,h3⟩:=h;unfold cV;refine bY ?_;refine OD.box (ds:=[_,_,_]) ap rfl rfl ot rfl rfl (fun b1=>?_);refine an 42 [1] ?_;refine af [1,3] ?_;refine au ?_ ?_<;>intro aO bE
 ·refine cX [2] (sA [⟨#[78,85,76,76]⟩] Am) ?_;exact G2
 refine af [1,9] ?_;refine au ?_ ?_<;>intro aY cJ
 ·have dP:v.k=1:=(by simpa using aY)
  obtain⟨j,hj,I⟩:∃j:Nat,v.n=(j:Int)∧j<2:=(by (rcases h1 dP with h|h;exact⟨0,h,by decide⟩;exact⟨1,h,by decide⟩))
  rw[hj];refine cZ [2] ?_;refine Ni (g:=cS) ([⟨#[70,65,76,83,69]⟩,⟨#[84,82,85,69]⟩]) ?_;refine aS 3 ?_ (h:=by exact(cU (mk:=Op.load 9) rfl ot (by exact qu (i:=j) gQ isAgg9 (by show j<2;omega) rfl)));refine di (sA [([⟨#[70,65,76,83,69]⟩,⟨#[84,82,85,69]⟩]:List ByteArray)[j]'(by show j<2;omega)] Am) ?_;refine bK ?_;exact G2
 refine af [1,20] ?_;refine au ?_ ?_<;>intro cm cW
 ·refine aD 3 ?_;refine ev (cc 0 [_]) [.int .i64 0,.string ⟨#[]⟩,.int .i64 0] [_,_,_] zeroValue137 runUnderlying98 sizeOf137 (fun E=>?_);refine OD.perm (ee (S1:=[⟨E,137,1*3,flatMap cT ([(⟨3,v.s,0⟩:Tk)])⟩]) (A:=[_])) ?_;refine an 42 [2] ?_;refine CD.ic (t:=2) (Sq:=[⟨E,137,1*3,flatMap cT ([(⟨3,v.s,0⟩:Tk)])⟩]) lk (bH (g:=cT) (sz:=3) (e:=137) (ls:=[(⟨3,v.s,0⟩:Tk)]) (Nat.le_refl _) (show 1≤maxLen by decide)) (cu iK _) (dg (A:=[_])) ?_;exact G2
 refine af [1,28] ?_;refine au ?_ ?_<;>intro da ek
 ·refine cZ [2] ?_;refine di (mZ ⟨#[45]⟩) ?_;refine aS 2 ?_ (h:=by exact(EJ rfl ot (J7 (wrap_i64 w4 w4))));refine bK ?_;exact G2
 refine aD 3 ?_;refine ev (cc 0 [_]) [.int .i64 0,.string ⟨#[]⟩,.int .i64 0] [_,_,_] zeroValue137 runUnderlying98 sizeOf137 (fun vN=>?_);refine OD.perm (ee (S1:=[⟨vN,137,1*3,flatMap cT ([(⟨2,⟨#[]⟩,v.n⟩:Tk)])⟩]) (A:=[_])) ?_;refine an 42 [2] ?_;refine CD.ic (t:=2) (Sq:=[⟨vN,137,1*3,flatMap cT ([(⟨2,⟨#[]⟩,v.n⟩:Tk)])⟩]) lk (bH (g:=cT) (sz:=3) (e:=137) (ls:=[(⟨2,⟨#[]⟩,v.n⟩:Tk)]) (Nat.le_refl _) (show 1≤maxLen by decide)) (cu iK _) (dg (A:=[_])) ?_;refine aJ [] ?_;refine⟨?_,rfl⟩;unfold js;first|(rw[if_pos bE];first|done|rfl)|(rw[if_neg bE,if_pos dP,hj];rcases j with _|_|j<;>first|rfl|omega)|(rw[if_neg bE,if_neg cJ,if_pos cW];first|done|rfl)|(rw[if_neg bE,if_neg cJ,if_neg cW,if_pos w4,show -v.n=0-v.n by omega];first|done|rfl)|(rw[if_neg bE,if_neg cJ,if_neg cW,if_neg w4];first|done|rfl)
theorem ZN(k:Int)(h:k=3∨k=4∨6≤k∧k≤10):VP Tryz.prog G 119 [ae k] (.agg (cT (zF k))):=by
 refine VC.body func119 rfl ntmps119 aQ fun X0 w0 bg=>?_;refine bY ?_;refine OD.alloc (ds:=[_,_,_]) ap rfl rfl zeroValue137 rfl (fun b2=>?_);refine an 14 [0,2] ?_;refine af [0,2,3] ?_;refine af [0,2,3,4] ?_;refine au ?_ ?_<;>intro aO bE
 ·refine bY ?_;refine dV call117 (qZ ⟨#[65,78,68]⟩) ?_;exact W5
 refine af [0,2,7] ?_;refine au ?_ ?_<;>intro aY cJ
 ·refine bY ?_;refine dV call117 (qZ ⟨#[79,82]⟩) ?_;exact W5
 have lZ:¬k=3:=(by simpa using aO)
 have x4:¬k=4:=(by simpa using aY)
 obtain⟨j,rfl⟩:∃j:Nat,k=(j:Int):=⟨k.toNat,by omega⟩
 have hj:j<11:=(by omega)
 refine bY ?_;refine bN (Ec (pl:=[(6,_),(7,_),(8,_),(9,_),(10,_)]) (ds:=[_,_,_,_,_,_,_,_,_,_,_]) rfl zeroValue215 runUnderlying215 sizeOf9 ⟨rfl,bP,rfl,bP,rfl,bP,rfl,bP,rfl,bP,trivial⟩ rfl rfl) ?_;refine aE 1 ?_;refine bN (ZA (j:=j) rfl ot ot runUnderlying215 sizeOf9 isAgg9 rfl hj (ahf hj)) ?_;refine dV call78 (mZ (FW[j]'hj)) ?_;refine aN 0 [_,_,_] sizeOf137 ?_;refine an 14 [2] ?_;refine aJ [] ?_;refine⟨?_,rfl⟩;unfold zF;first|(rw[if_neg lZ,if_neg x4,show((j:Nat):Int).toNat=j from rfl,getD_eq_getElem?_getD,getElem?_eq_getElem hj];rfl)|(rw[if_pos xS];rfl)|(rw[if_neg xS,if_pos vI];rfl)

def Df(q:List Tk):List D:=[av 3 cT q]
theorem OH:(Tryz.prog.info? 137).map (fun i=>(i.zero,i.size,i.bytes))=some (some (.agg #[.int .i64 0,.string ⟨#[]⟩,.int .i64 0]),3,32):=by kernel_rfl
theorem aaF(n:Nat)(h0:0<n)(hn:n≤100000):VC Tryz.prog G 118 [bA,ae (n:Nat)] [] (fun r S=>∃b cap,cap≤maxLen∧r=aP (some ⟨b,0,none⟩) 0 cap∧S=[⟨b,137,cap*3,[]⟩]):=by
 refine VC.body func118 rfl ntmps118 aQ fun X0 w0 bg=>?_;refine af [0,1] ?_;refine af [0,1,6] ?_;refine au ?_ ?_<;>intro aO bE
 ·exact absurd aO uw
 refine cZ [0,1] ?_;refine aS 2 ?_ (h:=by exact(Er rfl rfl ot runUnderlying98));refine aS 1 ?_ (h:=by exact(cU (mk:=fun y=>.call {callee:=.builtin .len,args:=#[y],argTypes:=#[98]}) rfl ot (Su rfl runUnderlying98)));refine bK ?_;refine af [0,1,16] ?_;refine au ?_ ?_<;>intro aY cJ
 ·refine dO 2 ?_;refine bN (Er rfl rfl ot runUnderlying98) ?_;refine bN (Ea rfl ot rfl ⟨_,_,ot,rfl⟩ runUnderlying98 sizeOf137) ?_;refine aE 1 ?_;refine OD.ace (m:=n) (sz:=3) ap rfl rfl underlying98 underlying3 OH rfl w7 ot (Eq.trans ot (congrArg (fun z=>D.v (.int .i64 z)) (show((n:Nat):Int)-(0-0)=((n:Nat):Int) by omega))) h0 F9 w4 (fun b cap h1 h2=>?_);refine aE 1 ?_;refine bN (cU (mk:=fun y=>.call {callee:=.builtin .len,args:=#[y],argTypes:=#[98]}) rfl ot (Su rfl runUnderlying98)) ?_;refine bN (eA (l:=0) (h:=0) rfl ot trivial ⟨_,ot⟩ (by first|exact oR (fun h=>by cases h) runUnderlying98 sizeOf137 w4|exact n9 (fun _=>rfl) (fun h=>by cases h) runUnderlying98 sizeOf137 w4 w4)) ?_;refine an 27 [0] ?_;refine af [4] ?_;refine aJ [⟨b,137,cap*3,[]⟩] ?_;exact⟨b,cap,h2,rfl,rfl⟩
 exact absurd aY (by simp at aY;omega)
theorem Zp(ls:List (List Tk))(XW:ls.length≤1000)(h0:0<ls.flatten.length)(hn:ls.flatten.length≤100000):VC Tryz.prog G 77 [av 1 Df ls] [] (fun r S=>∃ad cap,r=aP ad ls.flatten.length cap∧bp 137 3 (ls.flatten.flatMap cT) ls.flatten.length ad cap S):=by
 refine VC.body func77 rfl ntmps77 aQ fun X0 w0 bg=>?_;refine af [0] ?_;refine af [0,3] ?_;refine af [0,3,9,10,11] ?_;refine CD.block ?_;refine mV (fun (j:Nat) aH=>(j≤ls.length)∧aH=(⟨36,[(0,av 1 Df ls),(3,ae ((((ls.take j).flatten).length:Nat):Int)),(9,av 1 Df ls),(10,ae (ls.length:Nat)),(11,ae (j:Nat))],[]⟩:St)) (fun (j:Nat)=>ls.length-j) 0 ⟨(Nat.zero_le _),rfl⟩ (aK (h:=by repeat (first|exact trivial|refine⟨(by (repeat (first|exact fB|(apply fU;focus (first|rfl|(congr 2;omega)|(simp;done)))|(apply fH;focus rfl)));done),?_⟩))) ?_;rintro j _ ⟨hj,rfl⟩;refine af [0,3,9,10,11,12] ?_;refine au ?_ ?_<;>intro aO bE
 ·have aa:j<ls.length:=(by simp at aO;omega)
  have O:=Ow aa;have hle:=OA ls (j+1);refine af [0,3,5,9,10,11] ?_;refine cZ [0,3,9,10,11] ?_;refine aS 3 ?_ (h:=by exact(dw (r:=.int .i64 ((((ls.take (j+1)).flatten).length:Nat):Int)) rfl ot ot (kx (by rw[show((((ls.take j).flatten).length:Nat):Int)+(ls[j].length:Nat)=((((ls.take (j+1)).flatten).length:Nat):Int) by omega];exact wrap_i64 w4 w4))));refine bK ?_;refine af [0,3,9,10,11,20] ?_;refine au ?_ ?_<;>intro aY cJ
  ·exact absurd aY (by simp at aY;omega)
  refine cl [0,3,9,10,11] ?_;refine⟨(j+1),_,cz,(aK (h:=by repeat (first|exact trivial|refine⟨(by (repeat (first|exact fB|(apply fU;focus (first|rfl|(congr 2;omega)|(simp;done)))|(apply fH;focus rfl)));done),?_⟩))),w4,rfl⟩
 obtain rfl:j=ls.length:=(by simp at aO;omega)
 rw[take_length];refine aD 1 ?_;refine OD.call ap rfl rfl rfl call118 (aaF ls.flatten.length h0 hn) ⟨bP,ot,trivial⟩ (Perm.refl _) ?_;rintro _ _ ⟨b,cp,rO,rfl,rfl⟩;refine OD.perm (Perm.refl _) ?_;refine an 36 [0,6] ?_;refine af [6,25,26,27] ?_;refine CD.block ?_;refine mV (fun (E:Nat×Option Addr×Nat×List ah) aH=>match E with|(j,dr,cY,Sx)=>(j≤ls.length)∧(bp 137 3 (((ls.take j).flatten).flatMap cT) ((ls.take j).flatten).length dr cY Sx)∧aH=(⟨36,[(6,aP dr ((ls.take j).flatten).length cY),(25,av 1 Df ls),(26,ae (ls.length:Nat)),(27,ae (j:Nat))],(Sx)⟩:St)) (fun (E:Nat×Option Addr×Nat×List ah)=>match E with|(j,dr,cY,Sx)=>ls.length-j) (0,(some ⟨b,0,none⟩),cp,[⟨b,137,cp*3,[]⟩]) ⟨(Nat.zero_le _),(bp.cast (aaE rO) (by rfl)),rfl⟩ (aK (h:=by repeat (first|exact trivial|refine⟨(by (repeat (first|exact fB|(apply fU;focus (first|rfl|(simp;done)|(congr 2;omega)|(apply eL;rw[Es aa])|(apply eL;rfl)|(apply eL;simp;done)))|(apply fH;focus rfl)));done),?_⟩))) ?_;rintro⟨j,dr,cY,Sx⟩ _ ⟨hj,dY,rfl⟩;refine af [6,25,26,27,28] ?_;refine au ?_ ?_<;>intro cm cW
 ·have aa:j<ls.length:=(by simp at cm;omega)
  have O:=Ow aa;have hle:=OA ls (j+1);refine af [6,8,25,26,27] ?_;refine dO 2 ?_;refine OD.pF (ls:=((ls.take j).flatten)) (new:=ls[j]) (Sq:=Sx) iK lN ap rfl rfl underlying98 OH rfl w7 runUnderlying98 sizeOf137 ot dY (dg (A:=[])) ot F9 w4 (fun U Z S33 aiY=>?_);refine OD.perm (ee (A:=[])) ?_;refine an 36 [6,25,26,27] ?_;refine cl [6,25,26,27] ?_;refine⟨((j+1),U,Z,S33),_,cz,(aK (h:=by repeat (first|exact trivial|refine⟨(by (repeat (first|exact fB|(apply fU;focus (first|rfl|(simp;done)|(congr 2;omega)|(apply eL;rw[Es aa])|(apply eL;rfl)|(apply eL;simp;done)))|(apply fH;focus rfl)));done),?_⟩))),w4,(bp.cast aiY (by rw[Es aa])),rfl⟩
 obtain rfl:j=ls.length:=(by simp at cm;omega)
 refine af [2] ?_;refine aJ Sx ?_;have I:=dY;rw[take_length] at I;exact⟨dr,cY,by rw[take_length],I⟩
theorem Et(ls:List (List Tk))(E:ls.length≤1000)(h0:0<ls.flatten.length)(hn:ls.flatten.length≤100000):VP Tryz.prog G 77 [av 1 Df ls] (av 3 cT ls.flatten):=VC.wU iK (Zp ls E h0 hn)
def sN(o:aX)(a b:List Tk):List Tk :=
 if o.k=1 then js o.v else if o.k=2 then [bG o.nm]
 else if o.k=5 then [[dW ⟨#[40]⟩,bG ⟨#[78,79,84]⟩],a,[dW ⟨#[41]⟩]].flatten
 else if o.k=11 then [[dW ⟨#[40]⟩],a,[bG ⟨#[73,83]⟩,bG ⟨#[78,85,76,76]⟩],[dW ⟨#[41]⟩]].flatten
 else [[dW ⟨#[40]⟩],a,[zF o.k],b,[dW ⟨#[41]⟩]].flatten
def eM(h:List (List Tk))(o:aX):Nat:=h.length-(bQ o.k).toNat
def oq(h:List (List Tk))(o:aX):List (List Tk):=h.take (eM h o)++[sN o (h.getD (eM h o) []) (h.getD (eM h o+1) [])]
def rj(l:List aX):List Tk:=(l.foldl oq []).getD 0 []
theorem aef{h:Int}(he:fh h o=0):1≤o.k∧o.k≤11∧iS o.v=0∧bQ o.k≤h:=by
 unfold fh at he;split at he
 ·cases he
 split at he
 ·exact absurd he uf
 split at he
 ·cases he
 split at he
 ·rename_i h4;exact absurd he h4.2
 split at he
 ·cases he
 exact⟨by omega,by omega,by omega,by omega⟩
theorem aeg{l:List aX}{h:Int}(hi:i<l.length)(he:fK h (l.drop i)=0):fh h l[i]=0:=by
 rw[drop_eq_getElem_cons hi,fK] at he;split at he
 ·assumption
 exact he
theorem Uk{v:Vl}(h:iS v=0)(h1:-9223372036854775808≤v.n)(h2:v.n≤9223372036854775807):mW v:=by
 unfold iS cD at h;split at h
 ·cases h
 have hn:¬(v.k=2∧v.n = -9223372036854775808):=(by assumption)
 repeat' split at h
 all_goals first|(exfalso;omega)|(unfold mW;refine⟨?_,?_,h2⟩<;>omega)
theorem QO(hp:bQ o.k≤(h.length:Int)):((oq h o).length:Int)=h.length+(1-bQ o.k):=by
 have:=tI o.k;unfold oq eM;rw[length_append,length_take];simp only[length_cons,length_nil];omega
theorem AW(h:List (List Tk))(n:Nat):h.flatten.length=(h.take n).flatten.length+(h.drop n).flatten.length:=by
 conv=>lhs;rw[←take_append_drop n h,flatten_append,length_append]
theorem uQ:(h.getD n []).length≤(h.drop n).flatten.length∧(h.getD n []).length+(h.getD (n+1) []).length≤(h.drop n).flatten.length:=by
 by_cases hn:n<h.length
 ·rw[drop_eq_getElem_cons hn];have e1:h.getD n []=h[n]:=(by rw[getD_eq_getElem?_getD,getElem?_eq_getElem hn];rfl)
  rw[e1,flatten_cons,length_append];refine⟨by omega,?_⟩;by_cases iX:n+1<h.length
  ·rw[drop_eq_getElem_cons iX,flatten_cons,length_append];have e2:h.getD (n+1) []=h[n+1]:=(by rw[getD_eq_getElem?_getD,getElem?_eq_getElem iX];rfl)
   rw[e2];omega
  have e2:h.getD (n+1) []=[]:=(by rw[getD_eq_getElem?_getD,getElem?_eq_none w4];rfl)
  rw[e2];simp only[length_nil];omega
 have e1:h.getD n []=[]:=(by rw[getD_eq_getElem?_getD,getElem?_eq_none w4];rfl)
 have e2:h.getD (n+1) []=[]:=(by rw[getD_eq_getElem?_getD,getElem?_eq_none w4];rfl)
 rw[e1,e2];exact⟨by simp,by simp⟩
theorem SU(o:aX)(a b:List Tk):(sN o a b).length≤a.length+b.length+5∧0<(sN o a b).length:=by
 have:=Pv o.v;unfold sN;repeat' split
 all_goals first|exact⟨by omega,by omega⟩|(simp only[flatten_cons,flatten_nil,length_append,length_cons,length_nil];exact⟨by omega,by omega⟩)
theorem Pw:(oq h o).flatten.length≤h.flatten.length+5:=by
 have h1:=AW h (eM h o);have h2:=(uQ (h:=h) (n:=eM h o)).2;have h3:=(SU o (h.getD (eM h o) []) (h.getD (eM h o+1) [])).1;unfold oq;rw[flatten_append,length_append];simp only[flatten_cons,flatten_nil,append_nil];omega
theorem aaG{l:List aX}(hi:i<l.length):(l.take (i+1)).foldl oq []=oq ((l.take i).foldl oq []) l[i]:=by
 rw[take_succ_eq_append_getElem hi,foldl_append];rfl
theorem Fe{e sz cap:Nat}{cs:List D}{ad:Option Addr}{S:List ah}(h:bp e sz cs n ad cap S)(hn:0<n):∃b,ad=some ⟨b,0,none⟩∧n≤cap∧cap≤maxLen∧S=[⟨b,e,cap*sz,cs⟩]:=by
 rcases h with ⟨h1,_⟩|h
 ·omega
 exact h
theorem mG{h:List α}{d:α}(hn:n<h.length):h.getD n d=h[n]:=by rw[getD_eq_getElem?_getD,getElem?_eq_getElem hn];rfl
theorem ZO:(Tryz.prog.info? 98).map (fun i=>(i.zero,i.size,i.bytes))=some (some (.slice none 0 0),1,24):=by kernel_rfl
theorem OU(l:List aX)(hl:l.length≤40)(he:fK 0 l=0)(hr:∀o∈l,-9223372036854775808≤o.v.n∧o.v.n≤9223372036854775807):VP Tryz.prog G 79 [av 5 cO l] (.list 3 ((rj l).flatMap cT) (rj l).length):=by
 refine VC.body func79 rfl ntmps79 aQ fun X0 w0 bg=>?_;have dz:=ei;refine af [0] ?_;refine bY ?_;refine bf [0,3] ?_;refine af [3,8,9,10] ?_;refine CD.block ?_;refine mV (fun (mq:Nat×List (List Tk)×Option Addr×Nat×List ah) aH=>match mq with|(i,H,AJ,kf,Sh)=>(i≤l.length)∧(H=(l.take i).foldl oq [])∧(fK ((H).length:Int) (l.drop i)=0)∧((H).length≤i)∧((H).flatten.length≤5*i)∧(bp 98 1 ((H).flatMap cK) (H).length AJ kf Sh)∧aH=(⟨90,[(3,aP AJ (H).length kf),(8,av 5 cO l),(9,ae (l.length:Nat)),(10,ae (i:Nat))],(Sh)⟩:St)) (fun (mq:Nat×List (List Tk)×Option Addr×Nat×List ah)=>match mq with|(i,H,AJ,kf,Sh)=>l.length-i) (0,[],none,0,[]) ⟨(Nat.zero_le _),rfl,he,(Nat.le_refl _),(Nat.le_refl _),(bp.cast ik (by rfl)),rfl⟩ (aK (h:=by repeat (first|exact trivial|refine⟨(by (repeat (first|exact fB|(apply fU;focus (first|rfl|(simp;done)|(congr 2;omega)|(apply eL;rw[hT];rfl)|(apply eL;rfl)|(apply eL;simp;done)))|(apply fH;focus rfl)));done),?_⟩))) ?_;rintro⟨i,H,AJ,kf,Sh⟩ _ ⟨hi,hH,hx,hHi,hHf,nS,rfl⟩;refine af [3,8,9,10,11] ?_;refine au ?_ ?_<;>intro aO bE
 ·have aa:i<l.length:=(by simp at aO;omega)
  have AH:=aeg aa hx;obtain⟨dP,VS,vl,G9⟩:=aef AH;have uI:=tI l[i].k;have Lw:l.length≤40:=hl;have aiZ:eM H l[i]≤H.length:=Nat.sub_le _ _;have ai0:=Uk vl (hr _ (getElem_mem aa)).1 (hr _ (getElem_mem aa)).2;refine aD 2 ?_;refine OD.alloc (ds:=[_,_,_,_,_]) ap rfl rfl zeroValue43 rfl (fun b5=>?_);refine aN 0 [_,_,_,_,_] sizeOf43 ?_;refine an 90 [3,5,8,9,10] ?_;refine cZ [3,5,6,8,9,10] ?_;refine di (yU l[i].k) ?_;refine aS 0 ?_ (h:=by exact(dw (r:=.int .i64 (((eM H l[i]):Nat):Int)) rfl ot ot (gj (by rw[show((H.length:Nat):Int)-bQ l[i].k=(((eM H l[i]):Nat):Int) by unfold eM;omega];exact wrap_i64 w4 w4))));refine bK ?_;refine af [3,5,6,8,9,10] ?_;refine jQ [6,8,9,10] (fun aW _ aH=>∃(Tx:List Tk),∃(ad:Option Addr),∃(cp:Nat),∃(Sx:List ah),(Tx=sN l[i] (H.getD (eM H l[i]) []) (H.getD (eM H l[i]+1) []))∧(bp 98 1 (H.flatMap cK) H.length ad cp Sx)∧aH=(⟨90,(3,aP ad H.length cp)::(7,av 3 cT Tx)::aW,Sx⟩:St)) ?_ ?_
  ·refine af [3,5,6,8,9,10,21] ?_;refine af [3,5,6,8,9,10,21,41] ?_;refine au ?_ ?_<;>intro aY cJ
   ·refine iv [3,6,7,8,9,10] ?_;refine di (OB l[i].v ai0) ?_;refine bK ?_;refine⟨_,aK,js l[i].v,AJ,kf,Sh,(by unfold sN;rw[if_pos cJ]),nS,rfl⟩
   refine af [3,5,6,8,9,10,21,46] ?_;refine au ?_ ?_<;>intro cm cW
   ·refine iv [3,6,7,8,9,10] ?_;refine di (sA [l[i].nm] Am) ?_;refine bK ?_;refine⟨_,aK,[bG l[i].nm],AJ,kf,Sh,(by unfold sN;rw[if_neg cJ,if_pos cW]),nS,rfl⟩
   refine af [3,5,6,8,9,10,21,52] ?_;refine au ?_ ?_<;>intro da ek
   ·have Dg:l[i].k=5:=(by simpa using da)
    have hp1:bQ l[i].k=1:=(by rw[Dg];decide)
    have hg1:=(uQ (h:=H) (n:=eM H l[i])).1;have hg2:=(uQ (h:=H) (n:=eM H l[i])).2;have hg3:=AW H (eM H l[i]);have U:0<H.length:=(by omega)
    obtain⟨bh,E,I,O,Z⟩:=Fe nS U;subst E Z;have gN:eM H l[i]<H.length:=(by unfold eM;omega)
    rw[mG gN] at hg1 hg2;skip;refine iv [3,6,7,8,9,10] ?_;refine di (mZ ⟨#[40]⟩) ?_;refine di (qZ ⟨#[78,79,84]⟩) ?_;refine aS 4 ?_ (h:=by first|exact(cU (mk:=Op.load 98) rfl ot My)|exact(cU (mk:=Op.load 98) rfl ot Mx)|exact(cU (mk:=Op.load 98) rfl ot Mw));refine di (mZ ⟨#[41]⟩) ?_;refine di (Et ([[dW ⟨#[40]⟩,bG ⟨#[78,79,84]⟩],H[eM H l[i]],[dW ⟨#[41]⟩]]) MC Aa Aa) ?_;refine bK ?_;refine⟨_,aK,[[dW ⟨#[40]⟩,bG ⟨#[78,79,84]⟩],H[eM H l[i]],[dW ⟨#[41]⟩]].flatten,(some ⟨bh,0,none⟩),kf,[⟨bh,98,kf*1,H.flatMap cK⟩],(by unfold sN;rw[if_neg cJ,if_neg cW,if_pos ek,mG gN]),(bH I O),rfl⟩
   refine af [3,5,6,8,9,10,65] ?_;refine au ?_ ?_<;>intro ez fw
   ·have Dh:l[i].k=11:=(by simpa using ez)
    have hp1:bQ l[i].k=1:=(by rw[Dh];decide)
    have hg1:=(uQ (h:=H) (n:=eM H l[i])).1;have hg2:=(uQ (h:=H) (n:=eM H l[i])).2;have hg3:=AW H (eM H l[i]);have U:0<H.length:=(by omega)
    obtain⟨bh,E,I,O,Z⟩:=Fe nS U;subst E Z;have gN:eM H l[i]<H.length:=(by unfold eM;omega)
    rw[mG gN] at hg1 hg2;skip;refine iv [3,6,7,8,9,10] ?_;refine di (mZ ⟨#[40]⟩) ?_;refine aS 4 ?_ (h:=by first|exact(cU (mk:=Op.load 98) rfl ot My)|exact(cU (mk:=Op.load 98) rfl ot Mx)|exact(cU (mk:=Op.load 98) rfl ot Mw));refine di (sA [⟨#[73,83]⟩,⟨#[78,85,76,76]⟩] (by show 2≤10;decide)) ?_;refine di (mZ ⟨#[41]⟩) ?_;refine di (Et ([[dW ⟨#[40]⟩],H[eM H l[i]],[bG ⟨#[73,83]⟩,bG ⟨#[78,85,76,76]⟩],[dW ⟨#[41]⟩]]) MC Aa Aa) ?_;refine bK ?_;refine⟨_,aK,[[dW ⟨#[40]⟩],H[eM H l[i]],[bG ⟨#[73,83]⟩,bG ⟨#[78,85,76,76]⟩],[dW ⟨#[41]⟩]].flatten,(some ⟨bh,0,none⟩),kf,[⟨bh,98,kf*1,H.flatMap cK⟩],(by unfold sN;rw[if_neg cJ,if_neg cW,if_neg ek,if_pos fw,mG gN]),(bH I O),rfl⟩
   have hkb:¬l[i].k=1∧¬l[i].k=2∧¬l[i].k=5∧¬l[i].k=11:=⟨by simpa using aY,by simpa using cm,by simpa using da,by simpa using ez⟩
   have oF:bQ l[i].k=2:=(by unfold bQ;rw[if_neg w4,if_neg w4])
   have hg1:=(uQ (h:=H) (n:=eM H l[i])).1;have hg2:=(uQ (h:=H) (n:=eM H l[i])).2;have hg3:=AW H (eM H l[i]);have U:0<H.length:=(by omega)
   obtain⟨bh,E,I,O,Z⟩:=Fe nS U;subst E Z;have gN:eM H l[i]<H.length:=(by unfold eM;omega)
   have gv:eM H l[i]+1<H.length:=(by unfold eM;omega)
   rw[mG gN,mG gv] at hg2;rw[mG gN] at hg1;refine iv [3,6,7,8,9,10] ?_;refine di (mZ ⟨#[40]⟩) ?_;refine aS 4 ?_ (h:=by first|exact(cU (mk:=Op.load 98) rfl ot My)|exact(cU (mk:=Op.load 98) rfl ot Mx)|exact(cU (mk:=Op.load 98) rfl ot Mw));refine di (ZN l[i].k w4) ?_;refine aS 3 ?_ (h:=by exact(dw (r:=.int .i64 ((((eM H l[i])+1:Nat)):Int)) rfl ot bP (kx (by rw[show(((eM H l[i]):Nat):Int)+1=(((eM H l[i])+1:Nat):Int) by omega];exact wrap_i64 w4 w4))));refine aS 1 ?_ (h:=by first|exact(cU (mk:=Op.load 98) rfl ot (by exact jb (k:=0) (i:=((eM H l[i])+1)) gl rfl rfl rfl isAgg98 gv rfl))|exact(cU (mk:=Op.load 98) rfl ot (by exact jb (k:=1) (i:=((eM H l[i])+1)) gl rfl rfl rfl isAgg98 gv rfl))|exact(cU (mk:=Op.load 98) rfl ot (by exact jb (k:=2) (i:=((eM H l[i])+1)) gl rfl rfl rfl isAgg98 gv rfl)));refine di (mZ ⟨#[41]⟩) ?_;refine di (Et ([[dW ⟨#[40]⟩],H[eM H l[i]],[zF l[i].k],H[eM H l[i]+1],[dW ⟨#[41]⟩]]) MC Aa Aa) ?_;refine bK ?_;refine⟨_,aK,[[dW ⟨#[40]⟩],H[eM H l[i]],[zF l[i].k],H[eM H l[i]+1],[dW ⟨#[41]⟩]].flatten,(some ⟨bh,0,none⟩),kf,[⟨bh,98,kf*1,H.flatMap cK⟩],(by unfold sN;rw[if_neg cJ,if_neg cW,if_neg ek,if_neg fw,mG gN,mG gv]),(bH I O),rfl⟩
  rintro _ ⟨Tx,ad,cp,Sx,hT,dY,rfl⟩;have hTl:=SU l[i] (H.getD (eM H l[i]) []) (H.getD (eM H l[i]+1) []);refine dO 3 ?_;refine bN (YW dY rfl ot ot ot runUnderlying130 sizeOf98 (by unfold eM;omega)) ?_;refine aE 1 ?_;refine ev (cc 0 [_]) [.slice none 0 0] [_] zeroValue98 runUnderlying130 sizeOf98 (fun b84=>?_);refine fF 0 84 1 1 ?_;refine OD.ZI (ls:=H) (new:=[Tx]) (n:=eM H l[i]) (Sq:=Sx) gl pM ap rfl rfl underlying130 ZO rfl w7 ot dY (dg (A:=[])) (by unfold eM;omega) ot bq (by simp only[maxLen,length_cons,length_nil];omega) (by simp only[length_cons,length_nil];omega) (fun Ny Lx ai3 ai4=>?_);refine OD.perm (ee (S1:=[⟨Ny,98,Lx*1,flatMap cK (H.take (eM H l[i])++[Tx])⟩]) (A:=[])) ?_;refine an 90 [3,8,9,10] ?_;refine cl [3,8,9,10] ?_;refine⟨((i+1),(oq H l[i]),(some ⟨Ny,0,none⟩),Lx,[⟨Ny,98,Lx*1,flatMap cK (H.take (eM H l[i])++[Tx])⟩]),_,cz,(aK (h:=by repeat (first|exact trivial|refine⟨(by (repeat (first|exact fB|(apply fU;focus (first|rfl|(simp;done)|(congr 2;omega)|(apply eL;rw[hT];rfl)|(apply eL;rfl)|(apply eL;simp;done)))|(apply fH;focus rfl)));done),?_⟩))),w4,(by rw[hH,←aaG aa]),(by rw[QO G9,←Ql aa AH];exact hx),(by have:=QO G9;omega),(by have:=Pw (h:=H) (o:=l[i]);omega),(bp.cast (bH ai3 ai4) (by rw[hT];rfl)),rfl⟩
 have ur:l.length≤i:=(by simp at aO;omega)
 have fb:=hx;rw[Ps ur] at fb;have hH1:H.length=1:=(by (split at fb;omega;cases fb))
 refine CD.exit ?_;refine CD.seq ?_;obtain⟨bh,E,I,O,Z⟩:=Fe nS (show 0<H.length by omega);subst E Z;have gN:0<H.length:=(by omega)
 refine iv [2] ?_;refine aS 1 ?_ (h:=by exact(so (mk:=Op.indexAddr 130) rfl ot bP (by first|exact tO runUnderlying130 sizeOf98 (j:=0) rfl (by first|exact gN|exact gv)|exact tX runUnderlying130 sizeOf98 (j:=0) rfl (by first|exact gN|exact gv))));refine aS 0 ?_ (h:=by first|exact(cU (mk:=Op.load 98) rfl ot (by exact jb (k:=0) (i:=0) gl rfl rfl rfl isAgg98 gN rfl))|exact(cU (mk:=Op.load 98) rfl ot (by exact jb (k:=1) (i:=0) gl rfl rfl rfl isAgg98 gN rfl))|exact(cU (mk:=Op.load 98) rfl ot (by exact jb (k:=2) (i:=0) gl rfl rfl rfl isAgg98 gN rfl)));refine bK ?_;refine aJ [] ?_;refine⟨?_,rfl⟩;unfold rj;rw[show l.foldl oq []=H by rw[hH,take_of_length_le ur],mG gN]

end Go.Proofs.YtdgichenhdikgaaGreatDoor.Pa
namespace Go.Proofs.YtdgichenhdikgaaGreatDoor.Pa

open List
open Go.Proofs.Tryz
open Go.RowKit V Pk Vl Go.Proofs.YtdgichenhdikgaaGreatDoor.Nm Pc
variable {G:List (Nat×List Value)}
variable {α:Type} {i:Nat} {E:List ByteArray}
def bU(s:cA):List D:=[ae s.kind,bn s.table,av 2 cC s.az,av 3 cV s.row,av 1 cS s.names,bS s.count,av 5 cO s.aj,bn s.order,bS s.down,ae s.iq,bn s.set,av 5 cO s.bV]
def okS(s:cA):Prop:=s.az.length≤6∧s.row.length≤6∧s.names.length≤6∧s.aj.length≤40∧s.bV.length≤40

def jT{α:Type}(f:α→Int):List α→Int
 | []=>0
 | a::r=>if f a≠0 then f a else jT f r
theorem QR{f:α→Int}{l:List α}(hi:i<l.length)(h:f l[i]≠0):jT f (l.drop i)=f l[i]:=by rw[drop_eq_getElem_cons hi,jT,if_pos h]
theorem QS{f:α→Int}{l:List α}(hi:i<l.length)(h:f l[i]=0):jT f (l.drop i)=jT f (l.drop (i+1)):=by rw[drop_eq_getElem_cons hi,jT,if_neg (by rw[h];decide)]
theorem Px{f:α→Int}{l:List α}(hi:l.length≤i):jT f (l.drop i)=0:=by rw[drop_of_length_le hi];rfl
def ec(l:List Vl):Int:=if l.length<1∨l.length>6 then 1 else jT iS l
def nH(l:List aX):Int:=if l.length=0 then 0 else iR l
def oT(s:cA):Int :=
 if s.names.length>6 then 1 else if s.iq < -1 then 3
 else if (s.count=true∧0<s.names.length)∨(s.down=true∧jl s.order ⟨#[]⟩=true) then 6
 else if jT cL s.names≠0 then jT cL s.names else if nH s.aj≠0 then nH s.aj else if jl s.order ⟨#[]⟩=true then 0 else cL s.order
def jF(s h:cA):Bool:=jl s.table h.table&&(((s.az.length:Int)==(h.az.length:Int))&&(((s.row.length:Int)==(h.row.length:Int))&&(((s.names.length:Int)==(h.names.length:Int))&&((s.count==h.count)&&(((s.aj.length:Int)==(h.aj.length:Int))&&(jl s.order h.order&&((s.down==h.down)&&((s.iq==h.iq)&&(jl s.set h.set&&((s.bV.length:Int)==(h.bV.length:Int)))))))))))
structure jM (s:cA):Prop where
 ok:okS s
 t:s.table.size≤maxLen
 c:∀c∈s.az,c.n.size≤maxLen
 n:∀x∈s.names,x.size≤maxLen
 o:s.order.size≤maxLen
 e:s.set.size≤maxLen
 r:∀v∈s.row,-9223372036854775808≤v.n∧v.n≤9223372036854775807
 w:∀o∈s.aj,o.nm.size≤maxLen∧-9223372036854775808≤o.v.n∧o.v.n≤9223372036854775807
 x:∀o∈s.bV,o.nm.size≤maxLen∧-9223372036854775808≤o.v.n∧o.v.n≤9223372036854775807
def kE(l:List aX):List Tk:=if l.length=0 then [] else [⟨#[87,72,69,82,69]⟩].map bG++rj l
theorem Qm(hm:(3,marksC)∈G)(hw:(1,wordsC)∈G)(l:List ByteArray)(hl:l.length≤1000)(hs:∀s∈l,s.size≤maxLen):VP Tryz.prog G 115 [av 1 cS l] (ae (jT cL l)):=by
 refine VC.body func115 rfl ntmps115 aQ fun X0 w0 bg=>?_;refine af [0] ?_;refine af [6,7,8] ?_;refine eD [6,7] (fun aW _ (i:Nat) aH=>(i≤l.length)∧(jT cL l=jT cL (l.drop i))∧aH=(⟨18,(8,ae (i:Nat))::aW,[]⟩:St)) (fun (i:Nat)=>l.length-i) 0 ⟨(Nat.zero_le _),rfl,rfl⟩ ?_;rintro i _ ⟨hi,hx,rfl⟩;refine af [6,7,8,9] ?_;refine au ?_ ?_<;>intro aO bE
 ·have aa:i<l.length:=(by simp at aO;omega)
  refine af [4,6,7,8] ?_;refine cX [5,6,7,8] (tK hm hw l[i] (hs _ (getElem_mem aa))) ?_;refine af [5,6,7,8,15] ?_;refine au ?_ ?_<;>intro aY cJ
  ·have hn:cL l[i]≠0:=(by simpa using aY)
   have fb:=hx.trans (QR aa hn);refine af [2] ?_;exact Av
  have h0:cL l[i]=0:=(by simpa using aY)
  refine cl [6,7,8] ?_;refine⟨(i+1),_,cz,aK,w4,(hx.trans (QS aa h0)),rfl⟩
 have fb:jT cL l=0:=hx.trans (Px uw);refine af [2] ?_;exact z93
theorem aeh(l:List Vl)(hl:l.length≤1000):VP Tryz.prog G 68 [av 3 cV l] (ae (ec l)):=by
 refine VC.body func68 rfl ntmps68 aQ fun X0 w0 bg=>?_;have O:(l.length<1∨l.length>6)∨¬(l.length<1∨l.length>6):=(by omega)
 refine af [0] ?_;refine aD 4 ?_;refine bW 9 (fun I E=>?_) (fun I E=>?_)
 ·refine bf [0,13] ?_;refine eI ?_;exact Vo
 refine bf [0,13] ?_;refine au ?_ ?_<;>intro aO bE
 ·exact Vo
 have hf:ec l=jT iS l:=if_neg w4;refine af [14,15,16] ?_;refine eD [14,15] (fun aW _ (i:Nat) aH=>(i≤l.length)∧(jT iS l=jT iS (l.drop i))∧aH=(⟨26,(16,ae (i:Nat))::aW,[]⟩:St)) (fun (i:Nat)=>l.length-i) 0 ⟨(Nat.zero_le _),rfl,rfl⟩ ?_;rintro i _ ⟨hi,hx,rfl⟩;refine af [14,15,16,17] ?_;refine au ?_ ?_<;>intro aY cJ
 ·have aa:i<l.length:=(by simp at aY;omega)
  refine aD 2 ?_;refine OD.alloc (ds:=[_,_,_]) ap rfl rfl zeroValue41 rfl (fun b4=>?_);refine aN 0 [_,_,_] sizeOf41 ?_;refine an 26 [4,14,15,16] ?_;refine cX [5,14,15,16] (Nm.OQ l[i]) ?_;refine af [5,14,15,16,23] ?_;refine au ?_ ?_<;>intro cm cW
  ·have hn:iS l[i]≠0:=(by simpa using cm)
   have fb:=hf.trans (hx.trans (QR aa hn));refine af [2] ?_;exact Av
  have h0:iS l[i]=0:=(by simpa using cm)
  refine cl [14,15,16] ?_;refine⟨(i+1),_,cz,aK,w4,(hx.trans (QS aa h0)),rfl⟩
 have fb:ec l=0:=hf.trans (hx.trans (Px (by simp at aY;omega)));refine af [2] ?_;exact z93
theorem El(hm:(3,marksC)∈G)(hw:(1,wordsC)∈G)(l:List aX)(hs:∀o∈l,o.nm.size≤maxLen):VP Tryz.prog G 71 [av 5 cO l] (ae (nH l)):=by
 refine VC.body func71 rfl ntmps71 aQ fun X0 w0 bg=>?_;refine af [0] ?_;refine af [0,5] ?_;refine au ?_ ?_<;>intro aO bE
 ·have fb:nH l=0:=if_pos uw;refine af [2] ?_;exact Av
 have fb:nH l=iR l:=if_neg uw;refine cX [2] (JA hm hw l hs) ?_;exact z93
theorem acm(hm:(3,marksC)∈G)(hw:(1,wordsC)∈G)(s:cA)(hf:jM s):VP Tryz.prog G 69 [.agg (bU s)] (ae (oT s)):=by
 refine VC.body func69 rfl ntmps69 aQ fun X0 w0 bg=>?_;unfold bU;refine bY ?_;refine OD.box (ds:=[_,_,_,_,_,_,_,_,_,_,_,_]) ap rfl rfl ot rfl rfl (fun b1=>?_);refine an 50 [1] ?_;refine af [1,5] ?_;refine au ?_ ?_<;>intro aO bE
 ·refine af [2] ?_;refine aJ [] ?_;exact WD
 refine af [1,10] ?_;refine au ?_ ?_<;>intro aY cJ
 ·refine af [2] ?_;refine aJ [] ?_;exact WD
 refine aD 3 ?_;refine bW 17 (fun xw wS=>?_) (fun xw wS=>?_)
 ·refine aE 6 ?_;refine bW 23 (fun U O=>?_) (fun U O=>?_)
  ·refine bf [1,14] ?_;refine eI ?_;refine af [2] ?_;exact z24
  refine aE 3 ?_;refine bW 26 (fun I E=>?_) (fun I E=>?_)
  ·exact VD
  refine bf [1,14] ?_;refine fN ?_;exact z20
 refine x5 4 ?_;refine aE 5 ?_;refine bW 26 (fun I E=>?_) (fun I E=>?_)
 ·exact VD
 refine bf [1,14] ?_;refine fN ?_;refine cX [1,3] (Qm hm hw s.names (by have:=hf.ok.2.2.1;omega) hf.n) ?_;refine af [1,3,36] ?_;refine au ?_ ?_<;>intro da ek
 ·refine af [2] ?_;exact z24
 refine cX [1,4] (El hm hw s.aj (fun o h=>(hf.w o h).1)) ?_;refine af [1,4,42] ?_;refine au ?_ ?_<;>intro ez fw
 ·refine af [2] ?_;exact z24
 refine af [1,46] ?_;refine au ?_ ?_<;>intro fg gB
 ·refine cX [2] (tK hm hw s.order hf.o) ?_;exact z24
 refine af [2] ?_;refine eO ?_;refine⟨vi ?_,rfl⟩;unfold oT jl;simp_all;all_goals (try (intros;(repeat' split)<;>first|rfl|omega))
theorem aei(s h:cA):VP Tryz.prog G 72 [.agg (bU s),.agg (bU h)] (bS (jF s h)):=by
 refine VC.body func72 rfl ntmps72 aQ fun X0 w0 bg=>?_;unfold bU;refine bY ?_;refine OD.box (ds:=[_,_,_,_,_,_,_,_,_,_,_,_]) ap rfl rfl ot rfl rfl (fun b2=>?_);refine OD.box (ds:=[_,_,_,_,_,_,_,_,_,_,_,_]) ap rfl rfl ot rfl rfl (fun b3=>?_);refine an 90 [2,3] ?_;refine aD 6 ?_;refine bW 10 (fun ai5 E=>?_) (fun ai5 E=>?_)
 ·refine aE 9 ?_;refine bW 19 (fun Ly I=>?_) (fun Ly I=>?_)
  ·refine aE 9 ?_;refine bW 28 (fun ai6 O=>?_) (fun ai6 O=>?_)
   ·refine aE 9 ?_;refine bW 37 (fun ai7 U=>?_) (fun ai7 U=>?_)
    ·refine aE 4 ?_;refine OD.still iw rfl (dw rfl ot ot (EH underlying4)) ?_;refine aE 2 ?_;refine bW 44 (fun ai8 Z=>?_) (fun ai8 Z=>?_)
     ·refine aE 9 ?_;refine bW 53 (fun Lz KK=>?_) (fun Lz KK=>?_)
      ·refine aE 7 ?_;refine bW 60 (fun ai9 KL=>?_) (fun ai9 KL=>?_)
       ·refine aE 4 ?_;refine OD.still iw rfl (dw rfl ot ot (EH underlying4)) ?_;refine aE 2 ?_;refine bW 67 (fun aja ahg=>?_) (fun aja ahg=>?_)
        ·refine aE 7 ?_;refine bW 74 (fun ajb ahh=>?_) (fun ajb ahh=>?_)
         ·refine aE 7 ?_;refine bW 81 (fun ajc ahi=>?_) (fun ajc ahi=>?_)
          ·exact z46
          exact z46
         exact z46
        exact z46
       exact z46
      exact z46
     exact z46
    refine bf [4] ?_;refine eO ?_;exact MM
   refine bf [4] ?_;refine eO ?_;exact MM
  refine bf [4] ?_;refine eO ?_;exact MM
 refine bf [4] ?_;refine eO ?_;refine⟨vb ?_,rfl⟩;unfold jF jl;simp_all;all_goals (try (intros;omega))
theorem Zq:(Tryz.prog.info? 137).map (fun i=>(i.zero,i.size,i.bytes))=some (some (.agg #[.int .i64 0,.string ⟨#[]⟩,.int .i64 0]),3,32):=by kernel_rfl
theorem HP(l:List aX)(hl:l.length≤40)(he:l.length=0∨fK 0 l=0)(hr:∀o∈l,-9223372036854775808≤o.v.n∧o.v.n≤9223372036854775807)(hsl:(rj l).length≤1000):VP Tryz.prog G 80 [av 5 cO l] (.list 3 ((kE l).flatMap cT) (kE l).length):=by
 refine VC.body func80 rfl ntmps80 aQ fun X0 w0 bg=>?_;refine af [0] ?_;refine af [0,5] ?_;refine au ?_ ?_<;>intro aO bE
 ·have fb:kE l=[]:=if_pos uw;refine af [2] ?_;refine CD.wk (Wk.tL (t:=2) (sz:=3) lk) ?_;exact Av
 have fb:kE l=[⟨#[87,72,69,82,69]⟩].map bG++rj l:=if_neg uw;have I:fK 0 l=0:=he.resolve_left uw;refine bY ?_;refine ev (cc 0 [_]) [.string ⟨#[]⟩] [_] zeroValue9 runUnderlying29 sizeOf9 (fun b6=>?_);refine OD.perm (ee (S1:=[⟨b6,9,1*1,flatMap cS ([⟨#[87,72,69,82,69]⟩])⟩]) (A:=[])) ?_;refine OD.ic (t:=6) (Sq:=[⟨b6,9,1*1,flatMap cS ([⟨#[87,72,69,82,69]⟩])⟩]) lk (bH (g:=cS) (sz:=1) (e:=9) (ls:=[⟨#[87,72,69,82,69]⟩]) (Nat.le_refl _) (show 1≤maxLen by decide)) (cu gQ _) (dg (A:=[])) ?_;refine OD.call ap rfl rfl rfl call73 (y9 [⟨#[87,72,69,82,69]⟩] Am) ⟨ot,trivial⟩ (eR _) ?_;rintro _ S7 ⟨XY,XZ,rfl,qa⟩;refine OD.perm (S':=S7) (append_nil _ ▸ Perm.refl _) ?_;refine aE 1 ?_;refine dV call79 (OU l hl I hr) ?_;refine OD.pF (ls:=([⟨#[87,72,69,82,69]⟩].map bG)) (new:=(rj l)) (Sq:=S7) iK lN ap rfl rfl underlying98 Zq rfl w7 runUnderlying98 sizeOf137 ot qa (dg (A:=[])) ot (by simp only[maxLen,length_map,length_cons,length_nil];omega) (by simp only[length_map,length_cons,length_nil];omega) (fun U Z O E=>?_);refine OD.perm (ee (A:=[])) ?_;refine an 11 [2] ?_;refine CD.ic (t:=2) (Sq:=O) lk E (cu iK _) (dg (A:=[])) ?_;exact z93

def rz(s:cA):ByteArray:=if s.kind<7 then s.table else ⟨#[]⟩
def gI(s:cA):cA :=
 if s.kind=1 then {ga with kind:=s.kind,table:=(rz s),az:=s.az} else if s.kind=3 then {ga with kind:=s.kind,table:=(rz s),row:=s.row} else if s.kind=4 then {ga with kind:=s.kind,table:=(rz s),names:=s.names,count:=s.count,aj:=s.aj,order:=s.order,down:=s.down,iq:=s.iq} else if s.kind=5 then {ga with kind:=s.kind,table:=(rz s),set:=s.set,bV:=s.bV,aj:=s.aj} else if s.kind=6 then {ga with kind:=s.kind,table:=(rz s),aj:=s.aj} else {ga with kind:=s.kind,table:=(rz s)}
def iO(s:cA):Int :=
 if s.kind=1 then fI s.az else if s.kind=3 then ec s.row else if s.kind=4 then oT s
 else if s.kind=5 then (if cL s.set=0 then (if iR s.bV=0 then nH s.aj else iR s.bV) else cL s.set) else if s.kind=6 then nH s.aj else 0
def gd(s:cA):Int:=if s.kind<7∧cL s.table≠0 then cL s.table else if iO s=0∧jF s (gI s)=false then 6 else iO s
theorem aaH(hm:(3,marksC)∈G)(hw:(1,wordsC)∈G)(s:cA)(hf:jM s):VP Tryz.prog G 38 [.agg (bU s)] (ae (gd s)):=by
 refine VC.body func38 rfl ntmps38 aQ fun X0 w0 bg=>?_;have I:=acm hm hw s hf;unfold bU at I;unfold bU;refine bY ?_;refine OD.box (ds:=[_,_,_,_,_,_,_,_,_,_,_,_]) ap rfl rfl ot rfl rfl (fun b1=>?_);refine an 102 [1] ?_;refine aD 3 ?_;refine OD.alloc (ds:=[_,_,_,_,_,_,_,_,_,_,_,_]) ap rfl rfl zeroValue32 rfl (fun b3=>?_);refine aN 0 [_,_,_,_,_,_,_,_,_,_,_,_] sizeOf32 ?_;refine an 102 [1,3] ?_;refine jQ [1,3] (fun aW _ aH=>∃(tb:ByteArray),(tb=rz s)∧(¬(s.kind<7∧cL s.table≠0))∧aH=(⟨102,aW,[⟨b3,32,12,[ae s.kind,bn tb,.list 2 [] 0,.list 3 [] 0,.list 1 [] 0,bS false,.list 5 [] 0,eT,bS false,ae (-1),eT,.list 5 [] 0]⟩,⟨b1,32,12,[ae s.kind,bn s.table,av 2 cC s.az,av 3 cV s.row,av 1 cS s.names,bS s.count,av 5 cO s.aj,bn s.order,bS s.down,ae s.iq,bn s.set,av 5 cO s.bV]⟩]⟩:St)) ?_ ?_
 ·refine CD.seq ?_;refine CD.cells (k:=0) (cs':=[_,_,.list 2 [] 0,.list 3 [] 0,.list 1 [] 0,_,.list 5 [] 0,_,_,_,_,.list 5 [] 0]) (S':=[_,_]) rfl (by repeat (first|exact trivial|exact⟨dQ,trivial⟩|exact⟨fp,trivial⟩|refine⟨dQ,?_⟩|refine⟨fp,?_⟩)) rfl ?_;refine cl [1,3,11] ?_;refine au ?_ ?_<;>intro aO bE
  ·refine aD 3 ?_;refine aN 0 [_,_,_,_,_,_,_,_,_,_,_,_] sizeOf9 ?_;refine an 102 [1,3] ?_;refine cX [1,3,4] (tK hm hw s.table hf.t) ?_;refine af [1,3,4,19] ?_;refine au ?_ ?_<;>intro aY cJ
   ·have aV:gd s=cL s.table:=(by unfold gd;rw[if_pos ⟨bE,by simpa using aY⟩])
    exact MS
   have gN:cL s.table=0:=(by simpa using aY)
   have O:s.table=rz s:=(by unfold rz;rw[if_pos bE])
   have U:¬(s.kind<7∧cL s.table≠0):=fun h=>h.2 gN;refine CD.skip ?_;refine⟨_,aK,s.table,O,U,rfl⟩
  have O:(⟨#[]⟩:ByteArray)=rz s:=(by unfold rz;rw[if_neg w4])
  have U:¬(s.kind<7∧cL s.table≠0):=fun h=>by omega
  refine CD.skip ?_;refine⟨_,aK,⟨#[]⟩,O,U,rfl⟩
 rintro _ ⟨tb,sV,j9,rfl⟩;refine af [1,3,5] ?_;refine jQ [1,3] (fun aW _ aH=>∃(H:cA),∃(e:Int),(H=gI s)∧(e=iO s)∧aH=(⟨102,(5,ae e)::aW,[⟨b3,32,12,[ae H.kind,bn H.table,av 2 cC H.az,av 3 cV H.row,av 1 cS H.names,bS H.count,av 5 cO H.aj,bn H.order,bS H.down,ae H.iq,bn H.set,av 5 cO H.bV]⟩,⟨b1,32,12,[ae s.kind,bn s.table,av 2 cC s.az,av 3 cV s.row,av 1 cS s.names,bS s.count,av 5 cO s.aj,bn s.order,bS s.down,ae s.iq,bn s.set,av 5 cO s.bV]⟩]⟩:St)) ?_ ?_
 ·refine af [1,3,5,22] ?_;refine af [1,3,5,22,23] ?_;refine au ?_ ?_<;>intro cm cW
  ·refine aD 3 ?_;refine aN 0 [_,_,_,_,_,_,_,_,_,_,_,_] sizeOf27 ?_;refine an 102 [1,3] ?_;refine iv [1,3,5] ?_;refine di (aee hm hw s.az (by have:=hf.ok.1;simp only[maxLen];omega) hf.c) ?_;refine bK ?_;refine⟨_,aK,{ga with kind:=s.kind,table:=tb,az:=s.az},fI s.az,(by unfold gI;rw[if_pos cW,sV]),(by unfold iO;rw[if_pos cW]),rfl⟩
  refine af [1,3,5,22,31] ?_;refine au ?_ ?_<;>intro da ek
  ·refine aD 3 ?_;refine aN 0 [_,_,_,_,_,_,_,_,_,_,_,_] sizeOf28 ?_;refine an 102 [1,3] ?_;refine iv [1,3,5] ?_;refine di (aeh s.row (by have:=hf.ok.2.1;omega)) ?_;refine bK ?_;refine⟨_,aK,{ga with kind:=s.kind,table:=tb,row:=s.row},ec s.row,(by unfold gI;rw[if_neg cW,if_pos ek,sV]),(by unfold iO;rw[if_neg cW,if_pos ek]),rfl⟩
  refine af [1,3,5,22,39] ?_;refine au ?_ ?_<;>intro ez fw
  ·refine CD.seq ?_;refine fE 22 (aq (eraseIdx _ 0)) ?_ (fun _ h=>(Sublist.map _ (eraseIdx_sublist _ 0)).subset h);refine ay 0 rfl (dh 4) ?_;refine ay 1 rfl (dI 1) ?_;refine ay 2 rfl (dh 5) ?_;refine ay 3 rfl (dI 1) ?_;refine ay 4 rfl (dh 6) ?_;refine ay 5 rfl (dI 1) ?_;refine ay 6 rfl (dh 7) ?_;refine ay 7 rfl (dI 1) ?_;refine ay 8 rfl (dh 8) ?_;refine ay 9 rfl (dI 1) ?_;refine ay 10 rfl (dh 9) ?_;refine ay 11 rfl (dI 1) ?_;refine ay 12 rfl (dh 4) ?_;refine dm.later rfl ?_;refine AD.one (i:=13) aA ?_;refine dS 0 [_,_,_,_,_,_,_,_,_,_,_,_] sizeOf29 ?_;refine cr 14 rfl (dh 5) ?_;refine AD.one (i:=15) aA ?_;refine dS 0 [_,_,_,_,_,_,_,_,_,_,_,_] sizeOf4 ?_;refine cr 16 rfl (dh 6) ?_;refine AD.one (i:=17) aA ?_;refine dS 0 [_,_,_,_,_,_,_,_,_,_,_,_] sizeOf30 ?_;refine cr 18 rfl (dh 7) ?_;refine AD.one (i:=19) aA ?_;refine dS 0 [_,_,_,_,_,_,_,_,_,_,_,_] sizeOf9 ?_;refine cr 20 rfl (dh 8) ?_;refine AD.one (i:=21) aA ?_;refine dS 0 [_,_,_,_,_,_,_,_,_,_,_,_] sizeOf4 ?_;refine eE ?_;refine aE 1 ?_;refine aN 0 [_,_,_,_,_,_,_,_,_,_,_,_] sizeOf3 ?_;refine an 102 [1,3] ?_;refine iv [1,3,5] ?_;refine di (I) ?_;refine bK ?_;refine⟨_,aK,{ga with kind:=s.kind,table:=tb,names:=s.names,count:=s.count,aj:=s.aj,order:=s.order,down:=s.down,iq:=s.iq},oT s,(by unfold gI;rw[if_neg cW,if_neg ek,if_pos fw,sV]),(by unfold iO;rw[if_neg cW,if_neg ek,if_pos fw]),rfl⟩
  refine af [1,3,5,22,61] ?_;refine au ?_ ?_<;>intro fg gB
  ·refine CD.seq ?_;refine fE 10 (aq (eraseIdx _ 0)) ?_ (fun _ h=>(Sublist.map _ (eraseIdx_sublist _ 0)).subset h);refine ay 0 rfl (dh 10) ?_;refine ay 1 rfl (dI 1) ?_;refine ay 2 rfl (dh 11) ?_;refine ay 3 rfl (dI 1) ?_;refine ay 4 rfl (dh 6) ?_;refine ay 5 rfl (dI 1) ?_;refine ay 6 rfl (dh 10) ?_;refine dm.later rfl ?_;refine AD.one (i:=7) aA ?_;refine dS 0 [_,_,_,_,_,_,_,_,_,_,_,_] sizeOf9 ?_;refine cr 8 rfl (dh 11) ?_;refine AD.one (i:=9) aA ?_;refine dS 0 [_,_,_,_,_,_,_,_,_,_,_,_] sizeOf30 ?_;refine eE ?_;refine aE 1 ?_;refine aN 0 [_,_,_,_,_,_,_,_,_,_,_,_] sizeOf30 ?_;refine an 102 [1,3] ?_;refine cX [1,3,5] (tK hm hw s.set hf.e) ?_;refine af [1,3,5,76] ?_;refine au ?_ ?_<;>intro gY kS
   ·have Z:cL s.set=0:=(by simpa using gY)
    refine iv [1,3,5] ?_;refine di (JA hm hw s.bV (fun o h=>(hf.x o h).1)) ?_;refine bK ?_;refine af [1,3,5,81] ?_;refine au ?_ ?_<;>intro gq lB
    ·have Nz:iR s.bV=0:=(by simpa using gq)
     refine iv [1,3,5] ?_;refine di (El hm hw s.aj (fun o h=>(hf.w o h).1)) ?_;refine bK ?_;refine⟨_,aK,{ga with kind:=s.kind,table:=tb,set:=s.set,bV:=s.bV,aj:=s.aj},nH s.aj,Mz,(by unfold iO;rw[if_neg cW,if_neg ek,if_neg fw,if_pos gB,if_pos Z,if_pos Nz]),rfl⟩
    have Nz:¬iR s.bV=0:=(by simpa using gq)
    refine CD.skip ?_;refine⟨_,aK,{ga with kind:=s.kind,table:=tb,set:=s.set,bV:=s.bV,aj:=s.aj},iR s.bV,Mz,(by unfold iO;rw[if_neg cW,if_neg ek,if_neg fw,if_pos gB,if_pos Z,if_neg Nz]),rfl⟩
   have Z:¬cL s.set=0:=(by simpa using gY)
   refine af [1,3,5,81] ?_;refine au ?_ ?_<;>intro gq lB
   ·exact absurd gq (by simp[Z])
   refine CD.skip ?_;refine⟨_,aK,{ga with kind:=s.kind,table:=tb,set:=s.set,bV:=s.bV,aj:=s.aj},cL s.set,Mz,(by unfold iO;rw[if_neg cW,if_neg ek,if_neg fw,if_pos gB,if_neg Z]),rfl⟩
  refine af [1,3,5,85] ?_;refine au ?_ ?_<;>intro p9 E
  ·refine aD 3 ?_;refine aN 0 [_,_,_,_,_,_,_,_,_,_,_,_] sizeOf30 ?_;refine an 102 [1,3] ?_;refine iv [1,3,5] ?_;refine di (El hm hw s.aj (fun o h=>(hf.w o h).1)) ?_;refine bK ?_;refine⟨_,aK,{ga with kind:=s.kind,table:=tb,aj:=s.aj},nH s.aj,(by unfold gI;rw[if_neg cW,if_neg ek,if_neg fw,if_neg gB,if_pos E,sV]),(by unfold iO;rw[if_neg cW,if_neg ek,if_neg fw,if_neg gB,if_pos E]),rfl⟩
  refine CD.skip ?_;refine⟨_,aK,{ga with kind:=s.kind,table:=tb},0,(by unfold gI;rw[if_neg cW,if_neg ek,if_neg fw,if_neg gB,if_neg E,sV]),(by unfold iO;rw[if_neg cW,if_neg ek,if_neg fw,if_neg gB,if_neg E]),rfl⟩
 rintro _ ⟨H,e,hH,Di,rfl⟩;refine CD.seq ?_;refine CD.seq ?_;have UR:=aei (G:=G) s H;unfold bU at UR;refine dO 3 ?_;refine bW 95 (fun VT ahj=>?_) (fun VT ahj=>?_)
 ·refine aE 2 ?_;refine OD.hU iw rfl rfl rfl call72 (UR) ⟨ot,ot,trivial⟩ ?_;refine an 102 [5,100] ?_;refine au ?_ ?_<;>intro Dj LA
  ·have aV:gd s=6:=(by unfold gd;rw[if_neg j9,if_pos ⟨by rw[←Di];simpa using VT,by rw[←hH];simpa using Dj⟩])
   refine cl [5] ?_;exact MS
  have aV:gd s=e:=(by unfold gd;rw[if_neg j9,if_neg (by rw[←Di,←hH];exact(fun h=>by obtain⟨h1,h2⟩:=h;simp_all)),Di])
  exact MS
 refine bf [5,100] ?_;refine fN ?_;have aV:gd s=e:=(by unfold gd;rw[if_neg j9,if_neg (by rw[←Di,←hH];exact(fun h=>by obtain⟨h1,h2⟩:=h;simp_all)),Di])
 refine af [2] ?_;refine eO ?_;exact⟨by first|rw[aV]|rw[aV];rfl,rfl⟩

theorem Py:∀(l:List aX) (H:List (List Tk)),(l.foldl oq H).flatten.length≤H.flatten.length+5*l.length
 | [],H=>by simp
 | o::r,H=>by
  have h1:=Py r (oq H o);have h2:=Pw (h:=H) (o:=o);rw[foldl_cons,length_cons];omega
theorem Eu(l:List aX):(rj l).length≤5*l.length:=by
 have h:=Py l [];have h2:=(uQ (h:=l.foldl oq []) (n:=0)).1;have h3:=AW (l.foldl oq []) 0;simp only[List.take_zero,flatten_nil,length_nil] at h h3;unfold rj;omega
theorem It(l:List aX):(kE l).length≤5*l.length+1:=by
 have h:=Eu l;unfold kE;split
 ·simp
 rw[length_append,length_map];simp only[length_cons,length_nil];omega
def jV(ns:List ByteArray):Nat→List Tk
 | 0=>[]
 | i+1=>jV ns i++(if i>0 then [dW ⟨#[44]⟩] else [])++[bG (ns.getD i ⟨#[]⟩)]
theorem ED(E:List ByteArray):∀i,(jV E i).length≤2*i
 | 0=>Nat.le_refl _
 | i+1=>by
  have I:=ED E i;have h3:(if i>0 then [dW ⟨#[44]⟩] else []).length≤1:=(by split<;>simp)
  unfold jV;rw[length_append,length_append];simp only[length_cons,length_nil];omega
theorem If(hi:i<E.length)(h:0<i)(X:List Tk):((X++jV E i)++[dW ⟨#[44]⟩])++[bG E[i]]=X++jV E (i+1):=by
 rw[jV,if_pos h,mG hi];simp only[append_assoc]
theorem HX(hi:i<E.length)(h:¬0<i)(X:List Tk):(X++jV E i)++[bG E[i]]=X++jV E (i+1):=by
 rw[jV,if_neg h,mG hi];simp only[append_assoc,append_nil]
def vf(s:cA):List Tk:=if s.count=true then [bG ⟨#[67,79,85,78,84]⟩,dW ⟨#[40]⟩,dW ⟨#[42]⟩,dW ⟨#[41]⟩] else if s.names.length=0 then [dW ⟨#[42]⟩] else jV s.names s.names.length
def xD(s:cA):List Tk:=if jl s.order ⟨#[]⟩=true then [] else [⟨#[79,82,68,69,82]⟩,⟨#[66,89]⟩,s.order].map bG++(if s.down=true then [bG ⟨#[68,69,83,67]⟩] else [])
def Cm(s:cA):List Tk:=if 0≤s.iq then [bG ⟨#[76,73,77,73,84]⟩,⟨2,⟨#[]⟩,s.iq⟩] else []
def zx(s:cA):List Tk:=((([⟨#[83,69,76,69,67,84]⟩].map bG++vf s)++[⟨#[70,82,79,77]⟩,s.table].map bG++kE s.aj)++xD s)++Cm s
theorem sb:(Tryz.prog.info? 137).map (fun i=>(i.zero,i.size,i.bytes))=some (some (.agg #[.int .i64 0,.string ⟨#[]⟩,.int .i64 0]),3,32):=by kernel_rfl
theorem YX : ∀ w, ((#[{ name := "Kind", type := 3, offset := 0, embedded := false, tag := "", pkgPath := "", byteOffset := 0 }, { name := "Text", type := 9, offset := 1, embedded := false, tag := "", pkgPath := "", byteOffset := 8 }, { name := "Int", type := 3, offset := 2, embedded := false, tag := "", pkgPath := "", byteOffset := 24 }] : Array Field).mapM fun f => do pure (f.offset, ← sizeOf f.type) : Sem (Array (Nat × Nat))).run Tryz.prog w = .ok #[(0, 1), (1, 1), (2, 1)] w := fun w => by simp [sizeOf3, sizeOf9]
theorem Zr(s:cA)(hf:jM s)(NA:s.aj.length=0∨fK 0 s.aj=0):VP Tryz.prog G 76 [.agg (bU s)] (.list 3 ((zx s).flatMap cT) (zx s).length):=by
 refine VC.body func76 rfl ntmps76 aQ fun X0 w0 bg=>?_;have dz:=ei;have h6:=hf.ok.2.2.1;have qf:=hf.ok.2.2.2.1;have Hq:=It s.aj;have NB:=Eu s.aj;unfold bU;refine bY ?_;refine OD.box (ds:=[_,_,_,_,_,_,_,_,_,_,_,_]) ap rfl rfl ot rfl rfl (fun b1=>?_);refine an 84 [1] ?_;refine bY ?_;refine ev (cc 0 [_]) [.string ⟨#[]⟩] [_] zeroValue9 runUnderlying29 sizeOf9 (fun b6=>?_);refine OD.perm (ee (S1:=[⟨b6,9,1*1,flatMap cS ([⟨#[83,69,76,69,67,84]⟩])⟩]) (A:=[_])) ?_;refine OD.ic (t:=6) (Sq:=[⟨b6,9,1*1,flatMap cS ([⟨#[83,69,76,69,67,84]⟩])⟩]) lk (bH (g:=cS) (sz:=1) (e:=9) (ls:=[⟨#[83,69,76,69,67,84]⟩]) (Nat.le_refl _) (show 1≤maxLen by decide)) (cu gQ _) (dg (A:=[_])) ?_;refine OD.call ap rfl rfl rfl call73 (y9 [⟨#[83,69,76,69,67,84]⟩] Am) ⟨ot,trivial⟩ (eR _) ?_;rintro _ S7 ⟨XY,XZ,rfl,qa⟩;refine OD.perm (ee (A:=[_])) ?_;refine an 84 [1,3] ?_;refine jQ [1] (fun aW _ aH=>∃(Q:List Tk),∃(ad:Option Addr),∃(cp:Nat),∃(Sx:List ah),(Q=[⟨#[83,69,76,69,67,84]⟩].map bG++vf s)∧(bp 137 3 (Q.flatMap cT) Q.length ad cp Sx)∧(Q.length≤20)∧aH=(⟨84,(3,aP ad Q.length cp)::aW,(⟨b1,32,12,[ae s.kind,bn s.table,av 2 cC s.az,av 3 cV s.row,av 1 cS s.names,bS s.count,av 5 cO s.aj,bn s.order,bS s.down,ae s.iq,bn s.set,av 5 cO s.bV]⟩::Sx)⟩:St)) ?_ ?_
 ·refine af [1,3,28] ?_;refine au ?_ ?_<;>intro aO bE
  ·refine dO 1 ?_;refine dV call117 (qZ ⟨#[67,79,85,78,84]⟩) ?_;refine dV call78 (mZ ⟨#[40]⟩) ?_;refine dV call78 (mZ ⟨#[42]⟩) ?_;refine dV call78 (mZ ⟨#[41]⟩) ?_;refine ev (cc 0 [_,_,_,_]) [.int .i64 0,.string ⟨#[]⟩,.int .i64 0,.int .i64 0,.string ⟨#[]⟩,.int .i64 0,.int .i64 0,.string ⟨#[]⟩,.int .i64 0,.int .i64 0,.string ⟨#[]⟩,.int .i64 0] [_,_,_,_,_,_,_,_,_,_,_,_] zeroValue137 runUnderlying98 sizeOf137 (fun Hr=>?_);refine fF 0 36 3 4 ?_;refine OD.en (ls:=([⟨#[83,69,76,69,67,84]⟩].map bG)) (new:=[bG ⟨#[67,79,85,78,84]⟩,dW ⟨#[40]⟩,dW ⟨#[42]⟩,dW ⟨#[41]⟩]) (Sq:=S7) iK lN ap rfl rfl underlying98 sb rfl w7 ot qa (dg (A:=[_])) ot bq pY w8 (fun NC U ajd aje=>?_);refine OD.perm (ee (S1:=[⟨NC,137,U*3,flatMap cT (([⟨#[83,69,76,69,67,84]⟩].map bG)++[bG ⟨#[67,79,85,78,84]⟩,dW ⟨#[40]⟩,dW ⟨#[42]⟩,dW ⟨#[41]⟩])⟩]) (A:=[_])) ?_;refine an 84 [1,3] ?_;refine⟨_,aK,(([⟨#[83,69,76,69,67,84]⟩].map bG)++[bG ⟨#[67,79,85,78,84]⟩,dW ⟨#[40]⟩,dW ⟨#[42]⟩,dW ⟨#[41]⟩]),(some ⟨NC,0,none⟩),U,[⟨NC,137,U*3,flatMap cT (([⟨#[83,69,76,69,67,84]⟩].map bG)++[bG ⟨#[67,79,85,78,84]⟩,dW ⟨#[40]⟩,dW ⟨#[42]⟩,dW ⟨#[41]⟩])⟩],(by unfold vf;rw[if_pos bE]),(bH ajd aje),Mh,rfl⟩
  refine af [1,3,38] ?_;refine au ?_ ?_<;>intro aY cJ
  ·refine dO 1 ?_;refine dV call78 (mZ ⟨#[42]⟩) ?_;refine ev (cc 0 [_]) [.int .i64 0,.string ⟨#[]⟩,.int .i64 0] [_,_,_] zeroValue137 runUnderlying98 sizeOf137 (fun b45=>?_);refine fF 0 45 3 1 ?_;refine OD.en (ls:=([⟨#[83,69,76,69,67,84]⟩].map bG)) (new:=[dW ⟨#[42]⟩]) (Sq:=S7) iK lN ap rfl rfl underlying98 sb rfl w7 ot qa (dg (A:=[_])) ot bq pY w8 (fun Ay Z ajf ajg=>?_);refine OD.perm (ee (S1:=[⟨Ay,137,Z*3,flatMap cT (([⟨#[83,69,76,69,67,84]⟩].map bG)++[dW ⟨#[42]⟩])⟩]) (A:=[_])) ?_;refine an 84 [1,3] ?_;refine⟨_,aK,(([⟨#[83,69,76,69,67,84]⟩].map bG)++[dW ⟨#[42]⟩]),(some ⟨Ay,0,none⟩),Z,[⟨Ay,137,Z*3,flatMap cT (([⟨#[83,69,76,69,67,84]⟩].map bG)++[dW ⟨#[42]⟩])⟩],(by unfold vf;rw[if_neg xS,if_pos w4]),(bH ajf ajg),Mh,rfl⟩
  refine af [1,3,9,10,11] ?_;refine CD.block ?_;refine mV (fun (mq:Nat×Option Addr×Nat×List ah) aH=>match mq with|(i,Dk,Dl,So)=>(i≤s.names.length)∧(bp 137 3 ((([⟨#[83,69,76,69,67,84]⟩].map bG++jV s.names i)).flatMap cT) (([⟨#[83,69,76,69,67,84]⟩].map bG++jV s.names i)).length Dk Dl So)∧aH=(⟨84,[(1,dM b1),(3,aP Dk (([⟨#[83,69,76,69,67,84]⟩].map bG++jV s.names i)).length Dl),(9,av 1 cS s.names),(10,ae (s.names.length:Nat)),(11,ae (i:Nat))],((⟨b1,32,12,[ae s.kind,bn s.table,av 2 cC s.az,av 3 cV s.row,av 1 cS s.names,bS s.count,av 5 cO s.aj,bn s.order,bS s.down,ae s.iq,bn s.set,av 5 cO s.bV]⟩:ah)::So)⟩:St)) (fun (mq:Nat×Option Addr×Nat×List ah)=>match mq with|(i,Dk,Dl,So)=>s.names.length-i) (0,XY,XZ,S7) ⟨(Nat.zero_le _),(bp.cast qa (by simp[jV])),rfl⟩ (aK (h:=by repeat (first|exact trivial|refine⟨Ml,?_⟩))) ?_;rintro⟨i,Dk,Dl,So⟩ _ ⟨hi,Dm,rfl⟩;refine af [1,3,9,10,11,12] ?_;refine au ?_ ?_<;>intro cm cW
  ·have aa:i<s.names.length:=(by simp at cm;omega)
   have fO:=ED s.names i;refine af [1,3,4,5,9,10,11] ?_;refine af [1,3,5,9,10,11,17] ?_;refine au ?_ ?_<;>intro da ek
   ·refine dO 1 ?_;refine dV call78 (mZ ⟨#[44]⟩) ?_;refine ev (cc 0 [_]) [.int .i64 0,.string ⟨#[]⟩,.int .i64 0] [_,_,_] zeroValue137 runUnderlying98 sizeOf137 (fun Nx=>?_);refine fF 0 20 3 1 ?_;refine OD.en (ls:=(([⟨#[83,69,76,69,67,84]⟩].map bG++jV s.names i))) (new:=[dW ⟨#[44]⟩]) (Sq:=So) iK lN ap rfl rfl underlying98 sb rfl w7 ot Dm (dg (A:=[_])) ot bq pY w8 (fun Dc VU ajh aji=>?_);refine OD.perm (ee (S1:=[⟨Dc,137,VU*3,flatMap cT ((([⟨#[83,69,76,69,67,84]⟩].map bG++jV s.names i))++[dW ⟨#[44]⟩])⟩]) (A:=[_])) ?_;refine an 84 [1,3,5,9,10,11] ?_;refine dO 2 ?_;refine dV call117 (qZ s.names[i]) ?_;refine ev (cc 0 [_]) [.int .i64 0,.string ⟨#[]⟩,.int .i64 0] [_,_,_] zeroValue137 runUnderlying98 sizeOf137 (fun yj=>?_);refine fF 0 25 3 1 ?_;refine OD.en (ls:=((([⟨#[83,69,76,69,67,84]⟩].map bG++jV s.names i))++[dW ⟨#[44]⟩])) (new:=[bG s.names[i]]) (Sq:=[⟨Dc,137,VU*3,flatMap cT ((([⟨#[83,69,76,69,67,84]⟩].map bG++jV s.names i))++[dW ⟨#[44]⟩])⟩]) iK lN ap rfl rfl underlying98 sb rfl w7 ot (bH ajh aji) (dg (A:=[_])) ot bq pY w8 (fun I E LC LF=>?_);refine OD.perm (ee (S1:=[⟨I,137,E*3,flatMap cT (((([⟨#[83,69,76,69,67,84]⟩].map bG++jV s.names i))++[dW ⟨#[44]⟩])++[bG s.names[i]])⟩]) (A:=[_])) ?_;refine an 84 [1,3,9,10,11] ?_;refine cl [1,3,9,10,11] ?_
    refine⟨((i+1),(some ⟨I,0,none⟩),E,[⟨I,137,E*3,flatMap cT (((([⟨#[83,69,76,69,67,84]⟩].map bG++jV s.names i))++[dW ⟨#[44]⟩])++[bG s.names[i]])⟩]),_,cz,(aK (h:=by repeat (first|exact trivial|refine⟨Ml,?_⟩))),w4,(bp.cast (bH LC LF) (by first|exact If aa w4 _|exact HX aa w4 _)),rfl⟩
   refine dO 2 ?_;refine dV call117 (qZ s.names[i]) ?_;refine ev (cc 0 [_]) [.int .i64 0,.string ⟨#[]⟩,.int .i64 0] [_,_,_] zeroValue137 runUnderlying98 sizeOf137 (fun yj=>?_);refine fF 0 25 3 1 ?_;refine OD.en (ls:=(([⟨#[83,69,76,69,67,84]⟩].map bG++jV s.names i))) (new:=[bG s.names[i]]) (Sq:=So) iK lN ap rfl rfl underlying98 sb rfl w7 ot Dm (dg (A:=[_])) ot bq pY w8 (fun I E LC LF=>?_);refine OD.perm (ee (S1:=[⟨I,137,E*3,flatMap cT ((([⟨#[83,69,76,69,67,84]⟩].map bG++jV s.names i))++[bG s.names[i]])⟩]) (A:=[_])) ?_;refine an 84 [1,3,9,10,11] ?_;refine cl [1,3,9,10,11] ?_;refine⟨((i+1),(some ⟨I,0,none⟩),E,[⟨I,137,E*3,flatMap cT ((([⟨#[83,69,76,69,67,84]⟩].map bG++jV s.names i))++[bG s.names[i]])⟩]),_,cz,(aK (h:=by repeat (first|exact trivial|refine⟨Ml,?_⟩))),w4,(bp.cast (bH LC LF) (by first|exact If aa w4 _|exact HX aa w4 _)),rfl⟩
  have ur:i=s.names.length:=(by simp at cm;omega)
  refine CD.exit ?_;refine⟨_,aK,(([⟨#[83,69,76,69,67,84]⟩].map bG++jV s.names i)),Dk,Dl,So,(by unfold vf;rw[if_neg xS,if_neg w4,ur]),Dm,Mh,rfl⟩
 rintro _ ⟨Q,ad,cp,Sx,hQ,dY,hQl,rfl⟩;refine aD 3 ?_;refine ev (cc 0 [_,_]) [.string ⟨#[]⟩,.string ⟨#[]⟩] [_,_] zeroValue9 runUnderlying29 sizeOf9 (fun AK=>?_);refine OD.perm (yM (S2:=[⟨AK,9,2*1,flatMap cS ([⟨#[70,82,79,77]⟩,s.table])⟩]) (A:=[_])) ?_;refine OD.ic (t:=50) (Sq:=[⟨AK,9,2*1,flatMap cS ([⟨#[70,82,79,77]⟩,s.table])⟩]) lk (bH (g:=cS) (sz:=1) (e:=9) (ls:=[⟨#[70,82,79,77]⟩,s.table]) (Nat.le_refl _) (show 2≤maxLen by decide)) (cu gQ _) (yL (A:=[_])) ?_;refine dV call73 (sA [⟨#[70,82,79,77]⟩,s.table] (by show 2≤10;decide)) ?_;refine OD.en (ls:=Q) (new:=([⟨#[70,82,79,77]⟩,s.table].map bG)) (Sq:=Sx) iK lN ap rfl rfl underlying98 sb rfl w7 ot dY (dg (A:=[_])) ot bq pY w8 (fun X2 VV ajj ajk=>?_);refine OD.perm (ee (S1:=[⟨X2,137,VV*3,flatMap cT (Q++([⟨#[70,82,79,77]⟩,s.table].map bG))⟩]) (A:=[_])) ?_;refine an 84 [1,3] ?_;refine aD 3 ?_;refine dV call80 (HP s.aj qf NA (fun o h=>(hf.w o h).2) w4) ?_;refine OD.pF (ls:=(Q++([⟨#[70,82,79,77]⟩,s.table].map bG))) (new:=(kE s.aj)) (Sq:=[⟨X2,137,VV*3,flatMap cT (Q++([⟨#[70,82,79,77]⟩,s.table].map bG))⟩]) iK lN ap rfl rfl underlying98 sb rfl w7 runUnderlying98 sizeOf137 ot (bH ajj ajk) (dg (A:=[_])) ot pY w8 (fun ajl ajm vS vt=>?_);refine OD.perm (ee (A:=[_])) ?_;refine an 84 [1,3] ?_
 refine jQ [1] (fun aW _ aH=>∃(Q:List Tk),∃(ad:Option Addr),∃(cp:Nat),∃(Sx:List ah),(Q=(([⟨#[83,69,76,69,67,84]⟩].map bG++vf s)++[⟨#[70,82,79,77]⟩,s.table].map bG++kE s.aj)++xD s)∧(bp 137 3 (Q.flatMap cT) Q.length ad cp Sx)∧(Q.length≤500)∧aH=(⟨84,(3,aP ad Q.length cp)::aW,(⟨b1,32,12,[ae s.kind,bn s.table,av 2 cC s.az,av 3 cV s.row,av 1 cS s.names,bS s.count,av 5 cO s.aj,bn s.order,bS s.down,ae s.iq,bn s.set,av 5 cO s.bV]⟩::Sx)⟩:St)) ?_ ?_
 ·refine af [1,3,60] ?_;refine au ?_ ?_<;>intro ez fw
  ·refine aD 3 ?_;refine ev (cc 0 [_,_,_]) [.string ⟨#[]⟩,.string ⟨#[]⟩,.string ⟨#[]⟩] [_,_,_] zeroValue9 runUnderlying29 sizeOf9 (fun Dn=>?_);refine OD.perm (yM (S2:=[⟨Dn,9,3*1,flatMap cS ([⟨#[79,82,68,69,82]⟩,⟨#[66,89]⟩,s.order])⟩]) (A:=[_])) ?_;refine OD.ic (t:=64) (Sq:=[⟨Dn,9,3*1,flatMap cS ([⟨#[79,82,68,69,82]⟩,⟨#[66,89]⟩,s.order])⟩]) lk (bH (g:=cS) (sz:=1) (e:=9) (ls:=[⟨#[79,82,68,69,82]⟩,⟨#[66,89]⟩,s.order]) (Nat.le_refl _) (show 3≤maxLen by decide)) (cu gQ _) (yL (A:=[_])) ?_;refine dV call73 (sA [⟨#[79,82,68,69,82]⟩,⟨#[66,89]⟩,s.order] (by show 3≤10;decide)) ?_;refine OD.en (ls:=((Q++([⟨#[70,82,79,77]⟩,s.table].map bG))++(kE s.aj))) (new:=([⟨#[79,82,68,69,82]⟩,⟨#[66,89]⟩,s.order].map bG)) (Sq:=vS) iK lN ap rfl rfl underlying98 sb rfl w7 ot vt (dg (A:=[_])) ot bq pY w8 (fun pA O zN zO=>?_);refine OD.perm (ee (S1:=[⟨pA,137,O*3,flatMap cT (((Q++([⟨#[70,82,79,77]⟩,s.table].map bG))++(kE s.aj))++([⟨#[79,82,68,69,82]⟩,⟨#[66,89]⟩,s.order].map bG))⟩]) (A:=[_])) ?_;refine an 84 [1,3] ?_;refine af [1,3,68] ?_;refine au ?_ ?_<;>intro fg gB
   ·refine dO 1 ?_;refine dV call117 (qZ ⟨#[68,69,83,67]⟩) ?_;refine ev (cc 0 [_]) [.int .i64 0,.string ⟨#[]⟩,.int .i64 0] [_,_,_] zeroValue137 runUnderlying98 sizeOf137 (fun b71=>?_);refine fF 0 71 3 1 ?_;refine OD.en (ls:=(((Q++([⟨#[70,82,79,77]⟩,s.table].map bG))++(kE s.aj))++([⟨#[79,82,68,69,82]⟩,⟨#[66,89]⟩,s.order].map bG))) (new:=[bG ⟨#[68,69,83,67]⟩]) (Sq:=[⟨pA,137,O*3,flatMap cT (((Q++([⟨#[70,82,79,77]⟩,s.table].map bG))++(kE s.aj))++([⟨#[79,82,68,69,82]⟩,⟨#[66,89]⟩,s.order].map bG))⟩]) iK lN ap rfl rfl underlying98 sb rfl w7 ot (bH zN zO) (dg (A:=[_])) ot bq pY w8 (fun ND LG ajn ajo=>?_);refine OD.perm (ee (S1:=[⟨ND,137,LG*3,flatMap cT ((((Q++([⟨#[70,82,79,77]⟩,s.table].map bG))++(kE s.aj))++([⟨#[79,82,68,69,82]⟩,⟨#[66,89]⟩,s.order].map bG))++[bG ⟨#[68,69,83,67]⟩])⟩]) (A:=[_])) ?_;refine an 84 [1,3] ?_;refine⟨_,aK,((((Q++([⟨#[70,82,79,77]⟩,s.table].map bG))++(kE s.aj))++([⟨#[79,82,68,69,82]⟩,⟨#[66,89]⟩,s.order].map bG))++[bG ⟨#[68,69,83,67]⟩]),(some ⟨ND,0,none⟩),LG,[⟨ND,137,LG*3,flatMap cT ((((Q++([⟨#[70,82,79,77]⟩,s.table].map bG))++(kE s.aj))++([⟨#[79,82,68,69,82]⟩,⟨#[66,89]⟩,s.order].map bG))++[bG ⟨#[68,69,83,67]⟩])⟩],(by rw[hQ];unfold xD;rw[if_neg (by unfold jl;simpa using ez),if_pos gB];simp only[append_assoc]),(bH ajn ajo),w8,rfl⟩
   refine CD.skip ?_;refine⟨_,aK,(((Q++([⟨#[70,82,79,77]⟩,s.table].map bG))++(kE s.aj))++([⟨#[79,82,68,69,82]⟩,⟨#[66,89]⟩,s.order].map bG)),(some ⟨pA,0,none⟩),O,[⟨pA,137,O*3,flatMap cT (((Q++([⟨#[70,82,79,77]⟩,s.table].map bG))++(kE s.aj))++([⟨#[79,82,68,69,82]⟩,⟨#[66,89]⟩,s.order].map bG))⟩],(by rw[hQ];unfold xD;rw[if_neg (by unfold jl;simpa using ez),if_neg (by simpa using fg)];simp only[append_assoc,append_nil]),(bH zN zO),w8,rfl⟩
  refine CD.skip ?_;refine⟨_,aK,((Q++([⟨#[70,82,79,77]⟩,s.table].map bG))++(kE s.aj)),ajl,ajm,vS,(by rw[hQ];unfold xD;rw[if_pos (by unfold jl;simpa using ez)];simp),vt,w8,rfl⟩
 rintro _ ⟨Q,ad,cp,Sx,hQ,dY,hQl,rfl⟩;refine af [1,3,75] ?_;refine au ?_ ?_<;>intro gY kS
 ·refine fE 7 (aq (take 1 _)) ?_ (fun _ h=>(Sublist.map _ (take_sublist _ _)).subset h);refine ay 0 rfl aZ ?_;refine ay 2 rfl (dh 9) ?_;refine ay 3 rfl (dI 0) ?_;refine ay 4 rfl (nE (pl:=[(0,_),(2,_)]) (ds:=[_,_,_]) rfl zeroValue137 runUnderlying137 YX ⟨rfl,bP,rfl,ot,trivial⟩ rfl rfl) ?_;refine dm.later rfl ?_;refine AD.one (i:=1) aA ?_;refine jm call117 (qZ ⟨#[76,73,77,73,84]⟩) ?_;refine AD.one (i:=5) aA ?_;refine iV (cc 0 [_,_]) [.int .i64 0,.string ⟨#[]⟩,.int .i64 0,.int .i64 0,.string ⟨#[]⟩,.int .i64 0] [_,_,_,_,_,_] zeroValue137 runUnderlying98 sizeOf137 (fun b81=>?_);refine iW 0 81 3 2 ?_;refine AD.one (i:=6) aA ?_;refine bj.en (ls:=Q) (new:=[bG ⟨#[76,73,77,73,84]⟩,(⟨2,⟨#[]⟩,s.iq⟩:Tk)]) (Sq:=Sx) iK lN rfl ap rfl rfl underlying98 sb rfl w7 ot dY (dg (A:=[_])) ot bq pY w8 (fun X3 VW ajp ajq=>?_);refine AD.perm (ee (S1:=[⟨X3,137,VW*3,flatMap cT (Q++[bG ⟨#[76,73,77,73,84]⟩,(⟨2,⟨#[]⟩,s.iq⟩:Tk)])⟩]) (A:=[_])) ?_;refine eE ?_;refine bf [3] ?_;refine af [2] ?_;refine CD.ic (t:=2) (Sq:=[⟨X3,137,VW*3,flatMap cT (Q++[bG ⟨#[76,73,77,73,84]⟩,(⟨2,⟨#[]⟩,s.iq⟩:Tk)])⟩]) lk (bH ajp ajq) (cu iK _) (dg (A:=[_])) ?_;refine eO ?_;refine⟨?_,rfl⟩;rw[hQ];unfold zx Cm;rw[if_pos w4]
 refine af [2] ?_;refine CD.ic (t:=2) (Sq:=Sx) lk dY (cu iK _) (dg (A:=[_])) ?_;refine aJ [] ?_;refine⟨?_,rfl⟩;rw[hQ];unfold zx Cm;rw[if_neg w4];simp only[append_nil]

def KM(k:Int):ByteArray:=afS.getD k.toNat ⟨#[]⟩
theorem acn{k:Int}(h1:1≤k)(h2:k≤3):typesC[0+k.toNat*1]?=some (.string (KM k)):=by
 have h:k=1∨k=2∨k=3:=(by omega)
 rcases h with rfl|rfl|rfl<;>rfl
def ji(c:cG):List Tk:=[c.n,KM c.k].map bG
def Gw:List ByteArray:=[⟨#[66,69,71,73,78]⟩,⟨#[67,79,77,77,73,84]⟩,⟨#[82,79,76,76,66,65,67,75]⟩]
def qA(s:cA):List Tk :=
 if s.kind=1 then [⟨#[67,82,69,65,84,69]⟩,⟨#[84,65,66,76,69]⟩,s.table].map bG++mi (s.az.map ji)
 else if s.kind=2 then [⟨#[68,82,79,80]⟩,⟨#[84,65,66,76,69]⟩,s.table].map bG
 else if s.kind=3 then [⟨#[73,78,83,69,82,84]⟩,⟨#[73,78,84,79]⟩,s.table,⟨#[86,65,76,85,69,83]⟩].map bG++mi (s.row.map js)
 else if s.kind=4 then zx s
 else if s.kind=5 then [[⟨#[85,80,68,65,84,69]⟩,s.table,⟨#[83,69,84]⟩,s.set].map bG,[dW ⟨#[61]⟩],rj s.bV,kE s.aj].flatten
 else if s.kind=6 then [⟨#[68,69,76,69,84,69]⟩,⟨#[70,82,79,77]⟩,s.table].map bG++kE s.aj
 else [Gw.getD (s.kind-7).toNat ⟨#[]⟩].map bG
structure X4 (s:cA):Prop where
 fin:jM s
 k1:1≤s.kind
 k9:s.kind≤9
 c:s.kind=1→∀c∈s.az,1≤c.k∧c.k≤3
 r:s.kind=3→∀v∈s.row,mW v
 w:s.kind=4∨s.kind=5∨s.kind=6→s.aj.length=0∨fK 0 s.aj=0
 t:s.kind=5→fK 0 s.bV=0
theorem QT(ts:List (List Tk)):0<(mi ts).length:=by unfold mi;rw[length_append];simp
theorem QU{ts:List (List Tk)}(h:∀x∈ts,x.length≤10):(mi ts).length≤2+11*ts.length:=by
 have h1:=E2 h ts.length;unfold mi;rw[length_append];simp only[length_cons,length_nil];omega
theorem JE(l:List cG):∀x∈l.map ji,x.length≤10:=fun x hx=>by obtain⟨c,_,rfl⟩:=mem_map.1 hx;show 2≤10;decide
theorem QV(l:List Vl):∀x∈l.map js,x.length≤10:=fun x hx=>by obtain⟨v,_,rfl⟩:=mem_map.1 hx;have:=Pv v;omega
theorem OV:(Tryz.prog.info? 98).map (fun i=>(i.zero,i.size,i.bytes))=some (some (.slice none 0 0),1,24):=by kernel_rfl
theorem HU:(Tryz.prog.info? 137).map (fun i=>(i.zero,i.size,i.bytes))=some (some (.agg #[.int .i64 0,.string ⟨#[]⟩,.int .i64 0]),3,32):=by kernel_rfl
theorem aej(hty:(0,typesC)∈G)(s:cA)(hs:X4 s):VP Tryz.prog G 39 [.agg (bU s)] (.list 3 ((qA s).flatMap cT) (qA s).length):=by
 refine VC.body func39 rfl ntmps39 aQ fun X0 w0 bg=>?_;have dz:=ei;have hf:=hs.fin;have h6:=hf.ok.1;have h6r:=hf.ok.2.1;have qf:=hf.ok.2.2.2.1;have ajr:=hf.ok.2.2.2.2;have Hq:=It s.aj;have NB:=Eu s.aj;have Gx:=Eu s.bV;have lm:=QU (JE s.az);have rQ:=QU (QV s.row);have I:=Zr (G:=G) s hf;rw[length_map] at lm rQ;unfold bU at I;unfold bU;refine bY ?_;refine OD.box (ds:=[_,_,_,_,_,_,_,_,_,_,_,_]) ap rfl rfl ot rfl rfl (fun b1=>?_);refine an 107 [1] ?_;refine cZ [1,10] ?_;refine aS 1 ?_ (h:=by exact eK);refine jZ ?_;refine af [1,10,11] ?_;refine au ?_ ?_<;>intro aO bE
 ·refine bY ?_;refine bf [1,3] ?_;refine cZ [1,3,14,15,16] ?_;refine aS 1 ?_ (h:=by exact eK);refine bK ?_;refine CD.block ?_;refine mV (fun (E:Nat×Option Addr×Nat×List ah) aH=>match E with|(i,dr,cY,Sx)=>(i≤s.az.length)∧(bp 98 1 (((s.az.take i).map ji).flatMap cK) ((s.az.take i).map ji).length dr cY Sx)∧aH=(⟨107,[(1,dM b1),(3,aP dr ((s.az.take i).map ji).length cY),(14,av 2 cC s.az),(15,ae (s.az.length:Nat)),(16,ae (i:Nat))],((⟨b1,32,12,[ae s.kind,bn s.table,av 2 cC s.az,av 3 cV s.row,av 1 cS s.names,bS s.count,av 5 cO s.aj,bn s.order,bS s.down,ae s.iq,bn s.set,av 5 cO s.bV]⟩:ah)::Sx)⟩:St)) (fun (E:Nat×Option Addr×Nat×List ah)=>match E with|(i,dr,cY,Sx)=>s.az.length-i) (0,none,0,[]) ⟨(Nat.zero_le _),(bp.cast ik jN),rfl⟩ (aK (h:=by repeat (first|exact trivial|refine⟨(by (repeat (first|exact fB|(apply fU;focus (first|rfl|(simp;done)|(congr 2;omega)|(apply eL;exact tF ji aa)|(apply eL;simp;done)))|(apply fH;focus rfl)));done),?_⟩))) ?_;rintro⟨i,dr,cY,Sx⟩ _ ⟨hi,dY,rfl⟩;refine af [1,3,14,15,16,17] ?_;refine au ?_ ?_<;>intro aY cJ
  ·have aa:i<s.az.length:=(by simp at aY;omega)
   have X5:=hs.c bE _ (getElem_mem aa);refine aD 1 ?_;refine bN (cU (mk:=Op.load 69) rfl ot (by first|exact nF (k:=0) (ds:=[_,_]) rfl rfl isAgg69 sizeOf69 rfl rfl|exact iJ jS isAgg69 sizeOf69 w5|exact iJ eS isAgg69 sizeOf69 w5|exact iJ gQ isAgg69 sizeOf69 w5|exact cn (k:=0) jS rfl rfl rfl isAgg69 sizeOf69 w5|exact cn (k:=0) eS rfl rfl rfl isAgg69 sizeOf69 w5|exact cn (k:=0) gQ rfl rfl rfl isAgg69 sizeOf69 w5|exact pN (ds:=[_,_]) isAgg69 sizeOf69 rfl rfl)) ?_;refine OD.alloc (ds:=[_,_]) ap rfl rfl zeroValue69 rfl (fun b5=>?_);refine aN 0 [_,_] sizeOf69 ?_;refine an 107 [1,3,5,14,15,16] ?_;refine fE 11 (aq (take 2 _)) ?_ (fun _ h=>(Sublist.map _ (take_sublist _ _)).subset h);refine ay 0 rfl aZ ?_;refine ay 1 rfl (dh 0) ?_;refine ay 2 rfl eK ?_;refine ay 3 rfl (dh 1) ?_;refine ay 4 rfl eK ?_;refine ay 5 rfl (so (mk:=Op.indexAddr 132) rfl wo ot (by first|exact Ua runUnderlying132 sizeOf9 rfl w5|exact Ua (j:=Int.toNat _) runUnderlying132 sizeOf9 (Int.toNat_of_nonneg w4).symm w4)) ?_
   refine ay 6 rfl (cU (mk:=Op.load 9) rfl ot (by first|exact sy (k:=0) rfl rfl isAgg9 rfl|exact sy (k:=1) rfl rfl isAgg9 rfl|exact u7 jS isAgg9 w5 rfl|exact qu jS isAgg9 w5 rfl|exact u7 eS isAgg9 w5 rfl|exact qu eS isAgg9 w5 rfl|exact u7 gQ isAgg9 w5 rfl|exact qu gQ isAgg9 w5 rfl|exact lu (k:=0) jS rfl rfl rfl isAgg9 w5 rfl|exact jb (k:=0) jS rfl rfl rfl isAgg9 w5 rfl|exact lu (k:=1) jS rfl rfl rfl isAgg9 w5 rfl|exact jb (k:=1) jS rfl rfl rfl isAgg9 w5 rfl|exact lu (k:=0) eS rfl rfl rfl isAgg9 w5 rfl|exact jb (k:=0) eS rfl rfl rfl isAgg9 w5 rfl|exact lu (k:=1) eS rfl rfl rfl isAgg9 w5 rfl|exact jb (k:=1) eS rfl rfl rfl isAgg9 w5 rfl|exact lu (k:=0) gQ rfl rfl rfl isAgg9 w5 rfl|exact jb (k:=0) gQ rfl rfl rfl isAgg9 w5 rfl|exact lu (k:=1) gQ rfl rfl rfl isAgg9 w5 rfl|exact jb (k:=1) gQ rfl rfl rfl isAgg9 w5 rfl|exact Cf isAgg9 rfl|exact afv hty isAgg9 (acn X5.1 X5.2))) ?_;refine dm.later rfl ?_;refine AD.one (i:=7) aA ?_;refine iV (cc 0 [_,_]) [.string ⟨#[]⟩,.string ⟨#[]⟩] [_,_] zeroValue9 runUnderlying29 sizeOf9 (fun b27=>?_);refine iW 0 27 1 2 ?_;refine AD.one (i:=8) aA ?_;refine jm call73 (sA [s.az[i].n,KM s.az[i].k] (by show 2≤10;decide)) ?_;refine AD.one (i:=9) aA ?_;refine iV (cc 0 [_]) [.slice none 0 0] [_] zeroValue98 runUnderlying130 sizeOf98 (fun uJ=>?_)
   refine iW 0 29 1 1 ?_;refine AD.one (i:=10) aA ?_;refine bj.Ep (Sq:=Sx) (R:=[_,_]) rfl ap rfl rfl underlying130 OV rfl w7 ot dY (perm_append_comm (l₁:=[_,_])) (cu gl _) ot (tW pM [ji s.az[i]]) w7 (by rw[length_map,length_take];simp only[maxLen];omega) (by rw[length_map,length_take];omega) iE (fun NE O LH LI=>?_);refine AD.perm (ee (S1:=[⟨NE,98,O*1,flatMap cK ((s.az.take i).map ji)++flatMap cK [ji s.az[i]]⟩]) (A:=[_,_])) ?_;rw[show flatMap cK ((s.az.take i).map ji)++flatMap cK [ji s.az[i]]=flatMap cK ((s.az.take i).map ji++[ji s.az[i]]) from List.flatMap_append.symm,show((s.az.take i).map ji).length+1=((s.az.take i).map ji++[ji s.az[i]]).length from by rw[length_append];rfl];refine eE ?_;refine bf [1,3,14,15,16] ?_;refine cl [1,3,14,15,16] ?_;refine⟨((i+1),(some ⟨NE,0,none⟩),O,[⟨NE,98,O*1,flatMap cK ((s.az.take i).map ji++[ji s.az[i]])⟩]),_,cz,(aK (h:=by repeat (first|exact trivial|refine⟨(by (repeat (first|exact fB|(apply fU;focus (first|rfl|(simp;done)|(congr 2;omega)|(apply eL;exact tF ji aa)|(apply eL;simp;done)))|(apply fH;focus rfl)));done),?_⟩))),w4,(bp.cast (bH (by rw[length_append];exact LH) LI) (by exact tF ji aa)),rfl⟩
  have fb:=JD ji (show s.az.length≤i by simp at aY;omega);have U:=SS (G:=G) (s.az.map ji) F8 (JE s.az);rw[←fb] at U lm;refine aD 1 ?_;refine bN eK ?_;refine ev (cc 0 [_,_,_]) [.string ⟨#[]⟩,.string ⟨#[]⟩,.string ⟨#[]⟩] [_,_,_] zeroValue9 runUnderlying29 sizeOf9 (fun X6=>?_);refine OD.perm (yM (S2:=[⟨X6,9,3*1,flatMap cS ([⟨#[67,82,69,65,84,69]⟩,⟨#[84,65,66,76,69]⟩,s.table])⟩]) (A:=[_])) ?_;refine OD.ic (t:=34) (Sq:=[⟨X6,9,3*1,flatMap cS ([⟨#[67,82,69,65,84,69]⟩,⟨#[84,65,66,76,69]⟩,s.table])⟩]) lk (bH (g:=cS) (sz:=1) (e:=9) (ls:=[⟨#[67,82,69,65,84,69]⟩,⟨#[84,65,66,76,69]⟩,s.table]) (Nat.le_refl _) (show 3≤maxLen by decide)) (cu gQ _) (yL (A:=[_])) ?_;refine OD.call ap rfl rfl rfl call73 (y9 [⟨#[67,82,69,65,84,69]⟩,⟨#[84,65,66,76,69]⟩,s.table] (by show 3≤10;decide)) ⟨ot,trivial⟩ (eR _) ?_;rintro _ S35 ⟨apr,aps,rfl,ajs⟩;refine OD.perm (yM (A:=[_])) ?_;refine aE 1 ?_;refine OD.ic (t:=36) (Sq:=Sx) lk dY (cu gl _) (oO (A:=[_])) ?_;refine dV call74 (U) ?_;refine OD.en (ls:=([⟨#[67,82,69,65,84,69]⟩,⟨#[84,65,66,76,69]⟩,s.table].map bG)) (new:=(mi ((s.az.take i).map ji))) (Sq:=S35) iK lN ap rfl rfl underlying98 HU rfl w7 ot ajs (dg (A:=[_])) ot (QT _) pY w8 (fun Nu VX ajt aju=>?_)
  refine OD.perm (ee (S1:=[⟨Nu,137,VX*3,flatMap cT (([⟨#[67,82,69,65,84,69]⟩,⟨#[84,65,66,76,69]⟩,s.table].map bG)++(mi ((s.az.take i).map ji)))⟩]) (A:=[_])) ?_;refine an 107 [2] ?_;refine CD.ic (t:=2) (Sq:=[⟨Nu,137,VX*3,flatMap cT (([⟨#[67,82,69,65,84,69]⟩,⟨#[84,65,66,76,69]⟩,s.table].map bG)++(mi ((s.az.take i).map ji)))⟩]) lk (bH ajt aju) (cu iK _) (dg (A:=[_])) ?_;refine aJ [] ?_;refine⟨?_,rfl⟩;unfold qA;rw[if_pos bE,←fb]
 refine af [1,10,39] ?_;refine au ?_ ?_<;>intro cm cW
 ·refine cZ [2] ?_;refine aS 1 ?_ (h:=by exact eK);refine di (sA [⟨#[68,82,79,80]⟩,⟨#[84,65,66,76,69]⟩,s.table] (by show 3≤10;decide)) ?_;refine bK ?_;refine aJ [] ?_;refine⟨?_,rfl⟩;unfold qA;rw[if_neg bE,if_pos cW]
 refine af [1,10,45] ?_;refine au ?_ ?_<;>intro da ek
 ·refine bY ?_;refine bf [1,6] ?_;refine cZ [1,6,48,49,50] ?_;refine aS 1 ?_ (h:=by exact eK);refine bK ?_;refine CD.block ?_;refine mV (fun (E:Nat×Option Addr×Nat×List ah) aH=>match E with|(i,Hs,Ht,Sv)=>(i≤s.row.length)∧(bp 98 1 (((s.row.take i).map js).flatMap cK) ((s.row.take i).map js).length Hs Ht Sv)∧aH=(⟨107,[(1,dM b1),(6,aP Hs ((s.row.take i).map js).length Ht),(48,av 3 cV s.row),(49,ae (s.row.length:Nat)),(50,ae (i:Nat))],((⟨b1,32,12,[ae s.kind,bn s.table,av 2 cC s.az,av 3 cV s.row,av 1 cS s.names,bS s.count,av 5 cO s.aj,bn s.order,bS s.down,ae s.iq,bn s.set,av 5 cO s.bV]⟩:ah)::Sv)⟩:St)) (fun (E:Nat×Option Addr×Nat×List ah)=>match E with|(i,Hs,Ht,Sv)=>s.row.length-i) (0,none,0,[]) ⟨(Nat.zero_le _),(bp.cast ik jN),rfl⟩ (aK (h:=by repeat (first|exact trivial|refine⟨(by (repeat (first|exact fB|(apply fU;focus (first|rfl|(simp;done)|(congr 2;omega)|(apply eL;exact tF js aa)|(apply eL;simp;done)))|(apply fH;focus rfl)));done),?_⟩))) ?_;rintro⟨i,Hs,Ht,Sv⟩ _ ⟨hi,mS,rfl⟩;refine af [1,6,48,49,50,51] ?_;refine au ?_ ?_<;>intro ez fw
  ·have aa:i<s.row.length:=(by simp at ez;omega)
   refine aD 1 ?_;refine bN (cU (mk:=Op.load 41) rfl ot (by first|exact nF (k:=0) (ds:=[_,_,_]) rfl rfl isAgg41 sizeOf41 rfl rfl|exact iJ jS isAgg41 sizeOf41 w5|exact iJ eS isAgg41 sizeOf41 w5|exact iJ gQ isAgg41 sizeOf41 w5|exact cn (k:=0) jS rfl rfl rfl isAgg41 sizeOf41 w5|exact cn (k:=0) eS rfl rfl rfl isAgg41 sizeOf41 w5|exact cn (k:=0) gQ rfl rfl rfl isAgg41 sizeOf41 w5|exact pN (ds:=[_,_,_]) isAgg41 sizeOf41 rfl rfl)) ?_;refine OD.alloc (ds:=[_,_,_]) ap rfl rfl zeroValue41 rfl (fun b8=>?_);refine aN 0 [_,_,_] sizeOf41 ?_;refine an 107 [1,6,8,48,49,50] ?_;refine dO 1 ?_;refine bN (cU (mk:=Op.load 41) rfl ot (by first|exact nF (k:=0) (ds:=[_,_,_]) rfl rfl isAgg41 sizeOf41 rfl rfl|exact iJ jS isAgg41 sizeOf41 w5|exact iJ eS isAgg41 sizeOf41 w5|exact iJ gQ isAgg41 sizeOf41 w5|exact cn (k:=0) jS rfl rfl rfl isAgg41 sizeOf41 w5|exact cn (k:=1) jS rfl rfl rfl isAgg41 sizeOf41 w5|exact cn (k:=0) eS rfl rfl rfl isAgg41 sizeOf41 w5|exact cn (k:=1) eS rfl rfl rfl isAgg41 sizeOf41 w5|exact cn (k:=0) gQ rfl rfl rfl isAgg41 sizeOf41 w5|exact cn (k:=1) gQ rfl rfl rfl isAgg41 sizeOf41 w5|exact pN (ds:=[_,_,_]) isAgg41 sizeOf41 rfl rfl)) ?_;refine dV call75 (OB s.row[i] (hs.r ek _ (getElem_mem aa))) ?_;refine ev (cc 0 [_]) [.slice none 0 0] [_] zeroValue98 runUnderlying130 sizeOf98 (fun b57=>?_)
   refine fF 0 57 1 1 ?_;refine OD.en (ls:=((s.row.take i).map js)) (new:=[js s.row[i]]) (Sq:=Sv) gl pM ap rfl rfl underlying130 OV rfl w7 ot mS (dg (A:=[_,_])) ot bq (by simp only[maxLen,length_map,length_take,length_cons,length_nil];omega) (by simp only[length_map,length_take,length_cons,length_nil];omega) (fun Aq Z ajv ajw=>?_);refine OD.perm (ee (S1:=[⟨Aq,98,Z*1,flatMap cK (((s.row.take i).map js)++[js s.row[i]])⟩]) (A:=[_,_])) ?_;refine an 107 [1,6,48,49,50] ?_;refine cl [1,6,48,49,50] ?_;refine⟨((i+1),(some ⟨Aq,0,none⟩),Z,[⟨Aq,98,Z*1,flatMap cK (((s.row.take i).map js)++[js s.row[i]])⟩]),_,cz,(aK (h:=by repeat (first|exact trivial|refine⟨(by (repeat (first|exact fB|(apply fU;focus (first|rfl|(simp;done)|(congr 2;omega)|(apply eL;exact tF js aa)|(apply eL;simp;done)))|(apply fH;focus rfl)));done),?_⟩))),w4,(bp.cast (bH ajv ajw) (by exact tF js aa)),rfl⟩
  have US:=JD js (show s.row.length≤i by simp at ez;omega);have U:=SS (G:=G) (s.row.map js) F8 (QV s.row);rw[←US] at U rQ;refine aD 1 ?_;refine bN eK ?_;refine ev (cc 0 [_,_,_,_]) [.string ⟨#[]⟩,.string ⟨#[]⟩,.string ⟨#[]⟩,.string ⟨#[]⟩] [_,_,_,_] zeroValue9 runUnderlying29 sizeOf9 (fun NF=>?_);refine OD.perm (yM (S2:=[⟨NF,9,4*1,flatMap cS ([⟨#[73,78,83,69,82,84]⟩,⟨#[73,78,84,79]⟩,s.table,⟨#[86,65,76,85,69,83]⟩])⟩]) (A:=[_])) ?_;refine OD.ic (t:=62) (Sq:=[⟨NF,9,4*1,flatMap cS ([⟨#[73,78,83,69,82,84]⟩,⟨#[73,78,84,79]⟩,s.table,⟨#[86,65,76,85,69,83]⟩])⟩]) lk (bH (g:=cS) (sz:=1) (e:=9) (ls:=[⟨#[73,78,83,69,82,84]⟩,⟨#[73,78,84,79]⟩,s.table,⟨#[86,65,76,85,69,83]⟩]) (Nat.le_refl _) (show 4≤maxLen by decide)) (cu gQ _) (yL (A:=[_])) ?_;refine OD.call ap rfl rfl rfl call73 (y9 [⟨#[73,78,83,69,82,84]⟩,⟨#[73,78,84,79]⟩,s.table,⟨#[86,65,76,85,69,83]⟩] (by show 4≤10;decide)) ⟨ot,trivial⟩ (eR _) ?_;rintro _ De ⟨VR,xC,rfl,Cl⟩;refine OD.perm (yM (A:=[_])) ?_;refine aE 1 ?_;refine OD.ic (t:=64) (Sq:=Sv) lk mS (cu gl _) (oO (A:=[_])) ?_;refine dV call74 (U) ?_;refine OD.en (ls:=([⟨#[73,78,83,69,82,84]⟩,⟨#[73,78,84,79]⟩,s.table,⟨#[86,65,76,85,69,83]⟩].map bG)) (new:=(mi ((s.row.take i).map js))) (Sq:=De) iK lN ap rfl rfl underlying98 HU rfl w7 ot Cl (dg (A:=[_])) ot (QT _) pY w8 (fun pA zM zN zO=>?_)
  refine OD.perm (ee (S1:=[⟨pA,137,zM*3,flatMap cT (([⟨#[73,78,83,69,82,84]⟩,⟨#[73,78,84,79]⟩,s.table,⟨#[86,65,76,85,69,83]⟩].map bG)++(mi ((s.row.take i).map js)))⟩]) (A:=[_])) ?_;refine an 107 [2] ?_;refine CD.ic (t:=2) (Sq:=[⟨pA,137,zM*3,flatMap cT (([⟨#[73,78,83,69,82,84]⟩,⟨#[73,78,84,79]⟩,s.table,⟨#[86,65,76,85,69,83]⟩].map bG)++(mi ((s.row.take i).map js)))⟩]) lk (bH zN zO) (cu iK _) (dg (A:=[_])) ?_;refine aJ [] ?_;refine⟨?_,rfl⟩;unfold qA;rw[if_neg bE,if_neg cW,if_pos ek,←US]
 refine af [1,10,67] ?_;refine au ?_ ?_<;>intro fg gB
 ·refine cZ [2] ?_;refine aS 0 ?_ (h:=by exact(cU (mk:=Op.load 32) rfl ot (by first|exact nF (k:=0) (ds:=[_,_,_,_,_,_,_,_,_,_,_,_]) rfl rfl isAgg32 sizeOf32 rfl rfl|exact iJ jS isAgg32 sizeOf32 w5|exact iJ eS isAgg32 sizeOf32 w5|exact iJ gQ isAgg32 sizeOf32 w5|exact cn (k:=0) jS rfl rfl rfl isAgg32 sizeOf32 w5|exact cn (k:=0) eS rfl rfl rfl isAgg32 sizeOf32 w5|exact cn (k:=0) gQ rfl rfl rfl isAgg32 sizeOf32 w5|exact pN (ds:=[_,_,_,_,_,_,_,_,_,_,_,_]) isAgg32 sizeOf32 rfl rfl)));refine di (I (hs.w (.inl gB))) ?_;refine bK ?_;refine aJ [] ?_;refine⟨?_,rfl⟩;unfold qA;rw[if_neg bE,if_neg cW,if_neg ek,if_pos gB]
 refine af [1,10,71] ?_;refine au ?_ ?_<;>intro gY kS
 ·refine cZ [2] ?_;refine aS 1 ?_ (h:=by exact eK);refine aS 1 ?_ (h:=by exact eK);refine di (sA [⟨#[85,80,68,65,84,69]⟩,s.table,⟨#[83,69,84]⟩,s.set] (by show 4≤10;decide)) ?_;refine di (mZ ⟨#[61]⟩) ?_;refine aS 2 ?_ (h:=by exact eK);refine di (OU s.bV ajr (hs.t kS) (fun o h=>(hf.x o h).2)) ?_;refine aS 1 ?_ (h:=by exact eK);refine di (HP s.aj qf (hs.w (.inr (.inl kS))) (fun o h=>(hf.w o h).2) w4) ?_;refine di (Et [[⟨#[85,80,68,65,84,69]⟩,s.table,⟨#[83,69,84]⟩,s.set].map bG,[dW ⟨#[61]⟩],rj s.bV,kE s.aj] (by show 4≤1000;decide) (by simp only[flatten_cons,flatten_nil,length_append,length_map,length_cons,length_nil];omega) (by simp only[flatten_cons,flatten_nil,length_append,length_map,length_cons,length_nil];omega)) ?_;refine bK ?_;refine aJ [] ?_;refine⟨?_,rfl⟩;unfold qA;rw[if_neg bE,if_neg cW,if_neg ek,if_neg gB,if_pos kS]
 refine af [1,89] ?_;refine au ?_ ?_<;>intro gq lB
 ·refine CD.seq ?_;refine fE 8 (aq (take 1 _)) ?_ (fun _ h=>(Sublist.map _ (take_sublist _ _)).subset h);refine ay 0 rfl (dh 1) ?_;refine ay 1 rfl eK ?_;refine ay 4 rfl (dh 6) ?_;refine ay 5 rfl eK ?_;refine dm.later rfl ?_;refine AD.one (i:=2) aA ?_;refine iV (cc 0 [_,_,_]) [.string ⟨#[]⟩,.string ⟨#[]⟩,.string ⟨#[]⟩] [_,_,_] zeroValue9 runUnderlying29 sizeOf9 (fun X7=>?_);refine iW 0 93 1 3 ?_;refine AD.one (i:=3) aA ?_;refine bj.call rfl ap rfl rfl rfl call73 (y9 [⟨#[68,69,76,69,84,69]⟩,⟨#[70,82,79,77]⟩,s.table] (by show 3≤10;decide)) ⟨ot,trivial⟩ (eR _) iE ?_;rintro _ S94 ⟨apt,apu,rfl,ajx⟩;refine AD.perm (ee (A:=[_])) ?_;refine AD.one (i:=6) aA ?_;refine jm call80 (HP s.aj qf (hs.w (.inr (.inr lB))) (fun o h=>(hf.w o h).2) w4) ?_;refine AD.one (i:=7) aA ?_;refine bj.pF (ls:=([⟨#[68,69,76,69,84,69]⟩,⟨#[70,82,79,77]⟩,s.table].map bG)) (new:=(kE s.aj)) (Sq:=S94) iK lN rfl ap rfl rfl underlying98 HU rfl w7 runUnderlying98 sizeOf137 ot ajx (dg (A:=[_])) ot pY w8 (fun apv apw S98 ajy=>?_);refine AD.perm (ee (A:=[_])) ?_;refine eE ?_;refine bf [2] ?_;refine CD.ic (t:=2) (Sq:=S98) lk ajy (cu iK _) (dg (A:=[_])) ?_;refine eO ?_;refine⟨?_,rfl⟩;unfold qA;rw[if_neg bE,if_neg cW,if_neg ek,if_neg gB,if_neg kS,if_pos lB]
 obtain⟨j,hj,NG⟩:∃j:Nat,s.kind=((7+j:Nat):Int)∧j<Gw.length:=⟨(s.kind-7).toNat,by have:=hs.k1;have:=hs.k9;omega,by have:=hs.k1;have:=hs.k9;show _<3;omega⟩
 refine cZ [2] ?_;refine Ni (g:=cS) (Gw) ?_;refine aS 1 ?_ (h:=by exact eK);refine aS 0 ?_ (h:=by exact(dw (r:=.int .i64 ((j:Nat):Int)) rfl ot bP (gj (by rw[hj,show(((7+j:Nat)):Int)-7=((j:Nat):Int) by omega];exact wrap_i64 w4 (by have:j<3:=NG;omega)))));refine aS 1 ?_ (h:=by exact(cU (mk:=Op.load 9) rfl ot (by exact qu (i:=j) gQ isAgg9 NG rfl)));refine di (sA [Gw[j]] Am) ?_;refine bK ?_;refine aJ [] ?_;refine⟨?_,rfl⟩;unfold qA;rw[if_neg bE,if_neg cW,if_neg ek,if_neg gB,if_neg kS,if_neg lB,hj,show(((7+j:Nat):Int)-7).toNat=j by omega,mG NG];first|done|rfl

theorem OW:∀(l pre:List cG),ri pre l=0→∀c∈l,cL c.n=0∧1≤c.k∧c.k≤3
 | [],_,_,c,hc=>by cases hc
 | a::l,pre,h,c,hc=>by
  have h:(if nl pre a≠0 then nl pre a else ri (pre++[a]) l)=0:=h;by_cases h0:nl pre a=0
  ·rw[if_neg (by simp[h0])] at h;rcases mem_cons.1 hc with rfl|hc
   ·unfold nl at h0;by_cases h1:cL c.n=0
    ·rw[if_neg (by simp[h1])] at h0;by_cases h2:c.k<1∨c.k>3
     ·rw[if_pos h2] at h0;cases h0
     exact⟨h1,by omega⟩
    rw[if_pos h1] at h0;exact absurd h0 h1
   exact OW l _ h c hc
  rw[if_pos h0] at h;exact absurd h h0
theorem aaI{l:List cG}(h:fI l=0):(1≤l.length∧l.length≤6)∧∀c∈l,cL c.n=0∧1≤c.k∧c.k≤3:=by
 unfold fI at h;split at h
 ·cases h
 exact⟨by omega,OW l [] h⟩
theorem SV{α:Type}{f:α→Int}:∀{l:List α},jT f l=0→∀a∈l,f a=0
 | [],_,a,h=>by cases h
 | b::r,h,a,ha=>by
  unfold jT at h;split at h
  ·exact absurd h uf
  rcases mem_cons.1 ha with rfl|ha
  ·have hn:¬f a≠0:=(by assumption)
   omega
  exact SV h a ha
theorem JF{l:List aX}(h:nH l=0):l.length=0∨fK 0 l=0:=by
 unfold nH at h;split at h
 ·exact .inl uf
 right;unfold iR at h;split at h
 ·cases h
 exact h
theorem afT{l:List aX}(h:iR l=0):fK 0 l=0∧l.length≤40:=by
 unfold iR at h;split at h
 ·cases h
 exact⟨h,by omega⟩
theorem ahk{s:cA}(h:gd s=0):iO s=0∧jF s (gI s)=true∧(s.kind<7→cL s.table=0):=by
 unfold gd at h;split at h
 ·rename_i h1;exact absurd h h1.2
 rename_i h1;split at h
 ·cases h
 rename_i h2;refine⟨h,?_,fun hk=>?_⟩
 ·cases hb:jF s (gI s) with
  | true=>rfl
  | false=>exact absurd ⟨h,hb⟩ h2
 by_cases hn:cL s.table=0
 ·exact hn
 exact absurd ⟨hk,hn⟩ h1
theorem ahl{s:cA}(hf:jM s)(h1:1≤s.kind)(I:s.kind≤9)(h:gd s=0):X4 s:=by
 have he:=(ahk h).1;unfold iO at he;refine⟨hf,h1,I,fun hk=>?_,fun hk v E=>?_,fun hk=>?_,fun hk=>?_⟩
 ·rw[if_pos hk] at he;exact fun c hc=>((aaI he).2 c hc).2
 ·rw[if_neg w4,if_pos hk] at he;unfold ec at he;split at he
  ·cases he
  exact Uk (SV he v E) (hf.r v E).1 (hf.r v E).2
 ·by_cases h4:s.kind=4
  ·rw[if_neg w4,if_neg w4,if_pos h4] at he;unfold oT at he;repeat' split at he
   all_goals first|(exfalso;omega)|exact JF w4
  by_cases h5:s.kind=5
  ·rw[if_neg w4,if_neg w4,if_neg h4,if_pos h5] at he;repeat' split at he
   all_goals first|(exfalso;omega)|exact JF he
  rw[if_neg w4,if_neg w4,if_neg h4,if_neg h5,if_pos w4] at he;exact JF he
 rw[if_neg w4,if_neg w4,if_neg w4,if_pos hk] at he;repeat' split at he
 all_goals first|(exfalso;omega)|exact(afT uf).1
def gz(s:cA):Int:=if s.kind<1∨s.kind>9 then 2 else if gd s≠0 then gd s else if (qA s).length>100 then 10 else 0
theorem QW(hm:(3,marksC)∈G)(hw:(1,wordsC)∈G)(O:(0,typesC)∈G)(s:cA)(hf:jM s):VP Tryz.prog G 25 [.agg (bU s)] (ae (gz s)):=by
 refine VC.body func25 rfl ntmps25 aQ fun X0 w0 bg=>?_;have dz:=ei;have e9:=aaH hm hw s hf;unfold bU at e9;unfold bU;have Z:(s.kind<1∨s.kind>9)∨¬(s.kind<1∨s.kind>9):=(by omega)
 refine bY ?_;refine OD.box (ds:=[_,_,_,_,_,_,_,_,_,_,_,_]) ap rfl rfl ot rfl rfl (fun b1=>?_);refine an 21 [1] ?_;refine aD 4 ?_;refine bW 7 (fun U E=>?_) (fun U E=>?_)
 ·refine bf [1,11] ?_;refine eI ?_;have aV:gz s=2:=if_pos w4;exact xZ
 refine bf [1,11] ?_;refine au ?_ ?_<;>intro aO bE
 ·have aV:gz s=2:=if_pos w4;exact xZ
 have hk:¬(s.kind<1∨s.kind>9):=(by omega)
 refine cX [1,3] (e9) ?_;refine af [1,3,15] ?_;refine au ?_ ?_<;>intro aY cJ
 ·have hn:gd s≠0:=(by simpa using aY)
  have aV:gz s=gd s:=(by unfold gz;rw[if_neg hk,if_pos hn])
  exact xZ
 have h0:gd s=0:=(by simpa using aY)
 have I:=aej O s (ahl hf w4 w4 h0);unfold bU at I;have gN:¬gd s≠0:=fun h=>h h0;refine cX [20] (I) ?_;refine au ?_ ?_<;>intro cm cW
 ·have aV:gz s=10:=(by unfold gz;rw[if_neg hk,if_neg gN,if_pos (by simp at cm;omega)])
  exact xZ
 have aV:gz s=0:=(by unfold gz;rw[if_neg hk,if_neg gN,if_neg (by simp at cm;omega)])
 refine af [2] ?_;refine eO ?_;rw[aV];exact⟨rfl,rfl⟩

end Go.Proofs.YtdgichenhdikgaaGreatDoor.Pa
namespace Go.Proofs.YtdgichenhdikgaaGreatDoor.Pc
open List
open Go.Proofs.Tryz
open Go.RowKit V Pk Vl Go.Proofs.YtdgichenhdikgaaGreatDoor.Nm Pa
variable {G:List (Nat×List Value)}
variable {i:Nat}
theorem afU:cL ⟨#[116]⟩=0:=tq (l:=[116]) w7 w7 (fun c hc=>by simp only[mem_singleton] at hc;subst hc;decide)
def qS(l:List cG):cA:={ga with kind:=1,table:=⟨#[116]⟩,az:=l}
theorem ahm{l:List cG}(h6:l.length≤6)(aR:∀c∈l,c.n.size≤maxLen):jM (qS l) :=
 ⟨⟨h6,Nat.zero_le _,Nat.zero_le _,Nat.zero_le _,Nat.zero_le _⟩,(by show 1≤maxLen;decide),aR,(fun _ h=>by cases h),Nat.zero_le _,Nat.zero_le _,(fun _ h=>by cases h),(fun _ h=>by cases h),(fun _ h=>by cases h)⟩
theorem afV(l:List cG):jF (qS l) (qS l)=true:=by
 unfold jF;simp only[Bool.and_eq_true,beq_iff_eq,wC,and_self]
theorem aek(l:List cG):gd (qS l)=fI l:=by
 have h1:iO (qS l)=fI l:=rfl;have h2:gI (qS l)=qS l:=rfl;unfold gd;rw[if_neg (fun h=>h.2 afU),h2,h1,if_neg (fun h=>by rw[afV] at h;cases h.2)]
theorem aco{l:List cG}(h6:l.length≤6):gz (qS l)=fI l:=by
 unfold gz;rw[if_neg (fun h=>by have:(qS l).kind=1:=rfl;omega),aek];split
 ·rfl
 rename_i h0;have h1:=E2 (ts:=l.map ji) (JE l) (l.map ji).length;have h2:(mi (l.map ji)).length≤80:=(by unfold mi;rw[length_append];rw[length_map] at h1 ⊢;simp only[length_cons,length_nil];omega)
 have h3:(qA (qS l)).length≤100:=by
  show([_,_,_].map bG++mi (l.map ji)).length≤100;rw[length_append];simp only[length_map,length_cons,length_nil];omega
 rw[if_neg w4];simp only[ne_eq,Decidable.not_not] at h0;exact h0.symm
def NH(l:List cG):List D:=[ae 1,bn ⟨#[116]⟩,av 2 cC l,bA,bA,bS false,bA,eT,bS false,ae (-1),eT,bA]
theorem aaJ(hm:(3,marksC)∈G)(hw:(1,wordsC)∈G)(ht:(0,typesC)∈G)(l:List cG)(hl:l.length≤6)(aR:∀c∈l,c.n.size≤maxLen):VP Tryz.prog G 25 [.agg (NH l)] (ae (fI l)):=by
 have h:=Pa.QW (G:=G) hm hw ht (qS l) (ahm hl aR);rw[aco hl] at h;refine VC.args h rfl fun w L i h1 h2 v E=>?_;have:i=0:=(by simp only[length_cons,length_nil] at h1;omega)
 subst this;exact BB (a:=NH l) (b:=bU (qS l)) ⟨dQ,dQ,dQ,fp,fp,dQ,fp,dQ,dQ,dQ,dQ,fp,trivial⟩ w L v E
theorem Ff(hm:(3,marksC)∈G)(hw:(1,wordsC)∈G)(ht:(0,typesC)∈G)(l:List cG)(hl:l.length≤6)(aR:∀c∈l,c.n.size≤maxLen):VP Tryz.prog G 54 [av 2 cC l] (ae (fI l)):=by
 refine VC.body func54 rfl ntmps54 aQ fun X0 w0 bg=>?_;have dz:=ei;have e9:=aaJ hm hw ht l hl aR;unfold NH at e9;refine af [0] ?_;refine cX [2] (e9) ?_;exact nw
def lR(i:Nat)(c:cG)(v:Vl):Int:=if cD v≠0 then cD v else if v.k≠c.k∧(i=0∨v.k≠0) then 4 else 0
def oX:Nat→List cG→List Vl→Int
 | i,c::cs,v::vs=>if lR i c v≠0 then lR i c v else oX (i+1) cs vs
 | _,_,_=>0
def ec(cs:List cG)(vs:List Vl):Int:=if fI cs≠0 then fI cs else if vs.length≠cs.length then 1 else oX 0 cs vs
theorem aaq{cs:List cG}{vs:List Vl}(h1:i<cs.length)(h2:i<vs.length)(h:lR i cs[i] vs[i]=0):oX i (cs.drop i) (vs.drop i)=oX (i+1) (cs.drop (i+1)) (vs.drop (i+1)):=by
 rw[drop_eq_getElem_cons h1,drop_eq_getElem_cons h2];exact if_neg (by simp[h])
theorem Qp{cs:List cG}{vs:List Vl}(h1:i<cs.length)(h2:i<vs.length)(h:lR i cs[i] vs[i]≠0):oX i (cs.drop i) (vs.drop i)=lR i cs[i] vs[i]:=by
 rw[drop_eq_getElem_cons h1,drop_eq_getElem_cons h2];exact if_pos h
theorem acp{cs:List cG}{vs:List Vl}(h:¬i<vs.length):oX i (cs.drop i) (vs.drop i)=0:=by
 rw[drop_of_length_le (l:=vs) w4];cases cs.drop i<;>rfl
theorem Kh(hm:(3,marksC)∈G)(hw:(1,wordsC)∈G)(ht:(0,typesC)∈G)(l:List cG)(hl:l.length≤6)(aR:∀c∈l,c.n.size≤maxLen)(vs:List Vl)(rQ:vs.length≤maxLen):VP Tryz.prog G 33 [av 2 cC l,av 3 cV vs] (ae (ec l vs)):=by
 refine VC.body func33 rfl ntmps33 aQ fun X0 w0 bg=>?_;have dz:=ei;refine af [0,1] ?_;refine cX [0,1,5] (Ff hm hw ht l hl aR) ?_;refine af [0,1,5,12] ?_;refine au ?_ ?_<;>intro aO bE
 ·have hne:fI l≠0:=(by simpa using aO)
  have aV:ec l vs=fI l:=if_pos hne;refine af [4] ?_;exact oE
 have h0:¬fI l≠0:=(by simpa using aO)
 refine af [0,1,18] ?_;refine au ?_ ?_<;>intro aY cJ
 ·have aV:ec l vs=1:=(by unfold ec;rw[if_neg h0,if_pos w4])
  refine af [4] ?_;exact oE
 have Z:vs.length=l.length:=(by omega)
 have E:ec l vs=oX 0 (l.drop 0) (vs.drop 0):=(by unfold ec;rw[if_neg h0,if_neg (by simp[Z])];rfl)
 refine af [0,19,20,21] ?_;refine eD [0,19,20] (fun aW _ (i:Nat) aH=>(i≤vs.length)∧(ec l vs=oX i (l.drop i) (vs.drop i))∧aH=(⟨49,(21,ae (i:Nat))::aW,[]⟩:St)) (fun (i:Nat)=>vs.length-i) 0 ⟨(Nat.zero_le _),E,rfl⟩ ?_;rintro i _ ⟨hi,hinv,rfl⟩;refine af [0,19,20,21,22] ?_;refine au ?_ ?_<;>intro cm cW
 ·have aa:i<vs.length:=(by omega)
  have K8:i<l.length:=(by omega)
  refine aD 3 ?_;refine OD.alloc (ds:=[_,_,_]) ap rfl rfl zeroValue41 rfl (fun b7=>?_);refine aE 1 ?_;refine aN 0 [_,_,_] sizeOf41 ?_;refine an 49 [0,6,7,19,20,21] ?_;refine cX [0,6,7,8,19,20,21] (Vl.pH vs[i]) ?_;refine af [0,6,7,8,19,20,21,29] ?_;refine au ?_ ?_<;>intro da ek
  ·have hne:cD vs[i]≠0:=(by simpa using da)
   have hf:lR i l[i] vs[i]=cD vs[i]:=if_pos hne;have aV:ec l vs=cD vs[i]:=(by rw[hinv,Qp K8 aa (by rw[hf];exact hne),hf])
   refine af [4] ?_;exact oE
  have hz:¬cD vs[i]≠0:=(by simpa using da)
  refine CD.skip ?_;refine CD.seq ?_;refine mv 7 [0,6,7,19,20,21,32,37] ?_;refine bK ?_;refine aE 2 ?_;refine bW 39 (fun U I=>?_) (fun U I=>?_)
  ·refine aE 3 ?_;refine bW 42 (fun ru O=>?_) (fun ru O=>?_)
   ·refine bf [0,19,20,21,47] ?_;refine eI ?_;exact W6
   refine bf [0,19,20,21,47] ?_;refine au ?_ ?_<;>intro ez fw
   ·exact W6
   exact W8
  refine bf [0,19,20,21,47] ?_;refine fN ?_;exact W8
 have aV:ec l vs=0:=(by rw[hinv];exact acp w4)
 refine af [4] ?_;exact uz

end Go.Proofs.YtdgichenhdikgaaGreatDoor.Pc

namespace Go.Proofs.YtdgichenhdikgaaGreatDoor.Nm
open List
open Go.Proofs.Tryz
open Go.RowKit V Pk Vl
inductive Tw where
 | mk (k n:Int) (s:ByteArray) (ts:List Tw)
mutual
def Tw.cs:Tw→List D
 | .mk k n s ts=>[.v (.int .i64 k),.v (.int .i64 n),.v (.string s),.list 4 (Tw.mB ts) ts.length]
def Tw.mB:List Tw→List D
 | []=>[]
 | t::r=>t.cs++Tw.mB r
end
theorem Tw.Ki:∀ts:List Tw,Tw.mB ts=ts.flatMap Tw.cs
 | []=>rfl
 | t::r=>by rw[Tw.mB,Tw.Ki r,flatMap_cons]
theorem Tw.Fy(t:Tw):t.cs.length=4:=by cases t;rfl
mutual
def Tw.Ok:Tw→Prop
 | .mk k n s ts=>(-9223372036854775808≤k∧k≤9223372036854775807)∧(-9223372036854775808≤n∧n≤9223372036854775807)∧s.size≤maxLen∧ts.length≤maxLen∧Tw.Hu ts
def Tw.Hu:List Tw→Prop
 | []=>True
 | t::r=>t.Ok∧Tw.Hu r
end
theorem Tw.SX:∀{ts:List Tw},Tw.Hu ts→∀t∈ts,t.Ok
 | [],_,t,h=>by cases h
 | a::r,⟨h1,h2⟩,t,h=>by
  rcases mem_cons.1 h with rfl|h
  ·exact h1
  exact Tw.SX h2 t h
theorem Tw.SY:∀{ts:List Tw},(∀t∈ts,t.Ok)→Tw.Hu ts
 | [],_=>trivial
 | a::r,h=>⟨h a mem_cons_self,Tw.SY fun t ht=>h t (mem_cons_of_mem _ ht)⟩

def om(j:Int):ByteArray:=if j=0 then ⟨#[105,100]⟩ else if j=1 then ⟨#[110]⟩ else if j=2 then ⟨#[115]⟩ else ⟨#[98]⟩
def uh(n:Int)(s:ByteArray):Vl:={pK ⟨n,dU n 40-20,s⟩ with s:=nM (pK ⟨n,dU n 40-20,s⟩).s 4}
def sC(n:Int)(s:ByteArray):aX:=⟨1,uh n s,⟨#[]⟩⟩
def wP(n:Int):aX:=⟨2,bJ,om (dU n 4)⟩
def rf(k:Int):aX:=⟨k,bJ,⟨#[]⟩⟩
def mF(k n:Int)(s:ByteArray):List aX:=if 1+dU k 11=2 then [wP n] else [sC n s]
def iB:Nat→Tw→List aX
 | 0,.mk k n s _=>mF k n s
 | r+1,.mk k n s ts =>
  if 1+dU k 11=1 then [sC n s]
  else if 1+dU k 11=2 then [wP n]
  else if 1+dU k 11=5∨1+dU k 11=11 then (match ts[0]? with|some t=>iB r t|none=>mF n 0 s)++[rf (1+dU k 11)]
  else ((match ts[0]? with|some t=>iB r t|none=>mF n 0 s)++(match ts[1]? with|some t=>iB r t|none=>mF n 1 s))++[rf (1+dU k 11)]
def gJ(r:Nat)(ts:List Tw)(n:Int)(s:ByteArray)(i:Nat):List aX:=match ts[i]? with|some t=>iB r t|none=>mF n i s
theorem yO(k n:Int)(s:ByteArray):(mF k n s).length=1:=by unfold mF;split<;>rfl
theorem JG:∀(r:Nat) (t:Tw),1≤(iB r t).length∧(iB r t).length+1≤2 ^ (r+1)
 | 0,.mk k n s ts=>by rw[iB,yO];exact⟨by decide,by decide⟩
 | r+1,.mk k n s ts=>by
  have E:∀i:Nat,1≤(gJ r ts n s i).length∧(gJ r ts n s i).length+1≤2 ^ (r+1):=fun i=>by
   unfold gJ;split
   ·exact JG r _
   rw[yO];exact⟨by decide,by rw[Nat.pow_succ];have:=Nat.one_le_two_pow (n:=r);omega⟩
  have h0:=E 0;have h1:=E 1;unfold gJ at h0 h1;have hp:2 ^ (r+1+1)=2 ^ (r+1)+2 ^ (r+1):=(by rw[Nat.pow_succ];omega)
  rw[iB];simp only[Int.natCast_zero,Int.natCast_one] at h0 h1;split
  ·exact⟨by simp,by simp;omega⟩
  split
  ·exact⟨by simp,by simp;omega⟩
  split<;>simp only[length_append,length_cons,length_nil]<;>omega
theorem SZ(r:Nat)(ts:List Tw)(n:Int)(s:ByteArray)(i:Nat):1≤(gJ r ts n s i).length∧(gJ r ts n s i).length+1≤2 ^ (r+1):=by
 unfold gJ;split
 ·exact JG r _
 rw[yO];exact⟨by decide,by rw[Nat.pow_succ];have:=Nat.one_le_two_pow (n:=r);omega⟩
theorem OX(r:Vl):(pK r).s.size≤10:=by
 unfold pK bJ;split
 ·exact Nat.zero_le _
 split
 ·exact Nat.zero_le _
 split
 ·show(nM r.s 10).size≤10;rw[Iq];omega
 decide
theorem S4{j:Nat}(h:j<4):[D.v (.string ⟨#[105,100]⟩),D.v (.string ⟨#[110]⟩),D.v (.string ⟨#[115]⟩),D.v (.string ⟨#[98]⟩)][j*1]?=some (bn (om (j:Int))):=by
 match j,h with
 | 0,_|1,_|2,_|3,_=>rfl
variable {G:List (Nat×List Value)}
abbrev xE(ls:List aX)(r:D)(S:List ah):Prop:=gm cO 43 5 ls r S

theorem S5(k n d:Int)(s:ByteArray)(d4:D)(h4:kP d4=true)(dP:-9223372036854775808≤k)(fy:k≤9223372036854775807)(gv:-9223372036854775808≤n)(iX:n≤9223372036854775807)(hs:s.size≤maxLen)(hd:2<d):VC Tryz.prog G 32 [.agg [ae k,ae n,bn s,d4],ae d] [] (xE (mF k n s)):=by
 refine VC.body func32 rfl ntmps32 aQ fun X0 w0 bg=>?_;have yl:=jD k (by decide:(1:Int)≤11);have hpn:=jD n (by decide:(1:Int)≤40);have U:=jD n (by decide:(1:Int)≤4);obtain⟨j,hj⟩:=Int.eq_ofNat_of_zero_le U.1;have Z:j<4:=(by omega)
 have I:=kp G n 4 gv iX w7;rw[hj] at I;have fR:(⟨n,dU n 40-20,s⟩:Vl).Ok:=⟨gv,iX,by show _≤dU n 40-20;omega,by show dU n 40-20≤_;omega,hs⟩
 have Xw:=OX ⟨n,dU n 40-20,s⟩;have hml:100≤maxLen:=(by decide)
 obtain⟨kk,lF⟩:∃kk:Int,1+dU k 11=kk:=⟨_,rfl⟩
 refine bY ?_;refine OD.box (ds:=[_,_,_,_]) ap rfl rfl ot rfl rfl (fun b2=>?_);refine OD.box (ds:=[_]) ap rfl rfl ot rfl rfl (fun b3=>?_);refine an 69 [2,3] ?_;refine cZ [2,3,5] ?_;refine di (kp G k 11 dP fy w7) ?_;refine aS 0 ?_ (h:=by exact(dw (r:=.int .i64 kk) rfl bP ot (kx (by rw[lF];exact wrap_i64 w4 w4))));refine bK ?_;refine aD 3 ?_;refine bW 14 (fun E O=>?_) (fun E O=>?_)
 ·refine bf [2,3,5,17] ?_;refine au ?_ ?_<;>intro aO bE
  ·refine cl [2,3,5] ?_;refine cZ [2,5,6] ?_;refine aS 0 ?_ (h:=by exact(pG (ds:=[_,_]) rfl ⟨ot,ot,trivial⟩));refine bK ?_;refine af [2,5,6,19] ?_;refine af [2,5,6,19,20] ?_;refine eI ?_;exact z116
  refine cZ [2,5,6] ?_;refine aS 0 ?_ (h:=by exact(pG (ds:=[_,_]) rfl ⟨ot,ot,trivial⟩));refine bK ?_;refine af [2,5,6,19] ?_;refine af [2,5,6,19,20] ?_;refine au ?_ ?_<;>intro aY cJ
  ·exact z116
  refine af [2,5,6,19,40] ?_;refine au ?_ ?_<;>intro cm cW
  ·refine aD 1 ?_;refine ev (cc 0 [_,_,_,_]) [.string ⟨#[]⟩,.string ⟨#[]⟩,.string ⟨#[]⟩,.string ⟨#[]⟩] [_,_,_,_] zeroValue9 runUnderlying29 sizeOf9 (fun NI=>?_);refine fF 0 43 1 4 ?_;refine aE 2 ?_;refine dV call21 (I) ?_;refine aE 1 ?_;refine bN (cU (mk:=Op.load 9) rfl ot (Cf isAgg9 (S4 Z))) ?_;refine aE 1 ?_;refine ev (cc 0 [_]) [.int .i64 0,.int .i64 0,.int .i64 0,.string ⟨#[]⟩,.string ⟨#[]⟩] [_,_,_,_,_] zeroValue43 runUnderlying30 sizeOf43 (fun AK=>?_);exact z28
  exact absurd cm (by simp at aO aY cm;omega)
 exact absurd E (by simp at E;omega)

end Go.Proofs.YtdgichenhdikgaaGreatDoor.Nm
