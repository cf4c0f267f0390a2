/-
  What the proof of LimitNone leans on, part 4 of 8: walks of the program's functions at the level of values, and plain facts of what they compute.
-/
import Derived.Test.YtdgichenhdikgaaGreatDoorPLimitNone3
set_option linter.unusedVariables false
set_option linter.unusedSimpArgs false
set_option maxRecDepth 100000
set_option maxHeartbeats 4000000
namespace Go.Proofs.YtdgichenhdikgaaGreatDoor.V
open List
open Go.RowKit V
instance ik3:Ik Tryz.prog 3 .i64:=⟨by kernel_rfl⟩
instance anT:Sl Tryz.prog 22 14:=⟨by kernel_rfl⟩
instance anU:Sl Tryz.prog 23 5:=⟨by kernel_rfl⟩
instance ano:sN Tryz.prog 23 5:=⟨by kernel_rfl⟩
instance amC:Fo Tryz.prog 25 0 0:=⟨by kernel_rfl⟩
instance anV:Sz Tryz.prog 25 1:=⟨by kernel_rfl⟩
instance anW:Sb Tryz.prog 25 [.slice none 0 0] [(0,1)]:=⟨by kernel_rfl,by kernel_rfl⟩
instance anX:Sl Tryz.prog 27 2:=⟨by kernel_rfl⟩
instance anY:Sl Tryz.prog 28 3:=⟨by kernel_rfl⟩
instance anp:sN Tryz.prog 28 3:=⟨by kernel_rfl⟩
instance anZ:Sl Tryz.prog 29 1:=⟨by kernel_rfl⟩
instance anq:sN Tryz.prog 29 1:=⟨by kernel_rfl⟩
instance an0:Sl Tryz.prog 30 5:=⟨by kernel_rfl⟩
instance amD:Fo Tryz.prog 32 0 0:=⟨by kernel_rfl⟩
instance amE:Fo Tryz.prog 32 1 1:=⟨by kernel_rfl⟩
instance amF:Fo Tryz.prog 32 2 2:=⟨by kernel_rfl⟩
instance amG:Fo Tryz.prog 32 3 3:=⟨by kernel_rfl⟩
instance amH:Fo Tryz.prog 32 4 4:=⟨by kernel_rfl⟩
instance amI:Fo Tryz.prog 32 5 5:=⟨by kernel_rfl⟩
instance amJ:Fo Tryz.prog 32 6 6:=⟨by kernel_rfl⟩
instance amK:Fo Tryz.prog 32 7 7:=⟨by kernel_rfl⟩
instance amL:Fo Tryz.prog 32 8 8:=⟨by kernel_rfl⟩
instance amM:Fo Tryz.prog 32 9 9:=⟨by kernel_rfl⟩
instance amh:Fo Tryz.prog 32 10 10:=⟨by kernel_rfl⟩
instance ami:Fo Tryz.prog 32 11 11:=⟨by kernel_rfl⟩
instance an1:Sz Tryz.prog 32 12:=⟨by kernel_rfl⟩
instance an2:Sb Tryz.prog 32 [.int .i64 0,.string ⟨#[]⟩,.slice none 0 0,.slice none 0 0,.slice none 0 0,.bool false,.slice none 0 0,.string ⟨#[]⟩,.bool false,.int .i64 0,.string ⟨#[]⟩,.slice none 0 0] [(0,1),(1,1),(2,1),(3,1),(4,1),(5,1),(6,1),(7,1),(8,1),(9,1),(10,1),(11,1)]:=⟨by kernel_rfl,by kernel_rfl⟩
instance an3:Sl Tryz.prog 34 1:=⟨by kernel_rfl⟩
instance amN:Fo Tryz.prog 36 0 0:=⟨by kernel_rfl⟩
instance an4:Sz Tryz.prog 36 2:=⟨by kernel_rfl⟩
instance an5:Sb Tryz.prog 36 [.slice none 0 0,.int .i64 0] [(0,1),(1,1)]:=⟨by kernel_rfl,by kernel_rfl⟩
instance amO:Fo Tryz.prog 41 0 0:=⟨by kernel_rfl⟩
instance amP:Fo Tryz.prog 41 1 1:=⟨by kernel_rfl⟩
instance amQ:Fo Tryz.prog 41 2 2:=⟨by kernel_rfl⟩
instance an6:Sz Tryz.prog 41 3:=⟨by kernel_rfl⟩
instance an7:Sb Tryz.prog 41 [.int .i64 0,.int .i64 0,.string ⟨#[]⟩] [(0,1),(1,1),(2,1)]:=⟨by kernel_rfl,by kernel_rfl⟩
instance amR:Fo Tryz.prog 43 0 0:=⟨by kernel_rfl⟩
instance amS:Fo Tryz.prog 43 1 1:=⟨by kernel_rfl⟩
instance amT:Fo Tryz.prog 43 2 4:=⟨by kernel_rfl⟩
instance an8:Sz Tryz.prog 43 5:=⟨by kernel_rfl⟩
instance an9:Sb Tryz.prog 43 [.int .i64 0,.int .i64 0,.int .i64 0,.string ⟨#[]⟩,.string ⟨#[]⟩] [(0,1),(1,3),(4,1)]:=⟨by kernel_rfl,by kernel_rfl⟩
instance aoa:Sl Tryz.prog 49 5:=⟨by kernel_rfl⟩
instance amU:Fo Tryz.prog 51 0 0:=⟨by kernel_rfl⟩
instance amV:Fo Tryz.prog 51 1 1:=⟨by kernel_rfl⟩
instance aob:Sz Tryz.prog 51 2:=⟨by kernel_rfl⟩
instance aoc:Sb Tryz.prog 51 [.slice none 0 0,.int .i64 0] [(0,1),(1,1)]:=⟨by kernel_rfl,by kernel_rfl⟩
instance amW:Fo Tryz.prog 53 0 0:=⟨by kernel_rfl⟩
instance amX:Fo Tryz.prog 53 1 1:=⟨by kernel_rfl⟩
instance amY:Fo Tryz.prog 53 2 2:=⟨by kernel_rfl⟩
instance amZ:Fo Tryz.prog 53 3 3:=⟨by kernel_rfl⟩
instance aod:Sz Tryz.prog 53 5:=⟨by kernel_rfl⟩
instance aoe:Sb Tryz.prog 53 [.string ⟨#[]⟩,.slice none 0 0,.slice none 0 0,.slice none 0 0,.int .i64 0] [(0,1),(1,1),(2,1),(3,2)]:=⟨by kernel_rfl,by kernel_rfl⟩
instance am0:Fo Tryz.prog 62 0 0:=⟨by kernel_rfl⟩
instance am1:Fo Tryz.prog 62 1 1:=⟨by kernel_rfl⟩
instance am2:Fo Tryz.prog 62 2 2:=⟨by kernel_rfl⟩
instance am3:Fo Tryz.prog 62 3 3:=⟨by kernel_rfl⟩
instance aof:Sz Tryz.prog 62 4:=⟨by kernel_rfl⟩
instance aog:Sb Tryz.prog 62 [.int .i64 0,.int .i64 0,.string ⟨#[]⟩,.slice none 0 0] [(0,1),(1,1),(2,1),(3,1)]:=⟨by kernel_rfl,by kernel_rfl⟩
instance aoh:Sl Tryz.prog 67 1:=⟨by kernel_rfl⟩
instance anr:sN Tryz.prog 67 1:=⟨by kernel_rfl⟩
instance am4:Fo Tryz.prog 69 0 0:=⟨by kernel_rfl⟩
instance am5:Fo Tryz.prog 69 1 1:=⟨by kernel_rfl⟩
instance aoi:Sz Tryz.prog 69 2:=⟨by kernel_rfl⟩
instance aoj:Sb Tryz.prog 69 [.string ⟨#[]⟩,.int .i64 0] [(0,1),(1,1)]:=⟨by kernel_rfl,by kernel_rfl⟩
instance am6:Fo Tryz.prog 77 1 1:=⟨by kernel_rfl⟩
instance am7:Fo Tryz.prog 77 2 2:=⟨by kernel_rfl⟩
instance am8:Fo Tryz.prog 77 3 3:=⟨by kernel_rfl⟩
instance am9:Fo Tryz.prog 77 4 4:=⟨by kernel_rfl⟩
instance ana:Fo Tryz.prog 77 5 5:=⟨by kernel_rfl⟩
instance anb:Fo Tryz.prog 77 6 9:=⟨by kernel_rfl⟩
instance anc:Fo Tryz.prog 77 7 13:=⟨by kernel_rfl⟩
instance aok:Sz Tryz.prog 77 14:=⟨by kernel_rfl⟩
instance aol:Sb Tryz.prog 77 [.int .i64 0,.int .i64 0,.int .i64 0,.int .i64 0,.slice none 0 0,.int .i64 0,.int .i64 0,.string ⟨#[]⟩,.slice none 0 0,.int .i64 0,.int .i64 0,.string ⟨#[]⟩,.slice none 0 0,.bool false] [(0,1),(1,1),(2,1),(3,1),(4,1),(5,4),(9,4),(13,1)]:=⟨by kernel_rfl,by kernel_rfl⟩
instance aom:Sl Tryz.prog 85 2:=⟨by kernel_rfl⟩
instance ane:Fo Tryz.prog 90 1 1:=⟨by kernel_rfl⟩
instance aon:Sz Tryz.prog 90 2:=⟨by kernel_rfl⟩
instance ans:sN Tryz.prog 98 3:=⟨by kernel_rfl⟩
instance amj:Fo Tryz.prog 114 0 0:=⟨by kernel_rfl⟩
instance amk:Fo Tryz.prog 114 1 1:=⟨by kernel_rfl⟩
instance aml:Fo Tryz.prog 114 2 2:=⟨by kernel_rfl⟩
instance ant:Sz Tryz.prog 114 3:=⟨by kernel_rfl⟩
instance anu:Sb Tryz.prog 114 [.int .i64 0,.int .i64 0,.string ⟨#[]⟩] [(0,1),(1,1),(2,1)]:=⟨by kernel_rfl,by kernel_rfl⟩
instance anv:Sl Tryz.prog 130 1:=⟨by kernel_rfl⟩
instance anf:sN Tryz.prog 130 1:=⟨by kernel_rfl⟩
instance amm:Fo Tryz.prog 137 0 0:=⟨by kernel_rfl⟩
instance amn:Fo Tryz.prog 137 1 1:=⟨by kernel_rfl⟩
instance amo:Fo Tryz.prog 137 2 2:=⟨by kernel_rfl⟩
instance anw:Sz Tryz.prog 137 3:=⟨by kernel_rfl⟩
instance anx:Sb Tryz.prog 137 [.int .i64 0,.string ⟨#[]⟩,.int .i64 0] [(0,1),(1,1),(2,1)]:=⟨by kernel_rfl,by kernel_rfl⟩
instance anz:Sl Tryz.prog 151 1:=⟨by kernel_rfl⟩
instance amq:Fo Tryz.prog 153 0 0:=⟨by kernel_rfl⟩
instance amr:Fo Tryz.prog 153 1 1:=⟨by kernel_rfl⟩
instance ams:Fo Tryz.prog 153 2 2:=⟨by kernel_rfl⟩
instance amt:Fo Tryz.prog 153 3 3:=⟨by kernel_rfl⟩
instance amu:Fo Tryz.prog 153 4 4:=⟨by kernel_rfl⟩
instance anA:Sz Tryz.prog 153 5:=⟨by kernel_rfl⟩
instance anB:Sb Tryz.prog 153 [.bool false,.slice none 0 0,.slice none 0 0,.slice none 0 0,.int .i64 0] [(0,1),(1,1),(2,1),(3,1),(4,1)]:=⟨by kernel_rfl,by kernel_rfl⟩
instance anC:Sl Tryz.prog 157 1:=⟨by kernel_rfl⟩
instance amv:Fo Tryz.prog 159 0 0:=⟨by kernel_rfl⟩
instance amw:Fo Tryz.prog 159 1 2:=⟨by kernel_rfl⟩
instance amx:Fo Tryz.prog 159 2 3:=⟨by kernel_rfl⟩
instance anD:Sz Tryz.prog 159 4:=⟨by kernel_rfl⟩
instance anE:Sb Tryz.prog 159 [.slice none 0 0,.int .i64 0,.map none,.slice none 0 0] [(0,2),(2,1),(3,1)]:=⟨by kernel_rfl,by kernel_rfl⟩
instance anF:Sz Tryz.prog 203 0:=⟨by kernel_rfl⟩
instance anG:Sb Tryz.prog 203 [] []:=⟨by kernel_rfl,by kernel_rfl⟩
instance anH:Ik Tryz.prog 213 .u64:=⟨by kernel_rfl⟩
instance amy:Fo Tryz.prog 225 0 0:=⟨by kernel_rfl⟩
instance amz:Fo Tryz.prog 225 1 1:=⟨by kernel_rfl⟩
instance anI:Sz Tryz.prog 225 2:=⟨by kernel_rfl⟩
instance anJ:Sb Tryz.prog 225 [.slice none 0 0,.slice none 0 0] [(0,1),(1,1)]:=⟨by kernel_rfl,by kernel_rfl⟩

end Go.Proofs.YtdgichenhdikgaaGreatDoor.V
namespace Go.Proofs.YtdgichenhdikgaaGreatDoor.Nm
open List
open Go.Proofs.Tryz
open Go.RowKit V
variable {k:Nat}
def wordsB:List (List UInt8):=[[67,82,69,65,84,69],[84,65,66,76,69],[68,82,79,80],[73,78,83,69,82,84],[73,78,84,79],[86,65,76,85,69,83],[83,69,76,69,67,84],[67,79,85,78,84],[70,82,79,77],[87,72,69,82,69],[79,82,68,69,82],[66,89],[68,69,83,67],[76,73,77,73,84],[85,80,68,65,84,69],[83,69,84],[68,69,76,69,84,69],[66,69,71,73,78],[67,79,77,77,73,84],[82,79,76,76,66,65,67,75],[65,78,68],[79,82],[78,79,84],[73,83],[78,85,76,76],[84,82,85,69],[70,65,76,83,69],[73,78,84],[84,69,88,84],[66,79,79,76]]
def marksB:List (List UInt8):=[[60,61],[62,61],[60,62],[40],[41],[44],[42],[43],[45],[61],[60],[62]]
def uF:List ByteArray:=wordsB.map fun b=>⟨b.toArray⟩
def EX:List ByteArray:=marksB.map fun b=>⟨b.toArray⟩
def wordsC:List Value:=uF.map .string
def marksC:List Value:=EX.map .string
def vU(c:UInt8):Bool:=decide ((97≤c.toNat∧c.toNat≤122)∨(65≤c.toNat∧c.toNat≤90)∨c.toNat=95)
def EY(c:UInt8):Bool:=decide (48≤c.toNat∧c.toNat≤57)
def wu(c:UInt8):Bool:=vU c||EY c
def Fk(p:UInt8→Bool)(s:ByteArray):Nat:=(s.data.toList.takeWhile p).length
theorem SS(p:UInt8→Bool):∀(l:List UInt8) (k:Nat),k≤l.length→(∀x∈l.take k,p x=true)→(∀h:k<l.length,p l[k]=false)→(l.takeWhile p).length=k
 | [],k,h,_,_=>by simp at h;subst h;rfl
 | a::r,0,_,_,h=>by
  have:p a=false:=h bu;rw[takeWhile_cons];simp[this]
 | a::r,k+1,h1,h2,h3=>by
  have ha:p a=true:=h2 a bu;rw[takeWhile_cons,if_pos ha,length_cons,SS p r k (by simpa using h1) (fun x hx=>h2 x (by rw[take_succ_cons];exact mem_cons_of_mem _ hx)) (fun h=>by have:=h3 oL;simpa using this)]
theorem EE{p:UInt8→Bool}{s:ByteArray}(hk:k≤s.size)(h0:∀x∈s.data.toList.take k,p x=true)(h1:k<s.size→p (lY s k)=false):Fk p s=k :=
 SS p _ k (by rw[kW];exact hk) h0 fun h=>by rw[Hr h];exact h1 (by rw[kW] at h;exact h)
structure Tk where
 k:Int
 s:ByteArray
 n:Int
def cT(t:Tk):List D:=[ae t.k,bf t.s,ae t.n]
theorem iF(t:Tk):(cT t).length=3:=rfl
def nR(s:ByteArray):Bool:=!decide (s.size=0)&&vU (lY s 0)&&((Fk wu s:Int)==(s.size:Int))
def th(t:Tk):Int :=
 if t.k=1 then (if (decide (t.n=0)&&nR t.s)=true then 0 else 6)
 else if t.k=2 then (if t.n<0 then 3 else if t.s.size=0 then 0 else 6)
 else if t.k=3 then (if t.n=0 then 0 else 6)
 else if t.k=4 then (if (decide (t.n=0)&&EX.any (jd t.s))=true then 0 else 6)
 else 2
def cQ(s:ByteArray):Int:=if s.size>8 then 1 else if (!(nR s)||uF.any (jd s))=true then 6 else 0
theorem NL(s:ByteArray):th ⟨1,s,0⟩=if nR s=true then 0 else 6:=by
 unfold th;rw[if_pos rfl];simp
variable {G:List (Nat×List Value)}
theorem On(c:UInt8):VP Tryz.prog G 138 [.v (.int .u8 ((c).toNat:Int))] (bX (vU c)):=by
 refine VC.body func138 rfl ntmps138 aO fun X0 w0 aY=>?_;refine af [0] ?_;refine aC 3 ?_;refine bW 5 (fun Z O=>?_) (fun Z O=>?_)
 ·refine aE 4 ?_;refine bW 9 (fun My U=>?_) (fun My U=>?_)
  ·exact z53
  refine aE 3 ?_;refine bW 12 (fun I E=>?_) (fun I E=>?_)
  ·exact Ur
  exact z53
 refine aE 7 ?_;refine bW 12 (fun I E=>?_) (fun I E=>?_)
 ·exact Ur
 refine bg [2] ?_;refine eK ?_;refine⟨vb ?_,rfl⟩;rw[Bool.eq_iff_iff];simp[vU];first|done|omega
theorem aa3(c:UInt8):VP Tryz.prog G 141 [.v (.int .u8 ((c).toNat:Int))] (bX (EY c)):=by
 refine VC.body func141 rfl ntmps141 aO fun X0 w0 aY=>?_;refine af [0] ?_;refine aC 3 ?_;refine bW 5 (fun I E=>?_) (fun I E=>?_)
 ·refine bg [2] ?_;refine eK ?_;refine⟨vb ?_,rfl⟩;rw[Bool.eq_iff_iff];simp[EY];first|done|omega
 refine bg [2] ?_;refine eK ?_;refine⟨vb ?_,rfl⟩;rw[Bool.eq_iff_iff];simp[EY];first|done|omega
theorem Pr(c:UInt8):VP Tryz.prog G 140 [.v (.int .u8 ((c).toNat:Int))] (bX (wu c)):=by
 refine VC.body func140 rfl ntmps140 aO fun X0 w0 aY=>?_;refine af [0] ?_;refine aC 1 ?_;refine dO call138 (On c) ?_;refine aE 1 ?_;refine bW 5 (fun I E=>?_) (fun I E=>?_)
 ·refine an 9 [2] ?_;refine aI [] ?_;exact⟨vb (by simp[wu, *]),rfl⟩
 refine aE 1 ?_;refine OD.gY ic rfl rfl rfl call141 (aa3 c) ⟨ot,trivial⟩ ?_;refine an 9 [2] ?_;refine aI [] ?_;exact⟨vb (by simp[wu, *]),rfl⟩
theorem QX(s:ByteArray)(g:Nat)(p:UInt8→Bool)(fk:∀args w,(callFunc g args).run Tryz.prog w = .ok (.enter g args) w)(hp:∀c,VP Tryz.prog G g [.v (.int .u8 ((c).toNat:Int))] (bX (p c)))(hs:s.size≤maxLen):VP Tryz.prog G 139 [bf s,.ey (.func g) []] (ae (Fk p s)):=by
 refine VC.body func139 rfl ntmps139 aO fun X0 w0 aY=>?_;simp only[maxLen] at hs;refine af [0,1] ?_;refine af [0,1,5] ?_;refine eL [0,1] (fun aW _ (k:Nat) aJ=>(k≤s.size)∧(∀x∈s.data.toList.take k,p x=true)∧aJ=(⟨20,(5,ae (k:Nat))::aW,[]⟩:St)) (fun (k:Nat)=>s.size-k) 0 ⟨(Nat.zero_le _),bu,rfl⟩ ?_;rintro k _ ⟨hk,h0,rfl⟩;refine aC 5 ?_;refine bW 10 (fun I E=>?_) (fun I E=>?_)
 ·have O:k<s.size:=(by omega)
  have xw:s[k]?=some (lY s k):=Js O;refine aE 3 ?_;refine OD.still ic rfl (Hp rfl ot ot runUnderlying9 rfl (by first|assumption|rfl)) ?_;refine OD.j9 (f:=g) (args:=[_]) (all:=[_]) ic rfl rfl ot fk (hp (lY s k)) rfl ⟨ot,trivial⟩ (eO _) ?_;rintro _ S2 ⟨rfl,rfl⟩;refine an 20 [0,1,5,16] ?_;refine au ?_ ?_<;>intro aP bF
  ·refine cl [0,1,5] ?_;refine⟨(k+1),_,cD,aM,w4,(yj (by rw[kW];exact O) h0 (by rw[Hr];assumption)),rfl⟩
  refine af [4] ?_;refine aI [] ?_;refine⟨vi ?_,rfl⟩;first|(rw[EE hk h0 (fun h=>by omega)];done)|(rw[EE hk h0 (fun h=>by assumption)];done)
 refine bg [0,1,5,16] ?_;refine fM ?_;refine af [4] ?_;refine eK ?_;refine⟨vi ?_,rfl⟩;first|(rw[EE hk h0 (fun h=>by omega)];done)|(rw[EE hk h0 (fun h=>by assumption)];done)
theorem aa4(E:List ByteArray)(s:ByteArray)(hlen:E.length≤maxLen):VP Tryz.prog G 142 [ax 1 cS E,bf s] (ae (dS (jd s) E)):=by
 refine VC.body func142 rfl ntmps142 aO fun X0 w0 aY=>?_;simp only[maxLen] at hlen;refine af [0,1] ?_;refine af [0,1,7,8] ?_;refine eL [0,1,7] (fun aW _ (k:Nat) aJ=>(k≤E.length)∧(∀x∈E.take k,jd s x=false)∧aJ=(⟨19,(8,ae (k:Nat))::aW,[]⟩:St)) (fun (k:Nat)=>E.length-k) 0 ⟨(Nat.zero_le _),bu,rfl⟩ ?_;rintro k _ ⟨hk,h0,rfl⟩;refine af [0,1,7,8,9] ?_;refine au ?_ ?_<;>intro aP bF
 ·have aa:k<E.length:=(by omega)
  refine af [0,1,5,7,8] ?_;refine af [0,1,5,7,8,16] ?_;refine au ?_ ?_<;>intro aX cJ
  ·refine af [4] ?_;refine aI [] ?_;refine⟨vi ?_,rfl⟩;first|(rw[vM w4 h0 aX];done)|(rw[vH w4 h0];done)
  refine cl [0,1,7,8] ?_;refine⟨(k+1),_,cD,aM,w4,(yj w4 h0 aX),rfl⟩
 refine af [4] ?_;refine aI [] ?_;refine⟨vi ?_,rfl⟩;first|(rw[vM w4 h0 aX];done)|(rw[vH w4 h0];done)
theorem NF(E:List ByteArray)(s:ByteArray)(hlen:E.length≤maxLen):VP Tryz.prog G 109 [ax 1 cS E,bf s] (bX (E.any (jd s))):=by
 refine VC.body func109 rfl ntmps109 aO fun X0 w0 aY=>?_;refine af [0,1] ?_;refine cW [4] (aa4 E s hlen) ?_;refine aI [] ?_;exact⟨vb PA,rfl⟩
theorem o8(hm:(3,marksC)∈G)(t:Tk)(hs:t.s.size≤maxLen):VP Tryz.prog G 108 [.agg (cT t)] (ae (th t)):=by
 refine VC.body func108 rfl ntmps108 aO fun X0 w0 aY=>?_;unfold cT;refine cf ?_;refine OD.box (ds:=[_,_,_]) ap rfl rfl ot rfl rfl (fun b1=>?_);refine an 53 [1] ?_;refine af [1,3] ?_;refine af [1,3,8] ?_;refine af [1,3,8,9] ?_;refine au ?_ ?_<;>intro aP bF
 ·refine fL 21 (aq _) ?_ (fun _ h=>h);refine az 0 rfl bj ?_;refine az 1 rfl bj ?_;refine dm.split (t:=12) lk (fun U=>?_) (fun U=>?_)
  ·have E:=U;(try simp only[V.nh,ne_eq] at E)
   refine az 2 rfl (da 1) ?_;refine az 3 rfl (dD 0) ?_;refine az 4 rfl mK ?_;refine az 5 rfl wL ?_;refine az 6 rfl bj ?_;refine dm.split (t:=17) lk (fun wK=>?_) (fun wK=>?_)
   ·have wq:=wK;(try simp only[V.nh,ne_eq] at wq)
    refine az 7 rfl (da 1) ?_;refine az 8 rfl (dD 0) ?_;refine az 9 rfl (Hp (c:=lY t.s 0) rfl ot bI runUnderlying9 rfl (Js (ael tw))) ?_;refine dm.later rfl ?_;refine AD.one (i:=10) aA ?_;refine aZ.gY rfl ic rfl rfl rfl call138 (On _) ⟨ot,trivial⟩ ?_;refine cu 11 rfl wL ?_;refine cu 12 rfl bj ?_;refine AD.split (t:=23) lk (fun Z=>?_) (fun Z=>?_)
    ·have I:=Z;(try simp only[V.nh,ne_eq] at I)
     refine cu 13 rfl (da 1) ?_;refine cu 16 rfl (da 1) ?_;refine AD.two (i:=14) (j:=17) aA ?_ ?_
     ·refine at_ rfl (dD 0) ?_;refine AD.two (i:=15) (j:=17) aA ?_ ?_
      ·refine aZ.gY rfl ic rfl rfl rfl call139 (QX t.s 140 wu call140 Pr hs) ⟨ot,sU,trivial⟩ ?_;refine AD.one (i:=17) aA ?_;refine at_ rfl (dD 0) ?_;refine cu 18 rfl (DQ rfl rfl ot runUnderlying9) ?_;refine cu 19 rfl mK ?_;refine cu 20 rfl wL ?_;exact Ks
      refine at_ rfl (dD 0) ?_;refine cu 18 rfl (DQ rfl rfl ot runUnderlying9) ?_;exact z141
     refine at_ rfl (dD 0) ?_;refine cu 18 rfl (DQ rfl rfl ot runUnderlying9) ?_;refine AD.one (i:=14) aA ?_;refine at_ rfl (dD 0) ?_;exact z141
    have I:=Z;(try simp only[V.nh,ne_eq] at I)
    exact Vi
   have wq:=wK;(try simp only[V.nh,ne_eq] at wq)
   exact z124
  have E:=U;(try simp only[V.nh,ne_eq] at E)
  refine mb 2 rfl ?_;refine mb 3 rfl ?_;refine mb 4 rfl ?_;refine az 5 rfl uV ?_;refine az 6 rfl bj ?_;exact z124
 refine af [1,3,8,32] ?_;refine au ?_ ?_<;>intro aX cJ
 ·refine af [1,36] ?_;refine au ?_ ?_<;>intro cr cU
  ·refine af [2] ?_;refine aI [] ?_;exact LU
  refine cl [3] ?_;exact Uo
 refine af [1,3,8,40] ?_;refine au ?_ ?_<;>intro cX ec
 ·exact Uo
 refine af [1,3,42] ?_;refine au ?_ ?_<;>intro ew fp
 ·refine fL 7 (aq _) ?_ (fun _ h=>h);refine az 0 rfl bj ?_;refine az 1 rfl bj ?_;refine dm.split (t:=45) lk (fun KE=>?_) (fun KE=>?_)
  ·have O:=KE;(try simp only[V.nh,ne_eq] at O)
   refine az 2 rfl (eu (l:=0) (h:=0) rfl vO trivial trivial (by first|exact Rb (ls:=EX) (g:=cS) hm rfl rfl runUnderlying211 sizeOf9 rfl w7 w7)) ?_;refine az 3 rfl (da 1) ?_;refine az 4 rfl (dD 0) ?_;refine dm.later rfl ?_;refine AD.one (i:=5) aA ?_;refine aZ.gY rfl ic rfl rfl rfl call109 (NF EX t.s w7) ⟨ot,ot,trivial⟩ ?_;refine cu 6 rfl wL ?_;exact Ks
  have O:=KE;(try simp only[V.nh,ne_eq] at O)
  refine mb 2 rfl ?_;refine mb 3 rfl ?_;refine mb 4 rfl ?_;refine dm.later rfl ?_;refine AD.one (i:=5) aA ?_;refine aZ.skip rfl (mo rfl rfl rfl lk jn) rfl ?_;refine cu 6 rfl uV ?_;refine eD ?_;refine bg [3] ?_;refine af [52] ?_;refine eE ?_;exact LS
 refine af [2] ?_;refine aI [] ?_;refine⟨vi ?_,rfl⟩;try simp only[ux] at *
 simp only[th,nR];try simp_all
 try omega
theorem s8(hm:(3,marksC)∈G)(hw:(1,wordsC)∈G)(s:ByteArray)(hs:s.size≤maxLen):VP Tryz.prog G 64 [bf s] (ae (cQ s)):=by
 refine VC.body func64 rfl ntmps64 aO fun X0 w0 aY=>?_;refine af [0] ?_;refine af [0,5] ?_;refine au ?_ ?_<;>intro aP bF
 ·exact LY
 refine aC 2 ?_;refine dO call108 (o8 hm ⟨1,s,0⟩ hs) ?_;refine aE 2 ?_;refine bW 10 (fun I E=>?_) (fun I E=>?_)
 ·refine an 15 [14] ?_;refine eE ?_;exact LY
 refine OD.still ic rfl (eu (l:=0) (h:=0) rfl vO trivial trivial (by first|exact Rb (ls:=uF) (g:=cS) hw rfl rfl runUnderlying180 sizeOf9 rfl w7 w7)) ?_;refine aE 1 ?_;refine OD.gY ic rfl rfl rfl call109 (NF uF s w7) ⟨ot,ot,trivial⟩ ?_;refine an 15 [14] ?_;refine au ?_ ?_<;>intro aX cJ
 ·exact LY
 refine af [2] ?_;refine aI [] ?_;refine⟨vi ?_,rfl⟩;try simp only[NL] at *
 simp only[cQ];first|(rw[if_pos w4];done)|(rw[if_neg w4];cases h1:nR s<;>cases h2:uF.any (jd s)<;>simp_all)
def wb(c:UInt8):UInt8:=UInt8.ofNat (97+c.toNat % 26)
theorem aey(c:UInt8):(wb c).toNat=97+c.toNat % 26:=by
 have:c.toNat % 26<26:=Nat.mod_lt _ w7;unfold wb;rw[UInt8.toNat_ofNat'];exact Nat.mod_eq_of_lt w4
theorem acF(c:UInt8):IntKind.u8.wrap (97+(c.toNat:Int).tmod 26)=((wb c).toNat:Int):=by
 rw[aey];have h1:(c.toNat:Int).tmod 26=((c.toNat % 26:Nat):Int):=rfl;have:c.toNat % 26<26:=Nat.mod_lt _ w7;rw[h1];have e:(97+((c.toNat % 26:Nat):Int))=((97+c.toNat % 26:Nat):Int):=(by omega)
 rw[e];show((97+c.toNat % 26:Nat):Int) % 256=_;omega
def yQ(s:ByteArray):List UInt8:=if s.size=0 then [120] else (s.data.toList.take 6).map wb
def wm(s:ByteArray):ByteArray:=⟨(yQ s).toArray⟩
theorem Ie{s:ByteArray}(h:k<s.size):(s.data.toList.take k).map wb++[wb (lY s k)]=(s.data.toList.take (k+1)).map wb:=by
 have h':k<s.data.toList.length:=(by rw[kW];exact h)
 rw[take_succ_eq_append_getElem h',map_append,Hr h'];rfl
theorem Po{s:ByteArray}(hk:k≤s.size)(h:k=s.size∨6≤k)(h6:k≤6):(s.data.toList.take k)=s.data.toList.take 6:=by
 rcases h with h|h
 ·rw[take_of_length_le (by rw[kW];omega),take_of_length_le (by rw[kW];omega)]
 rw[show k=6 by omega]
theorem Zq:(Tryz.prog.info? 5).map (fun i=>(i.zero,i.size,i.bytes))=some (some (.int .u8 0),1,1):=by kernel_rfl
theorem qH(s:ByteArray)(hs:s.size≤maxLen):VP Tryz.prog G 17 [bf s] (bf (wm s)):=by
 refine VC.body func17 rfl ntmps17 aO fun X0 w0 aY=>?_;simp only[maxLen] at hs;refine af [0] ?_;refine cf ?_;refine bg [0,3] ?_;refine af [0,3,4] ?_;refine CD.block ?_;refine mM (fun (E:Nat×Option Addr×Nat×List ah) aJ=>match E with|(k,O,U,Sb)=>(k≤s.size)∧(k≤6)∧(bw 5 1 (((s.data.toList.take k).map wb).flatMap cB) ((s.data.toList.take k).map wb).length O U Sb)∧aJ=(⟨28,[(0,bf s),(3,aN O ((s.data.toList.take k).map wb).length U),(4,ae (k:Nat))],(Sb)⟩:St)) (fun (E:Nat×Option Addr×Nat×List ah)=>match E with|(k,O,U,Sb)=>s.size-k) (0,none,0,[]) ⟨(Nat.zero_le _),(Nat.zero_le _),(bw.cast iK lK),rfl⟩ (aM (h:=by repeat (first|exact trivial|refine⟨(by (repeat (first|exact fx|(apply fQ;focus (first|rfl|(simp;done)|(congr 2;omega)|(apply eG;exact Ie Z)|(apply eG;simp;done)))|(apply fD;focus rfl)));done),?_⟩))) ?_;rintro⟨k,O,U,Sb⟩ _ ⟨hk,h6,oS,rfl⟩;refine aC 5 ?_;refine bW 9 (fun My ahu=>?_) (fun My ahu=>?_)
 ·refine bg [0,3,4,12] ?_;refine au ?_ ?_<;>intro aP bF
  ·refine dQ 2 ?_;have Z:k<s.size:=(by omega)
   have xw:s[k]?=some (lY s k):=Js Z;refine aE 1 ?_;refine bQ (Hp rfl ot ot runUnderlying9 rfl (by first|assumption|rfl)) ?_;refine bQ (c9 rfl ot bI (IL w4)) ?_;refine bQ (c9 (r:=.int .u8 ((wb (lY s k)).toNat:Int)) rfl bI ot (j7 (acF _))) ?_;refine en (bZ 0 [_]) [.int .u8 0] [_] zeroValue5 runUnderlying88 sizeOf5 (fun CQ=>?_);refine fB 0 21 1 1 ?_;refine OD.ev (ls:=((s.data.toList.take k).map wb)) (new:=[wb (lY s k)]) (Sq:=Sb) pi v8 ap rfl rfl underlying88 Zq rfl w7 ot oS (dI (A:=[])) ot bu vl hU (fun Mz I ahv ahw=>?_);refine OD.perm (ee (S1:=[⟨Mz,5,I*1,flatMap cB (((s.data.toList.take k).map wb)++[wb (lY s k)])⟩]) (A:=[])) ?_;refine an 28 [0,3,4] ?_;refine cl [0,3,4] ?_;refine⟨((k+1),(some ⟨Mz,0,none⟩),I,[⟨Mz,5,I*1,flatMap cB (((s.data.toList.take k).map wb)++[wb (lY s k)])⟩]),_,cD,(aM (h:=by repeat (first|exact trivial|refine⟨(by (repeat (first|exact fx|(apply fQ;focus (first|rfl|(simp;done)|(congr 2;omega)|(apply eG;exact Ie Z)|(apply eG;simp;done)))|(apply fD;focus rfl)));done),?_⟩))),w4,w4,(bw.cast (bJ ahv ahw) (by exact Ie Z)),rfl⟩
  refine af [3,25] ?_;refine au ?_ ?_<;>intro aX cJ
  ·refine af [2] ?_;refine eK ?_;exact LX
  refine aC 1 ?_;refine OD.iq (t:=26) (Sq:=Sb) lk oS (cy pi _) (dI (A:=[])) ?_;refine bQ CG ?_;refine an 28 [2] ?_;refine aI [] ?_;exact LX
 refine bg [0,3,4,12] ?_;refine fM ?_;refine af [3,25] ?_;refine au ?_ ?_<;>intro aX cJ
 ·refine af [2] ?_;refine eK ?_;exact LX
 refine aC 1 ?_;refine OD.iq (t:=26) (Sq:=Sb) lk oS (cy pi _) (dI (A:=[])) ?_;refine bQ CG ?_;refine an 28 [2] ?_;refine aI [] ?_;refine⟨vs ?_,rfl⟩;have zZ:k=s.size∨6≤k:=(by omega)
 have Km:min k s.size=k:=Nat.min_eq_left hk;simp only[length_map,length_take,kW,Km] at *;unfold wm yQ;first|(rw[if_pos w4];done)|(rw[if_neg w4,Po hk zZ h6])
abbrev MarksTab(w:World):Prop:=Tab.my w 3 marksC

end Go.Proofs.YtdgichenhdikgaaGreatDoor.Nm
namespace Go.Proofs.YtdgichenhdikgaaGreatDoor.Pk
open List
open Go.Proofs.Tryz
open Go.RowKit V
def ei(n m:Int):Int:=if n<0 then (-(n+1)).tmod m else n.tmod m
theorem j4(n:Int){m:Int}(h:1≤m):0≤ei n m∧ei n m<m:=by
 have key:∀k:Int,0≤k→0≤k.tmod m∧k.tmod m<m:=fun k hk=>⟨Int.tmod_nonneg _ hk,Int.tmod_lt_of_pos _ w4⟩
 unfold ei;split
 ·exact key _ w4
 exact key _ w4
variable (G:List (Nat×List Value))
theorem kU(n m:Int)(hn:-9223372036854775808≤n)(iR:n≤9223372036854775807)(hm:1≤m):VP Tryz.prog G 21 [ae n,ae m] (ae (ei n m)):=by
 refine VC.body func21 rfl ntmps21 aO fun X0 w0 aY=>?_;refine af [0,1] ?_;refine af [0,1,6] ?_;refine au ?_ ?_<;>intro aP bF
 ·refine iB [0,1] ?_;refine aR 2 ?_ (h:=by exact(Ei rfl ot (Jq (r:=-(n+1)) (by rw[wrap_i64]<;>omega))));refine bH ?_;refine cR [4] ?_;refine aR 2 ?_ (h:=by exact(c9 rfl ot ot (IL w4)));refine bH ?_;refine aI [] ?_;exact⟨by unfold ei;split<;>first|rfl|omega,rfl⟩
 refine cR [4] ?_;refine aR 2 ?_ (h:=by exact(c9 rfl ot ot (IL w4)));refine bH ?_;refine aI [] ?_;exact⟨by unfold ei;split<;>first|rfl|omega,rfl⟩

end Go.Proofs.YtdgichenhdikgaaGreatDoor.Pk
namespace Go.Proofs.YtdgichenhdikgaaGreatDoor.Nm
open List
open Go.Proofs.Tryz
open Go.RowKit V Pk
variable {l:List UInt8}
theorem mk_data(l:List UInt8):(⟨l.toArray⟩:ByteArray).data.toList=l:=rfl
theorem IR(l:List UInt8):(⟨l.toArray⟩:ByteArray).size=l.length:=by rw[←kW]
theorem Zr(s:ByteArray):1≤(yQ s).length∧(yQ s).length≤6:=by
 unfold yQ;split
 ·exact⟨by decide,by decide⟩
 rw[length_map,length_take,kW];omega
theorem Nw{p:UInt8→Bool}:∀{l:List UInt8},(∀c∈l,p c=true)→l.takeWhile p=l
 | [],_=>rfl
 | a::l,h=>by rw[takeWhile_cons,if_pos (h a mem_cons_self),Nw fun c hc=>h c (mem_cons_of_mem _ hc)]
theorem NA{c:UInt8}(h:97≤c.toNat∧c.toNat≤122):vU c=true:=by unfold vU;exact decide_eq_true (.inl h)
theorem aa5(h1:1≤l.length)(h:∀c∈l,97≤c.toNat∧c.toNat≤122):nR ⟨l.toArray⟩=true:=by
 unfold nR Fk;rw[IR,mk_data,Nw fun c hc=>by unfold wu;rw[NA (h c hc)];rfl];have h0:lY ⟨l.toArray⟩ 0∈l:=by
  exact T9
 rw[NA (h _ h0)];have:l.length≠0:=(by omega)
 simp[this]
theorem Ya:∀x∈uF,(lY x 0).toNat≤90:=by decide
theorem Yz(h1:1≤l.length)(h:∀c∈l,97≤c.toNat∧c.toNat≤122):uF.any (jd ⟨l.toArray⟩)=false:=by
 rw[any_eq_false];intro x hx he;have he:=A3.1 he;have h0:lY ⟨l.toArray⟩ 0∈l:=by
  exact T9
 have:=h _ h0;have h2:=Ya x hx;rw[←he] at h2;omega
theorem sQ(h1:1≤l.length)(E:l.length≤8)(h:∀c∈l,97≤c.toNat∧c.toNat≤122):cQ ⟨l.toArray⟩=0:=by
 unfold cQ;rw[IR,if_neg w4,aa5 h1 h,Yz h1 h];rfl
theorem YA(s:ByteArray):1≤(wm s).size∧(wm s).size≤6:=by unfold wm;rw[IR];exact Zr s
variable {G:List (Nat×List Value)}
abbrev WordsTab(w:World):Prop:=Tab.my w 1 wordsC

end Go.Proofs.YtdgichenhdikgaaGreatDoor.Nm
namespace Go.Proofs.YtdgichenhdikgaaGreatDoor.Vl
open List
open Go.Proofs.Tryz
open Go.RowKit V Pk
structure Vl where
 k:Int
 n:Int
 s:ByteArray
def cV(v:Vl):List D:=[ae v.k,ae v.n,bf v.s]
theorem fj(v:Vl):(cV v).length=3:=rfl
theorem ET(v:Vl):(cV v).all V.one=true:=rfl
structure Vl.Ok (v:Vl):Prop where
 k1:-9223372036854775808≤v.k
 k2:v.k≤9223372036854775807
 n1:-9223372036854775808≤v.n
 n2:v.n≤9223372036854775807
 s:v.s.size≤maxLen
def bD:Vl:=⟨0,0,⟨#[]⟩⟩
def dP(v:Vl):Int :=
 if v.k=0 then (if v.n≠0∨v.s.size≠0 then 6 else 0)
 else if v.k=1 then (if v.n<0∨v.n>1∨v.s.size≠0 then 6 else 0)
 else if v.k=2 then (if v.s.size≠0 then 6 else 0)
 else if v.k=3 then (if v.n≠0 then 6 else if v.s.size>20 then 1 else 0)
 else 2
theorem JY(x y:Vl):∀w,(Op.equalIn 10000 41 (.agg [.int .i64 x.k,.int .i64 x.n,.string x.s].toArray) (.agg [.int .i64 y.k,.int .i64 y.n,.string y.s].toArray)).run Tryz.prog w = .ok (x.k==y.k&&(x.n==y.n&&x.s.toList==y.s.toList)) w:=fun w=>by
 have hS:Tryz.prog.underlying 41=some (.struct (Tryz.prog.fieldsOf 41)):=(by kernel_rfl)
 have hp:Tryz.prog.stoodInHeld 41=false:=(by kernel_rfl)
 rw[show(10000:Nat)=9999+1 from rfl,run_equalIn_agg w 9999 41 _ _ hS hp];have u:=underlying41;have E:=underlying3;have I:=underlying9;have O:=isAgg3;have U:=isAgg9;have Z:=sizeOf3;have z9:=sizeOf9;simp only[Program.fieldsOf,u];go_simp
 by_cases h1:x.k=y.k<;>by_cases h2:x.n=y.n<;>by_cases h3:x.s.toList=y.s.toList<;>simp[h1,h2,h3]
def nB(s:ByteArray)(m:Nat):ByteArray:=s.extract 0 (min s.size m)
def ph(r:Vl):Vl :=
 if ei r.k 4=1 then ⟨1,ei r.n 2,⟨#[]⟩⟩
 else if ei r.k 4=2 then ⟨2,r.n,⟨#[]⟩⟩
 else if ei r.k 4=3 then ⟨3,0,nB r.s 10⟩
 else bD
theorem Oo(s:ByteArray)(m:Nat):(nB s m).data.toList=s.data.toList.take m:=by
 unfold nB;rw[ByteArray.data_extract,Array.toList_extract];simp only[extract_eq_take_drop,drop_zero,Nat.sub_zero];rw[←kW];rcases Nat.le_total s.data.toList.length m with h|h
 ·rw[Nat.min_eq_left h,take_length,take_of_length_le h]
 rw[Nat.min_eq_right h]
theorem HF(s:ByteArray)(m:Nat):(nB s m).size=min s.size m:=by
 rw[←kW,Oo,length_take,kW,Nat.min_comm]
variable {G:List (Nat×List Value)}
theorem o8(v:Vl):VP Tryz.prog G 55 [.agg (cV v)] (ae (dP v)):=by
 refine VC.body func55 rfl ntmps55 aO fun X0 w0 aY=>?_;unfold cV;refine cf ?_;refine OD.box (ds:=[_,_,_]) ap rfl rfl ot rfl rfl (fun b1=>?_);refine an 44 [1] ?_;refine af [1,4] ?_;refine af [1,4,5] ?_;refine au ?_ ?_<;>intro aP bF
 ·refine aC 4 ?_;refine bW 10 (fun U E=>?_) (fun U E=>?_)
  ·refine bg [14] ?_;refine eE ?_;exact z127
  refine bg [14] ?_;refine au ?_ ?_<;>intro aX cJ
  ·exact z127
  exact z127
 refine af [1,4,15] ?_;refine au ?_ ?_<;>intro cr cU
 ·refine aC 4 ?_;refine bW 20 (fun Z I=>?_) (fun Z I=>?_)
  ·refine bg [29] ?_;refine eE ?_;exact z127
  refine aE 5 ?_;refine bW 25 (fun ahx O=>?_) (fun ahx O=>?_)
  ·refine bg [29] ?_;refine eE ?_;exact z127
  refine bg [29] ?_;refine au ?_ ?_<;>intro cX ec
  ·exact z127
  exact z127
 refine af [1,4,30] ?_;refine au ?_ ?_<;>intro ew fp
 ·refine af [34] ?_;refine au ?_ ?_<;>intro fm gv
  ·exact BK
  exact BK
 refine af [1,35] ?_;refine au ?_ ?_<;>intro gL kG
 ·refine af [1,39] ?_;refine au ?_ ?_<;>intro gg k8
  ·exact BK
  refine af [43] ?_;refine au ?_ ?_<;>intro pF FU
  ·exact BK
  exact BK
 refine af [2] ?_;refine aI [] ?_;refine⟨vi ?_,rfl⟩;try simp only[ux] at *
 unfold dP;simp_all;try omega
theorem EV(s:ByteArray)(m:Nat)(hs:s.size≤maxLen):VP Tryz.prog G 16 [bf s,ae (m:Int)] (bf (nB s m)):=by
 refine VC.body func16 rfl ntmps16 aO fun X0 w0 aY=>?_;simp only[maxLen] at hs;refine af [0,1] ?_;refine cR [4] ?_;refine aR 4 ?_ (h:=by exact(XN (r:=.int .i64 ((min s.size m:Nat):Int)) rfl ot ot (fun cs w=>(aeh cs w).trans (by split<;>(congr 3;omega)))));refine aR 0 ?_ (h:=by exact(eu (l:=0) rfl ot trivial ⟨_,ot⟩ (by first|exact aej (fun _=>rfl) (fun h=>by cases h) runUnderlying9 w4 w4)));refine bH ?_;refine aI [] ?_;exact⟨by first|rfl|(simp[*];done),rfl⟩
theorem Pq(r:Vl)(h:r.Ok):VP Tryz.prog G 53 [.agg (cV r)] (.agg (cV (ph r))):=by
 refine VC.body func53 rfl ntmps53 aO fun X0 w0 aY=>?_;unfold cV;refine cf ?_;refine OD.box (ds:=[_,_,_]) ap rfl rfl ot rfl rfl (fun b1=>?_);refine OD.alloc (ds:=[_,_,_]) ap rfl rfl zeroValue41 rfl (fun b2=>?_);refine an 29 [1,2] ?_;refine cW [1,2,3] (kU G r.k 4 h.k1 h.k2 w7) ?_;refine af [1,2,3,7] ?_;refine af [1,2,3,7,8] ?_;refine au ?_ ?_<;>intro aP bF
 ·refine aC 3 ?_;refine dO call21 (kU G r.n 2 h.n1 h.n2 w7) ?_;refine aE 1 ?_;exact z76
 refine af [1,2,3,7,15] ?_;refine au ?_ ?_<;>intro aX cJ
 ·refine aC 4 ?_;exact z76
 refine af [1,2,3,21] ?_;refine au ?_ ?_<;>intro cr cU
 ·refine aC 3 ?_;refine dO call16 (EV r.s 10 h.s) ?_;refine aE 1 ?_;exact z76
 refine aC 1 ?_;refine aK 0 [_,_,_] sizeOf41 ?_;refine an 29 [2] ?_;refine aI [] ?_;refine⟨?_,rfl⟩;unfold ph bD;simp_all

end Go.Proofs.YtdgichenhdikgaaGreatDoor.Vl
namespace Go.Proofs.YtdgichenhdikgaaGreatDoor.Nm
open List
open Go.Proofs.Tryz
open Go.RowKit V Pk Vl
variable {i:Nat} {h:Int}
theorem JY(x y:Vl):∀w,(Op.equalIn 10000 41 (.agg [.int .i64 x.k,.int .i64 x.n,.string x.s].toArray) (.agg [.int .i64 y.k,.int .i64 y.n,.string y.s].toArray)).run Tryz.prog w = .ok (x.k==y.k&&(x.n==y.n&&x.s.toList==y.s.toList)) w:=fun w=>by
 have hS:Tryz.prog.underlying 41=some (.struct (Tryz.prog.fieldsOf 41)):=(by kernel_rfl)
 have hp:Tryz.prog.stoodInHeld 41=false:=(by kernel_rfl)
 rw[show(10000:Nat)=9999+1 from rfl,run_equalIn_agg w 9999 41 _ _ hS hp];have u:=underlying41;have E:=underlying3;have I:=underlying9;have O:=isAgg3;have U:=isAgg9;have Z:=sizeOf3;have z9:=sizeOf9;simp only[Program.fieldsOf,u];go_simp
 by_cases h1:x.k=y.k<;>by_cases h2:x.n=y.n<;>by_cases h3:x.s.toList=y.s.toList<;>simp[h1,h2,h3]
def iO(v:Vl):Int:=if v.k=2∧v.n = -9223372036854775808 then 3 else dP v
structure aU where
 k:Int
 v:Vl
 nm:ByteArray
variable {l:List aU}
def cO(o:aU):List D:=[ae o.k,ae o.v.k,ae o.v.n,bf o.v.s,bf o.nm]
theorem mR(o:aU):(cO o).length=5:=rfl
theorem Jp(o:aU):(cO o).all V.one=true:=rfl
def bP(k:Int):Int:=if k=1∨k=2 then 0 else if k=5∨k=11 then 1 else 2
theorem s6(k:Int):0≤bP k∧bP k≤2:=by unfold bP;split<;>(try split)<;>omega
def zeroV(v:Vl):Bool:=v.k==0&&(v.n==0&&v.s.toList==(⟨#[]⟩:ByteArray).toList)
def fa(h:Int)(o:aU):Int :=
 if o.k<1∨o.k>11 then 2
 else if iO o.v≠0 then iO o.v
 else if ((o.k != 1 && !(zeroV o.v))||(o.k != 2 && !(o.nm.toList==(⟨#[]⟩:ByteArray).toList)))=true then 6
 else if o.k=2∧cQ o.nm≠0 then cQ o.nm
 else if h<bP o.k then 7 else 0
def fG:Int→List aU→Int
 | h,[]=>if h=1 then 0 else 7
 | h,o::r=>if fa h o=0 then fG (h+(1-bP o.k)) r else fa h o
def iM(l:List aU):Int:=if l.length>40 then 10 else fG 0 l
theorem Pj(hi:i<l.length)(he:fa h l[i]=0):fG h (l.drop i)=fG (h+(1-bP l[i].k)) (l.drop (i+1)):=by
 rw[drop_eq_getElem_cons hi,fG,if_pos he]
theorem Pg{e:Int}(hi:i<l.length)(he:fa h l[i]=e)(h0:e≠0):fG h (l.drop i)=e:=by
 rw[drop_eq_getElem_cons hi,fG,if_neg (by rw[he];exact h0),he]
theorem Oq(hi:l.length≤i):fG h (l.drop i)=if h=1 then 0 else 7:=by
 rw[drop_of_length_le hi,fG]
variable {G:List (Nat×List Value)}
theorem NT(v:Vl):VP Tryz.prog G 114 [.agg (cV v)] (ae (iO v)):=by
 refine VC.body func114 rfl ntmps114 aO fun X0 w0 aY=>?_;unfold cV;refine cf ?_;refine OD.box (ds:=[_,_,_]) ap rfl rfl ot rfl rfl (fun b1=>?_);refine an 13 [1] ?_;refine aC 4 ?_;refine bW 6 (fun I E=>?_) (fun I E=>?_)
 ·refine bg [1,10] ?_;refine au ?_ ?_<;>intro aP bF
  ·refine af [2] ?_;refine eK ?_;refine⟨vi ?_,rfl⟩;unfold iO;simp_all
  refine cW [2] (Vl.o8 v) ?_;refine eK ?_;refine⟨vi ?_,rfl⟩;unfold iO;simp_all
 refine bg [1,10] ?_;refine fM ?_;refine cW [2] (Vl.o8 v) ?_;refine eK ?_;refine⟨vi ?_,rfl⟩;unfold iO;simp_all
theorem yt(k:Int):VP Tryz.prog G 116 [ae k] (ae (bP k)):=by
 refine VC.body func116 rfl ntmps116 aO fun X0 w0 aY=>?_;exact Vw
theorem IS(hm:(3,marksC)∈G)(hw:(1,wordsC)∈G)(l:List aU)(hs:∀o∈l,o.nm.size≤maxLen):VP Tryz.prog G 70 [ax 5 cO l] (ae (iM l)):=by
 refine VC.body func70 rfl ntmps70 aO fun X0 w0 aY=>?_;have hlx:l.length≤40∨40<l.length:=(by omega)
 refine af [0] ?_;refine af [0,10] ?_;refine au ?_ ?_<;>intro aP bF
 ·have hf:iM l=10:=if_pos w4;exact Kt
 have hf:iM l=fG 0 l:=if_neg w4;have pL:l.length≤40:=(by omega)
 refine af [0,3] ?_;refine af [3,11,12,13] ?_;refine eL [11,12] (fun aW _ (I:Nat×Int) aJ=>match I with|(i,h)=>(i≤l.length)∧(fG 0 l=fG h (l.drop i))∧(0≤h)∧(h≤i)∧aJ=(⟨73,(3,ae h)::(13,ae (i:Nat))::aW,[]⟩:St)) (fun (I:Nat×Int)=>match I with|(i,h)=>l.length-i) (0,0) ⟨(Nat.zero_le _),rfl,(Int.le_refl _),(Int.le_refl _),rfl⟩ ?_;rintro⟨i,h⟩ _ ⟨hi,hx,h0,hh,rfl⟩;refine af [3,11,12,13,14] ?_;refine au ?_ ?_<;>intro aX cJ
 ·have aa:i<l.length:=(by omega)
  have CR:=s6 l[i].k;refine aC 2 ?_;refine OD.alloc (ds:=[_,_,_,_,_]) ap rfl rfl zeroValue43 rfl (fun b5=>?_);refine aK 0 [_,_,_,_,_] sizeOf43 ?_;refine an 73 [3,5,11,12,13] ?_;refine aC 4 ?_;refine bW 20 (fun ahy U=>?_) (fun ahy U=>?_)
  ·refine bg [3,5,11,12,13,24] ?_;refine eE ?_;have qj:fa h l[i]=2:=(by unfold fa;rw[if_pos w4])
   exact FN
  refine bg [3,5,11,12,13,24] ?_;refine au ?_ ?_<;>intro cr cU
  ·have qj:fa h l[i]=2:=(by unfold fa;rw[if_pos w4])
   exact FN
  have dM:¬(l[i].k<1∨l[i].k>11):=(by omega)
  refine cW [3,5,6,11,12,13] (NT l[i].v) ?_;refine af [3,5,6,11,12,13,29] ?_;refine au ?_ ?_<;>intro cX ec
  ·have uT:iO l[i].v≠0:=(by simpa using cX)
   have qj:fa h l[i]=iO l[i].v:=(by unfold fa;rw[if_neg dM,if_pos uT])
   exact FN
  have uT:iO l[i].v=0:=(by simpa using cX)
  refine aC 4 ?_;refine bW 34 (fun ahz Z=>?_) (fun ahz Z=>?_)
  ·refine aE 3 ?_;refine OD.still ic rfl (Zi (us:=[_,_,_]) (Ag:=[_,_,_]) rfl ot ot eqGuardType41 (JY l[i].v ⟨0,0,⟨#[]⟩⟩)) ?_;refine aE 2 ?_;refine bW 40 (fun Kr JT=>?_) (fun Kr JT=>?_)
   ·refine an 73 [3,5,11,12,13,49] ?_;refine eE ?_;exact Ut
   refine aE 4 ?_;refine bW 44 (fun O E=>?_) (fun O E=>?_)
   ·refine an 73 [3,5,11,12,13,49] ?_;refine au ?_ ?_<;>intro ew fp
    ·exact Ut
    exact z107
   refine an 73 [3,5,11,12,13,49] ?_;refine fM ?_;exact z107
  refine xC 4 ?_;refine aE 6 ?_;refine bW 44 (fun O E=>?_) (fun O E=>?_)
  ·refine bg [3,5,11,12,13,49] ?_;refine au ?_ ?_<;>intro ew fp
   ·have qj:fa h l[i]=6:=(by unfold fa zeroV;rw[if_neg dM,if_neg tQ,if_pos (by simp_all)])
    exact FN
   exact Uf
  refine bg [3,5,11,12,13,49] ?_;refine fM ?_;exact Uf
 have fh:=hx.trans (Oq (show l.length≤i by omega));refine af [72] ?_;refine au ?_ ?_<;>intro pF FU
 ·exact Kt
 refine af [2] ?_;refine aI [] ?_;refine⟨vi ?_,rfl⟩;first|exact hf.symm|(rw[hf,hx,Pg aa qj (by first|assumption|decide)];done)|(rw[hf,fh,if_pos (by simpa using pF)];done)|(rw[hf,fh,if_neg (by simpa using pF)];done)

end Go.Proofs.YtdgichenhdikgaaGreatDoor.Nm
namespace Go.Proofs
open Go.Shelf
def Tryz.Yb:Go.Shelf.Ren:=⟨fun|106=>137|213=>155|265=>164|n=>n,fun|9=>9|3=>3|n=>n,fun|n=>n⟩
theorem Tryz.acG:Go.Proofs.Lays.n106 Tryz.prog Tryz.Yb:={
 mixed:=by kernel_rfl
 f106:=Tryz.func137.trans (congrArg some (by kernel_rfl))
 f213:=Tryz.func155.trans (congrArg some (by kernel_rfl))
 f265:=Tryz.func164.trans (congrArg some (by kernel_rfl))
 t3:=Tryz.underlying3
 a3:=Tryz.isAgg3
 z3:=Tryz.sizeOf3
 v3:=Tryz.zeroValue3
 t9:=Tryz.underlying9
 a9:=Tryz.isAgg9
 z9:=Tryz.sizeOf9
 v9:=Tryz.zeroValue9}
open Go.RowKit in
theorem Tryz.strings_Compare(a b:ByteArray)(w:World) :
  Calls Tryz.prog 137 #[.string a,.string b] w fun e w'=>e = .returned (.int .i64 (Lib.compareBytes a.data.toList b.data.toList))∧w'=w:=Any.strings_Compare Tryz.acG a b w
def Tryz.NG:Go.Shelf.Ren:=⟨fun|155=>143|154=>156|138=>165|165=>166|143=>167|166=>168|197=>169|169=>170|195=>174|218=>175|240=>176|241=>177|219=>178|260=>179|276=>180|277=>181|217=>182|225=>183|224=>184|267=>185|266=>186|314=>187|n=>n,fun|9=>9|3=>3|4=>4|72=>237|0=>0|76=>241|105=>243|21=>21|5=>5|70=>235|20=>20|37=>88|75=>240|127=>250|164=>251|46=>231|119=>254|139=>257|138=>256|146=>259|51=>258|80=>245|n=>n,fun|1=>2|3=>4|4=>5|n=>n⟩
theorem Tryz.acH:Go.Proofs.Lays.n155 Tryz.prog Tryz.NG:={
 mixed:=by kernel_rfl
 f138:=Tryz.func165.trans (congrArg some (by kernel_rfl))
 f143:=Tryz.func167.trans (congrArg some (by kernel_rfl))
 f154:=Tryz.func156.trans (congrArg some (by kernel_rfl))
 f155:=Tryz.func143.trans (congrArg some (by kernel_rfl))
 f165:=Tryz.func166.trans (congrArg some (by kernel_rfl))
 f166:=Tryz.func168.trans (congrArg some (by kernel_rfl))
 f169:=Tryz.func170.trans (congrArg some (by kernel_rfl))
 f195:=Tryz.func174.trans (congrArg some (by kernel_rfl))
 f197:=Tryz.func169.trans (congrArg some (by kernel_rfl))
 f217:=Tryz.func182.trans (congrArg some (by kernel_rfl))
 f218:=Tryz.func175.trans (congrArg some (by kernel_rfl))
 f219:=Tryz.func178.trans (congrArg some (by kernel_rfl))
 f224:=Tryz.func184.trans (congrArg some (by kernel_rfl))
 f225:=Tryz.func183.trans (congrArg some (by kernel_rfl))
 f240:=Tryz.func176.trans (congrArg some (by kernel_rfl))
 f241:=Tryz.func177.trans (congrArg some (by kernel_rfl))
 f260:=Tryz.func179.trans (congrArg some (by kernel_rfl))
 f266:=Tryz.func186.trans (congrArg some (by kernel_rfl))
 f267:=Tryz.func185.trans (congrArg some (by kernel_rfl))
 f276:=Tryz.func180.trans (congrArg some (by kernel_rfl))
 f277:=Tryz.func181.trans (congrArg some (by kernel_rfl))
 f314:=Tryz.func187.trans (congrArg some (by kernel_rfl))
 t0:=Tryz.underlying0
 a0:=Tryz.isAgg0
 z0:=Tryz.sizeOf0
 v0:=Tryz.zeroValue0
 t3:=Tryz.underlying3
 a3:=Tryz.isAgg3
 z3:=Tryz.sizeOf3
 v3:=Tryz.zeroValue3
 t4:=Tryz.underlying4
 a4:=Tryz.isAgg4
 z4:=Tryz.sizeOf4
 v4:=Tryz.zeroValue4
 t5:=Tryz.underlying5
 a5:=Tryz.isAgg5
 z5:=Tryz.sizeOf5
 v5:=Tryz.zeroValue5
 t9:=Tryz.underlying9
 a9:=Tryz.isAgg9
 z9:=Tryz.sizeOf9
 v9:=Tryz.zeroValue9
 t20:=Tryz.underlying20
 a20:=Tryz.isAgg20
 z20:=Tryz.sizeOf20
 v20:=Tryz.zeroValue20
 t21:=Tryz.underlying21
 a21:=Tryz.isAgg21
 z21:=Tryz.sizeOf21
 v21:=Tryz.zeroValue21
 t37:=Tryz.underlying88
 a37:=Tryz.isAgg88
 z37:=Tryz.sizeOf88
 v37:=Tryz.zeroValue88
 t46:=Tryz.underlying231
 a46:=Tryz.isAgg231
 z46:=Tryz.sizeOf231
 v46:=Tryz.zeroValue231
 t51:=Tryz.underlying258
 a51:=Tryz.isAgg258
 z51:=Tryz.sizeOf258
 v51:=Tryz.zeroValue258
 t70:=Tryz.underlying235
 a70:=Tryz.isAgg235
 z70:=Tryz.sizeOf235
 v70:=Tryz.zeroValue235
 t72:=Tryz.underlying237
 a72:=Tryz.isAgg237
 z72:=Tryz.sizeOf237
 v72:=Tryz.zeroValue237
 t75:=Tryz.underlying240
 a75:=Tryz.isAgg240
 z75:=Tryz.sizeOf240
 v75:=Tryz.zeroValue240
 t76:=Tryz.underlying241
 a76:=Tryz.isAgg241
 z76:=Tryz.sizeOf241
 v76:=Tryz.zeroValue241
 t105:=Tryz.underlying243
 a105:=Tryz.isAgg243
 z105:=Tryz.sizeOf243
 v105:=Tryz.zeroValue243
 t119:=Tryz.underlying254
 a119:=Tryz.isAgg254
 z119:=Tryz.sizeOf254
 t127:=Tryz.underlying250
 a127:=Tryz.isAgg250
 z127:=Tryz.sizeOf250
 v127:=Tryz.zeroValue250
 t138:=Tryz.underlying256
 a138:=Tryz.isAgg256
 z138:=Tryz.sizeOf256
 v138:=Tryz.zeroValue256
 t139:=Tryz.underlying257
 a139:=Tryz.isAgg257
 z139:=Tryz.sizeOf257
 v139:=Tryz.zeroValue257
 t146:=Tryz.underlying259
 a146:=Tryz.isAgg259
 z146:=Tryz.sizeOf259
 v146:=Tryz.zeroValue259
 t164:=Tryz.underlying251
 a164:=Tryz.isAgg251
 z164:=Tryz.sizeOf251
 v164:=Tryz.zeroValue251
 g1:=by kernel_rfl
 g3:=by kernel_rfl
 g4:=by kernel_rfl}
theorem Tryz.Xv:Builder.Extra Tryz.prog Tryz.NG:={
 sizeBuilder:=by kernel_rfl
 liesBuilder:=by kernel_rfl
 t5:=Tryz.underlying5
 a5:=Tryz.isAgg5
 z5:=Tryz.sizeOf5
 v5:=Tryz.zeroValue5
 infoByte:=by kernel_rfl
 cellsByte:=by kernel_rfl
 sizeByte:=by kernel_rfl
 neB5:=by decide}
open Go.RowKit Go.Lib in
theorem Tryz.strings_ReplaceAll(s old new:ByteArray)(m:Int)(w:World)(hs:s.size<4294967281)(hm:w.cell? ⟨2,0,none⟩=some (.int .i64 m))(h1:1≤old.size)(hlen:s.size+Lib.countB s old*new.size≤140737488355328) :
  Calls Tryz.prog 143 #[.string s,.string old,.string new] w fun e w' =>
   e = .returned (.string ⟨(Lib.replaceAll s.data.toList old.data.toList new.data.toList).toArray⟩)∧Below w.heap.size w w':=Any.strings_ReplaceAll Tryz.acH Tryz.Xv s old new m w hs hm h1 hlen

end Go.Proofs
namespace Go.Proofs.YtdgichenhdikgaaGreatDoor.Cd
open List
open Go.Proofs.Tryz
open Go.RowKit V Pk Vl
variable {v:Vl}
theorem PO(c:UInt8)(new:List UInt8):∀s:List UInt8,Lib.replaceK [c] new (s.count c) s=s.flatMap fun b=>if b=c then new else [b]
 | []=>rfl
 | b::l=>by
  have I:=PO c new l;by_cases h:b=c
  ·subst h;have hi:Lib.index (b::l) [b]=((0:Nat):Int):=(by rw[Lib.index_one];simp[Lib.indexByte])
   rw[count_cons_self,Lib.replaceK_hit _ _ _ _ _ hi,flatMap_cons,if_pos rfl,←I];simp
  have hc:(b::l).count c=l.count c:=count_cons_of_ne h;rw[hc,flatMap_cons,if_neg h,←I];cases hk:l.count c with
  | zero=>rfl
  | succ k =>
   obtain⟨i,hi⟩:=Lib.index_of_count (s:=l) (old:=[c]) (by rw[Lib.count_one];omega);have E:Lib.index (b::l) [c]=((i+1:Nat):Int):=by
    rw[Lib.index_one] at hi ⊢;unfold Lib.indexByte;rw[if_neg oL,hi,if_neg (by rw[beq_iff_eq];omega)];omega
   rw[Lib.replaceK_hit _ _ _ _ _ E,Lib.replaceK_hit _ _ _ _ _ hi];simp
def tr(c:UInt8)(new:List UInt8)(s:ByteArray):ByteArray:=⟨(s.data.toList.flatMap fun b=>if b=c then new else [b]).toArray⟩
theorem Yc(c:UInt8)(new s:List UInt8):Lib.replaceAll s [c] new=s.flatMap fun b=>if b=c then new else [b]:=by
 unfold Lib.replaceAll Lib.replace Lib.replaceNum;split
 ·rename_i h;have h':[c]=new:=(by simpa using h)
  subst h';induction s with
  | nil=>rfl
  | cons b l ih =>
   rw[flatMap_cons,←ih];have:(if b=c then [c] else [b])=[b]:=by
    split
    ·rename_i e;rw[e]
    rfl
   rw[this];rfl
 rw[if_pos (.inl w7),Lib.count_one,PO]
variable {G:List (Nat×List Value)} {m:Int}
theorem acI(hG:(2,[Value.int .i64 m])∈G)(c:UInt8)(new:ByteArray)(s:ByteArray)(hs:s.size≤1000000)(hn:new.size≤1000):VP Tryz.prog G 143 [bf s,bf ⟨#[c]⟩,bf new] (bf (tr c new.data.toList s)):=by
 have hc:Lib.countB s ⟨#[c]⟩≤1000000:=by
  show Lib.count s.data.toList [c]≤1000000;rw[Lib.count_one];exact Nat.le_trans count_le_length (by rw[kW];exact hs)
 have I:Lib.countB s ⟨#[c]⟩*new.size≤1000000*1000:=Nat.mul_le_mul hc hn;have key:=VP.Rg (P:=Tryz.prog) (G:=G) (f:=143) (vs:=[.string s,.string ⟨#[c]⟩,.string new]) (v:=.string (tr c new.data.toList s)) fun w E=>by
  refine(Tryz.strings_ReplaceAll s ⟨#[c]⟩ new m w w4 (E _ hG 0 _ rfl) (Nat.le_refl _) w4).mono fun e w' ⟨h1,h2⟩=>⟨?_,h2⟩
  rw[h1];congr 2;show(⟨(Lib.replaceAll s.data.toList [c] new.data.toList).toArray⟩:ByteArray)=_;rw[Yc];rfl
 exact key
def kb(v:Vl):UInt8:=UInt8.ofNat v.k.toNat
def nb(v:Vl):UInt8:=UInt8.ofNat v.n.toNat
def uN(v:Vl):Nat:=(v.n+9223372036854775808).toNat
def zm(u k:Nat):UInt8:=UInt8.ofNat (u/256 ^ (7-k))
def nf(u:Nat):List UInt8:=(range 8).map (zm u)
def tH(s:List UInt8):List UInt8:=s.flatMap fun b=>if b=0 then [0,255] else [b]
def tI(v:Vl):List UInt8:=if v.k=1 then [nb v] else if v.k=2 then nf (uN v) else if v.k=3 then tH v.s.data.toList++[0,0] else []
def wD(v:Vl):List UInt8:=kb v::tI v
def gA(l:List Vl):List UInt8:=l.flatMap wD
def sb:List Vl→Int
 | []=>0
 | v::r=>if dP v=0 then sb r else dP v
def gb(l:List Vl):List UInt8×Int:=if l.length>6 then ([],1) else if sb l≠0 then ([],sb l) else if (gA l).length>100 then ([],5) else (gA l,0)
def Bg(b:List UInt8):D:=ax 1 cB b
def KF(r:List UInt8×Int):D:=.dG [Bg r.1,ae r.2]
theorem Rm:∀{l:List Vl} {i:Nat} (hi:i<l.length),(∀v∈l.take i,dP v=0)→dP l[i]≠0→sb l=dP l[i]
 | v::r,0,hi,_,h=>by
  have h':dP v≠0:=h;show sb (v::r)=dP v;rw[sb,if_neg h']
 | v::r,i+1,hi,h0,h=>by
  rw[sb,if_pos (h0 v bu)];exact Rm (l:=r) (i:=i) (by simpa using hi) (fun x hx=>h0 x (by rw[take_succ_cons];exact mem_cons_of_mem _ hx)) h
theorem IT:∀{l:List Vl},(∀v∈l,dP v=0)→sb l=0
 | [],_=>rfl
 | v::r,h=>by rw[sb,if_pos (h v mem_cons_self)];exact IT fun x hx=>h x (mem_cons_of_mem _ hx)
theorem NU(h:dP v=0):0≤v.k∧v.k≤3:=by
 unfold dP at h;split at h
 ·omega
 split at h
 ·omega
 split at h
 ·omega
 split at h
 ·omega
 cases h
theorem NV(h:dP v=0)(hk:v.k=1):0≤v.n∧v.n≤1:=by
 unfold dP at h;rw[if_neg w4,if_pos hk] at h;split at h
 ·cases h
 omega
theorem NW(h:dP v=0)(hk:v.k=3):v.s.size≤20:=by
 unfold dP at h;rw[if_neg w4,if_neg w4,if_neg w4,if_pos hk] at h;split at h
 ·cases h
 split at h
 ·cases h
 omega
theorem aez(h:dP v=0):((kb v).toNat:Int)=v.k:=by
 have:=NU h;unfold kb;rw[UInt8.toNat_ofNat'];omega
theorem aeA(h:dP v=0)(hk:v.k=1):((nb v).toNat:Int)=v.n:=by
 have:=NV h hk;unfold nb;rw[UInt8.toNat_ofNat'];omega
theorem acJ(h:dP v=0):IntKind.u8.wrap v.k=((kb v).toNat:Int):=by
 have:=NU h;rw[aez h];show v.k % 256=_;omega
theorem acK(h:dP v=0)(hk:v.k=1):IntKind.u8.wrap v.n=((nb v).toNat:Int):=by
 have:=NV h hk;rw[aeA h hk];show v.n % 256=_;omega
theorem aeB(h:v.Ok):((uN v:Nat):Int)=v.n+9223372036854775808:=by have:=h.n1;unfold uN;omega
theorem aeC{u k:Nat}(hk:k≤7):(u:Int).fdiv (2 ^ min ((56:Int)-8*(k:Int)).toNat IntKind.u64.bits)=((u/256 ^ (7-k):Nat):Int):=by
 have e1:min ((56:Int)-8*(k:Int)).toNat IntKind.u64.bits=8*(7-k):=by
  show min _ 64=_;omega
 have E:(2 ^ (8*(7-k)):Nat)=256 ^ (7-k):=(by rw[Nat.pow_mul])
 have e2:((2:Int) ^ (8*(7-k)))=((256 ^ (7-k):Nat):Int):=by
  rw[←E,Int.natCast_pow];rfl
 rw[e1,e2];exact(Int.ofNat_fdiv _ _).symm
theorem acL(x:Nat):IntKind.u8.wrap (x:Int)=((UInt8.ofNat x).toNat:Int):=by
 rw[UInt8.toNat_ofNat'];show(x:Int) % 256=_;omega
theorem IU{u k:Nat}(hk:k≤7):(nf u).take k++[zm u k]=(nf u).take (k+1):=by
 have hl:k<(nf u).length:=(by simp[nf];omega)
 rw[take_succ_eq_append_getElem hl];congr 2;simp[nf]
theorem ES(u:Nat):(nf u).length=8:=by simp[nf]
theorem Rn(s:List UInt8):(tH s).length≤2*s.length:=by
 induction s with
 | nil=>simp[tH]
 | cons b l ih =>
  unfold tH at ih ⊢;rw[flatMap_cons,length_append,length_cons];split<;>simp only[length_cons,length_nil]<;>omega
theorem EF(h:dP v=0):(wD v).length≤43:=by
 unfold wD tI;rw[length_cons];split
 ·simp
 split
 ·rw[ES];omega
 split
 ·rename_i hk;have h1:=NW h hk;have h2:=Rn v.s.data.toList;rw[kW] at h2;rw[length_append];simp;omega
 simp
theorem En:∀{l:List Vl},(∀v∈l,dP v=0)→(gA l).length≤43*l.length
 | [],_=>Nat.le_refl _
 | v::r,h=>by
  have h1:=EF (h v mem_cons_self);have h2:=En (l:=r) fun x hx=>h x (mem_cons_of_mem _ hx);unfold gA at h2 ⊢;rw[flatMap_cons,length_append,length_cons];omega
theorem Oa{l:List Vl}{i:Nat}(hi:i<l.length):gA (l.take i)++wD l[i]=gA (l.take (i+1)):=by
 unfold gA;rw[take_succ_eq_append_getElem hi,flatMap_append];simp
theorem Tu(h:v.k=1):tI v=[nb v]:=if_pos h
theorem Tv(h:v.k=2):tI v=nf (uN v):=by unfold tI;rw[if_neg w4,if_pos h]
theorem Ty(h:v.k=3):tI v=tH v.s.data.toList++[0,0]:=by unfold tI;rw[if_neg w4,if_neg w4,if_pos h]
theorem Tz(h1:¬v.k=1)(h2:¬v.k=2)(h3:¬v.k=3):tI v=[]:=by unfold tI;rw[if_neg h1,if_neg h2,if_neg h3]
theorem AN(s:ByteArray):(tr 0 [0,255] s).data.toList=tH s.data.toList:=rfl
def KG(p:List UInt8×Int)(r:D)(S:List ah):Prop:=∃ad cap,r = .dG [aN ad p.1.length cap,ae p.2]∧bw 5 1 (p.1.flatMap cB) p.1.length ad cap S
theorem KG.view{p:List UInt8×Int}{r:D}{S:List ah}(h:KG p r S):View S r (KF p):=by
 obtain⟨ad,cap,rfl,ho⟩:=h;exact Ek ⟨lA ho (cy pi _) (fun B h=>h),eP,trivial⟩
theorem AH:(Tryz.prog.info? 5).map (fun i=>(i.zero,i.size,i.bytes))=some (some (.int .u8 0),1,1):=by kernel_rfl
theorem SU(hG:(2,[Value.int .i64 m])∈G)(l:List Vl)(hl:l.length≤maxLen)(aT:∀v∈l,v.Ok):VC Tryz.prog G 111 [ax 3 cV l] [] (KG (gb l)):=by
 refine VC.body func111 rfl ntmps111 aO fun X0 w0 aY=>?_;refine af [0] ?_;refine af [0,12] ?_;refine au ?_ ?_<;>intro aP bF
 ·have aV:gb l=([],1):=if_pos w4;exact L1
 have h6:l.length≤6:=(by omega)
 refine cf ?_;refine bg [0,4] ?_;refine af [4,13,14,15] ?_;refine CD.block ?_;refine mM (fun (E:Nat×Option Addr×Nat×List ah) aJ=>match E with|(i,I,O,Sb)=>(i≤l.length)∧(∀v∈l.take i,dP v=0)∧(bw 5 1 ((gA (l.take i)).flatMap cB) (gA (l.take i)).length I O Sb)∧aJ=(⟨72,[(4,aN I (gA (l.take i)).length O),(13,ax 3 cV l),(14,ae l.length),(15,ae (i:Nat))],(Sb)⟩:St)) (fun (E:Nat×Option Addr×Nat×List ah)=>match E with|(i,I,O,Sb)=>l.length-i) (0,none,0,[]) ⟨(Nat.zero_le _),bu,(bw.cast iK (by rfl)),rfl⟩ (aM (h:=by repeat (first|exact trivial|refine⟨w6,?_⟩))) ?_;rintro⟨i,I,O,Sb⟩ _ ⟨hi,h0,oS,rfl⟩;refine af [4,13,14,15,16] ?_;refine au ?_ ?_<;>intro aX cJ
 ·have aa:i<l.length:=(by omega)
  have Mb:=En h0;rw[length_take] at Mb;have dy:=dY;have fN:=aT _ (getElem_mem aa);refine aC 2 ?_;refine OD.alloc (ds:=[_,_,_]) ap rfl rfl zeroValue41 rfl (fun b6=>?_);refine aK 0 [_,_,_] sizeOf41 ?_;refine an 72 [4,6,13,14,15] ?_;refine cW [4,6,7,13,14,15] (Vl.o8 l[i]) ?_;refine af [4,6,7,13,14,15,22] ?_;refine au ?_ ?_<;>intro cr cU
  ·have hne:dP l[i]≠0:=(by simpa using cr)
   have aV:gb l=([],dP l[i]):=(by unfold gb;rw[if_neg w4,Rm aa h0 hne,if_pos hne])
   exact L1
  have U:dP l[i]=0:=(by simpa using cr)
  refine aC 3 ?_;refine bQ (oq (r:=.int .u8 ((kb l[i]).toNat:Int)) rfl ot (ou runUnderlying3 runUnderlying5 (acJ U))) ?_;refine en (bZ 0 [_]) [.int .u8 0] [_] zeroValue5 runUnderlying88 sizeOf5 (fun MA=>?_);refine fB 0 28 1 1 ?_;refine OD.ev (ls:=(gA (l.take i))) (new:=[kb l[i]]) (Sq:=Sb) pi v8 ap rfl rfl underlying88 AH rfl w7 ot oS (dI (A:=[_])) ot bu zF zF (fun ue Z FV FW=>?_);refine OD.perm (ee (S1:=[⟨ue,5,Z*1,flatMap cB ((gA (l.take i))++[kb l[i]])⟩]) (A:=[_])) ?_;refine an 72 [4,6,13,14,15] ?_;refine af [4,6,13,14,15,31] ?_;refine af [4,6,13,14,15,31,32] ?_;refine au ?_ ?_<;>intro cX ec
  ·have dM:l[i].k=1:=(by simpa using cX)
   refine dQ 3 ?_;refine bQ (oq (r:=.int .u8 ((nb l[i]).toNat:Int)) rfl ot (ou runUnderlying3 runUnderlying5 (acK U dM))) ?_;refine en (bZ 0 [_]) [.int .u8 0] [_] zeroValue5 runUnderlying88 sizeOf5 (fun MB=>?_);refine fB 0 38 1 1 ?_;refine OD.ev (ls:=((gA (l.take i))++[kb l[i]])) (new:=[nb l[i]]) (Sq:=[⟨ue,5,Z*1,flatMap cB ((gA (l.take i))++[kb l[i]])⟩]) pi v8 ap rfl rfl underlying88 AH rfl w7 ot (bJ FV FW) (dI (A:=[_])) ot bu zF zF (fun Cs KH ahA ahB=>?_);refine OD.perm (ee (S1:=[⟨Cs,5,KH*1,flatMap cB (((gA (l.take i))++[kb l[i]])++[nb l[i]])⟩]) (A:=[_])) ?_;refine an 72 [4,13,14,15] ?_;refine cl [4,13,14,15] ?_;refine⟨((i+1),(some ⟨Cs,0,none⟩),KH,[⟨Cs,5,KH*1,flatMap cB (((gA (l.take i))++[kb l[i]])++[nb l[i]])⟩]),_,cD,(aM (h:=by repeat (first|exact trivial|refine⟨w6,?_⟩))),w4,(yj aa h0 U),(bw.cast (bJ ahA ahB) Ga),rfl⟩
  have dM:¬l[i].k=1:=(by simpa using cX)
  refine af [4,6,13,14,15,31,40] ?_;refine au ?_ ?_<;>intro ew fp
  ·have fu:l[i].k=2:=(by simpa using ew)
   refine cR [4,8,13,14,15] ?_;refine aR 3 ?_ (h:=by exact(c9 (r:=.int .u64 ((uN l[i]:Nat):Int)) rfl ot bI (acv (by rw[aeB fN];exact acy fN.n1 fN.n2))));refine bH ?_;refine af [4,8,9,13,14,15] ?_;refine CD.block ?_;refine mM (fun (E:Nat×Option Addr×Nat×List ah) aJ=>match E with|(k,I,O,Sb)=>(k≤8)∧(bw 5 1 (((gA (l.take i)++[kb l[i]])++(nf (uN l[i])).take k).flatMap cB) ((gA (l.take i)++[kb l[i]])++(nf (uN l[i])).take k).length I O Sb)∧aJ=(⟨72,[(4,aN I ((gA (l.take i)++[kb l[i]])++(nf (uN l[i])).take k).length O),(8,.v (.int .u64 ((uN l[i]:Nat):Int))),(9,ae (56-8*(k:Int))),(13,ax 3 cV l),(14,ae l.length),(15,ae (i:Nat))],(Sb)⟩:St)) (fun (E:Nat×Option Addr×Nat×List ah)=>match E with|(k,I,O,Sb)=>8-k) (0,(some ⟨ue,0,none⟩),Z,[⟨ue,5,Z*1,flatMap cB ((gA (l.take i))++[kb l[i]])⟩]) ⟨w7,(bw.cast (bJ FV FW) bu),rfl⟩ (aM (h:=by repeat (first|exact trivial|refine⟨(by (repeat (first|exact fx|(apply fQ;focus (first|rfl|(congr 2;omega)|(simp;done)|(apply eG;rw[←IU w4];simp)|(apply eG;simp)|(apply eG;simp;done)))|(apply fD;focus rfl)));done),?_⟩))) ?_;rintro⟨k,I,O,Sb⟩ _ ⟨LM,oS,rfl⟩;refine af [4,8,9,13,14,15,47] ?_;refine au ?_ ?_<;>intro fm gv
   ·have hk7:k≤7:=(by omega)
    refine dQ 3 ?_;refine bQ (c9 (r:=.int .u64 ((uN l[i]/256 ^ (7-k):Nat):Int)) rfl ot ot (yA w4 (aeC hk7))) ?_;refine bQ (oq (r:=.int .u8 ((zm (uN l[i]) k).toNat:Int)) rfl ot (ou runUnderlying213 runUnderlying5 (acL _))) ?_;refine en (bZ 0 [_]) [.int .u8 0] [_] zeroValue5 runUnderlying88 sizeOf5 (fun b55=>?_);refine fB 0 55 1 1 ?_;refine OD.ev (ls:=((gA (l.take i)++[kb l[i]])++(nf (uN l[i])).take k)) (new:=[zm (uN l[i]) k]) (Sq:=Sb) pi v8 ap rfl rfl underlying88 AH rfl w7 ot oS (dI (A:=[])) ot bu zF zF (fun MC KI ahC ahD=>?_);refine OD.perm (ee (S1:=[⟨MC,5,KI*1,flatMap cB (((gA (l.take i)++[kb l[i]])++(nf (uN l[i])).take k)++[zm (uN l[i]) k])⟩]) (A:=[])) ?_;refine an 72 [4,8,9,13,14,15] ?_;refine cl [4,8,9,13,14,15] ?_;refine⟨((k+1),(some ⟨MC,0,none⟩),KI,[⟨MC,5,KI*1,flatMap cB (((gA (l.take i)++[kb l[i]])++(nf (uN l[i])).take k)++[zm (uN l[i]) k])⟩]),_,cD,(aM (h:=by repeat (first|exact trivial|refine⟨(by (repeat (first|exact fx|(apply fQ;focus (first|rfl|(congr 2;omega)|(simp;done)|(apply eG;rw[←IU w4];simp)|(apply eG;simp)|(apply eG;simp;done)))|(apply fD;focus rfl)));done),?_⟩))),w4,(bw.cast (bJ ahC ahD) (by rw[←IU w4];simp)),rfl⟩
   have aoo:k=8:=(by omega)
   have aop:8≤k:=(by omega)
   refine cl [4,13,14,15] ?_;refine⟨((i+1),I,O,Sb),_,cD,(aM (h:=by repeat (first|exact trivial|refine⟨w6,?_⟩))),w4,(yj aa h0 U),(bw.cast oS Ga),rfl⟩
  have fu:¬l[i].k=2:=(by simpa using ew)
  refine af [4,6,13,14,15,57] ?_;refine au ?_ ?_<;>intro gL kG
  ·have lP:l[i].k=3:=(by simpa using gL)
   have Li:=NW U lP;have CP:=Rn l[i].s.data.toList;rw[kW] at CP;have WJ:(tr 0 [0,255] l[i].s).size=(tH l[i].s.data.toList).length:=(by rw[←kW,AN])
   refine aC 3 ?_;refine dO call143 (acI hG 0 ⟨#[0,255]⟩ l[i].s w4 w7) ?_;refine OD.Yt (ls:=((gA (l.take i))++[kb l[i]])) (Sq:=[⟨ue,5,Z*1,flatMap cB ((gA (l.take i))++[kb l[i]])⟩]) ap rfl rfl underlying88 underlying9 AH ot (bJ FV FW) (dI (A:=[_])) ot (by rw[show(tr 0 (⟨#[0,255]⟩:ByteArray).data.toList l[i].s).size=(tH l[i].s.data.toList).length from WJ];simp only[length_append,length_cons,length_nil];omega) (by rw[show(tr 0 (⟨#[0,255]⟩:ByteArray).data.toList l[i].s).size=(tH l[i].s.data.toList).length from WJ];simp only[length_append,length_cons,length_nil];omega) (fun UC wQ CS BV=>?_);refine OD.perm (ee (A:=[_])) ?_;refine an 72 [4,13,14,15] ?_;refine dQ 1 ?_;refine en (bZ 0 [_,_]) [.int .u8 0,.int .u8 0] [_,_] zeroValue5 runUnderlying88 sizeOf5 (fun b65=>?_);refine fB 0 65 1 2 ?_;refine OD.ev (ls:=(((gA (l.take i))++[kb l[i]])++(tr 0 [0,255] l[i].s).data.toList)) (new:=[(0:UInt8),0]) (Sq:=CS) pi v8 ap rfl rfl underlying88 AH rfl w7 ot BV (dI (A:=[_])) ot bu (by rw[AN];simp only[length_append,length_cons,length_nil];omega) (by rw[AN];simp only[length_append,length_cons,length_nil];omega) (fun oU zn zo zq=>?_);refine OD.perm (ee (S1:=[⟨oU,5,zn*1,flatMap cB ((((gA (l.take i))++[kb l[i]])++(tr 0 [0,255] l[i].s).data.toList)++[(0:UInt8),0])⟩]) (A:=[_])) ?_
   refine an 72 [4,13,14,15] ?_;refine cl [4,13,14,15] ?_;refine⟨((i+1),(some ⟨oU,0,none⟩),zn,[⟨oU,5,zn*1,flatMap cB ((((gA (l.take i))++[kb l[i]])++(tr 0 [0,255] l[i].s).data.toList)++[(0:UInt8),0])⟩]),_,cD,(aM (h:=by repeat (first|exact trivial|refine⟨w6,?_⟩))),w4,(yj aa h0 U),(bw.cast (bJ zo zq) Ga),rfl⟩
  have lP:¬l[i].k=3:=(by simpa using gL)
  refine cl [4,13,14,15] ?_;refine⟨((i+1),(some ⟨ue,0,none⟩),Z,[⟨ue,5,Z*1,flatMap cB ((gA (l.take i))++[kb l[i]])⟩]),_,cD,(aM (h:=by repeat (first|exact trivial|refine⟨w6,?_⟩))),w4,(yj aa h0 U),(bw.cast (bJ FV FW) Ga),rfl⟩
 have fb:∀v∈l,dP v=0:=(by rw[take_of_length_le w4] at h0;exact h0)
 have hle:=En fb;have MD:gA (l.take i)=gA l:=(by rw[take_of_length_le w4])
 refine af [4,70] ?_;refine au ?_ ?_<;>intro gg k8
 ·have aV:gb l=([],5):=(by unfold gb;rw[if_neg w4,IT fb,if_neg bu,if_pos (by rw[MD] at gg;simp at gg;omega)])
  exact L1
 have aV:gb l=(gA l,0):=(by unfold gb;rw[if_neg w4,IT fb,if_neg bu,if_neg (by rw[MD] at gg;simp at gg;omega)])
 refine af [2,3] ?_;refine aI Sb ?_;rw[aV,←MD];exact⟨I,O,rfl,oS⟩
theorem aeD(hG:(2,[Value.int .i64 m])∈G)(l:List Vl)(hl:l.length≤maxLen)(aT:∀v∈l,v.Ok):VP Tryz.prog G 111 [ax 3 cV l] (KF (gb l)):=(SU hG l hl aT).cover fun r S hr=>hr.view

end Go.Proofs.YtdgichenhdikgaaGreatDoor.Cd
namespace Go.Proofs.YtdgichenhdikgaaGreatDoor.Cd









open List
open Go.Proofs.Tryz
open Go.RowKit V Pk Vl
open Go.Lib (compareBytes)
variable {l:List Int}
theorem Be{a b:UInt8}:a<b↔a.toNat<b.toNat:=UInt8.lt_iff_toNat_lt
theorem Ro(a b:UInt8)(x y:List UInt8):compareBytes (a::x) (b::y)=if a<b then -1 else if b<a then 1 else compareBytes x y:=by rw[compareBytes]
theorem Rp:∀(x y:List UInt8),compareBytes y x = - compareBytes x y
 | [],[]=>rfl
 | [],_::_=>rfl
 | _::_,[]=>rfl
 | a::x,b::y=>by
  have E:=Rp x y;rw[Ro,Ro];rcases Nat.lt_trichotomy a.toNat b.toNat with h|h|h
  ·rw[if_neg zT,if_pos (Be.2 h),if_pos (Be.2 h)];rfl
  ·rw[if_neg zT,if_neg zT,if_neg zT,if_neg zT,E]
  rw[if_pos (Be.2 h),if_neg zT,if_pos (Be.2 h)]
def pu(x y:Int):Int:=if x<y then -1 else if x>y then 1 else 0
def iJ:List Int→Int
 | []=>0
 | a::l=>if a≠0 then a else iJ l
def cmpL(a b:Vl):List Int:=[pu a.k b.k,pu a.n b.n,compareBytes a.s.data.toList b.s.data.toList]
def gw(a b:Vl):Int:=iJ (cmpL a b)
theorem x9(x y:Int):pu x y = -1∧x<y∨pu x y=0∧x=y∨pu x y=1∧y<x:=by unfold pu;split;omega;split<;>omega
theorem Ot(x y:Int):pu y x = - pu x y:=by
 rcases x9 x y with h|h|h<;>rcases x9 y x with k|k|k<;>omega
theorem D3(a b:Vl):gw b a = - gw a b:=by
 unfold gw cmpL iJ iJ iJ iJ;rw[Ot a.k b.k,Ot a.n b.n,Rp a.s.data.toList b.s.data.toList];repeat' split
 all_goals omega

variable {G:List (Nat×List Value)} {m:Int}
def cI(n:Int):List D:=[ae n]
theorem aa6:∀{i:Nat} (hi:i<l.length),(∀x∈l.take i,x=0)→iJ l=iJ (l.drop i):=by
 induction l with
 | nil=>intro i hi;simp at hi
 | cons a l ih =>
  intro i hi h;cases i with
  | zero=>rfl
  | succ i =>
   have ha:a=0:=h a bu;show(if a≠0 then a else iJ l)=iJ (l.drop i);rw[if_neg (by simp[ha])];exact ih (by simpa using hi) (fun x hx=>h x (by simp[hx]))
theorem acM{i:Nat}(hi:i<l.length)(h:∀x∈l.take i,x=0)(h1:l[i]≠0):iJ l=l[i]:=by
 rw[aa6 hi h,drop_eq_getElem_cons hi];exact if_pos h1
theorem PP:∀{l:List Int},(∀x∈l,x=0)→iJ l=0
 | [],_=>rfl
 | a::l,h=>by
  show(if a≠0 then a else iJ l)=0;rw[if_neg (by simp[h a bu]),PP fun x hx=>h x (by simp[hx])]
theorem take_zero{i:Nat}(hi:i<l.length)(h:∀x∈l.take i,x=0)(h1:l[i]=0):∀x∈l.take (i+1),x=0:=fun x hx=>by
 rw[take_succ_eq_append_getElem hi] at hx;rcases mem_append.1 hx with hx|hx
 ·exact h x hx
 simp only[mem_singleton] at hx;rw[hx];exact h1
theorem SV(x:Int):VP Tryz.prog G 154 [ae x] (bX false):=by
 refine VC.body func154 rfl ntmps154 aO fun X0 w0 aY=>?_;refine af [0] ?_;refine af [2] ?_;refine aI [] ?_;first|exact⟨rfl,rfl⟩|(refine⟨vb ?_,rfl⟩;simp)
theorem Rq(x y:Int):VP Tryz.prog G 136 [ae x,ae y] (ae (pu x y)):=by
 refine VC.body func136 rfl ntmps136 aO fun X0 w0 aY=>?_;refine af [0,1] ?_;refine cW [0,1,5] (SV x) ?_;refine cW [0,1,5,6] (SV y) ?_;refine af [0,1,6,11] ?_;refine au ?_ ?_<;>intro aP bF
 ·refine af [12] ?_;refine au ?_ ?_<;>intro aX cJ
  ·exact Cq
  exact Cq
 refine af [0,1,13] ?_;refine au ?_ ?_<;>intro cr cU
 ·exact Cq
 refine af [0,1,16] ?_;refine au ?_ ?_<;>intro cX ec
 ·exact Cq
 refine af [19] ?_;refine au ?_ ?_<;>intro ew fp
 ·exact Cq
 refine af [4] ?_;refine aI [] ?_;first|exact⟨rfl,rfl⟩|(refine⟨vi ?_,rfl⟩;unfold pu;simp_all;done)|(refine⟨vi ?_,rfl⟩;unfold pu;split<;>(try split)<;>simp_all<;>omega)
theorem aeE(l:List Int)(hl:l.length≤100):VP Tryz.prog G 135 [ax 1 cI l] (ae (iJ l)):=by
 refine VC.body func135 rfl ntmps135 aO fun X0 w0 aY=>?_;have dy:=dY;refine af [0] ?_;refine af [0,3] ?_;refine af [3,6,7,8] ?_;refine eL [3,6,7] (fun aW _ (i:Nat) aJ=>(i≤l.length)∧(∀x∈l.take i,x=0)∧aJ=(⟨18,(8,ae (i:Nat))::aW,[]⟩:St)) (fun (i:Nat)=>l.length-i) 0 ⟨(Nat.zero_le _),(fun x hx=>by simp at hx),rfl⟩ ?_;rintro i _ ⟨hi,hz,rfl⟩;refine af [3,6,7,8,9] ?_;refine au ?_ ?_<;>intro aP bF
 ·have aa:i<l.length:=(by omega)
  refine af [3,5,6,7,8] ?_;refine af [3,5,6,7,8,14] ?_;refine au ?_ ?_<;>intro aX cJ
  ·have aV:iJ l=l[i]:=acM aa hz vm;refine af [2] ?_;exact oM
  refine cl [3,6,7,8] ?_;refine⟨(i+1),_,cD,aM,w4,(take_zero aa hz vm),rfl⟩
 have aV:iJ l=0:=PP (by rw[take_of_length_le w4] at hz;exact hz);refine af [2] ?_;exact tU
theorem acN(a b:ByteArray):VP Tryz.prog G 137 [bf a,bf b] (ae (compareBytes a.data.toList b.data.toList)) :=
 VP.Rg (P:=Tryz.prog) (G:=G) (f:=137) (vs:=[.string a,.string b]) (v:=.int .i64 (compareBytes a.data.toList b.data.toList)) fun w _ =>
  (Tryz.strings_Compare a b w).mono fun e w' ⟨h1,h2⟩=>⟨h1,h2 ▸ Below.refl _ _⟩
theorem NX(a b:Vl)(ha:a.Ok)(hb:b.Ok):VP Tryz.prog G 104 [.agg (cV a),.agg (cV b)] (ae (gw a b)):=by
 refine VC.body func104 rfl ntmps104 aO fun X0 w0 aY=>?_;unfold cV;refine cf ?_;refine OD.box (ds:=[_,_,_]) ap rfl rfl ot rfl rfl (fun b2=>?_);refine OD.box (ds:=[_,_,_]) ap rfl rfl ot rfl rfl (fun b3=>?_);refine an 22 [2,3] ?_;refine cR [4] ?_;refine cZ (Rq a.k b.k) ?_;refine cZ (Rq a.n b.n) ?_;refine cZ (acN a.s b.s) ?_;refine cZ (aeE (cmpL a b) (by show 3≤100;decide)) ?_;refine bH ?_;exact mI
def mz(a b:Vl):Int:=if dP a≠0 then dP a else dP b
def KJ(a b:Vl):D:=.dG [ae (if mz a b≠0 then 0 else gw a b),ae (mz a b)]
theorem Rr(a b:Vl):VP Tryz.prog G 101 [.agg (cV a),.agg (cV b)] (ae (mz a b)):=by
 refine VC.body func101 rfl ntmps101 aO fun X0 w0 aY=>?_;unfold cV;refine cf ?_;refine OD.box (ds:=[_,_,_]) ap rfl rfl ot rfl rfl (fun b2=>?_);refine OD.box (ds:=[_,_,_]) ap rfl rfl ot rfl rfl (fun b3=>?_);refine an 13 [2,3] ?_;refine cW [3,5] (o8 a) ?_;refine af [3,5,9] ?_;refine au ?_ ?_<;>intro aP bF
 ·refine af [4] ?_;refine aI [] ?_;refine⟨vi ?_,rfl⟩;unfold mz;simp_all
 refine cW [4] (o8 b) ?_;refine aI [] ?_;refine⟨vi ?_,rfl⟩;unfold mz;simp_all
theorem YB(a b:Vl)(ha:a.Ok)(hb:b.Ok):VP Tryz.prog G 89 [.agg (cV a),.agg (cV b)] (KJ a b):=by
 refine VC.body func89 rfl ntmps89 aO fun X0 w0 aY=>?_;unfold cV KJ;refine cf ?_;refine OD.box (ds:=[_,_,_]) ap rfl rfl ot rfl rfl (fun b2=>?_);refine OD.box (ds:=[_,_,_]) ap rfl rfl ot rfl rfl (fun b3=>?_);refine an 16 [2,3] ?_;refine cW [2,3,6] (Rr a b) ?_;refine af [2,3,6,11] ?_;refine au ?_ ?_<;>intro aP bF
 ·refine af [4,5] ?_;refine aI [] ?_;first|(simp_all;done)|(refine⟨?_,rfl⟩;simp_all;done)
 refine cW [4,5] (NX a b ha hb) ?_;refine aI [] ?_;first|(simp_all;done)|(refine⟨?_,rfl⟩;simp_all;done)

end Go.Proofs.YtdgichenhdikgaaGreatDoor.Cd
namespace Go.Proofs.YtdgichenhdikgaaGreatDoor.Pc
open List
open Go.Proofs.Tryz
open Go.RowKit V Pk Vl Go.Proofs.YtdgichenhdikgaaGreatDoor.Nm
variable {i:Nat}
def typesC:List Value:=[.string ⟨#[]⟩,.string ⟨#[66,79,79,76]⟩,.string ⟨#[73,78,84]⟩,.string ⟨#[84,69,88,84]⟩]
structure cz where
 n:ByteArray
 k:Int
variable {l:List cz}
def cC(c:cz):List D:=[bf c.n,ae c.k]
theorem lB(c:cz):(cC c).length=2:=rfl
theorem aeF(c:cz):(cC c).all V.one=true:=rfl
def mY(pre:List cz)(c:cz):Int :=
 if cQ c.n≠0 then cQ c.n else if c.k<1∨c.k>3 then 2 else if (pre.any fun d=>d.n.toList==c.n.toList)=true then 9 else 0
def qO:List cz→List cz→Int
 | _,[]=>0
 | pre,c::r=>if mY pre c≠0 then mY pre c else qO (pre++[c]) r
def fE(l:List cz):Int:=if l.length<1∨l.length>6 then 1 else qO [] l
theorem Zs(hi:i<l.length)(h:mY (l.take i) l[i]=0):qO (l.take i) (l.drop i)=qO (l.take (i+1)) (l.drop (i+1)):=by
 rw[drop_eq_getElem_cons hi,take_succ_eq_append_getElem hi];exact if_neg (by simp[h])
theorem H8(hi:i<l.length)(h:mY (l.take i) l[i]≠0):qO (l.take i) (l.drop i)=mY (l.take i) l[i]:=by
 rw[drop_eq_getElem_cons hi];exact if_pos h
theorem aa7(hi:¬i<l.length):qO (l.take i) (l.drop i)=0:=by
 rw[drop_of_length_le w4];rfl
theorem H6(S:List ah):S.Perm (S++[]):=by rw[append_nil]
variable {G:List (Nat×List Value)}
theorem If(ls:List cz)(g:Nat)(E:List D)(S:List ah)(p:cz→Bool)(fk:∀args w,(callFunc g args).run Tryz.prog w = .ok (.enter g args) w)(hp:∀x∈ls,VC Tryz.prog G g (.agg (cC x)::E) S (fun r S'=>r=bX (p x)∧S'=S))(hlen:ls.length≤1000000):VC Tryz.prog G 106 [ax 2 cC ls,.ey (.func g) E] S (fun r S'=>r=ae (dS p ls)∧S'=S):=by
 refine VC.body func106 rfl ntmps106 aO fun X0 w0 aY=>?_;unfold cC at hp;exact Vm
theorem Yd(ls:List cz)(g:Nat)(E:List D)(S:List ah)(p:cz→Bool)(fk:∀args w,(callFunc g args).run Tryz.prog w = .ok (.enter g args) w)(hp:∀x∈ls,VC Tryz.prog G g (.agg (cC x)::E) S (fun r S'=>r=bX (p x)∧S'=S))(hlen:ls.length≤1000000):VC Tryz.prog G 112 [ax 2 cC ls,.ey (.func g) E] S (fun r S'=>r=bX (ls.any p)∧S'=S):=by
 refine VC.body func112 rfl ntmps112 aO fun X0 w0 aY=>?_;refine aC 1 ?_;refine OD.wk (Wk.dR (n:=9) (l':=[(0,_),(1,_)]) (S':=S) rfl mG fi) ?_;refine OD.nil ?_;refine aC 2 ?_;refine OD.call ap rfl rfl rfl call106 (If ls g E S p fk hp hlen) ⟨s7 rfl lk,s7 rfl lk,trivial⟩ (H6 _) ?_;rintro _ S2 ⟨rfl,iC⟩;rw[iC];clear iC;refine aE 2 ?_;refine OD.wk (Wk.dR (n:=9) (l':=[(4,_)]) (S':=S) rfl mG fi) ?_;refine OD.nil ?_;refine aI S ?_;refine⟨?_,rfl⟩;rw[PA]
theorem acO(h x:cz)(b:Nat):VC Tryz.prog G 113 [.agg (cC h),dJ b] [⟨b,69,2,cC x⟩] (fun r S=>r=bX (h.n.toList==x.n.toList)∧S=[⟨b,69,2,cC x⟩]):=by
 refine VC.body func113 rfl ntmps113 aO fun X0 w0 aY=>?_;unfold cC;refine cf ?_;refine OD.box (ds:=[_,_]) ap rfl rfl ot rfl rfl (fun b2=>?_);refine an 9 [1,2] ?_;refine af [3] ?_;refine aI [⟨b,69,2,cC x⟩] ?_;exact⟨rfl,rfl⟩
theorem acP(hm:(3,marksC)∈G)(hw:(1,wordsC)∈G)(l:List cz)(hl:l.length≤maxLen)(aT:∀c∈l,c.n.size≤maxLen):VP Tryz.prog G 67 [ax 2 cC l] (ae (fE l)):=by
 refine VC.body func67 rfl ntmps67 aO fun X0 w0 aY=>?_;have dy:=dY;refine af [0] ?_;refine aC 4 ?_;refine bW 9 (fun Z O=>?_) (fun Z O=>?_)
 ·refine bg [0,13] ?_;refine eE ?_;have aV:fE l=1:=if_pos w4;exact xA
 refine bg [0,13] ?_;refine au ?_ ?_<;>intro aP bF
 ·have aV:fE l=1:=if_pos w4;exact xA
 have h16:¬(l.length<1∨l.length>6):=(by omega)
 have E:fE l=qO (l.take 0) (l.drop 0):=if_neg h16;refine af [0,14,15,16] ?_;refine eL [0,14,15] (fun aW _ (i:Nat) aJ=>(i≤l.length)∧(fE l=qO (l.take i) (l.drop i))∧aJ=(⟨41,(16,ae (i:Nat))::aW,[]⟩:St)) (fun (i:Nat)=>l.length-i) 0 ⟨(Nat.zero_le _),E,rfl⟩ ?_;rintro i _ ⟨hi,hinv,rfl⟩;refine af [0,14,15,16,17] ?_;refine au ?_ ?_<;>intro aX cJ
 ·have aa:i<l.length:=(by omega)
  refine aC 3 ?_;refine OD.alloc (ds:=[_,_]) ap rfl rfl zeroValue69 rfl (fun b4=>?_);refine aE 1 ?_;refine aK 0 [_,_] sizeOf69 ?_;refine an 41 [0,3,4,14,15,16] ?_;refine cW [0,3,4,5,14,15,16] (s8 hm hw l[i].n (aT _ (getElem_mem aa))) ?_;refine af [0,3,4,5,14,15,16,25] ?_;refine au ?_ ?_<;>intro cr cU
  ·have hne:cQ l[i].n≠0:=(by simpa using cr)
   have hf:mY (l.take i) l[i]=cQ l[i].n:=if_pos hne;have aV:fE l=cQ l[i].n:=(by rw[hinv,H8 aa (by rw[hf];exact hne),hf])
   refine af [2] ?_;exact oM
  have gE:¬cQ l[i].n≠0:=(by simpa using cr)
  refine aC 4 ?_;refine bW 30 (fun U I=>?_) (fun U I=>?_)
  ·refine bg [0,3,4,14,15,16,34] ?_;refine eE ?_;exact z131
  refine bg [0,3,4,14,15,16,34] ?_;refine au ?_ ?_<;>intro cX ec
  ·exact z131
  have hk:¬(l[i].k<1∨l[i].k>3):=(by omega)
  refine aC 2 ?_;refine bQ (eu (l:=0) rfl ot trivial ⟨_,ot⟩ (by first|exact ox lB (fun h=>by cases h) runUnderlying27 sizeOf69 w4|exact oB (fun h=>by cases h) runUnderlying27 sizeOf69 w4|exact nO (fun _=>rfl) (fun h=>by cases h) runUnderlying27 sizeOf69 w4 w4)) ?_;refine bQ (oZ (ds:=[_]) rfl ⟨ot,trivial⟩) ?_;refine OD.call ap rfl rfl rfl call112 (Yd (l.take i) 113 [dJ b4] _ (fun d=>d.n.toList==l[i].n.toList) call113 (fun h _=>acO h l[i] b4) oJ) ⟨s7 rfl lk,s7 rfl lk,trivial⟩ (j5 (k:=0) rfl) ?_;rintro _ S2 ⟨rfl,iC⟩;rw[iC];clear iC;refine an 41 [0,14,15,16,39] ?_;refine au ?_ ?_<;>intro ew fp
  ·have hf:mY (l.take i) l[i]=9:=(by unfold mY;rw[if_neg gE,if_neg hk,if_pos ew])
   have aV:fE l=9:=(by rw[hinv,H8 aa (by rw[hf];decide),hf])
   refine af [2] ?_;exact oM
  have hf:mY (l.take i) l[i]=0:=(by unfold mY;rw[if_neg gE,if_neg hk,if_neg (by rw[ew];simp)])
  have ji:=hinv.trans (Zs aa hf);refine cl [0,14,15,16] ?_;refine⟨(i+1),_,cD,aM,w4,ji,rfl⟩
 have aV:fE l=0:=(by rw[hinv];exact aa7 w4)
 refine af [2] ?_;exact tU

end Go.Proofs.YtdgichenhdikgaaGreatDoor.Pc
namespace Go.Proofs.YtdgichenhdikgaaGreatDoor.Pa
open List
open Go.Proofs.Tryz
open Go.RowKit V Pk Vl Go.Proofs.YtdgichenhdikgaaGreatDoor.Nm Pc
structure cx where
 kind:Int
 table:ByteArray
 ay:List cz
 row:List Vl
 names:List ByteArray
 count:Bool
 aj:List aU
 order:ByteArray
 down:Bool
 gH:Int
 set:ByteArray
 bS:List aU
def gj:cx:=⟨0,⟨#[]⟩,[],[],[],false,[],⟨#[]⟩,false,-1,⟨#[]⟩,[]⟩

end Go.Proofs.YtdgichenhdikgaaGreatDoor.Pa
namespace Go.Proofs.YtdgichenhdikgaaGreatDoor.Pa







open List
open Go.Proofs.Tryz
open Go.RowKit V Pk Vl Go.Proofs.YtdgichenhdikgaaGreatDoor.Nm Pc
variable {G:List (Nat×List Value)}
variable {α:Type}
theorem D4{ls:List (List α)}{j:Nat}(h:j<ls.length):(ls.take (j+1)).flatten=(ls.take j).flatten++ls[j]:=by
 rw[take_succ_eq_append_getElem h,flatten_append,flatten_cons,flatten_nil,append_nil]
theorem Nx{ls:List (List α)}{j:Nat}(h:j<ls.length):((ls.take (j+1)).flatten).length=((ls.take j).flatten).length+ls[j].length:=by rw[D4 h,length_append]
theorem NB(ls:List (List α))(j:Nat):((ls.take j).flatten).length≤ls.flatten.length:=by
 conv=>rhs;rw[←take_append_drop j ls,flatten_append,length_append]
 omega
theorem Zt{e sz b cap:Nat}(h:cap≤maxLen):bw e sz [] 0 (some ⟨b,0,none⟩) cap [⟨b,e,cap*sz,[]⟩]:=.inr ⟨b,rfl,Nat.zero_le _,h,rfl⟩

end Go.Proofs.YtdgichenhdikgaaGreatDoor.Pa
namespace Go.Proofs.YtdgichenhdikgaaGreatDoor.Pa



open List
open Go.Proofs.Tryz
open Go.RowKit V Pk Vl Go.Proofs.YtdgichenhdikgaaGreatDoor.Nm Pc
variable {G:List (Nat×List Value)}
variable {α:Type} {i n:Nat} {ts h:List (List Tk)} {o:aU}
def aeG:List ByteArray:=[⟨#[]⟩,⟨#[66,79,79,76]⟩,⟨#[73,78,84]⟩,⟨#[84,69,88,84]⟩]

theorem lD(t:Tk):(cT t).all V.one=true:=rfl
def bE(s:ByteArray):Tk:=⟨1,s,0⟩
def dU(s:ByteArray):Tk:=⟨4,s,0⟩
def cK(l:List Tk):List D:=[ax 3 cT l]
theorem ga(l:List Tk):(cK l).length=1:=rfl
theorem pn(l:List Tk):(cK l).all V.one=true:=rfl
theorem sY{β:Type}(f:α→β){l:List α}(hi:i<l.length):(l.take i).map f++[f l[i]]=(l.take (i+1)).map f:=by rw[take_succ_eq_append_getElem hi,map_append];rfl
theorem IV{β:Type}(f:α→β){l:List α}(hi:l.length≤i):(l.take i).map f=l.map f:=by rw[take_of_length_le hi]
theorem mP(s:ByteArray):VP Tryz.prog G 78 [bf s] (.agg (cT (dU s))):=by
 refine VC.body func78 rfl ntmps78 aO fun X0 w0 aY=>?_;exact Un
theorem qH(s:ByteArray):VP Tryz.prog G 117 [bf s] (.agg (cT (bE s))):=by
 refine VC.body func117 rfl ntmps117 aO fun X0 w0 aY=>?_;exact Un
theorem AA:(Tryz.prog.info? 137).map (fun i=>(i.zero,i.size,i.bytes))=some (some (.agg #[.int .i64 0,.string ⟨#[]⟩,.int .i64 0]),3,32):=by kernel_rfl
theorem yI(l:List ByteArray)(hl:l.length≤10):VC Tryz.prog G 73 [ax 1 cS l] [] (gd cT 137 3 (l.map bE)):=by
 refine VC.body func73 rfl ntmps73 aO fun X0 w0 aY=>?_;have dy:=dY;refine af [0] ?_;refine cf ?_;refine bg [0,3] ?_;refine af [3,6,7,8] ?_;refine CD.block ?_;refine mM (fun (E:Nat×Option Addr×Nat×List ah) aJ=>match E with|(i,O,U,Sa)=>(i≤l.length)∧(bw 137 3 (((l.take i).map bE).flatMap cT) ((l.take i).map bE).length O U Sa)∧aJ=(⟨19,[(3,aN O ((l.take i).map bE).length U),(6,ax 1 cS l),(7,ae (l.length:Nat)),(8,ae (i:Nat))],(Sa)⟩:St)) (fun (E:Nat×Option Addr×Nat×List ah)=>match E with|(i,O,U,Sa)=>l.length-i) (0,none,0,[]) ⟨(Nat.zero_le _),(bw.cast iK lK),rfl⟩ (aM (h:=by repeat (first|exact trivial|refine⟨(by (repeat (first|exact fx|(apply fQ;focus (first|rfl|(simp;done)|(congr 2;omega)|(apply eG;exact sY bE aa)|(apply eG;simp;done)))|(apply fD;focus rfl)));done),?_⟩))) ?_;rintro⟨i,O,U,Sa⟩ _ ⟨hi,og,rfl⟩;refine af [3,6,7,8,9] ?_;refine au ?_ ?_<;>intro aP bF
 ·have aa:i<l.length:=(by omega)
  refine af [3,5,6,7,8] ?_;refine dQ 2 ?_;refine dO call117 (qH l[i]) ?_;refine en (bZ 0 [_]) [.int .i64 0,.string ⟨#[]⟩,.int .i64 0] [_,_,_] zeroValue137 runUnderlying98 sizeOf137 (fun b15=>?_);refine fB 0 15 3 1 ?_;refine OD.ev (ls:=((l.take i).map bE)) (new:=[bE l[i]]) (Sq:=Sa) iF lD ap rfl rfl underlying98 AA rfl w7 ot og (dI (A:=[])) ot bu (by have dy:=dY;(try simp only[length_append,length_cons,length_nil,length_map,length_take]);omega) (by have dy:=dY;(try simp only[length_append,length_cons,length_nil,length_map,length_take]);omega) (fun Z I ahE ahF=>?_);refine OD.perm (ee (S1:=[⟨Z,137,I*3,flatMap cT (((l.take i).map bE)++[bE l[i]])⟩]) (A:=[])) ?_;refine an 19 [3,6,7,8] ?_;refine cl [3,6,7,8] ?_;refine⟨((i+1),(some ⟨Z,0,none⟩),I,[⟨Z,137,I*3,flatMap cT (((l.take i).map bE)++[bE l[i]])⟩]),_,cD,(aM (h:=by repeat (first|exact trivial|refine⟨(by (repeat (first|exact fx|(apply fQ;focus (first|rfl|(simp;done)|(congr 2;omega)|(apply eG;exact sY bE aa)|(apply eG;simp;done)))|(apply fD;focus rfl)));done),?_⟩))),w4,(bw.cast (bJ ahE ahF) (by exact sY bE aa)),rfl⟩
 have fh:=IV bE (show l.length≤i by omega);refine af [2] ?_;refine aI _ ?_;exact gd.cast (gd.mk og) fh
theorem rQ(l:List ByteArray)(hl:l.length≤10):VP Tryz.prog G 73 [ax 1 cS l] (.list 3 ((l.map bE).flatMap cT) (l.map bE).length):=VC.wv iF (yI l hl)
def kK(ts:List (List Tk)):Nat→List Tk
 | 0=>[dU ⟨#[40]⟩]
 | i+1=>kK ts i++(if i>0 then [dU ⟨#[44]⟩] else [])++ts.getD i []
def l5(ts:List (List Tk)):List Tk:=kK ts ts.length++[dU ⟨#[41]⟩]
theorem Ez{ts:List (List Tk)}(h:∀x∈ts,x.length≤10):∀i,(kK ts i).length≤1+11*i
 | 0=>Nat.le_refl _
 | i+1=>by
  have E:=Ez h i;have h2:(ts.getD i []).length≤10:=by
   rw[getD_eq_getElem?_getD];cases hx:ts[i]? with
   | none=>exact Nat.zero_le _
   | some x=>exact h x (mem_of_getElem? hx)
  have h3:(if i>0 then [dU ⟨#[44]⟩] else []).length≤1:=(by split<;>simp)
  unfold kK;rw[length_append,length_append];omega
theorem H7(hi:i<ts.length)(h:0<i):(kK ts i++[dU ⟨#[44]⟩])++ts[i]=kK ts (i+1):=by
 rw[kK,if_pos h,getD_eq_getElem?_getD,getElem?_eq_getElem hi];rfl
theorem Hy(hi:i<ts.length)(h:¬0<i):kK ts i++ts[i]=kK ts (i+1):=by
 rw[kK,if_neg h,append_nil,getD_eq_getElem?_getD,getElem?_eq_getElem hi];rfl
theorem Rt(ts:List (List Tk))(hl:ts.length≤10)(Li:∀x∈ts,x.length≤10):VP Tryz.prog G 74 [ax 1 cK ts] (.list 3 ((l5 ts).flatMap cT) (l5 ts).length):=by
 refine VC.body func74 rfl ntmps74 aO fun X0 w0 aY=>?_;have dy:=dY;refine af [0] ?_;refine cf ?_;refine dO call78 (mP ⟨#[40]⟩) ?_;refine en (bZ 0 [_]) [.int .i64 0,.string ⟨#[]⟩,.int .i64 0] [_,_,_] zeroValue137 runUnderlying98 sizeOf137 (fun b7=>?_);refine OD.perm (ee (S1:=[⟨b7,137,1*3,flatMap cT ([dU ⟨#[40]⟩])⟩]) (A:=[])) ?_;refine an 29 [0,3] ?_;refine af [3,8,9,10] ?_;refine CD.block ?_;refine mM (fun (E:Nat×Option Addr×Nat×List ah) aJ=>match E with|(i,I,O,Sa)=>(i≤ts.length)∧(bw 137 3 ((kK ts i).flatMap cT) (kK ts i).length I O Sa)∧aJ=(⟨29,[(3,aN I (kK ts i).length O),(8,ax 1 cK ts),(9,ae (ts.length:Nat)),(10,ae (i:Nat))],(Sa)⟩:St)) (fun (E:Nat×Option Addr×Nat×List ah)=>match E with|(i,I,O,Sa)=>ts.length-i) (0,(some ⟨b7,0,none⟩),1,[⟨b7,137,1*3,flatMap cT ([dU ⟨#[40]⟩])⟩]) ⟨(Nat.zero_le _),(bw.cast (bJ (g:=cT) (sz:=3) (e:=137) (ls:=[dU ⟨#[40]⟩]) (Nat.le_refl _) (show 1≤maxLen by decide)) (by rfl)),rfl⟩ (aM (h:=by repeat (first|exact trivial|refine⟨(by (repeat (first|exact fx|(apply fQ;focus (first|rfl|(simp;done)|(congr 2;omega)|(apply eG;first|exact H7 aa w4|exact Hy aa w4)|(apply eG;rfl)|(apply eG;simp;done)))|(apply fD;focus rfl)));done),?_⟩))) ?_;rintro⟨i,I,O,Sa⟩ _ ⟨hi,og,rfl⟩;refine af [3,8,9,10,11] ?_;refine au ?_ ?_<;>intro aP bF
 ·have aa:i<ts.length:=(by omega)
  refine af [3,4,5,8,9,10] ?_;refine af [3,5,8,9,10,16] ?_;refine au ?_ ?_<;>intro aX cJ
  ·refine dQ 1 ?_;refine dO call78 (mP ⟨#[44]⟩) ?_;refine en (bZ 0 [_]) [.int .i64 0,.string ⟨#[]⟩,.int .i64 0] [_,_,_] zeroValue137 runUnderlying98 sizeOf137 (fun b19=>?_);refine fB 0 19 3 1 ?_;refine OD.ev (ls:=(kK ts i)) (new:=[dU ⟨#[44]⟩]) (Sq:=Sa) iF lD ap rfl rfl underlying98 AA rfl w7 ot og (dI (A:=[])) ot bu w9 w9 (fun ME U ahG ahH=>?_);refine OD.perm (ee (S1:=[⟨ME,137,U*3,flatMap cT ((kK ts i)++[dU ⟨#[44]⟩])⟩]) (A:=[])) ?_;refine an 29 [3,5,8,9,10] ?_;refine dQ 2 ?_;refine OD.oY (ls:=((kK ts i)++[dU ⟨#[44]⟩])) (new:=ts[i]) (Sq:=[⟨ME,137,U*3,flatMap cT ((kK ts i)++[dU ⟨#[44]⟩])⟩]) iF lD ap rfl rfl underlying98 AA rfl w7 runUnderlying98 sizeOf137 ot (bJ ahG ahH) (dI (A:=[])) ot w9 w9 (fun T4 T5 VG T6=>?_);exact VF
  refine dQ 2 ?_;refine OD.oY (ls:=(kK ts i)) (new:=ts[i]) (Sq:=Sa) iF lD ap rfl rfl underlying98 AA rfl w7 runUnderlying98 sizeOf137 ot og (dI (A:=[])) ot w9 w9 (fun T4 T5 VG T6=>?_);exact VF
 have tM:i=ts.length:=(by omega)
 have nY:kK ts i++[dU ⟨#[41]⟩]=l5 ts:=(by unfold l5;rw[←tM])
 refine aC 1 ?_;refine dO call78 (mP ⟨#[41]⟩) ?_;refine en (bZ 0 [_]) [.int .i64 0,.string ⟨#[]⟩,.int .i64 0] [_,_,_] zeroValue137 runUnderlying98 sizeOf137 (fun b27=>?_);refine fB 0 27 3 1 ?_;refine OD.ev (ls:=(kK ts i)) (new:=[dU ⟨#[41]⟩]) (Sq:=Sa) iF lD ap rfl rfl underlying98 AA rfl w7 ot og (dI (A:=[])) ot bu w9 w9 (fun MA Z ahI ahJ=>?_);refine OD.perm (ee (S1:=[⟨MA,137,Z*3,flatMap cT ((kK ts i)++[dU ⟨#[41]⟩])⟩]) (A:=[])) ?_;refine an 29 [2] ?_;refine CD.iq (t:=2) (Sq:=[⟨MA,137,Z*3,flatMap cT ((kK ts i)++[dU ⟨#[41]⟩])⟩]) lk (bJ ahI ahJ) (cy iF _) (dI (A:=[])) ?_;refine aI [] ?_;rw[nY];exact⟨rfl,rfl⟩
def jj(v:Vl):List Tk :=
 if v.k=0 then [bE ⟨#[78,85,76,76]⟩]
 else if v.k=1 then [bE (if v.n=0 then ⟨#[70,65,76,83,69]⟩ else ⟨#[84,82,85,69]⟩)]
 else if v.k=3 then [⟨3,v.s,0⟩]
 else if v.n<0 then [dU ⟨#[45]⟩,⟨2,⟨#[]⟩,-v.n⟩] else [⟨2,⟨#[]⟩,v.n⟩]
def mN(v:Vl):Prop:=(v.k=1→v.n=0∨v.n=1)∧-9223372036854775807≤v.n∧v.n≤9223372036854775807
theorem Ou(v:Vl):0<(jj v).length∧(jj v).length≤2:=by
 unfold jj;repeat' split
 all_goals exact⟨by simp,by simp⟩
def Fl:List ByteArray:=[⟨#[]⟩,⟨#[]⟩,⟨#[]⟩,⟨#[]⟩,⟨#[]⟩,⟨#[]⟩,⟨#[61]⟩,⟨#[60]⟩,⟨#[43]⟩,⟨#[45]⟩,⟨#[42]⟩]
def zf(k:Int):Tk:=if k=3 then bE ⟨#[65,78,68]⟩ else if k=4 then bE ⟨#[79,82]⟩ else dU (Fl.getD k.toNat ⟨#[]⟩)
theorem afZ{j:Nat}(h:j<11):(Fl.map fun s=>D.v (.string s))[j*1]?=some (bf (Fl[j]'h)):=by
 rw[Nat.mul_one,getElem?_map,getElem?_eq_getElem h];rfl
theorem NC(v:Vl)(h:mN v):VP Tryz.prog G 75 [.agg (cV v)] (.list 3 ((jj v).flatMap cT) (jj v).length):=by
 refine VC.body func75 rfl ntmps75 aO fun X0 w0 aY=>?_;obtain⟨h1,h2,h3⟩:=h;unfold cV;refine cf ?_;refine OD.box (ds:=[_,_,_]) ap rfl rfl ot rfl rfl (fun b1=>?_);refine an 42 [1] ?_;refine af [1,3] ?_;refine au ?_ ?_<;>intro aP bF
 ·refine cW [2] (rQ [⟨#[78,85,76,76]⟩] zR) ?_;exact Gp
 refine af [1,9] ?_;refine au ?_ ?_<;>intro aX cJ
 ·have dM:v.k=1:=(by simpa using aX)
  obtain⟨j,hj,I⟩:∃j:Nat,v.n=(j:Int)∧j<2:=(by (rcases h1 dM with h|h;exact⟨0,h,by decide⟩;exact⟨1,h,by decide⟩))
  rw[hj];refine cR [2] ?_;refine Mp (g:=cS) ([⟨#[70,65,76,83,69]⟩,⟨#[84,82,85,69]⟩]) ?_;refine aR 3 ?_ (h:=by exact(cM (mk:=Op.load 9) rfl ot (by exact pZ (i:=j) jh isAgg9 (by show j<2;omega) rfl)));refine cZ (rQ [([⟨#[70,65,76,83,69]⟩,⟨#[84,82,85,69]⟩]:List ByteArray)[j]'(by show j<2;omega)] zR) ?_;refine bH ?_;exact Gp
 refine af [1,20] ?_;refine au ?_ ?_<;>intro cr cU
 ·refine aC 3 ?_;refine en (bZ 0 [_]) [.int .i64 0,.string ⟨#[]⟩,.int .i64 0] [_,_,_] zeroValue137 runUnderlying98 sizeOf137 (fun E=>?_);refine OD.perm (ee (S1:=[⟨E,137,1*3,flatMap cT ([(⟨3,v.s,0⟩:Tk)])⟩]) (A:=[_])) ?_;refine an 42 [2] ?_;refine CD.iq (t:=2) (Sq:=[⟨E,137,1*3,flatMap cT ([(⟨3,v.s,0⟩:Tk)])⟩]) lk (bJ (g:=cT) (sz:=3) (e:=137) (ls:=[(⟨3,v.s,0⟩:Tk)]) (Nat.le_refl _) (show 1≤maxLen by decide)) (cy iF _) (dI (A:=[_])) ?_;exact Gp
 refine af [1,28] ?_;refine au ?_ ?_<;>intro cX ec
 ·refine cR [2] ?_;refine cZ (mP ⟨#[45]⟩) ?_;refine aR 2 ?_ (h:=by exact(Ei rfl ot (Jq (wrap_i64 w4 w4))));refine bH ?_;exact Gp
 refine aC 3 ?_;refine en (bZ 0 [_]) [.int .i64 0,.string ⟨#[]⟩,.int .i64 0] [_,_,_] zeroValue137 runUnderlying98 sizeOf137 (fun vr=>?_);refine OD.perm (ee (S1:=[⟨vr,137,1*3,flatMap cT ([(⟨2,⟨#[]⟩,v.n⟩:Tk)])⟩]) (A:=[_])) ?_;refine an 42 [2] ?_;refine CD.iq (t:=2) (Sq:=[⟨vr,137,1*3,flatMap cT ([(⟨2,⟨#[]⟩,v.n⟩:Tk)])⟩]) lk (bJ (g:=cT) (sz:=3) (e:=137) (ls:=[(⟨2,⟨#[]⟩,v.n⟩:Tk)]) (Nat.le_refl _) (show 1≤maxLen by decide)) (cy iF _) (dI (A:=[_])) ?_;refine aI [] ?_;refine⟨?_,rfl⟩;unfold jj;first|(rw[if_pos bF];first|done|rfl)|(rw[if_neg bF,if_pos dM,hj];rcases j with _|_|j<;>first|rfl|omega)|(rw[if_neg bF,if_neg cJ,if_pos cU];first|done|rfl)|(rw[if_neg bF,if_neg cJ,if_neg cU,if_pos w4,show -v.n=0-v.n by omega];first|done|rfl)|(rw[if_neg bF,if_neg cJ,if_neg cU,if_neg w4];first|done|rfl)
theorem YC(k:Int)(h:k=3∨k=4∨6≤k∧k≤10):VP Tryz.prog G 119 [ae k] (.agg (cT (zf k))):=by
 refine VC.body func119 rfl ntmps119 aO fun X0 w0 aY=>?_;refine cf ?_;refine OD.alloc (ds:=[_,_,_]) ap rfl rfl zeroValue137 rfl (fun b2=>?_);refine an 14 [0,2] ?_;refine af [0,2,3] ?_;refine af [0,2,3,4] ?_;refine au ?_ ?_<;>intro aP bF
 ·refine cf ?_;refine dO call117 (qH ⟨#[65,78,68]⟩) ?_;exact VN
 refine af [0,2,7] ?_;refine au ?_ ?_<;>intro aX cJ
 ·refine cf ?_;refine dO call117 (qH ⟨#[79,82]⟩) ?_;exact VN
 have lP:¬k=3:=(by simpa using aP)
 have xB:¬k=4:=(by simpa using aX)
 obtain⟨j,rfl⟩:∃j:Nat,k=(j:Int):=⟨k.toNat,by omega⟩
 have hj:j<11:=(by omega)
 refine cf ?_;refine bQ (DN (pl:=[(6,_),(7,_),(8,_),(9,_),(10,_)]) (ds:=[_,_,_,_,_,_,_,_,_,_,_]) rfl zeroValue215 runUnderlying215 sizeOf9 ⟨rfl,bI,rfl,bI,rfl,bI,rfl,bI,rfl,bI,trivial⟩ rfl rfl) ?_;refine aE 1 ?_;refine bQ (Yp (j:=j) rfl ot ot runUnderlying215 sizeOf9 isAgg9 rfl hj (afZ hj)) ?_;refine dO call78 (mP (Fl[j]'hj)) ?_;refine aK 0 [_,_,_] sizeOf137 ?_;refine an 14 [2] ?_;refine aI [] ?_;refine⟨?_,rfl⟩;unfold zf;first|(rw[if_neg lP,if_neg xB,show((j:Nat):Int).toNat=j from rfl,getD_eq_getElem?_getD,getElem?_eq_getElem hj];rfl)|(rw[if_pos xp];rfl)|(rw[if_neg xp,if_pos vm];rfl)

def CT(q:List Tk):List D:=[ax 3 cT q]
theorem NH:(Tryz.prog.info? 137).map (fun i=>(i.zero,i.size,i.bytes))=some (some (.agg #[.int .i64 0,.string ⟨#[]⟩,.int .i64 0]),3,32):=by kernel_rfl
theorem Zu(n:Nat)(h0:0<n)(hn:n≤100000):VC Tryz.prog G 118 [bB,ae (n:Nat)] [] (fun r S=>∃b cap,cap≤maxLen∧r=aN (some ⟨b,0,none⟩) 0 cap∧S=[⟨b,137,cap*3,[]⟩]):=by
 refine VC.body func118 rfl ntmps118 aO fun X0 w0 aY=>?_;refine af [0,1] ?_;refine af [0,1,6] ?_;refine au ?_ ?_<;>intro aP bF
 ·exact absurd aP tP
 refine cR [0,1] ?_;refine aR 2 ?_ (h:=by exact(D2 rfl rfl ot runUnderlying98));refine aR 1 ?_ (h:=by exact(cM (mk:=fun y=>.call {callee:=.builtin .len,args:=#[y],argTypes:=#[98]}) rfl ot (Ra rfl runUnderlying98)));refine bH ?_;refine af [0,1,16] ?_;refine au ?_ ?_<;>intro aX cJ
 ·refine dQ 2 ?_;refine bQ (D2 rfl rfl ot runUnderlying98) ?_;refine bQ (DL rfl ot rfl ⟨_,_,ot,rfl⟩ runUnderlying98 sizeOf137) ?_;refine aE 1 ?_;refine OD.aa1 (m:=n) (sz:=3) ap rfl rfl underlying98 underlying3 NH rfl w7 ot (Eq.trans ot (congrArg (fun z=>D.v (.int .i64 z)) (show((n:Nat):Int)-(0-0)=((n:Nat):Int) by omega))) h0 FD w4 (fun b cap h1 h2=>?_);refine aE 1 ?_;refine bQ (cM (mk:=fun y=>.call {callee:=.builtin .len,args:=#[y],argTypes:=#[98]}) rfl ot (Ra rfl runUnderlying98)) ?_;refine bQ (eu (l:=0) (h:=0) rfl ot trivial ⟨_,ot⟩ (by first|exact oB (fun h=>by cases h) runUnderlying98 sizeOf137 w4|exact nO (fun _=>rfl) (fun h=>by cases h) runUnderlying98 sizeOf137 w4 w4)) ?_;refine an 27 [0] ?_;refine af [4] ?_;refine aI [⟨b,137,cap*3,[]⟩] ?_;exact⟨b,cap,h2,rfl,rfl⟩
 exact absurd aX (by simp at aX;omega)
theorem Ye(ls:List (List Tk))(WI:ls.length≤1000)(h0:0<ls.flatten.length)(hn:ls.flatten.length≤100000):VC Tryz.prog G 77 [ax 1 CT ls] [] (fun r S=>∃ad cap,r=aN ad ls.flatten.length cap∧bw 137 3 (ls.flatten.flatMap cT) ls.flatten.length ad cap S):=by
 refine VC.body func77 rfl ntmps77 aO fun X0 w0 aY=>?_;refine af [0] ?_;refine af [0,3] ?_;refine af [0,3,9,10,11] ?_;refine CD.block ?_;refine mM (fun (j:Nat) aJ=>(j≤ls.length)∧aJ=(⟨36,[(0,ax 1 CT ls),(3,ae ((((ls.take j).flatten).length:Nat):Int)),(9,ax 1 CT ls),(10,ae (ls.length:Nat)),(11,ae (j:Nat))],[]⟩:St)) (fun (j:Nat)=>ls.length-j) 0 ⟨(Nat.zero_le _),rfl⟩ (aM (h:=by repeat (first|exact trivial|refine⟨(by (repeat (first|exact fx|(apply fQ;focus (first|rfl|(congr 2;omega)|(simp;done)))|(apply fD;focus rfl)));done),?_⟩))) ?_;rintro j _ ⟨hj,rfl⟩;refine af [0,3,9,10,11,12] ?_;refine au ?_ ?_<;>intro aP bF
 ·have aa:j<ls.length:=(by simp at aP;omega)
  have O:=Nx aa;have hle:=NB ls (j+1);refine af [0,3,5,9,10,11] ?_;refine cR [0,3,9,10,11] ?_;refine aR 3 ?_ (h:=by exact(c9 (r:=.int .i64 ((((ls.take (j+1)).flatten).length:Nat):Int)) rfl ot ot (j7 (by rw[show((((ls.take j).flatten).length:Nat):Int)+(ls[j].length:Nat)=((((ls.take (j+1)).flatten).length:Nat):Int) by omega];exact wrap_i64 w4 w4))));refine bH ?_;refine af [0,3,9,10,11,20] ?_;refine au ?_ ?_<;>intro aX cJ
  ·exact absurd aX (by simp at aX;omega)
  refine cl [0,3,9,10,11] ?_;refine⟨(j+1),_,cD,(aM (h:=by repeat (first|exact trivial|refine⟨(by (repeat (first|exact fx|(apply fQ;focus (first|rfl|(congr 2;omega)|(simp;done)))|(apply fD;focus rfl)));done),?_⟩))),w4,rfl⟩
 obtain rfl:j=ls.length:=(by simp at aP;omega)
 rw[take_length];refine aC 1 ?_;refine OD.call ap rfl rfl rfl call118 (Zu ls.flatten.length h0 hn) ⟨bI,ot,trivial⟩ (Perm.refl _) ?_;rintro _ _ ⟨b,cp,xy,rfl,rfl⟩;refine OD.perm (Perm.refl _) ?_;refine an 36 [0,6] ?_;refine af [6,25,26,27] ?_;refine CD.block ?_;refine mM (fun (E:Nat×Option Addr×Nat×List ah) aJ=>match E with|(j,dW,dK,Sx)=>(j≤ls.length)∧(bw 137 3 (((ls.take j).flatten).flatMap cT) ((ls.take j).flatten).length dW dK Sx)∧aJ=(⟨36,[(6,aN dW ((ls.take j).flatten).length dK),(25,ax 1 CT ls),(26,ae (ls.length:Nat)),(27,ae (j:Nat))],(Sx)⟩:St)) (fun (E:Nat×Option Addr×Nat×List ah)=>match E with|(j,dW,dK,Sx)=>ls.length-j) (0,(some ⟨b,0,none⟩),cp,[⟨b,137,cp*3,[]⟩]) ⟨(Nat.zero_le _),(bw.cast (Zt xy) (by rfl)),rfl⟩ (aM (h:=by repeat (first|exact trivial|refine⟨(by (repeat (first|exact fx|(apply fQ;focus (first|rfl|(simp;done)|(congr 2;omega)|(apply eG;rw[D4 aa])|(apply eG;rfl)|(apply eG;simp;done)))|(apply fD;focus rfl)));done),?_⟩))) ?_;rintro⟨j,dW,dK,Sx⟩ _ ⟨hj,er,rfl⟩;refine af [6,25,26,27,28] ?_;refine au ?_ ?_<;>intro cr cU
 ·have aa:j<ls.length:=(by simp at cr;omega)
  have O:=Nx aa;have hle:=NB ls (j+1);refine af [6,8,25,26,27] ?_;refine dQ 2 ?_;refine OD.oY (ls:=((ls.take j).flatten)) (new:=ls[j]) (Sq:=Sx) iF lD ap rfl rfl underlying98 NH rfl w7 runUnderlying98 sizeOf137 ot er (dI (A:=[])) ot FD w4 (fun U Z S33 ahK=>?_);refine OD.perm (ee (A:=[])) ?_;refine an 36 [6,25,26,27] ?_;refine cl [6,25,26,27] ?_;refine⟨((j+1),U,Z,S33),_,cD,(aM (h:=by repeat (first|exact trivial|refine⟨(by (repeat (first|exact fx|(apply fQ;focus (first|rfl|(simp;done)|(congr 2;omega)|(apply eG;rw[D4 aa])|(apply eG;rfl)|(apply eG;simp;done)))|(apply fD;focus rfl)));done),?_⟩))),w4,(bw.cast ahK (by rw[D4 aa])),rfl⟩
 obtain rfl:j=ls.length:=(by simp at cr;omega)
 refine af [2] ?_;refine aI Sx ?_;have I:=er;rw[take_length] at I;exact⟨dW,dK,by rw[take_length],I⟩
theorem D5(ls:List (List Tk))(E:ls.length≤1000)(h0:0<ls.flatten.length)(hn:ls.flatten.length≤100000):VP Tryz.prog G 77 [ax 1 CT ls] (ax 3 cT ls.flatten):=VC.wv iF (Ye ls E h0 hn)
def sc(o:aU)(a b:List Tk):List Tk :=
 if o.k=1 then jj o.v else if o.k=2 then [bE o.nm]
 else if o.k=5 then [[dU ⟨#[40]⟩,bE ⟨#[78,79,84]⟩],a,[dU ⟨#[41]⟩]].flatten
 else if o.k=11 then [[dU ⟨#[40]⟩],a,[bE ⟨#[73,83]⟩,bE ⟨#[78,85,76,76]⟩],[dU ⟨#[41]⟩]].flatten
 else [[dU ⟨#[40]⟩],a,[zf o.k],b,[dU ⟨#[41]⟩]].flatten
def eH(h:List (List Tk))(o:aU):Nat:=h.length-(bP o.k).toNat
def nU(h:List (List Tk))(o:aU):List (List Tk):=h.take (eH h o)++[sc o (h.getD (eH h o) []) (h.getD (eH h o+1) [])]
def qP(l:List aU):List Tk:=(l.foldl nU []).getD 0 []
theorem acQ{h:Int}(he:fa h o=0):1≤o.k∧o.k≤11∧iO o.v=0∧bP o.k≤h:=by
 unfold fa at he;split at he
 ·cases he
 split at he
 ·exact absurd he tw
 split at he
 ·cases he
 split at he
 ·rename_i h4;exact absurd he h4.2
 split at he
 ·cases he
 exact⟨by omega,by omega,by omega,by omega⟩
theorem acR{l:List aU}{h:Int}(hi:i<l.length)(he:fG h (l.drop i)=0):fa h l[i]=0:=by
 rw[drop_eq_getElem_cons hi,fG] at he;split at he
 ·assumption
 exact he
theorem SX{v:Vl}(h:iO v=0)(h1:-9223372036854775808≤v.n)(h2:v.n≤9223372036854775807):mN v:=by
 unfold iO dP at h;split at h
 ·cases h
 have hn:¬(v.k=2∧v.n = -9223372036854775808):=(by assumption)
 repeat' split at h
 all_goals first|(exfalso;omega)|(unfold mN;refine⟨?_,?_,h2⟩<;>omega)
theorem PR(hp:bP o.k≤(h.length:Int)):((nU h o).length:Int)=h.length+(1-bP o.k):=by
 have:=s6 o.k;unfold nU eH;rw[length_append,length_take];simp only[length_cons,length_nil];omega
theorem Ax(h:List (List Tk))(n:Nat):h.flatten.length=(h.take n).flatten.length+(h.drop n).flatten.length:=by
 conv=>lhs;rw[←take_append_drop n h,flatten_append,length_append]
theorem ur:(h.getD n []).length≤(h.drop n).flatten.length∧(h.getD n []).length+(h.getD (n+1) []).length≤(h.drop n).flatten.length:=by
 by_cases hn:n<h.length
 ·rw[drop_eq_getElem_cons hn];have e1:h.getD n []=h[n]:=(by rw[getD_eq_getElem?_getD,getElem?_eq_getElem hn];rfl)
  rw[e1,flatten_cons,length_append];refine⟨by omega,?_⟩;by_cases iR:n+1<h.length
  ·rw[drop_eq_getElem_cons iR,flatten_cons,length_append];have e2:h.getD (n+1) []=h[n+1]:=(by rw[getD_eq_getElem?_getD,getElem?_eq_getElem iR];rfl)
   rw[e2];omega
  have e2:h.getD (n+1) []=[]:=(by rw[getD_eq_getElem?_getD,getElem?_eq_none w4];rfl)
  rw[e2];simp only[length_nil];omega
 have e1:h.getD n []=[]:=(by rw[getD_eq_getElem?_getD,getElem?_eq_none w4];rfl)
 have e2:h.getD (n+1) []=[]:=(by rw[getD_eq_getElem?_getD,getElem?_eq_none w4];rfl)
 rw[e1,e2];exact⟨by simp,by simp⟩
theorem Ru(o:aU)(a b:List Tk):(sc o a b).length≤a.length+b.length+5∧0<(sc o a b).length:=by
 have:=Ou o.v;unfold sc;repeat' split
 all_goals first|exact⟨by omega,by omega⟩|(simp only[flatten_cons,flatten_nil,length_append,length_cons,length_nil];exact⟨by omega,by omega⟩)
theorem Ov:(nU h o).flatten.length≤h.flatten.length+5:=by
 have h1:=Ax h (eH h o);have h2:=(ur (h:=h) (n:=eH h o)).2;have h3:=(Ru o (h.getD (eH h o) []) (h.getD (eH h o+1) [])).1;unfold nU;rw[flatten_append,length_append];simp only[flatten_cons,flatten_nil,append_nil];omega
theorem Zv{l:List aU}(hi:i<l.length):(l.take (i+1)).foldl nU []=nU ((l.take i).foldl nU []) l[i]:=by
 rw[take_succ_eq_append_getElem hi,foldl_append];rfl
theorem EG{e sz cap:Nat}{cs:List D}{ad:Option Addr}{S:List ah}(h:bw e sz cs n ad cap S)(hn:0<n):∃b,ad=some ⟨b,0,none⟩∧n≤cap∧cap≤maxLen∧S=[⟨b,e,cap*sz,cs⟩]:=by
 rcases h with ⟨h1,_⟩|h
 ·omega
 exact h
theorem mr{h:List α}{d:α}(hn:n<h.length):h.getD n d=h[n]:=by rw[getD_eq_getElem?_getD,getElem?_eq_getElem hn];rfl
theorem YD:(Tryz.prog.info? 98).map (fun i=>(i.zero,i.size,i.bytes))=some (some (.slice none 0 0),1,24):=by kernel_rfl
theorem NY(l:List aU)(hl:l.length≤40)(he:fG 0 l=0)(hr:∀o∈l,-9223372036854775808≤o.v.n∧o.v.n≤9223372036854775807):VP Tryz.prog G 79 [ax 5 cO l] (.list 3 ((qP l).flatMap cT) (qP l).length):=by
 refine VC.body func79 rfl ntmps79 aO fun X0 w0 aY=>?_;have dy:=dY;refine af [0] ?_;refine cf ?_;refine bg [0,3] ?_;refine af [3,8,9,10] ?_;refine CD.block ?_;refine mM (fun (l8:Nat×List (List Tk)×Option Addr×Nat×List ah) aJ=>match l8 with|(i,H,An,jY,Sh)=>(i≤l.length)∧(H=(l.take i).foldl nU [])∧(fG ((H).length:Int) (l.drop i)=0)∧((H).length≤i)∧((H).flatten.length≤5*i)∧(bw 98 1 ((H).flatMap cK) (H).length An jY Sh)∧aJ=(⟨90,[(3,aN An (H).length jY),(8,ax 5 cO l),(9,ae (l.length:Nat)),(10,ae (i:Nat))],(Sh)⟩:St)) (fun (l8:Nat×List (List Tk)×Option Addr×Nat×List ah)=>match l8 with|(i,H,An,jY,Sh)=>l.length-i) (0,[],none,0,[]) ⟨(Nat.zero_le _),rfl,he,(Nat.le_refl _),(Nat.le_refl _),(bw.cast iK (by rfl)),rfl⟩ (aM (h:=by repeat (first|exact trivial|refine⟨(by (repeat (first|exact fx|(apply fQ;focus (first|rfl|(simp;done)|(congr 2;omega)|(apply eG;rw[hT];rfl)|(apply eG;rfl)|(apply eG;simp;done)))|(apply fD;focus rfl)));done),?_⟩))) ?_;rintro⟨i,H,An,jY,Sh⟩ _ ⟨hi,hH,hx,hHi,hHf,nH,rfl⟩;refine af [3,8,9,10,11] ?_;refine au ?_ ?_<;>intro aP bF
 ·have aa:i<l.length:=(by simp at aP;omega)
  have Am:=acR aa hx;obtain⟨dM,UD,uT,Gz⟩:=acQ Am;have CR:=s6 l[i].k;have KK:l.length≤40:=hl;have ahL:eH H l[i]≤H.length:=Nat.sub_le _ _;have ahM:=SX uT (hr _ (getElem_mem aa)).1 (hr _ (getElem_mem aa)).2;refine aC 2 ?_;refine OD.alloc (ds:=[_,_,_,_,_]) ap rfl rfl zeroValue43 rfl (fun b5=>?_);refine aK 0 [_,_,_,_,_] sizeOf43 ?_;refine an 90 [3,5,8,9,10] ?_;refine cR [3,5,6,8,9,10] ?_;refine cZ (yt l[i].k) ?_;refine aR 0 ?_ (h:=by exact(c9 (r:=.int .i64 (((eH H l[i]):Nat):Int)) rfl ot ot (fY (by rw[show((H.length:Nat):Int)-bP l[i].k=(((eH H l[i]):Nat):Int) by unfold eH;omega];exact wrap_i64 w4 w4))));refine bH ?_;refine af [3,5,6,8,9,10] ?_;refine jQ [6,8,9,10] (fun aW _ aJ=>∃(Tx:List Tk),∃(ad:Option Addr),∃(cp:Nat),∃(Sx:List ah),(Tx=sc l[i] (H.getD (eH H l[i]) []) (H.getD (eH H l[i]+1) []))∧(bw 98 1 (H.flatMap cK) H.length ad cp Sx)∧aJ=(⟨90,(3,aN ad H.length cp)::(7,ax 3 cT Tx)::aW,Sx⟩:St)) ?_ ?_
  ·refine af [3,5,6,8,9,10,21] ?_;refine af [3,5,6,8,9,10,21,41] ?_;refine au ?_ ?_<;>intro aX cJ
   ·refine iB [3,6,7,8,9,10] ?_;refine cZ (NC l[i].v ahM) ?_;refine bH ?_;refine⟨_,aM,jj l[i].v,An,jY,Sh,(by unfold sc;rw[if_pos cJ]),nH,rfl⟩
   refine af [3,5,6,8,9,10,21,46] ?_;refine au ?_ ?_<;>intro cr cU
   ·refine iB [3,6,7,8,9,10] ?_;refine cZ (rQ [l[i].nm] zR) ?_;refine bH ?_;refine⟨_,aM,[bE l[i].nm],An,jY,Sh,(by unfold sc;rw[if_neg cJ,if_pos cU]),nH,rfl⟩
   refine af [3,5,6,8,9,10,21,52] ?_;refine au ?_ ?_<;>intro cX ec
   ·have CU:l[i].k=5:=(by simpa using cX)
    have hp1:bP l[i].k=1:=(by rw[CU];decide)
    have hg1:=(ur (h:=H) (n:=eH H l[i])).1;have hg2:=(ur (h:=H) (n:=eH H l[i])).2;have hg3:=Ax H (eH H l[i]);have U:0<H.length:=(by omega)
    obtain⟨bh,E,I,O,Z⟩:=EG nH U;subst E Z;have gE:eH H l[i]<H.length:=(by unfold eH;omega)
    rw[mr gE] at hg1 hg2;skip;refine iB [3,6,7,8,9,10] ?_;refine cZ (mP ⟨#[40]⟩) ?_;refine cZ (qH ⟨#[78,79,84]⟩) ?_;refine aR 4 ?_ (h:=by first|exact(cM (mk:=Op.load 98) rfl ot LF)|exact(cM (mk:=Op.load 98) rfl ot LC)|exact(cM (mk:=Op.load 98) rfl ot LA));refine cZ (mP ⟨#[41]⟩) ?_;refine cZ (D5 ([[dU ⟨#[40]⟩,bE ⟨#[78,79,84]⟩],H[eH H l[i]],[dU ⟨#[41]⟩]]) LJ zG zG) ?_;refine bH ?_;refine⟨_,aM,[[dU ⟨#[40]⟩,bE ⟨#[78,79,84]⟩],H[eH H l[i]],[dU ⟨#[41]⟩]].flatten,(some ⟨bh,0,none⟩),jY,[⟨bh,98,jY*1,H.flatMap cK⟩],(by unfold sc;rw[if_neg cJ,if_neg cU,if_pos ec,mr gE]),(bJ I O),rfl⟩
   refine af [3,5,6,8,9,10,65] ?_;refine au ?_ ?_<;>intro ew fp
   ·have MF:l[i].k=11:=(by simpa using ew)
    have hp1:bP l[i].k=1:=(by rw[MF];decide)
    have hg1:=(ur (h:=H) (n:=eH H l[i])).1;have hg2:=(ur (h:=H) (n:=eH H l[i])).2;have hg3:=Ax H (eH H l[i]);have U:0<H.length:=(by omega)
    obtain⟨bh,E,I,O,Z⟩:=EG nH U;subst E Z;have gE:eH H l[i]<H.length:=(by unfold eH;omega)
    rw[mr gE] at hg1 hg2;skip;refine iB [3,6,7,8,9,10] ?_;refine cZ (mP ⟨#[40]⟩) ?_;refine aR 4 ?_ (h:=by first|exact(cM (mk:=Op.load 98) rfl ot LF)|exact(cM (mk:=Op.load 98) rfl ot LC)|exact(cM (mk:=Op.load 98) rfl ot LA));refine cZ (rQ [⟨#[73,83]⟩,⟨#[78,85,76,76]⟩] (by show 2≤10;decide)) ?_;refine cZ (mP ⟨#[41]⟩) ?_;refine cZ (D5 ([[dU ⟨#[40]⟩],H[eH H l[i]],[bE ⟨#[73,83]⟩,bE ⟨#[78,85,76,76]⟩],[dU ⟨#[41]⟩]]) LJ zG zG) ?_;refine bH ?_;refine⟨_,aM,[[dU ⟨#[40]⟩],H[eH H l[i]],[bE ⟨#[73,83]⟩,bE ⟨#[78,85,76,76]⟩],[dU ⟨#[41]⟩]].flatten,(some ⟨bh,0,none⟩),jY,[⟨bh,98,jY*1,H.flatMap cK⟩],(by unfold sc;rw[if_neg cJ,if_neg cU,if_neg ec,if_pos fp,mr gE]),(bJ I O),rfl⟩
   have hkb:¬l[i].k=1∧¬l[i].k=2∧¬l[i].k=5∧¬l[i].k=11:=⟨by simpa using aX,by simpa using cr,by simpa using cX,by simpa using ew⟩
   have oc:bP l[i].k=2:=(by unfold bP;rw[if_neg w4,if_neg w4])
   have hg1:=(ur (h:=H) (n:=eH H l[i])).1;have hg2:=(ur (h:=H) (n:=eH H l[i])).2;have hg3:=Ax H (eH H l[i]);have U:0<H.length:=(by omega)
   obtain⟨bh,E,I,O,Z⟩:=EG nH U;subst E Z;have gE:eH H l[i]<H.length:=(by unfold eH;omega)
   have gh:eH H l[i]+1<H.length:=(by unfold eH;omega)
   rw[mr gE,mr gh] at hg2;rw[mr gE] at hg1;refine iB [3,6,7,8,9,10] ?_;refine cZ (mP ⟨#[40]⟩) ?_;refine aR 4 ?_ (h:=by first|exact(cM (mk:=Op.load 98) rfl ot LF)|exact(cM (mk:=Op.load 98) rfl ot LC)|exact(cM (mk:=Op.load 98) rfl ot LA));refine cZ (YC l[i].k w4) ?_;refine aR 3 ?_ (h:=by exact(c9 (r:=.int .i64 ((((eH H l[i])+1:Nat)):Int)) rfl ot bI (j7 (by rw[show(((eH H l[i]):Nat):Int)+1=(((eH H l[i])+1:Nat):Int) by omega];exact wrap_i64 w4 w4))));refine aR 1 ?_ (h:=by first|exact(cM (mk:=Op.load 98) rfl ot (by exact iU (k:=0) (i:=((eH H l[i])+1)) ga rfl rfl rfl isAgg98 gh rfl))|exact(cM (mk:=Op.load 98) rfl ot (by exact iU (k:=1) (i:=((eH H l[i])+1)) ga rfl rfl rfl isAgg98 gh rfl))|exact(cM (mk:=Op.load 98) rfl ot (by exact iU (k:=2) (i:=((eH H l[i])+1)) ga rfl rfl rfl isAgg98 gh rfl)));refine cZ (mP ⟨#[41]⟩) ?_;refine cZ (D5 ([[dU ⟨#[40]⟩],H[eH H l[i]],[zf l[i].k],H[eH H l[i]+1],[dU ⟨#[41]⟩]]) LJ zG zG) ?_;refine bH ?_;refine⟨_,aM,[[dU ⟨#[40]⟩],H[eH H l[i]],[zf l[i].k],H[eH H l[i]+1],[dU ⟨#[41]⟩]].flatten,(some ⟨bh,0,none⟩),jY,[⟨bh,98,jY*1,H.flatMap cK⟩],(by unfold sc;rw[if_neg cJ,if_neg cU,if_neg ec,if_neg fp,mr gE,mr gh]),(bJ I O),rfl⟩
  rintro _ ⟨Tx,ad,cp,Sx,hT,er,rfl⟩;have hTl:=Ru l[i] (H.getD (eH H l[i]) []) (H.getD (eH H l[i]+1) []);refine dQ 3 ?_;refine bQ (XI er rfl ot ot ot runUnderlying130 sizeOf98 (by unfold eH;omega)) ?_;refine aE 1 ?_;refine en (bZ 0 [_]) [.slice none 0 0] [_] zeroValue98 runUnderlying130 sizeOf98 (fun b84=>?_);refine fB 0 84 1 1 ?_;refine OD.Yy (ls:=H) (new:=[Tx]) (n:=eH H l[i]) (Sq:=Sx) ga pn ap rfl rfl underlying130 YD rfl w7 ot er (dI (A:=[])) (by unfold eH;omega) ot bu (by simp only[maxLen,length_cons,length_nil];omega) (by simp only[length_cons,length_nil];omega) (fun MG KL ahN ahO=>?_);refine OD.perm (ee (S1:=[⟨MG,98,KL*1,flatMap cK (H.take (eH H l[i])++[Tx])⟩]) (A:=[])) ?_;refine an 90 [3,8,9,10] ?_;refine cl [3,8,9,10] ?_;refine⟨((i+1),(nU H l[i]),(some ⟨MG,0,none⟩),KL,[⟨MG,98,KL*1,flatMap cK (H.take (eH H l[i])++[Tx])⟩]),_,cD,(aM (h:=by repeat (first|exact trivial|refine⟨(by (repeat (first|exact fx|(apply fQ;focus (first|rfl|(simp;done)|(congr 2;omega)|(apply eG;rw[hT];rfl)|(apply eG;rfl)|(apply eG;simp;done)))|(apply fD;focus rfl)));done),?_⟩))),w4,(by rw[hH,←Zv aa]),(by rw[PR Gz,←Pj aa Am];exact hx),(by have:=PR Gz;omega),(by have:=Ov (h:=H) (o:=l[i]);omega),(bw.cast (bJ ahN ahO) (by rw[hT];rfl)),rfl⟩
 have tM:l.length≤i:=(by simp at aP;omega)
 have fh:=hx;rw[Oq tM] at fh;have hH1:H.length=1:=(by (split at fh;omega;cases fh))
 refine CD.exit ?_;refine CD.seq ?_;obtain⟨bh,E,I,O,Z⟩:=EG nH (show 0<H.length by omega);subst E Z;have gE:0<H.length:=(by omega)
 refine iB [2] ?_;refine aR 1 ?_ (h:=by exact(pW (mk:=Op.indexAddr 130) rfl ot bI (by first|exact qG runUnderlying130 sizeOf98 (j:=0) rfl (by first|exact gE|exact gh)|exact qL runUnderlying130 sizeOf98 (j:=0) rfl (by first|exact gE|exact gh))));refine aR 0 ?_ (h:=by first|exact(cM (mk:=Op.load 98) rfl ot (by exact iU (k:=0) (i:=0) ga rfl rfl rfl isAgg98 gE rfl))|exact(cM (mk:=Op.load 98) rfl ot (by exact iU (k:=1) (i:=0) ga rfl rfl rfl isAgg98 gE rfl))|exact(cM (mk:=Op.load 98) rfl ot (by exact iU (k:=2) (i:=0) ga rfl rfl rfl isAgg98 gE rfl)));refine bH ?_;refine aI [] ?_;refine⟨?_,rfl⟩;unfold qP;rw[show l.foldl nU []=H by rw[hH,take_of_length_le tM],mr gE]

end Go.Proofs.YtdgichenhdikgaaGreatDoor.Pa
namespace Go.Proofs.YtdgichenhdikgaaGreatDoor.Pa

open List
open Go.Proofs.Tryz
open Go.RowKit V Pk Vl Go.Proofs.YtdgichenhdikgaaGreatDoor.Nm Pc
variable {G:List (Nat×List Value)}
variable {α:Type} {i:Nat} {E:List ByteArray}
def bY(s:cx):List D:=[ae s.kind,bf s.table,ax 2 cC s.ay,ax 3 cV s.row,ax 1 cS s.names,bX s.count,ax 5 cO s.aj,bf s.order,bX s.down,ae s.gH,bf s.set,ax 5 cO s.bS]
def okS(s:cx):Prop:=s.ay.length≤6∧s.row.length≤6∧s.names.length≤6∧s.aj.length≤40∧s.bS.length≤40

def jH{α:Type}(f:α→Int):List α→Int
 | []=>0
 | a::r=>if f a≠0 then f a else jH f r
theorem PS{f:α→Int}{l:List α}(hi:i<l.length)(h:f l[i]≠0):jH f (l.drop i)=f l[i]:=by rw[drop_eq_getElem_cons hi,jH,if_pos h]
theorem PT{f:α→Int}{l:List α}(hi:i<l.length)(h:f l[i]=0):jH f (l.drop i)=jH f (l.drop (i+1)):=by rw[drop_eq_getElem_cons hi,jH,if_neg (by rw[h];decide)]
theorem Ow{f:α→Int}{l:List α}(hi:l.length≤i):jH f (l.drop i)=0:=by rw[drop_of_length_le hi];rfl
def dZ(l:List Vl):Int:=if l.length<1∨l.length>6 then 1 else jH iO l
def nv(l:List aU):Int:=if l.length=0 then 0 else iM l
def oD(s:cx):Int :=
 if s.names.length>6 then 1 else if s.gH < -1 then 3
 else if (s.count=true∧0<s.names.length)∨(s.down=true∧jd s.order ⟨#[]⟩=true) then 6
 else if jH cQ s.names≠0 then jH cQ s.names else if nv s.aj≠0 then nv s.aj else if jd s.order ⟨#[]⟩=true then 0 else cQ s.order
def kZ(s h:cx):Bool:=jd s.table h.table&&(((s.ay.length:Int)==(h.ay.length:Int))&&(((s.row.length:Int)==(h.row.length:Int))&&(((s.names.length:Int)==(h.names.length:Int))&&((s.count==h.count)&&(((s.aj.length:Int)==(h.aj.length:Int))&&(jd s.order h.order&&((s.down==h.down)&&((s.gH==h.gH)&&(jd s.set h.set&&((s.bS.length:Int)==(h.bS.length:Int)))))))))))
structure lH (s:cx):Prop where
 ok:okS s
 t:s.table.size≤maxLen
 c:∀c∈s.ay,c.n.size≤maxLen
 n:∀x∈s.names,x.size≤maxLen
 o:s.order.size≤maxLen
 e:s.set.size≤maxLen
 r:∀v∈s.row,-9223372036854775808≤v.n∧v.n≤9223372036854775807
 w:∀o∈s.aj,o.nm.size≤maxLen∧-9223372036854775808≤o.v.n∧o.v.n≤9223372036854775807
 x:∀o∈s.bS,o.nm.size≤maxLen∧-9223372036854775808≤o.v.n∧o.v.n≤9223372036854775807
def kg(l:List aU):List Tk:=if l.length=0 then [] else [⟨#[87,72,69,82,69]⟩].map bE++qP l
theorem Pm(hm:(3,marksC)∈G)(hw:(1,wordsC)∈G)(l:List ByteArray)(hl:l.length≤1000)(hs:∀s∈l,s.size≤maxLen):VP Tryz.prog G 115 [ax 1 cS l] (ae (jH cQ l)):=by
 refine VC.body func115 rfl ntmps115 aO fun X0 w0 aY=>?_;refine af [0] ?_;refine af [6,7,8] ?_;refine eL [6,7] (fun aW _ (i:Nat) aJ=>(i≤l.length)∧(jH cQ l=jH cQ (l.drop i))∧aJ=(⟨18,(8,ae (i:Nat))::aW,[]⟩:St)) (fun (i:Nat)=>l.length-i) 0 ⟨(Nat.zero_le _),rfl,rfl⟩ ?_;rintro i _ ⟨hi,hx,rfl⟩;refine af [6,7,8,9] ?_;refine au ?_ ?_<;>intro aP bF
 ·have aa:i<l.length:=(by simp at aP;omega)
  refine af [4,6,7,8] ?_;refine cW [5,6,7,8] (s8 hm hw l[i] (hs _ (getElem_mem aa))) ?_;refine af [5,6,7,8,15] ?_;refine au ?_ ?_<;>intro aX cJ
  ·have hn:cQ l[i]≠0:=(by simpa using aX)
   have fh:=hx.trans (PS aa hn);exact L4
  have h0:cQ l[i]=0:=(by simpa using aX)
  refine cl [6,7,8] ?_;refine⟨(i+1),_,cD,aM,w4,(hx.trans (PT aa h0)),rfl⟩
 have fh:jH cQ l=0:=hx.trans (Ow tP);refine af [2] ?_;exact Gu
theorem acS(l:List Vl)(hl:l.length≤1000):VP Tryz.prog G 68 [ax 3 cV l] (ae (dZ l)):=by
 refine VC.body func68 rfl ntmps68 aO fun X0 w0 aY=>?_;have O:(l.length<1∨l.length>6)∨¬(l.length<1∨l.length>6):=(by omega)
 refine af [0] ?_;refine aC 4 ?_;refine bW 9 (fun I E=>?_) (fun I E=>?_)
 ·refine bg [0,13] ?_;refine eE ?_;exact Ub
 refine bg [0,13] ?_;refine au ?_ ?_<;>intro aP bF
 ·exact Ub
 have hf:dZ l=jH iO l:=if_neg w4;refine af [14,15,16] ?_;refine eL [14,15] (fun aW _ (i:Nat) aJ=>(i≤l.length)∧(jH iO l=jH iO (l.drop i))∧aJ=(⟨26,(16,ae (i:Nat))::aW,[]⟩:St)) (fun (i:Nat)=>l.length-i) 0 ⟨(Nat.zero_le _),rfl,rfl⟩ ?_;rintro i _ ⟨hi,hx,rfl⟩;refine af [14,15,16,17] ?_;refine au ?_ ?_<;>intro aX cJ
 ·have aa:i<l.length:=(by simp at aX;omega)
  refine aC 2 ?_;refine OD.alloc (ds:=[_,_,_]) ap rfl rfl zeroValue41 rfl (fun b4=>?_);refine aK 0 [_,_,_] sizeOf41 ?_;refine an 26 [4,14,15,16] ?_;refine cW [5,14,15,16] (Nm.NT l[i]) ?_;refine af [5,14,15,16,23] ?_;refine au ?_ ?_<;>intro cr cU
  ·have hn:iO l[i]≠0:=(by simpa using cr)
   have fh:=hf.trans (hx.trans (PS aa hn));exact L4
  have h0:iO l[i]=0:=(by simpa using cr)
  refine cl [14,15,16] ?_;refine⟨(i+1),_,cD,aM,w4,(hx.trans (PT aa h0)),rfl⟩
 have fh:dZ l=0:=hf.trans (hx.trans (Ow (by simp at aX;omega)));refine af [2] ?_;exact Gu
theorem DW(hm:(3,marksC)∈G)(hw:(1,wordsC)∈G)(l:List aU)(hs:∀o∈l,o.nm.size≤maxLen):VP Tryz.prog G 71 [ax 5 cO l] (ae (nv l)):=by
 refine VC.body func71 rfl ntmps71 aO fun X0 w0 aY=>?_;refine af [0] ?_;refine af [0,5] ?_;refine au ?_ ?_<;>intro aP bF
 ·have fh:nv l=0:=if_pos tP;exact L4
 have fh:nv l=iM l:=if_neg tP;refine cW [2] (IS hm hw l hs) ?_;exact Gu
theorem aa8(hm:(3,marksC)∈G)(hw:(1,wordsC)∈G)(s:cx)(hf:lH s):VP Tryz.prog G 69 [.agg (bY s)] (ae (oD s)):=by
 refine VC.body func69 rfl ntmps69 aO fun X0 w0 aY=>?_;unfold bY;refine cf ?_;refine OD.box (ds:=[_,_,_,_,_,_,_,_,_,_,_,_]) ap rfl rfl ot rfl rfl (fun b1=>?_);refine an 50 [1] ?_;refine af [1,5] ?_;refine au ?_ ?_<;>intro aP bF
 ·refine af [2] ?_;refine aI [] ?_;exact Vn
 refine af [1,10] ?_;refine au ?_ ?_<;>intro aX cJ
 ·refine af [2] ?_;refine aI [] ?_;exact Vn
 refine aC 3 ?_;refine bW 17 (fun wK wq=>?_) (fun wK wq=>?_)
 ·refine aE 6 ?_;refine bW 23 (fun U O=>?_) (fun U O=>?_)
  ·refine bg [1,14] ?_;refine eE ?_;refine af [2] ?_;exact z24
  refine aE 3 ?_;refine bW 26 (fun I E=>?_) (fun I E=>?_)
  ·exact Uq
  refine bg [1,14] ?_;refine fM ?_;exact z20
 refine xC 4 ?_;refine aE 5 ?_;refine bW 26 (fun I E=>?_) (fun I E=>?_)
 ·exact Uq
 refine bg [1,14] ?_;refine fM ?_;refine cW [1,3] (Pm hm hw s.names (by have:=hf.ok.2.2.1;omega) hf.n) ?_;refine af [1,3,36] ?_;refine au ?_ ?_<;>intro cX ec
 ·refine af [2] ?_;exact z24
 refine cW [1,4] (DW hm hw s.aj (fun o h=>(hf.w o h).1)) ?_;refine af [1,4,42] ?_;refine au ?_ ?_<;>intro ew fp
 ·refine af [2] ?_;exact z24
 refine af [1,46] ?_;refine au ?_ ?_<;>intro fm gv
 ·refine cW [2] (s8 hm hw s.order hf.o) ?_;exact z24
 refine af [2] ?_;refine eK ?_;refine⟨vi ?_,rfl⟩;unfold oD jd;simp_all;all_goals (try (intros;(repeat' split)<;>first|rfl|omega))
theorem acT(s h:cx):VP Tryz.prog G 72 [.agg (bY s),.agg (bY h)] (bX (kZ s h)):=by
 refine VC.body func72 rfl ntmps72 aO fun X0 w0 aY=>?_;unfold bY;refine cf ?_;refine OD.box (ds:=[_,_,_,_,_,_,_,_,_,_,_,_]) ap rfl rfl ot rfl rfl (fun b2=>?_);refine OD.box (ds:=[_,_,_,_,_,_,_,_,_,_,_,_]) ap rfl rfl ot rfl rfl (fun b3=>?_);refine an 90 [2,3] ?_;refine aC 6 ?_;refine bW 10 (fun ahP E=>?_) (fun ahP E=>?_)
 ·refine aE 9 ?_;refine bW 19 (fun KM I=>?_) (fun KM I=>?_)
  ·refine aE 9 ?_;refine bW 28 (fun ahQ O=>?_) (fun ahQ O=>?_)
   ·refine aE 9 ?_;refine bW 37 (fun ahR U=>?_) (fun ahR U=>?_)
    ·refine aE 4 ?_;refine OD.still ic rfl (c9 rfl ot ot (Eg underlying4)) ?_;refine aE 2 ?_;refine bW 44 (fun ahS Z=>?_) (fun ahS Z=>?_)
     ·refine aE 9 ?_;refine bW 53 (fun KN JZ=>?_) (fun KN JZ=>?_)
      ·refine aE 7 ?_;refine bW 60 (fun ahT J0=>?_) (fun ahT J0=>?_)
       ·refine aE 4 ?_;refine OD.still ic rfl (c9 rfl ot ot (Eg underlying4)) ?_;refine aE 2 ?_;refine bW 67 (fun ahU af0=>?_) (fun ahU af0=>?_)
        ·refine aE 7 ?_;refine bW 74 (fun ahV af1=>?_) (fun ahV af1=>?_)
         ·refine aE 7 ?_;refine bW 81 (fun ahW af2=>?_) (fun ahW af2=>?_)
          ·exact z46
          exact z46
         exact z46
        exact z46
       exact z46
      exact z46
     exact z46
    refine bg [4] ?_;refine eK ?_;exact z49
   refine bg [4] ?_;refine eK ?_;exact z49
  refine bg [4] ?_;refine eK ?_;exact z49
 refine bg [4] ?_;refine eK ?_;refine⟨vb ?_,rfl⟩;unfold kZ jd;simp_all;all_goals (try (intros;omega))
theorem Yf:(Tryz.prog.info? 137).map (fun i=>(i.zero,i.size,i.bytes))=some (some (.agg #[.int .i64 0,.string ⟨#[]⟩,.int .i64 0]),3,32):=by kernel_rfl
theorem G9(l:List aU)(hl:l.length≤40)(he:l.length=0∨fG 0 l=0)(hr:∀o∈l,-9223372036854775808≤o.v.n∧o.v.n≤9223372036854775807)(hsl:(qP l).length≤1000):VP Tryz.prog G 80 [ax 5 cO l] (.list 3 ((kg l).flatMap cT) (kg l).length):=by
 refine VC.body func80 rfl ntmps80 aO fun X0 w0 aY=>?_;refine af [0] ?_;refine af [0,5] ?_;refine au ?_ ?_<;>intro aP bF
 ·have fh:kg l=[]:=if_pos tP;refine af [2] ?_;refine CD.wk (Wk.uy (t:=2) (sz:=3) lk) ?_;refine aI [] ?_;rw[fh];exact⟨rfl,rfl⟩
 have fh:kg l=[⟨#[87,72,69,82,69]⟩].map bE++qP l:=if_neg tP;have I:fG 0 l=0:=he.resolve_left tP;refine cf ?_;refine en (bZ 0 [_]) [.string ⟨#[]⟩] [_] zeroValue9 runUnderlying29 sizeOf9 (fun b6=>?_);refine OD.perm (ee (S1:=[⟨b6,9,1*1,flatMap cS ([⟨#[87,72,69,82,69]⟩])⟩]) (A:=[])) ?_;refine OD.iq (t:=6) (Sq:=[⟨b6,9,1*1,flatMap cS ([⟨#[87,72,69,82,69]⟩])⟩]) lk (bJ (g:=cS) (sz:=1) (e:=9) (ls:=[⟨#[87,72,69,82,69]⟩]) (Nat.le_refl _) (show 1≤maxLen by decide)) (cy jh _) (dI (A:=[])) ?_;refine OD.call ap rfl rfl rfl call73 (yI [⟨#[87,72,69,82,69]⟩] zR) ⟨ot,trivial⟩ (eO _) ?_;rintro _ S7 ⟨WK,WL,rfl,pG⟩;refine OD.perm (S':=S7) (append_nil _ ▸ Perm.refl _) ?_;refine aE 1 ?_;refine dO call79 (NY l hl I hr) ?_;refine OD.oY (ls:=([⟨#[87,72,69,82,69]⟩].map bE)) (new:=(qP l)) (Sq:=S7) iF lD ap rfl rfl underlying98 Yf rfl w7 runUnderlying98 sizeOf137 ot pG (dI (A:=[])) ot (by simp only[maxLen,length_map,length_cons,length_nil];omega) (by simp only[length_map,length_cons,length_nil];omega) (fun U Z O E=>?_);refine OD.perm (ee (A:=[])) ?_;refine an 11 [2] ?_;refine CD.iq (t:=2) (Sq:=O) lk E (cy iF _) (dI (A:=[])) ?_;exact Gu

def qV(s:cx):ByteArray:=if s.kind<7 then s.table else ⟨#[]⟩
def iN(s:cx):cx :=
 if s.kind=1 then {gj with kind:=s.kind,table:=(qV s),ay:=s.ay} else if s.kind=3 then {gj with kind:=s.kind,table:=(qV s),row:=s.row} else if s.kind=4 then {gj with kind:=s.kind,table:=(qV s),names:=s.names,count:=s.count,aj:=s.aj,order:=s.order,down:=s.down,gH:=s.gH} else if s.kind=5 then {gj with kind:=s.kind,table:=(qV s),set:=s.set,bS:=s.bS,aj:=s.aj} else if s.kind=6 then {gj with kind:=s.kind,table:=(qV s),aj:=s.aj} else {gj with kind:=s.kind,table:=(qV s)}
def jM(s:cx):Int :=
 if s.kind=1 then fE s.ay else if s.kind=3 then dZ s.row else if s.kind=4 then oD s
 else if s.kind=5 then (if cQ s.set=0 then (if iM s.bS=0 then nv s.aj else iM s.bS) else cQ s.set) else if s.kind=6 then nv s.aj else 0
def gP(s:cx):Int:=if s.kind<7∧cQ s.table≠0 then cQ s.table else if jM s=0∧kZ s (iN s)=false then 6 else jM s
theorem Zw(hm:(3,marksC)∈G)(hw:(1,wordsC)∈G)(s:cx)(hf:lH s):VP Tryz.prog G 38 [.agg (bY s)] (ae (gP s)):=by
 refine VC.body func38 rfl ntmps38 aO fun X0 w0 aY=>?_;have I:=aa8 hm hw s hf;unfold bY at I;unfold bY;refine cf ?_;refine OD.box (ds:=[_,_,_,_,_,_,_,_,_,_,_,_]) ap rfl rfl ot rfl rfl (fun b1=>?_);refine an 102 [1] ?_;refine aC 3 ?_;refine OD.alloc (ds:=[_,_,_,_,_,_,_,_,_,_,_,_]) ap rfl rfl zeroValue32 rfl (fun b3=>?_);refine aK 0 [_,_,_,_,_,_,_,_,_,_,_,_] sizeOf32 ?_;refine an 102 [1,3] ?_;refine jQ [1,3] (fun aW _ aJ=>∃(tb:ByteArray),(tb=qV s)∧(¬(s.kind<7∧cQ s.table≠0))∧aJ=(⟨102,aW,[⟨b3,32,12,[ae s.kind,bf tb,.list 2 [] 0,.list 3 [] 0,.list 1 [] 0,bX false,.list 5 [] 0,e9,bX false,ae (-1),e9,.list 5 [] 0]⟩,⟨b1,32,12,[ae s.kind,bf s.table,ax 2 cC s.ay,ax 3 cV s.row,ax 1 cS s.names,bX s.count,ax 5 cO s.aj,bf s.order,bX s.down,ae s.gH,bf s.set,ax 5 cO s.bS]⟩]⟩:St)) ?_ ?_
 ·refine CD.seq ?_;refine CD.cells (k:=0) (cs':=[_,_,.list 2 [] 0,.list 3 [] 0,.list 1 [] 0,_,.list 5 [] 0,_,_,_,_,.list 5 [] 0]) (S':=[_,_]) rfl (by repeat (first|exact trivial|exact⟨cN,trivial⟩|exact⟨eB,trivial⟩|refine⟨cN,?_⟩|refine⟨eB,?_⟩)) rfl ?_;refine cl [1,3,11] ?_;refine au ?_ ?_<;>intro aP bF
  ·refine aC 3 ?_;refine aK 0 [_,_,_,_,_,_,_,_,_,_,_,_] sizeOf9 ?_;refine an 102 [1,3] ?_;refine cW [1,3,4] (s8 hm hw s.table hf.t) ?_;refine af [1,3,4,19] ?_;refine au ?_ ?_<;>intro aX cJ
   ·have aV:gP s=cQ s.table:=(by unfold gP;rw[if_pos ⟨bF,by simpa using aX⟩])
    exact z93
   have gE:cQ s.table=0:=(by simpa using aX)
   have O:s.table=qV s:=(by unfold qV;rw[if_pos bF])
   have U:¬(s.kind<7∧cQ s.table≠0):=fun h=>h.2 gE;refine CD.skip ?_;refine⟨_,aM,s.table,O,U,rfl⟩
  have O:(⟨#[]⟩:ByteArray)=qV s:=(by unfold qV;rw[if_neg w4])
  have U:¬(s.kind<7∧cQ s.table≠0):=fun h=>by omega
  refine CD.skip ?_;refine⟨_,aM,⟨#[]⟩,O,U,rfl⟩
 rintro _ ⟨tb,vk,jW,rfl⟩;refine af [1,3,5] ?_;refine jQ [1,3] (fun aW _ aJ=>∃(H:cx),∃(e:Int),(H=iN s)∧(e=jM s)∧aJ=(⟨102,(5,ae e)::aW,[⟨b3,32,12,[ae H.kind,bf H.table,ax 2 cC H.ay,ax 3 cV H.row,ax 1 cS H.names,bX H.count,ax 5 cO H.aj,bf H.order,bX H.down,ae H.gH,bf H.set,ax 5 cO H.bS]⟩,⟨b1,32,12,[ae s.kind,bf s.table,ax 2 cC s.ay,ax 3 cV s.row,ax 1 cS s.names,bX s.count,ax 5 cO s.aj,bf s.order,bX s.down,ae s.gH,bf s.set,ax 5 cO s.bS]⟩]⟩:St)) ?_ ?_
 ·refine af [1,3,5,22] ?_;refine af [1,3,5,22,23] ?_;refine au ?_ ?_<;>intro cr cU
  ·refine aC 3 ?_;refine aK 0 [_,_,_,_,_,_,_,_,_,_,_,_] sizeOf27 ?_;refine an 102 [1,3] ?_;refine iB [1,3,5] ?_;refine cZ (acP hm hw s.ay (by have:=hf.ok.1;simp only[maxLen];omega) hf.c) ?_;refine bH ?_;refine⟨_,aM,{gj with kind:=s.kind,table:=tb,ay:=s.ay},fE s.ay,(by unfold iN;rw[if_pos cU,vk]),(by unfold jM;rw[if_pos cU]),rfl⟩
  refine af [1,3,5,22,31] ?_;refine au ?_ ?_<;>intro cX ec
  ·refine aC 3 ?_;refine aK 0 [_,_,_,_,_,_,_,_,_,_,_,_] sizeOf28 ?_;refine an 102 [1,3] ?_;refine iB [1,3,5] ?_;refine cZ (acS s.row (by have:=hf.ok.2.1;omega)) ?_;refine bH ?_;refine⟨_,aM,{gj with kind:=s.kind,table:=tb,row:=s.row},dZ s.row,(by unfold iN;rw[if_neg cU,if_pos ec,vk]),(by unfold jM;rw[if_neg cU,if_pos ec]),rfl⟩
  refine af [1,3,5,22,39] ?_;refine au ?_ ?_<;>intro ew fp
  ·refine CD.seq ?_;refine fL 22 (aq (eraseIdx _ 0)) ?_ (fun _ h=>(Sublist.map _ (eraseIdx_sublist _ 0)).subset h);refine az 0 rfl (da 4) ?_;refine az 1 rfl (dD 1) ?_;refine az 2 rfl (da 5) ?_;refine az 3 rfl (dD 1) ?_;refine az 4 rfl (da 6) ?_;refine az 5 rfl (dD 1) ?_;refine az 6 rfl (da 7) ?_;refine az 7 rfl (dD 1) ?_;refine az 8 rfl (da 8) ?_;refine az 9 rfl (dD 1) ?_;refine az 10 rfl (da 9) ?_;refine az 11 rfl (dD 1) ?_;refine az 12 rfl (da 4) ?_;refine dm.later rfl ?_;refine AD.one (i:=13) aA ?_;refine dR 0 [_,_,_,_,_,_,_,_,_,_,_,_] sizeOf29 ?_;refine cu 14 rfl (da 5) ?_;refine AD.one (i:=15) aA ?_;refine dR 0 [_,_,_,_,_,_,_,_,_,_,_,_] sizeOf4 ?_;refine cu 16 rfl (da 6) ?_;refine AD.one (i:=17) aA ?_;refine dR 0 [_,_,_,_,_,_,_,_,_,_,_,_] sizeOf30 ?_;refine cu 18 rfl (da 7) ?_;refine AD.one (i:=19) aA ?_;refine dR 0 [_,_,_,_,_,_,_,_,_,_,_,_] sizeOf9 ?_;refine cu 20 rfl (da 8) ?_;refine AD.one (i:=21) aA ?_;refine dR 0 [_,_,_,_,_,_,_,_,_,_,_,_] sizeOf4 ?_;refine eD ?_;refine aE 1 ?_;refine aK 0 [_,_,_,_,_,_,_,_,_,_,_,_] sizeOf3 ?_;refine an 102 [1,3] ?_;refine iB [1,3,5] ?_;refine cZ (I) ?_;refine bH ?_;refine⟨_,aM,{gj with kind:=s.kind,table:=tb,names:=s.names,count:=s.count,aj:=s.aj,order:=s.order,down:=s.down,gH:=s.gH},oD s,(by unfold iN;rw[if_neg cU,if_neg ec,if_pos fp,vk]),(by unfold jM;rw[if_neg cU,if_neg ec,if_pos fp]),rfl⟩
  refine af [1,3,5,22,61] ?_;refine au ?_ ?_<;>intro fm gv
  ·refine CD.seq ?_;refine fL 10 (aq (eraseIdx _ 0)) ?_ (fun _ h=>(Sublist.map _ (eraseIdx_sublist _ 0)).subset h);refine az 0 rfl (da 10) ?_;refine az 1 rfl (dD 1) ?_;refine az 2 rfl (da 11) ?_;refine az 3 rfl (dD 1) ?_;refine az 4 rfl (da 6) ?_;refine az 5 rfl (dD 1) ?_;refine az 6 rfl (da 10) ?_;refine dm.later rfl ?_;refine AD.one (i:=7) aA ?_;refine dR 0 [_,_,_,_,_,_,_,_,_,_,_,_] sizeOf9 ?_;refine cu 8 rfl (da 11) ?_;refine AD.one (i:=9) aA ?_;refine dR 0 [_,_,_,_,_,_,_,_,_,_,_,_] sizeOf30 ?_;refine eD ?_;refine aE 1 ?_;refine aK 0 [_,_,_,_,_,_,_,_,_,_,_,_] sizeOf30 ?_;refine an 102 [1,3] ?_;refine cW [1,3,5] (s8 hm hw s.set hf.e) ?_;refine af [1,3,5,76] ?_;refine au ?_ ?_<;>intro gL kG
   ·have Z:cQ s.set=0:=(by simpa using gL)
    refine iB [1,3,5] ?_;refine cZ (IS hm hw s.bS (fun o h=>(hf.x o h).1)) ?_;refine bH ?_;refine af [1,3,5,81] ?_;refine au ?_ ?_<;>intro gg k8
    ·have MH:iM s.bS=0:=(by simpa using gg)
     refine iB [1,3,5] ?_;refine cZ (DW hm hw s.aj (fun o h=>(hf.w o h).1)) ?_;refine bH ?_;refine⟨_,aM,{gj with kind:=s.kind,table:=tb,set:=s.set,bS:=s.bS,aj:=s.aj},nv s.aj,LG,(by unfold jM;rw[if_neg cU,if_neg ec,if_neg fp,if_pos gv,if_pos Z,if_pos MH]),rfl⟩
    have MH:¬iM s.bS=0:=(by simpa using gg)
    refine CD.skip ?_;refine⟨_,aM,{gj with kind:=s.kind,table:=tb,set:=s.set,bS:=s.bS,aj:=s.aj},iM s.bS,LG,(by unfold jM;rw[if_neg cU,if_neg ec,if_neg fp,if_pos gv,if_pos Z,if_neg MH]),rfl⟩
   have Z:¬cQ s.set=0:=(by simpa using gL)
   refine af [1,3,5,81] ?_;refine au ?_ ?_<;>intro gg k8
   ·exact absurd gg (by simp[Z])
   refine CD.skip ?_;refine⟨_,aM,{gj with kind:=s.kind,table:=tb,set:=s.set,bS:=s.bS,aj:=s.aj},cQ s.set,LG,(by unfold jM;rw[if_neg cU,if_neg ec,if_neg fp,if_pos gv,if_neg Z]),rfl⟩
  refine af [1,3,5,85] ?_;refine au ?_ ?_<;>intro pF E
  ·refine aC 3 ?_;refine aK 0 [_,_,_,_,_,_,_,_,_,_,_,_] sizeOf30 ?_;refine an 102 [1,3] ?_;refine iB [1,3,5] ?_;refine cZ (DW hm hw s.aj (fun o h=>(hf.w o h).1)) ?_;refine bH ?_;refine⟨_,aM,{gj with kind:=s.kind,table:=tb,aj:=s.aj},nv s.aj,(by unfold iN;rw[if_neg cU,if_neg ec,if_neg fp,if_neg gv,if_pos E,vk]),(by unfold jM;rw[if_neg cU,if_neg ec,if_neg fp,if_neg gv,if_pos E]),rfl⟩
  refine CD.skip ?_;refine⟨_,aM,{gj with kind:=s.kind,table:=tb},0,(by unfold iN;rw[if_neg cU,if_neg ec,if_neg fp,if_neg gv,if_neg E,vk]),(by unfold jM;rw[if_neg cU,if_neg ec,if_neg fp,if_neg gv,if_neg E]),rfl⟩
 rintro _ ⟨H,e,hH,CV,rfl⟩;refine CD.seq ?_;refine CD.seq ?_;have TG:=acT (G:=G) s H;unfold bY at TG;refine dQ 3 ?_;refine bW 95 (fun UE af3=>?_) (fun UE af3=>?_)
 ·refine aE 2 ?_;refine OD.gY ic rfl rfl rfl call72 (TG) ⟨ot,ot,trivial⟩ ?_;refine an 102 [5,100] ?_;refine au ?_ ?_<;>intro CW KO
  ·have aV:gP s=6:=(by unfold gP;rw[if_neg jW,if_pos ⟨by rw[←CV];simpa using UE,by rw[←hH];simpa using CW⟩])
   refine cl [5] ?_;exact z93
  have aV:gP s=e:=(by unfold gP;rw[if_neg jW,if_neg (by rw[←CV,←hH];exact(fun h=>by obtain⟨h1,h2⟩:=h;simp_all)),CV])
  exact z93
 refine bg [5,100] ?_;refine fM ?_;have aV:gP s=e:=(by unfold gP;rw[if_neg jW,if_neg (by rw[←CV,←hH];exact(fun h=>by obtain⟨h1,h2⟩:=h;simp_all)),CV])
 refine af [2] ?_;refine eK ?_;exact⟨by first|rw[aV]|rw[aV];rfl,rfl⟩

theorem Ox:∀(l:List aU) (H:List (List Tk)),(l.foldl nU H).flatten.length≤H.flatten.length+5*l.length
 | [],H=>by simp
 | o::r,H=>by
  have h1:=Ox r (nU H o);have h2:=Ov (h:=H) (o:=o);rw[foldl_cons,length_cons];omega
theorem D6(l:List aU):(qP l).length≤5*l.length:=by
 have h:=Ox l [];have h2:=(ur (h:=l.foldl nU []) (n:=0)).1;have h3:=Ax (l.foldl nU []) 0;simp only[List.take_zero,flatten_nil,length_nil] at h h3;unfold qP;omega
theorem Oy(l:List aU):(kg l).length≤5*l.length+1:=by
 have h:=D6 l;unfold kg;split
 ·simp
 rw[length_append,length_map];simp only[length_cons,length_nil];omega
def jJ(ns:List ByteArray):Nat→List Tk
 | 0=>[]
 | i+1=>jJ ns i++(if i>0 then [dU ⟨#[44]⟩] else [])++[bE (ns.getD i ⟨#[]⟩)]
theorem HY(E:List ByteArray):∀i,(jJ E i).length≤2*i
 | 0=>Nat.le_refl _
 | i+1=>by
  have I:=HY E i;have h3:(if i>0 then [dU ⟨#[44]⟩] else []).length≤1:=(by split<;>simp)
  unfold jJ;rw[length_append,length_append];simp only[length_cons,length_nil];omega
theorem Hw(hi:i<E.length)(h:0<i)(X:List Tk):((X++jJ E i)++[dU ⟨#[44]⟩])++[bE E[i]]=X++jJ E (i+1):=by
 rw[jJ,if_pos h,mr hi];simp only[append_assoc]
theorem Hl(hi:i<E.length)(h:¬0<i)(X:List Tk):(X++jJ E i)++[bE E[i]]=X++jJ E (i+1):=by
 rw[jJ,if_neg h,mr hi];simp only[append_assoc,append_nil]
def y5(s:cx):List Tk:=if s.count=true then [bE ⟨#[67,79,85,78,84]⟩,dU ⟨#[40]⟩,dU ⟨#[42]⟩,dU ⟨#[41]⟩] else if s.names.length=0 then [dU ⟨#[42]⟩] else jJ s.names s.names.length
def BW(s:cx):List Tk:=if jd s.order ⟨#[]⟩=true then [] else [⟨#[79,82,68,69,82]⟩,⟨#[66,89]⟩,s.order].map bE++(if s.down=true then [bE ⟨#[68,69,83,67]⟩] else [])
def KP(s:cx):List Tk:=if 0≤s.gH then [bE ⟨#[76,73,77,73,84]⟩,⟨2,⟨#[]⟩,s.gH⟩] else []
def Bs(s:cx):List Tk:=((([⟨#[83,69,76,69,67,84]⟩].map bE++y5 s)++[⟨#[70,82,79,77]⟩,s.table].map bE++kg s.aj)++BW s)++KP s
theorem rL:(Tryz.prog.info? 137).map (fun i=>(i.zero,i.size,i.bytes))=some (some (.agg #[.int .i64 0,.string ⟨#[]⟩,.int .i64 0]),3,32):=by kernel_rfl
theorem XJ : ∀ w, ((#[{ name := "Kind", type := 3, offset := 0, embedded := false, tag := "", pkgPath := "", byteOffset := 0 }, { name := "Text", type := 9, offset := 1, embedded := false, tag := "", pkgPath := "", byteOffset := 8 }, { name := "Int", type := 3, offset := 2, embedded := false, tag := "", pkgPath := "", byteOffset := 24 }] : Array Field).mapM fun f => do pure (f.offset, ← sizeOf f.type) : Sem (Array (Nat × Nat))).run Tryz.prog w = .ok #[(0, 1), (1, 1), (2, 1)] w := fun w => by simp [sizeOf3, sizeOf9]
theorem Yg(s:cx)(hf:lH s)(MI:s.aj.length=0∨fG 0 s.aj=0):VP Tryz.prog G 76 [.agg (bY s)] (.list 3 ((Bs s).flatMap cT) (Bs s).length):=by
 refine VC.body func76 rfl ntmps76 aO fun X0 w0 aY=>?_;have dy:=dY;have h6:=hf.ok.2.2.1;have pL:=hf.ok.2.2.2.1;have GJ:=Oy s.aj;have MJ:=D6 s.aj;unfold bY;refine cf ?_;refine OD.box (ds:=[_,_,_,_,_,_,_,_,_,_,_,_]) ap rfl rfl ot rfl rfl (fun b1=>?_);refine an 84 [1] ?_;refine cf ?_;refine en (bZ 0 [_]) [.string ⟨#[]⟩] [_] zeroValue9 runUnderlying29 sizeOf9 (fun b6=>?_);refine OD.perm (ee (S1:=[⟨b6,9,1*1,flatMap cS ([⟨#[83,69,76,69,67,84]⟩])⟩]) (A:=[_])) ?_;refine OD.iq (t:=6) (Sq:=[⟨b6,9,1*1,flatMap cS ([⟨#[83,69,76,69,67,84]⟩])⟩]) lk (bJ (g:=cS) (sz:=1) (e:=9) (ls:=[⟨#[83,69,76,69,67,84]⟩]) (Nat.le_refl _) (show 1≤maxLen by decide)) (cy jh _) (dI (A:=[_])) ?_;refine OD.call ap rfl rfl rfl call73 (yI [⟨#[83,69,76,69,67,84]⟩] zR) ⟨ot,trivial⟩ (eO _) ?_;rintro _ S7 ⟨WK,WL,rfl,pG⟩;refine OD.perm (ee (A:=[_])) ?_;refine an 84 [1,3] ?_;refine jQ [1] (fun aW _ aJ=>∃(Q:List Tk),∃(ad:Option Addr),∃(cp:Nat),∃(Sx:List ah),(Q=[⟨#[83,69,76,69,67,84]⟩].map bE++y5 s)∧(bw 137 3 (Q.flatMap cT) Q.length ad cp Sx)∧(Q.length≤20)∧aJ=(⟨84,(3,aN ad Q.length cp)::aW,(⟨b1,32,12,[ae s.kind,bf s.table,ax 2 cC s.ay,ax 3 cV s.row,ax 1 cS s.names,bX s.count,ax 5 cO s.aj,bf s.order,bX s.down,ae s.gH,bf s.set,ax 5 cO s.bS]⟩::Sx)⟩:St)) ?_ ?_
 ·refine af [1,3,28] ?_;refine au ?_ ?_<;>intro aP bF
  ·refine dQ 1 ?_;refine dO call117 (qH ⟨#[67,79,85,78,84]⟩) ?_;refine dO call78 (mP ⟨#[40]⟩) ?_;refine dO call78 (mP ⟨#[42]⟩) ?_;refine dO call78 (mP ⟨#[41]⟩) ?_;refine en (bZ 0 [_,_,_,_]) [.int .i64 0,.string ⟨#[]⟩,.int .i64 0,.int .i64 0,.string ⟨#[]⟩,.int .i64 0,.int .i64 0,.string ⟨#[]⟩,.int .i64 0,.int .i64 0,.string ⟨#[]⟩,.int .i64 0] [_,_,_,_,_,_,_,_,_,_,_,_] zeroValue137 runUnderlying98 sizeOf137 (fun GK=>?_);refine fB 0 36 3 4 ?_;refine OD.ev (ls:=([⟨#[83,69,76,69,67,84]⟩].map bE)) (new:=[bE ⟨#[67,79,85,78,84]⟩,dU ⟨#[40]⟩,dU ⟨#[42]⟩,dU ⟨#[41]⟩]) (Sq:=S7) iF lD ap rfl rfl underlying98 rL rfl w7 ot pG (dI (A:=[_])) ot bu pB w8 (fun MK U ahX ahY=>?_);refine OD.perm (ee (S1:=[⟨MK,137,U*3,flatMap cT (([⟨#[83,69,76,69,67,84]⟩].map bE)++[bE ⟨#[67,79,85,78,84]⟩,dU ⟨#[40]⟩,dU ⟨#[42]⟩,dU ⟨#[41]⟩])⟩]) (A:=[_])) ?_;refine an 84 [1,3] ?_;refine⟨_,aM,(([⟨#[83,69,76,69,67,84]⟩].map bE)++[bE ⟨#[67,79,85,78,84]⟩,dU ⟨#[40]⟩,dU ⟨#[42]⟩,dU ⟨#[41]⟩]),(some ⟨MK,0,none⟩),U,[⟨MK,137,U*3,flatMap cT (([⟨#[83,69,76,69,67,84]⟩].map bE)++[bE ⟨#[67,79,85,78,84]⟩,dU ⟨#[40]⟩,dU ⟨#[42]⟩,dU ⟨#[41]⟩])⟩],(by unfold y5;rw[if_pos bF]),(bJ ahX ahY),Ll,rfl⟩
  refine af [1,3,38] ?_;refine au ?_ ?_<;>intro aX cJ
  ·refine dQ 1 ?_;refine dO call78 (mP ⟨#[42]⟩) ?_;refine en (bZ 0 [_]) [.int .i64 0,.string ⟨#[]⟩,.int .i64 0] [_,_,_] zeroValue137 runUnderlying98 sizeOf137 (fun b45=>?_);refine fB 0 45 3 1 ?_;refine OD.ev (ls:=([⟨#[83,69,76,69,67,84]⟩].map bE)) (new:=[dU ⟨#[42]⟩]) (Sq:=S7) iF lD ap rfl rfl underlying98 rL rfl w7 ot pG (dI (A:=[_])) ot bu pB w8 (fun Ad Z ahZ ah0=>?_);refine OD.perm (ee (S1:=[⟨Ad,137,Z*3,flatMap cT (([⟨#[83,69,76,69,67,84]⟩].map bE)++[dU ⟨#[42]⟩])⟩]) (A:=[_])) ?_;refine an 84 [1,3] ?_;refine⟨_,aM,(([⟨#[83,69,76,69,67,84]⟩].map bE)++[dU ⟨#[42]⟩]),(some ⟨Ad,0,none⟩),Z,[⟨Ad,137,Z*3,flatMap cT (([⟨#[83,69,76,69,67,84]⟩].map bE)++[dU ⟨#[42]⟩])⟩],(by unfold y5;rw[if_neg xp,if_pos w4]),(bJ ahZ ah0),Ll,rfl⟩
  refine af [1,3,9,10,11] ?_;refine CD.block ?_;refine mM (fun (l8:Nat×Option Addr×Nat×List ah) aJ=>match l8 with|(i,CX,CY,So)=>(i≤s.names.length)∧(bw 137 3 ((([⟨#[83,69,76,69,67,84]⟩].map bE++jJ s.names i)).flatMap cT) (([⟨#[83,69,76,69,67,84]⟩].map bE++jJ s.names i)).length CX CY So)∧aJ=(⟨84,[(1,dJ b1),(3,aN CX (([⟨#[83,69,76,69,67,84]⟩].map bE++jJ s.names i)).length CY),(9,ax 1 cS s.names),(10,ae (s.names.length:Nat)),(11,ae (i:Nat))],((⟨b1,32,12,[ae s.kind,bf s.table,ax 2 cC s.ay,ax 3 cV s.row,ax 1 cS s.names,bX s.count,ax 5 cO s.aj,bf s.order,bX s.down,ae s.gH,bf s.set,ax 5 cO s.bS]⟩:ah)::So)⟩:St)) (fun (l8:Nat×Option Addr×Nat×List ah)=>match l8 with|(i,CX,CY,So)=>s.names.length-i) (0,WK,WL,S7) ⟨(Nat.zero_le _),(bw.cast pG (by simp[jJ])),rfl⟩ (aM (h:=by repeat (first|exact trivial|refine⟨Lp,?_⟩))) ?_;rintro⟨i,CX,CY,So⟩ _ ⟨hi,CZ,rfl⟩;refine af [1,3,9,10,11,12] ?_;refine au ?_ ?_<;>intro cr cU
  ·have aa:i<s.names.length:=(by simp at cr;omega)
   have fJ:=HY s.names i;refine af [1,3,4,5,9,10,11] ?_;refine af [1,3,5,9,10,11,17] ?_;refine au ?_ ?_<;>intro cX ec
   ·refine dQ 1 ?_;refine dO call78 (mP ⟨#[44]⟩) ?_;refine en (bZ 0 [_]) [.int .i64 0,.string ⟨#[]⟩,.int .i64 0] [_,_,_] zeroValue137 runUnderlying98 sizeOf137 (fun ME=>?_);refine fB 0 20 3 1 ?_;refine OD.ev (ls:=(([⟨#[83,69,76,69,67,84]⟩].map bE++jJ s.names i))) (new:=[dU ⟨#[44]⟩]) (Sq:=So) iF lD ap rfl rfl underlying98 rL rfl w7 ot CZ (dI (A:=[_])) ot bu pB w8 (fun CQ UF ah1 ah2=>?_);refine OD.perm (ee (S1:=[⟨CQ,137,UF*3,flatMap cT ((([⟨#[83,69,76,69,67,84]⟩].map bE++jJ s.names i))++[dU ⟨#[44]⟩])⟩]) (A:=[_])) ?_;refine an 84 [1,3,5,9,10,11] ?_;refine dQ 2 ?_;refine dO call117 (qH s.names[i]) ?_;refine en (bZ 0 [_]) [.int .i64 0,.string ⟨#[]⟩,.int .i64 0] [_,_,_] zeroValue137 runUnderlying98 sizeOf137 (fun xO=>?_);refine fB 0 25 3 1 ?_;refine OD.ev (ls:=((([⟨#[83,69,76,69,67,84]⟩].map bE++jJ s.names i))++[dU ⟨#[44]⟩])) (new:=[bE s.names[i]]) (Sq:=[⟨CQ,137,UF*3,flatMap cT ((([⟨#[83,69,76,69,67,84]⟩].map bE++jJ s.names i))++[dU ⟨#[44]⟩])⟩]) iF lD ap rfl rfl underlying98 rL rfl w7 ot (bJ ah1 ah2) (dI (A:=[_])) ot bu pB w8 (fun I E KQ KR=>?_);refine OD.perm (ee (S1:=[⟨I,137,E*3,flatMap cT (((([⟨#[83,69,76,69,67,84]⟩].map bE++jJ s.names i))++[dU ⟨#[44]⟩])++[bE s.names[i]])⟩]) (A:=[_])) ?_;refine an 84 [1,3,9,10,11] ?_;refine cl [1,3,9,10,11] ?_
    refine⟨((i+1),(some ⟨I,0,none⟩),E,[⟨I,137,E*3,flatMap cT (((([⟨#[83,69,76,69,67,84]⟩].map bE++jJ s.names i))++[dU ⟨#[44]⟩])++[bE s.names[i]])⟩]),_,cD,(aM (h:=by repeat (first|exact trivial|refine⟨Lp,?_⟩))),w4,(bw.cast (bJ KQ KR) (by first|exact Hw aa w4 _|exact Hl aa w4 _)),rfl⟩
   refine dQ 2 ?_;refine dO call117 (qH s.names[i]) ?_;refine en (bZ 0 [_]) [.int .i64 0,.string ⟨#[]⟩,.int .i64 0] [_,_,_] zeroValue137 runUnderlying98 sizeOf137 (fun xO=>?_);refine fB 0 25 3 1 ?_;refine OD.ev (ls:=(([⟨#[83,69,76,69,67,84]⟩].map bE++jJ s.names i))) (new:=[bE s.names[i]]) (Sq:=So) iF lD ap rfl rfl underlying98 rL rfl w7 ot CZ (dI (A:=[_])) ot bu pB w8 (fun I E KQ KR=>?_);refine OD.perm (ee (S1:=[⟨I,137,E*3,flatMap cT ((([⟨#[83,69,76,69,67,84]⟩].map bE++jJ s.names i))++[bE s.names[i]])⟩]) (A:=[_])) ?_;refine an 84 [1,3,9,10,11] ?_;refine cl [1,3,9,10,11] ?_;refine⟨((i+1),(some ⟨I,0,none⟩),E,[⟨I,137,E*3,flatMap cT ((([⟨#[83,69,76,69,67,84]⟩].map bE++jJ s.names i))++[bE s.names[i]])⟩]),_,cD,(aM (h:=by repeat (first|exact trivial|refine⟨Lp,?_⟩))),w4,(bw.cast (bJ KQ KR) (by first|exact Hw aa w4 _|exact Hl aa w4 _)),rfl⟩
  have tM:i=s.names.length:=(by simp at cr;omega)
  refine CD.exit ?_;refine⟨_,aM,(([⟨#[83,69,76,69,67,84]⟩].map bE++jJ s.names i)),CX,CY,So,(by unfold y5;rw[if_neg xp,if_neg w4,tM]),CZ,Ll,rfl⟩
 rintro _ ⟨Q,ad,cp,Sx,hQ,er,hQl,rfl⟩;refine aC 3 ?_;refine en (bZ 0 [_,_]) [.string ⟨#[]⟩,.string ⟨#[]⟩] [_,_] zeroValue9 runUnderlying29 sizeOf9 (fun Ao=>?_);refine OD.perm (yh (S2:=[⟨Ao,9,2*1,flatMap cS ([⟨#[70,82,79,77]⟩,s.table])⟩]) (A:=[_])) ?_;refine OD.iq (t:=50) (Sq:=[⟨Ao,9,2*1,flatMap cS ([⟨#[70,82,79,77]⟩,s.table])⟩]) lk (bJ (g:=cS) (sz:=1) (e:=9) (ls:=[⟨#[70,82,79,77]⟩,s.table]) (Nat.le_refl _) (show 2≤maxLen by decide)) (cy jh _) (yg (A:=[_])) ?_;refine dO call73 (rQ [⟨#[70,82,79,77]⟩,s.table] (by show 2≤10;decide)) ?_;refine OD.ev (ls:=Q) (new:=([⟨#[70,82,79,77]⟩,s.table].map bE)) (Sq:=Sx) iF lD ap rfl rfl underlying98 rL rfl w7 ot er (dI (A:=[_])) ot bu pB w8 (fun WM UG ah3 ah4=>?_);refine OD.perm (ee (S1:=[⟨WM,137,UG*3,flatMap cT (Q++([⟨#[70,82,79,77]⟩,s.table].map bE))⟩]) (A:=[_])) ?_;refine an 84 [1,3] ?_;refine aC 3 ?_;refine dO call80 (G9 s.aj pL MI (fun o h=>(hf.w o h).2) w4) ?_;refine OD.oY (ls:=(Q++([⟨#[70,82,79,77]⟩,s.table].map bE))) (new:=(kg s.aj)) (Sq:=[⟨WM,137,UG*3,flatMap cT (Q++([⟨#[70,82,79,77]⟩,s.table].map bE))⟩]) iF lD ap rfl rfl underlying98 rL rfl w7 runUnderlying98 sizeOf137 ot (bJ ah3 ah4) (dI (A:=[_])) ot pB w8 (fun ah5 ah6 vy uZ=>?_);refine OD.perm (ee (A:=[_])) ?_;refine an 84 [1,3] ?_
 refine jQ [1] (fun aW _ aJ=>∃(Q:List Tk),∃(ad:Option Addr),∃(cp:Nat),∃(Sx:List ah),(Q=(([⟨#[83,69,76,69,67,84]⟩].map bE++y5 s)++[⟨#[70,82,79,77]⟩,s.table].map bE++kg s.aj)++BW s)∧(bw 137 3 (Q.flatMap cT) Q.length ad cp Sx)∧(Q.length≤500)∧aJ=(⟨84,(3,aN ad Q.length cp)::aW,(⟨b1,32,12,[ae s.kind,bf s.table,ax 2 cC s.ay,ax 3 cV s.row,ax 1 cS s.names,bX s.count,ax 5 cO s.aj,bf s.order,bX s.down,ae s.gH,bf s.set,ax 5 cO s.bS]⟩::Sx)⟩:St)) ?_ ?_
 ·refine af [1,3,60] ?_;refine au ?_ ?_<;>intro ew fp
  ·refine aC 3 ?_;refine en (bZ 0 [_,_,_]) [.string ⟨#[]⟩,.string ⟨#[]⟩,.string ⟨#[]⟩] [_,_,_] zeroValue9 runUnderlying29 sizeOf9 (fun C0=>?_);refine OD.perm (yh (S2:=[⟨C0,9,3*1,flatMap cS ([⟨#[79,82,68,69,82]⟩,⟨#[66,89]⟩,s.order])⟩]) (A:=[_])) ?_;refine OD.iq (t:=64) (Sq:=[⟨C0,9,3*1,flatMap cS ([⟨#[79,82,68,69,82]⟩,⟨#[66,89]⟩,s.order])⟩]) lk (bJ (g:=cS) (sz:=1) (e:=9) (ls:=[⟨#[79,82,68,69,82]⟩,⟨#[66,89]⟩,s.order]) (Nat.le_refl _) (show 3≤maxLen by decide)) (cy jh _) (yg (A:=[_])) ?_;refine dO call73 (rQ [⟨#[79,82,68,69,82]⟩,⟨#[66,89]⟩,s.order] (by show 3≤10;decide)) ?_;refine OD.ev (ls:=((Q++([⟨#[70,82,79,77]⟩,s.table].map bE))++(kg s.aj))) (new:=([⟨#[79,82,68,69,82]⟩,⟨#[66,89]⟩,s.order].map bE)) (Sq:=vy) iF lD ap rfl rfl underlying98 rL rfl w7 ot uZ (dI (A:=[_])) ot bu pB w8 (fun oU O zo zq=>?_);refine OD.perm (ee (S1:=[⟨oU,137,O*3,flatMap cT (((Q++([⟨#[70,82,79,77]⟩,s.table].map bE))++(kg s.aj))++([⟨#[79,82,68,69,82]⟩,⟨#[66,89]⟩,s.order].map bE))⟩]) (A:=[_])) ?_;refine an 84 [1,3] ?_;refine af [1,3,68] ?_;refine au ?_ ?_<;>intro fm gv
   ·refine dQ 1 ?_;refine dO call117 (qH ⟨#[68,69,83,67]⟩) ?_;refine en (bZ 0 [_]) [.int .i64 0,.string ⟨#[]⟩,.int .i64 0] [_,_,_] zeroValue137 runUnderlying98 sizeOf137 (fun b71=>?_);refine fB 0 71 3 1 ?_;refine OD.ev (ls:=(((Q++([⟨#[70,82,79,77]⟩,s.table].map bE))++(kg s.aj))++([⟨#[79,82,68,69,82]⟩,⟨#[66,89]⟩,s.order].map bE))) (new:=[bE ⟨#[68,69,83,67]⟩]) (Sq:=[⟨oU,137,O*3,flatMap cT (((Q++([⟨#[70,82,79,77]⟩,s.table].map bE))++(kg s.aj))++([⟨#[79,82,68,69,82]⟩,⟨#[66,89]⟩,s.order].map bE))⟩]) iF lD ap rfl rfl underlying98 rL rfl w7 ot (bJ zo zq) (dI (A:=[_])) ot bu pB w8 (fun ML KS ah7 ah8=>?_);refine OD.perm (ee (S1:=[⟨ML,137,KS*3,flatMap cT ((((Q++([⟨#[70,82,79,77]⟩,s.table].map bE))++(kg s.aj))++([⟨#[79,82,68,69,82]⟩,⟨#[66,89]⟩,s.order].map bE))++[bE ⟨#[68,69,83,67]⟩])⟩]) (A:=[_])) ?_;refine an 84 [1,3] ?_;refine⟨_,aM,((((Q++([⟨#[70,82,79,77]⟩,s.table].map bE))++(kg s.aj))++([⟨#[79,82,68,69,82]⟩,⟨#[66,89]⟩,s.order].map bE))++[bE ⟨#[68,69,83,67]⟩]),(some ⟨ML,0,none⟩),KS,[⟨ML,137,KS*3,flatMap cT ((((Q++([⟨#[70,82,79,77]⟩,s.table].map bE))++(kg s.aj))++([⟨#[79,82,68,69,82]⟩,⟨#[66,89]⟩,s.order].map bE))++[bE ⟨#[68,69,83,67]⟩])⟩],(by rw[hQ];unfold BW;rw[if_neg (by unfold jd;simpa using ew),if_pos gv];simp only[append_assoc]),(bJ ah7 ah8),w8,rfl⟩
   refine CD.skip ?_;refine⟨_,aM,(((Q++([⟨#[70,82,79,77]⟩,s.table].map bE))++(kg s.aj))++([⟨#[79,82,68,69,82]⟩,⟨#[66,89]⟩,s.order].map bE)),(some ⟨oU,0,none⟩),O,[⟨oU,137,O*3,flatMap cT (((Q++([⟨#[70,82,79,77]⟩,s.table].map bE))++(kg s.aj))++([⟨#[79,82,68,69,82]⟩,⟨#[66,89]⟩,s.order].map bE))⟩],(by rw[hQ];unfold BW;rw[if_neg (by unfold jd;simpa using ew),if_neg (by simpa using fm)];simp only[append_assoc,append_nil]),(bJ zo zq),w8,rfl⟩
  refine CD.skip ?_;refine⟨_,aM,((Q++([⟨#[70,82,79,77]⟩,s.table].map bE))++(kg s.aj)),ah5,ah6,vy,(by rw[hQ];unfold BW;rw[if_pos (by unfold jd;simpa using ew)];simp),uZ,w8,rfl⟩
 rintro _ ⟨Q,ad,cp,Sx,hQ,er,hQl,rfl⟩;refine af [1,3,75] ?_;refine au ?_ ?_<;>intro gL kG
 ·refine fL 7 (aq (take 1 _)) ?_ (fun _ h=>(Sublist.map _ (take_sublist _ _)).subset h);refine az 0 rfl bj ?_;refine az 2 rfl (da 9) ?_;refine az 3 rfl (dD 0) ?_;refine az 4 rfl (nr (pl:=[(0,_),(2,_)]) (ds:=[_,_,_]) rfl zeroValue137 runUnderlying137 XJ ⟨rfl,bI,rfl,ot,trivial⟩ rfl rfl) ?_;refine dm.later rfl ?_;refine AD.one (i:=1) aA ?_;refine jB call117 (qH ⟨#[76,73,77,73,84]⟩) ?_;refine AD.one (i:=5) aA ?_;refine jo (bZ 0 [_,_]) [.int .i64 0,.string ⟨#[]⟩,.int .i64 0,.int .i64 0,.string ⟨#[]⟩,.int .i64 0] [_,_,_,_,_,_] zeroValue137 runUnderlying98 sizeOf137 (fun b81=>?_);refine jq 0 81 3 2 ?_;refine AD.one (i:=6) aA ?_;refine aZ.ev (ls:=Q) (new:=[bE ⟨#[76,73,77,73,84]⟩,(⟨2,⟨#[]⟩,s.gH⟩:Tk)]) (Sq:=Sx) iF lD rfl ap rfl rfl underlying98 rL rfl w7 ot er (dI (A:=[_])) ot bu pB w8 (fun WN UH ah9 aia=>?_);refine AD.perm (ee (S1:=[⟨WN,137,UH*3,flatMap cT (Q++[bE ⟨#[76,73,77,73,84]⟩,(⟨2,⟨#[]⟩,s.gH⟩:Tk)])⟩]) (A:=[_])) ?_;refine eD ?_;refine bg [3] ?_;refine af [2] ?_;refine CD.iq (t:=2) (Sq:=[⟨WN,137,UH*3,flatMap cT (Q++[bE ⟨#[76,73,77,73,84]⟩,(⟨2,⟨#[]⟩,s.gH⟩:Tk)])⟩]) lk (bJ ah9 aia) (cy iF _) (dI (A:=[_])) ?_;refine eK ?_;refine⟨?_,rfl⟩;rw[hQ];unfold Bs KP;rw[if_pos w4]
 refine af [2] ?_;refine CD.iq (t:=2) (Sq:=Sx) lk er (cy iF _) (dI (A:=[_])) ?_;refine aI [] ?_;refine⟨?_,rfl⟩;rw[hQ];unfold Bs KP;rw[if_neg w4];simp only[append_nil]

def J1(k:Int):ByteArray:=aeG.getD k.toNat ⟨#[]⟩
theorem aa9{k:Int}(h1:1≤k)(h2:k≤3):typesC[0+k.toNat*1]?=some (.string (J1 k)):=by
 have h:k=1∨k=2∨k=3:=(by omega)
 rcases h with rfl|rfl|rfl<;>rfl
def iZ(c:cz):List Tk:=[c.n,J1 c.k].map bE
def FX:List ByteArray:=[⟨#[66,69,71,73,78]⟩,⟨#[67,79,77,77,73,84]⟩,⟨#[82,79,76,76,66,65,67,75]⟩]
def qe(s:cx):List Tk :=
 if s.kind=1 then [⟨#[67,82,69,65,84,69]⟩,⟨#[84,65,66,76,69]⟩,s.table].map bE++l5 (s.ay.map iZ)
 else if s.kind=2 then [⟨#[68,82,79,80]⟩,⟨#[84,65,66,76,69]⟩,s.table].map bE
 else if s.kind=3 then [⟨#[73,78,83,69,82,84]⟩,⟨#[73,78,84,79]⟩,s.table,⟨#[86,65,76,85,69,83]⟩].map bE++l5 (s.row.map jj)
 else if s.kind=4 then Bs s
 else if s.kind=5 then [[⟨#[85,80,68,65,84,69]⟩,s.table,⟨#[83,69,84]⟩,s.set].map bE,[dU ⟨#[61]⟩],qP s.bS,kg s.aj].flatten
 else if s.kind=6 then [⟨#[68,69,76,69,84,69]⟩,⟨#[70,82,79,77]⟩,s.table].map bE++kg s.aj
 else [FX.getD (s.kind-7).toNat ⟨#[]⟩].map bE
structure WO (s:cx):Prop where
 fin:lH s
 k1:1≤s.kind
 k9:s.kind≤9
 c:s.kind=1→∀c∈s.ay,1≤c.k∧c.k≤3
 r:s.kind=3→∀v∈s.row,mN v
 w:s.kind=4∨s.kind=5∨s.kind=6→s.aj.length=0∨fG 0 s.aj=0
 t:s.kind=5→fG 0 s.bS=0
theorem PU(ts:List (List Tk)):0<(l5 ts).length:=by unfold l5;rw[length_append];simp
theorem PV{ts:List (List Tk)}(h:∀x∈ts,x.length≤10):(l5 ts).length≤2+11*ts.length:=by
 have h1:=Ez h ts.length;unfold l5;rw[length_append];simp only[length_cons,length_nil];omega
theorem IW(l:List cz):∀x∈l.map iZ,x.length≤10:=fun x hx=>by obtain⟨c,_,rfl⟩:=mem_map.1 hx;show 2≤10;decide
theorem PW(l:List Vl):∀x∈l.map jj,x.length≤10:=fun x hx=>by obtain⟨v,_,rfl⟩:=mem_map.1 hx;have:=Ou v;omega
theorem NZ:(Tryz.prog.info? 98).map (fun i=>(i.zero,i.size,i.bytes))=some (some (.slice none 0 0),1,24):=by kernel_rfl
theorem Hh:(Tryz.prog.info? 137).map (fun i=>(i.zero,i.size,i.bytes))=some (some (.agg #[.int .i64 0,.string ⟨#[]⟩,.int .i64 0]),3,32):=by kernel_rfl
theorem acU(hty:(0,typesC)∈G)(s:cx)(hs:WO s):VP Tryz.prog G 39 [.agg (bY s)] (.list 3 ((qe s).flatMap cT) (qe s).length):=by
 refine VC.body func39 rfl ntmps39 aO fun X0 w0 aY=>?_;have dy:=dY;have hf:=hs.fin;have h6:=hf.ok.1;have h6r:=hf.ok.2.1;have pL:=hf.ok.2.2.2.1;have aib:=hf.ok.2.2.2.2;have GJ:=Oy s.aj;have MJ:=D6 s.aj;have FY:=D6 s.bS;have lp:=PV (IW s.ay);have ru:=PV (PW s.row);have I:=Yg (G:=G) s hf;rw[length_map] at lp ru;unfold bY at I;unfold bY;refine cf ?_;refine OD.box (ds:=[_,_,_,_,_,_,_,_,_,_,_,_]) ap rfl rfl ot rfl rfl (fun b1=>?_);refine an 107 [1] ?_;refine cR [1,10] ?_;refine aR 1 ?_ (h:=by exact eS);refine jX ?_;refine af [1,10,11] ?_;refine au ?_ ?_<;>intro aP bF
 ·refine cf ?_;refine bg [1,3] ?_;refine cR [1,3,14,15,16] ?_;refine aR 1 ?_ (h:=by exact eS);refine bH ?_;refine CD.block ?_;refine mM (fun (E:Nat×Option Addr×Nat×List ah) aJ=>match E with|(i,dW,dK,Sx)=>(i≤s.ay.length)∧(bw 98 1 (((s.ay.take i).map iZ).flatMap cK) ((s.ay.take i).map iZ).length dW dK Sx)∧aJ=(⟨107,[(1,dJ b1),(3,aN dW ((s.ay.take i).map iZ).length dK),(14,ax 2 cC s.ay),(15,ae (s.ay.length:Nat)),(16,ae (i:Nat))],((⟨b1,32,12,[ae s.kind,bf s.table,ax 2 cC s.ay,ax 3 cV s.row,ax 1 cS s.names,bX s.count,ax 5 cO s.aj,bf s.order,bX s.down,ae s.gH,bf s.set,ax 5 cO s.bS]⟩:ah)::Sx)⟩:St)) (fun (E:Nat×Option Addr×Nat×List ah)=>match E with|(i,dW,dK,Sx)=>s.ay.length-i) (0,none,0,[]) ⟨(Nat.zero_le _),(bw.cast iK lK),rfl⟩ (aM (h:=by repeat (first|exact trivial|refine⟨(by (repeat (first|exact fx|(apply fQ;focus (first|rfl|(simp;done)|(congr 2;omega)|(apply eG;exact sY iZ aa)|(apply eG;simp;done)))|(apply fD;focus rfl)));done),?_⟩))) ?_;rintro⟨i,dW,dK,Sx⟩ _ ⟨hi,er,rfl⟩;refine af [1,3,14,15,16,17] ?_;refine au ?_ ?_<;>intro aX cJ
  ·have aa:i<s.ay.length:=(by simp at aX;omega)
   have WQ:=hs.c bF _ (getElem_mem aa);refine aC 1 ?_;refine bQ (cM (mk:=Op.load 69) rfl ot (by first|exact pY (k:=0) (ds:=[_,_]) rfl rfl isAgg69 sizeOf69 rfl rfl|exact jU lB isAgg69 sizeOf69 w5|exact jU fj isAgg69 sizeOf69 w5|exact jU jh isAgg69 sizeOf69 w5|exact dN (k:=0) lB rfl rfl rfl isAgg69 sizeOf69 w5|exact dN (k:=0) fj rfl rfl rfl isAgg69 sizeOf69 w5|exact dN (k:=0) jh rfl rfl rfl isAgg69 sizeOf69 w5|exact qb (ds:=[_,_]) isAgg69 sizeOf69 rfl rfl)) ?_;refine OD.alloc (ds:=[_,_]) ap rfl rfl zeroValue69 rfl (fun b5=>?_);refine aK 0 [_,_] sizeOf69 ?_;refine an 107 [1,3,5,14,15,16] ?_;refine fL 11 (aq (take 2 _)) ?_ (fun _ h=>(Sublist.map _ (take_sublist _ _)).subset h);refine az 0 rfl bj ?_;refine az 1 rfl (da 0) ?_;refine az 2 rfl eS ?_;refine az 3 rfl (da 1) ?_;refine az 4 rfl eS ?_;refine az 5 rfl (pW (mk:=Op.indexAddr 132) rfl vO ot (by first|exact SO runUnderlying132 sizeOf9 rfl w5|exact SO (j:=Int.toNat _) runUnderlying132 sizeOf9 (Int.toNat_of_nonneg w4).symm w4)) ?_
   refine az 6 rfl (cM (mk:=Op.load 9) rfl ot (by first|exact rP (k:=0) rfl rfl isAgg9 rfl|exact rP (k:=1) rfl rfl isAgg9 rfl|exact uL lB isAgg9 w5 rfl|exact pZ lB isAgg9 w5 rfl|exact uL fj isAgg9 w5 rfl|exact pZ fj isAgg9 w5 rfl|exact uL jh isAgg9 w5 rfl|exact pZ jh isAgg9 w5 rfl|exact kX (k:=0) lB rfl rfl rfl isAgg9 w5 rfl|exact iU (k:=0) lB rfl rfl rfl isAgg9 w5 rfl|exact kX (k:=1) lB rfl rfl rfl isAgg9 w5 rfl|exact iU (k:=1) lB rfl rfl rfl isAgg9 w5 rfl|exact kX (k:=0) fj rfl rfl rfl isAgg9 w5 rfl|exact iU (k:=0) fj rfl rfl rfl isAgg9 w5 rfl|exact kX (k:=1) fj rfl rfl rfl isAgg9 w5 rfl|exact iU (k:=1) fj rfl rfl rfl isAgg9 w5 rfl|exact kX (k:=0) jh rfl rfl rfl isAgg9 w5 rfl|exact iU (k:=0) jh rfl rfl rfl isAgg9 w5 rfl|exact kX (k:=1) jh rfl rfl rfl isAgg9 w5 rfl|exact iU (k:=1) jh rfl rfl rfl isAgg9 w5 rfl|exact BN isAgg9 rfl|exact aei hty isAgg9 (aa9 WQ.1 WQ.2))) ?_;refine dm.later rfl ?_;refine AD.one (i:=7) aA ?_;refine jo (bZ 0 [_,_]) [.string ⟨#[]⟩,.string ⟨#[]⟩] [_,_] zeroValue9 runUnderlying29 sizeOf9 (fun b27=>?_);refine jq 0 27 1 2 ?_;refine AD.one (i:=8) aA ?_;refine jB call73 (rQ [s.ay[i].n,J1 s.ay[i].k] (by show 2≤10;decide)) ?_;refine AD.one (i:=9) aA ?_;refine jo (bZ 0 [_]) [.slice none 0 0] [_] zeroValue98 runUnderlying130 sizeOf98 (fun ue=>?_)
   refine jq 0 29 1 1 ?_;refine AD.one (i:=10) aA ?_;refine aZ.D0 (Sq:=Sx) (R:=[_,_]) rfl ap rfl rfl underlying130 NZ rfl w7 ot er (perm_append_comm (l₁:=[_,_])) (cy ga _) ot (tq pn [iZ s.ay[i]]) w7 (by rw[length_map,length_take];simp only[maxLen];omega) (by rw[length_map,length_take];omega) iy (fun MM O KT KU=>?_);refine AD.perm (ee (S1:=[⟨MM,98,O*1,flatMap cK ((s.ay.take i).map iZ)++flatMap cK [iZ s.ay[i]]⟩]) (A:=[_,_])) ?_;rw[show flatMap cK ((s.ay.take i).map iZ)++flatMap cK [iZ s.ay[i]]=flatMap cK ((s.ay.take i).map iZ++[iZ s.ay[i]]) from List.flatMap_append.symm,show((s.ay.take i).map iZ).length+1=((s.ay.take i).map iZ++[iZ s.ay[i]]).length from by rw[length_append];rfl];refine eD ?_;refine bg [1,3,14,15,16] ?_;refine cl [1,3,14,15,16] ?_;refine⟨((i+1),(some ⟨MM,0,none⟩),O,[⟨MM,98,O*1,flatMap cK ((s.ay.take i).map iZ++[iZ s.ay[i]])⟩]),_,cD,(aM (h:=by repeat (first|exact trivial|refine⟨(by (repeat (first|exact fx|(apply fQ;focus (first|rfl|(simp;done)|(congr 2;omega)|(apply eG;exact sY iZ aa)|(apply eG;simp;done)))|(apply fD;focus rfl)));done),?_⟩))),w4,(bw.cast (bJ (by rw[length_append];exact KT) KU) (by exact sY iZ aa)),rfl⟩
  have fh:=IV iZ (show s.ay.length≤i by simp at aX;omega);have U:=Rt (G:=G) (s.ay.map iZ) FC (IW s.ay);rw[←fh] at U lp;refine aC 1 ?_;refine bQ eS ?_;refine en (bZ 0 [_,_,_]) [.string ⟨#[]⟩,.string ⟨#[]⟩,.string ⟨#[]⟩] [_,_,_] zeroValue9 runUnderlying29 sizeOf9 (fun WR=>?_);refine OD.perm (yh (S2:=[⟨WR,9,3*1,flatMap cS ([⟨#[67,82,69,65,84,69]⟩,⟨#[84,65,66,76,69]⟩,s.table])⟩]) (A:=[_])) ?_;refine OD.iq (t:=34) (Sq:=[⟨WR,9,3*1,flatMap cS ([⟨#[67,82,69,65,84,69]⟩,⟨#[84,65,66,76,69]⟩,s.table])⟩]) lk (bJ (g:=cS) (sz:=1) (e:=9) (ls:=[⟨#[67,82,69,65,84,69]⟩,⟨#[84,65,66,76,69]⟩,s.table]) (Nat.le_refl _) (show 3≤maxLen by decide)) (cy jh _) (yg (A:=[_])) ?_;refine OD.call ap rfl rfl rfl call73 (yI [⟨#[67,82,69,65,84,69]⟩,⟨#[84,65,66,76,69]⟩,s.table] (by show 3≤10;decide)) ⟨ot,trivial⟩ (eO _) ?_;rintro _ S35 ⟨aoq,aor,rfl,aic⟩;refine OD.perm (yh (A:=[_])) ?_;refine aE 1 ?_;refine OD.iq (t:=36) (Sq:=Sx) lk er (cy ga _) (ow (A:=[_])) ?_;refine dO call74 (U) ?_;refine OD.ev (ls:=([⟨#[67,82,69,65,84,69]⟩,⟨#[84,65,66,76,69]⟩,s.table].map bE)) (new:=(l5 ((s.ay.take i).map iZ))) (Sq:=S35) iF lD ap rfl rfl underlying98 Hh rfl w7 ot aic (dI (A:=[_])) ot (PU _) pB w8 (fun MB UI aid aie=>?_)
  refine OD.perm (ee (S1:=[⟨MB,137,UI*3,flatMap cT (([⟨#[67,82,69,65,84,69]⟩,⟨#[84,65,66,76,69]⟩,s.table].map bE)++(l5 ((s.ay.take i).map iZ)))⟩]) (A:=[_])) ?_;refine an 107 [2] ?_;refine CD.iq (t:=2) (Sq:=[⟨MB,137,UI*3,flatMap cT (([⟨#[67,82,69,65,84,69]⟩,⟨#[84,65,66,76,69]⟩,s.table].map bE)++(l5 ((s.ay.take i).map iZ)))⟩]) lk (bJ aid aie) (cy iF _) (dI (A:=[_])) ?_;refine aI [] ?_;refine⟨?_,rfl⟩;unfold qe;rw[if_pos bF,←fh]
 refine af [1,10,39] ?_;refine au ?_ ?_<;>intro cr cU
 ·refine cR [2] ?_;refine aR 1 ?_ (h:=by exact eS);refine cZ (rQ [⟨#[68,82,79,80]⟩,⟨#[84,65,66,76,69]⟩,s.table] (by show 3≤10;decide)) ?_;refine bH ?_;refine aI [] ?_;refine⟨?_,rfl⟩;unfold qe;rw[if_neg bF,if_pos cU]
 refine af [1,10,45] ?_;refine au ?_ ?_<;>intro cX ec
 ·refine cf ?_;refine bg [1,6] ?_;refine cR [1,6,48,49,50] ?_;refine aR 1 ?_ (h:=by exact eS);refine bH ?_;refine CD.block ?_;refine mM (fun (E:Nat×Option Addr×Nat×List ah) aJ=>match E with|(i,GL,GM,Sv)=>(i≤s.row.length)∧(bw 98 1 (((s.row.take i).map jj).flatMap cK) ((s.row.take i).map jj).length GL GM Sv)∧aJ=(⟨107,[(1,dJ b1),(6,aN GL ((s.row.take i).map jj).length GM),(48,ax 3 cV s.row),(49,ae (s.row.length:Nat)),(50,ae (i:Nat))],((⟨b1,32,12,[ae s.kind,bf s.table,ax 2 cC s.ay,ax 3 cV s.row,ax 1 cS s.names,bX s.count,ax 5 cO s.aj,bf s.order,bX s.down,ae s.gH,bf s.set,ax 5 cO s.bS]⟩:ah)::Sv)⟩:St)) (fun (E:Nat×Option Addr×Nat×List ah)=>match E with|(i,GL,GM,Sv)=>s.row.length-i) (0,none,0,[]) ⟨(Nat.zero_le _),(bw.cast iK lK),rfl⟩ (aM (h:=by repeat (first|exact trivial|refine⟨(by (repeat (first|exact fx|(apply fQ;focus (first|rfl|(simp;done)|(congr 2;omega)|(apply eG;exact sY jj aa)|(apply eG;simp;done)))|(apply fD;focus rfl)));done),?_⟩))) ?_;rintro⟨i,GL,GM,Sv⟩ _ ⟨hi,mJ,rfl⟩;refine af [1,6,48,49,50,51] ?_;refine au ?_ ?_<;>intro ew fp
  ·have aa:i<s.row.length:=(by simp at ew;omega)
   refine aC 1 ?_;refine bQ (cM (mk:=Op.load 41) rfl ot (by first|exact pY (k:=0) (ds:=[_,_,_]) rfl rfl isAgg41 sizeOf41 rfl rfl|exact jU lB isAgg41 sizeOf41 w5|exact jU fj isAgg41 sizeOf41 w5|exact jU jh isAgg41 sizeOf41 w5|exact dN (k:=0) lB rfl rfl rfl isAgg41 sizeOf41 w5|exact dN (k:=0) fj rfl rfl rfl isAgg41 sizeOf41 w5|exact dN (k:=0) jh rfl rfl rfl isAgg41 sizeOf41 w5|exact qb (ds:=[_,_,_]) isAgg41 sizeOf41 rfl rfl)) ?_;refine OD.alloc (ds:=[_,_,_]) ap rfl rfl zeroValue41 rfl (fun b8=>?_);refine aK 0 [_,_,_] sizeOf41 ?_;refine an 107 [1,6,8,48,49,50] ?_;refine dQ 1 ?_;refine bQ (cM (mk:=Op.load 41) rfl ot (by first|exact pY (k:=0) (ds:=[_,_,_]) rfl rfl isAgg41 sizeOf41 rfl rfl|exact jU lB isAgg41 sizeOf41 w5|exact jU fj isAgg41 sizeOf41 w5|exact jU jh isAgg41 sizeOf41 w5|exact dN (k:=0) lB rfl rfl rfl isAgg41 sizeOf41 w5|exact dN (k:=1) lB rfl rfl rfl isAgg41 sizeOf41 w5|exact dN (k:=0) fj rfl rfl rfl isAgg41 sizeOf41 w5|exact dN (k:=1) fj rfl rfl rfl isAgg41 sizeOf41 w5|exact dN (k:=0) jh rfl rfl rfl isAgg41 sizeOf41 w5|exact dN (k:=1) jh rfl rfl rfl isAgg41 sizeOf41 w5|exact qb (ds:=[_,_,_]) isAgg41 sizeOf41 rfl rfl)) ?_;refine dO call75 (NC s.row[i] (hs.r ec _ (getElem_mem aa))) ?_;refine en (bZ 0 [_]) [.slice none 0 0] [_] zeroValue98 runUnderlying130 sizeOf98 (fun b57=>?_)
   refine fB 0 57 1 1 ?_;refine OD.ev (ls:=((s.row.take i).map jj)) (new:=[jj s.row[i]]) (Sq:=Sv) ga pn ap rfl rfl underlying130 NZ rfl w7 ot mJ (dI (A:=[_,_])) ot bu (by simp only[maxLen,length_map,length_take,length_cons,length_nil];omega) (by simp only[length_map,length_take,length_cons,length_nil];omega) (fun zV Z aif aih=>?_);refine OD.perm (ee (S1:=[⟨zV,98,Z*1,flatMap cK (((s.row.take i).map jj)++[jj s.row[i]])⟩]) (A:=[_,_])) ?_;refine an 107 [1,6,48,49,50] ?_;refine cl [1,6,48,49,50] ?_;refine⟨((i+1),(some ⟨zV,0,none⟩),Z,[⟨zV,98,Z*1,flatMap cK (((s.row.take i).map jj)++[jj s.row[i]])⟩]),_,cD,(aM (h:=by repeat (first|exact trivial|refine⟨(by (repeat (first|exact fx|(apply fQ;focus (first|rfl|(simp;done)|(congr 2;omega)|(apply eG;exact sY jj aa)|(apply eG;simp;done)))|(apply fD;focus rfl)));done),?_⟩))),w4,(bw.cast (bJ aif aih) (by exact sY jj aa)),rfl⟩
  have TH:=IV jj (show s.row.length≤i by simp at ew;omega);have U:=Rt (G:=G) (s.row.map jj) FC (PW s.row);rw[←TH] at U ru;refine aC 1 ?_;refine bQ eS ?_;refine en (bZ 0 [_,_,_,_]) [.string ⟨#[]⟩,.string ⟨#[]⟩,.string ⟨#[]⟩,.string ⟨#[]⟩] [_,_,_,_] zeroValue9 runUnderlying29 sizeOf9 (fun MN=>?_);refine OD.perm (yh (S2:=[⟨MN,9,4*1,flatMap cS ([⟨#[73,78,83,69,82,84]⟩,⟨#[73,78,84,79]⟩,s.table,⟨#[86,65,76,85,69,83]⟩])⟩]) (A:=[_])) ?_;refine OD.iq (t:=62) (Sq:=[⟨MN,9,4*1,flatMap cS ([⟨#[73,78,83,69,82,84]⟩,⟨#[73,78,84,79]⟩,s.table,⟨#[86,65,76,85,69,83]⟩])⟩]) lk (bJ (g:=cS) (sz:=1) (e:=9) (ls:=[⟨#[73,78,83,69,82,84]⟩,⟨#[73,78,84,79]⟩,s.table,⟨#[86,65,76,85,69,83]⟩]) (Nat.le_refl _) (show 4≤maxLen by decide)) (cy jh _) (yg (A:=[_])) ?_;refine OD.call ap rfl rfl rfl call73 (yI [⟨#[73,78,83,69,82,84]⟩,⟨#[73,78,84,79]⟩,s.table,⟨#[86,65,76,85,69,83]⟩] (by show 4≤10;decide)) ⟨ot,trivial⟩ (eO _) ?_;rintro _ CS ⟨UC,wQ,rfl,BV⟩;refine OD.perm (yh (A:=[_])) ?_;refine aE 1 ?_;refine OD.iq (t:=64) (Sq:=Sv) lk mJ (cy ga _) (ow (A:=[_])) ?_;refine dO call74 (U) ?_;refine OD.ev (ls:=([⟨#[73,78,83,69,82,84]⟩,⟨#[73,78,84,79]⟩,s.table,⟨#[86,65,76,85,69,83]⟩].map bE)) (new:=(l5 ((s.row.take i).map jj))) (Sq:=CS) iF lD ap rfl rfl underlying98 Hh rfl w7 ot BV (dI (A:=[_])) ot (PU _) pB w8 (fun oU zn zo zq=>?_)
  refine OD.perm (ee (S1:=[⟨oU,137,zn*3,flatMap cT (([⟨#[73,78,83,69,82,84]⟩,⟨#[73,78,84,79]⟩,s.table,⟨#[86,65,76,85,69,83]⟩].map bE)++(l5 ((s.row.take i).map jj)))⟩]) (A:=[_])) ?_;refine an 107 [2] ?_;refine CD.iq (t:=2) (Sq:=[⟨oU,137,zn*3,flatMap cT (([⟨#[73,78,83,69,82,84]⟩,⟨#[73,78,84,79]⟩,s.table,⟨#[86,65,76,85,69,83]⟩].map bE)++(l5 ((s.row.take i).map jj)))⟩]) lk (bJ zo zq) (cy iF _) (dI (A:=[_])) ?_;refine aI [] ?_;refine⟨?_,rfl⟩;unfold qe;rw[if_neg bF,if_neg cU,if_pos ec,←TH]
 refine af [1,10,67] ?_;refine au ?_ ?_<;>intro fm gv
 ·refine cR [2] ?_;refine aR 0 ?_ (h:=by exact(cM (mk:=Op.load 32) rfl ot (by first|exact pY (k:=0) (ds:=[_,_,_,_,_,_,_,_,_,_,_,_]) rfl rfl isAgg32 sizeOf32 rfl rfl|exact jU lB isAgg32 sizeOf32 w5|exact jU fj isAgg32 sizeOf32 w5|exact jU jh isAgg32 sizeOf32 w5|exact dN (k:=0) lB rfl rfl rfl isAgg32 sizeOf32 w5|exact dN (k:=0) fj rfl rfl rfl isAgg32 sizeOf32 w5|exact dN (k:=0) jh rfl rfl rfl isAgg32 sizeOf32 w5|exact qb (ds:=[_,_,_,_,_,_,_,_,_,_,_,_]) isAgg32 sizeOf32 rfl rfl)));refine cZ (I (hs.w (.inl gv))) ?_;refine bH ?_;refine aI [] ?_;refine⟨?_,rfl⟩;unfold qe;rw[if_neg bF,if_neg cU,if_neg ec,if_pos gv]
 refine af [1,10,71] ?_;refine au ?_ ?_<;>intro gL kG
 ·refine cR [2] ?_;refine aR 1 ?_ (h:=by exact eS);refine aR 1 ?_ (h:=by exact eS);refine cZ (rQ [⟨#[85,80,68,65,84,69]⟩,s.table,⟨#[83,69,84]⟩,s.set] (by show 4≤10;decide)) ?_;refine cZ (mP ⟨#[61]⟩) ?_;refine aR 2 ?_ (h:=by exact eS);refine cZ (NY s.bS aib (hs.t kG) (fun o h=>(hf.x o h).2)) ?_;refine aR 1 ?_ (h:=by exact eS);refine cZ (G9 s.aj pL (hs.w (.inr (.inl kG))) (fun o h=>(hf.w o h).2) w4) ?_;refine cZ (D5 [[⟨#[85,80,68,65,84,69]⟩,s.table,⟨#[83,69,84]⟩,s.set].map bE,[dU ⟨#[61]⟩],qP s.bS,kg s.aj] (by show 4≤1000;decide) (by simp only[flatten_cons,flatten_nil,length_append,length_map,length_cons,length_nil];omega) (by simp only[flatten_cons,flatten_nil,length_append,length_map,length_cons,length_nil];omega)) ?_;refine bH ?_;refine aI [] ?_;refine⟨?_,rfl⟩;unfold qe;rw[if_neg bF,if_neg cU,if_neg ec,if_neg gv,if_pos kG]
 refine af [1,89] ?_;refine au ?_ ?_<;>intro gg k8
 ·refine CD.seq ?_;refine fL 8 (aq (take 1 _)) ?_ (fun _ h=>(Sublist.map _ (take_sublist _ _)).subset h);refine az 0 rfl (da 1) ?_;refine az 1 rfl eS ?_;refine az 4 rfl (da 6) ?_;refine az 5 rfl eS ?_;refine dm.later rfl ?_;refine AD.one (i:=2) aA ?_;refine jo (bZ 0 [_,_,_]) [.string ⟨#[]⟩,.string ⟨#[]⟩,.string ⟨#[]⟩] [_,_,_] zeroValue9 runUnderlying29 sizeOf9 (fun WS=>?_);refine jq 0 93 1 3 ?_;refine AD.one (i:=3) aA ?_;refine aZ.call rfl ap rfl rfl rfl call73 (yI [⟨#[68,69,76,69,84,69]⟩,⟨#[70,82,79,77]⟩,s.table] (by show 3≤10;decide)) ⟨ot,trivial⟩ (eO _) iy ?_;rintro _ S94 ⟨aos,aot,rfl,aii⟩;refine AD.perm (ee (A:=[_])) ?_;refine AD.one (i:=6) aA ?_;refine jB call80 (G9 s.aj pL (hs.w (.inr (.inr k8))) (fun o h=>(hf.w o h).2) w4) ?_;refine AD.one (i:=7) aA ?_;refine aZ.oY (ls:=([⟨#[68,69,76,69,84,69]⟩,⟨#[70,82,79,77]⟩,s.table].map bE)) (new:=(kg s.aj)) (Sq:=S94) iF lD rfl ap rfl rfl underlying98 Hh rfl w7 runUnderlying98 sizeOf137 ot aii (dI (A:=[_])) ot pB w8 (fun aou aov S98 aij=>?_);refine AD.perm (ee (A:=[_])) ?_;refine eD ?_;refine bg [2] ?_;refine CD.iq (t:=2) (Sq:=S98) lk aij (cy iF _) (dI (A:=[_])) ?_;refine eK ?_;refine⟨?_,rfl⟩;unfold qe;rw[if_neg bF,if_neg cU,if_neg ec,if_neg gv,if_neg kG,if_pos k8]
 obtain⟨j,hj,MO⟩:∃j:Nat,s.kind=((7+j:Nat):Int)∧j<FX.length:=⟨(s.kind-7).toNat,by have:=hs.k1;have:=hs.k9;omega,by have:=hs.k1;have:=hs.k9;show _<3;omega⟩
 refine cR [2] ?_;refine Mp (g:=cS) (FX) ?_;refine aR 1 ?_ (h:=by exact eS);refine aR 0 ?_ (h:=by exact(c9 (r:=.int .i64 ((j:Nat):Int)) rfl ot bI (fY (by rw[hj,show(((7+j:Nat)):Int)-7=((j:Nat):Int) by omega];exact wrap_i64 w4 (by have:j<3:=MO;omega)))));refine aR 1 ?_ (h:=by exact(cM (mk:=Op.load 9) rfl ot (by exact pZ (i:=j) jh isAgg9 MO rfl)));refine cZ (rQ [FX[j]] zR) ?_;refine bH ?_;refine aI [] ?_;refine⟨?_,rfl⟩;unfold qe;rw[if_neg bF,if_neg cU,if_neg ec,if_neg gv,if_neg kG,if_neg k8,hj,show(((7+j:Nat):Int)-7).toNat=j by omega,mr MO];first|done|rfl

theorem N0:∀(l pre:List cz),qO pre l=0→∀c∈l,cQ c.n=0∧1≤c.k∧c.k≤3
 | [],_,_,c,hc=>by cases hc
 | a::l,pre,h,c,hc=>by
  have h:(if mY pre a≠0 then mY pre a else qO (pre++[a]) l)=0:=h;by_cases h0:mY pre a=0
  ·rw[if_neg (by simp[h0])] at h;rcases mem_cons.1 hc with rfl|hc
   ·unfold mY at h0;by_cases h1:cQ c.n=0
    ·rw[if_neg (by simp[h1])] at h0;by_cases h2:c.k<1∨c.k>3
     ·rw[if_pos h2] at h0;cases h0
     exact⟨h1,by omega⟩
    rw[if_pos h1] at h0;exact absurd h0 h1
   exact N0 l _ h c hc
  rw[if_pos h0] at h;exact absurd h h0
theorem Zx{l:List cz}(h:fE l=0):(1≤l.length∧l.length≤6)∧∀c∈l,cQ c.n=0∧1≤c.k∧c.k≤3:=by
 unfold fE at h;split at h
 ·cases h
 exact⟨by omega,N0 l [] h⟩
theorem Rv{α:Type}{f:α→Int}:∀{l:List α},jH f l=0→∀a∈l,f a=0
 | [],_,a,h=>by cases h
 | b::r,h,a,ha=>by
  unfold jH at h;split at h
  ·exact absurd h tw
  rcases mem_cons.1 ha with rfl|ha
  ·have hn:¬f a≠0:=(by assumption)
   omega
  exact Rv h a ha
theorem IY{l:List aU}(h:nv l=0):l.length=0∨fG 0 l=0:=by
 unfold nv at h;split at h
 ·exact .inl tw
 right;unfold iM at h;split at h
 ·cases h
 exact h
theorem aeH{l:List aU}(h:iM l=0):fG 0 l=0∧l.length≤40:=by
 unfold iM at h;split at h
 ·cases h
 exact⟨h,by omega⟩
theorem af4{s:cx}(h:gP s=0):jM s=0∧kZ s (iN s)=true∧(s.kind<7→cQ s.table=0):=by
 unfold gP at h;split at h
 ·rename_i h1;exact absurd h h1.2
 rename_i h1;split at h
 ·cases h
 rename_i h2;refine⟨h,?_,fun hk=>?_⟩
 ·cases hb:kZ s (iN s) with
  | true=>rfl
  | false=>exact absurd ⟨h,hb⟩ h2
 by_cases hn:cQ s.table=0
 ·exact hn
 exact absurd ⟨hk,hn⟩ h1
theorem af5{s:cx}(hf:lH s)(h1:1≤s.kind)(I:s.kind≤9)(h:gP s=0):WO s:=by
 have he:=(af4 h).1;unfold jM at he;refine⟨hf,h1,I,fun hk=>?_,fun hk v E=>?_,fun hk=>?_,fun hk=>?_⟩
 ·rw[if_pos hk] at he;exact fun c hc=>((Zx he).2 c hc).2
 ·rw[if_neg w4,if_pos hk] at he;unfold dZ at he;split at he
  ·cases he
  exact SX (Rv he v E) (hf.r v E).1 (hf.r v E).2
 ·by_cases h4:s.kind=4
  ·rw[if_neg w4,if_neg w4,if_pos h4] at he;unfold oD at he;repeat' split at he
   all_goals first|(exfalso;omega)|exact IY w4
  by_cases h5:s.kind=5
  ·rw[if_neg w4,if_neg w4,if_neg h4,if_pos h5] at he;repeat' split at he
   all_goals first|(exfalso;omega)|exact IY he
  rw[if_neg w4,if_neg w4,if_neg h4,if_neg h5,if_pos w4] at he;exact IY he
 rw[if_neg w4,if_neg w4,if_neg w4,if_pos hk] at he;repeat' split at he
 all_goals first|(exfalso;omega)|exact(aeH tw).1
def gX(s:cx):Int:=if s.kind<1∨s.kind>9 then 2 else if gP s≠0 then gP s else if (qe s).length>100 then 10 else 0
theorem acV{s:cx}(h:gX s=0):1≤s.kind∧s.kind≤9∧gP s=0∧(qe s).length≤100:=by
 unfold gX at h;split at h
 ·cases h
 split at h
 ·rename_i h2;exact absurd h h2
 split at h
 ·cases h
 rename_i h2 _;exact⟨by omega,by omega,by omega,by omega⟩
theorem PX(hm:(3,marksC)∈G)(hw:(1,wordsC)∈G)(O:(0,typesC)∈G)(s:cx)(hf:lH s):VP Tryz.prog G 25 [.agg (bY s)] (ae (gX s)):=by
 refine VC.body func25 rfl ntmps25 aO fun X0 w0 aY=>?_;have dy:=dY;have ff:=Zw hm hw s hf;unfold bY at ff;unfold bY;have Z:(s.kind<1∨s.kind>9)∨¬(s.kind<1∨s.kind>9):=(by omega)
 refine cf ?_;refine OD.box (ds:=[_,_,_,_,_,_,_,_,_,_,_,_]) ap rfl rfl ot rfl rfl (fun b1=>?_);refine an 21 [1] ?_;refine aC 4 ?_;refine bW 7 (fun U E=>?_) (fun U E=>?_)
 ·refine bg [1,11] ?_;refine eE ?_;have aV:gX s=2:=if_pos w4;exact xA
 refine bg [1,11] ?_;refine au ?_ ?_<;>intro aP bF
 ·have aV:gX s=2:=if_pos w4;exact xA
 have hk:¬(s.kind<1∨s.kind>9):=(by omega)
 refine cW [1,3] (ff) ?_;refine af [1,3,15] ?_;refine au ?_ ?_<;>intro aX cJ
 ·have hn:gP s≠0:=(by simpa using aX)
  have aV:gX s=gP s:=(by unfold gX;rw[if_neg hk,if_pos hn])
  exact xA
 have h0:gP s=0:=(by simpa using aX)
 have I:=acU O s (af5 hf w4 w4 h0);unfold bY at I;have gE:¬gP s≠0:=fun h=>h h0;refine cW [20] (I) ?_;refine au ?_ ?_<;>intro cr cU
 ·have aV:gX s=10:=(by unfold gX;rw[if_neg hk,if_neg gE,if_pos (by simp at cr;omega)])
  exact xA
 have aV:gX s=0:=(by unfold gX;rw[if_neg hk,if_neg gE,if_neg (by simp at cr;omega)])
 refine af [2] ?_;refine eK ?_;rw[aV];exact⟨rfl,rfl⟩

end Go.Proofs.YtdgichenhdikgaaGreatDoor.Pa
namespace Go.Proofs.YtdgichenhdikgaaGreatDoor.Pc
open List
open Go.Proofs.Tryz
open Go.RowKit V Pk Vl Go.Proofs.YtdgichenhdikgaaGreatDoor.Nm Pa
variable {G:List (Nat×List Value)}
variable {i:Nat}
theorem aeI:cQ ⟨#[116]⟩=0:=sQ (l:=[116]) w7 w7 (fun c hc=>by simp only[mem_singleton] at hc;subst hc;decide)
def qz(l:List cz):cx:={gj with kind:=1,table:=⟨#[116]⟩,ay:=l}
theorem af6{l:List cz}(h6:l.length≤6)(aT:∀c∈l,c.n.size≤maxLen):lH (qz l) :=
 ⟨⟨h6,Nat.zero_le _,Nat.zero_le _,Nat.zero_le _,Nat.zero_le _⟩,(by show 1≤maxLen;decide),aT,(fun _ h=>by cases h),Nat.zero_le _,Nat.zero_le _,(fun _ h=>by cases h),(fun _ h=>by cases h),(fun _ h=>by cases h)⟩
theorem aeJ(l:List cz):kZ (qz l) (qz l)=true:=by
 unfold kZ;simp only[Bool.and_eq_true,beq_iff_eq,A3,and_self]
theorem acW(l:List cz):gP (qz l)=fE l:=by
 have h1:jM (qz l)=fE l:=rfl;have h2:iN (qz l)=qz l:=rfl;unfold gP;rw[if_neg (fun h=>h.2 aeI),h2,h1,if_neg (fun h=>by rw[aeJ] at h;cases h.2)]
theorem aba{l:List cz}(h6:l.length≤6):gX (qz l)=fE l:=by
 unfold gX;rw[if_neg (fun h=>by have:(qz l).kind=1:=rfl;omega),acW];split
 ·rfl
 rename_i h0;have h1:=Ez (ts:=l.map iZ) (IW l) (l.map iZ).length;have h2:(l5 (l.map iZ)).length≤80:=(by unfold l5;rw[length_append];rw[length_map] at h1 ⊢;simp only[length_cons,length_nil];omega)
 have h3:(qe (qz l)).length≤100:=by
  show([_,_,_].map bE++l5 (l.map iZ)).length≤100;rw[length_append];simp only[length_map,length_cons,length_nil];omega
 rw[if_neg w4];simp only[ne_eq,Decidable.not_not] at h0;exact h0.symm
def MP(l:List cz):List D:=[ae 1,bf ⟨#[116]⟩,ax 2 cC l,bB,bB,bX false,bB,e9,bX false,ae (-1),e9,bB]
theorem Zy(hm:(3,marksC)∈G)(hw:(1,wordsC)∈G)(ht:(0,typesC)∈G)(l:List cz)(hl:l.length≤6)(aT:∀c∈l,c.n.size≤maxLen):VP Tryz.prog G 25 [.agg (MP l)] (ae (fE l)):=by
 have h:=Pa.PX (G:=G) hm hw ht (qz l) (af6 hl aT);rw[aba hl] at h;refine VC.args h rfl fun w L i h1 h2 v E=>?_;have:i=0:=(by simp only[length_cons,length_nil] at h1;omega)
 subst this;exact vX (a:=MP l) (b:=bY (qz l)) ⟨cN,cN,cN,eB,eB,cN,eB,cN,cN,cN,cN,eB,trivial⟩ w L v E
theorem EH(hm:(3,marksC)∈G)(hw:(1,wordsC)∈G)(ht:(0,typesC)∈G)(l:List cz)(hl:l.length≤6)(aT:∀c∈l,c.n.size≤maxLen):VP Tryz.prog G 54 [ax 2 cC l] (ae (fE l)):=by
 refine VC.body func54 rfl ntmps54 aO fun X0 w0 aY=>?_;have dy:=dY;have ff:=Zy hm hw ht l hl aT;unfold MP at ff;refine af [0] ?_;refine cW [2] (ff) ?_;exact mI
def mD(i:Nat)(c:cz)(v:Vl):Int:=if dP v≠0 then dP v else if v.k≠c.k∧(i=0∨v.k≠0) then 4 else 0
def qm:Nat→List cz→List Vl→Int
 | i,c::cs,v::vs=>if mD i c v≠0 then mD i c v else qm (i+1) cs vs
 | _,_,_=>0
def dZ(cs:List cz)(vs:List Vl):Int:=if fE cs≠0 then fE cs else if vs.length≠cs.length then 1 else qm 0 cs vs
theorem Zd{cs:List cz}{vs:List Vl}(h1:i<cs.length)(h2:i<vs.length)(h:mD i cs[i] vs[i]=0):qm i (cs.drop i) (vs.drop i)=qm (i+1) (cs.drop (i+1)) (vs.drop (i+1)):=by
 rw[drop_eq_getElem_cons h1,drop_eq_getElem_cons h2];exact if_neg (by simp[h])
theorem Pp{cs:List cz}{vs:List Vl}(h1:i<cs.length)(h2:i<vs.length)(h:mD i cs[i] vs[i]≠0):qm i (cs.drop i) (vs.drop i)=mD i cs[i] vs[i]:=by
 rw[drop_eq_getElem_cons h1,drop_eq_getElem_cons h2];exact if_pos h
theorem abb{cs:List cz}{vs:List Vl}(h:¬i<vs.length):qm i (cs.drop i) (vs.drop i)=0:=by
 rw[drop_of_length_le (l:=vs) w4];cases cs.drop i<;>rfl
theorem Jw(hm:(3,marksC)∈G)(hw:(1,wordsC)∈G)(ht:(0,typesC)∈G)(l:List cz)(hl:l.length≤6)(aT:∀c∈l,c.n.size≤maxLen)(vs:List Vl)(ru:vs.length≤maxLen):VP Tryz.prog G 33 [ax 2 cC l,ax 3 cV vs] (ae (dZ l vs)):=by
 refine VC.body func33 rfl ntmps33 aO fun X0 w0 aY=>?_;have dy:=dY;refine af [0,1] ?_;refine cW [0,1,5] (EH hm hw ht l hl aT) ?_;refine af [0,1,5,12] ?_;refine au ?_ ?_<;>intro aP bF
 ·have hne:fE l≠0:=(by simpa using aP)
  have aV:dZ l vs=fE l:=if_pos hne;refine af [4] ?_;exact oM
 have h0:¬fE l≠0:=(by simpa using aP)
 refine af [0,1,18] ?_;refine au ?_ ?_<;>intro aX cJ
 ·have aV:dZ l vs=1:=(by unfold dZ;rw[if_neg h0,if_pos w4])
  refine af [4] ?_;exact oM
 have Z:vs.length=l.length:=(by omega)
 have E:dZ l vs=qm 0 (l.drop 0) (vs.drop 0):=(by unfold dZ;rw[if_neg h0,if_neg (by simp[Z])];rfl)
 refine af [0,19,20,21] ?_;refine eL [0,19,20] (fun aW _ (i:Nat) aJ=>(i≤vs.length)∧(dZ l vs=qm i (l.drop i) (vs.drop i))∧aJ=(⟨49,(21,ae (i:Nat))::aW,[]⟩:St)) (fun (i:Nat)=>vs.length-i) 0 ⟨(Nat.zero_le _),E,rfl⟩ ?_;rintro i _ ⟨hi,hinv,rfl⟩;refine af [0,19,20,21,22] ?_;refine au ?_ ?_<;>intro cr cU
 ·have aa:i<vs.length:=(by omega)
  have Kn:i<l.length:=(by omega)
  refine aC 3 ?_;refine OD.alloc (ds:=[_,_,_]) ap rfl rfl zeroValue41 rfl (fun b7=>?_);refine aE 1 ?_;refine aK 0 [_,_,_] sizeOf41 ?_;refine an 49 [0,6,7,19,20,21] ?_;refine cW [0,6,7,8,19,20,21] (Vl.o8 vs[i]) ?_;refine af [0,6,7,8,19,20,21,29] ?_;refine au ?_ ?_<;>intro cX ec
  ·have hne:dP vs[i]≠0:=(by simpa using cX)
   have hf:mD i l[i] vs[i]=dP vs[i]:=if_pos hne;have aV:dZ l vs=dP vs[i]:=(by rw[hinv,Pp Kn aa (by rw[hf];exact hne),hf])
   refine af [4] ?_;exact oM
  have hz:¬dP vs[i]≠0:=(by simpa using cX)
  refine CD.skip ?_;refine CD.seq ?_;refine l9 7 [0,6,7,19,20,21,32,37] ?_;refine bH ?_;refine aE 2 ?_;refine bW 39 (fun U I=>?_) (fun U I=>?_)
  ·refine aE 3 ?_;refine bW 42 (fun qT O=>?_) (fun qT O=>?_)
   ·refine bg [0,19,20,21,47] ?_;refine eE ?_;exact VO
   refine bg [0,19,20,21,47] ?_;refine au ?_ ?_<;>intro ew fp
   ·exact VO
   exact VR
  refine bg [0,19,20,21,47] ?_;refine fM ?_;exact VR
 have aV:dZ l vs=0:=(by rw[hinv];exact abb w4)
 refine af [4] ?_;exact tU

end Go.Proofs.YtdgichenhdikgaaGreatDoor.Pc

namespace Go.Proofs.YtdgichenhdikgaaGreatDoor.Nm
open List
open Go.Proofs.Tryz
open Go.RowKit V Pk Vl
inductive Tw where
 | mk (k n:Int) (s:ByteArray) (ts:List Tw)
mutual
def Tw.cs:Tw→List D
 | .mk k n s ts=>[.v (.int .i64 k),.v (.int .i64 n),.v (.string s),.list 4 (Tw.mh ts) ts.length]
def Tw.mh:List Tw→List D
 | []=>[]
 | t::r=>t.cs++Tw.mh r
end
theorem Tw.Jy:∀ts:List Tw,Tw.mh ts=ts.flatMap Tw.cs
 | []=>rfl
 | t::r=>by rw[Tw.mh,Tw.Jy r,flatMap_cons]
theorem Tw.EZ(t:Tw):t.cs.length=4:=by cases t;rfl
mutual
def Tw.Ok:Tw→Prop
 | .mk k n s ts=>(-9223372036854775808≤k∧k≤9223372036854775807)∧(-9223372036854775808≤n∧n≤9223372036854775807)∧s.size≤maxLen∧ts.length≤maxLen∧Tw.GN ts
def Tw.GN:List Tw→Prop
 | []=>True
 | t::r=>t.Ok∧Tw.GN r
end
theorem Tw.Rw:∀{ts:List Tw},Tw.GN ts→∀t∈ts,t.Ok
 | [],_,t,h=>by cases h
 | a::r,⟨h1,h2⟩,t,h=>by
  rcases mem_cons.1 h with rfl|h
  ·exact h1
  exact Tw.Rw h2 t h
theorem Tw.Rx:∀{ts:List Tw},(∀t∈ts,t.Ok)→Tw.GN ts
 | [],_=>trivial
 | a::r,h=>⟨h a mem_cons_self,Tw.Rx fun t ht=>h t (mem_cons_of_mem _ ht)⟩

def rT(j:Int):ByteArray:=if j=0 then ⟨#[105,100]⟩ else if j=1 then ⟨#[110]⟩ else if j=2 then ⟨#[115]⟩ else ⟨#[98]⟩
def tE(n:Int)(s:ByteArray):Vl:={ph ⟨n,ei n 40-20,s⟩ with s:=nB (ph ⟨n,ei n 40-20,s⟩).s 4}
def rS(n:Int)(s:ByteArray):aU:=⟨1,tE n s,⟨#[]⟩⟩
def wj(n:Int):aU:=⟨2,bD,rT (ei n 4)⟩
def qM(k:Int):aU:=⟨k,bD,⟨#[]⟩⟩
def mq(k n:Int)(s:ByteArray):List aU:=if 1+ei k 11=2 then [wj n] else [rS n s]
def ir:Nat→Tw→List aU
 | 0,.mk k n s _=>mq k n s
 | r+1,.mk k n s ts =>
  if 1+ei k 11=1 then [rS n s]
  else if 1+ei k 11=2 then [wj n]
  else if 1+ei k 11=5∨1+ei k 11=11 then (match ts[0]? with|some t=>ir r t|none=>mq n 0 s)++[qM (1+ei k 11)]
  else ((match ts[0]? with|some t=>ir r t|none=>mq n 0 s)++(match ts[1]? with|some t=>ir r t|none=>mq n 1 s))++[qM (1+ei k 11)]
def gz(r:Nat)(ts:List Tw)(n:Int)(s:ByteArray)(i:Nat):List aU:=match ts[i]? with|some t=>ir r t|none=>mq n i s
theorem yl(k n:Int)(s:ByteArray):(mq k n s).length=1:=by unfold mq;split<;>rfl
theorem IZ:∀(r:Nat) (t:Tw),1≤(ir r t).length∧(ir r t).length+1≤2 ^ (r+1)
 | 0,.mk k n s ts=>by rw[ir,yl];exact⟨by decide,by decide⟩
 | r+1,.mk k n s ts=>by
  have E:∀i:Nat,1≤(gz r ts n s i).length∧(gz r ts n s i).length+1≤2 ^ (r+1):=fun i=>by
   unfold gz;split
   ·exact IZ r _
   rw[yl];exact⟨by decide,by rw[Nat.pow_succ];have:=Nat.one_le_two_pow (n:=r);omega⟩
  have h0:=E 0;have h1:=E 1;unfold gz at h0 h1;have hp:2 ^ (r+1+1)=2 ^ (r+1)+2 ^ (r+1):=(by rw[Nat.pow_succ];omega)
  rw[ir];simp only[Int.natCast_zero,Int.natCast_one] at h0 h1;split
  ·exact⟨by simp,by simp;omega⟩
  split
  ·exact⟨by simp,by simp;omega⟩
  split<;>simp only[length_append,length_cons,length_nil]<;>omega
theorem Ry(r:Nat)(ts:List Tw)(n:Int)(s:ByteArray)(i:Nat):1≤(gz r ts n s i).length∧(gz r ts n s i).length+1≤2 ^ (r+1):=by
 unfold gz;split
 ·exact IZ r _
 rw[yl];exact⟨by decide,by rw[Nat.pow_succ];have:=Nat.one_le_two_pow (n:=r);omega⟩
theorem N1(r:Vl):(ph r).s.size≤10:=by
 unfold ph bD;split
 ·exact Nat.zero_le _
 split
 ·exact Nat.zero_le _
 split
 ·show(nB r.s 10).size≤10;rw[HF];omega
 decide
theorem Rz{j:Nat}(h:j<4):[D.v (.string ⟨#[105,100]⟩),D.v (.string ⟨#[110]⟩),D.v (.string ⟨#[115]⟩),D.v (.string ⟨#[98]⟩)][j*1]?=some (bf (rT (j:Int))):=by
 match j,h with
 | 0,_|1,_|2,_|3,_=>rfl
variable {G:List (Nat×List Value)}
abbrev wR(ls:List aU)(r:D)(S:List ah):Prop:=gd cO 43 5 ls r S

theorem RA(k n d:Int)(s:ByteArray)(d4:D)(h4:kD d4=true)(dM:-9223372036854775808≤k)(fu:k≤9223372036854775807)(gh:-9223372036854775808≤n)(iR:n≤9223372036854775807)(hs:s.size≤maxLen)(hd:2<d):VC Tryz.prog G 32 [.agg [ae k,ae n,bf s,d4],ae d] [] (wR (mq k n s)):=by
 refine VC.body func32 rfl ntmps32 aO fun X0 w0 aY=>?_;have hpk:=j4 k (by decide:(1:Int)≤11);have hpn:=j4 n (by decide:(1:Int)≤40);have U:=j4 n (by decide:(1:Int)≤4);obtain⟨j,hj⟩:=Int.eq_ofNat_of_zero_le U.1;have Z:j<4:=(by omega)
 have I:=kU G n 4 gh iR w7;rw[hj] at I;have fN:(⟨n,ei n 40-20,s⟩:Vl).Ok:=⟨gh,iR,by show _≤ei n 40-20;omega,by show ei n 40-20≤_;omega,hs⟩
 have We:=N1 ⟨n,ei n 40-20,s⟩;have hml:100≤maxLen:=(by decide)
 obtain⟨kk,lj⟩:∃kk:Int,1+ei k 11=kk:=⟨_,rfl⟩
 refine cf ?_;refine OD.box (ds:=[_,_,_,_]) ap rfl rfl ot rfl rfl (fun b2=>?_);refine OD.box (ds:=[_]) ap rfl rfl ot rfl rfl (fun b3=>?_);refine an 69 [2,3] ?_;refine cR [2,3,5] ?_;refine cZ (kU G k 11 dM fu w7) ?_;refine aR 0 ?_ (h:=by exact(c9 (r:=.int .i64 kk) rfl bI ot (j7 (by rw[lj];exact wrap_i64 w4 w4))));refine bH ?_;refine aC 3 ?_;refine bW 14 (fun E O=>?_) (fun E O=>?_)
 ·refine bg [2,3,5,17] ?_;refine au ?_ ?_<;>intro aP bF
  ·refine cl [2,3,5] ?_;refine cR [2,5,6] ?_;refine aR 0 ?_ (h:=by exact(oZ (ds:=[_,_]) rfl ⟨ot,ot,trivial⟩));refine bH ?_;refine af [2,5,6,19] ?_;refine af [2,5,6,19,20] ?_;refine eE ?_;exact Uj
  refine cR [2,5,6] ?_;refine aR 0 ?_ (h:=by exact(oZ (ds:=[_,_]) rfl ⟨ot,ot,trivial⟩));refine bH ?_;refine af [2,5,6,19] ?_;refine af [2,5,6,19,20] ?_;refine au ?_ ?_<;>intro aX cJ
  ·exact Uj
  refine af [2,5,6,19,40] ?_;refine au ?_ ?_<;>intro cr cU
  ·refine aC 1 ?_;refine en (bZ 0 [_,_,_,_]) [.string ⟨#[]⟩,.string ⟨#[]⟩,.string ⟨#[]⟩,.string ⟨#[]⟩] [_,_,_,_] zeroValue9 runUnderlying29 sizeOf9 (fun WT=>?_);refine fB 0 43 1 4 ?_;refine aE 2 ?_;refine dO call21 (I) ?_;refine aE 1 ?_;refine bQ (cM (mk:=Op.load 9) rfl ot (BN isAgg9 (Rz Z))) ?_;refine aE 1 ?_;refine en (bZ 0 [_]) [.int .i64 0,.int .i64 0,.int .i64 0,.string ⟨#[]⟩,.string ⟨#[]⟩] [_,_,_,_,_] zeroValue43 runUnderlying30 sizeOf43 (fun Ao=>?_);exact z28
  exact absurd cr (by simp at aP aX cr;omega)
 exact absurd E (by simp at E;omega)

end Go.Proofs.YtdgichenhdikgaaGreatDoor.Nm

namespace Go.Proofs.YtdgichenhdikgaaGreatDoor.Nm
open List
open Go.Proofs.Tryz
open Go.RowKit V Pk Vl
variable {G:List (Nat×List Value)}
variable {ts:List Tw} {h:Int}
theorem PY{r:Nat}{n:Int}{s:ByteArray}{i:Nat}(hi:i<ts.length):ir r ts[i]=gz r ts n s i:=by unfold gz;rw[getElem?_eq_getElem hi]
theorem PZ{r:Nat}{n:Int}{s:ByteArray}{i:Nat}(hi:ts.length≤i):mq n i s=gz r ts n s i:=by unfold gz;rw[getElem?_eq_none hi]
theorem vN(r:Nat)(k n:Int)(s:ByteArray)(ts:List Tw):ir (r+1) (.mk k n s ts)=if 1+ei k 11=1 then [rS n s] else if 1+ei k 11=2 then [wj n]
  else if 1+ei k 11=5∨1+ei k 11=11 then gz r ts n s 0++[qM (1+ei k 11)] else (gz r ts n s 0++gz r ts n s 1)++[qM (1+ei k 11)]:=rfl
theorem JO(r:Nat)(k n d:Int)(s:ByteArray)(ts:List Tw)(i b2 b3:Nat)(IH:∀t∈ts,VC Tryz.prog G 32 [.agg t.cs,ae (d+1)] [] (wR (ir r t)))(gh:-9223372036854775808≤n)(iR:n≤9223372036854775807)(hs:s.size≤maxLen)(hd1:0≤d)(hd:d≤2)(hi:i≤1):VC Tryz.prog G 52 [ae (i:Int),dJ b2,dJ b3] [⟨b3,3,1,[ae d]⟩,⟨b2,62,4,[ae k,ae n,bf s,.list 4 (ts.flatMap Tw.cs) ts.length]⟩] (fun x S=>∃S1,wR (gz r ts n s i) x S1∧S=S1++[⟨b3,3,1,[ae d]⟩,⟨b2,62,4,[ae k,ae n,bf s,.list 4 (ts.flatMap Tw.cs) ts.length]⟩]):=by
 refine VC.body func52 rfl ntmps52 aO fun X0 w0 aY=>?_;refine aC 1 ?_;refine OD.wk (Wk.dR (n:=25) (l':=[(0,_),(1,_),(2,_)]) (S':=_) rfl rfl fi) ?_;refine OD.nil ?_;refine aC 5 ?_;refine OD.wk (Wk.dR (n:=25) (l':=[(0,_),(1,_),(2,_),(9,_)]) (S':=_) rfl rfl fi) ?_;refine OD.nil ?_;refine au ?_ ?_<;>intro aP bF
 ·have aa:i<ts.length:=(by omega)
  refine CD.seq ?_;refine CD.draw (aq _) aA (fun _ h=>h) ?_;refine az 0 rfl (da 3) ?_;refine az 1 rfl (dD 1) ?_;refine az 2 rfl bj ?_;refine az 3 rfl (dF 4) ?_;refine az 4 rfl (cM (mk:=Op.load 62) rfl ot (by first|exact pY (k:=0) (ds:=[_,_,_,_]) rfl rfl isAgg62 sizeOf62 rfl rfl|exact pY (k:=1) (ds:=[_,_,_,_]) rfl rfl isAgg62 sizeOf62 rfl rfl|exact jU Tw.EZ isAgg62 sizeOf62 w5|exact dN (k:=0) Tw.EZ rfl rfl rfl isAgg62 sizeOf62 w5|exact dN (k:=1) Tw.EZ rfl rfl rfl isAgg62 sizeOf62 w5|exact qb (ds:=[_,_,_,_]) isAgg62 sizeOf62 rfl rfl)) ?_;refine az 5 rfl (dD 0) ?_;refine az 6 rfl mK ?_;refine dm.later rfl ?_;refine AD.one (i:=7) aA ?_;refine aZ.call rfl ap rfl rfl rfl call32 (IH _ (getElem_mem aa)) ⟨ot,ot,trivial⟩ (eO _) (fun _ h=>h) ?_;rintro _ O ⟨U,Z,rfl,E⟩;refine cu 8 rfl bj ?_;refine AD.wk (y:=⟨25,[(4,_)],((O++[_,_]))⟩) (Wk.dR rfl rfl fi) rfl ?_;refine AD.done aA ?_;refine aI _ ?_;first|exact⟨_,gd.cast (gd.mk E) (PY aa),rfl⟩|exact⟨_,gd.cast (gd.mk I) (PZ w4),rfl⟩
 refine aC 6 ?_;refine OD.call ap rfl rfl rfl call32 (RA n (i:Int) 9 s (bB) rfl gh iR w4 w4 hs w7) ⟨ot,bI,trivial⟩ (eO _) ?_;rintro _ S24 ⟨aow,aox,rfl,I⟩;refine aE 1 ?_;refine OD.wk (Wk.dR (n:=25) (l':=[(4,_)]) (S':=_) rfl rfl fi) ?_;refine OD.nil ?_;refine aI _ ?_;first|exact⟨_,gd.cast (gd.mk E) (PY aa),rfl⟩|exact⟨_,gd.cast (gd.mk I) (PZ w4),rfl⟩
theorem Ho:(Tryz.prog.info? 43).map (fun i=>(i.zero,i.size,i.bytes))=some (some (.agg #[.int .i64 0,.int .i64 0,.int .i64 0,.string ⟨#[]⟩,.string ⟨#[]⟩]),5,56):=by kernel_rfl
theorem acX(r:Nat)(hr:r≤2)(k n d:Int)(s:ByteArray)(ts:List Tw)(IH:∀t∈ts,VC Tryz.prog G 32 [.agg t.cs,ae (d+1)] [] (wR (ir r t)))(dM:-9223372036854775808≤k)(fu:k≤9223372036854775807)(gh:-9223372036854775808≤n)(iR:n≤9223372036854775807)(hs:s.size≤maxLen)(hd1:0≤d)(hd:d≤2):VC Tryz.prog G 32 [.agg [ae k,ae n,bf s,.list 4 (ts.flatMap Tw.cs) ts.length],ae d] [] (wR (ir (r+1) (.mk k n s ts))):=by
 refine VC.body func32 rfl ntmps32 aO fun X0 w0 aY=>?_;have hpk:=j4 k (by decide:(1:Int)≤11);have hpn:=j4 n (by decide:(1:Int)≤40);have hpc:=j4 n (by decide:(1:Int)≤4);obtain⟨j,hj⟩:=Int.eq_ofNat_of_zero_le hpc.1;have hj4:j<4:=(by omega)
 have I:=kU G n 4 gh iR w7;rw[hj] at I;have fN:(⟨n,ei n 40-20,s⟩:Vl).Ok:=⟨gh,iR,by show _≤ei n 40-20;omega,by show ei n 40-20≤_;omega,hs⟩
 have We:=N1 ⟨n,ei n 40-20,s⟩;have hml:100≤maxLen:=(by decide)
 obtain⟨kk,lj⟩:∃kk:Int,1+ei k 11=kk:=⟨_,rfl⟩
 have mH:=Ry r ts n s 0;have jV:=Ry r ts n s 1;have h2p:2 ^ (r+1)≤8:=Nat.pow_le_pow_right w7 (show r+1≤3 by omega);refine cf ?_;refine OD.box (ds:=[_,_,_,_]) ap rfl rfl ot rfl rfl (fun b2=>?_);refine OD.box (ds:=[_]) ap rfl rfl ot rfl rfl (fun b3=>?_);refine an 69 [2,3] ?_;refine cR [2,3,5] ?_;refine cZ (kU G k 11 dM fu w7) ?_;refine aR 0 ?_ (h:=by exact(c9 (r:=.int .i64 kk) rfl bI ot (j7 (by rw[lj];exact wrap_i64 w4 w4))));refine bH ?_;refine aC 3 ?_;refine bW 14 (fun E Z=>?_) (fun E Z=>?_)
 ·exact absurd E (by simp at E;omega)
 refine bg [2,3,5,17] ?_;refine fM ?_;refine cR [2,5,6] ?_;refine aR 0 ?_ (h:=by exact(oZ (ds:=[_,_]) rfl ⟨ot,ot,trivial⟩));refine bH ?_;refine af [2,5,6,19] ?_;refine af [2,5,6,19,20] ?_;refine au ?_ ?_<;>intro aX cJ
 ·refine CD.seq ?_;refine tV 11 10 [5,7,31] ?_;refine cZ (kU G n 40 gh iR w7) ?_;refine cZ (Pq ⟨n,ei n 40-20,s⟩ fN) ?_;refine rq ?_;refine jX ?_;refine⟨rfl,fun b7=>?_⟩;refine aK 0 [_,_,_] sizeOf41 ?_;refine an 69 [5,7] ?_;refine aC 2 ?_;refine dO call16 (EV (ph ⟨n,ei n 40-20,s⟩).s 4 w4) ?_;refine aE 1 ?_;refine aK 0 [_,_,_] sizeOf9 ?_;refine an 69 [5,7] ?_;refine aC 3 ?_;refine en (bZ 0 [_]) [.int .i64 0,.int .i64 0,.int .i64 0,.string ⟨#[]⟩,.string ⟨#[]⟩] [_,_,_,_,_] zeroValue43 runUnderlying30 sizeOf43 (fun Cs=>?_);exact VE
 refine af [2,5,6,19,40] ?_;refine au ?_ ?_<;>intro cr cU
 ·refine aC 1 ?_;refine en (bZ 0 [_,_,_,_]) [.string ⟨#[]⟩,.string ⟨#[]⟩,.string ⟨#[]⟩,.string ⟨#[]⟩] [_,_,_,_] zeroValue9 runUnderlying29 sizeOf9 (fun WT=>?_);refine fB 0 43 1 4 ?_;refine aE 2 ?_;refine dO call21 (I) ?_;refine aE 1 ?_;refine bQ (cM (mk:=Op.load 9) rfl ot (BN isAgg9 (Rz hj4))) ?_;refine aE 1 ?_;refine en (bZ 0 [_]) [.int .i64 0,.int .i64 0,.int .i64 0,.string ⟨#[]⟩,.string ⟨#[]⟩] [_,_,_,_,_] zeroValue43 runUnderlying30 sizeOf43 (fun Ao=>?_);exact VE
 refine af [5,6,19,51] ?_;refine au ?_ ?_<;>intro cX ec
 ·refine eE ?_;exact z31
 refine cl [5,6,51] ?_;refine au ?_ ?_<;>intro ew fp
 ·exact z31
 refine aC 1 ?_;refine OD.j9 (f:=52) (args:=[_]) (all:=[_,_,_]) (Sf:=[_,_]) (R:=[]) ap rfl rfl ot call52 (JO r k n d s ts 0 b2 b3 IH gh iR hs hd1 hd w7) rfl ⟨bI,trivial⟩ (Perm.refl _) ?_;rintro _ _ ⟨WU,⟨aoy,aoz,rfl,aik⟩,rfl⟩;refine OD.perm (Pn (A:=[_,_])) ?_;refine aE 1 ?_;refine OD.j9 (f:=52) (args:=[_]) (all:=[_,_,_]) (Sf:=[_,_]) (R:=WU) ap rfl rfl ot call52 (JO r k n d s ts 1 b2 b3 IH gh iR hs hd1 hd w7) rfl ⟨bI,trivial⟩ (Perm.refl _) ?_;rintro _ _ ⟨CS,⟨UC,wQ,rfl,BV⟩,rfl⟩;refine OD.perm (aaS (A:=[_,_])) ?_;refine OD.iq (t:=63) (Sq:=CS) lk BV (cy mR _) (yg (A:=[_,_])) ?_;refine OD.ev (ls:=(gz r ts n s 0)) (new:=(gz r ts n s 1)) (Sq:=WU) mR Jp ap rfl rfl underlying30 Ho rfl w7 ot aik (dI (A:=[_,_])) ot w4 zH zH (fun C0 O ail aim=>?_);refine OD.perm (ee (S1:=[⟨C0,43,O*5,flatMap cO ((gz r ts n s 0)++(gz r ts n s 1))⟩]) (A:=[_,_])) ?_;refine aE 2 ?_;refine en (bZ 0 [_]) [.int .i64 0,.int .i64 0,.int .i64 0,.string ⟨#[]⟩,.string ⟨#[]⟩] [_,_,_,_,_] zeroValue43 runUnderlying30 sizeOf43 (fun qq=>?_);refine fB 0 67 5 1 ?_
 refine OD.ev (ls:=((gz r ts n s 0)++(gz r ts n s 1))) (new:=[(⟨kk,bD,⟨#[]⟩⟩:aU)]) (Sq:=[⟨C0,43,O*5,flatMap cO ((gz r ts n s 0)++(gz r ts n s 1))⟩]) mR Jp ap rfl rfl underlying30 Ho rfl w7 ot (bJ ail aim) (dI (A:=[_,_])) ot bu zH zH (fun WV U ain aio=>?_);refine OD.perm (ee (S1:=[⟨WV,43,U*5,flatMap cO (((gz r ts n s 0)++(gz r ts n s 1))++[(⟨kk,bD,⟨#[]⟩⟩:aU)])⟩]) (A:=[_,_])) ?_;refine an 69 [4] ?_;refine aI [⟨WV,43,U*5,flatMap cO (((gz r ts n s 0)++(gz r ts n s 1))++[(⟨kk,bD,⟨#[]⟩⟩:aU)])⟩] ?_;exact gd.cast (gd.mk (bJ ain aio)) (by rw[vN,lj,if_neg w4,if_neg w4,if_neg w4];rfl)
theorem SY:∀(r:Nat),r≤3→∀(t:Tw),t.Ok→VC Tryz.prog G 32 [.agg t.cs,ae (3-(r:Int))] [] (wR (ir r t))
 | 0,_,.mk k n s ts,h=>RA k n 3 s (.list 4 (Tw.mh ts) ts.length) rfl h.1.1 h.1.2 h.2.1.1 h.2.1.2 h.2.2.1 w7
 | r+1,hr,.mk k n s ts,h=>by
  have:=acX (G:=G) r w4 k n (3-((r+1:Nat):Int)) s ts (fun t ht=>by
   have h1:=SY r w4 t (Tw.Rw h.2.2.2.2 t ht);rw[show(3-((r+1:Nat):Int)+1)=3-(r:Int) by omega];exact h1) h.1.1 h.1.2 h.2.1.1 h.2.1.2 h.2.2.1 w4 w4
  rw[←Tw.Jy] at this;exact this
theorem aeK(t:Tw)(h:t.Ok):VC Tryz.prog G 19 [.agg t.cs] [] (wR (ir 3 t)):=by
 refine VC.body func19 rfl ntmps19 aO fun X0 w0 aY=>?_;obtain⟨k,n,s,ts⟩:=t;have E:=SY (G:=G) 3 (Nat.le_refl _) (.mk k n s ts) h;unfold Tw.cs at E ⊢;refine cf ?_;refine OD.box (ds:=[_,_,_,_]) ap rfl rfl ot rfl rfl (fun b1=>?_);refine an 5 [1] ?_;refine aC 1 ?_;refine OD.call ap rfl rfl rfl call32 (E) ⟨ot,bI,trivial⟩ (eO _) ?_;rintro _ O ⟨U,Z,rfl,I⟩;refine OD.perm ee ?_;refine an 5 [2] ?_;refine aI O ?_;exact gd.mk I
theorem SZ(t:Tw)(h:t.Ok):VP Tryz.prog G 19 [.agg t.cs] (.list 5 ((ir 3 t).flatMap cO) (ir 3 t).length):=(aeK t h).wv mR

def runs:Int→List aU→Option Int
 | h,[]=>some h
 | h,o::r=>if fa h o=0 then runs (h+(1-bP o.k)) r else none
theorem x7:∀(a b:List aU) (h:Int),runs h (a++b)=(runs h a).bind fun h'=>runs h' b
 | [],b,h=>rfl
 | o::r,b,h=>by
  rw[cons_append,runs,runs];split
  ·exact x7 r b _
  rfl
theorem N2:∀{a:List aU} {h h':Int} (b:List aU),runs h a=some h'→fG h (a++b)=fG h' b
 | [],h,h',b,e=>by cases e;rfl
 | o::r,h,h',b,e=>by
  rw[runs] at e;split at e
  ·rename_i h0;rw[cons_append,fG,if_pos h0];exact N2 b e
  cases e
theorem acY:((⟨#[]⟩:ByteArray).toList==(⟨#[]⟩:ByteArray).toList)=true:=by simp
theorem Oz:zeroV bD=true:=by unfold zeroV bD;simp
theorem P0:iO bD=0:=by decide
theorem abc(n:Int)(s:ByteArray):iO (tE n s)=0:=by
 have h1:=j4 n (by decide:(1:Int)≤40);have h2:=j4 (ei n 40-20) (by decide:(1:Int)≤2);have hc:(nB (nB s 10) 4).size≤4:=(by rw[HF];omega)
 have he:nB (⟨#[]⟩:ByteArray) 4=ByteArray.empty:=IN (by rw[Oo];rfl);unfold iO tE ph;split
 ·simp[dP,he];omega
 split
 ·simp[dP,he];omega
 split
 ·simp[dP];omega
 unfold bD;simp[dP,he]
theorem RB(h0:0≤h)(n:Int)(s:ByteArray):fa h (rS n s)=0:=by
 unfold fa rS;rw[abc];simp[bP];omega
theorem abd(j:Int):cQ (rT j)=0:=by
 unfold rT;split
 ·exact sQ (l:=[105,100]) w7 w7 w7
 split
 ·exact sQ (l:=[110]) w7 w7 w7
 split
 ·exact sQ (l:=[115]) w7 w7 w7
 exact sQ (l:=[98]) w7 w7 w7
theorem RC(h0:0≤h)(n:Int):fa h (wj n)=0:=by
 unfold fa wj;rw[P0,Oz,abd];simp[bP];omega
theorem P1{k:Int}(h1:3≤k)(h2:k≤11)(E:bP k≤h):fa h (qM k)=0:=by
 unfold fa qM;simp only[P0,Oz,acY];rw[if_neg w4,if_neg bu,if_neg bu,if_neg w4,if_neg w4]
theorem OA(h0:0≤h)(k n:Int)(s:ByteArray):runs h (mq k n s)=some (h+1):=by
 unfold mq;split
 ·rw[runs,if_pos (RC h0 n),runs];rfl
 rw[runs,if_pos (RB h0 n s),runs];rfl
theorem P2:∀(r:Nat) (t:Tw) (h:Int),0≤h→runs h (ir r t)=some (h+1)
 | 0,.mk k n s ts,h,h0=>OA h0 k n s
 | r+1,.mk k n s ts,h,h0=>by
  have E:∀(i:Nat) (h:Int),0≤h→runs h (gz r ts n s i)=some (h+1):=fun i h h0=>by
   unfold gz;split
   ·exact P2 r _ h h0
   exact OA h0 _ _ _
  have hk:=j4 k (by decide:(1:Int)≤11);rw[vN];split
  ·rw[runs,if_pos (RB h0 n s),runs];rfl
  split
  ·rw[runs,if_pos (RC h0 n),runs];rfl
  split
  ·rename_i h3;rw[x7,E 0 h h0,Option.bind_some,runs,if_pos (P1 w4 w4 (by unfold bP;rw[if_neg w4,if_pos h3];omega)),runs];unfold qM bP;rw[if_neg (by simp only[];omega),if_pos h3];simp
  rename_i h3;rw[x7,x7,E 0 h h0,Option.bind_some,E 1 (h+1) w4,Option.bind_some,runs,if_pos (P1 w4 w4 (by unfold bP;rw[if_neg w4,if_neg h3];omega)),runs];unfold qM bP;rw[if_neg (by simp only[];omega),if_neg h3];congr 1;omega
theorem OB(t:Tw):1≤(ir 3 t).length∧(ir 3 t).length≤15:=by
 have:=IZ 3 t;omega
theorem OC(t:Tw):iM (ir 3 t)=0:=by
 unfold iM;rw[if_neg (by have:=OB t;omega)];have:=N2 [] (P2 3 t 0 (Int.le_refl _));rw[append_nil] at this;rw[this];rfl
theorem abe(t:Tw):∀o∈ir 3 t,o.nm.size≤2:=by
 have hn:∀j:Int,(rT j).size≤2:=fun j=>by
  unfold rT;split
  ·decide
  split
  ·decide
  split<;>decide
 have E:∀k n s,∀o∈mq k n s,o.nm.size≤2:=fun k n s o ho=>by
  unfold mq at ho;split at ho<;>(simp only[mem_singleton] at ho;subst ho)
  ·exact hn _
  exact Nat.zero_le _
 have key:∀(r:Nat) (t:Tw),∀o∈ir r t,o.nm.size≤2:=by
  intro r;induction r with
  | zero=>intro t;obtain⟨k,n,s,ts⟩:=t;exact E k n s
  | succ r ih =>
   intro t o ho;obtain⟨k,n,s,ts⟩:=t;have I:∀i:Nat,∀o∈gz r ts n s i,o.nm.size≤2:=fun i o ho=>by
    unfold gz at ho;split at ho
    ·exact ih _ o ho
    exact E _ _ _ o ho
   have hb:∀k,(qM k).nm.size≤2:=fun k=>Nat.zero_le _;rw[vN] at ho;split at ho
   ·simp only[mem_singleton] at ho;subst ho;exact Nat.zero_le _
   split at ho
   ·simp only[mem_singleton] at ho;subst ho;exact hn _
   split at ho
   ·rcases mem_append.1 ho with ho|ho
    ·exact I 0 o ho
    simp only[mem_singleton] at ho;subst ho;exact hb _
   rcases mem_append.1 ho with ho|ho
   ·rcases mem_append.1 ho with ho|ho
    ·exact I 0 o ho
    exact I 1 o ho
   simp only[mem_singleton] at ho;subst ho;exact hb _
 exact key 3 t
theorem abf{l:List aU}(h:∀o∈l,o.nm.size≤2):∀o∈l,o.nm.size≤maxLen:=fun o ho=>Nat.le_trans (h o ho) w7
theorem P3{H:Type}{enc:TypeId×Value→H}{w:World}{base:Nat}{sp:Nat→Bool}{held:Bool}:∀n,l7 n enc Tryz.prog w base sp held 62 Tw.cs Tw.Ok:=by
 intro n;induction n using Nat.strongRecOn with
 | _ n ih =>
  intro cs x h;obtain⟨⟨k,m,s,ts⟩,h1,h2,h3,h4,h5⟩:=Yx (fuel:=n) (n0:=1) (n1:=1) (n2:=1) (n3:=1) underlying62 aA rfl rfl rfl rfl aA aA aA aA
   (fun q _=>(uG underlying3).at q) (fun q _=>(uG underlying3).at q) (fun q _=>(Oh underlying9).at q) (fun q hq=>Om (sz:=4) underlying60 aA w7 (fun z hz=>ih z w4) Tw.EZ) cs x h
  refine⟨.mk k m s ts,?_,h2,h3,h4,h5.2,Tw.Rx h5.1⟩;unfold Tw.cs;rw[Tw.Jy];exact h1

end Go.Proofs.YtdgichenhdikgaaGreatDoor.Nm
