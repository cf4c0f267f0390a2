/-
  What the proof of SelectTrue leans on, part 4 of 9: walks of the program's functions at the level of values, and plain facts of what they compute.
-/
import Derived.Test.YtdgichenhdikgaaGreatDoorPSelectTrue3
set_option linter.unusedVariables false
set_option linter.unusedSimpArgs false
set_option maxRecDepth 100000
set_option maxHeartbeats 4000000
namespace Go.Proofs.YtdgichenhdikgaaGreatDoor.V
open List
open Go.RowKit V
instance ik3:Ik Tryz.prog 3 .i64:=⟨by kernel_rfl⟩
instance apR:Sl Tryz.prog 22 14:=⟨by kernel_rfl⟩
instance apS:Sl Tryz.prog 23 5:=⟨by kernel_rfl⟩
instance apl:tv Tryz.prog 23 5:=⟨by kernel_rfl⟩
instance aoz:Fo Tryz.prog 25 0 0:=⟨by kernel_rfl⟩
instance apT:Sz Tryz.prog 25 1:=⟨by kernel_rfl⟩
instance apU:Sb Tryz.prog 25 [.slice none 0 0] [(0,1)]:=⟨by kernel_rfl,by kernel_rfl⟩
instance apV:Sl Tryz.prog 27 2:=⟨by kernel_rfl⟩
instance apW:Sl Tryz.prog 28 3:=⟨by kernel_rfl⟩
instance apm:tv Tryz.prog 28 3:=⟨by kernel_rfl⟩
instance apX:Sl Tryz.prog 29 1:=⟨by kernel_rfl⟩
instance apn:tv Tryz.prog 29 1:=⟨by kernel_rfl⟩
instance apY:Sl Tryz.prog 30 5:=⟨by kernel_rfl⟩
instance aoA:Fo Tryz.prog 32 0 0:=⟨by kernel_rfl⟩
instance aoB:Fo Tryz.prog 32 1 1:=⟨by kernel_rfl⟩
instance aoC:Fo Tryz.prog 32 2 2:=⟨by kernel_rfl⟩
instance aoD:Fo Tryz.prog 32 3 3:=⟨by kernel_rfl⟩
instance aoE:Fo Tryz.prog 32 4 4:=⟨by kernel_rfl⟩
instance aoF:Fo Tryz.prog 32 5 5:=⟨by kernel_rfl⟩
instance aoG:Fo Tryz.prog 32 6 6:=⟨by kernel_rfl⟩
instance aoH:Fo Tryz.prog 32 7 7:=⟨by kernel_rfl⟩
instance aoI:Fo Tryz.prog 32 8 8:=⟨by kernel_rfl⟩
instance aoJ:Fo Tryz.prog 32 9 9:=⟨by kernel_rfl⟩
instance aof:Fo Tryz.prog 32 10 10:=⟨by kernel_rfl⟩
instance aog:Fo Tryz.prog 32 11 11:=⟨by kernel_rfl⟩
instance apZ:Sz Tryz.prog 32 12:=⟨by kernel_rfl⟩
instance ap0:Sb Tryz.prog 32 [.int .i64 0,.string ⟨#[]⟩,.slice none 0 0,.slice none 0 0,.slice none 0 0,.bool false,.slice none 0 0,.string ⟨#[]⟩,.bool false,.int .i64 0,.string ⟨#[]⟩,.slice none 0 0] [(0,1),(1,1),(2,1),(3,1),(4,1),(5,1),(6,1),(7,1),(8,1),(9,1),(10,1),(11,1)]:=⟨by kernel_rfl,by kernel_rfl⟩
instance ap1:Sl Tryz.prog 34 1:=⟨by kernel_rfl⟩
instance aoK:Fo Tryz.prog 36 0 0:=⟨by kernel_rfl⟩
instance aoL:Fo Tryz.prog 36 1 1:=⟨by kernel_rfl⟩
instance ap2:Sz Tryz.prog 36 2:=⟨by kernel_rfl⟩
instance ap3:Sb Tryz.prog 36 [.slice none 0 0,.int .i64 0] [(0,1),(1,1)]:=⟨by kernel_rfl,by kernel_rfl⟩
instance aoM:Fo Tryz.prog 41 0 0:=⟨by kernel_rfl⟩
instance aoN:Fo Tryz.prog 41 1 1:=⟨by kernel_rfl⟩
instance aoO:Fo Tryz.prog 41 2 2:=⟨by kernel_rfl⟩
instance ap4:Sz Tryz.prog 41 3:=⟨by kernel_rfl⟩
instance ap5:Sb Tryz.prog 41 [.int .i64 0,.int .i64 0,.string ⟨#[]⟩] [(0,1),(1,1),(2,1)]:=⟨by kernel_rfl,by kernel_rfl⟩
instance aoP:Fo Tryz.prog 43 0 0:=⟨by kernel_rfl⟩
instance aoQ:Fo Tryz.prog 43 1 1:=⟨by kernel_rfl⟩
instance aoR:Fo Tryz.prog 43 2 4:=⟨by kernel_rfl⟩
instance ap6:Sz Tryz.prog 43 5:=⟨by kernel_rfl⟩
instance ap7:Sb Tryz.prog 43 [.int .i64 0,.int .i64 0,.int .i64 0,.string ⟨#[]⟩,.string ⟨#[]⟩] [(0,1),(1,3),(4,1)]:=⟨by kernel_rfl,by kernel_rfl⟩
instance ap8:Sl Tryz.prog 49 5:=⟨by kernel_rfl⟩
instance aoS:Fo Tryz.prog 51 0 0:=⟨by kernel_rfl⟩
instance aoT:Fo Tryz.prog 51 1 1:=⟨by kernel_rfl⟩
instance ap9:Sz Tryz.prog 51 2:=⟨by kernel_rfl⟩
instance aqa:Sb Tryz.prog 51 [.slice none 0 0,.int .i64 0] [(0,1),(1,1)]:=⟨by kernel_rfl,by kernel_rfl⟩
instance aoU:Fo Tryz.prog 53 0 0:=⟨by kernel_rfl⟩
instance aoV:Fo Tryz.prog 53 1 1:=⟨by kernel_rfl⟩
instance aoW:Fo Tryz.prog 53 2 2:=⟨by kernel_rfl⟩
instance aoX:Fo Tryz.prog 53 3 3:=⟨by kernel_rfl⟩
instance aqb:Sz Tryz.prog 53 5:=⟨by kernel_rfl⟩
instance aqc:Sb Tryz.prog 53 [.string ⟨#[]⟩,.slice none 0 0,.slice none 0 0,.slice none 0 0,.int .i64 0] [(0,1),(1,1),(2,1),(3,2)]:=⟨by kernel_rfl,by kernel_rfl⟩
instance aoY:Fo Tryz.prog 62 0 0:=⟨by kernel_rfl⟩
instance aoZ:Fo Tryz.prog 62 1 1:=⟨by kernel_rfl⟩
instance ao0:Fo Tryz.prog 62 2 2:=⟨by kernel_rfl⟩
instance ao1:Fo Tryz.prog 62 3 3:=⟨by kernel_rfl⟩
instance aqd:Sz Tryz.prog 62 4:=⟨by kernel_rfl⟩
instance aqe:Sb Tryz.prog 62 [.int .i64 0,.int .i64 0,.string ⟨#[]⟩,.slice none 0 0] [(0,1),(1,1),(2,1),(3,1)]:=⟨by kernel_rfl,by kernel_rfl⟩
instance aqf:Sl Tryz.prog 67 1:=⟨by kernel_rfl⟩
instance apo:tv Tryz.prog 67 1:=⟨by kernel_rfl⟩
instance ao2:Fo Tryz.prog 69 0 0:=⟨by kernel_rfl⟩
instance ao3:Fo Tryz.prog 69 1 1:=⟨by kernel_rfl⟩
instance aqg:Sz Tryz.prog 69 2:=⟨by kernel_rfl⟩
instance aqh:Sb Tryz.prog 69 [.string ⟨#[]⟩,.int .i64 0] [(0,1),(1,1)]:=⟨by kernel_rfl,by kernel_rfl⟩
instance ao4:Fo Tryz.prog 77 1 1:=⟨by kernel_rfl⟩
instance ao5:Fo Tryz.prog 77 2 2:=⟨by kernel_rfl⟩
instance ao6:Fo Tryz.prog 77 3 3:=⟨by kernel_rfl⟩
instance ao7:Fo Tryz.prog 77 4 4:=⟨by kernel_rfl⟩
instance ao8:Fo Tryz.prog 77 5 5:=⟨by kernel_rfl⟩
instance ao9:Fo Tryz.prog 77 6 9:=⟨by kernel_rfl⟩
instance apa:Fo Tryz.prog 77 7 13:=⟨by kernel_rfl⟩
instance aqi:Sz Tryz.prog 77 14:=⟨by kernel_rfl⟩
instance aqj:Sb Tryz.prog 77 [.int .i64 0,.int .i64 0,.int .i64 0,.int .i64 0,.slice none 0 0,.int .i64 0,.int .i64 0,.string ⟨#[]⟩,.slice none 0 0,.int .i64 0,.int .i64 0,.string ⟨#[]⟩,.slice none 0 0,.bool false] [(0,1),(1,1),(2,1),(3,1),(4,1),(5,4),(9,4),(13,1)]:=⟨by kernel_rfl,by kernel_rfl⟩
instance aqk:Sl Tryz.prog 85 2:=⟨by kernel_rfl⟩
instance apb:Fo Tryz.prog 90 1 1:=⟨by kernel_rfl⟩
instance aql:Sz Tryz.prog 90 2:=⟨by kernel_rfl⟩
instance apq:tv Tryz.prog 98 3:=⟨by kernel_rfl⟩
instance aoh:Fo Tryz.prog 114 0 0:=⟨by kernel_rfl⟩
instance aoi:Fo Tryz.prog 114 1 1:=⟨by kernel_rfl⟩
instance aoj:Fo Tryz.prog 114 2 2:=⟨by kernel_rfl⟩
instance apr:Sz Tryz.prog 114 3:=⟨by kernel_rfl⟩
instance aps:Sb Tryz.prog 114 [.int .i64 0,.int .i64 0,.string ⟨#[]⟩] [(0,1),(1,1),(2,1)]:=⟨by kernel_rfl,by kernel_rfl⟩
instance apt:Sl Tryz.prog 130 1:=⟨by kernel_rfl⟩
instance apc:tv Tryz.prog 130 1:=⟨by kernel_rfl⟩
instance aok:Fo Tryz.prog 137 0 0:=⟨by kernel_rfl⟩
instance aol:Fo Tryz.prog 137 1 1:=⟨by kernel_rfl⟩
instance aom:Fo Tryz.prog 137 2 2:=⟨by kernel_rfl⟩
instance apu:Sz Tryz.prog 137 3:=⟨by kernel_rfl⟩
instance apv:Sb Tryz.prog 137 [.int .i64 0,.string ⟨#[]⟩,.int .i64 0] [(0,1),(1,1),(2,1)]:=⟨by kernel_rfl,by kernel_rfl⟩
instance apw:Sl Tryz.prog 151 1:=⟨by kernel_rfl⟩
instance aon:Fo Tryz.prog 153 0 0:=⟨by kernel_rfl⟩
instance aoo:Fo Tryz.prog 153 1 1:=⟨by kernel_rfl⟩
instance aop:Fo Tryz.prog 153 2 2:=⟨by kernel_rfl⟩
instance aoq:Fo Tryz.prog 153 3 3:=⟨by kernel_rfl⟩
instance aor:Fo Tryz.prog 153 4 4:=⟨by kernel_rfl⟩
instance apx:Sz Tryz.prog 153 5:=⟨by kernel_rfl⟩
instance apy:Sb Tryz.prog 153 [.bool false,.slice none 0 0,.slice none 0 0,.slice none 0 0,.int .i64 0] [(0,1),(1,1),(2,1),(3,1),(4,1)]:=⟨by kernel_rfl,by kernel_rfl⟩
instance apz:Sl Tryz.prog 157 1:=⟨by kernel_rfl⟩
instance aos:Fo Tryz.prog 159 0 0:=⟨by kernel_rfl⟩
instance aot:Fo Tryz.prog 159 1 2:=⟨by kernel_rfl⟩
instance aou:Fo Tryz.prog 159 2 3:=⟨by kernel_rfl⟩
instance apA:Sz Tryz.prog 159 4:=⟨by kernel_rfl⟩
instance apB:Sb Tryz.prog 159 [.slice none 0 0,.int .i64 0,.map none,.slice none 0 0] [(0,2),(2,1),(3,1)]:=⟨by kernel_rfl,by kernel_rfl⟩
instance apC:Sz Tryz.prog 203 0:=⟨by kernel_rfl⟩
instance apD:Sb Tryz.prog 203 [] []:=⟨by kernel_rfl,by kernel_rfl⟩
instance apE:Ik Tryz.prog 213 .u64:=⟨by kernel_rfl⟩
instance aov:Fo Tryz.prog 225 0 0:=⟨by kernel_rfl⟩
instance aow:Fo Tryz.prog 225 1 1:=⟨by kernel_rfl⟩
instance apF:Sz Tryz.prog 225 2:=⟨by kernel_rfl⟩
instance apG:Sb Tryz.prog 225 [.slice none 0 0,.slice none 0 0] [(0,1),(1,1)]:=⟨by kernel_rfl,by kernel_rfl⟩

end Go.Proofs.YtdgichenhdikgaaGreatDoor.V
namespace Go.Proofs.YtdgichenhdikgaaGreatDoor.Nm
open List
open Go.Proofs.Tryz
open Go.RowKit V
variable {k:Nat}
def wordsB:List (List UInt8):=[[67,82,69,65,84,69],[84,65,66,76,69],[68,82,79,80],[73,78,83,69,82,84],[73,78,84,79],[86,65,76,85,69,83],[83,69,76,69,67,84],[67,79,85,78,84],[70,82,79,77],[87,72,69,82,69],[79,82,68,69,82],[66,89],[68,69,83,67],[76,73,77,73,84],[85,80,68,65,84,69],[83,69,84],[68,69,76,69,84,69],[66,69,71,73,78],[67,79,77,77,73,84],[82,79,76,76,66,65,67,75],[65,78,68],[79,82],[78,79,84],[73,83],[78,85,76,76],[84,82,85,69],[70,65,76,83,69],[73,78,84],[84,69,88,84],[66,79,79,76]]
def marksB:List (List UInt8):=[[60,61],[62,61],[60,62],[40],[41],[44],[42],[43],[45],[61],[60],[62]]
def u9:List ByteArray:=wordsB.map fun b=>⟨b.toArray⟩
def Ft:List ByteArray:=marksB.map fun b=>⟨b.toArray⟩
def wordsC:List Value:=u9.map .string
def marksC:List Value:=Ft.map .string
def wC(c:UInt8):Bool:=decide ((97≤c.toNat∧c.toNat≤122)∨(65≤c.toNat∧c.toNat≤90)∨c.toNat=95)
def Fu(c:UInt8):Bool:=decide (48≤c.toNat∧c.toNat≤57)
def wU(c:UInt8):Bool:=wC c||Fu c
def FW(p:UInt8→Bool)(s:ByteArray):Nat:=(s.data.toList.takeWhile p).length
theorem Ux(p:UInt8→Bool):∀(l:List UInt8) (k:Nat),k≤l.length→(∀x∈l.take k,p x=true)→(∀h:k<l.length,p l[k]=false)→(l.takeWhile p).length=k
 | [],k,h,_,_=>by simp at h;subst h;rfl
 | a::r,0,_,_,h=>by
  have:p a=false:=h bn;rw[takeWhile_cons];simp[this]
 | a::r,k+1,h1,h2,h3=>by
  have ha:p a=true:=h2 a bn;rw[takeWhile_cons,if_pos ha,length_cons,Ux p r k (by simpa using h1) (fun x hx=>h2 x (by rw[take_succ_cons];exact mem_cons_of_mem _ hx)) (fun h=>by have:=h3 nf;simpa using this)]
theorem E3{p:UInt8→Bool}{s:ByteArray}(hk:k≤s.size)(h0:∀x∈s.data.toList.take k,p x=true)(h1:k<s.size→p (mq s k)=false):FW p s=k :=
 Ux p _ k (by rw[kO];exact hk) h0 fun h=>by rw[Ia h];exact h1 (by rw[kO] at h;exact h)
structure Tk where
 k:Int
 s:ByteArray
 n:Int
def cT(t:Tk):List D:=[ae t.k,bj t.s,ae t.n]
theorem iJ(t:Tk):(cT t).length=3:=rfl
def oC(s:ByteArray):Bool:=!decide (s.size=0)&&wC (mq s 0)&&((FW wU s:Int)==(s.size:Int))
def uc(t:Tk):Int :=
 if t.k=1 then (if (decide (t.n=0)&&oC t.s)=true then 0 else 6)
 else if t.k=2 then (if t.n<0 then 3 else if t.s.size=0 then 0 else 6)
 else if t.k=3 then (if t.n=0 then 0 else 6)
 else if t.k=4 then (if (decide (t.n=0)&&Ft.any (ja t.s))=true then 0 else 6)
 else 2
def cG(s:ByteArray):Int:=if s.size>8 then 1 else if (!(oC s)||u9.any (ja s))=true then 6 else 0
theorem OV(s:ByteArray):uc ⟨1,s,0⟩=if oC s=true then 0 else 6:=by
 unfold uc;rw[if_pos rfl];simp
variable {G:List (Nat×List Value)}
theorem PF(c:UInt8):VP Tryz.prog G 138 [.v (.int .u8 ((c).toNat:Int))] (bJ (wC c)):=by
 refine VC.body func138 rfl ntmps138 aO fun X0 w0 bg=>?_;refine af [0] ?_;refine aB 3 ?_;refine bP 5 (fun Z O=>?_) (fun Z O=>?_)
 ·refine aF 4 ?_;refine bP 9 (fun NB U=>?_) (fun NB U=>?_)
  ·exact G4
  refine aF 3 ?_;refine bP 12 (fun I E=>?_) (fun I E=>?_)
  ·exact z143
  exact G4
 refine aF 7 ?_;refine bP 12 (fun I E=>?_) (fun I E=>?_)
 ·exact z143
 refine bq [2] ?_;refine eJ ?_;refine⟨vb ?_,rfl⟩;rw[Bool.eq_iff_iff];simp[wC];first|done|omega
theorem acN(c:UInt8):VP Tryz.prog G 141 [.v (.int .u8 ((c).toNat:Int))] (bJ (Fu c)):=by
 refine VC.body func141 rfl ntmps141 aO fun X0 w0 bg=>?_;refine af [0] ?_;refine aB 3 ?_;refine bP 5 (fun I E=>?_) (fun I E=>?_)
 ·refine bq [2] ?_;refine eJ ?_;refine⟨vb ?_,rfl⟩;rw[Bool.eq_iff_iff];simp[Fu];first|done|omega
 refine bq [2] ?_;refine eJ ?_;refine⟨vb ?_,rfl⟩;rw[Bool.eq_iff_iff];simp[Fu];first|done|omega
theorem QL(c:UInt8):VP Tryz.prog G 140 [.v (.int .u8 ((c).toNat:Int))] (bJ (wU c)):=by
 refine VC.body func140 rfl ntmps140 aO fun X0 w0 bg=>?_;refine af [0] ?_;refine aB 1 ?_;refine dP call138 (PF c) ?_;refine aF 1 ?_;refine bP 5 (fun I E=>?_) (fun I E=>?_)
 ·refine an 9 [2] ?_;refine aI [] ?_;exact⟨vb (by simp[wU, *]),rfl⟩
 refine aF 1 ?_;refine OD.gZ iq rfl rfl rfl call141 (acN c) ⟨ot,trivial⟩ ?_;refine an 9 [2] ?_;refine aI [] ?_;exact⟨vb (by simp[wU, *]),rfl⟩
theorem SH(s:ByteArray)(g:Nat)(p:UInt8→Bool)(fg:∀args w,(callFunc g args).run Tryz.prog w = .ok (.enter g args) w)(hp:∀c,VP Tryz.prog G g [.v (.int .u8 ((c).toNat:Int))] (bJ (p c)))(hs:s.size≤maxLen):VP Tryz.prog G 139 [bj s,.ew (.func g) []] (ae (FW p s)):=by
 refine VC.body func139 rfl ntmps139 aO fun X0 w0 bg=>?_;simp only[maxLen] at hs;refine af [0,1] ?_;refine af [0,1,5] ?_;refine eA [0,1] (fun aX _ (k:Nat) aG=>(k≤s.size)∧(∀x∈s.data.toList.take k,p x=true)∧aG=(⟨20,(5,ae (k:Nat))::aX,[]⟩:St)) (fun (k:Nat)=>s.size-k) 0 ⟨(Nat.zero_le _),bn,rfl⟩ ?_;rintro k _ ⟨hk,h0,rfl⟩;refine aB 5 ?_;refine bP 10 (fun I E=>?_) (fun I E=>?_)
 ·have O:k<s.size:=(by omega)
  have xU:s[k]?=some (mq s k):=Ko O;refine aF 3 ?_;refine OD.still iq rfl (H8 rfl ot ot runUnderlying9 rfl (by first|assumption|rfl)) ?_;refine OD.kx (f:=g) (args:=[_]) (all:=[_]) iq rfl rfl ot fg (hp (mq s k)) rfl ⟨ot,trivial⟩ (eV _) ?_;rintro _ S2 ⟨rfl,rfl⟩;refine an 20 [0,1,5,16] ?_;refine aq ?_ ?_<;>intro aP bC
  ·refine cc [0,1,5] ?_;refine⟨(k+1),_,cq,aK,w4,(yO (by rw[kO];exact O) h0 (by rw[Ia];assumption)),rfl⟩
  refine af [4] ?_;refine aI [] ?_;refine⟨vi ?_,rfl⟩;first|(rw[E3 hk h0 (fun h=>by omega)];done)|(rw[E3 hk h0 (fun h=>by assumption)];done)
 refine bq [0,1,5,16] ?_;refine fJ ?_;refine af [4] ?_;refine eJ ?_;refine⟨vi ?_,rfl⟩;first|(rw[E3 hk h0 (fun h=>by omega)];done)|(rw[E3 hk h0 (fun h=>by assumption)];done)
theorem acO(E:List ByteArray)(s:ByteArray)(hlen:E.length≤maxLen):VP Tryz.prog G 142 [av 1 cS E,bj s] (ae (cU (ja s) E)):=by
 refine VC.body func142 rfl ntmps142 aO fun X0 w0 bg=>?_;simp only[maxLen] at hlen;refine af [0,1] ?_;refine af [0,1,7,8] ?_;refine eA [0,1,7] (fun aX _ (k:Nat) aG=>(k≤E.length)∧(∀x∈E.take k,ja s x=false)∧aG=(⟨19,(8,ae (k:Nat))::aX,[]⟩:St)) (fun (k:Nat)=>E.length-k) 0 ⟨(Nat.zero_le _),bn,rfl⟩ ?_;rintro k _ ⟨hk,h0,rfl⟩;refine af [0,1,7,8,9] ?_;refine aq ?_ ?_<;>intro aP bC
 ·have aa:k<E.length:=(by omega)
  refine af [0,1,5,7,8] ?_;refine af [0,1,5,7,8,16] ?_;refine aq ?_ ?_<;>intro aZ cr
  ·refine af [4] ?_;refine aI [] ?_;refine⟨vi ?_,rfl⟩;first|(rw[wo w4 h0 aZ];done)|(rw[wc w4 h0];done)
  refine cc [0,1,7,8] ?_;refine⟨(k+1),_,cq,aK,w4,(yO w4 h0 aZ),rfl⟩
 refine af [4] ?_;refine aI [] ?_;refine⟨vi ?_,rfl⟩;first|(rw[wo w4 h0 aZ];done)|(rw[wc w4 h0];done)
theorem OO(E:List ByteArray)(s:ByteArray)(hlen:E.length≤maxLen):VP Tryz.prog G 109 [av 1 cS E,bj s] (bJ (E.any (ja s))):=by
 refine VC.body func109 rfl ntmps109 aO fun X0 w0 bg=>?_;refine af [0,1] ?_;refine cz [4] (acO E s hlen) ?_;refine aI [] ?_;exact⟨vb QW,rfl⟩
theorem pL(hm:(3,marksC)∈G)(t:Tk)(hs:t.s.size≤maxLen):VP Tryz.prog G 108 [.agg (cT t)] (ae (uc t)):=by
 refine VC.body func108 rfl ntmps108 aO fun X0 w0 bg=>?_;unfold cT;refine bU ?_;refine OD.box (ds:=[_,_,_]) ap rfl rfl ot rfl rfl (fun b1=>?_);refine an 53 [1] ?_;refine af [1,3] ?_;refine af [1,3,8] ?_;refine af [1,3,8,9] ?_;refine aq ?_ ?_<;>intro aP bC
 ·refine gJ 21 (au _) ?_ (fun _ h=>h);refine aC 0 rfl bF ?_;refine aC 1 rfl bF ?_;refine dH.split (t:=12) lk (fun U=>?_) (fun U=>?_)
  ·have E:=U;(try simp only[V.nJ,ne_eq] at E)
   refine aC 2 rfl (dF 1) ?_;refine aC 3 rfl (dI 0) ?_;refine aC 4 rfl nj ?_;refine aC 5 rfl xu ?_;refine aC 6 rfl bF ?_;refine dH.split (t:=17) lk (fun xq=>?_) (fun xq=>?_)
   ·have wT:=xq;(try simp only[V.nJ,ne_eq] at wT)
    refine aC 7 rfl (dF 1) ?_;refine aC 8 rfl (dI 0) ?_;refine aC 9 rfl (H8 (c:=mq t.s 0) rfl ot bV runUnderlying9 rfl (Ko (af8 uB))) ?_;refine dH.later rfl ?_;refine AD.one (i:=10) az ?_;refine bz.gZ rfl iq rfl rfl rfl call138 (PF _) ⟨ot,trivial⟩ ?_;refine cy 11 rfl xu ?_;refine cy 12 rfl bF ?_;refine AD.split (t:=23) lk (fun Z=>?_) (fun Z=>?_)
    ·have I:=Z;(try simp only[V.nJ,ne_eq] at I)
     refine cy 13 rfl (dF 1) ?_;refine cy 16 rfl (dF 1) ?_;refine AD.two (i:=14) (j:=17) az ?_ ?_
     ·refine at_ rfl (dI 0) ?_;refine AD.two (i:=15) (j:=17) az ?_ ?_
      ·refine bz.gZ rfl iq rfl rfl rfl call139 (SH t.s 140 wU call140 QL hs) ⟨ot,tI,trivial⟩ ?_;refine AD.one (i:=17) az ?_;refine at_ rfl (dI 0) ?_;refine cy 18 rfl (D7 rfl rfl ot runUnderlying9) ?_;refine cy 19 rfl nj ?_;refine cy 20 rfl xu ?_;exact Lr
      refine at_ rfl (dI 0) ?_;refine cy 18 rfl (D7 rfl rfl ot runUnderlying9) ?_;exact z148
     refine at_ rfl (dI 0) ?_;refine cy 18 rfl (D7 rfl rfl ot runUnderlying9) ?_;refine AD.one (i:=14) az ?_;refine at_ rfl (dI 0) ?_;exact z148
    have I:=Z;(try simp only[V.nJ,ne_eq] at I)
    exact W6
   have wT:=xq;(try simp only[V.nJ,ne_eq] at wT)
   exact V1
  have E:=U;(try simp only[V.nJ,ne_eq] at E)
  refine mA 2 rfl ?_;refine mA 3 rfl ?_;refine mA 4 rfl ?_;refine aC 5 rfl vr ?_;refine aC 6 rfl bF ?_;exact V1
 refine af [1,3,8,32] ?_;refine aq ?_ ?_<;>intro aZ cr
 ·refine af [1,36] ?_;refine aq ?_ ?_<;>intro bX cA
  ·refine af [2] ?_;refine aI [] ?_;exact MT
  refine cc [3] ?_;exact V3
 refine af [1,3,8,40] ?_;refine aq ?_ ?_<;>intro cN dW
 ·exact V3
 refine af [1,3,42] ?_;refine aq ?_ ?_<;>intro ec fh
 ·refine gJ 7 (au _) ?_ (fun _ h=>h);refine aC 0 rfl bF ?_;refine aC 1 rfl bF ?_;refine dH.split (t:=45) lk (fun LH=>?_) (fun LH=>?_)
  ·have O:=LH;(try simp only[V.nJ,ne_eq] at O)
   refine aC 2 rfl (eB (l:=0) (h:=0) rfl wq trivial trivial (by first|exact SX (ls:=Ft) (g:=cS) hm rfl rfl runUnderlying211 sizeOf9 rfl w8 w8)) ?_;refine aC 3 rfl (dF 1) ?_;refine aC 4 rfl (dI 0) ?_;refine dH.later rfl ?_;refine AD.one (i:=5) az ?_;refine bz.gZ rfl iq rfl rfl rfl call109 (OO Ft t.s w8) ⟨ot,ot,trivial⟩ ?_;refine cy 6 rfl xu ?_;exact Lr
  have O:=LH;(try simp only[V.nJ,ne_eq] at O)
  refine mA 2 rfl ?_;refine mA 3 rfl ?_;refine mA 4 rfl ?_;refine dH.later rfl ?_;refine AD.one (i:=5) az ?_;refine bz.skip rfl (mH rfl rfl rfl lk jn) rfl ?_;refine cy 6 rfl vr ?_;refine e9 ?_;refine bq [3] ?_;refine af [52] ?_;refine eD ?_;exact MS
 refine af [2] ?_;refine aI [] ?_;refine⟨vi ?_,rfl⟩;try simp only[u3] at *
 simp only[uc,oC];try simp_all
 try omega
theorem tT(hm:(3,marksC)∈G)(hw:(1,wordsC)∈G)(s:ByteArray)(hs:s.size≤maxLen):VP Tryz.prog G 64 [bj s] (ae (cG s)):=by
 refine VC.body func64 rfl ntmps64 aO fun X0 w0 bg=>?_;refine af [0] ?_;refine af [0,5] ?_;refine aq ?_ ?_<;>intro aP bC
 ·exact MY
 refine aB 2 ?_;refine dP call108 (pL hm ⟨1,s,0⟩ hs) ?_;refine aF 2 ?_;refine bP 10 (fun I E=>?_) (fun I E=>?_)
 ·refine an 15 [14] ?_;refine eD ?_;exact MY
 refine OD.still iq rfl (eB (l:=0) (h:=0) rfl wq trivial trivial (by first|exact SX (ls:=u9) (g:=cS) hw rfl rfl runUnderlying180 sizeOf9 rfl w8 w8)) ?_;refine aF 1 ?_;refine OD.gZ iq rfl rfl rfl call109 (OO u9 s w8) ⟨ot,ot,trivial⟩ ?_;refine an 15 [14] ?_;refine aq ?_ ?_<;>intro aZ cr
 ·exact MY
 refine af [2] ?_;refine aI [] ?_;refine⟨vi ?_,rfl⟩;try simp only[OV] at *
 simp only[cG];first|(rw[if_pos w4];done)|(rw[if_neg w4];cases h1:oC s<;>cases h2:u9.any (ja s)<;>simp_all)
def wb(c:UInt8):UInt8:=UInt8.ofNat (97+c.toNat % 26)
theorem agn(c:UInt8):(wb c).toNat=97+c.toNat % 26:=by
 have:c.toNat % 26<26:=Nat.mod_lt _ w8;unfold wb;rw[UInt8.toNat_ofNat'];exact Nat.mod_eq_of_lt w4
theorem aeB(c:UInt8):IntKind.u8.wrap (97+(c.toNat:Int).tmod 26)=((wb c).toNat:Int):=by
 rw[agn];have h1:(c.toNat:Int).tmod 26=((c.toNat % 26:Nat):Int):=rfl;have:c.toNat % 26<26:=Nat.mod_lt _ w8;rw[h1];have e:(97+((c.toNat % 26:Nat):Int))=((97+c.toNat % 26:Nat):Int):=(by omega)
 rw[e];show((97+c.toNat % 26:Nat):Int) % 256=_;omega
def zm(s:ByteArray):List UInt8:=if s.size=0 then [120] else (s.data.toList.take 6).map wb
def wR(s:ByteArray):ByteArray:=⟨(zm s).toArray⟩
theorem I4{s:ByteArray}(h:k<s.size):(s.data.toList.take k).map wb++[wb (mq s k)]=(s.data.toList.take (k+1)).map wb:=by
 have h':k<s.data.toList.length:=(by rw[kO];exact h)
 rw[take_succ_eq_append_getElem h',map_append,Ia h'];rfl
theorem QI{s:ByteArray}(hk:k≤s.size)(h:k=s.size∨6≤k)(h6:k≤6):(s.data.toList.take k)=s.data.toList.take 6:=by
 rcases h with h|h
 ·rw[take_of_length_le (by rw[kO];omega),take_of_length_le (by rw[kO];omega)]
 rw[show k=6 by omega]
theorem aa2:(Tryz.prog.info? 5).map (fun i=>(i.zero,i.size,i.bytes))=some (some (.int .u8 0),1,1):=by kernel_rfl
theorem ri(s:ByteArray)(hs:s.size≤maxLen):VP Tryz.prog G 17 [bj s] (bj (wR s)):=by
 refine VC.body func17 rfl ntmps17 aO fun X0 w0 bg=>?_;simp only[maxLen] at hs;refine af [0] ?_;refine bU ?_;refine bq [0,3] ?_;refine af [0,3,4] ?_;refine CD.block ?_;refine nl (fun (E:Nat×Option Addr×Nat×List ah) aG=>match E with|(k,O,U,Sb)=>(k≤s.size)∧(k≤6)∧(bp 5 1 (((s.data.toList.take k).map wb).flatMap cB) ((s.data.toList.take k).map wb).length O U Sb)∧aG=(⟨28,[(0,bj s),(3,aN O ((s.data.toList.take k).map wb).length U),(4,ae (k:Nat))],(Sb)⟩:St)) (fun (E:Nat×Option Addr×Nat×List ah)=>match E with|(k,O,U,Sb)=>s.size-k) (0,none,0,[]) ⟨(Nat.zero_le _),(Nat.zero_le _),(bp.cast iy jS),rfl⟩ (aK (h:=by repeat (first|exact trivial|refine⟨(by (repeat (first|exact fu|(apply fT;focus (first|rfl|(simp;done)|(congr 2;omega)|(apply eG;exact I4 Z)|(apply eG;simp;done)))|(apply fC;focus rfl)));done),?_⟩))) ?_;rintro⟨k,O,U,Sb⟩ _ ⟨hk,h6,pC,rfl⟩;refine aB 5 ?_;refine bP 9 (fun NB ajt=>?_) (fun NB ajt=>?_)
 ·refine bq [0,3,4,12] ?_;refine aq ?_ ?_<;>intro aP bC
  ·refine dK 2 ?_;have Z:k<s.size:=(by omega)
   have xU:s[k]?=some (mq s k):=Ko Z;refine aF 1 ?_;refine bN (H8 rfl ot ot runUnderlying9 rfl (by first|assumption|rfl)) ?_;refine bN (dz rfl ot bV (JD w4)) ?_;refine bN (dz (r:=.int .u8 ((wb (mq s k)).toNat:Int)) rfl bV ot (kr (aeB _))) ?_;refine en (cf 0 [_]) [.int .u8 0] [_] zeroValue5 runUnderlying88 sizeOf5 (fun C8=>?_);refine fA 0 21 1 1 ?_;refine OD.ey (ls:=((s.data.toList.take k).map wb)) (new:=[wb (mq s k)]) (Sq:=Sb) pO wM ap rfl rfl underlying88 aa2 rfl w8 ot pC (cZ (A:=[])) ot bn vK ij (fun NC I aju ajv=>?_);refine OD.perm (dV (S1:=[⟨NC,5,I*1,flatMap cB (((s.data.toList.take k).map wb)++[wb (mq s k)])⟩]) (A:=[])) ?_;refine an 28 [0,3,4] ?_;refine cc [0,3,4] ?_;refine⟨((k+1),(some ⟨NC,0,none⟩),I,[⟨NC,5,I*1,flatMap cB (((s.data.toList.take k).map wb)++[wb (mq s k)])⟩]),_,cq,(aK (h:=by repeat (first|exact trivial|refine⟨(by (repeat (first|exact fu|(apply fT;focus (first|rfl|(simp;done)|(congr 2;omega)|(apply eG;exact I4 Z)|(apply eG;simp;done)))|(apply fC;focus rfl)));done),?_⟩))),w4,w4,(bp.cast (bM aju ajv) (by exact I4 Z)),rfl⟩
  refine af [3,25] ?_;refine aq ?_ ?_<;>intro aZ cr
  ·refine af [2] ?_;refine eJ ?_;exact MX
  refine aB 1 ?_;refine OD.gP (t:=26) (Sq:=Sb) lk pC (cn pO _) (cZ (A:=[])) ?_;refine bN C0 ?_;refine an 28 [2] ?_;refine aI [] ?_;exact MX
 refine bq [0,3,4,12] ?_;refine fJ ?_;refine af [3,25] ?_;refine aq ?_ ?_<;>intro aZ cr
 ·refine af [2] ?_;refine eJ ?_;exact MX
 refine aB 1 ?_;refine OD.gP (t:=26) (Sq:=Sb) lk pC (cn pO _) (cZ (A:=[])) ?_;refine bN C0 ?_;refine an 28 [2] ?_;refine aI [] ?_;refine⟨vs ?_,rfl⟩;have Am:k=s.size∨6≤k:=(by omega)
 have Ll:min k s.size=k:=Nat.min_eq_left hk;simp only[length_map,length_take,kO,Ll] at *;unfold wR zm;first|(rw[if_pos w4];done)|(rw[if_neg w4,QI hk Am h6])
abbrev MarksTab(w:World):Prop:=Tab.mM w 3 marksC

end Go.Proofs.YtdgichenhdikgaaGreatDoor.Nm
namespace Go.Proofs.YtdgichenhdikgaaGreatDoor.Pk
open List
open Go.Proofs.Tryz
open Go.RowKit V
def dY(n m:Int):Int:=if n<0 then (-(n+1)).tmod m else n.tmod m
theorem jD(n:Int){m:Int}(h:1≤m):0≤dY n m∧dY n m<m:=by
 have key:∀k:Int,0≤k→0≤k.tmod m∧k.tmod m<m:=fun k hk=>⟨Int.tmod_nonneg _ hk,Int.tmod_lt_of_pos _ w4⟩
 unfold dY;split
 ·exact key _ w4
 exact key _ w4
variable (G:List (Nat×List Value))
theorem lu(n m:Int)(hn:-9223372036854775808≤n)(iR:n≤9223372036854775807)(hm:1≤m):VP Tryz.prog G 21 [ae n,ae m] (ae (dY n m)):=by
 refine VC.body func21 rfl ntmps21 aO fun X0 w0 bg=>?_;refine af [0,1] ?_;refine af [0,1,6] ?_;refine aq ?_ ?_<;>intro aP bC
 ·refine ik [0,1] ?_;refine aS 2 ?_ (h:=by exact(EF rfl ot (Km (r:=-(n+1)) (by rw[wrap_i64]<;>omega))));refine bI ?_;refine cL [4] ?_;refine aS 2 ?_ (h:=by exact(dz rfl ot ot (JD w4)));refine bI ?_;refine aI [] ?_;exact⟨by unfold dY;split<;>first|rfl|omega,rfl⟩
 refine cL [4] ?_;refine aS 2 ?_ (h:=by exact(dz rfl ot ot (JD w4)));refine bI ?_;refine aI [] ?_;exact⟨by unfold dY;split<;>first|rfl|omega,rfl⟩

end Go.Proofs.YtdgichenhdikgaaGreatDoor.Pk
namespace Go.Proofs.YtdgichenhdikgaaGreatDoor.Nm
open List
open Go.Proofs.Tryz
open Go.RowKit V Pk
variable {l:List UInt8}
theorem mk_data(l:List UInt8):(⟨l.toArray⟩:ByteArray).data.toList=l:=rfl
theorem JH(l:List UInt8):(⟨l.toArray⟩:ByteArray).size=l.length:=by rw[←kO]
theorem aa3(s:ByteArray):1≤(zm s).length∧(zm s).length≤6:=by
 unfold zm;split
 ·exact⟨by decide,by decide⟩
 rw[length_map,length_take,kO];omega
theorem OE{p:UInt8→Bool}:∀{l:List UInt8},(∀c∈l,p c=true)→l.takeWhile p=l
 | [],_=>rfl
 | a::l,h=>by rw[takeWhile_cons,if_pos (h a mem_cons_self),OE fun c hc=>h c (mem_cons_of_mem _ hc)]
theorem OJ{c:UInt8}(h:97≤c.toNat∧c.toNat≤122):wC c=true:=by unfold wC;exact decide_eq_true (.inl h)
theorem acP(h1:1≤l.length)(h:∀c∈l,97≤c.toNat∧c.toNat≤122):oC ⟨l.toArray⟩=true:=by
 unfold oC FW;rw[JH,mk_data,OE fun c hc=>by unfold wU;rw[OJ (h c hc)];rfl];have h0:mq ⟨l.toArray⟩ 0∈l:=by
  exact VN
 rw[OJ (h _ h0)];have:l.length≠0:=(by omega)
 simp[this]
theorem ZM:∀x∈u9,(mq x 0).toNat≤90:=by decide
theorem aab(h1:1≤l.length)(h:∀c∈l,97≤c.toNat∧c.toNat≤122):u9.any (ja ⟨l.toArray⟩)=false:=by
 rw[any_eq_false];intro x hx he;have he:=wD.1 he;have h0:mq ⟨l.toArray⟩ 0∈l:=by
  exact VN
 have:=h _ h0;have h2:=ZM x hx;rw[←he] at h2;omega
theorem tF(h1:1≤l.length)(E:l.length≤8)(h:∀c∈l,97≤c.toNat∧c.toNat≤122):cG ⟨l.toArray⟩=0:=by
 unfold cG;rw[JH,if_neg w4,acP h1 h,aab h1 h];rfl
theorem aac(s:ByteArray):1≤(wR s).size∧(wR s).size≤6:=by unfold wR;rw[JH];exact aa3 s
variable {G:List (Nat×List Value)}
abbrev WordsTab(w:World):Prop:=Tab.mM w 1 wordsC

end Go.Proofs.YtdgichenhdikgaaGreatDoor.Nm
namespace Go.Proofs.YtdgichenhdikgaaGreatDoor.Vl
open List
open Go.Proofs.Tryz
open Go.RowKit V Pk
structure Vl where
 k:Int
 n:Int
 s:ByteArray
def cV(v:Vl):List D:=[ae v.k,ae v.n,bj v.s]
theorem ff(v:Vl):(cV v).length=3:=rfl
theorem Fl(v:Vl):(cV v).all V.one=true:=rfl
structure Vl.Ok (v:Vl):Prop where
 k1:-9223372036854775808≤v.k
 k2:v.k≤9223372036854775807
 n1:-9223372036854775808≤v.n
 n2:v.n≤9223372036854775807
 s:v.s.size≤maxLen
def aV:Vl:=⟨0,0,⟨#[]⟩⟩
def bW(v:Vl):Int :=
 if v.k=0 then (if v.n≠0∨v.s.size≠0 then 6 else 0)
 else if v.k=1 then (if v.n<0∨v.n>1∨v.s.size≠0 then 6 else 0)
 else if v.k=2 then (if v.s.size≠0 then 6 else 0)
 else if v.k=3 then (if v.n≠0 then 6 else if v.s.size>20 then 1 else 0)
 else 2
theorem FL(x y:Vl):∀w,(Op.equalIn 10000 41 (.agg [.int .i64 x.k,.int .i64 x.n,.string x.s].toArray) (.agg [.int .i64 y.k,.int .i64 y.n,.string y.s].toArray)).run Tryz.prog w = .ok (x.k==y.k&&(x.n==y.n&&x.s.toList==y.s.toList)) w:=fun w=>by
 have hS:Tryz.prog.underlying 41=some (.struct (Tryz.prog.fieldsOf 41)):=(by kernel_rfl)
 have hp:Tryz.prog.stoodInHeld 41=false:=(by kernel_rfl)
 rw[show(10000:Nat)=9999+1 from rfl,run_equalIn_agg w 9999 41 _ _ hS hp];have u:=underlying41;have E:=underlying3;have I:=underlying9;have O:=isAgg3;have U:=isAgg9;have Z:=sizeOf3;have z9:=sizeOf9;simp only[Program.fieldsOf,u];go_simp
 by_cases h1:x.k=y.k<;>by_cases h2:x.n=y.n<;>by_cases h3:x.s.toList=y.s.toList<;>simp[h1,h2,h3]
theorem Vl.ext'{x y:Vl}(h1:x.k=y.k)(h2:x.n=y.n)(h3:x.s=y.s):x=y:=by cases x;cases y;simp only at h1 h2 h3;subst h1 h2 h3;rfl
def tD(x y:Vl):Bool:=x.k==y.k&&(x.n==y.n&&x.s.toList==y.s.toList)
theorem JI{x y:Vl}:tD x y=true↔x=y:=by
 unfold tD;rw[Bool.and_eq_true,Bool.and_eq_true,beq_iff_eq,beq_iff_eq];constructor
 ·rintro⟨h1,h2,h3⟩;exact Vl.ext' h1 h2 (wD.1 h3)
 rintro rfl;exact⟨rfl,rfl,wD.2 rfl⟩
def mT(s:ByteArray)(m:Nat):ByteArray:=s.extract 0 (min s.size m)
def oD(r:Vl):Vl :=
 if dY r.k 4=1 then ⟨1,dY r.n 2,⟨#[]⟩⟩
 else if dY r.k 4=2 then ⟨2,r.n,⟨#[]⟩⟩
 else if dY r.k 4=3 then ⟨3,0,mT r.s 10⟩
 else aV
theorem PG(s:ByteArray)(m:Nat):(mT s m).data.toList=s.data.toList.take m:=by
 unfold mT;rw[ByteArray.data_extract,Array.toList_extract];simp only[extract_eq_take_drop,drop_zero,Nat.sub_zero];rw[←kO];rcases Nat.le_total s.data.toList.length m with h|h
 ·rw[Nat.min_eq_left h,take_length,take_of_length_le h]
 rw[Nat.min_eq_right h]
theorem Ek(s:ByteArray)(m:Nat):(mT s m).size=min s.size m:=by
 rw[←kO,PG,length_take,kO,Nat.min_comm]
variable {G:List (Nat×List Value)}
theorem pL(v:Vl):VP Tryz.prog G 55 [.agg (cV v)] (ae (bW v)):=by
 refine VC.body func55 rfl ntmps55 aO fun X0 w0 bg=>?_;unfold cV;refine bU ?_;refine OD.box (ds:=[_,_,_]) ap rfl rfl ot rfl rfl (fun b1=>?_);refine an 44 [1] ?_;refine af [1,4] ?_;refine af [1,4,5] ?_;refine aq ?_ ?_<;>intro aP bC
 ·refine aB 4 ?_;refine bP 10 (fun U E=>?_) (fun U E=>?_)
  ·refine bq [14] ?_;refine eD ?_;exact xp
  refine bq [14] ?_;refine aq ?_ ?_<;>intro aZ cr
  ·exact xp
  exact xp
 refine af [1,4,15] ?_;refine aq ?_ ?_<;>intro bX cA
 ·refine aB 4 ?_;refine bP 20 (fun Z I=>?_) (fun Z I=>?_)
  ·refine bq [29] ?_;refine eD ?_;exact xp
  refine aF 5 ?_;refine bP 25 (fun ajw O=>?_) (fun ajw O=>?_)
  ·refine bq [29] ?_;refine eD ?_;exact xp
  refine bq [29] ?_;refine aq ?_ ?_<;>intro cN dW
  ·exact xp
  exact xp
 refine af [1,4,30] ?_;refine aq ?_ ?_<;>intro ec fh
 ·refine af [34] ?_;refine aq ?_ ?_<;>intro fj gA
  ·exact B6
  exact B6
 refine af [1,35] ?_;refine aq ?_ ?_<;>intro gL kU
 ·refine af [1,39] ?_;refine aq ?_ ?_<;>intro gj lB
  ·exact B6
  refine af [43] ?_;refine aq ?_ ?_<;>intro qd Gm
  ·exact B6
  exact B6
 refine af [2] ?_;refine aI [] ?_;refine⟨vi ?_,rfl⟩;try simp only[u3] at *
 unfold bW;simp_all;try omega
theorem Fq(s:ByteArray)(m:Nat)(hs:s.size≤maxLen):VP Tryz.prog G 16 [bj s,ae (m:Int)] (bj (mT s m)):=by
 refine VC.body func16 rfl ntmps16 aO fun X0 w0 bg=>?_;simp only[maxLen] at hs;refine af [0,1] ?_;refine cL [4] ?_;refine aS 4 ?_ (h:=by exact(Zs (r:=.int .i64 ((min s.size m:Nat):Int)) rfl ot ot (fun cs w=>(af4 cs w).trans (by split<;>(congr 3;omega)))));refine aS 0 ?_ (h:=by exact(eB (l:=0) rfl ot trivial ⟨_,ot⟩ (by first|exact af6 (fun _=>rfl) (fun h=>by cases h) runUnderlying9 w4 w4)));refine bI ?_;refine aI [] ?_;exact⟨by first|rfl|(simp[*];done),rfl⟩
theorem QK(r:Vl)(h:r.Ok):VP Tryz.prog G 53 [.agg (cV r)] (.agg (cV (oD r))):=by
 refine VC.body func53 rfl ntmps53 aO fun X0 w0 bg=>?_;unfold cV;refine bU ?_;refine OD.box (ds:=[_,_,_]) ap rfl rfl ot rfl rfl (fun b1=>?_);refine OD.alloc (ds:=[_,_,_]) ap rfl rfl zeroValue41 rfl (fun b2=>?_);refine an 29 [1,2] ?_;refine cz [1,2,3] (lu G r.k 4 h.k1 h.k2 w8) ?_;refine af [1,2,3,7] ?_;refine af [1,2,3,7,8] ?_;refine aq ?_ ?_<;>intro aP bC
 ·refine aB 3 ?_;refine dP call21 (lu G r.n 2 h.n1 h.n2 w8) ?_;refine aF 1 ?_;exact M1
 refine af [1,2,3,7,15] ?_;refine aq ?_ ?_<;>intro aZ cr
 ·refine aB 4 ?_;exact M1
 refine af [1,2,3,21] ?_;refine aq ?_ ?_<;>intro bX cA
 ·refine aB 3 ?_;refine dP call16 (Fq r.s 10 h.s) ?_;refine aF 1 ?_;exact M1
 refine aB 1 ?_;refine aR 0 [_,_,_] sizeOf41 ?_;refine an 29 [2] ?_;refine aI [] ?_;refine⟨?_,rfl⟩;unfold oD aV;simp_all

end Go.Proofs.YtdgichenhdikgaaGreatDoor.Vl
namespace Go.Proofs.YtdgichenhdikgaaGreatDoor.Nm
open List
open Go.Proofs.Tryz
open Go.RowKit V Pk Vl
variable {i:Nat} {h:Int}
theorem FL(x y:Vl):∀w,(Op.equalIn 10000 41 (.agg [.int .i64 x.k,.int .i64 x.n,.string x.s].toArray) (.agg [.int .i64 y.k,.int .i64 y.n,.string y.s].toArray)).run Tryz.prog w = .ok (x.k==y.k&&(x.n==y.n&&x.s.toList==y.s.toList)) w:=fun w=>by
 have hS:Tryz.prog.underlying 41=some (.struct (Tryz.prog.fieldsOf 41)):=(by kernel_rfl)
 have hp:Tryz.prog.stoodInHeld 41=false:=(by kernel_rfl)
 rw[show(10000:Nat)=9999+1 from rfl,run_equalIn_agg w 9999 41 _ _ hS hp];have u:=underlying41;have E:=underlying3;have I:=underlying9;have O:=isAgg3;have U:=isAgg9;have Z:=sizeOf3;have z9:=sizeOf9;simp only[Program.fieldsOf,u];go_simp
 by_cases h1:x.k=y.k<;>by_cases h2:x.n=y.n<;>by_cases h3:x.s.toList=y.s.toList<;>simp[h1,h2,h3]
def iP(v:Vl):Int:=if v.k=2∧v.n = -9223372036854775808 then 3 else bW v
structure aJ where
 k:Int
 v:Vl
 nm:ByteArray
variable {l:List aJ}
def cO(o:aJ):List D:=[ae o.k,ae o.v.k,ae o.v.n,bj o.v.s,bj o.nm]
theorem nw(o:aJ):(cO o).length=5:=rfl
theorem Kl(o:aJ):(cO o).all V.one=true:=rfl
def bw(k:Int):Int:=if k=1∨k=2 then 0 else if k=5∨k=11 then 1 else 2
theorem qz(k:Int):0≤bw k∧bw k≤2:=by unfold bw;split<;>(try split)<;>omega
def zeroV(v:Vl):Bool:=v.k==0&&(v.n==0&&v.s.toList==(⟨#[]⟩:ByteArray).toList)
def eX(h:Int)(o:aJ):Int :=
 if o.k<1∨o.k>11 then 2
 else if iP o.v≠0 then iP o.v
 else if ((o.k != 1 && !(zeroV o.v))||(o.k != 2 && !(o.nm.toList==(⟨#[]⟩:ByteArray).toList)))=true then 6
 else if o.k=2∧cG o.nm≠0 then cG o.nm
 else if h<bw o.k then 7 else 0
def fF:Int→List aJ→Int
 | h,[]=>if h=1 then 0 else 7
 | h,o::r=>if eX h o=0 then fF (h+(1-bw o.k)) r else eX h o
def gz(l:List aJ):Int:=if l.length>40 then 10 else fF 0 l
theorem QF(hi:i<l.length)(he:eX h l[i]=0):fF h (l.drop i)=fF (h+(1-bw l[i].k)) (l.drop (i+1)):=by
 rw[drop_eq_getElem_cons hi,fF,if_pos he]
theorem QE{e:Int}(hi:i<l.length)(he:eX h l[i]=e)(h0:e≠0):fF h (l.drop i)=e:=by
 rw[drop_eq_getElem_cons hi,fF,if_neg (by rw[he];exact h0),he]
theorem PI(hi:l.length≤i):fF h (l.drop i)=if h=1 then 0 else 7:=by
 rw[drop_of_length_le hi,fF]
variable {G:List (Nat×List Value)}
theorem O0(v:Vl):VP Tryz.prog G 114 [.agg (cV v)] (ae (iP v)):=by
 refine VC.body func114 rfl ntmps114 aO fun X0 w0 bg=>?_;unfold cV;refine bU ?_;refine OD.box (ds:=[_,_,_]) ap rfl rfl ot rfl rfl (fun b1=>?_);refine an 13 [1] ?_;refine aB 4 ?_;refine bP 6 (fun I E=>?_) (fun I E=>?_)
 ·refine bq [1,10] ?_;refine aq ?_ ?_<;>intro aP bC
  ·refine af [2] ?_;refine eJ ?_;refine⟨vi ?_,rfl⟩;unfold iP;simp_all
  refine cz [2] (Vl.pL v) ?_;refine eJ ?_;refine⟨vi ?_,rfl⟩;unfold iP;simp_all
 refine bq [1,10] ?_;refine fJ ?_;refine cz [2] (Vl.pL v) ?_;refine eJ ?_;refine⟨vi ?_,rfl⟩;unfold iP;simp_all
theorem yW(k:Int):VP Tryz.prog G 116 [ae k] (ae (bw k)):=by
 refine VC.body func116 rfl ntmps116 aO fun X0 w0 bg=>?_;exact Xk
theorem JJ(hm:(3,marksC)∈G)(hw:(1,wordsC)∈G)(l:List aJ)(hs:∀o∈l,o.nm.size≤maxLen):VP Tryz.prog G 70 [av 5 cO l] (ae (gz l)):=by
 refine VC.body func70 rfl ntmps70 aO fun X0 w0 bg=>?_;have hlx:l.length≤40∨40<l.length:=(by omega)
 refine af [0] ?_;refine af [0,10] ?_;refine aq ?_ ?_<;>intro aP bC
 ·have hf:gz l=10:=if_pos w4;exact Ls
 have hf:gz l=fF 0 l:=if_neg w4;have qk:l.length≤40:=(by omega)
 refine af [0,3] ?_;refine af [3,11,12,13] ?_;refine eA [11,12] (fun aX _ (I:Nat×Int) aG=>match I with|(i,h)=>(i≤l.length)∧(fF 0 l=fF h (l.drop i))∧(0≤h)∧(h≤i)∧aG=(⟨73,(3,ae h)::(13,ae (i:Nat))::aX,[]⟩:St)) (fun (I:Nat×Int)=>match I with|(i,h)=>l.length-i) (0,0) ⟨(Nat.zero_le _),rfl,(Int.le_refl _),(Int.le_refl _),rfl⟩ ?_;rintro⟨i,h⟩ _ ⟨hi,hx,h0,hh,rfl⟩;refine af [3,11,12,13,14] ?_;refine aq ?_ ?_<;>intro aZ cr
 ·have aa:i<l.length:=(by omega)
  have C9:=qz l[i].k;refine aB 2 ?_;refine OD.alloc (ds:=[_,_,_,_,_]) ap rfl rfl zeroValue43 rfl (fun b5=>?_);refine aR 0 [_,_,_,_,_] sizeOf43 ?_;refine an 73 [3,5,11,12,13] ?_;refine aB 4 ?_;refine bP 20 (fun ajx U=>?_) (fun ajx U=>?_)
  ·refine bq [3,5,11,12,13,24] ?_;refine eD ?_;have qJ:eX h l[i]=2:=(by unfold eX;rw[if_pos w4])
   exact z127
  refine bq [3,5,11,12,13,24] ?_;refine aq ?_ ?_<;>intro bX cA
  ·have qJ:eX h l[i]=2:=(by unfold eX;rw[if_pos w4])
   exact z127
  have de:¬(l[i].k<1∨l[i].k>11):=(by omega)
  refine cz [3,5,6,11,12,13] (O0 l[i].v) ?_;refine af [3,5,6,11,12,13,29] ?_;refine aq ?_ ?_<;>intro cN dW
  ·have vp:iP l[i].v≠0:=(by simpa using cN)
   have qJ:eX h l[i]=iP l[i].v:=(by unfold eX;rw[if_neg de,if_pos vp])
   exact z127
  have vp:iP l[i].v=0:=(by simpa using cN)
  refine aB 4 ?_;refine bP 34 (fun ajy Z=>?_) (fun ajy Z=>?_)
  ·refine aF 3 ?_;refine OD.still iq rfl (Pv (us:=[_,_,_]) (xV:=[_,_,_]) rfl ot ot eqGuardType41 (FL l[i].v ⟨0,0,⟨#[]⟩⟩)) ?_;refine aF 2 ?_;refine bP 40 (fun Lq KT=>?_) (fun Lq KT=>?_)
   ·refine an 73 [3,5,11,12,13,49] ?_;refine eD ?_;exact V9
   refine aF 4 ?_;refine bP 44 (fun O E=>?_) (fun O E=>?_)
   ·refine an 73 [3,5,11,12,13,49] ?_;refine aq ?_ ?_<;>intro ec fh
    ·exact V9
    exact VS
   refine an 73 [3,5,11,12,13,49] ?_;refine fJ ?_;exact VS
  refine x5 4 ?_;refine aF 6 ?_;refine bP 44 (fun O E=>?_) (fun O E=>?_)
  ·refine bq [3,5,11,12,13,49] ?_;refine aq ?_ ?_<;>intro ec fh
   ·have qJ:eX h l[i]=6:=(by unfold eX zeroV;rw[if_neg de,if_neg uA,if_pos (by simp_all)])
    exact z127
   exact VT
  refine bq [3,5,11,12,13,49] ?_;refine fJ ?_;exact VT
 have eS:=hx.trans (PI (show l.length≤i by omega));refine af [72] ?_;refine aq ?_ ?_<;>intro qd Gm
 ·exact Ls
 refine af [2] ?_;refine aI [] ?_;refine⟨vi ?_,rfl⟩;first|exact hf.symm|(rw[hf,hx,QE aa qJ (by first|assumption|decide)];done)|(rw[hf,eS,if_pos (by simpa using qd)];done)|(rw[hf,eS,if_neg (by simpa using qd)];done)

end Go.Proofs.YtdgichenhdikgaaGreatDoor.Nm
namespace Go.Proofs
open Go.Shelf
def Tryz.ZN:Go.Shelf.Ren:=⟨fun|106=>137|213=>155|265=>164|n=>n,fun|9=>9|3=>3|n=>n,fun|n=>n⟩
theorem Tryz.aeC:Go.Proofs.Lays.n106 Tryz.prog Tryz.ZN:={
 mixed:=by kernel_rfl
 f106:=Tryz.func137.trans (congrArg some (by kernel_rfl))
 f213:=Tryz.func155.trans (congrArg some (by kernel_rfl))
 f265:=Tryz.func164.trans (congrArg some (by kernel_rfl))
 t3:=Tryz.underlying3
 a3:=Tryz.isAgg3
 z3:=Tryz.sizeOf3
 v3:=Tryz.zeroValue3
 t9:=Tryz.underlying9
 a9:=Tryz.isAgg9
 z9:=Tryz.sizeOf9
 v9:=Tryz.zeroValue9}
open Go.RowKit in
theorem Tryz.strings_Compare(a b:ByteArray)(w:World) :
  Calls Tryz.prog 137 #[.string a,.string b] w fun e w'=>e = .returned (.int .i64 (Lib.compareBytes a.data.toList b.data.toList))∧w'=w:=Any.strings_Compare Tryz.aeC a b w
def Tryz.OP:Go.Shelf.Ren:=⟨fun|155=>143|154=>156|138=>165|165=>166|143=>167|166=>168|197=>169|169=>170|195=>174|218=>175|240=>176|241=>177|219=>178|260=>179|276=>180|277=>181|217=>182|225=>183|224=>184|267=>185|266=>186|314=>187|n=>n,fun|9=>9|3=>3|4=>4|72=>237|0=>0|76=>241|105=>243|21=>21|5=>5|70=>235|20=>20|37=>88|75=>240|127=>250|164=>251|46=>231|119=>254|139=>257|138=>256|146=>259|51=>258|80=>245|n=>n,fun|1=>2|3=>4|4=>5|n=>n⟩
theorem Tryz.aeD:Go.Proofs.Lays.n155 Tryz.prog Tryz.OP:={
 mixed:=by kernel_rfl
 f138:=Tryz.func165.trans (congrArg some (by kernel_rfl))
 f143:=Tryz.func167.trans (congrArg some (by kernel_rfl))
 f154:=Tryz.func156.trans (congrArg some (by kernel_rfl))
 f155:=Tryz.func143.trans (congrArg some (by kernel_rfl))
 f165:=Tryz.func166.trans (congrArg some (by kernel_rfl))
 f166:=Tryz.func168.trans (congrArg some (by kernel_rfl))
 f169:=Tryz.func170.trans (congrArg some (by kernel_rfl))
 f195:=Tryz.func174.trans (congrArg some (by kernel_rfl))
 f197:=Tryz.func169.trans (congrArg some (by kernel_rfl))
 f217:=Tryz.func182.trans (congrArg some (by kernel_rfl))
 f218:=Tryz.func175.trans (congrArg some (by kernel_rfl))
 f219:=Tryz.func178.trans (congrArg some (by kernel_rfl))
 f224:=Tryz.func184.trans (congrArg some (by kernel_rfl))
 f225:=Tryz.func183.trans (congrArg some (by kernel_rfl))
 f240:=Tryz.func176.trans (congrArg some (by kernel_rfl))
 f241:=Tryz.func177.trans (congrArg some (by kernel_rfl))
 f260:=Tryz.func179.trans (congrArg some (by kernel_rfl))
 f266:=Tryz.func186.trans (congrArg some (by kernel_rfl))
 f267:=Tryz.func185.trans (congrArg some (by kernel_rfl))
 f276:=Tryz.func180.trans (congrArg some (by kernel_rfl))
 f277:=Tryz.func181.trans (congrArg some (by kernel_rfl))
 f314:=Tryz.func187.trans (congrArg some (by kernel_rfl))
 t0:=Tryz.underlying0
 a0:=Tryz.isAgg0
 z0:=Tryz.sizeOf0
 v0:=Tryz.zeroValue0
 t3:=Tryz.underlying3
 a3:=Tryz.isAgg3
 z3:=Tryz.sizeOf3
 v3:=Tryz.zeroValue3
 t4:=Tryz.underlying4
 a4:=Tryz.isAgg4
 z4:=Tryz.sizeOf4
 v4:=Tryz.zeroValue4
 t5:=Tryz.underlying5
 a5:=Tryz.isAgg5
 z5:=Tryz.sizeOf5
 v5:=Tryz.zeroValue5
 t9:=Tryz.underlying9
 a9:=Tryz.isAgg9
 z9:=Tryz.sizeOf9
 v9:=Tryz.zeroValue9
 t20:=Tryz.underlying20
 a20:=Tryz.isAgg20
 z20:=Tryz.sizeOf20
 v20:=Tryz.zeroValue20
 t21:=Tryz.underlying21
 a21:=Tryz.isAgg21
 z21:=Tryz.sizeOf21
 v21:=Tryz.zeroValue21
 t37:=Tryz.underlying88
 a37:=Tryz.isAgg88
 z37:=Tryz.sizeOf88
 v37:=Tryz.zeroValue88
 t46:=Tryz.underlying231
 a46:=Tryz.isAgg231
 z46:=Tryz.sizeOf231
 v46:=Tryz.zeroValue231
 t51:=Tryz.underlying258
 a51:=Tryz.isAgg258
 z51:=Tryz.sizeOf258
 v51:=Tryz.zeroValue258
 t70:=Tryz.underlying235
 a70:=Tryz.isAgg235
 z70:=Tryz.sizeOf235
 v70:=Tryz.zeroValue235
 t72:=Tryz.underlying237
 a72:=Tryz.isAgg237
 z72:=Tryz.sizeOf237
 v72:=Tryz.zeroValue237
 t75:=Tryz.underlying240
 a75:=Tryz.isAgg240
 z75:=Tryz.sizeOf240
 v75:=Tryz.zeroValue240
 t76:=Tryz.underlying241
 a76:=Tryz.isAgg241
 z76:=Tryz.sizeOf241
 v76:=Tryz.zeroValue241
 t105:=Tryz.underlying243
 a105:=Tryz.isAgg243
 z105:=Tryz.sizeOf243
 v105:=Tryz.zeroValue243
 t119:=Tryz.underlying254
 a119:=Tryz.isAgg254
 z119:=Tryz.sizeOf254
 t127:=Tryz.underlying250
 a127:=Tryz.isAgg250
 z127:=Tryz.sizeOf250
 v127:=Tryz.zeroValue250
 t138:=Tryz.underlying256
 a138:=Tryz.isAgg256
 z138:=Tryz.sizeOf256
 v138:=Tryz.zeroValue256
 t139:=Tryz.underlying257
 a139:=Tryz.isAgg257
 z139:=Tryz.sizeOf257
 v139:=Tryz.zeroValue257
 t146:=Tryz.underlying259
 a146:=Tryz.isAgg259
 z146:=Tryz.sizeOf259
 v146:=Tryz.zeroValue259
 t164:=Tryz.underlying251
 a164:=Tryz.isAgg251
 z164:=Tryz.sizeOf251
 v164:=Tryz.zeroValue251
 g1:=by kernel_rfl
 g3:=by kernel_rfl
 g4:=by kernel_rfl}
theorem Tryz.Y9:Builder.Extra Tryz.prog Tryz.OP:={
 sizeBuilder:=by kernel_rfl
 liesBuilder:=by kernel_rfl
 t5:=Tryz.underlying5
 a5:=Tryz.isAgg5
 z5:=Tryz.sizeOf5
 v5:=Tryz.zeroValue5
 infoByte:=by kernel_rfl
 cellsByte:=by kernel_rfl
 sizeByte:=by kernel_rfl
 neB5:=by decide}
open Go.RowKit Go.Lib in
theorem Tryz.strings_ReplaceAll(s old new:ByteArray)(m:Int)(w:World)(hs:s.size<4294967281)(hm:w.cell? ⟨2,0,none⟩=some (.int .i64 m))(h1:1≤old.size)(hlen:s.size+Lib.countB s old*new.size≤140737488355328) :
  Calls Tryz.prog 143 #[.string s,.string old,.string new] w fun e w' =>
   e = .returned (.string ⟨(Lib.replaceAll s.data.toList old.data.toList new.data.toList).toArray⟩)∧Below w.heap.size w w':=Any.strings_ReplaceAll Tryz.aeD Tryz.Y9 s old new m w hs hm h1 hlen

end Go.Proofs
namespace Go.Proofs.YtdgichenhdikgaaGreatDoor.Cd
open List
open Go.Proofs.Tryz
open Go.RowKit V Pk Vl
variable {v:Vl}
theorem Q5(c:UInt8)(new:List UInt8):∀s:List UInt8,Lib.replaceK [c] new (s.count c) s=s.flatMap fun b=>if b=c then new else [b]
 | []=>rfl
 | b::l=>by
  have I:=Q5 c new l;by_cases h:b=c
  ·subst h;have hi:Lib.index (b::l) [b]=((0:Nat):Int):=(by rw[Lib.index_one];simp[Lib.indexByte])
   rw[count_cons_self,Lib.replaceK_hit _ _ _ _ _ hi,flatMap_cons,if_pos rfl,←I];simp
  have hc:(b::l).count c=l.count c:=count_cons_of_ne h;rw[hc,flatMap_cons,if_neg h,←I];cases hk:l.count c with
  | zero=>rfl
  | succ k =>
   obtain⟨i,hi⟩:=Lib.index_of_count (s:=l) (old:=[c]) (by rw[Lib.count_one];omega);have E:Lib.index (b::l) [c]=((i+1:Nat):Int):=by
    rw[Lib.index_one] at hi ⊢;unfold Lib.indexByte;rw[if_neg nf,hi,if_neg (by rw[beq_iff_eq];omega)];omega
   rw[Lib.replaceK_hit _ _ _ _ _ E,Lib.replaceK_hit _ _ _ _ _ hi];simp
def uh(c:UInt8)(new:List UInt8)(s:ByteArray):ByteArray:=⟨(s.data.toList.flatMap fun b=>if b=c then new else [b]).toArray⟩
theorem ZO(c:UInt8)(new s:List UInt8):Lib.replaceAll s [c] new=s.flatMap fun b=>if b=c then new else [b]:=by
 unfold Lib.replaceAll Lib.replace Lib.replaceNum;split
 ·rename_i h;have h':[c]=new:=(by simpa using h)
  subst h';induction s with
  | nil=>rfl
  | cons b l ih =>
   rw[flatMap_cons,←ih];have:(if b=c then [c] else [b])=[b]:=by
    split
    ·rename_i e;rw[e]
    rfl
   rw[this];rfl
 rw[if_pos (.inl w8),Lib.count_one,Q5]
variable {G:List (Nat×List Value)} {m:Int}
theorem aeE(hG:(2,[Value.int .i64 m])∈G)(c:UInt8)(new:ByteArray)(s:ByteArray)(hs:s.size≤1000000)(hn:new.size≤1000):VP Tryz.prog G 143 [bj s,bj ⟨#[c]⟩,bj new] (bj (uh c new.data.toList s)):=by
 have hc:Lib.countB s ⟨#[c]⟩≤1000000:=by
  show Lib.count s.data.toList [c]≤1000000;rw[Lib.count_one];exact Nat.le_trans count_le_length (by rw[kO];exact hs)
 have I:Lib.countB s ⟨#[c]⟩*new.size≤1000000*1000:=Nat.mul_le_mul hc hn;have key:=VP.S4 (P:=Tryz.prog) (G:=G) (f:=143) (vs:=[.string s,.string ⟨#[c]⟩,.string new]) (v:=.string (uh c new.data.toList s)) fun w E=>by
  refine(Tryz.strings_ReplaceAll s ⟨#[c]⟩ new m w w4 (E _ hG 0 _ rfl) (Nat.le_refl _) w4).mono fun e w' ⟨h1,h2⟩=>⟨?_,h2⟩
  rw[h1];congr 2;show(⟨(Lib.replaceAll s.data.toList [c] new.data.toList).toArray⟩:ByteArray)=_;rw[ZO];rfl
 exact key
def kb(v:Vl):UInt8:=UInt8.ofNat v.k.toNat
def nb(v:Vl):UInt8:=UInt8.ofNat v.n.toNat
def uN(v:Vl):Nat:=(v.n+9223372036854775808).toNat
def xA(u k:Nat):UInt8:=UInt8.ofNat (u/256 ^ (7-k))
def lE(u:Nat):List UInt8:=(range 8).map (xA u)
def oL(s:List UInt8):List UInt8:=s.flatMap fun b=>if b=0 then [0,255] else [b]
def rF(v:Vl):List UInt8:=if v.k=1 then [nb v] else if v.k=2 then lE (uN v) else if v.k=3 then oL v.s.data.toList++[0,0] else []
def pi(v:Vl):List UInt8:=kb v::rF v
def dx(l:List Vl):List UInt8:=l.flatMap pi
def sN:List Vl→Int
 | []=>0
 | v::r=>if bW v=0 then sN r else bW v
def fP(l:List Vl):List UInt8×Int:=if l.length>6 then ([],1) else if sN l≠0 then ([],sN l) else if (dx l).length>100 then ([],5) else (dx l,0)
def BC(b:List UInt8):D:=av 1 cB b
def LI(r:List UInt8×Int):D:=.di [BC r.1,ae r.2]
theorem Tc:∀{l:List Vl} {i:Nat} (hi:i<l.length),(∀v∈l.take i,bW v=0)→bW l[i]≠0→sN l=bW l[i]
 | v::r,0,hi,_,h=>by
  have h':bW v≠0:=h;show sN (v::r)=bW v;rw[sN,if_neg h']
 | v::r,i+1,hi,h0,h=>by
  rw[sN,if_pos (h0 v bn)];exact Tc (l:=r) (i:=i) (by simpa using hi) (fun x hx=>h0 x (by rw[take_succ_cons];exact mem_cons_of_mem _ hx)) h
theorem Bo:∀{l:List Vl},(∀v∈l,bW v=0)→sN l=0
 | [],_=>rfl
 | v::r,h=>by rw[sN,if_pos (h v mem_cons_self)];exact Bo fun x hx=>h x (mem_cons_of_mem _ hx)
theorem Ib(h:bW v=0):0≤v.k∧v.k≤3:=by
 unfold bW at h;split at h
 ·omega
 split at h
 ·omega
 split at h
 ·omega
 split at h
 ·omega
 cases h
theorem Ic(h:bW v=0)(hk:v.k=1):0≤v.n∧v.n≤1:=by
 unfold bW at h;rw[if_neg w4,if_pos hk] at h;split at h
 ·cases h
 omega
theorem O1(h:bW v=0)(hk:v.k=3):v.s.size≤20:=by
 unfold bW at h;rw[if_neg w4,if_neg w4,if_neg w4,if_pos hk] at h;split at h
 ·cases h
 split at h
 ·cases h
 omega
theorem Ks(h:bW v=0):((kb v).toNat:Int)=v.k:=by
 have:=Ib h;unfold kb;rw[UInt8.toNat_ofNat'];omega
theorem Kt(h:bW v=0)(hk:v.k=1):((nb v).toNat:Int)=v.n:=by
 have:=Ic h hk;unfold nb;rw[UInt8.toNat_ofNat'];omega
theorem aeF(h:bW v=0):IntKind.u8.wrap v.k=((kb v).toNat:Int):=by
 have:=Ib h;rw[Ks h];show v.k % 256=_;omega
theorem aeG(h:bW v=0)(hk:v.k=1):IntKind.u8.wrap v.n=((nb v).toNat:Int):=by
 have:=Ic h hk;rw[Kt h hk];show v.n % 256=_;omega
theorem Ku(h:v.Ok):((uN v:Nat):Int)=v.n+9223372036854775808:=by have:=h.n1;unfold uN;omega
theorem ago{u k:Nat}(hk:k≤7):(u:Int).fdiv (2 ^ min ((56:Int)-8*(k:Int)).toNat IntKind.u64.bits)=((u/256 ^ (7-k):Nat):Int):=by
 have e1:min ((56:Int)-8*(k:Int)).toNat IntKind.u64.bits=8*(7-k):=by
  show min _ 64=_;omega
 have E:(2 ^ (8*(7-k)):Nat)=256 ^ (7-k):=(by rw[Nat.pow_mul])
 have e2:((2:Int) ^ (8*(7-k)))=((256 ^ (7-k):Nat):Int):=by
  rw[←E,Int.natCast_pow];rfl
 rw[e1,e2];exact(Int.ofNat_fdiv _ _).symm
theorem aeH(x:Nat):IntKind.u8.wrap (x:Int)=((UInt8.ofNat x).toNat:Int):=by
 rw[UInt8.toNat_ofNat'];show(x:Int) % 256=_;omega
theorem E4{u k:Nat}(hk:k≤7):(lE u).take k++[xA u k]=(lE u).take (k+1):=by
 have hl:k<(lE u).length:=(by simp[lE];omega)
 rw[take_succ_eq_append_getElem hl];congr 2;simp[lE]
theorem wI(u:Nat):(lE u).length=8:=by simp[lE]
theorem Td(s:List UInt8):(oL s).length≤2*s.length:=by
 induction s with
 | nil=>simp[oL]
 | cons b l ih =>
  unfold oL at ih ⊢;rw[flatMap_cons,length_append,length_cons];split<;>simp only[length_cons,length_nil]<;>omega
theorem E5(h:bW v=0):(pi v).length≤43:=by
 unfold pi rF;rw[length_cons];split
 ·simp
 split
 ·rw[wI];omega
 split
 ·rename_i hk;have h1:=O1 h hk;have h2:=Td v.s.data.toList;rw[kO] at h2;rw[length_append];simp;omega
 simp
theorem EK:∀{l:List Vl},(∀v∈l,bW v=0)→(dx l).length≤43*l.length
 | [],_=>Nat.le_refl _
 | v::r,h=>by
  have h1:=E5 (h v mem_cons_self);have h2:=EK (l:=r) fun x hx=>h x (mem_cons_of_mem _ hx);unfold dx at h2 ⊢;rw[flatMap_cons,length_append,length_cons];omega
theorem Pp{l:List Vl}{i:Nat}(hi:i<l.length):dx (l.take i)++pi l[i]=dx (l.take (i+1)):=by
 unfold dx;rw[take_succ_eq_append_getElem hi,flatMap_append];simp
theorem FG(h:v.k=1):rF v=[nb v]:=if_pos h
theorem FH(h:v.k=2):rF v=lE (uN v):=by unfold rF;rw[if_neg w4,if_pos h]
theorem FI(h:v.k=3):rF v=oL v.s.data.toList++[0,0]:=by unfold rF;rw[if_neg w4,if_neg w4,if_pos h]
theorem U3(h1:¬v.k=1)(h2:¬v.k=2)(h3:¬v.k=3):rF v=[]:=by unfold rF;rw[if_neg h1,if_neg h2,if_neg h3]
theorem A7(s:ByteArray):(uh 0 [0,255] s).data.toList=oL s.data.toList:=rfl
def LJ(p:List UInt8×Int)(r:D)(S:List ah):Prop:=∃ad cap,r = .di [aN ad p.1.length cap,ae p.2]∧bp 5 1 (p.1.flatMap cB) p.1.length ad cap S
theorem LJ.view{p:List UInt8×Int}{r:D}{S:List ah}(h:LJ p r S):View S r (LI p):=by
 obtain⟨ad,cap,rfl,ho⟩:=h;exact EH ⟨lK ho (cn pO _) (fun B h=>h),eM,trivial⟩
theorem AY:(Tryz.prog.info? 5).map (fun i=>(i.zero,i.size,i.bytes))=some (some (.int .u8 0),1,1):=by kernel_rfl
theorem Uy(hG:(2,[Value.int .i64 m])∈G)(l:List Vl)(hl:l.length≤maxLen)(aQ:∀v∈l,v.Ok):VC Tryz.prog G 111 [av 3 cV l] [] (LJ (fP l)):=by
 refine VC.body func111 rfl ntmps111 aO fun X0 w0 bg=>?_;refine af [0] ?_;refine af [0,12] ?_;refine aq ?_ ?_<;>intro aP bC
 ·have aW:fP l=([],1):=if_pos w4;exact M4
 have h6:l.length≤6:=(by omega)
 refine bU ?_;refine bq [0,4] ?_;refine af [4,13,14,15] ?_;refine CD.block ?_;refine nl (fun (E:Nat×Option Addr×Nat×List ah) aG=>match E with|(i,I,O,Sb)=>(i≤l.length)∧(∀v∈l.take i,bW v=0)∧(bp 5 1 ((dx (l.take i)).flatMap cB) (dx (l.take i)).length I O Sb)∧aG=(⟨72,[(4,aN I (dx (l.take i)).length O),(13,av 3 cV l),(14,ae l.length),(15,ae (i:Nat))],(Sb)⟩:St)) (fun (E:Nat×Option Addr×Nat×List ah)=>match E with|(i,I,O,Sb)=>l.length-i) (0,none,0,[]) ⟨(Nat.zero_le _),bn,(bp.cast iy (by rfl)),rfl⟩ (aK (h:=by repeat (first|exact trivial|refine⟨w6,?_⟩))) ?_;rintro⟨i,I,O,Sb⟩ _ ⟨hi,h0,pC,rfl⟩;refine af [4,13,14,15,16] ?_;refine aq ?_ ?_<;>intro aZ cr
 ·have aa:i<l.length:=(by omega)
  have Nd:=EK h0;rw[length_take] at Nd;have c8:=dR;have fQ:=aQ _ (getElem_mem aa);refine aB 2 ?_;refine OD.alloc (ds:=[_,_,_]) ap rfl rfl zeroValue41 rfl (fun b6=>?_);refine aR 0 [_,_,_] sizeOf41 ?_;refine an 72 [4,6,13,14,15] ?_;refine cz [4,6,7,13,14,15] (Vl.pL l[i]) ?_;refine af [4,6,7,13,14,15,22] ?_;refine aq ?_ ?_<;>intro bX cA
  ·have hne:bW l[i]≠0:=(by simpa using bX)
   have aW:fP l=([],bW l[i]):=(by unfold fP;rw[if_neg w4,Tc aa h0 hne,if_pos hne])
   exact M4
  have U:bW l[i]=0:=(by simpa using bX)
  refine aB 3 ?_;refine bN (oX (r:=.int .u8 ((kb l[i]).toNat:Int)) rfl ot (oY runUnderlying3 runUnderlying5 (aeF U))) ?_;refine en (cf 0 [_]) [.int .u8 0] [_] zeroValue5 runUnderlying88 sizeOf5 (fun ND=>?_);refine fA 0 28 1 1 ?_;refine OD.ey (ls:=(dx (l.take i))) (new:=[kb l[i]]) (Sq:=Sb) pO wM ap rfl rfl underlying88 AY rfl w8 ot pC (cZ (A:=[_])) ot bn zX zX (fun uO Z Gn Gp=>?_);refine OD.perm (dV (S1:=[⟨uO,5,Z*1,flatMap cB ((dx (l.take i))++[kb l[i]])⟩]) (A:=[_])) ?_;refine an 72 [4,6,13,14,15] ?_;refine af [4,6,13,14,15,31] ?_;refine af [4,6,13,14,15,31,32] ?_;refine aq ?_ ?_<;>intro cN dW
  ·have de:l[i].k=1:=(by simpa using cN)
   refine dK 3 ?_;refine bN (oX (r:=.int .u8 ((nb l[i]).toNat:Int)) rfl ot (oY runUnderlying3 runUnderlying5 (aeG U de))) ?_;refine en (cf 0 [_]) [.int .u8 0] [_] zeroValue5 runUnderlying88 sizeOf5 (fun NE=>?_);refine fA 0 38 1 1 ?_;refine OD.ey (ls:=((dx (l.take i))++[kb l[i]])) (new:=[nb l[i]]) (Sq:=[⟨uO,5,Z*1,flatMap cB ((dx (l.take i))++[kb l[i]])⟩]) pO wM ap rfl rfl underlying88 AY rfl w8 ot (bM Gn Gp) (cZ (A:=[_])) ot bn zX zX (fun CN LK ajz ajA=>?_);refine OD.perm (dV (S1:=[⟨CN,5,LK*1,flatMap cB (((dx (l.take i))++[kb l[i]])++[nb l[i]])⟩]) (A:=[_])) ?_;refine an 72 [4,13,14,15] ?_;refine cc [4,13,14,15] ?_;refine⟨((i+1),(some ⟨CN,0,none⟩),LK,[⟨CN,5,LK*1,flatMap cB (((dx (l.take i))++[kb l[i]])++[nb l[i]])⟩]),_,cq,(aK (h:=by repeat (first|exact trivial|refine⟨w6,?_⟩))),w4,(yO aa h0 U),(bp.cast (bM ajz ajA) GG),rfl⟩
  have de:¬l[i].k=1:=(by simpa using cN)
  refine af [4,6,13,14,15,31,40] ?_;refine aq ?_ ?_<;>intro ec fh
  ·have fb:l[i].k=2:=(by simpa using ec)
   refine cL [4,8,13,14,15] ?_;refine aS 3 ?_ (h:=by exact(dz (r:=.int .u64 ((uN l[i]:Nat):Int)) rfl ot bV (aes (by rw[Ku fQ];exact aeu fQ.n1 fQ.n2))));refine bI ?_;refine af [4,8,9,13,14,15] ?_;refine CD.block ?_;refine nl (fun (E:Nat×Option Addr×Nat×List ah) aG=>match E with|(k,I,O,Sb)=>(k≤8)∧(bp 5 1 (((dx (l.take i)++[kb l[i]])++(lE (uN l[i])).take k).flatMap cB) ((dx (l.take i)++[kb l[i]])++(lE (uN l[i])).take k).length I O Sb)∧aG=(⟨72,[(4,aN I ((dx (l.take i)++[kb l[i]])++(lE (uN l[i])).take k).length O),(8,.v (.int .u64 ((uN l[i]:Nat):Int))),(9,ae (56-8*(k:Int))),(13,av 3 cV l),(14,ae l.length),(15,ae (i:Nat))],(Sb)⟩:St)) (fun (E:Nat×Option Addr×Nat×List ah)=>match E with|(k,I,O,Sb)=>8-k) (0,(some ⟨uO,0,none⟩),Z,[⟨uO,5,Z*1,flatMap cB ((dx (l.take i))++[kb l[i]])⟩]) ⟨w8,(bp.cast (bM Gn Gp) bn),rfl⟩ (aK (h:=by repeat (first|exact trivial|refine⟨(by (repeat (first|exact fu|(apply fT;focus (first|rfl|(congr 2;omega)|(simp;done)|(apply eG;rw[←E4 w4];simp)|(apply eG;simp)|(apply eG;simp;done)))|(apply fC;focus rfl)));done),?_⟩))) ?_;rintro⟨k,I,O,Sb⟩ _ ⟨MO,pC,rfl⟩;refine af [4,8,9,13,14,15,47] ?_;refine aq ?_ ?_<;>intro fj gA
   ·have hk7:k≤7:=(by omega)
    refine dK 3 ?_;refine bN (dz (r:=.int .u64 ((uN l[i]/256 ^ (7-k):Nat):Int)) rfl ot ot (y6 w4 (ago hk7))) ?_;refine bN (oX (r:=.int .u8 ((xA (uN l[i]) k).toNat:Int)) rfl ot (oY runUnderlying213 runUnderlying5 (aeH _))) ?_;refine en (cf 0 [_]) [.int .u8 0] [_] zeroValue5 runUnderlying88 sizeOf5 (fun b55=>?_);refine fA 0 55 1 1 ?_;refine OD.ey (ls:=((dx (l.take i)++[kb l[i]])++(lE (uN l[i])).take k)) (new:=[xA (uN l[i]) k]) (Sq:=Sb) pO wM ap rfl rfl underlying88 AY rfl w8 ot pC (cZ (A:=[])) ot bn zX zX (fun kN LL ajB ajC=>?_);refine OD.perm (dV (S1:=[⟨kN,5,LL*1,flatMap cB (((dx (l.take i)++[kb l[i]])++(lE (uN l[i])).take k)++[xA (uN l[i]) k])⟩]) (A:=[])) ?_;refine an 72 [4,8,9,13,14,15] ?_;refine cc [4,8,9,13,14,15] ?_;refine⟨((k+1),(some ⟨kN,0,none⟩),LL,[⟨kN,5,LL*1,flatMap cB (((dx (l.take i)++[kb l[i]])++(lE (uN l[i])).take k)++[xA (uN l[i]) k])⟩]),_,cq,(aK (h:=by repeat (first|exact trivial|refine⟨(by (repeat (first|exact fu|(apply fT;focus (first|rfl|(congr 2;omega)|(simp;done)|(apply eG;rw[←E4 w4];simp)|(apply eG;simp)|(apply eG;simp;done)))|(apply fC;focus rfl)));done),?_⟩))),w4,(bp.cast (bM ajB ajC) (by rw[←E4 w4];simp)),rfl⟩
   have aqm:k=8:=(by omega)
   have aqn:8≤k:=(by omega)
   refine cc [4,13,14,15] ?_;refine⟨((i+1),I,O,Sb),_,cq,(aK (h:=by repeat (first|exact trivial|refine⟨w6,?_⟩))),w4,(yO aa h0 U),(bp.cast pC GG),rfl⟩
  have fb:¬l[i].k=2:=(by simpa using ec)
  refine af [4,6,13,14,15,57] ?_;refine aq ?_ ?_<;>intro gL kU
  ·have j9:l[i].k=3:=(by simpa using gL)
   have Mr:=O1 U j9;have C7:=Td l[i].s.data.toList;rw[kO] at C7;have Az:(uh 0 [0,255] l[i].s).size=(oL l[i].s.data.toList).length:=(by rw[←kO,A7])
   refine aB 3 ?_;refine dP call143 (aeE hG 0 ⟨#[0,255]⟩ l[i].s w4 w8) ?_;refine OD.Z5 (ls:=((dx (l.take i))++[kb l[i]])) (Sq:=[⟨uO,5,Z*1,flatMap cB ((dx (l.take i))++[kb l[i]])⟩]) ap rfl rfl underlying88 underlying9 AY ot (bM Gn Gp) (cZ (A:=[_])) ot (by rw[show(uh 0 (⟨#[0,255]⟩:ByteArray).data.toList l[i].s).size=(oL l[i].s.data.toList).length from Az];simp only[length_append,length_cons,length_nil];omega) (by rw[show(uh 0 (⟨#[0,255]⟩:ByteArray).data.toList l[i].s).size=(oL l[i].s.data.toList).length from Az];simp only[length_append,length_cons,length_nil];omega) (fun Wi xB Da Cg=>?_);refine OD.perm (dV (A:=[_])) ?_;refine an 72 [4,13,14,15] ?_;refine dK 1 ?_;refine en (cf 0 [_,_]) [.int .u8 0,.int .u8 0] [_,_] zeroValue5 runUnderlying88 sizeOf5 (fun b65=>?_);refine fA 0 65 1 2 ?_;refine OD.ey (ls:=(((dx (l.take i))++[kb l[i]])++(uh 0 [0,255] l[i].s).data.toList)) (new:=[(0:UInt8),0]) (Sq:=Da) pO wM ap rfl rfl underlying88 AY rfl w8 ot Cg (cZ (A:=[_])) ot bn (by rw[A7];simp only[length_append,length_cons,length_nil];omega) (by rw[A7];simp only[length_append,length_cons,length_nil];omega) (fun pE zR zS zT=>?_);refine OD.perm (dV (S1:=[⟨pE,5,zR*1,flatMap cB ((((dx (l.take i))++[kb l[i]])++(uh 0 [0,255] l[i].s).data.toList)++[(0:UInt8),0])⟩]) (A:=[_])) ?_
   refine an 72 [4,13,14,15] ?_;refine cc [4,13,14,15] ?_;refine⟨((i+1),(some ⟨pE,0,none⟩),zR,[⟨pE,5,zR*1,flatMap cB ((((dx (l.take i))++[kb l[i]])++(uh 0 [0,255] l[i].s).data.toList)++[(0:UInt8),0])⟩]),_,cq,(aK (h:=by repeat (first|exact trivial|refine⟨w6,?_⟩))),w4,(yO aa h0 U),(bp.cast (bM zS zT) GG),rfl⟩
  have j9:¬l[i].k=3:=(by simpa using gL)
  refine cc [4,13,14,15] ?_;refine⟨((i+1),(some ⟨uO,0,none⟩),Z,[⟨uO,5,Z*1,flatMap cB ((dx (l.take i))++[kb l[i]])⟩]),_,cq,(aK (h:=by repeat (first|exact trivial|refine⟨w6,?_⟩))),w4,(yO aa h0 U),(bp.cast (bM Gn Gp) GG),rfl⟩
 have eY:∀v∈l,bW v=0:=(by rw[take_of_length_le w4] at h0;exact h0)
 have hle:=EK eY;have Db:dx (l.take i)=dx l:=(by rw[take_of_length_le w4])
 refine af [4,70] ?_;refine aq ?_ ?_<;>intro gj lB
 ·have aW:fP l=([],5):=(by unfold fP;rw[if_neg w4,Bo eY,if_neg bn,if_pos (by rw[Db] at gj;simp at gj;omega)])
  exact M4
 have aW:fP l=(dx l,0):=(by unfold fP;rw[if_neg w4,Bo eY,if_neg bn,if_neg (by rw[Db] at gj;simp at gj;omega)])
 refine af [2,3] ?_;refine aI Sb ?_;rw[aW,←Db];exact⟨I,O,rfl,pC⟩
theorem agp(hG:(2,[Value.int .i64 m])∈G)(l:List Vl)(hl:l.length≤maxLen)(aQ:∀v∈l,v.Ok):VP Tryz.prog G 111 [av 3 cV l] (LI (fP l)):=(Uy hG l hl aQ).cover fun r S hr=>hr.view

end Go.Proofs.YtdgichenhdikgaaGreatDoor.Cd
namespace Go.Proofs.YtdgichenhdikgaaGreatDoor.Cd
open List
open Go.Proofs.Tryz
open Go.RowKit V Pk Vl
def lZ(l:List UInt8):Nat:=l.foldl (fun a c=>a*256+c.toNat) 0
theorem Iu(l:List UInt8)(c:UInt8):lZ (l++[c])=lZ l*256+c.toNat:=by unfold lZ;rw[foldl_append];rfl
theorem JK:∀(n:Nat) (l:List UInt8),l.length=n→lZ l<256 ^ n
 | 0,l,h=>by rw[eq_nil_of_length_eq_zero h];decide
 | n+1,l,h=>by
  have hne:l≠[]:=(by intro e;subst e;simp at h)
  rw[←dropLast_concat_getLast hne,Iu];have h1:=JK n l.dropLast (by rw[length_dropLast,h];rfl);have h2:(l.getLast hne).toNat<256:=(l.getLast hne).toNat_lt;rw[Nat.pow_succ];omega
variable {G:List (Nat×List Value)}

end Go.Proofs.YtdgichenhdikgaaGreatDoor.Cd
namespace Go.Proofs.YtdgichenhdikgaaGreatDoor.Cd
open List
open Go.Proofs.Tryz
open Go.RowKit V Pk Vl
variable {v:Vl}
theorem HW:∀(b a:List UInt8),lZ (a++b)=lZ a*256 ^ b.length+lZ b
 | [],a=>by simp[lZ]
 | c::b,a=>by
  have h1:=HW b (a++[c]);have h2:=HW b [c];rw[append_assoc,singleton_append,Iu] at h1;have h3:lZ (c::b)=c.toNat*256 ^ b.length+lZ b:=by
   rw[singleton_append] at h2;rw[h2];have:lZ [c]=c.toNat:=(by simp[lZ])
   rw[this]
  rw[h1,h3,length_cons,Nat.pow_succ,Nat.add_mul,Nat.mul_assoc,Nat.mul_comm 256];omega
theorem Q6{u:Nat}(h:u<18446744073709551616):lZ (lE u)=u:=by
 have key:∀k,k≤8→lZ ((lE u).take k)=u/256 ^ (8-k):=by
  intro k;induction k with
  | zero=>intro _;show 0=u/256 ^ 8;exact(Nat.div_eq_of_lt h).symm
  | succ k ih =>
   intro hk;have hb:=ih w4;rw[←E4 w4,Iu,hb];unfold xA;rw[UInt8.toNat_ofNat',show 8-k=(7-k)+1 by omega,show 8-(k+1)=7-k by omega,Nat.pow_succ,←Nat.div_div_eq_div_mul];have:=Nat.div_add_mod (u/256 ^ (7-k)) 256;omega
 have:=key 8 (Nat.le_refl _);rw[take_of_length_le (by rw[wI];omega)] at this;rw[this];simp
theorem Iv{s:ByteArray}(h:s.size=0):s=⟨#[]⟩:=Bm (eq_nil_of_length_eq_zero (by rw[kO,h]))
theorem E6(h:bW v=0)(hk:v.k=0):v=⟨0,0,⟨#[]⟩⟩:=by
 unfold bW at h;rw[if_pos hk] at h;split at h
 ·cases h
 rename_i hn;exact Vl.ext' hk (by show v.n=0;omega) (Iv w4)
theorem Te(h:bW v=0)(hk:v.k=1):v.s=⟨#[]⟩:=by
 unfold bW at h;rw[if_neg w4,if_pos hk] at h;split at h
 ·cases h
 exact Iv w4
theorem Tf(h:bW v=0)(hk:v.k=2):v.s=⟨#[]⟩:=by
 unfold bW at h;rw[if_neg w4,if_neg w4,if_pos hk] at h;split at h
 ·cases h
 exact Iv w4
theorem Tg(h:bW v=0)(hk:v.k=3):v.n=0:=by
 unfold bW at h;rw[if_neg w4,if_neg w4,if_neg w4,if_pos hk] at h;split at h
 ·cases h
 omega

end Go.Proofs.YtdgichenhdikgaaGreatDoor.Cd
namespace Go.Proofs.YtdgichenhdikgaaGreatDoor.Cd





open List
open Go.Proofs.Tryz
open Go.RowKit V Pk Vl
open Go.Lib (compareBytes)
variable {a b:UInt8} {l:List Int}
theorem ua:a<b↔a.toNat<b.toNat:=UInt8.lt_iff_toNat_lt
theorem agq(h:a≠b):a.toNat≠b.toNat:=fun e=>h (UInt8.toNat_inj.1 e)
theorem y7(a b:UInt8)(x y:List UInt8):compareBytes (a::x) (b::y)=if a<b then -1 else if b<a then 1 else compareBytes x y:=by rw[compareBytes]
theorem wX(x y:List UInt8)(h:a.toNat<b.toNat):compareBytes (a::x) (b::y) = -1:=by rw[y7,if_pos (ua.2 h)]
theorem uj(a:UInt8)(x y:List UInt8):compareBytes (a::x) (a::y)=compareBytes x y:=by
 rw[y7,if_neg qN,if_neg qN]
theorem JL:∀(p x y:List UInt8),compareBytes (p++x) (p++y)=compareBytes x y
 | [],_,_=>rfl
 | a::p,x,y=>by rw[cons_append,cons_append,uj,JL p x y]
theorem Bp:∀(x y:List UInt8),compareBytes y x = - compareBytes x y
 | [],[]=>rfl
 | [],_::_=>rfl
 | _::_,[]=>rfl
 | a::x,b::y=>by
  have E:=Bp x y;rw[y7,y7];rcases Nat.lt_trichotomy a.toNat b.toNat with h|h|h
  ·rw[if_neg qN,if_pos (ua.2 h),if_pos (ua.2 h)];rfl
  ·rw[if_neg qN,if_neg qN,if_neg qN,if_neg qN,E]
  rw[if_pos (ua.2 h),if_neg qN,if_pos (ua.2 h)]
theorem I5:∀(x y:List UInt8),compareBytes x y = -1∨compareBytes x y=0∧x=y∨compareBytes x y=1
 | [],[]=>.inr (.inl ⟨rfl,rfl⟩)
 | [],_::_=>.inl rfl
 | _::_,[]=>.inr (.inr rfl)
 | a::x,b::y=>by
  rw[y7];rcases Nat.lt_trichotomy a.toNat b.toNat with h|h|h
  ·exact .inl (if_pos (ua.2 h))
  ·have e:a=b:=UInt8.toNat_inj.1 h;subst e;rw[if_neg qN,if_neg qN];rcases I5 x y with h|⟨h,e⟩|h
   ·exact .inl h
   ·exact .inr (.inl ⟨h,by rw[e]⟩)
   exact .inr (.inr h)
  exact .inr (.inr (by rw[if_neg qN,if_pos (ua.2 h)]))
theorem PJ(c:UInt8)(b:List UInt8):lZ (c::b)=c.toNat*256 ^ b.length+lZ b:=by
 have h2:=HW b [c];rw[singleton_append] at h2;rw[h2];have:lZ [c]=c.toNat:=(by simp[lZ])
 rw[this]
theorem Va:∀(l k:List UInt8) (x y:List UInt8),l.length=k.length→lZ l<lZ k→compareBytes (l++x) (k++y) = -1
 | [],[],_,_,_,h=>absurd h (Nat.lt_irrefl _)
 | [],_::_,_,_,h,_=>by simp at h
 | _::_,[],_,_,h,_=>by simp at h
 | a::l,b::k,x,y,hl,h=>by
  simp only[length_cons,Nat.add_right_cancel_iff] at hl;rw[PJ,PJ,hl] at h;have h1:=JK _ l hl;have h2:=JK _ k rfl;rw[cons_append,cons_append];rcases Nat.lt_trichotomy a.toNat b.toNat with e|e|e
  ·exact wX _ _ e
  ·have e':a=b:=UInt8.toNat_inj.1 e;subst e';rw[uj];exact Va l k x y hl w4
  exfalso;have:(b.toNat+1)*256 ^ k.length≤a.toNat*256 ^ k.length:=Nat.mul_le_mul_right _ e;rw[Nat.succ_mul] at this;omega
theorem Bc(c:UInt8)(s:List UInt8):oL (c::s)=(if c=0 then [0,255] else [c])++oL s:=by unfold oL;rw[flatMap_cons]
theorem Uz{c:UInt8}(h:¬c=0):0<c.toNat:=by
 have:=agq h;have e:(0:UInt8).toNat=0:=rfl;omega
theorem UA:∀(s t x y:List UInt8),compareBytes s t = -1→compareBytes (oL s++([0,0]++x)) (oL t++([0,0]++y)) = -1
 | [],[],_,_,h=>by exact absurd h w8
 | _::_,[],_,_,h=>by exact absurd (show(1:Int) = -1 from h) w8
 | [],d::t,x,y,_=>by
  rw[Bc];by_cases hd:d=0
  ·rw[if_pos hd];show compareBytes (0::0::x) (0::255::(oL t++([0,0]++y))) = -1;rw[uj];exact wX _ _ w8
  rw[if_neg hd];exact wX (a:=0) _ _ (Uz hd)
 | c::s,d::t,x,y,h=>by
  rcases Nat.lt_trichotomy c.toNat d.toNat with e|e|e
  ·have hd:¬d=0:=fun hd=>by subst hd;have:(0:UInt8).toNat=0:=rfl;omega
   rw[Bc,Bc,if_neg hd];by_cases hc:c=0
   ·rw[if_pos hc];exact wX (a:=0) _ _ (Uz hd)
   rw[if_neg hc];exact wX _ _ e
  ·have e':c=d:=UInt8.toNat_inj.1 e;subst e';rw[uj] at h;rw[Bc,Bc,append_assoc,append_assoc,JL];exact UA s t x y h
  rw[y7,if_neg qN,if_pos (ua.2 e)] at h;exact absurd h w8
def pW(x y:Int):Int:=if x<y then -1 else if x>y then 1 else 0
def fM:List Int→Int
 | []=>0
 | a::l=>if a≠0 then a else fM l
def cmpL(a b:Vl):List Int:=[pW a.k b.k,pW a.n b.n,compareBytes a.s.data.toList b.s.data.toList]
def dX(a b:Vl):Int:=fM (cmpL a b)
theorem qt(x y:Int):pW x y = -1∧x<y∨pW x y=0∧x=y∨pW x y=1∧y<x:=by unfold pW;split;omega;split<;>omega
theorem PM(x y:Int):pW y x = - pW x y:=by
 rcases qt x y with h|h|h<;>rcases qt y x with k|k|k<;>omega
theorem wg(a b:Vl):dX b a = - dX a b:=by
 unfold dX cmpL fM fM fM fM;rw[PM a.k b.k,PM a.n b.n,Bp a.s.data.toList b.s.data.toList];repeat' split
 all_goals omega
theorem yH{a b:Vl}(h:dX a b=0):a=b:=by
 unfold dX cmpL fM fM fM fM at h;rcases qt a.k b.k with h1|h1|h1<;>rcases qt a.n b.n with h2|h2|h2<;>rcases I5 a.s.data.toList b.s.data.toList with h3|h3|h3
 all_goals (rw[h1.1,h2.1] at h;first|rw[h3.1] at h|rw[h3] at h)
 all_goals first
  | exact absurd h w8
  | exact Vl.ext' h1.2 h2.2 (Bm h3.2)
theorem UB{v w:Vl}(E:bW v=0)(I:v.Ok)(hw:bW w=0)(O:w.Ok)(x y:List UInt8)(h:dX v w = -1):compareBytes (pi v++x) (pi w++y) = -1:=by
 have Z:=Ks E;have kw:=Ks hw;unfold pi;rw[cons_append,cons_append];unfold dX cmpL fM fM fM fM at h;rcases qt v.k w.k with h1|h1|h1
 ·exact wX _ _ w4
 ·have U:kb v=kb w:=UInt8.toNat_inj.1 w4;rw[U,uj];rw[h1.1,if_neg bn] at h;have hk:=Ib E;have h4:v.k=0∨v.k=1∨v.k=2∨v.k=3:=(by omega)
  rcases qt v.n w.n with h2|h2|h2
  ·rcases h4 with e|e|e|e
   ·have:=E6 E e;have:=E6 hw w4;simp_all
   ·have n1:=Kt E e;have n2:=Kt hw w4;rw[FG e,FG w4];exact wX _ _ w4
   ·have u1:=Ku I;have u2:=Ku O;have b1:=I.n2;have b2:=O.n2;rw[FH e,FH w4];exact Va _ _ _ _ (by rw[wI,wI]) (by rw[Q6 w4,Q6 w4];omega)
   have:=Tg E e;have:=Tg hw w4;omega
  ·rw[h2.1,if_neg bn] at h;have h:compareBytes v.s.data.toList w.s.data.toList = -1:=by
    by_cases hz:compareBytes v.s.data.toList w.s.data.toList=0
    ·rw[hz] at h;simp at h
    rw[if_pos hz] at h;exact h
   rcases h4 with e|e|e|e
   ·rw[E6 E e,E6 hw w4] at h;exact absurd h w8
   ·rw[Te E e,Te hw w4] at h;exact absurd h w8
   ·rw[Tf E e,Tf hw w4] at h;exact absurd h w8
   rw[FI e,FI w4,append_assoc,append_assoc];exact UA _ _ _ _ h
  rw[h2.1,if_pos w8] at h;exact absurd h w8
 rw[h1.1,if_pos w8] at h;exact absurd h w8
theorem O2(v w:Vl):dX v w = -1∨dX v w=0∨dX v w=1:=by
 unfold dX cmpL fM fM fM fM;rcases qt v.k w.k with h1|h1|h1<;>rcases qt v.n w.n with h2|h2|h2<;>rcases I5 v.s.data.toList w.s.data.toList with h3|h3|h3
 all_goals (rw[h1.1,h2.1];first|rw[h3.1]|rw[h3])
 all_goals decide
theorem JM{v w:Vl}(E:bW v=0)(I:v.Ok)(hw:bW w=0)(O:w.Ok)(x y:List UInt8)(h:dX v w≠0):compareBytes (pi v++x) (pi w++y)=dX v w:=by
 rcases O2 v w with e|e|e
 ·rw[e];exact UB E I hw O x y e
 ·exact absurd e h
 rw[e,Bp,UB hw O E I y x (by rw[wg,e])];rfl

variable {G:List (Nat×List Value)} {m:Int}
def cI(n:Int):List D:=[ae n]
theorem acQ:∀{i:Nat} (hi:i<l.length),(∀x∈l.take i,x=0)→fM l=fM (l.drop i):=by
 induction l with
 | nil=>intro i hi;simp at hi
 | cons a l ih =>
  intro i hi h;cases i with
  | zero=>rfl
  | succ i =>
   have ha:a=0:=h a bn;show(if a≠0 then a else fM l)=fM (l.drop i);rw[if_neg (by simp[ha])];exact ih (by simpa using hi) (fun x hx=>h x (by simp[hx]))
theorem aeI{i:Nat}(hi:i<l.length)(h:∀x∈l.take i,x=0)(h1:l[i]≠0):fM l=l[i]:=by
 rw[acQ hi h,drop_eq_getElem_cons hi];exact if_pos h1
theorem Q7:∀{l:List Int},(∀x∈l,x=0)→fM l=0
 | [],_=>rfl
 | a::l,h=>by
  show(if a≠0 then a else fM l)=0;rw[if_neg (by simp[h a bn]),Q7 fun x hx=>h x (by simp[hx])]
theorem take_zero{i:Nat}(hi:i<l.length)(h:∀x∈l.take i,x=0)(h1:l[i]=0):∀x∈l.take (i+1),x=0:=fun x hx=>by
 rw[take_succ_eq_append_getElem hi] at hx;rcases mem_append.1 hx with hx|hx
 ·exact h x hx
 simp only[mem_singleton] at hx;rw[hx];exact h1
theorem UC(x:Int):VP Tryz.prog G 154 [ae x] (bJ false):=by
 refine VC.body func154 rfl ntmps154 aO fun X0 w0 bg=>?_;refine af [0] ?_;refine af [2] ?_;refine aI [] ?_;first|exact⟨rfl,rfl⟩|(refine⟨vb ?_,rfl⟩;simp)
theorem Th(x y:Int):VP Tryz.prog G 136 [ae x,ae y] (ae (pW x y)):=by
 refine VC.body func136 rfl ntmps136 aO fun X0 w0 bg=>?_;refine af [0,1] ?_;refine cz [0,1,5] (UC x) ?_;refine cz [0,1,5,6] (UC y) ?_;refine af [0,1,6,11] ?_;refine aq ?_ ?_<;>intro aP bC
 ·refine af [12] ?_;refine aq ?_ ?_<;>intro aZ cr
  ·exact z46
  exact z46
 refine af [0,1,13] ?_;refine aq ?_ ?_<;>intro bX cA
 ·exact z46
 refine af [0,1,16] ?_;refine aq ?_ ?_<;>intro cN dW
 ·exact z46
 refine af [19] ?_;refine aq ?_ ?_<;>intro ec fh
 ·exact z46
 refine af [4] ?_;refine aI [] ?_;first|exact⟨rfl,rfl⟩|(refine⟨vi ?_,rfl⟩;unfold pW;simp_all;done)|(refine⟨vi ?_,rfl⟩;unfold pW;split<;>(try split)<;>simp_all<;>omega)
theorem agr(l:List Int)(hl:l.length≤100):VP Tryz.prog G 135 [av 1 cI l] (ae (fM l)):=by
 refine VC.body func135 rfl ntmps135 aO fun X0 w0 bg=>?_;have c8:=dR;refine af [0] ?_;refine af [0,3] ?_;refine af [3,6,7,8] ?_;refine eA [3,6,7] (fun aX _ (i:Nat) aG=>(i≤l.length)∧(∀x∈l.take i,x=0)∧aG=(⟨18,(8,ae (i:Nat))::aX,[]⟩:St)) (fun (i:Nat)=>l.length-i) 0 ⟨(Nat.zero_le _),(fun x hx=>by simp at hx),rfl⟩ ?_;rintro i _ ⟨hi,hz,rfl⟩;refine af [3,6,7,8,9] ?_;refine aq ?_ ?_<;>intro aP bC
 ·have aa:i<l.length:=(by omega)
  refine af [3,5,6,7,8] ?_;refine af [3,5,6,7,8,14] ?_;refine aq ?_ ?_<;>intro aZ cr
  ·have aW:fM l=l[i]:=aeI aa hz vL;refine af [2] ?_;exact oQ
  refine cc [3,6,7,8] ?_;refine⟨(i+1),_,cq,aK,w4,(take_zero aa hz vL),rfl⟩
 have aW:fM l=0:=Q7 (by rw[take_of_length_le w4] at hz;exact hz);refine af [2] ?_;exact uE
theorem aeJ(a b:ByteArray):VP Tryz.prog G 137 [bj a,bj b] (ae (compareBytes a.data.toList b.data.toList)) :=
 VP.S4 (P:=Tryz.prog) (G:=G) (f:=137) (vs:=[.string a,.string b]) (v:=.int .i64 (compareBytes a.data.toList b.data.toList)) fun w _ =>
  (Tryz.strings_Compare a b w).mono fun e w' ⟨h1,h2⟩=>⟨h1,h2 ▸ Below.refl _ _⟩
theorem O3(a b:Vl)(ha:a.Ok)(hb:b.Ok):VP Tryz.prog G 104 [.agg (cV a),.agg (cV b)] (ae (dX a b)):=by
 refine VC.body func104 rfl ntmps104 aO fun X0 w0 bg=>?_;unfold cV;refine bU ?_;refine OD.box (ds:=[_,_,_]) ap rfl rfl ot rfl rfl (fun b2=>?_);refine OD.box (ds:=[_,_,_]) ap rfl rfl ot rfl rfl (fun b3=>?_);refine an 22 [2,3] ?_;refine cL [4] ?_;refine cH (Th a.k b.k) ?_;refine cH (Th a.n b.n) ?_;refine cH (aeJ a.s b.s) ?_;refine cH (agr (cmpL a b) (by show 3≤100;decide)) ?_;refine bI ?_;exact z51
def lS(a b:Vl):Int:=if bW a≠0 then bW a else bW b
def LM(a b:Vl):D:=.di [ae (if lS a b≠0 then 0 else dX a b),ae (lS a b)]
theorem Ti(a b:Vl):VP Tryz.prog G 101 [.agg (cV a),.agg (cV b)] (ae (lS a b)):=by
 refine VC.body func101 rfl ntmps101 aO fun X0 w0 bg=>?_;unfold cV;refine bU ?_;refine OD.box (ds:=[_,_,_]) ap rfl rfl ot rfl rfl (fun b2=>?_);refine OD.box (ds:=[_,_,_]) ap rfl rfl ot rfl rfl (fun b3=>?_);refine an 13 [2,3] ?_;refine cz [3,5] (pL a) ?_;refine af [3,5,9] ?_;refine aq ?_ ?_<;>intro aP bC
 ·refine af [4] ?_;refine aI [] ?_;refine⟨vi ?_,rfl⟩;unfold lS;simp_all
 refine cz [4] (pL b) ?_;refine aI [] ?_;refine⟨vi ?_,rfl⟩;unfold lS;simp_all
theorem aad(a b:Vl)(ha:a.Ok)(hb:b.Ok):VP Tryz.prog G 89 [.agg (cV a),.agg (cV b)] (LM a b):=by
 refine VC.body func89 rfl ntmps89 aO fun X0 w0 bg=>?_;unfold cV LM;refine bU ?_;refine OD.box (ds:=[_,_,_]) ap rfl rfl ot rfl rfl (fun b2=>?_);refine OD.box (ds:=[_,_,_]) ap rfl rfl ot rfl rfl (fun b3=>?_);refine an 16 [2,3] ?_;refine cz [2,3,6] (Ti a b) ?_;refine af [2,3,6,11] ?_;refine aq ?_ ?_<;>intro aP bC
 ·refine af [4,5] ?_;refine aI [] ?_;first|(simp_all;done)|(refine⟨?_,rfl⟩;simp_all;done)
 refine cz [4,5] (O3 a b ha hb) ?_;refine aI [] ?_;first|(simp_all;done)|(refine⟨?_,rfl⟩;simp_all;done)
theorem JN(l:List UInt8):compareBytes l l=0:=by have:=JL l [] [];rw[append_nil] at this;exact this

end Go.Proofs.YtdgichenhdikgaaGreatDoor.Cd
namespace Go.Proofs.YtdgichenhdikgaaGreatDoor.Pc
open List
open Go.Proofs.Tryz
open Go.RowKit V Pk Vl Go.Proofs.YtdgichenhdikgaaGreatDoor.Nm
variable {i:Nat}
def typesC:List Value:=[.string ⟨#[]⟩,.string ⟨#[66,79,79,76]⟩,.string ⟨#[73,78,84]⟩,.string ⟨#[84,69,88,84]⟩]
structure cj where
 n:ByteArray
 k:Int
variable {l:List cj}
def cC(c:cj):List D:=[bj c.n,ae c.k]
theorem lN(c:cj):(cC c).length=2:=rfl
theorem ags(c:cj):(cC c).all V.one=true:=rfl
def nD(pre:List cj)(c:cj):Int :=
 if cG c.n≠0 then cG c.n else if c.k<1∨c.k>3 then 2 else if (pre.any fun d=>d.n.toList==c.n.toList)=true then 9 else 0
def ru:List cj→List cj→Int
 | _,[]=>0
 | pre,c::r=>if nD pre c≠0 then nD pre c else ru (pre++[c]) r
def fD(l:List cj):Int:=if l.length<1∨l.length>6 then 1 else ru [] l
theorem aa4(hi:i<l.length)(h:nD (l.take i) l[i]=0):ru (l.take i) (l.drop i)=ru (l.take (i+1)) (l.drop (i+1)):=by
 rw[drop_eq_getElem_cons hi,take_succ_eq_append_getElem hi];exact if_neg (by simp[h])
theorem IZ(hi:i<l.length)(h:nD (l.take i) l[i]≠0):ru (l.take i) (l.drop i)=nD (l.take i) l[i]:=by
 rw[drop_eq_getElem_cons hi];exact if_pos h
theorem acR(hi:¬i<l.length):ru (l.take i) (l.drop i)=0:=by
 rw[drop_of_length_le w4];rfl
theorem IV(S:List ah):S.Perm (S++[]):=by rw[append_nil]
variable {G:List (Nat×List Value)}
theorem I6(ls:List cj)(g:Nat)(E:List D)(S:List ah)(p:cj→Bool)(fg:∀args w,(callFunc g args).run Tryz.prog w = .ok (.enter g args) w)(hp:∀x∈ls,VC Tryz.prog G g (.agg (cC x)::E) S (fun r S'=>r=bJ (p x)∧S'=S))(hlen:ls.length≤1000000):VC Tryz.prog G 106 [av 2 cC ls,.ew (.func g) E] S (fun r S'=>r=ae (cU p ls)∧S'=S):=by
 refine VC.body func106 rfl ntmps106 aO fun X0 w0 bg=>?_;unfold cC at hp;exact W9
theorem ZP(ls:List cj)(g:Nat)(E:List D)(S:List ah)(p:cj→Bool)(fg:∀args w,(callFunc g args).run Tryz.prog w = .ok (.enter g args) w)(hp:∀x∈ls,VC Tryz.prog G g (.agg (cC x)::E) S (fun r S'=>r=bJ (p x)∧S'=S))(hlen:ls.length≤1000000):VC Tryz.prog G 112 [av 2 cC ls,.ew (.func g) E] S (fun r S'=>r=bJ (ls.any p)∧S'=S):=by
 refine VC.body func112 rfl ntmps112 aO fun X0 w0 bg=>?_;refine aB 1 ?_;refine OD.wk (Wk.dG (n:=9) (l':=[(0,_),(1,_)]) (S':=S) rfl nc fa) ?_;refine OD.nil ?_;refine aB 2 ?_;refine OD.call ap rfl rfl rfl call106 (I6 ls g E S p fg hp hlen) ⟨tQ rfl lk,tQ rfl lk,trivial⟩ (IV _) ?_;rintro _ S2 ⟨rfl,iG⟩;rw[iG];clear iG;refine aF 2 ?_;refine OD.wk (Wk.dG (n:=9) (l':=[(4,_)]) (S':=S) rfl nc fa) ?_;refine OD.nil ?_;refine aI S ?_;refine⟨?_,rfl⟩;rw[QW]
theorem aeK(h x:cj)(b:Nat):VC Tryz.prog G 113 [.agg (cC h),cQ b] [⟨b,69,2,cC x⟩] (fun r S=>r=bJ (h.n.toList==x.n.toList)∧S=[⟨b,69,2,cC x⟩]):=by
 refine VC.body func113 rfl ntmps113 aO fun X0 w0 bg=>?_;unfold cC;refine bU ?_;refine OD.box (ds:=[_,_]) ap rfl rfl ot rfl rfl (fun b2=>?_);refine an 9 [1,2] ?_;refine af [3] ?_;refine aI [⟨b,69,2,cC x⟩] ?_;exact⟨rfl,rfl⟩
theorem aeL(hm:(3,marksC)∈G)(hw:(1,wordsC)∈G)(l:List cj)(hl:l.length≤maxLen)(aQ:∀c∈l,c.n.size≤maxLen):VP Tryz.prog G 67 [av 2 cC l] (ae (fD l)):=by
 refine VC.body func67 rfl ntmps67 aO fun X0 w0 bg=>?_;have c8:=dR;refine af [0] ?_;refine aB 4 ?_;refine bP 9 (fun Z O=>?_) (fun Z O=>?_)
 ·refine bq [0,13] ?_;refine eD ?_;have aW:fD l=1:=if_pos w4;exact xZ
 refine bq [0,13] ?_;refine aq ?_ ?_<;>intro aP bC
 ·have aW:fD l=1:=if_pos w4;exact xZ
 have h16:¬(l.length<1∨l.length>6):=(by omega)
 have E:fD l=ru (l.take 0) (l.drop 0):=if_neg h16;refine af [0,14,15,16] ?_;refine eA [0,14,15] (fun aX _ (i:Nat) aG=>(i≤l.length)∧(fD l=ru (l.take i) (l.drop i))∧aG=(⟨41,(16,ae (i:Nat))::aX,[]⟩:St)) (fun (i:Nat)=>l.length-i) 0 ⟨(Nat.zero_le _),E,rfl⟩ ?_;rintro i _ ⟨hi,hinv,rfl⟩;refine af [0,14,15,16,17] ?_;refine aq ?_ ?_<;>intro aZ cr
 ·have aa:i<l.length:=(by omega)
  refine aB 3 ?_;refine OD.alloc (ds:=[_,_]) ap rfl rfl zeroValue69 rfl (fun b4=>?_);refine aF 1 ?_;refine aR 0 [_,_] sizeOf69 ?_;refine an 41 [0,3,4,14,15,16] ?_;refine cz [0,3,4,5,14,15,16] (tT hm hw l[i].n (aQ _ (getElem_mem aa))) ?_;refine af [0,3,4,5,14,15,16,25] ?_;refine aq ?_ ?_<;>intro bX cA
  ·have hne:cG l[i].n≠0:=(by simpa using bX)
   have hf:nD (l.take i) l[i]=cG l[i].n:=if_pos hne;have aW:fD l=cG l[i].n:=(by rw[hinv,IZ aa (by rw[hf];exact hne),hf])
   refine af [2] ?_;exact oQ
  have gE:¬cG l[i].n≠0:=(by simpa using bX)
  refine aB 4 ?_;refine bP 30 (fun U I=>?_) (fun U I=>?_)
  ·refine bq [0,3,4,14,15,16,34] ?_;refine eD ?_;exact V5
  refine bq [0,3,4,14,15,16,34] ?_;refine aq ?_ ?_<;>intro cN dW
  ·exact V5
  have hk:¬(l[i].k<1∨l[i].k>3):=(by omega)
  refine aB 2 ?_;refine bN (eB (l:=0) rfl ot trivial ⟨_,ot⟩ (by first|exact nQ lN (fun h=>by cases h) runUnderlying27 sizeOf69 w4|exact oB (fun h=>by cases h) runUnderlying27 sizeOf69 w4|exact nP (fun _=>rfl) (fun h=>by cases h) runUnderlying27 sizeOf69 w4 w4)) ?_;refine bN (pK (ds:=[_]) rfl ⟨ot,trivial⟩) ?_;refine OD.call ap rfl rfl rfl call112 (ZP (l.take i) 113 [cQ b4] _ (fun d=>d.n.toList==l[i].n.toList) call113 (fun h _=>aeK h l[i] b4) oO) ⟨tQ rfl lk,tQ rfl lk,trivial⟩ (mo (k:=0) rfl) ?_;rintro _ S2 ⟨rfl,iG⟩;rw[iG];clear iG;refine an 41 [0,14,15,16,39] ?_;refine aq ?_ ?_<;>intro ec fh
  ·have hf:nD (l.take i) l[i]=9:=(by unfold nD;rw[if_neg gE,if_neg hk,if_pos ec])
   have aW:fD l=9:=(by rw[hinv,IZ aa (by rw[hf];decide),hf])
   refine af [2] ?_;exact oQ
  have hf:nD (l.take i) l[i]=0:=(by unfold nD;rw[if_neg gE,if_neg hk,if_neg (by rw[ec];simp)])
  have jg:=hinv.trans (aa4 aa hf);refine cc [0,14,15,16] ?_;refine⟨(i+1),_,cq,aK,w4,jg,rfl⟩
 have aW:fD l=0:=(by rw[hinv];exact acR w4)
 refine af [2] ?_;exact uE

end Go.Proofs.YtdgichenhdikgaaGreatDoor.Pc
namespace Go.Proofs.YtdgichenhdikgaaGreatDoor.Pa
open List
open Go.Proofs.Tryz
open Go.RowKit V Pk Vl Go.Proofs.YtdgichenhdikgaaGreatDoor.Nm Pc
structure cm where
 kind:Int
 table:ByteArray
 ay:List cj
 row:List Vl
 names:List ByteArray
 count:Bool
 aj:List aJ
 order:ByteArray
 down:Bool
 hU:Int
 set:ByteArray
 bL:List aJ
def fW:cm:=⟨0,⟨#[]⟩,[],[],[],false,[],⟨#[]⟩,false,-1,⟨#[]⟩,[]⟩

end Go.Proofs.YtdgichenhdikgaaGreatDoor.Pa
namespace Go.Proofs.YtdgichenhdikgaaGreatDoor.Pa







open List
open Go.Proofs.Tryz
open Go.RowKit V Pk Vl Go.Proofs.YtdgichenhdikgaaGreatDoor.Nm Pc
variable {G:List (Nat×List Value)}
variable {α:Type}
theorem El{ls:List (List α)}{j:Nat}(h:j<ls.length):(ls.take (j+1)).flatten=(ls.take j).flatten++ls[j]:=by
 rw[take_succ_eq_append_getElem h,flatten_append,flatten_cons,flatten_nil,append_nil]
theorem OF{ls:List (List α)}{j:Nat}(h:j<ls.length):((ls.take (j+1)).flatten).length=((ls.take j).flatten).length+ls[j].length:=by rw[El h,length_append]
theorem OK(ls:List (List α))(j:Nat):((ls.take j).flatten).length≤ls.flatten.length:=by
 conv=>rhs;rw[←take_append_drop j ls,flatten_append,length_append]
 omega
theorem aa5{e sz b cap:Nat}(h:cap≤maxLen):bp e sz [] 0 (some ⟨b,0,none⟩) cap [⟨b,e,cap*sz,[]⟩]:=.inr ⟨b,rfl,Nat.zero_le _,h,rfl⟩

end Go.Proofs.YtdgichenhdikgaaGreatDoor.Pa
namespace Go.Proofs.YtdgichenhdikgaaGreatDoor.Pa



open List
open Go.Proofs.Tryz
open Go.RowKit V Pk Vl Go.Proofs.YtdgichenhdikgaaGreatDoor.Nm Pc
variable {G:List (Nat×List Value)}
variable {α:Type} {i n:Nat} {ts h:List (List Tk)} {o:aJ}
def agt:List ByteArray:=[⟨#[]⟩,⟨#[66,79,79,76]⟩,⟨#[73,78,84]⟩,⟨#[84,69,88,84]⟩]

theorem lP(t:Tk):(cT t).all V.one=true:=rfl
def bE(s:ByteArray):Tk:=⟨1,s,0⟩
def dL(s:ByteArray):Tk:=⟨4,s,0⟩
def cK(l:List Tk):List D:=[av 3 cT l]
theorem gb(l:List Tk):(cK l).length=1:=rfl
theorem pP(l:List Tk):(cK l).all V.one=true:=rfl
theorem tM{β:Type}(f:α→β){l:List α}(hi:i<l.length):(l.take i).map f++[f l[i]]=(l.take (i+1)).map f:=by rw[take_succ_eq_append_getElem hi,map_append];rfl
theorem JO{β:Type}(f:α→β){l:List α}(hi:l.length≤i):(l.take i).map f=l.map f:=by rw[take_of_length_le hi]
theorem nu(s:ByteArray):VP Tryz.prog G 78 [bj s] (.agg (cT (dL s))):=by
 refine VC.body func78 rfl ntmps78 aO fun X0 w0 bg=>?_;exact V2
theorem ri(s:ByteArray):VP Tryz.prog G 117 [bj s] (.agg (cT (bE s))):=by
 refine VC.body func117 rfl ntmps117 aO fun X0 w0 bg=>?_;exact V2
theorem AT:(Tryz.prog.info? 137).map (fun i=>(i.zero,i.size,i.bytes))=some (some (.agg #[.int .i64 0,.string ⟨#[]⟩,.int .i64 0]),3,32):=by kernel_rfl
theorem ze(l:List ByteArray)(hl:l.length≤10):VC Tryz.prog G 73 [av 1 cS l] [] (gh cT 137 3 (l.map bE)):=by
 refine VC.body func73 rfl ntmps73 aO fun X0 w0 bg=>?_;have c8:=dR;refine af [0] ?_;refine bU ?_;refine bq [0,3] ?_;refine af [3,6,7,8] ?_;refine CD.block ?_;refine nl (fun (E:Nat×Option Addr×Nat×List ah) aG=>match E with|(i,O,U,Sa)=>(i≤l.length)∧(bp 137 3 (((l.take i).map bE).flatMap cT) ((l.take i).map bE).length O U Sa)∧aG=(⟨19,[(3,aN O ((l.take i).map bE).length U),(6,av 1 cS l),(7,ae (l.length:Nat)),(8,ae (i:Nat))],(Sa)⟩:St)) (fun (E:Nat×Option Addr×Nat×List ah)=>match E with|(i,O,U,Sa)=>l.length-i) (0,none,0,[]) ⟨(Nat.zero_le _),(bp.cast iy jS),rfl⟩ (aK (h:=by repeat (first|exact trivial|refine⟨(by (repeat (first|exact fu|(apply fT;focus (first|rfl|(simp;done)|(congr 2;omega)|(apply eG;exact tM bE aa)|(apply eG;simp;done)))|(apply fC;focus rfl)));done),?_⟩))) ?_;rintro⟨i,O,U,Sa⟩ _ ⟨hi,oT,rfl⟩;refine af [3,6,7,8,9] ?_;refine aq ?_ ?_<;>intro aP bC
 ·have aa:i<l.length:=(by omega)
  refine af [3,5,6,7,8] ?_;refine dK 2 ?_;refine dP call117 (ri l[i]) ?_;refine en (cf 0 [_]) [.int .i64 0,.string ⟨#[]⟩,.int .i64 0] [_,_,_] zeroValue137 runUnderlying98 sizeOf137 (fun b15=>?_);refine fA 0 15 3 1 ?_;refine OD.ey (ls:=((l.take i).map bE)) (new:=[bE l[i]]) (Sq:=Sa) iJ lP ap rfl rfl underlying98 AT rfl w8 ot oT (cZ (A:=[])) ot bn (by have c8:=dR;(try simp only[length_append,length_cons,length_nil,length_map,length_take]);omega) (by have c8:=dR;(try simp only[length_append,length_cons,length_nil,length_map,length_take]);omega) (fun Z I ajD ajE=>?_);refine OD.perm (dV (S1:=[⟨Z,137,I*3,flatMap cT (((l.take i).map bE)++[bE l[i]])⟩]) (A:=[])) ?_;refine an 19 [3,6,7,8] ?_;refine cc [3,6,7,8] ?_;refine⟨((i+1),(some ⟨Z,0,none⟩),I,[⟨Z,137,I*3,flatMap cT (((l.take i).map bE)++[bE l[i]])⟩]),_,cq,(aK (h:=by repeat (first|exact trivial|refine⟨(by (repeat (first|exact fu|(apply fT;focus (first|rfl|(simp;done)|(congr 2;omega)|(apply eG;exact tM bE aa)|(apply eG;simp;done)))|(apply fC;focus rfl)));done),?_⟩))),w4,(bp.cast (bM ajD ajE) (by exact tM bE aa)),rfl⟩
 have eS:=JO bE (show l.length≤i by omega);refine af [2] ?_;refine aI _ ?_;exact gh.cast (gh.mk oT) eS
theorem sB(l:List ByteArray)(hl:l.length≤10):VP Tryz.prog G 73 [av 1 cS l] (.list 3 ((l.map bE).flatMap cT) (l.map bE).length):=VC.wV iJ (ze l hl)
def kY(ts:List (List Tk)):Nat→List Tk
 | 0=>[dL ⟨#[40]⟩]
 | i+1=>kY ts i++(if i>0 then [dL ⟨#[44]⟩] else [])++ts.getD i []
def mv(ts:List (List Tk)):List Tk:=kY ts ts.length++[dL ⟨#[41]⟩]
theorem EY{ts:List (List Tk)}(h:∀x∈ts,x.length≤10):∀i,(kY ts i).length≤1+11*i
 | 0=>Nat.le_refl _
 | i+1=>by
  have E:=EY h i;have h2:(ts.getD i []).length≤10:=by
   rw[getD_eq_getElem?_getD];cases hx:ts[i]? with
   | none=>exact Nat.zero_le _
   | some x=>exact h x (mem_of_getElem? hx)
  have h3:(if i>0 then [dL ⟨#[44]⟩] else []).length≤1:=(by split<;>simp)
  unfold kY;rw[length_append,length_append];omega
theorem IY(hi:i<ts.length)(h:0<i):(kY ts i++[dL ⟨#[44]⟩])++ts[i]=kY ts (i+1):=by
 rw[kY,if_pos h,getD_eq_getElem?_getD,getElem?_eq_getElem hi];rfl
theorem Im(hi:i<ts.length)(h:¬0<i):kY ts i++ts[i]=kY ts (i+1):=by
 rw[kY,if_neg h,append_nil,getD_eq_getElem?_getD,getElem?_eq_getElem hi];rfl
theorem Tj(ts:List (List Tk))(hl:ts.length≤10)(Mr:∀x∈ts,x.length≤10):VP Tryz.prog G 74 [av 1 cK ts] (.list 3 ((mv ts).flatMap cT) (mv ts).length):=by
 refine VC.body func74 rfl ntmps74 aO fun X0 w0 bg=>?_;have c8:=dR;refine af [0] ?_;refine bU ?_;refine dP call78 (nu ⟨#[40]⟩) ?_;refine en (cf 0 [_]) [.int .i64 0,.string ⟨#[]⟩,.int .i64 0] [_,_,_] zeroValue137 runUnderlying98 sizeOf137 (fun b7=>?_);refine OD.perm (dV (S1:=[⟨b7,137,1*3,flatMap cT ([dL ⟨#[40]⟩])⟩]) (A:=[])) ?_;refine an 29 [0,3] ?_;refine af [3,8,9,10] ?_;refine CD.block ?_;refine nl (fun (E:Nat×Option Addr×Nat×List ah) aG=>match E with|(i,I,O,Sa)=>(i≤ts.length)∧(bp 137 3 ((kY ts i).flatMap cT) (kY ts i).length I O Sa)∧aG=(⟨29,[(3,aN I (kY ts i).length O),(8,av 1 cK ts),(9,ae (ts.length:Nat)),(10,ae (i:Nat))],(Sa)⟩:St)) (fun (E:Nat×Option Addr×Nat×List ah)=>match E with|(i,I,O,Sa)=>ts.length-i) (0,(some ⟨b7,0,none⟩),1,[⟨b7,137,1*3,flatMap cT ([dL ⟨#[40]⟩])⟩]) ⟨(Nat.zero_le _),(bp.cast (bM (g:=cT) (sz:=3) (e:=137) (ls:=[dL ⟨#[40]⟩]) (Nat.le_refl _) (show 1≤maxLen by decide)) (by rfl)),rfl⟩ (aK (h:=by repeat (first|exact trivial|refine⟨(by (repeat (first|exact fu|(apply fT;focus (first|rfl|(simp;done)|(congr 2;omega)|(apply eG;first|exact IY aa w4|exact Im aa w4)|(apply eG;rfl)|(apply eG;simp;done)))|(apply fC;focus rfl)));done),?_⟩))) ?_;rintro⟨i,I,O,Sa⟩ _ ⟨hi,oT,rfl⟩;refine af [3,8,9,10,11] ?_;refine aq ?_ ?_<;>intro aP bC
 ·have aa:i<ts.length:=(by omega)
  refine af [3,4,5,8,9,10] ?_;refine af [3,5,8,9,10,16] ?_;refine aq ?_ ?_<;>intro aZ cr
  ·refine dK 1 ?_;refine dP call78 (nu ⟨#[44]⟩) ?_;refine en (cf 0 [_]) [.int .i64 0,.string ⟨#[]⟩,.int .i64 0] [_,_,_] zeroValue137 runUnderlying98 sizeOf137 (fun b19=>?_);refine fA 0 19 3 1 ?_;refine OD.ey (ls:=(kY ts i)) (new:=[dL ⟨#[44]⟩]) (Sq:=Sa) iJ lP ap rfl rfl underlying98 AT rfl w8 ot oT (cZ (A:=[])) ot bn vE vE (fun NF U ajF ajG=>?_);refine OD.perm (dV (S1:=[⟨NF,137,U*3,flatMap cT ((kY ts i)++[dL ⟨#[44]⟩])⟩]) (A:=[])) ?_;refine an 29 [3,5,8,9,10] ?_;refine dK 2 ?_;refine OD.pJ (ls:=((kY ts i)++[dL ⟨#[44]⟩])) (new:=ts[i]) (Sq:=[⟨NF,137,U*3,flatMap cT ((kY ts i)++[dL ⟨#[44]⟩])⟩]) iJ lP ap rfl rfl underlying98 AT rfl w8 runUnderlying98 sizeOf137 ot (bM ajF ajG) (cZ (A:=[])) ot vE vE (fun VD VE Xt VF=>?_);exact Xq
  refine dK 2 ?_;refine OD.pJ (ls:=(kY ts i)) (new:=ts[i]) (Sq:=Sa) iJ lP ap rfl rfl underlying98 AT rfl w8 runUnderlying98 sizeOf137 ot oT (cZ (A:=[])) ot vE vE (fun VD VE Xt VF=>?_);exact Xq
 have sX:i=ts.length:=(by omega)
 have nF:kY ts i++[dL ⟨#[41]⟩]=mv ts:=(by unfold mv;rw[←sX])
 refine aB 1 ?_;refine dP call78 (nu ⟨#[41]⟩) ?_;refine en (cf 0 [_]) [.int .i64 0,.string ⟨#[]⟩,.int .i64 0] [_,_,_] zeroValue137 runUnderlying98 sizeOf137 (fun b27=>?_);refine fA 0 27 3 1 ?_;refine OD.ey (ls:=(kY ts i)) (new:=[dL ⟨#[41]⟩]) (Sq:=Sa) iJ lP ap rfl rfl underlying98 AT rfl w8 ot oT (cZ (A:=[])) ot bn vE vE (fun ND Z ajH ajI=>?_);refine OD.perm (dV (S1:=[⟨ND,137,Z*3,flatMap cT ((kY ts i)++[dL ⟨#[41]⟩])⟩]) (A:=[])) ?_;refine an 29 [2] ?_;refine CD.gP (t:=2) (Sq:=[⟨ND,137,Z*3,flatMap cT ((kY ts i)++[dL ⟨#[41]⟩])⟩]) lk (bM ajH ajI) (cn iJ _) (cZ (A:=[])) ?_;refine aI [] ?_;rw[nF];exact⟨rfl,rfl⟩
def jh(v:Vl):List Tk :=
 if v.k=0 then [bE ⟨#[78,85,76,76]⟩]
 else if v.k=1 then [bE (if v.n=0 then ⟨#[70,65,76,83,69]⟩ else ⟨#[84,82,85,69]⟩)]
 else if v.k=3 then [⟨3,v.s,0⟩]
 else if v.n<0 then [dL ⟨#[45]⟩,⟨2,⟨#[]⟩,-v.n⟩] else [⟨2,⟨#[]⟩,v.n⟩]
def nq(v:Vl):Prop:=(v.k=1→v.n=0∨v.n=1)∧-9223372036854775807≤v.n∧v.n≤9223372036854775807
theorem PN(v:Vl):0<(jh v).length∧(jh v).length≤2:=by
 unfold jh;repeat' split
 all_goals exact⟨by simp,by simp⟩
def FX:List ByteArray:=[⟨#[]⟩,⟨#[]⟩,⟨#[]⟩,⟨#[]⟩,⟨#[]⟩,⟨#[]⟩,⟨#[61]⟩,⟨#[60]⟩,⟨#[43]⟩,⟨#[45]⟩,⟨#[42]⟩]
def zJ(k:Int):Tk:=if k=3 then bE ⟨#[65,78,68]⟩ else if k=4 then bE ⟨#[79,82]⟩ else dL (FX.getD k.toNat ⟨#[]⟩)
theorem ahR{j:Nat}(h:j<11):(FX.map fun s=>D.v (.string s))[j*1]?=some (bj (FX[j]'h)):=by
 rw[Nat.mul_one,getElem?_map,getElem?_eq_getElem h];rfl
theorem OL(v:Vl)(h:nq v):VP Tryz.prog G 75 [.agg (cV v)] (.list 3 ((jh v).flatMap cT) (jh v).length):=by
 refine VC.body func75 rfl ntmps75 aO fun X0 w0 bg=>?_;obtain⟨h1,h2,h3⟩:=h;unfold cV;refine bU ?_;refine OD.box (ds:=[_,_,_]) ap rfl rfl ot rfl rfl (fun b1=>?_);refine an 42 [1] ?_;refine af [1,3] ?_;refine aq ?_ ?_<;>intro aP bC
 ·refine cz [2] (sB [⟨#[78,85,76,76]⟩] Ae) ?_;exact G1
 refine af [1,9] ?_;refine aq ?_ ?_<;>intro aZ cr
 ·have de:v.k=1:=(by simpa using aZ)
  obtain⟨j,hj,I⟩:∃j:Nat,v.n=(j:Int)∧j<2:=(by (rcases h1 de with h|h;exact⟨0,h,by decide⟩;exact⟨1,h,by decide⟩))
  rw[hj];refine cL [2] ?_;refine Ns (g:=cS) ([⟨#[70,65,76,83,69]⟩,⟨#[84,82,85,69]⟩]) ?_;refine aS 3 ?_ (h:=by exact(cR (mk:=Op.load 9) rfl ot (by exact qB (i:=j) jf isAgg9 (by show j<2;omega) rfl)));refine cH (sB [([⟨#[70,65,76,83,69]⟩,⟨#[84,82,85,69]⟩]:List ByteArray)[j]'(by show j<2;omega)] Ae) ?_;refine bI ?_;exact G1
 refine af [1,20] ?_;refine aq ?_ ?_<;>intro bX cA
 ·refine aB 3 ?_;refine en (cf 0 [_]) [.int .i64 0,.string ⟨#[]⟩,.int .i64 0] [_,_,_] zeroValue137 runUnderlying98 sizeOf137 (fun E=>?_);refine OD.perm (dV (S1:=[⟨E,137,1*3,flatMap cT ([(⟨3,v.s,0⟩:Tk)])⟩]) (A:=[_])) ?_;refine an 42 [2] ?_;refine CD.gP (t:=2) (Sq:=[⟨E,137,1*3,flatMap cT ([(⟨3,v.s,0⟩:Tk)])⟩]) lk (bM (g:=cT) (sz:=3) (e:=137) (ls:=[(⟨3,v.s,0⟩:Tk)]) (Nat.le_refl _) (show 1≤maxLen by decide)) (cn iJ _) (cZ (A:=[_])) ?_;exact G1
 refine af [1,28] ?_;refine aq ?_ ?_<;>intro cN dW
 ·refine cL [2] ?_;refine cH (nu ⟨#[45]⟩) ?_;refine aS 2 ?_ (h:=by exact(EF rfl ot (Km (wrap_i64 w4 w4))));refine bI ?_;exact G1
 refine aB 3 ?_;refine en (cf 0 [_]) [.int .i64 0,.string ⟨#[]⟩,.int .i64 0] [_,_,_] zeroValue137 runUnderlying98 sizeOf137 (fun vP=>?_);refine OD.perm (dV (S1:=[⟨vP,137,1*3,flatMap cT ([(⟨2,⟨#[]⟩,v.n⟩:Tk)])⟩]) (A:=[_])) ?_;refine an 42 [2] ?_;refine CD.gP (t:=2) (Sq:=[⟨vP,137,1*3,flatMap cT ([(⟨2,⟨#[]⟩,v.n⟩:Tk)])⟩]) lk (bM (g:=cT) (sz:=3) (e:=137) (ls:=[(⟨2,⟨#[]⟩,v.n⟩:Tk)]) (Nat.le_refl _) (show 1≤maxLen by decide)) (cn iJ _) (cZ (A:=[_])) ?_;refine aI [] ?_;refine⟨?_,rfl⟩;unfold jh;first|(rw[if_pos bC];first|done|rfl)|(rw[if_neg bC,if_pos de,hj];rcases j with _|_|j<;>first|rfl|omega)|(rw[if_neg bC,if_neg cr,if_pos cA];first|done|rfl)|(rw[if_neg bC,if_neg cr,if_neg cA,if_pos w4,show -v.n=0-v.n by omega];first|done|rfl)|(rw[if_neg bC,if_neg cr,if_neg cA,if_neg w4];first|done|rfl)
theorem aae(k:Int)(h:k=3∨k=4∨6≤k∧k≤10):VP Tryz.prog G 119 [ae k] (.agg (cT (zJ k))):=by
 refine VC.body func119 rfl ntmps119 aO fun X0 w0 bg=>?_;refine bU ?_;refine OD.alloc (ds:=[_,_,_]) ap rfl rfl zeroValue137 rfl (fun b2=>?_);refine an 14 [0,2] ?_;refine af [0,2,3] ?_;refine af [0,2,3,4] ?_;refine aq ?_ ?_<;>intro aP bC
 ·refine bU ?_;refine dP call117 (ri ⟨#[65,78,68]⟩) ?_;exact Xz
 refine af [0,2,7] ?_;refine aq ?_ ?_<;>intro aZ cr
 ·refine bU ?_;refine dP call117 (ri ⟨#[79,82]⟩) ?_;exact Xz
 have j9:¬k=3:=(by simpa using aP)
 have x4:¬k=4:=(by simpa using aZ)
 obtain⟨j,rfl⟩:∃j:Nat,k=(j:Int):=⟨k.toNat,by omega⟩
 have hj:j<11:=(by omega)
 refine bU ?_;refine bN (D4 (pl:=[(6,_),(7,_),(8,_),(9,_),(10,_)]) (ds:=[_,_,_,_,_,_,_,_,_,_,_]) rfl zeroValue215 runUnderlying215 sizeOf9 ⟨rfl,bV,rfl,bV,rfl,bV,rfl,bV,rfl,bV,trivial⟩ rfl rfl) ?_;refine aF 1 ?_;refine bN (Z2 (j:=j) rfl ot ot runUnderlying215 sizeOf9 isAgg9 rfl hj (ahR hj)) ?_;refine dP call78 (nu (FX[j]'hj)) ?_;refine aR 0 [_,_,_] sizeOf137 ?_;refine an 14 [2] ?_;refine aI [] ?_;refine⟨?_,rfl⟩;unfold zJ;first|(rw[if_neg j9,if_neg x4,show((j:Nat):Int).toNat=j from rfl,getD_eq_getElem?_getD,getElem?_eq_getElem hj];rfl)|(rw[if_pos xP];rfl)|(rw[if_neg xP,if_pos vL];rfl)

def Dc(q:List Tk):List D:=[av 3 cT q]
theorem OQ:(Tryz.prog.info? 137).map (fun i=>(i.zero,i.size,i.bytes))=some (some (.agg #[.int .i64 0,.string ⟨#[]⟩,.int .i64 0]),3,32):=by kernel_rfl
theorem aa6(n:Nat)(h0:0<n)(hn:n≤100000):VC Tryz.prog G 118 [bH,ae (n:Nat)] [] (fun r S=>∃b cap,cap≤maxLen∧r=aN (some ⟨b,0,none⟩) 0 cap∧S=[⟨b,137,cap*3,[]⟩]):=by
 refine VC.body func118 rfl ntmps118 aO fun X0 w0 bg=>?_;refine af [0,1] ?_;refine af [0,1,6] ?_;refine aq ?_ ?_<;>intro aP bC
 ·exact absurd aP uz
 refine cL [0,1] ?_;refine aS 2 ?_ (h:=by exact(Ej rfl rfl ot runUnderlying98));refine aS 1 ?_ (h:=by exact(cR (mk:=fun y=>.call {callee:=.builtin .len,args:=#[y],argTypes:=#[98]}) rfl ot (SV rfl runUnderlying98)));refine bI ?_;refine af [0,1,16] ?_;refine aq ?_ ?_<;>intro aZ cr
 ·refine dK 2 ?_;refine bN (Ej rfl rfl ot runUnderlying98) ?_;refine bN (D2 rfl ot rfl ⟨_,_,ot,rfl⟩ runUnderlying98 sizeOf137) ?_;refine aF 1 ?_;refine OD.acL (m:=n) (sz:=3) ap rfl rfl underlying98 underlying3 OQ rfl w8 ot (Eq.trans ot (congrArg (fun z=>D.v (.int .i64 z)) (show((n:Nat):Int)-(0-0)=((n:Nat):Int) by omega))) h0 GR w4 (fun b cap h1 h2=>?_);refine aF 1 ?_;refine bN (cR (mk:=fun y=>.call {callee:=.builtin .len,args:=#[y],argTypes:=#[98]}) rfl ot (SV rfl runUnderlying98)) ?_;refine bN (eB (l:=0) (h:=0) rfl ot trivial ⟨_,ot⟩ (by first|exact oB (fun h=>by cases h) runUnderlying98 sizeOf137 w4|exact nP (fun _=>rfl) (fun h=>by cases h) runUnderlying98 sizeOf137 w4 w4)) ?_;refine an 27 [0] ?_;refine af [4] ?_;refine aI [⟨b,137,cap*3,[]⟩] ?_;exact⟨b,cap,h2,rfl,rfl⟩
 exact absurd aZ (by simp at aZ;omega)
theorem ZQ(ls:List (List Tk))(Yp:ls.length≤1000)(h0:0<ls.flatten.length)(hn:ls.flatten.length≤100000):VC Tryz.prog G 77 [av 1 Dc ls] [] (fun r S=>∃ad cap,r=aN ad ls.flatten.length cap∧bp 137 3 (ls.flatten.flatMap cT) ls.flatten.length ad cap S):=by
 refine VC.body func77 rfl ntmps77 aO fun X0 w0 bg=>?_;refine af [0] ?_;refine af [0,3] ?_;refine af [0,3,9,10,11] ?_;refine CD.block ?_;refine nl (fun (j:Nat) aG=>(j≤ls.length)∧aG=(⟨36,[(0,av 1 Dc ls),(3,ae ((((ls.take j).flatten).length:Nat):Int)),(9,av 1 Dc ls),(10,ae (ls.length:Nat)),(11,ae (j:Nat))],[]⟩:St)) (fun (j:Nat)=>ls.length-j) 0 ⟨(Nat.zero_le _),rfl⟩ (aK (h:=by repeat (first|exact trivial|refine⟨(by (repeat (first|exact fu|(apply fT;focus (first|rfl|(congr 2;omega)|(simp;done)))|(apply fC;focus rfl)));done),?_⟩))) ?_;rintro j _ ⟨hj,rfl⟩;refine af [0,3,9,10,11,12] ?_;refine aq ?_ ?_<;>intro aP bC
 ·have aa:j<ls.length:=(by simp at aP;omega)
  have O:=OF aa;have hle:=OK ls (j+1);refine af [0,3,5,9,10,11] ?_;refine cL [0,3,9,10,11] ?_;refine aS 3 ?_ (h:=by exact(dz (r:=.int .i64 ((((ls.take (j+1)).flatten).length:Nat):Int)) rfl ot ot (kr (by rw[show((((ls.take j).flatten).length:Nat):Int)+(ls[j].length:Nat)=((((ls.take (j+1)).flatten).length:Nat):Int) by omega];exact wrap_i64 w4 w4))));refine bI ?_;refine af [0,3,9,10,11,20] ?_;refine aq ?_ ?_<;>intro aZ cr
  ·exact absurd aZ (by simp at aZ;omega)
  refine cc [0,3,9,10,11] ?_;refine⟨(j+1),_,cq,(aK (h:=by repeat (first|exact trivial|refine⟨(by (repeat (first|exact fu|(apply fT;focus (first|rfl|(congr 2;omega)|(simp;done)))|(apply fC;focus rfl)));done),?_⟩))),w4,rfl⟩
 obtain rfl:j=ls.length:=(by simp at aP;omega)
 rw[take_length];refine aB 1 ?_;refine OD.call ap rfl rfl rfl call118 (aa6 ls.flatten.length h0 hn) ⟨bV,ot,trivial⟩ (Perm.refl _) ?_;rintro _ _ ⟨b,cp,xW,rfl,rfl⟩;refine OD.perm (Perm.refl _) ?_;refine an 36 [0,6] ?_;refine af [6,25,26,27] ?_;refine CD.block ?_;refine nl (fun (E:Nat×Option Addr×Nat×List ah) aG=>match E with|(j,c9,cM,Sx)=>(j≤ls.length)∧(bp 137 3 (((ls.take j).flatten).flatMap cT) ((ls.take j).flatten).length c9 cM Sx)∧aG=(⟨36,[(6,aN c9 ((ls.take j).flatten).length cM),(25,av 1 Dc ls),(26,ae (ls.length:Nat)),(27,ae (j:Nat))],(Sx)⟩:St)) (fun (E:Nat×Option Addr×Nat×List ah)=>match E with|(j,c9,cM,Sx)=>ls.length-j) (0,(some ⟨b,0,none⟩),cp,[⟨b,137,cp*3,[]⟩]) ⟨(Nat.zero_le _),(bp.cast (aa5 xW) (by rfl)),rfl⟩ (aK (h:=by repeat (first|exact trivial|refine⟨(by (repeat (first|exact fu|(apply fT;focus (first|rfl|(simp;done)|(congr 2;omega)|(apply eG;rw[El aa])|(apply eG;rfl)|(apply eG;simp;done)))|(apply fC;focus rfl)));done),?_⟩))) ?_;rintro⟨j,c9,cM,Sx⟩ _ ⟨hj,dN,rfl⟩;refine af [6,25,26,27,28] ?_;refine aq ?_ ?_<;>intro bX cA
 ·have aa:j<ls.length:=(by simp at bX;omega)
  have O:=OF aa;have hle:=OK ls (j+1);refine af [6,8,25,26,27] ?_;refine dK 2 ?_;refine OD.pJ (ls:=((ls.take j).flatten)) (new:=ls[j]) (Sq:=Sx) iJ lP ap rfl rfl underlying98 OQ rfl w8 runUnderlying98 sizeOf137 ot dN (cZ (A:=[])) ot GR w4 (fun U Z S33 ajJ=>?_);refine OD.perm (dV (A:=[])) ?_;refine an 36 [6,25,26,27] ?_;refine cc [6,25,26,27] ?_;refine⟨((j+1),U,Z,S33),_,cq,(aK (h:=by repeat (first|exact trivial|refine⟨(by (repeat (first|exact fu|(apply fT;focus (first|rfl|(simp;done)|(congr 2;omega)|(apply eG;rw[El aa])|(apply eG;rfl)|(apply eG;simp;done)))|(apply fC;focus rfl)));done),?_⟩))),w4,(bp.cast ajJ (by rw[El aa])),rfl⟩
 obtain rfl:j=ls.length:=(by simp at bX;omega)
 refine af [2] ?_;refine aI Sx ?_;have I:=dN;rw[take_length] at I;exact⟨c9,cM,by rw[take_length],I⟩
theorem Em(ls:List (List Tk))(E:ls.length≤1000)(h0:0<ls.flatten.length)(hn:ls.flatten.length≤100000):VP Tryz.prog G 77 [av 1 Dc ls] (av 3 cT ls.flatten):=VC.wV iJ (ZQ ls E h0 hn)
def sO(o:aJ)(a b:List Tk):List Tk :=
 if o.k=1 then jh o.v else if o.k=2 then [bE o.nm]
 else if o.k=5 then [[dL ⟨#[40]⟩,bE ⟨#[78,79,84]⟩],a,[dL ⟨#[41]⟩]].flatten
 else if o.k=11 then [[dL ⟨#[40]⟩],a,[bE ⟨#[73,83]⟩,bE ⟨#[78,85,76,76]⟩],[dL ⟨#[41]⟩]].flatten
 else [[dL ⟨#[40]⟩],a,[zJ o.k],b,[dL ⟨#[41]⟩]].flatten
def eH(h:List (List Tk))(o:aJ):Nat:=h.length-(bw o.k).toNat
def oH(h:List (List Tk))(o:aJ):List (List Tk):=h.take (eH h o)++[sO o (h.getD (eH h o) []) (h.getD (eH h o+1) [])]
def ry(l:List aJ):List Tk:=(l.foldl oH []).getD 0 []
theorem aeM{h:Int}(he:eX h o=0):1≤o.k∧o.k≤11∧iP o.v=0∧bw o.k≤h:=by
 unfold eX at he;split at he
 ·cases he
 split at he
 ·exact absurd he uB
 split at he
 ·cases he
 split at he
 ·rename_i h4;exact absurd he h4.2
 split at he
 ·cases he
 exact⟨by omega,by omega,by omega,by omega⟩
theorem aeN{l:List aJ}{h:Int}(hi:i<l.length)(he:fF h (l.drop i)=0):eX h l[i]=0:=by
 rw[drop_eq_getElem_cons hi,fF] at he;split at he
 ·assumption
 exact he
theorem Fv{v:Vl}(h:iP v=0)(h1:-9223372036854775808≤v.n)(h2:v.n≤9223372036854775807):nq v:=by
 unfold iP bW at h;split at h
 ·cases h
 have hn:¬(v.k=2∧v.n = -9223372036854775808):=(by assumption)
 repeat' split at h
 all_goals first|(exfalso;omega)|(unfold nq;refine⟨?_,?_,h2⟩<;>omega)
theorem Q8(hp:bw o.k≤(h.length:Int)):((oH h o).length:Int)=h.length+(1-bw o.k):=by
 have:=qz o.k;unfold oH eH;rw[length_append,length_take];simp only[length_cons,length_nil];omega
theorem AP(h:List (List Tk))(n:Nat):h.flatten.length=(h.take n).flatten.length+(h.drop n).flatten.length:=by
 conv=>lhs;rw[←take_append_drop n h,flatten_append,length_append]
theorem uV:(h.getD n []).length≤(h.drop n).flatten.length∧(h.getD n []).length+(h.getD (n+1) []).length≤(h.drop n).flatten.length:=by
 by_cases hn:n<h.length
 ·rw[drop_eq_getElem_cons hn];have e1:h.getD n []=h[n]:=(by rw[getD_eq_getElem?_getD,getElem?_eq_getElem hn];rfl)
  rw[e1,flatten_cons,length_append];refine⟨by omega,?_⟩;by_cases iR:n+1<h.length
  ·rw[drop_eq_getElem_cons iR,flatten_cons,length_append];have e2:h.getD (n+1) []=h[n+1]:=(by rw[getD_eq_getElem?_getD,getElem?_eq_getElem iR];rfl)
   rw[e2];omega
  have e2:h.getD (n+1) []=[]:=(by rw[getD_eq_getElem?_getD,getElem?_eq_none w4];rfl)
  rw[e2];simp only[length_nil];omega
 have e1:h.getD n []=[]:=(by rw[getD_eq_getElem?_getD,getElem?_eq_none w4];rfl)
 have e2:h.getD (n+1) []=[]:=(by rw[getD_eq_getElem?_getD,getElem?_eq_none w4];rfl)
 rw[e1,e2];exact⟨by simp,by simp⟩
theorem Tm(o:aJ)(a b:List Tk):(sO o a b).length≤a.length+b.length+5∧0<(sO o a b).length:=by
 have:=PN o.v;unfold sO;repeat' split
 all_goals first|exact⟨by omega,by omega⟩|(simp only[flatten_cons,flatten_nil,length_append,length_cons,length_nil];exact⟨by omega,by omega⟩)
theorem PO:(oH h o).flatten.length≤h.flatten.length+5:=by
 have h1:=AP h (eH h o);have h2:=(uV (h:=h) (n:=eH h o)).2;have h3:=(Tm o (h.getD (eH h o) []) (h.getD (eH h o+1) [])).1;unfold oH;rw[flatten_append,length_append];simp only[flatten_cons,flatten_nil,append_nil];omega
theorem aa7{l:List aJ}(hi:i<l.length):(l.take (i+1)).foldl oH []=oH ((l.take i).foldl oH []) l[i]:=by
 rw[take_succ_eq_append_getElem hi,foldl_append];rfl
theorem E7{e sz cap:Nat}{cs:List D}{ad:Option Addr}{S:List ah}(h:bp e sz cs n ad cap S)(hn:0<n):∃b,ad=some ⟨b,0,none⟩∧n≤cap∧cap≤maxLen∧S=[⟨b,e,cap*sz,cs⟩]:=by
 rcases h with ⟨h1,_⟩|h
 ·omega
 exact h
theorem mI{h:List α}{d:α}(hn:n<h.length):h.getD n d=h[n]:=by rw[getD_eq_getElem?_getD,getElem?_eq_getElem hn];rfl
theorem aaf:(Tryz.prog.info? 98).map (fun i=>(i.zero,i.size,i.bytes))=some (some (.slice none 0 0),1,24):=by kernel_rfl
theorem O4(l:List aJ)(hl:l.length≤40)(he:fF 0 l=0)(hr:∀o∈l,-9223372036854775808≤o.v.n∧o.v.n≤9223372036854775807):VP Tryz.prog G 79 [av 5 cO l] (.list 3 ((ry l).flatMap cT) (ry l).length):=by
 refine VC.body func79 rfl ntmps79 aO fun X0 w0 bg=>?_;have c8:=dR;refine af [0] ?_;refine bU ?_;refine bq [0,3] ?_;refine af [3,8,9,10] ?_;refine CD.block ?_;refine nl (fun (kK:Nat×List (List Tk)×Option Addr×Nat×List ah) aG=>match kK with|(i,H,AA,kf,Sh)=>(i≤l.length)∧(H=(l.take i).foldl oH [])∧(fF ((H).length:Int) (l.drop i)=0)∧((H).length≤i)∧((H).flatten.length≤5*i)∧(bp 98 1 ((H).flatMap cK) (H).length AA kf Sh)∧aG=(⟨90,[(3,aN AA (H).length kf),(8,av 5 cO l),(9,ae (l.length:Nat)),(10,ae (i:Nat))],(Sh)⟩:St)) (fun (kK:Nat×List (List Tk)×Option Addr×Nat×List ah)=>match kK with|(i,H,AA,kf,Sh)=>l.length-i) (0,[],none,0,[]) ⟨(Nat.zero_le _),rfl,he,(Nat.le_refl _),(Nat.le_refl _),(bp.cast iy (by rfl)),rfl⟩ (aK (h:=by repeat (first|exact trivial|refine⟨(by (repeat (first|exact fu|(apply fT;focus (first|rfl|(simp;done)|(congr 2;omega)|(apply eG;rw[hT];rfl)|(apply eG;rfl)|(apply eG;simp;done)))|(apply fC;focus rfl)));done),?_⟩))) ?_;rintro⟨i,H,AA,kf,Sh⟩ _ ⟨hi,hH,hx,hHi,hHf,oc,rfl⟩;refine af [3,8,9,10,11] ?_;refine aq ?_ ?_<;>intro aP bC
 ·have aa:i<l.length:=(by simp at aP;omega)
  have Ay:=aeN aa hx;obtain⟨de,Wj,vp,Hh⟩:=aeM Ay;have C9:=qz l[i].k;have LN:l.length≤40:=hl;have ajK:eH H l[i]≤H.length:=Nat.sub_le _ _;have ajL:=Fv vp (hr _ (getElem_mem aa)).1 (hr _ (getElem_mem aa)).2;refine aB 2 ?_;refine OD.alloc (ds:=[_,_,_,_,_]) ap rfl rfl zeroValue43 rfl (fun b5=>?_);refine aR 0 [_,_,_,_,_] sizeOf43 ?_;refine an 90 [3,5,8,9,10] ?_;refine cL [3,5,6,8,9,10] ?_;refine cH (yW l[i].k) ?_;refine aS 0 ?_ (h:=by exact(dz (r:=.int .i64 (((eH H l[i]):Nat):Int)) rfl ot ot (gY (by rw[show((H.length:Nat):Int)-bw l[i].k=(((eH H l[i]):Nat):Int) by unfold eH;omega];exact wrap_i64 w4 w4))));refine bI ?_;refine af [3,5,6,8,9,10] ?_;refine jV [6,8,9,10] (fun aX _ aG=>∃(Tx:List Tk),∃(ad:Option Addr),∃(cp:Nat),∃(Sx:List ah),(Tx=sO l[i] (H.getD (eH H l[i]) []) (H.getD (eH H l[i]+1) []))∧(bp 98 1 (H.flatMap cK) H.length ad cp Sx)∧aG=(⟨90,(3,aN ad H.length cp)::(7,av 3 cT Tx)::aX,Sx⟩:St)) ?_ ?_
  ·refine af [3,5,6,8,9,10,21] ?_;refine af [3,5,6,8,9,10,21,41] ?_;refine aq ?_ ?_<;>intro aZ cr
   ·refine ik [3,6,7,8,9,10] ?_;refine cH (OL l[i].v ajL) ?_;refine bI ?_;refine⟨_,aK,jh l[i].v,AA,kf,Sh,(by unfold sO;rw[if_pos cr]),oc,rfl⟩
   refine af [3,5,6,8,9,10,21,46] ?_;refine aq ?_ ?_<;>intro bX cA
   ·refine ik [3,6,7,8,9,10] ?_;refine cH (sB [l[i].nm] Ae) ?_;refine bI ?_;refine⟨_,aK,[bE l[i].nm],AA,kf,Sh,(by unfold sO;rw[if_neg cr,if_pos cA]),oc,rfl⟩
   refine af [3,5,6,8,9,10,21,52] ?_;refine aq ?_ ?_<;>intro cN dW
   ·have De:l[i].k=5:=(by simpa using cN)
    have hp1:bw l[i].k=1:=(by rw[De];decide)
    have hg1:=(uV (h:=H) (n:=eH H l[i])).1;have hg2:=(uV (h:=H) (n:=eH H l[i])).2;have hg3:=AP H (eH H l[i]);have U:0<H.length:=(by omega)
    obtain⟨bh,E,I,O,Z⟩:=E7 oc U;subst E Z;have gE:eH H l[i]<H.length:=(by unfold eH;omega)
    rw[mI gE] at hg1 hg2;skip;refine ik [3,6,7,8,9,10] ?_;refine cH (nu ⟨#[40]⟩) ?_;refine cH (ri ⟨#[78,79,84]⟩) ?_;refine aS 4 ?_ (h:=by first|exact(cR (mk:=Op.load 98) rfl ot MG)|exact(cR (mk:=Op.load 98) rfl ot MF)|exact(cR (mk:=Op.load 98) rfl ot ME));refine cH (nu ⟨#[41]⟩) ?_;refine cH (Em ([[dL ⟨#[40]⟩,bE ⟨#[78,79,84]⟩],H[eH H l[i]],[dL ⟨#[41]⟩]]) MK zY zY) ?_;refine bI ?_;refine⟨_,aK,[[dL ⟨#[40]⟩,bE ⟨#[78,79,84]⟩],H[eH H l[i]],[dL ⟨#[41]⟩]].flatten,(some ⟨bh,0,none⟩),kf,[⟨bh,98,kf*1,H.flatMap cK⟩],(by unfold sO;rw[if_neg cr,if_neg cA,if_pos dW,mI gE]),(bM I O),rfl⟩
   refine af [3,5,6,8,9,10,65] ?_;refine aq ?_ ?_<;>intro ec fh
   ·have NG:l[i].k=11:=(by simpa using ec)
    have hp1:bw l[i].k=1:=(by rw[NG];decide)
    have hg1:=(uV (h:=H) (n:=eH H l[i])).1;have hg2:=(uV (h:=H) (n:=eH H l[i])).2;have hg3:=AP H (eH H l[i]);have U:0<H.length:=(by omega)
    obtain⟨bh,E,I,O,Z⟩:=E7 oc U;subst E Z;have gE:eH H l[i]<H.length:=(by unfold eH;omega)
    rw[mI gE] at hg1 hg2;skip;refine ik [3,6,7,8,9,10] ?_;refine cH (nu ⟨#[40]⟩) ?_;refine aS 4 ?_ (h:=by first|exact(cR (mk:=Op.load 98) rfl ot MG)|exact(cR (mk:=Op.load 98) rfl ot MF)|exact(cR (mk:=Op.load 98) rfl ot ME));refine cH (sB [⟨#[73,83]⟩,⟨#[78,85,76,76]⟩] (by show 2≤10;decide)) ?_;refine cH (nu ⟨#[41]⟩) ?_;refine cH (Em ([[dL ⟨#[40]⟩],H[eH H l[i]],[bE ⟨#[73,83]⟩,bE ⟨#[78,85,76,76]⟩],[dL ⟨#[41]⟩]]) MK zY zY) ?_;refine bI ?_;refine⟨_,aK,[[dL ⟨#[40]⟩],H[eH H l[i]],[bE ⟨#[73,83]⟩,bE ⟨#[78,85,76,76]⟩],[dL ⟨#[41]⟩]].flatten,(some ⟨bh,0,none⟩),kf,[⟨bh,98,kf*1,H.flatMap cK⟩],(by unfold sO;rw[if_neg cr,if_neg cA,if_neg dW,if_pos fh,mI gE]),(bM I O),rfl⟩
   have hkb:¬l[i].k=1∧¬l[i].k=2∧¬l[i].k=5∧¬l[i].k=11:=⟨by simpa using aZ,by simpa using bX,by simpa using cN,by simpa using ec⟩
   have nI:bw l[i].k=2:=(by unfold bw;rw[if_neg w4,if_neg w4])
   have hg1:=(uV (h:=H) (n:=eH H l[i])).1;have hg2:=(uV (h:=H) (n:=eH H l[i])).2;have hg3:=AP H (eH H l[i]);have U:0<H.length:=(by omega)
   obtain⟨bh,E,I,O,Z⟩:=E7 oc U;subst E Z;have gE:eH H l[i]<H.length:=(by unfold eH;omega)
   have gk:eH H l[i]+1<H.length:=(by unfold eH;omega)
   rw[mI gE,mI gk] at hg2;rw[mI gE] at hg1;refine ik [3,6,7,8,9,10] ?_;refine cH (nu ⟨#[40]⟩) ?_;refine aS 4 ?_ (h:=by first|exact(cR (mk:=Op.load 98) rfl ot MG)|exact(cR (mk:=Op.load 98) rfl ot MF)|exact(cR (mk:=Op.load 98) rfl ot ME));refine cH (aae l[i].k w4) ?_;refine aS 3 ?_ (h:=by exact(dz (r:=.int .i64 ((((eH H l[i])+1:Nat)):Int)) rfl ot bV (kr (by rw[show(((eH H l[i]):Nat):Int)+1=(((eH H l[i])+1:Nat):Int) by omega];exact wrap_i64 w4 w4))));refine aS 1 ?_ (h:=by first|exact(cR (mk:=Op.load 98) rfl ot (by exact iT (k:=0) (i:=((eH H l[i])+1)) gb rfl rfl rfl isAgg98 gk rfl))|exact(cR (mk:=Op.load 98) rfl ot (by exact iT (k:=1) (i:=((eH H l[i])+1)) gb rfl rfl rfl isAgg98 gk rfl))|exact(cR (mk:=Op.load 98) rfl ot (by exact iT (k:=2) (i:=((eH H l[i])+1)) gb rfl rfl rfl isAgg98 gk rfl)));refine cH (nu ⟨#[41]⟩) ?_;refine cH (Em ([[dL ⟨#[40]⟩],H[eH H l[i]],[zJ l[i].k],H[eH H l[i]+1],[dL ⟨#[41]⟩]]) MK zY zY) ?_;refine bI ?_;refine⟨_,aK,[[dL ⟨#[40]⟩],H[eH H l[i]],[zJ l[i].k],H[eH H l[i]+1],[dL ⟨#[41]⟩]].flatten,(some ⟨bh,0,none⟩),kf,[⟨bh,98,kf*1,H.flatMap cK⟩],(by unfold sO;rw[if_neg cr,if_neg cA,if_neg dW,if_neg fh,mI gE,mI gk]),(bM I O),rfl⟩
  rintro _ ⟨Tx,ad,cp,Sx,hT,dN,rfl⟩;have hTl:=Tm l[i] (H.getD (eH H l[i]) []) (H.getD (eH H l[i]+1) []);refine dK 3 ?_;refine bN (Zm dN rfl ot ot ot runUnderlying130 sizeOf98 (by unfold eH;omega)) ?_;refine aF 1 ?_;refine en (cf 0 [_]) [.slice none 0 0] [_] zeroValue98 runUnderlying130 sizeOf98 (fun b84=>?_);refine fA 0 84 1 1 ?_;refine OD.aaa (ls:=H) (new:=[Tx]) (n:=eH H l[i]) (Sq:=Sx) gb pP ap rfl rfl underlying130 aaf rfl w8 ot dN (cZ (A:=[])) (by unfold eH;omega) ot bn (by simp only[maxLen,length_cons,length_nil];omega) (by simp only[length_cons,length_nil];omega) (fun NH LO ajM ajN=>?_);refine OD.perm (dV (S1:=[⟨NH,98,LO*1,flatMap cK (H.take (eH H l[i])++[Tx])⟩]) (A:=[])) ?_;refine an 90 [3,8,9,10] ?_;refine cc [3,8,9,10] ?_;refine⟨((i+1),(oH H l[i]),(some ⟨NH,0,none⟩),LO,[⟨NH,98,LO*1,flatMap cK (H.take (eH H l[i])++[Tx])⟩]),_,cq,(aK (h:=by repeat (first|exact trivial|refine⟨(by (repeat (first|exact fu|(apply fT;focus (first|rfl|(simp;done)|(congr 2;omega)|(apply eG;rw[hT];rfl)|(apply eG;rfl)|(apply eG;simp;done)))|(apply fC;focus rfl)));done),?_⟩))),w4,(by rw[hH,←aa7 aa]),(by rw[Q8 Hh,←QF aa Ay];exact hx),(by have:=Q8 Hh;omega),(by have:=PO (h:=H) (o:=l[i]);omega),(bp.cast (bM ajM ajN) (by rw[hT];rfl)),rfl⟩
 have sX:l.length≤i:=(by simp at aP;omega)
 have eS:=hx;rw[PI sX] at eS;have hH1:H.length=1:=(by (split at eS;omega;cases eS))
 refine CD.exit ?_;refine CD.seq ?_;obtain⟨bh,E,I,O,Z⟩:=E7 oc (show 0<H.length by omega);subst E Z;have gE:0<H.length:=(by omega)
 refine ik [2] ?_;refine aS 1 ?_ (h:=by exact(su (mk:=Op.indexAddr 130) rfl ot bV (by first|exact tX runUnderlying130 sizeOf98 (j:=0) rfl (by first|exact gE|exact gk)|exact uf runUnderlying130 sizeOf98 (j:=0) rfl (by first|exact gE|exact gk))));refine aS 0 ?_ (h:=by first|exact(cR (mk:=Op.load 98) rfl ot (by exact iT (k:=0) (i:=0) gb rfl rfl rfl isAgg98 gE rfl))|exact(cR (mk:=Op.load 98) rfl ot (by exact iT (k:=1) (i:=0) gb rfl rfl rfl isAgg98 gE rfl))|exact(cR (mk:=Op.load 98) rfl ot (by exact iT (k:=2) (i:=0) gb rfl rfl rfl isAgg98 gE rfl)));refine bI ?_;refine aI [] ?_;refine⟨?_,rfl⟩;unfold ry;rw[show l.foldl oH []=H by rw[hH,take_of_length_le sX],mI gE]

end Go.Proofs.YtdgichenhdikgaaGreatDoor.Pa
namespace Go.Proofs.YtdgichenhdikgaaGreatDoor.Pa

open List
open Go.Proofs.Tryz
open Go.RowKit V Pk Vl Go.Proofs.YtdgichenhdikgaaGreatDoor.Nm Pc
variable {G:List (Nat×List Value)}
variable {α:Type} {i:Nat} {E:List ByteArray}
def bK(s:cm):List D:=[ae s.kind,bj s.table,av 2 cC s.ay,av 3 cV s.row,av 1 cS s.names,bJ s.count,av 5 cO s.aj,bj s.order,bJ s.down,ae s.hU,bj s.set,av 5 cO s.bL]
def okS(s:cm):Prop:=s.ay.length≤6∧s.row.length≤6∧s.names.length≤6∧s.aj.length≤40∧s.bL.length≤40

def jL{α:Type}(f:α→Int):List α→Int
 | []=>0
 | a::r=>if f a≠0 then f a else jL f r
theorem Q9{f:α→Int}{l:List α}(hi:i<l.length)(h:f l[i]≠0):jL f (l.drop i)=f l[i]:=by rw[drop_eq_getElem_cons hi,jL,if_pos h]
theorem Ra{f:α→Int}{l:List α}(hi:i<l.length)(h:f l[i]=0):jL f (l.drop i)=jL f (l.drop (i+1)):=by rw[drop_eq_getElem_cons hi,jL,if_neg (by rw[h];decide)]
theorem PP{f:α→Int}{l:List α}(hi:l.length≤i):jL f (l.drop i)=0:=by rw[drop_of_length_le hi];rfl
def dB(l:List Vl):Int:=if l.length<1∨l.length>6 then 1 else jL iP l
def nS(l:List aJ):Int:=if l.length=0 then 0 else gz l
def pc(s:cm):Int :=
 if s.names.length>6 then 1 else if s.hU < -1 then 3
 else if (s.count=true∧0<s.names.length)∨(s.down=true∧ja s.order ⟨#[]⟩=true) then 6
 else if jL cG s.names≠0 then jL cG s.names else if nS s.aj≠0 then nS s.aj else if ja s.order ⟨#[]⟩=true then 0 else cG s.order
def ji(s h:cm):Bool:=ja s.table h.table&&(((s.ay.length:Int)==(h.ay.length:Int))&&(((s.row.length:Int)==(h.row.length:Int))&&(((s.names.length:Int)==(h.names.length:Int))&&((s.count==h.count)&&(((s.aj.length:Int)==(h.aj.length:Int))&&(ja s.order h.order&&((s.down==h.down)&&((s.hU==h.hU)&&(ja s.set h.set&&((s.bL.length:Int)==(h.bL.length:Int)))))))))))
structure jA (s:cm):Prop where
 ok:okS s
 t:s.table.size≤maxLen
 c:∀c∈s.ay,c.n.size≤maxLen
 n:∀x∈s.names,x.size≤maxLen
 o:s.order.size≤maxLen
 e:s.set.size≤maxLen
 r:∀v∈s.row,-9223372036854775808≤v.n∧v.n≤9223372036854775807
 w:∀o∈s.aj,o.nm.size≤maxLen∧-9223372036854775808≤o.v.n∧o.v.n≤9223372036854775807
 x:∀o∈s.bL,o.nm.size≤maxLen∧-9223372036854775808≤o.v.n∧o.v.n≤9223372036854775807
def kD(l:List aJ):List Tk:=if l.length=0 then [] else [⟨#[87,72,69,82,69]⟩].map bE++ry l
theorem QG(hm:(3,marksC)∈G)(hw:(1,wordsC)∈G)(l:List ByteArray)(hl:l.length≤1000)(hs:∀s∈l,s.size≤maxLen):VP Tryz.prog G 115 [av 1 cS l] (ae (jL cG l)):=by
 refine VC.body func115 rfl ntmps115 aO fun X0 w0 bg=>?_;refine af [0] ?_;refine af [6,7,8] ?_;refine eA [6,7] (fun aX _ (i:Nat) aG=>(i≤l.length)∧(jL cG l=jL cG (l.drop i))∧aG=(⟨18,(8,ae (i:Nat))::aX,[]⟩:St)) (fun (i:Nat)=>l.length-i) 0 ⟨(Nat.zero_le _),rfl,rfl⟩ ?_;rintro i _ ⟨hi,hx,rfl⟩;refine af [6,7,8,9] ?_;refine aq ?_ ?_<;>intro aP bC
 ·have aa:i<l.length:=(by simp at aP;omega)
  refine af [4,6,7,8] ?_;refine cz [5,6,7,8] (tT hm hw l[i] (hs _ (getElem_mem aa))) ?_;refine af [5,6,7,8,15] ?_;refine aq ?_ ?_<;>intro aZ cr
  ·have hn:cG l[i]≠0:=(by simpa using aZ)
   have eS:=hx.trans (Q9 aa hn);refine af [2] ?_;exact z76
  have h0:cG l[i]=0:=(by simpa using aZ)
  refine cc [6,7,8] ?_;refine⟨(i+1),_,cq,aK,w4,(hx.trans (Ra aa h0)),rfl⟩
 have eS:jL cG l=0:=hx.trans (PP uz);refine af [2] ?_;exact CM
theorem aeO(l:List Vl)(hl:l.length≤1000):VP Tryz.prog G 68 [av 3 cV l] (ae (dB l)):=by
 refine VC.body func68 rfl ntmps68 aO fun X0 w0 bg=>?_;have O:(l.length<1∨l.length>6)∨¬(l.length<1∨l.length>6):=(by omega)
 refine af [0] ?_;refine aB 4 ?_;refine bP 9 (fun I E=>?_) (fun I E=>?_)
 ·refine bq [0,13] ?_;refine eD ?_;exact VO
 refine bq [0,13] ?_;refine aq ?_ ?_<;>intro aP bC
 ·exact VO
 have hf:dB l=jL iP l:=if_neg w4;refine af [14,15,16] ?_;refine eA [14,15] (fun aX _ (i:Nat) aG=>(i≤l.length)∧(jL iP l=jL iP (l.drop i))∧aG=(⟨26,(16,ae (i:Nat))::aX,[]⟩:St)) (fun (i:Nat)=>l.length-i) 0 ⟨(Nat.zero_le _),rfl,rfl⟩ ?_;rintro i _ ⟨hi,hx,rfl⟩;refine af [14,15,16,17] ?_;refine aq ?_ ?_<;>intro aZ cr
 ·have aa:i<l.length:=(by simp at aZ;omega)
  refine aB 2 ?_;refine OD.alloc (ds:=[_,_,_]) ap rfl rfl zeroValue41 rfl (fun b4=>?_);refine aR 0 [_,_,_] sizeOf41 ?_;refine an 26 [4,14,15,16] ?_;refine cz [5,14,15,16] (Nm.O0 l[i]) ?_;refine af [5,14,15,16,23] ?_;refine aq ?_ ?_<;>intro bX cA
  ·have hn:iP l[i]≠0:=(by simpa using bX)
   have eS:=hf.trans (hx.trans (Q9 aa hn));refine af [2] ?_;exact z76
  have h0:iP l[i]=0:=(by simpa using bX)
  refine cc [14,15,16] ?_;refine⟨(i+1),_,cq,aK,w4,(hx.trans (Ra aa h0)),rfl⟩
 have eS:dB l=0:=hf.trans (hx.trans (PP (by simp at aZ;omega)));refine af [2] ?_;exact CM
theorem Ee(hm:(3,marksC)∈G)(hw:(1,wordsC)∈G)(l:List aJ)(hs:∀o∈l,o.nm.size≤maxLen):VP Tryz.prog G 71 [av 5 cO l] (ae (nS l)):=by
 refine VC.body func71 rfl ntmps71 aO fun X0 w0 bg=>?_;refine af [0] ?_;refine af [0,5] ?_;refine aq ?_ ?_<;>intro aP bC
 ·have eS:nS l=0:=if_pos uz;refine af [2] ?_;exact z76
 have eS:nS l=gz l:=if_neg uz;refine cz [2] (JJ hm hw l hs) ?_;exact CM
theorem acS(hm:(3,marksC)∈G)(hw:(1,wordsC)∈G)(s:cm)(hf:jA s):VP Tryz.prog G 69 [.agg (bK s)] (ae (pc s)):=by
 refine VC.body func69 rfl ntmps69 aO fun X0 w0 bg=>?_;unfold bK;refine bU ?_;refine OD.box (ds:=[_,_,_,_,_,_,_,_,_,_,_,_]) ap rfl rfl ot rfl rfl (fun b1=>?_);refine an 50 [1] ?_;refine af [1,5] ?_;refine aq ?_ ?_<;>intro aP bC
 ·refine af [2] ?_;refine aI [] ?_;exact Xa
 refine af [1,10] ?_;refine aq ?_ ?_<;>intro aZ cr
 ·refine af [2] ?_;refine aI [] ?_;exact Xa
 refine aB 3 ?_;refine bP 17 (fun xq wT=>?_) (fun xq wT=>?_)
 ·refine aF 6 ?_;refine bP 23 (fun U O=>?_) (fun U O=>?_)
  ·refine bq [1,14] ?_;refine eD ?_;refine af [2] ?_;exact z24
  refine aF 3 ?_;refine bP 26 (fun I E=>?_) (fun I E=>?_)
  ·exact V6
  refine bq [1,14] ?_;refine fJ ?_;exact z20
 refine x5 4 ?_;refine aF 5 ?_;refine bP 26 (fun I E=>?_) (fun I E=>?_)
 ·exact V6
 refine bq [1,14] ?_;refine fJ ?_;refine cz [1,3] (QG hm hw s.names (by have:=hf.ok.2.2.1;omega) hf.n) ?_;refine af [1,3,36] ?_;refine aq ?_ ?_<;>intro cN dW
 ·refine af [2] ?_;exact z24
 refine cz [1,4] (Ee hm hw s.aj (fun o h=>(hf.w o h).1)) ?_;refine af [1,4,42] ?_;refine aq ?_ ?_<;>intro ec fh
 ·refine af [2] ?_;exact z24
 refine af [1,46] ?_;refine aq ?_ ?_<;>intro fj gA
 ·refine cz [2] (tT hm hw s.order hf.o) ?_;exact z24
 refine af [2] ?_;refine eJ ?_;refine⟨vi ?_,rfl⟩;unfold pc ja;simp_all;all_goals (try (intros;(repeat' split)<;>first|rfl|omega))
theorem aeP(s h:cm):VP Tryz.prog G 72 [.agg (bK s),.agg (bK h)] (bJ (ji s h)):=by
 refine VC.body func72 rfl ntmps72 aO fun X0 w0 bg=>?_;unfold bK;refine bU ?_;refine OD.box (ds:=[_,_,_,_,_,_,_,_,_,_,_,_]) ap rfl rfl ot rfl rfl (fun b2=>?_);refine OD.box (ds:=[_,_,_,_,_,_,_,_,_,_,_,_]) ap rfl rfl ot rfl rfl (fun b3=>?_);refine an 90 [2,3] ?_;refine aB 6 ?_;refine bP 10 (fun ajO E=>?_) (fun ajO E=>?_)
 ·refine aF 9 ?_;refine bP 19 (fun LP I=>?_) (fun LP I=>?_)
  ·refine aF 9 ?_;refine bP 28 (fun ajP O=>?_) (fun ajP O=>?_)
   ·refine aF 9 ?_;refine bP 37 (fun ajQ U=>?_) (fun ajQ U=>?_)
    ·refine aF 4 ?_;refine OD.still iq rfl (dz rfl ot ot (EC underlying4)) ?_;refine aF 2 ?_;refine bP 44 (fun ajR Z=>?_) (fun ajR Z=>?_)
     ·refine aF 9 ?_;refine bP 53 (fun LS KY=>?_) (fun LS KY=>?_)
      ·refine aF 7 ?_;refine bP 60 (fun ajS KZ=>?_) (fun ajS KZ=>?_)
       ·refine aF 4 ?_;refine OD.still iq rfl (dz rfl ot ot (EC underlying4)) ?_;refine aF 2 ?_;refine bP 67 (fun ajT ahS=>?_) (fun ajT ahS=>?_)
        ·refine aF 7 ?_;refine bP 74 (fun ajU ahT=>?_) (fun ajU ahT=>?_)
         ·refine aF 7 ?_;refine bP 81 (fun ajV ahU=>?_) (fun ajV ahU=>?_)
          ·exact xX
          exact xX
         exact xX
        exact xX
       exact xX
      exact xX
     exact xX
    refine bq [4] ?_;refine eJ ?_;exact z49
   refine bq [4] ?_;refine eJ ?_;exact z49
  refine bq [4] ?_;refine eJ ?_;exact z49
 refine bq [4] ?_;refine eJ ?_;refine⟨vb ?_,rfl⟩;unfold ji ja;simp_all;all_goals (try (intros;omega))
theorem ZR:(Tryz.prog.info? 137).map (fun i=>(i.zero,i.size,i.bytes))=some (some (.agg #[.int .i64 0,.string ⟨#[]⟩,.int .i64 0]),3,32):=by kernel_rfl
theorem HS(l:List aJ)(hl:l.length≤40)(he:l.length=0∨fF 0 l=0)(hr:∀o∈l,-9223372036854775808≤o.v.n∧o.v.n≤9223372036854775807)(hsl:(ry l).length≤1000):VP Tryz.prog G 80 [av 5 cO l] (.list 3 ((kD l).flatMap cT) (kD l).length):=by
 refine VC.body func80 rfl ntmps80 aO fun X0 w0 bg=>?_;refine af [0] ?_;refine af [0,5] ?_;refine aq ?_ ?_<;>intro aP bC
 ·have eS:kD l=[]:=if_pos uz;refine af [2] ?_;refine CD.wk (Wk.tU (t:=2) (sz:=3) lk) ?_;exact z76
 have eS:kD l=[⟨#[87,72,69,82,69]⟩].map bE++ry l:=if_neg uz;have I:fF 0 l=0:=he.resolve_left uz;refine bU ?_;refine en (cf 0 [_]) [.string ⟨#[]⟩] [_] zeroValue9 runUnderlying29 sizeOf9 (fun b6=>?_);refine OD.perm (dV (S1:=[⟨b6,9,1*1,flatMap cS ([⟨#[87,72,69,82,69]⟩])⟩]) (A:=[])) ?_;refine OD.gP (t:=6) (Sq:=[⟨b6,9,1*1,flatMap cS ([⟨#[87,72,69,82,69]⟩])⟩]) lk (bM (g:=cS) (sz:=1) (e:=9) (ls:=[⟨#[87,72,69,82,69]⟩]) (Nat.le_refl _) (show 1≤maxLen by decide)) (cn jf _) (cZ (A:=[])) ?_;refine OD.call ap rfl rfl rfl call73 (ze [⟨#[87,72,69,82,69]⟩] Ae) ⟨ot,trivial⟩ (eV _) ?_;rintro _ S7 ⟨Yq,Yr,rfl,qe⟩;refine OD.perm (S':=S7) (append_nil _ ▸ Perm.refl _) ?_;refine aF 1 ?_;refine dP call79 (O4 l hl I hr) ?_;refine OD.pJ (ls:=([⟨#[87,72,69,82,69]⟩].map bE)) (new:=(ry l)) (Sq:=S7) iJ lP ap rfl rfl underlying98 ZR rfl w8 runUnderlying98 sizeOf137 ot qe (cZ (A:=[])) ot (by simp only[maxLen,length_map,length_cons,length_nil];omega) (by simp only[length_map,length_cons,length_nil];omega) (fun U Z O E=>?_);refine OD.perm (dV (A:=[])) ?_;refine an 11 [2] ?_;refine CD.gP (t:=2) (Sq:=O) lk E (cn iJ _) (cZ (A:=[])) ?_;exact CM

def rG(s:cm):ByteArray:=if s.kind<7 then s.table else ⟨#[]⟩
def gp(s:cm):cm :=
 if s.kind=1 then {fW with kind:=s.kind,table:=(rG s),ay:=s.ay} else if s.kind=3 then {fW with kind:=s.kind,table:=(rG s),row:=s.row} else if s.kind=4 then {fW with kind:=s.kind,table:=(rG s),names:=s.names,count:=s.count,aj:=s.aj,order:=s.order,down:=s.down,hU:=s.hU} else if s.kind=5 then {fW with kind:=s.kind,table:=(rG s),set:=s.set,bL:=s.bL,aj:=s.aj} else if s.kind=6 then {fW with kind:=s.kind,table:=(rG s),aj:=s.aj} else {fW with kind:=s.kind,table:=(rG s)}
def iC(s:cm):Int :=
 if s.kind=1 then fD s.ay else if s.kind=3 then dB s.row else if s.kind=4 then pc s
 else if s.kind=5 then (if cG s.set=0 then (if gz s.bL=0 then nS s.aj else gz s.bL) else cG s.set) else if s.kind=6 then nS s.aj else 0
def fY(s:cm):Int:=if s.kind<7∧cG s.table≠0 then cG s.table else if iC s=0∧ji s (gp s)=false then 6 else iC s
theorem aa8(hm:(3,marksC)∈G)(hw:(1,wordsC)∈G)(s:cm)(hf:jA s):VP Tryz.prog G 38 [.agg (bK s)] (ae (fY s)):=by
 refine VC.body func38 rfl ntmps38 aO fun X0 w0 bg=>?_;have I:=acS hm hw s hf;unfold bK at I;unfold bK;refine bU ?_;refine OD.box (ds:=[_,_,_,_,_,_,_,_,_,_,_,_]) ap rfl rfl ot rfl rfl (fun b1=>?_);refine an 102 [1] ?_;refine aB 3 ?_;refine OD.alloc (ds:=[_,_,_,_,_,_,_,_,_,_,_,_]) ap rfl rfl zeroValue32 rfl (fun b3=>?_);refine aR 0 [_,_,_,_,_,_,_,_,_,_,_,_] sizeOf32 ?_;refine an 102 [1,3] ?_;refine jV [1,3] (fun aX _ aG=>∃(tb:ByteArray),(tb=rG s)∧(¬(s.kind<7∧cG s.table≠0))∧aG=(⟨102,aX,[⟨b3,32,12,[ae s.kind,bj tb,.list 2 [] 0,.list 3 [] 0,.list 1 [] 0,bJ false,.list 5 [] 0,fk,bJ false,ae (-1),fk,.list 5 [] 0]⟩,⟨b1,32,12,[ae s.kind,bj s.table,av 2 cC s.ay,av 3 cV s.row,av 1 cS s.names,bJ s.count,av 5 cO s.aj,bj s.order,bJ s.down,ae s.hU,bj s.set,av 5 cO s.bL]⟩]⟩:St)) ?_ ?_
 ·refine CD.seq ?_;refine CD.cells (k:=0) (cs':=[_,_,.list 2 [] 0,.list 3 [] 0,.list 1 [] 0,_,.list 5 [] 0,_,_,_,_,.list 5 [] 0]) (S':=[_,_]) rfl (by repeat (first|exact trivial|exact⟨dJ,trivial⟩|exact⟨eZ,trivial⟩|refine⟨dJ,?_⟩|refine⟨eZ,?_⟩)) rfl ?_;refine cc [1,3,11] ?_;refine aq ?_ ?_<;>intro aP bC
  ·refine aB 3 ?_;refine aR 0 [_,_,_,_,_,_,_,_,_,_,_,_] sizeOf9 ?_;refine an 102 [1,3] ?_;refine cz [1,3,4] (tT hm hw s.table hf.t) ?_;refine af [1,3,4,19] ?_;refine aq ?_ ?_<;>intro aZ cr
   ·have aW:fY s=cG s.table:=(by unfold fY;rw[if_pos ⟨bC,by simpa using aZ⟩])
    exact M5
   have gE:cG s.table=0:=(by simpa using aZ)
   have O:s.table=rG s:=(by unfold rG;rw[if_pos bC])
   have U:¬(s.kind<7∧cG s.table≠0):=fun h=>h.2 gE;refine CD.skip ?_;refine⟨_,aK,s.table,O,U,rfl⟩
  have O:(⟨#[]⟩:ByteArray)=rG s:=(by unfold rG;rw[if_neg w4])
  have U:¬(s.kind<7∧cG s.table≠0):=fun h=>by omega
  refine CD.skip ?_;refine⟨_,aK,⟨#[]⟩,O,U,rfl⟩
 rintro _ ⟨tb,sZ,j6,rfl⟩;refine af [1,3,5] ?_;refine jV [1,3] (fun aX _ aG=>∃(H:cm),∃(e:Int),(H=gp s)∧(e=iC s)∧aG=(⟨102,(5,ae e)::aX,[⟨b3,32,12,[ae H.kind,bj H.table,av 2 cC H.ay,av 3 cV H.row,av 1 cS H.names,bJ H.count,av 5 cO H.aj,bj H.order,bJ H.down,ae H.hU,bj H.set,av 5 cO H.bL]⟩,⟨b1,32,12,[ae s.kind,bj s.table,av 2 cC s.ay,av 3 cV s.row,av 1 cS s.names,bJ s.count,av 5 cO s.aj,bj s.order,bJ s.down,ae s.hU,bj s.set,av 5 cO s.bL]⟩]⟩:St)) ?_ ?_
 ·refine af [1,3,5,22] ?_;refine af [1,3,5,22,23] ?_;refine aq ?_ ?_<;>intro bX cA
  ·refine aB 3 ?_;refine aR 0 [_,_,_,_,_,_,_,_,_,_,_,_] sizeOf27 ?_;refine an 102 [1,3] ?_;refine ik [1,3,5] ?_;refine cH (aeL hm hw s.ay (by have:=hf.ok.1;simp only[maxLen];omega) hf.c) ?_;refine bI ?_;refine⟨_,aK,{fW with kind:=s.kind,table:=tb,ay:=s.ay},fD s.ay,(by unfold gp;rw[if_pos cA,sZ]),(by unfold iC;rw[if_pos cA]),rfl⟩
  refine af [1,3,5,22,31] ?_;refine aq ?_ ?_<;>intro cN dW
  ·refine aB 3 ?_;refine aR 0 [_,_,_,_,_,_,_,_,_,_,_,_] sizeOf28 ?_;refine an 102 [1,3] ?_;refine ik [1,3,5] ?_;refine cH (aeO s.row (by have:=hf.ok.2.1;omega)) ?_;refine bI ?_;refine⟨_,aK,{fW with kind:=s.kind,table:=tb,row:=s.row},dB s.row,(by unfold gp;rw[if_neg cA,if_pos dW,sZ]),(by unfold iC;rw[if_neg cA,if_pos dW]),rfl⟩
  refine af [1,3,5,22,39] ?_;refine aq ?_ ?_<;>intro ec fh
  ·refine CD.seq ?_;refine gJ 22 (au (eraseIdx _ 0)) ?_ (fun _ h=>(Sublist.map _ (eraseIdx_sublist _ 0)).subset h);refine aC 0 rfl (dF 4) ?_;refine aC 1 rfl (dI 1) ?_;refine aC 2 rfl (dF 5) ?_;refine aC 3 rfl (dI 1) ?_;refine aC 4 rfl (dF 6) ?_;refine aC 5 rfl (dI 1) ?_;refine aC 6 rfl (dF 7) ?_;refine aC 7 rfl (dI 1) ?_;refine aC 8 rfl (dF 8) ?_;refine aC 9 rfl (dI 1) ?_;refine aC 10 rfl (dF 9) ?_;refine aC 11 rfl (dI 1) ?_;refine aC 12 rfl (dF 4) ?_;refine dH.later rfl ?_;refine AD.one (i:=13) az ?_;refine dG 0 [_,_,_,_,_,_,_,_,_,_,_,_] sizeOf29 ?_;refine cy 14 rfl (dF 5) ?_;refine AD.one (i:=15) az ?_;refine dG 0 [_,_,_,_,_,_,_,_,_,_,_,_] sizeOf4 ?_;refine cy 16 rfl (dF 6) ?_;refine AD.one (i:=17) az ?_;refine dG 0 [_,_,_,_,_,_,_,_,_,_,_,_] sizeOf30 ?_;refine cy 18 rfl (dF 7) ?_;refine AD.one (i:=19) az ?_;refine dG 0 [_,_,_,_,_,_,_,_,_,_,_,_] sizeOf9 ?_;refine cy 20 rfl (dF 8) ?_;refine AD.one (i:=21) az ?_;refine dG 0 [_,_,_,_,_,_,_,_,_,_,_,_] sizeOf4 ?_;refine e9 ?_;refine aF 1 ?_;refine aR 0 [_,_,_,_,_,_,_,_,_,_,_,_] sizeOf3 ?_;refine an 102 [1,3] ?_;refine ik [1,3,5] ?_;refine cH (I) ?_;refine bI ?_;refine⟨_,aK,{fW with kind:=s.kind,table:=tb,names:=s.names,count:=s.count,aj:=s.aj,order:=s.order,down:=s.down,hU:=s.hU},pc s,(by unfold gp;rw[if_neg cA,if_neg dW,if_pos fh,sZ]),(by unfold iC;rw[if_neg cA,if_neg dW,if_pos fh]),rfl⟩
  refine af [1,3,5,22,61] ?_;refine aq ?_ ?_<;>intro fj gA
  ·refine CD.seq ?_;refine gJ 10 (au (eraseIdx _ 0)) ?_ (fun _ h=>(Sublist.map _ (eraseIdx_sublist _ 0)).subset h);refine aC 0 rfl (dF 10) ?_;refine aC 1 rfl (dI 1) ?_;refine aC 2 rfl (dF 11) ?_;refine aC 3 rfl (dI 1) ?_;refine aC 4 rfl (dF 6) ?_;refine aC 5 rfl (dI 1) ?_;refine aC 6 rfl (dF 10) ?_;refine dH.later rfl ?_;refine AD.one (i:=7) az ?_;refine dG 0 [_,_,_,_,_,_,_,_,_,_,_,_] sizeOf9 ?_;refine cy 8 rfl (dF 11) ?_;refine AD.one (i:=9) az ?_;refine dG 0 [_,_,_,_,_,_,_,_,_,_,_,_] sizeOf30 ?_;refine e9 ?_;refine aF 1 ?_;refine aR 0 [_,_,_,_,_,_,_,_,_,_,_,_] sizeOf30 ?_;refine an 102 [1,3] ?_;refine cz [1,3,5] (tT hm hw s.set hf.e) ?_;refine af [1,3,5,76] ?_;refine aq ?_ ?_<;>intro gL kU
   ·have Z:cG s.set=0:=(by simpa using gL)
    refine ik [1,3,5] ?_;refine cH (JJ hm hw s.bL (fun o h=>(hf.x o h).1)) ?_;refine bI ?_;refine af [1,3,5,81] ?_;refine aq ?_ ?_<;>intro gj lB
    ·have Df:gz s.bL=0:=(by simpa using gj)
     refine ik [1,3,5] ?_;refine cH (Ee hm hw s.aj (fun o h=>(hf.w o h).1)) ?_;refine bI ?_;refine⟨_,aK,{fW with kind:=s.kind,table:=tb,set:=s.set,bL:=s.bL,aj:=s.aj},nS s.aj,MH,(by unfold iC;rw[if_neg cA,if_neg dW,if_neg fh,if_pos gA,if_pos Z,if_pos Df]),rfl⟩
    have Df:¬gz s.bL=0:=(by simpa using gj)
    refine CD.skip ?_;refine⟨_,aK,{fW with kind:=s.kind,table:=tb,set:=s.set,bL:=s.bL,aj:=s.aj},gz s.bL,MH,(by unfold iC;rw[if_neg cA,if_neg dW,if_neg fh,if_pos gA,if_pos Z,if_neg Df]),rfl⟩
   have Z:¬cG s.set=0:=(by simpa using gL)
   refine af [1,3,5,81] ?_;refine aq ?_ ?_<;>intro gj lB
   ·exact absurd gj (by simp[Z])
   refine CD.skip ?_;refine⟨_,aK,{fW with kind:=s.kind,table:=tb,set:=s.set,bL:=s.bL,aj:=s.aj},cG s.set,MH,(by unfold iC;rw[if_neg cA,if_neg dW,if_neg fh,if_pos gA,if_neg Z]),rfl⟩
  refine af [1,3,5,85] ?_;refine aq ?_ ?_<;>intro qd E
  ·refine aB 3 ?_;refine aR 0 [_,_,_,_,_,_,_,_,_,_,_,_] sizeOf30 ?_;refine an 102 [1,3] ?_;refine ik [1,3,5] ?_;refine cH (Ee hm hw s.aj (fun o h=>(hf.w o h).1)) ?_;refine bI ?_;refine⟨_,aK,{fW with kind:=s.kind,table:=tb,aj:=s.aj},nS s.aj,(by unfold gp;rw[if_neg cA,if_neg dW,if_neg fh,if_neg gA,if_pos E,sZ]),(by unfold iC;rw[if_neg cA,if_neg dW,if_neg fh,if_neg gA,if_pos E]),rfl⟩
  refine CD.skip ?_;refine⟨_,aK,{fW with kind:=s.kind,table:=tb},0,(by unfold gp;rw[if_neg cA,if_neg dW,if_neg fh,if_neg gA,if_neg E,sZ]),(by unfold iC;rw[if_neg cA,if_neg dW,if_neg fh,if_neg gA,if_neg E]),rfl⟩
 rintro _ ⟨H,e,hH,Dg,rfl⟩;refine CD.seq ?_;refine CD.seq ?_;have Vb:=aeP (G:=G) s H;unfold bK at Vb;refine dK 3 ?_;refine bP 95 (fun Wl ahV=>?_) (fun Wl ahV=>?_)
 ·refine aF 2 ?_;refine OD.gZ iq rfl rfl rfl call72 (Vb) ⟨ot,ot,trivial⟩ ?_;refine an 102 [5,100] ?_;refine aq ?_ ?_<;>intro Dh LU
  ·have aW:fY s=6:=(by unfold fY;rw[if_neg j6,if_pos ⟨by rw[←Dg];simpa using Wl,by rw[←hH];simpa using Dh⟩])
   refine cc [5] ?_;exact M5
  have aW:fY s=e:=(by unfold fY;rw[if_neg j6,if_neg (by rw[←Dg,←hH];exact(fun h=>by obtain⟨h1,h2⟩:=h;simp_all)),Dg])
  exact M5
 refine bq [5,100] ?_;refine fJ ?_;have aW:fY s=e:=(by unfold fY;rw[if_neg j6,if_neg (by rw[←Dg,←hH];exact(fun h=>by obtain⟨h1,h2⟩:=h;simp_all)),Dg])
 refine af [2] ?_;refine eJ ?_;exact⟨by first|rw[aW]|rw[aW];rfl,rfl⟩

theorem PR:∀(l:List aJ) (H:List (List Tk)),(l.foldl oH H).flatten.length≤H.flatten.length+5*l.length
 | [],H=>by simp
 | o::r,H=>by
  have h1:=PR r (oH H o);have h2:=PO (h:=H) (o:=o);rw[foldl_cons,length_cons];omega
theorem En(l:List aJ):(ry l).length≤5*l.length:=by
 have h:=PR l [];have h2:=(uV (h:=l.foldl oH []) (n:=0)).1;have h3:=AP (l.foldl oH []) 0;simp only[List.take_zero,flatten_nil,length_nil] at h h3;unfold ry;omega
theorem Iw(l:List aJ):(kD l).length≤5*l.length+1:=by
 have h:=En l;unfold kD;split
 ·simp
 rw[length_append,length_map];simp only[length_cons,length_nil];omega
def jM(ns:List ByteArray):Nat→List Tk
 | 0=>[]
 | i+1=>jM ns i++(if i>0 then [dL ⟨#[44]⟩] else [])++[bE (ns.getD i ⟨#[]⟩)]
theorem Ey(E:List ByteArray):∀i,(jM E i).length≤2*i
 | 0=>Nat.le_refl _
 | i+1=>by
  have I:=Ey E i;have h3:(if i>0 then [dL ⟨#[44]⟩] else []).length≤1:=(by split<;>simp)
  unfold jM;rw[length_append,length_append];simp only[length_cons,length_nil];omega
theorem Ij(hi:i<E.length)(h:0<i)(X:List Tk):((X++jM E i)++[dL ⟨#[44]⟩])++[bE E[i]]=X++jM E (i+1):=by
 rw[jM,if_pos h,mI hi];simp only[append_assoc]
theorem H6(hi:i<E.length)(h:¬0<i)(X:List Tk):(X++jM E i)++[bE E[i]]=X++jM E (i+1):=by
 rw[jM,if_neg h,mI hi];simp only[append_assoc,append_nil]
def vm(s:cm):List Tk:=if s.count=true then [bE ⟨#[67,79,85,78,84]⟩,dL ⟨#[40]⟩,dL ⟨#[42]⟩,dL ⟨#[41]⟩] else if s.names.length=0 then [dL ⟨#[42]⟩] else jM s.names s.names.length
def xC(s:cm):List Tk:=if ja s.order ⟨#[]⟩=true then [] else [⟨#[79,82,68,69,82]⟩,⟨#[66,89]⟩,s.order].map bE++(if s.down=true then [bE ⟨#[68,69,83,67]⟩] else [])
def Ch(s:cm):List Tk:=if 0≤s.hU then [bE ⟨#[76,73,77,73,84]⟩,⟨2,⟨#[]⟩,s.hU⟩] else []
def zB(s:cm):List Tk:=((([⟨#[83,69,76,69,67,84]⟩].map bE++vm s)++[⟨#[70,82,79,77]⟩,s.table].map bE++kD s.aj)++xC s)++Ch s
theorem sg:(Tryz.prog.info? 137).map (fun i=>(i.zero,i.size,i.bytes))=some (some (.agg #[.int .i64 0,.string ⟨#[]⟩,.int .i64 0]),3,32):=by kernel_rfl
theorem Zn : ∀ w, ((#[{ name := "Kind", type := 3, offset := 0, embedded := false, tag := "", pkgPath := "", byteOffset := 0 }, { name := "Text", type := 9, offset := 1, embedded := false, tag := "", pkgPath := "", byteOffset := 8 }, { name := "Int", type := 3, offset := 2, embedded := false, tag := "", pkgPath := "", byteOffset := 24 }] : Array Field).mapM fun f => do pure (f.offset, ← sizeOf f.type) : Sem (Array (Nat × Nat))).run Tryz.prog w = .ok #[(0, 1), (1, 1), (2, 1)] w := fun w => by simp [sizeOf3, sizeOf9]
theorem ZS(s:cm)(hf:jA s)(NI:s.aj.length=0∨fF 0 s.aj=0):VP Tryz.prog G 76 [.agg (bK s)] (.list 3 ((zB s).flatMap cT) (zB s).length):=by
 refine VC.body func76 rfl ntmps76 aO fun X0 w0 bg=>?_;have c8:=dR;have h6:=hf.ok.2.2.1;have qk:=hf.ok.2.2.2.1;have Ht:=Iw s.aj;have NJ:=En s.aj;unfold bK;refine bU ?_;refine OD.box (ds:=[_,_,_,_,_,_,_,_,_,_,_,_]) ap rfl rfl ot rfl rfl (fun b1=>?_);refine an 84 [1] ?_;refine bU ?_;refine en (cf 0 [_]) [.string ⟨#[]⟩] [_] zeroValue9 runUnderlying29 sizeOf9 (fun b6=>?_);refine OD.perm (dV (S1:=[⟨b6,9,1*1,flatMap cS ([⟨#[83,69,76,69,67,84]⟩])⟩]) (A:=[_])) ?_;refine OD.gP (t:=6) (Sq:=[⟨b6,9,1*1,flatMap cS ([⟨#[83,69,76,69,67,84]⟩])⟩]) lk (bM (g:=cS) (sz:=1) (e:=9) (ls:=[⟨#[83,69,76,69,67,84]⟩]) (Nat.le_refl _) (show 1≤maxLen by decide)) (cn jf _) (cZ (A:=[_])) ?_;refine OD.call ap rfl rfl rfl call73 (ze [⟨#[83,69,76,69,67,84]⟩] Ae) ⟨ot,trivial⟩ (eV _) ?_;rintro _ S7 ⟨Yq,Yr,rfl,qe⟩;refine OD.perm (dV (A:=[_])) ?_;refine an 84 [1,3] ?_;refine jV [1] (fun aX _ aG=>∃(Q:List Tk),∃(ad:Option Addr),∃(cp:Nat),∃(Sx:List ah),(Q=[⟨#[83,69,76,69,67,84]⟩].map bE++vm s)∧(bp 137 3 (Q.flatMap cT) Q.length ad cp Sx)∧(Q.length≤20)∧aG=(⟨84,(3,aN ad Q.length cp)::aX,(⟨b1,32,12,[ae s.kind,bj s.table,av 2 cC s.ay,av 3 cV s.row,av 1 cS s.names,bJ s.count,av 5 cO s.aj,bj s.order,bJ s.down,ae s.hU,bj s.set,av 5 cO s.bL]⟩::Sx)⟩:St)) ?_ ?_
 ·refine af [1,3,28] ?_;refine aq ?_ ?_<;>intro aP bC
  ·refine dK 1 ?_;refine dP call117 (ri ⟨#[67,79,85,78,84]⟩) ?_;refine dP call78 (nu ⟨#[40]⟩) ?_;refine dP call78 (nu ⟨#[42]⟩) ?_;refine dP call78 (nu ⟨#[41]⟩) ?_;refine en (cf 0 [_,_,_,_]) [.int .i64 0,.string ⟨#[]⟩,.int .i64 0,.int .i64 0,.string ⟨#[]⟩,.int .i64 0,.int .i64 0,.string ⟨#[]⟩,.int .i64 0,.int .i64 0,.string ⟨#[]⟩,.int .i64 0] [_,_,_,_,_,_,_,_,_,_,_,_] zeroValue137 runUnderlying98 sizeOf137 (fun Hu=>?_);refine fA 0 36 3 4 ?_;refine OD.ey (ls:=([⟨#[83,69,76,69,67,84]⟩].map bE)) (new:=[bE ⟨#[67,79,85,78,84]⟩,dL ⟨#[40]⟩,dL ⟨#[42]⟩,dL ⟨#[41]⟩]) (Sq:=S7) iJ lP ap rfl rfl underlying98 sg rfl w8 ot qe (cZ (A:=[_])) ot bn p9 w9 (fun NK U ajW ajX=>?_);refine OD.perm (dV (S1:=[⟨NK,137,U*3,flatMap cT (([⟨#[83,69,76,69,67,84]⟩].map bE)++[bE ⟨#[67,79,85,78,84]⟩,dL ⟨#[40]⟩,dL ⟨#[42]⟩,dL ⟨#[41]⟩])⟩]) (A:=[_])) ?_;refine an 84 [1,3] ?_;refine⟨_,aK,(([⟨#[83,69,76,69,67,84]⟩].map bE)++[bE ⟨#[67,79,85,78,84]⟩,dL ⟨#[40]⟩,dL ⟨#[42]⟩,dL ⟨#[41]⟩]),(some ⟨NK,0,none⟩),U,[⟨NK,137,U*3,flatMap cT (([⟨#[83,69,76,69,67,84]⟩].map bE)++[bE ⟨#[67,79,85,78,84]⟩,dL ⟨#[40]⟩,dL ⟨#[42]⟩,dL ⟨#[41]⟩])⟩],(by unfold vm;rw[if_pos bC]),(bM ajW ajX),Ms,rfl⟩
  refine af [1,3,38] ?_;refine aq ?_ ?_<;>intro aZ cr
  ·refine dK 1 ?_;refine dP call78 (nu ⟨#[42]⟩) ?_;refine en (cf 0 [_]) [.int .i64 0,.string ⟨#[]⟩,.int .i64 0] [_,_,_] zeroValue137 runUnderlying98 sizeOf137 (fun b45=>?_);refine fA 0 45 3 1 ?_;refine OD.ey (ls:=([⟨#[83,69,76,69,67,84]⟩].map bE)) (new:=[dL ⟨#[42]⟩]) (Sq:=S7) iJ lP ap rfl rfl underlying98 sg rfl w8 ot qe (cZ (A:=[_])) ot bn p9 w9 (fun Aq Z ajY ajZ=>?_);refine OD.perm (dV (S1:=[⟨Aq,137,Z*3,flatMap cT (([⟨#[83,69,76,69,67,84]⟩].map bE)++[dL ⟨#[42]⟩])⟩]) (A:=[_])) ?_;refine an 84 [1,3] ?_;refine⟨_,aK,(([⟨#[83,69,76,69,67,84]⟩].map bE)++[dL ⟨#[42]⟩]),(some ⟨Aq,0,none⟩),Z,[⟨Aq,137,Z*3,flatMap cT (([⟨#[83,69,76,69,67,84]⟩].map bE)++[dL ⟨#[42]⟩])⟩],(by unfold vm;rw[if_neg xP,if_pos w4]),(bM ajY ajZ),Ms,rfl⟩
  refine af [1,3,9,10,11] ?_;refine CD.block ?_;refine nl (fun (kK:Nat×Option Addr×Nat×List ah) aG=>match kK with|(i,Di,Dj,So)=>(i≤s.names.length)∧(bp 137 3 ((([⟨#[83,69,76,69,67,84]⟩].map bE++jM s.names i)).flatMap cT) (([⟨#[83,69,76,69,67,84]⟩].map bE++jM s.names i)).length Di Dj So)∧aG=(⟨84,[(1,cQ b1),(3,aN Di (([⟨#[83,69,76,69,67,84]⟩].map bE++jM s.names i)).length Dj),(9,av 1 cS s.names),(10,ae (s.names.length:Nat)),(11,ae (i:Nat))],((⟨b1,32,12,[ae s.kind,bj s.table,av 2 cC s.ay,av 3 cV s.row,av 1 cS s.names,bJ s.count,av 5 cO s.aj,bj s.order,bJ s.down,ae s.hU,bj s.set,av 5 cO s.bL]⟩:ah)::So)⟩:St)) (fun (kK:Nat×Option Addr×Nat×List ah)=>match kK with|(i,Di,Dj,So)=>s.names.length-i) (0,Yq,Yr,S7) ⟨(Nat.zero_le _),(bp.cast qe (by simp[jM])),rfl⟩ (aK (h:=by repeat (first|exact trivial|refine⟨Mx,?_⟩))) ?_;rintro⟨i,Di,Dj,So⟩ _ ⟨hi,Dk,rfl⟩;refine af [1,3,9,10,11,12] ?_;refine aq ?_ ?_<;>intro bX cA
  ·have aa:i<s.names.length:=(by simp at bX;omega)
   have fK:=Ey s.names i;refine af [1,3,4,5,9,10,11] ?_;refine af [1,3,5,9,10,11,17] ?_;refine aq ?_ ?_<;>intro cN dW
   ·refine dK 1 ?_;refine dP call78 (nu ⟨#[44]⟩) ?_;refine en (cf 0 [_]) [.int .i64 0,.string ⟨#[]⟩,.int .i64 0] [_,_,_] zeroValue137 runUnderlying98 sizeOf137 (fun NF=>?_);refine fA 0 20 3 1 ?_;refine OD.ey (ls:=(([⟨#[83,69,76,69,67,84]⟩].map bE++jM s.names i))) (new:=[dL ⟨#[44]⟩]) (Sq:=So) iJ lP ap rfl rfl underlying98 sg rfl w8 ot Dk (cZ (A:=[_])) ot bn p9 w9 (fun C8 Wm aj0 aj1=>?_);refine OD.perm (dV (S1:=[⟨C8,137,Wm*3,flatMap cT ((([⟨#[83,69,76,69,67,84]⟩].map bE++jM s.names i))++[dL ⟨#[44]⟩])⟩]) (A:=[_])) ?_;refine an 84 [1,3,5,9,10,11] ?_;refine dK 2 ?_;refine dP call117 (ri s.names[i]) ?_;refine en (cf 0 [_]) [.int .i64 0,.string ⟨#[]⟩,.int .i64 0] [_,_,_] zeroValue137 runUnderlying98 sizeOf137 (fun ym=>?_);refine fA 0 25 3 1 ?_;refine OD.ey (ls:=((([⟨#[83,69,76,69,67,84]⟩].map bE++jM s.names i))++[dL ⟨#[44]⟩])) (new:=[bE s.names[i]]) (Sq:=[⟨C8,137,Wm*3,flatMap cT ((([⟨#[83,69,76,69,67,84]⟩].map bE++jM s.names i))++[dL ⟨#[44]⟩])⟩]) iJ lP ap rfl rfl underlying98 sg rfl w8 ot (bM aj0 aj1) (cZ (A:=[_])) ot bn p9 w9 (fun I E LV LW=>?_);refine OD.perm (dV (S1:=[⟨I,137,E*3,flatMap cT (((([⟨#[83,69,76,69,67,84]⟩].map bE++jM s.names i))++[dL ⟨#[44]⟩])++[bE s.names[i]])⟩]) (A:=[_])) ?_;refine an 84 [1,3,9,10,11] ?_;refine cc [1,3,9,10,11] ?_
    refine⟨((i+1),(some ⟨I,0,none⟩),E,[⟨I,137,E*3,flatMap cT (((([⟨#[83,69,76,69,67,84]⟩].map bE++jM s.names i))++[dL ⟨#[44]⟩])++[bE s.names[i]])⟩]),_,cq,(aK (h:=by repeat (first|exact trivial|refine⟨Mx,?_⟩))),w4,(bp.cast (bM LV LW) (by first|exact Ij aa w4 _|exact H6 aa w4 _)),rfl⟩
   refine dK 2 ?_;refine dP call117 (ri s.names[i]) ?_;refine en (cf 0 [_]) [.int .i64 0,.string ⟨#[]⟩,.int .i64 0] [_,_,_] zeroValue137 runUnderlying98 sizeOf137 (fun ym=>?_);refine fA 0 25 3 1 ?_;refine OD.ey (ls:=(([⟨#[83,69,76,69,67,84]⟩].map bE++jM s.names i))) (new:=[bE s.names[i]]) (Sq:=So) iJ lP ap rfl rfl underlying98 sg rfl w8 ot Dk (cZ (A:=[_])) ot bn p9 w9 (fun I E LV LW=>?_);refine OD.perm (dV (S1:=[⟨I,137,E*3,flatMap cT ((([⟨#[83,69,76,69,67,84]⟩].map bE++jM s.names i))++[bE s.names[i]])⟩]) (A:=[_])) ?_;refine an 84 [1,3,9,10,11] ?_;refine cc [1,3,9,10,11] ?_;refine⟨((i+1),(some ⟨I,0,none⟩),E,[⟨I,137,E*3,flatMap cT ((([⟨#[83,69,76,69,67,84]⟩].map bE++jM s.names i))++[bE s.names[i]])⟩]),_,cq,(aK (h:=by repeat (first|exact trivial|refine⟨Mx,?_⟩))),w4,(bp.cast (bM LV LW) (by first|exact Ij aa w4 _|exact H6 aa w4 _)),rfl⟩
  have sX:i=s.names.length:=(by simp at bX;omega)
  refine CD.exit ?_;refine⟨_,aK,(([⟨#[83,69,76,69,67,84]⟩].map bE++jM s.names i)),Di,Dj,So,(by unfold vm;rw[if_neg xP,if_neg w4,sX]),Dk,Ms,rfl⟩
 rintro _ ⟨Q,ad,cp,Sx,hQ,dN,hQl,rfl⟩;refine aB 3 ?_;refine en (cf 0 [_,_]) [.string ⟨#[]⟩,.string ⟨#[]⟩] [_,_] zeroValue9 runUnderlying29 sizeOf9 (fun AB=>?_);refine OD.perm (yN (S2:=[⟨AB,9,2*1,flatMap cS ([⟨#[70,82,79,77]⟩,s.table])⟩]) (A:=[_])) ?_;refine OD.gP (t:=50) (Sq:=[⟨AB,9,2*1,flatMap cS ([⟨#[70,82,79,77]⟩,s.table])⟩]) lk (bM (g:=cS) (sz:=1) (e:=9) (ls:=[⟨#[70,82,79,77]⟩,s.table]) (Nat.le_refl _) (show 2≤maxLen by decide)) (cn jf _) (yM (A:=[_])) ?_;refine dP call73 (sB [⟨#[70,82,79,77]⟩,s.table] (by show 2≤10;decide)) ?_;refine OD.ey (ls:=Q) (new:=([⟨#[70,82,79,77]⟩,s.table].map bE)) (Sq:=Sx) iJ lP ap rfl rfl underlying98 sg rfl w8 ot dN (cZ (A:=[_])) ot bn p9 w9 (fun Yt Wn aj2 aj3=>?_);refine OD.perm (dV (S1:=[⟨Yt,137,Wn*3,flatMap cT (Q++([⟨#[70,82,79,77]⟩,s.table].map bE))⟩]) (A:=[_])) ?_;refine an 84 [1,3] ?_;refine aB 3 ?_;refine dP call80 (HS s.aj qk NI (fun o h=>(hf.w o h).2) w4) ?_;refine OD.pJ (ls:=(Q++([⟨#[70,82,79,77]⟩,s.table].map bE))) (new:=(kD s.aj)) (Sq:=[⟨Yt,137,Wn*3,flatMap cT (Q++([⟨#[70,82,79,77]⟩,s.table].map bE))⟩]) iJ lP ap rfl rfl underlying98 sg rfl w8 runUnderlying98 sizeOf137 ot (bM aj2 aj3) (cZ (A:=[_])) ot p9 w9 (fun aj4 aj5 Hv Gq=>?_);refine OD.perm (dV (A:=[_])) ?_;refine an 84 [1,3] ?_
 refine jV [1] (fun aX _ aG=>∃(Q:List Tk),∃(ad:Option Addr),∃(cp:Nat),∃(Sx:List ah),(Q=(([⟨#[83,69,76,69,67,84]⟩].map bE++vm s)++[⟨#[70,82,79,77]⟩,s.table].map bE++kD s.aj)++xC s)∧(bp 137 3 (Q.flatMap cT) Q.length ad cp Sx)∧(Q.length≤500)∧aG=(⟨84,(3,aN ad Q.length cp)::aX,(⟨b1,32,12,[ae s.kind,bj s.table,av 2 cC s.ay,av 3 cV s.row,av 1 cS s.names,bJ s.count,av 5 cO s.aj,bj s.order,bJ s.down,ae s.hU,bj s.set,av 5 cO s.bL]⟩::Sx)⟩:St)) ?_ ?_
 ·refine af [1,3,60] ?_;refine aq ?_ ?_<;>intro ec fh
  ·refine aB 3 ?_;refine en (cf 0 [_,_,_]) [.string ⟨#[]⟩,.string ⟨#[]⟩,.string ⟨#[]⟩] [_,_,_] zeroValue9 runUnderlying29 sizeOf9 (fun Dl=>?_);refine OD.perm (yN (S2:=[⟨Dl,9,3*1,flatMap cS ([⟨#[79,82,68,69,82]⟩,⟨#[66,89]⟩,s.order])⟩]) (A:=[_])) ?_;refine OD.gP (t:=64) (Sq:=[⟨Dl,9,3*1,flatMap cS ([⟨#[79,82,68,69,82]⟩,⟨#[66,89]⟩,s.order])⟩]) lk (bM (g:=cS) (sz:=1) (e:=9) (ls:=[⟨#[79,82,68,69,82]⟩,⟨#[66,89]⟩,s.order]) (Nat.le_refl _) (show 3≤maxLen by decide)) (cn jf _) (yM (A:=[_])) ?_;refine dP call73 (sB [⟨#[79,82,68,69,82]⟩,⟨#[66,89]⟩,s.order] (by show 3≤10;decide)) ?_;refine OD.ey (ls:=((Q++([⟨#[70,82,79,77]⟩,s.table].map bE))++(kD s.aj))) (new:=([⟨#[79,82,68,69,82]⟩,⟨#[66,89]⟩,s.order].map bE)) (Sq:=Hv) iJ lP ap rfl rfl underlying98 sg rfl w8 ot Gq (cZ (A:=[_])) ot bn p9 w9 (fun pE O zS zT=>?_);refine OD.perm (dV (S1:=[⟨pE,137,O*3,flatMap cT (((Q++([⟨#[70,82,79,77]⟩,s.table].map bE))++(kD s.aj))++([⟨#[79,82,68,69,82]⟩,⟨#[66,89]⟩,s.order].map bE))⟩]) (A:=[_])) ?_;refine an 84 [1,3] ?_;refine af [1,3,68] ?_;refine aq ?_ ?_<;>intro fj gA
   ·refine dK 1 ?_;refine dP call117 (ri ⟨#[68,69,83,67]⟩) ?_;refine en (cf 0 [_]) [.int .i64 0,.string ⟨#[]⟩,.int .i64 0] [_,_,_] zeroValue137 runUnderlying98 sizeOf137 (fun b71=>?_);refine fA 0 71 3 1 ?_;refine OD.ey (ls:=(((Q++([⟨#[70,82,79,77]⟩,s.table].map bE))++(kD s.aj))++([⟨#[79,82,68,69,82]⟩,⟨#[66,89]⟩,s.order].map bE))) (new:=[bE ⟨#[68,69,83,67]⟩]) (Sq:=[⟨pE,137,O*3,flatMap cT (((Q++([⟨#[70,82,79,77]⟩,s.table].map bE))++(kD s.aj))++([⟨#[79,82,68,69,82]⟩,⟨#[66,89]⟩,s.order].map bE))⟩]) iJ lP ap rfl rfl underlying98 sg rfl w8 ot (bM zS zT) (cZ (A:=[_])) ot bn p9 w9 (fun NL LX aj6 aj7=>?_);refine OD.perm (dV (S1:=[⟨NL,137,LX*3,flatMap cT ((((Q++([⟨#[70,82,79,77]⟩,s.table].map bE))++(kD s.aj))++([⟨#[79,82,68,69,82]⟩,⟨#[66,89]⟩,s.order].map bE))++[bE ⟨#[68,69,83,67]⟩])⟩]) (A:=[_])) ?_;refine an 84 [1,3] ?_;refine⟨_,aK,((((Q++([⟨#[70,82,79,77]⟩,s.table].map bE))++(kD s.aj))++([⟨#[79,82,68,69,82]⟩,⟨#[66,89]⟩,s.order].map bE))++[bE ⟨#[68,69,83,67]⟩]),(some ⟨NL,0,none⟩),LX,[⟨NL,137,LX*3,flatMap cT ((((Q++([⟨#[70,82,79,77]⟩,s.table].map bE))++(kD s.aj))++([⟨#[79,82,68,69,82]⟩,⟨#[66,89]⟩,s.order].map bE))++[bE ⟨#[68,69,83,67]⟩])⟩],(by rw[hQ];unfold xC;rw[if_neg (by unfold ja;simpa using ec),if_pos gA];simp only[append_assoc]),(bM aj6 aj7),w9,rfl⟩
   refine CD.skip ?_;refine⟨_,aK,(((Q++([⟨#[70,82,79,77]⟩,s.table].map bE))++(kD s.aj))++([⟨#[79,82,68,69,82]⟩,⟨#[66,89]⟩,s.order].map bE)),(some ⟨pE,0,none⟩),O,[⟨pE,137,O*3,flatMap cT (((Q++([⟨#[70,82,79,77]⟩,s.table].map bE))++(kD s.aj))++([⟨#[79,82,68,69,82]⟩,⟨#[66,89]⟩,s.order].map bE))⟩],(by rw[hQ];unfold xC;rw[if_neg (by unfold ja;simpa using ec),if_neg (by simpa using fj)];simp only[append_assoc,append_nil]),(bM zS zT),w9,rfl⟩
  refine CD.skip ?_;refine⟨_,aK,((Q++([⟨#[70,82,79,77]⟩,s.table].map bE))++(kD s.aj)),aj4,aj5,Hv,(by rw[hQ];unfold xC;rw[if_pos (by unfold ja;simpa using ec)];simp),Gq,w9,rfl⟩
 rintro _ ⟨Q,ad,cp,Sx,hQ,dN,hQl,rfl⟩;refine af [1,3,75] ?_;refine aq ?_ ?_<;>intro gL kU
 ·refine gJ 7 (au (take 1 _)) ?_ (fun _ h=>(Sublist.map _ (take_sublist _ _)).subset h);refine aC 0 rfl bF ?_;refine aC 2 rfl (dF 9) ?_;refine aC 3 rfl (dI 0) ?_;refine aC 4 rfl (nO (pl:=[(0,_),(2,_)]) (ds:=[_,_,_]) rfl zeroValue137 runUnderlying137 Zn ⟨rfl,bV,rfl,ot,trivial⟩ rfl rfl) ?_;refine dH.later rfl ?_;refine AD.one (i:=1) az ?_;refine lj call117 (ri ⟨#[76,73,77,73,84]⟩) ?_;refine AD.one (i:=5) az ?_;refine j3 (cf 0 [_,_]) [.int .i64 0,.string ⟨#[]⟩,.int .i64 0,.int .i64 0,.string ⟨#[]⟩,.int .i64 0] [_,_,_,_,_,_] zeroValue137 runUnderlying98 sizeOf137 (fun b81=>?_);refine j4 0 81 3 2 ?_;refine AD.one (i:=6) az ?_;refine bz.ey (ls:=Q) (new:=[bE ⟨#[76,73,77,73,84]⟩,(⟨2,⟨#[]⟩,s.hU⟩:Tk)]) (Sq:=Sx) iJ lP rfl ap rfl rfl underlying98 sg rfl w8 ot dN (cZ (A:=[_])) ot bn p9 w9 (fun Yu Wo aj8 aj9=>?_);refine AD.perm (dV (S1:=[⟨Yu,137,Wo*3,flatMap cT (Q++[bE ⟨#[76,73,77,73,84]⟩,(⟨2,⟨#[]⟩,s.hU⟩:Tk)])⟩]) (A:=[_])) ?_;refine e9 ?_;refine bq [3] ?_;refine af [2] ?_;refine CD.gP (t:=2) (Sq:=[⟨Yu,137,Wo*3,flatMap cT (Q++[bE ⟨#[76,73,77,73,84]⟩,(⟨2,⟨#[]⟩,s.hU⟩:Tk)])⟩]) lk (bM aj8 aj9) (cn iJ _) (cZ (A:=[_])) ?_;refine eJ ?_;refine⟨?_,rfl⟩;rw[hQ];unfold zB Ch;rw[if_pos w4]
 refine af [2] ?_;refine CD.gP (t:=2) (Sq:=Sx) lk dN (cn iJ _) (cZ (A:=[_])) ?_;refine aI [] ?_;refine⟨?_,rfl⟩;rw[hQ];unfold zB Ch;rw[if_neg w4];simp only[append_nil]

def K0(k:Int):ByteArray:=agt.getD k.toNat ⟨#[]⟩
theorem acT{k:Int}(h1:1≤k)(h2:k≤3):typesC[0+k.toNat*1]?=some (.string (K0 k)):=by
 have h:k=1∨k=2∨k=3:=(by omega)
 rcases h with rfl|rfl|rfl<;>rfl
def iY(c:cj):List Tk:=[c.n,K0 c.k].map bE
def Gr:List ByteArray:=[⟨#[66,69,71,73,78]⟩,⟨#[67,79,77,77,73,84]⟩,⟨#[82,79,76,76,66,65,67,75]⟩]
def qH(s:cm):List Tk :=
 if s.kind=1 then [⟨#[67,82,69,65,84,69]⟩,⟨#[84,65,66,76,69]⟩,s.table].map bE++mv (s.ay.map iY)
 else if s.kind=2 then [⟨#[68,82,79,80]⟩,⟨#[84,65,66,76,69]⟩,s.table].map bE
 else if s.kind=3 then [⟨#[73,78,83,69,82,84]⟩,⟨#[73,78,84,79]⟩,s.table,⟨#[86,65,76,85,69,83]⟩].map bE++mv (s.row.map jh)
 else if s.kind=4 then zB s
 else if s.kind=5 then [[⟨#[85,80,68,65,84,69]⟩,s.table,⟨#[83,69,84]⟩,s.set].map bE,[dL ⟨#[61]⟩],ry s.bL,kD s.aj].flatten
 else if s.kind=6 then [⟨#[68,69,76,69,84,69]⟩,⟨#[70,82,79,77]⟩,s.table].map bE++kD s.aj
 else [Gr.getD (s.kind-7).toNat ⟨#[]⟩].map bE
structure Yv (s:cm):Prop where
 fin:jA s
 k1:1≤s.kind
 k9:s.kind≤9
 c:s.kind=1→∀c∈s.ay,1≤c.k∧c.k≤3
 r:s.kind=3→∀v∈s.row,nq v
 w:s.kind=4∨s.kind=5∨s.kind=6→s.aj.length=0∨fF 0 s.aj=0
 t:s.kind=5→fF 0 s.bL=0
theorem Rb(ts:List (List Tk)):0<(mv ts).length:=by unfold mv;rw[length_append];simp
theorem Re{ts:List (List Tk)}(h:∀x∈ts,x.length≤10):(mv ts).length≤2+11*ts.length:=by
 have h1:=EY h ts.length;unfold mv;rw[length_append];simp only[length_cons,length_nil];omega
theorem JP(l:List cj):∀x∈l.map iY,x.length≤10:=fun x hx=>by obtain⟨c,_,rfl⟩:=mem_map.1 hx;show 2≤10;decide
theorem Rf(l:List Vl):∀x∈l.map jh,x.length≤10:=fun x hx=>by obtain⟨v,_,rfl⟩:=mem_map.1 hx;have:=PN v;omega
theorem O5:(Tryz.prog.info? 98).map (fun i=>(i.zero,i.size,i.bytes))=some (some (.slice none 0 0),1,24):=by kernel_rfl
theorem HX:(Tryz.prog.info? 137).map (fun i=>(i.zero,i.size,i.bytes))=some (some (.agg #[.int .i64 0,.string ⟨#[]⟩,.int .i64 0]),3,32):=by kernel_rfl
theorem aeQ(hty:(0,typesC)∈G)(s:cm)(hs:Yv s):VP Tryz.prog G 39 [.agg (bK s)] (.list 3 ((qH s).flatMap cT) (qH s).length):=by
 refine VC.body func39 rfl ntmps39 aO fun X0 w0 bg=>?_;have c8:=dR;have hf:=hs.fin;have h6:=hf.ok.1;have h6r:=hf.ok.2.1;have qk:=hf.ok.2.2.2.1;have aka:=hf.ok.2.2.2.2;have Ht:=Iw s.aj;have NJ:=En s.aj;have Gs:=En s.bL;have lp:=Re (JP s.ay);have rR:=Re (Rf s.row);have I:=ZS (G:=G) s hf;rw[length_map] at lp rR;unfold bK at I;unfold bK;refine bU ?_;refine OD.box (ds:=[_,_,_,_,_,_,_,_,_,_,_,_]) ap rfl rfl ot rfl rfl (fun b1=>?_);refine an 107 [1] ?_;refine cL [1,10] ?_;refine aS 1 ?_ (h:=by exact eN);refine jb ?_;refine af [1,10,11] ?_;refine aq ?_ ?_<;>intro aP bC
 ·refine bU ?_;refine bq [1,3] ?_;refine cL [1,3,14,15,16] ?_;refine aS 1 ?_ (h:=by exact eN);refine bI ?_;refine CD.block ?_;refine nl (fun (E:Nat×Option Addr×Nat×List ah) aG=>match E with|(i,c9,cM,Sx)=>(i≤s.ay.length)∧(bp 98 1 (((s.ay.take i).map iY).flatMap cK) ((s.ay.take i).map iY).length c9 cM Sx)∧aG=(⟨107,[(1,cQ b1),(3,aN c9 ((s.ay.take i).map iY).length cM),(14,av 2 cC s.ay),(15,ae (s.ay.length:Nat)),(16,ae (i:Nat))],((⟨b1,32,12,[ae s.kind,bj s.table,av 2 cC s.ay,av 3 cV s.row,av 1 cS s.names,bJ s.count,av 5 cO s.aj,bj s.order,bJ s.down,ae s.hU,bj s.set,av 5 cO s.bL]⟩:ah)::Sx)⟩:St)) (fun (E:Nat×Option Addr×Nat×List ah)=>match E with|(i,c9,cM,Sx)=>s.ay.length-i) (0,none,0,[]) ⟨(Nat.zero_le _),(bp.cast iy jS),rfl⟩ (aK (h:=by repeat (first|exact trivial|refine⟨(by (repeat (first|exact fu|(apply fT;focus (first|rfl|(simp;done)|(congr 2;omega)|(apply eG;exact tM iY aa)|(apply eG;simp;done)))|(apply fC;focus rfl)));done),?_⟩))) ?_;rintro⟨i,c9,cM,Sx⟩ _ ⟨hi,dN,rfl⟩;refine af [1,3,14,15,16,17] ?_;refine aq ?_ ?_<;>intro aZ cr
  ·have aa:i<s.ay.length:=(by simp at aZ;omega)
   have Yw:=hs.c bC _ (getElem_mem aa);refine aB 1 ?_;refine bN (cR (mk:=Op.load 69) rfl ot (by first|exact qy (k:=0) (ds:=[_,_]) rfl rfl isAgg69 sizeOf69 rfl rfl|exact jZ lN isAgg69 sizeOf69 w5|exact jZ ff isAgg69 sizeOf69 w5|exact jZ jf isAgg69 sizeOf69 w5|exact dA (k:=0) lN rfl rfl rfl isAgg69 sizeOf69 w5|exact dA (k:=0) ff rfl rfl rfl isAgg69 sizeOf69 w5|exact dA (k:=0) jf rfl rfl rfl isAgg69 sizeOf69 w5|exact qE (ds:=[_,_]) isAgg69 sizeOf69 rfl rfl)) ?_;refine OD.alloc (ds:=[_,_]) ap rfl rfl zeroValue69 rfl (fun b5=>?_);refine aR 0 [_,_] sizeOf69 ?_;refine an 107 [1,3,5,14,15,16] ?_;refine gJ 11 (au (take 2 _)) ?_ (fun _ h=>(Sublist.map _ (take_sublist _ _)).subset h);refine aC 0 rfl bF ?_;refine aC 1 rfl (dF 0) ?_;refine aC 2 rfl eN ?_;refine aC 3 rfl (dF 1) ?_;refine aC 4 rfl eN ?_;refine aC 5 rfl (su (mk:=Op.indexAddr 132) rfl wq ot (by first|exact Ut runUnderlying132 sizeOf9 rfl w5|exact Ut (j:=Int.toNat _) runUnderlying132 sizeOf9 (Int.toNat_of_nonneg w4).symm w4)) ?_
   refine aC 6 rfl (cR (mk:=Op.load 9) rfl ot (by first|exact zc (k:=0) rfl rfl isAgg9 rfl|exact zc (k:=1) rfl rfl isAgg9 rfl|exact vg lN isAgg9 w5 rfl|exact qB lN isAgg9 w5 rfl|exact vg ff isAgg9 w5 rfl|exact qB ff isAgg9 w5 rfl|exact vg jf isAgg9 w5 rfl|exact qB jf isAgg9 w5 rfl|exact lA (k:=0) lN rfl rfl rfl isAgg9 w5 rfl|exact iT (k:=0) lN rfl rfl rfl isAgg9 w5 rfl|exact lA (k:=1) lN rfl rfl rfl isAgg9 w5 rfl|exact iT (k:=1) lN rfl rfl rfl isAgg9 w5 rfl|exact lA (k:=0) ff rfl rfl rfl isAgg9 w5 rfl|exact iT (k:=0) ff rfl rfl rfl isAgg9 w5 rfl|exact lA (k:=1) ff rfl rfl rfl isAgg9 w5 rfl|exact iT (k:=1) ff rfl rfl rfl isAgg9 w5 rfl|exact lA (k:=0) jf rfl rfl rfl isAgg9 w5 rfl|exact iT (k:=0) jf rfl rfl rfl isAgg9 w5 rfl|exact lA (k:=1) jf rfl rfl rfl isAgg9 w5 rfl|exact iT (k:=1) jf rfl rfl rfl isAgg9 w5 rfl|exact B9 isAgg9 rfl|exact af5 hty isAgg9 (acT Yw.1 Yw.2))) ?_;refine dH.later rfl ?_;refine AD.one (i:=7) az ?_;refine j3 (cf 0 [_,_]) [.string ⟨#[]⟩,.string ⟨#[]⟩] [_,_] zeroValue9 runUnderlying29 sizeOf9 (fun b27=>?_);refine j4 0 27 1 2 ?_;refine AD.one (i:=8) az ?_;refine lj call73 (sB [s.ay[i].n,K0 s.ay[i].k] (by show 2≤10;decide)) ?_;refine AD.one (i:=9) az ?_;refine j3 (cf 0 [_]) [.slice none 0 0] [_] zeroValue98 runUnderlying130 sizeOf98 (fun uO=>?_)
   refine j4 0 29 1 1 ?_;refine AD.one (i:=10) az ?_;refine bz.Ei (Sq:=Sx) (R:=[_,_]) rfl ap rfl rfl underlying130 O5 rfl w8 ot dN (perm_append_comm (l₁:=[_,_])) (cn gb _) ot (ue pP [iY s.ay[i]]) w8 (by rw[length_map,length_take];simp only[maxLen];omega) (by rw[length_map,length_take];omega) iD (fun NM O LY LZ=>?_);refine AD.perm (dV (S1:=[⟨NM,98,O*1,flatMap cK ((s.ay.take i).map iY)++flatMap cK [iY s.ay[i]]⟩]) (A:=[_,_])) ?_;rw[show flatMap cK ((s.ay.take i).map iY)++flatMap cK [iY s.ay[i]]=flatMap cK ((s.ay.take i).map iY++[iY s.ay[i]]) from List.flatMap_append.symm,show((s.ay.take i).map iY).length+1=((s.ay.take i).map iY++[iY s.ay[i]]).length from by rw[length_append];rfl];refine e9 ?_;refine bq [1,3,14,15,16] ?_;refine cc [1,3,14,15,16] ?_;refine⟨((i+1),(some ⟨NM,0,none⟩),O,[⟨NM,98,O*1,flatMap cK ((s.ay.take i).map iY++[iY s.ay[i]])⟩]),_,cq,(aK (h:=by repeat (first|exact trivial|refine⟨(by (repeat (first|exact fu|(apply fT;focus (first|rfl|(simp;done)|(congr 2;omega)|(apply eG;exact tM iY aa)|(apply eG;simp;done)))|(apply fC;focus rfl)));done),?_⟩))),w4,(bp.cast (bM (by rw[length_append];exact LY) LZ) (by exact tM iY aa)),rfl⟩
  have eS:=JO iY (show s.ay.length≤i by simp at aZ;omega);have U:=Tj (G:=G) (s.ay.map iY) GQ (JP s.ay);rw[←eS] at U lp;refine aB 1 ?_;refine bN eN ?_;refine en (cf 0 [_,_,_]) [.string ⟨#[]⟩,.string ⟨#[]⟩,.string ⟨#[]⟩] [_,_,_] zeroValue9 runUnderlying29 sizeOf9 (fun Yx=>?_);refine OD.perm (yN (S2:=[⟨Yx,9,3*1,flatMap cS ([⟨#[67,82,69,65,84,69]⟩,⟨#[84,65,66,76,69]⟩,s.table])⟩]) (A:=[_])) ?_;refine OD.gP (t:=34) (Sq:=[⟨Yx,9,3*1,flatMap cS ([⟨#[67,82,69,65,84,69]⟩,⟨#[84,65,66,76,69]⟩,s.table])⟩]) lk (bM (g:=cS) (sz:=1) (e:=9) (ls:=[⟨#[67,82,69,65,84,69]⟩,⟨#[84,65,66,76,69]⟩,s.table]) (Nat.le_refl _) (show 3≤maxLen by decide)) (cn jf _) (yM (A:=[_])) ?_;refine OD.call ap rfl rfl rfl call73 (ze [⟨#[67,82,69,65,84,69]⟩,⟨#[84,65,66,76,69]⟩,s.table] (by show 3≤10;decide)) ⟨ot,trivial⟩ (eV _) ?_;rintro _ S35 ⟨aqo,aqp,rfl,akb⟩;refine OD.perm (yN (A:=[_])) ?_;refine aF 1 ?_;refine OD.gP (t:=36) (Sq:=Sx) lk dN (cn gb _) (oZ (A:=[_])) ?_;refine dP call74 (U) ?_;refine OD.ey (ls:=([⟨#[67,82,69,65,84,69]⟩,⟨#[84,65,66,76,69]⟩,s.table].map bE)) (new:=(mv ((s.ay.take i).map iY))) (Sq:=S35) iJ lP ap rfl rfl underlying98 HX rfl w8 ot akb (cZ (A:=[_])) ot (Rb _) p9 w9 (fun NE Wp akc akd=>?_)
  refine OD.perm (dV (S1:=[⟨NE,137,Wp*3,flatMap cT (([⟨#[67,82,69,65,84,69]⟩,⟨#[84,65,66,76,69]⟩,s.table].map bE)++(mv ((s.ay.take i).map iY)))⟩]) (A:=[_])) ?_;refine an 107 [2] ?_;refine CD.gP (t:=2) (Sq:=[⟨NE,137,Wp*3,flatMap cT (([⟨#[67,82,69,65,84,69]⟩,⟨#[84,65,66,76,69]⟩,s.table].map bE)++(mv ((s.ay.take i).map iY)))⟩]) lk (bM akc akd) (cn iJ _) (cZ (A:=[_])) ?_;refine aI [] ?_;refine⟨?_,rfl⟩;unfold qH;rw[if_pos bC,←eS]
 refine af [1,10,39] ?_;refine aq ?_ ?_<;>intro bX cA
 ·refine cL [2] ?_;refine aS 1 ?_ (h:=by exact eN);refine cH (sB [⟨#[68,82,79,80]⟩,⟨#[84,65,66,76,69]⟩,s.table] (by show 3≤10;decide)) ?_;refine bI ?_;refine aI [] ?_;refine⟨?_,rfl⟩;unfold qH;rw[if_neg bC,if_pos cA]
 refine af [1,10,45] ?_;refine aq ?_ ?_<;>intro cN dW
 ·refine bU ?_;refine bq [1,6] ?_;refine cL [1,6,48,49,50] ?_;refine aS 1 ?_ (h:=by exact eN);refine bI ?_;refine CD.block ?_;refine nl (fun (E:Nat×Option Addr×Nat×List ah) aG=>match E with|(i,Hw,Hx,Sv)=>(i≤s.row.length)∧(bp 98 1 (((s.row.take i).map jh).flatMap cK) ((s.row.take i).map jh).length Hw Hx Sv)∧aG=(⟨107,[(1,cQ b1),(6,aN Hw ((s.row.take i).map jh).length Hx),(48,av 3 cV s.row),(49,ae (s.row.length:Nat)),(50,ae (i:Nat))],((⟨b1,32,12,[ae s.kind,bj s.table,av 2 cC s.ay,av 3 cV s.row,av 1 cS s.names,bJ s.count,av 5 cO s.aj,bj s.order,bJ s.down,ae s.hU,bj s.set,av 5 cO s.bL]⟩:ah)::Sv)⟩:St)) (fun (E:Nat×Option Addr×Nat×List ah)=>match E with|(i,Hw,Hx,Sv)=>s.row.length-i) (0,none,0,[]) ⟨(Nat.zero_le _),(bp.cast iy jS),rfl⟩ (aK (h:=by repeat (first|exact trivial|refine⟨(by (repeat (first|exact fu|(apply fT;focus (first|rfl|(simp;done)|(congr 2;omega)|(apply eG;exact tM jh aa)|(apply eG;simp;done)))|(apply fC;focus rfl)));done),?_⟩))) ?_;rintro⟨i,Hw,Hx,Sv⟩ _ ⟨hi,ni,rfl⟩;refine af [1,6,48,49,50,51] ?_;refine aq ?_ ?_<;>intro ec fh
  ·have aa:i<s.row.length:=(by simp at ec;omega)
   refine aB 1 ?_;refine bN (cR (mk:=Op.load 41) rfl ot (by first|exact qy (k:=0) (ds:=[_,_,_]) rfl rfl isAgg41 sizeOf41 rfl rfl|exact jZ lN isAgg41 sizeOf41 w5|exact jZ ff isAgg41 sizeOf41 w5|exact jZ jf isAgg41 sizeOf41 w5|exact dA (k:=0) lN rfl rfl rfl isAgg41 sizeOf41 w5|exact dA (k:=0) ff rfl rfl rfl isAgg41 sizeOf41 w5|exact dA (k:=0) jf rfl rfl rfl isAgg41 sizeOf41 w5|exact qE (ds:=[_,_,_]) isAgg41 sizeOf41 rfl rfl)) ?_;refine OD.alloc (ds:=[_,_,_]) ap rfl rfl zeroValue41 rfl (fun b8=>?_);refine aR 0 [_,_,_] sizeOf41 ?_;refine an 107 [1,6,8,48,49,50] ?_;refine dK 1 ?_;refine bN (cR (mk:=Op.load 41) rfl ot (by first|exact qy (k:=0) (ds:=[_,_,_]) rfl rfl isAgg41 sizeOf41 rfl rfl|exact jZ lN isAgg41 sizeOf41 w5|exact jZ ff isAgg41 sizeOf41 w5|exact jZ jf isAgg41 sizeOf41 w5|exact dA (k:=0) lN rfl rfl rfl isAgg41 sizeOf41 w5|exact dA (k:=1) lN rfl rfl rfl isAgg41 sizeOf41 w5|exact dA (k:=0) ff rfl rfl rfl isAgg41 sizeOf41 w5|exact dA (k:=1) ff rfl rfl rfl isAgg41 sizeOf41 w5|exact dA (k:=0) jf rfl rfl rfl isAgg41 sizeOf41 w5|exact dA (k:=1) jf rfl rfl rfl isAgg41 sizeOf41 w5|exact qE (ds:=[_,_,_]) isAgg41 sizeOf41 rfl rfl)) ?_;refine dP call75 (OL s.row[i] (hs.r dW _ (getElem_mem aa))) ?_;refine en (cf 0 [_]) [.slice none 0 0] [_] zeroValue98 runUnderlying130 sizeOf98 (fun b57=>?_)
   refine fA 0 57 1 1 ?_;refine OD.ey (ls:=((s.row.take i).map jh)) (new:=[jh s.row[i]]) (Sq:=Sv) gb pP ap rfl rfl underlying130 O5 rfl w8 ot ni (cZ (A:=[_,_])) ot bn (by simp only[maxLen,length_map,length_take,length_cons,length_nil];omega) (by simp only[length_map,length_take,length_cons,length_nil];omega) (fun Ai Z ake akf=>?_);refine OD.perm (dV (S1:=[⟨Ai,98,Z*1,flatMap cK (((s.row.take i).map jh)++[jh s.row[i]])⟩]) (A:=[_,_])) ?_;refine an 107 [1,6,48,49,50] ?_;refine cc [1,6,48,49,50] ?_;refine⟨((i+1),(some ⟨Ai,0,none⟩),Z,[⟨Ai,98,Z*1,flatMap cK (((s.row.take i).map jh)++[jh s.row[i]])⟩]),_,cq,(aK (h:=by repeat (first|exact trivial|refine⟨(by (repeat (first|exact fu|(apply fT;focus (first|rfl|(simp;done)|(congr 2;omega)|(apply eG;exact tM jh aa)|(apply eG;simp;done)))|(apply fC;focus rfl)));done),?_⟩))),w4,(bp.cast (bM ake akf) (by exact tM jh aa)),rfl⟩
  have Vc:=JO jh (show s.row.length≤i by simp at ec;omega);have U:=Tj (G:=G) (s.row.map jh) GQ (Rf s.row);rw[←Vc] at U rR;refine aB 1 ?_;refine bN eN ?_;refine en (cf 0 [_,_,_,_]) [.string ⟨#[]⟩,.string ⟨#[]⟩,.string ⟨#[]⟩,.string ⟨#[]⟩] [_,_,_,_] zeroValue9 runUnderlying29 sizeOf9 (fun NN=>?_);refine OD.perm (yN (S2:=[⟨NN,9,4*1,flatMap cS ([⟨#[73,78,83,69,82,84]⟩,⟨#[73,78,84,79]⟩,s.table,⟨#[86,65,76,85,69,83]⟩])⟩]) (A:=[_])) ?_;refine OD.gP (t:=62) (Sq:=[⟨NN,9,4*1,flatMap cS ([⟨#[73,78,83,69,82,84]⟩,⟨#[73,78,84,79]⟩,s.table,⟨#[86,65,76,85,69,83]⟩])⟩]) lk (bM (g:=cS) (sz:=1) (e:=9) (ls:=[⟨#[73,78,83,69,82,84]⟩,⟨#[73,78,84,79]⟩,s.table,⟨#[86,65,76,85,69,83]⟩]) (Nat.le_refl _) (show 4≤maxLen by decide)) (cn jf _) (yM (A:=[_])) ?_;refine OD.call ap rfl rfl rfl call73 (ze [⟨#[73,78,83,69,82,84]⟩,⟨#[73,78,84,79]⟩,s.table,⟨#[86,65,76,85,69,83]⟩] (by show 4≤10;decide)) ⟨ot,trivial⟩ (eV _) ?_;rintro _ Da ⟨Wi,xB,rfl,Cg⟩;refine OD.perm (yN (A:=[_])) ?_;refine aF 1 ?_;refine OD.gP (t:=64) (Sq:=Sv) lk ni (cn gb _) (oZ (A:=[_])) ?_;refine dP call74 (U) ?_;refine OD.ey (ls:=([⟨#[73,78,83,69,82,84]⟩,⟨#[73,78,84,79]⟩,s.table,⟨#[86,65,76,85,69,83]⟩].map bE)) (new:=(mv ((s.row.take i).map jh))) (Sq:=Da) iJ lP ap rfl rfl underlying98 HX rfl w8 ot Cg (cZ (A:=[_])) ot (Rb _) p9 w9 (fun pE zR zS zT=>?_)
  refine OD.perm (dV (S1:=[⟨pE,137,zR*3,flatMap cT (([⟨#[73,78,83,69,82,84]⟩,⟨#[73,78,84,79]⟩,s.table,⟨#[86,65,76,85,69,83]⟩].map bE)++(mv ((s.row.take i).map jh)))⟩]) (A:=[_])) ?_;refine an 107 [2] ?_;refine CD.gP (t:=2) (Sq:=[⟨pE,137,zR*3,flatMap cT (([⟨#[73,78,83,69,82,84]⟩,⟨#[73,78,84,79]⟩,s.table,⟨#[86,65,76,85,69,83]⟩].map bE)++(mv ((s.row.take i).map jh)))⟩]) lk (bM zS zT) (cn iJ _) (cZ (A:=[_])) ?_;refine aI [] ?_;refine⟨?_,rfl⟩;unfold qH;rw[if_neg bC,if_neg cA,if_pos dW,←Vc]
 refine af [1,10,67] ?_;refine aq ?_ ?_<;>intro fj gA
 ·refine cL [2] ?_;refine aS 0 ?_ (h:=by exact(cR (mk:=Op.load 32) rfl ot (by first|exact qy (k:=0) (ds:=[_,_,_,_,_,_,_,_,_,_,_,_]) rfl rfl isAgg32 sizeOf32 rfl rfl|exact jZ lN isAgg32 sizeOf32 w5|exact jZ ff isAgg32 sizeOf32 w5|exact jZ jf isAgg32 sizeOf32 w5|exact dA (k:=0) lN rfl rfl rfl isAgg32 sizeOf32 w5|exact dA (k:=0) ff rfl rfl rfl isAgg32 sizeOf32 w5|exact dA (k:=0) jf rfl rfl rfl isAgg32 sizeOf32 w5|exact qE (ds:=[_,_,_,_,_,_,_,_,_,_,_,_]) isAgg32 sizeOf32 rfl rfl)));refine cH (I (hs.w (.inl gA))) ?_;refine bI ?_;refine aI [] ?_;refine⟨?_,rfl⟩;unfold qH;rw[if_neg bC,if_neg cA,if_neg dW,if_pos gA]
 refine af [1,10,71] ?_;refine aq ?_ ?_<;>intro gL kU
 ·refine cL [2] ?_;refine aS 1 ?_ (h:=by exact eN);refine aS 1 ?_ (h:=by exact eN);refine cH (sB [⟨#[85,80,68,65,84,69]⟩,s.table,⟨#[83,69,84]⟩,s.set] (by show 4≤10;decide)) ?_;refine cH (nu ⟨#[61]⟩) ?_;refine aS 2 ?_ (h:=by exact eN);refine cH (O4 s.bL aka (hs.t kU) (fun o h=>(hf.x o h).2)) ?_;refine aS 1 ?_ (h:=by exact eN);refine cH (HS s.aj qk (hs.w (.inr (.inl kU))) (fun o h=>(hf.w o h).2) w4) ?_;refine cH (Em [[⟨#[85,80,68,65,84,69]⟩,s.table,⟨#[83,69,84]⟩,s.set].map bE,[dL ⟨#[61]⟩],ry s.bL,kD s.aj] (by show 4≤1000;decide) (by simp only[flatten_cons,flatten_nil,length_append,length_map,length_cons,length_nil];omega) (by simp only[flatten_cons,flatten_nil,length_append,length_map,length_cons,length_nil];omega)) ?_;refine bI ?_;refine aI [] ?_;refine⟨?_,rfl⟩;unfold qH;rw[if_neg bC,if_neg cA,if_neg dW,if_neg gA,if_pos kU]
 refine af [1,89] ?_;refine aq ?_ ?_<;>intro gj lB
 ·refine CD.seq ?_;refine gJ 8 (au (take 1 _)) ?_ (fun _ h=>(Sublist.map _ (take_sublist _ _)).subset h);refine aC 0 rfl (dF 1) ?_;refine aC 1 rfl eN ?_;refine aC 4 rfl (dF 6) ?_;refine aC 5 rfl eN ?_;refine dH.later rfl ?_;refine AD.one (i:=2) az ?_;refine j3 (cf 0 [_,_,_]) [.string ⟨#[]⟩,.string ⟨#[]⟩,.string ⟨#[]⟩] [_,_,_] zeroValue9 runUnderlying29 sizeOf9 (fun Yy=>?_);refine j4 0 93 1 3 ?_;refine AD.one (i:=3) az ?_;refine bz.call rfl ap rfl rfl rfl call73 (ze [⟨#[68,69,76,69,84,69]⟩,⟨#[70,82,79,77]⟩,s.table] (by show 3≤10;decide)) ⟨ot,trivial⟩ (eV _) iD ?_;rintro _ S94 ⟨aqq,aqr,rfl,akg⟩;refine AD.perm (dV (A:=[_])) ?_;refine AD.one (i:=6) az ?_;refine lj call80 (HS s.aj qk (hs.w (.inr (.inr lB))) (fun o h=>(hf.w o h).2) w4) ?_;refine AD.one (i:=7) az ?_;refine bz.pJ (ls:=([⟨#[68,69,76,69,84,69]⟩,⟨#[70,82,79,77]⟩,s.table].map bE)) (new:=(kD s.aj)) (Sq:=S94) iJ lP rfl ap rfl rfl underlying98 HX rfl w8 runUnderlying98 sizeOf137 ot akg (cZ (A:=[_])) ot p9 w9 (fun aqs aqt S98 akh=>?_);refine AD.perm (dV (A:=[_])) ?_;refine e9 ?_;refine bq [2] ?_;refine CD.gP (t:=2) (Sq:=S98) lk akh (cn iJ _) (cZ (A:=[_])) ?_;refine eJ ?_;refine⟨?_,rfl⟩;unfold qH;rw[if_neg bC,if_neg cA,if_neg dW,if_neg gA,if_neg kU,if_pos lB]
 obtain⟨j,hj,NQ⟩:∃j:Nat,s.kind=((7+j:Nat):Int)∧j<Gr.length:=⟨(s.kind-7).toNat,by have:=hs.k1;have:=hs.k9;omega,by have:=hs.k1;have:=hs.k9;show _<3;omega⟩
 refine cL [2] ?_;refine Ns (g:=cS) (Gr) ?_;refine aS 1 ?_ (h:=by exact eN);refine aS 0 ?_ (h:=by exact(dz (r:=.int .i64 ((j:Nat):Int)) rfl ot bV (gY (by rw[hj,show(((7+j:Nat)):Int)-7=((j:Nat):Int) by omega];exact wrap_i64 w4 (by have:j<3:=NQ;omega)))));refine aS 1 ?_ (h:=by exact(cR (mk:=Op.load 9) rfl ot (by exact qB (i:=j) jf isAgg9 NQ rfl)));refine cH (sB [Gr[j]] Ae) ?_;refine bI ?_;refine aI [] ?_;refine⟨?_,rfl⟩;unfold qH;rw[if_neg bC,if_neg cA,if_neg dW,if_neg gA,if_neg kU,if_neg lB,hj,show(((7+j:Nat):Int)-7).toNat=j by omega,mI NQ];first|done|rfl

theorem O6:∀(l pre:List cj),ru pre l=0→∀c∈l,cG c.n=0∧1≤c.k∧c.k≤3
 | [],_,_,c,hc=>by cases hc
 | a::l,pre,h,c,hc=>by
  have h:(if nD pre a≠0 then nD pre a else ru (pre++[a]) l)=0:=h;by_cases h0:nD pre a=0
  ·rw[if_neg (by simp[h0])] at h;rcases mem_cons.1 hc with rfl|hc
   ·unfold nD at h0;by_cases h1:cG c.n=0
    ·rw[if_neg (by simp[h1])] at h0;by_cases h2:c.k<1∨c.k>3
     ·rw[if_pos h2] at h0;cases h0
     exact⟨h1,by omega⟩
    rw[if_pos h1] at h0;exact absurd h0 h1
   exact O6 l _ h c hc
  rw[if_pos h0] at h;exact absurd h h0
theorem aa9{l:List cj}(h:fD l=0):(1≤l.length∧l.length≤6)∧∀c∈l,cG c.n=0∧1≤c.k∧c.k≤3:=by
 unfold fD at h;split at h
 ·cases h
 exact⟨by omega,O6 l [] h⟩
theorem Tn{α:Type}{f:α→Int}:∀{l:List α},jL f l=0→∀a∈l,f a=0
 | [],_,a,h=>by cases h
 | b::r,h,a,ha=>by
  unfold jL at h;split at h
  ·exact absurd h uB
  rcases mem_cons.1 ha with rfl|ha
  ·have hn:¬f a≠0:=(by assumption)
   omega
  exact Tn h a ha
theorem JQ{l:List aJ}(h:nS l=0):l.length=0∨fF 0 l=0:=by
 unfold nS at h;split at h
 ·exact .inl uB
 right;unfold gz at h;split at h
 ·cases h
 exact h
theorem agu{l:List aJ}(h:gz l=0):fF 0 l=0∧l.length≤40:=by
 unfold gz at h;split at h
 ·cases h
 exact⟨h,by omega⟩
theorem ahW{s:cm}(h:fY s=0):iC s=0∧ji s (gp s)=true∧(s.kind<7→cG s.table=0):=by
 unfold fY at h;split at h
 ·rename_i h1;exact absurd h h1.2
 rename_i h1;split at h
 ·cases h
 rename_i h2;refine⟨h,?_,fun hk=>?_⟩
 ·cases hb:ji s (gp s) with
  | true=>rfl
  | false=>exact absurd ⟨h,hb⟩ h2
 by_cases hn:cG s.table=0
 ·exact hn
 exact absurd ⟨hk,hn⟩ h1
theorem ahX{s:cm}(hf:jA s)(h1:1≤s.kind)(I:s.kind≤9)(h:fY s=0):Yv s:=by
 have he:=(ahW h).1;unfold iC at he;refine⟨hf,h1,I,fun hk=>?_,fun hk v E=>?_,fun hk=>?_,fun hk=>?_⟩
 ·rw[if_pos hk] at he;exact fun c hc=>((aa9 he).2 c hc).2
 ·rw[if_neg w4,if_pos hk] at he;unfold dB at he;split at he
  ·cases he
  exact Fv (Tn he v E) (hf.r v E).1 (hf.r v E).2
 ·by_cases h4:s.kind=4
  ·rw[if_neg w4,if_neg w4,if_pos h4] at he;unfold pc at he;repeat' split at he
   all_goals first|(exfalso;omega)|exact JQ w4
  by_cases h5:s.kind=5
  ·rw[if_neg w4,if_neg w4,if_neg h4,if_pos h5] at he;repeat' split at he
   all_goals first|(exfalso;omega)|exact JQ he
  rw[if_neg w4,if_neg w4,if_neg h4,if_neg h5,if_pos w4] at he;exact JQ he
 rw[if_neg w4,if_neg w4,if_neg w4,if_pos hk] at he;repeat' split at he
 all_goals first|(exfalso;omega)|exact(agu uB).1
def gg(s:cm):Int:=if s.kind<1∨s.kind>9 then 2 else if fY s≠0 then fY s else if (qH s).length>100 then 10 else 0
theorem Rg(hm:(3,marksC)∈G)(hw:(1,wordsC)∈G)(O:(0,typesC)∈G)(s:cm)(hf:jA s):VP Tryz.prog G 25 [.agg (bK s)] (ae (gg s)):=by
 refine VC.body func25 rfl ntmps25 aO fun X0 w0 bg=>?_;have c8:=dR;have eT:=aa8 hm hw s hf;unfold bK at eT;unfold bK;have Z:(s.kind<1∨s.kind>9)∨¬(s.kind<1∨s.kind>9):=(by omega)
 refine bU ?_;refine OD.box (ds:=[_,_,_,_,_,_,_,_,_,_,_,_]) ap rfl rfl ot rfl rfl (fun b1=>?_);refine an 21 [1] ?_;refine aB 4 ?_;refine bP 7 (fun U E=>?_) (fun U E=>?_)
 ·refine bq [1,11] ?_;refine eD ?_;have aW:gg s=2:=if_pos w4;exact xZ
 refine bq [1,11] ?_;refine aq ?_ ?_<;>intro aP bC
 ·have aW:gg s=2:=if_pos w4;exact xZ
 have hk:¬(s.kind<1∨s.kind>9):=(by omega)
 refine cz [1,3] (eT) ?_;refine af [1,3,15] ?_;refine aq ?_ ?_<;>intro aZ cr
 ·have hn:fY s≠0:=(by simpa using aZ)
  have aW:gg s=fY s:=(by unfold gg;rw[if_neg hk,if_pos hn])
  exact xZ
 have h0:fY s=0:=(by simpa using aZ)
 have I:=aeQ O s (ahX hf w4 w4 h0);unfold bK at I;have gE:¬fY s≠0:=fun h=>h h0;refine cz [20] (I) ?_;refine aq ?_ ?_<;>intro bX cA
 ·have aW:gg s=10:=(by unfold gg;rw[if_neg hk,if_neg gE,if_pos (by simp at bX;omega)])
  exact xZ
 have aW:gg s=0:=(by unfold gg;rw[if_neg hk,if_neg gE,if_neg (by simp at bX;omega)])
 refine af [2] ?_;refine eJ ?_;rw[aW];exact⟨rfl,rfl⟩

end Go.Proofs.YtdgichenhdikgaaGreatDoor.Pa
namespace Go.Proofs.YtdgichenhdikgaaGreatDoor.Pc
open List
open Go.Proofs.Tryz
open Go.RowKit V Pk Vl Go.Proofs.YtdgichenhdikgaaGreatDoor.Nm Pa
variable {G:List (Nat×List Value)}
variable {i:Nat}
theorem agv:cG ⟨#[116]⟩=0:=tF (l:=[116]) w8 w8 (fun c hc=>by simp only[mem_singleton] at hc;subst hc;decide)
def qX(l:List cj):cm:={fW with kind:=1,table:=⟨#[116]⟩,ay:=l}
theorem ahY{l:List cj}(h6:l.length≤6)(aQ:∀c∈l,c.n.size≤maxLen):jA (qX l) :=
 ⟨⟨h6,Nat.zero_le _,Nat.zero_le _,Nat.zero_le _,Nat.zero_le _⟩,(by show 1≤maxLen;decide),aQ,(fun _ h=>by cases h),Nat.zero_le _,Nat.zero_le _,(fun _ h=>by cases h),(fun _ h=>by cases h),(fun _ h=>by cases h)⟩
theorem agw(l:List cj):ji (qX l) (qX l)=true:=by
 unfold ji;simp only[Bool.and_eq_true,beq_iff_eq,wD,and_self]
theorem aeR(l:List cj):fY (qX l)=fD l:=by
 have h1:iC (qX l)=fD l:=rfl;have h2:gp (qX l)=qX l:=rfl;unfold fY;rw[if_neg (fun h=>h.2 agv),h2,h1,if_neg (fun h=>by rw[agw] at h;cases h.2)]
theorem acU{l:List cj}(h6:l.length≤6):gg (qX l)=fD l:=by
 unfold gg;rw[if_neg (fun h=>by have:(qX l).kind=1:=rfl;omega),aeR];split
 ·rfl
 rename_i h0;have h1:=EY (ts:=l.map iY) (JP l) (l.map iY).length;have h2:(mv (l.map iY)).length≤80:=(by unfold mv;rw[length_append];rw[length_map] at h1 ⊢;simp only[length_cons,length_nil];omega)
 have h3:(qH (qX l)).length≤100:=by
  show([_,_,_].map bE++mv (l.map iY)).length≤100;rw[length_append];simp only[length_map,length_cons,length_nil];omega
 rw[if_neg w4];simp only[ne_eq,Decidable.not_not] at h0;exact h0.symm
def NR(l:List cj):List D:=[ae 1,bj ⟨#[116]⟩,av 2 cC l,bH,bH,bJ false,bH,fk,bJ false,ae (-1),fk,bH]
theorem aba(hm:(3,marksC)∈G)(hw:(1,wordsC)∈G)(ht:(0,typesC)∈G)(l:List cj)(hl:l.length≤6)(aQ:∀c∈l,c.n.size≤maxLen):VP Tryz.prog G 25 [.agg (NR l)] (ae (fD l)):=by
 have h:=Pa.Rg (G:=G) hm hw ht (qX l) (ahY hl aQ);rw[acU hl] at h;refine VC.args h rfl fun w L i h1 h2 v E=>?_;have:i=0:=(by simp only[length_cons,length_nil] at h1;omega)
 subst this;exact BA (a:=NR l) (b:=bK (qX l)) ⟨dJ,dJ,dJ,eZ,eZ,dJ,eZ,dJ,dJ,dJ,dJ,eZ,trivial⟩ w L v E
theorem E8(hm:(3,marksC)∈G)(hw:(1,wordsC)∈G)(ht:(0,typesC)∈G)(l:List cj)(hl:l.length≤6)(aQ:∀c∈l,c.n.size≤maxLen):VP Tryz.prog G 54 [av 2 cC l] (ae (fD l)):=by
 refine VC.body func54 rfl ntmps54 aO fun X0 w0 bg=>?_;have c8:=dR;have eT:=aba hm hw ht l hl aQ;unfold NR at eT;refine af [0] ?_;refine cz [2] (eT) ?_;exact z51
def lW(i:Nat)(c:cj)(v:Vl):Int:=if bW v≠0 then bW v else if v.k≠c.k∧(i=0∨v.k≠0) then 4 else 0
def pn:Nat→List cj→List Vl→Int
 | i,c::cs,v::vs=>if lW i c v≠0 then lW i c v else pn (i+1) cs vs
 | _,_,_=>0
def dB(cs:List cj)(vs:List Vl):Int:=if fD cs≠0 then fD cs else if vs.length≠cs.length then 1 else pn 0 cs vs
theorem aaR{cs:List cj}{vs:List Vl}(h1:i<cs.length)(h2:i<vs.length)(h:lW i cs[i] vs[i]=0):pn i (cs.drop i) (vs.drop i)=pn (i+1) (cs.drop (i+1)) (vs.drop (i+1)):=by
 rw[drop_eq_getElem_cons h1,drop_eq_getElem_cons h2];exact if_neg (by simp[h])
theorem QJ{cs:List cj}{vs:List Vl}(h1:i<cs.length)(h2:i<vs.length)(h:lW i cs[i] vs[i]≠0):pn i (cs.drop i) (vs.drop i)=lW i cs[i] vs[i]:=by
 rw[drop_eq_getElem_cons h1,drop_eq_getElem_cons h2];exact if_pos h
theorem acV{cs:List cj}{vs:List Vl}(h:¬i<vs.length):pn i (cs.drop i) (vs.drop i)=0:=by
 rw[drop_of_length_le (l:=vs) w4];cases cs.drop i<;>rfl
theorem Kv(hm:(3,marksC)∈G)(hw:(1,wordsC)∈G)(ht:(0,typesC)∈G)(l:List cj)(hl:l.length≤6)(aQ:∀c∈l,c.n.size≤maxLen)(vs:List Vl)(rR:vs.length≤maxLen):VP Tryz.prog G 33 [av 2 cC l,av 3 cV vs] (ae (dB l vs)):=by
 refine VC.body func33 rfl ntmps33 aO fun X0 w0 bg=>?_;have c8:=dR;refine af [0,1] ?_;refine cz [0,1,5] (E8 hm hw ht l hl aQ) ?_;refine af [0,1,5,12] ?_;refine aq ?_ ?_<;>intro aP bC
 ·have hne:fD l≠0:=(by simpa using aP)
  have aW:dB l vs=fD l:=if_pos hne;refine af [4] ?_;exact oQ
 have h0:¬fD l≠0:=(by simpa using aP)
 refine af [0,1,18] ?_;refine aq ?_ ?_<;>intro aZ cr
 ·have aW:dB l vs=1:=(by unfold dB;rw[if_neg h0,if_pos w4])
  refine af [4] ?_;exact oQ
 have Z:vs.length=l.length:=(by omega)
 have E:dB l vs=pn 0 (l.drop 0) (vs.drop 0):=(by unfold dB;rw[if_neg h0,if_neg (by simp[Z])];rfl)
 refine af [0,19,20,21] ?_;refine eA [0,19,20] (fun aX _ (i:Nat) aG=>(i≤vs.length)∧(dB l vs=pn i (l.drop i) (vs.drop i))∧aG=(⟨49,(21,ae (i:Nat))::aX,[]⟩:St)) (fun (i:Nat)=>vs.length-i) 0 ⟨(Nat.zero_le _),E,rfl⟩ ?_;rintro i _ ⟨hi,hinv,rfl⟩;refine af [0,19,20,21,22] ?_;refine aq ?_ ?_<;>intro bX cA
 ·have aa:i<vs.length:=(by omega)
  have Lm:i<l.length:=(by omega)
  refine aB 3 ?_;refine OD.alloc (ds:=[_,_,_]) ap rfl rfl zeroValue41 rfl (fun b7=>?_);refine aF 1 ?_;refine aR 0 [_,_,_] sizeOf41 ?_;refine an 49 [0,6,7,19,20,21] ?_;refine cz [0,6,7,8,19,20,21] (Vl.pL vs[i]) ?_;refine af [0,6,7,8,19,20,21,29] ?_;refine aq ?_ ?_<;>intro cN dW
  ·have hne:bW vs[i]≠0:=(by simpa using cN)
   have hf:lW i l[i] vs[i]=bW vs[i]:=if_pos hne;have aW:dB l vs=bW vs[i]:=(by rw[hinv,QJ Lm aa (by rw[hf];exact hne),hf])
   refine af [4] ?_;exact oQ
  have hz:¬bW vs[i]≠0:=(by simpa using cN)
  refine CD.skip ?_;refine CD.seq ?_;refine nH 7 [0,6,7,19,20,21,32,37] ?_;refine bI ?_;refine aF 2 ?_;refine bP 39 (fun U I=>?_) (fun U I=>?_)
  ·refine aF 3 ?_;refine bP 42 (fun rC O=>?_) (fun rC O=>?_)
   ·refine bq [0,19,20,21,47] ?_;refine eD ?_;exact XA
   refine bq [0,19,20,21,47] ?_;refine aq ?_ ?_<;>intro ec fh
   ·exact XA
   exact z72
  refine bq [0,19,20,21,47] ?_;refine fJ ?_;exact z72
 have aW:dB l vs=0:=(by rw[hinv];exact acV w4)
 refine af [4] ?_;exact uE

end Go.Proofs.YtdgichenhdikgaaGreatDoor.Pc

namespace Go.Proofs.YtdgichenhdikgaaGreatDoor.Nm
open List
open Go.Proofs.Tryz
open Go.RowKit V Pk Vl
inductive Tw where
 | mk (k n:Int) (s:ByteArray) (ts:List Tw)
mutual
def Tw.cs:Tw→List D
 | .mk k n s ts=>[.v (.int .i64 k),.v (.int .i64 n),.v (.string s),.list 4 (Tw.mi ts) ts.length]
def Tw.mi:List Tw→List D
 | []=>[]
 | t::r=>t.cs++Tw.mi r
end
theorem Tw.Kw:∀ts:List Tw,Tw.mi ts=ts.flatMap Tw.cs
 | []=>rfl
 | t::r=>by rw[Tw.mi,Tw.Kw r,flatMap_cons]
theorem Tw.Fw(t:Tw):t.cs.length=4:=by cases t;rfl
mutual
def Tw.Ok:Tw→Prop
 | .mk k n s ts=>(-9223372036854775808≤k∧k≤9223372036854775807)∧(-9223372036854775808≤n∧n≤9223372036854775807)∧s.size≤maxLen∧ts.length≤maxLen∧Tw.Hy ts
def Tw.Hy:List Tw→Prop
 | []=>True
 | t::r=>t.Ok∧Tw.Hy r
end
theorem Tw.Tp:∀{ts:List Tw},Tw.Hy ts→∀t∈ts,t.Ok
 | [],_,t,h=>by cases h
 | a::r,⟨h1,h2⟩,t,h=>by
  rcases mem_cons.1 h with rfl|h
  ·exact h1
  exact Tw.Tp h2 t h
theorem Tw.Tq:∀{ts:List Tw},(∀t∈ts,t.Ok)→Tw.Hy ts
 | [],_=>trivial
 | a::r,h=>⟨h a mem_cons_self,Tw.Tq fun t ht=>h t (mem_cons_of_mem _ ht)⟩

def ph(j:Int):ByteArray:=if j=0 then ⟨#[105,100]⟩ else if j=1 then ⟨#[110]⟩ else if j=2 then ⟨#[115]⟩ else ⟨#[98]⟩
def rD(n:Int)(s:ByteArray):Vl:={oD ⟨n,dY n 40-20,s⟩ with s:=mT (oD ⟨n,dY n 40-20,s⟩).s 4}
def rm(n:Int)(s:ByteArray):aJ:=⟨1,rD n s,⟨#[]⟩⟩
def vj(n:Int):aJ:=⟨2,aV,ph (dY n 4)⟩
def oE(k:Int):aJ:=⟨k,aV,⟨#[]⟩⟩
def lM(k n:Int)(s:ByteArray):List aJ:=if 1+dY k 11=2 then [vj n] else [rm n s]
def gQ:Nat→Tw→List aJ
 | 0,.mk k n s _=>lM k n s
 | r+1,.mk k n s ts =>
  if 1+dY k 11=1 then [rm n s]
  else if 1+dY k 11=2 then [vj n]
  else if 1+dY k 11=5∨1+dY k 11=11 then (match ts[0]? with|some t=>gQ r t|none=>lM n 0 s)++[oE (1+dY k 11)]
  else ((match ts[0]? with|some t=>gQ r t|none=>lM n 0 s)++(match ts[1]? with|some t=>gQ r t|none=>lM n 1 s))++[oE (1+dY k 11)]
def gi(r:Nat)(ts:List Tw)(n:Int)(s:ByteArray)(i:Nat):List aJ:=match ts[i]? with|some t=>gQ r t|none=>lM n i s
theorem yP(k n:Int)(s:ByteArray):(lM k n s).length=1:=by unfold lM;split<;>rfl
theorem JR:∀(r:Nat) (t:Tw),1≤(gQ r t).length∧(gQ r t).length+1≤2 ^ (r+1)
 | 0,.mk k n s ts=>by rw[gQ,yP];exact⟨by decide,by decide⟩
 | r+1,.mk k n s ts=>by
  have E:∀i:Nat,1≤(gi r ts n s i).length∧(gi r ts n s i).length+1≤2 ^ (r+1):=fun i=>by
   unfold gi;split
   ·exact JR r _
   rw[yP];exact⟨by decide,by rw[Nat.pow_succ];have:=Nat.one_le_two_pow (n:=r);omega⟩
  have h0:=E 0;have h1:=E 1;unfold gi at h0 h1;have hp:2 ^ (r+1+1)=2 ^ (r+1)+2 ^ (r+1):=(by rw[Nat.pow_succ];omega)
  rw[gQ];simp only[Int.natCast_zero,Int.natCast_one] at h0 h1;split
  ·exact⟨by simp,by simp;omega⟩
  split
  ·exact⟨by simp,by simp;omega⟩
  split<;>simp only[length_append,length_cons,length_nil]<;>omega
theorem Ts(r:Nat)(ts:List Tw)(n:Int)(s:ByteArray)(i:Nat):1≤(gi r ts n s i).length∧(gi r ts n s i).length+1≤2 ^ (r+1):=by
 unfold gi;split
 ·exact JR r _
 rw[yP];exact⟨by decide,by rw[Nat.pow_succ];have:=Nat.one_le_two_pow (n:=r);omega⟩
theorem O7(r:Vl):(oD r).s.size≤10:=by
 unfold oD aV;split
 ·exact Nat.zero_le _
 split
 ·exact Nat.zero_le _
 split
 ·show(mT r.s 10).size≤10;rw[Ek];omega
 decide
theorem Tu{j:Nat}(h:j<4):[D.v (.string ⟨#[105,100]⟩),D.v (.string ⟨#[110]⟩),D.v (.string ⟨#[115]⟩),D.v (.string ⟨#[98]⟩)][j*1]?=some (bj (ph (j:Int))):=by
 match j,h with
 | 0,_|1,_|2,_|3,_=>rfl
variable {G:List (Nat×List Value)}
abbrev xD(ls:List aJ)(r:D)(S:List ah):Prop:=gh cO 43 5 ls r S

theorem Tv(k n d:Int)(s:ByteArray)(d4:D)(h4:kR d4=true)(de:-9223372036854775808≤k)(fb:k≤9223372036854775807)(gk:-9223372036854775808≤n)(iR:n≤9223372036854775807)(hs:s.size≤maxLen)(hd:2<d):VC Tryz.prog G 32 [.agg [ae k,ae n,bj s,d4],ae d] [] (xD (lM k n s)):=by
 refine VC.body func32 rfl ntmps32 aO fun X0 w0 bg=>?_;have hpk:=jD k (by decide:(1:Int)≤11);have hpn:=jD n (by decide:(1:Int)≤40);have U:=jD n (by decide:(1:Int)≤4);obtain⟨j,hj⟩:=Int.eq_ofNat_of_zero_le U.1;have Z:j<4:=(by omega)
 have I:=lu G n 4 gk iR w8;rw[hj] at I;have fQ:(⟨n,dY n 40-20,s⟩:Vl).Ok:=⟨gk,iR,by show _≤dY n 40-20;omega,by show dY n 40-20≤_;omega,hs⟩
 have XW:=O7 ⟨n,dY n 40-20,s⟩;have hml:100≤maxLen:=(by decide)
 obtain⟨kk,lF⟩:∃kk:Int,1+dY k 11=kk:=⟨_,rfl⟩
 refine bU ?_;refine OD.box (ds:=[_,_,_,_]) ap rfl rfl ot rfl rfl (fun b2=>?_);refine OD.box (ds:=[_]) ap rfl rfl ot rfl rfl (fun b3=>?_);refine an 69 [2,3] ?_;refine cL [2,3,5] ?_;refine cH (lu G k 11 de fb w8) ?_;refine aS 0 ?_ (h:=by exact(dz (r:=.int .i64 kk) rfl bV ot (kr (by rw[lF];exact wrap_i64 w4 w4))));refine bI ?_;refine aB 3 ?_;refine bP 14 (fun E O=>?_) (fun E O=>?_)
 ·refine bq [2,3,5,17] ?_;refine aq ?_ ?_<;>intro aP bC
  ·refine cc [2,3,5] ?_;refine cL [2,5,6] ?_;refine aS 0 ?_ (h:=by exact(pK (ds:=[_,_]) rfl ⟨ot,ot,trivial⟩));refine bI ?_;refine af [2,5,6,19] ?_;refine af [2,5,6,19,20] ?_;refine eD ?_;exact VW
  refine cL [2,5,6] ?_;refine aS 0 ?_ (h:=by exact(pK (ds:=[_,_]) rfl ⟨ot,ot,trivial⟩));refine bI ?_;refine af [2,5,6,19] ?_;refine af [2,5,6,19,20] ?_;refine aq ?_ ?_<;>intro aZ cr
  ·exact VW
  refine af [2,5,6,19,40] ?_;refine aq ?_ ?_<;>intro bX cA
  ·refine aB 1 ?_;refine en (cf 0 [_,_,_,_]) [.string ⟨#[]⟩,.string ⟨#[]⟩,.string ⟨#[]⟩,.string ⟨#[]⟩] [_,_,_,_] zeroValue9 runUnderlying29 sizeOf9 (fun Yz=>?_);refine fA 0 43 1 4 ?_;refine aF 2 ?_;refine dP call21 (I) ?_;refine aF 1 ?_;refine bN (cR (mk:=Op.load 9) rfl ot (B9 isAgg9 (Tu Z))) ?_;refine aF 1 ?_;refine en (cf 0 [_]) [.int .i64 0,.int .i64 0,.int .i64 0,.string ⟨#[]⟩,.string ⟨#[]⟩] [_,_,_,_,_] zeroValue43 runUnderlying30 sizeOf43 (fun AB=>?_);exact z28
  exact absurd bX (by simp at aP aZ bX;omega)
 exact absurd E (by simp at E;omega)

end Go.Proofs.YtdgichenhdikgaaGreatDoor.Nm
