/-
  What the proof of InsertOne leans on, part 4 of 9: walks of the program's functions at the level of values, and plain facts of what they compute.
-/
import Derived.Test.YtdgichenhdikgaaGreatDoorPInsertOne3
set_option linter.unusedVariables false
set_option linter.unusedSimpArgs false
set_option maxRecDepth 100000
set_option maxHeartbeats 4000000
namespace Go.Proofs.YtdgichenhdikgaaGreatDoor.V
open List
open Go.RowKit V
instance ik3:Ik Tryz.prog 3 .i64:=⟨by kernel_rfl⟩
instance apw:Sl Tryz.prog 22 14:=⟨by kernel_rfl⟩
instance apx:Sl Tryz.prog 23 5:=⟨by kernel_rfl⟩
instance ao1:tc Tryz.prog 23 5:=⟨by kernel_rfl⟩
instance aof:Fo Tryz.prog 25 0 0:=⟨by kernel_rfl⟩
instance apy:Sz Tryz.prog 25 1:=⟨by kernel_rfl⟩
instance apz:Sb Tryz.prog 25 [.slice none 0 0] [(0,1)]:=⟨by kernel_rfl,by kernel_rfl⟩
instance apA:Sl Tryz.prog 27 2:=⟨by kernel_rfl⟩
instance apB:Sl Tryz.prog 28 3:=⟨by kernel_rfl⟩
instance ao2:tc Tryz.prog 28 3:=⟨by kernel_rfl⟩
instance apC:Sl Tryz.prog 29 1:=⟨by kernel_rfl⟩
instance ao3:tc Tryz.prog 29 1:=⟨by kernel_rfl⟩
instance apD:Sl Tryz.prog 30 5:=⟨by kernel_rfl⟩
instance aog:Fo Tryz.prog 32 0 0:=⟨by kernel_rfl⟩
instance aoh:Fo Tryz.prog 32 1 1:=⟨by kernel_rfl⟩
instance aoi:Fo Tryz.prog 32 2 2:=⟨by kernel_rfl⟩
instance aoj:Fo Tryz.prog 32 3 3:=⟨by kernel_rfl⟩
instance aok:Fo Tryz.prog 32 4 4:=⟨by kernel_rfl⟩
instance aol:Fo Tryz.prog 32 5 5:=⟨by kernel_rfl⟩
instance aom:Fo Tryz.prog 32 6 6:=⟨by kernel_rfl⟩
instance aon:Fo Tryz.prog 32 7 7:=⟨by kernel_rfl⟩
instance aoo:Fo Tryz.prog 32 8 8:=⟨by kernel_rfl⟩
instance aop:Fo Tryz.prog 32 9 9:=⟨by kernel_rfl⟩
instance anV:Fo Tryz.prog 32 10 10:=⟨by kernel_rfl⟩
instance anW:Fo Tryz.prog 32 11 11:=⟨by kernel_rfl⟩
instance apE:Sz Tryz.prog 32 12:=⟨by kernel_rfl⟩
instance apF:Sb Tryz.prog 32 [.int .i64 0,.string ⟨#[]⟩,.slice none 0 0,.slice none 0 0,.slice none 0 0,.bool false,.slice none 0 0,.string ⟨#[]⟩,.bool false,.int .i64 0,.string ⟨#[]⟩,.slice none 0 0] [(0,1),(1,1),(2,1),(3,1),(4,1),(5,1),(6,1),(7,1),(8,1),(9,1),(10,1),(11,1)]:=⟨by kernel_rfl,by kernel_rfl⟩
instance apG:Sl Tryz.prog 34 1:=⟨by kernel_rfl⟩
instance aoq:Fo Tryz.prog 36 0 0:=⟨by kernel_rfl⟩
instance aor:Fo Tryz.prog 36 1 1:=⟨by kernel_rfl⟩
instance apH:Sz Tryz.prog 36 2:=⟨by kernel_rfl⟩
instance apI:Sb Tryz.prog 36 [.slice none 0 0,.int .i64 0] [(0,1),(1,1)]:=⟨by kernel_rfl,by kernel_rfl⟩
instance aos:Fo Tryz.prog 41 0 0:=⟨by kernel_rfl⟩
instance aot:Fo Tryz.prog 41 1 1:=⟨by kernel_rfl⟩
instance aou:Fo Tryz.prog 41 2 2:=⟨by kernel_rfl⟩
instance apJ:Sz Tryz.prog 41 3:=⟨by kernel_rfl⟩
instance apK:Sb Tryz.prog 41 [.int .i64 0,.int .i64 0,.string ⟨#[]⟩] [(0,1),(1,1),(2,1)]:=⟨by kernel_rfl,by kernel_rfl⟩
instance aov:Fo Tryz.prog 43 0 0:=⟨by kernel_rfl⟩
instance aow:Fo Tryz.prog 43 1 1:=⟨by kernel_rfl⟩
instance aox:Fo Tryz.prog 43 2 4:=⟨by kernel_rfl⟩
instance apL:Sz Tryz.prog 43 5:=⟨by kernel_rfl⟩
instance apM:Sb Tryz.prog 43 [.int .i64 0,.int .i64 0,.int .i64 0,.string ⟨#[]⟩,.string ⟨#[]⟩] [(0,1),(1,3),(4,1)]:=⟨by kernel_rfl,by kernel_rfl⟩
instance apN:Sl Tryz.prog 49 5:=⟨by kernel_rfl⟩
instance aoy:Fo Tryz.prog 51 0 0:=⟨by kernel_rfl⟩
instance aoz:Fo Tryz.prog 51 1 1:=⟨by kernel_rfl⟩
instance apO:Sz Tryz.prog 51 2:=⟨by kernel_rfl⟩
instance apP:Sb Tryz.prog 51 [.slice none 0 0,.int .i64 0] [(0,1),(1,1)]:=⟨by kernel_rfl,by kernel_rfl⟩
instance aoA:Fo Tryz.prog 53 0 0:=⟨by kernel_rfl⟩
instance aoB:Fo Tryz.prog 53 1 1:=⟨by kernel_rfl⟩
instance aoC:Fo Tryz.prog 53 2 2:=⟨by kernel_rfl⟩
instance aoD:Fo Tryz.prog 53 3 3:=⟨by kernel_rfl⟩
instance apQ:Sz Tryz.prog 53 5:=⟨by kernel_rfl⟩
instance apR:Sb Tryz.prog 53 [.string ⟨#[]⟩,.slice none 0 0,.slice none 0 0,.slice none 0 0,.int .i64 0] [(0,1),(1,1),(2,1),(3,2)]:=⟨by kernel_rfl,by kernel_rfl⟩
instance aoE:Fo Tryz.prog 62 0 0:=⟨by kernel_rfl⟩
instance aoF:Fo Tryz.prog 62 1 1:=⟨by kernel_rfl⟩
instance aoG:Fo Tryz.prog 62 2 2:=⟨by kernel_rfl⟩
instance aoH:Fo Tryz.prog 62 3 3:=⟨by kernel_rfl⟩
instance apS:Sz Tryz.prog 62 4:=⟨by kernel_rfl⟩
instance apT:Sb Tryz.prog 62 [.int .i64 0,.int .i64 0,.string ⟨#[]⟩,.slice none 0 0] [(0,1),(1,1),(2,1),(3,1)]:=⟨by kernel_rfl,by kernel_rfl⟩
instance apU:Sl Tryz.prog 67 1:=⟨by kernel_rfl⟩
instance ao4:tc Tryz.prog 67 1:=⟨by kernel_rfl⟩
instance aoI:Fo Tryz.prog 69 0 0:=⟨by kernel_rfl⟩
instance aoJ:Fo Tryz.prog 69 1 1:=⟨by kernel_rfl⟩
instance apV:Sz Tryz.prog 69 2:=⟨by kernel_rfl⟩
instance apW:Sb Tryz.prog 69 [.string ⟨#[]⟩,.int .i64 0] [(0,1),(1,1)]:=⟨by kernel_rfl,by kernel_rfl⟩
instance aoK:Fo Tryz.prog 77 1 1:=⟨by kernel_rfl⟩
instance aoL:Fo Tryz.prog 77 2 2:=⟨by kernel_rfl⟩
instance aoM:Fo Tryz.prog 77 3 3:=⟨by kernel_rfl⟩
instance aoN:Fo Tryz.prog 77 4 4:=⟨by kernel_rfl⟩
instance aoO:Fo Tryz.prog 77 5 5:=⟨by kernel_rfl⟩
instance aoP:Fo Tryz.prog 77 6 9:=⟨by kernel_rfl⟩
instance aoQ:Fo Tryz.prog 77 7 13:=⟨by kernel_rfl⟩
instance apX:Sz Tryz.prog 77 14:=⟨by kernel_rfl⟩
instance apY:Sb Tryz.prog 77 [.int .i64 0,.int .i64 0,.int .i64 0,.int .i64 0,.slice none 0 0,.int .i64 0,.int .i64 0,.string ⟨#[]⟩,.slice none 0 0,.int .i64 0,.int .i64 0,.string ⟨#[]⟩,.slice none 0 0,.bool false] [(0,1),(1,1),(2,1),(3,1),(4,1),(5,4),(9,4),(13,1)]:=⟨by kernel_rfl,by kernel_rfl⟩
instance apZ:Sl Tryz.prog 85 2:=⟨by kernel_rfl⟩
instance aoR:Fo Tryz.prog 90 1 1:=⟨by kernel_rfl⟩
instance ap0:Sz Tryz.prog 90 2:=⟨by kernel_rfl⟩
instance ao5:tc Tryz.prog 98 3:=⟨by kernel_rfl⟩
instance anX:Fo Tryz.prog 114 0 0:=⟨by kernel_rfl⟩
instance anY:Fo Tryz.prog 114 1 1:=⟨by kernel_rfl⟩
instance anZ:Fo Tryz.prog 114 2 2:=⟨by kernel_rfl⟩
instance ao6:Sz Tryz.prog 114 3:=⟨by kernel_rfl⟩
instance ao7:Sb Tryz.prog 114 [.int .i64 0,.int .i64 0,.string ⟨#[]⟩] [(0,1),(1,1),(2,1)]:=⟨by kernel_rfl,by kernel_rfl⟩
instance ao8:Sl Tryz.prog 130 1:=⟨by kernel_rfl⟩
instance aoS:tc Tryz.prog 130 1:=⟨by kernel_rfl⟩
instance an0:Fo Tryz.prog 137 0 0:=⟨by kernel_rfl⟩
instance an1:Fo Tryz.prog 137 1 1:=⟨by kernel_rfl⟩
instance an2:Fo Tryz.prog 137 2 2:=⟨by kernel_rfl⟩
instance ao9:Sz Tryz.prog 137 3:=⟨by kernel_rfl⟩
instance apa:Sb Tryz.prog 137 [.int .i64 0,.string ⟨#[]⟩,.int .i64 0] [(0,1),(1,1),(2,1)]:=⟨by kernel_rfl,by kernel_rfl⟩
instance apb:Sl Tryz.prog 151 1:=⟨by kernel_rfl⟩
instance an3:Fo Tryz.prog 153 0 0:=⟨by kernel_rfl⟩
instance an4:Fo Tryz.prog 153 1 1:=⟨by kernel_rfl⟩
instance an5:Fo Tryz.prog 153 2 2:=⟨by kernel_rfl⟩
instance an6:Fo Tryz.prog 153 3 3:=⟨by kernel_rfl⟩
instance an7:Fo Tryz.prog 153 4 4:=⟨by kernel_rfl⟩
instance apc:Sz Tryz.prog 153 5:=⟨by kernel_rfl⟩
instance apd:Sb Tryz.prog 153 [.bool false,.slice none 0 0,.slice none 0 0,.slice none 0 0,.int .i64 0] [(0,1),(1,1),(2,1),(3,1),(4,1)]:=⟨by kernel_rfl,by kernel_rfl⟩
instance ape:Sl Tryz.prog 157 1:=⟨by kernel_rfl⟩
instance an8:Fo Tryz.prog 159 0 0:=⟨by kernel_rfl⟩
instance an9:Fo Tryz.prog 159 1 2:=⟨by kernel_rfl⟩
instance aoa:Fo Tryz.prog 159 2 3:=⟨by kernel_rfl⟩
instance apf:Sz Tryz.prog 159 4:=⟨by kernel_rfl⟩
instance apg:Sb Tryz.prog 159 [.slice none 0 0,.int .i64 0,.map none,.slice none 0 0] [(0,2),(2,1),(3,1)]:=⟨by kernel_rfl,by kernel_rfl⟩
instance aph:Sz Tryz.prog 203 0:=⟨by kernel_rfl⟩
instance api:Sb Tryz.prog 203 [] []:=⟨by kernel_rfl,by kernel_rfl⟩
instance apj:Ik Tryz.prog 213 .u64:=⟨by kernel_rfl⟩
instance aob:Fo Tryz.prog 225 0 0:=⟨by kernel_rfl⟩
instance aoc:Fo Tryz.prog 225 1 1:=⟨by kernel_rfl⟩
instance apk:Sz Tryz.prog 225 2:=⟨by kernel_rfl⟩
instance apl:Sb Tryz.prog 225 [.slice none 0 0,.slice none 0 0] [(0,1),(1,1)]:=⟨by kernel_rfl,by kernel_rfl⟩

end Go.Proofs.YtdgichenhdikgaaGreatDoor.V
namespace Go.Proofs.YtdgichenhdikgaaGreatDoor.Nm
open List
open Go.Proofs.Tryz
open Go.RowKit V
variable {k:Nat}
def wordsB:List (List UInt8):=[[67,82,69,65,84,69],[84,65,66,76,69],[68,82,79,80],[73,78,83,69,82,84],[73,78,84,79],[86,65,76,85,69,83],[83,69,76,69,67,84],[67,79,85,78,84],[70,82,79,77],[87,72,69,82,69],[79,82,68,69,82],[66,89],[68,69,83,67],[76,73,77,73,84],[85,80,68,65,84,69],[83,69,84],[68,69,76,69,84,69],[66,69,71,73,78],[67,79,77,77,73,84],[82,79,76,76,66,65,67,75],[65,78,68],[79,82],[78,79,84],[73,83],[78,85,76,76],[84,82,85,69],[70,65,76,83,69],[73,78,84],[84,69,88,84],[66,79,79,76]]
def marksB:List (List UInt8):=[[60,61],[62,61],[60,62],[40],[41],[44],[42],[43],[45],[61],[60],[62]]
def uX:List ByteArray:=wordsB.map fun b=>⟨b.toArray⟩
def FH:List ByteArray:=marksB.map fun b=>⟨b.toArray⟩
def wordsC:List Value:=uX.map .string
def marksC:List Value:=FH.map .string
def wD(c:UInt8):Bool:=decide ((97≤c.toNat∧c.toNat≤122)∨(65≤c.toNat∧c.toNat≤90)∨c.toNat=95)
def FI(c:UInt8):Bool:=decide (48≤c.toNat∧c.toNat≤57)
def wW(c:UInt8):Bool:=wD c||FI c
def F8(p:UInt8→Bool)(s:ByteArray):Nat:=(s.data.toList.takeWhile p).length
theorem UI(p:UInt8→Bool):∀(l:List UInt8) (k:Nat),k≤l.length→(∀x∈l.take k,p x=true)→(∀h:k<l.length,p l[k]=false)→(l.takeWhile p).length=k
 | [],k,h,_,_=>by simp at h;subst h;rfl
 | a::r,0,_,_,h=>by
  have:p a=false:=h bf;rw[takeWhile_cons];simp[this]
 | a::r,k+1,h1,h2,h3=>by
  have ha:p a=true:=h2 a bf;rw[takeWhile_cons,if_pos ha,length_cons,UI p r k (by simpa using h1) (fun x hx=>h2 x (by rw[take_succ_cons];exact mem_cons_of_mem _ hx)) (fun h=>by have:=h3 oY;simpa using this)]
theorem Fi{p:UInt8→Bool}{s:ByteArray}(hk:k≤s.size)(h0:∀x∈s.data.toList.take k,p x=true)(h1:k<s.size→p (mj s k)=false):F8 p s=k :=
 UI p _ k (by rw[kM];exact hk) h0 fun h=>by rw[Im h];exact h1 (by rw[kM] at h;exact h)
structure Tk where
 k:Int
 s:ByteArray
 n:Int
def cT(t:Tk):List D:=[ae t.k,bw t.s,ae t.n]
theorem iI(t:Tk):(cT t).length=3:=rfl
def oe(s:ByteArray):Bool:=!decide (s.size=0)&&wD (mj s 0)&&((F8 wW s:Int)==(s.size:Int))
def tT(t:Tk):Int :=
 if t.k=1 then (if (decide (t.n=0)&&oe t.s)=true then 0 else 6)
 else if t.k=2 then (if t.n<0 then 3 else if t.s.size=0 then 0 else 6)
 else if t.k=3 then (if t.n=0 then 0 else 6)
 else if t.k=4 then (if (decide (t.n=0)&&FH.any (ji t.s))=true then 0 else 6)
 else 2
def cY(s:ByteArray):Int:=if s.size>8 then 1 else if (!(oe s)||uX.any (ji s))=true then 6 else 0
theorem Pe(s:ByteArray):tT ⟨1,s,0⟩=if oe s=true then 0 else 6:=by
 unfold tT;rw[if_pos rfl];simp
variable {G:List (Nat×List Value)}
theorem PY(c:UInt8):VP Tryz.prog G 138 [.v (.int .u8 ((c).toNat:Int))] (cj (wD c)):=by
 refine VC.body func138 rfl ntmps138 aR fun X0 w0 aZ=>?_;refine af [0] ?_;refine aD 3 ?_;refine bV 5 (fun Z O=>?_) (fun Z O=>?_)
 ·refine aE 4 ?_;refine bV 9 (fun NQ U=>?_) (fun NQ U=>?_)
  ·exact z53
  refine aE 3 ?_;refine bV 12 (fun I E=>?_) (fun I E=>?_)
  ·exact Wd
  exact z53
 refine aE 7 ?_;refine bV 12 (fun I E=>?_) (fun I E=>?_)
 ·exact Wd
 refine bg [2] ?_;refine eN ?_;refine⟨vb ?_,rfl⟩;rw[Bool.eq_iff_iff];simp[wD];first|done|omega
theorem acM(c:UInt8):VP Tryz.prog G 141 [.v (.int .u8 ((c).toNat:Int))] (cj (FI c)):=by
 refine VC.body func141 rfl ntmps141 aR fun X0 w0 aZ=>?_;refine af [0] ?_;refine aD 3 ?_;refine bV 5 (fun I E=>?_) (fun I E=>?_)
 ·refine bg [2] ?_;refine eN ?_;refine⟨vb ?_,rfl⟩;rw[Bool.eq_iff_iff];simp[FI];first|done|omega
 refine bg [2] ?_;refine eN ?_;refine⟨vb ?_,rfl⟩;rw[Bool.eq_iff_iff];simp[FI];first|done|omega
theorem Q0(c:UInt8):VP Tryz.prog G 140 [.v (.int .u8 ((c).toNat:Int))] (cj (wW c)):=by
 refine VC.body func140 rfl ntmps140 aR fun X0 w0 aZ=>?_;refine af [0] ?_;refine aD 1 ?_;refine dQ call138 (PY c) ?_;refine aE 1 ?_;refine bV 5 (fun I E=>?_) (fun I E=>?_)
 ·refine an 9 [2] ?_;refine aI [] ?_;exact⟨vb (by simp[wW, *]),rfl⟩
 refine aE 1 ?_;refine OD.gM gW rfl rfl rfl call141 (acM c) ⟨ot,trivial⟩ ?_;refine an 9 [2] ?_;refine aI [] ?_;exact⟨vb (by simp[wW, *]),rfl⟩
theorem SQ(s:ByteArray)(g:Nat)(p:UInt8→Bool)(fm:∀args w,(callFunc g args).run Tryz.prog w = .ok (.enter g args) w)(hp:∀c,VP Tryz.prog G g [.v (.int .u8 ((c).toNat:Int))] (cj (p c)))(hs:s.size≤maxLen):VP Tryz.prog G 139 [bw s,.ez (.func g) []] (ae (F8 p s)):=by
 refine VC.body func139 rfl ntmps139 aR fun X0 w0 aZ=>?_;simp only[maxLen] at hs;refine af [0,1] ?_;refine af [0,1,5] ?_;refine eA [0,1] (fun aU _ (k:Nat) aH=>(k≤s.size)∧(∀x∈s.data.toList.take k,p x=true)∧aH=(⟨20,(5,ae (k:Nat))::aU,[]⟩:St)) (fun (k:Nat)=>s.size-k) 0 ⟨(Nat.zero_le _),bf,rfl⟩ ?_;rintro k _ ⟨hk,h0,rfl⟩;refine aD 5 ?_;refine bV 10 (fun I E=>?_) (fun I E=>?_)
 ·have O:k<s.size:=(by omega)
  have xU:s[k]?=some (mj s k):=Ku O;refine aE 3 ?_;refine OD.still gW rfl (Ij rfl ot ot runUnderlying9 rfl (by first|assumption|rfl)) ?_;refine OD.kv (f:=g) (args:=[_]) (all:=[_]) gW rfl rfl ot fm (hp (mj s k)) rfl ⟨ot,trivial⟩ (eO _) ?_;rintro _ S2 ⟨rfl,rfl⟩;refine an 20 [0,1,5,16] ?_;refine au ?_ ?_<;>intro aM bD
  ·refine cm [0,1,5] ?_;refine⟨(k+1),_,cD,aK,w4,(yN (by rw[kM];exact O) h0 (by rw[Im];assumption)),rfl⟩
  refine af [4] ?_;refine aI [] ?_;refine⟨vi ?_,rfl⟩;first|(rw[Fi hk h0 (fun h=>by omega)];done)|(rw[Fi hk h0 (fun h=>by assumption)];done)
 refine bg [0,1,5,16] ?_;refine fM ?_;refine af [4] ?_;refine eN ?_;refine⟨vi ?_,rfl⟩;first|(rw[Fi hk h0 (fun h=>by omega)];done)|(rw[Fi hk h0 (fun h=>by assumption)];done)
theorem acN(E:List ByteArray)(s:ByteArray)(hlen:E.length≤maxLen):VP Tryz.prog G 142 [av 1 cS E,bw s] (ae (dU (ji s) E)):=by
 refine VC.body func142 rfl ntmps142 aR fun X0 w0 aZ=>?_;simp only[maxLen] at hlen;refine af [0,1] ?_;refine af [0,1,7,8] ?_;refine eA [0,1,7] (fun aU _ (k:Nat) aH=>(k≤E.length)∧(∀x∈E.take k,ji s x=false)∧aH=(⟨19,(8,ae (k:Nat))::aU,[]⟩:St)) (fun (k:Nat)=>E.length-k) 0 ⟨(Nat.zero_le _),bf,rfl⟩ ?_;rintro k _ ⟨hk,h0,rfl⟩;refine af [0,1,7,8,9] ?_;refine au ?_ ?_<;>intro aM bD
 ·have aa:k<E.length:=(by omega)
  refine af [0,1,5,7,8] ?_;refine af [0,1,5,7,8,16] ?_;refine au ?_ ?_<;>intro aY cy
  ·refine af [4] ?_;refine aI [] ?_;refine⟨vi ?_,rfl⟩;first|(rw[uL w4 h0 aY];done)|(rw[we w4 h0];done)
  refine cm [0,1,7,8] ?_;refine⟨(k+1),_,cD,aK,w4,(yN w4 h0 aY),rfl⟩
 refine af [4] ?_;refine aI [] ?_;refine⟨vi ?_,rfl⟩;first|(rw[uL w4 h0 aY];done)|(rw[we w4 h0];done)
theorem O6(E:List ByteArray)(s:ByteArray)(hlen:E.length≤maxLen):VP Tryz.prog G 109 [av 1 cS E,bw s] (cj (E.any (ji s))):=by
 refine VC.body func109 rfl ntmps109 aR fun X0 w0 aZ=>?_;refine af [0,1] ?_;refine cJ [4] (acN E s hlen) ?_;refine aI [] ?_;exact⟨vb Q9,rfl⟩
theorem pB(hm:(3,marksC)∈G)(t:Tk)(hs:t.s.size≤maxLen):VP Tryz.prog G 108 [.agg (cT t)] (ae (tT t)):=by
 refine VC.body func108 rfl ntmps108 aR fun X0 w0 aZ=>?_;unfold cT;refine bY ?_;refine OD.box (ds:=[_,_,_]) ap rfl rfl ot rfl rfl (fun b1=>?_);refine an 53 [1] ?_;refine af [1,3] ?_;refine af [1,3,8] ?_;refine af [1,3,8,9] ?_;refine au ?_ ?_<;>intro aM bD
 ·refine fR 21 (aq _) ?_ (fun _ h=>h);refine az 0 rfl bp ?_;refine az 1 rfl bp ?_;refine dD.split (t:=12) lk (fun U=>?_) (fun U=>?_)
  ·have E:=U;(try simp only[V.nv,ne_eq] at E)
   refine az 2 rfl (dr 1) ?_;refine az 3 rfl (dK 0) ?_;refine az 4 rfl mT ?_;refine az 5 rfl xA ?_;refine az 6 rfl bp ?_;refine dD.split (t:=17) lk (fun xz=>?_) (fun xz=>?_)
   ·have wV:=xz;(try simp only[V.nv,ne_eq] at wV)
    refine az 7 rfl (dr 1) ?_;refine az 8 rfl (dK 0) ?_;refine az 9 rfl (Ij (c:=mj t.s 0) rfl ot bI runUnderlying9 rfl (Ku (afX tY))) ?_;refine dD.later rfl ?_;refine AD.one (i:=10) aA ?_;refine bj.gM rfl gW rfl rfl rfl call138 (PY _) ⟨ot,trivial⟩ ?_;refine cA 11 rfl xA ?_;refine cA 12 rfl bp ?_;refine AD.split (t:=23) lk (fun Z=>?_) (fun Z=>?_)
    ·have I:=Z;(try simp only[V.nv,ne_eq] at I)
     refine cA 13 rfl (dr 1) ?_;refine cA 16 rfl (dr 1) ?_;refine AD.two (i:=14) (j:=17) aA ?_ ?_
     ·refine at_ rfl (dK 0) ?_;refine AD.two (i:=15) (j:=17) aA ?_ ?_
      ·refine bj.gM rfl gW rfl rfl rfl call139 (SQ t.s 140 wW call140 Q0 hs) ⟨ot,tv,trivial⟩ ?_;refine AD.one (i:=17) aA ?_;refine at_ rfl (dK 0) ?_;refine cA 18 rfl (Es rfl rfl ot runUnderlying9) ?_;refine cA 19 rfl mT ?_;refine cA 20 rfl xA ?_;exact LA
      refine at_ rfl (dK 0) ?_;refine cA 18 rfl (Es rfl rfl ot runUnderlying9) ?_;exact z145
     refine at_ rfl (dK 0) ?_;refine cA 18 rfl (Es rfl rfl ot runUnderlying9) ?_;refine AD.one (i:=14) aA ?_;refine at_ rfl (dK 0) ?_;exact z145
    have I:=Z;(try simp only[V.nv,ne_eq] at I)
    exact Xc
   have wV:=xz;(try simp only[V.nv,ne_eq] at wV)
   exact V6
  have E:=U;(try simp only[V.nv,ne_eq] at E)
  refine mv 2 rfl ?_;refine mv 3 rfl ?_;refine mv 4 rfl ?_;refine az 5 rfl vj ?_;refine az 6 rfl bp ?_;exact V6
 refine af [1,3,8,32] ?_;refine au ?_ ?_<;>intro aY cy
 ·refine af [1,36] ?_;refine au ?_ ?_<;>intro bZ cN
  ·refine af [2] ?_;refine aI [] ?_;exact M8
  refine cm [3] ?_;exact z131
 refine af [1,3,8,40] ?_;refine au ?_ ?_<;>intro cX en
 ·exact z131
 refine af [1,3,42] ?_;refine au ?_ ?_<;>intro er fq
 ·refine fR 7 (aq _) ?_ (fun _ h=>h);refine az 0 rfl bp ?_;refine az 1 rfl bp ?_;refine dD.split (t:=45) lk (fun LN=>?_) (fun LN=>?_)
  ·have O:=LN;(try simp only[V.nv,ne_eq] at O)
   refine az 2 rfl (ey (l:=0) (h:=0) rfl wq trivial trivial (by first|exact Tc (ls:=FH) (g:=cS) hm rfl rfl runUnderlying211 sizeOf9 rfl w7 w7)) ?_;refine az 3 rfl (dr 1) ?_;refine az 4 rfl (dK 0) ?_;refine dD.later rfl ?_;refine AD.one (i:=5) aA ?_;refine bj.gM rfl gW rfl rfl rfl call109 (O6 FH t.s w7) ⟨ot,ot,trivial⟩ ?_;refine cA 6 rfl xA ?_;exact LA
  have O:=LN;(try simp only[V.nv,ne_eq] at O)
  refine mv 2 rfl ?_;refine mv 3 rfl ?_;refine mv 4 rfl ?_;refine dD.later rfl ?_;refine AD.one (i:=5) aA ?_;refine bj.skip rfl (mD rfl rfl rfl lk jr) rfl ?_;refine cA 6 rfl vj ?_;refine eH ?_;refine bg [3] ?_;refine af [52] ?_;refine eI ?_;exact M7
 refine af [2] ?_;refine aI [] ?_;refine⟨vi ?_,rfl⟩;try simp only[uP] at *
 simp only[tT,oe];try simp_all
 try omega
theorem tK(hm:(3,marksC)∈G)(hw:(1,wordsC)∈G)(s:ByteArray)(hs:s.size≤maxLen):VP Tryz.prog G 64 [bw s] (ae (cY s)):=by
 refine VC.body func64 rfl ntmps64 aR fun X0 w0 aZ=>?_;refine af [0] ?_;refine af [0,5] ?_;refine au ?_ ?_<;>intro aM bD
 ·exact Nf
 refine aD 2 ?_;refine dQ call108 (pB hm ⟨1,s,0⟩ hs) ?_;refine aE 2 ?_;refine bV 10 (fun I E=>?_) (fun I E=>?_)
 ·refine an 15 [14] ?_;refine eI ?_;exact Nf
 refine OD.still gW rfl (ey (l:=0) (h:=0) rfl wq trivial trivial (by first|exact Tc (ls:=uX) (g:=cS) hw rfl rfl runUnderlying180 sizeOf9 rfl w7 w7)) ?_;refine aE 1 ?_;refine OD.gM gW rfl rfl rfl call109 (O6 uX s w7) ⟨ot,ot,trivial⟩ ?_;refine an 15 [14] ?_;refine au ?_ ?_<;>intro aY cy
 ·exact Nf
 refine af [2] ?_;refine aI [] ?_;refine⟨vi ?_,rfl⟩;try simp only[Pe] at *
 simp only[cY];first|(rw[if_pos w4];done)|(rw[if_neg w4];cases h1:oe s<;>cases h2:uX.any (ji s)<;>simp_all)
def wb(c:UInt8):UInt8:=UInt8.ofNat (97+c.toNat % 26)
theorem aga(c:UInt8):(wb c).toNat=97+c.toNat % 26:=by
 have:c.toNat % 26<26:=Nat.mod_lt _ w7;unfold wb;rw[UInt8.toNat_ofNat'];exact Nat.mod_eq_of_lt w4
theorem aey(c:UInt8):IntKind.u8.wrap (97+(c.toNat:Int).tmod 26)=((wb c).toNat:Int):=by
 rw[aga];have h1:(c.toNat:Int).tmod 26=((c.toNat % 26:Nat):Int):=rfl;have:c.toNat % 26<26:=Nat.mod_lt _ w7;rw[h1];have e:(97+((c.toNat % 26:Nat):Int))=((97+c.toNat % 26:Nat):Int):=(by omega)
 rw[e];show((97+c.toNat % 26:Nat):Int) % 256=_;omega
def zi(s:ByteArray):List UInt8:=if s.size=0 then [120] else (s.data.toList.take 6).map wb
def sj(s:ByteArray):ByteArray:=⟨(zi s).toArray⟩
theorem Jb{s:ByteArray}(h:k<s.size):(s.data.toList.take k).map wb++[wb (mj s k)]=(s.data.toList.take (k+1)).map wb:=by
 have h':k<s.data.toList.length:=(by rw[kM];exact h)
 rw[take_succ_eq_append_getElem h',map_append,Im h'];rfl
theorem QX{s:ByteArray}(hk:k≤s.size)(h:k=s.size∨6≤k)(h6:k≤6):(s.data.toList.take k)=s.data.toList.take 6:=by
 rcases h with h|h
 ·rw[take_of_length_le (by rw[kM];omega),take_of_length_le (by rw[kM];omega)]
 rw[show k=6 by omega]
theorem aa4:(Tryz.prog.info? 5).map (fun i=>(i.zero,i.size,i.bytes))=some (some (.int .u8 0),1,1):=by kernel_rfl
theorem qs(s:ByteArray)(hs:s.size≤maxLen):VP Tryz.prog G 17 [bw s] (bw (sj s)):=by
 refine VC.body func17 rfl ntmps17 aR fun X0 w0 aZ=>?_;simp only[maxLen] at hs;refine af [0] ?_;refine bY ?_;refine bg [0,3] ?_;refine af [0,3,4] ?_;refine CD.block ?_;refine mV (fun (E:Nat×Option Addr×Nat×List ah) aH=>match E with|(k,O,U,Sb)=>(k≤s.size)∧(k≤6)∧(bn 5 1 (((s.data.toList.take k).map wb).flatMap cB) ((s.data.toList.take k).map wb).length O U Sb)∧aH=(⟨28,[(0,bw s),(3,aN O ((s.data.toList.take k).map wb).length U),(4,ae (k:Nat))],(Sb)⟩:St)) (fun (E:Nat×Option Addr×Nat×List ah)=>match E with|(k,O,U,Sb)=>s.size-k) (0,none,0,[]) ⟨(Nat.zero_le _),(Nat.zero_le _),(bn.cast iv j6),rfl⟩ (aK (h:=by repeat (first|exact trivial|refine⟨(by (repeat (first|exact fD|(apply fV;focus (first|rfl|(simp;done)|(congr 2;omega)|(apply eK;exact Jb Z)|(apply eK;simp;done)))|(apply fH;focus rfl)));done),?_⟩))) ?_;rintro⟨k,O,U,Sb⟩ _ ⟨hk,h6,ph,rfl⟩;refine aD 5 ?_;refine bV 9 (fun NQ ai5=>?_) (fun NQ ai5=>?_)
 ·refine bg [0,3,4,12] ?_;refine au ?_ ?_<;>intro aM bD
  ·refine dM 2 ?_;have Z:k<s.size:=(by omega)
   have xU:s[k]?=some (mj s k):=Ku Z;refine aE 1 ?_;refine bN (Ij rfl ot ot runUnderlying9 rfl (by first|assumption|rfl)) ?_;refine bN (dj rfl ot bI (JL w4)) ?_;refine bN (dj (r:=.int .u8 ((wb (mj s k)).toNat:Int)) rfl bI ot (kr (aey _))) ?_;refine ei (bW 0 [_]) [.int .u8 0] [_] zeroValue5 runUnderlying88 sizeOf5 (fun Dr=>?_);refine fw 0 21 1 1 ?_;refine OD.ek (ls:=((s.data.toList.take k).map wb)) (new:=[wb (mj s k)]) (Sq:=Sb) pG wM ap rfl rfl underlying88 aa4 rfl w7 ot ph (de (A:=[])) ot bf vG iq (fun NR I ai6 ai7=>?_);refine OD.perm (dZ (S1:=[⟨NR,5,I*1,flatMap cB (((s.data.toList.take k).map wb)++[wb (mj s k)])⟩]) (A:=[])) ?_;refine an 28 [0,3,4] ?_;refine cm [0,3,4] ?_;refine⟨((k+1),(some ⟨NR,0,none⟩),I,[⟨NR,5,I*1,flatMap cB (((s.data.toList.take k).map wb)++[wb (mj s k)])⟩]),_,cD,(aK (h:=by repeat (first|exact trivial|refine⟨(by (repeat (first|exact fD|(apply fV;focus (first|rfl|(simp;done)|(congr 2;omega)|(apply eK;exact Jb Z)|(apply eK;simp;done)))|(apply fH;focus rfl)));done),?_⟩))),w4,w4,(bn.cast (bE ai6 ai7) (by exact Jb Z)),rfl⟩
  refine af [3,25] ?_;refine au ?_ ?_<;>intro aY cy
  ·refine af [2] ?_;refine eN ?_;exact Nd
  refine aD 1 ?_;refine OD.gN (t:=26) (Sq:=Sb) lk ph (cr pG _) (de (A:=[])) ?_;refine bN Dh ?_;refine an 28 [2] ?_;refine aI [] ?_;exact Nd
 refine bg [0,3,4,12] ?_;refine fM ?_;refine af [3,25] ?_;refine au ?_ ?_<;>intro aY cy
 ·refine af [2] ?_;refine eN ?_;exact Nd
 refine aD 1 ?_;refine OD.gN (t:=26) (Sq:=Sb) lk ph (cr pG _) (de (A:=[])) ?_;refine bN Dh ?_;refine an 28 [2] ?_;refine aI [] ?_;refine⟨vs ?_,rfl⟩;have Aw:k=s.size∨6≤k:=(by omega)
 have Lu:min k s.size=k:=Nat.min_eq_left hk;simp only[length_map,length_take,kM,Lu] at *;unfold sj zi;first|(rw[if_pos w4];done)|(rw[if_neg w4,QX hk Aw h6])
abbrev MarksTab(w:World):Prop:=Tab.mI w 3 marksC

end Go.Proofs.YtdgichenhdikgaaGreatDoor.Nm
namespace Go.Proofs.YtdgichenhdikgaaGreatDoor.Pk
open List
open Go.Proofs.Tryz
open Go.RowKit V
def dS(n m:Int):Int:=if n<0 then (-(n+1)).tmod m else n.tmod m
theorem iW(n:Int){m:Int}(h:1≤m):0≤dS n m∧dS n m<m:=by
 have key:∀k:Int,0≤k→0≤k.tmod m∧k.tmod m<m:=fun k hk=>⟨Int.tmod_nonneg _ hk,Int.tmod_lt_of_pos _ w4⟩
 unfold dS;split
 ·exact key _ w4
 exact key _ w4
variable (G:List (Nat×List Value))
theorem jP(n m:Int)(hn:-9223372036854775808≤n)(iU:n≤9223372036854775807)(hm:1≤m):VP Tryz.prog G 21 [ae n,ae m] (ae (dS n m)):=by
 refine VC.body func21 rfl ntmps21 aR fun X0 w0 aZ=>?_;refine af [0,1] ?_;refine af [0,1,6] ?_;refine au ?_ ?_<;>intro aM bD
 ·refine ie [0,1] ?_;refine aS 2 ?_ (h:=by exact(EV rfl ot (Ks (r:=-(n+1)) (by rw[wrap_i64]<;>omega))));refine bG ?_;refine cZ [4] ?_;refine aS 2 ?_ (h:=by exact(dj rfl ot ot (JL w4)));refine bG ?_;refine aI [] ?_;exact⟨by unfold dS;split<;>first|rfl|omega,rfl⟩
 refine cZ [4] ?_;refine aS 2 ?_ (h:=by exact(dj rfl ot ot (JL w4)));refine bG ?_;refine aI [] ?_;exact⟨by unfold dS;split<;>first|rfl|omega,rfl⟩

end Go.Proofs.YtdgichenhdikgaaGreatDoor.Pk
namespace Go.Proofs.YtdgichenhdikgaaGreatDoor.Nm
open List
open Go.Proofs.Tryz
open Go.RowKit V Pk
variable {l:List UInt8}
theorem mk_data(l:List UInt8):(⟨l.toArray⟩:ByteArray).data.toList=l:=rfl
theorem JP(l:List UInt8):(⟨l.toArray⟩:ByteArray).size=l.length:=by rw[←kM]
theorem aa5(s:ByteArray):1≤(zi s).length∧(zi s).length≤6:=by
 unfold zi;split
 ·exact⟨by decide,by decide⟩
 rw[length_map,length_take,kM];omega
theorem OX{p:UInt8→Bool}:∀{l:List UInt8},(∀c∈l,p c=true)→l.takeWhile p=l
 | [],_=>rfl
 | a::l,h=>by rw[takeWhile_cons,if_pos (h a mem_cons_self),OX fun c hc=>h c (mem_cons_of_mem _ hc)]
theorem O1{c:UInt8}(h:97≤c.toNat∧c.toNat≤122):wD c=true:=by unfold wD;exact decide_eq_true (.inl h)
theorem acO(h1:1≤l.length)(h:∀c∈l,97≤c.toNat∧c.toNat≤122):oe ⟨l.toArray⟩=true:=by
 unfold oe F8;rw[JP,mk_data,OX fun c hc=>by unfold wW;rw[O1 (h c hc)];rfl];have h0:mj ⟨l.toArray⟩ 0∈l:=by
  exact VV
 rw[O1 (h _ h0)];have:l.length≠0:=(by omega)
 simp[this]
theorem ZQ:∀x∈uX,(mj x 0).toNat≤90:=by decide
theorem aae(h1:1≤l.length)(h:∀c∈l,97≤c.toNat∧c.toNat≤122):uX.any (ji ⟨l.toArray⟩)=false:=by
 rw[any_eq_false];intro x hx he;have he:=wE.1 he;have h0:mj ⟨l.toArray⟩ 0∈l:=by
  exact VV
 have:=h _ h0;have h2:=ZQ x hx;rw[←he] at h2;omega
theorem tr(h1:1≤l.length)(E:l.length≤8)(h:∀c∈l,97≤c.toNat∧c.toNat≤122):cY ⟨l.toArray⟩=0:=by
 unfold cY;rw[JP,if_neg w4,acO h1 h,aae h1 h];rfl
theorem Io(s:ByteArray):1≤(sj s).size∧(sj s).size≤6:=by unfold sj;rw[JP];exact aa5 s
variable {G:List (Nat×List Value)}
abbrev WordsTab(w:World):Prop:=Tab.mI w 1 wordsC

end Go.Proofs.YtdgichenhdikgaaGreatDoor.Nm
namespace Go.Proofs.YtdgichenhdikgaaGreatDoor.Vl
open List
open Go.Proofs.Tryz
open Go.RowKit V Pk
structure Vl where
 k:Int
 n:Int
 s:ByteArray
def cV(v:Vl):List D:=[ae v.k,ae v.n,bw v.s]
theorem fi(v:Vl):(cV v).length=3:=rfl
theorem FD(v:Vl):(cV v).all V.one=true:=rfl
structure Vl.Ok (v:Vl):Prop where
 k1:-9223372036854775808≤v.k
 k2:v.k≤9223372036854775807
 n1:-9223372036854775808≤v.n
 n2:v.n≤9223372036854775807
 s:v.s.size≤maxLen
def bJ:Vl:=⟨0,0,⟨#[]⟩⟩
def cn(v:Vl):Int :=
 if v.k=0 then (if v.n≠0∨v.s.size≠0 then 6 else 0)
 else if v.k=1 then (if v.n<0∨v.n>1∨v.s.size≠0 then 6 else 0)
 else if v.k=2 then (if v.s.size≠0 then 6 else 0)
 else if v.k=3 then (if v.n≠0 then 6 else if v.s.size>20 then 1 else 0)
 else 2
theorem F9(x y:Vl):∀w,(Op.equalIn 10000 41 (.agg [.int .i64 x.k,.int .i64 x.n,.string x.s].toArray) (.agg [.int .i64 y.k,.int .i64 y.n,.string y.s].toArray)).run Tryz.prog w = .ok (x.k==y.k&&(x.n==y.n&&x.s.toList==y.s.toList)) w:=fun w=>by
 have hS:Tryz.prog.underlying 41=some (.struct (Tryz.prog.fieldsOf 41)):=(by kernel_rfl)
 have hp:Tryz.prog.stoodInHeld 41=false:=(by kernel_rfl)
 rw[show(10000:Nat)=9999+1 from rfl,run_equalIn_agg w 9999 41 _ _ hS hp];have u:=underlying41;have E:=underlying3;have I:=underlying9;have a3:=isAgg3;have O:=isAgg9;have U:=sizeOf3;have Z:=sizeOf9;simp only[Program.fieldsOf,u];go_simp
 by_cases h1:x.k=y.k<;>by_cases h2:x.n=y.n<;>by_cases h3:x.s.toList=y.s.toList<;>simp[h1,h2,h3]
theorem Vl.ext'{x y:Vl}(h1:x.k=y.k)(h2:x.n=y.n)(h3:x.s=y.s):x=y:=by cases x;cases y;simp only at h1 h2 h3;subst h1 h2 h3;rfl
def tg(x y:Vl):Bool:=x.k==y.k&&(x.n==y.n&&x.s.toList==y.s.toList)
theorem JQ{x y:Vl}:tg x y=true↔x=y:=by
 unfold tg;rw[Bool.and_eq_true,Bool.and_eq_true,beq_iff_eq,beq_iff_eq];constructor
 ·rintro⟨h1,h2,h3⟩;exact Vl.ext' h1 h2 (wE.1 h3)
 rintro rfl;exact⟨rfl,rfl,wE.2 rfl⟩
def lT(s:ByteArray)(m:Nat):ByteArray:=s.extract 0 (min s.size m)
def pF(r:Vl):Vl :=
 if dS r.k 4=1 then ⟨1,dS r.n 2,⟨#[]⟩⟩
 else if dS r.k 4=2 then ⟨2,r.n,⟨#[]⟩⟩
 else if dS r.k 4=3 then ⟨3,0,lT r.s 10⟩
 else bJ
theorem PZ(s:ByteArray)(m:Nat):(lT s m).data.toList=s.data.toList.take m:=by
 unfold lT;rw[ByteArray.data_extract,Array.toList_extract];simp only[extract_eq_take_drop,drop_zero,Nat.sub_zero];rw[←kM];rcases Nat.le_total s.data.toList.length m with h|h
 ·rw[Nat.min_eq_left h,take_length,take_of_length_le h]
 rw[Nat.min_eq_right h]
theorem EF(s:ByteArray)(m:Nat):(lT s m).size=min s.size m:=by
 rw[←kM,PZ,length_take,kM,Nat.min_comm]
variable {G:List (Nat×List Value)}
theorem pB(v:Vl):VP Tryz.prog G 55 [.agg (cV v)] (ae (cn v)):=by
 refine VC.body func55 rfl ntmps55 aR fun X0 w0 aZ=>?_;unfold cV;refine bY ?_;refine OD.box (ds:=[_,_,_]) ap rfl rfl ot rfl rfl (fun b1=>?_);refine an 44 [1] ?_;refine af [1,4] ?_;refine af [1,4,5] ?_;refine au ?_ ?_<;>intro aM bD
 ·refine aD 4 ?_;refine bV 10 (fun U E=>?_) (fun U E=>?_)
  ·refine bg [14] ?_;refine eI ?_;exact xy
  refine bg [14] ?_;refine au ?_ ?_<;>intro aY cy
  ·exact xy
  exact xy
 refine af [1,4,15] ?_;refine au ?_ ?_<;>intro bZ cN
 ·refine aD 4 ?_;refine bV 20 (fun Z I=>?_) (fun Z I=>?_)
  ·refine bg [29] ?_;refine eI ?_;exact xy
  refine aE 5 ?_;refine bV 25 (fun ai8 O=>?_) (fun ai8 O=>?_)
  ·refine bg [29] ?_;refine eI ?_;exact xy
  refine bg [29] ?_;refine au ?_ ?_<;>intro cX en
  ·exact xy
  exact xy
 refine af [1,4,30] ?_;refine au ?_ ?_<;>intro er fq
 ·refine af [34] ?_;refine au ?_ ?_<;>intro fx gG
  ·exact Cn
  exact Cn
 refine af [1,35] ?_;refine au ?_ ?_<;>intro gU kU
 ·refine af [1,39] ?_;refine au ?_ ?_<;>intro gq lA
  ·exact Cn
  refine af [43] ?_;refine au ?_ ?_<;>intro pZ GF
  ·exact Cn
  exact Cn
 refine af [2] ?_;refine aI [] ?_;refine⟨vi ?_,rfl⟩;try simp only[uP] at *
 unfold cn;simp_all;try omega
theorem BK(s:ByteArray)(m:Nat)(hs:s.size≤maxLen):VP Tryz.prog G 16 [bw s,ae (m:Int)] (bw (lT s m)):=by
 refine VC.body func16 rfl ntmps16 aR fun X0 w0 aZ=>?_;simp only[maxLen] at hs;refine af [0,1] ?_;refine cZ [4] ?_;refine aS 4 ?_ (h:=by exact(Zv (r:=.int .i64 ((min s.size m:Nat):Int)) rfl ot ot (fun cs w=>(afT cs w).trans (by split<;>(congr 3;omega)))));refine aS 0 ?_ (h:=by exact(ey (l:=0) rfl ot trivial ⟨_,ot⟩ (by first|exact afV (fun _=>rfl) (fun h=>by cases h) runUnderlying9 w4 w4)));refine bG ?_;refine aI [] ?_;exact⟨by first|rfl|(simp[*];done),rfl⟩
theorem QZ(r:Vl)(h:r.Ok):VP Tryz.prog G 53 [.agg (cV r)] (.agg (cV (pF r))):=by
 refine VC.body func53 rfl ntmps53 aR fun X0 w0 aZ=>?_;unfold cV;refine bY ?_;refine OD.box (ds:=[_,_,_]) ap rfl rfl ot rfl rfl (fun b1=>?_);refine OD.alloc (ds:=[_,_,_]) ap rfl rfl zeroValue41 rfl (fun b2=>?_);refine an 29 [1,2] ?_;refine cJ [1,2,3] (jP G r.k 4 h.k1 h.k2 w7) ?_;refine af [1,2,3,7] ?_;refine af [1,2,3,7,8] ?_;refine au ?_ ?_<;>intro aM bD
 ·refine aD 3 ?_;refine dQ call21 (jP G r.n 2 h.n1 h.n2 w7) ?_;refine aE 1 ?_;exact Ng
 refine af [1,2,3,7,15] ?_;refine au ?_ ?_<;>intro aY cy
 ·refine aD 4 ?_;exact Ng
 refine af [1,2,3,21] ?_;refine au ?_ ?_<;>intro bZ cN
 ·refine aD 3 ?_;refine dQ call16 (BK r.s 10 h.s) ?_;refine aE 1 ?_;exact Ng
 refine aD 1 ?_;refine aP 0 [_,_,_] sizeOf41 ?_;refine an 29 [2] ?_;refine aI [] ?_;refine⟨?_,rfl⟩;unfold pF bJ;simp_all

end Go.Proofs.YtdgichenhdikgaaGreatDoor.Vl
namespace Go.Proofs.YtdgichenhdikgaaGreatDoor.Nm
open List
open Go.Proofs.Tryz
open Go.RowKit V Pk Vl
variable {i:Nat} {h:Int}
theorem F9(x y:Vl):∀w,(Op.equalIn 10000 41 (.agg [.int .i64 x.k,.int .i64 x.n,.string x.s].toArray) (.agg [.int .i64 y.k,.int .i64 y.n,.string y.s].toArray)).run Tryz.prog w = .ok (x.k==y.k&&(x.n==y.n&&x.s.toList==y.s.toList)) w:=fun w=>by
 have hS:Tryz.prog.underlying 41=some (.struct (Tryz.prog.fieldsOf 41)):=(by kernel_rfl)
 have hp:Tryz.prog.stoodInHeld 41=false:=(by kernel_rfl)
 rw[show(10000:Nat)=9999+1 from rfl,run_equalIn_agg w 9999 41 _ _ hS hp];have u:=underlying41;have E:=underlying3;have I:=underlying9;have a3:=isAgg3;have O:=isAgg9;have U:=sizeOf3;have Z:=sizeOf9;simp only[Program.fieldsOf,u];go_simp
 by_cases h1:x.k=y.k<;>by_cases h2:x.n=y.n<;>by_cases h3:x.s.toList=y.s.toList<;>simp[h1,h2,h3]
def iS(v:Vl):Int:=if v.k=2∧v.n = -9223372036854775808 then 3 else cn v
structure aX where
 k:Int
 v:Vl
 nm:ByteArray
variable {l:List aX}
def cO(o:aX):List D:=[ae o.k,ae o.v.k,ae o.v.n,bw o.v.s,bw o.nm]
theorem nf(o:aX):(cO o).length=5:=rfl
theorem Kr(o:aX):(cO o).all V.one=true:=rfl
def bP(k:Int):Int:=if k=1∨k=2 then 0 else if k=5∨k=11 then 1 else 2
theorem tI(k:Int):0≤bP k∧bP k≤2:=by unfold bP;split<;>(try split)<;>omega
def zeroV(v:Vl):Bool:=v.k==0&&(v.n==0&&v.s.toList==(⟨#[]⟩:ByteArray).toList)
def fg(h:Int)(o:aX):Int :=
 if o.k<1∨o.k>11 then 2
 else if iS o.v≠0 then iS o.v
 else if ((o.k != 1 && !(zeroV o.v))||(o.k != 2 && !(o.nm.toList==(⟨#[]⟩:ByteArray).toList)))=true then 6
 else if o.k=2∧cY o.nm≠0 then cY o.nm
 else if h<bP o.k then 7 else 0
def fJ:Int→List aX→Int
 | h,[]=>if h=1 then 0 else 7
 | h,o::r=>if fg h o=0 then fJ (h+(1-bP o.k)) r else fg h o
def iR(l:List aX):Int:=if l.length>40 then 10 else fJ 0 l
theorem QU(hi:i<l.length)(he:fg h l[i]=0):fJ h (l.drop i)=fJ (h+(1-bP l[i].k)) (l.drop (i+1)):=by
 rw[drop_eq_getElem_cons hi,fJ,if_pos he]
theorem QT{e:Int}(hi:i<l.length)(he:fg h l[i]=e)(h0:e≠0):fJ h (l.drop i)=e:=by
 rw[drop_eq_getElem_cons hi,fJ,if_neg (by rw[he];exact h0),he]
theorem P0(hi:l.length≤i):fJ h (l.drop i)=if h=1 then 0 else 7:=by
 rw[drop_of_length_le hi,fJ]
variable {G:List (Nat×List Value)}
theorem Pn(v:Vl):VP Tryz.prog G 114 [.agg (cV v)] (ae (iS v)):=by
 refine VC.body func114 rfl ntmps114 aR fun X0 w0 aZ=>?_;unfold cV;refine bY ?_;refine OD.box (ds:=[_,_,_]) ap rfl rfl ot rfl rfl (fun b1=>?_);refine an 13 [1] ?_;refine aD 4 ?_;refine bV 6 (fun I E=>?_) (fun I E=>?_)
 ·refine bg [1,10] ?_;refine au ?_ ?_<;>intro aM bD
  ·refine af [2] ?_;refine eN ?_;refine⟨vi ?_,rfl⟩;unfold iS;simp_all
  refine cJ [2] (Vl.pB v) ?_;refine eN ?_;refine⟨vi ?_,rfl⟩;unfold iS;simp_all
 refine bg [1,10] ?_;refine fM ?_;refine cJ [2] (Vl.pB v) ?_;refine eN ?_;refine⟨vi ?_,rfl⟩;unfold iS;simp_all
theorem yU(k:Int):VP Tryz.prog G 116 [ae k] (ae (bP k)):=by
 refine VC.body func116 rfl ntmps116 aR fun X0 w0 aZ=>?_;exact Xp
theorem JR(hm:(3,marksC)∈G)(hw:(1,wordsC)∈G)(l:List aX)(hs:∀o∈l,o.nm.size≤maxLen):VP Tryz.prog G 70 [av 5 cO l] (ae (iR l)):=by
 refine VC.body func70 rfl ntmps70 aR fun X0 w0 aZ=>?_;have hlx:l.length≤40∨40<l.length:=(by omega)
 refine af [0] ?_;refine af [0,10] ?_;refine au ?_ ?_<;>intro aM bD
 ·have hf:iR l=10:=if_pos w4;exact z124
 have hf:iR l=fJ 0 l:=if_neg w4;have qe:l.length≤40:=(by omega)
 refine af [0,3] ?_;refine af [3,11,12,13] ?_;refine eA [11,12] (fun aU _ (I:Nat×Int) aH=>match I with|(i,h)=>(i≤l.length)∧(fJ 0 l=fJ h (l.drop i))∧(0≤h)∧(h≤i)∧aH=(⟨73,(3,ae h)::(13,ae (i:Nat))::aU,[]⟩:St)) (fun (I:Nat×Int)=>match I with|(i,h)=>l.length-i) (0,0) ⟨(Nat.zero_le _),rfl,(Int.le_refl _),(Int.le_refl _),rfl⟩ ?_;rintro⟨i,h⟩ _ ⟨hi,hx,h0,hh,rfl⟩;refine af [3,11,12,13,14] ?_;refine au ?_ ?_<;>intro aY cy
 ·have aa:i<l.length:=(by omega)
  have Ds:=tI l[i].k;refine aD 2 ?_;refine OD.alloc (ds:=[_,_,_,_,_]) ap rfl rfl zeroValue43 rfl (fun b5=>?_);refine aP 0 [_,_,_,_,_] sizeOf43 ?_;refine an 73 [3,5,11,12,13] ?_;refine aD 4 ?_;refine bV 20 (fun ai9 U=>?_) (fun ai9 U=>?_)
  ·refine bg [3,5,11,12,13,24] ?_;refine eI ?_;have qC:fg h l[i]=2:=(by unfold fg;rw[if_pos w4])
   exact Gy
  refine bg [3,5,11,12,13,24] ?_;refine au ?_ ?_<;>intro bZ cN
  ·have qC:fg h l[i]=2:=(by unfold fg;rw[if_pos w4])
   exact Gy
  have dP:¬(l[i].k<1∨l[i].k>11):=(by omega)
  refine cJ [3,5,6,11,12,13] (Pn l[i].v) ?_;refine af [3,5,6,11,12,13,29] ?_;refine au ?_ ?_<;>intro cX en
  ·have vg:iS l[i].v≠0:=(by simpa using cX)
   have qC:fg h l[i]=iS l[i].v:=(by unfold fg;rw[if_neg dP,if_pos vg])
   exact Gy
  have vg:iS l[i].v=0:=(by simpa using cX)
  refine aD 4 ?_;refine bV 34 (fun aja Z=>?_) (fun aja Z=>?_)
  ·refine aE 3 ?_;refine OD.still gW rfl (PP (us:=[_,_,_]) (AG:=[_,_,_]) rfl ot ot eqGuardType41 (F9 l[i].v ⟨0,0,⟨#[]⟩⟩)) ?_;refine aE 2 ?_;refine bV 40 (fun Lz KX=>?_) (fun Lz KX=>?_)
   ·refine an 73 [3,5,11,12,13,49] ?_;refine eI ?_;exact z146
   refine aE 4 ?_;refine bV 44 (fun O E=>?_) (fun O E=>?_)
   ·refine an 73 [3,5,11,12,13,49] ?_;refine au ?_ ?_<;>intro er fq
    ·exact z146
    exact VZ
   refine an 73 [3,5,11,12,13,49] ?_;refine fM ?_;exact VZ
  refine x4 4 ?_;refine aE 6 ?_;refine bV 44 (fun O E=>?_) (fun O E=>?_)
  ·refine bg [3,5,11,12,13,49] ?_;refine au ?_ ?_<;>intro er fq
   ·have qC:fg h l[i]=6:=(by unfold fg zeroV;rw[if_neg dP,if_neg uo,if_pos (by simp_all)])
    exact Gy
   exact V0
  refine bg [3,5,11,12,13,49] ?_;refine fM ?_;exact V0
 have eZ:=hx.trans (P0 (show l.length≤i by omega));refine af [72] ?_;refine au ?_ ?_<;>intro pZ GF
 ·exact z124
 refine af [2] ?_;refine aI [] ?_;refine⟨vi ?_,rfl⟩;first|exact hf.symm|(rw[hf,hx,QT aa qC (by first|assumption|decide)];done)|(rw[hf,eZ,if_pos (by simpa using pZ)];done)|(rw[hf,eZ,if_neg (by simpa using pZ)];done)

end Go.Proofs.YtdgichenhdikgaaGreatDoor.Nm
namespace Go.Proofs
open Go.Shelf
def Tryz.ZR:Go.Shelf.Ren:=⟨fun|106=>137|213=>155|265=>164|n=>n,fun|9=>9|3=>3|n=>n,fun|n=>n⟩
theorem Tryz.aez:Go.Proofs.Lays.n106 Tryz.prog Tryz.ZR:={
 mixed:=by kernel_rfl
 f106:=Tryz.func137.trans (congrArg some (by kernel_rfl))
 f213:=Tryz.func155.trans (congrArg some (by kernel_rfl))
 f265:=Tryz.func164.trans (congrArg some (by kernel_rfl))
 t3:=Tryz.underlying3
 a3:=Tryz.isAgg3
 z3:=Tryz.sizeOf3
 v3:=Tryz.zeroValue3
 t9:=Tryz.underlying9
 a9:=Tryz.isAgg9
 z9:=Tryz.sizeOf9
 v9:=Tryz.zeroValue9}
open Go.RowKit in
theorem Tryz.strings_Compare(a b:ByteArray)(w:World) :
  Calls Tryz.prog 137 #[.string a,.string b] w fun e w'=>e = .returned (.int .i64 (Lib.compareBytes a.data.toList b.data.toList))∧w'=w:=Any.strings_Compare Tryz.aez a b w
def Tryz.O7:Go.Shelf.Ren:=⟨fun|155=>143|154=>156|138=>165|165=>166|143=>167|166=>168|197=>169|169=>170|195=>174|218=>175|240=>176|241=>177|219=>178|260=>179|276=>180|277=>181|217=>182|225=>183|224=>184|267=>185|266=>186|314=>187|n=>n,fun|9=>9|3=>3|4=>4|72=>237|0=>0|76=>241|105=>243|21=>21|5=>5|70=>235|20=>20|37=>88|75=>240|127=>250|164=>251|46=>231|119=>254|139=>257|138=>256|146=>259|51=>258|80=>245|n=>n,fun|1=>2|3=>4|4=>5|n=>n⟩
theorem Tryz.aeA:Go.Proofs.Lays.n155 Tryz.prog Tryz.O7:={
 mixed:=by kernel_rfl
 f138:=Tryz.func165.trans (congrArg some (by kernel_rfl))
 f143:=Tryz.func167.trans (congrArg some (by kernel_rfl))
 f154:=Tryz.func156.trans (congrArg some (by kernel_rfl))
 f155:=Tryz.func143.trans (congrArg some (by kernel_rfl))
 f165:=Tryz.func166.trans (congrArg some (by kernel_rfl))
 f166:=Tryz.func168.trans (congrArg some (by kernel_rfl))
 f169:=Tryz.func170.trans (congrArg some (by kernel_rfl))
 f195:=Tryz.func174.trans (congrArg some (by kernel_rfl))
 f197:=Tryz.func169.trans (congrArg some (by kernel_rfl))
 f217:=Tryz.func182.trans (congrArg some (by kernel_rfl))
 f218:=Tryz.func175.trans (congrArg some (by kernel_rfl))
 f219:=Tryz.func178.trans (congrArg some (by kernel_rfl))
 f224:=Tryz.func184.trans (congrArg some (by kernel_rfl))
 f225:=Tryz.func183.trans (congrArg some (by kernel_rfl))
 f240:=Tryz.func176.trans (congrArg some (by kernel_rfl))
 f241:=Tryz.func177.trans (congrArg some (by kernel_rfl))
 f260:=Tryz.func179.trans (congrArg some (by kernel_rfl))
 f266:=Tryz.func186.trans (congrArg some (by kernel_rfl))
 f267:=Tryz.func185.trans (congrArg some (by kernel_rfl))
 f276:=Tryz.func180.trans (congrArg some (by kernel_rfl))
 f277:=Tryz.func181.trans (congrArg some (by kernel_rfl))
 f314:=Tryz.func187.trans (congrArg some (by kernel_rfl))
 t0:=Tryz.underlying0
 a0:=Tryz.isAgg0
 z0:=Tryz.sizeOf0
 v0:=Tryz.zeroValue0
 t3:=Tryz.underlying3
 a3:=Tryz.isAgg3
 z3:=Tryz.sizeOf3
 v3:=Tryz.zeroValue3
 t4:=Tryz.underlying4
 a4:=Tryz.isAgg4
 z4:=Tryz.sizeOf4
 v4:=Tryz.zeroValue4
 t5:=Tryz.underlying5
 a5:=Tryz.isAgg5
 z5:=Tryz.sizeOf5
 v5:=Tryz.zeroValue5
 t9:=Tryz.underlying9
 a9:=Tryz.isAgg9
 z9:=Tryz.sizeOf9
 v9:=Tryz.zeroValue9
 t20:=Tryz.underlying20
 a20:=Tryz.isAgg20
 z20:=Tryz.sizeOf20
 v20:=Tryz.zeroValue20
 t21:=Tryz.underlying21
 a21:=Tryz.isAgg21
 z21:=Tryz.sizeOf21
 v21:=Tryz.zeroValue21
 t37:=Tryz.underlying88
 a37:=Tryz.isAgg88
 z37:=Tryz.sizeOf88
 v37:=Tryz.zeroValue88
 t46:=Tryz.underlying231
 a46:=Tryz.isAgg231
 z46:=Tryz.sizeOf231
 v46:=Tryz.zeroValue231
 t51:=Tryz.underlying258
 a51:=Tryz.isAgg258
 z51:=Tryz.sizeOf258
 v51:=Tryz.zeroValue258
 t70:=Tryz.underlying235
 a70:=Tryz.isAgg235
 z70:=Tryz.sizeOf235
 v70:=Tryz.zeroValue235
 t72:=Tryz.underlying237
 a72:=Tryz.isAgg237
 z72:=Tryz.sizeOf237
 v72:=Tryz.zeroValue237
 t75:=Tryz.underlying240
 a75:=Tryz.isAgg240
 z75:=Tryz.sizeOf240
 v75:=Tryz.zeroValue240
 t76:=Tryz.underlying241
 a76:=Tryz.isAgg241
 z76:=Tryz.sizeOf241
 v76:=Tryz.zeroValue241
 t105:=Tryz.underlying243
 a105:=Tryz.isAgg243
 z105:=Tryz.sizeOf243
 v105:=Tryz.zeroValue243
 t119:=Tryz.underlying254
 a119:=Tryz.isAgg254
 z119:=Tryz.sizeOf254
 t127:=Tryz.underlying250
 a127:=Tryz.isAgg250
 z127:=Tryz.sizeOf250
 v127:=Tryz.zeroValue250
 t138:=Tryz.underlying256
 a138:=Tryz.isAgg256
 z138:=Tryz.sizeOf256
 v138:=Tryz.zeroValue256
 t139:=Tryz.underlying257
 a139:=Tryz.isAgg257
 z139:=Tryz.sizeOf257
 v139:=Tryz.zeroValue257
 t146:=Tryz.underlying259
 a146:=Tryz.isAgg259
 z146:=Tryz.sizeOf259
 v146:=Tryz.zeroValue259
 t164:=Tryz.underlying251
 a164:=Tryz.isAgg251
 z164:=Tryz.sizeOf251
 v164:=Tryz.zeroValue251
 g1:=by kernel_rfl
 g3:=by kernel_rfl
 g4:=by kernel_rfl}
theorem Tryz.Zd:Builder.Extra Tryz.prog Tryz.O7:={
 sizeBuilder:=by kernel_rfl
 liesBuilder:=by kernel_rfl
 t5:=Tryz.underlying5
 a5:=Tryz.isAgg5
 z5:=Tryz.sizeOf5
 v5:=Tryz.zeroValue5
 infoByte:=by kernel_rfl
 cellsByte:=by kernel_rfl
 sizeByte:=by kernel_rfl
 neB5:=by decide}
open Go.RowKit Go.Lib in
theorem Tryz.strings_ReplaceAll(s old new:ByteArray)(m:Int)(w:World)(hs:s.size<4294967281)(hm:w.cell? ⟨2,0,none⟩=some (.int .i64 m))(h1:1≤old.size)(hlen:s.size+Lib.countB s old*new.size≤140737488355328) :
  Calls Tryz.prog 143 #[.string s,.string old,.string new] w fun e w' =>
   e = .returned (.string ⟨(Lib.replaceAll s.data.toList old.data.toList new.data.toList).toArray⟩)∧Below w.heap.size w w':=Any.strings_ReplaceAll Tryz.aeA Tryz.Zd s old new m w hs hm h1 hlen

end Go.Proofs
namespace Go.Proofs.YtdgichenhdikgaaGreatDoor.Cd
open List
open Go.Proofs.Tryz
open Go.RowKit V Pk Vl
variable {v:Vl}
theorem Rk(c:UInt8)(new:List UInt8):∀s:List UInt8,Lib.replaceK [c] new (s.count c) s=s.flatMap fun b=>if b=c then new else [b]
 | []=>rfl
 | b::l=>by
  have I:=Rk c new l;by_cases h:b=c
  ·subst h;have hi:Lib.index (b::l) [b]=((0:Nat):Int):=(by rw[Lib.index_one];simp[Lib.indexByte])
   rw[count_cons_self,Lib.replaceK_hit _ _ _ _ _ hi,flatMap_cons,if_pos rfl,←I];simp
  have hc:(b::l).count c=l.count c:=count_cons_of_ne h;rw[hc,flatMap_cons,if_neg h,←I];cases hk:l.count c with
  | zero=>rfl
  | succ k =>
   obtain⟨i,hi⟩:=Lib.index_of_count (s:=l) (old:=[c]) (by rw[Lib.count_one];omega);have E:Lib.index (b::l) [c]=((i+1:Nat):Int):=by
    rw[Lib.index_one] at hi ⊢;unfold Lib.indexByte;rw[if_neg oY,hi,if_neg (by rw[beq_iff_eq];omega)];omega
   rw[Lib.replaceK_hit _ _ _ _ _ E,Lib.replaceK_hit _ _ _ _ _ hi];simp
def tV(c:UInt8)(new:List UInt8)(s:ByteArray):ByteArray:=⟨(s.data.toList.flatMap fun b=>if b=c then new else [b]).toArray⟩
theorem ZS(c:UInt8)(new s:List UInt8):Lib.replaceAll s [c] new=s.flatMap fun b=>if b=c then new else [b]:=by
 unfold Lib.replaceAll Lib.replace Lib.replaceNum;split
 ·rename_i h;have h':[c]=new:=(by simpa using h)
  subst h';induction s with
  | nil=>rfl
  | cons b l ih =>
   rw[flatMap_cons,←ih];have:(if b=c then [c] else [b])=[b]:=by
    split
    ·rename_i e;rw[e]
    rfl
   rw[this];rfl
 rw[if_pos (.inl w7),Lib.count_one,Rk]
variable {G:List (Nat×List Value)} {m:Int}
theorem aeB(hG:(2,[Value.int .i64 m])∈G)(c:UInt8)(new:ByteArray)(s:ByteArray)(hs:s.size≤1000000)(hn:new.size≤1000):VP Tryz.prog G 143 [bw s,bw ⟨#[c]⟩,bw new] (bw (tV c new.data.toList s)):=by
 have hc:Lib.countB s ⟨#[c]⟩≤1000000:=by
  show Lib.count s.data.toList [c]≤1000000;rw[Lib.count_one];exact Nat.le_trans count_le_length (by rw[kM];exact hs)
 have I:Lib.countB s ⟨#[c]⟩*new.size≤1000000*1000:=Nat.mul_le_mul hc hn;have key:=VP.Tf (P:=Tryz.prog) (G:=G) (f:=143) (vs:=[.string s,.string ⟨#[c]⟩,.string new]) (v:=.string (tV c new.data.toList s)) fun w E=>by
  refine(Tryz.strings_ReplaceAll s ⟨#[c]⟩ new m w w4 (E _ hG 0 _ rfl) (Nat.le_refl _) w4).mono fun e w' ⟨h1,h2⟩=>⟨?_,h2⟩
  rw[h1];congr 2;show(⟨(Lib.replaceAll s.data.toList [c] new.data.toList).toArray⟩:ByteArray)=_;rw[ZS];rfl
 exact key
def kb(v:Vl):UInt8:=UInt8.ofNat v.k.toNat
def nb(v:Vl):UInt8:=UInt8.ofNat v.n.toNat
def uN(v:Vl):Nat:=(v.n+9223372036854775808).toNat
def xE(u k:Nat):UInt8:=UInt8.ofNat (u/256 ^ (7-k))
def lX(u:Nat):List UInt8:=(range 8).map (xE u)
def ow(s:List UInt8):List UInt8:=s.flatMap fun b=>if b=0 then [0,255] else [b]
def sG(v:Vl):List UInt8:=if v.k=1 then [nb v] else if v.k=2 then lX (uN v) else if v.k=3 then ow v.s.data.toList++[0,0] else []
def pO(v:Vl):List UInt8:=kb v::sG v
def eX(l:List Vl):List UInt8:=l.flatMap pO
def sH:List Vl→Int
 | []=>0
 | v::r=>if cn v=0 then sH r else cn v
def fY(l:List Vl):List UInt8×Int:=if l.length>6 then ([],1) else if sH l≠0 then ([],sH l) else if (eX l).length>100 then ([],5) else (eX l,0)
def BM(b:List UInt8):D:=av 1 cB b
def LO(r:List UInt8×Int):D:=.dI [BM r.1,ae r.2]
theorem Tn:∀{l:List Vl} {i:Nat} (hi:i<l.length),(∀v∈l.take i,cn v=0)→cn l[i]≠0→sH l=cn l[i]
 | v::r,0,hi,_,h=>by
  have h':cn v≠0:=h;show sH (v::r)=cn v;rw[sH,if_neg h']
 | v::r,i+1,hi,h0,h=>by
  rw[sH,if_pos (h0 v bf)];exact Tn (l:=r) (i:=i) (by simpa using hi) (fun x hx=>h0 x (by rw[take_succ_cons];exact mem_cons_of_mem _ hx)) h
theorem Fj:∀{l:List Vl},(∀v∈l,cn v=0)→sH l=0
 | [],_=>rfl
 | v::r,h=>by rw[sH,if_pos (h v mem_cons_self)];exact Fj fun x hx=>h x (mem_cons_of_mem _ hx)
theorem Ip(h:cn v=0):0≤v.k∧v.k≤3:=by
 unfold cn at h;split at h
 ·omega
 split at h
 ·omega
 split at h
 ·omega
 split at h
 ·omega
 cases h
theorem Po(h:cn v=0)(hk:v.k=1):0≤v.n∧v.n≤1:=by
 unfold cn at h;rw[if_neg w4,if_pos hk] at h;split at h
 ·cases h
 omega
theorem Pp(h:cn v=0)(hk:v.k=3):v.s.size≤20:=by
 unfold cn at h;rw[if_neg w4,if_neg w4,if_neg w4,if_pos hk] at h;split at h
 ·cases h
 split at h
 ·cases h
 omega
theorem Ky(h:cn v=0):((kb v).toNat:Int)=v.k:=by
 have:=Ip h;unfold kb;rw[UInt8.toNat_ofNat'];omega
theorem Kz(h:cn v=0)(hk:v.k=1):((nb v).toNat:Int)=v.n:=by
 have:=Po h hk;unfold nb;rw[UInt8.toNat_ofNat'];omega
theorem aeC(h:cn v=0):IntKind.u8.wrap v.k=((kb v).toNat:Int):=by
 have:=Ip h;rw[Ky h];show v.k % 256=_;omega
theorem aeD(h:cn v=0)(hk:v.k=1):IntKind.u8.wrap v.n=((nb v).toNat:Int):=by
 have:=Po h hk;rw[Kz h hk];show v.n % 256=_;omega
theorem KA(h:v.Ok):((uN v:Nat):Int)=v.n+9223372036854775808:=by have:=h.n1;unfold uN;omega
theorem agb{u k:Nat}(hk:k≤7):(u:Int).fdiv (2 ^ min ((56:Int)-8*(k:Int)).toNat IntKind.u64.bits)=((u/256 ^ (7-k):Nat):Int):=by
 have e1:min ((56:Int)-8*(k:Int)).toNat IntKind.u64.bits=8*(7-k):=by
  show min _ 64=_;omega
 have E:(2 ^ (8*(7-k)):Nat)=256 ^ (7-k):=(by rw[Nat.pow_mul])
 have e2:((2:Int) ^ (8*(7-k)))=((256 ^ (7-k):Nat):Int):=by
  rw[←E,Int.natCast_pow];rfl
 rw[e1,e2];exact(Int.ofNat_fdiv _ _).symm
theorem aeE(x:Nat):IntKind.u8.wrap (x:Int)=((UInt8.ofNat x).toNat:Int):=by
 rw[UInt8.toNat_ofNat'];show(x:Int) % 256=_;omega
theorem Fk{u k:Nat}(hk:k≤7):(lX u).take k++[xE u k]=(lX u).take (k+1):=by
 have hl:k<(lX u).length:=(by simp[lX];omega)
 rw[take_succ_eq_append_getElem hl];congr 2;simp[lX]
theorem wH(u:Nat):(lX u).length=8:=by simp[lX]
theorem Tp(s:List UInt8):(ow s).length≤2*s.length:=by
 induction s with
 | nil=>simp[ow]
 | cons b l ih =>
  unfold ow at ih ⊢;rw[flatMap_cons,length_append,length_cons];split<;>simp only[length_cons,length_nil]<;>omega
theorem Fl(h:cn v=0):(pO v).length≤43:=by
 unfold pO sG;rw[length_cons];split
 ·simp
 split
 ·rw[wH];omega
 split
 ·rename_i hk;have h1:=Pp h hk;have h2:=Tp v.s.data.toList;rw[kM] at h2;rw[length_append];simp;omega
 simp
theorem E0:∀{l:List Vl},(∀v∈l,cn v=0)→(eX l).length≤43*l.length
 | [],_=>Nat.le_refl _
 | v::r,h=>by
  have h1:=Fl (h v mem_cons_self);have h2:=E0 (l:=r) fun x hx=>h x (mem_cons_of_mem _ hx);unfold eX at h2 ⊢;rw[flatMap_cons,length_append,length_cons];omega
theorem PI{l:List Vl}{i:Nat}(hi:i<l.length):eX (l.take i)++pO l[i]=eX (l.take (i+1)):=by
 unfold eX;rw[take_succ_eq_append_getElem hi,flatMap_append];simp
theorem FU(h:v.k=1):sG v=[nb v]:=if_pos h
theorem FV(h:v.k=2):sG v=lX (uN v):=by unfold sG;rw[if_neg w4,if_pos h]
theorem FW(h:v.k=3):sG v=ow v.s.data.toList++[0,0]:=by unfold sG;rw[if_neg w4,if_neg w4,if_pos h]
theorem Ve(h1:¬v.k=1)(h2:¬v.k=2)(h3:¬v.k=3):sG v=[]:=by unfold sG;rw[if_neg h1,if_neg h2,if_neg h3]
theorem Bm(s:ByteArray):(tV 0 [0,255] s).data.toList=ow s.data.toList:=rfl
def LP(p:List UInt8×Int)(r:D)(S:List ah):Prop:=∃ad cap,r = .dI [aN ad p.1.length cap,ae p.2]∧bn 5 1 (p.1.flatMap cB) p.1.length ad cap S
theorem LP.view{p:List UInt8×Int}{r:D}{S:List ah}(h:LP p r S):View S r (LO p):=by
 obtain⟨ad,cap,rfl,ho⟩:=h;exact EX ⟨lK ho (cr pG _) (fun B h=>h),eR,trivial⟩
theorem Bf:(Tryz.prog.info? 5).map (fun i=>(i.zero,i.size,i.bytes))=some (some (.int .u8 0),1,1):=by kernel_rfl
theorem UJ(hG:(2,[Value.int .i64 m])∈G)(l:List Vl)(hl:l.length≤maxLen)(aQ:∀v∈l,v.Ok):VC Tryz.prog G 111 [av 3 cV l] [] (LP (fY l)):=by
 refine VC.body func111 rfl ntmps111 aR fun X0 w0 aZ=>?_;refine af [0] ?_;refine af [0,12] ?_;refine au ?_ ?_<;>intro aM bD
 ·have aW:fY l=([],1):=if_pos w4;exact Ni
 have h6:l.length≤6:=(by omega)
 refine bY ?_;refine bg [0,4] ?_;refine af [4,13,14,15] ?_;refine CD.block ?_;refine mV (fun (E:Nat×Option Addr×Nat×List ah) aH=>match E with|(i,I,O,Sb)=>(i≤l.length)∧(∀v∈l.take i,cn v=0)∧(bn 5 1 ((eX (l.take i)).flatMap cB) (eX (l.take i)).length I O Sb)∧aH=(⟨72,[(4,aN I (eX (l.take i)).length O),(13,av 3 cV l),(14,ae l.length),(15,ae (i:Nat))],(Sb)⟩:St)) (fun (E:Nat×Option Addr×Nat×List ah)=>match E with|(i,I,O,Sb)=>l.length-i) (0,none,0,[]) ⟨(Nat.zero_le _),bf,(bn.cast iv (by rfl)),rfl⟩ (aK (h:=by repeat (first|exact trivial|refine⟨w6,?_⟩))) ?_;rintro⟨i,I,O,Sb⟩ _ ⟨hi,h0,ph,rfl⟩;refine af [4,13,14,15,16] ?_;refine au ?_ ?_<;>intro aY cy
 ·have aa:i<l.length:=(by omega)
  have Nt:=E0 h0;rw[length_take] at Nt;have dm:=ec;have fS:=aQ _ (getElem_mem aa);refine aD 2 ?_;refine OD.alloc (ds:=[_,_,_]) ap rfl rfl zeroValue41 rfl (fun b6=>?_);refine aP 0 [_,_,_] sizeOf41 ?_;refine an 72 [4,6,13,14,15] ?_;refine cJ [4,6,7,13,14,15] (Vl.pB l[i]) ?_;refine af [4,6,7,13,14,15,22] ?_;refine au ?_ ?_<;>intro bZ cN
  ·have hne:cn l[i]≠0:=(by simpa using bZ)
   have aW:fY l=([],cn l[i]):=(by unfold fY;rw[if_neg w4,Tn aa h0 hne,if_pos hne])
   exact Ni
  have U:cn l[i]=0:=(by simpa using bZ)
  refine aD 3 ?_;refine bN (oK (r:=.int .u8 ((kb l[i]).toNat:Int)) rfl ot (oL runUnderlying3 runUnderlying5 (aeC U))) ?_;refine ei (bW 0 [_]) [.int .u8 0] [_] zeroValue5 runUnderlying88 sizeOf5 (fun NT=>?_);refine fw 0 28 1 1 ?_;refine OD.ek (ls:=(eX (l.take i))) (new:=[kb l[i]]) (Sq:=Sb) pG wM ap rfl rfl underlying88 Bf rfl w7 ot ph (de (A:=[_])) ot bf Ab Ab (fun uD Z GG GH=>?_);refine OD.perm (dZ (S1:=[⟨uD,5,Z*1,flatMap cB ((eX (l.take i))++[kb l[i]])⟩]) (A:=[_])) ?_;refine an 72 [4,6,13,14,15] ?_;refine af [4,6,13,14,15,31] ?_;refine af [4,6,13,14,15,31,32] ?_;refine au ?_ ?_<;>intro cX en
  ·have dP:l[i].k=1:=(by simpa using cX)
   refine dM 3 ?_;refine bN (oK (r:=.int .u8 ((nb l[i]).toNat:Int)) rfl ot (oL runUnderlying3 runUnderlying5 (aeD U dP))) ?_;refine ei (bW 0 [_]) [.int .u8 0] [_] zeroValue5 runUnderlying88 sizeOf5 (fun NU=>?_);refine fw 0 38 1 1 ?_;refine OD.ek (ls:=((eX (l.take i))++[kb l[i]])) (new:=[nb l[i]]) (Sq:=[⟨uD,5,Z*1,flatMap cB ((eX (l.take i))++[kb l[i]])⟩]) pG wM ap rfl rfl underlying88 Bf rfl w7 ot (bE GG GH) (de (A:=[_])) ot bf Ab Ab (fun C3 LS ajb ajc=>?_);refine OD.perm (dZ (S1:=[⟨C3,5,LS*1,flatMap cB (((eX (l.take i))++[kb l[i]])++[nb l[i]])⟩]) (A:=[_])) ?_;refine an 72 [4,13,14,15] ?_;refine cm [4,13,14,15] ?_;refine⟨((i+1),(some ⟨C3,0,none⟩),LS,[⟨C3,5,LS*1,flatMap cB (((eX (l.take i))++[kb l[i]])++[nb l[i]])⟩]),_,cD,(aK (h:=by repeat (first|exact trivial|refine⟨w6,?_⟩))),w4,(yN aa h0 U),(bn.cast (bE ajb ajc) GX),rfl⟩
  have dP:¬l[i].k=1:=(by simpa using cX)
  refine af [4,6,13,14,15,31,40] ?_;refine au ?_ ?_<;>intro er fq
  ·have fB:l[i].k=2:=(by simpa using er)
   refine cZ [4,8,13,14,15] ?_;refine aS 3 ?_ (h:=by exact(dj (r:=.int .u64 ((uN l[i]:Nat):Int)) rfl ot bI (aep (by rw[KA fS];exact aer fS.n1 fS.n2))));refine bG ?_;refine af [4,8,9,13,14,15] ?_;refine CD.block ?_;refine mV (fun (E:Nat×Option Addr×Nat×List ah) aH=>match E with|(k,I,O,Sb)=>(k≤8)∧(bn 5 1 (((eX (l.take i)++[kb l[i]])++(lX (uN l[i])).take k).flatMap cB) ((eX (l.take i)++[kb l[i]])++(lX (uN l[i])).take k).length I O Sb)∧aH=(⟨72,[(4,aN I ((eX (l.take i)++[kb l[i]])++(lX (uN l[i])).take k).length O),(8,.v (.int .u64 ((uN l[i]:Nat):Int))),(9,ae (56-8*(k:Int))),(13,av 3 cV l),(14,ae l.length),(15,ae (i:Nat))],(Sb)⟩:St)) (fun (E:Nat×Option Addr×Nat×List ah)=>match E with|(k,I,O,Sb)=>8-k) (0,(some ⟨uD,0,none⟩),Z,[⟨uD,5,Z*1,flatMap cB ((eX (l.take i))++[kb l[i]])⟩]) ⟨w7,(bn.cast (bE GG GH) bf),rfl⟩ (aK (h:=by repeat (first|exact trivial|refine⟨(by (repeat (first|exact fD|(apply fV;focus (first|rfl|(congr 2;omega)|(simp;done)|(apply eK;rw[←Fk w4];simp)|(apply eK;simp)|(apply eK;simp;done)))|(apply fH;focus rfl)));done),?_⟩))) ?_;rintro⟨k,I,O,Sb⟩ _ ⟨M3,ph,rfl⟩;refine af [4,8,9,13,14,15,47] ?_;refine au ?_ ?_<;>intro fx gG
   ·have hk7:k≤7:=(by omega)
    refine dM 3 ?_;refine bN (dj (r:=.int .u64 ((uN l[i]/256 ^ (7-k):Nat):Int)) rfl ot ot (y4 w4 (agb hk7))) ?_;refine bN (oK (r:=.int .u8 ((xE (uN l[i]) k).toNat:Int)) rfl ot (oL runUnderlying213 runUnderlying5 (aeE _))) ?_;refine ei (bW 0 [_]) [.int .u8 0] [_] zeroValue5 runUnderlying88 sizeOf5 (fun b55=>?_);refine fw 0 55 1 1 ?_;refine OD.ek (ls:=((eX (l.take i)++[kb l[i]])++(lX (uN l[i])).take k)) (new:=[xE (uN l[i]) k]) (Sq:=Sb) pG wM ap rfl rfl underlying88 Bf rfl w7 ot ph (de (A:=[])) ot bf Ab Ab (fun NV LU ajd aje=>?_);refine OD.perm (dZ (S1:=[⟨NV,5,LU*1,flatMap cB (((eX (l.take i)++[kb l[i]])++(lX (uN l[i])).take k)++[xE (uN l[i]) k])⟩]) (A:=[])) ?_;refine an 72 [4,8,9,13,14,15] ?_;refine cm [4,8,9,13,14,15] ?_;refine⟨((k+1),(some ⟨NV,0,none⟩),LU,[⟨NV,5,LU*1,flatMap cB (((eX (l.take i)++[kb l[i]])++(lX (uN l[i])).take k)++[xE (uN l[i]) k])⟩]),_,cD,(aK (h:=by repeat (first|exact trivial|refine⟨(by (repeat (first|exact fD|(apply fV;focus (first|rfl|(congr 2;omega)|(simp;done)|(apply eK;rw[←Fk w4];simp)|(apply eK;simp)|(apply eK;simp;done)))|(apply fH;focus rfl)));done),?_⟩))),w4,(bn.cast (bE ajd aje) (by rw[←Fk w4];simp)),rfl⟩
   have ap1:k=8:=(by omega)
   have ap2:8≤k:=(by omega)
   refine cm [4,13,14,15] ?_;refine⟨((i+1),I,O,Sb),_,cD,(aK (h:=by repeat (first|exact trivial|refine⟨w6,?_⟩))),w4,(yN aa h0 U),(bn.cast ph GX),rfl⟩
  have fB:¬l[i].k=2:=(by simpa using er)
  refine af [4,6,13,14,15,57] ?_;refine au ?_ ?_<;>intro gU kU
  ·have l7:l[i].k=3:=(by simpa using gU)
   have ME:=Pp U l7;have Dq:=Tp l[i].s.data.toList;rw[kM] at Dq;have Yz:(tV 0 [0,255] l[i].s).size=(ow l[i].s.data.toList).length:=(by rw[←kM,Bm])
   refine aD 3 ?_;refine dQ call143 (aeB hG 0 ⟨#[0,255]⟩ l[i].s w4 w7) ?_;refine OD.Z8 (ls:=((eX (l.take i))++[kb l[i]])) (Sq:=[⟨uD,5,Z*1,flatMap cB ((eX (l.take i))++[kb l[i]])⟩]) ap rfl rfl underlying88 underlying9 Bf ot (bE GG GH) (de (A:=[_])) ot (by rw[show(tV 0 (⟨#[0,255]⟩:ByteArray).data.toList l[i].s).size=(ow l[i].s.data.toList).length from Yz];simp only[length_append,length_cons,length_nil];omega) (by rw[show(tV 0 (⟨#[0,255]⟩:ByteArray).data.toList l[i].s).size=(ow l[i].s.data.toList).length from Yz];simp only[length_append,length_cons,length_nil];omega) (fun Wo xF Dt Cw=>?_);refine OD.perm (dZ (A:=[_])) ?_;refine an 72 [4,13,14,15] ?_;refine dM 1 ?_;refine ei (bW 0 [_,_]) [.int .u8 0,.int .u8 0] [_,_] zeroValue5 runUnderlying88 sizeOf5 (fun b65=>?_);refine fw 0 65 1 2 ?_;refine OD.ek (ls:=(((eX (l.take i))++[kb l[i]])++(tV 0 [0,255] l[i].s).data.toList)) (new:=[(0:UInt8),0]) (Sq:=Dt) pG wM ap rfl rfl underlying88 Bf rfl w7 ot Cw (de (A:=[_])) ot bf (by rw[Bm];simp only[length_append,length_cons,length_nil];omega) (by rw[Bm];simp only[length_append,length_cons,length_nil];omega) (fun pn zN zO zP=>?_);refine OD.perm (dZ (S1:=[⟨pn,5,zN*1,flatMap cB ((((eX (l.take i))++[kb l[i]])++(tV 0 [0,255] l[i].s).data.toList)++[(0:UInt8),0])⟩]) (A:=[_])) ?_
   refine an 72 [4,13,14,15] ?_;refine cm [4,13,14,15] ?_;refine⟨((i+1),(some ⟨pn,0,none⟩),zN,[⟨pn,5,zN*1,flatMap cB ((((eX (l.take i))++[kb l[i]])++(tV 0 [0,255] l[i].s).data.toList)++[(0:UInt8),0])⟩]),_,cD,(aK (h:=by repeat (first|exact trivial|refine⟨w6,?_⟩))),w4,(yN aa h0 U),(bn.cast (bE zO zP) GX),rfl⟩
  have l7:¬l[i].k=3:=(by simpa using gU)
  refine cm [4,13,14,15] ?_;refine⟨((i+1),(some ⟨uD,0,none⟩),Z,[⟨uD,5,Z*1,flatMap cB ((eX (l.take i))++[kb l[i]])⟩]),_,cD,(aK (h:=by repeat (first|exact trivial|refine⟨w6,?_⟩))),w4,(yN aa h0 U),(bn.cast (bE GG GH) GX),rfl⟩
 have fh:∀v∈l,cn v=0:=(by rw[take_of_length_le w4] at h0;exact h0)
 have hle:=E0 fh;have NW:eX (l.take i)=eX l:=(by rw[take_of_length_le w4])
 refine af [4,70] ?_;refine au ?_ ?_<;>intro gq lA
 ·have aW:fY l=([],5):=(by unfold fY;rw[if_neg w4,Fj fh,if_neg bf,if_pos (by rw[NW] at gq;simp at gq;omega)])
  exact Ni
 have aW:fY l=(eX l,0):=(by unfold fY;rw[if_neg w4,Fj fh,if_neg bf,if_neg (by rw[NW] at gq;simp at gq;omega)])
 refine af [2,3] ?_;refine aI Sb ?_;rw[aW,←NW];exact⟨I,O,rfl,ph⟩
theorem agc(hG:(2,[Value.int .i64 m])∈G)(l:List Vl)(hl:l.length≤maxLen)(aQ:∀v∈l,v.Ok):VP Tryz.prog G 111 [av 3 cV l] (LO (fY l)):=(UJ hG l hl aQ).cover fun r S hr=>hr.view

end Go.Proofs.YtdgichenhdikgaaGreatDoor.Cd
namespace Go.Proofs.YtdgichenhdikgaaGreatDoor.Cd
open List
open Go.Proofs.Tryz
open Go.RowKit V Pk Vl
def lU(l:List UInt8):Nat:=l.foldl (fun a c=>a*256+c.toNat) 0
theorem IG(l:List UInt8)(c:UInt8):lU (l++[c])=lU l*256+c.toNat:=by unfold lU;rw[foldl_append];rfl
theorem JS:∀(n:Nat) (l:List UInt8),l.length=n→lU l<256 ^ n
 | 0,l,h=>by rw[eq_nil_of_length_eq_zero h];decide
 | n+1,l,h=>by
  have hne:l≠[]:=(by intro e;subst e;simp at h)
  rw[←dropLast_concat_getLast hne,IG];have h1:=JS n l.dropLast (by rw[length_dropLast,h];rfl);have h2:(l.getLast hne).toNat<256:=(l.getLast hne).toNat_lt;rw[Nat.pow_succ];omega
variable {G:List (Nat×List Value)}

end Go.Proofs.YtdgichenhdikgaaGreatDoor.Cd
namespace Go.Proofs.YtdgichenhdikgaaGreatDoor.Cd
open List
open Go.Proofs.Tryz
open Go.RowKit V Pk Vl
variable {v:Vl}
theorem Ic:∀(b a:List UInt8),lU (a++b)=lU a*256 ^ b.length+lU b
 | [],a=>by simp[lU]
 | c::b,a=>by
  have h1:=Ic b (a++[c]);have h2:=Ic b [c];rw[append_assoc,singleton_append,IG] at h1;have h3:lU (c::b)=c.toNat*256 ^ b.length+lU b:=by
   rw[singleton_append] at h2;rw[h2];have:lU [c]=c.toNat:=(by simp[lU])
   rw[this]
  rw[h1,h3,length_cons,Nat.pow_succ,Nat.add_mul,Nat.mul_assoc,Nat.mul_comm 256];omega
theorem Rl{u:Nat}(h:u<18446744073709551616):lU (lX u)=u:=by
 have key:∀k,k≤8→lU ((lX u).take k)=u/256 ^ (8-k):=by
  intro k;induction k with
  | zero=>intro _;show 0=u/256 ^ 8;exact(Nat.div_eq_of_lt h).symm
  | succ k ih =>
   intro hk;have hb:=ih w4;rw[←Fk w4,IG,hb];unfold xE;rw[UInt8.toNat_ofNat',show 8-k=(7-k)+1 by omega,show 8-(k+1)=7-k by omega,Nat.pow_succ,←Nat.div_div_eq_div_mul];have:=Nat.div_add_mod (u/256 ^ (7-k)) 256;omega
 have:=key 8 (Nat.le_refl _);rw[take_of_length_le (by rw[wH];omega)] at this;rw[this];simp
theorem II{s:ByteArray}(h:s.size=0):s=⟨#[]⟩:=Fg (eq_nil_of_length_eq_zero (by rw[kM,h]))
theorem Fm(h:cn v=0)(hk:v.k=0):v=⟨0,0,⟨#[]⟩⟩:=by
 unfold cn at h;rw[if_pos hk] at h;split at h
 ·cases h
 rename_i hn;exact Vl.ext' hk (by show v.n=0;omega) (II w4)
theorem Tq(h:cn v=0)(hk:v.k=1):v.s=⟨#[]⟩:=by
 unfold cn at h;rw[if_neg w4,if_pos hk] at h;split at h
 ·cases h
 exact II w4
theorem Ts(h:cn v=0)(hk:v.k=2):v.s=⟨#[]⟩:=by
 unfold cn at h;rw[if_neg w4,if_neg w4,if_pos hk] at h;split at h
 ·cases h
 exact II w4
theorem Tu(h:cn v=0)(hk:v.k=3):v.n=0:=by
 unfold cn at h;rw[if_neg w4,if_neg w4,if_neg w4,if_pos hk] at h;split at h
 ·cases h
 omega

end Go.Proofs.YtdgichenhdikgaaGreatDoor.Cd
namespace Go.Proofs.YtdgichenhdikgaaGreatDoor.Cd





open List
open Go.Proofs.Tryz
open Go.RowKit V Pk Vl
open Go.Lib (compareBytes)
variable {a b:UInt8} {l:List Int}
theorem tQ:a<b↔a.toNat<b.toNat:=UInt8.lt_iff_toNat_lt
theorem agd(h:a≠b):a.toNat≠b.toNat:=fun e=>h (UInt8.toNat_inj.1 e)
theorem y5(a b:UInt8)(x y:List UInt8):compareBytes (a::x) (b::y)=if a<b then -1 else if b<a then 1 else compareBytes x y:=by rw[compareBytes]
theorem xj(x y:List UInt8)(h:a.toNat<b.toNat):compareBytes (a::x) (b::y) = -1:=by rw[y5,if_pos (tQ.2 h)]
theorem tW(a:UInt8)(x y:List UInt8):compareBytes (a::x) (a::y)=compareBytes x y:=by
 rw[y5,if_neg qF,if_neg qF]
theorem Tv:∀(p x y:List UInt8),compareBytes (p++x) (p++y)=compareBytes x y
 | [],_,_=>rfl
 | a::p,x,y=>by rw[cons_append,cons_append,tW,Tv p x y]
theorem JT:∀(x y:List UInt8),compareBytes y x = - compareBytes x y
 | [],[]=>rfl
 | [],_::_=>rfl
 | _::_,[]=>rfl
 | a::x,b::y=>by
  have E:=JT x y;rw[y5,y5];rcases Nat.lt_trichotomy a.toNat b.toNat with h|h|h
  ·rw[if_neg qF,if_pos (tQ.2 h),if_pos (tQ.2 h)];rfl
  ·rw[if_neg qF,if_neg qF,if_neg qF,if_neg qF,E]
  rw[if_pos (tQ.2 h),if_neg qF,if_pos (tQ.2 h)]
theorem Rm:∀(x y:List UInt8),compareBytes x y = -1∨compareBytes x y=0∧x=y∨compareBytes x y=1
 | [],[]=>.inr (.inl ⟨rfl,rfl⟩)
 | [],_::_=>.inl rfl
 | _::_,[]=>.inr (.inr rfl)
 | a::x,b::y=>by
  rw[y5];rcases Nat.lt_trichotomy a.toNat b.toNat with h|h|h
  ·exact .inl (if_pos (tQ.2 h))
  ·have e:a=b:=UInt8.toNat_inj.1 h;subst e;rw[if_neg qF,if_neg qF];rcases Rm x y with h|⟨h,e⟩|h
   ·exact .inl h
   ·exact .inr (.inl ⟨h,by rw[e]⟩)
   exact .inr (.inr h)
  exact .inr (.inr (by rw[if_neg qF,if_pos (tQ.2 h)]))
theorem P1(c:UInt8)(b:List UInt8):lU (c::b)=c.toNat*256 ^ b.length+lU b:=by
 have h2:=Ic b [c];rw[singleton_append] at h2;rw[h2];have:lU [c]=c.toNat:=(by simp[lU])
 rw[this]
theorem Vm:∀(l k:List UInt8) (x y:List UInt8),l.length=k.length→lU l<lU k→compareBytes (l++x) (k++y) = -1
 | [],[],_,_,_,h=>absurd h (Nat.lt_irrefl _)
 | [],_::_,_,_,h,_=>by simp at h
 | _::_,[],_,_,h,_=>by simp at h
 | a::l,b::k,x,y,hl,h=>by
  simp only[length_cons,Nat.add_right_cancel_iff] at hl;rw[P1,P1,hl] at h;have h1:=JS _ l hl;have h2:=JS _ k rfl;rw[cons_append,cons_append];rcases Nat.lt_trichotomy a.toNat b.toNat with e|e|e
  ·exact xj _ _ e
  ·have e':a=b:=UInt8.toNat_inj.1 e;subst e';rw[tW];exact Vm l k x y hl w4
  exfalso;have:(b.toNat+1)*256 ^ k.length≤a.toNat*256 ^ k.length:=Nat.mul_le_mul_right _ e;rw[Nat.succ_mul] at this;omega
theorem Bq(c:UInt8)(s:List UInt8):ow (c::s)=(if c=0 then [0,255] else [c])++ow s:=by unfold ow;rw[flatMap_cons]
theorem UK{c:UInt8}(h:¬c=0):0<c.toNat:=by
 have:=agd h;have e:(0:UInt8).toNat=0:=rfl;omega
theorem UL:∀(s t x y:List UInt8),compareBytes s t = -1→compareBytes (ow s++([0,0]++x)) (ow t++([0,0]++y)) = -1
 | [],[],_,_,h=>by exact absurd h w7
 | _::_,[],_,_,h=>by exact absurd (show(1:Int) = -1 from h) w7
 | [],d::t,x,y,_=>by
  rw[Bq];by_cases hd:d=0
  ·rw[if_pos hd];show compareBytes (0::0::x) (0::255::(ow t++([0,0]++y))) = -1;rw[tW];exact xj _ _ w7
  rw[if_neg hd];exact xj (a:=0) _ _ (UK hd)
 | c::s,d::t,x,y,h=>by
  rcases Nat.lt_trichotomy c.toNat d.toNat with e|e|e
  ·have hd:¬d=0:=fun hd=>by subst hd;have:(0:UInt8).toNat=0:=rfl;omega
   rw[Bq,Bq,if_neg hd];by_cases hc:c=0
   ·rw[if_pos hc];exact xj (a:=0) _ _ (UK hd)
   rw[if_neg hc];exact xj _ _ e
  ·have e':c=d:=UInt8.toNat_inj.1 e;subst e';rw[tW] at h;rw[Bq,Bq,append_assoc,append_assoc,Tv];exact UL s t x y h
  rw[y5,if_neg qF,if_pos (tQ.2 e)] at h;exact absurd h w7
def pQ(x y:Int):Int:=if x<y then -1 else if x>y then 1 else 0
def gh:List Int→Int
 | []=>0
 | a::l=>if a≠0 then a else gh l
def cmpL(a b:Vl):List Int:=[pQ a.k b.k,pQ a.n b.n,compareBytes a.s.data.toList b.s.data.toList]
def fu(a b:Vl):Int:=gh (cmpL a b)
theorem rW(x y:Int):pQ x y = -1∧x<y∨pQ x y=0∧x=y∨pQ x y=1∧y<x:=by unfold pQ;split;omega;split<;>omega
theorem P2(x y:Int):pQ y x = - pQ x y:=by
 rcases rW x y with h|h|h<;>rcases rW y x with k|k|k<;>omega
theorem Bg(a b:Vl):fu b a = - fu a b:=by
 unfold fu cmpL gh gh gh gh;rw[P2 a.k b.k,P2 a.n b.n,JT a.s.data.toList b.s.data.toList];repeat' split
 all_goals omega
theorem UM{v w:Vl}(E:cn v=0)(I:v.Ok)(hw:cn w=0)(O:w.Ok)(x y:List UInt8)(h:fu v w = -1):compareBytes (pO v++x) (pO w++y) = -1:=by
 have Z:=Ky E;have kw:=Ky hw;unfold pO;rw[cons_append,cons_append];unfold fu cmpL gh gh gh gh at h;rcases rW v.k w.k with h1|h1|h1
 ·exact xj _ _ w4
 ·have U:kb v=kb w:=UInt8.toNat_inj.1 w4;rw[U,tW];rw[h1.1,if_neg bf] at h;have hk:=Ip E;have h4:v.k=0∨v.k=1∨v.k=2∨v.k=3:=(by omega)
  rcases rW v.n w.n with h2|h2|h2
  ·rcases h4 with e|e|e|e
   ·have:=Fm E e;have:=Fm hw w4;simp_all
   ·have n1:=Kz E e;have n2:=Kz hw w4;rw[FU e,FU w4];exact xj _ _ w4
   ·have u1:=KA I;have u2:=KA O;have b1:=I.n2;have b2:=O.n2;rw[FV e,FV w4];exact Vm _ _ _ _ (by rw[wH,wH]) (by rw[Rl w4,Rl w4];omega)
   have:=Tu E e;have:=Tu hw w4;omega
  ·rw[h2.1,if_neg bf] at h;have h:compareBytes v.s.data.toList w.s.data.toList = -1:=by
    by_cases hz:compareBytes v.s.data.toList w.s.data.toList=0
    ·rw[hz] at h;simp at h
    rw[if_pos hz] at h;exact h
   rcases h4 with e|e|e|e
   ·rw[Fm E e,Fm hw w4] at h;exact absurd h w7
   ·rw[Tq E e,Tq hw w4] at h;exact absurd h w7
   ·rw[Ts E e,Ts hw w4] at h;exact absurd h w7
   rw[FW e,FW w4,append_assoc,append_assoc];exact UL _ _ _ _ h
  rw[h2.1,if_pos w7] at h;exact absurd h w7
 rw[h1.1,if_pos w7] at h;exact absurd h w7
theorem aaf(v w:Vl):fu v w = -1∨fu v w=0∨fu v w=1:=by
 unfold fu cmpL gh gh gh gh;rcases rW v.k w.k with h1|h1|h1<;>rcases rW v.n w.n with h2|h2|h2<;>rcases Rm v.s.data.toList w.s.data.toList with h3|h3|h3
 all_goals (rw[h1.1,h2.1];first|rw[h3.1]|rw[h3])
 all_goals decide
theorem Ty{v w:Vl}(E:cn v=0)(I:v.Ok)(hw:cn w=0)(O:w.Ok)(x y:List UInt8)(h:fu v w≠0):compareBytes (pO v++x) (pO w++y)=fu v w:=by
 rcases aaf v w with e|e|e
 ·rw[e];exact UM E I hw O x y e
 ·exact absurd e h
 rw[e,JT,UM hw O E I y x (by rw[Bg,e])];rfl

variable {G:List (Nat×List Value)} {m:Int}
def cI(n:Int):List D:=[ae n]
theorem acP:∀{i:Nat} (hi:i<l.length),(∀x∈l.take i,x=0)→gh l=gh (l.drop i):=by
 induction l with
 | nil=>intro i hi;simp at hi
 | cons a l ih =>
  intro i hi h;cases i with
  | zero=>rfl
  | succ i =>
   have ha:a=0:=h a bf;show(if a≠0 then a else gh l)=gh (l.drop i);rw[if_neg (by simp[ha])];exact ih (by simpa using hi) (fun x hx=>h x (by simp[hx]))
theorem aeF{i:Nat}(hi:i<l.length)(h:∀x∈l.take i,x=0)(h1:l[i]≠0):gh l=l[i]:=by
 rw[acP hi h,drop_eq_getElem_cons hi];exact if_pos h1
theorem Rn:∀{l:List Int},(∀x∈l,x=0)→gh l=0
 | [],_=>rfl
 | a::l,h=>by
  show(if a≠0 then a else gh l)=0;rw[if_neg (by simp[h a bf]),Rn fun x hx=>h x (by simp[hx])]
theorem take_zero{i:Nat}(hi:i<l.length)(h:∀x∈l.take i,x=0)(h1:l[i]=0):∀x∈l.take (i+1),x=0:=fun x hx=>by
 rw[take_succ_eq_append_getElem hi] at hx;rcases mem_append.1 hx with hx|hx
 ·exact h x hx
 simp only[mem_singleton] at hx;rw[hx];exact h1
theorem UN(x:Int):VP Tryz.prog G 154 [ae x] (cj false):=by
 refine VC.body func154 rfl ntmps154 aR fun X0 w0 aZ=>?_;refine af [0] ?_;refine af [2] ?_;refine aI [] ?_;first|exact⟨rfl,rfl⟩|(refine⟨vb ?_,rfl⟩;simp)
theorem Tz(x y:Int):VP Tryz.prog G 136 [ae x,ae y] (ae (pQ x y)):=by
 refine VC.body func136 rfl ntmps136 aR fun X0 w0 aZ=>?_;refine af [0,1] ?_;refine cJ [0,1,5] (UN x) ?_;refine cJ [0,1,5,6] (UN y) ?_;refine af [0,1,6,11] ?_;refine au ?_ ?_<;>intro aM bD
 ·refine af [12] ?_;refine au ?_ ?_<;>intro aY cy
  ·exact C0
  exact C0
 refine af [0,1,13] ?_;refine au ?_ ?_<;>intro bZ cN
 ·exact C0
 refine af [0,1,16] ?_;refine au ?_ ?_<;>intro cX en
 ·exact C0
 refine af [19] ?_;refine au ?_ ?_<;>intro er fq
 ·exact C0
 refine af [4] ?_;refine aI [] ?_;first|exact⟨rfl,rfl⟩|(refine⟨vi ?_,rfl⟩;unfold pQ;simp_all;done)|(refine⟨vi ?_,rfl⟩;unfold pQ;split<;>(try split)<;>simp_all<;>omega)
theorem age(l:List Int)(hl:l.length≤100):VP Tryz.prog G 135 [av 1 cI l] (ae (gh l)):=by
 refine VC.body func135 rfl ntmps135 aR fun X0 w0 aZ=>?_;have dm:=ec;refine af [0] ?_;refine af [0,3] ?_;refine af [3,6,7,8] ?_;refine eA [3,6,7] (fun aU _ (i:Nat) aH=>(i≤l.length)∧(∀x∈l.take i,x=0)∧aH=(⟨18,(8,ae (i:Nat))::aU,[]⟩:St)) (fun (i:Nat)=>l.length-i) 0 ⟨(Nat.zero_le _),(fun x hx=>by simp at hx),rfl⟩ ?_;rintro i _ ⟨hi,hz,rfl⟩;refine af [3,6,7,8,9] ?_;refine au ?_ ?_<;>intro aM bD
 ·have aa:i<l.length:=(by omega)
  refine af [3,5,6,7,8] ?_;refine af [3,5,6,7,8,14] ?_;refine au ?_ ?_<;>intro aY cy
  ·have aW:gh l=l[i]:=aeF aa hz vI;refine af [2] ?_;exact oC
  refine cm [3,6,7,8] ?_;refine⟨(i+1),_,cD,aK,w4,(take_zero aa hz vI),rfl⟩
 have aW:gh l=0:=Rn (by rw[take_of_length_le w4] at hz;exact hz);refine af [2] ?_;exact ur
theorem aeG(a b:ByteArray):VP Tryz.prog G 137 [bw a,bw b] (ae (compareBytes a.data.toList b.data.toList)) :=
 VP.Tf (P:=Tryz.prog) (G:=G) (f:=137) (vs:=[.string a,.string b]) (v:=.int .i64 (compareBytes a.data.toList b.data.toList)) fun w _ =>
  (Tryz.strings_Compare a b w).mono fun e w' ⟨h1,h2⟩=>⟨h1,h2 ▸ Below.refl _ _⟩
theorem Pq(a b:Vl)(ha:a.Ok)(hb:b.Ok):VP Tryz.prog G 104 [.agg (cV a),.agg (cV b)] (ae (fu a b)):=by
 refine VC.body func104 rfl ntmps104 aR fun X0 w0 aZ=>?_;unfold cV;refine bY ?_;refine OD.box (ds:=[_,_,_]) ap rfl rfl ot rfl rfl (fun b2=>?_);refine OD.box (ds:=[_,_,_]) ap rfl rfl ot rfl rfl (fun b3=>?_);refine an 22 [2,3] ?_;refine cZ [4] ?_;refine dh (Tz a.k b.k) ?_;refine dh (Tz a.n b.n) ?_;refine dh (aeG a.s b.s) ?_;refine dh (age (cmpL a b) (by show 3≤100;decide)) ?_;refine bG ?_;exact nT
def mJ(a b:Vl):Int:=if cn a≠0 then cn a else cn b
def LV(a b:Vl):D:=.dI [ae (if mJ a b≠0 then 0 else fu a b),ae (mJ a b)]
theorem TA(a b:Vl):VP Tryz.prog G 101 [.agg (cV a),.agg (cV b)] (ae (mJ a b)):=by
 refine VC.body func101 rfl ntmps101 aR fun X0 w0 aZ=>?_;unfold cV;refine bY ?_;refine OD.box (ds:=[_,_,_]) ap rfl rfl ot rfl rfl (fun b2=>?_);refine OD.box (ds:=[_,_,_]) ap rfl rfl ot rfl rfl (fun b3=>?_);refine an 13 [2,3] ?_;refine cJ [3,5] (pB a) ?_;refine af [3,5,9] ?_;refine au ?_ ?_<;>intro aM bD
 ·refine af [4] ?_;refine aI [] ?_;refine⟨vi ?_,rfl⟩;unfold mJ;simp_all
 refine cJ [4] (pB b) ?_;refine aI [] ?_;refine⟨vi ?_,rfl⟩;unfold mJ;simp_all
theorem aag(a b:Vl)(ha:a.Ok)(hb:b.Ok):VP Tryz.prog G 89 [.agg (cV a),.agg (cV b)] (LV a b):=by
 refine VC.body func89 rfl ntmps89 aR fun X0 w0 aZ=>?_;unfold cV LV;refine bY ?_;refine OD.box (ds:=[_,_,_]) ap rfl rfl ot rfl rfl (fun b2=>?_);refine OD.box (ds:=[_,_,_]) ap rfl rfl ot rfl rfl (fun b3=>?_);refine an 16 [2,3] ?_;refine cJ [2,3,6] (TA a b) ?_;refine af [2,3,6,11] ?_;refine au ?_ ?_<;>intro aM bD
 ·refine af [4,5] ?_;refine aI [] ?_;first|(simp_all;done)|(refine⟨?_,rfl⟩;simp_all;done)
 refine cJ [4,5] (Pq a b ha hb) ?_;refine aI [] ?_;first|(simp_all;done)|(refine⟨?_,rfl⟩;simp_all;done)

end Go.Proofs.YtdgichenhdikgaaGreatDoor.Cd
namespace Go.Proofs.YtdgichenhdikgaaGreatDoor.Pc
open List
open Go.Proofs.Tryz
open Go.RowKit V Pk Vl Go.Proofs.YtdgichenhdikgaaGreatDoor.Nm
variable {i:Nat}
def typesC:List Value:=[.string ⟨#[]⟩,.string ⟨#[66,79,79,76]⟩,.string ⟨#[73,78,84]⟩,.string ⟨#[84,69,88,84]⟩]
structure cz where
 n:ByteArray
 k:Int
variable {l:List cz}
def cC(c:cz):List D:=[bw c.n,ae c.k]
theorem lM(c:cz):(cC c).length=2:=rfl
theorem agf(c:cz):(cC c).all V.one=true:=rfl
def nl(pre:List cz)(c:cz):Int :=
 if cY c.n≠0 then cY c.n else if c.k<1∨c.k>3 then 2 else if (pre.any fun d=>d.n.toList==c.n.toList)=true then 9 else 0
def q8:List cz→List cz→Int
 | _,[]=>0
 | pre,c::r=>if nl pre c≠0 then nl pre c else q8 (pre++[c]) r
def fI(l:List cz):Int:=if l.length<1∨l.length>6 then 1 else q8 [] l
theorem aa6(hi:i<l.length)(h:nl (l.take i) l[i]=0):q8 (l.take i) (l.drop i)=q8 (l.take (i+1)) (l.drop (i+1)):=by
 rw[drop_eq_getElem_cons hi,take_succ_eq_append_getElem hi];exact if_neg (by simp[h])
theorem I6(hi:i<l.length)(h:nl (l.take i) l[i]≠0):q8 (l.take i) (l.drop i)=nl (l.take i) l[i]:=by
 rw[drop_eq_getElem_cons hi];exact if_pos h
theorem acQ(hi:¬i<l.length):q8 (l.take i) (l.drop i)=0:=by
 rw[drop_of_length_le w4];rfl
theorem I4(S:List ah):S.Perm (S++[]):=by rw[append_nil]
variable {G:List (Nat×List Value)}
theorem Jc(ls:List cz)(g:Nat)(E:List D)(S:List ah)(p:cz→Bool)(fm:∀args w,(callFunc g args).run Tryz.prog w = .ok (.enter g args) w)(hp:∀x∈ls,VC Tryz.prog G g (.agg (cC x)::E) S (fun r S'=>r=cj (p x)∧S'=S))(hlen:ls.length≤1000000):VC Tryz.prog G 106 [av 2 cC ls,.ez (.func g) E] S (fun r S'=>r=ae (dU p ls)∧S'=S):=by
 refine VC.body func106 rfl ntmps106 aR fun X0 w0 aZ=>?_;unfold cC at hp;exact Xf
theorem ZT(ls:List cz)(g:Nat)(E:List D)(S:List ah)(p:cz→Bool)(fm:∀args w,(callFunc g args).run Tryz.prog w = .ok (.enter g args) w)(hp:∀x∈ls,VC Tryz.prog G g (.agg (cC x)::E) S (fun r S'=>r=cj (p x)∧S'=S))(hlen:ls.length≤1000000):VC Tryz.prog G 112 [av 2 cC ls,.ez (.func g) E] S (fun r S'=>r=cj (ls.any p)∧S'=S):=by
 refine VC.body func112 rfl ntmps112 aR fun X0 w0 aZ=>?_;refine aD 1 ?_;refine OD.wk (Wk.dV (n:=9) (l':=[(0,_),(1,_)]) (S':=S) rfl mQ fk) ?_;refine OD.nil ?_;refine aD 2 ?_;refine OD.call ap rfl rfl rfl call106 (Jc ls g E S p fm hp hlen) ⟨tJ rfl lk,tJ rfl lk,trivial⟩ (I4 _) ?_;rintro _ S2 ⟨rfl,iE⟩;rw[iE];clear iE;refine aE 2 ?_;refine OD.wk (Wk.dV (n:=9) (l':=[(4,_)]) (S':=S) rfl mQ fk) ?_;refine OD.nil ?_;refine aI S ?_;refine⟨?_,rfl⟩;rw[Q9]
theorem aeH(h x:cz)(b:Nat):VC Tryz.prog G 113 [.agg (cC h),dL b] [⟨b,69,2,cC x⟩] (fun r S=>r=cj (h.n.toList==x.n.toList)∧S=[⟨b,69,2,cC x⟩]):=by
 refine VC.body func113 rfl ntmps113 aR fun X0 w0 aZ=>?_;unfold cC;refine bY ?_;refine OD.box (ds:=[_,_]) ap rfl rfl ot rfl rfl (fun b2=>?_);refine an 9 [1,2] ?_;refine af [3] ?_;refine aI [⟨b,69,2,cC x⟩] ?_;exact⟨rfl,rfl⟩
theorem aeI(hm:(3,marksC)∈G)(hw:(1,wordsC)∈G)(l:List cz)(hl:l.length≤maxLen)(aQ:∀c∈l,c.n.size≤maxLen):VP Tryz.prog G 67 [av 2 cC l] (ae (fI l)):=by
 refine VC.body func67 rfl ntmps67 aR fun X0 w0 aZ=>?_;have dm:=ec;refine af [0] ?_;refine aD 4 ?_;refine bV 9 (fun Z O=>?_) (fun Z O=>?_)
 ·refine bg [0,13] ?_;refine eI ?_;have aW:fI l=1:=if_pos w4;exact xY
 refine bg [0,13] ?_;refine au ?_ ?_<;>intro aM bD
 ·have aW:fI l=1:=if_pos w4;exact xY
 have h16:¬(l.length<1∨l.length>6):=(by omega)
 have E:fI l=q8 (l.take 0) (l.drop 0):=if_neg h16;refine af [0,14,15,16] ?_;refine eA [0,14,15] (fun aU _ (i:Nat) aH=>(i≤l.length)∧(fI l=q8 (l.take i) (l.drop i))∧aH=(⟨41,(16,ae (i:Nat))::aU,[]⟩:St)) (fun (i:Nat)=>l.length-i) 0 ⟨(Nat.zero_le _),E,rfl⟩ ?_;rintro i _ ⟨hi,hinv,rfl⟩;refine af [0,14,15,16,17] ?_;refine au ?_ ?_<;>intro aY cy
 ·have aa:i<l.length:=(by omega)
  refine aD 3 ?_;refine OD.alloc (ds:=[_,_]) ap rfl rfl zeroValue69 rfl (fun b4=>?_);refine aE 1 ?_;refine aP 0 [_,_] sizeOf69 ?_;refine an 41 [0,3,4,14,15,16] ?_;refine cJ [0,3,4,5,14,15,16] (tK hm hw l[i].n (aQ _ (getElem_mem aa))) ?_;refine af [0,3,4,5,14,15,16,25] ?_;refine au ?_ ?_<;>intro bZ cN
  ·have hne:cY l[i].n≠0:=(by simpa using bZ)
   have hf:nl (l.take i) l[i]=cY l[i].n:=if_pos hne;have aW:fI l=cY l[i].n:=(by rw[hinv,I6 aa (by rw[hf];exact hne),hf])
   refine af [2] ?_;exact oC
  have gJ:¬cY l[i].n≠0:=(by simpa using bZ)
  refine aD 4 ?_;refine bV 30 (fun U I=>?_) (fun U I=>?_)
  ·refine bg [0,3,4,14,15,16,34] ?_;refine eI ?_;exact V9
  refine bg [0,3,4,14,15,16,34] ?_;refine au ?_ ?_<;>intro cX en
  ·exact V9
  have hk:¬(l[i].k<1∨l[i].k>3):=(by omega)
  refine aD 2 ?_;refine bN (ey (l:=0) rfl ot trivial ⟨_,ot⟩ (by first|exact oO lM (fun h=>by cases h) runUnderlying27 sizeOf69 w4|exact oQ (fun h=>by cases h) runUnderlying27 sizeOf69 w4|exact n8 (fun _=>rfl) (fun h=>by cases h) runUnderlying27 sizeOf69 w4 w4)) ?_;refine bN (pA (ds:=[_]) rfl ⟨ot,trivial⟩) ?_;refine OD.call ap rfl rfl rfl call112 (ZT (l.take i) 113 [dL b4] _ (fun d=>d.n.toList==l[i].n.toList) call113 (fun h _=>aeH h l[i] b4) oW) ⟨tJ rfl lk,tJ rfl lk,trivial⟩ (ko (k:=0) rfl) ?_;rintro _ S2 ⟨rfl,iE⟩;rw[iE];clear iE;refine an 41 [0,14,15,16,39] ?_;refine au ?_ ?_<;>intro er fq
  ·have hf:nl (l.take i) l[i]=9:=(by unfold nl;rw[if_neg gJ,if_neg hk,if_pos er])
   have aW:fI l=9:=(by rw[hinv,I6 aa (by rw[hf];decide),hf])
   refine af [2] ?_;exact oC
  have hf:nl (l.take i) l[i]=0:=(by unfold nl;rw[if_neg gJ,if_neg hk,if_neg (by rw[er];simp)])
  have jm:=hinv.trans (aa6 aa hf);refine cm [0,14,15,16] ?_;refine⟨(i+1),_,cD,aK,w4,jm,rfl⟩
 have aW:fI l=0:=(by rw[hinv];exact acQ w4)
 refine af [2] ?_;exact ur

end Go.Proofs.YtdgichenhdikgaaGreatDoor.Pc
namespace Go.Proofs.YtdgichenhdikgaaGreatDoor.Pa
open List
open Go.Proofs.Tryz
open Go.RowKit V Pk Vl Go.Proofs.YtdgichenhdikgaaGreatDoor.Nm Pc
structure cU where
 kind:Int
 table:ByteArray
 ay:List cz
 row:List Vl
 names:List ByteArray
 count:Bool
 aj:List aX
 order:ByteArray
 down:Bool
 ij:Int
 set:ByteArray
 bQ:List aX
def gX:cU:=⟨0,⟨#[]⟩,[],[],[],false,[],⟨#[]⟩,false,-1,⟨#[]⟩,[]⟩

end Go.Proofs.YtdgichenhdikgaaGreatDoor.Pa
namespace Go.Proofs.YtdgichenhdikgaaGreatDoor.Pa







open List
open Go.Proofs.Tryz
open Go.RowKit V Pk Vl Go.Proofs.YtdgichenhdikgaaGreatDoor.Nm Pc
variable {G:List (Nat×List Value)}
variable {α:Type}
theorem EG{ls:List (List α)}{j:Nat}(h:j<ls.length):(ls.take (j+1)).flatten=(ls.take j).flatten++ls[j]:=by
 rw[take_succ_eq_append_getElem h,flatten_append,flatten_cons,flatten_nil,append_nil]
theorem OY{ls:List (List α)}{j:Nat}(h:j<ls.length):((ls.take (j+1)).flatten).length=((ls.take j).flatten).length+ls[j].length:=by rw[EG h,length_append]
theorem O2(ls:List (List α))(j:Nat):((ls.take j).flatten).length≤ls.flatten.length:=by
 conv=>rhs;rw[←take_append_drop j ls,flatten_append,length_append]
 omega
theorem aa7{e sz b cap:Nat}(h:cap≤maxLen):bn e sz [] 0 (some ⟨b,0,none⟩) cap [⟨b,e,cap*sz,[]⟩]:=.inr ⟨b,rfl,Nat.zero_le _,h,rfl⟩

end Go.Proofs.YtdgichenhdikgaaGreatDoor.Pa
namespace Go.Proofs.YtdgichenhdikgaaGreatDoor.Pa



open List
open Go.Proofs.Tryz
open Go.RowKit V Pk Vl Go.Proofs.YtdgichenhdikgaaGreatDoor.Nm Pc
variable {G:List (Nat×List Value)}
variable {α:Type} {i n:Nat} {ts h:List (List Tk)} {o:aX}
def agh:List ByteArray:=[⟨#[]⟩,⟨#[66,79,79,76]⟩,⟨#[73,78,84]⟩,⟨#[84,69,88,84]⟩]

theorem lO(t:Tk):(cT t).all V.one=true:=rfl
def bF(s:ByteArray):Tk:=⟨1,s,0⟩
def dX(s:ByteArray):Tk:=⟨4,s,0⟩
def cK(l:List Tk):List D:=[av 3 cT l]
theorem gl(l:List Tk):(cK l).length=1:=rfl
theorem pI(l:List Tk):(cK l).all V.one=true:=rfl
theorem tF{β:Type}(f:α→β){l:List α}(hi:i<l.length):(l.take i).map f++[f l[i]]=(l.take (i+1)).map f:=by rw[take_succ_eq_append_getElem hi,map_append];rfl
theorem JU{β:Type}(f:α→β){l:List α}(hi:l.length≤i):(l.take i).map f=l.map f:=by rw[take_of_length_le hi]
theorem mZ(s:ByteArray):VP Tryz.prog G 78 [bw s] (.agg (cT (dX s))):=by
 refine VC.body func78 rfl ntmps78 aR fun X0 w0 aZ=>?_;exact z130
theorem qs(s:ByteArray):VP Tryz.prog G 117 [bw s] (.agg (cT (bF s))):=by
 refine VC.body func117 rfl ntmps117 aR fun X0 w0 aZ=>?_;exact z130
theorem A8:(Tryz.prog.info? 137).map (fun i=>(i.zero,i.size,i.bytes))=some (some (.agg #[.int .i64 0,.string ⟨#[]⟩,.int .i64 0]),3,32):=by kernel_rfl
theorem za(l:List ByteArray)(hl:l.length≤10):VC Tryz.prog G 73 [av 1 cS l] [] (gm cT 137 3 (l.map bF)):=by
 refine VC.body func73 rfl ntmps73 aR fun X0 w0 aZ=>?_;have dm:=ec;refine af [0] ?_;refine bY ?_;refine bg [0,3] ?_;refine af [3,6,7,8] ?_;refine CD.block ?_;refine mV (fun (E:Nat×Option Addr×Nat×List ah) aH=>match E with|(i,O,U,Sa)=>(i≤l.length)∧(bn 137 3 (((l.take i).map bF).flatMap cT) ((l.take i).map bF).length O U Sa)∧aH=(⟨19,[(3,aN O ((l.take i).map bF).length U),(6,av 1 cS l),(7,ae (l.length:Nat)),(8,ae (i:Nat))],(Sa)⟩:St)) (fun (E:Nat×Option Addr×Nat×List ah)=>match E with|(i,O,U,Sa)=>l.length-i) (0,none,0,[]) ⟨(Nat.zero_le _),(bn.cast iv j6),rfl⟩ (aK (h:=by repeat (first|exact trivial|refine⟨(by (repeat (first|exact fD|(apply fV;focus (first|rfl|(simp;done)|(congr 2;omega)|(apply eK;exact tF bF aa)|(apply eK;simp;done)))|(apply fH;focus rfl)));done),?_⟩))) ?_;rintro⟨i,O,U,Sa⟩ _ ⟨hi,oG,rfl⟩;refine af [3,6,7,8,9] ?_;refine au ?_ ?_<;>intro aM bD
 ·have aa:i<l.length:=(by omega)
  refine af [3,5,6,7,8] ?_;refine dM 2 ?_;refine dQ call117 (qs l[i]) ?_;refine ei (bW 0 [_]) [.int .i64 0,.string ⟨#[]⟩,.int .i64 0] [_,_,_] zeroValue137 runUnderlying98 sizeOf137 (fun HC=>?_);refine fw 0 15 3 1 ?_;refine OD.ek (ls:=((l.take i).map bF)) (new:=[bF l[i]]) (Sq:=Sa) iI lO ap rfl rfl underlying98 A8 rfl w7 ot oG (de (A:=[])) ot bf (by have dm:=ec;(try simp only[length_append,length_cons,length_nil,length_map,length_take]);omega) (by have dm:=ec;(try simp only[length_append,length_cons,length_nil,length_map,length_take]);omega) (fun Z I ajf ajg=>?_);refine OD.perm (dZ (S1:=[⟨Z,137,I*3,flatMap cT (((l.take i).map bF)++[bF l[i]])⟩]) (A:=[])) ?_;refine an 19 [3,6,7,8] ?_;refine cm [3,6,7,8] ?_;refine⟨((i+1),(some ⟨Z,0,none⟩),I,[⟨Z,137,I*3,flatMap cT (((l.take i).map bF)++[bF l[i]])⟩]),_,cD,(aK (h:=by repeat (first|exact trivial|refine⟨(by (repeat (first|exact fD|(apply fV;focus (first|rfl|(simp;done)|(congr 2;omega)|(apply eK;exact tF bF aa)|(apply eK;simp;done)))|(apply fH;focus rfl)));done),?_⟩))),w4,(bn.cast (bE ajf ajg) (by exact tF bF aa)),rfl⟩
 have eZ:=JU bF (show l.length≤i by omega);refine af [2] ?_;refine aI _ ?_;exact gm.cast (gm.mk oG) eZ
theorem r9(l:List ByteArray)(hl:l.length≤10):VP Tryz.prog G 73 [av 1 cS l] (.list 3 ((l.map bF).flatMap cT) (l.map bF).length):=VC.wX iI (za l hl)
def kY(ts:List (List Tk)):Nat→List Tk
 | 0=>[dX ⟨#[40]⟩]
 | i+1=>kY ts i++(if i>0 then [dX ⟨#[44]⟩] else [])++ts.getD i []
def lu(ts:List (List Tk)):List Tk:=kY ts ts.length++[dX ⟨#[41]⟩]
theorem Bz{ts:List (List Tk)}(h:∀x∈ts,x.length≤10):∀i,(kY ts i).length≤1+11*i
 | 0=>Nat.le_refl _
 | i+1=>by
  have E:=Bz h i;have h2:(ts.getD i []).length≤10:=by
   rw[getD_eq_getElem?_getD];cases hx:ts[i]? with
   | none=>exact Nat.zero_le _
   | some x=>exact h x (mem_of_getElem? hx)
  have h3:(if i>0 then [dX ⟨#[44]⟩] else []).length≤1:=(by split<;>simp)
  unfold kY;rw[length_append,length_append];omega
theorem I5(hi:i<ts.length)(h:0<i):(kY ts i++[dX ⟨#[44]⟩])++ts[i]=kY ts (i+1):=by
 rw[kY,if_pos h,getD_eq_getElem?_getD,getElem?_eq_getElem hi];rfl
theorem Iz(hi:i<ts.length)(h:¬0<i):kY ts i++ts[i]=kY ts (i+1):=by
 rw[kY,if_neg h,append_nil,getD_eq_getElem?_getD,getElem?_eq_getElem hi];rfl
theorem TB(ts:List (List Tk))(hl:ts.length≤10)(ME:∀x∈ts,x.length≤10):VP Tryz.prog G 74 [av 1 cK ts] (.list 3 ((lu ts).flatMap cT) (lu ts).length):=by
 refine VC.body func74 rfl ntmps74 aR fun X0 w0 aZ=>?_;have dm:=ec;refine af [0] ?_;refine bY ?_;refine dQ call78 (mZ ⟨#[40]⟩) ?_;refine ei (bW 0 [_]) [.int .i64 0,.string ⟨#[]⟩,.int .i64 0] [_,_,_] zeroValue137 runUnderlying98 sizeOf137 (fun b7=>?_);refine OD.perm (dZ (S1:=[⟨b7,137,1*3,flatMap cT ([dX ⟨#[40]⟩])⟩]) (A:=[])) ?_;refine an 29 [0,3] ?_;refine af [3,8,9,10] ?_;refine CD.block ?_;refine mV (fun (E:Nat×Option Addr×Nat×List ah) aH=>match E with|(i,I,O,Sa)=>(i≤ts.length)∧(bn 137 3 ((kY ts i).flatMap cT) (kY ts i).length I O Sa)∧aH=(⟨29,[(3,aN I (kY ts i).length O),(8,av 1 cK ts),(9,ae (ts.length:Nat)),(10,ae (i:Nat))],(Sa)⟩:St)) (fun (E:Nat×Option Addr×Nat×List ah)=>match E with|(i,I,O,Sa)=>ts.length-i) (0,(some ⟨b7,0,none⟩),1,[⟨b7,137,1*3,flatMap cT ([dX ⟨#[40]⟩])⟩]) ⟨(Nat.zero_le _),(bn.cast (bE (g:=cT) (sz:=3) (e:=137) (ls:=[dX ⟨#[40]⟩]) (Nat.le_refl _) (show 1≤maxLen by decide)) (by rfl)),rfl⟩ (aK (h:=by repeat (first|exact trivial|refine⟨(by (repeat (first|exact fD|(apply fV;focus (first|rfl|(simp;done)|(congr 2;omega)|(apply eK;first|exact I5 aa w4|exact Iz aa w4)|(apply eK;rfl)|(apply eK;simp;done)))|(apply fH;focus rfl)));done),?_⟩))) ?_;rintro⟨i,I,O,Sa⟩ _ ⟨hi,oG,rfl⟩;refine af [3,8,9,10,11] ?_;refine au ?_ ?_<;>intro aM bD
 ·have aa:i<ts.length:=(by omega)
  refine af [3,4,5,8,9,10] ?_;refine af [3,5,8,9,10,16] ?_;refine au ?_ ?_<;>intro aY cy
  ·refine dM 1 ?_;refine dQ call78 (mZ ⟨#[44]⟩) ?_;refine ei (bW 0 [_]) [.int .i64 0,.string ⟨#[]⟩,.int .i64 0] [_,_,_] zeroValue137 runUnderlying98 sizeOf137 (fun b19=>?_);refine fw 0 19 3 1 ?_;refine OD.ek (ls:=(kY ts i)) (new:=[dX ⟨#[44]⟩]) (Sq:=Sa) iI lO ap rfl rfl underlying98 A8 rfl w7 ot oG (de (A:=[])) ot bf vz vz (fun NX U ajh aji=>?_);refine OD.perm (dZ (S1:=[⟨NX,137,U*3,flatMap cT ((kY ts i)++[dX ⟨#[44]⟩])⟩]) (A:=[])) ?_;refine an 29 [3,5,8,9,10] ?_;refine dM 2 ?_;refine OD.pz (ls:=((kY ts i)++[dX ⟨#[44]⟩])) (new:=ts[i]) (Sq:=[⟨NX,137,U*3,flatMap cT ((kY ts i)++[dX ⟨#[44]⟩])⟩]) iI lO ap rfl rfl underlying98 A8 rfl w7 runUnderlying98 sizeOf137 ot (bE ajh aji) (de (A:=[])) ot vz vz (fun VM VN Xz VO=>?_);exact Xy
  refine dM 2 ?_;refine OD.pz (ls:=(kY ts i)) (new:=ts[i]) (Sq:=Sa) iI lO ap rfl rfl underlying98 A8 rfl w7 runUnderlying98 sizeOf137 ot oG (de (A:=[])) ot vz vz (fun VM VN Xz VO=>?_);exact Xy
 have sQ:i=ts.length:=(by omega)
 have nq:kY ts i++[dX ⟨#[41]⟩]=lu ts:=(by unfold lu;rw[←sQ])
 refine aD 1 ?_;refine dQ call78 (mZ ⟨#[41]⟩) ?_;refine ei (bW 0 [_]) [.int .i64 0,.string ⟨#[]⟩,.int .i64 0] [_,_,_] zeroValue137 runUnderlying98 sizeOf137 (fun b27=>?_);refine fw 0 27 3 1 ?_;refine OD.ek (ls:=(kY ts i)) (new:=[dX ⟨#[41]⟩]) (Sq:=Sa) iI lO ap rfl rfl underlying98 A8 rfl w7 ot oG (de (A:=[])) ot bf vz vz (fun NT Z ajj ajk=>?_);refine OD.perm (dZ (S1:=[⟨NT,137,Z*3,flatMap cT ((kY ts i)++[dX ⟨#[41]⟩])⟩]) (A:=[])) ?_;refine an 29 [2] ?_;refine CD.gN (t:=2) (Sq:=[⟨NT,137,Z*3,flatMap cT ((kY ts i)++[dX ⟨#[41]⟩])⟩]) lk (bE ajj ajk) (cr iI _) (de (A:=[])) ?_;refine aI [] ?_;rw[nq];exact⟨rfl,rfl⟩
def iJ(v:Vl):List Tk :=
 if v.k=0 then [bF ⟨#[78,85,76,76]⟩]
 else if v.k=1 then [bF (if v.n=0 then ⟨#[70,65,76,83,69]⟩ else ⟨#[84,82,85,69]⟩)]
 else if v.k=3 then [⟨3,v.s,0⟩]
 else if v.n<0 then [dX ⟨#[45]⟩,⟨2,⟨#[]⟩,-v.n⟩] else [⟨2,⟨#[]⟩,v.n⟩]
def mW(v:Vl):Prop:=(v.k=1→v.n=0∨v.n=1)∧-9223372036854775807≤v.n∧v.n≤9223372036854775807
theorem P3(v:Vl):0<(iJ v).length∧(iJ v).length≤2:=by
 unfold iJ;repeat' split
 all_goals exact⟨by simp,by simp⟩
def Ga:List ByteArray:=[⟨#[]⟩,⟨#[]⟩,⟨#[]⟩,⟨#[]⟩,⟨#[]⟩,⟨#[]⟩,⟨#[61]⟩,⟨#[60]⟩,⟨#[43]⟩,⟨#[45]⟩,⟨#[42]⟩]
def zF(k:Int):Tk:=if k=3 then bF ⟨#[65,78,68]⟩ else if k=4 then bF ⟨#[79,82]⟩ else dX (Ga.getD k.toNat ⟨#[]⟩)
theorem ahz{j:Nat}(h:j<11):(Ga.map fun s=>D.v (.string s))[j*1]?=some (bw (Ga[j]'h)):=by
 rw[Nat.mul_one,getElem?_map,getElem?_eq_getElem h];rfl
theorem O3(v:Vl)(h:mW v):VP Tryz.prog G 75 [.agg (cV v)] (.list 3 ((iJ v).flatMap cT) (iJ v).length):=by
 refine VC.body func75 rfl ntmps75 aR fun X0 w0 aZ=>?_;obtain⟨h1,h2,h3⟩:=h;unfold cV;refine bY ?_;refine OD.box (ds:=[_,_,_]) ap rfl rfl ot rfl rfl (fun b1=>?_);refine an 42 [1] ?_;refine af [1,3] ?_;refine au ?_ ?_<;>intro aM bD
 ·refine cJ [2] (r9 [⟨#[78,85,76,76]⟩] Ap) ?_;exact Hf
 refine af [1,9] ?_;refine au ?_ ?_<;>intro aY cy
 ·have dP:v.k=1:=(by simpa using aY)
  obtain⟨j,hj,I⟩:∃j:Nat,v.n=(j:Int)∧j<2:=(by (rcases h1 dP with h|h;exact⟨0,h,by decide⟩;exact⟨1,h,by decide⟩))
  rw[hj];refine cZ [2] ?_;refine NG (g:=cS) ([⟨#[70,65,76,83,69]⟩,⟨#[84,82,85,69]⟩]) ?_;refine aS 3 ?_ (h:=by exact(cW (mk:=Op.load 9) rfl ot (by exact qu (i:=j) jl isAgg9 (by show j<2;omega) rfl)));refine dh (r9 [([⟨#[70,65,76,83,69]⟩,⟨#[84,82,85,69]⟩]:List ByteArray)[j]'(by show j<2;omega)] Ap) ?_;refine bG ?_;exact Hf
 refine af [1,20] ?_;refine au ?_ ?_<;>intro bZ cN
 ·refine aD 3 ?_;refine ei (bW 0 [_]) [.int .i64 0,.string ⟨#[]⟩,.int .i64 0] [_,_,_] zeroValue137 runUnderlying98 sizeOf137 (fun E=>?_);refine OD.perm (dZ (S1:=[⟨E,137,1*3,flatMap cT ([(⟨3,v.s,0⟩:Tk)])⟩]) (A:=[_])) ?_;refine an 42 [2] ?_;refine CD.gN (t:=2) (Sq:=[⟨E,137,1*3,flatMap cT ([(⟨3,v.s,0⟩:Tk)])⟩]) lk (bE (g:=cT) (sz:=3) (e:=137) (ls:=[(⟨3,v.s,0⟩:Tk)]) (Nat.le_refl _) (show 1≤maxLen by decide)) (cr iI _) (de (A:=[_])) ?_;exact Hf
 refine af [1,28] ?_;refine au ?_ ?_<;>intro cX en
 ·refine cZ [2] ?_;refine dh (mZ ⟨#[45]⟩) ?_;refine aS 2 ?_ (h:=by exact(EV rfl ot (Ks (wrap_i64 w4 w4))));refine bG ?_;exact Hf
 refine aD 3 ?_;refine ei (bW 0 [_]) [.int .i64 0,.string ⟨#[]⟩,.int .i64 0] [_,_,_] zeroValue137 runUnderlying98 sizeOf137 (fun vN=>?_);refine OD.perm (dZ (S1:=[⟨vN,137,1*3,flatMap cT ([(⟨2,⟨#[]⟩,v.n⟩:Tk)])⟩]) (A:=[_])) ?_;refine an 42 [2] ?_;refine CD.gN (t:=2) (Sq:=[⟨vN,137,1*3,flatMap cT ([(⟨2,⟨#[]⟩,v.n⟩:Tk)])⟩]) lk (bE (g:=cT) (sz:=3) (e:=137) (ls:=[(⟨2,⟨#[]⟩,v.n⟩:Tk)]) (Nat.le_refl _) (show 1≤maxLen by decide)) (cr iI _) (de (A:=[_])) ?_;refine aI [] ?_;refine⟨?_,rfl⟩;unfold iJ;first|(rw[if_pos bD];first|done|rfl)|(rw[if_neg bD,if_pos dP,hj];rcases j with _|_|j<;>first|rfl|omega)|(rw[if_neg bD,if_neg cy,if_pos cN];first|done|rfl)|(rw[if_neg bD,if_neg cy,if_neg cN,if_pos w4,show -v.n=0-v.n by omega];first|done|rfl)|(rw[if_neg bD,if_neg cy,if_neg cN,if_neg w4];first|done|rfl)
theorem aah(k:Int)(h:k=3∨k=4∨6≤k∧k≤10):VP Tryz.prog G 119 [ae k] (.agg (cT (zF k))):=by
 refine VC.body func119 rfl ntmps119 aR fun X0 w0 aZ=>?_;refine bY ?_;refine OD.alloc (ds:=[_,_,_]) ap rfl rfl zeroValue137 rfl (fun b2=>?_);refine an 14 [0,2] ?_;refine af [0,2,3] ?_;refine af [0,2,3,4] ?_;refine au ?_ ?_<;>intro aM bD
 ·refine bY ?_;refine dQ call117 (qs ⟨#[65,78,68]⟩) ?_;exact XF
 refine af [0,2,7] ?_;refine au ?_ ?_<;>intro aY cy
 ·refine bY ?_;refine dQ call117 (qs ⟨#[79,82]⟩) ?_;exact XF
 have l7:¬k=3:=(by simpa using aM)
 have xZ:¬k=4:=(by simpa using aY)
 obtain⟨j,rfl⟩:∃j:Nat,k=(j:Int):=⟨k.toNat,by omega⟩
 have hj:j<11:=(by omega)
 refine bY ?_;refine bN (Eo (pl:=[(6,_),(7,_),(8,_),(9,_),(10,_)]) (ds:=[_,_,_,_,_,_,_,_,_,_,_]) rfl zeroValue215 runUnderlying215 sizeOf9 ⟨rfl,bI,rfl,bI,rfl,bI,rfl,bI,rfl,bI,trivial⟩ rfl rfl) ?_;refine aE 1 ?_;refine bN (Z5 (j:=j) rfl ot ot runUnderlying215 sizeOf9 isAgg9 rfl hj (ahz hj)) ?_;refine dQ call78 (mZ (Ga[j]'hj)) ?_;refine aP 0 [_,_,_] sizeOf137 ?_;refine an 14 [2] ?_;refine aI [] ?_;refine⟨?_,rfl⟩;unfold zF;first|(rw[if_neg l7,if_neg xZ,show((j:Nat):Int).toNat=j from rfl,getD_eq_getElem?_getD,getElem?_eq_getElem hj];rfl)|(rw[if_pos xR];rfl)|(rw[if_neg xR,if_pos vI];rfl)

def Du(q:List Tk):List D:=[av 3 cT q]
theorem O8:(Tryz.prog.info? 137).map (fun i=>(i.zero,i.size,i.bytes))=some (some (.agg #[.int .i64 0,.string ⟨#[]⟩,.int .i64 0]),3,32):=by kernel_rfl
theorem aa8(n:Nat)(h0:0<n)(hn:n≤100000):VC Tryz.prog G 118 [cf,ae (n:Nat)] [] (fun r S=>∃b cap,cap≤maxLen∧r=aN (some ⟨b,0,none⟩) 0 cap∧S=[⟨b,137,cap*3,[]⟩]):=by
 refine VC.body func118 rfl ntmps118 aR fun X0 w0 aZ=>?_;refine af [0,1] ?_;refine af [0,1,6] ?_;refine au ?_ ?_<;>intro aM bD
 ·exact absurd aM um
 refine cZ [0,1] ?_;refine aS 2 ?_ (h:=by exact(EE rfl rfl ot runUnderlying98));refine aS 1 ?_ (h:=by exact(cW (mk:=fun y=>.call {callee:=.builtin .len,args:=#[y],argTypes:=#[98]}) rfl ot (Tb rfl runUnderlying98)));refine bG ?_;refine af [0,1,16] ?_;refine au ?_ ?_<;>intro aY cy
 ·refine dM 2 ?_;refine bN (EE rfl rfl ot runUnderlying98) ?_;refine bN (Em rfl ot rfl ⟨_,_,ot,rfl⟩ runUnderlying98 sizeOf137) ?_;refine aE 1 ?_;refine OD.acK (m:=n) (sz:=3) ap rfl rfl underlying98 underlying3 O8 rfl w7 ot (Eq.trans ot (congrArg (fun z=>D.v (.int .i64 z)) (show((n:Nat):Int)-(0-0)=((n:Nat):Int) by omega))) h0 Gl w4 (fun b cap h1 h2=>?_);refine aE 1 ?_;refine bN (cW (mk:=fun y=>.call {callee:=.builtin .len,args:=#[y],argTypes:=#[98]}) rfl ot (Tb rfl runUnderlying98)) ?_;refine bN (ey (l:=0) (h:=0) rfl ot trivial ⟨_,ot⟩ (by first|exact oQ (fun h=>by cases h) runUnderlying98 sizeOf137 w4|exact n8 (fun _=>rfl) (fun h=>by cases h) runUnderlying98 sizeOf137 w4 w4)) ?_;refine an 27 [0] ?_;refine af [4] ?_;refine aI [⟨b,137,cap*3,[]⟩] ?_;exact⟨b,cap,h2,rfl,rfl⟩
 exact absurd aY (by simp at aY;omega)
theorem ZU(ls:List (List Tk))(Yy:ls.length≤1000)(h0:0<ls.flatten.length)(hn:ls.flatten.length≤100000):VC Tryz.prog G 77 [av 1 Du ls] [] (fun r S=>∃ad cap,r=aN ad ls.flatten.length cap∧bn 137 3 (ls.flatten.flatMap cT) ls.flatten.length ad cap S):=by
 refine VC.body func77 rfl ntmps77 aR fun X0 w0 aZ=>?_;refine af [0] ?_;refine af [0,3] ?_;refine af [0,3,9,10,11] ?_;refine CD.block ?_;refine mV (fun (j:Nat) aH=>(j≤ls.length)∧aH=(⟨36,[(0,av 1 Du ls),(3,ae ((((ls.take j).flatten).length:Nat):Int)),(9,av 1 Du ls),(10,ae (ls.length:Nat)),(11,ae (j:Nat))],[]⟩:St)) (fun (j:Nat)=>ls.length-j) 0 ⟨(Nat.zero_le _),rfl⟩ (aK (h:=by repeat (first|exact trivial|refine⟨(by (repeat (first|exact fD|(apply fV;focus (first|rfl|(congr 2;omega)|(simp;done)))|(apply fH;focus rfl)));done),?_⟩))) ?_;rintro j _ ⟨hj,rfl⟩;refine af [0,3,9,10,11,12] ?_;refine au ?_ ?_<;>intro aM bD
 ·have aa:j<ls.length:=(by simp at aM;omega)
  have O:=OY aa;have hle:=O2 ls (j+1);refine af [0,3,5,9,10,11] ?_;refine cZ [0,3,9,10,11] ?_;refine aS 3 ?_ (h:=by exact(dj (r:=.int .i64 ((((ls.take (j+1)).flatten).length:Nat):Int)) rfl ot ot (kr (by rw[show((((ls.take j).flatten).length:Nat):Int)+(ls[j].length:Nat)=((((ls.take (j+1)).flatten).length:Nat):Int) by omega];exact wrap_i64 w4 w4))));refine bG ?_;refine af [0,3,9,10,11,20] ?_;refine au ?_ ?_<;>intro aY cy
  ·exact absurd aY (by simp at aY;omega)
  refine cm [0,3,9,10,11] ?_;refine⟨(j+1),_,cD,(aK (h:=by repeat (first|exact trivial|refine⟨(by (repeat (first|exact fD|(apply fV;focus (first|rfl|(congr 2;omega)|(simp;done)))|(apply fH;focus rfl)));done),?_⟩))),w4,rfl⟩
 obtain rfl:j=ls.length:=(by simp at aM;omega)
 rw[take_length];refine aD 1 ?_;refine OD.call ap rfl rfl rfl call118 (aa8 ls.flatten.length h0 hn) ⟨bI,ot,trivial⟩ (Perm.refl _) ?_;rintro _ _ ⟨b,cp,xW,rfl,rfl⟩;refine OD.perm (Perm.refl _) ?_;refine an 36 [0,6] ?_;refine af [6,25,26,27] ?_;refine CD.block ?_;refine mV (fun (E:Nat×Option Addr×Nat×List ah) aH=>match E with|(j,dg,cR,Sx)=>(j≤ls.length)∧(bn 137 3 (((ls.take j).flatten).flatMap cT) ((ls.take j).flatten).length dg cR Sx)∧aH=(⟨36,[(6,aN dg ((ls.take j).flatten).length cR),(25,av 1 Du ls),(26,ae (ls.length:Nat)),(27,ae (j:Nat))],(Sx)⟩:St)) (fun (E:Nat×Option Addr×Nat×List ah)=>match E with|(j,dg,cR,Sx)=>ls.length-j) (0,(some ⟨b,0,none⟩),cp,[⟨b,137,cp*3,[]⟩]) ⟨(Nat.zero_le _),(bn.cast (aa7 xW) (by rfl)),rfl⟩ (aK (h:=by repeat (first|exact trivial|refine⟨(by (repeat (first|exact fD|(apply fV;focus (first|rfl|(simp;done)|(congr 2;omega)|(apply eK;rw[EG aa])|(apply eK;rfl)|(apply eK;simp;done)))|(apply fH;focus rfl)));done),?_⟩))) ?_;rintro⟨j,dg,cR,Sx⟩ _ ⟨hj,dW,rfl⟩;refine af [6,25,26,27,28] ?_;refine au ?_ ?_<;>intro bZ cN
 ·have aa:j<ls.length:=(by simp at bZ;omega)
  have O:=OY aa;have hle:=O2 ls (j+1);refine af [6,8,25,26,27] ?_;refine dM 2 ?_;refine OD.pz (ls:=((ls.take j).flatten)) (new:=ls[j]) (Sq:=Sx) iI lO ap rfl rfl underlying98 O8 rfl w7 runUnderlying98 sizeOf137 ot dW (de (A:=[])) ot Gl w4 (fun U Z S33 ajl=>?_);refine OD.perm (dZ (A:=[])) ?_;refine an 36 [6,25,26,27] ?_;refine cm [6,25,26,27] ?_;refine⟨((j+1),U,Z,S33),_,cD,(aK (h:=by repeat (first|exact trivial|refine⟨(by (repeat (first|exact fD|(apply fV;focus (first|rfl|(simp;done)|(congr 2;omega)|(apply eK;rw[EG aa])|(apply eK;rfl)|(apply eK;simp;done)))|(apply fH;focus rfl)));done),?_⟩))),w4,(bn.cast ajl (by rw[EG aa])),rfl⟩
 obtain rfl:j=ls.length:=(by simp at bZ;omega)
 refine af [2] ?_;refine aI Sx ?_;have I:=dW;rw[take_length] at I;exact⟨dg,cR,by rw[take_length],I⟩
theorem EH(ls:List (List Tk))(E:ls.length≤1000)(h0:0<ls.flatten.length)(hn:ls.flatten.length≤100000):VP Tryz.prog G 77 [av 1 Du ls] (av 3 cT ls.flatten):=VC.wX iI (ZU ls E h0 hn)
def sI(o:aX)(a b:List Tk):List Tk :=
 if o.k=1 then iJ o.v else if o.k=2 then [bF o.nm]
 else if o.k=5 then [[dX ⟨#[40]⟩,bF ⟨#[78,79,84]⟩],a,[dX ⟨#[41]⟩]].flatten
 else if o.k=11 then [[dX ⟨#[40]⟩],a,[bF ⟨#[73,83]⟩,bF ⟨#[78,85,76,76]⟩],[dX ⟨#[41]⟩]].flatten
 else [[dX ⟨#[40]⟩],a,[zF o.k],b,[dX ⟨#[41]⟩]].flatten
def eL(h:List (List Tk))(o:aX):Nat:=h.length-(bP o.k).toNat
def om(h:List (List Tk))(o:aX):List (List Tk):=h.take (eL h o)++[sI o (h.getD (eL h o) []) (h.getD (eL h o+1) [])]
def q9(l:List aX):List Tk:=(l.foldl om []).getD 0 []
theorem aeJ{h:Int}(he:fg h o=0):1≤o.k∧o.k≤11∧iS o.v=0∧bP o.k≤h:=by
 unfold fg at he;split at he
 ·cases he
 split at he
 ·exact absurd he tY
 split at he
 ·cases he
 split at he
 ·rename_i h4;exact absurd he h4.2
 split at he
 ·cases he
 exact⟨by omega,by omega,by omega,by omega⟩
theorem aeK{l:List aX}{h:Int}(hi:i<l.length)(he:fJ h (l.drop i)=0):fg h l[i]=0:=by
 rw[drop_eq_getElem_cons hi,fJ] at he;split at he
 ·assumption
 exact he
theorem UO{v:Vl}(h:iS v=0)(h1:-9223372036854775808≤v.n)(h2:v.n≤9223372036854775807):mW v:=by
 unfold iS cn at h;split at h
 ·cases h
 have hn:¬(v.k=2∧v.n = -9223372036854775808):=(by assumption)
 repeat' split at h
 all_goals first|(exfalso;omega)|(unfold mW;refine⟨?_,?_,h2⟩<;>omega)
theorem Ro(hp:bP o.k≤(h.length:Int)):((om h o).length:Int)=h.length+(1-bP o.k):=by
 have:=tI o.k;unfold om eL;rw[length_append,length_take];simp only[length_cons,length_nil];omega
theorem A5(h:List (List Tk))(n:Nat):h.flatten.length=(h.take n).flatten.length+(h.drop n).flatten.length:=by
 conv=>lhs;rw[←take_append_drop n h,flatten_append,length_append]
theorem uJ:(h.getD n []).length≤(h.drop n).flatten.length∧(h.getD n []).length+(h.getD (n+1) []).length≤(h.drop n).flatten.length:=by
 by_cases hn:n<h.length
 ·rw[drop_eq_getElem_cons hn];have e1:h.getD n []=h[n]:=(by rw[getD_eq_getElem?_getD,getElem?_eq_getElem hn];rfl)
  rw[e1,flatten_cons,length_append];refine⟨by omega,?_⟩;by_cases iU:n+1<h.length
  ·rw[drop_eq_getElem_cons iU,flatten_cons,length_append];have e2:h.getD (n+1) []=h[n+1]:=(by rw[getD_eq_getElem?_getD,getElem?_eq_getElem iU];rfl)
   rw[e2];omega
  have e2:h.getD (n+1) []=[]:=(by rw[getD_eq_getElem?_getD,getElem?_eq_none w4];rfl)
  rw[e2];simp only[length_nil];omega
 have e1:h.getD n []=[]:=(by rw[getD_eq_getElem?_getD,getElem?_eq_none w4];rfl)
 have e2:h.getD (n+1) []=[]:=(by rw[getD_eq_getElem?_getD,getElem?_eq_none w4];rfl)
 rw[e1,e2];exact⟨by simp,by simp⟩
theorem TC(o:aX)(a b:List Tk):(sI o a b).length≤a.length+b.length+5∧0<(sI o a b).length:=by
 have:=P3 o.v;unfold sI;repeat' split
 all_goals first|exact⟨by omega,by omega⟩|(simp only[flatten_cons,flatten_nil,length_append,length_cons,length_nil];exact⟨by omega,by omega⟩)
theorem P4:(om h o).flatten.length≤h.flatten.length+5:=by
 have h1:=A5 h (eL h o);have h2:=(uJ (h:=h) (n:=eL h o)).2;have h3:=(TC o (h.getD (eL h o) []) (h.getD (eL h o+1) [])).1;unfold om;rw[flatten_append,length_append];simp only[flatten_cons,flatten_nil,append_nil];omega
theorem aa9{l:List aX}(hi:i<l.length):(l.take (i+1)).foldl om []=om ((l.take i).foldl om []) l[i]:=by
 rw[take_succ_eq_append_getElem hi,foldl_append];rfl
theorem Fp{e sz cap:Nat}{cs:List D}{ad:Option Addr}{S:List ah}(h:bn e sz cs n ad cap S)(hn:0<n):∃b,ad=some ⟨b,0,none⟩∧n≤cap∧cap≤maxLen∧S=[⟨b,e,cap*sz,cs⟩]:=by
 rcases h with ⟨h1,_⟩|h
 ·omega
 exact h
theorem mF{h:List α}{d:α}(hn:n<h.length):h.getD n d=h[n]:=by rw[getD_eq_getElem?_getD,getElem?_eq_getElem hn];rfl
theorem aai:(Tryz.prog.info? 98).map (fun i=>(i.zero,i.size,i.bytes))=some (some (.slice none 0 0),1,24):=by kernel_rfl
theorem Pr(l:List aX)(hl:l.length≤40)(he:fJ 0 l=0)(hr:∀o∈l,-9223372036854775808≤o.v.n∧o.v.n≤9223372036854775807):VP Tryz.prog G 79 [av 5 cO l] (.list 3 ((q9 l).flatMap cT) (q9 l).length):=by
 refine VC.body func79 rfl ntmps79 aR fun X0 w0 aZ=>?_;have dm:=ec;refine af [0] ?_;refine bY ?_;refine bg [0,3] ?_;refine af [3,8,9,10] ?_;refine CD.block ?_;refine mV (fun (kJ:Nat×List (List Tk)×Option Addr×Nat×List ah) aH=>match kJ with|(i,H,AN,ke,Sh)=>(i≤l.length)∧(H=(l.take i).foldl om [])∧(fJ ((H).length:Int) (l.drop i)=0)∧((H).length≤i)∧((H).flatten.length≤5*i)∧(bn 98 1 ((H).flatMap cK) (H).length AN ke Sh)∧aH=(⟨90,[(3,aN AN (H).length ke),(8,av 5 cO l),(9,ae (l.length:Nat)),(10,ae (i:Nat))],(Sh)⟩:St)) (fun (kJ:Nat×List (List Tk)×Option Addr×Nat×List ah)=>match kJ with|(i,H,AN,ke,Sh)=>l.length-i) (0,[],none,0,[]) ⟨(Nat.zero_le _),rfl,he,(Nat.le_refl _),(Nat.le_refl _),(bn.cast iv (by rfl)),rfl⟩ (aK (h:=by repeat (first|exact trivial|refine⟨(by (repeat (first|exact fD|(apply fV;focus (first|rfl|(simp;done)|(congr 2;omega)|(apply eK;rw[hT];rfl)|(apply eK;rfl)|(apply eK;simp;done)))|(apply fH;focus rfl)));done),?_⟩))) ?_;rintro⟨i,H,AN,ke,Sh⟩ _ ⟨hi,hH,hx,hHi,hHf,nR,rfl⟩;refine af [3,8,9,10,11] ?_;refine au ?_ ?_<;>intro aM bD
 ·have aa:i<l.length:=(by simp at aM;omega)
  have AM:=aeK aa hx;obtain⟨dP,Wp,vg,Hr⟩:=aeJ AM;have Ds:=tI l[i].k;have LW:l.length≤40:=hl;have ajm:eL H l[i]≤H.length:=Nat.sub_le _ _;have ajn:=UO vg (hr _ (getElem_mem aa)).1 (hr _ (getElem_mem aa)).2;refine aD 2 ?_;refine OD.alloc (ds:=[_,_,_,_,_]) ap rfl rfl zeroValue43 rfl (fun b5=>?_);refine aP 0 [_,_,_,_,_] sizeOf43 ?_;refine an 90 [3,5,8,9,10] ?_;refine cZ [3,5,6,8,9,10] ?_;refine dh (yU l[i].k) ?_;refine aS 0 ?_ (h:=by exact(dj (r:=.int .i64 (((eL H l[i]):Nat):Int)) rfl ot ot (gj (by rw[show((H.length:Nat):Int)-bP l[i].k=(((eL H l[i]):Nat):Int) by unfold eL;omega];exact wrap_i64 w4 w4))));refine bG ?_;refine af [3,5,6,8,9,10] ?_;refine jB [6,8,9,10] (fun aU _ aH=>∃(Tx:List Tk),∃(ad:Option Addr),∃(cp:Nat),∃(Sx:List ah),(Tx=sI l[i] (H.getD (eL H l[i]) []) (H.getD (eL H l[i]+1) []))∧(bn 98 1 (H.flatMap cK) H.length ad cp Sx)∧aH=(⟨90,(3,aN ad H.length cp)::(7,av 3 cT Tx)::aU,Sx⟩:St)) ?_ ?_
  ·refine af [3,5,6,8,9,10,21] ?_;refine af [3,5,6,8,9,10,21,41] ?_;refine au ?_ ?_<;>intro aY cy
   ·refine ie [3,6,7,8,9,10] ?_;refine dh (O3 l[i].v ajn) ?_;refine bG ?_;refine⟨_,aK,iJ l[i].v,AN,ke,Sh,(by unfold sI;rw[if_pos cy]),nR,rfl⟩
   refine af [3,5,6,8,9,10,21,46] ?_;refine au ?_ ?_<;>intro bZ cN
   ·refine ie [3,6,7,8,9,10] ?_;refine dh (r9 [l[i].nm] Ap) ?_;refine bG ?_;refine⟨_,aK,[bF l[i].nm],AN,ke,Sh,(by unfold sI;rw[if_neg cy,if_pos cN]),nR,rfl⟩
   refine af [3,5,6,8,9,10,21,52] ?_;refine au ?_ ?_<;>intro cX en
   ·have Dv:l[i].k=5:=(by simpa using cX)
    have hp1:bP l[i].k=1:=(by rw[Dv];decide)
    have hg1:=(uJ (h:=H) (n:=eL H l[i])).1;have hg2:=(uJ (h:=H) (n:=eL H l[i])).2;have hg3:=A5 H (eL H l[i]);have U:0<H.length:=(by omega)
    obtain⟨bh,E,I,O,Z⟩:=Fp nR U;subst E Z;have gJ:eL H l[i]<H.length:=(by unfold eL;omega)
    rw[mF gJ] at hg1 hg2;skip;refine ie [3,6,7,8,9,10] ?_;refine dh (mZ ⟨#[40]⟩) ?_;refine dh (qs ⟨#[78,79,84]⟩) ?_;refine aS 4 ?_ (h:=by first|exact(cW (mk:=Op.load 98) rfl ot MW)|exact(cW (mk:=Op.load 98) rfl ot MV)|exact(cW (mk:=Op.load 98) rfl ot MU));refine dh (mZ ⟨#[41]⟩) ?_;refine dh (EH ([[dX ⟨#[40]⟩,bF ⟨#[78,79,84]⟩],H[eL H l[i]],[dX ⟨#[41]⟩]]) M2 Ac Ac) ?_;refine bG ?_;refine⟨_,aK,[[dX ⟨#[40]⟩,bF ⟨#[78,79,84]⟩],H[eL H l[i]],[dX ⟨#[41]⟩]].flatten,(some ⟨bh,0,none⟩),ke,[⟨bh,98,ke*1,H.flatMap cK⟩],(by unfold sI;rw[if_neg cy,if_neg cN,if_pos en,mF gJ]),(bE I O),rfl⟩
   refine af [3,5,6,8,9,10,65] ?_;refine au ?_ ?_<;>intro er fq
   ·have NY:l[i].k=11:=(by simpa using er)
    have hp1:bP l[i].k=1:=(by rw[NY];decide)
    have hg1:=(uJ (h:=H) (n:=eL H l[i])).1;have hg2:=(uJ (h:=H) (n:=eL H l[i])).2;have hg3:=A5 H (eL H l[i]);have U:0<H.length:=(by omega)
    obtain⟨bh,E,I,O,Z⟩:=Fp nR U;subst E Z;have gJ:eL H l[i]<H.length:=(by unfold eL;omega)
    rw[mF gJ] at hg1 hg2;skip;refine ie [3,6,7,8,9,10] ?_;refine dh (mZ ⟨#[40]⟩) ?_;refine aS 4 ?_ (h:=by first|exact(cW (mk:=Op.load 98) rfl ot MW)|exact(cW (mk:=Op.load 98) rfl ot MV)|exact(cW (mk:=Op.load 98) rfl ot MU));refine dh (r9 [⟨#[73,83]⟩,⟨#[78,85,76,76]⟩] (by show 2≤10;decide)) ?_;refine dh (mZ ⟨#[41]⟩) ?_;refine dh (EH ([[dX ⟨#[40]⟩],H[eL H l[i]],[bF ⟨#[73,83]⟩,bF ⟨#[78,85,76,76]⟩],[dX ⟨#[41]⟩]]) M2 Ac Ac) ?_;refine bG ?_;refine⟨_,aK,[[dX ⟨#[40]⟩],H[eL H l[i]],[bF ⟨#[73,83]⟩,bF ⟨#[78,85,76,76]⟩],[dX ⟨#[41]⟩]].flatten,(some ⟨bh,0,none⟩),ke,[⟨bh,98,ke*1,H.flatMap cK⟩],(by unfold sI;rw[if_neg cy,if_neg cN,if_neg en,if_pos fq,mF gJ]),(bE I O),rfl⟩
   have hkb:¬l[i].k=1∧¬l[i].k=2∧¬l[i].k=5∧¬l[i].k=11:=⟨by simpa using aY,by simpa using bZ,by simpa using cX,by simpa using er⟩
   have oD:bP l[i].k=2:=(by unfold bP;rw[if_neg w4,if_neg w4])
   have hg1:=(uJ (h:=H) (n:=eL H l[i])).1;have hg2:=(uJ (h:=H) (n:=eL H l[i])).2;have hg3:=A5 H (eL H l[i]);have U:0<H.length:=(by omega)
   obtain⟨bh,E,I,O,Z⟩:=Fp nR U;subst E Z;have gJ:eL H l[i]<H.length:=(by unfold eL;omega)
   have gv:eL H l[i]+1<H.length:=(by unfold eL;omega)
   rw[mF gJ,mF gv] at hg2;rw[mF gJ] at hg1;refine ie [3,6,7,8,9,10] ?_;refine dh (mZ ⟨#[40]⟩) ?_;refine aS 4 ?_ (h:=by first|exact(cW (mk:=Op.load 98) rfl ot MW)|exact(cW (mk:=Op.load 98) rfl ot MV)|exact(cW (mk:=Op.load 98) rfl ot MU));refine dh (aah l[i].k w4) ?_;refine aS 3 ?_ (h:=by exact(dj (r:=.int .i64 ((((eL H l[i])+1:Nat)):Int)) rfl ot bI (kr (by rw[show(((eL H l[i]):Nat):Int)+1=(((eL H l[i])+1:Nat):Int) by omega];exact wrap_i64 w4 w4))));refine aS 1 ?_ (h:=by first|exact(cW (mk:=Op.load 98) rfl ot (by exact iY (k:=0) (i:=((eL H l[i])+1)) gl rfl rfl rfl isAgg98 gv rfl))|exact(cW (mk:=Op.load 98) rfl ot (by exact iY (k:=1) (i:=((eL H l[i])+1)) gl rfl rfl rfl isAgg98 gv rfl))|exact(cW (mk:=Op.load 98) rfl ot (by exact iY (k:=2) (i:=((eL H l[i])+1)) gl rfl rfl rfl isAgg98 gv rfl)));refine dh (mZ ⟨#[41]⟩) ?_;refine dh (EH ([[dX ⟨#[40]⟩],H[eL H l[i]],[zF l[i].k],H[eL H l[i]+1],[dX ⟨#[41]⟩]]) M2 Ac Ac) ?_;refine bG ?_;refine⟨_,aK,[[dX ⟨#[40]⟩],H[eL H l[i]],[zF l[i].k],H[eL H l[i]+1],[dX ⟨#[41]⟩]].flatten,(some ⟨bh,0,none⟩),ke,[⟨bh,98,ke*1,H.flatMap cK⟩],(by unfold sI;rw[if_neg cy,if_neg cN,if_neg en,if_neg fq,mF gJ,mF gv]),(bE I O),rfl⟩
  rintro _ ⟨Tx,ad,cp,Sx,hT,dW,rfl⟩;have hTl:=TC l[i] (H.getD (eL H l[i]) []) (H.getD (eL H l[i]+1) []);refine dM 3 ?_;refine bN (Zq dW rfl ot ot ot runUnderlying130 sizeOf98 (by unfold eL;omega)) ?_;refine aE 1 ?_;refine ei (bW 0 [_]) [.slice none 0 0] [_] zeroValue98 runUnderlying130 sizeOf98 (fun b84=>?_);refine fw 0 84 1 1 ?_;refine OD.aad (ls:=H) (new:=[Tx]) (n:=eL H l[i]) (Sq:=Sx) gl pI ap rfl rfl underlying130 aai rfl w7 ot dW (de (A:=[])) (by unfold eL;omega) ot bf (by simp only[maxLen,length_cons,length_nil];omega) (by simp only[length_cons,length_nil];omega) (fun HD LX ajo ajp=>?_);refine OD.perm (dZ (S1:=[⟨HD,98,LX*1,flatMap cK (H.take (eL H l[i])++[Tx])⟩]) (A:=[])) ?_;refine an 90 [3,8,9,10] ?_;refine cm [3,8,9,10] ?_;refine⟨((i+1),(om H l[i]),(some ⟨HD,0,none⟩),LX,[⟨HD,98,LX*1,flatMap cK (H.take (eL H l[i])++[Tx])⟩]),_,cD,(aK (h:=by repeat (first|exact trivial|refine⟨(by (repeat (first|exact fD|(apply fV;focus (first|rfl|(simp;done)|(congr 2;omega)|(apply eK;rw[hT];rfl)|(apply eK;rfl)|(apply eK;simp;done)))|(apply fH;focus rfl)));done),?_⟩))),w4,(by rw[hH,←aa9 aa]),(by rw[Ro Hr,←QU aa AM];exact hx),(by have:=Ro Hr;omega),(by have:=P4 (h:=H) (o:=l[i]);omega),(bn.cast (bE ajo ajp) (by rw[hT];rfl)),rfl⟩
 have sQ:l.length≤i:=(by simp at aM;omega)
 have eZ:=hx;rw[P0 sQ] at eZ;have hH1:H.length=1:=(by (split at eZ;omega;cases eZ))
 refine CD.exit ?_;refine CD.seq ?_;obtain⟨bh,E,I,O,Z⟩:=Fp nR (show 0<H.length by omega);subst E Z;have gJ:0<H.length:=(by omega)
 refine ie [2] ?_;refine aS 1 ?_ (h:=by exact(oM (mk:=Op.indexAddr 130) rfl ot bI (by first|exact pD runUnderlying130 sizeOf98 (j:=0) rfl (by first|exact gJ|exact gv)|exact pH runUnderlying130 sizeOf98 (j:=0) rfl (by first|exact gJ|exact gv))));refine aS 0 ?_ (h:=by first|exact(cW (mk:=Op.load 98) rfl ot (by exact iY (k:=0) (i:=0) gl rfl rfl rfl isAgg98 gJ rfl))|exact(cW (mk:=Op.load 98) rfl ot (by exact iY (k:=1) (i:=0) gl rfl rfl rfl isAgg98 gJ rfl))|exact(cW (mk:=Op.load 98) rfl ot (by exact iY (k:=2) (i:=0) gl rfl rfl rfl isAgg98 gJ rfl)));refine bG ?_;refine aI [] ?_;refine⟨?_,rfl⟩;unfold q9;rw[show l.foldl om []=H by rw[hH,take_of_length_le sQ],mF gJ]

end Go.Proofs.YtdgichenhdikgaaGreatDoor.Pa
namespace Go.Proofs.YtdgichenhdikgaaGreatDoor.Pa

open List
open Go.Proofs.Tryz
open Go.RowKit V Pk Vl Go.Proofs.YtdgichenhdikgaaGreatDoor.Nm Pc
variable {G:List (Nat×List Value)}
variable {α:Type} {i:Nat} {E:List ByteArray}
def bX(s:cU):List D:=[ae s.kind,bw s.table,av 2 cC s.ay,av 3 cV s.row,av 1 cS s.names,cj s.count,av 5 cO s.aj,bw s.order,cj s.down,ae s.ij,bw s.set,av 5 cO s.bQ]
def okS(s:cU):Prop:=s.ay.length≤6∧s.row.length≤6∧s.names.length≤6∧s.aj.length≤40∧s.bQ.length≤40

def jQ{α:Type}(f:α→Int):List α→Int
 | []=>0
 | a::r=>if f a≠0 then f a else jQ f r
theorem Rp{f:α→Int}{l:List α}(hi:i<l.length)(h:f l[i]≠0):jQ f (l.drop i)=f l[i]:=by rw[drop_eq_getElem_cons hi,jQ,if_pos h]
theorem Rq{f:α→Int}{l:List α}(hi:i<l.length)(h:f l[i]=0):jQ f (l.drop i)=jQ f (l.drop (i+1)):=by rw[drop_eq_getElem_cons hi,jQ,if_neg (by rw[h];decide)]
theorem P5{f:α→Int}{l:List α}(hi:l.length≤i):jQ f (l.drop i)=0:=by rw[drop_of_length_le hi];rfl
def dO(l:List Vl):Int:=if l.length<1∨l.length>6 then 1 else jQ iS l
def nG(l:List aX):Int:=if l.length=0 then 0 else iR l
def oS(s:cU):Int :=
 if s.names.length>6 then 1 else if s.ij < -1 then 3
 else if (s.count=true∧0<s.names.length)∨(s.down=true∧ji s.order ⟨#[]⟩=true) then 6
 else if jQ cY s.names≠0 then jQ cY s.names else if nG s.aj≠0 then nG s.aj else if ji s.order ⟨#[]⟩=true then 0 else cY s.order
def kN(s h:cU):Bool:=ji s.table h.table&&(((s.ay.length:Int)==(h.ay.length:Int))&&(((s.row.length:Int)==(h.row.length:Int))&&(((s.names.length:Int)==(h.names.length:Int))&&((s.count==h.count)&&(((s.aj.length:Int)==(h.aj.length:Int))&&(ji s.order h.order&&((s.down==h.down)&&((s.ij==h.ij)&&(ji s.set h.set&&((s.bQ.length:Int)==(h.bQ.length:Int)))))))))))
structure lB (s:cU):Prop where
 ok:okS s
 t:s.table.size≤maxLen
 c:∀c∈s.ay,c.n.size≤maxLen
 n:∀x∈s.names,x.size≤maxLen
 o:s.order.size≤maxLen
 e:s.set.size≤maxLen
 r:∀v∈s.row,-9223372036854775808≤v.n∧v.n≤9223372036854775807
 w:∀o∈s.aj,o.nm.size≤maxLen∧-9223372036854775808≤o.v.n∧o.v.n≤9223372036854775807
 x:∀o∈s.bQ,o.nm.size≤maxLen∧-9223372036854775808≤o.v.n∧o.v.n≤9223372036854775807
def kC(l:List aX):List Tk:=if l.length=0 then [] else [⟨#[87,72,69,82,69]⟩].map bF++q9 l
theorem QV(hm:(3,marksC)∈G)(hw:(1,wordsC)∈G)(l:List ByteArray)(hl:l.length≤1000)(hs:∀s∈l,s.size≤maxLen):VP Tryz.prog G 115 [av 1 cS l] (ae (jQ cY l)):=by
 refine VC.body func115 rfl ntmps115 aR fun X0 w0 aZ=>?_;refine af [0] ?_;refine af [6,7,8] ?_;refine eA [6,7] (fun aU _ (i:Nat) aH=>(i≤l.length)∧(jQ cY l=jQ cY (l.drop i))∧aH=(⟨18,(8,ae (i:Nat))::aU,[]⟩:St)) (fun (i:Nat)=>l.length-i) 0 ⟨(Nat.zero_le _),rfl,rfl⟩ ?_;rintro i _ ⟨hi,hx,rfl⟩;refine af [6,7,8,9] ?_;refine au ?_ ?_<;>intro aM bD
 ·have aa:i<l.length:=(by simp at aM;omega)
  refine af [4,6,7,8] ?_;refine cJ [5,6,7,8] (tK hm hw l[i] (hs _ (getElem_mem aa))) ?_;refine af [5,6,7,8,15] ?_;refine au ?_ ?_<;>intro aY cy
  ·have hn:cY l[i]≠0:=(by simpa using aY)
   have eZ:=hx.trans (Rp aa hn);refine af [2] ?_;exact z75
  have h0:cY l[i]=0:=(by simpa using aY)
  refine cm [6,7,8] ?_;refine⟨(i+1),_,cD,aK,w4,(hx.trans (Rq aa h0)),rfl⟩
 have eZ:jQ cY l=0:=hx.trans (P5 um);refine af [2] ?_;exact C2
theorem aeL(l:List Vl)(hl:l.length≤1000):VP Tryz.prog G 68 [av 3 cV l] (ae (dO l)):=by
 refine VC.body func68 rfl ntmps68 aR fun X0 w0 aZ=>?_;have O:(l.length<1∨l.length>6)∨¬(l.length<1∨l.length>6):=(by omega)
 refine af [0] ?_;refine aD 4 ?_;refine bV 9 (fun I E=>?_) (fun I E=>?_)
 ·refine bg [0,13] ?_;refine eI ?_;exact z105
 refine bg [0,13] ?_;refine au ?_ ?_<;>intro aM bD
 ·exact z105
 have hf:dO l=jQ iS l:=if_neg w4;refine af [14,15,16] ?_;refine eA [14,15] (fun aU _ (i:Nat) aH=>(i≤l.length)∧(jQ iS l=jQ iS (l.drop i))∧aH=(⟨26,(16,ae (i:Nat))::aU,[]⟩:St)) (fun (i:Nat)=>l.length-i) 0 ⟨(Nat.zero_le _),rfl,rfl⟩ ?_;rintro i _ ⟨hi,hx,rfl⟩;refine af [14,15,16,17] ?_;refine au ?_ ?_<;>intro aY cy
 ·have aa:i<l.length:=(by simp at aY;omega)
  refine aD 2 ?_;refine OD.alloc (ds:=[_,_,_]) ap rfl rfl zeroValue41 rfl (fun b4=>?_);refine aP 0 [_,_,_] sizeOf41 ?_;refine an 26 [4,14,15,16] ?_;refine cJ [5,14,15,16] (Nm.Pn l[i]) ?_;refine af [5,14,15,16,23] ?_;refine au ?_ ?_<;>intro bZ cN
  ·have hn:iS l[i]≠0:=(by simpa using bZ)
   have eZ:=hf.trans (hx.trans (Rp aa hn));refine af [2] ?_;exact z75
  have h0:iS l[i]=0:=(by simpa using bZ)
  refine cm [14,15,16] ?_;refine⟨(i+1),_,cD,aK,w4,(hx.trans (Rq aa h0)),rfl⟩
 have eZ:dO l=0:=hf.trans (hx.trans (P5 (by simp at aY;omega)));refine af [2] ?_;exact C2
theorem Ez(hm:(3,marksC)∈G)(hw:(1,wordsC)∈G)(l:List aX)(hs:∀o∈l,o.nm.size≤maxLen):VP Tryz.prog G 71 [av 5 cO l] (ae (nG l)):=by
 refine VC.body func71 rfl ntmps71 aR fun X0 w0 aZ=>?_;refine af [0] ?_;refine af [0,5] ?_;refine au ?_ ?_<;>intro aM bD
 ·have eZ:nG l=0:=if_pos um;refine af [2] ?_;exact z75
 have eZ:nG l=iR l:=if_neg um;refine cJ [2] (JR hm hw l hs) ?_;exact C2
theorem acR(hm:(3,marksC)∈G)(hw:(1,wordsC)∈G)(s:cU)(hf:lB s):VP Tryz.prog G 69 [.agg (bX s)] (ae (oS s)):=by
 refine VC.body func69 rfl ntmps69 aR fun X0 w0 aZ=>?_;unfold bX;refine bY ?_;refine OD.box (ds:=[_,_,_,_,_,_,_,_,_,_,_,_]) ap rfl rfl ot rfl rfl (fun b1=>?_);refine an 50 [1] ?_;refine af [1,5] ?_;refine au ?_ ?_<;>intro aM bD
 ·refine af [2] ?_;refine aI [] ?_;exact Xg
 refine af [1,10] ?_;refine au ?_ ?_<;>intro aY cy
 ·refine af [2] ?_;refine aI [] ?_;exact Xg
 refine aD 3 ?_;refine bV 17 (fun xz wV=>?_) (fun xz wV=>?_)
 ·refine aE 6 ?_;refine bV 23 (fun U O=>?_) (fun U O=>?_)
  ·refine bg [1,14] ?_;refine eI ?_;refine af [2] ?_;exact z24
  refine aE 3 ?_;refine bV 26 (fun I E=>?_) (fun I E=>?_)
  ·exact Wc
  refine bg [1,14] ?_;refine fM ?_;exact z20
 refine x4 4 ?_;refine aE 5 ?_;refine bV 26 (fun I E=>?_) (fun I E=>?_)
 ·exact Wc
 refine bg [1,14] ?_;refine fM ?_;refine cJ [1,3] (QV hm hw s.names (by have:=hf.ok.2.2.1;omega) hf.n) ?_;refine af [1,3,36] ?_;refine au ?_ ?_<;>intro cX en
 ·refine af [2] ?_;exact z24
 refine cJ [1,4] (Ez hm hw s.aj (fun o h=>(hf.w o h).1)) ?_;refine af [1,4,42] ?_;refine au ?_ ?_<;>intro er fq
 ·refine af [2] ?_;exact z24
 refine af [1,46] ?_;refine au ?_ ?_<;>intro fx gG
 ·refine cJ [2] (tK hm hw s.order hf.o) ?_;exact z24
 refine af [2] ?_;refine eN ?_;refine⟨vi ?_,rfl⟩;unfold oS ji;simp_all;all_goals (try (intros;(repeat' split)<;>first|rfl|omega))
theorem aeM(s h:cU):VP Tryz.prog G 72 [.agg (bX s),.agg (bX h)] (cj (kN s h)):=by
 refine VC.body func72 rfl ntmps72 aR fun X0 w0 aZ=>?_;unfold bX;refine bY ?_;refine OD.box (ds:=[_,_,_,_,_,_,_,_,_,_,_,_]) ap rfl rfl ot rfl rfl (fun b2=>?_);refine OD.box (ds:=[_,_,_,_,_,_,_,_,_,_,_,_]) ap rfl rfl ot rfl rfl (fun b3=>?_);refine an 90 [2,3] ?_;refine aD 6 ?_;refine bV 10 (fun ajq E=>?_) (fun ajq E=>?_)
 ·refine aE 9 ?_;refine bV 19 (fun LY I=>?_) (fun LY I=>?_)
  ·refine aE 9 ?_;refine bV 28 (fun ajr O=>?_) (fun ajr O=>?_)
   ·refine aE 9 ?_;refine bV 37 (fun ajs U=>?_) (fun ajs U=>?_)
    ·refine aE 4 ?_;refine OD.still gW rfl (dj rfl ot ot (ES underlying4)) ?_;refine aE 2 ?_;refine bV 44 (fun ajt Z=>?_) (fun ajt Z=>?_)
     ·refine aE 9 ?_;refine bV 53 (fun LZ K2=>?_) (fun LZ K2=>?_)
      ·refine aE 7 ?_;refine bV 60 (fun aju K3=>?_) (fun aju K3=>?_)
       ·refine aE 4 ?_;refine OD.still gW rfl (dj rfl ot ot (ES underlying4)) ?_;refine aE 2 ?_;refine bV 67 (fun ajv ahA=>?_) (fun ajv ahA=>?_)
        ·refine aE 7 ?_;refine bV 74 (fun ajw ahB=>?_) (fun ajw ahB=>?_)
         ·refine aE 7 ?_;refine bV 81 (fun ajx ahC=>?_) (fun ajx ahC=>?_)
          ·exact z46
          exact z46
         exact z46
        exact z46
       exact z46
      exact z46
     exact z46
    refine bg [4] ?_;refine eN ?_;exact Nc
   refine bg [4] ?_;refine eN ?_;exact Nc
  refine bg [4] ?_;refine eN ?_;exact Nc
 refine bg [4] ?_;refine eN ?_;refine⟨vb ?_,rfl⟩;unfold kN ji;simp_all;all_goals (try (intros;omega))
theorem ZV:(Tryz.prog.info? 137).map (fun i=>(i.zero,i.size,i.bytes))=some (some (.agg #[.int .i64 0,.string ⟨#[]⟩,.int .i64 0]),3,32):=by kernel_rfl
theorem H8(l:List aX)(hl:l.length≤40)(he:l.length=0∨fJ 0 l=0)(hr:∀o∈l,-9223372036854775808≤o.v.n∧o.v.n≤9223372036854775807)(hsl:(q9 l).length≤1000):VP Tryz.prog G 80 [av 5 cO l] (.list 3 ((kC l).flatMap cT) (kC l).length):=by
 refine VC.body func80 rfl ntmps80 aR fun X0 w0 aZ=>?_;refine af [0] ?_;refine af [0,5] ?_;refine au ?_ ?_<;>intro aM bD
 ·have eZ:kC l=[]:=if_pos um;refine af [2] ?_;refine CD.wk (Wk.tL (t:=2) (sz:=3) lk) ?_;exact z75
 have eZ:kC l=[⟨#[87,72,69,82,69]⟩].map bF++q9 l:=if_neg um;have I:fJ 0 l=0:=he.resolve_left um;refine bY ?_;refine ei (bW 0 [_]) [.string ⟨#[]⟩] [_] zeroValue9 runUnderlying29 sizeOf9 (fun b6=>?_);refine OD.perm (dZ (S1:=[⟨b6,9,1*1,flatMap cS ([⟨#[87,72,69,82,69]⟩])⟩]) (A:=[])) ?_;refine OD.gN (t:=6) (Sq:=[⟨b6,9,1*1,flatMap cS ([⟨#[87,72,69,82,69]⟩])⟩]) lk (bE (g:=cS) (sz:=1) (e:=9) (ls:=[⟨#[87,72,69,82,69]⟩]) (Nat.le_refl _) (show 1≤maxLen by decide)) (cr jl _) (de (A:=[])) ?_;refine OD.call ap rfl rfl rfl call73 (za [⟨#[87,72,69,82,69]⟩] Ap) ⟨ot,trivial⟩ (eO _) ?_;rintro _ S7 ⟨YA,YB,rfl,p8⟩;refine OD.perm (S':=S7) (append_nil _ ▸ Perm.refl _) ?_;refine aE 1 ?_;refine dQ call79 (Pr l hl I hr) ?_;refine OD.pz (ls:=([⟨#[87,72,69,82,69]⟩].map bF)) (new:=(q9 l)) (Sq:=S7) iI lO ap rfl rfl underlying98 ZV rfl w7 runUnderlying98 sizeOf137 ot p8 (de (A:=[])) ot (by simp only[maxLen,length_map,length_cons,length_nil];omega) (by simp only[length_map,length_cons,length_nil];omega) (fun U Z O E=>?_);refine OD.perm (dZ (A:=[])) ?_;refine an 11 [2] ?_;refine CD.gN (t:=2) (Sq:=O) lk E (cr iI _) (de (A:=[])) ?_;exact C2

def rp(s:cU):ByteArray:=if s.kind<7 then s.table else ⟨#[]⟩
def iM(s:cU):cU :=
 if s.kind=1 then {gX with kind:=s.kind,table:=(rp s),ay:=s.ay} else if s.kind=3 then {gX with kind:=s.kind,table:=(rp s),row:=s.row} else if s.kind=4 then {gX with kind:=s.kind,table:=(rp s),names:=s.names,count:=s.count,aj:=s.aj,order:=s.order,down:=s.down,ij:=s.ij} else if s.kind=5 then {gX with kind:=s.kind,table:=(rp s),set:=s.set,bQ:=s.bQ,aj:=s.aj} else if s.kind=6 then {gX with kind:=s.kind,table:=(rp s),aj:=s.aj} else {gX with kind:=s.kind,table:=(rp s)}
def jM(s:cU):Int :=
 if s.kind=1 then fI s.ay else if s.kind=3 then dO s.row else if s.kind=4 then oS s
 else if s.kind=5 then (if cY s.set=0 then (if iR s.bQ=0 then nG s.aj else iR s.bQ) else cY s.set) else if s.kind=6 then nG s.aj else 0
def gZ(s:cU):Int:=if s.kind<7∧cY s.table≠0 then cY s.table else if jM s=0∧kN s (iM s)=false then 6 else jM s
theorem aba(hm:(3,marksC)∈G)(hw:(1,wordsC)∈G)(s:cU)(hf:lB s):VP Tryz.prog G 38 [.agg (bX s)] (ae (gZ s)):=by
 refine VC.body func38 rfl ntmps38 aR fun X0 w0 aZ=>?_;have I:=acR hm hw s hf;unfold bX at I;unfold bX;refine bY ?_;refine OD.box (ds:=[_,_,_,_,_,_,_,_,_,_,_,_]) ap rfl rfl ot rfl rfl (fun b1=>?_);refine an 102 [1] ?_;refine aD 3 ?_;refine OD.alloc (ds:=[_,_,_,_,_,_,_,_,_,_,_,_]) ap rfl rfl zeroValue32 rfl (fun b3=>?_);refine aP 0 [_,_,_,_,_,_,_,_,_,_,_,_] sizeOf32 ?_;refine an 102 [1,3] ?_;refine jB [1,3] (fun aU _ aH=>∃(tb:ByteArray),(tb=rp s)∧(¬(s.kind<7∧cY s.table≠0))∧aH=(⟨102,aU,[⟨b3,32,12,[ae s.kind,bw tb,.list 2 [] 0,.list 3 [] 0,.list 1 [] 0,cj false,.list 5 [] 0,gb,cj false,ae (-1),gb,.list 5 [] 0]⟩,⟨b1,32,12,[ae s.kind,bw s.table,av 2 cC s.ay,av 3 cV s.row,av 1 cS s.names,cj s.count,av 5 cO s.aj,bw s.order,cj s.down,ae s.ij,bw s.set,av 5 cO s.bQ]⟩]⟩:St)) ?_ ?_
 ·refine CD.seq ?_;refine CD.cells (k:=0) (cs':=[_,_,.list 2 [] 0,.list 3 [] 0,.list 1 [] 0,_,.list 5 [] 0,_,_,_,_,.list 5 [] 0]) (S':=[_,_]) rfl (by repeat (first|exact trivial|exact⟨ev,trivial⟩|exact⟨fQ,trivial⟩|refine⟨ev,?_⟩|refine⟨fQ,?_⟩)) rfl ?_;refine cm [1,3,11] ?_;refine au ?_ ?_<;>intro aM bD
  ·refine aD 3 ?_;refine aP 0 [_,_,_,_,_,_,_,_,_,_,_,_] sizeOf9 ?_;refine an 102 [1,3] ?_;refine cJ [1,3,4] (tK hm hw s.table hf.t) ?_;refine af [1,3,4,19] ?_;refine au ?_ ?_<;>intro aY cy
   ·have aW:gZ s=cY s.table:=(by unfold gZ;rw[if_pos ⟨bD,by simpa using aY⟩])
    exact Nj
   have gJ:cY s.table=0:=(by simpa using aY)
   have O:s.table=rp s:=(by unfold rp;rw[if_pos bD])
   have U:¬(s.kind<7∧cY s.table≠0):=fun h=>h.2 gJ;refine CD.skip ?_;refine⟨_,aK,s.table,O,U,rfl⟩
  have O:(⟨#[]⟩:ByteArray)=rp s:=(by unfold rp;rw[if_neg w4])
  have U:¬(s.kind<7∧cY s.table≠0):=fun h=>by omega
  refine CD.skip ?_;refine⟨_,aK,⟨#[]⟩,O,U,rfl⟩
 rintro _ ⟨tb,sS,j8,rfl⟩;refine af [1,3,5] ?_;refine jB [1,3] (fun aU _ aH=>∃(H:cU),∃(e:Int),(H=iM s)∧(e=jM s)∧aH=(⟨102,(5,ae e)::aU,[⟨b3,32,12,[ae H.kind,bw H.table,av 2 cC H.ay,av 3 cV H.row,av 1 cS H.names,cj H.count,av 5 cO H.aj,bw H.order,cj H.down,ae H.ij,bw H.set,av 5 cO H.bQ]⟩,⟨b1,32,12,[ae s.kind,bw s.table,av 2 cC s.ay,av 3 cV s.row,av 1 cS s.names,cj s.count,av 5 cO s.aj,bw s.order,cj s.down,ae s.ij,bw s.set,av 5 cO s.bQ]⟩]⟩:St)) ?_ ?_
 ·refine af [1,3,5,22] ?_;refine af [1,3,5,22,23] ?_;refine au ?_ ?_<;>intro bZ cN
  ·refine aD 3 ?_;refine aP 0 [_,_,_,_,_,_,_,_,_,_,_,_] sizeOf27 ?_;refine an 102 [1,3] ?_;refine ie [1,3,5] ?_;refine dh (aeI hm hw s.ay (by have:=hf.ok.1;simp only[maxLen];omega) hf.c) ?_;refine bG ?_;refine⟨_,aK,{gX with kind:=s.kind,table:=tb,ay:=s.ay},fI s.ay,(by unfold iM;rw[if_pos cN,sS]),(by unfold jM;rw[if_pos cN]),rfl⟩
  refine af [1,3,5,22,31] ?_;refine au ?_ ?_<;>intro cX en
  ·refine aD 3 ?_;refine aP 0 [_,_,_,_,_,_,_,_,_,_,_,_] sizeOf28 ?_;refine an 102 [1,3] ?_;refine ie [1,3,5] ?_;refine dh (aeL s.row (by have:=hf.ok.2.1;omega)) ?_;refine bG ?_;refine⟨_,aK,{gX with kind:=s.kind,table:=tb,row:=s.row},dO s.row,(by unfold iM;rw[if_neg cN,if_pos en,sS]),(by unfold jM;rw[if_neg cN,if_pos en]),rfl⟩
  refine af [1,3,5,22,39] ?_;refine au ?_ ?_<;>intro er fq
  ·refine CD.seq ?_;refine fR 22 (aq (eraseIdx _ 0)) ?_ (fun _ h=>(Sublist.map _ (eraseIdx_sublist _ 0)).subset h);refine az 0 rfl (dr 4) ?_;refine az 1 rfl (dK 1) ?_;refine az 2 rfl (dr 5) ?_;refine az 3 rfl (dK 1) ?_;refine az 4 rfl (dr 6) ?_;refine az 5 rfl (dK 1) ?_;refine az 6 rfl (dr 7) ?_;refine az 7 rfl (dK 1) ?_;refine az 8 rfl (dr 8) ?_;refine az 9 rfl (dK 1) ?_;refine az 10 rfl (dr 9) ?_;refine az 11 rfl (dK 1) ?_;refine az 12 rfl (dr 4) ?_;refine dD.later rfl ?_;refine AD.one (i:=13) aA ?_;refine dV 0 [_,_,_,_,_,_,_,_,_,_,_,_] sizeOf29 ?_;refine cA 14 rfl (dr 5) ?_;refine AD.one (i:=15) aA ?_;refine dV 0 [_,_,_,_,_,_,_,_,_,_,_,_] sizeOf4 ?_;refine cA 16 rfl (dr 6) ?_;refine AD.one (i:=17) aA ?_;refine dV 0 [_,_,_,_,_,_,_,_,_,_,_,_] sizeOf30 ?_;refine cA 18 rfl (dr 7) ?_;refine AD.one (i:=19) aA ?_;refine dV 0 [_,_,_,_,_,_,_,_,_,_,_,_] sizeOf9 ?_;refine cA 20 rfl (dr 8) ?_;refine AD.one (i:=21) aA ?_;refine dV 0 [_,_,_,_,_,_,_,_,_,_,_,_] sizeOf4 ?_;refine eH ?_;refine aE 1 ?_;refine aP 0 [_,_,_,_,_,_,_,_,_,_,_,_] sizeOf3 ?_;refine an 102 [1,3] ?_;refine ie [1,3,5] ?_;refine dh (I) ?_;refine bG ?_;refine⟨_,aK,{gX with kind:=s.kind,table:=tb,names:=s.names,count:=s.count,aj:=s.aj,order:=s.order,down:=s.down,ij:=s.ij},oS s,(by unfold iM;rw[if_neg cN,if_neg en,if_pos fq,sS]),(by unfold jM;rw[if_neg cN,if_neg en,if_pos fq]),rfl⟩
  refine af [1,3,5,22,61] ?_;refine au ?_ ?_<;>intro fx gG
  ·refine CD.seq ?_;refine fR 10 (aq (eraseIdx _ 0)) ?_ (fun _ h=>(Sublist.map _ (eraseIdx_sublist _ 0)).subset h);refine az 0 rfl (dr 10) ?_;refine az 1 rfl (dK 1) ?_;refine az 2 rfl (dr 11) ?_;refine az 3 rfl (dK 1) ?_;refine az 4 rfl (dr 6) ?_;refine az 5 rfl (dK 1) ?_;refine az 6 rfl (dr 10) ?_;refine dD.later rfl ?_;refine AD.one (i:=7) aA ?_;refine dV 0 [_,_,_,_,_,_,_,_,_,_,_,_] sizeOf9 ?_;refine cA 8 rfl (dr 11) ?_;refine AD.one (i:=9) aA ?_;refine dV 0 [_,_,_,_,_,_,_,_,_,_,_,_] sizeOf30 ?_;refine eH ?_;refine aE 1 ?_;refine aP 0 [_,_,_,_,_,_,_,_,_,_,_,_] sizeOf30 ?_;refine an 102 [1,3] ?_;refine cJ [1,3,5] (tK hm hw s.set hf.e) ?_;refine af [1,3,5,76] ?_;refine au ?_ ?_<;>intro gU kU
   ·have Z:cY s.set=0:=(by simpa using gU)
    refine ie [1,3,5] ?_;refine dh (JR hm hw s.bQ (fun o h=>(hf.x o h).1)) ?_;refine bG ?_;refine af [1,3,5,81] ?_;refine au ?_ ?_<;>intro gq lA
    ·have NZ:iR s.bQ=0:=(by simpa using gq)
     refine ie [1,3,5] ?_;refine dh (Ez hm hw s.aj (fun o h=>(hf.w o h).1)) ?_;refine bG ?_;refine⟨_,aK,{gX with kind:=s.kind,table:=tb,set:=s.set,bQ:=s.bQ,aj:=s.aj},nG s.aj,MX,(by unfold jM;rw[if_neg cN,if_neg en,if_neg fq,if_pos gG,if_pos Z,if_pos NZ]),rfl⟩
    have NZ:¬iR s.bQ=0:=(by simpa using gq)
    refine CD.skip ?_;refine⟨_,aK,{gX with kind:=s.kind,table:=tb,set:=s.set,bQ:=s.bQ,aj:=s.aj},iR s.bQ,MX,(by unfold jM;rw[if_neg cN,if_neg en,if_neg fq,if_pos gG,if_pos Z,if_neg NZ]),rfl⟩
   have Z:¬cY s.set=0:=(by simpa using gU)
   refine af [1,3,5,81] ?_;refine au ?_ ?_<;>intro gq lA
   ·exact absurd gq (by simp[Z])
   refine CD.skip ?_;refine⟨_,aK,{gX with kind:=s.kind,table:=tb,set:=s.set,bQ:=s.bQ,aj:=s.aj},cY s.set,MX,(by unfold jM;rw[if_neg cN,if_neg en,if_neg fq,if_pos gG,if_neg Z]),rfl⟩
  refine af [1,3,5,85] ?_;refine au ?_ ?_<;>intro pZ E
  ·refine aD 3 ?_;refine aP 0 [_,_,_,_,_,_,_,_,_,_,_,_] sizeOf30 ?_;refine an 102 [1,3] ?_;refine ie [1,3,5] ?_;refine dh (Ez hm hw s.aj (fun o h=>(hf.w o h).1)) ?_;refine bG ?_;refine⟨_,aK,{gX with kind:=s.kind,table:=tb,aj:=s.aj},nG s.aj,(by unfold iM;rw[if_neg cN,if_neg en,if_neg fq,if_neg gG,if_pos E,sS]),(by unfold jM;rw[if_neg cN,if_neg en,if_neg fq,if_neg gG,if_pos E]),rfl⟩
  refine CD.skip ?_;refine⟨_,aK,{gX with kind:=s.kind,table:=tb},0,(by unfold iM;rw[if_neg cN,if_neg en,if_neg fq,if_neg gG,if_neg E,sS]),(by unfold jM;rw[if_neg cN,if_neg en,if_neg fq,if_neg gG,if_neg E]),rfl⟩
 rintro _ ⟨H,e,hH,Dw,rfl⟩;refine CD.seq ?_;refine CD.seq ?_;have Vn:=aeM (G:=G) s H;unfold bX at Vn;refine dM 3 ?_;refine bV 95 (fun Wq ahD=>?_) (fun Wq ahD=>?_)
 ·refine aE 2 ?_;refine OD.gM gW rfl rfl rfl call72 (Vn) ⟨ot,ot,trivial⟩ ?_;refine an 102 [5,100] ?_;refine au ?_ ?_<;>intro Dx L0
  ·have aW:gZ s=6:=(by unfold gZ;rw[if_neg j8,if_pos ⟨by rw[←Dw];simpa using Wq,by rw[←hH];simpa using Dx⟩])
   refine cm [5] ?_;exact Nj
  have aW:gZ s=e:=(by unfold gZ;rw[if_neg j8,if_neg (by rw[←Dw,←hH];exact(fun h=>by obtain⟨h1,h2⟩:=h;simp_all)),Dw])
  exact Nj
 refine bg [5,100] ?_;refine fM ?_;have aW:gZ s=e:=(by unfold gZ;rw[if_neg j8,if_neg (by rw[←Dw,←hH];exact(fun h=>by obtain⟨h1,h2⟩:=h;simp_all)),Dw])
 refine af [2] ?_;refine eN ?_;exact⟨by first|rw[aW]|rw[aW];rfl,rfl⟩

theorem P6:∀(l:List aX) (H:List (List Tk)),(l.foldl om H).flatten.length≤H.flatten.length+5*l.length
 | [],H=>by simp
 | o::r,H=>by
  have h1:=P6 r (om H o);have h2:=P4 (h:=H) (o:=o);rw[foldl_cons,length_cons];omega
theorem EI(l:List aX):(q9 l).length≤5*l.length:=by
 have h:=P6 l [];have h2:=(uJ (h:=l.foldl om []) (n:=0)).1;have h3:=A5 (l.foldl om []) 0;simp only[List.take_zero,flatten_nil,length_nil] at h h3;unfold q9;omega
theorem P7(l:List aX):(kC l).length≤5*l.length+1:=by
 have h:=EI l;unfold kC;split
 ·simp
 rw[length_append,length_map];simp only[length_cons,length_nil];omega
def jS(ns:List ByteArray):Nat→List Tk
 | 0=>[]
 | i+1=>jS ns i++(if i>0 then [dX ⟨#[44]⟩] else [])++[bF (ns.getD i ⟨#[]⟩)]
theorem I2(E:List ByteArray):∀i,(jS E i).length≤2*i
 | 0=>Nat.le_refl _
 | i+1=>by
  have I:=I2 E i;have h3:(if i>0 then [dX ⟨#[44]⟩] else []).length≤1:=(by split<;>simp)
  unfold jS;rw[length_append,length_append];simp only[length_cons,length_nil];omega
theorem Iw(hi:i<E.length)(h:0<i)(X:List Tk):((X++jS E i)++[dX ⟨#[44]⟩])++[bF E[i]]=X++jS E (i+1):=by
 rw[jS,if_pos h,mF hi];simp only[append_assoc]
theorem Ih(hi:i<E.length)(h:¬0<i)(X:List Tk):(X++jS E i)++[bF E[i]]=X++jS E (i+1):=by
 rw[jS,if_neg h,mF hi];simp only[append_assoc,append_nil]
def zx(s:cU):List Tk:=if s.count=true then [bF ⟨#[67,79,85,78,84]⟩,dX ⟨#[40]⟩,dX ⟨#[42]⟩,dX ⟨#[41]⟩] else if s.names.length=0 then [dX ⟨#[42]⟩] else jS s.names s.names.length
def Cx(s:cU):List Tk:=if ji s.order ⟨#[]⟩=true then [] else [⟨#[79,82,68,69,82]⟩,⟨#[66,89]⟩,s.order].map bF++(if s.down=true then [bF ⟨#[68,69,83,67]⟩] else [])
def L1(s:cU):List Tk:=if 0≤s.ij then [bF ⟨#[76,73,77,73,84]⟩,⟨2,⟨#[]⟩,s.ij⟩] else []
def BZ(s:cU):List Tk:=((([⟨#[83,69,76,69,67,84]⟩].map bF++zx s)++[⟨#[70,82,79,77]⟩,s.table].map bF++kC s.aj)++Cx s)++L1 s
theorem rV:(Tryz.prog.info? 137).map (fun i=>(i.zero,i.size,i.bytes))=some (some (.agg #[.int .i64 0,.string ⟨#[]⟩,.int .i64 0]),3,32):=by kernel_rfl
theorem Zr : ∀ w, ((#[{ name := "Kind", type := 3, offset := 0, embedded := false, tag := "", pkgPath := "", byteOffset := 0 }, { name := "Text", type := 9, offset := 1, embedded := false, tag := "", pkgPath := "", byteOffset := 8 }, { name := "Int", type := 3, offset := 2, embedded := false, tag := "", pkgPath := "", byteOffset := 24 }] : Array Field).mapM fun f => do pure (f.offset, ← sizeOf f.type) : Sem (Array (Nat × Nat))).run Tryz.prog w = .ok #[(0, 1), (1, 1), (2, 1)] w := fun w => by simp [sizeOf3, sizeOf9]
theorem ZW(s:cU)(hf:lB s)(N0:s.aj.length=0∨fJ 0 s.aj=0):VP Tryz.prog G 76 [.agg (bX s)] (.list 3 ((BZ s).flatMap cT) (BZ s).length):=by
 refine VC.body func76 rfl ntmps76 aR fun X0 w0 aZ=>?_;have dm:=ec;have h6:=hf.ok.2.2.1;have qe:=hf.ok.2.2.2.1;have tq:=P7 s.aj;have N1:=EI s.aj;unfold bX;refine bY ?_;refine OD.box (ds:=[_,_,_,_,_,_,_,_,_,_,_,_]) ap rfl rfl ot rfl rfl (fun b1=>?_);refine an 84 [1] ?_;refine bY ?_;refine ei (bW 0 [_]) [.string ⟨#[]⟩] [_] zeroValue9 runUnderlying29 sizeOf9 (fun b6=>?_);refine OD.perm (dZ (S1:=[⟨b6,9,1*1,flatMap cS ([⟨#[83,69,76,69,67,84]⟩])⟩]) (A:=[_])) ?_;refine OD.gN (t:=6) (Sq:=[⟨b6,9,1*1,flatMap cS ([⟨#[83,69,76,69,67,84]⟩])⟩]) lk (bE (g:=cS) (sz:=1) (e:=9) (ls:=[⟨#[83,69,76,69,67,84]⟩]) (Nat.le_refl _) (show 1≤maxLen by decide)) (cr jl _) (de (A:=[_])) ?_;refine OD.call ap rfl rfl rfl call73 (za [⟨#[83,69,76,69,67,84]⟩] Ap) ⟨ot,trivial⟩ (eO _) ?_;rintro _ S7 ⟨YA,YB,rfl,p8⟩;refine OD.perm (dZ (A:=[_])) ?_;refine an 84 [1,3] ?_;refine jB [1] (fun aU _ aH=>∃(Q:List Tk),∃(ad:Option Addr),∃(cp:Nat),∃(Sx:List ah),(Q=[⟨#[83,69,76,69,67,84]⟩].map bF++zx s)∧(bn 137 3 (Q.flatMap cT) Q.length ad cp Sx)∧(Q.length≤20)∧aH=(⟨84,(3,aN ad Q.length cp)::aU,(⟨b1,32,12,[ae s.kind,bw s.table,av 2 cC s.ay,av 3 cV s.row,av 1 cS s.names,cj s.count,av 5 cO s.aj,bw s.order,cj s.down,ae s.ij,bw s.set,av 5 cO s.bQ]⟩::Sx)⟩:St)) ?_ ?_
 ·refine af [1,3,28] ?_;refine au ?_ ?_<;>intro aM bD
  ·refine dM 1 ?_;refine dQ call117 (qs ⟨#[67,79,85,78,84]⟩) ?_;refine dQ call78 (mZ ⟨#[40]⟩) ?_;refine dQ call78 (mZ ⟨#[42]⟩) ?_;refine dQ call78 (mZ ⟨#[41]⟩) ?_;refine ei (bW 0 [_,_,_,_]) [.int .i64 0,.string ⟨#[]⟩,.int .i64 0,.int .i64 0,.string ⟨#[]⟩,.int .i64 0,.int .i64 0,.string ⟨#[]⟩,.int .i64 0,.int .i64 0,.string ⟨#[]⟩,.int .i64 0] [_,_,_,_,_,_,_,_,_,_,_,_] zeroValue137 runUnderlying98 sizeOf137 (fun HE=>?_);refine fw 0 36 3 4 ?_;refine OD.ek (ls:=([⟨#[83,69,76,69,67,84]⟩].map bF)) (new:=[bF ⟨#[67,79,85,78,84]⟩,dX ⟨#[40]⟩,dX ⟨#[42]⟩,dX ⟨#[41]⟩]) (Sq:=S7) iI lO ap rfl rfl underlying98 rV rfl w7 ot p8 (de (A:=[_])) ot bf pW w8 (fun N2 U ajy ajz=>?_);refine OD.perm (dZ (S1:=[⟨N2,137,U*3,flatMap cT (([⟨#[83,69,76,69,67,84]⟩].map bF)++[bF ⟨#[67,79,85,78,84]⟩,dX ⟨#[40]⟩,dX ⟨#[42]⟩,dX ⟨#[41]⟩])⟩]) (A:=[_])) ?_;refine an 84 [1,3] ?_;refine⟨_,aK,(([⟨#[83,69,76,69,67,84]⟩].map bF)++[bF ⟨#[67,79,85,78,84]⟩,dX ⟨#[40]⟩,dX ⟨#[42]⟩,dX ⟨#[41]⟩]),(some ⟨N2,0,none⟩),U,[⟨N2,137,U*3,flatMap cT (([⟨#[83,69,76,69,67,84]⟩].map bF)++[bF ⟨#[67,79,85,78,84]⟩,dX ⟨#[40]⟩,dX ⟨#[42]⟩,dX ⟨#[41]⟩])⟩],(by unfold zx;rw[if_pos bD]),(bE ajy ajz),MG,rfl⟩
  refine af [1,3,38] ?_;refine au ?_ ?_<;>intro aY cy
  ·refine dM 1 ?_;refine dQ call78 (mZ ⟨#[42]⟩) ?_;refine ei (bW 0 [_]) [.int .i64 0,.string ⟨#[]⟩,.int .i64 0] [_,_,_] zeroValue137 runUnderlying98 sizeOf137 (fun b45=>?_);refine fw 0 45 3 1 ?_;refine OD.ek (ls:=([⟨#[83,69,76,69,67,84]⟩].map bF)) (new:=[dX ⟨#[42]⟩]) (Sq:=S7) iI lO ap rfl rfl underlying98 rV rfl w7 ot p8 (de (A:=[_])) ot bf pW w8 (fun AA Z ajA ajB=>?_);refine OD.perm (dZ (S1:=[⟨AA,137,Z*3,flatMap cT (([⟨#[83,69,76,69,67,84]⟩].map bF)++[dX ⟨#[42]⟩])⟩]) (A:=[_])) ?_;refine an 84 [1,3] ?_;refine⟨_,aK,(([⟨#[83,69,76,69,67,84]⟩].map bF)++[dX ⟨#[42]⟩]),(some ⟨AA,0,none⟩),Z,[⟨AA,137,Z*3,flatMap cT (([⟨#[83,69,76,69,67,84]⟩].map bF)++[dX ⟨#[42]⟩])⟩],(by unfold zx;rw[if_neg xR,if_pos w4]),(bE ajA ajB),MG,rfl⟩
  refine af [1,3,9,10,11] ?_;refine CD.block ?_;refine mV (fun (kJ:Nat×Option Addr×Nat×List ah) aH=>match kJ with|(i,Dy,Dz,So)=>(i≤s.names.length)∧(bn 137 3 ((([⟨#[83,69,76,69,67,84]⟩].map bF++jS s.names i)).flatMap cT) (([⟨#[83,69,76,69,67,84]⟩].map bF++jS s.names i)).length Dy Dz So)∧aH=(⟨84,[(1,dL b1),(3,aN Dy (([⟨#[83,69,76,69,67,84]⟩].map bF++jS s.names i)).length Dz),(9,av 1 cS s.names),(10,ae (s.names.length:Nat)),(11,ae (i:Nat))],((⟨b1,32,12,[ae s.kind,bw s.table,av 2 cC s.ay,av 3 cV s.row,av 1 cS s.names,cj s.count,av 5 cO s.aj,bw s.order,cj s.down,ae s.ij,bw s.set,av 5 cO s.bQ]⟩:ah)::So)⟩:St)) (fun (kJ:Nat×Option Addr×Nat×List ah)=>match kJ with|(i,Dy,Dz,So)=>s.names.length-i) (0,YA,YB,S7) ⟨(Nat.zero_le _),(bn.cast p8 (by simp[jS])),rfl⟩ (aK (h:=by repeat (first|exact trivial|refine⟨MK,?_⟩))) ?_;rintro⟨i,Dy,Dz,So⟩ _ ⟨hi,DA,rfl⟩;refine af [1,3,9,10,11,12] ?_;refine au ?_ ?_<;>intro bZ cN
  ·have aa:i<s.names.length:=(by simp at bZ;omega)
   have fN:=I2 s.names i;refine af [1,3,4,5,9,10,11] ?_;refine af [1,3,5,9,10,11,17] ?_;refine au ?_ ?_<;>intro cX en
   ·refine dM 1 ?_;refine dQ call78 (mZ ⟨#[44]⟩) ?_;refine ei (bW 0 [_]) [.int .i64 0,.string ⟨#[]⟩,.int .i64 0] [_,_,_] zeroValue137 runUnderlying98 sizeOf137 (fun NX=>?_);refine fw 0 20 3 1 ?_;refine OD.ek (ls:=(([⟨#[83,69,76,69,67,84]⟩].map bF++jS s.names i))) (new:=[dX ⟨#[44]⟩]) (Sq:=So) iI lO ap rfl rfl underlying98 rV rfl w7 ot DA (de (A:=[_])) ot bf pW w8 (fun Dr Wr ajC ajD=>?_);refine OD.perm (dZ (S1:=[⟨Dr,137,Wr*3,flatMap cT ((([⟨#[83,69,76,69,67,84]⟩].map bF++jS s.names i))++[dX ⟨#[44]⟩])⟩]) (A:=[_])) ?_;refine an 84 [1,3,5,9,10,11] ?_;refine dM 2 ?_;refine dQ call117 (qs s.names[i]) ?_;refine ei (bW 0 [_]) [.int .i64 0,.string ⟨#[]⟩,.int .i64 0] [_,_,_] zeroValue137 runUnderlying98 sizeOf137 (fun yh=>?_);refine fw 0 25 3 1 ?_;refine OD.ek (ls:=((([⟨#[83,69,76,69,67,84]⟩].map bF++jS s.names i))++[dX ⟨#[44]⟩])) (new:=[bF s.names[i]]) (Sq:=[⟨Dr,137,Wr*3,flatMap cT ((([⟨#[83,69,76,69,67,84]⟩].map bF++jS s.names i))++[dX ⟨#[44]⟩])⟩]) iI lO ap rfl rfl underlying98 rV rfl w7 ot (bE ajC ajD) (de (A:=[_])) ot bf pW w8 (fun I E L4 L5=>?_);refine OD.perm (dZ (S1:=[⟨I,137,E*3,flatMap cT (((([⟨#[83,69,76,69,67,84]⟩].map bF++jS s.names i))++[dX ⟨#[44]⟩])++[bF s.names[i]])⟩]) (A:=[_])) ?_;refine an 84 [1,3,9,10,11] ?_;refine cm [1,3,9,10,11] ?_
    refine⟨((i+1),(some ⟨I,0,none⟩),E,[⟨I,137,E*3,flatMap cT (((([⟨#[83,69,76,69,67,84]⟩].map bF++jS s.names i))++[dX ⟨#[44]⟩])++[bF s.names[i]])⟩]),_,cD,(aK (h:=by repeat (first|exact trivial|refine⟨MK,?_⟩))),w4,(bn.cast (bE L4 L5) (by first|exact Iw aa w4 _|exact Ih aa w4 _)),rfl⟩
   refine dM 2 ?_;refine dQ call117 (qs s.names[i]) ?_;refine ei (bW 0 [_]) [.int .i64 0,.string ⟨#[]⟩,.int .i64 0] [_,_,_] zeroValue137 runUnderlying98 sizeOf137 (fun yh=>?_);refine fw 0 25 3 1 ?_;refine OD.ek (ls:=(([⟨#[83,69,76,69,67,84]⟩].map bF++jS s.names i))) (new:=[bF s.names[i]]) (Sq:=So) iI lO ap rfl rfl underlying98 rV rfl w7 ot DA (de (A:=[_])) ot bf pW w8 (fun I E L4 L5=>?_);refine OD.perm (dZ (S1:=[⟨I,137,E*3,flatMap cT ((([⟨#[83,69,76,69,67,84]⟩].map bF++jS s.names i))++[bF s.names[i]])⟩]) (A:=[_])) ?_;refine an 84 [1,3,9,10,11] ?_;refine cm [1,3,9,10,11] ?_;refine⟨((i+1),(some ⟨I,0,none⟩),E,[⟨I,137,E*3,flatMap cT ((([⟨#[83,69,76,69,67,84]⟩].map bF++jS s.names i))++[bF s.names[i]])⟩]),_,cD,(aK (h:=by repeat (first|exact trivial|refine⟨MK,?_⟩))),w4,(bn.cast (bE L4 L5) (by first|exact Iw aa w4 _|exact Ih aa w4 _)),rfl⟩
  have sQ:i=s.names.length:=(by simp at bZ;omega)
  refine CD.exit ?_;refine⟨_,aK,(([⟨#[83,69,76,69,67,84]⟩].map bF++jS s.names i)),Dy,Dz,So,(by unfold zx;rw[if_neg xR,if_neg w4,sQ]),DA,MG,rfl⟩
 rintro _ ⟨Q,ad,cp,Sx,hQ,dW,hQl,rfl⟩;refine aD 3 ?_;refine ei (bW 0 [_,_]) [.string ⟨#[]⟩,.string ⟨#[]⟩] [_,_] zeroValue9 runUnderlying29 sizeOf9 (fun AO=>?_);refine OD.perm (yM (S2:=[⟨AO,9,2*1,flatMap cS ([⟨#[70,82,79,77]⟩,s.table])⟩]) (A:=[_])) ?_;refine OD.gN (t:=50) (Sq:=[⟨AO,9,2*1,flatMap cS ([⟨#[70,82,79,77]⟩,s.table])⟩]) lk (bE (g:=cS) (sz:=1) (e:=9) (ls:=[⟨#[70,82,79,77]⟩,s.table]) (Nat.le_refl _) (show 2≤maxLen by decide)) (cr jl _) (yL (A:=[_])) ?_;refine dQ call73 (r9 [⟨#[70,82,79,77]⟩,s.table] (by show 2≤10;decide)) ?_;refine OD.ek (ls:=Q) (new:=([⟨#[70,82,79,77]⟩,s.table].map bF)) (Sq:=Sx) iI lO ap rfl rfl underlying98 rV rfl w7 ot dW (de (A:=[_])) ot bf pW w8 (fun YC Ws ajE ajF=>?_);refine OD.perm (dZ (S1:=[⟨YC,137,Ws*3,flatMap cT (Q++([⟨#[70,82,79,77]⟩,s.table].map bF))⟩]) (A:=[_])) ?_;refine an 84 [1,3] ?_;refine aD 3 ?_;refine dQ call80 (H8 s.aj qe N0 (fun o h=>(hf.w o h).2) w4) ?_;refine OD.pz (ls:=(Q++([⟨#[70,82,79,77]⟩,s.table].map bF))) (new:=(kC s.aj)) (Sq:=[⟨YC,137,Ws*3,flatMap cT (Q++([⟨#[70,82,79,77]⟩,s.table].map bF))⟩]) iI lO ap rfl rfl underlying98 rV rfl w7 runUnderlying98 sizeOf137 ot (bE ajE ajF) (de (A:=[_])) ot pW w8 (fun ajG ajH vS vp=>?_);refine OD.perm (dZ (A:=[_])) ?_;refine an 84 [1,3] ?_
 refine jB [1] (fun aU _ aH=>∃(Q:List Tk),∃(ad:Option Addr),∃(cp:Nat),∃(Sx:List ah),(Q=(([⟨#[83,69,76,69,67,84]⟩].map bF++zx s)++[⟨#[70,82,79,77]⟩,s.table].map bF++kC s.aj)++Cx s)∧(bn 137 3 (Q.flatMap cT) Q.length ad cp Sx)∧(Q.length≤500)∧aH=(⟨84,(3,aN ad Q.length cp)::aU,(⟨b1,32,12,[ae s.kind,bw s.table,av 2 cC s.ay,av 3 cV s.row,av 1 cS s.names,cj s.count,av 5 cO s.aj,bw s.order,cj s.down,ae s.ij,bw s.set,av 5 cO s.bQ]⟩::Sx)⟩:St)) ?_ ?_
 ·refine af [1,3,60] ?_;refine au ?_ ?_<;>intro er fq
  ·refine aD 3 ?_;refine ei (bW 0 [_,_,_]) [.string ⟨#[]⟩,.string ⟨#[]⟩,.string ⟨#[]⟩] [_,_,_] zeroValue9 runUnderlying29 sizeOf9 (fun DB=>?_);refine OD.perm (yM (S2:=[⟨DB,9,3*1,flatMap cS ([⟨#[79,82,68,69,82]⟩,⟨#[66,89]⟩,s.order])⟩]) (A:=[_])) ?_;refine OD.gN (t:=64) (Sq:=[⟨DB,9,3*1,flatMap cS ([⟨#[79,82,68,69,82]⟩,⟨#[66,89]⟩,s.order])⟩]) lk (bE (g:=cS) (sz:=1) (e:=9) (ls:=[⟨#[79,82,68,69,82]⟩,⟨#[66,89]⟩,s.order]) (Nat.le_refl _) (show 3≤maxLen by decide)) (cr jl _) (yL (A:=[_])) ?_;refine dQ call73 (r9 [⟨#[79,82,68,69,82]⟩,⟨#[66,89]⟩,s.order] (by show 3≤10;decide)) ?_;refine OD.ek (ls:=((Q++([⟨#[70,82,79,77]⟩,s.table].map bF))++(kC s.aj))) (new:=([⟨#[79,82,68,69,82]⟩,⟨#[66,89]⟩,s.order].map bF)) (Sq:=vS) iI lO ap rfl rfl underlying98 rV rfl w7 ot vp (de (A:=[_])) ot bf pW w8 (fun pn O zO zP=>?_);refine OD.perm (dZ (S1:=[⟨pn,137,O*3,flatMap cT (((Q++([⟨#[70,82,79,77]⟩,s.table].map bF))++(kC s.aj))++([⟨#[79,82,68,69,82]⟩,⟨#[66,89]⟩,s.order].map bF))⟩]) (A:=[_])) ?_;refine an 84 [1,3] ?_;refine af [1,3,68] ?_;refine au ?_ ?_<;>intro fx gG
   ·refine dM 1 ?_;refine dQ call117 (qs ⟨#[68,69,83,67]⟩) ?_;refine ei (bW 0 [_]) [.int .i64 0,.string ⟨#[]⟩,.int .i64 0] [_,_,_] zeroValue137 runUnderlying98 sizeOf137 (fun b71=>?_);refine fw 0 71 3 1 ?_;refine OD.ek (ls:=(((Q++([⟨#[70,82,79,77]⟩,s.table].map bF))++(kC s.aj))++([⟨#[79,82,68,69,82]⟩,⟨#[66,89]⟩,s.order].map bF))) (new:=[bF ⟨#[68,69,83,67]⟩]) (Sq:=[⟨pn,137,O*3,flatMap cT (((Q++([⟨#[70,82,79,77]⟩,s.table].map bF))++(kC s.aj))++([⟨#[79,82,68,69,82]⟩,⟨#[66,89]⟩,s.order].map bF))⟩]) iI lO ap rfl rfl underlying98 rV rfl w7 ot (bE zO zP) (de (A:=[_])) ot bf pW w8 (fun N3 L6 ajI ajJ=>?_);refine OD.perm (dZ (S1:=[⟨N3,137,L6*3,flatMap cT ((((Q++([⟨#[70,82,79,77]⟩,s.table].map bF))++(kC s.aj))++([⟨#[79,82,68,69,82]⟩,⟨#[66,89]⟩,s.order].map bF))++[bF ⟨#[68,69,83,67]⟩])⟩]) (A:=[_])) ?_;refine an 84 [1,3] ?_;refine⟨_,aK,((((Q++([⟨#[70,82,79,77]⟩,s.table].map bF))++(kC s.aj))++([⟨#[79,82,68,69,82]⟩,⟨#[66,89]⟩,s.order].map bF))++[bF ⟨#[68,69,83,67]⟩]),(some ⟨N3,0,none⟩),L6,[⟨N3,137,L6*3,flatMap cT ((((Q++([⟨#[70,82,79,77]⟩,s.table].map bF))++(kC s.aj))++([⟨#[79,82,68,69,82]⟩,⟨#[66,89]⟩,s.order].map bF))++[bF ⟨#[68,69,83,67]⟩])⟩],(by rw[hQ];unfold Cx;rw[if_neg (by unfold ji;simpa using er),if_pos gG];simp only[append_assoc]),(bE ajI ajJ),w8,rfl⟩
   refine CD.skip ?_;refine⟨_,aK,(((Q++([⟨#[70,82,79,77]⟩,s.table].map bF))++(kC s.aj))++([⟨#[79,82,68,69,82]⟩,⟨#[66,89]⟩,s.order].map bF)),(some ⟨pn,0,none⟩),O,[⟨pn,137,O*3,flatMap cT (((Q++([⟨#[70,82,79,77]⟩,s.table].map bF))++(kC s.aj))++([⟨#[79,82,68,69,82]⟩,⟨#[66,89]⟩,s.order].map bF))⟩],(by rw[hQ];unfold Cx;rw[if_neg (by unfold ji;simpa using er),if_neg (by simpa using fx)];simp only[append_assoc,append_nil]),(bE zO zP),w8,rfl⟩
  refine CD.skip ?_;refine⟨_,aK,((Q++([⟨#[70,82,79,77]⟩,s.table].map bF))++(kC s.aj)),ajG,ajH,vS,(by rw[hQ];unfold Cx;rw[if_pos (by unfold ji;simpa using er)];simp),vp,w8,rfl⟩
 rintro _ ⟨Q,ad,cp,Sx,hQ,dW,hQl,rfl⟩;refine af [1,3,75] ?_;refine au ?_ ?_<;>intro gU kU
 ·refine fR 7 (aq (take 1 _)) ?_ (fun _ h=>(Sublist.map _ (take_sublist _ _)).subset h);refine az 0 rfl bp ?_;refine az 2 rfl (dr 9) ?_;refine az 3 rfl (dK 0) ?_;refine az 4 rfl (nE (pl:=[(0,_),(2,_)]) (ds:=[_,_,_]) rfl zeroValue137 runUnderlying137 Zr ⟨rfl,bI,rfl,ot,trivial⟩ rfl rfl) ?_;refine dD.later rfl ?_;refine AD.one (i:=1) aA ?_;refine jJ call117 (qs ⟨#[76,73,77,73,84]⟩) ?_;refine AD.one (i:=5) aA ?_;refine js (bW 0 [_,_]) [.int .i64 0,.string ⟨#[]⟩,.int .i64 0,.int .i64 0,.string ⟨#[]⟩,.int .i64 0] [_,_,_,_,_,_] zeroValue137 runUnderlying98 sizeOf137 (fun b81=>?_);refine jt 0 81 3 2 ?_;refine AD.one (i:=6) aA ?_;refine bj.ek (ls:=Q) (new:=[bF ⟨#[76,73,77,73,84]⟩,(⟨2,⟨#[]⟩,s.ij⟩:Tk)]) (Sq:=Sx) iI lO rfl ap rfl rfl underlying98 rV rfl w7 ot dW (de (A:=[_])) ot bf pW w8 (fun YD Wt ajK ajL=>?_);refine AD.perm (dZ (S1:=[⟨YD,137,Wt*3,flatMap cT (Q++[bF ⟨#[76,73,77,73,84]⟩,(⟨2,⟨#[]⟩,s.ij⟩:Tk)])⟩]) (A:=[_])) ?_;refine eH ?_;refine bg [3] ?_;refine af [2] ?_;refine CD.gN (t:=2) (Sq:=[⟨YD,137,Wt*3,flatMap cT (Q++[bF ⟨#[76,73,77,73,84]⟩,(⟨2,⟨#[]⟩,s.ij⟩:Tk)])⟩]) lk (bE ajK ajL) (cr iI _) (de (A:=[_])) ?_;refine eN ?_;refine⟨?_,rfl⟩;rw[hQ];unfold BZ L1;rw[if_pos w4]
 refine af [2] ?_;refine CD.gN (t:=2) (Sq:=Sx) lk dW (cr iI _) (de (A:=[_])) ?_;refine aI [] ?_;refine⟨?_,rfl⟩;rw[hQ];unfold BZ L1;rw[if_neg w4];simp only[append_nil]

def K4(k:Int):ByteArray:=agh.getD k.toNat ⟨#[]⟩
theorem acS{k:Int}(h1:1≤k)(h2:k≤3):typesC[0+k.toNat*1]?=some (.string (K4 k)):=by
 have h:k=1∨k=2∨k=3:=(by omega)
 rcases h with rfl|rfl|rfl<;>rfl
def jf(c:cz):List Tk:=[c.n,K4 c.k].map bF
def GI:List ByteArray:=[⟨#[66,69,71,73,78]⟩,⟨#[67,79,77,77,73,84]⟩,⟨#[82,79,76,76,66,65,67,75]⟩]
def pK(s:cU):List Tk :=
 if s.kind=1 then [⟨#[67,82,69,65,84,69]⟩,⟨#[84,65,66,76,69]⟩,s.table].map bF++lu (s.ay.map jf)
 else if s.kind=2 then [⟨#[68,82,79,80]⟩,⟨#[84,65,66,76,69]⟩,s.table].map bF
 else if s.kind=3 then [⟨#[73,78,83,69,82,84]⟩,⟨#[73,78,84,79]⟩,s.table,⟨#[86,65,76,85,69,83]⟩].map bF++lu (s.row.map iJ)
 else if s.kind=4 then BZ s
 else if s.kind=5 then [[⟨#[85,80,68,65,84,69]⟩,s.table,⟨#[83,69,84]⟩,s.set].map bF,[dX ⟨#[61]⟩],q9 s.bQ,kC s.aj].flatten
 else if s.kind=6 then [⟨#[68,69,76,69,84,69]⟩,⟨#[70,82,79,77]⟩,s.table].map bF++kC s.aj
 else [GI.getD (s.kind-7).toNat ⟨#[]⟩].map bF
structure YE (s:cU):Prop where
 fin:lB s
 k1:1≤s.kind
 k9:s.kind≤9
 c:s.kind=1→∀c∈s.ay,1≤c.k∧c.k≤3
 r:s.kind=3→∀v∈s.row,mW v
 w:s.kind=4∨s.kind=5∨s.kind=6→s.aj.length=0∨fJ 0 s.aj=0
 t:s.kind=5→fJ 0 s.bQ=0
theorem Rr(ts:List (List Tk)):0<(lu ts).length:=by unfold lu;rw[length_append];simp
theorem Rt{ts:List (List Tk)}(h:∀x∈ts,x.length≤10):(lu ts).length≤2+11*ts.length:=by
 have h1:=Bz h ts.length;unfold lu;rw[length_append];simp only[length_cons,length_nil];omega
theorem JV(l:List cz):∀x∈l.map jf,x.length≤10:=fun x hx=>by obtain⟨c,_,rfl⟩:=mem_map.1 hx;show 2≤10;decide
theorem Jd(l:List Vl):∀x∈l.map iJ,x.length≤10:=fun x hx=>by obtain⟨v,_,rfl⟩:=mem_map.1 hx;have:=P3 v;omega
theorem Ps:(Tryz.prog.info? 98).map (fun i=>(i.zero,i.size,i.bytes))=some (some (.slice none 0 0),1,24):=by kernel_rfl
theorem Ie:(Tryz.prog.info? 137).map (fun i=>(i.zero,i.size,i.bytes))=some (some (.agg #[.int .i64 0,.string ⟨#[]⟩,.int .i64 0]),3,32):=by kernel_rfl
theorem aeN(hty:(0,typesC)∈G)(s:cU)(hs:YE s):VP Tryz.prog G 39 [.agg (bX s)] (.list 3 ((pK s).flatMap cT) (pK s).length):=by
 refine VC.body func39 rfl ntmps39 aR fun X0 w0 aZ=>?_;have dm:=ec;have hf:=hs.fin;have h6:=hf.ok.1;have h6r:=hf.ok.2.1;have qe:=hf.ok.2.2.2.1;have ajM:=hf.ok.2.2.2.2;have tq:=P7 s.aj;have N1:=EI s.aj;have GJ:=EI s.bQ;have lg:=Rt (JV s.ay);have rK:=Rt (Jd s.row);have I:=ZW (G:=G) s hf;rw[length_map] at lg rK;unfold bX at I;unfold bX;refine bY ?_;refine OD.box (ds:=[_,_,_,_,_,_,_,_,_,_,_,_]) ap rfl rfl ot rfl rfl (fun b1=>?_);refine an 107 [1] ?_;refine cZ [1,10] ?_;refine aS 1 ?_ (h:=by exact eT);refine jW ?_;refine af [1,10,11] ?_;refine au ?_ ?_<;>intro aM bD
 ·refine bY ?_;refine bg [1,3] ?_;refine cZ [1,3,14,15,16] ?_;refine aS 1 ?_ (h:=by exact eT);refine bG ?_;refine CD.block ?_;refine mV (fun (E:Nat×Option Addr×Nat×List ah) aH=>match E with|(i,dg,cR,Sx)=>(i≤s.ay.length)∧(bn 98 1 (((s.ay.take i).map jf).flatMap cK) ((s.ay.take i).map jf).length dg cR Sx)∧aH=(⟨107,[(1,dL b1),(3,aN dg ((s.ay.take i).map jf).length cR),(14,av 2 cC s.ay),(15,ae (s.ay.length:Nat)),(16,ae (i:Nat))],((⟨b1,32,12,[ae s.kind,bw s.table,av 2 cC s.ay,av 3 cV s.row,av 1 cS s.names,cj s.count,av 5 cO s.aj,bw s.order,cj s.down,ae s.ij,bw s.set,av 5 cO s.bQ]⟩:ah)::Sx)⟩:St)) (fun (E:Nat×Option Addr×Nat×List ah)=>match E with|(i,dg,cR,Sx)=>s.ay.length-i) (0,none,0,[]) ⟨(Nat.zero_le _),(bn.cast iv j6),rfl⟩ (aK (h:=by repeat (first|exact trivial|refine⟨(by (repeat (first|exact fD|(apply fV;focus (first|rfl|(simp;done)|(congr 2;omega)|(apply eK;exact tF jf aa)|(apply eK;simp;done)))|(apply fH;focus rfl)));done),?_⟩))) ?_;rintro⟨i,dg,cR,Sx⟩ _ ⟨hi,dW,rfl⟩;refine af [1,3,14,15,16,17] ?_;refine au ?_ ?_<;>intro aY cy
  ·have aa:i<s.ay.length:=(by simp at aY;omega)
   have YF:=hs.c bD _ (getElem_mem aa);refine aD 1 ?_;refine bN (cW (mk:=Op.load 69) rfl ot (by first|exact qq (k:=0) (ds:=[_,_]) rfl rfl isAgg69 sizeOf69 rfl rfl|exact j5 lM isAgg69 sizeOf69 w5|exact j5 fi isAgg69 sizeOf69 w5|exact j5 jl isAgg69 sizeOf69 w5|exact dR (k:=0) lM rfl rfl rfl isAgg69 sizeOf69 w5|exact dR (k:=0) fi rfl rfl rfl isAgg69 sizeOf69 w5|exact dR (k:=0) jl rfl rfl rfl isAgg69 sizeOf69 w5|exact qx (ds:=[_,_]) isAgg69 sizeOf69 rfl rfl)) ?_;refine OD.alloc (ds:=[_,_]) ap rfl rfl zeroValue69 rfl (fun b5=>?_);refine aP 0 [_,_] sizeOf69 ?_;refine an 107 [1,3,5,14,15,16] ?_;refine fR 11 (aq (take 2 _)) ?_ (fun _ h=>(Sublist.map _ (take_sublist _ _)).subset h);refine az 0 rfl bp ?_;refine az 1 rfl (dr 0) ?_;refine az 2 rfl eT ?_;refine az 3 rfl (dr 1) ?_;refine az 4 rfl eT ?_;refine az 5 rfl (oM (mk:=Op.indexAddr 132) rfl wq ot (by first|exact UE runUnderlying132 sizeOf9 rfl w5|exact UE (j:=Int.toNat _) runUnderlying132 sizeOf9 (Int.toNat_of_nonneg w4).symm w4)) ?_
   refine az 6 rfl (cW (mk:=Op.load 9) rfl ot (by first|exact r8 (k:=0) rfl rfl isAgg9 rfl|exact r8 (k:=1) rfl rfl isAgg9 rfl|exact u5 lM isAgg9 w5 rfl|exact qu lM isAgg9 w5 rfl|exact u5 fi isAgg9 w5 rfl|exact qu fi isAgg9 w5 rfl|exact u5 jl isAgg9 w5 rfl|exact qu jl isAgg9 w5 rfl|exact lp (k:=0) lM rfl rfl rfl isAgg9 w5 rfl|exact iY (k:=0) lM rfl rfl rfl isAgg9 w5 rfl|exact lp (k:=1) lM rfl rfl rfl isAgg9 w5 rfl|exact iY (k:=1) lM rfl rfl rfl isAgg9 w5 rfl|exact lp (k:=0) fi rfl rfl rfl isAgg9 w5 rfl|exact iY (k:=0) fi rfl rfl rfl isAgg9 w5 rfl|exact lp (k:=1) fi rfl rfl rfl isAgg9 w5 rfl|exact iY (k:=1) fi rfl rfl rfl isAgg9 w5 rfl|exact lp (k:=0) jl rfl rfl rfl isAgg9 w5 rfl|exact iY (k:=0) jl rfl rfl rfl isAgg9 w5 rfl|exact lp (k:=1) jl rfl rfl rfl isAgg9 w5 rfl|exact iY (k:=1) jl rfl rfl rfl isAgg9 w5 rfl|exact Cq isAgg9 rfl|exact afU hty isAgg9 (acS YF.1 YF.2))) ?_;refine dD.later rfl ?_;refine AD.one (i:=7) aA ?_;refine js (bW 0 [_,_]) [.string ⟨#[]⟩,.string ⟨#[]⟩] [_,_] zeroValue9 runUnderlying29 sizeOf9 (fun b27=>?_);refine jt 0 27 1 2 ?_;refine AD.one (i:=8) aA ?_;refine jJ call73 (r9 [s.ay[i].n,K4 s.ay[i].k] (by show 2≤10;decide)) ?_;refine AD.one (i:=9) aA ?_;refine js (bW 0 [_]) [.slice none 0 0] [_] zeroValue98 runUnderlying130 sizeOf98 (fun uD=>?_)
   refine jt 0 29 1 1 ?_;refine AD.one (i:=10) aA ?_;refine bj.ED (Sq:=Sx) (R:=[_,_]) rfl ap rfl rfl underlying130 Ps rfl w7 ot dW (perm_append_comm (l₁:=[_,_])) (cr gl _) ot (tU pI [jf s.ay[i]]) w7 (by rw[length_map,length_take];simp only[maxLen];omega) (by rw[length_map,length_take];omega) iB (fun N4 O L7 L8=>?_);refine AD.perm (dZ (S1:=[⟨N4,98,O*1,flatMap cK ((s.ay.take i).map jf)++flatMap cK [jf s.ay[i]]⟩]) (A:=[_,_])) ?_;rw[show flatMap cK ((s.ay.take i).map jf)++flatMap cK [jf s.ay[i]]=flatMap cK ((s.ay.take i).map jf++[jf s.ay[i]]) from List.flatMap_append.symm,show((s.ay.take i).map jf).length+1=((s.ay.take i).map jf++[jf s.ay[i]]).length from by rw[length_append];rfl];refine eH ?_;refine bg [1,3,14,15,16] ?_;refine cm [1,3,14,15,16] ?_;refine⟨((i+1),(some ⟨N4,0,none⟩),O,[⟨N4,98,O*1,flatMap cK ((s.ay.take i).map jf++[jf s.ay[i]])⟩]),_,cD,(aK (h:=by repeat (first|exact trivial|refine⟨(by (repeat (first|exact fD|(apply fV;focus (first|rfl|(simp;done)|(congr 2;omega)|(apply eK;exact tF jf aa)|(apply eK;simp;done)))|(apply fH;focus rfl)));done),?_⟩))),w4,(bn.cast (bE (by rw[length_append];exact L7) L8) (by exact tF jf aa)),rfl⟩
  have eZ:=JU jf (show s.ay.length≤i by simp at aY;omega);have U:=TB (G:=G) (s.ay.map jf) Gk (JV s.ay);rw[←eZ] at U lg;refine aD 1 ?_;refine bN eT ?_;refine ei (bW 0 [_,_,_]) [.string ⟨#[]⟩,.string ⟨#[]⟩,.string ⟨#[]⟩] [_,_,_] zeroValue9 runUnderlying29 sizeOf9 (fun YG=>?_);refine OD.perm (yM (S2:=[⟨YG,9,3*1,flatMap cS ([⟨#[67,82,69,65,84,69]⟩,⟨#[84,65,66,76,69]⟩,s.table])⟩]) (A:=[_])) ?_;refine OD.gN (t:=34) (Sq:=[⟨YG,9,3*1,flatMap cS ([⟨#[67,82,69,65,84,69]⟩,⟨#[84,65,66,76,69]⟩,s.table])⟩]) lk (bE (g:=cS) (sz:=1) (e:=9) (ls:=[⟨#[67,82,69,65,84,69]⟩,⟨#[84,65,66,76,69]⟩,s.table]) (Nat.le_refl _) (show 3≤maxLen by decide)) (cr jl _) (yL (A:=[_])) ?_;refine OD.call ap rfl rfl rfl call73 (za [⟨#[67,82,69,65,84,69]⟩,⟨#[84,65,66,76,69]⟩,s.table] (by show 3≤10;decide)) ⟨ot,trivial⟩ (eO _) ?_;rintro _ S35 ⟨ap3,ap4,rfl,ajN⟩;refine OD.perm (yM (A:=[_])) ?_;refine aE 1 ?_;refine OD.gN (t:=36) (Sq:=Sx) lk dW (cr gl _) (oN (A:=[_])) ?_;refine dQ call74 (U) ?_;refine OD.ek (ls:=([⟨#[67,82,69,65,84,69]⟩,⟨#[84,65,66,76,69]⟩,s.table].map bF)) (new:=(lu ((s.ay.take i).map jf))) (Sq:=S35) iI lO ap rfl rfl underlying98 Ie rfl w7 ot ajN (de (A:=[_])) ot (Rr _) pW w8 (fun NU Wu ajO ajP=>?_)
  refine OD.perm (dZ (S1:=[⟨NU,137,Wu*3,flatMap cT (([⟨#[67,82,69,65,84,69]⟩,⟨#[84,65,66,76,69]⟩,s.table].map bF)++(lu ((s.ay.take i).map jf)))⟩]) (A:=[_])) ?_;refine an 107 [2] ?_;refine CD.gN (t:=2) (Sq:=[⟨NU,137,Wu*3,flatMap cT (([⟨#[67,82,69,65,84,69]⟩,⟨#[84,65,66,76,69]⟩,s.table].map bF)++(lu ((s.ay.take i).map jf)))⟩]) lk (bE ajO ajP) (cr iI _) (de (A:=[_])) ?_;refine aI [] ?_;refine⟨?_,rfl⟩;unfold pK;rw[if_pos bD,←eZ]
 refine af [1,10,39] ?_;refine au ?_ ?_<;>intro bZ cN
 ·refine cZ [2] ?_;refine aS 1 ?_ (h:=by exact eT);refine dh (r9 [⟨#[68,82,79,80]⟩,⟨#[84,65,66,76,69]⟩,s.table] (by show 3≤10;decide)) ?_;refine bG ?_;refine aI [] ?_;refine⟨?_,rfl⟩;unfold pK;rw[if_neg bD,if_pos cN]
 refine af [1,10,45] ?_;refine au ?_ ?_<;>intro cX en
 ·refine bY ?_;refine bg [1,6] ?_;refine cZ [1,6,48,49,50] ?_;refine aS 1 ?_ (h:=by exact eT);refine bG ?_;refine CD.block ?_;refine mV (fun (E:Nat×Option Addr×Nat×List ah) aH=>match E with|(i,HF,HG,Sv)=>(i≤s.row.length)∧(bn 98 1 (((s.row.take i).map iJ).flatMap cK) ((s.row.take i).map iJ).length HF HG Sv)∧aH=(⟨107,[(1,dL b1),(6,aN HF ((s.row.take i).map iJ).length HG),(48,av 3 cV s.row),(49,ae (s.row.length:Nat)),(50,ae (i:Nat))],((⟨b1,32,12,[ae s.kind,bw s.table,av 2 cC s.ay,av 3 cV s.row,av 1 cS s.names,cj s.count,av 5 cO s.aj,bw s.order,cj s.down,ae s.ij,bw s.set,av 5 cO s.bQ]⟩:ah)::Sv)⟩:St)) (fun (E:Nat×Option Addr×Nat×List ah)=>match E with|(i,HF,HG,Sv)=>s.row.length-i) (0,none,0,[]) ⟨(Nat.zero_le _),(bn.cast iv j6),rfl⟩ (aK (h:=by repeat (first|exact trivial|refine⟨(by (repeat (first|exact fD|(apply fV;focus (first|rfl|(simp;done)|(congr 2;omega)|(apply eK;exact tF iJ aa)|(apply eK;simp;done)))|(apply fH;focus rfl)));done),?_⟩))) ?_;rintro⟨i,HF,HG,Sv⟩ _ ⟨hi,mS,rfl⟩;refine af [1,6,48,49,50,51] ?_;refine au ?_ ?_<;>intro er fq
  ·have aa:i<s.row.length:=(by simp at er;omega)
   refine aD 1 ?_;refine bN (cW (mk:=Op.load 41) rfl ot (by first|exact qq (k:=0) (ds:=[_,_,_]) rfl rfl isAgg41 sizeOf41 rfl rfl|exact j5 lM isAgg41 sizeOf41 w5|exact j5 fi isAgg41 sizeOf41 w5|exact j5 jl isAgg41 sizeOf41 w5|exact dR (k:=0) lM rfl rfl rfl isAgg41 sizeOf41 w5|exact dR (k:=0) fi rfl rfl rfl isAgg41 sizeOf41 w5|exact dR (k:=0) jl rfl rfl rfl isAgg41 sizeOf41 w5|exact qx (ds:=[_,_,_]) isAgg41 sizeOf41 rfl rfl)) ?_;refine OD.alloc (ds:=[_,_,_]) ap rfl rfl zeroValue41 rfl (fun b8=>?_);refine aP 0 [_,_,_] sizeOf41 ?_;refine an 107 [1,6,8,48,49,50] ?_;refine dM 1 ?_;refine bN (cW (mk:=Op.load 41) rfl ot (by first|exact qq (k:=0) (ds:=[_,_,_]) rfl rfl isAgg41 sizeOf41 rfl rfl|exact j5 lM isAgg41 sizeOf41 w5|exact j5 fi isAgg41 sizeOf41 w5|exact j5 jl isAgg41 sizeOf41 w5|exact dR (k:=0) lM rfl rfl rfl isAgg41 sizeOf41 w5|exact dR (k:=1) lM rfl rfl rfl isAgg41 sizeOf41 w5|exact dR (k:=0) fi rfl rfl rfl isAgg41 sizeOf41 w5|exact dR (k:=1) fi rfl rfl rfl isAgg41 sizeOf41 w5|exact dR (k:=0) jl rfl rfl rfl isAgg41 sizeOf41 w5|exact dR (k:=1) jl rfl rfl rfl isAgg41 sizeOf41 w5|exact qx (ds:=[_,_,_]) isAgg41 sizeOf41 rfl rfl)) ?_;refine dQ call75 (O3 s.row[i] (hs.r en _ (getElem_mem aa))) ?_;refine ei (bW 0 [_]) [.slice none 0 0] [_] zeroValue98 runUnderlying130 sizeOf98 (fun b57=>?_)
   refine fw 0 57 1 1 ?_;refine OD.ek (ls:=((s.row.take i).map iJ)) (new:=[iJ s.row[i]]) (Sq:=Sv) gl pI ap rfl rfl underlying130 Ps rfl w7 ot mS (de (A:=[_,_])) ot bf (by simp only[maxLen,length_map,length_take,length_cons,length_nil];omega) (by simp only[length_map,length_take,length_cons,length_nil];omega) (fun At Z ajQ ajR=>?_);refine OD.perm (dZ (S1:=[⟨At,98,Z*1,flatMap cK (((s.row.take i).map iJ)++[iJ s.row[i]])⟩]) (A:=[_,_])) ?_;refine an 107 [1,6,48,49,50] ?_;refine cm [1,6,48,49,50] ?_;refine⟨((i+1),(some ⟨At,0,none⟩),Z,[⟨At,98,Z*1,flatMap cK (((s.row.take i).map iJ)++[iJ s.row[i]])⟩]),_,cD,(aK (h:=by repeat (first|exact trivial|refine⟨(by (repeat (first|exact fD|(apply fV;focus (first|rfl|(simp;done)|(congr 2;omega)|(apply eK;exact tF iJ aa)|(apply eK;simp;done)))|(apply fH;focus rfl)));done),?_⟩))),w4,(bn.cast (bE ajQ ajR) (by exact tF iJ aa)),rfl⟩
  have Vo:=JU iJ (show s.row.length≤i by simp at er;omega);have U:=TB (G:=G) (s.row.map iJ) Gk (Jd s.row);rw[←Vo] at U rK;refine aD 1 ?_;refine bN eT ?_;refine ei (bW 0 [_,_,_,_]) [.string ⟨#[]⟩,.string ⟨#[]⟩,.string ⟨#[]⟩,.string ⟨#[]⟩] [_,_,_,_] zeroValue9 runUnderlying29 sizeOf9 (fun N5=>?_);refine OD.perm (yM (S2:=[⟨N5,9,4*1,flatMap cS ([⟨#[73,78,83,69,82,84]⟩,⟨#[73,78,84,79]⟩,s.table,⟨#[86,65,76,85,69,83]⟩])⟩]) (A:=[_])) ?_;refine OD.gN (t:=62) (Sq:=[⟨N5,9,4*1,flatMap cS ([⟨#[73,78,83,69,82,84]⟩,⟨#[73,78,84,79]⟩,s.table,⟨#[86,65,76,85,69,83]⟩])⟩]) lk (bE (g:=cS) (sz:=1) (e:=9) (ls:=[⟨#[73,78,83,69,82,84]⟩,⟨#[73,78,84,79]⟩,s.table,⟨#[86,65,76,85,69,83]⟩]) (Nat.le_refl _) (show 4≤maxLen by decide)) (cr jl _) (yL (A:=[_])) ?_;refine OD.call ap rfl rfl rfl call73 (za [⟨#[73,78,83,69,82,84]⟩,⟨#[73,78,84,79]⟩,s.table,⟨#[86,65,76,85,69,83]⟩] (by show 4≤10;decide)) ⟨ot,trivial⟩ (eO _) ?_;rintro _ Dt ⟨Wo,xF,rfl,Cw⟩;refine OD.perm (yM (A:=[_])) ?_;refine aE 1 ?_;refine OD.gN (t:=64) (Sq:=Sv) lk mS (cr gl _) (oN (A:=[_])) ?_;refine dQ call74 (U) ?_;refine OD.ek (ls:=([⟨#[73,78,83,69,82,84]⟩,⟨#[73,78,84,79]⟩,s.table,⟨#[86,65,76,85,69,83]⟩].map bF)) (new:=(lu ((s.row.take i).map iJ))) (Sq:=Dt) iI lO ap rfl rfl underlying98 Ie rfl w7 ot Cw (de (A:=[_])) ot (Rr _) pW w8 (fun pn zN zO zP=>?_)
  refine OD.perm (dZ (S1:=[⟨pn,137,zN*3,flatMap cT (([⟨#[73,78,83,69,82,84]⟩,⟨#[73,78,84,79]⟩,s.table,⟨#[86,65,76,85,69,83]⟩].map bF)++(lu ((s.row.take i).map iJ)))⟩]) (A:=[_])) ?_;refine an 107 [2] ?_;refine CD.gN (t:=2) (Sq:=[⟨pn,137,zN*3,flatMap cT (([⟨#[73,78,83,69,82,84]⟩,⟨#[73,78,84,79]⟩,s.table,⟨#[86,65,76,85,69,83]⟩].map bF)++(lu ((s.row.take i).map iJ)))⟩]) lk (bE zO zP) (cr iI _) (de (A:=[_])) ?_;refine aI [] ?_;refine⟨?_,rfl⟩;unfold pK;rw[if_neg bD,if_neg cN,if_pos en,←Vo]
 refine af [1,10,67] ?_;refine au ?_ ?_<;>intro fx gG
 ·refine cZ [2] ?_;refine aS 0 ?_ (h:=by exact(cW (mk:=Op.load 32) rfl ot (by first|exact qq (k:=0) (ds:=[_,_,_,_,_,_,_,_,_,_,_,_]) rfl rfl isAgg32 sizeOf32 rfl rfl|exact j5 lM isAgg32 sizeOf32 w5|exact j5 fi isAgg32 sizeOf32 w5|exact j5 jl isAgg32 sizeOf32 w5|exact dR (k:=0) lM rfl rfl rfl isAgg32 sizeOf32 w5|exact dR (k:=0) fi rfl rfl rfl isAgg32 sizeOf32 w5|exact dR (k:=0) jl rfl rfl rfl isAgg32 sizeOf32 w5|exact qx (ds:=[_,_,_,_,_,_,_,_,_,_,_,_]) isAgg32 sizeOf32 rfl rfl)));refine dh (I (hs.w (.inl gG))) ?_;refine bG ?_;refine aI [] ?_;refine⟨?_,rfl⟩;unfold pK;rw[if_neg bD,if_neg cN,if_neg en,if_pos gG]
 refine af [1,10,71] ?_;refine au ?_ ?_<;>intro gU kU
 ·refine cZ [2] ?_;refine aS 1 ?_ (h:=by exact eT);refine aS 1 ?_ (h:=by exact eT);refine dh (r9 [⟨#[85,80,68,65,84,69]⟩,s.table,⟨#[83,69,84]⟩,s.set] (by show 4≤10;decide)) ?_;refine dh (mZ ⟨#[61]⟩) ?_;refine aS 2 ?_ (h:=by exact eT);refine dh (Pr s.bQ ajM (hs.t kU) (fun o h=>(hf.x o h).2)) ?_;refine aS 1 ?_ (h:=by exact eT);refine dh (H8 s.aj qe (hs.w (.inr (.inl kU))) (fun o h=>(hf.w o h).2) w4) ?_;refine dh (EH [[⟨#[85,80,68,65,84,69]⟩,s.table,⟨#[83,69,84]⟩,s.set].map bF,[dX ⟨#[61]⟩],q9 s.bQ,kC s.aj] (by show 4≤1000;decide) (by simp only[flatten_cons,flatten_nil,length_append,length_map,length_cons,length_nil];omega) (by simp only[flatten_cons,flatten_nil,length_append,length_map,length_cons,length_nil];omega)) ?_;refine bG ?_;refine aI [] ?_;refine⟨?_,rfl⟩;unfold pK;rw[if_neg bD,if_neg cN,if_neg en,if_neg gG,if_pos kU]
 refine af [1,89] ?_;refine au ?_ ?_<;>intro gq lA
 ·refine CD.seq ?_;refine fR 8 (aq (take 1 _)) ?_ (fun _ h=>(Sublist.map _ (take_sublist _ _)).subset h);refine az 0 rfl (dr 1) ?_;refine az 1 rfl eT ?_;refine az 4 rfl (dr 6) ?_;refine az 5 rfl eT ?_;refine dD.later rfl ?_;refine AD.one (i:=2) aA ?_;refine js (bW 0 [_,_,_]) [.string ⟨#[]⟩,.string ⟨#[]⟩,.string ⟨#[]⟩] [_,_,_] zeroValue9 runUnderlying29 sizeOf9 (fun AP=>?_);refine jt 0 93 1 3 ?_;refine AD.one (i:=3) aA ?_;refine bj.call rfl ap rfl rfl rfl call73 (za [⟨#[68,69,76,69,84,69]⟩,⟨#[70,82,79,77]⟩,s.table] (by show 3≤10;decide)) ⟨ot,trivial⟩ (eO _) iB ?_;rintro _ S94 ⟨ap5,ap6,rfl,ajS⟩;refine AD.perm (dZ (A:=[_])) ?_;refine AD.one (i:=6) aA ?_;refine jJ call80 (H8 s.aj qe (hs.w (.inr (.inr lA))) (fun o h=>(hf.w o h).2) w4) ?_;refine AD.one (i:=7) aA ?_;refine bj.pz (ls:=([⟨#[68,69,76,69,84,69]⟩,⟨#[70,82,79,77]⟩,s.table].map bF)) (new:=(kC s.aj)) (Sq:=S94) iI lO rfl ap rfl rfl underlying98 Ie rfl w7 runUnderlying98 sizeOf137 ot ajS (de (A:=[_])) ot pW w8 (fun ap7 ap8 S98 ajT=>?_);refine AD.perm (dZ (A:=[_])) ?_;refine eH ?_;refine bg [2] ?_;refine CD.gN (t:=2) (Sq:=S98) lk ajT (cr iI _) (de (A:=[_])) ?_;refine eN ?_;refine⟨?_,rfl⟩;unfold pK;rw[if_neg bD,if_neg cN,if_neg en,if_neg gG,if_neg kU,if_pos lA]
 obtain⟨j,hj,N6⟩:∃j:Nat,s.kind=((7+j:Nat):Int)∧j<GI.length:=⟨(s.kind-7).toNat,by have:=hs.k1;have:=hs.k9;omega,by have:=hs.k1;have:=hs.k9;show _<3;omega⟩
 refine cZ [2] ?_;refine NG (g:=cS) (GI) ?_;refine aS 1 ?_ (h:=by exact eT);refine aS 0 ?_ (h:=by exact(dj (r:=.int .i64 ((j:Nat):Int)) rfl ot bI (gj (by rw[hj,show(((7+j:Nat)):Int)-7=((j:Nat):Int) by omega];exact wrap_i64 w4 (by have:j<3:=N6;omega)))));refine aS 1 ?_ (h:=by exact(cW (mk:=Op.load 9) rfl ot (by exact qu (i:=j) jl isAgg9 N6 rfl)));refine dh (r9 [GI[j]] Ap) ?_;refine bG ?_;refine aI [] ?_;refine⟨?_,rfl⟩;unfold pK;rw[if_neg bD,if_neg cN,if_neg en,if_neg gG,if_neg kU,if_neg lA,hj,show(((7+j:Nat):Int)-7).toNat=j by omega,mF N6];first|done|rfl

theorem Pt:∀(l pre:List cz),q8 pre l=0→∀c∈l,cY c.n=0∧1≤c.k∧c.k≤3
 | [],_,_,c,hc=>by cases hc
 | a::l,pre,h,c,hc=>by
  have h:(if nl pre a≠0 then nl pre a else q8 (pre++[a]) l)=0:=h;by_cases h0:nl pre a=0
  ·rw[if_neg (by simp[h0])] at h;rcases mem_cons.1 hc with rfl|hc
   ·unfold nl at h0;by_cases h1:cY c.n=0
    ·rw[if_neg (by simp[h1])] at h0;by_cases h2:c.k<1∨c.k>3
     ·rw[if_pos h2] at h0;cases h0
     exact⟨h1,by omega⟩
    rw[if_pos h1] at h0;exact absurd h0 h1
   exact Pt l _ h c hc
  rw[if_pos h0] at h;exact absurd h h0
theorem abb{l:List cz}(h:fI l=0):(1≤l.length∧l.length≤6)∧∀c∈l,cY c.n=0∧1≤c.k∧c.k≤3:=by
 unfold fI at h;split at h
 ·cases h
 exact⟨by omega,Pt l [] h⟩
theorem TD{α:Type}{f:α→Int}:∀{l:List α},jQ f l=0→∀a∈l,f a=0
 | [],_,a,h=>by cases h
 | b::r,h,a,ha=>by
  unfold jQ at h;split at h
  ·exact absurd h tY
  rcases mem_cons.1 ha with rfl|ha
  ·have hn:¬f a≠0:=(by assumption)
   omega
  exact TD h a ha
theorem JW{l:List aX}(h:nG l=0):l.length=0∨fJ 0 l=0:=by
 unfold nG at h;split at h
 ·exact .inl tY
 right;unfold iR at h;split at h
 ·cases h
 exact h
theorem agi{l:List aX}(h:iR l=0):fJ 0 l=0∧l.length≤40:=by
 unfold iR at h;split at h
 ·cases h
 exact⟨h,by omega⟩
theorem ahE{s:cU}(h:gZ s=0):jM s=0∧kN s (iM s)=true∧(s.kind<7→cY s.table=0):=by
 unfold gZ at h;split at h
 ·rename_i h1;exact absurd h h1.2
 rename_i h1;split at h
 ·cases h
 rename_i h2;refine⟨h,?_,fun hk=>?_⟩
 ·cases hb:kN s (iM s) with
  | true=>rfl
  | false=>exact absurd ⟨h,hb⟩ h2
 by_cases hn:cY s.table=0
 ·exact hn
 exact absurd ⟨hk,hn⟩ h1
theorem ahF{s:cU}(hf:lB s)(h1:1≤s.kind)(I:s.kind≤9)(h:gZ s=0):YE s:=by
 have he:=(ahE h).1;unfold jM at he;refine⟨hf,h1,I,fun hk=>?_,fun hk v E=>?_,fun hk=>?_,fun hk=>?_⟩
 ·rw[if_pos hk] at he;exact fun c hc=>((abb he).2 c hc).2
 ·rw[if_neg w4,if_pos hk] at he;unfold dO at he;split at he
  ·cases he
  exact UO (TD he v E) (hf.r v E).1 (hf.r v E).2
 ·by_cases h4:s.kind=4
  ·rw[if_neg w4,if_neg w4,if_pos h4] at he;unfold oS at he;repeat' split at he
   all_goals first|(exfalso;omega)|exact JW w4
  by_cases h5:s.kind=5
  ·rw[if_neg w4,if_neg w4,if_neg h4,if_pos h5] at he;repeat' split at he
   all_goals first|(exfalso;omega)|exact JW he
  rw[if_neg w4,if_neg w4,if_neg h4,if_neg h5,if_pos w4] at he;exact JW he
 rw[if_neg w4,if_neg w4,if_neg w4,if_pos hk] at he;repeat' split at he
 all_goals first|(exfalso;omega)|exact(agi tY).1
def iw(s:cU):Int:=if s.kind<1∨s.kind>9 then 2 else if gZ s≠0 then gZ s else if (pK s).length>100 then 10 else 0
theorem Ru(hm:(3,marksC)∈G)(hw:(1,wordsC)∈G)(O:(0,typesC)∈G)(s:cU)(hf:lB s):VP Tryz.prog G 25 [.agg (bX s)] (ae (iw s)):=by
 refine VC.body func25 rfl ntmps25 aR fun X0 w0 aZ=>?_;have dm:=ec;have fb:=aba hm hw s hf;unfold bX at fb;unfold bX;have Z:(s.kind<1∨s.kind>9)∨¬(s.kind<1∨s.kind>9):=(by omega)
 refine bY ?_;refine OD.box (ds:=[_,_,_,_,_,_,_,_,_,_,_,_]) ap rfl rfl ot rfl rfl (fun b1=>?_);refine an 21 [1] ?_;refine aD 4 ?_;refine bV 7 (fun U E=>?_) (fun U E=>?_)
 ·refine bg [1,11] ?_;refine eI ?_;have aW:iw s=2:=if_pos w4;exact xY
 refine bg [1,11] ?_;refine au ?_ ?_<;>intro aM bD
 ·have aW:iw s=2:=if_pos w4;exact xY
 have hk:¬(s.kind<1∨s.kind>9):=(by omega)
 refine cJ [1,3] (fb) ?_;refine af [1,3,15] ?_;refine au ?_ ?_<;>intro aY cy
 ·have hn:gZ s≠0:=(by simpa using aY)
  have aW:iw s=gZ s:=(by unfold iw;rw[if_neg hk,if_pos hn])
  exact xY
 have h0:gZ s=0:=(by simpa using aY)
 have I:=aeN O s (ahF hf w4 w4 h0);unfold bX at I;have gJ:¬gZ s≠0:=fun h=>h h0;refine cJ [20] (I) ?_;refine au ?_ ?_<;>intro bZ cN
 ·have aW:iw s=10:=(by unfold iw;rw[if_neg hk,if_neg gJ,if_pos (by simp at bZ;omega)])
  exact xY
 have aW:iw s=0:=(by unfold iw;rw[if_neg hk,if_neg gJ,if_neg (by simp at bZ;omega)])
 refine af [2] ?_;refine eN ?_;rw[aW];exact⟨rfl,rfl⟩

end Go.Proofs.YtdgichenhdikgaaGreatDoor.Pa
namespace Go.Proofs.YtdgichenhdikgaaGreatDoor.Pc
open List
open Go.Proofs.Tryz
open Go.RowKit V Pk Vl Go.Proofs.YtdgichenhdikgaaGreatDoor.Nm Pa
variable {G:List (Nat×List Value)}
variable {i:Nat}
theorem agj:cY ⟨#[116]⟩=0:=tr (l:=[116]) w7 w7 (fun c hc=>by simp only[mem_singleton] at hc;subst hc;decide)
def qQ(l:List cz):cU:={gX with kind:=1,table:=⟨#[116]⟩,ay:=l}
theorem ahG{l:List cz}(h6:l.length≤6)(aQ:∀c∈l,c.n.size≤maxLen):lB (qQ l) :=
 ⟨⟨h6,Nat.zero_le _,Nat.zero_le _,Nat.zero_le _,Nat.zero_le _⟩,(by show 1≤maxLen;decide),aQ,(fun _ h=>by cases h),Nat.zero_le _,Nat.zero_le _,(fun _ h=>by cases h),(fun _ h=>by cases h),(fun _ h=>by cases h)⟩
theorem agk(l:List cz):kN (qQ l) (qQ l)=true:=by
 unfold kN;simp only[Bool.and_eq_true,beq_iff_eq,wE,and_self]
theorem aeO(l:List cz):gZ (qQ l)=fI l:=by
 have h1:jM (qQ l)=fI l:=rfl;have h2:iM (qQ l)=qQ l:=rfl;unfold gZ;rw[if_neg (fun h=>h.2 agj),h2,h1,if_neg (fun h=>by rw[agk] at h;cases h.2)]
theorem acT{l:List cz}(h6:l.length≤6):iw (qQ l)=fI l:=by
 unfold iw;rw[if_neg (fun h=>by have:(qQ l).kind=1:=rfl;omega),aeO];split
 ·rfl
 rename_i h0;have h1:=Bz (ts:=l.map jf) (JV l) (l.map jf).length;have h2:(lu (l.map jf)).length≤80:=(by unfold lu;rw[length_append];rw[length_map] at h1 ⊢;simp only[length_cons,length_nil];omega)
 have h3:(pK (qQ l)).length≤100:=by
  show([_,_,_].map bF++lu (l.map jf)).length≤100;rw[length_append];simp only[length_map,length_cons,length_nil];omega
 rw[if_neg w4];simp only[ne_eq,Decidable.not_not] at h0;exact h0.symm
def N7(l:List cz):List D:=[ae 1,bw ⟨#[116]⟩,av 2 cC l,cf,cf,cj false,cf,gb,cj false,ae (-1),gb,cf]
theorem abc(hm:(3,marksC)∈G)(hw:(1,wordsC)∈G)(ht:(0,typesC)∈G)(l:List cz)(hl:l.length≤6)(aQ:∀c∈l,c.n.size≤maxLen):VP Tryz.prog G 25 [.agg (N7 l)] (ae (fI l)):=by
 have h:=Pa.Ru (G:=G) hm hw ht (qQ l) (ahG hl aQ);rw[acT hl] at h;refine VC.args h rfl fun w L i h1 h2 v E=>?_;have:i=0:=(by simp only[length_cons,length_nil] at h1;omega)
 subst this;exact FE (a:=N7 l) (b:=bX (qQ l)) ⟨ev,ev,ev,fQ,fQ,ev,fQ,ev,ev,ev,ev,fQ,trivial⟩ w L v E
theorem Fq(hm:(3,marksC)∈G)(hw:(1,wordsC)∈G)(ht:(0,typesC)∈G)(l:List cz)(hl:l.length≤6)(aQ:∀c∈l,c.n.size≤maxLen):VP Tryz.prog G 54 [av 2 cC l] (ae (fI l)):=by
 refine VC.body func54 rfl ntmps54 aR fun X0 w0 aZ=>?_;have dm:=ec;have fb:=abc hm hw ht l hl aQ;unfold N7 at fb;refine af [0] ?_;refine cJ [2] (fb) ?_;exact nT
def jL(i:Nat)(c:cz)(v:Vl):Int:=if cn v≠0 then cn v else if v.k≠c.k∧(i=0∨v.k≠0) then 4 else 0
def nN:Nat→List cz→List Vl→Int
 | i,c::cs,v::vs=>if jL i c v≠0 then jL i c v else nN (i+1) cs vs
 | _,_,_=>0
def dO(cs:List cz)(vs:List Vl):Int:=if fI cs≠0 then fI cs else if vs.length≠cs.length then 1 else nN 0 cs vs
theorem aaS{cs:List cz}{vs:List Vl}(h1:i<cs.length)(h2:i<vs.length)(h:jL i cs[i] vs[i]=0):nN i (cs.drop i) (vs.drop i)=nN (i+1) (cs.drop (i+1)) (vs.drop (i+1)):=by
 rw[drop_eq_getElem_cons h1,drop_eq_getElem_cons h2];exact if_neg (by simp[h])
theorem QY{cs:List cz}{vs:List Vl}(h1:i<cs.length)(h2:i<vs.length)(h:jL i cs[i] vs[i]≠0):nN i (cs.drop i) (vs.drop i)=jL i cs[i] vs[i]:=by
 rw[drop_eq_getElem_cons h1,drop_eq_getElem_cons h2];exact if_pos h
theorem acU{cs:List cz}{vs:List Vl}(h:¬i<vs.length):nN i (cs.drop i) (vs.drop i)=0:=by
 rw[drop_of_length_le (l:=vs) w4];cases cs.drop i<;>rfl
theorem KB(hm:(3,marksC)∈G)(hw:(1,wordsC)∈G)(ht:(0,typesC)∈G)(l:List cz)(hl:l.length≤6)(aQ:∀c∈l,c.n.size≤maxLen)(vs:List Vl)(rK:vs.length≤maxLen):VP Tryz.prog G 33 [av 2 cC l,av 3 cV vs] (ae (dO l vs)):=by
 refine VC.body func33 rfl ntmps33 aR fun X0 w0 aZ=>?_;have dm:=ec;refine af [0,1] ?_;refine cJ [0,1,5] (Fq hm hw ht l hl aQ) ?_;refine af [0,1,5,12] ?_;refine au ?_ ?_<;>intro aM bD
 ·have hne:fI l≠0:=(by simpa using aM)
  have aW:dO l vs=fI l:=if_pos hne;refine af [4] ?_;exact oC
 have h0:¬fI l≠0:=(by simpa using aM)
 refine af [0,1,18] ?_;refine au ?_ ?_<;>intro aY cy
 ·have aW:dO l vs=1:=(by unfold dO;rw[if_neg h0,if_pos w4])
  refine af [4] ?_;exact oC
 have Z:vs.length=l.length:=(by omega)
 have E:dO l vs=nN 0 (l.drop 0) (vs.drop 0):=(by unfold dO;rw[if_neg h0,if_neg (by simp[Z])];rfl)
 refine af [0,19,20,21] ?_;refine eA [0,19,20] (fun aU _ (i:Nat) aH=>(i≤vs.length)∧(dO l vs=nN i (l.drop i) (vs.drop i))∧aH=(⟨49,(21,ae (i:Nat))::aU,[]⟩:St)) (fun (i:Nat)=>vs.length-i) 0 ⟨(Nat.zero_le _),E,rfl⟩ ?_;rintro i _ ⟨hi,hinv,rfl⟩;refine af [0,19,20,21,22] ?_;refine au ?_ ?_<;>intro bZ cN
 ·have aa:i<vs.length:=(by omega)
  have Lv:i<l.length:=(by omega)
  refine aD 3 ?_;refine OD.alloc (ds:=[_,_,_]) ap rfl rfl zeroValue41 rfl (fun b7=>?_);refine aE 1 ?_;refine aP 0 [_,_,_] sizeOf41 ?_;refine an 49 [0,6,7,19,20,21] ?_;refine cJ [0,6,7,8,19,20,21] (Vl.pB vs[i]) ?_;refine af [0,6,7,8,19,20,21,29] ?_;refine au ?_ ?_<;>intro cX en
  ·have hne:cn vs[i]≠0:=(by simpa using cX)
   have hf:jL i l[i] vs[i]=cn vs[i]:=if_pos hne;have aW:dO l vs=cn vs[i]:=(by rw[hinv,QY Lv aa (by rw[hf];exact hne),hf])
   refine af [4] ?_;exact oC
  have hz:¬cn vs[i]≠0:=(by simpa using cX)
  refine CD.skip ?_;refine CD.seq ?_;refine lF 7 [0,6,7,19,20,21,32,37] ?_;refine bG ?_;refine aE 2 ?_;refine bV 39 (fun U I=>?_) (fun U I=>?_)
  ·refine aE 3 ?_;refine bV 42 (fun rj O=>?_) (fun rj O=>?_)
   ·refine bg [0,19,20,21,47] ?_;refine eI ?_;exact XG
   refine bg [0,19,20,21,47] ?_;refine au ?_ ?_<;>intro er fq
   ·exact XG
   exact XI
  refine bg [0,19,20,21,47] ?_;refine fM ?_;exact XI
 have aW:dO l vs=0:=(by rw[hinv];exact acU w4)
 refine af [4] ?_;exact ur

end Go.Proofs.YtdgichenhdikgaaGreatDoor.Pc

namespace Go.Proofs.YtdgichenhdikgaaGreatDoor.Nm
open List
open Go.Proofs.Tryz
open Go.RowKit V Pk Vl
inductive Tw where
 | mk (k n:Int) (s:ByteArray) (ts:List Tw)
mutual
def Tw.cs:Tw→List D
 | .mk k n s ts=>[.v (.int .i64 k),.v (.int .i64 n),.v (.string s),.list 4 (Tw.mA ts) ts.length]
def Tw.mA:List Tw→List D
 | []=>[]
 | t::r=>t.cs++Tw.mA r
end
theorem Tw.KC:∀ts:List Tw,Tw.mA ts=ts.flatMap Tw.cs
 | []=>rfl
 | t::r=>by rw[Tw.mA,Tw.KC r,flatMap_cons]
theorem Tw.FJ(t:Tw):t.cs.length=4:=by cases t;rfl
mutual
def Tw.Ok:Tw→Prop
 | .mk k n s ts=>(-9223372036854775808≤k∧k≤9223372036854775807)∧(-9223372036854775808≤n∧n≤9223372036854775807)∧s.size≤maxLen∧ts.length≤maxLen∧Tw.HH ts
def Tw.HH:List Tw→Prop
 | []=>True
 | t::r=>t.Ok∧Tw.HH r
end
theorem Tw.TE:∀{ts:List Tw},Tw.HH ts→∀t∈ts,t.Ok
 | [],_,t,h=>by cases h
 | a::r,⟨h1,h2⟩,t,h=>by
  rcases mem_cons.1 h with rfl|h
  ·exact h1
  exact Tw.TE h2 t h
theorem Tw.TF:∀{ts:List Tw},(∀t∈ts,t.Ok)→Tw.HH ts
 | [],_=>trivial
 | a::r,h=>⟨h a mem_cons_self,Tw.TF fun t ht=>h t (mem_cons_of_mem _ ht)⟩

def sg(j:Int):ByteArray:=if j=0 then ⟨#[105,100]⟩ else if j=1 then ⟨#[110]⟩ else if j=2 then ⟨#[115]⟩ else ⟨#[98]⟩
def ua(n:Int)(s:ByteArray):Vl:={pF ⟨n,dS n 40-20,s⟩ with s:=lT (pF ⟨n,dS n 40-20,s⟩).s 4}
def sc(n:Int)(s:ByteArray):aX:=⟨1,ua n s,⟨#[]⟩⟩
def wT(n:Int):aX:=⟨2,bJ,sg (dS n 4)⟩
def qY(k:Int):aX:=⟨k,bJ,⟨#[]⟩⟩
def mE(k n:Int)(s:ByteArray):List aX:=if 1+dS k 11=2 then [wT n] else [sc n s]
def iy:Nat→Tw→List aX
 | 0,.mk k n s _=>mE k n s
 | r+1,.mk k n s ts =>
  if 1+dS k 11=1 then [sc n s]
  else if 1+dS k 11=2 then [wT n]
  else if 1+dS k 11=5∨1+dS k 11=11 then (match ts[0]? with|some t=>iy r t|none=>mE n 0 s)++[qY (1+dS k 11)]
  else ((match ts[0]? with|some t=>iy r t|none=>mE n 0 s)++(match ts[1]? with|some t=>iy r t|none=>mE n 1 s))++[qY (1+dS k 11)]
def gH(r:Nat)(ts:List Tw)(n:Int)(s:ByteArray)(i:Nat):List aX:=match ts[i]? with|some t=>iy r t|none=>mE n i s
theorem yO(k n:Int)(s:ByteArray):(mE k n s).length=1:=by unfold mE;split<;>rfl
theorem JX:∀(r:Nat) (t:Tw),1≤(iy r t).length∧(iy r t).length+1≤2 ^ (r+1)
 | 0,.mk k n s ts=>by rw[iy,yO];exact⟨by decide,by decide⟩
 | r+1,.mk k n s ts=>by
  have E:∀i:Nat,1≤(gH r ts n s i).length∧(gH r ts n s i).length+1≤2 ^ (r+1):=fun i=>by
   unfold gH;split
   ·exact JX r _
   rw[yO];exact⟨by decide,by rw[Nat.pow_succ];have:=Nat.one_le_two_pow (n:=r);omega⟩
  have h0:=E 0;have h1:=E 1;unfold gH at h0 h1;have hp:2 ^ (r+1+1)=2 ^ (r+1)+2 ^ (r+1):=(by rw[Nat.pow_succ];omega)
  rw[iy];simp only[Int.natCast_zero,Int.natCast_one] at h0 h1;split
  ·exact⟨by simp,by simp;omega⟩
  split
  ·exact⟨by simp,by simp;omega⟩
  split<;>simp only[length_append,length_cons,length_nil]<;>omega
theorem TG(r:Nat)(ts:List Tw)(n:Int)(s:ByteArray)(i:Nat):1≤(gH r ts n s i).length∧(gH r ts n s i).length+1≤2 ^ (r+1):=by
 unfold gH;split
 ·exact JX r _
 rw[yO];exact⟨by decide,by rw[Nat.pow_succ];have:=Nat.one_le_two_pow (n:=r);omega⟩
theorem Pu(r:Vl):(pF r).s.size≤10:=by
 unfold pF bJ;split
 ·exact Nat.zero_le _
 split
 ·exact Nat.zero_le _
 split
 ·show(lT r.s 10).size≤10;rw[EF];omega
 decide
theorem TH{j:Nat}(h:j<4):[D.v (.string ⟨#[105,100]⟩),D.v (.string ⟨#[110]⟩),D.v (.string ⟨#[115]⟩),D.v (.string ⟨#[98]⟩)][j*1]?=some (bw (sg (j:Int))):=by
 match j,h with
 | 0,_|1,_|2,_|3,_=>rfl
variable {G:List (Nat×List Value)}
abbrev xG(ls:List aX)(r:D)(S:List ah):Prop:=gm cO 43 5 ls r S

theorem TI(k n d:Int)(s:ByteArray)(d4:D)(h4:kP d4=true)(dP:-9223372036854775808≤k)(fB:k≤9223372036854775807)(gv:-9223372036854775808≤n)(iU:n≤9223372036854775807)(hs:s.size≤maxLen)(hd:2<d):VC Tryz.prog G 32 [.agg [ae k,ae n,bw s,d4],ae d] [] (xG (mE k n s)):=by
 refine VC.body func32 rfl ntmps32 aR fun X0 w0 aZ=>?_;have hpk:=iW k (by decide:(1:Int)≤11);have hpn:=iW n (by decide:(1:Int)≤40);have U:=iW n (by decide:(1:Int)≤4);obtain⟨j,hj⟩:=Int.eq_ofNat_of_zero_le U.1;have Z:j<4:=(by omega)
 have I:=jP G n 4 gv iU w7;rw[hj] at I;have fS:(⟨n,dS n 40-20,s⟩:Vl).Ok:=⟨gv,iU,by show _≤dS n 40-20;omega,by show dS n 40-20≤_;omega,hs⟩
 have X7:=Pu ⟨n,dS n 40-20,s⟩;have hml:100≤maxLen:=(by decide)
 obtain⟨kk,lG⟩:∃kk:Int,1+dS k 11=kk:=⟨_,rfl⟩
 refine bY ?_;refine OD.box (ds:=[_,_,_,_]) ap rfl rfl ot rfl rfl (fun b2=>?_);refine OD.box (ds:=[_]) ap rfl rfl ot rfl rfl (fun b3=>?_);refine an 69 [2,3] ?_;refine cZ [2,3,5] ?_;refine dh (jP G k 11 dP fB w7) ?_;refine aS 0 ?_ (h:=by exact(dj (r:=.int .i64 kk) rfl bI ot (kr (by rw[lG];exact wrap_i64 w4 w4))));refine bG ?_;refine aD 3 ?_;refine bV 14 (fun E O=>?_) (fun E O=>?_)
 ·refine bg [2,3,5,17] ?_;refine au ?_ ?_<;>intro aM bD
  ·refine cm [2,3,5] ?_;refine cZ [2,5,6] ?_;refine aS 0 ?_ (h:=by exact(pA (ds:=[_,_]) rfl ⟨ot,ot,trivial⟩));refine bG ?_;refine af [2,5,6,19] ?_;refine af [2,5,6,19,20] ?_;refine eI ?_;exact V3
  refine cZ [2,5,6] ?_;refine aS 0 ?_ (h:=by exact(pA (ds:=[_,_]) rfl ⟨ot,ot,trivial⟩));refine bG ?_;refine af [2,5,6,19] ?_;refine af [2,5,6,19,20] ?_;refine au ?_ ?_<;>intro aY cy
  ·exact V3
  refine af [2,5,6,19,40] ?_;refine au ?_ ?_<;>intro bZ cN
  ·refine aD 1 ?_;refine ei (bW 0 [_,_,_,_]) [.string ⟨#[]⟩,.string ⟨#[]⟩,.string ⟨#[]⟩,.string ⟨#[]⟩] [_,_,_,_] zeroValue9 runUnderlying29 sizeOf9 (fun YH=>?_);refine fw 0 43 1 4 ?_;refine aE 2 ?_;refine dQ call21 (I) ?_;refine aE 1 ?_;refine bN (cW (mk:=Op.load 9) rfl ot (Cq isAgg9 (TH Z))) ?_;refine aE 1 ?_;refine ei (bW 0 [_]) [.int .i64 0,.int .i64 0,.int .i64 0,.string ⟨#[]⟩,.string ⟨#[]⟩] [_,_,_,_,_] zeroValue43 runUnderlying30 sizeOf43 (fun AO=>?_);exact z28
  exact absurd bZ (by simp at aM aY bZ;omega)
 exact absurd E (by simp at E;omega)

end Go.Proofs.YtdgichenhdikgaaGreatDoor.Nm
