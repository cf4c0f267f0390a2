/-
  NA: walks and plain facts, part 4.
-/
import Derived.Test.YtihmfhcjbmlnaaaGreatDoorPNA3
set_option linter.unusedVariables false
set_option linter.unusedSimpArgs false
set_option maxRecDepth 100000
set_option maxHeartbeats 4000000
namespace Go.Proofs.YtihmfhcjbmlnaaaGreatDoor
open List
namespace V
open Go.RowKit V
instance ik3:Ik Tryz.prog 3 .i64:=⟨by kernel_rfl⟩
instance avp:Sl Tryz.prog 22 14:=⟨by kernel_rfl⟩
instance avq:Sl Tryz.prog 23 5:=⟨by kernel_rfl⟩
instance auM:tF Tryz.prog 23 5:=⟨by kernel_rfl⟩
instance atS:Fo Tryz.prog 25 0 0:=⟨by kernel_rfl⟩
instance avr:Sz Tryz.prog 25 1:=⟨by kernel_rfl⟩
instance avs:Sb Tryz.prog 25 [.slice none 0 0] [(0,1)]:=⟨by kernel_rfl,by kernel_rfl⟩
instance avt:Sl Tryz.prog 27 1:=⟨by kernel_rfl⟩
instance auN:tF Tryz.prog 27 1:=⟨by kernel_rfl⟩
instance avu:Sl Tryz.prog 29 2:=⟨by kernel_rfl⟩
instance avv:Sl Tryz.prog 30 3:=⟨by kernel_rfl⟩
instance auO:tF Tryz.prog 30 3:=⟨by kernel_rfl⟩
instance avw:Sl Tryz.prog 31 1:=⟨by kernel_rfl⟩
instance auP:tF Tryz.prog 31 1:=⟨by kernel_rfl⟩
instance avx:Sl Tryz.prog 32 5:=⟨by kernel_rfl⟩
instance auQ:tF Tryz.prog 32 5:=⟨by kernel_rfl⟩
instance atT:Fo Tryz.prog 34 0 0:=⟨by kernel_rfl⟩
instance atU:Fo Tryz.prog 34 1 1:=⟨by kernel_rfl⟩
instance atV:Fo Tryz.prog 34 2 2:=⟨by kernel_rfl⟩
instance atW:Fo Tryz.prog 34 3 3:=⟨by kernel_rfl⟩
instance atX:Fo Tryz.prog 34 4 4:=⟨by kernel_rfl⟩
instance atY:Fo Tryz.prog 34 5 5:=⟨by kernel_rfl⟩
instance atZ:Fo Tryz.prog 34 6 6:=⟨by kernel_rfl⟩
instance at2:Fo Tryz.prog 34 7 7:=⟨by kernel_rfl⟩
instance at3:Fo Tryz.prog 34 8 8:=⟨by kernel_rfl⟩
instance at4:Fo Tryz.prog 34 9 9:=⟨by kernel_rfl⟩
instance atu:Fo Tryz.prog 34 10 10:=⟨by kernel_rfl⟩
instance atv:Fo Tryz.prog 34 11 11:=⟨by kernel_rfl⟩
instance avy:Sz Tryz.prog 34 12:=⟨by kernel_rfl⟩
instance avz:Sb Tryz.prog 34 [.int .i64 0,.string ⟨#[]⟩,.slice none 0 0,.slice none 0 0,.slice none 0 0,.bool false,.slice none 0 0,.string ⟨#[]⟩,.bool false,.int .i64 0,.string ⟨#[]⟩,.slice none 0 0] [(0,1),(1,1),(2,1),(3,1),(4,1),(5,1),(6,1),(7,1),(8,1),(9,1),(10,1),(11,1)]:=⟨by kernel_rfl,by kernel_rfl⟩
instance at5:Fo Tryz.prog 36 0 0:=⟨by kernel_rfl⟩
instance at6:Fo Tryz.prog 36 1 1:=⟨by kernel_rfl⟩
instance at7:Fo Tryz.prog 36 2 2:=⟨by kernel_rfl⟩
instance avA:Sz Tryz.prog 36 3:=⟨by kernel_rfl⟩
instance avB:Sb Tryz.prog 36 [.int .i64 0,.int .i64 0,.string ⟨#[]⟩] [(0,1),(1,1),(2,1)]:=⟨by kernel_rfl,by kernel_rfl⟩
instance aua:Fo Tryz.prog 38 0 0:=⟨by kernel_rfl⟩
instance aub:Fo Tryz.prog 38 1 1:=⟨by kernel_rfl⟩
instance auc:Fo Tryz.prog 38 2 4:=⟨by kernel_rfl⟩
instance avC:Sz Tryz.prog 38 5:=⟨by kernel_rfl⟩
instance avD:Sb Tryz.prog 38 [.int .i64 0,.int .i64 0,.int .i64 0,.string ⟨#[]⟩,.string ⟨#[]⟩] [(0,1),(1,3),(4,1)]:=⟨by kernel_rfl,by kernel_rfl⟩
instance avE:Sl Tryz.prog 39 2:=⟨by kernel_rfl⟩
instance aud:Fo Tryz.prog 44 0 0:=⟨by kernel_rfl⟩
instance aue:Fo Tryz.prog 44 1 1:=⟨by kernel_rfl⟩
instance avF:Sz Tryz.prog 44 2:=⟨by kernel_rfl⟩
instance avG:Sb Tryz.prog 44 [.string ⟨#[]⟩,.int .i64 0] [(0,1),(1,1)]:=⟨by kernel_rfl,by kernel_rfl⟩
instance avH:Sl Tryz.prog 46 1:=⟨by kernel_rfl⟩
instance auR:tF Tryz.prog 52 12:=⟨by kernel_rfl⟩
instance auf:Fo Tryz.prog 54 0 0:=⟨by kernel_rfl⟩
instance avI:Sz Tryz.prog 54 2:=⟨by kernel_rfl⟩
instance avJ:Sb Tryz.prog 54 [.slice none 0 0,.int .i64 0] [(0,1),(1,1)]:=⟨by kernel_rfl,by kernel_rfl⟩
instance avK:Sl Tryz.prog 58 4:=⟨by kernel_rfl⟩
instance aug:Fo Tryz.prog 60 0 0:=⟨by kernel_rfl⟩
instance auh:Fo Tryz.prog 60 1 1:=⟨by kernel_rfl⟩
instance aui:Fo Tryz.prog 60 2 2:=⟨by kernel_rfl⟩
instance auj:Fo Tryz.prog 60 3 3:=⟨by kernel_rfl⟩
instance avL:Sz Tryz.prog 60 4:=⟨by kernel_rfl⟩
instance avM:Sb Tryz.prog 60 [.int .i64 0,.int .i64 0,.string ⟨#[]⟩,.slice none 0 0] [(0,1),(1,1),(2,1),(3,1)]:=⟨by kernel_rfl,by kernel_rfl⟩
instance auk:Fo Tryz.prog 62 0 0:=⟨by kernel_rfl⟩
instance aul:Fo Tryz.prog 62 1 1:=⟨by kernel_rfl⟩
instance aum:Fo Tryz.prog 62 2 2:=⟨by kernel_rfl⟩
instance aun:Fo Tryz.prog 62 3 3:=⟨by kernel_rfl⟩
instance auo:Fo Tryz.prog 62 4 4:=⟨by kernel_rfl⟩
instance aup:Fo Tryz.prog 62 5 5:=⟨by kernel_rfl⟩
instance auq:Fo Tryz.prog 62 6 9:=⟨by kernel_rfl⟩
instance aur:Fo Tryz.prog 62 7 13:=⟨by kernel_rfl⟩
instance avN:Sz Tryz.prog 62 14:=⟨by kernel_rfl⟩
instance avO:Sb Tryz.prog 62 [.int .i64 0,.int .i64 0,.int .i64 0,.int .i64 0,.slice none 0 0,.int .i64 0,.int .i64 0,.string ⟨#[]⟩,.slice none 0 0,.int .i64 0,.int .i64 0,.string ⟨#[]⟩,.slice none 0 0,.bool false] [(0,1),(1,1),(2,1),(3,1),(4,1),(5,4),(9,4),(13,1)]:=⟨by kernel_rfl,by kernel_rfl⟩
instance avP:Sl Tryz.prog 72 5:=⟨by kernel_rfl⟩
instance aus:Fo Tryz.prog 74 0 0:=⟨by kernel_rfl⟩
instance aut:Fo Tryz.prog 74 1 1:=⟨by kernel_rfl⟩
instance avQ:Sz Tryz.prog 74 2:=⟨by kernel_rfl⟩
instance avR:Sb Tryz.prog 74 [.slice none 0 0,.int .i64 0] [(0,1),(1,1)]:=⟨by kernel_rfl,by kernel_rfl⟩
instance auu:Fo Tryz.prog 76 0 0:=⟨by kernel_rfl⟩
instance auv:Fo Tryz.prog 76 1 1:=⟨by kernel_rfl⟩
instance auw:Fo Tryz.prog 76 2 2:=⟨by kernel_rfl⟩
instance auy:Fo Tryz.prog 76 3 3:=⟨by kernel_rfl⟩
instance avS:Sz Tryz.prog 76 5:=⟨by kernel_rfl⟩
instance avT:Sb Tryz.prog 76 [.string ⟨#[]⟩,.slice none 0 0,.slice none 0 0,.slice none 0 0,.int .i64 0] [(0,1),(1,1),(2,1),(3,2)]:=⟨by kernel_rfl,by kernel_rfl⟩
instance auz:Fo Tryz.prog 78 0 0:=⟨by kernel_rfl⟩
instance auA:Fo Tryz.prog 78 1 5:=⟨by kernel_rfl⟩
instance avU:Sz Tryz.prog 78 6:=⟨by kernel_rfl⟩
instance avV:Sb Tryz.prog 78 [.string ⟨#[]⟩,.slice none 0 0,.slice none 0 0,.slice none 0 0,.int .i64 0,.slice none 0 0] [(0,5),(5,1)]:=⟨by kernel_rfl,by kernel_rfl⟩
instance avW:Sl Tryz.prog 95 2:=⟨by kernel_rfl⟩
instance auB:Fo Tryz.prog 99 0 0:=⟨by kernel_rfl⟩
instance auC:Fo Tryz.prog 99 1 1:=⟨by kernel_rfl⟩
instance avX:Sz Tryz.prog 99 2:=⟨by kernel_rfl⟩
instance avY:Sb Tryz.prog 99 [.slice none 0 0,.int .i64 0] [(0,1),(1,1)]:=⟨by kernel_rfl,by kernel_rfl⟩
instance atw:Fo Tryz.prog 109 0 0:=⟨by kernel_rfl⟩
instance atx:Fo Tryz.prog 109 1 1:=⟨by kernel_rfl⟩
instance auS:Sz Tryz.prog 109 2:=⟨by kernel_rfl⟩
instance auT:Sb Tryz.prog 109 [.string ⟨#[]⟩,.int .i64 0] [(0,1),(1,1)]:=⟨by kernel_rfl,by kernel_rfl⟩
instance auD:tF Tryz.prog 110 3:=⟨by kernel_rfl⟩
instance aty:Fo Tryz.prog 118 0 0:=⟨by kernel_rfl⟩
instance atz:Fo Tryz.prog 118 1 1:=⟨by kernel_rfl⟩
instance auU:Sz Tryz.prog 118 2:=⟨by kernel_rfl⟩
instance auV:Sb Tryz.prog 118 [.slice none 0 0,.slice none 0 0] [(0,1),(1,1)]:=⟨by kernel_rfl,by kernel_rfl⟩
instance auW:Ik Tryz.prog 123 .u64:=⟨by kernel_rfl⟩
instance atA:Fo Tryz.prog 138 0 0:=⟨by kernel_rfl⟩
instance atB:Fo Tryz.prog 138 1 1:=⟨by kernel_rfl⟩
instance atC:Fo Tryz.prog 138 2 2:=⟨by kernel_rfl⟩
instance auX:Sz Tryz.prog 138 3:=⟨by kernel_rfl⟩
instance auY:Sb Tryz.prog 138 [.int .i64 0,.int .i64 0,.string ⟨#[]⟩] [(0,1),(1,1),(2,1)]:=⟨by kernel_rfl,by kernel_rfl⟩
instance auZ:Sl Tryz.prog 146 1:=⟨by kernel_rfl⟩
instance auE:tF Tryz.prog 146 1:=⟨by kernel_rfl⟩
instance atD:Fo Tryz.prog 153 0 0:=⟨by kernel_rfl⟩
instance atE:Fo Tryz.prog 153 1 1:=⟨by kernel_rfl⟩
instance atG:Fo Tryz.prog 153 2 2:=⟨by kernel_rfl⟩
instance au0:Sz Tryz.prog 153 3:=⟨by kernel_rfl⟩
instance au1:Sb Tryz.prog 153 [.int .i64 0,.string ⟨#[]⟩,.int .i64 0] [(0,1),(1,1),(2,1)]:=⟨by kernel_rfl,by kernel_rfl⟩
instance au2:Sl Tryz.prog 163 1:=⟨by kernel_rfl⟩
instance atH:Fo Tryz.prog 165 0 0:=⟨by kernel_rfl⟩
instance atI:Fo Tryz.prog 165 1 1:=⟨by kernel_rfl⟩
instance atJ:Fo Tryz.prog 165 2 2:=⟨by kernel_rfl⟩
instance atK:Fo Tryz.prog 165 3 3:=⟨by kernel_rfl⟩
instance atL:Fo Tryz.prog 165 4 4:=⟨by kernel_rfl⟩
instance au3:Sz Tryz.prog 165 5:=⟨by kernel_rfl⟩
instance au4:Sb Tryz.prog 165 [.bool false,.slice none 0 0,.slice none 0 0,.slice none 0 0,.int .i64 0] [(0,1),(1,1),(2,1),(3,1),(4,1)]:=⟨by kernel_rfl,by kernel_rfl⟩
instance au5:Sl Tryz.prog 169 1:=⟨by kernel_rfl⟩
instance atM:Fo Tryz.prog 171 0 0:=⟨by kernel_rfl⟩
instance atN:Fo Tryz.prog 171 1 2:=⟨by kernel_rfl⟩
instance atO:Fo Tryz.prog 171 2 3:=⟨by kernel_rfl⟩
instance au6:Sz Tryz.prog 171 4:=⟨by kernel_rfl⟩
instance au7:Sb Tryz.prog 171 [.slice none 0 0,.int .i64 0,.map none,.slice none 0 0] [(0,2),(2,1),(3,1)]:=⟨by kernel_rfl,by kernel_rfl⟩
instance au8:Sz Tryz.prog 215 0:=⟨by kernel_rfl⟩
instance au9:Sb Tryz.prog 215 [] []:=⟨by kernel_rfl,by kernel_rfl⟩
end V
namespace Nm
open Go.Proofs.Tryz
open Go.RowKit V
variable {k:Nat}
def wordsB:List (List UInt8):=[[67,82,69,65,84,69],[84,65,66,76,69],[68,82,79,80],[73,78,83,69,82,84],[73,78,84,79],[86,65,76,85,69,83],[83,69,76,69,67,84],[67,79,85,78,84],[70,82,79,77],[87,72,69,82,69],[79,82,68,69,82],[66,89],[68,69,83,67],[76,73,77,73,84],[85,80,68,65,84,69],[83,69,84],[68,69,76,69,84,69],[66,69,71,73,78],[67,79,77,77,73,84],[82,79,76,76,66,65,67,75],[65,78,68],[79,82],[78,79,84],[73,83],[78,85,76,76],[84,82,85,69],[70,65,76,83,69],[73,78,84],[84,69,88,84],[66,79,79,76]]
def marksB:List (List UInt8):=[[60,61],[62,61],[60,62],[40],[41],[44],[42],[43],[45],[61],[60],[62]]
def xN:List ByteArray:=wordsB.map fun b=>⟨b.toArray⟩
def IZ:List ByteArray:=marksB.map fun b=>⟨b.toArray⟩
def wordsC:List Value:=xN.map .string
def marksC:List Value:=IZ.map .string
def zl(c:UInt8):Bool:=decide ((97<=c.toNat/\c.toNat<=122)\/(65<=c.toNat/\c.toNat<=90)\/c.toNat=95)
def I0(c:UInt8):Bool:=decide (48<=c.toNat/\c.toNat<=57)
def zH(c:UInt8):Bool:=zl c||I0 c
def jf(p:UInt8->Bool)(s:ByteArray):Nat:=(s.data.toList.takeWhile p).length
theorem YT(p:UInt8->Bool):∀(l:List UInt8) (k:Nat),k<=l.length->(∀x∈l.take k,p x=true)->(∀h:k<l.length,p l[k]=false)->(l.takeWhile p).length=k
 | [],k,h,_,_=>by simp at h;subst h;rfl
 | a::r,0,_,_,h=>by
  have:p a=false:=h bC;rw[takeWhile_cons];simp[this]
 | a::r,k+1,h1,h2,h3=>by
  have ha:p a=true:=h2 a bC;rw[takeWhile_cons,if_pos ha,length_cons,YT p r k (by simpa using h1) (fun x hx=>h2 x (by rw[take_succ_cons];exact mem_cons_of_mem _ hx)) (fun h=>by have:=h3 qz;simpa using this)]
theorem Iu{p:UInt8->Bool}{s:ByteArray}(hk:k<=s.size)(h0:∀x∈s.data.toList.take k,p x=true)(h1:k<s.size->p (oc s k)=false):jf p s=k :=
 YT p _ k (by rw[lA];exact hk) h0 fun h=>by rw[L7 h];exact h1 (by rw[lA] at h;exact h)
structure Tk where
 k:Int
 s:ByteArray
 n:Int
def cT(t:Tk):List D:=[ae t.k,aG t.s,ae t.n]
theorem jE(t:Tk):(cT t).length=3:=rfl
def qs(s:ByteArray):Bool:=!decide (s.size=0)&&zl (oc s 0)&&((jf zH s:Int)==(s.size:Int))
def wj(t:Tk):Int :=
 if t.k=1 then (if (decide (t.n=0)&&qs t.s)=true then 0 else 6)
 else if t.k=2 then (if t.n<0 then 3 else if t.s.size=0 then 0 else 6)
 else if t.k=3 then (if t.n=0 then 0 else 6)
 else if t.k=4 then (if (decide (t.n=0)&&IZ.any (jQ t.s))=true then 0 else 6)
 else 2
def dH(s:ByteArray):Int:=if s.size>8 then 1 else if (!(qs s)||xN.any (jQ s))=true then 6 else 0
theorem T1(s:ByteArray):wj ⟨1,s,0⟩=if qs s=true then 0 else 6:=by
 unfold wj;rw[if_pos rfl];simp
variable {G:List (Nat×List Value)}
theorem UD(c:UInt8):VP Tryz.prog G 150 [.v (.int .u8 ((c).toNat:Int))] (aW (zl c)):=by
 refine bA func150 rfl ntmps150 aO fun X0 w0 bz=>?_;refine ay [0] ?_;refine az 3 ?_;refine cz 5 (fun Z O=>?_) (fun Z O=>?_)
 ·refine aF 4 ?_;refine cz 9 (fun Se U=>?_) (fun Se U=>?_)
  ·exact KK
  refine aF 3 ?_;refine cz 12 (fun I E=>?_) (fun I E=>?_)
  ·exact z182
  exact KK
 refine aF 7 ?_;refine cz 12 (fun I E=>?_) (fun I E=>?_)
 ·exact z182
 refine bL [2] ?_;refine fJ ?_;refine⟨vb ?_,rfl⟩;rw[Bool.eq_iff_iff];simp[zl];first|done|omega
theorem ail(c:UInt8):VP Tryz.prog G 153 [.v (.int .u8 ((c).toNat:Int))] (aW (I0 c)):=by
 refine bA func153 rfl ntmps153 aO fun X0 w0 bz=>?_;refine ay [0] ?_;refine az 3 ?_;refine cz 5 (fun I E=>?_) (fun I E=>?_)
 ·refine bL [2] ?_;refine fJ ?_;refine⟨vb ?_,rfl⟩;rw[Bool.eq_iff_iff];simp[I0];first|done|omega
 refine bL [2] ?_;refine fJ ?_;refine⟨vb ?_,rfl⟩;rw[Bool.eq_iff_iff];simp[I0];first|done|omega
theorem VE(c:UInt8):VP Tryz.prog G 152 [.v (.int .u8 ((c).toNat:Int))] (aW (zH c)):=by
 refine bA func152 rfl ntmps152 aO fun X0 w0 bz=>?_;refine ay [0] ?_;refine az 1 ?_;refine dK call150 (UD c) ?_;refine aF 1 ?_;refine cz 5 (fun I E=>?_) (fun I E=>?_)
 ·refine eA 9 [2] [] ?_;exact⟨vb (by simp[zH, *]),rfl⟩
 refine aF 1 ?_;refine pS jq rfl rfl rfl call153 (ail c) ⟨ot,trivial⟩ ?_;refine eA 9 [2] [] ?_;exact⟨vb (by simp[zH, *]),rfl⟩
theorem Xa(s:ByteArray)(g:Nat)(p:UInt8->Bool)(fY:∀args w,(callFunc g args).run Tryz.prog w = .ok (.enter g args) w)(hp:∀c,VP Tryz.prog G g [.v (.int .u8 ((c).toNat:Int))] (aW (p c)))(hs:s.size<=maxLen):VP Tryz.prog G 151 [aG s,.fg (.func g) []] (ae (jf p s)):=by
 refine bA func151 rfl ntmps151 aO fun X0 w0 bz=>?_;simp only[maxLen] at hs;refine ay [0,1] ?_;refine ay [0,1,5] ?_;refine eZ [0,1] (fun aU _ (k:Nat) aE=>(k<=s.size)/\(∀x∈s.data.toList.take k,p x=true)/\aE=(⟨20,(5,ae (k:Nat))::aU,[]⟩:St)) (fun (k:Nat)=>s.size-k) 0 ⟨(Nat.zero_le _),bC,rfl⟩ ?_;rintro k _ ⟨hk,h0,rfl⟩;refine az 5 ?_;refine cz 10 (fun I E=>?_) (fun I E=>?_)
 ·have nN:k<s.size:=(by omega)
  have vC:s[k]?=some (oc s k):=Oy nN;refine aF 3 ?_;refine qM jq rfl (L4 rfl ot ot runUnderlying9 rfl (by first|assumption|rfl)) ?_;refine nB (f:=g) (args:=[_]) (all:=[_]) jq rfl rfl ot fY (hp (oc s k)) rfl ⟨ot,trivial⟩ (fj _) ?_;rintro _ S2 ⟨rfl,rfl⟩;refine ap 20 [0,1,5,16] ?_;refine bX ?_ ?_<;>intro aP bH
  ·refine bM [0,1,5] ?_;refine⟨(k+1),_,cR,aL,w4,(BB (by rw[lA];exact nN) h0 (by rw[L7];assumption)),rfl⟩
  refine dS [4] [] ?_;refine⟨vi ?_,rfl⟩;first|(rw[Iu hk h0 (fun h=>by omega)];done)|(rw[Iu hk h0 (fun h=>by assumption)];done)
 refine bL [0,1,5,16] ?_;refine gK ?_;refine ay [4] ?_;refine fJ ?_;refine⟨vi ?_,rfl⟩;first|(rw[Iu hk h0 (fun h=>by omega)];done)|(rw[Iu hk h0 (fun h=>by assumption)];done)
theorem aim(E:List ByteArray)(s:ByteArray)(hlen:E.length<=maxLen):VP Tryz.prog G 154 [aj 1 cS E,aG s] (ae (dD (jQ s) E)):=by
 refine bA func154 rfl ntmps154 aO fun X0 w0 bz=>?_;simp only[maxLen] at hlen;refine ay [0,1] ?_;refine ay [0,1,7,8] ?_;refine eZ [0,1,7] (fun aU _ (k:Nat) aE=>(k<=E.length)/\(∀x∈E.take k,jQ s x=false)/\aE=(⟨19,(8,ae (k:Nat))::aU,[]⟩:St)) (fun (k:Nat)=>E.length-k) 0 ⟨(Nat.zero_le _),bC,rfl⟩ ?_;rintro k _ ⟨hk,h0,rfl⟩;refine ax [0,1,7,8,9] ?_ ?_<;>intro aP bH
 ·have aa:k<E.length:=(by omega)
  refine ay [0,1,5,7,8] ?_;refine ax [0,1,5,7,8,16] ?_ ?_<;>intro bg cM
  ·refine dS [4] [] ?_;refine⟨vi ?_,rfl⟩;first|(rw[y9 w4 h0 bg];done)|(rw[xq w4 h0];done)
  refine bM [0,1,7,8] ?_;refine⟨(k+1),_,cR,aL,w4,(BB w4 h0 bg),rfl⟩
 refine dS [4] [] ?_;refine⟨vi ?_,rfl⟩;first|(rw[y9 w4 h0 bg];done)|(rw[xq w4 h0];done)
theorem TP(E:List ByteArray)(s:ByteArray)(hlen:E.length<=maxLen):VP Tryz.prog G 115 [aj 1 cS E,aG s] (aW (E.any (jQ s))):=by
 refine bA func115 rfl ntmps115 aO fun X0 w0 bz=>?_;refine ay [0,1] ?_;refine cW [4] (aim E s hlen) ?_;refine eD [] ?_;exact⟨vb VQ,rfl⟩
theorem qP(hm:(3,marksC)∈G)(t:Tk)(hs:t.s.size<=maxLen):VP Tryz.prog G 114 [.agg (cT t)] (ae (wj t)):=by
 refine bA func114 rfl ntmps114 aO fun X0 w0 bz=>?_;unfold cT;refine cq ?_;refine dm [_,_,_] (fun b1=>?_);refine ap 53 [1] ?_;refine ay [1,3] ?_;refine ay [1,3,8] ?_;refine ax [1,3,8,9] ?_ ?_<;>intro aP bH
 ·refine iX 21 (aq _) ?_ (fun _ h=>h);refine iD [0,1] ?_;refine ew.split (t:=12) lk (fun U=>?_) (fun U=>?_)
  ·have E:=U;(try simp only[V.ox,ne_eq] at E)
   refine iD [2,3,4,5,6] ?_;refine ew.split (t:=17) lk (fun Ad=>?_) (fun Ad=>?_)
   ·have zG:=Ad;(try simp only[V.ox,ne_eq] at zG)
    refine iD [7,8] ?_;refine cm 9 rfl (L4 (c:=oc t.s 0) rfl ot bP runUnderlying9 rfl (Oy (alr wE))) ?_;refine ew.later rfl ?_;refine bV (i:=10) aD ?_;refine Dv rfl jq rfl rfl rfl call150 (UD _) ⟨ot,trivial⟩ ?_;refine dX 11 rfl Cy ?_;refine dX 12 rfl eV ?_;refine HU (t:=23) lk (fun Z=>?_) (fun Z=>?_)
    ·have I:=Z;(try simp only[V.ox,ne_eq] at I)
     refine dX 13 rfl (j3 1) ?_;refine dX 16 rfl (j3 1) ?_;refine mC (i:=14) (j:=17) aD ?_ ?_
     ·refine at_ rfl (gW 0) ?_;refine mC (i:=15) (j:=17) aD ?_ ?_
      ·refine Dv rfl jq rfl rfl rfl call151 (Xa t.s 152 zH call152 VE hs) ⟨ot,vS,trivial⟩ ?_;refine bV (i:=17) aD ?_;refine at_ rfl (gW 0) ?_;refine dX 18 rfl (Hi rfl rfl ot runUnderlying9) ?_;refine dX 19 rfl AE ?_;refine dX 20 rfl Cy ?_;exact z160
      refine at_ rfl (gW 0) ?_;refine dX 18 rfl (Hi rfl rfl ot runUnderlying9) ?_;exact aa4
     refine at_ rfl (gW 0) ?_;refine dX 18 rfl (Hi rfl rfl ot runUnderlying9) ?_;refine bV (i:=14) aD ?_;refine at_ rfl (gW 0) ?_;exact aa4
    have I:=Z;(try simp only[V.ox,ne_eq] at I)
    exact z8
   have zG:=Ad;(try simp only[V.ox,ne_eq] at zG)
   exact aaX
  have E:=U;(try simp only[V.ox,ne_eq] at E)
  refine ou 2 rfl ?_;refine ou 3 rfl ?_;refine ou 4 rfl ?_;refine iD [5,6] ?_;exact aaX
 refine ax [1,3,8,32] ?_ ?_<;>intro bg cM
 ·refine ax [1,36] ?_ ?_<;>intro cl di
  ·refine dS [2] [] ?_;exact Rv
  refine bM [3] ?_;exact aaZ
 refine ax [1,3,8,40] ?_ ?_<;>intro da eP
 ·exact aaZ
 refine ax [1,3,42] ?_ ?_<;>intro eo fR
 ·refine iX 7 (aq _) ?_ (fun _ h=>h);refine iD [0,1] ?_;refine ew.split (t:=45) lk (fun Qm=>?_) (fun Qm=>?_)
  ·have O:=Qm;(try simp only[V.ox,ne_eq] at O)
   refine cm 2 rfl (fw (l:=0) (h:=0) rfl zc trivial trivial (by first|exact Xp (ls:=IZ) (g:=cS) hm rfl rfl runUnderlying233 sizeOf9 rfl w7 w7)) ?_;refine iD [3,4] ?_;refine ew.later rfl ?_;refine bV (i:=5) aD ?_;refine Dv rfl jq rfl rfl rfl call115 (TP IZ t.s w7) ⟨ot,ot,trivial⟩ ?_;refine dX 6 rfl Cy ?_;exact z160
  have O:=Qm;(try simp only[V.ox,ne_eq] at O)
  refine ou 2 rfl ?_;refine ou 3 rfl ?_;refine ou 4 rfl ?_;refine ew.later rfl ?_;refine bV (i:=5) aD ?_;refine rA rfl (oH rfl rfl rfl lk ko) rfl ?_;refine dX 6 rfl zT ?_;refine gd ?_;refine bL [3] ?_;refine ay [52] ?_;refine fu ?_;exact Ru
 refine dS [2] [] ?_;refine⟨vi ?_,rfl⟩;try simp only[xD] at *
 simp only[wj,qs];try simp_all
 try omega
theorem xE(hm:(3,marksC)∈G)(hw:(1,wordsC)∈G)(s:ByteArray)(hs:s.size<=maxLen):VP Tryz.prog G 70 [aG s] (ae (dH s)):=by
 refine bA func70 rfl ntmps70 aO fun X0 w0 bz=>?_;refine ay [0] ?_;refine ax [0,5] ?_ ?_<;>intro aP bH
 ·exact z72
 refine az 2 ?_;refine dK call114 (qP hm ⟨1,s,0⟩ hs) ?_;refine aF 2 ?_;refine cz 10 (fun I E=>?_) (fun I E=>?_)
 ·refine ap 15 [14] ?_;refine fu ?_;exact z72
 refine qM jq rfl (fw (l:=0) (h:=0) rfl zc trivial trivial (by first|exact Xp (ls:=xN) (g:=cS) hw rfl rfl runUnderlying192 sizeOf9 rfl w7 w7)) ?_;refine aF 1 ?_;refine pS jq rfl rfl rfl call115 (TP xN s w7) ⟨ot,ot,trivial⟩ ?_;refine ap 15 [14] ?_;refine bX ?_ ?_<;>intro bg cM
 ·exact z72
 refine dS [2] [] ?_;refine⟨vi ?_,rfl⟩;try simp only[T1] at *
 simp only[dH];first|(rw[if_pos w4];done)|(rw[if_neg w4];cases h1:qs s<;>cases h2:xN.any (jQ s)<;>simp_all)
def wb(c:UInt8):UInt8:=UInt8.ofNat (97+c.toNat % 26)
theorem alH(c:UInt8):(wb c).toNat=97+c.toNat % 26:=by
 have:c.toNat % 26<26:=Nat.mod_lt _ w7;unfold wb;rw[UInt8.toNat_ofNat'];exact Nat.mod_eq_of_lt w4
theorem ajU(c:UInt8):IntKind.u8.wrap (97+(c.toNat:Int).tmod 26)=((wb c).toNat:Int):=by
 rw[alH];have h1:(c.toNat:Int).tmod 26=((c.toNat % 26:Nat):Int):=rfl;have:c.toNat % 26<26:=Nat.mod_lt _ w7;rw[h1];have e:(97+((c.toNat % 26:Nat):Int))=((97+c.toNat % 26:Nat):Int):=(by omega)
 rw[e];show((97+c.toNat % 26:Nat):Int) % 256=_;omega
def Cb(s:ByteArray):List UInt8:=if s.size=0 then [120] else (s.data.toList.take 6).map wb
def xU(s:ByteArray):ByteArray:=⟨(Cb s).toArray⟩
theorem Vr{s:ByteArray}(h:k<s.size):(s.data.toList.take k).map wb++[wb (oc s k)]=(s.data.toList.take (k+1)).map wb:=by
 have h':k<s.data.toList.length:=(by rw[lA];exact h)
 rw[take_succ_eq_append_getElem h',map_append,L7 h'];rfl
theorem Vy{s:ByteArray}(hk:k<=s.size)(h:k=s.size\/6<=k)(h6:k<=6):(s.data.toList.take k)=s.data.toList.take 6:=by
 rcases h with h|h
 ·rw[take_of_length_le (by rw[lA];omega),take_of_length_le (by rw[lA];omega)]
 rw[show k=6 by omega]
theorem agt:(Tryz.prog.info? 5).map (fun i=>(i.zero,i.size,i.bytes))=some (some (.int .u8 0),1,1):=by kernel_rfl
theorem tZ(s:ByteArray)(hs:s.size<=maxLen):VP Tryz.prog G 40 [aG s] (aG (xU s)):=by
 refine bA func40 rfl ntmps40 aO fun X0 w0 bz=>?_;simp only[maxLen] at hs;refine ay [0] ?_;refine cq ?_;refine bL [0,3] ?_;refine ay [0,3,4] ?_;refine kU ?_;refine oB (fun (aR:Nat×Option Addr×Nat×List ag) aE=>match aR with|(k,I,O,Sb)=>(k<=s.size)/\(k<=6)/\(bF 5 1 (((s.data.toList.take k).map wb).flatMap cB) ((s.data.toList.take k).map wb).length I O Sb)/\aE=(⟨28,[(0,aG s),(3,aS I ((s.data.toList.take k).map wb).length O),(4,ae (k:Nat))],(Sb)⟩:St)) (fun (aR:Nat×Option Addr×Nat×List ag)=>match aR with|(k,I,O,Sb)=>s.size-k) (0,none,0,[]) ⟨(Nat.zero_le _),(Nat.zero_le _),(bF.cast jt lU),rfl⟩ (aL (h:=w74)) ?_;rintro⟨k,I,O,Sb⟩ _ ⟨hk,h6,U,rfl⟩;refine az 5 ?_;refine cz 9 (fun Se aoN=>?_) (fun Se aoN=>?_)
 ·refine bL [0,3,4,12] ?_;refine bX ?_ ?_<;>intro aP bH
  ·refine dB 2 ?_;have nN:k<s.size:=(by omega)
   have vC:s[k]?=some (oc s k):=Oy nN;refine aF 1 ?_;refine bS (L4 rfl ot ot runUnderlying9 rfl (by first|assumption|rfl)) ?_;refine bS (eE rfl ot bP (NB w4)) ?_;refine bS (eE (r:=.int .u8 ((wb (oc s k)).toNat:Int)) rfl bP ot (mB (ajU _))) ?_;refine eR (cU 0 [_]) [.int .u8 0] [_] zeroValue5 runUnderlying83 sizeOf5 (fun Gj=>?_);refine gb 0 21 1 1 ?_;refine gi (ls:=((s.data.toList.take k).map wb)) (new:=[wb (oc s k)]) (Sq:=Sb) qS zz au rfl rfl underlying83 agt rfl w7 ot U (dL (A:=[])) ot bC x7 jk (fun Z E aoO aoP=>?_);refine cg (eM (S1:=[⟨Z,5,E*1,flatMap cB (((s.data.toList.take k).map wb)++[wb (oc s k)])⟩]) (A:=[])) ?_;refine ap 28 [0,3,4] ?_;refine bM [0,3,4] ?_;refine⟨((k+1),(some ⟨Z,0,none⟩),E,[⟨Z,5,E*1,flatMap cB (((s.data.toList.take k).map wb)++[wb (oc s k)])⟩]),_,cR,(aL (h:=w74)),w4,w4,(bF.cast (cj aoO aoP) (by exact Vr nN)),rfl⟩
  refine ax [3,25] ?_ ?_<;>intro bg cM
  ·refine ay [2] ?_;refine fJ ?_;exact RB
  refine az 1 ?_;refine qN (t:=26) (Sq:=Sb) lk U (dg qS _) (dL (A:=[])) ?_;refine bS Ay ?_;refine eA 28 [2] [] ?_;exact RB
 refine bL [0,3,4,12] ?_;refine gK ?_;refine ax [3,25] ?_ ?_<;>intro bg cM
 ·refine ay [2] ?_;refine fJ ?_;exact RB
 refine az 1 ?_;refine qN (t:=26) (Sq:=Sb) lk U (dg qS _) (dL (A:=[])) ?_;refine bS Ay ?_;refine eA 28 [2] [] ?_;refine⟨vs ?_,rfl⟩;have C5:k=s.size\/6<=k:=(by omega)
 have P4:min k s.size=k:=Nat.min_eq_left hk;simp only[length_map,length_take,lA,P4] at *;unfold xU Cb;first|(rw[if_pos w4];done)|(rw[if_neg w4,Vy hk C5 h6])
abbrev MarksTab(w:World):Prop:=Tab.lS w 3 marksC
end Nm
namespace Pk
open Go.Proofs.Tryz
open Go.RowKit V
def cN(n m:Int):Int:=if n<0 then (-(n+1)).tmod m else n.tmod m
theorem iK(n:Int){m:Int}(h:1<=m):0<=cN n m/\cN n m<m:=by
 have key:∀k:Int,0<=k->0<=k.tmod m/\k.tmod m<m:=fun k hk=>⟨Int.tmod_nonneg _ hk,Int.tmod_lt_of_pos _ w4⟩
 unfold cN;split
 ·exact key _ w4
 exact key _ w4
variable (G:List (Nat×List Value))
theorem jU(n m:Int)(hn:-9223372036854775808<=n)(gZ:n<=9223372036854775807)(hm:1<=m):VP Tryz.prog G 11 [ae n,ae m] (ae (cN n m)):=by
 refine bA func11 rfl ntmps11 aO fun X0 w0 bz=>?_;refine ay [0,1] ?_;refine ax [0,1,6] ?_ ?_<;>intro aP bH
 ·refine fW [0,1] ?_;refine aM 2 ?_ (h:=by exact(HR rfl ot (Ow (r:=-(n+1)) (by rw[wrap_i64]<;>omega))));refine bB ?_;refine cJ [4] ?_;refine aM 2 ?_ (h:=by exact(eE rfl ot ot (NB w4)));refine bB ?_;refine eD [] ?_;exact⟨by unfold cN;split<;>first|rfl|omega,rfl⟩
 refine cJ [4] ?_;refine aM 2 ?_ (h:=by exact(eE rfl ot ot (NB w4)));refine bB ?_;refine eD [] ?_;exact⟨by unfold cN;split<;>first|rfl|omega,rfl⟩
end Pk
namespace Nm
open Go.Proofs.Tryz
open Go.RowKit V Pk
variable {l:List UInt8}
theorem mk_data(l:List UInt8):(⟨l.toArray⟩:ByteArray).data.toList=l:=rfl
theorem NE(l:List UInt8):(⟨l.toArray⟩:ByteArray).size=l.length:=by rw[<-lA]
theorem agu(s:ByteArray):1<=(Cb s).length/\(Cb s).length<=6:=by
 unfold Cb;split
 ·exact⟨by decide,by decide⟩
 rw[length_map,length_take,lA];omega
theorem TE{p:UInt8->Bool}:∀{l:List UInt8},(∀c∈l,p c=true)->l.takeWhile p=l
 | [],_=>rfl
 | a::l,h=>by rw[takeWhile_cons,if_pos (h a mem_cons_self),TE fun c hc=>h c (mem_cons_of_mem _ hc)]
theorem TH{c:UInt8}(h:97<=c.toNat/\c.toNat<=122):zl c=true:=by unfold zl;exact decide_eq_true (.inl h)
theorem tU(h1:1<=l.length)(h:∀c∈l,97<=c.toNat/\c.toNat<=122):qs ⟨l.toArray⟩=true:=by
 unfold qs jf;rw[NE,mk_data,TE fun c hc=>by unfold zH;rw[TH (h c hc)];rfl];have h0:oc ⟨l.toArray⟩ 0∈l:=by
  exact aaP
 rw[TH (h _ h0)];have:l.length≠0:=(by omega)
 simp[this]
theorem aff:∀x∈xN,(oc x 0).toNat<=90:=by decide
theorem afG(h1:1<=l.length)(h:∀c∈l,97<=c.toNat/\c.toNat<=122):xN.any (jQ ⟨l.toArray⟩)=false:=by
 rw[any_eq_false];intro x hx he;have he:=vY.1 he;have h0:oc ⟨l.toArray⟩ 0∈l:=by
  exact aaP
 have:=h _ h0;have h2:=aff x hx;rw[<-he] at h2;omega
theorem vP(h1:1<=l.length)(E:l.length<=8)(h:∀c∈l,97<=c.toNat/\c.toNat<=122):dH ⟨l.toArray⟩=0:=by
 unfold dH;rw[NE,if_neg w4,tU h1 h,afG h1 h];rfl
theorem TY(s:ByteArray):1<=(xU s).size/\(xU s).size<=6:=by unfold xU;rw[NE];exact agu s
variable {G:List (Nat×List Value)}
abbrev WordsTab(w:World):Prop:=Tab.lS w 1 wordsC
end Nm
namespace Vl
open Go.Proofs.Tryz
open Go.RowKit V Pk
structure Vl where
 k:Int
 n:Int
 s:ByteArray
def cV(v:Vl):List D:=[ae v.k,ae v.n,aG v.s]
theorem fX(v:Vl):(cV v).length=3:=rfl
theorem I1(v:Vl):(cV v).all V.one=true:=rfl
structure Vl.Ok (v:Vl):Prop where
 k1:-9223372036854775808<=v.k
 k2:v.k<=9223372036854775807
 n1:-9223372036854775808<=v.n
 n2:v.n<=9223372036854775807
 s:v.s.size<=maxLen
def aX:Vl:=⟨0,0,⟨#[]⟩⟩
def bW(v:Vl):Int :=
 if v.k=0 then (if v.n≠0\/v.s.size≠0 then 6 else 0)
 else if v.k=1 then (if v.n<0\/v.n>1\/v.s.size≠0 then 6 else 0)
 else if v.k=2 then (if v.s.size≠0 then 6 else 0)
 else if v.k=3 then (if v.n≠0 then 6 else if v.s.size>20 then 1 else 0)
 else 2
def pG(s:ByteArray)(m:Nat):ByteArray:=s.extract 0 (min s.size m)
def rG(r:Vl):Vl :=
 if cN r.k 4=1 then ⟨1,cN r.n 2,⟨#[]⟩⟩
 else if cN r.k 4=2 then ⟨2,r.n,⟨#[]⟩⟩
 else if cN r.k 4=3 then ⟨3,0,pG r.s 10⟩
 else aX
theorem UE(s:ByteArray)(m:Nat):(pG s m).data.toList=s.data.toList.take m:=by
 unfold pG;rw[ByteArray.data_extract,Array.toList_extract];simp only[extract_eq_take_drop,drop_zero,Nat.sub_zero];rw[<-lA];rcases Nat.le_total s.data.toList.length m with h|h
 ·rw[Nat.min_eq_left h,take_length,take_of_length_le h]
 rw[Nat.min_eq_right h]
theorem Mm(s:ByteArray)(m:Nat):(pG s m).size=min s.size m:=by
 rw[<-lA,UE,length_take,lA,Nat.min_comm]
variable {G:List (Nat×List Value)}
theorem qP(v:Vl):VP Tryz.prog G 54 [.agg (cV v)] (ae (bW v)):=by
 refine bA func54 rfl ntmps54 aO fun X0 w0 bz=>?_;unfold cV;refine cq ?_;refine dm [_,_,_] (fun b1=>?_);refine ap 44 [1] ?_;refine ay [1,4] ?_;refine ax [1,4,5] ?_ ?_<;>intro aP bH
 ·refine az 4 ?_;refine cz 10 (fun U E=>?_) (fun U E=>?_)
  ·refine bL [14] ?_;refine fu ?_;exact z168
  refine bL [14] ?_;refine bX ?_ ?_<;>intro bg cM
  ·exact z168
  exact z168
 refine ax [1,4,15] ?_ ?_<;>intro cl di
 ·refine az 4 ?_;refine cz 20 (fun Z I=>?_) (fun Z I=>?_)
  ·refine bL [29] ?_;refine fu ?_;exact z168
  refine aF 5 ?_;refine cz 25 (fun aoQ O=>?_) (fun aoQ O=>?_)
  ·refine bL [29] ?_;refine fu ?_;exact z168
  refine bL [29] ?_;refine bX ?_ ?_<;>intro da eP
  ·exact z168
  exact z168
 refine ax [1,4,30] ?_ ?_<;>intro eo fR
 ·refine ax [34] ?_ ?_<;>intro fH ik
  ·exact E4
  exact E4
 refine ax [1,35] ?_ ?_<;>intro iu qa
 ·refine ax [1,39] ?_ ?_<;>intro iE nJ
  ·exact E4
  refine ax [43] ?_ ?_<;>intro sb CE
  ·exact E4
  exact E4
 refine dS [2] [] ?_;refine⟨vi ?_,rfl⟩;try simp only[xD] at *
 unfold bW;simp_all;try omega
theorem IW(s:ByteArray)(m:Nat)(hs:s.size<=maxLen):VP Tryz.prog G 41 [aG s,ae (m:Int)] (aG (pG s m)):=by
 refine bA func41 rfl ntmps41 aO fun X0 w0 bz=>?_;simp only[maxLen] at hs;refine ay [0,1] ?_;refine cJ [4] ?_;refine aM 4 ?_ (h:=by exact(aeM (r:=.int .i64 ((min s.size m:Nat):Int)) rfl ot ot (fun cs w=>(alm cs w).trans (by split<;>(congr 3;omega)))));refine aM 0 ?_ (h:=by exact(fw (l:=0) rfl ot trivial ⟨_,ot⟩ (by first|exact alp (fun _=>rfl) (fun h=>by cases h) runUnderlying9 w4 w4)));refine bB ?_;refine eD [] ?_;exact⟨by first|rfl|(simp[*];done),rfl⟩
theorem VD(r:Vl)(h:r.Ok):VP Tryz.prog G 113 [.agg (cV r)] (.agg (cV (rG r))):=by
 refine bA func113 rfl ntmps113 aO fun X0 w0 bz=>?_;unfold cV;refine cq ?_;refine dm [_,_,_] (fun b1=>?_);refine cD (ds:=[_,_,_]) au rfl rfl zeroValue36 rfl (fun b2=>?_);refine ap 29 [1,2] ?_;refine cW [1,2,3] (jU G r.k 4 h.k1 h.k2 w7) ?_;refine ay [1,2,3,7] ?_;refine ax [1,2,3,7,8] ?_ ?_<;>intro aP bH
 ·refine az 3 ?_;refine dK call11 (jU G r.n 2 h.n1 h.n2 w7) ?_;refine aF 1 ?_;exact P7
 refine ax [1,2,3,7,15] ?_ ?_<;>intro bg cM
 ·refine az 4 ?_;exact P7
 refine ax [1,2,3,21] ?_ ?_<;>intro cl di
 ·refine az 3 ?_;refine dK call41 (IW r.s 10 h.s) ?_;refine aF 1 ?_;exact P7
 refine az 1 ?_;refine aN 0 [_,_,_] sizeOf36 ?_;refine eA 29 [2] [] ?_;refine⟨?_,rfl⟩;unfold rG aX;simp_all
end Vl
namespace Nm
open Go.Proofs.Tryz
open Go.RowKit V Pk Vl
variable {i:Nat} {h:Int}
theorem amZ(x y:Vl):∀w,(Op.equalIn 10000 36 (.agg [.int .i64 x.k,.int .i64 x.n,.string x.s].toArray) (.agg [.int .i64 y.k,.int .i64 y.n,.string y.s].toArray)).run Tryz.prog w = .ok (x.k==y.k&&(x.n==y.n&&x.s.toList==y.s.toList)) w:=fun w=>by
 have hS:Tryz.prog.underlying 36=some (.struct (Tryz.prog.fieldsOf 36)):=(by kernel_rfl)
 have hp:Tryz.prog.stoodInHeld 36=false:=(by kernel_rfl)
 rw[show(10000:Nat)=9999+1 from rfl,run_equalIn_agg w 9999 36 _ _ hS hp];have u:=underlying36;have E:=underlying3;have I:=underlying9;have a3:=isAgg3;have a9:=isAgg9;have O:=sizeOf3;have U:=sizeOf9;simp only[Program.fieldsOf,u];go_simp
 by_cases h1:x.k=y.k<;>by_cases h2:x.n=y.n<;>by_cases h3:x.s.toList=y.s.toList<;>simp[h1,h2,h3]
def jj(v:Vl):Int:=if v.k=2/\v.n = -9223372036854775808 then 3 else bW v
structure aQ where
 k:Int
 v:Vl
 nm:ByteArray
variable {l:List aQ}
def cO(o:aQ):List D:=[ae o.k,ae o.v.k,ae o.v.n,aG o.v.s,aG o.nm]
theorem mU(o:aQ):(cO o).length=5:=rfl
theorem Ot(o:aQ):(cO o).all V.one=true:=rfl
def cn(k:Int):Int:=if k=1\/k=2 then 0 else if k=5\/k=11 then 1 else 2
theorem wc(k:Int):0<=cn k/\cn k<=2:=by unfold cn;split<;>(try split)<;>omega
def zeroV(v:Vl):Bool:=v.k==0&&(v.n==0&&v.s.toList==(⟨#[]⟩:ByteArray).toList)
def ga(h:Int)(o:aQ):Int :=
 if o.k<1\/o.k>11 then 2
 else if jj o.v≠0 then jj o.v
 else if ((o.k != 1 && !(zeroV o.v))||(o.k != 2 && !(o.nm.toList==(⟨#[]⟩:ByteArray).toList)))=true then 6
 else if o.k=2/\dH o.nm≠0 then dH o.nm
 else if h<cn o.k then 7 else 0
def gH:Int->List aQ->Int
 | h,[]=>if h=1 then 0 else 7
 | h,o::r=>if ga h o=0 then gH (h+(1-cn o.k)) r else ga h o
def jw(l:List aQ):Int:=if l.length>40 then 10 else gH 0 l
theorem V0(hi:i<l.length)(he:ga h l[i]=0):gH h (l.drop i)=gH (h+(1-cn l[i].k)) (l.drop (i+1)):=by
 rw[drop_eq_getElem_cons hi,gH,if_pos he]
theorem Vw{e:Int}(hi:i<l.length)(he:ga h l[i]=e)(h0:e≠0):gH h (l.drop i)=e:=by
 rw[drop_eq_getElem_cons hi,gH,if_neg (by rw[he];exact h0),he]
theorem UF(hi:l.length<=i):gH h (l.drop i)=if h=1 then 0 else 7:=by
 rw[drop_of_length_le hi,gH]
variable {G:List (Nat×List Value)}
theorem T7(v:Vl):VP Tryz.prog G 119 [.agg (cV v)] (ae (jj v)):=by
 refine bA func119 rfl ntmps119 aO fun X0 w0 bz=>?_;unfold cV;refine cq ?_;refine dm [_,_,_] (fun b1=>?_);refine ap 13 [1] ?_;refine az 4 ?_;refine cz 6 (fun I E=>?_) (fun I E=>?_)
 ·refine bL [1,10] ?_;refine bX ?_ ?_<;>intro aP bH
  ·refine ay [2] ?_;refine fJ ?_;refine⟨vi ?_,rfl⟩;unfold jj;simp_all
  refine cW [2] (Vl.qP v) ?_;refine fJ ?_;refine⟨vi ?_,rfl⟩;unfold jj;simp_all
 refine bL [1,10] ?_;refine gK ?_;refine cW [2] (Vl.qP v) ?_;refine fJ ?_;refine⟨vi ?_,rfl⟩;unfold jj;simp_all
theorem NF(k:Int):VP Tryz.prog G 121 [ae k] (ae (cn k)):=by
 refine bA func121 rfl ntmps121 aO fun X0 w0 bz=>?_;exact z44
theorem NG(hm:(3,marksC)∈G)(hw:(1,wordsC)∈G)(l:List aQ)(hs:∀o∈l,o.nm.size<=maxLen):VP Tryz.prog G 76 [aj 5 cO l] (ae (jw l)):=by
 refine bA func76 rfl ntmps76 aO fun X0 w0 bz=>?_;have Sg:l.length<=40\/40<l.length:=(by omega)
 refine ay [0] ?_;refine ax [0,10] ?_ ?_<;>intro aP bH
 ·have hf:jw l=10:=if_pos w4;refine dS [2] [] ?_;exact z31
 have hf:jw l=gH 0 l:=if_neg w4;have sC:l.length<=40:=(by omega)
 refine ay [0,3] ?_;refine ay [3,11,12,13] ?_;refine eZ [11,12] (fun aU _ (aR:Nat×Int) aE=>match aR with|(i,h)=>(i<=l.length)/\(gH 0 l=gH h (l.drop i))/\(0<=h)/\(h<=i)/\aE=(⟨73,(3,ae h)::(13,ae (i:Nat))::aU,[]⟩:St)) (fun (aR:Nat×Int)=>match aR with|(i,h)=>l.length-i) (0,0) ⟨(Nat.zero_le _),rfl,(Int.le_refl _),(Int.le_refl _),rfl⟩ ?_;rintro⟨i,h⟩ _ ⟨hi,hx,h0,hh,rfl⟩;refine ax [3,11,12,13,14] ?_ ?_<;>intro bg cM
 ·have aa:i<l.length:=(by omega)
  have Gk:=wc l[i].k;refine az 2 ?_;refine cD (ds:=[_,_,_,_,_]) au rfl rfl zeroValue38 rfl (fun b5=>?_);refine aN 0 [_,_,_,_,_] sizeOf38 ?_;refine ap 73 [3,5,11,12,13] ?_;refine az 4 ?_;refine cz 20 (fun aoR O9=>?_) (fun aoR O9=>?_)
  ·refine bL [3,5,11,12,13,24] ?_;refine fu ?_;have zZ:ga h l[i]=2:=(by unfold ga;rw[if_pos w4])
   exact Cx
  refine bL [3,5,11,12,13,24] ?_;refine bX ?_ ?_<;>intro cl di
  ·have zZ:ga h l[i]=2:=(by unfold ga;rw[if_pos w4])
   exact Cx
  have eK:¬(l[i].k<1\/l[i].k>11):=(by omega)
  refine cW [3,5,6,11,12,13] (T7 l[i].v) ?_;refine ax [3,5,6,11,12,13,29] ?_ ?_<;>intro da eP
  ·have E:jj l[i].v≠0:=(by simpa using da)
   have zZ:ga h l[i]=jj l[i].v:=(by unfold ga;rw[if_neg eK,if_pos E])
   exact Cx
  have E:jj l[i].v=0:=(by simpa using da)
  refine eI ?_;refine cL ?_;refine iM [3,5,11,12,13] (fun aU j4 aE=>∃(q:Bool),(q=((l[i].k != 1 && !(zeroV l[i].v))||(l[i].k != 2 && !(l[i].nm.toList==(⟨#[]⟩:ByteArray).toList))))/\aE=(⟨73,(49,aW q)::aU,j4⟩:St)) ?_ ?_
  ·refine dB 4 ?_;refine cz 34 (fun aoS am0=>?_) (fun aoS am0=>?_)
   ·refine aF 3 ?_;refine qM jq rfl (Uv (us:=[_,_,_]) (Da:=[_,_,_]) rfl ot ot eqGuardType36 (amZ l[i].v ⟨0,0,⟨#[]⟩⟩)) ?_;refine aF 2 ?_;refine cz 40 (fun Qf O6=>?_) (fun Qf O6=>?_)
    ·refine ap 73 [3,5,11,12,13,49] ?_;exact z130
    refine aF 4 ?_;refine cz 44 (fun Z I=>?_) (fun Z I=>?_)
    ·refine ap 73 [3,5,11,12,13,49] ?_;exact z130
    refine ap 73 [3,5,11,12,13,49] ?_;exact z130
   refine AM 4 ?_;refine aF 6 ?_;refine cz 44 (fun Z I=>?_) (fun Z I=>?_)
   ·refine bL [3,5,11,12,13,49] ?_;exact z130
   refine bL [3,5,11,12,13,49] ?_;exact z130
  rintro _ ⟨q,hq,rfl⟩;refine bX ?_ ?_<;>intro eo fR
  ·have zZ:ga h l[i]=6:=(by unfold ga;rw[if_neg eK,if_neg (by rw[E];simp),if_pos (by rw[<-hq];exact eo)])
   exact Cx
  have O:¬((l[i].k != 1 && !(zeroV l[i].v))||(l[i].k != 2 && !(l[i].nm.toList==(⟨#[]⟩:ByteArray).toList)))=true:=(by rw[<-hq,eo];simp)
  refine eI ?_;refine iM [3,5,11,12,13] (fun aU j4 aE=>(¬(l[i].k=2/\dH l[i].nm≠0))/\aE=(⟨73,aU,j4⟩:St)) ?_ ?_
  ·refine ax [3,5,11,12,13,52] ?_ ?_<;>intro fH ik
   ·refine cW [3,5,7,11,12,13] (xE hm hw l[i].nm (hs _ (getElem_mem aa))) ?_;refine ax [3,5,7,11,12,13,57] ?_ ?_<;>intro iu qa
    ·have yK:dH l[i].nm≠0:=(by simpa using iu)
     have zZ:ga h l[i]=dH l[i].nm:=(by unfold ga;rw[if_neg eK,if_neg (by rw[E];simp),if_neg O,if_pos ⟨by simpa using fH,yK⟩])
     exact Cx
    have U:¬(l[i].k=2/\dH l[i].nm≠0):=(by simp at iu;simp[iu])
    refine eI ?_;refine⟨_,aL,U,rfl⟩
   have U:¬(l[i].k=2/\dH l[i].nm≠0):=(by simp at fH;simp[fH])
   refine eI ?_;refine⟨_,aL,U,rfl⟩
  rintro _ ⟨U,rfl⟩;refine cW [3,5,11,12,13,63] (NF l[i].k) ?_;refine bX ?_ ?_<;>intro iE nJ
  ·have F8:h<cn l[i].k:=(by simpa using iE)
   have zZ:ga h l[i]=7:=(by unfold ga;rw[if_neg eK,if_neg (by rw[E];simp),if_neg O,if_neg U,if_pos F8])
   exact Cx
  have F8:¬h<cn l[i].k:=(by simpa using iE)
  have bf:ga h l[i]=0:=(by unfold ga;rw[if_neg eK,if_neg (by rw[E];simp),if_neg O,if_neg U,if_neg F8])
  refine fW [3,11,12,13] ?_;refine cA (NF l[i].k) ?_;refine bB ?_;refine bM [3,11,12,13] ?_;refine⟨((i+1),(h+(1-cn l[i].k))),_,cR,aL,w4,(by rw[hx];exact V0 aa bf),w4,(by have:=wc l[i].k;omega),rfl⟩
 have fG:=hx.trans (UF (show l.length<=i by omega));refine ax [72] ?_ ?_<;>intro sb CE
 ·refine dS [2] [] ?_;exact z31
 refine dS [2] [] ?_;refine⟨vi ?_,rfl⟩;first|exact hf.symm|(rw[hf,hx,Vw aa zZ (by first|assumption|decide)];done)|(rw[hf,fG,if_pos (by simpa using sb)];done)|(rw[hf,fG,if_neg (by simpa using sb)];done)
end Nm
end Go.Proofs.YtihmfhcjbmlnaaaGreatDoor
namespace Go.Proofs
open Go.Shelf
def Tryz.afg:Go.Shelf.Ren:=⟨fun|106=>174|213=>190|265=>200|n=>n,fun|9=>9|3=>3|n=>n,fun|n=>n⟩
theorem Tryz.ajV:Go.Proofs.Lays.n106 Tryz.prog Tryz.afg:={
 mixed:=by kernel_rfl
 f106:=Tryz.func174.trans (congrArg some (by kernel_rfl))
 f213:=Tryz.func190.trans (congrArg some (by kernel_rfl))
 f265:=Tryz.func200.trans (congrArg some (by kernel_rfl))
 t3:=Tryz.underlying3
 a3:=Tryz.isAgg3
 z3:=Tryz.sizeOf3
 v3:=Tryz.zeroValue3
 t9:=Tryz.underlying9
 a9:=Tryz.isAgg9
 z9:=Tryz.sizeOf9
 v9:=Tryz.zeroValue9}
open Go.RowKit in
theorem Tryz.strings_Compare(a b:ByteArray)(w:World) :
  Calls Tryz.prog 174 #[.string a,.string b] w fun e w'=>e = .returned (.int .i64 (Lib.compareBytes a.data.toList b.data.toList))/\w'=w:=Any.strings_Compare Tryz.ajV a b w
def Tryz.TQ:Go.Shelf.Ren:=⟨fun|155=>55|154=>94|138=>129|165=>130|143=>131|166=>132|197=>133|169=>134|195=>157|218=>158|240=>159|241=>160|219=>161|260=>162|276=>180|277=>181|217=>182|225=>183|224=>184|267=>185|266=>195|314=>196|n=>n,fun|9=>9|3=>3|4=>4|72=>205|0=>0|76=>209|105=>211|21=>21|5=>5|70=>203|20=>20|37=>83|75=>208|127=>240|164=>256|46=>259|119=>260|139=>263|138=>262|146=>271|51=>270|80=>213|n=>n,fun|1=>2|3=>4|4=>5|n=>n⟩
theorem Tryz.ajW:Go.Proofs.Lays.n155 Tryz.prog Tryz.TQ:={
 mixed:=by kernel_rfl
 f138:=Tryz.func129.trans (congrArg some (by kernel_rfl))
 f143:=Tryz.func131.trans (congrArg some (by kernel_rfl))
 f154:=Tryz.func94.trans (congrArg some (by kernel_rfl))
 f155:=Tryz.func55.trans (congrArg some (by kernel_rfl))
 f165:=Tryz.func130.trans (congrArg some (by kernel_rfl))
 f166:=Tryz.func132.trans (congrArg some (by kernel_rfl))
 f169:=Tryz.func134.trans (congrArg some (by kernel_rfl))
 f195:=Tryz.func157.trans (congrArg some (by kernel_rfl))
 f197:=Tryz.func133.trans (congrArg some (by kernel_rfl))
 f217:=Tryz.func182.trans (congrArg some (by kernel_rfl))
 f218:=Tryz.func158.trans (congrArg some (by kernel_rfl))
 f219:=Tryz.func161.trans (congrArg some (by kernel_rfl))
 f224:=Tryz.func184.trans (congrArg some (by kernel_rfl))
 f225:=Tryz.func183.trans (congrArg some (by kernel_rfl))
 f240:=Tryz.func159.trans (congrArg some (by kernel_rfl))
 f241:=Tryz.func160.trans (congrArg some (by kernel_rfl))
 f260:=Tryz.func162.trans (congrArg some (by kernel_rfl))
 f266:=Tryz.func195.trans (congrArg some (by kernel_rfl))
 f267:=Tryz.func185.trans (congrArg some (by kernel_rfl))
 f276:=Tryz.func180.trans (congrArg some (by kernel_rfl))
 f277:=Tryz.func181.trans (congrArg some (by kernel_rfl))
 f314:=Tryz.func196.trans (congrArg some (by kernel_rfl))
 t0:=Tryz.underlying0
 a0:=Tryz.isAgg0
 z0:=Tryz.sizeOf0
 v0:=Tryz.zeroValue0
 t3:=Tryz.underlying3
 a3:=Tryz.isAgg3
 z3:=Tryz.sizeOf3
 v3:=Tryz.zeroValue3
 t4:=Tryz.underlying4
 a4:=Tryz.isAgg4
 z4:=Tryz.sizeOf4
 v4:=Tryz.zeroValue4
 t5:=Tryz.underlying5
 a5:=Tryz.isAgg5
 z5:=Tryz.sizeOf5
 v5:=Tryz.zeroValue5
 t9:=Tryz.underlying9
 a9:=Tryz.isAgg9
 z9:=Tryz.sizeOf9
 v9:=Tryz.zeroValue9
 t20:=Tryz.underlying20
 a20:=Tryz.isAgg20
 z20:=Tryz.sizeOf20
 v20:=Tryz.zeroValue20
 t21:=Tryz.underlying21
 a21:=Tryz.isAgg21
 z21:=Tryz.sizeOf21
 v21:=Tryz.zeroValue21
 t37:=Tryz.underlying83
 a37:=Tryz.isAgg83
 z37:=Tryz.sizeOf83
 v37:=Tryz.zeroValue83
 t46:=Tryz.underlying259
 a46:=Tryz.isAgg259
 z46:=Tryz.sizeOf259
 v46:=Tryz.zeroValue259
 t51:=Tryz.underlying270
 a51:=Tryz.isAgg270
 z51:=Tryz.sizeOf270
 v51:=Tryz.zeroValue270
 t70:=Tryz.underlying203
 a70:=Tryz.isAgg203
 z70:=Tryz.sizeOf203
 v70:=Tryz.zeroValue203
 t72:=Tryz.underlying205
 a72:=Tryz.isAgg205
 z72:=Tryz.sizeOf205
 v72:=Tryz.zeroValue205
 t75:=Tryz.underlying208
 a75:=Tryz.isAgg208
 z75:=Tryz.sizeOf208
 v75:=Tryz.zeroValue208
 t76:=Tryz.underlying209
 a76:=Tryz.isAgg209
 z76:=Tryz.sizeOf209
 v76:=Tryz.zeroValue209
 t105:=Tryz.underlying211
 a105:=Tryz.isAgg211
 z105:=Tryz.sizeOf211
 v105:=Tryz.zeroValue211
 t119:=Tryz.underlying260
 a119:=Tryz.isAgg260
 z119:=Tryz.sizeOf260
 t127:=Tryz.underlying240
 a127:=Tryz.isAgg240
 z127:=Tryz.sizeOf240
 v127:=Tryz.zeroValue240
 t138:=Tryz.underlying262
 a138:=Tryz.isAgg262
 z138:=Tryz.sizeOf262
 v138:=Tryz.zeroValue262
 t139:=Tryz.underlying263
 a139:=Tryz.isAgg263
 z139:=Tryz.sizeOf263
 v139:=Tryz.zeroValue263
 t146:=Tryz.underlying271
 a146:=Tryz.isAgg271
 z146:=Tryz.sizeOf271
 v146:=Tryz.zeroValue271
 t164:=Tryz.underlying256
 a164:=Tryz.isAgg256
 z164:=Tryz.sizeOf256
 v164:=Tryz.zeroValue256
 g1:=by kernel_rfl
 g3:=by kernel_rfl
 g4:=by kernel_rfl}
theorem Tryz.ael:Builder.Extra Tryz.prog Tryz.TQ:={
 sizeBuilder:=by kernel_rfl
 liesBuilder:=by kernel_rfl
 t5:=Tryz.underlying5
 a5:=Tryz.isAgg5
 z5:=Tryz.sizeOf5
 v5:=Tryz.zeroValue5
 infoByte:=by kernel_rfl
 cellsByte:=by kernel_rfl
 sizeByte:=by kernel_rfl
 neB5:=by decide}
open Go.RowKit Go.Lib in
theorem Tryz.strings_ReplaceAll(s old new:ByteArray)(m:Int)(w:World)(hs:s.size<4294967281)(hm:w.cell? ⟨2,0,none⟩=some (.int .i64 m))(h1:1<=old.size)(hlen:s.size+Lib.countB s old*new.size<=140737488355328) :
  Calls Tryz.prog 55 #[.string s,.string old,.string new] w fun e w' =>
   e = .returned (.string ⟨(Lib.replaceAll s.data.toList old.data.toList new.data.toList).toArray⟩)/\Below w.heap.size w w':=Any.strings_ReplaceAll Tryz.ajW Tryz.ael s old new m w hs hm h1 hlen
end Go.Proofs
namespace Go.Proofs.YtihmfhcjbmlnaaaGreatDoor
namespace Cd
open List
open Go.Proofs.Tryz
open Go.RowKit V Pk Vl
variable {v:Vl}
theorem V1(c:UInt8)(new:List UInt8):∀s:List UInt8,Lib.replaceK [c] new (s.count c) s=s.flatMap fun b=>if b=c then new else [b]
 | []=>rfl
 | b::l=>by
  have ih:=V1 c new l;by_cases h:b=c
  ·subst h;have hi:Lib.index (b::l) [b]=((0:Nat):Int):=(by rw[Lib.index_one];simp[Lib.indexByte])
   rw[count_cons_self,Lib.replaceK_hit _ _ _ _ _ hi,flatMap_cons,if_pos rfl,<-ih];simp
  have hc:(b::l).count c=l.count c:=count_cons_of_ne h;rw[hc,flatMap_cons,if_neg h,<-ih];cases hk:l.count c with
  | zero=>rfl
  | succ k =>
   obtain⟨i,hi⟩:=Lib.index_of_count (s:=l) (old:=[c]) (by rw[Lib.count_one];omega);have E:Lib.index (b::l) [c]=((i+1:Nat):Int):=by
    rw[Lib.index_one] at hi |-;unfold Lib.indexByte;rw[if_neg qz,hi,if_neg (by rw[beq_iff_eq];omega)];omega
   rw[Lib.replaceK_hit _ _ _ _ _ E,Lib.replaceK_hit _ _ _ _ _ hi];simp
def xP(c:UInt8)(new:List UInt8)(s:ByteArray):ByteArray:=⟨(s.data.toList.flatMap fun b=>if b=c then new else [b]).toArray⟩
theorem afh(c:UInt8)(new s:List UInt8):Lib.replaceAll s [c] new=s.flatMap fun b=>if b=c then new else [b]:=by
 unfold Lib.replaceAll Lib.replace Lib.replaceNum;split
 ·rename_i h;have h':[c]=new:=(by simpa using h)
  subst h';induction s with
  | nil=>rfl
  | cons b l ih =>
   rw[flatMap_cons,<-ih];have:(if b=c then [c] else [b])=[b]:=by
    split
    ·rename_i e;rw[e]
    rfl
   rw[this];rfl
 rw[if_pos (.inl w7),Lib.count_one,V1]
variable {G:List (Nat×List Value)} {m:Int}
theorem ajX(hG:(2,[Value.int .i64 m])∈G)(c:UInt8)(new:ByteArray)(s:ByteArray)(hs:s.size<=1000000)(hn:new.size<=1000):VP Tryz.prog G 55 [aG s,aG ⟨#[c]⟩,aG new] (aG (xP c new.data.toList s)):=by
 have hc:Lib.countB s ⟨#[c]⟩<=1000000:=by
  show Lib.count s.data.toList [c]<=1000000;rw[Lib.count_one];exact Nat.le_trans count_le_length (by rw[lA];exact hs)
 have I:Lib.countB s ⟨#[c]⟩*new.size<=1000000*1000:=Nat.mul_le_mul hc hn;have key:=VP.Xu (P:=Tryz.prog) (G:=G) (f:=55) (vs:=[.string s,.string ⟨#[c]⟩,.string new]) (v:=.string (xP c new.data.toList s)) fun w E=>by
  refine(Tryz.strings_ReplaceAll s ⟨#[c]⟩ new m w w4 (E _ hG 0 _ rfl) (Nat.le_refl _) w4).mono fun e w' ⟨h1,h2⟩=>⟨?_,h2⟩
  rw[h1];congr 2;show(⟨(Lib.replaceAll s.data.toList [c] new.data.toList).toArray⟩:ByteArray)=_;rw[afh];rfl
 exact key
def kb(v:Vl):UInt8:=UInt8.ofNat v.k.toNat
def nb(v:Vl):UInt8:=UInt8.ofNat v.n.toNat
def uN(v:Vl):Nat:=(v.n+9223372036854775808).toNat
def zW(u k:Nat):UInt8:=UInt8.ofNat (u/256 ^ (7-k))
def kj(u:Nat):List UInt8:=(range 8).map (zW u)
def jx(s:List UInt8):List UInt8:=s.flatMap fun b=>if b=0 then [0,255] else [b]
def qA(v:Vl):List UInt8:=if v.k=1 then [nb v] else if v.k=2 then kj (uN v) else if v.k=3 then jx v.s.data.toList++[0,0] else []
def jO(v:Vl):List UInt8:=kb v::qA v
def eU(l:List Vl):List UInt8:=l.flatMap jO
def vp:List Vl->Int
 | []=>0
 | v::r=>if bW v=0 then vp r else bW v
def fS(l:List Vl):List UInt8×Int:=if l.length>6 then ([],1) else if vp l≠0 then ([],vp l) else if (eU l).length>100 then ([],5) else (eU l,0)
def wm(b:List UInt8):D:=aj 1 cB b
def EZ(r:List UInt8×Int):D:=.dF [wm r.1,ae r.2]
theorem XB:∀{l:List Vl} {i:Nat} (hi:i<l.length),(∀v∈l.take i,bW v=0)->bW l[i]≠0->vp l=bW l[i]
 | v::r,0,hi,_,h=>by
  have h':bW v≠0:=h;show vp (v::r)=bW v;rw[vp,if_neg h']
 | v::r,i+1,hi,h0,h=>by
  rw[vp,if_pos (h0 v bC)];exact XB (l:=r) (i:=i) (by simpa using hi) (fun x hx=>h0 x (by rw[take_succ_cons];exact mem_cons_of_mem _ hx)) h
theorem D8:∀{l:List Vl},(∀v∈l,bW v=0)->vp l=0
 | [],_=>rfl
 | v::r,h=>by rw[vp,if_pos (h v mem_cons_self)];exact D8 fun x hx=>h x (mem_cons_of_mem _ hx)
theorem LX(h:bW v=0):0<=v.k/\v.k<=3:=by
 unfold bW at h;split at h
 ·omega
 split at h
 ·omega
 split at h
 ·omega
 split at h
 ·omega
 cases h
theorem T8(h:bW v=0)(hk:v.k=1):0<=v.n/\v.n<=1:=by
 unfold bW at h;rw[if_neg w4,if_pos hk] at h;split at h
 ·cases h
 omega
theorem T9(h:bW v=0)(hk:v.k=3):v.s.size<=20:=by
 unfold bW at h;rw[if_neg w4,if_neg w4,if_neg w4,if_pos hk] at h;split at h
 ·cases h
 split at h
 ·cases h
 omega
theorem Ol(h:bW v=0):((kb v).toNat:Int)=v.k:=by
 have:=LX h;unfold kb;rw[UInt8.toNat_ofNat'];omega
theorem Om(h:bW v=0)(hk:v.k=1):((nb v).toNat:Int)=v.n:=by
 have:=T8 h hk;unfold nb;rw[UInt8.toNat_ofNat'];omega
theorem ajY(h:bW v=0):IntKind.u8.wrap v.k=((kb v).toNat:Int):=by
 have:=LX h;rw[Ol h];show v.k % 256=_;omega
theorem ajZ(h:bW v=0)(hk:v.k=1):IntKind.u8.wrap v.n=((nb v).toNat:Int):=by
 have:=T8 h hk;rw[Om h hk];show v.n % 256=_;omega
theorem On(h:v.Ok):((uN v:Nat):Int)=v.n+9223372036854775808:=by have:=h.n1;unfold uN;omega
theorem alI{u k:Nat}(hk:k<=7):(u:Int).fdiv (2 ^ min ((56:Int)-8*(k:Int)).toNat IntKind.u64.bits)=((u/256 ^ (7-k):Nat):Int):=by
 have e1:min ((56:Int)-8*(k:Int)).toNat IntKind.u64.bits=8*(7-k):=by
  show min _ 64=_;omega
 have E:(2 ^ (8*(7-k)):Nat)=256 ^ (7-k):=(by rw[Nat.pow_mul])
 have e2:((2:Int) ^ (8*(7-k)))=((256 ^ (7-k):Nat):Int):=by
  rw[<-E,Int.natCast_pow];rfl
 rw[e1,e2];exact(Int.ofNat_fdiv _ _).symm
theorem aj0(x:Nat):IntKind.u8.wrap (x:Int)=((UInt8.ofNat x).toNat:Int):=by
 rw[UInt8.toNat_ofNat'];show(x:Int) % 256=_;omega
theorem No{u k:Nat}(hk:k<=7):(kj u).take k++[zW u k]=(kj u).take (k+1):=by
 have hl:k<(kj u).length:=(by simp[kj];omega)
 rw[take_succ_eq_append_getElem hl];congr 2;simp[kj]
theorem zu(u:Nat):(kj u).length=8:=by simp[kj]
theorem XC(s:List UInt8):(jx s).length<=2*s.length:=by
 induction s with
 | nil=>simp[jx]
 | cons b l ih =>
  unfold jx at ih |-;rw[flatMap_cons,length_append,length_cons];split<;>simp only[length_cons,length_nil]<;>omega
theorem Iv(h:bW v=0):(jO v).length<=43:=by
 unfold jO qA;rw[length_cons];split
 ·simp
 split
 ·rw[zu];omega
 split
 ·rename_i hk;have h1:=T9 h hk;have h2:=XC v.s.data.toList;rw[lA] at h2;rw[length_append];simp;omega
 simp
theorem HZ:∀{l:List Vl},(∀v∈l,bW v=0)->(eU l).length<=43*l.length
 | [],_=>Nat.le_refl _
 | v::r,h=>by
  have h1:=Iv (h v mem_cons_self);have h2:=HZ (l:=r) fun x hx=>h x (mem_cons_of_mem _ hx);unfold eU at h2 |-;rw[flatMap_cons,length_append,length_cons];omega
theorem Ul{l:List Vl}{i:Nat}(hi:i<l.length):eU (l.take i)++jO l[i]=eU (l.take (i+1)):=by
 unfold eU;rw[take_succ_eq_append_getElem hi,flatMap_append];simp
theorem Je(h:v.k=1):qA v=[nb v]:=if_pos h
theorem Jf(h:v.k=2):qA v=kj (uN v):=by unfold qA;rw[if_neg w4,if_pos h]
theorem Jg(h:v.k=3):qA v=jx v.s.data.toList++[0,0]:=by unfold qA;rw[if_neg w4,if_neg w4,if_pos h]
theorem Zl(h1:¬v.k=1)(h2:¬v.k=2)(h3:¬v.k=3):qA v=[]:=by unfold qA;rw[if_neg h1,if_neg h2,if_neg h3]
theorem HL(s:ByteArray):(xP 0 [0,255] s).data.toList=jx s.data.toList:=rfl
def Qn(p:List UInt8×Int)(r:D)(S:List ag):Prop:=∃ad cap,r = .dF [aS ad p.1.length cap,ae p.2]/\bF 5 1 (p.1.flatMap cB) p.1.length ad cap S
theorem Qn.view{p:List UInt8×Int}{r:D}{S:List ag}(h:Qn p r S):View S r (EZ p):=by
 obtain⟨ad,cap,rfl,ho⟩:=h;exact HV ⟨n8 ho (dg qS _) (fun B h=>h),fN,trivial⟩
theorem DH:(Tryz.prog.info? 5).map (fun i=>(i.zero,i.size,i.bytes))=some (some (.int .u8 0),1,1):=by kernel_rfl
theorem YU(hG:(2,[Value.int .i64 m])∈G)(l:List Vl)(hl:l.length<=maxLen)(bf:∀v∈l,v.Ok):VC Tryz.prog G 30 [aj 3 cV l] [] (Qn (fS l)):=by
 refine bA func30 rfl ntmps30 aO fun X0 w0 bz=>?_;refine ay [0] ?_;refine ax [0,12] ?_ ?_<;>intro aP bH
 ·have aZ:fS l=([],1):=if_pos w4;exact P9
 have h6:l.length<=6:=(by omega)
 refine cq ?_;refine bL [0,4] ?_;refine ay [4,13,14,15] ?_;refine kU ?_;refine oB (fun (aR:Nat×Option Addr×Nat×List ag) aE=>match aR with|(i,E,I,Sb)=>(i<=l.length)/\(∀v∈l.take i,bW v=0)/\(bF 5 1 ((eU (l.take i)).flatMap cB) (eU (l.take i)).length E I Sb)/\aE=(⟨72,[(4,aS E (eU (l.take i)).length I),(13,aj 3 cV l),(14,ae l.length),(15,ae (i:Nat))],(Sb)⟩:St)) (fun (aR:Nat×Option Addr×Nat×List ag)=>match aR with|(i,E,I,Sb)=>l.length-i) (0,none,0,[]) ⟨(Nat.zero_le _),bC,(bF.cast jt (by rfl)),rfl⟩ (aL (h:=w8)) ?_;rintro⟨i,E,I,Sb⟩ _ ⟨hi,h0,vN,rfl⟩;refine ax [4,13,14,15,16] ?_ ?_<;>intro bg cM
 ·have aa:i<l.length:=(by omega)
  have RN:=HZ h0;rw[length_take] at RN;have dy:=ee;have gM:=bf _ (getElem_mem aa);refine az 2 ?_;refine cD (ds:=[_,_,_]) au rfl rfl zeroValue36 rfl (fun b6=>?_);refine aN 0 [_,_,_] sizeOf36 ?_;refine ap 72 [4,6,13,14,15] ?_;refine cW [4,6,7,13,14,15] (Vl.qP l[i]) ?_;refine ax [4,6,7,13,14,15,22] ?_ ?_<;>intro cl di
  ·have hne:bW l[i]≠0:=(by simpa using cl)
   have aZ:fS l=([],bW l[i]):=(by unfold fS;rw[if_neg w4,XB aa h0 hne,if_pos hne])
   exact P9
  have O:bW l[i]=0:=(by simpa using cl)
  refine az 3 ?_;refine bS (uT (r:=.int .u8 ((kb l[i]).toNat:Int)) rfl ot (uW runUnderlying3 runUnderlying5 (ajY O))) ?_;refine eR (cU 0 [_]) [.int .u8 0] [_] zeroValue5 runUnderlying83 sizeOf5 (fun Si=>?_);refine gb 0 28 1 1 ?_;refine gi (ls:=(eU (l.take i))) (new:=[kb l[i]]) (Sq:=Sb) qS zz au rfl rfl underlying83 DH rfl w7 ot vN (dL (A:=[_])) ot bC CO CO (fun Z U J5 J6=>?_);refine cg (eM (S1:=[⟨Z,5,U*1,flatMap cB ((eU (l.take i))++[kb l[i]])⟩]) (A:=[_])) ?_;refine ap 72 [4,6,13,14,15] ?_;refine ay [4,6,13,14,15,31] ?_;refine ax [4,6,13,14,15,31,32] ?_ ?_<;>intro da eP
  ·have eK:l[i].k=1:=(by simpa using da)
   refine dB 3 ?_;refine bS (uT (r:=.int .u8 ((nb l[i]).toNat:Int)) rfl ot (uW runUnderlying3 runUnderlying5 (ajZ O eK))) ?_;refine eR (cU 0 [_]) [.int .u8 0] [_] zeroValue5 runUnderlying83 sizeOf5 (fun AV=>?_);refine gb 0 38 1 1 ?_;refine gi (ls:=((eU (l.take i))++[kb l[i]])) (new:=[nb l[i]]) (Sq:=[⟨Z,5,U*1,flatMap cB ((eU (l.take i))++[kb l[i]])⟩]) qS zz au rfl rfl underlying83 DH rfl w7 ot (cj J5 J6) (dL (A:=[_])) ot bC CO CO (fun FY CF aoT aoU=>?_);refine cg (eM (S1:=[⟨FY,5,CF*1,flatMap cB (((eU (l.take i))++[kb l[i]])++[nb l[i]])⟩]) (A:=[_])) ?_;refine ap 72 [4,13,14,15] ?_;refine bM [4,13,14,15] ?_;refine⟨((i+1),(some ⟨FY,0,none⟩),CF,[⟨FY,5,CF*1,flatMap cB (((eU (l.take i))++[kb l[i]])++[nb l[i]])⟩]),_,cR,(aL (h:=w8)),w4,(BB aa h0 O),(bF.cast (cj aoT aoU) Ko),rfl⟩
  have eK:¬l[i].k=1:=(by simpa using da)
  refine ax [4,6,13,14,15,31,40] ?_ ?_<;>intro eo fR
  ·have fD:l[i].k=2:=(by simpa using eo)
   refine cJ [4,8,13,14,15] ?_;refine aM 3 ?_ (h:=by exact(eE (r:=.int .u64 ((uN l[i]:Nat):Int)) rfl ot bP (ajL (by rw[On gM];exact ajN gM.n1 gM.n2))));refine bB ?_;refine ay [4,8,9,13,14,15] ?_;refine kU ?_;refine oB (fun (aR:Nat×Option Addr×Nat×List ag) aE=>match aR with|(k,E,I,Sb)=>(k<=8)/\(bF 5 1 (((eU (l.take i)++[kb l[i]])++(kj (uN l[i])).take k).flatMap cB) ((eU (l.take i)++[kb l[i]])++(kj (uN l[i])).take k).length E I Sb)/\aE=(⟨72,[(4,aS E ((eU (l.take i)++[kb l[i]])++(kj (uN l[i])).take k).length I),(8,.v (.int .u64 ((uN l[i]:Nat):Int))),(9,ae (56-8*(k:Int))),(13,aj 3 cV l),(14,ae l.length),(15,ae (i:Nat))],(Sb)⟩:St)) (fun (aR:Nat×Option Addr×Nat×List ag)=>match aR with|(k,E,I,Sb)=>8-k) (0,(some ⟨Z,0,none⟩),U,[⟨Z,5,U*1,flatMap cB ((eU (l.take i))++[kb l[i]])⟩]) ⟨w7,(bF.cast (cj J5 J6) bC),rfl⟩ (aL (h:=w62)) ?_;rintro⟨k,E,I,Sb⟩ _ ⟨K9,vN,rfl⟩;refine ax [4,8,9,13,14,15,47] ?_ ?_<;>intro fH ik
   ·have vI:k<=7:=(by omega)
    refine dB 3 ?_;refine bS (eE (r:=.int .u64 ((uN l[i]/256 ^ (7-k):Nat):Int)) rfl ot ot (W4 w4 (alI vI))) ?_;refine bS (uT (r:=.int .u8 ((zW (uN l[i]) k).toNat:Int)) rfl ot (uW runUnderlying123 runUnderlying5 (aj0 _))) ?_;refine eR (cU 0 [_]) [.int .u8 0] [_] zeroValue5 runUnderlying83 sizeOf5 (fun b55=>?_);refine gb 0 55 1 1 ?_;refine gi (ls:=((eU (l.take i)++[kb l[i]])++(kj (uN l[i])).take k)) (new:=[zW (uN l[i]) k]) (Sq:=Sb) qS zz au rfl rfl underlying83 DH rfl w7 ot vN (dL (A:=[])) ot bC CO CO (fun my Ai aoV aoW=>?_);refine cg (eM (S1:=[⟨my,5,Ai*1,flatMap cB (((eU (l.take i)++[kb l[i]])++(kj (uN l[i])).take k)++[zW (uN l[i]) k])⟩]) (A:=[])) ?_;refine ap 72 [4,8,9,13,14,15] ?_;refine bM [4,8,9,13,14,15] ?_;refine⟨((k+1),(some ⟨my,0,none⟩),Ai,[⟨my,5,Ai*1,flatMap cB (((eU (l.take i)++[kb l[i]])++(kj (uN l[i])).take k)++[zW (uN l[i]) k])⟩]),_,cR,(aL (h:=w62)),w4,(bF.cast (cj aoV aoW) (by rw[<-No w4];simp)),rfl⟩
   have avZ:k=8:=(by omega)
   have av0:8<=k:=(by omega)
   refine bM [4,13,14,15] ?_;refine⟨((i+1),E,I,Sb),_,cR,(aL (h:=w8)),w4,(BB aa h0 O),(bF.cast vN Ko),rfl⟩
  have fD:¬l[i].k=2:=(by simpa using eo)
  refine ax [4,6,13,14,15,57] ?_ ?_<;>intro iu qa
  ·have gX:l[i].k=3:=(by simpa using iu)
   have Q4:=T9 O gX;have Gi:=XC l[i].s.data.toList;rw[lA] at Gi;have FN:(xP 0 [0,255] l[i].s).size=(jx l[i].s.data.toList).length:=(by rw[<-lA,HL])
   refine az 3 ?_;refine dK call55 (ajX hG 0 ⟨#[0,255]⟩ l[i].s w4 w7) ?_;refine aez (ls:=((eU (l.take i))++[kb l[i]])) (Sq:=[⟨Z,5,U*1,flatMap cB ((eU (l.take i))++[kb l[i]])⟩]) au rfl rfl underlying83 underlying9 DH ot (cj J5 J6) (dL (A:=[_])) ot ZS ZS (fun abc Aj Gl Fe=>?_);refine cg (eM (A:=[_])) ?_;refine ap 72 [4,13,14,15] ?_;refine dB 1 ?_;refine eR (cU 0 [_,_]) [.int .u8 0,.int .u8 0] [_,_] zeroValue5 runUnderlying83 sizeOf5 (fun b65=>?_);refine gb 0 65 1 2 ?_;refine gi (ls:=(((eU (l.take i))++[kb l[i]])++(xP 0 [0,255] l[i].s).data.toList)) (new:=[(0:UInt8),0]) (Sq:=Gl) qS zz au rfl rfl underlying83 DH rfl w7 ot Fe (dL (A:=[_])) ot bC aan aan (fun ru CG CH CJ=>?_);refine cg (eM (S1:=[⟨ru,5,CG*1,flatMap cB ((((eU (l.take i))++[kb l[i]])++(xP 0 [0,255] l[i].s).data.toList)++[(0:UInt8),0])⟩]) (A:=[_])) ?_;refine ap 72 [4,13,14,15] ?_;refine bM [4,13,14,15] ?_;refine⟨((i+1),(some ⟨ru,0,none⟩),CG,[⟨ru,5,CG*1,flatMap cB ((((eU (l.take i))++[kb l[i]])++(xP 0 [0,255] l[i].s).data.toList)++[(0:UInt8),0])⟩]),_,cR,(aL (h:=w8)),w4,(BB aa h0 O),(bF.cast (cj CH CJ) Ko),rfl⟩
  have gX:¬l[i].k=3:=(by simpa using iu)
  refine bM [4,13,14,15] ?_;refine⟨((i+1),(some ⟨Z,0,none⟩),U,[⟨Z,5,U*1,flatMap cB ((eU (l.take i))++[kb l[i]])⟩]),_,cR,(aL (h:=w8)),w4,(BB aa h0 O),(bF.cast (cj J5 J6) Ko),rfl⟩
 have fb:∀v∈l,bW v=0:=(by rw[take_of_length_le w4] at h0;exact h0)
 have hle:=HZ fb;have yL:eU (l.take i)=eU l:=(by rw[take_of_length_le w4])
 refine ax [4,70] ?_ ?_<;>intro iE nJ
 ·have aZ:fS l=([],5):=(by unfold fS;rw[if_neg w4,D8 fb,if_neg bC,if_pos (by rw[yL] at iE;simp at iE;omega)])
  exact P9
 have aZ:fS l=(eU l,0):=(by unfold fS;rw[if_neg w4,D8 fb,if_neg bC,if_neg (by rw[yL] at iE;simp at iE;omega)])
 refine dS [2,3] Sb ?_;rw[aZ,<-yL];exact⟨E,I,rfl,vN⟩
theorem Ou(hG:(2,[Value.int .i64 m])∈G)(l:List Vl)(hl:l.length<=maxLen)(bf:∀v∈l,v.Ok):VP Tryz.prog G 30 [aj 3 cV l] (EZ (fS l)):=(YU hG l hl bf).cover fun r S hr=>hr.view
end Cd
namespace Cd
open List
open Go.Proofs.Tryz
open Go.RowKit V Pk Vl
open Go.Lib (compareBytes)
variable {l:List Int}
theorem oK{a b:UInt8}:a<b↔a.toNat<b.toNat:=UInt8.lt_iff_toNat_lt
theorem qk(a b:UInt8)(x y:List UInt8):compareBytes (a::x) (b::y)=if a<b then -1 else if b<a then 1 else compareBytes x y:=by rw[compareBytes]
theorem Nr:∀(x y:List UInt8),compareBytes y x = - compareBytes x y
 | [],[]=>rfl
 | [],_::_=>rfl
 | _::_,[]=>rfl
 | a::x,b::y=>by
  have ih:=Nr x y;rw[qk,qk];rcases Nat.lt_trichotomy a.toNat b.toNat with h|h|h
  ·rw[if_neg nh,if_pos (oK.2 h),if_pos (oK.2 h)];rfl
  ·rw[if_neg nh,if_neg nh,if_neg nh,if_neg nh,ih]
  rw[if_pos (oK.2 h),if_neg nh,if_pos (oK.2 h)]
def rQ(x y:Int):Int:=if x<y then -1 else if x>y then 1 else 0
def gA:List Int->Int
 | []=>0
 | a::l=>if a≠0 then a else gA l
def cmpL(a b:Vl):List Int:=[rQ a.k b.k,rQ a.n b.n,compareBytes a.s.data.toList b.s.data.toList]
def fh(a b:Vl):Int:=gA (cmpL a b)
theorem uU(x y:Int):rQ x y = -1/\x<y\/rQ x y=0/\x=y\/rQ x y=1/\y<x:=by unfold rQ;split;omega;split<;>omega
theorem UG(x y:Int):rQ y x = - rQ x y:=by
 rcases uU x y with h|h|h<;>rcases uU y x with k|k|k<;>omega
theorem DE(a b:Vl):fh b a = - fh a b:=by
 unfold fh cmpL gA gA gA gA;rw[UG a.k b.k,UG a.n b.n,Nr a.s.data.toList b.s.data.toList];repeat' split
 all_goals omega
variable {G:List (Nat×List Value)} {m:Int}
def cI(n:Int):List D:=[ae n]
theorem ain:∀{i:Nat} (hi:i<l.length),(∀x∈l.take i,x=0)->gA l=gA (l.drop i):=by
 induction l with
 | nil=>intro i hi;simp at hi
 | cons a l ih =>
  intro i hi h;cases i with
  | zero=>rfl
  | succ i =>
   have ha:a=0:=h a bC;show(if a≠0 then a else gA l)=gA (l.drop i);rw[if_neg (by simp[ha])];exact ih (by simpa using hi) (fun x hx=>h x (by simp[hx]))
theorem aj1{i:Nat}(hi:i<l.length)(h:∀x∈l.take i,x=0)(h1:l[i]≠0):gA l=l[i]:=by
 rw[ain hi h,drop_eq_getElem_cons hi];exact if_pos h1
theorem V2:∀{l:List Int},(∀x∈l,x=0)->gA l=0
 | [],_=>rfl
 | a::l,h=>by
  show(if a≠0 then a else gA l)=0;rw[if_neg (by simp[h a bC]),V2 fun x hx=>h x (by simp[hx])]
theorem take_zero{i:Nat}(hi:i<l.length)(h:∀x∈l.take i,x=0)(h1:l[i]=0):∀x∈l.take (i+1),x=0:=fun x hx=>by
 rw[take_succ_eq_append_getElem hi] at hx;rcases mem_append.1 hx with hx|hx
 ·exact h x hx
 simp only[mem_singleton] at hx;rw[hx];exact h1
theorem YV(x:Int):VP Tryz.prog G 189 [ae x] (aW false):=by
 refine bA func189 rfl ntmps189 aO fun X0 w0 bz=>?_;refine ay [0] ?_;refine dS [2] [] ?_;first|exact⟨rfl,rfl⟩|(refine⟨vb ?_,rfl⟩;simp)
theorem XD(x y:Int):VP Tryz.prog G 173 [ae x,ae y] (ae (rQ x y)):=by
 refine bA func173 rfl ntmps173 aO fun X0 w0 bz=>?_;refine ay [0,1] ?_;refine cW [0,1,5] (YV x) ?_;refine cW [0,1,5,6] (YV y) ?_;refine ax [0,1,6,11] ?_ ?_<;>intro aP bH
 ·refine ax [12] ?_ ?_<;>intro bg cM
  ·exact FV
  exact FV
 refine ax [0,1,13] ?_ ?_<;>intro cl di
 ·exact FV
 refine ax [0,1,16] ?_ ?_<;>intro da eP
 ·exact FV
 refine ax [19] ?_ ?_<;>intro eo fR
 ·exact FV
 refine dS [4] [] ?_;first|exact⟨rfl,rfl⟩|(refine⟨vi ?_,rfl⟩;unfold rQ;simp_all;done)|(refine⟨vi ?_,rfl⟩;unfold rQ;split<;>(try split)<;>simp_all<;>omega)
theorem alJ(l:List Int)(hl:l.length<=100):VP Tryz.prog G 172 [aj 1 cI l] (ae (gA l)):=by
 refine bA func172 rfl ntmps172 aO fun X0 w0 bz=>?_;have dy:=ee;refine ay [0] ?_;refine ay [0,3] ?_;refine ay [3,6,7,8] ?_;refine eZ [3,6,7] (fun aU _ (i:Nat) aE=>(i<=l.length)/\(∀x∈l.take i,x=0)/\aE=(⟨18,(8,ae (i:Nat))::aU,[]⟩:St)) (fun (i:Nat)=>l.length-i) 0 ⟨(Nat.zero_le _),(fun x hx=>by simp at hx),rfl⟩ ?_;rintro i _ ⟨hi,hz,rfl⟩;refine ax [3,6,7,8,9] ?_ ?_<;>intro aP bH
 ·have aa:i<l.length:=(by omega)
  refine ay [3,5,6,7,8] ?_;refine ax [3,5,6,7,8,14] ?_ ?_<;>intro bg cM
  ·have aZ:gA l=l[i]:=aj1 aa hz x9;refine ay [2] ?_;exact kO
  refine bM [3,6,7,8] ?_;refine⟨(i+1),_,cR,aL,w4,(take_zero aa hz x9),rfl⟩
 have aZ:gA l=0:=V2 (by rw[take_of_length_le w4] at hz;exact hz);refine ay [2] ?_;exact tg
theorem aj2(a b:ByteArray):VP Tryz.prog G 174 [aG a,aG b] (ae (compareBytes a.data.toList b.data.toList)) :=
 VP.Xu (P:=Tryz.prog) (G:=G) (f:=174) (vs:=[.string a,.string b]) (v:=.int .i64 (compareBytes a.data.toList b.data.toList)) fun w _ =>
  (Tryz.strings_Compare a b w).mono fun e w' ⟨h1,h2⟩=>⟨h1,h2 ▸ Below.refl _ _⟩
theorem Ua(a b:Vl)(ha:a.Ok)(hb:b.Ok):VP Tryz.prog G 146 [.agg (cV a),.agg (cV b)] (ae (fh a b)):=by
 refine bA func146 rfl ntmps146 aO fun X0 w0 bz=>?_;unfold cV;refine cq ?_;refine dm [_,_,_] (fun b2=>?_);refine dm [_,_,_] (fun b3=>?_);refine ap 22 [2,3] ?_;refine cJ [4] ?_;refine cA (XD a.k b.k) ?_;refine cA (XD a.n b.n) ?_;refine cA (aj2 a.s b.s) ?_;refine cA (alJ (cmpL a b) (by show 3<=100;decide)) ?_;refine bB ?_;exact z46
def oP(a b:Vl):Int:=if bW a≠0 then bW a else bW b
def Qo(a b:Vl):D:=.dF [ae (if oP a b≠0 then 0 else fh a b),ae (oP a b)]
theorem XE(a b:Vl):VP Tryz.prog G 145 [.agg (cV a),.agg (cV b)] (ae (oP a b)):=by
 refine bA func145 rfl ntmps145 aO fun X0 w0 bz=>?_;unfold cV;refine cq ?_;refine dm [_,_,_] (fun b2=>?_);refine dm [_,_,_] (fun b3=>?_);refine ap 13 [2,3] ?_;refine cW [3,5] (qP a) ?_;refine ax [3,5,9] ?_ ?_<;>intro aP bH
 ·refine dS [4] [] ?_;refine⟨vi ?_,rfl⟩;unfold oP;simp_all
 refine cW [4] (qP b) ?_;refine eD [] ?_;refine⟨vi ?_,rfl⟩;unfold oP;simp_all
theorem afH(a b:Vl)(ha:a.Ok)(hb:b.Ok):VP Tryz.prog G 109 [.agg (cV a),.agg (cV b)] (Qo a b):=by
 refine bA func109 rfl ntmps109 aO fun X0 w0 bz=>?_;unfold cV Qo;refine cq ?_;refine dm [_,_,_] (fun b2=>?_);refine dm [_,_,_] (fun b3=>?_);refine ap 16 [2,3] ?_;refine cW [2,3,6] (XE a b) ?_;refine ax [2,3,6,11] ?_ ?_<;>intro aP bH
 ·refine dS [4,5] [] ?_;first|(simp_all;done)|(refine⟨?_,rfl⟩;simp_all;done)
 refine cW [4,5] (Ua a b ha hb) ?_;refine eD [] ?_;first|(simp_all;done)|(refine⟨?_,rfl⟩;simp_all;done)
end Cd
namespace Pc
open List
open Go.Proofs.Tryz
open Go.RowKit V Pk Vl Go.Proofs.YtihmfhcjbmlnaaaGreatDoor.Nm
variable {i:Nat}
def typesC:List Value:=[.string ⟨#[]⟩,.string ⟨#[66,79,79,76]⟩,.string ⟨#[73,78,84]⟩,.string ⟨#[84,69,88,84]⟩]
structure dc where
 n:ByteArray
 k:Int
variable {l:List dc}
def cC(c:dc):List D:=[aG c.n,ae c.k]
theorem mV(c:dc):(cC c).length=2:=rfl
theorem alK(c:dc):(cC c).all V.one=true:=rfl
def pF(pre:List dc)(c:dc):Int :=
 if dH c.n≠0 then dH c.n else if c.k<1\/c.k>3 then 2 else if (pre.any fun d=>d.n.toList==c.n.toList)=true then 9 else 0
def um:List dc->List dc->Int
 | _,[]=>0
 | pre,c::r=>if pF pre c≠0 then pF pre c else um (pre++[c]) r
def gG(l:List dc):Int:=if l.length<1\/l.length>6 then 1 else um [] l
theorem agv(hi:i<l.length)(h:pF (l.take i) l[i]=0):um (l.take i) (l.drop i)=um (l.take (i+1)) (l.drop (i+1)):=by
 rw[drop_eq_getElem_cons hi,take_succ_eq_append_getElem hi];exact if_neg (by simp[h])
theorem MR(hi:i<l.length)(h:pF (l.take i) l[i]≠0):um (l.take i) (l.drop i)=pF (l.take i) l[i]:=by
 rw[drop_eq_getElem_cons hi];exact if_pos h
theorem aio(hi:¬i<l.length):um (l.take i) (l.drop i)=0:=by
 rw[drop_of_length_le w4];rfl
theorem DN(S:List ag):S.Perm (S++[]):=by rw[append_nil]
variable {G:List (Nat×List Value)}
theorem H6(ls:List dc)(g:Nat)(E:List D)(S:List ag)(p:dc->Bool)(fY:∀args w,(callFunc g args).run Tryz.prog w = .ok (.enter g args) w)(hp:∀x∈ls,VC Tryz.prog G g (.agg (cC x)::E) S (fun r S'=>r=aW (p x)/\S'=S))(hlen:ls.length<=1000000):VC Tryz.prog G 52 [aj 2 cC ls,.fg (.func g) E] S (fun r S'=>r=ae (dD p ls)/\S'=S):=by
 refine bA func52 rfl ntmps52 aO fun X0 w0 bz=>?_;unfold cC at hp;exact z14
theorem afi(ls:List dc)(g:Nat)(E:List D)(S:List ag)(p:dc->Bool)(fY:∀args w,(callFunc g args).run Tryz.prog w = .ok (.enter g args) w)(hp:∀x∈ls,VC Tryz.prog G g (.agg (cC x)::E) S (fun r S'=>r=aW (p x)/\S'=S))(hlen:ls.length<=1000000):VC Tryz.prog G 117 [aj 2 cC ls,.fg (.func g) E] S (fun r S'=>r=aW (ls.any p)/\S'=S):=by
 refine bA func117 rfl ntmps117 aO fun X0 w0 bz=>?_;refine az 1 ?_;refine fF (Wk.eN (n:=9) (l':=[(0,_),(1,_)]) (S':=S) rfl oW gg) ?_;refine jX ?_;refine az 2 ?_;refine eH au rfl rfl rfl call52 (H6 ls g E S p fY hp hlen) ⟨vZ rfl lk,vZ rfl lk,trivial⟩ (DN _) ?_;rintro _ S2 ⟨rfl,gY⟩;rw[gY];clear gY;refine aF 2 ?_;refine fF (Wk.eN (n:=9) (l':=[(4,_)]) (S':=S) rfl oW gg) ?_;refine jX ?_;refine eD S ?_;refine⟨?_,rfl⟩;rw[VQ]
theorem aj3(h x:dc)(b:Nat):VC Tryz.prog G 118 [.agg (cC h),dw b] [⟨b,109,2,cC x⟩] (fun r S=>r=aW (h.n.toList==x.n.toList)/\S=[⟨b,109,2,cC x⟩]):=by
 refine bA func118 rfl ntmps118 aO fun X0 w0 bz=>?_;unfold cC;refine cq ?_;refine dm [_,_] (fun b2=>?_);refine ap 9 [1,2] ?_;refine dS [3] [⟨b,109,2,cC x⟩] ?_;exact⟨rfl,rfl⟩
theorem aj4(hm:(3,marksC)∈G)(hw:(1,wordsC)∈G)(l:List dc)(hl:l.length<=maxLen)(bf:∀c∈l,c.n.size<=maxLen):VP Tryz.prog G 73 [aj 2 cC l] (ae (gG l)):=by
 refine bA func73 rfl ntmps73 aO fun X0 w0 bz=>?_;have dy:=ee;refine ay [0] ?_;refine az 4 ?_;refine cz 9 (fun Z O=>?_) (fun Z O=>?_)
 ·refine bL [0,13] ?_;refine fu ?_;have aZ:gG l=1:=if_pos w4;exact AB
 refine bL [0,13] ?_;refine bX ?_ ?_<;>intro aP bH
 ·have aZ:gG l=1:=if_pos w4;exact AB
 have h16:¬(l.length<1\/l.length>6):=(by omega)
 have E:gG l=um (l.take 0) (l.drop 0):=if_neg h16;refine ay [0,14,15,16] ?_;refine eZ [0,14,15] (fun aU _ (i:Nat) aE=>(i<=l.length)/\(gG l=um (l.take i) (l.drop i))/\aE=(⟨41,(16,ae (i:Nat))::aU,[]⟩:St)) (fun (i:Nat)=>l.length-i) 0 ⟨(Nat.zero_le _),E,rfl⟩ ?_;rintro i _ ⟨hi,hinv,rfl⟩;refine ax [0,14,15,16,17] ?_ ?_<;>intro bg cM
 ·have aa:i<l.length:=(by omega)
  refine az 3 ?_;refine cD (ds:=[_,_]) au rfl rfl zeroValue109 rfl (fun b4=>?_);refine aF 1 ?_;refine aN 0 [_,_] sizeOf109 ?_;refine ap 41 [0,3,4,14,15,16] ?_;refine cW [0,3,4,5,14,15,16] (xE hm hw l[i].n (bf _ (getElem_mem aa))) ?_;refine ax [0,3,4,5,14,15,16,25] ?_ ?_<;>intro cl di
  ·have hne:dH l[i].n≠0:=(by simpa using cl)
   have hf:pF (l.take i) l[i]=dH l[i].n:=if_pos hne;have aZ:gG l=dH l[i].n:=(by rw[hinv,MR aa (by rw[hf];exact hne),hf])
   refine ay [2] ?_;exact kO
  have iV:¬dH l[i].n≠0:=(by simpa using cl)
  refine az 4 ?_;refine cz 30 (fun U I=>?_) (fun U I=>?_)
  ·refine bL [0,3,4,14,15,16,34] ?_;refine fu ?_;exact aa0
  refine bL [0,3,4,14,15,16,34] ?_;refine bX ?_ ?_<;>intro da eP
  ·exact aa0
  have hk:¬(l[i].k<1\/l[i].k>3):=(by omega)
  refine az 2 ?_;refine bS (fw (l:=0) rfl ot trivial ⟨_,ot⟩ (by first|exact nC mV (fun h=>by cases h) runUnderlying29 sizeOf109 w4|exact qq (fun h=>by cases h) runUnderlying29 sizeOf109 w4|exact pU (fun _=>rfl) (fun h=>by cases h) runUnderlying29 sizeOf109 w4 w4)) ?_;refine bS (sM (ds:=[_]) rfl ⟨ot,trivial⟩) ?_;refine eH au rfl rfl rfl call117 (afi (l.take i) 118 [dw b4] _ (fun d=>d.n.toList==l[i].n.toList) call118 (fun h _=>aj3 h l[i] b4) qD) ⟨vZ rfl lk,vZ rfl lk,trivial⟩ (nA (k:=0) rfl) ?_;rintro _ S2 ⟨rfl,gY⟩;rw[gY];clear gY;refine ap 41 [0,14,15,16,39] ?_;refine bX ?_ ?_<;>intro eo fR
  ·have hf:pF (l.take i) l[i]=9:=(by unfold pF;rw[if_neg iV,if_neg hk,if_pos eo])
   have aZ:gG l=9:=(by rw[hinv,MR aa (by rw[hf];decide),hf])
   refine ay [2] ?_;exact kO
  have hf:pF (l.take i) l[i]=0:=(by unfold pF;rw[if_neg iV,if_neg hk,if_neg (by rw[eo];simp)])
  have j8:=hinv.trans (agv aa hf);refine bM [0,14,15,16] ?_;refine⟨(i+1),_,cR,aL,w4,j8,rfl⟩
 have aZ:gG l=0:=(by rw[hinv];exact aio w4)
 refine ay [2] ?_;exact tg
end Pc
namespace Pa
open List
open Go.Proofs.Tryz
open Go.RowKit V Pk Vl Go.Proofs.YtihmfhcjbmlnaaaGreatDoor.Nm Pc
structure aT where
 kind:Int
 table:ByteArray
 an:List dc
 row:List Vl
 names:List ByteArray
 count:Bool
 ah:List aQ
 order:ByteArray
 down:Bool
 iA:Int
 set:ByteArray
 bG:List aQ
def bN:aT:=⟨0,⟨#[]⟩,[],[],[],false,[],⟨#[]⟩,false,-1,⟨#[]⟩,[]⟩
end Pa
namespace Pa
section
open List
open Go.Proofs.Tryz
open Go.RowKit V Pk Vl Go.Proofs.YtihmfhcjbmlnaaaGreatDoor.Nm Pc
variable {G:List (Nat×List Value)}
variable {α:Type}
theorem Mf{ls:List (List α)}{j:Nat}(h:j<ls.length):(ls.take (j+1)).flatten=(ls.take j).flatten++ls[j]:=by
 rw[take_succ_eq_append_getElem h,flatten_append,flatten_cons,flatten_nil,append_nil]
theorem TF{ls:List (List α)}{j:Nat}(h:j<ls.length):((ls.take (j+1)).flatten).length=((ls.take j).flatten).length+ls[j].length:=by rw[Mf h,length_append]
theorem TI(ls:List (List α))(j:Nat):((ls.take j).flatten).length<=ls.flatten.length:=by
 conv=>rhs;rw[<-take_append_drop j ls,flatten_append,length_append]
 omega
theorem agw{e sz b cap:Nat}(h:cap<=maxLen):bF e sz [] 0 (some ⟨b,0,none⟩) cap [⟨b,e,cap*sz,[]⟩]:=.inr ⟨b,rfl,Nat.zero_le _,h,rfl⟩
end
section
open List
open Go.Proofs.Tryz
open Go.RowKit V Pk Vl Go.Proofs.YtihmfhcjbmlnaaaGreatDoor.Nm Pc
variable {G:List (Nat×List Value)}
variable {α:Type} {i n:Nat} {ts h:List (List Tk)} {o:aQ}
def alL:List ByteArray:=[⟨#[]⟩,⟨#[66,79,79,76]⟩,⟨#[73,78,84]⟩,⟨#[84,69,88,84]⟩]
theorem nF(t:Tk):(cT t).all V.one=true:=rfl
def cc(s:ByteArray):Tk:=⟨1,s,0⟩
def eO(s:ByteArray):Tk:=⟨4,s,0⟩
def cK(l:List Tk):List D:=[aj 3 cT l]
theorem iw(l:List Tk):(cK l).length=1:=rfl
theorem rJ(l:List Tk):(cK l).all V.one=true:=rfl
theorem Bu{β:Type}(f:α->β){l:List α}(hi:i<l.length):(l.take i).map f++[f l[i]]=(l.take (i+1)).map f:=by rw[take_succ_eq_append_getElem hi,map_append];rfl
theorem NH{β:Type}(f:α->β){l:List α}(hi:l.length<=i):(l.take i).map f=l.map f:=by rw[take_of_length_le hi]
theorem px(s:ByteArray):VP Tryz.prog G 84 [aG s] (.agg (cT (eO s))):=by
 refine bA func84 rfl ntmps84 aO fun X0 w0 bz=>?_;exact z171
theorem tZ(s:ByteArray):VP Tryz.prog G 122 [aG s] (.agg (cT (cc s))):=by
 refine bA func122 rfl ntmps122 aO fun X0 w0 bz=>?_;exact z171
theorem Dy:(Tryz.prog.info? 153).map (fun i=>(i.zero,i.size,i.bytes))=some (some (.agg #[.int .i64 0,.string ⟨#[]⟩,.int .i64 0]),3,32):=by kernel_rfl
theorem B4(l:List ByteArray)(hl:l.length<=10):VC Tryz.prog G 79 [aj 1 cS l] [] (iC cT 153 3 (l.map cc)):=by
 refine bA func79 rfl ntmps79 aO fun X0 w0 bz=>?_;have dy:=ee;refine ay [0] ?_;refine cq ?_;refine bL [0,3] ?_;refine ay [3,6,7,8] ?_;refine kU ?_;refine oB (fun (aR:Nat×Option Addr×Nat×List ag) aE=>match aR with|(i,I,O,Z)=>(i<=l.length)/\(bF 153 3 (((l.take i).map cc).flatMap cT) ((l.take i).map cc).length I O Z)/\aE=(⟨19,[(3,aS I ((l.take i).map cc).length O),(6,aj 1 cS l),(7,ae (l.length:Nat)),(8,ae (i:Nat))],(Z)⟩:St)) (fun (aR:Nat×Option Addr×Nat×List ag)=>match aR with|(i,I,O,Z)=>l.length-i) (0,none,0,[]) ⟨(Nat.zero_le _),(bF.cast jt lU),rfl⟩ (aL (h:=w69)) ?_;rintro⟨i,I,O,Z⟩ _ ⟨hi,qH,rfl⟩;refine ax [3,6,7,8,9] ?_ ?_<;>intro aP bH
 ·have aa:i<l.length:=(by omega)
  refine ay [3,5,6,7,8] ?_;refine dB 2 ?_;refine dK call122 (tZ l[i]) ?_;refine eR (cU 0 [_]) [.int .i64 0,.string ⟨#[]⟩,.int .i64 0] [_,_,_] zeroValue153 runUnderlying110 sizeOf153 (fun b15=>?_);refine gb 0 15 3 1 ?_;refine gi (ls:=((l.take i).map cc)) (new:=[cc l[i]]) (Sq:=Z) jE nF au rfl rfl underlying110 Dy rfl w7 ot qH (dL (A:=[])) ot bC Z8 Z8 (fun U E aoX aoY=>?_);refine cg (eM (S1:=[⟨U,153,E*3,flatMap cT (((l.take i).map cc)++[cc l[i]])⟩]) (A:=[])) ?_;refine ap 19 [3,6,7,8] ?_;refine bM [3,6,7,8] ?_;refine⟨((i+1),(some ⟨U,0,none⟩),E,[⟨U,153,E*3,flatMap cT (((l.take i).map cc)++[cc l[i]])⟩]),_,cR,(aL (h:=w69)),w4,(bF.cast (cj aoX aoY) (by exact Bu cc aa)),rfl⟩
 have fG:=NH cc (show l.length<=i by omega);refine ay [2] ?_;refine eD _ ?_;exact iC.cast (iC.mk qH) fG
theorem u3(l:List ByteArray)(hl:l.length<=10):VP Tryz.prog G 79 [aj 1 cS l] (.list 3 ((l.map cc).flatMap cT) (l.map cc).length):=VC.zI jE (B4 l hl)
def mI(ts:List (List Tk)):Nat->List Tk
 | 0=>[eO ⟨#[40]⟩]
 | i+1=>mI ts i++(if i>0 then [eO ⟨#[44]⟩] else [])++ts.getD i []
def oh(ts:List (List Tk)):List Tk:=mI ts ts.length++[eO ⟨#[41]⟩]
theorem Im{ts:List (List Tk)}(h:∀x∈ts,x.length<=10):∀i,(mI ts i).length<=1+11*i
 | 0=>Nat.le_refl _
 | i+1=>by
  have ih:=Im h i;have h2:(ts.getD i []).length<=10:=by
   rw[getD_eq_getElem?_getD];cases hx:ts[i]? with
   | none=>exact Nat.zero_le _
   | some x=>exact h x (mem_of_getElem? hx)
  have h3:(if i>0 then [eO ⟨#[44]⟩] else []).length<=1:=(by split<;>simp)
  unfold mI;rw[length_append,length_append];omega
theorem Vp(hi:i<ts.length)(h:0<i):(mI ts i++[eO ⟨#[44]⟩])++ts[i]=mI ts (i+1):=by
 rw[mI,if_pos h,getD_eq_getElem?_getD,getElem?_eq_getElem hi];rfl
theorem Um(hi:i<ts.length)(h:¬0<i):mI ts i++ts[i]=mI ts (i+1):=by
 rw[mI,if_neg h,append_nil,getD_eq_getElem?_getD,getElem?_eq_getElem hi];rfl
theorem XF(ts:List (List Tk))(hl:ts.length<=10)(Q4:∀x∈ts,x.length<=10):VP Tryz.prog G 80 [aj 1 cK ts] (.list 3 ((oh ts).flatMap cT) (oh ts).length):=by
 refine bA func80 rfl ntmps80 aO fun X0 w0 bz=>?_;have dy:=ee;refine ay [0] ?_;refine cq ?_;refine dK call84 (px ⟨#[40]⟩) ?_;refine eR (cU 0 [_]) [.int .i64 0,.string ⟨#[]⟩,.int .i64 0] [_,_,_] zeroValue153 runUnderlying110 sizeOf153 (fun b7=>?_);refine cg (eM (S1:=[⟨b7,153,1*3,flatMap cT ([eO ⟨#[40]⟩])⟩]) (A:=[])) ?_;refine ap 29 [0,3] ?_;refine ay [3,8,9,10] ?_;refine kU ?_;refine oB (fun (aR:Nat×Option Addr×Nat×List ag) aE=>match aR with|(i,E,I,Z)=>(i<=ts.length)/\(bF 153 3 ((mI ts i).flatMap cT) (mI ts i).length E I Z)/\aE=(⟨29,[(3,aS E (mI ts i).length I),(8,aj 1 cK ts),(9,ae (ts.length:Nat)),(10,ae (i:Nat))],(Z)⟩:St)) (fun (aR:Nat×Option Addr×Nat×List ag)=>match aR with|(i,E,I,Z)=>ts.length-i) (0,(some ⟨b7,0,none⟩),1,[⟨b7,153,1*3,flatMap cT ([eO ⟨#[40]⟩])⟩]) ⟨(Nat.zero_le _),(bF.cast (cj (g:=cT) (sz:=3) (e:=153) (ls:=[eO ⟨#[40]⟩]) (Nat.le_refl _) (show 1<=maxLen by decide)) (by rfl)),rfl⟩ (aL (h:=w60)) ?_;rintro⟨i,E,I,Z⟩ _ ⟨hi,qH,rfl⟩;refine ax [3,8,9,10,11] ?_ ?_<;>intro aP bH
 ·have aa:i<ts.length:=(by omega)
  refine ay [3,4,5,8,9,10] ?_;refine ax [3,5,8,9,10,16] ?_ ?_<;>intro bg cM
  ·refine dB 1 ?_;refine dK call84 (px ⟨#[44]⟩) ?_;refine eR (cU 0 [_]) [.int .i64 0,.string ⟨#[]⟩,.int .i64 0] [_,_,_] zeroValue153 runUnderlying110 sizeOf153 (fun b19=>?_);refine gb 0 19 3 1 ?_;refine gi (ls:=(mI ts i)) (new:=[eO ⟨#[44]⟩]) (Sq:=Z) jE nF au rfl rfl underlying110 Dy rfl w7 ot qH (dL (A:=[])) ot bC yo yo (fun Sj O aoZ ao0=>?_);refine cg (eM (S1:=[⟨Sj,153,O*3,flatMap cT ((mI ts i)++[eO ⟨#[44]⟩])⟩]) (A:=[])) ?_;refine ap 29 [3,5,8,9,10] ?_;refine dB 2 ?_;refine tN (ls:=((mI ts i)++[eO ⟨#[44]⟩])) (new:=ts[i]) (Sq:=[⟨Sj,153,O*3,flatMap cT ((mI ts i)++[eO ⟨#[44]⟩])⟩]) jE nF au rfl rfl underlying110 Dy rfl w7 runUnderlying110 sizeOf153 ot (cj aoZ ao0) (dL (A:=[])) ot yo yo (fun aau aav S23 aaw=>?_);exact z64
  refine dB 2 ?_;refine tN (ls:=(mI ts i)) (new:=ts[i]) (Sq:=Z) jE nF au rfl rfl underlying110 Dy rfl w7 runUnderlying110 sizeOf153 ot qH (dL (A:=[])) ot yo yo (fun aau aav S23 aaw=>?_);exact z64
 have rW:i=ts.length:=(by omega)
 have lG:mI ts i++[eO ⟨#[41]⟩]=oh ts:=(by unfold oh;rw[<-rW])
 refine az 1 ?_;refine dK call84 (px ⟨#[41]⟩) ?_;refine eR (cU 0 [_]) [.int .i64 0,.string ⟨#[]⟩,.int .i64 0] [_,_,_] zeroValue153 runUnderlying110 sizeOf153 (fun b27=>?_);refine gb 0 27 3 1 ?_;refine gi (ls:=(mI ts i)) (new:=[eO ⟨#[41]⟩]) (Sq:=Z) jE nF au rfl rfl underlying110 Dy rfl w7 ot qH (dL (A:=[])) ot bC yo yo (fun Si U ao1 ao2=>?_);refine cg (eM (S1:=[⟨Si,153,U*3,flatMap cT ((mI ts i)++[eO ⟨#[41]⟩])⟩]) (A:=[])) ?_;refine ap 29 [2] ?_;refine mS (t:=2) (Sq:=[⟨Si,153,U*3,flatMap cT ((mI ts i)++[eO ⟨#[41]⟩])⟩]) lk (cj ao1 ao2) (dg jE _) (dL (A:=[])) ?_;refine eD [] ?_;rw[lG];exact⟨rfl,rfl⟩
def kI(v:Vl):List Tk :=
 if v.k=0 then [cc ⟨#[78,85,76,76]⟩]
 else if v.k=1 then [cc (if v.n=0 then ⟨#[70,65,76,83,69]⟩ else ⟨#[84,82,85,69]⟩)]
 else if v.k=3 then [⟨3,v.s,0⟩]
 else if v.n<0 then [eO ⟨#[45]⟩,⟨2,⟨#[]⟩,-v.n⟩] else [⟨2,⟨#[]⟩,v.n⟩]
def pc(v:Vl):Prop:=(v.k=1->v.n=0\/v.n=1)/\-9223372036854775807<=v.n/\v.n<=9223372036854775807
theorem UH(v:Vl):0<(kI v).length/\(kI v).length<=2:=by
 unfold kI;repeat' split
 all_goals exact⟨by simp,by simp⟩
def Jo:List ByteArray:=[⟨#[]⟩,⟨#[]⟩,⟨#[]⟩,⟨#[]⟩,⟨#[]⟩,⟨#[]⟩,⟨#[61]⟩,⟨#[60]⟩,⟨#[43]⟩,⟨#[45]⟩,⟨#[42]⟩]
def Cw(k:Int):Tk:=if k=3 then cc ⟨#[65,78,68]⟩ else if k=4 then cc ⟨#[79,82]⟩ else eO (Jo.getD k.toNat ⟨#[]⟩)
theorem am1{j:Nat}(h:j<11):(Jo.map fun s=>D.v (.string s))[j*1]?=some (aG (Jo[j]'h)):=by
 rw[Nat.mul_one,getElem?_map,getElem?_eq_getElem h];rfl
theorem TJ(v:Vl)(h:pc v):VP Tryz.prog G 81 [.agg (cV v)] (.list 3 ((kI v).flatMap cT) (kI v).length):=by
 refine bA func81 rfl ntmps81 aO fun X0 w0 bz=>?_;obtain⟨h1,h2,h3⟩:=h;unfold cV;refine cq ?_;refine dm [_,_,_] (fun b1=>?_);refine ap 42 [1] ?_;refine ax [1,3] ?_ ?_<;>intro aP bH
 ·refine cW [2] (u3 [⟨#[78,85,76,76]⟩] Co) ?_;exact KE
 refine ax [1,9] ?_ ?_<;>intro bg cM
 ·have eK:v.k=1:=(by simpa using bg)
  obtain⟨j,hj,I⟩:∃j:Nat,v.n=(j:Int)/\j<2:=(by (rcases h1 eK with h|h;exact⟨0,h,by decide⟩;exact⟨1,h,by decide⟩))
  rw[hj];refine cJ [2] ?_;refine Df (g:=cS) ([⟨#[70,65,76,83,69]⟩,⟨#[84,82,85,69]⟩]) ?_;refine aM 3 ?_ (h:=by exact(ez (mk:=Op.load 9) rfl ot (by exact uf (i:=j) kG isAgg9 (by show j<2;omega) rfl)));refine cA (u3 [([⟨#[70,65,76,83,69]⟩,⟨#[84,82,85,69]⟩]:List ByteArray)[j]'(by show j<2;omega)] Co) ?_;refine bB ?_;exact KE
 refine ax [1,20] ?_ ?_<;>intro cl di
 ·refine az 3 ?_;refine eR (cU 0 [_]) [.int .i64 0,.string ⟨#[]⟩,.int .i64 0] [_,_,_] zeroValue153 runUnderlying110 sizeOf153 (fun E=>?_);refine cg (eM (S1:=[⟨E,153,1*3,flatMap cT ([(⟨3,v.s,0⟩:Tk)])⟩]) (A:=[_])) ?_;refine ap 42 [2] ?_;refine mS (t:=2) (Sq:=[⟨E,153,1*3,flatMap cT ([(⟨3,v.s,0⟩:Tk)])⟩]) lk (cj (g:=cT) (sz:=3) (e:=153) (ls:=[(⟨3,v.s,0⟩:Tk)]) (Nat.le_refl _) (show 1<=maxLen by decide)) (dg jE _) (dL (A:=[_])) ?_;exact KE
 refine ax [1,28] ?_ ?_<;>intro da eP
 ·refine cJ [2] ?_;refine cA (px ⟨#[45]⟩) ?_;refine aM 2 ?_ (h:=by exact(HR rfl ot (Ow (wrap_i64 w4 w4))));refine bB ?_;exact KE
 refine az 3 ?_;refine eR (cU 0 [_]) [.int .i64 0,.string ⟨#[]⟩,.int .i64 0] [_,_,_] zeroValue153 runUnderlying110 sizeOf153 (fun yD=>?_);refine cg (eM (S1:=[⟨yD,153,1*3,flatMap cT ([(⟨2,⟨#[]⟩,v.n⟩:Tk)])⟩]) (A:=[_])) ?_;refine ap 42 [2] ?_;refine mS (t:=2) (Sq:=[⟨yD,153,1*3,flatMap cT ([(⟨2,⟨#[]⟩,v.n⟩:Tk)])⟩]) lk (cj (g:=cT) (sz:=3) (e:=153) (ls:=[(⟨2,⟨#[]⟩,v.n⟩:Tk)]) (Nat.le_refl _) (show 1<=maxLen by decide)) (dg jE _) (dL (A:=[_])) ?_;refine eD [] ?_;refine⟨?_,rfl⟩;unfold kI;first|(rw[if_pos bH];first|done|rfl)|(rw[if_neg bH,if_pos eK,hj];rcases j with _|_|j<;>first|rfl|omega)|(rw[if_neg bH,if_neg cM,if_pos di];first|done|rfl)|(rw[if_neg bH,if_neg cM,if_neg di,if_pos w4,show -v.n=0-v.n by omega];first|done|rfl)|(rw[if_neg bH,if_neg cM,if_neg di,if_neg w4];first|done|rfl)
theorem afI(k:Int)(h:k=3\/k=4\/6<=k/\k<=10):VP Tryz.prog G 124 [ae k] (.agg (cT (Cw k))):=by
 refine bA func124 rfl ntmps124 aO fun X0 w0 bz=>?_;refine cq ?_;refine cD (ds:=[_,_,_]) au rfl rfl zeroValue153 rfl (fun b2=>?_);refine ap 14 [0,2] ?_;refine ay [0,2,3] ?_;refine ax [0,2,3,4] ?_ ?_<;>intro aP bH
 ·refine cq ?_;refine dK call122 (tZ ⟨#[65,78,68]⟩) ?_;exact z85
 refine ax [0,2,7] ?_ ?_<;>intro bg cM
 ·refine cq ?_;refine dK call122 (tZ ⟨#[79,82]⟩) ?_;exact z85
 have gX:¬k=3:=(by simpa using aP)
 have jS:¬k=4:=(by simpa using bg)
 obtain⟨j,rfl⟩:∃j:Nat,k=(j:Int):=⟨k.toNat,by omega⟩
 have hj:j<11:=(by omega)
 refine cq ?_;refine bS (He (pl:=[(6,_),(7,_),(8,_),(9,_),(10,_)]) (ds:=[_,_,_,_,_,_,_,_,_,_,_]) rfl zeroValue235 runUnderlying235 sizeOf9 ⟨rfl,bP,rfl,bP,rfl,bP,rfl,bP,rfl,bP,trivial⟩ rfl rfl) ?_;refine aF 1 ?_;refine bS (afw (j:=j) rfl ot ot runUnderlying235 sizeOf9 isAgg9 rfl hj (am1 hj)) ?_;refine dK call84 (px (Jo[j]'hj)) ?_;refine aN 0 [_,_,_] sizeOf153 ?_;refine eA 14 [2] [] ?_;refine⟨?_,rfl⟩;unfold Cw;first|(rw[if_neg gX,if_neg jS,show((j:Nat):Int).toNat=j from rfl,getD_eq_getElem?_getD,getElem?_eq_getElem hj];rfl)|(rw[if_pos zP];rfl)|(rw[if_neg zP,if_pos x9];rfl)
def Gm(q:List Tk):List D:=[aj 3 cT q]
theorem TR:(Tryz.prog.info? 153).map (fun i=>(i.zero,i.size,i.bytes))=some (some (.agg #[.int .i64 0,.string ⟨#[]⟩,.int .i64 0]),3,32):=by kernel_rfl
theorem agx(n:Nat)(h0:0<n)(hn:n<=100000):VC Tryz.prog G 123 [aJ,ae (n:Nat)] [] (fun r S=>∃b cap,cap<=maxLen/\r=aS (some ⟨b,0,none⟩) 0 cap/\S=[⟨b,153,cap*3,[]⟩]):=by
 refine bA func123 rfl ntmps123 aO fun X0 w0 bz=>?_;refine ay [0,1] ?_;refine ax [0,1,6] ?_ ?_<;>intro aP bH
 ·exact absurd aP wB
 refine cJ [0,1] ?_;refine aM 2 ?_ (h:=by exact(HA rfl rfl ot runUnderlying110));refine aM 1 ?_ (h:=by exact(ez (mk:=fun y=>.call {callee:=.builtin .len,args:=#[y],argTypes:=#[110]}) rfl ot (Xo rfl runUnderlying110)));refine bB ?_;refine ax [0,1,16] ?_ ?_<;>intro bg cM
 ·refine dB 2 ?_;refine bS (HA rfl rfl ot runUnderlying110) ?_;refine bS (G7 rfl ot rfl ⟨_,_,ot,rfl⟩ runUnderlying110 sizeOf153) ?_;refine aF 1 ?_;refine afb (m:=n) (sz:=3) au rfl rfl underlying110 underlying3 TR rfl w7 ot (Eq.trans ot (congrArg (fun z=>D.v (.int .i64 z)) (show((n:Nat):Int)-(0-0)=((n:Nat):Int) by omega))) h0 JM w4 (fun b cap h1 h2=>?_);refine aF 1 ?_;refine bS (ez (mk:=fun y=>.call {callee:=.builtin .len,args:=#[y],argTypes:=#[110]}) rfl ot (Xo rfl runUnderlying110)) ?_;refine bS (fw (l:=0) (h:=0) rfl ot trivial ⟨_,ot⟩ (by first|exact qq (fun h=>by cases h) runUnderlying110 sizeOf153 w4|exact pU (fun _=>rfl) (fun h=>by cases h) runUnderlying110 sizeOf153 w4 w4)) ?_;refine ap 27 [0] ?_;refine dS [4] [⟨b,153,cap*3,[]⟩] ?_;exact⟨b,cap,h2,rfl,rfl⟩
 exact absurd bg (by simp at bg;omega)
theorem afj(ls:List (List Tk))(hls:ls.length<=1000)(h0:0<ls.flatten.length)(hn:ls.flatten.length<=100000):VC Tryz.prog G 83 [aj 1 Gm ls] [] (fun r S=>∃ad cap,r=aS ad ls.flatten.length cap/\bF 153 3 (ls.flatten.flatMap cT) ls.flatten.length ad cap S):=by
 refine bA func83 rfl ntmps83 aO fun X0 w0 bz=>?_;refine ay [0] ?_;refine ay [0,3] ?_;refine ay [0,3,9,10,11] ?_;refine kU ?_;refine oB (fun (j:Nat) aE=>(j<=ls.length)/\aE=(⟨36,[(0,aj 1 Gm ls),(3,ae ((((ls.take j).flatten).length:Nat):Int)),(9,aj 1 Gm ls),(10,ae (ls.length:Nat)),(11,ae (j:Nat))],[]⟩:St)) (fun (j:Nat)=>ls.length-j) 0 ⟨(Nat.zero_le _),rfl⟩ (aL (h:=w99)) ?_;rintro j _ ⟨hj,rfl⟩;refine ax [0,3,9,10,11,12] ?_ ?_<;>intro aP bH
 ·have aa:j<ls.length:=(by simp at aP;omega)
  have I:=TF aa;have hle:=TI ls (j+1);refine ay [0,3,5,9,10,11] ?_;refine cJ [0,3,9,10,11] ?_;refine aM 3 ?_ (h:=by exact(eE (r:=.int .i64 ((((ls.take (j+1)).flatten).length:Nat):Int)) rfl ot ot (mB (by rw[show((((ls.take j).flatten).length:Nat):Int)+(ls[j].length:Nat)=((((ls.take (j+1)).flatten).length:Nat):Int) by omega];exact wrap_i64 w4 w4))));refine bB ?_;refine ax [0,3,9,10,11,20] ?_ ?_<;>intro bg cM
  ·exact absurd bg (by simp at bg;omega)
  refine bM [0,3,9,10,11] ?_;refine⟨(j+1),_,cR,(aL (h:=w99)),w4,rfl⟩
 obtain rfl:j=ls.length:=(by simp at aP;omega)
 rw[take_length];refine az 1 ?_;refine eH au rfl rfl rfl call123 (agx ls.flatten.length h0 hn) ⟨bP,ot,trivial⟩ (Perm.refl _) ?_;rintro _ _ ⟨b,cp,Ax,rfl,rfl⟩;refine cg (Perm.refl _) ?_;refine ap 36 [0,6] ?_;refine ay [6,25,26,27] ?_;refine kU ?_;refine oB (fun (aR:Nat×Option Addr×Nat×List ag) aE=>match aR with|(j,eJ,dW,Sx)=>(j<=ls.length)/\(bF 153 3 (((ls.take j).flatten).flatMap cT) ((ls.take j).flatten).length eJ dW Sx)/\aE=(⟨36,[(6,aS eJ ((ls.take j).flatten).length dW),(25,aj 1 Gm ls),(26,ae (ls.length:Nat)),(27,ae (j:Nat))],(Sx)⟩:St)) (fun (aR:Nat×Option Addr×Nat×List ag)=>match aR with|(j,eJ,dW,Sx)=>ls.length-j) (0,(some ⟨b,0,none⟩),cp,[⟨b,153,cp*3,[]⟩]) ⟨(Nat.zero_le _),(bF.cast (agw Ax) (by rfl)),rfl⟩ (aL (h:=w66)) ?_;rintro⟨j,eJ,dW,Sx⟩ _ ⟨hj,eW,rfl⟩;refine ax [6,25,26,27,28] ?_ ?_<;>intro cl di
 ·have aa:j<ls.length:=(by simp at cl;omega)
  have I:=TF aa;have hle:=TI ls (j+1);refine ay [6,8,25,26,27] ?_;refine dB 2 ?_;refine tN (ls:=((ls.take j).flatten)) (new:=ls[j]) (Sq:=Sx) jE nF au rfl rfl underlying110 TR rfl w7 runUnderlying110 sizeOf153 ot eW (dL (A:=[])) ot JM w4 (fun O U S33 Z=>?_);refine cg (eM (A:=[])) ?_;refine ap 36 [6,25,26,27] ?_;refine bM [6,25,26,27] ?_;refine⟨((j+1),O,U,S33),_,cR,(aL (h:=w66)),w4,(bF.cast Z (by rw[Mf aa])),rfl⟩
 obtain rfl:j=ls.length:=(by simp at cl;omega)
 refine dS [2] Sx ?_;have E:=eW;rw[take_length] at E;exact⟨eJ,dW,by rw[take_length],E⟩
theorem HB(ls:List (List Tk))(E:ls.length<=1000)(h0:0<ls.flatten.length)(hn:ls.flatten.length<=100000):VP Tryz.prog G 83 [aj 1 Gm ls] (aj 3 cT ls.flatten):=VC.zI jE (afj ls E h0 hn)
def vq(o:aQ)(a b:List Tk):List Tk :=
 if o.k=1 then kI o.v else if o.k=2 then [cc o.nm]
 else if o.k=5 then [[eO ⟨#[40]⟩,cc ⟨#[78,79,84]⟩],a,[eO ⟨#[41]⟩]].flatten
 else if o.k=11 then [[eO ⟨#[40]⟩],a,[cc ⟨#[73,83]⟩,cc ⟨#[78,85,76,76]⟩],[eO ⟨#[41]⟩]].flatten
 else [[eO ⟨#[40]⟩],a,[Cw o.k],b,[eO ⟨#[41]⟩]].flatten
def fx(h:List (List Tk))(o:aQ):Nat:=h.length-(cn o.k).toNat
def qx(h:List (List Tk))(o:aQ):List (List Tk):=h.take (fx h o)++[vq o (h.getD (fx h o) []) (h.getD (fx h o+1) [])]
def uo(l:List aQ):List Tk:=(l.foldl qx []).getD 0 []
theorem aj5{h:Int}(he:ga h o=0):1<=o.k/\o.k<=11/\jj o.v=0/\cn o.k<=h:=by
 unfold ga at he;split at he
 ·cases he
 split at he
 ·exact absurd he wE
 split at he
 ·cases he
 split at he
 ·rename_i h4;exact absurd he h4.2
 split at he
 ·cases he
 exact⟨by omega,by omega,by omega,by omega⟩
theorem aj6{l:List aQ}{h:Int}(hi:i<l.length)(he:gH h (l.drop i)=0):ga h l[i]=0:=by
 rw[drop_eq_getElem_cons hi,gH] at he;split at he
 ·assumption
 exact he
theorem YW{v:Vl}(h:jj v=0)(h1:-9223372036854775808<=v.n)(h2:v.n<=9223372036854775807):pc v:=by
 unfold jj bW at h;split at h
 ·cases h
 have hn:¬(v.k=2/\v.n = -9223372036854775808):=(by assumption)
 repeat' split at h
 all_goals first|(exfalso;omega)|(unfold pc;refine⟨?_,?_,h2⟩<;>omega)
theorem V3(hp:cn o.k<=(h.length:Int)):((qx h o).length:Int)=h.length+(1-cn o.k):=by
 have:=wc o.k;unfold qx fx;rw[length_append,length_take];simp only[length_cons,length_nil];omega
theorem Dt(h:List (List Tk))(n:Nat):h.flatten.length=(h.take n).flatten.length+(h.drop n).flatten.length:=by
 conv=>lhs;rw[<-take_append_drop n h,flatten_append,length_append]
theorem xw:(h.getD n []).length<=(h.drop n).flatten.length/\(h.getD n []).length+(h.getD (n+1) []).length<=(h.drop n).flatten.length:=by
 by_cases hn:n<h.length
 ·rw[drop_eq_getElem_cons hn];have e1:h.getD n []=h[n]:=(by rw[getD_eq_getElem?_getD,getElem?_eq_getElem hn];rfl)
  rw[e1,flatten_cons,length_append];refine⟨by omega,?_⟩;by_cases gZ:n+1<h.length
  ·rw[drop_eq_getElem_cons gZ,flatten_cons,length_append];have e2:h.getD (n+1) []=h[n+1]:=(by rw[getD_eq_getElem?_getD,getElem?_eq_getElem gZ];rfl)
   rw[e2];omega
  have e2:h.getD (n+1) []=[]:=(by rw[getD_eq_getElem?_getD,getElem?_eq_none w4];rfl)
  rw[e2];simp only[length_nil];omega
 have e1:h.getD n []=[]:=(by rw[getD_eq_getElem?_getD,getElem?_eq_none w4];rfl)
 have e2:h.getD (n+1) []=[]:=(by rw[getD_eq_getElem?_getD,getElem?_eq_none w4];rfl)
 rw[e1,e2];exact⟨by simp,by simp⟩
theorem XG(o:aQ)(a b:List Tk):(vq o a b).length<=a.length+b.length+5/\0<(vq o a b).length:=by
 have:=UH o.v;unfold vq;repeat' split
 all_goals first|exact⟨by omega,by omega⟩|(simp only[flatten_cons,flatten_nil,length_append,length_cons,length_nil];exact⟨by omega,by omega⟩)
theorem UI:(qx h o).flatten.length<=h.flatten.length+5:=by
 have h1:=Dt h (fx h o);have h2:=(xw (h:=h) (n:=fx h o)).2;have h3:=(XG o (h.getD (fx h o) []) (h.getD (fx h o+1) [])).1;unfold qx;rw[flatten_append,length_append];simp only[flatten_cons,flatten_nil,append_nil];omega
theorem qi{l:List aQ}(hi:i<l.length):(l.take (i+1)).foldl qx []=qx ((l.take i).foldl qx []) l[i]:=by
 rw[take_succ_eq_append_getElem hi,foldl_append];rfl
theorem Iw{e sz cap:Nat}{cs:List D}{ad:Option Addr}{S:List ag}(h:bF e sz cs n ad cap S)(hn:0<n):∃b,ad=some ⟨b,0,none⟩/\n<=cap/\cap<=maxLen/\S=[⟨b,e,cap*sz,cs⟩]:=by
 rcases h with ⟨h1,_⟩|h
 ·omega
 exact h
theorem oJ{h:List α}{d:α}(hn:n<h.length):h.getD n d=h[n]:=by rw[getD_eq_getElem?_getD,getElem?_eq_getElem hn];rfl
theorem afk:(Tryz.prog.info? 110).map (fun i=>(i.zero,i.size,i.bytes))=some (some (.slice none 0 0),1,24):=by kernel_rfl
theorem Ub(l:List aQ)(hl:l.length<=40)(he:gH 0 l=0)(hr:∀o∈l,-9223372036854775808<=o.v.n/\o.v.n<=9223372036854775807):VP Tryz.prog G 85 [aj 5 cO l] (.list 3 ((uo l).flatMap cT) (uo l).length):=by
 refine bA func85 rfl ntmps85 aO fun X0 w0 bz=>?_;have dy:=ee;refine ay [0] ?_;refine cq ?_;refine bL [0,3] ?_;refine ay [3,8,9,10] ?_;refine kU ?_;refine oB (fun (aR:Nat×List (List Tk)×Option Addr×Nat×List ag) aE=>match aR with|(i,H,Dk,E,Sh)=>(i<=l.length)/\(H=(l.take i).foldl qx [])/\(gH ((H).length:Int) (l.drop i)=0)/\((H).length<=i)/\((H).flatten.length<=5*i)/\(bF 110 1 ((H).flatMap cK) (H).length Dk E Sh)/\aE=(⟨90,[(3,aS Dk (H).length E),(8,aj 5 cO l),(9,ae (l.length:Nat)),(10,ae (i:Nat))],(Sh)⟩:St)) (fun (aR:Nat×List (List Tk)×Option Addr×Nat×List ag)=>match aR with|(i,H,Dk,E,Sh)=>l.length-i) (0,[],none,0,[]) ⟨(Nat.zero_le _),rfl,he,(Nat.le_refl _),(Nat.le_refl _),(bF.cast jt (by rfl)),rfl⟩ (aL (h:=w67)) ?_;rintro⟨i,H,Dk,E,Sh⟩ _ ⟨hi,hH,hx,hHi,hHf,Dl,rfl⟩;refine ax [3,8,9,10,11] ?_ ?_<;>intro aP bH
 ·have aa:i<l.length:=(by simp at aP;omega)
  have Dj:=aj6 aa hx;obtain⟨eK,abd,ao3,KY⟩:=aj5 Dj;have Gk:=wc l[i].k;have Qp:l.length<=40:=hl;have ao4:fx H l[i]<=H.length:=Nat.sub_le _ _;have ao5:=YW ao3 (hr _ (getElem_mem aa)).1 (hr _ (getElem_mem aa)).2;refine az 2 ?_;refine cD (ds:=[_,_,_,_,_]) au rfl rfl zeroValue38 rfl (fun b5=>?_);refine aN 0 [_,_,_,_,_] sizeOf38 ?_;refine ap 90 [3,5,8,9,10] ?_;refine cJ [3,5,6,8,9,10] ?_;refine cA (NF l[i].k) ?_;refine aM 0 ?_ (h:=by exact(eE (r:=.int .i64 (((fx H l[i]):Nat):Int)) rfl ot ot (je (by rw[show((H.length:Nat):Int)-cn l[i].k=(((fx H l[i]):Nat):Int) by unfold fx;omega];exact wrap_i64 w4 w4))));refine bB ?_;refine ay [3,5,6,8,9,10] ?_;refine iM [6,8,9,10] (fun aU _ aE=>∃(Tx:List Tk),∃(ad:Option Addr),∃(cp:Nat),∃(Sx:List ag),(Tx=vq l[i] (H.getD (fx H l[i]) []) (H.getD (fx H l[i]+1) []))/\(bF 110 1 (H.flatMap cK) H.length ad cp Sx)/\aE=(⟨90,(3,aS ad H.length cp)::(7,aj 3 cT Tx)::aU,Sx⟩:St)) ?_ ?_
  ·refine ay [3,5,6,8,9,10,21] ?_;refine ax [3,5,6,8,9,10,21,41] ?_ ?_<;>intro bg cM
   ·refine fW [3,6,7,8,9,10] ?_;refine cA (TJ l[i].v ao5) ?_;refine bB ?_;refine⟨_,aL,kI l[i].v,Dk,E,Sh,(by unfold vq;rw[if_pos cM]),Dl,rfl⟩
   refine ax [3,5,6,8,9,10,21,46] ?_ ?_<;>intro cl di
   ·refine fW [3,6,7,8,9,10] ?_;refine cA (u3 [l[i].nm] Co) ?_;refine bB ?_;refine⟨_,aL,[cc l[i].nm],Dk,E,Sh,(by unfold vq;rw[if_neg cM,if_pos di]),Dl,rfl⟩
   refine ax [3,5,6,8,9,10,21,52] ?_ ?_<;>intro da eP
   ·have qg:l[i].k=5:=(by simpa using da)
    have hp1:cn l[i].k=1:=(by rw[qg];decide)
    have hg1:=(xw (h:=H) (n:=fx H l[i])).1;have hg2:=(xw (h:=H) (n:=fx H l[i])).2;have hg3:=Dt H (fx H l[i]);have rR:0<H.length:=(by omega)
    obtain⟨bh,I,O,U,Z⟩:=Iw Dl rR;subst I Z;have iV:fx H l[i]<H.length:=(by unfold fx;omega)
    rw[oJ iV] at hg1 hg2;skip;refine fW [3,6,7,8,9,10] ?_;refine cA (px ⟨#[40]⟩) ?_;refine cA (tZ ⟨#[78,79,84]⟩) ?_;refine aM 4 ?_ (h:=Q5);refine cA (px ⟨#[41]⟩) ?_;refine cA (HB ([[eO ⟨#[40]⟩,cc ⟨#[78,79,84]⟩],H[fx H l[i]],[eO ⟨#[41]⟩]]) PU CP CP) ?_;refine bB ?_;refine⟨_,aL,[[eO ⟨#[40]⟩,cc ⟨#[78,79,84]⟩],H[fx H l[i]],[eO ⟨#[41]⟩]].flatten,(some ⟨bh,0,none⟩),E,[⟨bh,110,E*1,H.flatMap cK⟩],(by unfold vq;rw[if_neg cM,if_neg di,if_pos eP,oJ iV]),(cj O U),rfl⟩
   refine ax [3,5,6,8,9,10,65] ?_ ?_<;>intro eo fR
   ·have Sk:l[i].k=11:=(by simpa using eo)
    have hp1:cn l[i].k=1:=(by rw[Sk];decide)
    have hg1:=(xw (h:=H) (n:=fx H l[i])).1;have hg2:=(xw (h:=H) (n:=fx H l[i])).2;have hg3:=Dt H (fx H l[i]);have rR:0<H.length:=(by omega)
    obtain⟨bh,I,O,U,Z⟩:=Iw Dl rR;subst I Z;have iV:fx H l[i]<H.length:=(by unfold fx;omega)
    rw[oJ iV] at hg1 hg2;skip;refine fW [3,6,7,8,9,10] ?_;refine cA (px ⟨#[40]⟩) ?_;refine aM 4 ?_ (h:=Q5);refine cA (u3 [⟨#[73,83]⟩,⟨#[78,85,76,76]⟩] (by show 2<=10;decide)) ?_;refine cA (px ⟨#[41]⟩) ?_;refine cA (HB ([[eO ⟨#[40]⟩],H[fx H l[i]],[cc ⟨#[73,83]⟩,cc ⟨#[78,85,76,76]⟩],[eO ⟨#[41]⟩]]) PU CP CP) ?_;refine bB ?_;refine⟨_,aL,[[eO ⟨#[40]⟩],H[fx H l[i]],[cc ⟨#[73,83]⟩,cc ⟨#[78,85,76,76]⟩],[eO ⟨#[41]⟩]].flatten,(some ⟨bh,0,none⟩),E,[⟨bh,110,E*1,H.flatMap cK⟩],(by unfold vq;rw[if_neg cM,if_neg di,if_neg eP,if_pos fR,oJ iV]),(cj O U),rfl⟩
   have FP:¬l[i].k=1/\¬l[i].k=2/\¬l[i].k=5/\¬l[i].k=11:=⟨by simpa using bg,by simpa using cl,by simpa using da,by simpa using eo⟩
   have qE:cn l[i].k=2:=(by unfold cn;rw[if_neg w4,if_neg w4])
   have hg1:=(xw (h:=H) (n:=fx H l[i])).1;have hg2:=(xw (h:=H) (n:=fx H l[i])).2;have hg3:=Dt H (fx H l[i]);have rR:0<H.length:=(by omega)
   obtain⟨bh,I,O,U,Z⟩:=Iw Dl rR;subst I Z;have iV:fx H l[i]<H.length:=(by unfold fx;omega)
   have dQ:fx H l[i]+1<H.length:=(by unfold fx;omega)
   rw[oJ iV,oJ dQ] at hg2;rw[oJ iV] at hg1;refine fW [3,6,7,8,9,10] ?_;refine cA (px ⟨#[40]⟩) ?_;refine aM 4 ?_ (h:=Q5);refine cA (afI l[i].k w4) ?_;refine aM 3 ?_ (h:=by exact(eE (r:=.int .i64 ((((fx H l[i])+1:Nat)):Int)) rfl ot bP (mB (by rw[show(((fx H l[i]):Nat):Int)+1=(((fx H l[i])+1:Nat):Int) by omega];exact wrap_i64 w4 w4))));refine aM 1 ?_ (h:=by first|exact(ez (mk:=Op.load 110) rfl ot (by exact kV (k:=0) (i:=((fx H l[i])+1)) iw rfl rfl rfl isAgg110 dQ rfl))|exact(ez (mk:=Op.load 110) rfl ot (by exact kV (k:=1) (i:=((fx H l[i])+1)) iw rfl rfl rfl isAgg110 dQ rfl))|exact(ez (mk:=Op.load 110) rfl ot (by exact kV (k:=2) (i:=((fx H l[i])+1)) iw rfl rfl rfl isAgg110 dQ rfl)));refine cA (px ⟨#[41]⟩) ?_;refine cA (HB ([[eO ⟨#[40]⟩],H[fx H l[i]],[Cw l[i].k],H[fx H l[i]+1],[eO ⟨#[41]⟩]]) PU CP CP) ?_;refine bB ?_;refine⟨_,aL,[[eO ⟨#[40]⟩],H[fx H l[i]],[Cw l[i].k],H[fx H l[i]+1],[eO ⟨#[41]⟩]].flatten,(some ⟨bh,0,none⟩),E,[⟨bh,110,E*1,H.flatMap cK⟩],(by unfold vq;rw[if_neg cM,if_neg di,if_neg eP,if_neg fR,oJ iV,oJ dQ]),(cj O U),rfl⟩
  rintro _ ⟨Tx,ad,cp,Sx,hT,eW,rfl⟩;have hTl:=XG l[i] (H.getD (fx H l[i]) []) (H.getD (fx H l[i]+1) []);refine dB 3 ?_;refine bS (aeC eW rfl ot ot ot runUnderlying146 sizeOf110 (by unfold fx;omega)) ?_;refine aF 1 ?_;refine eR (cU 0 [_]) [.slice none 0 0] [_] zeroValue110 runUnderlying146 sizeOf110 (fun b84=>?_);refine gb 0 84 1 1 ?_;refine aeD (ls:=H) (new:=[Tx]) (n:=fx H l[i]) (Sq:=Sx) iw rJ au rfl rfl underlying146 afk rfl w7 ot eW (dL (A:=[])) (by unfold fx;omega) ot bC (by simp only[maxLen,length_cons,length_nil];omega) (by simp only[length_cons,length_nil];omega) (fun Sn Qq ao6 ao7=>?_);refine cg (eM (S1:=[⟨Sn,110,Qq*1,flatMap cK (H.take (fx H l[i])++[Tx])⟩]) (A:=[])) ?_;refine ap 90 [3,8,9,10] ?_;refine bM [3,8,9,10] ?_;refine⟨((i+1),(qx H l[i]),(some ⟨Sn,0,none⟩),Qq,[⟨Sn,110,Qq*1,flatMap cK (H.take (fx H l[i])++[Tx])⟩]),_,cR,(aL (h:=w67)),w4,(by rw[hH,<-qi aa]),(by rw[V3 KY,<-V0 aa Dj];exact hx),(by have:=V3 KY;omega),(by have:=UI (h:=H) (o:=l[i]);omega),(bF.cast (cj ao6 ao7) (by rw[hT];rfl)),rfl⟩
 have rW:l.length<=i:=(by simp at aP;omega)
 have fG:=hx;rw[UF rW] at fG;have hH1:H.length=1:=(by (split at fG;omega;cases fG))
 refine qm ?_;refine cL ?_;obtain⟨bh,I,O,U,Z⟩:=Iw Dl (show 0<H.length by omega);subst I Z;have iV:0<H.length:=(by omega)
 refine fW [2] ?_;refine aM 1 ?_ (h:=by exact(ny (mk:=Op.indexAddr 146) rfl ot bP (by first|exact qj runUnderlying146 sizeOf110 (j:=0) rfl (by first|exact iV|exact dQ)|exact qp runUnderlying146 sizeOf110 (j:=0) rfl (by first|exact iV|exact dQ))));refine aM 0 ?_ (h:=by first|exact(ez (mk:=Op.load 110) rfl ot (by exact kV (k:=0) (i:=0) iw rfl rfl rfl isAgg110 iV rfl))|exact(ez (mk:=Op.load 110) rfl ot (by exact kV (k:=1) (i:=0) iw rfl rfl rfl isAgg110 iV rfl))|exact(ez (mk:=Op.load 110) rfl ot (by exact kV (k:=2) (i:=0) iw rfl rfl rfl isAgg110 iV rfl)));refine bB ?_;refine eD [] ?_;refine⟨?_,rfl⟩;unfold uo;rw[show l.foldl qx []=H by rw[hH,take_of_length_le rW],oJ iV]
end
open List
open Go.Proofs.Tryz
open Go.RowKit V Pk Vl Go.Proofs.YtihmfhcjbmlnaaaGreatDoor.Nm Pc
variable {G:List (Nat×List Value)}
variable {α:Type} {i:Nat} {E:List ByteArray}
def aY(s:aT):List D:=[ae s.kind,aG s.table,aj 2 cC s.an,aj 3 cV s.row,aj 1 cS s.names,aW s.count,aj 5 cO s.ah,aG s.order,aW s.down,ae s.iA,aG s.set,aj 5 cO s.bG]
def okS(s:aT):Prop:=s.an.length<=6/\s.row.length<=6/\s.names.length<=6/\s.ah.length<=40/\s.bG.length<=40
def lC{α:Type}(f:α->Int):List α->Int
 | []=>0
 | a::r=>if f a≠0 then f a else lC f r
theorem V4{f:α->Int}{l:List α}(hi:i<l.length)(h:f l[i]≠0):lC f (l.drop i)=f l[i]:=by rw[drop_eq_getElem_cons hi,lC,if_pos h]
theorem V5{f:α->Int}{l:List α}(hi:i<l.length)(h:f l[i]=0):lC f (l.drop i)=lC f (l.drop (i+1)):=by rw[drop_eq_getElem_cons hi,lC,if_neg (by rw[h];decide)]
theorem UJ{f:α->Int}{l:List α}(hi:l.length<=i):lC f (l.drop i)=0:=by rw[drop_of_length_le hi];rfl
def dV(l:List Vl):Int:=if l.length<1\/l.length>6 then 1 else lC jj l
def oL(l:List aQ):Int:=if l.length=0 then 0 else jw l
def qU(s:aT):Int :=
 if s.names.length>6 then 1 else if s.iA < -1 then 3
 else if (s.count=true/\0<s.names.length)\/(s.down=true/\jQ s.order ⟨#[]⟩=true) then 6
 else if lC dH s.names≠0 then lC dH s.names else if oL s.ah≠0 then oL s.ah else if jQ s.order ⟨#[]⟩=true then 0 else dH s.order
def dO(s h:aT):Bool:=jQ s.table h.table&&(((s.an.length:Int)==(h.an.length:Int))&&(((s.row.length:Int)==(h.row.length:Int))&&(((s.names.length:Int)==(h.names.length:Int))&&((s.count==h.count)&&(((s.ah.length:Int)==(h.ah.length:Int))&&(jQ s.order h.order&&((s.down==h.down)&&((s.iA==h.iA)&&(jQ s.set h.set&&((s.bG.length:Int)==(h.bG.length:Int)))))))))))
structure dJ (s:aT):Prop where
 ok:okS s
 t:s.table.size<=maxLen
 c:∀c∈s.an,c.n.size<=maxLen
 n:∀x∈s.names,x.size<=maxLen
 o:s.order.size<=maxLen
 e:s.set.size<=maxLen
 r:∀v∈s.row,-9223372036854775808<=v.n/\v.n<=9223372036854775807
 w:∀o∈s.ah,o.nm.size<=maxLen/\-9223372036854775808<=o.v.n/\o.v.n<=9223372036854775807
 x:∀o∈s.bG,o.nm.size<=maxLen/\-9223372036854775808<=o.v.n/\o.v.n<=9223372036854775807
def mc(l:List aQ):List Tk:=if l.length=0 then [] else [⟨#[87,72,69,82,69]⟩].map cc++uo l
theorem Vu(hm:(3,marksC)∈G)(hw:(1,wordsC)∈G)(l:List ByteArray)(hl:l.length<=1000)(hs:∀s∈l,s.size<=maxLen):VP Tryz.prog G 120 [aj 1 cS l] (ae (lC dH l)):=by
 refine bA func120 rfl ntmps120 aO fun X0 w0 bz=>?_;refine ay [0] ?_;refine ay [6,7,8] ?_;refine eZ [6,7] (fun aU _ (i:Nat) aE=>(i<=l.length)/\(lC dH l=lC dH (l.drop i))/\aE=(⟨18,(8,ae (i:Nat))::aU,[]⟩:St)) (fun (i:Nat)=>l.length-i) 0 ⟨(Nat.zero_le _),rfl,rfl⟩ ?_;rintro i _ ⟨hi,hx,rfl⟩;refine ax [6,7,8,9] ?_ ?_<;>intro aP bH
 ·have aa:i<l.length:=(by simp at aP;omega)
  refine ay [4,6,7,8] ?_;refine cW [5,6,7,8] (xE hm hw l[i] (hs _ (getElem_mem aa))) ?_;refine ax [5,6,7,8,15] ?_ ?_<;>intro bg cM
  ·have hn:dH l[i]≠0:=(by simpa using bg)
   have fG:=hx.trans (V4 aa hn);exact Qc
  have h0:dH l[i]=0:=(by simpa using bg)
  refine bM [6,7,8] ?_;refine⟨(i+1),_,cR,aL,w4,(hx.trans (V5 aa h0)),rfl⟩
 have fG:lC dH l=0:=hx.trans (UJ wB);refine ay [2] ?_;exact JW
theorem aj7(l:List Vl)(hl:l.length<=1000):VP Tryz.prog G 74 [aj 3 cV l] (ae (dV l)):=by
 refine bA func74 rfl ntmps74 aO fun X0 w0 bz=>?_;have O:(l.length<1\/l.length>6)\/¬(l.length<1\/l.length>6):=(by omega)
 refine ay [0] ?_;refine az 4 ?_;refine cz 9 (fun I E=>?_) (fun I E=>?_)
 ·refine bL [0,13] ?_;refine fu ?_;exact aaQ
 refine bL [0,13] ?_;refine bX ?_ ?_<;>intro aP bH
 ·exact aaQ
 have hf:dV l=lC jj l:=if_neg w4;refine ay [14,15,16] ?_;refine eZ [14,15] (fun aU _ (i:Nat) aE=>(i<=l.length)/\(lC jj l=lC jj (l.drop i))/\aE=(⟨26,(16,ae (i:Nat))::aU,[]⟩:St)) (fun (i:Nat)=>l.length-i) 0 ⟨(Nat.zero_le _),rfl,rfl⟩ ?_;rintro i _ ⟨hi,hx,rfl⟩;refine ax [14,15,16,17] ?_ ?_<;>intro bg cM
 ·have aa:i<l.length:=(by simp at bg;omega)
  refine az 2 ?_;refine cD (ds:=[_,_,_]) au rfl rfl zeroValue36 rfl (fun b4=>?_);refine aN 0 [_,_,_] sizeOf36 ?_;refine ap 26 [4,14,15,16] ?_;refine cW [5,14,15,16] (Nm.T7 l[i]) ?_;refine ax [5,14,15,16,23] ?_ ?_<;>intro cl di
  ·have hn:jj l[i]≠0:=(by simpa using cl)
   have fG:=hf.trans (hx.trans (V4 aa hn));exact Qc
  have h0:jj l[i]=0:=(by simpa using cl)
  refine bM [14,15,16] ?_;refine⟨(i+1),_,cR,aL,w4,(hx.trans (V5 aa h0)),rfl⟩
 have fG:dV l=0:=hf.trans (hx.trans (UJ (by simp at bg;omega)));refine ay [2] ?_;exact JW
theorem Hs(hm:(3,marksC)∈G)(hw:(1,wordsC)∈G)(l:List aQ)(hs:∀o∈l,o.nm.size<=maxLen):VP Tryz.prog G 77 [aj 5 cO l] (ae (oL l)):=by
 refine bA func77 rfl ntmps77 aO fun X0 w0 bz=>?_;refine ay [0] ?_;refine ax [0,5] ?_ ?_<;>intro aP bH
 ·have fG:oL l=0:=if_pos wB;exact Qc
 have fG:oL l=jw l:=if_neg wB;refine cW [2] (NG hm hw l hs) ?_;exact JW
theorem aip(hm:(3,marksC)∈G)(hw:(1,wordsC)∈G)(s:aT)(hf:dJ s):VP Tryz.prog G 75 [.agg (aY s)] (ae (qU s)):=by
 refine bA func75 rfl ntmps75 aO fun X0 w0 bz=>?_;unfold aY;refine cq ?_;refine dm [_,_,_,_,_,_,_,_,_,_,_,_] (fun b1=>?_);refine ap 50 [1] ?_;refine ax [1,5] ?_ ?_<;>intro aP bH
 ·refine dS [2] [] ?_;exact z21
 refine ax [1,10] ?_ ?_<;>intro bg cM
 ·refine dS [2] [] ?_;exact z21
 refine az 3 ?_;refine cz 17 (fun Ad zG=>?_) (fun Ad zG=>?_)
 ·refine aF 6 ?_;refine cz 23 (fun U O=>?_) (fun U O=>?_)
  ·refine bL [1,14] ?_;refine fu ?_;refine ay [2] ?_;exact z20
  refine aF 3 ?_;refine cz 26 (fun I E=>?_) (fun I E=>?_)
  ·exact aa2
  refine bL [1,14] ?_;refine gK ?_;exact z16
 refine AM 4 ?_;refine aF 5 ?_;refine cz 26 (fun I E=>?_) (fun I E=>?_)
 ·exact aa2
 refine bL [1,14] ?_;refine gK ?_;refine cW [1,3] (Vu hm hw s.names (by have:=hf.ok.2.2.1;omega) hf.n) ?_;refine ax [1,3,36] ?_ ?_<;>intro da eP
 ·refine ay [2] ?_;exact z20
 refine cW [1,4] (Hs hm hw s.ah (fun o h=>(hf.w o h).1)) ?_;refine ax [1,4,42] ?_ ?_<;>intro eo fR
 ·refine ay [2] ?_;exact z20
 refine ax [1,46] ?_ ?_<;>intro fH ik
 ·refine cW [2] (xE hm hw s.order hf.o) ?_;exact z20
 refine ay [2] ?_;refine fJ ?_;refine⟨vi ?_,rfl⟩;unfold qU jQ;simp_all;all_goals (try (intros;(repeat' split)<;>first|rfl|omega))
theorem aj8(s h:aT):VP Tryz.prog G 78 [.agg (aY s),.agg (aY h)] (aW (dO s h)):=by
 refine bA func78 rfl ntmps78 aO fun X0 w0 bz=>?_;unfold aY;refine cq ?_;refine dm [_,_,_,_,_,_,_,_,_,_,_,_] (fun b2=>?_);refine dm [_,_,_,_,_,_,_,_,_,_,_,_] (fun b3=>?_);refine ap 90 [2,3] ?_;refine az 6 ?_;refine cz 10 (fun ao8 E=>?_) (fun ao8 E=>?_)
 ·refine aF 9 ?_;refine cz 19 (fun Qr I=>?_) (fun Qr I=>?_)
  ·refine aF 9 ?_;refine cz 28 (fun ao9 O=>?_) (fun ao9 O=>?_)
   ·refine aF 9 ?_;refine cz 37 (fun apa U=>?_) (fun apa U=>?_)
    ·refine aF 4 ?_;refine qM jq rfl (eE rfl ot ot (HP underlying4)) ?_;refine aF 2 ?_;refine cz 44 (fun apb Z=>?_) (fun apb Z=>?_)
     ·refine aF 9 ?_;refine cz 53 (fun Qs Pb=>?_) (fun Qs Pb=>?_)
      ·refine aF 7 ?_;refine cz 60 (fun apc Pd=>?_) (fun apc Pd=>?_)
       ·refine aF 4 ?_;refine qM jq rfl (eE rfl ot ot (HP underlying4)) ?_;refine aF 2 ?_;refine cz 67 (fun apd am2=>?_) (fun apd am2=>?_)
        ·refine aF 7 ?_;refine cz 74 (fun ape am3=>?_) (fun ape am3=>?_)
         ·refine aF 7 ?_;refine cz 81 (fun apf am4=>?_) (fun apf am4=>?_)
          ·exact Az
          exact Az
         exact Az
        exact Az
       exact Az
      exact Az
     exact Az
    refine bL [4] ?_;refine fJ ?_;exact z59
   refine bL [4] ?_;refine fJ ?_;exact z59
  refine bL [4] ?_;refine fJ ?_;exact z59
 refine bL [4] ?_;refine fJ ?_;refine⟨vb ?_,rfl⟩;unfold dO jQ;simp_all;all_goals (try (intros;omega))
theorem afl:(Tryz.prog.info? 153).map (fun i=>(i.zero,i.size,i.bytes))=some (some (.agg #[.int .i64 0,.string ⟨#[]⟩,.int .i64 0]),3,32):=by kernel_rfl
theorem LH(l:List aQ)(hl:l.length<=40)(he:l.length=0\/gH 0 l=0)(hr:∀o∈l,-9223372036854775808<=o.v.n/\o.v.n<=9223372036854775807)(RP:(uo l).length<=1000):VP Tryz.prog G 86 [aj 5 cO l] (.list 3 ((mc l).flatMap cT) (mc l).length):=by
 refine bA func86 rfl ntmps86 aO fun X0 w0 bz=>?_;refine ay [0] ?_;refine ax [0,5] ?_ ?_<;>intro aP bH
 ·have fG:mc l=[]:=if_pos wB;refine ay [2] ?_;refine kX (Wk.tY (t:=2) (sz:=3) lk) ?_;refine eD [] ?_;rw[fG];exact⟨rfl,rfl⟩
 have fG:mc l=[⟨#[87,72,69,82,69]⟩].map cc++uo l:=if_neg wB;have I:gH 0 l=0:=he.resolve_left wB;refine cq ?_;refine eR (cU 0 [_]) [.string ⟨#[]⟩] [_] zeroValue9 runUnderlying31 sizeOf9 (fun b6=>?_);refine cg (eM (S1:=[⟨b6,9,1*1,flatMap cS ([⟨#[87,72,69,82,69]⟩])⟩]) (A:=[])) ?_;refine qN (t:=6) (Sq:=[⟨b6,9,1*1,flatMap cS ([⟨#[87,72,69,82,69]⟩])⟩]) lk (cj (g:=cS) (sz:=1) (e:=9) (ls:=[⟨#[87,72,69,82,69]⟩]) (Nat.le_refl _) (show 1<=maxLen by decide)) (dg kG _) (dL (A:=[])) ?_;refine eH au rfl rfl rfl call79 (B4 [⟨#[87,72,69,82,69]⟩] Co) ⟨ot,trivial⟩ (fj _) ?_;rintro _ S7 ⟨ad7,cp7,rfl,sg⟩;refine cg (S':=S7) (append_nil _ ▸ Perm.refl _) ?_;refine aF 1 ?_;refine dK call85 (Ub l hl I hr) ?_;refine tN (ls:=([⟨#[87,72,69,82,69]⟩].map cc)) (new:=(uo l)) (Sq:=S7) jE nF au rfl rfl underlying110 afl rfl w7 runUnderlying110 sizeOf153 ot sg (dL (A:=[])) ot (by simp only[maxLen,length_map,length_cons,length_nil];omega) (by simp only[length_map,length_cons,length_nil];omega) (fun U Z O E=>?_);refine cg (eM (A:=[])) ?_;refine ap 11 [2] ?_;refine mS (t:=2) (Sq:=O) lk E (dg jE _) (dL (A:=[])) ?_;exact JW
def uz(s:aT):ByteArray:=if s.kind<7 then s.table else ⟨#[]⟩
def dr(s:aT):aT :=
 if s.kind=1 then {bN with kind:=s.kind,table:=(uz s),an:=s.an} else if s.kind=3 then {bN with kind:=s.kind,table:=(uz s),row:=s.row} else if s.kind=4 then {bN with kind:=s.kind,table:=(uz s),names:=s.names,count:=s.count,ah:=s.ah,order:=s.order,down:=s.down,iA:=s.iA} else if s.kind=5 then {bN with kind:=s.kind,table:=(uz s),set:=s.set,bG:=s.bG,ah:=s.ah} else if s.kind=6 then {bN with kind:=s.kind,table:=(uz s),ah:=s.ah} else {bN with kind:=s.kind,table:=(uz s)}
def dA(s:aT):Int :=
 if s.kind=1 then gG s.an else if s.kind=3 then dV s.row else if s.kind=4 then qU s
 else if s.kind=5 then (if dH s.set=0 then (if jw s.bG=0 then oL s.ah else jw s.bG) else dH s.set) else if s.kind=6 then oL s.ah else 0
def cZ(s:aT):Int:=if s.kind<7/\dH s.table≠0 then dH s.table else if dA s=0/\dO s (dr s)=false then 6 else dA s
theorem agy(hm:(3,marksC)∈G)(hw:(1,wordsC)∈G)(s:aT)(hf:dJ s):VP Tryz.prog G 46 [.agg (aY s)] (ae (cZ s)):=by
 refine bA func46 rfl ntmps46 aO fun X0 w0 bz=>?_;have I:=aip hm hw s hf;unfold aY at I;unfold aY;refine cq ?_;refine dm [_,_,_,_,_,_,_,_,_,_,_,_] (fun b1=>?_);refine ap 102 [1] ?_;refine az 3 ?_;refine cD (ds:=[_,_,_,_,_,_,_,_,_,_,_,_]) au rfl rfl zeroValue34 rfl (fun b3=>?_);refine aN 0 [_,_,_,_,_,_,_,_,_,_,_,_] sizeOf34 ?_;refine ap 102 [1,3] ?_;refine iM [1,3] (fun aU _ aE=>∃(tb:ByteArray),(tb=uz s)/\(¬(s.kind<7/\dH s.table≠0))/\aE=(⟨102,aU,[⟨b3,34,12,[ae s.kind,aG tb,.list 2 [] 0,.list 3 [] 0,.list 1 [] 0,aW false,.list 5 [] 0,dj,aW false,ae (-1),dj,.list 5 [] 0]⟩,⟨b1,34,12,[ae s.kind,aG s.table,aj 2 cC s.an,aj 3 cV s.row,aj 1 cS s.names,aW s.count,aj 5 cO s.ah,aG s.order,aW s.down,ae s.iA,aG s.set,aj 5 cO s.bG]⟩]⟩:St)) ?_ ?_
 ·refine cL ?_;refine VW (k:=0) (cs':=[_,_,.list 2 [] 0,.list 3 [] 0,.list 1 [] 0,_,.list 5 [] 0,_,_,_,_,.list 5 [] 0]) (S':=[_,_]) rfl Rg rfl ?_;refine bM [1,3,11] ?_;refine bX ?_ ?_<;>intro aP bH
  ·refine az 3 ?_;refine aN 0 [_,_,_,_,_,_,_,_,_,_,_,_] sizeOf9 ?_;refine ap 102 [1,3] ?_;refine cW [1,3,4] (xE hm hw s.table hf.t) ?_;refine ax [1,3,4,19] ?_ ?_<;>intro bg cM
   ·have aZ:cZ s=dH s.table:=(by unfold cZ;rw[if_pos ⟨bH,by simpa using bg⟩])
    exact Qa
   have iV:dH s.table=0:=(by simpa using bg)
   have O:s.table=uz s:=(by unfold uz;rw[if_pos bH])
   have U:¬(s.kind<7/\dH s.table≠0):=fun h=>h.2 iV;refine eI ?_;refine⟨_,aL,s.table,O,U,rfl⟩
  have O:(⟨#[]⟩:ByteArray)=uz s:=(by unfold uz;rw[if_neg w4])
  have U:¬(s.kind<7/\dH s.table≠0):=fun h=>by omega
  refine eI ?_;refine⟨_,aL,⟨#[]⟩,O,U,rfl⟩
 rintro _ ⟨tb,nO,qI,rfl⟩;refine ay [1,3,5] ?_;refine iM [1,3] (fun aU _ aE=>∃(H:aT),∃(e:Int),(H=dr s)/\(e=dA s)/\aE=(⟨102,(5,ae e)::aU,[⟨b3,34,12,[ae H.kind,aG H.table,aj 2 cC H.an,aj 3 cV H.row,aj 1 cS H.names,aW H.count,aj 5 cO H.ah,aG H.order,aW H.down,ae H.iA,aG H.set,aj 5 cO H.bG]⟩,⟨b1,34,12,[ae s.kind,aG s.table,aj 2 cC s.an,aj 3 cV s.row,aj 1 cS s.names,aW s.count,aj 5 cO s.ah,aG s.order,aW s.down,ae s.iA,aG s.set,aj 5 cO s.bG]⟩]⟩:St)) ?_ ?_
 ·refine ay [1,3,5,22] ?_;refine ax [1,3,5,22,23] ?_ ?_<;>intro cl di
  ·refine az 3 ?_;refine aN 0 [_,_,_,_,_,_,_,_,_,_,_,_] sizeOf29 ?_;refine ap 102 [1,3] ?_;refine fW [1,3,5] ?_;refine cA (aj4 hm hw s.an (by have:=hf.ok.1;simp only[maxLen];omega) hf.c) ?_;refine bB ?_;refine⟨_,aL,{bN with kind:=s.kind,table:=tb,an:=s.an},gG s.an,(by unfold dr;rw[if_pos di,nO]),(by unfold dA;rw[if_pos di]),rfl⟩
  refine ax [1,3,5,22,31] ?_ ?_<;>intro da eP
  ·refine az 3 ?_;refine aN 0 [_,_,_,_,_,_,_,_,_,_,_,_] sizeOf30 ?_;refine ap 102 [1,3] ?_;refine fW [1,3,5] ?_;refine cA (aj7 s.row (by have:=hf.ok.2.1;omega)) ?_;refine bB ?_;refine⟨_,aL,{bN with kind:=s.kind,table:=tb,row:=s.row},dV s.row,(by unfold dr;rw[if_neg di,if_pos eP,nO]),(by unfold dA;rw[if_neg di,if_pos eP]),rfl⟩
  refine ax [1,3,5,22,39] ?_ ?_<;>intro eo fR
  ·refine cL ?_;refine iX 22 (aq (eraseIdx _ 0)) ?_ (fun _ h=>(Sublist.map _ (eraseIdx_sublist _ 0)).subset h);refine iD [0,1,2,3,4,5,6,7,8,9,10,11,12] ?_;refine ew.later rfl ?_;refine bV (i:=13) aD ?_;refine eN 0 [_,_,_,_,_,_,_,_,_,_,_,_] sizeOf31 ?_;refine dX 14 rfl (j3 5) ?_;refine bV (i:=15) aD ?_;refine eN 0 [_,_,_,_,_,_,_,_,_,_,_,_] sizeOf4 ?_;refine dX 16 rfl (j3 6) ?_;refine bV (i:=17) aD ?_;refine eN 0 [_,_,_,_,_,_,_,_,_,_,_,_] sizeOf32 ?_;refine dX 18 rfl (j3 7) ?_;refine bV (i:=19) aD ?_;refine eN 0 [_,_,_,_,_,_,_,_,_,_,_,_] sizeOf9 ?_;refine dX 20 rfl (j3 8) ?_;refine bV (i:=21) aD ?_;refine eN 0 [_,_,_,_,_,_,_,_,_,_,_,_] sizeOf4 ?_;refine gd ?_;refine aF 1 ?_;refine aN 0 [_,_,_,_,_,_,_,_,_,_,_,_] sizeOf3 ?_;refine ap 102 [1,3] ?_;refine fW [1,3,5] ?_;refine cA (I) ?_;refine bB ?_;refine⟨_,aL,{bN with kind:=s.kind,table:=tb,names:=s.names,count:=s.count,ah:=s.ah,order:=s.order,down:=s.down,iA:=s.iA},qU s,(by unfold dr;rw[if_neg di,if_neg eP,if_pos fR,nO]),(by unfold dA;rw[if_neg di,if_neg eP,if_pos fR]),rfl⟩
  refine ax [1,3,5,22,61] ?_ ?_<;>intro fH ik
  ·refine cL ?_;refine iX 10 (aq (eraseIdx _ 0)) ?_ (fun _ h=>(Sublist.map _ (eraseIdx_sublist _ 0)).subset h);refine iD [0,1,2,3,4,5,6] ?_;refine ew.later rfl ?_;refine bV (i:=7) aD ?_;refine eN 0 [_,_,_,_,_,_,_,_,_,_,_,_] sizeOf9 ?_;refine dX 8 rfl (j3 11) ?_;refine bV (i:=9) aD ?_;refine eN 0 [_,_,_,_,_,_,_,_,_,_,_,_] sizeOf32 ?_;refine gd ?_;refine aF 1 ?_;refine aN 0 [_,_,_,_,_,_,_,_,_,_,_,_] sizeOf32 ?_;refine ap 102 [1,3] ?_;refine cW [1,3,5] (xE hm hw s.set hf.e) ?_;refine ax [1,3,5,76] ?_ ?_<;>intro iu qa
   ·have Z:dH s.set=0:=(by simpa using iu)
    refine fW [1,3,5] ?_;refine cA (NG hm hw s.bG (fun o h=>(hf.x o h).1)) ?_;refine bB ?_;refine ax [1,3,5,81] ?_ ?_<;>intro iE nJ
    ·have Ss:jw s.bG=0:=(by simpa using iE)
     refine fW [1,3,5] ?_;refine cA (Hs hm hw s.ah (fun o h=>(hf.w o h).1)) ?_;refine bB ?_;refine⟨_,aL,{bN with kind:=s.kind,table:=tb,set:=s.set,bG:=s.bG,ah:=s.ah},oL s.ah,PJ,(by unfold dA;rw[if_neg di,if_neg eP,if_neg fR,if_pos ik,if_pos Z,if_pos Ss]),rfl⟩
    have Ss:¬jw s.bG=0:=(by simpa using iE)
    refine eI ?_;refine⟨_,aL,{bN with kind:=s.kind,table:=tb,set:=s.set,bG:=s.bG,ah:=s.ah},jw s.bG,PJ,(by unfold dA;rw[if_neg di,if_neg eP,if_neg fR,if_pos ik,if_pos Z,if_neg Ss]),rfl⟩
   have Z:¬dH s.set=0:=(by simpa using iu)
   refine ax [1,3,5,81] ?_ ?_<;>intro iE nJ
   ·exact absurd iE (by simp[Z])
   refine eI ?_;refine⟨_,aL,{bN with kind:=s.kind,table:=tb,set:=s.set,bG:=s.bG,ah:=s.ah},dH s.set,PJ,(by unfold dA;rw[if_neg di,if_neg eP,if_neg fR,if_pos ik,if_neg Z]),rfl⟩
  refine ax [1,3,5,85] ?_ ?_<;>intro sb E
  ·refine az 3 ?_;refine aN 0 [_,_,_,_,_,_,_,_,_,_,_,_] sizeOf32 ?_;refine ap 102 [1,3] ?_;refine fW [1,3,5] ?_;refine cA (Hs hm hw s.ah (fun o h=>(hf.w o h).1)) ?_;refine bB ?_;refine⟨_,aL,{bN with kind:=s.kind,table:=tb,ah:=s.ah},oL s.ah,(by unfold dr;rw[if_neg di,if_neg eP,if_neg fR,if_neg ik,if_pos E,nO]),(by unfold dA;rw[if_neg di,if_neg eP,if_neg fR,if_neg ik,if_pos E]),rfl⟩
  refine eI ?_;refine⟨_,aL,{bN with kind:=s.kind,table:=tb},0,(by unfold dr;rw[if_neg di,if_neg eP,if_neg fR,if_neg ik,if_neg E,nO]),(by unfold dA;rw[if_neg di,if_neg eP,if_neg fR,if_neg ik,if_neg E]),rfl⟩
 rintro _ ⟨H,e,hH,Gn,rfl⟩;refine cL ?_;refine cL ?_;have Zx:=aj8 (G:=G) s H;unfold aY at Zx;refine dB 3 ?_;refine cz 95 (fun abe am5=>?_) (fun abe am5=>?_)
 ·refine aF 2 ?_;refine pS jq rfl rfl rfl call78 (Zx) ⟨ot,ot,trivial⟩ ?_;refine ap 102 [5,100] ?_;refine bX ?_ ?_<;>intro wX Ff
  ·have aZ:cZ s=6:=(by unfold cZ;rw[if_neg qI,if_pos ⟨by rw[<-Gn];simpa using abe,by rw[<-hH];simpa using wX⟩])
   refine bM [5] ?_;exact Qa
  have aZ:cZ s=e:=(by unfold cZ;rw[if_neg qI,if_neg (by rw[<-Gn,<-hH];exact(fun h=>by obtain⟨h1,h2⟩:=h;simp_all)),Gn])
  exact Qa
 refine bL [5,100] ?_;refine gK ?_;have aZ:cZ s=e:=(by unfold cZ;rw[if_neg qI,if_neg (by rw[<-Gn,<-hH];exact(fun h=>by obtain⟨h1,h2⟩:=h;simp_all)),Gn])
 refine ay [2] ?_;refine fJ ?_;exact⟨by first|rw[aZ]|rw[aZ];rfl,rfl⟩
theorem UK:∀(l:List aQ) (H:List (List Tk)),(l.foldl qx H).flatten.length<=H.flatten.length+5*l.length
 | [],H=>by simp
 | o::r,H=>by
  have h1:=UK r (qx H o);have h2:=UI (h:=H) (o:=o);rw[foldl_cons,length_cons];omega
theorem HC(l:List aQ):(uo l).length<=5*l.length:=by
 have h:=UK l [];have h2:=(xw (h:=l.foldl qx []) (n:=0)).1;have h3:=Dt (l.foldl qx []) 0;simp only[List.take_zero,flatten_nil,length_nil] at h h3;unfold uo;omega
theorem Mh(l:List aQ):(mc l).length<=5*l.length+1:=by
 have h:=HC l;unfold mc;split
 ·simp
 rw[length_append,length_map];simp only[length_cons,length_nil];omega
def lF(ns:List ByteArray):Nat->List Tk
 | 0=>[]
 | i+1=>lF ns i++(if i>0 then [eO ⟨#[44]⟩] else [])++[cc (ns.getD i ⟨#[]⟩)]
theorem HM(E:List ByteArray):∀i,(lF E i).length<=2*i
 | 0=>Nat.le_refl _
 | i+1=>by
  have ih:=HM E i;have h3:(if i>0 then [eO ⟨#[44]⟩] else []).length<=1:=(by split<;>simp)
  unfold lF;rw[length_append,length_append];simp only[length_cons,length_nil];omega
theorem Me(hi:i<E.length)(h:0<i)(X:List Tk):((X++lF E i)++[eO ⟨#[44]⟩])++[cc E[i]]=X++lF E (i+1):=by
 rw[lF,if_pos h,oJ hi];simp only[append_assoc]
theorem LV(hi:i<E.length)(h:¬0<i)(X:List Tk):(X++lF E i)++[cc E[i]]=X++lF E (i+1):=by
 rw[lF,if_neg h,oJ hi];simp only[append_assoc,append_nil]
def xT(s:aT):List Tk:=if s.count=true then [cc ⟨#[67,79,85,78,84]⟩,eO ⟨#[40]⟩,eO ⟨#[42]⟩,eO ⟨#[41]⟩] else if s.names.length=0 then [eO ⟨#[42]⟩] else lF s.names s.names.length
def zY(s:aT):List Tk:=if jQ s.order ⟨#[]⟩=true then [] else [⟨#[79,82,68,69,82]⟩,⟨#[66,89]⟩,s.order].map cc++(if s.down=true then [cc ⟨#[68,69,83,67]⟩] else [])
def EW(s:aT):List Tk:=if 0<=s.iA then [cc ⟨#[76,73,77,73,84]⟩,⟨2,⟨#[]⟩,s.iA⟩] else []
def Ca(s:aT):List Tk:=((([⟨#[83,69,76,69,67,84]⟩].map cc++xT s)++[⟨#[70,82,79,77]⟩,s.table].map cc++mc s.ah)++zY s)++EW s
theorem uS:(Tryz.prog.info? 153).map (fun i=>(i.zero,i.size,i.bytes))=some (some (.agg #[.int .i64 0,.string ⟨#[]⟩,.int .i64 0]),3,32):=by kernel_rfl
theorem aeE : ∀ w, ((#[{ name := "Kind", type := 3, offset := 0, embedded := false, tag := "", pkgPath := "", byteOffset := 0 }, { name := "Text", type := 9, offset := 1, embedded := false, tag := "", pkgPath := "", byteOffset := 8 }, { name := "Int", type := 3, offset := 2, embedded := false, tag := "", pkgPath := "", byteOffset := 24 }] : Array Field).mapM fun f => do pure (f.offset, ← sizeOf f.type) : Sem (Array (Nat × Nat))).run Tryz.prog w = .ok #[(0, 1), (1, 1), (2, 1)] w := fun w => by simp [sizeOf3, sizeOf9]
theorem afm(s:aT)(hf:dJ s)(Gp:s.ah.length=0\/gH 0 s.ah=0):VP Tryz.prog G 82 [.agg (aY s)] (.list 3 ((Ca s).flatMap cT) (Ca s).length):=by
 refine bA func82 rfl ntmps82 aO fun X0 w0 bz=>?_;have dy:=ee;have h6:=hf.ok.2.2.1;have sC:=hf.ok.2.2.2.1;have AW:=Mh s.ah;have Su:=HC s.ah;unfold aY;refine cq ?_;refine dm [_,_,_,_,_,_,_,_,_,_,_,_] (fun b1=>?_);refine ap 84 [1] ?_;refine cq ?_;refine eR (cU 0 [_]) [.string ⟨#[]⟩] [_] zeroValue9 runUnderlying31 sizeOf9 (fun b6=>?_);refine cg (eM (S1:=[⟨b6,9,1*1,flatMap cS ([⟨#[83,69,76,69,67,84]⟩])⟩]) (A:=[_])) ?_;refine qN (t:=6) (Sq:=[⟨b6,9,1*1,flatMap cS ([⟨#[83,69,76,69,67,84]⟩])⟩]) lk (cj (g:=cS) (sz:=1) (e:=9) (ls:=[⟨#[83,69,76,69,67,84]⟩]) (Nat.le_refl _) (show 1<=maxLen by decide)) (dg kG _) (dL (A:=[_])) ?_;refine eH au rfl rfl rfl call79 (B4 [⟨#[83,69,76,69,67,84]⟩] Co) ⟨ot,trivial⟩ (fj _) ?_;rintro _ S7 ⟨ad7,cp7,rfl,sg⟩;refine cg (eM (A:=[_])) ?_;refine ap 84 [1,3] ?_;refine iM [1] (fun aU _ aE=>∃(Q:List Tk),∃(ad:Option Addr),∃(cp:Nat),∃(Sx:List ag),(Q=[⟨#[83,69,76,69,67,84]⟩].map cc++xT s)/\(bF 153 3 (Q.flatMap cT) Q.length ad cp Sx)/\(Q.length<=20)/\aE=(⟨84,(3,aS ad Q.length cp)::aU,(⟨b1,34,12,[ae s.kind,aG s.table,aj 2 cC s.an,aj 3 cV s.row,aj 1 cS s.names,aW s.count,aj 5 cO s.ah,aG s.order,aW s.down,ae s.iA,aG s.set,aj 5 cO s.bG]⟩::Sx)⟩:St)) ?_ ?_
 ·refine ax [1,3,28] ?_ ?_<;>intro aP bH
  ·refine dB 1 ?_;refine dK call122 (tZ ⟨#[67,79,85,78,84]⟩) ?_;refine dK call84 (px ⟨#[40]⟩) ?_;refine dK call84 (px ⟨#[42]⟩) ?_;refine dK call84 (px ⟨#[41]⟩) ?_;refine eR (cU 0 [_,_,_,_]) [.int .i64 0,.string ⟨#[]⟩,.int .i64 0,.int .i64 0,.string ⟨#[]⟩,.int .i64 0,.int .i64 0,.string ⟨#[]⟩,.int .i64 0,.int .i64 0,.string ⟨#[]⟩,.int .i64 0] [_,_,_,_,_,_,_,_,_,_,_,_] zeroValue153 runUnderlying110 sizeOf153 (fun AX=>?_);refine gb 0 36 3 4 ?_;refine gi (ls:=([⟨#[83,69,76,69,67,84]⟩].map cc)) (new:=[cc ⟨#[67,79,85,78,84]⟩,eO ⟨#[40]⟩,eO ⟨#[42]⟩,eO ⟨#[41]⟩]) (Sq:=S7) jE nF au rfl rfl underlying110 uS rfl w7 ot sg (dL (A:=[_])) ot bC rT qe (fun SA U apg aph=>?_);refine cg (eM (S1:=[⟨SA,153,U*3,flatMap cT (([⟨#[83,69,76,69,67,84]⟩].map cc)++[cc ⟨#[67,79,85,78,84]⟩,eO ⟨#[40]⟩,eO ⟨#[42]⟩,eO ⟨#[41]⟩])⟩]) (A:=[_])) ?_;refine ap 84 [1,3] ?_;refine⟨_,aL,(([⟨#[83,69,76,69,67,84]⟩].map cc)++[cc ⟨#[67,79,85,78,84]⟩,eO ⟨#[40]⟩,eO ⟨#[42]⟩,eO ⟨#[41]⟩]),(some ⟨SA,0,none⟩),U,[⟨SA,153,U*3,flatMap cT (([⟨#[83,69,76,69,67,84]⟩].map cc)++[cc ⟨#[67,79,85,78,84]⟩,eO ⟨#[40]⟩,eO ⟨#[42]⟩,eO ⟨#[41]⟩])⟩],(by unfold xT;rw[if_pos bH]),(cj apg aph),Rf,rfl⟩
  refine ax [1,3,38] ?_ ?_<;>intro bg cM
  ·refine dB 1 ?_;refine dK call84 (px ⟨#[42]⟩) ?_;refine eR (cU 0 [_]) [.int .i64 0,.string ⟨#[]⟩,.int .i64 0] [_,_,_] zeroValue153 runUnderlying110 sizeOf153 (fun b45=>?_);refine gb 0 45 3 1 ?_;refine gi (ls:=([⟨#[83,69,76,69,67,84]⟩].map cc)) (new:=[eO ⟨#[42]⟩]) (Sq:=S7) jE nF au rfl rfl underlying110 uS rfl w7 ot sg (dL (A:=[_])) ot bC rT qe (fun C8 Z api apj=>?_);refine cg (eM (S1:=[⟨C8,153,Z*3,flatMap cT (([⟨#[83,69,76,69,67,84]⟩].map cc)++[eO ⟨#[42]⟩])⟩]) (A:=[_])) ?_;refine ap 84 [1,3] ?_;refine⟨_,aL,(([⟨#[83,69,76,69,67,84]⟩].map cc)++[eO ⟨#[42]⟩]),(some ⟨C8,0,none⟩),Z,[⟨C8,153,Z*3,flatMap cT (([⟨#[83,69,76,69,67,84]⟩].map cc)++[eO ⟨#[42]⟩])⟩],(by unfold xT;rw[if_neg zP,if_pos w4]),(cj api apj),Rf,rfl⟩
  refine ay [1,3,9,10,11] ?_;refine kU ?_;refine oB (fun (aR:Nat×Option Addr×Nat×List ag) aE=>match aR with|(i,Gq,Gr,So)=>(i<=s.names.length)/\(bF 153 3 ((([⟨#[83,69,76,69,67,84]⟩].map cc++lF s.names i)).flatMap cT) (([⟨#[83,69,76,69,67,84]⟩].map cc++lF s.names i)).length Gq Gr So)/\aE=(⟨84,[(1,dw b1),(3,aS Gq (([⟨#[83,69,76,69,67,84]⟩].map cc++lF s.names i)).length Gr),(9,aj 1 cS s.names),(10,ae (s.names.length:Nat)),(11,ae (i:Nat))],((⟨b1,34,12,[ae s.kind,aG s.table,aj 2 cC s.an,aj 3 cV s.row,aj 1 cS s.names,aW s.count,aj 5 cO s.ah,aG s.order,aW s.down,ae s.iA,aG s.set,aj 5 cO s.bG]⟩:ag)::So)⟩:St)) (fun (aR:Nat×Option Addr×Nat×List ag)=>match aR with|(i,Gq,Gr,So)=>s.names.length-i) (0,ad7,cp7,S7) ⟨(Nat.zero_le _),(bF.cast sg (by simp[lF])),rfl⟩ (aL (h:=Q8)) ?_;rintro⟨i,Gq,Gr,So⟩ _ ⟨hi,AY,rfl⟩;refine ax [1,3,9,10,11,12] ?_ ?_<;>intro cl di
  ·have aa:i<s.names.length:=(by simp at cl;omega)
   have fC:=HM s.names i;refine ay [1,3,4,5,9,10,11] ?_;refine ax [1,3,5,9,10,11,17] ?_ ?_<;>intro da eP
   ·refine dB 1 ?_;refine dK call84 (px ⟨#[44]⟩) ?_;refine eR (cU 0 [_]) [.int .i64 0,.string ⟨#[]⟩,.int .i64 0] [_,_,_] zeroValue153 runUnderlying110 sizeOf153 (fun Sj=>?_);refine gb 0 20 3 1 ?_;refine gi (ls:=(([⟨#[83,69,76,69,67,84]⟩].map cc++lF s.names i))) (new:=[eO ⟨#[44]⟩]) (Sq:=So) jE nF au rfl rfl underlying110 uS rfl w7 ot AY (dL (A:=[_])) ot bC rT qe (fun Gj abf apk apl=>?_);refine cg (eM (S1:=[⟨Gj,153,abf*3,flatMap cT ((([⟨#[83,69,76,69,67,84]⟩].map cc++lF s.names i))++[eO ⟨#[44]⟩])⟩]) (A:=[_])) ?_;refine ap 84 [1,3,5,9,10,11] ?_;refine dB 2 ?_;refine dK call122 (tZ s.names[i]) ?_;refine eR (cU 0 [_]) [.int .i64 0,.string ⟨#[]⟩,.int .i64 0] [_,_,_] zeroValue153 runUnderlying110 sizeOf153 (fun AZ=>?_);refine gb 0 25 3 1 ?_;refine gi (ls:=((([⟨#[83,69,76,69,67,84]⟩].map cc++lF s.names i))++[eO ⟨#[44]⟩])) (new:=[cc s.names[i]]) (Sq:=[⟨Gj,153,abf*3,flatMap cT ((([⟨#[83,69,76,69,67,84]⟩].map cc++lF s.names i))++[eO ⟨#[44]⟩])⟩]) jE nF au rfl rfl underlying110 uS rfl w7 ot (cj apk apl) (dL (A:=[_])) ot bC rT qe (fun I E Qt Qu=>?_);refine cg (eM (S1:=[⟨I,153,E*3,flatMap cT (((([⟨#[83,69,76,69,67,84]⟩].map cc++lF s.names i))++[eO ⟨#[44]⟩])++[cc s.names[i]])⟩]) (A:=[_])) ?_;refine ap 84 [1,3,9,10,11] ?_;refine bM [1,3,9,10,11] ?_
    refine⟨((i+1),(some ⟨I,0,none⟩),E,[⟨I,153,E*3,flatMap cT (((([⟨#[83,69,76,69,67,84]⟩].map cc++lF s.names i))++[eO ⟨#[44]⟩])++[cc s.names[i]])⟩]),_,cR,(aL (h:=Q8)),w4,(bF.cast (cj Qt Qu) (by first|exact Me aa w4 _|exact LV aa w4 _)),rfl⟩
   refine dB 2 ?_;refine dK call122 (tZ s.names[i]) ?_;refine eR (cU 0 [_]) [.int .i64 0,.string ⟨#[]⟩,.int .i64 0] [_,_,_] zeroValue153 runUnderlying110 sizeOf153 (fun AZ=>?_);refine gb 0 25 3 1 ?_;refine gi (ls:=(([⟨#[83,69,76,69,67,84]⟩].map cc++lF s.names i))) (new:=[cc s.names[i]]) (Sq:=So) jE nF au rfl rfl underlying110 uS rfl w7 ot AY (dL (A:=[_])) ot bC rT qe (fun I E Qt Qu=>?_);refine cg (eM (S1:=[⟨I,153,E*3,flatMap cT ((([⟨#[83,69,76,69,67,84]⟩].map cc++lF s.names i))++[cc s.names[i]])⟩]) (A:=[_])) ?_;refine ap 84 [1,3,9,10,11] ?_;refine bM [1,3,9,10,11] ?_;refine⟨((i+1),(some ⟨I,0,none⟩),E,[⟨I,153,E*3,flatMap cT ((([⟨#[83,69,76,69,67,84]⟩].map cc++lF s.names i))++[cc s.names[i]])⟩]),_,cR,(aL (h:=Q8)),w4,(bF.cast (cj Qt Qu) (by first|exact Me aa w4 _|exact LV aa w4 _)),rfl⟩
  have rW:i=s.names.length:=(by simp at cl;omega)
  refine qm ?_;refine⟨_,aL,(([⟨#[83,69,76,69,67,84]⟩].map cc++lF s.names i)),Gq,Gr,So,(by unfold xT;rw[if_neg zP,if_neg w4,rW]),AY,Rf,rfl⟩
 rintro _ ⟨Q,ad,cp,Sx,hQ,eW,hQl,rfl⟩;refine az 3 ?_;refine eR (cU 0 [_,_]) [.string ⟨#[]⟩,.string ⟨#[]⟩] [_,_] zeroValue9 runUnderlying31 sizeOf9 (fun CY=>?_);refine cg (BA (S2:=[⟨CY,9,2*1,flatMap cS ([⟨#[70,82,79,77]⟩,s.table])⟩]) (A:=[_])) ?_;refine qN (t:=50) (Sq:=[⟨CY,9,2*1,flatMap cS ([⟨#[70,82,79,77]⟩,s.table])⟩]) lk (cj (g:=cS) (sz:=1) (e:=9) (ls:=[⟨#[70,82,79,77]⟩,s.table]) (Nat.le_refl _) (show 2<=maxLen by decide)) (dg kG _) (Bz (A:=[_])) ?_;refine dK call79 (u3 [⟨#[70,82,79,77]⟩,s.table] (by show 2<=10;decide)) ?_;refine gi (ls:=Q) (new:=([⟨#[70,82,79,77]⟩,s.table].map cc)) (Sq:=Sx) jE nF au rfl rfl underlying110 uS rfl w7 ot eW (dL (A:=[_])) ot bC rT qe (fun b52 abg apm apn=>?_);refine cg (eM (S1:=[⟨b52,153,abg*3,flatMap cT (Q++([⟨#[70,82,79,77]⟩,s.table].map cc))⟩]) (A:=[_])) ?_;refine ap 84 [1,3] ?_;refine az 3 ?_;refine dK call86 (LH s.ah sC Gp (fun o h=>(hf.w o h).2) w4) ?_;refine tN (ls:=(Q++([⟨#[70,82,79,77]⟩,s.table].map cc))) (new:=(mc s.ah)) (Sq:=[⟨b52,153,abg*3,flatMap cT (Q++([⟨#[70,82,79,77]⟩,s.table].map cc))⟩]) jE nF au rfl rfl underlying110 uS rfl w7 runUnderlying110 sizeOf153 ot (cj apm apn) (dL (A:=[_])) ot rT qe (fun apo apq La J7=>?_);refine cg (eM (A:=[_])) ?_;refine ap 84 [1,3] ?_
 refine iM [1] (fun aU _ aE=>∃(Q:List Tk),∃(ad:Option Addr),∃(cp:Nat),∃(Sx:List ag),(Q=(([⟨#[83,69,76,69,67,84]⟩].map cc++xT s)++[⟨#[70,82,79,77]⟩,s.table].map cc++mc s.ah)++zY s)/\(bF 153 3 (Q.flatMap cT) Q.length ad cp Sx)/\(Q.length<=500)/\aE=(⟨84,(3,aS ad Q.length cp)::aU,(⟨b1,34,12,[ae s.kind,aG s.table,aj 2 cC s.an,aj 3 cV s.row,aj 1 cS s.names,aW s.count,aj 5 cO s.ah,aG s.order,aW s.down,ae s.iA,aG s.set,aj 5 cO s.bG]⟩::Sx)⟩:St)) ?_ ?_
 ·refine ax [1,3,60] ?_ ?_<;>intro eo fR
  ·refine az 3 ?_;refine eR (cU 0 [_,_,_]) [.string ⟨#[]⟩,.string ⟨#[]⟩,.string ⟨#[]⟩] [_,_,_] zeroValue9 runUnderlying31 sizeOf9 (fun Gs=>?_);refine cg (BA (S2:=[⟨Gs,9,3*1,flatMap cS ([⟨#[79,82,68,69,82]⟩,⟨#[66,89]⟩,s.order])⟩]) (A:=[_])) ?_;refine qN (t:=64) (Sq:=[⟨Gs,9,3*1,flatMap cS ([⟨#[79,82,68,69,82]⟩,⟨#[66,89]⟩,s.order])⟩]) lk (cj (g:=cS) (sz:=1) (e:=9) (ls:=[⟨#[79,82,68,69,82]⟩,⟨#[66,89]⟩,s.order]) (Nat.le_refl _) (show 3<=maxLen by decide)) (dg kG _) (Bz (A:=[_])) ?_;refine dK call79 (u3 [⟨#[79,82,68,69,82]⟩,⟨#[66,89]⟩,s.order] (by show 3<=10;decide)) ?_;refine gi (ls:=((Q++([⟨#[70,82,79,77]⟩,s.table].map cc))++(mc s.ah))) (new:=([⟨#[79,82,68,69,82]⟩,⟨#[66,89]⟩,s.order].map cc)) (Sq:=La) jE nF au rfl rfl underlying110 uS rfl w7 ot J7 (dL (A:=[_])) ot bC rT qe (fun ru O CH CJ=>?_);refine cg (eM (S1:=[⟨ru,153,O*3,flatMap cT (((Q++([⟨#[70,82,79,77]⟩,s.table].map cc))++(mc s.ah))++([⟨#[79,82,68,69,82]⟩,⟨#[66,89]⟩,s.order].map cc))⟩]) (A:=[_])) ?_;refine ap 84 [1,3] ?_;refine ax [1,3,68] ?_ ?_<;>intro fH ik
   ·refine dB 1 ?_;refine dK call122 (tZ ⟨#[68,69,83,67]⟩) ?_;refine eR (cU 0 [_]) [.int .i64 0,.string ⟨#[]⟩,.int .i64 0] [_,_,_] zeroValue153 runUnderlying110 sizeOf153 (fun b71=>?_);refine gb 0 71 3 1 ?_;refine gi (ls:=(((Q++([⟨#[70,82,79,77]⟩,s.table].map cc))++(mc s.ah))++([⟨#[79,82,68,69,82]⟩,⟨#[66,89]⟩,s.order].map cc))) (new:=[cc ⟨#[68,69,83,67]⟩]) (Sq:=[⟨ru,153,O*3,flatMap cT (((Q++([⟨#[70,82,79,77]⟩,s.table].map cc))++(mc s.ah))++([⟨#[79,82,68,69,82]⟩,⟨#[66,89]⟩,s.order].map cc))⟩]) jE nF au rfl rfl underlying110 uS rfl w7 ot (cj CH CJ) (dL (A:=[_])) ot bC rT qe (fun SB Qv apr aps=>?_);refine cg (eM (S1:=[⟨SB,153,Qv*3,flatMap cT ((((Q++([⟨#[70,82,79,77]⟩,s.table].map cc))++(mc s.ah))++([⟨#[79,82,68,69,82]⟩,⟨#[66,89]⟩,s.order].map cc))++[cc ⟨#[68,69,83,67]⟩])⟩]) (A:=[_])) ?_;refine ap 84 [1,3] ?_;refine⟨_,aL,((((Q++([⟨#[70,82,79,77]⟩,s.table].map cc))++(mc s.ah))++([⟨#[79,82,68,69,82]⟩,⟨#[66,89]⟩,s.order].map cc))++[cc ⟨#[68,69,83,67]⟩]),(some ⟨SB,0,none⟩),Qv,[⟨SB,153,Qv*3,flatMap cT ((((Q++([⟨#[70,82,79,77]⟩,s.table].map cc))++(mc s.ah))++([⟨#[79,82,68,69,82]⟩,⟨#[66,89]⟩,s.order].map cc))++[cc ⟨#[68,69,83,67]⟩])⟩],(by rw[hQ];unfold zY;rw[if_neg (by unfold jQ;simpa using eo),if_pos ik];simp only[append_assoc]),(cj apr aps),qe,rfl⟩
   refine eI ?_;refine⟨_,aL,(((Q++([⟨#[70,82,79,77]⟩,s.table].map cc))++(mc s.ah))++([⟨#[79,82,68,69,82]⟩,⟨#[66,89]⟩,s.order].map cc)),(some ⟨ru,0,none⟩),O,[⟨ru,153,O*3,flatMap cT (((Q++([⟨#[70,82,79,77]⟩,s.table].map cc))++(mc s.ah))++([⟨#[79,82,68,69,82]⟩,⟨#[66,89]⟩,s.order].map cc))⟩],(by rw[hQ];unfold zY;rw[if_neg (by unfold jQ;simpa using eo),if_neg (by simpa using fH)];simp only[append_assoc,append_nil]),(cj CH CJ),qe,rfl⟩
  refine eI ?_;refine⟨_,aL,((Q++([⟨#[70,82,79,77]⟩,s.table].map cc))++(mc s.ah)),apo,apq,La,(by rw[hQ];unfold zY;rw[if_pos (by unfold jQ;simpa using eo)];simp),J7,qe,rfl⟩
 rintro _ ⟨Q,ad,cp,Sx,hQ,eW,hQl,rfl⟩;refine ax [1,3,75] ?_ ?_<;>intro iu qa
 ·refine iX 7 (aq (take 1 _)) ?_ (fun _ h=>(Sublist.map _ (take_sublist _ _)).subset h);refine iD [0,2,3] ?_;refine cm 4 rfl (nZ (pl:=[(0,_),(2,_)]) (ds:=[_,_,_]) rfl zeroValue153 runUnderlying153 aeE ⟨rfl,bP,rfl,ot,trivial⟩ rfl rfl) ?_;refine ew.later rfl ?_;refine bV (i:=1) aD ?_;refine sj call122 (tZ ⟨#[76,73,77,73,84]⟩) ?_;refine bV (i:=5) aD ?_;refine oZ (cU 0 [_,_]) [.int .i64 0,.string ⟨#[]⟩,.int .i64 0,.int .i64 0,.string ⟨#[]⟩,.int .i64 0] [_,_,_,_,_,_] zeroValue153 runUnderlying110 sizeOf153 (fun b81=>?_);refine o8 0 81 3 2 ?_;refine bV (i:=6) aD ?_;refine rz (ls:=Q) (new:=[cc ⟨#[76,73,77,73,84]⟩,(⟨2,⟨#[]⟩,s.iA⟩:Tk)]) (Sq:=Sx) jE nF rfl au rfl rfl underlying110 uS rfl w7 ot eW (dL (A:=[_])) ot bC rT qe (fun Gt Fg Qw Qx=>?_);refine gS (eM (S1:=[⟨Gt,153,Fg*3,flatMap cT (Q++[cc ⟨#[76,73,77,73,84]⟩,(⟨2,⟨#[]⟩,s.iA⟩:Tk)])⟩]) (A:=[_])) ?_;refine gd ?_;refine bL [3] ?_;refine ay [2] ?_;refine mS (t:=2) (Sq:=[⟨Gt,153,Fg*3,flatMap cT (Q++[cc ⟨#[76,73,77,73,84]⟩,(⟨2,⟨#[]⟩,s.iA⟩:Tk)])⟩]) lk (cj Qw Qx) (dg jE _) (dL (A:=[_])) ?_;refine fJ ?_;refine⟨?_,rfl⟩;rw[hQ];unfold Ca EW;rw[if_pos w4]
 refine ay [2] ?_;refine mS (t:=2) (Sq:=Sx) lk eW (dg jE _) (dL (A:=[_])) ?_;refine eD [] ?_;refine⟨?_,rfl⟩;rw[hQ];unfold Ca EW;rw[if_neg w4];simp only[append_nil]
def Pe(k:Int):ByteArray:=alL.getD k.toNat ⟨#[]⟩
theorem aiq{k:Int}(h1:1<=k)(h2:k<=3):typesC[0+k.toNat*1]?=some (.string (Pe k)):=by
 have h:k=1\/k=2\/k=3:=(by omega)
 rcases h with rfl|rfl|rfl<;>rfl
def ke(c:dc):List Tk:=[c.n,Pe c.k].map cc
def J8:List ByteArray:=[⟨#[66,69,71,73,78]⟩,⟨#[67,79,77,77,73,84]⟩,⟨#[82,79,76,76,66,65,67,75]⟩]
def qV(s:aT):List Tk :=
 if s.kind=1 then [⟨#[67,82,69,65,84,69]⟩,⟨#[84,65,66,76,69]⟩,s.table].map cc++oh (s.an.map ke)
 else if s.kind=2 then [⟨#[68,82,79,80]⟩,⟨#[84,65,66,76,69]⟩,s.table].map cc
 else if s.kind=3 then [⟨#[73,78,83,69,82,84]⟩,⟨#[73,78,84,79]⟩,s.table,⟨#[86,65,76,85,69,83]⟩].map cc++oh (s.row.map kI)
 else if s.kind=4 then Ca s
 else if s.kind=5 then [[⟨#[85,80,68,65,84,69]⟩,s.table,⟨#[83,69,84]⟩,s.set].map cc,[eO ⟨#[61]⟩],uo s.bG,mc s.ah].flatten
 else if s.kind=6 then [⟨#[68,69,76,69,84,69]⟩,⟨#[70,82,79,77]⟩,s.table].map cc++mc s.ah
 else [J8.getD (s.kind-7).toNat ⟨#[]⟩].map cc
structure ShS (s:aT):Prop where
 fin:dJ s
 k1:1<=s.kind
 k9:s.kind<=9
 c:s.kind=1->∀c∈s.an,1<=c.k/\c.k<=3
 r:s.kind=3->∀v∈s.row,pc v
 w:s.kind=4\/s.kind=5\/s.kind=6->s.ah.length=0\/gH 0 s.ah=0
 t:s.kind=5->gH 0 s.bG=0
theorem V6(ts:List (List Tk)):0<(oh ts).length:=by unfold oh;rw[length_append];simp
theorem V7{ts:List (List Tk)}(h:∀x∈ts,x.length<=10):(oh ts).length<=2+11*ts.length:=by
 have h1:=Im h ts.length;unfold oh;rw[length_append];simp only[length_cons,length_nil];omega
theorem NI(l:List dc):∀x∈l.map ke,x.length<=10:=fun x hx=>by obtain⟨c,_,rfl⟩:=mem_map.1 hx;show 2<=10;decide
theorem V8(l:List Vl):∀x∈l.map kI,x.length<=10:=fun x hx=>by obtain⟨v,_,rfl⟩:=mem_map.1 hx;have:=UH v;omega
theorem TS:(Tryz.prog.info? 110).map (fun i=>(i.zero,i.size,i.bytes))=some (some (.slice none 0 0),1,24):=by kernel_rfl
theorem LM:(Tryz.prog.info? 153).map (fun i=>(i.zero,i.size,i.bytes))=some (some (.agg #[.int .i64 0,.string ⟨#[]⟩,.int .i64 0]),3,32):=by kernel_rfl
theorem aj9(hty:(0,typesC)∈G)(s:aT)(hs:ShS s):VP Tryz.prog G 47 [.agg (aY s)] (.list 3 ((qV s).flatMap cT) (qV s).length):=by
 refine bA func47 rfl ntmps47 aO fun X0 w0 bz=>?_;have dy:=ee;have hf:=hs.fin;have h6:=hf.ok.1;have h6r:=hf.ok.2.1;have sC:=hf.ok.2.2.2.1;have apt:=hf.ok.2.2.2.2;have AW:=Mh s.ah;have Su:=HC s.ah;have J9:=HC s.bG;have fP:=V7 (NI s.an);have so:=V7 (V8 s.row);have I:=afm (G:=G) s hf
 (first|rw[length_map] at fP|(unfold aj at fP;rw[length_map] at fP));(first|rw[length_map] at so|(unfold aj at so;rw[length_map] at so))
 unfold aY at I;unfold aY;refine cq ?_;refine dm [_,_,_,_,_,_,_,_,_,_,_,_] (fun b1=>?_);refine ap 107 [1] ?_;refine cJ [1,10] ?_;refine aM 1 ?_ (h:=wC);refine kN ?_;refine ax [1,10,11] ?_ ?_<;>intro aP bH
 ·refine cq ?_;refine bL [1,3] ?_;refine cJ [1,3,14,15,16] ?_;refine aM 1 ?_ (h:=wC);refine bB ?_;refine kU ?_;refine oB (fun (aR:Nat×Option Addr×Nat×List ag) aE=>match aR with|(i,eJ,dW,Sx)=>(i<=s.an.length)/\(bF 110 1 (((s.an.take i).map ke).flatMap cK) ((s.an.take i).map ke).length eJ dW Sx)/\aE=(⟨107,[(1,dw b1),(3,aS eJ ((s.an.take i).map ke).length dW),(14,aj 2 cC s.an),(15,ae (s.an.length:Nat)),(16,ae (i:Nat))],((⟨b1,34,12,[ae s.kind,aG s.table,aj 2 cC s.an,aj 3 cV s.row,aj 1 cS s.names,aW s.count,aj 5 cO s.ah,aG s.order,aW s.down,ae s.iA,aG s.set,aj 5 cO s.bG]⟩:ag)::Sx)⟩:St)) (fun (aR:Nat×Option Addr×Nat×List ag)=>match aR with|(i,eJ,dW,Sx)=>s.an.length-i) (0,none,0,[]) ⟨(Nat.zero_le _),(bF.cast jt lU),rfl⟩ (aL (h:=w72)) ?_;rintro⟨i,eJ,dW,Sx⟩ _ ⟨hi,eW,rfl⟩;refine ax [1,3,14,15,16,17] ?_ ?_<;>intro bg cM
  ·have aa:i<s.an.length:=(by simp at bg;omega)
   have hki:=hs.c bH _ (getElem_mem aa);refine az 1 ?_;refine bS (ez (mk:=Op.load 109) rfl ot (by first|exact rD (k:=0) (ds:=[_,_]) rfl rfl isAgg109 sizeOf109 rfl rfl|exact jM mV isAgg109 sizeOf109 w5|exact jM fX isAgg109 sizeOf109 w5|exact jM kG isAgg109 sizeOf109 w5|exact dM (k:=0) mV rfl rfl rfl isAgg109 sizeOf109 w5|exact dM (k:=0) fX rfl rfl rfl isAgg109 sizeOf109 w5|exact dM (k:=0) kG rfl rfl rfl isAgg109 sizeOf109 w5|exact rL (ds:=[_,_]) isAgg109 sizeOf109 rfl rfl)) ?_;refine cD (ds:=[_,_]) au rfl rfl zeroValue109 rfl (fun b5=>?_);refine aN 0 [_,_] sizeOf109 ?_;refine ap 107 [1,3,5,14,15,16] ?_;refine iX 11 (aq (take 2 _)) ?_ (fun _ h=>(Sublist.map _ (take_sublist _ _)).subset h);refine iD [0,1] ?_;refine cm 2 rfl gD ?_;refine cm 3 rfl (j3 1) ?_;refine cm 4 rfl gD ?_;refine cm 5 rfl (ny (mk:=Op.indexAddr 148) rfl zc ot (by first|exact Et runUnderlying148 sizeOf9 rfl w5|exact Et (j:=Int.toNat _) runUnderlying148 sizeOf9 (Int.toNat_of_nonneg w4).symm w4)) ?_
   refine cm 6 rfl (ez (mk:=Op.load 9) rfl ot (by first|exact B3 (k:=0) rfl rfl isAgg9 rfl|exact B3 (k:=1) rfl rfl isAgg9 rfl|exact xR mV isAgg9 w5 rfl|exact uf mV isAgg9 w5 rfl|exact xR fX isAgg9 w5 rfl|exact uf fX isAgg9 w5 rfl|exact xR kG isAgg9 w5 rfl|exact uf kG isAgg9 w5 rfl|exact mW (k:=0) mV rfl rfl rfl isAgg9 w5 rfl|exact kV (k:=0) mV rfl rfl rfl isAgg9 w5 rfl|exact mW (k:=1) mV rfl rfl rfl isAgg9 w5 rfl|exact kV (k:=1) mV rfl rfl rfl isAgg9 w5 rfl|exact mW (k:=0) fX rfl rfl rfl isAgg9 w5 rfl|exact kV (k:=0) fX rfl rfl rfl isAgg9 w5 rfl|exact mW (k:=1) fX rfl rfl rfl isAgg9 w5 rfl|exact kV (k:=1) fX rfl rfl rfl isAgg9 w5 rfl|exact mW (k:=0) kG rfl rfl rfl isAgg9 w5 rfl|exact kV (k:=0) kG rfl rfl rfl isAgg9 w5 rfl|exact mW (k:=1) kG rfl rfl rfl isAgg9 w5 rfl|exact kV (k:=1) kG rfl rfl rfl isAgg9 w5 rfl|exact E7 isAgg9 rfl|exact alo hty isAgg9 (aiq hki.1 hki.2))) ?_;refine ew.later rfl ?_;refine bV (i:=7) aD ?_;refine oZ (cU 0 [_,_]) [.string ⟨#[]⟩,.string ⟨#[]⟩] [_,_] zeroValue9 runUnderlying31 sizeOf9 (fun b27=>?_);refine o8 0 27 1 2 ?_;refine bV (i:=8) aD ?_;refine sj call79 (u3 [s.an[i].n,Pe s.an[i].k] (by show 2<=10;decide)) ?_;refine bV (i:=9) aD ?_;refine oZ (cU 0 [_]) [.slice none 0 0] [_] zeroValue110 runUnderlying146 sizeOf110 (fun b29=>?_)
   refine o8 0 29 1 1 ?_;refine bV (i:=10) aD ?_;refine Tu (Sq:=Sx) (R:=[_,_]) rfl au rfl rfl underlying146 TS rfl w7 ot eW (perm_append_comm (l₁:=[_,_])) (dg iw _) ot (wq rJ [ke s.an[i]]) w7 (by rw[length_map,length_take];simp only[maxLen];omega) (by rw[length_map,length_take];omega) jB (fun SC O apu Qy=>?_);refine gS (eM (S1:=[⟨SC,110,O*1,flatMap cK ((s.an.take i).map ke)++flatMap cK [ke s.an[i]]⟩]) (A:=[_,_])) ?_;rw[show flatMap cK ((s.an.take i).map ke)++flatMap cK [ke s.an[i]]=flatMap cK ((s.an.take i).map ke++[ke s.an[i]]) from List.flatMap_append.symm,show((s.an.take i).map ke).length+1=((s.an.take i).map ke++[ke s.an[i]]).length from by rw[length_append];rfl];refine gd ?_;refine bL [1,3,14,15,16] ?_;refine bM [1,3,14,15,16] ?_;refine⟨((i+1),(some ⟨SC,0,none⟩),O,[⟨SC,110,O*1,flatMap cK ((s.an.take i).map ke++[ke s.an[i]])⟩]),_,cR,(aL (h:=w72)),w4,(bF.cast (cj (by rw[length_append];exact apu) Qy) (by exact Bu ke aa)),rfl⟩
  have fG:=NH ke (show s.an.length<=i by simp at bg;omega);have fi:=XF (G:=G) (s.an.map ke) JL (NI s.an);rw[<-fG] at fi fP;refine az 1 ?_;refine bS gD ?_;refine eR (cU 0 [_,_,_]) [.string ⟨#[]⟩,.string ⟨#[]⟩,.string ⟨#[]⟩] [_,_,_] zeroValue9 runUnderlying31 sizeOf9 (fun b34=>?_);refine cg (BA (S2:=[⟨b34,9,3*1,flatMap cS ([⟨#[67,82,69,65,84,69]⟩,⟨#[84,65,66,76,69]⟩,s.table])⟩]) (A:=[_])) ?_;refine qN (t:=34) (Sq:=[⟨b34,9,3*1,flatMap cS ([⟨#[67,82,69,65,84,69]⟩,⟨#[84,65,66,76,69]⟩,s.table])⟩]) lk (cj (g:=cS) (sz:=1) (e:=9) (ls:=[⟨#[67,82,69,65,84,69]⟩,⟨#[84,65,66,76,69]⟩,s.table]) (Nat.le_refl _) (show 3<=maxLen by decide)) (dg kG _) (Bz (A:=[_])) ?_;refine eH au rfl rfl rfl call79 (B4 [⟨#[67,82,69,65,84,69]⟩,⟨#[84,65,66,76,69]⟩,s.table] (by show 3<=10;decide)) ⟨ot,trivial⟩ (fj _) ?_;rintro _ S35 ⟨av1,av2,rfl,apv⟩;refine cg (BA (A:=[_])) ?_;refine aF 1 ?_;refine qN (t:=36) (Sq:=Sx) lk eW (dg iw _) (qO (A:=[_])) ?_;refine dK call80 (fi) ?_;refine gi (ls:=([⟨#[67,82,69,65,84,69]⟩,⟨#[84,65,66,76,69]⟩,s.table].map cc)) (new:=(oh ((s.an.take i).map ke))) (Sq:=S35) jE nF au rfl rfl underlying110 LM rfl w7 ot apv (dL (A:=[_])) ot (V6 _) rT qe (fun AV abh apw apx=>?_)
  refine cg (eM (S1:=[⟨AV,153,abh*3,flatMap cT (([⟨#[67,82,69,65,84,69]⟩,⟨#[84,65,66,76,69]⟩,s.table].map cc)++(oh ((s.an.take i).map ke)))⟩]) (A:=[_])) ?_;refine ap 107 [2] ?_;refine mS (t:=2) (Sq:=[⟨AV,153,abh*3,flatMap cT (([⟨#[67,82,69,65,84,69]⟩,⟨#[84,65,66,76,69]⟩,s.table].map cc)++(oh ((s.an.take i).map ke)))⟩]) lk (cj apw apx) (dg jE _) (dL (A:=[_])) ?_;refine eD [] ?_;refine⟨?_,rfl⟩;unfold qV;rw[if_pos bH,<-fG]
 refine ax [1,10,39] ?_ ?_<;>intro cl di
 ·refine cJ [2] ?_;refine aM 1 ?_ (h:=wC);refine cA (u3 [⟨#[68,82,79,80]⟩,⟨#[84,65,66,76,69]⟩,s.table] (by show 3<=10;decide)) ?_;refine bB ?_;refine eD [] ?_;refine⟨?_,rfl⟩;unfold qV;rw[if_neg bH,if_pos di]
 refine ax [1,10,45] ?_ ?_<;>intro da eP
 ·refine cq ?_;refine bL [1,6] ?_;refine cJ [1,6,48,49,50] ?_;refine aM 1 ?_ (h:=wC);refine bB ?_;refine kU ?_;refine oB (fun (aR:Nat×Option Addr×Nat×List ag) aE=>match aR with|(i,Lb,Lc,Sv)=>(i<=s.row.length)/\(bF 110 1 (((s.row.take i).map kI).flatMap cK) ((s.row.take i).map kI).length Lb Lc Sv)/\aE=(⟨107,[(1,dw b1),(6,aS Lb ((s.row.take i).map kI).length Lc),(48,aj 3 cV s.row),(49,ae (s.row.length:Nat)),(50,ae (i:Nat))],((⟨b1,34,12,[ae s.kind,aG s.table,aj 2 cC s.an,aj 3 cV s.row,aj 1 cS s.names,aW s.count,aj 5 cO s.ah,aG s.order,aW s.down,ae s.iA,aG s.set,aj 5 cO s.bG]⟩:ag)::Sv)⟩:St)) (fun (aR:Nat×Option Addr×Nat×List ag)=>match aR with|(i,Lb,Lc,Sv)=>s.row.length-i) (0,none,0,[]) ⟨(Nat.zero_le _),(bF.cast jt lU),rfl⟩ (aL (h:=w70)) ?_;rintro⟨i,Lb,Lc,Sv⟩ _ ⟨hi,oY,rfl⟩;refine ax [1,6,48,49,50,51] ?_ ?_<;>intro eo fR
  ·have aa:i<s.row.length:=(by simp at eo;omega)
   refine az 1 ?_;refine bS (ez (mk:=Op.load 36) rfl ot (by first|exact rD (k:=0) (ds:=[_,_,_]) rfl rfl isAgg36 sizeOf36 rfl rfl|exact jM mV isAgg36 sizeOf36 w5|exact jM fX isAgg36 sizeOf36 w5|exact jM kG isAgg36 sizeOf36 w5|exact dM (k:=0) mV rfl rfl rfl isAgg36 sizeOf36 w5|exact dM (k:=0) fX rfl rfl rfl isAgg36 sizeOf36 w5|exact dM (k:=0) kG rfl rfl rfl isAgg36 sizeOf36 w5|exact rL (ds:=[_,_,_]) isAgg36 sizeOf36 rfl rfl)) ?_;refine cD (ds:=[_,_,_]) au rfl rfl zeroValue36 rfl (fun b8=>?_);refine aN 0 [_,_,_] sizeOf36 ?_;refine ap 107 [1,6,8,48,49,50] ?_;refine dB 1 ?_;refine bS (ez (mk:=Op.load 36) rfl ot (by first|exact rD (k:=0) (ds:=[_,_,_]) rfl rfl isAgg36 sizeOf36 rfl rfl|exact jM mV isAgg36 sizeOf36 w5|exact jM fX isAgg36 sizeOf36 w5|exact jM kG isAgg36 sizeOf36 w5|exact dM (k:=0) mV rfl rfl rfl isAgg36 sizeOf36 w5|exact dM (k:=1) mV rfl rfl rfl isAgg36 sizeOf36 w5|exact dM (k:=0) fX rfl rfl rfl isAgg36 sizeOf36 w5|exact dM (k:=1) fX rfl rfl rfl isAgg36 sizeOf36 w5|exact dM (k:=0) kG rfl rfl rfl isAgg36 sizeOf36 w5|exact dM (k:=1) kG rfl rfl rfl isAgg36 sizeOf36 w5|exact rL (ds:=[_,_,_]) isAgg36 sizeOf36 rfl rfl)) ?_;refine dK call81 (TJ s.row[i] (hs.r eP _ (getElem_mem aa))) ?_;refine eR (cU 0 [_]) [.slice none 0 0] [_] zeroValue110 runUnderlying146 sizeOf110 (fun b57=>?_)
   refine gb 0 57 1 1 ?_;refine gi (ls:=((s.row.take i).map kI)) (new:=[kI s.row[i]]) (Sq:=Sv) iw rJ au rfl rfl underlying146 TS rfl w7 ot oY (dL (A:=[_,_])) ot bC (by simp only[maxLen,length_map,length_take,length_cons,length_nil];omega) (by simp only[length_map,length_take,length_cons,length_nil];omega) (fun C0 U apy apz=>?_);refine cg (eM (S1:=[⟨C0,110,U*1,flatMap cK (((s.row.take i).map kI)++[kI s.row[i]])⟩]) (A:=[_,_])) ?_;refine ap 107 [1,6,48,49,50] ?_;refine bM [1,6,48,49,50] ?_;refine⟨((i+1),(some ⟨C0,0,none⟩),U,[⟨C0,110,U*1,flatMap cK (((s.row.take i).map kI)++[kI s.row[i]])⟩]),_,cR,(aL (h:=w70)),w4,(bF.cast (cj apy apz) (by exact Bu kI aa)),rfl⟩
  have Z:=NH kI (show s.row.length<=i by simp at eo;omega);have fi:=XF (G:=G) (s.row.map kI) JL (V8 s.row);rw[<-Z] at fi so;refine az 1 ?_;refine bS gD ?_;refine eR (cU 0 [_,_,_,_]) [.string ⟨#[]⟩,.string ⟨#[]⟩,.string ⟨#[]⟩,.string ⟨#[]⟩] [_,_,_,_] zeroValue9 runUnderlying31 sizeOf9 (fun SD=>?_);refine cg (BA (S2:=[⟨SD,9,4*1,flatMap cS ([⟨#[73,78,83,69,82,84]⟩,⟨#[73,78,84,79]⟩,s.table,⟨#[86,65,76,85,69,83]⟩])⟩]) (A:=[_])) ?_;refine qN (t:=62) (Sq:=[⟨SD,9,4*1,flatMap cS ([⟨#[73,78,83,69,82,84]⟩,⟨#[73,78,84,79]⟩,s.table,⟨#[86,65,76,85,69,83]⟩])⟩]) lk (cj (g:=cS) (sz:=1) (e:=9) (ls:=[⟨#[73,78,83,69,82,84]⟩,⟨#[73,78,84,79]⟩,s.table,⟨#[86,65,76,85,69,83]⟩]) (Nat.le_refl _) (show 4<=maxLen by decide)) (dg kG _) (Bz (A:=[_])) ?_;refine eH au rfl rfl rfl call79 (B4 [⟨#[73,78,83,69,82,84]⟩,⟨#[73,78,84,79]⟩,s.table,⟨#[86,65,76,85,69,83]⟩] (by show 4<=10;decide)) ⟨ot,trivial⟩ (fj _) ?_;rintro _ Gl ⟨abc,Aj,rfl,Fe⟩;refine cg (BA (A:=[_])) ?_;refine aF 1 ?_;refine qN (t:=64) (Sq:=Sv) lk oY (dg iw _) (qO (A:=[_])) ?_;refine dK call80 (fi) ?_;refine gi (ls:=([⟨#[73,78,83,69,82,84]⟩,⟨#[73,78,84,79]⟩,s.table,⟨#[86,65,76,85,69,83]⟩].map cc)) (new:=(oh ((s.row.take i).map kI))) (Sq:=Gl) jE nF au rfl rfl underlying110 LM rfl w7 ot Fe (dL (A:=[_])) ot (V6 _) rT qe (fun ru CG CH CJ=>?_)
  refine cg (eM (S1:=[⟨ru,153,CG*3,flatMap cT (([⟨#[73,78,83,69,82,84]⟩,⟨#[73,78,84,79]⟩,s.table,⟨#[86,65,76,85,69,83]⟩].map cc)++(oh ((s.row.take i).map kI)))⟩]) (A:=[_])) ?_;refine ap 107 [2] ?_;refine mS (t:=2) (Sq:=[⟨ru,153,CG*3,flatMap cT (([⟨#[73,78,83,69,82,84]⟩,⟨#[73,78,84,79]⟩,s.table,⟨#[86,65,76,85,69,83]⟩].map cc)++(oh ((s.row.take i).map kI)))⟩]) lk (cj CH CJ) (dg jE _) (dL (A:=[_])) ?_;refine eD [] ?_;refine⟨?_,rfl⟩;unfold qV;rw[if_neg bH,if_neg di,if_pos eP,<-Z]
 refine ax [1,10,67] ?_ ?_<;>intro fH ik
 ·refine cJ [2] ?_;refine aM 0 ?_ (h:=by exact(ez (mk:=Op.load 34) rfl ot (by first|exact rD (k:=0) (ds:=[_,_,_,_,_,_,_,_,_,_,_,_]) rfl rfl isAgg34 sizeOf34 rfl rfl|exact jM mV isAgg34 sizeOf34 w5|exact jM fX isAgg34 sizeOf34 w5|exact jM kG isAgg34 sizeOf34 w5|exact dM (k:=0) mV rfl rfl rfl isAgg34 sizeOf34 w5|exact dM (k:=0) fX rfl rfl rfl isAgg34 sizeOf34 w5|exact dM (k:=0) kG rfl rfl rfl isAgg34 sizeOf34 w5|exact rL (ds:=[_,_,_,_,_,_,_,_,_,_,_,_]) isAgg34 sizeOf34 rfl rfl)));refine cA (I (hs.w (.inl ik))) ?_;refine bB ?_;refine eD [] ?_;refine⟨?_,rfl⟩;unfold qV;rw[if_neg bH,if_neg di,if_neg eP,if_pos ik]
 refine ax [1,10,71] ?_ ?_<;>intro iu E
 ·refine cJ [2] ?_;refine aM 1 ?_ (h:=wC);refine aM 1 ?_ (h:=wC);refine cA (u3 [⟨#[85,80,68,65,84,69]⟩,s.table,⟨#[83,69,84]⟩,s.set] (by show 4<=10;decide)) ?_;refine cA (px ⟨#[61]⟩) ?_;refine aM 2 ?_ (h:=wC);refine cA (Ub s.bG apt (hs.t E) (fun o h=>(hf.x o h).2)) ?_;refine aM 1 ?_ (h:=wC);refine cA (LH s.ah sC (hs.w (.inr (.inl E))) (fun o h=>(hf.w o h).2) w4) ?_;refine cA (HB [[⟨#[85,80,68,65,84,69]⟩,s.table,⟨#[83,69,84]⟩,s.set].map cc,[eO ⟨#[61]⟩],uo s.bG,mc s.ah] (by show 4<=1000;decide) aac aac) ?_;refine bB ?_;refine eD [] ?_;refine⟨?_,rfl⟩;unfold qV;rw[if_neg bH,if_neg di,if_neg eP,if_neg ik,if_pos E]
 refine ax [1,89] ?_ ?_<;>intro iE nJ
 ·refine cL ?_;refine iX 8 (aq (take 1 _)) ?_ (fun _ h=>(Sublist.map _ (take_sublist _ _)).subset h);refine cm 0 rfl (j3 1) ?_;refine cm 1 rfl gD ?_;refine cm 4 rfl (j3 6) ?_;refine cm 5 rfl gD ?_;refine ew.later rfl ?_;refine bV (i:=2) aD ?_;refine oZ (cU 0 [_,_,_]) [.string ⟨#[]⟩,.string ⟨#[]⟩,.string ⟨#[]⟩] [_,_,_] zeroValue9 runUnderlying31 sizeOf9 (fun b93=>?_);refine o8 0 93 1 3 ?_;refine bV (i:=3) aD ?_;refine lq rfl au rfl rfl rfl call79 (B4 [⟨#[68,69,76,69,84,69]⟩,⟨#[70,82,79,77]⟩,s.table] (by show 3<=10;decide)) ⟨ot,trivial⟩ (fj _) jB ?_;rintro _ S94 ⟨av3,lT,rfl,apA⟩;refine gS (eM (A:=[_])) ?_;refine bV (i:=6) aD ?_;refine sj call86 (LH s.ah sC (hs.w (.inr (.inr nJ))) (fun o h=>(hf.w o h).2) w4) ?_;refine bV (i:=7) aD ?_;refine aeo (ls:=([⟨#[68,69,76,69,84,69]⟩,⟨#[70,82,79,77]⟩,s.table].map cc)) (new:=(mc s.ah)) (Sq:=S94) jE nF rfl au rfl rfl underlying110 LM rfl w7 runUnderlying110 sizeOf153 ot apA (dL (A:=[_])) ot rT qe (fun av4 av5 S98 apB=>?_);refine gS (eM (A:=[_])) ?_;refine gd ?_;refine bL [2] ?_;refine mS (t:=2) (Sq:=S98) lk apB (dg jE _) (dL (A:=[_])) ?_;refine fJ ?_;refine⟨?_,rfl⟩;unfold qV;rw[if_neg bH,if_neg di,if_neg eP,if_neg ik,if_neg E,if_pos nJ]
 obtain⟨j,hj,SE⟩:∃j:Nat,s.kind=((7+j:Nat):Int)/\j<J8.length:=⟨(s.kind-7).toNat,by have:=hs.k1;have:=hs.k9;omega,by have:=hs.k1;have:=hs.k9;show _<3;omega⟩
 refine cJ [2] ?_;refine Df (g:=cS) (J8) ?_;refine aM 1 ?_ (h:=wC);refine aM 0 ?_ (h:=by exact(eE (r:=.int .i64 ((j:Nat):Int)) rfl ot bP (je (by rw[hj,show(((7+j:Nat)):Int)-7=((j:Nat):Int) by omega];exact wrap_i64 w4 (by have:j<3:=SE;omega)))));refine aM 1 ?_ (h:=by exact(ez (mk:=Op.load 9) rfl ot (by exact uf (i:=j) kG isAgg9 SE rfl)));refine cA (u3 [J8[j]] Co) ?_;refine bB ?_;refine eD [] ?_;refine⟨?_,rfl⟩;unfold qV;rw[if_neg bH,if_neg di,if_neg eP,if_neg ik,if_neg E,if_neg nJ,hj,show(((7+j:Nat):Int)-7).toNat=j by omega,oJ SE];first|done|rfl
theorem Uc:∀(l pre:List dc),um pre l=0->∀c∈l,dH c.n=0/\1<=c.k/\c.k<=3
 | [],_,_,c,hc=>by cases hc
 | a::l,pre,h,c,hc=>by
  have h:(if pF pre a≠0 then pF pre a else um (pre++[a]) l)=0:=h;by_cases h0:pF pre a=0
  ·rw[if_neg (by simp[h0])] at h;rcases mem_cons.1 hc with rfl|hc
   ·unfold pF at h0;by_cases h1:dH c.n=0
    ·rw[if_neg (by simp[h1])] at h0;by_cases h2:c.k<1\/c.k>3
     ·rw[if_pos h2] at h0;cases h0
     exact⟨h1,by omega⟩
    rw[if_pos h1] at h0;exact absurd h0 h1
   exact Uc l _ h c hc
  rw[if_pos h0] at h;exact absurd h h0
theorem agz{l:List dc}(h:gG l=0):(1<=l.length/\l.length<=6)/\∀c∈l,dH c.n=0/\1<=c.k/\c.k<=3:=by
 unfold gG at h;split at h
 ·cases h
 exact⟨by omega,Uc l [] h⟩
theorem XH{α:Type}{f:α->Int}:∀{l:List α},lC f l=0->∀a∈l,f a=0
 | [],_,a,h=>by cases h
 | b::r,h,a,ha=>by
  unfold lC at h;split at h
  ·exact absurd h wE
  rcases mem_cons.1 ha with rfl|ha
  ·have hn:¬f a≠0:=(by assumption)
   omega
  exact XH h a ha
theorem NJ{l:List aQ}(h:oL l=0):l.length=0\/gH 0 l=0:=by
 unfold oL at h;split at h
 ·exact .inl wE
 right;unfold jw at h;split at h
 ·cases h
 exact h
theorem alM{l:List aQ}(h:jw l=0):gH 0 l=0/\l.length<=40:=by
 unfold jw at h;split at h
 ·cases h
 exact⟨h,by omega⟩
theorem am6{s:aT}(h:cZ s=0):dA s=0/\dO s (dr s)=true/\(s.kind<7->dH s.table=0):=by
 unfold cZ at h;split at h
 ·rename_i h1;exact absurd h h1.2
 rename_i h1;split at h
 ·cases h
 rename_i h2;refine⟨h,?_,fun hk=>?_⟩
 ·cases hb:dO s (dr s) with
  | true=>rfl
  | false=>exact absurd ⟨h,hb⟩ h2
 by_cases hn:dH s.table=0
 ·exact hn
 exact absurd ⟨hk,hn⟩ h1
theorem am7{s:aT}(hf:dJ s)(h1:1<=s.kind)(h9:s.kind<=9)(h:cZ s=0):ShS s:=by
 have he:=(am6 h).1;unfold dA at he;refine⟨hf,h1,h9,fun hk=>?_,fun hk v hv=>?_,fun hk=>?_,fun hk=>?_⟩
 ·rw[if_pos hk] at he;exact fun c hc=>((agz he).2 c hc).2
 ·rw[if_neg w4,if_pos hk] at he;unfold dV at he;split at he
  ·cases he
  exact YW (XH he v hv) (hf.r v hv).1 (hf.r v hv).2
 ·by_cases h4:s.kind=4
  ·rw[if_neg w4,if_neg w4,if_pos h4] at he;unfold qU at he;repeat' split at he
   all_goals first|(exfalso;omega)|exact NJ w4
  by_cases h5:s.kind=5
  ·rw[if_neg w4,if_neg w4,if_neg h4,if_pos h5] at he;repeat' split at he
   all_goals first|(exfalso;omega)|exact NJ he
  rw[if_neg w4,if_neg w4,if_neg h4,if_neg h5,if_pos w4] at he;exact NJ he
 rw[if_neg w4,if_neg w4,if_neg w4,if_pos hk] at he;repeat' split at he
 all_goals first|(exfalso;omega)|exact(alM wE).1
def bZ(s:aT):Int:=if s.kind<1\/s.kind>9 then 2 else if cZ s≠0 then cZ s else if (qV s).length>100 then 10 else 0
theorem MV(hm:(3,marksC)∈G)(hw:(1,wordsC)∈G)(I:(0,typesC)∈G)(s:aT)(hf:dJ s):VP Tryz.prog G 23 [.agg (aY s)] (ae (bZ s)):=by
 refine bA func23 rfl ntmps23 aO fun X0 w0 bz=>?_;have dy:=ee;have fB:=agy hm hw s hf;unfold aY at fB;unfold aY;have U:(s.kind<1\/s.kind>9)\/¬(s.kind<1\/s.kind>9):=(by omega)
 refine cq ?_;refine dm [_,_,_,_,_,_,_,_,_,_,_,_] (fun b1=>?_);refine ap 21 [1] ?_;refine az 4 ?_;refine cz 7 (fun O E=>?_) (fun O E=>?_)
 ·refine bL [1,11] ?_;refine fu ?_;have aZ:bZ s=2:=if_pos w4;exact AB
 refine bL [1,11] ?_;refine bX ?_ ?_<;>intro aP bH
 ·have aZ:bZ s=2:=if_pos w4;exact AB
 have hk:¬(s.kind<1\/s.kind>9):=(by omega)
 refine cW [1,3] (fB) ?_;refine ax [1,3,15] ?_ ?_<;>intro bg cM
 ·have hn:cZ s≠0:=(by simpa using bg)
  have aZ:bZ s=cZ s:=(by unfold bZ;rw[if_neg hk,if_pos hn])
  exact AB
 have h0:cZ s=0:=(by simpa using bg)
 have oX:=aj9 I s (am7 hf w4 w4 h0);unfold aY at oX;have iV:¬cZ s≠0:=fun h=>h h0;refine cW [20] (oX) ?_;refine bX ?_ ?_<;>intro cl di
 ·have aZ:bZ s=10:=(by unfold bZ;rw[if_neg hk,if_neg iV,if_pos (by simp at cl;omega)])
  exact AB
 have aZ:bZ s=0:=(by unfold bZ;rw[if_neg hk,if_neg iV,if_neg (by simp at cl;omega)])
 refine ay [2] ?_;refine fJ ?_;rw[aZ];exact⟨rfl,rfl⟩
end Pa
namespace Pc
open List
open Go.Proofs.Tryz
open Go.RowKit V Pk Vl Go.Proofs.YtihmfhcjbmlnaaaGreatDoor.Nm Pa
variable {G:List (Nat×List Value)}
variable {i:Nat}
theorem alN:dH ⟨#[116]⟩=0:=vP (l:=[116]) w7 w7 (fun c hc=>by simp only[mem_singleton] at hc;subst hc;decide)
def tG(l:List dc):aT:={bN with kind:=1,table:=⟨#[116]⟩,an:=l}
theorem am8{l:List dc}(h6:l.length<=6)(bf:∀c∈l,c.n.size<=maxLen):dJ (tG l) :=
 ⟨⟨h6,Nat.zero_le _,Nat.zero_le _,Nat.zero_le _,Nat.zero_le _⟩,(by show 1<=maxLen;decide),bf,(fun _ h=>by cases h),Nat.zero_le _,Nat.zero_le _,(fun _ h=>by cases h),(fun _ h=>by cases h),(fun _ h=>by cases h)⟩
theorem alO(l:List dc):dO (tG l) (tG l)=true:=by
 unfold dO;simp only[Bool.and_eq_true,beq_iff_eq,vY,and_self]
theorem aka(l:List dc):cZ (tG l)=gG l:=by
 have h1:dA (tG l)=gG l:=rfl;have h2:dr (tG l)=tG l:=rfl;unfold cZ;rw[if_neg (fun h=>h.2 alN),h2,h1,if_neg (fun h=>by rw[alO] at h;cases h.2)]
theorem air{l:List dc}(h6:l.length<=6):bZ (tG l)=gG l:=by
 unfold bZ;rw[if_neg (fun h=>by have:(tG l).kind=1:=rfl;omega),aka];split
 ·rfl
 rename_i h0;have h1:=Im (ts:=l.map ke) (NI l) (l.map ke).length;have h2:(oh (l.map ke)).length<=80:=(by unfold oh;rw[length_append];(first|rw[length_map] at h1|(unfold aj at h1;rw[length_map] at h1));(first|rw[length_map]|(unfold aj;rw[length_map]));simp only[length_cons,length_nil];omega)
 have h3:(qV (tG l)).length<=100:=by
  show([_,_,_].map cc++oh (l.map ke)).length<=100;rw[length_append];simp only[length_map,length_cons,length_nil];omega
 rw[if_neg w4];simp only[ne_eq,Decidable.not_not] at h0;exact h0.symm
def SF(l:List dc):List D:=[ae 1,aG ⟨#[116]⟩,aj 2 cC l,aJ,aJ,aW false,aJ,dj,aW false,ae (-1),dj,aJ]
theorem agA(hm:(3,marksC)∈G)(hw:(1,wordsC)∈G)(ht:(0,typesC)∈G)(l:List dc)(hl:l.length<=6)(bf:∀c∈l,c.n.size<=maxLen):VP Tryz.prog G 23 [.agg (SF l)] (ae (gG l)):=by
 have h:=Pa.MV (G:=G) hm hw ht (tG l) (am8 hl bf);rw[air hl] at h;refine VC.args h rfl fun w L i h1 h2 v hv=>?_;have:i=0:=(by simp only[length_cons,length_nil] at h1;omega)
 subst this;exact kW (a:=SF l) (b:=aY (tG l)) ⟨aH,aH,aH,bQ,bQ,aH,bQ,aH,aH,aH,aH,bQ,trivial⟩ w L v hv
theorem Iy(hm:(3,marksC)∈G)(hw:(1,wordsC)∈G)(ht:(0,typesC)∈G)(l:List dc)(hl:l.length<=6)(bf:∀c∈l,c.n.size<=maxLen):VP Tryz.prog G 50 [aj 2 cC l] (ae (gG l)):=by
 refine bA func50 rfl ntmps50 aO fun X0 w0 bz=>?_;have dy:=ee;have fB:=agA hm hw ht l hl bf;unfold SF at fB;refine ay [0] ?_;refine cW [2] (fB) ?_;exact z46
def mh(i:Nat)(c:dc)(v:Vl):Int:=if bW v≠0 then bW v else if v.k≠c.k/\(i=0\/v.k≠0) then 4 else 0
def pH:Nat->List dc->List Vl->Int
 | i,c::cs,v::vs=>if mh i c v≠0 then mh i c v else pH (i+1) cs vs
 | _,_,_=>0
def dV(cs:List dc)(vs:List Vl):Int:=if gG cs≠0 then gG cs else if vs.length≠cs.length then 1 else pH 0 cs vs
theorem agi{cs:List dc}{vs:List Vl}(h1:i<cs.length)(h2:i<vs.length)(h:mh i cs[i] vs[i]=0):pH i (cs.drop i) (vs.drop i)=pH (i+1) (cs.drop (i+1)) (vs.drop (i+1)):=by
 rw[drop_eq_getElem_cons h1,drop_eq_getElem_cons h2];exact if_neg (by simp[h])
theorem Vz{cs:List dc}{vs:List Vl}(h1:i<cs.length)(h2:i<vs.length)(h:mh i cs[i] vs[i]≠0):pH i (cs.drop i) (vs.drop i)=mh i cs[i] vs[i]:=by
 rw[drop_eq_getElem_cons h1,drop_eq_getElem_cons h2];exact if_pos h
theorem ais{cs:List dc}{vs:List Vl}(h:¬i<vs.length):pH i (cs.drop i) (vs.drop i)=0:=by
 rw[drop_of_length_le (l:=vs) w4];cases cs.drop i<;>rfl
theorem I2(hm:(3,marksC)∈G)(hw:(1,wordsC)∈G)(ht:(0,typesC)∈G)(l:List dc)(hl:l.length<=6)(bf:∀c∈l,c.n.size<=maxLen)(vs:List Vl)(so:vs.length<=maxLen):VP Tryz.prog G 48 [aj 2 cC l,aj 3 cV vs] (ae (dV l vs)):=by
 refine bA func48 rfl ntmps48 aO fun X0 w0 bz=>?_;have dy:=ee;refine ay [0,1] ?_;refine cW [0,1,5] (Iy hm hw ht l hl bf) ?_;refine ax [0,1,5,12] ?_ ?_<;>intro aP bH
 ·have hne:gG l≠0:=(by simpa using aP)
  have aZ:dV l vs=gG l:=if_pos hne;refine ay [4] ?_;exact kO
 have h0:¬gG l≠0:=(by simpa using aP)
 refine ax [0,1,18] ?_ ?_<;>intro bg cM
 ·have aZ:dV l vs=1:=(by unfold dV;rw[if_neg h0,if_pos w4])
  refine ay [4] ?_;exact kO
 have Z:vs.length=l.length:=(by omega)
 have E:dV l vs=pH 0 (l.drop 0) (vs.drop 0):=(by unfold dV;rw[if_neg h0,if_neg (by simp[Z])];rfl)
 refine ay [0,19,20,21] ?_;refine eZ [0,19,20] (fun aU _ (i:Nat) aE=>(i<=vs.length)/\(dV l vs=pH i (l.drop i) (vs.drop i))/\aE=(⟨49,(21,ae (i:Nat))::aU,[]⟩:St)) (fun (i:Nat)=>vs.length-i) 0 ⟨(Nat.zero_le _),E,rfl⟩ ?_;rintro i _ ⟨hi,hinv,rfl⟩;refine ax [0,19,20,21,22] ?_ ?_<;>intro cl di
 ·have aa:i<vs.length:=(by omega)
  have P5:i<l.length:=(by omega)
  refine az 3 ?_;refine cD (ds:=[_,_,_]) au rfl rfl zeroValue36 rfl (fun b7=>?_);refine aF 1 ?_;refine aN 0 [_,_,_] sizeOf36 ?_;refine ap 49 [0,6,7,19,20,21] ?_;refine cW [0,6,7,8,19,20,21] (Vl.qP vs[i]) ?_;refine ax [0,6,7,8,19,20,21,29] ?_ ?_<;>intro da eP
  ·have hne:bW vs[i]≠0:=(by simpa using da)
   have hf:mh i l[i] vs[i]=bW vs[i]:=if_pos hne;have aZ:dV l vs=bW vs[i]:=(by rw[hinv,Vz P5 aa (by rw[hf];exact hne),hf])
   refine ay [4] ?_;exact kO
  have hz:¬bW vs[i]≠0:=(by simpa using da)
  refine eI ?_;refine cL ?_;refine nj 7 [0,6,7,19,20,21,32,37] ?_;refine bB ?_;refine aF 2 ?_;refine cz 39 (fun U I=>?_) (fun U I=>?_)
  ·refine aF 3 ?_;refine cz 42 (fun ux O=>?_) (fun ux O=>?_)
   ·refine bL [0,19,20,21,47] ?_;refine fu ?_;exact z86
   refine bL [0,19,20,21,47] ?_;refine bX ?_ ?_<;>intro eo fR
   ·exact z86
   exact z91
  refine bL [0,19,20,21,47] ?_;refine gK ?_;exact z91
 have aZ:dV l vs=0:=(by rw[hinv];exact ais w4)
 refine ay [4] ?_;exact tg
end Pc
namespace Nm
open List
open Go.Proofs.Tryz
open Go.RowKit V Pk Vl
section
inductive Tw where
 | mk (k n:Int) (s:ByteArray) (ts:List Tw)
mutual
def Tw.cs:Tw->List D
 | .mk k n s ts=>[.v (.int .i64 k),.v (.int .i64 n),.v (.string s),.list 4 (Tw.mz ts) ts.length]
def Tw.mz:List Tw->List D
 | []=>[]
 | t::r=>t.cs++Tw.mz r
end
theorem Tw.OC:∀ts:List Tw,Tw.mz ts=ts.flatMap Tw.cs
 | []=>rfl
 | t::r=>by rw[Tw.mz,Tw.OC r,flatMap_cons]
theorem Tw.I3(t:Tw):t.cs.length=4:=by cases t;rfl
mutual
def Tw.Ok:Tw->Prop
 | .mk k n s ts=>(-9223372036854775808<=k/\k<=9223372036854775807)/\(-9223372036854775808<=n/\n<=9223372036854775807)/\s.size<=maxLen/\ts.length<=maxLen/\Tw.Ld ts
def Tw.Ld:List Tw->Prop
 | []=>True
 | t::r=>t.Ok/\Tw.Ld r
end
theorem Tw.XI:∀{ts:List Tw},Tw.Ld ts->∀t∈ts,t.Ok
 | [],_,t,h=>by cases h
 | a::r,⟨h1,h2⟩,t,h=>by
  rcases mem_cons.1 h with rfl|h
  ·exact h1
  exact Tw.XI h2 t h
theorem Tw.XJ:∀{ts:List Tw},(∀t∈ts,t.Ok)->Tw.Ld ts
 | [],_=>trivial
 | a::r,h=>⟨h a mem_cons_self,Tw.XJ fun t ht=>h t (mem_cons_of_mem _ ht)⟩
def u6(j:Int):ByteArray:=if j=0 then ⟨#[105,100]⟩ else if j=1 then ⟨#[110]⟩ else if j=2 then ⟨#[115]⟩ else ⟨#[98]⟩
def wH(n:Int)(s:ByteArray):Vl:={rG ⟨n,cN n 40-20,s⟩ with s:=pG (rG ⟨n,cN n 40-20,s⟩).s 4}
def u5(n:Int)(s:ByteArray):aQ:=⟨1,wH n s,⟨#[]⟩⟩
def zC(n:Int):aQ:=⟨2,aX,u6 (cN n 4)⟩
def fI(k:Int):aQ:=⟨k,aX,⟨#[]⟩⟩
def oI(k n:Int)(s:ByteArray):List aQ:=if 1+cN k 11=2 then [zC n] else [u5 n s]
def iP:Nat->Tw->List aQ
 | 0,.mk k n s _=>oI k n s
 | r+1,.mk k n s ts =>
  if 1+cN k 11=1 then [u5 n s]
  else if 1+cN k 11=2 then [zC n]
  else if 1+cN k 11=5\/1+cN k 11=11 then (match ts[0]? with|some t=>iP r t|none=>oI n 0 s)++[fI (1+cN k 11)]
  else ((match ts[0]? with|some t=>iP r t|none=>oI n 0 s)++(match ts[1]? with|some t=>iP r t|none=>oI n 1 s))++[fI (1+cN k 11)]
def iQ(r:Nat)(ts:List Tw)(n:Int)(s:ByteArray)(i:Nat):List aQ:=match ts[i]? with|some t=>iP r t|none=>oI n i s
theorem BC(k n:Int)(s:ByteArray):(oI k n s).length=1:=by unfold oI;split<;>rfl
theorem NK:∀(r:Nat) (t:Tw),1<=(iP r t).length/\(iP r t).length+1<=2 ^ (r+1)
 | 0,.mk k n s ts=>by rw[iP,BC];exact⟨by decide,by decide⟩
 | r+1,.mk k n s ts=>by
  have E:∀i:Nat,1<=(iQ r ts n s i).length/\(iQ r ts n s i).length+1<=2 ^ (r+1):=fun i=>by
   unfold iQ;split
   ·exact NK r _
   rw[BC];exact⟨by decide,by rw[Nat.pow_succ];have:=Nat.one_le_two_pow (n:=r);omega⟩
  have h0:=E 0;have h1:=E 1;unfold iQ at h0 h1;have hp:2 ^ (r+1+1)=2 ^ (r+1)+2 ^ (r+1):=(by rw[Nat.pow_succ];omega)
  rw[iP];simp only[Int.natCast_zero,Int.natCast_one] at h0 h1;split
  ·exact⟨by simp,by simp;omega⟩
  split
  ·exact⟨by simp,by simp;omega⟩
  split<;>simp only[length_append,length_cons,length_nil]<;>omega
theorem XK(r:Nat)(ts:List Tw)(n:Int)(s:ByteArray)(i:Nat):1<=(iQ r ts n s i).length/\(iQ r ts n s i).length+1<=2 ^ (r+1):=by
 unfold iQ;split
 ·exact NK r _
 rw[BC];exact⟨by decide,by rw[Nat.pow_succ];have:=Nat.one_le_two_pow (n:=r);omega⟩
theorem Ud(r:Vl):(rG r).s.size<=10:=by
 unfold rG aX;split
 ·exact Nat.zero_le _
 split
 ·exact Nat.zero_le _
 split
 ·show(pG r.s 10).size<=10;rw[Mm];omega
 decide
theorem XL{j:Nat}(h:j<4):[D.v (.string ⟨#[105,100]⟩),D.v (.string ⟨#[110]⟩),D.v (.string ⟨#[115]⟩),D.v (.string ⟨#[98]⟩)][j*1]?=some (aG (u6 (j:Int))):=by
 match j,h with
 | 0,_|1,_|2,_|3,_=>rfl
variable {G:List (Nat×List Value)}
abbrev Ak(ls:List aQ)(r:D)(S:List ag):Prop:=iC cO 38 5 ls r S
theorem XM(k n d:Int)(s:ByteArray)(d4:D)(h4:l9 d4=true)(eK:-9223372036854775808<=k)(fD:k<=9223372036854775807)(dQ:-9223372036854775808<=n)(gZ:n<=9223372036854775807)(hs:s.size<=maxLen)(hd:2<d):VC Tryz.prog G 69 [.agg [ae k,ae n,aG s,d4],ae d] [] (Ak (oI k n s)):=by
 refine bA func69 rfl ntmps69 aO fun X0 w0 bz=>?_;have Le:=iK k (by decide:(1:Int)<=11);have hpn:=iK n (by decide:(1:Int)<=40);have U:=iK n (by decide:(1:Int)<=4);obtain⟨j,hj⟩:=Int.eq_ofNat_of_zero_le U.1;have Z:j<4:=(by omega)
 have I:=jU G n 4 dQ gZ w7;rw[hj] at I;have gM:(⟨n,cN n 40-20,s⟩:Vl).Ok:=⟨dQ,gZ,by show _<=cN n 40-20;omega,by show cN n 40-20<=_;omega,hs⟩
 have hvs:=Ud ⟨n,cN n 40-20,s⟩;have hml:100<=maxLen:=(by decide)
 obtain⟨kk,nP⟩:∃kk:Int,1+cN k 11=kk:=⟨_,rfl⟩
 refine cq ?_;refine dm [_,_,_,_] (fun b2=>?_);refine dm [_] (fun b3=>?_);refine ap 69 [2,3] ?_;refine cJ [2,3,5] ?_;refine cA (jU G k 11 eK fD w7) ?_;refine aM 0 ?_ (h:=aai);refine bB ?_;refine az 3 ?_;refine cz 14 (fun E O=>?_) (fun E O=>?_)
 ·refine bL [2,3,5,17] ?_;refine bX ?_ ?_<;>intro aP bH
  ·refine bM [2,3,5] ?_;refine cJ [2,5,6] ?_;refine aM 0 ?_ (h:=JF);refine bB ?_;refine ay [2,5,6,19] ?_;refine ay [2,5,6,19,20] ?_;refine fu ?_;exact z156
  refine cJ [2,5,6] ?_;refine aM 0 ?_ (h:=JF);refine bB ?_;refine ay [2,5,6,19] ?_;refine ax [2,5,6,19,20] ?_ ?_<;>intro bg cM
  ·exact z156
  refine ax [2,5,6,19,40] ?_ ?_<;>intro cl di
  ·refine az 1 ?_;refine eR (cU 0 [_,_,_,_]) [.string ⟨#[]⟩,.string ⟨#[]⟩,.string ⟨#[]⟩,.string ⟨#[]⟩] [_,_,_,_] zeroValue9 runUnderlying31 sizeOf9 (fun b43=>?_);refine gb 0 43 1 4 ?_;refine aF 2 ?_;refine dK call11 (I) ?_;refine aF 1 ?_;refine bS (ez (mk:=Op.load 9) rfl ot (E7 isAgg9 (XL Z))) ?_;refine aF 1 ?_;refine eR (cU 0 [_]) [.int .i64 0,.int .i64 0,.int .i64 0,.string ⟨#[]⟩,.string ⟨#[]⟩] [_,_,_,_,_] zeroValue38 runUnderlying32 sizeOf38 (fun CY=>?_);exact z26
  exact absurd cl (by simp at aP bg cl;omega)
 exact absurd E (by simp at E;omega)
end
variable {G:List (Nat×List Value)}
variable {ts:List Tw} {h:Int}
theorem V9{r:Nat}{n:Int}{s:ByteArray}{i:Nat}(hi:i<ts.length):iP r ts[i]=iQ r ts n s i:=by unfold iQ;rw[getElem?_eq_getElem hi]
theorem Wa{r:Nat}{n:Int}{s:ByteArray}{i:Nat}(hi:ts.length<=i):oI n i s=iQ r ts n s i:=by unfold iQ;rw[getElem?_eq_none hi]
theorem za(r:Nat)(k n:Int)(s:ByteArray)(ts:List Tw):iP (r+1) (.mk k n s ts)=if 1+cN k 11=1 then [u5 n s] else if 1+cN k 11=2 then [zC n]
  else if 1+cN k 11=5\/1+cN k 11=11 then iQ r ts n s 0++[fI (1+cN k 11)] else (iQ r ts n s 0++iQ r ts n s 1)++[fI (1+cN k 11)]:=rfl
theorem O0(r:Nat)(k n d:Int)(s:ByteArray)(ts:List Tw)(i b2 b3:Nat)(IH:∀t∈ts,VC Tryz.prog G 69 [.agg t.cs,ae (d+1)] [] (Ak (iP r t)))(dQ:-9223372036854775808<=n)(gZ:n<=9223372036854775807)(hs:s.size<=maxLen)(hd1:0<=d)(hd:d<=2)(hi:i<=1):VC Tryz.prog G 112 [ae (i:Int),dw b2,dw b3] [⟨b3,3,1,[ae d]⟩,⟨b2,60,4,[ae k,ae n,aG s,.list 4 (ts.flatMap Tw.cs) ts.length]⟩] (fun x S=>∃S1,Ak (iQ r ts n s i) x S1/\S=S1++[⟨b3,3,1,[ae d]⟩,⟨b2,60,4,[ae k,ae n,aG s,.list 4 (ts.flatMap Tw.cs) ts.length]⟩]):=by
 refine bA func112 rfl ntmps112 aO fun X0 w0 bz=>?_;refine az 1 ?_;refine fF (Wk.eN (n:=25) (l':=[(0,_),(1,_),(2,_)]) (S':=_) rfl rfl gg) ?_;refine jX ?_;refine az 5 ?_;refine fF (Wk.eN (n:=25) (l':=[(0,_),(1,_),(2,_),(9,_)]) (S':=_) rfl rfl gg) ?_;refine jX ?_;refine bX ?_ ?_<;>intro aP bH
 ·have aa:i<ts.length:=(by omega)
  refine cL ?_;refine Ny (aq _) aD (fun _ h=>h) ?_;refine iD [0,1,2,3] ?_;refine cm 4 rfl (ez (mk:=Op.load 60) rfl ot (by first|exact rD (k:=0) (ds:=[_,_,_,_]) rfl rfl isAgg60 sizeOf60 rfl rfl|exact rD (k:=1) (ds:=[_,_,_,_]) rfl rfl isAgg60 sizeOf60 rfl rfl|exact jM Tw.I3 isAgg60 sizeOf60 w5|exact dM (k:=0) Tw.I3 rfl rfl rfl isAgg60 sizeOf60 w5|exact dM (k:=1) Tw.I3 rfl rfl rfl isAgg60 sizeOf60 w5|exact rL (ds:=[_,_,_,_]) isAgg60 sizeOf60 rfl rfl)) ?_;refine iD [5,6] ?_;refine ew.later rfl ?_;refine bV (i:=7) aD ?_;refine lq rfl au rfl rfl rfl call69 (IH _ (getElem_mem aa)) ⟨ot,ot,trivial⟩ (fj _) (fun _ h=>h) ?_;rintro _ O ⟨U,Z,rfl,E⟩;refine dX 8 rfl eV ?_;refine O8 (y:=⟨25,[(4,_)],((O++[_,_]))⟩) (Wk.eN rfl rfl gg) rfl ?_;refine Is aD ?_;refine eD _ ?_;first|exact⟨_,iC.cast (iC.mk E) (V9 aa),rfl⟩|exact⟨_,iC.cast (iC.mk I) (Wa w4),rfl⟩
 refine az 6 ?_;refine eH au rfl rfl rfl call69 (XM n (i:Int) 9 s (aJ) rfl dQ gZ w4 w4 hs w7) ⟨ot,bP,trivial⟩ (fj _) ?_;rintro _ S24 ⟨av6,av7,rfl,I⟩;refine aF 1 ?_;refine fF (Wk.eN (n:=25) (l':=[(4,_)]) (S':=_) rfl rfl gg) ?_;refine jX ?_;refine eD _ ?_;first|exact⟨_,iC.cast (iC.mk E) (V9 aa),rfl⟩|exact⟨_,iC.cast (iC.mk I) (Wa w4),rfl⟩
theorem LZ:(Tryz.prog.info? 38).map (fun i=>(i.zero,i.size,i.bytes))=some (some (.agg #[.int .i64 0,.int .i64 0,.int .i64 0,.string ⟨#[]⟩,.string ⟨#[]⟩]),5,56):=by kernel_rfl
theorem akb(r:Nat)(hr:r<=2)(k n d:Int)(s:ByteArray)(ts:List Tw)(IH:∀t∈ts,VC Tryz.prog G 69 [.agg t.cs,ae (d+1)] [] (Ak (iP r t)))(eK:-9223372036854775808<=k)(fD:k<=9223372036854775807)(dQ:-9223372036854775808<=n)(gZ:n<=9223372036854775807)(hs:s.size<=maxLen)(hd1:0<=d)(hd:d<=2):VC Tryz.prog G 69 [.agg [ae k,ae n,aG s,.list 4 (ts.flatMap Tw.cs) ts.length],ae d] [] (Ak (iP (r+1) (.mk k n s ts))):=by
 refine bA func69 rfl ntmps69 aO fun X0 w0 bz=>?_;have Le:=iK k (by decide:(1:Int)<=11);have hpn:=iK n (by decide:(1:Int)<=40);have hpc:=iK n (by decide:(1:Int)<=4);obtain⟨j,hj⟩:=Int.eq_ofNat_of_zero_le hpc.1;have hj4:j<4:=(by omega)
 have I:=jU G n 4 dQ gZ w7;rw[hj] at I;have gM:(⟨n,cN n 40-20,s⟩:Vl).Ok:=⟨dQ,gZ,by show _<=cN n 40-20;omega,by show cN n 40-20<=_;omega,hs⟩
 have hvs:=Ud ⟨n,cN n 40-20,s⟩;have hml:100<=maxLen:=(by decide)
 obtain⟨kk,nP⟩:∃kk:Int,1+cN k 11=kk:=⟨_,rfl⟩
 have pM:=XK r ts n s 0;have mr:=XK r ts n s 1;have h2p:2 ^ (r+1)<=8:=Nat.pow_le_pow_right w7 (show r+1<=3 by omega);refine cq ?_;refine dm [_,_,_,_] (fun b2=>?_);refine dm [_] (fun b3=>?_);refine ap 69 [2,3] ?_;refine cJ [2,3,5] ?_;refine cA (jU G k 11 eK fD w7) ?_;refine aM 0 ?_ (h:=aai);refine bB ?_;refine az 3 ?_;refine cz 14 (fun E Z=>?_) (fun E Z=>?_)
 ·exact absurd E (by simp at E;omega)
 refine bL [2,3,5,17] ?_;refine gK ?_;refine cJ [2,5,6] ?_;refine aM 0 ?_ (h:=JF);refine bB ?_;refine ay [2,5,6,19] ?_;refine ax [2,5,6,19,20] ?_ ?_<;>intro bg cM
 ·refine cL ?_;refine vH 11 10 [5,7,31] ?_;refine cA (jU G n 40 dQ gZ w7) ?_;refine cA (VD ⟨n,cN n 40-20,s⟩ gM) ?_;refine rj ?_;refine kN ?_;refine⟨rfl,fun b7=>?_⟩;refine aN 0 [_,_,_] sizeOf36 ?_;refine ap 69 [5,7] ?_;refine az 2 ?_;refine dK call41 (IW (rG ⟨n,cN n 40-20,s⟩).s 4 w4) ?_;refine aF 1 ?_;refine aN 0 [_,_,_] sizeOf9 ?_;refine ap 69 [5,7] ?_;refine az 3 ?_;refine eR (cU 0 [_]) [.int .i64 0,.int .i64 0,.int .i64 0,.string ⟨#[]⟩,.string ⟨#[]⟩] [_,_,_,_,_] zeroValue38 runUnderlying32 sizeOf38 (fun FY=>?_);exact z61
 refine ax [2,5,6,19,40] ?_ ?_<;>intro cl di
 ·refine az 1 ?_;refine eR (cU 0 [_,_,_,_]) [.string ⟨#[]⟩,.string ⟨#[]⟩,.string ⟨#[]⟩,.string ⟨#[]⟩] [_,_,_,_] zeroValue9 runUnderlying31 sizeOf9 (fun b43=>?_);refine gb 0 43 1 4 ?_;refine aF 2 ?_;refine dK call11 (I) ?_;refine aF 1 ?_;refine bS (ez (mk:=Op.load 9) rfl ot (E7 isAgg9 (XL hj4))) ?_;refine aF 1 ?_;refine eR (cU 0 [_]) [.int .i64 0,.int .i64 0,.int .i64 0,.string ⟨#[]⟩,.string ⟨#[]⟩] [_,_,_,_,_] zeroValue38 runUnderlying32 sizeOf38 (fun CY=>?_);exact z61
 refine ax [5,6,19,51] ?_ ?_<;>intro da eP
 ·refine fu ?_;exact z33
 refine bM [5,6,51] ?_;refine bX ?_ ?_<;>intro eo fR
 ·exact z33
 refine az 1 ?_;refine nB (f:=112) (args:=[_]) (all:=[_,_,_]) (Sf:=[_,_]) (R:=[]) au rfl rfl ot call112 (O0 r k n d s ts 0 b2 b3 IH dQ gZ hs hd1 hd w7) rfl ⟨bP,trivial⟩ (Perm.refl _) ?_;rintro _ _ ⟨S61,⟨av8,av9,rfl,apC⟩,rfl⟩;refine cg (Vx (A:=[_,_])) ?_;refine aF 1 ?_;refine nB (f:=112) (args:=[_]) (all:=[_,_,_]) (Sf:=[_,_]) (R:=S61) au rfl rfl ot call112 (O0 r k n d s ts 1 b2 b3 IH dQ gZ hs hd1 hd w7) rfl ⟨bP,trivial⟩ (Perm.refl _) ?_;rintro _ _ ⟨Gl,⟨abc,Aj,rfl,Fe⟩,rfl⟩;refine cg (ah8 (A:=[_,_])) ?_;refine qN (t:=63) (Sq:=Gl) lk Fe (dg mU _) (Bz (A:=[_,_])) ?_;refine gi (ls:=(iQ r ts n s 0)) (new:=(iQ r ts n s 1)) (Sq:=S61) mU Ot au rfl rfl underlying32 LZ rfl w7 ot apC (dL (A:=[_,_])) ot w4 CR CR (fun Gs O apD apE=>?_);refine cg (eM (S1:=[⟨Gs,38,O*5,flatMap cO ((iQ r ts n s 0)++(iQ r ts n s 1))⟩]) (A:=[_,_])) ?_;refine aF 2 ?_;refine eR (cU 0 [_]) [.int .i64 0,.int .i64 0,.int .i64 0,.string ⟨#[]⟩,.string ⟨#[]⟩] [_,_,_,_,_] zeroValue38 runUnderlying32 sizeOf38 (fun tq=>?_);refine gb 0 67 5 1 ?_
 refine gi (ls:=((iQ r ts n s 0)++(iQ r ts n s 1))) (new:=[(⟨kk,aX,⟨#[]⟩⟩:aQ)]) (Sq:=[⟨Gs,38,O*5,flatMap cO ((iQ r ts n s 0)++(iQ r ts n s 1))⟩]) mU Ot au rfl rfl underlying32 LZ rfl w7 ot (cj apD apE) (dL (A:=[_,_])) ot bC CR CR (fun b68 U apF apG=>?_);refine cg (eM (S1:=[⟨b68,38,U*5,flatMap cO (((iQ r ts n s 0)++(iQ r ts n s 1))++[(⟨kk,aX,⟨#[]⟩⟩:aQ)])⟩]) (A:=[_,_])) ?_;refine eA 69 [4] [⟨b68,38,U*5,flatMap cO (((iQ r ts n s 0)++(iQ r ts n s 1))++[(⟨kk,aX,⟨#[]⟩⟩:aQ)])⟩] ?_;exact iC.cast (iC.mk (cj apF apG)) (by rw[za,nP,if_neg w4,if_neg w4,if_neg w4];rfl)
theorem YX:∀(r:Nat),r<=3->∀(t:Tw),t.Ok->VC Tryz.prog G 69 [.agg t.cs,ae (3-(r:Int))] [] (Ak (iP r t))
 | 0,_,.mk k n s ts,h=>XM k n 3 s (.list 4 (Tw.mz ts) ts.length) rfl h.1.1 h.1.2 h.2.1.1 h.2.1.2 h.2.2.1 w7
 | r+1,hr,.mk k n s ts,h=>by
  have:=akb (G:=G) r w4 k n (3-((r+1:Nat):Int)) s ts (fun t ht=>by
   have h1:=YX r w4 t (Tw.XI h.2.2.2.2 t ht);rw[show(3-((r+1:Nat):Int)+1)=3-(r:Int) by omega];exact h1) h.1.1 h.1.2 h.2.1.1 h.2.1.2 h.2.2.1 w4 w4
  rw[<-Tw.OC] at this;exact this
theorem alP(t:Tw)(h:t.Ok):VC Tryz.prog G 44 [.agg t.cs] [] (Ak (iP 3 t)):=by
 refine bA func44 rfl ntmps44 aO fun X0 w0 bz=>?_;obtain⟨k,n,s,ts⟩:=t;have E:=YX (G:=G) 3 (Nat.le_refl _) (.mk k n s ts) h;unfold Tw.cs at E |-;refine cq ?_;refine dm [_,_,_,_] (fun b1=>?_);refine ap 5 [1] ?_;refine az 1 ?_;refine eH au rfl rfl rfl call69 (E) ⟨ot,bP,trivial⟩ (fj _) ?_;rintro _ O ⟨U,Z,rfl,I⟩;refine cg eM ?_;refine eA 5 [2] O ?_;exact iC.mk I
theorem YY(t:Tw)(h:t.Ok):VP Tryz.prog G 44 [.agg t.cs] (.list 5 ((iP 3 t).flatMap cO) (iP 3 t).length):=(alP t h).zI mU
def runs:Int->List aQ->Option Int
 | h,[]=>some h
 | h,o::r=>if ga h o=0 then runs (h+(1-cn o.k)) r else none
theorem Bm:∀(a b:List aQ) (h:Int),runs h (a++b)=(runs h a).bind fun h'=>runs h' b
 | [],b,h=>rfl
 | o::r,b,h=>by
  rw[cons_append,runs,runs];split
  ·exact Bm r b _
  rfl
theorem L0:∀{a:List aQ} {h h':Int} (b:List aQ),runs h a=some h'->gH h (a++b)=gH h' b
 | [],h,h',b,e=>by cases e;rfl
 | o::r,h,h',b,e=>by
  rw[runs] at e;split at e
  ·rename_i h0;rw[cons_append,gH,if_pos h0];exact L0 b e
  cases e
theorem akc:((⟨#[]⟩:ByteArray).toList==(⟨#[]⟩:ByteArray).toList)=true:=by simp
theorem HD:zeroV aX=true:=by unfold zeroV aX;simp
theorem H7:jj aX=0:=by decide
theorem ait(n:Int)(s:ByteArray):jj (wH n s)=0:=by
 have h1:=iK n (by decide:(1:Int)<=40);have h2:=iK (cN n 40-20) (by decide:(1:Int)<=2);have hc:(pG (pG s 10) 4).size<=4:=(by rw[Mm];omega)
 have he:pG (⟨#[]⟩:ByteArray) 4=ByteArray.empty:=zm (by rw[UE];rfl);unfold jj wH rG;split
 ·simp[bW,he];omega
 split
 ·simp[bW,he];omega
 split
 ·simp[bW];omega
 unfold aX;simp[bW,he]
theorem zn(h0:0<=h)(n:Int)(s:ByteArray):ga h (u5 n s)=0:=by
 unfold ga u5;rw[ait];simp[cn];omega
theorem aiu(j:Int):dH (u6 j)=0:=by
 unfold u6;split
 ·exact vP (l:=[105,100]) w7 w7 w7
 split
 ·exact vP (l:=[110]) w7 w7 w7
 split
 ·exact vP (l:=[115]) w7 w7 w7
 exact vP (l:=[98]) w7 w7 w7
theorem XN(h0:0<=h)(n:Int):ga h (zC n)=0:=by
 unfold ga zC;rw[H7,HD,aiu];simp[cn];omega
theorem xA{k:Int}(h1:3<=k)(h2:k<=11)(E:cn k<=h):ga h (fI k)=0:=by
 unfold ga fI;simp only[H7,HD,akc];rw[if_neg w4,if_neg bC,if_neg bC,if_neg w4,if_neg w4]
theorem UL(h0:0<=h)(k n:Int)(s:ByteArray):runs h (oI k n s)=some (h+1):=by
 unfold oI;split
 ·rw[runs,if_pos (XN h0 n),runs];rfl
 rw[runs,if_pos (zn h0 n s),runs];rfl
theorem Wb:∀(r:Nat) (t:Tw) (h:Int),0<=h->runs h (iP r t)=some (h+1)
 | 0,.mk k n s ts,h,h0=>UL h0 k n s
 | r+1,.mk k n s ts,h,h0=>by
  have E:∀(i:Nat) (h:Int),0<=h->runs h (iQ r ts n s i)=some (h+1):=fun i h h0=>by
   unfold iQ;split
   ·exact Wb r _ h h0
   exact UL h0 _ _ _
  have hk:=iK k (by decide:(1:Int)<=11);rw[za];split
  ·rw[runs,if_pos (zn h0 n s),runs];rfl
  split
  ·rw[runs,if_pos (XN h0 n),runs];rfl
  split
  ·rename_i h3;rw[Bm,E 0 h h0,Option.bind_some,runs,if_pos (xA w4 w4 (by unfold cn;rw[if_neg w4,if_pos h3];omega)),runs];unfold fI cn;rw[if_neg (by simp only[];omega),if_pos h3];simp
  rename_i h3;rw[Bm,Bm,E 0 h h0,Option.bind_some,E 1 (h+1) w4,Option.bind_some,runs,if_pos (xA w4 w4 (by unfold cn;rw[if_neg w4,if_neg h3];omega)),runs];unfold fI cn;rw[if_neg (by simp only[];omega),if_neg h3];congr 1;omega
theorem Mn(t:Tw):1<=(iP 3 t).length/\(iP 3 t).length<=15:=by
 have:=NK 3 t;omega
theorem UM(t:Tw):jw (iP 3 t)=0:=by
 unfold jw;rw[if_neg (by have:=Mn t;omega)];have:=L0 [] (Wb 3 t 0 (Int.le_refl _));rw[append_nil] at this;rw[this];rfl
theorem aiv(t:Tw):∀o∈iP 3 t,o.nm.size<=2:=by
 have hn:∀j:Int,(u6 j).size<=2:=fun j=>by
  unfold u6;split
  ·decide
  split
  ·decide
  split<;>decide
 have E:∀k n s,∀o∈oI k n s,o.nm.size<=2:=fun k n s o ho=>by
  unfold oI at ho;split at ho<;>(simp only[mem_singleton] at ho;subst ho)
  ·exact hn _
  exact Nat.zero_le _
 have key:∀(r:Nat) (t:Tw),∀o∈iP r t,o.nm.size<=2:=by
  intro r;induction r with
  | zero=>intro t;obtain⟨k,n,s,ts⟩:=t;exact E k n s
  | succ r ih =>
   intro t o ho;obtain⟨k,n,s,ts⟩:=t;have I:∀i:Nat,∀o∈iQ r ts n s i,o.nm.size<=2:=fun i o ho=>by
    unfold iQ at ho;split at ho
    ·exact ih _ o ho
    exact E _ _ _ o ho
   have hb:∀k,(fI k).nm.size<=2:=fun k=>Nat.zero_le _;rw[za] at ho;split at ho
   ·simp only[mem_singleton] at ho;subst ho;exact Nat.zero_le _
   split at ho
   ·simp only[mem_singleton] at ho;subst ho;exact hn _
   split at ho
   ·rcases mem_append.1 ho with ho|ho
    ·exact I 0 o ho
    simp only[mem_singleton] at ho;subst ho;exact hb _
   rcases mem_append.1 ho with ho|ho
   ·rcases mem_append.1 ho with ho|ho
    ·exact I 0 o ho
    exact I 1 o ho
   simp only[mem_singleton] at ho;subst ho;exact hb _
 exact key 3 t
theorem aiw{l:List aQ}(h:∀o∈l,o.nm.size<=2):∀o∈l,o.nm.size<=maxLen:=fun o ho=>Nat.le_trans (h o ho) w7
theorem Wc{H:Type}{enc:TypeId×Value->H}{w:World}{base:Nat}{sp:Nat->Bool}{held:Bool}:∀n,nM n enc Tryz.prog w base sp held 60 Tw.cs Tw.Ok:=by
 intro n;induction n using Nat.strongRecOn with
 | _ n ih =>
  intro cs x h;obtain⟨⟨k,m,s,ts⟩,h1,h2,h3,h4,h5⟩:=afF (fuel:=n) (n0:=1) (n1:=1) (n2:=1) (n3:=1) underlying60 aD rfl rfl rfl rfl aD aD aD aD
   (fun q _=>(xO underlying3).at q) (fun q _=>(xO underlying3).at q) (fun q _=>(Uy underlying9).at q) (fun q hq=>UC (sz:=4) underlying58 aD w7 (fun z hz=>ih z w4) Tw.I3) cs x h
  refine⟨.mk k m s ts,?_,h2,h3,h4,h5.2,Tw.XJ h5.1⟩;unfold Tw.cs;rw[Tw.OC];exact h1
end Nm
end Go.Proofs.YtihmfhcjbmlnaaaGreatDoor
