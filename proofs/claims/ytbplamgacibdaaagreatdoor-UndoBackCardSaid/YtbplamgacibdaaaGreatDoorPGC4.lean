/-
  GC: walks and plain facts, part 4.
-/
import Derived.Test.YtbplamgacibdaaaGreatDoorPGC3
set_option linter.unusedVariables false
set_option linter.unusedSimpArgs false
set_option maxRecDepth 100000
set_option maxHeartbeats 4000000
namespace Go.Proofs.YtbplamgacibdaaaGreatDoor.V
open List
open Go.RowKit V
instance ik3:Ik Tryz.prog 3 .i64:=⟨by kernel_rfl⟩
instance aqc:Sl Tryz.prog 22 14:=⟨by kernel_rfl⟩
instance aoS:Fo Tryz.prog 26 0 0:=⟨by kernel_rfl⟩
instance aoT:Fo Tryz.prog 26 1 1:=⟨by kernel_rfl⟩
instance aoU:Fo Tryz.prog 26 2 2:=⟨by kernel_rfl⟩
instance aoV:Fo Tryz.prog 26 3 3:=⟨by kernel_rfl⟩
instance aqd:Sz Tryz.prog 26 4:=⟨by kernel_rfl⟩
instance aqe:Sb Tryz.prog 26 [.int .i64 0,.int .i64 0,.string ⟨#[]⟩,.slice none 0 0] [(0,1),(1,1),(2,1),(3,1)]:=⟨by kernel_rfl,by kernel_rfl⟩
instance aoW:Fo Tryz.prog 28 0 0:=⟨by kernel_rfl⟩
instance aoX:Fo Tryz.prog 28 1 1:=⟨by kernel_rfl⟩
instance aoY:Fo Tryz.prog 28 2 2:=⟨by kernel_rfl⟩
instance aoZ:Fo Tryz.prog 28 3 3:=⟨by kernel_rfl⟩
instance ao0:Fo Tryz.prog 28 4 4:=⟨by kernel_rfl⟩
instance ao1:Fo Tryz.prog 28 5 5:=⟨by kernel_rfl⟩
instance ao2:Fo Tryz.prog 28 6 9:=⟨by kernel_rfl⟩
instance ao3:Fo Tryz.prog 28 7 13:=⟨by kernel_rfl⟩
instance aqf:Sz Tryz.prog 28 14:=⟨by kernel_rfl⟩
instance aqg:Sb Tryz.prog 28 [.int .i64 0,.int .i64 0,.int .i64 0,.int .i64 0,.slice none 0 0,.int .i64 0,.int .i64 0,.string ⟨#[]⟩,.slice none 0 0,.int .i64 0,.int .i64 0,.string ⟨#[]⟩,.slice none 0 0,.bool false] [(0,1),(1,1),(2,1),(3,1),(4,1),(5,4),(9,4),(13,1)]:=⟨by kernel_rfl,by kernel_rfl⟩
instance aqh:Sl Tryz.prog 29 5:=⟨by kernel_rfl⟩
instance apH:tG Tryz.prog 29 5:=⟨by kernel_rfl⟩
instance ao4:Fo Tryz.prog 31 0 0:=⟨by kernel_rfl⟩
instance aqi:Sz Tryz.prog 31 1:=⟨by kernel_rfl⟩
instance aqj:Sb Tryz.prog 31 [.slice none 0 0] [(0,1)]:=⟨by kernel_rfl,by kernel_rfl⟩
instance aqk:Sl Tryz.prog 33 1:=⟨by kernel_rfl⟩
instance ao5:Fo Tryz.prog 35 0 0:=⟨by kernel_rfl⟩
instance ao6:Fo Tryz.prog 35 1 1:=⟨by kernel_rfl⟩
instance aql:Sz Tryz.prog 35 2:=⟨by kernel_rfl⟩
instance aqm:Sb Tryz.prog 35 [.slice none 0 0,.int .i64 0] [(0,1),(1,1)]:=⟨by kernel_rfl,by kernel_rfl⟩
instance aqn:Sl Tryz.prog 39 2:=⟨by kernel_rfl⟩
instance aqo:Sl Tryz.prog 40 3:=⟨by kernel_rfl⟩
instance apI:tG Tryz.prog 40 3:=⟨by kernel_rfl⟩
instance aqp:Sl Tryz.prog 41 1:=⟨by kernel_rfl⟩
instance apJ:tG Tryz.prog 41 1:=⟨by kernel_rfl⟩
instance aqq:Sl Tryz.prog 42 5:=⟨by kernel_rfl⟩
instance ao7:Fo Tryz.prog 44 0 0:=⟨by kernel_rfl⟩
instance ao8:Fo Tryz.prog 44 1 1:=⟨by kernel_rfl⟩
instance ao9:Fo Tryz.prog 44 2 2:=⟨by kernel_rfl⟩
instance apa:Fo Tryz.prog 44 3 3:=⟨by kernel_rfl⟩
instance apb:Fo Tryz.prog 44 4 4:=⟨by kernel_rfl⟩
instance apc:Fo Tryz.prog 44 5 5:=⟨by kernel_rfl⟩
instance apd:Fo Tryz.prog 44 6 6:=⟨by kernel_rfl⟩
instance ape:Fo Tryz.prog 44 7 7:=⟨by kernel_rfl⟩
instance apf:Fo Tryz.prog 44 8 8:=⟨by kernel_rfl⟩
instance apg:Fo Tryz.prog 44 9 9:=⟨by kernel_rfl⟩
instance aoy:Fo Tryz.prog 44 10 10:=⟨by kernel_rfl⟩
instance aoz:Fo Tryz.prog 44 11 11:=⟨by kernel_rfl⟩
instance aqr:Sz Tryz.prog 44 12:=⟨by kernel_rfl⟩
instance aqs:Sb Tryz.prog 44 [.int .i64 0,.string ⟨#[]⟩,.slice none 0 0,.slice none 0 0,.slice none 0 0,.bool false,.slice none 0 0,.string ⟨#[]⟩,.bool false,.int .i64 0,.string ⟨#[]⟩,.slice none 0 0] [(0,1),(1,1),(2,1),(3,1),(4,1),(5,1),(6,1),(7,1),(8,1),(9,1),(10,1),(11,1)]:=⟨by kernel_rfl,by kernel_rfl⟩
instance aph:Fo Tryz.prog 56 0 0:=⟨by kernel_rfl⟩
instance api:Fo Tryz.prog 56 1 1:=⟨by kernel_rfl⟩
instance apj:Fo Tryz.prog 56 2 2:=⟨by kernel_rfl⟩
instance aqt:Sz Tryz.prog 56 3:=⟨by kernel_rfl⟩
instance aqu:Sb Tryz.prog 56 [.int .i64 0,.int .i64 0,.string ⟨#[]⟩] [(0,1),(1,1),(2,1)]:=⟨by kernel_rfl,by kernel_rfl⟩
instance apk:Fo Tryz.prog 58 0 0:=⟨by kernel_rfl⟩
instance apl:Fo Tryz.prog 58 1 1:=⟨by kernel_rfl⟩
instance apm:Fo Tryz.prog 58 2 4:=⟨by kernel_rfl⟩
instance aqv:Sz Tryz.prog 58 5:=⟨by kernel_rfl⟩
instance aqw:Sb Tryz.prog 58 [.int .i64 0,.int .i64 0,.int .i64 0,.string ⟨#[]⟩,.string ⟨#[]⟩] [(0,1),(1,3),(4,1)]:=⟨by kernel_rfl,by kernel_rfl⟩
instance aqx:Sl Tryz.prog 61 1:=⟨by kernel_rfl⟩
instance apK:tG Tryz.prog 61 1:=⟨by kernel_rfl⟩
instance aqy:Sl Tryz.prog 64 5:=⟨by kernel_rfl⟩
instance apn:Fo Tryz.prog 66 0 0:=⟨by kernel_rfl⟩
instance apo:Fo Tryz.prog 66 1 1:=⟨by kernel_rfl⟩
instance aqz:Sz Tryz.prog 66 2:=⟨by kernel_rfl⟩
instance aqA:Sb Tryz.prog 66 [.slice none 0 0,.int .i64 0] [(0,1),(1,1)]:=⟨by kernel_rfl,by kernel_rfl⟩
instance apq:Fo Tryz.prog 68 0 0:=⟨by kernel_rfl⟩
instance apr:Fo Tryz.prog 68 1 1:=⟨by kernel_rfl⟩
instance aps:Fo Tryz.prog 68 2 2:=⟨by kernel_rfl⟩
instance apt:Fo Tryz.prog 68 3 3:=⟨by kernel_rfl⟩
instance aqB:Sz Tryz.prog 68 5:=⟨by kernel_rfl⟩
instance aqC:Sb Tryz.prog 68 [.string ⟨#[]⟩,.slice none 0 0,.slice none 0 0,.slice none 0 0,.int .i64 0] [(0,1),(1,1),(2,1),(3,2)]:=⟨by kernel_rfl,by kernel_rfl⟩
instance aqD:Sl Tryz.prog 83 2:=⟨by kernel_rfl⟩
instance apu:Fo Tryz.prog 88 1 1:=⟨by kernel_rfl⟩
instance aqE:Sz Tryz.prog 88 2:=⟨by kernel_rfl⟩
instance apv:Fo Tryz.prog 93 0 0:=⟨by kernel_rfl⟩
instance apw:Fo Tryz.prog 93 1 1:=⟨by kernel_rfl⟩
instance aqF:Sz Tryz.prog 93 2:=⟨by kernel_rfl⟩
instance aqG:Sb Tryz.prog 93 [.string ⟨#[]⟩,.int .i64 0] [(0,1),(1,1)]:=⟨by kernel_rfl,by kernel_rfl⟩
instance apx:tG Tryz.prog 101 3:=⟨by kernel_rfl⟩
instance aoA:Fo Tryz.prog 109 0 0:=⟨by kernel_rfl⟩
instance aoB:Fo Tryz.prog 109 1 1:=⟨by kernel_rfl⟩
instance aoC:Fo Tryz.prog 109 2 2:=⟨by kernel_rfl⟩
instance apL:Sz Tryz.prog 109 3:=⟨by kernel_rfl⟩
instance apM:Sb Tryz.prog 109 [.int .i64 0,.int .i64 0,.string ⟨#[]⟩] [(0,1),(1,1),(2,1)]:=⟨by kernel_rfl,by kernel_rfl⟩
instance apN:Sl Tryz.prog 127 1:=⟨by kernel_rfl⟩
instance aoD:Fo Tryz.prog 129 0 0:=⟨by kernel_rfl⟩
instance aoE:Fo Tryz.prog 129 1 1:=⟨by kernel_rfl⟩
instance aoF:Fo Tryz.prog 129 2 2:=⟨by kernel_rfl⟩
instance aoG:Fo Tryz.prog 129 3 3:=⟨by kernel_rfl⟩
instance aoH:Fo Tryz.prog 129 4 4:=⟨by kernel_rfl⟩
instance apO:Sz Tryz.prog 129 5:=⟨by kernel_rfl⟩
instance apP:Sb Tryz.prog 129 [.bool false,.slice none 0 0,.slice none 0 0,.slice none 0 0,.int .i64 0] [(0,1),(1,1),(2,1),(3,1),(4,1)]:=⟨by kernel_rfl,by kernel_rfl⟩
instance apQ:Sl Tryz.prog 146 1:=⟨by kernel_rfl⟩
instance apy:tG Tryz.prog 146 1:=⟨by kernel_rfl⟩
instance aoI:Fo Tryz.prog 153 0 0:=⟨by kernel_rfl⟩
instance aoJ:Fo Tryz.prog 153 1 1:=⟨by kernel_rfl⟩
instance aoK:Fo Tryz.prog 153 2 2:=⟨by kernel_rfl⟩
instance apR:Sz Tryz.prog 153 3:=⟨by kernel_rfl⟩
instance apS:Sb Tryz.prog 153 [.int .i64 0,.string ⟨#[]⟩,.int .i64 0] [(0,1),(1,1),(2,1)]:=⟨by kernel_rfl,by kernel_rfl⟩
instance apT:Sl Tryz.prog 166 1:=⟨by kernel_rfl⟩
instance aoL:Fo Tryz.prog 168 0 0:=⟨by kernel_rfl⟩
instance aoM:Fo Tryz.prog 168 1 2:=⟨by kernel_rfl⟩
instance aoN:Fo Tryz.prog 168 2 3:=⟨by kernel_rfl⟩
instance apU:Sz Tryz.prog 168 4:=⟨by kernel_rfl⟩
instance apV:Sb Tryz.prog 168 [.slice none 0 0,.int .i64 0,.map none,.slice none 0 0] [(0,2),(2,1),(3,1)]:=⟨by kernel_rfl,by kernel_rfl⟩
instance apW:Ik Tryz.prog 189 .u64:=⟨by kernel_rfl⟩
instance apX:Sz Tryz.prog 204 0:=⟨by kernel_rfl⟩
instance apY:Sb Tryz.prog 204 [] []:=⟨by kernel_rfl,by kernel_rfl⟩
instance aoO:Fo Tryz.prog 215 0 0:=⟨by kernel_rfl⟩
instance aoP:Fo Tryz.prog 215 1 1:=⟨by kernel_rfl⟩
instance apZ:Sz Tryz.prog 215 2:=⟨by kernel_rfl⟩
instance ap0:Sb Tryz.prog 215 [.slice none 0 0,.slice none 0 0] [(0,1),(1,1)]:=⟨by kernel_rfl,by kernel_rfl⟩

end Go.Proofs.YtbplamgacibdaaaGreatDoor.V
namespace Go.Proofs.YtbplamgacibdaaaGreatDoor.Nm
open List
open Go.Proofs.Tryz
open Go.RowKit V
variable {k:Nat}
def wordsB:List (List UInt8):=[[67,82,69,65,84,69],[84,65,66,76,69],[68,82,79,80],[73,78,83,69,82,84],[73,78,84,79],[86,65,76,85,69,83],[83,69,76,69,67,84],[67,79,85,78,84],[70,82,79,77],[87,72,69,82,69],[79,82,68,69,82],[66,89],[68,69,83,67],[76,73,77,73,84],[85,80,68,65,84,69],[83,69,84],[68,69,76,69,84,69],[66,69,71,73,78],[67,79,77,77,73,84],[82,79,76,76,66,65,67,75],[65,78,68],[79,82],[78,79,84],[73,83],[78,85,76,76],[84,82,85,69],[70,65,76,83,69],[73,78,84],[84,69,88,84],[66,79,79,76]]
def marksB:List (List UInt8):=[[60,61],[62,61],[60,62],[40],[41],[44],[42],[43],[45],[61],[60],[62]]
def vp:List ByteArray:=wordsB.map fun b=>⟨b.toArray⟩
def F0:List ByteArray:=marksB.map fun b=>⟨b.toArray⟩
def wordsC:List Value:=vp.map .string
def marksC:List Value:=F0.map .string
def xm(c:UInt8):Bool:=decide ((97<=c.toNat/\c.toNat<=122)\/(65<=c.toNat/\c.toNat<=90)\/c.toNat=95)
def F1(c:UInt8):Bool:=decide (48<=c.toNat/\c.toNat<=57)
def xF(c:UInt8):Bool:=xm c||F1 c
def Gk(p:UInt8->Bool)(s:ByteArray):Nat:=(s.data.toList.takeWhile p).length
theorem Vk(p:UInt8->Bool):∀(l:List UInt8) (k:Nat),k<=l.length->(∀x∈l.take k,p x=true)->(∀h:k<l.length,p l[k]=false)->(l.takeWhile p).length=k
 | [],k,h,_,_=>by simp at h;subst h;rfl
 | a::r,0,_,_,h=>by
  have:p a=false:=h bq;rw[takeWhile_cons];simp[this]
 | a::r,k+1,h1,h2,h3=>by
  have ha:p a=true:=h2 a bq;rw[takeWhile_cons,if_pos ha,length_cons,Vk p r k (by simpa using h1) (fun x hx=>h2 x (by rw[take_succ_cons];exact mem_cons_of_mem _ hx)) (fun h=>by have:=h3 oV;simpa using this)]
theorem FF{p:UInt8->Bool}{s:ByteArray}(hk:k<=s.size)(h0:∀x∈s.data.toList.take k,p x=true)(h1:k<s.size->p (mC s k)=false):Gk p s=k :=
 Vk p _ k (by rw[lF];exact hk) h0 fun h=>by rw[IL h];exact h1 (by rw[lF] at h;exact h)
structure Tk where
 k:Int
 s:ByteArray
 n:Int
def cT(t:Tk):List D:=[ae t.k,bg t.s,ae t.n]
theorem jf(t:Tk):(cT t).length=3:=rfl
def oK(s:ByteArray):Bool:=!decide (s.size=0)&&xm (mC s 0)&&((Gk xF s:Int)==(s.size:Int))
def um(t:Tk):Int :=
 if t.k=1 then (if (decide (t.n=0)&&oK t.s)=true then 0 else 6)
 else if t.k=2 then (if t.n<0 then 3 else if t.s.size=0 then 0 else 6)
 else if t.k=3 then (if t.n=0 then 0 else 6)
 else if t.k=4 then (if (decide (t.n=0)&&F0.any (ja t.s))=true then 0 else 6)
 else 2
def cW(s:ByteArray):Int:=if s.size>8 then 1 else if (!(oK s)||vp.any (ja s))=true then 6 else 0
theorem P7(s:ByteArray):um ⟨1,s,0⟩=if oK s=true then 0 else 6:=by
 unfold um;rw[if_pos rfl];simp
variable {G:List (Nat×List Value)}
theorem QI(c:UInt8):VP Tryz.prog G 135 [.v (.int .u8 ((c).toNat:Int))] (bP (xm c)):=by
 refine VC.body func135 rfl ntmps135 aU fun X0 w0 bj=>?_;refine af [0] ?_;refine aB 3 ?_;refine bZ 5 (fun Z O=>?_) (fun Z O=>?_)
 ·refine aH 4 ?_;refine bZ 9 (fun Oy U=>?_) (fun Oy U=>?_)
  ·exact HE
  refine aH 3 ?_;refine bZ 12 (fun I E=>?_) (fun I E=>?_)
  ·exact WX
  exact HE
 refine aH 7 ?_;refine bZ 12 (fun I E=>?_) (fun I E=>?_)
 ·exact WX
 refine bu [2] ?_;refine eZ ?_;refine⟨vb ?_,rfl⟩;rw[Bool.eq_iff_iff];simp[xm];first|done|omega
theorem adI(c:UInt8):VP Tryz.prog G 138 [.v (.int .u8 ((c).toNat:Int))] (bP (F1 c)):=by
 refine VC.body func138 rfl ntmps138 aU fun X0 w0 bj=>?_;refine af [0] ?_;refine aB 3 ?_;refine bZ 5 (fun I E=>?_) (fun I E=>?_)
 ·refine bu [2] ?_;refine eZ ?_;refine⟨vb ?_,rfl⟩;rw[Bool.eq_iff_iff];simp[F1];first|done|omega
 refine bu [2] ?_;refine eZ ?_;refine⟨vb ?_,rfl⟩;rw[Bool.eq_iff_iff];simp[F1];first|done|omega
theorem RI(c:UInt8):VP Tryz.prog G 137 [.v (.int .u8 ((c).toNat:Int))] (bP (xF c)):=by
 refine VC.body func137 rfl ntmps137 aU fun X0 w0 bj=>?_;refine af [0] ?_;refine aB 1 ?_;refine ez call135 (QI c) ?_;refine aH 1 ?_;refine bZ 5 (fun I E=>?_) (fun I E=>?_)
 ·refine an 9 [2] ?_;refine aK [] ?_;exact⟨vb (by simp[xF, *]),rfl⟩
 refine aH 1 ?_;refine OD.iD iN rfl rfl rfl call138 (adI c) ⟨ot,trivial⟩ ?_;refine an 9 [2] ?_;refine aK [] ?_;exact⟨vb (by simp[xF, *]),rfl⟩
theorem TK(s:ByteArray)(g:Nat)(p:UInt8->Bool)(fy:∀args w,(callFunc g args).run Tryz.prog w = .ok (.enter g args) w)(hp:∀c,VP Tryz.prog G g [.v (.int .u8 ((c).toNat:Int))] (bP (p c)))(hs:s.size<=maxLen):VP Tryz.prog G 136 [bg s,.eI (.func g) []] (ae (Gk p s)):=by
 refine VC.body func136 rfl ntmps136 aU fun X0 w0 bj=>?_;simp only[maxLen] at hs;refine af [0,1] ?_;refine af [0,1,5] ?_;refine ew [0,1] (fun aS _ (k:Nat) aE=>(k<=s.size)/\(∀x∈s.data.toList.take k,p x=true)/\aE=(⟨20,(5,ae (k:Nat))::aS,[]⟩:St)) (fun (k:Nat)=>s.size-k) 0 ⟨(Nat.zero_le _),bq,rfl⟩ ?_;rintro k _ ⟨hk,h0,rfl⟩;refine aB 5 ?_;refine bZ 10 (fun I E=>?_) (fun I E=>?_)
 ·have O:k<s.size:=(by omega)
  have ym:s[k]?=some (mC s k):=K4 O;refine aH 3 ?_;refine OD.still iN rfl (IJ rfl ot ot runUnderlying9 rfl (by first|assumption|rfl)) ?_;refine OD.lY (f:=g) (args:=[_]) (all:=[_]) iN rfl rfl ot fy (hp (mC s k)) rfl ⟨ot,trivial⟩ (eX _) ?_;rintro _ S2 ⟨rfl,rfl⟩;refine an 20 [0,1,5,16] ?_;refine au ?_ ?_<;>intro aJ bz
  ·refine bM [0,1,5] ?_;refine⟨(k+1),_,cn,aI,w4,(zh (by rw[lF];exact O) h0 (by rw[IL];assumption)),rfl⟩
  refine af [4] ?_;refine aK [] ?_;refine⟨vi ?_,rfl⟩;first|(rw[FF hk h0 (fun h=>by omega)];done)|(rw[FF hk h0 (fun h=>by assumption)];done)
 refine bu [0,1,5,16] ?_;refine gm ?_;refine af [4] ?_;refine eZ ?_;refine⟨vi ?_,rfl⟩;first|(rw[FF hk h0 (fun h=>by omega)];done)|(rw[FF hk h0 (fun h=>by assumption)];done)
theorem adJ(E:List ByteArray)(s:ByteArray)(hlen:E.length<=maxLen):VP Tryz.prog G 139 [ap 1 cS E,bg s] (ae (dK (ja s) E)):=by
 refine VC.body func139 rfl ntmps139 aU fun X0 w0 bj=>?_;simp only[maxLen] at hlen;refine af [0,1] ?_;refine af [0,1,7,8] ?_;refine ew [0,1,7] (fun aS _ (k:Nat) aE=>(k<=E.length)/\(∀x∈E.take k,ja s x=false)/\aE=(⟨19,(8,ae (k:Nat))::aS,[]⟩:St)) (fun (k:Nat)=>E.length-k) 0 ⟨(Nat.zero_le _),bq,rfl⟩ ?_;rintro k _ ⟨hk,h0,rfl⟩;refine af [0,1,7,8,9] ?_;refine au ?_ ?_<;>intro aJ bz
 ·have aa:k<E.length:=(by omega)
  refine af [0,1,5,7,8] ?_;refine af [0,1,5,7,8,16] ?_;refine au ?_ ?_<;>intro aX cr
  ·refine af [4] ?_;refine aK [] ?_;refine⟨vi ?_,rfl⟩;first|(rw[tU w4 h0 aX];done)|(rw[wO w4 h0];done)
  refine bM [0,1,7,8] ?_;refine⟨(k+1),_,cn,aI,w4,(zh w4 h0 aX),rfl⟩
 refine af [4] ?_;refine aK [] ?_;refine⟨vi ?_,rfl⟩;first|(rw[tU w4 h0 aX];done)|(rw[wO w4 h0];done)
theorem PX(E:List ByteArray)(s:ByteArray)(hlen:E.length<=maxLen):VP Tryz.prog G 106 [ap 1 cS E,bg s] (bP (E.any (ja s))):=by
 refine VC.body func106 rfl ntmps106 aU fun X0 w0 bj=>?_;refine af [0,1] ?_;refine cL [4] (adJ E s hlen) ?_;refine aK [] ?_;exact⟨vb RR,rfl⟩
theorem pS(hm:(3,marksC)∈G)(t:Tk)(hs:t.s.size<=maxLen):VP Tryz.prog G 105 [.agg (cT t)] (ae (um t)):=by
 refine VC.body func105 rfl ntmps105 aU fun X0 w0 bj=>?_;unfold cT;refine bS ?_;refine OD.box (ds:=[_,_,_]) aq rfl rfl ot rfl rfl (fun b1=>?_);refine an 53 [1] ?_;refine af [1,3] ?_;refine af [1,3,8] ?_;refine af [1,3,8,9] ?_;refine au ?_ ?_<;>intro aJ bz
 ·refine gP 21 (av _) ?_ (fun _ h=>h);refine aD 0 rfl bD ?_;refine aD 1 rfl bD ?_;refine dM.split (t:=12) lk (fun U=>?_) (fun U=>?_)
  ·have E:=U;(try simp only[V.nR,ne_eq] at E)
   refine aD 2 rfl (dQ 1) ?_;refine aD 3 rfl (dS 0) ?_;refine aD 4 rfl qn ?_;refine aD 5 rfl xV ?_;refine aD 6 rfl bD ?_;refine dM.split (t:=17) lk (fun xU=>?_) (fun xU=>?_)
   ·have xE:=xU;(try simp only[V.nR,ne_eq] at xE)
    refine aD 7 rfl (dQ 1) ?_;refine aD 8 rfl (dS 0) ?_;refine aD 9 rfl (IJ (c:=mC t.s 0) rfl ot bV runUnderlying9 rfl (K4 (agI uu))) ?_;refine dM.later rfl ?_;refine AD.one (i:=10) aC ?_;refine bC.iD rfl iN rfl rfl rfl call135 (QI _) ⟨ot,trivial⟩ ?_;refine dm 11 rfl xV ?_;refine dm 12 rfl bD ?_;refine AD.split (t:=23) lk (fun Z=>?_) (fun Z=>?_)
    ·have I:=Z;(try simp only[V.nR,ne_eq] at I)
     refine dm 13 rfl (dQ 1) ?_;refine dm 16 rfl (dQ 1) ?_;refine AD.two (i:=14) (j:=17) aC ?_ ?_
     ·refine at_ rfl (dS 0) ?_;refine AD.two (i:=15) (j:=17) aC ?_ ?_
      ·refine bC.iD rfl iN rfl rfl rfl call136 (TK t.s 137 xF call137 RI hs) ⟨ot,tW,trivial⟩ ?_;refine AD.one (i:=17) aC ?_;refine at_ rfl (dS 0) ?_;refine dm 18 rfl (EH rfl rfl ot runUnderlying9) ?_;refine dm 19 rfl qn ?_;refine dm 20 rfl xV ?_;exact Ml
      refine at_ rfl (dS 0) ?_;refine dm 18 rfl (EH rfl rfl ot runUnderlying9) ?_;exact WY
     refine at_ rfl (dS 0) ?_;refine dm 18 rfl (EH rfl rfl ot runUnderlying9) ?_;refine AD.one (i:=14) aC ?_;refine at_ rfl (dS 0) ?_;exact WY
    have I:=Z;(try simp only[V.nR,ne_eq] at I)
    exact z8
   have xE:=xU;(try simp only[V.nR,ne_eq] at xE)
   exact WS
  have E:=U;(try simp only[V.nR,ne_eq] at E)
  refine mL 2 rfl ?_;refine mL 3 rfl ?_;refine mL 4 rfl ?_;refine aD 5 rfl vF ?_;refine aD 6 rfl bD ?_;exact WS
 refine af [1,3,8,32] ?_;refine au ?_ ?_<;>intro aX cr
 ·refine af [1,36] ?_;refine au ?_ ?_<;>intro bL cJ
  ·refine af [2] ?_;refine aK [] ?_;exact NT
  refine bM [3] ?_;exact WV
 refine af [1,3,8,40] ?_;refine au ?_ ?_<;>intro cN en
 ·exact WV
 refine af [1,3,42] ?_;refine au ?_ ?_<;>intro dW fB
 ·refine gP 7 (av _) ?_ (fun _ h=>h);refine aD 0 rfl bD ?_;refine aD 1 rfl bD ?_;refine dM.split (t:=45) lk (fun Mx=>?_) (fun Mx=>?_)
  ·have O:=Mx;(try simp only[V.nR,ne_eq] at O)
   refine aD 2 rfl (eE (l:=0) (h:=0) rfl wT trivial trivial (by first|exact TY (ls:=F0) (g:=cS) hm rfl rfl runUnderlying208 sizeOf9 rfl w8 w8)) ?_;refine aD 3 rfl (dQ 1) ?_;refine aD 4 rfl (dS 0) ?_;refine dM.later rfl ?_;refine AD.one (i:=5) aC ?_;refine bC.iD rfl iN rfl rfl rfl call106 (PX F0 t.s w8) ⟨ot,ot,trivial⟩ ?_;refine dm 6 rfl xV ?_;exact Ml
  have O:=Mx;(try simp only[V.nR,ne_eq] at O)
  refine mL 2 rfl ?_;refine mL 3 rfl ?_;refine mL 4 rfl ?_;refine dM.later rfl ?_;refine AD.one (i:=5) aC ?_;refine bC.skip rfl (mT rfl rfl rfl lk jJ) rfl ?_;refine dm 6 rfl vF ?_;refine fm ?_;refine bu [3] ?_;refine af [52] ?_;refine eO ?_;exact NR
 refine af [2] ?_;refine aK [] ?_;refine⟨vi ?_,rfl⟩;try simp only[vh] at *
 simp only[um,oK];try simp_all
 try omega
theorem vj(hm:(3,marksC)∈G)(hw:(1,wordsC)∈G)(s:ByteArray)(hs:s.size<=maxLen):VP Tryz.prog G 61 [bg s] (ae (cW s)):=by
 refine VC.body func61 rfl ntmps61 aU fun X0 w0 bj=>?_;refine af [0] ?_;refine af [0,5] ?_;refine au ?_ ?_<;>intro aJ bz
 ·exact N0
 refine aB 2 ?_;refine ez call105 (pS hm ⟨1,s,0⟩ hs) ?_;refine aH 2 ?_;refine bZ 10 (fun I E=>?_) (fun I E=>?_)
 ·refine an 15 [14] ?_;refine eO ?_;exact N0
 refine OD.still iN rfl (eE (l:=0) (h:=0) rfl wT trivial trivial (by first|exact TY (ls:=vp) (g:=cS) hw rfl rfl runUnderlying177 sizeOf9 rfl w8 w8)) ?_;refine aH 1 ?_;refine OD.iD iN rfl rfl rfl call106 (PX vp s w8) ⟨ot,ot,trivial⟩ ?_;refine an 15 [14] ?_;refine au ?_ ?_<;>intro aX cr
 ·exact N0
 refine af [2] ?_;refine aK [] ?_;refine⟨vi ?_,rfl⟩;try simp only[P7] at *
 simp only[cW];first|(rw[if_pos w4];done)|(rw[if_neg w4];cases h1:oK s<;>cases h2:vp.any (ja s)<;>simp_all)
def wb(c:UInt8):UInt8:=UInt8.ofNat (97+c.toNat % 26)
theorem agW(c:UInt8):(wb c).toNat=97+c.toNat % 26:=by
 have:c.toNat % 26<26:=Nat.mod_lt _ w8;unfold wb;rw[UInt8.toNat_ofNat'];exact Nat.mod_eq_of_lt w4
theorem afe(c:UInt8):IntKind.u8.wrap (97+(c.toNat:Int).tmod 26)=((wb c).toNat:Int):=by
 rw[agW];have h1:(c.toNat:Int).tmod 26=((c.toNat % 26:Nat):Int):=rfl;have:c.toNat % 26<26:=Nat.mod_lt _ w8;rw[h1];have e:(97+((c.toNat % 26:Nat):Int))=((97+c.toNat % 26:Nat):Int):=(by omega)
 rw[e];show((97+c.toNat % 26:Nat):Int) % 256=_;omega
def zI(s:ByteArray):List UInt8:=if s.size=0 then [120] else (s.data.toList.take 6).map wb
def vz(s:ByteArray):ByteArray:=⟨(zI s).toArray⟩
theorem JD{s:ByteArray}(h:k<s.size):(s.data.toList.take k).map wb++[wb (mC s k)]=(s.data.toList.take (k+1)).map wb:=by
 have h':k<s.data.toList.length:=(by rw[lF];exact h)
 rw[take_succ_eq_append_getElem h',map_append,IL h'];rfl
theorem RF{s:ByteArray}(hk:k<=s.size)(h:k=s.size\/6<=k)(h6:k<=6):(s.data.toList.take k)=s.data.toList.take 6:=by
 rcases h with h|h
 ·rw[take_of_length_le (by rw[lF];omega),take_of_length_le (by rw[lF];omega)]
 rw[show k=6 by omega]
theorem abM:(Tryz.prog.info? 5).map (fun i=>(i.zero,i.size,i.bytes))=some (some (.int .u8 0),1,1):=by kernel_rfl
theorem rp(s:ByteArray)(hs:s.size<=maxLen):VP Tryz.prog G 24 [bg s] (bg (vz s)):=by
 refine VC.body func24 rfl ntmps24 aU fun X0 w0 bj=>?_;simp only[maxLen] at hs;refine af [0] ?_;refine bS ?_;refine bu [0,3] ?_;refine af [0,3,4] ?_;refine CD.block ?_;refine nu (fun (aO:Nat×Option Addr×Nat×List ah) aE=>match aO with|(k,I,O,Sb)=>(k<=s.size)/\(k<=6)/\(bn 5 1 (((s.data.toList.take k).map wb).flatMap cB) ((s.data.toList.take k).map wb).length I O Sb)/\aE=(⟨28,[(0,bg s),(3,aT I ((s.data.toList.take k).map wb).length O),(4,ae (k:Nat))],(Sb)⟩:St)) (fun (aO:Nat×Option Addr×Nat×List ah)=>match aO with|(k,I,O,Sb)=>s.size-k) (0,none,0,[]) ⟨(Nat.zero_le _),(Nat.zero_le _),(bn.cast iR jZ),rfl⟩ (aI (h:=by repeat (first|exact trivial|refine⟨(by (repeat (first|exact fK|(apply gb;focus (first|rfl|(simp;done)|(congr 2;omega)|(apply eP;exact JD U)|(apply eP;simp;done)))|(apply fO;focus rfl)));done),?_⟩))) ?_;rintro⟨k,I,O,Sb⟩ _ ⟨hk,h6,Z,rfl⟩;refine aB 5 ?_;refine bZ 9 (fun Oy ajS=>?_) (fun Oy ajS=>?_)
 ·refine bu [0,3,4,12] ?_;refine au ?_ ?_<;>intro aJ bz
  ·refine dw 2 ?_;have U:k<s.size:=(by omega)
   have ym:s[k]?=some (mC s k):=K4 U;refine aH 1 ?_;refine bN (IJ rfl ot ot runUnderlying9 rfl (by first|assumption|rfl)) ?_;refine bN (dR rfl ot bV (Ke w4)) ?_;refine bN (dR (r:=.int .u8 ((wb (mC s k)).toNat:Int)) rfl bV ot (kN (afe _))) ?_;refine ey (cu 0 [_]) [.int .u8 0] [_] zeroValue5 runUnderlying86 sizeOf5 (fun DN=>?_);refine fD 0 21 1 1 ?_;refine OD.eG (ls:=((s.data.toList.take k).map wb)) (new:=[wb (mC s k)]) (Sq:=Sb) pX xx aq rfl rfl underlying86 abM rfl w8 ot Z (cZ (A:=[])) ot bq v7 iF (fun Oz E ajT ajU=>?_);refine OD.perm (dU (S1:=[⟨Oz,5,E*1,flatMap cB (((s.data.toList.take k).map wb)++[wb (mC s k)])⟩]) (A:=[])) ?_;refine an 28 [0,3,4] ?_;refine bM [0,3,4] ?_;refine⟨((k+1),(some ⟨Oz,0,none⟩),E,[⟨Oz,5,E*1,flatMap cB (((s.data.toList.take k).map wb)++[wb (mC s k)])⟩]),_,cn,(aI (h:=by repeat (first|exact trivial|refine⟨(by (repeat (first|exact fK|(apply gb;focus (first|rfl|(simp;done)|(congr 2;omega)|(apply eP;exact JD U)|(apply eP;simp;done)))|(apply fO;focus rfl)));done),?_⟩))),w4,w4,(bn.cast (bJ ajT ajU) (by exact JD U)),rfl⟩
  refine af [3,25] ?_;refine au ?_ ?_<;>intro aX cr
  ·refine af [2] ?_;refine eZ ?_;exact NZ
  refine aB 1 ?_;refine OD.gK (t:=26) (Sq:=Sb) lk Z (cm pX _) (cZ (A:=[])) ?_;refine bN DE ?_;refine an 28 [2] ?_;refine aK [] ?_;exact NZ
 refine bu [0,3,4,12] ?_;refine gm ?_;refine af [3,25] ?_;refine au ?_ ?_<;>intro aX cr
 ·refine af [2] ?_;refine eZ ?_;exact NZ
 refine aB 1 ?_;refine OD.gK (t:=26) (Sq:=Sb) lk Z (cm pX _) (cZ (A:=[])) ?_;refine bN DE ?_;refine an 28 [2] ?_;refine aK [] ?_;refine⟨vs ?_,rfl⟩;have wi:k=s.size\/6<=k:=(by omega)
 have Me:min k s.size=k:=Nat.min_eq_left hk;simp only[length_map,length_take,lF,Me] at *;unfold vz zI;first|(rw[if_pos w4];done)|(rw[if_neg w4,RF hk wi h6])
abbrev MarksTab(w:World):Prop:=Tab.l5 w 3 marksC

end Go.Proofs.YtbplamgacibdaaaGreatDoor.Nm
namespace Go.Proofs.YtbplamgacibdaaaGreatDoor.Pk
open List
open Go.Proofs.Tryz
open Go.RowKit V
def cx(n m:Int):Int:=if n<0 then (-(n+1)).tmod m else n.tmod m
theorem jd(n:Int){m:Int}(h:1<=m):0<=cx n m/\cx n m<m:=by
 have key:∀k:Int,0<=k->0<=k.tmod m/\k.tmod m<m:=fun k hk=>⟨Int.tmod_nonneg _ hk,Int.tmod_lt_of_pos _ w4⟩
 unfold cx;split
 ·exact key _ w4
 exact key _ w4
variable (G:List (Nat×List Value))
theorem kL(n m:Int)(hn:-9223372036854775808<=n)(iO:n<=9223372036854775807)(hm:1<=m):VP Tryz.prog G 16 [ae n,ae m] (ae (cx n m)):=by
 refine VC.body func16 rfl ntmps16 aU fun X0 w0 bj=>?_;refine af [0,1] ?_;refine af [0,1,6] ?_;refine au ?_ ?_<;>intro aJ bz
 ·refine gl [0,1] ?_;refine aR 2 ?_ (h:=by exact(Fe rfl ot (K2 (r:=-(n+1)) (by rw[wrap_i64]<;>omega))));refine bA ?_;refine cz [4] ?_;refine aR 2 ?_ (h:=by exact(dR rfl ot ot (Ke w4)));refine bA ?_;refine aK [] ?_;exact⟨by unfold cx;split<;>first|rfl|omega,rfl⟩
 refine cz [4] ?_;refine aR 2 ?_ (h:=by exact(dR rfl ot ot (Ke w4)));refine bA ?_;refine aK [] ?_;exact⟨by unfold cx;split<;>first|rfl|omega,rfl⟩

end Go.Proofs.YtbplamgacibdaaaGreatDoor.Pk
namespace Go.Proofs.YtbplamgacibdaaaGreatDoor.Nm
open List
open Go.Proofs.Tryz
open Go.RowKit V Pk
variable {l:List UInt8}
theorem mk_data(l:List UInt8):(⟨l.toArray⟩:ByteArray).data.toList=l:=rfl
theorem Kk(l:List UInt8):(⟨l.toArray⟩:ByteArray).size=l.length:=by rw[<-lF]
theorem abN(s:ByteArray):1<=(zI s).length/\(zI s).length<=6:=by
 unfold zI;split
 ·exact⟨by decide,by decide⟩
 rw[length_map,length_take,lF];omega
theorem PN{p:UInt8->Bool}:∀{l:List UInt8},(∀c∈l,p c=true)->l.takeWhile p=l
 | [],_=>rfl
 | a::l,h=>by rw[takeWhile_cons,if_pos (h a mem_cons_self),PN fun c hc=>h c (mem_cons_of_mem _ hc)]
theorem PR{c:UInt8}(h:97<=c.toNat/\c.toNat<=122):xm c=true:=by unfold xm;exact decide_eq_true (.inl h)
theorem adK(h1:1<=l.length)(h:∀c∈l,97<=c.toNat/\c.toNat<=122):oK ⟨l.toArray⟩=true:=by
 unfold oK Gk;rw[Kk,mk_data,PN fun c hc=>by unfold xF;rw[PR (h c hc)];rfl];have h0:mC ⟨l.toArray⟩ 0∈l:=by
  exact WK
 rw[PR (h _ h0)];have:l.length≠0:=(by omega)
 simp[this]
theorem aaA:∀x∈vp,(mC x 0).toNat<=90:=by decide
theorem aa0(h1:1<=l.length)(h:∀c∈l,97<=c.toNat/\c.toNat<=122):vp.any (ja ⟨l.toArray⟩)=false:=by
 rw[any_eq_false];intro x hx he;have he:=qC.1 he;have h0:mC ⟨l.toArray⟩ 0∈l:=by
  exact WK
 have:=h _ h0;have h2:=aaA x hx;rw[<-he] at h2;omega
theorem tQ(h1:1<=l.length)(E:l.length<=8)(h:∀c∈l,97<=c.toNat/\c.toNat<=122):cW ⟨l.toArray⟩=0:=by
 unfold cW;rw[Kk,if_neg w4,adK h1 h,aa0 h1 h];rfl
theorem Qc(s:ByteArray):1<=(vz s).size/\(vz s).size<=6:=by unfold vz;rw[Kk];exact abN s
variable {G:List (Nat×List Value)}
abbrev WordsTab(w:World):Prop:=Tab.l5 w 1 wordsC

end Go.Proofs.YtbplamgacibdaaaGreatDoor.Nm
namespace Go.Proofs.YtbplamgacibdaaaGreatDoor.Vl
open List
open Go.Proofs.Tryz
open Go.RowKit V Pk
structure Vl where
 k:Int
 n:Int
 s:ByteArray
def cV(v:Vl):List D:=[ae v.k,ae v.n,bg v.s]
theorem fG(v:Vl):(cV v).length=3:=rfl
theorem F2(v:Vl):(cV v).all V.one=true:=rfl
structure Vl.Ok (v:Vl):Prop where
 k1:-9223372036854775808<=v.k
 k2:v.k<=9223372036854775807
 n1:-9223372036854775808<=v.n
 n2:v.n<=9223372036854775807
 s:v.s.size<=maxLen
def bQ:Vl:=⟨0,0,⟨#[]⟩⟩
def de(v:Vl):Int :=
 if v.k=0 then (if v.n≠0\/v.s.size≠0 then 6 else 0)
 else if v.k=1 then (if v.n<0\/v.n>1\/v.s.size≠0 then 6 else 0)
 else if v.k=2 then (if v.s.size≠0 then 6 else 0)
 else if v.k=3 then (if v.n≠0 then 6 else if v.s.size>20 then 1 else 0)
 else 2
theorem Gb(x y:Vl):∀w,(Op.equalIn 10000 56 (.agg [.int .i64 x.k,.int .i64 x.n,.string x.s].toArray) (.agg [.int .i64 y.k,.int .i64 y.n,.string y.s].toArray)).run Tryz.prog w = .ok (x.k==y.k&&(x.n==y.n&&x.s.toList==y.s.toList)) w:=fun w=>by
 have hS:Tryz.prog.underlying 56=some (.struct (Tryz.prog.fieldsOf 56)):=(by kernel_rfl)
 have hp:Tryz.prog.stoodInHeld 56=false:=(by kernel_rfl)
 rw[show(10000:Nat)=9999+1 from rfl,run_equalIn_agg w 9999 56 _ _ hS hp];have u:=underlying56;have E:=underlying3;have I:=underlying9;have O:=isAgg3;have U:=isAgg9;have Z:=sizeOf3;have z9:=sizeOf9;simp only[Program.fieldsOf,u];go_simp
 by_cases h1:x.k=y.k<;>by_cases h2:x.n=y.n<;>by_cases h3:x.s.toList=y.s.toList<;>simp[h1,h2,h3]
theorem Vl.ext'{x y:Vl}(h1:x.k=y.k)(h2:x.n=y.n)(h3:x.s=y.s):x=y:=by cases x;cases y;simp only at h1 h2 h3;subst h1 h2 h3;rfl
def AO(x y:Vl):Bool:=x.k==y.k&&(x.n==y.n&&x.s.toList==y.s.toList)
theorem TF{x y:Vl}:AO x y=true↔x=y:=by
 unfold AO;rw[Bool.and_eq_true,Bool.and_eq_true,beq_iff_eq,beq_iff_eq];constructor
 ·rintro⟨h1,h2,h3⟩;exact Vl.ext' h1 h2 (qC.1 h3)
 rintro rfl;exact⟨rfl,rfl,qC.2 rfl⟩
def nN(s:ByteArray)(m:Nat):ByteArray:=s.extract 0 (min s.size m)
def pV(r:Vl):Vl :=
 if cx r.k 4=1 then ⟨1,cx r.n 2,⟨#[]⟩⟩
 else if cx r.k 4=2 then ⟨2,r.n,⟨#[]⟩⟩
 else if cx r.k 4=3 then ⟨3,0,nN r.s 10⟩
 else bQ
theorem QJ(s:ByteArray)(m:Nat):(nN s m).data.toList=s.data.toList.take m:=by
 unfold nN;rw[ByteArray.data_extract,Array.toList_extract];simp only[extract_eq_take_drop,drop_zero,Nat.sub_zero];rw[<-lF];rcases Nat.le_total s.data.toList.length m with h|h
 ·rw[Nat.min_eq_left h,take_length,take_of_length_le h]
 rw[Nat.min_eq_right h]
theorem I6(s:ByteArray)(m:Nat):(nN s m).size=min s.size m:=by
 rw[<-lF,QJ,length_take,lF,Nat.min_comm]
variable {G:List (Nat×List Value)}
theorem pS(v:Vl):VP Tryz.prog G 107 [.agg (cV v)] (ae (de v)):=by
 refine VC.body func107 rfl ntmps107 aU fun X0 w0 bj=>?_;unfold cV;refine bS ?_;refine OD.box (ds:=[_,_,_]) aq rfl rfl ot rfl rfl (fun b1=>?_);refine an 44 [1] ?_;refine af [1,4] ?_;refine af [1,4,5] ?_;refine au ?_ ?_<;>intro aJ bz
 ·refine aB 4 ?_;refine bZ 10 (fun U E=>?_) (fun U E=>?_)
  ·refine bu [14] ?_;refine eO ?_;exact z138
  refine bu [14] ?_;refine au ?_ ?_<;>intro aX cr
  ·exact z138
  exact z138
 refine af [1,4,15] ?_;refine au ?_ ?_<;>intro bL cJ
 ·refine aB 4 ?_;refine bZ 20 (fun Z I=>?_) (fun Z I=>?_)
  ·refine bu [29] ?_;refine eO ?_;exact z138
  refine aH 5 ?_;refine bZ 25 (fun ajV O=>?_) (fun ajV O=>?_)
  ·refine bu [29] ?_;refine eO ?_;exact z138
  refine bu [29] ?_;refine au ?_ ?_<;>intro cN en
  ·exact z138
  exact z138
 refine af [1,4,30] ?_;refine au ?_ ?_<;>intro dW fB
 ·refine af [34] ?_;refine au ?_ ?_<;>intro fF gM
  ·exact CC
  exact CC
 refine af [1,35] ?_;refine au ?_ ?_<;>intro iw oS
 ·refine af [1,39] ?_;refine au ?_ ?_<;>intro iy mF
  ·exact CC
  refine af [43] ?_;refine au ?_ ?_<;>intro qk CN
  ·exact CC
  exact CC
 refine af [2] ?_;refine aK [] ?_;refine⟨vi ?_,rfl⟩;try simp only[vh] at *
 unfold de;simp_all;try omega
theorem FY(s:ByteArray)(m:Nat)(hs:s.size<=maxLen):VP Tryz.prog G 25 [bg s,ae (m:Int)] (bg (nN s m)):=by
 refine VC.body func25 rfl ntmps25 aU fun X0 w0 bj=>?_;simp only[maxLen] at hs;refine af [0,1] ?_;refine cz [4] ?_;refine aR 4 ?_ (h:=by exact(aag (r:=.int .i64 ((min s.size m:Nat):Int)) rfl ot ot (fun cs w=>(agE cs w).trans (by split<;>(congr 3;omega)))));refine aR 0 ?_ (h:=by exact(eE (l:=0) rfl ot trivial ⟨_,ot⟩ (by first|exact agG (fun _=>rfl) (fun h=>by cases h) runUnderlying9 w4 w4)));refine bA ?_;refine aK [] ?_;exact⟨by first|rfl|(simp[*];done),rfl⟩
theorem RH(r:Vl)(h:r.Ok):VP Tryz.prog G 55 [.agg (cV r)] (.agg (cV (pV r))):=by
 refine VC.body func55 rfl ntmps55 aU fun X0 w0 bj=>?_;unfold cV;refine bS ?_;refine OD.box (ds:=[_,_,_]) aq rfl rfl ot rfl rfl (fun b1=>?_);refine OD.alloc (ds:=[_,_,_]) aq rfl rfl zeroValue56 rfl (fun b2=>?_);refine an 29 [1,2] ?_;refine cL [1,2,3] (kL G r.k 4 h.k1 h.k2 w8) ?_;refine af [1,2,3,7] ?_;refine af [1,2,3,7,8] ?_;refine au ?_ ?_<;>intro aJ bz
 ·refine aB 3 ?_;refine ez call16 (kL G r.n 2 h.n1 h.n2 w8) ?_;refine aH 1 ?_;exact z87
 refine af [1,2,3,7,15] ?_;refine au ?_ ?_<;>intro aX cr
 ·refine aB 4 ?_;exact z87
 refine af [1,2,3,21] ?_;refine au ?_ ?_<;>intro bL cJ
 ·refine aB 3 ?_;refine ez call25 (FY r.s 10 h.s) ?_;refine aH 1 ?_;exact z87
 refine aB 1 ?_;refine aP 0 [_,_,_] sizeOf56 ?_;refine an 29 [2] ?_;refine aK [] ?_;refine⟨?_,rfl⟩;unfold pV bQ;simp_all

end Go.Proofs.YtbplamgacibdaaaGreatDoor.Vl
namespace Go.Proofs.YtbplamgacibdaaaGreatDoor.Nm
open List
open Go.Proofs.Tryz
open Go.RowKit V Pk Vl
variable {i:Nat} {h:Int}
theorem Gb(x y:Vl):∀w,(Op.equalIn 10000 56 (.agg [.int .i64 x.k,.int .i64 x.n,.string x.s].toArray) (.agg [.int .i64 y.k,.int .i64 y.n,.string y.s].toArray)).run Tryz.prog w = .ok (x.k==y.k&&(x.n==y.n&&x.s.toList==y.s.toList)) w:=fun w=>by
 have hS:Tryz.prog.underlying 56=some (.struct (Tryz.prog.fieldsOf 56)):=(by kernel_rfl)
 have hp:Tryz.prog.stoodInHeld 56=false:=(by kernel_rfl)
 rw[show(10000:Nat)=9999+1 from rfl,run_equalIn_agg w 9999 56 _ _ hS hp];have u:=underlying56;have E:=underlying3;have I:=underlying9;have O:=isAgg3;have U:=isAgg9;have Z:=sizeOf3;have z9:=sizeOf9;simp only[Program.fieldsOf,u];go_simp
 by_cases h1:x.k=y.k<;>by_cases h2:x.n=y.n<;>by_cases h3:x.s.toList=y.s.toList<;>simp[h1,h2,h3]
def jn(v:Vl):Int:=if v.k=2/\v.n = -9223372036854775808 then 3 else de v
structure bf where
 k:Int
 v:Vl
 nm:ByteArray
variable {l:List bf}
def cO(o:bf):List D:=[ae o.k,ae o.v.k,ae o.v.n,bg o.v.s,bg o.nm]
theorem nB(o:bf):(cO o).length=5:=rfl
theorem K1(o:bf):(cO o).all V.one=true:=rfl
def bU(k:Int):Int:=if k=1\/k=2 then 0 else if k=5\/k=11 then 1 else 2
theorem uj(k:Int):0<=bU k/\bU k<=2:=by unfold bU;split<;>(try split)<;>omega
def zeroV(v:Vl):Bool:=v.k==0&&(v.n==0&&v.s.toList==(⟨#[]⟩:ByteArray).toList)
def gD(h:Int)(o:bf):Int :=
 if o.k<1\/o.k>11 then 2
 else if jn o.v≠0 then jn o.v
 else if ((o.k != 1 && !(zeroV o.v))||(o.k != 2 && !(o.nm.toList==(⟨#[]⟩:ByteArray).toList)))=true then 6
 else if o.k=2/\cW o.nm≠0 then cW o.nm
 else if h<bU o.k then 7 else 0
def fR:Int->List bf->Int
 | h,[]=>if h=1 then 0 else 7
 | h,o::r=>if gD h o=0 then fR (h+(1-bU o.k)) r else gD h o
def jk(l:List bf):Int:=if l.length>40 then 10 else fR 0 l
theorem R3(hi:i<l.length)(he:gD h l[i]=0):fR h (l.drop i)=fR (h+(1-bU l[i].k)) (l.drop (i+1)):=by
 rw[drop_eq_getElem_cons hi,fR,if_pos he]
theorem RD{e:Int}(hi:i<l.length)(he:gD h l[i]=e)(h0:e≠0):fR h (l.drop i)=e:=by
 rw[drop_eq_getElem_cons hi,fR,if_neg (by rw[he];exact h0),he]
theorem QK(hi:l.length<=i):fR h (l.drop i)=if h=1 then 0 else 7:=by
 rw[drop_of_length_le hi,fR]
variable {G:List (Nat×List Value)}
theorem Qd(v:Vl):VP Tryz.prog G 100 [.agg (cV v)] (ae (jn v)):=by
 refine VC.body func100 rfl ntmps100 aU fun X0 w0 bj=>?_;unfold cV;refine bS ?_;refine OD.box (ds:=[_,_,_]) aq rfl rfl ot rfl rfl (fun b1=>?_);refine an 13 [1] ?_;refine aB 4 ?_;refine bZ 6 (fun I E=>?_) (fun I E=>?_)
 ·refine bu [1,10] ?_;refine au ?_ ?_<;>intro aJ bz
  ·refine af [2] ?_;refine eZ ?_;refine⟨vi ?_,rfl⟩;unfold jn;simp_all
  refine cL [2] (Vl.pS v) ?_;refine eZ ?_;refine⟨vi ?_,rfl⟩;unfold jn;simp_all
 refine bu [1,10] ?_;refine gm ?_;refine cL [2] (Vl.pS v) ?_;refine eZ ?_;refine⟨vi ?_,rfl⟩;unfold jn;simp_all
theorem Kl(k:Int):VP Tryz.prog G 101 [ae k] (ae (bU k)):=by
 refine VC.body func101 rfl ntmps101 aU fun X0 w0 bj=>?_;exact Yb
theorem Km(hm:(3,marksC)∈G)(hw:(1,wordsC)∈G)(l:List bf)(hs:∀o∈l,o.nm.size<=maxLen):VP Tryz.prog G 57 [ap 5 cO l] (ae (jk l)):=by
 refine VC.body func57 rfl ntmps57 aU fun X0 w0 bj=>?_;have hlx:l.length<=40\/40<l.length:=(by omega)
 refine af [0] ?_;refine af [0,10] ?_;refine au ?_ ?_<;>intro aJ bz
 ·have hf:jk l=10:=if_pos w4;refine af [2] ?_;refine aK [] ?_;exact NU
 have hf:jk l=fR 0 l:=if_neg w4;have qv:l.length<=40:=(by omega)
 refine af [0,3] ?_;refine af [3,11,12,13] ?_;refine ew [11,12] (fun aS _ (aO:Nat×Int) aE=>match aO with|(i,h)=>(i<=l.length)/\(fR 0 l=fR h (l.drop i))/\(0<=h)/\(h<=i)/\aE=(⟨73,(3,ae h)::(13,ae (i:Nat))::aS,[]⟩:St)) (fun (aO:Nat×Int)=>match aO with|(i,h)=>l.length-i) (0,0) ⟨(Nat.zero_le _),rfl,(Int.le_refl _),(Int.le_refl _),rfl⟩ ?_;rintro⟨i,h⟩ _ ⟨hi,hx,h0,hh,rfl⟩;refine af [3,11,12,13,14] ?_;refine au ?_ ?_<;>intro aX cr
 ·have aa:i<l.length:=(by omega)
  have DO:=uj l[i].k;refine aB 2 ?_;refine OD.alloc (ds:=[_,_,_,_,_]) aq rfl rfl zeroValue58 rfl (fun b5=>?_);refine aP 0 [_,_,_,_,_] sizeOf58 ?_;refine an 73 [3,5,11,12,13] ?_;refine aB 4 ?_;refine bZ 20 (fun ajW LJ=>?_) (fun ajW LJ=>?_)
  ·refine bu [3,5,11,12,13,24] ?_;refine eO ?_;have xS:gD h l[i]=2:=(by unfold gD;rw[if_pos w4])
   exact Ai
  refine bu [3,5,11,12,13,24] ?_;refine au ?_ ?_<;>intro bL cJ
  ·have xS:gD h l[i]=2:=(by unfold gD;rw[if_pos w4])
   exact Ai
  have cM:¬(l[i].k<1\/l[i].k>11):=(by omega)
  refine cL [3,5,6,11,12,13] (Qd l[i].v) ?_;refine af [3,5,6,11,12,13,29] ?_;refine au ?_ ?_<;>intro cN en
  ·have E:jn l[i].v≠0:=(by simpa using cN)
   have xS:gD h l[i]=jn l[i].v:=(by unfold gD;rw[if_neg cM,if_pos E])
   exact Ai
  have E:jn l[i].v=0:=(by simpa using cN)
  refine CD.skip ?_;refine CD.seq ?_;refine iH [3,5,11,12,13] (fun aS mQ aE=>∃(q:Bool),(q=((l[i].k != 1 && !(zeroV l[i].v))||(l[i].k != 2 && !(l[i].nm.toList==(⟨#[]⟩:ByteArray).toList))))/\aE=(⟨73,(49,bP q)::aS,mQ⟩:St)) ?_ ?_
  ·refine dw 4 ?_;refine bZ 34 (fun ajX aik=>?_) (fun ajX aik=>?_)
   ·refine aH 3 ?_;refine OD.still iN rfl (EQ (us:=[_,_,_]) (N8:=[_,_,_]) rfl ot ot eqGuardType56 (Gb l[i].v ⟨0,0,⟨#[]⟩⟩)) ?_;refine aH 2 ?_;refine bZ 40 (fun Mk LC=>?_) (fun Mk LC=>?_)
    ·refine an 73 [3,5,11,12,13,49] ?_;exact Cz
    refine aH 4 ?_;refine bZ 44 (fun Z I=>?_) (fun Z I=>?_)
    ·refine an 73 [3,5,11,12,13,49] ?_;exact Cz
    refine an 73 [3,5,11,12,13,49] ?_;exact Cz
   refine yC 4 ?_;refine aH 6 ?_;refine bZ 44 (fun Z I=>?_) (fun Z I=>?_)
   ·refine bu [3,5,11,12,13,49] ?_;exact Cz
   refine bu [3,5,11,12,13,49] ?_;exact Cz
  rintro _ ⟨q,hq,rfl⟩;refine au ?_ ?_<;>intro dW fB
  ·have xS:gD h l[i]=6:=(by unfold gD;rw[if_neg cM,if_neg (by rw[E];simp),if_pos (by rw[<-hq];exact dW)])
   exact Ai
  have O:¬((l[i].k != 1 && !(zeroV l[i].v))||(l[i].k != 2 && !(l[i].nm.toList==(⟨#[]⟩:ByteArray).toList)))=true:=(by rw[<-hq,dW];simp)
  refine CD.skip ?_;refine iH [3,5,11,12,13] (fun aS mQ aE=>(¬(l[i].k=2/\cW l[i].nm≠0))/\aE=(⟨73,aS,mQ⟩:St)) ?_ ?_
  ·refine af [3,5,11,12,13,52] ?_;refine au ?_ ?_<;>intro fF gM
   ·refine cL [3,5,7,11,12,13] (vj hm hw l[i].nm (hs _ (getElem_mem aa))) ?_;refine af [3,5,7,11,12,13,57] ?_;refine au ?_ ?_<;>intro iw oS
    ·have gA:cW l[i].nm≠0:=(by simpa using iw)
     have xS:gD h l[i]=cW l[i].nm:=(by unfold gD;rw[if_neg cM,if_neg (by rw[E];simp),if_neg O,if_pos ⟨by simpa using fF,gA⟩])
     exact Ai
    have U:¬(l[i].k=2/\cW l[i].nm≠0):=(by simp at iw;simp[iw])
    refine CD.skip ?_;refine⟨_,aI,U,rfl⟩
   have U:¬(l[i].k=2/\cW l[i].nm≠0):=(by simp at fF;simp[fF])
   refine CD.skip ?_;refine⟨_,aI,U,rfl⟩
  rintro _ ⟨U,rfl⟩;refine cL [3,5,11,12,13,63] (Kl l[i].k) ?_;refine au ?_ ?_<;>intro iy mF
  ·have Dx:h<bU l[i].k:=(by simpa using iy)
   have xS:gD h l[i]=7:=(by unfold gD;rw[if_neg cM,if_neg (by rw[E];simp),if_neg O,if_neg U,if_pos Dx])
   exact Ai
  have Dx:¬h<bU l[i].k:=(by simpa using iy)
  have aW:gD h l[i]=0:=(by unfold gD;rw[if_neg cM,if_neg (by rw[E];simp),if_neg O,if_neg U,if_neg Dx])
  refine gl [3,11,12,13] ?_;refine cf (Kl l[i].k) ?_;refine bA ?_;refine bM [3,11,12,13] ?_;refine⟨((i+1),(h+(1-bU l[i].k))),_,cn,aI,w4,(by rw[hx];exact R3 aa aW),w4,(by have:=uj l[i].k;omega),rfl⟩
 have dN:=hx.trans (QK (show l.length<=i by omega));refine af [72] ?_;refine au ?_ ?_<;>intro qk CN
 ·refine af [2] ?_;refine aK [] ?_;exact NU
 refine af [2] ?_;refine aK [] ?_;refine⟨vi ?_,rfl⟩;first|exact hf.symm|(rw[hf,hx,RD aa xS (by first|assumption|decide)];done)|(rw[hf,dN,if_pos (by simpa using qk)];done)|(rw[hf,dN,if_neg (by simpa using qk)];done)

end Go.Proofs.YtbplamgacibdaaaGreatDoor.Nm
namespace Go.Proofs
open Go.Shelf
def Tryz.aaB:Go.Shelf.Ren:=⟨fun|106=>148|213=>167|265=>179|n=>n,fun|9=>9|3=>3|n=>n,fun|n=>n⟩
theorem Tryz.aff:Go.Proofs.Lays.n106 Tryz.prog Tryz.aaB:={
 mixed:=by kernel_rfl
 f106:=Tryz.func148.trans (congrArg some (by kernel_rfl))
 f213:=Tryz.func167.trans (congrArg some (by kernel_rfl))
 f265:=Tryz.func179.trans (congrArg some (by kernel_rfl))
 t3:=Tryz.underlying3
 a3:=Tryz.isAgg3
 z3:=Tryz.sizeOf3
 v3:=Tryz.zeroValue3
 t9:=Tryz.underlying9
 a9:=Tryz.isAgg9
 z9:=Tryz.sizeOf9
 v9:=Tryz.zeroValue9}
open Go.RowKit in
theorem Tryz.strings_Compare(a b:ByteArray)(w:World) :
  Calls Tryz.prog 148 #[.string a,.string b] w fun e w'=>e = .returned (.int .i64 (Lib.compareBytes a.data.toList b.data.toList))/\w'=w:=Any.strings_Compare Tryz.aff a b w
def Tryz.PY:Go.Shelf.Ren:=⟨fun|155=>118|154=>142|138=>155|165=>156|143=>157|166=>158|197=>159|169=>160|195=>172|218=>173|240=>174|241=>175|219=>176|260=>177|276=>180|277=>181|217=>182|225=>183|224=>184|267=>185|266=>186|314=>187|n=>n,fun|9=>9|3=>3|4=>4|72=>229|0=>0|76=>233|105=>235|21=>21|5=>5|70=>227|20=>20|37=>86|75=>232|127=>249|164=>250|46=>210|119=>253|139=>256|138=>255|146=>258|51=>257|80=>237|n=>n,fun|1=>2|3=>4|4=>5|n=>n⟩
theorem Tryz.afg:Go.Proofs.Lays.n155 Tryz.prog Tryz.PY:={
 mixed:=by kernel_rfl
 f138:=Tryz.func155.trans (congrArg some (by kernel_rfl))
 f143:=Tryz.func157.trans (congrArg some (by kernel_rfl))
 f154:=Tryz.func142.trans (congrArg some (by kernel_rfl))
 f155:=Tryz.func118.trans (congrArg some (by kernel_rfl))
 f165:=Tryz.func156.trans (congrArg some (by kernel_rfl))
 f166:=Tryz.func158.trans (congrArg some (by kernel_rfl))
 f169:=Tryz.func160.trans (congrArg some (by kernel_rfl))
 f195:=Tryz.func172.trans (congrArg some (by kernel_rfl))
 f197:=Tryz.func159.trans (congrArg some (by kernel_rfl))
 f217:=Tryz.func182.trans (congrArg some (by kernel_rfl))
 f218:=Tryz.func173.trans (congrArg some (by kernel_rfl))
 f219:=Tryz.func176.trans (congrArg some (by kernel_rfl))
 f224:=Tryz.func184.trans (congrArg some (by kernel_rfl))
 f225:=Tryz.func183.trans (congrArg some (by kernel_rfl))
 f240:=Tryz.func174.trans (congrArg some (by kernel_rfl))
 f241:=Tryz.func175.trans (congrArg some (by kernel_rfl))
 f260:=Tryz.func177.trans (congrArg some (by kernel_rfl))
 f266:=Tryz.func186.trans (congrArg some (by kernel_rfl))
 f267:=Tryz.func185.trans (congrArg some (by kernel_rfl))
 f276:=Tryz.func180.trans (congrArg some (by kernel_rfl))
 f277:=Tryz.func181.trans (congrArg some (by kernel_rfl))
 f314:=Tryz.func187.trans (congrArg some (by kernel_rfl))
 t0:=Tryz.underlying0
 a0:=Tryz.isAgg0
 z0:=Tryz.sizeOf0
 v0:=Tryz.zeroValue0
 t3:=Tryz.underlying3
 a3:=Tryz.isAgg3
 z3:=Tryz.sizeOf3
 v3:=Tryz.zeroValue3
 t4:=Tryz.underlying4
 a4:=Tryz.isAgg4
 z4:=Tryz.sizeOf4
 v4:=Tryz.zeroValue4
 t5:=Tryz.underlying5
 a5:=Tryz.isAgg5
 z5:=Tryz.sizeOf5
 v5:=Tryz.zeroValue5
 t9:=Tryz.underlying9
 a9:=Tryz.isAgg9
 z9:=Tryz.sizeOf9
 v9:=Tryz.zeroValue9
 t20:=Tryz.underlying20
 a20:=Tryz.isAgg20
 z20:=Tryz.sizeOf20
 v20:=Tryz.zeroValue20
 t21:=Tryz.underlying21
 a21:=Tryz.isAgg21
 z21:=Tryz.sizeOf21
 v21:=Tryz.zeroValue21
 t37:=Tryz.underlying86
 a37:=Tryz.isAgg86
 z37:=Tryz.sizeOf86
 v37:=Tryz.zeroValue86
 t46:=Tryz.underlying210
 a46:=Tryz.isAgg210
 z46:=Tryz.sizeOf210
 v46:=Tryz.zeroValue210
 t51:=Tryz.underlying257
 a51:=Tryz.isAgg257
 z51:=Tryz.sizeOf257
 v51:=Tryz.zeroValue257
 t70:=Tryz.underlying227
 a70:=Tryz.isAgg227
 z70:=Tryz.sizeOf227
 v70:=Tryz.zeroValue227
 t72:=Tryz.underlying229
 a72:=Tryz.isAgg229
 z72:=Tryz.sizeOf229
 v72:=Tryz.zeroValue229
 t75:=Tryz.underlying232
 a75:=Tryz.isAgg232
 z75:=Tryz.sizeOf232
 v75:=Tryz.zeroValue232
 t76:=Tryz.underlying233
 a76:=Tryz.isAgg233
 z76:=Tryz.sizeOf233
 v76:=Tryz.zeroValue233
 t105:=Tryz.underlying235
 a105:=Tryz.isAgg235
 z105:=Tryz.sizeOf235
 v105:=Tryz.zeroValue235
 t119:=Tryz.underlying253
 a119:=Tryz.isAgg253
 z119:=Tryz.sizeOf253
 t127:=Tryz.underlying249
 a127:=Tryz.isAgg249
 z127:=Tryz.sizeOf249
 v127:=Tryz.zeroValue249
 t138:=Tryz.underlying255
 a138:=Tryz.isAgg255
 z138:=Tryz.sizeOf255
 v138:=Tryz.zeroValue255
 t139:=Tryz.underlying256
 a139:=Tryz.isAgg256
 z139:=Tryz.sizeOf256
 v139:=Tryz.zeroValue256
 t146:=Tryz.underlying258
 a146:=Tryz.isAgg258
 z146:=Tryz.sizeOf258
 v146:=Tryz.zeroValue258
 t164:=Tryz.underlying250
 a164:=Tryz.isAgg250
 z164:=Tryz.sizeOf250
 v164:=Tryz.zeroValue250
 g1:=by kernel_rfl
 g3:=by kernel_rfl
 g4:=by kernel_rfl}
theorem Tryz.ZV:Builder.Extra Tryz.prog Tryz.PY:={
 sizeBuilder:=by kernel_rfl
 liesBuilder:=by kernel_rfl
 t5:=Tryz.underlying5
 a5:=Tryz.isAgg5
 z5:=Tryz.sizeOf5
 v5:=Tryz.zeroValue5
 infoByte:=by kernel_rfl
 cellsByte:=by kernel_rfl
 sizeByte:=by kernel_rfl
 neB5:=by decide}
open Go.RowKit Go.Lib in
theorem Tryz.strings_ReplaceAll(s old new:ByteArray)(m:Int)(w:World)(hs:s.size<4294967281)(hm:w.cell? ⟨2,0,none⟩=some (.int .i64 m))(h1:1<=old.size)(hlen:s.size+Lib.countB s old*new.size<=140737488355328) :
  Calls Tryz.prog 118 #[.string s,.string old,.string new] w fun e w' =>
   e = .returned (.string ⟨(Lib.replaceAll s.data.toList old.data.toList new.data.toList).toArray⟩)/\Below w.heap.size w w':=Any.strings_ReplaceAll Tryz.afg Tryz.ZV s old new m w hs hm h1 hlen

end Go.Proofs
namespace Go.Proofs.YtbplamgacibdaaaGreatDoor.Cd
open List
open Go.Proofs.Tryz
open Go.RowKit V Pk Vl
variable {v:Vl}
theorem R4(c:UInt8)(new:List UInt8):∀s:List UInt8,Lib.replaceK [c] new (s.count c) s=s.flatMap fun b=>if b=c then new else [b]
 | []=>rfl
 | b::l=>by
  have ih:=R4 c new l;by_cases h:b=c
  ·subst h;have hi:Lib.index (b::l) [b]=((0:Nat):Int):=(by rw[Lib.index_one];simp[Lib.indexByte])
   rw[count_cons_self,Lib.replaceK_hit _ _ _ _ _ hi,flatMap_cons,if_pos rfl,<-ih];simp
  have hc:(b::l).count c=l.count c:=count_cons_of_ne h;rw[hc,flatMap_cons,if_neg h,<-ih];cases hk:l.count c with
  | zero=>rfl
  | succ k =>
   obtain⟨i,hi⟩:=Lib.index_of_count (s:=l) (old:=[c]) (by rw[Lib.count_one];omega);have E:Lib.index (b::l) [c]=((i+1:Nat):Int):=by
    rw[Lib.index_one] at hi |-;unfold Lib.indexByte;rw[if_neg oV,hi,if_neg (by rw[beq_iff_eq];omega)];omega
   rw[Lib.replaceK_hit _ _ _ _ _ E,Lib.replaceK_hit _ _ _ _ _ hi];simp
def uo(c:UInt8)(new:List UInt8)(s:ByteArray):ByteArray:=⟨(s.data.toList.flatMap fun b=>if b=c then new else [b]).toArray⟩
theorem aaC(c:UInt8)(new s:List UInt8):Lib.replaceAll s [c] new=s.flatMap fun b=>if b=c then new else [b]:=by
 unfold Lib.replaceAll Lib.replace Lib.replaceNum;split
 ·rename_i h;have h':[c]=new:=(by simpa using h)
  subst h';induction s with
  | nil=>rfl
  | cons b l ih =>
   rw[flatMap_cons,<-ih];have:(if b=c then [c] else [b])=[b]:=by
    split
    ·rename_i e;rw[e]
    rfl
   rw[this];rfl
 rw[if_pos (.inl w8),Lib.count_one,R4]
variable {G:List (Nat×List Value)} {m:Int}
theorem afh(hG:(2,[Value.int .i64 m])∈G)(c:UInt8)(new:ByteArray)(s:ByteArray)(hs:s.size<=1000000)(hn:new.size<=1000):VP Tryz.prog G 118 [bg s,bg ⟨#[c]⟩,bg new] (bg (uo c new.data.toList s)):=by
 have hc:Lib.countB s ⟨#[c]⟩<=1000000:=by
  show Lib.count s.data.toList [c]<=1000000;rw[Lib.count_one];exact Nat.le_trans count_le_length (by rw[lF];exact hs)
 have I:Lib.countB s ⟨#[c]⟩*new.size<=1000000*1000:=Nat.mul_le_mul hc hn;have key:=VP.T1 (P:=Tryz.prog) (G:=G) (f:=118) (vs:=[.string s,.string ⟨#[c]⟩,.string new]) (v:=.string (uo c new.data.toList s)) fun w E=>by
  refine(Tryz.strings_ReplaceAll s ⟨#[c]⟩ new m w w4 (E _ hG 0 _ rfl) (Nat.le_refl _) w4).mono fun e w' ⟨h1,h2⟩=>⟨?_,h2⟩
  rw[h1];congr 2;show(⟨(Lib.replaceAll s.data.toList [c] new.data.toList).toArray⟩:ByteArray)=_;rw[aaC];rfl
 exact key
def kb(v:Vl):UInt8:=UInt8.ofNat v.k.toNat
def nb(v:Vl):UInt8:=UInt8.ofNat v.n.toNat
def uN(v:Vl):Nat:=(v.n+9223372036854775808).toNat
def Ao(u k:Nat):UInt8:=UInt8.ofNat (u/256 ^ (7-k))
def ni(u:Nat):List UInt8:=(range 8).map (Ao u)
def uz(s:List UInt8):List UInt8:=s.flatMap fun b=>if b=0 then [0,255] else [b]
def sQ(v:Vl):List UInt8:=if v.k=1 then [nb v] else if v.k=2 then ni (uN v) else if v.k=3 then uz v.s.data.toList++[0,0] else []
def vE(v:Vl):List UInt8:=kb v::sQ v
def fW(l:List Vl):List UInt8:=l.flatMap vE
def sV:List Vl->Int
 | []=>0
 | v::r=>if de v=0 then sV r else de v
def gg(l:List Vl):List UInt8×Int:=if l.length>6 then ([],1) else if sV l≠0 then ([],sV l) else if (fW l).length>100 then ([],5) else (fW l,0)
def B6(b:List UInt8):D:=ap 1 cB b
def My(r:List UInt8×Int):D:=.da [B6 r.1,ae r.2]
theorem T6:∀{l:List Vl} {i:Nat} (hi:i<l.length),(∀v∈l.take i,de v=0)->de l[i]≠0->sV l=de l[i]
 | v::r,0,hi,_,h=>by
  have h':de v≠0:=h;show sV (v::r)=de v;rw[sV,if_neg h']
 | v::r,i+1,hi,h0,h=>by
  rw[sV,if_pos (h0 v bq)];exact T6 (l:=r) (i:=i) (by simpa using hi) (fun x hx=>h0 x (by rw[take_succ_cons];exact mem_cons_of_mem _ hx)) h
theorem FD:∀{l:List Vl},(∀v∈l,de v=0)->sV l=0
 | [],_=>rfl
 | v::r,h=>by rw[sV,if_pos (h v mem_cons_self)];exact FD fun x hx=>h x (mem_cons_of_mem _ hx)
theorem Qe(h:de v=0):0<=v.k/\v.k<=3:=by
 unfold de at h;split at h
 ·omega
 split at h
 ·omega
 split at h
 ·omega
 split at h
 ·omega
 cases h
theorem Qf(h:de v=0)(hk:v.k=1):0<=v.n/\v.n<=1:=by
 unfold de at h;rw[if_neg w4,if_pos hk] at h;split at h
 ·cases h
 omega
theorem Qg(h:de v=0)(hk:v.k=3):v.s.size<=20:=by
 unfold de at h;rw[if_neg w4,if_neg w4,if_neg w4,if_pos hk] at h;split at h
 ·cases h
 split at h
 ·cases h
 omega
theorem agX(h:de v=0):((kb v).toNat:Int)=v.k:=by
 have:=Qe h;unfold kb;rw[UInt8.toNat_ofNat'];omega
theorem agY(h:de v=0)(hk:v.k=1):((nb v).toNat:Int)=v.n:=by
 have:=Qf h hk;unfold nb;rw[UInt8.toNat_ofNat'];omega
theorem afi(h:de v=0):IntKind.u8.wrap v.k=((kb v).toNat:Int):=by
 have:=Qe h;rw[agX h];show v.k % 256=_;omega
theorem afj(h:de v=0)(hk:v.k=1):IntKind.u8.wrap v.n=((nb v).toNat:Int):=by
 have:=Qf h hk;rw[agY h hk];show v.n % 256=_;omega
theorem agZ(h:v.Ok):((uN v:Nat):Int)=v.n+9223372036854775808:=by have:=h.n1;unfold uN;omega
theorem ag0{u k:Nat}(hk:k<=7):(u:Int).fdiv (2 ^ min ((56:Int)-8*(k:Int)).toNat IntKind.u64.bits)=((u/256 ^ (7-k):Nat):Int):=by
 have e1:min ((56:Int)-8*(k:Int)).toNat IntKind.u64.bits=8*(7-k):=by
  show min _ 64=_;omega
 have E:(2 ^ (8*(7-k)):Nat)=256 ^ (7-k):=(by rw[Nat.pow_mul])
 have e2:((2:Int) ^ (8*(7-k)))=((256 ^ (7-k):Nat):Int):=by
  rw[<-E,Int.natCast_pow];rfl
 rw[e1,e2];exact(Int.ofNat_fdiv _ _).symm
theorem afk(x:Nat):IntKind.u8.wrap (x:Int)=((UInt8.ofNat x).toNat:Int):=by
 rw[UInt8.toNat_ofNat'];show(x:Int) % 256=_;omega
theorem Kn{u k:Nat}(hk:k<=7):(ni u).take k++[Ao u k]=(ni u).take (k+1):=by
 have hl:k<(ni u).length:=(by simp[ni];omega)
 rw[take_succ_eq_append_getElem hl];congr 2;simp[ni]
theorem FV(u:Nat):(ni u).length=8:=by simp[ni]
theorem T7(s:List UInt8):(uz s).length<=2*s.length:=by
 induction s with
 | nil=>simp[uz]
 | cons b l ih =>
  unfold uz at ih |-;rw[flatMap_cons,length_append,length_cons];split<;>simp only[length_cons,length_nil]<;>omega
theorem FG(h:de v=0):(vE v).length<=43:=by
 unfold vE sQ;rw[length_cons];split
 ·simp
 split
 ·rw[FV];omega
 split
 ·rename_i hk;have h1:=Qg h hk;have h2:=T7 v.s.data.toList;rw[lF] at h2;rw[length_append];simp;omega
 simp
theorem Fk:∀{l:List Vl},(∀v∈l,de v=0)->(fW l).length<=43*l.length
 | [],_=>Nat.le_refl _
 | v::r,h=>by
  have h1:=FG (h v mem_cons_self);have h2:=Fk (l:=r) fun x hx=>h x (mem_cons_of_mem _ hx);unfold fW at h2 |-;rw[flatMap_cons,length_append,length_cons];omega
theorem Qw{l:List Vl}{i:Nat}(hi:i<l.length):fW (l.take i)++vE l[i]=fW (l.take (i+1)):=by
 unfold fW;rw[take_succ_eq_append_getElem hi,flatMap_append];simp
theorem VQ(h:v.k=1):sQ v=[nb v]:=if_pos h
theorem VR(h:v.k=2):sQ v=ni (uN v):=by unfold sQ;rw[if_neg w4,if_pos h]
theorem VS(h:v.k=3):sQ v=uz v.s.data.toList++[0,0]:=by unfold sQ;rw[if_neg w4,if_neg w4,if_pos h]
theorem VT(h1:¬v.k=1)(h2:¬v.k=2)(h3:¬v.k=3):sQ v=[]:=by unfold sQ;rw[if_neg h1,if_neg h2,if_neg h3]
theorem Bu(s:ByteArray):(uo 0 [0,255] s).data.toList=uz s.data.toList:=rfl
def Mz(p:List UInt8×Int)(r:D)(S:List ah):Prop:=∃ad cap,r = .da [aT ad p.1.length cap,ae p.2]/\bn 5 1 (p.1.flatMap cB) p.1.length ad cap S
theorem Mz.view{p:List UInt8×Int}{r:D}{S:List ah}(h:Mz p r S):View S r (My p):=by
 obtain⟨ad,cap,rfl,ho⟩:=h;exact Fg ⟨lU ho (cm pX _) (fun B h=>h),ff,trivial⟩
theorem Bo:(Tryz.prog.info? 5).map (fun i=>(i.zero,i.size,i.bytes))=some (some (.int .u8 0),1,1):=by kernel_rfl
theorem Vm(hG:(2,[Value.int .i64 m])∈G)(l:List Vl)(hl:l.length<=maxLen)(aW:∀v∈l,v.Ok):VC Tryz.prog G 75 [ap 3 cV l] [] (Mz (gg l)):=by
 refine VC.body func75 rfl ntmps75 aU fun X0 w0 bj=>?_;refine af [0] ?_;refine af [0,12] ?_;refine au ?_ ?_<;>intro aJ bz
 ·have aV:gg l=([],1):=if_pos w4;exact z105
 have h6:l.length<=6:=(by omega)
 refine bS ?_;refine bu [0,4] ?_;refine af [4,13,14,15] ?_;refine CD.block ?_;refine nu (fun (aO:Nat×Option Addr×Nat×List ah) aE=>match aO with|(i,E,I,Sb)=>(i<=l.length)/\(∀v∈l.take i,de v=0)/\(bn 5 1 ((fW (l.take i)).flatMap cB) (fW (l.take i)).length E I Sb)/\aE=(⟨72,[(4,aT E (fW (l.take i)).length I),(13,ap 3 cV l),(14,ae l.length),(15,ae (i:Nat))],(Sb)⟩:St)) (fun (aO:Nat×Option Addr×Nat×List ah)=>match aO with|(i,E,I,Sb)=>l.length-i) (0,none,0,[]) ⟨(Nat.zero_le _),bq,(bn.cast iR (by rfl)),rfl⟩ (aI (h:=by repeat (first|exact trivial|refine⟨w6,?_⟩))) ?_;rintro⟨i,E,I,Sb⟩ _ ⟨hi,h0,tI,rfl⟩;refine af [4,13,14,15,16] ?_;refine au ?_ ?_<;>intro aX cr
 ·have aa:i<l.length:=(by omega)
  have Ob:=Fk h0;rw[length_take] at Ob;have cR:=dI;have fY:=aW _ (getElem_mem aa);refine aB 2 ?_;refine OD.alloc (ds:=[_,_,_]) aq rfl rfl zeroValue56 rfl (fun b6=>?_);refine aP 0 [_,_,_] sizeOf56 ?_;refine an 72 [4,6,13,14,15] ?_;refine cL [4,6,7,13,14,15] (Vl.pS l[i]) ?_;refine af [4,6,7,13,14,15,22] ?_;refine au ?_ ?_<;>intro bL cJ
  ·have hne:de l[i]≠0:=(by simpa using bL)
   have aV:gg l=([],de l[i]):=(by unfold gg;rw[if_neg w4,T6 aa h0 hne,if_pos hne])
   exact z105
  have O:de l[i]=0:=(by simpa using bL)
  refine aB 3 ?_;refine bN (sg (r:=.int .u8 ((kb l[i]).toNat:Int)) rfl ot (su runUnderlying3 runUnderlying5 (afi O))) ?_;refine ey (cu 0 [_]) [.int .u8 0] [_] zeroValue5 runUnderlying86 sizeOf5 (fun OA=>?_);refine fD 0 28 1 1 ?_;refine OD.eG (ls:=(fW (l.take i))) (new:=[kb l[i]]) (Sq:=Sb) pX xx aq rfl rfl underlying86 Bo rfl w8 ot tI (cZ (A:=[_])) ot bq Ay Ay (fun Z U GM GN=>?_);refine OD.perm (dU (S1:=[⟨Z,5,U*1,flatMap cB ((fW (l.take i))++[kb l[i]])⟩]) (A:=[_])) ?_;refine an 72 [4,6,13,14,15] ?_;refine af [4,6,13,14,15,31] ?_;refine af [4,6,13,14,15,31,32] ?_;refine au ?_ ?_<;>intro cN en
  ·have cM:l[i].k=1:=(by simpa using cN)
   refine dw 3 ?_;refine bN (sg (r:=.int .u8 ((nb l[i]).toNat:Int)) rfl ot (su runUnderlying3 runUnderlying5 (afj O cM))) ?_;refine ey (cu 0 [_]) [.int .u8 0] [_] zeroValue5 runUnderlying86 sizeOf5 (fun OB=>?_);refine fD 0 38 1 1 ?_;refine OD.eG (ls:=((fW (l.take i))++[kb l[i]])) (new:=[nb l[i]]) (Sq:=[⟨Z,5,U*1,flatMap cB ((fW (l.take i))++[kb l[i]])⟩]) pX xx aq rfl rfl underlying86 Bo rfl w8 ot (bJ GM GN) (cZ (A:=[_])) ot bq Ay Ay (fun Dn MA ajY ajZ=>?_);refine OD.perm (dU (S1:=[⟨Dn,5,MA*1,flatMap cB (((fW (l.take i))++[kb l[i]])++[nb l[i]])⟩]) (A:=[_])) ?_;refine an 72 [4,13,14,15] ?_;refine bM [4,13,14,15] ?_;refine⟨((i+1),(some ⟨Dn,0,none⟩),MA,[⟨Dn,5,MA*1,flatMap cB (((fW (l.take i))++[kb l[i]])++[nb l[i]])⟩]),_,cn,(aI (h:=by repeat (first|exact trivial|refine⟨w6,?_⟩))),w4,(zh aa h0 O),(bn.cast (bJ ajY ajZ) G6),rfl⟩
  have cM:¬l[i].k=1:=(by simpa using cN)
  refine af [4,6,13,14,15,31,40] ?_;refine au ?_ ?_<;>intro dW fB
  ·have eD:l[i].k=2:=(by simpa using dW)
   refine cz [4,8,13,14,15] ?_;refine aR 3 ?_ (h:=by exact(dR (r:=.int .u64 ((uN l[i]:Nat):Int)) rfl ot bV (ae5 (by rw[agZ fY];exact ae7 fY.n1 fY.n2))));refine bA ?_;refine af [4,8,9,13,14,15] ?_;refine CD.block ?_;refine nu (fun (aO:Nat×Option Addr×Nat×List ah) aE=>match aO with|(k,E,I,Sb)=>(k<=8)/\(bn 5 1 (((fW (l.take i)++[kb l[i]])++(ni (uN l[i])).take k).flatMap cB) ((fW (l.take i)++[kb l[i]])++(ni (uN l[i])).take k).length E I Sb)/\aE=(⟨72,[(4,aT E ((fW (l.take i)++[kb l[i]])++(ni (uN l[i])).take k).length I),(8,.v (.int .u64 ((uN l[i]:Nat):Int))),(9,ae (56-8*(k:Int))),(13,ap 3 cV l),(14,ae l.length),(15,ae (i:Nat))],(Sb)⟩:St)) (fun (aO:Nat×Option Addr×Nat×List ah)=>match aO with|(k,E,I,Sb)=>8-k) (0,(some ⟨Z,0,none⟩),U,[⟨Z,5,U*1,flatMap cB ((fW (l.take i))++[kb l[i]])⟩]) ⟨w8,(bn.cast (bJ GM GN) bq),rfl⟩ (aI (h:=by repeat (first|exact trivial|refine⟨(by (repeat (first|exact fK|(apply gb;focus (first|rfl|(congr 2;omega)|(simp;done)|(apply eP;rw[<-Kn w4];simp)|(apply eP;simp)|(apply eP;simp;done)))|(apply fO;focus rfl)));done),?_⟩))) ?_;rintro⟨k,E,I,Sb⟩ _ ⟨HX,tI,rfl⟩;refine af [4,8,9,13,14,15,47] ?_;refine au ?_ ?_<;>intro fF gM
   ·have hk7:k<=7:=(by omega)
    refine dw 3 ?_;refine bN (dR (r:=.int .u64 ((uN l[i]/256 ^ (7-k):Nat):Int)) rfl ot ot (TA w4 (ag0 hk7))) ?_;refine bN (sg (r:=.int .u8 ((Ao (uN l[i]) k).toNat:Int)) rfl ot (su runUnderlying189 runUnderlying5 (afk _))) ?_;refine ey (cu 0 [_]) [.int .u8 0] [_] zeroValue5 runUnderlying86 sizeOf5 (fun b55=>?_);refine fD 0 55 1 1 ?_;refine OD.eG (ls:=((fW (l.take i)++[kb l[i]])++(ni (uN l[i])).take k)) (new:=[Ao (uN l[i]) k]) (Sq:=Sb) pX xx aq rfl rfl underlying86 Bo rfl w8 ot tI (cZ (A:=[])) ot bq Ay Ay (fun kY MB aj0 aj1=>?_);refine OD.perm (dU (S1:=[⟨kY,5,MB*1,flatMap cB (((fW (l.take i)++[kb l[i]])++(ni (uN l[i])).take k)++[Ao (uN l[i]) k])⟩]) (A:=[])) ?_;refine an 72 [4,8,9,13,14,15] ?_;refine bM [4,8,9,13,14,15] ?_;refine⟨((k+1),(some ⟨kY,0,none⟩),MB,[⟨kY,5,MB*1,flatMap cB (((fW (l.take i)++[kb l[i]])++(ni (uN l[i])).take k)++[Ao (uN l[i]) k])⟩]),_,cn,(aI (h:=by repeat (first|exact trivial|refine⟨(by (repeat (first|exact fK|(apply gb;focus (first|rfl|(congr 2;omega)|(simp;done)|(apply eP;rw[<-Kn w4];simp)|(apply eP;simp)|(apply eP;simp;done)))|(apply fO;focus rfl)));done),?_⟩))),w4,(bn.cast (bJ aj0 aj1) (by rw[<-Kn w4];simp)),rfl⟩
   have aqH:k=8:=(by omega)
   have aqI:8<=k:=(by omega)
   refine bM [4,13,14,15] ?_;refine⟨((i+1),E,I,Sb),_,cn,(aI (h:=by repeat (first|exact trivial|refine⟨w6,?_⟩))),w4,(zh aa h0 O),(bn.cast tI G6),rfl⟩
  have eD:¬l[i].k=2:=(by simpa using dW)
  refine af [4,6,13,14,15,57] ?_;refine au ?_ ?_<;>intro iw oS
  ·have lA:l[i].k=3:=(by simpa using iw)
   have Nh:=Qg O lA;have DM:=T7 l[i].s.data.toList;rw[lF] at DM;have Zg:(uo 0 [0,255] l[i].s).size=(uz l[i].s.data.toList).length:=(by rw[<-lF,Bu])
   refine aB 3 ?_;refine ez call118 (afh hG 0 ⟨#[0,255]⟩ l[i].s w4 w8) ?_;refine OD.aaU (ls:=((fW (l.take i))++[kb l[i]])) (Sq:=[⟨Z,5,U*1,flatMap cB ((fW (l.take i))++[kb l[i]])⟩]) aq rfl rfl underlying86 underlying9 Bo ot (bJ GM GN) (cZ (A:=[_])) ot (by rw[show(uo 0 (⟨#[0,255]⟩:ByteArray).data.toList l[i].s).size=(uz l[i].s.data.toList).length from Zg];simp only[length_append,length_cons,length_nil];omega) (by rw[show(uo 0 (⟨#[0,255]⟩:ByteArray).data.toList l[i].s).size=(uz l[i].s.data.toList).length from Zg];simp only[length_append,length_cons,length_nil];omega) (fun W9 x4 DP CO=>?_);refine OD.perm (dU (A:=[_])) ?_;refine an 72 [4,13,14,15] ?_;refine dw 1 ?_;refine ey (cu 0 [_,_]) [.int .u8 0,.int .u8 0] [_,_] zeroValue5 runUnderlying86 sizeOf5 (fun b65=>?_);refine fD 0 65 1 2 ?_;refine OD.eG (ls:=(((fW (l.take i))++[kb l[i]])++(uo 0 [0,255] l[i].s).data.toList)) (new:=[(0:UInt8),0]) (Sq:=DP) pX xx aq rfl rfl underlying86 Bo rfl w8 ot CO (cZ (A:=[_])) ot bq (by rw[Bu];simp only[length_append,length_cons,length_nil];omega) (by rw[Bu];simp only[length_append,length_cons,length_nil];omega) (fun pL Ap Aq Ar=>?_);refine OD.perm (dU (S1:=[⟨pL,5,Ap*1,flatMap cB ((((fW (l.take i))++[kb l[i]])++(uo 0 [0,255] l[i].s).data.toList)++[(0:UInt8),0])⟩]) (A:=[_])) ?_
   refine an 72 [4,13,14,15] ?_;refine bM [4,13,14,15] ?_;refine⟨((i+1),(some ⟨pL,0,none⟩),Ap,[⟨pL,5,Ap*1,flatMap cB ((((fW (l.take i))++[kb l[i]])++(uo 0 [0,255] l[i].s).data.toList)++[(0:UInt8),0])⟩]),_,cn,(aI (h:=by repeat (first|exact trivial|refine⟨w6,?_⟩))),w4,(zh aa h0 O),(bn.cast (bJ Aq Ar) G6),rfl⟩
  have lA:¬l[i].k=3:=(by simpa using iw)
  refine bM [4,13,14,15] ?_;refine⟨((i+1),(some ⟨Z,0,none⟩),U,[⟨Z,5,U*1,flatMap cB ((fW (l.take i))++[kb l[i]])⟩]),_,cn,(aI (h:=by repeat (first|exact trivial|refine⟨w6,?_⟩))),w4,(zh aa h0 O),(bn.cast (bJ GM GN) G6),rfl⟩
 have ek:∀v∈l,de v=0:=(by rw[take_of_length_le w4] at h0;exact h0)
 have hle:=Fk ek;have OC:fW (l.take i)=fW l:=(by rw[take_of_length_le w4])
 refine af [4,70] ?_;refine au ?_ ?_<;>intro iy mF
 ·have aV:gg l=([],5):=(by unfold gg;rw[if_neg w4,FD ek,if_neg bq,if_pos (by rw[OC] at iy;simp at iy;omega)])
  exact z105
 have aV:gg l=(fW l,0):=(by unfold gg;rw[if_neg w4,FD ek,if_neg bq,if_neg (by rw[OC] at iy;simp at iy;omega)])
 refine af [2,3] ?_;refine aK Sb ?_;rw[aV,<-OC];exact⟨E,I,rfl,tI⟩
theorem ag1(hG:(2,[Value.int .i64 m])∈G)(l:List Vl)(hl:l.length<=maxLen)(aW:∀v∈l,v.Ok):VP Tryz.prog G 75 [ap 3 cV l] (My (gg l)):=(Vm hG l hl aW).cover fun r S hr=>hr.view

end Go.Proofs.YtbplamgacibdaaaGreatDoor.Cd
namespace Go.Proofs.YtbplamgacibdaaaGreatDoor.Cd









open List
open Go.Proofs.Tryz
open Go.RowKit V Pk Vl
open Go.Lib (compareBytes)
variable {l:List Int}
theorem B4{a b:UInt8}:a<b↔a.toNat<b.toNat:=UInt8.lt_iff_toNat_lt
theorem T8(a b:UInt8)(x y:List UInt8):compareBytes (a::x) (b::y)=if a<b then -1 else if b<a then 1 else compareBytes x y:=by rw[compareBytes]
theorem T9:∀(x y:List UInt8),compareBytes y x = - compareBytes x y
 | [],[]=>rfl
 | [],_::_=>rfl
 | _::_,[]=>rfl
 | a::x,b::y=>by
  have ih:=T9 x y;rw[T8,T8];rcases Nat.lt_trichotomy a.toNat b.toNat with h|h|h
  ·rw[if_neg Aa,if_pos (B4.2 h),if_pos (B4.2 h)];rfl
  ·rw[if_neg Aa,if_neg Aa,if_neg Aa,if_neg Aa,ih]
  rw[if_pos (B4.2 h),if_neg Aa,if_pos (B4.2 h)]
def p9(x y:Int):Int:=if x<y then -1 else if x>y then 1 else 0
def ic:List Int->Int
 | []=>0
 | a::l=>if a≠0 then a else ic l
def cmpL(a b:Vl):List Int:=[p9 a.k b.k,p9 a.n b.n,compareBytes a.s.data.toList b.s.data.toList]
def jl(a b:Vl):Int:=ic (cmpL a b)
theorem y5(x y:Int):p9 x y = -1/\x<y\/p9 x y=0/\x=y\/p9 x y=1/\y<x:=by unfold p9;split;omega;split<;>omega
theorem QL(x y:Int):p9 y x = - p9 x y:=by
 rcases y5 x y with h|h|h<;>rcases y5 y x with k|k|k<;>omega
theorem EX(a b:Vl):jl b a = - jl a b:=by
 unfold jl cmpL ic ic ic ic;rw[QL a.k b.k,QL a.n b.n,T9 a.s.data.toList b.s.data.toList];repeat' split
 all_goals omega

variable {G:List (Nat×List Value)} {m:Int}
def cI(n:Int):List D:=[ae n]
theorem adL:∀{i:Nat} (hi:i<l.length),(∀x∈l.take i,x=0)->ic l=ic (l.drop i):=by
 induction l with
 | nil=>intro i hi;simp at hi
 | cons a l ih =>
  intro i hi h;cases i with
  | zero=>rfl
  | succ i =>
   have ha:a=0:=h a bq;show(if a≠0 then a else ic l)=ic (l.drop i);rw[if_neg (by simp[ha])];exact ih (by simpa using hi) (fun x hx=>h x (by simp[hx]))
theorem afl{i:Nat}(hi:i<l.length)(h:∀x∈l.take i,x=0)(h1:l[i]≠0):ic l=l[i]:=by
 rw[adL hi h,drop_eq_getElem_cons hi];exact if_pos h1
theorem R5:∀{l:List Int},(∀x∈l,x=0)->ic l=0
 | [],_=>rfl
 | a::l,h=>by
  show(if a≠0 then a else ic l)=0;rw[if_neg (by simp[h a bq]),R5 fun x hx=>h x (by simp[hx])]
theorem take_zero{i:Nat}(hi:i<l.length)(h:∀x∈l.take i,x=0)(h1:l[i]=0):∀x∈l.take (i+1),x=0:=fun x hx=>by
 rw[take_succ_eq_append_getElem hi] at hx;rcases mem_append.1 hx with hx|hx
 ·exact h x hx
 simp only[mem_singleton] at hx;rw[hx];exact h1
theorem Vn(x:Int):VP Tryz.prog G 166 [ae x] (bP false):=by
 refine VC.body func166 rfl ntmps166 aU fun X0 w0 bj=>?_;refine af [0] ?_;refine af [2] ?_;refine aK [] ?_;first|exact⟨rfl,rfl⟩|(refine⟨vb ?_,rfl⟩;simp)
theorem Ua(x y:Int):VP Tryz.prog G 147 [ae x,ae y] (ae (p9 x y)):=by
 refine VC.body func147 rfl ntmps147 aU fun X0 w0 bj=>?_;refine af [0,1] ?_;refine cL [0,1,5] (Vn x) ?_;refine cL [0,1,5,6] (Vn y) ?_;refine af [0,1,6,11] ?_;refine au ?_ ?_<;>intro aJ bz
 ·refine af [12] ?_;refine au ?_ ?_<;>intro aX cr
  ·exact z46
  exact z46
 refine af [0,1,13] ?_;refine au ?_ ?_<;>intro bL cJ
 ·exact z46
 refine af [0,1,16] ?_;refine au ?_ ?_<;>intro cN en
 ·exact z46
 refine af [19] ?_;refine au ?_ ?_<;>intro dW fB
 ·exact z46
 refine af [4] ?_;refine aK [] ?_;first|exact⟨rfl,rfl⟩|(refine⟨vi ?_,rfl⟩;unfold p9;simp_all;done)|(refine⟨vi ?_,rfl⟩;unfold p9;split<;>(try split)<;>simp_all<;>omega)
theorem ag2(l:List Int)(hl:l.length<=100):VP Tryz.prog G 146 [ap 1 cI l] (ae (ic l)):=by
 refine VC.body func146 rfl ntmps146 aU fun X0 w0 bj=>?_;have cR:=dI;refine af [0] ?_;refine af [0,3] ?_;refine af [3,6,7,8] ?_;refine ew [3,6,7] (fun aS _ (i:Nat) aE=>(i<=l.length)/\(∀x∈l.take i,x=0)/\aE=(⟨18,(8,ae (i:Nat))::aS,[]⟩:St)) (fun (i:Nat)=>l.length-i) 0 ⟨(Nat.zero_le _),(fun x hx=>by simp at hx),rfl⟩ ?_;rintro i _ ⟨hi,hz,rfl⟩;refine af [3,6,7,8,9] ?_;refine au ?_ ?_<;>intro aJ bz
 ·have aa:i<l.length:=(by omega)
  refine af [3,5,6,7,8] ?_;refine af [3,5,6,7,8,14] ?_;refine au ?_ ?_<;>intro aX cr
  ·have aV:ic l=l[i]:=afl aa hz v8;refine af [2] ?_;exact pG
  refine bM [3,6,7,8] ?_;refine⟨(i+1),_,cn,aI,w4,(take_zero aa hz v8),rfl⟩
 have aV:ic l=0:=R5 (by rw[take_of_length_le w4] at hz;exact hz);refine af [2] ?_;exact uL
theorem afm(a b:ByteArray):VP Tryz.prog G 148 [bg a,bg b] (ae (compareBytes a.data.toList b.data.toList)) :=
 VP.T1 (P:=Tryz.prog) (G:=G) (f:=148) (vs:=[.string a,.string b]) (v:=.int .i64 (compareBytes a.data.toList b.data.toList)) fun w _ =>
  (Tryz.strings_Compare a b w).mono fun e w' ⟨h1,h2⟩=>⟨h1,h2 ▸ Below.refl _ _⟩
theorem Qh(a b:Vl)(ha:a.Ok)(hb:b.Ok):VP Tryz.prog G 130 [.agg (cV a),.agg (cV b)] (ae (jl a b)):=by
 refine VC.body func130 rfl ntmps130 aU fun X0 w0 bj=>?_;unfold cV;refine bS ?_;refine OD.box (ds:=[_,_,_]) aq rfl rfl ot rfl rfl (fun b2=>?_);refine OD.box (ds:=[_,_,_]) aq rfl rfl ot rfl rfl (fun b3=>?_);refine an 22 [2,3] ?_;refine cz [4] ?_;refine cf (Ua a.k b.k) ?_;refine cf (Ua a.n b.n) ?_;refine cf (afm a.s b.s) ?_;refine cf (ag2 (cmpL a b) (by show 3<=100;decide)) ?_;refine bA ?_;exact nP
def mZ(a b:Vl):Int:=if de a≠0 then de a else de b
def MC(a b:Vl):D:=.da [ae (if mZ a b≠0 then 0 else jl a b),ae (mZ a b)]
theorem Ub(a b:Vl):VP Tryz.prog G 129 [.agg (cV a),.agg (cV b)] (ae (mZ a b)):=by
 refine VC.body func129 rfl ntmps129 aU fun X0 w0 bj=>?_;unfold cV;refine bS ?_;refine OD.box (ds:=[_,_,_]) aq rfl rfl ot rfl rfl (fun b2=>?_);refine OD.box (ds:=[_,_,_]) aq rfl rfl ot rfl rfl (fun b3=>?_);refine an 13 [2,3] ?_;refine cL [3,5] (pS a) ?_;refine af [3,5,9] ?_;refine au ?_ ?_<;>intro aJ bz
 ·refine af [4] ?_;refine aK [] ?_;refine⟨vi ?_,rfl⟩;unfold mZ;simp_all
 refine cL [4] (pS b) ?_;refine aK [] ?_;refine⟨vi ?_,rfl⟩;unfold mZ;simp_all
theorem aa1(a b:Vl)(ha:a.Ok)(hb:b.Ok):VP Tryz.prog G 93 [.agg (cV a),.agg (cV b)] (MC a b):=by
 refine VC.body func93 rfl ntmps93 aU fun X0 w0 bj=>?_;unfold cV MC;refine bS ?_;refine OD.box (ds:=[_,_,_]) aq rfl rfl ot rfl rfl (fun b2=>?_);refine OD.box (ds:=[_,_,_]) aq rfl rfl ot rfl rfl (fun b3=>?_);refine an 16 [2,3] ?_;refine cL [2,3,6] (Ub a b) ?_;refine af [2,3,6,11] ?_;refine au ?_ ?_<;>intro aJ bz
 ·refine af [4,5] ?_;refine aK [] ?_;first|(simp_all;done)|(refine⟨?_,rfl⟩;simp_all;done)
 refine cL [4,5] (Qh a b ha hb) ?_;refine aK [] ?_;first|(simp_all;done)|(refine⟨?_,rfl⟩;simp_all;done)

end Go.Proofs.YtbplamgacibdaaaGreatDoor.Cd
namespace Go.Proofs.YtbplamgacibdaaaGreatDoor.Pc
open List
open Go.Proofs.Tryz
open Go.RowKit V Pk Vl Go.Proofs.YtbplamgacibdaaaGreatDoor.Nm
variable {i:Nat}
def typesC:List Value:=[.string ⟨#[]⟩,.string ⟨#[66,79,79,76]⟩,.string ⟨#[73,78,84]⟩,.string ⟨#[84,69,88,84]⟩]
structure cy where
 n:ByteArray
 k:Int
variable {l:List cy}
def cC(c:cy):List D:=[bg c.n,ae c.k]
theorem lV(c:cy):(cC c).length=2:=rfl
theorem ag3(c:cy):(cC c).all V.one=true:=rfl
def nM(pre:List cy)(c:cy):Int :=
 if cW c.n≠0 then cW c.n else if c.k<1\/c.k>3 then 2 else if (pre.any fun d=>d.n.toList==c.n.toList)=true then 9 else 0
def rB:List cy->List cy->Int
 | _,[]=>0
 | pre,c::r=>if nM pre c≠0 then nM pre c else rB (pre++[c]) r
def fQ(l:List cy):Int:=if l.length<1\/l.length>6 then 1 else rB [] l
theorem abO(hi:i<l.length)(h:nM (l.take i) l[i]=0):rB (l.take i) (l.drop i)=rB (l.take (i+1)) (l.drop (i+1)):=by
 rw[drop_eq_getElem_cons hi,take_succ_eq_append_getElem hi];exact if_neg (by simp[h])
theorem Jw(hi:i<l.length)(h:nM (l.take i) l[i]≠0):rB (l.take i) (l.drop i)=nM (l.take i) l[i]:=by
 rw[drop_eq_getElem_cons hi];exact if_pos h
theorem adM(hi:¬i<l.length):rB (l.take i) (l.drop i)=0:=by
 rw[drop_of_length_le w4];rfl
theorem Jt(S:List ah):S.Perm (S++[]):=by rw[append_nil]
variable {G:List (Nat×List Value)}
theorem JE(ls:List cy)(g:Nat)(E:List D)(S:List ah)(p:cy->Bool)(fy:∀args w,(callFunc g args).run Tryz.prog w = .ok (.enter g args) w)(hp:∀x∈ls,VC Tryz.prog G g (.agg (cC x)::E) S (fun r S'=>r=bP (p x)/\S'=S))(hlen:ls.length<=1000000):VC Tryz.prog G 125 [ap 2 cC ls,.eI (.func g) E] S (fun r S'=>r=ae (dK p ls)/\S'=S):=by
 refine VC.body func125 rfl ntmps125 aU fun X0 w0 bj=>?_;unfold cC at hp;exact XW
theorem aaD(ls:List cy)(g:Nat)(E:List D)(S:List ah)(p:cy->Bool)(fy:∀args w,(callFunc g args).run Tryz.prog w = .ok (.enter g args) w)(hp:∀x∈ls,VC Tryz.prog G g (.agg (cC x)::E) S (fun r S'=>r=bP (p x)/\S'=S))(hlen:ls.length<=1000000):VC Tryz.prog G 119 [ap 2 cC ls,.eI (.func g) E] S (fun r S'=>r=bP (ls.any p)/\S'=S):=by
 refine VC.body func119 rfl ntmps119 aU fun X0 w0 bj=>?_;refine aB 1 ?_;refine OD.wk (Wk.ee (n:=9) (l':=[(0,_),(1,_)]) (S':=S) rfl nj fE) ?_;refine OD.nil ?_;refine aB 2 ?_;refine OD.call aq rfl rfl rfl call125 (JE ls g E S p fy hp hlen) ⟨uf rfl lk,uf rfl lk,trivial⟩ (Jt _) ?_;rintro _ S2 ⟨rfl,iZ⟩;rw[iZ];clear iZ;refine aH 2 ?_;refine OD.wk (Wk.ee (n:=9) (l':=[(4,_)]) (S':=S) rfl nj fE) ?_;refine OD.nil ?_;refine aK S ?_;refine⟨?_,rfl⟩;rw[RR]
theorem afn(h x:cy)(b:Nat):VC Tryz.prog G 120 [.agg (cC h),cY b] [⟨b,93,2,cC x⟩] (fun r S=>r=bP (h.n.toList==x.n.toList)/\S=[⟨b,93,2,cC x⟩]):=by
 refine VC.body func120 rfl ntmps120 aU fun X0 w0 bj=>?_;unfold cC;refine bS ?_;refine OD.box (ds:=[_,_]) aq rfl rfl ot rfl rfl (fun b2=>?_);refine an 9 [1,2] ?_;refine af [3] ?_;refine aK [⟨b,93,2,cC x⟩] ?_;exact⟨rfl,rfl⟩
theorem afo(hm:(3,marksC)∈G)(hw:(1,wordsC)∈G)(l:List cy)(hl:l.length<=maxLen)(aW:∀c∈l,c.n.size<=maxLen):VP Tryz.prog G 76 [ap 2 cC l] (ae (fQ l)):=by
 refine VC.body func76 rfl ntmps76 aU fun X0 w0 bj=>?_;have cR:=dI;refine af [0] ?_;refine aB 4 ?_;refine bZ 9 (fun Z O=>?_) (fun Z O=>?_)
 ·refine bu [0,13] ?_;refine eO ?_;have aV:fQ l=1:=if_pos w4;exact yt
 refine bu [0,13] ?_;refine au ?_ ?_<;>intro aJ bz
 ·have aV:fQ l=1:=if_pos w4;exact yt
 have h16:¬(l.length<1\/l.length>6):=(by omega)
 have E:fQ l=rB (l.take 0) (l.drop 0):=if_neg h16;refine af [0,14,15,16] ?_;refine ew [0,14,15] (fun aS _ (i:Nat) aE=>(i<=l.length)/\(fQ l=rB (l.take i) (l.drop i))/\aE=(⟨41,(16,ae (i:Nat))::aS,[]⟩:St)) (fun (i:Nat)=>l.length-i) 0 ⟨(Nat.zero_le _),E,rfl⟩ ?_;rintro i _ ⟨hi,hinv,rfl⟩;refine af [0,14,15,16,17] ?_;refine au ?_ ?_<;>intro aX cr
 ·have aa:i<l.length:=(by omega)
  refine aB 3 ?_;refine OD.alloc (ds:=[_,_]) aq rfl rfl zeroValue93 rfl (fun b4=>?_);refine aH 1 ?_;refine aP 0 [_,_] sizeOf93 ?_;refine an 41 [0,3,4,14,15,16] ?_;refine cL [0,3,4,5,14,15,16] (vj hm hw l[i].n (aW _ (getElem_mem aa))) ?_;refine af [0,3,4,5,14,15,16,25] ?_;refine au ?_ ?_<;>intro bL cJ
  ·have hne:cW l[i].n≠0:=(by simpa using bL)
   have hf:nM (l.take i) l[i]=cW l[i].n:=if_pos hne;have aV:fQ l=cW l[i].n:=(by rw[hinv,Jw aa (by rw[hf];exact hne),hf])
   refine af [2] ?_;exact pG
  have gZ:¬cW l[i].n≠0:=(by simpa using bL)
  refine aB 4 ?_;refine bZ 30 (fun U I=>?_) (fun U I=>?_)
  ·refine bu [0,3,4,14,15,16,34] ?_;refine eO ?_;exact z146
  refine bu [0,3,4,14,15,16,34] ?_;refine au ?_ ?_<;>intro cN en
  ·exact z146
  have hk:¬(l[i].k<1\/l[i].k>3):=(by omega)
  refine aB 2 ?_;refine bN (eE (l:=0) rfl ot trivial ⟨_,ot⟩ (by first|exact nx lV (fun h=>by cases h) runUnderlying39 sizeOf93 w4|exact mW (fun h=>by cases h) runUnderlying39 sizeOf93 w4|exact mz (fun _=>rfl) (fun h=>by cases h) runUnderlying39 sizeOf93 w4 w4)) ?_;refine bN (sy (ds:=[_]) rfl ⟨ot,trivial⟩) ?_;refine OD.call aq rfl rfl rfl call119 (aaD (l.take i) 120 [cY b4] _ (fun d=>d.n.toList==l[i].n.toList) call120 (fun h _=>afn h l[i] b4) pC) ⟨uf rfl lk,uf rfl lk,trivial⟩ (mS (k:=0) rfl) ?_;rintro _ S2 ⟨rfl,iZ⟩;rw[iZ];clear iZ;refine an 41 [0,14,15,16,39] ?_;refine au ?_ ?_<;>intro dW fB
  ·have hf:nM (l.take i) l[i]=9:=(by unfold nM;rw[if_neg gZ,if_neg hk,if_pos dW])
   have aV:fQ l=9:=(by rw[hinv,Jw aa (by rw[hf];decide),hf])
   refine af [2] ?_;exact pG
  have hf:nM (l.take i) l[i]=0:=(by unfold nM;rw[if_neg gZ,if_neg hk,if_neg (by rw[dW];simp)])
  have jC:=hinv.trans (abO aa hf);refine bM [0,14,15,16] ?_;refine⟨(i+1),_,cn,aI,w4,jC,rfl⟩
 have aV:fQ l=0:=(by rw[hinv];exact adM w4)
 refine af [2] ?_;exact uL

end Go.Proofs.YtbplamgacibdaaaGreatDoor.Pc
namespace Go.Proofs.YtbplamgacibdaaaGreatDoor.Pa
open List
open Go.Proofs.Tryz
open Go.RowKit V Pk Vl Go.Proofs.YtbplamgacibdaaaGreatDoor.Nm Pc
structure bp where
 kind:Int
 table:ByteArray
 ay:List cy
 row:List Vl
 names:List ByteArray
 count:Bool
 aj:List bf
 order:ByteArray
 down:Bool
 iE:Int
 set:ByteArray
 bF:List bf
def cX:bp:=⟨0,⟨#[]⟩,[],[],[],false,[],⟨#[]⟩,false,-1,⟨#[]⟩,[]⟩

end Go.Proofs.YtbplamgacibdaaaGreatDoor.Pa
namespace Go.Proofs.YtbplamgacibdaaaGreatDoor.Pa







open List
open Go.Proofs.Tryz
open Go.RowKit V Pk Vl Go.Proofs.YtbplamgacibdaaaGreatDoor.Nm Pc
variable {G:List (Nat×List Value)}
variable {α:Type}
theorem EY{ls:List (List α)}{j:Nat}(h:j<ls.length):(ls.take (j+1)).flatten=(ls.take j).flatten++ls[j]:=by
 rw[take_succ_eq_append_getElem h,flatten_append,flatten_cons,flatten_nil,append_nil]
theorem PO{ls:List (List α)}{j:Nat}(h:j<ls.length):((ls.take (j+1)).flatten).length=((ls.take j).flatten).length+ls[j].length:=by rw[EY h,length_append]
theorem PS(ls:List (List α))(j:Nat):((ls.take j).flatten).length<=ls.flatten.length:=by
 conv=>rhs;rw[<-take_append_drop j ls,flatten_append,length_append]
 omega
theorem abP{e sz b cap:Nat}(h:cap<=maxLen):bn e sz [] 0 (some ⟨b,0,none⟩) cap [⟨b,e,cap*sz,[]⟩]:=.inr ⟨b,rfl,Nat.zero_le _,h,rfl⟩

end Go.Proofs.YtbplamgacibdaaaGreatDoor.Pa
namespace Go.Proofs.YtbplamgacibdaaaGreatDoor.Pa



open List
open Go.Proofs.Tryz
open Go.RowKit V Pk Vl Go.Proofs.YtbplamgacibdaaaGreatDoor.Nm Pc
variable {G:List (Nat×List Value)}
variable {α:Type} {i n:Nat} {ts h:List (List Tk)} {o:bf}
def ag4:List ByteArray:=[⟨#[]⟩,⟨#[66,79,79,76]⟩,⟨#[73,78,84]⟩,⟨#[84,69,88,84]⟩]

theorem lX(t:Tk):(cT t).all V.one=true:=rfl
def bH(s:ByteArray):Tk:=⟨1,s,0⟩
def dV(s:ByteArray):Tk:=⟨4,s,0⟩
def cK(l:List Tk):List D:=[ap 3 cT l]
theorem gr(l:List Tk):(cK l).length=1:=rfl
theorem pY(l:List Tk):(cK l).all V.one=true:=rfl
theorem ua{β:Type}(f:α->β){l:List α}(hi:i<l.length):(l.take i).map f++[f l[i]]=(l.take (i+1)).map f:=by rw[take_succ_eq_append_getElem hi,map_append];rfl
theorem Ko{β:Type}(f:α->β){l:List α}(hi:l.length<=i):(l.take i).map f=l.map f:=by rw[take_of_length_le hi]
theorem ny(s:ByteArray):VP Tryz.prog G 86 [bg s] (.agg (cT (dV s))):=by
 refine VC.body func86 rfl ntmps86 aU fun X0 w0 bj=>?_;exact z141
theorem rp(s:ByteArray):VP Tryz.prog G 122 [bg s] (.agg (cT (bH s))):=by
 refine VC.body func122 rfl ntmps122 aU fun X0 w0 bj=>?_;exact z141
theorem Bk:(Tryz.prog.info? 153).map (fun i=>(i.zero,i.size,i.bytes))=some (some (.agg #[.int .i64 0,.string ⟨#[]⟩,.int .i64 0]),3,32):=by kernel_rfl
theorem zB(l:List ByteArray)(hl:l.length<=10):VC Tryz.prog G 81 [ap 1 cS l] [] (gE cT 153 3 (l.map bH)):=by
 refine VC.body func81 rfl ntmps81 aU fun X0 w0 bj=>?_;have cR:=dI;refine af [0] ?_;refine bS ?_;refine bu [0,3] ?_;refine af [3,6,7,8] ?_;refine CD.block ?_;refine nu (fun (aO:Nat×Option Addr×Nat×List ah) aE=>match aO with|(i,I,O,Z)=>(i<=l.length)/\(bn 153 3 (((l.take i).map bH).flatMap cT) ((l.take i).map bH).length I O Z)/\aE=(⟨19,[(3,aT I ((l.take i).map bH).length O),(6,ap 1 cS l),(7,ae (l.length:Nat)),(8,ae (i:Nat))],(Z)⟩:St)) (fun (aO:Nat×Option Addr×Nat×List ah)=>match aO with|(i,I,O,Z)=>l.length-i) (0,none,0,[]) ⟨(Nat.zero_le _),(bn.cast iR jZ),rfl⟩ (aI (h:=by repeat (first|exact trivial|refine⟨(by (repeat (first|exact fK|(apply gb;focus (first|rfl|(simp;done)|(congr 2;omega)|(apply eP;exact ua bH aa)|(apply eP;simp;done)))|(apply fO;focus rfl)));done),?_⟩))) ?_;rintro⟨i,I,O,Z⟩ _ ⟨hi,o8,rfl⟩;refine af [3,6,7,8,9] ?_;refine au ?_ ?_<;>intro aJ bz
 ·have aa:i<l.length:=(by omega)
  refine af [3,5,6,7,8] ?_;refine dw 2 ?_;refine ez call122 (rp l[i]) ?_;refine ey (cu 0 [_]) [.int .i64 0,.string ⟨#[]⟩,.int .i64 0] [_,_,_] zeroValue153 runUnderlying101 sizeOf153 (fun b15=>?_);refine fD 0 15 3 1 ?_;refine OD.eG (ls:=((l.take i).map bH)) (new:=[bH l[i]]) (Sq:=Z) jf lX aq rfl rfl underlying101 Bk rfl w8 ot o8 (cZ (A:=[])) ot bq (by have cR:=dI;(try simp only[length_append,length_cons,length_nil,length_map,length_take]);omega) (by have cR:=dI;(try simp only[length_append,length_cons,length_nil,length_map,length_take]);omega) (fun U E aj2 aj3=>?_);refine OD.perm (dU (S1:=[⟨U,153,E*3,flatMap cT (((l.take i).map bH)++[bH l[i]])⟩]) (A:=[])) ?_;refine an 19 [3,6,7,8] ?_;refine bM [3,6,7,8] ?_;refine⟨((i+1),(some ⟨U,0,none⟩),E,[⟨U,153,E*3,flatMap cT (((l.take i).map bH)++[bH l[i]])⟩]),_,cn,(aI (h:=by repeat (first|exact trivial|refine⟨(by (repeat (first|exact fK|(apply gb;focus (first|rfl|(simp;done)|(congr 2;omega)|(apply eP;exact ua bH aa)|(apply eP;simp;done)))|(apply fO;focus rfl)));done),?_⟩))),w4,(bn.cast (bJ aj2 aj3) (by exact ua bH aa)),rfl⟩
 have dN:=Ko bH (show l.length<=i by omega);refine af [2] ?_;refine aK _ ?_;exact gE.cast (gE.mk o8) dN
theorem sG(l:List ByteArray)(hl:l.length<=10):VP Tryz.prog G 81 [ap 1 cS l] (.list 3 ((l.map bH).flatMap cT) (l.map bH).length):=VC.xG jf (zB l hl)
def lq(ts:List (List Tk)):Nat->List Tk
 | 0=>[dV ⟨#[40]⟩]
 | i+1=>lq ts i++(if i>0 then [dV ⟨#[44]⟩] else [])++ts.getD i []
def mE(ts:List (List Tk)):List Tk:=lq ts ts.length++[dV ⟨#[41]⟩]
theorem Fy{ts:List (List Tk)}(h:∀x∈ts,x.length<=10):∀i,(lq ts i).length<=1+11*i
 | 0=>Nat.le_refl _
 | i+1=>by
  have ih:=Fy h i;have h2:(ts.getD i []).length<=10:=by
   rw[getD_eq_getElem?_getD];cases hx:ts[i]? with
   | none=>exact Nat.zero_le _
   | some x=>exact h x (mem_of_getElem? hx)
  have h3:(if i>0 then [dV ⟨#[44]⟩] else []).length<=1:=(by split<;>simp)
  unfold lq;rw[length_append,length_append];omega
theorem Ju(hi:i<ts.length)(h:0<i):(lq ts i++[dV ⟨#[44]⟩])++ts[i]=lq ts (i+1):=by
 rw[lq,if_pos h,getD_eq_getElem?_getD,getElem?_eq_getElem hi];rfl
theorem IZ(hi:i<ts.length)(h:¬0<i):lq ts i++ts[i]=lq ts (i+1):=by
 rw[lq,if_neg h,append_nil,getD_eq_getElem?_getD,getElem?_eq_getElem hi];rfl
theorem Uc(ts:List (List Tk))(hl:ts.length<=10)(Nh:∀x∈ts,x.length<=10):VP Tryz.prog G 82 [ap 1 cK ts] (.list 3 ((mE ts).flatMap cT) (mE ts).length):=by
 refine VC.body func82 rfl ntmps82 aU fun X0 w0 bj=>?_;have cR:=dI;refine af [0] ?_;refine bS ?_;refine ez call86 (ny ⟨#[40]⟩) ?_;refine ey (cu 0 [_]) [.int .i64 0,.string ⟨#[]⟩,.int .i64 0] [_,_,_] zeroValue153 runUnderlying101 sizeOf153 (fun b7=>?_);refine OD.perm (dU (S1:=[⟨b7,153,1*3,flatMap cT ([dV ⟨#[40]⟩])⟩]) (A:=[])) ?_;refine an 29 [0,3] ?_;refine af [3,8,9,10] ?_;refine CD.block ?_;refine nu (fun (aO:Nat×Option Addr×Nat×List ah) aE=>match aO with|(i,E,I,Z)=>(i<=ts.length)/\(bn 153 3 ((lq ts i).flatMap cT) (lq ts i).length E I Z)/\aE=(⟨29,[(3,aT E (lq ts i).length I),(8,ap 1 cK ts),(9,ae (ts.length:Nat)),(10,ae (i:Nat))],(Z)⟩:St)) (fun (aO:Nat×Option Addr×Nat×List ah)=>match aO with|(i,E,I,Z)=>ts.length-i) (0,(some ⟨b7,0,none⟩),1,[⟨b7,153,1*3,flatMap cT ([dV ⟨#[40]⟩])⟩]) ⟨(Nat.zero_le _),(bn.cast (bJ (g:=cT) (sz:=3) (e:=153) (ls:=[dV ⟨#[40]⟩]) (Nat.le_refl _) (show 1<=maxLen by decide)) (by rfl)),rfl⟩ (aI (h:=by repeat (first|exact trivial|refine⟨(by (repeat (first|exact fK|(apply gb;focus (first|rfl|(simp;done)|(congr 2;omega)|(apply eP;first|exact Ju aa w4|exact IZ aa w4)|(apply eP;rfl)|(apply eP;simp;done)))|(apply fO;focus rfl)));done),?_⟩))) ?_;rintro⟨i,E,I,Z⟩ _ ⟨hi,o8,rfl⟩;refine af [3,8,9,10,11] ?_;refine au ?_ ?_<;>intro aJ bz
 ·have aa:i<ts.length:=(by omega)
  refine af [3,4,5,8,9,10] ?_;refine af [3,5,8,9,10,16] ?_;refine au ?_ ?_<;>intro aX cr
  ·refine dw 1 ?_;refine ez call86 (ny ⟨#[44]⟩) ?_;refine ey (cu 0 [_]) [.int .i64 0,.string ⟨#[]⟩,.int .i64 0] [_,_,_] zeroValue153 runUnderlying101 sizeOf153 (fun b19=>?_);refine fD 0 19 3 1 ?_;refine OD.eG (ls:=(lq ts i)) (new:=[dV ⟨#[44]⟩]) (Sq:=Z) jf lX aq rfl rfl underlying101 Bk rfl w8 ot o8 (cZ (A:=[])) ot bq vS vS (fun OE O aj4 aj5=>?_);refine OD.perm (dU (S1:=[⟨OE,153,O*3,flatMap cT ((lq ts i)++[dV ⟨#[44]⟩])⟩]) (A:=[])) ?_;refine an 29 [3,5,8,9,10] ?_;refine dw 2 ?_;refine OD.pn (ls:=((lq ts i)++[dV ⟨#[44]⟩])) (new:=ts[i]) (Sq:=[⟨OE,153,O*3,flatMap cT ((lq ts i)++[dV ⟨#[44]⟩])⟩]) jf lX aq rfl rfl underlying101 Bk rfl w8 runUnderlying101 sizeOf153 ot (bJ aj4 aj5) (cZ (A:=[])) ot vS vS (fun Wt Wu Yg Wv=>?_);exact Yf
  refine dw 2 ?_;refine OD.pn (ls:=(lq ts i)) (new:=ts[i]) (Sq:=Z) jf lX aq rfl rfl underlying101 Bk rfl w8 runUnderlying101 sizeOf153 ot o8 (cZ (A:=[])) ot vS vS (fun Wt Wu Yg Wv=>?_);exact Yf
 have uD:i=ts.length:=(by omega)
 have j6:lq ts i++[dV ⟨#[41]⟩]=mE ts:=(by unfold mE;rw[<-uD])
 refine aB 1 ?_;refine ez call86 (ny ⟨#[41]⟩) ?_;refine ey (cu 0 [_]) [.int .i64 0,.string ⟨#[]⟩,.int .i64 0] [_,_,_] zeroValue153 runUnderlying101 sizeOf153 (fun b27=>?_);refine fD 0 27 3 1 ?_;refine OD.eG (ls:=(lq ts i)) (new:=[dV ⟨#[41]⟩]) (Sq:=Z) jf lX aq rfl rfl underlying101 Bk rfl w8 ot o8 (cZ (A:=[])) ot bq vS vS (fun OA U aj6 aj7=>?_);refine OD.perm (dU (S1:=[⟨OA,153,U*3,flatMap cT ((lq ts i)++[dV ⟨#[41]⟩])⟩]) (A:=[])) ?_;refine an 29 [2] ?_;refine CD.gK (t:=2) (Sq:=[⟨OA,153,U*3,flatMap cT ((lq ts i)++[dV ⟨#[41]⟩])⟩]) lk (bJ aj6 aj7) (cm jf _) (cZ (A:=[])) ?_;refine aK [] ?_;rw[j6];exact⟨rfl,rfl⟩
def jE(v:Vl):List Tk :=
 if v.k=0 then [bH ⟨#[78,85,76,76]⟩]
 else if v.k=1 then [bH (if v.n=0 then ⟨#[70,65,76,83,69]⟩ else ⟨#[84,82,85,69]⟩)]
 else if v.k=3 then [⟨3,v.s,0⟩]
 else if v.n<0 then [dV ⟨#[45]⟩,⟨2,⟨#[]⟩,-v.n⟩] else [⟨2,⟨#[]⟩,v.n⟩]
def nv(v:Vl):Prop:=(v.k=1->v.n=0\/v.n=1)/\-9223372036854775807<=v.n/\v.n<=9223372036854775807
theorem QM(v:Vl):0<(jE v).length/\(jE v).length<=2:=by
 unfold jE;repeat' split
 all_goals exact⟨by simp,by simp⟩
def Gl:List ByteArray:=[⟨#[]⟩,⟨#[]⟩,⟨#[]⟩,⟨#[]⟩,⟨#[]⟩,⟨#[]⟩,⟨#[61]⟩,⟨#[60]⟩,⟨#[43]⟩,⟨#[45]⟩,⟨#[42]⟩]
def Af(k:Int):Tk:=if k=3 then bH ⟨#[65,78,68]⟩ else if k=4 then bH ⟨#[79,82]⟩ else dV (Gl.getD k.toNat ⟨#[]⟩)
theorem ail{j:Nat}(h:j<11):(Gl.map fun s=>D.v (.string s))[j*1]?=some (bg (Gl[j]'h)):=by
 rw[Nat.mul_one,getElem?_map,getElem?_eq_getElem h];rfl
theorem PT(v:Vl)(h:nv v):VP Tryz.prog G 83 [.agg (cV v)] (.list 3 ((jE v).flatMap cT) (jE v).length):=by
 refine VC.body func83 rfl ntmps83 aU fun X0 w0 bj=>?_;obtain⟨h1,h2,h3⟩:=h;unfold cV;refine bS ?_;refine OD.box (ds:=[_,_,_]) aq rfl rfl ot rfl rfl (fun b1=>?_);refine an 42 [1] ?_;refine af [1,3] ?_;refine au ?_ ?_<;>intro aJ bz
 ·refine cL [2] (sG [⟨#[78,85,76,76]⟩] AG) ?_;exact HB
 refine af [1,9] ?_;refine au ?_ ?_<;>intro aX cr
 ·have cM:v.k=1:=(by simpa using aX)
  obtain⟨j,hj,oC⟩:∃j:Nat,v.n=(j:Int)/\j<2:=(by (rcases h1 cM with h|h;exact⟨0,h,by decide⟩;exact⟨1,h,by decide⟩))
  rw[hj];refine cz [2] ?_;refine Oo (g:=cS) ([⟨#[70,65,76,83,69]⟩,⟨#[84,82,85,69]⟩]) ?_;refine aR 3 ?_ (h:=by exact(dz (mk:=Op.load 9) rfl ot (by exact ry (i:=j) jU isAgg9 (by show j<2;omega) rfl)));refine cf (sG [([⟨#[70,65,76,83,69]⟩,⟨#[84,82,85,69]⟩]:List ByteArray)[j]'(by show j<2;omega)] AG) ?_;refine bA ?_;exact HB
 refine af [1,20] ?_;refine au ?_ ?_<;>intro bL cJ
 ·refine aB 3 ?_;refine ey (cu 0 [_]) [.int .i64 0,.string ⟨#[]⟩,.int .i64 0] [_,_,_] zeroValue153 runUnderlying101 sizeOf153 (fun E=>?_);refine OD.perm (dU (S1:=[⟨E,153,1*3,flatMap cT ([(⟨3,v.s,0⟩:Tk)])⟩]) (A:=[_])) ?_;refine an 42 [2] ?_;refine CD.gK (t:=2) (Sq:=[⟨E,153,1*3,flatMap cT ([(⟨3,v.s,0⟩:Tk)])⟩]) lk (bJ (g:=cT) (sz:=3) (e:=153) (ls:=[(⟨3,v.s,0⟩:Tk)]) (Nat.le_refl _) (show 1<=maxLen by decide)) (cm jf _) (cZ (A:=[_])) ?_;exact HB
 refine af [1,28] ?_;refine au ?_ ?_<;>intro cN en
 ·refine cz [2] ?_;refine cf (ny ⟨#[45]⟩) ?_;refine aR 2 ?_ (h:=by exact(Fe rfl ot (K2 (wrap_i64 w4 w4))));refine bA ?_;exact HB
 refine aB 3 ?_;refine ey (cu 0 [_]) [.int .i64 0,.string ⟨#[]⟩,.int .i64 0] [_,_,_] zeroValue153 runUnderlying101 sizeOf153 (fun wg=>?_);refine OD.perm (dU (S1:=[⟨wg,153,1*3,flatMap cT ([(⟨2,⟨#[]⟩,v.n⟩:Tk)])⟩]) (A:=[_])) ?_;refine an 42 [2] ?_;refine CD.gK (t:=2) (Sq:=[⟨wg,153,1*3,flatMap cT ([(⟨2,⟨#[]⟩,v.n⟩:Tk)])⟩]) lk (bJ (g:=cT) (sz:=3) (e:=153) (ls:=[(⟨2,⟨#[]⟩,v.n⟩:Tk)]) (Nat.le_refl _) (show 1<=maxLen by decide)) (cm jf _) (cZ (A:=[_])) ?_;refine aK [] ?_;refine⟨?_,rfl⟩;unfold jE;first|(rw[if_pos bz];first|done|rfl)|(rw[if_neg bz,if_pos cM,hj];rcases j with _|_|j<;>first|rfl|omega)|(rw[if_neg bz,if_neg cr,if_pos cJ];first|done|rfl)|(rw[if_neg bz,if_neg cr,if_neg cJ,if_pos w4,show -v.n=0-v.n by omega];first|done|rfl)|(rw[if_neg bz,if_neg cr,if_neg cJ,if_neg w4];first|done|rfl)
theorem aa2(k:Int)(h:k=3\/k=4\/6<=k/\k<=10):VP Tryz.prog G 124 [ae k] (.agg (cT (Af k))):=by
 refine VC.body func124 rfl ntmps124 aU fun X0 w0 bj=>?_;refine bS ?_;refine OD.alloc (ds:=[_,_,_]) aq rfl rfl zeroValue153 rfl (fun b2=>?_);refine an 14 [0,2] ?_;refine af [0,2,3] ?_;refine af [0,2,3,4] ?_;refine au ?_ ?_<;>intro aJ bz
 ·refine bS ?_;refine ez call122 (rp ⟨#[65,78,68]⟩) ?_;exact z70
 refine af [0,2,7] ?_;refine au ?_ ?_<;>intro aX cr
 ·refine bS ?_;refine ez call122 (rp ⟨#[79,82]⟩) ?_;exact z70
 have lA:¬k=3:=(by simpa using aJ)
 have j8:¬k=4:=(by simpa using aX)
 obtain⟨j,rfl⟩:∃j:Nat,k=(j:Int):=⟨k.toNat,by omega⟩
 have hj:j<11:=(by omega)
 refine bS ?_;refine bN (P4 (pl:=[(6,_),(7,_),(8,_),(9,_),(10,_)]) (ds:=[_,_,_,_,_,_,_,_,_,_,_]) rfl zeroValue212 runUnderlying212 sizeOf9 ⟨rfl,bV,rfl,bV,rfl,bV,rfl,bV,rfl,bV,trivial⟩ rfl rfl) ?_;refine aH 1 ?_;refine bN (aaR (j:=j) rfl ot ot runUnderlying212 sizeOf9 isAgg9 rfl hj (ail hj)) ?_;refine ez call86 (ny (Gl[j]'hj)) ?_;refine aP 0 [_,_,_] sizeOf153 ?_;refine an 14 [2] ?_;refine aK [] ?_;refine⟨?_,rfl⟩;unfold Af;first|(rw[if_neg lA,if_neg j8,show((j:Nat):Int).toNat=j from rfl,getD_eq_getElem?_getD,getElem?_eq_getElem hj];rfl)|(rw[if_pos xL];rfl)|(rw[if_neg xL,if_pos v8];rfl)

def DQ(q:List Tk):List D:=[ap 3 cT q]
theorem PZ:(Tryz.prog.info? 153).map (fun i=>(i.zero,i.size,i.bytes))=some (some (.agg #[.int .i64 0,.string ⟨#[]⟩,.int .i64 0]),3,32):=by kernel_rfl
theorem abQ(n:Nat)(h0:0<n)(hn:n<=100000):VC Tryz.prog G 123 [cc,ae (n:Nat)] [] (fun r S=>∃b cap,cap<=maxLen/\r=aT (some ⟨b,0,none⟩) 0 cap/\S=[⟨b,153,cap*3,[]⟩]):=by
 refine VC.body func123 rfl ntmps123 aU fun X0 w0 bj=>?_;refine af [0,1] ?_;refine af [0,1,6] ?_;refine au ?_ ?_<;>intro aJ bz
 ·exact absurd aJ s9
 refine cz [0,1] ?_;refine aR 2 ?_ (h:=by exact(EW rfl rfl ot runUnderlying101));refine aR 1 ?_ (h:=by exact(dz (mk:=fun y=>.call {callee:=.builtin .len,args:=#[y],argTypes:=#[101]}) rfl ot (TX rfl runUnderlying101)));refine bA ?_;refine af [0,1,16] ?_;refine au ?_ ?_<;>intro aX cr
 ·refine dw 2 ?_;refine bN (EW rfl rfl ot runUnderlying101) ?_;refine bN (EC rfl ot rfl ⟨_,_,ot,rfl⟩ runUnderlying101 sizeOf153) ?_;refine aH 1 ?_;refine OD.adG (m:=n) (sz:=3) aq rfl rfl underlying101 underlying3 PZ rfl w8 ot (Eq.trans ot (congrArg (fun z=>D.v (.int .i64 z)) (show((n:Nat):Int)-(0-0)=((n:Nat):Int) by omega))) h0 GA w4 (fun b cap h1 h2=>?_);refine aH 1 ?_;refine bN (dz (mk:=fun y=>.call {callee:=.builtin .len,args:=#[y],argTypes:=#[101]}) rfl ot (TX rfl runUnderlying101)) ?_;refine bN (eE (l:=0) (h:=0) rfl ot trivial ⟨_,ot⟩ (by first|exact mW (fun h=>by cases h) runUnderlying101 sizeOf153 w4|exact mz (fun _=>rfl) (fun h=>by cases h) runUnderlying101 sizeOf153 w4 w4)) ?_;refine an 27 [0] ?_;refine af [4] ?_;refine aK [⟨b,153,cap*3,[]⟩] ?_;exact⟨b,cap,h2,rfl,rfl⟩
 exact absurd aX (by simp at aX;omega)
theorem aaE(ls:List (List Tk))(Zf:ls.length<=1000)(h0:0<ls.flatten.length)(hn:ls.flatten.length<=100000):VC Tryz.prog G 85 [ap 1 DQ ls] [] (fun r S=>∃ad cap,r=aT ad ls.flatten.length cap/\bn 153 3 (ls.flatten.flatMap cT) ls.flatten.length ad cap S):=by
 refine VC.body func85 rfl ntmps85 aU fun X0 w0 bj=>?_;refine af [0] ?_;refine af [0,3] ?_;refine af [0,3,9,10,11] ?_;refine CD.block ?_;refine nu (fun (j:Nat) aE=>(j<=ls.length)/\aE=(⟨36,[(0,ap 1 DQ ls),(3,ae ((((ls.take j).flatten).length:Nat):Int)),(9,ap 1 DQ ls),(10,ae (ls.length:Nat)),(11,ae (j:Nat))],[]⟩:St)) (fun (j:Nat)=>ls.length-j) 0 ⟨(Nat.zero_le _),rfl⟩ (aI (h:=by repeat (first|exact trivial|refine⟨(by (repeat (first|exact fK|(apply gb;focus (first|rfl|(congr 2;omega)|(simp;done)))|(apply fO;focus rfl)));done),?_⟩))) ?_;rintro j _ ⟨hj,rfl⟩;refine af [0,3,9,10,11,12] ?_;refine au ?_ ?_<;>intro aJ bz
 ·have aa:j<ls.length:=(by simp at aJ;omega)
  have I:=PO aa;have hle:=PS ls (j+1);refine af [0,3,5,9,10,11] ?_;refine cz [0,3,9,10,11] ?_;refine aR 3 ?_ (h:=by exact(dR (r:=.int .i64 ((((ls.take (j+1)).flatten).length:Nat):Int)) rfl ot ot (kN (by rw[show((((ls.take j).flatten).length:Nat):Int)+(ls[j].length:Nat)=((((ls.take (j+1)).flatten).length:Nat):Int) by omega];exact wrap_i64 w4 w4))));refine bA ?_;refine af [0,3,9,10,11,20] ?_;refine au ?_ ?_<;>intro aX cr
  ·exact absurd aX (by simp at aX;omega)
  refine bM [0,3,9,10,11] ?_;refine⟨(j+1),_,cn,(aI (h:=by repeat (first|exact trivial|refine⟨(by (repeat (first|exact fK|(apply gb;focus (first|rfl|(congr 2;omega)|(simp;done)))|(apply fO;focus rfl)));done),?_⟩))),w4,rfl⟩
 obtain rfl:j=ls.length:=(by simp at aJ;omega)
 rw[take_length];refine aB 1 ?_;refine OD.call aq rfl rfl rfl call123 (abQ ls.flatten.length h0 hn) ⟨bV,ot,trivial⟩ (Perm.refl _) ?_;rintro _ _ ⟨b,cp,yo,rfl,rfl⟩;refine OD.perm (Perm.refl _) ?_;refine an 36 [0,6] ?_;refine af [6,25,26,27] ?_;refine CD.block ?_;refine nu (fun (aO:Nat×Option Addr×Nat×List ah) aE=>match aO with|(j,dj,cU,Sx)=>(j<=ls.length)/\(bn 153 3 (((ls.take j).flatten).flatMap cT) ((ls.take j).flatten).length dj cU Sx)/\aE=(⟨36,[(6,aT dj ((ls.take j).flatten).length cU),(25,ap 1 DQ ls),(26,ae (ls.length:Nat)),(27,ae (j:Nat))],(Sx)⟩:St)) (fun (aO:Nat×Option Addr×Nat×List ah)=>match aO with|(j,dj,cU,Sx)=>ls.length-j) (0,(some ⟨b,0,none⟩),cp,[⟨b,153,cp*3,[]⟩]) ⟨(Nat.zero_le _),(bn.cast (abP yo) (by rfl)),rfl⟩ (aI (h:=by repeat (first|exact trivial|refine⟨(by (repeat (first|exact fK|(apply gb;focus (first|rfl|(simp;done)|(congr 2;omega)|(apply eP;rw[EY aa])|(apply eP;rfl)|(apply eP;simp;done)))|(apply fO;focus rfl)));done),?_⟩))) ?_;rintro⟨j,dj,cU,Sx⟩ _ ⟨hj,dP,rfl⟩;refine af [6,25,26,27,28] ?_;refine au ?_ ?_<;>intro bL cJ
 ·have aa:j<ls.length:=(by simp at bL;omega)
  have I:=PO aa;have hle:=PS ls (j+1);refine af [6,8,25,26,27] ?_;refine dw 2 ?_;refine OD.pn (ls:=((ls.take j).flatten)) (new:=ls[j]) (Sq:=Sx) jf lX aq rfl rfl underlying101 PZ rfl w8 runUnderlying101 sizeOf153 ot dP (cZ (A:=[])) ot GA w4 (fun O U S33 Z=>?_);refine OD.perm (dU (A:=[])) ?_;refine an 36 [6,25,26,27] ?_;refine bM [6,25,26,27] ?_;refine⟨((j+1),O,U,S33),_,cn,(aI (h:=by repeat (first|exact trivial|refine⟨(by (repeat (first|exact fK|(apply gb;focus (first|rfl|(simp;done)|(congr 2;omega)|(apply eP;rw[EY aa])|(apply eP;rfl)|(apply eP;simp;done)))|(apply fO;focus rfl)));done),?_⟩))),w4,(bn.cast Z (by rw[EY aa])),rfl⟩
 obtain rfl:j=ls.length:=(by simp at bL;omega)
 refine af [2] ?_;refine aK Sx ?_;have E:=dP;rw[take_length] at E;exact⟨dj,cU,by rw[take_length],E⟩
theorem EZ(ls:List (List Tk))(E:ls.length<=1000)(h0:0<ls.flatten.length)(hn:ls.flatten.length<=100000):VP Tryz.prog G 85 [ap 1 DQ ls] (ap 3 cT ls.flatten):=VC.xG jf (aaE ls E h0 hn)
def sW(o:bf)(a b:List Tk):List Tk :=
 if o.k=1 then jE o.v else if o.k=2 then [bH o.nm]
 else if o.k=5 then [[dV ⟨#[40]⟩,bH ⟨#[78,79,84]⟩],a,[dV ⟨#[41]⟩]].flatten
 else if o.k=11 then [[dV ⟨#[40]⟩],a,[bH ⟨#[73,83]⟩,bH ⟨#[78,85,76,76]⟩],[dV ⟨#[41]⟩]].flatten
 else [[dV ⟨#[40]⟩],a,[Af o.k],b,[dV ⟨#[41]⟩]].flatten
def eR(h:List (List Tk))(o:bf):Nat:=h.length-(bU o.k).toNat
def oP(h:List (List Tk))(o:bf):List (List Tk):=h.take (eR h o)++[sW o (h.getD (eR h o) []) (h.getD (eR h o+1) [])]
def rC(l:List bf):List Tk:=(l.foldl oP []).getD 0 []
theorem afp{h:Int}(he:gD h o=0):1<=o.k/\o.k<=11/\jn o.v=0/\bU o.k<=h:=by
 unfold gD at he;split at he
 ·cases he
 split at he
 ·exact absurd he uu
 split at he
 ·cases he
 split at he
 ·rename_i h4;exact absurd he h4.2
 split at he
 ·cases he
 exact⟨by omega,by omega,by omega,by omega⟩
theorem afq{l:List bf}{h:Int}(hi:i<l.length)(he:fR h (l.drop i)=0):gD h l[i]=0:=by
 rw[drop_eq_getElem_cons hi,fR] at he;split at he
 ·assumption
 exact he
theorem Vo{v:Vl}(h:jn v=0)(h1:-9223372036854775808<=v.n)(h2:v.n<=9223372036854775807):nv v:=by
 unfold jn de at h;split at h
 ·cases h
 have hn:¬(v.k=2/\v.n = -9223372036854775808):=(by assumption)
 repeat' split at h
 all_goals first|(exfalso;omega)|(unfold nv;refine⟨?_,?_,h2⟩<;>omega)
theorem R6(hp:bU o.k<=(h.length:Int)):((oP h o).length:Int)=h.length+(1-bU o.k):=by
 have:=uj o.k;unfold oP eR;rw[length_append,length_take];simp only[length_cons,length_nil];omega
theorem Bh(h:List (List Tk))(n:Nat):h.flatten.length=(h.take n).flatten.length+(h.drop n).flatten.length:=by
 conv=>lhs;rw[<-take_append_drop n h,flatten_append,length_append]
theorem u0:(h.getD n []).length<=(h.drop n).flatten.length/\(h.getD n []).length+(h.getD (n+1) []).length<=(h.drop n).flatten.length:=by
 by_cases hn:n<h.length
 ·rw[drop_eq_getElem_cons hn];have e1:h.getD n []=h[n]:=(by rw[getD_eq_getElem?_getD,getElem?_eq_getElem hn];rfl)
  rw[e1,flatten_cons,length_append];refine⟨by omega,?_⟩;by_cases iO:n+1<h.length
  ·rw[drop_eq_getElem_cons iO,flatten_cons,length_append];have e2:h.getD (n+1) []=h[n+1]:=(by rw[getD_eq_getElem?_getD,getElem?_eq_getElem iO];rfl)
   rw[e2];omega
  have e2:h.getD (n+1) []=[]:=(by rw[getD_eq_getElem?_getD,getElem?_eq_none w4];rfl)
  rw[e2];simp only[length_nil];omega
 have e1:h.getD n []=[]:=(by rw[getD_eq_getElem?_getD,getElem?_eq_none w4];rfl)
 have e2:h.getD (n+1) []=[]:=(by rw[getD_eq_getElem?_getD,getElem?_eq_none w4];rfl)
 rw[e1,e2];exact⟨by simp,by simp⟩
theorem Ud(o:bf)(a b:List Tk):(sW o a b).length<=a.length+b.length+5/\0<(sW o a b).length:=by
 have:=QM o.v;unfold sW;repeat' split
 all_goals first|exact⟨by omega,by omega⟩|(simp only[flatten_cons,flatten_nil,length_append,length_cons,length_nil];exact⟨by omega,by omega⟩)
theorem QN:(oP h o).flatten.length<=h.flatten.length+5:=by
 have h1:=Bh h (eR h o);have h2:=(u0 (h:=h) (n:=eR h o)).2;have h3:=(Ud o (h.getD (eR h o) []) (h.getD (eR h o+1) [])).1;unfold oP;rw[flatten_append,length_append];simp only[flatten_cons,flatten_nil,append_nil];omega
theorem abR{l:List bf}(hi:i<l.length):(l.take (i+1)).foldl oP []=oP ((l.take i).foldl oP []) l[i]:=by
 rw[take_succ_eq_append_getElem hi,foldl_append];rfl
theorem FH{e sz cap:Nat}{cs:List D}{ad:Option Addr}{S:List ah}(h:bn e sz cs n ad cap S)(hn:0<n):∃b,ad=some ⟨b,0,none⟩/\n<=cap/\cap<=maxLen/\S=[⟨b,e,cap*sz,cs⟩]:=by
 rcases h with ⟨h1,_⟩|h
 ·omega
 exact h
theorem mV{h:List α}{d:α}(hn:n<h.length):h.getD n d=h[n]:=by rw[getD_eq_getElem?_getD,getElem?_eq_getElem hn];rfl
theorem aaF:(Tryz.prog.info? 101).map (fun i=>(i.zero,i.size,i.bytes))=some (some (.slice none 0 0),1,24):=by kernel_rfl
theorem Qi(l:List bf)(hl:l.length<=40)(he:fR 0 l=0)(hr:∀o∈l,-9223372036854775808<=o.v.n/\o.v.n<=9223372036854775807):VP Tryz.prog G 87 [ap 5 cO l] (.list 3 ((rC l).flatMap cT) (rC l).length):=by
 refine VC.body func87 rfl ntmps87 aU fun X0 w0 bj=>?_;have cR:=dI;refine af [0] ?_;refine bS ?_;refine bu [0,3] ?_;refine af [3,8,9,10] ?_;refine CD.block ?_;refine nu (fun (aO:Nat×List (List Tk)×Option Addr×Nat×List ah) aE=>match aO with|(i,H,A7,E,Sh)=>(i<=l.length)/\(H=(l.take i).foldl oP [])/\(fR ((H).length:Int) (l.drop i)=0)/\((H).length<=i)/\((H).flatten.length<=5*i)/\(bn 101 1 ((H).flatMap cK) (H).length A7 E Sh)/\aE=(⟨90,[(3,aT A7 (H).length E),(8,ap 5 cO l),(9,ae (l.length:Nat)),(10,ae (i:Nat))],(Sh)⟩:St)) (fun (aO:Nat×List (List Tk)×Option Addr×Nat×List ah)=>match aO with|(i,H,A7,E,Sh)=>l.length-i) (0,[],none,0,[]) ⟨(Nat.zero_le _),rfl,he,(Nat.le_refl _),(Nat.le_refl _),(bn.cast iR (by rfl)),rfl⟩ (aI (h:=by repeat (first|exact trivial|refine⟨(by (repeat (first|exact fK|(apply gb;focus (first|rfl|(simp;done)|(congr 2;omega)|(apply eP;rw[hT];rfl)|(apply eP;rfl)|(apply eP;simp;done)))|(apply fO;focus rfl)));done),?_⟩))) ?_;rintro⟨i,H,A7,E,Sh⟩ _ ⟨hi,hH,hx,hHi,hHf,A8,rfl⟩;refine af [3,8,9,10,11] ?_;refine au ?_ ?_<;>intro aJ bz
 ·have aa:i<l.length:=(by simp at aJ;omega)
  have A6:=afq aa hx;obtain⟨cM,Xa,aj8,HM⟩:=afp A6;have DO:=uj l[i].k;have MD:l.length<=40:=hl;have aj9:eR H l[i]<=H.length:=Nat.sub_le _ _;have aka:=Vo aj8 (hr _ (getElem_mem aa)).1 (hr _ (getElem_mem aa)).2;refine aB 2 ?_;refine OD.alloc (ds:=[_,_,_,_,_]) aq rfl rfl zeroValue58 rfl (fun b5=>?_);refine aP 0 [_,_,_,_,_] sizeOf58 ?_;refine an 90 [3,5,8,9,10] ?_;refine cz [3,5,6,8,9,10] ?_;refine cf (Kl l[i].k) ?_;refine aR 0 ?_ (h:=by exact(dR (r:=.int .i64 (((eR H l[i]):Nat):Int)) rfl ot ot (iI (by rw[show((H.length:Nat):Int)-bU l[i].k=(((eR H l[i]):Nat):Int) by unfold eR;omega];exact wrap_i64 w4 w4))));refine bA ?_;refine af [3,5,6,8,9,10] ?_;refine iH [6,8,9,10] (fun aS _ aE=>∃(Tx:List Tk),∃(ad:Option Addr),∃(cp:Nat),∃(Sx:List ah),(Tx=sW l[i] (H.getD (eR H l[i]) []) (H.getD (eR H l[i]+1) []))/\(bn 101 1 (H.flatMap cK) H.length ad cp Sx)/\aE=(⟨90,(3,aT ad H.length cp)::(7,ap 3 cT Tx)::aS,Sx⟩:St)) ?_ ?_
  ·refine af [3,5,6,8,9,10,21] ?_;refine af [3,5,6,8,9,10,21,41] ?_;refine au ?_ ?_<;>intro aX cr
   ·refine gl [3,6,7,8,9,10] ?_;refine cf (PT l[i].v aka) ?_;refine bA ?_;refine⟨_,aI,jE l[i].v,A7,E,Sh,(by unfold sW;rw[if_pos cr]),A8,rfl⟩
   refine af [3,5,6,8,9,10,21,46] ?_;refine au ?_ ?_<;>intro bL cJ
   ·refine gl [3,6,7,8,9,10] ?_;refine cf (sG [l[i].nm] AG) ?_;refine bA ?_;refine⟨_,aI,[bH l[i].nm],A7,E,Sh,(by unfold sW;rw[if_neg cr,if_pos cJ]),A8,rfl⟩
   refine af [3,5,6,8,9,10,21,52] ?_;refine au ?_ ?_<;>intro cN en
   ·have DR:l[i].k=5:=(by simpa using cN)
    have hp1:bU l[i].k=1:=(by rw[DR];decide)
    have hg1:=(u0 (h:=H) (n:=eR H l[i])).1;have hg2:=(u0 (h:=H) (n:=eR H l[i])).2;have hg3:=Bh H (eR H l[i]);have Z:0<H.length:=(by omega)
    obtain⟨bh,I,O,U,yI⟩:=FH A8 Z;subst I yI;have gZ:eR H l[i]<H.length:=(by unfold eR;omega)
    rw[mV gZ] at hg1 hg2;skip;refine gl [3,6,7,8,9,10] ?_;refine cf (ny ⟨#[40]⟩) ?_;refine cf (rp ⟨#[78,79,84]⟩) ?_;refine aR 4 ?_ (h:=Ni);refine cf (ny ⟨#[41]⟩) ?_;refine cf (EZ ([[dV ⟨#[40]⟩,bH ⟨#[78,79,84]⟩],H[eR H l[i]],[dV ⟨#[41]⟩]]) NL Az Az) ?_;refine bA ?_;refine⟨_,aI,[[dV ⟨#[40]⟩,bH ⟨#[78,79,84]⟩],H[eR H l[i]],[dV ⟨#[41]⟩]].flatten,(some ⟨bh,0,none⟩),E,[⟨bh,101,E*1,H.flatMap cK⟩],(by unfold sW;rw[if_neg cr,if_neg cJ,if_pos en,mV gZ]),(bJ O U),rfl⟩
   refine af [3,5,6,8,9,10,65] ?_;refine au ?_ ?_<;>intro dW fB
   ·have OF:l[i].k=11:=(by simpa using dW)
    have hp1:bU l[i].k=1:=(by rw[OF];decide)
    have hg1:=(u0 (h:=H) (n:=eR H l[i])).1;have hg2:=(u0 (h:=H) (n:=eR H l[i])).2;have hg3:=Bh H (eR H l[i]);have Z:0<H.length:=(by omega)
    obtain⟨bh,I,O,U,yI⟩:=FH A8 Z;subst I yI;have gZ:eR H l[i]<H.length:=(by unfold eR;omega)
    rw[mV gZ] at hg1 hg2;skip;refine gl [3,6,7,8,9,10] ?_;refine cf (ny ⟨#[40]⟩) ?_;refine aR 4 ?_ (h:=Ni);refine cf (sG [⟨#[73,83]⟩,⟨#[78,85,76,76]⟩] (by show 2<=10;decide)) ?_;refine cf (ny ⟨#[41]⟩) ?_;refine cf (EZ ([[dV ⟨#[40]⟩],H[eR H l[i]],[bH ⟨#[73,83]⟩,bH ⟨#[78,85,76,76]⟩],[dV ⟨#[41]⟩]]) NL Az Az) ?_;refine bA ?_;refine⟨_,aI,[[dV ⟨#[40]⟩],H[eR H l[i]],[bH ⟨#[73,83]⟩,bH ⟨#[78,85,76,76]⟩],[dV ⟨#[41]⟩]].flatten,(some ⟨bh,0,none⟩),E,[⟨bh,101,E*1,H.flatMap cK⟩],(by unfold sW;rw[if_neg cr,if_neg cJ,if_neg en,if_pos fB,mV gZ]),(bJ O U),rfl⟩
   have hkb:¬l[i].k=1/\¬l[i].k=2/\¬l[i].k=5/\¬l[i].k=11:=⟨by simpa using aX,by simpa using bL,by simpa using cN,by simpa using dW⟩
   have oY:bU l[i].k=2:=(by unfold bU;rw[if_neg w4,if_neg w4])
   have hg1:=(u0 (h:=H) (n:=eR H l[i])).1;have hg2:=(u0 (h:=H) (n:=eR H l[i])).2;have hg3:=Bh H (eR H l[i]);have Z:0<H.length:=(by omega)
   obtain⟨bh,I,O,U,yI⟩:=FH A8 Z;subst I yI;have gZ:eR H l[i]<H.length:=(by unfold eR;omega)
   have gI:eR H l[i]+1<H.length:=(by unfold eR;omega)
   rw[mV gZ,mV gI] at hg2;rw[mV gZ] at hg1;refine gl [3,6,7,8,9,10] ?_;refine cf (ny ⟨#[40]⟩) ?_;refine aR 4 ?_ (h:=Ni);refine cf (aa2 l[i].k w4) ?_;refine aR 3 ?_ (h:=by exact(dR (r:=.int .i64 ((((eR H l[i])+1:Nat)):Int)) rfl ot bV (kN (by rw[show(((eR H l[i]):Nat):Int)+1=(((eR H l[i])+1:Nat):Int) by omega];exact wrap_i64 w4 w4))));refine aR 1 ?_ (h:=by first|exact(dz (mk:=Op.load 101) rfl ot (by exact jj (k:=0) (i:=((eR H l[i])+1)) gr rfl rfl rfl isAgg101 gI rfl))|exact(dz (mk:=Op.load 101) rfl ot (by exact jj (k:=1) (i:=((eR H l[i])+1)) gr rfl rfl rfl isAgg101 gI rfl))|exact(dz (mk:=Op.load 101) rfl ot (by exact jj (k:=2) (i:=((eR H l[i])+1)) gr rfl rfl rfl isAgg101 gI rfl)));refine cf (ny ⟨#[41]⟩) ?_;refine cf (EZ ([[dV ⟨#[40]⟩],H[eR H l[i]],[Af l[i].k],H[eR H l[i]+1],[dV ⟨#[41]⟩]]) NL Az Az) ?_;refine bA ?_;refine⟨_,aI,[[dV ⟨#[40]⟩],H[eR H l[i]],[Af l[i].k],H[eR H l[i]+1],[dV ⟨#[41]⟩]].flatten,(some ⟨bh,0,none⟩),E,[⟨bh,101,E*1,H.flatMap cK⟩],(by unfold sW;rw[if_neg cr,if_neg cJ,if_neg en,if_neg fB,mV gZ,mV gI]),(bJ O U),rfl⟩
  rintro _ ⟨Tx,ad,cp,Sx,hT,dP,rfl⟩;have hTl:=Ud l[i] (H.getD (eR H l[i]) []) (H.getD (eR H l[i]+1) []);refine dw 3 ?_;refine bN (aaa dP rfl ot ot ot runUnderlying146 sizeOf101 (by unfold eR;omega)) ?_;refine aH 1 ?_;refine ey (cu 0 [_]) [.slice none 0 0] [_] zeroValue101 runUnderlying146 sizeOf101 (fun b84=>?_);refine fD 0 84 1 1 ?_;refine OD.aaZ (ls:=H) (new:=[Tx]) (n:=eR H l[i]) (Sq:=Sx) gr pY aq rfl rfl underlying146 aaF rfl w8 ot dP (cZ (A:=[])) (by unfold eR;omega) ot bq (by simp only[maxLen,length_cons,length_nil];omega) (by simp only[length_cons,length_nil];omega) (fun OG ME akb akc=>?_);refine OD.perm (dU (S1:=[⟨OG,101,ME*1,flatMap cK (H.take (eR H l[i])++[Tx])⟩]) (A:=[])) ?_;refine an 90 [3,8,9,10] ?_;refine bM [3,8,9,10] ?_;refine⟨((i+1),(oP H l[i]),(some ⟨OG,0,none⟩),ME,[⟨OG,101,ME*1,flatMap cK (H.take (eR H l[i])++[Tx])⟩]),_,cn,(aI (h:=by repeat (first|exact trivial|refine⟨(by (repeat (first|exact fK|(apply gb;focus (first|rfl|(simp;done)|(congr 2;omega)|(apply eP;rw[hT];rfl)|(apply eP;rfl)|(apply eP;simp;done)))|(apply fO;focus rfl)));done),?_⟩))),w4,(by rw[hH,<-abR aa]),(by rw[R6 HM,<-R3 aa A6];exact hx),(by have:=R6 HM;omega),(by have:=QN (h:=H) (o:=l[i]);omega),(bn.cast (bJ akb akc) (by rw[hT];rfl)),rfl⟩
 have uD:l.length<=i:=(by simp at aJ;omega)
 have dN:=hx;rw[QK uD] at dN;have hH1:H.length=1:=(by (split at dN;omega;cases dN))
 refine CD.exit ?_;refine CD.seq ?_;obtain⟨bh,I,O,U,yI⟩:=FH A8 (show 0<H.length by omega);subst I yI;have gZ:0<H.length:=(by omega)
 refine gl [2] ?_;refine aR 1 ?_ (h:=by exact(nV (mk:=Op.indexAddr 146) rfl ot bV (by first|exact oF runUnderlying146 sizeOf101 (j:=0) rfl (by first|exact gZ|exact gI)|exact oI runUnderlying146 sizeOf101 (j:=0) rfl (by first|exact gZ|exact gI))));refine aR 0 ?_ (h:=by first|exact(dz (mk:=Op.load 101) rfl ot (by exact jj (k:=0) (i:=0) gr rfl rfl rfl isAgg101 gZ rfl))|exact(dz (mk:=Op.load 101) rfl ot (by exact jj (k:=1) (i:=0) gr rfl rfl rfl isAgg101 gZ rfl))|exact(dz (mk:=Op.load 101) rfl ot (by exact jj (k:=2) (i:=0) gr rfl rfl rfl isAgg101 gZ rfl)));refine bA ?_;refine aK [] ?_;refine⟨?_,rfl⟩;unfold rC;rw[show l.foldl oP []=H by rw[hH,take_of_length_le uD],mV gZ]

end Go.Proofs.YtbplamgacibdaaaGreatDoor.Pa
namespace Go.Proofs.YtbplamgacibdaaaGreatDoor.Pa

open List
open Go.Proofs.Tryz
open Go.RowKit V Pk Vl Go.Proofs.YtbplamgacibdaaaGreatDoor.Nm Pc
variable {G:List (Nat×List Value)}
variable {α:Type} {i:Nat} {E:List ByteArray}
def aY(s:bp):List D:=[ae s.kind,bg s.table,ap 2 cC s.ay,ap 3 cV s.row,ap 1 cS s.names,bP s.count,ap 5 cO s.aj,bg s.order,bP s.down,ae s.iE,bg s.set,ap 5 cO s.bF]
def okS(s:bp):Prop:=s.ay.length<=6/\s.row.length<=6/\s.names.length<=6/\s.aj.length<=40/\s.bF.length<=40

def kj{α:Type}(f:α->Int):List α->Int
 | []=>0
 | a::r=>if f a≠0 then f a else kj f r
theorem R7{f:α->Int}{l:List α}(hi:i<l.length)(h:f l[i]≠0):kj f (l.drop i)=f l[i]:=by rw[drop_eq_getElem_cons hi,kj,if_pos h]
theorem R8{f:α->Int}{l:List α}(hi:i<l.length)(h:f l[i]=0):kj f (l.drop i)=kj f (l.drop (i+1)):=by rw[drop_eq_getElem_cons hi,kj,if_neg (by rw[h];decide)]
theorem QO{f:α->Int}{l:List α}(hi:l.length<=i):kj f (l.drop i)=0:=by rw[drop_of_length_le hi];rfl
def dY(l:List Vl):Int:=if l.length<1\/l.length>6 then 1 else kj jn l
def nY(l:List bf):Int:=if l.length=0 then 0 else jk l
def px(s:bp):Int :=
 if s.names.length>6 then 1 else if s.iE < -1 then 3
 else if (s.count=true/\0<s.names.length)\/(s.down=true/\ja s.order ⟨#[]⟩=true) then 6
 else if kj cW s.names≠0 then kj cW s.names else if nY s.aj≠0 then nY s.aj else if ja s.order ⟨#[]⟩=true then 0 else cW s.order
def ei(s h:bp):Bool:=ja s.table h.table&&(((s.ay.length:Int)==(h.ay.length:Int))&&(((s.row.length:Int)==(h.row.length:Int))&&(((s.names.length:Int)==(h.names.length:Int))&&((s.count==h.count)&&(((s.aj.length:Int)==(h.aj.length:Int))&&(ja s.order h.order&&((s.down==h.down)&&((s.iE==h.iE)&&(ja s.set h.set&&((s.bF.length:Int)==(h.bF.length:Int)))))))))))
structure dZ (s:bp):Prop where
 ok:okS s
 t:s.table.size<=maxLen
 c:∀c∈s.ay,c.n.size<=maxLen
 n:∀x∈s.names,x.size<=maxLen
 o:s.order.size<=maxLen
 e:s.set.size<=maxLen
 r:∀v∈s.row,-9223372036854775808<=v.n/\v.n<=9223372036854775807
 w:∀o∈s.aj,o.nm.size<=maxLen/\-9223372036854775808<=o.v.n/\o.v.n<=9223372036854775807
 x:∀o∈s.bF,o.nm.size<=maxLen/\-9223372036854775808<=o.v.n/\o.v.n<=9223372036854775807
def kQ(l:List bf):List Tk:=if l.length=0 then [] else [⟨#[87,72,69,82,69]⟩].map bH++rC l
theorem RC(hm:(3,marksC)∈G)(hw:(1,wordsC)∈G)(l:List ByteArray)(hl:l.length<=1000)(hs:∀s∈l,s.size<=maxLen):VP Tryz.prog G 121 [ap 1 cS l] (ae (kj cW l)):=by
 refine VC.body func121 rfl ntmps121 aU fun X0 w0 bj=>?_;refine af [0] ?_;refine af [6,7,8] ?_;refine ew [6,7] (fun aS _ (i:Nat) aE=>(i<=l.length)/\(kj cW l=kj cW (l.drop i))/\aE=(⟨18,(8,ae (i:Nat))::aS,[]⟩:St)) (fun (i:Nat)=>l.length-i) 0 ⟨(Nat.zero_le _),rfl,rfl⟩ ?_;rintro i _ ⟨hi,hx,rfl⟩;refine af [6,7,8,9] ?_;refine au ?_ ?_<;>intro aJ bz
 ·have aa:i<l.length:=(by simp at aJ;omega)
  refine af [4,6,7,8] ?_;refine cL [5,6,7,8] (vj hm hw l[i] (hs _ (getElem_mem aa))) ?_;refine af [5,6,7,8,15] ?_;refine au ?_ ?_<;>intro aX cr
  ·have hn:cW l[i]≠0:=(by simpa using aX)
   have dN:=hx.trans (R7 aa hn);refine af [2] ?_;exact HC
  have h0:cW l[i]=0:=(by simpa using aX)
  refine bM [6,7,8] ?_;refine⟨(i+1),_,cn,aI,w4,(hx.trans (R8 aa h0)),rfl⟩
 have dN:kj cW l=0:=hx.trans (QO s9);refine af [2] ?_;exact HG
theorem afr(l:List Vl)(hl:l.length<=1000):VP Tryz.prog G 77 [ap 3 cV l] (ae (dY l)):=by
 refine VC.body func77 rfl ntmps77 aU fun X0 w0 bj=>?_;have O:(l.length<1\/l.length>6)\/¬(l.length<1\/l.length>6):=(by omega)
 refine af [0] ?_;refine aB 4 ?_;refine bZ 9 (fun I E=>?_) (fun I E=>?_)
 ·refine bu [0,13] ?_;refine eO ?_;exact WM
 refine bu [0,13] ?_;refine au ?_ ?_<;>intro aJ bz
 ·exact WM
 have hf:dY l=kj jn l:=if_neg w4;refine af [14,15,16] ?_;refine ew [14,15] (fun aS _ (i:Nat) aE=>(i<=l.length)/\(kj jn l=kj jn (l.drop i))/\aE=(⟨26,(16,ae (i:Nat))::aS,[]⟩:St)) (fun (i:Nat)=>l.length-i) 0 ⟨(Nat.zero_le _),rfl,rfl⟩ ?_;rintro i _ ⟨hi,hx,rfl⟩;refine af [14,15,16,17] ?_;refine au ?_ ?_<;>intro aX cr
 ·have aa:i<l.length:=(by simp at aX;omega)
  refine aB 2 ?_;refine OD.alloc (ds:=[_,_,_]) aq rfl rfl zeroValue56 rfl (fun U=>?_);refine aP 0 [_,_,_] sizeOf56 ?_;refine an 26 [4,14,15,16] ?_;refine cL [5,14,15,16] (Nm.Qd l[i]) ?_;refine af [5,14,15,16,23] ?_;refine au ?_ ?_<;>intro bL cJ
  ·have hn:jn l[i]≠0:=(by simpa using bL)
   have dN:=hf.trans (hx.trans (R7 aa hn));refine af [2] ?_;exact HC
  have h0:jn l[i]=0:=(by simpa using bL)
  refine bM [14,15,16] ?_;refine⟨(i+1),_,cn,aI,w4,(hx.trans (R8 aa h0)),rfl⟩
 have dN:dY l=0:=hf.trans (hx.trans (QO (by simp at aX;omega)));refine af [2] ?_;exact HG
theorem EP(hm:(3,marksC)∈G)(hw:(1,wordsC)∈G)(l:List bf)(hs:∀o∈l,o.nm.size<=maxLen):VP Tryz.prog G 79 [ap 5 cO l] (ae (nY l)):=by
 refine VC.body func79 rfl ntmps79 aU fun X0 w0 bj=>?_;refine af [0] ?_;refine af [0,5] ?_;refine au ?_ ?_<;>intro aJ bz
 ·have dN:nY l=0:=if_pos s9;refine af [2] ?_;exact HC
 have dN:nY l=jk l:=if_neg s9;refine cL [2] (Km hm hw l hs) ?_;exact HG
theorem adN(hm:(3,marksC)∈G)(hw:(1,wordsC)∈G)(s:bp)(hf:dZ s):VP Tryz.prog G 78 [.agg (aY s)] (ae (px s)):=by
 refine VC.body func78 rfl ntmps78 aU fun X0 w0 bj=>?_;unfold aY;refine bS ?_;refine OD.box (ds:=[_,_,_,_,_,_,_,_,_,_,_,_]) aq rfl rfl ot rfl rfl (fun b1=>?_);refine an 50 [1] ?_;refine af [1,5] ?_;refine au ?_ ?_<;>intro aJ bz
 ·refine af [2] ?_;refine aK [] ?_;exact z21
 refine af [1,10] ?_;refine au ?_ ?_<;>intro aX cr
 ·refine af [2] ?_;refine aK [] ?_;exact z21
 refine aB 3 ?_;refine bZ 17 (fun xU xE=>?_) (fun xU xE=>?_)
 ·refine aH 6 ?_;refine bZ 23 (fun U O=>?_) (fun U O=>?_)
  ·refine bu [1,14] ?_;refine eO ?_;refine af [2] ?_;exact z20
  refine aH 3 ?_;refine bZ 26 (fun I E=>?_) (fun I E=>?_)
  ·exact WW
  refine bu [1,14] ?_;refine gm ?_;exact XX
 refine yC 4 ?_;refine aH 5 ?_;refine bZ 26 (fun I E=>?_) (fun I E=>?_)
 ·exact WW
 refine bu [1,14] ?_;refine gm ?_;refine cL [1,3] (RC hm hw s.names (by have:=hf.ok.2.2.1;omega) hf.n) ?_;refine af [1,3,36] ?_;refine au ?_ ?_<;>intro cN en
 ·refine af [2] ?_;exact z20
 refine cL [1,4] (EP hm hw s.aj (fun o h=>(hf.w o h).1)) ?_;refine af [1,4,42] ?_;refine au ?_ ?_<;>intro dW fB
 ·refine af [2] ?_;exact z20
 refine af [1,46] ?_;refine au ?_ ?_<;>intro fF gM
 ·refine cL [2] (vj hm hw s.order hf.o) ?_;exact z20
 refine af [2] ?_;refine eZ ?_;refine⟨vi ?_,rfl⟩;unfold px ja;simp_all;all_goals (try (intros;(repeat' split)<;>first|rfl|omega))
theorem afs(s h:bp):VP Tryz.prog G 80 [.agg (aY s),.agg (aY h)] (bP (ei s h)):=by
 refine VC.body func80 rfl ntmps80 aU fun X0 w0 bj=>?_;unfold aY;refine bS ?_;refine OD.box (ds:=[_,_,_,_,_,_,_,_,_,_,_,_]) aq rfl rfl ot rfl rfl (fun b2=>?_);refine OD.box (ds:=[_,_,_,_,_,_,_,_,_,_,_,_]) aq rfl rfl ot rfl rfl (fun b3=>?_);refine an 90 [2,3] ?_;refine aB 6 ?_;refine bZ 10 (fun akd E=>?_) (fun akd E=>?_)
 ·refine aH 9 ?_;refine bZ 19 (fun MF I=>?_) (fun MF I=>?_)
  ·refine aH 9 ?_;refine bZ 28 (fun ake O=>?_) (fun ake O=>?_)
   ·refine aH 9 ?_;refine bZ 37 (fun akf U=>?_) (fun akf U=>?_)
    ·refine aH 4 ?_;refine OD.still iN rfl (dR rfl ot ot (Fb underlying4)) ?_;refine aH 2 ?_;refine bZ 44 (fun akg Z=>?_) (fun akg Z=>?_)
     ·refine aH 9 ?_;refine bZ 53 (fun MG LK=>?_) (fun MG LK=>?_)
      ·refine aH 7 ?_;refine bZ 60 (fun akh LL=>?_) (fun akh LL=>?_)
       ·refine aH 4 ?_;refine OD.still iN rfl (dR rfl ot ot (Fb underlying4)) ?_;refine aH 2 ?_;refine bZ 67 (fun aki aim=>?_) (fun aki aim=>?_)
        ·refine aH 7 ?_;refine bZ 74 (fun akj ain=>?_) (fun akj ain=>?_)
         ·refine aH 7 ?_;refine bZ 81 (fun akk aio=>?_) (fun akk aio=>?_)
          ·exact yp
          exact yp
         exact yp
        exact yp
       exact yp
      exact yp
     exact yp
    refine bu [4] ?_;refine eZ ?_;exact NY
   refine bu [4] ?_;refine eZ ?_;exact NY
  refine bu [4] ?_;refine eZ ?_;exact NY
 refine bu [4] ?_;refine eZ ?_;refine⟨vb ?_,rfl⟩;unfold ei ja;simp_all;all_goals (try (intros;omega))
theorem aaG:(Tryz.prog.info? 153).map (fun i=>(i.zero,i.size,i.bytes))=some (some (.agg #[.int .i64 0,.string ⟨#[]⟩,.int .i64 0]),3,32):=by kernel_rfl
theorem Iz(l:List bf)(hl:l.length<=40)(he:l.length=0\/fR 0 l=0)(hr:∀o∈l,-9223372036854775808<=o.v.n/\o.v.n<=9223372036854775807)(YM:(rC l).length<=1000):VP Tryz.prog G 88 [ap 5 cO l] (.list 3 ((kQ l).flatMap cT) (kQ l).length):=by
 refine VC.body func88 rfl ntmps88 aU fun X0 w0 bj=>?_;refine af [0] ?_;refine af [0,5] ?_;refine au ?_ ?_<;>intro aJ bz
 ·have dN:kQ l=[]:=if_pos s9;refine af [2] ?_;refine CD.wk (Wk.sA (t:=2) (sz:=3) lk) ?_;exact HC
 have dN:kQ l=[⟨#[87,72,69,82,69]⟩].map bH++rC l:=if_neg s9;have I:fR 0 l=0:=he.resolve_left s9;refine bS ?_;refine ey (cu 0 [_]) [.string ⟨#[]⟩] [_] zeroValue9 runUnderlying41 sizeOf9 (fun U=>?_);refine OD.perm (dU (S1:=[⟨U,9,1*1,flatMap cS ([⟨#[87,72,69,82,69]⟩])⟩]) (A:=[])) ?_;refine OD.gK (t:=6) (Sq:=[⟨U,9,1*1,flatMap cS ([⟨#[87,72,69,82,69]⟩])⟩]) lk (bJ (g:=cS) (sz:=1) (e:=9) (ls:=[⟨#[87,72,69,82,69]⟩]) (Nat.le_refl _) (show 1<=maxLen by decide)) (cm jU _) (cZ (A:=[])) ?_;refine OD.call aq rfl rfl rfl call81 (zB [⟨#[87,72,69,82,69]⟩] AG) ⟨ot,trivial⟩ (eX _) ?_;rintro _ S7 ⟨Zh,Zi,rfl,ql⟩;refine OD.perm (S':=S7) (append_nil _ ▸ Perm.refl _) ?_;refine aH 1 ?_;refine ez call87 (Qi l hl I hr) ?_;refine OD.pn (ls:=([⟨#[87,72,69,82,69]⟩].map bH)) (new:=(rC l)) (Sq:=S7) jf lX aq rfl rfl underlying101 aaG rfl w8 runUnderlying101 sizeOf153 ot ql (cZ (A:=[])) ot (by simp only[maxLen,length_map,length_cons,length_nil];omega) (by simp only[length_map,length_cons,length_nil];omega) (fun Z aqJ O E=>?_);refine OD.perm (dU (A:=[])) ?_;refine an 11 [2] ?_;refine CD.gK (t:=2) (Sq:=O) lk E (cm jf _) (cZ (A:=[])) ?_;exact HG

def rK(s:bp):ByteArray:=if s.kind<7 then s.table else ⟨#[]⟩
def dD(s:bp):bp :=
 if s.kind=1 then {cX with kind:=s.kind,table:=(rK s),ay:=s.ay} else if s.kind=3 then {cX with kind:=s.kind,table:=(rK s),row:=s.row} else if s.kind=4 then {cX with kind:=s.kind,table:=(rK s),names:=s.names,count:=s.count,aj:=s.aj,order:=s.order,down:=s.down,iE:=s.iE} else if s.kind=5 then {cX with kind:=s.kind,table:=(rK s),set:=s.set,bF:=s.bF,aj:=s.aj} else if s.kind=6 then {cX with kind:=s.kind,table:=(rK s),aj:=s.aj} else {cX with kind:=s.kind,table:=(rK s)}
def dO(s:bp):Int :=
 if s.kind=1 then fQ s.ay else if s.kind=3 then dY s.row else if s.kind=4 then px s
 else if s.kind=5 then (if cW s.set=0 then (if jk s.bF=0 then nY s.aj else jk s.bF) else cW s.set) else if s.kind=6 then nY s.aj else 0
def di(s:bp):Int:=if s.kind<7/\cW s.table≠0 then cW s.table else if dO s=0/\ei s (dD s)=false then 6 else dO s
theorem abS(hm:(3,marksC)∈G)(hw:(1,wordsC)∈G)(s:bp)(hf:dZ s):VP Tryz.prog G 41 [.agg (aY s)] (ae (di s)):=by
 refine VC.body func41 rfl ntmps41 aU fun X0 w0 bj=>?_;have I:=adN hm hw s hf;unfold aY at I;unfold aY;refine bS ?_;refine OD.box (ds:=[_,_,_,_,_,_,_,_,_,_,_,_]) aq rfl rfl ot rfl rfl (fun b1=>?_);refine an 102 [1] ?_;refine aB 3 ?_;refine OD.alloc (ds:=[_,_,_,_,_,_,_,_,_,_,_,_]) aq rfl rfl zeroValue44 rfl (fun b3=>?_);refine aP 0 [_,_,_,_,_,_,_,_,_,_,_,_] sizeOf44 ?_;refine an 102 [1,3] ?_;refine iH [1,3] (fun aS _ aE=>∃(tb:ByteArray),(tb=rK s)/\(¬(s.kind<7/\cW s.table≠0))/\aE=(⟨102,aS,[⟨b3,44,12,[ae s.kind,bg tb,.list 2 [] 0,.list 3 [] 0,.list 1 [] 0,bP false,.list 5 [] 0,gh,bP false,ae (-1),gh,.list 5 [] 0]⟩,⟨b1,44,12,[ae s.kind,bg s.table,ap 2 cC s.ay,ap 3 cV s.row,ap 1 cS s.names,bP s.count,ap 5 cO s.aj,bg s.order,bP s.down,ae s.iE,bg s.set,ap 5 cO s.bF]⟩]⟩:St)) ?_ ?_
 ·refine CD.seq ?_;refine CD.cells (k:=0) (cs':=[_,_,.list 2 [] 0,.list 3 [] 0,.list 1 [] 0,_,.list 5 [] 0,_,_,_,_,.list 5 [] 0]) (S':=[_,_]) rfl (by repeat (first|exact trivial|exact⟨eM,trivial⟩|exact⟨fP,trivial⟩|refine⟨eM,?_⟩|refine⟨fP,?_⟩)) rfl ?_;refine bM [1,3,11] ?_;refine au ?_ ?_<;>intro aJ bz
  ·refine aB 3 ?_;refine aP 0 [_,_,_,_,_,_,_,_,_,_,_,_] sizeOf9 ?_;refine an 102 [1,3] ?_;refine cL [1,3,4] (vj hm hw s.table hf.t) ?_;refine af [1,3,4,19] ?_;refine au ?_ ?_<;>intro aX cr
   ·have aV:di s=cW s.table:=(by unfold di;rw[if_pos ⟨bz,by simpa using aX⟩])
    exact Mg
   have gZ:cW s.table=0:=(by simpa using aX)
   have O:s.table=rK s:=(by unfold rK;rw[if_pos bz])
   have U:¬(s.kind<7/\cW s.table≠0):=fun h=>h.2 gZ;refine CD.skip ?_;refine⟨_,aI,s.table,O,U,rfl⟩
  have O:(⟨#[]⟩:ByteArray)=rK s:=(by unfold rK;rw[if_neg w4])
  have U:¬(s.kind<7/\cW s.table≠0):=fun h=>by omega
  refine CD.skip ?_;refine⟨_,aI,⟨#[]⟩,O,U,rfl⟩
 rintro _ ⟨tb,j3,o9,rfl⟩;refine af [1,3,5] ?_;refine iH [1,3] (fun aS _ aE=>∃(H:bp),∃(e:Int),(H=dD s)/\(e=dO s)/\aE=(⟨102,(5,ae e)::aS,[⟨b3,44,12,[ae H.kind,bg H.table,ap 2 cC H.ay,ap 3 cV H.row,ap 1 cS H.names,bP H.count,ap 5 cO H.aj,bg H.order,bP H.down,ae H.iE,bg H.set,ap 5 cO H.bF]⟩,⟨b1,44,12,[ae s.kind,bg s.table,ap 2 cC s.ay,ap 3 cV s.row,ap 1 cS s.names,bP s.count,ap 5 cO s.aj,bg s.order,bP s.down,ae s.iE,bg s.set,ap 5 cO s.bF]⟩]⟩:St)) ?_ ?_
 ·refine af [1,3,5,22] ?_;refine af [1,3,5,22,23] ?_;refine au ?_ ?_<;>intro bL cJ
  ·refine aB 3 ?_;refine aP 0 [_,_,_,_,_,_,_,_,_,_,_,_] sizeOf39 ?_;refine an 102 [1,3] ?_;refine gl [1,3,5] ?_;refine cf (afo hm hw s.ay (by have:=hf.ok.1;simp only[maxLen];omega) hf.c) ?_;refine bA ?_;refine⟨_,aI,{cX with kind:=s.kind,table:=tb,ay:=s.ay},fQ s.ay,(by unfold dD;rw[if_pos cJ,j3]),(by unfold dO;rw[if_pos cJ]),rfl⟩
  refine af [1,3,5,22,31] ?_;refine au ?_ ?_<;>intro cN en
  ·refine aB 3 ?_;refine aP 0 [_,_,_,_,_,_,_,_,_,_,_,_] sizeOf40 ?_;refine an 102 [1,3] ?_;refine gl [1,3,5] ?_;refine cf (afr s.row (by have:=hf.ok.2.1;omega)) ?_;refine bA ?_;refine⟨_,aI,{cX with kind:=s.kind,table:=tb,row:=s.row},dY s.row,(by unfold dD;rw[if_neg cJ,if_pos en,j3]),(by unfold dO;rw[if_neg cJ,if_pos en]),rfl⟩
  refine af [1,3,5,22,39] ?_;refine au ?_ ?_<;>intro dW fB
  ·refine CD.seq ?_;refine gP 22 (av (eraseIdx _ 0)) ?_ (fun _ h=>(Sublist.map _ (eraseIdx_sublist _ 0)).subset h);refine aD 0 rfl (dQ 4) ?_;refine aD 1 rfl (dS 1) ?_;refine aD 2 rfl (dQ 5) ?_;refine aD 3 rfl (dS 1) ?_;refine aD 4 rfl (dQ 6) ?_;refine aD 5 rfl (dS 1) ?_;refine aD 6 rfl (dQ 7) ?_;refine aD 7 rfl (dS 1) ?_;refine aD 8 rfl (dQ 8) ?_;refine aD 9 rfl (dS 1) ?_;refine aD 10 rfl (dQ 9) ?_;refine aD 11 rfl (dS 1) ?_;refine aD 12 rfl (dQ 4) ?_;refine dM.later rfl ?_;refine AD.one (i:=13) aC ?_;refine ee 0 [_,_,_,_,_,_,_,_,_,_,_,_] sizeOf41 ?_;refine dm 14 rfl (dQ 5) ?_;refine AD.one (i:=15) aC ?_;refine ee 0 [_,_,_,_,_,_,_,_,_,_,_,_] sizeOf4 ?_;refine dm 16 rfl (dQ 6) ?_;refine AD.one (i:=17) aC ?_;refine ee 0 [_,_,_,_,_,_,_,_,_,_,_,_] sizeOf42 ?_;refine dm 18 rfl (dQ 7) ?_;refine AD.one (i:=19) aC ?_;refine ee 0 [_,_,_,_,_,_,_,_,_,_,_,_] sizeOf9 ?_;refine dm 20 rfl (dQ 8) ?_;refine AD.one (i:=21) aC ?_;refine ee 0 [_,_,_,_,_,_,_,_,_,_,_,_] sizeOf4 ?_;refine fm ?_;refine aH 1 ?_;refine aP 0 [_,_,_,_,_,_,_,_,_,_,_,_] sizeOf3 ?_;refine an 102 [1,3] ?_;refine gl [1,3,5] ?_;refine cf (I) ?_;refine bA ?_;refine⟨_,aI,{cX with kind:=s.kind,table:=tb,names:=s.names,count:=s.count,aj:=s.aj,order:=s.order,down:=s.down,iE:=s.iE},px s,(by unfold dD;rw[if_neg cJ,if_neg en,if_pos fB,j3]),(by unfold dO;rw[if_neg cJ,if_neg en,if_pos fB]),rfl⟩
  refine af [1,3,5,22,61] ?_;refine au ?_ ?_<;>intro fF gM
  ·refine CD.seq ?_;refine gP 10 (av (eraseIdx _ 0)) ?_ (fun _ h=>(Sublist.map _ (eraseIdx_sublist _ 0)).subset h);refine aD 0 rfl (dQ 10) ?_;refine aD 1 rfl (dS 1) ?_;refine aD 2 rfl (dQ 11) ?_;refine aD 3 rfl (dS 1) ?_;refine aD 4 rfl (dQ 6) ?_;refine aD 5 rfl (dS 1) ?_;refine aD 6 rfl (dQ 10) ?_;refine dM.later rfl ?_;refine AD.one (i:=7) aC ?_;refine ee 0 [_,_,_,_,_,_,_,_,_,_,_,_] sizeOf9 ?_;refine dm 8 rfl (dQ 11) ?_;refine AD.one (i:=9) aC ?_;refine ee 0 [_,_,_,_,_,_,_,_,_,_,_,_] sizeOf42 ?_;refine fm ?_;refine aH 1 ?_;refine aP 0 [_,_,_,_,_,_,_,_,_,_,_,_] sizeOf42 ?_;refine an 102 [1,3] ?_;refine cL [1,3,5] (vj hm hw s.set hf.e) ?_;refine af [1,3,5,76] ?_;refine au ?_ ?_<;>intro iw oS
   ·have Z:cW s.set=0:=(by simpa using iw)
    refine gl [1,3,5] ?_;refine cf (Km hm hw s.bF (fun o h=>(hf.x o h).1)) ?_;refine bA ?_;refine af [1,3,5,81] ?_;refine au ?_ ?_<;>intro iy mF
    ·have OH:jk s.bF=0:=(by simpa using iy)
     refine gl [1,3,5] ?_;refine cf (EP hm hw s.aj (fun o h=>(hf.w o h).1)) ?_;refine bA ?_;refine⟨_,aI,{cX with kind:=s.kind,table:=tb,set:=s.set,bF:=s.bF,aj:=s.aj},nY s.aj,NE,(by unfold dO;rw[if_neg cJ,if_neg en,if_neg fB,if_pos gM,if_pos Z,if_pos OH]),rfl⟩
    have OH:¬jk s.bF=0:=(by simpa using iy)
    refine CD.skip ?_;refine⟨_,aI,{cX with kind:=s.kind,table:=tb,set:=s.set,bF:=s.bF,aj:=s.aj},jk s.bF,NE,(by unfold dO;rw[if_neg cJ,if_neg en,if_neg fB,if_pos gM,if_pos Z,if_neg OH]),rfl⟩
   have Z:¬cW s.set=0:=(by simpa using iw)
   refine af [1,3,5,81] ?_;refine au ?_ ?_<;>intro iy mF
   ·exact absurd iy (by simp[Z])
   refine CD.skip ?_;refine⟨_,aI,{cX with kind:=s.kind,table:=tb,set:=s.set,bF:=s.bF,aj:=s.aj},cW s.set,NE,(by unfold dO;rw[if_neg cJ,if_neg en,if_neg fB,if_pos gM,if_neg Z]),rfl⟩
  refine af [1,3,5,85] ?_;refine au ?_ ?_<;>intro qk E
  ·refine aB 3 ?_;refine aP 0 [_,_,_,_,_,_,_,_,_,_,_,_] sizeOf42 ?_;refine an 102 [1,3] ?_;refine gl [1,3,5] ?_;refine cf (EP hm hw s.aj (fun o h=>(hf.w o h).1)) ?_;refine bA ?_;refine⟨_,aI,{cX with kind:=s.kind,table:=tb,aj:=s.aj},nY s.aj,(by unfold dD;rw[if_neg cJ,if_neg en,if_neg fB,if_neg gM,if_pos E,j3]),(by unfold dO;rw[if_neg cJ,if_neg en,if_neg fB,if_neg gM,if_pos E]),rfl⟩
  refine CD.skip ?_;refine⟨_,aI,{cX with kind:=s.kind,table:=tb},0,(by unfold dD;rw[if_neg cJ,if_neg en,if_neg fB,if_neg gM,if_neg E,j3]),(by unfold dO;rw[if_neg cJ,if_neg en,if_neg fB,if_neg gM,if_neg E]),rfl⟩
 rintro _ ⟨H,e,hH,DS,rfl⟩;refine CD.seq ?_;refine CD.seq ?_;have V3:=afs (G:=G) s H;unfold aY at V3;refine dw 3 ?_;refine bZ 95 (fun Xb aip=>?_) (fun Xb aip=>?_)
 ·refine aH 2 ?_;refine OD.iD iN rfl rfl rfl call80 (V3) ⟨ot,ot,trivial⟩ ?_;refine an 102 [5,100] ?_;refine au ?_ ?_<;>intro uS CP
  ·have aV:di s=6:=(by unfold di;rw[if_neg o9,if_pos ⟨by rw[<-DS];simpa using Xb,by rw[<-hH];simpa using uS⟩])
   refine bM [5] ?_;exact Mg
  have aV:di s=e:=(by unfold di;rw[if_neg o9,if_neg (by rw[<-DS,<-hH];exact(fun h=>by obtain⟨h1,h2⟩:=h;simp_all)),DS])
  exact Mg
 refine bu [5,100] ?_;refine gm ?_;have aV:di s=e:=(by unfold di;rw[if_neg o9,if_neg (by rw[<-DS,<-hH];exact(fun h=>by obtain⟨h1,h2⟩:=h;simp_all)),DS])
 refine af [2] ?_;refine eZ ?_;exact⟨by first|rw[aV]|rw[aV];rfl,rfl⟩

theorem QR:∀(l:List bf) (H:List (List Tk)),(l.foldl oP H).flatten.length<=H.flatten.length+5*l.length
 | [],H=>by simp
 | o::r,H=>by
  have h1:=QR r (oP H o);have h2:=QN (h:=H) (o:=o);rw[foldl_cons,length_cons];omega
theorem E0(l:List bf):(rC l).length<=5*l.length:=by
 have h:=QR l [];have h2:=(u0 (h:=l.foldl oP []) (n:=0)).1;have h3:=Bh (l.foldl oP []) 0;simp only[List.take_zero,flatten_nil,length_nil] at h h3;unfold rC;omega
theorem QS(l:List bf):(kQ l).length<=5*l.length+1:=by
 have h:=E0 l;unfold kQ;split
 ·simp
 rw[length_append,length_map];simp only[length_cons,length_nil];omega
def kp(ns:List ByteArray):Nat->List Tk
 | 0=>[]
 | i+1=>kp ns i++(if i>0 then [dV ⟨#[44]⟩] else [])++[bH (ns.getD i ⟨#[]⟩)]
theorem Jq(E:List ByteArray):∀i,(kp E i).length<=2*i
 | 0=>Nat.le_refl _
 | i+1=>by
  have ih:=Jq E i;have h3:(if i>0 then [dV ⟨#[44]⟩] else []).length<=1:=(by split<;>simp)
  unfold kp;rw[length_append,length_append];simp only[length_cons,length_nil];omega
theorem IU(hi:i<E.length)(h:0<i)(X:List Tk):((X++kp E i)++[dV ⟨#[44]⟩])++[bH E[i]]=X++kp E (i+1):=by
 rw[kp,if_pos h,mV hi];simp only[append_assoc]
theorem IG(hi:i<E.length)(h:¬0<i)(X:List Tk):(X++kp E i)++[bH E[i]]=X++kp E (i+1):=by
 rw[kp,if_neg h,mV hi];simp only[append_assoc,append_nil]
def zT(s:bp):List Tk:=if s.count=true then [bH ⟨#[67,79,85,78,84]⟩,dV ⟨#[40]⟩,dV ⟨#[42]⟩,dV ⟨#[41]⟩] else if s.names.length=0 then [dV ⟨#[42]⟩] else kp s.names s.names.length
def CQ(s:bp):List Tk:=if ja s.order ⟨#[]⟩=true then [] else [⟨#[79,82,68,69,82]⟩,⟨#[66,89]⟩,s.order].map bH++(if s.down=true then [bH ⟨#[68,69,83,67]⟩] else [])
def MH(s:bp):List Tk:=if 0<=s.iE then [bH ⟨#[76,73,77,73,84]⟩,⟨2,⟨#[]⟩,s.iE⟩] else []
def Ci(s:bp):List Tk:=((([⟨#[83,69,76,69,67,84]⟩].map bH++zT s)++[⟨#[70,82,79,77]⟩,s.table].map bH++kQ s.aj)++CQ s)++MH s
theorem sc:(Tryz.prog.info? 153).map (fun i=>(i.zero,i.size,i.bytes))=some (some (.agg #[.int .i64 0,.string ⟨#[]⟩,.int .i64 0]),3,32):=by kernel_rfl
theorem aab : ∀ w, ((#[{ name := "Kind", type := 3, offset := 0, embedded := false, tag := "", pkgPath := "", byteOffset := 0 }, { name := "Text", type := 9, offset := 1, embedded := false, tag := "", pkgPath := "", byteOffset := 8 }, { name := "Int", type := 3, offset := 2, embedded := false, tag := "", pkgPath := "", byteOffset := 24 }] : Array Field).mapM fun f => do pure (f.offset, ← sizeOf f.type) : Sem (Array (Nat × Nat))).run Tryz.prog w = .ok #[(0, 1), (1, 1), (2, 1)] w := fun w => by simp [sizeOf3, sizeOf9]
theorem aaH(s:bp)(hf:dZ s)(DT:s.aj.length=0\/fR 0 s.aj=0):VP Tryz.prog G 84 [.agg (aY s)] (.list 3 ((Ci s).flatMap cT) (Ci s).length):=by
 refine VC.body func84 rfl ntmps84 aU fun X0 w0 bj=>?_;have cR:=dI;have h6:=hf.ok.2.2.1;have qv:=hf.ok.2.2.2.1;have HY:=QS s.aj;have OI:=E0 s.aj;unfold aY;refine bS ?_;refine OD.box (ds:=[_,_,_,_,_,_,_,_,_,_,_,_]) aq rfl rfl ot rfl rfl (fun b1=>?_);refine an 84 [1] ?_;refine bS ?_;refine ey (cu 0 [_]) [.string ⟨#[]⟩] [_] zeroValue9 runUnderlying41 sizeOf9 (fun b6=>?_);refine OD.perm (dU (S1:=[⟨b6,9,1*1,flatMap cS ([⟨#[83,69,76,69,67,84]⟩])⟩]) (A:=[_])) ?_;refine OD.gK (t:=6) (Sq:=[⟨b6,9,1*1,flatMap cS ([⟨#[83,69,76,69,67,84]⟩])⟩]) lk (bJ (g:=cS) (sz:=1) (e:=9) (ls:=[⟨#[83,69,76,69,67,84]⟩]) (Nat.le_refl _) (show 1<=maxLen by decide)) (cm jU _) (cZ (A:=[_])) ?_;refine OD.call aq rfl rfl rfl call81 (zB [⟨#[83,69,76,69,67,84]⟩] AG) ⟨ot,trivial⟩ (eX _) ?_;rintro _ S7 ⟨Zh,Zi,rfl,ql⟩;refine OD.perm (dU (A:=[_])) ?_;refine an 84 [1,3] ?_;refine iH [1] (fun aS _ aE=>∃(Q:List Tk),∃(ad:Option Addr),∃(cp:Nat),∃(Sx:List ah),(Q=[⟨#[83,69,76,69,67,84]⟩].map bH++zT s)/\(bn 153 3 (Q.flatMap cT) Q.length ad cp Sx)/\(Q.length<=20)/\aE=(⟨84,(3,aT ad Q.length cp)::aS,(⟨b1,44,12,[ae s.kind,bg s.table,ap 2 cC s.ay,ap 3 cV s.row,ap 1 cS s.names,bP s.count,ap 5 cO s.aj,bg s.order,bP s.down,ae s.iE,bg s.set,ap 5 cO s.bF]⟩::Sx)⟩:St)) ?_ ?_
 ·refine af [1,3,28] ?_;refine au ?_ ?_<;>intro aJ bz
  ·refine dw 1 ?_;refine ez call122 (rp ⟨#[67,79,85,78,84]⟩) ?_;refine ez call86 (ny ⟨#[40]⟩) ?_;refine ez call86 (ny ⟨#[42]⟩) ?_;refine ez call86 (ny ⟨#[41]⟩) ?_;refine ey (cu 0 [_,_,_,_]) [.int .i64 0,.string ⟨#[]⟩,.int .i64 0,.int .i64 0,.string ⟨#[]⟩,.int .i64 0,.int .i64 0,.string ⟨#[]⟩,.int .i64 0,.int .i64 0,.string ⟨#[]⟩,.int .i64 0] [_,_,_,_,_,_,_,_,_,_,_,_] zeroValue153 runUnderlying101 sizeOf153 (fun HZ=>?_);refine fD 0 36 3 4 ?_;refine OD.eG (ls:=([⟨#[83,69,76,69,67,84]⟩].map bH)) (new:=[bH ⟨#[67,79,85,78,84]⟩,dV ⟨#[40]⟩,dV ⟨#[42]⟩,dV ⟨#[41]⟩]) (Sq:=S7) jf lX aq rfl rfl underlying101 sc rfl w8 ot ql (cZ (A:=[_])) ot bq qf w9 (fun OJ U akl akm=>?_);refine OD.perm (dU (S1:=[⟨OJ,153,U*3,flatMap cT (([⟨#[83,69,76,69,67,84]⟩].map bH)++[bH ⟨#[67,79,85,78,84]⟩,dV ⟨#[40]⟩,dV ⟨#[42]⟩,dV ⟨#[41]⟩])⟩]) (A:=[_])) ?_;refine an 84 [1,3] ?_;refine⟨_,aI,(([⟨#[83,69,76,69,67,84]⟩].map bH)++[bH ⟨#[67,79,85,78,84]⟩,dV ⟨#[40]⟩,dV ⟨#[42]⟩,dV ⟨#[41]⟩]),(some ⟨OJ,0,none⟩),U,[⟨OJ,153,U*3,flatMap cT (([⟨#[83,69,76,69,67,84]⟩].map bH)++[bH ⟨#[67,79,85,78,84]⟩,dV ⟨#[40]⟩,dV ⟨#[42]⟩,dV ⟨#[41]⟩])⟩],(by unfold zT;rw[if_pos bz]),(bJ akl akm),No,rfl⟩
  refine af [1,3,38] ?_;refine au ?_ ?_<;>intro aX cr
  ·refine dw 1 ?_;refine ez call86 (ny ⟨#[42]⟩) ?_;refine ey (cu 0 [_]) [.int .i64 0,.string ⟨#[]⟩,.int .i64 0] [_,_,_] zeroValue153 runUnderlying101 sizeOf153 (fun b45=>?_);refine fD 0 45 3 1 ?_;refine OD.eG (ls:=([⟨#[83,69,76,69,67,84]⟩].map bH)) (new:=[dV ⟨#[42]⟩]) (Sq:=S7) jf lX aq rfl rfl underlying101 sc rfl w8 ot ql (cZ (A:=[_])) ot bq qf w9 (fun AV Z akn ako=>?_);refine OD.perm (dU (S1:=[⟨AV,153,Z*3,flatMap cT (([⟨#[83,69,76,69,67,84]⟩].map bH)++[dV ⟨#[42]⟩])⟩]) (A:=[_])) ?_;refine an 84 [1,3] ?_;refine⟨_,aI,(([⟨#[83,69,76,69,67,84]⟩].map bH)++[dV ⟨#[42]⟩]),(some ⟨AV,0,none⟩),Z,[⟨AV,153,Z*3,flatMap cT (([⟨#[83,69,76,69,67,84]⟩].map bH)++[dV ⟨#[42]⟩])⟩],(by unfold zT;rw[if_neg xL,if_pos w4]),(bJ akn ako),No,rfl⟩
  refine af [1,3,9,10,11] ?_;refine CD.block ?_;refine nu (fun (aO:Nat×Option Addr×Nat×List ah) aE=>match aO with|(i,DU,DV,So)=>(i<=s.names.length)/\(bn 153 3 ((([⟨#[83,69,76,69,67,84]⟩].map bH++kp s.names i)).flatMap cT) (([⟨#[83,69,76,69,67,84]⟩].map bH++kp s.names i)).length DU DV So)/\aE=(⟨84,[(1,cY b1),(3,aT DU (([⟨#[83,69,76,69,67,84]⟩].map bH++kp s.names i)).length DV),(9,ap 1 cS s.names),(10,ae (s.names.length:Nat)),(11,ae (i:Nat))],((⟨b1,44,12,[ae s.kind,bg s.table,ap 2 cC s.ay,ap 3 cV s.row,ap 1 cS s.names,bP s.count,ap 5 cO s.aj,bg s.order,bP s.down,ae s.iE,bg s.set,ap 5 cO s.bF]⟩:ah)::So)⟩:St)) (fun (aO:Nat×Option Addr×Nat×List ah)=>match aO with|(i,DU,DV,So)=>s.names.length-i) (0,Zh,Zi,S7) ⟨(Nat.zero_le _),(bn.cast ql (by simp[kp])),rfl⟩ (aI (h:=by repeat (first|exact trivial|refine⟨Ns,?_⟩))) ?_;rintro⟨i,DU,DV,So⟩ _ ⟨hi,yJ,rfl⟩;refine af [1,3,9,10,11,12] ?_;refine au ?_ ?_<;>intro bL cJ
  ·have aa:i<s.names.length:=(by simp at bL;omega)
   have fx:=Jq s.names i;refine af [1,3,4,5,9,10,11] ?_;refine af [1,3,5,9,10,11,17] ?_;refine au ?_ ?_<;>intro cN en
   ·refine dw 1 ?_;refine ez call86 (ny ⟨#[44]⟩) ?_;refine ey (cu 0 [_]) [.int .i64 0,.string ⟨#[]⟩,.int .i64 0] [_,_,_] zeroValue153 runUnderlying101 sizeOf153 (fun OE=>?_);refine fD 0 20 3 1 ?_;refine OD.eG (ls:=(([⟨#[83,69,76,69,67,84]⟩].map bH++kp s.names i))) (new:=[dV ⟨#[44]⟩]) (Sq:=So) jf lX aq rfl rfl underlying101 sc rfl w8 ot yJ (cZ (A:=[_])) ot bq qf w9 (fun DN Xc akp akq=>?_);refine OD.perm (dU (S1:=[⟨DN,153,Xc*3,flatMap cT ((([⟨#[83,69,76,69,67,84]⟩].map bH++kp s.names i))++[dV ⟨#[44]⟩])⟩]) (A:=[_])) ?_;refine an 84 [1,3,5,9,10,11] ?_;refine dw 2 ?_;refine ez call122 (rp s.names[i]) ?_;refine ey (cu 0 [_]) [.int .i64 0,.string ⟨#[]⟩,.int .i64 0] [_,_,_] zeroValue153 runUnderlying101 sizeOf153 (fun yK=>?_);refine fD 0 25 3 1 ?_;refine OD.eG (ls:=((([⟨#[83,69,76,69,67,84]⟩].map bH++kp s.names i))++[dV ⟨#[44]⟩])) (new:=[bH s.names[i]]) (Sq:=[⟨DN,153,Xc*3,flatMap cT ((([⟨#[83,69,76,69,67,84]⟩].map bH++kp s.names i))++[dV ⟨#[44]⟩])⟩]) jf lX aq rfl rfl underlying101 sc rfl w8 ot (bJ akp akq) (cZ (A:=[_])) ot bq qf w9 (fun I E MI MJ=>?_);refine OD.perm (dU (S1:=[⟨I,153,E*3,flatMap cT (((([⟨#[83,69,76,69,67,84]⟩].map bH++kp s.names i))++[dV ⟨#[44]⟩])++[bH s.names[i]])⟩]) (A:=[_])) ?_;refine an 84 [1,3,9,10,11] ?_;refine bM [1,3,9,10,11] ?_
    refine⟨((i+1),(some ⟨I,0,none⟩),E,[⟨I,153,E*3,flatMap cT (((([⟨#[83,69,76,69,67,84]⟩].map bH++kp s.names i))++[dV ⟨#[44]⟩])++[bH s.names[i]])⟩]),_,cn,(aI (h:=by repeat (first|exact trivial|refine⟨Ns,?_⟩))),w4,(bn.cast (bJ MI MJ) (by first|exact IU aa w4 _|exact IG aa w4 _)),rfl⟩
   refine dw 2 ?_;refine ez call122 (rp s.names[i]) ?_;refine ey (cu 0 [_]) [.int .i64 0,.string ⟨#[]⟩,.int .i64 0] [_,_,_] zeroValue153 runUnderlying101 sizeOf153 (fun yK=>?_);refine fD 0 25 3 1 ?_;refine OD.eG (ls:=(([⟨#[83,69,76,69,67,84]⟩].map bH++kp s.names i))) (new:=[bH s.names[i]]) (Sq:=So) jf lX aq rfl rfl underlying101 sc rfl w8 ot yJ (cZ (A:=[_])) ot bq qf w9 (fun I E MI MJ=>?_);refine OD.perm (dU (S1:=[⟨I,153,E*3,flatMap cT ((([⟨#[83,69,76,69,67,84]⟩].map bH++kp s.names i))++[bH s.names[i]])⟩]) (A:=[_])) ?_;refine an 84 [1,3,9,10,11] ?_;refine bM [1,3,9,10,11] ?_;refine⟨((i+1),(some ⟨I,0,none⟩),E,[⟨I,153,E*3,flatMap cT ((([⟨#[83,69,76,69,67,84]⟩].map bH++kp s.names i))++[bH s.names[i]])⟩]),_,cn,(aI (h:=by repeat (first|exact trivial|refine⟨Ns,?_⟩))),w4,(bn.cast (bJ MI MJ) (by first|exact IU aa w4 _|exact IG aa w4 _)),rfl⟩
  have uD:i=s.names.length:=(by simp at bL;omega)
  refine CD.exit ?_;refine⟨_,aI,(([⟨#[83,69,76,69,67,84]⟩].map bH++kp s.names i)),DU,DV,So,(by unfold zT;rw[if_neg xL,if_neg w4,uD]),yJ,No,rfl⟩
 rintro _ ⟨Q,ad,cp,Sx,hQ,dP,hQl,rfl⟩;refine aB 3 ?_;refine ey (cu 0 [_,_]) [.string ⟨#[]⟩,.string ⟨#[]⟩] [_,_] zeroValue9 runUnderlying41 sizeOf9 (fun AL=>?_);refine OD.perm (zg (S2:=[⟨AL,9,2*1,flatMap cS ([⟨#[70,82,79,77]⟩,s.table])⟩]) (A:=[_])) ?_;refine OD.gK (t:=50) (Sq:=[⟨AL,9,2*1,flatMap cS ([⟨#[70,82,79,77]⟩,s.table])⟩]) lk (bJ (g:=cS) (sz:=1) (e:=9) (ls:=[⟨#[70,82,79,77]⟩,s.table]) (Nat.le_refl _) (show 2<=maxLen by decide)) (cm jU _) (zf (A:=[_])) ?_;refine ez call81 (sG [⟨#[70,82,79,77]⟩,s.table] (by show 2<=10;decide)) ?_;refine OD.eG (ls:=Q) (new:=([⟨#[70,82,79,77]⟩,s.table].map bH)) (Sq:=Sx) jf lX aq rfl rfl underlying101 sc rfl w8 ot dP (cZ (A:=[_])) ot bq qf w9 (fun Zj Xd akr aks=>?_);refine OD.perm (dU (S1:=[⟨Zj,153,Xd*3,flatMap cT (Q++([⟨#[70,82,79,77]⟩,s.table].map bH))⟩]) (A:=[_])) ?_;refine an 84 [1,3] ?_;refine aB 3 ?_;refine ez call88 (Iz s.aj qv DT (fun o h=>(hf.w o h).2) w4) ?_;refine OD.pn (ls:=(Q++([⟨#[70,82,79,77]⟩,s.table].map bH))) (new:=(kQ s.aj)) (Sq:=[⟨Zj,153,Xd*3,flatMap cT (Q++([⟨#[70,82,79,77]⟩,s.table].map bH))⟩]) jf lX aq rfl rfl underlying101 sc rfl w8 runUnderlying101 sizeOf153 ot (bJ akr aks) (cZ (A:=[_])) ot qf w9 (fun akt aku H6 GO=>?_);refine OD.perm (dU (A:=[_])) ?_;refine an 84 [1,3] ?_
 refine iH [1] (fun aS _ aE=>∃(Q:List Tk),∃(ad:Option Addr),∃(cp:Nat),∃(Sx:List ah),(Q=(([⟨#[83,69,76,69,67,84]⟩].map bH++zT s)++[⟨#[70,82,79,77]⟩,s.table].map bH++kQ s.aj)++CQ s)/\(bn 153 3 (Q.flatMap cT) Q.length ad cp Sx)/\(Q.length<=500)/\aE=(⟨84,(3,aT ad Q.length cp)::aS,(⟨b1,44,12,[ae s.kind,bg s.table,ap 2 cC s.ay,ap 3 cV s.row,ap 1 cS s.names,bP s.count,ap 5 cO s.aj,bg s.order,bP s.down,ae s.iE,bg s.set,ap 5 cO s.bF]⟩::Sx)⟩:St)) ?_ ?_
 ·refine af [1,3,60] ?_;refine au ?_ ?_<;>intro dW fB
  ·refine aB 3 ?_;refine ey (cu 0 [_,_,_]) [.string ⟨#[]⟩,.string ⟨#[]⟩,.string ⟨#[]⟩] [_,_,_] zeroValue9 runUnderlying41 sizeOf9 (fun DW=>?_);refine OD.perm (zg (S2:=[⟨DW,9,3*1,flatMap cS ([⟨#[79,82,68,69,82]⟩,⟨#[66,89]⟩,s.order])⟩]) (A:=[_])) ?_;refine OD.gK (t:=64) (Sq:=[⟨DW,9,3*1,flatMap cS ([⟨#[79,82,68,69,82]⟩,⟨#[66,89]⟩,s.order])⟩]) lk (bJ (g:=cS) (sz:=1) (e:=9) (ls:=[⟨#[79,82,68,69,82]⟩,⟨#[66,89]⟩,s.order]) (Nat.le_refl _) (show 3<=maxLen by decide)) (cm jU _) (zf (A:=[_])) ?_;refine ez call81 (sG [⟨#[79,82,68,69,82]⟩,⟨#[66,89]⟩,s.order] (by show 3<=10;decide)) ?_;refine OD.eG (ls:=((Q++([⟨#[70,82,79,77]⟩,s.table].map bH))++(kQ s.aj))) (new:=([⟨#[79,82,68,69,82]⟩,⟨#[66,89]⟩,s.order].map bH)) (Sq:=H6) jf lX aq rfl rfl underlying101 sc rfl w8 ot GO (cZ (A:=[_])) ot bq qf w9 (fun pL O Aq Ar=>?_);refine OD.perm (dU (S1:=[⟨pL,153,O*3,flatMap cT (((Q++([⟨#[70,82,79,77]⟩,s.table].map bH))++(kQ s.aj))++([⟨#[79,82,68,69,82]⟩,⟨#[66,89]⟩,s.order].map bH))⟩]) (A:=[_])) ?_;refine an 84 [1,3] ?_;refine af [1,3,68] ?_;refine au ?_ ?_<;>intro fF gM
   ·refine dw 1 ?_;refine ez call122 (rp ⟨#[68,69,83,67]⟩) ?_;refine ey (cu 0 [_]) [.int .i64 0,.string ⟨#[]⟩,.int .i64 0] [_,_,_] zeroValue153 runUnderlying101 sizeOf153 (fun b71=>?_);refine fD 0 71 3 1 ?_;refine OD.eG (ls:=(((Q++([⟨#[70,82,79,77]⟩,s.table].map bH))++(kQ s.aj))++([⟨#[79,82,68,69,82]⟩,⟨#[66,89]⟩,s.order].map bH))) (new:=[bH ⟨#[68,69,83,67]⟩]) (Sq:=[⟨pL,153,O*3,flatMap cT (((Q++([⟨#[70,82,79,77]⟩,s.table].map bH))++(kQ s.aj))++([⟨#[79,82,68,69,82]⟩,⟨#[66,89]⟩,s.order].map bH))⟩]) jf lX aq rfl rfl underlying101 sc rfl w8 ot (bJ Aq Ar) (cZ (A:=[_])) ot bq qf w9 (fun OK MK akv akw=>?_);refine OD.perm (dU (S1:=[⟨OK,153,MK*3,flatMap cT ((((Q++([⟨#[70,82,79,77]⟩,s.table].map bH))++(kQ s.aj))++([⟨#[79,82,68,69,82]⟩,⟨#[66,89]⟩,s.order].map bH))++[bH ⟨#[68,69,83,67]⟩])⟩]) (A:=[_])) ?_;refine an 84 [1,3] ?_;refine⟨_,aI,((((Q++([⟨#[70,82,79,77]⟩,s.table].map bH))++(kQ s.aj))++([⟨#[79,82,68,69,82]⟩,⟨#[66,89]⟩,s.order].map bH))++[bH ⟨#[68,69,83,67]⟩]),(some ⟨OK,0,none⟩),MK,[⟨OK,153,MK*3,flatMap cT ((((Q++([⟨#[70,82,79,77]⟩,s.table].map bH))++(kQ s.aj))++([⟨#[79,82,68,69,82]⟩,⟨#[66,89]⟩,s.order].map bH))++[bH ⟨#[68,69,83,67]⟩])⟩],(by rw[hQ];unfold CQ;rw[if_neg (by unfold ja;simpa using dW),if_pos gM];simp only[append_assoc]),(bJ akv akw),w9,rfl⟩
   refine CD.skip ?_;refine⟨_,aI,(((Q++([⟨#[70,82,79,77]⟩,s.table].map bH))++(kQ s.aj))++([⟨#[79,82,68,69,82]⟩,⟨#[66,89]⟩,s.order].map bH)),(some ⟨pL,0,none⟩),O,[⟨pL,153,O*3,flatMap cT (((Q++([⟨#[70,82,79,77]⟩,s.table].map bH))++(kQ s.aj))++([⟨#[79,82,68,69,82]⟩,⟨#[66,89]⟩,s.order].map bH))⟩],(by rw[hQ];unfold CQ;rw[if_neg (by unfold ja;simpa using dW),if_neg (by simpa using fF)];simp only[append_assoc,append_nil]),(bJ Aq Ar),w9,rfl⟩
  refine CD.skip ?_;refine⟨_,aI,((Q++([⟨#[70,82,79,77]⟩,s.table].map bH))++(kQ s.aj)),akt,aku,H6,(by rw[hQ];unfold CQ;rw[if_pos (by unfold ja;simpa using dW)];simp),GO,w9,rfl⟩
 rintro _ ⟨Q,ad,cp,Sx,hQ,dP,hQl,rfl⟩;refine af [1,3,75] ?_;refine au ?_ ?_<;>intro iw oS
 ·refine gP 7 (av (take 1 _)) ?_ (fun _ h=>(Sublist.map _ (take_sublist _ _)).subset h);refine aD 0 rfl bD ?_;refine aD 2 rfl (dQ 9) ?_;refine aD 3 rfl (dS 0) ?_;refine aD 4 rfl (pi (pl:=[(0,_),(2,_)]) (ds:=[_,_,_]) rfl zeroValue153 runUnderlying153 aab ⟨rfl,bV,rfl,ot,trivial⟩ rfl rfl) ?_;refine dM.later rfl ?_;refine AD.one (i:=1) aC ?_;refine qm call122 (rp ⟨#[76,73,77,73,84]⟩) ?_;refine AD.one (i:=5) aC ?_;refine nq (cu 0 [_,_]) [.int .i64 0,.string ⟨#[]⟩,.int .i64 0,.int .i64 0,.string ⟨#[]⟩,.int .i64 0] [_,_,_,_,_,_] zeroValue153 runUnderlying101 sizeOf153 (fun b81=>?_);refine nQ 0 81 3 2 ?_;refine AD.one (i:=6) aC ?_;refine bC.eG (ls:=Q) (new:=[bH ⟨#[76,73,77,73,84]⟩,(⟨2,⟨#[]⟩,s.iE⟩:Tk)]) (Sq:=Sx) jf lX rfl aq rfl rfl underlying101 sc rfl w8 ot dP (cZ (A:=[_])) ot bq qf w9 (fun Zk Xe akx aky=>?_);refine AD.perm (dU (S1:=[⟨Zk,153,Xe*3,flatMap cT (Q++[bH ⟨#[76,73,77,73,84]⟩,(⟨2,⟨#[]⟩,s.iE⟩:Tk)])⟩]) (A:=[_])) ?_;refine fm ?_;refine bu [3] ?_;refine af [2] ?_;refine CD.gK (t:=2) (Sq:=[⟨Zk,153,Xe*3,flatMap cT (Q++[bH ⟨#[76,73,77,73,84]⟩,(⟨2,⟨#[]⟩,s.iE⟩:Tk)])⟩]) lk (bJ akx aky) (cm jf _) (cZ (A:=[_])) ?_;refine eZ ?_;refine⟨?_,rfl⟩;rw[hQ];unfold Ci MH;rw[if_pos w4]
 refine af [2] ?_;refine CD.gK (t:=2) (Sq:=Sx) lk dP (cm jf _) (cZ (A:=[_])) ?_;refine aK [] ?_;refine⟨?_,rfl⟩;rw[hQ];unfold Ci MH;rw[if_neg w4];simp only[append_nil]

def LM(k:Int):ByteArray:=ag4.getD k.toNat ⟨#[]⟩
theorem adO{k:Int}(h1:1<=k)(h2:k<=3):typesC[0+k.toNat*1]?=some (.string (LM k)):=by
 have h:k=1\/k=2\/k=3:=(by omega)
 rcases h with rfl|rfl|rfl<;>rfl
def jy(c:cy):List Tk:=[c.n,LM c.k].map bH
def GP:List ByteArray:=[⟨#[66,69,71,73,78]⟩,⟨#[67,79,77,77,73,84]⟩,⟨#[82,79,76,76,66,65,67,75]⟩]
def rD(s:bp):List Tk :=
 if s.kind=1 then [⟨#[67,82,69,65,84,69]⟩,⟨#[84,65,66,76,69]⟩,s.table].map bH++mE (s.ay.map jy)
 else if s.kind=2 then [⟨#[68,82,79,80]⟩,⟨#[84,65,66,76,69]⟩,s.table].map bH
 else if s.kind=3 then [⟨#[73,78,83,69,82,84]⟩,⟨#[73,78,84,79]⟩,s.table,⟨#[86,65,76,85,69,83]⟩].map bH++mE (s.row.map jE)
 else if s.kind=4 then Ci s
 else if s.kind=5 then [[⟨#[85,80,68,65,84,69]⟩,s.table,⟨#[83,69,84]⟩,s.set].map bH,[dV ⟨#[61]⟩],rC s.bF,kQ s.aj].flatten
 else if s.kind=6 then [⟨#[68,69,76,69,84,69]⟩,⟨#[70,82,79,77]⟩,s.table].map bH++kQ s.aj
 else [GP.getD (s.kind-7).toNat ⟨#[]⟩].map bH
structure Zl (s:bp):Prop where
 fin:dZ s
 k1:1<=s.kind
 k9:s.kind<=9
 c:s.kind=1->∀c∈s.ay,1<=c.k/\c.k<=3
 r:s.kind=3->∀v∈s.row,nv v
 w:s.kind=4\/s.kind=5\/s.kind=6->s.aj.length=0\/fR 0 s.aj=0
 t:s.kind=5->fR 0 s.bF=0
theorem R9(ts:List (List Tk)):0<(mE ts).length:=by unfold mE;rw[length_append];simp
theorem Se{ts:List (List Tk)}(h:∀x∈ts,x.length<=10):(mE ts).length<=2+11*ts.length:=by
 have h1:=Fy h ts.length;unfold mE;rw[length_append];simp only[length_cons,length_nil];omega
theorem Kp(l:List cy):∀x∈l.map jy,x.length<=10:=fun x hx=>by obtain⟨c,_,rfl⟩:=mem_map.1 hx;show 2<=10;decide
theorem Si(l:List Vl):∀x∈l.map jE,x.length<=10:=fun x hx=>by obtain⟨v,_,rfl⟩:=mem_map.1 hx;have:=QM v;omega
theorem P0:(Tryz.prog.info? 101).map (fun i=>(i.zero,i.size,i.bytes))=some (some (.slice none 0 0),1,24):=by kernel_rfl
theorem ID:(Tryz.prog.info? 153).map (fun i=>(i.zero,i.size,i.bytes))=some (some (.agg #[.int .i64 0,.string ⟨#[]⟩,.int .i64 0]),3,32):=by kernel_rfl
theorem aft(hty:(0,typesC)∈G)(s:bp)(hs:Zl s):VP Tryz.prog G 42 [.agg (aY s)] (.list 3 ((rD s).flatMap cT) (rD s).length):=by
 refine VC.body func42 rfl ntmps42 aU fun X0 w0 bj=>?_;have cR:=dI;have hf:=hs.fin;have h6:=hf.ok.1;have h6r:=hf.ok.2.1;have qv:=hf.ok.2.2.2.1;have akz:=hf.ok.2.2.2.2;have HY:=QS s.aj;have OI:=E0 s.aj;have GQ:=E0 s.bF;have fj:=Se (Kp s.ay);have qT:=Se (Si s.row);have I:=aaH (G:=G) s hf
 (first|rw[length_map] at fj|(unfold ap at fj;rw[length_map] at fj));(first|rw[length_map] at qT|(unfold ap at qT;rw[length_map] at qT))
 unfold aY at I;unfold aY;refine bS ?_;refine OD.box (ds:=[_,_,_,_,_,_,_,_,_,_,_,_]) aq rfl rfl ot rfl rfl (fun b1=>?_);refine an 107 [1] ?_;refine cz [1,10] ?_;refine aR 1 ?_ (h:=uH);refine iz ?_;refine af [1,10,11] ?_;refine au ?_ ?_<;>intro aJ bz
 ·refine bS ?_;refine bu [1,3] ?_;refine cz [1,3,14,15,16] ?_;refine aR 1 ?_ (h:=uH);refine bA ?_;refine CD.block ?_;refine nu (fun (aO:Nat×Option Addr×Nat×List ah) aE=>match aO with|(i,dj,cU,Sx)=>(i<=s.ay.length)/\(bn 101 1 (((s.ay.take i).map jy).flatMap cK) ((s.ay.take i).map jy).length dj cU Sx)/\aE=(⟨107,[(1,cY b1),(3,aT dj ((s.ay.take i).map jy).length cU),(14,ap 2 cC s.ay),(15,ae (s.ay.length:Nat)),(16,ae (i:Nat))],((⟨b1,44,12,[ae s.kind,bg s.table,ap 2 cC s.ay,ap 3 cV s.row,ap 1 cS s.names,bP s.count,ap 5 cO s.aj,bg s.order,bP s.down,ae s.iE,bg s.set,ap 5 cO s.bF]⟩:ah)::Sx)⟩:St)) (fun (aO:Nat×Option Addr×Nat×List ah)=>match aO with|(i,dj,cU,Sx)=>s.ay.length-i) (0,none,0,[]) ⟨(Nat.zero_le _),(bn.cast iR jZ),rfl⟩ (aI (h:=by repeat (first|exact trivial|refine⟨(by (repeat (first|exact fK|(apply gb;focus (first|rfl|(simp;done)|(congr 2;omega)|(apply eP;exact ua jy aa)|(apply eP;simp;done)))|(apply fO;focus rfl)));done),?_⟩))) ?_;rintro⟨i,dj,cU,Sx⟩ _ ⟨hi,dP,rfl⟩;refine af [1,3,14,15,16,17] ?_;refine au ?_ ?_<;>intro aX cr
  ·have aa:i<s.ay.length:=(by simp at aX;omega)
   have Zm:=hs.c bz _ (getElem_mem aa);refine aB 1 ?_;refine bN (dz (mk:=Op.load 93) rfl ot (by first|exact qD (k:=0) (ds:=[_,_]) rfl rfl isAgg93 sizeOf93 rfl rfl|exact kH lV isAgg93 sizeOf93 w5|exact kH fG isAgg93 sizeOf93 w5|exact kH jU isAgg93 sizeOf93 w5|exact dJ (k:=0) lV rfl rfl rfl isAgg93 sizeOf93 w5|exact dJ (k:=0) fG rfl rfl rfl isAgg93 sizeOf93 w5|exact dJ (k:=0) jU rfl rfl rfl isAgg93 sizeOf93 w5|exact qG (ds:=[_,_]) isAgg93 sizeOf93 rfl rfl)) ?_;refine OD.alloc (ds:=[_,_]) aq rfl rfl zeroValue93 rfl (fun b5=>?_);refine aP 0 [_,_] sizeOf93 ?_;refine an 107 [1,3,5,14,15,16] ?_;refine gP 11 (av (take 2 _)) ?_ (fun _ h=>(Sublist.map _ (take_sublist _ _)).subset h);refine aD 0 rfl bD ?_;refine aD 1 rfl (dQ 0) ?_;refine aD 2 rfl fN ?_;refine aD 3 rfl (dQ 1) ?_;refine aD 4 rfl fN ?_;refine aD 5 rfl (nV (mk:=Op.indexAddr 148) rfl wT ot (by first|exact Vg runUnderlying148 sizeOf9 rfl w5|exact Vg (j:=Int.toNat _) runUnderlying148 sizeOf9 (Int.toNat_of_nonneg w4).symm w4)) ?_
   refine aD 6 rfl (dz (mk:=Op.load 9) rfl ot (by first|exact zA (k:=0) rfl rfl isAgg9 rfl|exact zA (k:=1) rfl rfl isAgg9 rfl|exact vv lV isAgg9 w5 rfl|exact ry lV isAgg9 w5 rfl|exact vv fG isAgg9 w5 rfl|exact ry fG isAgg9 w5 rfl|exact vv jU isAgg9 w5 rfl|exact ry jU isAgg9 w5 rfl|exact lG (k:=0) lV rfl rfl rfl isAgg9 w5 rfl|exact jj (k:=0) lV rfl rfl rfl isAgg9 w5 rfl|exact lG (k:=1) lV rfl rfl rfl isAgg9 w5 rfl|exact jj (k:=1) lV rfl rfl rfl isAgg9 w5 rfl|exact lG (k:=0) fG rfl rfl rfl isAgg9 w5 rfl|exact jj (k:=0) fG rfl rfl rfl isAgg9 w5 rfl|exact lG (k:=1) fG rfl rfl rfl isAgg9 w5 rfl|exact jj (k:=1) fG rfl rfl rfl isAgg9 w5 rfl|exact lG (k:=0) jU rfl rfl rfl isAgg9 w5 rfl|exact jj (k:=0) jU rfl rfl rfl isAgg9 w5 rfl|exact lG (k:=1) jU rfl rfl rfl isAgg9 w5 rfl|exact jj (k:=1) jU rfl rfl rfl isAgg9 w5 rfl|exact CG isAgg9 rfl|exact agF hty isAgg9 (adO Zm.1 Zm.2))) ?_;refine dM.later rfl ?_;refine AD.one (i:=7) aC ?_;refine nq (cu 0 [_,_]) [.string ⟨#[]⟩,.string ⟨#[]⟩] [_,_] zeroValue9 runUnderlying41 sizeOf9 (fun b27=>?_);refine nQ 0 27 1 2 ?_;refine AD.one (i:=8) aC ?_;refine qm call81 (sG [s.ay[i].n,LM s.ay[i].k] (by show 2<=10;decide)) ?_;refine AD.one (i:=9) aC ?_;refine nq (cu 0 [_]) [.slice none 0 0] [_] zeroValue101 runUnderlying146 sizeOf101 (fun b29=>?_)
   refine nQ 0 29 1 1 ?_;refine AD.one (i:=10) aC ?_;refine bC.EV (Sq:=Sx) (R:=[_,_]) rfl aq rfl rfl underlying146 P0 rfl w8 ot dP (perm_append_comm (l₁:=[_,_])) (cm gr _) ot (sF pY [jy s.ay[i]]) w8 (by rw[length_map,length_take];simp only[maxLen];omega) (by rw[length_map,length_take];omega) iL (fun OL O ML MM=>?_);refine AD.perm (dU (S1:=[⟨OL,101,O*1,flatMap cK ((s.ay.take i).map jy)++flatMap cK [jy s.ay[i]]⟩]) (A:=[_,_])) ?_;rw[show flatMap cK ((s.ay.take i).map jy)++flatMap cK [jy s.ay[i]]=flatMap cK ((s.ay.take i).map jy++[jy s.ay[i]]) from List.flatMap_append.symm,show((s.ay.take i).map jy).length+1=((s.ay.take i).map jy++[jy s.ay[i]]).length from by rw[length_append];rfl];refine fm ?_;refine bu [1,3,14,15,16] ?_;refine bM [1,3,14,15,16] ?_;refine⟨((i+1),(some ⟨OL,0,none⟩),O,[⟨OL,101,O*1,flatMap cK ((s.ay.take i).map jy++[jy s.ay[i]])⟩]),_,cn,(aI (h:=by repeat (first|exact trivial|refine⟨(by (repeat (first|exact fK|(apply gb;focus (first|rfl|(simp;done)|(congr 2;omega)|(apply eP;exact ua jy aa)|(apply eP;simp;done)))|(apply fO;focus rfl)));done),?_⟩))),w4,(bn.cast (bJ (by rw[length_append];exact ML) MM) (by exact ua jy aa)),rfl⟩
  have dN:=Ko jy (show s.ay.length<=i by simp at aX;omega);have U:=Uc (G:=G) (s.ay.map jy) Dj (Kp s.ay);rw[<-dN] at U fj;refine aB 1 ?_;refine bN fN ?_;refine ey (cu 0 [_,_,_]) [.string ⟨#[]⟩,.string ⟨#[]⟩,.string ⟨#[]⟩] [_,_,_] zeroValue9 runUnderlying41 sizeOf9 (fun Zn=>?_);refine OD.perm (zg (S2:=[⟨Zn,9,3*1,flatMap cS ([⟨#[67,82,69,65,84,69]⟩,⟨#[84,65,66,76,69]⟩,s.table])⟩]) (A:=[_])) ?_;refine OD.gK (t:=34) (Sq:=[⟨Zn,9,3*1,flatMap cS ([⟨#[67,82,69,65,84,69]⟩,⟨#[84,65,66,76,69]⟩,s.table])⟩]) lk (bJ (g:=cS) (sz:=1) (e:=9) (ls:=[⟨#[67,82,69,65,84,69]⟩,⟨#[84,65,66,76,69]⟩,s.table]) (Nat.le_refl _) (show 3<=maxLen by decide)) (cm jU _) (zf (A:=[_])) ?_;refine OD.call aq rfl rfl rfl call81 (zB [⟨#[67,82,69,65,84,69]⟩,⟨#[84,65,66,76,69]⟩,s.table] (by show 3<=10;decide)) ⟨ot,trivial⟩ (eX _) ?_;rintro _ S35 ⟨aqK,aqL,rfl,akA⟩;refine OD.perm (zg (A:=[_])) ?_;refine aH 1 ?_;refine OD.gK (t:=36) (Sq:=Sx) lk dP (cm gr _) (pp (A:=[_])) ?_;refine ez call82 (U) ?_;refine OD.eG (ls:=([⟨#[67,82,69,65,84,69]⟩,⟨#[84,65,66,76,69]⟩,s.table].map bH)) (new:=(mE ((s.ay.take i).map jy))) (Sq:=S35) jf lX aq rfl rfl underlying101 ID rfl w8 ot akA (cZ (A:=[_])) ot (R9 _) qf w9 (fun OB Xf akB akC=>?_)
  refine OD.perm (dU (S1:=[⟨OB,153,Xf*3,flatMap cT (([⟨#[67,82,69,65,84,69]⟩,⟨#[84,65,66,76,69]⟩,s.table].map bH)++(mE ((s.ay.take i).map jy)))⟩]) (A:=[_])) ?_;refine an 107 [2] ?_;refine CD.gK (t:=2) (Sq:=[⟨OB,153,Xf*3,flatMap cT (([⟨#[67,82,69,65,84,69]⟩,⟨#[84,65,66,76,69]⟩,s.table].map bH)++(mE ((s.ay.take i).map jy)))⟩]) lk (bJ akB akC) (cm jf _) (cZ (A:=[_])) ?_;refine aK [] ?_;refine⟨?_,rfl⟩;unfold rD;rw[if_pos bz,<-dN]
 refine af [1,10,39] ?_;refine au ?_ ?_<;>intro bL cJ
 ·refine cz [2] ?_;refine aR 1 ?_ (h:=uH);refine cf (sG [⟨#[68,82,79,80]⟩,⟨#[84,65,66,76,69]⟩,s.table] (by show 3<=10;decide)) ?_;refine bA ?_;refine aK [] ?_;refine⟨?_,rfl⟩;unfold rD;rw[if_neg bz,if_pos cJ]
 refine af [1,10,45] ?_;refine au ?_ ?_<;>intro cN en
 ·refine bS ?_;refine bu [1,6] ?_;refine cz [1,6,48,49,50] ?_;refine aR 1 ?_ (h:=uH);refine bA ?_;refine CD.block ?_;refine nu (fun (aO:Nat×Option Addr×Nat×List ah) aE=>match aO with|(i,H7,H8,Sv)=>(i<=s.row.length)/\(bn 101 1 (((s.row.take i).map jE).flatMap cK) ((s.row.take i).map jE).length H7 H8 Sv)/\aE=(⟨107,[(1,cY b1),(6,aT H7 ((s.row.take i).map jE).length H8),(48,ap 3 cV s.row),(49,ae (s.row.length:Nat)),(50,ae (i:Nat))],((⟨b1,44,12,[ae s.kind,bg s.table,ap 2 cC s.ay,ap 3 cV s.row,ap 1 cS s.names,bP s.count,ap 5 cO s.aj,bg s.order,bP s.down,ae s.iE,bg s.set,ap 5 cO s.bF]⟩:ah)::Sv)⟩:St)) (fun (aO:Nat×Option Addr×Nat×List ah)=>match aO with|(i,H7,H8,Sv)=>s.row.length-i) (0,none,0,[]) ⟨(Nat.zero_le _),(bn.cast iR jZ),rfl⟩ (aI (h:=by repeat (first|exact trivial|refine⟨(by (repeat (first|exact fK|(apply gb;focus (first|rfl|(simp;done)|(congr 2;omega)|(apply eP;exact ua jE aa)|(apply eP;simp;done)))|(apply fO;focus rfl)));done),?_⟩))) ?_;rintro⟨i,H7,H8,Sv⟩ _ ⟨hi,nl,rfl⟩;refine af [1,6,48,49,50,51] ?_;refine au ?_ ?_<;>intro dW fB
  ·have aa:i<s.row.length:=(by simp at dW;omega)
   refine aB 1 ?_;refine bN (dz (mk:=Op.load 56) rfl ot (by first|exact qD (k:=0) (ds:=[_,_,_]) rfl rfl isAgg56 sizeOf56 rfl rfl|exact kH lV isAgg56 sizeOf56 w5|exact kH fG isAgg56 sizeOf56 w5|exact kH jU isAgg56 sizeOf56 w5|exact dJ (k:=0) lV rfl rfl rfl isAgg56 sizeOf56 w5|exact dJ (k:=0) fG rfl rfl rfl isAgg56 sizeOf56 w5|exact dJ (k:=0) jU rfl rfl rfl isAgg56 sizeOf56 w5|exact qG (ds:=[_,_,_]) isAgg56 sizeOf56 rfl rfl)) ?_;refine OD.alloc (ds:=[_,_,_]) aq rfl rfl zeroValue56 rfl (fun b8=>?_);refine aP 0 [_,_,_] sizeOf56 ?_;refine an 107 [1,6,8,48,49,50] ?_;refine dw 1 ?_;refine bN (dz (mk:=Op.load 56) rfl ot (by first|exact qD (k:=0) (ds:=[_,_,_]) rfl rfl isAgg56 sizeOf56 rfl rfl|exact kH lV isAgg56 sizeOf56 w5|exact kH fG isAgg56 sizeOf56 w5|exact kH jU isAgg56 sizeOf56 w5|exact dJ (k:=0) lV rfl rfl rfl isAgg56 sizeOf56 w5|exact dJ (k:=1) lV rfl rfl rfl isAgg56 sizeOf56 w5|exact dJ (k:=0) fG rfl rfl rfl isAgg56 sizeOf56 w5|exact dJ (k:=1) fG rfl rfl rfl isAgg56 sizeOf56 w5|exact dJ (k:=0) jU rfl rfl rfl isAgg56 sizeOf56 w5|exact dJ (k:=1) jU rfl rfl rfl isAgg56 sizeOf56 w5|exact qG (ds:=[_,_,_]) isAgg56 sizeOf56 rfl rfl)) ?_;refine ez call83 (PT s.row[i] (hs.r en _ (getElem_mem aa))) ?_;refine ey (cu 0 [_]) [.slice none 0 0] [_] zeroValue101 runUnderlying146 sizeOf101 (fun b57=>?_)
   refine fD 0 57 1 1 ?_;refine OD.eG (ls:=((s.row.take i).map jE)) (new:=[jE s.row[i]]) (Sq:=Sv) gr pY aq rfl rfl underlying146 P0 rfl w8 ot nl (cZ (A:=[_,_])) ot bq (by simp only[maxLen,length_map,length_take,length_cons,length_nil];omega) (by simp only[length_map,length_take,length_cons,length_nil];omega) (fun AP Z akD akE=>?_);refine OD.perm (dU (S1:=[⟨AP,101,Z*1,flatMap cK (((s.row.take i).map jE)++[jE s.row[i]])⟩]) (A:=[_,_])) ?_;refine an 107 [1,6,48,49,50] ?_;refine bM [1,6,48,49,50] ?_;refine⟨((i+1),(some ⟨AP,0,none⟩),Z,[⟨AP,101,Z*1,flatMap cK (((s.row.take i).map jE)++[jE s.row[i]])⟩]),_,cn,(aI (h:=by repeat (first|exact trivial|refine⟨(by (repeat (first|exact fK|(apply gb;focus (first|rfl|(simp;done)|(congr 2;omega)|(apply eP;exact ua jE aa)|(apply eP;simp;done)))|(apply fO;focus rfl)));done),?_⟩))),w4,(bn.cast (bJ akD akE) (by exact ua jE aa)),rfl⟩
  have V4:=Ko jE (show s.row.length<=i by simp at dW;omega);have U:=Uc (G:=G) (s.row.map jE) Dj (Si s.row);rw[<-V4] at U qT;refine aB 1 ?_;refine bN fN ?_;refine ey (cu 0 [_,_,_,_]) [.string ⟨#[]⟩,.string ⟨#[]⟩,.string ⟨#[]⟩,.string ⟨#[]⟩] [_,_,_,_] zeroValue9 runUnderlying41 sizeOf9 (fun OM=>?_);refine OD.perm (zg (S2:=[⟨OM,9,4*1,flatMap cS ([⟨#[73,78,83,69,82,84]⟩,⟨#[73,78,84,79]⟩,s.table,⟨#[86,65,76,85,69,83]⟩])⟩]) (A:=[_])) ?_;refine OD.gK (t:=62) (Sq:=[⟨OM,9,4*1,flatMap cS ([⟨#[73,78,83,69,82,84]⟩,⟨#[73,78,84,79]⟩,s.table,⟨#[86,65,76,85,69,83]⟩])⟩]) lk (bJ (g:=cS) (sz:=1) (e:=9) (ls:=[⟨#[73,78,83,69,82,84]⟩,⟨#[73,78,84,79]⟩,s.table,⟨#[86,65,76,85,69,83]⟩]) (Nat.le_refl _) (show 4<=maxLen by decide)) (cm jU _) (zf (A:=[_])) ?_;refine OD.call aq rfl rfl rfl call81 (zB [⟨#[73,78,83,69,82,84]⟩,⟨#[73,78,84,79]⟩,s.table,⟨#[86,65,76,85,69,83]⟩] (by show 4<=10;decide)) ⟨ot,trivial⟩ (eX _) ?_;rintro _ DP ⟨W9,x4,rfl,CO⟩;refine OD.perm (zg (A:=[_])) ?_;refine aH 1 ?_;refine OD.gK (t:=64) (Sq:=Sv) lk nl (cm gr _) (pp (A:=[_])) ?_;refine ez call82 (U) ?_;refine OD.eG (ls:=([⟨#[73,78,83,69,82,84]⟩,⟨#[73,78,84,79]⟩,s.table,⟨#[86,65,76,85,69,83]⟩].map bH)) (new:=(mE ((s.row.take i).map jE))) (Sq:=DP) jf lX aq rfl rfl underlying101 ID rfl w8 ot CO (cZ (A:=[_])) ot (R9 _) qf w9 (fun pL Ap Aq Ar=>?_)
  refine OD.perm (dU (S1:=[⟨pL,153,Ap*3,flatMap cT (([⟨#[73,78,83,69,82,84]⟩,⟨#[73,78,84,79]⟩,s.table,⟨#[86,65,76,85,69,83]⟩].map bH)++(mE ((s.row.take i).map jE)))⟩]) (A:=[_])) ?_;refine an 107 [2] ?_;refine CD.gK (t:=2) (Sq:=[⟨pL,153,Ap*3,flatMap cT (([⟨#[73,78,83,69,82,84]⟩,⟨#[73,78,84,79]⟩,s.table,⟨#[86,65,76,85,69,83]⟩].map bH)++(mE ((s.row.take i).map jE)))⟩]) lk (bJ Aq Ar) (cm jf _) (cZ (A:=[_])) ?_;refine aK [] ?_;refine⟨?_,rfl⟩;unfold rD;rw[if_neg bz,if_neg cJ,if_pos en,<-V4]
 refine af [1,10,67] ?_;refine au ?_ ?_<;>intro fF gM
 ·refine cz [2] ?_;refine aR 0 ?_ (h:=by exact(dz (mk:=Op.load 44) rfl ot (by first|exact qD (k:=0) (ds:=[_,_,_,_,_,_,_,_,_,_,_,_]) rfl rfl isAgg44 sizeOf44 rfl rfl|exact kH lV isAgg44 sizeOf44 w5|exact kH fG isAgg44 sizeOf44 w5|exact kH jU isAgg44 sizeOf44 w5|exact dJ (k:=0) lV rfl rfl rfl isAgg44 sizeOf44 w5|exact dJ (k:=0) fG rfl rfl rfl isAgg44 sizeOf44 w5|exact dJ (k:=0) jU rfl rfl rfl isAgg44 sizeOf44 w5|exact qG (ds:=[_,_,_,_,_,_,_,_,_,_,_,_]) isAgg44 sizeOf44 rfl rfl)));refine cf (I (hs.w (.inl gM))) ?_;refine bA ?_;refine aK [] ?_;refine⟨?_,rfl⟩;unfold rD;rw[if_neg bz,if_neg cJ,if_neg en,if_pos gM]
 refine af [1,10,71] ?_;refine au ?_ ?_<;>intro iw E
 ·refine cz [2] ?_;refine aR 1 ?_ (h:=uH);refine aR 1 ?_ (h:=uH);refine cf (sG [⟨#[85,80,68,65,84,69]⟩,s.table,⟨#[83,69,84]⟩,s.set] (by show 4<=10;decide)) ?_;refine cf (ny ⟨#[61]⟩) ?_;refine aR 2 ?_ (h:=uH);refine cf (Qi s.bF akz (hs.t E) (fun o h=>(hf.x o h).2)) ?_;refine aR 1 ?_ (h:=uH);refine cf (Iz s.aj qv (hs.w (.inr (.inl E))) (fun o h=>(hf.w o h).2) w4) ?_;refine cf (EZ [[⟨#[85,80,68,65,84,69]⟩,s.table,⟨#[83,69,84]⟩,s.set].map bH,[dV ⟨#[61]⟩],rC s.bF,kQ s.aj] (by show 4<=1000;decide) (by simp only[flatten_cons,flatten_nil,length_append,length_map,length_cons,length_nil];omega) (by simp only[flatten_cons,flatten_nil,length_append,length_map,length_cons,length_nil];omega)) ?_;refine bA ?_;refine aK [] ?_;refine⟨?_,rfl⟩;unfold rD;rw[if_neg bz,if_neg cJ,if_neg en,if_neg gM,if_pos E]
 refine af [1,89] ?_;refine au ?_ ?_<;>intro iy mF
 ·refine CD.seq ?_;refine gP 8 (av (take 1 _)) ?_ (fun _ h=>(Sublist.map _ (take_sublist _ _)).subset h);refine aD 0 rfl (dQ 1) ?_;refine aD 1 rfl fN ?_;refine aD 4 rfl (dQ 6) ?_;refine aD 5 rfl fN ?_;refine dM.later rfl ?_;refine AD.one (i:=2) aC ?_;refine nq (cu 0 [_,_,_]) [.string ⟨#[]⟩,.string ⟨#[]⟩,.string ⟨#[]⟩] [_,_,_] zeroValue9 runUnderlying41 sizeOf9 (fun Zo=>?_);refine nQ 0 93 1 3 ?_;refine AD.one (i:=3) aC ?_;refine bC.call rfl aq rfl rfl rfl call81 (zB [⟨#[68,69,76,69,84,69]⟩,⟨#[70,82,79,77]⟩,s.table] (by show 3<=10;decide)) ⟨ot,trivial⟩ (eX _) iL ?_;rintro _ S94 ⟨aqM,aqN,rfl,akF⟩;refine AD.perm (dU (A:=[_])) ?_;refine AD.one (i:=6) aC ?_;refine qm call88 (Iz s.aj qv (hs.w (.inr (.inr mF))) (fun o h=>(hf.w o h).2) w4) ?_;refine AD.one (i:=7) aC ?_;refine bC.pn (ls:=([⟨#[68,69,76,69,84,69]⟩,⟨#[70,82,79,77]⟩,s.table].map bH)) (new:=(kQ s.aj)) (Sq:=S94) jf lX rfl aq rfl rfl underlying101 ID rfl w8 runUnderlying101 sizeOf153 ot akF (cZ (A:=[_])) ot qf w9 (fun aqO aqP S98 akG=>?_);refine AD.perm (dU (A:=[_])) ?_;refine fm ?_;refine bu [2] ?_;refine CD.gK (t:=2) (Sq:=S98) lk akG (cm jf _) (cZ (A:=[_])) ?_;refine eZ ?_;refine⟨?_,rfl⟩;unfold rD;rw[if_neg bz,if_neg cJ,if_neg en,if_neg gM,if_neg E,if_pos mF]
 obtain⟨j,hj,ON⟩:∃j:Nat,s.kind=((7+j:Nat):Int)/\j<GP.length:=⟨(s.kind-7).toNat,by have:=hs.k1;have:=hs.k9;omega,by have:=hs.k1;have:=hs.k9;show _<3;omega⟩
 refine cz [2] ?_;refine Oo (g:=cS) (GP) ?_;refine aR 1 ?_ (h:=uH);refine aR 0 ?_ (h:=by exact(dR (r:=.int .i64 ((j:Nat):Int)) rfl ot bV (iI (by rw[hj,show(((7+j:Nat)):Int)-7=((j:Nat):Int) by omega];exact wrap_i64 w4 (by have:j<3:=ON;omega)))));refine aR 1 ?_ (h:=by exact(dz (mk:=Op.load 9) rfl ot (by exact ry (i:=j) jU isAgg9 ON rfl)));refine cf (sG [GP[j]] AG) ?_;refine bA ?_;refine aK [] ?_;refine⟨?_,rfl⟩;unfold rD;rw[if_neg bz,if_neg cJ,if_neg en,if_neg gM,if_neg E,if_neg mF,hj,show(((7+j:Nat):Int)-7).toNat=j by omega,mV ON];first|done|rfl

theorem Qj:∀(l pre:List cy),rB pre l=0->∀c∈l,cW c.n=0/\1<=c.k/\c.k<=3
 | [],_,_,c,hc=>by cases hc
 | a::l,pre,h,c,hc=>by
  have h:(if nM pre a≠0 then nM pre a else rB (pre++[a]) l)=0:=h;by_cases h0:nM pre a=0
  ·rw[if_neg (by simp[h0])] at h;rcases mem_cons.1 hc with rfl|hc
   ·unfold nM at h0;by_cases h1:cW c.n=0
    ·rw[if_neg (by simp[h1])] at h0;by_cases h2:c.k<1\/c.k>3
     ·rw[if_pos h2] at h0;cases h0
     exact⟨h1,by omega⟩
    rw[if_pos h1] at h0;exact absurd h0 h1
   exact Qj l _ h c hc
  rw[if_pos h0] at h;exact absurd h h0
theorem abT{l:List cy}(h:fQ l=0):(1<=l.length/\l.length<=6)/\∀c∈l,cW c.n=0/\1<=c.k/\c.k<=3:=by
 unfold fQ at h;split at h
 ·cases h
 exact⟨by omega,Qj l [] h⟩
theorem Ue{α:Type}{f:α->Int}:∀{l:List α},kj f l=0->∀a∈l,f a=0
 | [],_,a,h=>by cases h
 | b::r,h,a,ha=>by
  unfold kj at h;split at h
  ·exact absurd h uu
  rcases mem_cons.1 ha with rfl|ha
  ·have hn:¬f a≠0:=(by assumption)
   omega
  exact Ue h a ha
theorem Kq{l:List bf}(h:nY l=0):l.length=0\/fR 0 l=0:=by
 unfold nY at h;split at h
 ·exact .inl uu
 right;unfold jk at h;split at h
 ·cases h
 exact h
theorem ag5{l:List bf}(h:jk l=0):fR 0 l=0/\l.length<=40:=by
 unfold jk at h;split at h
 ·cases h
 exact⟨h,by omega⟩
theorem aiq{s:bp}(h:di s=0):dO s=0/\ei s (dD s)=true/\(s.kind<7->cW s.table=0):=by
 unfold di at h;split at h
 ·rename_i h1;exact absurd h h1.2
 rename_i h1;split at h
 ·cases h
 rename_i h2;refine⟨h,?_,fun hk=>?_⟩
 ·cases hb:ei s (dD s) with
  | true=>rfl
  | false=>exact absurd ⟨h,hb⟩ h2
 by_cases hn:cW s.table=0
 ·exact hn
 exact absurd ⟨hk,hn⟩ h1
theorem air{s:bp}(hf:dZ s)(h1:1<=s.kind)(I:s.kind<=9)(h:di s=0):Zl s:=by
 have he:=(aiq h).1;unfold dO at he;refine⟨hf,h1,I,fun hk=>?_,fun hk v E=>?_,fun hk=>?_,fun hk=>?_⟩
 ·rw[if_pos hk] at he;exact fun c hc=>((abT he).2 c hc).2
 ·rw[if_neg w4,if_pos hk] at he;unfold dY at he;split at he
  ·cases he
  exact Vo (Ue he v E) (hf.r v E).1 (hf.r v E).2
 ·by_cases h4:s.kind=4
  ·rw[if_neg w4,if_neg w4,if_pos h4] at he;unfold px at he;repeat' split at he
   all_goals first|(exfalso;omega)|exact Kq w4
  by_cases h5:s.kind=5
  ·rw[if_neg w4,if_neg w4,if_neg h4,if_pos h5] at he;repeat' split at he
   all_goals first|(exfalso;omega)|exact Kq he
  rw[if_neg w4,if_neg w4,if_neg h4,if_neg h5,if_pos w4] at he;exact Kq he
 rw[if_neg w4,if_neg w4,if_neg w4,if_pos hk] at he;repeat' split at he
 all_goals first|(exfalso;omega)|exact(ag5 uu).1
def dA(s:bp):Int:=if s.kind<1\/s.kind>9 then 2 else if di s≠0 then di s else if (rD s).length>100 then 10 else 0
theorem Sj(hm:(3,marksC)∈G)(hw:(1,wordsC)∈G)(I:(0,typesC)∈G)(s:bp)(hf:dZ s):VP Tryz.prog G 21 [.agg (aY s)] (ae (dA s)):=by
 refine VC.body func21 rfl ntmps21 aU fun X0 w0 bj=>?_;have cR:=dI;have fw:=abS hm hw s hf;unfold aY at fw;unfold aY;have U:(s.kind<1\/s.kind>9)\/¬(s.kind<1\/s.kind>9):=(by omega)
 refine bS ?_;refine OD.box (ds:=[_,_,_,_,_,_,_,_,_,_,_,_]) aq rfl rfl ot rfl rfl (fun b1=>?_);refine an 21 [1] ?_;refine aB 4 ?_;refine bZ 7 (fun O E=>?_) (fun O E=>?_)
 ·refine bu [1,11] ?_;refine eO ?_;have aV:dA s=2:=if_pos w4;exact yt
 refine bu [1,11] ?_;refine au ?_ ?_<;>intro aJ bz
 ·have aV:dA s=2:=if_pos w4;exact yt
 have hk:¬(s.kind<1\/s.kind>9):=(by omega)
 refine cL [1,3] (fw) ?_;refine af [1,3,15] ?_;refine au ?_ ?_<;>intro aX cr
 ·have hn:di s≠0:=(by simpa using aX)
  have aV:dA s=di s:=(by unfold dA;rw[if_neg hk,if_pos hn])
  exact yt
 have h0:di s=0:=(by simpa using aX)
 have qh:=aft I s (air hf w4 w4 h0);unfold aY at qh;have gZ:¬di s≠0:=fun h=>h h0;refine cL [20] (qh) ?_;refine au ?_ ?_<;>intro bL cJ
 ·have aV:dA s=10:=(by unfold dA;rw[if_neg hk,if_neg gZ,if_pos (by simp at bL;omega)])
  exact yt
 have aV:dA s=0:=(by unfold dA;rw[if_neg hk,if_neg gZ,if_neg (by simp at bL;omega)])
 refine af [2] ?_;refine eZ ?_;rw[aV];exact⟨rfl,rfl⟩

end Go.Proofs.YtbplamgacibdaaaGreatDoor.Pa
namespace Go.Proofs.YtbplamgacibdaaaGreatDoor.Pc
open List
open Go.Proofs.Tryz
open Go.RowKit V Pk Vl Go.Proofs.YtbplamgacibdaaaGreatDoor.Nm Pa
variable {G:List (Nat×List Value)}
variable {i:Nat}
theorem ag6:cW ⟨#[116]⟩=0:=tQ (l:=[116]) w8 w8 (fun c hc=>by simp only[mem_singleton] at hc;subst hc;decide)
def qY(l:List cy):bp:={cX with kind:=1,table:=⟨#[116]⟩,ay:=l}
theorem ais{l:List cy}(h6:l.length<=6)(aW:∀c∈l,c.n.size<=maxLen):dZ (qY l) :=
 ⟨⟨h6,Nat.zero_le _,Nat.zero_le _,Nat.zero_le _,Nat.zero_le _⟩,(by show 1<=maxLen;decide),aW,(fun _ h=>by cases h),Nat.zero_le _,Nat.zero_le _,(fun _ h=>by cases h),(fun _ h=>by cases h),(fun _ h=>by cases h)⟩
theorem ag7(l:List cy):ei (qY l) (qY l)=true:=by
 unfold ei;simp only[Bool.and_eq_true,beq_iff_eq,qC,and_self]
theorem afu(l:List cy):di (qY l)=fQ l:=by
 have h1:dO (qY l)=fQ l:=rfl;have h2:dD (qY l)=qY l:=rfl;unfold di;rw[if_neg (fun h=>h.2 ag6),h2,h1,if_neg (fun h=>by rw[ag7] at h;cases h.2)]
theorem adP{l:List cy}(h6:l.length<=6):dA (qY l)=fQ l:=by
 unfold dA;rw[if_neg (fun h=>by have:(qY l).kind=1:=rfl;omega),afu];split
 ·rfl
 rename_i h0;have h1:=Fy (ts:=l.map jy) (Kp l) (l.map jy).length;have h2:(mE (l.map jy)).length<=80:=(by unfold mE;rw[length_append];(first|rw[length_map] at h1|(unfold ap at h1;rw[length_map] at h1));(first|rw[length_map]|(unfold ap;rw[length_map]));simp only[length_cons,length_nil];omega)
 have h3:(rD (qY l)).length<=100:=by
  show([_,_,_].map bH++mE (l.map jy)).length<=100;rw[length_append];simp only[length_map,length_cons,length_nil];omega
 rw[if_neg w4];simp only[ne_eq,Decidable.not_not] at h0;exact h0.symm
def OO(l:List cy):List D:=[ae 1,bg ⟨#[116]⟩,ap 2 cC l,cc,cc,bP false,cc,gh,bP false,ae (-1),gh,cc]
theorem abU(hm:(3,marksC)∈G)(hw:(1,wordsC)∈G)(ht:(0,typesC)∈G)(l:List cy)(hl:l.length<=6)(aW:∀c∈l,c.n.size<=maxLen):VP Tryz.prog G 21 [.agg (OO l)] (ae (fQ l)):=by
 have h:=Pa.Sj (G:=G) hm hw ht (qY l) (ais hl aW);rw[adP hl] at h;refine VC.args h rfl fun w L i h1 h2 v E=>?_;have:i=0:=(by simp only[length_cons,length_nil] at h1;omega)
 subst this;exact KZ (a:=OO l) (b:=aY (qY l)) ⟨eM,eM,eM,fP,fP,eM,fP,eM,eM,eM,eM,fP,trivial⟩ w L v E
theorem FI(hm:(3,marksC)∈G)(hw:(1,wordsC)∈G)(ht:(0,typesC)∈G)(l:List cy)(hl:l.length<=6)(aW:∀c∈l,c.n.size<=maxLen):VP Tryz.prog G 56 [ap 2 cC l] (ae (fQ l)):=by
 refine VC.body func56 rfl ntmps56 aU fun X0 w0 bj=>?_;have cR:=dI;have fw:=abU hm hw ht l hl aW;unfold OO at fw;refine af [0] ?_;refine cL [2] (fw) ?_;exact nP
def l8(i:Nat)(c:cy)(v:Vl):Int:=if de v≠0 then de v else if v.k≠c.k/\(i=0\/v.k≠0) then 4 else 0
def pA:Nat->List cy->List Vl->Int
 | i,c::cs,v::vs=>if l8 i c v≠0 then l8 i c v else pA (i+1) cs vs
 | _,_,_=>0
def dY(cs:List cy)(vs:List Vl):Int:=if fQ cs≠0 then fQ cs else if vs.length≠cs.length then 1 else pA 0 cs vs
theorem abB{cs:List cy}{vs:List Vl}(h1:i<cs.length)(h2:i<vs.length)(h:l8 i cs[i] vs[i]=0):pA i (cs.drop i) (vs.drop i)=pA (i+1) (cs.drop (i+1)) (vs.drop (i+1)):=by
 rw[drop_eq_getElem_cons h1,drop_eq_getElem_cons h2];exact if_neg (by simp[h])
theorem RG{cs:List cy}{vs:List Vl}(h1:i<cs.length)(h2:i<vs.length)(h:l8 i cs[i] vs[i]≠0):pA i (cs.drop i) (vs.drop i)=l8 i cs[i] vs[i]:=by
 rw[drop_eq_getElem_cons h1,drop_eq_getElem_cons h2];exact if_pos h
theorem adQ{cs:List cy}{vs:List Vl}(h:¬i<vs.length):pA i (cs.drop i) (vs.drop i)=0:=by
 rw[drop_of_length_le (l:=vs) w4];cases cs.drop i<;>rfl
theorem K8(hm:(3,marksC)∈G)(hw:(1,wordsC)∈G)(ht:(0,typesC)∈G)(l:List cy)(hl:l.length<=6)(aW:∀c∈l,c.n.size<=maxLen)(vs:List Vl)(Z:vs.length<=maxLen):VP Tryz.prog G 62 [ap 2 cC l,ap 3 cV vs] (ae (dY l vs)):=by
 refine VC.body func62 rfl ntmps62 aU fun X0 w0 bj=>?_;have cR:=dI;refine af [0,1] ?_;refine cL [0,1,5] (FI hm hw ht l hl aW) ?_;refine af [0,1,5,12] ?_;refine au ?_ ?_<;>intro aJ bz
 ·have hne:fQ l≠0:=(by simpa using aJ)
  have aV:dY l vs=fQ l:=if_pos hne;refine af [4] ?_;exact pG
 have h0:¬fQ l≠0:=(by simpa using aJ)
 refine af [0,1,18] ?_;refine au ?_ ?_<;>intro aX cr
 ·have aV:dY l vs=1:=(by unfold dY;rw[if_neg h0,if_pos w4])
  refine af [4] ?_;exact pG
 have iG:vs.length=l.length:=(by omega)
 have E:dY l vs=pA 0 (l.drop 0) (vs.drop 0):=(by unfold dY;rw[if_neg h0,if_neg (by simp[iG])];rfl)
 refine af [0,19,20,21] ?_;refine ew [0,19,20] (fun aS _ (i:Nat) aE=>(i<=vs.length)/\(dY l vs=pA i (l.drop i) (vs.drop i))/\aE=(⟨49,(21,ae (i:Nat))::aS,[]⟩:St)) (fun (i:Nat)=>vs.length-i) 0 ⟨(Nat.zero_le _),E,rfl⟩ ?_;rintro i _ ⟨hi,hinv,rfl⟩;refine af [0,19,20,21,22] ?_;refine au ?_ ?_<;>intro bL cJ
 ·have aa:i<vs.length:=(by omega)
  have Mf:i<l.length:=(by omega)
  refine aB 3 ?_;refine OD.alloc (ds:=[_,_,_]) aq rfl rfl zeroValue56 rfl (fun b7=>?_);refine aH 1 ?_;refine aP 0 [_,_,_] sizeOf56 ?_;refine an 49 [0,6,7,19,20,21] ?_;refine cL [0,6,7,8,19,20,21] (Vl.pS vs[i]) ?_;refine af [0,6,7,8,19,20,21,29] ?_;refine au ?_ ?_<;>intro cN en
  ·have hne:de vs[i]≠0:=(by simpa using cN)
   have hf:l8 i l[i] vs[i]=de vs[i]:=if_pos hne;have aV:dY l vs=de vs[i]:=(by rw[hinv,RG Mf aa (by rw[hf];exact hne),hf])
   refine af [4] ?_;exact pG
  have hz:¬de vs[i]≠0:=(by simpa using cN)
  refine CD.skip ?_;refine CD.seq ?_;refine nk 7 [0,6,7,19,20,21,32,37] ?_;refine bA ?_;refine aH 2 ?_;refine bZ 39 (fun U I=>?_) (fun U I=>?_)
  ·refine aH 3 ?_;refine bZ 42 (fun rI O=>?_) (fun rI O=>?_)
   ·refine bu [0,19,20,21,47] ?_;refine eO ?_;exact z72
   refine bu [0,19,20,21,47] ?_;refine au ?_ ?_<;>intro dW fB
   ·exact z72
   exact z76
  refine bu [0,19,20,21,47] ?_;refine gm ?_;exact z76
 have aV:dY l vs=0:=(by rw[hinv];exact adQ w4)
 refine af [4] ?_;exact uL

end Go.Proofs.YtbplamgacibdaaaGreatDoor.Pc

namespace Go.Proofs.YtbplamgacibdaaaGreatDoor.Nm
open List
open Go.Proofs.Tryz
open Go.RowKit V Pk Vl
inductive Tw where
 | mk (k n:Int) (s:ByteArray) (ts:List Tw)
mutual
def Tw.cs:Tw->List D
 | .mk k n s ts=>[.v (.int .i64 k),.v (.int .i64 n),.v (.string s),.list 4 (Tw.lR ts) ts.length]
def Tw.lR:List Tw->List D
 | []=>[]
 | t::r=>t.cs++Tw.lR r
end
theorem Tw.K9:∀ts:List Tw,Tw.lR ts=ts.flatMap Tw.cs
 | []=>rfl
 | t::r=>by rw[Tw.lR,Tw.K9 r,flatMap_cons]
theorem Tw.F3(t:Tw):t.cs.length=4:=by cases t;rfl
mutual
def Tw.Ok:Tw->Prop
 | .mk k n s ts=>(-9223372036854775808<=k/\k<=9223372036854775807)/\(-9223372036854775808<=n/\n<=9223372036854775807)/\s.size<=maxLen/\ts.length<=maxLen/\Tw.H9 ts
def Tw.H9:List Tw->Prop
 | []=>True
 | t::r=>t.Ok/\Tw.H9 r
end
theorem Tw.Uf:∀{ts:List Tw},Tw.H9 ts->∀t∈ts,t.Ok
 | [],_,t,h=>by cases h
 | a::r,⟨h1,h2⟩,t,h=>by
  rcases mem_cons.1 h with rfl|h
  ·exact h1
  exact Tw.Uf h2 t h
theorem Tw.Ug:∀{ts:List Tw},(∀t∈ts,t.Ok)->Tw.H9 ts
 | [],_=>trivial
 | a::r,h=>⟨h a mem_cons_self,Tw.Ug fun t ht=>h t (mem_cons_of_mem _ ht)⟩

def sJ(j:Int):ByteArray:=if j=0 then ⟨#[105,100]⟩ else if j=1 then ⟨#[110]⟩ else if j=2 then ⟨#[115]⟩ else ⟨#[98]⟩
def uw(n:Int)(s:ByteArray):Vl:={pV ⟨n,cx n 40-20,s⟩ with s:=nN (pV ⟨n,cx n 40-20,s⟩).s 4}
def sI(n:Int)(s:ByteArray):bf:=⟨1,uw n s,⟨#[]⟩⟩
def xC(n:Int):bf:=⟨2,bQ,sJ (cx n 4)⟩
def rz(k:Int):bf:=⟨k,bQ,⟨#[]⟩⟩
def mU(k n:Int)(s:ByteArray):List bf:=if 1+cx k 11=2 then [xC n] else [sI n s]
def iq:Nat->Tw->List bf
 | 0,.mk k n s _=>mU k n s
 | r+1,.mk k n s ts =>
  if 1+cx k 11=1 then [sI n s]
  else if 1+cx k 11=2 then [xC n]
  else if 1+cx k 11=5\/1+cx k 11=11 then (match ts[0]? with|some t=>iq r t|none=>mU n 0 s)++[rz (1+cx k 11)]
  else ((match ts[0]? with|some t=>iq r t|none=>mU n 0 s)++(match ts[1]? with|some t=>iq r t|none=>mU n 1 s))++[rz (1+cx k 11)]
def gX(r:Nat)(ts:List Tw)(n:Int)(s:ByteArray)(i:Nat):List bf:=match ts[i]? with|some t=>iq r t|none=>mU n i s
theorem zi(k n:Int)(s:ByteArray):(mU k n s).length=1:=by unfold mU;split<;>rfl
theorem Kr:∀(r:Nat) (t:Tw),1<=(iq r t).length/\(iq r t).length+1<=2 ^ (r+1)
 | 0,.mk k n s ts=>by rw[iq,zi];exact⟨by decide,by decide⟩
 | r+1,.mk k n s ts=>by
  have E:∀i:Nat,1<=(gX r ts n s i).length/\(gX r ts n s i).length+1<=2 ^ (r+1):=fun i=>by
   unfold gX;split
   ·exact Kr r _
   rw[zi];exact⟨by decide,by rw[Nat.pow_succ];have:=Nat.one_le_two_pow (n:=r);omega⟩
  have h0:=E 0;have h1:=E 1;unfold gX at h0 h1;have hp:2 ^ (r+1+1)=2 ^ (r+1)+2 ^ (r+1):=(by rw[Nat.pow_succ];omega)
  rw[iq];simp only[Int.natCast_zero,Int.natCast_one] at h0 h1;split
  ·exact⟨by simp,by simp;omega⟩
  split
  ·exact⟨by simp,by simp;omega⟩
  split<;>simp only[length_append,length_cons,length_nil]<;>omega
theorem Uh(r:Nat)(ts:List Tw)(n:Int)(s:ByteArray)(i:Nat):1<=(gX r ts n s i).length/\(gX r ts n s i).length+1<=2 ^ (r+1):=by
 unfold gX;split
 ·exact Kr r _
 rw[zi];exact⟨by decide,by rw[Nat.pow_succ];have:=Nat.one_le_two_pow (n:=r);omega⟩
theorem Qk(r:Vl):(pV r).s.size<=10:=by
 unfold pV bQ;split
 ·exact Nat.zero_le _
 split
 ·exact Nat.zero_le _
 split
 ·show(nN r.s 10).size<=10;rw[I6];omega
 decide
theorem Ui{j:Nat}(h:j<4):[D.v (.string ⟨#[105,100]⟩),D.v (.string ⟨#[110]⟩),D.v (.string ⟨#[115]⟩),D.v (.string ⟨#[98]⟩)][j*1]?=some (bg (sJ (j:Int))):=by
 match j,h with
 | 0,_|1,_|2,_|3,_=>rfl
variable {G:List (Nat×List Value)}
abbrev x5(ls:List bf)(r:D)(S:List ah):Prop:=gE cO 58 5 ls r S

theorem Uj(k n d:Int)(s:ByteArray)(d4:D)(h4:k8 d4=true)(cM:-9223372036854775808<=k)(eD:k<=9223372036854775807)(gI:-9223372036854775808<=n)(iO:n<=9223372036854775807)(hs:s.size<=maxLen)(hd:2<d):VC Tryz.prog G 31 [.agg [ae k,ae n,bg s,d4],ae d] [] (x5 (mU k n s)):=by
 refine VC.body func31 rfl ntmps31 aU fun X0 w0 bj=>?_;have yL:=jd k (by decide:(1:Int)<=11);have hpn:=jd n (by decide:(1:Int)<=40);have U:=jd n (by decide:(1:Int)<=4);obtain⟨j,hj⟩:=Int.eq_ofNat_of_zero_le U.1;have Z:j<4:=(by omega)
 have I:=kL G n 4 gI iO w8;rw[hj] at I;have fY:(⟨n,cx n 40-20,s⟩:Vl).Ok:=⟨gI,iO,by show _<=cx n 40-20;omega,by show cx n 40-20<=_;omega,hs⟩
 have YO:=Qk ⟨n,cx n 40-20,s⟩;have hml:100<=maxLen:=(by decide)
 obtain⟨kk,kW⟩:∃kk:Int,1+cx k 11=kk:=⟨_,rfl⟩
 refine bS ?_;refine OD.box (ds:=[_,_,_,_]) aq rfl rfl ot rfl rfl (fun b2=>?_);refine OD.box (ds:=[_]) aq rfl rfl ot rfl rfl (fun b3=>?_);refine an 69 [2,3] ?_;refine cz [2,3,5] ?_;refine cf (kL G k 11 cM eD w8) ?_;refine aR 0 ?_ (h:=by exact(dR (r:=.int .i64 kk) rfl bV ot (kN (by rw[kW];exact wrap_i64 w4 w4))));refine bA ?_;refine aB 3 ?_;refine bZ 14 (fun E O=>?_) (fun E O=>?_)
 ·refine bu [2,3,5,17] ?_;refine au ?_ ?_<;>intro aJ bz
  ·refine bM [2,3,5] ?_;refine cz [2,5,6] ?_;refine aR 0 ?_ (h:=Hp);refine bA ?_;refine af [2,5,6,19] ?_;refine af [2,5,6,19,20] ?_;refine eO ?_;exact WQ
  refine cz [2,5,6] ?_;refine aR 0 ?_ (h:=Hp);refine bA ?_;refine af [2,5,6,19] ?_;refine af [2,5,6,19,20] ?_;refine au ?_ ?_<;>intro aX cr
  ·exact WQ
  refine af [2,5,6,19,40] ?_;refine au ?_ ?_<;>intro bL cJ
  ·refine aB 1 ?_;refine ey (cu 0 [_,_,_,_]) [.string ⟨#[]⟩,.string ⟨#[]⟩,.string ⟨#[]⟩,.string ⟨#[]⟩] [_,_,_,_] zeroValue9 runUnderlying41 sizeOf9 (fun Zp=>?_);refine fD 0 43 1 4 ?_;refine aH 2 ?_;refine ez call16 (I) ?_;refine aH 1 ?_;refine bN (dz (mk:=Op.load 9) rfl ot (CG isAgg9 (Ui Z))) ?_;refine aH 1 ?_;refine ey (cu 0 [_]) [.int .i64 0,.int .i64 0,.int .i64 0,.string ⟨#[]⟩,.string ⟨#[]⟩] [_,_,_,_,_] zeroValue58 runUnderlying42 sizeOf58 (fun AL=>?_);exact z28
  exact absurd bL (by simp at aJ aX bL;omega)
 exact absurd E (by simp at E;omega)

end Go.Proofs.YtbplamgacibdaaaGreatDoor.Nm

namespace Go.Proofs.YtbplamgacibdaaaGreatDoor.Nm
open List
open Go.Proofs.Tryz
open Go.RowKit V Pk Vl
variable {G:List (Nat×List Value)}
variable {ts:List Tw}
theorem Sk{r:Nat}{n:Int}{s:ByteArray}{i:Nat}(hi:i<ts.length):iq r ts[i]=gX r ts n s i:=by unfold gX;rw[getElem?_eq_getElem hi]
theorem Sn{r:Nat}{n:Int}{s:ByteArray}{i:Nat}(hi:ts.length<=i):mU n i s=gX r ts n s i:=by unfold gX;rw[getElem?_eq_none hi]
theorem wS(r:Nat)(k n:Int)(s:ByteArray)(ts:List Tw):iq (r+1) (.mk k n s ts)=if 1+cx k 11=1 then [sI n s] else if 1+cx k 11=2 then [xC n]
  else if 1+cx k 11=5\/1+cx k 11=11 then gX r ts n s 0++[rz (1+cx k 11)] else (gX r ts n s 0++gX r ts n s 1)++[rz (1+cx k 11)]:=rfl
theorem Lx(r:Nat)(k n d:Int)(s:ByteArray)(ts:List Tw)(i b2 b3:Nat)(IH:∀t∈ts,VC Tryz.prog G 31 [.agg t.cs,ae (d+1)] [] (x5 (iq r t)))(gI:-9223372036854775808<=n)(iO:n<=9223372036854775807)(hs:s.size<=maxLen)(hd1:0<=d)(hd:d<=2)(hi:i<=1):VC Tryz.prog G 54 [ae (i:Int),cY b2,cY b3] [⟨b3,3,1,[ae d]⟩,⟨b2,26,4,[ae k,ae n,bg s,.list 4 (ts.flatMap Tw.cs) ts.length]⟩] (fun x S=>∃S1,x5 (gX r ts n s i) x S1/\S=S1++[⟨b3,3,1,[ae d]⟩,⟨b2,26,4,[ae k,ae n,bg s,.list 4 (ts.flatMap Tw.cs) ts.length]⟩]):=by
 refine VC.body func54 rfl ntmps54 aU fun X0 w0 bj=>?_;refine aB 1 ?_;refine OD.wk (Wk.ee (n:=25) (l':=[(0,_),(1,_),(2,_)]) (S':=_) rfl rfl fE) ?_;refine OD.nil ?_;refine aB 5 ?_;refine OD.wk (Wk.ee (n:=25) (l':=[(0,_),(1,_),(2,_),(9,_)]) (S':=_) rfl rfl fE) ?_;refine OD.nil ?_;refine au ?_ ?_<;>intro aJ bz
 ·have aa:i<ts.length:=(by omega)
  refine CD.seq ?_;refine CD.draw (av _) aC (fun _ h=>h) ?_;refine aD 0 rfl (dQ 3) ?_;refine aD 1 rfl (dS 1) ?_;refine aD 2 rfl bD ?_;refine aD 3 rfl (dL 4) ?_;refine aD 4 rfl (dz (mk:=Op.load 26) rfl ot (by first|exact qD (k:=0) (ds:=[_,_,_,_]) rfl rfl isAgg26 sizeOf26 rfl rfl|exact qD (k:=1) (ds:=[_,_,_,_]) rfl rfl isAgg26 sizeOf26 rfl rfl|exact kH Tw.F3 isAgg26 sizeOf26 w5|exact dJ (k:=0) Tw.F3 rfl rfl rfl isAgg26 sizeOf26 w5|exact dJ (k:=1) Tw.F3 rfl rfl rfl isAgg26 sizeOf26 w5|exact qG (ds:=[_,_,_,_]) isAgg26 sizeOf26 rfl rfl)) ?_;refine aD 5 rfl (dS 0) ?_;refine aD 6 rfl qn ?_;refine dM.later rfl ?_;refine AD.one (i:=7) aC ?_;refine bC.call rfl aq rfl rfl rfl call31 (IH _ (getElem_mem aa)) ⟨ot,ot,trivial⟩ (eX _) (fun _ h=>h) ?_;rintro _ O ⟨U,Z,rfl,E⟩;refine dm 8 rfl bD ?_;refine AD.wk (y:=⟨25,[(4,_)],((O++[_,_]))⟩) (Wk.ee rfl rfl fE) rfl ?_;refine AD.done aC ?_;refine aK _ ?_;first|exact⟨_,gE.cast (gE.mk E) (Sk aa),rfl⟩|exact⟨_,gE.cast (gE.mk I) (Sn w4),rfl⟩
 refine aB 6 ?_;refine OD.call aq rfl rfl rfl call31 (Uj n (i:Int) 9 s (cc) rfl gI iO w4 w4 hs w8) ⟨ot,bV,trivial⟩ (eX _) ?_;rintro _ S24 ⟨aqQ,aqR,rfl,I⟩;refine aH 1 ?_;refine OD.wk (Wk.ee (n:=25) (l':=[(4,_)]) (S':=_) rfl rfl fE) ?_;refine OD.nil ?_;refine aK _ ?_;first|exact⟨_,gE.cast (gE.mk E) (Sk aa),rfl⟩|exact⟨_,gE.cast (gE.mk I) (Sn w4),rfl⟩
theorem II:(Tryz.prog.info? 58).map (fun i=>(i.zero,i.size,i.bytes))=some (some (.agg #[.int .i64 0,.int .i64 0,.int .i64 0,.string ⟨#[]⟩,.string ⟨#[]⟩]),5,56):=by kernel_rfl
theorem afv(r:Nat)(hr:r<=2)(k n d:Int)(s:ByteArray)(ts:List Tw)(IH:∀t∈ts,VC Tryz.prog G 31 [.agg t.cs,ae (d+1)] [] (x5 (iq r t)))(cM:-9223372036854775808<=k)(eD:k<=9223372036854775807)(gI:-9223372036854775808<=n)(iO:n<=9223372036854775807)(hs:s.size<=maxLen)(hd1:0<=d)(hd:d<=2):VC Tryz.prog G 31 [.agg [ae k,ae n,bg s,.list 4 (ts.flatMap Tw.cs) ts.length],ae d] [] (x5 (iq (r+1) (.mk k n s ts))):=by
 refine VC.body func31 rfl ntmps31 aU fun X0 w0 bj=>?_;have yL:=jd k (by decide:(1:Int)<=11);have hpn:=jd n (by decide:(1:Int)<=40);have hpc:=jd n (by decide:(1:Int)<=4);obtain⟨j,hj⟩:=Int.eq_ofNat_of_zero_le hpc.1;have hj4:j<4:=(by omega)
 have I:=kL G n 4 gI iO w8;rw[hj] at I;have fY:(⟨n,cx n 40-20,s⟩:Vl).Ok:=⟨gI,iO,by show _<=cx n 40-20;omega,by show cx n 40-20<=_;omega,hs⟩
 have YO:=Qk ⟨n,cx n 40-20,s⟩;have hml:100<=maxLen:=(by decide)
 obtain⟨kk,kW⟩:∃kk:Int,1+cx k 11=kk:=⟨_,rfl⟩
 have oX:=Uh r ts n s 0;have lN:=Uh r ts n s 1;have h2p:2 ^ (r+1)<=8:=Nat.pow_le_pow_right w8 (show r+1<=3 by omega);refine bS ?_;refine OD.box (ds:=[_,_,_,_]) aq rfl rfl ot rfl rfl (fun b2=>?_);refine OD.box (ds:=[_]) aq rfl rfl ot rfl rfl (fun b3=>?_);refine an 69 [2,3] ?_;refine cz [2,3,5] ?_;refine cf (kL G k 11 cM eD w8) ?_;refine aR 0 ?_ (h:=by exact(dR (r:=.int .i64 kk) rfl bV ot (kN (by rw[kW];exact wrap_i64 w4 w4))));refine bA ?_;refine aB 3 ?_;refine bZ 14 (fun E Z=>?_) (fun E Z=>?_)
 ·exact absurd E (by simp at E;omega)
 refine bu [2,3,5,17] ?_;refine gm ?_;refine cz [2,5,6] ?_;refine aR 0 ?_ (h:=Hp);refine bA ?_;refine af [2,5,6,19] ?_;refine af [2,5,6,19,20] ?_;refine au ?_ ?_<;>intro aX cr
 ·refine CD.seq ?_;refine qR 11 10 [5,7,31] ?_;refine cf (kL G n 40 gI iO w8) ?_;refine cf (RH ⟨n,cx n 40-20,s⟩ fY) ?_;refine mo ?_;refine iz ?_;refine⟨rfl,fun b7=>?_⟩;refine aP 0 [_,_,_] sizeOf56 ?_;refine an 69 [5,7] ?_;refine aB 2 ?_;refine ez call25 (FY (pV ⟨n,cx n 40-20,s⟩).s 4 w4) ?_;refine aH 1 ?_;refine aP 0 [_,_,_] sizeOf9 ?_;refine an 69 [5,7] ?_;refine aB 3 ?_;refine ey (cu 0 [_]) [.int .i64 0,.int .i64 0,.int .i64 0,.string ⟨#[]⟩,.string ⟨#[]⟩] [_,_,_,_,_] zeroValue58 runUnderlying42 sizeOf58 (fun Dn=>?_);exact z53
 refine af [2,5,6,19,40] ?_;refine au ?_ ?_<;>intro bL cJ
 ·refine aB 1 ?_;refine ey (cu 0 [_,_,_,_]) [.string ⟨#[]⟩,.string ⟨#[]⟩,.string ⟨#[]⟩,.string ⟨#[]⟩] [_,_,_,_] zeroValue9 runUnderlying41 sizeOf9 (fun Zp=>?_);refine fD 0 43 1 4 ?_;refine aH 2 ?_;refine ez call16 (I) ?_;refine aH 1 ?_;refine bN (dz (mk:=Op.load 9) rfl ot (CG isAgg9 (Ui hj4))) ?_;refine aH 1 ?_;refine ey (cu 0 [_]) [.int .i64 0,.int .i64 0,.int .i64 0,.string ⟨#[]⟩,.string ⟨#[]⟩] [_,_,_,_,_] zeroValue58 runUnderlying42 sizeOf58 (fun AL=>?_);exact z53
 refine af [5,6,19,51] ?_;refine au ?_ ?_<;>intro cN en
 ·refine eO ?_;exact X6
 refine bM [5,6,51] ?_;refine au ?_ ?_<;>intro dW fB
 ·exact X6
 refine aB 1 ?_;refine OD.lY (f:=54) (args:=[_]) (all:=[_,_,_]) (Sf:=[_,_]) (R:=[]) aq rfl rfl ot call54 (Lx r k n d s ts 0 b2 b3 IH gI iO hs hd1 hd w8) rfl ⟨bV,trivial⟩ (Perm.refl _) ?_;rintro _ _ ⟨Zq,⟨aqS,aqT,rfl,akH⟩,rfl⟩;refine OD.perm (RE (A:=[_,_])) ?_;refine aH 1 ?_;refine OD.lY (f:=54) (args:=[_]) (all:=[_,_,_]) (Sf:=[_,_]) (R:=Zq) aq rfl rfl ot call54 (Lx r k n d s ts 1 b2 b3 IH gI iO hs hd1 hd w8) rfl ⟨bV,trivial⟩ (Perm.refl _) ?_;rintro _ _ ⟨DP,⟨W9,x4,rfl,CO⟩,rfl⟩;refine OD.perm (adt (A:=[_,_])) ?_;refine OD.gK (t:=63) (Sq:=DP) lk CO (cm nB _) (zf (A:=[_,_])) ?_;refine OD.eG (ls:=(gX r ts n s 0)) (new:=(gX r ts n s 1)) (Sq:=Zq) nB K1 aq rfl rfl underlying42 II rfl w8 ot akH (cZ (A:=[_,_])) ot w4 AA AA (fun DW O akI akJ=>?_);refine OD.perm (dU (S1:=[⟨DW,58,O*5,flatMap cO ((gX r ts n s 0)++(gX r ts n s 1))⟩]) (A:=[_,_])) ?_;refine aH 2 ?_;refine ey (cu 0 [_]) [.int .i64 0,.int .i64 0,.int .i64 0,.string ⟨#[]⟩,.string ⟨#[]⟩] [_,_,_,_,_] zeroValue58 runUnderlying42 sizeOf58 (fun qQ=>?_);refine fD 0 67 5 1 ?_
 refine OD.eG (ls:=((gX r ts n s 0)++(gX r ts n s 1))) (new:=[(⟨kk,bQ,⟨#[]⟩⟩:bf)]) (Sq:=[⟨DW,58,O*5,flatMap cO ((gX r ts n s 0)++(gX r ts n s 1))⟩]) nB K1 aq rfl rfl underlying42 II rfl w8 ot (bJ akI akJ) (cZ (A:=[_,_])) ot bq AA AA (fun Zr U akK akL=>?_);refine OD.perm (dU (S1:=[⟨Zr,58,U*5,flatMap cO (((gX r ts n s 0)++(gX r ts n s 1))++[(⟨kk,bQ,⟨#[]⟩⟩:bf)])⟩]) (A:=[_,_])) ?_;refine an 69 [4] ?_;refine aK [⟨Zr,58,U*5,flatMap cO (((gX r ts n s 0)++(gX r ts n s 1))++[(⟨kk,bQ,⟨#[]⟩⟩:bf)])⟩] ?_;exact gE.cast (gE.mk (bJ akK akL)) (by rw[wS,kW,if_neg w4,if_neg w4,if_neg w4];rfl)
theorem Vp:∀(r:Nat),r<=3->∀(t:Tw),t.Ok->VC Tryz.prog G 31 [.agg t.cs,ae (3-(r:Int))] [] (x5 (iq r t))
 | 0,_,.mk k n s ts,h=>Uj k n 3 s (.list 4 (Tw.lR ts) ts.length) rfl h.1.1 h.1.2 h.2.1.1 h.2.1.2 h.2.2.1 w8
 | r+1,hr,.mk k n s ts,h=>by
  have:=afv (G:=G) r w4 k n (3-((r+1:Nat):Int)) s ts (fun t ht=>by
   have h1:=Vp r w4 t (Tw.Uf h.2.2.2.2 t ht);rw[show(3-((r+1:Nat):Int)+1)=3-(r:Int) by omega];exact h1) h.1.1 h.1.2 h.2.1.1 h.2.1.2 h.2.2.1 w4 w4
  rw[<-Tw.K9] at this;exact this
theorem ag8(t:Tw)(h:t.Ok):VC Tryz.prog G 12 [.agg t.cs] [] (x5 (iq 3 t)):=by
 refine VC.body func12 rfl ntmps12 aU fun X0 w0 bj=>?_;obtain⟨k,n,s,ts⟩:=t;have E:=Vp (G:=G) 3 (Nat.le_refl _) (.mk k n s ts) h;unfold Tw.cs at E |-;refine bS ?_;refine OD.box (ds:=[_,_,_,_]) aq rfl rfl ot rfl rfl (fun b1=>?_);refine an 5 [1] ?_;refine aB 1 ?_;refine OD.call aq rfl rfl rfl call31 (E) ⟨ot,bV,trivial⟩ (eX _) ?_;rintro _ O ⟨U,Z,rfl,I⟩;refine OD.perm dU ?_;refine an 5 [2] ?_;refine aK O ?_;exact gE.mk I
theorem Vq(t:Tw)(h:t.Ok):VP Tryz.prog G 12 [.agg t.cs] (.list 5 ((iq 3 t).flatMap cO) (iq 3 t).length):=(ag8 t h).xG nB

end Go.Proofs.YtbplamgacibdaaaGreatDoor.Nm
