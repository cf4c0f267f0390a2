/-
  GN: walks and plain facts, part 6.
-/
import Derived.Test.YtomnenkeecbglaaGreatDoorPGN5
set_option linter.unusedVariables false
set_option linter.unusedSimpArgs false
set_option maxRecDepth 100000
set_option maxHeartbeats 4000000
namespace Go.Proofs.YtomnenkeecbglaaGreatDoor
open List
namespace Pa
open Go.Proofs.Tryz
open Go.RowKit V Pk Vl Go.Proofs.YtomnenkeecbglaaGreatDoor.Nm Pc
variable {G:List (Nat×List Value)}
theorem BS:∀(l pre:List dV),mv pre l=0->∀c∈l,dA c.n=0/\1<=c.k/\c.k<=3
 | [],_,_,c,hc=>by cases hc
 | a::l,pre,h,c,hc=>by
  have h:(if iw pre a≠0 then iw pre a else mv (pre++[a]) l)=0:=h;by_cases h0:iw pre a=0
  ·rw[if_neg (by simp[h0])] at h;rcases mem_cons.1 hc with rfl|hc
   ·unfold iw at h0;by_cases h1:dA c.n=0
    ·rw[if_neg (by simp[h1])] at h0;by_cases h2:c.k<1\/c.k>3
     ·rw[if_pos h2] at h0;cases h0
     exact⟨h1,by omega⟩
    rw[if_pos h1] at h0;exact absurd h0 h1
   exact BS l _ h c hc
  rw[if_pos h0] at h;exact absurd h h0
theorem HG{l:List dV}(h:jX l=0):(1<=l.length/\l.length<=6)/\∀c∈l,dA c.n=0/\1<=c.k/\c.k<=3:=by
 unfold jX at h;split at h
 ·cases h
 exact⟨by omega,BS l [] h⟩
theorem C6{α:Type}{f:α->Int}:∀{l:List α},gP f l=0->∀a∈l,f a=0
 | [],_,a,h=>by cases h
 | b::r,h,a,ha=>by
  unfold gP at h;split at h
  ·exact absurd h eG
  rcases mem_cons.1 ha with rfl|ha
  ·have hn:¬f a≠0:=(by assumption)
   omega
  exact C6 h a ha
theorem yw{l:List aZ}(h:lI l=0):l.length=0\/gb 0 l=0:=by
 unfold lI at h;split at h
 ·exact .inl eG
 right;unfold kx at h;split at h
 ·cases h
 exact h
theorem Ko{l:List aZ}(h:kx l=0):gb 0 l=0/\l.length<=40:=by
 unfold kx at h;split at h
 ·cases h
 exact⟨h,by omega⟩
theorem K7{s:dh}(h:ig s=0):kE s=0/\ju s (my s)=true/\(s.kind<7->dA s.table=0):=by
 unfold ig at h;split at h
 ·rename_i h1;exact absurd h h1.2
 rename_i h1;split at h
 ·cases h
 rename_i h2;refine⟨h,?_,fun hk=>?_⟩
 ·cases hb:ju s (my s) with
  | true=>rfl
  | false=>exact absurd ⟨h,hb⟩ h2
 by_cases hn:dA s.table=0
 ·exact hn
 exact absurd ⟨hk,hn⟩ h1
theorem K8{s:dh}(hf:pP s)(h1:1<=s.kind)(O:s.kind<=9)(h:ig s=0):FU s:=by
 have he:=(K7 h).1;unfold kE at he;refine⟨hf,h1,O,fun hk=>?_,fun hk v E=>?_,fun hk=>?_,fun hk=>?_⟩
 ·rw[if_pos hk] at he;exact fun c hc=>((HG he).2 c hc).2
 ·rw[if_neg w7,if_pos hk] at he;unfold oA at he;split at he
  ·cases he
  exact Dp (C6 he v E) (hf.r v E).1 (hf.r v E).2
 ·by_cases I:s.kind=4
  ·rw[if_neg w7,if_neg w7,if_pos I] at he;unfold fK at he;repeat' split at he
   all_goals first|(exfalso;omega)|exact yw w7
  by_cases M:s.kind=5
  ·rw[if_neg w7,if_neg w7,if_neg I,if_pos M] at he;repeat' split at he
   all_goals first|(exfalso;omega)|exact yw he
  rw[if_neg w7,if_neg w7,if_neg I,if_neg M,if_pos w7] at he;exact yw he
 rw[if_neg w7,if_neg w7,if_neg w7,if_pos hk] at he;repeat' split at he
 all_goals first|(exfalso;omega)|exact(Ko eG).1
def mq(s:dh):Int:=if s.kind<1\/s.kind>9 then 2 else if ig s≠0 then ig s else if (k6 s).length>100 then 10 else 0
theorem Iy(hm:(1,marksC)∈G)(hw:(0,wordsC)∈G)(hM:(2,typesC)∈G)(s:dh)(hf:pP s):VP Tryz.prog G 39 [.agg (fG s)] (ag (mq s)):=by
 refine cf func39 rfl ntmps39 aF fun X0 w0 dm=>?_;have eI:=fU;have Y:=HF hm hw s hf;unfold fG at Y;unfold fG;have QK:(s.kind<1\/s.kind>9)\/¬(s.kind<1\/s.kind>9):=(by omega)
 refine ah ?_;refine fI (ds:=[_,_,_,_,_,_,_,_,_,_,_,_]) ay rfl rfl ot rfl rfl (fun b1=>?_);refine aa ?_;refine aK [(1,_)] [⟨b1,70,12,[_,_,_,_,_,_,_,_,_,_,_,_]⟩] ?_;refine aC ?_;refine ah ?_;refine ae (aB 0) ?_;refine ae (aH 0) ?_;refine ae aE ?_;refine aa ?_;refine dN (t:=7) lk (fun hg7=>?_) (fun hg7=>?_)
 ·have I:=hg7;(try simp only[V.ai,ne_eq] at I)
  refine an ?_;refine an ?_;refine an ?_;refine ae cW ?_;refine au [1,11] ?_;refine fe ot w6 ?_;have E:mq s=2:=if_pos w7;refine ah ?_;refine aa ?_;refine au [2] ?_;refine aI ?_;refine bl ?_;rw[E];exact⟨rfl,rfl⟩
 have I:=hg7;(try simp only[V.ai,ne_eq] at I)
 refine ae (aB 0) ?_;refine ae (aH 0) ?_;refine ae aE ?_;refine ae bC ?_;refine au [1,11] ?_;refine aM ot (fun aA=>?_) (fun aA=>?_)
 ·have M:=aA
  (try simp only[V.ai,ne_eq] at M)
  have E:mq s=2:=if_pos w7;refine ah ?_;refine aa ?_;refine au [2] ?_;refine aI ?_;refine bl ?_;rw[E];exact⟨rfl,rfl⟩
 have M:=aA
 (try simp only[V.ai,ne_eq] at M)
 have hk:¬(s.kind<1\/s.kind>9):=(by omega)
 refine aS ?_;refine aC ?_;refine ah ?_;refine ae (fw 0 [_,_,_,_,_,_,_,_,_,_,_,_]) ?_;refine bU call72 (Y) ?_;refine aa ?_;refine aK [(1,_),(3,_)] [⟨b1,70,12,[_,_,_,_,_,_,_,_,_,_,_,_]⟩] ?_;refine ah ?_;refine aa ?_;refine ae aE ?_;refine au [1,3,15] ?_;refine aM ot (fun aG=>?_) (fun aG=>?_)
 ·have O:=aG
  (try simp only[V.ai,ne_eq] at O)
  have hn:ig s≠0:=(by simpa using aG)
  have E:mq s=ig s:=(by unfold mq;rw[if_neg hk,if_pos hn])
  refine ah ?_;refine aa ?_;refine aa ?_;refine au [2] ?_;refine aI ?_;refine bl ?_;rw[E];exact⟨rfl,rfl⟩
 have O:=aG
 (try simp only[V.ai,ne_eq] at O)
 have h0:ig s=0:=(by simpa using aG)
 have Z:=Jq hM s (K8 hf w7 w7 h0);unfold fG at Z;have eA:¬ig s≠0:=fun h=>h h0;refine aS ?_;refine aC ?_;refine ah ?_;refine ae (fw 0 [_,_,_,_,_,_,_,_,_,_,_,_]) ?_;refine bU call73 (Z) ?_;refine ae cZ ?_;refine ae aE ?_;refine aK [(20,_)] [⟨b1,70,12,[_,_,_,_,_,_,_,_,_,_,_,_]⟩] ?_;refine aM ot (fun U=>?_) (fun U=>?_)
 ·have aX:=U
  (try simp only[V.ai,ne_eq] at aX)
  have E:mq s=10:=(by unfold mq;rw[if_neg hk,if_neg eA,if_pos (by simp at U;omega)])
  refine ah ?_;refine aa ?_;refine au [2] ?_;refine aI ?_;refine bl ?_;rw[E];exact⟨rfl,rfl⟩
 have aX:=U
 (try simp only[V.ai,ne_eq] at aX)
 have E:mq s=0:=(by unfold mq;rw[if_neg hk,if_neg eA,if_neg (by simp at U;omega)])
 refine aS ?_;refine ah ?_;refine aa ?_;refine au [2] ?_;refine aI ?_;refine bl ?_;rw[E];exact⟨rfl,rfl⟩
end Pa
namespace Lx
open Go.Proofs.Tryz
open Go.RowKit V Go.Proofs.YtomnenkeecbglaaGreatDoor.Nm Pk
variable {w:World} {l acc:List UInt8} {i n a:Nat} {p:UInt8->Bool}
def lQ:Tk:=⟨0,⟨#[]⟩,0⟩
def fT:List UInt8->List UInt8->Nat->Tk×Nat×Int
 | [],_,_=>(lQ,0,7)
 | [c],acc,i=>if c=39 then (⟨3,⟨acc.toArray⟩,0⟩,i+1,0) else (lQ,0,7)
 | c::d::r,acc,i=>if c=39 then (if d=39 then fT r (acc++[39]) (i+2) else (⟨3,⟨acc.toArray⟩,0⟩,i+1,0)) else fT (d::r) (acc++[c]) (i+1)
def vj(l:List UInt8):Bool:=match l.dropWhile dF with|c::_=>fP c|[]=>false
def pQ(l:List UInt8):Tk×Nat×Int:=match Lib.atoiAll (l.takeWhile dF) with|.ok v=>(⟨2,⟨#[]⟩,v⟩,(l.takeWhile dF).length,0)|_=>(lQ,0,5)
def pF(l:List UInt8):Tk×Nat×Int:=match marksB.find? (fun m=>m.isPrefixOf l) with|some m=>(⟨4,⟨m.toArray⟩,0⟩,m.length,0)|none=>(lQ,0,6)
def dR(l:List UInt8):Tk×Nat×Int :=
 if fP (l.getD 0 0) then (⟨1,⟨(l.takeWhile gI).toArray⟩,0⟩,(l.takeWhile gI).length,0)
 else if dF (l.getD 0 0) then (if vj l then (lQ,0,6) else pQ l)
 else if l.getD 0 0=39 then fT (l.drop 1) [] 1
 else pF l
def Ei(r:Tk×Nat×Int):D:=.dK [.agg (cT r.1),ag (r.2.1:Nat),ag r.2.2]
def sk(G:List (Nat×List Value)):Prop:=∃ev,(7,[ev])∈G/\(ev = .nilIface\/∃te pe,ev = .iface te pe)
theorem F0{w':World}(h:Below w.heap.size w w'):Fr w (aq []) w' (aq []):=⟨h.os,h.tape,h.output,h.size,fun b hb _=>⟨h.block b hb,by simp[aq]⟩⟩
theorem Ej(w:World)(X:Nat->Prop):V.Own w (V.live X []) []:=⟨fun B E=>by simp at E,by simp[aq]⟩
theorem DL{L:Nat->Prop}(u v:Value):bP w L (.dK [.v u,.v v]) (.tuple #[u,v]):=.dK _ [u,v] rfl fun i h h'=>by
 match i,h,h' with
 | 0,_,_=>exact .v _
 | 1,_,_=>exact .v _
theorem B8:∀(l:List UInt8) (a:Nat),(∀c∈l,dF c=true)->(∃u,Lib.parseUint10 a l = .ok u)\/Lib.parseUint10 a l = .range
 | [],a,_=>.inl ⟨a,rfl⟩
 | c::r,a,hl=>by
  have hc:=hl c mem_cons_self;simp only[dF,decide_eq_true_eq] at hc;rw[Lib.parseUint10,if_pos hc];split
  ·exact .inr rfl
  split
  ·exact .inr rfl
  exact B8 r _ (fun d hd=>hl d (mem_cons_of_mem _ hd))
theorem Jr(hl:∀c∈l,dF c=true)(h0:l≠[]):(∃v,Lib.atoiAll l = .ok v)\/Lib.atoiAll l = .range:=by
 match l,h0 with
 | c::r,_ =>
  have hc:=hl c mem_cons_self;simp only[dF,decide_eq_true_eq] at hc;have hm:Lib.parseMag (c::r)=Lib.parseUint10 0 (c::r):=(by unfold Lib.parseMag;rw[if_neg cq])
  unfold Lib.atoiAll;simp only;rw[if_neg w7,hm];rcases B8 (c::r) 0 hl with ⟨u,E⟩|E
  ·rw[E];simp only;split
   ·exact .inr rfl
   split
   ·exact .inr rfl
   exact .inl ⟨_,rfl⟩
  rw[E];exact .inr rfl
theorem MX{G:List (Nat×List Value)}{X:Nat->Prop}{x:Value}{us:List Value}(hp:mL G X w [] [.v x] us):us=[x]:=by
 obtain⟨a1,a2⟩:=hp.args;match us,a1,a2 with
 | [u],_,a2=>have e:u=_:=(a2 0 Nat.zero_lt_one Nat.zero_lt_one).gu;rw[e]
theorem C7{G:List (Nat×List Value)}(s:ByteArray)(hs:s.size<=1000000)(hd:∀c∈s.data.toList,dF c=true)(h0:s.data.toList≠[])(hr:Lib.atoiAll s.data.toList = .range->sk G) :
  VC Tryz.prog G 113 [bT s] [] (fun r S=>S=[]/\((∃v,Lib.atoiAll s.data.toList = .ok v/\r = .dK [ag v,.v .nilIface])\/(Lib.atoiAll s.data.toList = .range/\∃v te p,r = .dK [ag v,.v (.iface te p)]))):=fun X w us hp=>by
 have E:us=[.string s]:=MX hp;subst E;rcases Jr hd h0 with ⟨v,ha⟩|ha
 ·refine(Tryz.strconv_Atoi_ok s w7 v ha w).mono fun e w' ⟨h1,h2⟩=>⟨_,_,[],h1,⟨rfl,.inl ⟨v,ha,rfl⟩⟩,Ej _ _,DL _ _,F0 ?_⟩
  rcases h2 with rfl|⟨t,rfl⟩
  ·exact Below.refl _ _
  exact Lib.bytesWorld_below _ _ _
 obtain⟨ev,hg,wv⟩:=hr ha;refine(Tryz.strconv_Atoi_range s w7 ha ev w (iR.cell ((hp.dx _ hg).2 0 _ rfl) (by rcases wv with rfl|⟨te,pe,rfl⟩<;>rfl)) wv).mono fun e w' ⟨N,h1,_,_,h2⟩=>⟨_,_,[],h1,⟨rfl,.inr ⟨ha,_,_,_,rfl⟩⟩,Ej _ _,DL _ _,F0 h2⟩
variable {G:List (Nat×List Value)}
theorem Js(c:UInt8):VP Tryz.prog G 112 [.v (.int .u8 ((c).toNat:Int))] (bw (gI c)):=by
 refine cf func112 rfl ntmps112 aF fun M w0 I=>?_;refine ah ?_;refine aa ?_;refine au [0] ?_;refine ah ?_;refine aa ?_;refine bU call85 (r9 c) ?_;refine aa ?_;refine dN (t:=5) lk (fun hg5=>?_) (fun hg5=>?_)
 ·have E:=hg5;(try simp only[V.ai,ne_eq] at E)
  refine an ?_;refine an ?_;refine ae cW ?_;refine aa ?_;refine aK [(2,_)] [] ?_;refine aI ?_;refine⟨.inr rfl,en results112 ?_⟩;exact⟨vb (by simp[gI, *]),rfl⟩
 have E:=hg5;(try simp only[V.ai,ne_eq] at E)
 refine aa ?_;refine qx dH rfl rfl rfl call87 (uT c) ⟨ot,trivial⟩ ?_;refine ae bC ?_;refine aa ?_;refine aK [(2,_)] [] ?_;refine aI ?_;refine⟨.inr rfl,en results112 ?_⟩;exact⟨vb (by simp[gI, *]),rfl⟩
theorem HH(hi:i<l.length)(hc:l[i]≠39):fT (l.drop i) acc i=fT (l.drop (i+1)) (acc++[l[i]]) (i+1):=by
 rw[drop_eq_getElem_cons hi];cases hr:l.drop (i+1) with
 | nil=>exact if_neg hc
 | cons d r=>exact if_neg hc
theorem Iz(hi:i+1<l.length)(hc:l[i]=39)(hd:l[i+1]=39):fT (l.drop i) acc i=fT (l.drop (i+2)) (acc++[l[i+1]]) (i+2):=by
 rw[drop_eq_getElem_cons w7,drop_eq_getElem_cons hi,fT,if_pos hc,if_pos hd,hd]
theorem Cx(hi:i<l.length)(hc:l[i]=39)(hd:i+1=l.length\/∃h:i+1<l.length,l[i+1]≠39):fT (l.drop i) acc i=(⟨3,⟨acc.toArray⟩,0⟩,i+1,0):=by
 rw[drop_eq_getElem_cons hi];cases hr:l.drop (i+1) with
 | nil=>rw[fT,if_pos hc]
 | cons d r =>
  rcases hd with hd|⟨h,hd⟩
  ·rw[hd,drop_length] at hr;cases hr
  rw[drop_eq_getElem_cons h] at hr;cases hr;rw[fT,if_pos hc,if_neg hd]
theorem He(hi:l.length<=i):fT (l.drop i) acc i=(lQ,0,7):=by
 rw[drop_eq_nil_of_le hi];rfl
theorem B9:(Tryz.prog.info? 5).map (fun i=>(i.zero,i.size,i.bytes))=some (some (.int .u8 0),1,1):=by kernel_rfl
theorem lC : ∀ w, ((#[{ name := "Kind", type := 3, offset := 0, embedded := false, tag := "", pkgPath := "", byteOffset := 0 }, { name := "Text", type := 9, offset := 1, embedded := false, tag := "", pkgPath := "", byteOffset := 8 }, { name := "Int", type := 3, offset := 2, embedded := false, tag := "", pkgPath := "", byteOffset := 24 }] : Array Field).mapM fun f => do pure (f.offset, ← sizeOf f.type) : Sem (Array (Nat × Nat))).run Tryz.prog w = .ok #[(0, 1), (1, 1), (2, 1)] w := fun w => by simp [sizeOf3, sizeOf9]
theorem Jt(s:ByteArray)(hs:s.size<=1000000):VP Tryz.prog G 114 [bT s] (Ei (fT (s.data.toList.drop 1) [] 1)):=by
 refine cf func114 rfl ntmps114 aF fun X0 w0 dm=>?_;have eI:=fU;have rF:=ic s;refine ah ?_;refine eo (ds:=[_,_,_]) ay rfl rfl zeroValue113 rfl (fun Y=>?_);refine aa ?_;refine aa ?_;refine aK [(0,_),(2,_)] [⟨Y,113,3,[_,_,_]⟩] ?_;refine ah ?_;refine aa ?_;refine au [0,2,5] ?_;refine aC ?_;refine ah ?_;refine aa ?_;refine au [0,2,5,6] ?_;refine bZ ?_;refine fa (fun (Z:Nat×List UInt8×Option Addr×Nat×List ak) cn=>match Z with|(i,acc,xb,xd,Sb)=>(fT (s.data.toList.drop i) acc i=fT (s.data.toList.drop 1) [] 1)/\(acc.length<=i)/\(i<=s.size+1)/\(bV 5 1 ((acc).flatMap cB) (acc).length xb xd Sb)/\cn=(⟨43,[(0,bT s),(2,bD Y),(5,az xb (acc).length xd),(6,ag (i:Nat))],((⟨Y,113,3,cT lQ⟩:ak)::Sb)⟩:St)) (fun (Z:Nat×List UInt8×Option Addr×Nat×List ak)=>match Z with|(i,acc,xb,xd,Sb)=>s.size+1-i) (1,[],none,0,[]) ⟨rfl,(Nat.zero_le _),w7,(bV.cast kT mH),rfl⟩ (Wk.bI rfl cG tq) ?_;rintro⟨i,acc,xb,xd,Sb⟩ _ ⟨ht,wg,Fa,xe,rfl⟩;refine aC ?_;refine ah ?_;refine aa ?_;refine aa ?_;refine ae (kg rfl rfl ot runUnderlying9) ?_;refine ae aE ?_;refine bc (Wk.aR (n:=43) (l':=[(0,_),(2,_),(5,_),(6,_),(10,_)]) (S':=(⟨Y,113,3,[_,_,_]⟩::Sb)) rfl rfl bj) ?_;refine bi ?_;refine aM ot (fun aA=>?_) (fun aA=>?_)
 ·have dJ:=aA
  (try simp only[V.ai,ne_eq] at dJ)
  have aD:i<s.size:=(by omega)
  have qd:i<s.data.toList.length:=(by omega)
  have ux:=qs qd;refine aS ?_;refine aC ?_;refine bZ ?_;refine aC ?_;refine ah ?_;have Ow:i<s.size:=(by omega)
  have QL:s[i]?=some (c6 s (i)):=lH Ow;refine aa ?_;refine aa ?_;refine ae (mg (c:=c6 s i) rfl ot ot runUnderlying9 rfl (lH aD)) ?_;refine ae aE ?_;refine bc (Wk.aR (n:=43) (l':=[(0,_),(2,_),(5,_),(6,_),(16,_)]) (S':=(⟨Y,113,3,[_,_,_]⟩::Sb)) rfl rfl bj) ?_;refine bi ?_;refine aM ot (fun aG=>?_) (fun aG=>?_)
  ·have cA:=aG
   (try simp only[V.ai,ne_eq] at cA)
   have hq:c6 s i=39:=UInt8.toNat_inj.1 (by simp at aG;show(c6 s i).toNat=39;omega);refine aC ?_;refine ah ?_;refine aa ?_;refine ae (eX (r:=.int .i64 ((i+1:Nat):Int)) rfl ot aN (lD Ae)) ?_;refine aa ?_;refine ae (kg rfl rfl ot runUnderlying9) ?_;refine ae aE ?_;refine aa ?_;refine dN (t:=22) lk (fun ri=>?_) (fun ri=>?_)
   ·have U:=ri;(try simp only[V.ai,ne_eq] at U)
    refine an ?_;refine an ?_;refine an ?_;refine an ?_;refine an ?_;refine ae cW ?_;refine bc (Wk.aR (n:=43) (l':=[(0,_),(2,_),(5,_),(6,_),(28,_)]) (S':=(⟨Y,113,3,[_,_,_]⟩::Sb)) rfl rfl bj) ?_;refine bi ?_;refine fe ot w6 ?_;have M:fT (s.data.toList.drop i) acc i=(⟨3,⟨acc.toArray⟩,0⟩,i+1,0):=Cx qd (by rw[ux];exact hq) EE;rw[ht] at M;refine ah ?_;refine aa ?_;refine iH (t:=29) (Sq:=Sb) lk xe (de vf _) (cy (A:=[_])) ?_;first|refine ae (xk rfl ot underlying83 underlying5 underlying9) ?_|refine gE ay rfl (Bp rfl ot underlying83 underlying5 underlying9) ?_
    refine ae (dc (pl:=[(0,_),(1,_)]) (ds:=[_,_,_]) rfl zeroValue113 runUnderlying113 lC ⟨rfl,aN,rfl,ot,trivial⟩ rfl rfl) ?_;refine aa ?_;refine ae aE ?_;refine bn 0 [_,_,_] sizeOf113 ?_;refine aa ?_;refine aa ?_;refine aK [(2,_),(3,_),(4,_)] [⟨Y,113,3,[_,_,_]⟩] ?_;refine aI ?_;refine⟨.inr rfl,_,[],nil_sublist _,gm results114 (di (k:=0) (ds:=[_,_,_]) aF lk rfl rfl isAgg113 sizeOf113 rfl rfl) (cw aF lk) (cw aF lk),?_⟩;first|(rw[M];exact⟨rfl,rfl⟩)|(rw[I];exact⟨rfl,rfl⟩)
   have U:=ri;(try simp only[V.ai,ne_eq] at U)
   refine aa ?_;refine aa ?_;have lU:i+1<s.size:=(by simp at *;omega)
   refine gE dH rfl (eX (r:=.int .i64 ((i+1:Nat):Int)) rfl ot aN (lD Ae)) ?_;refine gE dH rfl (mg (c:=c6 s (i+1)) rfl ot ot runUnderlying9 rfl (lH lU)) ?_;refine ae aE ?_;refine ae bC ?_;refine bc (Wk.aR (n:=43) (l':=[(0,_),(2,_),(5,_),(6,_),(28,_)]) (S':=(⟨Y,113,3,[_,_,_]⟩::Sb)) rfl rfl bj) ?_;refine bi ?_;refine aM ot (fun bJ=>?_) (fun bJ=>?_)
   ·have aX:=bJ
    (try simp only[V.ai,ne_eq] at aX)
    have M:fT (s.data.toList.drop i) acc i=(⟨3,⟨acc.toArray⟩,0⟩,i+1,0):=Cx qd (by rw[ux];exact hq) EE;rw[ht] at M;refine ah ?_;refine aa ?_;refine iH (t:=29) (Sq:=Sb) lk xe (de vf _) (cy (A:=[_])) ?_;first|refine ae (xk rfl ot underlying83 underlying5 underlying9) ?_|refine gE ay rfl (Bp rfl ot underlying83 underlying5 underlying9) ?_
    refine ae (dc (pl:=[(0,_),(1,_)]) (ds:=[_,_,_]) rfl zeroValue113 runUnderlying113 lC ⟨rfl,aN,rfl,ot,trivial⟩ rfl rfl) ?_;refine aa ?_;refine ae aE ?_;refine bn 0 [_,_,_] sizeOf113 ?_;refine aa ?_;refine aa ?_;refine aK [(2,_),(3,_),(4,_)] [⟨Y,113,3,[_,_,_]⟩] ?_;refine aI ?_;refine⟨.inr rfl,_,[],nil_sublist _,gm results114 (di (k:=0) (ds:=[_,_,_]) aF lk rfl rfl isAgg113 sizeOf113 rfl rfl) (cw aF lk) (cw aF lk),?_⟩;first|(rw[M];exact⟨rfl,rfl⟩)|(rw[I];exact⟨rfl,rfl⟩)
   have aX:=bJ
   (try simp only[V.ai,ne_eq] at aX)
   have lU:i+1<s.size:=(by simp at *;omega)
   have Ek:i+1<s.data.toList.length:=(by omega)
   have El:=qs Ek;have kP:c6 s (i+1)=39:=UInt8.toNat_inj.1 (by simp at *;show(c6 s (i+1)).toNat=39;omega);have lm:=Iz (acc:=acc) Ek (by rw[ux];exact hq) (by rw[El];exact kP);rw[El] at lm;refine aS ?_;refine aV ?_;refine aa ?_;refine ae (eX (r:=.int .i64 ((i+1:Nat):Int)) rfl ot aN (lD Ae)) ?_;refine aa ?_;refine bc (Wk.aR (n:=43) (l':=[(0,_),(2,_),(5,_),(6,_)]) (S':=(⟨Y,113,3,[_,_,_]⟩::Sb)) rfl rfl bj) ?_;refine bi ?_;refine aV ?_;refine aa ?_;refine aa ?_;refine aa ?_;refine ae (mg (c:=c6 s (i+1)) rfl ot ot runUnderlying9 rfl (lH lU)) ?_;refine dM (aU 0 [_]) [.int .u8 0] [_] zeroValue5 runUnderlying83 sizeOf5 (fun Ox=>?_);refine fB 0 40 1 1 ?_;refine fY (ls:=(acc)) (new:=[c6 s (i+1)]) (Sq:=Sb) vf Dh ay rfl rfl underlying83 B9 rfl cc ot xe (cy (A:=[_])) ot cq (by simp[maxLen];omega) ee (fun O E zP zQ=>?_);refine aW (dj (S1:=[⟨O,5,E*1,flatMap cB ((acc)++[c6 s (i+1)])⟩]) (A:=[_])) ?_;refine aa ?_;refine bc (Wk.aR (n:=43) (l':=[(0,_),(2,_),(5,_),(6,_)]) (S':=(⟨Y,113,3,[_,_,_]⟩::[⟨O,5,E*1,flatMap cB ((acc)++[c6 s (i+1)])⟩])) rfl rfl bj) ?_;refine bi ?_;refine aV ?_;refine aa ?_;refine ae aE ?_;refine aa ?_;refine au [0,2,5,6] ?_
   refine⟨((i+2),(acc++[c6 s (i+1)]),(some ⟨O,0,none⟩),E,[⟨O,5,E*1,flatMap cB ((acc)++[c6 s (i+1)])⟩]),_,?_,?_,(lm.symm.trans ht),ee,w7,(bV.cast (cU zP zQ) mH),rfl⟩
   ·first|omega|(simp only[];omega)
   exact Wk.bI (n:=43) rfl cG tq
  have cA:=aG
  (try simp only[V.ai,ne_eq] at cA)
  have hq:c6 s i≠39:=fun e=>by rw[e] at aG;simp at aG
  have lm:=HH (acc:=acc) qd (by rw[ux];exact hq);rw[ux] at lm;refine aS ?_;refine aV ?_;refine aa ?_;refine aa ?_;refine aa ?_;refine ae (mg (c:=c6 s i) rfl ot ot runUnderlying9 rfl (lH aD)) ?_;refine dM (aU 0 [_]) [.int .u8 0] [_] zeroValue5 runUnderlying83 sizeOf5 (fun Ox=>?_);refine fB 0 40 1 1 ?_;refine fY (ls:=(acc)) (new:=[c6 s i]) (Sq:=Sb) vf Dh ay rfl rfl underlying83 B9 rfl cc ot xe (cy (A:=[_])) ot cq (by simp[maxLen];omega) ee (fun O E zP zQ=>?_);refine aW (dj (S1:=[⟨O,5,E*1,flatMap cB ((acc)++[c6 s i])⟩]) (A:=[_])) ?_;refine aa ?_;refine bc (Wk.aR (n:=43) (l':=[(0,_),(2,_),(5,_),(6,_)]) (S':=(⟨Y,113,3,[_,_,_]⟩::[⟨O,5,E*1,flatMap cB ((acc)++[c6 s i])⟩])) rfl rfl bj) ?_;refine bi ?_;refine aV ?_;refine aa ?_;refine ae aE ?_;refine aa ?_;refine au [0,2,5,6] ?_;refine⟨((i+1),(acc++[c6 s i]),(some ⟨O,0,none⟩),E,[⟨O,5,E*1,flatMap cB ((acc)++[c6 s i])⟩]),_,?_,?_,(lm.symm.trans ht),ee,w7,(bV.cast (cU zP zQ) mH),rfl⟩
  ·first|omega|(simp only[];omega)
  exact Wk.bI (n:=43) rfl cG tq
 have dJ:=aA
 (try simp only[V.ai,ne_eq] at dJ)
 have I:=He (acc:=acc) (show s.data.toList.length<=i by omega);rw[ht] at I;refine ep ?_;refine ah ?_;refine ae (dc (pl:=[]) (ds:=[_,_,_]) rfl zeroValue113 runUnderlying113 lC trivial rfl rfl) ?_;refine bn 0 [_,_,_] sizeOf113 ?_;refine aa ?_;refine aa ?_;refine bc (Wk.aR (n:=43) (l':=[(2,_),(3,_),(4,_)]) (S':=(⟨Y,113,3,[_,_,_]⟩::Sb)) rfl rfl bj) ?_;refine bi ?_;refine aI ?_;refine⟨.inr rfl,_,[],nil_sublist _,gm results114 (di (k:=0) (ds:=[_,_,_]) aF lk rfl rfl isAgg113 sizeOf113 rfl rfl) (cw aF lk) (cw aF lk),?_⟩;first|(rw[M];exact⟨rfl,rfl⟩)|(rw[I];exact⟨rfl,rfl⟩)
theorem yf(p:UInt8->Bool)(s:ByteArray):cE p s<=s.size:=by
 rw[<-ic s];exact(takeWhile_prefix p).length_le
theorem o8(p:UInt8->Bool)(s:ByteArray):(s.extract 0 (cE p s)).data.toList=s.data.toList.takeWhile p:=by
 rw[ByteArray.data_extract,Array.toList_extract];have:=prefix_iff_eq_take.1 (takeWhile_prefix (l:=s.data.toList) p);show(s.data.toList.drop 0).take (cE p s-0)=_;rw[drop_zero,Nat.sub_zero];exact this.symm
theorem qL(s:ByteArray):s.data.toList.getD 0 0=c6 s 0:=rfl
theorem IA{s:ByteArray}(h:fP (c6 s 0)=true):dR s.data.toList=(⟨1,s.extract 0 (cE gI s),0⟩,cE gI s,0):=by
 unfold dR;rw[qL,if_pos h];have:s.extract 0 (cE gI s)=⟨(s.data.toList.takeWhile gI).toArray⟩:=IT (by rw[o8]);rw[this];rfl
theorem Cy(s:ByteArray):vj s.data.toList=(decide (cE dF s<s.size)&&fP (c6 s (cE dF s))):=by
 unfold vj;have ht:s.data.toList.dropWhile dF=s.data.toList.drop (cE dF s):=by
  have h1:=takeWhile_append_dropWhile (p:=dF) (l:=s.data.toList);conv=>rhs;rw[<-h1]
  exact(drop_left).symm
 rw[ht];by_cases h:cE dF s<s.size
 ·have hl:cE dF s<s.data.toList.length:=(by rw[ic];exact h)
  rw[drop_eq_getElem_cons hl,qs hl];simp[h]
 rw[drop_eq_nil_of_le (by rw[ic];omega)];simp[h]
theorem HI{s:ByteArray}(h0:fP (c6 s 0)=false)(h1:dF (c6 s 0)=true)(h2:(decide (cE dF s<s.size)&&fP (c6 s (cE dF s)))=true):dR s.data.toList=(lQ,0,6):=by
 unfold dR;rw[qL,if_neg (by rw[h0];simp),if_pos h1,Cy,if_pos h2]
theorem one_num{s:ByteArray}(h0:fP (c6 s 0)=false)(h1:dF (c6 s 0)=true)(h2:(decide (cE dF s<s.size)&&fP (c6 s (cE dF s)))=false):dR s.data.toList=pQ s.data.toList:=by
 unfold dR;rw[qL,if_neg (by rw[h0];simp),if_pos h1,Cy,if_neg (by rw[h2];simp)]
theorem Dq{s:ByteArray}{v:Int}(h:Lib.atoiAll (s.extract 0 (cE dF s)).data.toList = .ok v):pQ s.data.toList=(⟨2,⟨#[]⟩,v⟩,cE dF s,0):=by
 rw[o8] at h;unfold pQ;rw[h];rfl
theorem uW{s:ByteArray}(h:Lib.atoiAll (s.extract 0 (cE dF s)).data.toList = .range):pQ s.data.toList=(lQ,0,5):=by
 rw[o8] at h;unfold pQ;rw[h]
theorem IB{s:ByteArray}(h0:fP (c6 s 0)=false)(h1:dF (c6 s 0)=false)(h2:c6 s 0=39):dR s.data.toList=fT (s.data.toList.drop 1) [] 1:=by
 unfold dR;rw[qL,if_neg (by rw[h0];simp),if_neg (by rw[h1];simp),if_pos h2]
theorem IC{s:ByteArray}(h0:fP (c6 s 0)=false)(h1:dF (c6 s 0)=false)(h2:c6 s 0≠39):dR s.data.toList=pF s.data.toList:=by
 unfold dR;rw[qL,if_neg (by rw[h0];simp),if_neg (by rw[h1];simp),if_neg h2]
theorem ID{k:Nat}(hk:k<marksB.length)(h0:∀m∈marksB.take k,m.isPrefixOf l=false)(h1:marksB[k].isPrefixOf l=true):pF l=(⟨4,⟨marksB[k].toArray⟩,0⟩,marksB[k].length,0):=by
 have:marksB.find? (fun m=>m.isPrefixOf l)=some marksB[k]:=by
  rw[find?_eq_some_iff_getElem];refine⟨h1,k,hk,rfl,fun j hj=>?_⟩;have:=h0 marksB[j] (mem_take_iff_getElem.2 ⟨j,by omega,rfl⟩);rw[this];rfl
 unfold pF;rw[this]
theorem HJ(h0:∀m∈marksB.take 12,m.isPrefixOf l=false):pF l=(lQ,0,6):=by
 have:marksB.find? (fun m=>m.isPrefixOf l)=none:=by
  rw[find?_eq_none];intro m hm;rw[h0 m hm];simp
 unfold pF;rw[this]
theorem IE{k:Nat}(hk:k<marksB.length):(marksC.map D.v)[k*1]?=some (bT ⟨marksB[k].toArray⟩):=by
 have h2:k<(marksC.map D.v).length:=(by rw[length_map];exact hk)
 rw[Nat.mul_one,getElem?_eq_getElem h2];simp[marksC,sF]
theorem Ju(s p:ByteArray):VP Tryz.prog G 115 [bT s,bT p] (bw (p.data.toList.isPrefixOf s.data.toList)) :=
 VP.IU (P:=Tryz.prog) (G:=G) (f:=115) (vs:=[.string s,.string p]) (v:=.bool (p.data.toList.isPrefixOf s.data.toList)) fun w _ =>
  (Tryz.strings_HasPrefix s p w).mono fun e w' ⟨h1,h2⟩=>⟨h1,h2 ▸ Below.refl _ _⟩
theorem xL(p:UInt8->Bool):∀(l:List UInt8) (c:UInt8),c∈l.takeWhile p->p c=true
 | [],c,h=>by cases h
 | a::r,c,h=>by
  rw[takeWhile_cons] at h;split at h
  ·rcases mem_cons.1 h with rfl|h
   ·assumption
   exact xL p r c h
  cases h
theorem Ca(h:p (l.getD 0 0)=true)(h0:0<l.length):l.takeWhile p≠[]:=by
 match l,h0 with
 | a::r,_ =>
  have h:p a=true:=h;rw[takeWhile_cons,if_pos h];simp
theorem Kp(hm:(1,marksC)∈G)(s:ByteArray)(h0:0<s.size)(hs:s.size<=1000000)(l9:(dR s.data.toList).2.2=5->sk G):VP Tryz.prog G 68 [bT s] (Ei (dR s.data.toList)):=by
 refine cf func68 rfl ntmps68 aF fun X0 w0 dm=>?_;have eI:=fU;have AG:=yf gI s;have QM:=yf dF s;refine ah ?_;refine eo (ds:=[_,_,_]) ay rfl rfl zeroValue113 rfl (fun M=>?_);refine aa ?_;refine aa ?_;refine aK [(0,_),(2,_)] [⟨M,113,3,[_,_,_]⟩] ?_;refine aC ?_;refine bZ ?_;refine ah ?_;refine aa ?_;refine ae (mg (c:=c6 s 0) rfl ot aN runUnderlying9 rfl (lH h0)) ?_;refine bU call85 (r9 _) ?_;refine aa ?_;refine aK [(0,_),(2,_),(11,_)] [⟨M,113,3,[_,_,_]⟩] ?_;refine aM ot (fun aA=>?_) (fun aA=>?_)
 ·have dJ:=aA
  (try simp only[V.ai,ne_eq] at dJ)
  have E:=IA aA;refine ah ?_;refine aa ?_;refine bU call66 (qF s 112 gI call112 Js w7) ?_;refine aa ?_;refine aK [(0,_),(2,_),(5,_)] [⟨M,113,3,[_,_,_]⟩] ?_;refine ah ?_;refine aa ?_;refine aa ?_;refine ae (fH (l:=0) (h:=cE gI s) rfl ot trivial ⟨_,ot⟩ Aa) ?_;refine ae (dc (pl:=[(0,_),(1,_)]) (ds:=[_,_,_]) rfl zeroValue113 runUnderlying113 lC ⟨rfl,aN,rfl,ot,trivial⟩ rfl rfl) ?_;refine aa ?_;refine bn 0 [_,_,_] sizeOf113 ?_;refine aa ?_;refine aa ?_;refine aK [(2,_),(3,_),(4,_)] [⟨M,113,3,[_,_,_]⟩] ?_;refine aI ?_;refine⟨.inr rfl,_,[],nil_sublist _,gm results68 (di (k:=0) (ds:=[_,_,_]) aF lk rfl rfl isAgg113 sizeOf113 rfl rfl) (cw aF lk) (cw aF lk),?_⟩;rw[E];exact⟨rfl,rfl⟩
 have dJ:=aA
 (try simp only[V.ai,ne_eq] at dJ)
 have O:fP (c6 s 0)=false:=aA;refine ah ?_;refine aa ?_;refine ae (mg (c:=c6 s 0) rfl ot aN runUnderlying9 rfl (lH h0)) ?_;refine bU call87 (uT _) ?_;refine aa ?_;refine aK [(0,_),(2,_),(22,_)] [⟨M,113,3,[_,_,_]⟩] ?_;refine aM ot (fun aG=>?_) (fun aG=>?_)
 ·have cA:=aG
  (try simp only[V.ai,ne_eq] at cA)
  have hd0:dF (c6 s 0)=true:=aG;refine ah ?_;refine aa ?_;refine bU call66 (qF s 87 dF call87 uT w7) ?_;refine aa ?_;refine aK [(0,_),(2,_),(6,_)] [⟨M,113,3,[_,_,_]⟩] ?_;refine aC ?_;refine ah ?_;refine aa ?_;refine aa ?_;refine ae (kg rfl rfl ot runUnderlying9) ?_;refine ae aE ?_;refine aa ?_;refine dN (t:=32) lk (fun zR=>?_) (fun zR=>?_)
  ·have U:=zR;(try simp only[V.ai,ne_eq] at U)
   have Oy:cE dF s<s.size:=(by simp at *;omega)
   refine aa ?_;refine aa ?_;refine gE dH rfl (mg (c:=c6 s (cE dF s)) rfl ot ot runUnderlying9 rfl (lH Oy)) ?_;refine qx dH rfl rfl rfl call85 (r9 _) ⟨ot,trivial⟩ ?_;refine ae cW ?_;refine aK [(0,_),(2,_),(6,_),(37,_)] [⟨M,113,3,[_,_,_]⟩] ?_;refine aM ot (fun bJ=>?_) (fun bJ=>?_)
   ·have aX:=bJ
    (try simp only[V.ai,ne_eq] at aX)
    have E:=HI O hd0 (by simp at *;simp[*]);refine ah ?_;refine ae (dc (pl:=[]) (ds:=[_,_,_]) rfl zeroValue113 runUnderlying113 lC trivial rfl rfl) ?_;refine bn 0 [_,_,_] sizeOf113 ?_;refine aa ?_;refine aa ?_;refine aK [(2,_),(3,_),(4,_)] [⟨M,113,3,[_,_,_]⟩] ?_;refine aI ?_;refine⟨.inr rfl,_,[],nil_sublist _,gm results68 (di (k:=0) (ds:=[_,_,_]) aF lk rfl rfl isAgg113 sizeOf113 rfl rfl) (cw aF lk) (cw aF lk),?_⟩;rw[E];exact⟨rfl,rfl⟩
   have aX:=bJ
   (try simp only[V.ai,ne_eq] at aX)
   have Y:(decide (cE dF s<s.size)&&fP (c6 s (cE dF s)))=false:=(by first|(rw[bJ];simp;done)|(simp at *;simp[*];done)|(simp at *;omega))
   refine aS ?_;refine ah ?_;refine aa ?_;refine aa ?_;refine ae (fH (l:=0) (h:=cE dF s) rfl ot trivial ⟨_,ot⟩ Aa) ?_;refine cP ay rfl rfl rfl call113 (C7 (s.extract 0 (cE dF s)) EC (by rw[o8];intro c hc;exact xL _ _ c hc) EG (fun hr=>l9 (by rw[one_num O hd0 Y,uW hr]))) ⟨ot,trivial⟩ (jP _) ?_;rintro _ Oz ⟨rfl,Bi⟩;rcases Bi with ⟨v,hv,rfl⟩|⟨hv,v,te,pe,rfl⟩
   ·have fD:=Dq hv;have E:=one_num O hd0 Y;rw[fD] at E;refine aa ?_;refine ae gW ?_;refine ae gW ?_;refine aa ?_;refine aa ?_;refine aK [(2,_),(6,_),(7,_),(8,_)] [⟨M,113,3,[_,_,_]⟩] ?_;refine aC ?_;refine ah ?_;refine aa ?_;refine ae (xq rfl ot underlying215) ?_;refine aK [(2,_),(6,_),(7,_),(47,_)] [⟨M,113,3,[_,_,_]⟩] ?_;refine aM ot (fun I=>?_) (fun I=>?_)
    ·exact absurd I (by simp at I)
    refine aS ?_;refine ah ?_;refine aa ?_;refine ae (dc (pl:=[(0,_),(2,_)]) (ds:=[_,_,_]) rfl zeroValue113 runUnderlying113 lC ⟨rfl,aN,rfl,ot,trivial⟩ rfl rfl) ?_;refine aa ?_;refine bn 0 [_,_,_] sizeOf113 ?_;refine aa ?_;refine aa ?_;refine aK [(2,_),(3,_),(4,_)] [⟨M,113,3,[_,_,_]⟩] ?_;refine aI ?_;refine⟨.inr rfl,_,[],nil_sublist _,gm results68 (di (k:=0) (ds:=[_,_,_]) aF lk rfl rfl isAgg113 sizeOf113 rfl rfl) (cw aF lk) (cw aF lk),?_⟩;rw[E];exact⟨rfl,rfl⟩
   have fD:=uW hv;have E:=one_num O hd0 Y;rw[fD] at E;refine aa ?_;refine ae gW ?_;refine ae gW ?_;refine aa ?_;refine aa ?_;refine aK [(2,_),(6,_),(7,_),(8,_)] [⟨M,113,3,[_,_,_]⟩] ?_;refine aC ?_;refine ah ?_;refine aa ?_;refine ae (xm rfl ot underlying215) ?_;refine aK [(2,_),(6,_),(7,_),(47,_)] [⟨M,113,3,[_,_,_]⟩] ?_;refine aM ot (fun I=>?_) (fun I=>?_)
   ·refine ah ?_;refine ae (dc (pl:=[]) (ds:=[_,_,_]) rfl zeroValue113 runUnderlying113 lC trivial rfl rfl) ?_;refine bn 0 [_,_,_] sizeOf113 ?_;refine aa ?_;refine aa ?_;refine aK [(2,_),(3,_),(4,_)] [⟨M,113,3,[_,_,_]⟩] ?_;refine aI ?_;refine⟨.inr rfl,_,[],nil_sublist _,gm results68 (di (k:=0) (ds:=[_,_,_]) aF lk rfl rfl isAgg113 sizeOf113 rfl rfl) (cw aF lk) (cw aF lk),?_⟩;rw[E];exact⟨rfl,rfl⟩
   exact absurd I (by simp at I)
  have U:=zR;(try simp only[V.ai,ne_eq] at U)
  refine an ?_;refine an ?_;refine an ?_;refine an ?_;refine ae bC ?_;refine aK [(0,_),(2,_),(6,_),(37,_)] [⟨M,113,3,[_,_,_]⟩] ?_;refine iG ot w6 ?_;have Y:(decide (cE dF s<s.size)&&fP (c6 s (cE dF s)))=false:=(by first|(rw[bJ];simp;done)|(simp at *;simp[*];done)|(simp at *;omega))
  refine aS ?_;refine ah ?_;refine aa ?_;refine aa ?_;refine ae (fH (l:=0) (h:=cE dF s) rfl ot trivial ⟨_,ot⟩ Aa) ?_;refine cP ay rfl rfl rfl call113 (C7 (s.extract 0 (cE dF s)) EC (by rw[o8];intro c hc;exact xL _ _ c hc) EG (fun hr=>l9 (by rw[one_num O hd0 Y,uW hr]))) ⟨ot,trivial⟩ (jP _) ?_;rintro _ Oz ⟨rfl,Bi⟩;rcases Bi with ⟨v,hv,rfl⟩|⟨hv,v,te,pe,rfl⟩
  ·have fD:=Dq hv;have E:=one_num O hd0 Y;rw[fD] at E;refine aa ?_;refine ae gW ?_;refine ae gW ?_;refine aa ?_;refine aa ?_;refine aK [(2,_),(6,_),(7,_),(8,_)] [⟨M,113,3,[_,_,_]⟩] ?_;refine aC ?_;refine ah ?_;refine aa ?_;refine ae (xq rfl ot underlying215) ?_;refine aK [(2,_),(6,_),(7,_),(47,_)] [⟨M,113,3,[_,_,_]⟩] ?_;refine aM ot (fun I=>?_) (fun I=>?_)
   ·exact absurd I (by simp at I)
   refine aS ?_;refine ah ?_;refine aa ?_;refine ae (dc (pl:=[(0,_),(2,_)]) (ds:=[_,_,_]) rfl zeroValue113 runUnderlying113 lC ⟨rfl,aN,rfl,ot,trivial⟩ rfl rfl) ?_;refine aa ?_;refine bn 0 [_,_,_] sizeOf113 ?_;refine aa ?_;refine aa ?_;refine aK [(2,_),(3,_),(4,_)] [⟨M,113,3,[_,_,_]⟩] ?_;refine aI ?_;refine⟨.inr rfl,_,[],nil_sublist _,gm results68 (di (k:=0) (ds:=[_,_,_]) aF lk rfl rfl isAgg113 sizeOf113 rfl rfl) (cw aF lk) (cw aF lk),?_⟩;rw[E];exact⟨rfl,rfl⟩
  have fD:=uW hv;have E:=one_num O hd0 Y;rw[fD] at E;refine aa ?_;refine ae gW ?_;refine ae gW ?_;refine aa ?_;refine aa ?_;refine aK [(2,_),(6,_),(7,_),(8,_)] [⟨M,113,3,[_,_,_]⟩] ?_;refine aC ?_;refine ah ?_;refine aa ?_;refine ae (xm rfl ot underlying215) ?_;refine aK [(2,_),(6,_),(7,_),(47,_)] [⟨M,113,3,[_,_,_]⟩] ?_;refine aM ot (fun I=>?_) (fun I=>?_)
  ·refine ah ?_;refine ae (dc (pl:=[]) (ds:=[_,_,_]) rfl zeroValue113 runUnderlying113 lC trivial rfl rfl) ?_;refine bn 0 [_,_,_] sizeOf113 ?_;refine aa ?_;refine aa ?_;refine aK [(2,_),(3,_),(4,_)] [⟨M,113,3,[_,_,_]⟩] ?_;refine aI ?_;refine⟨.inr rfl,_,[],nil_sublist _,gm results68 (di (k:=0) (ds:=[_,_,_]) aF lk rfl rfl isAgg113 sizeOf113 rfl rfl) (cw aF lk) (cw aF lk),?_⟩;rw[E];exact⟨rfl,rfl⟩
  exact absurd I (by simp at I)
 have cA:=aG
 (try simp only[V.ai,ne_eq] at cA)
 have hd0:dF (c6 s 0)=false:=aG;refine ah ?_;refine aa ?_;refine ae (mg (c:=c6 s 0) rfl ot aN runUnderlying9 rfl (lH h0)) ?_;refine ae aE ?_;refine aa ?_;refine aK [(0,_),(2,_),(52,_)] [⟨M,113,3,[_,_,_]⟩] ?_;refine aM ot (fun Z=>?_) (fun Z=>?_)
 ·have bQ:=Z
  (try simp only[V.ai,ne_eq] at bQ)
  have hq:c6 s 0=39:=UInt8.toNat_inj.1 (by simp at Z;show(c6 s 0).toNat=39;omega);have E:=IB O hd0 hq;refine ah ?_;refine aa ?_;refine bU call114 (Jt s hs) ?_;refine ae gW ?_;refine ae gW ?_;refine ae gW ?_;refine bn 0 [_,_,_] sizeOf113 ?_;refine aa ?_;refine aa ?_;refine aK [(2,_),(3,_),(4,_)] [⟨M,113,3,[_,_,_]⟩] ?_;refine aI ?_;refine⟨.inr rfl,_,[],nil_sublist _,gm results68 (di (k:=0) (ds:=[_,_,_]) aF lk rfl rfl isAgg113 sizeOf113 rfl rfl) (cw aF lk) (cw aF lk),?_⟩;rw[E];exact⟨rfl,rfl⟩
 have bQ:=Z
 (try simp only[V.ai,ne_eq] at bQ)
 have hq:c6 s 0≠39:=fun e=>by rw[e] at Z;simp at Z
 have E:=IC O hd0 hq;refine aS ?_;refine aC ?_;refine ah ?_;refine ae (cm (mk:=Op.load 185) rfl mh (yq hm isAgg185 sizeOf185 rfl)) ?_;refine aa ?_;refine aK [(0,_),(2,_),(61,_),(62,_)] [⟨M,113,3,[_,_,_]⟩] ?_;refine bZ ?_;refine fa (fun (k:Nat) cn=>(k<=12)/\(∀m∈marksB.take k,m.isPrefixOf s.data.toList=false)/\cn=(⟨74,[(0,bT s),(2,bD M),(61,.agg (marksC.map .v)),(62,ag (k:Nat))],[⟨M,113,3,cT lQ⟩]⟩:St)) (fun (k:Nat)=>12-k) 0 ⟨(Nat.zero_le _),cq,rfl⟩ (Wk.bI rfl eB gx) ?_;rintro k _ ⟨hk,lW,rfl⟩;refine ah ?_;refine ae aE ?_;refine au [0,2,61,62,63] ?_;refine aC ?_;refine aM ot (fun cl=>?_) (fun cl=>?_)
 ·have bE:=cl
  (try simp only[V.ai,ne_eq] at bE)
  have zT:k<12:=(by omega)
  have Bj:k<marksB.length:=zT;refine aS ?_;refine aC ?_;refine bZ ?_;refine ah ?_;refine ae (xx (j:=k) rfl ot ot runUnderlying185 sizeOf9 isAgg9 rfl w7 (IE Bj)) ?_;refine aa ?_;refine aK [(0,_),(2,_),(10,_),(61,_),(62,_)] [⟨M,113,3,[_,_,_]⟩] ?_;refine ah ?_;refine aa ?_;refine aa ?_;refine bU call115 (Ju _ _) ?_;refine aK [(0,_),(2,_),(10,_),(61,_),(62,_),(67,_)] [⟨M,113,3,[_,_,_]⟩] ?_;refine aM ot (fun dn=>?_) (fun dn=>?_)
  ·have Bk:=ID Bj lW dn;rw[Bk] at E;refine ah ?_;refine aa ?_;refine ae (dc (pl:=[(0,_),(1,_)]) (ds:=[_,_,_]) rfl zeroValue113 runUnderlying113 lC ⟨rfl,aN,rfl,ot,trivial⟩ rfl rfl) ?_;refine aa ?_;refine ae (kg rfl rfl ot runUnderlying9) ?_;refine bn 0 [_,_,_] sizeOf113 ?_;refine aa ?_;refine aa ?_;refine aK [(2,_),(3,_),(4,_)] [⟨M,113,3,[_,_,_]⟩] ?_;refine aI ?_;refine⟨.inr rfl,_,[],nil_sublist _,gm results68 (di (k:=0) (ds:=[_,_,_]) aF lk rfl rfl isAgg113 sizeOf113 rfl rfl) (cw aF lk) (cw aF lk),?_⟩;rw[E];exact⟨rfl,rfl⟩
  have eZ:=dn
  (try simp only[V.ai,ne_eq] at eZ)
  refine aS ?_;refine aV ?_;refine ae aE ?_;refine aa ?_;refine au [0,2,61,62] ?_;refine⟨(k+1),_,?_,?_,w7,(xY (p:=fun m=>m.isPrefixOf s.data.toList=false) Bj lW dn),rfl⟩
  ·first|omega|(simp only[];omega)
  exact Wk.bI (n:=74) rfl eB gx
 have bE:=cl
 (try simp only[V.ai,ne_eq] at bE)
 have zT:k=12:=(by omega)
 subst zT;have Bk:=HJ lW;rw[Bk] at E;refine ep ?_;refine ah ?_;refine ae (dc (pl:=[]) (ds:=[_,_,_]) rfl zeroValue113 runUnderlying113 lC trivial rfl rfl) ?_;refine bn 0 [_,_,_] sizeOf113 ?_;refine aa ?_;refine aa ?_;refine aK [(2,_),(3,_),(4,_)] [⟨M,113,3,[_,_,_]⟩] ?_;refine aI ?_;refine⟨.inr rfl,_,[],nil_sublist _,gm results68 (di (k:=0) (ds:=[_,_,_]) aF lk rfl rfl isAgg113 sizeOf113 rfl rfl) (cw aF lk) (cw aF lk),?_⟩;rw[E];exact⟨rfl,rfl⟩
def cD(c:UInt8):Bool:=decide (c.toNat=32\/c.toNat=9\/c.toNat=10\/c.toNat=13)
def j1:Nat->List UInt8->Nat->List Tk->List Tk×Nat×Int
 | 0,_,_,_=>([],0,0)
 | n+1,l,a,acc =>
  if l.dropWhile cD=[] then (acc,0,0)
  else if acc.length=100 then ([],a+(l.takeWhile cD).length,10)
  else if (dR (l.dropWhile cD)).2.2≠0 then ([],a+(l.takeWhile cD).length,(dR (l.dropWhile cD)).2.2)
  else j1 n ((l.dropWhile cD).drop (dR (l.dropWhile cD)).2.1) (a+(l.takeWhile cD).length+(dR (l.dropWhile cD)).2.1) (acc++[(dR (l.dropWhile cD)).1])
def pR(l:List UInt8):List Tk×Nat×Int:=if l.length>400 then ([],0,1) else j1 (l.length+1) l 0 []
def Em(r:List Tk×Nat×Int):D:=.dK [av 3 cT r.1,ag (r.2.1:Nat),ag r.2.2]
theorem yg:∀(l acc:List UInt8) (i:Nat),(fT l acc i).2.2=0->i+1<=(fT l acc i).2.1/\(fT l acc i).2.1<=i+l.length
 | [],_,_,h=>by simp[fT] at h
 | [c],acc,i,h=>by
  rw[fT] at h |-;by_cases hc:c=39
  ·rw[if_pos hc];simp
  rw[if_neg hc] at h;simp at h
 | c::d::r,acc,i,h=>by
  rw[fT] at h |-;by_cases hc:c=39
  ·rw[if_pos hc] at h |-;by_cases hd:d=39
   ·rw[if_pos hd] at h |-;have:=yg r (acc++[39]) (i+2) h;simp only[length_cons];omega
   rw[if_neg hd];simp
  rw[if_neg hc] at h |-;have:=yg (d::r) (acc++[c]) (i+1) h;simp only[length_cons] at this |-;omega
theorem HK:∀m∈marksB,1<=m.length:=by decide
theorem Dr(h:p (l.getD 0 0)=true)(h0:l≠[]):1<=(l.takeWhile p).length:=length_pos_iff.2 (Ca h (length_pos_iff.2 h0))
theorem one_pos(h0:l≠[])(h:(dR l).2.2=0):1<=(dR l).2.1/\(dR l).2.1<=l.length:=by
 unfold dR at h |-;by_cases h1:fP (l.getD 0 0)=true
 ·rw[if_pos h1];exact⟨Dr (by unfold gI;rw[h1];rfl) h0,(takeWhile_prefix _).length_le⟩
 rw[if_neg h1] at h |-;by_cases h2:dF (l.getD 0 0)=true
 ·rw[if_pos h2] at h |-;by_cases E:vj l=true
  ·rw[if_pos E] at h;simp at h
  rw[if_neg E] at h |-;unfold pQ at h |-;rcases ha:Lib.atoiAll (l.takeWhile dF) with v|_|_
  ·exact⟨Dr h2 h0,(takeWhile_prefix _).length_le⟩
  ·rw[ha] at h;simp at h
  rw[ha] at h;simp at h
 rw[if_neg h2] at h |-;by_cases E:l.getD 0 0=39
 ·rw[if_pos E] at h |-;have:=yg _ _ _ h;rw[length_drop] at this;have:=length_pos_iff.2 h0;omega
 rw[if_neg E] at h |-;unfold pF at h |-;cases hf:marksB.find? (fun m=>m.isPrefixOf l) with
 | none=>rw[hf] at h;simp at h
 | some m =>
  have hp:m.isPrefixOf l=true:=find?_some (p:=fun m:List UInt8=>m.isPrefixOf l) hf;exact⟨HK m (mem_of_find?_eq_some hf),(isPrefixOf_iff_prefix.1 hp).length_le⟩
theorem HL(p:UInt8->Bool)(s:ByteArray)(a:Nat):(s.data.toList.drop a).dropWhile p=s.data.toList.drop (a+((s.data.toList.drop a).takeWhile p).length):=by
 have h1:=takeWhile_append_dropWhile (p:=p) (l:=s.data.toList.drop a);rw[<-drop_drop];conv=>rhs;rw[<-h1]
 rw[takeWhile_append_dropWhile];have h2:(s.data.toList.drop a).dropWhile p=((s.data.toList.drop a).takeWhile p++(s.data.toList.drop a).dropWhile p).drop ((s.data.toList.drop a).takeWhile p).length:=List.drop_left.symm;rw[h1] at h2;exact h2
theorem yh(s:ByteArray)(a:Nat):(s.extract a s.size).data.toList=s.data.toList.drop a:=by
 rw[ByteArray.data_extract,Array.toList_extract];show(s.data.toList.drop a).take (s.size-a)=_;exact take_of_length_le (by rw[length_drop,ic];exact Nat.le_refl _)
theorem Cz(s:ByteArray)(a:Nat):(s.extract a s.size).size=s.size-a:=by rw[<-ic,yh,length_drop,ic]
theorem IF(c:UInt8):VP Tryz.prog G 67 [.v (.int .u8 ((c).toNat:Int))] (bw (cD c)):=by
 refine cf func67 rfl ntmps67 aF fun Y w0 U=>?_;refine ah ?_;refine aa ?_;refine au [0] ?_;refine ah ?_;refine aa ?_;refine ae aE ?_;refine aa ?_;refine dN (t:=5) lk (fun hg5=>?_) (fun hg5=>?_)
 ·have I:=hg5;(try simp only[V.ai,ne_eq] at I)
  refine an ?_;refine an ?_;refine ae cW ?_;refine aa ?_;refine an ?_;refine an ?_;refine ae cW ?_;refine aa ?_;refine an ?_;refine an ?_;refine ae cW ?_;refine aa ?_;refine au [2] ?_;refine aI ?_;refine bl ?_;refine⟨vb ?_,rfl⟩;rw[Bool.eq_iff_iff];simp[cD];simp at *;first|done|omega
 have I:=hg5;(try simp only[V.ai,ne_eq] at I)
 refine aa ?_;refine ae aE ?_;refine ae bC ?_;refine aa ?_;refine dN (t:=9) lk (fun hg9=>?_) (fun hg9=>?_)
 ·have M:=hg9;(try simp only[V.ai,ne_eq] at M)
  refine an ?_;refine an ?_;refine ae cW ?_;refine aa ?_;refine an ?_;refine an ?_;refine ae cW ?_;refine aa ?_;refine au [2] ?_;refine aI ?_;refine bl ?_;refine⟨vb ?_,rfl⟩;rw[Bool.eq_iff_iff];simp[cD];simp at *;first|done|omega
 have M:=hg9;(try simp only[V.ai,ne_eq] at M)
 refine aa ?_;refine ae aE ?_;refine ae bC ?_;refine aa ?_;refine dN (t:=13) lk (fun O=>?_) (fun O=>?_)
 ·have E:=O;(try simp only[V.ai,ne_eq] at E)
  refine an ?_;refine an ?_;refine ae cW ?_;refine aa ?_;refine au [2] ?_;refine aI ?_;refine bl ?_;refine⟨vb ?_,rfl⟩;rw[Bool.eq_iff_iff];simp[cD];simp at *;first|done|omega
 have E:=O;(try simp only[V.ai,ne_eq] at E)
 refine aa ?_;refine ae aE ?_;refine ae bC ?_;refine aa ?_;refine au [2] ?_;refine aI ?_;refine bl ?_;refine⟨vb ?_,rfl⟩;rw[Bool.eq_iff_iff];simp[cD];simp at *;first|done|omega
theorem Jv{acc:List Tk}(h:l.dropWhile cD=[]):j1 (n+1) l a acc=(acc,0,0):=by rw[j1,if_pos h]
theorem IG{acc:List Tk}(h:l.dropWhile cD≠[])(h1:acc.length=100):j1 (n+1) l a acc=([],a+(l.takeWhile cD).length,10):=by rw[j1,if_neg h,if_pos h1]
theorem C8{acc:List Tk}(h:l.dropWhile cD≠[])(h1:acc.length≠100)(h2:(dR (l.dropWhile cD)).2.2≠0):j1 (n+1) l a acc=([],a+(l.takeWhile cD).length,(dR (l.dropWhile cD)).2.2):=by rw[j1,if_neg h,if_neg h1,if_pos h2]
theorem II{acc:List Tk}(h:l.dropWhile cD≠[])(h1:acc.length≠100)(h2:(dR (l.dropWhile cD)).2.2=0):j1 (n+1) l a acc=j1 n ((l.dropWhile cD).drop (dR (l.dropWhile cD)).2.1) (a+(l.takeWhile cD).length+(dR (l.dropWhile cD)).2.1) (acc++[(dR (l.dropWhile cD)).1]):=by rw[j1,if_neg h,if_neg h1,if_neg (by simpa using h2)]
theorem C9{s:ByteArray}(h:a<s.size):s.data.toList.drop a≠[]:=fun e=>by
 have:=congrArg length e;rw[length_drop,ic] at this;simp at this;omega
theorem GX:(Tryz.prog.info? 113).map (fun i=>(i.zero,i.size,i.bytes))=some (some (.agg #[.int .i64 0,.string ⟨#[]⟩,.int .i64 0]),3,32):=by kernel_rfl
theorem Kq(hm:(1,marksC)∈G)(s:ByteArray)(hs:s.size<=maxLen)(l9:(pR s.data.toList).2.2=5->sk G):VP Tryz.prog G 37 [bT s] (Em (pR s.data.toList)):=by
 refine cf func37 rfl ntmps37 aF fun X0 w0 dm=>?_;have eI:=fU;have rF:=ic s;refine ah ?_;refine aa ?_;refine aa ?_;refine aa ?_;refine au [0] ?_;refine aC ?_;refine ah ?_;refine aa ?_;refine ae (kg rfl rfl ot runUnderlying9) ?_;refine ae aE ?_;refine aK [(0,_),(12,_)] [] ?_;refine aM ot (fun aA=>?_) (fun aA=>?_)
 ·have U:=aA
  (try simp only[V.ai,ne_eq] at U)
  have O:pR s.data.toList=([],0,1):=(by unfold pR;rw[if_pos w7])
  refine ah ?_;refine aa ?_;refine aa ?_;refine aa ?_;refine au [2,3,4] ?_;refine gS (Wk.qB (t:=2) (sz:=3) lk) ?_;refine aI ?_;refine⟨.inr rfl,_,[],nil_sublist _,gm results37 (cw aF lk) (cw aF lk) (cw aF lk),?_⟩;first|(rw[O];exact⟨rfl,rfl⟩)|(rw[Y,I];exact⟨rfl,rfl⟩)
 have U:=aA
 (try simp only[V.ai,ne_eq] at U)
 have Y:pR s.data.toList=j1 (s.data.toList.length+1) s.data.toList 0 []:=(by unfold pR;rw[if_neg w7])
 rw[Y] at l9;refine aS ?_;refine ah ?_;refine aa ?_;refine au [0,5] ?_;refine ah ?_;refine aa ?_;refine au [0,5,6] ?_;refine bZ ?_;refine fa (fun (Z:Nat×Nat×List Tk×Option Addr×Nat×List ak) cn=>match Z with|(n,a,acc,xf,xg,Sl)=>(a<=s.size)/\(s.size-a<n)/\(j1 n (s.data.toList.drop a) a acc=j1 (s.data.toList.length+1) s.data.toList 0 [])/\(acc.length<=100)/\(bV 113 3 ((acc).flatMap cT) (acc).length xf xg Sl)/\cn=(⟨47,[(0,bT s),(5,az xf (acc).length xg),(6,ag (a:Nat))],(Sl)⟩:St)) (fun (Z:Nat×Nat×List Tk×Option Addr×Nat×List ak)=>match Z with|(n,a,acc,xf,xg,Sl)=>n) ((s.data.toList.length+1),0,[],none,0,[]) ⟨(Nat.zero_le _),w7,(by rw[drop_zero]),(Nat.zero_le _),(bV.cast kT mH),rfl⟩ (Wk.bI rfl cG tq) ?_;rintro⟨n,a,acc,xf,xg,Sl⟩ _ ⟨ha,QN,hc,wg,iQ,rfl⟩;obtain⟨n,rfl⟩:∃m,n=m+1:=⟨n-1,by omega⟩
 have QO:=Cz s a;have tQ:=yf cD (s.extract a s.size);have E:=HL cD s a;have pY:((s.data.toList.drop a).takeWhile cD).length=(cE cD (s.extract a s.size)):=(by unfold cE;rw[yh])
 rw[pY] at E;refine bZ ?_;refine ah ?_;refine aa ?_;refine aa ?_;refine aa ?_;refine ae (fH (l:=a) rfl ot ⟨_,ot⟩ trivial EH) ?_;refine bU call66 (qF (s.extract a s.size) 67 cD call67 IF w7) ?_;refine ae (eX (r:=.int .i64 ((a+(cE cD (s.extract a s.size)):Nat):Int)) rfl ot ot (lD (by show IntKind.i64.wrap ((a:Int)+((cE cD (s.extract a s.size)):Nat))=(a:Int)+((cE cD (s.extract a s.size)):Nat);exact wrap_i64 w7 w7))) ?_;refine aa ?_;refine bc (Wk.aR (n:=47) (l':=[(0,_),(5,_),(6,_)]) (S':=(Sl)) rfl rfl bj) ?_;refine bi ?_;refine aC ?_;refine ah ?_;refine aa ?_;refine aa ?_;refine ae (kg rfl rfl ot runUnderlying9) ?_;refine ae aE ?_;refine bc (Wk.aR (n:=47) (l':=[(0,_),(5,_),(6,_),(22,_)]) (S':=(Sl)) rfl rfl bj) ?_;refine bi ?_;refine aM ot (fun aG=>?_) (fun aG=>?_)
 ·have cA:=aG
  (try simp only[V.ai,ne_eq] at cA)
  have iu:a+(cE cD (s.extract a s.size))=s.size:=(by omega)
  have I:=Jv (n:=n) (a:=a) (acc:=acc) (l:=s.data.toList.drop a) (by rw[E,iu];exact drop_eq_nil_of_le w7);rw[hc] at I;refine ah ?_;refine aa ?_;refine aa ?_;refine aa ?_;refine aa ?_;refine au [2,3,4] ?_;refine jn (t:=2) (Sq:=Sl) lk iQ (de dO _) (cy (A:=[])) ?_;refine aI ?_;refine⟨.inr rfl,_,[],nil_sublist _,gm results37 (cw aF lk) (cw aF lk) (cw aF lk),?_⟩;first|(rw[O];exact⟨rfl,rfl⟩)|(rw[Y,I];exact⟨rfl,rfl⟩)
 have cA:=aG
 (try simp only[V.ai,ne_eq] at cA)
 have aD:a+(cE cD (s.extract a s.size))<s.size:=(by omega)
 have hne:(s.data.toList.drop a).dropWhile cD≠[]:=(by rw[E];exact C9 aD)
 have P8:=Cz s (a+(cE cD (s.extract a s.size)));have Bl:=yh s (a+(cE cD (s.extract a s.size)));have hd0:(s.extract (a+(cE cD (s.extract a s.size))) s.size).data.toList≠[]:=(by rw[Bl];exact C9 aD)
 refine aS ?_;refine aC ?_;refine ah ?_;refine aa ?_;refine ae cZ ?_;refine ae aE ?_;refine au [0,5,6,26] ?_;refine aM ot (fun bJ=>?_) (fun bJ=>?_)
 ·have aX:=bJ
  (try simp only[V.ai,ne_eq] at aX)
  have I:=IG (n:=n) (a:=a) hne (show acc.length=100 by omega);rw[pY,hc] at I;refine ah ?_;refine aa ?_;refine aa ?_;refine aa ?_;refine aa ?_;refine au [2,3,4] ?_;refine gS (Wk.qB (t:=2) (sz:=3) lk) ?_;refine aI ?_;refine⟨.inr rfl,_,[],nil_sublist _,gm results37 (cw aF lk) (cw aF lk) (cw aF lk),?_⟩;first|(rw[O];exact⟨rfl,rfl⟩)|(rw[Y,I];exact⟨rfl,rfl⟩)
 have aX:=bJ
 (try simp only[V.ai,ne_eq] at aX)
 have zU:acc.length≠100:=(by omega)
 have MY:(dR (s.data.toList.drop (a+(cE cD (s.extract a s.size))))).2.2=5->sk G:=fun h5=>l9 (by rw[<-hc,C8 (n:=n) (a:=a) hne zU (by rw[E,h5];decide),E];exact h5);have MZ:(dR (s.extract (a+(cE cD (s.extract a s.size))) s.size).data.toList).2.2=5->sk G:=(by rw[Bl];exact MY)
 have En:=Kp hm (s.extract (a+(cE cD (s.extract a s.size))) s.size) w7 w7 MZ;rw[Bl] at En;refine aS ?_;refine ah ?_;refine aa ?_;refine aa ?_;refine ae (fH (l:=(a+(cE cD (s.extract a s.size)))) rfl ot ⟨_,ot⟩ trivial EH) ?_;refine bU call68 (En) ?_;refine aa ?_;refine ae gW ?_;refine ae gW ?_;refine ae gW ?_;refine eo (ds:=[_,_,_]) ay rfl rfl zeroValue113 rfl (fun b7=>?_);refine bn 0 [_,_,_] sizeOf113 ?_;refine aa ?_;refine aa ?_;refine bc (Wk.aR (n:=47) (l':=[(0,_),(5,_),(6,_),(7,_),(8,_),(9,_)]) (S':=(⟨b7,113,3,[_,_,_]⟩::Sl)) rfl rfl bj) ?_;refine bi ?_;refine aC ?_;refine ah ?_;refine aa ?_;refine ae aE ?_;refine au [0,5,6,7,8,9,37] ?_;refine aM ot (fun ct=>?_) (fun ct=>?_)
 ·have bu:=ct
  (try simp only[V.ai,ne_eq] at bu)
  have xh:(dR (s.data.toList.drop (a+(cE cD (s.extract a s.size))))).2.2≠0:=(by simpa using ct)
  have I:=C8 (n:=n) (a:=a) hne zU (by rw[E];exact xh);rw[pY,E,hc] at I;refine ah ?_;refine aa ?_;refine aa ?_;refine aa ?_;refine aa ?_;refine aa ?_;refine au [2,3,4] ?_;refine gS (Wk.qB (t:=2) (sz:=3) lk) ?_;refine aI ?_;refine⟨.inr rfl,_,[],nil_sublist _,gm results37 (cw aF lk) (cw aF lk) (cw aF lk),?_⟩;first|(rw[O];exact⟨rfl,rfl⟩)|(rw[Y,I];exact⟨rfl,rfl⟩)
 have bu:=ct
 (try simp only[V.ai,ne_eq] at bu)
 have xh:(dR (s.data.toList.drop (a+(cE cD (s.extract a s.size))))).2.2=0:=(by simpa using ct)
 have xj:=II (n:=n) (a:=a) hne zU (by rw[E];exact xh);have oz:=one_pos hne (by rw[E];exact xh);rw[E] at oz;rw[length_drop,ic] at oz;rw[pY,E,drop_drop] at xj;refine aS ?_;refine ah ?_;refine aa ?_;refine ae (fw 0 [_,_,_]) ?_;refine dM (aU 0 [_]) [.int .i64 0,.string ⟨#[]⟩,.int .i64 0] [_,_,_] zeroValue113 runUnderlying99 sizeOf113 (fun Of=>?_);refine fB 0 42 3 1 ?_;refine fY (ls:=(acc)) (new:=[(dR (s.data.toList.drop (a+(cE cD (s.extract a s.size))))).1]) (Sq:=Sl) dO gh ay rfl rfl underlying99 GX rfl cc ot iQ (cy (A:=[_])) ot cq (by simp[maxLen];omega) ee (fun oV M M0 M1=>?_);refine aW (dj (S1:=[⟨oV,113,M*3,flatMap cT ((acc)++[(dR (s.data.toList.drop (a+(cE cD (s.extract a s.size))))).1])⟩]) (A:=[_])) ?_;refine aa ?_;refine bc (Wk.aR (n:=47) (l':=[(0,_),(5,_),(6,_),(8,_)]) (S':=(⟨b7,113,3,[_,_,_]⟩::[⟨oV,113,M*3,flatMap cT ((acc)++[(dR (s.data.toList.drop (a+(cE cD (s.extract a s.size))))).1])⟩])) rfl rfl bj) ?_;refine bi ?_;refine aV ?_;refine aa ?_;refine aa ?_
 refine ae (eX (r:=.int .i64 ((a+(cE cD (s.extract a s.size))+(dR (s.data.toList.drop (a+(cE cD (s.extract a s.size))))).2.1:Nat):Int)) rfl ot ot (lD (by show IntKind.i64.wrap ((a:Int)+((cE cD (s.extract a s.size)):Nat)+((dR (s.data.toList.drop (a+(cE cD (s.extract a s.size))))).2.1:Nat))=(a:Int)+((cE cD (s.extract a s.size)):Nat)+((dR (s.data.toList.drop (a+(cE cD (s.extract a s.size))))).2.1:Nat);exact wrap_i64 w7 w7))) ?_;refine aa ?_;refine bc (Wk.aR (n:=47) (l':=[(0,_),(5,_),(6,_)]) (S':=(⟨b7,113,3,[_,_,_]⟩::[⟨oV,113,M*3,flatMap cT ((acc)++[(dR (s.data.toList.drop (a+(cE cD (s.extract a s.size))))).1])⟩])) rfl rfl bj) ?_;refine bi ?_;refine⟨(n,(a+(cE cD (s.extract a s.size))+(dR (s.data.toList.drop (a+(cE cD (s.extract a s.size))))).2.1),(acc++[(dR (s.data.toList.drop (a+(cE cD (s.extract a s.size))))).1]),(some ⟨oV,0,none⟩),M,[⟨oV,113,M*3,flatMap cT ((acc)++[(dR (s.data.toList.drop (a+(cE cD (s.extract a s.size))))).1])⟩]),_,?_,?_,w7,w7,(xj.symm.trans hc),ee,(bV.cast (cU M0 M1) mH),rfl⟩
 ·first|omega|(simp only[];omega)
 exact Wk.bI (n:=47) rfl cG tq
end Lx
namespace Se
open Go.Proofs.Tryz
open Go.RowKit V Pk
variable {G:List (Nat×List Value)}
variable {α:Type} {i k E:Nat} {b:Bool}
def sB:Pa.dh:={Pa.cr with kind:=7}
def tB:Nm.Tk:=⟨1,⟨#[66,69,71,73,78]⟩,0⟩
theorem Kr:Pa.pP sB:=⟨by unfold Pa.uh;decide,by decide,(fun _ h=>by cases h),(fun _ h=>by cases h),by decide,by decide,(fun _ h=>by cases h),(fun _ h=>by cases h),(fun _ h=>by cases h)⟩
theorem DM:Lx.pR (⟨#[66,69,71,73,78]⟩:ByteArray).data.toList=([tB],0,0):=by kernel_rfl
theorem Jw:Pa.ie [tB]=(sB,0,0):=by kernel_rfl
theorem Jy:Pa.mq sB=0:=by kernel_rfl
theorem Jz(hm:(1,Nm.marksC)∈G)(hw:(0,Nm.wordsC)∈G)(Z:(10,Pa.cmpC)∈G)(O:(2,Pc.typesC)∈G):VP Tryz.prog G 15 [bT ⟨#[66,69,71,73,78]⟩] (.dK [.agg (Pa.fG sB),ag 0]):=by
 refine cf func15 rfl ntmps15 aF fun X0 w0 dm=>?_;have eI:=fU;have E:=Lx.Kq (G:=G) hm ⟨#[66,69,71,73,78]⟩ cc (fun h=>by rw[DM] at h;cases h);rw[DM] at E;unfold Lx.Em at E;have gV:=Pa.Iu (G:=G) hm hw Z O [tB] (fun t ht=>by rw[mem_singleton] at ht;subst ht;exact⟨by decide,by decide⟩);rw[Jw] at gV;unfold Pa.nY at gV;have I:=Pa.Iy (G:=G) hm hw O sB Kr;rw[Jy] at I;dsimp only at E gV I;unfold Pa.fG at gV I |-;refine ah ?_;refine eo (ds:=[_,_,_,_,_,_,_,_,_,_,_,_]) ay rfl rfl zeroValue70 rfl (fun b2=>?_);refine da 37 [0,2] ?_;refine mQ [2,4,6] (E) ?_;refine bM [2,4,6,17] ?_;refine c8 (fun aA U=>?_) (fun aA U=>?_)
 ·exact absurd aA (by simp at aA)
 refine dS 1 ?_;refine bU call38 (gV) ?_;refine eU 4 ?_;refine eo (ds:=[_,_,_,_,_,_,_,_,_,_,_,_]) ay rfl rfl zeroValue70 rfl (fun b7=>?_);refine bn 0 [_,_,_,_,_,_,_,_,_,_,_,_] sizeOf70 ?_;refine da 37 [2,6,7] ?_;refine bM [2,6,7,27] ?_;refine c8 (fun aG Y=>?_) (fun aG Y=>?_)
 ·exact absurd aG (by simp at aG)
 refine mQ [2,7,9] (I) ?_;refine bM [2,7,9,33] ?_;refine c8 (fun M aX=>?_) (fun M aX=>?_)
 ·exact absurd M (by simp at M)
 refine dS 1 ?_;refine bn 1 [_,_,_,_,_,_,_,_,_,_,_,_] sizeOf70 ?_;refine da 37 [2,3] ?_;refine ei [] ?_;exact⟨rfl,rfl⟩
theorem Ds{g:α->List D}{sz:Nat}(hg:∀a,(g a).length=sz)(L:List α){j:Nat}(hi:i<L.length){ds:List D}(a:α)(hl:j+ds.length<=sz)(h:eR (g L[i]) j ds=g a):eR (L.flatMap g) (0+i*sz+j) ds=(L.set i a).flatMap g:=by
 rw[py L hi,oh (qI hg L hi) (by rw[hg];exact hl) h,sy L hi]
def x0:dP:=⟨[⟨#[66,69,71,73,78]⟩],0,0,false⟩
def x1(t:Int):dP:=⟨[⟨#[66,69,71,73,78]⟩],1,t,true⟩
def x2:dP:=⟨[⟨#[66,69,71,73,78]⟩],1,0,false⟩
theorem HM(g E br cs I i:Nat)(M:Int)(Z:0<=M/\M<=900)(L:List dP)(R:List (Option (Int×Int)))(hi:i<L.length)(x:dP)(hx:L[i]=x)(ha:x.at_=(x.sc.length:Nat))(ht:x.fW=0):VC Tryz.prog G 10 [bD g,ag i] [(⟨g,52,8,[ax,ax,ax,az (some ⟨E,0,none⟩) L.length cs,ag M,az (some ⟨br,0,none⟩) R.length I,ax,ax]⟩:ak),(⟨E,55,cs*6,(L).flatMap cH⟩:ak),(⟨br,41,I*1,(R).flatMap eV⟩:ak)] (fun r S=>r = .dK []/\S=[(⟨g,52,8,[ax,ax,ax,az (some ⟨E,0,none⟩) L.length cs,ag M,az (some ⟨br,0,none⟩) R.length I,ax,ax]⟩:ak),(⟨E,55,cs*6,(L).flatMap cH⟩:ak),(⟨br,41,I*1,(R).flatMap eV⟩:ak)]):=by
 refine cf func10 rfl ntmps10 aF fun X0 w0 dm=>?_;have eI:=fU;refine bM [0,1,4] ?_;refine gY [0,1,4,16] ?_;refine fb 3 ?_ (h:=z8);refine mP ?_;refine c8 (fun aA O=>?_) (fun aA O=>?_)
 ·exact absurd aA (by cases aA)
 refine gY [0,1,4,26] ?_;refine fb 3 ?_ (h:=rq);refine fb 3 ?_ (h:=vP);refine iC ?_;refine c8 (fun aG U=>?_) (fun aG U=>?_)
 ·refine gY [0,1,31] ?_;refine fb 3 ?_ (h:=rq);refine iC ?_;refine c8 (fun Y aX=>?_) (fun Y aX=>?_)
  ·exact absurd Y (by simp[ht])
  refine ei [(⟨g,52,8,[ax,ax,ax,az (some ⟨E,0,none⟩) L.length cs,ag M,az (some ⟨br,0,none⟩) R.length I,ax,ax]⟩:ak),(⟨E,55,cs*6,_⟩:ak),(⟨br,41,I*1,_⟩:ak)] ?_;exact⟨rfl,rfl⟩
 exact absurd aG (by simp[ha])
theorem Hf(g I br cs E i:Nat)(M:Int)(xj:0<=M/\M<=900)(L:List dP)(R:List (Option (Int×Int)))(hi:i<L.length)(t:Int)(ht:1<=t/\t<=1000)(Z:L.length<=1000)(hx:L[i]=x1 t):VC Tryz.prog G 10 [bD g,ag i] [(⟨g,52,8,[ax,ax,ax,az (some ⟨I,0,none⟩) L.length cs,ag M,az (some ⟨br,0,none⟩) R.length E,ax,ax]⟩:ak),(⟨I,55,cs*6,(L).flatMap cH⟩:ak),(⟨br,41,E*1,(R).flatMap eV⟩:ak)] (fun r S=>r = .dK []/\S=[(⟨g,52,8,[ax,ax,ax,az (some ⟨I,0,none⟩) L.length cs,ag M,az (some ⟨br,0,none⟩) R.length E,ax,ax]⟩:ak),(⟨I,55,cs*6,(L.set i x2).flatMap cH⟩:ak),(⟨br,41,E*1,(R).flatMap eV⟩:ak)]):=by
 refine cf func10 rfl ntmps10 aF fun X0 w0 dm=>?_;have eI:=fU;have OA:L[i].fW=t:=(by rw[hx];rfl)
 have h1:(1:Int)=(1:Nat):=rfl;refine bM [0,1,4] ?_;refine gY [0,1,4,16] ?_;refine fb 3 ?_ (h:=z8);refine mP ?_;refine c8 (fun aA O=>?_) (fun aA O=>?_)
 ·exact absurd aA (by cases aA)
 refine gY [0,1,4,26] ?_;refine fb 3 ?_ (h:=rq);refine fb 3 ?_ (h:=vP);refine iC ?_;refine c8 (fun aG U=>?_) (fun aG U=>?_)
 ·refine gY [0,1,31] ?_;refine fb 3 ?_ (h:=rq);refine iC ?_;refine c8 (fun Y aX=>?_) (fun Y aX=>?_)
  ·refine lp 2 ?_;refine cP (R:=[(⟨br,41,E*1,R.flatMap eV⟩:ak)]) ay rfl rfl rfl call14 (I3 g I br cs E i R.length M L hi (by rw[OA];exact ht) Z) ⟨ot,ot,trivial⟩ (Perm.refl _) ?_;rintro _ _ ⟨rfl,rfl⟩;refine da 111 [] ?_;refine ei [(⟨g,52,8,[ax,ax,ax,az (some ⟨I,0,none⟩) L.length cs,ag M,az (some ⟨br,0,none⟩) R.length E,ax,ax]⟩:ak),(⟨I,55,cs*6,_⟩:ak),(⟨br,41,E*1,_⟩:ak)] ?_;exact⟨rfl,by rw[hx];rfl⟩
  exact absurd Y (by simp[x1];omega)
 exact absurd aG (by simp[x1])
theorem Hg(hm:(1,Nm.marksC)∈G)(hw:(0,Nm.wordsC)∈G)(qk:(10,Pa.cmpC)∈G)(hM:(2,Pc.typesC)∈G)(g M br cs I i:Nat)(E:Int)(xj:0<=E/\E<=900)(L:List dP)(R:List (Option (Int×Int)))(hi:i<L.length)(hr:i<R.length)(hn:R[i]=none)(hx:L[i]=x0):VC Tryz.prog G 10 [bD g,ag i] [(⟨g,52,8,[ax,ax,ax,az (some ⟨M,0,none⟩) L.length cs,ag E,az (some ⟨br,0,none⟩) R.length I,ax,ax]⟩:ak),(⟨M,55,cs*6,(L).flatMap cH⟩:ak),(⟨br,41,I*1,(R).flatMap eV⟩:ak)] (fun r S=>r = .dK []/\S=[(⟨g,52,8,[ax,ax,ax,az (some ⟨M,0,none⟩) L.length cs,ag (E+1),az (some ⟨br,0,none⟩) R.length I,ax,ax]⟩:ak),(⟨M,55,cs*6,(L.set i (x1 (E+1))).flatMap cH⟩:ak),(⟨br,41,I*1,(R.set i (some (E+1,0))).flatMap eV⟩:ak)]):=by
 refine cf func10 rfl ntmps10 aF fun X0 w0 dm=>?_;have eI:=fU;have O:=Jz hm hw qk hM;unfold Pa.fG at O;have kI:i<R.length:=hr;refine bM [0,1,4] ?_;refine gY [0,1,4,16] ?_;refine fb 3 ?_ (h:=z8);refine mP ?_;refine c8 (fun aA U=>?_) (fun aA U=>?_)
 ·exact absurd aA (by cases aA)
 refine gY [0,1,4,26] ?_;refine fb 3 ?_ (h:=rq);refine fb 3 ?_ (h:=vP);refine iC ?_;refine c8 (fun aG Y=>?_) (fun aG Y=>?_)
 ·exact absurd aG (by simp[x0])
 refine aS ?_;refine aC ?_;refine Fi 15 14 [0,1,4,5,47,48] ?_;refine fb 3 ?_ (h:=vP);refine fb 3 ?_ (h:=rq);refine fb 0 ?_ (h:=by exact(kj (mk:=Op.indexAddr 34) rfl ot ot (by exact sr (j:=0) runUnderlying34 sizeOf9 rfl cc)));refine qb (O) ?_;refine AE 3 ?_;refine Fj ?_;refine mP ?_;refine⟨rfl,fun b5=>?_⟩;refine bn 0 [_,_,_,_,_,_,_,_,_,_,_,_] sizeOf70 ?_;refine da 111 [0,1,4,5,6] ?_;refine bM [0,1,4,5,6,56] ?_;refine c8 (fun Z bu=>?_) (fun Z bu=>?_)
 ·exact absurd Z cq
 refine bM [0,1,4,5,64] ?_;refine c8 (fun ck bQ=>?_) (fun ck bQ=>?_)
 ·exact absurd ck (by simp[sB])
 refine gY [0,1,4,5,72] ?_;refine fb 6 ?_ (h:=by exact(cm (mk:=Op.load 3) rfl ot (lF (k:=2) ko rfl rfl rfl isAgg3 hi (by rw[hx];rfl))));refine fb 1 ?_ (h:=by exact(eX rfl ot ot (xS underlying4)));refine iC ?_;refine c8 (fun cl bE=>?_) (fun cl bE=>?_)
 ·exact absurd cl (by simp[sB,x0])
 refine bM [0,1,4,5,86] ?_;refine c8 (fun dn eZ=>?_) (fun dn eZ=>?_)
 ·refine dS 2 ?_;refine cP (R:=[⟨b5,70,12,_⟩,(⟨br,41,I*1,R.flatMap eV⟩:ak)]) ay rfl rfl rfl call18 (Ii g M br cs I i R.length E ⟨by omega,by omega⟩ L hi) ⟨ot,ot,trivial⟩ ((perm_append_comm (l₁:=[_]) (l₂:=[_,_])).append_right [_]) ?_;rintro _ _ ⟨rfl,rfl⟩;refine aW ((perm_append_comm (l₁:=[_,_]) (l₂:=[_])).append_right [_]) ?_;refine da 111 [0,1,4] ?_;refine dS 3 ?_;refine nf (k:=2) (cs':=(L.set i (⟨[⟨#[66,69,71,73,78]⟩],0,E+1,true⟩:dP)).flatMap cH) ay rfl rfl ot rfl rfl (by exact aN) rfl rfl sizeOf4 rfl (by show 0+i*6+3+1<=((L.set i (⟨L[i].sc,L[i].at_,E+1,L[i].op⟩:dP)).flatMap cH).length;rw[de ko,length_set];omega) (by rw[Ds ko (L.set i (⟨L[i].sc,L[i].at_,E+1,L[i].op⟩:dP)) (i:=i) (by rw[length_set];exact hi) (⟨[⟨#[66,69,71,73,78]⟩],0,E+1,true⟩:dP) cc (by rw[getElem_set_self,hx];rfl),set_set]) ?_;refine da 111 [0,1] ?_;refine lp 3 ?_;have OB:i<(L.set i (⟨[⟨#[66,69,71,73,78]⟩],0,E+1,true⟩:dP)).length:=(by rw[length_set];exact hi)
  have OC:(L.set i (⟨[⟨#[66,69,71,73,78]⟩],0,E+1,true⟩:dP)).length=L.length:=length_set;have F1:(L.set i (⟨[⟨#[66,69,71,73,78]⟩],0,E+1,true⟩:dP))[i]=⟨[⟨#[66,69,71,73,78]⟩],0,E+1,true⟩:=getElem_set_self _;have F2:=I2 (G:=G) g M br cs I i (E+1) 0 (L.set i (⟨[⟨#[66,69,71,73,78]⟩],0,E+1,true⟩:dP)) R OB kI hn (by rw[F1];exact⟨Int.le_refl _,(by show(0:Int)<=20;decide)⟩);rw[OC,F1] at F2;refine cP (R:=[⟨b5,70,12,_⟩]) ay rfl rfl rfl call16 F2 ⟨ot,ot,ot,trivial⟩ (perm_append_comm (l₁:=[_])) ?_;rintro _ _ ⟨rfl,rfl⟩;refine aW (perm_append_comm (l₂:=[_])) ?_;refine da 111 [] ?_;refine ei [(⟨g,52,8,[ax,ax,ax,az (some ⟨M,0,none⟩) L.length cs,ag (E+1),az (some ⟨br,0,none⟩) R.length I,ax,ax]⟩:ak),(⟨M,55,cs*6,_⟩:ak),(⟨br,41,I*1,_⟩:ak)] ?_;refine⟨rfl,?_⟩;rw[set_set];rfl
 exact absurd dn (by simp[sB])
def act(x:dP):Bool:=decide (x.at_<(x.sc.length:Nat))||(x.fW != 0)
theorem Ks(p:α->Bool)(ls:List α):decide (lK p ls>=0)=ls.any p:=by
 unfold lK;cases h:ls.findIdx? p with
 | none =>
  have:=findIdx?_eq_none_iff.1 h;rw[any_eq_false.2 (fun x hx=>by rw[this x hx];decide)];rfl
 | some i =>
  obtain⟨h1,h2,_⟩:=findIdx?_eq_some_iff_getElem.1 h;rw[any_eq_true.2 ⟨_,getElem_mem h1,h2⟩];simp
theorem IJ(x:dP):VP Tryz.prog G 21 [.agg (cH x)] (bw (act x)):=by
 refine cf func21 rfl ntmps21 aF fun M w0 I=>?_;unfold cH;refine ah ?_;refine fI (ds:=[_,_,_,_,_,_]) ay rfl rfl ot rfl rfl (fun O=>?_);refine da 14 [1] ?_;refine dS 7 ?_;refine jg 9 (fun hg9 E=>?_) (fun hg9 E=>?_)
 ·refine kK [2] ?_;refine bl ?_;refine⟨?_,rfl⟩;unfold act;first|rfl|(simp_all;done)|(simp_all;omega)
 refine kK [2] ?_;refine bl ?_;refine⟨?_,rfl⟩;unfold act;first|rfl|(simp_all;done)|(simp_all;omega)
theorem JA(L:List dP)(hL:L.length<=1000):VP Tryz.prog G 44 [av 6 cH L,.dQ (.func 21) []] (ag (lK act L)):=by
 refine cf func44 rfl ntmps44 aF fun Y w0 U=>?_;refine bM [0,1] ?_;refine bM [0,1,7,8] ?_;refine gK [0,1,7] (fun M _ (i:Nat) O=>(i<=L.length)/\(∀x∈L.take i,act x=false)/\O=(⟨19,(8,ag (i:Nat))::M,[]⟩:St)) (fun (i:Nat)=>L.length-i) 0 ⟨(Nat.zero_le _),cq,rfl⟩ ?_;rintro i _ ⟨hi,h0,rfl⟩;refine bM [0,1,7,8,9] ?_;refine c8 (fun aA E=>?_) (fun aA E=>?_)
 ·have aD:i<L.length:=(by omega)
  refine bM [0,1,5,7,8] ?_;refine dS 5 ?_;refine xT (f:=21) (args:=[_]) (all:=[_]) ay rfl rfl ot call21 (IJ L[i]) rfl ⟨ot,trivial⟩ (jP _) ?_;rintro _ S2 ⟨rfl,rfl⟩;refine da 19 [0,1,5,7,8,16] ?_;refine c8 (fun aG I=>?_) (fun aG I=>?_)
  ·refine bM [4] ?_;refine ei [] ?_;refine⟨?_,rfl⟩;first|(rw[qz w7 h0 eG])|(rw[qu w7 h0])
  refine lq [0,1,7,8] ?_;refine⟨(i+1),_,lu,kL,w7,(by rw[take_succ_eq_append_getElem aD];intro x hx;rcases mem_append.1 hx with hx|hx;exact h0 x hx;rw[mem_singleton] at hx;subst hx;assumption),rfl⟩
 refine bM [4] ?_;refine ei [] ?_;refine⟨?_,rfl⟩;first|(rw[qz w7 h0 eG])|(rw[qu w7 h0])
theorem Hh(L:List dP)(hL:L.length<=1000):VP Tryz.prog G 20 [av 6 cH L,.dQ (.func 21) []] (bw (L.any act)):=by
 refine cf func20 rfl ntmps20 aF fun I w0 E=>?_;refine bM [0,1] ?_;refine mQ [4] (JA L hL) ?_;refine ei [] ?_;refine⟨?_,rfl⟩;rw[<-Ks]
theorem JB(g E br cs I M:Nat)(O:Int)(L:List dP)(hL:L.length<=1000)(h1:L.length<=cs)(h2:cs<=maxLen):VC Tryz.prog G 11 [bD g] [(⟨g,52,8,[ax,ax,ax,az (some ⟨E,0,none⟩) L.length cs,ag O,az (some ⟨br,0,none⟩) M I,ax,ax]⟩:ak),(⟨E,55,cs*6,L.flatMap cH⟩:ak)] (fun r S=>r=bw !(L.any act)/\S=[(⟨g,52,8,[ax,ax,ax,az (some ⟨E,0,none⟩) L.length cs,ag O,az (some ⟨br,0,none⟩) M I,ax,ax]⟩:ak),(⟨E,55,cs*6,L.flatMap cH⟩:ak)]):=by
 refine cf func11 rfl ntmps11 aF fun Y w0 U=>?_;refine bM [0] ?_;refine gY [2] ?_;refine AE 4 ?_;refine LO (Hh L hL) (ha:=by exact⟨⟨_,ot,(xV (k:=1) rfl rfl rfl (de ko _) h1 h2)⟩,⟨_,nh,qt⟩,trivial⟩) (K:=?_);refine iC ?_;refine ei [(⟨g,52,8,[ax,ax,ax,az (some ⟨E,0,none⟩) L.length cs,ag O,az (some ⟨br,0,none⟩) M I,ax,ax]⟩:ak),(⟨E,55,cs*6,L.flatMap cH⟩:ak)] ?_;exact⟨rfl,rfl⟩
def ew(k:Nat)(b:Bool):List (List ByteArray):=replicate (k-1) []++[if b then [⟨#[66,69,71,73,78]⟩] else []]
def zS:dP:=⟨[],0,0,false⟩
def last(b:Bool)(ph:Nat):dP:=if b then (if ph=0 then x0 else if ph=1 then x1 1 else x2) else zS
def fX(k:Nat)(b:Bool)(ph:Nat):List dP:=replicate (k-1) zS++[last b ph]
def eL(k:Nat)(ph:Nat):List (Option (Int×Int)):=replicate (k-1) none++[if ph=0 then none else some (1,0)]
def jM(ph:Nat):Int:=if ph=0 then 0 else 1
def k7(k:Nat)(b:Bool)(i ph:Nat):Nat:=if b=true/\i=k-1/\ph<2 then ph+1 else ph
theorem qH(hk:1<=k)(b:Bool)(E:Nat):(fX k b E).length=k:=by unfold fX;rw[length_append,length_replicate,length_singleton];omega
theorem yx(hk:1<=k)(E:Nat):(eL k E).length=k:=by unfold eL;rw[length_append,length_replicate,length_singleton];omega
theorem pu(hk:1<=k)(b:Bool):(ew k b).length=k:=by unfold ew;rw[length_append,length_replicate,length_singleton];omega
theorem nw{z a:α}(h:i=k-1)(hi:i<(replicate (k-1) z++[a]).length):(replicate (k-1) z++[a])[i]=a:=by
 subst h;rw[getElem_append_right (by rw[length_replicate];exact Nat.le_refl _)];simp
theorem yG{z a:α}(h:i<k-1)(hi:i<(replicate (k-1) z++[a]).length):(replicate (k-1) z++[a])[i]=z:=by
 rw[getElem_append_left (by rw[length_replicate];exact h),getElem_replicate]
theorem vc{z a b:α}(h:i=k-1):(replicate (k-1) z++[a]).set i b=replicate (k-1) z++[b]:=by
 subst h;rw[set_append_right _ _ (by rw[length_replicate];exact Nat.le_refl _),length_replicate,Nat.sub_self];rfl
theorem CA(hm:(1,Nm.marksC)∈G)(hw:(0,Nm.wordsC)∈G)(Y:(10,Pa.cmpC)∈G)(Z:(2,Pc.typesC)∈G)(hk:1<=k)(nV:k<=4)(b:Bool)(E:Nat)(QR:b=false->E=0)(h2:E<=2)(g I br cs M i:Nat)(hi:i<k):VC Tryz.prog G 10 [bD g,ag i] [(⟨g,52,8,[ax,ax,ax,az (some ⟨I,0,none⟩) k cs,ag (jM E),az (some ⟨br,0,none⟩) k M,ax,ax]⟩:ak),(⟨I,55,cs*6,(fX k b E).flatMap cH⟩:ak),(⟨br,41,M*1,(eL k E).flatMap eV⟩:ak)] (fun r S=>r = .dK []/\S=[(⟨g,52,8,[ax,ax,ax,az (some ⟨I,0,none⟩) k cs,ag (jM (k7 k b i E)),az (some ⟨br,0,none⟩) k M,ax,ax]⟩:ak),(⟨I,55,cs*6,(fX k b (k7 k b i E)).flatMap cH⟩:ak),(⟨br,41,M*1,(eL k (k7 k b i E)).flatMap eV⟩:ak)]):=by
 have hl:=qH hk b E;have hr:=yx hk E;have O:i<(fX k b E).length:=(by omega)
 have OE:i<(eL k E).length:=(by omega)
 have U:0<=jM E/\jM E<=900:=(by unfold jM;split<;>omega)
 by_cases hc:b=true/\i=k-1/\E<2
 ·obtain⟨rfl,he,hp⟩:=hc;have hn:k7 k true i E=E+1:=if_pos ⟨rfl,he,hp⟩;rw[hn];rcases(by omega:E=0\/E=1) with rfl|rfl
  ·have h:=Hg (G:=G) hm hw Y Z g I br cs M i (jM 0) U (fX k true 0) (eL k 0) O OE (nw he _) (nw he _);rw[show(fX k true 0).set i (x1 (jM 0+1))=fX k true 1 from vc he,show(eL k 0).set i (some (jM 0+1,0))=eL k 1 from vc he,hl,hr] at h;exact h
  have h:=Hf (G:=G) g I br cs M i (jM 1) U (fX k true 1) (eL k 1) O 1 ⟨by decide,by decide⟩ w7 (nw he _);rw[show(fX k true 1).set i x2=fX k true 2 from vc he,hl,hr] at h;exact h
 have hn:k7 k b i E=E:=if_neg hc;rw[hn];have hx:∃x,(fX k b E)[i]=x/\x.at_=(x.sc.length:Nat)/\x.fW=0:=by
  by_cases he:i=k-1
  ·refine⟨last b E,nw he _,?_⟩;unfold last;cases b with
   | false=>exact⟨rfl,rfl⟩
   | true =>
    have j8:¬E<2:=fun h=>hc ⟨rfl,he,h⟩;have:E=2:=(by omega)
    subst this;exact⟨rfl,rfl⟩
  exact⟨zS,yG w7 _,rfl,rfl⟩
 obtain⟨x,hx,ha,ht⟩:=hx;have h:=HM (G:=G) g I br cs M i (jM E) U (fX k b E) (eL k E) O x hx ha ht;rw[hl,hr] at h;exact h
theorem JC(b:Bool)(E:Nat)(h2:E<=2):(fX k b E).any act=(b&&decide (E<2)):=by
 unfold fX;rw[any_append,any_eq_false.2 (fun x hx=>by rw[eq_of_mem_replicate hx];decide)];cases b with
 | false=>rfl
 | true=>rcases(by omega:E=0\/E=1\/E=2) with rfl|rfl|rfl<;>rfl
theorem OF{β:Type}{f:α->β}{l:List α}(h:i<l.length):(l.take i).map f++[f l[i]]=(l.take (i+1)).map f:=by rw[take_succ_eq_append_getElem h,map_append];rfl
def fr(sc:List ByteArray):dP:=⟨sc,0,0,false⟩
theorem Kt(k:Nat)(b:Bool):(ew k b).map fr=fX k b 0:=by
 unfold ew fX last;rw[map_append,map_replicate];cases b<;>rfl
theorem K9(hk:1<=k):replicate k (none:Option (Int×Int))=eL k 0:=by
 unfold eL;obtain⟨j,rfl⟩:∃j,k=j+1:=⟨k-1,by omega⟩
 rw[Nat.add_sub_cancel,replicate_succ'];rfl
def cI(n:Int):List D:=[ag n]
theorem vk(n:Int):(cI n).length=1:=rfl
def mb(l:List ByteArray):List D:=[av 1 cS l]
theorem su(l:List ByteArray):(mb l).length=1:=rfl
theorem Ku{s:List ByteArray}(h:s∈ew k b):s.length<=20:=by
 unfold ew at h;rcases mem_append.1 h with h|h
 ·rw[eq_of_mem_replicate h];decide
 rw[mem_singleton] at h;subst h;split<;>decide
theorem La:(Tryz.prog.info? 55).map (fun i=>(i.zero,i.size,i.bytes))=some (some (.agg #[.slice none 0 0,.int .i64 0,.int .i64 0,.bool false,.bool false,.slice none 0 0]),6,72):=by kernel_rfl
theorem Kv(h:E<=2):k7 k b i E<=2:=by unfold k7;split<;>omega
theorem Kw(h:b=false):k7 k b i E=E:=if_neg (fun q=>by rw[h] at q;cases q.1)
theorem Kx{z I:Nat}(hb:b=true)(hp:E<2)(hz:z<k)(h:I=if z=k then E+1 else E):k7 k b z I=if z+1=k then E+1 else E:=by
 rw[if_neg w7] at h;subst h;unfold k7;by_cases he:z+1=k
 ·rw[if_pos ⟨hb,by omega,hp⟩,if_pos he]
 rw[if_neg (fun q=>he w7),if_neg he]
theorem Lb{a b c d:ak}:[a,b,c,d].Perm [b,d,a,c]:=H6 fun E=>by simp only[map_cons,map_nil,sum_cons,sum_nil];omega
def j3(b:Bool):Nat:=if b then 2 else 0
theorem Ky(h1:b=false->E=0)(h2:b=true->E=2):E=j3 b:=by
 cases b with
 | false=>exact h1 rfl
 | true=>exact h2 rfl
theorem Hi:(Tryz.prog.info? 41).map (fun i=>(i.zero,i.size,i.bytes))=some (some (.slice none 0 0),1,24):=by kernel_rfl
theorem Kz(hm:(1,Nm.marksC)∈G)(hw:(0,Nm.wordsC)∈G)(qk:(10,Pa.cmpC)∈G)(hM:(2,Pc.typesC)∈G)(k:Nat)(hk:1<=k)(nV:k<=4)(b:Bool)(ps:List Int)(fk:ps.length<=2000)(fM:∀p∈ps,0<=p/\p<k):VC Tryz.prog G 8 [.list 1 ((ew k b).flatMap mb) (ew k b).length,av 1 cI ps] [] (fun r S=>∃br,r = .dK [.agg [az (some ⟨br,0,none⟩) k k,ax,ax],ag 0]/\S=[(⟨br,41,k*1,(eL k (j3 b)).flatMap eV⟩:ak)]):=by
 refine cf func8 rfl ntmps8 aF fun X0 w0 dm=>?_;have eI:=fU;have rF:=pu hk b;refine ah ?_;refine eo (ds:=[_,_,_]) ay rfl rfl zeroValue30 rfl (fun b4=>?_);refine da 112 [0,1,4] ?_;refine dS 4 ?_;refine jg 17 (fun fu Lc=>?_) (fun fu Lc=>?_)
 ·exact absurd fu ee
 refine eU 5 ?_;refine jg 22 (fun ri Ld=>?_) (fun ri Ld=>?_)
 ·exact absurd ri ee
 refine kK [0,1,4,26] ?_;refine c8 (fun aA dJ=>?_) (fun aA dJ=>?_)
 ·exact absurd aA ee
 refine dS 1 ?_;refine fI (ds:=[_,_,_,_,_,_,_,_]) ay rfl rfl ot rfl rfl (fun O=>?_);refine da 112 [0,1,4,6] ?_;refine bM [0,1,4,6,30,31,32] ?_;refine gK [0,1,4,6,30,31] (fun U _ (E:Nat×List dP×Option Addr×Nat×List ak) Y=>match E with|(i,L,ad,cp,Sr)=>(i<=k)/\(L=((ew k b).take i).map fr)/\(bV 55 6 (L.flatMap cH) L.length ad cp Sr)/\Y=(⟨112,(32,ag (i:Nat))::U,((⟨O,52,8,[ax,ax,ax,az ad L.length cp,ag 0,ax,ax,ax]⟩:ak)::(⟨b4,30,3,[ax,ax,ax]⟩:ak)::Sr)⟩:St)) (fun (E:Nat×List dP×Option Addr×Nat×List ak)=>match E with|(i,L,ad,cp,Sr)=>k-i) (0,([]:List dP),none,0,[]) ⟨(Nat.zero_le _),rfl,kT,rfl⟩ ?_;rintro⟨i,L,ad,cp,Sr⟩ _ ⟨hi,hL,ho,rfl⟩;refine bM [0,1,4,6,30,31,32,33] ?_;refine c8 (fun aG cA=>?_) (fun aG cA=>?_)
 ·have aD:i<(ew k b).length:=(by omega)
  have QS:L.length=i:=(by rw[hL,length_map,length_take];omega)
  have QT:=Ku (getElem_mem aD);refine bM [0,1,4,6,8,30,31,32] ?_;refine bM [0,1,4,6,8,30,31,32,38] ?_;refine c8 (fun bJ aX=>?_) (fun bJ aX=>?_)
  ·exact absurd bJ ee
  refine lp 7 ?_;refine dM (aU 0 [_]) [.slice none 0 0,.int .i64 0,.int .i64 0,.bool false,.bool false,.slice none 0 0] [_,_,_,_,_,_] zeroValue55 runUnderlying50 sizeOf55 (fun QU=>?_);refine CT (k:=0) (t:=47) (sz:=6) (m:=1) (cs:=[fr ((ew k b)[i]'aD)].flatMap cH) rfl lk rfl rfl rfl (Nat.le_refl _) cc ?_;refine fY (g:=cH) (ls:=L) (new:=[fr ((ew k b)[i]'aD)]) (Sq:=Sr) (R:=[_,_]) ko I0 ay rfl rfl underlying50 La rfl cc ot ho (cy (A:=[_,_])) ot cq (by simp[maxLen];omega) ee (fun b2 F3 h1 h2=>?_);refine aW (dj (S1:=[_]) (A:=[_,_])) ?_;refine eU 2 ?_;refine bn 0 [_,_,_,_,_,_,_,_] sizeOf50 ?_;refine da 112 [0,1,4,6,30,31,32] ?_;refine lq [0,1,4,6,30,31,32] ?_;refine⟨((i+1),(L++[fr ((ew k b)[i]'aD)]),(some ⟨b2,0,none⟩),F3,[⟨b2,55,F3*6,(L++[fr ((ew k b)[i]'aD)]).flatMap cH⟩]),_,lu,kL,w7,(by rw[hL];exact OF aD),(cU h1 h2),rfl⟩
 have AF:i=k:=(by omega)
 have OG:L=fX k b 0:=(by rw[hL,take_of_length_le w7,Kt])
 subst OG;obtain⟨bs,rfl,Eo,M2,rfl⟩:=ho.pos (by rw[qH hk];omega);rw[qH hk] at Eo |-;obtain⟨cs,rfl⟩:∃cs,cs=cp:=⟨_,rfl⟩
 refine bM [0,1,4,6,52,53,54] ?_;refine gK [0,1,4,6,52,53] (fun U _ (j:Nat) Y=>(j<=ps.length)/\Y=(⟨112,(54,ag (j:Nat))::U,[(⟨O,52,8,[ax,ax,ax,az (some ⟨bs,0,none⟩) k cs,ag 0,ax,ax,ax]⟩:ak),(⟨b4,30,3,[ax,ax,ax]⟩:ak),(⟨bs,55,cs*6,(fX k b 0).flatMap cH⟩:ak)]⟩:St)) (fun (j:Nat)=>ps.length-j) 0 ⟨(Nat.zero_le _),rfl⟩ ?_;rintro j _ ⟨hj,rfl⟩;refine bM [0,1,4,6,52,53,54,55] ?_;refine c8 (fun ct bu=>?_) (fun ct bu=>?_)
 ·have tH:j<ps.length:=(by omega)
  have QV:=fM _ (getElem_mem tH);refine bM [0,1,4,6,10,52,53,54] ?_;refine dS 3 ?_;refine jg 60 (fun rh yX=>?_) (fun rh yX=>?_)
  ·exact absurd rh ee
  refine kK [0,1,4,6,52,53,54,65] ?_;refine c8 (fun ck bQ=>?_) (fun ck bQ=>?_)
  ·exact absurd ck ee
  refine lq [0,1,4,6,52,53,54] ?_;refine⟨(j+1),_,lu,kL,w7,rfl⟩
 refine dS 3 ?_;refine CV (g:=eV) (a:=(none:Option (Int×Int))) (n:=(ew k b).length) rfl qA ay rfl rfl underlying25 Hi rfl cc ot ot w7 (by (simp[maxLen];omega)) (fun M=>?_);refine eU 3 ?_;refine bn 1 [_,_,_,_,_,_,_,_] sizeOf25 ?_;refine da 112 [1,4,6] ?_;refine aC ?_;refine aC ?_;rw[rF,length_replicate];rw[show(replicate k (none:Option (Int×Int))).flatMap eV=(eL k 0).flatMap eV from by rw[K9 hk]];refine CS Lb ?_;refine lq [4,6,75,76,77] ?_;refine gK [4,6,75,76] (fun U _ (E:Nat×Nat) Y=>match E with|(q,I)=>(q<=ps.length)/\(I<=2)/\(b=false->I=0)/\Y=(⟨112,(77,ag (q:Nat))::U,[(⟨O,52,8,[ax,ax,ax,az (some ⟨bs,0,none⟩) k cs,ag (jM I),az (some ⟨M,0,none⟩) k k,ax,ax]⟩:ak),(⟨bs,55,cs*6,(fX k b I).flatMap cH⟩:ak),(⟨M,41,k*1,(eL k I).flatMap eV⟩:ak),(⟨b4,30,3,[ax,ax,ax]⟩:ak)]⟩:St)) (fun (E:Nat×Nat)=>match E with|(q,I)=>ps.length-q) (0,0) ⟨(Nat.zero_le _),(Nat.zero_le _),(fun _=>rfl),rfl⟩ ?_;rintro⟨q,I⟩ _ ⟨hq,h2,Z,rfl⟩;refine bM [4,6,75,76,77,78] ?_;refine c8 (fun cl bE=>?_) (fun cl bE=>?_)
 ·have ke:q<ps.length:=(by omega)
  have QW:=fM _ (getElem_mem ke);refine bM [4,6,12,75,76,77] ?_;refine lp 2 ?_;have rJ:ps[q]=((ps[q].toNat:Nat):Int):=(by omega)
  rw[rJ];refine cP (R:=[(⟨b4,30,3,[ax,ax,ax]⟩:ak)]) ay rfl rfl rfl call10 (CA hm hw qk hM hk nV b I Z h2 O bs M cs k ps[q].toNat w7) ⟨ot,ot,trivial⟩ (Perm.refl _) ?_;rintro _ _ ⟨rfl,rfl⟩;refine da 112 [4,6,75,76,77] ?_;refine lq [4,6,75,76,77] ?_;refine⟨((q+1),(k7 k b ps[q].toNat I)),_,lu,kL,w7,(Kv h2),(fun h=>by rw[Kw h];exact Z h),rfl⟩
 refine gK [4,6] (fun U _ (I:Nat) Y=>(I<=2)/\(b=false->I=0)/\Y=(⟨112,U,[(⟨O,52,8,[ax,ax,ax,az (some ⟨bs,0,none⟩) k cs,ag (jM I),az (some ⟨M,0,none⟩) k k,ax,ax]⟩:ak),(⟨bs,55,cs*6,(fX k b I).flatMap cH⟩:ak),(⟨M,41,k*1,(eL k I).flatMap eV⟩:ak),(⟨b4,30,3,[ax,ax,ax]⟩:ak)]⟩:St)) (fun (I:Nat)=>2-I) I ⟨h2,Z,rfl⟩ ?_;rintro I _ ⟨h2,Z,rfl⟩;refine dS 1 ?_;have l9:=JB (G:=G) O bs M cs k k (jM I) (fX k b I) (by rw[qH hk];omega) (by rw[qH hk];exact Eo) M2;rw[qH hk,JC b I h2] at l9;refine cP (Sf:=[(⟨O,52,8,[ax,ax,ax,az (some ⟨bs,0,none⟩) k cs,ag (jM I),az (some ⟨M,0,none⟩) k k,ax,ax]⟩:ak),(⟨bs,55,cs*6,(fX k b I).flatMap cH⟩:ak)]) (R:=[(⟨M,41,k*1,(eL k I).flatMap eV⟩:ak),(⟨b4,30,3,[ax,ax,ax]⟩:ak)]) ay rfl rfl rfl call11 l9 ⟨ot,trivial⟩ (Perm.refl _) ?_;rintro _ _ ⟨rfl,rfl⟩;refine da 112 [4,6,87] ?_;refine c8 (fun dn eZ=>?_) (fun dn eZ=>?_)
 ·obtain⟨hb,qf⟩:b=true/\I<2:=(by simpa using dn)
  refine bM [4,6,92,93] ?_;refine gK [4,6,92] (fun U _ (E:Nat×Nat) Y=>match E with|(z,pz)=>(z<=k)/\(pz=if z=k then I+1 else I)/\Y=(⟨112,(93,ag (z:Nat))::U,[(⟨O,52,8,[ax,ax,ax,az (some ⟨bs,0,none⟩) k cs,ag (jM pz),az (some ⟨M,0,none⟩) k k,ax,ax]⟩:ak),(⟨bs,55,cs*6,(fX k b pz).flatMap cH⟩:ak),(⟨M,41,k*1,(eL k pz).flatMap eV⟩:ak),(⟨b4,30,3,[ax,ax,ax]⟩:ak)]⟩:St)) (fun (E:Nat×Nat)=>match E with|(z,pz)=>k-z) (0,I) ⟨(Nat.zero_le _),(if_neg w7).symm,rfl⟩ ?_;rintro⟨z,pz⟩ _ ⟨hz,rJ,rfl⟩;refine bM [4,6,92,93,94] ?_;refine c8 (fun gA kC=>?_) (fun gA kC=>?_)
  ·have F4:z<k:=(by omega)
   have j4:pz=I:=(by rw[rJ,if_neg w7])
   refine bM [4,6,13,92,93] ?_;refine lp 2 ?_;refine cP (R:=[(⟨b4,30,3,[ax,ax,ax]⟩:ak)]) ay rfl rfl rfl call10 (CA hm hw qk hM hk nV b pz (fun h=>by rw[hb] at h;cases h) w7 O bs M cs k z F4) ⟨ot,ot,trivial⟩ (Perm.refl _) ?_;rintro _ _ ⟨rfl,rfl⟩;refine da 112 [4,6,92,93] ?_;refine lq [4,6,92,93] ?_;refine⟨((z+1),(k7 k b z pz)),_,lu,kL,w7,(Kx hb qf F4 rJ),rfl⟩
  have OH:pz=I+1:=(by rw[rJ,if_pos w7])
  subst OH;refine ep ?_;refine⟨(I+1),_,lu,kL,w7,(fun h=>by rw[hb] at h;cases h),rfl⟩
 have iu:b=true->I=2:=fun h=>by have:=dn;simp[h] at this;omega
 refine dS 8 ?_;refine bn 0 [_,_,_,_,_,_,_,_] sizeOf28 ?_;refine da 112 [4,6] ?_;refine dS 4 ?_;refine bn 3 [_,_,_] sizeOf30 ?_;refine da 112 [4,5] ?_;refine ei [(⟨M,41,k*1,(eL k I).flatMap eV⟩:ak)] ?_;rw[Ky Z iu];exact⟨_,rfl,rfl⟩
end Se
namespace Pa
open Go.Proofs.Tryz
open Go.RowKit V Pk Vl Go.Proofs.YtomnenkeecbglaaGreatDoor.Nm Pc
abbrev TypesTab(w:World):Prop:=Tab.iM w 2 typesC
abbrev CmpTab(w:World):Prop:=Tab.iM w 10 cmpC
def typesB:List (List UInt8):=[[],[66,79,79,76],[73,78,84],[84,69,88,84]]
def cmpB:List (List UInt8×Int×Bool×Bool):=[([61],6,false,false),([60,62],6,false,true),([60],7,false,false),([62],7,true,false),([62,61],7,false,true),([60,61],7,true,true)]
def ql:List (Nat×List Value):=[(1,marksC),(0,wordsC),(2,typesC),(10,cmpC)]
theorem OI:(1,marksC)∈ql:=mem_cons_self
theorem OJ:(0,wordsC)∈ql:=mem_cons_of_mem _ mem_cons_self
theorem OK:(2,typesC)∈ql:=mem_cons_of_mem _ (mem_cons_of_mem _ mem_cons_self)
theorem OL:(10,cmpC)∈ql:=mem_cons_of_mem _ (mem_cons_of_mem _ (mem_cons_of_mem _ mem_cons_self))
theorem M3{w:World}(h1:MarksTab w)(h2:WordsTab w)(E:TypesTab w)(I:CmpTab w):∀g∈ql,g.2≠[]/\sW w g.1 g.2:=fun g hg=>by
 simp only[ql,mem_cons,not_mem_nil,or_false] at hg;rcases hg with rfl|rfl|rfl|rfl
 ·exact⟨by decide,.of h1 rfl⟩
 ·exact⟨by decide,.of h2 rfl⟩
 ·exact⟨by decide,.of E rfl⟩
 exact⟨by decide,.of I rfl⟩
end Pa
namespace Se
open Go.Proofs.Tryz
open Go.RowKit V Pk
variable {G:List (Nat×List Value)}
variable {k:Nat}
theorem KA(n:Int):(cI n).all V.one=true:=rfl
def lR(p:List Int)(k:Int):List Int:=[0,0,0,0]++(p.take 300).map (fun x=>jq x k)
theorem Dt{p:List Int}(hk:1<=k):∀x∈lR p k,0<=x/\x<k:=fun x hx=>by
 rcases mem_append.1 hx with hx|hx
 ·simp only[mem_cons,not_mem_nil,or_false,or_self] at hx;omega
 obtain⟨y,_,rfl⟩:=mem_map.1 hx;exact BL y w7
theorem JD(p:List Int)(k:Int):(lR p k).length<=304:=by
 unfold lR;rw[length_append,length_map,length_take];have:([0,0,0,0]:List Int).length=4:=rfl;omega
theorem BU(n m:Int)(hn:-9223372036854775808<=n)(E:n<=9223372036854775807)(hm:1<=m):VP Tryz.prog G 4 [ag n,ag m] (ag (jq n m)):=by
 refine cf func4 rfl ntmps4 aF fun M w0 I=>?_;refine bM [0,1] ?_;refine mQ [4] (Hv G n m hn E hm) ?_;refine ei [] ?_;exact⟨by first|rfl|(simp[*];done),rfl⟩
theorem HN:(Tryz.prog.info? 3).map (fun i=>(i.zero,i.size,i.bytes))=some (some (.int .i64 0),1,8):=by kernel_rfl
theorem IK(p:List Int)(hp:∀x∈p,-9223372036854775808<=x/\x<=9223372036854775807)(fk:p.length<=maxLen)(k:Nat)(hk:1<=k):VP Tryz.prog G 6 [av 1 cI p,ag (k:Nat)] (.list 1 ((lR p k).flatMap cI) (lR p k).length):=by
 refine cf func6 rfl ntmps6 aF fun X0 w0 dm=>?_;have eI:=fU;refine bM [0,1] ?_;refine ah ?_;refine dM (aU 0 [_,_,_,_]) [.int .i64 0,.int .i64 0,.int .i64 0,.int .i64 0] [_,_,_,_] zeroValue3 runUnderlying22 sizeOf3 (fun b7=>?_);refine aW (dj (S1:=[⟨b7,3,4*1,flatMap cI (([0,0,0,0]:List Int))⟩]) (A:=[])) ?_;refine da 28 [0,1,5] ?_;refine bM [0,1,5,6] ?_;refine gK [0,1] (fun kN _ (E:Nat×List Int×Option Addr×Nat×List ak) cn=>match E with|(i,acc,O,U,Sx)=>(i<=300)/\(i<=p.length)/\(acc=[0,0,0,0]++(p.take i).map (fun x=>jq x (k:Nat)))/\(acc.length=4+i)/\(bV 3 1 ((acc).flatMap cI) (acc).length O U Sx)/\cn=(⟨28,(5,az O (acc).length U)::(6,ag (i:Nat))::kN,(Sx)⟩:St)) (fun (E:Nat×List Int×Option Addr×Nat×List ak)=>match E with|(i,acc,O,U,Sx)=>p.length-i) (0,([0,0,0,0]:List Int),(some ⟨b7,0,none⟩),4,[⟨b7,3,4*1,flatMap cI (([0,0,0,0]:List Int))⟩]) ⟨(Nat.zero_le _),(Nat.zero_le _),rfl,rfl,(bV.cast (cU (g:=cI) (sz:=1) (e:=3) (ls:=([0,0,0,0]:List Int)) (Nat.le_refl _) (show 4<=maxLen by decide)) mH),rfl⟩ ?_;rintro⟨i,acc,O,U,Sx⟩ _ ⟨hi,qd,zV,wg,Y,rfl⟩;refine dS 5 ?_;refine jg 12 (fun hg12 Z=>?_) (fun hg12 Z=>?_)
 ·refine kK [0,1,5,6,15] ?_;refine c8 (fun aA dJ=>?_) (fun aA dJ=>?_)
  ·have aD:i<p.length:=(by first|omega|(simp_all;done)|(simp_all;omega))
   have rC:i<300:=(by first|omega|(simp_all;done)|(simp_all;omega))
   have F5:=hp _ (getElem_mem aD);refine lp 6 ?_;refine bU call4 (BU p[i] (k:Nat) F5.1 F5.2 w7) ?_;refine dM (aU 0 [_]) [.int .i64 0] [_] zeroValue3 runUnderlying22 sizeOf3 (fun wB=>?_);refine fB 0 25 1 1 ?_;refine fY (ls:=(acc)) (new:=[jq p[i] (k:Nat)]) (Sq:=Sx) vk KA ay rfl rfl underlying22 HN rfl cc ot Y (cy (A:=[])) ot cq iY iY (fun Bm I th tj=>?_);refine aW (dj (S1:=[⟨Bm,3,I*1,flatMap cI ((acc)++[jq p[i] (k:Nat)])⟩]) (A:=[])) ?_;refine da 28 [0,1,5,6] ?_;refine lq [0,1,5,6] ?_;refine⟨((i+1),(acc++[jq p[i] (k:Nat)]),(some ⟨Bm,0,none⟩),I,[⟨Bm,3,I*1,flatMap cI ((acc)++[jq p[i] (k:Nat)])⟩]),_,lu,kL,w7,w7,(by rw[zV,take_succ_eq_append_getElem aD,map_append,append_assoc];rfl),(by rw[length_append,wg];simp;omega),(bV.cast (cU th tj) mH),rfl⟩
  have he:¬(i<p.length/\i<300):=(by rintro⟨q1,q2⟩;first|omega|(simp_all;done)|(simp_all;omega))
  have M:acc=lR p (k:Nat):=(by unfold lR;rw[zV];congr 2;rcases(by omega:i=300\/i=p.length) with q|q;rw[q];rw[q,take_of_length_le (Nat.le_refl _),take_of_length_le w7])
  subst M;refine bM [4] ?_;refine jn (t:=4) (Sq:=Sx) lk Y (de vk _) (cy (A:=[])) ?_;refine bl ?_;exact⟨rfl,rfl⟩
 refine kK [0,1,5,6,15] ?_;refine Nc ?_;have he:¬(i<p.length/\i<300):=(by rintro⟨q1,q2⟩;first|omega|(simp_all;done)|(simp_all;omega))
 have M:acc=lR p (k:Nat):=(by unfold lR;rw[zV];congr 2;rcases(by omega:i=300\/i=p.length) with q|q;rw[q];rw[q,take_of_length_le (Nat.le_refl _),take_of_length_le w7])
 subst M;refine bM [4] ?_;refine jn (t:=4) (Sq:=Sx) lk Y (de vk _) (cy (A:=[])) ?_;refine bl ?_;exact⟨rfl,rfl⟩
theorem HO:VP Tryz.prog G 9 [.agg [ax]] (ag 0):=by
 refine cf func9 rfl ntmps9 aF fun Z w0 U=>?_;refine ah ?_;refine fI (ds:=[_]) ay rfl rfl ot rfl rfl (fun Y=>?_);refine da 31 [1] ?_;refine bM [1,8] ?_;refine c8 (fun aA E=>?_) (fun aA E=>?_)
 ·exact absurd aA (by simp at aA)
 refine bM [1,10,11,12] ?_;refine gK [1,10,11] (fun M _ (i:Nat) O=>(i=0)/\O=(⟨31,(12,ag (i:Nat))::M,[⟨Y,28,1,[ax]⟩]⟩:St)) (fun (i:Nat)=>0) 0 ⟨rfl,rfl⟩ ?_;rintro i _ ⟨hi,rfl⟩;refine bM [1,10,11,12,13] ?_;refine c8 (fun aG I=>?_) (fun aG I=>?_)
 ·exact absurd aG (by subst hi;simp at aG)
 refine bM [2] ?_;refine ei [] ?_;exact⟨rfl,rfl⟩
theorem KB{i:Nat}{b:Bool}(h:¬(b=true/\i=k-1))(hi:i<(eL k (j3 b)).length):(eL k (j3 b))[i]=none:=by
 by_cases he:i=k-1
 ·have:b=false:=(by cases b;rfl;exact absurd ⟨rfl,he⟩ h)
  subst this;exact nw he _
 exact yG (by unfold eL at hi;rw[length_append,length_replicate,length_singleton] at hi;omega) _
theorem KC{i:Nat}{b:Bool}(h:¬(b=true/\i=k-1))(hi:i<(ew k b).length):(ew k b)[i]=[]:=by
 by_cases he:i=k-1
 ·have:b=false:=(by cases b;rfl;exact absurd ⟨rfl,he⟩ h)
  subst this;exact nw he _
 exact yG (by unfold ew at hi;rw[length_append,length_replicate,length_singleton] at hi;omega) _
theorem Du(hm:(1,Nm.marksC)∈G)(hw:(0,Nm.wordsC)∈G)(Z:(10,Pa.cmpC)∈G)(hM:(2,Pc.typesC)∈G)(k:Nat)(hk:1<=k)(nV:k<=4)(b:Bool)(ps:List Int)(fk:ps.length<=2000)(fM:∀p∈ps,0<=p/\p<k):VC Tryz.prog G 5 [.list 1 ((ew k b).flatMap mb) (ew k b).length,av 1 cI ps] [] (fun r S=>∃br,r = .dK [.agg [az (some ⟨br,0,none⟩) k k,ax,ax],bw true]/\S=[(⟨br,41,k*1,(eL k (j3 b)).flatMap eV⟩:ak)]):=by
 refine cf func5 rfl ntmps5 aF fun X0 w0 dm=>?_;have eI:=fU;have rF:=pu hk b;have QX:=yx hk (j3 b);refine ah ?_;refine eo (ds:=[_,_,_]) ay rfl rfl zeroValue30 rfl (fun b4=>?_);refine da 50 [0,1,4] ?_;refine dS 2 ?_;refine cP (R:=[(⟨b4,30,3,[ax,ax,ax]⟩:ak)]) ay rfl rfl rfl call8 (Kz hm hw Z hM k hk nV b ps fk fM) ⟨ot,ot,trivial⟩ (jP _) ?_;rintro _ _ ⟨br,rfl,rfl⟩;refine eU 3 ?_;refine eo (ds:=[_,_,_]) ay rfl rfl zeroValue30 rfl (fun b6=>?_);refine bn 0 [_,_,_] sizeOf30 ?_;refine da 50 [0,4,6,7] ?_;refine dS 3 ?_;refine jg 17 (fun fu I=>?_) (fun fu I=>?_)
 ·exact absurd fu cq
 refine kK [0,4,6,24] ?_;refine c8 (fun aA O=>?_) (fun aA O=>?_)
 ·exact absurd aA ee
 refine bM [0,4,6,8] ?_;refine gK [0,4,6] (fun kN _ (i:Nat) cn=>(i<=k)/\cn=(⟨50,(8,ag (i:Nat))::kN,[(⟨b6,30,3,[az (some ⟨br,0,none⟩) k k,ax,ax]⟩:ak),(⟨br,41,k*1,(eL k (j3 b)).flatMap eV⟩:ak),(⟨b4,30,3,[ax,ax,ax]⟩:ak)]⟩:St)) (fun (i:Nat)=>k-i) 0 ⟨(Nat.zero_le _),rfl⟩ ?_;rintro i _ ⟨hi,rfl⟩;refine bM [0,4,6,8,29] ?_;refine c8 (fun aG U=>?_) (fun aG U=>?_)
 ·have aD:i<(ew k b).length:=(by omega)
  have Fe:i<k:=(by omega)
  have M4:i<(eL k (j3 b)).length:=(by omega)
  refine aS ?_;refine aC ?_;refine bZ ?_;refine aC ?_;by_cases M:b=true/\i=k-1
  ·obtain⟨rfl,Y⟩:=M;have hT:(eL k (j3 true))[i]=some (1,0):=nw Y _;have hS:(ew k true)[i]=[⟨#[66,69,71,73,78]⟩]:=nw Y _;refine wm [0,4,6,8,43] ?_;refine fb 4 ?_ (h:=ED);refine fb 4 ?_ (h:=EF);refine iC ?_;refine c8 (fun E aX=>?_) (fun E aX=>?_)
   ·exact absurd E (by simp at E)
   refine lq [0,4,6,8] ?_;refine⟨(i+1),_,lu,kL,w7,rfl⟩
  have hT:(eL k (j3 b))[i]=none:=KB M _;have hS:(ew k b)[i]=[]:=KC M _;refine wm [0,4,6,8,43] ?_;refine fb 4 ?_ (h:=ED);refine fb 4 ?_ (h:=EF);refine iC ?_;refine c8 (fun E aX=>?_) (fun E aX=>?_)
  ·exact absurd E (by simp at E)
  refine lq [0,4,6,8] ?_;refine⟨(i+1),_,lu,kL,w7,rfl⟩
 refine ep ?_;refine aC ?_;refine AJ 6 (aq (eraseIdx _ 2)) ?_ (fun _ h=>(Sublist.map _ (eraseIdx_sublist _ 2)).subset h);refine aj 0 rfl (cm (mk:=Op.load 30) rfl ot (by first|exact og (k:=0) (ds:=[_,_,_]) rfl rfl isAgg30 sizeOf30 rfl rfl|exact oq (ds:=[_,_,_]) isAgg30 sizeOf30 rfl rfl)) ?_;refine aj 1 rfl (aB 2) ?_;refine aj 2 rfl (cm (mk:=Op.load 28) rfl ot (by first|exact og (k:=0) (ds:=[_]) rfl rfl isAgg28 sizeOf28 rfl rfl|exact oq (ds:=[_]) isAgg28 sizeOf28 rfl rfl)) ?_;refine bt.later rfl ?_;refine aL (i:=3) af ?_;refine bY call9 (HO) ?_;refine bR 4 rfl aE ?_;refine aL (i:=5) af ?_;refine aR 2 [_,_,_] sizeOf30 ?_;refine tW ?_;refine kK [4,5] ?_;refine ei [(⟨br,41,k*1,(eL k (j3 b)).flatMap eV⟩:ak)] ?_;exact⟨_,rfl,rfl⟩
def cN(_:Unit):List D:=[ax]
theorem KE(u:Unit):(cN u).length=1:=rfl
theorem Da:∀k:Nat,kM ((replicate k ()).flatMap cN) ((replicate k ([]:List ByteArray)).flatMap mb)
 | 0=>trivial
 | k+1=>⟨ve,Da k⟩
theorem JE(hk:1<=k):kM ((replicate k ()).flatMap cN) ((ew k false).flatMap mb):=by
 have h:=Da k;obtain⟨j,rfl⟩:∃j,k=j+1:=⟨k-1,by omega⟩
 have e:ew (j+1) false=replicate (j+1) []:=(by unfold ew;rw[Nat.add_sub_cancel,replicate_succ'];rfl)
 rw[e];exact h
theorem IL:∀d∈(eL k (j3 false)).flatMap eV,kw d=true:=fun d hd=>by
 obtain⟨x,hx,hd⟩:=mem_flatMap.1 hd;have:x=none:=by
  unfold eL at hx;rcases mem_append.1 hx with h|h
  ·exact eq_of_mem_replicate h
  rw[mem_singleton] at h;exact h
 subst this;rw[show eV none=[ax] from rfl,mem_singleton] at hd;subst hd;rfl
theorem JF(hk:1<=k):eR ((ew k false).flatMap mb) (0+(k-1)*1) [.list 1 ([⟨#[66,69,71,73,78]⟩].flatMap cS) 1]=(ew k true).flatMap mb:=by
 have h:=Ds su (ew k false) (i:=k-1) (j:=0) (by rw[pu hk];omega) [⟨#[66,69,71,73,78]⟩] (Nat.le_refl _) (ds:=[.list 1 ([⟨#[66,69,71,73,78]⟩].flatMap cS) 1]) rfl;rw[show(ew k false).set (k-1) [⟨#[66,69,71,73,78]⟩]=ew k true from vc rfl] at h;exact h
theorem Hj:(Tryz.prog.info? 34).map (fun i=>(i.zero,i.size,i.bytes))=some (some (.slice none 0 0),1,24):=by kernel_rfl
theorem Hl(hm:(1,Nm.marksC)∈G)(hw:(0,Nm.wordsC)∈G)(qk:(10,Pa.cmpC)∈G)(hM:(2,Pc.typesC)∈G)(n:Int)(fD:-9223372036854775808<=n)(tO:n<=9223372036854775807)(p:List Int)(hp:∀x∈p,-9223372036854775808<=x/\x<=9223372036854775807)(fk:p.length<=maxLen):VP Tryz.prog G 3 [ag n,av 1 cI p] (bw true):=by
 refine cf func3 rfl ntmps3 aF fun X0 w0 dm=>?_;have eI:=fU;have Fm:=BL n (by decide:(1:Int)<=4);obtain⟨k,hk⟩:∃k:Nat,1+jq n 4=(k:Int):=⟨(1+jq n 4).toNat,by omega⟩
 have E:1<=k:=(by omega)
 have nV:k<=4:=(by omega)
 have gV:=BU (G:=G) n 4 fD tO cc;have hq:=IK (G:=G) p hp fk k E;have P9:=JD p k;have kO:=Du hm hw qk hM k E nV false (lR p k) w7 (Dt E);have kI:=Du hm hw qk hM k E nV true (lR p k) w7 (Dt E);rw[pu E] at kO kI;have z6:k-1<(eL k (j3 true)).length:=(by rw[yx E];omega)
 have z7:(eL k (j3 true))[k-1]=some (1,0):=nw rfl _;refine bM [0,1] ?_;refine gY [1,5] ?_;refine qb (gV) ?_;refine fb 0 ?_ (h:=by exact(eX (r:=.int .i64 ((k:Nat):Int)) rfl aN ot (lD (by rw[hk];exact wrap_i64 w7 w7))));refine iC ?_;refine dS 1 ?_;refine CV (g:=cN) (a:=()) (n:=k) rfl KE ay rfl rfl underlying24 Hj rfl cc ot ot w7 (by (simp[maxLen];omega)) (fun Oj=>?_);refine Ih (k:=0) (cs':=(ew k false).flatMap mb) rfl (JE E) rfl ?_;refine da 91 [1,5,6] ?_;refine aC ?_;rw[length_replicate];refine lp 3 ?_;refine bU call6 (hq) ?_;refine H7 ay rfl rfl rfl call5 kO (fun r S h=>by obtain⟨br,rfl,rfl⟩:=h;exact⟨rfl,fun B hB d hd=>by rw[mem_singleton] at hB;subst hB;exact IL d hd⟩) ⟨⟨_,ot,xV (k:=0) rfl rfl rfl (by rw[de su,pu E]) (Nat.le_refl _) w7⟩,⟨_,ot,qt⟩,trivial⟩ ?_;rintro _ _ ⟨br,rfl,rfl⟩;refine eU 3 ?_;refine eo (ds:=[_,_,_]) ay rfl rfl zeroValue30 rfl (fun b7=>?_);refine bn 0 [_,_,_] sizeOf30 ?_;refine da 91 [1,5,6,7,8] ?_;refine dS 3 ?_;refine dM (aU 0 [_]) [.string ⟨#[]⟩] [_] zeroValue9 runUnderlying34 sizeOf9 (fun FK=>?_);refine fB 0 27 1 1 ?_;refine ae (dW 1 (h:=Ag)) ?_;refine nf (k:=2) (cs':=(ew k true).flatMap mb) ay rfl rfl ot rfl rfl ot rfl rfl sizeOf34 rfl (by show 0+(k-1)*1+1<=((ew k false).flatMap mb).length;rw[de su,pu E];omega) (by exact JF E) ?_;refine da 91 [1,5,6,7,8] ?_
 refine aC ?_;refine gS (Wk.vr (k:=2) (t:=6) (sz:=1) (m:=k) (cap:=k) (cs:=(ew k true).flatMap mb) rfl lk rfl (by rw[de su,pu E]) (Nat.le_refl _) w7) ?_;refine lp 3 ?_;refine bU call6 (hq) ?_;refine cP ay rfl rfl rfl call5 kI ⟨ot,ot,trivial⟩ (jP _) ?_;rintro _ _ ⟨bq,rfl,rfl⟩;refine eU 3 ?_;refine eo (ds:=[_,_,_]) ay rfl rfl zeroValue30 rfl (fun b9=>?_);refine bn 0 [_,_,_] sizeOf30 ?_;refine da 91 [5,7,8,9,10] ?_;refine dS 2 ?_;refine jg 38 (fun I Le=>?_) (fun I Le=>?_)
 ·refine eU 3 ?_;refine jg 41 (fun M Lf=>?_) (fun M Lf=>?_)
  ·refine eU 6 ?_;refine jg 47 (fun O Lg=>?_) (fun O Lg=>?_)
   ·refine eU 7 ?_;refine jg 54 (fun U Lh=>?_) (fun U Lh=>?_)
    ·refine eU 6 ?_;refine jg 60 (fun Y yX=>?_) (fun Y yX=>?_)
     ·refine eU 7 ?_;refine jg 67 (fun Z sS=>?_) (fun Z sS=>?_)
      ·refine eU 4 ?_;refine ae (dW 1 (h:=Ag)) ?_;refine gE dH rfl (cm (mk:=Op.load 41) rfl ot Ey) ?_;refine gE dH rfl (kj (mk:=Op.indexAddr 41) rfl ot aN Ez) ?_;refine eU 5 ?_;refine jg 79 (fun Ep Li=>?_) (fun Ep Li=>?_)
       ·refine eU 4 ?_;refine ae (dW 1 (h:=Ag)) ?_;refine gE dH rfl (cm (mk:=Op.load 41) rfl ot Ey) ?_;refine gE dH rfl (kj (mk:=Op.indexAddr 41) rfl ot aN Ez) ?_;refine da 91 [4] ?_;refine ei [] ?_;exact⟨by first|rfl|(simp;done),rfl⟩
       exact absurd Ep cq
      exact absurd Z cq
     exact absurd Y cq
    exact absurd U cq
   exact absurd O cq
  exact absurd M cq
 exact absurd I cq
def F6(l:List Int):Prop:=∀x∈l,-9223372036854775808<=x/\x<=9223372036854775807
theorem rd_ints{H:Type}{enc:TypeId×Value->H}{w:World}{base E:Nat}{sp:Nat->Bool}{held:Bool}{v:Value}{d:DataW H}{p:List MemPlace}(hval:Value.okWide Tryz.prog w .any E 22 v)(h:DataW.Trod enc Tryz.prog w base sp held 22 v d p) :
  ∃l:List Int,bP w (fun _=>False) (av 1 cI l) v/\(l.length<=maxLen/\F6 l)/\True:=by
 obtain⟨l,h1,h2,h3⟩:=HZ underlying22 af cc (JN underlying3) vk hval h;exact⟨l,h1,⟨h3,h2⟩,trivial⟩
theorem walkTopNothing(a:Int)(E:(Lit.int .i64 a).wf=true)(l:List Int)(v:Value)(ok:l.length<=maxLen/\F6 l)(w:World)(h1:Nm.MarksTab w)(h2:Nm.WordsTab w)(I:Pa.TypesTab w)(M:Pa.CmpTab w)(O:bP w (fun _=>False) (av 1 cI l) v):Calls Tryz.prog 3 #[.int .i64 a,v] w fun e w'=>e = .returned (.bool true)/\Below w.heap.size w w' :=
 (Hl (G:=Pa.ql) Pa.OI Pa.OJ Pa.OL Pa.OK a (yH E).1 (yH E).2 l ok.2 ok.1).Lo (Pa.M3 h1 h2 I M) (vs:=[.int .i64 a,v]) (bX.cons (.v _) (bX.cons O (bX.nil _ _)))
end Se
end Go.Proofs.YtomnenkeecbglaaGreatDoor
