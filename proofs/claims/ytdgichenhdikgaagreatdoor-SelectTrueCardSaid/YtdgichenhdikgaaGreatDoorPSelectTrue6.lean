/-
  What the proof of SelectTrue leans on, part 6 of 9: walks of the program's functions at the level of values, and plain facts of what they compute.
-/
import Derived.Test.YtdgichenhdikgaaGreatDoorPSelectTrue5
set_option linter.unusedVariables false
set_option linter.unusedSimpArgs false
set_option maxRecDepth 100000
set_option maxHeartbeats 4000000
namespace Go.Proofs.YtdgichenhdikgaaGreatDoor.Tw
open List
open Go.Proofs.Tryz
open Go.RowKit V Tr Pk
open Go.Lib (compareBytes)
variable {l hi k:K} {p:cW} {n many:Int} {i:Nat} {t:aD}
def cK(k:K):List D:=[av 1 cB k]
theorem gb(k:K):(cK k).length=1:=rfl
theorem pP(k:K):(cK k).all V.one=true:=rfl
def cI(n:Int):List D:=[ae n]
theorem ez(n:Int):(cI n).length=1:=rfl
theorem nR(n:Int):(cI n).all V.one=true:=rfl
def cP(p:cW):List D:=[bJ p.leaf,av 1 cK p.keys,av 1 cI p.kids,av 1 cB p.high,ae p.next]
theorem FB(p:cW):(cP p).length=5:=rfl
theorem agF(p:cW):(cP p).all V.one=true:=rfl
def cT(t:aD):List D:=[av 5 cP t.ag,ae t.root]
def oM(k:K):Bool:=decide (0<k.length∧k.length≤100)
def vh(p:cW)(i:Nat):Prop:=∀(h:i<p.keys.length),oM p.keys[i]=true∧(∀(h0:0<i),bA (p.keys[i-1]'w4) p.keys[i])∧(p.high≠[]→bA p.keys[i] p.high)
theorem adf{l:List K}(h:∀i (hi:i<l.length) (h0:0<i),bA (l[i-1]'w4) l[i]):l.Pairwise bA:=by
 refine pairwise_iff_getElem.2 fun i j hi hj E=>?_;obtain⟨d,rfl⟩:∃d,j=i+1+d:=⟨j-(i+1),by omega⟩
 induction d with
 | zero=>have:=h (i+1) hj w4;simpa using this
 | succ d ih =>
  have h1:=ih w4 w4;have h2:=h (i+1+(d+1)) hj w4;exact lQ h1 (by simpa using h2)
theorem SF(h:eC p n)(i:Nat):vh p i:=fun hi=>by
 have hm:=getElem_mem hi;have:=h.lC _ hm;exact⟨by unfold oM;simp;omega,fun h0=>nv h.jQ w4 hi,fun hne=>h.qI hne _ hm⟩
theorem Kk(h:decide ((l.length:Int)>0)=true):l≠[]:=fun e=>by rw[e] at h;cases h
theorem len_nil(h:decide ((l.length:Int)>0)=false):l=[]:=by
 have:=of_decide_eq_false h;exact length_eq_zero_iff.1 w4
theorem Vj(h:decide ((hi.length:Int)>0)=true):decide (compareBytes k hi≥0)=decide (hi≠[]∧¬bA k hi):=by
 have:=Kk h;unfold bA;simp[this]
theorem Vk(h:decide ((hi.length:Int)>0)=false):false=decide (hi≠[]∧¬bA k hi):=by simp[len_nil h]
variable {G:List (Nat×List Value)}
theorem wJ(a b:K):VP Tryz.prog G 51 [av 1 cB a,av 1 cB b] (ae (compareBytes a b)):=by
 exact V4
theorem Vm(a b:K)(ha:a.length≤maxLen)(hb:b.length≤maxLen):VP Tryz.prog G 133 [av 1 cB a,av 1 cB b] (bJ (decide (a=b))):=by
 refine VC.body func133 rfl ntmps133 aO fun X0 w0 bg=>?_;refine af [0,1] ?_;refine cL [4] ?_;refine aS 1 ?_ (h:=by exact C0);refine aS 1 ?_ (h:=by exact C0);refine bI ?_;refine aI [] ?_;refine⟨vb ?_,rfl⟩;rw[ByteArray.toList_eq,ByteArray.toList_eq];show(a==b)=decide (a=b);by_cases h:a=b<;>simp[h]
theorem zi(k:K):VP Tryz.prog G 132 [av 1 cB k] (bJ (oM k)):=by
 refine VC.body func132 rfl ntmps132 aO fun X0 w0 bg=>?_;refine af [0] ?_;refine aB 4 ?_;refine bP 6 (fun I E=>?_) (fun I E=>?_)
 ·refine bq [2] ?_;refine eJ ?_;refine⟨vb ?_,rfl⟩;unfold oM;first|(simp_all;done)|(simp_all;omega)
 refine bq [2] ?_;refine eJ ?_;refine⟨vb ?_,rfl⟩;unfold oM;first|(simp_all;done)|(simp_all;omega)
theorem abt(p:cW)(k:K):VP Tryz.prog G 144 [.agg (cP p),av 1 cB k] (bJ (decide (p.high≠[]∧¬bA k p.high))):=by
 refine VC.body func144 rfl ntmps144 aO fun X0 w0 bg=>?_;unfold cP;refine bU ?_;refine OD.box (ds:=[_,_,_,_,_]) ap rfl rfl ot rfl rfl (fun b2=>?_);refine an 16 [1,2] ?_;refine aB 5 ?_;refine bP 9 (fun E I=>?_) (fun E I=>?_)
 ·refine aF 3 ?_;refine OD.gZ iq rfl rfl rfl call51 (wJ k p.high) ⟨ot,ot,trivial⟩ ?_;refine an 16 [4] ?_;refine aI [] ?_;refine⟨vb ?_,rfl⟩;first|exact Vj E|exact Vk E
 refine bq [4] ?_;refine eJ ?_;refine⟨vb ?_,rfl⟩;first|exact Vj E|exact Vk E
theorem Vn{a:Int}(h:(decide (a<0)!=((l.length:Int)==0))=false):a<0↔l=[]:=by
 have h:decide (a<0)=((l.length:Int)==0):=(by simpa using h)
 rw[←length_eq_zero_iff];constructor
 ·intro q;rw[decide_eq_true q] at h;have:=beq_iff_eq.1 h.symm;omega
 intro q;rw[q] at h;exact of_decide_eq_true h
theorem ahm{a:Int}(h:a<0↔l=[]):(!(decide (a<0)==((l.length:Int)==0)))=false:=by
 rw[←length_eq_zero_iff] at h;by_cases q:a<0
 ·rw[decide_eq_true q,h.1 q];rfl
 rw[decide_eq_false q];have:¬l.length=0:=fun e=>q (h.2 e);simp;exact fun e=>this (by rw[e];rfl)
open Classical in
noncomputable def BN(p:cW)(many:Int):Bool:=decide (eC p many)
open Classical in
theorem EA(h:¬eC p many):false=BN p many:=(decide_eq_false h).symm
open Classical in
theorem abu(h:eC p many):true=BN p many:=(decide_eq_true h).symm
theorem ael(h:eC p n)(hi:i<p.kids.length):0≤p.kids[i]∧(p.leaf=false→p.kids[i]<n):=⟨h.aA _ (getElem_mem hi),fun hl=>h.vw hl _ (getElem_mem hi)⟩
theorem adg(f1:p.keys.length≤4)(f2:p.high.length≤100)(f3:-1≤p.next)(f4:p.next<many)(I:(p.next<0↔p.high=[]))(f6:(p.leaf=true→p.kids.length=p.keys.length))(E:(p.leaf=false→p.kids.length=p.keys.length+1∧p.keys.length≠0))(hk:∀j,j<p.keys.length→vh p j)(hc:∀j (hj:j<p.kids.length),0≤p.kids[j]∧(p.leaf=false→p.kids[j]<many)):eC p many:=by
 refine⟨f1,f2,f3,f4,I,f6,fun h=>⟨(E h).1,fun e=>(E h).2 (by rw[e];rfl)⟩,fun k h=>?_,fun hne k h=>?_,adf fun i hi h0=>(hk i hi hi).2.1 h0,fun n h=>?_,fun hl n h=>?_⟩
 ·obtain⟨i,hi,rfl⟩:=mem_iff_getElem.1 h;have:=(hk i hi hi).1;unfold oM at this;have:=of_decide_eq_true this;omega
 ·obtain⟨i,hi,rfl⟩:=mem_iff_getElem.1 h;exact(hk i hi hi).2.2 hne
 ·obtain⟨i,hi,rfl⟩:=mem_iff_getElem.1 h;exact(hc i hi).1
 obtain⟨i,hi,rfl⟩:=mem_iff_getElem.1 h;exact(hc i hi).2 hl
theorem ae4(p:cW)(many:Int)(dU:p.keys.length≤maxLen)(fm:p.kids.length≤maxLen):VP Tryz.prog G 91 [.agg (cP p),ae many] (bJ (BN p many)):=by
 refine VC.body func91 rfl ntmps91 aO fun X0 w0 bg=>?_;unfold cP;have c8:=dR;refine bU ?_;refine OD.box (ds:=[_,_,_,_,_]) ap rfl rfl ot rfl rfl (fun b2=>?_);refine an 132 [1,2] ?_;refine aB 5 ?_;refine bP 13 (fun akz Z=>?_) (fun akz Z=>?_)
 ·exact z130
 refine aF 6 ?_;refine bP 19 (fun LP ah6=>?_) (fun LP ah6=>?_)
 ·exact z130
 refine aF 5 ?_;refine bP 24 (fun akA ah7=>?_) (fun akA ah7=>?_)
 ·exact z130
 refine aF 6 ?_;refine bP 30 (fun akB ah8=>?_) (fun akB ah8=>?_)
 ·exact z130
 refine aF 7 ?_;refine OD.still iq rfl (dz rfl ot ot (QT underlying4)) ?_;refine an 132 [1,2,39] ?_;refine aq ?_ ?_<;>intro aP bC
 ·refine af [4] ?_;refine aI [] ?_;exact GW
 refine CD.skip ?_;refine jV [1,2] (fun aX I aG=>(p.keys.length≤4)∧(p.high.length≤100)∧(-1≤p.next)∧(p.next<many)∧((p.next<0↔p.high=[]))∧((p.leaf=true→p.kids.length=p.keys.length))∧((p.leaf=false→p.kids.length=p.keys.length+1∧p.keys.length≠0))∧aG=(⟨132,aX,I⟩:St)) ?_ ?_
 ·refine aB 3 ?_;refine bP 42 (fun rC ah9=>?_) (fun rC ah9=>?_)
  ·refine aF 9 ?_;refine bP 51 (fun akC aia=>?_) (fun akC aia=>?_)
   ·exact z145
   refine aF 4 ?_;refine bP 55 (fun uo E=>?_) (fun uo E=>?_)
   ·exact absurd uo (by rw[rC];decide)
   refine bq [1,2,71] ?_;refine fJ ?_;refine CD.skip ?_;refine⟨_,aK,w4,w4,w4,w4,(Vn aP),(fun _=>by omega),(fun h=>absurd rC (by rw[h];decide)),rfl⟩
  refine x5 7 ?_;refine aF 6 ?_;refine bP 55 (fun uo E=>?_) (fun uo E=>?_)
  ·refine aF 9 ?_;refine bP 64 (fun L1 K1=>?_) (fun L1 K1=>?_)
   ·exact z145
   refine bq [1,2,71] ?_;refine aq ?_ ?_<;>intro aZ cr
   ·refine af [4] ?_;refine eJ ?_;exact GW
   refine CD.skip ?_;refine⟨_,aK,w4,w4,w4,w4,(Vn aP),(fun h=>absurd rC (by rw[h];decide)),(fun _=>⟨by omega,by omega⟩),rfl⟩
  exact absurd uo (by rw[rC];decide)
 rintro _ ⟨f1,f2,f3,f4,f5,f6,f7,rfl⟩;refine af [1,2,73,74,75] ?_;refine eA [1,2,73,74] (fun aX I (i:Nat) aG=>(i≤p.keys.length)∧(∀j,j<i→vh p j)∧aG=(⟨132,(75,ae (i:Nat))::aX,I⟩:St)) (fun (i:Nat)=>p.keys.length-i) 0 ⟨(Nat.zero_le _),(fun j h=>by omega),rfl⟩ ?_;rintro i _ ⟨hi,uC,rfl⟩;refine af [1,2,73,74,75,76] ?_;refine aq ?_ ?_<;>intro bX cA
 ·have aa:i<p.keys.length:=(by omega)
  refine af [1,2,5,6,73,74,75] ?_;refine aB 1 ?_;refine dP call132 (zi p.keys[i]) ?_;refine aF 2 ?_;refine bP 83 (fun xo aib=>?_) (fun xo aib=>?_)
  ·refine an 132 [1,2,73,74,75,110] ?_;refine eD ?_;exact z40
  refine aF 3 ?_;refine bP 86 (fun akD aic=>?_) (fun akD aic=>?_)
  ·refine aF 4 ?_;refine bN (dw 1 (h:=by first|exact .l (j:=i-1) w4 w4|exact .r (j:=i-1) w4 w4)) ?_;refine aF 2 ?_;refine OD.gZ iq rfl rfl rfl call51 (wJ (p.keys[i-1]'w4) p.keys[i]) ⟨ot,ot,trivial⟩ ?_;refine aF 4 ?_;refine bP 98 (fun zG F0=>?_) (fun zG F0=>?_)
   ·refine an 132 [1,2,73,74,75,110] ?_;refine eD ?_;exact z40
   refine aF 5 ?_;exact Xc
  refine x5 9 ?_;refine aF 8 ?_;exact Xc
 have aid:∀j,j<p.keys.length→vh p j:=fun j hj=>uC j w4;refine af [1,2,113,114,115] ?_;refine eA [1,2,113,114] (fun aX I (i:Nat) aG=>(i≤p.kids.length)∧(∀j (_:j<i) (hj:j<p.kids.length),0≤p.kids[j]∧(p.leaf=false→p.kids[j]<many))∧aG=(⟨132,(115,ae (i:Nat))::aX,I⟩:St)) (fun (i:Nat)=>p.kids.length-i) 0 ⟨(Nat.zero_le _),(fun j h=>by omega),rfl⟩ ?_;rintro i _ ⟨kj,j5,rfl⟩;refine af [1,2,113,114,115,116] ?_;refine aq ?_ ?_<;>intro ec fh
 ·have aa:i<p.kids.length:=(by omega)
  refine af [1,2,8,113,114,115] ?_;refine aB 3 ?_;refine bP 121 (fun KQ O=>?_) (fun KQ O=>?_)
  ·refine bq [1,2,113,114,115,130] ?_;refine eD ?_;exact z70
  refine aF 4 ?_;refine bP 125 (fun FM U=>?_) (fun FM U=>?_)
  ·refine bq [1,2,113,114,115,130] ?_;refine aq ?_ ?_<;>intro fj gA
   ·exact z70
   exact Xx
  refine bq [1,2,113,114,115,130] ?_;refine fJ ?_;exact Xx
 refine af [4] ?_;refine aI [] ?_;refine⟨vb (abu (adg f1 f2 f3 f4 f5 f6 f7 aid fun j hj=>j5 j w4 hj)),rfl⟩

def nx(keys:List K)(k:K):Bool:=decide (keys[gm keys k]?=some k)
theorem adi{keys:List K}(hi:i≤keys.length)(h1:∀m (hm:m<keys.length),m<i→bA keys[m] k)(h2:∀m (hm:m<keys.length),i≤m→¬bA keys[m] k):gm keys k=i:=by
 have E:=yR keys k;rcases Nat.lt_trichotomy (gm keys k) i with h|h|h
 ·have aa:gm keys k<keys.length:=(by omega)
  exact absurd (h1 _ aa h) (A3 aa)
 ·exact h
 obtain⟨h',q⟩:=Be h;exact absurd q (h2 _ h' (Nat.le_refl _))
theorem abv{keys:List K}(hr:keys.Pairwise bA)(k:K):mO keys k=if nx keys k=true then gm keys k+1 else gm keys k:=by
 have E:=yR keys k;split
 ·rename_i hf;unfold nx at hf;have hf:=of_decide_eq_true hf;obtain⟨aa,he⟩:=List.getElem?_eq_some_iff.1 hf;refine JZ hr w4 (fun _=>?_) (fun h=>?_)
  ·show ¬bA k (keys[gm keys k+1-1]'w4);simp only[Nat.add_sub_cancel,he];exact jK k
  have:=nv hr (Nat.lt_succ_self (gm keys k)) h;rw[he] at this;exact this
 rename_i hf;refine JZ hr E (fun h0=>?_) (fun h=>?_)
 ·exact zf (Be (by omega:gm keys k-1<gm keys k)).2
 have h1:=A3 h;rcases zg keys[gm keys k] k with h2|h2|h2
 ·exact absurd h2 h1
 ·exfalso;apply hf;unfold nx;rw[getElem?_eq_getElem h,h2];simp
 exact h2
theorem BO{a:Nat}:((a:Nat):Int).fdiv (2 ^ min (1:Int).toNat IntKind.u64.bits)=((a/2:Nat):Int):=by
 rw[show min (1:Int).toNat IntKind.u64.bits=1 from rfl,Int.fdiv_eq_ediv_of_nonneg _ w8];rfl
theorem UJ{keys:List K}(hd:gm keys k=i)(hi:i<keys.length):(D.di [ae (i:Nat),bJ (compareBytes keys[i] k==0)]) = .di [ae (gm keys k:Nat),bJ (nx keys k)]∧([]:List ah)=[]:=by
 subst hd;refine⟨?_,rfl⟩;have:(compareBytes keys[gm keys k] k==0)=nx keys k:=by
  unfold nx;rw[getElem?_eq_getElem hi];by_cases h:keys[gm keys k]=k
  ·have:=uj.2 h;rw[this];simp[h]
  have:¬compareBytes keys[gm keys k] k=0:=fun e=>h (uj.1 e);simp[h,this]
 rw[this]
theorem TH{keys:List K}(hd:gm keys k=i)(hi:keys.length≤i):(D.di [ae (i:Nat),bJ false]) = .di [ae (gm keys k:Nat),bJ (nx keys k)]∧([]:List ah)=[]:=by
 subst hd;refine⟨?_,rfl⟩;have:nx keys k=false:=(by unfold nx;rw[getElem?_eq_none hi];rfl)
 rw[this]
theorem abw(keys:List K)(k:K)(hr:keys.Pairwise bA)(hl:keys.length≤1000):VP Tryz.prog G 145 [av 1 cK keys,av 1 cB k,.ew (.func 51) []] (.di [ae (gm keys k:Nat),bJ (nx keys k)]):=by
 refine VC.body func145 rfl ntmps145 aO fun X0 w0 bg=>?_;have c8:=dR;refine af [0,1,2] ?_;refine af [0,1,2,8] ?_;refine af [0,1,2,8,9,10] ?_;refine eA [0,1,2,8] (fun aX _ (I:Nat×Nat) aG=>match I with|(i,j)=>(i≤j)∧(j≤keys.length)∧(∀m (hm:m<keys.length),m<i→bA keys[m] k)∧(∀m (hm:m<keys.length),j≤m→¬bA keys[m] k)∧aG=(⟨49,(9,ae (i:Nat))::(10,ae (j:Nat))::aX,[]⟩:St)) (fun (I:Nat×Nat)=>match I with|(i,j)=>j-i) (0,keys.length) ⟨(Nat.zero_le _),(Nat.le_refl _),(fun m hm h=>by omega),(fun m hm h=>by omega),rfl⟩ ?_;rintro⟨i,j⟩ _ ⟨YI,hjn,h1,h2,rfl⟩;refine af [0,1,2,8,9,10,17] ?_;refine aq ?_ ?_<;>intro aP bC
 ·have aa:i<j:=(by omega)
  have E:((i+j)/2)<keys.length:=(by omega)
  refine cL [0,1,2,8,9,10,11] ?_;refine aS 2 ?_ (h:=by exact(dz rfl ot ot (kr (r:=((i+j:Nat):Int)) Ab)));refine aS 0 ?_ (h:=by exact(oX rfl ot (oY (r:=((i+j:Nat):Int)) runUnderlying3 runUnderlying231 (IntWalk.u64_in _ w4))));refine aS 0 ?_ (h:=by exact(dz rfl ot bV (y6 w8 BO)));refine aS 0 ?_ (h:=by exact(oX rfl ot (oY (r:=((((i+j)/2):Nat):Int)) runUnderlying231 runUnderlying3 (wrap_i64 w4 w4))));refine bI ?_;refine aB 6 ?_;refine OD.kx (f:=51) (args:=[_,_]) (all:=[_,_]) (Sf:=[]) ap rfl rfl ot call51 (wJ (keys[((i+j)/2)]'E) k) rfl ⟨ot,ot,trivial⟩ (eV _) ?_;rintro _ _ ⟨rfl,rfl⟩;refine an 49 [0,1,2,8,9,10,11,31] ?_;refine aq ?_ ?_<;>intro aZ cr
  ·have hc:bA (keys[((i+j)/2)]'E) k:=of_decide_eq_true aZ;have Z:∀m (hm:m<keys.length),m<((i+j)/2)+1→bA keys[m] k:=fun m hm h=>by (rcases Nat.lt_or_ge m ((i+j)/2) with q|q);exact lQ (nv hr q E) hc;(have:m=((i+j)/2):=by omega);subst this;exact hc
   refine cc [0,1,2,8,9,10] ?_;refine⟨((((i+j)/2)+1),j),_,cq,aK,w4,w4,(fun m hm h=>by rcases Nat.lt_or_ge m i with q|q;exact h1 m hm q;exact Z m hm w4),h2,rfl⟩
  have hc:¬bA (keys[((i+j)/2)]'E) k:=of_decide_eq_false aZ;have O:∀m (hm:m<keys.length),((i+j)/2)≤m→¬bA keys[m] k:=fun m hm h hh=>by (rcases Nat.lt_or_ge ((i+j)/2) m with q|q);exact hc (lQ (nv hr q hm) hh);(have:m=((i+j)/2):=by omega);subst this;exact hc hh
  refine cc [0,1,2,8,9,10] ?_;refine⟨(i,((i+j)/2)),_,cq,aK,w4,w4,h1,O,rfl⟩
 obtain rfl:i=j:=(by omega)
 have hd:=adi hjn h1 h2;refine aB 5 ?_;refine bP 39 (fun akE U=>?_) (fun akE U=>?_)
 ·refine aF 6 ?_;refine OD.kx (f:=51) (args:=[_,_]) (all:=[_,_]) (Sf:=[]) iq rfl rfl ot call51 (wJ (keys[i]'w4) k) rfl ⟨ot,ot,trivial⟩ (eV _) ?_;rintro _ _ ⟨rfl,rfl⟩;refine an 49 [6,7] ?_;refine aI [] ?_;first|exact UJ hd w4|exact TH hd w4
 refine bq [6,7] ?_;refine M3 ?_;first|exact UJ hd w4|exact TH hd w4
theorem Ji(p:cW)(k:K)(hr:p.keys.Pairwise bA)(hl:p.keys.length≤1000):VP Tryz.prog G 123 [.agg (cP p),av 1 cB k] (ae (aL p k:Nat)):=by
 refine VC.body func123 rfl ntmps123 aO fun X0 w0 bg=>?_;unfold cP;have c8:=dR;have I:=yR p.keys k;have XM:=abv hr k;refine bU ?_;refine OD.box (ds:=[_,_,_,_,_]) ap rfl rfl ot rfl rfl (fun b2=>?_);refine an 23 [1,2] ?_;refine cz [2,5,6] (abw p.keys k hr hl) ?_;refine aB 2 ?_;refine bP 15 (fun B5 E=>?_) (fun B5 E=>?_)
 ·refine bq [5,19] ?_;refine aq ?_ ?_<;>intro aP bC
  ·refine cc [5] ?_;exact XL
  exact XL
 refine bq [5,19] ?_;refine fJ ?_;refine af [4] ?_;refine eJ ?_;refine⟨vi ?_,rfl⟩;unfold aL;first|(rw[B5] at XM;cases fI:p.leaf<;>simp_all;done)|(simp_all;done)|(simp_all;omega)

theorem abx{d:Nat}{i:Int}{lo:K}(ok:dO t d i lo hi)(h:(t.pg i).leaf=true):d=0:=by
 cases d with
 | zero=>rfl
 | succ d=>obtain⟨_,q2,_⟩:=ok;rw[q2] at h;cases h
theorem aby{d:Nat}{i:Int}{lo:K}(ok:dO t d i lo hi)(h:(t.pg i).leaf=false):∃d',d=d'+1:=by
 cases d with
 | zero=>obtain⟨_,q2,_⟩:=ok;rw[q2] at h;cases h
 | succ d=>exact⟨d,rfl⟩
theorem abz:(Tryz.prog.info? 3).map (fun i=>(i.zero,i.size,i.bytes))=some (some (.int .i64 0),1,8):=by kernel_rfl
theorem TI(t:aD)(h:Nat)(v:Valid t h)(k:K):VC Tryz.prog G 122 [.agg (cT t),av 1 cB k] [] (gh cI 3 1 (iX t k h t.root)):=by
 refine VC.body func122 rfl ntmps122 aO fun X0 w0 bg=>?_;unfold cT;have c8:=dR;have hval:=v;have er:=v.high;have NX:=v.nY;refine bU ?_;refine OD.box (ds:=[_,_]) ap rfl rfl ot rfl rfl (fun b2=>?_);refine an 45 [1,2] ?_;refine aB 2 ?_;refine en (cf 0 [_]) [.int .i64 0] [_] zeroValue3 runUnderlying67 sizeOf3 (fun j8=>?_);refine OD.perm (dV (S1:=[⟨j8,3,1*1,flatMap cI ([t.root])⟩]) (A:=[_])) ?_;refine an 45 [1,2,5] ?_;refine CD.block ?_;refine nl (fun (U:Nat×Int×K×K×List Int×Option Addr×Nat×List ah) aG=>match U with|(d,i,lo,hi,pre,HC,O,Sl)=>(dO t d i lo hi)∧(lI lo hi k)∧(pre++iX t k d i=iX t k h t.root)∧(pre.length+d≤h)∧(bp 3 1 (((pre++[i])).flatMap cI) ((pre++[i])).length HC O Sl)∧aG=(⟨45,[(1,av 1 cB k),(2,cQ b2),(5,aN HC ((pre++[i])).length O)],(⟨b2,51,2,[av 5 cP t.ag,ae t.root]⟩::Sl)⟩:St)) (fun (U:Nat×Int×K×K×List Int×Option Addr×Nat×List ah)=>match U with|(d,i,lo,hi,pre,HC,O,Sl)=>d) (h,t.root,[],[],[],(some ⟨j8,0,none⟩),1,[⟨j8,3,1*1,flatMap cI ([t.root])⟩]) ⟨v.ok,(tY k),(nil_append _),bn,(bp.cast (bM (g:=cI) (sz:=1) (e:=3) (ls:=[t.root]) (Nat.le_refl _) (show 1≤maxLen by decide)) jS),rfl⟩ (aK (h:=by repeat (first|exact trivial|refine⟨(by (repeat (first|exact fu|(apply fT;focus (first|rfl|(simp;done)|(congr 2;omega)|(apply eG;rw[Z])|(apply eG;simp;done)))|(apply fC;focus rfl)));done),?_⟩))) ?_
 rintro⟨d,i,lo,hi,pre,HC,O,Sl⟩ _ ⟨ok,ko,Vo,fK,NJ,rfl⟩;obtain⟨bl,rfl,Ck,BQ,rfl⟩:=NJ.pos bn;have q1:=ok.idx;have aa:i.toNat<t.ag.length:=(by omega)
 have E:t.pg i=(t.ag[i.toNat]'aa):=vn q1;have po:=v.fy _ (jw q1);have BR:=ok.high;rw[E] at po BR;refine cL [1,2,5,6] ?_;refine aS 4 ?_ (h:=by exact(dw 1 (h:=by first|exact .l (j:=pre.length) bn bn|exact .r (j:=pre.length) bn bn)));refine aS 0 ?_ (h:=by exact(cR (mk:=Op.load 3) rfl ot (iT (k:=1) (d:=ae i) (i:=pre.length) ez rfl rfl rfl isAgg3 bn (by simp[cI]))));refine bI ?_;refine aB 3 ?_;refine bN (dw 5 (h:=by first|exact .l (j:=i.toNat) (Int.toNat_of_nonneg q1.1).symm aa|exact .r (j:=i.toNat) (Int.toNat_of_nonneg q1.1).symm aa)) ?_;refine aF 1 ?_;refine OD.alloc (ds:=[_,_,_,_,_]) ap rfl rfl zeroValue153 rfl (fun b7=>?_);refine aR 0 [_,_,_,_,_] sizeOf153 ?_;refine an 45 [1,2,5,7] ?_;refine cz [1,2,5,7,24] (abt (t.ag[i.toNat]'aa) k) ?_;refine aq ?_ ?_<;>intro aP bC
 ·exact absurd aP (by intro e;have e:=of_decide_eq_true e;rw[BR] at e;exact e.2 (ko.2 e.1))
 refine af [1,2,5,7,33] ?_;refine aq ?_ ?_<;>intro aZ cr
 ·obtain rfl:=abx ok (by rw[E];exact aZ);have aW:pre++[i]=iX t k h t.root:=(by rw[←Vo];rfl)
  refine af [4] ?_;refine aI [⟨bl,3,O*1,flatMap cI (pre++[i])⟩] ?_;rw[←aW];exact⟨_,_,rfl,(bM (g:=cI) (ls:=pre++[i]) Ck BQ)⟩
 obtain⟨dd,rfl⟩:=aby ok (by rw[E];exact aZ);have ok0:=ok;obtain⟨_,fI,hh,ajK,qM⟩:=ok0;obtain⟨d1,d2⟩:=down (p:=t.pg i) (by rw[E];exact po) fI hh ko;have jN:=qM _ d1;rw[←tO d1] at jN;have L4:=d2;have agG:pre++[i]++iX t k dd ((t.pg i).kids.getD (aL (t.pg i) k) 0)=iX t k h t.root:=(by rw[←Vo,append_assoc];rfl)
 have qT:=Ji (G:=G) (t.pg i) k (by rw[E];exact po.jQ) (by rw[E];have:=po.eE;omega);have I:aL (t.ag[i.toNat]'aa) k<(t.ag[i.toNat]'aa).kids.length:=(by rw[←E];exact d1)
 have akF:VP Tryz.prog G 123 [.agg (cP (t.ag[i.toNat]'aa)),av 1 cB k] (ae (aL (t.ag[i.toNat]'aa) k:Nat)):=(by rw[←E];exact qT)
 have Z:(t.pg i).kids.getD (aL (t.pg i) k) 0=(t.ag[i.toNat]'aa).kids[aL (t.ag[i.toNat]'aa) k]'I:=(by rw[E];exact tO I)
 refine CD.skip ?_;refine gJ 10 (au (take 2 _)) ?_ (fun _ h=>(Sublist.map _ (take_sublist _ _)).subset h);refine aC 0 rfl bF ?_;refine aC 1 rfl (dF 2) ?_;refine aC 2 rfl (dI 0) ?_;refine aC 3 rfl (Lj 0 [_,_,_,_,_]) ?_;refine aC 4 rfl bF ?_;refine dH.later rfl ?_;refine AD.one (i:=5) az ?_;refine lj call123 (akF) ?_;refine cy 6 rfl (dw 1 (h:=by first|exact .l (j:=aL (t.ag[i.toNat]'aa) k) rfl I|exact .r (j:=aL (t.ag[i.toNat]'aa) k) rfl I)) ?_;refine AD.one (i:=7) az ?_;refine at_ rfl eN ?_;refine AD.one (i:=8) az ?_;refine j3 (cf 0 [_]) [.int .i64 0] [_] zeroValue3 runUnderlying67 sizeOf3 (fun Yz=>?_);refine j4 0 43 1 1 ?_;refine AD.one (i:=9) az ?_;refine bz.ey (ls:=(pre++[i])) (new:=[(t.ag[i.toNat]'aa).kids[aL (t.ag[i.toNat]'aa) k]'I]) (Sq:=[⟨bl,3,O*1,flatMap cI (pre++[i])⟩]) ez nR rfl ap rfl rfl underlying67 abz rfl w8 ot (bM (g:=cI) (ls:=pre++[i]) Ck BQ) (cZ (A:=[_,_])) ot bn vK ij (fun NY L5 akG akH=>?_);refine AD.perm (dV (S1:=[⟨NY,3,L5*1,flatMap cI ((pre++[i])++[(t.ag[i.toNat]'aa).kids[aL (t.ag[i.toNat]'aa) k]'I])⟩]) (A:=[_,_])) ?_;refine e9 ?_;refine bq [1,2,5] ?_
 refine⟨(dd,((t.pg i).kids.getD (aL (t.pg i) k) 0),(iv lo (t.pg i) (aL (t.pg i) k)),(gM (t.pg i) (aL (t.pg i) k)),(pre++[i]),(some ⟨NY,0,none⟩),L5,[⟨NY,3,L5*1,flatMap cI ((pre++[i])++[(t.ag[i.toNat]'aa).kids[aL (t.ag[i.toNat]'aa) k]'I])⟩]),_,cq,(aK (h:=by repeat (first|exact trivial|refine⟨(by (repeat (first|exact fu|(apply fT;focus (first|rfl|(simp;done)|(congr 2;omega)|(apply eG;rw[Z])|(apply eG;simp;done)))|(apply fC;focus rfl)));done),?_⟩))),jN,L4,agG,ij,(bp.cast (bM akG akH) (by rw[Z])),rfl⟩
theorem ae5(t:aD)(h:Nat)(v:Valid t h)(k:K):VP Tryz.prog G 122 [.agg (cT t),av 1 cB k] (.list 1 ((iX t k h t.root).flatMap cI) (iX t k h t.root).length):=(TI t h v k).wV ez

def iA(t:aD)(k:K)(h:Nat):Bool:=nx (t.pg (aH t k h t.root)).keys k
theorem Eb{h:Nat}(v:Valid t h)(k:K):iA t k h=true↔BE t k h:=by
 unfold iA nx BE;have hl:=(v.leaf k).2;have fK:aL (t.pg (aH t k h t.root)) k=gm (t.pg (aH t k h t.root)).keys k:=(by unfold aL;rw[if_pos hl])
 rw[fK,decide_eq_true_iff,List.getElem?_eq_some_iff]
theorem TJ(hl:p.leaf=true)(ha:aL p k<p.keys.length):decide (p.keys[aL p k]=k)=nx p.keys k:=by
 unfold nx;have fK:aL p k=gm p.keys k:=(by unfold aL;rw[if_pos hl])
 simp only[fK] at ha ⊢;rw[getElem?_eq_getElem ha];simp
theorem TK(hl:p.leaf=true)(ha:¬aL p k<p.keys.length):false=nx p.keys k:=by
 unfold nx;have fK:aL p k=gm p.keys k:=(by unfold aL;rw[if_pos hl])
 rw[fK] at ha;rw[getElem?_eq_none w4];rfl
theorem ae6{h:Nat}{i:Int}:∃(hn:(iX t k h i).length-1<(iX t k h i).length),(iX t k h i)[(iX t k h i).length-1]=aH t k h i:=by
 have h1:=P4 t k h i;rw[getLast?_eq_getElem?] at h1;exact List.getElem?_eq_some_iff.1 h1
theorem RJ(hp:eC p n)(k:K):aL p k≤p.keys.length:=by
 unfold aL;split
 ·exact yR _ _
 exact Bf _ _
theorem EO(t:aD)(k:K):∀(h:Nat) (i:Int),(iX t k h i).length=h+1
 | 0,i=>rfl
 | h+1,i=>by rw[iX,length_cons,EO t k h]
theorem qA(t:aD)(h:Nat)(v:Valid t h)(k:K)(dU:k.length≤maxLen)(U:(iX t k h t.root).length≤1000000):VP Tryz.prog G 94 [.agg (cT t),av 1 cB k] (.di [ae (aH t k h t.root),ae (aL (t.pg (aH t k h t.root)) k:Nat),bJ (iA t k h)]):=by
 refine VC.body func94 rfl ntmps94 aO fun X0 w0 bg=>?_;unfold cT;have c8:=dR;have qT:=ae5 (G:=G) t h v k;unfold cT at qT;obtain⟨gd,Z⟩:=ae6 (t:=t) (k:=k) (h:=h) (i:=t.root);obtain⟨q1,K3⟩:=v.leaf k;have aa:(aH t k h t.root).toNat<t.ag.length:=(by omega)
 have I:t.pg (aH t k h t.root)=(t.ag[(aH t k h t.root).toNat]'aa):=vn q1;have po:=v.fy _ (jw q1);have NX:=v.nY;have Wu:(iX t k h t.root).length≤1000000:=U;have akI:=Ji (G:=G) (t.pg (aH t k h t.root)) k po.jQ (by have:=po.eE;omega);have akJ:VP Tryz.prog G 123 [.agg (cP (t.ag[(aH t k h t.root).toNat]'aa)),av 1 cB k] (ae (aL (t.ag[(aH t k h t.root).toNat]'aa) k:Nat)):=(by rw[←I];exact akI)
 have akK:∀x∈(t.ag[(aH t k h t.root).toNat]'aa).keys,x.length≤maxLen:=fun x hx=>by rw[←I] at hx;have:=(po.lC x hx).2;omega
 have E:(t.ag[(aH t k h t.root).toNat]'aa).leaf=true:=(by rw[←I];exact K3)
 have O:iA t k h=nx (t.ag[(aH t k h t.root).toNat]'aa).keys k:=(by unfold iA;rw[I])
 have mU:=po.eE;have akL:=(RJ po k)
 rw[I] at mU akL;refine bU ?_;refine OD.box (ds:=[_,_]) ap rfl rfl ot rfl rfl (fun b2=>?_);refine an 42 [1,2] ?_;refine cz [1,2,7] (qT) ?_;refine cL [1,2,4] ?_;refine aS 4 ?_ (h:=by exact(dw 1 (h:=by first|exact .l (j:=(iX t k h t.root).length-1) w4 gd|exact .r (j:=(iX t k h t.root).length-1) w4 gd)));refine aS 0 ?_ (h:=by exact(cR (mk:=Op.load 3) rfl ot (qB (d:=ae (aH t k h t.root)) (i:=(iX t k h t.root).length-1) ez isAgg3 gd (by rw[Z];rfl))));refine bI ?_;refine aB 5 ?_;refine OD.alloc (ds:=[_,_,_,_,_]) ap rfl rfl zeroValue153 rfl (fun b8=>?_);refine aR 0 [_,_,_,_,_] sizeOf153 ?_;refine an 42 [1,4,8] ?_;refine cz [1,4,5,8] (akJ) ?_;refine aB 8 ?_;refine bP 33 (fun akM aie=>?_) (fun akM aie=>?_)
 ·refine aF 6 ?_;refine OD.gZ iq rfl rfl rfl call133 (Vm ((t.ag[(aH t k h t.root).toNat]'aa).keys[aL (t.ag[(aH t k h t.root).toNat]'aa) k]'w4) k (akK _ (getElem_mem _)) dU) ⟨ot,ot,trivial⟩ ?_;refine an 42 [4,5,6] ?_;refine aI [] ?_;rw[O,I];first|exact⟨by rw[TJ E w4],rfl⟩|exact⟨by rw[←TK E w4],rfl⟩
 refine bq [4,5,6] ?_;refine aI [] ?_;rw[O,I];first|exact⟨by rw[TJ E w4],rfl⟩|exact⟨by rw[←TK E w4],rfl⟩

end Go.Proofs.YtdgichenhdikgaaGreatDoor.Tw
namespace Go.Proofs.YtdgichenhdikgaaGreatDoor.Tw
open List
open Go.Proofs.Tryz
open Go.RowKit V Tr Pk
abbrev mV(ls:List Int)(ad:Option Addr)(cap:Nat)(S:List ah):Prop:=bp 3 1 (ls.flatMap cI) ls.length ad cap S
abbrev nT(ls:List K)(ad:Option Addr)(cap:Nat)(S:List ah):Prop:=bp 88 1 (ls.flatMap cK) ls.length ad cap S
variable {G:List (Nat×List Value)}
theorem abA:(Tryz.prog.info? 5).map (fun i=>(i.zero,i.size,i.bytes))=some (some (.int .u8 0),1,1):=by kernel_rfl
theorem mj(a:List UInt8)(ha:a.length≤1000000):VP Tryz.prog G 95 [av 1 cB a] (av 1 cB a):=by
 refine VC.body func95 rfl ntmps95 aO fun X0 w0 bg=>?_;have c8:=dR;refine af [0] ?_;refine aB 1 ?_;refine OD.zu ap rfl rfl ot bV underlying88 (fun O xY=>?_);refine an 8 [0,4] ?_;refine aq ?_ ?_<;>intro aP bC
 ·exact z91
 refine bU ?_;refine OD.zv ap rfl rfl runUnderlying88 sizeOf5 (fun b5=>?_);refine aF 1 ?_;refine OD.pJ (ls:=([]:List UInt8)) (new:=a) (Sq:=[⟨b5,5,0*1,[]⟩]) pO wM ap rfl rfl underlying88 abA rfl w8 runUnderlying88 sizeOf5 ot (.inr ⟨b5,rfl,Nat.le_refl _,Nat.zero_le _,rfl⟩) (cZ (A:=[])) ot ij ij (fun E I S7 qe=>?_);exact z139
theorem abB:(Tryz.prog.info? 3).map (fun i=>(i.zero,i.size,i.bytes))=some (some (.int .i64 0),1,8):=by kernel_rfl
theorem q9(a:List Int)(ha:a.length≤1000000):VC Tryz.prog G 120 [av 1 cI a] [] (fun r S=>∃ad cap,r=aN ad a.length cap∧mV a ad cap S):=by
 refine VC.body func120 rfl ntmps120 aO fun X0 w0 bg=>?_;have c8:=dR;refine af [0] ?_;refine aB 1 ?_;refine OD.zu ap rfl rfl ot bV underlying67 (fun O xY=>?_);refine an 8 [0,4] ?_;refine aq ?_ ?_<;>intro aP bC
 ·exact G5
 refine bU ?_;refine OD.zv ap rfl rfl runUnderlying67 sizeOf3 (fun b5=>?_);refine aF 1 ?_;refine OD.pJ (ls:=([]:List Int)) (new:=a) (Sq:=[⟨b5,3,0*1,[]⟩]) ez nR ap rfl rfl underlying67 abB rfl w8 runUnderlying67 sizeOf3 ot (.inr ⟨b5,rfl,Nat.le_refl _,Nat.zero_le _,rfl⟩) (cZ (A:=[])) ot ij ij (fun E I S7 qe=>?_);exact G7
theorem aaj:(Tryz.prog.info? 88).map (fun i=>(i.zero,i.size,i.bytes))=some (some (.slice none 0 0),1,24):=by kernel_rfl
theorem wm(a:List K)(ha:a.length≤1000000):VC Tryz.prog G 150 [av 1 cK a] [] (fun r S=>∃ad cap,r=aN ad a.length cap∧nT a ad cap S):=by
 refine VC.body func150 rfl ntmps150 aO fun X0 w0 bg=>?_;have c8:=dR;refine af [0] ?_;refine aB 1 ?_;refine OD.zu ap rfl rfl ot bV underlying151 (fun O xY=>?_);refine an 8 [0,4] ?_;refine aq ?_ ?_<;>intro aP bC
 ·exact G5
 refine bU ?_;refine OD.zv ap rfl rfl runUnderlying151 sizeOf88 (fun b5=>?_);refine aF 1 ?_;refine OD.pJ (ls:=([]:List K)) (new:=a) (Sq:=[⟨b5,88,0*1,[]⟩]) gb pP ap rfl rfl underlying151 aaj rfl w8 runUnderlying151 sizeOf88 ot (.inr ⟨b5,rfl,Nat.le_refl _,Nat.zero_le _,rfl⟩) (cZ (A:=[])) ot ij ij (fun E I S7 qe=>?_);exact G7

structure aY where
 p:cW
 ak:Option Addr
 ck:Nat
 sk:List ah
 ai:Option Addr
 ci:Nat
 si:List ah
def gO(o:aY):List D:=[bJ o.p.leaf,aN o.ak o.p.keys.length o.ck,aN o.ai o.p.kids.length o.ci,av 1 cB o.p.high,ae o.p.next]
theorem gN(o:aY):(gO o).length=5:=rfl
theorem Fm(o:aY):(gO o).all V.one=true:=rfl
def bO(o:aY):List ah:=o.sk++o.si
def qY(o:aY):Prop:=nT o.p.keys o.ak o.ck o.sk∧mV o.p.kids o.ai o.ci o.si
theorem TL{S:List ah}:∀{L:List aY},(∀o∈L,qY o)→(∀B∈L.flatMap bO,B∈S)→gw S (L.flatMap gO) ((L.map aY.p).flatMap cP)
 | [],_,_=>trivial
 | o::L,h,hs=>by
  rw[map_cons,flatMap_cons,flatMap_cons];obtain⟨h1,h2⟩:=h o mem_cons_self;refine gw.append ⟨eM,lK h1 (cn gb _) (fun B E=>hs B ?_),lK h2 (cn ez _) (fun B E=>hs B ?_),eM,eM,trivial⟩ (TL (fun o ho=>h o (mem_cons_of_mem _ ho)) fun B E=>hs B ?_)
  ·rw[flatMap_cons];exact mem_append_left _ (mem_append_left _ E)
  ·rw[flatMap_cons];exact mem_append_left _ (mem_append_right _ E)
  rw[flatMap_cons];exact mem_append_right _ E
abbrev ur(L:List aY)(ad:Option Addr)(cap:Nat)(S:List ah):Prop:=bp 153 5 (L.flatMap gO) L.length ad cap S
theorem KB{S Sx:List ah}{L:List aY}{ad:Option Addr}{cap:Nat}{root:Int}(ho:ur L ad cap Sx)(h:∀o∈L,qY o)(hs:∀B∈Sx++L.flatMap bO,B∈S) :
  View S (.agg [aN ad L.length cap,ae root]) (.agg (cT ⟨L.map aY.p,root⟩)):=by
 refine uY ⟨?_,eM,trivial⟩;have:=AX ho (TL h fun B E=>hs B (mem_append_right _ E)) (cn FB _ |>.trans bn) (fun B E=>hs B (mem_append_left _ E));first|rw[length_map]|(show View _ _ (.list _ _ (length _));rw[length_map])|(show View _ _ (.agg [.list _ _ (length _)]);rw[length_map])
 exact this
def Gt(t:aD)(r:D)(S:List ah):Prop:=∃L ad cap Sx,r = .agg [aN ad (length L) cap,ae t.root]∧ur L ad cap Sx∧(∀o∈L,qY o)∧L.map aY.p=t.ag∧S=Sx++L.flatMap bO
theorem SD(L:List aY)(o:aY):(L++[o]).flatMap bO=L.flatMap bO++bO o:=by simp
theorem pI{α:Type}{l:List α}{j:Nat}(h:j<l.length):take j l++[l[j]]=take (j+1) l:=(take_succ_eq_append_getElem h).symm
theorem aak:(Tryz.prog.info? 88).map (fun i=>(i.zero,i.size,i.bytes))=some (some (.slice none 0 0),1,24):=by kernel_rfl
theorem ZB:(Tryz.prog.info? 153).map (fun i=>(i.zero,i.size,i.bytes))=some (some (.agg #[.bool false,.slice none 0 0,.slice none 0 0,.slice none 0 0,.int .i64 0]),5,88):=by kernel_rfl
theorem Ox : ∀ w, ((#[{ name := "Leaf", type := 4, offset := 0, embedded := false, tag := "", pkgPath := "", byteOffset := 0 }, { name := "Keys", type := 151, offset := 1, embedded := false, tag := "", pkgPath := "", byteOffset := 8 }, { name := "Kids", type := 67, offset := 2, embedded := false, tag := "", pkgPath := "", byteOffset := 32 }, { name := "High", type := 88, offset := 3, embedded := false, tag := "", pkgPath := "", byteOffset := 56 }, { name := "Next", type := 3, offset := 4, embedded := false, tag := "", pkgPath := "", byteOffset := 80 }] : Array Field).mapM fun f => do pure (f.offset, ← sizeOf f.type) : Sem (Array (Nat × Nat))).run Tryz.prog w = .ok #[(0, 1), (1, 1), (2, 1), (3, 1), (4, 1)] w := fun w => by simp [sizeOf151, sizeOf3, sizeOf4, sizeOf67, sizeOf88]
theorem FC(t:aD)(h:Nat)(v:Valid t h):VC Tryz.prog G 121 [.agg (cT t)] [] (Gt t):=by
 refine VC.body func121 rfl ntmps121 aO fun X0 w0 bg=>?_;unfold cT;have c8:=dR;have hval:=v;have NX:=v.nY;refine bU ?_;refine OD.box (ds:=[_,_]) ap rfl rfl ot rfl rfl (fun b1=>?_);refine OD.alloc (ds:=[_,_]) ap rfl rfl zeroValue51 rfl (fun b2=>?_);refine an 51 [1,2] ?_;refine aB 3 ?_;refine OD.alloc (ds:=[_,_]) ap rfl rfl zeroValue51 rfl (fun b3=>?_);refine aR 0 [_,_] sizeOf51 ?_;refine an 51 [1,2,3] ?_;refine af [2,3,13,14,15] ?_;refine eA [2,3,13,14] (fun aX _ (E:Nat×List aY×Option Addr×Nat×List ah) aG=>match E with|(i,L,c9,cM,Sx)=>(i≤t.ag.length)∧(L.map aY.p=t.ag.take i)∧(∀o∈L,qY o)∧(ur L c9 cM Sx)∧aG=(⟨51,(15,ae (i:Nat))::aX,(⟨b3,51,2,[aN c9 L.length cM,ae t.root]⟩::⟨b2,51,2,[bH,ae 0]⟩::(Sx++L.flatMap bO))⟩:St)) (fun (E:Nat×List aY×Option Addr×Nat×List ah)=>match E with|(i,L,c9,cM,Sx)=>t.ag.length-i) (0,([]:List aY),none,0,[]) ⟨(Nat.zero_le _),rfl,(fun o h=>by cases h),iy,rfl⟩ ?_;rintro⟨i,L,c9,cM,Sx⟩ _ ⟨hi,hL,aQ,dN,rfl⟩;refine af [2,3,13,14,15,16] ?_;refine aq ?_ ?_<;>intro aP bC
 ·have aa:i<t.ag.length:=(by omega)
  have po:=v.fy _ (getElem_mem aa);have rW:L.length=i:=(by have:=congrArg length hL;rw[length_map,length_take] at this;omega)
  have mU:=po.eE;have YJ:=po.hlen;have F1:(t.ag[i]'aa).kids.length≤5:=by
      exact XN
  refine aB 2 ?_;refine OD.alloc (ds:=[_,_,_,_,_]) ap rfl rfl zeroValue153 rfl (fun b5=>?_);refine aR 0 [_,_,_,_,_] sizeOf153 ?_;refine an 51 [2,3,5,13,14,15] ?_;refine bU ?_;refine bq [2,3,5,6,13,14,15] ?_;refine af [2,3,5,6,13,14,15,20,21,22] ?_;refine CD.block ?_;refine nl (fun (E:Nat×Option Addr×Nat×List ah) aG=>match E with|(j,iE,iF,Sy)=>(j≤(t.ag[i]'aa).keys.length)∧(nT (take j (t.ag[i]'aa).keys) iE iF Sy)∧aG=(⟨51,[(2,cQ b2),(3,cQ b3),(5,cQ b5),(6,aN iE (take j (t.ag[i]'aa).keys).length iF),(13,av 5 cP t.ag),(14,ae (t.ag.length:Nat)),(15,ae (i:Nat)),(20,.list 1 ((t.ag[i]'aa).keys.flatMap cK) (t.ag[i]'aa).keys.length),(21,ae ((t.ag[i]'aa).keys.length:Nat)),(22,ae (j:Nat))],(⟨b5,153,5,cP (t.ag[i]'aa)⟩::⟨b3,51,2,[aN c9 L.length cM,ae t.root]⟩::⟨b2,51,2,[bH,ae 0]⟩::(Sy++(Sx++L.flatMap bO)))⟩:St)) (fun (E:Nat×Option Addr×Nat×List ah)=>match E with|(j,iE,iF,Sy)=>(t.ag[i]'aa).keys.length-j) (0,none,0,[]) ⟨(Nat.zero_le _),iy,rfl⟩ (aK (h:=by repeat (first|exact trivial|refine⟨(by (repeat (first|exact fu|(apply fT;focus (first|rfl|(simp;done)|(congr 2;omega)|(apply eG;exact pI O)))|(apply fC;focus rfl)));done),?_⟩))) ?_;rintro⟨j,iE,iF,Sy⟩ _ ⟨hj,U,rfl⟩;refine af [2,3,5,6,13,14,15,20,21,22,23] ?_;refine aq ?_ ?_<;>intro aZ cr
  ·have O:j<(t.ag[i]'aa).keys.length:=(by omega)
   have L6:=(po.lC _ (getElem_mem O)).2;refine af [2,3,5,6,8,13,14,15,20,21,22] ?_;refine dK 2 ?_;refine dP call95 (mj (t.ag[i]'aa).keys[j] w4) ?_;refine en (cf 0 [_]) [.slice none 0 0] [_] zeroValue88 runUnderlying151 sizeOf88 (fun uO=>?_);refine fA 0 29 1 1 ?_;refine OD.ey (ls:=(take j (t.ag[i]'aa).keys)) (new:=[(t.ag[i]'aa).keys[j]]) (Sq:=Sy) gb pP ap rfl rfl underlying151 aak rfl w8 ot U (I2 (A:=[_,_,_])) ot bn vK ij (fun Z I LY LZ=>?_);refine OD.perm (QV (S1:=[⟨Z,88,I*1,flatMap cK ((take j (t.ag[i]'aa).keys)++[(t.ag[i]'aa).keys[j]])⟩]) (A:=[_,_,_])) ?_;refine an 51 [2,3,5,6,13,14,15,20,21,22] ?_;refine cc [2,3,5,6,13,14,15,20,21,22] ?_;refine⟨((j+1),(some ⟨Z,0,none⟩),I,[⟨Z,88,I*1,flatMap cK ((take j (t.ag[i]'aa).keys)++[(t.ag[i]'aa).keys[j]])⟩]),_,cq,(aK (h:=by repeat (first|exact trivial|refine⟨(by (repeat (first|exact fu|(apply fT;focus (first|rfl|(simp;done)|(congr 2;omega)|(apply eG;exact pI O)))|(apply fC;focus rfl)));done),?_⟩))),w4,(bp.cast (bM LY LZ) (pI O)),rfl⟩
  have hjt:take j (t.ag[i]'aa).keys=(t.ag[i]'aa).keys:=take_of_length_le w4;rw[hjt] at U ⊢;refine CD.exit ?_;refine gJ 16 (au (take 1 _)) ?_ (fun _ h=>(Sublist.map _ (take_sublist _ _)).subset h);refine aC 0 rfl (dF 0) ?_;refine aC 2 rfl (dF 0) ?_;refine aC 3 rfl (dI 0) ?_;refine aC 4 rfl bF ?_;refine aC 5 rfl (dF 2) ?_;refine aC 6 rfl (dI 0) ?_;refine aC 8 rfl (dF 3) ?_;refine aC 9 rfl (dI 0) ?_;refine aC 11 rfl (dF 4) ?_;refine aC 12 rfl (dI 0) ?_;refine dH.later rfl ?_;refine AD.two (i:=1) (j:=7) az ?_ ?_
  ·refine at_ rfl (dI 1) ?_;refine AD.one (i:=7) az ?_;refine bz.call rfl ap rfl rfl rfl call120 (q9 (t.ag[i]'aa).kids w4) ⟨ot,trivial⟩ (eV _) (fun b hb=>by simp[au,St.put] at hb ⊢;try simp[hb]) ?_;rintro _ Sz ⟨l5,l6,rfl,yq⟩;refine AD.perm (jX (A:=[_,_,_])) ?_;have vN:(L++[(⟨(t.ag[i]'aa),iE,iF,Sy,l5,l6,Sz⟩:aY)]).map aY.p=t.ag.take (i+1):=(by rw[map_append,hL];exact pI aa)
   have jN:∀o∈L++[(⟨(t.ag[i]'aa),iE,iF,Sy,l5,l6,Sz⟩:aY)],qY o:=fun o ho=>by rcases mem_append.1 ho with ho|ho;exact aQ o ho;rw[mem_singleton] at ho;subst ho;exact⟨U,yq⟩
   exact VY
  refine bz.call rfl ap rfl rfl rfl call120 (q9 (t.ag[i]'aa).kids w4) ⟨ot,trivial⟩ (eV _) (fun b hb=>by simp[au,St.put] at hb ⊢;try simp[hb]) ?_;rintro _ Sz ⟨l5,l6,rfl,yq⟩;refine AD.perm (jX (A:=[_,_,_])) ?_;have vN:(L++[(⟨(t.ag[i]'aa),iE,iF,Sy,l5,l6,Sz⟩:aY)]).map aY.p=t.ag.take (i+1):=(by rw[map_append,hL];exact pI aa)
  have jN:∀o∈L++[(⟨(t.ag[i]'aa),iE,iF,Sy,l5,l6,Sz⟩:aY)],qY o:=fun o ho=>by rcases mem_append.1 ho with ho|ho;exact aQ o ho;rw[mem_singleton] at ho;subst ho;exact⟨U,yq⟩
  refine AD.two (i:=1) (j:=10) az ?_ ?_
  ·refine at_ rfl (dI 1) ?_;exact VY
  refine lj call95 (mj (t.ag[i]'aa).high w4) ?_;refine cy 13 rfl (nO (pl:=[(0,_),(1,_),(2,_),(3,_),(4,_)]) (ds:=[_,_,_,_,_]) rfl zeroValue153 runUnderlying153 Ox ⟨rfl,ot,rfl,ot,rfl,ot,rfl,ot,rfl,ot,trivial⟩ rfl rfl) ?_;refine AD.two (i:=1) (j:=14) az ?_ ?_
  ·refine at_ rfl (dI 1) ?_;refine AD.one (i:=14) az ?_;refine j3 (cf 0 [_]) [.bool false,.slice none 0 0,.slice none 0 0,.slice none 0 0,.int .i64 0] [_,_,_,_,_] zeroValue153 runUnderlying49 sizeOf153 (fun Aq=>?_);refine j4 0 46 5 1 ?_;exact MQ
  refine j3 (cf 0 [_]) [.bool false,.slice none 0 0,.slice none 0 0,.slice none 0 0,.int .i64 0] [_,_,_,_,_] zeroValue153 runUnderlying49 sizeOf153 (fun Aq=>?_);refine j4 0 46 5 1 ?_;refine AD.one (i:=1) az ?_;refine at_ rfl (dI 1) ?_;exact MQ
 refine aB 1 ?_;refine aR 1 [_,_] sizeOf51 ?_;refine an 51 [2] ?_;refine aI (Sx++L.flatMap bO) ?_;exact⟨L,c9,cM,Sx,rfl,dN,aQ,by rw[hL,take_of_length_le w4],rfl⟩

end Go.Proofs.YtdgichenhdikgaaGreatDoor.Tw

namespace Go.Proofs.YtdgichenhdikgaaGreatDoor.Tw
open List
open Go.Proofs.Tryz
open Go.RowKit V Go.Proofs.YtdgichenhdikgaaGreatDoor.Tr Pk
open Go.Lib (compareBytes)
variable {t:aD} {lv:List (List Int)} {level:Nat} {i:Int}
structure nU (t:aD) (s:ju):Prop where
 nd:s.1.Nodup
 rg:∀x∈s.1,0≤x∧x<t.ag.length
 eE:s.2.length≤s.1.length
 each:∀l∈s.2,l.length≤s.1.length
 el:∀l∈s.2,∀x∈l,0≤x∧x<t.ag.length
theorem adj{n:Nat}{l:List Int}(h:l.Nodup)(hr:∀x∈l,0≤x∧x<n):l.length≤n:=by
 induction n generalizing l with
 | zero =>
  cases l with
  | nil=>simp
  | cons a l=>have:=hr a mem_cons_self;omega
 | succ n ih =>
  have h1:=ih (l:=l.erase (n:Int)) (h.erase _) fun x hx=>by
   have h2:=(h.mem_erase_iff).1 hx;have h3:=hr x h2.2;have:=h2.1;omega
  rw[length_erase] at h1;split at h1<;>omega
theorem nU.nY{s:ju}(h:nU t s):s.1.length≤t.ag.length:=adj h.nd h.rg
theorem abC{n:Nat}(h:∀l∈lv,l.length≤n):∀l∈kL lv level i,l.length≤n+1:=fun l hl=>by
 obtain⟨j,hj,rfl⟩:=mem_iff_getElem.1 hl;have e:(kL lv level i)[j]=(kL lv level i).getD j []:=(by rw[getD_eq_getElem?_getD,getElem?_eq_getElem hj];rfl)
 rw[e,Fc,length_append];have h1:(lv.getD j []).length≤n:=by
  rw[getD_eq_getElem?_getD];rcases Nat.lt_or_ge j lv.length with q|q
  ·rw[getElem?_eq_getElem q];exact h _ (getElem_mem q)
  rw[getElem?_eq_none q];simp
 split
 ·simp only[length_cons,length_nil];omega
 simp only[length_nil];omega
theorem ae7{Q:Int→Prop}(h:∀l∈lv,∀x∈l,Q x)(hi:Q i):∀l∈kL lv level i,∀x∈l,Q x:=fun l hl x hx=>by
 obtain⟨j,hj,rfl⟩:=mem_iff_getElem.1 hl;have e:(kL lv level i)[j]=(kL lv level i).getD j []:=(by rw[getD_eq_getElem?_getD,getElem?_eq_getElem hj];rfl)
 rw[e,Fc,mem_append] at hx;rcases hx with hx|hx
 ·rw[getD_eq_getElem?_getD] at hx;rcases Nat.lt_or_ge j lv.length with q|q
  ·rw[getElem?_eq_getElem q] at hx;exact h _ (getElem_mem q) x hx
  rw[getElem?_eq_none q] at hx;cases hx
 split at hx
 ·rw[mem_singleton] at hx;subst hx;exact hi
 cases hx
theorem nU.add{s:ju}(h:nU t s)(hi:0≤i∧i<t.ag.length)(hn:i∉s.1)(hl:level≤s.1.length):nU t (s.1++[i],kL s.2 level i):=by
 refine⟨?_,fun x hx=>?_,?_,?_,ae7 h.el hi⟩
 ·exact nodup_append.2 ⟨h.nd,by simp,fun a ha b hb e=>by rw[mem_singleton] at hb;subst hb;subst e;exact hn ha⟩
 ·rcases mem_append.1 hx with hx|hx
  ·exact h.rg x hx
  rw[mem_singleton] at hx;subst hx;exact hi
 ·show(kL s.2 level i).length≤(s.1++[i]).length;rw[Jg,length_append];have:=h.eE;simp;omega
 show ∀l∈kL s.2 level i,l.length≤(s.1++[i]).length;rw[length_append];exact abC h.each
theorem RL{t:aD}{go:Int→K→K→ju→Option (Nat×ju)}{low:K}{p:cW}{n:Nat}(E:∀(c:Int) lo hi s d s',(0≤c∧c<t.ag.length)→nU t s→n≤s.1.length→go c lo hi s=some (d,s')→nU t s'∧s.1.length≤s'.1.length) :
  ∀(cs:List Int) (k:Nat) (deep:Option Nat) (s:ju) (d:Nat) (s':ju),(∀c∈cs,0≤c∧c<t.ag.length)→nU t s→n≤s.1.length→lT go low p cs k deep s=some (d,s')→nU t s'∧s.1.length≤s'.1.length
 | [],k,deep,s,d,s',_,hs,_,h=>by
  rw[lT] at h;cases deep with
  | none=>cases h
  | some e=>simp at h;rw[←h.2];exact⟨hs,Nat.le_refl _⟩
 | c::cs,k,deep,s,d,s',hc,hs,hn,h=>by
  rw[lT] at h;cases hg:go c (iv low p k) (gM p k) s with
  | none=>rw[hg] at h;cases h
  | some q =>
   obtain⟨d1,s1⟩:=q;rw[hg] at h;obtain⟨h1,h2⟩:=E _ _ _ _ _ _ (hc c mem_cons_self) hs hn hg;change (if deep=none∨deep=some d1 then lT go low p cs (k+1) (some d1) s1 else none)=_ at h;split at h
   ·obtain⟨h3,h4⟩:=RL E cs _ _ _ _ _ (fun c uM=>hc c (mem_cons_of_mem _ uM)) h1 w4 h;exact⟨h3,by omega⟩
   cases h
theorem P8{p:cW}(hp:eC p t.ag.length)(hl:p.leaf=false):∀c∈p.kids,0≤c∧c<t.ag.length:=fun c hc=>⟨hp.aA c hc,hp.vw hl c hc⟩
theorem J2{t:aD}(hp:u6 t):∀(f:Nat) (i:Int) (lo hi:K) (level:Nat) (s:ju) (d:Nat) (s':ju),(0≤i∧i<t.ag.length)→nU t s→level≤s.1.length→jm t f i lo hi level s=some (d,s')→nU t s'∧s.1.length≤s'.1.length
 | 0,i,lo,hi,level,s,d,s',_,_,_,h=>by rw[jm] at h;cases h
 | f+1,i,lo,hi,level,s,d,s',hr,hs,hl,h=>by
  rw[jm] at h;split at h
  ·cases h
  rename_i hn;split at h
  ·cases h
  have ha:=hs.add hr hn hl;have hlen:s.1.length+1=(s.1++[i]).length:=(by simp)
  split at h
  ·simp at h;rw[←h.2];exact⟨ha,by show s.1.length≤(s.1++[i]).length;omega⟩
  rename_i fI;have fI:(t.pg i).leaf=false:=(by simpa using fI)
  obtain⟨h1,h2⟩:=RL (n:=level+1) (fun c lo hi s d s' hc hs hn h=>J2 hp f c lo hi (level+1) s d s' hc hs hn h) _ _ _ _ _ _ (P8 (hp _ (jw hr)) fI) ha (by show level+1≤(s.1++[i]).length;omega) h;have h3:(s.1++[i]).length≤s'.1.length:=h2;exact⟨h1,by omega⟩
structure dj where
 l:List Int
 ad:Option Addr
 cp:Nat
 s:List ah
variable {L:List dj}
def gV(o:dj):List D:=[aN o.ad o.l.length o.cp]
theorem wO(o:dj):(gV o).length=1:=rfl
theorem agH(o:dj):(gV o).all V.one=true:=rfl
def nq(o:dj):Prop:=mV o.l o.ad o.cp o.s
def rI:dj:=⟨[],none,0,[]⟩
theorem ae8:nq rI:=.inl ⟨rfl,rfl,rfl,rfl,rfl⟩
abbrev zV(L:List dj)(ad:Option Addr)(cap:Nat)(S:List ah):Prop:=bp 67 1 (L.flatMap gV) L.length ad cap S
def Wv(t:aD)(b bm:Nat)(n:Nat)(ad:Option Addr)(cap:Nat):ah:=⟨b,159,4,[av 5 cP t.ag,ae t.root,.v (.map (some bm)),aN ad n cap]⟩
def SW(t:aD)(b bm:Nat)(m:List Int)(L:List dj)(ad:Option Addr)(cap:Nat)(Sx:List ah):List ah:=Wv t b bm L.length ad cap::kX bm m::(Sx++L.flatMap dj.s)
def Ww(t:aD)(b bm:Nat):Option (Nat×ju)→D→List ah→Prop
 | none,r,S=>r = .v (.int .i64 (-1))∧S=[]
 | some (d,s),r,S=>r = .v (.int .i64 (d:Nat))∧∃L ad cap Sx,zV L ad cap Sx∧(∀o∈L,nq o)∧L.map dj.l=s.2∧S=SW t b bm s.1 L ad cap Sx
theorem y8{α:Type}(g:α→List ah):∀{L:List α} {j:Nat} (h:j<L.length),(L.flatMap g).Perm (g L[j]++(L.eraseIdx j).flatMap g)
 | a::L,0,_=>by simp
 | a::L,j+1,h=>by
  have E:=y8 g (L:=L) (j:=j) nf;simp only[flatMap_cons,getElem_cons_succ,eraseIdx_cons_succ];refine(E.append_left (g a)).trans ?_;rw[←append_assoc,←append_assoc];exact List.perm_append_comm.append_right _
theorem yK{α:Type}(g:α→List ah){L:List α}{j:Nat}(h:j<L.length)(a:α):((L.set j a).flatMap g).Perm (g a++(L.eraseIdx j).flatMap g):=by
 have:=y8 g (L:=L.set j a) (j:=j) (by rw[length_set];exact h);rw[getElem_set_self,eraseIdx_set_eq] at this;exact this
def sF:Option Nat→Int
 | none=>-2
 | some d=>d
variable {G:List (Nat×List Value)}

theorem agI{f:Nat}{low high:K}{s:ju}(h:i∈s.1):jm t (f+1) i low high level s=none:=by rw[jm,if_pos h]
theorem TM{f:Nat}{low high:K}{s:ju}(h:((t.pg i).high≠high∨∃k,(t.pg i).keys.head?=some k∧bA k low)):jm t (f+1) i low high level s=none:=by
 rw[jm];by_cases hi:i∈s.1
 ·rw[if_pos hi]
 rw[if_neg hi,if_pos h]
theorem adk{f:Nat}{low high:K}{s:ju}(h:i∉s.1)(h2:¬((t.pg i).high≠high∨∃k,(t.pg i).keys.head?=some k∧bA k low))(h3:(t.pg i).leaf=true):jm t (f+1) i low high level s=some (level,(s.1++[i],kL s.2 level i)):=by rw[jm,if_neg h,if_neg h2,if_pos h3]
theorem adm{f:Nat}{low high:K}{s:ju}(h:i∉s.1)(h2:¬((t.pg i).high≠high∨∃k,(t.pg i).keys.head?=some k∧bA k low))(h3:(t.pg i).leaf=false):jm t (f+1) i low high level s=lT (fun c lo hi s=>jm t f c lo hi (level+1) s) low (t.pg i) (t.pg i).kids 0 none (s.1++[i],kL s.2 level i):=by rw[jm,if_neg h,if_neg h2,if_neg (by rw[h3];decide)]
section
variable {go:Int→K→K→ju→Option (Nat×ju)} {low:K} {p:cW} {k:Nat} {deep:Option Nat} {s s':ju} {d:Nat}
theorem abD(hk:k<p.kids.length)(h:go p.kids[k] (iv low p k) (gM p k) s=none):lT go low p (p.kids.drop k) k deep s=none:=by rw[drop_eq_getElem_cons hk,lT,h]
theorem P9(hk:k<p.kids.length)(h:go p.kids[k] (iv low p k) (gM p k) s=some (d,s'))(hd:deep=none∨deep=some d):lT go low p (p.kids.drop k) k deep s=lT go low p (p.kids.drop (k+1)) (k+1) (some d) s':=by
 rw[drop_eq_getElem_cons hk,lT,h];show(if deep=none∨deep=some d then _ else _)=_;rw[if_pos hd]
theorem adn(hk:k<p.kids.length)(h:go p.kids[k] (iv low p k) (gM p k) s=some (d,s'))(hd:¬(deep=none∨deep=some d)):lT go low p (p.kids.drop k) k deep s=none:=by
 rw[drop_eq_getElem_cons hk,lT,h];show(if deep=none∨deep=some d then _ else _)=_;rw[if_neg hd]
theorem adp(hk:p.kids.length≤k):lT go low p (p.kids.drop k) k deep s=deep.map fun d=>(d,s):=by rw[drop_of_length_le hk,lT]
end
theorem abE:(L++[rI]).flatMap dj.s=L.flatMap dj.s:=by simp[rI]
theorem ae9{E:List dj}(h:E.map dj.l=L.map dj.l++replicate (E.length-L.length) [])(h1:L.length≤E.length)(h2:E.length≤max L.length (level+1))(h3:level<E.length):E.map dj.l=sR (L.map dj.l) (level+1):=by
 rw[h];unfold sR;rw[length_map,show E.length-L.length=level+1-L.length from by omega]
theorem J3{E:List dj}{o:dj}(h:E.map dj.l=sR (L.map dj.l) (level+1))(h3:level<E.length)(ho:o.l=E[level].l++[i]):(E.set level o).map dj.l=kL (L.map dj.l) level i:=by
 rw[map_set,ho];unfold kL;rw[←h,getD_eq_getElem?_getD,getElem?_eq_getElem (by rw[length_map];exact h3),getElem_map];rfl
theorem TN{j:Nat}{o:dj}(h:∀o∈L,nq o)(ho:nq o):∀x∈L.set j o,nq x:=fun x hx=>by
 rcases mem_or_eq_of_mem_set hx with hx|rfl
 ·exact h x hx
 exact ho
theorem RM{deep:Option Nat}{d:Nat}(h:sF deep≠-2)(h2:(d:Int)=sF deep):deep=some d:=by
 cases deep with
 | none=>exact absurd rfl h
 | some e=>unfold sF at h2;simp only at h2;rw[show d=e from by omega]
theorem adq{deep:Option Nat}{d:Nat}(h:sF deep≠-2)(h2:¬(d:Int)=sF deep):¬(deep=none∨deep=some d):=by
 rintro(rfl|rfl)
 ·exact h rfl
 exact h2 rfl
theorem Qa{deep:Option Nat}(h:sF deep = -2):deep=none:=by
 cases deep with
 | none=>rfl
 | some e=>unfold sF at h;simp only at h;omega
def Vp(G:List (Nat×List Value))(t:aD)(b bm f:Nat):Prop:=∀(i:Int) (low high:K) (level:Nat) (m:List Int) (L:List dj) (ad:Option Addr) (cap:Nat) (Sx:List ah),(0≤i∧i<t.ag.length)→nU t (m,(L.map dj.l))→level≤m.length→t.ag.length+1≤f+m.length→high.length≤100→zV L ad cap Sx→(∀o∈L,nq o) →
 VC Tryz.prog G 92 [cQ b,ae i,av 1 cB low,av 1 cB high,ae (level:Nat)] (SW t b bm m L ad cap Sx) (Ww t b bm (jm t f i low high level (m,(L.map dj.l))))

theorem Qb:(Tryz.prog.info? 3).map (fun i=>(i.zero,i.size,i.bytes))=some (some (.int .i64 0),1,8):=by kernel_rfl

theorem aal:(Tryz.prog.info? 67).map (fun i=>(i.zero,i.size,i.bytes))=some (some (.slice none 0 0),1,24):=by kernel_rfl

theorem abF(t:aD)(hp:u6 t)(rJ:t.ag.length≤4000)(b bm f:Nat)(ih:Vp G t b bm f)(i:Int)(low high:K)(level:Nat)(m:List Int)(L:List dj)(ad:Option Addr)(cap:Nat)(Sx:List ah)(hr:0≤i∧i<t.ag.length)(Gu:nU t (m,(L.map dj.l)))(hlm:level≤m.length)(hfu:t.ag.length+1≤(f+1)+m.length)(YK:high.length≤100)(ni:zV L ad cap Sx)(aQ:∀o∈L,nq o) :
 VC Tryz.prog G 92 [cQ b,ae i,av 1 cB low,av 1 cB high,ae (level:Nat)] (SW t b bm m L ad cap Sx) (Ww t b bm (jm t (f+1) i low high level (m,(L.map dj.l)))):=by
 refine VC.body func92 rfl ntmps92 aO fun X0 w0 bg=>?_;unfold SW Wv;have c8:=dR;have aa:i.toNat<t.ag.length:=(by omega)
 have qm:t.pg i=(t.ag[i.toNat]'aa):=vn hr;have po:eC (t.ag[i.toNat]'aa) t.ag.length:=hp _ (getElem_mem aa);have YJ:=po.hlen;have Nc:=Gu.nY;have Dm:m.length≤t.ag.length:=Nc;refine af [0,1,2,3,4] ?_;refine aB 5 ?_;refine bN (aaZ (i:=1) rfl ot ot rfl underlying156 underlying3 zeroValue203) ?_;refine aF 3 ?_;refine OD.alloc (ds:=[]) ap rfl rfl zeroValue203 rfl (fun lf=>?_);refine aR 0 [] sizeOf203 ?_;refine an 148 [0,1,2,3,4,12] ?_;refine af [0,1,2,3,4,29] ?_;refine aq ?_ ?_<;>intro aP bC
 ·have ko:i∈m:=(by simpa using aP)
  refine af [10] ?_;refine aI [] ?_;rw[agI (by exact ko)];exact⟨rfl,rfl⟩
 have qg:i∉m:=(by simpa using aP)
 refine aB 6 ?_;refine OD.addKey (i:=2) ap rfl rfl ot ot ot rfl qg underlying156 underlying3 ?_;refine an 148 [0,1,2,3,4] ?_;refine aB 6 ?_;refine bN (dw 5 (h:=by first|exact .l (j:=i.toNat) (Int.toNat_of_nonneg hr.1).symm aa|exact .r (j:=i.toNat) (Int.toNat_of_nonneg hr.1).symm aa)) ?_;refine aF 1 ?_;refine OD.alloc (ds:=[_,_,_,_,_]) ap rfl rfl zeroValue153 rfl (fun lJ=>?_);refine aR 0 [_,_,_,_,_] sizeOf153 ?_;refine an 148 [0,1,2,3,4,13] ?_;refine jV [0,1,2,3,4] (fun aX _ aG=>∃(lJ:Nat),(¬((t.pg i).high≠high∨∃k,(t.pg i).keys.head?=some k∧bA k low))∧aG=(⟨148,(13,cQ lJ)::aX,(⟨lJ,153,5,cP (t.ag[i.toNat]'aa)⟩::⟨b,159,4,[av 5 cP t.ag,ae t.root,.v (.map (some bm)),aN ad L.length cap]⟩::kX bm (m++[i])::(Sx++L.flatMap dj.s))⟩:St)) ?_ ?_
 ·refine aB 3 ?_;refine dP call133 (Vm (t.ag[i.toNat]'aa).high high w4 w4) ?_;refine aF 2 ?_;refine bP 49 (fun Cl aif=>?_) (fun Cl aif=>?_)
  ·refine an 148 [0,1,2,3,4,13,63] ?_;refine eD ?_;have oK:((t.pg i).high≠high∨∃k,(t.pg i).keys.head?=some k∧bA k low):=(by rw[qm];first|exact .inl (by simpa using Cl)|exact .inr ⟨_,head?_eq_getElem? .. ▸ getElem?_eq_getElem w4,of_decide_eq_true aZ⟩)
   refine af [10] ?_;refine aI [] ?_;rw[TM oK];exact⟨rfl,rfl⟩
  refine aF 5 ?_;refine bP 54 (fun zM zn=>?_) (fun zM zn=>?_)
  ·refine aF 2 ?_;refine OD.still iq rfl (su (mk:=Op.indexAddr 151) rfl ot bV (by first|exact tX (j:=0) runUnderlying151 sizeOf88 rfl Ac|exact uf (j:=0) runUnderlying151 sizeOf88 rfl Ac)) ?_;refine aF 2 ?_;refine OD.gZ iq rfl rfl rfl call51 (wJ ((t.ag[i.toNat]'aa).keys[0]'w4) low) ⟨ot,ot,trivial⟩ ?_;refine an 148 [0,1,2,3,4,13,63] ?_;refine aq ?_ ?_<;>intro aZ cr
   ·have oK:((t.pg i).high≠high∨∃k,(t.pg i).keys.head?=some k∧bA k low):=(by rw[qm];first|exact .inl (by simpa using Cl)|exact .inr ⟨_,head?_eq_getElem? .. ▸ getElem?_eq_getElem w4,of_decide_eq_true aZ⟩)
    refine af [10] ?_;refine aI [] ?_;rw[TM oK];exact⟨rfl,rfl⟩
   have oG:¬((t.pg i).high≠high∨∃k,(t.pg i).keys.head?=some k∧bA k low):=(by rw[qm];rintro(h|⟨k,hk,vu⟩);exact h (by simpa using Cl);first|(rw[head?_eq_getElem?,getElem?_eq_none w4] at hk;cases hk;done)|(rw[head?_eq_getElem?,getElem?_eq_getElem w4] at hk;cases hk;exact of_decide_eq_false aZ vu))
   refine CD.skip ?_;refine⟨_,aK,lJ,oG,rfl⟩
  refine an 148 [0,1,2,3,4,13,63] ?_;refine fJ ?_;have oG:¬((t.pg i).high≠high∨∃k,(t.pg i).keys.head?=some k∧bA k low):=(by rw[qm];rintro(h|⟨k,hk,vu⟩);exact h (by simpa using Cl);first|(rw[head?_eq_getElem?,getElem?_eq_none w4] at hk;cases hk;done)|(rw[head?_eq_getElem?,getElem?_eq_getElem w4] at hk;cases hk;exact of_decide_eq_false aZ vu))
  refine CD.skip ?_;refine⟨_,aK,lJ,oG,rfl⟩
 rintro _ ⟨lJ,oG,rfl⟩;refine eA [0,1,2,3,4,13] (fun aX _ (kK:List dj×Option Addr×Nat×List ah) aG=>match kK with|(I,HD,Z,Dq)=>(zV I HD Z Dq)∧(∀o∈I,nq o)∧(I.map dj.l=L.map dj.l++replicate (I.length-L.length) [])∧(L.length≤I.length)∧(I.length≤max L.length (level+1))∧aG=(⟨148,aX,(⟨lJ,153,5,cP (t.ag[i.toNat]'aa)⟩::⟨b,159,4,[av 5 cP t.ag,ae t.root,.v (.map (some bm)),aN HD I.length Z]⟩::kX bm (m++[i])::(Dq++I.flatMap dj.s))⟩:St)) (fun (kK:List dj×Option Addr×Nat×List ah)=>match kK with|(I,HD,Z,Dq)=>level+1-I.length) (L,ad,cap,Sx) ⟨ni,aQ,bn,(Nat.le_refl _),w4,rfl⟩ ?_;rintro⟨I,HD,Z,Dq⟩ _ ⟨Wx,qM,Wy,akN,akO,rfl⟩;refine af [0,1,2,3,4,13,70] ?_;refine aq ?_ ?_<;>intro bX cA
 ·have mU:=Gu.eE;have mU:L.length≤m.length:=(by simpa using mU)
  have E:I.length≤level:=(by omega)
  refine dK 5 ?_;refine en (cf 0 [_]) [.slice none 0 0] [_] zeroValue67 runUnderlying157 sizeOf67 (fun b76=>?_);refine fA 0 76 1 1 ?_;refine OD.ey (ls:=I) (new:=[rI]) (Sq:=Dq) wO agH ap rfl rfl underlying157 aal rfl w8 ot Wx (oZ (A:=[_,_,_])) ot bn GI GI (fun NZ L7 akP akQ=>?_);refine OD.perm (jX (S1:=[⟨NZ,67,L7*1,flatMap gV (I++[rI])⟩]) (A:=[_,_,_])) ?_;rw[←abE (L:=I)];refine aF 2 ?_;refine aR 1 [_,_,_,_] sizeOf157 ?_;refine an 148 [0,1,2,3,4,13] ?_;refine⟨((I++[rI]),(some ⟨NZ,0,none⟩),L7,[⟨NZ,67,L7*1,flatMap gV (I++[rI])⟩]),_,(by (show level+1-(I++[rI]).length<level+1-I.length;rw[length_append,show[rI].length=1 from rfl];omega)),aK,(bM akP akQ),(fun o ho=>by rcases mem_append.1 ho with ho|ho;exact qM o ho;rw[mem_singleton] at ho;subst ho;exact ae8),(by rw[map_append,Wy,append_assoc,length_append,show[rI].length=1 from rfl,show I.length+1-L.length=I.length-L.length+1 from by omega,replicate_succ'];rfl),vH,(by rw[length_append,show[rI].length=1 from rfl];omega),rfl⟩
 have E:level<I.length:=(by omega)
 have zW:=ae9 Wy akN akO E;obtain⟨bv,rfl,Ck,BQ,rfl⟩:=Wx.pos w4;have dN:nq (I[level]'E):=qM _ (getElem_mem E);have mc:(I[level]'E).l.length≤m.length:=by
    have hz:(I[level]'E).l=(sR (L.map dj.l) (level+1)).getD level []:=(by rw[←zW,getD_eq_getElem?_getD,getElem?_eq_getElem (by rw[length_map];exact E),getElem_map];rfl)
    rw[hz,J1,getD_eq_getElem?_getD];rcases Nat.lt_or_ge level (L.map dj.l).length with q|q
    ·rw[getElem?_eq_getElem q];exact Gu.each _ (getElem_mem q)
    rw[getElem?_eq_none q];simp
 refine CD.perm (Perm.cons _ (Perm.cons _ (Perm.cons _ ((y8 dj.s E).append_left _)))) ?_;refine CD.exit ?_;refine CD.seq ?_;refine CD.mono (Q:=fun aX aG=>aX=Exit.normal∧∃(o2:dj),(nq o2)∧(o2.l=(I[level]'E).l++[i])∧Wk aG (⟨148,[(0,cQ b),(2,av 1 cB low),(3,av 1 cB high),(4,ae (level:Nat)),(13,cQ lJ)],(⟨lJ,153,5,cP (t.ag[i.toNat]'aa)⟩::⟨b,159,4,[av 5 cP t.ag,ae t.root,.v (.map (some bm)),aN (some ⟨bv,0,none⟩) (I.set level o2).length Z]⟩::kX bm (m++[i])::([⟨bv,67,Z*1,flatMap gV (I.set level o2)⟩]++(I.set level o2).flatMap dj.s))⟩:St)) ?_ ?_
 ·refine CD.draw (au (take 3 _)) az (fun _ h=>(Sublist.map _ (take_sublist _ _)).subset h) ?_;refine aC 0 rfl bF ?_;refine aC 1 rfl qb ?_;refine aC 2 rfl (dF 3) ?_;refine aC 3 rfl (dI 1) ?_;refine aC 4 rfl bF ?_;refine aC 5 rfl bF ?_;refine aC 6 rfl qb ?_;refine aC 7 rfl (dF 3) ?_;refine aC 8 rfl (dI 1) ?_;refine aC 9 rfl bF ?_;refine aC 10 rfl (dw 1) ?_;refine aC 12 rfl bF ?_;refine dH.later rfl ?_;refine AD.two (i:=11) (j:=13) az ?_ ?_
  ·refine at_ rfl (cR (mk:=Op.load 67) rfl ot (iT (k:=3) (d:=aN (I[level]'E).ad (I[level]'E).l.length (I[level]'E).cp) (i:=level) wO rfl rfl rfl isAgg67 E rfl)) ?_;refine AD.one (i:=13) az ?_;refine j3 (cf 0 [_]) [.int .i64 0] [_] zeroValue3 runUnderlying67 sizeOf3 (fun Yy=>?_);refine j4 0 93 1 1 ?_;refine AD.one (i:=14) az ?_;refine bz.ey (ls:=(I[level]'E).l) (new:=[i]) (Sq:=(I[level]'E).s) ez nR rfl ap rfl rfl underlying67 Qb rfl w8 ot dN (tJ (A:=[_,_,_]) (S1:=[⟨bv,67,Z*1,flatMap gV I⟩])) ot bn mY mZ (fun U O L8 L9=>?_);refine AD.perm (wu (S2:=[⟨U,3,O*1,flatMap cI ((I[level]'E).l++[i])⟩]) (A:=[_,_,_])) ?_;refine cy 15 rfl (dw 1) ?_;refine AD.one (i:=16) az ?_;refine bz.storeAt (k:=3) (cs':=flatMap gV (I.set level (⟨(I[level]'E).l++[i],some ⟨U,0,none⟩,O,[⟨U,3,O*1,flatMap cI ((I[level]'E).l++[i])⟩]⟩:dj))) rfl ap rfl rfl ot rfl rfl ot rfl rfl sizeOf67 rfl (by show 0+level*1+1≤(flatMap gV I).length;rw[cn wO];omega) (by rw[Nat.zero_add];exact o8 wO I (⟨(I[level]'E).l++[i],some ⟨U,0,none⟩,O,[⟨U,3,O*1,flatMap cI ((I[level]'E).l++[i])⟩]⟩:dj) E) iD ?_
   refine AD.wk (y:=⟨148,[(0,_),(2,_),(3,_),(4,_),(13,_)],(⟨lJ,153,5,[_,_,_,_,_]⟩::⟨b,159,4,[_,_,_,_]⟩::_::([⟨bv,67,Z*1,flatMap gV (I.set level (⟨(I[level]'E).l++[i],some ⟨U,0,none⟩,O,[⟨U,3,O*1,flatMap cI ((I[level]'E).l++[i])⟩]⟩:dj))⟩]++([⟨U,3,O*1,flatMap cI ((I[level]'E).l++[i])⟩]++((I.eraseIdx level).flatMap dj.s))))⟩) (Wk.dG rfl rfl fa) rfl ?_;refine AD.done az ?_;exact⟨rfl,(⟨(I[level]'E).l++[i],some ⟨U,0,none⟩,O,[⟨U,3,O*1,flatMap cI ((I[level]'E).l++[i])⟩]⟩:dj),bM L8 L9,rfl,by rw[length_set];exact Wk.perm (Perm.cons _ (Perm.cons _ (Perm.cons _ ((yK dj.s E (⟨(I[level]'E).l++[i],some ⟨U,0,none⟩,O,[⟨U,3,O*1,flatMap cI ((I[level]'E).l++[i])⟩]⟩:dj)).symm.append_left _))))⟩
  refine j3 (cf 0 [_]) [.int .i64 0] [_] zeroValue3 runUnderlying67 sizeOf3 (fun Yy=>?_);refine j4 0 93 1 1 ?_;refine AD.one (i:=11) az ?_;refine at_ rfl (cR (mk:=Op.load 67) rfl ot (iT (k:=3) (d:=aN (I[level]'E).ad (I[level]'E).l.length (I[level]'E).cp) (i:=level) wO rfl rfl rfl isAgg67 E rfl)) ?_;refine AD.one (i:=14) az ?_;refine bz.ey (ls:=(I[level]'E).l) (new:=[i]) (Sq:=(I[level]'E).s) ez nR rfl ap rfl rfl underlying67 Qb rfl w8 ot dN (tJ (A:=[_,_,_]) (S1:=[⟨bv,67,Z*1,flatMap gV I⟩])) ot bn mY mZ (fun U O L8 L9=>?_);refine AD.perm (wu (S2:=[⟨U,3,O*1,flatMap cI ((I[level]'E).l++[i])⟩]) (A:=[_,_,_])) ?_;refine cy 15 rfl (dw 1) ?_;refine AD.one (i:=16) az ?_;refine bz.storeAt (k:=3) (cs':=flatMap gV (I.set level (⟨(I[level]'E).l++[i],some ⟨U,0,none⟩,O,[⟨U,3,O*1,flatMap cI ((I[level]'E).l++[i])⟩]⟩:dj))) rfl ap rfl rfl ot rfl rfl ot rfl rfl sizeOf67 rfl (by show 0+level*1+1≤(flatMap gV I).length;rw[cn wO];omega) (by rw[Nat.zero_add];exact o8 wO I (⟨(I[level]'E).l++[i],some ⟨U,0,none⟩,O,[⟨U,3,O*1,flatMap cI ((I[level]'E).l++[i])⟩]⟩:dj) E) iD ?_
  refine AD.wk (y:=⟨148,[(0,_),(2,_),(3,_),(4,_),(13,_)],(⟨lJ,153,5,[_,_,_,_,_]⟩::⟨b,159,4,[_,_,_,_]⟩::_::([⟨bv,67,Z*1,flatMap gV (I.set level (⟨(I[level]'E).l++[i],some ⟨U,0,none⟩,O,[⟨U,3,O*1,flatMap cI ((I[level]'E).l++[i])⟩]⟩:dj))⟩]++([⟨U,3,O*1,flatMap cI ((I[level]'E).l++[i])⟩]++((I.eraseIdx level).flatMap dj.s))))⟩) (Wk.dG rfl rfl fa) rfl ?_;refine AD.done az ?_;exact⟨rfl,(⟨(I[level]'E).l++[i],some ⟨U,0,none⟩,O,[⟨U,3,O*1,flatMap cI ((I[level]'E).l++[i])⟩]⟩:dj),bM L8 L9,rfl,by rw[length_set];exact Wk.perm (Perm.cons _ (Perm.cons _ (Perm.cons _ ((yK dj.s E (⟨(I[level]'E).l++[i],some ⟨U,0,none⟩,O,[⟨U,3,O*1,flatMap cI ((I[level]'E).l++[i])⟩]⟩:dj)).symm.append_left _))))⟩
 rintro _ _ ⟨rfl,o2,qZ,Gs,K4⟩;refine CD.wk K4 ?_;refine af [0,2,3,4,13,97] ?_;refine aq ?_ ?_<;>intro cN dW
 ·refine af [10] ?_;refine aI (SW t b bm (m++[i]) (I.set level o2) (some ⟨bv,0,none⟩) Z _) ?_;rw[adk qg oG (by rw[qm];exact cN)];exact⟨rfl,_,_,_,_,bM (by rw[length_set];exact Ck) BQ,TN qM qZ,J3 zW E Gs,rfl⟩
 have fI:(t.pg i).leaf=false:=(by rw[qm];exact cN)
 have F2:nU t (m++[i],(I.set level o2).map dj.l):=(by rw[J3 zW E Gs];exact Gu.add hr qg hlm)
 have akR:=P8 po (by rw[←qm];exact fI);have apH:=(po.node (by rw[←qm];exact fI)).1;have apI:=po.eE;have BR:(t.ag[i.toNat]'aa).high=high:=(by rw[←qm];exact Classical.byContradiction fun h=>oG (.inl h))
 refine af [0,2,3,4,13,14] ?_;refine af [0,2,3,4,13,14,100,101,102] ?_;refine eA [0,2,3,4,13,100,101] (fun aX _ (kK:Nat×Option Nat×List Int×List dj×Option Addr×Nat×List ah) aG=>match kK with|(k,deep,m2,L2,uR,uu,uS)=>(k≤(t.ag[i.toNat]'aa).kids.length)∧(lT (fun c lo hi s=>jm t f c lo hi (level+1) s) low (t.ag[i.toNat]'aa) ((t.ag[i.toNat]'aa).kids.drop k) k deep (m2,(L2.map dj.l))=(jm t (f+1) i low high level (m,(L.map dj.l))))∧(zV L2 uR uu uS)∧(∀o∈L2,nq o)∧(nU t (m2,(L2.map dj.l)))∧(level+1≤m2.length)∧(t.ag.length+1≤f+m2.length)∧((k=0∨deep≠none))∧aG=(⟨148,(14,ae (sF deep))::(102,ae (k:Nat))::aX,(⟨lJ,153,5,cP (t.ag[i.toNat]'aa)⟩::⟨b,159,4,[av 5 cP t.ag,ae t.root,.v (.map (some bm)),aN uR L2.length uu]⟩::kX bm m2::(uS++L2.flatMap dj.s))⟩:St)) (fun (kK:Nat×Option Nat×List Int×List dj×Option Addr×Nat×List ah)=>match kK with|(k,deep,m2,L2,uR,uu,uS)=>(t.ag[i.toNat]'aa).kids.length-k) (0,none,(m++[i]),(I.set level o2),(some ⟨bv,0,none⟩),Z,[⟨bv,67,Z*1,flatMap gV (I.set level o2)⟩]) ⟨(Nat.zero_le _),(by rw[adm qg oG fI,J3 zW E Gs,qm];rfl),(bM (by rw[length_set];exact Ck) BQ),(TN qM qZ),F2,GO,GO,(.inl rfl),rfl⟩ ?_;rintro⟨k,deep,m2,L2,uR,uu,uS⟩ _ ⟨hk,Dr,Wz,jN,F2,WA,akS,hdp,rfl⟩;refine af [0,2,3,4,13,14,100,101,102,103] ?_;refine aq ?_ ?_<;>intro ec fh
 ·have dU:k<(t.ag[i.toNat]'aa).kids.length:=(by omega)
  have YL:=akR _ (getElem_mem dU);have hhk:(gM (t.ag[i.toNat]'aa) k).length≤100:=(by unfold gM;rw[getD_eq_getElem?_getD];rcases Nat.lt_or_ge k (t.ag[i.toNat]'aa).keys.length with q|q;(rw[getElem?_eq_getElem q];exact(po.lC _ (getElem_mem q)).2);(rw[getElem?_eq_none q];exact po.hlen))
  refine af [0,2,3,4,13,14,15,16,100,101,102] ?_;refine af [0,2,3,4,13,14,15,16,17,18,100,101,102] ?_;refine CD.cut (fun aG=>aG=(⟨148,[(0,cQ b),(2,av 1 cB low),(3,av 1 cB high),(4,ae (level:Nat)),(13,cQ lJ),(14,ae (sF deep)),(15,ae (k:Nat)),(16,ae ((t.ag[i.toNat]'aa).kids[k]'dU)),(17,.list 1 ((iv low (t.ag[i.toNat]'aa) k).flatMap cB) (iv low (t.ag[i.toNat]'aa) k).length),(18,av 1 cB high),(100,.list 1 ((t.ag[i.toNat]'aa).kids.flatMap cI) (t.ag[i.toNat]'aa).kids.length),(101,ae ((t.ag[i.toNat]'aa).kids.length:Nat)),(102,ae (k:Nat))],(⟨lJ,153,5,cP (t.ag[i.toNat]'aa)⟩::⟨b,159,4,[av 5 cP t.ag,ae t.root,.v (.map (some bm)),aN uR L2.length uu]⟩::kX bm m2::(uS++L2.flatMap dj.s))⟩:St)) ?_ ?_
  ·refine af [0,2,3,4,13,14,15,16,17,18,100,101,102,110] ?_;refine aq ?_ ?_<;>intro fj gA
   ·have eK:iv low (t.ag[i.toNat]'aa) k=(t.ag[i.toNat]'aa).keys[k-1]'w4:=(by unfold iv;rw[if_neg w4,getD_eq_getElem?_getD,getElem?_eq_getElem w4];rfl)
    refine ik [0,2,3,4,13,14,15,16,17,18,100,101,102] ?_;refine aS 4 ?_ (h:=by exact(dw 1 (h:=by first|exact .l (j:=k-1) w4 w4|exact .r (j:=k-1) w4 w4)));refine bI ?_;refine⟨_,(aK (h:=by repeat (first|exact trivial|refine⟨(by (repeat (first|exact fu|(apply fT;focus (first|rfl|(rw[eK];done)|(simp;done)))|(apply fC;focus rfl)));done),?_⟩))),rfl⟩
   have eK:iv low (t.ag[i.toNat]'aa) k=low:=(by unfold iv;rw[if_pos w4])
   refine CD.skip ?_;refine⟨_,(aK (h:=by repeat (first|exact trivial|refine⟨(by (repeat (first|exact fu|(apply fT;focus (first|rfl|(rw[eK];done)|(simp;done)))|(apply fC;focus rfl)));done),?_⟩))),rfl⟩
  rintro _ ⟨rfl⟩;refine CD.cut (fun aG=>aG=(⟨148,[(0,cQ b),(2,av 1 cB low),(3,av 1 cB high),(4,ae (level:Nat)),(13,cQ lJ),(14,ae (sF deep)),(16,ae ((t.ag[i.toNat]'aa).kids[k]'dU)),(17,.list 1 ((iv low (t.ag[i.toNat]'aa) k).flatMap cB) (iv low (t.ag[i.toNat]'aa) k).length),(18,.list 1 ((gM (t.ag[i.toNat]'aa) k).flatMap cB) (gM (t.ag[i.toNat]'aa) k).length),(100,.list 1 ((t.ag[i.toNat]'aa).kids.flatMap cI) (t.ag[i.toNat]'aa).kids.length),(101,ae ((t.ag[i.toNat]'aa).kids.length:Nat)),(102,ae (k:Nat))],(⟨lJ,153,5,cP (t.ag[i.toNat]'aa)⟩::⟨b,159,4,[av 5 cP t.ag,ae t.root,.v (.map (some bm)),aN uR L2.length uu]⟩::kX bm m2::(uS++L2.flatMap dj.s))⟩:St)) ?_ ?_
  ·refine af [0,2,3,4,13,14,15,16,17,18,100,101,102,121] ?_;refine aq ?_ ?_<;>intro gL kU
   ·have er:gM (t.ag[i.toNat]'aa) k=(t.ag[i.toNat]'aa).keys[k]'w4:=(by unfold gM;rw[getD_eq_getElem?_getD,getElem?_eq_getElem w4];rfl)
    refine cc [0,2,3,4,13,14,16,17,18,100,101,102] ?_;refine⟨_,(aK (h:=by repeat (first|exact trivial|refine⟨(by (repeat (first|exact fu|(apply fT;focus (first|rfl|(rw[er];done)|(simp;done)))|(apply fC;focus rfl)));done),?_⟩))),rfl⟩
   have er:gM (t.ag[i.toNat]'aa) k=high:=(by unfold gM;rw[getD_eq_getElem?_getD,getElem?_eq_none w4];exact BR)
   refine CD.skip ?_;refine⟨_,(aK (h:=by repeat (first|exact trivial|refine⟨(by (repeat (first|exact fu|(apply fT;focus (first|rfl|(rw[er];done)|(simp;done)))|(apply fC;focus rfl)));done),?_⟩))),rfl⟩
  rintro _ ⟨rfl⟩;refine aB 5 ?_;refine bN (dz (r:=.int .i64 ((level+1:Nat):Int)) rfl ot bV (kr (by rw[show((level:Nat):Int)+1=((level+1:Nat):Int) from rfl];exact wrap_i64 w4 w4))) ?_;refine OD.call ap rfl rfl rfl call92 (ih ((t.ag[i.toNat]'aa).kids[k]'dU) (iv low (t.ag[i.toNat]'aa) k) (gM (t.ag[i.toNat]'aa) k) (level+1) m2 L2 uR uu uS YL F2 WA akS hhk Wz jN) ⟨ot,ot,ot,ot,ot,trivial⟩ (perm_append_singleton _ _).symm ?_;rintro r19 S19 mR;rcases jC:jm t f ((t.ag[i.toNat]'aa).kids[k]'dU) (iv low (t.ag[i.toNat]'aa) k) (gM (t.ag[i.toNat]'aa) k) (level+1) (m2,(L2.map dj.l)) with _|⟨d,m3,lv3⟩
  ·rw[jC] at mR;obtain⟨rfl,rfl⟩:=mR;have aih:=Dr.symm.trans (abD dU jC);refine an 148 [0,2,3,4,13,14,19,100,101,102] ?_;refine aB 3 ?_;refine bP 136 (fun BS KC=>?_) (fun BS KC=>?_)
   ·refine bq [0,2,3,4,13,19,100,101,102,144] ?_;refine eD ?_;refine af [10] ?_;refine aI [] ?_;rw[aih];exact⟨rfl,rfl⟩
   exact absurd BS w8
  rw[jC] at mR;obtain⟨rfl,L3,HE,Gw,HF,WB,xE,rfl,rfl⟩:=mR;obtain⟨Vq,FU⟩:=J2 hp _ _ _ _ _ _ _ _ YL F2 WA jC;have FU:m2.length≤m3.length:=FU;refine OD.perm (perm_append_singleton _ _) ?_;refine an 148 [0,2,3,4,13,14,19,100,101,102] ?_;refine aB 3 ?_;refine bP 136 (fun BS KC=>?_) (fun BS KC=>?_)
  ·exact absurd BS (by intro e;have e:=of_decide_eq_true e;omega)
  refine aF 3 ?_;refine bP 139 (fun zE agJ=>?_) (fun zE agJ=>?_)
  ·refine bq [0,2,3,4,13,19,100,101,102,144] ?_;refine aq ?_ ?_<;>intro gj lB
   ·refine af [10] ?_;refine aI [] ?_;rw[Dr.symm.trans (adn dU jC (adq (by simpa using zE) (by simpa using gj)))];exact⟨rfl,rfl⟩
   refine cc [0,2,3,4,13,14,100,101,102] ?_;refine cc [0,2,3,4,13,14,100,101,102] ?_;refine⟨((k+1),(some d),m3,L3,HE,Gw,HF),_,cq,aK,w4,((P9 dU jC (by first|exact .inl (Qa (by simpa using zE))|exact .inr (RM (by simpa using zE) (by simpa using gj)))).symm.trans Dr),WB,xE,Vq,w4,w4,(.inr (fun e=>by cases e)),rfl⟩
  refine bq [0,2,3,4,13,19,100,101,102,144] ?_;refine fJ ?_;refine cc [0,2,3,4,13,14,100,101,102] ?_;refine cc [0,2,3,4,13,14,100,101,102] ?_;refine⟨((k+1),(some d),m3,L3,HE,Gw,HF),_,cq,aK,w4,((P9 dU jC (by first|exact .inl (Qa (by simpa using zE))|exact .inr (RM (by simpa using zE) (by simpa using gj)))).symm.trans Dr),WB,xE,Vq,w4,w4,(.inr (fun e=>by cases e)),rfl⟩
 obtain rfl:k=(t.ag[i.toNat]'aa).kids.length:=(by omega)
 obtain⟨d,rfl⟩:∃d,deep=some d:=(by rcases hdp with h|h;omega;exact Option.ne_none_iff_exists'.1 h)
 refine af [10] ?_;refine aI (SW t b bm m2 L2 uR uu uS) ?_;rw[←Dr,adp (Nat.le_refl _)];exact⟨rfl,L2,uR,uu,uS,Wz,jN,rfl,rfl⟩

end Go.Proofs.YtdgichenhdikgaaGreatDoor.Tw

namespace Go.Proofs.YtdgichenhdikgaaGreatDoor.Tw
open List
open Go.Proofs.Tryz
open Go.RowKit V Go.Proofs.YtdgichenhdikgaaGreatDoor.Tr Pk
theorem J4{G:List (Nat×List Value)}(t:aD)(hp:u6 t)(I:t.ag.length≤4000)(b Z:Nat):∀f,Vp G t b Z f
 | 0=>fun i low high level m L ad cap Sx hr E O U _ _ _=>by have h:m.length≤t.ag.length:=E.nY;exfalso;omega
 | f+1=>fun i low high level m L ad cap Sx hr E O U YK ni aQ=>abF t hp I b Z f (J4 t hp I b Z f) i low high level m L ad cap Sx hr E O U YK ni aQ
theorem Bv(t:aD):nU t ([],[]):=⟨nodup_nil,(fun x h=>by cases h),Nat.le_refl _,(fun l h=>by cases h),(fun l h=>by cases h)⟩
theorem J5{t:aD}{e:Int}:∀{l:List Int},eU t l e↔∀k (h:k<l.length),(t.pg l[k]).next=l.getD (k+1) e
  | []=>⟨(fun _ k h=>by cases h),fun _=>trivial⟩
  | [i] => ⟨fun h k hk => by obtain rfl : k=0 := by (simp at hk; exact hk)
                             exact h,fun h=>h 0 bn⟩
  | i::j::r=>by
    show(t.pg i).next=j∧eU t (j::r) e↔_;rw[J5 (l:=j::r)];constructor
    · rintro⟨h1,h2⟩ k hk;cases k with
      | zero=>exact h1
      | succ k=>exact h2 k (by simpa using hk)
    intro h;exact⟨h 0 bn,fun k hk=>h (k+1) (by simpa using hk)⟩
theorem Qc{p:cW}{n:Int}:BN p n=true↔eC p n:=by unfold BN;simp
section
variable {t:aD}
theorem OM(h:t.ag.length<1∨t.ag.length>4000∨t.root<0∨t.root≥t.ag.length):gv t=11:=by unfold gv;rw[if_pos h]
theorem aam(h:¬u6 t):gv t=11:=by
 unfold gv;split
 ·rfl
 first|rfl|rw[if_pos h]
variable {d:Nat} {m:List Int} {lv:List (List Int)}
theorem aan(hw:jm t (t.ag.length+1) t.root [] [] 0 ([],[])=none):gv t=11:=by
 unfold gv;split
 ·rfl
 split
 ·rfl
 rw[hw]
theorem abG(hw:jm t (t.ag.length+1) t.root [] [] 0 ([],[])=some (d,m,lv))(h:m.length≠t.ag.length):gv t=11:=by
 unfold gv;split
 ·rfl
 split
 ·rfl
 rw[hw];exact if_pos h
open Classical in
theorem abH(hw:jm t (t.ag.length+1) t.root [] [] 0 ([],[])=some (d,m,lv))(h:¬∀l∈lv,eU t l (-1)):gv t=11:=by
 unfold gv;split
 ·rfl
 split
 ·rfl
 rw[hw];show(if m.length≠t.ag.length then (11:Int) else if ∀l∈lv,eU t l (-1) then 0 else 11)=11;split
 ·rfl
 first|rfl|rw[if_neg h]
open Classical in
theorem abI(h1:¬(t.ag.length<1∨t.ag.length>4000∨t.root<0∨t.root≥t.ag.length))(h2:u6 t)(hw:jm t (t.ag.length+1) t.root [] [] 0 ([],[])=some (d,m,lv))(h3:m.length=t.ag.length)(h:∀l∈lv,eU t l (-1)):gv t=0:=by
 unfold gv;rw[if_neg h1,if_neg (fun hn=>hn h2),hw];show(if m.length≠t.ag.length then (11:Int) else if ∀l∈lv,eU t l (-1) then 0 else 11)=0;rw[if_neg (fun hn=>hn h3),if_pos h]
end
def yt(l:List Int):List D:=[av 1 cI l]
theorem afa(l:List Int):(yt l).length=1:=rfl
theorem TO{S:List ah}:∀{L:List dj},(∀o∈L,nq o)→(∀B∈L.flatMap dj.s,B∈S)→gw S (L.flatMap gV) ((L.map dj.l).flatMap yt)
 | [],_,_=>trivial
 | o::L,h,hs=>by
  rw[map_cons,flatMap_cons,flatMap_cons];refine gw.append ⟨lK (h o mem_cons_self) (cn ez _) (fun B E=>hs B ?_),trivial⟩ (TO (fun o ho=>h o (mem_cons_of_mem _ ho)) fun B E=>hs B ?_)
  ·rw[flatMap_cons];exact mem_append_left _ E
  rw[flatMap_cons];exact mem_append_right _ E
theorem agK{Sx:List ah}{L:List dj}{ad:Option Addr}{cap:Nat}{lv:List (List Int)}(ho:zV L ad cap Sx)(h:∀o∈L,nq o)(hm:L.map dj.l=lv):View (Sx++L.flatMap dj.s) (aN ad L.length cap) (av 1 yt lv):=by
 subst hm;have:=AX ho (TO (S:=Sx++L.flatMap dj.s) h fun B E=>mem_append_right _ E) (cn afa _ |>.trans bn) (fun B E=>mem_append_left _ E);first|rw[length_map]|(show View _ _ (.list _ _ (length _));rw[length_map])|(show View _ _ (.agg [.list _ _ (length _)]);rw[length_map])
 exact this
variable {G:List (Nat×List Value)}

theorem pL(t:aD)(hb:∀p∈t.ag,p.keys.length≤maxLen∧p.kids.length≤maxLen):VP Tryz.prog G 49 [.agg (cT t)] (ae (gv t)):=by
 refine VC.body func49 rfl ntmps49 aO fun X0 w0 bg=>?_;unfold cT;have c8:=dR;refine bU ?_;refine OD.box (ds:=[_,_]) ap rfl rfl ot rfl rfl (fun b1=>?_);refine an 104 [1] ?_;refine aB 5 ?_;refine bP 15 (fun B5 aii=>?_) (fun B5 aii=>?_)
 ·exact MZ
 refine aF 6 ?_;refine bP 21 (fun qL aij=>?_) (fun qL aij=>?_)
 ·exact MZ
 refine aF 5 ?_;refine bP 26 (fun akT K5=>?_) (fun akT K5=>?_)
 ·exact MZ
 refine bq [1,33] ?_;refine aq ?_ ?_<;>intro aP bC
 ·refine af [2] ?_;refine eJ ?_;exact⟨vi (OM w4).symm,rfl⟩
 refine af [1,35,36,37] ?_;refine eA [1,35,36] (fun aX _ (i:Nat) aG=>(i≤t.ag.length)∧(∀j (h:j<t.ag.length),j<i→eC t.ag[j] t.ag.length)∧aG=(⟨104,(37,ae (i:Nat))::aX,[⟨b1,51,2,[av 5 cP t.ag,ae t.root]⟩]⟩:St)) (fun (i:Nat)=>t.ag.length-i) 0 ⟨(Nat.zero_le _),(fun j h h0=>by omega),rfl⟩ ?_;rintro i _ ⟨hi,qm,rfl⟩;refine af [1,35,36,37,38] ?_;refine aq ?_ ?_<;>intro aZ cr
 ·have aa:i<t.ag.length:=(by omega)
  obtain⟨dU,fm⟩:=hb (t.ag[i]'aa) (getElem_mem aa);refine aB 2 ?_;refine OD.alloc (ds:=[_,_,_,_,_]) ap rfl rfl zeroValue153 rfl (fun b4=>?_);refine aR 0 [_,_,_,_,_] sizeOf153 ?_;refine an 104 [1,4,35,36,37] ?_;refine cz [1,35,36,37,46] (ae4 (t.ag[i]'aa) (t.ag.length:Nat) dU fm) ?_;refine aq ?_ ?_<;>intro bX cA
  ·have oK:¬u6 t:=fun h=>by have:=Qc.2 (h (t.ag[i]'aa) (getElem_mem aa));rw[this] at bX;cases bX
   refine af [2] ?_;refine aI [] ?_;exact⟨vi (aam oK).symm,rfl⟩
  have akU:eC (t.ag[i]'aa) t.ag.length:=Qc.1 (by simpa using bX);refine cc [1,35,36,37] ?_;refine⟨(i+1),_,cq,aK,w4,(fun j h h0=>by rcases Nat.lt_or_ge j i with q|q;exact qm j h q;obtain rfl:j=i:=w4;exact akU),rfl⟩
 have eY:u6 t:=fun p h=>by obtain⟨j,hj,rfl⟩:=mem_iff_getElem.1 h;exact qm j hj w4
 have h4:t.ag.length≤4000:=(by omega)
 have E:0≤t.root∧t.root<t.ag.length:=(by omega)
 refine aB 1 ?_;refine OD.aeq ap rfl rfl (fun O=>?_);refine aF 1 ?_;refine OD.box (ds:=[_,_,_,_]) ap rfl rfl ot rfl rfl (fun U=>?_);refine an 104 [1,5] ?_;refine CD.seq ?_;refine CD.seq ?_;rcases jC:jm t (t.ag.length+1) t.root [] [] 0 ([],[]) with _|⟨d,m,lv⟩
 ·refine gJ 14 (au (drop 2 _)) ?_ (fun _ h=>(Sublist.map _ (drop_sublist _ _)).subset h);refine aC 0 rfl bF ?_;refine aC 1 rfl (dF 1) ?_;refine aC 2 rfl (dI 2) ?_;refine dH.later rfl ?_;refine AD.one (i:=3) az ?_;refine bz.call rfl ap rfl rfl rfl call92 (VC.eo (args':=[cQ U,ae t.root,bH,bH,ae 0]) (J4 t eY h4 U O (t.ag.length+1) t.root [] [] 0 [] [] none 0 [] E (Bv t) (Nat.le_refl _) (Nat.le_refl _) w8 iy (fun o h=>by cases h)) ⟨.inl rfl,.inl rfl,.inr ⟨1,rfl,rfl⟩,.inr ⟨1,rfl,rfl⟩,.inl rfl,trivial⟩) ⟨ot,ot,bV,bV,bV,trivial⟩ (Perm.refl _) iD ?_;rintro r55 MU mR;rw[show map dj.l []=[] from rfl,jC] at mR;obtain⟨rfl,rfl⟩:=mR;refine cy 4 rfl nj ?_;refine cy 5 rfl bF ?_;refine AD.split (t:=57) lk (fun uq=>?_) (fun uq=>?_)
  ·have BJ:=uq;(try simp only[V.nJ,ne_eq] at BJ)
   refine qc 6 rfl ?_;refine qc 7 rfl ?_;refine qc 11 rfl ?_;refine qc 12 rfl ?_;refine qc 13 rfl ?_;refine AD.one (i:=8) az ?_;refine bz.skip rfl (mH rfl rfl rfl lk jn) rfl ?_;refine AD.one (i:=9) az ?_;refine bz.skip rfl (mH rfl rfl rfl lk jn) rfl ?_;refine AD.one (i:=10) az ?_;refine bz.skip rfl (mH rfl rfl rfl lk jn) rfl ?_;refine e9 ?_;refine bq [1,5,67] ?_;refine eD ?_;try have I:m.length≠t.ag.length:=by intro e;rw[e] at cN;simp at cN
   refine af [2] ?_;refine eJ ?_;exact⟨vi (aan jC).symm,rfl⟩
  exact absurd uq w8
 refine gJ 14 (au (drop 2 _)) ?_ (fun _ h=>(Sublist.map _ (drop_sublist _ _)).subset h);refine aC 0 rfl bF ?_;refine aC 1 rfl (dF 1) ?_;refine aC 2 rfl (dI 2) ?_;refine dH.later rfl ?_;refine AD.one (i:=3) az ?_;refine bz.call rfl ap rfl rfl rfl call92 (VC.eo (args':=[cQ U,ae t.root,bH,bH,ae 0]) (J4 t eY h4 U O (t.ag.length+1) t.root [] [] 0 [] [] none 0 [] E (Bv t) (Nat.le_refl _) (Nat.le_refl _) w8 iy (fun o h=>by cases h)) ⟨.inl rfl,.inl rfl,.inr ⟨1,rfl,rfl⟩,.inr ⟨1,rfl,rfl⟩,.inl rfl,trivial⟩) ⟨ot,ot,bV,bV,bV,trivial⟩ (Perm.refl _) iD ?_;rintro r55 MU mR;rw[show map dj.l []=[] from rfl,jC] at mR;obtain⟨rfl,L,ad,cap,Sx,ni,aQ,zW,rfl⟩:=mR;refine AD.perm (Perm.cons _ (Perm.cons _ (perm_append_singleton _ _))) ?_;refine cy 4 rfl nj ?_;refine cy 5 rfl bF ?_;refine AD.split (t:=57) lk (fun uq=>?_) (fun uq=>?_)
 ·exact absurd uq (by intro e;have e:=of_decide_eq_true e;omega)
 have BJ:=uq;(try simp only[V.nJ,ne_eq] at BJ)
 refine cy 6 rfl bF ?_;refine cy 7 rfl qb ?_;refine cy 11 rfl (dF 0) ?_;refine cy 12 rfl (dI 2) ?_;refine cy 13 rfl x7 ?_;refine AD.one (i:=8) az ?_;refine at_ rfl (dF 2) ?_;refine AD.one (i:=9) az ?_;refine at_ rfl (dI 0) ?_;refine AD.one (i:=10) az ?_;refine at_ rfl (Z7 (i:=1) rfl rfl ot rfl underlying156) ?_;refine e9 ?_;refine bq [1,5,67] ?_;refine aq ?_ ?_<;>intro cN dW
 ·try have I:m.length≠t.ag.length:=by intro e;rw[e] at cN;simp at cN
  refine af [2] ?_;refine eJ ?_;exact⟨vi (abG jC I).symm,rfl⟩
 have I:m.length=t.ag.length:=(by have:=cN;simp at this;omega)
 refine CD.wk (Wk.cover (A:=⟨U,159,4,[av 5 cP t.ag,ae t.root,.v (.map (some O)),aN ad L.length cap]⟩) (R:=[kX O m,⟨b1,51,2,[av 5 cP t.ag,ae t.root]⟩]) (Sd:=Sx++L.flatMap dj.s) (cs':=[av 5 cP t.ag,ae t.root,.v (.map (some O)),av 1 yt lv]) (Perm.refl _) ⟨eM,eM,eM,agK ni aQ zW,trivial⟩) ?_;obtain⟨Z,_⟩:=J2 eY _ _ _ _ _ _ _ _ E (Bv t) (Nat.le_refl _) jC;refine af [1,71,72,73] ?_;refine Yc (fun (i:Nat) aG=>(i≤lv.length)∧(∀j (_:j<i) (h:j<lv.length),eU t lv[j] (-1))∧aG=(⟨104,[(1,cQ b1),(71,av 1 yt lv),(72,ae (lv.length:Nat)),(73,ae (i:Nat))],[⟨b1,51,2,[av 5 cP t.ag,ae t.root]⟩]⟩:St)) (fun (i:Nat)=>lv.length-i) 0 ⟨(Nat.zero_le _),(fun j h _=>by omega),rfl⟩ ?_;rintro i _ ⟨kj,HG,rfl⟩;refine af [1,71,72,73,74] ?_;refine aq ?_ ?_<;>intro ec fh
 ·have fm:i<lv.length:=(by omega)
  have C7:∀x∈(lv[i]'fm),0≤x∧x<t.ag.length:=Z.el _ (getElem_mem fm);have mc:(lv[i]'fm).length≤m.length:=Z.each _ (getElem_mem fm);have YM:lv.length≤m.length:=Z.eE;refine af [1,7,71,72,73] ?_;refine af [1,7,71,72,73,77,78,79] ?_;refine Yc (fun (k:Nat) aG=>(k≤(lv[i]'fm).length)∧(∀j (_:j<k) (h:j<(lv[i]'fm).length),(t.pg (lv[i]'fm)[j]).next=(lv[i]'fm).getD (j+1) (-1))∧aG=(⟨104,[(1,cQ b1),(7,.list 1 ((lv[i]'fm).flatMap cI) (lv[i]'fm).length),(71,av 1 yt lv),(72,ae (lv.length:Nat)),(73,ae (i:Nat)),(77,.list 1 ((lv[i]'fm).flatMap cI) (lv[i]'fm).length),(78,ae ((lv[i]'fm).length:Nat)),(79,ae (k:Nat))],[⟨b1,51,2,[av 5 cP t.ag,ae t.root]⟩]⟩:St)) (fun (k:Nat)=>(lv[i]'fm).length-k) 0 ⟨(Nat.zero_le _),(fun j h _=>by omega),rfl⟩ ?_;rintro k _ ⟨hk,hn,rfl⟩;refine af [1,7,71,72,73,77,78,79,80] ?_;refine aq ?_ ?_<;>intro fj gA
  ·have dU:k<(lv[i]'fm).length:=(by omega)
   have N0:=C7 _ (getElem_mem dU);have fZ:((lv[i]'fm)[k]'dU).toNat<t.ag.length:=(by omega)
   have YN:t.pg ((lv[i]'fm)[k]'dU)=t.ag[((lv[i]'fm)[k]'dU).toNat]'fZ:=vn N0;refine af [1,7,8,9,71,72,73,77,78,79] ?_;refine af [1,7,8,9,10,71,72,73,77,78,79] ?_;refine CD.cut (fun aG=>aG=(⟨104,[(1,cQ b1),(7,.list 1 ((lv[i]'fm).flatMap cI) (lv[i]'fm).length),(9,ae ((lv[i]'fm)[k]'dU)),(10,ae ((lv[i]'fm).getD (k+1) (-1))),(71,av 1 yt lv),(72,ae (lv.length:Nat)),(73,ae (i:Nat)),(77,.list 1 ((lv[i]'fm).flatMap cI) (lv[i]'fm).length),(78,ae ((lv[i]'fm).length:Nat)),(79,ae (k:Nat))],[⟨b1,51,2,[av 5 cP t.ag,ae t.root]⟩]⟩:St)) ?_ ?_
   ·refine af [1,7,8,9,10,71,72,73,77,78,79,88] ?_;refine aq ?_ ?_<;>intro gL kU
    ·have ke:(lv[i]'fm).getD (k+1) (-1)=(lv[i]'fm)[k+1]'w4:=(by rw[getD_eq_getElem?_getD,getElem?_eq_getElem w4];rfl)
     refine ik [1,7,9,10,71,72,73,77,78,79] ?_;refine aS 3 ?_ (h:=by exact(dw 1 (h:=by first|exact .l (j:=k+1) w4 w4|exact .r (j:=k+1) w4 w4)));refine bI ?_;exact XJ
    have ke:(lv[i]'fm).getD (k+1) (-1) = -1:=(by rw[getD_eq_getElem?_getD,getElem?_eq_none w4];rfl)
    refine CD.skip ?_;exact XJ
   rintro _ ⟨rfl⟩;refine cL [1,7,71,72,73,77,78,79,101] ?_;refine aS 3 ?_ (h:=by exact(dw 5 (h:=by first|exact .l (j:=((lv[i]'fm)[k]'dU).toNat) (Int.toNat_of_nonneg N0.1).symm fZ|exact .r (j:=((lv[i]'fm)[k]'dU).toNat) (Int.toNat_of_nonneg N0.1).symm fZ)));refine bI ?_;refine aq ?_ ?_<;>intro gj lB
   ·have oK:¬∀l∈lv,eU t l (-1):=fun h=>by have:=J5.1 (h (lv[i]'fm) (getElem_mem fm)) k dU;rw[YN] at this;simp[this] at gj
    refine af [2] ?_;refine aI [] ?_;exact⟨vi (abH jC oK).symm,rfl⟩
   have oe:(t.pg ((lv[i]'fm)[k]'dU)).next=(lv[i]'fm).getD (k+1) (-1):=(by rw[YN];simpa using gj)
   refine cc [1,7,71,72,73,77,78,79] ?_;refine⟨(k+1),_,cq,aK,w4,(fun j h0 h=>by rcases Nat.lt_or_ge j k with q|q;exact hn j q h;obtain rfl:j=k:=w4;exact oe),rfl⟩
  have akV:eU t (lv[i]'fm) (-1):=J5.2 fun j hj=>hn j w4 hj;refine cc [1,71,72,73] ?_;refine⟨(i+1),_,cq,aK,w4,(fun j h0 h=>by rcases Nat.lt_or_ge j i with q|q;exact HG j q h;obtain rfl:j=i:=w4;exact akV),rfl⟩
 have nF:i=lv.length:=(by omega)
 refine af [2] ?_;refine aI [] ?_;exact⟨vi (abI w4 eY jC I fun l hl=>by obtain⟨j,hj,rfl⟩:=mem_iff_getElem.1 hl;exact HG j w4 hj).symm,rfl⟩

end Go.Proofs.YtdgichenhdikgaaGreatDoor.Tw

namespace Go.Proofs.YtdgichenhdikgaaGreatDoor.Tw
open List
open Go.Proofs.Tryz
open Go.RowKit V Tr Pk
variable {t:aD} {k:K}
noncomputable def lD(t:aD)(k:K):Int:=if gv t=0 then (if oM k=true then 0 else 1) else gv t
theorem ED(h:¬gv t=0):lD t k=gv t:=by unfold lD;rw[if_neg h]
theorem Ef(h:gv t=0)(hk:oM k=false):lD t k=1:=by unfold lD;rw[if_pos h,hk];rfl
theorem Jw(h:gv t=0)(hk:oM k=true):lD t k=0:=by unfold lD;rw[if_pos h,hk];rfl
def dB(t:aD)(k:K)(h:Nat):Int:=(t.pg (aH t k h t.root)).kids.getD (aL (t.pg (aH t k h t.root)) k) 0
noncomputable def findF(t:aD)(k:K)(h:Nat):Int×Int:=if lD t k=0 then (if iA t k h=true then (dB t k h,0) else (0,8)) else (0,lD t k)
theorem adr{h:Nat}(v:Valid t h):∀p∈t.ag,p.keys.length≤maxLen∧p.kids.length≤maxLen:=fun p hp=>by
 have po:=v.fy p hp;have c8:=dR;have h1:=po.eE;cases hl:p.leaf with
 | true=>have:=po.leaf hl;omega
 | false=>have:=(po.node hl).1;omega
theorem Ec{h:Nat}(v:Valid t h)(k:K):(iX t k h t.root).length≤1000000:=by
 rw[EO];have:=v.high;have:=v.nY;omega
theorem Jj(h:oM k=true):0<k.length∧k.length≤100:=of_decide_eq_true h
variable {G:List (Nat×List Value)}
theorem If(t:aD)(k:K)(hb:∀p∈t.ag,p.keys.length≤maxLen∧p.kids.length≤maxLen):VP Tryz.prog G 110 [.agg (cT t),av 1 cB k] (ae (lD t k)):=by
 refine VC.body func110 rfl ntmps110 aO fun X0 w0 bg=>?_;have eT:=pL (G:=G) t hb;unfold cT at eT;unfold cT;refine bU ?_;refine OD.box (ds:=[_,_]) ap rfl rfl ot rfl rfl (fun b2=>?_);refine an 14 [1,2] ?_;refine cz [1,5] (eT) ?_;refine af [1,5,9] ?_;refine aq ?_ ?_<;>intro aP bC
 ·have hn:¬gv t=0:=(by simpa using aP)
  exact XK
 have hz:gv t=0:=(by simpa using aP)
 refine cz [13] (zi k) ?_;refine aq ?_ ?_<;>intro aZ cr
 ·exact XK
 refine af [4] ?_;refine aI [] ?_;first|exact⟨vi (ED hn).symm,rfl⟩|exact⟨vi (Ef hz vL).symm,rfl⟩|exact⟨vi (Jw hz vL).symm,rfl⟩
theorem agL(t:aD)(h:Nat)(k:K)(hb:∀p∈t.ag,p.keys.length≤maxLen∧p.kids.length≤maxLen)(hv:gv t=0→Valid t h):VP Tryz.prog G 65 [.agg (cT t),av 1 cB k] (.di [ae (findF t k h).1,ae (findF t k h).2]):=by
 refine VC.body func65 rfl ntmps65 aO fun X0 w0 bg=>?_;have eT:=If (G:=G) t k hb;unfold cT at eT;unfold cT;have c8:=dR;refine bU ?_;refine OD.box (ds:=[_,_]) ap rfl rfl ot rfl rfl (fun b2=>?_);refine an 34 [1,2] ?_;refine cz [1,2,6] (eT) ?_;refine af [1,2,6,14] ?_;refine aq ?_ ?_<;>intro aP bC
 ·have hn:¬lD t k=0:=(by simpa using aP)
  refine af [4,5] ?_;refine aI [] ?_;exact⟨by unfold findF;rw[if_neg hn],rfl⟩
 have hz:lD t k=0:=(by simpa using aP)
 have hc:gv t=0:=Classical.byContradiction fun e=>by rw[ED e] at hz;exact e hz
 have U:oM k=true:=(by cases hq:oM k with|true=>rfl|false=>rw[Ef hc hq] at hz;cases hz)
 have v:=hv hc;have dU:=Jj U;have fL:=qA (G:=G) t h v k w4 (Ec v k);unfold cT at fL;obtain⟨q1,E⟩:=v.leaf k;have aa:(aH t k h t.root).toNat<t.ag.length:=(by omega)
 have I:t.pg (aH t k h t.root)=(t.ag[(aH t k h t.root).toNat]'aa):=vn q1;refine cz [2,7,8,9] (fL) ?_;refine af [2,7,8,24] ?_;refine aq ?_ ?_<;>intro aZ cr
 ·have iQ:iA t k h=false:=(by simpa using aZ)
  refine af [4,5] ?_;refine aI [] ?_;exact⟨by unfold findF;rw[if_pos hz,if_neg xO],rfl⟩
 have iQ:iA t k h=true:=(by simpa using aZ)
 obtain⟨ha,NG⟩:=(Eb v k).1 iQ;have po:=v.fy _ (jw q1);have hle:=po.leaf E;have O:aL (t.pg (aH t k h t.root)) k<(t.pg (aH t k h t.root)).kids.length:=(by omega)
 have Z:aL (t.ag[(aH t k h t.root).toNat]'aa) k<(t.ag[(aH t k h t.root).toNat]'aa).kids.length:=(by rw[←I];exact O)
 rw[I];refine cL [4,5] ?_;refine aS 3 ?_ (h:=by exact(dw 5 (h:=by first|exact .l (j:=(aH t k h t.root).toNat) (Int.toNat_of_nonneg q1.1).symm aa|exact .r (j:=(aH t k h t.root).toNat) (Int.toNat_of_nonneg q1.1).symm aa)));refine bI ?_;refine aI [] ?_;exact⟨by unfold findF dB;rw[if_pos hz,if_pos iQ,I,tO Z],rfl⟩
theorem abJ{S:List ah}:gw S [bJ true,bH,bH,bH,ae (-1)] (cP (⟨true,[],[],[],-1⟩:cW)):=⟨eM,yL,yL,yL,eM,trivial⟩
theorem agM(E:True):VC Tryz.prog G 83 [] [] (fun r S=>∃b,r = .agg [aN (some ⟨b,0,none⟩) 1 1,ae 0]∧S=[⟨b,153,5,[bJ true,bH,bH,bH,ae (-1)]⟩]):=by
 refine VC.body func83 rfl ntmps83 aO fun X0 w0 bg=>?_;refine bU ?_;refine OD.alloc (ds:=[_,_]) ap rfl rfl zeroValue51 rfl (fun b0=>?_);refine an 4 [0] ?_;refine aB 1 ?_;refine en (cf 0 [_]) [.bool false,.slice none 0 0,.slice none 0 0,.slice none 0 0,.int .i64 0] [_,_,_,_,_] zeroValue153 runUnderlying49 sizeOf153 (fun b2=>?_);refine aF 1 ?_;refine aR 1 [_,_] sizeOf51 ?_;refine an 4 [0] ?_;refine aI [_] ?_;exact⟨_,rfl,rfl⟩
theorem agN:VP Tryz.prog G 83 [] (.agg (cT p8)):=VC.cover (agM trivial) fun r S ⟨b,hr,hS⟩=>by
 subst hr;subst hS;exact uY ⟨Pz (cs:=[bJ true,bH,bH,bH,ae (-1)]) (e:=153) (size:=5) mem_cons_self abJ rfl (Nat.le_refl _) w8,eM,trivial⟩

end Go.Proofs.YtdgichenhdikgaaGreatDoor.Tw
namespace Go.Proofs.YtdgichenhdikgaaGreatDoor.Tr
open List
open Go.Proofs.Tryz
open Go.Lib (compareBytes)
variable {t:aD} {k:K} {row:Int}
variable {h m:Nat} {u:aD} {up:K}
def dc(t:aD)(k:K):Nat→Int→Nat→Int
 | 0,i,_=>i
 | h+1,i,m=>if m=h+1 then i else dc t k h ((t.pg i).kids.getD (aL (t.pg i) k) 0) m
theorem IJ:∀(h:Nat) (i:Int),dc t k h i h=i
 | 0,_=>rfl
 | h+1,i=>by rw[dc,if_pos rfl]
theorem AV:∀{h:Nat} {i:Int} {m:Nat},m<h→dc t k h i m=(t.pg (dc t k h i (m+1))).kids.getD (aL (t.pg (dc t k h i (m+1))) k) 0
 | 0,_,_,hm=>by omega
 | h+1,i,m,hm=>by
  rw[dc,if_neg w4,dc];by_cases e:m=h
  ·subst e;rw[IJ,if_pos rfl]
  rw[if_neg w4];exact AV w4
theorem Qd:∀{h:Nat} {i:Int} {m:Nat},m≤h→(iX t k h i)[h-m]?=some (dc t k h i m)
 | 0,i,m,_=>by
  obtain rfl:m=0:=(by omega)
  rfl
 | h+1,i,m,hm=>by
  rw[iX,dc];by_cases e:m=h+1
  ·subst e;rw[if_pos rfl,Nat.sub_self];rfl
  rw[if_neg e,show h+1-m=(h-m)+1 from by omega,getElem?_cons_succ];exact Qd w4
theorem EP{n:Int}(hp:∀p∈t.ag,eC p n):∀{h:Nat} {i:Int} {low high:K},dO t h i low high→(ids t h i).Nodup→lI low high k→(∀x∈ei t h i,x.1≠k)→∀m,m≤h →
  ∃lo hi,dO t m (dc t k h i m) lo hi∧(ids t m (dc t k h i m)).Nodup∧lI lo hi k∧∀x∈ei t m (dc t k h i m),x.1≠k
 | 0,i,low,high,ok,nd,hk,hn,m,hm=>by
  obtain rfl:m=0:=(by omega)
  exact⟨low,high,ok,nd,hk,hn⟩
 | h+1,i,low,high,ok,nd,hk,hn,m,hm=>by
  by_cases e:m=h+1
  ·subst e;rw[IJ];exact⟨low,high,ok,nd,hk,hn⟩
  obtain⟨q1,q2,E,O,I⟩:=id ok;have po:=hp _ (jw q1);obtain⟨d1,d2⟩:=down po q2 E hk;have:=EP hp (I _ d1) (wj d1 nd).1 d2 (fun x hx=>hn x MI) m w4;rw[←tO d1] at this;rw[dc,if_neg e];exact this
structure agO (u:aD) (i:Int) (up:K) (aA:Int):Prop where
 fy:∀p∈u.ag,eC p u.ag.length
 rg:0≤i∧i<u.ag.length
 out:up∉(u.pg i).keys
 len:1≤up.length∧up.length≤100
 high:(u.pg i).high≠[]→bA up (u.pg i).high
 nn:0≤aA
 nnl:(u.pg i).leaf=false→aA<u.ag.length
def kE(t:aD)(k:K)(row:Int)(h m:Nat):aD×Option (K×Int):=if m=0 then (t,some (k,row)) else gq t k row (m-1) (dc t k h t.root (m-1))
theorem RN(h:Nat):kE t k row h (h+1)=gq t k row h t.root:=by unfold kE;rw[if_neg w4,Nat.add_sub_cancel,IJ]
theorem Qe(hm:m≤h){aA:Int}(e:kE t k row h m=(u,some (up,aA))):kE t k row h (m+1)=rH u (dc t k h t.root m) up aA:=by
 unfold kE at e ⊢;rw[if_neg w4,Nat.add_sub_cancel];cases m with
 | zero=>rw[if_pos rfl] at e;injection e with e1 e2;injection e2 with e2;injection e2 with e2 E;subst e1 e2 E;rw[gq]
 | succ m=>rw[if_neg w4,Nat.add_sub_cancel,AV w4] at e;rw[gq,e]
theorem abK(h0:0<m)(hm:m≤h)(e:kE t k row h m=(u,none)):kE t k row h (m+1)=(u,none):=by
 unfold kE at e ⊢;rw[if_neg w4,Nat.add_sub_cancel];cases m with
 | zero=>omega
 | succ m=>rw[if_neg w4,Nat.add_sub_cancel,AV w4] at e;rw[gq,e]
theorem Qf{h:Nat}{u:aD}:∀(d m:Nat),m+d=h+1→0<m→kE t k row h m=(u,none)→gq t k row h t.root=(u,none)
 | 0,m,hm,_,e=>by
  obtain rfl:m=h+1:=(by omega)
  rw[←RN];exact e
 | d+1,m,hm,h0,e=>Qf d (m+1) w4 w4 (abK h0 w4 e)
theorem RO(v:Valid t h)(hn:∀x∈kZ t h,x.1≠k)(hl:1≤k.length∧k.length≤100)(hr:0≤row)(hm:m≤h):∃lo hi,dO t m (dc t k h t.root m) lo hi∧lI lo hi k∧oU t (gq t k row m (dc t k h t.root m)).1 m (dc t k h t.root m) lo hi k row (gq t k row m (dc t k h t.root m)).2:=by
 obtain⟨lo,hi,ok,nd,hk,hne⟩:=EP v.fy v.ok v.zU (tY k) hn m hm;exact⟨lo,hi,ok,hk,Fz v.fy ok nd hk hne hl hr⟩
theorem IK(v:Valid t h)(hn:∀x∈kZ t h,x.1≠k)(hl:1≤k.length∧k.length≤100)(hr:0≤row)(hm:m≤h+1){r:Option (K×Int)}(e:kE t k row h m=(u,r)):u.root=t.root∧u.ag.length≤t.ag.length+m∧t.ag.length≤u.ag.length∧∀p∈u.ag,eC p u.ag.length:=by
 unfold kE at e;cases m with
 | zero=>rw[if_pos rfl] at e;injection e with e1 e2;subst e1;exact⟨rfl,Nat.le_refl _,Nat.le_refl _,v.fy⟩
 | succ m =>
  rw[if_neg w4,Nat.add_sub_cancel] at e;obtain⟨lo,hi,_,_,I⟩:=RO v hn hl hr (m:=m) w4;rw[e] at I;exact⟨I.root,I.more,I.le,I.fy⟩
theorem afb(v:Valid t h)(hn:∀x∈kZ t h,x.1≠k)(hl:1≤k.length∧k.length≤100)(hr:0≤row)(hm:m≤h+1){aA:Int}(e:kE t k row h m=(u,some (up,aA))):up.length≤100:=by
 unfold kE at e;cases m with
 | zero=>rw[if_pos rfl] at e;injection e with e1 e2;injection e2 with e2;injection e2 with e2 E;subst e2;exact hl.2
 | succ m =>
  rw[if_neg w4,Nat.add_sub_cancel] at e;obtain⟨lo,hi,_,_,I⟩:=RO v hn hl hr (m:=m) w4;rw[e] at I;exact I.ok.1.2
theorem afc(v:Valid t h)(hn:∀x∈kZ t h,x.1≠k)(hl:1≤k.length∧k.length≤100)(hr:0≤row)(hm:m≤h){aA:Int}(e:kE t k row h m=(u,some (up,aA))):agO u (dc t k h t.root m) up aA:=by
 cases m with
 | zero =>
  unfold kE at e;rw[if_pos rfl] at e;injection e with e1 e2;injection e2 with e2;injection e2 with e2 e3;subst e1 e2 e3
  obtain⟨lo,hi,⟨q1,q2,O,q4⟩,nd,hk,hne⟩:=EP v.fy v.ok v.zU (tY k) hn 0 hm;refine⟨v.fy,q1,fun hm=>?_,hl,fun E=>?_,hr,fun h=>by rw[q2] at h;cases h⟩
  ·have po:=v.fy _ (jw q1);have hlen:=po.leaf q2;obtain⟨a,ha,he⟩:=mem_iff_getElem.1 hm;exact hne (k,(t.pg (dc t k h t.root 0)).kids[a]'w4) ((A4 hlen).2 ⟨a,ha,by rw[he]⟩) rfl
  rw[O] at E ⊢;exact hk.2 E
 | succ m =>
  obtain⟨s1,s2,s3,s4⟩:=IK v hn hl hr w4 e;unfold kE at e;rw[if_neg w4,Nat.add_sub_cancel] at e;obtain⟨lo,hi,ok,nd,hk,hne⟩:=EP v.fy v.ok v.zU (tY k) hn (m+1) hm;obtain⟨q1,q2,O,q4,q5⟩:=id ok;have po:=v.fy _ (jw q1);obtain⟨d1,d2⟩:=down po q2 O hk;have U:=Fz (row:=row) v.fy (q5 _ d1) (wj d1 nd).1 d2 (fun x hx=>hne x MI) hl hr;rw[←tO d1,←AV w4,e,AV w4] at U;have M:jt t u m (dc t k h t.root (m+1)) lo hi (aL (t.pg (dc t k h t.root (m+1))) k) k row (some (up,aA)):=⟨v.fy,ok,nd,d1,d2,U⟩
  obtain⟨m1,m2,m3,m4⟩:=M.place;have Z:=M.same;obtain⟨o1,o2,o3,o4,o5⟩:(1≤up.length∧up.length≤100)∧_∧_∧_∧dO u m aA up _:=U.ok;have I:=o5.idx;refine⟨s4,⟨q1.1,by omega⟩,by rw[Z];exact m2,o1,fun E=>?_,I.1,fun _=>I.2⟩;rw[Z,O] at E ⊢;exact m3.2 E

end Go.Proofs.YtdgichenhdikgaaGreatDoor.Tr
namespace Go.Proofs.YtdgichenhdikgaaGreatDoor.Tr
open List
open Go.Proofs.Tryz
open Go.Lib (compareBytes)
variable {t:aD} {h:Nat} {k:K}
variable {i:Int}
noncomputable def lU(t:aD)(h:Nat)(k:K):List (K×Int):=(kZ t h).filter fun x=>decide (¬bA x.1 k)
def iV(t:aD)(ls:List Int):List (K×Int):=ls.flatMap fun l=>eR (t.pg l)
theorem eU.tail{r:List Int}{e:Int}(h:eU t (i::r) e):eU t r e:=by
 cases r with
 | nil=>trivial
 | cons j r=>exact h.2
theorem eU.next{i:Int}{r:List Int}{e:Int}(h:eU t (i::r) e):(t.pg i).next=r.headD e:=by
 cases r with
 | nil=>exact h
 | cons j r=>exact h.1
theorem eU.drop{e:Int}:∀{a b:List Int},eU t (a++b) e→eU t b e
 | [],_,h=>h
 | i::a,b,h=>eU.drop (a:=a) (eU.tail h)
theorem RP:∀{h:Nat} {i:Int} {low high:K},dO t h i low high→∀l∈cu t h i,(0≤l∧l<t.ag.length)∧(t.pg l).leaf=true
 | 0,i,low,high,ok,l,hl=>by
  rw[cu,mem_singleton] at hl;subst hl;exact⟨ok.1,ok.2.1⟩
 | h+1,i,low,high,ok,l,hl=>by
  obtain⟨q1,q2,I,O,E⟩:=ok;rw[cu] at hl;obtain⟨c,hc,hl⟩:=mem_flatMap.1 hl;obtain⟨j,hj,rfl⟩:=mem_iff_getElem.1 hc;exact RP (E j hj) l hl
structure rA (t:aD) (ls:List Int):Prop where
 pF:eU t ls (-1)
 at_:∀l∈ls,(0≤l∧l<t.ag.length)∧(t.pg l).leaf=true
theorem rA.tail{i:Int}{r:List Int}(h:rA t (i::r)):rA t r:=⟨eU.tail h.pF,fun l hl=>h.at_ l (mem_cons_of_mem _ hl)⟩
theorem rA.head{ls:List Int}(h:rA t ls):(0≤ls.headD (-1)→∃r,ls=ls.headD (-1)::r)∧(ls.headD (-1)<0→ls=[]):=by
 cases ls with
 | nil=>exact⟨fun h=>by simp at h,fun _=>rfl⟩
 | cons i r=>exact⟨fun _=>⟨r,rfl⟩,fun h0=>by have:=(h.at_ i mem_cons_self).1;simp at h0;omega⟩
theorem Pf(v:Valid t h):rA t (cu t h t.root):=⟨v.pF h (Nat.le_refl _),RP v.ok⟩
theorem Ep(v:Valid t h){l:Int}(hl:(0≤l∧l<t.ag.length)∧(t.pg l).leaf=true):(eR (t.pg l)).length=(t.pg l).keys.length:=by
 have:=(v.fy _ (jw hl.1)).leaf hl.2;unfold eR;rw[length_zip];omega
theorem aao(v:Valid t h)(k:K):∃r,rA t (aH t k h t.root::r)∧lU t h k=(iV t (aH t k h t.root::r)).drop (aL (t.pg (aH t k h t.root)) k)∧aL (t.pg (aH t k h t.root)) k≤(t.pg (aH t k h t.root)).keys.length:=by
 obtain⟨pre,post,e,he⟩:=abn v.fy v.ok (tY k);have hL:=Pf v;have hl:=v.leaf k;have fK:aL (t.pg (aH t k h t.root)) k≤(t.pg (aH t k h t.root)).keys.length:=by
  unfold aL;split
  ·exact yR _ _
  exact Bf _ _
 rw[e] at hL;refine⟨post,⟨eU.drop hL.pF,fun l hl=>hL.at_ l (mem_append_right _ hl)⟩,?_,fK⟩;unfold lU kZ;rw[he];unfold iV;rw[flatMap_cons,drop_append_of_le_length (by rw[Ep v hl];exact fK)]
theorem abL(v:Valid t h){r:List Int}(hL:rA t (i::r)){a:Nat}(ha:a<(t.pg i).keys.length)(hk:a<(t.pg i).kids.length) :
  (iV t (i::r)).drop a=((t.pg i).keys[a],(t.pg i).kids[a])::(iV t (i::r)).drop (a+1):=by
 have hi:=hL.at_ i mem_cons_self;have hlen:=Ep v hi;have h1:a<(iV t (i::r)).length:=(by unfold iV;rw[flatMap_cons,length_append];omega)
 rw[drop_eq_getElem_cons h1];congr 1;unfold iV;simp only[flatMap_cons];rw[getElem_append_left w4];unfold eR;rw[getElem_zip]
theorem aap(v:Valid t h){r:List Int}(hL:rA t (i::r)){a:Nat}(ha:a=(t.pg i).keys.length):(iV t (i::r)).drop a=(iV t r).drop 0:=by
 have hi:=hL.at_ i mem_cons_self;have hlen:=Ep v hi;unfold iV;rw[flatMap_cons,drop_zero,drop_append_of_le_length w4,drop_eq_nil_of_le w4];rfl
theorem ads(v:Valid t h):kZ t h=iV t (cu t h t.root):=wB t h t.root
theorem IL(v:Valid t h):(kZ t h).Pairwise fun x y=>bA x.1 y.1:=(JY v.fy v.ok).1
theorem Qg(v:Valid t h)(k:K):(lU t h k).Pairwise fun x y=>bA x.1 y.1:=(IL v).filter _
theorem adt(t:aD)(h:Nat):lU t h []=kZ t h:=by
 unfold lU;rw[filter_eq_self.2];intro x _;simpa using Ky x.1
theorem adu(v:Valid t h):(kZ t h).length≤4*t.ag.length:=by
 have key:∀(ls:List Int),(∀l∈ls,(0≤l∧l<t.ag.length)∧(t.pg l).leaf=true)→(iV t ls).length≤4*ls.length:=by
  intro ls;induction ls with
  | nil=>intro _;simp[iV]
  | cons i r ih =>
   intro hl;have h1:=Ep v (hl i mem_cons_self);have h2:=(v.fy _ (jw (hl i mem_cons_self).1)).eE;have h3:=ih fun l E=>hl l (mem_cons_of_mem _ E);unfold iV at h3 ⊢;rw[flatMap_cons,length_append,length_cons];omega
 have I:(cu t h t.root).length≤(ids t h t.root).length:=by
  have:∀(h:Nat) (i:Int),(cu t h i).length≤(ids t h i).length:=by
   intro h;induction h with
   | zero=>intro i;simp[cu,ids]
   | succ h ih =>
    intro i;rw[cu,ids,length_cons,length_flatMap,length_flatMap];have:∀(l:List Int),(l.map fun a=>(cu t h a).length).sum≤(l.map fun a=>(ids t h a).length).sum:=by
     intro l;induction l with
     | nil=>simp
     | cons a l O=>simp only[map_cons,sum_cons];have:=ih a;omega
    have:=this (t.pg i).kids;omega
  exact this h t.root
 rw[ads v];have:=key _ (Pf v).at_;rw[v.all] at I;omega
theorem RQ(v:Valid t h)(k:K):(lU t h k).length≤16000:=by
 have:=adu v;have h1:=v.nY;have:(lU t h k).length≤(kZ t h).length:=(filter_sublist).length_le;omega

end Go.Proofs.YtdgichenhdikgaaGreatDoor.Tr
namespace Go.Proofs.YtdgichenhdikgaaGreatDoor.Tw
open List
open Go.Proofs.Tryz
open Go.RowKit V Tr Pk
def cE(e:K×Int):List D:=[av 1 cB e.1,ae e.2]
theorem Up(e:K×Int):(cE e).length=2:=rfl
def Gx(e:K×Int):List D:=[.agg (cE e)]
theorem agP(b:UInt8):fH (cB b)=true:=rfl
theorem zj(k:K):fH (k.flatMap cB)=true:=u5 agP k
theorem zk(e:K×Int):fH (cE e)=true:=by simp[cE,fH,iH,zj]
theorem adw(e:K×Int):fH (Gx e)=true:=by simp[Gx,fH,iH,zk]
def K6(t:aD)(k:K):List D:=[.fx [av 5 cP t.ag,ae t.root] 0,.fx [av 1 cB k] 0]
variable {G:List (Nat×List Value)}
theorem sb : ∀ w, ((#[{ name := "Key", type := 88, offset := 0, embedded := false, tag := "", pkgPath := "", byteOffset := 0 }, { name := "Row", type := 3, offset := 1, embedded := false, tag := "", pkgPath := "", byteOffset := 24 }] : Array Field).mapM fun f => do pure (f.offset, ← sizeOf f.type) : Sem (Array (Nat × Nat))).run Tryz.prog w = .ok #[(0, 1), (1, 1)] w := fun w => by simp [sizeOf3, sizeOf88]
theorem adA(t:aD)(h:Nat)(v:Valid t h)(k:K)(dU:k.length≤maxLen):VI Tryz.prog G 93 (K6 t k) Gx (fun xs=>xs=lU t h k) (fun pre=>pre <+: lU t h k) (lU t h k).length:=by
 refine VI.body func93 rfl ntmps93 aO fun Y X0 w0 bg Sc0 hYe hYN O hY hJ0=>?_;have c8:=dR;have fL:=qA (G:=G) t h v k w4 (Ec v k);unfold cT at fL;obtain⟨r0,hL0,akW,Wu⟩:=aao v k;obtain⟨y1,y2,y3⟩:=(by exact⟨hYe,hYN,O⟩:Y.enc=Gx∧Y.N=(lU t h k).length∧w0.heap.size≤Y.l)
 refine cz [0,1,4,5] (fL) ?_;refine CD.block ?_;refine nl (fun (U:List Int×Nat×List (K×Int)×List ah) aG=>match U with|(ls,a,pre,Sc)=>(rA t ls)∧(lU t h k=pre++(iV t ls).drop a)∧((∀x∈head? ls,a≤(t.pg x).keys.length))∧(Y.J pre Sc)∧aG=(⟨46,[(0,.kg Y.l Y.os),(1,.fx [av 5 cP t.ag,ae t.root] 0),(4,ae (headD ls (-1))),(5,ae (a:Nat))],Sc⟩:St)) (fun (U:List Int×Nat×List (K×Int)×List ah)=>match U with|(ls,a,pre,Sc)=>length ls) ((aH t k h t.root::r0),(aL (t.pg (aH t k h t.root)) k),[],Sc0) ⟨hL0,(by rw[nil_append];exact akW),(fun x hx=>by simp at hx;subst hx;exact Wu),hJ0,rfl⟩ (aK (h:=by repeat (first|exact trivial|refine⟨(by (repeat (first|exact fu|(apply fT;focus (first|rfl|(simp;done)|(rw[←gK,eU.next hL.pF])))|(apply fC;focus rfl)));done),?_⟩))) ?_;rintro⟨ls,a,pre,Sc⟩ _ ⟨hL,N1,fK,hj,rfl⟩;refine af [0,1,4,5,16] ?_;refine aq ?_ ?_<;>intro aP bC
 ·have NT:0≤headD ls (-1):=(by simpa using aP)
  obtain⟨r,hr⟩:=(rA.head hL).1 NT;obtain⟨i,hi⟩:∃i,i=headD ls (-1):=⟨_,rfl⟩
  rw[←hi] at hr NT;subst hr;obtain⟨AF,K3⟩:=hL.at_ i mem_cons_self;have aa:i.toNat<t.ag.length:=(by omega)
  have gK:t.pg i=t.ag[i.toNat]:=vn AF;have po:=v.fy _ (jw AF);have L6:=po.leaf K3;have mU:=po.eE;have WD:=fK i rfl;have Vr:=v.nY;rw[gK] at po L6 mU WD;refine aB 3 ?_;refine bN (dw 5 (h:=by first|exact .l (j:=i.toNat) (by show headD (i::r) (-1)=_;simp;omega) aa|exact .r (j:=i.toNat) (by show headD (i::r) (-1)=_;simp;omega) aa)) ?_;refine bN (cR (mk:=Op.load 153) rfl ot (by exact jZ (i:=i.toNat) FB isAgg153 sizeOf153 aa)) ?_;refine OD.alloc (ds:=[_,_,_,_,_]) ap rfl rfl zeroValue153 rfl (fun b7=>?_);refine aR 0 [_,_,_,_,_] sizeOf153 ?_;refine an 46 [0,1,5,7] ?_;refine eA [0,1,7] (fun aX _ (U:Nat×List (K×Int)×List ah) aG=>match U with|(a,E,I)=>(lU t h k=E++(iV t (i::r)).drop a)∧(a≤((t.ag[i.toNat]'aa)).keys.length)∧(Y.J E I)∧aG=(⟨46,(5,ae (a:Nat))::aX,(⟨b7,153,5,cP (t.ag[i.toNat]'aa)⟩::I)⟩:St)) (fun (U:Nat×List (K×Int)×List ah)=>match U with|(a,E,I)=>((t.ag[i.toNat]'aa)).keys.length-a) (a,pre,Sc) ⟨N1,WD,hj,rfl⟩ ?_;rintro⟨a,E,I⟩ _ ⟨pV,aqD,Z,rfl⟩;refine af [0,1,5,7,26] ?_;refine aq ?_ ?_<;>intro aZ cr
  ·have qh:a<((t.ag[i.toNat]'aa)).keys.length:=(by have:=aZ;simp at this;omega)
   have uT:a<((t.ag[i.toNat]'aa)).kids.length:=(by omega)
   have jg:(iV t (i::r)).drop a=(((t.ag[i.toNat]'aa)).keys[a],((t.ag[i.toNat]'aa)).kids[a])::(iV t (i::r)).drop (a+1):=(by have:=abL v hL (a:=a) (by rw[gK];exact qh) (by rw[gK];exact uT);simp only[gK] at this;exact this)
   have lp:((t.ag[i.toNat]'aa)).keys[a].length≤100:=(by have:=(po.lC _ (getElem_mem qh)).2;omega)
   refine CD.skip ?_;refine CD.seq ?_;refine CD.block ?_;refine CD.seq ?_;refine CD.aer az ?_;refine fR 0 rfl bF ?_;refine fR 1 rfl (dF 1) ?_;refine fR 3 rfl bF ?_;refine fR 7 rfl (dF 2) ?_;refine fR 9 rfl bF ?_;refine AI.two (i:=2) (j:=8) az ?_ ?_
   ·refine kM rfl (dI 0) ?_;refine fR 4 rfl (dw 1 (h:=by first|exact .l (j:=a) rfl qh|exact .r (j:=a) rfl qh)) ?_;refine AI.two (i:=5) (j:=8) az ?_ ?_
    ·refine kM rfl eN ?_;refine AI.two (i:=6) (j:=8) az ?_ ?_
     ·refine gF.gZ rfl ap rfl rfl rfl call95 (mj (((t.ag[i.toNat]'aa)).keys[a]) w4) ⟨ot,trivial⟩ ?_;refine AI.one (i:=8) az ?_;refine kM rfl (dI 0) ?_;refine fR 10 rfl (dw 1 (h:=by first|exact .l (j:=a) rfl uT|exact .r (j:=a) rfl uT)) ?_;refine AI.one (i:=11) az ?_;refine kM rfl eN ?_;refine fR 12 rfl (nO (pl:=[(0,_),(1,_)]) (ds:=[_,_]) rfl zeroValue90 runUnderlying90 sb ⟨rfl,ot,rfl,ot,trivial⟩ rfl rfl) ?_;refine AI.one (i:=13) az ?_;refine gF.yield (Y:=Y) (pre:=E) (y:=(((t.ag[i.toNat]'aa)).keys[a],((t.ag[i.toNat]'aa)).kids[a])) (Sc:=I) (R:=[⟨b7,153,5,cP (t.ag[i.toNat]'aa)⟩]) rfl ap rfl rfl ot aO lk s5 (perm_append_singleton _ _).symm Z sY hY O w8 (fun Ds N2=>?_) (fun Ds N2=>?_)
      ·refine AI.perm (perm_append_singleton _ _) ?_;refine fR 14 rfl lm ?_;refine AI.wk (y:=⟨46,[(0,_),(1,_),(5,_),(7,_),(43,_)],(⟨b7,153,5,[_,_,_,_,_]⟩::Ds)⟩) (Wk.dG rfl rfl fa) ?_;refine AI.done az ?_;refine fJ ?_;refine cc [0,1,5,7] ?_;refine⟨((a+1),(E++[(((t.ag[i.toNat]'aa)).keys[a],((t.ag[i.toNat]'aa)).kids[a])]),Ds),_,cq,aK,sW,w4,N2,rfl⟩
      refine fR 14 rfl lm ?_;refine AI.wk (y:=⟨46,[(0,_),(43,_)],(Ds)⟩) (Wk.dG rfl rfl fa) ?_;refine AI.done az ?_;refine eD ?_;refine CD.ret ?_;refine⟨.inr rfl,⟨_,qv results93⟩,(show 0<46 by decide),Ds,Sublist.refl _,?_⟩;exact .inr ⟨E++[(((t.ag[i.toNat]'aa)).keys[a],((t.ag[i.toNat]'aa)).kids[a])],⟨(iV t (i::r)).drop (a+1),by rw[pV,jg,append_assoc];rfl⟩,N2,lk⟩
     refine kM rfl (dI 0) ?_;refine fR 10 rfl (dw 1 (h:=by first|exact .l (j:=a) rfl uT|exact .r (j:=a) rfl uT)) ?_;refine AI.two (i:=6) (j:=11) az ?_ ?_
     ·refine gF.gZ rfl ap rfl rfl rfl call95 (mj (((t.ag[i.toNat]'aa)).keys[a]) w4) ⟨ot,trivial⟩ ?_;refine AI.one (i:=11) az ?_;refine kM rfl eN ?_;refine fR 12 rfl (nO (pl:=[(0,_),(1,_)]) (ds:=[_,_]) rfl zeroValue90 runUnderlying90 sb ⟨rfl,ot,rfl,ot,trivial⟩ rfl rfl) ?_;refine AI.one (i:=13) az ?_;refine gF.yield (Y:=Y) (pre:=E) (y:=(((t.ag[i.toNat]'aa)).keys[a],((t.ag[i.toNat]'aa)).kids[a])) (Sc:=I) (R:=[⟨b7,153,5,cP (t.ag[i.toNat]'aa)⟩]) rfl ap rfl rfl ot aO lk s5 (perm_append_singleton _ _).symm Z sY hY O w8 (fun I N3=>?_) (fun I N3=>?_)
      ·refine AI.perm (perm_append_singleton _ _) ?_;refine fR 14 rfl lm ?_;refine AI.wk (y:=⟨46,[(0,_),(1,_),(5,_),(7,_),(43,_)],(⟨b7,153,5,[_,_,_,_,_]⟩::I)⟩) (Wk.dG rfl rfl fa) ?_;refine AI.done az ?_;refine fJ ?_;refine cc [0,1,5,7] ?_;refine⟨((a+1),(E++[(((t.ag[i.toNat]'aa)).keys[a],((t.ag[i.toNat]'aa)).kids[a])]),I),_,cq,aK,sW,w4,N3,rfl⟩
      refine fR 14 rfl lm ?_;refine AI.wk (y:=⟨46,[(0,_),(43,_)],(I)⟩) (Wk.dG rfl rfl fa) ?_;refine AI.done az ?_;refine eD ?_;refine CD.ret ?_;refine⟨.inr rfl,⟨_,qv results93⟩,(show 0<46 by decide),I,Sublist.refl _,?_⟩;exact .inr ⟨E++[(((t.ag[i.toNat]'aa)).keys[a],((t.ag[i.toNat]'aa)).kids[a])],⟨(iV t (i::r)).drop (a+1),by rw[pV,jg,append_assoc];rfl⟩,N3,lk⟩
     refine kM rfl eN ?_;refine AI.one (i:=6) az ?_;refine gF.gZ rfl ap rfl rfl rfl call95 (mj (((t.ag[i.toNat]'aa)).keys[a]) w4) ⟨ot,trivial⟩ ?_;refine fR 12 rfl (nO (pl:=[(0,_),(1,_)]) (ds:=[_,_]) rfl zeroValue90 runUnderlying90 sb ⟨rfl,ot,rfl,ot,trivial⟩ rfl rfl) ?_;refine AI.one (i:=13) az ?_;refine gF.yield (Y:=Y) (pre:=E) (y:=(((t.ag[i.toNat]'aa)).keys[a],((t.ag[i.toNat]'aa)).kids[a])) (Sc:=I) (R:=[⟨b7,153,5,cP (t.ag[i.toNat]'aa)⟩]) rfl ap rfl rfl ot aO lk s5 (perm_append_singleton _ _).symm Z sY hY O w8 (fun Dt N4=>?_) (fun Dt N4=>?_)
     ·refine AI.perm (perm_append_singleton _ _) ?_;refine fR 14 rfl lm ?_;refine AI.wk (y:=⟨46,[(0,_),(1,_),(5,_),(7,_),(43,_)],(⟨b7,153,5,[_,_,_,_,_]⟩::Dt)⟩) (Wk.dG rfl rfl fa) ?_;refine AI.done az ?_;refine fJ ?_;refine cc [0,1,5,7] ?_;refine⟨((a+1),(E++[(((t.ag[i.toNat]'aa)).keys[a],((t.ag[i.toNat]'aa)).kids[a])]),Dt),_,cq,aK,sW,w4,N4,rfl⟩
     refine fR 14 rfl lm ?_;refine AI.wk (y:=⟨46,[(0,_),(43,_)],(Dt)⟩) (Wk.dG rfl rfl fa) ?_;refine AI.done az ?_;refine eD ?_;refine CD.ret ?_;refine⟨.inr rfl,⟨_,qv results93⟩,(show 0<46 by decide),Dt,Sublist.refl _,?_⟩;exact .inr ⟨E++[(((t.ag[i.toNat]'aa)).keys[a],((t.ag[i.toNat]'aa)).kids[a])],⟨(iV t (i::r)).drop (a+1),by rw[pV,jg,append_assoc];rfl⟩,N4,lk⟩
    refine kM rfl (dI 0) ?_;refine fR 10 rfl (dw 1 (h:=by first|exact .l (j:=a) rfl uT|exact .r (j:=a) rfl uT)) ?_;refine AI.two (i:=5) (j:=11) az ?_ ?_
    ·refine kM rfl eN ?_;refine AI.two (i:=6) (j:=11) az ?_ ?_
     ·refine gF.gZ rfl ap rfl rfl rfl call95 (mj (((t.ag[i.toNat]'aa)).keys[a]) w4) ⟨ot,trivial⟩ ?_;refine AI.one (i:=11) az ?_;refine kM rfl eN ?_;refine fR 12 rfl (nO (pl:=[(0,_),(1,_)]) (ds:=[_,_]) rfl zeroValue90 runUnderlying90 sb ⟨rfl,ot,rfl,ot,trivial⟩ rfl rfl) ?_;refine AI.one (i:=13) az ?_;refine gF.yield (Y:=Y) (pre:=E) (y:=(((t.ag[i.toNat]'aa)).keys[a],((t.ag[i.toNat]'aa)).kids[a])) (Sc:=I) (R:=[⟨b7,153,5,cP (t.ag[i.toNat]'aa)⟩]) rfl ap rfl rfl ot aO lk s5 (perm_append_singleton _ _).symm Z sY hY O w8 (fun Du N5=>?_) (fun Du N5=>?_)
      ·refine AI.perm (perm_append_singleton _ _) ?_;refine fR 14 rfl lm ?_;refine AI.wk (y:=⟨46,[(0,_),(1,_),(5,_),(7,_),(43,_)],(⟨b7,153,5,[_,_,_,_,_]⟩::Du)⟩) (Wk.dG rfl rfl fa) ?_;refine AI.done az ?_;refine fJ ?_;refine cc [0,1,5,7] ?_;refine⟨((a+1),(E++[(((t.ag[i.toNat]'aa)).keys[a],((t.ag[i.toNat]'aa)).kids[a])]),Du),_,cq,aK,sW,w4,N5,rfl⟩
      refine fR 14 rfl lm ?_;refine AI.wk (y:=⟨46,[(0,_),(43,_)],(Du)⟩) (Wk.dG rfl rfl fa) ?_;refine AI.done az ?_;refine eD ?_;refine CD.ret ?_;refine⟨.inr rfl,⟨_,qv results93⟩,(show 0<46 by decide),Du,Sublist.refl _,?_⟩;exact .inr ⟨E++[(((t.ag[i.toNat]'aa)).keys[a],((t.ag[i.toNat]'aa)).kids[a])],⟨(iV t (i::r)).drop (a+1),by rw[pV,jg,append_assoc];rfl⟩,N5,lk⟩
     refine kM rfl eN ?_;refine AI.one (i:=6) az ?_;refine gF.gZ rfl ap rfl rfl rfl call95 (mj (((t.ag[i.toNat]'aa)).keys[a]) w4) ⟨ot,trivial⟩ ?_;refine fR 12 rfl (nO (pl:=[(0,_),(1,_)]) (ds:=[_,_]) rfl zeroValue90 runUnderlying90 sb ⟨rfl,ot,rfl,ot,trivial⟩ rfl rfl) ?_;refine AI.one (i:=13) az ?_;refine gF.yield (Y:=Y) (pre:=E) (y:=(((t.ag[i.toNat]'aa)).keys[a],((t.ag[i.toNat]'aa)).kids[a])) (Sc:=I) (R:=[⟨b7,153,5,cP (t.ag[i.toNat]'aa)⟩]) rfl ap rfl rfl ot aO lk s5 (perm_append_singleton _ _).symm Z sY hY O w8 (fun Dv N6=>?_) (fun Dv N6=>?_)
     ·refine AI.perm (perm_append_singleton _ _) ?_;refine fR 14 rfl lm ?_;refine AI.wk (y:=⟨46,[(0,_),(1,_),(5,_),(7,_),(43,_)],(⟨b7,153,5,[_,_,_,_,_]⟩::Dv)⟩) (Wk.dG rfl rfl fa) ?_;refine AI.done az ?_;refine fJ ?_;refine cc [0,1,5,7] ?_;refine⟨((a+1),(E++[(((t.ag[i.toNat]'aa)).keys[a],((t.ag[i.toNat]'aa)).kids[a])]),Dv),_,cq,aK,sW,w4,N6,rfl⟩
     refine fR 14 rfl lm ?_;refine AI.wk (y:=⟨46,[(0,_),(43,_)],(Dv)⟩) (Wk.dG rfl rfl fa) ?_;refine AI.done az ?_;refine eD ?_;refine CD.ret ?_;refine⟨.inr rfl,⟨_,qv results93⟩,(show 0<46 by decide),Dv,Sublist.refl _,?_⟩;exact .inr ⟨E++[(((t.ag[i.toNat]'aa)).keys[a],((t.ag[i.toNat]'aa)).kids[a])],⟨(iV t (i::r)).drop (a+1),by rw[pV,jg,append_assoc];rfl⟩,N6,lk⟩
    refine kM rfl eN ?_;refine AI.one (i:=5) az ?_;refine kM rfl eN ?_;refine AI.one (i:=6) az ?_;refine gF.gZ rfl ap rfl rfl rfl call95 (mj (((t.ag[i.toNat]'aa)).keys[a]) w4) ⟨ot,trivial⟩ ?_;refine fR 12 rfl (nO (pl:=[(0,_),(1,_)]) (ds:=[_,_]) rfl zeroValue90 runUnderlying90 sb ⟨rfl,ot,rfl,ot,trivial⟩ rfl rfl) ?_;refine AI.one (i:=13) az ?_;refine gF.yield (Y:=Y) (pre:=E) (y:=(((t.ag[i.toNat]'aa)).keys[a],((t.ag[i.toNat]'aa)).kids[a])) (Sc:=I) (R:=[⟨b7,153,5,cP (t.ag[i.toNat]'aa)⟩]) rfl ap rfl rfl ot aO lk s5 (perm_append_singleton _ _).symm Z sY hY O w8 (fun Dw N7=>?_) (fun Dw N7=>?_)
    ·refine AI.perm (perm_append_singleton _ _) ?_;refine fR 14 rfl lm ?_;refine AI.wk (y:=⟨46,[(0,_),(1,_),(5,_),(7,_),(43,_)],(⟨b7,153,5,[_,_,_,_,_]⟩::Dw)⟩) (Wk.dG rfl rfl fa) ?_;refine AI.done az ?_;refine fJ ?_;refine cc [0,1,5,7] ?_;refine⟨((a+1),(E++[(((t.ag[i.toNat]'aa)).keys[a],((t.ag[i.toNat]'aa)).kids[a])]),Dw),_,cq,aK,sW,w4,N7,rfl⟩
    refine fR 14 rfl lm ?_;refine AI.wk (y:=⟨46,[(0,_),(43,_)],(Dw)⟩) (Wk.dG rfl rfl fa) ?_;refine AI.done az ?_;refine eD ?_;refine CD.ret ?_;refine⟨.inr rfl,⟨_,qv results93⟩,(show 0<46 by decide),Dw,Sublist.refl _,?_⟩;exact .inr ⟨E++[(((t.ag[i.toNat]'aa)).keys[a],((t.ag[i.toNat]'aa)).kids[a])],⟨(iV t (i::r)).drop (a+1),by rw[pV,jg,append_assoc];rfl⟩,N7,lk⟩
   refine kM rfl (dI 0) ?_;refine fR 10 rfl (dw 1 (h:=by first|exact .l (j:=a) rfl uT|exact .r (j:=a) rfl uT)) ?_;refine AI.two (i:=2) (j:=11) az ?_ ?_
   ·refine kM rfl (dI 0) ?_;refine fR 4 rfl (dw 1 (h:=by first|exact .l (j:=a) rfl qh|exact .r (j:=a) rfl qh)) ?_;refine AI.two (i:=5) (j:=11) az ?_ ?_
    ·refine kM rfl eN ?_;refine AI.two (i:=6) (j:=11) az ?_ ?_
     ·refine gF.gZ rfl ap rfl rfl rfl call95 (mj (((t.ag[i.toNat]'aa)).keys[a]) w4) ⟨ot,trivial⟩ ?_;refine AI.one (i:=11) az ?_;refine kM rfl eN ?_;refine fR 12 rfl (nO (pl:=[(0,_),(1,_)]) (ds:=[_,_]) rfl zeroValue90 runUnderlying90 sb ⟨rfl,ot,rfl,ot,trivial⟩ rfl rfl) ?_;refine AI.one (i:=13) az ?_;refine gF.yield (Y:=Y) (pre:=E) (y:=(((t.ag[i.toNat]'aa)).keys[a],((t.ag[i.toNat]'aa)).kids[a])) (Sc:=I) (R:=[⟨b7,153,5,cP (t.ag[i.toNat]'aa)⟩]) rfl ap rfl rfl ot aO lk s5 (perm_append_singleton _ _).symm Z sY hY O w8 (fun Dx N8=>?_) (fun Dx N8=>?_)
      ·refine AI.perm (perm_append_singleton _ _) ?_;refine fR 14 rfl lm ?_;refine AI.wk (y:=⟨46,[(0,_),(1,_),(5,_),(7,_),(43,_)],(⟨b7,153,5,[_,_,_,_,_]⟩::Dx)⟩) (Wk.dG rfl rfl fa) ?_;refine AI.done az ?_;refine fJ ?_;refine cc [0,1,5,7] ?_;refine⟨((a+1),(E++[(((t.ag[i.toNat]'aa)).keys[a],((t.ag[i.toNat]'aa)).kids[a])]),Dx),_,cq,aK,sW,w4,N8,rfl⟩
      refine fR 14 rfl lm ?_;refine AI.wk (y:=⟨46,[(0,_),(43,_)],(Dx)⟩) (Wk.dG rfl rfl fa) ?_;refine AI.done az ?_;refine eD ?_;refine CD.ret ?_;refine⟨.inr rfl,⟨_,qv results93⟩,(show 0<46 by decide),Dx,Sublist.refl _,?_⟩;exact .inr ⟨E++[(((t.ag[i.toNat]'aa)).keys[a],((t.ag[i.toNat]'aa)).kids[a])],⟨(iV t (i::r)).drop (a+1),by rw[pV,jg,append_assoc];rfl⟩,N8,lk⟩
     refine kM rfl eN ?_;refine AI.one (i:=6) az ?_;refine gF.gZ rfl ap rfl rfl rfl call95 (mj (((t.ag[i.toNat]'aa)).keys[a]) w4) ⟨ot,trivial⟩ ?_;refine fR 12 rfl (nO (pl:=[(0,_),(1,_)]) (ds:=[_,_]) rfl zeroValue90 runUnderlying90 sb ⟨rfl,ot,rfl,ot,trivial⟩ rfl rfl) ?_;refine AI.one (i:=13) az ?_;refine gF.yield (Y:=Y) (pre:=E) (y:=(((t.ag[i.toNat]'aa)).keys[a],((t.ag[i.toNat]'aa)).kids[a])) (Sc:=I) (R:=[⟨b7,153,5,cP (t.ag[i.toNat]'aa)⟩]) rfl ap rfl rfl ot aO lk s5 (perm_append_singleton _ _).symm Z sY hY O w8 (fun Dy N9=>?_) (fun Dy N9=>?_)
     ·refine AI.perm (perm_append_singleton _ _) ?_;refine fR 14 rfl lm ?_;refine AI.wk (y:=⟨46,[(0,_),(1,_),(5,_),(7,_),(43,_)],(⟨b7,153,5,[_,_,_,_,_]⟩::Dy)⟩) (Wk.dG rfl rfl fa) ?_;refine AI.done az ?_;refine fJ ?_;refine cc [0,1,5,7] ?_;refine⟨((a+1),(E++[(((t.ag[i.toNat]'aa)).keys[a],((t.ag[i.toNat]'aa)).kids[a])]),Dy),_,cq,aK,sW,w4,N9,rfl⟩
     refine fR 14 rfl lm ?_;refine AI.wk (y:=⟨46,[(0,_),(43,_)],(Dy)⟩) (Wk.dG rfl rfl fa) ?_;refine AI.done az ?_;refine eD ?_;refine CD.ret ?_;refine⟨.inr rfl,⟨_,qv results93⟩,(show 0<46 by decide),Dy,Sublist.refl _,?_⟩;exact .inr ⟨E++[(((t.ag[i.toNat]'aa)).keys[a],((t.ag[i.toNat]'aa)).kids[a])],⟨(iV t (i::r)).drop (a+1),by rw[pV,jg,append_assoc];rfl⟩,N9,lk⟩
    refine kM rfl eN ?_;refine AI.one (i:=5) az ?_;refine kM rfl eN ?_;refine AI.one (i:=6) az ?_;refine gF.gZ rfl ap rfl rfl rfl call95 (mj (((t.ag[i.toNat]'aa)).keys[a]) w4) ⟨ot,trivial⟩ ?_;refine fR 12 rfl (nO (pl:=[(0,_),(1,_)]) (ds:=[_,_]) rfl zeroValue90 runUnderlying90 sb ⟨rfl,ot,rfl,ot,trivial⟩ rfl rfl) ?_;refine AI.one (i:=13) az ?_;refine gF.yield (Y:=Y) (pre:=E) (y:=(((t.ag[i.toNat]'aa)).keys[a],((t.ag[i.toNat]'aa)).kids[a])) (Sc:=I) (R:=[⟨b7,153,5,cP (t.ag[i.toNat]'aa)⟩]) rfl ap rfl rfl ot aO lk s5 (perm_append_singleton _ _).symm Z sY hY O w8 (fun Dz Oa=>?_) (fun Dz Oa=>?_)
    ·refine AI.perm (perm_append_singleton _ _) ?_;refine fR 14 rfl lm ?_;refine AI.wk (y:=⟨46,[(0,_),(1,_),(5,_),(7,_),(43,_)],(⟨b7,153,5,[_,_,_,_,_]⟩::Dz)⟩) (Wk.dG rfl rfl fa) ?_;refine AI.done az ?_;refine fJ ?_;refine cc [0,1,5,7] ?_;refine⟨((a+1),(E++[(((t.ag[i.toNat]'aa)).keys[a],((t.ag[i.toNat]'aa)).kids[a])]),Dz),_,cq,aK,sW,w4,Oa,rfl⟩
    refine fR 14 rfl lm ?_;refine AI.wk (y:=⟨46,[(0,_),(43,_)],(Dz)⟩) (Wk.dG rfl rfl fa) ?_;refine AI.done az ?_;refine eD ?_;refine CD.ret ?_;refine⟨.inr rfl,⟨_,qv results93⟩,(show 0<46 by decide),Dz,Sublist.refl _,?_⟩;exact .inr ⟨E++[(((t.ag[i.toNat]'aa)).keys[a],((t.ag[i.toNat]'aa)).kids[a])],⟨(iV t (i::r)).drop (a+1),by rw[pV,jg,append_assoc];rfl⟩,Oa,lk⟩
   refine kM rfl eN ?_;refine AI.one (i:=2) az ?_;refine kM rfl (dI 0) ?_;refine fR 4 rfl (dw 1 (h:=by first|exact .l (j:=a) rfl qh|exact .r (j:=a) rfl qh)) ?_;refine AI.one (i:=5) az ?_;refine kM rfl eN ?_;refine AI.one (i:=6) az ?_;refine gF.gZ rfl ap rfl rfl rfl call95 (mj (((t.ag[i.toNat]'aa)).keys[a]) w4) ⟨ot,trivial⟩ ?_;refine fR 12 rfl (nO (pl:=[(0,_),(1,_)]) (ds:=[_,_]) rfl zeroValue90 runUnderlying90 sb ⟨rfl,ot,rfl,ot,trivial⟩ rfl rfl) ?_;refine AI.one (i:=13) az ?_;refine gF.yield (Y:=Y) (pre:=E) (y:=(((t.ag[i.toNat]'aa)).keys[a],((t.ag[i.toNat]'aa)).kids[a])) (Sc:=I) (R:=[⟨b7,153,5,cP (t.ag[i.toNat]'aa)⟩]) rfl ap rfl rfl ot aO lk s5 (perm_append_singleton _ _).symm Z sY hY O w8 (fun Cm Ma=>?_) (fun Cm Ma=>?_)
   ·refine AI.perm (perm_append_singleton _ _) ?_;refine fR 14 rfl lm ?_;refine AI.wk (y:=⟨46,[(0,_),(1,_),(5,_),(7,_),(43,_)],(⟨b7,153,5,[_,_,_,_,_]⟩::Cm)⟩) (Wk.dG rfl rfl fa) ?_;refine AI.done az ?_;refine fJ ?_;refine cc [0,1,5,7] ?_;refine⟨((a+1),(E++[(((t.ag[i.toNat]'aa)).keys[a],((t.ag[i.toNat]'aa)).kids[a])]),Cm),_,cq,aK,sW,w4,Ma,rfl⟩
   refine fR 14 rfl lm ?_;refine AI.wk (y:=⟨46,[(0,_),(43,_)],(Cm)⟩) (Wk.dG rfl rfl fa) ?_;refine AI.done az ?_;refine eD ?_;refine CD.ret ?_;refine⟨.inr rfl,⟨_,qv results93⟩,(show 0<46 by decide),Cm,Sublist.refl _,?_⟩;exact .inr ⟨E++[(((t.ag[i.toNat]'aa)).keys[a],((t.ag[i.toNat]'aa)).kids[a])],⟨(iV t (i::r)).drop (a+1),by rw[pV,jg,append_assoc];rfl⟩,Ma,lk⟩
  have eS:a=(t.pg i).keys.length:=(by rw[gK];have:=aZ;simp at this;omega)
  refine cc [0,1,4,5] ?_;refine⟨(r,0,E,I),_,(by (show length r<length (i::r);simp)),(aK (h:=by repeat (first|exact trivial|refine⟨(by (repeat (first|exact fu|(apply fT;focus (first|rfl|(simp;done)|(rw[←gK,eU.next hL.pF])))|(apply fC;focus rfl)));done),?_⟩))),hL.tail,(by rw[pV,aap v hL eS]),(fun x hx=>Nat.zero_le _),Z,rfl⟩
 have akX:ls=[]:=hL.head.2 xP;refine CD.exit ?_;refine⟨.inl rfl,⟨_,qv results93⟩,(show 0<46 by decide),Sc,Sublist.refl _,?_⟩;exact .inl ⟨pre,by rw[N1,akX];simp[iV],hj,lk⟩

open Go.Lib (compareBytes)
theorem afY(e:K×Int):(cE e).all V.one=true:=rfl
theorem agR(k:K):fH (cK k)=true:=by simp[cK,fH,iH,zj]
theorem agS(n:Int):fH (cI n)=true:=rfl
theorem agT(p:cW):fH (cP p)=true:=by simp[cP,fH,iH,zj,u5 agR,u5 agS]
def Vs(t:aD)(k:K):D:=.ew (.func 93) (K6 t k)
noncomputable def rp(eo:K)(x:K×Int):Bool:=decide (0<eo.length∧bA eo x.1)
noncomputable def um(t:aD)(h:Nat)(f eo:K):List (K×Int):=(lU t h f).takeWhile fun x=>!rp eo x
noncomputable def wS(t:aD)(h:Nat)(f eo:K):List (K×Int)×Int:=if gv t=0 then (if f.length≤100∧eo.length≤100 then (um t h f eo,0) else ([],1)) else ([],gv t)
theorem Er{α:Type}{p:α→Bool}:∀{l:List α},(∀x∈l,p x=true)→l.takeWhile p=l
 | [],_=>rfl
 | x::l,h=>by rw[takeWhile_cons,if_pos (h x mem_cons_self),Er fun y hy=>h y (mem_cons_of_mem _ hy)]
theorem Qh{α:Type}{p:α→Bool}{y:α}{r:List α}(hy:p y=false):∀{l:List α},(∀x∈l,p x=true)→(l++y::r).takeWhile p=l
 | [],_=>by rw[nil_append,takeWhile_cons,if_neg (by rw[hy];decide)]
 | x::l,h=>by rw[cons_append,takeWhile_cons,if_pos (h x mem_cons_self),Qh hy fun y hy=>h y (mem_cons_of_mem _ hy)]
def wZ(b9 b5:Nat)(eo:K)(pre:List (K×Int))(Sc:List ah):Prop:=(∀x∈pre,rp eo x=false)∧∃ad cap So,bp 90 2 (pre.flatMap cE) pre.length ad cap So∧Sc=⟨b9,85,1,[aN ad pre.length cap]⟩::⟨b5,88,1,[av 1 cB eo]⟩::So
def F3(b9 b5:Nat)(eo:K)(pre:List (K×Int))(Sc:List ah):Prop:=∃init y,pre=init++[y]∧rp eo y=true∧wZ b9 b5 eo init Sc
theorem wZ.iH{b9 b5:Nat}{eo:K}{pre:List (K×Int)}{Sc:List ah}(h:wZ b9 b5 eo pre Sc):∀B∈Sc,fH B.cs=true:=by
 obtain⟨_,ad,cap,So,ho,rfl⟩:=h;intro B E;rcases mem_cons.1 E with rfl|E
 ·rfl
 rcases mem_cons.1 E with rfl|E
 ·simp[fH,V.iH,zj]
 rcases ho with ⟨_,_,_,_,rfl⟩|⟨b,_,_,_,rfl⟩
 ·cases E
 rw[mem_singleton] at E;subst E;exact u5 zk pre
theorem F3.iH{b9 b5:Nat}{eo:K}{pre:List (K×Int)}{Sc:List ah}(h:F3 b9 b5 eo pre Sc):∀B∈Sc,fH B.cs=true:=by
 obtain⟨init,y,_,_,h⟩:=h;exact h.iH
def K7(b9 b5:Nat)(eo:K)(pre:List (K×Int))(y:K×Int)(Sc:List ah)(z:St):Prop:=wZ b9 b5 eo pre Sc∧∃j8,z=⟨43,[(5,cQ b5),(9,cQ b9),(10,cQ j8)],⟨j8,90,2,cE y⟩::Sc⟩
theorem K7.iH{b9 b5:Nat}{eo:K}{pre:List (K×Int)}{y:K×Int}{Sc:List ah}{z:St}(h:K7 b9 b5 eo pre y Sc z):(z.env.all fun p=>V.iH p.2)=true∧∀B∈z.S,fH B.cs=true:=by
 obtain⟨hj,j8,rfl⟩:=h;refine⟨rfl,fun B E=>?_⟩;rcases mem_cons.1 E with rfl|E
 ·exact zk y
 exact hj.iH B E
theorem adB{b9 b5:Nat}{t:aD}{h:Nat}{f eo:K}{Sc:List ah}{c d:Code}(he:(∃xs,xs=lU t h f∧wZ b9 b5 eo xs Sc)∨(c=d∧∃pre,pre <+: lU t h f∧F3 b9 b5 eo pre Sc)):∃I,I=um t h f eo∧wZ b9 b5 eo I Sc:=by
 rcases he with ⟨xs,rfl,hj⟩|⟨_,pre,⟨r,hr⟩,E,y,rfl,hy,hj⟩
 ·exact⟨_,(Er fun x hx=>by rw[hj.1 x hx];rfl).symm,hj⟩
 refine⟨E,?_,hj⟩;unfold um;rw[←hr,append_assoc,singleton_append];exact(Qh (by rw[hy];rfl) fun x hx=>by rw[hj.1 x hx];rfl).symm
theorem afd(t:aD)(k:K):VC Tryz.prog G 50 [.agg (cT t),av 1 cB k] [] (fun r S=>∃b2 b3,r = .ew (.func 93) [cQ b2,cQ b3]∧S=[⟨b3,88,1,[av 1 cB k]⟩,⟨b2,51,2,cT t⟩]):=by
 refine VC.body func50 rfl ntmps50 aO fun X0 w0 bg=>?_;unfold cT;refine bU ?_;refine OD.box (ds:=[_,_]) ap rfl rfl ot rfl rfl (fun b2=>?_);refine OD.box (ds:=[_]) ap rfl rfl ot rfl rfl (fun b3=>?_);refine an 6 [2,3] ?_;refine cL [4] ?_;refine aS 0 ?_ (h:=by exact(pK (ds:=[_,_]) rfl ⟨ot,ot,trivial⟩));refine bI ?_;refine aI [_,_] ?_;exact⟨_,_,rfl,rfl⟩
theorem afe(t:aD)(k:K):VP Tryz.prog G 50 [.agg (cT t),av 1 cB k] (Vs t k):=VC.cover (afd t k) fun r S ⟨b2,b3,hr,hS⟩=>by
 subst hr;subst hS;exact acG ⟨Q1 (e:=51) (size:=2) (cs:=cT t) (mem_cons_of_mem _ mem_cons_self) gw.same,Q1 (e:=88) (size:=1) mem_cons_self gw.same,trivial⟩
theorem ZZ:(Tryz.prog.info? 90).map (fun i=>(i.zero,i.size,i.bytes))=some (some (.agg #[.slice none 0 0,.int .i64 0]),2,32):=by kernel_rfl
theorem aff(t:aD)(h:Nat)(hb:∀p∈t.ag,p.keys.length≤maxLen∧p.kids.length≤maxLen)(hv:gv t=0→Valid t h)(f eo:K):VP Tryz.prog G 30 [.agg (cT t),av 1 cB f,av 1 cB eo] (.di [.list 2 ((wS t h f eo).1.flatMap cE) (wS t h f eo).1.length,ae (wS t h f eo).2]):=by
 refine VC.zz func30 rfl ntmps30 aO fun X0 w0 bg=>?_;have c8:=dR;have eT:=pL (G:=G) t hb;have U:=afe (G:=G) t f;unfold cT at eT U;unfold cT;refine bU ?_;refine OD.box (ds:=[_,_]) ap rfl rfl ot rfl rfl (fun b3=>?_);refine OD.box (ds:=[_]) ap rfl rfl ot rfl rfl (fun b5=>?_);refine an 43 [1,3,5] ?_;refine cz [1,3,5,8] (eT) ?_;refine af [1,3,5,8,14] ?_;refine aq ?_ ?_<;>intro aP bC
 ·have hn:¬gv t=0:=(by simpa using aP)
  refine af [6,7] ?_;refine CD.wk (Wk.tU (t:=6) (sz:=2) lk) ?_;refine aI [] ?_;exact⟨by unfold wS;rw[if_neg hn];rfl,rfl⟩
 have hz:gv t=0:=(by simpa using aP)
 have v:=hv hz;have Vr:=RQ v f;refine aB 4 ?_;refine bP 19 (fun Z O=>?_) (fun Z O=>?_)
 ·refine bq [1,3,5,23] ?_;refine eD ?_;exact XE
 refine bq [1,3,5,23] ?_;refine aq ?_ ?_<;>intro aZ cr
 ·exact XE
 have ape:f.length≤100∧eo.length≤100:=(by simp_all;omega)
 have hf1:f.length≤maxLen:=(by omega)
 refine bU ?_;refine OD.alloc (ds:=[_]) ap rfl rfl zeroValue85 rfl (fun b9=>?_);refine an 43 [1,3,5,9] ?_;refine CD.ajj ?_;refine dK 2 ?_;refine dP call50 (U) ?_;refine an 43 [5,9,26] ?_;refine vR.wk (Wk.drop _ _ _ [⟨b9,85,1,[bH]⟩,⟨b5,88,1,[av 1 cB eo]⟩] (Sublist.cons_cons _ (Sublist.cons_cons _ (Sublist.cons _ (Sublist.refl _))))) ?_;refine vR.range ot call93 (adA t h v f hf1) (fun _=>rfl) adw (.exit 0) (.inr rfl) (wZ b9 b5 eo) (F3 b9 b5 eo) (fun _ _ h=>h.iH) (fun _ _ h=>h.iH) ⟨(fun _ h=>by cases h),none,0,[],iy,rfl⟩ (K7 b9 b5 eo) (fun _ _ _ _ h=>h.iH) ?_ ?_ ?_ (fun h=>by cases h)
 ·intro X1 W1 S1 l1 pre y Sc hJ hN;refine CI.region MJ rfl ?_;refine OD.alloc (ds:=[_,_]) ap rfl rfl zeroValue90 rfl (fun j8=>?_);refine aR 0 [_,_] sizeOf90 ?_;refine OD.wk (Wk.dG (n:=43) (l':=[(5,_),(9,_),(10,_)]) (S':=(⟨j8,90,2,[_,_]⟩::Sc)) rfl rfl fa) ?_;refine OD.nil ?_;exact⟨rfl,hJ,j8,rfl⟩
 ·intro X1 W1 S1 l1 pre y Sc z hJ hN hz;obtain⟨⟨aQ,ad,cap,So,ho,rfl⟩,j8,rfl⟩:=hz;unfold cE;refine CI.block ?_;refine CI.seq ?_;refine CI.seq ?_;refine CI.region MJ rfl ?_;refine bN (dI 2) ?_;refine bN x7 ?_;refine bN nj ?_;refine om_ ?_;refine OD.split (t:=31) lk (fun I=>?_) (fun I=>?_)
  ·have E:=I;(try simp only[V.nJ,ne_eq] at E)
   refine bN (dF 0) ?_;refine bN (dI 0) ?_;refine bN (dI 2) ?_;refine OD.gZ iq rfl rfl rfl call51 (wJ y.1 eo) ⟨ot,ot,trivial⟩ ?_;refine bN nj ?_;refine bN xu ?_;refine OD.wk (Wk.dG (n:=43) (l':=[(9,_),(10,_),(37,_)]) (S':=(⟨j8,90,2,[_,_]⟩::⟨b9,85,1,[_]⟩::⟨b5,88,1,[_]⟩::So)) rfl rfl fa) ?_;refine OD.nil ?_;refine CI.cond ot (fun bX=>?_) (fun bX=>?_)
   ·have cA:=bX
    (try simp only[V.nJ,ne_eq] at cA)
    have fB:rp eo y=true:=(by unfold rp;simp_all[Uo])
    refine CI.exit ?_;exact⟨rfl,_,Sublist.cons _ (Sublist.refl _),pre,y,rfl,fB,aQ,ad,cap,So,ho,rfl⟩
   have cA:=bX
   (try simp only[V.nJ,ne_eq] at cA)
   exact z31
  have E:=I;(try simp only[V.nJ,ne_eq] at E)
  refine CV ?_;refine CV ?_;refine CV ?_;refine CV ?_;refine CV ?_;refine bN vr ?_;refine XS [9,10,37] ?_;refine CI.KV ot jn ?_;exact z31
 intro W1 S1 D1 Sc eS;obtain⟨es,hes,aQ,ad,cap,So,ho,rfl⟩:=adB eS;refine af [6,7] ?_;refine CD.gP (t:=6) (Sq:=So) lk ho (cn Up _) (cZ (A:=[_,_])) ?_;refine CD.ret ?_;refine⟨rfl,(by simp[iH,fH,u5 zk,zj,zk,u5 agT,Vs,K6]),(by intro B hB;simp only[mem_cons,not_mem_nil,or_false] at hB;rcases hB with rfl|rfl<;>simp[iH,fH,zj]),_,[],nil_sublist _,JA results30 (yY aO lk) (yY aO lk),(by simp[iH,fH,u5 zk]),?_⟩;rw[hes];exact⟨by unfold wS;rw[if_pos hz,if_pos ⟨by omega,by omega⟩],rfl⟩

end Go.Proofs.YtdgichenhdikgaaGreatDoor.Tw
namespace Go.Proofs.YtdgichenhdikgaaGreatDoor.Tw

open List
open Go.Proofs.Tryz
open Go.RowKit V Tr Pk
variable {t:aD}
theorem TP{α:Type}{g:α→List D}(hg:∀a,(g a).length=1){q:List α}{i cap:Nat}(hi:i<q.length)(hc:q.length≤cap):((q.flatMap g).drop (eI cap (i+1) 1 0)).take ((q.length-(i+1))*1)=(q.drop (i+1)).flatMap g:=by
 unfold eI;by_cases h:cap=i+1
 ·have e:q.length=i+1:=(by omega)
  have e2:q.drop (i+1)=[]:=drop_of_length_le w4;rw[if_pos h,show q.length-(i+1)=0 from by omega,e2];simp
 rw[if_neg h,Nat.zero_add,u4 hg,take_of_length_le];rw[cn hg,length_drop];exact Nat.le_refl _
theorem UK{α:Type}{g:α→List D}(hg:∀a,(g a).length=1){q:List α}{i:Nat}(hi:i<q.length):da (q.flatMap g) (i*1) ((q.drop (i+1)).flatMap g)=(q.eraseIdx i).flatMap g++(q.flatMap g).drop (i*1+((q.drop (i+1)).flatMap g).length):=by
 rw[we _ _ _ (by rw[cn hg,cn hg,length_drop];omega),tW hg,eraseIdx_eq_take_drop_succ,flatMap_append]
variable {G:List (Nat×List Value)}
theorem Zd:(Tryz.prog.info? 88).map (fun i=>i.size)=some 1:=by kernel_rfl
theorem Ig(q:List K)(i cap b:Nat)(hi:i<q.length)(hc:q.length≤cap)(hm:cap≤maxLen)(hs:q.length≤1000):VC Tryz.prog G 130 [aN (some ⟨b,0,none⟩) q.length cap,ae (i:Nat),ae ((i+1:Nat):Int)] [⟨b,88,cap*1,q.flatMap cK⟩] (fun r S=>r=aN (some ⟨b,0,none⟩) (q.length-1) cap∧S=[⟨b,88,cap*1,(q.eraseIdx i).flatMap cK⟩]):=by
 refine VC.body func130 rfl ntmps130 aO fun X0 w0 bg=>?_;refine af [0,1,2] ?_;refine cL [0,1,2] ?_;refine aS 5 ?_ (h:=by exact(OC rfl ot ot ot ot runUnderlying151 sizeOf88 w4 w4 hc));refine jb ?_;refine af [0,1,2,16] ?_;refine aq ?_ ?_<;>intro aP bC
 ·exact absurd aP uz
 refine af [0,1,2,7] ?_;refine CD.seq ?_;refine gJ 7 (au (eraseIdx _ 0)) ?_ (fun _ h=>(Sublist.map _ (eraseIdx_sublist _ 0)).subset h);refine aC 0 rfl bF ?_;refine aC 1 rfl bF ?_;refine aC 2 rfl (eB (l:=0) (h:=i) rfl ot trivial ⟨_,ot⟩ Mt) ?_;refine aC 3 rfl bF ?_;refine aC 4 rfl bF ?_;refine aC 5 rfl (eB (l:=i+1) rfl ot ⟨_,ot⟩ trivial ux) ?_;refine dH.later rfl ?_;refine AD.one (i:=6) az ?_;refine bz.QU (n:=i) (m:=q.length-(i+1)) (k:=0) (new:=(q.drop (i+1)).flatMap cK) (cs':=(q.eraseIdx i).flatMap cK++(q.flatMap cK).drop (i*1+((q.drop (i+1)).flatMap cK).length)) rfl ap rfl rfl underlying151 Zd ot rfl rfl ot (TP gb hi hc) (by rw[cn gb,length_drop]) (ue pP _) w4 (by show _≤(q.flatMap cK).length;rw[cn gb];omega) (UK gb hi) iD ?_;rw[show i+(q.length-(i+1))=q.length-1 from by omega];refine e9 ?_;refine bq [0,7] ?_;refine aB 4 ?_;refine bN (eB (l:=q.length-1) (h:=q.length) rfl ot ⟨_,ot⟩ ⟨_,ot⟩ (by first|exact oB (fun h=>by cases h) runUnderlying151 sizeOf88 w4|exact yV (fun h=>by cases h) (fun h=>by cases h) runUnderlying151 sizeOf88 w4 w4|exact nP (fun h=>by cases h) (fun h=>by cases h) runUnderlying151 sizeOf88 w4 w4)) ?_;refine OD.shrink (k:=0) (cs':=(q.eraseIdx i).flatMap cK) rfl (prefix_append _ _) ?_;refine OD.clear (k:=0) (sz:=1) ap rfl rfl underlying151 zeroValue88 rfl az ot rfl rfl (fun h0=>?_) ?_
 ·have h3:eI cap (q.length-1) 1 0=(q.length-1)*1:=(by unfold eI;rw[if_neg w4];omega)
  rw[h3];refine⟨?_,?_⟩
  ·show((q.eraseIdx i).flatMap cK).length≤_;rw[cn gb,length_eraseIdx_of_lt hi];exact Nat.le_refl _
  show _≤cap*1;omega
 refine an 33 [0] ?_;refine af [6] ?_;refine aI [_] ?_;exact⟨rfl,rfl⟩
theorem Ze:(Tryz.prog.info? 3).map (fun i=>i.size)=some 1:=by kernel_rfl
theorem OU(q:List Int)(i cap b:Nat)(hi:i<q.length)(hc:q.length≤cap)(hm:cap≤maxLen)(hs:q.length≤1000):VC Tryz.prog G 131 [aN (some ⟨b,0,none⟩) q.length cap,ae (i:Nat),ae ((i+1:Nat):Int)] [⟨b,3,cap*1,q.flatMap cI⟩] (fun r S=>r=aN (some ⟨b,0,none⟩) (q.length-1) cap∧S=[⟨b,3,cap*1,(q.eraseIdx i).flatMap cI⟩]):=by
 refine VC.body func131 rfl ntmps131 aO fun X0 w0 bg=>?_;refine af [0,1,2] ?_;refine cL [0,1,2] ?_;refine aS 5 ?_ (h:=by exact(OC rfl ot ot ot ot runUnderlying67 sizeOf3 w4 w4 hc));refine jb ?_;refine af [0,1,2,16] ?_;refine aq ?_ ?_<;>intro aP bC
 ·exact absurd aP uz
 refine af [0,1,2,7] ?_;refine CD.seq ?_;refine gJ 7 (au (eraseIdx _ 0)) ?_ (fun _ h=>(Sublist.map _ (eraseIdx_sublist _ 0)).subset h);refine aC 0 rfl bF ?_;refine aC 1 rfl bF ?_;refine aC 2 rfl (eB (l:=0) (h:=i) rfl ot trivial ⟨_,ot⟩ Mu) ?_;refine aC 3 rfl bF ?_;refine aC 4 rfl bF ?_;refine aC 5 rfl (eB (l:=i+1) rfl ot ⟨_,ot⟩ trivial uy) ?_;refine dH.later rfl ?_;refine AD.one (i:=6) az ?_;refine bz.QU (n:=i) (m:=q.length-(i+1)) (k:=0) (new:=(q.drop (i+1)).flatMap cI) (cs':=(q.eraseIdx i).flatMap cI++(q.flatMap cI).drop (i*1+((q.drop (i+1)).flatMap cI).length)) rfl ap rfl rfl underlying67 Ze ot rfl rfl ot (TP ez hi hc) (by rw[cn ez,length_drop]) (ue nR _) w4 (by show _≤(q.flatMap cI).length;rw[cn ez];omega) (UK ez hi) iD ?_;rw[show i+(q.length-(i+1))=q.length-1 from by omega];refine e9 ?_;refine bq [0,7] ?_;refine aB 4 ?_;refine bN (eB (l:=q.length-1) (h:=q.length) rfl ot ⟨_,ot⟩ ⟨_,ot⟩ (by first|exact oB (fun h=>by cases h) runUnderlying67 sizeOf3 w4|exact yV (fun h=>by cases h) (fun h=>by cases h) runUnderlying67 sizeOf3 w4 w4|exact nP (fun h=>by cases h) (fun h=>by cases h) runUnderlying67 sizeOf3 w4 w4)) ?_;refine OD.shrink (k:=0) (cs':=(q.eraseIdx i).flatMap cI) rfl (prefix_append _ _) ?_;refine OD.clear (k:=0) (sz:=1) ap rfl rfl underlying67 zeroValue3 rfl az ot rfl rfl (fun h0=>?_) ?_
 ·have h3:eI cap (q.length-1) 1 0=(q.length-1)*1:=(by unfold eI;rw[if_neg w4];omega)
  rw[h3];refine⟨?_,?_⟩
  ·show((q.eraseIdx i).flatMap cI).length≤_;rw[cn ez,length_eraseIdx_of_lt hi];exact Nat.le_refl _
  show _≤cap*1;omega
 refine an 33 [0] ?_;refine af [6] ?_;refine aI [_] ?_;exact⟨rfl,rfl⟩

theorem v8{α:Type}{g:α→List D}{sz:Nat}(hg:∀a,(g a).length=sz){a':α}{c:Nat}{d:D}(hc:c<sz):∀{L:List α} {j:Nat} (hj:j<L.length),g a'=(g L[j]).set c d→(L.flatMap g).set (j*sz+c) d=(L.set j a').flatMap g
 | a::L,0,_,h=>by
  simp only[getElem_cons_zero] at h;rw[flatMap_cons,set_cons_zero,flatMap_cons,h,set_append_left _ _ (by rw[hg];omega),Nat.zero_mul,Nat.zero_add]
 | a::L,j+1,hj,h=>by
  have E:=v8 hg hc (L:=L) (j:=j) (by simpa using hj) nf;have e:(j+1)*sz+c=sz+(j*sz+c):=(by rw[Nat.succ_mul];omega)
  rw[flatMap_cons,set_cons_succ,flatMap_cons,←E,set_append_right _ _ (by rw[hg];omega),hg,e,show sz+(j*sz+c)-sz=j*sz+c from by omega]
theorem UL{L:List aY}(hL:L.map aY.p=t.ag){i:Int}(hi:0≤i∧i<t.ag.length)(hj:i.toNat<L.length):L[i.toNat].p=t.pg i:=by
 rw[vn hi];have h:(L.map aY.p)[i.toNat]?=some L[i.toNat].p:=(by rw[getElem?_map,getElem?_eq_getElem hj];rfl)
 rw[hL,getElem?_eq_getElem w4] at h;exact(Option.some.inj h).symm
def vV:aD:=⟨[],0⟩
def Cn(te:aD×Int)(r:D)(S:List ah):Prop:=∃r',r = .di [r',ae te.2]∧Gt te.1 r' S
theorem y9(e:Int):Cn (vV,e) (.di [.agg [bH,ae 0],ae e]) []:=⟨_,rfl,[],none,0,[],rfl,iy,(fun o h=>by cases h),rfl,rfl⟩
theorem Gt.view{r:D}{S:List ah}(h:Gt t r S):View S r (.agg (cT t)):=by
 obtain⟨L,ad,cap,Sx,rfl,ho,aQ,hL,rfl⟩:=h;have:=KB (root:=t.root) ho aQ (fun B E=>E);rw[hL] at this;exact this
theorem Cn.view{te:aD×Int}{r:D}{S:List ah}(h:Cn te r S):View S r (.di [.agg (cT te.1),ae te.2]):=by
 obtain⟨r',rfl,h⟩:=h;exact EH ⟨h.view,eM,trivial⟩
noncomputable def rB(t:aD)(k:K)(h:Nat):aD×Int:=if lD t k=0 then (if iA t k h=true then (gC t h k,0) else (vV,8)) else (vV,lD t k)
theorem Qi{k:K}(h:lD t k=0):gv t=0∧oM k=true:=by
 have hc:gv t=0:=Classical.byContradiction fun e=>by rw[ED e] at h;exact e h
 refine⟨hc,?_⟩;cases hq:oM k with
 | true=>rfl
 | false=>rw[Ef hc hq] at h;cases h
theorem abM(t:aD)(h:Nat)(k:K)(hb:∀p∈t.ag,p.keys.length≤maxLen∧p.kids.length≤maxLen)(hv:gv t=0→Valid t h):VC Tryz.prog G 90 [.agg [av 5 cP t.ag,ae t.root],av 1 cB k] [] (Cn (rB t k h)):=by
 refine VC.body func90 rfl ntmps90 aO fun X0 w0 bg=>?_;have eT:=If (G:=G) t k hb;unfold cT at eT;have hcT:cT t=[av 5 cP t.ag,ae t.root]:=rfl;have c8:=dR;refine bU ?_;refine OD.box (ds:=[_,_]) ap rfl rfl ot rfl rfl (fun b2=>?_);refine OD.alloc (ds:=[_,_]) ap rfl rfl zeroValue51 rfl (fun b4=>?_);refine an 58 [1,2,4] ?_;refine cz [1,2,4,6] (eT) ?_;refine af [1,2,4,6,16] ?_;refine aq ?_ ?_<;>intro aP bC
 ·have hn:¬lD t k=0:=(by simpa using aP)
  refine aB 2 ?_;refine aR 0 [_,_] sizeOf51 ?_;refine an 58 [4,5] ?_;refine aI [] ?_;unfold rB;rw[if_neg hn];exact y9 _
 have hz:lD t k=0:=(by simpa using aP)
 obtain⟨hc,Ob⟩:=Qi hz;have v:=hv hc;have Co:=Jj Ob;have fL:=qA (G:=G) t h v k w4 (Ec v k);obtain⟨q1,E⟩:=v.leaf k;refine aB 1 ?_;refine OD.call ap rfl rfl rfl call121 (FC t h v) ⟨ot,trivial⟩ (eV _) ?_;rintro _ _ ⟨L,ad,cap,Sx,rfl,dN,aQ,hL,rfl⟩;refine OD.perm (dV (A:=[_,_])) ?_;refine OD.alloc (ds:=[_,_]) ap rfl rfl zeroValue51 rfl (fun b7=>?_);refine aR 0 [_,_] sizeOf51 ?_;refine an 58 [1,4,7] ?_;refine cL [4,7,8,9,10] ?_;refine mg 2 ?_;refine zP (fL) (ha:=by exact⟨⟨_,ot,by have:=KB (root:=t.root) dN aQ (fun B hB=>mem_cons_of_mem ⟨b7,51,2,[aN ad L.length cap,ae t.root]⟩ (mem_cons_of_mem ⟨b4,51,2,[bH,ae 0]⟩ (mem_cons_of_mem ⟨b2,51,2,[av 5 cP t.ag,ae t.root]⟩ hB)));rw[hL] at this;exact this⟩,⟨_,ot,eM⟩,trivial⟩) (K:=?_);refine bI ?_;refine af [4,7,8,9,29] ?_;refine aq ?_ ?_<;>intro aZ cr
 ·have iQ:iA t k h=false:=(by simpa using aZ)
  refine aB 1 ?_;refine aR 1 [_,_] sizeOf51 ?_;refine an 58 [4,5] ?_;refine aI [] ?_;unfold rB;rw[if_pos hz,if_neg xO];exact y9 _
 have iQ:iA t k h=true:=(by simpa using aZ)
 obtain⟨ha,NG⟩:=(Eb v k).1 iQ;have po:=v.fy _ (jw q1);have hle:=po.leaf E;have YM:=po.eE;have rW:L.length=t.ag.length:=(by rw[←hL,length_map])
 have hj:(aH t k h t.root).toNat<L.length:=(by omega)
 have O:=UL hL q1 hj;obtain⟨bx,rfl,fZ,xT,rfl⟩:=dN.pos w4;have U:=aQ _ (getElem_mem hj);obtain⟨o,ho⟩:∃o,o=L[(aH t k h t.root).toNat]:=⟨_,rfl⟩
 rw[←ho] at U O;rcases o with ⟨p,ak,ck,sk,ai,ci,si⟩
 have gK:p=t.pg (aH t k h t.root):=O;obtain⟨de,Z⟩:nT p.keys ak ck sk∧mV p.kids ai ci si:=U;rw[←gK] at ha hle YM;obtain⟨bk,rfl,dU,xU,rfl⟩:=de.pos w4;obtain⟨bi,rfl,fm,GU,rfl⟩:=Z.pos w4;have I:(L.flatMap bO).Perm (⟨bk,88,ck*1,flatMap cK p.keys⟩::⟨bi,3,ci*1,flatMap cI p.kids⟩::((L.eraseIdx (aH t k h t.root).toNat).flatMap bO)):=(by have:=y8 bO hj;rw[←ho] at this;exact this)
 refine CD.perm (Perm.cons _ (Perm.cons _ (Perm.cons _ (Perm.cons _ I)))) ?_;rw[gK] at ha;have ha:(aL (t.pg (aH t k h t.root)) k)<p.keys.length:=(by rw[gK];exact ha)
 have qa:(aL (t.pg (aH t k h t.root)) k)<p.kids.length:=(by omega)
 have hid:=dU;clear de Z;refine cL [4,7,9,11] ?_;refine aS 3 ?_ (h:=by exact(dw 5 (h:=by first|exact .l (j:=(aH t k h t.root).toNat) (Int.toNat_of_nonneg q1.1).symm hj|exact .r (j:=(aH t k h t.root).toNat) (Int.toNat_of_nonneg q1.1).symm hj)));refine bI ?_;refine CD.seq ?_;refine gJ 21 (au (take 3 _)) ?_ (fun _ h=>(Sublist.map _ (take_sublist _ _)).subset h);refine aC 0 rfl bF ?_;refine aC 1 rfl bF ?_;refine aC 2 rfl bF ?_;refine aC 3 rfl qb ?_;refine aC 4 rfl (dF 1) ?_;refine aC 6 rfl bF ?_;refine aC 7 rfl bF ?_;refine aC 8 rfl (dz (r:=.int .i64 (((aL (t.pg (aH t k h t.root)) k)+1:Nat):Int)) rfl ot bV (kr (by rw[show(((aL (t.pg (aH t k h t.root)) k):Nat):Int)+1=(((aL (t.pg (aH t k h t.root)) k)+1:Nat):Int) from rfl];exact wrap_i64 w4 w4))) ?_;refine aC 10 rfl bF ?_;refine aC 11 rfl qb ?_;refine aC 12 rfl (dF 2) ?_;refine aC 14 rfl bF ?_;refine aC 15 rfl bF ?_;refine aC 16 rfl (dz (r:=.int .i64 (((aL (t.pg (aH t k h t.root)) k)+1:Nat):Int)) rfl ot bV (kr (by rw[show(((aL (t.pg (aH t k h t.root)) k):Nat):Int)+1=(((aL (t.pg (aH t k h t.root)) k)+1:Nat):Int) from rfl];exact wrap_i64 w4 w4))) ?_;refine dH.later rfl ?_;refine AD.two (i:=5) (j:=13) az ?_ ?_
 ·first|refine at_ rfl (cR (mk:=Op.load 151) rfl ot (lA (k:=3) (j:=1) (d:=aN (some ⟨bk,0,none⟩) p.keys.length ck) (ls:=L) gN rfl rfl rfl isAgg151 hj rN)) ?_|refine at_ rfl (cR (mk:=Op.load 151) rfl ot (lA (k:=4) (j:=1) (d:=aN (some ⟨bk,0,none⟩) p.keys.length ck) (ls:=L) gN rfl rfl rfl isAgg151 hj rN)) ?_
  refine AD.two (i:=9) (j:=13) az ?_ ?_
  ·refine bz.call rfl ap rfl rfl rfl call130 (Ig p.keys (aL (t.pg (aH t k h t.root)) k) ck bk ha dU xU w4) ⟨ot,ot,ot,trivial⟩ (mo (k:=4) rfl) iD ?_;rintro _ _ ⟨rfl,rfl⟩;refine AD.perm (perm_middle (l₁:=[_,_,_,_])).symm ?_;refine AD.one (i:=13) az ?_;first|refine at_ rfl (cR (mk:=Op.load 67) rfl ot (lA (k:=3) (j:=2) (d:=aN (some ⟨bi,0,none⟩) p.kids.length ci) (ls:=L) gN rfl rfl rfl isAgg67 hj rN)) ?_|refine at_ rfl (cR (mk:=Op.load 67) rfl ot (lA (k:=4) (j:=2) (d:=aN (some ⟨bi,0,none⟩) p.kids.length ci) (ls:=L) gN rfl rfl rfl isAgg67 hj rN)) ?_
   exact z8
  first|refine at_ rfl (cR (mk:=Op.load 67) rfl ot (lA (k:=3) (j:=2) (d:=aN (some ⟨bi,0,none⟩) p.kids.length ci) (ls:=L) gN rfl rfl rfl isAgg67 hj rN)) ?_|refine at_ rfl (cR (mk:=Op.load 67) rfl ot (lA (k:=4) (j:=2) (d:=aN (some ⟨bi,0,none⟩) p.kids.length ci) (ls:=L) gN rfl rfl rfl isAgg67 hj rN)) ?_
  refine AD.one (i:=9) az ?_;refine bz.call rfl ap rfl rfl rfl call130 (Ig p.keys (aL (t.pg (aH t k h t.root)) k) ck bk ha dU xU w4) ⟨ot,ot,ot,trivial⟩ (mo (k:=4) rfl) iD ?_;rintro _ _ ⟨rfl,rfl⟩;refine AD.perm (perm_middle (l₁:=[_,_,_,_])).symm ?_;exact z8
 first|refine at_ rfl (cR (mk:=Op.load 67) rfl ot (lA (k:=3) (j:=2) (d:=aN (some ⟨bi,0,none⟩) p.kids.length ci) (ls:=L) gN rfl rfl rfl isAgg67 hj rN)) ?_|refine at_ rfl (cR (mk:=Op.load 67) rfl ot (lA (k:=4) (j:=2) (d:=aN (some ⟨bi,0,none⟩) p.kids.length ci) (ls:=L) gN rfl rfl rfl isAgg67 hj rN)) ?_
 refine AD.one (i:=5) az ?_;first|refine at_ rfl (cR (mk:=Op.load 151) rfl ot (lA (k:=3) (j:=1) (d:=aN (some ⟨bk,0,none⟩) p.keys.length ck) (ls:=L) gN rfl rfl rfl isAgg151 hj rN)) ?_|refine at_ rfl (cR (mk:=Op.load 151) rfl ot (lA (k:=4) (j:=1) (d:=aN (some ⟨bk,0,none⟩) p.keys.length ck) (ls:=L) gN rfl rfl rfl isAgg151 hj rN)) ?_
 refine AD.one (i:=9) az ?_;refine bz.call rfl ap rfl rfl rfl call130 (Ig p.keys (aL (t.pg (aH t k h t.root)) k) ck bk ha dU xU w4) ⟨ot,ot,ot,trivial⟩ (mo (k:=4) rfl) iD ?_;rintro _ _ ⟨rfl,rfl⟩;refine AD.perm (perm_middle (l₁:=[_,_,_,_])).symm ?_;refine AD.one (i:=17) az ?_;refine bz.call rfl ap rfl rfl rfl call131 (OU p.kids (aL (t.pg (aH t k h t.root)) k) ci bi qa fm GU w4) ⟨ot,ot,ot,trivial⟩ (mo (k:=5) rfl) iD ?_;rintro _ _ ⟨rfl,rfl⟩;refine AD.perm (perm_middle (l₁:=[_,_,_,_,_])).symm ?_;refine cy 18 rfl qb ?_;refine cy 19 rfl (dF 1) ?_;refine AD.one (i:=20) az ?_
 refine bz.storeAt (k:=3) (cs':=flatMap gO (L.set (aH t k h t.root).toNat (⟨{p with keys:=(p.keys.eraseIdx (aL (t.pg (aH t k h t.root)) k))},some ⟨bk,0,none⟩,ck,[⟨bk,88,ck*1,flatMap cK (p.keys.eraseIdx (aL (t.pg (aH t k h t.root)) k))⟩],some ⟨bi,0,none⟩,ci,[⟨bi,3,ci*1,flatMap cI p.kids⟩]⟩:aY))) rfl ap rfl rfl ot rfl rfl ot rfl rfl sizeOf151 rfl (by show 0+(aH t k h t.root).toNat*5+1+1≤(flatMap gO L).length;rw[cn gN];omega) (by show(L.flatMap gO).set (0+(aH t k h t.root).toNat*5+1) _=_;rw[Nat.zero_add];exact v8 gN w8 hj (by rw[←ho];show gO (⟨{p with keys:=(p.keys.eraseIdx (aL (t.pg (aH t k h t.root)) k))},some ⟨bk,0,none⟩,ck,[⟨bk,88,ck*1,flatMap cK (p.keys.eraseIdx (aL (t.pg (aH t k h t.root)) k))⟩],some ⟨bi,0,none⟩,ci,[⟨bi,3,ci*1,flatMap cI p.kids⟩]⟩:aY)=(gO (⟨p,some ⟨bk,0,none⟩,ck,[⟨bk,88,ck*1,flatMap cK p.keys⟩],some ⟨bi,0,none⟩,ci,[⟨bi,3,ci*1,flatMap cI p.kids⟩]⟩:aY)).set 1 _;unfold gO;rw[length_eraseIdx_of_lt ha];rfl)) iD ?_;refine e9 ?_;refine aF 2 ?_
 refine OD.storeAt (k:=3) (cs':=flatMap gO (L.set (aH t k h t.root).toNat (⟨(kH p (aL (t.pg (aH t k h t.root)) k)),some ⟨bk,0,none⟩,ck,[⟨bk,88,ck*1,flatMap cK (p.keys.eraseIdx (aL (t.pg (aH t k h t.root)) k))⟩],some ⟨bi,0,none⟩,ci,[⟨bi,3,ci*1,flatMap cI (p.kids.eraseIdx (aL (t.pg (aH t k h t.root)) k))⟩]⟩:aY))) ap rfl rfl ot rfl rfl ot rfl rfl sizeOf67 rfl (by show 0+(aH t k h t.root).toNat*5+2+1≤(flatMap gO (L.set (aH t k h t.root).toNat (⟨{p with keys:=(p.keys.eraseIdx (aL (t.pg (aH t k h t.root)) k))},some ⟨bk,0,none⟩,ck,[⟨bk,88,ck*1,flatMap cK (p.keys.eraseIdx (aL (t.pg (aH t k h t.root)) k))⟩],some ⟨bi,0,none⟩,ci,[⟨bi,3,ci*1,flatMap cI p.kids⟩]⟩:aY))).length;rw[cn gN,length_set];omega) (by show(flatMap gO (L.set (aH t k h t.root).toNat (⟨{p with keys:=(p.keys.eraseIdx (aL (t.pg (aH t k h t.root)) k))},some ⟨bk,0,none⟩,ck,[⟨bk,88,ck*1,flatMap cK (p.keys.eraseIdx (aL (t.pg (aH t k h t.root)) k))⟩],some ⟨bi,0,none⟩,ci,[⟨bi,3,ci*1,flatMap cI p.kids⟩]⟩:aY))).set (0+(aH t k h t.root).toNat*5+2) _=_;rw[Nat.zero_add,v8 gN (a':=(⟨(kH p (aL (t.pg (aH t k h t.root)) k)),some ⟨bk,0,none⟩,ck,[⟨bk,88,ck*1,flatMap cK (p.keys.eraseIdx (aL (t.pg (aH t k h t.root)) k))⟩],some ⟨bi,0,none⟩,ci,[⟨bi,3,ci*1,flatMap cI (p.kids.eraseIdx (aL (t.pg (aH t k h t.root)) k))⟩]⟩:aY)) w8 xK (by rw[getElem_set_self];show gO (⟨(kH p (aL (t.pg (aH t k h t.root)) k)),some ⟨bk,0,none⟩,ck,[⟨bk,88,ck*1,flatMap cK (p.keys.eraseIdx (aL (t.pg (aH t k h t.root)) k))⟩],some ⟨bi,0,none⟩,ci,[⟨bi,3,ci*1,flatMap cI (p.kids.eraseIdx (aL (t.pg (aH t k h t.root)) k))⟩]⟩:aY)=(gO (⟨{p with keys:=(p.keys.eraseIdx (aL (t.pg (aH t k h t.root)) k))},some ⟨bk,0,none⟩,ck,[⟨bk,88,ck*1,flatMap cK (p.keys.eraseIdx (aL (t.pg (aH t k h t.root)) k))⟩],some ⟨bi,0,none⟩,ci,[⟨bi,3,ci*1,flatMap cI p.kids⟩]⟩:aY)).set 2 _;unfold gO kH;simp only[];rw[length_eraseIdx_of_lt qa];rfl),set_set]) ?_
 have vM:(⟨bk,88,ck*1,flatMap cK (p.keys.eraseIdx (aL (t.pg (aH t k h t.root)) k))⟩::⟨bi,3,ci*1,flatMap cI (p.kids.eraseIdx (aL (t.pg (aH t k h t.root)) k))⟩::((L.eraseIdx (aH t k h t.root).toNat).flatMap bO)).Perm ((L.set (aH t k h t.root).toNat (⟨(kH p (aL (t.pg (aH t k h t.root)) k)),some ⟨bk,0,none⟩,ck,[⟨bk,88,ck*1,flatMap cK (p.keys.eraseIdx (aL (t.pg (aH t k h t.root)) k))⟩],some ⟨bi,0,none⟩,ci,[⟨bi,3,ci*1,flatMap cI (p.kids.eraseIdx (aL (t.pg (aH t k h t.root)) k))⟩]⟩:aY)).flatMap bO):=(yK bO hj (⟨(kH p (aL (t.pg (aH t k h t.root)) k)),some ⟨bk,0,none⟩,ck,[⟨bk,88,ck*1,flatMap cK (p.keys.eraseIdx (aL (t.pg (aH t k h t.root)) k))⟩],some ⟨bi,0,none⟩,ci,[⟨bi,3,ci*1,flatMap cI (p.kids.eraseIdx (aL (t.pg (aH t k h t.root)) k))⟩]⟩:aY)).symm;refine OD.perm (Perm.cons _ (Perm.cons _ (Perm.cons _ (Perm.cons _ vM)))) ?_;refine an 58 [4,7] ?_;refine aB 1 ?_;refine aR 1 [_,_] sizeOf51 ?_;refine an 58 [4,5] ?_
 refine aI ([⟨bx,153,cap*5,flatMap gO (L.set (aH t k h t.root).toNat (⟨(kH p (aL (t.pg (aH t k h t.root)) k)),some ⟨bk,0,none⟩,ck,[⟨bk,88,ck*1,flatMap cK (p.keys.eraseIdx (aL (t.pg (aH t k h t.root)) k))⟩],some ⟨bi,0,none⟩,ci,[⟨bi,3,ci*1,flatMap cI (p.kids.eraseIdx (aL (t.pg (aH t k h t.root)) k))⟩]⟩:aY))⟩]++(L.set (aH t k h t.root).toNat (⟨(kH p (aL (t.pg (aH t k h t.root)) k)),some ⟨bk,0,none⟩,ck,[⟨bk,88,ck*1,flatMap cK (p.keys.eraseIdx (aL (t.pg (aH t k h t.root)) k))⟩],some ⟨bi,0,none⟩,ci,[⟨bi,3,ci*1,flatMap cI (p.kids.eraseIdx (aL (t.pg (aH t k h t.root)) k))⟩]⟩:aY)).flatMap bO) ?_;unfold rB;rw[if_pos hz,if_pos iQ];refine⟨_,rfl,L.set (aH t k h t.root).toNat (⟨(kH p (aL (t.pg (aH t k h t.root)) k)),some ⟨bk,0,none⟩,ck,[⟨bk,88,ck*1,flatMap cK (p.keys.eraseIdx (aL (t.pg (aH t k h t.root)) k))⟩],some ⟨bi,0,none⟩,ci,[⟨bi,3,ci*1,flatMap cI (p.kids.eraseIdx (aL (t.pg (aH t k h t.root)) k))⟩]⟩:aY),some ⟨bx,0,none⟩,cap,_,by rw[length_set];rfl,bM xJ xT,fun x hx=>?_,?_,rfl⟩
 ·rcases mem_or_eq_of_mem_set hx with hx|rfl
  ·exact aQ x hx
  exact⟨bM (by show(p.keys.eraseIdx (aL (t.pg (aH t k h t.root)) k)).length≤ck;rw[length_eraseIdx_of_lt ha];omega) xU,bM (by show(p.kids.eraseIdx (aL (t.pg (aH t k h t.root)) k)).length≤ci;rw[length_eraseIdx_of_lt qa];omega) GU⟩
 rw[map_set,hL];show _=t.ag.set (aH t k h t.root).toNat (kH (t.pg (aH t k h t.root)) (aL (t.pg (aH t k h t.root)) k));rw[←gK]
theorem abN(t:aD)(h:Nat)(k:K)(hb:∀p∈t.ag,p.keys.length≤maxLen∧p.kids.length≤maxLen)(E:gv t=0→Valid t h):VP Tryz.prog G 90 [.agg (cT t),av 1 cB k] (.di [.agg (cT (rB t k h).1),ae (rB t k h).2]):=(abM t h k hb E).cover fun r S hr=>hr.view

def WE(L:List aY)(b:Nat)(root:Int)(j:Nat)(p:cW)(r:D)(S:List ah):Prop:=r = .di [.list 1 ((gG p).flatMap cB) (gG p).length,ae (L.length:Nat)]∧∃L' ad cap Sx,ur L' ad cap Sx∧(∀o∈L',qY o)∧L'.map aY.p=(L.map aY.p).set j (ek p L.length)++[cl p]∧S=⟨b,51,2,[aN ad (length L') cap,ae root]⟩::(Sx++L'.flatMap bO)
theorem OT:(Tryz.prog.info? 153).map (fun i=>(i.zero,i.size,i.bytes))=some (some (.agg #[.bool false,.slice none 0 0,.slice none 0 0,.slice none 0 0,.int .i64 0]),5,88):=by kernel_rfl
theorem adC(L:List aY)(b:Nat)(root i:Int)(ad:Option Addr)(cap:Nat)(Sx:List ah)(hi:0≤i∧i<L.length)(hn:L.length≤10000)(dN:ur L ad cap Sx)(aQ:∀o∈L,qY o)(h5:(L[i.toNat]'w4).p.keys.length=5)(dU:(L[i.toNat]'w4).p.leaf=true→(L[i.toNat]'w4).p.kids.length=5)(yu:(L[i.toNat]'w4).p.leaf=false→(L[i.toNat]'w4).p.kids.length=6)(HH:∀k∈(L[i.toNat]'w4).p.keys,k.length≤100)(hh:(L[i.toNat]'w4).p.high.length≤100) :
 VC Tryz.prog G 126 [cQ b,ae i] (⟨b,51,2,[aN ad L.length cap,ae root]⟩::(Sx++L.flatMap bO)) (WE L b root i.toNat (L[i.toNat]'w4).p):=by
 refine VC.body func126 rfl ntmps126 aO fun X0 w0 bg=>?_;have c8:=dR;have hj:i.toNat<L.length:=(by omega)
 obtain⟨bx,rfl,fZ,xT,rfl⟩:=dN.pos w4;have yg:=aQ _ (getElem_mem hj);obtain⟨o,ho⟩:∃o,o=L[i.toNat]:=⟨_,rfl⟩
 rw[←ho] at yg h5 dU yu HH hh ⊢;rcases o with ⟨p,ak,ck,sk,ai,ci,si⟩
 obtain⟨de,kj⟩:nT p.keys ak ck sk∧mV p.kids ai ci si:=yg;change p.keys.length=5 at h5;change p.leaf=true→p.kids.length=5 at dU;change p.leaf=false→p.kids.length=6 at yu;change ∀k∈p.keys,k.length≤100 at HH;change p.high.length≤100 at hh;have K8:(L.flatMap bO).Perm (sk++(si++((L.eraseIdx i.toNat).flatMap bO))):=(by have:=y8 bO hj;rw[←ho] at this;exact this.trans (by rw[show bO ⟨p,ak,ck,sk,ai,ci,si⟩=sk++si from rfl,append_assoc]))
 refine CD.perm (Perm.cons _ (Perm.cons _ K8)) ?_;have uw:gG p=p.keys[2]'w4:=zh h5;have YO:(p.keys[2]'w4).length≤100:=HH _ (getElem_mem _);refine af [0,1] ?_;refine aB 5 ?_;refine bN (dw 5 (h:=by first|exact .l (j:=i.toNat) (Int.toNat_of_nonneg hi.1).symm hj|exact .r (j:=i.toNat) (Int.toNat_of_nonneg hi.1).symm hj)) ?_;refine bN (cR (mk:=Op.load 153) rfl ot (dA (k:=1) (ls:=L) (i:=i.toNat) gN rfl rfl rfl isAgg153 sizeOf153 hj)) ?_;refine OD.alloc (ds:=[_,_,_,_,_]) ap rfl rfl zeroValue153 rfl (fun b6=>?_);refine aR 0 [_,_,_,_,_] sizeOf153 ?_;refine an 98 [0,1,6] ?_;refine CD.seq ?_;refine CD.wk (Wk.cover (A:=⟨b6,153,5,gO L[i.toNat]⟩) (R:=⟨b,51,2,[aN (some ⟨bx,0,none⟩) L.length cap,ae root]⟩::⟨bx,153,cap*5,flatMap gO L⟩::((L.eraseIdx i.toNat).flatMap bO)) (Sd:=sk++si) (cs':=cP p) (Perm.cons _ (Perm.cons _ (Perm.cons _ (by rw[←append_assoc];exact perm_append_comm)))) (by show gw _ (gO L[i.toNat]) _;rw[←ho];exact⟨eM,lK de (cn gb _) (fun B hB=>mem_append_left _ hB),lK kj (cn ez _) (fun B hB=>mem_append_right _ hB),eM,eM,trivial⟩)) ?_;refine dK 7 ?_;refine OD.alloc (ds:=[_,_,_,_,_]) ap rfl rfl zeroValue153 rfl (fun b7=>?_);refine aR 0 [_,_,_,_,_] sizeOf153 ?_;refine an 98 [0,1,6,7] ?_;refine cL [0,1,6,7,8] ?_
 refine aS 2 ?_ (h:=by exact(su (mk:=Op.indexAddr 151) rfl ot bV (by first|exact tX runUnderlying151 sizeOf88 (j:=2) rfl w4|exact uf runUnderlying151 sizeOf88 (j:=2) rfl w4)));refine bI ?_;refine CD.cut (fun aG=>∃(b7:Nat),∃(O:Option Addr),∃(U:Nat),∃(E:List ah),∃(Z:Option Addr),∃(iw:Nat),∃(I:List ah),∃(je:Option Addr),∃(eP:Nat),∃(iN:List ah),(nT (cl p).keys O U E)∧(mV (cl p).kids Z iw I)∧(mV (ek p L.length).kids je eP iN)∧aG=(⟨98,[(0,cQ b),(1,ae i),(6,cQ b6),(7,cQ b7),(8,.list 1 ((gG p).flatMap cB) (gG p).length)],(⟨b7,153,5,[bJ p.leaf,aN O (cl p).keys.length U,aN Z (cl p).kids.length iw,av 1 cB p.high,ae p.next]⟩::⟨b6,153,5,[bJ p.leaf,av 1 cK p.keys,aN je (ek p L.length).kids.length eP,av 1 cB p.high,ae p.next]⟩::⟨b,51,2,[aN (some ⟨bx,0,none⟩) L.length cap,ae root]⟩::⟨bx,153,cap*5,flatMap gO L⟩::(iN++(I++(E++((L.eraseIdx i.toNat).flatMap bO)))))⟩:St)) ?_ ?_
 ·refine af [0,1,6,7,8,28] ?_;refine aq ?_ ?_<;>intro aP bC
  ·have fI:p.leaf=true:=aP;have dU:=dU fI;refine CD.cut (fun aG=>∃(O:Option Addr),∃(U:Nat),∃(E:List ah),∃(Z:Option Addr),∃(iw:Nat),∃(I:List ah),(nT (cl p).keys O U E)∧(mV (cl p).kids Z iw I)∧aG=(⟨98,[(0,cQ b),(1,ae i),(6,cQ b6),(7,cQ b7),(8,.list 1 ((gG p).flatMap cB) (gG p).length)],(⟨b7,153,5,[bJ p.leaf,aN O (cl p).keys.length U,aN Z (cl p).kids.length iw,av 1 cB p.high,ae p.next]⟩::⟨b6,153,5,[bJ p.leaf,av 1 cK p.keys,av 1 cI p.kids,av 1 cB p.high,ae p.next]⟩::⟨b,51,2,[aN (some ⟨bx,0,none⟩) L.length cap,ae root]⟩::⟨bx,153,cap*5,flatMap gO L⟩::(I++(E++((L.eraseIdx i.toNat).flatMap bO))))⟩:St)) ?_ ?_
   ·refine gJ 10 (au (take 2 (drop 1 _))) ?_ (fun _ h=>(Sublist.map _ ((take_sublist _ _).trans (drop_sublist _ _))).subset h);refine aC 0 rfl (dF 1) ?_;refine aC 4 rfl (dF 2) ?_;refine dH.later rfl ?_;refine AD.two (i:=1) (j:=5) az ?_ ?_
    ·refine at_ rfl (dI 1) ?_;refine cy 2 rfl (eB (l:=2) rfl ot ⟨_,bV⟩ trivial GL) ?_;refine AD.two (i:=3) (j:=5) az ?_ ?_
     ·have BU:VC Tryz.prog G 150 [.list 1 ((p.keys.drop 2).flatMap cK) (p.keys.drop 2).length] [] (fun r S=>∃ad cap,r=aN ad (cl p).keys.length cap∧nT (cl p).keys ad cap S):=(by rw[show(p.keys.drop 2)=(cl p).keys from vG];exact wm _ MB)
      refine bz.call rfl ap rfl rfl rfl call150 BU ⟨ot,trivial⟩ (eV _) iD ?_;rintro _ DA ⟨DB,DC,rfl,Cp⟩;refine AD.perm (jX (A:=[_,_,_,_])) ?_;refine cy 8 rfl (dF 1) ?_;refine AD.one (i:=5) az ?_;refine at_ rfl (dI 1) ?_;refine cy 6 rfl (eB (l:=2) rfl ot ⟨_,bV⟩ trivial Aa) ?_;refine AD.one (i:=7) az ?_;have BV:VC Tryz.prog G 120 [.list 1 ((p.kids.drop 2).flatMap cI) (p.kids.drop 2).length] [] (fun r S=>∃ad cap,r=aN ad (cl p).kids.length cap∧mV (cl p).kids ad cap S):=(by rw[show(p.kids.drop 2)=(cl p).kids from vF];exact q9 _ Mz)
      refine bz.call rfl ap rfl rfl rfl call120 BV ⟨ot,trivial⟩ (eV _) iD ?_;rintro _ DD ⟨DE,DF,rfl,Cq⟩;refine AD.perm (jX (A:=[_,_,_,_])) ?_;refine AD.one (i:=9) az ?_;refine dG 0 [_,_,_,_,_] sizeOf151 ?_;refine e9 ?_;refine aF 1 ?_;refine aR 0 [_,_,_,_,_] sizeOf67 ?_;refine an 98 [0,1,6,7,8] ?_;refine⟨_,(aK (h:=by repeat (first|exact trivial|refine⟨w7,?_⟩))),DB,DC,DA,DE,DF,DD,Cp,Cq,rfl⟩
     refine at_ rfl (dI 1) ?_;refine cy 6 rfl (eB (l:=2) rfl ot ⟨_,bV⟩ trivial Aa) ?_;refine AD.one (i:=3) az ?_;have BU:VC Tryz.prog G 150 [.list 1 ((p.keys.drop 2).flatMap cK) (p.keys.drop 2).length] [] (fun r S=>∃ad cap,r=aN ad (cl p).keys.length cap∧nT (cl p).keys ad cap S):=(by rw[show(p.keys.drop 2)=(cl p).keys from vG];exact wm _ MB)
     refine bz.call rfl ap rfl rfl rfl call150 BU ⟨ot,trivial⟩ (eV _) iD ?_;rintro _ DA ⟨DB,DC,rfl,Cp⟩;refine AD.perm (jX (A:=[_,_,_,_])) ?_;refine cy 8 rfl (dF 1) ?_;refine AD.one (i:=7) az ?_;have BV:VC Tryz.prog G 120 [.list 1 ((p.kids.drop 2).flatMap cI) (p.kids.drop 2).length] [] (fun r S=>∃ad cap,r=aN ad (cl p).kids.length cap∧mV (cl p).kids ad cap S):=(by rw[show(p.kids.drop 2)=(cl p).kids from vF];exact q9 _ Mz)
     refine bz.call rfl ap rfl rfl rfl call120 BV ⟨ot,trivial⟩ (eV _) iD ?_;rintro _ DD ⟨DE,DF,rfl,Cq⟩;refine AD.perm (jX (A:=[_,_,_,_])) ?_;refine AD.one (i:=9) az ?_;refine dG 0 [_,_,_,_,_] sizeOf151 ?_;refine e9 ?_;refine aF 1 ?_;refine aR 0 [_,_,_,_,_] sizeOf67 ?_;refine an 98 [0,1,6,7,8] ?_;refine⟨_,(aK (h:=by repeat (first|exact trivial|refine⟨w7,?_⟩))),DB,DC,DA,DE,DF,DD,Cp,Cq,rfl⟩
    refine at_ rfl (dI 1) ?_;refine cy 6 rfl (eB (l:=2) rfl ot ⟨_,bV⟩ trivial Aa) ?_;refine AD.one (i:=1) az ?_;refine at_ rfl (dI 1) ?_;refine cy 2 rfl (eB (l:=2) rfl ot ⟨_,bV⟩ trivial GL) ?_;refine AD.one (i:=3) az ?_;have BU:VC Tryz.prog G 150 [.list 1 ((p.keys.drop 2).flatMap cK) (p.keys.drop 2).length] [] (fun r S=>∃ad cap,r=aN ad (cl p).keys.length cap∧nT (cl p).keys ad cap S):=(by rw[show(p.keys.drop 2)=(cl p).keys from vG];exact wm _ MB)
    refine bz.call rfl ap rfl rfl rfl call150 BU ⟨ot,trivial⟩ (eV _) iD ?_;rintro _ DA ⟨DB,DC,rfl,Cp⟩;refine AD.perm (jX (A:=[_,_,_,_])) ?_;refine cy 8 rfl (dF 1) ?_;refine AD.one (i:=7) az ?_;have BV:VC Tryz.prog G 120 [.list 1 ((p.kids.drop 2).flatMap cI) (p.kids.drop 2).length] [] (fun r S=>∃ad cap,r=aN ad (cl p).kids.length cap∧mV (cl p).kids ad cap S):=(by rw[show(p.kids.drop 2)=(cl p).kids from vF];exact q9 _ Mz)
    refine bz.call rfl ap rfl rfl rfl call120 BV ⟨ot,trivial⟩ (eV _) iD ?_;rintro _ DD ⟨DE,DF,rfl,Cq⟩;refine AD.perm (jX (A:=[_,_,_,_])) ?_;refine AD.one (i:=9) az ?_;refine dG 0 [_,_,_,_,_] sizeOf151 ?_;refine e9 ?_;refine aF 1 ?_;refine aR 0 [_,_,_,_,_] sizeOf67 ?_;refine an 98 [0,1,6,7,8] ?_;refine⟨_,(aK (h:=by repeat (first|exact trivial|refine⟨w7,?_⟩))),DB,DC,DA,DE,DF,DD,Cp,Cq,rfl⟩
   rintro _ ⟨O,U,E,Z,iw,I,qM,Cr,rfl⟩;refine dK 2 ?_;refine bN (eB (l:=0) (h:=2) rfl ot trivial ⟨_,bV⟩ (by first|exact nQ gb (fun h=>by cases h) runUnderlying67 sizeOf3 w4|exact nQ ez (fun h=>by cases h) runUnderlying67 sizeOf3 w4|exact oB (fun h=>by cases h) runUnderlying67 sizeOf3 w4|exact nP (fun _=>rfl) (fun h=>by cases h) runUnderlying67 sizeOf3 w4 w4)) ?_;have aik:VC Tryz.prog G 120 [.list 1 ((p.kids.take 2).flatMap cI) (p.kids.take 2).length] [] (fun r S=>∃ad cap,r=aN ad (ek p L.length).kids.length cap∧mV (ek p L.length).kids ad cap S):=(by rw[show(p.kids.take 2)=(ek p L.length).kids from GJ];exact q9 _ (by rw[←show(p.kids.take 2)=(ek p L.length).kids from GJ];simp only[length_take,length_drop];omega))
   refine OD.call ap rfl rfl rfl call120 aik ⟨ot,trivial⟩ (eV _) ?_;rintro _ S42 ⟨a42,c42,rfl,akY⟩;refine OD.perm (jX (A:=[_,_,_,_])) ?_;refine aF 1 ?_;refine aR 1 [_,_,_,_,_] sizeOf67 ?_;refine an 98 [0,1,6,7,8] ?_;refine⟨_,(aK (h:=by repeat (first|exact trivial|refine⟨w7,?_⟩))),b7,O,U,E,Z,iw,I,a42,c42,S42,qM,Cr,akY,rfl⟩
  have fI:p.leaf=false:=aP;have yu:=yu fI;refine CD.cut (fun aG=>∃(O:Option Addr),∃(U:Nat),∃(E:List ah),∃(Z:Option Addr),∃(iw:Nat),∃(I:List ah),(nT (cl p).keys O U E)∧(mV (cl p).kids Z iw I)∧aG=(⟨98,[(0,cQ b),(1,ae i),(6,cQ b6),(7,cQ b7),(8,.list 1 ((gG p).flatMap cB) (gG p).length)],(⟨b7,153,5,[bJ p.leaf,aN O (cl p).keys.length U,aN Z (cl p).kids.length iw,av 1 cB p.high,ae p.next]⟩::⟨b6,153,5,[bJ p.leaf,av 1 cK p.keys,av 1 cI p.kids,av 1 cB p.high,ae p.next]⟩::⟨b,51,2,[aN (some ⟨bx,0,none⟩) L.length cap,ae root]⟩::⟨bx,153,cap*5,flatMap gO L⟩::(I++(E++((L.eraseIdx i.toNat).flatMap bO))))⟩:St)) ?_ ?_
  ·refine gJ 10 (au (take 2 (drop 1 _))) ?_ (fun _ h=>(Sublist.map _ ((take_sublist _ _).trans (drop_sublist _ _))).subset h);refine aC 0 rfl (dF 1) ?_;refine aC 4 rfl (dF 2) ?_;refine dH.later rfl ?_;refine AD.two (i:=1) (j:=5) az ?_ ?_
   ·refine at_ rfl (dI 1) ?_;refine cy 2 rfl (eB (l:=3) rfl ot ⟨_,bV⟩ trivial GL) ?_;refine AD.two (i:=3) (j:=5) az ?_ ?_
    ·have BW:VC Tryz.prog G 150 [.list 1 ((p.keys.drop 3).flatMap cK) (p.keys.drop 3).length] [] (fun r S=>∃ad cap,r=aN ad (cl p).keys.length cap∧nT (cl p).keys ad cap S):=(by rw[show(p.keys.drop 3)=(cl p).keys from vG];exact wm _ MA)
     refine bz.call rfl ap rfl rfl rfl call150 BW ⟨ot,trivial⟩ (eV _) iD ?_;rintro _ DG ⟨DH,DI,rfl,Cs⟩;refine AD.perm (jX (A:=[_,_,_,_])) ?_;refine cy 8 rfl (dF 1) ?_;refine AD.one (i:=5) az ?_;refine at_ rfl (dI 1) ?_;refine cy 6 rfl (eB (l:=3) rfl ot ⟨_,bV⟩ trivial Aa) ?_;refine AD.one (i:=7) az ?_;have BX:VC Tryz.prog G 120 [.list 1 ((p.kids.drop 3).flatMap cI) (p.kids.drop 3).length] [] (fun r S=>∃ad cap,r=aN ad (cl p).kids.length cap∧mV (cl p).kids ad cap S):=(by rw[show(p.kids.drop 3)=(cl p).kids from vF];exact q9 _ My)
     refine bz.call rfl ap rfl rfl rfl call120 BX ⟨ot,trivial⟩ (eV _) iD ?_;rintro _ DJ ⟨a51,DK,rfl,Ct⟩;refine AD.perm (jX (A:=[_,_,_,_])) ?_;refine AD.one (i:=9) az ?_;refine dG 0 [_,_,_,_,_] sizeOf151 ?_;refine e9 ?_;refine aF 1 ?_;refine aR 0 [_,_,_,_,_] sizeOf67 ?_;refine an 98 [0,1,6,7,8] ?_;refine⟨_,(aK (h:=by repeat (first|exact trivial|refine⟨w7,?_⟩))),DH,DI,DG,a51,DK,DJ,Cs,Ct,rfl⟩
    refine at_ rfl (dI 1) ?_;refine cy 6 rfl (eB (l:=3) rfl ot ⟨_,bV⟩ trivial Aa) ?_;refine AD.one (i:=3) az ?_;have BW:VC Tryz.prog G 150 [.list 1 ((p.keys.drop 3).flatMap cK) (p.keys.drop 3).length] [] (fun r S=>∃ad cap,r=aN ad (cl p).keys.length cap∧nT (cl p).keys ad cap S):=(by rw[show(p.keys.drop 3)=(cl p).keys from vG];exact wm _ MA)
    refine bz.call rfl ap rfl rfl rfl call150 BW ⟨ot,trivial⟩ (eV _) iD ?_;rintro _ DG ⟨DH,DI,rfl,Cs⟩;refine AD.perm (jX (A:=[_,_,_,_])) ?_;refine cy 8 rfl (dF 1) ?_;refine AD.one (i:=7) az ?_;have BX:VC Tryz.prog G 120 [.list 1 ((p.kids.drop 3).flatMap cI) (p.kids.drop 3).length] [] (fun r S=>∃ad cap,r=aN ad (cl p).kids.length cap∧mV (cl p).kids ad cap S):=(by rw[show(p.kids.drop 3)=(cl p).kids from vF];exact q9 _ My)
    refine bz.call rfl ap rfl rfl rfl call120 BX ⟨ot,trivial⟩ (eV _) iD ?_;rintro _ DJ ⟨a51,DK,rfl,Ct⟩;refine AD.perm (jX (A:=[_,_,_,_])) ?_;refine AD.one (i:=9) az ?_;refine dG 0 [_,_,_,_,_] sizeOf151 ?_;refine e9 ?_;refine aF 1 ?_;refine aR 0 [_,_,_,_,_] sizeOf67 ?_;refine an 98 [0,1,6,7,8] ?_;refine⟨_,(aK (h:=by repeat (first|exact trivial|refine⟨w7,?_⟩))),DH,DI,DG,a51,DK,DJ,Cs,Ct,rfl⟩
   refine at_ rfl (dI 1) ?_;refine cy 6 rfl (eB (l:=3) rfl ot ⟨_,bV⟩ trivial Aa) ?_;refine AD.one (i:=1) az ?_;refine at_ rfl (dI 1) ?_;refine cy 2 rfl (eB (l:=3) rfl ot ⟨_,bV⟩ trivial GL) ?_;refine AD.one (i:=3) az ?_;have BW:VC Tryz.prog G 150 [.list 1 ((p.keys.drop 3).flatMap cK) (p.keys.drop 3).length] [] (fun r S=>∃ad cap,r=aN ad (cl p).keys.length cap∧nT (cl p).keys ad cap S):=(by rw[show(p.keys.drop 3)=(cl p).keys from vG];exact wm _ MA)
   refine bz.call rfl ap rfl rfl rfl call150 BW ⟨ot,trivial⟩ (eV _) iD ?_;rintro _ DG ⟨DH,DI,rfl,Cs⟩;refine AD.perm (jX (A:=[_,_,_,_])) ?_;refine cy 8 rfl (dF 1) ?_;refine AD.one (i:=7) az ?_;have BX:VC Tryz.prog G 120 [.list 1 ((p.kids.drop 3).flatMap cI) (p.kids.drop 3).length] [] (fun r S=>∃ad cap,r=aN ad (cl p).kids.length cap∧mV (cl p).kids ad cap S):=(by rw[show(p.kids.drop 3)=(cl p).kids from vF];exact q9 _ My)
   refine bz.call rfl ap rfl rfl rfl call120 BX ⟨ot,trivial⟩ (eV _) iD ?_;rintro _ DJ ⟨a51,DK,rfl,Ct⟩;refine AD.perm (jX (A:=[_,_,_,_])) ?_;refine AD.one (i:=9) az ?_;refine dG 0 [_,_,_,_,_] sizeOf151 ?_;refine e9 ?_;refine aF 1 ?_;refine aR 0 [_,_,_,_,_] sizeOf67 ?_;refine an 98 [0,1,6,7,8] ?_;refine⟨_,(aK (h:=by repeat (first|exact trivial|refine⟨w7,?_⟩))),DH,DI,DG,a51,DK,DJ,Cs,Ct,rfl⟩
  rintro _ ⟨O,U,E,Z,iw,I,qM,Cr,rfl⟩;refine dK 2 ?_;refine bN (eB (l:=0) (h:=3) rfl ot trivial ⟨_,bV⟩ (by first|exact nQ gb (fun h=>by cases h) runUnderlying67 sizeOf3 w4|exact nQ ez (fun h=>by cases h) runUnderlying67 sizeOf3 w4|exact oB (fun h=>by cases h) runUnderlying67 sizeOf3 w4|exact nP (fun _=>rfl) (fun h=>by cases h) runUnderlying67 sizeOf3 w4 w4)) ?_;have ail:VC Tryz.prog G 120 [.list 1 ((p.kids.take 3).flatMap cI) (p.kids.take 3).length] [] (fun r S=>∃ad cap,r=aN ad (ek p L.length).kids.length cap∧mV (ek p L.length).kids ad cap S):=(by rw[show(p.kids.take 3)=(ek p L.length).kids from GJ];exact q9 _ (by rw[←show(p.kids.take 3)=(ek p L.length).kids from GJ];simp only[length_take,length_drop];omega))
  refine OD.call ap rfl rfl rfl call120 ail ⟨ot,trivial⟩ (eV _) ?_;rintro _ Hv ⟨a57,c57,rfl,Gq⟩;refine OD.perm (jX (A:=[_,_,_,_])) ?_;refine aF 1 ?_;refine aR 1 [_,_,_,_,_] sizeOf67 ?_;refine an 98 [0,1,6,7,8] ?_;refine⟨_,(aK (h:=by repeat (first|exact trivial|refine⟨w7,?_⟩))),b7,O,U,E,Z,iw,I,a57,c57,Hv,qM,Cr,Gq,rfl⟩
 rintro _ ⟨b7,O,U,E,Z,iw,I,je,eP,iN,qM,Cr,akZ,rfl⟩;refine aB 2 ?_;refine bN (eB (l:=0) (h:=2) rfl ot trivial ⟨_,bV⟩ (by first|exact nQ gb (fun h=>by cases h) runUnderlying151 sizeOf88 w4|exact nQ ez (fun h=>by cases h) runUnderlying151 sizeOf88 w4|exact oB (fun h=>by cases h) runUnderlying151 sizeOf88 w4|exact nP (fun _=>rfl) (fun h=>by cases h) runUnderlying151 sizeOf88 w4 w4)) ?_;have aim:VC Tryz.prog G 150 [.list 1 ((p.keys.take 2).flatMap cK) (p.keys.take 2).length] [] (fun r S=>∃ad cap,r=aN ad (ek p L.length).keys.length cap∧nT (ek p L.length).keys ad cap S):=(by rw[show(p.keys.take 2)=(ek p L.length).keys from rfl];exact wm _ (by rw[←show(p.keys.take 2)=(ek p L.length).keys from rfl];simp only[length_take,length_drop];omega))
 refine OD.call ap rfl rfl rfl call150 aim ⟨ot,trivial⟩ (eV _) ?_;rintro _ jv ⟨jH,jI,rfl,ak0⟩;refine OD.perm (jX (A:=[_,_,_,_])) ?_;refine aF 1 ?_;refine aR 1 [_,_,_,_,_] sizeOf151 ?_;refine an 98 [0,1,6,7,8] ?_;refine CD.cut (fun aG=>(True)∧aG=(⟨98,[(0,cQ b),(1,ae i),(6,cQ b6),(7,cQ b7),(8,.list 1 ((gG p).flatMap cB) (gG p).length)],(⟨b7,153,5,[bJ p.leaf,aN O (cl p).keys.length U,aN Z (cl p).kids.length iw,av 1 cB p.high,ae p.next]⟩::⟨b6,153,5,[bJ p.leaf,aN jH (ek p L.length).keys.length jI,aN je (ek p L.length).kids.length eP,.list 1 ((gG p).flatMap cB) (gG p).length,ae (L.length:Nat)]⟩::⟨b,51,2,[aN (some ⟨bx,0,none⟩) L.length cap,ae root]⟩::⟨bx,153,cap*5,flatMap gO L⟩::(jv++(iN++(I++(E++((L.eraseIdx i.toNat).flatMap bO))))))⟩:St)) ?_ ?_
 ·refine gJ 9 (au (take 1 (drop 0 _))) ?_ (fun _ h=>(Sublist.map _ ((take_sublist _ _).trans (drop_sublist _ _))).subset h);refine aC 0 rfl bF ?_;refine aC 2 rfl bF ?_;refine aC 3 rfl qb ?_;refine aC 4 rfl (dF 0) ?_;refine dH.later rfl ?_;refine AD.two (i:=1) (j:=5) az ?_ ?_
  ·refine lj call95 (mj (gG p) (by rw[uw];omega)) ?_;refine cy 7 rfl (dF 3) ?_;refine AD.two (i:=5) (j:=8) az ?_ ?_
   ·refine at_ rfl (dI 2) ?_;refine cy 6 rfl x7 ?_;refine AD.one (i:=8) az ?_;refine dG 1 [_,_,_,_,_] sizeOf88 ?_;refine e9 ?_;refine aF 1 ?_;refine aR 1 [_,_,_,_,_] sizeOf3 ?_;refine an 98 [0,1,6,7,8] ?_;refine⟨_,(aK (h:=by repeat (first|exact trivial|refine⟨w7,?_⟩))),trivial,rfl⟩
   refine dG 1 [_,_,_,_,_] sizeOf88 ?_;refine AD.one (i:=5) az ?_;refine at_ rfl (dI 2) ?_;refine cy 6 rfl x7 ?_;refine e9 ?_;refine aF 1 ?_;refine aR 1 [_,_,_,_,_] sizeOf3 ?_;refine an 98 [0,1,6,7,8] ?_;refine⟨_,(aK (h:=by repeat (first|exact trivial|refine⟨w7,?_⟩))),trivial,rfl⟩
  refine at_ rfl (dI 2) ?_;refine cy 6 rfl x7 ?_;refine AD.one (i:=1) az ?_;refine lj call95 (mj (gG p) (by rw[uw];omega)) ?_;refine cy 7 rfl (dF 3) ?_;refine AD.one (i:=8) az ?_;refine dG 1 [_,_,_,_,_] sizeOf88 ?_;refine e9 ?_;refine aF 1 ?_;refine aR 1 [_,_,_,_,_] sizeOf3 ?_;refine an 98 [0,1,6,7,8] ?_;refine⟨_,(aK (h:=by repeat (first|exact trivial|refine⟨w7,?_⟩))),trivial,rfl⟩
 rintro _ ⟨_,rfl⟩;refine CD.seq ?_;refine nH 6 [0,7,8,76,77,78] ?_;refine bI ?_;refine bN (dw 5 (h:=by first|exact .l (j:=i.toNat) (Int.toNat_of_nonneg hi.1).symm hj|exact .r (j:=i.toNat) (Int.toNat_of_nonneg hi.1).symm hj)) ?_;refine OD.storeAt (k:=3) (cs':=flatMap gO (L.set i.toNat (⟨ek p L.length,jH,jI,jv,je,eP,iN⟩:aY))) ap rfl rfl ot rfl rfl ot rfl rfl sizeOf153 rfl (by show 0+i.toNat*5+5≤(flatMap gO L).length;rw[cn gN];omega) (by show da (L.flatMap gO) (0+i.toNat*5) (gO (⟨ek p L.length,jH,jI,jv,je,eP,iN⟩:aY))=_;rw[Nat.zero_add];exact o8 gN L (⟨ek p L.length,jH,jI,jv,je,eP,iN⟩:aY) hj) ?_;refine an 98 [0,7,8] ?_
 refine CD.cut (fun aG=>∃(pG:Nat),∃(oN:Nat),(((L.set i.toNat (⟨ek p L.length,jH,jI,jv,je,eP,iN⟩:aY))++[(⟨cl p,O,U,E,Z,iw,I⟩:aY)]).length≤oN)∧(oN≤maxLen)∧aG=(⟨98,[(0,cQ b),(8,.list 1 ((gG p).flatMap cB) (gG p).length)],(⟨pG,153,oN*5,flatMap gO ((L.set i.toNat (⟨ek p L.length,jH,jI,jv,je,eP,iN⟩:aY))++[(⟨cl p,O,U,E,Z,iw,I⟩:aY)])⟩::⟨b7,153,5,[bJ p.leaf,aN O (cl p).keys.length U,aN Z (cl p).kids.length iw,av 1 cB p.high,ae p.next]⟩::⟨b6,153,5,[bJ p.leaf,aN jH (ek p L.length).keys.length jI,aN je (ek p L.length).kids.length eP,.list 1 ((gG p).flatMap cB) (gG p).length,ae (L.length:Nat)]⟩::⟨b,51,2,[aN (some ⟨pG,0,none⟩) ((L.set i.toNat (⟨ek p L.length,jH,jI,jv,je,eP,iN⟩:aY))++[(⟨cl p,O,U,E,Z,iw,I⟩:aY)]).length oN,ae root]⟩::(jv++(iN++(I++(E++((L.eraseIdx i.toNat).flatMap bO))))))⟩:St)) ?_ ?_
 ·refine gJ 8 (au (take 2 _)) ?_ (fun _ h=>(Sublist.map _ (take_sublist _ _)).subset h);refine aC 0 rfl bF ?_;refine aC 1 rfl bF ?_;refine aC 2 rfl qb ?_;refine aC 3 rfl (dF 0) ?_;refine aC 5 rfl (Lj 0 [_,_,_,_,_]) ?_;refine dH.later rfl ?_;refine AD.two (i:=4) (j:=6) az ?_ ?_
  ·refine at_ rfl (cR (mk:=Op.load 49) rfl ot (zc (k:=2) (d:=aN (some ⟨bx,0,none⟩) (L.set i.toNat (⟨ek p L.length,jH,jI,jv,je,eP,iN⟩:aY)).length cap) rfl rfl isAgg49 (by rw[length_set];rfl))) ?_;refine AD.one (i:=6) az ?_;refine j3 (cf 0 [_]) [.bool false,.slice none 0 0,.slice none 0 0,.slice none 0 0,.int .i64 0] [_,_,_,_,_] zeroValue153 runUnderlying49 sizeOf153 (fun b86=>?_);refine j4 0 86 5 1 ?_;refine AD.one (i:=7) az ?_;refine bz.ey (ls:=(L.set i.toNat (⟨ek p L.length,jH,jI,jv,je,eP,iN⟩:aY))) (new:=[(⟨cl p,O,U,E,Z,iw,I⟩:aY)]) (Sq:=[⟨bx,153,cap*5,flatMap gO (L.set i.toNat (⟨ek p L.length,jH,jI,jv,je,eP,iN⟩:aY))⟩]) gN Fm rfl ap rfl rfl underlying49 OT rfl w8 ot (bM xJ xT) (mo (k:=3) rfl) ot bn (by simp only[maxLen,length_set,length_cons,length_nil] at *;omega) (by simp only[length_set,length_cons,length_nil] at *;omega) (hT:=by intro x0 fq;have fq:x0∈[b7,b6]:=fq;show x0∈(b7::b6::_:List Nat);simp only[mem_cons,not_mem_nil,or_false] at fq ⊢;omega) (fun pG oN Cu Cv=>?_);refine e9 ?_;refine aF 2 ?_;refine aR 3 [_,_] sizeOf49 ?_;refine an 98 [0,8] ?_;refine⟨_,(aK (h:=by repeat (first|exact trivial|refine⟨w7,?_⟩))),pG,oN,Cu,Cv,rfl⟩
  refine j3 (cf 0 [_]) [.bool false,.slice none 0 0,.slice none 0 0,.slice none 0 0,.int .i64 0] [_,_,_,_,_] zeroValue153 runUnderlying49 sizeOf153 (fun b86=>?_);refine j4 0 86 5 1 ?_;refine AD.one (i:=4) az ?_;refine at_ rfl (cR (mk:=Op.load 49) rfl ot (zc (k:=2) (d:=aN (some ⟨bx,0,none⟩) (L.set i.toNat (⟨ek p L.length,jH,jI,jv,je,eP,iN⟩:aY)).length cap) rfl rfl isAgg49 (by rw[length_set];rfl))) ?_;refine AD.one (i:=7) az ?_;refine bz.ey (ls:=(L.set i.toNat (⟨ek p L.length,jH,jI,jv,je,eP,iN⟩:aY))) (new:=[(⟨cl p,O,U,E,Z,iw,I⟩:aY)]) (Sq:=[⟨bx,153,cap*5,flatMap gO (L.set i.toNat (⟨ek p L.length,jH,jI,jv,je,eP,iN⟩:aY))⟩]) gN Fm rfl ap rfl rfl underlying49 OT rfl w8 ot (bM xJ xT) (mo (k:=3) rfl) ot bn (by simp only[maxLen,length_set,length_cons,length_nil] at *;omega) (by simp only[length_set,length_cons,length_nil] at *;omega) (hT:=by intro x0 fq;have fq:x0∈[b7,b6]:=fq;show x0∈(b7::b6::_:List Nat);simp only[mem_cons,not_mem_nil,or_false] at fq ⊢;omega) (fun pG oN Cu Cv=>?_);refine e9 ?_;refine aF 2 ?_;refine aR 3 [_,_] sizeOf49 ?_;refine an 98 [0,8] ?_;refine⟨_,(aK (h:=by repeat (first|exact trivial|refine⟨w7,?_⟩))),pG,oN,Cu,Cv,rfl⟩
 rintro _ ⟨pG,oN,Cu,Cv,rfl⟩;refine CD.seq ?_;refine gJ 9 (au _) ?_ (fun _ h=>h);refine aC 0 rfl bF ?_;refine aC 2 rfl bF ?_;refine aC 3 rfl qb ?_;refine aC 4 rfl (dF 0) ?_;refine aC 5 rfl (dI 3) ?_;refine aC 6 rfl x7 ?_;refine aC 7 rfl (dz (r:=.int .i64 (L.length:Nat)) rfl ot bV (gY (by rw[length_append,length_set];exact(show IntKind.wrap .i64 (((L.length+[(⟨cl p,O,U,E,Z,iw,I⟩:aY)].length:Nat):Int)-1)=_ from by rw[show(((L.length+[(⟨cl p,O,U,E,Z,iw,I⟩:aY)].length:Nat):Int)-1)=(L.length:Int) from by simp];exact wrap_i64 w4 w4)))) ?_;refine dH.later rfl ?_;refine AD.one (i:=1) az ?_;refine lj call95 (mj (gG p) (by rw[uw];omega)) ?_;have uG:(jv++(iN++(I++(E++((L.eraseIdx i.toNat).flatMap bO))))).Perm (((L.set i.toNat (⟨ek p L.length,jH,jI,jv,je,eP,iN⟩:aY))++[(⟨cl p,O,U,E,Z,iw,I⟩:aY)]).flatMap bO):=jE fun mz=>by have hq:=acB (yK bO hj (⟨ek p L.length,jH,jI,jv,je,eP,iN⟩:aY)) mz;rw[flatMap_append,show[(⟨cl p,O,U,E,Z,iw,I⟩:aY)].flatMap bO=E++(I++[]) from by simp[bO]];simp only[show bO (⟨ek p L.length,jH,jI,jv,je,eP,iN⟩:aY)=jv++iN from rfl,map_append,map_cons,map_nil,sum_append,sum_cons,sum_nil] at *;omega
 refine AD.perm (S':=⟨b7,153,5,gO (⟨cl p,O,U,E,Z,iw,I⟩:aY)⟩::⟨b6,153,5,gO (⟨ek p L.length,jH,jI,jv,je,eP,iN⟩:aY)⟩::⟨b,51,2,[aN (some ⟨pG,0,none⟩) ((L.set i.toNat (⟨ek p L.length,jH,jI,jv,je,eP,iN⟩:aY))++[(⟨cl p,O,U,E,Z,iw,I⟩:aY)]).length oN,ae root]⟩::(([⟨pG,153,oN*5,flatMap gO ((L.set i.toNat (⟨ek p L.length,jH,jI,jv,je,eP,iN⟩:aY))++[(⟨cl p,O,U,E,Z,iw,I⟩:aY)])⟩]:List ah)++((L.set i.toNat (⟨ek p L.length,jH,jI,jv,je,eP,iN⟩:aY))++[(⟨cl p,O,U,E,Z,iw,I⟩:aY)]).flatMap bO)) (by exact(perm_middle (l₁:=[_,_,_])).symm.trans (Perm.cons _ (Perm.cons _ (Perm.cons _ (Perm.cons _ uG))))) ?_;refine cy 8 rfl bF ?_;refine e9 ?_;refine bq [4,5] ?_;refine aI (⟨b,51,2,[aN (some ⟨pG,0,none⟩) ((L.set i.toNat (⟨ek p L.length,jH,jI,jv,je,eP,iN⟩:aY))++[(⟨cl p,O,U,E,Z,iw,I⟩:aY)]).length oN,ae root]⟩::([⟨pG,153,oN*5,flatMap gO ((L.set i.toNat (⟨ek p L.length,jH,jI,jv,je,eP,iN⟩:aY))++[(⟨cl p,O,U,E,Z,iw,I⟩:aY)])⟩]++((L.set i.toNat (⟨ek p L.length,jH,jI,jv,je,eP,iN⟩:aY))++[(⟨cl p,O,U,E,Z,iw,I⟩:aY)]).flatMap bO)) ?_
 refine⟨rfl,((L.set i.toNat (⟨ek p L.length,jH,jI,jv,je,eP,iN⟩:aY))++[(⟨cl p,O,U,E,Z,iw,I⟩:aY)]),some ⟨pG,0,none⟩,oN,[⟨pG,153,oN*5,flatMap gO ((L.set i.toNat (⟨ek p L.length,jH,jI,jv,je,eP,iN⟩:aY))++[(⟨cl p,O,U,E,Z,iw,I⟩:aY)])⟩],bM Cu Cv,fun x hx=>?_,?_,rfl⟩
 ·rcases mem_append.1 hx with hx|hx
  ·rcases mem_or_eq_of_mem_set hx with hx|rfl
   ·exact aQ x hx
   exact⟨ak0,akZ⟩
  rw[mem_singleton] at hx;subst hx;exact⟨qM,Cr⟩
 rw[map_append,map_set];rfl

end Go.Proofs.YtdgichenhdikgaaGreatDoor.Tw
