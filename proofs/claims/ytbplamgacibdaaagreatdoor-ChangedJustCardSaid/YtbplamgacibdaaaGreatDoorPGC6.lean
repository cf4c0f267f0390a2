/-
  GC: walks and plain facts, part 6.
-/
import Derived.Test.YtbplamgacibdaaaGreatDoorPGC5
set_option linter.unusedVariables false
set_option linter.unusedSimpArgs false
set_option maxRecDepth 100000
set_option maxHeartbeats 4000000
namespace Go.Proofs.YtbplamgacibdaaaGreatDoor.Tw
open List
open Go.Proofs.Tryz
open Go.RowKit V Tr Pk
open Go.Lib (compareBytes)
variable {l hi k:K} {p:c8} {n many:Int} {i:Nat} {t:aF}
def cK(k:K):List D:=[ap 1 cB k]
theorem gr(k:K):(cK k).length=1:=rfl
theorem pY(k:K):(cK k).all V.one=true:=rfl
def cI(n:Int):List D:=[ae n]
theorem eC(n:Int):(cI n).length=1:=rfl
theorem mA(n:Int):(cI n).all V.one=true:=rfl
def cP(p:c8):List D:=[bP p.leaf,ap 1 cK p.keys,ap 1 cI p.kids,ap 1 cB p.high,ae p.next]
theorem F7(p:c8):(cP p).length=5:=rfl
theorem ahg(p:c8):(cP p).all V.one=true:=rfl
def cT(t:aF):List D:=[ap 5 cP t.ag,ae t.root]
def oT(k:K):Bool:=decide (0<k.length/\k.length<=100)
def vw(p:c8)(i:Nat):Prop:=∀(h:i<p.keys.length),oT p.keys[i]=true/\(∀(h0:0<i),bG (p.keys[i-1]'w4) p.keys[i])/\(p.high≠[]->bG p.keys[i] p.high)
theorem aed{l:List K}(h:∀i (hi:i<l.length) (h0:0<i),bG (l[i-1]'w4) l[i]):l.Pairwise bG:=by
 refine pairwise_iff_getElem.2 fun i j hi hj E=>?_;obtain⟨d,rfl⟩:∃d,j=i+1+d:=⟨j-(i+1),by omega⟩
 induction d with
 | zero=>have:=h (i+1) hj w4;simpa using this
 | succ d ih =>
  have h1:=ih w4 w4;have h2:=h (i+1+(d+1)) hj w4;exact mX h1 (by simpa using h2)
theorem TI(h:eN p n)(i:Nat):vw p i:=fun hi=>by
 have hm:=getElem_mem hi;have:=h.lI _ hm;exact⟨by unfold oT;simp;omega,fun h0=>nA h.kv w4 hi,fun hne=>h.qJ hne _ hm⟩
theorem K0(h:decide ((l.length:Int)>0)=true):l≠[]:=fun e=>by rw[e] at h;cases h
theorem len_nil(h:decide ((l.length:Int)>0)=false):l=[]:=by
 have:=of_decide_eq_false h;exact length_eq_zero_iff.1 w4
theorem Wa(h:decide ((hi.length:Int)>0)=true):decide (compareBytes k hi>=0)=decide (hi≠[]/\¬bG k hi):=by
 have:=K0 h;unfold bG;simp[this]
theorem Wb(h:decide ((hi.length:Int)>0)=false):false=decide (hi≠[]/\¬bG k hi):=by simp[len_nil h]
variable {G:List (Nat×List Value)}
theorem xp(a b:K):VP Tryz.prog G 53 [ap 1 cB a,ap 1 cB b] (ae (compareBytes a b)):=by
 exact z143
theorem Wc(a b:K)(ha:a.length<=maxLen)(hb:b.length<=maxLen):VP Tryz.prog G 110 [ap 1 cB a,ap 1 cB b] (bP (decide (a=b))):=by
 refine VC.body func110 rfl ntmps110 aU fun X0 w0 bj=>?_;refine af [0,1] ?_;refine cz [4] ?_;refine aR 1 ?_ (h:=by exact DE);refine aR 1 ?_ (h:=by exact DE);refine bA ?_;refine aK [] ?_;refine⟨vb ?_,rfl⟩;rw[ByteArray.toList_eq,ByteArray.toList_eq];show(a==b)=decide (a=b);by_cases h:a=b<;>simp[h]
theorem xz(k:K):VP Tryz.prog G 109 [ap 1 cB k] (bP (oT k)):=by
 refine VC.body func109 rfl ntmps109 aU fun X0 w0 bj=>?_;refine af [0] ?_;refine aB 4 ?_;refine bZ 6 (fun I E=>?_) (fun I E=>?_)
 ·refine bu [2] ?_;refine eZ ?_;refine⟨vb ?_,rfl⟩;unfold oT;first|(simp_all;done)|(simp_all;omega)
 refine bu [2] ?_;refine eZ ?_;refine⟨vb ?_,rfl⟩;unfold oT;first|(simp_all;done)|(simp_all;omega)
theorem acj(p:c8)(k:K):VP Tryz.prog G 111 [.agg (cP p),ap 1 cB k] (bP (decide (p.high≠[]/\¬bG k p.high))):=by
 refine VC.body func111 rfl ntmps111 aU fun X0 w0 bj=>?_;unfold cP;refine bS ?_;refine OD.box (ds:=[_,_,_,_,_]) aq rfl rfl ot rfl rfl (fun b2=>?_);refine an 16 [1,2] ?_;refine aB 5 ?_;refine bZ 9 (fun E I=>?_) (fun E I=>?_)
 ·refine aH 3 ?_;refine OD.iD iN rfl rfl rfl call53 (xp k p.high) ⟨ot,ot,trivial⟩ ?_;refine an 16 [4] ?_;refine aK [] ?_;refine⟨vb ?_,rfl⟩;first|exact Wa E|exact Wb E
 refine bu [4] ?_;refine eZ ?_;refine⟨vb ?_,rfl⟩;first|exact Wa E|exact Wb E
theorem Wd{a:Int}(h:(decide (a<0)!=((l.length:Int)==0))=false):a<0↔l=[]:=by
 have h:decide (a<0)=((l.length:Int)==0):=(by simpa using h)
 rw[<-length_eq_zero_iff];constructor
 ·intro q;rw[decide_eq_true q] at h;have:=beq_iff_eq.1 h.symm;omega
 intro q;rw[q] at h;exact of_decide_eq_true h
theorem ahS{a:Int}(h:a<0↔l=[]):(!(decide (a<0)==((l.length:Int)==0)))=false:=by
 rw[<-length_eq_zero_iff] at h;by_cases q:a<0
 ·rw[decide_eq_true q,h.1 q];rfl
 rw[decide_eq_false q];have:¬l.length=0:=fun e=>q (h.2 e);simp;exact fun e=>this (by rw[e];rfl)
open Classical in
noncomputable def Cj(p:c8)(many:Int):Bool:=decide (eN p many)
open Classical in
theorem E7(h:¬eN p many):false=Cj p many:=(decide_eq_false h).symm
open Classical in
theorem ack(h:eN p many):true=Cj p many:=(decide_eq_true h).symm
theorem aeY(h:eN p n)(hi:i<p.kids.length):0<=p.kids[i]/\(p.leaf=false->p.kids[i]<n):=⟨h.aA _ (getElem_mem hi),fun hl=>h.vL hl _ (getElem_mem hi)⟩
theorem aee(f1:p.keys.length<=4)(f2:p.high.length<=100)(f3:-1<=p.next)(f4:p.next<many)(f5:(p.next<0↔p.high=[]))(f6:(p.leaf=true->p.kids.length=p.keys.length))(E:(p.leaf=false->p.kids.length=p.keys.length+1/\p.keys.length≠0))(hk:∀j,j<p.keys.length->vw p j)(hc:∀j (hj:j<p.kids.length),0<=p.kids[j]/\(p.leaf=false->p.kids[j]<many)):eN p many:=by
 refine⟨f1,f2,f3,f4,f5,f6,fun h=>⟨(E h).1,fun e=>(E h).2 (by rw[e];rfl)⟩,fun k h=>?_,fun hne k h=>?_,aed fun i hi h0=>(hk i hi hi).2.1 h0,fun n h=>?_,fun hl n h=>?_⟩
 ·obtain⟨i,hi,rfl⟩:=mem_iff_getElem.1 h;have:=(hk i hi hi).1;unfold oT at this;have:=of_decide_eq_true this;omega
 ·obtain⟨i,hi,rfl⟩:=mem_iff_getElem.1 h;exact(hk i hi hi).2.2 hne
 ·obtain⟨i,hi,rfl⟩:=mem_iff_getElem.1 h;exact(hc i hi).1
 obtain⟨i,hi,rfl⟩:=mem_iff_getElem.1 h;exact(hc i hi).2 hl
theorem afI(p:c8)(many:Int)(eo:p.keys.length<=maxLen)(fI:p.kids.length<=maxLen):VP Tryz.prog G 96 [.agg (cP p),ae many] (bP (Cj p many)):=by
 refine VC.body func96 rfl ntmps96 aU fun X0 w0 bj=>?_;unfold cP;have cR:=dI;refine bS ?_;refine OD.box (ds:=[_,_,_,_,_]) aq rfl rfl ot rfl rfl (fun b2=>?_);refine an 132 [1,2] ?_;refine aB 5 ?_;refine bZ 13 (fun akX Z=>?_) (fun akX Z=>?_)
 ·exact GJ
 refine aH 6 ?_;refine bZ 19 (fun MF aiC=>?_) (fun MF aiC=>?_)
 ·exact GJ
 refine aH 5 ?_;refine bZ 24 (fun akY aiD=>?_) (fun akY aiD=>?_)
 ·exact GJ
 refine aH 6 ?_;refine bZ 30 (fun akZ aiE=>?_) (fun akZ aiE=>?_)
 ·exact GJ
 refine aH 7 ?_;refine OD.still iN rfl (dR rfl ot ot (RP underlying4)) ?_;refine an 132 [1,2,39] ?_;refine au ?_ ?_<;>intro aJ bz
 ·refine af [4] ?_;refine aK [] ?_;exact Hx
 refine CD.skip ?_;refine iH [1,2] (fun aS I aE=>(p.keys.length<=4)/\(p.high.length<=100)/\(-1<=p.next)/\(p.next<many)/\((p.next<0↔p.high=[]))/\((p.leaf=true->p.kids.length=p.keys.length))/\((p.leaf=false->p.kids.length=p.keys.length+1/\p.keys.length≠0))/\aE=(⟨132,aS,I⟩:St)) ?_ ?_
 ·refine aB 3 ?_;refine bZ 42 (fun rI aiF=>?_) (fun rI aiF=>?_)
  ·refine aH 9 ?_;refine bZ 51 (fun ak0 aiG=>?_) (fun ak0 aiG=>?_)
   ·exact z152
   refine aH 4 ?_;refine bZ 55 (fun uv E=>?_) (fun uv E=>?_)
   ·exact absurd uv (by rw[rI];decide)
   refine bu [1,2,71] ?_;refine gm ?_;refine CD.skip ?_;refine⟨_,aI,w4,w4,w4,w4,(Wd aJ),(fun _=>by omega),(fun h=>absurd rI (by rw[h];decide)),rfl⟩
  refine yC 7 ?_;refine aH 6 ?_;refine bZ 55 (fun uv E=>?_) (fun uv E=>?_)
  ·refine aH 9 ?_;refine bZ 64 (fun MQ LO=>?_) (fun MQ LO=>?_)
   ·exact z152
   refine bu [1,2,71] ?_;refine au ?_ ?_<;>intro aX cr
   ·refine af [4] ?_;refine eZ ?_;exact Hx
   refine CD.skip ?_;refine⟨_,aI,w4,w4,w4,w4,(Wd aJ),(fun h=>absurd rI (by rw[h];decide)),(fun _=>⟨by omega,by omega⟩),rfl⟩
  exact absurd uv (by rw[rI];decide)
 rintro _ ⟨f1,f2,f3,f4,f5,f6,f7,rfl⟩;refine af [1,2,73,74,75] ?_;refine ew [1,2,73,74] (fun aS I (i:Nat) aE=>(i<=p.keys.length)/\(∀j,j<i->vw p j)/\aE=(⟨132,(75,ae (i:Nat))::aS,I⟩:St)) (fun (i:Nat)=>p.keys.length-i) 0 ⟨(Nat.zero_le _),(fun j h=>by omega),rfl⟩ ?_;rintro i _ ⟨hi,yn,rfl⟩;refine af [1,2,73,74,75,76] ?_;refine au ?_ ?_<;>intro bL cJ
 ·have aa:i<p.keys.length:=(by omega)
  refine af [1,2,5,6,73,74,75] ?_;refine aB 1 ?_;refine ez call109 (xz p.keys[i]) ?_;refine aH 2 ?_;refine bZ 83 (fun xR aiH=>?_) (fun xR aiH=>?_)
  ·refine an 132 [1,2,73,74,75,110] ?_;refine eO ?_;exact z40
  refine aH 3 ?_;refine bZ 86 (fun ak1 aiI=>?_) (fun ak1 aiI=>?_)
  ·refine aH 4 ?_;refine bN (dL 1 (h:=by first|exact .l (j:=i-1) w4 w4|exact .r (j:=i-1) w4 w4)) ?_;refine aH 2 ?_;refine OD.iD iN rfl rfl rfl call53 (xp (p.keys[i-1]'w4) p.keys[i]) ⟨ot,ot,trivial⟩ ?_;refine aH 4 ?_;refine bZ 98 (fun Ac Gs=>?_) (fun Ac Gs=>?_)
   ·refine an 132 [1,2,73,74,75,110] ?_;refine eO ?_;exact z40
   refine aH 5 ?_;exact X4
  refine yC 9 ?_;refine aH 8 ?_;exact X4
 have aiJ:∀j,j<p.keys.length->vw p j:=fun j hj=>yn j w4;refine af [1,2,113,114,115] ?_;refine ew [1,2,113,114] (fun aS I (i:Nat) aE=>(i<=p.kids.length)/\(∀j (_:j<i) (hj:j<p.kids.length),0<=p.kids[j]/\(p.leaf=false->p.kids[j]<many))/\aE=(⟨132,(115,ae (i:Nat))::aS,I⟩:St)) (fun (i:Nat)=>p.kids.length-i) 0 ⟨(Nat.zero_le _),(fun j h=>by omega),rfl⟩ ?_;rintro i _ ⟨lC,lN,rfl⟩;refine af [1,2,113,114,115,116] ?_;refine au ?_ ?_<;>intro dW fB
 ·have aa:i<p.kids.length:=(by omega)
  refine af [1,2,8,113,114,115] ?_;refine aB 3 ?_;refine bZ 121 (fun Lz O=>?_) (fun Lz O=>?_)
  ·refine bu [1,2,113,114,115,130] ?_;refine eO ?_;exact Yp
  refine aH 4 ?_;refine bZ 125 (fun Gc U=>?_) (fun Gc U=>?_)
  ·refine bu [1,2,113,114,115,130] ?_;refine au ?_ ?_<;>intro fF gM
   ·exact Yp
   exact Ym
  refine bu [1,2,113,114,115,130] ?_;refine gm ?_;exact Ym
 refine af [4] ?_;refine aK [] ?_;refine⟨vb (ack (aee f1 f2 f3 f4 f5 f6 f7 aiJ fun j hj=>lN j w4 hj)),rfl⟩

def nC(keys:List K)(k:K):Bool:=decide (keys[gL keys k]?=some k)
theorem aef{keys:List K}(hi:i<=keys.length)(h1:∀m (hm:m<keys.length),m<i->bG keys[m] k)(h2:∀m (hm:m<keys.length),i<=m->¬bG keys[m] k):gL keys k=i:=by
 have hle:=zj keys k;rcases Nat.lt_trichotomy (gL keys k) i with h|h|h
 ·have aa:gL keys k<keys.length:=(by omega)
  exact absurd (h1 _ aa h) (Bp aa)
 ·exact h
 obtain⟨h',q⟩:=BC h;exact absurd q (h2 _ h' (Nat.le_refl _))
theorem acm{keys:List K}(hr:keys.Pairwise bG)(k:K):nc keys k=if nC keys k=true then gL keys k+1 else gL keys k:=by
 have hle:=zj keys k;split
 ·rename_i hf;unfold nC at hf;have hf:=of_decide_eq_true hf;obtain⟨aa,he⟩:=List.getElem?_eq_some_iff.1 hf;refine KC hr w4 (fun _=>?_) (fun h=>?_)
  ·show ¬bG k (keys[gL keys k+1-1]'w4);simp only[Nat.add_sub_cancel,he];exact jS k
  have:=nA hr (Nat.lt_succ_self (gL keys k)) h;rw[he] at this;exact this
 rename_i hf;refine KC hr hle (fun h0=>?_) (fun h=>?_)
 ·exact vt (BC (by omega:gL keys k-1<gL keys k)).2
 have h1:=Bp h;rcases zC keys[gL keys k] k with h2|h2|h2
 ·exact absurd h2 h1
 ·exfalso;apply hf;unfold nC;rw[getElem?_eq_getElem h,h2];simp
 exact h2
theorem ahR{a:Nat}:((a:Nat):Int).fdiv (2 ^ min (1:Int).toNat IntKind.u64.bits)=((a/2:Nat):Int):=by
 rw[show min (1:Int).toNat IntKind.u64.bits=1 from rfl,Int.fdiv_eq_ediv_of_nonneg _ w8];rfl
theorem Vw{keys:List K}(hd:gL keys k=i)(hi:i<keys.length):(D.da [ae (i:Nat),bP (compareBytes keys[i] k==0)]) = .da [ae (gL keys k:Nat),bP (nC keys k)]/\([]:List ah)=[]:=by
 subst hd;refine⟨?_,rfl⟩;have:(compareBytes keys[gL keys k] k==0)=nC keys k:=by
  unfold nC;rw[getElem?_eq_getElem hi];by_cases h:keys[gL keys k]=k
  ·have:=LP.2 h;rw[this];simp[h]
  have:¬compareBytes keys[gL keys k] k=0:=fun e=>h (LP.1 e);simp[h,this]
 rw[this]
theorem Uu{keys:List K}(hd:gL keys k=i)(hi:keys.length<=i):(D.da [ae (i:Nat),bP false]) = .da [ae (gL keys k:Nat),bP (nC keys k)]/\([]:List ah)=[]:=by
 subst hd;refine⟨?_,rfl⟩;have:nC keys k=false:=(by unfold nC;rw[getElem?_eq_none hi];rfl)
 rw[this]
theorem acn(keys:List K)(k:K)(hr:keys.Pairwise bG)(hl:keys.length<=1000):VP Tryz.prog G 112 [ap 1 cK keys,ap 1 cB k,.eI (.func 53) []] (.da [ae (gL keys k:Nat),bP (nC keys k)]):=by
 refine VC.body func112 rfl ntmps112 aU fun X0 w0 bj=>?_;have cR:=dI;refine af [0,1,2] ?_;refine af [0,1,2,8] ?_;refine af [0,1,2,8,9,10] ?_;refine ew [0,1,2,8] (fun aS _ (aO:Nat×Nat) aE=>match aO with|(i,j)=>(i<=j)/\(j<=keys.length)/\(∀m (hm:m<keys.length),m<i->bG keys[m] k)/\(∀m (hm:m<keys.length),j<=m->¬bG keys[m] k)/\aE=(⟨49,(9,ae (i:Nat))::(10,ae (j:Nat))::aS,[]⟩:St)) (fun (aO:Nat×Nat)=>match aO with|(i,j)=>j-i) (0,keys.length) ⟨(Nat.zero_le _),(Nat.le_refl _),(fun m hm h=>by omega),(fun m hm h=>by omega),rfl⟩ ?_;rintro⟨i,j⟩ _ ⟨ZB,hjn,h1,h2,rfl⟩;refine af [0,1,2,8,9,10,17] ?_;refine au ?_ ?_<;>intro aJ bz
 ·have aa:i<j:=(by omega)
  have E:((i+j)/2)<keys.length:=(by omega)
  refine cz [0,1,2,8,9,10,11] ?_;refine aR 2 ?_ (h:=Nv);refine aR 0 ?_ (h:=Nu);refine aR 0 ?_ (h:=Dh);refine aR 0 ?_ (h:=Nt);refine bA ?_;refine aB 6 ?_;refine OD.lY (f:=53) (args:=[_,_]) (all:=[_,_]) (Sf:=[]) aq rfl rfl ot call53 (xp (keys[((i+j)/2)]'E) k) rfl ⟨ot,ot,trivial⟩ (eX _) ?_;rintro _ _ ⟨rfl,rfl⟩;refine an 49 [0,1,2,8,9,10,11,31] ?_;refine au ?_ ?_<;>intro aX cr
  ·have hc:bG (keys[((i+j)/2)]'E) k:=of_decide_eq_true aX;have U:∀m (hm:m<keys.length),m<((i+j)/2)+1->bG keys[m] k:=fun m hm h=>by (rcases Nat.lt_or_ge m ((i+j)/2) with q|q);exact mX (nA hr q E) hc;(have:m=((i+j)/2):=by omega);subst this;exact hc
   refine bM [0,1,2,8,9,10] ?_;refine⟨((((i+j)/2)+1),j),_,cn,aI,w4,w4,(fun m hm h=>by rcases Nat.lt_or_ge m i with q|q;exact h1 m hm q;exact U m hm w4),h2,rfl⟩
  have hc:¬bG (keys[((i+j)/2)]'E) k:=of_decide_eq_false aX;have I:∀m (hm:m<keys.length),((i+j)/2)<=m->¬bG keys[m] k:=fun m hm h hh=>by (rcases Nat.lt_or_ge ((i+j)/2) m with q|q);exact hc (mX (nA hr q hm) hh);(have:m=((i+j)/2):=by omega);subst this;exact hc hh
  refine bM [0,1,2,8,9,10] ?_;refine⟨(i,((i+j)/2)),_,cn,aI,w4,w4,h1,I,rfl⟩
 obtain rfl:i=j:=(by omega)
 have hd:=aef hjn h1 h2;refine aB 5 ?_;refine bZ 39 (fun Z O=>?_) (fun Z O=>?_)
 ·refine aH 6 ?_;refine OD.lY (f:=53) (args:=[_,_]) (all:=[_,_]) (Sf:=[]) iN rfl rfl ot call53 (xp (keys[i]'w4) k) rfl ⟨ot,ot,trivial⟩ (eX _) ?_;rintro _ _ ⟨rfl,rfl⟩;refine an 49 [6,7] ?_;refine aK [] ?_;first|exact Vw hd w4|exact Uu hd w4
 refine bu [6,7] ?_;refine N4 ?_;first|exact Vw hd w4|exact Uu hd w4
theorem JQ(p:c8)(k:K)(hr:p.keys.Pairwise bG)(hl:p.keys.length<=1000):VP Tryz.prog G 71 [.agg (cP p),ap 1 cB k] (ae (aQ p k:Nat)):=by
 refine VC.body func71 rfl ntmps71 aU fun X0 w0 bj=>?_;unfold cP;have cR:=dI;have I:=zj p.keys k;have YH:=acm hr k;refine bS ?_;refine OD.box (ds:=[_,_,_,_,_]) aq rfl rfl ot rfl rfl (fun b2=>?_);refine an 23 [1,2] ?_;refine cL [2,5,6] (acn p.keys k hr hl) ?_;refine aB 2 ?_;refine bZ 15 (fun Cy E=>?_) (fun Cy E=>?_)
 ·refine bu [5,19] ?_;refine au ?_ ?_<;>intro aJ bz
  ·refine bM [5] ?_;exact WD
  exact WD
 refine bu [5,19] ?_;refine gm ?_;refine af [4] ?_;refine eZ ?_;refine⟨vi ?_,rfl⟩;unfold aQ;first|(rw[Cy] at YH;cases fT:p.leaf<;>simp_all;done)|(simp_all;done)|(simp_all;omega)

theorem aco{d:Nat}{i:Int}{lo:K}(ok:dX t d i lo hi)(h:(t.pg i).leaf=true):d=0:=by
 cases d with
 | zero=>rfl
 | succ d=>obtain⟨_,q2,_⟩:=ok;rw[q2] at h;cases h
theorem acp{d:Nat}{i:Int}{lo:K}(ok:dX t d i lo hi)(h:(t.pg i).leaf=false):∃d',d=d'+1:=by
 cases d with
 | zero=>obtain⟨_,q2,_⟩:=ok;rw[q2] at h;cases h
 | succ d=>exact⟨d,rfl⟩
theorem acq:(Tryz.prog.info? 3).map (fun i=>(i.zero,i.size,i.bytes))=some (some (.int .i64 0),1,8):=by kernel_rfl
theorem Uv(t:aF)(h:Nat)(v:Valid t h)(k:K):VC Tryz.prog G 69 [.agg (cT t),ap 1 cB k] [] (gE cI 3 1 (jv t k h t.root)):=by
 refine VC.body func69 rfl ntmps69 aU fun X0 w0 bj=>?_;unfold cT;have cR:=dI;have hval:=v;have eL:=v.high;have OU:=v.oo;refine bS ?_;refine OD.box (ds:=[_,_]) aq rfl rfl ot rfl rfl (fun b2=>?_);refine an 45 [1,2] ?_;refine aB 2 ?_;refine ey (cu 0 [_]) [.int .i64 0] [_] zeroValue3 runUnderlying61 sizeOf3 (fun jL=>?_);refine OD.perm (dU (S1:=[⟨jL,3,1*1,flatMap cI ([t.root])⟩]) (A:=[_])) ?_;refine an 45 [1,2,5] ?_;refine CD.block ?_;refine nu (fun (aO:Nat×Int×K×K×List Int×Option Addr×Nat×List ah) aE=>match aO with|(d,i,lo,hi,pre,Ie,O,Sl)=>(dX t d i lo hi)/\(lT lo hi k)/\(pre++jv t k d i=jv t k h t.root)/\(pre.length+d<=h)/\(bn 3 1 (((pre++[i])).flatMap cI) ((pre++[i])).length Ie O Sl)/\aE=(⟨45,[(1,ap 1 cB k),(2,cY b2),(5,aT Ie ((pre++[i])).length O)],(⟨b2,66,2,[ap 5 cP t.ag,ae t.root]⟩::Sl)⟩:St)) (fun (aO:Nat×Int×K×K×List Int×Option Addr×Nat×List ah)=>match aO with|(d,i,lo,hi,pre,Ie,O,Sl)=>d) (h,t.root,[],[],[],(some ⟨jL,0,none⟩),1,[⟨jL,3,1*1,flatMap cI ([t.root])⟩]) ⟨v.ok,(uk k),(nil_append _),bq,(bn.cast (bJ (g:=cI) (sz:=1) (e:=3) (ls:=[t.root]) (Nat.le_refl _) (show 1<=maxLen by decide)) jZ),rfl⟩ (aI (h:=by repeat (first|exact trivial|refine⟨(by (repeat (first|exact fK|(apply gb;focus (first|rfl|(simp;done)|(congr 2;omega)|(apply eP;rw[U])|(apply eP;simp;done)))|(apply fO;focus rfl)));done),?_⟩))) ?_
 rintro⟨d,i,lo,hi,pre,Ie,O,Sl⟩ _ ⟨ok,fX,Z,fx,OI,rfl⟩;obtain⟨bl,rfl,CV,Ck,rfl⟩:=OI.pos bq;have q1:=ok.idx;have aa:i.toNat<t.ag.length:=(by omega)
 have E:t.pg i=(t.ag[i.toNat]'aa):=vD q1;have po:=v.fM _ (jV q1);have Cl:=ok.high;rw[E] at po Cl;refine cz [1,2,5,6] ?_;refine aR 4 ?_ (h:=by exact(dL 1 (h:=by first|exact .l (j:=pre.length) bq bq|exact .r (j:=pre.length) bq bq)));refine aR 0 ?_ (h:=by exact(dz (mk:=Op.load 3) rfl ot (jj (k:=1) (d:=ae i) (i:=pre.length) eC rfl rfl rfl isAgg3 bq (by simp[cI]))));refine bA ?_;refine aB 3 ?_;refine bN (dL 5 (h:=by first|exact .l (j:=i.toNat) (Int.toNat_of_nonneg q1.1).symm aa|exact .r (j:=i.toNat) (Int.toNat_of_nonneg q1.1).symm aa)) ?_;refine aH 1 ?_;refine OD.alloc (ds:=[_,_,_,_,_]) aq rfl rfl zeroValue129 rfl (fun b7=>?_);refine aP 0 [_,_,_,_,_] sizeOf129 ?_;refine an 45 [1,2,5,7] ?_;refine cL [1,2,5,7,24] (acj (t.ag[i.toNat]'aa) k) ?_;refine au ?_ ?_<;>intro aJ bz
 ·exact absurd aJ (by intro e;have e:=of_decide_eq_true e;rw[Cl] at e;exact e.2 (fX.2 e.1))
 refine af [1,2,5,7,33] ?_;refine au ?_ ?_<;>intro aX cr
 ·obtain rfl:=aco ok (by rw[E];exact aX);have aV:pre++[i]=jv t k h t.root:=(by rw[<-Z];rfl)
  refine af [4] ?_;refine aK [⟨bl,3,O*1,flatMap cI (pre++[i])⟩] ?_;rw[<-aV];exact⟨_,_,rfl,(bJ (g:=cI) (ls:=pre++[i]) CV Ck)⟩
 obtain⟨dd,rfl⟩:=acp ok (by rw[E];exact aX);have ok0:=ok;obtain⟨_,fT,hh,aj9,qM⟩:=ok0;obtain⟨d1,d2⟩:=down (p:=t.pg i) (by rw[E];exact po) fT hh fX;have kr:=qM _ d1;rw[<-uc d1] at kr;have MR:=d2;have ahh:pre++[i]++jv t k dd ((t.pg i).kids.getD (aQ (t.pg i) k) 0)=jv t k h t.root:=(by rw[<-Z,append_assoc];rfl)
 have qS:=JQ (G:=G) (t.pg i) k (by rw[E];exact po.kv) (by rw[E];have:=po.ec;omega);have I:aQ (t.ag[i.toNat]'aa) k<(t.ag[i.toNat]'aa).kids.length:=(by rw[<-E];exact d1)
 have ak2:VP Tryz.prog G 71 [.agg (cP (t.ag[i.toNat]'aa)),ap 1 cB k] (ae (aQ (t.ag[i.toNat]'aa) k:Nat)):=(by rw[<-E];exact qS)
 have U:(t.pg i).kids.getD (aQ (t.pg i) k) 0=(t.ag[i.toNat]'aa).kids[aQ (t.ag[i.toNat]'aa) k]'I:=(by rw[E];exact uc I)
 refine CD.skip ?_;refine gP 10 (av (take 2 _)) ?_ (fun _ h=>(Sublist.map _ (take_sublist _ _)).subset h);refine aD 0 rfl bD ?_;refine aD 1 rfl (dQ 2) ?_;refine aD 2 rfl (dS 0) ?_;refine aD 3 rfl (GD 0 [_,_,_,_,_]) ?_;refine aD 4 rfl bD ?_;refine dM.later rfl ?_;refine AD.one (i:=5) aC ?_;refine qm call71 (ak2) ?_;refine dm 6 rfl (dL 1 (h:=by first|exact .l (j:=aQ (t.ag[i.toNat]'aa) k) rfl I|exact .r (j:=aQ (t.ag[i.toNat]'aa) k) rfl I)) ?_;refine AD.one (i:=7) aC ?_;refine at_ rfl fN ?_;refine AD.one (i:=8) aC ?_;refine nq (cu 0 [_]) [.int .i64 0] [_] zeroValue3 runUnderlying61 sizeOf3 (fun Zp=>?_);refine nQ 0 43 1 1 ?_;refine AD.one (i:=9) aC ?_;refine bC.eG (ls:=(pre++[i])) (new:=[(t.ag[i.toNat]'aa).kids[aQ (t.ag[i.toNat]'aa) k]'I]) (Sq:=[⟨bl,3,O*1,flatMap cI (pre++[i])⟩]) eC mA rfl aq rfl rfl underlying61 acq rfl w8 ot (bJ (g:=cI) (ls:=pre++[i]) CV Ck) (cZ (A:=[_,_])) ot bq v7 iF (fun OV MS ak3 ak4=>?_);refine AD.perm (dU (S1:=[⟨OV,3,MS*1,flatMap cI ((pre++[i])++[(t.ag[i.toNat]'aa).kids[aQ (t.ag[i.toNat]'aa) k]'I])⟩]) (A:=[_,_])) ?_;refine fm ?_;refine bu [1,2,5] ?_
 refine⟨(dd,((t.pg i).kids.getD (aQ (t.pg i) k) 0),(iP lo (t.pg i) (aQ (t.pg i) k)),(iA (t.pg i) (aQ (t.pg i) k)),(pre++[i]),(some ⟨OV,0,none⟩),MS,[⟨OV,3,MS*1,flatMap cI ((pre++[i])++[(t.ag[i.toNat]'aa).kids[aQ (t.ag[i.toNat]'aa) k]'I])⟩]),_,cn,(aI (h:=by repeat (first|exact trivial|refine⟨(by (repeat (first|exact fK|(apply gb;focus (first|rfl|(simp;done)|(congr 2;omega)|(apply eP;rw[U])|(apply eP;simp;done)))|(apply fO;focus rfl)));done),?_⟩))),kr,MR,ahh,iF,(bn.cast (bJ ak3 ak4) (by rw[U])),rfl⟩
theorem afJ(t:aF)(h:Nat)(v:Valid t h)(k:K):VP Tryz.prog G 69 [.agg (cT t),ap 1 cB k] (.list 1 ((jv t k h t.root).flatMap cI) (jv t k h t.root).length):=(Uv t h v k).xG eC

def gS(t:aF)(k:K)(h:Nat):Bool:=nC (t.pg (aL t k h t.root)).keys k
theorem EK{h:Nat}(v:Valid t h)(k:K):gS t k h=true↔B8 t k h:=by
 unfold gS nC B8;have hl:=(v.leaf k).2;have fx:aQ (t.pg (aL t k h t.root)) k=gL (t.pg (aL t k h t.root)).keys k:=(by unfold aQ;rw[if_pos hl])
 rw[fx,decide_eq_true_iff,List.getElem?_eq_some_iff]
theorem Uw(hl:p.leaf=true)(ha:aQ p k<p.keys.length):decide (p.keys[aQ p k]=k)=nC p.keys k:=by
 unfold nC;have fx:aQ p k=gL p.keys k:=(by unfold aQ;rw[if_pos hl])
 simp only[fx] at ha |-;rw[getElem?_eq_getElem ha];simp
theorem Ux(hl:p.leaf=true)(ha:¬aQ p k<p.keys.length):false=nC p.keys k:=by
 unfold nC;have fx:aQ p k=gL p.keys k:=(by unfold aQ;rw[if_pos hl])
 rw[fx] at ha;rw[getElem?_eq_none w4];rfl
theorem afK{h:Nat}{i:Int}:∃(hn:(jv t k h i).length-1<(jv t k h i).length),(jv t k h i)[(jv t k h i).length-1]=aL t k h i:=by
 have h1:=Q4 t k h i;rw[getLast?_eq_getElem?] at h1;exact List.getElem?_eq_some_iff.1 h1
theorem SV(hp:eN p n)(k:K):aQ p k<=p.keys.length:=by
 unfold aQ;split
 ·exact zj _ _
 exact BD _ _
theorem Fq(t:aF)(k:K):∀(h:Nat) (i:Int),(jv t k h i).length=h+1
 | 0,i=>rfl
 | h+1,i=>by rw[jv,length_cons,Fq t k h]
theorem pU(t:aF)(h:Nat)(v:Valid t h)(k:K)(eo:k.length<=maxLen)(U:(jv t k h t.root).length<=1000000):VP Tryz.prog G 67 [.agg (cT t),ap 1 cB k] (.da [ae (aL t k h t.root),ae (aQ (t.pg (aL t k h t.root)) k:Nat),bP (gS t k h)]):=by
 refine VC.body func67 rfl ntmps67 aU fun X0 w0 bj=>?_;unfold cT;have cR:=dI;have qS:=afJ (G:=G) t h v k;unfold cT at qS;obtain⟨gC,Z⟩:=afK (t:=t) (k:=k) (h:=h) (i:=t.root);obtain⟨q1,LU⟩:=v.leaf k;have aa:(aL t k h t.root).toNat<t.ag.length:=(by omega)
 have I:t.pg (aL t k h t.root)=(t.ag[(aL t k h t.root).toNat]'aa):=vD q1;have po:=v.fM _ (jV q1);have OU:=v.oo;have Xj:(jv t k h t.root).length<=1000000:=U;have ak5:=JQ (G:=G) (t.pg (aL t k h t.root)) k po.kv (by have:=po.ec;omega);have ak6:VP Tryz.prog G 71 [.agg (cP (t.ag[(aL t k h t.root).toNat]'aa)),ap 1 cB k] (ae (aQ (t.ag[(aL t k h t.root).toNat]'aa) k:Nat)):=(by rw[<-I];exact ak5)
 have ak7:∀x∈(t.ag[(aL t k h t.root).toNat]'aa).keys,x.length<=maxLen:=fun x hx=>by rw[<-I] at hx;have:=(po.lI x hx).2;omega
 have E:(t.ag[(aL t k h t.root).toNat]'aa).leaf=true:=(by rw[<-I];exact LU)
 have O:gS t k h=nC (t.ag[(aL t k h t.root).toNat]'aa).keys k:=(by unfold gS;rw[I])
 have jg:=po.ec;have ak8:=(SV po k)
 rw[I] at jg ak8;refine bS ?_;refine OD.box (ds:=[_,_]) aq rfl rfl ot rfl rfl (fun b2=>?_);refine an 42 [1,2] ?_;refine cL [1,2,7] (qS) ?_;refine cz [1,2,4] ?_;refine aR 4 ?_ (h:=by exact(dL 1 (h:=by first|exact .l (j:=(jv t k h t.root).length-1) w4 gC|exact .r (j:=(jv t k h t.root).length-1) w4 gC)));refine aR 0 ?_ (h:=by exact(dz (mk:=Op.load 3) rfl ot (ry (d:=ae (aL t k h t.root)) (i:=(jv t k h t.root).length-1) eC isAgg3 gC (by rw[Z];rfl))));refine bA ?_;refine aB 5 ?_;refine OD.alloc (ds:=[_,_,_,_,_]) aq rfl rfl zeroValue129 rfl (fun b8=>?_);refine aP 0 [_,_,_,_,_] sizeOf129 ?_;refine an 42 [1,4,8] ?_;refine cL [1,4,5,8] (ak6) ?_;refine aB 8 ?_;refine bZ 33 (fun ak9 aiK=>?_) (fun ak9 aiK=>?_)
 ·refine aH 6 ?_;refine OD.iD iN rfl rfl rfl call110 (Wc ((t.ag[(aL t k h t.root).toNat]'aa).keys[aQ (t.ag[(aL t k h t.root).toNat]'aa) k]'w4) k (ak7 _ (getElem_mem _)) eo) ⟨ot,ot,trivial⟩ ?_;refine an 42 [4,5,6] ?_;refine aK [] ?_;rw[O,I];first|exact⟨by rw[Uw E w4],rfl⟩|exact⟨by rw[<-Ux E w4],rfl⟩
 refine bu [4,5,6] ?_;refine aK [] ?_;rw[O,I];first|exact⟨by rw[Uw E w4],rfl⟩|exact⟨by rw[<-Ux E w4],rfl⟩

end Go.Proofs.YtbplamgacibdaaaGreatDoor.Tw
namespace Go.Proofs.YtbplamgacibdaaaGreatDoor.Tw
open List
open Go.Proofs.Tryz
open Go.RowKit V Tr Pk
abbrev nh(ls:List Int)(ad:Option Addr)(cap:Nat)(S:List ah):Prop:=bn 3 1 (ls.flatMap cI) ls.length ad cap S
abbrev n8(ls:List K)(ad:Option Addr)(cap:Nat)(S:List ah):Prop:=bn 86 1 (ls.flatMap cK) ls.length ad cap S
variable {G:List (Nat×List Value)}
theorem acr:(Tryz.prog.info? 5).map (fun i=>(i.zero,i.size,i.bytes))=some (some (.int .u8 0),1,1):=by kernel_rfl
theorem my(a:List UInt8)(ha:a.length<=1000000):VP Tryz.prog G 70 [ap 1 cB a] (ap 1 cB a):=by
 refine VC.body func70 rfl ntmps70 aU fun X0 w0 bj=>?_;have cR:=dI;refine af [0] ?_;refine aB 1 ?_;refine OD.zM aq rfl rfl ot bV underlying86 (fun O yq=>?_);refine an 8 [0,4] ?_;refine au ?_ ?_<;>intro aJ bz
 ·exact Wz
 refine bS ?_;refine OD.zN aq rfl rfl runUnderlying86 sizeOf5 (fun b5=>?_);refine aH 1 ?_;refine OD.pn (ls:=([]:List UInt8)) (new:=a) (Sq:=[⟨b5,5,0*1,[]⟩]) pX xx aq rfl rfl underlying86 acr rfl w8 runUnderlying86 sizeOf5 ot (.inr ⟨b5,rfl,Nat.le_refl _,Nat.zero_le _,rfl⟩) (cZ (A:=[])) ot iF iF (fun E I S7 ql=>?_);exact z148
theorem acs:(Tryz.prog.info? 3).map (fun i=>(i.zero,i.size,i.bytes))=some (some (.int .i64 0),1,8):=by kernel_rfl
theorem ri(a:List Int)(ha:a.length<=1000000):VC Tryz.prog G 108 [ap 1 cI a] [] (fun r S=>∃ad cap,r=aT ad a.length cap/\nh a ad cap S):=by
 refine VC.body func108 rfl ntmps108 aU fun X0 w0 bj=>?_;have cR:=dI;refine af [0] ?_;refine aB 1 ?_;refine OD.zM aq rfl rfl ot bV underlying61 (fun O yq=>?_);refine an 8 [0,4] ?_;refine au ?_ ?_<;>intro aJ bz
 ·exact HF
 refine bS ?_;refine OD.zN aq rfl rfl runUnderlying61 sizeOf3 (fun b5=>?_);refine aH 1 ?_;refine OD.pn (ls:=([]:List Int)) (new:=a) (Sq:=[⟨b5,3,0*1,[]⟩]) eC mA aq rfl rfl underlying61 acs rfl w8 runUnderlying61 sizeOf3 ot (.inr ⟨b5,rfl,Nat.le_refl _,Nat.zero_le _,rfl⟩) (cZ (A:=[])) ot iF iF (fun E I S7 ql=>?_);exact z80
theorem aa7:(Tryz.prog.info? 86).map (fun i=>(i.zero,i.size,i.bytes))=some (some (.slice none 0 0),1,24):=by kernel_rfl
theorem wR(a:List K)(ha:a.length<=1000000):VC Tryz.prog G 117 [ap 1 cK a] [] (fun r S=>∃ad cap,r=aT ad a.length cap/\n8 a ad cap S):=by
 refine VC.body func117 rfl ntmps117 aU fun X0 w0 bj=>?_;have cR:=dI;refine af [0] ?_;refine aB 1 ?_;refine OD.zM aq rfl rfl ot bV underlying127 (fun O yq=>?_);refine an 8 [0,4] ?_;refine au ?_ ?_<;>intro aJ bz
 ·exact HF
 refine bS ?_;refine OD.zN aq rfl rfl runUnderlying127 sizeOf86 (fun b5=>?_);refine aH 1 ?_;refine OD.pn (ls:=([]:List K)) (new:=a) (Sq:=[⟨b5,86,0*1,[]⟩]) gr pY aq rfl rfl underlying127 aa7 rfl w8 runUnderlying127 sizeOf86 ot (.inr ⟨b5,rfl,Nat.le_refl _,Nat.zero_le _,rfl⟩) (cZ (A:=[])) ot iF iF (fun E I S7 ql=>?_);exact z80

structure aZ where
 p:c8
 ak:Option Addr
 ck:Nat
 sk:List ah
 ai:Option Addr
 ci:Nat
 si:List ah
def gO(o:aZ):List D:=[bP o.p.leaf,aT o.ak o.p.keys.length o.ck,aT o.ai o.p.kids.length o.ci,ap 1 cB o.p.high,ae o.p.next]
theorem iB(o:aZ):(gO o).length=5:=rfl
theorem FW(o:aZ):(gO o).all V.one=true:=rfl
def bO(o:aZ):List ah:=o.sk++o.si
def qZ(o:aZ):Prop:=n8 o.p.keys o.ak o.ck o.sk/\nh o.p.kids o.ai o.ci o.si
theorem Uy{S:List ah}:∀{L:List aZ},(∀o∈L,qZ o)->(∀B∈L.flatMap bO,B∈S)->gU S (L.flatMap gO) ((L.map aZ.p).flatMap cP)
 | [],_,_=>trivial
 | o::L,h,hs=>by
  rw[map_cons,flatMap_cons,flatMap_cons];obtain⟨h1,h2⟩:=h o mem_cons_self;refine gU.append ⟨ff,lU h1 (cm gr _) (fun B hB=>hs B ?_),lU h2 (cm eC _) (fun B hB=>hs B ?_),ff,ff,trivial⟩ (Uy (fun o ho=>h o (mem_cons_of_mem _ ho)) fun B hB=>hs B ?_)
  ·rw[flatMap_cons];exact mem_append_left _ (mem_append_left _ hB)
  ·rw[flatMap_cons];exact mem_append_left _ (mem_append_right _ hB)
  rw[flatMap_cons];exact mem_append_right _ hB
abbrev uA(L:List aZ)(ad:Option Addr)(cap:Nat)(S:List ah):Prop:=bn 129 5 (L.flatMap gO) L.length ad cap S
theorem Ld{S Sx:List ah}{L:List aZ}{ad:Option Addr}{cap:Nat}{root:Int}(ho:uA L ad cap Sx)(h:∀o∈L,qZ o)(hs:∀B∈Sx++L.flatMap bO,B∈S) :
  View S (.agg [aT ad L.length cap,ae root]) (.agg (cT ⟨L.map aZ.p,root⟩)):=by
 refine vc ⟨?_,ff,trivial⟩;have:=Bn ho (Uy h fun B hB=>hs B (mem_append_right _ hB)) (cm F7 _ |>.trans bq) (fun B hB=>hs B (mem_append_left _ hB));first|rw[length_map]|(show View _ _ (.list _ _ (length _));rw[length_map])|(show View _ _ (.agg [.list _ _ (length _)]);rw[length_map])
 exact this
def GU(t:aF)(r:D)(S:List ah):Prop:=∃L ad cap Sx,r = .agg [aT ad (length L) cap,ae t.root]/\uA L ad cap Sx/\(∀o∈L,qZ o)/\L.map aZ.p=t.ag/\S=Sx++L.flatMap bO
theorem TD(L:List aZ)(o:aZ):(L++[o]).flatMap bO=L.flatMap bO++bO o:=by simp
theorem pR{α:Type}{l:List α}{j:Nat}(h:j<l.length):take j l++[l[j]]=take (j+1) l:=(take_succ_eq_append_getElem h).symm
theorem aa8:(Tryz.prog.info? 86).map (fun i=>(i.zero,i.size,i.bytes))=some (some (.slice none 0 0),1,24):=by kernel_rfl
theorem aap:(Tryz.prog.info? 129).map (fun i=>(i.zero,i.size,i.bytes))=some (some (.agg #[.bool false,.slice none 0 0,.slice none 0 0,.slice none 0 0,.int .i64 0]),5,88):=by kernel_rfl
theorem PF : ∀ w, ((#[{ name := "Leaf", type := 4, offset := 0, embedded := false, tag := "", pkgPath := "", byteOffset := 0 }, { name := "Keys", type := 127, offset := 1, embedded := false, tag := "", pkgPath := "", byteOffset := 8 }, { name := "Kids", type := 61, offset := 2, embedded := false, tag := "", pkgPath := "", byteOffset := 32 }, { name := "High", type := 86, offset := 3, embedded := false, tag := "", pkgPath := "", byteOffset := 56 }, { name := "Next", type := 3, offset := 4, embedded := false, tag := "", pkgPath := "", byteOffset := 80 }] : Array Field).mapM fun f => do pure (f.offset, ← sizeOf f.type) : Sem (Array (Nat × Nat))).run Tryz.prog w = .ok #[(0, 1), (1, 1), (2, 1), (3, 1), (4, 1)] w := fun w => by simp [sizeOf127, sizeOf3, sizeOf4, sizeOf61, sizeOf86]
theorem B9(t:aF)(h:Nat)(v:Valid t h):VC Tryz.prog G 68 [.agg (cT t)] [] (GU t):=by
 refine VC.body func68 rfl ntmps68 aU fun X0 w0 bj=>?_;unfold cT;have cR:=dI;have hval:=v;have OU:=v.oo;refine bS ?_;refine OD.box (ds:=[_,_]) aq rfl rfl ot rfl rfl (fun b1=>?_);refine OD.alloc (ds:=[_,_]) aq rfl rfl zeroValue66 rfl (fun b2=>?_);refine an 51 [1,2] ?_;refine aB 3 ?_;refine OD.alloc (ds:=[_,_]) aq rfl rfl zeroValue66 rfl (fun b3=>?_);refine aP 0 [_,_] sizeOf66 ?_;refine an 51 [1,2,3] ?_;refine af [2,3,13,14,15] ?_;refine ew [2,3,13,14] (fun aS _ (aO:Nat×List aZ×Option Addr×Nat×List ah) aE=>match aO with|(i,L,dj,cU,Sx)=>(i<=t.ag.length)/\(L.map aZ.p=t.ag.take i)/\(∀o∈L,qZ o)/\(uA L dj cU Sx)/\aE=(⟨51,(15,ae (i:Nat))::aS,(⟨b3,66,2,[aT dj L.length cU,ae t.root]⟩::⟨b2,66,2,[cc,ae 0]⟩::(Sx++L.flatMap bO))⟩:St)) (fun (aO:Nat×List aZ×Option Addr×Nat×List ah)=>match aO with|(i,L,dj,cU,Sx)=>t.ag.length-i) (0,([]:List aZ),none,0,[]) ⟨(Nat.zero_le _),rfl,(fun o h=>by cases h),iR,rfl⟩ ?_;rintro⟨i,L,dj,cU,Sx⟩ _ ⟨hi,hL,aW,dP,rfl⟩;refine af [2,3,13,14,15,16] ?_;refine au ?_ ?_<;>intro aJ bz
 ·have aa:i<t.ag.length:=(by omega)
  have po:=v.fM _ (getElem_mem aa);have rW:L.length=i:=(by have:=congrArg length hL;rw[length_map,length_take] at this;omega)
  have jg:=po.ec;have ZC:=po.hlen;have Gt:(t.ag[i]'aa).kids.length<=5:=by
      exact WE
  refine aB 2 ?_;refine OD.alloc (ds:=[_,_,_,_,_]) aq rfl rfl zeroValue129 rfl (fun b5=>?_);refine aP 0 [_,_,_,_,_] sizeOf129 ?_;refine an 51 [2,3,5,13,14,15] ?_;refine bS ?_;refine bu [2,3,5,6,13,14,15] ?_;refine af [2,3,5,6,13,14,15,20,21,22] ?_;refine CD.block ?_;refine nu (fun (aO:Nat×Option Addr×Nat×List ah) aE=>match aO with|(j,iX,iY,Sy)=>(j<=(t.ag[i]'aa).keys.length)/\(n8 (take j (t.ag[i]'aa).keys) iX iY Sy)/\aE=(⟨51,[(2,cY b2),(3,cY b3),(5,cY b5),(6,aT iX (take j (t.ag[i]'aa).keys).length iY),(13,ap 5 cP t.ag),(14,ae (t.ag.length:Nat)),(15,ae (i:Nat)),(20,.list 1 ((t.ag[i]'aa).keys.flatMap cK) (t.ag[i]'aa).keys.length),(21,ae ((t.ag[i]'aa).keys.length:Nat)),(22,ae (j:Nat))],(⟨b5,129,5,cP (t.ag[i]'aa)⟩::⟨b3,66,2,[aT dj L.length cU,ae t.root]⟩::⟨b2,66,2,[cc,ae 0]⟩::(Sy++(Sx++L.flatMap bO)))⟩:St)) (fun (aO:Nat×Option Addr×Nat×List ah)=>match aO with|(j,iX,iY,Sy)=>(t.ag[i]'aa).keys.length-j) (0,none,0,[]) ⟨(Nat.zero_le _),iR,rfl⟩ (aI (h:=by repeat (first|exact trivial|refine⟨(by (repeat (first|exact fK|(apply gb;focus (first|rfl|(simp;done)|(congr 2;omega)|(apply eP;exact pR I)))|(apply fO;focus rfl)));done),?_⟩))) ?_;rintro⟨j,iX,iY,Sy⟩ _ ⟨hj,O,rfl⟩;refine af [2,3,5,6,13,14,15,20,21,22,23] ?_;refine au ?_ ?_<;>intro aX cr
  ·have I:j<(t.ag[i]'aa).keys.length:=(by omega)
   have MT:=(po.lI _ (getElem_mem I)).2;refine af [2,3,5,6,8,13,14,15,20,21,22] ?_;refine dw 2 ?_;refine ez call70 (my (t.ag[i]'aa).keys[j] w4) ?_;refine ey (cu 0 [_]) [.slice none 0 0] [_] zeroValue86 runUnderlying127 sizeOf86 (fun b29=>?_);refine fD 0 29 1 1 ?_;refine OD.eG (ls:=(take j (t.ag[i]'aa).keys)) (new:=[(t.ag[i]'aa).keys[j]]) (Sq:=Sy) gr pY aq rfl rfl underlying127 aa8 rfl w8 ot O (JC (A:=[_,_,_])) ot bq v7 iF (fun U E ML MM=>?_);refine OD.perm (RQ (S1:=[⟨U,86,E*1,flatMap cK ((take j (t.ag[i]'aa).keys)++[(t.ag[i]'aa).keys[j]])⟩]) (A:=[_,_,_])) ?_;refine an 51 [2,3,5,6,13,14,15,20,21,22] ?_;refine bM [2,3,5,6,13,14,15,20,21,22] ?_;refine⟨((j+1),(some ⟨U,0,none⟩),E,[⟨U,86,E*1,flatMap cK ((take j (t.ag[i]'aa).keys)++[(t.ag[i]'aa).keys[j]])⟩]),_,cn,(aI (h:=by repeat (first|exact trivial|refine⟨(by (repeat (first|exact fK|(apply gb;focus (first|rfl|(simp;done)|(congr 2;omega)|(apply eP;exact pR I)))|(apply fO;focus rfl)));done),?_⟩))),w4,(bn.cast (bJ ML MM) (pR I)),rfl⟩
  have hjt:take j (t.ag[i]'aa).keys=(t.ag[i]'aa).keys:=take_of_length_le w4;rw[hjt] at O |-;refine CD.exit ?_;refine gP 16 (av (take 1 _)) ?_ (fun _ h=>(Sublist.map _ (take_sublist _ _)).subset h);refine aD 0 rfl (dQ 0) ?_;refine aD 2 rfl (dQ 0) ?_;refine aD 3 rfl (dS 0) ?_;refine aD 4 rfl bD ?_;refine aD 5 rfl (dQ 2) ?_;refine aD 6 rfl (dS 0) ?_;refine aD 8 rfl (dQ 3) ?_;refine aD 9 rfl (dS 0) ?_;refine aD 11 rfl (dQ 4) ?_;refine aD 12 rfl (dS 0) ?_;refine dM.later rfl ?_;refine AD.two (i:=1) (j:=7) aC ?_ ?_
  ·refine at_ rfl (dS 1) ?_;refine AD.one (i:=7) aC ?_;refine bC.call rfl aq rfl rfl rfl call108 (ri (t.ag[i]'aa).kids w4) ⟨ot,trivial⟩ (eX _) (fun b hb=>by simp[av,St.put] at hb |-;try simp[hb]) ?_;rintro _ Sz ⟨mh,mi,rfl,Z⟩;refine AD.perm (kG (A:=[_,_,_])) ?_;have we:(L++[(⟨(t.ag[i]'aa),iX,iY,Sy,mh,mi,Sz⟩:aZ)]).map aZ.p=t.ag.take (i+1):=(by rw[map_append,hL];exact pR aa)
   have kr:∀o∈L++[(⟨(t.ag[i]'aa),iX,iY,Sy,mh,mi,Sz⟩:aZ)],qZ o:=fun o ho=>by rcases mem_append.1 ho with ho|ho;exact aW o ho;rw[mem_singleton] at ho;subst ho;exact⟨O,Z⟩
   exact z131
  refine bC.call rfl aq rfl rfl rfl call108 (ri (t.ag[i]'aa).kids w4) ⟨ot,trivial⟩ (eX _) (fun b hb=>by simp[av,St.put] at hb |-;try simp[hb]) ?_;rintro _ Sz ⟨mh,mi,rfl,Z⟩;refine AD.perm (kG (A:=[_,_,_])) ?_;have we:(L++[(⟨(t.ag[i]'aa),iX,iY,Sy,mh,mi,Sz⟩:aZ)]).map aZ.p=t.ag.take (i+1):=(by rw[map_append,hL];exact pR aa)
  have kr:∀o∈L++[(⟨(t.ag[i]'aa),iX,iY,Sy,mh,mi,Sz⟩:aZ)],qZ o:=fun o ho=>by rcases mem_append.1 ho with ho|ho;exact aW o ho;rw[mem_singleton] at ho;subst ho;exact⟨O,Z⟩
  refine AD.two (i:=1) (j:=10) aC ?_ ?_
  ·refine at_ rfl (dS 1) ?_;exact z131
  refine qm call70 (my (t.ag[i]'aa).high w4) ?_;refine dm 13 rfl (pi (pl:=[(0,_),(1,_),(2,_),(3,_),(4,_)]) (ds:=[_,_,_,_,_]) rfl zeroValue129 runUnderlying129 PF ⟨rfl,ot,rfl,ot,rfl,ot,rfl,ot,rfl,ot,trivial⟩ rfl rfl) ?_;refine AD.two (i:=1) (j:=14) aC ?_ ?_
  ·refine at_ rfl (dS 1) ?_;refine AD.one (i:=14) aC ?_;refine nq (cu 0 [_]) [.bool false,.slice none 0 0,.slice none 0 0,.slice none 0 0,.int .i64 0] [_,_,_,_,_] zeroValue129 runUnderlying64 sizeOf129 (fun AV=>?_);refine nQ 0 46 5 1 ?_;exact z7
  refine nq (cu 0 [_]) [.bool false,.slice none 0 0,.slice none 0 0,.slice none 0 0,.int .i64 0] [_,_,_,_,_] zeroValue129 runUnderlying64 sizeOf129 (fun AV=>?_);refine nQ 0 46 5 1 ?_;refine AD.one (i:=1) aC ?_;refine at_ rfl (dS 1) ?_;exact z7
 refine aB 1 ?_;refine aP 1 [_,_] sizeOf66 ?_;refine an 51 [2] ?_;refine aK (Sx++L.flatMap bO) ?_;exact⟨L,dj,cU,Sx,rfl,dP,aW,by rw[hL,take_of_length_le w4],rfl⟩

end Go.Proofs.YtbplamgacibdaaaGreatDoor.Tw

namespace Go.Proofs.YtbplamgacibdaaaGreatDoor.Tw
open List
open Go.Proofs.Tryz
open Go.RowKit V Go.Proofs.YtbplamgacibdaaaGreatDoor.Tr Pk
open Go.Lib (compareBytes)
variable {t:aF} {lv:List (List Int)} {level:Nat} {i:Int}
structure n9 (t:aF) (s:jQ):Prop where
 nd:s.1.Nodup
 rg:∀x∈s.1,0<=x/\x<t.ag.length
 ec:s.2.length<=s.1.length
 each:∀l∈s.2,l.length<=s.1.length
 el:∀l∈s.2,∀x∈l,0<=x/\x<t.ag.length
theorem aeg{n:Nat}{l:List Int}(h:l.Nodup)(hr:∀x∈l,0<=x/\x<n):l.length<=n:=by
 induction n generalizing l with
 | zero =>
  cases l with
  | nil=>simp
  | cons a l=>have:=hr a mem_cons_self;omega
 | succ n ih =>
  have h1:=ih (l:=l.erase (n:Int)) (h.erase _) fun x hx=>by
   have h2:=(h.mem_erase_iff).1 hx;have h3:=hr x h2.2;have:=h2.1;omega
  rw[length_erase] at h1;split at h1<;>omega
theorem n9.oo{s:jQ}(h:n9 t s):s.1.length<=t.ag.length:=aeg h.nd h.rg
theorem acu{n:Nat}(h:∀l∈lv,l.length<=n):∀l∈kV lv level i,l.length<=n+1:=fun l hl=>by
 obtain⟨j,hj,rfl⟩:=mem_iff_getElem.1 hl;have e:(kV lv level i)[j]=(kV lv level i).getD j []:=(by rw[getD_eq_getElem?_getD,getElem?_eq_getElem hj];rfl)
 rw[e,FM,length_append];have h1:(lv.getD j []).length<=n:=by
  rw[getD_eq_getElem?_getD];rcases Nat.lt_or_ge j lv.length with q|q
  ·rw[getElem?_eq_getElem q];exact h _ (getElem_mem q)
  rw[getElem?_eq_none q];simp
 split
 ·simp only[length_cons,length_nil];omega
 simp only[length_nil];omega
theorem afL{Q:Int->Prop}(h:∀l∈lv,∀x∈l,Q x)(hi:Q i):∀l∈kV lv level i,∀x∈l,Q x:=fun l hl x hx=>by
 obtain⟨j,hj,rfl⟩:=mem_iff_getElem.1 hl;have e:(kV lv level i)[j]=(kV lv level i).getD j []:=(by rw[getD_eq_getElem?_getD,getElem?_eq_getElem hj];rfl)
 rw[e,FM,mem_append] at hx;rcases hx with hx|hx
 ·rw[getD_eq_getElem?_getD] at hx;rcases Nat.lt_or_ge j lv.length with q|q
  ·rw[getElem?_eq_getElem q] at hx;exact h _ (getElem_mem q) x hx
  rw[getElem?_eq_none q] at hx;cases hx
 split at hx
 ·rw[mem_singleton] at hx;subst hx;exact hi
 cases hx
theorem n9.add{s:jQ}(h:n9 t s)(hi:0<=i/\i<t.ag.length)(hn:i∉s.1)(hl:level<=s.1.length):n9 t (s.1++[i],kV s.2 level i):=by
 refine⟨?_,fun x hx=>?_,?_,?_,afL h.el hi⟩
 ·exact nodup_append.2 ⟨h.nd,by simp,fun a ha b hb e=>by rw[mem_singleton] at hb;subst hb;subst e;exact hn ha⟩
 ·rcases mem_append.1 hx with hx|hx
  ·exact h.rg x hx
  rw[mem_singleton] at hx;subst hx;exact hi
 ·show(kV s.2 level i).length<=(s.1++[i]).length;rw[JO,length_append];have:=h.ec;simp;omega
 show ∀l∈kV s.2 level i,l.length<=(s.1++[i]).length;rw[length_append];exact acu h.each
theorem SX{t:aF}{go:Int->K->K->jQ->Option (Nat×jQ)}{low:K}{p:c8}{n:Nat}(E:∀(c:Int) lo hi s d s',(0<=c/\c<t.ag.length)->n9 t s->n<=s.1.length->go c lo hi s=some (d,s')->n9 t s'/\s.1.length<=s'.1.length) :
  ∀(cs:List Int) (k:Nat) (deep:Option Nat) (s:jQ) (d:Nat) (s':jQ),(∀c∈cs,0<=c/\c<t.ag.length)->n9 t s->n<=s.1.length->l6 go low p cs k deep s=some (d,s')->n9 t s'/\s.1.length<=s'.1.length
 | [],k,deep,s,d,s',_,hs,_,h=>by
  rw[l6] at h;cases deep with
  | none=>cases h
  | some e=>simp at h;rw[<-h.2];exact⟨hs,Nat.le_refl _⟩
 | c::cs,k,deep,s,d,s',hc,hs,hn,h=>by
  rw[l6] at h;cases hg:go c (iP low p k) (iA p k) s with
  | none=>rw[hg] at h;cases h
  | some q =>
   obtain⟨d1,s1⟩:=q;rw[hg] at h;obtain⟨h1,h2⟩:=E _ _ _ _ _ _ (hc c mem_cons_self) hs hn hg;change (if deep=none\/deep=some d1 then l6 go low p cs (k+1) (some d1) s1 else none)=_ at h;split at h
   ·obtain⟨h3,h4⟩:=SX E cs _ _ _ _ _ (fun c uR=>hc c (mem_cons_of_mem _ uR)) h1 w4 h;exact⟨h3,by omega⟩
   cases h
theorem Q8{p:c8}(hp:eN p t.ag.length)(hl:p.leaf=false):∀c∈p.kids,0<=c/\c<t.ag.length:=fun c hc=>⟨hp.aA c hc,hp.vL hl c hc⟩
theorem KF{t:aF}(hp:vm t):∀(f:Nat) (i:Int) (lo hi:K) (level:Nat) (s:jQ) (d:Nat) (s':jQ),(0<=i/\i<t.ag.length)->n9 t s->level<=s.1.length->jI t f i lo hi level s=some (d,s')->n9 t s'/\s.1.length<=s'.1.length
 | 0,i,lo,hi,level,s,d,s',_,_,_,h=>by rw[jI] at h;cases h
 | f+1,i,lo,hi,level,s,d,s',hr,hs,hl,h=>by
  rw[jI] at h;split at h
  ·cases h
  rename_i hn;split at h
  ·cases h
  have ha:=hs.add hr hn hl;have hlen:s.1.length+1=(s.1++[i]).length:=(by simp)
  split at h
  ·simp at h;rw[<-h.2];exact⟨ha,by show s.1.length<=(s.1++[i]).length;omega⟩
  rename_i fT;have fT:(t.pg i).leaf=false:=(by simpa using fT)
  obtain⟨h1,h2⟩:=SX (n:=level+1) (fun c lo hi s d s' hc hs hn h=>KF hp f c lo hi (level+1) s d s' hc hs hn h) _ _ _ _ _ _ (Q8 (hp _ (jV hr)) fT) ha (by show level+1<=(s.1++[i]).length;omega) h;have h3:(s.1++[i]).length<=s'.1.length:=h2;exact⟨h1,by omega⟩
structure dB where
 l:List Int
 ad:Option Addr
 cp:Nat
 s:List ah
variable {L:List dB}
def gV(o:dB):List D:=[aT o.ad o.l.length o.cp]
theorem xA(o:dB):(gV o).length=1:=rfl
theorem ahi(o:dB):(gV o).all V.one=true:=rfl
def nv(o:dB):Prop:=nh o.l o.ad o.cp o.s
def rM:dB:=⟨[],none,0,[]⟩
theorem afM:nv rM:=.inl ⟨rfl,rfl,rfl,rfl,rfl⟩
abbrev Av(L:List dB)(ad:Option Addr)(cap:Nat)(S:List ah):Prop:=bn 61 1 (L.flatMap gV) L.length ad cap S
def Xk(t:aF)(b bm:Nat)(n:Nat)(ad:Option Addr)(cap:Nat):ah:=⟨b,168,4,[ap 5 cP t.ag,ae t.root,.v (.map (some bm)),aT ad n cap]⟩
def SW(t:aF)(b bm:Nat)(m:List Int)(L:List dB)(ad:Option Addr)(cap:Nat)(Sx:List ah):List ah:=Xk t b bm L.length ad cap::lp bm m::(Sx++L.flatMap dB.s)
def Xl(t:aF)(b bm:Nat):Option (Nat×jQ)->D->List ah->Prop
 | none,r,S=>r = .v (.int .i64 (-1))/\S=[]
 | some (d,s),r,S=>r = .v (.int .i64 (d:Nat))/\∃L ad cap Sx,Av L ad cap Sx/\(∀o∈L,nv o)/\L.map dB.l=s.2/\S=SW t b bm s.1 L ad cap Sx
theorem zv{α:Type}(g:α->List ah):∀{L:List α} {j:Nat} (h:j<L.length),(L.flatMap g).Perm (g L[j]++(L.eraseIdx j).flatMap g)
 | a::L,0,_=>by simp
 | a::L,j+1,h=>by
  have ih:=zv g (L:=L) (j:=j) oV;simp only[flatMap_cons,getElem_cons_succ,eraseIdx_cons_succ];refine(ih.append_left (g a)).trans ?_;rw[<-append_assoc,<-append_assoc];exact List.perm_append_comm.append_right _
theorem zc{α:Type}(g:α->List ah){L:List α}{j:Nat}(h:j<L.length)(a:α):((L.set j a).flatMap g).Perm (g a++(L.eraseIdx j).flatMap g):=by
 have:=zv g (L:=L.set j a) (j:=j) (by rw[length_set];exact h);rw[getElem_set_self,eraseIdx_set_eq] at this;exact this
def sM:Option Nat->Int
 | none=>-2
 | some d=>d
variable {G:List (Nat×List Value)}

theorem ahj{f:Nat}{low high:K}{s:jQ}(h:i∈s.1):jI t (f+1) i low high level s=none:=by rw[jI,if_pos h]
theorem Uz{f:Nat}{low high:K}{s:jQ}(h:((t.pg i).high≠high\/∃k,(t.pg i).keys.head?=some k/\bG k low)):jI t (f+1) i low high level s=none:=by
 rw[jI];by_cases hi:i∈s.1
 ·rw[if_pos hi]
 rw[if_neg hi,if_pos h]
theorem aeh{f:Nat}{low high:K}{s:jQ}(h:i∉s.1)(h2:¬((t.pg i).high≠high\/∃k,(t.pg i).keys.head?=some k/\bG k low))(h3:(t.pg i).leaf=true):jI t (f+1) i low high level s=some (level,(s.1++[i],kV s.2 level i)):=by rw[jI,if_neg h,if_neg h2,if_pos h3]
theorem aei{f:Nat}{low high:K}{s:jQ}(h:i∉s.1)(h2:¬((t.pg i).high≠high\/∃k,(t.pg i).keys.head?=some k/\bG k low))(h3:(t.pg i).leaf=false):jI t (f+1) i low high level s=l6 (fun c lo hi s=>jI t f c lo hi (level+1) s) low (t.pg i) (t.pg i).kids 0 none (s.1++[i],kV s.2 level i):=by rw[jI,if_neg h,if_neg h2,if_neg (by rw[h3];decide)]
section
variable {go:Int->K->K->jQ->Option (Nat×jQ)} {low:K} {p:c8} {k:Nat} {deep:Option Nat} {s s':jQ} {d:Nat}
theorem acv(hk:k<p.kids.length)(h:go p.kids[k] (iP low p k) (iA p k) s=none):l6 go low p (p.kids.drop k) k deep s=none:=by rw[drop_eq_getElem_cons hk,l6,h]
theorem Q9(hk:k<p.kids.length)(h:go p.kids[k] (iP low p k) (iA p k) s=some (d,s'))(hd:deep=none\/deep=some d):l6 go low p (p.kids.drop k) k deep s=l6 go low p (p.kids.drop (k+1)) (k+1) (some d) s':=by
 rw[drop_eq_getElem_cons hk,l6,h];show(if deep=none\/deep=some d then _ else _)=_;rw[if_pos hd]
theorem aej(hk:k<p.kids.length)(h:go p.kids[k] (iP low p k) (iA p k) s=some (d,s'))(hd:¬(deep=none\/deep=some d)):l6 go low p (p.kids.drop k) k deep s=none:=by
 rw[drop_eq_getElem_cons hk,l6,h];show(if deep=none\/deep=some d then _ else _)=_;rw[if_neg hd]
theorem aek(hk:p.kids.length<=k):l6 go low p (p.kids.drop k) k deep s=deep.map fun d=>(d,s):=by rw[drop_of_length_le hk,l6]
end
theorem acw:(L++[rM]).flatMap dB.s=L.flatMap dB.s:=by simp[rM]
theorem afN{E:List dB}(h:E.map dB.l=L.map dB.l++replicate (E.length-L.length) [])(h1:L.length<=E.length)(h2:E.length<=max L.length (level+1))(h3:level<E.length):E.map dB.l=sY (L.map dB.l) (level+1):=by
 rw[h];unfold sY;rw[length_map,show E.length-L.length=level+1-L.length from by omega]
theorem KG{E:List dB}{o:dB}(h:E.map dB.l=sY (L.map dB.l) (level+1))(h3:level<E.length)(ho:o.l=E[level].l++[i]):(E.set level o).map dB.l=kV (L.map dB.l) level i:=by
 rw[map_set,ho];unfold kV;rw[<-h,getD_eq_getElem?_getD,getElem?_eq_getElem (by rw[length_map];exact h3),getElem_map];rfl
theorem UA{j:Nat}{o:dB}(h:∀o∈L,nv o)(ho:nv o):∀x∈L.set j o,nv x:=fun x hx=>by
 rcases mem_or_eq_of_mem_set hx with hx|rfl
 ·exact h x hx
 exact ho
theorem SY{deep:Option Nat}{d:Nat}(h:sM deep≠-2)(h2:(d:Int)=sM deep):deep=some d:=by
 cases deep with
 | none=>exact absurd rfl h
 | some e=>unfold sM at h2;simp only at h2;rw[show d=e from by omega]
theorem ael{deep:Option Nat}{d:Nat}(h:sM deep≠-2)(h2:¬(d:Int)=sM deep):¬(deep=none\/deep=some d):=by
 rintro(rfl|rfl)
 ·exact h rfl
 exact h2 rfl
theorem Ra{deep:Option Nat}(h:sM deep = -2):deep=none:=by
 cases deep with
 | none=>rfl
 | some e=>unfold sM at h;simp only at h;omega
def We(G:List (Nat×List Value))(t:aF)(b bm f:Nat):Prop:=∀(i:Int) (low high:K) (level:Nat) (m:List Int) (L:List dB) (ad:Option Addr) (cap:Nat) (Sx:List ah),(0<=i/\i<t.ag.length)->n9 t (m,(L.map dB.l))->level<=m.length->t.ag.length+1<=f+m.length->high.length<=100->Av L ad cap Sx->(∀o∈L,nv o) ->
 VC Tryz.prog G 97 [cY b,ae i,ap 1 cB low,ap 1 cB high,ae (level:Nat)] (SW t b bm m L ad cap Sx) (Xl t b bm (jI t f i low high level (m,(L.map dB.l))))

theorem Rb:(Tryz.prog.info? 3).map (fun i=>(i.zero,i.size,i.bytes))=some (some (.int .i64 0),1,8):=by kernel_rfl

theorem aa9:(Tryz.prog.info? 61).map (fun i=>(i.zero,i.size,i.bytes))=some (some (.slice none 0 0),1,24):=by kernel_rfl

theorem acy(t:aF)(hp:vm t)(rN:t.ag.length<=4000)(b bm f:Nat)(ih:We G t b bm f)(i:Int)(low high:K)(level:Nat)(m:List Int)(L:List dB)(ad:Option Addr)(cap:Nat)(Sx:List ah)(hr:0<=i/\i<t.ag.length)(GV:n9 t (m,(L.map dB.l)))(hlm:level<=m.length)(hfu:t.ag.length+1<=(f+1)+m.length)(ZD:high.length<=100)(nl:Av L ad cap Sx)(aW:∀o∈L,nv o) :
 VC Tryz.prog G 97 [cY b,ae i,ap 1 cB low,ap 1 cB high,ae (level:Nat)] (SW t b bm m L ad cap Sx) (Xl t b bm (jI t (f+1) i low high level (m,(L.map dB.l)))):=by
 refine VC.body func97 rfl ntmps97 aU fun X0 w0 bj=>?_;unfold SW Xk;have cR:=dI;have aa:i.toNat<t.ag.length:=(by omega)
 have qw:t.pg i=(t.ag[i.toNat]'aa):=vD hr;have po:eN (t.ag[i.toNat]'aa) t.ag.length:=hp _ (getElem_mem aa);have ZC:=po.hlen;have AM:=GV.oo;have DY:m.length<=t.ag.length:=AM;refine af [0,1,2,3,4] ?_;refine aB 5 ?_;refine bN (abJ (i:=1) rfl ot ot rfl underlying165 underlying3 zeroValue204) ?_;refine aH 3 ?_;refine OD.alloc (ds:=[]) aq rfl rfl zeroValue204 rfl (fun lS=>?_);refine aP 0 [] sizeOf204 ?_;refine an 148 [0,1,2,3,4,12] ?_;refine af [0,1,2,3,4,29] ?_;refine au ?_ ?_<;>intro aJ bz
 ·have fX:i∈m:=(by simpa using aJ)
  refine af [10] ?_;refine aK [] ?_;rw[ahj (by exact fX)];exact⟨rfl,rfl⟩
 have qp:i∉m:=(by simpa using aJ)
 refine aB 6 ?_;refine OD.addKey (i:=2) aq rfl rfl ot ot ot rfl qp underlying165 underlying3 ?_;refine an 148 [0,1,2,3,4] ?_;refine aB 6 ?_;refine bN (dL 5 (h:=by first|exact .l (j:=i.toNat) (Int.toNat_of_nonneg hr.1).symm aa|exact .r (j:=i.toNat) (Int.toNat_of_nonneg hr.1).symm aa)) ?_;refine aH 1 ?_;refine OD.alloc (ds:=[_,_,_,_,_]) aq rfl rfl zeroValue129 rfl (fun mK=>?_);refine aP 0 [_,_,_,_,_] sizeOf129 ?_;refine an 148 [0,1,2,3,4,13] ?_;refine iH [0,1,2,3,4] (fun aS _ aE=>∃(mK:Nat),(¬((t.pg i).high≠high\/∃k,(t.pg i).keys.head?=some k/\bG k low))/\aE=(⟨148,(13,cY mK)::aS,(⟨mK,129,5,cP (t.ag[i.toNat]'aa)⟩::⟨b,168,4,[ap 5 cP t.ag,ae t.root,.v (.map (some bm)),aT ad L.length cap]⟩::lp bm (m++[i])::(Sx++L.flatMap dB.s))⟩:St)) ?_ ?_
 ·refine aB 3 ?_;refine ez call110 (Wc (t.ag[i.toNat]'aa).high high w4 w4) ?_;refine aH 2 ?_;refine bZ 49 (fun CW aiL=>?_) (fun CW aiL=>?_)
  ·refine an 148 [0,1,2,3,4,13,63] ?_;refine eO ?_;have oQ:((t.pg i).high≠high\/∃k,(t.pg i).keys.head?=some k/\bG k low):=(by rw[qw];first|exact .inl (by simpa using CW)|exact .inr ⟨_,head?_eq_getElem? .. ▸ getElem?_eq_getElem w4,of_decide_eq_true aX⟩)
   refine af [10] ?_;refine aK [] ?_;rw[Uz oQ];exact⟨rfl,rfl⟩
  refine aH 5 ?_;refine bZ 54 (fun As zJ=>?_) (fun As zJ=>?_)
  ·refine aH 2 ?_;refine OD.still iN rfl (nV (mk:=Op.indexAddr 127) rfl ot bV (by first|exact oF (j:=0) runUnderlying127 sizeOf86 rfl vZ|exact oI (j:=0) runUnderlying127 sizeOf86 rfl vZ)) ?_;refine aH 2 ?_;refine OD.iD iN rfl rfl rfl call53 (xp ((t.ag[i.toNat]'aa).keys[0]'w4) low) ⟨ot,ot,trivial⟩ ?_;refine an 148 [0,1,2,3,4,13,63] ?_;refine au ?_ ?_<;>intro aX cr
   ·have oQ:((t.pg i).high≠high\/∃k,(t.pg i).keys.head?=some k/\bG k low):=(by rw[qw];first|exact .inl (by simpa using CW)|exact .inr ⟨_,head?_eq_getElem? .. ▸ getElem?_eq_getElem w4,of_decide_eq_true aX⟩)
    refine af [10] ?_;refine aK [] ?_;rw[Uz oQ];exact⟨rfl,rfl⟩
   have oO:¬((t.pg i).high≠high\/∃k,(t.pg i).keys.head?=some k/\bG k low):=(by rw[qw];rintro(h|⟨k,hk,vI⟩);exact h (by simpa using CW);first|(rw[head?_eq_getElem?,getElem?_eq_none w4] at hk;cases hk;done)|(rw[head?_eq_getElem?,getElem?_eq_getElem w4] at hk;cases hk;exact of_decide_eq_false aX vI))
   refine CD.skip ?_;refine⟨_,aI,mK,oO,rfl⟩
  refine an 148 [0,1,2,3,4,13,63] ?_;refine gm ?_;have oO:¬((t.pg i).high≠high\/∃k,(t.pg i).keys.head?=some k/\bG k low):=(by rw[qw];rintro(h|⟨k,hk,vI⟩);exact h (by simpa using CW);first|(rw[head?_eq_getElem?,getElem?_eq_none w4] at hk;cases hk;done)|(rw[head?_eq_getElem?,getElem?_eq_getElem w4] at hk;cases hk;exact of_decide_eq_false aX vI))
  refine CD.skip ?_;refine⟨_,aI,mK,oO,rfl⟩
 rintro _ ⟨mK,oO,rfl⟩;refine ew [0,1,2,3,4,13] (fun aS _ (aO:List dB×Option Addr×Nat×List ah) aE=>match aO with|(I,If,Z,D3)=>(Av I If Z D3)/\(∀o∈I,nv o)/\(I.map dB.l=L.map dB.l++replicate (I.length-L.length) [])/\(L.length<=I.length)/\(I.length<=max L.length (level+1))/\aE=(⟨148,aS,(⟨mK,129,5,cP (t.ag[i.toNat]'aa)⟩::⟨b,168,4,[ap 5 cP t.ag,ae t.root,.v (.map (some bm)),aT If I.length Z]⟩::lp bm (m++[i])::(D3++I.flatMap dB.s))⟩:St)) (fun (aO:List dB×Option Addr×Nat×List ah)=>match aO with|(I,If,Z,D3)=>level+1-I.length) (L,ad,cap,Sx) ⟨nl,aW,bq,(Nat.le_refl _),w4,rfl⟩ ?_;rintro⟨I,If,Z,D3⟩ _ ⟨Xm,qM,Xn,ala,Xo,rfl⟩;refine af [0,1,2,3,4,13,70] ?_;refine au ?_ ?_<;>intro bL cJ
 ·have jg:=GV.ec;have jg:L.length<=m.length:=(by simpa using jg)
  have E:I.length<=level:=(by omega)
  refine dw 5 ?_;refine ey (cu 0 [_]) [.slice none 0 0] [_] zeroValue61 runUnderlying166 sizeOf61 (fun b76=>?_);refine fD 0 76 1 1 ?_;refine OD.eG (ls:=I) (new:=[rM]) (Sq:=D3) xA ahi aq rfl rfl underlying166 aa9 rfl w8 ot Xm (pp (A:=[_,_,_])) ot bq Hf Hf (fun OW MU alb alc=>?_);refine OD.perm (kG (S1:=[⟨OW,61,MU*1,flatMap gV (I++[rM])⟩]) (A:=[_,_,_])) ?_;rw[<-acw (L:=I)];refine aH 2 ?_;refine aP 1 [_,_,_,_] sizeOf166 ?_;refine an 148 [0,1,2,3,4,13] ?_;refine⟨((I++[rM]),(some ⟨OW,0,none⟩),MU,[⟨OW,61,MU*1,flatMap gV (I++[rM])⟩]),_,(by (show level+1-(I++[rM]).length<level+1-I.length;rw[length_append,show[rM].length=1 from rfl];omega)),aI,(bJ alb alc),(fun o ho=>by rcases mem_append.1 ho with ho|ho;exact qM o ho;rw[mem_singleton] at ho;subst ho;exact afM),(by rw[map_append,Xn,append_assoc,length_append,show[rM].length=1 from rfl,show I.length+1-L.length=I.length-L.length+1 from by omega,replicate_succ'];rfl),vY,(by rw[length_append,show[rM].length=1 from rfl];omega),rfl⟩
 have E:level<I.length:=(by omega)
 have Aw:=afN Xn ala Xo E;obtain⟨bv,rfl,CV,Ck,rfl⟩:=Xm.pos w4;have dP:nv (I[level]'E):=qM _ (getElem_mem E);have iG:(I[level]'E).l.length<=m.length:=by
    have hz:(I[level]'E).l=(sY (L.map dB.l) (level+1)).getD level []:=(by rw[<-Aw,getD_eq_getElem?_getD,getElem?_eq_getElem (by rw[length_map];exact E),getElem_map];rfl)
    rw[hz,KE,getD_eq_getElem?_getD];rcases Nat.lt_or_ge level (L.map dB.l).length with q|q
    ·rw[getElem?_eq_getElem q];exact GV.each _ (getElem_mem q)
    rw[getElem?_eq_none q];simp
 refine CD.perm (Perm.cons _ (Perm.cons _ (Perm.cons _ ((zv dB.s E).append_left _)))) ?_;refine CD.exit ?_;refine CD.seq ?_;refine CD.mono (Q:=fun aS aE=>aS=Exit.normal/\∃(o2:dB),(nv o2)/\(o2.l=(I[level]'E).l++[i])/\Wk aE (⟨148,[(0,cY b),(2,ap 1 cB low),(3,ap 1 cB high),(4,ae (level:Nat)),(13,cY mK)],(⟨mK,129,5,cP (t.ag[i.toNat]'aa)⟩::⟨b,168,4,[ap 5 cP t.ag,ae t.root,.v (.map (some bm)),aT (some ⟨bv,0,none⟩) (I.set level o2).length Z]⟩::lp bm (m++[i])::([⟨bv,61,Z*1,flatMap gV (I.set level o2)⟩]++(I.set level o2).flatMap dB.s))⟩:St)) ?_ ?_
 ·refine CD.draw (av (take 3 _)) aC (fun _ h=>(Sublist.map _ (take_sublist _ _)).subset h) ?_;refine aD 0 rfl bD ?_;refine aD 1 rfl qg ?_;refine aD 2 rfl (dQ 3) ?_;refine aD 3 rfl (dS 1) ?_;refine aD 4 rfl bD ?_;refine aD 5 rfl bD ?_;refine aD 6 rfl qg ?_;refine aD 7 rfl (dQ 3) ?_;refine aD 8 rfl (dS 1) ?_;refine aD 9 rfl bD ?_;refine aD 10 rfl (dL 1) ?_;refine aD 12 rfl bD ?_;refine dM.later rfl ?_;refine AD.two (i:=11) (j:=13) aC ?_ ?_
  ·refine at_ rfl (dz (mk:=Op.load 61) rfl ot (jj (k:=3) (d:=aT (I[level]'E).ad (I[level]'E).l.length (I[level]'E).cp) (i:=level) xA rfl rfl rfl isAgg61 E rfl)) ?_;refine AD.one (i:=13) aC ?_;refine nq (cu 0 [_]) [.int .i64 0] [_] zeroValue3 runUnderlying61 sizeOf3 (fun Zo=>?_);refine nQ 0 93 1 1 ?_;refine AD.one (i:=14) aC ?_;refine bC.eG (ls:=(I[level]'E).l) (new:=[i]) (Sq:=(I[level]'E).s) eC mA rfl aq rfl rfl underlying61 Rb rfl w8 ot dP (tX (A:=[_,_,_]) (S1:=[⟨bv,61,Z*1,flatMap gV I⟩])) ot bq me mg (fun U O MV MW=>?_);refine AD.perm (wU (S2:=[⟨U,3,O*1,flatMap cI ((I[level]'E).l++[i])⟩]) (A:=[_,_,_])) ?_;refine dm 15 rfl (dL 1) ?_;refine AD.one (i:=16) aC ?_;refine bC.storeAt (k:=3) (cs':=flatMap gV (I.set level (⟨(I[level]'E).l++[i],some ⟨U,0,none⟩,O,[⟨U,3,O*1,flatMap cI ((I[level]'E).l++[i])⟩]⟩:dB))) rfl aq rfl rfl ot rfl rfl ot rfl rfl sizeOf61 rfl (by show 0+level*1+1<=(flatMap gV I).length;rw[cm xA];omega) (by rw[Nat.zero_add];exact nX xA I (⟨(I[level]'E).l++[i],some ⟨U,0,none⟩,O,[⟨U,3,O*1,flatMap cI ((I[level]'E).l++[i])⟩]⟩:dB) E) iL ?_
   refine AD.wk (y:=⟨148,[(0,_),(2,_),(3,_),(4,_),(13,_)],(⟨mK,129,5,[_,_,_,_,_]⟩::⟨b,168,4,[_,_,_,_]⟩::_::([⟨bv,61,Z*1,flatMap gV (I.set level (⟨(I[level]'E).l++[i],some ⟨U,0,none⟩,O,[⟨U,3,O*1,flatMap cI ((I[level]'E).l++[i])⟩]⟩:dB))⟩]++([⟨U,3,O*1,flatMap cI ((I[level]'E).l++[i])⟩]++((I.eraseIdx level).flatMap dB.s))))⟩) (Wk.ee rfl rfl fE) rfl ?_;refine AD.done aC ?_;exact⟨rfl,(⟨(I[level]'E).l++[i],some ⟨U,0,none⟩,O,[⟨U,3,O*1,flatMap cI ((I[level]'E).l++[i])⟩]⟩:dB),bJ MV MW,rfl,by rw[length_set];exact Wk.perm (Perm.cons _ (Perm.cons _ (Perm.cons _ ((zc dB.s E (⟨(I[level]'E).l++[i],some ⟨U,0,none⟩,O,[⟨U,3,O*1,flatMap cI ((I[level]'E).l++[i])⟩]⟩:dB)).symm.append_left _))))⟩
  refine nq (cu 0 [_]) [.int .i64 0] [_] zeroValue3 runUnderlying61 sizeOf3 (fun Zo=>?_);refine nQ 0 93 1 1 ?_;refine AD.one (i:=11) aC ?_;refine at_ rfl (dz (mk:=Op.load 61) rfl ot (jj (k:=3) (d:=aT (I[level]'E).ad (I[level]'E).l.length (I[level]'E).cp) (i:=level) xA rfl rfl rfl isAgg61 E rfl)) ?_;refine AD.one (i:=14) aC ?_;refine bC.eG (ls:=(I[level]'E).l) (new:=[i]) (Sq:=(I[level]'E).s) eC mA rfl aq rfl rfl underlying61 Rb rfl w8 ot dP (tX (A:=[_,_,_]) (S1:=[⟨bv,61,Z*1,flatMap gV I⟩])) ot bq me mg (fun U O MV MW=>?_);refine AD.perm (wU (S2:=[⟨U,3,O*1,flatMap cI ((I[level]'E).l++[i])⟩]) (A:=[_,_,_])) ?_;refine dm 15 rfl (dL 1) ?_;refine AD.one (i:=16) aC ?_;refine bC.storeAt (k:=3) (cs':=flatMap gV (I.set level (⟨(I[level]'E).l++[i],some ⟨U,0,none⟩,O,[⟨U,3,O*1,flatMap cI ((I[level]'E).l++[i])⟩]⟩:dB))) rfl aq rfl rfl ot rfl rfl ot rfl rfl sizeOf61 rfl (by show 0+level*1+1<=(flatMap gV I).length;rw[cm xA];omega) (by rw[Nat.zero_add];exact nX xA I (⟨(I[level]'E).l++[i],some ⟨U,0,none⟩,O,[⟨U,3,O*1,flatMap cI ((I[level]'E).l++[i])⟩]⟩:dB) E) iL ?_
  refine AD.wk (y:=⟨148,[(0,_),(2,_),(3,_),(4,_),(13,_)],(⟨mK,129,5,[_,_,_,_,_]⟩::⟨b,168,4,[_,_,_,_]⟩::_::([⟨bv,61,Z*1,flatMap gV (I.set level (⟨(I[level]'E).l++[i],some ⟨U,0,none⟩,O,[⟨U,3,O*1,flatMap cI ((I[level]'E).l++[i])⟩]⟩:dB))⟩]++([⟨U,3,O*1,flatMap cI ((I[level]'E).l++[i])⟩]++((I.eraseIdx level).flatMap dB.s))))⟩) (Wk.ee rfl rfl fE) rfl ?_;refine AD.done aC ?_;exact⟨rfl,(⟨(I[level]'E).l++[i],some ⟨U,0,none⟩,O,[⟨U,3,O*1,flatMap cI ((I[level]'E).l++[i])⟩]⟩:dB),bJ MV MW,rfl,by rw[length_set];exact Wk.perm (Perm.cons _ (Perm.cons _ (Perm.cons _ ((zc dB.s E (⟨(I[level]'E).l++[i],some ⟨U,0,none⟩,O,[⟨U,3,O*1,flatMap cI ((I[level]'E).l++[i])⟩]⟩:dB)).symm.append_left _))))⟩
 rintro _ _ ⟨rfl,o2,q8,GQ,aiM⟩;refine CD.wk aiM ?_;refine af [0,2,3,4,13,97] ?_;refine au ?_ ?_<;>intro cN en
 ·refine af [10] ?_;refine aK (SW t b bm (m++[i]) (I.set level o2) (some ⟨bv,0,none⟩) Z _) ?_;rw[aeh qp oO (by rw[qw];exact cN)];exact⟨rfl,_,_,_,_,bJ (by rw[length_set];exact CV) Ck,UA qM q8,KG Aw E GQ,rfl⟩
 have fT:(t.pg i).leaf=false:=(by rw[qw];exact cN)
 have Gu:n9 t (m++[i],(I.set level o2).map dB.l):=(by rw[KG Aw E GQ];exact GV.add hr qp hlm)
 have ald:=Q8 po (by rw[<-qw];exact fT);have ap1:=(po.node (by rw[<-qw];exact fT)).1;have ap2:=po.ec;have Cl:(t.ag[i.toNat]'aa).high=high:=(by rw[<-qw];exact Classical.byContradiction fun h=>oO (.inl h))
 refine af [0,2,3,4,13,14] ?_;refine af [0,2,3,4,13,14,100,101,102] ?_;refine ew [0,2,3,4,13,100,101] (fun aS _ (aO:Nat×Option Nat×List Int×List dB×Option Addr×Nat×List ah) aE=>match aO with|(k,deep,m2,L2,uU,uB,uV)=>(k<=(t.ag[i.toNat]'aa).kids.length)/\(l6 (fun c lo hi s=>jI t f c lo hi (level+1) s) low (t.ag[i.toNat]'aa) ((t.ag[i.toNat]'aa).kids.drop k) k deep (m2,(L2.map dB.l))=(jI t (f+1) i low high level (m,(L.map dB.l))))/\(Av L2 uU uB uV)/\(∀o∈L2,nv o)/\(n9 t (m2,(L2.map dB.l)))/\(level+1<=m2.length)/\(t.ag.length+1<=f+m2.length)/\((k=0\/deep≠none))/\aE=(⟨148,(14,ae (sM deep))::(102,ae (k:Nat))::aS,(⟨mK,129,5,cP (t.ag[i.toNat]'aa)⟩::⟨b,168,4,[ap 5 cP t.ag,ae t.root,.v (.map (some bm)),aT uU L2.length uB]⟩::lp bm m2::(uV++L2.flatMap dB.s))⟩:St)) (fun (aO:Nat×Option Nat×List Int×List dB×Option Addr×Nat×List ah)=>match aO with|(k,deep,m2,L2,uU,uB,uV)=>(t.ag[i.toNat]'aa).kids.length-k) (0,none,(m++[i]),(I.set level o2),(some ⟨bv,0,none⟩),Z,[⟨bv,61,Z*1,flatMap gV (I.set level o2)⟩]) ⟨(Nat.zero_le _),(by rw[aei qp oO fT,KG Aw E GQ,qw];rfl),(bJ (by rw[length_set];exact CV) Ck),(UA qM q8),Gu,Hr,Hr,(.inl rfl),rfl⟩ ?_;rintro⟨k,deep,m2,L2,uU,uB,uV⟩ _ ⟨hk,D4,Xp,kr,Gu,Xq,ale,hdp,rfl⟩;refine af [0,2,3,4,13,14,100,101,102,103] ?_;refine au ?_ ?_<;>intro dW fB
 ·have eo:k<(t.ag[i.toNat]'aa).kids.length:=(by omega)
  have Bc:=ald _ (getElem_mem eo);have hhk:(iA (t.ag[i.toNat]'aa) k).length<=100:=(by unfold iA;rw[getD_eq_getElem?_getD];rcases Nat.lt_or_ge k (t.ag[i.toNat]'aa).keys.length with q|q;(rw[getElem?_eq_getElem q];exact(po.lI _ (getElem_mem q)).2);(rw[getElem?_eq_none q];exact po.hlen))
  refine af [0,2,3,4,13,14,15,16,100,101,102] ?_;refine af [0,2,3,4,13,14,15,16,17,18,100,101,102] ?_;refine CD.cut (fun aE=>aE=(⟨148,[(0,cY b),(2,ap 1 cB low),(3,ap 1 cB high),(4,ae (level:Nat)),(13,cY mK),(14,ae (sM deep)),(15,ae (k:Nat)),(16,ae ((t.ag[i.toNat]'aa).kids[k]'eo)),(17,.list 1 ((iP low (t.ag[i.toNat]'aa) k).flatMap cB) (iP low (t.ag[i.toNat]'aa) k).length),(18,ap 1 cB high),(100,.list 1 ((t.ag[i.toNat]'aa).kids.flatMap cI) (t.ag[i.toNat]'aa).kids.length),(101,ae ((t.ag[i.toNat]'aa).kids.length:Nat)),(102,ae (k:Nat))],(⟨mK,129,5,cP (t.ag[i.toNat]'aa)⟩::⟨b,168,4,[ap 5 cP t.ag,ae t.root,.v (.map (some bm)),aT uU L2.length uB]⟩::lp bm m2::(uV++L2.flatMap dB.s))⟩:St)) ?_ ?_
  ·refine af [0,2,3,4,13,14,15,16,17,18,100,101,102,110] ?_;refine au ?_ ?_<;>intro fF gM
   ·have e9:iP low (t.ag[i.toNat]'aa) k=(t.ag[i.toNat]'aa).keys[k-1]'w4:=(by unfold iP;rw[if_neg w4,getD_eq_getElem?_getD,getElem?_eq_getElem w4];rfl)
    refine gl [0,2,3,4,13,14,15,16,17,18,100,101,102] ?_;refine aR 4 ?_ (h:=by exact(dL 1 (h:=by first|exact .l (j:=k-1) w4 w4|exact .r (j:=k-1) w4 w4)));refine bA ?_;refine⟨_,(aI (h:=by repeat (first|exact trivial|refine⟨(by (repeat (first|exact fK|(apply gb;focus (first|rfl|(rw[e9];done)|(simp;done)))|(apply fO;focus rfl)));done),?_⟩))),rfl⟩
   have e9:iP low (t.ag[i.toNat]'aa) k=low:=(by unfold iP;rw[if_pos w4])
   refine CD.skip ?_;refine⟨_,(aI (h:=by repeat (first|exact trivial|refine⟨(by (repeat (first|exact fK|(apply gb;focus (first|rfl|(rw[e9];done)|(simp;done)))|(apply fO;focus rfl)));done),?_⟩))),rfl⟩
  rintro _ ⟨rfl⟩;refine CD.cut (fun aE=>aE=(⟨148,[(0,cY b),(2,ap 1 cB low),(3,ap 1 cB high),(4,ae (level:Nat)),(13,cY mK),(14,ae (sM deep)),(16,ae ((t.ag[i.toNat]'aa).kids[k]'eo)),(17,.list 1 ((iP low (t.ag[i.toNat]'aa) k).flatMap cB) (iP low (t.ag[i.toNat]'aa) k).length),(18,.list 1 ((iA (t.ag[i.toNat]'aa) k).flatMap cB) (iA (t.ag[i.toNat]'aa) k).length),(100,.list 1 ((t.ag[i.toNat]'aa).kids.flatMap cI) (t.ag[i.toNat]'aa).kids.length),(101,ae ((t.ag[i.toNat]'aa).kids.length:Nat)),(102,ae (k:Nat))],(⟨mK,129,5,cP (t.ag[i.toNat]'aa)⟩::⟨b,168,4,[ap 5 cP t.ag,ae t.root,.v (.map (some bm)),aT uU L2.length uB]⟩::lp bm m2::(uV++L2.flatMap dB.s))⟩:St)) ?_ ?_
  ·refine af [0,2,3,4,13,14,15,16,17,18,100,101,102,121] ?_;refine au ?_ ?_<;>intro iw oS
   ·have eL:iA (t.ag[i.toNat]'aa) k=(t.ag[i.toNat]'aa).keys[k]'w4:=(by unfold iA;rw[getD_eq_getElem?_getD,getElem?_eq_getElem w4];rfl)
    refine bM [0,2,3,4,13,14,16,17,18,100,101,102] ?_;refine⟨_,(aI (h:=by repeat (first|exact trivial|refine⟨(by (repeat (first|exact fK|(apply gb;focus (first|rfl|(rw[eL];done)|(simp;done)))|(apply fO;focus rfl)));done),?_⟩))),rfl⟩
   have eL:iA (t.ag[i.toNat]'aa) k=high:=(by unfold iA;rw[getD_eq_getElem?_getD,getElem?_eq_none w4];exact Cl)
   refine CD.skip ?_;refine⟨_,(aI (h:=by repeat (first|exact trivial|refine⟨(by (repeat (first|exact fK|(apply gb;focus (first|rfl|(rw[eL];done)|(simp;done)))|(apply fO;focus rfl)));done),?_⟩))),rfl⟩
  rintro _ ⟨rfl⟩;refine aB 5 ?_;refine bN (dR (r:=.int .i64 ((level+1:Nat):Int)) rfl ot bV (kN (by rw[show((level:Nat):Int)+1=((level+1:Nat):Int) from rfl];exact wrap_i64 w4 w4))) ?_;refine OD.call aq rfl rfl rfl call97 (ih ((t.ag[i.toNat]'aa).kids[k]'eo) (iP low (t.ag[i.toNat]'aa) k) (iA (t.ag[i.toNat]'aa) k) (level+1) m2 L2 uU uB uV Bc Gu Xq ale hhk Xp kr) ⟨ot,ot,ot,ot,ot,trivial⟩ (perm_append_singleton _ _).symm ?_;rintro r19 S19 nf;rcases jr:jI t f ((t.ag[i.toNat]'aa).kids[k]'eo) (iP low (t.ag[i.toNat]'aa) k) (iA (t.ag[i.toNat]'aa) k) (level+1) (m2,(L2.map dB.l)) with _|⟨d,m3,lv3⟩
  ·rw[jr] at nf;obtain⟨rfl,rfl⟩:=nf;have aiN:=D4.symm.trans (acv eo jr);refine an 148 [0,2,3,4,13,14,19,100,101,102] ?_;refine aB 3 ?_;refine bZ 136 (fun Cm Le=>?_) (fun Cm Le=>?_)
   ·refine bu [0,2,3,4,13,19,100,101,102,144] ?_;refine eO ?_;refine af [10] ?_;refine aK [] ?_;rw[aiN];exact⟨rfl,rfl⟩
   exact absurd Cm w8
  rw[jr] at nf;obtain⟨rfl,L3,Ig,GW,Ih,Xt,x6,rfl,rfl⟩:=nf;obtain⟨Wf,Gi⟩:=KF hp _ _ _ _ _ _ _ _ Bc Gu Xq jr;have Gi:m2.length<=m3.length:=Gi;refine OD.perm (perm_append_singleton _ _) ?_;refine an 148 [0,2,3,4,13,14,19,100,101,102] ?_;refine aB 3 ?_;refine bZ 136 (fun Cm Le=>?_) (fun Cm Le=>?_)
  ·exact absurd Cm (by intro e;have e:=of_decide_eq_true e;omega)
  refine aH 3 ?_;refine bZ 139 (fun zW ahk=>?_) (fun zW ahk=>?_)
  ·refine bu [0,2,3,4,13,19,100,101,102,144] ?_;refine au ?_ ?_<;>intro iy mF
   ·refine af [10] ?_;refine aK [] ?_;rw[D4.symm.trans (aej eo jr (ael (by simpa using zW) (by simpa using iy)))];exact⟨rfl,rfl⟩
   refine bM [0,2,3,4,13,14,100,101,102] ?_;refine bM [0,2,3,4,13,14,100,101,102] ?_;refine⟨((k+1),(some d),m3,L3,Ig,GW,Ih),_,cn,aI,w4,((Q9 eo jr (by first|exact .inl (Ra (by simpa using zW))|exact .inr (SY (by simpa using zW) (by simpa using iy)))).symm.trans D4),Xt,x6,Wf,w4,w4,(.inr (fun e=>by cases e)),rfl⟩
  refine bu [0,2,3,4,13,19,100,101,102,144] ?_;refine gm ?_;refine bM [0,2,3,4,13,14,100,101,102] ?_;refine bM [0,2,3,4,13,14,100,101,102] ?_;refine⟨((k+1),(some d),m3,L3,Ig,GW,Ih),_,cn,aI,w4,((Q9 eo jr (by first|exact .inl (Ra (by simpa using zW))|exact .inr (SY (by simpa using zW) (by simpa using iy)))).symm.trans D4),Xt,x6,Wf,w4,w4,(.inr (fun e=>by cases e)),rfl⟩
 obtain rfl:k=(t.ag[i.toNat]'aa).kids.length:=(by omega)
 obtain⟨d,rfl⟩:∃d,deep=some d:=(by rcases hdp with h|h;omega;exact Option.ne_none_iff_exists'.1 h)
 refine af [10] ?_;refine aK (SW t b bm m2 L2 uU uB uV) ?_;rw[<-D4,aek (Nat.le_refl _)];exact⟨rfl,L2,uU,uB,uV,Xp,kr,rfl,rfl⟩

end Go.Proofs.YtbplamgacibdaaaGreatDoor.Tw

namespace Go.Proofs.YtbplamgacibdaaaGreatDoor.Tw
open List
open Go.Proofs.Tryz
open Go.RowKit V Go.Proofs.YtbplamgacibdaaaGreatDoor.Tr Pk
theorem KH{G:List (Nat×List Value)}(t:aF)(hp:vm t)(I:t.ag.length<=4000)(b Z:Nat):∀f,We G t b Z f
 | 0=>fun i low high level m L ad cap Sx hr E O U _ _ _=>by have h:m.length<=t.ag.length:=E.oo;exfalso;omega
 | f+1=>fun i low high level m L ad cap Sx hr E O U ZD nl aW=>acy t hp I b Z f (KH t hp I b Z f) i low high level m L ad cap Sx hr E O U ZD nl aW
theorem BV(t:aF):n9 t ([],[]):=⟨nodup_nil,(fun x h=>by cases h),Nat.le_refl _,(fun l h=>by cases h),(fun l h=>by cases h)⟩
theorem KI{t:aF}{e:Int}:∀{l:List Int},fk t l e↔∀k (h:k<l.length),(t.pg l[k]).next=l.getD (k+1) e
  | []=>⟨(fun _ k h=>by cases h),fun _=>trivial⟩
  | [i] => ⟨fun h k hk => by obtain rfl : k=0 := by (simp at hk; exact hk)
                             exact h,fun h=>h 0 bq⟩
  | i::j::r=>by
    show(t.pg i).next=j/\fk t (j::r) e↔_;rw[KI (l:=j::r)];constructor
    · rintro⟨h1,h2⟩ k hk;cases k with
      | zero=>exact h1
      | succ k=>exact h2 k (by simpa using hk)
    intro h;exact⟨h 0 bq,fun k hk=>h (k+1) (by simpa using hk)⟩
theorem Re{p:c8}{n:Int}:Cj p n=true↔eN p n:=by unfold Cj;simp
section
variable {t:aF}
theorem PV(h:t.ag.length<1\/t.ag.length>4000\/t.root<0\/t.root>=t.ag.length):gQ t=11:=by unfold gQ;rw[if_pos h]
theorem aba(h:¬vm t):gQ t=11:=by
 unfold gQ;split
 ·rfl
 first|rfl|rw[if_pos h]
variable {d:Nat} {m:List Int} {lv:List (List Int)}
theorem abb(hw:jI t (t.ag.length+1) t.root [] [] 0 ([],[])=none):gQ t=11:=by
 unfold gQ;split
 ·rfl
 split
 ·rfl
 rw[hw]
theorem acz(hw:jI t (t.ag.length+1) t.root [] [] 0 ([],[])=some (d,m,lv))(h:m.length≠t.ag.length):gQ t=11:=by
 unfold gQ;split
 ·rfl
 split
 ·rfl
 rw[hw];exact if_pos h
open Classical in
theorem acA(hw:jI t (t.ag.length+1) t.root [] [] 0 ([],[])=some (d,m,lv))(h:¬∀l∈lv,fk t l (-1)):gQ t=11:=by
 unfold gQ;split
 ·rfl
 split
 ·rfl
 rw[hw];show(if m.length≠t.ag.length then (11:Int) else if ∀l∈lv,fk t l (-1) then 0 else 11)=11;split
 ·rfl
 first|rfl|rw[if_neg h]
open Classical in
theorem acB(h1:¬(t.ag.length<1\/t.ag.length>4000\/t.root<0\/t.root>=t.ag.length))(h2:vm t)(hw:jI t (t.ag.length+1) t.root [] [] 0 ([],[])=some (d,m,lv))(h3:m.length=t.ag.length)(h:∀l∈lv,fk t l (-1)):gQ t=0:=by
 unfold gQ;rw[if_neg h1,if_neg (fun hn=>hn h2),hw];show(if m.length≠t.ag.length then (11:Int) else if ∀l∈lv,fk t l (-1) then 0 else 11)=0;rw[if_neg (fun hn=>hn h3),if_pos h]
end
def yP(l:List Int):List D:=[ap 1 cI l]
theorem afO(l:List Int):(yP l).length=1:=rfl
theorem UB{S:List ah}:∀{L:List dB},(∀o∈L,nv o)->(∀B∈L.flatMap dB.s,B∈S)->gU S (L.flatMap gV) ((L.map dB.l).flatMap yP)
 | [],_,_=>trivial
 | o::L,h,hs=>by
  rw[map_cons,flatMap_cons,flatMap_cons];refine gU.append ⟨lU (h o mem_cons_self) (cm eC _) (fun B hB=>hs B ?_),trivial⟩ (UB (fun o ho=>h o (mem_cons_of_mem _ ho)) fun B hB=>hs B ?_)
  ·rw[flatMap_cons];exact mem_append_left _ hB
  rw[flatMap_cons];exact mem_append_right _ hB
theorem ahl{Sx:List ah}{L:List dB}{ad:Option Addr}{cap:Nat}{lv:List (List Int)}(ho:Av L ad cap Sx)(h:∀o∈L,nv o)(hm:L.map dB.l=lv):View (Sx++L.flatMap dB.s) (aT ad L.length cap) (ap 1 yP lv):=by
 subst hm;have:=Bn ho (UB (S:=Sx++L.flatMap dB.s) h fun B hB=>mem_append_right _ hB) (cm afO _ |>.trans bq) (fun B hB=>mem_append_left _ hB);first|rw[length_map]|(show View _ _ (.list _ _ (length _));rw[length_map])|(show View _ _ (.agg [.list _ _ (length _)]);rw[length_map])
 exact this
variable {G:List (Nat×List Value)}

theorem pS(t:aF)(hb:∀p∈t.ag,p.keys.length<=maxLen/\p.kids.length<=maxLen):VP Tryz.prog G 51 [.agg (cT t)] (ae (gQ t)):=by
 refine VC.body func51 rfl ntmps51 aU fun X0 w0 bj=>?_;unfold cT;have cR:=dI;refine bS ?_;refine OD.box (ds:=[_,_]) aq rfl rfl ot rfl rfl (fun b1=>?_);refine an 104 [1] ?_;refine aB 5 ?_;refine bZ 15 (fun Cy Z=>?_) (fun Cy Z=>?_)
 ·exact z85
 refine aH 6 ?_;refine bZ 21 (fun qL aiO=>?_) (fun qL aiO=>?_)
 ·exact z85
 refine aH 5 ?_;refine bZ 26 (fun alf LV=>?_) (fun alf LV=>?_)
 ·exact z85
 refine bu [1,33] ?_;refine au ?_ ?_<;>intro aJ bz
 ·refine af [2] ?_;refine eZ ?_;exact⟨vi (PV w4).symm,rfl⟩
 refine af [1,35,36,37] ?_;refine ew [1,35,36] (fun aS _ (i:Nat) aE=>(i<=t.ag.length)/\(∀j (h:j<t.ag.length),j<i->eN t.ag[j] t.ag.length)/\aE=(⟨104,(37,ae (i:Nat))::aS,[⟨b1,66,2,[ap 5 cP t.ag,ae t.root]⟩]⟩:St)) (fun (i:Nat)=>t.ag.length-i) 0 ⟨(Nat.zero_le _),(fun j h h0=>by omega),rfl⟩ ?_;rintro i _ ⟨hi,qw,rfl⟩;refine af [1,35,36,37,38] ?_;refine au ?_ ?_<;>intro aX cr
 ·have aa:i<t.ag.length:=(by omega)
  obtain⟨eo,fI⟩:=hb (t.ag[i]'aa) (getElem_mem aa);refine aB 2 ?_;refine OD.alloc (ds:=[_,_,_,_,_]) aq rfl rfl zeroValue129 rfl (fun b4=>?_);refine aP 0 [_,_,_,_,_] sizeOf129 ?_;refine an 104 [1,4,35,36,37] ?_;refine cL [1,35,36,37,46] (afI (t.ag[i]'aa) (t.ag.length:Nat) eo fI) ?_;refine au ?_ ?_<;>intro bL cJ
  ·have oQ:¬vm t:=fun h=>by have:=Re.2 (h (t.ag[i]'aa) (getElem_mem aa));rw[this] at bL;cases bL
   refine af [2] ?_;refine aK [] ?_;exact⟨vi (aba oQ).symm,rfl⟩
  have alg:eN (t.ag[i]'aa) t.ag.length:=Re.1 (by simpa using bL);refine bM [1,35,36,37] ?_;refine⟨(i+1),_,cn,aI,w4,(fun j h h0=>by rcases Nat.lt_or_ge j i with q|q;exact qw j h q;obtain rfl:j=i:=w4;exact alg),rfl⟩
 have ek:vm t:=fun p h=>by obtain⟨j,hj,rfl⟩:=mem_iff_getElem.1 h;exact qw j hj w4
 have h4:t.ag.length<=4000:=(by omega)
 have E:0<=t.root/\t.root<t.ag.length:=(by omega)
 refine aB 1 ?_;refine OD.ae3 aq rfl rfl (fun O=>?_);refine aH 1 ?_;refine OD.box (ds:=[_,_,_,_]) aq rfl rfl ot rfl rfl (fun qi=>?_);refine an 104 [1,5] ?_;refine CD.seq ?_;refine CD.seq ?_;rcases jr:jI t (t.ag.length+1) t.root [] [] 0 ([],[]) with _|⟨d,m,lv⟩
 ·refine gP 14 (av (drop 2 _)) ?_ (fun _ h=>(Sublist.map _ (drop_sublist _ _)).subset h);refine aD 0 rfl bD ?_;refine aD 1 rfl (dQ 1) ?_;refine aD 2 rfl (dS 2) ?_;refine dM.later rfl ?_;refine AD.one (i:=3) aC ?_;refine bC.call rfl aq rfl rfl rfl call97 (VC.fb (args':=[cY qi,ae t.root,cc,cc,ae 0]) (KH t ek h4 qi O (t.ag.length+1) t.root [] [] 0 [] [] none 0 [] E (BV t) (Nat.le_refl _) (Nat.le_refl _) w8 iR (fun o h=>by cases h)) ⟨.inl rfl,.inl rfl,.inr ⟨1,rfl,rfl⟩,.inr ⟨1,rfl,rfl⟩,.inl rfl,trivial⟩) ⟨ot,ot,bV,bV,bV,trivial⟩ (Perm.refl _) iL ?_;rintro r55 NV nf;rw[show map dB.l []=[] from rfl,jr] at nf;obtain⟨rfl,rfl⟩:=nf;refine dm 4 rfl qn ?_;refine dm 5 rfl bD ?_;refine AD.split (t:=57) lk (fun uy=>?_) (fun uy=>?_)
  ·have Cc:=uy;(try simp only[V.nR,ne_eq] at Cc)
   refine qj 6 rfl ?_;refine qj 7 rfl ?_;refine qj 11 rfl ?_;refine qj 12 rfl ?_;refine qj 13 rfl ?_;refine AD.one (i:=8) aC ?_;refine bC.skip rfl (mT rfl rfl rfl lk jJ) rfl ?_;refine AD.one (i:=9) aC ?_;refine bC.skip rfl (mT rfl rfl rfl lk jJ) rfl ?_;refine AD.one (i:=10) aC ?_;refine bC.skip rfl (mT rfl rfl rfl lk jJ) rfl ?_;refine fm ?_;refine bu [1,5,67] ?_;refine eO ?_;try have I:m.length≠t.ag.length:=by intro e;rw[e] at cN;simp at cN
   refine af [2] ?_;refine eZ ?_;exact⟨vi (abb jr).symm,rfl⟩
  exact absurd uy w8
 refine gP 14 (av (drop 2 _)) ?_ (fun _ h=>(Sublist.map _ (drop_sublist _ _)).subset h);refine aD 0 rfl bD ?_;refine aD 1 rfl (dQ 1) ?_;refine aD 2 rfl (dS 2) ?_;refine dM.later rfl ?_;refine AD.one (i:=3) aC ?_;refine bC.call rfl aq rfl rfl rfl call97 (VC.fb (args':=[cY qi,ae t.root,cc,cc,ae 0]) (KH t ek h4 qi O (t.ag.length+1) t.root [] [] 0 [] [] none 0 [] E (BV t) (Nat.le_refl _) (Nat.le_refl _) w8 iR (fun o h=>by cases h)) ⟨.inl rfl,.inl rfl,.inr ⟨1,rfl,rfl⟩,.inr ⟨1,rfl,rfl⟩,.inl rfl,trivial⟩) ⟨ot,ot,bV,bV,bV,trivial⟩ (Perm.refl _) iL ?_;rintro r55 NV nf;rw[show map dB.l []=[] from rfl,jr] at nf;obtain⟨rfl,L,ad,cap,Sx,nl,aW,Aw,rfl⟩:=nf;refine AD.perm (Perm.cons _ (Perm.cons _ (perm_append_singleton _ _))) ?_;refine dm 4 rfl qn ?_;refine dm 5 rfl bD ?_;refine AD.split (t:=57) lk (fun uy=>?_) (fun uy=>?_)
 ·exact absurd uy (by intro e;have e:=of_decide_eq_true e;omega)
 have Cc:=uy;(try simp only[V.nR,ne_eq] at Cc)
 refine dm 6 rfl bD ?_;refine dm 7 rfl qg ?_;refine dm 11 rfl (dQ 0) ?_;refine dm 12 rfl (dS 2) ?_;refine dm 13 rfl yu ?_;refine AD.one (i:=8) aC ?_;refine at_ rfl (dQ 2) ?_;refine AD.one (i:=9) aC ?_;refine at_ rfl (dS 0) ?_;refine AD.one (i:=10) aC ?_;refine at_ rfl (aaW (i:=1) rfl rfl ot rfl underlying165) ?_;refine fm ?_;refine bu [1,5,67] ?_;refine au ?_ ?_<;>intro cN en
 ·try have I:m.length≠t.ag.length:=by intro e;rw[e] at cN;simp at cN
  refine af [2] ?_;refine eZ ?_;exact⟨vi (acz jr I).symm,rfl⟩
 have I:m.length=t.ag.length:=(by have:=cN;simp at this;omega)
 refine CD.wk (Wk.cover (A:=⟨qi,168,4,[ap 5 cP t.ag,ae t.root,.v (.map (some O)),aT ad L.length cap]⟩) (R:=[lp O m,⟨b1,66,2,[ap 5 cP t.ag,ae t.root]⟩]) (Sd:=Sx++L.flatMap dB.s) (cs':=[ap 5 cP t.ag,ae t.root,.v (.map (some O)),ap 1 yP lv]) (Perm.refl _) ⟨ff,ff,ff,ahl nl aW Aw,trivial⟩) ?_;obtain⟨U,_⟩:=KF ek _ _ _ _ _ _ _ _ E (BV t) (Nat.le_refl _) jr;refine af [1,71,72,73] ?_;refine Y1 (fun (i:Nat) aE=>(i<=lv.length)/\(∀j (_:j<i) (h:j<lv.length),fk t lv[j] (-1))/\aE=(⟨104,[(1,cY b1),(71,ap 1 yP lv),(72,ae (lv.length:Nat)),(73,ae (i:Nat))],[⟨b1,66,2,[ap 5 cP t.ag,ae t.root]⟩]⟩:St)) (fun (i:Nat)=>lv.length-i) 0 ⟨(Nat.zero_le _),(fun j h _=>by omega),rfl⟩ ?_;rintro i _ ⟨lC,Ii,rfl⟩;refine af [1,71,72,73,74] ?_;refine au ?_ ?_<;>intro dW fB
 ·have fI:i<lv.length:=(by omega)
  have DM:∀x∈(lv[i]'fI),0<=x/\x<t.ag.length:=U.el _ (getElem_mem fI);have iG:(lv[i]'fI).length<=m.length:=U.each _ (getElem_mem fI);have Ht:lv.length<=m.length:=U.ec;refine af [1,7,71,72,73] ?_;refine af [1,7,71,72,73,77,78,79] ?_;refine Y1 (fun (k:Nat) aE=>(k<=(lv[i]'fI).length)/\(∀j (_:j<k) (h:j<(lv[i]'fI).length),(t.pg (lv[i]'fI)[j]).next=(lv[i]'fI).getD (j+1) (-1))/\aE=(⟨104,[(1,cY b1),(7,.list 1 ((lv[i]'fI).flatMap cI) (lv[i]'fI).length),(71,ap 1 yP lv),(72,ae (lv.length:Nat)),(73,ae (i:Nat)),(77,.list 1 ((lv[i]'fI).flatMap cI) (lv[i]'fI).length),(78,ae ((lv[i]'fI).length:Nat)),(79,ae (k:Nat))],[⟨b1,66,2,[ap 5 cP t.ag,ae t.root]⟩]⟩:St)) (fun (k:Nat)=>(lv[i]'fI).length-k) 0 ⟨(Nat.zero_le _),(fun j h _=>by omega),rfl⟩ ?_;rintro k _ ⟨hk,hn,rfl⟩;refine af [1,7,71,72,73,77,78,79,80] ?_;refine au ?_ ?_<;>intro fF gM
  ·have eo:k<(lv[i]'fI).length:=(by omega)
   have OX:=DM _ (getElem_mem eo);have gi:((lv[i]'fI)[k]'eo).toNat<t.ag.length:=(by omega)
   have ZE:t.pg ((lv[i]'fI)[k]'eo)=t.ag[((lv[i]'fI)[k]'eo).toNat]'gi:=vD OX;refine af [1,7,8,9,71,72,73,77,78,79] ?_;refine af [1,7,8,9,10,71,72,73,77,78,79] ?_;refine CD.cut (fun aE=>aE=(⟨104,[(1,cY b1),(7,.list 1 ((lv[i]'fI).flatMap cI) (lv[i]'fI).length),(9,ae ((lv[i]'fI)[k]'eo)),(10,ae ((lv[i]'fI).getD (k+1) (-1))),(71,ap 1 yP lv),(72,ae (lv.length:Nat)),(73,ae (i:Nat)),(77,.list 1 ((lv[i]'fI).flatMap cI) (lv[i]'fI).length),(78,ae ((lv[i]'fI).length:Nat)),(79,ae (k:Nat))],[⟨b1,66,2,[ap 5 cP t.ag,ae t.root]⟩]⟩:St)) ?_ ?_
   ·refine af [1,7,8,9,10,71,72,73,77,78,79,88] ?_;refine au ?_ ?_<;>intro iw oS
    ·have iW:(lv[i]'fI).getD (k+1) (-1)=(lv[i]'fI)[k+1]'w4:=(by rw[getD_eq_getElem?_getD,getElem?_eq_getElem w4];rfl)
     refine gl [1,7,9,10,71,72,73,77,78,79] ?_;refine aR 3 ?_ (h:=by exact(dL 1 (h:=by first|exact .l (j:=k+1) w4 w4|exact .r (j:=k+1) w4 w4)));refine bA ?_;exact Wy
    have iW:(lv[i]'fI).getD (k+1) (-1) = -1:=(by rw[getD_eq_getElem?_getD,getElem?_eq_none w4];rfl)
    refine CD.skip ?_;exact Wy
   rintro _ ⟨rfl⟩;refine cz [1,7,71,72,73,77,78,79,101] ?_;refine aR 3 ?_ (h:=by exact(dL 5 (h:=by first|exact .l (j:=((lv[i]'fI)[k]'eo).toNat) (Int.toNat_of_nonneg OX.1).symm gi|exact .r (j:=((lv[i]'fI)[k]'eo).toNat) (Int.toNat_of_nonneg OX.1).symm gi)));refine bA ?_;refine au ?_ ?_<;>intro iy mF
   ·have oQ:¬∀l∈lv,fk t l (-1):=fun h=>by have:=KI.1 (h (lv[i]'fI) (getElem_mem fI)) k eo;rw[ZE] at this;simp[this] at iy
    refine af [2] ?_;refine aK [] ?_;exact⟨vi (acA jr oQ).symm,rfl⟩
   have oB:(t.pg ((lv[i]'fI)[k]'eo)).next=(lv[i]'fI).getD (k+1) (-1):=(by rw[ZE];simpa using iy)
   refine bM [1,7,71,72,73,77,78,79] ?_;refine⟨(k+1),_,cn,aI,w4,(fun j h0 h=>by rcases Nat.lt_or_ge j k with q|q;exact hn j q h;obtain rfl:j=k:=w4;exact oB),rfl⟩
  have alh:fk t (lv[i]'fI) (-1):=KI.2 fun j hj=>hn j w4 hj;refine bM [1,71,72,73] ?_;refine⟨(i+1),_,cn,aI,w4,(fun j h0 h=>by rcases Nat.lt_or_ge j i with q|q;exact Ii j q h;obtain rfl:j=i:=w4;exact alh),rfl⟩
 have j6:i=lv.length:=(by omega)
 refine af [2] ?_;refine aK [] ?_;exact⟨vi (acB w4 ek jr I fun l hl=>by obtain⟨j,hj,rfl⟩:=mem_iff_getElem.1 hl;exact Ii j w4 hj).symm,rfl⟩

end Go.Proofs.YtbplamgacibdaaaGreatDoor.Tw

namespace Go.Proofs.YtbplamgacibdaaaGreatDoor.Tw
open List
open Go.Proofs.Tryz
open Go.RowKit V Tr Pk
variable {t:aF} {k:K}
noncomputable def lJ(t:aF)(k:K):Int:=if gQ t=0 then (if oT k=true then 0 else 1) else gQ t
theorem Fc(h:¬gQ t=0):lJ t k=gQ t:=by unfold lJ;rw[if_neg h]
theorem ER(h:gQ t=0)(hk:oT k=false):lJ t k=1:=by unfold lJ;rw[if_pos h,hk];rfl
theorem J8(h:gQ t=0)(hk:oT k=true):lJ t k=0:=by unfold lJ;rw[if_pos h,hk];rfl
def dY(t:aF)(k:K)(h:Nat):Int:=(t.pg (aL t k h t.root)).kids.getD (aQ (t.pg (aL t k h t.root)) k) 0
noncomputable def findF(t:aF)(k:K)(h:Nat):Int×Int:=if lJ t k=0 then (if gS t k h=true then (dY t k h,0) else (0,8)) else (0,lJ t k)
theorem aem{h:Nat}(v:Valid t h):∀p∈t.ag,p.keys.length<=maxLen/\p.kids.length<=maxLen:=fun p hp=>by
 have po:=v.fM p hp;have cR:=dI;have h1:=po.ec;cases hl:p.leaf with
 | true=>have:=po.leaf hl;omega
 | false=>have:=(po.node hl).1;omega
theorem EL{h:Nat}(v:Valid t h)(k:K):(jv t k h t.root).length<=1000000:=by
 rw[Fq];have:=v.high;have:=v.oo;omega
theorem JR(h:oT k=true):0<k.length/\k.length<=100:=of_decide_eq_true h
variable {G:List (Nat×List Value)}
theorem IM(t:aF)(k:K)(hb:∀p∈t.ag,p.keys.length<=maxLen/\p.kids.length<=maxLen):VP Tryz.prog G 66 [.agg (cT t),ap 1 cB k] (ae (lJ t k)):=by
 refine VC.body func66 rfl ntmps66 aU fun X0 w0 bj=>?_;have fw:=pS (G:=G) t hb;unfold cT at fw;unfold cT;refine bS ?_;refine OD.box (ds:=[_,_]) aq rfl rfl ot rfl rfl (fun b2=>?_);refine an 14 [1,2] ?_;refine cL [1,5] (fw) ?_;refine af [1,5,9] ?_;refine au ?_ ?_<;>intro aJ bz
 ·have hn:¬gQ t=0:=(by simpa using aJ)
  exact WA
 have hz:gQ t=0:=(by simpa using aJ)
 refine cL [13] (xz k) ?_;refine au ?_ ?_<;>intro aX cr
 ·exact WA
 refine af [4] ?_;refine aK [] ?_;first|exact⟨vi (Fc hn).symm,rfl⟩|exact⟨vi (ER hz v8).symm,rfl⟩|exact⟨vi (J8 hz v8).symm,rfl⟩
theorem ahm(t:aF)(h:Nat)(k:K)(hb:∀p∈t.ag,p.keys.length<=maxLen/\p.kids.length<=maxLen)(hv:gQ t=0->Valid t h):VP Tryz.prog G 63 [.agg (cT t),ap 1 cB k] (.da [ae (findF t k h).1,ae (findF t k h).2]):=by
 refine VC.body func63 rfl ntmps63 aU fun X0 w0 bj=>?_;have fw:=IM (G:=G) t k hb;unfold cT at fw;unfold cT;have cR:=dI;refine bS ?_;refine OD.box (ds:=[_,_]) aq rfl rfl ot rfl rfl (fun b2=>?_);refine an 34 [1,2] ?_;refine cL [1,2,6] (fw) ?_;refine af [1,2,6,14] ?_;refine au ?_ ?_<;>intro aJ bz
 ·have hn:¬lJ t k=0:=(by simpa using aJ)
  refine af [4,5] ?_;refine aK [] ?_;exact⟨by unfold findF;rw[if_neg hn],rfl⟩
 have hz:lJ t k=0:=(by simpa using aJ)
 have hc:gQ t=0:=Classical.byContradiction fun e=>by rw[Fc e] at hz;exact e hz
 have U:oT k=true:=(by cases hq:oT k with|true=>rfl|false=>rw[ER hc hq] at hz;cases hz)
 have v:=hv hc;have eo:=JR U;have eY:=pU (G:=G) t h v k w4 (EL v k);unfold cT at eY;obtain⟨q1,E⟩:=v.leaf k;have aa:(aL t k h t.root).toNat<t.ag.length:=(by omega)
 have I:t.pg (aL t k h t.root)=(t.ag[(aL t k h t.root).toNat]'aa):=vD q1;refine cL [2,7,8,9] (eY) ?_;refine af [2,7,8,24] ?_;refine au ?_ ?_<;>intro aX cr
 ·have gG:gS t k h=false:=(by simpa using aX)
  refine af [4,5] ?_;refine aK [] ?_;exact⟨by unfold findF;rw[if_pos hz,if_neg yh],rfl⟩
 have gG:gS t k h=true:=(by simpa using aX)
 obtain⟨ha,OF⟩:=(EK v k).1 gG;have po:=v.fM _ (jV q1);have hle:=po.leaf E;have O:aQ (t.pg (aL t k h t.root)) k<(t.pg (aL t k h t.root)).kids.length:=(by omega)
 have Z:aQ (t.ag[(aL t k h t.root).toNat]'aa) k<(t.ag[(aL t k h t.root).toNat]'aa).kids.length:=(by rw[<-I];exact O)
 rw[I];refine cz [4,5] ?_;refine aR 3 ?_ (h:=by exact(dL 5 (h:=by first|exact .l (j:=(aL t k h t.root).toNat) (Int.toNat_of_nonneg q1.1).symm aa|exact .r (j:=(aL t k h t.root).toNat) (Int.toNat_of_nonneg q1.1).symm aa)));refine bA ?_;refine aK [] ?_;exact⟨by unfold findF dY;rw[if_pos hz,if_pos gG,I,uc Z],rfl⟩
theorem acC{S:List ah}:gU S [bP true,cc,cc,cc,ae (-1)] (cP (⟨true,[],[],[],-1⟩:c8)):=⟨ff,ze,ze,ze,ff,trivial⟩
theorem ahn(E:True):VC Tryz.prog G 38 [] [] (fun r S=>∃b,r = .agg [aT (some ⟨b,0,none⟩) 1 1,ae 0]/\S=[⟨b,129,5,[bP true,cc,cc,cc,ae (-1)]⟩]):=by
 refine VC.body func38 rfl ntmps38 aU fun X0 w0 bj=>?_;refine bS ?_;refine OD.alloc (ds:=[_,_]) aq rfl rfl zeroValue66 rfl (fun b0=>?_);refine an 4 [0] ?_;refine aB 1 ?_;refine ey (cu 0 [_]) [.bool false,.slice none 0 0,.slice none 0 0,.slice none 0 0,.int .i64 0] [_,_,_,_,_] zeroValue129 runUnderlying64 sizeOf129 (fun b2=>?_);refine aH 1 ?_;refine aP 1 [_,_] sizeOf66 ?_;refine an 4 [0] ?_;refine aK [_] ?_;exact⟨_,rfl,rfl⟩
theorem Vx:VP Tryz.prog G 38 [] (.agg (cT nL)):=VC.cover (ahn trivial) fun r S ⟨b,hr,hS⟩=>by
 subst hr;subst hS;exact vc ⟨QE (cs:=[bP true,cc,cc,cc,ae (-1)]) (e:=129) (size:=5) mem_cons_self acC rfl (Nat.le_refl _) w8,ff,trivial⟩

end Go.Proofs.YtbplamgacibdaaaGreatDoor.Tw
namespace Go.Proofs.YtbplamgacibdaaaGreatDoor.Tr
open List
open Go.Proofs.Tryz
open Go.Lib (compareBytes)
variable {t:aF} {k:K} {row:Int}
variable {h m:Nat} {u:aF} {up:K}
def dr(t:aF)(k:K):Nat->Int->Nat->Int
 | 0,i,_=>i
 | h+1,i,m=>if m=h+1 then i else dr t k h ((t.pg i).kids.getD (aQ (t.pg i) k) 0) m
theorem Je:∀(h:Nat) (i:Int),dr t k h i h=i
 | 0,_=>rfl
 | h+1,i=>by rw[dr,if_pos rfl]
theorem Bm:∀{h:Nat} {i:Int} {m:Nat},m<h->dr t k h i m=(t.pg (dr t k h i (m+1))).kids.getD (aQ (t.pg (dr t k h i (m+1))) k) 0
 | 0,_,_,hm=>by omega
 | h+1,i,m,hm=>by
  rw[dr,if_neg w4,dr];by_cases e:m=h
  ·subst e;rw[Je,if_pos rfl]
  rw[if_neg w4];exact Bm w4
theorem Rf:∀{h:Nat} {i:Int} {m:Nat},m<=h->(jv t k h i)[h-m]?=some (dr t k h i m)
 | 0,i,m,_=>by
  obtain rfl:m=0:=(by omega)
  rfl
 | h+1,i,m,hm=>by
  rw[jv,dr];by_cases e:m=h+1
  ·subst e;rw[if_pos rfl,Nat.sub_self];rfl
  rw[if_neg e,show h+1-m=(h-m)+1 from by omega,getElem?_cons_succ];exact Rf w4
theorem Fs{n:Int}(hp:∀p∈t.ag,eN p n):∀{h:Nat} {i:Int} {low high:K},dX t h i low high->(ids t h i).Nodup->lT low high k->(∀x∈eA t h i,x.1≠k)->∀m,m<=h ->
  ∃lo hi,dX t m (dr t k h i m) lo hi/\(ids t m (dr t k h i m)).Nodup/\lT lo hi k/\∀x∈eA t m (dr t k h i m),x.1≠k
 | 0,i,low,high,ok,nd,hk,hn,m,hm=>by
  obtain rfl:m=0:=(by omega)
  exact⟨low,high,ok,nd,hk,hn⟩
 | h+1,i,low,high,ok,nd,hk,hn,m,hm=>by
  by_cases e:m=h+1
  ·subst e;rw[Je];exact⟨low,high,ok,nd,hk,hn⟩
  obtain⟨q1,q2,E,O,I⟩:=id ok;have po:=hp _ (jV q1);obtain⟨d1,d2⟩:=down po q2 E hk;have:=Fs hp (I _ d1) (wQ d1 nd).1 d2 (fun x hx=>hn x NG) m w4;rw[<-uc d1] at this;rw[dr,if_neg e];exact this
structure aho (u:aF) (i:Int) (up:K) (aA:Int):Prop where
 fM:∀p∈u.ag,eN p u.ag.length
 rg:0<=i/\i<u.ag.length
 out:up∉(u.pg i).keys
 len:1<=up.length/\up.length<=100
 high:(u.pg i).high≠[]->bG up (u.pg i).high
 nn:0<=aA
 nnl:(u.pg i).leaf=false->aA<u.ag.length
def kR(t:aF)(k:K)(row:Int)(h m:Nat):aF×Option (K×Int):=if m=0 then (t,some (k,row)) else fu t k row (m-1) (dr t k h t.root (m-1))
theorem SZ(h:Nat):kR t k row h (h+1)=fu t k row h t.root:=by unfold kR;rw[if_neg w4,Nat.add_sub_cancel,Je]
theorem Rg(hm:m<=h){aA:Int}(e:kR t k row h m=(u,some (up,aA))):kR t k row h (m+1)=rL u (dr t k h t.root m) up aA:=by
 unfold kR at e |-;rw[if_neg w4,Nat.add_sub_cancel];cases m with
 | zero=>rw[if_pos rfl] at e;injection e with e1 e2;injection e2 with e2;injection e2 with e2 E;subst e1 e2 E;rw[fu]
 | succ m=>rw[if_neg w4,Nat.add_sub_cancel,Bm w4] at e;rw[fu,e]
theorem acD(h0:0<m)(hm:m<=h)(e:kR t k row h m=(u,none)):kR t k row h (m+1)=(u,none):=by
 unfold kR at e |-;rw[if_neg w4,Nat.add_sub_cancel];cases m with
 | zero=>omega
 | succ m=>rw[if_neg w4,Nat.add_sub_cancel,Bm w4] at e;rw[fu,e]
theorem Rh{h:Nat}{u:aF}:∀(d m:Nat),m+d=h+1->0<m->kR t k row h m=(u,none)->fu t k row h t.root=(u,none)
 | 0,m,hm,_,e=>by
  obtain rfl:m=h+1:=(by omega)
  rw[<-SZ];exact e
 | d+1,m,hm,h0,e=>Rh d (m+1) w4 w4 (acD h0 w4 e)
theorem S4(v:Valid t h)(hn:∀x∈lu t h,x.1≠k)(hl:1<=k.length/\k.length<=100)(hr:0<=row)(hm:m<=h):∃lo hi,dX t m (dr t k h t.root m) lo hi/\lT lo hi k/\pc t (fu t k row m (dr t k h t.root m)).1 m (dr t k h t.root m) lo hi k row (fu t k row m (dr t k h t.root m)).2:=by
 obtain⟨lo,hi,ok,nd,hk,hne⟩:=Fs v.fM v.ok v.Au (uk k) hn m hm;exact⟨lo,hi,ok,hk,F6 v.fM ok nd hk hne hl hr⟩
theorem Jf(v:Valid t h)(hn:∀x∈lu t h,x.1≠k)(hl:1<=k.length/\k.length<=100)(hr:0<=row)(hm:m<=h+1){r:Option (K×Int)}(e:kR t k row h m=(u,r)):u.root=t.root/\u.ag.length<=t.ag.length+m/\t.ag.length<=u.ag.length/\∀p∈u.ag,eN p u.ag.length:=by
 unfold kR at e;cases m with
 | zero=>rw[if_pos rfl] at e;injection e with e1 e2;subst e1;exact⟨rfl,Nat.le_refl _,Nat.le_refl _,v.fM⟩
 | succ m =>
  rw[if_neg w4,Nat.add_sub_cancel] at e;obtain⟨lo,hi,_,_,I⟩:=S4 v hn hl hr (m:=m) w4;rw[e] at I;exact⟨I.root,I.more,I.le,I.fM⟩
theorem afP(v:Valid t h)(hn:∀x∈lu t h,x.1≠k)(hl:1<=k.length/\k.length<=100)(hr:0<=row)(hm:m<=h+1){aA:Int}(e:kR t k row h m=(u,some (up,aA))):up.length<=100:=by
 unfold kR at e;cases m with
 | zero=>rw[if_pos rfl] at e;injection e with e1 e2;injection e2 with e2;injection e2 with e2 E;subst e2;exact hl.2
 | succ m =>
  rw[if_neg w4,Nat.add_sub_cancel] at e;obtain⟨lo,hi,_,_,I⟩:=S4 v hn hl hr (m:=m) w4;rw[e] at I;exact I.ok.1.2
theorem afQ(v:Valid t h)(hn:∀x∈lu t h,x.1≠k)(hl:1<=k.length/\k.length<=100)(hr:0<=row)(hm:m<=h){aA:Int}(e:kR t k row h m=(u,some (up,aA))):aho u (dr t k h t.root m) up aA:=by
 cases m with
 | zero =>
  unfold kR at e;rw[if_pos rfl] at e;injection e with e1 e2;injection e2 with e2;injection e2 with e2 Z;subst e1 e2 Z
  obtain⟨lo,hi,⟨q1,q2,O,q4⟩,nd,hk,hne⟩:=Fs v.fM v.ok v.Au (uk k) hn 0 hm;refine⟨v.fM,q1,fun hm=>?_,hl,fun E=>?_,hr,fun h=>by rw[q2] at h;cases h⟩
  ·have po:=v.fM _ (jV q1);have hlen:=po.leaf q2;obtain⟨a,ha,he⟩:=mem_iff_getElem.1 hm;exact hne (k,(t.pg (dr t k h t.root 0)).kids[a]'w4) ((Bq hlen).2 ⟨a,ha,by rw[he]⟩) rfl
  rw[O] at E |-;exact hk.2 E
 | succ m =>
  obtain⟨s1,s2,s3,s4⟩:=Jf v hn hl hr w4 e;unfold kR at e;rw[if_neg w4,Nat.add_sub_cancel] at e;obtain⟨lo,hi,ok,nd,hk,hne⟩:=Fs v.fM v.ok v.Au (uk k) hn (m+1) hm;obtain⟨q1,q2,O,q4,q5⟩:=id ok;have po:=v.fM _ (jV q1);obtain⟨d1,d2⟩:=down po q2 O hk;have ih:=F6 (row:=row) v.fM (q5 _ d1) (wQ d1 nd).1 d2 (fun x hx=>hne x NG) hl hr;rw[<-uc d1,<-Bm w4,e,Bm w4] at ih;have M:jP t u m (dr t k h t.root (m+1)) lo hi (aQ (t.pg (dr t k h t.root (m+1))) k) k row (some (up,aA)):=⟨v.fM,ok,nd,d1,d2,ih⟩
  obtain⟨m1,m2,m3,m4⟩:=M.place;have U:=M.same;obtain⟨o1,o2,o3,o4,o5⟩:(1<=up.length/\up.length<=100)/\_/\_/\_/\dX u m aA up _:=ih.ok;have I:=o5.idx;refine⟨s4,⟨q1.1,by omega⟩,by rw[U];exact m2,o1,fun E=>?_,I.1,fun _=>I.2⟩;rw[U,O] at E |-;exact m3.2 E

end Go.Proofs.YtbplamgacibdaaaGreatDoor.Tr
namespace Go.Proofs.YtbplamgacibdaaaGreatDoor.Tr
open List
open Go.Proofs.Tryz
open Go.Lib (compareBytes)
variable {t:aF} {h:Nat} {k:K}
variable {i:Int}
noncomputable def nG(t:aF)(h:Nat)(k:K):List (K×Int):=(lu t h).filter fun x=>decide (¬bG x.1 k)
def ju(t:aF)(ls:List Int):List (K×Int):=ls.flatMap fun l=>fi (t.pg l)
theorem fk.tail{r:List Int}{e:Int}(h:fk t (i::r) e):fk t r e:=by
 cases r with
 | nil=>trivial
 | cons j r=>exact h.2
theorem fk.next{i:Int}{r:List Int}{e:Int}(h:fk t (i::r) e):(t.pg i).next=r.headD e:=by
 cases r with
 | nil=>exact h
 | cons j r=>exact h.1
theorem fk.drop{e:Int}:∀{a b:List Int},fk t (a++b) e->fk t b e
 | [],_,h=>h
 | i::a,b,h=>fk.drop (a:=a) (fk.tail h)
theorem S5:∀{h:Nat} {i:Int} {low high:K},dX t h i low high->∀l∈cH t h i,(0<=l/\l<t.ag.length)/\(t.pg l).leaf=true
 | 0,i,low,high,ok,l,hl=>by
  rw[cH,mem_singleton] at hl;subst hl;exact⟨ok.1,ok.2.1⟩
 | h+1,i,low,high,ok,l,hl=>by
  obtain⟨q1,q2,I,O,E⟩:=ok;rw[cH] at hl;obtain⟨c,hc,hl⟩:=mem_flatMap.1 hl;obtain⟨j,hj,rfl⟩:=mem_iff_getElem.1 hc;exact S5 (E j hj) l hl
structure rF (t:aF) (ls:List Int):Prop where
 pM:fk t ls (-1)
 at_:∀l∈ls,(0<=l/\l<t.ag.length)/\(t.pg l).leaf=true
theorem rF.tail{i:Int}{r:List Int}(h:rF t (i::r)):rF t r:=⟨fk.tail h.pM,fun l hl=>h.at_ l (mem_cons_of_mem _ hl)⟩
theorem rF.head{ls:List Int}(h:rF t ls):(0<=ls.headD (-1)->∃r,ls=ls.headD (-1)::r)/\(ls.headD (-1)<0->ls=[]):=by
 cases ls with
 | nil=>exact⟨fun h=>by simp at h,fun _=>rfl⟩
 | cons i r=>exact⟨fun _=>⟨r,rfl⟩,fun h0=>by have:=(h.at_ i mem_cons_self).1;simp at h0;omega⟩
theorem Qp(v:Valid t h):rF t (cH t h t.root):=⟨v.pM h (Nat.le_refl _),S5 v.ok⟩
theorem E3(v:Valid t h){l:Int}(hl:(0<=l/\l<t.ag.length)/\(t.pg l).leaf=true):(fi (t.pg l)).length=(t.pg l).keys.length:=by
 have:=(v.fM _ (jV hl.1)).leaf hl.2;unfold fi;rw[length_zip];omega
theorem abc(v:Valid t h)(k:K):∃r,rF t (aL t k h t.root::r)/\nG t h k=(ju t (aL t k h t.root::r)).drop (aQ (t.pg (aL t k h t.root)) k)/\aQ (t.pg (aL t k h t.root)) k<=(t.pg (aL t k h t.root)).keys.length:=by
 obtain⟨pre,post,e,he⟩:=ace v.fM v.ok (uk k);have hL:=Qp v;have hl:=v.leaf k;have fx:aQ (t.pg (aL t k h t.root)) k<=(t.pg (aL t k h t.root)).keys.length:=by
  unfold aQ;split
  ·exact zj _ _
  exact BD _ _
 rw[e] at hL;refine⟨post,⟨fk.drop hL.pM,fun l hl=>hL.at_ l (mem_append_right _ hl)⟩,?_,fx⟩;unfold nG lu;rw[he];unfold ju;rw[flatMap_cons,drop_append_of_le_length (by rw[E3 v hl];exact fx)]
theorem acE(v:Valid t h){r:List Int}(hL:rF t (i::r)){a:Nat}(ha:a<(t.pg i).keys.length)(hk:a<(t.pg i).kids.length) :
  (ju t (i::r)).drop a=((t.pg i).keys[a],(t.pg i).kids[a])::(ju t (i::r)).drop (a+1):=by
 have hi:=hL.at_ i mem_cons_self;have hlen:=E3 v hi;have h1:a<(ju t (i::r)).length:=(by unfold ju;rw[flatMap_cons,length_append];omega)
 rw[drop_eq_getElem_cons h1];congr 1;unfold ju;simp only[flatMap_cons];rw[getElem_append_left w4];unfold fi;rw[getElem_zip]
theorem abd(v:Valid t h){r:List Int}(hL:rF t (i::r)){a:Nat}(ha:a=(t.pg i).keys.length):(ju t (i::r)).drop a=(ju t r).drop 0:=by
 have hi:=hL.at_ i mem_cons_self;have hlen:=E3 v hi;unfold ju;rw[flatMap_cons,drop_zero,drop_append_of_le_length w4,drop_eq_nil_of_le w4];rfl
theorem aen(v:Valid t h):lu t h=ju t (cH t h t.root):=wY t h t.root
theorem y7(v:Valid t h):(lu t h).Pairwise fun x y=>bG x.1 y.1:=(KB v.fM v.ok).1
theorem acF(v:Valid t h)(k:K):(nG t h k).Pairwise fun x y=>bG x.1 y.1:=(y7 v).filter _
theorem aeo(t:aF)(h:Nat):nG t h []=lu t h:=by
 unfold nG;rw[filter_eq_self.2];intro x _;simpa using La x.1
theorem aep(v:Valid t h):(lu t h).length<=4*t.ag.length:=by
 have key:∀(ls:List Int),(∀l∈ls,(0<=l/\l<t.ag.length)/\(t.pg l).leaf=true)->(ju t ls).length<=4*ls.length:=by
  intro ls;induction ls with
  | nil=>intro _;simp[ju]
  | cons i r ih =>
   intro hl;have h1:=E3 v (hl i mem_cons_self);have h2:=(v.fM _ (jV (hl i mem_cons_self).1)).ec;have h3:=ih fun l E=>hl l (mem_cons_of_mem _ E);unfold ju at h3 |-;rw[flatMap_cons,length_append,length_cons];omega
 have I:(cH t h t.root).length<=(ids t h t.root).length:=by
  have:∀(h:Nat) (i:Int),(cH t h i).length<=(ids t h i).length:=by
   intro h;induction h with
   | zero=>intro i;simp[cH,ids]
   | succ h ih =>
    intro i;rw[cH,ids,length_cons,length_flatMap,length_flatMap];have:∀(l:List Int),(l.map fun a=>(cH t h a).length).sum<=(l.map fun a=>(ids t h a).length).sum:=by
     intro l;induction l with
     | nil=>simp
     | cons a l O=>simp only[map_cons,sum_cons];have:=ih a;omega
    have:=this (t.pg i).kids;omega
  exact this h t.root
 rw[aen v];have:=key _ (Qp v).at_;rw[v.all] at I;omega
theorem S6(v:Valid t h)(k:K):(nG t h k).length<=16000:=by
 have:=aep v;have h1:=v.oo;have:(nG t h k).length<=(lu t h).length:=(filter_sublist).length_le;omega

end Go.Proofs.YtbplamgacibdaaaGreatDoor.Tr
namespace Go.Proofs.YtbplamgacibdaaaGreatDoor.Tw
open List
open Go.Proofs.Tryz
open Go.RowKit V Tr Pk
def cE(e:K×Int):List D:=[ap 1 cB e.1,ae e.2]
theorem Vb(e:K×Int):(cE e).length=2:=rfl
def GX(e:K×Int):List D:=[.agg (cE e)]
theorem ahp(b:UInt8):fS (cB b)=true:=rfl
theorem zE(k:K):fS (k.flatMap cB)=true:=vl ahp k
theorem zF(e:K×Int):fS (cE e)=true:=by simp[cE,fS,jb,zE]
theorem aeq(e:K×Int):fS (GX e)=true:=by simp[GX,fS,jb,zF]
def LW(t:aF)(k:K):List D:=[.fL [ap 5 cP t.ag,ae t.root] 0,.fL [ap 1 cB k] 0]
variable {G:List (Nat×List Value)}
theorem r9 : ∀ w, ((#[{ name := "Key", type := 86, offset := 0, embedded := false, tag := "", pkgPath := "", byteOffset := 0 }, { name := "Row", type := 3, offset := 1, embedded := false, tag := "", pkgPath := "", byteOffset := 24 }] : Array Field).mapM fun f => do pure (f.offset, ← sizeOf f.type) : Sem (Array (Nat × Nat))).run Tryz.prog w = .ok #[(0, 1), (1, 1)] w := fun w => by simp [sizeOf3, sizeOf86]
theorem aer(t:aF)(h:Nat)(v:Valid t h)(k:K)(eo:k.length<=maxLen):VI Tryz.prog G 98 (LW t k) GX (fun xs=>xs=nG t h k) (fun pre=>pre <+: nG t h k) (nG t h k).length:=by
 refine VI.body func98 rfl ntmps98 aU fun Y X0 w0 bj Sc0 hYe hYN O hY hJ0=>?_;have cR:=dI;have eY:=pU (G:=G) t h v k w4 (EL v k);unfold cT at eY;obtain⟨r0,hL0,ali,Xj⟩:=abc v k;obtain⟨y1,y2,y3⟩:=(by exact⟨hYe,hYN,O⟩:Y.enc=GX/\Y.N=(nG t h k).length/\w0.heap.size<=Y.l)
 refine cL [0,1,4,5] (eY) ?_;refine CD.block ?_;refine nu (fun (aO:List Int×Nat×List (K×Int)×List ah) aE=>match aO with|(ls,a,pre,Sc)=>(rF t ls)/\(nG t h k=pre++(ju t ls).drop a)/\((∀x∈head? ls,a<=(t.pg x).keys.length))/\(Y.J pre Sc)/\aE=(⟨46,[(0,.kJ Y.l Y.os),(1,.fL [ap 5 cP t.ag,ae t.root] 0),(4,ae (headD ls (-1))),(5,ae (a:Nat))],Sc⟩:St)) (fun (aO:List Int×Nat×List (K×Int)×List ah)=>match aO with|(ls,a,pre,Sc)=>length ls) ((aL t k h t.root::r0),(aQ (t.pg (aL t k h t.root)) k),[],Sc0) ⟨hL0,(by rw[nil_append];exact ali),(fun x hx=>by simp at hx;subst hx;exact Xj),hJ0,rfl⟩ (aI (h:=by repeat (first|exact trivial|refine⟨(by (repeat (first|exact fK|(apply gb;focus (first|rfl|(simp;done)|(rw[<-iv,fk.next hL.pM])))|(apply fO;focus rfl)));done),?_⟩))) ?_;rintro⟨ls,a,pre,Sc⟩ _ ⟨hL,NM,fx,hj,rfl⟩;refine af [0,1,4,5,16] ?_;refine au ?_ ?_<;>intro aJ bz
 ·have OQ:0<=headD ls (-1):=(by simpa using aJ)
  obtain⟨r,hr⟩:=(rF.head hL).1 OQ;obtain⟨i,hi⟩:∃i,i=headD ls (-1):=⟨_,rfl⟩
  rw[<-hi] at hr OQ;subst hr;obtain⟨Bb,LU⟩:=hL.at_ i mem_cons_self;have aa:i.toNat<t.ag.length:=(by omega)
  have iv:t.pg i=t.ag[i.toNat]:=vD Bb;have po:=v.fM _ (jV Bb);have MT:=po.leaf LU;have jg:=po.ec;have Xu:=fx i rfl;have Wg:=v.oo;rw[iv] at po MT jg Xu;refine aB 3 ?_;refine bN (dL 5 (h:=by first|exact .l (j:=i.toNat) (by show headD (i::r) (-1)=_;simp;omega) aa|exact .r (j:=i.toNat) (by show headD (i::r) (-1)=_;simp;omega) aa)) ?_;refine bN (dz (mk:=Op.load 129) rfl ot (by exact kH (i:=i.toNat) F7 isAgg129 sizeOf129 aa)) ?_;refine OD.alloc (ds:=[_,_,_,_,_]) aq rfl rfl zeroValue129 rfl (fun b7=>?_);refine aP 0 [_,_,_,_,_] sizeOf129 ?_;refine an 46 [0,1,5,7] ?_;refine ew [0,1,7] (fun aS _ (aO:Nat×List (K×Int)×List ah) aE=>match aO with|(a,E,I)=>(nG t h k=E++(ju t (i::r)).drop a)/\(a<=((t.ag[i.toNat]'aa)).keys.length)/\(Y.J E I)/\aE=(⟨46,(5,ae (a:Nat))::aS,(⟨b7,129,5,cP (t.ag[i.toNat]'aa)⟩::I)⟩:St)) (fun (aO:Nat×List (K×Int)×List ah)=>match aO with|(a,E,I)=>((t.ag[i.toNat]'aa)).keys.length-a) (a,pre,Sc) ⟨NM,Xu,hj,rfl⟩ ?_;rintro⟨a,E,I⟩ _ ⟨p8,aq1,oC,rfl⟩;refine af [0,1,5,7,26] ?_;refine au ?_ ?_<;>intro aX cr
  ·have pE:a<((t.ag[i.toNat]'aa)).keys.length:=(by have:=aX;simp at this;omega)
   have NA:a<((t.ag[i.toNat]'aa)).kids.length:=(by omega)
   have jC:(ju t (i::r)).drop a=(((t.ag[i.toNat]'aa)).keys[a],((t.ag[i.toNat]'aa)).kids[a])::(ju t (i::r)).drop (a+1):=(by have:=acE v hL (a:=a) (by rw[iv];exact pE) (by rw[iv];exact NA);simp only[iv] at this;exact this)
   have fj:((t.ag[i.toNat]'aa)).keys[a].length<=100:=(by have:=(po.lI _ (getElem_mem pE)).2;omega)
   refine CD.skip ?_;refine CD.seq ?_;refine CD.block ?_;refine CD.seq ?_;refine CD.ae4 aC ?_;refine fZ 0 rfl bD ?_;refine fZ 1 rfl (dQ 1) ?_;refine fZ 3 rfl bD ?_;refine fZ 7 rfl (dQ 2) ?_;refine fZ 9 rfl bD ?_;refine AI.two (i:=2) (j:=8) aC ?_ ?_
   ·refine kX rfl (dS 0) ?_;refine fZ 4 rfl (dL 1 (h:=NH)) ?_;refine AI.two (i:=5) (j:=8) aC ?_ ?_
    ·refine kX rfl fN ?_;refine AI.two (i:=6) (j:=8) aC ?_ ?_
     ·refine ig.iD rfl aq rfl rfl rfl call70 (my (((t.ag[i.toNat]'aa)).keys[a]) w4) ⟨ot,trivial⟩ ?_;refine AI.one (i:=8) aC ?_;refine kX rfl (dS 0) ?_;refine fZ 10 rfl (dL 1 (h:=Ho)) ?_;refine AI.one (i:=11) aC ?_;refine kX rfl fN ?_;refine fZ 12 rfl (pi (pl:=[(0,_),(1,_)]) (ds:=[_,_]) rfl zeroValue88 runUnderlying88 r9 ⟨rfl,ot,rfl,ot,trivial⟩ rfl rfl) ?_;refine AI.one (i:=13) aC ?_;refine ig.yield (Y:=Y) (pre:=E) (y:=(((t.ag[i.toNat]'aa)).keys[a],((t.ag[i.toNat]'aa)).kids[a])) (Sc:=I) (R:=[⟨b7,129,5,cP (t.ag[i.toNat]'aa)⟩]) rfl aq rfl rfl ot aU lk tc (perm_append_singleton _ _).symm oC s8 hY O w8 (fun Z OY=>?_) (fun Z OY=>?_)
      ·refine AI.perm (perm_append_singleton _ _) ?_;refine fZ 14 rfl lD ?_;refine AI.wk (y:=⟨46,[(0,_),(1,_),(5,_),(7,_),(43,_)],(⟨b7,129,5,[_,_,_,_,_]⟩::Z)⟩) (Wk.ee rfl rfl fE) ?_;refine AI.done aC ?_;refine gm ?_;refine bM [0,1,5,7] ?_;refine⟨((a+1),(E++[(((t.ag[i.toNat]'aa)).keys[a],((t.ag[i.toNat]'aa)).kids[a])]),Z),_,cn,aI,s7,w4,OY,rfl⟩
      refine fZ 14 rfl lD ?_;refine AI.wk (y:=⟨46,[(0,_),(43,_)],(Z)⟩) (Wk.ee rfl rfl fE) ?_;refine AI.done aC ?_;refine eO ?_;refine CD.ret ?_;refine⟨.inr rfl,⟨_,qz results98⟩,(show 0<46 by decide),Z,Sublist.refl _,?_⟩;exact .inr ⟨E++[(((t.ag[i.toNat]'aa)).keys[a],((t.ag[i.toNat]'aa)).kids[a])],⟨(ju t (i::r)).drop (a+1),by rw[p8,jC,append_assoc];rfl⟩,OY,lk⟩
     refine kX rfl (dS 0) ?_;refine fZ 10 rfl (dL 1 (h:=Ho)) ?_;refine AI.two (i:=6) (j:=11) aC ?_ ?_
     ·refine ig.iD rfl aq rfl rfl rfl call70 (my (((t.ag[i.toNat]'aa)).keys[a]) w4) ⟨ot,trivial⟩ ?_;refine AI.one (i:=11) aC ?_;refine kX rfl fN ?_;refine fZ 12 rfl (pi (pl:=[(0,_),(1,_)]) (ds:=[_,_]) rfl zeroValue88 runUnderlying88 r9 ⟨rfl,ot,rfl,ot,trivial⟩ rfl rfl) ?_;refine AI.one (i:=13) aC ?_;refine ig.yield (Y:=Y) (pre:=E) (y:=(((t.ag[i.toNat]'aa)).keys[a],((t.ag[i.toNat]'aa)).kids[a])) (Sc:=I) (R:=[⟨b7,129,5,cP (t.ag[i.toNat]'aa)⟩]) rfl aq rfl rfl ot aU lk tc (perm_append_singleton _ _).symm oC s8 hY O w8 (fun I OZ=>?_) (fun I OZ=>?_)
      ·refine AI.perm (perm_append_singleton _ _) ?_;refine fZ 14 rfl lD ?_;refine AI.wk (y:=⟨46,[(0,_),(1,_),(5,_),(7,_),(43,_)],(⟨b7,129,5,[_,_,_,_,_]⟩::I)⟩) (Wk.ee rfl rfl fE) ?_;refine AI.done aC ?_;refine gm ?_;refine bM [0,1,5,7] ?_;refine⟨((a+1),(E++[(((t.ag[i.toNat]'aa)).keys[a],((t.ag[i.toNat]'aa)).kids[a])]),I),_,cn,aI,s7,w4,OZ,rfl⟩
      refine fZ 14 rfl lD ?_;refine AI.wk (y:=⟨46,[(0,_),(43,_)],(I)⟩) (Wk.ee rfl rfl fE) ?_;refine AI.done aC ?_;refine eO ?_;refine CD.ret ?_;refine⟨.inr rfl,⟨_,qz results98⟩,(show 0<46 by decide),I,Sublist.refl _,?_⟩;exact .inr ⟨E++[(((t.ag[i.toNat]'aa)).keys[a],((t.ag[i.toNat]'aa)).kids[a])],⟨(ju t (i::r)).drop (a+1),by rw[p8,jC,append_assoc];rfl⟩,OZ,lk⟩
     refine kX rfl fN ?_;refine AI.one (i:=6) aC ?_;refine ig.iD rfl aq rfl rfl rfl call70 (my (((t.ag[i.toNat]'aa)).keys[a]) w4) ⟨ot,trivial⟩ ?_;refine fZ 12 rfl (pi (pl:=[(0,_),(1,_)]) (ds:=[_,_]) rfl zeroValue88 runUnderlying88 r9 ⟨rfl,ot,rfl,ot,trivial⟩ rfl rfl) ?_;refine AI.one (i:=13) aC ?_;refine ig.yield (Y:=Y) (pre:=E) (y:=(((t.ag[i.toNat]'aa)).keys[a],((t.ag[i.toNat]'aa)).kids[a])) (Sc:=I) (R:=[⟨b7,129,5,cP (t.ag[i.toNat]'aa)⟩]) rfl aq rfl rfl ot aU lk tc (perm_append_singleton _ _).symm oC s8 hY O w8 (fun D5 O0=>?_) (fun D5 O0=>?_)
     ·refine AI.perm (perm_append_singleton _ _) ?_;refine fZ 14 rfl lD ?_;refine AI.wk (y:=⟨46,[(0,_),(1,_),(5,_),(7,_),(43,_)],(⟨b7,129,5,[_,_,_,_,_]⟩::D5)⟩) (Wk.ee rfl rfl fE) ?_;refine AI.done aC ?_;refine gm ?_;refine bM [0,1,5,7] ?_;refine⟨((a+1),(E++[(((t.ag[i.toNat]'aa)).keys[a],((t.ag[i.toNat]'aa)).kids[a])]),D5),_,cn,aI,s7,w4,O0,rfl⟩
     refine fZ 14 rfl lD ?_;refine AI.wk (y:=⟨46,[(0,_),(43,_)],(D5)⟩) (Wk.ee rfl rfl fE) ?_;refine AI.done aC ?_;refine eO ?_;refine CD.ret ?_;refine⟨.inr rfl,⟨_,qz results98⟩,(show 0<46 by decide),D5,Sublist.refl _,?_⟩;exact .inr ⟨E++[(((t.ag[i.toNat]'aa)).keys[a],((t.ag[i.toNat]'aa)).kids[a])],⟨(ju t (i::r)).drop (a+1),by rw[p8,jC,append_assoc];rfl⟩,O0,lk⟩
    refine kX rfl (dS 0) ?_;refine fZ 10 rfl (dL 1 (h:=Ho)) ?_;refine AI.two (i:=5) (j:=11) aC ?_ ?_
    ·refine kX rfl fN ?_;refine AI.two (i:=6) (j:=11) aC ?_ ?_
     ·refine ig.iD rfl aq rfl rfl rfl call70 (my (((t.ag[i.toNat]'aa)).keys[a]) w4) ⟨ot,trivial⟩ ?_;refine AI.one (i:=11) aC ?_;refine kX rfl fN ?_;refine fZ 12 rfl (pi (pl:=[(0,_),(1,_)]) (ds:=[_,_]) rfl zeroValue88 runUnderlying88 r9 ⟨rfl,ot,rfl,ot,trivial⟩ rfl rfl) ?_;refine AI.one (i:=13) aC ?_;refine ig.yield (Y:=Y) (pre:=E) (y:=(((t.ag[i.toNat]'aa)).keys[a],((t.ag[i.toNat]'aa)).kids[a])) (Sc:=I) (R:=[⟨b7,129,5,cP (t.ag[i.toNat]'aa)⟩]) rfl aq rfl rfl ot aU lk tc (perm_append_singleton _ _).symm oC s8 hY O w8 (fun D6 O1=>?_) (fun D6 O1=>?_)
      ·refine AI.perm (perm_append_singleton _ _) ?_;refine fZ 14 rfl lD ?_;refine AI.wk (y:=⟨46,[(0,_),(1,_),(5,_),(7,_),(43,_)],(⟨b7,129,5,[_,_,_,_,_]⟩::D6)⟩) (Wk.ee rfl rfl fE) ?_;refine AI.done aC ?_;refine gm ?_;refine bM [0,1,5,7] ?_;refine⟨((a+1),(E++[(((t.ag[i.toNat]'aa)).keys[a],((t.ag[i.toNat]'aa)).kids[a])]),D6),_,cn,aI,s7,w4,O1,rfl⟩
      refine fZ 14 rfl lD ?_;refine AI.wk (y:=⟨46,[(0,_),(43,_)],(D6)⟩) (Wk.ee rfl rfl fE) ?_;refine AI.done aC ?_;refine eO ?_;refine CD.ret ?_;refine⟨.inr rfl,⟨_,qz results98⟩,(show 0<46 by decide),D6,Sublist.refl _,?_⟩;exact .inr ⟨E++[(((t.ag[i.toNat]'aa)).keys[a],((t.ag[i.toNat]'aa)).kids[a])],⟨(ju t (i::r)).drop (a+1),by rw[p8,jC,append_assoc];rfl⟩,O1,lk⟩
     refine kX rfl fN ?_;refine AI.one (i:=6) aC ?_;refine ig.iD rfl aq rfl rfl rfl call70 (my (((t.ag[i.toNat]'aa)).keys[a]) w4) ⟨ot,trivial⟩ ?_;refine fZ 12 rfl (pi (pl:=[(0,_),(1,_)]) (ds:=[_,_]) rfl zeroValue88 runUnderlying88 r9 ⟨rfl,ot,rfl,ot,trivial⟩ rfl rfl) ?_;refine AI.one (i:=13) aC ?_;refine ig.yield (Y:=Y) (pre:=E) (y:=(((t.ag[i.toNat]'aa)).keys[a],((t.ag[i.toNat]'aa)).kids[a])) (Sc:=I) (R:=[⟨b7,129,5,cP (t.ag[i.toNat]'aa)⟩]) rfl aq rfl rfl ot aU lk tc (perm_append_singleton _ _).symm oC s8 hY O w8 (fun D7 O2=>?_) (fun D7 O2=>?_)
     ·refine AI.perm (perm_append_singleton _ _) ?_;refine fZ 14 rfl lD ?_;refine AI.wk (y:=⟨46,[(0,_),(1,_),(5,_),(7,_),(43,_)],(⟨b7,129,5,[_,_,_,_,_]⟩::D7)⟩) (Wk.ee rfl rfl fE) ?_;refine AI.done aC ?_;refine gm ?_;refine bM [0,1,5,7] ?_;refine⟨((a+1),(E++[(((t.ag[i.toNat]'aa)).keys[a],((t.ag[i.toNat]'aa)).kids[a])]),D7),_,cn,aI,s7,w4,O2,rfl⟩
     refine fZ 14 rfl lD ?_;refine AI.wk (y:=⟨46,[(0,_),(43,_)],(D7)⟩) (Wk.ee rfl rfl fE) ?_;refine AI.done aC ?_;refine eO ?_;refine CD.ret ?_;refine⟨.inr rfl,⟨_,qz results98⟩,(show 0<46 by decide),D7,Sublist.refl _,?_⟩;exact .inr ⟨E++[(((t.ag[i.toNat]'aa)).keys[a],((t.ag[i.toNat]'aa)).kids[a])],⟨(ju t (i::r)).drop (a+1),by rw[p8,jC,append_assoc];rfl⟩,O2,lk⟩
    refine kX rfl fN ?_;refine AI.one (i:=5) aC ?_;refine kX rfl fN ?_;refine AI.one (i:=6) aC ?_;refine ig.iD rfl aq rfl rfl rfl call70 (my (((t.ag[i.toNat]'aa)).keys[a]) w4) ⟨ot,trivial⟩ ?_;refine fZ 12 rfl (pi (pl:=[(0,_),(1,_)]) (ds:=[_,_]) rfl zeroValue88 runUnderlying88 r9 ⟨rfl,ot,rfl,ot,trivial⟩ rfl rfl) ?_;refine AI.one (i:=13) aC ?_;refine ig.yield (Y:=Y) (pre:=E) (y:=(((t.ag[i.toNat]'aa)).keys[a],((t.ag[i.toNat]'aa)).kids[a])) (Sc:=I) (R:=[⟨b7,129,5,cP (t.ag[i.toNat]'aa)⟩]) rfl aq rfl rfl ot aU lk tc (perm_append_singleton _ _).symm oC s8 hY O w8 (fun D8 O3=>?_) (fun D8 O3=>?_)
    ·refine AI.perm (perm_append_singleton _ _) ?_;refine fZ 14 rfl lD ?_;refine AI.wk (y:=⟨46,[(0,_),(1,_),(5,_),(7,_),(43,_)],(⟨b7,129,5,[_,_,_,_,_]⟩::D8)⟩) (Wk.ee rfl rfl fE) ?_;refine AI.done aC ?_;refine gm ?_;refine bM [0,1,5,7] ?_;refine⟨((a+1),(E++[(((t.ag[i.toNat]'aa)).keys[a],((t.ag[i.toNat]'aa)).kids[a])]),D8),_,cn,aI,s7,w4,O3,rfl⟩
    refine fZ 14 rfl lD ?_;refine AI.wk (y:=⟨46,[(0,_),(43,_)],(D8)⟩) (Wk.ee rfl rfl fE) ?_;refine AI.done aC ?_;refine eO ?_;refine CD.ret ?_;refine⟨.inr rfl,⟨_,qz results98⟩,(show 0<46 by decide),D8,Sublist.refl _,?_⟩;exact .inr ⟨E++[(((t.ag[i.toNat]'aa)).keys[a],((t.ag[i.toNat]'aa)).kids[a])],⟨(ju t (i::r)).drop (a+1),by rw[p8,jC,append_assoc];rfl⟩,O3,lk⟩
   refine kX rfl (dS 0) ?_;refine fZ 10 rfl (dL 1 (h:=Ho)) ?_;refine AI.two (i:=2) (j:=11) aC ?_ ?_
   ·refine kX rfl (dS 0) ?_;refine fZ 4 rfl (dL 1 (h:=NH)) ?_;refine AI.two (i:=5) (j:=11) aC ?_ ?_
    ·refine kX rfl fN ?_;refine AI.two (i:=6) (j:=11) aC ?_ ?_
     ·refine ig.iD rfl aq rfl rfl rfl call70 (my (((t.ag[i.toNat]'aa)).keys[a]) w4) ⟨ot,trivial⟩ ?_;refine AI.one (i:=11) aC ?_;refine kX rfl fN ?_;refine fZ 12 rfl (pi (pl:=[(0,_),(1,_)]) (ds:=[_,_]) rfl zeroValue88 runUnderlying88 r9 ⟨rfl,ot,rfl,ot,trivial⟩ rfl rfl) ?_;refine AI.one (i:=13) aC ?_;refine ig.yield (Y:=Y) (pre:=E) (y:=(((t.ag[i.toNat]'aa)).keys[a],((t.ag[i.toNat]'aa)).kids[a])) (Sc:=I) (R:=[⟨b7,129,5,cP (t.ag[i.toNat]'aa)⟩]) rfl aq rfl rfl ot aU lk tc (perm_append_singleton _ _).symm oC s8 hY O w8 (fun D9 O4=>?_) (fun D9 O4=>?_)
      ·refine AI.perm (perm_append_singleton _ _) ?_;refine fZ 14 rfl lD ?_;refine AI.wk (y:=⟨46,[(0,_),(1,_),(5,_),(7,_),(43,_)],(⟨b7,129,5,[_,_,_,_,_]⟩::D9)⟩) (Wk.ee rfl rfl fE) ?_;refine AI.done aC ?_;refine gm ?_;refine bM [0,1,5,7] ?_;refine⟨((a+1),(E++[(((t.ag[i.toNat]'aa)).keys[a],((t.ag[i.toNat]'aa)).kids[a])]),D9),_,cn,aI,s7,w4,O4,rfl⟩
      refine fZ 14 rfl lD ?_;refine AI.wk (y:=⟨46,[(0,_),(43,_)],(D9)⟩) (Wk.ee rfl rfl fE) ?_;refine AI.done aC ?_;refine eO ?_;refine CD.ret ?_;refine⟨.inr rfl,⟨_,qz results98⟩,(show 0<46 by decide),D9,Sublist.refl _,?_⟩;exact .inr ⟨E++[(((t.ag[i.toNat]'aa)).keys[a],((t.ag[i.toNat]'aa)).kids[a])],⟨(ju t (i::r)).drop (a+1),by rw[p8,jC,append_assoc];rfl⟩,O4,lk⟩
     refine kX rfl fN ?_;refine AI.one (i:=6) aC ?_;refine ig.iD rfl aq rfl rfl rfl call70 (my (((t.ag[i.toNat]'aa)).keys[a]) w4) ⟨ot,trivial⟩ ?_;refine fZ 12 rfl (pi (pl:=[(0,_),(1,_)]) (ds:=[_,_]) rfl zeroValue88 runUnderlying88 r9 ⟨rfl,ot,rfl,ot,trivial⟩ rfl rfl) ?_;refine AI.one (i:=13) aC ?_;refine ig.yield (Y:=Y) (pre:=E) (y:=(((t.ag[i.toNat]'aa)).keys[a],((t.ag[i.toNat]'aa)).kids[a])) (Sc:=I) (R:=[⟨b7,129,5,cP (t.ag[i.toNat]'aa)⟩]) rfl aq rfl rfl ot aU lk tc (perm_append_singleton _ _).symm oC s8 hY O w8 (fun Ea O5=>?_) (fun Ea O5=>?_)
     ·refine AI.perm (perm_append_singleton _ _) ?_;refine fZ 14 rfl lD ?_;refine AI.wk (y:=⟨46,[(0,_),(1,_),(5,_),(7,_),(43,_)],(⟨b7,129,5,[_,_,_,_,_]⟩::Ea)⟩) (Wk.ee rfl rfl fE) ?_;refine AI.done aC ?_;refine gm ?_;refine bM [0,1,5,7] ?_;refine⟨((a+1),(E++[(((t.ag[i.toNat]'aa)).keys[a],((t.ag[i.toNat]'aa)).kids[a])]),Ea),_,cn,aI,s7,w4,O5,rfl⟩
     refine fZ 14 rfl lD ?_;refine AI.wk (y:=⟨46,[(0,_),(43,_)],(Ea)⟩) (Wk.ee rfl rfl fE) ?_;refine AI.done aC ?_;refine eO ?_;refine CD.ret ?_;refine⟨.inr rfl,⟨_,qz results98⟩,(show 0<46 by decide),Ea,Sublist.refl _,?_⟩;exact .inr ⟨E++[(((t.ag[i.toNat]'aa)).keys[a],((t.ag[i.toNat]'aa)).kids[a])],⟨(ju t (i::r)).drop (a+1),by rw[p8,jC,append_assoc];rfl⟩,O5,lk⟩
    refine kX rfl fN ?_;refine AI.one (i:=5) aC ?_;refine kX rfl fN ?_;refine AI.one (i:=6) aC ?_;refine ig.iD rfl aq rfl rfl rfl call70 (my (((t.ag[i.toNat]'aa)).keys[a]) w4) ⟨ot,trivial⟩ ?_;refine fZ 12 rfl (pi (pl:=[(0,_),(1,_)]) (ds:=[_,_]) rfl zeroValue88 runUnderlying88 r9 ⟨rfl,ot,rfl,ot,trivial⟩ rfl rfl) ?_;refine AI.one (i:=13) aC ?_;refine ig.yield (Y:=Y) (pre:=E) (y:=(((t.ag[i.toNat]'aa)).keys[a],((t.ag[i.toNat]'aa)).kids[a])) (Sc:=I) (R:=[⟨b7,129,5,cP (t.ag[i.toNat]'aa)⟩]) rfl aq rfl rfl ot aU lk tc (perm_append_singleton _ _).symm oC s8 hY O w8 (fun Eb O6=>?_) (fun Eb O6=>?_)
    ·refine AI.perm (perm_append_singleton _ _) ?_;refine fZ 14 rfl lD ?_;refine AI.wk (y:=⟨46,[(0,_),(1,_),(5,_),(7,_),(43,_)],(⟨b7,129,5,[_,_,_,_,_]⟩::Eb)⟩) (Wk.ee rfl rfl fE) ?_;refine AI.done aC ?_;refine gm ?_;refine bM [0,1,5,7] ?_;refine⟨((a+1),(E++[(((t.ag[i.toNat]'aa)).keys[a],((t.ag[i.toNat]'aa)).kids[a])]),Eb),_,cn,aI,s7,w4,O6,rfl⟩
    refine fZ 14 rfl lD ?_;refine AI.wk (y:=⟨46,[(0,_),(43,_)],(Eb)⟩) (Wk.ee rfl rfl fE) ?_;refine AI.done aC ?_;refine eO ?_;refine CD.ret ?_;refine⟨.inr rfl,⟨_,qz results98⟩,(show 0<46 by decide),Eb,Sublist.refl _,?_⟩;exact .inr ⟨E++[(((t.ag[i.toNat]'aa)).keys[a],((t.ag[i.toNat]'aa)).kids[a])],⟨(ju t (i::r)).drop (a+1),by rw[p8,jC,append_assoc];rfl⟩,O6,lk⟩
   refine kX rfl fN ?_;refine AI.one (i:=2) aC ?_;refine kX rfl (dS 0) ?_;refine fZ 4 rfl (dL 1 (h:=NH)) ?_;refine AI.one (i:=5) aC ?_;refine kX rfl fN ?_;refine AI.one (i:=6) aC ?_;refine ig.iD rfl aq rfl rfl rfl call70 (my (((t.ag[i.toNat]'aa)).keys[a]) w4) ⟨ot,trivial⟩ ?_;refine fZ 12 rfl (pi (pl:=[(0,_),(1,_)]) (ds:=[_,_]) rfl zeroValue88 runUnderlying88 r9 ⟨rfl,ot,rfl,ot,trivial⟩ rfl rfl) ?_;refine AI.one (i:=13) aC ?_;refine ig.yield (Y:=Y) (pre:=E) (y:=(((t.ag[i.toNat]'aa)).keys[a],((t.ag[i.toNat]'aa)).kids[a])) (Sc:=I) (R:=[⟨b7,129,5,cP (t.ag[i.toNat]'aa)⟩]) rfl aq rfl rfl ot aU lk tc (perm_append_singleton _ _).symm oC s8 hY O w8 (fun U MX=>?_) (fun U MX=>?_)
   ·refine AI.perm (perm_append_singleton _ _) ?_;refine fZ 14 rfl lD ?_;refine AI.wk (y:=⟨46,[(0,_),(1,_),(5,_),(7,_),(43,_)],(⟨b7,129,5,[_,_,_,_,_]⟩::U)⟩) (Wk.ee rfl rfl fE) ?_;refine AI.done aC ?_;refine gm ?_;refine bM [0,1,5,7] ?_;refine⟨((a+1),(E++[(((t.ag[i.toNat]'aa)).keys[a],((t.ag[i.toNat]'aa)).kids[a])]),U),_,cn,aI,s7,w4,MX,rfl⟩
   refine fZ 14 rfl lD ?_;refine AI.wk (y:=⟨46,[(0,_),(43,_)],(U)⟩) (Wk.ee rfl rfl fE) ?_;refine AI.done aC ?_;refine eO ?_;refine CD.ret ?_;refine⟨.inr rfl,⟨_,qz results98⟩,(show 0<46 by decide),U,Sublist.refl _,?_⟩;exact .inr ⟨E++[(((t.ag[i.toNat]'aa)).keys[a],((t.ag[i.toNat]'aa)).kids[a])],⟨(ju t (i::r)).drop (a+1),by rw[p8,jC,append_assoc];rfl⟩,MX,lk⟩
  have dN:a=(t.pg i).keys.length:=(by rw[iv];have:=aX;simp at this;omega)
  refine bM [0,1,4,5] ?_;refine⟨(r,0,E,I),_,(by (show length r<length (i::r);simp)),(aI (h:=by repeat (first|exact trivial|refine⟨(by (repeat (first|exact fK|(apply gb;focus (first|rfl|(simp;done)|(rw[<-iv,fk.next hL.pM])))|(apply fO;focus rfl)));done),?_⟩))),hL.tail,(by rw[p8,abd v hL dN]),(fun x hx=>Nat.zero_le _),oC,rfl⟩
 have alj:ls=[]:=hL.head.2 xL;refine CD.exit ?_;refine⟨.inl rfl,⟨_,qz results98⟩,(show 0<46 by decide),Sc,Sublist.refl _,?_⟩;exact .inl ⟨pre,by rw[NM,alj];simp[ju],hj,lk⟩

open Go.Lib (compareBytes)
theorem agy(e:K×Int):(cE e).all V.one=true:=rfl
theorem ahq(k:K):fS (cK k)=true:=by simp[cK,fS,jb,zE]
theorem ahr(n:Int):fS (cI n)=true:=rfl
theorem ahs(p:c8):fS (cP p)=true:=by simp[cP,fS,jb,zE,vl ahq,vl ahr]
def Wh(t:aF)(k:K):D:=.eI (.func 98) (LW t k)
noncomputable def vy(fb:K)(x:K×Int):Bool:=decide (0<fb.length/\bG fb x.1)
noncomputable def xJ(t:aF)(h:Nat)(f fb:K):List (K×Int):=(nG t h f).takeWhile fun x=>!vy fb x
noncomputable def xD(t:aF)(h:Nat)(f fb:K):List (K×Int)×Int:=if gQ t=0 then (if f.length<=100/\fb.length<=100 then (xJ t h f fb,0) else ([],1)) else ([],gQ t)
theorem Jg{α:Type}{p:α->Bool}:∀{l:List α},(∀x∈l,p x=true)->l.takeWhile p=l
 | [],_=>rfl
 | x::l,h=>by rw[takeWhile_cons,if_pos (h x mem_cons_self),Jg fun y hy=>h y (mem_cons_of_mem _ hy)]
theorem Ri{α:Type}{p:α->Bool}{y:α}{r:List α}(hy:p y=false):∀{l:List α},(∀x∈l,p x=true)->(l++y::r).takeWhile p=l
 | [],_=>by rw[nil_append,takeWhile_cons,if_neg (by rw[hy];decide)]
 | x::l,h=>by rw[cons_append,takeWhile_cons,if_pos (h x mem_cons_self),Ri hy fun y hy=>h y (mem_cons_of_mem _ hy)]
def xK(b9 b5:Nat)(fb:K)(pre:List (K×Int))(Sc:List ah):Prop:=(∀x∈pre,vy fb x=false)/\∃ad cap So,bn 88 2 (pre.flatMap cE) pre.length ad cap So/\Sc=⟨b9,83,1,[aT ad pre.length cap]⟩::⟨b5,86,1,[ap 1 cB fb]⟩::So
def Gw(b9 b5:Nat)(fb:K)(pre:List (K×Int))(Sc:List ah):Prop:=∃init y,pre=init++[y]/\vy fb y=true/\xK b9 b5 fb init Sc
theorem xK.jb{b9 b5:Nat}{fb:K}{pre:List (K×Int)}{Sc:List ah}(h:xK b9 b5 fb pre Sc):∀B∈Sc,fS B.cs=true:=by
 obtain⟨_,ad,cap,So,ho,rfl⟩:=h;intro B hB;rcases mem_cons.1 hB with rfl|hB
 ·rfl
 rcases mem_cons.1 hB with rfl|hB
 ·simp[fS,V.jb,zE]
 rcases ho with ⟨_,_,_,_,rfl⟩|⟨b,_,_,_,rfl⟩
 ·cases hB
 rw[mem_singleton] at hB;subst hB;exact vl zF pre
theorem Gw.jb{b9 b5:Nat}{fb:K}{pre:List (K×Int)}{Sc:List ah}(h:Gw b9 b5 fb pre Sc):∀B∈Sc,fS B.cs=true:=by
 obtain⟨init,y,_,_,h⟩:=h;exact h.jb
def LX(b9 b5:Nat)(fb:K)(pre:List (K×Int))(y:K×Int)(Sc:List ah)(z:St):Prop:=xK b9 b5 fb pre Sc/\∃jL,z=⟨43,[(5,cY b5),(9,cY b9),(10,cY jL)],⟨jL,88,2,cE y⟩::Sc⟩
theorem LX.jb{b9 b5:Nat}{fb:K}{pre:List (K×Int)}{y:K×Int}{Sc:List ah}{z:St}(h:LX b9 b5 fb pre y Sc z):(z.env.all fun p=>V.jb p.2)=true/\∀B∈z.S,fS B.cs=true:=by
 obtain⟨hj,jL,rfl⟩:=h;refine⟨rfl,fun B hB=>?_⟩;rcases mem_cons.1 hB with rfl|hB
 ·exact zF y
 exact hj.jb B hB
theorem aes{b9 b5:Nat}{t:aF}{h:Nat}{f fb:K}{Sc:List ah}{c d:Code}(he:(∃xs,xs=nG t h f/\xK b9 b5 fb xs Sc)\/(c=d/\∃pre,pre <+: nG t h f/\Gw b9 b5 fb pre Sc)):∃I,I=xJ t h f fb/\xK b9 b5 fb I Sc:=by
 rcases he with ⟨xs,rfl,hj⟩|⟨_,pre,⟨r,hr⟩,E,y,rfl,hy,hj⟩
 ·exact⟨_,(Jg fun x hx=>by rw[hj.1 x hx];rfl).symm,hj⟩
 refine⟨E,?_,hj⟩;unfold xJ;rw[<-hr,append_assoc,singleton_append];exact(Ri (by rw[hy];rfl) fun x hx=>by rw[hj.1 x hx];rfl).symm
theorem afR(t:aF)(k:K):VC Tryz.prog G 52 [.agg (cT t),ap 1 cB k] [] (fun r S=>∃b2 b3,r = .eI (.func 98) [cY b2,cY b3]/\S=[⟨b3,86,1,[ap 1 cB k]⟩,⟨b2,66,2,cT t⟩]):=by
 refine VC.body func52 rfl ntmps52 aU fun X0 w0 bj=>?_;unfold cT;refine bS ?_;refine OD.box (ds:=[_,_]) aq rfl rfl ot rfl rfl (fun b2=>?_);refine OD.box (ds:=[_]) aq rfl rfl ot rfl rfl (fun b3=>?_);refine an 6 [2,3] ?_;refine cz [4] ?_;refine aR 0 ?_ (h:=Hp);refine bA ?_;refine aK [_,_] ?_;exact⟨_,_,rfl,rfl⟩
theorem afS(t:aF)(k:K):VP Tryz.prog G 52 [.agg (cT t),ap 1 cB k] (Wh t k):=VC.cover (afR t k) fun r S ⟨b2,b3,hr,hS⟩=>by
 subst hr;subst hS;exact adB ⟨RW (e:=66) (size:=2) (cs:=cT t) (mem_cons_of_mem _ mem_cons_self) gU.same,RW (e:=86) (size:=1) mem_cons_self gU.same,trivial⟩
theorem aaN:(Tryz.prog.info? 88).map (fun i=>(i.zero,i.size,i.bytes))=some (some (.agg #[.slice none 0 0,.int .i64 0]),2,32):=by kernel_rfl
theorem afT(t:aF)(h:Nat)(hb:∀p∈t.ag,p.keys.length<=maxLen/\p.kids.length<=maxLen)(hv:gQ t=0->Valid t h)(f fb:K):VP Tryz.prog G 29 [.agg (cT t),ap 1 cB f,ap 1 cB fb] (.da [.list 2 ((xD t h f fb).1.flatMap cE) (xD t h f fb).1.length,ae (xD t h f fb).2]):=by
 refine VC.zR func29 rfl ntmps29 aU fun X0 w0 bj=>?_;have cR:=dI;have fw:=pS (G:=G) t hb;have U:=afS (G:=G) t f;unfold cT at fw U;unfold cT;refine bS ?_;refine OD.box (ds:=[_,_]) aq rfl rfl ot rfl rfl (fun b3=>?_);refine OD.box (ds:=[_]) aq rfl rfl ot rfl rfl (fun b5=>?_);refine an 43 [1,3,5] ?_;refine cL [1,3,5,8] (fw) ?_;refine af [1,3,5,8,14] ?_;refine au ?_ ?_<;>intro aJ bz
 ·have hn:¬gQ t=0:=(by simpa using aJ)
  refine af [6,7] ?_;refine CD.wk (Wk.sA (t:=6) (sz:=2) lk) ?_;refine aK [] ?_;exact⟨by unfold xD;rw[if_neg hn];rfl,rfl⟩
 have hz:gQ t=0:=(by simpa using aJ)
 have v:=hv hz;have Wg:=S6 v f;refine aB 4 ?_;refine bZ 19 (fun Z O=>?_) (fun Z O=>?_)
 ·refine bu [1,3,5,23] ?_;refine eO ?_;exact z91
 refine bu [1,3,5,23] ?_;refine au ?_ ?_<;>intro aX cr
 ·exact z91
 have apA:f.length<=100/\fb.length<=100:=(by simp_all;omega)
 have hf1:f.length<=maxLen:=(by omega)
 refine bS ?_;refine OD.alloc (ds:=[_]) aq rfl rfl zeroValue83 rfl (fun b9=>?_);refine an 43 [1,3,5,9] ?_;refine CD.ajG ?_;refine dw 2 ?_;refine ez call52 (U) ?_;refine an 43 [5,9,26] ?_;refine wo.wk (Wk.drop _ _ _ [⟨b9,83,1,[cc]⟩,⟨b5,86,1,[ap 1 cB fb]⟩] (Sublist.cons_cons _ (Sublist.cons_cons _ (Sublist.cons _ (Sublist.refl _))))) ?_;refine wo.range ot call98 (aer t h v f hf1) (fun _=>rfl) aeq (.exit 0) (.inr rfl) (xK b9 b5 fb) (Gw b9 b5 fb) (fun _ _ h=>h.jb) (fun _ _ h=>h.jb) ⟨(fun _ h=>by cases h),none,0,[],iR,rfl⟩ (LX b9 b5 fb) (fun _ _ _ _ h=>h.jb) ?_ ?_ ?_ (fun h=>by cases h)
 ·intro X1 W1 S1 l1 pre y Sc hJ hN;refine CI.region NK rfl ?_;refine OD.alloc (ds:=[_,_]) aq rfl rfl zeroValue88 rfl (fun jL=>?_);refine aP 0 [_,_] sizeOf88 ?_;refine OD.wk (Wk.ee (n:=43) (l':=[(5,_),(9,_),(10,_)]) (S':=(⟨jL,88,2,[_,_]⟩::Sc)) rfl rfl fE) ?_;refine OD.nil ?_;exact⟨rfl,hJ,jL,rfl⟩
 ·intro X1 W1 S1 l1 pre y Sc z hJ hN hz;obtain⟨⟨aW,ad,cap,So,ho,rfl⟩,jL,rfl⟩:=hz;unfold cE;refine CI.block ?_;refine CI.seq ?_;refine CI.seq ?_;refine CI.region NK rfl ?_;refine bN (dS 2) ?_;refine bN yu ?_;refine bN qn ?_;refine om_ ?_;refine OD.split (t:=31) lk (fun I=>?_) (fun I=>?_)
  ·have E:=I;(try simp only[V.nR,ne_eq] at E)
   refine bN (dQ 0) ?_;refine bN (dS 0) ?_;refine bN (dS 2) ?_;refine OD.iD iN rfl rfl rfl call53 (xp y.1 fb) ⟨ot,ot,trivial⟩ ?_;refine bN qn ?_;refine bN xV ?_;refine OD.wk (Wk.ee (n:=43) (l':=[(9,_),(10,_),(37,_)]) (S':=(⟨jL,88,2,[_,_]⟩::⟨b9,83,1,[_]⟩::⟨b5,86,1,[_]⟩::So)) rfl rfl fE) ?_;refine OD.nil ?_;refine CI.cond ot (fun bL=>?_) (fun bL=>?_)
   ·have cJ:=bL
    (try simp only[V.nR,ne_eq] at cJ)
    have eU:vy fb y=true:=(by unfold vy;simp_all[Va])
    refine CI.exit ?_;exact⟨rfl,_,Sublist.cons _ (Sublist.refl _),pre,y,rfl,eU,aW,ad,cap,So,ho,rfl⟩
   have cJ:=bL
   (try simp only[V.nR,ne_eq] at cJ)
   exact z31
  have E:=I;(try simp only[V.nR,ne_eq] at E)
  refine Dw ?_;refine Dw ?_;refine Dw ?_;refine Dw ?_;refine Dw ?_;refine bN vF ?_;refine YJ [9,10,37] ?_;refine CI.LG ot jJ ?_;exact z31
 intro W1 S1 D1 Sc dN;obtain⟨es,hes,aW,ad,cap,So,ho,rfl⟩:=aes dN;refine af [6,7] ?_;refine CD.gK (t:=6) (Sq:=So) lk ho (cm Vb _) (cZ (A:=[_,_])) ?_;refine CD.ret ?_;refine⟨rfl,(by simp[jb,fS,vl zF,zE,zF,vl ahs,Wh,LW]),(by intro B hB;simp only[mem_cons,not_mem_nil,or_false] at hB;rcases hB with rfl|rfl<;>simp[jb,fS,zE]),_,[],nil_sublist _,Ka results29 (zn aU lk) (zn aU lk),(by simp[jb,fS,vl zF]),?_⟩;rw[hes];exact⟨by unfold xD;rw[if_pos hz,if_pos ⟨by omega,by omega⟩],rfl⟩

end Go.Proofs.YtbplamgacibdaaaGreatDoor.Tw
namespace Go.Proofs.YtbplamgacibdaaaGreatDoor.Tw

open List
open Go.Proofs.Tryz
open Go.RowKit V Tr Pk
variable {α:Type} {i:Nat} {t:aF} {J:List D}
theorem UC{g:α->List D}(hg:∀a,(g a).length=1){q:List α}{cap:Nat}(hi:i<q.length)(hc:q.length<=cap):((q.flatMap g).drop (eJ cap (i+1) 1 0)).take ((q.length-(i+1))*1)=(q.drop (i+1)).flatMap g:=by
 exact z75
theorem Vy{g:α->List D}(hg:∀a,(g a).length=1){q:List α}(hi:i<q.length):dh (q.flatMap g) (i*1) ((q.drop (i+1)).flatMap g)=(q.eraseIdx i).flatMap g++(q.flatMap g).drop (i*1+((q.drop (i+1)).flatMap g).length):=by
 rw[uZ _ _ _ (by rw[cm hg,cm hg,length_drop];omega),sC hg,eraseIdx_eq_take_drop_succ,flatMap_append]
variable {G:List (Nat×List Value)}
theorem ZZ:(Tryz.prog.info? 86).map (fun i=>i.size)=some 1:=by kernel_rfl
theorem IN(q:List K)(i cap b:Nat)(hi:i<q.length)(hc:q.length<=cap)(hm:cap<=maxLen)(hs:q.length<=1000):VC Tryz.prog G 132 [aT (some ⟨b,0,none⟩) q.length cap,ae (i:Nat),ae ((i+1:Nat):Int)] [⟨b,86,cap*1,q.flatMap cK⟩] (fun r S=>r=aT (some ⟨b,0,none⟩) (q.length-1) cap/\S=[⟨b,86,cap*1,(q.eraseIdx i).flatMap cK⟩]):=by
 refine VC.body func132 rfl ntmps132 aU fun X0 w0 bj=>?_;refine af [0,1,2] ?_;refine cz [0,1,2] ?_;refine aR 5 ?_ (h:=by exact(Iw rfl ot ot ot ot runUnderlying127 sizeOf86 w4 w4 hc));refine iz ?_;refine af [0,1,2,16] ?_;refine au ?_ ?_<;>intro aJ bz
 ·exact absurd aJ s9
 refine af [0,1,2,7] ?_;refine CD.seq ?_;refine gP 7 (av (eraseIdx _ 0)) ?_ (fun _ h=>(Sublist.map _ (eraseIdx_sublist _ 0)).subset h);refine aD 0 rfl bD ?_;refine aD 1 rfl bD ?_;refine aD 2 rfl (eE (l:=0) (h:=i) rfl ot trivial ⟨_,ot⟩ Np) ?_;refine aD 3 rfl bD ?_;refine aD 4 rfl bD ?_;refine aD 5 rfl (eE (l:=i+1) rfl ot ⟨_,ot⟩ trivial uF) ?_;refine dM.later rfl ?_;refine AD.one (i:=6) aC ?_;refine bC.JB (n:=i) (m:=q.length-(i+1)) (k:=0) (new:=(q.drop (i+1)).flatMap cK) (cs':=(q.eraseIdx i).flatMap cK++(q.flatMap cK).drop (i*1+((q.drop (i+1)).flatMap cK).length)) rfl aq rfl rfl underlying127 ZZ ot rfl rfl ot (UC gr hi hc) (by rw[cm gr,length_drop]) (sF pY _) w4 (by show _<=(q.flatMap cK).length;rw[cm gr];omega) (Vy gr hi) iL ?_;rw[show i+(q.length-(i+1))=q.length-1 from by omega];refine fm ?_;refine bu [0,7] ?_;refine aB 4 ?_;refine bN (eE (l:=q.length-1) (h:=q.length) rfl ot ⟨_,ot⟩ ⟨_,ot⟩ (by first|exact mW (fun h=>by cases h) runUnderlying127 sizeOf86 w4|exact ue (fun h=>by cases h) (fun h=>by cases h) runUnderlying127 sizeOf86 w4 w4|exact mz (fun h=>by cases h) (fun h=>by cases h) runUnderlying127 sizeOf86 w4 w4)) ?_;refine OD.shrink (k:=0) (cs':=(q.eraseIdx i).flatMap cK) rfl (prefix_append _ _) ?_;refine OD.clear (k:=0) (sz:=1) aq rfl rfl underlying127 zeroValue86 rfl aC ot rfl rfl (fun h0=>?_) ?_
 ·have h3:eJ cap (q.length-1) 1 0=(q.length-1)*1:=(by unfold eJ;rw[if_neg w4];omega)
  rw[h3];refine⟨?_,?_⟩
  ·show((q.eraseIdx i).flatMap cK).length<=_;rw[cm gr,length_eraseIdx_of_lt hi];exact Nat.le_refl _
  show _<=cap*1;omega
 exact z107
theorem Z0:(Tryz.prog.info? 3).map (fun i=>i.size)=some 1:=by kernel_rfl
theorem P5(q:List Int)(i cap b:Nat)(hi:i<q.length)(hc:q.length<=cap)(hm:cap<=maxLen)(hs:q.length<=1000):VC Tryz.prog G 133 [aT (some ⟨b,0,none⟩) q.length cap,ae (i:Nat),ae ((i+1:Nat):Int)] [⟨b,3,cap*1,q.flatMap cI⟩] (fun r S=>r=aT (some ⟨b,0,none⟩) (q.length-1) cap/\S=[⟨b,3,cap*1,(q.eraseIdx i).flatMap cI⟩]):=by
 refine VC.body func133 rfl ntmps133 aU fun X0 w0 bj=>?_;refine af [0,1,2] ?_;refine cz [0,1,2] ?_;refine aR 5 ?_ (h:=by exact(Iw rfl ot ot ot ot runUnderlying61 sizeOf3 w4 w4 hc));refine iz ?_;refine af [0,1,2,16] ?_;refine au ?_ ?_<;>intro aJ bz
 ·exact absurd aJ s9
 refine af [0,1,2,7] ?_;refine CD.seq ?_;refine gP 7 (av (eraseIdx _ 0)) ?_ (fun _ h=>(Sublist.map _ (eraseIdx_sublist _ 0)).subset h);refine aD 0 rfl bD ?_;refine aD 1 rfl bD ?_;refine aD 2 rfl (eE (l:=0) (h:=i) rfl ot trivial ⟨_,ot⟩ Nq) ?_;refine aD 3 rfl bD ?_;refine aD 4 rfl bD ?_;refine aD 5 rfl (eE (l:=i+1) rfl ot ⟨_,ot⟩ trivial uG) ?_;refine dM.later rfl ?_;refine AD.one (i:=6) aC ?_;refine bC.JB (n:=i) (m:=q.length-(i+1)) (k:=0) (new:=(q.drop (i+1)).flatMap cI) (cs':=(q.eraseIdx i).flatMap cI++(q.flatMap cI).drop (i*1+((q.drop (i+1)).flatMap cI).length)) rfl aq rfl rfl underlying61 Z0 ot rfl rfl ot (UC eC hi hc) (by rw[cm eC,length_drop]) (sF mA _) w4 (by show _<=(q.flatMap cI).length;rw[cm eC];omega) (Vy eC hi) iL ?_;rw[show i+(q.length-(i+1))=q.length-1 from by omega];refine fm ?_;refine bu [0,7] ?_;refine aB 4 ?_;refine bN (eE (l:=q.length-1) (h:=q.length) rfl ot ⟨_,ot⟩ ⟨_,ot⟩ (by first|exact mW (fun h=>by cases h) runUnderlying61 sizeOf3 w4|exact ue (fun h=>by cases h) (fun h=>by cases h) runUnderlying61 sizeOf3 w4 w4|exact mz (fun h=>by cases h) (fun h=>by cases h) runUnderlying61 sizeOf3 w4 w4)) ?_;refine OD.shrink (k:=0) (cs':=(q.eraseIdx i).flatMap cI) rfl (prefix_append _ _) ?_;refine OD.clear (k:=0) (sz:=1) aq rfl rfl underlying61 zeroValue3 rfl aC ot rfl rfl (fun h0=>?_) ?_
 ·have h3:eJ cap (q.length-1) 1 0=(q.length-1)*1:=(by unfold eJ;rw[if_neg w4];omega)
  rw[h3];refine⟨?_,?_⟩
  ·show((q.eraseIdx i).flatMap cI).length<=_;rw[cm eC,length_eraseIdx_of_lt hi];exact Nat.le_refl _
  show _<=cap*1;omega
 exact z107

theorem wM{α:Type}{g:α->List D}{sz:Nat}(hg:∀a,(g a).length=sz){a':α}{c:Nat}{d:D}(hc:c<sz):∀{L:List α} {j:Nat} (hj:j<L.length),g a'=(g L[j]).set c d->(L.flatMap g).set (j*sz+c) d=(L.set j a').flatMap g
 | a::L,0,_,h=>by
  simp only[getElem_cons_zero] at h;rw[flatMap_cons,set_cons_zero,flatMap_cons,h,set_append_left _ _ (by rw[hg];omega),Nat.zero_mul,Nat.zero_add]
 | a::L,j+1,hj,h=>by
  have ih:=wM hg hc (L:=L) (j:=j) (by simpa using hj) oV;have e:(j+1)*sz+c=sz+(j*sz+c):=(by rw[Nat.succ_mul];omega)
  rw[flatMap_cons,set_cons_succ,flatMap_cons,<-ih,set_append_right _ _ (by rw[hg];omega),hg,e,show sz+(j*sz+c)-sz=j*sz+c from by omega]
theorem Vz{L:List aZ}(hL:L.map aZ.p=t.ag){i:Int}(hi:0<=i/\i<t.ag.length)(hj:i.toNat<L.length):L[i.toNat].p=t.pg i:=by
 rw[vD hi];have h:(L.map aZ.p)[i.toNat]?=some L[i.toNat].p:=(by rw[getElem?_map,getElem?_eq_getElem hj];rfl)
 rw[hL,getElem?_eq_getElem w4] at h;exact(Option.some.inj h).symm
def wv:aF:=⟨[],0⟩
def CX(te:aF×Int)(r:D)(S:List ah):Prop:=∃r',r = .da [r',ae te.2]/\GU te.1 r' S
theorem zw(e:Int):CX (wv,e) (.da [.agg [cc,ae 0],ae e]) []:=⟨_,rfl,[],none,0,[],rfl,iR,(fun o h=>by cases h),rfl,rfl⟩
theorem GU.view{r:D}{S:List ah}(h:GU t r S):View S r (.agg (cT t)):=by
 obtain⟨L,ad,cap,Sx,rfl,ho,aW,hL,rfl⟩:=h;have:=Ld (root:=t.root) ho aW (fun B hB=>hB);rw[hL] at this;exact this
theorem CX.view{te:aF×Int}{r:D}{S:List ah}(h:CX te r S):View S r (.da [.agg (cT te.1),ae te.2]):=by
 obtain⟨r',rfl,h⟩:=h;exact Fg ⟨h.view,ff,trivial⟩
noncomputable def rH(t:aF)(k:K)(h:Nat):aF×Int:=if lJ t k=0 then (if gS t k h=true then (gY t h k,0) else (wv,8)) else (wv,lJ t k)
theorem Rj{k:K}(h:lJ t k=0):gQ t=0/\oT k=true:=by
 have hc:gQ t=0:=Classical.byContradiction fun e=>by rw[Fc e] at h;exact e h
 refine⟨hc,?_⟩;cases hq:oT k with
 | true=>rfl
 | false=>rw[ER hc hq] at h;cases h
theorem acG(t:aF)(h:Nat)(k:K)(hb:∀p∈t.ag,p.keys.length<=maxLen/\p.kids.length<=maxLen)(hv:gQ t=0->Valid t h):VC Tryz.prog G 95 [.agg [ap 5 cP t.ag,ae t.root],ap 1 cB k] [] (CX (rH t k h)):=by
 refine VC.body func95 rfl ntmps95 aU fun X0 w0 bj=>?_;have fw:=IM (G:=G) t k hb;unfold cT at fw;have hcT:cT t=[ap 5 cP t.ag,ae t.root]:=rfl;have cR:=dI;refine bS ?_;refine OD.box (ds:=[_,_]) aq rfl rfl ot rfl rfl (fun b2=>?_);refine OD.alloc (ds:=[_,_]) aq rfl rfl zeroValue66 rfl (fun b4=>?_);refine an 58 [1,2,4] ?_;refine cL [1,2,4,6] (fw) ?_;refine af [1,2,4,6,16] ?_;refine au ?_ ?_<;>intro aJ bz
 ·have hn:¬lJ t k=0:=(by simpa using aJ)
  refine aB 2 ?_;refine aP 0 [_,_] sizeOf66 ?_;refine an 58 [4,5] ?_;refine aK [] ?_;unfold rH;rw[if_neg hn];exact zw _
 have hz:lJ t k=0:=(by simpa using aJ)
 obtain⟨hc,O7⟩:=Rj hz;have v:=hv hc;have CY:=JR O7;have eY:=pU (G:=G) t h v k w4 (EL v k);obtain⟨q1,E⟩:=v.leaf k;refine aB 1 ?_;refine OD.call aq rfl rfl rfl call68 (B9 t h v) ⟨ot,trivial⟩ (eX _) ?_;rintro _ _ ⟨L,ad,cap,Sx,rfl,dP,aW,hL,rfl⟩;refine OD.perm (dU (A:=[_,_])) ?_;refine OD.alloc (ds:=[_,_]) aq rfl rfl zeroValue66 rfl (fun b7=>?_);refine aP 0 [_,_] sizeOf66 ?_;refine an 58 [1,4,7] ?_;refine cz [4,7,8,9,10] ?_;refine kK 2 ?_;refine xZ (eY) (ha:=by exact⟨⟨_,ot,by have:=Ld (root:=t.root) dP aW (fun B hB=>mem_cons_of_mem ⟨b7,66,2,[aT ad L.length cap,ae t.root]⟩ (mem_cons_of_mem ⟨b4,66,2,[cc,ae 0]⟩ (mem_cons_of_mem ⟨b2,66,2,[ap 5 cP t.ag,ae t.root]⟩ hB)));rw[hL] at this;exact this⟩,⟨_,ot,ff⟩,trivial⟩) (K:=?_);refine bA ?_;refine af [4,7,8,9,29] ?_;refine au ?_ ?_<;>intro aX cr
 ·have gG:gS t k h=false:=(by simpa using aX)
  refine aB 1 ?_;refine aP 1 [_,_] sizeOf66 ?_;refine an 58 [4,5] ?_;refine aK [] ?_;unfold rH;rw[if_pos hz,if_neg yh];exact zw _
 have gG:gS t k h=true:=(by simpa using aX)
 obtain⟨ha,OF⟩:=(EK v k).1 gG;have po:=v.fM _ (jV q1);have hle:=po.leaf E;have Ht:=po.ec;have rW:L.length=t.ag.length:=(by rw[<-hL];(first|rw[length_map]|(unfold ap;rw[length_map])))
 have hj:(aL t k h t.root).toNat<L.length:=(by omega)
 have O:=Vz hL q1 hj;obtain⟨bx,rfl,gi,yl,rfl⟩:=dP.pos w4;have U:=aW _ (getElem_mem hj);obtain⟨o,ho⟩:∃o,o=L[(aL t k h t.root).toNat]:=⟨_,rfl⟩
 rw[<-ho] at U O;rcases o with ⟨p,ak,ck,sk,ai,ci,si⟩
 have iv:p=t.pg (aL t k h t.root):=O;obtain⟨cM,Z⟩:n8 p.keys ak ck sk/\nh p.kids ai ci si:=U;rw[<-iv] at ha hle Ht;obtain⟨bk,rfl,eo,ym,rfl⟩:=cM.pos w4;obtain⟨bi,rfl,fI,Hv,rfl⟩:=Z.pos w4;have I:(L.flatMap bO).Perm (⟨bk,86,ck*1,flatMap cK p.keys⟩::⟨bi,3,ci*1,flatMap cI p.kids⟩::((L.eraseIdx (aL t k h t.root).toNat).flatMap bO)):=(by have:=zv bO hj;rw[<-ho] at this;exact this)
 refine CD.perm (Perm.cons _ (Perm.cons _ (Perm.cons _ (Perm.cons _ I)))) ?_;rw[iv] at ha;have ha:(aQ (t.pg (aL t k h t.root)) k)<p.keys.length:=(by rw[iv];exact ha)
 have oW:(aQ (t.pg (aL t k h t.root)) k)<p.kids.length:=(by omega)
 have hid:=eo;clear cM Z;refine cz [4,7,9,11] ?_;refine aR 3 ?_ (h:=by exact(dL 5 (h:=by first|exact .l (j:=(aL t k h t.root).toNat) (Int.toNat_of_nonneg q1.1).symm hj|exact .r (j:=(aL t k h t.root).toNat) (Int.toNat_of_nonneg q1.1).symm hj)));refine bA ?_;refine CD.seq ?_;refine gP 21 (av (take 3 _)) ?_ (fun _ h=>(Sublist.map _ (take_sublist _ _)).subset h);refine aD 0 rfl bD ?_;refine aD 1 rfl bD ?_;refine aD 2 rfl bD ?_;refine aD 3 rfl qg ?_;refine aD 4 rfl (dQ 1) ?_;refine aD 6 rfl bD ?_;refine aD 7 rfl bD ?_;refine aD 8 rfl (dR (r:=.int .i64 (((aQ (t.pg (aL t k h t.root)) k)+1:Nat):Int)) rfl ot bV (kN (by rw[show(((aQ (t.pg (aL t k h t.root)) k):Nat):Int)+1=(((aQ (t.pg (aL t k h t.root)) k)+1:Nat):Int) from rfl];exact wrap_i64 w4 w4))) ?_;refine aD 10 rfl bD ?_;refine aD 11 rfl qg ?_;refine aD 12 rfl (dQ 2) ?_;refine aD 14 rfl bD ?_;refine aD 15 rfl bD ?_;refine aD 16 rfl (dR (r:=.int .i64 (((aQ (t.pg (aL t k h t.root)) k)+1:Nat):Int)) rfl ot bV (kN (by rw[show(((aQ (t.pg (aL t k h t.root)) k):Nat):Int)+1=(((aQ (t.pg (aL t k h t.root)) k)+1:Nat):Int) from rfl];exact wrap_i64 w4 w4))) ?_;refine dM.later rfl ?_;refine AD.two (i:=5) (j:=13) aC ?_ ?_
 ·first|refine at_ rfl (dz (mk:=Op.load 127) rfl ot (lG (k:=3) (j:=1) (d:=aT (some ⟨bk,0,none⟩) p.keys.length ck) (ls:=L) iB rfl rfl rfl isAgg127 hj rP)) ?_|refine at_ rfl (dz (mk:=Op.load 127) rfl ot (lG (k:=4) (j:=1) (d:=aT (some ⟨bk,0,none⟩) p.keys.length ck) (ls:=L) iB rfl rfl rfl isAgg127 hj rP)) ?_
  refine AD.two (i:=9) (j:=13) aC ?_ ?_
  ·refine bC.call rfl aq rfl rfl rfl call132 (IN p.keys (aQ (t.pg (aL t k h t.root)) k) ck bk ha eo ym w4) ⟨ot,ot,ot,trivial⟩ (mS (k:=4) rfl) iL ?_;rintro _ _ ⟨rfl,rfl⟩;refine AD.perm (perm_middle (l₁:=[_,_,_,_])).symm ?_;refine AD.one (i:=13) aC ?_;first|refine at_ rfl (dz (mk:=Op.load 61) rfl ot (lG (k:=3) (j:=2) (d:=aT (some ⟨bi,0,none⟩) p.kids.length ci) (ls:=L) iB rfl rfl rfl isAgg61 hj rP)) ?_|refine at_ rfl (dz (mk:=Op.load 61) rfl ot (lG (k:=4) (j:=2) (d:=aT (some ⟨bi,0,none⟩) p.kids.length ci) (ls:=L) iB rfl rfl rfl isAgg61 hj rP)) ?_
   exact z5
  first|refine at_ rfl (dz (mk:=Op.load 61) rfl ot (lG (k:=3) (j:=2) (d:=aT (some ⟨bi,0,none⟩) p.kids.length ci) (ls:=L) iB rfl rfl rfl isAgg61 hj rP)) ?_|refine at_ rfl (dz (mk:=Op.load 61) rfl ot (lG (k:=4) (j:=2) (d:=aT (some ⟨bi,0,none⟩) p.kids.length ci) (ls:=L) iB rfl rfl rfl isAgg61 hj rP)) ?_
  refine AD.one (i:=9) aC ?_;refine bC.call rfl aq rfl rfl rfl call132 (IN p.keys (aQ (t.pg (aL t k h t.root)) k) ck bk ha eo ym w4) ⟨ot,ot,ot,trivial⟩ (mS (k:=4) rfl) iL ?_;rintro _ _ ⟨rfl,rfl⟩;refine AD.perm (perm_middle (l₁:=[_,_,_,_])).symm ?_;exact z5
 first|refine at_ rfl (dz (mk:=Op.load 61) rfl ot (lG (k:=3) (j:=2) (d:=aT (some ⟨bi,0,none⟩) p.kids.length ci) (ls:=L) iB rfl rfl rfl isAgg61 hj rP)) ?_|refine at_ rfl (dz (mk:=Op.load 61) rfl ot (lG (k:=4) (j:=2) (d:=aT (some ⟨bi,0,none⟩) p.kids.length ci) (ls:=L) iB rfl rfl rfl isAgg61 hj rP)) ?_
 refine AD.one (i:=5) aC ?_;first|refine at_ rfl (dz (mk:=Op.load 127) rfl ot (lG (k:=3) (j:=1) (d:=aT (some ⟨bk,0,none⟩) p.keys.length ck) (ls:=L) iB rfl rfl rfl isAgg127 hj rP)) ?_|refine at_ rfl (dz (mk:=Op.load 127) rfl ot (lG (k:=4) (j:=1) (d:=aT (some ⟨bk,0,none⟩) p.keys.length ck) (ls:=L) iB rfl rfl rfl isAgg127 hj rP)) ?_
 refine AD.one (i:=9) aC ?_;refine bC.call rfl aq rfl rfl rfl call132 (IN p.keys (aQ (t.pg (aL t k h t.root)) k) ck bk ha eo ym w4) ⟨ot,ot,ot,trivial⟩ (mS (k:=4) rfl) iL ?_;rintro _ _ ⟨rfl,rfl⟩;refine AD.perm (perm_middle (l₁:=[_,_,_,_])).symm ?_;refine AD.one (i:=17) aC ?_;refine bC.call rfl aq rfl rfl rfl call133 (P5 p.kids (aQ (t.pg (aL t k h t.root)) k) ci bi oW fI Hv w4) ⟨ot,ot,ot,trivial⟩ (mS (k:=5) rfl) iL ?_;rintro _ _ ⟨rfl,rfl⟩;refine AD.perm (perm_middle (l₁:=[_,_,_,_,_])).symm ?_;refine dm 18 rfl qg ?_;refine dm 19 rfl (dQ 1) ?_;refine AD.one (i:=20) aC ?_
 refine bC.storeAt (k:=3) (cs':=flatMap gO (L.set (aL t k h t.root).toNat (⟨{p with keys:=(p.keys.eraseIdx (aQ (t.pg (aL t k h t.root)) k))},some ⟨bk,0,none⟩,ck,[⟨bk,86,ck*1,flatMap cK (p.keys.eraseIdx (aQ (t.pg (aL t k h t.root)) k))⟩],some ⟨bi,0,none⟩,ci,[⟨bi,3,ci*1,flatMap cI p.kids⟩]⟩:aZ))) rfl aq rfl rfl ot rfl rfl ot rfl rfl sizeOf127 rfl (by show 0+(aL t k h t.root).toNat*5+1+1<=(flatMap gO L).length;rw[cm iB];omega) (by show(L.flatMap gO).set (0+(aL t k h t.root).toNat*5+1) _=_;rw[Nat.zero_add];exact wM iB w8 hj (by rw[<-ho];show gO (⟨{p with keys:=(p.keys.eraseIdx (aQ (t.pg (aL t k h t.root)) k))},some ⟨bk,0,none⟩,ck,[⟨bk,86,ck*1,flatMap cK (p.keys.eraseIdx (aQ (t.pg (aL t k h t.root)) k))⟩],some ⟨bi,0,none⟩,ci,[⟨bi,3,ci*1,flatMap cI p.kids⟩]⟩:aZ)=(gO (⟨p,some ⟨bk,0,none⟩,ck,[⟨bk,86,ck*1,flatMap cK p.keys⟩],some ⟨bi,0,none⟩,ci,[⟨bi,3,ci*1,flatMap cI p.kids⟩]⟩:aZ)).set 1 _;unfold gO;rw[length_eraseIdx_of_lt ha];rfl)) iL ?_;refine fm ?_;refine aH 2 ?_
 refine OD.storeAt (k:=3) (cs':=flatMap gO (L.set (aL t k h t.root).toNat (⟨(kS p (aQ (t.pg (aL t k h t.root)) k)),some ⟨bk,0,none⟩,ck,[⟨bk,86,ck*1,flatMap cK (p.keys.eraseIdx (aQ (t.pg (aL t k h t.root)) k))⟩],some ⟨bi,0,none⟩,ci,[⟨bi,3,ci*1,flatMap cI (p.kids.eraseIdx (aQ (t.pg (aL t k h t.root)) k))⟩]⟩:aZ))) aq rfl rfl ot rfl rfl ot rfl rfl sizeOf61 rfl (by show 0+(aL t k h t.root).toNat*5+2+1<=(flatMap gO (L.set (aL t k h t.root).toNat (⟨{p with keys:=(p.keys.eraseIdx (aQ (t.pg (aL t k h t.root)) k))},some ⟨bk,0,none⟩,ck,[⟨bk,86,ck*1,flatMap cK (p.keys.eraseIdx (aQ (t.pg (aL t k h t.root)) k))⟩],some ⟨bi,0,none⟩,ci,[⟨bi,3,ci*1,flatMap cI p.kids⟩]⟩:aZ))).length;rw[cm iB,length_set];omega) (by show(flatMap gO (L.set (aL t k h t.root).toNat (⟨{p with keys:=(p.keys.eraseIdx (aQ (t.pg (aL t k h t.root)) k))},some ⟨bk,0,none⟩,ck,[⟨bk,86,ck*1,flatMap cK (p.keys.eraseIdx (aQ (t.pg (aL t k h t.root)) k))⟩],some ⟨bi,0,none⟩,ci,[⟨bi,3,ci*1,flatMap cI p.kids⟩]⟩:aZ))).set (0+(aL t k h t.root).toNat*5+2) _=_;rw[Nat.zero_add,wM iB (a':=(⟨(kS p (aQ (t.pg (aL t k h t.root)) k)),some ⟨bk,0,none⟩,ck,[⟨bk,86,ck*1,flatMap cK (p.keys.eraseIdx (aQ (t.pg (aL t k h t.root)) k))⟩],some ⟨bi,0,none⟩,ci,[⟨bi,3,ci*1,flatMap cI (p.kids.eraseIdx (aQ (t.pg (aL t k h t.root)) k))⟩]⟩:aZ)) w8 vX (by rw[getElem_set_self];show gO (⟨(kS p (aQ (t.pg (aL t k h t.root)) k)),some ⟨bk,0,none⟩,ck,[⟨bk,86,ck*1,flatMap cK (p.keys.eraseIdx (aQ (t.pg (aL t k h t.root)) k))⟩],some ⟨bi,0,none⟩,ci,[⟨bi,3,ci*1,flatMap cI (p.kids.eraseIdx (aQ (t.pg (aL t k h t.root)) k))⟩]⟩:aZ)=(gO (⟨{p with keys:=(p.keys.eraseIdx (aQ (t.pg (aL t k h t.root)) k))},some ⟨bk,0,none⟩,ck,[⟨bk,86,ck*1,flatMap cK (p.keys.eraseIdx (aQ (t.pg (aL t k h t.root)) k))⟩],some ⟨bi,0,none⟩,ci,[⟨bi,3,ci*1,flatMap cI p.kids⟩]⟩:aZ)).set 2 _;unfold gO kS;simp only[];rw[length_eraseIdx_of_lt oW];rfl),List.set_set]) ?_
 have wc:(⟨bk,86,ck*1,flatMap cK (p.keys.eraseIdx (aQ (t.pg (aL t k h t.root)) k))⟩::⟨bi,3,ci*1,flatMap cI (p.kids.eraseIdx (aQ (t.pg (aL t k h t.root)) k))⟩::((L.eraseIdx (aL t k h t.root).toNat).flatMap bO)).Perm ((L.set (aL t k h t.root).toNat (⟨(kS p (aQ (t.pg (aL t k h t.root)) k)),some ⟨bk,0,none⟩,ck,[⟨bk,86,ck*1,flatMap cK (p.keys.eraseIdx (aQ (t.pg (aL t k h t.root)) k))⟩],some ⟨bi,0,none⟩,ci,[⟨bi,3,ci*1,flatMap cI (p.kids.eraseIdx (aQ (t.pg (aL t k h t.root)) k))⟩]⟩:aZ)).flatMap bO):=(zc bO hj (⟨(kS p (aQ (t.pg (aL t k h t.root)) k)),some ⟨bk,0,none⟩,ck,[⟨bk,86,ck*1,flatMap cK (p.keys.eraseIdx (aQ (t.pg (aL t k h t.root)) k))⟩],some ⟨bi,0,none⟩,ci,[⟨bi,3,ci*1,flatMap cI (p.kids.eraseIdx (aQ (t.pg (aL t k h t.root)) k))⟩]⟩:aZ)).symm;refine OD.perm (Perm.cons _ (Perm.cons _ (Perm.cons _ (Perm.cons _ wc)))) ?_;refine an 58 [4,7] ?_;refine aB 1 ?_;refine aP 1 [_,_] sizeOf66 ?_;refine an 58 [4,5] ?_
 refine aK ([⟨bx,129,cap*5,flatMap gO (L.set (aL t k h t.root).toNat (⟨(kS p (aQ (t.pg (aL t k h t.root)) k)),some ⟨bk,0,none⟩,ck,[⟨bk,86,ck*1,flatMap cK (p.keys.eraseIdx (aQ (t.pg (aL t k h t.root)) k))⟩],some ⟨bi,0,none⟩,ci,[⟨bi,3,ci*1,flatMap cI (p.kids.eraseIdx (aQ (t.pg (aL t k h t.root)) k))⟩]⟩:aZ))⟩]++(L.set (aL t k h t.root).toNat (⟨(kS p (aQ (t.pg (aL t k h t.root)) k)),some ⟨bk,0,none⟩,ck,[⟨bk,86,ck*1,flatMap cK (p.keys.eraseIdx (aQ (t.pg (aL t k h t.root)) k))⟩],some ⟨bi,0,none⟩,ci,[⟨bi,3,ci*1,flatMap cI (p.kids.eraseIdx (aQ (t.pg (aL t k h t.root)) k))⟩]⟩:aZ)).flatMap bO) ?_;unfold rH;rw[if_pos hz,if_pos gG];refine⟨_,rfl,L.set (aL t k h t.root).toNat (⟨(kS p (aQ (t.pg (aL t k h t.root)) k)),some ⟨bk,0,none⟩,ck,[⟨bk,86,ck*1,flatMap cK (p.keys.eraseIdx (aQ (t.pg (aL t k h t.root)) k))⟩],some ⟨bi,0,none⟩,ci,[⟨bi,3,ci*1,flatMap cI (p.kids.eraseIdx (aQ (t.pg (aL t k h t.root)) k))⟩]⟩:aZ),some ⟨bx,0,none⟩,cap,_,by rw[length_set];rfl,bJ ye yl,fun x hx=>?_,?_,rfl⟩
 ·rcases mem_or_eq_of_mem_set hx with hx|rfl
  ·exact aW x hx
  exact⟨bJ (by show(p.keys.eraseIdx (aQ (t.pg (aL t k h t.root)) k)).length<=ck;rw[length_eraseIdx_of_lt ha];omega) ym,bJ (by show(p.kids.eraseIdx (aQ (t.pg (aL t k h t.root)) k)).length<=ci;rw[length_eraseIdx_of_lt oW];omega) Hv⟩
 rw[map_set,hL];show _=t.ag.set (aL t k h t.root).toNat (kS (t.pg (aL t k h t.root)) (aQ (t.pg (aL t k h t.root)) k));rw[<-iv]
theorem acH(t:aF)(h:Nat)(k:K)(hb:∀p∈t.ag,p.keys.length<=maxLen/\p.kids.length<=maxLen)(E:gQ t=0->Valid t h):VP Tryz.prog G 95 [.agg (cT t),ap 1 cB k] (.da [.agg (cT (rH t k h).1),ae (rH t k h).2]):=(acG t h k hb E).cover fun r S hr=>hr.view

def Xv(L:List aZ)(b:Nat)(root:Int)(j:Nat)(p:c8)(r:D)(S:List ah):Prop:=r = .da [.list 1 ((ij p).flatMap cB) (ij p).length,ae (L.length:Nat)]/\∃L' ad cap Sx,uA L' ad cap Sx/\(∀o∈L',qZ o)/\L'.map aZ.p=(L.map aZ.p).set j (eB p L.length)++[cA p]/\S=⟨b,66,2,[aT ad (length L') cap,ae root]⟩::(Sx++L'.flatMap bO)
theorem P3:(Tryz.prog.info? 129).map (fun i=>(i.zero,i.size,i.bytes))=some (some (.agg #[.bool false,.slice none 0 0,.slice none 0 0,.slice none 0 0,.int .i64 0]),5,88):=by kernel_rfl
theorem aet(L:List aZ)(b:Nat)(root i:Int)(ad:Option Addr)(cap:Nat)(Sx:List ah)(hi:0<=i/\i<L.length)(hn:L.length<=10000)(dP:uA L ad cap Sx)(aW:∀o∈L,qZ o)(h5:(L[i.toNat]'w4).p.keys.length=5)(eo:(L[i.toNat]'w4).p.leaf=true->(L[i.toNat]'w4).p.kids.length=5)(tK:(L[i.toNat]'w4).p.leaf=false->(L[i.toNat]'w4).p.kids.length=6)(tL:∀k∈(L[i.toNat]'w4).p.keys,k.length<=100)(hh:(L[i.toNat]'w4).p.high.length<=100) :
 VC Tryz.prog G 74 [cY b,ae i] (⟨b,66,2,[aT ad L.length cap,ae root]⟩::(Sx++L.flatMap bO)) (Xv L b root i.toNat (L[i.toNat]'w4).p):=by
 refine VC.body func74 rfl ntmps74 aU fun X0 w0 bj=>?_;have cR:=dI;have hj:i.toNat<L.length:=(by omega)
 obtain⟨bx,rfl,gi,yl,rfl⟩:=dP.pos w4;have yD:=aW _ (getElem_mem hj);obtain⟨o,ho⟩:∃o,o=L[i.toNat]:=⟨_,rfl⟩
 rw[<-ho] at yD h5 eo tK tL hh |-;rcases o with ⟨p,ak,ck,sk,ai,ci,si⟩
 obtain⟨cM,lC⟩:n8 p.keys ak ck sk/\nh p.kids ai ci si:=yD;change p.keys.length=5 at h5;change p.leaf=true->p.kids.length=5 at eo;change p.leaf=false->p.kids.length=6 at tK;change ∀k∈p.keys,k.length<=100 at tL;change p.high.length<=100 at hh;have LY:(L.flatMap bO).Perm (sk++(si++((L.eraseIdx i.toNat).flatMap bO))):=(by have:=zv bO hj;rw[<-ho] at this;exact this.trans (by rw[show bO ⟨p,ak,ck,sk,ai,ci,si⟩=sk++si from rfl,append_assoc]))
 refine CD.perm (Perm.cons _ (Perm.cons _ LY)) ?_;have qe:ij p=p.keys[2]'w4:=zD h5;have ZF:(p.keys[2]'w4).length<=100:=tL _ (getElem_mem _);refine af [0,1] ?_;refine aB 5 ?_;refine bN (dL 5 (h:=by first|exact .l (j:=i.toNat) (Int.toNat_of_nonneg hi.1).symm hj|exact .r (j:=i.toNat) (Int.toNat_of_nonneg hi.1).symm hj)) ?_;refine bN (dz (mk:=Op.load 129) rfl ot (dJ (k:=1) (ls:=L) (i:=i.toNat) iB rfl rfl rfl isAgg129 sizeOf129 hj)) ?_;refine OD.alloc (ds:=[_,_,_,_,_]) aq rfl rfl zeroValue129 rfl (fun b6=>?_);refine aP 0 [_,_,_,_,_] sizeOf129 ?_;refine an 98 [0,1,6] ?_;refine CD.seq ?_;refine CD.wk (Wk.cover (A:=⟨b6,129,5,gO L[i.toNat]⟩) (R:=⟨b,66,2,[aT (some ⟨bx,0,none⟩) L.length cap,ae root]⟩::⟨bx,129,cap*5,flatMap gO L⟩::((L.eraseIdx i.toNat).flatMap bO)) (Sd:=sk++si) (cs':=cP p) (Perm.cons _ (Perm.cons _ (Perm.cons _ (by rw[<-append_assoc];exact perm_append_comm)))) (by show gU _ (gO L[i.toNat]) _;rw[<-ho];exact⟨ff,lU cM (cm gr _) (fun B hB=>mem_append_left _ hB),lU lC (cm eC _) (fun B hB=>mem_append_right _ hB),ff,ff,trivial⟩)) ?_;refine dw 7 ?_;refine OD.alloc (ds:=[_,_,_,_,_]) aq rfl rfl zeroValue129 rfl (fun b7=>?_);refine aP 0 [_,_,_,_,_] sizeOf129 ?_;refine an 98 [0,1,6,7] ?_;refine cz [0,1,6,7,8] ?_
 refine aR 2 ?_ (h:=by exact(nV (mk:=Op.indexAddr 127) rfl ot bV (by first|exact oF runUnderlying127 sizeOf86 (j:=2) rfl w4|exact oI runUnderlying127 sizeOf86 (j:=2) rfl w4)));refine bA ?_;refine CD.cut (fun aE=>∃(b7:Nat),∃(O:Option Addr),∃(U:Nat),∃(E:List ah),∃(Z:Option Addr),∃(iQ:Nat),∃(I:List ah),∃(jA:Option Addr),∃(fg:Nat),∃(ji:List ah),(n8 (cA p).keys O U E)/\(nh (cA p).kids Z iQ I)/\(nh (eB p L.length).kids jA fg ji)/\aE=(⟨98,[(0,cY b),(1,ae i),(6,cY b6),(7,cY b7),(8,.list 1 ((ij p).flatMap cB) (ij p).length)],(⟨b7,129,5,[bP p.leaf,aT O (cA p).keys.length U,aT Z (cA p).kids.length iQ,ap 1 cB p.high,ae p.next]⟩::⟨b6,129,5,[bP p.leaf,ap 1 cK p.keys,aT jA (eB p L.length).kids.length fg,ap 1 cB p.high,ae p.next]⟩::⟨b,66,2,[aT (some ⟨bx,0,none⟩) L.length cap,ae root]⟩::⟨bx,129,cap*5,flatMap gO L⟩::(ji++(I++(E++((L.eraseIdx i.toNat).flatMap bO)))))⟩:St)) ?_ ?_
 ·refine af [0,1,6,7,8,28] ?_;refine au ?_ ?_<;>intro aJ bz
  ·have fT:p.leaf=true:=aJ;have eo:=eo fT;refine CD.cut (fun aE=>∃(O:Option Addr),∃(U:Nat),∃(E:List ah),∃(Z:Option Addr),∃(iQ:Nat),∃(I:List ah),(n8 (cA p).keys O U E)/\(nh (cA p).kids Z iQ I)/\aE=(⟨98,[(0,cY b),(1,ae i),(6,cY b6),(7,cY b7),(8,.list 1 ((ij p).flatMap cB) (ij p).length)],(⟨b7,129,5,[bP p.leaf,aT O (cA p).keys.length U,aT Z (cA p).kids.length iQ,ap 1 cB p.high,ae p.next]⟩::⟨b6,129,5,[bP p.leaf,ap 1 cK p.keys,ap 1 cI p.kids,ap 1 cB p.high,ae p.next]⟩::⟨b,66,2,[aT (some ⟨bx,0,none⟩) L.length cap,ae root]⟩::⟨bx,129,cap*5,flatMap gO L⟩::(I++(E++((L.eraseIdx i.toNat).flatMap bO))))⟩:St)) ?_ ?_
   ·refine gP 10 (av (take 2 (drop 1 _))) ?_ (fun _ h=>(Sublist.map _ ((take_sublist _ _).trans (drop_sublist _ _))).subset h);refine aD 0 rfl (dQ 1) ?_;refine aD 4 rfl (dQ 2) ?_;refine dM.later rfl ?_;refine AD.two (i:=1) (j:=5) aC ?_ ?_
    ·refine at_ rfl (dS 1) ?_;refine dm 2 rfl (eE (l:=2) rfl ot ⟨_,bV⟩ trivial Hg) ?_;refine AD.two (i:=3) (j:=5) aC ?_ ?_
     ·have Cn:VC Tryz.prog G 117 [.list 1 ((p.keys.drop 2).flatMap cK) (p.keys.drop 2).length] [] (fun r S=>∃ad cap,r=aT ad (cA p).keys.length cap/\n8 (cA p).keys ad cap S):=(by rw[show(p.keys.drop 2)=(cA p).keys from vV];exact wR _ Nz)
      refine bC.call rfl aq rfl rfl rfl call117 Cn ⟨ot,trivial⟩ (eX _) iL ?_;rintro _ Ec ⟨Ed,Ee,rfl,CZ⟩;refine AD.perm (kG (A:=[_,_,_,_])) ?_;refine dm 8 rfl (dQ 1) ?_;refine AD.one (i:=5) aC ?_;refine at_ rfl (dS 1) ?_;refine dm 6 rfl (eE (l:=2) rfl ot ⟨_,bV⟩ trivial AE) ?_;refine AD.one (i:=7) aC ?_;have Co:VC Tryz.prog G 108 [.list 1 ((p.kids.drop 2).flatMap cI) (p.kids.drop 2).length] [] (fun r S=>∃ad cap,r=aT ad (cA p).kids.length cap/\nh (cA p).kids ad cap S):=(by rw[show(p.kids.drop 2)=(cA p).kids from vU];exact ri _ Nx)
      refine bC.call rfl aq rfl rfl rfl call108 Co ⟨ot,trivial⟩ (eX _) iL ?_;rintro _ Ef ⟨Eg,Eh,rfl,C0⟩;refine AD.perm (kG (A:=[_,_,_,_])) ?_;refine AD.one (i:=9) aC ?_;refine ee 0 [_,_,_,_,_] sizeOf127 ?_;refine fm ?_;refine aH 1 ?_;refine aP 0 [_,_,_,_,_] sizeOf61 ?_;refine an 98 [0,1,6,7,8] ?_;refine⟨_,(aI (h:=by repeat (first|exact trivial|refine⟨w7,?_⟩))),Ed,Ee,Ec,Eg,Eh,Ef,CZ,C0,rfl⟩
     refine at_ rfl (dS 1) ?_;refine dm 6 rfl (eE (l:=2) rfl ot ⟨_,bV⟩ trivial AE) ?_;refine AD.one (i:=3) aC ?_;have Cn:VC Tryz.prog G 117 [.list 1 ((p.keys.drop 2).flatMap cK) (p.keys.drop 2).length] [] (fun r S=>∃ad cap,r=aT ad (cA p).keys.length cap/\n8 (cA p).keys ad cap S):=(by rw[show(p.keys.drop 2)=(cA p).keys from vV];exact wR _ Nz)
     refine bC.call rfl aq rfl rfl rfl call117 Cn ⟨ot,trivial⟩ (eX _) iL ?_;rintro _ Ec ⟨Ed,Ee,rfl,CZ⟩;refine AD.perm (kG (A:=[_,_,_,_])) ?_;refine dm 8 rfl (dQ 1) ?_;refine AD.one (i:=7) aC ?_;have Co:VC Tryz.prog G 108 [.list 1 ((p.kids.drop 2).flatMap cI) (p.kids.drop 2).length] [] (fun r S=>∃ad cap,r=aT ad (cA p).kids.length cap/\nh (cA p).kids ad cap S):=(by rw[show(p.kids.drop 2)=(cA p).kids from vU];exact ri _ Nx)
     refine bC.call rfl aq rfl rfl rfl call108 Co ⟨ot,trivial⟩ (eX _) iL ?_;rintro _ Ef ⟨Eg,Eh,rfl,C0⟩;refine AD.perm (kG (A:=[_,_,_,_])) ?_;refine AD.one (i:=9) aC ?_;refine ee 0 [_,_,_,_,_] sizeOf127 ?_;refine fm ?_;refine aH 1 ?_;refine aP 0 [_,_,_,_,_] sizeOf61 ?_;refine an 98 [0,1,6,7,8] ?_;refine⟨_,(aI (h:=by repeat (first|exact trivial|refine⟨w7,?_⟩))),Ed,Ee,Ec,Eg,Eh,Ef,CZ,C0,rfl⟩
    refine at_ rfl (dS 1) ?_;refine dm 6 rfl (eE (l:=2) rfl ot ⟨_,bV⟩ trivial AE) ?_;refine AD.one (i:=1) aC ?_;refine at_ rfl (dS 1) ?_;refine dm 2 rfl (eE (l:=2) rfl ot ⟨_,bV⟩ trivial Hg) ?_;refine AD.one (i:=3) aC ?_;have Cn:VC Tryz.prog G 117 [.list 1 ((p.keys.drop 2).flatMap cK) (p.keys.drop 2).length] [] (fun r S=>∃ad cap,r=aT ad (cA p).keys.length cap/\n8 (cA p).keys ad cap S):=(by rw[show(p.keys.drop 2)=(cA p).keys from vV];exact wR _ Nz)
    refine bC.call rfl aq rfl rfl rfl call117 Cn ⟨ot,trivial⟩ (eX _) iL ?_;rintro _ Ec ⟨Ed,Ee,rfl,CZ⟩;refine AD.perm (kG (A:=[_,_,_,_])) ?_;refine dm 8 rfl (dQ 1) ?_;refine AD.one (i:=7) aC ?_;have Co:VC Tryz.prog G 108 [.list 1 ((p.kids.drop 2).flatMap cI) (p.kids.drop 2).length] [] (fun r S=>∃ad cap,r=aT ad (cA p).kids.length cap/\nh (cA p).kids ad cap S):=(by rw[show(p.kids.drop 2)=(cA p).kids from vU];exact ri _ Nx)
    refine bC.call rfl aq rfl rfl rfl call108 Co ⟨ot,trivial⟩ (eX _) iL ?_;rintro _ Ef ⟨Eg,Eh,rfl,C0⟩;refine AD.perm (kG (A:=[_,_,_,_])) ?_;refine AD.one (i:=9) aC ?_;refine ee 0 [_,_,_,_,_] sizeOf127 ?_;refine fm ?_;refine aH 1 ?_;refine aP 0 [_,_,_,_,_] sizeOf61 ?_;refine an 98 [0,1,6,7,8] ?_;refine⟨_,(aI (h:=by repeat (first|exact trivial|refine⟨w7,?_⟩))),Ed,Ee,Ec,Eg,Eh,Ef,CZ,C0,rfl⟩
   rintro _ ⟨O,U,E,Z,iQ,I,qM,C1,rfl⟩;refine dw 2 ?_;refine bN (eE (l:=0) (h:=2) rfl ot trivial ⟨_,bV⟩ (by first|exact nx gr (fun h=>by cases h) runUnderlying61 sizeOf3 w4|exact nx eC (fun h=>by cases h) runUnderlying61 sizeOf3 w4|exact mW (fun h=>by cases h) runUnderlying61 sizeOf3 w4|exact mz (fun _=>rfl) (fun h=>by cases h) runUnderlying61 sizeOf3 w4 w4)) ?_;have aiP:VC Tryz.prog G 108 [.list 1 ((p.kids.take 2).flatMap cI) (p.kids.take 2).length] [] (fun r S=>∃ad cap,r=aT ad (eB p L.length).kids.length cap/\nh (eB p L.length).kids ad cap S):=(by rw[show(p.kids.take 2)=(eB p L.length).kids from Hj];exact ri _ (by rw[<-show(p.kids.take 2)=(eB p L.length).kids from Hj];simp only[length_take,length_drop];omega))
   refine OD.call aq rfl rfl rfl call108 aiP ⟨ot,trivial⟩ (eX _) ?_;rintro _ S42 ⟨a42,c42,rfl,alk⟩;refine OD.perm (kG (A:=[_,_,_,_])) ?_;refine aH 1 ?_;refine aP 1 [_,_,_,_,_] sizeOf61 ?_;refine an 98 [0,1,6,7,8] ?_;refine⟨_,(aI (h:=by repeat (first|exact trivial|refine⟨w7,?_⟩))),b7,O,U,E,Z,iQ,I,a42,c42,S42,qM,C1,alk,rfl⟩
  have fT:p.leaf=false:=aJ;have tK:=tK fT;refine CD.cut (fun aE=>∃(O:Option Addr),∃(U:Nat),∃(E:List ah),∃(Z:Option Addr),∃(iQ:Nat),∃(I:List ah),(n8 (cA p).keys O U E)/\(nh (cA p).kids Z iQ I)/\aE=(⟨98,[(0,cY b),(1,ae i),(6,cY b6),(7,cY b7),(8,.list 1 ((ij p).flatMap cB) (ij p).length)],(⟨b7,129,5,[bP p.leaf,aT O (cA p).keys.length U,aT Z (cA p).kids.length iQ,ap 1 cB p.high,ae p.next]⟩::⟨b6,129,5,[bP p.leaf,ap 1 cK p.keys,ap 1 cI p.kids,ap 1 cB p.high,ae p.next]⟩::⟨b,66,2,[aT (some ⟨bx,0,none⟩) L.length cap,ae root]⟩::⟨bx,129,cap*5,flatMap gO L⟩::(I++(E++((L.eraseIdx i.toNat).flatMap bO))))⟩:St)) ?_ ?_
  ·refine gP 10 (av (take 2 (drop 1 _))) ?_ (fun _ h=>(Sublist.map _ ((take_sublist _ _).trans (drop_sublist _ _))).subset h);refine aD 0 rfl (dQ 1) ?_;refine aD 4 rfl (dQ 2) ?_;refine dM.later rfl ?_;refine AD.two (i:=1) (j:=5) aC ?_ ?_
   ·refine at_ rfl (dS 1) ?_;refine dm 2 rfl (eE (l:=3) rfl ot ⟨_,bV⟩ trivial Hg) ?_;refine AD.two (i:=3) (j:=5) aC ?_ ?_
    ·have Cp:VC Tryz.prog G 117 [.list 1 ((p.keys.drop 3).flatMap cK) (p.keys.drop 3).length] [] (fun r S=>∃ad cap,r=aT ad (cA p).keys.length cap/\n8 (cA p).keys ad cap S):=(by rw[show(p.keys.drop 3)=(cA p).keys from vV];exact wR _ Ny)
     refine bC.call rfl aq rfl rfl rfl call117 Cp ⟨ot,trivial⟩ (eX _) iL ?_;rintro _ Ei ⟨Ej,Ek,rfl,C2⟩;refine AD.perm (kG (A:=[_,_,_,_])) ?_;refine dm 8 rfl (dQ 1) ?_;refine AD.one (i:=5) aC ?_;refine at_ rfl (dS 1) ?_;refine dm 6 rfl (eE (l:=3) rfl ot ⟨_,bV⟩ trivial AE) ?_;refine AD.one (i:=7) aC ?_;have Cq:VC Tryz.prog G 108 [.list 1 ((p.kids.drop 3).flatMap cI) (p.kids.drop 3).length] [] (fun r S=>∃ad cap,r=aT ad (cA p).kids.length cap/\nh (cA p).kids ad cap S):=(by rw[show(p.kids.drop 3)=(cA p).kids from vU];exact ri _ Nw)
     refine bC.call rfl aq rfl rfl rfl call108 Cq ⟨ot,trivial⟩ (eX _) iL ?_;rintro _ El ⟨a51,Em,rfl,C3⟩;refine AD.perm (kG (A:=[_,_,_,_])) ?_;refine AD.one (i:=9) aC ?_;refine ee 0 [_,_,_,_,_] sizeOf127 ?_;refine fm ?_;refine aH 1 ?_;refine aP 0 [_,_,_,_,_] sizeOf61 ?_;refine an 98 [0,1,6,7,8] ?_;refine⟨_,(aI (h:=by repeat (first|exact trivial|refine⟨w7,?_⟩))),Ej,Ek,Ei,a51,Em,El,C2,C3,rfl⟩
    refine at_ rfl (dS 1) ?_;refine dm 6 rfl (eE (l:=3) rfl ot ⟨_,bV⟩ trivial AE) ?_;refine AD.one (i:=3) aC ?_;have Cp:VC Tryz.prog G 117 [.list 1 ((p.keys.drop 3).flatMap cK) (p.keys.drop 3).length] [] (fun r S=>∃ad cap,r=aT ad (cA p).keys.length cap/\n8 (cA p).keys ad cap S):=(by rw[show(p.keys.drop 3)=(cA p).keys from vV];exact wR _ Ny)
    refine bC.call rfl aq rfl rfl rfl call117 Cp ⟨ot,trivial⟩ (eX _) iL ?_;rintro _ Ei ⟨Ej,Ek,rfl,C2⟩;refine AD.perm (kG (A:=[_,_,_,_])) ?_;refine dm 8 rfl (dQ 1) ?_;refine AD.one (i:=7) aC ?_;have Cq:VC Tryz.prog G 108 [.list 1 ((p.kids.drop 3).flatMap cI) (p.kids.drop 3).length] [] (fun r S=>∃ad cap,r=aT ad (cA p).kids.length cap/\nh (cA p).kids ad cap S):=(by rw[show(p.kids.drop 3)=(cA p).kids from vU];exact ri _ Nw)
    refine bC.call rfl aq rfl rfl rfl call108 Cq ⟨ot,trivial⟩ (eX _) iL ?_;rintro _ El ⟨a51,Em,rfl,C3⟩;refine AD.perm (kG (A:=[_,_,_,_])) ?_;refine AD.one (i:=9) aC ?_;refine ee 0 [_,_,_,_,_] sizeOf127 ?_;refine fm ?_;refine aH 1 ?_;refine aP 0 [_,_,_,_,_] sizeOf61 ?_;refine an 98 [0,1,6,7,8] ?_;refine⟨_,(aI (h:=by repeat (first|exact trivial|refine⟨w7,?_⟩))),Ej,Ek,Ei,a51,Em,El,C2,C3,rfl⟩
   refine at_ rfl (dS 1) ?_;refine dm 6 rfl (eE (l:=3) rfl ot ⟨_,bV⟩ trivial AE) ?_;refine AD.one (i:=1) aC ?_;refine at_ rfl (dS 1) ?_;refine dm 2 rfl (eE (l:=3) rfl ot ⟨_,bV⟩ trivial Hg) ?_;refine AD.one (i:=3) aC ?_;have Cp:VC Tryz.prog G 117 [.list 1 ((p.keys.drop 3).flatMap cK) (p.keys.drop 3).length] [] (fun r S=>∃ad cap,r=aT ad (cA p).keys.length cap/\n8 (cA p).keys ad cap S):=(by rw[show(p.keys.drop 3)=(cA p).keys from vV];exact wR _ Ny)
   refine bC.call rfl aq rfl rfl rfl call117 Cp ⟨ot,trivial⟩ (eX _) iL ?_;rintro _ Ei ⟨Ej,Ek,rfl,C2⟩;refine AD.perm (kG (A:=[_,_,_,_])) ?_;refine dm 8 rfl (dQ 1) ?_;refine AD.one (i:=7) aC ?_;have Cq:VC Tryz.prog G 108 [.list 1 ((p.kids.drop 3).flatMap cI) (p.kids.drop 3).length] [] (fun r S=>∃ad cap,r=aT ad (cA p).kids.length cap/\nh (cA p).kids ad cap S):=(by rw[show(p.kids.drop 3)=(cA p).kids from vU];exact ri _ Nw)
   refine bC.call rfl aq rfl rfl rfl call108 Cq ⟨ot,trivial⟩ (eX _) iL ?_;rintro _ El ⟨a51,Em,rfl,C3⟩;refine AD.perm (kG (A:=[_,_,_,_])) ?_;refine AD.one (i:=9) aC ?_;refine ee 0 [_,_,_,_,_] sizeOf127 ?_;refine fm ?_;refine aH 1 ?_;refine aP 0 [_,_,_,_,_] sizeOf61 ?_;refine an 98 [0,1,6,7,8] ?_;refine⟨_,(aI (h:=by repeat (first|exact trivial|refine⟨w7,?_⟩))),Ej,Ek,Ei,a51,Em,El,C2,C3,rfl⟩
  rintro _ ⟨O,U,E,Z,iQ,I,qM,C1,rfl⟩;refine dw 2 ?_;refine bN (eE (l:=0) (h:=3) rfl ot trivial ⟨_,bV⟩ (by first|exact nx gr (fun h=>by cases h) runUnderlying61 sizeOf3 w4|exact nx eC (fun h=>by cases h) runUnderlying61 sizeOf3 w4|exact mW (fun h=>by cases h) runUnderlying61 sizeOf3 w4|exact mz (fun _=>rfl) (fun h=>by cases h) runUnderlying61 sizeOf3 w4 w4)) ?_;have aiQ:VC Tryz.prog G 108 [.list 1 ((p.kids.take 3).flatMap cI) (p.kids.take 3).length] [] (fun r S=>∃ad cap,r=aT ad (eB p L.length).kids.length cap/\nh (eB p L.length).kids ad cap S):=(by rw[show(p.kids.take 3)=(eB p L.length).kids from Hj];exact ri _ (by rw[<-show(p.kids.take 3)=(eB p L.length).kids from Hj];simp only[length_take,length_drop];omega))
  refine OD.call aq rfl rfl rfl call108 aiQ ⟨ot,trivial⟩ (eX _) ?_;rintro _ H6 ⟨a57,c57,rfl,GO⟩;refine OD.perm (kG (A:=[_,_,_,_])) ?_;refine aH 1 ?_;refine aP 1 [_,_,_,_,_] sizeOf61 ?_;refine an 98 [0,1,6,7,8] ?_;refine⟨_,(aI (h:=by repeat (first|exact trivial|refine⟨w7,?_⟩))),b7,O,U,E,Z,iQ,I,a57,c57,H6,qM,C1,GO,rfl⟩
 rintro _ ⟨b7,O,U,E,Z,iQ,I,jA,fg,ji,qM,C1,alm,rfl⟩;refine aB 2 ?_;refine bN (eE (l:=0) (h:=2) rfl ot trivial ⟨_,bV⟩ (by first|exact nx gr (fun h=>by cases h) runUnderlying127 sizeOf86 w4|exact nx eC (fun h=>by cases h) runUnderlying127 sizeOf86 w4|exact mW (fun h=>by cases h) runUnderlying127 sizeOf86 w4|exact mz (fun _=>rfl) (fun h=>by cases h) runUnderlying127 sizeOf86 w4 w4)) ?_;have aiR:VC Tryz.prog G 117 [.list 1 ((p.keys.take 2).flatMap cK) (p.keys.take 2).length] [] (fun r S=>∃ad cap,r=aT ad (eB p L.length).keys.length cap/\n8 (eB p L.length).keys ad cap S):=(by rw[show(p.keys.take 2)=(eB p L.length).keys from rfl];exact wR _ (by rw[<-show(p.keys.take 2)=(eB p L.length).keys from rfl];simp only[length_take,length_drop];omega))
 refine OD.call aq rfl rfl rfl call117 aiR ⟨ot,trivial⟩ (eX _) ?_;rintro _ jR ⟨kf,kg,rfl,aln⟩;refine OD.perm (kG (A:=[_,_,_,_])) ?_;refine aH 1 ?_;refine aP 1 [_,_,_,_,_] sizeOf127 ?_;refine an 98 [0,1,6,7,8] ?_;refine CD.cut (fun aE=>(True)/\aE=(⟨98,[(0,cY b),(1,ae i),(6,cY b6),(7,cY b7),(8,.list 1 ((ij p).flatMap cB) (ij p).length)],(⟨b7,129,5,[bP p.leaf,aT O (cA p).keys.length U,aT Z (cA p).kids.length iQ,ap 1 cB p.high,ae p.next]⟩::⟨b6,129,5,[bP p.leaf,aT kf (eB p L.length).keys.length kg,aT jA (eB p L.length).kids.length fg,.list 1 ((ij p).flatMap cB) (ij p).length,ae (L.length:Nat)]⟩::⟨b,66,2,[aT (some ⟨bx,0,none⟩) L.length cap,ae root]⟩::⟨bx,129,cap*5,flatMap gO L⟩::(jR++(ji++(I++(E++((L.eraseIdx i.toNat).flatMap bO))))))⟩:St)) ?_ ?_
 ·refine gP 9 (av (take 1 (drop 0 _))) ?_ (fun _ h=>(Sublist.map _ ((take_sublist _ _).trans (drop_sublist _ _))).subset h);refine aD 0 rfl bD ?_;refine aD 2 rfl bD ?_;refine aD 3 rfl qg ?_;refine aD 4 rfl (dQ 0) ?_;refine dM.later rfl ?_;refine AD.two (i:=1) (j:=5) aC ?_ ?_
  ·refine qm call70 (my (ij p) (by rw[qe];omega)) ?_;refine dm 7 rfl (dQ 3) ?_;refine AD.two (i:=5) (j:=8) aC ?_ ?_
   ·refine at_ rfl (dS 2) ?_;refine dm 6 rfl yu ?_;refine AD.one (i:=8) aC ?_;refine ee 1 [_,_,_,_,_] sizeOf86 ?_;refine fm ?_;refine aH 1 ?_;refine aP 1 [_,_,_,_,_] sizeOf3 ?_;refine an 98 [0,1,6,7,8] ?_;refine⟨_,(aI (h:=by repeat (first|exact trivial|refine⟨w7,?_⟩))),trivial,rfl⟩
   refine ee 1 [_,_,_,_,_] sizeOf86 ?_;refine AD.one (i:=5) aC ?_;refine at_ rfl (dS 2) ?_;refine dm 6 rfl yu ?_;refine fm ?_;refine aH 1 ?_;refine aP 1 [_,_,_,_,_] sizeOf3 ?_;refine an 98 [0,1,6,7,8] ?_;refine⟨_,(aI (h:=by repeat (first|exact trivial|refine⟨w7,?_⟩))),trivial,rfl⟩
  refine at_ rfl (dS 2) ?_;refine dm 6 rfl yu ?_;refine AD.one (i:=1) aC ?_;refine qm call70 (my (ij p) (by rw[qe];omega)) ?_;refine dm 7 rfl (dQ 3) ?_;refine AD.one (i:=8) aC ?_;refine ee 1 [_,_,_,_,_] sizeOf86 ?_;refine fm ?_;refine aH 1 ?_;refine aP 1 [_,_,_,_,_] sizeOf3 ?_;refine an 98 [0,1,6,7,8] ?_;refine⟨_,(aI (h:=by repeat (first|exact trivial|refine⟨w7,?_⟩))),trivial,rfl⟩
 rintro _ ⟨_,rfl⟩;refine CD.seq ?_;refine nk 6 [0,7,8,76,77,78] ?_;refine bA ?_;refine bN (dL 5 (h:=by first|exact .l (j:=i.toNat) (Int.toNat_of_nonneg hi.1).symm hj|exact .r (j:=i.toNat) (Int.toNat_of_nonneg hi.1).symm hj)) ?_;refine OD.storeAt (k:=3) (cs':=flatMap gO (L.set i.toNat (⟨eB p L.length,kf,kg,jR,jA,fg,ji⟩:aZ))) aq rfl rfl ot rfl rfl ot rfl rfl sizeOf129 rfl (by show 0+i.toNat*5+5<=(flatMap gO L).length;rw[cm iB];omega) (by show dh (L.flatMap gO) (0+i.toNat*5) (gO (⟨eB p L.length,kf,kg,jR,jA,fg,ji⟩:aZ))=_;rw[Nat.zero_add];exact nX iB L (⟨eB p L.length,kf,kg,jR,jA,fg,ji⟩:aZ) hj) ?_;refine an 98 [0,7,8] ?_
 refine CD.cut (fun aE=>∃(pN:Nat),∃(oU:Nat),(((L.set i.toNat (⟨eB p L.length,kf,kg,jR,jA,fg,ji⟩:aZ))++[(⟨cA p,O,U,E,Z,iQ,I⟩:aZ)]).length<=oU)/\(oU<=maxLen)/\aE=(⟨98,[(0,cY b),(8,.list 1 ((ij p).flatMap cB) (ij p).length)],(⟨pN,129,oU*5,flatMap gO ((L.set i.toNat (⟨eB p L.length,kf,kg,jR,jA,fg,ji⟩:aZ))++[(⟨cA p,O,U,E,Z,iQ,I⟩:aZ)])⟩::⟨b7,129,5,[bP p.leaf,aT O (cA p).keys.length U,aT Z (cA p).kids.length iQ,ap 1 cB p.high,ae p.next]⟩::⟨b6,129,5,[bP p.leaf,aT kf (eB p L.length).keys.length kg,aT jA (eB p L.length).kids.length fg,.list 1 ((ij p).flatMap cB) (ij p).length,ae (L.length:Nat)]⟩::⟨b,66,2,[aT (some ⟨pN,0,none⟩) ((L.set i.toNat (⟨eB p L.length,kf,kg,jR,jA,fg,ji⟩:aZ))++[(⟨cA p,O,U,E,Z,iQ,I⟩:aZ)]).length oU,ae root]⟩::(jR++(ji++(I++(E++((L.eraseIdx i.toNat).flatMap bO))))))⟩:St)) ?_ ?_
 ·refine gP 8 (av (take 2 _)) ?_ (fun _ h=>(Sublist.map _ (take_sublist _ _)).subset h);refine aD 0 rfl bD ?_;refine aD 1 rfl bD ?_;refine aD 2 rfl qg ?_;refine aD 3 rfl (dQ 0) ?_;refine aD 5 rfl (GD 0 [_,_,_,_,_]) ?_;refine dM.later rfl ?_;refine AD.two (i:=4) (j:=6) aC ?_ ?_
  ·refine at_ rfl (dz (mk:=Op.load 64) rfl ot (zA (k:=2) (d:=aT (some ⟨bx,0,none⟩) (L.set i.toNat (⟨eB p L.length,kf,kg,jR,jA,fg,ji⟩:aZ)).length cap) rfl rfl isAgg64 (by rw[length_set];rfl))) ?_;refine AD.one (i:=6) aC ?_;refine nq (cu 0 [_]) [.bool false,.slice none 0 0,.slice none 0 0,.slice none 0 0,.int .i64 0] [_,_,_,_,_] zeroValue129 runUnderlying64 sizeOf129 (fun b86=>?_);refine nQ 0 86 5 1 ?_;refine AD.one (i:=7) aC ?_;refine bC.eG (ls:=(L.set i.toNat (⟨eB p L.length,kf,kg,jR,jA,fg,ji⟩:aZ))) (new:=[(⟨cA p,O,U,E,Z,iQ,I⟩:aZ)]) (Sq:=[⟨bx,129,cap*5,flatMap gO (L.set i.toNat (⟨eB p L.length,kf,kg,jR,jA,fg,ji⟩:aZ))⟩]) iB FW rfl aq rfl rfl underlying64 P3 rfl w8 ot (bJ ye yl) (mS (k:=3) rfl) ot bq (by simp only[maxLen,length_set,length_cons,length_nil] at *;omega) (by simp only[length_set,length_cons,length_nil] at *;omega) (hT:=by intro x0 iu;have iu:x0∈[b7,b6]:=iu;show x0∈(b7::b6::_:List Nat);simp only[mem_cons,not_mem_nil,or_false] at iu |-;omega) (fun pN oU C4 C5=>?_);refine fm ?_;refine aH 2 ?_;refine aP 3 [_,_] sizeOf64 ?_;refine an 98 [0,8] ?_;refine⟨_,(aI (h:=by repeat (first|exact trivial|refine⟨w7,?_⟩))),pN,oU,C4,C5,rfl⟩
  refine nq (cu 0 [_]) [.bool false,.slice none 0 0,.slice none 0 0,.slice none 0 0,.int .i64 0] [_,_,_,_,_] zeroValue129 runUnderlying64 sizeOf129 (fun b86=>?_);refine nQ 0 86 5 1 ?_;refine AD.one (i:=4) aC ?_;refine at_ rfl (dz (mk:=Op.load 64) rfl ot (zA (k:=2) (d:=aT (some ⟨bx,0,none⟩) (L.set i.toNat (⟨eB p L.length,kf,kg,jR,jA,fg,ji⟩:aZ)).length cap) rfl rfl isAgg64 (by rw[length_set];rfl))) ?_;refine AD.one (i:=7) aC ?_;refine bC.eG (ls:=(L.set i.toNat (⟨eB p L.length,kf,kg,jR,jA,fg,ji⟩:aZ))) (new:=[(⟨cA p,O,U,E,Z,iQ,I⟩:aZ)]) (Sq:=[⟨bx,129,cap*5,flatMap gO (L.set i.toNat (⟨eB p L.length,kf,kg,jR,jA,fg,ji⟩:aZ))⟩]) iB FW rfl aq rfl rfl underlying64 P3 rfl w8 ot (bJ ye yl) (mS (k:=3) rfl) ot bq (by simp only[maxLen,length_set,length_cons,length_nil] at *;omega) (by simp only[length_set,length_cons,length_nil] at *;omega) (hT:=by intro x0 iu;have iu:x0∈[b7,b6]:=iu;show x0∈(b7::b6::_:List Nat);simp only[mem_cons,not_mem_nil,or_false] at iu |-;omega) (fun pN oU C4 C5=>?_);refine fm ?_;refine aH 2 ?_;refine aP 3 [_,_] sizeOf64 ?_;refine an 98 [0,8] ?_;refine⟨_,(aI (h:=by repeat (first|exact trivial|refine⟨w7,?_⟩))),pN,oU,C4,C5,rfl⟩
 rintro _ ⟨pN,oU,C4,C5,rfl⟩;refine CD.seq ?_;refine gP 9 (av _) ?_ (fun _ h=>h);refine aD 0 rfl bD ?_;refine aD 2 rfl bD ?_;refine aD 3 rfl qg ?_;refine aD 4 rfl (dQ 0) ?_;refine aD 5 rfl (dS 3) ?_;refine aD 6 rfl yu ?_;refine aD 7 rfl (dR (r:=.int .i64 (L.length:Nat)) rfl ot bV (iI (by rw[length_append,length_set];exact(show IntKind.wrap .i64 (((L.length+[(⟨cA p,O,U,E,Z,iQ,I⟩:aZ)].length:Nat):Int)-1)=_ from by rw[show(((L.length+[(⟨cA p,O,U,E,Z,iQ,I⟩:aZ)].length:Nat):Int)-1)=(L.length:Int) from by simp];exact wrap_i64 w4 w4)))) ?_;refine dM.later rfl ?_;refine AD.one (i:=1) aC ?_;refine qm call70 (my (ij p) (by rw[qe];omega)) ?_;have uM:(jR++(ji++(I++(E++((L.eraseIdx i.toNat).flatMap bO))))).Perm (((L.set i.toNat (⟨eB p L.length,kf,kg,jR,jA,fg,ji⟩:aZ))++[(⟨cA p,O,U,E,Z,iQ,I⟩:aZ)]).flatMap bO):=jB fun lM=>by have hq:=ads (zc bO hj (⟨eB p L.length,kf,kg,jR,jA,fg,ji⟩:aZ)) lM;rw[flatMap_append,show[(⟨cA p,O,U,E,Z,iQ,I⟩:aZ)].flatMap bO=E++(I++[]) from by simp[bO]];simp only[show bO (⟨eB p L.length,kf,kg,jR,jA,fg,ji⟩:aZ)=jR++ji from rfl,map_append,map_cons,map_nil,sum_append,sum_cons,sum_nil] at *;omega
 refine AD.perm (S':=⟨b7,129,5,gO (⟨cA p,O,U,E,Z,iQ,I⟩:aZ)⟩::⟨b6,129,5,gO (⟨eB p L.length,kf,kg,jR,jA,fg,ji⟩:aZ)⟩::⟨b,66,2,[aT (some ⟨pN,0,none⟩) ((L.set i.toNat (⟨eB p L.length,kf,kg,jR,jA,fg,ji⟩:aZ))++[(⟨cA p,O,U,E,Z,iQ,I⟩:aZ)]).length oU,ae root]⟩::(([⟨pN,129,oU*5,flatMap gO ((L.set i.toNat (⟨eB p L.length,kf,kg,jR,jA,fg,ji⟩:aZ))++[(⟨cA p,O,U,E,Z,iQ,I⟩:aZ)])⟩]:List ah)++((L.set i.toNat (⟨eB p L.length,kf,kg,jR,jA,fg,ji⟩:aZ))++[(⟨cA p,O,U,E,Z,iQ,I⟩:aZ)]).flatMap bO)) (by exact(perm_middle (l₁:=[_,_,_])).symm.trans (Perm.cons _ (Perm.cons _ (Perm.cons _ (Perm.cons _ uM))))) ?_;refine dm 8 rfl bD ?_;refine fm ?_;refine bu [4,5] ?_;refine aK (⟨b,66,2,[aT (some ⟨pN,0,none⟩) ((L.set i.toNat (⟨eB p L.length,kf,kg,jR,jA,fg,ji⟩:aZ))++[(⟨cA p,O,U,E,Z,iQ,I⟩:aZ)]).length oU,ae root]⟩::([⟨pN,129,oU*5,flatMap gO ((L.set i.toNat (⟨eB p L.length,kf,kg,jR,jA,fg,ji⟩:aZ))++[(⟨cA p,O,U,E,Z,iQ,I⟩:aZ)])⟩]++((L.set i.toNat (⟨eB p L.length,kf,kg,jR,jA,fg,ji⟩:aZ))++[(⟨cA p,O,U,E,Z,iQ,I⟩:aZ)]).flatMap bO)) ?_
 refine⟨rfl,((L.set i.toNat (⟨eB p L.length,kf,kg,jR,jA,fg,ji⟩:aZ))++[(⟨cA p,O,U,E,Z,iQ,I⟩:aZ)]),some ⟨pN,0,none⟩,oU,[⟨pN,129,oU*5,flatMap gO ((L.set i.toNat (⟨eB p L.length,kf,kg,jR,jA,fg,ji⟩:aZ))++[(⟨cA p,O,U,E,Z,iQ,I⟩:aZ)])⟩],bJ C4 C5,fun x hx=>?_,?_,rfl⟩
 ·rcases mem_append.1 hx with hx|hx
  ·rcases mem_or_eq_of_mem_set hx with hx|rfl
   ·exact aW x hx
   exact⟨aln,alm⟩
  rw[mem_singleton] at hx;subst hx;exact⟨qM,C1⟩
 rw[map_append,map_set];rfl

def iK(q:List α)(i:Nat)(a:α):List α:=q.take i++a::q.drop i
theorem zk{q:List α}{a:α}(hi:i<=q.length):(iK q i a).length=q.length+1:=by unfold iK;rw[length_append,length_take,length_cons,length_drop];omega
theorem S8{q:List α}{a:α}:iK q q.length a=q++[a]:=by unfold iK;rw[take_length,drop_length]
theorem E4{g:α->List D}(hg:∀a,(g a).length=1){q:List α}{a:α}:(iK q i a).flatMap g=(q.flatMap g).take i++(g a++(q.flatMap g).drop i):=by
 have h1:=sC hg q i;have h2:=vk hg q i;rw[Nat.mul_one] at h1 h2;unfold iK;rw[flatMap_append,flatMap_cons,h1,h2]
theorem EM{A ds:List D}{off:Nat}(hA:A.length=off)(hl:ds.length<=J.length):dh (A++J) off ds=A++(ds++J.drop ds.length):=by
 rw[uZ _ _ _ vY,take_left' hA,append_assoc,<-drop_drop,drop_left' hA]
theorem Ta{T R c:List D}(hT:T.length=i)(hc:c.length=1)(E:R.length+1<=J.length):T++(c++R) <+: dh (dh (T++J) i c) (i+1) R:=by
 rw[EM hT w4,show T++(c++J.drop c.length)=(T++c)++J.drop c.length from(append_assoc _ _ _).symm,EM (A:=T++c) vY (by rw[length_drop];omega)];exact⟨_,by simp only[append_assoc];rfl⟩
theorem UD{T R c:List D}(hT:T.length=i)(hc:c.length=1)(O:1<=J.length):T++(c++R) <+: dh (dh ((T++R)++J) (i+1) R) i c:=by
 obtain⟨E,I,hX,h1⟩:∃E I,R++J=E++I/\E.length=1:=⟨(R++J).take 1,(R++J).drop 1,(take_append_drop 1 _).symm,by rw[length_take,length_append];omega⟩
 have h2:R.length<=I.length:=(by have:=congrArg length hX;rw[length_append,length_append] at this;omega)
 have e1:(T++R)++J=(T++E)++I:=(by rw[append_assoc,hX,<-append_assoc])
 have e2:(T++E)++(R++I.drop R.length)=T++(E++(R++I.drop R.length)):=append_assoc _ _ _;rw[e1,EM (A:=T++E) vY h2,e2,EM hT vY,drop_left' w4];exact⟨I.drop R.length,by simp only[append_assoc]⟩
theorem qB(n:Nat)(x:α):(replicate n x).length=n:=length_replicate
theorem EA:(Tryz.prog.info? 86).map (fun i=>i.size)=some 1:=by kernel_rfl
theorem IP:(Tryz.prog.info? 86).map (fun i=>(i.zero,i.size,i.bytes))=some (some (.slice none 0 0),1,24):=by kernel_rfl
theorem abe(q:List K)(i:Nat)(a:K)(cap b bv:Nat)(hi:i<=q.length)(hc:q.length<=cap)(hm:cap<=maxLen)(hs:q.length<=1000):VC Tryz.prog G 72 [aT (some ⟨b,0,none⟩) q.length cap,ae (i:Nat),aT (some ⟨bv,0,none⟩) 1 1] [⟨bv,86,1*1,cK a⟩,⟨b,86,cap*1,q.flatMap cK⟩] (fun r S=>∃ad kU,r=aT ad (q.length+1) kU/\bn 86 1 ((iK q i a).flatMap cK) (iK q i a).length ad kU S):=by
 refine VC.body func72 rfl ntmps72 aU fun X0 w0 bj=>?_;refine af [0,1,2] ?_;refine aB 2 ?_;refine bN (eE (l:=i) rfl ot ⟨_,ot⟩ trivial uF) ?_;refine an 95 [0,1,2] ?_;refine af [0,1,2,7] ?_;refine af [0,1,2,7,16] ?_;refine au ?_ ?_<;>intro aJ bz
 ·exact absurd aJ (by simp at *)
 refine af [0,1,2,7,8] ?_;refine af [0,1,2,7,8,22] ?_;refine au ?_ ?_<;>intro aX cr
 ·obtain rfl:i=q.length:=(by simp at *;omega)
  refine aB 2 ?_;refine fD 0 24 1 1 ?_;refine OD.eG (ls:=q) (new:=[a]) (Sq:=[⟨b,86,cap*1,q.flatMap cK⟩]) gr pY aq rfl rfl underlying127 IP rfl w8 ot (bJ hc hm) (cZ (A:=[])) ot bq v7 iF (fun yK C6 MY MZ=>?_);refine OD.perm (dU (S1:=[⟨yK,86,C6*1,flatMap cK (q++[a])⟩]) (A:=[])) ?_;refine an 95 [6] ?_;refine aK [⟨yK,86,C6*1,flatMap cK (q++[a])⟩] ?_;exact⟨_,_,by rw[length_append];rfl,by rw[S8];exact bJ MY MZ⟩
 have aa:i<q.length:=(by omega)
 have hQ:(q.flatMap cK).length=q.length:=(by rw[cm gr];omega)
 have Z:((q.flatMap cK).take i).length=i:=(by rw[length_take];omega)
 have U:((q.flatMap cK).drop i).length=q.length-i:=(by rw[length_drop];omega)
 have j7:∀d∈(q.flatMap cK),V.one d=true:=sF pY _;refine cz [0,1,2,7,8,31] ?_;refine aR 4 ?_ (h:=by exact(EW rfl rfl ot runUnderlying127));refine bA ?_;refine au ?_ ?_<;>intro bL cJ
 ·have I:eJ cap (i) 1 0=i:=(by unfold eJ;rw[if_neg w4];omega)
  have rX:Nat.min (q.length-i) (q.length+1-(i+1))=q.length-i:=Nat.min_eq_left w4;refine aB 2 ?_;refine bN (eE (l:=0) (h:=i) rfl ot trivial ⟨_,ot⟩ Np) ?_;refine aH 5 ?_;refine OD.T5 (n:=i) (m:=q.length+1-i) (k:=1) aq rfl rfl underlying127 underlying3 IP rfl ot rfl rfl (by show i<=(q.flatMap cK).length;omega) (Eq.trans ot (congrArg (fun z=>D.v (.int .i64 z)) (show((q.length:Int)+(1:Nat)-(i:Int))=((q.length+1-i:Nat):Int) by omega))) w4 w4 GA w4 (fun HA E C7 M1=>?_);have o9:i+(q.length+1-i)=q.length+1:=(by omega)
  rw[o9] at C7 |-;refine an 95 [0,1,2,7,9] ?_;refine aB 2 ?_;refine bN (eE (l:=i) (h:=q.length+1) rfl ot ⟨_,ot⟩ trivial uF) ?_;have wq:eJ E (i) 1 0=i:=(by unfold eJ;rw[if_neg w4];omega)
  rw[wq];refine aH 1 ?_;have O:eJ E (i+1) 1 0=i+1:=(by unfold eJ;rw[if_neg w4];omega)
  refine OD.wk (Wk.toEnd (k:=0) rfl) ?_;refine OD.copy (k:=0) (k2:=1) (od:=i) (new:=cK a) (cs':=dh ((q.flatMap cK).take i++replicate (E*1-((q.flatMap cK).take i).length) D.bY) i (cK a)) aq rfl rfl underlying127 EA ot rfl rfl ot rfl rfl (by show take (Nat.min 1 (q.length+1-i)) (cK a)=_;rw[show Nat.min 1 (q.length+1-i)=1 from Nat.min_eq_left w4];rfl) (Nat.min_eq_left (by omega:1<=q.length+1-i)).symm (fun d hd=>all_eq_true.1 (pY a) d hd) (by show i+1<=((q.flatMap cK).take i++replicate (E*1-((q.flatMap cK).take i).length) D.bY).length;rw[length_append,qB,Z];omega) rfl ?_;refine an 95 [0,1,7,9] ?_;refine CD.seq ?_;refine nk 8 [9,50,53] ?_;refine aR 4 ?_ (h:=by exact(eE (l:=i+1) (h:=q.length+1) rfl ot ⟨_,ot⟩ trivial uF));refine aR 2 ?_ (h:=by exact(eE (l:=i) (h:=q.length) rfl ot ⟨_,ot⟩ trivial uF));refine iz ?_
  refine OD.copy (k:=0) (k2:=2) (od:=eJ E (i+1) 1 0) (oy:=eJ cap i 1 0) (new:=(q.flatMap cK).drop i) (cs':=dh (dh ((q.flatMap cK).take i++replicate (E*1-((q.flatMap cK).take i).length) D.bY) i (cK a)) (i+1) ((q.flatMap cK).drop i)) aq rfl rfl underlying127 EA ot rfl rfl ot rfl rfl (by show take (Nat.min (q.length-i) (q.length+1-(i+1))) (drop (eJ cap i 1 0) (q.flatMap cK))=_;rw[I,rX,take_of_length_le w4]) (by show _=Nat.min (q.length-i) (q.length+1-(i+1));rw[rX,U]) (fun d hd=>j7 d (mem_of_mem_drop hd)) (by show eJ E (i+1) 1 0+_<=(dh ((q.flatMap cK).take i++replicate (E*1-((q.flatMap cK).take i).length) D.bY) i (cK a)).length;rw[O,U,yZ,length_append,qB,Z];omega) (by show dh (dh ((q.flatMap cK).take i++replicate (E*1-((q.flatMap cK).take i).length) D.bY) i (cK a)) (eJ E (i+1) 1 0) _=_;rw[O]) ?_;refine an 95 [9] ?_;refine aB 1 ?_;refine OD.shrink (k:=0) (cs':=(iK q i a).flatMap cK) rfl (by rw[E4 gr];exact Ta Z rfl (by rw[qB,U,Z];omega)) ?_;refine an 95 [6] ?_;refine aK [⟨HA,86,E*1,(iK q i a).flatMap cK⟩] ?_;exact⟨_,_,rfl,bJ (by rw[zk hi];exact C7) M1⟩
 have I:eJ cap (i) 1 0=i:=(by unfold eJ;rw[if_neg w4];omega)
 have O:eJ cap (i+1) 1 0=i+1:=(by unfold eJ;rw[if_neg w4];omega)
 have rX:Nat.min (q.length+1-i) (q.length+1-(i+1))=q.length-i:=(by rw[show q.length+1-(i+1)=q.length-i from by omega];exact Nat.min_eq_right w4)
 refine cz [0,1,2,7,8] ?_;refine aR 4 ?_ (h:=by exact(eE (l:=0) (h:=q.length+1) rfl ot trivial ⟨_,ot⟩ Np));refine bA ?_;refine aB 5 ?_;refine bN (eE (l:=i+1) (h:=q.length+1) rfl ot ⟨_,ot⟩ trivial uF) ?_;refine OD.wk (Wk.toEnd (k:=1) rfl) ?_;refine OD.overlaps (r:=4) (k:=0) (k2:=1) aq rfl rfl func113 aC aC aC aC underlying127 sizeOf86 ot rfl rfl ot rfl rfl w8 (by show cap*1≠0;omega) ?_;refine an 95 [0,1,2,7,8,68] ?_;refine au ?_ ?_<;>intro cN en
 ·refine CD.seq ?_;refine nk 8 [0,1,2,73,76] ?_;refine aR 4 ?_ (h:=by exact(eE (l:=i+1) (h:=q.length+1) rfl ot ⟨_,ot⟩ trivial uF));refine aR 2 ?_ (h:=by exact(eE (l:=i) (h:=q.length+1) rfl ot ⟨_,ot⟩ trivial uF));refine iz ?_;refine OD.copy (k:=1) (k2:=1) (od:=eJ cap (i+1) 1 0) (oy:=eJ cap i 1 0) (new:=(q.flatMap cK).drop i) (cs':=dh ((q.flatMap cK)++replicate (cap*1-(q.flatMap cK).length) D.bY) (i+1) ((q.flatMap cK).drop i)) aq rfl rfl underlying127 EA ot rfl rfl ot rfl rfl (by show take (Nat.min (q.length+1-i) (q.length+1-(i+1))) (drop (eJ cap i 1 0) ((q.flatMap cK)++replicate (cap*1-(q.flatMap cK).length) D.bY))=_;rw[I,rX,drop_append_of_le_length w4,take_left' U]) (by show _=Nat.min (q.length+1-i) (q.length+1-(i+1));rw[rX,U]) (fun d hd=>j7 d (mem_of_mem_drop hd)) (by show eJ cap (i+1) 1 0+_<=((q.flatMap cK)++replicate (cap*1-(q.flatMap cK).length) D.bY).length;rw[O,U,length_append,qB,hQ];omega) (by show dh ((q.flatMap cK)++replicate (cap*1-(q.flatMap cK).length) D.bY) (eJ cap (i+1) 1 0) _=_;rw[O]) ?_;refine an 95 [0,1,2] ?_;refine aB 2 ?_;refine bN (eE (l:=i) (h:=q.length+1) rfl ot ⟨_,ot⟩ trivial uF) ?_;refine aH 1 ?_
  refine OD.copy (k:=1) (k2:=0) (od:=eJ cap i 1 0) (new:=cK a) (cs':=dh (dh ((q.flatMap cK)++replicate (cap*1-(q.flatMap cK).length) D.bY) (i+1) ((q.flatMap cK).drop i)) i (cK a)) aq rfl rfl underlying127 EA ot rfl rfl ot rfl rfl (by show take (Nat.min 1 (q.length+1-i)) (cK a)=_;rw[show Nat.min 1 (q.length+1-i)=1 from Nat.min_eq_left w4];rfl) (Nat.min_eq_left (by omega:1<=q.length+1-i)).symm (fun d hd=>all_eq_true.1 (pY a) d hd) (by show eJ cap i 1 0+1<=(dh ((q.flatMap cK)++replicate (cap*1-(q.flatMap cK).length) D.bY) (i+1) ((q.flatMap cK).drop i)).length;rw[I,yZ,length_append,qB,hQ];omega) (by show dh (dh ((q.flatMap cK)++replicate (cap*1-(q.flatMap cK).length) D.bY) (i+1) ((q.flatMap cK).drop i)) (eJ cap i 1 0) _=_;rw[I]) ?_;refine an 95 [0] ?_;refine aB 1 ?_;refine OD.shrink (k:=1) (cs':=(iK q i a).flatMap cK) rfl (by rw[E4 gr];show _ <+: dh (dh ((q.flatMap cK)++_) (i+1) ((q.flatMap cK).drop i)) i (cK a);rw[show(q.flatMap cK)++replicate (cap*1-(q.flatMap cK).length) D.bY=((q.flatMap cK).take i++(q.flatMap cK).drop i)++replicate (cap*1-(q.flatMap cK).length) D.bY from by rw[take_append_drop]];exact UD Z rfl (by rw[qB,hQ];omega)) ?_;refine an 95 [6] ?_;refine aK [⟨b,86,cap*1,(iK q i a).flatMap cK⟩] ?_;exact⟨_,_,rfl,bJ (by rw[zk hi];omega) hm⟩
 exact absurd cN (by simp at *)
theorem EB:(Tryz.prog.info? 3).map (fun i=>i.size)=some 1:=by kernel_rfl
theorem Jh:(Tryz.prog.info? 3).map (fun i=>(i.zero,i.size,i.bytes))=some (some (.int .i64 0),1,8):=by kernel_rfl
theorem abf(q:List Int)(i:Nat)(a:Int)(cap b bv:Nat)(hi:i<=q.length)(hc:q.length<=cap)(hm:cap<=maxLen)(hs:q.length<=1000):VC Tryz.prog G 73 [aT (some ⟨b,0,none⟩) q.length cap,ae (i:Nat),aT (some ⟨bv,0,none⟩) 1 1] [⟨bv,3,1*1,cI a⟩,⟨b,3,cap*1,q.flatMap cI⟩] (fun r S=>∃ad kU,r=aT ad (q.length+1) kU/\bn 3 1 ((iK q i a).flatMap cI) (iK q i a).length ad kU S):=by
 refine VC.body func73 rfl ntmps73 aU fun X0 w0 bj=>?_;refine af [0,1,2] ?_;refine aB 2 ?_;refine bN (eE (l:=i) rfl ot ⟨_,ot⟩ trivial uG) ?_;refine an 95 [0,1,2] ?_;refine af [0,1,2,7] ?_;refine af [0,1,2,7,16] ?_;refine au ?_ ?_<;>intro aJ bz
 ·exact absurd aJ (by simp at *)
 refine af [0,1,2,7,8] ?_;refine af [0,1,2,7,8,22] ?_;refine au ?_ ?_<;>intro aX cr
 ·obtain rfl:i=q.length:=(by simp at *;omega)
  refine aB 2 ?_;refine fD 0 24 1 1 ?_;refine OD.eG (ls:=q) (new:=[a]) (Sq:=[⟨b,3,cap*1,q.flatMap cI⟩]) eC mA aq rfl rfl underlying61 Jh rfl w8 ot (bJ hc hm) (cZ (A:=[])) ot bq v7 iF (fun yK C6 MY MZ=>?_);refine OD.perm (dU (S1:=[⟨yK,3,C6*1,flatMap cI (q++[a])⟩]) (A:=[])) ?_;refine an 95 [6] ?_;refine aK [⟨yK,3,C6*1,flatMap cI (q++[a])⟩] ?_;exact⟨_,_,by rw[length_append];rfl,by rw[S8];exact bJ MY MZ⟩
 have aa:i<q.length:=(by omega)
 have hQ:(q.flatMap cI).length=q.length:=(by rw[cm eC];omega)
 have Z:((q.flatMap cI).take i).length=i:=(by rw[length_take];omega)
 have U:((q.flatMap cI).drop i).length=q.length-i:=(by rw[length_drop];omega)
 have j7:∀d∈(q.flatMap cI),V.one d=true:=sF mA _;refine cz [0,1,2,7,8,31] ?_;refine aR 4 ?_ (h:=by exact(EW rfl rfl ot runUnderlying61));refine bA ?_;refine au ?_ ?_<;>intro bL cJ
 ·have I:eJ cap (i) 1 0=i:=(by unfold eJ;rw[if_neg w4];omega)
  have rX:Nat.min (q.length-i) (q.length+1-(i+1))=q.length-i:=Nat.min_eq_left w4;refine aB 2 ?_;refine bN (eE (l:=0) (h:=i) rfl ot trivial ⟨_,ot⟩ Nq) ?_;refine aH 5 ?_;refine OD.T5 (n:=i) (m:=q.length+1-i) (k:=1) aq rfl rfl underlying61 underlying3 Jh rfl ot rfl rfl (by show i<=(q.flatMap cI).length;omega) (Eq.trans ot (congrArg (fun z=>D.v (.int .i64 z)) (show((q.length:Int)+(1:Nat)-(i:Int))=((q.length+1-i:Nat):Int) by omega))) w4 w4 GA w4 (fun HA E C7 M1=>?_);have o9:i+(q.length+1-i)=q.length+1:=(by omega)
  rw[o9] at C7 |-;refine an 95 [0,1,2,7,9] ?_;refine aB 2 ?_;refine bN (eE (l:=i) (h:=q.length+1) rfl ot ⟨_,ot⟩ trivial uG) ?_;have wq:eJ E (i) 1 0=i:=(by unfold eJ;rw[if_neg w4];omega)
  rw[wq];refine aH 1 ?_;have O:eJ E (i+1) 1 0=i+1:=(by unfold eJ;rw[if_neg w4];omega)
  refine OD.wk (Wk.toEnd (k:=0) rfl) ?_;refine OD.copy (k:=0) (k2:=1) (od:=i) (new:=cI a) (cs':=dh ((q.flatMap cI).take i++replicate (E*1-((q.flatMap cI).take i).length) D.bY) i (cI a)) aq rfl rfl underlying61 EB ot rfl rfl ot rfl rfl (by show take (Nat.min 1 (q.length+1-i)) (cI a)=_;rw[show Nat.min 1 (q.length+1-i)=1 from Nat.min_eq_left w4];rfl) (Nat.min_eq_left (by omega:1<=q.length+1-i)).symm (fun d hd=>all_eq_true.1 (mA a) d hd) (by show i+1<=((q.flatMap cI).take i++replicate (E*1-((q.flatMap cI).take i).length) D.bY).length;rw[length_append,qB,Z];omega) rfl ?_;refine an 95 [0,1,7,9] ?_;refine CD.seq ?_;refine nk 8 [9,50,53] ?_;refine aR 4 ?_ (h:=by exact(eE (l:=i+1) (h:=q.length+1) rfl ot ⟨_,ot⟩ trivial uG));refine aR 2 ?_ (h:=by exact(eE (l:=i) (h:=q.length) rfl ot ⟨_,ot⟩ trivial uG));refine iz ?_
  refine OD.copy (k:=0) (k2:=2) (od:=eJ E (i+1) 1 0) (oy:=eJ cap i 1 0) (new:=(q.flatMap cI).drop i) (cs':=dh (dh ((q.flatMap cI).take i++replicate (E*1-((q.flatMap cI).take i).length) D.bY) i (cI a)) (i+1) ((q.flatMap cI).drop i)) aq rfl rfl underlying61 EB ot rfl rfl ot rfl rfl (by show take (Nat.min (q.length-i) (q.length+1-(i+1))) (drop (eJ cap i 1 0) (q.flatMap cI))=_;rw[I,rX,take_of_length_le w4]) (by show _=Nat.min (q.length-i) (q.length+1-(i+1));rw[rX,U]) (fun d hd=>j7 d (mem_of_mem_drop hd)) (by show eJ E (i+1) 1 0+_<=(dh ((q.flatMap cI).take i++replicate (E*1-((q.flatMap cI).take i).length) D.bY) i (cI a)).length;rw[O,U,yZ,length_append,qB,Z];omega) (by show dh (dh ((q.flatMap cI).take i++replicate (E*1-((q.flatMap cI).take i).length) D.bY) i (cI a)) (eJ E (i+1) 1 0) _=_;rw[O]) ?_;refine an 95 [9] ?_;refine aB 1 ?_;refine OD.shrink (k:=0) (cs':=(iK q i a).flatMap cI) rfl (by rw[E4 eC];exact Ta Z rfl (by rw[qB,U,Z];omega)) ?_;refine an 95 [6] ?_;refine aK [⟨HA,3,E*1,(iK q i a).flatMap cI⟩] ?_;exact⟨_,_,rfl,bJ (by rw[zk hi];exact C7) M1⟩
 have I:eJ cap (i) 1 0=i:=(by unfold eJ;rw[if_neg w4];omega)
 have O:eJ cap (i+1) 1 0=i+1:=(by unfold eJ;rw[if_neg w4];omega)
 have rX:Nat.min (q.length+1-i) (q.length+1-(i+1))=q.length-i:=(by rw[show q.length+1-(i+1)=q.length-i from by omega];exact Nat.min_eq_right w4)
 refine cz [0,1,2,7,8] ?_;refine aR 4 ?_ (h:=by exact(eE (l:=0) (h:=q.length+1) rfl ot trivial ⟨_,ot⟩ Nq));refine bA ?_;refine aB 5 ?_;refine bN (eE (l:=i+1) (h:=q.length+1) rfl ot ⟨_,ot⟩ trivial uG) ?_;refine OD.wk (Wk.toEnd (k:=1) rfl) ?_;refine OD.overlaps (r:=4) (k:=0) (k2:=1) aq rfl rfl func115 aC aC aC aC underlying61 sizeOf3 ot rfl rfl ot rfl rfl w8 (by show cap*1≠0;omega) ?_;refine an 95 [0,1,2,7,8,68] ?_;refine au ?_ ?_<;>intro cN en
 ·refine CD.seq ?_;refine nk 8 [0,1,2,73,76] ?_;refine aR 4 ?_ (h:=by exact(eE (l:=i+1) (h:=q.length+1) rfl ot ⟨_,ot⟩ trivial uG));refine aR 2 ?_ (h:=by exact(eE (l:=i) (h:=q.length+1) rfl ot ⟨_,ot⟩ trivial uG));refine iz ?_;refine OD.copy (k:=1) (k2:=1) (od:=eJ cap (i+1) 1 0) (oy:=eJ cap i 1 0) (new:=(q.flatMap cI).drop i) (cs':=dh ((q.flatMap cI)++replicate (cap*1-(q.flatMap cI).length) D.bY) (i+1) ((q.flatMap cI).drop i)) aq rfl rfl underlying61 EB ot rfl rfl ot rfl rfl (by show take (Nat.min (q.length+1-i) (q.length+1-(i+1))) (drop (eJ cap i 1 0) ((q.flatMap cI)++replicate (cap*1-(q.flatMap cI).length) D.bY))=_;rw[I,rX,drop_append_of_le_length w4,take_left' U]) (by show _=Nat.min (q.length+1-i) (q.length+1-(i+1));rw[rX,U]) (fun d hd=>j7 d (mem_of_mem_drop hd)) (by show eJ cap (i+1) 1 0+_<=((q.flatMap cI)++replicate (cap*1-(q.flatMap cI).length) D.bY).length;rw[O,U,length_append,qB,hQ];omega) (by show dh ((q.flatMap cI)++replicate (cap*1-(q.flatMap cI).length) D.bY) (eJ cap (i+1) 1 0) _=_;rw[O]) ?_;refine an 95 [0,1,2] ?_;refine aB 2 ?_;refine bN (eE (l:=i) (h:=q.length+1) rfl ot ⟨_,ot⟩ trivial uG) ?_;refine aH 1 ?_
  refine OD.copy (k:=1) (k2:=0) (od:=eJ cap i 1 0) (new:=cI a) (cs':=dh (dh ((q.flatMap cI)++replicate (cap*1-(q.flatMap cI).length) D.bY) (i+1) ((q.flatMap cI).drop i)) i (cI a)) aq rfl rfl underlying61 EB ot rfl rfl ot rfl rfl (by show take (Nat.min 1 (q.length+1-i)) (cI a)=_;rw[show Nat.min 1 (q.length+1-i)=1 from Nat.min_eq_left w4];rfl) (Nat.min_eq_left (by omega:1<=q.length+1-i)).symm (fun d hd=>all_eq_true.1 (mA a) d hd) (by show eJ cap i 1 0+1<=(dh ((q.flatMap cI)++replicate (cap*1-(q.flatMap cI).length) D.bY) (i+1) ((q.flatMap cI).drop i)).length;rw[I,yZ,length_append,qB,hQ];omega) (by show dh (dh ((q.flatMap cI)++replicate (cap*1-(q.flatMap cI).length) D.bY) (i+1) ((q.flatMap cI).drop i)) (eJ cap i 1 0) _=_;rw[I]) ?_;refine an 95 [0] ?_;refine aB 1 ?_;refine OD.shrink (k:=1) (cs':=(iK q i a).flatMap cI) rfl (by rw[E4 eC];show _ <+: dh (dh ((q.flatMap cI)++_) (i+1) ((q.flatMap cI).drop i)) i (cI a);rw[show(q.flatMap cI)++replicate (cap*1-(q.flatMap cI).length) D.bY=((q.flatMap cI).take i++(q.flatMap cI).drop i)++replicate (cap*1-(q.flatMap cI).length) D.bY from by rw[take_append_drop]];exact UD Z rfl (by rw[qB,hQ];omega)) ?_;refine an 95 [6] ?_;refine aK [⟨b,3,cap*1,(iK q i a).flatMap cI⟩] ?_;exact⟨_,_,rfl,bJ (by rw[zk hi];omega) hm⟩
 exact absurd cN (by simp at *)
theorem acI(a:K)(bv:Nat):VC Tryz.prog G 72 [cc,ae (0:Nat),aT (some ⟨bv,0,none⟩) 1 1] [⟨bv,86,1*1,cK a⟩] (fun r S=>∃ad E,r=aT ad 1 E/\bn 86 1 ((iK ([]:List K) 0 a).flatMap cK) (iK ([]:List K) 0 a).length ad E S):=by
 refine VC.body func72 rfl ntmps72 aU fun X0 w0 bj=>?_;refine af [0,1,2] ?_;refine aB 2 ?_;refine bN (EC rfl ot ⟨_,_,ot,rfl⟩ rfl runUnderlying127 sizeOf86) ?_;refine an 95 [0,1,2] ?_;refine af [0,1,2,7] ?_;refine af [0,1,2,7,16] ?_;refine au ?_ ?_<;>intro aJ bz
 ·exact absurd aJ (by simp at *)
 refine af [0,1,2,7,8] ?_;refine af [0,1,2,7,8,22] ?_;refine au ?_ ?_<;>intro aX cr
 ·refine aB 2 ?_;refine fD 0 24 1 1 ?_;refine OD.eG (ls:=([]:List K)) (new:=[a]) (Sq:=[]) gr pY aq rfl rfl underlying127 IP rfl w8 ot iR (cZ (A:=[])) ot bq (by simp[maxLen]) bq (fun O I U Z=>?_);refine OD.perm (dU (S1:=[⟨O,86,I*1,flatMap cK (([]:List K)++[a])⟩]) (A:=[])) ?_;refine an 95 [6] ?_;refine aK [⟨O,86,I*1,flatMap cK (([]:List K)++[a])⟩] ?_;exact⟨_,_,rfl,bJ U Z⟩
 exact absurd aX (by simp at *)
theorem abg(q:List K)(i:Nat)(a:K)(ad:Option Addr)(cap:Nat)(Sq:List ah)(I:Nat)(hi:i<=q.length)(hs:q.length<=1000)(ho:bn 86 1 (q.flatMap cK) q.length ad cap Sq):VC Tryz.prog G 72 [aT ad q.length cap,ae (i:Nat),aT (some ⟨I,0,none⟩) 1 1] (⟨I,86,1*1,cK a⟩::Sq) (fun r S=>∃ad E,r=aT ad (q.length+1) E/\bn 86 1 ((iK q i a).flatMap cK) (iK q i a).length ad E S):=by
 rcases ho with ⟨h1,h2,rfl,rfl,rfl⟩|⟨b,rfl,h1,h2,rfl⟩
 ·obtain rfl:=length_eq_zero_iff.1 h1;obtain rfl:i=0:=Nat.le_zero.1 hi;exact acI a I
 exact abe q i a cap b I hi h1 h2 hs
theorem acJ(a:Int)(bv:Nat):VC Tryz.prog G 73 [cc,ae (0:Nat),aT (some ⟨bv,0,none⟩) 1 1] [⟨bv,3,1*1,cI a⟩] (fun r S=>∃ad E,r=aT ad 1 E/\bn 3 1 ((iK ([]:List Int) 0 a).flatMap cI) (iK ([]:List Int) 0 a).length ad E S):=by
 refine VC.body func73 rfl ntmps73 aU fun X0 w0 bj=>?_;refine af [0,1,2] ?_;refine aB 2 ?_;refine bN (EC rfl ot ⟨_,_,ot,rfl⟩ rfl runUnderlying61 sizeOf3) ?_;refine an 95 [0,1,2] ?_;refine af [0,1,2,7] ?_;refine af [0,1,2,7,16] ?_;refine au ?_ ?_<;>intro aJ bz
 ·exact absurd aJ (by simp at *)
 refine af [0,1,2,7,8] ?_;refine af [0,1,2,7,8,22] ?_;refine au ?_ ?_<;>intro aX cr
 ·refine aB 2 ?_;refine fD 0 24 1 1 ?_;refine OD.eG (ls:=([]:List Int)) (new:=[a]) (Sq:=[]) eC mA aq rfl rfl underlying61 Jh rfl w8 ot iR (cZ (A:=[])) ot bq (by simp[maxLen]) bq (fun O I U Z=>?_);refine OD.perm (dU (S1:=[⟨O,3,I*1,flatMap cI (([]:List Int)++[a])⟩]) (A:=[])) ?_;refine an 95 [6] ?_;refine aK [⟨O,3,I*1,flatMap cI (([]:List Int)++[a])⟩] ?_;exact⟨_,_,rfl,bJ U Z⟩
 exact absurd aX (by simp at *)
theorem abh(q:List Int)(i:Nat)(a:Int)(ad:Option Addr)(cap:Nat)(Sq:List ah)(I:Nat)(hi:i<=q.length)(hs:q.length<=1000)(ho:bn 3 1 (q.flatMap cI) q.length ad cap Sq):VC Tryz.prog G 73 [aT ad q.length cap,ae (i:Nat),aT (some ⟨I,0,none⟩) 1 1] (⟨I,3,1*1,cI a⟩::Sq) (fun r S=>∃ad E,r=aT ad (q.length+1) E/\bn 3 1 ((iK q i a).flatMap cI) (iK q i a).length ad E S):=by
 rcases ho with ⟨h1,h2,rfl,rfl,rfl⟩|⟨b,rfl,h1,h2,rfl⟩
 ·obtain rfl:=length_eq_zero_iff.1 h1;obtain rfl:i=0:=Nat.le_zero.1 hi;exact acJ a I
 exact abf q i a cap b I hi h1 h2 hs

end Go.Proofs.YtbplamgacibdaaaGreatDoor.Tw
