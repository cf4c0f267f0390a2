/-
  GS: walks and plain facts, part 6.
-/
import Derived.Test.YtbplamgacibdaaaGreatDoorPGS5
set_option linter.unusedVariables false
set_option linter.unusedSimpArgs false
set_option maxRecDepth 100000
set_option maxHeartbeats 4000000
namespace Go.Proofs.YtbplamgacibdaaaGreatDoor
namespace Tw
open List
open Go.Proofs.Tryz
open Go.RowKit V Tr Pk
open Go.Lib (compareBytes)
variable {l hi k:K} {p:dc} {n many:Int} {i:Nat} {t:aE}
def cK(k:K):List D:=[an 1 cB k]
theorem gF(k:K):(cK k).length=1:=rfl
theorem qw(k:K):(cK k).all V.one=true:=rfl
def cI(n:Int):List D:=[ae n]
theorem eS(n:Int):(cI n).length=1:=rfl
theorem oM(n:Int):(cI n).all V.one=true:=rfl
def cP(p:dc):List D:=[bP p.leaf,an 1 cK p.keys,an 1 cI p.kids,an 1 cB p.high,ae p.next]
theorem GL(p:dc):(cP p).length=5:=rfl
theorem ajH(p:dc):(cP p).all V.one=true:=rfl
def cT(t:aE):List D:=[an 5 cP t.af,ae t.root]
def pD(k:K):Bool:=decide (0<k.length/\k.length<=100)
def wH(p:dc)(i:Nat):Prop:=∀(h:i<p.keys.length),pD p.keys[i]=true/\(∀(h0:0<i),bC (p.keys[i-1]'w4) p.keys[i])/\(p.high≠[]->bC p.keys[i] p.high)
theorem agf{l:List K}(h:∀i (hi:i<l.length) (h0:0<i),bC (l[i-1]'w4) l[i]):l.Pairwise bC:=by
 refine pairwise_iff_getElem.2 fun i j hi hj E=>?_;obtain⟨d,rfl⟩:∃d,j=i+1+d:=⟨j-(i+1),by omega⟩
 induction d with
 | zero=>have:=h (i+1) hj w4;simpa using this
 | succ d ih =>
  have h1:=ih w4 w4;have h2:=h (i+1+(d+1)) hj w4;exact mE h1 (by simpa using h2)
theorem UD(h:eT p n)(i:Nat):wH p i:=fun hi=>by
 have hm:=getElem_mem hi;have:=h.me _ hm;exact⟨by unfold pD;simp;omega,fun h0=>oh h.kI w4 hi,fun hne=>h.rH hne _ hm⟩
theorem LP(h:decide ((l.length:Int)>0)=true):l≠[]:=fun e=>by rw[e] at h;cases h
theorem len_nil(h:decide ((l.length:Int)>0)=false):l=[]:=by
 have:=of_decide_eq_false h;exact length_eq_zero_iff.1 w4
theorem Xg(h:decide ((hi.length:Int)>0)=true):decide (compareBytes k hi>=0)=decide (hi≠[]/\¬bC k hi):=by
 have:=LP h;unfold bC;simp[this]
theorem Xh(h:decide ((hi.length:Int)>0)=false):false=decide (hi≠[]/\¬bC k hi):=by simp[len_nil h]
variable {G:List (Nat×List Value)}
theorem ye(a b:K):VP Tryz.prog G 53 [an 1 cB a,an 1 cB b] (ae (compareBytes a b)):=by
 exact Yh
theorem Xi(a b:K)(ha:a.length<=maxLen)(hb:b.length<=maxLen):VP Tryz.prog G 110 [an 1 cB a,an 1 cB b] (bP (decide (a=b))):=by
 refine bn func110 rfl ntmps110 aP fun X0 w0 bj=>?_;refine aA [0,1] ?_;refine cN [4] ?_;refine aT 1 ?_ (h:=by exact D7);refine aT 1 ?_ (h:=by exact D7);refine bL ?_;refine eu [] ?_;refine⟨vb ?_,rfl⟩;rw[ByteArray.toList_eq,ByteArray.toList_eq];show(a==b)=decide (a=b);by_cases h:a=b<;>simp[h]
theorem AB(k:K):VP Tryz.prog G 109 [an 1 cB k] (bP (pD k)):=by
 refine bn func109 rfl ntmps109 aP fun X0 w0 bj=>?_;refine aA [0] ?_;refine az 4 ?_;refine bU 6 (fun I E=>?_) (fun I E=>?_)
 ·refine bA [2] ?_;refine fi ?_;refine⟨vb ?_,rfl⟩;unfold pD;first|(simp_all;done)|(simp_all;omega)
 refine bA [2] ?_;refine fi ?_;refine⟨vb ?_,rfl⟩;unfold pD;first|(simp_all;done)|(simp_all;omega)
theorem aev(p:dc)(k:K):VP Tryz.prog G 111 [.agg (cP p),an 1 cB k] (bP (decide (p.high≠[]/\¬bC k p.high))):=by
 refine bn func111 rfl ntmps111 aP fun X0 w0 bj=>?_;unfold cP;refine bX ?_;refine cW [_,_,_,_,_] (fun b2=>?_);refine aq 16 [1,2] ?_;refine az 5 ?_;refine bU 9 (fun E I=>?_) (fun E I=>?_)
 ·refine aG 3 ?_;refine oK iR rfl rfl rfl call53 (ye k p.high) ⟨ot,ot,trivial⟩ ?_;refine dY 16 [4] [] ?_;refine⟨vb ?_,rfl⟩;first|exact Xg E|exact Xh E
 refine bA [4] ?_;refine fi ?_;refine⟨vb ?_,rfl⟩;first|exact Xg E|exact Xh E
theorem Xj{a:Int}(h:(decide (a<0)!=((l.length:Int)==0))=false):a<0↔l=[]:=by
 have h:decide (a<0)=((l.length:Int)==0):=(by simpa using h)
 rw[<-length_eq_zero_iff];constructor
 ·intro q;rw[decide_eq_true q] at h;have:=beq_iff_eq.1 h.symm;omega
 intro q;rw[q] at h;exact of_decide_eq_true h
theorem ako{a:Int}(h:a<0↔l=[]):(!(decide (a<0)==((l.length:Int)==0)))=false:=by
 rw[<-length_eq_zero_iff] at h;by_cases q:a<0
 ·rw[decide_eq_true q,h.1 q];rfl
 rw[decide_eq_false q];have:¬l.length=0:=fun e=>q (h.2 e);simp;exact fun e=>this (by rw[e];rfl)
open Classical in
noncomputable def CS(p:dc)(many:Int):Bool:=decide (eT p many)
open Classical in
theorem FJ(h:¬eT p many):false=CS p many:=(decide_eq_false h).symm
open Classical in
theorem aew(h:eT p many):true=CS p many:=(decide_eq_true h).symm
theorem ahc(h:eT p n)(hi:i<p.kids.length):0<=p.kids[i]/\(p.leaf=false->p.kids[i]<n):=⟨h.ay _ (getElem_mem hi),fun hl=>h.wW hl _ (getElem_mem hi)⟩
theorem agh(f1:p.keys.length<=4)(f2:p.high.length<=100)(f3:-1<=p.next)(f4:p.next<many)(I:(p.next<0↔p.high=[]))(O:(p.leaf=true->p.kids.length=p.keys.length))(E:(p.leaf=false->p.kids.length=p.keys.length+1/\p.keys.length≠0))(hk:∀j,j<p.keys.length->wH p j)(hc:∀j (hj:j<p.kids.length),0<=p.kids[j]/\(p.leaf=false->p.kids[j]<many)):eT p many:=by
 refine⟨f1,f2,f3,f4,I,O,fun h=>⟨(E h).1,fun e=>(E h).2 (by rw[e];rfl)⟩,fun k h=>?_,fun hne k h=>?_,agf fun i hi h0=>(hk i hi hi).2.1 h0,fun n h=>?_,fun hl n h=>?_⟩
 ·obtain⟨i,hi,rfl⟩:=mem_iff_getElem.1 h;have:=(hk i hi hi).1;unfold pD at this;have:=of_decide_eq_true this;omega
 ·obtain⟨i,hi,rfl⟩:=mem_iff_getElem.1 h;exact(hk i hi hi).2.2 hne
 ·obtain⟨i,hi,rfl⟩:=mem_iff_getElem.1 h;exact(hc i hi).1
 obtain⟨i,hi,rfl⟩:=mem_iff_getElem.1 h;exact(hc i hi).2 hl
theorem ah1(p:dc)(many:Int)(er:p.keys.length<=maxLen)(fO:p.kids.length<=maxLen):VP Tryz.prog G 96 [.agg (cP p),ae many] (bP (CS p many)):=by
 refine bn func96 rfl ntmps96 aP fun X0 w0 bj=>?_;unfold cP;have dH:=ey;refine bX ?_;refine cW [_,_,_,_,_] (fun b2=>?_);refine aq 132 [1,2] ?_;refine az 5 ?_;refine bU 13 (fun anI Z=>?_) (fun anI Z=>?_)
 ·exact Hz
 refine aG 6 ?_;refine bU 19 (fun Nw ala=>?_) (fun Nw ala=>?_)
 ·exact Hz
 refine aG 5 ?_;refine bU 24 (fun anJ alb=>?_) (fun anJ alb=>?_)
 ·exact Hz
 refine aG 6 ?_;refine bU 30 (fun anK alc=>?_) (fun anK alc=>?_)
 ·exact Hz
 refine aG 7 ?_;refine pR iR rfl (dX rfl ot ot (Tc underlying4)) ?_;refine aq 132 [1,2,39] ?_;refine cj ?_ ?_<;>intro aM bG
 ·refine dj [4] [] ?_;exact z7
 refine en ?_;refine iT [1,2] (fun aV I aF=>(p.keys.length<=4)/\(p.high.length<=100)/\(-1<=p.next)/\(p.next<many)/\((p.next<0↔p.high=[]))/\((p.leaf=true->p.kids.length=p.keys.length))/\((p.leaf=false->p.kids.length=p.keys.length+1/\p.keys.length≠0))/\aF=(⟨132,aV,I⟩:St)) ?_ ?_
 ·refine az 3 ?_;refine bU 42 (fun sU ald=>?_) (fun sU ald=>?_)
  ·refine aG 9 ?_;refine bU 51 (fun anL ale=>?_) (fun anL ale=>?_)
   ·exact Yl
   refine aG 4 ?_;refine bU 55 (fun vz E=>?_) (fun vz E=>?_)
   ·exact absurd vz (by rw[sU];decide)
   refine bA [1,2,71] ?_;refine gB ?_;refine en ?_;refine⟨_,aI,w4,w4,w4,w4,(Xj aM),(fun _=>by omega),(fun h=>absurd sU (by rw[h];decide)),rfl⟩
  refine zn 7 ?_;refine aG 6 ?_;refine bU 55 (fun vz E=>?_) (fun vz E=>?_)
  ·refine aG 9 ?_;refine bU 64 (fun NG MB=>?_) (fun NG MB=>?_)
   ·exact Yl
   refine bA [1,2,71] ?_;refine cj ?_ ?_<;>intro bf cD
   ·refine aA [4] ?_;refine fi ?_;exact z7
   refine en ?_;refine⟨_,aI,w4,w4,w4,w4,(Xj aM),(fun h=>absurd sU (by rw[h];decide)),(fun _=>⟨by omega,by omega⟩),rfl⟩
  exact absurd vz (by rw[sU];decide)
 rintro _ ⟨f1,f2,f3,f4,f5,f6,f7,rfl⟩;refine aA [1,2,73,74,75] ?_;refine fa [1,2,73,74] (fun aV I (i:Nat) aF=>(i<=p.keys.length)/\(∀j,j<i->wH p j)/\aF=(⟨132,(75,ae (i:Nat))::aV,I⟩:St)) (fun (i:Nat)=>p.keys.length-i) 0 ⟨(Nat.zero_le _),(fun j h=>by omega),rfl⟩ ?_;rintro i _ ⟨hi,y7,rfl⟩;refine ax [1,2,73,74,75,76] ?_ ?_<;>intro cr cU
 ·have aa:i<p.keys.length:=(by omega)
  refine aA [1,2,5,6,73,74,75] ?_;refine az 1 ?_;refine eB call109 (AB p.keys[i]) ?_;refine aG 2 ?_;refine bU 83 (fun yF alf=>?_) (fun yF alf=>?_)
  ·refine aq 132 [1,2,73,74,75,110] ?_;refine e9 ?_;exact ZP
  refine aG 3 ?_;refine bU 86 (fun anM alg=>?_) (fun anM alg=>?_)
  ·refine aG 4 ?_;refine bQ (ei 1 (h:=by first|exact .l (j:=i-1) w4 w4|exact .r (j:=i-1) w4 w4)) ?_;refine aG 2 ?_;refine oK iR rfl rfl rfl call53 (ye (p.keys[i-1]'w4) p.keys[i]) ⟨ot,ot,trivial⟩ ?_;refine aG 4 ?_;refine bU 98 (fun A4 G9=>?_) (fun A4 G9=>?_)
   ·refine aq 132 [1,2,73,74,75,110] ?_;refine e9 ?_;exact ZP
   refine aG 5 ?_;exact z20
  refine zn 9 ?_;refine aG 8 ?_;exact z20
 have alh:∀j,j<p.keys.length->wH p j:=fun j hj=>y7 j w4;refine aA [1,2,113,114,115] ?_;refine fa [1,2,113,114] (fun aV I (i:Nat) aF=>(i<=p.kids.length)/\(∀j (_:j<i) (hj:j<p.kids.length),0<=p.kids[j]/\(p.leaf=false->p.kids[j]<many))/\aF=(⟨132,(115,ae (i:Nat))::aV,I⟩:St)) (fun (i:Nat)=>p.kids.length-i) 0 ⟨(Nat.zero_le _),(fun j h=>by omega),rfl⟩ ?_;rintro i _ ⟨lg,mi,rfl⟩;refine ax [1,2,113,114,115,116] ?_ ?_<;>intro eo fS
 ·have aa:i<p.kids.length:=(by omega)
  refine aA [1,2,8,113,114,115] ?_;refine az 3 ?_;refine bU 121 (fun Mp O=>?_) (fun Mp O=>?_)
  ·refine bA [1,2,113,114,115,130] ?_;refine e9 ?_;exact ZY
  refine aG 4 ?_;refine bU 125 (fun GV U=>?_) (fun GV U=>?_)
  ·refine bA [1,2,113,114,115,130] ?_;refine cj ?_ ?_<;>intro gk iC
   ·exact ZY
   exact ZV
  refine bA [1,2,113,114,115,130] ?_;refine gB ?_;exact ZV
 refine dj [4] [] ?_;refine⟨vb (aew (agh f1 f2 f3 f4 f5 f6 f7 alh fun j hj=>mi j w4 hj)),rfl⟩
def oo(keys:List K)(k:K):Bool:=decide (keys[gS keys k]?=some k)
theorem agi{keys:List K}(hi:i<=keys.length)(h1:∀m (hm:m<keys.length),m<i->bC keys[m] k)(h2:∀m (hm:m<keys.length),i<=m->¬bC keys[m] k):gS keys k=i:=by
 have E:=Ae keys k;rcases Nat.lt_trichotomy (gS keys k) i with h|h|h
 ·have aa:gS keys k<keys.length:=(by omega)
  exact absurd (h1 _ aa h) (B9 aa)
 ·exact h
 obtain⟨h',q⟩:=Cl h;exact absurd q (h2 _ h' (Nat.le_refl _))
theorem aex{keys:List K}(hr:keys.Pairwise bC)(k:K):nI keys k=if oo keys k=true then gS keys k+1 else gS keys k:=by
 have E:=Ae keys k;split
 ·rename_i hf;unfold oo at hf;have hf:=of_decide_eq_true hf;obtain⟨aa,he⟩:=List.getElem?_eq_some_iff.1 hf;refine Lp hr w4 (fun _=>?_) (fun h=>?_)
  ·show ¬bC k (keys[gS keys k+1-1]'w4);simp only[Nat.add_sub_cancel,he];exact kr k
  have:=oh hr (Nat.lt_succ_self (gS keys k)) h;rw[he] at this;exact this
 rename_i hf;refine Lp hr E (fun h0=>?_) (fun h=>?_)
 ·exact Ay (Cl (by omega:gS keys k-1<gS keys k)).2
 have h1:=B9 h;rcases Az keys[gS keys k] k with h2|h2|h2
 ·exact absurd h2 h1
 ·exfalso;apply hf;unfold oo;rw[getElem?_eq_getElem h,h2];simp
 exact h2
theorem akn{a:Nat}:((a:Nat):Int).fdiv (2 ^ min (1:Int).toNat IntKind.u64.bits)=((a/2:Nat):Int):=by
 rw[show min (1:Int).toNat IntKind.u64.bits=1 from rfl,Int.fdiv_eq_ediv_of_nonneg _ w8];rfl
theorem Wy{keys:List K}(hd:gS keys k=i)(hi:i<keys.length):(D.dB [ae (i:Nat),bP (compareBytes keys[i] k==0)]) = .dB [ae (gS keys k:Nat),bP (oo keys k)]/\([]:List ag)=[]:=by
 subst hd;refine⟨?_,rfl⟩;have:(compareBytes keys[gS keys k] k==0)=oo keys k:=by
  unfold oo;rw[getElem?_eq_getElem hi];by_cases h:keys[gS keys k]=k
  ·have:=vt.2 h;rw[this];simp[h]
  have:¬compareBytes keys[gS keys k] k=0:=fun e=>h (vt.1 e);simp[h,this]
 rw[this]
theorem Vu{keys:List K}(hd:gS keys k=i)(hi:keys.length<=i):(D.dB [ae (i:Nat),bP false]) = .dB [ae (gS keys k:Nat),bP (oo keys k)]/\([]:List ag)=[]:=by
 subst hd;refine⟨?_,rfl⟩;have:oo keys k=false:=(by unfold oo;rw[getElem?_eq_none hi];rfl)
 rw[this]
theorem aey(keys:List K)(k:K)(hr:keys.Pairwise bC)(hl:keys.length<=1000):VP Tryz.prog G 112 [an 1 cK keys,an 1 cB k,.eK (.func 53) []] (.dB [ae (gS keys k:Nat),bP (oo keys k)]):=by
 refine bn func112 rfl ntmps112 aP fun X0 w0 bj=>?_;have dH:=ey;refine aA [0,1,2] ?_;refine aA [0,1,2,8] ?_;refine aA [0,1,2,8,9,10] ?_;refine fa [0,1,2,8] (fun aV _ (I:Nat×Nat) aF=>match I with|(i,j)=>(i<=j)/\(j<=keys.length)/\(∀m (hm:m<keys.length),m<i->bC keys[m] k)/\(∀m (hm:m<keys.length),j<=m->¬bC keys[m] k)/\aF=(⟨49,(9,ae (i:Nat))::(10,ae (j:Nat))::aV,[]⟩:St)) (fun (I:Nat×Nat)=>match I with|(i,j)=>j-i) (0,keys.length) ⟨(Nat.zero_le _),(Nat.le_refl _),(fun m hm h=>by omega),(fun m hm h=>by omega),rfl⟩ ?_;rintro⟨i,j⟩ _ ⟨hij,hjn,h1,h2,rfl⟩;refine ax [0,1,2,8,9,10,17] ?_ ?_<;>intro aM bG
 ·have aa:i<j:=(by omega)
  have E:((i+j)/2)<keys.length:=(by omega)
  refine cN [0,1,2,8,9,10,11] ?_;refine aT 2 ?_ (h:=Oj);refine aT 0 ?_ (h:=Oi);refine aT 0 ?_ (h:=DL);refine aT 0 ?_ (h:=Oh);refine bL ?_;refine az 6 ?_;refine my (f:=53) (args:=[_,_]) (all:=[_,_]) (Sf:=[]) av rfl rfl ot call53 (ye (keys[((i+j)/2)]'E) k) rfl ⟨ot,ot,trivial⟩ (fx _) ?_;rintro _ _ ⟨rfl,rfl⟩;refine aq 49 [0,1,2,8,9,10,11,31] ?_;refine cj ?_ ?_<;>intro bf cD
  ·have hc:bC (keys[((i+j)/2)]'E) k:=of_decide_eq_true bf;have Z:∀m (hm:m<keys.length),m<((i+j)/2)+1->bC keys[m] k:=fun m hm h=>by (rcases Nat.lt_or_ge m ((i+j)/2) with q|q);exact mE (oh hr q E) hc;(have:m=((i+j)/2):=by omega);subst this;exact hc
   refine cc [0,1,2,8,9,10] ?_;refine⟨((((i+j)/2)+1),j),_,cG,aI,w4,w4,(fun m hm h=>by rcases Nat.lt_or_ge m i with q|q;exact h1 m hm q;exact Z m hm w4),h2,rfl⟩
  have hc:¬bC (keys[((i+j)/2)]'E) k:=of_decide_eq_false bf;have O:∀m (hm:m<keys.length),((i+j)/2)<=m->¬bC keys[m] k:=fun m hm h hh=>by (rcases Nat.lt_or_ge ((i+j)/2) m with q|q);exact hc (mE (oh hr q hm) hh);(have:m=((i+j)/2):=by omega);subst this;exact hc hh
  refine cc [0,1,2,8,9,10] ?_;refine⟨(i,((i+j)/2)),_,cG,aI,w4,w4,h1,O,rfl⟩
 obtain rfl:i=j:=(by omega)
 have hd:=agi hjn h1 h2;refine az 5 ?_;refine bU 39 (fun anN U=>?_) (fun anN U=>?_)
 ·refine aG 6 ?_;refine my (f:=53) (args:=[_,_]) (all:=[_,_]) (Sf:=[]) iR rfl rfl ot call53 (ye (keys[i]'w4) k) rfl ⟨ot,ot,trivial⟩ (fx _) ?_;rintro _ _ ⟨rfl,rfl⟩;refine dY 49 [6,7] [] ?_;first|exact Wy hd w4|exact Vu hd w4
 refine bA [6,7] ?_;refine OG ?_;first|exact Wy hd w4|exact Vu hd w4
theorem KC(p:dc)(k:K)(hr:p.keys.Pairwise bC)(hl:p.keys.length<=1000):VP Tryz.prog G 71 [.agg (cP p),an 1 cB k] (ae (aS p k:Nat)):=by
 refine bn func71 rfl ntmps71 aP fun X0 w0 bj=>?_;unfold cP;have dH:=ey;have I:=Ae p.keys k;have hud:=aex hr k;refine bX ?_;refine cW [_,_,_,_,_] (fun b2=>?_);refine aq 23 [1,2] ?_;refine cX [2,5,6] (aey p.keys k hr hl) ?_;refine az 2 ?_;refine bU 15 (fun C8 E=>?_) (fun C8 E=>?_)
 ·refine bA [5,19] ?_;refine cj ?_ ?_<;>intro aM bG
  ·refine cc [5] ?_;exact z88
  exact z88
 refine bA [5,19] ?_;refine gB ?_;refine aA [4] ?_;refine fi ?_;refine⟨vi ?_,rfl⟩;unfold aS;first|(rw[C8] at hud;cases gg:p.leaf<;>simp_all;done)|(simp_all;done)|(simp_all;omega)
theorem aez{d:Nat}{i:Int}{lo:K}(ok:ee t d i lo hi)(h:(t.pg i).leaf=true):d=0:=by
 cases d with
 | zero=>rfl
 | succ d=>obtain⟨_,q2,_⟩:=ok;rw[q2] at h;cases h
theorem aeA{d:Nat}{i:Int}{lo:K}(ok:ee t d i lo hi)(h:(t.pg i).leaf=false):∃d',d=d'+1:=by
 cases d with
 | zero=>obtain⟨_,q2,_⟩:=ok;rw[q2] at h;cases h
 | succ d=>exact⟨d,rfl⟩
theorem aeB:(Tryz.prog.info? 3).map (fun i=>(i.zero,i.size,i.bytes))=some (some (.int .i64 0),1,8):=by kernel_rfl
theorem Vv(t:aE)(h:Nat)(v:Valid t h)(k:K):VC Tryz.prog G 69 [.agg (cT t),an 1 cB k] [] (gI cI 3 1 (jG t k h t.root)):=by
 refine bn func69 rfl ntmps69 aP fun X0 w0 bj=>?_;unfold cT;have dH:=ey;have hval:=v;have eJ:=v.high;have PU:=v.oT;refine bX ?_;refine cW [_,_] (fun b2=>?_);refine aq 45 [1,2] ?_;refine az 2 ?_;refine eH (cx 0 [_]) [.int .i64 0] [_] zeroValue3 runUnderlying61 sizeOf3 (fun kY=>?_);refine bZ (ew (S1:=[⟨kY,3,1*1,flatMap cI ([t.root])⟩]) (A:=[_])) ?_;refine aq 45 [1,2,5] ?_;refine kp ?_;refine nY (fun (U:Nat×Int×K×K×List Int×Option Addr×Nat×List ag) aF=>match U with|(d,i,lo,hi,pre,IY,O,Sl)=>(ee t d i lo hi)/\(mw lo hi k)/\(pre++jG t k d i=jG t k h t.root)/\(pre.length+d<=h)/\(bq 3 1 (((pre++[i])).flatMap cI) ((pre++[i])).length IY O Sl)/\aF=(⟨45,[(1,an 1 cB k),(2,da b2),(5,aN IY ((pre++[i])).length O)],(⟨b2,66,2,[an 5 cP t.af,ae t.root]⟩::Sl)⟩:St)) (fun (U:Nat×Int×K×K×List Int×Option Addr×Nat×List ag)=>match U with|(d,i,lo,hi,pre,IY,O,Sl)=>d) (h,t.root,[],[],[],(some ⟨kY,0,none⟩),1,[⟨kY,3,1*1,flatMap cI ([t.root])⟩]) ⟨v.ok,(vm k),(nil_append _),bp,(bq.cast (bN (g:=cI) (sz:=1) (e:=3) (ls:=[t.root]) (Nat.le_refl _) (show 1<=maxLen by decide)) lW),rfl⟩ (aI (h:=Zr)) ?_;rintro⟨d,i,lo,hi,pre,IY,O,Sl⟩ _ ⟨ok,lX,Z,eP,PA,rfl⟩;obtain⟨bl,rfl,Dr,CT,rfl⟩:=PA.pos bp;have q1:=ok.idx;have aa:i.toNat<t.af.length:=(by omega)
 have E:t.pg i=(t.af[i.toNat]'aa):=wM q1;have po:=v.fU _ (jY q1);have CU:=ok.high;rw[E] at po CU;refine cN [1,2,5,6] ?_;refine aT 4 ?_ (h:=by exact(ei 1 (h:=by first|exact .l (j:=pre.length) bp bp|exact .r (j:=pre.length) bp bp)));refine aT 0 ?_ (h:=by exact(dN (mk:=Op.load 3) rfl ot (ke (k:=1) (d:=ae i) (i:=pre.length) eS rfl rfl rfl isAgg3 bp (by simp[cI]))));refine bL ?_;refine az 3 ?_;refine bQ (ei 5 (h:=by first|exact .l (j:=i.toNat) (Int.toNat_of_nonneg q1.1).symm aa|exact .r (j:=i.toNat) (Int.toNat_of_nonneg q1.1).symm aa)) ?_;refine aG 1 ?_;refine dF (ds:=[_,_,_,_,_]) av rfl rfl zeroValue129 rfl (fun b7=>?_);refine aR 0 [_,_,_,_,_] sizeOf129 ?_;refine aq 45 [1,2,5,7] ?_;refine cX [1,2,5,7,24] (aev (t.af[i.toNat]'aa) k) ?_;refine cj ?_ ?_<;>intro aM bG
 ·exact absurd aM (by intro e;have e:=of_decide_eq_true e;rw[CU] at e;exact e.2 (lX.2 e.1))
 refine ax [1,2,5,7,33] ?_ ?_<;>intro bf cD
 ·obtain rfl:=aez ok (by rw[E];exact bf);have aY:pre++[i]=jG t k h t.root:=(by rw[<-Z];rfl)
  refine dj [4] [⟨bl,3,O*1,flatMap cI (pre++[i])⟩] ?_;rw[<-aY];exact⟨_,_,rfl,(bN (g:=cI) (ls:=pre++[i]) Dr CT)⟩
 obtain⟨dd,rfl⟩:=aeA ok (by rw[E];exact bf);have ok0:=ok;obtain⟨_,gg,hh,amP,rL⟩:=ok0;obtain⟨d1,d2⟩:=down (p:=t.pg i) (by rw[E];exact po) gg hh lX;have kD:=rL _ d1;rw[<-ve d1] at kD;have NH:=d2;have ajI:pre++[i]++jG t k dd ((t.pg i).kids.getD (aS (t.pg i) k) 0)=jG t k h t.root:=(by rw[<-Z,append_assoc];rfl)
 have rU:=KC (G:=G) (t.pg i) k (by rw[E];exact po.kI) (by rw[E];have:=po.eU;omega);have I:aS (t.af[i.toNat]'aa) k<(t.af[i.toNat]'aa).kids.length:=(by rw[<-E];exact d1)
 have anO:VP Tryz.prog G 71 [.agg (cP (t.af[i.toNat]'aa)),an 1 cB k] (ae (aS (t.af[i.toNat]'aa) k:Nat)):=(by rw[<-E];exact rU)
 have Xw:(t.pg i).kids.getD (aS (t.pg i) k) 0=(t.af[i.toNat]'aa).kids[aS (t.af[i.toNat]'aa) k]'I:=(by rw[E];exact ve I)
 refine en ?_;refine iD 10 (aj (take 2 _)) ?_ (fun _ h=>(Sublist.map _ (take_sublist _ _)).subset h);refine aC 0 rfl bJ ?_;refine aC 1 rfl (dU 2) ?_;refine aC 2 rfl (ec 0) ?_;refine aC 3 rfl (M6 0 [_,_,_,_,_]) ?_;refine aC 4 rfl bJ ?_;refine dW.later rfl ?_;refine bH (i:=5) aB ?_;refine qR call71 (anO) ?_;refine dr 6 rfl (ei 1 (h:=by first|exact .l (j:=aS (t.af[i.toNat]'aa) k) rfl I|exact .r (j:=aS (t.af[i.toNat]'aa) k) rfl I)) ?_;refine bH (i:=7) aB ?_;refine at_ rfl fW ?_;refine bH (i:=8) aB ?_;refine oE (cx 0 [_]) [.int .i64 0] [_] zeroValue3 runUnderlying61 sizeOf3 (fun b43=>?_);refine oF 0 43 1 1 ?_;refine bH (i:=9) aB ?_;refine qk (ls:=(pre++[i])) (new:=[(t.af[i.toNat]'aa).kids[aS (t.af[i.toNat]'aa) k]'I]) (Sq:=[⟨bl,3,O*1,flatMap cI (pre++[i])⟩]) eS oM rfl av rfl rfl underlying61 aeB rfl w8 ot (bN (g:=cI) (ls:=pre++[i]) Dr CT) (dK (A:=[_,_])) ot bp wP iI (fun PV NI anP anQ=>?_);refine gq (ew (S1:=[⟨PV,3,NI*1,flatMap cI ((pre++[i])++[(t.af[i.toNat]'aa).kids[aS (t.af[i.toNat]'aa) k]'I])⟩]) (A:=[_,_])) ?_;refine fD ?_;refine bA [1,2,5] ?_
 refine⟨(dd,((t.pg i).kids.getD (aS (t.pg i) k) 0),(iU lo (t.pg i) (aS (t.pg i) k)),(iE (t.pg i) (aS (t.pg i) k)),(pre++[i]),(some ⟨PV,0,none⟩),NI,[⟨PV,3,NI*1,flatMap cI ((pre++[i])++[(t.af[i.toNat]'aa).kids[aS (t.af[i.toNat]'aa) k]'I])⟩]),_,cG,(aI (h:=Zr)),kD,NH,ajI,iI,(bq.cast (bN anP anQ) (by rw[Xw])),rfl⟩
theorem ah2(t:aE)(h:Nat)(v:Valid t h)(k:K):VP Tryz.prog G 69 [.agg (cT t),an 1 cB k] (.list 1 ((jG t k h t.root).flatMap cI) (jG t k h t.root).length):=(Vv t h v k).yn eS
def iX(t:aE)(k:K)(h:Nat):Bool:=oo (t.pg (aJ t k h t.root)).keys k
theorem Fk{h:Nat}(v:Valid t h)(k:K):iX t k h=true↔CL t k h:=by
 unfold iX oo CL;have hl:=(v.leaf k).2;have eP:aS (t.pg (aJ t k h t.root)) k=gS (t.pg (aJ t k h t.root)).keys k:=(by unfold aS;rw[if_pos hl])
 rw[eP,decide_eq_true_iff,List.getElem?_eq_some_iff]
theorem Vw(hl:p.leaf=true)(ha:aS p k<p.keys.length):decide (p.keys[aS p k]=k)=oo p.keys k:=by
 unfold oo;have eP:aS p k=gS p.keys k:=(by unfold aS;rw[if_pos hl])
 simp only[eP] at ha |-;rw[getElem?_eq_getElem ha];simp
theorem Vx(hl:p.leaf=true)(ha:¬aS p k<p.keys.length):false=oo p.keys k:=by
 unfold oo;have eP:aS p k=gS p.keys k:=(by unfold aS;rw[if_pos hl])
 rw[eP] at ha;rw[getElem?_eq_none w4];rfl
theorem ah3{h:Nat}{i:Int}:∃(hn:(jG t k h i).length-1<(jG t k h i).length),(jG t k h i)[(jG t k h i).length-1]=aJ t k h i:=by
 have h1:=RS t k h i;rw[getLast?_eq_getElem?] at h1;exact List.getElem?_eq_some_iff.1 h1
theorem T7(hp:eT p n)(k:K):aS p k<=p.keys.length:=by
 unfold aS;split
 ·exact Ae _ _
 exact Cm _ _
theorem FY(t:aE)(k:K):∀(h:Nat) (i:Int),(jG t k h i).length=h+1
 | 0,i=>rfl
 | h+1,i=>by rw[jG,length_cons,FY t k h]
theorem rA(t:aE)(h:Nat)(v:Valid t h)(k:K)(er:k.length<=maxLen)(U:(jG t k h t.root).length<=1000000):VP Tryz.prog G 67 [.agg (cT t),an 1 cB k] (.dB [ae (aJ t k h t.root),ae (aS (t.pg (aJ t k h t.root)) k:Nat),bP (iX t k h)]):=by
 refine bn func67 rfl ntmps67 aP fun X0 w0 bj=>?_;unfold cT;have dH:=ey;have rU:=ah2 (G:=G) t h v k;unfold cT at rU;obtain⟨gz,Z⟩:=ah3 (t:=t) (k:=k) (h:=h) (i:=t.root);obtain⟨q1,MD⟩:=v.leaf k;have aa:(aJ t k h t.root).toNat<t.af.length:=(by omega)
 have I:t.pg (aJ t k h t.root)=(t.af[(aJ t k h t.root).toNat]'aa):=wM q1;have po:=v.fU _ (jY q1);have PU:=v.oT;have YG:(jG t k h t.root).length<=1000000:=U;have anR:=KC (G:=G) (t.pg (aJ t k h t.root)) k po.kI (by have:=po.eU;omega);have anS:VP Tryz.prog G 71 [.agg (cP (t.af[(aJ t k h t.root).toNat]'aa)),an 1 cB k] (ae (aS (t.af[(aJ t k h t.root).toNat]'aa) k:Nat)):=(by rw[<-I];exact anR)
 have anT:∀x∈(t.af[(aJ t k h t.root).toNat]'aa).keys,x.length<=maxLen:=fun x hx=>by rw[<-I] at hx;have:=(po.me x hx).2;omega
 have E:(t.af[(aJ t k h t.root).toNat]'aa).leaf=true:=(by rw[<-I];exact MD)
 have O:iX t k h=oo (t.af[(aJ t k h t.root).toNat]'aa).keys k:=(by unfold iX;rw[I])
 have nO:=po.eU;have anU:=(T7 po k)
 rw[I] at nO anU;refine bX ?_;refine cW [_,_] (fun b2=>?_);refine aq 42 [1,2] ?_;refine cX [1,2,7] (rU) ?_;refine cN [1,2,4] ?_;refine aT 4 ?_ (h:=by exact(ei 1 (h:=by first|exact .l (j:=(jG t k h t.root).length-1) w4 gz|exact .r (j:=(jG t k h t.root).length-1) w4 gz)));refine aT 0 ?_ (h:=by exact(dN (mk:=Op.load 3) rfl ot (sI (d:=ae (aJ t k h t.root)) (i:=(jG t k h t.root).length-1) eS isAgg3 gz (by rw[Z];rfl))));refine bL ?_;refine az 5 ?_;refine dF (ds:=[_,_,_,_,_]) av rfl rfl zeroValue129 rfl (fun b8=>?_);refine aR 0 [_,_,_,_,_] sizeOf129 ?_;refine aq 42 [1,4,8] ?_;refine cX [1,4,5,8] (anS) ?_;refine az 8 ?_;refine bU 33 (fun anV ali=>?_) (fun anV ali=>?_)
 ·refine aG 6 ?_;refine oK iR rfl rfl rfl call110 (Xi ((t.af[(aJ t k h t.root).toNat]'aa).keys[aS (t.af[(aJ t k h t.root).toNat]'aa) k]'w4) k (anT _ (getElem_mem _)) er) ⟨ot,ot,trivial⟩ ?_;refine dY 42 [4,5,6] [] ?_;rw[O,I];first|exact⟨by rw[Vw E w4],rfl⟩|exact⟨by rw[<-Vx E w4],rfl⟩
 refine bA [4,5,6] ?_;refine eu [] ?_;rw[O,I];first|exact⟨by rw[Vw E w4],rfl⟩|exact⟨by rw[<-Vx E w4],rfl⟩
end Tw
namespace Tw
open List
open Go.Proofs.Tryz
open Go.RowKit V Tr Pk
abbrev nP(ls:List Int)(ad:Option Addr)(cap:Nat)(S:List ag):Prop:=bq 3 1 (ls.flatMap cI) ls.length ad cap S
abbrev oO(ls:List K)(ad:Option Addr)(cap:Nat)(S:List ag):Prop:=bq 86 1 (ls.flatMap cK) ls.length ad cap S
variable {G:List (Nat×List Value)}
theorem aeC:(Tryz.prog.info? 5).map (fun i=>(i.zero,i.size,i.bytes))=some (some (.int .u8 0),1,1):=by kernel_rfl
theorem mW(a:List UInt8)(ha:a.length<=1000000):VP Tryz.prog G 70 [an 1 cB a] (an 1 cB a):=by
 refine bn func70 rfl ntmps70 aP fun X0 w0 bj=>?_;have dH:=ey;refine aA [0] ?_;refine az 1 ?_;refine zY av rfl rfl ot cf underlying86 (fun O za=>?_);refine aq 8 [0,4] ?_;refine cj ?_ ?_<;>intro aM bG
 ·exact z86
 refine bX ?_;refine zZ av rfl rfl runUnderlying86 sizeOf5 (fun b5=>?_);refine aG 1 ?_;refine sj (ls:=([]:List UInt8)) (new:=a) (Sq:=[⟨b5,5,0*1,[]⟩]) qv yf av rfl rfl underlying86 aeC rfl w8 runUnderlying86 sizeOf5 ot (.inr ⟨b5,rfl,Nat.le_refl _,Nat.zero_le _,rfl⟩) (dK (A:=[])) ot iI iI (fun E I S7 qQ=>?_);exact z124
theorem aeD:(Tryz.prog.info? 3).map (fun i=>(i.zero,i.size,i.bytes))=some (some (.int .i64 0),1,8):=by kernel_rfl
theorem sy(a:List Int)(ha:a.length<=1000000):VC Tryz.prog G 108 [an 1 cI a] [] (fun r S=>∃ad cap,r=aN ad a.length cap/\nP a ad cap S):=by
 refine bn func108 rfl ntmps108 aP fun X0 w0 bj=>?_;have dH:=ey;refine aA [0] ?_;refine az 1 ?_;refine zY av rfl rfl ot cf underlying61 (fun O za=>?_);refine aq 8 [0,4] ?_;refine cj ?_ ?_<;>intro aM bG
 ·exact z53
 refine bX ?_;refine zZ av rfl rfl runUnderlying61 sizeOf3 (fun b5=>?_);refine aG 1 ?_;refine sj (ls:=([]:List Int)) (new:=a) (Sq:=[⟨b5,3,0*1,[]⟩]) eS oM av rfl rfl underlying61 aeD rfl w8 runUnderlying61 sizeOf3 ot (.inr ⟨b5,rfl,Nat.le_refl _,Nat.zero_le _,rfl⟩) (dK (A:=[])) ot iI iI (fun E I S7 qQ=>?_);exact Is
theorem ac5:(Tryz.prog.info? 86).map (fun i=>(i.zero,i.size,i.bytes))=some (some (.slice none 0 0),1,24):=by kernel_rfl
theorem xV(a:List K)(ha:a.length<=1000000):VC Tryz.prog G 117 [an 1 cK a] [] (fun r S=>∃ad cap,r=aN ad a.length cap/\oO a ad cap S):=by
 refine bn func117 rfl ntmps117 aP fun X0 w0 bj=>?_;have dH:=ey;refine aA [0] ?_;refine az 1 ?_;refine zY av rfl rfl ot cf underlying127 (fun O za=>?_);refine aq 8 [0,4] ?_;refine cj ?_ ?_<;>intro aM bG
 ·exact z53
 refine bX ?_;refine zZ av rfl rfl runUnderlying127 sizeOf86 (fun b5=>?_);refine aG 1 ?_;refine sj (ls:=([]:List K)) (new:=a) (Sq:=[⟨b5,86,0*1,[]⟩]) gF qw av rfl rfl underlying127 ac5 rfl w8 runUnderlying127 sizeOf86 ot (.inr ⟨b5,rfl,Nat.le_refl _,Nat.zero_le _,rfl⟩) (dK (A:=[])) ot iI iI (fun E I S7 qQ=>?_);exact Is
structure aZ where
 p:dc
 ak:Option Addr
 ck:Nat
 sk:List ag
 ai:Option Addr
 ci:Nat
 si:List ag
def gO(o:aZ):List D:=[bP o.p.leaf,aN o.ak o.p.keys.length o.ck,aN o.ai o.p.kids.length o.ci,an 1 cB o.p.high,ae o.p.next]
theorem ju(o:aZ):(gO o).length=5:=rfl
theorem Gy(o:aZ):(gO o).all V.one=true:=rfl
def bO(o:aZ):List ag:=o.sk++o.si
def sb(o:aZ):Prop:=oO o.p.keys o.ak o.ck o.sk/\nP o.p.kids o.ai o.ci o.si
theorem Vy{S:List ag}:∀{L:List aZ},(∀o∈L,sb o)->(∀B∈L.flatMap bO,B∈S)->hU S (L.flatMap gO) ((L.map aZ.p).flatMap cP)
 | [],_,_=>trivial
 | o::L,h,hs=>by
  rw[map_cons,flatMap_cons,flatMap_cons];obtain⟨h1,h2⟩:=h o mem_cons_self;refine hU.append ⟨fq,mX h1 (cz gF _) (fun B hB=>hs B ?_),mX h2 (cz eS _) (fun B hB=>hs B ?_),fq,fq,trivial⟩ (Vy (fun o ho=>h o (mem_cons_of_mem _ ho)) fun B hB=>hs B ?_)
  ·rw[flatMap_cons];exact mem_append_left _ (mem_append_left _ hB)
  ·rw[flatMap_cons];exact mem_append_left _ (mem_append_right _ hB)
  rw[flatMap_cons];exact mem_append_right _ hB
abbrev vC(L:List aZ)(ad:Option Addr)(cap:Nat)(S:List ag):Prop:=bq 129 5 (L.flatMap gO) L.length ad cap S
theorem Ma{S Sx:List ag}{L:List aZ}{ad:Option Addr}{cap:Nat}{root:Int}(ho:vC L ad cap Sx)(h:∀o∈L,sb o)(hs:∀B∈Sx++L.flatMap bO,B∈S) :
  View S (.agg [aN ad L.length cap,ae root]) (.agg (cT ⟨L.map aZ.p,root⟩)):=by
 refine v8 ⟨?_,fq,trivial⟩;have:=B6 ho (Vy h fun B hB=>hs B (mem_append_right _ hB)) (cz GL _ |>.trans bp) (fun B hB=>hs B (mem_append_left _ hB));first|rw[length_map]|(show View _ _ (.list _ _ (length _));rw[length_map])|(show View _ _ (.agg [.list _ _ (length _)]);rw[length_map])
 exact this
def HJ(t:aE)(r:D)(S:List ag):Prop:=∃L ad cap Sx,r = .agg [aN ad (length L) cap,ae t.root]/\vC L ad cap Sx/\(∀o∈L,sb o)/\L.map aZ.p=t.af/\S=Sx++L.flatMap bO
theorem UB(L:List aZ)(o:aZ):(L++[o]).flatMap bO=L.flatMap bO++bO o:=by simp
theorem ri{α:Type}{l:List α}{j:Nat}(h:j<l.length):take j l++[l[j]]=take (j+1) l:=(take_succ_eq_append_getElem h).symm
theorem ac6:(Tryz.prog.info? 86).map (fun i=>(i.zero,i.size,i.bytes))=some (some (.slice none 0 0),1,24):=by kernel_rfl
theorem acf:(Tryz.prog.info? 129).map (fun i=>(i.zero,i.size,i.bytes))=some (some (.agg #[.bool false,.slice none 0 0,.slice none 0 0,.slice none 0 0,.int .i64 0]),5,88):=by kernel_rfl
theorem Qu : ∀ w, ((#[{ name := "Leaf", type := 4, offset := 0, embedded := false, tag := "", pkgPath := "", byteOffset := 0 }, { name := "Keys", type := 127, offset := 1, embedded := false, tag := "", pkgPath := "", byteOffset := 8 }, { name := "Kids", type := 61, offset := 2, embedded := false, tag := "", pkgPath := "", byteOffset := 32 }, { name := "High", type := 86, offset := 3, embedded := false, tag := "", pkgPath := "", byteOffset := 56 }, { name := "Next", type := 3, offset := 4, embedded := false, tag := "", pkgPath := "", byteOffset := 80 }] : Array Field).mapM fun f => do pure (f.offset, ← sizeOf f.type) : Sem (Array (Nat × Nat))).run Tryz.prog w = .ok #[(0, 1), (1, 1), (2, 1), (3, 1), (4, 1)] w := fun w => by simp [sizeOf127, sizeOf3, sizeOf4, sizeOf61, sizeOf86]
theorem GM(t:aE)(h:Nat)(v:Valid t h):VC Tryz.prog G 68 [.agg (cT t)] [] (HJ t):=by
 refine bn func68 rfl ntmps68 aP fun X0 w0 bj=>?_;unfold cT;have dH:=ey;have hval:=v;have PU:=v.oT;refine bX ?_;refine cW [_,_] (fun b1=>?_);refine dF (ds:=[_,_]) av rfl rfl zeroValue66 rfl (fun b2=>?_);refine aq 51 [1,2] ?_;refine az 3 ?_;refine dF (ds:=[_,_]) av rfl rfl zeroValue66 rfl (fun b3=>?_);refine aR 0 [_,_] sizeOf66 ?_;refine aq 51 [1,2,3] ?_;refine aA [2,3,13,14,15] ?_;refine fa [2,3,13,14] (fun aV _ (E:Nat×List aZ×Option Addr×Nat×List ag) aF=>match E with|(i,L,dP,dm,Sx)=>(i<=t.af.length)/\(L.map aZ.p=t.af.take i)/\(∀o∈L,sb o)/\(vC L dP dm Sx)/\aF=(⟨51,(15,ae (i:Nat))::aV,(⟨b3,66,2,[aN dP L.length dm,ae t.root]⟩::⟨b2,66,2,[bW,ae 0]⟩::(Sx++L.flatMap bO))⟩:St)) (fun (E:Nat×List aZ×Option Addr×Nat×List ag)=>match E with|(i,L,dP,dm,Sx)=>t.af.length-i) (0,([]:List aZ),none,0,[]) ⟨(Nat.zero_le _),rfl,(fun o h=>by cases h),jj,rfl⟩ ?_;rintro⟨i,L,dP,dm,Sx⟩ _ ⟨hi,hL,aQ,ev,rfl⟩;refine ax [2,3,13,14,15,16] ?_ ?_<;>intro aM bG
 ·have aa:i<t.af.length:=(by omega)
  have po:=v.fU _ (getElem_mem aa);have tH:L.length=i:=(by have:=congrArg length hL;rw[length_map,length_take] at this;omega)
  have nO:=po.eU;have hhl:=po.hlen;have He:(t.af[i]'aa).kids.length<=5:=by
      exact z92
  refine az 2 ?_;refine dF (ds:=[_,_,_,_,_]) av rfl rfl zeroValue129 rfl (fun b5=>?_);refine aR 0 [_,_,_,_,_] sizeOf129 ?_;refine aq 51 [2,3,5,13,14,15] ?_;refine bX ?_;refine bA [2,3,5,6,13,14,15] ?_;refine aA [2,3,5,6,13,14,15,20,21,22] ?_;refine kp ?_;refine nY (fun (E:Nat×Option Addr×Nat×List ag) aF=>match E with|(j,jd,je,Sy)=>(j<=(t.af[i]'aa).keys.length)/\(oO (take j (t.af[i]'aa).keys) jd je Sy)/\aF=(⟨51,[(2,da b2),(3,da b3),(5,da b5),(6,aN jd (take j (t.af[i]'aa).keys).length je),(13,an 5 cP t.af),(14,ae (t.af.length:Nat)),(15,ae (i:Nat)),(20,.list 1 ((t.af[i]'aa).keys.flatMap cK) (t.af[i]'aa).keys.length),(21,ae ((t.af[i]'aa).keys.length:Nat)),(22,ae (j:Nat))],(⟨b5,129,5,cP (t.af[i]'aa)⟩::⟨b3,66,2,[aN dP L.length dm,ae t.root]⟩::⟨b2,66,2,[bW,ae 0]⟩::(Sy++(Sx++L.flatMap bO)))⟩:St)) (fun (E:Nat×Option Addr×Nat×List ag)=>match E with|(j,jd,je,Sy)=>(t.af[i]'aa).keys.length-j) (0,none,0,[]) ⟨(Nat.zero_le _),jj,rfl⟩ (aI (h:=Zs)) ?_;rintro⟨j,jd,je,Sy⟩ _ ⟨hj,O,rfl⟩;refine ax [2,3,5,6,13,14,15,20,21,22,23] ?_ ?_<;>intro bf cD
  ·have ja:j<(t.af[i]'aa).keys.length:=(by omega)
   have NJ:=(po.me _ (getElem_mem ja)).2;refine aA [2,3,5,6,8,13,14,15,20,21,22] ?_;refine dV 2 ?_;refine eB call70 (mW (t.af[i]'aa).keys[j] w4) ?_;refine eH (cx 0 [_]) [.slice none 0 0] [_] zeroValue86 runUnderlying127 sizeOf86 (fun vP=>?_);refine gh 0 29 1 1 ?_;refine fY (ls:=(take j (t.af[i]'aa).keys)) (new:=[(t.af[i]'aa).keys[j]]) (Sq:=Sy) gF qw av rfl rfl underlying127 ac6 rfl w8 ot O (Kl (A:=[_,_,_])) ot bp wP iI (fun U I NB NC=>?_);refine bZ (Tf (S1:=[⟨U,86,I*1,flatMap cK ((take j (t.af[i]'aa).keys)++[(t.af[i]'aa).keys[j]])⟩]) (A:=[_,_,_])) ?_;refine aq 51 [2,3,5,6,13,14,15,20,21,22] ?_;refine cc [2,3,5,6,13,14,15,20,21,22] ?_;refine⟨((j+1),(some ⟨U,0,none⟩),I,[⟨U,86,I*1,flatMap cK ((take j (t.af[i]'aa).keys)++[(t.af[i]'aa).keys[j]])⟩]),_,cG,(aI (h:=Zs)),w4,(bq.cast (bN NB NC) (ri ja)),rfl⟩
  have hjt:take j (t.af[i]'aa).keys=(t.af[i]'aa).keys:=take_of_length_le w4;rw[hjt] at O |-;refine qq ?_;refine iD 16 (aj (take 1 _)) ?_ (fun _ h=>(Sublist.map _ (take_sublist _ _)).subset h);refine aC 0 rfl (dU 0) ?_;refine aC 2 rfl (dU 0) ?_;refine aC 3 rfl (ec 0) ?_;refine aC 4 rfl bJ ?_;refine aC 5 rfl (dU 2) ?_;refine aC 6 rfl (ec 0) ?_;refine aC 8 rfl (dU 3) ?_;refine aC 9 rfl (ec 0) ?_;refine aC 11 rfl (dU 4) ?_;refine aC 12 rfl (ec 0) ?_;refine dW.later rfl ?_;refine lK (i:=1) (j:=7) aB ?_ ?_
  ·refine at_ rfl (ec 1) ?_;refine bH (i:=7) aB ?_;refine ko rfl av rfl rfl rfl call108 (sy (t.af[i]'aa).kids w4) ⟨ot,trivial⟩ (fx _) (fun b hb=>by simp[aj,St.put] at hb |-;try simp[hb]) ?_;rintro _ Sz ⟨mP,mQ,rfl,Z⟩;refine gq (kO (A:=[_,_,_])) ?_;have xy:(L++[(⟨(t.af[i]'aa),jd,je,Sy,mP,mQ,Sz⟩:aZ)]).map aZ.p=t.af.take (i+1):=(by rw[map_append,hL];exact ri aa)
   have kD:∀o∈L++[(⟨(t.af[i]'aa),jd,je,Sy,mP,mQ,Sz⟩:aZ)],sb o:=fun o ho=>by rcases mem_append.1 ho with ho|ho;exact aQ o ho;rw[mem_singleton] at ho;subst ho;exact⟨O,Z⟩
   exact z109
  refine ko rfl av rfl rfl rfl call108 (sy (t.af[i]'aa).kids w4) ⟨ot,trivial⟩ (fx _) (fun b hb=>by simp[aj,St.put] at hb |-;try simp[hb]) ?_;rintro _ Sz ⟨mP,mQ,rfl,Z⟩;refine gq (kO (A:=[_,_,_])) ?_;have xy:(L++[(⟨(t.af[i]'aa),jd,je,Sy,mP,mQ,Sz⟩:aZ)]).map aZ.p=t.af.take (i+1):=(by rw[map_append,hL];exact ri aa)
  have kD:∀o∈L++[(⟨(t.af[i]'aa),jd,je,Sy,mP,mQ,Sz⟩:aZ)],sb o:=fun o ho=>by rcases mem_append.1 ho with ho|ho;exact aQ o ho;rw[mem_singleton] at ho;subst ho;exact⟨O,Z⟩
  refine lK (i:=1) (j:=10) aB ?_ ?_
  ·refine at_ rfl (ec 1) ?_;exact z109
  refine qR call70 (mW (t.af[i]'aa).high w4) ?_;refine dr 13 rfl (pQ (pl:=[(0,_),(1,_),(2,_),(3,_),(4,_)]) (ds:=[_,_,_,_,_]) rfl zeroValue129 runUnderlying129 Qu ⟨rfl,ot,rfl,ot,rfl,ot,rfl,ot,rfl,ot,trivial⟩ rfl rfl) ?_;refine lK (i:=1) (j:=14) aB ?_ ?_
  ·refine at_ rfl (ec 1) ?_;refine bH (i:=14) aB ?_;refine oE (cx 0 [_]) [.bool false,.slice none 0 0,.slice none 0 0,.slice none 0 0,.int .i64 0] [_,_,_,_,_] zeroValue129 runUnderlying64 sizeOf129 (fun Bv=>?_);refine oF 0 46 5 1 ?_;exact z5
  refine oE (cx 0 [_]) [.bool false,.slice none 0 0,.slice none 0 0,.slice none 0 0,.int .i64 0] [_,_,_,_,_] zeroValue129 runUnderlying64 sizeOf129 (fun Bv=>?_);refine oF 0 46 5 1 ?_;refine bH (i:=1) aB ?_;refine at_ rfl (ec 1) ?_;exact z5
 refine az 1 ?_;refine aR 1 [_,_] sizeOf66 ?_;refine dY 51 [2] (Sx++L.flatMap bO) ?_;exact⟨L,dP,dm,Sx,rfl,ev,aQ,by rw[hL,take_of_length_le w4],rfl⟩
end Tw
namespace Tw
open List
open Go.Proofs.Tryz
open Go.RowKit V Go.Proofs.YtbplamgacibdaaaGreatDoor.Tr Pk
open Go.Lib (compareBytes)
variable {t:aE} {lv:List (List Int)} {level:Nat} {i:Int}
structure oP (t:aE) (s:jT):Prop where
 nd:s.1.Nodup
 rg:∀x∈s.1,0<=x/\x<t.af.length
 eU:s.2.length<=s.1.length
 each:∀l∈s.2,l.length<=s.1.length
 el:∀l∈s.2,∀x∈l,0<=x/\x<t.af.length
theorem agj{n:Nat}{l:List Int}(h:l.Nodup)(hr:∀x∈l,0<=x/\x<n):l.length<=n:=by
 induction n generalizing l with
 | zero =>
  cases l with
  | nil=>simp
  | cons a l=>have:=hr a mem_cons_self;omega
 | succ n ih =>
  have h1:=ih (l:=l.erase (n:Int)) (h.erase _) fun x hx=>by
   have h2:=(h.mem_erase_iff).1 hx;have h3:=hr x h2.2;have:=h2.1;omega
  rw[length_erase] at h1;split at h1<;>omega
theorem oP.oT{s:jT}(h:oP t s):s.1.length<=t.af.length:=agj h.nd h.rg
theorem aeE{n:Nat}(h:∀l∈lv,l.length<=n):∀l∈lC lv level i,l.length<=n+1:=fun l hl=>by
 obtain⟨j,hj,rfl⟩:=mem_iff_getElem.1 hl;have e:(lC lv level i)[j]=(lC lv level i).getD j []:=(by rw[getD_eq_getElem?_getD,getElem?_eq_getElem hj];rfl)
 rw[e,Gm,length_append];have h1:(lv.getD j []).length<=n:=by
  rw[getD_eq_getElem?_getD];rcases Nat.lt_or_ge j lv.length with q|q
  ·rw[getElem?_eq_getElem q];exact h _ (getElem_mem q)
  rw[getElem?_eq_none q];simp
 split
 ·simp only[length_cons,length_nil];omega
 simp only[length_nil];omega
theorem ah4{Q:Int->Prop}(h:∀l∈lv,∀x∈l,Q x)(hi:Q i):∀l∈lC lv level i,∀x∈l,Q x:=fun l hl x hx=>by
 obtain⟨j,hj,rfl⟩:=mem_iff_getElem.1 hl;have e:(lC lv level i)[j]=(lC lv level i).getD j []:=(by rw[getD_eq_getElem?_getD,getElem?_eq_getElem hj];rfl)
 rw[e,Gm,mem_append] at hx;rcases hx with hx|hx
 ·rw[getD_eq_getElem?_getD] at hx;rcases Nat.lt_or_ge j lv.length with q|q
  ·rw[getElem?_eq_getElem q] at hx;exact h _ (getElem_mem q) x hx
  rw[getElem?_eq_none q] at hx;cases hx
 split at hx
 ·rw[mem_singleton] at hx;subst hx;exact hi
 cases hx
theorem oP.add{s:jT}(h:oP t s)(hi:0<=i/\i<t.af.length)(hn:i∉s.1)(hl:level<=s.1.length):oP t (s.1++[i],lC s.2 level i):=by
 refine⟨?_,fun x hx=>?_,?_,?_,ah4 h.el hi⟩
 ·exact nodup_append.2 ⟨h.nd,by simp,fun a ha b hb e=>by rw[mem_singleton] at hb;subst hb;subst e;exact hn ha⟩
 ·rcases mem_append.1 hx with hx|hx
  ·exact h.rg x hx
  rw[mem_singleton] at hx;subst hx;exact hi
 ·show(lC s.2 level i).length<=(s.1++[i]).length;rw[KA,length_append];have:=h.eU;simp;omega
 show ∀l∈lC s.2 level i,l.length<=(s.1++[i]).length;rw[length_append];exact aeE h.each
theorem T8{t:aE}{go:Int->K->K->jT->Option (Nat×jT)}{low:K}{p:dc}{n:Nat}(E:∀(c:Int) lo hi s d s',(0<=c/\c<t.af.length)->oP t s->n<=s.1.length->go c lo hi s=some (d,s')->oP t s'/\s.1.length<=s'.1.length) :
  ∀(cs:List Int) (k:Nat) (deep:Option Nat) (s:jT) (d:Nat) (s':jT),(∀c∈cs,0<=c/\c<t.af.length)->oP t s->n<=s.1.length->mH go low p cs k deep s=some (d,s')->oP t s'/\s.1.length<=s'.1.length
 | [],k,deep,s,d,s',_,hs,_,h=>by
  rw[mH] at h;cases deep with
  | none=>cases h
  | some e=>simp at h;rw[<-h.2];exact⟨hs,Nat.le_refl _⟩
 | c::cs,k,deep,s,d,s',hc,hs,hn,h=>by
  rw[mH] at h;cases hg:go c (iU low p k) (iE p k) s with
  | none=>rw[hg] at h;cases h
  | some q =>
   obtain⟨d1,s1⟩:=q;rw[hg] at h;obtain⟨h1,h2⟩:=E _ _ _ _ _ _ (hc c mem_cons_self) hs hn hg;change (if deep=none\/deep=some d1 then mH go low p cs (k+1) (some d1) s1 else none)=_ at h;split at h
   ·obtain⟨h3,h4⟩:=T8 E cs _ _ _ _ _ (fun c vL=>hc c (mem_cons_of_mem _ vL)) h1 w4 h;exact⟨h3,by omega⟩
   cases h
theorem RW{p:dc}(hp:eT p t.af.length)(hl:p.leaf=false):∀c∈p.kids,0<=c/\c<t.af.length:=fun c hc=>⟨hp.ay c hc,hp.wW hl c hc⟩
theorem Ls{t:aE}(hp:wA t):∀(f:Nat) (i:Int) (lo hi:K) (level:Nat) (s:jT) (d:Nat) (s':jT),(0<=i/\i<t.af.length)->oP t s->level<=s.1.length->jP t f i lo hi level s=some (d,s')->oP t s'/\s.1.length<=s'.1.length
 | 0,i,lo,hi,level,s,d,s',_,_,_,h=>by rw[jP] at h;cases h
 | f+1,i,lo,hi,level,s,d,s',hr,hs,hl,h=>by
  rw[jP] at h;split at h
  ·cases h
  rename_i hn;split at h
  ·cases h
  have ha:=hs.add hr hn hl;have hlen:s.1.length+1=(s.1++[i]).length:=(by simp)
  split at h
  ·simp at h;rw[<-h.2];exact⟨ha,by show s.1.length<=(s.1++[i]).length;omega⟩
  rename_i gg;have gg:(t.pg i).leaf=false:=(by simpa using gg)
  obtain⟨h1,h2⟩:=T8 (n:=level+1) (fun c lo hi s d s' hc hs hn h=>Ls hp f c lo hi (level+1) s d s' hc hs hn h) _ _ _ _ _ _ (RW (hp _ (jY hr)) gg) ha (by show level+1<=(s.1++[i]).length;omega) h;have h3:(s.1++[i]).length<=s'.1.length:=h2;exact⟨h1,by omega⟩
structure dI where
 l:List Int
 ad:Option Addr
 cp:Nat
 s:List ag
variable {L L1:List dI}
def gV(o:dI):List D:=[aN o.ad o.l.length o.cp]
theorem CE(o:dI):(gV o).length=1:=rfl
theorem ajJ(o:dI):(gV o).all V.one=true:=rfl
def n9(o:dI):Prop:=nP o.l o.ad o.cp o.s
def s6:dI:=⟨[],none,0,[]⟩
theorem ah5:n9 s6:=.inl ⟨rfl,rfl,rfl,rfl,rfl⟩
abbrev Bk(L:List dI)(ad:Option Addr)(cap:Nat)(S:List ag):Prop:=bq 61 1 (L.flatMap gV) L.length ad cap S
def YH(t:aE)(b bm:Nat)(n:Nat)(ad:Option Addr)(cap:Nat):ag:=⟨b,168,4,[an 5 cP t.af,ae t.root,.v (.map (some bm)),aN ad n cap]⟩
def SW(t:aE)(b bm:Nat)(m:List Int)(L:List dI)(ad:Option Addr)(cap:Nat)(Sx:List ag):List ag:=YH t b bm L.length ad cap::lR bm m::(Sx++L.flatMap dI.s)
def YI(t:aE)(b bm:Nat):Option (Nat×jT)->D->List ag->Prop
 | none,r,S=>r = .v (.int .i64 (-1))/\S=[]
 | some (d,s),r,S=>r = .v (.int .i64 (d:Nat))/\∃L ad cap Sx,Bk L ad cap Sx/\(∀o∈L,n9 o)/\L.map dI.l=s.2/\S=SW t b bm s.1 L ad cap Sx
theorem Ap{α:Type}(g:α->List ag):∀{L:List α} {j:Nat} (h:j<L.length),(L.flatMap g).Perm (g L[j]++(L.eraseIdx j).flatMap g)
 | a::L,0,_=>by simp
 | a::L,j+1,h=>by
  have E:=Ap g (L:=L) (j:=j) nS;simp only[flatMap_cons,getElem_cons_succ,eraseIdx_cons_succ];refine(E.append_left (g a)).trans ?_;rw[<-append_assoc,<-append_assoc];exact List.perm_append_comm.append_right _
theorem zW{α:Type}(g:α->List ag){L:List α}{j:Nat}(h:j<L.length)(a:α):((L.set j a).flatMap g).Perm (g a++(L.eraseIdx j).flatMap g):=by
 have:=Ap g (L:=L.set j a) (j:=j) (by rw[length_set];exact h);rw[getElem_set_self,eraseIdx_set_eq] at this;exact this
def ug:Option Nat->Int
 | none=>-2
 | some d=>d
variable {G:List (Nat×List Value)}
theorem ajK{f:Nat}{low high:K}{s:jT}(h:i∈s.1):jP t (f+1) i low high level s=none:=by rw[jP,if_pos h]
theorem Vz{f:Nat}{low high:K}{s:jT}(h:((t.pg i).high≠high\/∃k,(t.pg i).keys.head?=some k/\bC k low)):jP t (f+1) i low high level s=none:=by
 rw[jP];by_cases hi:i∈s.1
 ·rw[if_pos hi]
 rw[if_neg hi,if_pos h]
theorem agk{f:Nat}{low high:K}{s:jT}(h:i∉s.1)(h2:¬((t.pg i).high≠high\/∃k,(t.pg i).keys.head?=some k/\bC k low))(h3:(t.pg i).leaf=true):jP t (f+1) i low high level s=some (level,(s.1++[i],lC s.2 level i)):=by rw[jP,if_neg h,if_neg h2,if_pos h3]
theorem agl{f:Nat}{low high:K}{s:jT}(h:i∉s.1)(h2:¬((t.pg i).high≠high\/∃k,(t.pg i).keys.head?=some k/\bC k low))(h3:(t.pg i).leaf=false):jP t (f+1) i low high level s=mH (fun c lo hi s=>jP t f c lo hi (level+1) s) low (t.pg i) (t.pg i).kids 0 none (s.1++[i],lC s.2 level i):=by rw[jP,if_neg h,if_neg h2,if_neg (by rw[h3];decide)]
section
variable {go:Int->K->K->jT->Option (Nat×jT)} {low:K} {p:dc} {k:Nat} {deep:Option Nat} {s s':jT} {d:Nat}
theorem aeF(hk:k<p.kids.length)(h:go p.kids[k] (iU low p k) (iE p k) s=none):mH go low p (p.kids.drop k) k deep s=none:=by rw[drop_eq_getElem_cons hk,mH,h]
theorem RX(hk:k<p.kids.length)(h:go p.kids[k] (iU low p k) (iE p k) s=some (d,s'))(hd:deep=none\/deep=some d):mH go low p (p.kids.drop k) k deep s=mH go low p (p.kids.drop (k+1)) (k+1) (some d) s':=by
 rw[drop_eq_getElem_cons hk,mH,h];show(if deep=none\/deep=some d then _ else _)=_;rw[if_pos hd]
theorem agm(hk:k<p.kids.length)(h:go p.kids[k] (iU low p k) (iE p k) s=some (d,s'))(hd:¬(deep=none\/deep=some d)):mH go low p (p.kids.drop k) k deep s=none:=by
 rw[drop_eq_getElem_cons hk,mH,h];show(if deep=none\/deep=some d then _ else _)=_;rw[if_neg hd]
theorem agn(hk:p.kids.length<=k):mH go low p (p.kids.drop k) k deep s=deep.map fun d=>(d,s):=by rw[drop_of_length_le hk,mH]
end
theorem aeG:(L++[s6]).flatMap dI.s=L.flatMap dI.s:=by simp[s6]
theorem ah6(h:L1.map dI.l=L.map dI.l++replicate (L1.length-L.length) [])(h1:L.length<=L1.length)(h2:L1.length<=max L.length (level+1))(h3:level<L1.length):L1.map dI.l=uz (L.map dI.l) (level+1):=by
 rw[h];unfold uz;rw[length_map,show L1.length-L.length=level+1-L.length from by omega]
theorem Lu{o:dI}(h:L1.map dI.l=uz (L.map dI.l) (level+1))(h3:level<L1.length)(ho:o.l=L1[level].l++[i]):(L1.set level o).map dI.l=lC (L.map dI.l) level i:=by
 rw[map_set,ho];unfold lC;rw[<-h,getD_eq_getElem?_getD,getElem?_eq_getElem (by rw[length_map];exact h3),getElem_map];rfl
theorem VA{j:Nat}{o:dI}(h:∀o∈L,n9 o)(ho:n9 o):∀x∈L.set j o,n9 x:=fun x hx=>by
 rcases mem_or_eq_of_mem_set hx with hx|rfl
 ·exact h x hx
 exact ho
theorem afm{deep:Option Nat}{d:Nat}(h:ug deep≠-2)(h2:(d:Int)=ug deep):deep=some d:=by
 cases deep with
 | none=>exact absurd rfl h
 | some e=>unfold ug at h2;simp only at h2;rw[show d=e from by omega]
theorem ago{deep:Option Nat}{d:Nat}(h:ug deep≠-2)(h2:¬(d:Int)=ug deep):¬(deep=none\/deep=some d):=by
 rintro(rfl|rfl)
 ·exact h rfl
 exact h2 rfl
theorem adJ{deep:Option Nat}(h:ug deep = -2):deep=none:=by
 cases deep with
 | none=>rfl
 | some e=>unfold ug at h;simp only at h;omega
def Xk(G:List (Nat×List Value))(t:aE)(b bm f:Nat):Prop:=∀(i:Int) (low high:K) (level:Nat) (m:List Int) (L:List dI) (ad:Option Addr) (cap:Nat) (Sx:List ag),(0<=i/\i<t.af.length)->oP t (m,(L.map dI.l))->level<=m.length->t.af.length+1<=f+m.length->high.length<=100->Bk L ad cap Sx->(∀o∈L,n9 o) ->
 VC Tryz.prog G 97 [da b,ae i,an 1 cB low,an 1 cB high,ae (level:Nat)] (SW t b bm m L ad cap Sx) (YI t b bm (jP t f i low high level (m,(L.map dI.l))))
theorem RY:(Tryz.prog.info? 3).map (fun i=>(i.zero,i.size,i.bytes))=some (some (.int .i64 0),1,8):=by kernel_rfl
theorem ac7:(Tryz.prog.info? 61).map (fun i=>(i.zero,i.size,i.bytes))=some (some (.slice none 0 0),1,24):=by kernel_rfl
theorem aeH(t:aE)(hp:wA t)(s7:t.af.length<=4000)(b bm f:Nat)(ih:Xk G t b bm f)(i:Int)(low high:K)(level:Nat)(m:List Int)(L:List dI)(ad:Option Addr)(cap:Nat)(Sx:List ag)(hr:0<=i/\i<t.af.length)(HK:oP t (m,(L.map dI.l)))(Ps:level<=m.length)(hfu:t.af.length+1<=(f+1)+m.length)(hhg:high.length<=100)(nU:Bk L ad cap Sx)(aQ:∀o∈L,n9 o) :
 VC Tryz.prog G 97 [da b,ae i,an 1 cB low,an 1 cB high,ae (level:Nat)] (SW t b bm m L ad cap Sx) (YI t b bm (jP t (f+1) i low high level (m,(L.map dI.l)))):=by
 refine bn func97 rfl ntmps97 aP fun X0 w0 bj=>?_;unfold SW YH;have dH:=ey;have aa:i.toNat<t.af.length:=(by omega)
 have q8:t.pg i=(t.af[i.toNat]'aa):=wM hr;have po:eT (t.af[i.toNat]'aa) t.af.length:=hp _ (getElem_mem aa);have hhl:=po.hlen;have OR:=HK.oT;have Ev:m.length<=t.af.length:=OR;refine aA [0,1,2,3,4] ?_;refine az 5 ?_;refine bQ (adT (i:=1) rfl ot ot rfl underlying165 underlying3 zeroValue204) ?_;refine aG 3 ?_;refine dF (ds:=[]) av rfl rfl zeroValue204 rfl (fun mv=>?_);refine aR 0 [] sizeOf204 ?_;refine aq 148 [0,1,2,3,4,12] ?_;refine ax [0,1,2,3,4,29] ?_ ?_<;>intro aM bG
 ·have lX:i∈m:=(by simpa using aM)
  refine dj [10] [] ?_;rw[ajK (by exact lX)];exact⟨rfl,rfl⟩
 have qV:i∉m:=(by simpa using aM)
 refine az 6 ?_;refine adU (i:=2) av rfl rfl ot ot ot rfl qV underlying165 underlying3 ?_;refine aq 148 [0,1,2,3,4] ?_;refine az 6 ?_;refine bQ (ei 5 (h:=by first|exact .l (j:=i.toNat) (Int.toNat_of_nonneg hr.1).symm aa|exact .r (j:=i.toNat) (Int.toNat_of_nonneg hr.1).symm aa)) ?_;refine aG 1 ?_;refine dF (ds:=[_,_,_,_,_]) av rfl rfl zeroValue129 rfl (fun I=>?_);refine aR 0 [_,_,_,_,_] sizeOf129 ?_;refine aq 148 [0,1,2,3,4,13] ?_;refine iT [0,1,2,3,4] (fun aV _ aF=>∃(I:Nat),(¬((t.pg i).high≠high\/∃k,(t.pg i).keys.head?=some k/\bC k low))/\aF=(⟨148,(13,da I)::aV,(⟨I,129,5,cP (t.af[i.toNat]'aa)⟩::⟨b,168,4,[an 5 cP t.af,ae t.root,.v (.map (some bm)),aN ad L.length cap]⟩::lR bm (m++[i])::(Sx++L.flatMap dI.s))⟩:St)) ?_ ?_
 ·refine az 3 ?_;refine eB call110 (Xi (t.af[i.toNat]'aa).high high w4 w4) ?_;refine aG 2 ?_;refine bU 49 (fun Ds alj=>?_) (fun Ds alj=>?_)
  ·refine aq 148 [0,1,2,3,4,13,63] ?_;refine e9 ?_;have pC:((t.pg i).high≠high\/∃k,(t.pg i).keys.head?=some k/\bC k low):=(by rw[q8];first|exact .inl (by simpa using Ds)|exact .inr ⟨_,head?_eq_getElem? .. ▸ getElem?_eq_getElem w4,of_decide_eq_true bf⟩)
   refine dj [10] [] ?_;rw[Vz pC];exact⟨rfl,rfl⟩
  refine aG 5 ?_;refine bU 54 (fun Bi AJ=>?_) (fun Bi AJ=>?_)
  ·refine aG 2 ?_;refine pR iR rfl (tV (mk:=Op.indexAddr 127) rfl ot cf (by first|exact we (j:=0) runUnderlying127 sizeOf86 rfl AV|exact wB (j:=0) runUnderlying127 sizeOf86 rfl AV)) ?_;refine aG 2 ?_;refine oK iR rfl rfl rfl call53 (ye ((t.af[i.toNat]'aa).keys[0]'w4) low) ⟨ot,ot,trivial⟩ ?_;refine aq 148 [0,1,2,3,4,13,63] ?_;refine cj ?_ ?_<;>intro bf cD
   ·have pC:((t.pg i).high≠high\/∃k,(t.pg i).keys.head?=some k/\bC k low):=(by rw[q8];first|exact .inl (by simpa using Ds)|exact .inr ⟨_,head?_eq_getElem? .. ▸ getElem?_eq_getElem w4,of_decide_eq_true bf⟩)
    refine dj [10] [] ?_;rw[Vz pC];exact⟨rfl,rfl⟩
   have pz:¬((t.pg i).high≠high\/∃k,(t.pg i).keys.head?=some k/\bC k low):=(by rw[q8];rintro(h|⟨k,hk,wS⟩);exact h (by simpa using Ds);first|(rw[head?_eq_getElem?,getElem?_eq_none w4] at hk;cases hk;done)|(rw[head?_eq_getElem?,getElem?_eq_getElem w4] at hk;cases hk;exact of_decide_eq_false bf wS))
   refine en ?_;refine⟨_,aI,I,pz,rfl⟩
  refine aq 148 [0,1,2,3,4,13,63] ?_;refine gB ?_;have pz:¬((t.pg i).high≠high\/∃k,(t.pg i).keys.head?=some k/\bC k low):=(by rw[q8];rintro(h|⟨k,hk,wS⟩);exact h (by simpa using Ds);first|(rw[head?_eq_getElem?,getElem?_eq_none w4] at hk;cases hk;done)|(rw[head?_eq_getElem?,getElem?_eq_getElem w4] at hk;cases hk;exact of_decide_eq_false bf wS))
  refine en ?_;refine⟨_,aI,I,pz,rfl⟩
 rintro _ ⟨I,pz,rfl⟩;refine fa [0,1,2,3,4,13] (fun aV _ (U:List dI×Option Addr×Nat×List ag) aF=>match U with|(L1,IZ,E,EA)=>(Bk L1 IZ E EA)/\(∀o∈L1,n9 o)/\(L1.map dI.l=L.map dI.l++replicate (L1.length-L.length) [])/\(L.length<=L1.length)/\(L1.length<=max L.length (level+1))/\aF=(⟨148,aV,(⟨I,129,5,cP (t.af[i.toNat]'aa)⟩::⟨b,168,4,[an 5 cP t.af,ae t.root,.v (.map (some bm)),aN IZ L1.length E]⟩::lR bm (m++[i])::(EA++L1.flatMap dI.s))⟩:St)) (fun (U:List dI×Option Addr×Nat×List ag)=>match U with|(L1,IZ,E,EA)=>level+1-L1.length) (L,ad,cap,Sx) ⟨nU,aQ,bp,(Nat.le_refl _),w4,rfl⟩ ?_;rintro⟨L1,IZ,E,EA⟩ _ ⟨YJ,rL,YK,anW,anX,rfl⟩;refine ax [0,1,2,3,4,13,70] ?_ ?_<;>intro cr cU
 ·have nO:=HK.eU;have nO:L.length<=m.length:=(by simpa using nO)
  have eO:L1.length<=level:=(by omega)
  refine dV 5 ?_;refine eH (cx 0 [_]) [.slice none 0 0] [_] zeroValue61 runUnderlying166 sizeOf61 (fun b76=>?_);refine gh 0 76 1 1 ?_;refine fY (ls:=L1) (new:=[s6]) (Sq:=EA) CE ajJ av rfl rfl underlying166 ac7 rfl w8 ot YJ (pS (A:=[_,_,_])) ot bp uD uD (fun PW NK anY anZ=>?_);refine bZ (kO (S1:=[⟨PW,61,NK*1,flatMap gV (L1++[s6])⟩]) (A:=[_,_,_])) ?_;rw[<-aeG (L:=L1)];refine aG 2 ?_;refine aR 1 [_,_,_,_] sizeOf166 ?_;refine aq 148 [0,1,2,3,4,13] ?_;refine⟨((L1++[s6]),(some ⟨PW,0,none⟩),NK,[⟨PW,61,NK*1,flatMap gV (L1++[s6])⟩]),_,(by (show level+1-(L1++[s6]).length<level+1-L1.length;rw[length_append,show[s6].length=1 from rfl];omega)),aI,(bN anY anZ),(fun o ho=>by rcases mem_append.1 ho with ho|ho;exact rL o ho;rw[mem_singleton] at ho;subst ho;exact ah5),(by rw[map_append,YK,append_assoc,length_append,show[s6].length=1 from rfl,show L1.length+1-L.length=L1.length-L.length+1 from by omega,replicate_succ'];rfl),xw,(by rw[length_append,show[s6].length=1 from rfl];omega),rfl⟩
 have eO:level<L1.length:=(by omega)
 have Bl:=ah6 YK anW anX eO;obtain⟨bv,rfl,Dr,CT,rfl⟩:=YJ.pos w4;have ev:n9 (L1[level]'eO):=rL _ (getElem_mem eO);have mU:(L1[level]'eO).l.length<=m.length:=by
    have hz:(L1[level]'eO).l=(uz (L.map dI.l) (level+1)).getD level []:=(by rw[<-Bl,getD_eq_getElem?_getD,getElem?_eq_getElem (by rw[length_map];exact eO),getElem_map];rfl)
    rw[hz,Lr,getD_eq_getElem?_getD];rcases Nat.lt_or_ge level (L.map dI.l).length with q|q
    ·rw[getElem?_eq_getElem q];exact HK.each _ (getElem_mem q)
    rw[getElem?_eq_none q];simp
 refine qs (Perm.cons _ (Perm.cons _ (Perm.cons _ ((Ap dI.s eO).append_left _)))) ?_;refine qq ?_;refine cQ ?_;refine CD.mono (Q:=fun aV aF=>aV=Exit.normal/\∃(o2:dI),(n9 o2)/\(o2.l=(L1[level]'eO).l++[i])/\Wk aF (⟨148,[(0,da b),(2,an 1 cB low),(3,an 1 cB high),(4,ae (level:Nat)),(13,da I)],(⟨I,129,5,cP (t.af[i.toNat]'aa)⟩::⟨b,168,4,[an 5 cP t.af,ae t.root,.v (.map (some bm)),aN (some ⟨bv,0,none⟩) (L1.set level o2).length E]⟩::lR bm (m++[i])::([⟨bv,61,E*1,flatMap gV (L1.set level o2)⟩]++(L1.set level o2).flatMap dI.s))⟩:St)) ?_ ?_
 ·refine KU (aj (take 3 _)) aB (fun _ h=>(Sublist.map _ (take_sublist _ _)).subset h) ?_;refine aC 0 rfl bJ ?_;refine aC 1 rfl qN ?_;refine aC 2 rfl (dU 3) ?_;refine aC 3 rfl (ec 1) ?_;refine aC 4 rfl bJ ?_;refine aC 5 rfl bJ ?_;refine aC 6 rfl qN ?_;refine aC 7 rfl (dU 3) ?_;refine aC 8 rfl (ec 1) ?_;refine aC 9 rfl bJ ?_;refine aC 10 rfl (ei 1) ?_;refine aC 12 rfl bJ ?_;refine dW.later rfl ?_;refine lK (i:=11) (j:=13) aB ?_ ?_
  ·refine at_ rfl (dN (mk:=Op.load 61) rfl ot (ke (k:=3) (d:=aN (L1[level]'eO).ad (L1[level]'eO).l.length (L1[level]'eO).cp) (i:=level) CE rfl rfl rfl isAgg61 eO rfl)) ?_;refine bH (i:=13) aB ?_;refine oE (cx 0 [_]) [.int .i64 0] [_] zeroValue3 runUnderlying61 sizeOf3 (fun b93=>?_);refine oF 0 93 1 1 ?_;refine bH (i:=14) aB ?_;refine qk (ls:=(L1[level]'eO).l) (new:=[i]) (Sq:=(L1[level]'eO).s) eS oM rfl av rfl rfl underlying61 RY rfl w8 ot ev (u5 (A:=[_,_,_]) (S1:=[⟨bv,61,E*1,flatMap gV L1⟩])) ot bp oA oB (fun lD kX NL NM=>?_);refine gq (xY (S2:=[⟨lD,3,kX*1,flatMap cI ((L1[level]'eO).l++[i])⟩]) (A:=[_,_,_])) ?_;refine dr 15 rfl (ei 1) ?_;refine bH (i:=16) aB ?_;refine vW (k:=3) (cs':=flatMap gV (L1.set level (⟨(L1[level]'eO).l++[i],some ⟨lD,0,none⟩,kX,[⟨lD,3,kX*1,flatMap cI ((L1[level]'eO).l++[i])⟩]⟩:dI))) rfl av rfl rfl ot rfl rfl ot rfl rfl sizeOf61 rfl XX ZB jb ?_;refine Mt (y:=⟨148,[(0,_),(2,_),(3,_),(4,_),(13,_)],(⟨I,129,5,[_,_,_,_,_]⟩::⟨b,168,4,[_,_,_,_]⟩::_::([⟨bv,61,E*1,flatMap gV (L1.set level (⟨(L1[level]'eO).l++[i],some ⟨lD,0,none⟩,kX,[⟨lD,3,kX*1,flatMap cI ((L1[level]'eO).l++[i])⟩]⟩:dI))⟩]++([⟨lD,3,kX*1,flatMap cI ((L1[level]'eO).l++[i])⟩]++((L1.eraseIdx level).flatMap dI.s))))⟩) (Wk.ek rfl rfl fJ) rfl ?_;refine Ga aB ?_
   exact⟨rfl,(⟨(L1[level]'eO).l++[i],some ⟨lD,0,none⟩,kX,[⟨lD,3,kX*1,flatMap cI ((L1[level]'eO).l++[i])⟩]⟩:dI),bN NL NM,rfl,by rw[length_set];exact Wk.perm (Perm.cons _ (Perm.cons _ (Perm.cons _ ((zW dI.s eO (⟨(L1[level]'eO).l++[i],some ⟨lD,0,none⟩,kX,[⟨lD,3,kX*1,flatMap cI ((L1[level]'eO).l++[i])⟩]⟩:dI)).symm.append_left _))))⟩
  refine oE (cx 0 [_]) [.int .i64 0] [_] zeroValue3 runUnderlying61 sizeOf3 (fun b93=>?_);refine oF 0 93 1 1 ?_;refine bH (i:=11) aB ?_;refine at_ rfl (dN (mk:=Op.load 61) rfl ot (ke (k:=3) (d:=aN (L1[level]'eO).ad (L1[level]'eO).l.length (L1[level]'eO).cp) (i:=level) CE rfl rfl rfl isAgg61 eO rfl)) ?_;refine bH (i:=14) aB ?_;refine qk (ls:=(L1[level]'eO).l) (new:=[i]) (Sq:=(L1[level]'eO).s) eS oM rfl av rfl rfl underlying61 RY rfl w8 ot ev (u5 (A:=[_,_,_]) (S1:=[⟨bv,61,E*1,flatMap gV L1⟩])) ot bp oA oB (fun lD kX NL NM=>?_);refine gq (xY (S2:=[⟨lD,3,kX*1,flatMap cI ((L1[level]'eO).l++[i])⟩]) (A:=[_,_,_])) ?_;refine dr 15 rfl (ei 1) ?_;refine bH (i:=16) aB ?_;refine vW (k:=3) (cs':=flatMap gV (L1.set level (⟨(L1[level]'eO).l++[i],some ⟨lD,0,none⟩,kX,[⟨lD,3,kX*1,flatMap cI ((L1[level]'eO).l++[i])⟩]⟩:dI))) rfl av rfl rfl ot rfl rfl ot rfl rfl sizeOf61 rfl XX ZB jb ?_;refine Mt (y:=⟨148,[(0,_),(2,_),(3,_),(4,_),(13,_)],(⟨I,129,5,[_,_,_,_,_]⟩::⟨b,168,4,[_,_,_,_]⟩::_::([⟨bv,61,E*1,flatMap gV (L1.set level (⟨(L1[level]'eO).l++[i],some ⟨lD,0,none⟩,kX,[⟨lD,3,kX*1,flatMap cI ((L1[level]'eO).l++[i])⟩]⟩:dI))⟩]++([⟨lD,3,kX*1,flatMap cI ((L1[level]'eO).l++[i])⟩]++((L1.eraseIdx level).flatMap dI.s))))⟩) (Wk.ek rfl rfl fJ) rfl ?_;refine Ga aB ?_
  exact⟨rfl,(⟨(L1[level]'eO).l++[i],some ⟨lD,0,none⟩,kX,[⟨lD,3,kX*1,flatMap cI ((L1[level]'eO).l++[i])⟩]⟩:dI),bN NL NM,rfl,by rw[length_set];exact Wk.perm (Perm.cons _ (Perm.cons _ (Perm.cons _ ((zW dI.s eO (⟨(L1[level]'eO).l++[i],some ⟨lD,0,none⟩,kX,[⟨lD,3,kX*1,flatMap cI ((L1[level]'eO).l++[i])⟩]⟩:dI)).symm.append_left _))))⟩
 rintro _ _ ⟨rfl,o2,n8,HH,alk⟩;refine kS alk ?_;refine ax [0,2,3,4,13,97] ?_ ?_<;>intro de eG
 ·refine dj [10] (SW t b bm (m++[i]) (L1.set level o2) (some ⟨bv,0,none⟩) E _) ?_;rw[agk qV pz (by rw[q8];exact de)];exact⟨rfl,_,_,_,_,bN (by rw[length_set];exact Dr) CT,VA rL n8,Lu Bl eO HH,rfl⟩
 have gg:(t.pg i).leaf=false:=(by rw[q8];exact de)
 have Hf:oP t (m++[i],(L1.set level o2).map dI.l):=(by rw[Lu Bl eO HH];exact HK.add hr qV Ps)
 have an0:=RW po (by rw[<-q8];exact gg);have as8:=(po.node (by rw[<-q8];exact gg)).1;have as9:=po.eU;have CU:(t.af[i.toNat]'aa).high=high:=(by rw[<-q8];exact Classical.byContradiction fun h=>pz (.inl h))
 refine aA [0,2,3,4,13,14] ?_;refine aA [0,2,3,4,13,14,100,101,102] ?_;refine fa [0,2,3,4,13,100,101] (fun aV _ (U:Nat×Option Nat×List Int×List dI×Option Addr×Nat×List ag) aF=>match U with|(k,deep,m2,L2,vT,O,vU)=>(k<=(t.af[i.toNat]'aa).kids.length)/\(mH (fun c lo hi s=>jP t f c lo hi (level+1) s) low (t.af[i.toNat]'aa) ((t.af[i.toNat]'aa).kids.drop k) k deep (m2,(L2.map dI.l))=(jP t (f+1) i low high level (m,(L.map dI.l))))/\(Bk L2 vT O vU)/\(∀o∈L2,n9 o)/\(oP t (m2,(L2.map dI.l)))/\(level+1<=m2.length)/\(t.af.length+1<=f+m2.length)/\((k=0\/deep≠none))/\aF=(⟨148,(14,ae (ug deep))::(102,ae (k:Nat))::aV,(⟨I,129,5,cP (t.af[i.toNat]'aa)⟩::⟨b,168,4,[an 5 cP t.af,ae t.root,.v (.map (some bm)),aN vT L2.length O]⟩::lR bm m2::(vU++L2.flatMap dI.s))⟩:St)) (fun (U:Nat×Option Nat×List Int×List dI×Option Addr×Nat×List ag)=>match U with|(k,deep,m2,L2,vT,O,vU)=>(t.af[i.toNat]'aa).kids.length-k) (0,none,(m++[i]),(L1.set level o2),(some ⟨bv,0,none⟩),E,[⟨bv,61,E*1,flatMap gV (L1.set level o2)⟩]) ⟨(Nat.zero_le _),(by rw[agl qV pz gg,Lu Bl eO HH,q8];rfl),(bN (by rw[length_set];exact Dr) CT),(VA rL n8),Hf,Hq,Hq,(.inl rfl),rfl⟩ ?_;rintro⟨k,deep,m2,L2,vT,O,vU⟩ _ ⟨hk,EB,YL,kD,Hf,YM,an1,hdp,rfl⟩;refine ax [0,2,3,4,13,14,100,101,102,103] ?_ ?_<;>intro eo fS
 ·have er:k<(t.af[i.toNat]'aa).kids.length:=(by omega)
  have hkr:=an0 _ (getElem_mem er);have hhk:(iE (t.af[i.toNat]'aa) k).length<=100:=(by unfold iE;rw[getD_eq_getElem?_getD];rcases Nat.lt_or_ge k (t.af[i.toNat]'aa).keys.length with q|q;(rw[getElem?_eq_getElem q];exact(po.me _ (getElem_mem q)).2);(rw[getElem?_eq_none q];exact po.hlen))
  refine aA [0,2,3,4,13,14,15,16,100,101,102] ?_;refine aA [0,2,3,4,13,14,15,16,17,18,100,101,102] ?_;refine sG (fun aF=>aF=(⟨148,[(0,da b),(2,an 1 cB low),(3,an 1 cB high),(4,ae (level:Nat)),(13,da I),(14,ae (ug deep)),(15,ae (k:Nat)),(16,ae ((t.af[i.toNat]'aa).kids[k]'er)),(17,.list 1 ((iU low (t.af[i.toNat]'aa) k).flatMap cB) (iU low (t.af[i.toNat]'aa) k).length),(18,an 1 cB high),(100,.list 1 ((t.af[i.toNat]'aa).kids.flatMap cI) (t.af[i.toNat]'aa).kids.length),(101,ae ((t.af[i.toNat]'aa).kids.length:Nat)),(102,ae (k:Nat))],(⟨I,129,5,cP (t.af[i.toNat]'aa)⟩::⟨b,168,4,[an 5 cP t.af,ae t.root,.v (.map (some bm)),aN vT L2.length O]⟩::lR bm m2::(vU++L2.flatMap dI.s))⟩:St)) ?_ ?_
  ·refine ax [0,2,3,4,13,14,15,16,17,18,100,101,102,110] ?_ ?_<;>intro gk iC
   ·have ff:iU low (t.af[i.toNat]'aa) k=(t.af[i.toNat]'aa).keys[k-1]'w4:=(by unfold iU;rw[if_neg w4,getD_eq_getElem?_getD,getElem?_eq_getElem w4];rfl)
    refine jg [0,2,3,4,13,14,15,16,17,18,100,101,102] ?_;refine aT 4 ?_ (h:=by exact(ei 1 (h:=by first|exact .l (j:=k-1) w4 w4|exact .r (j:=k-1) w4 w4)));refine bL ?_;refine⟨_,(aI (h:=Zx)),rfl⟩
   have ff:iU low (t.af[i.toNat]'aa) k=low:=(by unfold iU;rw[if_pos w4])
   refine en ?_;refine⟨_,(aI (h:=Zx)),rfl⟩
  rintro _ ⟨rfl⟩;refine sG (fun aF=>aF=(⟨148,[(0,da b),(2,an 1 cB low),(3,an 1 cB high),(4,ae (level:Nat)),(13,da I),(14,ae (ug deep)),(16,ae ((t.af[i.toNat]'aa).kids[k]'er)),(17,.list 1 ((iU low (t.af[i.toNat]'aa) k).flatMap cB) (iU low (t.af[i.toNat]'aa) k).length),(18,.list 1 ((iE (t.af[i.toNat]'aa) k).flatMap cB) (iE (t.af[i.toNat]'aa) k).length),(100,.list 1 ((t.af[i.toNat]'aa).kids.flatMap cI) (t.af[i.toNat]'aa).kids.length),(101,ae ((t.af[i.toNat]'aa).kids.length:Nat)),(102,ae (k:Nat))],(⟨I,129,5,cP (t.af[i.toNat]'aa)⟩::⟨b,168,4,[an 5 cP t.af,ae t.root,.v (.map (some bm)),aN vT L2.length O]⟩::lR bm m2::(vU++L2.flatMap dI.s))⟩:St)) ?_ ?_
  ·refine ax [0,2,3,4,13,14,15,16,17,18,100,101,102,121] ?_ ?_<;>intro iQ qa
   ·have eJ:iE (t.af[i.toNat]'aa) k=(t.af[i.toNat]'aa).keys[k]'w4:=(by unfold iE;rw[getD_eq_getElem?_getD,getElem?_eq_getElem w4];rfl)
    refine cc [0,2,3,4,13,14,16,17,18,100,101,102] ?_;refine⟨_,(aI (h:=Zy)),rfl⟩
   have eJ:iE (t.af[i.toNat]'aa) k=high:=(by unfold iE;rw[getD_eq_getElem?_getD,getElem?_eq_none w4];exact CU)
   refine en ?_;refine⟨_,(aI (h:=Zy)),rfl⟩
  rintro _ ⟨rfl⟩;refine az 5 ?_;refine bQ (dX (r:=.int .i64 ((level+1:Nat):Int)) rfl ot cf (lI (by rw[show((level:Nat):Int)+1=((level+1:Nat):Int) from rfl];exact wrap_i64 w4 w4))) ?_;refine fg av rfl rfl rfl call97 (ih ((t.af[i.toNat]'aa).kids[k]'er) (iU low (t.af[i.toNat]'aa) k) (iE (t.af[i.toNat]'aa) k) (level+1) m2 L2 vT O vU hkr Hf YM an1 hhk YL kD) ⟨ot,ot,ot,ot,ot,trivial⟩ (perm_append_singleton _ _).symm ?_;rintro r19 S19 nM;rcases jq:jP t f ((t.af[i.toNat]'aa).kids[k]'er) (iU low (t.af[i.toNat]'aa) k) (iE (t.af[i.toNat]'aa) k) (level+1) (m2,(L2.map dI.l)) with _|⟨d,m3,lv3⟩
  ·rw[jq] at nM;obtain⟨rfl,rfl⟩:=nM;have alm:=EB.symm.trans (aeF er jq);refine aq 148 [0,2,3,4,13,14,19,100,101,102] ?_;refine az 3 ?_;refine bU 136 (fun Z Mb=>?_) (fun Z Mb=>?_)
   ·refine bA [0,2,3,4,13,19,100,101,102,144] ?_;refine e9 ?_;refine dj [10] [] ?_;rw[alm];exact⟨rfl,rfl⟩
   exact absurd Z w8
  rw[jq] at nM;obtain⟨rfl,L3,I0,HL,I1,YN,yR,rfl,rfl⟩:=nM;obtain⟨Xl,G0⟩:=Ls hp _ _ _ _ _ _ _ _ hkr Hf YM jq;have G0:m2.length<=m3.length:=G0;refine bZ (perm_append_singleton _ _) ?_;refine aq 148 [0,2,3,4,13,14,19,100,101,102] ?_;refine az 3 ?_;refine bU 136 (fun Z Mb=>?_) (fun Z Mb=>?_)
  ·exact absurd Z (by intro e;have e:=of_decide_eq_true e;omega)
  refine aG 3 ?_;refine bU 139 (fun GS ajL=>?_) (fun GS ajL=>?_)
  ·refine bA [0,2,3,4,13,19,100,101,102,144] ?_;refine cj ?_ ?_<;>intro jn nK
   ·refine dj [10] [] ?_;rw[EB.symm.trans (agm er jq (ago (by simpa using GS) (by simpa using jn)))];exact⟨rfl,rfl⟩
   refine cc [0,2,3,4,13,14,100,101,102] ?_;refine cc [0,2,3,4,13,14,100,101,102] ?_;refine⟨((k+1),(some d),m3,L3,I0,HL,I1),_,cG,aI,w4,((RX er jq XJ).symm.trans EB),YN,yR,Xl,w4,w4,(.inr (fun e=>by cases e)),rfl⟩
  refine bA [0,2,3,4,13,19,100,101,102,144] ?_;refine gB ?_;refine cc [0,2,3,4,13,14,100,101,102] ?_;refine cc [0,2,3,4,13,14,100,101,102] ?_;refine⟨((k+1),(some d),m3,L3,I0,HL,I1),_,cG,aI,w4,((RX er jq XJ).symm.trans EB),YN,yR,Xl,w4,w4,(.inr (fun e=>by cases e)),rfl⟩
 obtain rfl:k=(t.af[i.toNat]'aa).kids.length:=(by omega)
 obtain⟨d,rfl⟩:∃d,deep=some d:=(by rcases hdp with h|h;omega;exact Option.ne_none_iff_exists'.1 h)
 refine dj [10] (SW t b bm m2 L2 vT O vU) ?_;rw[<-EB,agn (Nat.le_refl _)];exact⟨rfl,L2,vT,O,vU,YL,kD,rfl,rfl⟩
end Tw
namespace Tw
open List
open Go.Proofs.Tryz
open Go.RowKit V Go.Proofs.YtbplamgacibdaaaGreatDoor.Tr Pk
theorem Lv{G:List (Nat×List Value)}(t:aE)(hp:wA t)(I:t.af.length<=4000)(b Z:Nat):∀f,Xk G t b Z f
 | 0=>fun i low high level m L ad cap Sx hr E O U _ _ _=>by have h:m.length<=t.af.length:=E.oT;exfalso;omega
 | f+1=>fun i low high level m L ad cap Sx hr E O U hhg nU aQ=>aeH t hp I b Z f (Lv t hp I b Z f) i low high level m L ad cap Sx hr E O U hhg nU aQ
theorem Lw(t:aE):oP t ([],[]):=⟨nodup_nil,(fun x h=>by cases h),Nat.le_refl _,(fun l h=>by cases h),(fun l h=>by cases h)⟩
theorem Lx{t:aE}{e:Int}:∀{l:List Int},fA t l e↔∀k (h:k<l.length),(t.pg l[k]).next=l.getD (k+1) e
  | []=>⟨(fun _ k h=>by cases h),fun _=>trivial⟩
  | [i] => ⟨fun h k hk => by obtain rfl : k=0 := by (simp at hk; exact hk)
                             exact h,fun h=>h 0 bp⟩
  | i::j::r=>by
    show(t.pg i).next=j/\fA t (j::r) e↔_;rw[Lx (l:=j::r)];constructor
    · rintro⟨h1,h2⟩ k hk;cases k with
      | zero=>exact h1
      | succ k=>exact h2 k (by simpa using hk)
    intro h;exact⟨h 0 bp,fun k hk=>h (k+1) (by simpa using hk)⟩
theorem RZ{p:dc}{n:Int}:CS p n=true↔eT p n:=by unfold CS;simp
section
variable {t:aE}
theorem QG(h:t.af.length<1\/t.af.length>4000\/t.root<0\/t.root>=t.af.length):gZ t=11:=by unfold gZ;rw[if_pos h]
theorem ac8(h:¬wA t):gZ t=11:=by
 unfold gZ;split
 ·rfl
 first|rfl|rw[if_pos h]
variable {d:Nat} {m:List Int} {lv:List (List Int)}
theorem ac9(hw:jP t (t.af.length+1) t.root [] [] 0 ([],[])=none):gZ t=11:=by
 unfold gZ;split
 ·rfl
 split
 ·rfl
 rw[hw]
theorem aeI(hw:jP t (t.af.length+1) t.root [] [] 0 ([],[])=some (d,m,lv))(h:m.length≠t.af.length):gZ t=11:=by
 unfold gZ;split
 ·rfl
 split
 ·rfl
 rw[hw];exact if_pos h
open Classical in
theorem aeJ(hw:jP t (t.af.length+1) t.root [] [] 0 ([],[])=some (d,m,lv))(h:¬∀l∈lv,fA t l (-1)):gZ t=11:=by
 unfold gZ;split
 ·rfl
 split
 ·rfl
 rw[hw];show(if m.length≠t.af.length then (11:Int) else if ∀l∈lv,fA t l (-1) then 0 else 11)=11;split
 ·rfl
 first|rfl|rw[if_neg h]
open Classical in
theorem aeK(h1:¬(t.af.length<1\/t.af.length>4000\/t.root<0\/t.root>=t.af.length))(h2:wA t)(hw:jP t (t.af.length+1) t.root [] [] 0 ([],[])=some (d,m,lv))(h3:m.length=t.af.length)(h:∀l∈lv,fA t l (-1)):gZ t=0:=by
 unfold gZ;rw[if_neg h1,if_neg (fun hn=>hn h2),hw];show(if m.length≠t.af.length then (11:Int) else if ∀l∈lv,fA t l (-1) then 0 else 11)=0;rw[if_neg (fun hn=>hn h3),if_pos h]
end
def zG(l:List Int):List D:=[an 1 cI l]
theorem ah7(l:List Int):(zG l).length=1:=rfl
theorem VB{S:List ag}:∀{L:List dI},(∀o∈L,n9 o)->(∀B∈L.flatMap dI.s,B∈S)->hU S (L.flatMap gV) ((L.map dI.l).flatMap zG)
 | [],_,_=>trivial
 | o::L,h,hs=>by
  rw[map_cons,flatMap_cons,flatMap_cons];refine hU.append ⟨mX (h o mem_cons_self) (cz eS _) (fun B hB=>hs B ?_),trivial⟩ (VB (fun o ho=>h o (mem_cons_of_mem _ ho)) fun B hB=>hs B ?_)
  ·rw[flatMap_cons];exact mem_append_left _ hB
  rw[flatMap_cons];exact mem_append_right _ hB
theorem ajM{Sx:List ag}{L:List dI}{ad:Option Addr}{cap:Nat}{lv:List (List Int)}(ho:Bk L ad cap Sx)(h:∀o∈L,n9 o)(hm:L.map dI.l=lv):View (Sx++L.flatMap dI.s) (aN ad L.length cap) (an 1 zG lv):=by
 subst hm;have:=B6 ho (VB (S:=Sx++L.flatMap dI.s) h fun B hB=>mem_append_right _ hB) (cz ah7 _ |>.trans bp) (fun B hB=>mem_append_left _ hB);first|rw[length_map]|(show View _ _ (.list _ _ (length _));rw[length_map])|(show View _ _ (.agg [.list _ _ (length _)]);rw[length_map])
 exact this
variable {G:List (Nat×List Value)}
theorem qo(t:aE)(hb:∀p∈t.af,p.keys.length<=maxLen/\p.kids.length<=maxLen):VP Tryz.prog G 51 [.agg (cT t)] (ae (gZ t)):=by
 refine bn func51 rfl ntmps51 aP fun X0 w0 bj=>?_;unfold cT;have dH:=ey;refine bX ?_;refine cW [_,_] (fun b1=>?_);refine aq 104 [1] ?_;refine az 5 ?_;refine bU 15 (fun C8 aln=>?_) (fun C8 aln=>?_)
 ·exact z72
 refine aG 6 ?_;refine bU 21 (fun rK alo=>?_) (fun rK alo=>?_)
 ·exact z72
 refine aG 5 ?_;refine bU 26 (fun an2 ME=>?_) (fun an2 ME=>?_)
 ·exact z72
 refine bA [1,33] ?_;refine cj ?_ ?_<;>intro aM bG
 ·refine aA [2] ?_;refine fi ?_;exact⟨vi (QG w4).symm,rfl⟩
 refine aA [1,35,36,37] ?_;refine fa [1,35,36] (fun aV _ (i:Nat) aF=>(i<=t.af.length)/\(∀j (h:j<t.af.length),j<i->eT t.af[j] t.af.length)/\aF=(⟨104,(37,ae (i:Nat))::aV,[⟨b1,66,2,[an 5 cP t.af,ae t.root]⟩]⟩:St)) (fun (i:Nat)=>t.af.length-i) 0 ⟨(Nat.zero_le _),(fun j h h0=>by omega),rfl⟩ ?_;rintro i _ ⟨hi,q8,rfl⟩;refine ax [1,35,36,37,38] ?_ ?_<;>intro bf cD
 ·have aa:i<t.af.length:=(by omega)
  obtain⟨er,fO⟩:=hb (t.af[i]'aa) (getElem_mem aa);refine az 2 ?_;refine dF (ds:=[_,_,_,_,_]) av rfl rfl zeroValue129 rfl (fun b4=>?_);refine aR 0 [_,_,_,_,_] sizeOf129 ?_;refine aq 104 [1,4,35,36,37] ?_;refine cX [1,35,36,37,46] (ah1 (t.af[i]'aa) (t.af.length:Nat) er fO) ?_;refine cj ?_ ?_<;>intro cr cU
  ·have pC:¬wA t:=fun h=>by have:=RZ.2 (h (t.af[i]'aa) (getElem_mem aa));rw[this] at cr;cases cr
   refine dj [2] [] ?_;exact⟨vi (ac8 pC).symm,rfl⟩
  have an3:eT (t.af[i]'aa) t.af.length:=RZ.1 (by simpa using cr);refine cc [1,35,36,37] ?_;refine⟨(i+1),_,cG,aI,w4,(fun j h h0=>by rcases Nat.lt_or_ge j i with q|q;exact q8 j h q;obtain rfl:j=i:=w4;exact an3),rfl⟩
 have eL:wA t:=fun p h=>by obtain⟨j,hj,rfl⟩:=mem_iff_getElem.1 h;exact q8 j hj w4
 have h4:t.af.length<=4000:=(by omega)
 have E:0<=t.root/\t.root<t.af.length:=(by omega)
 refine az 1 ?_;refine acS av rfl rfl (fun O=>?_);refine aG 1 ?_;refine cW [_,_,_,_] (fun U=>?_);refine aq 104 [1,5] ?_;refine cQ ?_;refine cQ ?_;rcases jq:jP t (t.af.length+1) t.root [] [] 0 ([],[]) with _|⟨d,m,lv⟩
 ·refine iD 14 (aj (drop 2 _)) ?_ (fun _ h=>(Sublist.map _ (drop_sublist _ _)).subset h);refine aC 0 rfl bJ ?_;refine aC 1 rfl (dU 1) ?_;refine aC 2 rfl (ec 2) ?_;refine dW.later rfl ?_;refine bH (i:=3) aB ?_;refine ko rfl av rfl rfl rfl call97 (VC.eC (args':=[da U,ae t.root,bW,bW,ae 0]) (Lv t eL h4 U O (t.af.length+1) t.root [] [] 0 [] [] none 0 [] E (Lw t) (Nat.le_refl _) (Nat.le_refl _) w8 jj (fun o h=>by cases h)) ⟨.inl rfl,.inl rfl,.inr ⟨1,rfl,rfl⟩,.inr ⟨1,rfl,rfl⟩,.inl rfl,trivial⟩) ⟨ot,ot,cf,cf,cf,trivial⟩ (Perm.refl _) jb ?_;rintro r55 Ox nM;rw[show map dI.l []=[] from rfl,jq] at nM;obtain⟨rfl,rfl⟩:=nM;refine dr 4 rfl qS ?_;refine dr 5 rfl bJ ?_;refine FP (t:=57) lk (fun vA=>?_) (fun vA=>?_)
  ·have CO:=vA;(try simp only[V.oG,ne_eq] at CO)
   refine qO 6 rfl ?_;refine qO 7 rfl ?_;refine qO 11 rfl ?_;refine qO 12 rfl ?_;refine qO 13 rfl ?_;refine bH (i:=8) aB ?_;refine ql rfl (nC rfl rfl rfl lk jQ) rfl ?_;refine bH (i:=9) aB ?_;refine ql rfl (nC rfl rfl rfl lk jQ) rfl ?_;refine bH (i:=10) aB ?_;refine ql rfl (nC rfl rfl rfl lk jQ) rfl ?_;refine fD ?_;refine bA [1,5,67] ?_;refine e9 ?_;try have I:m.length≠t.af.length:=by intro e;rw[e] at de;simp at de
   refine aA [2] ?_;refine fi ?_;exact⟨vi (ac9 jq).symm,rfl⟩
  exact absurd vA w8
 refine iD 14 (aj (drop 2 _)) ?_ (fun _ h=>(Sublist.map _ (drop_sublist _ _)).subset h);refine aC 0 rfl bJ ?_;refine aC 1 rfl (dU 1) ?_;refine aC 2 rfl (ec 2) ?_;refine dW.later rfl ?_;refine bH (i:=3) aB ?_;refine ko rfl av rfl rfl rfl call97 (VC.eC (args':=[da U,ae t.root,bW,bW,ae 0]) (Lv t eL h4 U O (t.af.length+1) t.root [] [] 0 [] [] none 0 [] E (Lw t) (Nat.le_refl _) (Nat.le_refl _) w8 jj (fun o h=>by cases h)) ⟨.inl rfl,.inl rfl,.inr ⟨1,rfl,rfl⟩,.inr ⟨1,rfl,rfl⟩,.inl rfl,trivial⟩) ⟨ot,ot,cf,cf,cf,trivial⟩ (Perm.refl _) jb ?_;rintro r55 Ox nM;rw[show map dI.l []=[] from rfl,jq] at nM;obtain⟨rfl,L,ad,cap,Sx,nU,aQ,Bl,rfl⟩:=nM;refine gq (Perm.cons _ (Perm.cons _ (perm_append_singleton _ _))) ?_;refine dr 4 rfl qS ?_;refine dr 5 rfl bJ ?_;refine FP (t:=57) lk (fun vA=>?_) (fun vA=>?_)
 ·exact absurd vA (by intro e;have e:=of_decide_eq_true e;omega)
 have CO:=vA;(try simp only[V.oG,ne_eq] at CO)
 refine dr 6 rfl bJ ?_;refine dr 7 rfl qN ?_;refine dr 11 rfl (dU 0) ?_;refine dr 12 rfl (ec 2) ?_;refine dr 13 rfl zf ?_;refine bH (i:=8) aB ?_;refine at_ rfl (dU 2) ?_;refine bH (i:=9) aB ?_;refine at_ rfl (ec 0) ?_;refine bH (i:=10) aB ?_;refine at_ rfl (acT (i:=1) rfl rfl ot rfl underlying165) ?_;refine fD ?_;refine bA [1,5,67] ?_;refine cj ?_ ?_<;>intro de eG
 ·try have I:m.length≠t.af.length:=by intro e;rw[e] at de;simp at de
  refine aA [2] ?_;refine fi ?_;exact⟨vi (aeI jq I).symm,rfl⟩
 have I:m.length=t.af.length:=(by have:=de;simp at this;omega)
 refine kS (Wk.cover (A:=⟨U,168,4,[an 5 cP t.af,ae t.root,.v (.map (some O)),aN ad L.length cap]⟩) (R:=[lR O m,⟨b1,66,2,[an 5 cP t.af,ae t.root]⟩]) (Sd:=Sx++L.flatMap dI.s) (cs':=[an 5 cP t.af,ae t.root,.v (.map (some O)),an 1 zG lv]) (Perm.refl _) ⟨fq,fq,fq,ajM nU aQ Bl,trivial⟩) ?_;obtain⟨Z,_⟩:=Ls eL _ _ _ _ _ _ _ _ E (Lw t) (Nat.le_refl _) jq;refine aA [1,71,72,73] ?_;refine lo_ (fun (i:Nat) aF=>(i<=lv.length)/\(∀j (_:j<i) (h:j<lv.length),fA t lv[j] (-1))/\aF=(⟨104,[(1,da b1),(71,an 1 zG lv),(72,ae (lv.length:Nat)),(73,ae (i:Nat))],[⟨b1,66,2,[an 5 cP t.af,ae t.root]⟩]⟩:St)) (fun (i:Nat)=>lv.length-i) 0 ⟨(Nat.zero_le _),(fun j h _=>by omega),rfl⟩ ?_;rintro i _ ⟨lg,BH,rfl⟩;refine ax [1,71,72,73,74] ?_ ?_<;>intro eo fS
 ·have fO:i<lv.length:=(by omega)
  have Ef:∀x∈(lv[i]'fO),0<=x/\x<t.af.length:=Z.el _ (getElem_mem fO);have mU:(lv[i]'fO).length<=m.length:=Z.each _ (getElem_mem fO);have hfw:lv.length<=m.length:=Z.eU;refine aA [1,7,71,72,73] ?_;refine aA [1,7,71,72,73,77,78,79] ?_;refine lo_ (fun (k:Nat) aF=>(k<=(lv[i]'fO).length)/\(∀j (_:j<k) (h:j<(lv[i]'fO).length),(t.pg (lv[i]'fO)[j]).next=(lv[i]'fO).getD (j+1) (-1))/\aF=(⟨104,[(1,da b1),(7,.list 1 ((lv[i]'fO).flatMap cI) (lv[i]'fO).length),(71,an 1 zG lv),(72,ae (lv.length:Nat)),(73,ae (i:Nat)),(77,.list 1 ((lv[i]'fO).flatMap cI) (lv[i]'fO).length),(78,ae ((lv[i]'fO).length:Nat)),(79,ae (k:Nat))],[⟨b1,66,2,[an 5 cP t.af,ae t.root]⟩]⟩:St)) (fun (k:Nat)=>(lv[i]'fO).length-k) 0 ⟨(Nat.zero_le _),(fun j h _=>by omega),rfl⟩ ?_;rintro k _ ⟨hk,hn,rfl⟩;refine ax [1,7,71,72,73,77,78,79,80] ?_ ?_<;>intro gk iC
  ·have er:k<(lv[i]'fO).length:=(by omega)
   have PX:=Ef _ (getElem_mem er);have gK:((lv[i]'fO)[k]'er).toNat<t.af.length:=(by omega)
   have hpx:t.pg ((lv[i]'fO)[k]'er)=t.af[((lv[i]'fO)[k]'er).toNat]'gK:=wM PX;refine aA [1,7,8,9,71,72,73,77,78,79] ?_;refine aA [1,7,8,9,10,71,72,73,77,78,79] ?_;refine sG (fun aF=>aF=(⟨104,[(1,da b1),(7,.list 1 ((lv[i]'fO).flatMap cI) (lv[i]'fO).length),(9,ae ((lv[i]'fO)[k]'er)),(10,ae ((lv[i]'fO).getD (k+1) (-1))),(71,an 1 zG lv),(72,ae (lv.length:Nat)),(73,ae (i:Nat)),(77,.list 1 ((lv[i]'fO).flatMap cI) (lv[i]'fO).length),(78,ae ((lv[i]'fO).length:Nat)),(79,ae (k:Nat))],[⟨b1,66,2,[an 5 cP t.af,ae t.root]⟩]⟩:St)) ?_ ?_
   ·refine ax [1,7,8,9,10,71,72,73,77,78,79,88] ?_ ?_<;>intro iQ qa
    ·have k8:(lv[i]'fO).getD (k+1) (-1)=(lv[i]'fO)[k+1]'w4:=(by rw[getD_eq_getElem?_getD,getElem?_eq_getElem w4];rfl)
     refine jg [1,7,9,10,71,72,73,77,78,79] ?_;refine aT 3 ?_ (h:=by exact(ei 1 (h:=by first|exact .l (j:=k+1) w4 w4|exact .r (j:=k+1) w4 w4)));refine bL ?_;exact z85
    have k8:(lv[i]'fO).getD (k+1) (-1) = -1:=(by rw[getD_eq_getElem?_getD,getElem?_eq_none w4];rfl)
    refine en ?_;exact z85
   rintro _ ⟨rfl⟩;refine cN [1,7,71,72,73,77,78,79,101] ?_;refine aT 3 ?_ (h:=by exact(ei 5 (h:=by first|exact .l (j:=((lv[i]'fO)[k]'er).toNat) (Int.toNat_of_nonneg PX.1).symm gK|exact .r (j:=((lv[i]'fO)[k]'er).toNat) (Int.toNat_of_nonneg PX.1).symm gK)));refine bL ?_;refine cj ?_ ?_<;>intro jn nK
   ·have pC:¬∀l∈lv,fA t l (-1):=fun h=>by have:=Lx.1 (h (lv[i]'fO) (getElem_mem fO)) k er;rw[hpx] at this;simp[this] at jn
    refine dj [2] [] ?_;exact⟨vi (aeJ jq pC).symm,rfl⟩
   have oX:(t.pg ((lv[i]'fO)[k]'er)).next=(lv[i]'fO).getD (k+1) (-1):=(by rw[hpx];simpa using jn)
   refine cc [1,7,71,72,73,77,78,79] ?_;refine⟨(k+1),_,cG,aI,w4,(fun j h0 h=>by rcases Nat.lt_or_ge j k with q|q;exact hn j q h;obtain rfl:j=k:=w4;exact oX),rfl⟩
  have an4:fA t (lv[i]'fO) (-1):=Lx.2 fun j hj=>hn j w4 hj;refine cc [1,71,72,73] ?_;refine⟨(i+1),_,cG,aI,w4,(fun j h0 h=>by rcases Nat.lt_or_ge j i with q|q;exact BH j q h;obtain rfl:j=i:=w4;exact an4),rfl⟩
 have ox:i=lv.length:=(by omega)
 refine dj [2] [] ?_;exact⟨vi (aeK w4 eL jq I fun l hl=>by obtain⟨j,hj,rfl⟩:=mem_iff_getElem.1 hl;exact BH j w4 hj).symm,rfl⟩
end Tw
namespace Tw
open List
open Go.Proofs.Tryz
open Go.RowKit V Tr Pk
variable {t:aE} {k:K}
noncomputable def mg(t:aE)(k:K):Int:=if gZ t=0 then (if pD k=true then 0 else 1) else gZ t
theorem FL(h:¬gZ t=0):mg t k=gZ t:=by unfold mg;rw[if_neg h]
theorem Fq(h:gZ t=0)(hk:pD k=false):mg t k=1:=by unfold mg;rw[if_pos h,hk];rfl
theorem KQ(h:gZ t=0)(hk:pD k=true):mg t k=0:=by unfold mg;rw[if_pos h,hk];rfl
def dR(t:aE)(k:K)(h:Nat):Int:=(t.pg (aJ t k h t.root)).kids.getD (aS (t.pg (aJ t k h t.root)) k) 0
noncomputable def findF(t:aE)(k:K)(h:Nat):Int×Int:=if mg t k=0 then (if iX t k h=true then (dR t k h,0) else (0,8)) else (0,mg t k)
theorem agp{h:Nat}(v:Valid t h):∀p∈t.af,p.keys.length<=maxLen/\p.kids.length<=maxLen:=fun p hp=>by
 have po:=v.fU p hp;have dH:=ey;have h1:=po.eU;cases hl:p.leaf with
 | true=>have:=po.leaf hl;omega
 | false=>have:=(po.node hl).1;omega
theorem Fl{h:Nat}(v:Valid t h)(k:K):(jG t k h t.root).length<=1000000:=by
 rw[FY];have:=v.high;have:=v.oT;omega
theorem KD(h:pD k=true):0<k.length/\k.length<=100:=of_decide_eq_true h
variable {G:List (Nat×List Value)}
theorem JC(t:aE)(k:K)(hb:∀p∈t.af,p.keys.length<=maxLen/\p.kids.length<=maxLen):VP Tryz.prog G 66 [.agg (cT t),an 1 cB k] (ae (mg t k)):=by
 refine bn func66 rfl ntmps66 aP fun X0 w0 bj=>?_;have fE:=qo (G:=G) t hb;unfold cT at fE;unfold cT;refine bX ?_;refine cW [_,_] (fun b2=>?_);refine aq 14 [1,2] ?_;refine cX [1,5] (fE) ?_;refine ax [1,5,9] ?_ ?_<;>intro aM bG
 ·have hn:¬gZ t=0:=(by simpa using aM)
  exact z87
 have hz:gZ t=0:=(by simpa using aM)
 refine cX [13] (AB k) ?_;refine cj ?_ ?_<;>intro bf cD
 ·exact z87
 refine dj [4] [] ?_;first|exact⟨vi (FL hn).symm,rfl⟩|exact⟨vi (Fq hz uh).symm,rfl⟩|exact⟨vi (KQ hz uh).symm,rfl⟩
theorem ajN(t:aE)(h:Nat)(k:K)(hb:∀p∈t.af,p.keys.length<=maxLen/\p.kids.length<=maxLen)(hv:gZ t=0->Valid t h):VP Tryz.prog G 63 [.agg (cT t),an 1 cB k] (.dB [ae (findF t k h).1,ae (findF t k h).2]):=by
 refine bn func63 rfl ntmps63 aP fun X0 w0 bj=>?_;have fE:=JC (G:=G) t k hb;unfold cT at fE;unfold cT;have dH:=ey;refine bX ?_;refine cW [_,_] (fun b2=>?_);refine aq 34 [1,2] ?_;refine cX [1,2,6] (fE) ?_;refine ax [1,2,6,14] ?_ ?_<;>intro aM bG
 ·have hn:¬mg t k=0:=(by simpa using aM)
  refine dj [4,5] [] ?_;exact⟨by unfold findF;rw[if_neg hn],rfl⟩
 have hz:mg t k=0:=(by simpa using aM)
 have hc:gZ t=0:=Classical.byContradiction fun e=>by rw[FL e] at hz;exact e hz
 have U:pD k=true:=(by cases hq:pD k with|true=>rfl|false=>rw[Fq hc hq] at hz;cases hz)
 have v:=hv hc;have er:=KD U;have fF:=rA (G:=G) t h v k w4 (Fl v k);unfold cT at fF;obtain⟨q1,E⟩:=v.leaf k;have aa:(aJ t k h t.root).toNat<t.af.length:=(by omega)
 have I:t.pg (aJ t k h t.root)=(t.af[(aJ t k h t.root).toNat]'aa):=wM q1;refine cX [2,7,8,9] (fF) ?_;refine ax [2,7,8,24] ?_ ?_<;>intro bf cD
 ·have jz:iX t k h=false:=(by simpa using bf)
  refine dj [4,5] [] ?_;exact⟨by unfold findF;rw[if_pos hz,if_neg yz],rfl⟩
 have jz:iX t k h=true:=(by simpa using bf)
 obtain⟨ha,Px⟩:=(Fk v k).1 jz;have po:=v.fU _ (jY q1);have hle:=po.leaf E;have O:aS (t.pg (aJ t k h t.root)) k<(t.pg (aJ t k h t.root)).kids.length:=(by omega)
 have Z:aS (t.af[(aJ t k h t.root).toNat]'aa) k<(t.af[(aJ t k h t.root).toNat]'aa).kids.length:=(by rw[<-I];exact O)
 rw[I];refine cN [4,5] ?_;refine aT 3 ?_ (h:=by exact(ei 5 (h:=by first|exact .l (j:=(aJ t k h t.root).toNat) (Int.toNat_of_nonneg q1.1).symm aa|exact .r (j:=(aJ t k h t.root).toNat) (Int.toNat_of_nonneg q1.1).symm aa)));refine bL ?_;refine eu [] ?_;exact⟨by unfold findF dR;rw[if_pos hz,if_pos jz,I,ve Z],rfl⟩
theorem aeL{S:List ag}:hU S [bP true,bW,bW,bW,ae (-1)] (cP (⟨true,[],[],[],-1⟩:dc)):=⟨fq,zX,zX,zX,fq,trivial⟩
theorem ajO(E:True):VC Tryz.prog G 38 [] [] (fun r S=>∃b,r = .agg [aN (some ⟨b,0,none⟩) 1 1,ae 0]/\S=[⟨b,129,5,[bP true,bW,bW,bW,ae (-1)]⟩]):=by
 refine bn func38 rfl ntmps38 aP fun X0 w0 bj=>?_;refine bX ?_;refine dF (ds:=[_,_]) av rfl rfl zeroValue66 rfl (fun b0=>?_);refine aq 4 [0] ?_;refine az 1 ?_;refine eH (cx 0 [_]) [.bool false,.slice none 0 0,.slice none 0 0,.slice none 0 0,.int .i64 0] [_,_,_,_,_] zeroValue129 runUnderlying64 sizeOf129 (fun b2=>?_);refine aG 1 ?_;refine aR 1 [_,_] sizeOf66 ?_;refine dY 4 [0] [_] ?_;exact⟨_,rfl,rfl⟩
theorem ajP:VP Tryz.prog G 38 [] (.agg (cT qH)):=VC.cover (ajO trivial) fun r S ⟨b,hr,hS⟩=>by
 subst hr;subst hS;exact v8 ⟨Rq (cs:=[bP true,bW,bW,bW,ae (-1)]) (e:=129) (size:=5) mem_cons_self aeL rfl (Nat.le_refl _) w8,fq,trivial⟩
end Tw
namespace Tr
open List
open Go.Proofs.Tryz
open Go.Lib (compareBytes)
section
variable {t:aE} {k:K} {row:Int}
variable {h m:Nat} {u:aE} {up:K}
def dy(t:aE)(k:K):Nat->Int->Nat->Int
 | 0,i,_=>i
 | h+1,i,m=>if m=h+1 then i else dy t k h ((t.pg i).kids.getD (aS (t.pg i) k) 0) m
theorem J3:∀(h:Nat) (i:Int),dy t k h i h=i
 | 0,_=>rfl
 | h+1,i=>by rw[dy,if_pos rfl]
theorem B4:∀{h:Nat} {i:Int} {m:Nat},m<h->dy t k h i m=(t.pg (dy t k h i (m+1))).kids.getD (aS (t.pg (dy t k h i (m+1))) k) 0
 | 0,_,_,hm=>by omega
 | h+1,i,m,hm=>by
  rw[dy,if_neg w4,dy];by_cases e:m=h
  ·subst e;rw[J3,if_pos rfl]
  rw[if_neg w4];exact B4 w4
theorem R4:∀{h:Nat} {i:Int} {m:Nat},m<=h->(jG t k h i)[h-m]?=some (dy t k h i m)
 | 0,i,m,_=>by
  obtain rfl:m=0:=(by omega)
  rfl
 | h+1,i,m,hm=>by
  rw[jG,dy];by_cases e:m=h+1
  ·subst e;rw[if_pos rfl,Nat.sub_self];rfl
  rw[if_neg e,show h+1-m=(h-m)+1 from by omega,getElem?_cons_succ];exact R4 w4
theorem FZ{n:Int}(hp:∀p∈t.af,eT p n):∀{h:Nat} {i:Int} {low high:K},ee t h i low high->(ids t h i).Nodup->mw low high k->(∀x∈ez t h i,x.1≠k)->∀m,m<=h ->
  ∃lo hi,ee t m (dy t k h i m) lo hi/\(ids t m (dy t k h i m)).Nodup/\mw lo hi k/\∀x∈ez t m (dy t k h i m),x.1≠k
 | 0,i,low,high,ok,nd,hk,hn,m,hm=>by
  obtain rfl:m=0:=(by omega)
  exact⟨low,high,ok,nd,hk,hn⟩
 | h+1,i,low,high,ok,nd,hk,hn,m,hm=>by
  by_cases e:m=h+1
  ·subst e;rw[J3];exact⟨low,high,ok,nd,hk,hn⟩
  obtain⟨q1,q2,E,O,I⟩:=id ok;have po:=hp _ (jY q1);obtain⟨d1,d2⟩:=down po q2 E hk;have:=FZ hp (I _ d1) (xU d1 nd).1 d2 (fun x hx=>hn x MV) m w4;rw[<-ve d1] at this;rw[dy,if_neg e];exact this
structure ajQ (u:aE) (i:Int) (up:K) (ay:Int):Prop where
 fU:∀p∈u.af,eT p u.af.length
 rg:0<=i/\i<u.af.length
 out:up∉(u.pg i).keys
 len:1<=up.length/\up.length<=100
 high:(u.pg i).high≠[]->bC up (u.pg i).high
 nn:0<=ay
 nnl:(u.pg i).leaf=false->ay<u.af.length
def lA(t:aE)(k:K)(row:Int)(h m:Nat):aE×Option (K×Int):=if m=0 then (t,some (k,row)) else gX t k row (m-1) (dy t k h t.root (m-1))
theorem T9(h:Nat):lA t k row h (h+1)=gX t k row h t.root:=by unfold lA;rw[if_neg w4,Nat.add_sub_cancel,J3]
theorem R5(hm:m<=h){ay:Int}(e:lA t k row h m=(u,some (up,ay))):lA t k row h (m+1)=sZ u (dy t k h t.root m) up ay:=by
 unfold lA at e |-;rw[if_neg w4,Nat.add_sub_cancel];cases m with
 | zero=>rw[if_pos rfl] at e;injection e with e1 e2;injection e2 with e2;injection e2 with e2 E;subst e1 e2 E;rw[gX]
 | succ m=>rw[if_neg w4,Nat.add_sub_cancel,B4 w4] at e;rw[gX,e]
theorem aeM(h0:0<m)(hm:m<=h)(e:lA t k row h m=(u,none)):lA t k row h (m+1)=(u,none):=by
 unfold lA at e |-;rw[if_neg w4,Nat.add_sub_cancel];cases m with
 | zero=>omega
 | succ m=>rw[if_neg w4,Nat.add_sub_cancel,B4 w4] at e;rw[gX,e]
theorem R6{h:Nat}{u:aE}:∀(d m:Nat),m+d=h+1->0<m->lA t k row h m=(u,none)->gX t k row h t.root=(u,none)
 | 0,m,hm,_,e=>by
  obtain rfl:m=h+1:=(by omega)
  rw[<-T9];exact e
 | d+1,m,hm,h0,e=>R6 d (m+1) w4 w4 (aeM h0 w4 e)
theorem Ua(v:Valid t h)(hn:∀x∈lU t h,x.1≠k)(hl:1<=k.length/\k.length<=100)(hr:0<=row)(hm:m<=h):∃lo hi,ee t m (dy t k h t.root m) lo hi/\mw lo hi k/\pO t (gX t k row m (dy t k h t.root m)).1 m (dy t k h t.root m) lo hi k row (gX t k row m (dy t k h t.root m)).2:=by
 obtain⟨lo,hi,ok,nd,hk,hne⟩:=FZ v.fU v.ok v.Bj (vm k) hn m hm;exact⟨lo,hi,ok,hk,GK v.fU ok nd hk hne hl hr⟩
theorem J4(v:Valid t h)(hn:∀x∈lU t h,x.1≠k)(hl:1<=k.length/\k.length<=100)(hr:0<=row)(hm:m<=h+1){r:Option (K×Int)}(e:lA t k row h m=(u,r)):u.root=t.root/\u.af.length<=t.af.length+m/\t.af.length<=u.af.length/\∀p∈u.af,eT p u.af.length:=by
 unfold lA at e;cases m with
 | zero=>rw[if_pos rfl] at e;injection e with e1 e2;subst e1;exact⟨rfl,Nat.le_refl _,Nat.le_refl _,v.fU⟩
 | succ m =>
  rw[if_neg w4,Nat.add_sub_cancel] at e;obtain⟨lo,hi,_,_,I⟩:=Ua v hn hl hr (m:=m) w4;rw[e] at I;exact⟨I.root,I.more,I.le,I.fU⟩
theorem ah8(v:Valid t h)(hn:∀x∈lU t h,x.1≠k)(hl:1<=k.length/\k.length<=100)(hr:0<=row)(hm:m<=h+1){ay:Int}(e:lA t k row h m=(u,some (up,ay))):up.length<=100:=by
 unfold lA at e;cases m with
 | zero=>rw[if_pos rfl] at e;injection e with e1 e2;injection e2 with e2;injection e2 with e2 E;subst e2;exact hl.2
 | succ m =>
  rw[if_neg w4,Nat.add_sub_cancel] at e;obtain⟨lo,hi,_,_,I⟩:=Ua v hn hl hr (m:=m) w4;rw[e] at I;exact I.ok.1.2
theorem ah9(v:Valid t h)(hn:∀x∈lU t h,x.1≠k)(hl:1<=k.length/\k.length<=100)(hr:0<=row)(hm:m<=h){ay:Int}(e:lA t k row h m=(u,some (up,ay))):ajQ u (dy t k h t.root m) up ay:=by
 cases m with
 | zero =>
  unfold lA at e;rw[if_pos rfl] at e;injection e with e1 e2;injection e2 with e2;injection e2 with e2 e3;subst e1 e2 e3
  obtain⟨lo,hi,⟨q1,q2,O,q4⟩,nd,hk,hne⟩:=FZ v.fU v.ok v.Bj (vm k) hn 0 hm;refine⟨v.fU,q1,fun hm=>?_,hl,fun E=>?_,hr,fun h=>by rw[q2] at h;cases h⟩
  ·have po:=v.fU _ (jY q1);have hlen:=po.leaf q2;obtain⟨a,ha,he⟩:=mem_iff_getElem.1 hm;exact hne (k,(t.pg (dy t k h t.root 0)).kids[a]'w4) ((Ca hlen).2 ⟨a,ha,by rw[he]⟩) rfl
  rw[O] at E |-;exact hk.2 E
 | succ m =>
  obtain⟨s1,s2,s3,s4⟩:=J4 v hn hl hr w4 e;unfold lA at e;rw[if_neg w4,Nat.add_sub_cancel] at e;obtain⟨lo,hi,ok,nd,hk,hne⟩:=FZ v.fU v.ok v.Bj (vm k) hn (m+1) hm;obtain⟨q1,q2,O,q4,q5⟩:=id ok;have po:=v.fU _ (jY q1);obtain⟨d1,d2⟩:=down po q2 O hk;have U:=GK (row:=row) v.fU (q5 _ d1) (xU d1 nd).1 d2 (fun x hx=>hne x MV) hl hr;rw[<-ve d1,<-B4 w4,e,B4 w4] at U;have M:jS t u m (dy t k h t.root (m+1)) lo hi (aS (t.pg (dy t k h t.root (m+1))) k) k row (some (up,ay)):=⟨v.fU,ok,nd,d1,d2,U⟩
  obtain⟨m1,m2,m3,m4⟩:=M.place;have Z:=M.same;obtain⟨o1,o2,o3,o4,o5⟩:(1<=up.length/\up.length<=100)/\_/\_/\_/\ee u m ay up _:=U.ok;have I:=o5.idx;refine⟨s4,⟨q1.1,by omega⟩,by rw[Z];exact m2,o1,fun E=>?_,I.1,fun _=>I.2⟩;rw[Z,O] at E |-;exact m3.2 E
end
variable {t:aE} {h:Nat} {k:K}
variable {i:Int}
noncomputable def mI(t:aE)(h:Nat)(k:K):List (K×Int):=(lU t h).filter fun x=>decide (¬bC x.1 k)
def jF(t:aE)(ls:List Int):List (K×Int):=ls.flatMap fun l=>fu (t.pg l)
theorem fA.tail{r:List Int}{e:Int}(h:fA t (i::r) e):fA t r e:=by
 cases r with
 | nil=>trivial
 | cons j r=>exact h.2
theorem fA.next{i:Int}{r:List Int}{e:Int}(h:fA t (i::r) e):(t.pg i).next=r.headD e:=by
 cases r with
 | nil=>exact h
 | cons j r=>exact h.1
theorem fA.drop{e:Int}:∀{a b:List Int},fA t (a++b) e->fA t b e
 | [],_,h=>h
 | i::a,b,h=>fA.drop (a:=a) (fA.tail h)
theorem Ub:∀{h:Nat} {i:Int} {low high:K},ee t h i low high->∀l∈cA t h i,(0<=l/\l<t.af.length)/\(t.pg l).leaf=true
 | 0,i,low,high,ok,l,hl=>by
  rw[cA,mem_singleton] at hl;subst hl;exact⟨ok.1,ok.2.1⟩
 | h+1,i,low,high,ok,l,hl=>by
  obtain⟨q1,q2,I,O,E⟩:=ok;rw[cA] at hl;obtain⟨c,hc,hl⟩:=mem_flatMap.1 hl;obtain⟨j,hj,rfl⟩:=mem_iff_getElem.1 hc;exact Ub (E j hj) l hl
structure sR (t:aE) (ls:List Int):Prop where
 qK:fA t ls (-1)
 at_:∀l∈ls,(0<=l/\l<t.af.length)/\(t.pg l).leaf=true
theorem sR.tail{i:Int}{r:List Int}(h:sR t (i::r)):sR t r:=⟨fA.tail h.qK,fun l hl=>h.at_ l (mem_cons_of_mem _ hl)⟩
theorem sR.head{ls:List Int}(h:sR t ls):(0<=ls.headD (-1)->∃r,ls=ls.headD (-1)::r)/\(ls.headD (-1)<0->ls=[]):=by
 cases ls with
 | nil=>exact⟨fun h=>by simp at h,fun _=>rfl⟩
 | cons i r=>exact⟨fun _=>⟨r,rfl⟩,fun h0=>by have:=(h.at_ i mem_cons_self).1;simp at h0;omega⟩
theorem Rb(v:Valid t h):sR t (cA t h t.root):=⟨v.qK h (Nat.le_refl _),Ub v.ok⟩
theorem FB(v:Valid t h){l:Int}(hl:(0<=l/\l<t.af.length)/\(t.pg l).leaf=true):(fu (t.pg l)).length=(t.pg l).keys.length:=by
 have:=(v.fU _ (jY hl.1)).leaf hl.2;unfold fu;rw[length_zip];omega
theorem ada(v:Valid t h)(k:K):∃r,sR t (aJ t k h t.root::r)/\mI t h k=(jF t (aJ t k h t.root::r)).drop (aS (t.pg (aJ t k h t.root)) k)/\aS (t.pg (aJ t k h t.root)) k<=(t.pg (aJ t k h t.root)).keys.length:=by
 obtain⟨pre,post,e,he⟩:=aeq v.fU v.ok (vm k);have hL:=Rb v;have hl:=v.leaf k;have eP:aS (t.pg (aJ t k h t.root)) k<=(t.pg (aJ t k h t.root)).keys.length:=by
  unfold aS;split
  ·exact Ae _ _
  exact Cm _ _
 rw[e] at hL;refine⟨post,⟨fA.drop hL.qK,fun l hl=>hL.at_ l (mem_append_right _ hl)⟩,?_,eP⟩;unfold mI lU;rw[he];unfold jF;rw[flatMap_cons,drop_append_of_le_length (by rw[FB v hl];exact eP)]
theorem aeN(v:Valid t h){r:List Int}(hL:sR t (i::r)){a:Nat}(ha:a<(t.pg i).keys.length)(hk:a<(t.pg i).kids.length) :
  (jF t (i::r)).drop a=((t.pg i).keys[a],(t.pg i).kids[a])::(jF t (i::r)).drop (a+1):=by
 have hi:=hL.at_ i mem_cons_self;have hlen:=FB v hi;have h1:a<(jF t (i::r)).length:=(by unfold jF;rw[flatMap_cons,length_append];omega)
 rw[drop_eq_getElem_cons h1];congr 1;unfold jF;simp only[flatMap_cons];rw[getElem_append_left w4];unfold fu;rw[getElem_zip]
theorem adb(v:Valid t h){r:List Int}(hL:sR t (i::r)){a:Nat}(ha:a=(t.pg i).keys.length):(jF t (i::r)).drop a=(jF t r).drop 0:=by
 have hi:=hL.at_ i mem_cons_self;have hlen:=FB v hi;unfold jF;rw[flatMap_cons,drop_zero,drop_append_of_le_length w4,drop_eq_nil_of_le w4];rfl
theorem agq(v:Valid t h):lU t h=jF t (cA t h t.root):=x6 t h t.root
theorem J5(v:Valid t h):(lU t h).Pairwise fun x y=>bC x.1 y.1:=(Lo v.fU v.ok).1
theorem R7(v:Valid t h)(k:K):(mI t h k).Pairwise fun x y=>bC x.1 y.1:=(J5 v).filter _
theorem agr(t:aE)(h:Nat):mI t h []=lU t h:=by
 unfold mI;rw[filter_eq_self.2];intro x _;simpa using L7 x.1
theorem ags(v:Valid t h):(lU t h).length<=4*t.af.length:=by
 have key:∀(ls:List Int),(∀l∈ls,(0<=l/\l<t.af.length)/\(t.pg l).leaf=true)->(jF t ls).length<=4*ls.length:=by
  intro ls;induction ls with
  | nil=>intro _;simp[jF]
  | cons i r ih =>
   intro hl;have h1:=FB v (hl i mem_cons_self);have h2:=(v.fU _ (jY (hl i mem_cons_self).1)).eU;have h3:=ih fun l E=>hl l (mem_cons_of_mem _ E);unfold jF at h3 |-;rw[flatMap_cons,length_append,length_cons];omega
 have eO:(cA t h t.root).length<=(ids t h t.root).length:=by
  have:∀(h:Nat) (i:Int),(cA t h i).length<=(ids t h i).length:=by
   intro h;induction h with
   | zero=>intro i;simp[cA,ids]
   | succ h ih =>
    intro i;rw[cA,ids,length_cons,length_flatMap,length_flatMap];have:∀(l:List Int),(l.map fun a=>(cA t h a).length).sum<=(l.map fun a=>(ids t h a).length).sum:=by
     intro l;induction l with
     | nil=>simp
     | cons a l I=>simp only[map_cons,sum_cons];have:=ih a;omega
    have:=this (t.pg i).kids;omega
  exact this h t.root
 rw[agq v];have:=key _ (Rb v).at_;rw[v.all] at eO;omega
theorem Uc(v:Valid t h)(k:K):(mI t h k).length<=16000:=by
 have:=ags v;have h1:=v.oT;have:(mI t h k).length<=(lU t h).length:=(filter_sublist).length_le;omega
end Tr
namespace Tw
open List
open Go.Proofs.Tryz
open Go.RowKit V Tr Pk
def cE(e:K×Int):List D:=[an 1 cB e.1,ae e.2]
theorem Wd(e:K×Int):(cE e).length=2:=rfl
def HM(e:K×Int):List D:=[.agg (cE e)]
theorem ajR(b:UInt8):gd (cB b)=true:=rfl
theorem AE(k:K):gd (k.flatMap cB)=true:=wu ajR k
theorem AF(e:K×Int):gd (cE e)=true:=by simp[cE,gd,ji,AE]
theorem agt(e:K×Int):gd (HM e)=true:=by simp[HM,gd,ji,AF]
def MF(t:aE)(k:K):List D:=[.fT [an 5 cP t.af,ae t.root] 0,.fT [an 1 cB k] 0]
variable {G:List (Nat×List Value)}
theorem tM : ∀ w, ((#[{ name := "Key", type := 86, offset := 0, embedded := false, tag := "", pkgPath := "", byteOffset := 0 }, { name := "Row", type := 3, offset := 1, embedded := false, tag := "", pkgPath := "", byteOffset := 24 }] : Array Field).mapM fun f => do pure (f.offset, ← sizeOf f.type) : Sem (Array (Nat × Nat))).run Tryz.prog w = .ok #[(0, 1), (1, 1)] w := fun w => by simp [sizeOf3, sizeOf86]
theorem agu(t:aE)(h:Nat)(v:Valid t h)(k:K)(er:k.length<=maxLen):VI Tryz.prog G 98 (MF t k) HM (fun xs=>xs=mI t h k) (fun pre=>pre <+: mI t h k) (mI t h k).length:=by
 refine VI.body func98 rfl ntmps98 aP fun Y X0 w0 bj Sc0 hYe hYN O hY hJ0=>?_;have dH:=ey;have fF:=rA (G:=G) t h v k w4 (Fl v k);unfold cT at fF;obtain⟨r0,hL0,an5,YG⟩:=ada v k;obtain⟨y1,y2,y3⟩:=(by exact⟨hYe,hYN,O⟩:Y.enc=HM/\Y.N=(mI t h k).length/\w0.heap.size<=Y.l)
 refine cX [0,1,4,5] (fF) ?_;refine kp ?_;refine nY (fun (U:List Int×Nat×List (K×Int)×List ag) aF=>match U with|(ls,a,pre,Sc)=>(sR t ls)/\(mI t h k=pre++(jF t ls).drop a)/\((∀x∈head? ls,a<=(t.pg x).keys.length))/\(Y.J pre Sc)/\aF=(⟨46,[(0,.lf Y.l Y.os),(1,.fT [an 5 cP t.af,ae t.root] 0),(4,ae (headD ls (-1))),(5,ae (a:Nat))],Sc⟩:St)) (fun (U:List Int×Nat×List (K×Int)×List ag)=>match U with|(ls,a,pre,Sc)=>length ls) ((aJ t k h t.root::r0),(aS (t.pg (aJ t k h t.root)) k),[],Sc0) ⟨hL0,(by rw[nil_append];exact an5),(fun x hx=>by simp at hx;subst hx;exact YG),hJ0,rfl⟩ (aI (h:=Zt)) ?_;rintro⟨ls,a,pre,Sc⟩ _ ⟨hL,PY,eP,hj,rfl⟩;refine ax [0,1,4,5,16] ?_ ?_<;>intro aM bG
 ·have PN:0<=headD ls (-1):=(by simpa using aM)
  obtain⟨r,hr⟩:=(sR.head hL).1 PN;obtain⟨i,hi⟩:∃i,i=headD ls (-1):=⟨_,rfl⟩
  rw[<-hi] at hr PN;subst hr;obtain⟨BN,MD⟩:=hL.at_ i mem_cons_self;have aa:i.toNat<t.af.length:=(by omega)
  have iJ:t.pg i=t.af[i.toNat]:=wM BN;have po:=v.fU _ (jY BN);have NJ:=po.leaf MD;have nO:=po.eU;have YO:=eP i rfl;have Xm:=v.oT;rw[iJ] at po NJ nO YO;refine az 3 ?_;refine bQ (ei 5 (h:=by first|exact .l (j:=i.toNat) (by show headD (i::r) (-1)=_;simp;omega) aa|exact .r (j:=i.toNat) (by show headD (i::r) (-1)=_;simp;omega) aa)) ?_;refine bQ (dN (mk:=Op.load 129) rfl ot (by exact kR (i:=i.toNat) GL isAgg129 sizeOf129 aa)) ?_;refine dF (ds:=[_,_,_,_,_]) av rfl rfl zeroValue129 rfl (fun b7=>?_);refine aR 0 [_,_,_,_,_] sizeOf129 ?_;refine aq 46 [0,1,5,7] ?_;refine fa [0,1,7] (fun aV _ (U:Nat×List (K×Int)×List ag) aF=>match U with|(a,E,I)=>(mI t h k=E++(jF t (i::r)).drop a)/\(a<=((t.af[i.toNat]'aa)).keys.length)/\(Y.J E I)/\aF=(⟨46,(5,ae (a:Nat))::aV,(⟨b7,129,5,cP (t.af[i.toNat]'aa)⟩::I)⟩:St)) (fun (U:Nat×List (K×Int)×List ag)=>match U with|(a,E,I)=>((t.af[i.toNat]'aa)).keys.length-a) (a,pre,Sc) ⟨PY,YO,hj,rfl⟩ ?_;rintro⟨a,E,I⟩ _ ⟨qD,aud,Z,rfl⟩;refine ax [0,1,5,7,26] ?_ ?_<;>intro bf cD
  ·have qL:a<((t.af[i.toNat]'aa)).keys.length:=(by have:=bf;simp at this;omega)
   have Ot:a<((t.af[i.toNat]'aa)).kids.length:=(by omega)
   have iY:(jF t (i::r)).drop a=(((t.af[i.toNat]'aa)).keys[a],((t.af[i.toNat]'aa)).kids[a])::(jF t (i::r)).drop (a+1):=(by have:=aeN v hL (a:=a) (by rw[iJ];exact qL) (by rw[iJ];exact Ot);simp only[iJ] at this;exact this)
   have lm:((t.af[i.toNat]'aa)).keys[a].length<=100:=(by have:=(po.me _ (getElem_mem qL)).2;omega)
   refine en ?_;refine cQ ?_;refine kp ?_;refine cQ ?_;refine acU aB ?_;refine gp 0 rfl bJ ?_;refine gp 1 rfl (dU 1) ?_;refine gp 3 rfl bJ ?_;refine gp 7 rfl (dU 2) ?_;refine gp 9 rfl bJ ?_;refine vq (i:=2) (j:=8) aB ?_ ?_
   ·refine lE rfl (ec 0) ?_;refine gp 4 rfl (ei 1 (h:=MW)) ?_;refine vq (i:=5) (j:=8) aB ?_ ?_
    ·refine lE rfl fW ?_;refine vq (i:=6) (j:=8) aB ?_ ?_
     ·refine iw.uf rfl av rfl rfl rfl call70 (mW (((t.af[i.toNat]'aa)).keys[a]) w4) ⟨ot,trivial⟩ ?_;refine ku (i:=8) aB ?_;refine lE rfl (ec 0) ?_;refine gp 10 rfl (ei 1 (h:=H9)) ?_;refine ku (i:=11) aB ?_;refine lE rfl fW ?_;refine gp 12 rfl (pQ (pl:=[(0,_),(1,_)]) (ds:=[_,_]) rfl zeroValue88 runUnderlying88 tM ⟨rfl,ot,rfl,ot,trivial⟩ rfl rfl) ?_;refine ku (i:=13) aB ?_;refine iw.yield (Y:=Y) (pre:=E) (y:=(((t.af[i.toNat]'aa)).keys[a],((t.af[i.toNat]'aa)).kids[a])) (Sc:=I) (R:=[⟨b7,129,5,cP (t.af[i.toNat]'aa)⟩]) rfl av rfl rfl ot aP lk uj (perm_append_singleton _ _).symm Z uF hY O w8 (fun EC PZ=>?_) (fun EC PZ=>?_)
      ·refine tX (perm_append_singleton _ _) ?_;refine gp 14 rfl lY ?_;refine mc (y:=⟨46,[(0,_),(1,_),(5,_),(7,_),(43,_)],(⟨b7,129,5,[_,_,_,_,_]⟩::EC)⟩) (Wk.ek rfl rfl fJ) ?_;refine mA aB ?_;refine gB ?_;refine cc [0,1,5,7] ?_;refine⟨((a+1),(E++[(((t.af[i.toNat]'aa)).keys[a],((t.af[i.toNat]'aa)).kids[a])]),EC),_,cG,aI,uE,w4,PZ,rfl⟩
      refine gp 14 rfl lY ?_;refine mc (y:=⟨46,[(0,_),(43,_)],(EC)⟩) (Wk.ek rfl rfl fJ) ?_;refine mA aB ?_;refine e9 ?_;refine rC ?_;refine⟨.inr rfl,⟨_,rp results98⟩,(show 0<46 by decide),EC,Sublist.refl _,?_⟩;exact .inr ⟨E++[(((t.af[i.toNat]'aa)).keys[a],((t.af[i.toNat]'aa)).kids[a])],⟨(jF t (i::r)).drop (a+1),by rw[qD,iY,append_assoc];rfl⟩,PZ,lk⟩
     refine lE rfl (ec 0) ?_;refine gp 10 rfl (ei 1 (h:=H9)) ?_;refine vq (i:=6) (j:=11) aB ?_ ?_
     ·refine iw.uf rfl av rfl rfl rfl call70 (mW (((t.af[i.toNat]'aa)).keys[a]) w4) ⟨ot,trivial⟩ ?_;refine ku (i:=11) aB ?_;refine lE rfl fW ?_;refine gp 12 rfl (pQ (pl:=[(0,_),(1,_)]) (ds:=[_,_]) rfl zeroValue88 runUnderlying88 tM ⟨rfl,ot,rfl,ot,trivial⟩ rfl rfl) ?_;refine ku (i:=13) aB ?_;refine iw.yield (Y:=Y) (pre:=E) (y:=(((t.af[i.toNat]'aa)).keys[a],((t.af[i.toNat]'aa)).kids[a])) (Sc:=I) (R:=[⟨b7,129,5,cP (t.af[i.toNat]'aa)⟩]) rfl av rfl rfl ot aP lk uj (perm_append_singleton _ _).symm Z uF hY O w8 (fun I P0=>?_) (fun I P0=>?_)
      ·refine tX (perm_append_singleton _ _) ?_;refine gp 14 rfl lY ?_;refine mc (y:=⟨46,[(0,_),(1,_),(5,_),(7,_),(43,_)],(⟨b7,129,5,[_,_,_,_,_]⟩::I)⟩) (Wk.ek rfl rfl fJ) ?_;refine mA aB ?_;refine gB ?_;refine cc [0,1,5,7] ?_;refine⟨((a+1),(E++[(((t.af[i.toNat]'aa)).keys[a],((t.af[i.toNat]'aa)).kids[a])]),I),_,cG,aI,uE,w4,P0,rfl⟩
      refine gp 14 rfl lY ?_;refine mc (y:=⟨46,[(0,_),(43,_)],(I)⟩) (Wk.ek rfl rfl fJ) ?_;refine mA aB ?_;refine e9 ?_;refine rC ?_;refine⟨.inr rfl,⟨_,rp results98⟩,(show 0<46 by decide),I,Sublist.refl _,?_⟩;exact .inr ⟨E++[(((t.af[i.toNat]'aa)).keys[a],((t.af[i.toNat]'aa)).kids[a])],⟨(jF t (i::r)).drop (a+1),by rw[qD,iY,append_assoc];rfl⟩,P0,lk⟩
     refine lE rfl fW ?_;refine ku (i:=6) aB ?_;refine iw.uf rfl av rfl rfl rfl call70 (mW (((t.af[i.toNat]'aa)).keys[a]) w4) ⟨ot,trivial⟩ ?_;refine gp 12 rfl (pQ (pl:=[(0,_),(1,_)]) (ds:=[_,_]) rfl zeroValue88 runUnderlying88 tM ⟨rfl,ot,rfl,ot,trivial⟩ rfl rfl) ?_;refine ku (i:=13) aB ?_;refine iw.yield (Y:=Y) (pre:=E) (y:=(((t.af[i.toNat]'aa)).keys[a],((t.af[i.toNat]'aa)).kids[a])) (Sc:=I) (R:=[⟨b7,129,5,cP (t.af[i.toNat]'aa)⟩]) rfl av rfl rfl ot aP lk uj (perm_append_singleton _ _).symm Z uF hY O w8 (fun ED P1=>?_) (fun ED P1=>?_)
     ·refine tX (perm_append_singleton _ _) ?_;refine gp 14 rfl lY ?_;refine mc (y:=⟨46,[(0,_),(1,_),(5,_),(7,_),(43,_)],(⟨b7,129,5,[_,_,_,_,_]⟩::ED)⟩) (Wk.ek rfl rfl fJ) ?_;refine mA aB ?_;refine gB ?_;refine cc [0,1,5,7] ?_;refine⟨((a+1),(E++[(((t.af[i.toNat]'aa)).keys[a],((t.af[i.toNat]'aa)).kids[a])]),ED),_,cG,aI,uE,w4,P1,rfl⟩
     refine gp 14 rfl lY ?_;refine mc (y:=⟨46,[(0,_),(43,_)],(ED)⟩) (Wk.ek rfl rfl fJ) ?_;refine mA aB ?_;refine e9 ?_;refine rC ?_;refine⟨.inr rfl,⟨_,rp results98⟩,(show 0<46 by decide),ED,Sublist.refl _,?_⟩;exact .inr ⟨E++[(((t.af[i.toNat]'aa)).keys[a],((t.af[i.toNat]'aa)).kids[a])],⟨(jF t (i::r)).drop (a+1),by rw[qD,iY,append_assoc];rfl⟩,P1,lk⟩
    refine lE rfl (ec 0) ?_;refine gp 10 rfl (ei 1 (h:=H9)) ?_;refine vq (i:=5) (j:=11) aB ?_ ?_
    ·refine lE rfl fW ?_;refine vq (i:=6) (j:=11) aB ?_ ?_
     ·refine iw.uf rfl av rfl rfl rfl call70 (mW (((t.af[i.toNat]'aa)).keys[a]) w4) ⟨ot,trivial⟩ ?_;refine ku (i:=11) aB ?_;refine lE rfl fW ?_;refine gp 12 rfl (pQ (pl:=[(0,_),(1,_)]) (ds:=[_,_]) rfl zeroValue88 runUnderlying88 tM ⟨rfl,ot,rfl,ot,trivial⟩ rfl rfl) ?_;refine ku (i:=13) aB ?_;refine iw.yield (Y:=Y) (pre:=E) (y:=(((t.af[i.toNat]'aa)).keys[a],((t.af[i.toNat]'aa)).kids[a])) (Sc:=I) (R:=[⟨b7,129,5,cP (t.af[i.toNat]'aa)⟩]) rfl av rfl rfl ot aP lk uj (perm_append_singleton _ _).symm Z uF hY O w8 (fun EE P2=>?_) (fun EE P2=>?_)
      ·refine tX (perm_append_singleton _ _) ?_;refine gp 14 rfl lY ?_;refine mc (y:=⟨46,[(0,_),(1,_),(5,_),(7,_),(43,_)],(⟨b7,129,5,[_,_,_,_,_]⟩::EE)⟩) (Wk.ek rfl rfl fJ) ?_;refine mA aB ?_;refine gB ?_;refine cc [0,1,5,7] ?_;refine⟨((a+1),(E++[(((t.af[i.toNat]'aa)).keys[a],((t.af[i.toNat]'aa)).kids[a])]),EE),_,cG,aI,uE,w4,P2,rfl⟩
      refine gp 14 rfl lY ?_;refine mc (y:=⟨46,[(0,_),(43,_)],(EE)⟩) (Wk.ek rfl rfl fJ) ?_;refine mA aB ?_;refine e9 ?_;refine rC ?_;refine⟨.inr rfl,⟨_,rp results98⟩,(show 0<46 by decide),EE,Sublist.refl _,?_⟩;exact .inr ⟨E++[(((t.af[i.toNat]'aa)).keys[a],((t.af[i.toNat]'aa)).kids[a])],⟨(jF t (i::r)).drop (a+1),by rw[qD,iY,append_assoc];rfl⟩,P2,lk⟩
     refine lE rfl fW ?_;refine ku (i:=6) aB ?_;refine iw.uf rfl av rfl rfl rfl call70 (mW (((t.af[i.toNat]'aa)).keys[a]) w4) ⟨ot,trivial⟩ ?_;refine gp 12 rfl (pQ (pl:=[(0,_),(1,_)]) (ds:=[_,_]) rfl zeroValue88 runUnderlying88 tM ⟨rfl,ot,rfl,ot,trivial⟩ rfl rfl) ?_;refine ku (i:=13) aB ?_;refine iw.yield (Y:=Y) (pre:=E) (y:=(((t.af[i.toNat]'aa)).keys[a],((t.af[i.toNat]'aa)).kids[a])) (Sc:=I) (R:=[⟨b7,129,5,cP (t.af[i.toNat]'aa)⟩]) rfl av rfl rfl ot aP lk uj (perm_append_singleton _ _).symm Z uF hY O w8 (fun EF P3=>?_) (fun EF P3=>?_)
     ·refine tX (perm_append_singleton _ _) ?_;refine gp 14 rfl lY ?_;refine mc (y:=⟨46,[(0,_),(1,_),(5,_),(7,_),(43,_)],(⟨b7,129,5,[_,_,_,_,_]⟩::EF)⟩) (Wk.ek rfl rfl fJ) ?_;refine mA aB ?_;refine gB ?_;refine cc [0,1,5,7] ?_;refine⟨((a+1),(E++[(((t.af[i.toNat]'aa)).keys[a],((t.af[i.toNat]'aa)).kids[a])]),EF),_,cG,aI,uE,w4,P3,rfl⟩
     refine gp 14 rfl lY ?_;refine mc (y:=⟨46,[(0,_),(43,_)],(EF)⟩) (Wk.ek rfl rfl fJ) ?_;refine mA aB ?_;refine e9 ?_;refine rC ?_;refine⟨.inr rfl,⟨_,rp results98⟩,(show 0<46 by decide),EF,Sublist.refl _,?_⟩;exact .inr ⟨E++[(((t.af[i.toNat]'aa)).keys[a],((t.af[i.toNat]'aa)).kids[a])],⟨(jF t (i::r)).drop (a+1),by rw[qD,iY,append_assoc];rfl⟩,P3,lk⟩
    refine lE rfl fW ?_;refine ku (i:=5) aB ?_;refine lE rfl fW ?_;refine ku (i:=6) aB ?_;refine iw.uf rfl av rfl rfl rfl call70 (mW (((t.af[i.toNat]'aa)).keys[a]) w4) ⟨ot,trivial⟩ ?_;refine gp 12 rfl (pQ (pl:=[(0,_),(1,_)]) (ds:=[_,_]) rfl zeroValue88 runUnderlying88 tM ⟨rfl,ot,rfl,ot,trivial⟩ rfl rfl) ?_;refine ku (i:=13) aB ?_;refine iw.yield (Y:=Y) (pre:=E) (y:=(((t.af[i.toNat]'aa)).keys[a],((t.af[i.toNat]'aa)).kids[a])) (Sc:=I) (R:=[⟨b7,129,5,cP (t.af[i.toNat]'aa)⟩]) rfl av rfl rfl ot aP lk uj (perm_append_singleton _ _).symm Z uF hY O w8 (fun EG P4=>?_) (fun EG P4=>?_)
    ·refine tX (perm_append_singleton _ _) ?_;refine gp 14 rfl lY ?_;refine mc (y:=⟨46,[(0,_),(1,_),(5,_),(7,_),(43,_)],(⟨b7,129,5,[_,_,_,_,_]⟩::EG)⟩) (Wk.ek rfl rfl fJ) ?_;refine mA aB ?_;refine gB ?_;refine cc [0,1,5,7] ?_;refine⟨((a+1),(E++[(((t.af[i.toNat]'aa)).keys[a],((t.af[i.toNat]'aa)).kids[a])]),EG),_,cG,aI,uE,w4,P4,rfl⟩
    refine gp 14 rfl lY ?_;refine mc (y:=⟨46,[(0,_),(43,_)],(EG)⟩) (Wk.ek rfl rfl fJ) ?_;refine mA aB ?_;refine e9 ?_;refine rC ?_;refine⟨.inr rfl,⟨_,rp results98⟩,(show 0<46 by decide),EG,Sublist.refl _,?_⟩;exact .inr ⟨E++[(((t.af[i.toNat]'aa)).keys[a],((t.af[i.toNat]'aa)).kids[a])],⟨(jF t (i::r)).drop (a+1),by rw[qD,iY,append_assoc];rfl⟩,P4,lk⟩
   refine lE rfl (ec 0) ?_;refine gp 10 rfl (ei 1 (h:=H9)) ?_;refine vq (i:=2) (j:=11) aB ?_ ?_
   ·refine lE rfl (ec 0) ?_;refine gp 4 rfl (ei 1 (h:=MW)) ?_;refine vq (i:=5) (j:=11) aB ?_ ?_
    ·refine lE rfl fW ?_;refine vq (i:=6) (j:=11) aB ?_ ?_
     ·refine iw.uf rfl av rfl rfl rfl call70 (mW (((t.af[i.toNat]'aa)).keys[a]) w4) ⟨ot,trivial⟩ ?_;refine ku (i:=11) aB ?_;refine lE rfl fW ?_;refine gp 12 rfl (pQ (pl:=[(0,_),(1,_)]) (ds:=[_,_]) rfl zeroValue88 runUnderlying88 tM ⟨rfl,ot,rfl,ot,trivial⟩ rfl rfl) ?_;refine ku (i:=13) aB ?_;refine iw.yield (Y:=Y) (pre:=E) (y:=(((t.af[i.toNat]'aa)).keys[a],((t.af[i.toNat]'aa)).kids[a])) (Sc:=I) (R:=[⟨b7,129,5,cP (t.af[i.toNat]'aa)⟩]) rfl av rfl rfl ot aP lk uj (perm_append_singleton _ _).symm Z uF hY O w8 (fun EH P5=>?_) (fun EH P5=>?_)
      ·refine tX (perm_append_singleton _ _) ?_;refine gp 14 rfl lY ?_;refine mc (y:=⟨46,[(0,_),(1,_),(5,_),(7,_),(43,_)],(⟨b7,129,5,[_,_,_,_,_]⟩::EH)⟩) (Wk.ek rfl rfl fJ) ?_;refine mA aB ?_;refine gB ?_;refine cc [0,1,5,7] ?_;refine⟨((a+1),(E++[(((t.af[i.toNat]'aa)).keys[a],((t.af[i.toNat]'aa)).kids[a])]),EH),_,cG,aI,uE,w4,P5,rfl⟩
      refine gp 14 rfl lY ?_;refine mc (y:=⟨46,[(0,_),(43,_)],(EH)⟩) (Wk.ek rfl rfl fJ) ?_;refine mA aB ?_;refine e9 ?_;refine rC ?_;refine⟨.inr rfl,⟨_,rp results98⟩,(show 0<46 by decide),EH,Sublist.refl _,?_⟩;exact .inr ⟨E++[(((t.af[i.toNat]'aa)).keys[a],((t.af[i.toNat]'aa)).kids[a])],⟨(jF t (i::r)).drop (a+1),by rw[qD,iY,append_assoc];rfl⟩,P5,lk⟩
     refine lE rfl fW ?_;refine ku (i:=6) aB ?_;refine iw.uf rfl av rfl rfl rfl call70 (mW (((t.af[i.toNat]'aa)).keys[a]) w4) ⟨ot,trivial⟩ ?_;refine gp 12 rfl (pQ (pl:=[(0,_),(1,_)]) (ds:=[_,_]) rfl zeroValue88 runUnderlying88 tM ⟨rfl,ot,rfl,ot,trivial⟩ rfl rfl) ?_;refine ku (i:=13) aB ?_;refine iw.yield (Y:=Y) (pre:=E) (y:=(((t.af[i.toNat]'aa)).keys[a],((t.af[i.toNat]'aa)).kids[a])) (Sc:=I) (R:=[⟨b7,129,5,cP (t.af[i.toNat]'aa)⟩]) rfl av rfl rfl ot aP lk uj (perm_append_singleton _ _).symm Z uF hY O w8 (fun EI P6=>?_) (fun EI P6=>?_)
     ·refine tX (perm_append_singleton _ _) ?_;refine gp 14 rfl lY ?_;refine mc (y:=⟨46,[(0,_),(1,_),(5,_),(7,_),(43,_)],(⟨b7,129,5,[_,_,_,_,_]⟩::EI)⟩) (Wk.ek rfl rfl fJ) ?_;refine mA aB ?_;refine gB ?_;refine cc [0,1,5,7] ?_;refine⟨((a+1),(E++[(((t.af[i.toNat]'aa)).keys[a],((t.af[i.toNat]'aa)).kids[a])]),EI),_,cG,aI,uE,w4,P6,rfl⟩
     refine gp 14 rfl lY ?_;refine mc (y:=⟨46,[(0,_),(43,_)],(EI)⟩) (Wk.ek rfl rfl fJ) ?_;refine mA aB ?_;refine e9 ?_;refine rC ?_;refine⟨.inr rfl,⟨_,rp results98⟩,(show 0<46 by decide),EI,Sublist.refl _,?_⟩;exact .inr ⟨E++[(((t.af[i.toNat]'aa)).keys[a],((t.af[i.toNat]'aa)).kids[a])],⟨(jF t (i::r)).drop (a+1),by rw[qD,iY,append_assoc];rfl⟩,P6,lk⟩
    refine lE rfl fW ?_;refine ku (i:=5) aB ?_;refine lE rfl fW ?_;refine ku (i:=6) aB ?_;refine iw.uf rfl av rfl rfl rfl call70 (mW (((t.af[i.toNat]'aa)).keys[a]) w4) ⟨ot,trivial⟩ ?_;refine gp 12 rfl (pQ (pl:=[(0,_),(1,_)]) (ds:=[_,_]) rfl zeroValue88 runUnderlying88 tM ⟨rfl,ot,rfl,ot,trivial⟩ rfl rfl) ?_;refine ku (i:=13) aB ?_;refine iw.yield (Y:=Y) (pre:=E) (y:=(((t.af[i.toNat]'aa)).keys[a],((t.af[i.toNat]'aa)).kids[a])) (Sc:=I) (R:=[⟨b7,129,5,cP (t.af[i.toNat]'aa)⟩]) rfl av rfl rfl ot aP lk uj (perm_append_singleton _ _).symm Z uF hY O w8 (fun EJ P7=>?_) (fun EJ P7=>?_)
    ·refine tX (perm_append_singleton _ _) ?_;refine gp 14 rfl lY ?_;refine mc (y:=⟨46,[(0,_),(1,_),(5,_),(7,_),(43,_)],(⟨b7,129,5,[_,_,_,_,_]⟩::EJ)⟩) (Wk.ek rfl rfl fJ) ?_;refine mA aB ?_;refine gB ?_;refine cc [0,1,5,7] ?_;refine⟨((a+1),(E++[(((t.af[i.toNat]'aa)).keys[a],((t.af[i.toNat]'aa)).kids[a])]),EJ),_,cG,aI,uE,w4,P7,rfl⟩
    refine gp 14 rfl lY ?_;refine mc (y:=⟨46,[(0,_),(43,_)],(EJ)⟩) (Wk.ek rfl rfl fJ) ?_;refine mA aB ?_;refine e9 ?_;refine rC ?_;refine⟨.inr rfl,⟨_,rp results98⟩,(show 0<46 by decide),EJ,Sublist.refl _,?_⟩;exact .inr ⟨E++[(((t.af[i.toNat]'aa)).keys[a],((t.af[i.toNat]'aa)).kids[a])],⟨(jF t (i::r)).drop (a+1),by rw[qD,iY,append_assoc];rfl⟩,P7,lk⟩
   refine lE rfl fW ?_;refine ku (i:=2) aB ?_;refine lE rfl (ec 0) ?_;refine gp 4 rfl (ei 1 (h:=MW)) ?_;refine ku (i:=5) aB ?_;refine lE rfl fW ?_;refine ku (i:=6) aB ?_;refine iw.uf rfl av rfl rfl rfl call70 (mW (((t.af[i.toNat]'aa)).keys[a]) w4) ⟨ot,trivial⟩ ?_;refine gp 12 rfl (pQ (pl:=[(0,_),(1,_)]) (ds:=[_,_]) rfl zeroValue88 runUnderlying88 tM ⟨rfl,ot,rfl,ot,trivial⟩ rfl rfl) ?_;refine ku (i:=13) aB ?_;refine iw.yield (Y:=Y) (pre:=E) (y:=(((t.af[i.toNat]'aa)).keys[a],((t.af[i.toNat]'aa)).kids[a])) (Sc:=I) (R:=[⟨b7,129,5,cP (t.af[i.toNat]'aa)⟩]) rfl av rfl rfl ot aP lk uj (perm_append_singleton _ _).symm Z uF hY O w8 (fun Dt NN=>?_) (fun Dt NN=>?_)
   ·refine tX (perm_append_singleton _ _) ?_;refine gp 14 rfl lY ?_;refine mc (y:=⟨46,[(0,_),(1,_),(5,_),(7,_),(43,_)],(⟨b7,129,5,[_,_,_,_,_]⟩::Dt)⟩) (Wk.ek rfl rfl fJ) ?_;refine mA aB ?_;refine gB ?_;refine cc [0,1,5,7] ?_;refine⟨((a+1),(E++[(((t.af[i.toNat]'aa)).keys[a],((t.af[i.toNat]'aa)).kids[a])]),Dt),_,cG,aI,uE,w4,NN,rfl⟩
   refine gp 14 rfl lY ?_;refine mc (y:=⟨46,[(0,_),(43,_)],(Dt)⟩) (Wk.ek rfl rfl fJ) ?_;refine mA aB ?_;refine e9 ?_;refine rC ?_;refine⟨.inr rfl,⟨_,rp results98⟩,(show 0<46 by decide),Dt,Sublist.refl _,?_⟩;exact .inr ⟨E++[(((t.af[i.toNat]'aa)).keys[a],((t.af[i.toNat]'aa)).kids[a])],⟨(jF t (i::r)).drop (a+1),by rw[qD,iY,append_assoc];rfl⟩,NN,lk⟩
  have fw:a=(t.pg i).keys.length:=(by rw[iJ];have:=bf;simp at this;omega)
  refine cc [0,1,4,5] ?_;refine⟨(r,0,E,I),_,(by (show length r<length (i::r);simp)),(aI (h:=Zt)),hL.tail,(by rw[qD,adb v hL fw]),(fun x hx=>Nat.zero_le _),Z,rfl⟩
 have an6:ls=[]:=hL.head.2 yA;refine qq ?_;refine⟨.inl rfl,⟨_,rp results98⟩,(show 0<46 by decide),Sc,Sublist.refl _,?_⟩;exact .inl ⟨pre,by rw[PY,an6];simp[jF],hj,lk⟩
open Go.Lib (compareBytes)
theorem aiV(e:K×Int):(cE e).all V.one=true:=rfl
theorem ajS(k:K):gd (cK k)=true:=by simp[cK,gd,ji,AE]
theorem ajT(n:Int):gd (cI n)=true:=rfl
theorem ajU(p:dc):gd (cP p)=true:=by simp[cP,gd,ji,AE,wu ajS,wu ajT]
def Xn(t:aE)(k:K):D:=.eK (.func 98) (MF t k)
noncomputable def sL(eC:K)(x:K×Int):Bool:=decide (0<eC.length/\bC eC x.1)
noncomputable def vu(t:aE)(h:Nat)(f eC:K):List (K×Int):=(mI t h f).takeWhile fun x=>!sL eC x
noncomputable def yj(t:aE)(h:Nat)(f eC:K):List (K×Int)×Int:=if gZ t=0 then (if f.length<=100/\eC.length<=100 then (vu t h f eC,0) else ([],1)) else ([],gZ t)
theorem FC{α:Type}{p:α->Bool}:∀{l:List α},(∀x∈l,p x=true)->l.takeWhile p=l
 | [],_=>rfl
 | x::l,h=>by rw[takeWhile_cons,if_pos (h x mem_cons_self),FC fun y hy=>h y (mem_cons_of_mem _ hy)]
theorem R8{α:Type}{p:α->Bool}{y:α}{r:List α}(hy:p y=false):∀{l:List α},(∀x∈l,p x=true)->(l++y::r).takeWhile p=l
 | [],_=>by rw[nil_append,takeWhile_cons,if_neg (by rw[hy];decide)]
 | x::l,h=>by rw[cons_append,takeWhile_cons,if_pos (h x mem_cons_self),R8 hy fun y hy=>h y (mem_cons_of_mem _ hy)]
def yw(b9 b5:Nat)(eC:K)(pre:List (K×Int))(Sc:List ag):Prop:=(∀x∈pre,sL eC x=false)/\∃ad cap So,bq 88 2 (pre.flatMap cE) pre.length ad cap So/\Sc=⟨b9,83,1,[aN ad pre.length cap]⟩::⟨b5,86,1,[an 1 cB eC]⟩::So
def Hg(b9 b5:Nat)(eC:K)(pre:List (K×Int))(Sc:List ag):Prop:=∃init y,pre=init++[y]/\sL eC y=true/\yw b9 b5 eC init Sc
theorem yw.ji{b9 b5:Nat}{eC:K}{pre:List (K×Int)}{Sc:List ag}(h:yw b9 b5 eC pre Sc):∀B∈Sc,gd B.cs=true:=by
 obtain⟨_,ad,cap,So,ho,rfl⟩:=h;intro B hB;rcases mem_cons.1 hB with rfl|hB
 ·rfl
 rcases mem_cons.1 hB with rfl|hB
 ·simp[gd,V.ji,AE]
 rcases ho with ⟨_,_,_,_,rfl⟩|⟨b,_,_,_,rfl⟩
 ·cases hB
 rw[mem_singleton] at hB;subst hB;exact wu AF pre
theorem Hg.ji{b9 b5:Nat}{eC:K}{pre:List (K×Int)}{Sc:List ag}(h:Hg b9 b5 eC pre Sc):∀B∈Sc,gd B.cs=true:=by
 obtain⟨init,y,_,_,h⟩:=h;exact h.ji
def MG(b9 b5:Nat)(eC:K)(pre:List (K×Int))(y:K×Int)(Sc:List ag)(z:St):Prop:=yw b9 b5 eC pre Sc/\∃kY,z=⟨43,[(5,da b5),(9,da b9),(10,da kY)],⟨kY,88,2,cE y⟩::Sc⟩
theorem MG.ji{b9 b5:Nat}{eC:K}{pre:List (K×Int)}{y:K×Int}{Sc:List ag}{z:St}(h:MG b9 b5 eC pre y Sc z):(z.env.all fun p=>V.ji p.2)=true/\∀B∈z.S,gd B.cs=true:=by
 obtain⟨hj,kY,rfl⟩:=h;refine⟨rfl,fun B hB=>?_⟩;rcases mem_cons.1 hB with rfl|hB
 ·exact AF y
 exact hj.ji B hB
theorem agv{b9 b5:Nat}{t:aE}{h:Nat}{f eC:K}{Sc:List ag}{c d:Code}(he:(∃xs,xs=mI t h f/\yw b9 b5 eC xs Sc)\/(c=d/\∃pre,pre <+: mI t h f/\Hg b9 b5 eC pre Sc)):∃I,I=vu t h f eC/\yw b9 b5 eC I Sc:=by
 rcases he with ⟨xs,rfl,hj⟩|⟨_,pre,⟨r,hr⟩,E,y,rfl,hy,hj⟩
 ·exact⟨_,(FC fun x hx=>by rw[hj.1 x hx];rfl).symm,hj⟩
 refine⟨E,?_,hj⟩;unfold vu;rw[<-hr,append_assoc,singleton_append];exact(R8 (by rw[hy];rfl) fun x hx=>by rw[hj.1 x hx];rfl).symm
theorem aia(t:aE)(k:K):VC Tryz.prog G 52 [.agg (cT t),an 1 cB k] [] (fun r S=>∃b2 b3,r = .eK (.func 98) [da b2,da b3]/\S=[⟨b3,86,1,[an 1 cB k]⟩,⟨b2,66,2,cT t⟩]):=by
 refine bn func52 rfl ntmps52 aP fun X0 w0 bj=>?_;unfold cT;refine bX ?_;refine cW [_,_] (fun b2=>?_);refine cW [_] (fun b3=>?_);refine aq 6 [2,3] ?_;refine cN [4] ?_;refine aT 0 ?_ (h:=Ia);refine bL ?_;refine eu [_,_] ?_;exact⟨_,_,rfl,rfl⟩
theorem aib(t:aE)(k:K):VP Tryz.prog G 52 [.agg (cT t),an 1 cB k] (Xn t k):=VC.cover (aia t k) fun r S ⟨b2,b3,hr,hS⟩=>by
 subst hr;subst hS;exact afI ⟨Tn (e:=66) (size:=2) (cs:=cT t) (mem_cons_of_mem _ mem_cons_self) hU.same,Tn (e:=86) (size:=1) mem_cons_self hU.same,trivial⟩
theorem acK:(Tryz.prog.info? 88).map (fun i=>(i.zero,i.size,i.bytes))=some (some (.agg #[.slice none 0 0,.int .i64 0]),2,32):=by kernel_rfl
theorem aic(t:aE)(h:Nat)(hb:∀p∈t.af,p.keys.length<=maxLen/\p.kids.length<=maxLen)(hv:gZ t=0->Valid t h)(f eC:K):VP Tryz.prog G 29 [.agg (cT t),an 1 cB f,an 1 cB eC] (.dB [.list 2 ((yj t h f eC).1.flatMap cE) (yj t h f eC).1.length,ae (yj t h f eC).2]):=by
 refine VC.AO func29 rfl ntmps29 aP fun X0 w0 bj=>?_;have dH:=ey;have fE:=qo (G:=G) t hb;have U:=aib (G:=G) t f;unfold cT at fE U;unfold cT;refine bX ?_;refine cW [_,_] (fun b3=>?_);refine cW [_] (fun b5=>?_);refine aq 43 [1,3,5] ?_;refine cX [1,3,5,8] (fE) ?_;refine ax [1,3,5,8,14] ?_ ?_<;>intro aM bG
 ·have hn:¬gZ t=0:=(by simpa using aM)
  refine aA [6,7] ?_;refine kS (Wk.vj (t:=6) (sz:=2) lk) ?_;refine eu [] ?_;exact⟨by unfold yj;rw[if_neg hn];rfl,rfl⟩
 have hz:gZ t=0:=(by simpa using aM)
 have v:=hv hz;have Xm:=Uc v f;refine az 4 ?_;refine bU 19 (fun Z O=>?_) (fun Z O=>?_)
 ·refine bA [1,3,5,23] ?_;refine e9 ?_;exact Z4
 refine bA [1,3,5,23] ?_;refine cj ?_ ?_<;>intro bf cD
 ·exact Z4
 have asG:f.length<=100/\eC.length<=100:=(by simp_all;omega)
 have hf1:f.length<=maxLen:=(by omega)
 refine bX ?_;refine dF (ds:=[_]) av rfl rfl zeroValue83 rfl (fun b9=>?_);refine aq 43 [1,3,5,9] ?_;refine aho ?_;refine dV 2 ?_;refine eB call52 (U) ?_;refine aq 43 [5,9,26] ?_;refine xD.wk (Wk.drop _ _ _ [⟨b9,83,1,[bW]⟩,⟨b5,86,1,[an 1 cB eC]⟩] (Sublist.cons_cons _ (Sublist.cons_cons _ (Sublist.cons _ (Sublist.refl _))))) ?_;refine xD.range ot call98 (agu t h v f hf1) (fun _=>rfl) agt (.exit 0) (.inr rfl) (yw b9 b5 eC) (Hg b9 b5 eC) (fun _ _ h=>h.ji) (fun _ _ h=>h.ji) ⟨(fun _ h=>by cases h),none,0,[],jj,rfl⟩ (MG b9 b5 eC) (fun _ _ _ _ h=>h.ji) ?_ ?_ ?_ (fun h=>by cases h)
 ·intro X1 W1 S1 l1 pre y Sc hJ hN;refine CI.region MZ rfl ?_;refine dF (ds:=[_,_]) av rfl rfl zeroValue88 rfl (fun kY=>?_);refine aR 0 [_,_] sizeOf88 ?_;refine fC (Wk.ek (n:=43) (l':=[(5,_),(9,_),(10,_)]) (S':=(⟨kY,88,2,[_,_]⟩::Sc)) rfl rfl fJ) ?_;refine jX ?_;exact⟨rfl,hJ,kY,rfl⟩
 ·intro X1 W1 S1 l1 pre y Sc z hJ hN hz;obtain⟨⟨aQ,ad,cap,So,ho,rfl⟩,kY,rfl⟩:=hz;unfold cE;refine CI.block ?_;refine CI.seq ?_;refine CI.seq ?_;refine CI.region MZ rfl ?_;refine bQ (ec 2) ?_;refine bQ zf ?_;refine bQ qS ?_;refine om_ ?_;refine Td (t:=31) lk (fun I=>?_) (fun I=>?_)
  ·have E:=I;(try simp only[V.oG,ne_eq] at E)
   refine bQ (dU 0) ?_;refine bQ (ec 0) ?_;refine bQ (ec 2) ?_;refine oK iR rfl rfl rfl call53 (ye y.1 eC) ⟨ot,ot,trivial⟩ ?_;refine bQ qS ?_;refine bQ yJ ?_;refine fC (Wk.ek (n:=43) (l':=[(9,_),(10,_),(37,_)]) (S':=(⟨kY,88,2,[_,_]⟩::⟨b9,83,1,[_]⟩::⟨b5,86,1,[_]⟩::So)) rfl rfl fJ) ?_;refine jX ?_;refine CI.cond ot (fun cr=>?_) (fun cr=>?_)
   ·have cU:=cr
    (try simp only[V.oG,ne_eq] at cU)
    have fX:sL eC y=true:=(by unfold sL;simp_all[Wc])
    refine CI.exit ?_;exact⟨rfl,_,Sublist.cons _ (Sublist.refl _),pre,y,rfl,fX,aQ,ad,cap,So,ho,rfl⟩
   have cU:=cr
   (try simp only[V.oG,ne_eq] at cU)
   exact z24
  have E:=I;(try simp only[V.oG,ne_eq] at E)
  refine D3 ?_;refine D3 ?_;refine D3 ?_;refine D3 ?_;refine D3 ?_;refine bQ wQ ?_;refine nm_ [9,10,37] ?_;refine CI.akF ot jQ ?_;exact z24
 intro W1 S1 D1 Sc fw;obtain⟨es,hes,aQ,ad,cap,So,ho,rfl⟩:=agv fw;refine aA [6,7] ?_;refine oL (t:=6) (Sq:=So) lk ho (cz Wd _) (dK (A:=[_,_])) ?_;refine rC ?_;refine⟨rfl,(by simp[ji,gd,wu AF,AE,AF,wu ajU,Xn,MF]),(by intro B hB;simp only[mem_cons,not_mem_nil,or_false] at hB;rcases hB with rfl|rfl<;>simp[ji,gd,AE]),_,[],nil_sublist _,KT results29 (Ak aP lk) (Ak aP lk),(by simp[ji,gd,wu AF]),?_⟩;rw[hes];exact⟨by unfold yj;rw[if_pos hz,if_pos ⟨by omega,by omega⟩],rfl⟩
end Tw
namespace Tw
open List
open Go.Proofs.Tryz
open Go.RowKit V Tr Pk
variable {α:Type} {i:Nat} {t:aE} {J:List D}
theorem VD{g:α->List D}(hg:∀a,(g a).length=1){q:List α}{cap:Nat}(hi:i<q.length)(hc:q.length<=cap):((q.flatMap g).drop (eY cap (i+1) 1 0)).take ((q.length-(i+1))*1)=(q.drop (i+1)).flatMap g:=by
 unfold eY;by_cases h:cap=i+1
 ·have e:q.length=i+1:=(by omega)
  have e2:q.drop (i+1)=[]:=drop_of_length_le w4;rw[if_pos h,show q.length-(i+1)=0 from by omega,e2];simp
 rw[if_neg h,Nat.zero_add,wm hg,take_of_length_le];rw[cz hg,length_drop];exact Nat.le_refl _
theorem Wz{g:α->List D}(hg:∀a,(g a).length=1){q:List α}(hi:i<q.length):dx (q.flatMap g) (i*1) ((q.drop (i+1)).flatMap g)=(q.eraseIdx i).flatMap g++(q.flatMap g).drop (i*1+((q.drop (i+1)).flatMap g).length):=by
 rw[xR _ _ _ (by rw[cz hg,cz hg,length_drop];omega),vl hg,eraseIdx_eq_take_drop_succ,flatMap_append]
variable {G:List (Nat×List Value)}
theorem abI:(Tryz.prog.info? 86).map (fun i=>i.size)=some 1:=by kernel_rfl
theorem JD(q:List K)(i cap b:Nat)(hi:i<q.length)(hc:q.length<=cap)(hm:cap<=maxLen)(hs:q.length<=1000):VC Tryz.prog G 132 [aN (some ⟨b,0,none⟩) q.length cap,ae (i:Nat),ae ((i+1:Nat):Int)] [⟨b,86,cap*1,q.flatMap cK⟩] (fun r S=>r=aN (some ⟨b,0,none⟩) (q.length-1) cap/\S=[⟨b,86,cap*1,(q.eraseIdx i).flatMap cK⟩]):=by
 refine bn func132 rfl ntmps132 aP fun X0 w0 bj=>?_;refine aA [0,1,2] ?_;refine cN [0,1,2] ?_;refine aT 5 ?_ (h:=by exact(Qy rfl ot ot ot ot runUnderlying127 sizeOf86 w4 w4 hc));refine jR ?_;refine ax [0,1,2,16] ?_ ?_<;>intro aM bG
 ·exact absurd aM vv
 refine aA [0,1,2,7] ?_;refine cQ ?_;refine iD 7 (aj (eraseIdx _ 0)) ?_ (fun _ h=>(Sublist.map _ (eraseIdx_sublist _ 0)).subset h);refine aC 0 rfl bJ ?_;refine aC 1 rfl bJ ?_;refine aC 2 rfl (fb (l:=0) (h:=i) rfl ot trivial ⟨_,ot⟩ Oe) ?_;refine aC 3 rfl bJ ?_;refine aC 4 rfl bJ ?_;refine aC 5 rfl (fb (l:=i+1) rfl ot ⟨_,ot⟩ trivial xq) ?_;refine dW.later rfl ?_;refine bH (i:=6) aB ?_;refine Qt (n:=i) (m:=q.length-(i+1)) (k:=0) (new:=(q.drop (i+1)).flatMap cK) (cs':=(q.eraseIdx i).flatMap cK++(q.flatMap cK).drop (i*1+((q.drop (i+1)).flatMap cK).length)) rfl av rfl rfl underlying127 abI ot rfl rfl ot (VD gF hi hc) (by rw[cz gF,length_drop]) (sH qw _) w4 (by show _<=(q.flatMap cK).length;rw[cz gF];omega) (Wz gF hi) jb ?_;rw[show i+(q.length-(i+1))=q.length-1 from by omega];refine fD ?_;refine bA [0,7] ?_;refine az 4 ?_;refine bQ (fb (l:=q.length-1) (h:=q.length) rfl ot ⟨_,ot⟩ ⟨_,ot⟩ (by first|exact pU (fun h=>by cases h) runUnderlying127 sizeOf86 w4|exact Ai (fun h=>by cases h) (fun h=>by cases h) runUnderlying127 sizeOf86 w4 w4|exact ph (fun h=>by cases h) (fun h=>by cases h) runUnderlying127 sizeOf86 w4 w4)) ?_;refine zR (k:=0) (cs':=(q.eraseIdx i).flatMap cK) rfl (prefix_append _ _) ?_;refine Te (k:=0) (sz:=1) av rfl rfl underlying127 zeroValue86 rfl aB ot rfl rfl (fun h0=>?_) ?_
 ·have h3:eY cap (q.length-1) 1 0=(q.length-1)*1:=(by unfold eY;rw[if_neg w4];omega)
  rw[h3];refine⟨?_,?_⟩
  ·show((q.eraseIdx i).flatMap cK).length<=_;rw[cz gF,length_eraseIdx_of_lt hi];exact Nat.le_refl _
  show _<=cap*1;omega
 refine aq 33 [0] ?_;refine dj [6] [_] ?_;exact⟨rfl,rfl⟩
theorem abJ:(Tryz.prog.info? 3).map (fun i=>i.size)=some 1:=by kernel_rfl
theorem QU(q:List Int)(i cap b:Nat)(hi:i<q.length)(hc:q.length<=cap)(hm:cap<=maxLen)(hs:q.length<=1000):VC Tryz.prog G 133 [aN (some ⟨b,0,none⟩) q.length cap,ae (i:Nat),ae ((i+1:Nat):Int)] [⟨b,3,cap*1,q.flatMap cI⟩] (fun r S=>r=aN (some ⟨b,0,none⟩) (q.length-1) cap/\S=[⟨b,3,cap*1,(q.eraseIdx i).flatMap cI⟩]):=by
 refine bn func133 rfl ntmps133 aP fun X0 w0 bj=>?_;refine aA [0,1,2] ?_;refine cN [0,1,2] ?_;refine aT 5 ?_ (h:=by exact(Qy rfl ot ot ot ot runUnderlying61 sizeOf3 w4 w4 hc));refine jR ?_;refine ax [0,1,2,16] ?_ ?_<;>intro aM bG
 ·exact absurd aM vv
 refine aA [0,1,2,7] ?_;refine cQ ?_;refine iD 7 (aj (eraseIdx _ 0)) ?_ (fun _ h=>(Sublist.map _ (eraseIdx_sublist _ 0)).subset h);refine aC 0 rfl bJ ?_;refine aC 1 rfl bJ ?_;refine aC 2 rfl (fb (l:=0) (h:=i) rfl ot trivial ⟨_,ot⟩ Of) ?_;refine aC 3 rfl bJ ?_;refine aC 4 rfl bJ ?_;refine aC 5 rfl (fb (l:=i+1) rfl ot ⟨_,ot⟩ trivial xu) ?_;refine dW.later rfl ?_;refine bH (i:=6) aB ?_;refine Qt (n:=i) (m:=q.length-(i+1)) (k:=0) (new:=(q.drop (i+1)).flatMap cI) (cs':=(q.eraseIdx i).flatMap cI++(q.flatMap cI).drop (i*1+((q.drop (i+1)).flatMap cI).length)) rfl av rfl rfl underlying61 abJ ot rfl rfl ot (VD eS hi hc) (by rw[cz eS,length_drop]) (sH oM _) w4 (by show _<=(q.flatMap cI).length;rw[cz eS];omega) (Wz eS hi) jb ?_;rw[show i+(q.length-(i+1))=q.length-1 from by omega];refine fD ?_;refine bA [0,7] ?_;refine az 4 ?_;refine bQ (fb (l:=q.length-1) (h:=q.length) rfl ot ⟨_,ot⟩ ⟨_,ot⟩ (by first|exact pU (fun h=>by cases h) runUnderlying61 sizeOf3 w4|exact Ai (fun h=>by cases h) (fun h=>by cases h) runUnderlying61 sizeOf3 w4 w4|exact ph (fun h=>by cases h) (fun h=>by cases h) runUnderlying61 sizeOf3 w4 w4)) ?_;refine zR (k:=0) (cs':=(q.eraseIdx i).flatMap cI) rfl (prefix_append _ _) ?_;refine Te (k:=0) (sz:=1) av rfl rfl underlying61 zeroValue3 rfl aB ot rfl rfl (fun h0=>?_) ?_
 ·have h3:eY cap (q.length-1) 1 0=(q.length-1)*1:=(by unfold eY;rw[if_neg w4];omega)
  rw[h3];refine⟨?_,?_⟩
  ·show((q.eraseIdx i).flatMap cI).length<=_;rw[cz eS,length_eraseIdx_of_lt hi];exact Nat.le_refl _
  show _<=cap*1;omega
 refine aq 33 [0] ?_;refine dj [6] [_] ?_;exact⟨rfl,rfl⟩
theorem B0{α:Type}{g:α->List D}{sz:Nat}(hg:∀a,(g a).length=sz){a':α}{c:Nat}{d:D}(hc:c<sz):∀{L:List α} {j:Nat} (hj:j<L.length),g a'=(g L[j]).set c d->(L.flatMap g).set (j*sz+c) d=(L.set j a').flatMap g
 | a::L,0,_,h=>by
  simp only[getElem_cons_zero] at h;rw[flatMap_cons,set_cons_zero,flatMap_cons,h,set_append_left _ _ (by rw[hg];omega),Nat.zero_mul,Nat.zero_add]
 | a::L,j+1,hj,h=>by
  have E:=B0 hg hc (L:=L) (j:=j) (by simpa using hj) nS;have e:(j+1)*sz+c=sz+(j*sz+c):=(by rw[Nat.succ_mul];omega)
  rw[flatMap_cons,set_cons_succ,flatMap_cons,<-E,set_append_right _ _ (by rw[hg];omega),hg,e,show sz+(j*sz+c)-sz=j*sz+c from by omega]
theorem WA{L:List aZ}(hL:L.map aZ.p=t.af){i:Int}(hi:0<=i/\i<t.af.length)(hj:i.toNat<L.length):L[i.toNat].p=t.pg i:=by
 rw[wM hi];have h:(L.map aZ.p)[i.toNat]?=some L[i.toNat].p:=(by rw[getElem?_map,getElem?_eq_getElem hj];rfl)
 rw[hL,getElem?_eq_getElem w4] at h;exact(Option.some.inj h).symm
def xG:aE:=⟨[],0⟩
def Du(te:aE×Int)(r:D)(S:List ag):Prop:=∃r',r = .dB [r',ae te.2]/\HJ te.1 r' S
theorem Aq(e:Int):Du (xG,e) (.dB [.agg [bW,ae 0],ae e]) []:=⟨_,rfl,[],none,0,[],rfl,jj,(fun o h=>by cases h),rfl,rfl⟩
theorem HJ.view{r:D}{S:List ag}(h:HJ t r S):View S r (.agg (cT t)):=by
 obtain⟨L,ad,cap,Sx,rfl,ho,aQ,hL,rfl⟩:=h;have:=Ma (root:=t.root) ho aQ (fun B hB=>hB);rw[hL] at this;exact this
theorem Du.view{te:aE×Int}{r:D}{S:List ag}(h:Du te r S):View S r (.dB [.agg (cT te.1),ae te.2]):=by
 obtain⟨r',rfl,h⟩:=h;exact FQ ⟨h.view,fq,trivial⟩
noncomputable def sS(t:aE)(k:K)(h:Nat):aE×Int:=if mg t k=0 then (if iX t k h=true then (ig t h k,0) else (xG,8)) else (xG,mg t k)
theorem R9{k:K}(h:mg t k=0):gZ t=0/\pD k=true:=by
 have hc:gZ t=0:=Classical.byContradiction fun e=>by rw[FL e] at h;exact e h
 refine⟨hc,?_⟩;cases hq:pD k with
 | true=>rfl
 | false=>rw[Fq hc hq] at h;cases h
theorem aeO(t:aE)(h:Nat)(k:K)(hb:∀p∈t.af,p.keys.length<=maxLen/\p.kids.length<=maxLen)(hv:gZ t=0->Valid t h):VC Tryz.prog G 95 [.agg [an 5 cP t.af,ae t.root],an 1 cB k] [] (Du (sS t k h)):=by
 refine bn func95 rfl ntmps95 aP fun X0 w0 bj=>?_;have fE:=JC (G:=G) t k hb;unfold cT at fE;have hcT:cT t=[an 5 cP t.af,ae t.root]:=rfl;have dH:=ey;refine bX ?_;refine cW [_,_] (fun b2=>?_);refine dF (ds:=[_,_]) av rfl rfl zeroValue66 rfl (fun b4=>?_);refine aq 58 [1,2,4] ?_;refine cX [1,2,4,6] (fE) ?_;refine ax [1,2,4,6,16] ?_ ?_<;>intro aM bG
 ·have hn:¬mg t k=0:=(by simpa using aM)
  refine az 2 ?_;refine aR 0 [_,_] sizeOf66 ?_;refine dY 58 [4,5] [] ?_;unfold sS;rw[if_neg hn];exact Aq _
 have hz:mg t k=0:=(by simpa using aM)
 obtain⟨hc,P8⟩:=R9 hz;have v:=hv hc;have Dv:=KD P8;have fF:=rA (G:=G) t h v k w4 (Fl v k);obtain⟨q1,E⟩:=v.leaf k;refine az 1 ?_;refine fg av rfl rfl rfl call68 (GM t h v) ⟨ot,trivial⟩ (fx _) ?_;rintro _ _ ⟨L,ad,cap,Sx,rfl,ev,aQ,hL,rfl⟩;refine bZ (ew (A:=[_,_])) ?_;refine dF (ds:=[_,_]) av rfl rfl zeroValue66 rfl (fun b7=>?_);refine aR 0 [_,_] sizeOf66 ?_;refine aq 58 [1,4,7] ?_;refine cN [4,7,8,9,10] ?_;refine mr 2 ?_;refine Bb (fF) (ha:=by exact⟨⟨_,ot,by have:=Ma (root:=t.root) ev aQ (fun B hB=>mem_cons_of_mem ⟨b7,66,2,[aN ad L.length cap,ae t.root]⟩ (mem_cons_of_mem ⟨b4,66,2,[bW,ae 0]⟩ (mem_cons_of_mem ⟨b2,66,2,[an 5 cP t.af,ae t.root]⟩ hB)));rw[hL] at this;exact this⟩,⟨_,ot,fq⟩,trivial⟩) (K:=?_);refine bL ?_;refine ax [4,7,8,9,29] ?_ ?_<;>intro bf cD
 ·have jz:iX t k h=false:=(by simpa using bf)
  refine az 1 ?_;refine aR 1 [_,_] sizeOf66 ?_;refine dY 58 [4,5] [] ?_;unfold sS;rw[if_pos hz,if_neg yz];exact Aq _
 have jz:iX t k h=true:=(by simpa using bf)
 obtain⟨ha,Px⟩:=(Fk v k).1 jz;have po:=v.fU _ (jY q1);have hle:=po.leaf E;have hfw:=po.eU;have tH:L.length=t.af.length:=(by rw[<-hL];(first|rw[length_map]|(unfold an;rw[length_map])))
 have hj:(aJ t k h t.root).toNat<L.length:=(by omega)
 have O:=WA hL q1 hj;obtain⟨bx,rfl,gK,y4,rfl⟩:=ev.pos w4;have U:=aQ _ (getElem_mem hj);obtain⟨o,ho⟩:∃o,o=L[(aJ t k h t.root).toNat]:=⟨_,rfl⟩
 rw[<-ho] at U O;rcases o with ⟨p,ak,ck,sk,ai,ci,si⟩
 have iJ:p=t.pg (aJ t k h t.root):=O;obtain⟨cl,Z⟩:oO p.keys ak ck sk/\nP p.kids ai ci si:=U;rw[<-iJ] at ha hle hfw;obtain⟨bk,rfl,er,y6,rfl⟩:=cl.pos w4;obtain⟨bi,rfl,fO,Ie,rfl⟩:=Z.pos w4;have I:(L.flatMap bO).Perm (⟨bk,86,ck*1,flatMap cK p.keys⟩::⟨bi,3,ci*1,flatMap cI p.kids⟩::((L.eraseIdx (aJ t k h t.root).toNat).flatMap bO)):=(by have:=Ap bO hj;rw[<-ho] at this;exact this)
 refine qs (Perm.cons _ (Perm.cons _ (Perm.cons _ (Perm.cons _ I)))) ?_;rw[iJ] at ha;have ha:(aS (t.pg (aJ t k h t.root)) k)<p.keys.length:=(by rw[iJ];exact ha)
 have qJ:(aS (t.pg (aJ t k h t.root)) k)<p.kids.length:=(by omega)
 have hid:=er;clear cl Z;refine cN [4,7,9,11] ?_;refine aT 3 ?_ (h:=by exact(ei 5 (h:=by first|exact .l (j:=(aJ t k h t.root).toNat) (Int.toNat_of_nonneg q1.1).symm hj|exact .r (j:=(aJ t k h t.root).toNat) (Int.toNat_of_nonneg q1.1).symm hj)));refine bL ?_;refine cQ ?_;refine iD 21 (aj (take 3 _)) ?_ (fun _ h=>(Sublist.map _ (take_sublist _ _)).subset h);refine aC 0 rfl bJ ?_;refine aC 1 rfl bJ ?_;refine aC 2 rfl bJ ?_;refine aC 3 rfl qN ?_;refine aC 4 rfl (dU 1) ?_;refine aC 6 rfl bJ ?_;refine aC 7 rfl bJ ?_;refine aC 8 rfl (dX (r:=.int .i64 (((aS (t.pg (aJ t k h t.root)) k)+1:Nat):Int)) rfl ot cf (lI Xy)) ?_;refine aC 10 rfl bJ ?_;refine aC 11 rfl qN ?_;refine aC 12 rfl (dU 2) ?_;refine aC 14 rfl bJ ?_;refine aC 15 rfl bJ ?_;refine aC 16 rfl (dX (r:=.int .i64 (((aS (t.pg (aJ t k h t.root)) k)+1:Nat):Int)) rfl ot cf (lI Xy)) ?_;refine dW.later rfl ?_;refine lK (i:=5) (j:=13) aB ?_ ?_
 ·first|refine at_ rfl (dN (mk:=Op.load 127) rfl ot (l9 (k:=3) (j:=1) (d:=aN (some ⟨bk,0,none⟩) p.keys.length ck) (ls:=L) ju rfl rfl rfl isAgg127 hj th)) ?_|refine at_ rfl (dN (mk:=Op.load 127) rfl ot (l9 (k:=4) (j:=1) (d:=aN (some ⟨bk,0,none⟩) p.keys.length ck) (ls:=L) ju rfl rfl rfl isAgg127 hj th)) ?_
  refine lK (i:=9) (j:=13) aB ?_ ?_
  ·refine ko rfl av rfl rfl rfl call132 (JD p.keys (aS (t.pg (aJ t k h t.root)) k) ck bk ha er y6 w4) ⟨ot,ot,ot,trivial⟩ (nB (k:=4) rfl) jb ?_;rintro _ _ ⟨rfl,rfl⟩;refine gq (perm_middle (l₁:=[_,_,_,_])).symm ?_;refine bH (i:=13) aB ?_;first|refine at_ rfl (dN (mk:=Op.load 61) rfl ot (l9 (k:=3) (j:=2) (d:=aN (some ⟨bi,0,none⟩) p.kids.length ci) (ls:=L) ju rfl rfl rfl isAgg61 hj th)) ?_|refine at_ rfl (dN (mk:=Op.load 61) rfl ot (l9 (k:=4) (j:=2) (d:=aN (some ⟨bi,0,none⟩) p.kids.length ci) (ls:=L) ju rfl rfl rfl isAgg61 hj th)) ?_
   exact z4
  first|refine at_ rfl (dN (mk:=Op.load 61) rfl ot (l9 (k:=3) (j:=2) (d:=aN (some ⟨bi,0,none⟩) p.kids.length ci) (ls:=L) ju rfl rfl rfl isAgg61 hj th)) ?_|refine at_ rfl (dN (mk:=Op.load 61) rfl ot (l9 (k:=4) (j:=2) (d:=aN (some ⟨bi,0,none⟩) p.kids.length ci) (ls:=L) ju rfl rfl rfl isAgg61 hj th)) ?_
  refine bH (i:=9) aB ?_;refine ko rfl av rfl rfl rfl call132 (JD p.keys (aS (t.pg (aJ t k h t.root)) k) ck bk ha er y6 w4) ⟨ot,ot,ot,trivial⟩ (nB (k:=4) rfl) jb ?_;rintro _ _ ⟨rfl,rfl⟩;refine gq (perm_middle (l₁:=[_,_,_,_])).symm ?_;exact z4
 first|refine at_ rfl (dN (mk:=Op.load 61) rfl ot (l9 (k:=3) (j:=2) (d:=aN (some ⟨bi,0,none⟩) p.kids.length ci) (ls:=L) ju rfl rfl rfl isAgg61 hj th)) ?_|refine at_ rfl (dN (mk:=Op.load 61) rfl ot (l9 (k:=4) (j:=2) (d:=aN (some ⟨bi,0,none⟩) p.kids.length ci) (ls:=L) ju rfl rfl rfl isAgg61 hj th)) ?_
 refine bH (i:=5) aB ?_;first|refine at_ rfl (dN (mk:=Op.load 127) rfl ot (l9 (k:=3) (j:=1) (d:=aN (some ⟨bk,0,none⟩) p.keys.length ck) (ls:=L) ju rfl rfl rfl isAgg127 hj th)) ?_|refine at_ rfl (dN (mk:=Op.load 127) rfl ot (l9 (k:=4) (j:=1) (d:=aN (some ⟨bk,0,none⟩) p.keys.length ck) (ls:=L) ju rfl rfl rfl isAgg127 hj th)) ?_
 refine bH (i:=9) aB ?_;refine ko rfl av rfl rfl rfl call132 (JD p.keys (aS (t.pg (aJ t k h t.root)) k) ck bk ha er y6 w4) ⟨ot,ot,ot,trivial⟩ (nB (k:=4) rfl) jb ?_;rintro _ _ ⟨rfl,rfl⟩;refine gq (perm_middle (l₁:=[_,_,_,_])).symm ?_;refine bH (i:=17) aB ?_;refine ko rfl av rfl rfl rfl call133 (QU p.kids (aS (t.pg (aJ t k h t.root)) k) ci bi qJ fO Ie w4) ⟨ot,ot,ot,trivial⟩ (nB (k:=5) rfl) jb ?_;rintro _ _ ⟨rfl,rfl⟩;refine gq (perm_middle (l₁:=[_,_,_,_,_])).symm ?_;refine dr 18 rfl qN ?_;refine dr 19 rfl (dU 1) ?_;refine bH (i:=20) aB ?_;refine vW (k:=3) (cs':=flatMap gO (L.set (aJ t k h t.root).toNat (⟨{p with keys:=(p.keys.eraseIdx (aS (t.pg (aJ t k h t.root)) k))},some ⟨bk,0,none⟩,ck,[⟨bk,86,ck*1,flatMap cK (p.keys.eraseIdx (aS (t.pg (aJ t k h t.root)) k))⟩],some ⟨bi,0,none⟩,ci,[⟨bi,3,ci*1,flatMap cI p.kids⟩]⟩:aZ))) rfl av rfl rfl ot rfl rfl ot rfl rfl sizeOf127 rfl XO XI jb ?_;refine fD ?_;refine aG 2 ?_;refine oe (k:=3) (cs':=flatMap gO (L.set (aJ t k h t.root).toNat (⟨(mK p (aS (t.pg (aJ t k h t.root)) k)),some ⟨bk,0,none⟩,ck,[⟨bk,86,ck*1,flatMap cK (p.keys.eraseIdx (aS (t.pg (aJ t k h t.root)) k))⟩],some ⟨bi,0,none⟩,ci,[⟨bi,3,ci*1,flatMap cI (p.kids.eraseIdx (aS (t.pg (aJ t k h t.root)) k))⟩]⟩:aZ))) av rfl rfl ot rfl rfl ot rfl rfl sizeOf61 rfl Zc Zi ?_
 have nT:(⟨bk,86,ck*1,flatMap cK (p.keys.eraseIdx (aS (t.pg (aJ t k h t.root)) k))⟩::⟨bi,3,ci*1,flatMap cI (p.kids.eraseIdx (aS (t.pg (aJ t k h t.root)) k))⟩::((L.eraseIdx (aJ t k h t.root).toNat).flatMap bO)).Perm ((L.set (aJ t k h t.root).toNat (⟨(mK p (aS (t.pg (aJ t k h t.root)) k)),some ⟨bk,0,none⟩,ck,[⟨bk,86,ck*1,flatMap cK (p.keys.eraseIdx (aS (t.pg (aJ t k h t.root)) k))⟩],some ⟨bi,0,none⟩,ci,[⟨bi,3,ci*1,flatMap cI (p.kids.eraseIdx (aS (t.pg (aJ t k h t.root)) k))⟩]⟩:aZ)).flatMap bO):=(zW bO hj (⟨(mK p (aS (t.pg (aJ t k h t.root)) k)),some ⟨bk,0,none⟩,ck,[⟨bk,86,ck*1,flatMap cK (p.keys.eraseIdx (aS (t.pg (aJ t k h t.root)) k))⟩],some ⟨bi,0,none⟩,ci,[⟨bi,3,ci*1,flatMap cI (p.kids.eraseIdx (aS (t.pg (aJ t k h t.root)) k))⟩]⟩:aZ)).symm;refine bZ (Perm.cons _ (Perm.cons _ (Perm.cons _ (Perm.cons _ nT)))) ?_;refine aq 58 [4,7] ?_;refine az 1 ?_;refine aR 1 [_,_] sizeOf66 ?_;refine aq 58 [4,5] ?_
 refine eu ([⟨bx,129,cap*5,flatMap gO (L.set (aJ t k h t.root).toNat (⟨(mK p (aS (t.pg (aJ t k h t.root)) k)),some ⟨bk,0,none⟩,ck,[⟨bk,86,ck*1,flatMap cK (p.keys.eraseIdx (aS (t.pg (aJ t k h t.root)) k))⟩],some ⟨bi,0,none⟩,ci,[⟨bi,3,ci*1,flatMap cI (p.kids.eraseIdx (aS (t.pg (aJ t k h t.root)) k))⟩]⟩:aZ))⟩]++(L.set (aJ t k h t.root).toNat (⟨(mK p (aS (t.pg (aJ t k h t.root)) k)),some ⟨bk,0,none⟩,ck,[⟨bk,86,ck*1,flatMap cK (p.keys.eraseIdx (aS (t.pg (aJ t k h t.root)) k))⟩],some ⟨bi,0,none⟩,ci,[⟨bi,3,ci*1,flatMap cI (p.kids.eraseIdx (aS (t.pg (aJ t k h t.root)) k))⟩]⟩:aZ)).flatMap bO) ?_;unfold sS;rw[if_pos hz,if_pos jz];refine⟨_,rfl,L.set (aJ t k h t.root).toNat (⟨(mK p (aS (t.pg (aJ t k h t.root)) k)),some ⟨bk,0,none⟩,ck,[⟨bk,86,ck*1,flatMap cK (p.keys.eraseIdx (aS (t.pg (aJ t k h t.root)) k))⟩],some ⟨bi,0,none⟩,ci,[⟨bi,3,ci*1,flatMap cI (p.kids.eraseIdx (aS (t.pg (aJ t k h t.root)) k))⟩]⟩:aZ),some ⟨bx,0,none⟩,cap,_,by rw[length_set];rfl,bN yZ y4,fun x hx=>?_,?_,rfl⟩
 ·rcases mem_or_eq_of_mem_set hx with hx|rfl
  ·exact aQ x hx
  exact⟨bN XM y6,bN XL Ie⟩
 rw[map_set,hL];show _=t.af.set (aJ t k h t.root).toNat (mK (t.pg (aJ t k h t.root)) (aS (t.pg (aJ t k h t.root)) k));rw[<-iJ]
theorem aeP(t:aE)(h:Nat)(k:K)(hb:∀p∈t.af,p.keys.length<=maxLen/\p.kids.length<=maxLen)(hv:gZ t=0->Valid t h):VP Tryz.prog G 95 [.agg (cT t),an 1 cB k] (.dB [.agg (cT (sS t k h).1),ae (sS t k h).2]):=(aeO t h k hb hv).cover fun r S hr=>hr.view
def YP(L:List aZ)(b:Nat)(root:Int)(j:Nat)(p:dc)(r:D)(S:List ag):Prop:=r = .dB [.list 1 ((iy p).flatMap cB) (iy p).length,ae (L.length:Nat)]/\∃L' ad cap Sx,vC L' ad cap Sx/\(∀o∈L',sb o)/\L'.map aZ.p=(L.map aZ.p).set j (eA p L.length)++[cy p]/\S=⟨b,66,2,[aN ad (length L') cap,ae root]⟩::(Sx++L'.flatMap bO)
theorem QS:(Tryz.prog.info? 129).map (fun i=>(i.zero,i.size,i.bytes))=some (some (.agg #[.bool false,.slice none 0 0,.slice none 0 0,.slice none 0 0,.int .i64 0]),5,88):=by kernel_rfl
theorem agw(L:List aZ)(b:Nat)(root i:Int)(ad:Option Addr)(cap:Nat)(Sx:List ag)(hi:0<=i/\i<L.length)(hn:L.length<=10000)(ev:vC L ad cap Sx)(aQ:∀o∈L,sb o)(h5:(L[i.toNat]'w4).p.keys.length=5)(er:(L[i.toNat]'w4).p.leaf=true->(L[i.toNat]'w4).p.kids.length=5)(zH:(L[i.toNat]'w4).p.leaf=false->(L[i.toNat]'w4).p.kids.length=6)(oW:∀k∈(L[i.toNat]'w4).p.keys,k.length<=100)(hh:(L[i.toNat]'w4).p.high.length<=100) :
 VC Tryz.prog G 74 [da b,ae i] (⟨b,66,2,[aN ad L.length cap,ae root]⟩::(Sx++L.flatMap bO)) (YP L b root i.toNat (L[i.toNat]'w4).p):=by
 refine bn func74 rfl ntmps74 aP fun X0 w0 bj=>?_;have dH:=ey;have hj:i.toNat<L.length:=(by omega)
 obtain⟨bx,rfl,gK,y4,rfl⟩:=ev.pos w4;have zo:=aQ _ (getElem_mem hj);obtain⟨o,ho⟩:∃o,o=L[i.toNat]:=⟨_,rfl⟩
 rw[<-ho] at zo h5 er zH oW hh |-;rcases o with ⟨p,ak,ck,sk,ai,ci,si⟩
 obtain⟨cl,lg⟩:oO p.keys ak ck sk/\nP p.kids ai ci si:=zo;change p.keys.length=5 at h5;change p.leaf=true->p.kids.length=5 at er;change p.leaf=false->p.kids.length=6 at zH;change ∀k∈p.keys,k.length<=100 at oW;change p.high.length<=100 at hh;have MH:(L.flatMap bO).Perm (sk++(si++((L.eraseIdx i.toNat).flatMap bO))):=(by have:=Ap bO hj;rw[<-ho] at this;exact this.trans XV)
 refine qs (Perm.cons _ (Perm.cons _ MH)) ?_;have vF:iy p=p.keys[2]'w4:=AA h5;have hul:(p.keys[2]'w4).length<=100:=oW _ (getElem_mem _);refine aA [0,1] ?_;refine az 5 ?_;refine bQ (ei 5 (h:=XB)) ?_;refine bQ (dN (mk:=Op.load 129) rfl ot (dO (k:=1) (ls:=L) (i:=i.toNat) ju rfl rfl rfl isAgg129 sizeOf129 hj)) ?_;refine dF (ds:=[_,_,_,_,_]) av rfl rfl zeroValue129 rfl (fun b6=>?_);refine aR 0 [_,_,_,_,_] sizeOf129 ?_;refine aq 98 [0,1,6] ?_;refine cQ ?_;refine kS (Wk.cover (A:=⟨b6,129,5,gO L[i.toNat]⟩) (R:=⟨b,66,2,[aN (some ⟨bx,0,none⟩) L.length cap,ae root]⟩::⟨bx,129,cap*5,flatMap gO L⟩::((L.eraseIdx i.toNat).flatMap bO)) (Sd:=sk++si) (cs':=cP p) (Perm.cons _ (Perm.cons _ (Perm.cons _ (by rw[<-append_assoc];exact perm_append_comm)))) (by show hU _ (gO L[i.toNat]) _;rw[<-ho];exact⟨fq,mX cl (cz gF _) (fun B hB=>mem_append_left _ hB),mX lg (cz eS _) (fun B hB=>mem_append_right _ hB),fq,fq,trivial⟩)) ?_;refine dV 7 ?_;refine dF (ds:=[_,_,_,_,_]) av rfl rfl zeroValue129 rfl (fun b7=>?_);refine aR 0 [_,_,_,_,_] sizeOf129 ?_;refine aq 98 [0,1,6,7] ?_;refine cN [0,1,6,7,8] ?_;refine aT 2 ?_ (h:=by exact(tV (mk:=Op.indexAddr 127) rfl ot cf (by first|exact we runUnderlying127 sizeOf86 (j:=2) rfl w4|exact wB runUnderlying127 sizeOf86 (j:=2) rfl w4)));refine bL ?_
 refine sG (fun aF=>∃(b7:Nat),∃(O:Option Addr),∃(U:Nat),∃(E:List ag),∃(Z:Option Addr),∃(iV:Nat),∃(I:List ag),∃(jJ:Option Addr),∃(fp:Nat),∃(jr:List ag),(oO (cy p).keys O U E)/\(nP (cy p).kids Z iV I)/\(nP (eA p L.length).kids jJ fp jr)/\aF=(⟨98,[(0,da b),(1,ae i),(6,da b6),(7,da b7),(8,.list 1 ((iy p).flatMap cB) (iy p).length)],(⟨b7,129,5,[bP p.leaf,aN O (cy p).keys.length U,aN Z (cy p).kids.length iV,an 1 cB p.high,ae p.next]⟩::⟨b6,129,5,[bP p.leaf,an 1 cK p.keys,aN jJ (eA p L.length).kids.length fp,an 1 cB p.high,ae p.next]⟩::⟨b,66,2,[aN (some ⟨bx,0,none⟩) L.length cap,ae root]⟩::⟨bx,129,cap*5,flatMap gO L⟩::(jr++(I++(E++((L.eraseIdx i.toNat).flatMap bO)))))⟩:St)) ?_ ?_
 ·refine ax [0,1,6,7,8,28] ?_ ?_<;>intro aM bG
  ·have gg:p.leaf=true:=aM;have er:=er gg;refine sG (fun aF=>∃(O:Option Addr),∃(U:Nat),∃(E:List ag),∃(Z:Option Addr),∃(iV:Nat),∃(I:List ag),(oO (cy p).keys O U E)/\(nP (cy p).kids Z iV I)/\aF=(⟨98,[(0,da b),(1,ae i),(6,da b6),(7,da b7),(8,.list 1 ((iy p).flatMap cB) (iy p).length)],(⟨b7,129,5,[bP p.leaf,aN O (cy p).keys.length U,aN Z (cy p).kids.length iV,an 1 cB p.high,ae p.next]⟩::⟨b6,129,5,[bP p.leaf,an 1 cK p.keys,an 1 cI p.kids,an 1 cB p.high,ae p.next]⟩::⟨b,66,2,[aN (some ⟨bx,0,none⟩) L.length cap,ae root]⟩::⟨bx,129,cap*5,flatMap gO L⟩::(I++(E++((L.eraseIdx i.toNat).flatMap bO))))⟩:St)) ?_ ?_
   ·refine iD 10 (aj (take 2 (drop 1 _))) ?_ (fun _ h=>(Sublist.map _ ((take_sublist _ _).trans (drop_sublist _ _))).subset h);refine aC 0 rfl (dU 1) ?_;refine aC 4 rfl (dU 2) ?_;refine dW.later rfl ?_;refine lK (i:=1) (j:=5) aB ?_ ?_
    ·refine at_ rfl (ec 1) ?_;refine dr 2 rfl (fb (l:=2) rfl ot ⟨_,cf⟩ trivial HY) ?_;refine lK (i:=3) (j:=5) aB ?_ ?_
     ·have CV:VC Tryz.prog G 117 [.list 1 ((p.keys.drop 2).flatMap cK) (p.keys.drop 2).length] [] (fun r S=>∃ad cap,r=aN ad (cy p).keys.length cap/\oO (cy p).keys ad cap S):=(by rw[show(p.keys.drop 2)=(cy p).keys from xp];exact xV _ Oo)
      refine ko rfl av rfl rfl rfl call117 CV ⟨ot,trivial⟩ (fx _) jb ?_;rintro _ EK ⟨EL,EM,rfl,Dw⟩;refine gq (kO (A:=[_,_,_,_])) ?_;refine dr 8 rfl (dU 1) ?_;refine bH (i:=5) aB ?_;refine at_ rfl (ec 1) ?_;refine dr 6 rfl (fb (l:=2) rfl ot ⟨_,cf⟩ trivial Bp) ?_;refine bH (i:=7) aB ?_;have CW:VC Tryz.prog G 108 [.list 1 ((p.kids.drop 2).flatMap cI) (p.kids.drop 2).length] [] (fun r S=>∃ad cap,r=aN ad (cy p).kids.length cap/\nP (cy p).kids ad cap S):=(by rw[show(p.kids.drop 2)=(cy p).kids from xo];exact sy _ Om)
      refine ko rfl av rfl rfl rfl call108 CW ⟨ot,trivial⟩ (fx _) jb ?_;rintro _ EN ⟨EO,EP,rfl,Dx⟩;refine gq (kO (A:=[_,_,_,_])) ?_;refine bH (i:=9) aB ?_;refine ek 0 [_,_,_,_,_] sizeOf127 ?_;refine fD ?_;refine aG 1 ?_;refine aR 0 [_,_,_,_,_] sizeOf61 ?_;refine aq 98 [0,1,6,7,8] ?_;refine⟨_,(aI (h:=w6)),EL,EM,EK,EO,EP,EN,Dw,Dx,rfl⟩
     refine at_ rfl (ec 1) ?_;refine dr 6 rfl (fb (l:=2) rfl ot ⟨_,cf⟩ trivial Bp) ?_;refine bH (i:=3) aB ?_;have CV:VC Tryz.prog G 117 [.list 1 ((p.keys.drop 2).flatMap cK) (p.keys.drop 2).length] [] (fun r S=>∃ad cap,r=aN ad (cy p).keys.length cap/\oO (cy p).keys ad cap S):=(by rw[show(p.keys.drop 2)=(cy p).keys from xp];exact xV _ Oo)
     refine ko rfl av rfl rfl rfl call117 CV ⟨ot,trivial⟩ (fx _) jb ?_;rintro _ EK ⟨EL,EM,rfl,Dw⟩;refine gq (kO (A:=[_,_,_,_])) ?_;refine dr 8 rfl (dU 1) ?_;refine bH (i:=7) aB ?_;have CW:VC Tryz.prog G 108 [.list 1 ((p.kids.drop 2).flatMap cI) (p.kids.drop 2).length] [] (fun r S=>∃ad cap,r=aN ad (cy p).kids.length cap/\nP (cy p).kids ad cap S):=(by rw[show(p.kids.drop 2)=(cy p).kids from xo];exact sy _ Om)
     refine ko rfl av rfl rfl rfl call108 CW ⟨ot,trivial⟩ (fx _) jb ?_;rintro _ EN ⟨EO,EP,rfl,Dx⟩;refine gq (kO (A:=[_,_,_,_])) ?_;refine bH (i:=9) aB ?_;refine ek 0 [_,_,_,_,_] sizeOf127 ?_;refine fD ?_;refine aG 1 ?_;refine aR 0 [_,_,_,_,_] sizeOf61 ?_;refine aq 98 [0,1,6,7,8] ?_;refine⟨_,(aI (h:=w6)),EL,EM,EK,EO,EP,EN,Dw,Dx,rfl⟩
    refine at_ rfl (ec 1) ?_;refine dr 6 rfl (fb (l:=2) rfl ot ⟨_,cf⟩ trivial Bp) ?_;refine bH (i:=1) aB ?_;refine at_ rfl (ec 1) ?_;refine dr 2 rfl (fb (l:=2) rfl ot ⟨_,cf⟩ trivial HY) ?_;refine bH (i:=3) aB ?_;have CV:VC Tryz.prog G 117 [.list 1 ((p.keys.drop 2).flatMap cK) (p.keys.drop 2).length] [] (fun r S=>∃ad cap,r=aN ad (cy p).keys.length cap/\oO (cy p).keys ad cap S):=(by rw[show(p.keys.drop 2)=(cy p).keys from xp];exact xV _ Oo)
    refine ko rfl av rfl rfl rfl call117 CV ⟨ot,trivial⟩ (fx _) jb ?_;rintro _ EK ⟨EL,EM,rfl,Dw⟩;refine gq (kO (A:=[_,_,_,_])) ?_;refine dr 8 rfl (dU 1) ?_;refine bH (i:=7) aB ?_;have CW:VC Tryz.prog G 108 [.list 1 ((p.kids.drop 2).flatMap cI) (p.kids.drop 2).length] [] (fun r S=>∃ad cap,r=aN ad (cy p).kids.length cap/\nP (cy p).kids ad cap S):=(by rw[show(p.kids.drop 2)=(cy p).kids from xo];exact sy _ Om)
    refine ko rfl av rfl rfl rfl call108 CW ⟨ot,trivial⟩ (fx _) jb ?_;rintro _ EN ⟨EO,EP,rfl,Dx⟩;refine gq (kO (A:=[_,_,_,_])) ?_;refine bH (i:=9) aB ?_;refine ek 0 [_,_,_,_,_] sizeOf127 ?_;refine fD ?_;refine aG 1 ?_;refine aR 0 [_,_,_,_,_] sizeOf61 ?_;refine aq 98 [0,1,6,7,8] ?_;refine⟨_,(aI (h:=w6)),EL,EM,EK,EO,EP,EN,Dw,Dx,rfl⟩
   rintro _ ⟨O,U,E,Z,iV,I,rL,Dy,rfl⟩;refine dV 2 ?_;refine bQ (fb (l:=0) (h:=2) rfl ot trivial ⟨_,cf⟩ Zl) ?_;have alp:VC Tryz.prog G 108 [.list 1 ((p.kids.take 2).flatMap cI) (p.kids.take 2).length] [] (fun r S=>∃ad cap,r=aN ad (eA p L.length).kids.length cap/\nP (eA p L.length).kids ad cap S):=(by rw[show(p.kids.take 2)=(eA p L.length).kids from H7];exact sy _ (by rw[<-show(p.kids.take 2)=(eA p L.length).kids from H7];simp only[length_take,length_drop];omega))
   refine fg av rfl rfl rfl call108 alp ⟨ot,trivial⟩ (fx _) ?_;rintro _ S42 ⟨a42,c42,rfl,an7⟩;refine bZ (kO (A:=[_,_,_,_])) ?_;refine aG 1 ?_;refine aR 1 [_,_,_,_,_] sizeOf61 ?_;refine aq 98 [0,1,6,7,8] ?_;refine⟨_,(aI (h:=w6)),b7,O,U,E,Z,iV,I,a42,c42,S42,rL,Dy,an7,rfl⟩
  have gg:p.leaf=false:=aM;have zH:=zH gg;refine sG (fun aF=>∃(O:Option Addr),∃(U:Nat),∃(E:List ag),∃(Z:Option Addr),∃(iV:Nat),∃(I:List ag),(oO (cy p).keys O U E)/\(nP (cy p).kids Z iV I)/\aF=(⟨98,[(0,da b),(1,ae i),(6,da b6),(7,da b7),(8,.list 1 ((iy p).flatMap cB) (iy p).length)],(⟨b7,129,5,[bP p.leaf,aN O (cy p).keys.length U,aN Z (cy p).kids.length iV,an 1 cB p.high,ae p.next]⟩::⟨b6,129,5,[bP p.leaf,an 1 cK p.keys,an 1 cI p.kids,an 1 cB p.high,ae p.next]⟩::⟨b,66,2,[aN (some ⟨bx,0,none⟩) L.length cap,ae root]⟩::⟨bx,129,cap*5,flatMap gO L⟩::(I++(E++((L.eraseIdx i.toNat).flatMap bO))))⟩:St)) ?_ ?_
  ·refine iD 10 (aj (take 2 (drop 1 _))) ?_ (fun _ h=>(Sublist.map _ ((take_sublist _ _).trans (drop_sublist _ _))).subset h);refine aC 0 rfl (dU 1) ?_;refine aC 4 rfl (dU 2) ?_;refine dW.later rfl ?_;refine lK (i:=1) (j:=5) aB ?_ ?_
   ·refine at_ rfl (ec 1) ?_;refine dr 2 rfl (fb (l:=3) rfl ot ⟨_,cf⟩ trivial HY) ?_;refine lK (i:=3) (j:=5) aB ?_ ?_
    ·have CX:VC Tryz.prog G 117 [.list 1 ((p.keys.drop 3).flatMap cK) (p.keys.drop 3).length] [] (fun r S=>∃ad cap,r=aN ad (cy p).keys.length cap/\oO (cy p).keys ad cap S):=(by rw[show(p.keys.drop 3)=(cy p).keys from xp];exact xV _ On)
     refine ko rfl av rfl rfl rfl call117 CX ⟨ot,trivial⟩ (fx _) jb ?_;rintro _ EQ ⟨ER,ES,rfl,Dz⟩;refine gq (kO (A:=[_,_,_,_])) ?_;refine dr 8 rfl (dU 1) ?_;refine bH (i:=5) aB ?_;refine at_ rfl (ec 1) ?_;refine dr 6 rfl (fb (l:=3) rfl ot ⟨_,cf⟩ trivial Bp) ?_;refine bH (i:=7) aB ?_;have CY:VC Tryz.prog G 108 [.list 1 ((p.kids.drop 3).flatMap cI) (p.kids.drop 3).length] [] (fun r S=>∃ad cap,r=aN ad (cy p).kids.length cap/\nP (cy p).kids ad cap S):=(by rw[show(p.kids.drop 3)=(cy p).kids from xo];exact sy _ Ol)
     refine ko rfl av rfl rfl rfl call108 CY ⟨ot,trivial⟩ (fx _) jb ?_;rintro _ ET ⟨a51,EU,rfl,DA⟩;refine gq (kO (A:=[_,_,_,_])) ?_;refine bH (i:=9) aB ?_;refine ek 0 [_,_,_,_,_] sizeOf127 ?_;refine fD ?_;refine aG 1 ?_;refine aR 0 [_,_,_,_,_] sizeOf61 ?_;refine aq 98 [0,1,6,7,8] ?_;refine⟨_,(aI (h:=w6)),ER,ES,EQ,a51,EU,ET,Dz,DA,rfl⟩
    refine at_ rfl (ec 1) ?_;refine dr 6 rfl (fb (l:=3) rfl ot ⟨_,cf⟩ trivial Bp) ?_;refine bH (i:=3) aB ?_;have CX:VC Tryz.prog G 117 [.list 1 ((p.keys.drop 3).flatMap cK) (p.keys.drop 3).length] [] (fun r S=>∃ad cap,r=aN ad (cy p).keys.length cap/\oO (cy p).keys ad cap S):=(by rw[show(p.keys.drop 3)=(cy p).keys from xp];exact xV _ On)
    refine ko rfl av rfl rfl rfl call117 CX ⟨ot,trivial⟩ (fx _) jb ?_;rintro _ EQ ⟨ER,ES,rfl,Dz⟩;refine gq (kO (A:=[_,_,_,_])) ?_;refine dr 8 rfl (dU 1) ?_;refine bH (i:=7) aB ?_;have CY:VC Tryz.prog G 108 [.list 1 ((p.kids.drop 3).flatMap cI) (p.kids.drop 3).length] [] (fun r S=>∃ad cap,r=aN ad (cy p).kids.length cap/\nP (cy p).kids ad cap S):=(by rw[show(p.kids.drop 3)=(cy p).kids from xo];exact sy _ Ol)
    refine ko rfl av rfl rfl rfl call108 CY ⟨ot,trivial⟩ (fx _) jb ?_;rintro _ ET ⟨a51,EU,rfl,DA⟩;refine gq (kO (A:=[_,_,_,_])) ?_;refine bH (i:=9) aB ?_;refine ek 0 [_,_,_,_,_] sizeOf127 ?_;refine fD ?_;refine aG 1 ?_;refine aR 0 [_,_,_,_,_] sizeOf61 ?_;refine aq 98 [0,1,6,7,8] ?_;refine⟨_,(aI (h:=w6)),ER,ES,EQ,a51,EU,ET,Dz,DA,rfl⟩
   refine at_ rfl (ec 1) ?_;refine dr 6 rfl (fb (l:=3) rfl ot ⟨_,cf⟩ trivial Bp) ?_;refine bH (i:=1) aB ?_;refine at_ rfl (ec 1) ?_;refine dr 2 rfl (fb (l:=3) rfl ot ⟨_,cf⟩ trivial HY) ?_;refine bH (i:=3) aB ?_;have CX:VC Tryz.prog G 117 [.list 1 ((p.keys.drop 3).flatMap cK) (p.keys.drop 3).length] [] (fun r S=>∃ad cap,r=aN ad (cy p).keys.length cap/\oO (cy p).keys ad cap S):=(by rw[show(p.keys.drop 3)=(cy p).keys from xp];exact xV _ On)
   refine ko rfl av rfl rfl rfl call117 CX ⟨ot,trivial⟩ (fx _) jb ?_;rintro _ EQ ⟨ER,ES,rfl,Dz⟩;refine gq (kO (A:=[_,_,_,_])) ?_;refine dr 8 rfl (dU 1) ?_;refine bH (i:=7) aB ?_;have CY:VC Tryz.prog G 108 [.list 1 ((p.kids.drop 3).flatMap cI) (p.kids.drop 3).length] [] (fun r S=>∃ad cap,r=aN ad (cy p).kids.length cap/\nP (cy p).kids ad cap S):=(by rw[show(p.kids.drop 3)=(cy p).kids from xo];exact sy _ Ol)
   refine ko rfl av rfl rfl rfl call108 CY ⟨ot,trivial⟩ (fx _) jb ?_;rintro _ ET ⟨a51,EU,rfl,DA⟩;refine gq (kO (A:=[_,_,_,_])) ?_;refine bH (i:=9) aB ?_;refine ek 0 [_,_,_,_,_] sizeOf127 ?_;refine fD ?_;refine aG 1 ?_;refine aR 0 [_,_,_,_,_] sizeOf61 ?_;refine aq 98 [0,1,6,7,8] ?_;refine⟨_,(aI (h:=w6)),ER,ES,EQ,a51,EU,ET,Dz,DA,rfl⟩
  rintro _ ⟨O,U,E,Z,iV,I,rL,Dy,rfl⟩;refine dV 2 ?_;refine bQ (fb (l:=0) (h:=3) rfl ot trivial ⟨_,cf⟩ Zl) ?_;have alq:VC Tryz.prog G 108 [.list 1 ((p.kids.take 3).flatMap cI) (p.kids.take 3).length] [] (fun r S=>∃ad cap,r=aN ad (eA p L.length).kids.length cap/\nP (eA p L.length).kids ad cap S):=(by rw[show(p.kids.take 3)=(eA p L.length).kids from H7];exact sy _ (by rw[<-show(p.kids.take 3)=(eA p L.length).kids from H7];simp only[length_take,length_drop];omega))
  refine fg av rfl rfl rfl call108 alq ⟨ot,trivial⟩ (fx _) ?_;rintro _ IQ ⟨a57,c57,rfl,HF⟩;refine bZ (kO (A:=[_,_,_,_])) ?_;refine aG 1 ?_;refine aR 1 [_,_,_,_,_] sizeOf61 ?_;refine aq 98 [0,1,6,7,8] ?_;refine⟨_,(aI (h:=w6)),b7,O,U,E,Z,iV,I,a57,c57,IQ,rL,Dy,HF,rfl⟩
 rintro _ ⟨b7,O,U,E,Z,iV,I,jJ,fp,jr,rL,Dy,an8,rfl⟩;refine az 2 ?_;refine bQ (fb (l:=0) (h:=2) rfl ot trivial ⟨_,cf⟩ (by first|exact pT gF (fun h=>by cases h) runUnderlying127 sizeOf86 w4|exact pT eS (fun h=>by cases h) runUnderlying127 sizeOf86 w4|exact pU (fun h=>by cases h) runUnderlying127 sizeOf86 w4|exact ph (fun _=>rfl) (fun h=>by cases h) runUnderlying127 sizeOf86 w4 w4)) ?_;have alr:VC Tryz.prog G 117 [.list 1 ((p.keys.take 2).flatMap cK) (p.keys.take 2).length] [] (fun r S=>∃ad cap,r=aN ad (eA p L.length).keys.length cap/\oO (eA p L.length).keys ad cap S):=(by rw[show(p.keys.take 2)=(eA p L.length).keys from rfl];exact xV _ (by rw[<-show(p.keys.take 2)=(eA p L.length).keys from rfl];simp only[length_take,length_drop];omega))
 refine fg av rfl rfl rfl call117 alr ⟨ot,trivial⟩ (fx _) ?_;rintro _ jU ⟨kg,kj,rfl,an9⟩;refine bZ (kO (A:=[_,_,_,_])) ?_;refine aG 1 ?_;refine aR 1 [_,_,_,_,_] sizeOf127 ?_;refine aq 98 [0,1,6,7,8] ?_;refine sG (fun aF=>(True)/\aF=(⟨98,[(0,da b),(1,ae i),(6,da b6),(7,da b7),(8,.list 1 ((iy p).flatMap cB) (iy p).length)],(⟨b7,129,5,[bP p.leaf,aN O (cy p).keys.length U,aN Z (cy p).kids.length iV,an 1 cB p.high,ae p.next]⟩::⟨b6,129,5,[bP p.leaf,aN kg (eA p L.length).keys.length kj,aN jJ (eA p L.length).kids.length fp,.list 1 ((iy p).flatMap cB) (iy p).length,ae (L.length:Nat)]⟩::⟨b,66,2,[aN (some ⟨bx,0,none⟩) L.length cap,ae root]⟩::⟨bx,129,cap*5,flatMap gO L⟩::(jU++(jr++(I++(E++((L.eraseIdx i.toNat).flatMap bO))))))⟩:St)) ?_ ?_
 ·refine iD 9 (aj (take 1 (drop 0 _))) ?_ (fun _ h=>(Sublist.map _ ((take_sublist _ _).trans (drop_sublist _ _))).subset h);refine aC 0 rfl bJ ?_;refine aC 2 rfl bJ ?_;refine aC 3 rfl qN ?_;refine aC 4 rfl (dU 0) ?_;refine dW.later rfl ?_;refine lK (i:=1) (j:=5) aB ?_ ?_
  ·refine qR call70 (mW (iy p) (by rw[vF];omega)) ?_;refine dr 7 rfl (dU 3) ?_;refine lK (i:=5) (j:=8) aB ?_ ?_
   ·refine at_ rfl (ec 2) ?_;refine dr 6 rfl zf ?_;refine bH (i:=8) aB ?_;refine ek 1 [_,_,_,_,_] sizeOf86 ?_;refine fD ?_;refine aG 1 ?_;refine aR 1 [_,_,_,_,_] sizeOf3 ?_;refine aq 98 [0,1,6,7,8] ?_;refine⟨_,(aI (h:=w6)),trivial,rfl⟩
   refine ek 1 [_,_,_,_,_] sizeOf86 ?_;refine bH (i:=5) aB ?_;refine at_ rfl (ec 2) ?_;refine dr 6 rfl zf ?_;refine fD ?_;refine aG 1 ?_;refine aR 1 [_,_,_,_,_] sizeOf3 ?_;refine aq 98 [0,1,6,7,8] ?_;refine⟨_,(aI (h:=w6)),trivial,rfl⟩
  refine at_ rfl (ec 2) ?_;refine dr 6 rfl zf ?_;refine bH (i:=1) aB ?_;refine qR call70 (mW (iy p) (by rw[vF];omega)) ?_;refine dr 7 rfl (dU 3) ?_;refine bH (i:=8) aB ?_;refine ek 1 [_,_,_,_,_] sizeOf86 ?_;refine fD ?_;refine aG 1 ?_;refine aR 1 [_,_,_,_,_] sizeOf3 ?_;refine aq 98 [0,1,6,7,8] ?_;refine⟨_,(aI (h:=w6)),trivial,rfl⟩
 rintro _ ⟨_,rfl⟩;refine cQ ?_;refine oC 6 [0,7,8,76,77,78] ?_;refine bL ?_;refine bQ (ei 5 (h:=XB)) ?_;refine oe (k:=3) (cs':=flatMap gO (L.set i.toNat (⟨eA p L.length,kg,kj,jU,jJ,fp,jr⟩:aZ))) av rfl rfl ot rfl rfl ot rfl rfl sizeOf129 rfl (by show 0+i.toNat*5+5<=(flatMap gO L).length;rw[cz ju];omega) (by show dx (L.flatMap gO) (0+i.toNat*5) (gO (⟨eA p L.length,kg,kj,jU,jJ,fp,jr⟩:aZ))=_;rw[Nat.zero_add];exact qt ju L (⟨eA p L.length,kg,kj,jU,jJ,fp,jr⟩:aZ) hj) ?_;refine aq 98 [0,7,8] ?_
 refine sG (fun aF=>∃(qj:Nat),∃(pE:Nat),(((L.set i.toNat (⟨eA p L.length,kg,kj,jU,jJ,fp,jr⟩:aZ))++[(⟨cy p,O,U,E,Z,iV,I⟩:aZ)]).length<=pE)/\(pE<=maxLen)/\aF=(⟨98,[(0,da b),(8,.list 1 ((iy p).flatMap cB) (iy p).length)],(⟨qj,129,pE*5,flatMap gO ((L.set i.toNat (⟨eA p L.length,kg,kj,jU,jJ,fp,jr⟩:aZ))++[(⟨cy p,O,U,E,Z,iV,I⟩:aZ)])⟩::⟨b7,129,5,[bP p.leaf,aN O (cy p).keys.length U,aN Z (cy p).kids.length iV,an 1 cB p.high,ae p.next]⟩::⟨b6,129,5,[bP p.leaf,aN kg (eA p L.length).keys.length kj,aN jJ (eA p L.length).kids.length fp,.list 1 ((iy p).flatMap cB) (iy p).length,ae (L.length:Nat)]⟩::⟨b,66,2,[aN (some ⟨qj,0,none⟩) ((L.set i.toNat (⟨eA p L.length,kg,kj,jU,jJ,fp,jr⟩:aZ))++[(⟨cy p,O,U,E,Z,iV,I⟩:aZ)]).length pE,ae root]⟩::(jU++(jr++(I++(E++((L.eraseIdx i.toNat).flatMap bO))))))⟩:St)) ?_ ?_
 ·refine iD 8 (aj (take 2 _)) ?_ (fun _ h=>(Sublist.map _ (take_sublist _ _)).subset h);refine aC 0 rfl bJ ?_;refine aC 1 rfl bJ ?_;refine aC 2 rfl qN ?_;refine aC 3 rfl (dU 0) ?_;refine aC 5 rfl (M6 0 [_,_,_,_,_]) ?_;refine dW.later rfl ?_;refine lK (i:=4) (j:=6) aB ?_ ?_
  ·refine at_ rfl (dN (mk:=Op.load 64) rfl ot (Av (k:=2) (d:=aN (some ⟨bx,0,none⟩) (L.set i.toNat (⟨eA p L.length,kg,kj,jU,jJ,fp,jr⟩:aZ)).length cap) rfl rfl isAgg64 (by rw[length_set];rfl))) ?_;refine bH (i:=6) aB ?_;refine oE (cx 0 [_]) [.bool false,.slice none 0 0,.slice none 0 0,.slice none 0 0,.int .i64 0] [_,_,_,_,_] zeroValue129 runUnderlying64 sizeOf129 (fun b86=>?_);refine oF 0 86 5 1 ?_;refine bH (i:=7) aB ?_;refine qk (ls:=(L.set i.toNat (⟨eA p L.length,kg,kj,jU,jJ,fp,jr⟩:aZ))) (new:=[(⟨cy p,O,U,E,Z,iV,I⟩:aZ)]) (Sq:=[⟨bx,129,cap*5,flatMap gO (L.set i.toNat (⟨eA p L.length,kg,kj,jU,jJ,fp,jr⟩:aZ))⟩]) ju Gy rfl av rfl rfl underlying64 QS rfl w8 ot (bN yZ y4) (nB (k:=3) rfl) ot bp XW (by simp only[length_set,length_cons,length_nil] at *;omega) (hT:=Xx) (fun qj pE DB DC=>?_);refine fD ?_;refine aG 2 ?_;refine aR 3 [_,_] sizeOf64 ?_;refine aq 98 [0,8] ?_;refine⟨_,(aI (h:=w6)),qj,pE,DB,DC,rfl⟩
  refine oE (cx 0 [_]) [.bool false,.slice none 0 0,.slice none 0 0,.slice none 0 0,.int .i64 0] [_,_,_,_,_] zeroValue129 runUnderlying64 sizeOf129 (fun b86=>?_);refine oF 0 86 5 1 ?_;refine bH (i:=4) aB ?_;refine at_ rfl (dN (mk:=Op.load 64) rfl ot (Av (k:=2) (d:=aN (some ⟨bx,0,none⟩) (L.set i.toNat (⟨eA p L.length,kg,kj,jU,jJ,fp,jr⟩:aZ)).length cap) rfl rfl isAgg64 (by rw[length_set];rfl))) ?_;refine bH (i:=7) aB ?_;refine qk (ls:=(L.set i.toNat (⟨eA p L.length,kg,kj,jU,jJ,fp,jr⟩:aZ))) (new:=[(⟨cy p,O,U,E,Z,iV,I⟩:aZ)]) (Sq:=[⟨bx,129,cap*5,flatMap gO (L.set i.toNat (⟨eA p L.length,kg,kj,jU,jJ,fp,jr⟩:aZ))⟩]) ju Gy rfl av rfl rfl underlying64 QS rfl w8 ot (bN yZ y4) (nB (k:=3) rfl) ot bp XW (by simp only[length_set,length_cons,length_nil] at *;omega) (hT:=Xx) (fun qj pE DB DC=>?_);refine fD ?_;refine aG 2 ?_;refine aR 3 [_,_] sizeOf64 ?_;refine aq 98 [0,8] ?_;refine⟨_,(aI (h:=w6)),qj,pE,DB,DC,rfl⟩
 rintro _ ⟨qj,pE,DB,DC,rfl⟩;refine cQ ?_;refine iD 9 (aj _) ?_ (fun _ h=>h);refine aC 0 rfl bJ ?_;refine aC 2 rfl bJ ?_;refine aC 3 rfl qN ?_;refine aC 4 rfl (dU 0) ?_;refine aC 5 rfl (ec 3) ?_;refine aC 6 rfl zf ?_;refine aC 7 rfl (dX (r:=.int .i64 (L.length:Nat)) rfl ot cf (iL (by rw[length_append,length_set];exact(show IntKind.wrap .i64 (((L.length+[(⟨cy p,O,U,E,Z,iV,I⟩:aZ)].length:Nat):Int)-1)=_ from by rw[show(((L.length+[(⟨cy p,O,U,E,Z,iV,I⟩:aZ)].length:Nat):Int)-1)=(L.length:Int) from by simp];exact wrap_i64 w4 w4)))) ?_;refine dW.later rfl ?_;refine bH (i:=1) aB ?_;refine qR call70 (mW (iy p) (by rw[vF];omega)) ?_;have uG:(jU++(jr++(I++(E++((L.eraseIdx i.toNat).flatMap bO))))).Perm (((L.set i.toNat (⟨eA p L.length,kg,kj,jU,jJ,fp,jr⟩:aZ))++[(⟨cy p,O,U,E,Z,iV,I⟩:aZ)]).flatMap bO):=j9 fun nl=>by have hq:=afC (zW bO hj (⟨eA p L.length,kg,kj,jU,jJ,fp,jr⟩:aZ)) nl;rw[flatMap_append,show[(⟨cy p,O,U,E,Z,iV,I⟩:aZ)].flatMap bO=E++(I++[]) from by simp[bO]];simp only[show bO (⟨eA p L.length,kg,kj,jU,jJ,fp,jr⟩:aZ)=jU++jr from rfl,map_append,map_cons,map_nil,sum_append,sum_cons,sum_nil] at *;omega
 refine gq (S':=⟨b7,129,5,gO (⟨cy p,O,U,E,Z,iV,I⟩:aZ)⟩::⟨b6,129,5,gO (⟨eA p L.length,kg,kj,jU,jJ,fp,jr⟩:aZ)⟩::⟨b,66,2,[aN (some ⟨qj,0,none⟩) ((L.set i.toNat (⟨eA p L.length,kg,kj,jU,jJ,fp,jr⟩:aZ))++[(⟨cy p,O,U,E,Z,iV,I⟩:aZ)]).length pE,ae root]⟩::(([⟨qj,129,pE*5,flatMap gO ((L.set i.toNat (⟨eA p L.length,kg,kj,jU,jJ,fp,jr⟩:aZ))++[(⟨cy p,O,U,E,Z,iV,I⟩:aZ)])⟩]:List ag)++((L.set i.toNat (⟨eA p L.length,kg,kj,jU,jJ,fp,jr⟩:aZ))++[(⟨cy p,O,U,E,Z,iV,I⟩:aZ)]).flatMap bO)) (by exact(perm_middle (l₁:=[_,_,_])).symm.trans (Perm.cons _ (Perm.cons _ (Perm.cons _ (Perm.cons _ uG))))) ?_;refine dr 8 rfl bJ ?_;refine fD ?_;refine bA [4,5] ?_;refine eu (⟨b,66,2,[aN (some ⟨qj,0,none⟩) ((L.set i.toNat (⟨eA p L.length,kg,kj,jU,jJ,fp,jr⟩:aZ))++[(⟨cy p,O,U,E,Z,iV,I⟩:aZ)]).length pE,ae root]⟩::([⟨qj,129,pE*5,flatMap gO ((L.set i.toNat (⟨eA p L.length,kg,kj,jU,jJ,fp,jr⟩:aZ))++[(⟨cy p,O,U,E,Z,iV,I⟩:aZ)])⟩]++((L.set i.toNat (⟨eA p L.length,kg,kj,jU,jJ,fp,jr⟩:aZ))++[(⟨cy p,O,U,E,Z,iV,I⟩:aZ)]).flatMap bO)) ?_
 refine⟨rfl,((L.set i.toNat (⟨eA p L.length,kg,kj,jU,jJ,fp,jr⟩:aZ))++[(⟨cy p,O,U,E,Z,iV,I⟩:aZ)]),some ⟨qj,0,none⟩,pE,[⟨qj,129,pE*5,flatMap gO ((L.set i.toNat (⟨eA p L.length,kg,kj,jU,jJ,fp,jr⟩:aZ))++[(⟨cy p,O,U,E,Z,iV,I⟩:aZ)])⟩],bN DB DC,fun x hx=>?_,?_,rfl⟩
 ·rcases mem_append.1 hx with hx|hx
  ·rcases mem_or_eq_of_mem_set hx with hx|rfl
   ·exact aQ x hx
   exact⟨an9,an8⟩
  rw[mem_singleton] at hx;subst hx;exact⟨rL,Dy⟩
 rw[map_append,map_set];rfl
def iP(q:List α)(i:Nat)(a:α):List α:=q.take i++a::q.drop i
theorem Af{q:List α}{a:α}(hi:i<=q.length):(iP q i a).length=q.length+1:=by unfold iP;rw[length_append,length_take,length_cons,length_drop];omega
theorem Ud{q:List α}{a:α}:iP q q.length a=q++[a]:=by unfold iP;rw[take_length,drop_length]
theorem FD{g:α->List D}(hg:∀a,(g a).length=1){q:List α}{a:α}:(iP q i a).flatMap g=(q.flatMap g).take i++(g a++(q.flatMap g).drop i):=by
 have h1:=vl hg q i;have h2:=wm hg q i;rw[Nat.mul_one] at h1 h2;unfold iP;rw[flatMap_append,flatMap_cons,h1,h2]
theorem Fm{A ds:List D}{off:Nat}(hA:A.length=off)(hl:ds.length<=J.length):dx (A++J) off ds=A++(ds++J.drop ds.length):=by
 rw[xR _ _ _ xw,take_left' hA,append_assoc,<-drop_drop,drop_left' hA]
theorem Ue{T R c:List D}(hT:T.length=i)(hc:c.length=1)(E:R.length+1<=J.length):T++(c++R) <+: dx (dx (T++J) i c) (i+1) R:=by
 rw[Fm hT w4,show T++(c++J.drop c.length)=(T++c)++J.drop c.length from(append_assoc _ _ _).symm,Fm (A:=T++c) xw (by rw[length_drop];omega)];exact⟨_,by simp only[append_assoc];rfl⟩
theorem VE{T R c:List D}(hT:T.length=i)(hc:c.length=1)(O:1<=J.length):T++(c++R) <+: dx (dx ((T++R)++J) (i+1) R) i c:=by
 obtain⟨E,I,hX,h1⟩:∃E I,R++J=E++I/\E.length=1:=⟨(R++J).take 1,(R++J).drop 1,(take_append_drop 1 _).symm,by rw[length_take,length_append];omega⟩
 have h2:R.length<=I.length:=(by have:=congrArg length hX;rw[length_append,length_append] at this;omega)
 have e1:(T++R)++J=(T++E)++I:=(by rw[append_assoc,hX,<-append_assoc])
 have e2:(T++E)++(R++I.drop R.length)=T++(E++(R++I.drop R.length)):=append_assoc _ _ _;rw[e1,Fm (A:=T++E) xw h2,e2,Fm hT xw,drop_left' w4];exact⟨I.drop R.length,by simp only[append_assoc]⟩
theorem ru(n:Nat)(x:α):(replicate n x).length=n:=length_replicate
theorem E9:(Tryz.prog.info? 86).map (fun i=>i.size)=some 1:=by kernel_rfl
theorem JE:(Tryz.prog.info? 86).map (fun i=>(i.zero,i.size,i.bytes))=some (some (.slice none 0 0),1,24):=by kernel_rfl
theorem ade(q:List K)(i:Nat)(a:K)(cap b bv:Nat)(hi:i<=q.length)(hc:q.length<=cap)(hm:cap<=maxLen)(hs:q.length<=1000):VC Tryz.prog G 72 [aN (some ⟨b,0,none⟩) q.length cap,ae (i:Nat),aN (some ⟨bv,0,none⟩) 1 1] [⟨bv,86,1*1,cK a⟩,⟨b,86,cap*1,q.flatMap cK⟩] (fun r S=>∃ad aO,r=aN ad (q.length+1) aO/\bq 86 1 ((iP q i a).flatMap cK) (iP q i a).length ad aO S):=by
 refine bn func72 rfl ntmps72 aP fun X0 w0 bj=>?_;refine aA [0,1,2] ?_;refine az 2 ?_;refine bQ (fb (l:=i) rfl ot ⟨_,ot⟩ trivial xq) ?_;refine aq 95 [0,1,2] ?_;refine aA [0,1,2,7] ?_;refine ax [0,1,2,7,16] ?_ ?_<;>intro aM bG
 ·exact absurd aM (by simp at *)
 refine aA [0,1,2,7,8] ?_;refine ax [0,1,2,7,8,22] ?_ ?_<;>intro bf cD
 ·obtain rfl:i=q.length:=(by simp at *;omega)
  refine az 2 ?_;refine gh 0 24 1 1 ?_;refine fY (ls:=q) (new:=[a]) (Sq:=[⟨b,86,cap*1,q.flatMap cK⟩]) gF qw av rfl rfl underlying127 JE rfl w8 ot (bN hc hm) (dK (A:=[])) ot bp wP iI (fun zC DD NQ NR=>?_);refine bZ (ew (S1:=[⟨zC,86,DD*1,flatMap cK (q++[a])⟩]) (A:=[])) ?_;refine dY 95 [6] [⟨zC,86,DD*1,flatMap cK (q++[a])⟩] ?_;exact⟨_,_,by rw[length_append];rfl,by rw[Ud];exact bN NQ NR⟩
 have aa:i<q.length:=(by omega)
 have hQ:(q.flatMap cK).length=q.length:=(by rw[cz gF];omega)
 have Z:((q.flatMap cK).take i).length=i:=(by rw[length_take];omega)
 have U:((q.flatMap cK).drop i).length=q.length-i:=(by rw[length_drop];omega)
 have jh:∀d∈(q.flatMap cK),V.one d=true:=sH qw _;refine cN [0,1,2,7,8,31] ?_;refine aT 4 ?_ (h:=by exact(Fv rfl rfl ot runUnderlying127));refine bL ?_;refine cj ?_ ?_<;>intro cr cU
 ·have I:eY cap (i) 1 0=i:=(by unfold eY;rw[if_neg w4];omega)
  have tI:Nat.min (q.length-i) (q.length+1-(i+1))=q.length-i:=Nat.min_eq_left w4;refine az 2 ?_;refine bQ (fb (l:=0) (h:=i) rfl ot trivial ⟨_,ot⟩ Oe) ?_;refine aG 5 ?_;refine QZ (n:=i) (m:=q.length+1-i) (k:=1) av rfl rfl underlying127 underlying3 JE rfl ot rfl rfl (by show i<=(q.flatMap cK).length;omega) (Eq.trans ot (congrArg (fun z=>D.v (.int .i64 z)) (show((q.length:Int)+(1:Nat)-(i:Int))=((q.length+1-i:Nat):Int) by omega))) w4 w4 Hs w4 (fun Ii E DE NT=>?_);have pN:i+(q.length+1-i)=q.length+1:=(by omega)
  rw[pN] at DE |-;refine aq 95 [0,1,2,7,9] ?_;refine az 2 ?_;refine bQ (fb (l:=i) (h:=q.length+1) rfl ot ⟨_,ot⟩ trivial xq) ?_;have xE:eY E (i) 1 0=i:=(by unfold eY;rw[if_neg w4];omega)
  rw[xE];refine aG 1 ?_;have O:eY E (i+1) 1 0=i+1:=(by unfold eY;rw[if_neg w4];omega)
  refine fC (Wk.toEnd (k:=0) rfl) ?_;refine wv (k:=0) (k2:=1) (od:=i) (new:=cK a) (cs':=dx ((q.flatMap cK).take i++replicate (E*1-((q.flatMap cK).take i).length) D.bF) i (cK a)) av rfl rfl underlying127 E9 ot rfl rfl ot rfl rfl XF (Nat.min_eq_left (by omega:1<=q.length+1-i)).symm (fun d hd=>all_eq_true.1 (qw a) d hd) (by show i+1<=((q.flatMap cK).take i++replicate (E*1-((q.flatMap cK).take i).length) D.bF).length;rw[length_append,ru,Z];omega) rfl ?_;refine aq 95 [0,1,7,9] ?_;refine cQ ?_;refine oC 8 [9,50,53] ?_;refine aT 4 ?_ (h:=XU);refine aT 2 ?_ (h:=by exact(fb (l:=i) (h:=q.length) rfl ot ⟨_,ot⟩ trivial xq));refine jR ?_
  refine wv (k:=0) (k2:=2) (od:=eY E (i+1) 1 0) (oy:=eY cap i 1 0) (new:=(q.flatMap cK).drop i) (cs':=dx (dx ((q.flatMap cK).take i++replicate (E*1-((q.flatMap cK).take i).length) D.bF) i (cK a)) (i+1) ((q.flatMap cK).drop i)) av rfl rfl underlying127 E9 ot rfl rfl ot rfl rfl (by show take (Nat.min (q.length-i) (q.length+1-(i+1))) (drop (eY cap i 1 0) (q.flatMap cK))=_;rw[I,tI,take_of_length_le w4]) (by show _=Nat.min (q.length-i) (q.length+1-(i+1));rw[tI,U]) (fun d hd=>jh d (mem_of_mem_drop hd)) (by show eY E (i+1) 1 0+_<=(dx ((q.flatMap cK).take i++replicate (E*1-((q.flatMap cK).take i).length) D.bF) i (cK a)).length;rw[O,U,zO,length_append,ru,Z];omega) (by show dx (dx ((q.flatMap cK).take i++replicate (E*1-((q.flatMap cK).take i).length) D.bF) i (cK a)) (eY E (i+1) 1 0) _=_;rw[O]) ?_;refine aq 95 [9] ?_;refine az 1 ?_;refine zR (k:=0) (cs':=(iP q i a).flatMap cK) rfl (by rw[FD gF];exact Ue Z rfl (by rw[ru,U,Z];omega)) ?_;refine dY 95 [6] [⟨Ii,86,E*1,(iP q i a).flatMap cK⟩] ?_;exact⟨_,_,rfl,bN (by rw[Af hi];exact DE) NT⟩
 have I:eY cap (i) 1 0=i:=(by unfold eY;rw[if_neg w4];omega)
 have O:eY cap (i+1) 1 0=i+1:=(by unfold eY;rw[if_neg w4];omega)
 have tI:Nat.min (q.length+1-i) (q.length+1-(i+1))=q.length-i:=(by rw[show q.length+1-(i+1)=q.length-i from by omega];exact Nat.min_eq_right w4)
 refine cN [0,1,2,7,8] ?_;refine aT 4 ?_ (h:=by exact(fb (l:=0) (h:=q.length+1) rfl ot trivial ⟨_,ot⟩ Oe));refine bL ?_;refine az 5 ?_;refine bQ (fb (l:=i+1) (h:=q.length+1) rfl ot ⟨_,ot⟩ trivial xq) ?_;refine fC (Wk.toEnd (k:=1) rfl) ?_;refine QI (r:=4) (k:=0) (k2:=1) av rfl rfl func113 aB aB aB aB underlying127 sizeOf86 ot rfl rfl ot rfl rfl w8 (by show cap*1≠0;omega) ?_;refine aq 95 [0,1,2,7,8,68] ?_;refine cj ?_ ?_<;>intro de eG
 ·refine cQ ?_;refine oC 8 [0,1,2,73,76] ?_;refine aT 4 ?_ (h:=XU);refine aT 2 ?_ (h:=by exact(fb (l:=i) (h:=q.length+1) rfl ot ⟨_,ot⟩ trivial xq));refine jR ?_;refine wv (k:=1) (k2:=1) (od:=eY cap (i+1) 1 0) (oy:=eY cap i 1 0) (new:=(q.flatMap cK).drop i) (cs':=dx ((q.flatMap cK)++replicate (cap*1-(q.flatMap cK).length) D.bF) (i+1) ((q.flatMap cK).drop i)) av rfl rfl underlying127 E9 ot rfl rfl ot rfl rfl (by show take (Nat.min (q.length+1-i) (q.length+1-(i+1))) (drop (eY cap i 1 0) ((q.flatMap cK)++replicate (cap*1-(q.flatMap cK).length) D.bF))=_;rw[I,tI,drop_append_of_le_length w4,take_left' U]) (by show _=Nat.min (q.length+1-i) (q.length+1-(i+1));rw[tI,U]) (fun d hd=>jh d (mem_of_mem_drop hd)) (by show eY cap (i+1) 1 0+_<=((q.flatMap cK)++replicate (cap*1-(q.flatMap cK).length) D.bF).length;rw[O,U,length_append,ru,hQ];omega) (by show dx ((q.flatMap cK)++replicate (cap*1-(q.flatMap cK).length) D.bF) (eY cap (i+1) 1 0) _=_;rw[O]) ?_;refine aq 95 [0,1,2] ?_;refine az 2 ?_;refine bQ (fb (l:=i) (h:=q.length+1) rfl ot ⟨_,ot⟩ trivial xq) ?_;refine aG 1 ?_
  refine wv (k:=1) (k2:=0) (od:=eY cap i 1 0) (new:=cK a) (cs':=dx (dx ((q.flatMap cK)++replicate (cap*1-(q.flatMap cK).length) D.bF) (i+1) ((q.flatMap cK).drop i)) i (cK a)) av rfl rfl underlying127 E9 ot rfl rfl ot rfl rfl XF (Nat.min_eq_left (by omega:1<=q.length+1-i)).symm (fun d hd=>all_eq_true.1 (qw a) d hd) (by show eY cap i 1 0+1<=(dx ((q.flatMap cK)++replicate (cap*1-(q.flatMap cK).length) D.bF) (i+1) ((q.flatMap cK).drop i)).length;rw[I,zO,length_append,ru,hQ];omega) (by show dx (dx ((q.flatMap cK)++replicate (cap*1-(q.flatMap cK).length) D.bF) (i+1) ((q.flatMap cK).drop i)) (eY cap i 1 0) _=_;rw[I]) ?_;refine aq 95 [0] ?_;refine az 1 ?_;refine zR (k:=1) (cs':=(iP q i a).flatMap cK) rfl (by rw[FD gF];show _ <+: dx (dx ((q.flatMap cK)++_) (i+1) ((q.flatMap cK).drop i)) i (cK a);rw[show(q.flatMap cK)++replicate (cap*1-(q.flatMap cK).length) D.bF=((q.flatMap cK).take i++(q.flatMap cK).drop i)++replicate (cap*1-(q.flatMap cK).length) D.bF from by rw[take_append_drop]];exact VE Z rfl (by rw[ru,hQ];omega)) ?_;refine dY 95 [6] [⟨b,86,cap*1,(iP q i a).flatMap cK⟩] ?_;exact⟨_,_,rfl,bN (by rw[Af hi];omega) hm⟩
 exact absurd de (by simp at *)
theorem Fa:(Tryz.prog.info? 3).map (fun i=>i.size)=some 1:=by kernel_rfl
theorem J6:(Tryz.prog.info? 3).map (fun i=>(i.zero,i.size,i.bytes))=some (some (.int .i64 0),1,8):=by kernel_rfl
theorem adf(q:List Int)(i:Nat)(a:Int)(cap b bv:Nat)(hi:i<=q.length)(hc:q.length<=cap)(hm:cap<=maxLen)(hs:q.length<=1000):VC Tryz.prog G 73 [aN (some ⟨b,0,none⟩) q.length cap,ae (i:Nat),aN (some ⟨bv,0,none⟩) 1 1] [⟨bv,3,1*1,cI a⟩,⟨b,3,cap*1,q.flatMap cI⟩] (fun r S=>∃ad aO,r=aN ad (q.length+1) aO/\bq 3 1 ((iP q i a).flatMap cI) (iP q i a).length ad aO S):=by
 refine bn func73 rfl ntmps73 aP fun X0 w0 bj=>?_;refine aA [0,1,2] ?_;refine az 2 ?_;refine bQ (fb (l:=i) rfl ot ⟨_,ot⟩ trivial xu) ?_;refine aq 95 [0,1,2] ?_;refine aA [0,1,2,7] ?_;refine ax [0,1,2,7,16] ?_ ?_<;>intro aM bG
 ·exact absurd aM (by simp at *)
 refine aA [0,1,2,7,8] ?_;refine ax [0,1,2,7,8,22] ?_ ?_<;>intro bf cD
 ·obtain rfl:i=q.length:=(by simp at *;omega)
  refine az 2 ?_;refine gh 0 24 1 1 ?_;refine fY (ls:=q) (new:=[a]) (Sq:=[⟨b,3,cap*1,q.flatMap cI⟩]) eS oM av rfl rfl underlying61 J6 rfl w8 ot (bN hc hm) (dK (A:=[])) ot bp wP iI (fun zC DD NQ NR=>?_);refine bZ (ew (S1:=[⟨zC,3,DD*1,flatMap cI (q++[a])⟩]) (A:=[])) ?_;refine dY 95 [6] [⟨zC,3,DD*1,flatMap cI (q++[a])⟩] ?_;exact⟨_,_,by rw[length_append];rfl,by rw[Ud];exact bN NQ NR⟩
 have aa:i<q.length:=(by omega)
 have hQ:(q.flatMap cI).length=q.length:=(by rw[cz eS];omega)
 have Z:((q.flatMap cI).take i).length=i:=(by rw[length_take];omega)
 have U:((q.flatMap cI).drop i).length=q.length-i:=(by rw[length_drop];omega)
 have jh:∀d∈(q.flatMap cI),V.one d=true:=sH oM _;refine cN [0,1,2,7,8,31] ?_;refine aT 4 ?_ (h:=by exact(Fv rfl rfl ot runUnderlying61));refine bL ?_;refine cj ?_ ?_<;>intro cr cU
 ·have I:eY cap (i) 1 0=i:=(by unfold eY;rw[if_neg w4];omega)
  have tI:Nat.min (q.length-i) (q.length+1-(i+1))=q.length-i:=Nat.min_eq_left w4;refine az 2 ?_;refine bQ (fb (l:=0) (h:=i) rfl ot trivial ⟨_,ot⟩ Of) ?_;refine aG 5 ?_;refine QZ (n:=i) (m:=q.length+1-i) (k:=1) av rfl rfl underlying61 underlying3 J6 rfl ot rfl rfl (by show i<=(q.flatMap cI).length;omega) (Eq.trans ot (congrArg (fun z=>D.v (.int .i64 z)) (show((q.length:Int)+(1:Nat)-(i:Int))=((q.length+1-i:Nat):Int) by omega))) w4 w4 Hs w4 (fun Ii E DE NT=>?_);have pN:i+(q.length+1-i)=q.length+1:=(by omega)
  rw[pN] at DE |-;refine aq 95 [0,1,2,7,9] ?_;refine az 2 ?_;refine bQ (fb (l:=i) (h:=q.length+1) rfl ot ⟨_,ot⟩ trivial xu) ?_;have xE:eY E (i) 1 0=i:=(by unfold eY;rw[if_neg w4];omega)
  rw[xE];refine aG 1 ?_;have O:eY E (i+1) 1 0=i+1:=(by unfold eY;rw[if_neg w4];omega)
  refine fC (Wk.toEnd (k:=0) rfl) ?_;refine wv (k:=0) (k2:=1) (od:=i) (new:=cI a) (cs':=dx ((q.flatMap cI).take i++replicate (E*1-((q.flatMap cI).take i).length) D.bF) i (cI a)) av rfl rfl underlying61 Fa ot rfl rfl ot rfl rfl XG (Nat.min_eq_left (by omega:1<=q.length+1-i)).symm (fun d hd=>all_eq_true.1 (oM a) d hd) (by show i+1<=((q.flatMap cI).take i++replicate (E*1-((q.flatMap cI).take i).length) D.bF).length;rw[length_append,ru,Z];omega) rfl ?_;refine aq 95 [0,1,7,9] ?_;refine cQ ?_;refine oC 8 [9,50,53] ?_;refine aT 4 ?_ (h:=XT);refine aT 2 ?_ (h:=by exact(fb (l:=i) (h:=q.length) rfl ot ⟨_,ot⟩ trivial xu));refine jR ?_
  refine wv (k:=0) (k2:=2) (od:=eY E (i+1) 1 0) (oy:=eY cap i 1 0) (new:=(q.flatMap cI).drop i) (cs':=dx (dx ((q.flatMap cI).take i++replicate (E*1-((q.flatMap cI).take i).length) D.bF) i (cI a)) (i+1) ((q.flatMap cI).drop i)) av rfl rfl underlying61 Fa ot rfl rfl ot rfl rfl (by show take (Nat.min (q.length-i) (q.length+1-(i+1))) (drop (eY cap i 1 0) (q.flatMap cI))=_;rw[I,tI,take_of_length_le w4]) (by show _=Nat.min (q.length-i) (q.length+1-(i+1));rw[tI,U]) (fun d hd=>jh d (mem_of_mem_drop hd)) (by show eY E (i+1) 1 0+_<=(dx ((q.flatMap cI).take i++replicate (E*1-((q.flatMap cI).take i).length) D.bF) i (cI a)).length;rw[O,U,zO,length_append,ru,Z];omega) (by show dx (dx ((q.flatMap cI).take i++replicate (E*1-((q.flatMap cI).take i).length) D.bF) i (cI a)) (eY E (i+1) 1 0) _=_;rw[O]) ?_;refine aq 95 [9] ?_;refine az 1 ?_;refine zR (k:=0) (cs':=(iP q i a).flatMap cI) rfl (by rw[FD eS];exact Ue Z rfl (by rw[ru,U,Z];omega)) ?_;refine dY 95 [6] [⟨Ii,3,E*1,(iP q i a).flatMap cI⟩] ?_;exact⟨_,_,rfl,bN (by rw[Af hi];exact DE) NT⟩
 have I:eY cap (i) 1 0=i:=(by unfold eY;rw[if_neg w4];omega)
 have O:eY cap (i+1) 1 0=i+1:=(by unfold eY;rw[if_neg w4];omega)
 have tI:Nat.min (q.length+1-i) (q.length+1-(i+1))=q.length-i:=(by rw[show q.length+1-(i+1)=q.length-i from by omega];exact Nat.min_eq_right w4)
 refine cN [0,1,2,7,8] ?_;refine aT 4 ?_ (h:=by exact(fb (l:=0) (h:=q.length+1) rfl ot trivial ⟨_,ot⟩ Of));refine bL ?_;refine az 5 ?_;refine bQ (fb (l:=i+1) (h:=q.length+1) rfl ot ⟨_,ot⟩ trivial xu) ?_;refine fC (Wk.toEnd (k:=1) rfl) ?_;refine QI (r:=4) (k:=0) (k2:=1) av rfl rfl func115 aB aB aB aB underlying61 sizeOf3 ot rfl rfl ot rfl rfl w8 (by show cap*1≠0;omega) ?_;refine aq 95 [0,1,2,7,8,68] ?_;refine cj ?_ ?_<;>intro de eG
 ·refine cQ ?_;refine oC 8 [0,1,2,73,76] ?_;refine aT 4 ?_ (h:=XT);refine aT 2 ?_ (h:=by exact(fb (l:=i) (h:=q.length+1) rfl ot ⟨_,ot⟩ trivial xu));refine jR ?_;refine wv (k:=1) (k2:=1) (od:=eY cap (i+1) 1 0) (oy:=eY cap i 1 0) (new:=(q.flatMap cI).drop i) (cs':=dx ((q.flatMap cI)++replicate (cap*1-(q.flatMap cI).length) D.bF) (i+1) ((q.flatMap cI).drop i)) av rfl rfl underlying61 Fa ot rfl rfl ot rfl rfl (by show take (Nat.min (q.length+1-i) (q.length+1-(i+1))) (drop (eY cap i 1 0) ((q.flatMap cI)++replicate (cap*1-(q.flatMap cI).length) D.bF))=_;rw[I,tI,drop_append_of_le_length w4,take_left' U]) (by show _=Nat.min (q.length+1-i) (q.length+1-(i+1));rw[tI,U]) (fun d hd=>jh d (mem_of_mem_drop hd)) (by show eY cap (i+1) 1 0+_<=((q.flatMap cI)++replicate (cap*1-(q.flatMap cI).length) D.bF).length;rw[O,U,length_append,ru,hQ];omega) (by show dx ((q.flatMap cI)++replicate (cap*1-(q.flatMap cI).length) D.bF) (eY cap (i+1) 1 0) _=_;rw[O]) ?_;refine aq 95 [0,1,2] ?_;refine az 2 ?_;refine bQ (fb (l:=i) (h:=q.length+1) rfl ot ⟨_,ot⟩ trivial xu) ?_;refine aG 1 ?_
  refine wv (k:=1) (k2:=0) (od:=eY cap i 1 0) (new:=cI a) (cs':=dx (dx ((q.flatMap cI)++replicate (cap*1-(q.flatMap cI).length) D.bF) (i+1) ((q.flatMap cI).drop i)) i (cI a)) av rfl rfl underlying61 Fa ot rfl rfl ot rfl rfl XG (Nat.min_eq_left (by omega:1<=q.length+1-i)).symm (fun d hd=>all_eq_true.1 (oM a) d hd) (by show eY cap i 1 0+1<=(dx ((q.flatMap cI)++replicate (cap*1-(q.flatMap cI).length) D.bF) (i+1) ((q.flatMap cI).drop i)).length;rw[I,zO,length_append,ru,hQ];omega) (by show dx (dx ((q.flatMap cI)++replicate (cap*1-(q.flatMap cI).length) D.bF) (i+1) ((q.flatMap cI).drop i)) (eY cap i 1 0) _=_;rw[I]) ?_;refine aq 95 [0] ?_;refine az 1 ?_;refine zR (k:=1) (cs':=(iP q i a).flatMap cI) rfl (by rw[FD eS];show _ <+: dx (dx ((q.flatMap cI)++_) (i+1) ((q.flatMap cI).drop i)) i (cI a);rw[show(q.flatMap cI)++replicate (cap*1-(q.flatMap cI).length) D.bF=((q.flatMap cI).take i++(q.flatMap cI).drop i)++replicate (cap*1-(q.flatMap cI).length) D.bF from by rw[take_append_drop]];exact VE Z rfl (by rw[ru,hQ];omega)) ?_;refine dY 95 [6] [⟨b,3,cap*1,(iP q i a).flatMap cI⟩] ?_;exact⟨_,_,rfl,bN (by rw[Af hi];omega) hm⟩
 exact absurd de (by simp at *)
theorem aeQ(a:K)(Z:Nat):VC Tryz.prog G 72 [bW,ae (0:Nat),aN (some ⟨Z,0,none⟩) 1 1] [⟨Z,86,1*1,cK a⟩] (fun r S=>∃ad aO,r=aN ad 1 aO/\bq 86 1 ((iP ([]:List K) 0 a).flatMap cK) (iP ([]:List K) 0 a).length ad aO S):=by
 refine bn func72 rfl ntmps72 aP fun X0 w0 bj=>?_;refine aA [0,1,2] ?_;refine az 2 ?_;refine bQ (Fb rfl ot ⟨_,_,ot,rfl⟩ rfl runUnderlying127 sizeOf86) ?_;refine aq 95 [0,1,2] ?_;refine aA [0,1,2,7] ?_;refine ax [0,1,2,7,16] ?_ ?_<;>intro aM bG
 ·exact absurd aM (by simp at *)
 refine aA [0,1,2,7,8] ?_;refine ax [0,1,2,7,8,22] ?_ ?_<;>intro bf cD
 ·refine az 2 ?_;refine gh 0 24 1 1 ?_;refine fY (ls:=([]:List K)) (new:=[a]) (Sq:=[]) gF qw av rfl rfl underlying127 JE rfl w8 ot jj (dK (A:=[])) ot bp (by simp[maxLen]) bp (fun I E O U=>?_);refine bZ (ew (S1:=[⟨I,86,E*1,flatMap cK (([]:List K)++[a])⟩]) (A:=[])) ?_;refine dY 95 [6] [⟨I,86,E*1,flatMap cK (([]:List K)++[a])⟩] ?_;exact⟨_,_,rfl,bN O U⟩
 exact absurd bf (by simp at *)
theorem adg(q:List K)(i:Nat)(a:K)(ad:Option Addr)(cap:Nat)(Sq:List ag)(E:Nat)(hi:i<=q.length)(hs:q.length<=1000)(ho:bq 86 1 (q.flatMap cK) q.length ad cap Sq):VC Tryz.prog G 72 [aN ad q.length cap,ae (i:Nat),aN (some ⟨E,0,none⟩) 1 1] (⟨E,86,1*1,cK a⟩::Sq) (fun r S=>∃ad aO,r=aN ad (q.length+1) aO/\bq 86 1 ((iP q i a).flatMap cK) (iP q i a).length ad aO S):=by
 rcases ho with ⟨h1,h2,rfl,rfl,rfl⟩|⟨b,rfl,h1,h2,rfl⟩
 ·obtain rfl:=length_eq_zero_iff.1 h1;obtain rfl:i=0:=Nat.le_zero.1 hi;exact aeQ a E
 exact ade q i a cap b E hi h1 h2 hs
theorem aeR(a:Int)(Z:Nat):VC Tryz.prog G 73 [bW,ae (0:Nat),aN (some ⟨Z,0,none⟩) 1 1] [⟨Z,3,1*1,cI a⟩] (fun r S=>∃ad aO,r=aN ad 1 aO/\bq 3 1 ((iP ([]:List Int) 0 a).flatMap cI) (iP ([]:List Int) 0 a).length ad aO S):=by
 refine bn func73 rfl ntmps73 aP fun X0 w0 bj=>?_;refine aA [0,1,2] ?_;refine az 2 ?_;refine bQ (Fb rfl ot ⟨_,_,ot,rfl⟩ rfl runUnderlying61 sizeOf3) ?_;refine aq 95 [0,1,2] ?_;refine aA [0,1,2,7] ?_;refine ax [0,1,2,7,16] ?_ ?_<;>intro aM bG
 ·exact absurd aM (by simp at *)
 refine aA [0,1,2,7,8] ?_;refine ax [0,1,2,7,8,22] ?_ ?_<;>intro bf cD
 ·refine az 2 ?_;refine gh 0 24 1 1 ?_;refine fY (ls:=([]:List Int)) (new:=[a]) (Sq:=[]) eS oM av rfl rfl underlying61 J6 rfl w8 ot jj (dK (A:=[])) ot bp (by simp[maxLen]) bp (fun I E O U=>?_);refine bZ (ew (S1:=[⟨I,3,E*1,flatMap cI (([]:List Int)++[a])⟩]) (A:=[])) ?_;refine dY 95 [6] [⟨I,3,E*1,flatMap cI (([]:List Int)++[a])⟩] ?_;exact⟨_,_,rfl,bN O U⟩
 exact absurd bf (by simp at *)
theorem adi(q:List Int)(i:Nat)(a:Int)(ad:Option Addr)(cap:Nat)(Sq:List ag)(E:Nat)(hi:i<=q.length)(hs:q.length<=1000)(ho:bq 3 1 (q.flatMap cI) q.length ad cap Sq):VC Tryz.prog G 73 [aN ad q.length cap,ae (i:Nat),aN (some ⟨E,0,none⟩) 1 1] (⟨E,3,1*1,cI a⟩::Sq) (fun r S=>∃ad aO,r=aN ad (q.length+1) aO/\bq 3 1 ((iP q i a).flatMap cI) (iP q i a).length ad aO S):=by
 rcases ho with ⟨h1,h2,rfl,rfl,rfl⟩|⟨b,rfl,h1,h2,rfl⟩
 ·obtain rfl:=length_eq_zero_iff.1 h1;obtain rfl:i=0:=Nat.le_zero.1 hi;exact aeR a E
 exact adf q i a cap b E hi h1 h2 hs
end Tw
end Go.Proofs.YtbplamgacibdaaaGreatDoor
