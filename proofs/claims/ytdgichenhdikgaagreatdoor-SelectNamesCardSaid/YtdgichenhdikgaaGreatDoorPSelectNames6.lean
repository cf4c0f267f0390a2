/-
  What the proof of SelectNames leans on, part 6 of 9: walks of the program's functions at the level of values, and plain facts of what they compute.
-/
import Derived.Test.YtdgichenhdikgaaGreatDoorPSelectNames5
set_option linter.unusedVariables false
set_option linter.unusedSimpArgs false
set_option maxRecDepth 100000
set_option maxHeartbeats 4000000
namespace Go.Proofs.YtdgichenhdikgaaGreatDoor.Tw
open List
open Go.Proofs.Tryz
open Go.RowKit V Tr Pk
open Go.Lib (compareBytes)
variable {l hi k:K} {p:de} {n many:Int} {i:Nat} {t:aF}
def cK(k:K):List D:=[av 1 cB k]
theorem gl(k:K):(cK k).length=1:=rfl
theorem pM(k:K):(cK k).all V.one=true:=rfl
def cI(n:Int):List D:=[ae n]
theorem eo(n:Int):(cI n).length=1:=rfl
theorem nG(n:Int):(cI n).all V.one=true:=rfl
def cP(p:de):List D:=[bS p.leaf,av 1 cK p.keys,av 1 cI p.kids,av 1 cB p.high,ae p.next]
theorem FD(p:de):(cP p).length=5:=rfl
theorem af4(p:de):(cP p).all V.one=true:=rfl
def cT(t:aF):List D:=[av 5 cP t.ag,ae t.root]
def oB(k:K):Bool:=decide (0<k.length∧k.length≤100)
def u9(p:de)(i:Nat):Prop:=∀(h:i<p.keys.length),oB p.keys[i]=true∧(∀(h0:0<i),bF (p.keys[i-1]'w4) p.keys[i])∧(p.high≠[]→bF p.keys[i] p.high)
theorem acJ{l:List K}(h:∀i (hi:i<l.length) (h0:0<i),bF (l[i-1]'w4) l[i]):l.Pairwise bF:=by
 refine pairwise_iff_getElem.2 fun i j hi hj E=>?_;obtain⟨d,rfl⟩:∃d,j=i+1+d:=⟨j-(i+1),by omega⟩
 induction d with
 | zero=>have:=h (i+1) hj w4;simpa using this
 | succ d ih =>
  have h1:=ih w4 w4;have h2:=h (i+1+(d+1)) hj w4;exact mg h1 (by simpa using h2)
theorem RY(h:eH p n)(i:Nat):u9 p i:=fun hi=>by
 have hm:=getElem_mem hi;have:=h.lC _ hm;exact⟨by unfold oB;simp;omega,fun h0=>nc h.jY w4 hi,fun hne=>h.qB hne _ hm⟩
theorem J5(h:decide ((l.length:Int)>0)=true):l≠[]:=fun e=>by rw[e] at h;cases h
theorem len_nil(h:decide ((l.length:Int)>0)=false):l=[]:=by
 have:=of_decide_eq_false h;exact length_eq_zero_iff.1 w4
theorem UZ(h:decide ((hi.length:Int)>0)=true):decide (compareBytes k hi≥0)=decide (hi≠[]∧¬bF k hi):=by
 have:=J5 h;unfold bF;simp[this]
theorem U0(h:decide ((hi.length:Int)>0)=false):false=decide (hi≠[]∧¬bF k hi):=by simp[len_nil h]
variable {G:List (Nat×List Value)}
theorem wH(a b:K):VP Tryz.prog G 51 [av 1 cB a,av 1 cB b] (ae (compareBytes a b)):=by
 exact z130
theorem U1(a b:K)(ha:a.length≤maxLen)(hb:b.length≤maxLen):VP Tryz.prog G 133 [av 1 cB a,av 1 cB b] (bS (decide (a=b))):=by
 refine VC.body func133 rfl ntmps133 aQ fun X0 w0 bg=>?_;refine af [0,1] ?_;refine cZ [4] ?_;refine aS 1 ?_ (h:=by exact C3);refine aS 1 ?_ (h:=by exact C3);refine bK ?_;refine aJ [] ?_;refine⟨vb ?_,rfl⟩;rw[ByteArray.toList_eq,ByteArray.toList_eq];show(a==b)=decide (a=b);by_cases h:a=b<;>simp[h]
theorem ze(k:K):VP Tryz.prog G 132 [av 1 cB k] (bS (oB k)):=by
 refine VC.body func132 rfl ntmps132 aQ fun X0 w0 bg=>?_;refine af [0] ?_;refine aD 4 ?_;refine bW 6 (fun I E=>?_) (fun I E=>?_)
 ·refine bf [2] ?_;refine eO ?_;refine⟨vb ?_,rfl⟩;unfold oB;first|(simp_all;done)|(simp_all;omega)
 refine bf [2] ?_;refine eO ?_;refine⟨vb ?_,rfl⟩;unfold oB;first|(simp_all;done)|(simp_all;omega)
theorem aa2(p:de)(k:K):VP Tryz.prog G 144 [.agg (cP p),av 1 cB k] (bS (decide (p.high≠[]∧¬bF k p.high))):=by
 refine VC.body func144 rfl ntmps144 aQ fun X0 w0 bg=>?_;unfold cP;refine bY ?_;refine OD.box (ds:=[_,_,_,_,_]) ap rfl rfl ot rfl rfl (fun b2=>?_);refine an 16 [1,2] ?_;refine aD 5 ?_;refine bW 9 (fun E I=>?_) (fun E I=>?_)
 ·refine aE 3 ?_;refine OD.hU iw rfl rfl rfl call51 (wH k p.high) ⟨ot,ot,trivial⟩ ?_;refine an 16 [4] ?_;refine aJ [] ?_;refine⟨vb ?_,rfl⟩;first|exact UZ E|exact U0 E
 refine bf [4] ?_;refine eO ?_;refine⟨vb ?_,rfl⟩;first|exact UZ E|exact U0 E
theorem U2{a:Int}(h:(decide (a<0)!=((l.length:Int)==0))=false):a<0↔l=[]:=by
 have h:decide (a<0)=((l.length:Int)==0):=(by simpa using h)
 rw[←length_eq_zero_iff];constructor
 ·intro q;rw[decide_eq_true q] at h;have:=beq_iff_eq.1 h.symm;omega
 intro q;rw[q] at h;exact of_decide_eq_true h
theorem agL{a:Int}(h:a<0↔l=[]):(!(decide (a<0)==((l.length:Int)==0)))=false:=by
 rw[←length_eq_zero_iff] at h;by_cases q:a<0
 ·rw[decide_eq_true q,h.1 q];rfl
 rw[decide_eq_false q];have:¬l.length=0:=fun e=>q (h.2 e);simp;exact fun e=>this (by rw[e];rfl)
open Classical in
noncomputable def BO(p:de)(many:Int):Bool:=decide (eH p many)
open Classical in
theorem EF(h:¬eH p many):false=BO p many:=(decide_eq_false h).symm
open Classical in
theorem aa3(h:eH p many):true=BO p many:=(decide_eq_true h).symm
theorem adJ(h:eH p n)(hi:i<p.kids.length):0≤p.kids[i]∧(p.leaf=false→p.kids[i]<n):=⟨h.aC _ (getElem_mem hi),fun hl=>h.vu hl _ (getElem_mem hi)⟩
theorem acK(f1:p.keys.length≤4)(f2:p.high.length≤100)(f3:-1≤p.next)(f4:p.next<many)(E:(p.next<0↔p.high=[]))(I:(p.leaf=true→p.kids.length=p.keys.length))(f7:(p.leaf=false→p.kids.length=p.keys.length+1∧p.keys.length≠0))(hk:∀j,j<p.keys.length→u9 p j)(hc:∀j (hj:j<p.kids.length),0≤p.kids[j]∧(p.leaf=false→p.kids[j]<many)):eH p many:=by
 refine⟨f1,f2,f3,f4,E,I,fun h=>⟨(f7 h).1,fun e=>(f7 h).2 (by rw[e];rfl)⟩,fun k h=>?_,fun hne k h=>?_,acJ fun i hi h0=>(hk i hi hi).2.1 h0,fun n h=>?_,fun hl n h=>?_⟩
 ·obtain⟨i,hi,rfl⟩:=mem_iff_getElem.1 h;have:=(hk i hi hi).1;unfold oB at this;have:=of_decide_eq_true this;omega
 ·obtain⟨i,hi,rfl⟩:=mem_iff_getElem.1 h;exact(hk i hi hi).2.2 hne
 ·obtain⟨i,hi,rfl⟩:=mem_iff_getElem.1 h;exact(hc i hi).1
 obtain⟨i,hi,rfl⟩:=mem_iff_getElem.1 h;exact(hc i hi).2 hl
theorem aex(p:de)(many:Int)(dX:p.keys.length≤maxLen)(fx:p.kids.length≤maxLen):VP Tryz.prog G 91 [.agg (cP p),ae many] (bS (BO p many)):=by
 refine VC.body func91 rfl ntmps91 aQ fun X0 w0 bg=>?_;unfold cP;have dz:=ei;refine bY ?_;refine OD.box (ds:=[_,_,_,_,_]) ap rfl rfl ot rfl rfl (fun b2=>?_);refine an 132 [1,2] ?_;refine aD 5 ?_;refine bW 13 (fun ajQ Z=>?_) (fun ajQ Z=>?_)
 ·exact Gm
 refine aE 6 ?_;refine bW 19 (fun Ly ahv=>?_) (fun Ly ahv=>?_)
 ·exact Gm
 refine aE 5 ?_;refine bW 24 (fun ajR ahw=>?_) (fun ajR ahw=>?_)
 ·exact Gm
 refine aE 6 ?_;refine bW 30 (fun ajS ahx=>?_) (fun ajS ahx=>?_)
 ·exact Gm
 refine aE 7 ?_;refine OD.still iw rfl (dw rfl ot ot (Qx underlying4)) ?_;refine an 132 [1,2,39] ?_;refine au ?_ ?_<;>intro aO bE
 ·refine af [4] ?_;refine aJ [] ?_;exact GY
 refine CD.skip ?_;refine jQ [1,2] (fun aW I aH=>(p.keys.length≤4)∧(p.high.length≤100)∧(-1≤p.next)∧(p.next<many)∧((p.next<0↔p.high=[]))∧((p.leaf=true→p.kids.length=p.keys.length))∧((p.leaf=false→p.kids.length=p.keys.length+1∧p.keys.length≠0))∧aH=(⟨132,aW,I⟩:St)) ?_ ?_
 ·refine aD 3 ?_;refine bW 42 (fun ru ahy=>?_) (fun ru ahy=>?_)
  ·refine aE 9 ?_;refine bW 51 (fun ajT ahz=>?_) (fun ajT ahz=>?_)
   ·exact z138
   refine aE 4 ?_;refine bW 55 (fun ug E=>?_) (fun ug E=>?_)
   ·exact absurd ug (by rw[ru];decide)
   refine bf [1,2,71] ?_;refine fN ?_;refine CD.skip ?_;refine⟨_,aK,w4,w4,w4,w4,(U2 aO),(fun _=>by omega),(fun h=>absurd ru (by rw[h];decide)),rfl⟩
  refine x5 7 ?_;refine aE 6 ?_;refine bW 55 (fun ug E=>?_) (fun ug E=>?_)
  ·refine aE 9 ?_;refine bW 64 (fun LK KN=>?_) (fun LK KN=>?_)
   ·exact z138
   refine bf [1,2,71] ?_;refine au ?_ ?_<;>intro aY cJ
   ·refine af [4] ?_;refine eO ?_;exact GY
   refine CD.skip ?_;refine⟨_,aK,w4,w4,w4,w4,(U2 aO),(fun h=>absurd ru (by rw[h];decide)),(fun _=>⟨by omega,by omega⟩),rfl⟩
  exact absurd ug (by rw[ru];decide)
 rintro _ ⟨f1,f2,f3,f4,f5,f6,f7,rfl⟩;refine af [1,2,73,74,75] ?_;refine eD [1,2,73,74] (fun aW I (i:Nat) aH=>(i≤p.keys.length)∧(∀j,j<i→u9 p j)∧aH=(⟨132,(75,ae (i:Nat))::aW,I⟩:St)) (fun (i:Nat)=>p.keys.length-i) 0 ⟨(Nat.zero_le _),(fun j h=>by omega),rfl⟩ ?_;rintro i _ ⟨hi,xW,rfl⟩;refine af [1,2,73,74,75,76] ?_;refine au ?_ ?_<;>intro cm cW
 ·have aa:i<p.keys.length:=(by omega)
  refine af [1,2,5,6,73,74,75] ?_;refine aD 1 ?_;refine dV call132 (ze p.keys[i]) ?_;refine aE 2 ?_;refine bW 83 (fun xq ahA=>?_) (fun xq ahA=>?_)
  ·refine an 132 [1,2,73,74,75,110] ?_;refine eI ?_;exact WO
  refine aE 3 ?_;refine bW 86 (fun ajU ahB=>?_) (fun ajU ahB=>?_)
  ·refine aE 4 ?_;refine bN (dc 1 (h:=by first|exact .l (j:=i-1) w4 w4|exact .r (j:=i-1) w4 w4)) ?_;refine aE 2 ?_;refine OD.hU iw rfl rfl rfl call51 (wH (p.keys[i-1]'w4) p.keys[i]) ⟨ot,ot,trivial⟩ ?_;refine aE 4 ?_;refine bW 98 (fun zC F0=>?_) (fun zC F0=>?_)
   ·refine an 132 [1,2,73,74,75,110] ?_;refine eI ?_;exact WO
   refine aE 5 ?_;exact WG
  refine x5 9 ?_;refine aE 8 ?_;exact WG
 have ahC:∀j,j<p.keys.length→u9 p j:=fun j hj=>xW j w4;refine af [1,2,113,114,115] ?_;refine eD [1,2,113,114] (fun aW I (i:Nat) aH=>(i≤p.kids.length)∧(∀j (_:j<i) (hj:j<p.kids.length),0≤p.kids[j]∧(p.leaf=false→p.kids[j]<many))∧aH=(⟨132,(115,ae (i:Nat))::aW,I⟩:St)) (fun (i:Nat)=>p.kids.length-i) 0 ⟨(Nat.zero_le _),(fun j h=>by omega),rfl⟩ ?_;rintro i _ ⟨kj,j8,rfl⟩;refine af [1,2,113,114,115,116] ?_;refine au ?_ ?_<;>intro ez fw
 ·have aa:i<p.kids.length:=(by omega)
  refine af [1,2,8,113,114,115] ?_;refine aD 3 ?_;refine bW 121 (fun KB O=>?_) (fun KB O=>?_)
  ·refine bf [1,2,113,114,115,130] ?_;refine eI ?_;exact W7
  refine aE 4 ?_;refine bW 125 (fun FM U=>?_) (fun FM U=>?_)
  ·refine bf [1,2,113,114,115,130] ?_;refine au ?_ ?_<;>intro fg gB
   ·exact W7
   exact W0
  refine bf [1,2,113,114,115,130] ?_;refine fN ?_;exact W0
 refine af [4] ?_;refine aJ [] ?_;refine⟨vb (aa3 (acK f1 f2 f3 f4 f5 f6 f7 ahC fun j hj=>j8 j w4 hj)),rfl⟩

def ng(keys:List K)(k:K):Bool:=decide (keys[gA keys k]?=some k)
theorem acL{keys:List K}(hi:i≤keys.length)(h1:∀m (hm:m<keys.length),m<i→bF keys[m] k)(h2:∀m (hm:m<keys.length),i≤m→¬bF keys[m] k):gA keys k=i:=by
 have E:=yP keys k;rcases Nat.lt_trichotomy (gA keys k) i with h|h|h
 ·have aa:gA keys k<keys.length:=(by omega)
  exact absurd (h1 _ aa h) (A9 aa)
 ·exact h
 obtain⟨h',q⟩:=Bk h;exact absurd q (h2 _ h' (Nat.le_refl _))
theorem aa4{keys:List K}(hr:keys.Pairwise bF)(k:K):mL keys k=if ng keys k=true then gA keys k+1 else gA keys k:=by
 have E:=yP keys k;split
 ·rename_i hf;unfold ng at hf;have hf:=of_decide_eq_true hf;obtain⟨aa,he⟩:=List.getElem?_eq_some_iff.1 hf;refine JO hr w4 (fun _=>?_) (fun h=>?_)
  ·show ¬bF k (keys[gA keys k+1-1]'w4);simp only[Nat.add_sub_cancel,he];exact jR k
  have:=nc hr (Nat.lt_succ_self (gA keys k)) h;rw[he] at this;exact this
 rename_i hf;refine JO hr E (fun h0=>?_) (fun h=>?_)
 ·exact za (Bk (by omega:gA keys k-1<gA keys k)).2
 have h1:=A9 h;rcases zb keys[gA keys k] k with h2|h2|h2
 ·exact absurd h2 h1
 ·exfalso;apply hf;unfold ng;rw[getElem?_eq_getElem h,h2];simp
 exact h2
theorem BQ{a:Nat}:((a:Nat):Int).fdiv (2 ^ min (1:Int).toNat IntKind.u64.bits)=((a/2:Nat):Int):=by
 rw[show min (1:Int).toNat IntKind.u64.bits=1 from rfl,Int.fdiv_eq_ediv_of_nonneg _ w7];rfl
theorem Us{keys:List K}(hd:gA keys k=i)(hi:i<keys.length):(D.dJ [ae (i:Nat),bS (compareBytes keys[i] k==0)]) = .dJ [ae (gA keys k:Nat),bS (ng keys k)]∧([]:List ah)=[]:=by
 subst hd;refine⟨?_,rfl⟩;have:(compareBytes keys[gA keys k] k==0)=ng keys k:=by
  unfold ng;rw[getElem?_eq_getElem hi];by_cases h:keys[gA keys k]=k
  ·have:=uc.2 h;rw[this];simp[h]
  have:¬compareBytes keys[gA keys k] k=0:=fun e=>h (uc.1 e);simp[h,this]
 rw[this]
theorem Tg{keys:List K}(hd:gA keys k=i)(hi:keys.length≤i):(D.dJ [ae (i:Nat),bS false]) = .dJ [ae (gA keys k:Nat),bS (ng keys k)]∧([]:List ah)=[]:=by
 subst hd;refine⟨?_,rfl⟩;have:ng keys k=false:=(by unfold ng;rw[getElem?_eq_none hi];rfl)
 rw[this]
theorem aa5(keys:List K)(k:K)(hr:keys.Pairwise bF)(hl:keys.length≤1000):VP Tryz.prog G 145 [av 1 cK keys,av 1 cB k,.eC (.func 51) []] (.dJ [ae (gA keys k:Nat),bS (ng keys k)]):=by
 refine VC.body func145 rfl ntmps145 aQ fun X0 w0 bg=>?_;have dz:=ei;refine af [0,1,2] ?_;refine af [0,1,2,8] ?_;refine af [0,1,2,8,9,10] ?_;refine eD [0,1,2,8] (fun aW _ (I:Nat×Nat) aH=>match I with|(i,j)=>(i≤j)∧(j≤keys.length)∧(∀m (hm:m<keys.length),m<i→bF keys[m] k)∧(∀m (hm:m<keys.length),j≤m→¬bF keys[m] k)∧aH=(⟨49,(9,ae (i:Nat))::(10,ae (j:Nat))::aW,[]⟩:St)) (fun (I:Nat×Nat)=>match I with|(i,j)=>j-i) (0,keys.length) ⟨(Nat.zero_le _),(Nat.le_refl _),(fun m hm h=>by omega),(fun m hm h=>by omega),rfl⟩ ?_;rintro⟨i,j⟩ _ ⟨Yg,hjn,h1,h2,rfl⟩;refine af [0,1,2,8,9,10,17] ?_;refine au ?_ ?_<;>intro aO bE
 ·have aa:i<j:=(by omega)
  have E:((i+j)/2)<keys.length:=(by omega)
  refine cZ [0,1,2,8,9,10,11] ?_;refine aS 2 ?_ (h:=by exact(dw rfl ot ot (kx (r:=((i+j:Nat):Int)) Ah)));refine aS 0 ?_ (h:=by exact(oM rfl ot (oN (r:=((i+j:Nat):Int)) runUnderlying3 runUnderlying231 (IntWalk.u64_in _ w4))));refine aS 0 ?_ (h:=by exact(dw rfl ot bP (y4 w7 BQ)));refine aS 0 ?_ (h:=by exact(oM rfl ot (oN (r:=((((i+j)/2):Nat):Int)) runUnderlying231 runUnderlying3 (wrap_i64 w4 w4))));refine bK ?_;refine aD 6 ?_;refine OD.kz (f:=51) (args:=[_,_]) (all:=[_,_]) (Sf:=[]) ap rfl rfl ot call51 (wH (keys[((i+j)/2)]'E) k) rfl ⟨ot,ot,trivial⟩ (eR _) ?_;rintro _ _ ⟨rfl,rfl⟩;refine an 49 [0,1,2,8,9,10,11,31] ?_;refine au ?_ ?_<;>intro aY cJ
  ·have hc:bF (keys[((i+j)/2)]'E) k:=of_decide_eq_true aY;have Z:∀m (hm:m<keys.length),m<((i+j)/2)+1→bF keys[m] k:=fun m hm h=>by (rcases Nat.lt_or_ge m ((i+j)/2) with q|q);exact mg (nc hr q E) hc;(have:m=((i+j)/2):=by omega);subst this;exact hc
   refine cl [0,1,2,8,9,10] ?_;refine⟨((((i+j)/2)+1),j),_,cz,aK,w4,w4,(fun m hm h=>by rcases Nat.lt_or_ge m i with q|q;exact h1 m hm q;exact Z m hm w4),h2,rfl⟩
  have hc:¬bF (keys[((i+j)/2)]'E) k:=of_decide_eq_false aY;have O:∀m (hm:m<keys.length),((i+j)/2)≤m→¬bF keys[m] k:=fun m hm h hh=>by (rcases Nat.lt_or_ge ((i+j)/2) m with q|q);exact hc (mg (nc hr q hm) hh);(have:m=((i+j)/2):=by omega);subst this;exact hc hh
  refine cl [0,1,2,8,9,10] ?_;refine⟨(i,((i+j)/2)),_,cz,aK,w4,w4,h1,O,rfl⟩
 obtain rfl:i=j:=(by omega)
 have hd:=acL hjn h1 h2;refine aD 5 ?_;refine bW 39 (fun ajV U=>?_) (fun ajV U=>?_)
 ·refine aE 6 ?_;refine OD.kz (f:=51) (args:=[_,_]) (all:=[_,_]) (Sf:=[]) iw rfl rfl ot call51 (wH (keys[i]'w4) k) rfl ⟨ot,ot,trivial⟩ (eR _) ?_;rintro _ _ ⟨rfl,rfl⟩;refine an 49 [6,7] ?_;refine aJ [] ?_;first|exact Us hd w4|exact Tg hd w4
 refine bf [6,7] ?_;refine MQ ?_;first|exact Us hd w4|exact Tg hd w4
theorem Jc(p:de)(k:K)(hr:p.keys.Pairwise bF)(hl:p.keys.length≤1000):VP Tryz.prog G 123 [.agg (cP p),av 1 cB k] (ae (aL p k:Nat)):=by
 refine VC.body func123 rfl ntmps123 aQ fun X0 w0 bg=>?_;unfold cP;have dz:=ei;have I:=yP p.keys k;have Xl:=aa4 hr k;refine bY ?_;refine OD.box (ds:=[_,_,_,_,_]) ap rfl rfl ot rfl rfl (fun b2=>?_);refine an 23 [1,2] ?_;refine cX [2,5,6] (aa5 p.keys k hr hl) ?_;refine aD 2 ?_;refine bW 15 (fun Ca E=>?_) (fun Ca E=>?_)
 ·refine bf [5,19] ?_;refine au ?_ ?_<;>intro aO bE
  ·refine cl [5] ?_;exact Xk
  exact Xk
 refine bf [5,19] ?_;refine fN ?_;refine af [4] ?_;refine eO ?_;refine⟨vi ?_,rfl⟩;unfold aL;first|(rw[Ca] at Xl;cases fM:p.leaf<;>simp_all;done)|(simp_all;done)|(simp_all;omega)

theorem aa6{d:Nat}{i:Int}{lo:K}(ok:dZ t d i lo hi)(h:(t.pg i).leaf=true):d=0:=by
 cases d with
 | zero=>rfl
 | succ d=>obtain⟨_,q2,_⟩:=ok;rw[q2] at h;cases h
theorem aa7{d:Nat}{i:Int}{lo:K}(ok:dZ t d i lo hi)(h:(t.pg i).leaf=false):∃d',d=d'+1:=by
 cases d with
 | zero=>obtain⟨_,q2,_⟩:=ok;rw[q2] at h;cases h
 | succ d=>exact⟨d,rfl⟩
theorem aa8:(Tryz.prog.info? 3).map (fun i=>(i.zero,i.size,i.bytes))=some (some (.int .i64 0),1,8):=by kernel_rfl
theorem Th(t:aF)(h:Nat)(v:Valid t h)(k:K):VC Tryz.prog G 122 [.agg (cT t),av 1 cB k] [] (gm cI 3 1 (jh t k h t.root)):=by
 refine VC.body func122 rfl ntmps122 aQ fun X0 w0 bg=>?_;unfold cT;have dz:=ei;have hval:=v;have eG:=v.high;have NN:=v.nN;refine bY ?_;refine OD.box (ds:=[_,_]) ap rfl rfl ot rfl rfl (fun b2=>?_);refine an 45 [1,2] ?_;refine aD 2 ?_;refine ev (cc 0 [_]) [.int .i64 0] [_] zeroValue3 runUnderlying67 sizeOf3 (fun lf=>?_);refine OD.perm (ee (S1:=[⟨lf,3,1*1,flatMap cI ([t.root])⟩]) (A:=[_])) ?_;refine an 45 [1,2,5] ?_;refine CD.block ?_;refine mV (fun (U:Nat×Int×K×K×List Int×Option Addr×Nat×List ah) aH=>match U with|(d,i,lo,hi,pre,Hy,O,Sl)=>(dZ t d i lo hi)∧(lJ lo hi k)∧(pre++jh t k d i=jh t k h t.root)∧(pre.length+d≤h)∧(bp 3 1 (((pre++[i])).flatMap cI) ((pre++[i])).length Hy O Sl)∧aH=(⟨45,[(1,av 1 cB k),(2,dM b2),(5,aP Hy ((pre++[i])).length O)],(⟨b2,51,2,[av 5 cP t.ag,ae t.root]⟩::Sl)⟩:St)) (fun (U:Nat×Int×K×K×List Int×Option Addr×Nat×List ah)=>match U with|(d,i,lo,hi,pre,Hy,O,Sl)=>d) (h,t.root,[],[],[],(some ⟨lf,0,none⟩),1,[⟨lf,3,1*1,flatMap cI ([t.root])⟩]) ⟨v.ok,(tP k),(nil_append _),bq,(bp.cast (bH (g:=cI) (sz:=1) (e:=3) (ls:=[t.root]) (Nat.le_refl _) (show 1≤maxLen by decide)) jN),rfl⟩ (aK (h:=by repeat (first|exact trivial|refine⟨(by (repeat (first|exact fB|(apply fU;focus (first|rfl|(simp;done)|(congr 2;omega)|(apply eL;rw[Z])|(apply eL;simp;done)))|(apply fH;focus rfl)));done),?_⟩))) ?_
 rintro⟨d,i,lo,hi,pre,Hy,O,Sl⟩ _ ⟨ok,ko,U3,fO,NB,rfl⟩;obtain⟨bl,rfl,Cp,BR,rfl⟩:=NB.pos bq;have q1:=ok.idx;have aa:i.toNat<t.ag.length:=(by omega)
 have E:t.pg i=(t.ag[i.toNat]'aa):=vh q1;have po:=v.fD _ (jE q1);have BS:=ok.high;rw[E] at po BS;refine cZ [1,2,5,6] ?_;refine aS 4 ?_ (h:=by exact(dc 1 (h:=by first|exact .l (j:=pre.length) bq bq|exact .r (j:=pre.length) bq bq)));refine aS 0 ?_ (h:=by exact(cU (mk:=Op.load 3) rfl ot (jb (k:=1) (d:=ae i) (i:=pre.length) eo rfl rfl rfl isAgg3 bq (by simp[cI]))));refine bK ?_;refine aD 3 ?_;refine bN (dc 5 (h:=by first|exact .l (j:=i.toNat) (Int.toNat_of_nonneg q1.1).symm aa|exact .r (j:=i.toNat) (Int.toNat_of_nonneg q1.1).symm aa)) ?_;refine aE 1 ?_;refine OD.alloc (ds:=[_,_,_,_,_]) ap rfl rfl zeroValue153 rfl (fun b7=>?_);refine aN 0 [_,_,_,_,_] sizeOf153 ?_;refine an 45 [1,2,5,7] ?_;refine cX [1,2,5,7,24] (aa2 (t.ag[i.toNat]'aa) k) ?_;refine au ?_ ?_<;>intro aO bE
 ·exact absurd aO (by intro e;have e:=of_decide_eq_true e;rw[BS] at e;exact e.2 (ko.2 e.1))
 refine af [1,2,5,7,33] ?_;refine au ?_ ?_<;>intro aY cJ
 ·obtain rfl:=aa6 ok (by rw[E];exact aY);have aV:pre++[i]=jh t k h t.root:=(by rw[←U3];rfl)
  refine af [4] ?_;refine aJ [⟨bl,3,O*1,flatMap cI (pre++[i])⟩] ?_;rw[←aV];exact⟨_,_,rfl,(bH (g:=cI) (ls:=pre++[i]) Cp BR)⟩
 obtain⟨dd,rfl⟩:=aa7 ok (by rw[E];exact aY);have ok0:=ok;obtain⟨_,fM,hh,aiZ,pX⟩:=ok0;obtain⟨d1,d2⟩:=down (p:=t.pg i) (by rw[E];exact po) fM hh ko;have jW:=pX _ d1;rw[←tG d1] at jW;have LL:=d2;have af5:pre++[i]++jh t k dd ((t.pg i).kids.getD (aL (t.pg i) k) 0)=jh t k h t.root:=(by rw[←U3,append_assoc];rfl)
 have qM:=Jc (G:=G) (t.pg i) k (by rw[E];exact po.jY) (by rw[E];have:=po.eJ;omega);have I:aL (t.ag[i.toNat]'aa) k<(t.ag[i.toNat]'aa).kids.length:=(by rw[←E];exact d1)
 have ajW:VP Tryz.prog G 123 [.agg (cP (t.ag[i.toNat]'aa)),av 1 cB k] (ae (aL (t.ag[i.toNat]'aa) k:Nat)):=(by rw[←E];exact qM)
 have Z:(t.pg i).kids.getD (aL (t.pg i) k) 0=(t.ag[i.toNat]'aa).kids[aL (t.ag[i.toNat]'aa) k]'I:=(by rw[E];exact tG I)
 refine CD.skip ?_;refine fE 10 (aq (take 2 _)) ?_ (fun _ h=>(Sublist.map _ (take_sublist _ _)).subset h);refine ay 0 rfl aZ ?_;refine ay 1 rfl (dh 2) ?_;refine ay 2 rfl (dI 0) ?_;refine ay 3 rfl (B9 0 [_,_,_,_,_]) ?_;refine ay 4 rfl aZ ?_;refine dm.later rfl ?_;refine AD.one (i:=5) aA ?_;refine jm call123 (ajW) ?_;refine cr 6 rfl (dc 1 (h:=by first|exact .l (j:=aL (t.ag[i.toNat]'aa) k) rfl I|exact .r (j:=aL (t.ag[i.toNat]'aa) k) rfl I)) ?_;refine AD.one (i:=7) aA ?_;refine at_ rfl eK ?_;refine AD.one (i:=8) aA ?_;refine iV (cc 0 [_]) [.int .i64 0] [_] zeroValue3 runUnderlying67 sizeOf3 (fun NI=>?_);refine iW 0 43 1 1 ?_;refine AD.one (i:=9) aA ?_;refine bj.en (ls:=(pre++[i])) (new:=[(t.ag[i.toNat]'aa).kids[aL (t.ag[i.toNat]'aa) k]'I]) (Sq:=[⟨bl,3,O*1,flatMap cI (pre++[i])⟩]) eo nG rfl ap rfl rfl underlying67 aa8 rfl w7 ot (bH (g:=cI) (ls:=pre++[i]) Cp BR) (dg (A:=[_,_])) ot bq vH iu (fun yq xF LM LN=>?_);refine AD.perm (ee (S1:=[⟨yq,3,xF*1,flatMap cI ((pre++[i])++[(t.ag[i.toNat]'aa).kids[aL (t.ag[i.toNat]'aa) k]'I])⟩]) (A:=[_,_])) ?_;refine eE ?_;refine bf [1,2,5] ?_
 refine⟨(dd,((t.pg i).kids.getD (aL (t.pg i) k) 0),(iz lo (t.pg i) (aL (t.pg i) k)),(gZ (t.pg i) (aL (t.pg i) k)),(pre++[i]),(some ⟨yq,0,none⟩),xF,[⟨yq,3,xF*1,flatMap cI ((pre++[i])++[(t.ag[i.toNat]'aa).kids[aL (t.ag[i.toNat]'aa) k]'I])⟩]),_,cz,(aK (h:=by repeat (first|exact trivial|refine⟨(by (repeat (first|exact fB|(apply fU;focus (first|rfl|(simp;done)|(congr 2;omega)|(apply eL;rw[Z])|(apply eL;simp;done)))|(apply fH;focus rfl)));done),?_⟩))),jW,LL,af5,iu,(bp.cast (bH LM LN) (by rw[Z])),rfl⟩
theorem aey(t:aF)(h:Nat)(v:Valid t h)(k:K):VP Tryz.prog G 122 [.agg (cT t),av 1 cB k] (.list 1 ((jh t k h t.root).flatMap cI) (jh t k h t.root).length):=(Th t h v k).wU eo

def iA(t:aF)(k:K)(h:Nat):Bool:=ng (t.pg (aI t k h t.root)).keys k
theorem Ei{h:Nat}(v:Valid t h)(k:K):iA t k h=true↔BF t k h:=by
 unfold iA ng BF;have hl:=(v.leaf k).2;have fO:aL (t.pg (aI t k h t.root)) k=gA (t.pg (aI t k h t.root)).keys k:=(by unfold aL;rw[if_pos hl])
 rw[fO,decide_eq_true_iff,List.getElem?_eq_some_iff]
theorem Ti(hl:p.leaf=true)(ha:aL p k<p.keys.length):decide (p.keys[aL p k]=k)=ng p.keys k:=by
 unfold ng;have fO:aL p k=gA p.keys k:=(by unfold aL;rw[if_pos hl])
 simp only[fO] at ha ⊢;rw[getElem?_eq_getElem ha];simp
theorem Tj(hl:p.leaf=true)(ha:¬aL p k<p.keys.length):false=ng p.keys k:=by
 unfold ng;have fO:aL p k=gA p.keys k:=(by unfold aL;rw[if_pos hl])
 rw[fO] at ha;rw[getElem?_eq_none w4];rfl
theorem aez{h:Nat}{i:Int}:∃(hn:(jh t k h i).length-1<(jh t k h i).length),(jh t k h i)[(jh t k h i).length-1]=aI t k h i:=by
 have h1:=PN t k h i;rw[getLast?_eq_getElem?] at h1;exact List.getElem?_eq_some_iff.1 h1
theorem Ro(hp:eH p n)(k:K):aL p k≤p.keys.length:=by
 unfold aL;split
 ·exact yP _ _
 exact Bl _ _
theorem ET(t:aF)(k:K):∀(h:Nat) (i:Int),(jh t k h i).length=h+1
 | 0,i=>rfl
 | h+1,i=>by rw[jh,length_cons,ET t k h]
theorem qt(t:aF)(h:Nat)(v:Valid t h)(k:K)(dX:k.length≤maxLen)(U:(jh t k h t.root).length≤1000000):VP Tryz.prog G 94 [.agg (cT t),av 1 cB k] (.dJ [ae (aI t k h t.root),ae (aL (t.pg (aI t k h t.root)) k:Nat),bS (iA t k h)]):=by
 refine VC.body func94 rfl ntmps94 aQ fun X0 w0 bg=>?_;unfold cT;have dz:=ei;have qM:=aey (G:=G) t h v k;unfold cT at qM;obtain⟨gi,Z⟩:=aez (t:=t) (k:=k) (h:=h) (i:=t.root);obtain⟨q1,KP⟩:=v.leaf k;have aa:(aI t k h t.root).toNat<t.ag.length:=(by omega)
 have I:t.pg (aI t k h t.root)=(t.ag[(aI t k h t.root).toNat]'aa):=vh q1;have po:=v.fD _ (jE q1);have NN:=v.nN;have V2:(jh t k h t.root).length≤1000000:=U;have ajX:=Jc (G:=G) (t.pg (aI t k h t.root)) k po.jY (by have:=po.eJ;omega);have ajY:VP Tryz.prog G 123 [.agg (cP (t.ag[(aI t k h t.root).toNat]'aa)),av 1 cB k] (ae (aL (t.ag[(aI t k h t.root).toNat]'aa) k:Nat)):=(by rw[←I];exact ajX)
 have ajZ:∀x∈(t.ag[(aI t k h t.root).toNat]'aa).keys,x.length≤maxLen:=fun x hx=>by rw[←I] at hx;have:=(po.lC x hx).2;omega
 have E:(t.ag[(aI t k h t.root).toNat]'aa).leaf=true:=(by rw[←I];exact KP)
 have O:iA t k h=ng (t.ag[(aI t k h t.root).toNat]'aa).keys k:=(by unfold iA;rw[I])
 have mO:=po.eJ;have aj0:=(Ro po k)
 rw[I] at mO aj0;refine bY ?_;refine OD.box (ds:=[_,_]) ap rfl rfl ot rfl rfl (fun b2=>?_);refine an 42 [1,2] ?_;refine cX [1,2,7] (qM) ?_;refine cZ [1,2,4] ?_;refine aS 4 ?_ (h:=by exact(dc 1 (h:=by first|exact .l (j:=(jh t k h t.root).length-1) w4 gi|exact .r (j:=(jh t k h t.root).length-1) w4 gi)));refine aS 0 ?_ (h:=by exact(cU (mk:=Op.load 3) rfl ot (qu (d:=ae (aI t k h t.root)) (i:=(jh t k h t.root).length-1) eo isAgg3 gi (by rw[Z];rfl))));refine bK ?_;refine aD 5 ?_;refine OD.alloc (ds:=[_,_,_,_,_]) ap rfl rfl zeroValue153 rfl (fun b8=>?_);refine aN 0 [_,_,_,_,_] sizeOf153 ?_;refine an 42 [1,4,8] ?_;refine cX [1,4,5,8] (ajY) ?_;refine aD 8 ?_;refine bW 33 (fun aj1 ahD=>?_) (fun aj1 ahD=>?_)
 ·refine aE 6 ?_;refine OD.hU iw rfl rfl rfl call133 (U1 ((t.ag[(aI t k h t.root).toNat]'aa).keys[aL (t.ag[(aI t k h t.root).toNat]'aa) k]'w4) k (ajZ _ (getElem_mem _)) dX) ⟨ot,ot,trivial⟩ ?_;refine an 42 [4,5,6] ?_;refine aJ [] ?_;rw[O,I];first|exact⟨by rw[Ti E w4],rfl⟩|exact⟨by rw[←Tj E w4],rfl⟩
 refine bf [4,5,6] ?_;refine aJ [] ?_;rw[O,I];first|exact⟨by rw[Ti E w4],rfl⟩|exact⟨by rw[←Tj E w4],rfl⟩

end Go.Proofs.YtdgichenhdikgaaGreatDoor.Tw
namespace Go.Proofs.YtdgichenhdikgaaGreatDoor.Tw
open List
open Go.Proofs.Tryz
open Go.RowKit V Tr Pk
abbrev lU(ls:List Int)(ad:Option Addr)(cap:Nat)(S:List ah):Prop:=bp 3 1 (ls.flatMap cI) ls.length ad cap S
abbrev oU(ls:List K)(ad:Option Addr)(cap:Nat)(S:List ah):Prop:=bp 88 1 (ls.flatMap cK) ls.length ad cap S
variable {G:List (Nat×List Value)}
theorem aa9:(Tryz.prog.info? 5).map (fun i=>(i.zero,i.size,i.bytes))=some (some (.int .u8 0),1,1):=by kernel_rfl
theorem j7(a:List UInt8)(ha:a.length≤1000000):VP Tryz.prog G 95 [av 1 cB a] (av 1 cB a):=by
 refine VC.body func95 rfl ntmps95 aQ fun X0 w0 bg=>?_;have dz:=ei;refine af [0] ?_;refine aD 1 ?_;refine OD.zm ap rfl rfl ot bP underlying88 (fun O xY=>?_);refine an 8 [0,4] ?_;refine au ?_ ?_<;>intro aO bE
 ·exact Xi
 refine bY ?_;refine OD.zn ap rfl rfl runUnderlying88 sizeOf5 (fun b5=>?_);refine aE 1 ?_;refine OD.pF (ls:=([]:List UInt8)) (new:=a) (Sq:=[⟨b5,5,0*1,[]⟩]) pL wK ap rfl rfl underlying88 aa9 rfl w7 runUnderlying88 sizeOf5 ot (.inr ⟨b5,rfl,Nat.le_refl _,Nat.zero_le _,rfl⟩) (dg (A:=[])) ot iu iu (fun E I S7 qa=>?_);exact VB
theorem aba:(Tryz.prog.info? 3).map (fun i=>(i.zero,i.size,i.bytes))=some (some (.int .i64 0),1,8):=by kernel_rfl
theorem nZ(a:List Int)(ha:a.length≤1000000):VC Tryz.prog G 120 [av 1 cI a] [] (fun r S=>∃ad cap,r=aP ad a.length cap∧lU a ad cap S):=by
 refine VC.body func120 rfl ntmps120 aQ fun X0 w0 bg=>?_;have dz:=ei;refine af [0] ?_;refine aD 1 ?_;refine OD.zm ap rfl rfl ot bP underlying67 (fun O xY=>?_);refine an 8 [0,4] ?_;refine au ?_ ?_<;>intro aO bE
 ·exact G3
 refine bY ?_;refine OD.zn ap rfl rfl runUnderlying67 sizeOf3 (fun b5=>?_);refine aE 1 ?_;refine OD.pF (ls:=([]:List Int)) (new:=a) (Sq:=[⟨b5,3,0*1,[]⟩]) eo nG ap rfl rfl underlying67 aba rfl w7 runUnderlying67 sizeOf3 ot (.inr ⟨b5,rfl,Nat.le_refl _,Nat.zero_le _,rfl⟩) (dg (A:=[])) ot iu iu (fun E I S7 qa=>?_);exact G5
theorem ZS:(Tryz.prog.info? 88).map (fun i=>(i.zero,i.size,i.bytes))=some (some (.slice none 0 0),1,24):=by kernel_rfl
theorem wi(a:List K)(ha:a.length≤1000000):VC Tryz.prog G 150 [av 1 cK a] [] (fun r S=>∃ad cap,r=aP ad a.length cap∧oU a ad cap S):=by
 refine VC.body func150 rfl ntmps150 aQ fun X0 w0 bg=>?_;have dz:=ei;refine af [0] ?_;refine aD 1 ?_;refine OD.zm ap rfl rfl ot bP underlying151 (fun O xY=>?_);refine an 8 [0,4] ?_;refine au ?_ ?_<;>intro aO bE
 ·exact G3
 refine bY ?_;refine OD.zn ap rfl rfl runUnderlying151 sizeOf88 (fun b5=>?_);refine aE 1 ?_;refine OD.pF (ls:=([]:List K)) (new:=a) (Sq:=[⟨b5,88,0*1,[]⟩]) gl pM ap rfl rfl underlying151 ZS rfl w7 runUnderlying151 sizeOf88 ot (.inr ⟨b5,rfl,Nat.le_refl _,Nat.zero_le _,rfl⟩) (dg (A:=[])) ot iu iu (fun E I S7 qa=>?_);exact G5

structure aB where
 p:de
 ak:Option Addr
 ck:Nat
 sk:List ah
 ai:Option Addr
 ci:Nat
 si:List ah
def gO(o:aB):List D:=[bS o.p.leaf,aP o.ak o.p.keys.length o.ck,aP o.ai o.p.kids.length o.ci,av 1 cB o.p.high,ae o.p.next]
theorem gk(o:aB):(gO o).length=5:=rfl
theorem uZ(o:aB):(gO o).all V.one=true:=rfl
def bO(o:aB):List ah:=o.sk++o.si
def qT(o:aB):Prop:=oU o.p.keys o.ak o.ck o.sk∧lU o.p.kids o.ai o.ci o.si
theorem Tm{S:List ah}:∀{L:List aB},(∀o∈L,qT o)→(∀B∈L.flatMap bO,B∈S)→gH S (L.flatMap gO) ((L.map aB.p).flatMap cP)
 | [],_,_=>trivial
 | o::L,h,hs=>by
  rw[map_cons,flatMap_cons,flatMap_cons];obtain⟨h1,h2⟩:=h o mem_cons_self;refine gH.append ⟨eU,lK h1 (cu gl _) (fun B E=>hs B ?_),lK h2 (cu eo _) (fun B E=>hs B ?_),eU,eU,trivial⟩ (Tm (fun o ho=>h o (mem_cons_of_mem _ ho)) fun B E=>hs B ?_)
  ·rw[flatMap_cons];exact mem_append_left _ (mem_append_left _ E)
  ·rw[flatMap_cons];exact mem_append_left _ (mem_append_right _ E)
  rw[flatMap_cons];exact mem_append_right _ E
abbrev um(L:List aB)(ad:Option Addr)(cap:Nat)(S:List ah):Prop:=bp 153 5 (L.flatMap gO) L.length ad cap S
theorem Km{S Sx:List ah}{L:List aB}{ad:Option Addr}{cap:Nat}{root:Int}(ho:um L ad cap Sx)(h:∀o∈L,qT o)(hs:∀B∈Sx++L.flatMap bO,B∈S) :
  View S (.agg [aP ad L.length cap,ae root]) (.agg (cT ⟨L.map aB.p,root⟩)):=by
 refine uS ⟨?_,eU,trivial⟩;have:=A6 ho (Tm h fun B E=>hs B (mem_append_right _ E)) (cu FD _ |>.trans bq) (fun B E=>hs B (mem_append_left _ E));first|rw[length_map]|(show View _ _ (.list _ _ (length _));rw[length_map])|(show View _ _ (.agg [.list _ _ (length _)]);rw[length_map])
 exact this
def Gz(t:aF)(r:D)(S:List ah):Prop:=∃L ad cap Sx,r = .agg [aP ad (length L) cap,ae t.root]∧um L ad cap Sx∧(∀o∈L,qT o)∧L.map aB.p=t.ag∧S=Sx++L.flatMap bO
theorem RW(L:List aB)(o:aB):(L++[o]).flatMap bO=L.flatMap bO++bO o:=by simp
theorem pE{α:Type}{l:List α}{j:Nat}(h:j<l.length):take j l++[l[j]]=take (j+1) l:=(take_succ_eq_append_getElem h).symm
theorem ZT:(Tryz.prog.info? 88).map (fun i=>(i.zero,i.size,i.bytes))=some (some (.slice none 0 0),1,24):=by kernel_rfl
theorem Za:(Tryz.prog.info? 153).map (fun i=>(i.zero,i.size,i.bytes))=some (some (.agg #[.bool false,.slice none 0 0,.slice none 0 0,.slice none 0 0,.int .i64 0]),5,88):=by kernel_rfl
theorem Om : ∀ w, ((#[{ name := "Leaf", type := 4, offset := 0, embedded := false, tag := "", pkgPath := "", byteOffset := 0 }, { name := "Keys", type := 151, offset := 1, embedded := false, tag := "", pkgPath := "", byteOffset := 8 }, { name := "Kids", type := 67, offset := 2, embedded := false, tag := "", pkgPath := "", byteOffset := 32 }, { name := "High", type := 88, offset := 3, embedded := false, tag := "", pkgPath := "", byteOffset := 56 }, { name := "Next", type := 3, offset := 4, embedded := false, tag := "", pkgPath := "", byteOffset := 80 }] : Array Field).mapM fun f => do pure (f.offset, ← sizeOf f.type) : Sem (Array (Nat × Nat))).run Tryz.prog w = .ok #[(0, 1), (1, 1), (2, 1), (3, 1), (4, 1)] w := fun w => by simp [sizeOf151, sizeOf3, sizeOf4, sizeOf67, sizeOf88]
theorem FE(t:aF)(h:Nat)(v:Valid t h):VC Tryz.prog G 121 [.agg (cT t)] [] (Gz t):=by
 refine VC.body func121 rfl ntmps121 aQ fun X0 w0 bg=>?_;unfold cT;have dz:=ei;have hval:=v;have NN:=v.nN;refine bY ?_;refine OD.box (ds:=[_,_]) ap rfl rfl ot rfl rfl (fun b1=>?_);refine OD.alloc (ds:=[_,_]) ap rfl rfl zeroValue51 rfl (fun b2=>?_);refine an 51 [1,2] ?_;refine aD 3 ?_;refine OD.alloc (ds:=[_,_]) ap rfl rfl zeroValue51 rfl (fun b3=>?_);refine aN 0 [_,_] sizeOf51 ?_;refine an 51 [1,2,3] ?_;refine af [2,3,13,14,15] ?_;refine eD [2,3,13,14] (fun aW _ (E:Nat×List aB×Option Addr×Nat×List ah) aH=>match E with|(i,L,dr,cY,Sx)=>(i≤t.ag.length)∧(L.map aB.p=t.ag.take i)∧(∀o∈L,qT o)∧(um L dr cY Sx)∧aH=(⟨51,(15,ae (i:Nat))::aW,(⟨b3,51,2,[aP dr L.length cY,ae t.root]⟩::⟨b2,51,2,[bA,ae 0]⟩::(Sx++L.flatMap bO))⟩:St)) (fun (E:Nat×List aB×Option Addr×Nat×List ah)=>match E with|(i,L,dr,cY,Sx)=>t.ag.length-i) (0,([]:List aB),none,0,[]) ⟨(Nat.zero_le _),rfl,(fun o h=>by cases h),ik,rfl⟩ ?_;rintro⟨i,L,dr,cY,Sx⟩ _ ⟨hi,hL,aR,dY,rfl⟩;refine af [2,3,13,14,15,16] ?_;refine au ?_ ?_<;>intro aO bE
 ·have aa:i<t.ag.length:=(by omega)
  have po:=v.fD _ (getElem_mem aa);have rV:L.length=i:=(by have:=congrArg length hL;rw[length_map,length_take] at this;omega)
  have mO:=po.eJ;have Yh:=po.hlen;have F1:(t.ag[i]'aa).kids.length≤5:=by
      exact Xm
  refine aD 2 ?_;refine OD.alloc (ds:=[_,_,_,_,_]) ap rfl rfl zeroValue153 rfl (fun b5=>?_);refine aN 0 [_,_,_,_,_] sizeOf153 ?_;refine an 51 [2,3,5,13,14,15] ?_;refine bY ?_;refine bf [2,3,5,6,13,14,15] ?_;refine af [2,3,5,6,13,14,15,20,21,22] ?_;refine CD.block ?_;refine mV (fun (E:Nat×Option Addr×Nat×List ah) aH=>match E with|(j,gD,gE,Sy)=>(j≤(t.ag[i]'aa).keys.length)∧(oU (take j (t.ag[i]'aa).keys) gD gE Sy)∧aH=(⟨51,[(2,dM b2),(3,dM b3),(5,dM b5),(6,aP gD (take j (t.ag[i]'aa).keys).length gE),(13,av 5 cP t.ag),(14,ae (t.ag.length:Nat)),(15,ae (i:Nat)),(20,.list 1 ((t.ag[i]'aa).keys.flatMap cK) (t.ag[i]'aa).keys.length),(21,ae ((t.ag[i]'aa).keys.length:Nat)),(22,ae (j:Nat))],(⟨b5,153,5,cP (t.ag[i]'aa)⟩::⟨b3,51,2,[aP dr L.length cY,ae t.root]⟩::⟨b2,51,2,[bA,ae 0]⟩::(Sy++(Sx++L.flatMap bO)))⟩:St)) (fun (E:Nat×Option Addr×Nat×List ah)=>match E with|(j,gD,gE,Sy)=>(t.ag[i]'aa).keys.length-j) (0,none,0,[]) ⟨(Nat.zero_le _),ik,rfl⟩ (aK (h:=by repeat (first|exact trivial|refine⟨(by (repeat (first|exact fB|(apply fU;focus (first|rfl|(simp;done)|(congr 2;omega)|(apply eL;exact pE O)))|(apply fH;focus rfl)));done),?_⟩))) ?_;rintro⟨j,gD,gE,Sy⟩ _ ⟨hj,U,rfl⟩;refine af [2,3,5,6,13,14,15,20,21,22,23] ?_;refine au ?_ ?_<;>intro aY cJ
  ·have O:j<(t.ag[i]'aa).keys.length:=(by omega)
   have LO:=(po.lC _ (getElem_mem O)).2;refine af [2,3,5,6,8,13,14,15,20,21,22] ?_;refine dO 2 ?_;refine dV call95 (j7 (t.ag[i]'aa).keys[j] w4) ?_;refine ev (cc 0 [_]) [.slice none 0 0] [_] zeroValue88 runUnderlying151 sizeOf88 (fun uJ=>?_);refine fF 0 29 1 1 ?_;refine OD.en (ls:=(take j (t.ag[i]'aa).keys)) (new:=[(t.ag[i]'aa).keys[j]]) (Sq:=Sy) gl pM ap rfl rfl underlying151 ZT rfl w7 ot U (IY (A:=[_,_,_])) ot bq vH iu (fun Z I LH LI=>?_);refine OD.perm (QA (S1:=[⟨Z,88,I*1,flatMap cK ((take j (t.ag[i]'aa).keys)++[(t.ag[i]'aa).keys[j]])⟩]) (A:=[_,_,_])) ?_;refine an 51 [2,3,5,6,13,14,15,20,21,22] ?_;refine cl [2,3,5,6,13,14,15,20,21,22] ?_;refine⟨((j+1),(some ⟨Z,0,none⟩),I,[⟨Z,88,I*1,flatMap cK ((take j (t.ag[i]'aa).keys)++[(t.ag[i]'aa).keys[j]])⟩]),_,cz,(aK (h:=by repeat (first|exact trivial|refine⟨(by (repeat (first|exact fB|(apply fU;focus (first|rfl|(simp;done)|(congr 2;omega)|(apply eL;exact pE O)))|(apply fH;focus rfl)));done),?_⟩))),w4,(bp.cast (bH LH LI) (pE O)),rfl⟩
  have hjt:take j (t.ag[i]'aa).keys=(t.ag[i]'aa).keys:=take_of_length_le w4;rw[hjt] at U ⊢;refine CD.exit ?_;refine fE 16 (aq (take 1 _)) ?_ (fun _ h=>(Sublist.map _ (take_sublist _ _)).subset h);refine ay 0 rfl (dh 0) ?_;refine ay 2 rfl (dh 0) ?_;refine ay 3 rfl (dI 0) ?_;refine ay 4 rfl aZ ?_;refine ay 5 rfl (dh 2) ?_;refine ay 6 rfl (dI 0) ?_;refine ay 8 rfl (dh 3) ?_;refine ay 9 rfl (dI 0) ?_;refine ay 11 rfl (dh 4) ?_;refine ay 12 rfl (dI 0) ?_;refine dm.later rfl ?_;refine AD.two (i:=1) (j:=7) aA ?_ ?_
  ·refine at_ rfl (dI 1) ?_;refine AD.one (i:=7) aA ?_;refine bj.call rfl ap rfl rfl rfl call120 (nZ (t.ag[i]'aa).kids w4) ⟨ot,trivial⟩ (eR _) (fun b hb=>by simp[aq,St.put] at hb ⊢;try simp[hb]) ?_;rintro _ Sz ⟨lX,lY,rfl,yt⟩;refine AD.perm (jo (A:=[_,_,_])) ?_;have vL:(L++[(⟨(t.ag[i]'aa),gD,gE,Sy,lX,lY,Sz⟩:aB)]).map aB.p=t.ag.take (i+1):=(by rw[map_append,hL];exact pE aa)
   have jW:∀o∈L++[(⟨(t.ag[i]'aa),gD,gE,Sy,lX,lY,Sz⟩:aB)],qT o:=fun o ho=>by rcases mem_append.1 ho with ho|ho;exact aR o ho;rw[mem_singleton] at ho;subst ho;exact⟨U,yt⟩
   exact Vw
  refine bj.call rfl ap rfl rfl rfl call120 (nZ (t.ag[i]'aa).kids w4) ⟨ot,trivial⟩ (eR _) (fun b hb=>by simp[aq,St.put] at hb ⊢;try simp[hb]) ?_;rintro _ Sz ⟨lX,lY,rfl,yt⟩;refine AD.perm (jo (A:=[_,_,_])) ?_;have vL:(L++[(⟨(t.ag[i]'aa),gD,gE,Sy,lX,lY,Sz⟩:aB)]).map aB.p=t.ag.take (i+1):=(by rw[map_append,hL];exact pE aa)
  have jW:∀o∈L++[(⟨(t.ag[i]'aa),gD,gE,Sy,lX,lY,Sz⟩:aB)],qT o:=fun o ho=>by rcases mem_append.1 ho with ho|ho;exact aR o ho;rw[mem_singleton] at ho;subst ho;exact⟨U,yt⟩
  refine AD.two (i:=1) (j:=10) aA ?_ ?_
  ·refine at_ rfl (dI 1) ?_;exact Vw
  refine jm call95 (j7 (t.ag[i]'aa).high w4) ?_;refine cr 13 rfl (nE (pl:=[(0,_),(1,_),(2,_),(3,_),(4,_)]) (ds:=[_,_,_,_,_]) rfl zeroValue153 runUnderlying153 Om ⟨rfl,ot,rfl,ot,rfl,ot,rfl,ot,rfl,ot,trivial⟩ rfl rfl) ?_;refine AD.two (i:=1) (j:=14) aA ?_ ?_
  ·refine at_ rfl (dI 1) ?_;refine AD.one (i:=14) aA ?_;refine iV (cc 0 [_]) [.bool false,.slice none 0 0,.slice none 0 0,.slice none 0 0,.int .i64 0] [_,_,_,_,_] zeroValue153 runUnderlying49 sizeOf153 (fun Ay=>?_);refine iW 0 46 5 1 ?_;exact MG
  refine iV (cc 0 [_]) [.bool false,.slice none 0 0,.slice none 0 0,.slice none 0 0,.int .i64 0] [_,_,_,_,_] zeroValue153 runUnderlying49 sizeOf153 (fun Ay=>?_);refine iW 0 46 5 1 ?_;refine AD.one (i:=1) aA ?_;refine at_ rfl (dI 1) ?_;exact MG
 refine aD 1 ?_;refine aN 1 [_,_] sizeOf51 ?_;refine an 51 [2] ?_;refine aJ (Sx++L.flatMap bO) ?_;exact⟨L,dr,cY,Sx,rfl,dY,aR,by rw[hL,take_of_length_le w4],rfl⟩

end Go.Proofs.YtdgichenhdikgaaGreatDoor.Tw

namespace Go.Proofs.YtdgichenhdikgaaGreatDoor.Tw
open List
open Go.Proofs.Tryz
open Go.RowKit V Go.Proofs.YtdgichenhdikgaaGreatDoor.Tr Pk
open Go.Lib (compareBytes)
variable {t:aF} {lv:List (List Int)} {level:Nat} {i:Int}
structure nI (t:aF) (s:jC):Prop where
 nd:s.1.Nodup
 rg:∀x∈s.1,0≤x∧x<t.ag.length
 eJ:s.2.length≤s.1.length
 each:∀l∈s.2,l.length≤s.1.length
 el:∀l∈s.2,∀x∈l,0≤x∧x<t.ag.length
theorem acM{n:Nat}{l:List Int}(h:l.Nodup)(hr:∀x∈l,0≤x∧x<n):l.length≤n:=by
 induction n generalizing l with
 | zero =>
  cases l with
  | nil=>simp
  | cons a l=>have:=hr a mem_cons_self;omega
 | succ n ih =>
  have h1:=ih (l:=l.erase (n:Int)) (h.erase _) fun x hx=>by
   have h2:=(h.mem_erase_iff).1 hx;have h3:=hr x h2.2;have:=h2.1;omega
  rw[length_erase] at h1;split at h1<;>omega
theorem nI.nN{s:jC}(h:nI t s):s.1.length≤t.ag.length:=acM h.nd h.rg
theorem abb{n:Nat}(h:∀l∈lv,l.length≤n):∀l∈kL lv level i,l.length≤n+1:=fun l hl=>by
 obtain⟨j,hj,rfl⟩:=mem_iff_getElem.1 hl;have e:(kL lv level i)[j]=(kL lv level i).getD j []:=(by rw[getD_eq_getElem?_getD,getElem?_eq_getElem hj];rfl)
 rw[e,Fj,length_append];have h1:(lv.getD j []).length≤n:=by
  rw[getD_eq_getElem?_getD];rcases Nat.lt_or_ge j lv.length with q|q
  ·rw[getElem?_eq_getElem q];exact h _ (getElem_mem q)
  rw[getElem?_eq_none q];simp
 split
 ·simp only[length_cons,length_nil];omega
 simp only[length_nil];omega
theorem aeA{Q:Int→Prop}(h:∀l∈lv,∀x∈l,Q x)(hi:Q i):∀l∈kL lv level i,∀x∈l,Q x:=fun l hl x hx=>by
 obtain⟨j,hj,rfl⟩:=mem_iff_getElem.1 hl;have e:(kL lv level i)[j]=(kL lv level i).getD j []:=(by rw[getD_eq_getElem?_getD,getElem?_eq_getElem hj];rfl)
 rw[e,Fj,mem_append] at hx;rcases hx with hx|hx
 ·rw[getD_eq_getElem?_getD] at hx;rcases Nat.lt_or_ge j lv.length with q|q
  ·rw[getElem?_eq_getElem q] at hx;exact h _ (getElem_mem q) x hx
  rw[getElem?_eq_none q] at hx;cases hx
 split at hx
 ·rw[mem_singleton] at hx;subst hx;exact hi
 cases hx
theorem nI.add{s:jC}(h:nI t s)(hi:0≤i∧i<t.ag.length)(hn:i∉s.1)(hl:level≤s.1.length):nI t (s.1++[i],kL s.2 level i):=by
 refine⟨?_,fun x hx=>?_,?_,?_,aeA h.el hi⟩
 ·exact nodup_append.2 ⟨h.nd,by simp,fun a ha b hb e=>by rw[mem_singleton] at hb;subst hb;subst e;exact hn ha⟩
 ·rcases mem_append.1 hx with hx|hx
  ·exact h.rg x hx
  rw[mem_singleton] at hx;subst hx;exact hi
 ·show(kL s.2 level i).length≤(s.1++[i]).length;rw[Ja,length_append];have:=h.eJ;simp;omega
 show ∀l∈kL s.2 level i,l.length≤(s.1++[i]).length;rw[length_append];exact abb h.each
theorem Rp{t:aF}{go:Int→K→K→jC→Option (Nat×jC)}{low:K}{p:de}{n:Nat}(E:∀(c:Int) lo hi s d s',(0≤c∧c<t.ag.length)→nI t s→n≤s.1.length→go c lo hi s=some (d,s')→nI t s'∧s.1.length≤s'.1.length) :
  ∀(cs:List Int) (k:Nat) (deep:Option Nat) (s:jC) (d:Nat) (s':jC),(∀c∈cs,0≤c∧c<t.ag.length)→nI t s→n≤s.1.length→lP go low p cs k deep s=some (d,s')→nI t s'∧s.1.length≤s'.1.length
 | [],k,deep,s,d,s',_,hs,_,h=>by
  rw[lP] at h;cases deep with
  | none=>cases h
  | some e=>simp at h;rw[←h.2];exact⟨hs,Nat.le_refl _⟩
 | c::cs,k,deep,s,d,s',hc,hs,hn,h=>by
  rw[lP] at h;cases hg:go c (iz low p k) (gZ p k) s with
  | none=>rw[hg] at h;cases h
  | some q =>
   obtain⟨d1,s1⟩:=q;rw[hg] at h;obtain⟨h1,h2⟩:=E _ _ _ _ _ _ (hc c mem_cons_self) hs hn hg;change (if deep=none∨deep=some d1 then lP go low p cs (k+1) (some d1) s1 else none)=_ at h;split at h
   ·obtain⟨h3,h4⟩:=Rp E cs _ _ _ _ _ (fun c uH=>hc c (mem_cons_of_mem _ uH)) h1 w4 h;exact⟨h3,by omega⟩
   cases h
theorem PS{p:de}(hp:eH p t.ag.length)(hl:p.leaf=false):∀c∈p.kids,0≤c∧c<t.ag.length:=fun c hc=>⟨hp.aC c hc,hp.vu hl c hc⟩
theorem JR{t:aF}(hp:uX t):∀(f:Nat) (i:Int) (lo hi:K) (level:Nat) (s:jC) (d:Nat) (s':jC),(0≤i∧i<t.ag.length)→nI t s→level≤s.1.length→jv t f i lo hi level s=some (d,s')→nI t s'∧s.1.length≤s'.1.length
 | 0,i,lo,hi,level,s,d,s',_,_,_,h=>by rw[jv] at h;cases h
 | f+1,i,lo,hi,level,s,d,s',hr,hs,hl,h=>by
  rw[jv] at h;split at h
  ·cases h
  rename_i hn;split at h
  ·cases h
  have ha:=hs.add hr hn hl;have hlen:s.1.length+1=(s.1++[i]).length:=(by simp)
  split at h
  ·simp at h;rw[←h.2];exact⟨ha,by show s.1.length≤(s.1++[i]).length;omega⟩
  rename_i fM;have fM:(t.pg i).leaf=false:=(by simpa using fM)
  obtain⟨h1,h2⟩:=Rp (n:=level+1) (fun c lo hi s d s' hc hs hn h=>JR hp f c lo hi (level+1) s d s' hc hs hn h) _ _ _ _ _ _ (PS (hp _ (jE hr)) fM) ha (by show level+1≤(s.1++[i]).length;omega) h;have h3:(s.1++[i]).length≤s'.1.length:=h2;exact⟨h1,by omega⟩
structure dK where
 l:List Int
 ad:Option Addr
 cp:Nat
 s:List ah
variable {L:List dK}
def gV(o:dK):List D:=[aP o.ad o.l.length o.cp]
theorem wM(o:dK):(gV o).length=1:=rfl
theorem af6(o:dK):(gV o).all V.one=true:=rfl
def mW(o:dK):Prop:=lU o.l o.ad o.cp o.s
def rB:dK:=⟨[],none,0,[]⟩
theorem aeB:mW rB:=.inl ⟨rfl,rfl,rfl,rfl,rfl⟩
abbrev zR(L:List dK)(ad:Option Addr)(cap:Nat)(S:List ah):Prop:=bp 67 1 (L.flatMap gV) L.length ad cap S
def V3(t:aF)(b bm:Nat)(n:Nat)(ad:Option Addr)(cap:Nat):ah:=⟨b,159,4,[av 5 cP t.ag,ae t.root,.v (.map (some bm)),aP ad n cap]⟩
def SW(t:aF)(b bm:Nat)(m:List Int)(L:List dK)(ad:Option Addr)(cap:Nat)(Sx:List ah):List ah:=V3 t b bm L.length ad cap::kW bm m::(Sx++L.flatMap dK.s)
def V4(t:aF)(b bm:Nat):Option (Nat×jC)→D→List ah→Prop
 | none,r,S=>r = .v (.int .i64 (-1))∧S=[]
 | some (d,s),r,S=>r = .v (.int .i64 (d:Nat))∧∃L ad cap Sx,zR L ad cap Sx∧(∀o∈L,mW o)∧L.map dK.l=s.2∧S=SW t b bm s.1 L ad cap Sx
theorem y6{α:Type}(g:α→List ah):∀{L:List α} {j:Nat} (h:j<L.length),(L.flatMap g).Perm (g L[j]++(L.eraseIdx j).flatMap g)
 | a::L,0,_=>by simp
 | a::L,j+1,h=>by
  have E:=y6 g (L:=L) (j:=j) ph;simp only[flatMap_cons,getElem_cons_succ,eraseIdx_cons_succ];refine(E.append_left (g a)).trans ?_;rw[←append_assoc,←append_assoc];exact List.perm_append_comm.append_right _
theorem qW{α:Type}(g:α→List ah){L:List α}{j:Nat}(h:j<L.length)(a:α):((L.set j a).flatMap g).Perm (g a++(L.eraseIdx j).flatMap g):=by
 have:=y6 g (L:=L.set j a) (j:=j) (by rw[length_set];exact h);rw[getElem_set_self,eraseIdx_set_eq] at this;exact this
def sF:Option Nat→Int
 | none=>-2
 | some d=>d
variable {G:List (Nat×List Value)}

theorem af7{f:Nat}{low high:K}{s:jC}(h:i∈s.1):jv t (f+1) i low high level s=none:=by rw[jv,if_pos h]
theorem Tn{f:Nat}{low high:K}{s:jC}(h:((t.pg i).high≠high∨∃k,(t.pg i).keys.head?=some k∧bF k low)):jv t (f+1) i low high level s=none:=by
 rw[jv];by_cases hi:i∈s.1
 ·rw[if_pos hi]
 rw[if_neg hi,if_pos h]
theorem acN{f:Nat}{low high:K}{s:jC}(h:i∉s.1)(h2:¬((t.pg i).high≠high∨∃k,(t.pg i).keys.head?=some k∧bF k low))(h3:(t.pg i).leaf=true):jv t (f+1) i low high level s=some (level,(s.1++[i],kL s.2 level i)):=by rw[jv,if_neg h,if_neg h2,if_pos h3]
theorem acO{f:Nat}{low high:K}{s:jC}(h:i∉s.1)(h2:¬((t.pg i).high≠high∨∃k,(t.pg i).keys.head?=some k∧bF k low))(h3:(t.pg i).leaf=false):jv t (f+1) i low high level s=lP (fun c lo hi s=>jv t f c lo hi (level+1) s) low (t.pg i) (t.pg i).kids 0 none (s.1++[i],kL s.2 level i):=by rw[jv,if_neg h,if_neg h2,if_neg (by rw[h3];decide)]
section
variable {go:Int→K→K→jC→Option (Nat×jC)} {low:K} {p:de} {k:Nat} {deep:Option Nat} {s s':jC} {d:Nat}
theorem abc(hk:k<p.kids.length)(h:go p.kids[k] (iz low p k) (gZ p k) s=none):lP go low p (p.kids.drop k) k deep s=none:=by rw[drop_eq_getElem_cons hk,lP,h]
theorem PT(hk:k<p.kids.length)(h:go p.kids[k] (iz low p k) (gZ p k) s=some (d,s'))(hd:deep=none∨deep=some d):lP go low p (p.kids.drop k) k deep s=lP go low p (p.kids.drop (k+1)) (k+1) (some d) s':=by
 rw[drop_eq_getElem_cons hk,lP,h];show(if deep=none∨deep=some d then _ else _)=_;rw[if_pos hd]
theorem acP(hk:k<p.kids.length)(h:go p.kids[k] (iz low p k) (gZ p k) s=some (d,s'))(hd:¬(deep=none∨deep=some d)):lP go low p (p.kids.drop k) k deep s=none:=by
 rw[drop_eq_getElem_cons hk,lP,h];show(if deep=none∨deep=some d then _ else _)=_;rw[if_neg hd]
theorem acQ(hk:p.kids.length≤k):lP go low p (p.kids.drop k) k deep s=deep.map fun d=>(d,s):=by rw[drop_of_length_le hk,lP]
end
theorem abd:(L++[rB]).flatMap dK.s=L.flatMap dK.s:=by simp[rB]
theorem aeC{E:List dK}(h:E.map dK.l=L.map dK.l++replicate (E.length-L.length) [])(h1:L.length≤E.length)(h2:E.length≤max L.length (level+1))(h3:level<E.length):E.map dK.l=sP (L.map dK.l) (level+1):=by
 rw[h];unfold sP;rw[length_map,show E.length-L.length=level+1-L.length from by omega]
theorem JS{E:List dK}{o:dK}(h:E.map dK.l=sP (L.map dK.l) (level+1))(h3:level<E.length)(ho:o.l=E[level].l++[i]):(E.set level o).map dK.l=kL (L.map dK.l) level i:=by
 rw[map_set,ho];unfold kL;rw[←h,getD_eq_getElem?_getD,getElem?_eq_getElem (by rw[length_map];exact h3),getElem_map];rfl
theorem Tp{j:Nat}{o:dK}(h:∀o∈L,mW o)(ho:mW o):∀x∈L.set j o,mW x:=fun x hx=>by
 rcases mem_or_eq_of_mem_set hx with hx|rfl
 ·exact h x hx
 exact ho
theorem Rq{deep:Option Nat}{d:Nat}(h:sF deep≠-2)(h2:(d:Int)=sF deep):deep=some d:=by
 cases deep with
 | none=>exact absurd rfl h
 | some e=>unfold sF at h2;simp only at h2;rw[show d=e from by omega]
theorem acR{deep:Option Nat}{d:Nat}(h:sF deep≠-2)(h2:¬(d:Int)=sF deep):¬(deep=none∨deep=some d):=by
 rintro(rfl|rfl)
 ·exact h rfl
 exact h2 rfl
theorem PU{deep:Option Nat}(h:sF deep = -2):deep=none:=by
 cases deep with
 | none=>rfl
 | some e=>unfold sF at h;simp only at h;omega
def U4(G:List (Nat×List Value))(t:aF)(b bm f:Nat):Prop:=∀(i:Int) (low high:K) (level:Nat) (m:List Int) (L:List dK) (ad:Option Addr) (cap:Nat) (Sx:List ah),(0≤i∧i<t.ag.length)→nI t (m,(L.map dK.l))→level≤m.length→t.ag.length+1≤f+m.length→high.length≤100→zR L ad cap Sx→(∀o∈L,mW o) →
 VC Tryz.prog G 92 [dM b,ae i,av 1 cB low,av 1 cB high,ae (level:Nat)] (SW t b bm m L ad cap Sx) (V4 t b bm (jv t f i low high level (m,(L.map dK.l))))

theorem PV:(Tryz.prog.info? 3).map (fun i=>(i.zero,i.size,i.bytes))=some (some (.int .i64 0),1,8):=by kernel_rfl

theorem ZU:(Tryz.prog.info? 67).map (fun i=>(i.zero,i.size,i.bytes))=some (some (.slice none 0 0),1,24):=by kernel_rfl

theorem abe(t:aF)(hp:uX t)(rC:t.ag.length≤4000)(b bm f:Nat)(ih:U4 G t b bm f)(i:Int)(low high:K)(level:Nat)(m:List Int)(L:List dK)(ad:Option Addr)(cap:Nat)(Sx:List ah)(hr:0≤i∧i<t.ag.length)(GA:nI t (m,(L.map dK.l)))(hlm:level≤m.length)(hfu:t.ag.length+1≤(f+1)+m.length)(Yi:high.length≤100)(mS:zR L ad cap Sx)(aR:∀o∈L,mW o) :
 VC Tryz.prog G 92 [dM b,ae i,av 1 cB low,av 1 cB high,ae (level:Nat)] (SW t b bm m L ad cap Sx) (V4 t b bm (jv t (f+1) i low high level (m,(L.map dK.l)))):=by
 refine VC.body func92 rfl ntmps92 aQ fun X0 w0 bg=>?_;unfold SW V3;have dz:=ei;have aa:i.toNat<t.ag.length:=(by omega)
 have qh:t.pg i=(t.ag[i.toNat]'aa):=vh hr;have po:eH (t.ag[i.toNat]'aa) t.ag.length:=hp _ (getElem_mem aa);have Yh:=po.hlen;have M1:=GA.nN;have Dp:m.length≤t.ag.length:=M1;refine af [0,1,2,3,4] ?_;refine aD 5 ?_;refine bN (aay (i:=1) rfl ot ot rfl underlying156 underlying3 zeroValue203) ?_;refine aE 3 ?_;refine OD.alloc (ds:=[]) ap rfl rfl zeroValue203 rfl (fun k8=>?_);refine aN 0 [] sizeOf203 ?_;refine an 148 [0,1,2,3,4,12] ?_;refine af [0,1,2,3,4,29] ?_;refine au ?_ ?_<;>intro aO bE
 ·have ko:i∈m:=(by simpa using aO)
  refine af [10] ?_;refine aJ [] ?_;rw[af7 (by exact ko)];exact⟨rfl,rfl⟩
 have nU:i∉m:=(by simpa using aO)
 refine aD 6 ?_;refine OD.addKey (i:=2) ap rfl rfl ot ot ot rfl nU underlying156 underlying3 ?_;refine an 148 [0,1,2,3,4] ?_;refine aD 6 ?_;refine bN (dc 5 (h:=by first|exact .l (j:=i.toNat) (Int.toNat_of_nonneg hr.1).symm aa|exact .r (j:=i.toNat) (Int.toNat_of_nonneg hr.1).symm aa)) ?_;refine aE 1 ?_;refine OD.alloc (ds:=[_,_,_,_,_]) ap rfl rfl zeroValue153 rfl (fun mC=>?_);refine aN 0 [_,_,_,_,_] sizeOf153 ?_;refine an 148 [0,1,2,3,4,13] ?_;refine jQ [0,1,2,3,4] (fun aW _ aH=>∃(mC:Nat),(¬((t.pg i).high≠high∨∃k,(t.pg i).keys.head?=some k∧bF k low))∧aH=(⟨148,(13,dM mC)::aW,(⟨mC,153,5,cP (t.ag[i.toNat]'aa)⟩::⟨b,159,4,[av 5 cP t.ag,ae t.root,.v (.map (some bm)),aP ad L.length cap]⟩::kW bm (m++[i])::(Sx++L.flatMap dK.s))⟩:St)) ?_ ?_
 ·refine aD 3 ?_;refine dV call133 (U1 (t.ag[i.toNat]'aa).high high w4 w4) ?_;refine aE 2 ?_;refine bW 49 (fun Cq ahE=>?_) (fun Cq ahE=>?_)
  ·refine an 148 [0,1,2,3,4,13,63] ?_;refine eI ?_;have ow:((t.pg i).high≠high∨∃k,(t.pg i).keys.head?=some k∧bF k low):=(by rw[qh];first|exact .inl (by simpa using Cq)|exact .inr ⟨_,head?_eq_getElem? .. ▸ getElem?_eq_getElem w4,of_decide_eq_true aY⟩)
   refine af [10] ?_;refine aJ [] ?_;rw[Tn ow];exact⟨rfl,rfl⟩
  refine aE 5 ?_;refine bW 54 (fun zH zj=>?_) (fun zH zj=>?_)
  ·refine aE 2 ?_;refine OD.still iw rfl (so (mk:=Op.indexAddr 151) rfl ot bP (by first|exact tO (j:=0) runUnderlying151 sizeOf88 rfl Aj|exact tX (j:=0) runUnderlying151 sizeOf88 rfl Aj)) ?_;refine aE 2 ?_;refine OD.hU iw rfl rfl rfl call51 (wH ((t.ag[i.toNat]'aa).keys[0]'w4) low) ⟨ot,ot,trivial⟩ ?_;refine an 148 [0,1,2,3,4,13,63] ?_;refine au ?_ ?_<;>intro aY cJ
   ·have ow:((t.pg i).high≠high∨∃k,(t.pg i).keys.head?=some k∧bF k low):=(by rw[qh];first|exact .inl (by simpa using Cq)|exact .inr ⟨_,head?_eq_getElem? .. ▸ getElem?_eq_getElem w4,of_decide_eq_true aY⟩)
    refine af [10] ?_;refine aJ [] ?_;rw[Tn ow];exact⟨rfl,rfl⟩
   have oo:¬((t.pg i).high≠high∨∃k,(t.pg i).keys.head?=some k∧bF k low):=(by rw[qh];rintro(h|⟨k,hk,vp⟩);exact h (by simpa using Cq);first|(rw[head?_eq_getElem?,getElem?_eq_none w4] at hk;cases hk;done)|(rw[head?_eq_getElem?,getElem?_eq_getElem w4] at hk;cases hk;exact of_decide_eq_false aY vp))
   refine CD.skip ?_;refine⟨_,aK,mC,oo,rfl⟩
  refine an 148 [0,1,2,3,4,13,63] ?_;refine fN ?_;have oo:¬((t.pg i).high≠high∨∃k,(t.pg i).keys.head?=some k∧bF k low):=(by rw[qh];rintro(h|⟨k,hk,vp⟩);exact h (by simpa using Cq);first|(rw[head?_eq_getElem?,getElem?_eq_none w4] at hk;cases hk;done)|(rw[head?_eq_getElem?,getElem?_eq_getElem w4] at hk;cases hk;exact of_decide_eq_false aY vp))
  refine CD.skip ?_;refine⟨_,aK,mC,oo,rfl⟩
 rintro _ ⟨mC,oo,rfl⟩;refine eD [0,1,2,3,4,13] (fun aW _ (mq:List dK×Option Addr×Nat×List ah) aH=>match mq with|(I,Hz,Z,Dt)=>(zR I Hz Z Dt)∧(∀o∈I,mW o)∧(I.map dK.l=L.map dK.l++replicate (I.length-L.length) [])∧(L.length≤I.length)∧(I.length≤max L.length (level+1))∧aH=(⟨148,aW,(⟨mC,153,5,cP (t.ag[i.toNat]'aa)⟩::⟨b,159,4,[av 5 cP t.ag,ae t.root,.v (.map (some bm)),aP Hz I.length Z]⟩::kW bm (m++[i])::(Dt++I.flatMap dK.s))⟩:St)) (fun (mq:List dK×Option Addr×Nat×List ah)=>match mq with|(I,Hz,Z,Dt)=>level+1-I.length) (L,ad,cap,Sx) ⟨mS,aR,bq,(Nat.le_refl _),w4,rfl⟩ ?_;rintro⟨I,Hz,Z,Dt⟩ _ ⟨V5,pX,V6,aj2,aj3,rfl⟩;refine af [0,1,2,3,4,13,70] ?_;refine au ?_ ?_<;>intro cm cW
 ·have mO:=GA.eJ;have mO:L.length≤m.length:=(by simpa using mO)
  have E:I.length≤level:=(by omega)
  refine dO 5 ?_;refine ev (cc 0 [_]) [.slice none 0 0] [_] zeroValue67 runUnderlying157 sizeOf67 (fun b76=>?_);refine fF 0 76 1 1 ?_;refine OD.en (ls:=I) (new:=[rB]) (Sq:=Dt) wM af6 ap rfl rfl underlying157 ZU rfl w7 ot V5 (oO (A:=[_,_,_])) ot bq GO GO (fun NQ LP aj4 aj5=>?_);refine OD.perm (jo (S1:=[⟨NQ,67,LP*1,flatMap gV (I++[rB])⟩]) (A:=[_,_,_])) ?_;rw[←abd (L:=I)];refine aE 2 ?_;refine aN 1 [_,_,_,_] sizeOf157 ?_;refine an 148 [0,1,2,3,4,13] ?_;refine⟨((I++[rB]),(some ⟨NQ,0,none⟩),LP,[⟨NQ,67,LP*1,flatMap gV (I++[rB])⟩]),_,(by (show level+1-(I++[rB]).length<level+1-I.length;rw[length_append,show[rB].length=1 from rfl];omega)),aK,(bH aj4 aj5),(fun o ho=>by rcases mem_append.1 ho with ho|ho;exact pX o ho;rw[mem_singleton] at ho;subst ho;exact aeB),(by rw[map_append,V6,append_assoc,length_append,show[rB].length=1 from rfl,show I.length+1-L.length=I.length-L.length+1 from by omega,replicate_succ'];rfl),vE,(by rw[length_append,show[rB].length=1 from rfl];omega),rfl⟩
 have E:level<I.length:=(by omega)
 have zS:=aeC V6 aj2 aj3 E;obtain⟨bv,rfl,Cp,BR,rfl⟩:=V5.pos w4;have dY:mW (I[level]'E):=pX _ (getElem_mem E);have l8:(I[level]'E).l.length≤m.length:=by
    have hz:(I[level]'E).l=(sP (L.map dK.l) (level+1)).getD level []:=(by rw[←zS,getD_eq_getElem?_getD,getElem?_eq_getElem (by rw[length_map];exact E),getElem_map];rfl)
    rw[hz,JQ,getD_eq_getElem?_getD];rcases Nat.lt_or_ge level (L.map dK.l).length with q|q
    ·rw[getElem?_eq_getElem q];exact GA.each _ (getElem_mem q)
    rw[getElem?_eq_none q];simp
 refine CD.perm (Perm.cons _ (Perm.cons _ (Perm.cons _ ((y6 dK.s E).append_left _)))) ?_;refine CD.exit ?_;refine CD.seq ?_;refine CD.mono (Q:=fun aW aH=>aW=Exit.normal∧∃(o2:dK),(mW o2)∧(o2.l=(I[level]'E).l++[i])∧Wk aH (⟨148,[(0,dM b),(2,av 1 cB low),(3,av 1 cB high),(4,ae (level:Nat)),(13,dM mC)],(⟨mC,153,5,cP (t.ag[i.toNat]'aa)⟩::⟨b,159,4,[av 5 cP t.ag,ae t.root,.v (.map (some bm)),aP (some ⟨bv,0,none⟩) (I.set level o2).length Z]⟩::kW bm (m++[i])::([⟨bv,67,Z*1,flatMap gV (I.set level o2)⟩]++(I.set level o2).flatMap dK.s))⟩:St)) ?_ ?_
 ·refine CD.draw (aq (take 3 _)) aA (fun _ h=>(Sublist.map _ (take_sublist _ _)).subset h) ?_;refine ay 0 rfl aZ ?_;refine ay 1 rfl lW ?_;refine ay 2 rfl (dh 3) ?_;refine ay 3 rfl (dI 1) ?_;refine ay 4 rfl aZ ?_;refine ay 5 rfl aZ ?_;refine ay 6 rfl lW ?_;refine ay 7 rfl (dh 3) ?_;refine ay 8 rfl (dI 1) ?_;refine ay 9 rfl aZ ?_;refine ay 10 rfl (dc 1) ?_;refine ay 12 rfl aZ ?_;refine dm.later rfl ?_;refine AD.two (i:=11) (j:=13) aA ?_ ?_
  ·refine at_ rfl (cU (mk:=Op.load 67) rfl ot (jb (k:=3) (d:=aP (I[level]'E).ad (I[level]'E).l.length (I[level]'E).cp) (i:=level) wM rfl rfl rfl isAgg67 E rfl)) ?_;refine AD.one (i:=13) aA ?_;refine iV (cc 0 [_]) [.int .i64 0] [_] zeroValue3 runUnderlying67 sizeOf3 (fun X7=>?_);refine iW 0 93 1 1 ?_;refine AD.one (i:=14) aA ?_;refine bj.en (ls:=(I[level]'E).l) (new:=[i]) (Sq:=(I[level]'E).s) eo nG rfl ap rfl rfl underlying67 PV rfl w7 ot dY (tw (A:=[_,_,_]) (S1:=[⟨bv,67,Z*1,flatMap gV I⟩])) ot bq mr mu (fun U O LS LU=>?_);refine AD.perm (wq (S2:=[⟨U,3,O*1,flatMap cI ((I[level]'E).l++[i])⟩]) (A:=[_,_,_])) ?_;refine cr 15 rfl (dc 1) ?_;refine AD.one (i:=16) aA ?_;refine bj.storeAt (k:=3) (cs':=flatMap gV (I.set level (⟨(I[level]'E).l++[i],some ⟨U,0,none⟩,O,[⟨U,3,O*1,flatMap cI ((I[level]'E).l++[i])⟩]⟩:dK))) rfl ap rfl rfl ot rfl rfl ot rfl rfl sizeOf67 rfl (by show 0+level*1+1≤(flatMap gV I).length;rw[cu wM];omega) (by rw[Nat.zero_add];exact oQ wM I (⟨(I[level]'E).l++[i],some ⟨U,0,none⟩,O,[⟨U,3,O*1,flatMap cI ((I[level]'E).l++[i])⟩]⟩:dK) E) iE ?_
   refine AD.wk (y:=⟨148,[(0,_),(2,_),(3,_),(4,_),(13,_)],(⟨mC,153,5,[_,_,_,_,_]⟩::⟨b,159,4,[_,_,_,_]⟩::_::([⟨bv,67,Z*1,flatMap gV (I.set level (⟨(I[level]'E).l++[i],some ⟨U,0,none⟩,O,[⟨U,3,O*1,flatMap cI ((I[level]'E).l++[i])⟩]⟩:dK))⟩]++([⟨U,3,O*1,flatMap cI ((I[level]'E).l++[i])⟩]++((I.eraseIdx level).flatMap dK.s))))⟩) (Wk.dS rfl rfl fm) rfl ?_;refine AD.done aA ?_;exact⟨rfl,(⟨(I[level]'E).l++[i],some ⟨U,0,none⟩,O,[⟨U,3,O*1,flatMap cI ((I[level]'E).l++[i])⟩]⟩:dK),bH LS LU,rfl,by rw[length_set];exact Wk.perm (Perm.cons _ (Perm.cons _ (Perm.cons _ ((qW dK.s E (⟨(I[level]'E).l++[i],some ⟨U,0,none⟩,O,[⟨U,3,O*1,flatMap cI ((I[level]'E).l++[i])⟩]⟩:dK)).symm.append_left _))))⟩
  refine iV (cc 0 [_]) [.int .i64 0] [_] zeroValue3 runUnderlying67 sizeOf3 (fun X7=>?_);refine iW 0 93 1 1 ?_;refine AD.one (i:=11) aA ?_;refine at_ rfl (cU (mk:=Op.load 67) rfl ot (jb (k:=3) (d:=aP (I[level]'E).ad (I[level]'E).l.length (I[level]'E).cp) (i:=level) wM rfl rfl rfl isAgg67 E rfl)) ?_;refine AD.one (i:=14) aA ?_;refine bj.en (ls:=(I[level]'E).l) (new:=[i]) (Sq:=(I[level]'E).s) eo nG rfl ap rfl rfl underlying67 PV rfl w7 ot dY (tw (A:=[_,_,_]) (S1:=[⟨bv,67,Z*1,flatMap gV I⟩])) ot bq mr mu (fun U O LS LU=>?_);refine AD.perm (wq (S2:=[⟨U,3,O*1,flatMap cI ((I[level]'E).l++[i])⟩]) (A:=[_,_,_])) ?_;refine cr 15 rfl (dc 1) ?_;refine AD.one (i:=16) aA ?_;refine bj.storeAt (k:=3) (cs':=flatMap gV (I.set level (⟨(I[level]'E).l++[i],some ⟨U,0,none⟩,O,[⟨U,3,O*1,flatMap cI ((I[level]'E).l++[i])⟩]⟩:dK))) rfl ap rfl rfl ot rfl rfl ot rfl rfl sizeOf67 rfl (by show 0+level*1+1≤(flatMap gV I).length;rw[cu wM];omega) (by rw[Nat.zero_add];exact oQ wM I (⟨(I[level]'E).l++[i],some ⟨U,0,none⟩,O,[⟨U,3,O*1,flatMap cI ((I[level]'E).l++[i])⟩]⟩:dK) E) iE ?_
  refine AD.wk (y:=⟨148,[(0,_),(2,_),(3,_),(4,_),(13,_)],(⟨mC,153,5,[_,_,_,_,_]⟩::⟨b,159,4,[_,_,_,_]⟩::_::([⟨bv,67,Z*1,flatMap gV (I.set level (⟨(I[level]'E).l++[i],some ⟨U,0,none⟩,O,[⟨U,3,O*1,flatMap cI ((I[level]'E).l++[i])⟩]⟩:dK))⟩]++([⟨U,3,O*1,flatMap cI ((I[level]'E).l++[i])⟩]++((I.eraseIdx level).flatMap dK.s))))⟩) (Wk.dS rfl rfl fm) rfl ?_;refine AD.done aA ?_;exact⟨rfl,(⟨(I[level]'E).l++[i],some ⟨U,0,none⟩,O,[⟨U,3,O*1,flatMap cI ((I[level]'E).l++[i])⟩]⟩:dK),bH LS LU,rfl,by rw[length_set];exact Wk.perm (Perm.cons _ (Perm.cons _ (Perm.cons _ ((qW dK.s E (⟨(I[level]'E).l++[i],some ⟨U,0,none⟩,O,[⟨U,3,O*1,flatMap cI ((I[level]'E).l++[i])⟩]⟩:dK)).symm.append_left _))))⟩
 rintro _ _ ⟨rfl,o2,pC,Gx,KQ⟩;refine CD.wk KQ ?_;refine af [0,2,3,4,13,97] ?_;refine au ?_ ?_<;>intro da ek
 ·refine af [10] ?_;refine aJ (SW t b bm (m++[i]) (I.set level o2) (some ⟨bv,0,none⟩) Z _) ?_;rw[acN nU oo (by rw[qh];exact da)];exact⟨rfl,_,_,_,_,bH (by rw[length_set];exact Cp) BR,Tp pX pC,JS zS E Gx,rfl⟩
 have fM:(t.pg i).leaf=false:=(by rw[qh];exact da)
 have F2:nI t (m++[i],(I.set level o2).map dK.l):=(by rw[JS zS E Gx];exact GA.add hr nU hlm)
 have aj6:=PS po (by rw[←qh];exact fM);have aoK:=(po.node (by rw[←qh];exact fM)).1;have aoL:=po.eJ;have BS:(t.ag[i.toNat]'aa).high=high:=(by rw[←qh];exact Classical.byContradiction fun h=>oo (.inl h))
 refine af [0,2,3,4,13,14] ?_;refine af [0,2,3,4,13,14,100,101,102] ?_;refine eD [0,2,3,4,13,100,101] (fun aW _ (mq:Nat×Option Nat×List Int×List dK×Option Addr×Nat×List ah) aH=>match mq with|(k,deep,m2,L2,qi,uo,uM)=>(k≤(t.ag[i.toNat]'aa).kids.length)∧(lP (fun c lo hi s=>jv t f c lo hi (level+1) s) low (t.ag[i.toNat]'aa) ((t.ag[i.toNat]'aa).kids.drop k) k deep (m2,(L2.map dK.l))=(jv t (f+1) i low high level (m,(L.map dK.l))))∧(zR L2 qi uo uM)∧(∀o∈L2,mW o)∧(nI t (m2,(L2.map dK.l)))∧(level+1≤m2.length)∧(t.ag.length+1≤f+m2.length)∧((k=0∨deep≠none))∧aH=(⟨148,(14,ae (sF deep))::(102,ae (k:Nat))::aW,(⟨mC,153,5,cP (t.ag[i.toNat]'aa)⟩::⟨b,159,4,[av 5 cP t.ag,ae t.root,.v (.map (some bm)),aP qi L2.length uo]⟩::kW bm m2::(uM++L2.flatMap dK.s))⟩:St)) (fun (mq:Nat×Option Nat×List Int×List dK×Option Addr×Nat×List ah)=>match mq with|(k,deep,m2,L2,qi,uo,uM)=>(t.ag[i.toNat]'aa).kids.length-k) (0,none,(m++[i]),(I.set level o2),(some ⟨bv,0,none⟩),Z,[⟨bv,67,Z*1,flatMap gV (I.set level o2)⟩]) ⟨(Nat.zero_le _),(by rw[acO nU oo fM,JS zS E Gx,qh];rfl),(bH (by rw[length_set];exact Cp) BR),(Tp pX pC),F2,GU,GU,(.inl rfl),rfl⟩ ?_;rintro⟨k,deep,m2,L2,qi,uo,uM⟩ _ ⟨hk,Du,V7,jW,F2,V8,aj7,hdp,rfl⟩;refine af [0,2,3,4,13,14,100,101,102,103] ?_;refine au ?_ ?_<;>intro ez fw
 ·have dX:k<(t.ag[i.toNat]'aa).kids.length:=(by omega)
  have Yj:=aj6 _ (getElem_mem dX);have hhk:(gZ (t.ag[i.toNat]'aa) k).length≤100:=(by unfold gZ;rw[getD_eq_getElem?_getD];rcases Nat.lt_or_ge k (t.ag[i.toNat]'aa).keys.length with q|q;(rw[getElem?_eq_getElem q];exact(po.lC _ (getElem_mem q)).2);(rw[getElem?_eq_none q];exact po.hlen))
  refine af [0,2,3,4,13,14,15,16,100,101,102] ?_;refine af [0,2,3,4,13,14,15,16,17,18,100,101,102] ?_;refine CD.cut (fun aH=>aH=(⟨148,[(0,dM b),(2,av 1 cB low),(3,av 1 cB high),(4,ae (level:Nat)),(13,dM mC),(14,ae (sF deep)),(15,ae (k:Nat)),(16,ae ((t.ag[i.toNat]'aa).kids[k]'dX)),(17,.list 1 ((iz low (t.ag[i.toNat]'aa) k).flatMap cB) (iz low (t.ag[i.toNat]'aa) k).length),(18,av 1 cB high),(100,.list 1 ((t.ag[i.toNat]'aa).kids.flatMap cI) (t.ag[i.toNat]'aa).kids.length),(101,ae ((t.ag[i.toNat]'aa).kids.length:Nat)),(102,ae (k:Nat))],(⟨mC,153,5,cP (t.ag[i.toNat]'aa)⟩::⟨b,159,4,[av 5 cP t.ag,ae t.root,.v (.map (some bm)),aP qi L2.length uo]⟩::kW bm m2::(uM++L2.flatMap dK.s))⟩:St)) ?_ ?_
  ·refine af [0,2,3,4,13,14,15,16,17,18,100,101,102,110] ?_;refine au ?_ ?_<;>intro fg gB
   ·have eV:iz low (t.ag[i.toNat]'aa) k=(t.ag[i.toNat]'aa).keys[k-1]'w4:=(by unfold iz;rw[if_neg w4,getD_eq_getElem?_getD,getElem?_eq_getElem w4];rfl)
    refine iv [0,2,3,4,13,14,15,16,17,18,100,101,102] ?_;refine aS 4 ?_ (h:=by exact(dc 1 (h:=by first|exact .l (j:=k-1) w4 w4|exact .r (j:=k-1) w4 w4)));refine bK ?_;refine⟨_,(aK (h:=by repeat (first|exact trivial|refine⟨(by (repeat (first|exact fB|(apply fU;focus (first|rfl|(rw[eV];done)|(simp;done)))|(apply fH;focus rfl)));done),?_⟩))),rfl⟩
   have eV:iz low (t.ag[i.toNat]'aa) k=low:=(by unfold iz;rw[if_pos w4])
   refine CD.skip ?_;refine⟨_,(aK (h:=by repeat (first|exact trivial|refine⟨(by (repeat (first|exact fB|(apply fU;focus (first|rfl|(rw[eV];done)|(simp;done)))|(apply fH;focus rfl)));done),?_⟩))),rfl⟩
  rintro _ ⟨rfl⟩;refine CD.cut (fun aH=>aH=(⟨148,[(0,dM b),(2,av 1 cB low),(3,av 1 cB high),(4,ae (level:Nat)),(13,dM mC),(14,ae (sF deep)),(16,ae ((t.ag[i.toNat]'aa).kids[k]'dX)),(17,.list 1 ((iz low (t.ag[i.toNat]'aa) k).flatMap cB) (iz low (t.ag[i.toNat]'aa) k).length),(18,.list 1 ((gZ (t.ag[i.toNat]'aa) k).flatMap cB) (gZ (t.ag[i.toNat]'aa) k).length),(100,.list 1 ((t.ag[i.toNat]'aa).kids.flatMap cI) (t.ag[i.toNat]'aa).kids.length),(101,ae ((t.ag[i.toNat]'aa).kids.length:Nat)),(102,ae (k:Nat))],(⟨mC,153,5,cP (t.ag[i.toNat]'aa)⟩::⟨b,159,4,[av 5 cP t.ag,ae t.root,.v (.map (some bm)),aP qi L2.length uo]⟩::kW bm m2::(uM++L2.flatMap dK.s))⟩:St)) ?_ ?_
  ·refine af [0,2,3,4,13,14,15,16,17,18,100,101,102,121] ?_;refine au ?_ ?_<;>intro gY kS
   ·have eG:gZ (t.ag[i.toNat]'aa) k=(t.ag[i.toNat]'aa).keys[k]'w4:=(by unfold gZ;rw[getD_eq_getElem?_getD,getElem?_eq_getElem w4];rfl)
    refine cl [0,2,3,4,13,14,16,17,18,100,101,102] ?_;refine⟨_,(aK (h:=by repeat (first|exact trivial|refine⟨(by (repeat (first|exact fB|(apply fU;focus (first|rfl|(rw[eG];done)|(simp;done)))|(apply fH;focus rfl)));done),?_⟩))),rfl⟩
   have eG:gZ (t.ag[i.toNat]'aa) k=high:=(by unfold gZ;rw[getD_eq_getElem?_getD,getElem?_eq_none w4];exact BS)
   refine CD.skip ?_;refine⟨_,(aK (h:=by repeat (first|exact trivial|refine⟨(by (repeat (first|exact fB|(apply fU;focus (first|rfl|(rw[eG];done)|(simp;done)))|(apply fH;focus rfl)));done),?_⟩))),rfl⟩
  rintro _ ⟨rfl⟩;refine aD 5 ?_;refine bN (dw (r:=.int .i64 ((level+1:Nat):Int)) rfl ot bP (kx (by rw[show((level:Nat):Int)+1=((level+1:Nat):Int) from rfl];exact wrap_i64 w4 w4))) ?_;refine OD.call ap rfl rfl rfl call92 (ih ((t.ag[i.toNat]'aa).kids[k]'dX) (iz low (t.ag[i.toNat]'aa) k) (gZ (t.ag[i.toNat]'aa) k) (level+1) m2 L2 qi uo uM Yj F2 V8 aj7 hhk V7 jW) ⟨ot,ot,ot,ot,ot,trivial⟩ (perm_append_singleton _ _).symm ?_;rintro r19 S19 mM;rcases jL:jv t f ((t.ag[i.toNat]'aa).kids[k]'dX) (iz low (t.ag[i.toNat]'aa) k) (gZ (t.ag[i.toNat]'aa) k) (level+1) (m2,(L2.map dK.l)) with _|⟨d,m3,lv3⟩
  ·rw[jL] at mM;obtain⟨rfl,rfl⟩:=mM;have ahF:=Du.symm.trans (abc dX jL);refine an 148 [0,2,3,4,13,14,19,100,101,102] ?_;refine aD 3 ?_;refine bW 136 (fun BU Kn=>?_) (fun BU Kn=>?_)
   ·refine bf [0,2,3,4,13,19,100,101,102,144] ?_;refine eI ?_;refine af [10] ?_;refine aJ [] ?_;rw[ahF];exact⟨rfl,rfl⟩
   exact absurd BU w7
  rw[jL] at mM;obtain⟨rfl,L3,HA,GB,HB,V9,xG,rfl,rfl⟩:=mM;obtain⟨U5,FT⟩:=JR hp _ _ _ _ _ _ _ _ Yj F2 V8 jL;have FT:m2.length≤m3.length:=FT;refine OD.perm (perm_append_singleton _ _) ?_;refine an 148 [0,2,3,4,13,14,19,100,101,102] ?_;refine aD 3 ?_;refine bW 136 (fun BU Kn=>?_) (fun BU Kn=>?_)
  ·exact absurd BU (by intro e;have e:=of_decide_eq_true e;omega)
  refine aE 3 ?_;refine bW 139 (fun zA af8=>?_) (fun zA af8=>?_)
  ·refine bf [0,2,3,4,13,19,100,101,102,144] ?_;refine au ?_ ?_<;>intro gq lB
   ·refine af [10] ?_;refine aJ [] ?_;rw[Du.symm.trans (acP dX jL (acR (by simpa using zA) (by simpa using gq)))];exact⟨rfl,rfl⟩
   refine cl [0,2,3,4,13,14,100,101,102] ?_;refine cl [0,2,3,4,13,14,100,101,102] ?_;refine⟨((k+1),(some d),m3,L3,HA,GB,HB),_,cz,aK,w4,((PT dX jL (by first|exact .inl (PU (by simpa using zA))|exact .inr (Rq (by simpa using zA) (by simpa using gq)))).symm.trans Du),V9,xG,U5,w4,w4,(.inr (fun e=>by cases e)),rfl⟩
  refine bf [0,2,3,4,13,19,100,101,102,144] ?_;refine fN ?_;refine cl [0,2,3,4,13,14,100,101,102] ?_;refine cl [0,2,3,4,13,14,100,101,102] ?_;refine⟨((k+1),(some d),m3,L3,HA,GB,HB),_,cz,aK,w4,((PT dX jL (by first|exact .inl (PU (by simpa using zA))|exact .inr (Rq (by simpa using zA) (by simpa using gq)))).symm.trans Du),V9,xG,U5,w4,w4,(.inr (fun e=>by cases e)),rfl⟩
 obtain rfl:k=(t.ag[i.toNat]'aa).kids.length:=(by omega)
 obtain⟨d,rfl⟩:∃d,deep=some d:=(by rcases hdp with h|h;omega;exact Option.ne_none_iff_exists'.1 h)
 refine af [10] ?_;refine aJ (SW t b bm m2 L2 qi uo uM) ?_;rw[←Du,acQ (Nat.le_refl _)];exact⟨rfl,L2,qi,uo,uM,V7,jW,rfl,rfl⟩

end Go.Proofs.YtdgichenhdikgaaGreatDoor.Tw

namespace Go.Proofs.YtdgichenhdikgaaGreatDoor.Tw
open List
open Go.Proofs.Tryz
open Go.RowKit V Go.Proofs.YtdgichenhdikgaaGreatDoor.Tr Pk
theorem JT{G:List (Nat×List Value)}(t:aF)(hp:uX t)(I:t.ag.length≤4000)(b Z:Nat):∀f,U4 G t b Z f
 | 0=>fun i low high level m L ad cap Sx hr E O U _ _ _=>by have h:m.length≤t.ag.length:=E.nN;exfalso;omega
 | f+1=>fun i low high level m L ad cap Sx hr E O U Yi mS aR=>abe t hp I b Z f (JT t hp I b Z f) i low high level m L ad cap Sx hr E O U Yi mS aR
theorem Bw(t:aF):nI t ([],[]):=⟨nodup_nil,(fun x h=>by cases h),Nat.le_refl _,(fun l h=>by cases h),(fun l h=>by cases h)⟩
theorem JU{t:aF}{e:Int}:∀{l:List Int},fa t l e↔∀k (h:k<l.length),(t.pg l[k]).next=l.getD (k+1) e
  | []=>⟨(fun _ k h=>by cases h),fun _=>trivial⟩
  | [i] => ⟨fun h k hk => by obtain rfl : k=0 := by (simp at hk; exact hk)
                             exact h,fun h=>h 0 bq⟩
  | i::j::r=>by
    show(t.pg i).next=j∧fa t (j::r) e↔_;rw[JU (l:=j::r)];constructor
    · rintro⟨h1,h2⟩ k hk;cases k with
      | zero=>exact h1
      | succ k=>exact h2 k (by simpa using hk)
    intro h;exact⟨h 0 bq,fun k hk=>h (k+1) (by simpa using hk)⟩
theorem PW{p:de}{n:Int}:BO p n=true↔eH p n:=by unfold BO;simp
section
variable {t:aF}
theorem OC(h:t.ag.length<1∨t.ag.length>4000∨t.root<0∨t.root≥t.ag.length):gG t=11:=by unfold gG;rw[if_pos h]
theorem ZV(h:¬uX t):gG t=11:=by
 unfold gG;split
 ·rfl
 first|rfl|rw[if_pos h]
variable {d:Nat} {m:List Int} {lv:List (List Int)}
theorem ZW(hw:jv t (t.ag.length+1) t.root [] [] 0 ([],[])=none):gG t=11:=by
 unfold gG;split
 ·rfl
 split
 ·rfl
 rw[hw]
theorem abf(hw:jv t (t.ag.length+1) t.root [] [] 0 ([],[])=some (d,m,lv))(h:m.length≠t.ag.length):gG t=11:=by
 unfold gG;split
 ·rfl
 split
 ·rfl
 rw[hw];exact if_pos h
open Classical in
theorem abg(hw:jv t (t.ag.length+1) t.root [] [] 0 ([],[])=some (d,m,lv))(h:¬∀l∈lv,fa t l (-1)):gG t=11:=by
 unfold gG;split
 ·rfl
 split
 ·rfl
 rw[hw];show(if m.length≠t.ag.length then (11:Int) else if ∀l∈lv,fa t l (-1) then 0 else 11)=11;split
 ·rfl
 first|rfl|rw[if_neg h]
open Classical in
theorem abh(h1:¬(t.ag.length<1∨t.ag.length>4000∨t.root<0∨t.root≥t.ag.length))(h2:uX t)(hw:jv t (t.ag.length+1) t.root [] [] 0 ([],[])=some (d,m,lv))(h3:m.length=t.ag.length)(h:∀l∈lv,fa t l (-1)):gG t=0:=by
 unfold gG;rw[if_neg h1,if_neg (fun hn=>hn h2),hw];show(if m.length≠t.ag.length then (11:Int) else if ∀l∈lv,fa t l (-1) then 0 else 11)=0;rw[if_neg (fun hn=>hn h3),if_pos h]
end
def yu(l:List Int):List D:=[av 1 cI l]
theorem aeD(l:List Int):(yu l).length=1:=rfl
theorem Tq{S:List ah}:∀{L:List dK},(∀o∈L,mW o)→(∀B∈L.flatMap dK.s,B∈S)→gH S (L.flatMap gV) ((L.map dK.l).flatMap yu)
 | [],_,_=>trivial
 | o::L,h,hs=>by
  rw[map_cons,flatMap_cons,flatMap_cons];refine gH.append ⟨lK (h o mem_cons_self) (cu eo _) (fun B E=>hs B ?_),trivial⟩ (Tq (fun o ho=>h o (mem_cons_of_mem _ ho)) fun B E=>hs B ?_)
  ·rw[flatMap_cons];exact mem_append_left _ E
  rw[flatMap_cons];exact mem_append_right _ E
theorem af9{Sx:List ah}{L:List dK}{ad:Option Addr}{cap:Nat}{lv:List (List Int)}(ho:zR L ad cap Sx)(h:∀o∈L,mW o)(hm:L.map dK.l=lv):View (Sx++L.flatMap dK.s) (aP ad L.length cap) (av 1 yu lv):=by
 subst hm;have:=A6 ho (Tq (S:=Sx++L.flatMap dK.s) h fun B E=>mem_append_right _ E) (cu aeD _ |>.trans bq) (fun B E=>mem_append_left _ E);first|rw[length_map]|(show View _ _ (.list _ _ (length _));rw[length_map])|(show View _ _ (.agg [.list _ _ (length _)]);rw[length_map])
 exact this
variable {G:List (Nat×List Value)}

theorem pH(t:aF)(hb:∀p∈t.ag,p.keys.length≤maxLen∧p.kids.length≤maxLen):VP Tryz.prog G 49 [.agg (cT t)] (ae (gG t)):=by
 refine VC.body func49 rfl ntmps49 aQ fun X0 w0 bg=>?_;unfold cT;have dz:=ei;refine bY ?_;refine OD.box (ds:=[_,_]) ap rfl rfl ot rfl rfl (fun b1=>?_);refine an 104 [1] ?_;refine aD 5 ?_;refine bW 15 (fun Ca ahG=>?_) (fun Ca ahG=>?_)
 ·exact z75
 refine aE 6 ?_;refine bW 21 (fun qE ahH=>?_) (fun qE ahH=>?_)
 ·exact z75
 refine aE 5 ?_;refine bW 26 (fun LV BV=>?_) (fun LV BV=>?_)
 ·exact z75
 refine bf [1,33] ?_;refine au ?_ ?_<;>intro aO bE
 ·refine af [2] ?_;refine eO ?_;exact⟨vi (OC w4).symm,rfl⟩
 refine af [1,35,36,37] ?_;refine eD [1,35,36] (fun aW _ (i:Nat) aH=>(i≤t.ag.length)∧(∀j (h:j<t.ag.length),j<i→eH t.ag[j] t.ag.length)∧aH=(⟨104,(37,ae (i:Nat))::aW,[⟨b1,51,2,[av 5 cP t.ag,ae t.root]⟩]⟩:St)) (fun (i:Nat)=>t.ag.length-i) 0 ⟨(Nat.zero_le _),(fun j h h0=>by omega),rfl⟩ ?_;rintro i _ ⟨hi,qh,rfl⟩;refine af [1,35,36,37,38] ?_;refine au ?_ ?_<;>intro aY cJ
 ·have aa:i<t.ag.length:=(by omega)
  obtain⟨dX,fx⟩:=hb (t.ag[i]'aa) (getElem_mem aa);refine aD 2 ?_;refine OD.alloc (ds:=[_,_,_,_,_]) ap rfl rfl zeroValue153 rfl (fun b4=>?_);refine aN 0 [_,_,_,_,_] sizeOf153 ?_;refine an 104 [1,4,35,36,37] ?_;refine cX [1,35,36,37,46] (aex (t.ag[i]'aa) (t.ag.length:Nat) dX fx) ?_;refine au ?_ ?_<;>intro cm cW
  ·have ow:¬uX t:=fun h=>by have:=PW.2 (h (t.ag[i]'aa) (getElem_mem aa));rw[this] at cm;cases cm
   refine af [2] ?_;refine aJ [] ?_;exact⟨vi (ZV ow).symm,rfl⟩
  have aj8:eH (t.ag[i]'aa) t.ag.length:=PW.1 (by simpa using cm);refine cl [1,35,36,37] ?_;refine⟨(i+1),_,cz,aK,w4,(fun j h h0=>by rcases Nat.lt_or_ge j i with q|q;exact qh j h q;obtain rfl:j=i:=w4;exact aj8),rfl⟩
 have fi:uX t:=fun p h=>by obtain⟨j,hj,rfl⟩:=mem_iff_getElem.1 h;exact qh j hj w4
 have h4:t.ag.length≤4000:=(by omega)
 have E:0≤t.root∧t.root<t.ag.length:=(by omega)
 refine aD 1 ?_;refine OD.adO ap rfl rfl (fun O=>?_);refine aE 1 ?_;refine OD.box (ds:=[_,_,_,_]) ap rfl rfl ot rfl rfl (fun U=>?_);refine an 104 [1,5] ?_;refine CD.seq ?_;refine CD.seq ?_;rcases jL:jv t (t.ag.length+1) t.root [] [] 0 ([],[]) with _|⟨d,m,lv⟩
 ·refine fE 14 (aq (drop 2 _)) ?_ (fun _ h=>(Sublist.map _ (drop_sublist _ _)).subset h);refine ay 0 rfl aZ ?_;refine ay 1 rfl (dh 1) ?_;refine ay 2 rfl (dI 2) ?_;refine dm.later rfl ?_;refine AD.one (i:=3) aA ?_;refine bj.call rfl ap rfl rfl rfl call92 (VC.eX (args':=[dM U,ae t.root,bA,bA,ae 0]) (JT t fi h4 U O (t.ag.length+1) t.root [] [] 0 [] [] none 0 [] E (Bw t) (Nat.le_refl _) (Nat.le_refl _) w7 ik (fun o h=>by cases h)) ⟨.inl rfl,.inl rfl,.inr ⟨1,rfl,rfl⟩,.inr ⟨1,rfl,rfl⟩,.inl rfl,trivial⟩) ⟨ot,ot,bP,bP,bP,trivial⟩ (Perm.refl _) iE ?_;rintro r55 MK mM;rw[show map dK.l []=[] from rfl,jL] at mM;obtain⟨rfl,rfl⟩:=mM;refine cr 4 rfl mT ?_;refine cr 5 rfl aZ ?_;refine AD.split (t:=57) lk (fun uk=>?_) (fun uk=>?_)
  ·have BK:=uk;(try simp only[V.nx,ne_eq] at BK)
   refine p8 6 rfl ?_;refine p8 7 rfl ?_;refine p8 11 rfl ?_;refine p8 12 rfl ?_;refine p8 13 rfl ?_;refine AD.one (i:=8) aA ?_;refine bj.skip rfl (mE rfl rfl rfl lk jw) rfl ?_;refine AD.one (i:=9) aA ?_;refine bj.skip rfl (mE rfl rfl rfl lk jw) rfl ?_;refine AD.one (i:=10) aA ?_;refine bj.skip rfl (mE rfl rfl rfl lk jw) rfl ?_;refine eE ?_;refine bf [1,5,67] ?_;refine eI ?_;try have I:m.length≠t.ag.length:=by intro e;rw[e] at da;simp at da
   refine af [2] ?_;refine eO ?_;exact⟨vi (ZW jL).symm,rfl⟩
  exact absurd uk w7
 refine fE 14 (aq (drop 2 _)) ?_ (fun _ h=>(Sublist.map _ (drop_sublist _ _)).subset h);refine ay 0 rfl aZ ?_;refine ay 1 rfl (dh 1) ?_;refine ay 2 rfl (dI 2) ?_;refine dm.later rfl ?_;refine AD.one (i:=3) aA ?_;refine bj.call rfl ap rfl rfl rfl call92 (VC.eX (args':=[dM U,ae t.root,bA,bA,ae 0]) (JT t fi h4 U O (t.ag.length+1) t.root [] [] 0 [] [] none 0 [] E (Bw t) (Nat.le_refl _) (Nat.le_refl _) w7 ik (fun o h=>by cases h)) ⟨.inl rfl,.inl rfl,.inr ⟨1,rfl,rfl⟩,.inr ⟨1,rfl,rfl⟩,.inl rfl,trivial⟩) ⟨ot,ot,bP,bP,bP,trivial⟩ (Perm.refl _) iE ?_;rintro r55 MK mM;rw[show map dK.l []=[] from rfl,jL] at mM;obtain⟨rfl,L,ad,cap,Sx,mS,aR,zS,rfl⟩:=mM;refine AD.perm (Perm.cons _ (Perm.cons _ (perm_append_singleton _ _))) ?_;refine cr 4 rfl mT ?_;refine cr 5 rfl aZ ?_;refine AD.split (t:=57) lk (fun uk=>?_) (fun uk=>?_)
 ·exact absurd uk (by intro e;have e:=of_decide_eq_true e;omega)
 have BK:=uk;(try simp only[V.nx,ne_eq] at BK)
 refine cr 6 rfl aZ ?_;refine cr 7 rfl lW ?_;refine cr 11 rfl (dh 0) ?_;refine cr 12 rfl (dI 2) ?_;refine cr 13 rfl qQ ?_;refine AD.one (i:=8) aA ?_;refine at_ rfl (dh 2) ?_;refine AD.one (i:=9) aA ?_;refine at_ rfl (dI 0) ?_;refine AD.one (i:=10) aA ?_;refine at_ rfl (ZF (i:=1) rfl rfl ot rfl underlying156) ?_;refine eE ?_;refine bf [1,5,67] ?_;refine au ?_ ?_<;>intro da ek
 ·try have I:m.length≠t.ag.length:=by intro e;rw[e] at da;simp at da
  refine af [2] ?_;refine eO ?_;exact⟨vi (abf jL I).symm,rfl⟩
 have I:m.length=t.ag.length:=(by have:=da;simp at this;omega)
 refine CD.wk (Wk.cover (A:=⟨U,159,4,[av 5 cP t.ag,ae t.root,.v (.map (some O)),aP ad L.length cap]⟩) (R:=[kW O m,⟨b1,51,2,[av 5 cP t.ag,ae t.root]⟩]) (Sd:=Sx++L.flatMap dK.s) (cs':=[av 5 cP t.ag,ae t.root,.v (.map (some O)),av 1 yu lv]) (Perm.refl _) ⟨eU,eU,eU,af9 mS aR zS,trivial⟩) ?_;obtain⟨Z,_⟩:=JR fi _ _ _ _ _ _ _ _ E (Bw t) (Nat.le_refl _) jL;refine af [1,71,72,73] ?_;refine XK (fun (i:Nat) aH=>(i≤lv.length)∧(∀j (_:j<i) (h:j<lv.length),fa t lv[j] (-1))∧aH=(⟨104,[(1,dM b1),(71,av 1 yu lv),(72,ae (lv.length:Nat)),(73,ae (i:Nat))],[⟨b1,51,2,[av 5 cP t.ag,ae t.root]⟩]⟩:St)) (fun (i:Nat)=>lv.length-i) 0 ⟨(Nat.zero_le _),(fun j h _=>by omega),rfl⟩ ?_;rintro i _ ⟨kj,HC,rfl⟩;refine af [1,71,72,73,74] ?_;refine au ?_ ?_<;>intro ez fw
 ·have fx:i<lv.length:=(by omega)
  have Db:∀x∈(lv[i]'fx),0≤x∧x<t.ag.length:=Z.el _ (getElem_mem fx);have l8:(lv[i]'fx).length≤m.length:=Z.each _ (getElem_mem fx);have Yk:lv.length≤m.length:=Z.eJ;refine af [1,7,71,72,73] ?_;refine af [1,7,71,72,73,77,78,79] ?_;refine XK (fun (k:Nat) aH=>(k≤(lv[i]'fx).length)∧(∀j (_:j<k) (h:j<(lv[i]'fx).length),(t.pg (lv[i]'fx)[j]).next=(lv[i]'fx).getD (j+1) (-1))∧aH=(⟨104,[(1,dM b1),(7,.list 1 ((lv[i]'fx).flatMap cI) (lv[i]'fx).length),(71,av 1 yu lv),(72,ae (lv.length:Nat)),(73,ae (i:Nat)),(77,.list 1 ((lv[i]'fx).flatMap cI) (lv[i]'fx).length),(78,ae ((lv[i]'fx).length:Nat)),(79,ae (k:Nat))],[⟨b1,51,2,[av 5 cP t.ag,ae t.root]⟩]⟩:St)) (fun (k:Nat)=>(lv[i]'fx).length-k) 0 ⟨(Nat.zero_le _),(fun j h _=>by omega),rfl⟩ ?_;rintro k _ ⟨hk,hn,rfl⟩;refine af [1,7,71,72,73,77,78,79,80] ?_;refine au ?_ ?_<;>intro fg gB
  ·have dX:k<(lv[i]'fx).length:=(by omega)
   have NR:=Db _ (getElem_mem dX);have fY:((lv[i]'fx)[k]'dX).toNat<t.ag.length:=(by omega)
   have Yl:t.pg ((lv[i]'fx)[k]'dX)=t.ag[((lv[i]'fx)[k]'dX).toNat]'fY:=vh NR;refine af [1,7,8,9,71,72,73,77,78,79] ?_;refine af [1,7,8,9,10,71,72,73,77,78,79] ?_;refine CD.cut (fun aH=>aH=(⟨104,[(1,dM b1),(7,.list 1 ((lv[i]'fx).flatMap cI) (lv[i]'fx).length),(9,ae ((lv[i]'fx)[k]'dX)),(10,ae ((lv[i]'fx).getD (k+1) (-1))),(71,av 1 yu lv),(72,ae (lv.length:Nat)),(73,ae (i:Nat)),(77,.list 1 ((lv[i]'fx).flatMap cI) (lv[i]'fx).length),(78,ae ((lv[i]'fx).length:Nat)),(79,ae (k:Nat))],[⟨b1,51,2,[av 5 cP t.ag,ae t.root]⟩]⟩:St)) ?_ ?_
   ·refine af [1,7,8,9,10,71,72,73,77,78,79,88] ?_;refine au ?_ ?_<;>intro gY kS
    ·have ke:(lv[i]'fx).getD (k+1) (-1)=(lv[i]'fx)[k+1]'w4:=(by rw[getD_eq_getElem?_getD,getElem?_eq_getElem w4];rfl)
     refine iv [1,7,9,10,71,72,73,77,78,79] ?_;refine aS 3 ?_ (h:=by exact(dc 1 (h:=by first|exact .l (j:=k+1) w4 w4|exact .r (j:=k+1) w4 w4)));refine bK ?_;exact Xh
    have ke:(lv[i]'fx).getD (k+1) (-1) = -1:=(by rw[getD_eq_getElem?_getD,getElem?_eq_none w4];rfl)
    refine CD.skip ?_;exact Xh
   rintro _ ⟨rfl⟩;refine cZ [1,7,71,72,73,77,78,79,101] ?_;refine aS 3 ?_ (h:=by exact(dc 5 (h:=by first|exact .l (j:=((lv[i]'fx)[k]'dX).toNat) (Int.toNat_of_nonneg NR.1).symm fY|exact .r (j:=((lv[i]'fx)[k]'dX).toNat) (Int.toNat_of_nonneg NR.1).symm fY)));refine bK ?_;refine au ?_ ?_<;>intro gq lB
   ·have ow:¬∀l∈lv,fa t l (-1):=fun h=>by have:=JU.1 (h (lv[i]'fx) (getElem_mem fx)) k dX;rw[Yl] at this;simp[this] at gq
    refine af [2] ?_;refine aJ [] ?_;exact⟨vi (abg jL ow).symm,rfl⟩
   have nT:(t.pg ((lv[i]'fx)[k]'dX)).next=(lv[i]'fx).getD (k+1) (-1):=(by rw[Yl];simpa using gq)
   refine cl [1,7,71,72,73,77,78,79] ?_;refine⟨(k+1),_,cz,aK,w4,(fun j h0 h=>by rcases Nat.lt_or_ge j k with q|q;exact hn j q h;obtain rfl:j=k:=w4;exact nT),rfl⟩
  have aj9:fa t (lv[i]'fx) (-1):=JU.2 fun j hj=>hn j w4 hj;refine cl [1,71,72,73] ?_;refine⟨(i+1),_,cz,aK,w4,(fun j h0 h=>by rcases Nat.lt_or_ge j i with q|q;exact HC j q h;obtain rfl:j=i:=w4;exact aj9),rfl⟩
 have nr:i=lv.length:=(by omega)
 refine af [2] ?_;refine aJ [] ?_;exact⟨vi (abh w4 fi jL I fun l hl=>by obtain⟨j,hj,rfl⟩:=mem_iff_getElem.1 hl;exact HC j w4 hj).symm,rfl⟩

end Go.Proofs.YtdgichenhdikgaaGreatDoor.Tw

namespace Go.Proofs.YtdgichenhdikgaaGreatDoor.Tw
open List
open Go.Proofs.Tryz
open Go.RowKit V Tr Pk
variable {t:aF} {k:K}
noncomputable def lD(t:aF)(k:K):Int:=if gG t=0 then (if oB k=true then 0 else 1) else gG t
theorem EI(h:¬gG t=0):lD t k=gG t:=by unfold lD;rw[if_neg h]
theorem Em(h:gG t=0)(hk:oB k=false):lD t k=1:=by unfold lD;rw[if_pos h,hk];rfl
theorem Jp(h:gG t=0)(hk:oB k=true):lD t k=0:=by unfold lD;rw[if_pos h,hk];rfl
def ec(t:aF)(k:K)(h:Nat):Int:=(t.pg (aI t k h t.root)).kids.getD (aL (t.pg (aI t k h t.root)) k) 0
noncomputable def findF(t:aF)(k:K)(h:Nat):Int×Int:=if lD t k=0 then (if iA t k h=true then (ec t k h,0) else (0,8)) else (0,lD t k)
theorem acS{h:Nat}(v:Valid t h):∀p∈t.ag,p.keys.length≤maxLen∧p.kids.length≤maxLen:=fun p hp=>by
 have po:=v.fD p hp;have dz:=ei;have h1:=po.eJ;cases hl:p.leaf with
 | true=>have:=po.leaf hl;omega
 | false=>have:=(po.node hl).1;omega
theorem Ej{h:Nat}(v:Valid t h)(k:K):(jh t k h t.root).length≤1000000:=by
 rw[ET];have:=v.high;have:=v.nN;omega
theorem Jd(h:oB k=true):0<k.length∧k.length≤100:=of_decide_eq_true h
variable {G:List (Nat×List Value)}
theorem H9(t:aF)(k:K)(hb:∀p∈t.ag,p.keys.length≤maxLen∧p.kids.length≤maxLen):VP Tryz.prog G 110 [.agg (cT t),av 1 cB k] (ae (lD t k)):=by
 refine VC.body func110 rfl ntmps110 aQ fun X0 w0 bg=>?_;have e9:=pH (G:=G) t hb;unfold cT at e9;unfold cT;refine bY ?_;refine OD.box (ds:=[_,_]) ap rfl rfl ot rfl rfl (fun b2=>?_);refine an 14 [1,2] ?_;refine cX [1,5] (e9) ?_;refine af [1,5,9] ?_;refine au ?_ ?_<;>intro aO bE
 ·have hn:¬gG t=0:=(by simpa using aO)
  exact z91
 have hz:gG t=0:=(by simpa using aO)
 refine cX [13] (ze k) ?_;refine au ?_ ?_<;>intro aY cJ
 ·exact z91
 refine af [4] ?_;refine aJ [] ?_;first|exact⟨vi (EI hn).symm,rfl⟩|exact⟨vi (Em hz vI).symm,rfl⟩|exact⟨vi (Jp hz vI).symm,rfl⟩
theorem aga(t:aF)(h:Nat)(k:K)(hb:∀p∈t.ag,p.keys.length≤maxLen∧p.kids.length≤maxLen)(hv:gG t=0→Valid t h):VP Tryz.prog G 65 [.agg (cT t),av 1 cB k] (.dJ [ae (findF t k h).1,ae (findF t k h).2]):=by
 refine VC.body func65 rfl ntmps65 aQ fun X0 w0 bg=>?_;have e9:=H9 (G:=G) t k hb;unfold cT at e9;unfold cT;have dz:=ei;refine bY ?_;refine OD.box (ds:=[_,_]) ap rfl rfl ot rfl rfl (fun b2=>?_);refine an 34 [1,2] ?_;refine cX [1,2,6] (e9) ?_;refine af [1,2,6,14] ?_;refine au ?_ ?_<;>intro aO bE
 ·have hn:¬lD t k=0:=(by simpa using aO)
  refine af [4,5] ?_;refine aJ [] ?_;exact⟨by unfold findF;rw[if_neg hn],rfl⟩
 have hz:lD t k=0:=(by simpa using aO)
 have hc:gG t=0:=Classical.byContradiction fun e=>by rw[EI e] at hz;exact e hz
 have U:oB k=true:=(by cases hq:oB k with|true=>rfl|false=>rw[Em hc hq] at hz;cases hz)
 have v:=hv hc;have dX:=Jd U;have fP:=qt (G:=G) t h v k w4 (Ej v k);unfold cT at fP;obtain⟨q1,E⟩:=v.leaf k;have aa:(aI t k h t.root).toNat<t.ag.length:=(by omega)
 have I:t.pg (aI t k h t.root)=(t.ag[(aI t k h t.root).toNat]'aa):=vh q1;refine cX [2,7,8,9] (fP) ?_;refine af [2,7,8,24] ?_;refine au ?_ ?_<;>intro aY cJ
 ·have iU:iA t k h=false:=(by simpa using aY)
  refine af [4,5] ?_;refine aJ [] ?_;exact⟨by unfold findF;rw[if_pos hz,if_neg xR],rfl⟩
 have iU:iA t k h=true:=(by simpa using aY)
 obtain⟨ha,Dh⟩:=(Ei v k).1 iU;have po:=v.fD _ (jE q1);have hle:=po.leaf E;have O:aL (t.pg (aI t k h t.root)) k<(t.pg (aI t k h t.root)).kids.length:=(by omega)
 have Z:aL (t.ag[(aI t k h t.root).toNat]'aa) k<(t.ag[(aI t k h t.root).toNat]'aa).kids.length:=(by rw[←I];exact O)
 rw[I];refine cZ [4,5] ?_;refine aS 3 ?_ (h:=by exact(dc 5 (h:=by first|exact .l (j:=(aI t k h t.root).toNat) (Int.toNat_of_nonneg q1.1).symm aa|exact .r (j:=(aI t k h t.root).toNat) (Int.toNat_of_nonneg q1.1).symm aa)));refine bK ?_;refine aJ [] ?_;exact⟨by unfold findF ec;rw[if_pos hz,if_pos iU,I,tG Z],rfl⟩
theorem abi{S:List ah}:gH S [bS true,bA,bA,bA,ae (-1)] (cP (⟨true,[],[],[],-1⟩:de)):=⟨eU,yJ,yJ,yJ,eU,trivial⟩
theorem agb(E:True):VC Tryz.prog G 83 [] [] (fun r S=>∃b,r = .agg [aP (some ⟨b,0,none⟩) 1 1,ae 0]∧S=[⟨b,153,5,[bS true,bA,bA,bA,ae (-1)]⟩]):=by
 refine VC.body func83 rfl ntmps83 aQ fun X0 w0 bg=>?_;refine bY ?_;refine OD.alloc (ds:=[_,_]) ap rfl rfl zeroValue51 rfl (fun b0=>?_);refine an 4 [0] ?_;refine aD 1 ?_;refine ev (cc 0 [_]) [.bool false,.slice none 0 0,.slice none 0 0,.slice none 0 0,.int .i64 0] [_,_,_,_,_] zeroValue153 runUnderlying49 sizeOf153 (fun b2=>?_);refine aE 1 ?_;refine aN 1 [_,_] sizeOf51 ?_;refine an 4 [0] ?_;refine aJ [_] ?_;exact⟨_,rfl,rfl⟩
theorem agc:VP Tryz.prog G 83 [] (.agg (cT pW)):=VC.cover (agb trivial) fun r S ⟨b,hr,hS⟩=>by
 subst hr;subst hS;exact uS ⟨Pm (cs:=[bS true,bA,bA,bA,ae (-1)]) (e:=153) (size:=5) mem_cons_self abi rfl (Nat.le_refl _) w7,eU,trivial⟩

end Go.Proofs.YtdgichenhdikgaaGreatDoor.Tw
namespace Go.Proofs.YtdgichenhdikgaaGreatDoor.Tr
open List
open Go.Proofs.Tryz
open Go.Lib (compareBytes)
variable {t:aF} {k:K} {row:Int}
variable {h m:Nat} {u:aF} {up:K}
def dy(t:aF)(k:K):Nat→Int→Nat→Int
 | 0,i,_=>i
 | h+1,i,m=>if m=h+1 then i else dy t k h ((t.pg i).kids.getD (aL (t.pg i) k) 0) m
theorem ID:∀(h:Nat) (i:Int),dy t k h i h=i
 | 0,_=>rfl
 | h+1,i=>by rw[dy,if_pos rfl]
theorem A4:∀{h:Nat} {i:Int} {m:Nat},m<h→dy t k h i m=(t.pg (dy t k h i (m+1))).kids.getD (aL (t.pg (dy t k h i (m+1))) k) 0
 | 0,_,_,hm=>by omega
 | h+1,i,m,hm=>by
  rw[dy,if_neg w4,dy];by_cases e:m=h
  ·subst e;rw[ID,if_pos rfl]
  rw[if_neg w4];exact A4 w4
theorem PX:∀{h:Nat} {i:Int} {m:Nat},m≤h→(jh t k h i)[h-m]?=some (dy t k h i m)
 | 0,i,m,_=>by
  obtain rfl:m=0:=(by omega)
  rfl
 | h+1,i,m,hm=>by
  rw[jh,dy];by_cases e:m=h+1
  ·subst e;rw[if_pos rfl,Nat.sub_self];rfl
  rw[if_neg e,show h+1-m=(h-m)+1 from by omega,getElem?_cons_succ];exact PX w4
theorem EU{n:Int}(hp:∀p∈t.ag,eH p n):∀{h:Nat} {i:Int} {low high:K},dZ t h i low high→(ids t h i).Nodup→lJ low high k→(∀x∈er t h i,x.1≠k)→∀m,m≤h →
  ∃lo hi,dZ t m (dy t k h i m) lo hi∧(ids t m (dy t k h i m)).Nodup∧lJ lo hi k∧∀x∈er t m (dy t k h i m),x.1≠k
 | 0,i,low,high,ok,nd,hk,hn,m,hm=>by
  obtain rfl:m=0:=(by omega)
  exact⟨low,high,ok,nd,hk,hn⟩
 | h+1,i,low,high,ok,nd,hk,hn,m,hm=>by
  by_cases e:m=h+1
  ·subst e;rw[ID];exact⟨low,high,ok,nd,hk,hn⟩
  obtain⟨q1,q2,E,O,I⟩:=id ok;have po:=hp _ (jE q1);obtain⟨d1,d2⟩:=down po q2 E hk;have:=EU hp (I _ d1) (wg d1 nd).1 d2 (fun x hx=>hn x MA) m w4;rw[←tG d1] at this;rw[dy,if_neg e];exact this
structure agd (u:aF) (i:Int) (up:K) (aC:Int):Prop where
 fD:∀p∈u.ag,eH p u.ag.length
 rg:0≤i∧i<u.ag.length
 out:up∉(u.pg i).keys
 len:1≤up.length∧up.length≤100
 high:(u.pg i).high≠[]→bF up (u.pg i).high
 nn:0≤aC
 nnl:(u.pg i).leaf=false→aC<u.ag.length
def kG(t:aF)(k:K)(row:Int)(h m:Nat):aF×Option (K×Int):=if m=0 then (t,some (k,row)) else gC t k row (m-1) (dy t k h t.root (m-1))
theorem Rr(h:Nat):kG t k row h (h+1)=gC t k row h t.root:=by unfold kG;rw[if_neg w4,Nat.add_sub_cancel,ID]
theorem PY(hm:m≤h){aC:Int}(e:kG t k row h m=(u,some (up,aC))):kG t k row h (m+1)=rA u (dy t k h t.root m) up aC:=by
 unfold kG at e ⊢;rw[if_neg w4,Nat.add_sub_cancel];cases m with
 | zero=>rw[if_pos rfl] at e;injection e with e1 e2;injection e2 with e2;injection e2 with e2 E;subst e1 e2 E;rw[gC]
 | succ m=>rw[if_neg w4,Nat.add_sub_cancel,A4 w4] at e;rw[gC,e]
theorem abj(h0:0<m)(hm:m≤h)(e:kG t k row h m=(u,none)):kG t k row h (m+1)=(u,none):=by
 unfold kG at e ⊢;rw[if_neg w4,Nat.add_sub_cancel];cases m with
 | zero=>omega
 | succ m=>rw[if_neg w4,Nat.add_sub_cancel,A4 w4] at e;rw[gC,e]
theorem PZ{h:Nat}{u:aF}:∀(d m:Nat),m+d=h+1→0<m→kG t k row h m=(u,none)→gC t k row h t.root=(u,none)
 | 0,m,hm,_,e=>by
  obtain rfl:m=h+1:=(by omega)
  rw[←Rr];exact e
 | d+1,m,hm,h0,e=>PZ d (m+1) w4 w4 (abj h0 w4 e)
theorem Rt(v:Valid t h)(hn:∀x∈kY t h,x.1≠k)(hl:1≤k.length∧k.length≤100)(hr:0≤row)(hm:m≤h):∃lo hi,dZ t m (dy t k h t.root m) lo hi∧lJ lo hi k∧oI t (gC t k row m (dy t k h t.root m)).1 m (dy t k h t.root m) lo hi k row (gC t k row m (dy t k h t.root m)).2:=by
 obtain⟨lo,hi,ok,nd,hk,hne⟩:=EU v.fD v.ok v.zQ (tP k) hn m hm;exact⟨lo,hi,ok,hk,FC v.fD ok nd hk hne hl hr⟩
theorem IE(v:Valid t h)(hn:∀x∈kY t h,x.1≠k)(hl:1≤k.length∧k.length≤100)(hr:0≤row)(hm:m≤h+1){r:Option (K×Int)}(e:kG t k row h m=(u,r)):u.root=t.root∧u.ag.length≤t.ag.length+m∧t.ag.length≤u.ag.length∧∀p∈u.ag,eH p u.ag.length:=by
 unfold kG at e;cases m with
 | zero=>rw[if_pos rfl] at e;injection e with e1 e2;subst e1;exact⟨rfl,Nat.le_refl _,Nat.le_refl _,v.fD⟩
 | succ m =>
  rw[if_neg w4,Nat.add_sub_cancel] at e;obtain⟨lo,hi,_,_,I⟩:=Rt v hn hl hr (m:=m) w4;rw[e] at I;exact⟨I.root,I.more,I.le,I.fD⟩
theorem aeE(v:Valid t h)(hn:∀x∈kY t h,x.1≠k)(hl:1≤k.length∧k.length≤100)(hr:0≤row)(hm:m≤h+1){aC:Int}(e:kG t k row h m=(u,some (up,aC))):up.length≤100:=by
 unfold kG at e;cases m with
 | zero=>rw[if_pos rfl] at e;injection e with e1 e2;injection e2 with e2;injection e2 with e2 E;subst e2;exact hl.2
 | succ m =>
  rw[if_neg w4,Nat.add_sub_cancel] at e;obtain⟨lo,hi,_,_,I⟩:=Rt v hn hl hr (m:=m) w4;rw[e] at I;exact I.ok.1.2
theorem aeF(v:Valid t h)(hn:∀x∈kY t h,x.1≠k)(hl:1≤k.length∧k.length≤100)(hr:0≤row)(hm:m≤h){aC:Int}(e:kG t k row h m=(u,some (up,aC))):agd u (dy t k h t.root m) up aC:=by
 cases m with
 | zero =>
  unfold kG at e;rw[if_pos rfl] at e;injection e with e1 e2;injection e2 with e2;injection e2 with e2 e3;subst e1 e2 e3
  obtain⟨lo,hi,⟨q1,q2,O,q4⟩,nd,hk,hne⟩:=EU v.fD v.ok v.zQ (tP k) hn 0 hm;refine⟨v.fD,q1,fun hm=>?_,hl,fun E=>?_,hr,fun h=>by rw[q2] at h;cases h⟩
  ·have po:=v.fD _ (jE q1);have hlen:=po.leaf q2;obtain⟨a,ha,he⟩:=mem_iff_getElem.1 hm;exact hne (k,(t.pg (dy t k h t.root 0)).kids[a]'w4) ((Bb hlen).2 ⟨a,ha,by rw[he]⟩) rfl
  rw[O] at E ⊢;exact hk.2 E
 | succ m =>
  obtain⟨s1,s2,s3,s4⟩:=IE v hn hl hr w4 e;unfold kG at e;rw[if_neg w4,Nat.add_sub_cancel] at e;obtain⟨lo,hi,ok,nd,hk,hne⟩:=EU v.fD v.ok v.zQ (tP k) hn (m+1) hm;obtain⟨q1,q2,O,q4,q5⟩:=id ok;have po:=v.fD _ (jE q1);obtain⟨d1,d2⟩:=down po q2 O hk;have U:=FC (row:=row) v.fD (q5 _ d1) (wg d1 nd).1 d2 (fun x hx=>hne x MA) hl hr;rw[←tG d1,←A4 w4,e,A4 w4] at U;have M:jB t u m (dy t k h t.root (m+1)) lo hi (aL (t.pg (dy t k h t.root (m+1))) k) k row (some (up,aC)):=⟨v.fD,ok,nd,d1,d2,U⟩
  obtain⟨m1,m2,m3,m4⟩:=M.place;have Z:=M.same;obtain⟨o1,o2,o3,o4,o5⟩:(1≤up.length∧up.length≤100)∧_∧_∧_∧dZ u m aC up _:=U.ok;have I:=o5.idx;refine⟨s4,⟨q1.1,by omega⟩,by rw[Z];exact m2,o1,fun E=>?_,I.1,fun _=>I.2⟩;rw[Z,O] at E ⊢;exact m3.2 E

end Go.Proofs.YtdgichenhdikgaaGreatDoor.Tr
namespace Go.Proofs.YtdgichenhdikgaaGreatDoor.Tr
open List
open Go.Proofs.Tryz
open Go.Lib (compareBytes)
variable {t:aF} {h:Nat} {k:K}
variable {i:Int}
noncomputable def nk(t:aF)(h:Nat)(k:K):List (K×Int):=(kY t h).filter fun x=>decide (¬bF x.1 k)
def je(t:aF)(ls:List Int):List (K×Int):=ls.flatMap fun l=>eZ (t.pg l)
theorem fa.tail{r:List Int}{e:Int}(h:fa t (i::r) e):fa t r e:=by
 cases r with
 | nil=>trivial
 | cons j r=>exact h.2
theorem fa.next{i:Int}{r:List Int}{e:Int}(h:fa t (i::r) e):(t.pg i).next=r.headD e:=by
 cases r with
 | nil=>exact h
 | cons j r=>exact h.1
theorem fa.drop{e:Int}:∀{a b:List Int},fa t (a++b) e→fa t b e
 | [],_,h=>h
 | i::a,b,h=>fa.drop (a:=a) (fa.tail h)
theorem Ru:∀{h:Nat} {i:Int} {low high:K},dZ t h i low high→∀l∈cH t h i,(0≤l∧l<t.ag.length)∧(t.pg l).leaf=true
 | 0,i,low,high,ok,l,hl=>by
  rw[cH,mem_singleton] at hl;subst hl;exact⟨ok.1,ok.2.1⟩
 | h+1,i,low,high,ok,l,hl=>by
  obtain⟨q1,q2,I,O,E⟩:=ok;rw[cH] at hl;obtain⟨c,hc,hl⟩:=mem_flatMap.1 hl;obtain⟨j,hj,rfl⟩:=mem_iff_getElem.1 hc;exact Ru (E j hj) l hl
structure rp (t:aF) (ls:List Int):Prop where
 pB:fa t ls (-1)
 at_:∀l∈ls,(0≤l∧l<t.ag.length)∧(t.pg l).leaf=true
theorem rp.tail{i:Int}{r:List Int}(h:rp t (i::r)):rp t r:=⟨fa.tail h.pB,fun l hl=>h.at_ l (mem_cons_of_mem _ hl)⟩
theorem rp.head{ls:List Int}(h:rp t ls):(0≤ls.headD (-1)→∃r,ls=ls.headD (-1)::r)∧(ls.headD (-1)<0→ls=[]):=by
 cases ls with
 | nil=>exact⟨fun h=>by simp at h,fun _=>rfl⟩
 | cons i r=>exact⟨fun _=>⟨r,rfl⟩,fun h0=>by have:=(h.at_ i mem_cons_self).1;simp at h0;omega⟩
theorem O2(v:Valid t h):rp t (cH t h t.root):=⟨v.pB h (Nat.le_refl _),Ru v.ok⟩
theorem Ey(v:Valid t h){l:Int}(hl:(0≤l∧l<t.ag.length)∧(t.pg l).leaf=true):(eZ (t.pg l)).length=(t.pg l).keys.length:=by
 have:=(v.fD _ (jE hl.1)).leaf hl.2;unfold eZ;rw[length_zip];omega
theorem ZX(v:Valid t h)(k:K):∃r,rp t (aI t k h t.root::r)∧nk t h k=(je t (aI t k h t.root::r)).drop (aL (t.pg (aI t k h t.root)) k)∧aL (t.pg (aI t k h t.root)) k≤(t.pg (aI t k h t.root)).keys.length:=by
 obtain⟨pre,post,e,he⟩:=aaX v.fD v.ok (tP k);have hL:=O2 v;have hl:=v.leaf k;have fO:aL (t.pg (aI t k h t.root)) k≤(t.pg (aI t k h t.root)).keys.length:=by
  unfold aL;split
  ·exact yP _ _
  exact Bl _ _
 rw[e] at hL;refine⟨post,⟨fa.drop hL.pB,fun l hl=>hL.at_ l (mem_append_right _ hl)⟩,?_,fO⟩;unfold nk kY;rw[he];unfold je;rw[flatMap_cons,drop_append_of_le_length (by rw[Ey v hl];exact fO)]
theorem abk(v:Valid t h){r:List Int}(hL:rp t (i::r)){a:Nat}(ha:a<(t.pg i).keys.length)(hk:a<(t.pg i).kids.length) :
  (je t (i::r)).drop a=((t.pg i).keys[a],(t.pg i).kids[a])::(je t (i::r)).drop (a+1):=by
 have hi:=hL.at_ i mem_cons_self;have hlen:=Ey v hi;have h1:a<(je t (i::r)).length:=(by unfold je;rw[flatMap_cons,length_append];omega)
 rw[drop_eq_getElem_cons h1];congr 1;unfold je;simp only[flatMap_cons];rw[getElem_append_left w4];unfold eZ;rw[getElem_zip]
theorem ZY(v:Valid t h){r:List Int}(hL:rp t (i::r)){a:Nat}(ha:a=(t.pg i).keys.length):(je t (i::r)).drop a=(je t r).drop 0:=by
 have hi:=hL.at_ i mem_cons_self;have hlen:=Ey v hi;unfold je;rw[flatMap_cons,drop_zero,drop_append_of_le_length w4,drop_eq_nil_of_le w4];rfl
theorem acT(v:Valid t h):kY t h=je t (cH t h t.root):=wA t h t.root
theorem IF(v:Valid t h):(kY t h).Pairwise fun x y=>bF x.1 y.1:=(JN v.fD v.ok).1
theorem abl(v:Valid t h)(k:K):(nk t h k).Pairwise fun x y=>bF x.1 y.1:=(IF v).filter _
theorem acU(t:aF)(h:Nat):nk t h []=kY t h:=by
 unfold nk;rw[filter_eq_self.2];intro x _;simpa using Kj x.1
theorem acV(v:Valid t h):(kY t h).length≤4*t.ag.length:=by
 have key:∀(ls:List Int),(∀l∈ls,(0≤l∧l<t.ag.length)∧(t.pg l).leaf=true)→(je t ls).length≤4*ls.length:=by
  intro ls;induction ls with
  | nil=>intro _;simp[je]
  | cons i r ih =>
   intro hl;have h1:=Ey v (hl i mem_cons_self);have h2:=(v.fD _ (jE (hl i mem_cons_self).1)).eJ;have h3:=ih fun l E=>hl l (mem_cons_of_mem _ E);unfold je at h3 ⊢;rw[flatMap_cons,length_append,length_cons];omega
 have I:(cH t h t.root).length≤(ids t h t.root).length:=by
  have:∀(h:Nat) (i:Int),(cH t h i).length≤(ids t h i).length:=by
   intro h;induction h with
   | zero=>intro i;simp[cH,ids]
   | succ h ih =>
    intro i;rw[cH,ids,length_cons,length_flatMap,length_flatMap];have:∀(l:List Int),(l.map fun a=>(cH t h a).length).sum≤(l.map fun a=>(ids t h a).length).sum:=by
     intro l;induction l with
     | nil=>simp
     | cons a l O=>simp only[map_cons,sum_cons];have:=ih a;omega
    have:=this (t.pg i).kids;omega
  exact this h t.root
 rw[acT v];have:=key _ (O2 v).at_;rw[v.all] at I;omega
theorem Rv(v:Valid t h)(k:K):(nk t h k).length≤16000:=by
 have:=acV v;have h1:=v.nN;have:(nk t h k).length≤(kY t h).length:=(filter_sublist).length_le;omega

end Go.Proofs.YtdgichenhdikgaaGreatDoor.Tr
namespace Go.Proofs.YtdgichenhdikgaaGreatDoor.Tw
open List
open Go.Proofs.Tryz
open Go.RowKit V Tr Pk
def cE(e:K×Int):List D:=[av 1 cB e.1,ae e.2]
theorem T6(e:K×Int):(cE e).length=2:=rfl
def GC(e:K×Int):List D:=[.agg (cE e)]
theorem age(b:UInt8):fL (cB b)=true:=rfl
theorem zf(k:K):fL (k.flatMap cB)=true:=uW age k
theorem zg(e:K×Int):fL (cE e)=true:=by simp[cE,fL,iG,zf]
theorem acW(e:K×Int):fL (GC e)=true:=by simp[GC,fL,iG,zg]
def KR(t:aF)(k:K):List D:=[.fC [av 5 cP t.ag,ae t.root] 0,.fC [av 1 cB k] 0]
variable {G:List (Nat×List Value)}
theorem r8 : ∀ w, ((#[{ name := "Key", type := 88, offset := 0, embedded := false, tag := "", pkgPath := "", byteOffset := 0 }, { name := "Row", type := 3, offset := 1, embedded := false, tag := "", pkgPath := "", byteOffset := 24 }] : Array Field).mapM fun f => do pure (f.offset, ← sizeOf f.type) : Sem (Array (Nat × Nat))).run Tryz.prog w = .ok #[(0, 1), (1, 1)] w := fun w => by simp [sizeOf3, sizeOf88]
theorem acX(t:aF)(h:Nat)(v:Valid t h)(k:K)(dX:k.length≤maxLen):VI Tryz.prog G 93 (KR t k) GC (fun xs=>xs=nk t h k) (fun pre=>pre <+: nk t h k) (nk t h k).length:=by
 refine VI.body func93 rfl ntmps93 aQ fun Y X0 w0 bg Sc0 hYe hYN O hY hJ0=>?_;have dz:=ei;have fP:=qt (G:=G) t h v k w4 (Ej v k);unfold cT at fP;obtain⟨r0,hL0,aka,V2⟩:=ZX v k;obtain⟨y1,y2,y3⟩:=(by exact⟨hYe,hYN,O⟩:Y.enc=GC∧Y.N=(nk t h k).length∧w0.heap.size≤Y.l)
 refine cX [0,1,4,5] (fP) ?_;refine CD.block ?_;refine mV (fun (U:List Int×Nat×List (K×Int)×List ah) aH=>match U with|(ls,a,pre,Sc)=>(rp t ls)∧(nk t h k=pre++(je t ls).drop a)∧((∀x∈head? ls,a≤(t.pg x).keys.length))∧(Y.J pre Sc)∧aH=(⟨46,[(0,.kg Y.l Y.os),(1,.fC [av 5 cP t.ag,ae t.root] 0),(4,ae (headD ls (-1))),(5,ae (a:Nat))],Sc⟩:St)) (fun (U:List Int×Nat×List (K×Int)×List ah)=>match U with|(ls,a,pre,Sc)=>length ls) ((aI t k h t.root::r0),(aL (t.pg (aI t k h t.root)) k),[],Sc0) ⟨hL0,(by rw[nil_append];exact aka),(fun x hx=>by simp at hx;subst hx;exact V2),hJ0,rfl⟩ (aK (h:=by repeat (first|exact trivial|refine⟨(by (repeat (first|exact fB|(apply fU;focus (first|rfl|(simp;done)|(rw[←gX,fa.next hL.pB])))|(apply fH;focus rfl)));done),?_⟩))) ?_;rintro⟨ls,a,pre,Sc⟩ _ ⟨hL,NT,fO,hj,rfl⟩;refine af [0,1,4,5,16] ?_;refine au ?_ ?_<;>intro aO bE
 ·have NJ:0≤headD ls (-1):=(by simpa using aO)
  obtain⟨r,hr⟩:=(rp.head hL).1 NJ;obtain⟨i,hi⟩:∃i,i=headD ls (-1):=⟨_,rfl⟩
  rw[←hi] at hr NJ;subst hr;obtain⟨AM,KP⟩:=hL.at_ i mem_cons_self;have aa:i.toNat<t.ag.length:=(by omega)
  have gX:t.pg i=t.ag[i.toNat]:=vh AM;have po:=v.fD _ (jE AM);have LO:=po.leaf KP;have mO:=po.eJ;have Wa:=fO i rfl;have U6:=v.nN;rw[gX] at po LO mO Wa;refine aD 3 ?_;refine bN (dc 5 (h:=by first|exact .l (j:=i.toNat) (by show headD (i::r) (-1)=_;simp;omega) aa|exact .r (j:=i.toNat) (by show headD (i::r) (-1)=_;simp;omega) aa)) ?_;refine bN (cU (mk:=Op.load 153) rfl ot (by exact iJ (i:=i.toNat) FD isAgg153 sizeOf153 aa)) ?_;refine OD.alloc (ds:=[_,_,_,_,_]) ap rfl rfl zeroValue153 rfl (fun b7=>?_);refine aN 0 [_,_,_,_,_] sizeOf153 ?_;refine an 46 [0,1,5,7] ?_;refine eD [0,1,7] (fun aW _ (U:Nat×List (K×Int)×List ah) aH=>match U with|(a,E,I)=>(nk t h k=E++(je t (i::r)).drop a)∧(a≤((t.ag[i.toNat]'aa)).keys.length)∧(Y.J E I)∧aH=(⟨46,(5,ae (a:Nat))::aW,(⟨b7,153,5,cP (t.ag[i.toNat]'aa)⟩::I)⟩:St)) (fun (U:Nat×List (K×Int)×List ah)=>match U with|(a,E,I)=>((t.ag[i.toNat]'aa)).keys.length-a) (a,pre,Sc) ⟨NT,Wa,hj,rfl⟩ ?_;rintro⟨a,E,I⟩ _ ⟨pR,apG,Z,rfl⟩;refine af [0,1,5,7,26] ?_;refine au ?_ ?_<;>intro aY cJ
  ·have qc:a<((t.ag[i.toNat]'aa)).keys.length:=(by have:=aY;simp at this;omega)
   have uO:a<((t.ag[i.toNat]'aa)).kids.length:=(by omega)
   have jr:(je t (i::r)).drop a=(((t.ag[i.toNat]'aa)).keys[a],((t.ag[i.toNat]'aa)).kids[a])::(je t (i::r)).drop (a+1):=(by have:=abk v hL (a:=a) (by rw[gX];exact qc) (by rw[gX];exact uO);simp only[gX] at this;exact this)
   have lm:((t.ag[i.toNat]'aa)).keys[a].length≤100:=(by have:=(po.lC _ (getElem_mem qc)).2;omega)
   refine CD.skip ?_;refine CD.seq ?_;refine CD.block ?_;refine CD.seq ?_;refine CD.adP aA ?_;refine fS 0 rfl aZ ?_;refine fS 1 rfl (dh 1) ?_;refine fS 3 rfl aZ ?_;refine fS 7 rfl (dh 2) ?_;refine fS 9 rfl aZ ?_;refine AI.two (i:=2) (j:=8) aA ?_ ?_
   ·refine kM rfl (dI 0) ?_;refine fS 4 rfl (dc 1 (h:=by first|exact .l (j:=a) rfl qc|exact .r (j:=a) rfl qc)) ?_;refine AI.two (i:=5) (j:=8) aA ?_ ?_
    ·refine kM rfl eK ?_;refine AI.two (i:=6) (j:=8) aA ?_ ?_
     ·refine gP.hU rfl ap rfl rfl rfl call95 (j7 (((t.ag[i.toNat]'aa)).keys[a]) w4) ⟨ot,trivial⟩ ?_;refine AI.one (i:=8) aA ?_;refine kM rfl (dI 0) ?_;refine fS 10 rfl (dc 1 (h:=by first|exact .l (j:=a) rfl uO|exact .r (j:=a) rfl uO)) ?_;refine AI.one (i:=11) aA ?_;refine kM rfl eK ?_;refine fS 12 rfl (nE (pl:=[(0,_),(1,_)]) (ds:=[_,_]) rfl zeroValue90 runUnderlying90 r8 ⟨rfl,ot,rfl,ot,trivial⟩ rfl rfl) ?_;refine AI.one (i:=13) aA ?_;refine gP.yield (Y:=Y) (pre:=E) (y:=(((t.ag[i.toNat]'aa)).keys[a],((t.ag[i.toNat]'aa)).kids[a])) (Sc:=I) (R:=[⟨b7,153,5,cP (t.ag[i.toNat]'aa)⟩]) rfl ap rfl rfl ot aQ lk sW (perm_append_singleton _ _).symm Z sU hY O w7 (fun Dv NU=>?_) (fun Dv NU=>?_)
      ·refine AI.perm (perm_append_singleton _ _) ?_;refine fS 14 rfl lj ?_;refine AI.wk (y:=⟨46,[(0,_),(1,_),(5,_),(7,_),(43,_)],(⟨b7,153,5,[_,_,_,_,_]⟩::Dv)⟩) (Wk.dS rfl rfl fm) ?_;refine AI.done aA ?_;refine fN ?_;refine cl [0,1,5,7] ?_;refine⟨((a+1),(E++[(((t.ag[i.toNat]'aa)).keys[a],((t.ag[i.toNat]'aa)).kids[a])]),Dv),_,cz,aK,sS,w4,NU,rfl⟩
      refine fS 14 rfl lj ?_;refine AI.wk (y:=⟨46,[(0,_),(43,_)],(Dv)⟩) (Wk.dS rfl rfl fm) ?_;refine AI.done aA ?_;refine eI ?_;refine CD.ret ?_;refine⟨.inr rfl,⟨_,qp results93⟩,(show 0<46 by decide),Dv,Sublist.refl _,?_⟩;exact .inr ⟨E++[(((t.ag[i.toNat]'aa)).keys[a],((t.ag[i.toNat]'aa)).kids[a])],⟨(je t (i::r)).drop (a+1),by rw[pR,jr,append_assoc];rfl⟩,NU,lk⟩
     refine kM rfl (dI 0) ?_;refine fS 10 rfl (dc 1 (h:=by first|exact .l (j:=a) rfl uO|exact .r (j:=a) rfl uO)) ?_;refine AI.two (i:=6) (j:=11) aA ?_ ?_
     ·refine gP.hU rfl ap rfl rfl rfl call95 (j7 (((t.ag[i.toNat]'aa)).keys[a]) w4) ⟨ot,trivial⟩ ?_;refine AI.one (i:=11) aA ?_;refine kM rfl eK ?_;refine fS 12 rfl (nE (pl:=[(0,_),(1,_)]) (ds:=[_,_]) rfl zeroValue90 runUnderlying90 r8 ⟨rfl,ot,rfl,ot,trivial⟩ rfl rfl) ?_;refine AI.one (i:=13) aA ?_;refine gP.yield (Y:=Y) (pre:=E) (y:=(((t.ag[i.toNat]'aa)).keys[a],((t.ag[i.toNat]'aa)).kids[a])) (Sc:=I) (R:=[⟨b7,153,5,cP (t.ag[i.toNat]'aa)⟩]) rfl ap rfl rfl ot aQ lk sW (perm_append_singleton _ _).symm Z sU hY O w7 (fun I NV=>?_) (fun I NV=>?_)
      ·refine AI.perm (perm_append_singleton _ _) ?_;refine fS 14 rfl lj ?_;refine AI.wk (y:=⟨46,[(0,_),(1,_),(5,_),(7,_),(43,_)],(⟨b7,153,5,[_,_,_,_,_]⟩::I)⟩) (Wk.dS rfl rfl fm) ?_;refine AI.done aA ?_;refine fN ?_;refine cl [0,1,5,7] ?_;refine⟨((a+1),(E++[(((t.ag[i.toNat]'aa)).keys[a],((t.ag[i.toNat]'aa)).kids[a])]),I),_,cz,aK,sS,w4,NV,rfl⟩
      refine fS 14 rfl lj ?_;refine AI.wk (y:=⟨46,[(0,_),(43,_)],(I)⟩) (Wk.dS rfl rfl fm) ?_;refine AI.done aA ?_;refine eI ?_;refine CD.ret ?_;refine⟨.inr rfl,⟨_,qp results93⟩,(show 0<46 by decide),I,Sublist.refl _,?_⟩;exact .inr ⟨E++[(((t.ag[i.toNat]'aa)).keys[a],((t.ag[i.toNat]'aa)).kids[a])],⟨(je t (i::r)).drop (a+1),by rw[pR,jr,append_assoc];rfl⟩,NV,lk⟩
     refine kM rfl eK ?_;refine AI.one (i:=6) aA ?_;refine gP.hU rfl ap rfl rfl rfl call95 (j7 (((t.ag[i.toNat]'aa)).keys[a]) w4) ⟨ot,trivial⟩ ?_;refine fS 12 rfl (nE (pl:=[(0,_),(1,_)]) (ds:=[_,_]) rfl zeroValue90 runUnderlying90 r8 ⟨rfl,ot,rfl,ot,trivial⟩ rfl rfl) ?_;refine AI.one (i:=13) aA ?_;refine gP.yield (Y:=Y) (pre:=E) (y:=(((t.ag[i.toNat]'aa)).keys[a],((t.ag[i.toNat]'aa)).kids[a])) (Sc:=I) (R:=[⟨b7,153,5,cP (t.ag[i.toNat]'aa)⟩]) rfl ap rfl rfl ot aQ lk sW (perm_append_singleton _ _).symm Z sU hY O w7 (fun Dw NW=>?_) (fun Dw NW=>?_)
     ·refine AI.perm (perm_append_singleton _ _) ?_;refine fS 14 rfl lj ?_;refine AI.wk (y:=⟨46,[(0,_),(1,_),(5,_),(7,_),(43,_)],(⟨b7,153,5,[_,_,_,_,_]⟩::Dw)⟩) (Wk.dS rfl rfl fm) ?_;refine AI.done aA ?_;refine fN ?_;refine cl [0,1,5,7] ?_;refine⟨((a+1),(E++[(((t.ag[i.toNat]'aa)).keys[a],((t.ag[i.toNat]'aa)).kids[a])]),Dw),_,cz,aK,sS,w4,NW,rfl⟩
     refine fS 14 rfl lj ?_;refine AI.wk (y:=⟨46,[(0,_),(43,_)],(Dw)⟩) (Wk.dS rfl rfl fm) ?_;refine AI.done aA ?_;refine eI ?_;refine CD.ret ?_;refine⟨.inr rfl,⟨_,qp results93⟩,(show 0<46 by decide),Dw,Sublist.refl _,?_⟩;exact .inr ⟨E++[(((t.ag[i.toNat]'aa)).keys[a],((t.ag[i.toNat]'aa)).kids[a])],⟨(je t (i::r)).drop (a+1),by rw[pR,jr,append_assoc];rfl⟩,NW,lk⟩
    refine kM rfl (dI 0) ?_;refine fS 10 rfl (dc 1 (h:=by first|exact .l (j:=a) rfl uO|exact .r (j:=a) rfl uO)) ?_;refine AI.two (i:=5) (j:=11) aA ?_ ?_
    ·refine kM rfl eK ?_;refine AI.two (i:=6) (j:=11) aA ?_ ?_
     ·refine gP.hU rfl ap rfl rfl rfl call95 (j7 (((t.ag[i.toNat]'aa)).keys[a]) w4) ⟨ot,trivial⟩ ?_;refine AI.one (i:=11) aA ?_;refine kM rfl eK ?_;refine fS 12 rfl (nE (pl:=[(0,_),(1,_)]) (ds:=[_,_]) rfl zeroValue90 runUnderlying90 r8 ⟨rfl,ot,rfl,ot,trivial⟩ rfl rfl) ?_;refine AI.one (i:=13) aA ?_;refine gP.yield (Y:=Y) (pre:=E) (y:=(((t.ag[i.toNat]'aa)).keys[a],((t.ag[i.toNat]'aa)).kids[a])) (Sc:=I) (R:=[⟨b7,153,5,cP (t.ag[i.toNat]'aa)⟩]) rfl ap rfl rfl ot aQ lk sW (perm_append_singleton _ _).symm Z sU hY O w7 (fun Dx NX=>?_) (fun Dx NX=>?_)
      ·refine AI.perm (perm_append_singleton _ _) ?_;refine fS 14 rfl lj ?_;refine AI.wk (y:=⟨46,[(0,_),(1,_),(5,_),(7,_),(43,_)],(⟨b7,153,5,[_,_,_,_,_]⟩::Dx)⟩) (Wk.dS rfl rfl fm) ?_;refine AI.done aA ?_;refine fN ?_;refine cl [0,1,5,7] ?_;refine⟨((a+1),(E++[(((t.ag[i.toNat]'aa)).keys[a],((t.ag[i.toNat]'aa)).kids[a])]),Dx),_,cz,aK,sS,w4,NX,rfl⟩
      refine fS 14 rfl lj ?_;refine AI.wk (y:=⟨46,[(0,_),(43,_)],(Dx)⟩) (Wk.dS rfl rfl fm) ?_;refine AI.done aA ?_;refine eI ?_;refine CD.ret ?_;refine⟨.inr rfl,⟨_,qp results93⟩,(show 0<46 by decide),Dx,Sublist.refl _,?_⟩;exact .inr ⟨E++[(((t.ag[i.toNat]'aa)).keys[a],((t.ag[i.toNat]'aa)).kids[a])],⟨(je t (i::r)).drop (a+1),by rw[pR,jr,append_assoc];rfl⟩,NX,lk⟩
     refine kM rfl eK ?_;refine AI.one (i:=6) aA ?_;refine gP.hU rfl ap rfl rfl rfl call95 (j7 (((t.ag[i.toNat]'aa)).keys[a]) w4) ⟨ot,trivial⟩ ?_;refine fS 12 rfl (nE (pl:=[(0,_),(1,_)]) (ds:=[_,_]) rfl zeroValue90 runUnderlying90 r8 ⟨rfl,ot,rfl,ot,trivial⟩ rfl rfl) ?_;refine AI.one (i:=13) aA ?_;refine gP.yield (Y:=Y) (pre:=E) (y:=(((t.ag[i.toNat]'aa)).keys[a],((t.ag[i.toNat]'aa)).kids[a])) (Sc:=I) (R:=[⟨b7,153,5,cP (t.ag[i.toNat]'aa)⟩]) rfl ap rfl rfl ot aQ lk sW (perm_append_singleton _ _).symm Z sU hY O w7 (fun Dy NY=>?_) (fun Dy NY=>?_)
     ·refine AI.perm (perm_append_singleton _ _) ?_;refine fS 14 rfl lj ?_;refine AI.wk (y:=⟨46,[(0,_),(1,_),(5,_),(7,_),(43,_)],(⟨b7,153,5,[_,_,_,_,_]⟩::Dy)⟩) (Wk.dS rfl rfl fm) ?_;refine AI.done aA ?_;refine fN ?_;refine cl [0,1,5,7] ?_;refine⟨((a+1),(E++[(((t.ag[i.toNat]'aa)).keys[a],((t.ag[i.toNat]'aa)).kids[a])]),Dy),_,cz,aK,sS,w4,NY,rfl⟩
     refine fS 14 rfl lj ?_;refine AI.wk (y:=⟨46,[(0,_),(43,_)],(Dy)⟩) (Wk.dS rfl rfl fm) ?_;refine AI.done aA ?_;refine eI ?_;refine CD.ret ?_;refine⟨.inr rfl,⟨_,qp results93⟩,(show 0<46 by decide),Dy,Sublist.refl _,?_⟩;exact .inr ⟨E++[(((t.ag[i.toNat]'aa)).keys[a],((t.ag[i.toNat]'aa)).kids[a])],⟨(je t (i::r)).drop (a+1),by rw[pR,jr,append_assoc];rfl⟩,NY,lk⟩
    refine kM rfl eK ?_;refine AI.one (i:=5) aA ?_;refine kM rfl eK ?_;refine AI.one (i:=6) aA ?_;refine gP.hU rfl ap rfl rfl rfl call95 (j7 (((t.ag[i.toNat]'aa)).keys[a]) w4) ⟨ot,trivial⟩ ?_;refine fS 12 rfl (nE (pl:=[(0,_),(1,_)]) (ds:=[_,_]) rfl zeroValue90 runUnderlying90 r8 ⟨rfl,ot,rfl,ot,trivial⟩ rfl rfl) ?_;refine AI.one (i:=13) aA ?_;refine gP.yield (Y:=Y) (pre:=E) (y:=(((t.ag[i.toNat]'aa)).keys[a],((t.ag[i.toNat]'aa)).kids[a])) (Sc:=I) (R:=[⟨b7,153,5,cP (t.ag[i.toNat]'aa)⟩]) rfl ap rfl rfl ot aQ lk sW (perm_append_singleton _ _).symm Z sU hY O w7 (fun Dz NZ=>?_) (fun Dz NZ=>?_)
    ·refine AI.perm (perm_append_singleton _ _) ?_;refine fS 14 rfl lj ?_;refine AI.wk (y:=⟨46,[(0,_),(1,_),(5,_),(7,_),(43,_)],(⟨b7,153,5,[_,_,_,_,_]⟩::Dz)⟩) (Wk.dS rfl rfl fm) ?_;refine AI.done aA ?_;refine fN ?_;refine cl [0,1,5,7] ?_;refine⟨((a+1),(E++[(((t.ag[i.toNat]'aa)).keys[a],((t.ag[i.toNat]'aa)).kids[a])]),Dz),_,cz,aK,sS,w4,NZ,rfl⟩
    refine fS 14 rfl lj ?_;refine AI.wk (y:=⟨46,[(0,_),(43,_)],(Dz)⟩) (Wk.dS rfl rfl fm) ?_;refine AI.done aA ?_;refine eI ?_;refine CD.ret ?_;refine⟨.inr rfl,⟨_,qp results93⟩,(show 0<46 by decide),Dz,Sublist.refl _,?_⟩;exact .inr ⟨E++[(((t.ag[i.toNat]'aa)).keys[a],((t.ag[i.toNat]'aa)).kids[a])],⟨(je t (i::r)).drop (a+1),by rw[pR,jr,append_assoc];rfl⟩,NZ,lk⟩
   refine kM rfl (dI 0) ?_;refine fS 10 rfl (dc 1 (h:=by first|exact .l (j:=a) rfl uO|exact .r (j:=a) rfl uO)) ?_;refine AI.two (i:=2) (j:=11) aA ?_ ?_
   ·refine kM rfl (dI 0) ?_;refine fS 4 rfl (dc 1 (h:=by first|exact .l (j:=a) rfl qc|exact .r (j:=a) rfl qc)) ?_;refine AI.two (i:=5) (j:=11) aA ?_ ?_
    ·refine kM rfl eK ?_;refine AI.two (i:=6) (j:=11) aA ?_ ?_
     ·refine gP.hU rfl ap rfl rfl rfl call95 (j7 (((t.ag[i.toNat]'aa)).keys[a]) w4) ⟨ot,trivial⟩ ?_;refine AI.one (i:=11) aA ?_;refine kM rfl eK ?_;refine fS 12 rfl (nE (pl:=[(0,_),(1,_)]) (ds:=[_,_]) rfl zeroValue90 runUnderlying90 r8 ⟨rfl,ot,rfl,ot,trivial⟩ rfl rfl) ?_;refine AI.one (i:=13) aA ?_;refine gP.yield (Y:=Y) (pre:=E) (y:=(((t.ag[i.toNat]'aa)).keys[a],((t.ag[i.toNat]'aa)).kids[a])) (Sc:=I) (R:=[⟨b7,153,5,cP (t.ag[i.toNat]'aa)⟩]) rfl ap rfl rfl ot aQ lk sW (perm_append_singleton _ _).symm Z sU hY O w7 (fun DA N0=>?_) (fun DA N0=>?_)
      ·refine AI.perm (perm_append_singleton _ _) ?_;refine fS 14 rfl lj ?_;refine AI.wk (y:=⟨46,[(0,_),(1,_),(5,_),(7,_),(43,_)],(⟨b7,153,5,[_,_,_,_,_]⟩::DA)⟩) (Wk.dS rfl rfl fm) ?_;refine AI.done aA ?_;refine fN ?_;refine cl [0,1,5,7] ?_;refine⟨((a+1),(E++[(((t.ag[i.toNat]'aa)).keys[a],((t.ag[i.toNat]'aa)).kids[a])]),DA),_,cz,aK,sS,w4,N0,rfl⟩
      refine fS 14 rfl lj ?_;refine AI.wk (y:=⟨46,[(0,_),(43,_)],(DA)⟩) (Wk.dS rfl rfl fm) ?_;refine AI.done aA ?_;refine eI ?_;refine CD.ret ?_;refine⟨.inr rfl,⟨_,qp results93⟩,(show 0<46 by decide),DA,Sublist.refl _,?_⟩;exact .inr ⟨E++[(((t.ag[i.toNat]'aa)).keys[a],((t.ag[i.toNat]'aa)).kids[a])],⟨(je t (i::r)).drop (a+1),by rw[pR,jr,append_assoc];rfl⟩,N0,lk⟩
     refine kM rfl eK ?_;refine AI.one (i:=6) aA ?_;refine gP.hU rfl ap rfl rfl rfl call95 (j7 (((t.ag[i.toNat]'aa)).keys[a]) w4) ⟨ot,trivial⟩ ?_;refine fS 12 rfl (nE (pl:=[(0,_),(1,_)]) (ds:=[_,_]) rfl zeroValue90 runUnderlying90 r8 ⟨rfl,ot,rfl,ot,trivial⟩ rfl rfl) ?_;refine AI.one (i:=13) aA ?_;refine gP.yield (Y:=Y) (pre:=E) (y:=(((t.ag[i.toNat]'aa)).keys[a],((t.ag[i.toNat]'aa)).kids[a])) (Sc:=I) (R:=[⟨b7,153,5,cP (t.ag[i.toNat]'aa)⟩]) rfl ap rfl rfl ot aQ lk sW (perm_append_singleton _ _).symm Z sU hY O w7 (fun DB N1=>?_) (fun DB N1=>?_)
     ·refine AI.perm (perm_append_singleton _ _) ?_;refine fS 14 rfl lj ?_;refine AI.wk (y:=⟨46,[(0,_),(1,_),(5,_),(7,_),(43,_)],(⟨b7,153,5,[_,_,_,_,_]⟩::DB)⟩) (Wk.dS rfl rfl fm) ?_;refine AI.done aA ?_;refine fN ?_;refine cl [0,1,5,7] ?_;refine⟨((a+1),(E++[(((t.ag[i.toNat]'aa)).keys[a],((t.ag[i.toNat]'aa)).kids[a])]),DB),_,cz,aK,sS,w4,N1,rfl⟩
     refine fS 14 rfl lj ?_;refine AI.wk (y:=⟨46,[(0,_),(43,_)],(DB)⟩) (Wk.dS rfl rfl fm) ?_;refine AI.done aA ?_;refine eI ?_;refine CD.ret ?_;refine⟨.inr rfl,⟨_,qp results93⟩,(show 0<46 by decide),DB,Sublist.refl _,?_⟩;exact .inr ⟨E++[(((t.ag[i.toNat]'aa)).keys[a],((t.ag[i.toNat]'aa)).kids[a])],⟨(je t (i::r)).drop (a+1),by rw[pR,jr,append_assoc];rfl⟩,N1,lk⟩
    refine kM rfl eK ?_;refine AI.one (i:=5) aA ?_;refine kM rfl eK ?_;refine AI.one (i:=6) aA ?_;refine gP.hU rfl ap rfl rfl rfl call95 (j7 (((t.ag[i.toNat]'aa)).keys[a]) w4) ⟨ot,trivial⟩ ?_;refine fS 12 rfl (nE (pl:=[(0,_),(1,_)]) (ds:=[_,_]) rfl zeroValue90 runUnderlying90 r8 ⟨rfl,ot,rfl,ot,trivial⟩ rfl rfl) ?_;refine AI.one (i:=13) aA ?_;refine gP.yield (Y:=Y) (pre:=E) (y:=(((t.ag[i.toNat]'aa)).keys[a],((t.ag[i.toNat]'aa)).kids[a])) (Sc:=I) (R:=[⟨b7,153,5,cP (t.ag[i.toNat]'aa)⟩]) rfl ap rfl rfl ot aQ lk sW (perm_append_singleton _ _).symm Z sU hY O w7 (fun DC N2=>?_) (fun DC N2=>?_)
    ·refine AI.perm (perm_append_singleton _ _) ?_;refine fS 14 rfl lj ?_;refine AI.wk (y:=⟨46,[(0,_),(1,_),(5,_),(7,_),(43,_)],(⟨b7,153,5,[_,_,_,_,_]⟩::DC)⟩) (Wk.dS rfl rfl fm) ?_;refine AI.done aA ?_;refine fN ?_;refine cl [0,1,5,7] ?_;refine⟨((a+1),(E++[(((t.ag[i.toNat]'aa)).keys[a],((t.ag[i.toNat]'aa)).kids[a])]),DC),_,cz,aK,sS,w4,N2,rfl⟩
    refine fS 14 rfl lj ?_;refine AI.wk (y:=⟨46,[(0,_),(43,_)],(DC)⟩) (Wk.dS rfl rfl fm) ?_;refine AI.done aA ?_;refine eI ?_;refine CD.ret ?_;refine⟨.inr rfl,⟨_,qp results93⟩,(show 0<46 by decide),DC,Sublist.refl _,?_⟩;exact .inr ⟨E++[(((t.ag[i.toNat]'aa)).keys[a],((t.ag[i.toNat]'aa)).kids[a])],⟨(je t (i::r)).drop (a+1),by rw[pR,jr,append_assoc];rfl⟩,N2,lk⟩
   refine kM rfl eK ?_;refine AI.one (i:=2) aA ?_;refine kM rfl (dI 0) ?_;refine fS 4 rfl (dc 1 (h:=by first|exact .l (j:=a) rfl qc|exact .r (j:=a) rfl qc)) ?_;refine AI.one (i:=5) aA ?_;refine kM rfl eK ?_;refine AI.one (i:=6) aA ?_;refine gP.hU rfl ap rfl rfl rfl call95 (j7 (((t.ag[i.toNat]'aa)).keys[a]) w4) ⟨ot,trivial⟩ ?_;refine fS 12 rfl (nE (pl:=[(0,_),(1,_)]) (ds:=[_,_]) rfl zeroValue90 runUnderlying90 r8 ⟨rfl,ot,rfl,ot,trivial⟩ rfl rfl) ?_;refine AI.one (i:=13) aA ?_;refine gP.yield (Y:=Y) (pre:=E) (y:=(((t.ag[i.toNat]'aa)).keys[a],((t.ag[i.toNat]'aa)).kids[a])) (Sc:=I) (R:=[⟨b7,153,5,cP (t.ag[i.toNat]'aa)⟩]) rfl ap rfl rfl ot aQ lk sW (perm_append_singleton _ _).symm Z sU hY O w7 (fun Cr LW=>?_) (fun Cr LW=>?_)
   ·refine AI.perm (perm_append_singleton _ _) ?_;refine fS 14 rfl lj ?_;refine AI.wk (y:=⟨46,[(0,_),(1,_),(5,_),(7,_),(43,_)],(⟨b7,153,5,[_,_,_,_,_]⟩::Cr)⟩) (Wk.dS rfl rfl fm) ?_;refine AI.done aA ?_;refine fN ?_;refine cl [0,1,5,7] ?_;refine⟨((a+1),(E++[(((t.ag[i.toNat]'aa)).keys[a],((t.ag[i.toNat]'aa)).kids[a])]),Cr),_,cz,aK,sS,w4,LW,rfl⟩
   refine fS 14 rfl lj ?_;refine AI.wk (y:=⟨46,[(0,_),(43,_)],(Cr)⟩) (Wk.dS rfl rfl fm) ?_;refine AI.done aA ?_;refine eI ?_;refine CD.ret ?_;refine⟨.inr rfl,⟨_,qp results93⟩,(show 0<46 by decide),Cr,Sublist.refl _,?_⟩;exact .inr ⟨E++[(((t.ag[i.toNat]'aa)).keys[a],((t.ag[i.toNat]'aa)).kids[a])],⟨(je t (i::r)).drop (a+1),by rw[pR,jr,append_assoc];rfl⟩,LW,lk⟩
  have fb:a=(t.pg i).keys.length:=(by rw[gX];have:=aY;simp at this;omega)
  refine cl [0,1,4,5] ?_;refine⟨(r,0,E,I),_,(by (show length r<length (i::r);simp)),(aK (h:=by repeat (first|exact trivial|refine⟨(by (repeat (first|exact fB|(apply fU;focus (first|rfl|(simp;done)|(rw[←gX,fa.next hL.pB])))|(apply fH;focus rfl)));done),?_⟩))),hL.tail,(by rw[pR,ZY v hL fb]),(fun x hx=>Nat.zero_le _),Z,rfl⟩
 have akb:ls=[]:=hL.head.2 xS;refine CD.exit ?_;refine⟨.inl rfl,⟨_,qp results93⟩,(show 0<46 by decide),Sc,Sublist.refl _,?_⟩;exact .inl ⟨pre,by rw[NT,akb];simp[je],hj,lk⟩

open Go.Lib (compareBytes)
theorem afo(e:K×Int):(cE e).all V.one=true:=rfl
theorem agf(k:K):fL (cK k)=true:=by simp[cK,fL,iG,zf]
theorem agh(n:Int):fL (cI n)=true:=rfl
theorem agi(p:de):fL (cP p)=true:=by simp[cP,fL,iG,zf,uW agf,uW agh]
def U7(t:aF)(k:K):D:=.eC (.func 93) (KR t k)
noncomputable def va(eX:K)(x:K×Int):Bool:=decide (0<eX.length∧bF eX x.1)
noncomputable def wY(t:aF)(h:Nat)(f eX:K):List (K×Int):=(nk t h f).takeWhile fun x=>!va eX x
noncomputable def wR(t:aF)(h:Nat)(f eX:K):List (K×Int)×Int:=if gG t=0 then (if f.length≤100∧eX.length≤100 then (wY t h f eX,0) else ([],1)) else ([],gG t)
theorem IG{α:Type}{p:α→Bool}:∀{l:List α},(∀x∈l,p x=true)→l.takeWhile p=l
 | [],_=>rfl
 | x::l,h=>by rw[takeWhile_cons,if_pos (h x mem_cons_self),IG fun y hy=>h y (mem_cons_of_mem _ hy)]
theorem P0{α:Type}{p:α→Bool}{y:α}{r:List α}(hy:p y=false):∀{l:List α},(∀x∈l,p x=true)→(l++y::r).takeWhile p=l
 | [],_=>by rw[nil_append,takeWhile_cons,if_neg (by rw[hy];decide)]
 | x::l,h=>by rw[cons_append,takeWhile_cons,if_pos (h x mem_cons_self),P0 hy fun y hy=>h y (mem_cons_of_mem _ hy)]
def wZ(b9 b5:Nat)(eX:K)(pre:List (K×Int))(Sc:List ah):Prop:=(∀x∈pre,va eX x=false)∧∃ad cap So,bp 90 2 (pre.flatMap cE) pre.length ad cap So∧Sc=⟨b9,85,1,[aP ad pre.length cap]⟩::⟨b5,88,1,[av 1 cB eX]⟩::So
def F3(b9 b5:Nat)(eX:K)(pre:List (K×Int))(Sc:List ah):Prop:=∃init y,pre=init++[y]∧va eX y=true∧wZ b9 b5 eX init Sc
theorem wZ.iG{b9 b5:Nat}{eX:K}{pre:List (K×Int)}{Sc:List ah}(h:wZ b9 b5 eX pre Sc):∀B∈Sc,fL B.cs=true:=by
 obtain⟨_,ad,cap,So,ho,rfl⟩:=h;intro B E;rcases mem_cons.1 E with rfl|E
 ·rfl
 rcases mem_cons.1 E with rfl|E
 ·simp[fL,V.iG,zf]
 rcases ho with ⟨_,_,_,_,rfl⟩|⟨b,_,_,_,rfl⟩
 ·cases E
 rw[mem_singleton] at E;subst E;exact uW zg pre
theorem F3.iG{b9 b5:Nat}{eX:K}{pre:List (K×Int)}{Sc:List ah}(h:F3 b9 b5 eX pre Sc):∀B∈Sc,fL B.cs=true:=by
 obtain⟨init,y,_,_,h⟩:=h;exact h.iG
def KS(b9 b5:Nat)(eX:K)(pre:List (K×Int))(y:K×Int)(Sc:List ah)(z:St):Prop:=wZ b9 b5 eX pre Sc∧∃lf,z=⟨43,[(5,dM b5),(9,dM b9),(10,dM lf)],⟨lf,90,2,cE y⟩::Sc⟩
theorem KS.iG{b9 b5:Nat}{eX:K}{pre:List (K×Int)}{y:K×Int}{Sc:List ah}{z:St}(h:KS b9 b5 eX pre y Sc z):(z.env.all fun p=>V.iG p.2)=true∧∀B∈z.S,fL B.cs=true:=by
 obtain⟨hj,lf,rfl⟩:=h;refine⟨rfl,fun B E=>?_⟩;rcases mem_cons.1 E with rfl|E
 ·exact zg y
 exact hj.iG B E
theorem acY{b9 b5:Nat}{t:aF}{h:Nat}{f eX:K}{Sc:List ah}{c d:Code}(he:(∃xs,xs=nk t h f∧wZ b9 b5 eX xs Sc)∨(c=d∧∃pre,pre <+: nk t h f∧F3 b9 b5 eX pre Sc)):∃I,I=wY t h f eX∧wZ b9 b5 eX I Sc:=by
 rcases he with ⟨xs,rfl,hj⟩|⟨_,pre,⟨r,hr⟩,E,y,rfl,hy,hj⟩
 ·exact⟨_,(IG fun x hx=>by rw[hj.1 x hx];rfl).symm,hj⟩
 refine⟨E,?_,hj⟩;unfold wY;rw[←hr,append_assoc,singleton_append];exact(P0 (by rw[hy];rfl) fun x hx=>by rw[hj.1 x hx];rfl).symm
theorem aeG(t:aF)(k:K):VC Tryz.prog G 50 [.agg (cT t),av 1 cB k] [] (fun r S=>∃b2 b3,r = .eC (.func 93) [dM b2,dM b3]∧S=[⟨b3,88,1,[av 1 cB k]⟩,⟨b2,51,2,cT t⟩]):=by
 refine VC.body func50 rfl ntmps50 aQ fun X0 w0 bg=>?_;unfold cT;refine bY ?_;refine OD.box (ds:=[_,_]) ap rfl rfl ot rfl rfl (fun b2=>?_);refine OD.box (ds:=[_]) ap rfl rfl ot rfl rfl (fun b3=>?_);refine an 6 [2,3] ?_;refine cZ [4] ?_;refine aS 0 ?_ (h:=by exact(pG (ds:=[_,_]) rfl ⟨ot,ot,trivial⟩));refine bK ?_;refine aJ [_,_] ?_;exact⟨_,_,rfl,rfl⟩
theorem aeH(t:aF)(k:K):VP Tryz.prog G 50 [.agg (cT t),av 1 cB k] (U7 t k):=VC.cover (aeG t k) fun r S ⟨b2,b3,hr,hS⟩=>by
 subst hr;subst hS;exact ab6 ⟨QG (e:=51) (size:=2) (cs:=cT t) (mem_cons_of_mem _ mem_cons_self) gH.same,QG (e:=88) (size:=1) mem_cons_self gH.same,trivial⟩
theorem Zx:(Tryz.prog.info? 90).map (fun i=>(i.zero,i.size,i.bytes))=some (some (.agg #[.slice none 0 0,.int .i64 0]),2,32):=by kernel_rfl
theorem aeI(t:aF)(h:Nat)(hb:∀p∈t.ag,p.keys.length≤maxLen∧p.kids.length≤maxLen)(hv:gG t=0→Valid t h)(f eX:K):VP Tryz.prog G 30 [.agg (cT t),av 1 cB f,av 1 cB eX] (.dJ [.list 2 ((wR t h f eX).1.flatMap cE) (wR t h f eX).1.length,ae (wR t h f eX).2]):=by
 refine VC.zv func30 rfl ntmps30 aQ fun X0 w0 bg=>?_;have dz:=ei;have e9:=pH (G:=G) t hb;have U:=aeH (G:=G) t f;unfold cT at e9 U;unfold cT;refine bY ?_;refine OD.box (ds:=[_,_]) ap rfl rfl ot rfl rfl (fun b3=>?_);refine OD.box (ds:=[_]) ap rfl rfl ot rfl rfl (fun b5=>?_);refine an 43 [1,3,5] ?_;refine cX [1,3,5,8] (e9) ?_;refine af [1,3,5,8,14] ?_;refine au ?_ ?_<;>intro aO bE
 ·have hn:¬gG t=0:=(by simpa using aO)
  refine af [6,7] ?_;refine CD.wk (Wk.tL (t:=6) (sz:=2) lk) ?_;refine aJ [] ?_;exact⟨by unfold wR;rw[if_neg hn];rfl,rfl⟩
 have hz:gG t=0:=(by simpa using aO)
 have v:=hv hz;have U6:=Rv v f;refine aD 4 ?_;refine bW 19 (fun Z O=>?_) (fun Z O=>?_)
 ·refine bf [1,3,5,23] ?_;refine eI ?_;exact z80
 refine bf [1,3,5,23] ?_;refine au ?_ ?_<;>intro aY cJ
 ·exact z80
 have aoi:f.length≤100∧eX.length≤100:=(by simp_all;omega)
 have hf1:f.length≤maxLen:=(by omega)
 refine bY ?_;refine OD.alloc (ds:=[_]) ap rfl rfl zeroValue85 rfl (fun b9=>?_);refine an 43 [1,3,5,9] ?_;refine CD.aix ?_;refine dO 2 ?_;refine dV call50 (U) ?_;refine an 43 [5,9,26] ?_;refine vP.wk (Wk.drop _ _ _ [⟨b9,85,1,[bA]⟩,⟨b5,88,1,[av 1 cB eX]⟩] (Sublist.cons_cons _ (Sublist.cons_cons _ (Sublist.cons _ (Sublist.refl _))))) ?_;refine vP.range ot call93 (acX t h v f hf1) (fun _=>rfl) acW (.exit 0) (.inr rfl) (wZ b9 b5 eX) (F3 b9 b5 eX) (fun _ _ h=>h.iG) (fun _ _ h=>h.iG) ⟨(fun _ h=>by cases h),none,0,[],ik,rfl⟩ (KS b9 b5 eX) (fun _ _ _ _ h=>h.iG) ?_ ?_ ?_ (fun h=>by cases h)
 ·intro X1 W1 S1 l1 pre y Sc hJ hN;refine CI.region MB rfl ?_;refine OD.alloc (ds:=[_,_]) ap rfl rfl zeroValue90 rfl (fun lf=>?_);refine aN 0 [_,_] sizeOf90 ?_;refine OD.wk (Wk.dS (n:=43) (l':=[(5,_),(9,_),(10,_)]) (S':=(⟨lf,90,2,[_,_]⟩::Sc)) rfl rfl fm) ?_;refine OD.nil ?_;exact⟨rfl,hJ,lf,rfl⟩
 ·intro X1 W1 S1 l1 pre y Sc z hJ hN hz;obtain⟨⟨aR,ad,cap,So,ho,rfl⟩,lf,rfl⟩:=hz;unfold cE;refine CI.block ?_;refine CI.seq ?_;refine CI.seq ?_;refine CI.region MB rfl ?_;refine bN (dI 2) ?_;refine bN qQ ?_;refine bN mT ?_;refine om_ ?_;refine OD.split (t:=31) lk (fun I=>?_) (fun I=>?_)
  ·have E:=I;(try simp only[V.nx,ne_eq] at E)
   refine bN (dh 0) ?_;refine bN (dI 0) ?_;refine bN (dI 2) ?_;refine OD.hU iw rfl rfl rfl call51 (wH y.1 eX) ⟨ot,ot,trivial⟩ ?_;refine bN mT ?_;refine bN xx ?_;refine OD.wk (Wk.dS (n:=43) (l':=[(9,_),(10,_),(37,_)]) (S':=(⟨lf,90,2,[_,_]⟩::⟨b9,85,1,[_]⟩::⟨b5,88,1,[_]⟩::So)) rfl rfl fm) ?_;refine OD.nil ?_;refine CI.cond ot (fun cm=>?_) (fun cm=>?_)
   ·have cW:=cm
    (try simp only[V.nx,ne_eq] at cW)
    have fG:va eX y=true:=(by unfold va;simp_all[T5])
    refine CI.exit ?_;exact⟨rfl,_,Sublist.cons _ (Sublist.refl _),pre,y,rfl,fG,aR,ad,cap,So,ho,rfl⟩
   have cW:=cm
   (try simp only[V.nx,ne_eq] at cW)
   exact WI
  have E:=I;(try simp only[V.nx,ne_eq] at E)
  refine CY ?_;refine CY ?_;refine CY ?_;refine CY ?_;refine CY ?_;refine bN vn ?_;refine Xq [9,10,37] ?_;refine CI.KG ot jw ?_;exact WI
 intro W1 S1 D1 Sc fb;obtain⟨es,hes,aR,ad,cap,So,ho,rfl⟩:=acY fb;refine af [6,7] ?_;refine CD.ic (t:=6) (Sq:=So) lk ho (cu T6 _) (dg (A:=[_,_])) ?_;refine CD.ret ?_;refine⟨rfl,(by simp[iG,fL,uW zg,zf,zg,uW agi,U7,KR]),(by intro B hB;simp only[mem_cons,not_mem_nil,or_false] at hB;rcases hB with rfl|rfl<;>simp[iG,fL,zf]),_,[],nil_sublist _,Jr results30 (yW aQ lk) (yW aQ lk),(by simp[iG,fL,uW zg]),?_⟩;rw[hes];exact⟨by unfold wR;rw[if_pos hz,if_pos ⟨by omega,by omega⟩],rfl⟩

end Go.Proofs.YtdgichenhdikgaaGreatDoor.Tw
namespace Go.Proofs.YtdgichenhdikgaaGreatDoor.Tw

open List
open Go.Proofs.Tryz
open Go.RowKit V Tr Pk
variable {t:aF}
theorem Ts{α:Type}{g:α→List D}(hg:∀a,(g a).length=1){q:List α}{i cap:Nat}(hi:i<q.length)(hc:q.length≤cap):((q.flatMap g).drop (eN cap (i+1) 1 0)).take ((q.length-(i+1))*1)=(q.drop (i+1)).flatMap g:=by
 unfold eN;by_cases h:cap=i+1
 ·have e:q.length=i+1:=(by omega)
  have e2:q.drop (i+1)=[]:=drop_of_length_le w4;rw[if_pos h,show q.length-(i+1)=0 from by omega,e2];simp
 rw[if_neg h,Nat.zero_add,uV hg,take_of_length_le];rw[cu hg,length_drop];exact Nat.le_refl _
theorem Ut{α:Type}{g:α→List D}(hg:∀a,(g a).length=1){q:List α}{i:Nat}(hi:i<q.length):dx (q.flatMap g) (i*1) ((q.drop (i+1)).flatMap g)=(q.eraseIdx i).flatMap g++(q.flatMap g).drop (i*1+((q.drop (i+1)).flatMap g).length):=by
 rw[wc _ _ _ (by rw[cu hg,cu hg,length_drop];omega),tN hg,eraseIdx_eq_take_drop_succ,flatMap_append]
variable {G:List (Nat×List Value)}
theorem YM:(Tryz.prog.info? 88).map (fun i=>i.size)=some 1:=by kernel_rfl
theorem Ia(q:List K)(i cap b:Nat)(hi:i<q.length)(hc:q.length≤cap)(hm:cap≤maxLen)(hs:q.length≤1000):VC Tryz.prog G 130 [aP (some ⟨b,0,none⟩) q.length cap,ae (i:Nat),ae ((i+1:Nat):Int)] [⟨b,88,cap*1,q.flatMap cK⟩] (fun r S=>r=aP (some ⟨b,0,none⟩) (q.length-1) cap∧S=[⟨b,88,cap*1,(q.eraseIdx i).flatMap cK⟩]):=by
 refine VC.body func130 rfl ntmps130 aQ fun X0 w0 bg=>?_;refine af [0,1,2] ?_;refine cZ [0,1,2] ?_;refine aS 5 ?_ (h:=by exact(Ou rfl ot ot ot ot runUnderlying151 sizeOf88 w4 w4 hc));refine jZ ?_;refine af [0,1,2,16] ?_;refine au ?_ ?_<;>intro aO bE
 ·exact absurd aO uw
 refine af [0,1,2,7] ?_;refine CD.seq ?_;refine fE 7 (aq (eraseIdx _ 0)) ?_ (fun _ h=>(Sublist.map _ (eraseIdx_sublist _ 0)).subset h);refine ay 0 rfl aZ ?_;refine ay 1 rfl aZ ?_;refine ay 2 rfl (eA (l:=0) (h:=i) rfl ot trivial ⟨_,ot⟩ Mi) ?_;refine ay 3 rfl aZ ?_;refine ay 4 rfl aZ ?_;refine ay 5 rfl (eA (l:=i+1) rfl ot ⟨_,ot⟩ trivial uu) ?_;refine dm.later rfl ?_;refine AD.one (i:=6) aA ?_;refine bj.Qz (n:=i) (m:=q.length-(i+1)) (k:=0) (new:=(q.drop (i+1)).flatMap cK) (cs':=(q.eraseIdx i).flatMap cK++(q.flatMap cK).drop (i*1+((q.drop (i+1)).flatMap cK).length)) rfl ap rfl rfl underlying151 YM ot rfl rfl ot (Ts gl hi hc) (by rw[cu gl,length_drop]) (tW pM _) w4 (by show _≤(q.flatMap cK).length;rw[cu gl];omega) (Ut gl hi) iE ?_;rw[show i+(q.length-(i+1))=q.length-1 from by omega];refine eE ?_;refine bf [0,7] ?_;refine aD 4 ?_;refine bN (eA (l:=q.length-1) (h:=q.length) rfl ot ⟨_,ot⟩ ⟨_,ot⟩ (by first|exact oR (fun h=>by cases h) runUnderlying151 sizeOf88 w4|exact yT (fun h=>by cases h) (fun h=>by cases h) runUnderlying151 sizeOf88 w4 w4|exact n9 (fun h=>by cases h) (fun h=>by cases h) runUnderlying151 sizeOf88 w4 w4)) ?_;refine OD.shrink (k:=0) (cs':=(q.eraseIdx i).flatMap cK) rfl (prefix_append _ _) ?_;refine OD.clear (k:=0) (sz:=1) ap rfl rfl underlying151 zeroValue88 rfl aA ot rfl rfl (fun h0=>?_) ?_
 ·have h3:eN cap (q.length-1) 1 0=(q.length-1)*1:=(by unfold eN;rw[if_neg w4];omega)
  rw[h3];refine⟨?_,?_⟩
  ·show((q.eraseIdx i).flatMap cK).length≤_;rw[cu gl,length_eraseIdx_of_lt hi];exact Nat.le_refl _
  show _≤cap*1;omega
 refine an 33 [0] ?_;refine af [6] ?_;refine aJ [_] ?_;exact⟨rfl,rfl⟩
theorem YN:(Tryz.prog.info? 3).map (fun i=>i.size)=some 1:=by kernel_rfl
theorem OK(q:List Int)(i cap b:Nat)(hi:i<q.length)(hc:q.length≤cap)(hm:cap≤maxLen)(hs:q.length≤1000):VC Tryz.prog G 131 [aP (some ⟨b,0,none⟩) q.length cap,ae (i:Nat),ae ((i+1:Nat):Int)] [⟨b,3,cap*1,q.flatMap cI⟩] (fun r S=>r=aP (some ⟨b,0,none⟩) (q.length-1) cap∧S=[⟨b,3,cap*1,(q.eraseIdx i).flatMap cI⟩]):=by
 refine VC.body func131 rfl ntmps131 aQ fun X0 w0 bg=>?_;refine af [0,1,2] ?_;refine cZ [0,1,2] ?_;refine aS 5 ?_ (h:=by exact(Ou rfl ot ot ot ot runUnderlying67 sizeOf3 w4 w4 hc));refine jZ ?_;refine af [0,1,2,16] ?_;refine au ?_ ?_<;>intro aO bE
 ·exact absurd aO uw
 refine af [0,1,2,7] ?_;refine CD.seq ?_;refine fE 7 (aq (eraseIdx _ 0)) ?_ (fun _ h=>(Sublist.map _ (eraseIdx_sublist _ 0)).subset h);refine ay 0 rfl aZ ?_;refine ay 1 rfl aZ ?_;refine ay 2 rfl (eA (l:=0) (h:=i) rfl ot trivial ⟨_,ot⟩ Mj) ?_;refine ay 3 rfl aZ ?_;refine ay 4 rfl aZ ?_;refine ay 5 rfl (eA (l:=i+1) rfl ot ⟨_,ot⟩ trivial uv) ?_;refine dm.later rfl ?_;refine AD.one (i:=6) aA ?_;refine bj.Qz (n:=i) (m:=q.length-(i+1)) (k:=0) (new:=(q.drop (i+1)).flatMap cI) (cs':=(q.eraseIdx i).flatMap cI++(q.flatMap cI).drop (i*1+((q.drop (i+1)).flatMap cI).length)) rfl ap rfl rfl underlying67 YN ot rfl rfl ot (Ts eo hi hc) (by rw[cu eo,length_drop]) (tW nG _) w4 (by show _≤(q.flatMap cI).length;rw[cu eo];omega) (Ut eo hi) iE ?_;rw[show i+(q.length-(i+1))=q.length-1 from by omega];refine eE ?_;refine bf [0,7] ?_;refine aD 4 ?_;refine bN (eA (l:=q.length-1) (h:=q.length) rfl ot ⟨_,ot⟩ ⟨_,ot⟩ (by first|exact oR (fun h=>by cases h) runUnderlying67 sizeOf3 w4|exact yT (fun h=>by cases h) (fun h=>by cases h) runUnderlying67 sizeOf3 w4 w4|exact n9 (fun h=>by cases h) (fun h=>by cases h) runUnderlying67 sizeOf3 w4 w4)) ?_;refine OD.shrink (k:=0) (cs':=(q.eraseIdx i).flatMap cI) rfl (prefix_append _ _) ?_;refine OD.clear (k:=0) (sz:=1) ap rfl rfl underlying67 zeroValue3 rfl aA ot rfl rfl (fun h0=>?_) ?_
 ·have h3:eN cap (q.length-1) 1 0=(q.length-1)*1:=(by unfold eN;rw[if_neg w4];omega)
  rw[h3];refine⟨?_,?_⟩
  ·show((q.eraseIdx i).flatMap cI).length≤_;rw[cu eo,length_eraseIdx_of_lt hi];exact Nat.le_refl _
  show _≤cap*1;omega
 refine an 33 [0] ?_;refine af [6] ?_;refine aJ [_] ?_;exact⟨rfl,rfl⟩

theorem v7{α:Type}{g:α→List D}{sz:Nat}(hg:∀a,(g a).length=sz){a':α}{c:Nat}{d:D}(hc:c<sz):∀{L:List α} {j:Nat} (hj:j<L.length),g a'=(g L[j]).set c d→(L.flatMap g).set (j*sz+c) d=(L.set j a').flatMap g
 | a::L,0,_,h=>by
  simp only[getElem_cons_zero] at h;rw[flatMap_cons,set_cons_zero,flatMap_cons,h,set_append_left _ _ (by rw[hg];omega),Nat.zero_mul,Nat.zero_add]
 | a::L,j+1,hj,h=>by
  have E:=v7 hg hc (L:=L) (j:=j) (by simpa using hj) ph;have e:(j+1)*sz+c=sz+(j*sz+c):=(by rw[Nat.succ_mul];omega)
  rw[flatMap_cons,set_cons_succ,flatMap_cons,←E,set_append_right _ _ (by rw[hg];omega),hg,e,show sz+(j*sz+c)-sz=j*sz+c from by omega]
theorem Uu{L:List aB}(hL:L.map aB.p=t.ag){i:Int}(hi:0≤i∧i<t.ag.length)(hj:i.toNat<L.length):L[i.toNat].p=t.pg i:=by
 rw[vh hi];have h:(L.map aB.p)[i.toNat]?=some L[i.toNat].p:=(by rw[getElem?_map,getElem?_eq_getElem hj];rfl)
 rw[hL,getElem?_eq_getElem w4] at h;exact(Option.some.inj h).symm
def vT:aF:=⟨[],0⟩
def Cs(te:aF×Int)(r:D)(S:List ah):Prop:=∃r',r = .dJ [r',ae te.2]∧Gz te.1 r' S
theorem y7(e:Int):Cs (vT,e) (.dJ [.agg [bA,ae 0],ae e]) []:=⟨_,rfl,[],none,0,[],rfl,ik,(fun o h=>by cases h),rfl,rfl⟩
theorem Gz.view{r:D}{S:List ah}(h:Gz t r S):View S r (.agg (cT t)):=by
 obtain⟨L,ad,cap,Sx,rfl,ho,aR,hL,rfl⟩:=h;have:=Km (root:=t.root) ho aR (fun B E=>E);rw[hL] at this;exact this
theorem Cs.view{te:aF×Int}{r:D}{S:List ah}(h:Cs te r S):View S r (.dJ [.agg (cT te.1),ae te.2]):=by
 obtain⟨r',rfl,h⟩:=h;exact EL ⟨h.view,eU,trivial⟩
noncomputable def rq(t:aF)(k:K)(h:Nat):aF×Int:=if lD t k=0 then (if iA t k h=true then (gL t h k,0) else (vT,8)) else (vT,lD t k)
theorem P1{k:K}(h:lD t k=0):gG t=0∧oB k=true:=by
 have hc:gG t=0:=Classical.byContradiction fun e=>by rw[EI e] at h;exact e h
 refine⟨hc,?_⟩;cases hq:oB k with
 | true=>rfl
 | false=>rw[Em hc hq] at h;cases h
theorem abm(t:aF)(h:Nat)(k:K)(hb:∀p∈t.ag,p.keys.length≤maxLen∧p.kids.length≤maxLen)(hv:gG t=0→Valid t h):VC Tryz.prog G 90 [.agg [av 5 cP t.ag,ae t.root],av 1 cB k] [] (Cs (rq t k h)):=by
 refine VC.body func90 rfl ntmps90 aQ fun X0 w0 bg=>?_;have e9:=H9 (G:=G) t k hb;unfold cT at e9;have hcT:cT t=[av 5 cP t.ag,ae t.root]:=rfl;have dz:=ei;refine bY ?_;refine OD.box (ds:=[_,_]) ap rfl rfl ot rfl rfl (fun b2=>?_);refine OD.alloc (ds:=[_,_]) ap rfl rfl zeroValue51 rfl (fun b4=>?_);refine an 58 [1,2,4] ?_;refine cX [1,2,4,6] (e9) ?_;refine af [1,2,4,6,16] ?_;refine au ?_ ?_<;>intro aO bE
 ·have hn:¬lD t k=0:=(by simpa using aO)
  refine aD 2 ?_;refine aN 0 [_,_] sizeOf51 ?_;refine an 58 [4,5] ?_;refine aJ [] ?_;unfold rq;rw[if_neg hn];exact y7 _
 have hz:lD t k=0:=(by simpa using aO)
 obtain⟨hc,N3⟩:=P1 hz;have v:=hv hc;have Ct:=Jd N3;have fP:=qt (G:=G) t h v k w4 (Ej v k);obtain⟨q1,E⟩:=v.leaf k;refine aD 1 ?_;refine OD.call ap rfl rfl rfl call121 (FE t h v) ⟨ot,trivial⟩ (eR _) ?_;rintro _ _ ⟨L,ad,cap,Sx,rfl,dY,aR,hL,rfl⟩;refine OD.perm (ee (A:=[_,_])) ?_;refine OD.alloc (ds:=[_,_]) ap rfl rfl zeroValue51 rfl (fun b7=>?_);refine aN 0 [_,_] sizeOf51 ?_;refine an 58 [1,4,7] ?_;refine cZ [4,7,8,9,10] ?_;refine nA 2 ?_;refine zK (fP) (ha:=by exact⟨⟨_,ot,by have:=Km (root:=t.root) dY aR (fun B hB=>mem_cons_of_mem ⟨b7,51,2,[aP ad L.length cap,ae t.root]⟩ (mem_cons_of_mem ⟨b4,51,2,[bA,ae 0]⟩ (mem_cons_of_mem ⟨b2,51,2,[av 5 cP t.ag,ae t.root]⟩ hB)));rw[hL] at this;exact this⟩,⟨_,ot,eU⟩,trivial⟩) (K:=?_);refine bK ?_;refine af [4,7,8,9,29] ?_;refine au ?_ ?_<;>intro aY cJ
 ·have iU:iA t k h=false:=(by simpa using aY)
  refine aD 1 ?_;refine aN 1 [_,_] sizeOf51 ?_;refine an 58 [4,5] ?_;refine aJ [] ?_;unfold rq;rw[if_pos hz,if_neg xR];exact y7 _
 have iU:iA t k h=true:=(by simpa using aY)
 obtain⟨ha,Dh⟩:=(Ei v k).1 iU;have po:=v.fD _ (jE q1);have hle:=po.leaf E;have Yk:=po.eJ;have rV:L.length=t.ag.length:=(by rw[←hL,length_map])
 have hj:(aI t k h t.root).toNat<L.length:=(by omega)
 have O:=Uu hL q1 hj;obtain⟨bx,rfl,fY,rL,rfl⟩:=dY.pos w4;have U:=aR _ (getElem_mem hj);obtain⟨o,ho⟩:∃o,o=L[(aI t k h t.root).toNat]:=⟨_,rfl⟩
 rw[←ho] at U O;rcases o with ⟨p,ak,ck,sk,ai,ci,si⟩
 have gX:p=t.pg (aI t k h t.root):=O;obtain⟨dP,Z⟩:oU p.keys ak ck sk∧lU p.kids ai ci si:=U;rw[←gX] at ha hle Yk;obtain⟨bk,rfl,dX,xV,rfl⟩:=dP.pos w4;obtain⟨bi,rfl,fx,GW,rfl⟩:=Z.pos w4;have I:(L.flatMap bO).Perm (⟨bk,88,ck*1,flatMap cK p.keys⟩::⟨bi,3,ci*1,flatMap cI p.kids⟩::((L.eraseIdx (aI t k h t.root).toNat).flatMap bO)):=(by have:=y6 bO hj;rw[←ho] at this;exact this)
 refine CD.perm (Perm.cons _ (Perm.cons _ (Perm.cons _ (Perm.cons _ I)))) ?_;rw[gX] at ha;have ha:(aL (t.pg (aI t k h t.root)) k)<p.keys.length:=(by rw[gX];exact ha)
 have pZ:(aL (t.pg (aI t k h t.root)) k)<p.kids.length:=(by omega)
 have hid:=dX;clear dP Z;refine cZ [4,7,9,11] ?_;refine aS 3 ?_ (h:=by exact(dc 5 (h:=by first|exact .l (j:=(aI t k h t.root).toNat) (Int.toNat_of_nonneg q1.1).symm hj|exact .r (j:=(aI t k h t.root).toNat) (Int.toNat_of_nonneg q1.1).symm hj)));refine bK ?_;refine CD.seq ?_;refine fE 21 (aq (take 3 _)) ?_ (fun _ h=>(Sublist.map _ (take_sublist _ _)).subset h);refine ay 0 rfl aZ ?_;refine ay 1 rfl aZ ?_;refine ay 2 rfl aZ ?_;refine ay 3 rfl lW ?_;refine ay 4 rfl (dh 1) ?_;refine ay 6 rfl aZ ?_;refine ay 7 rfl aZ ?_;refine ay 8 rfl (dw (r:=.int .i64 (((aL (t.pg (aI t k h t.root)) k)+1:Nat):Int)) rfl ot bP (kx (by rw[show(((aL (t.pg (aI t k h t.root)) k):Nat):Int)+1=(((aL (t.pg (aI t k h t.root)) k)+1:Nat):Int) from rfl];exact wrap_i64 w4 w4))) ?_;refine ay 10 rfl aZ ?_;refine ay 11 rfl lW ?_;refine ay 12 rfl (dh 2) ?_;refine ay 14 rfl aZ ?_;refine ay 15 rfl aZ ?_;refine ay 16 rfl (dw (r:=.int .i64 (((aL (t.pg (aI t k h t.root)) k)+1:Nat):Int)) rfl ot bP (kx (by rw[show(((aL (t.pg (aI t k h t.root)) k):Nat):Int)+1=(((aL (t.pg (aI t k h t.root)) k)+1:Nat):Int) from rfl];exact wrap_i64 w4 w4))) ?_;refine dm.later rfl ?_;refine AD.two (i:=5) (j:=13) aA ?_ ?_
 ·first|refine at_ rfl (cU (mk:=Op.load 151) rfl ot (lu (k:=3) (j:=1) (d:=aP (some ⟨bk,0,none⟩) p.keys.length ck) (ls:=L) gk rfl rfl rfl isAgg151 hj rI)) ?_|refine at_ rfl (cU (mk:=Op.load 151) rfl ot (lu (k:=4) (j:=1) (d:=aP (some ⟨bk,0,none⟩) p.keys.length ck) (ls:=L) gk rfl rfl rfl isAgg151 hj rI)) ?_
  refine AD.two (i:=9) (j:=13) aA ?_ ?_
  ·refine bj.call rfl ap rfl rfl rfl call130 (Ia p.keys (aL (t.pg (aI t k h t.root)) k) ck bk ha dX xV w4) ⟨ot,ot,ot,trivial⟩ (kr (k:=4) rfl) iE ?_;rintro _ _ ⟨rfl,rfl⟩;refine AD.perm (perm_middle (l₁:=[_,_,_,_])).symm ?_;refine AD.one (i:=13) aA ?_;first|refine at_ rfl (cU (mk:=Op.load 67) rfl ot (lu (k:=3) (j:=2) (d:=aP (some ⟨bi,0,none⟩) p.kids.length ci) (ls:=L) gk rfl rfl rfl isAgg67 hj rI)) ?_|refine at_ rfl (cU (mk:=Op.load 67) rfl ot (lu (k:=4) (j:=2) (d:=aP (some ⟨bi,0,none⟩) p.kids.length ci) (ls:=L) gk rfl rfl rfl isAgg67 hj rI)) ?_
   exact z8
  first|refine at_ rfl (cU (mk:=Op.load 67) rfl ot (lu (k:=3) (j:=2) (d:=aP (some ⟨bi,0,none⟩) p.kids.length ci) (ls:=L) gk rfl rfl rfl isAgg67 hj rI)) ?_|refine at_ rfl (cU (mk:=Op.load 67) rfl ot (lu (k:=4) (j:=2) (d:=aP (some ⟨bi,0,none⟩) p.kids.length ci) (ls:=L) gk rfl rfl rfl isAgg67 hj rI)) ?_
  refine AD.one (i:=9) aA ?_;refine bj.call rfl ap rfl rfl rfl call130 (Ia p.keys (aL (t.pg (aI t k h t.root)) k) ck bk ha dX xV w4) ⟨ot,ot,ot,trivial⟩ (kr (k:=4) rfl) iE ?_;rintro _ _ ⟨rfl,rfl⟩;refine AD.perm (perm_middle (l₁:=[_,_,_,_])).symm ?_;exact z8
 first|refine at_ rfl (cU (mk:=Op.load 67) rfl ot (lu (k:=3) (j:=2) (d:=aP (some ⟨bi,0,none⟩) p.kids.length ci) (ls:=L) gk rfl rfl rfl isAgg67 hj rI)) ?_|refine at_ rfl (cU (mk:=Op.load 67) rfl ot (lu (k:=4) (j:=2) (d:=aP (some ⟨bi,0,none⟩) p.kids.length ci) (ls:=L) gk rfl rfl rfl isAgg67 hj rI)) ?_
 refine AD.one (i:=5) aA ?_;first|refine at_ rfl (cU (mk:=Op.load 151) rfl ot (lu (k:=3) (j:=1) (d:=aP (some ⟨bk,0,none⟩) p.keys.length ck) (ls:=L) gk rfl rfl rfl isAgg151 hj rI)) ?_|refine at_ rfl (cU (mk:=Op.load 151) rfl ot (lu (k:=4) (j:=1) (d:=aP (some ⟨bk,0,none⟩) p.keys.length ck) (ls:=L) gk rfl rfl rfl isAgg151 hj rI)) ?_
 refine AD.one (i:=9) aA ?_;refine bj.call rfl ap rfl rfl rfl call130 (Ia p.keys (aL (t.pg (aI t k h t.root)) k) ck bk ha dX xV w4) ⟨ot,ot,ot,trivial⟩ (kr (k:=4) rfl) iE ?_;rintro _ _ ⟨rfl,rfl⟩;refine AD.perm (perm_middle (l₁:=[_,_,_,_])).symm ?_;refine AD.one (i:=17) aA ?_;refine bj.call rfl ap rfl rfl rfl call131 (OK p.kids (aL (t.pg (aI t k h t.root)) k) ci bi pZ fx GW w4) ⟨ot,ot,ot,trivial⟩ (kr (k:=5) rfl) iE ?_;rintro _ _ ⟨rfl,rfl⟩;refine AD.perm (perm_middle (l₁:=[_,_,_,_,_])).symm ?_;refine cr 18 rfl lW ?_;refine cr 19 rfl (dh 1) ?_;refine AD.one (i:=20) aA ?_
 refine bj.storeAt (k:=3) (cs':=flatMap gO (L.set (aI t k h t.root).toNat (⟨{p with keys:=(p.keys.eraseIdx (aL (t.pg (aI t k h t.root)) k))},some ⟨bk,0,none⟩,ck,[⟨bk,88,ck*1,flatMap cK (p.keys.eraseIdx (aL (t.pg (aI t k h t.root)) k))⟩],some ⟨bi,0,none⟩,ci,[⟨bi,3,ci*1,flatMap cI p.kids⟩]⟩:aB))) rfl ap rfl rfl ot rfl rfl ot rfl rfl sizeOf151 rfl (by show 0+(aI t k h t.root).toNat*5+1+1≤(flatMap gO L).length;rw[cu gk];omega) (by show(L.flatMap gO).set (0+(aI t k h t.root).toNat*5+1) _=_;rw[Nat.zero_add];exact v7 gk w7 hj (by rw[←ho];show gO (⟨{p with keys:=(p.keys.eraseIdx (aL (t.pg (aI t k h t.root)) k))},some ⟨bk,0,none⟩,ck,[⟨bk,88,ck*1,flatMap cK (p.keys.eraseIdx (aL (t.pg (aI t k h t.root)) k))⟩],some ⟨bi,0,none⟩,ci,[⟨bi,3,ci*1,flatMap cI p.kids⟩]⟩:aB)=(gO (⟨p,some ⟨bk,0,none⟩,ck,[⟨bk,88,ck*1,flatMap cK p.keys⟩],some ⟨bi,0,none⟩,ci,[⟨bi,3,ci*1,flatMap cI p.kids⟩]⟩:aB)).set 1 _;unfold gO;rw[length_eraseIdx_of_lt ha];rfl)) iE ?_;refine eE ?_;refine aE 2 ?_
 refine OD.storeAt (k:=3) (cs':=flatMap gO (L.set (aI t k h t.root).toNat (⟨(kI p (aL (t.pg (aI t k h t.root)) k)),some ⟨bk,0,none⟩,ck,[⟨bk,88,ck*1,flatMap cK (p.keys.eraseIdx (aL (t.pg (aI t k h t.root)) k))⟩],some ⟨bi,0,none⟩,ci,[⟨bi,3,ci*1,flatMap cI (p.kids.eraseIdx (aL (t.pg (aI t k h t.root)) k))⟩]⟩:aB))) ap rfl rfl ot rfl rfl ot rfl rfl sizeOf67 rfl (by show 0+(aI t k h t.root).toNat*5+2+1≤(flatMap gO (L.set (aI t k h t.root).toNat (⟨{p with keys:=(p.keys.eraseIdx (aL (t.pg (aI t k h t.root)) k))},some ⟨bk,0,none⟩,ck,[⟨bk,88,ck*1,flatMap cK (p.keys.eraseIdx (aL (t.pg (aI t k h t.root)) k))⟩],some ⟨bi,0,none⟩,ci,[⟨bi,3,ci*1,flatMap cI p.kids⟩]⟩:aB))).length;rw[cu gk,length_set];omega) (by show(flatMap gO (L.set (aI t k h t.root).toNat (⟨{p with keys:=(p.keys.eraseIdx (aL (t.pg (aI t k h t.root)) k))},some ⟨bk,0,none⟩,ck,[⟨bk,88,ck*1,flatMap cK (p.keys.eraseIdx (aL (t.pg (aI t k h t.root)) k))⟩],some ⟨bi,0,none⟩,ci,[⟨bi,3,ci*1,flatMap cI p.kids⟩]⟩:aB))).set (0+(aI t k h t.root).toNat*5+2) _=_;rw[Nat.zero_add,v7 gk (a':=(⟨(kI p (aL (t.pg (aI t k h t.root)) k)),some ⟨bk,0,none⟩,ck,[⟨bk,88,ck*1,flatMap cK (p.keys.eraseIdx (aL (t.pg (aI t k h t.root)) k))⟩],some ⟨bi,0,none⟩,ci,[⟨bi,3,ci*1,flatMap cI (p.kids.eraseIdx (aL (t.pg (aI t k h t.root)) k))⟩]⟩:aB)) w7 xN (by rw[getElem_set_self];show gO (⟨(kI p (aL (t.pg (aI t k h t.root)) k)),some ⟨bk,0,none⟩,ck,[⟨bk,88,ck*1,flatMap cK (p.keys.eraseIdx (aL (t.pg (aI t k h t.root)) k))⟩],some ⟨bi,0,none⟩,ci,[⟨bi,3,ci*1,flatMap cI (p.kids.eraseIdx (aL (t.pg (aI t k h t.root)) k))⟩]⟩:aB)=(gO (⟨{p with keys:=(p.keys.eraseIdx (aL (t.pg (aI t k h t.root)) k))},some ⟨bk,0,none⟩,ck,[⟨bk,88,ck*1,flatMap cK (p.keys.eraseIdx (aL (t.pg (aI t k h t.root)) k))⟩],some ⟨bi,0,none⟩,ci,[⟨bi,3,ci*1,flatMap cI p.kids⟩]⟩:aB)).set 2 _;unfold gO kI;simp only[];rw[length_eraseIdx_of_lt pZ];rfl),set_set]) ?_
 have vK:(⟨bk,88,ck*1,flatMap cK (p.keys.eraseIdx (aL (t.pg (aI t k h t.root)) k))⟩::⟨bi,3,ci*1,flatMap cI (p.kids.eraseIdx (aL (t.pg (aI t k h t.root)) k))⟩::((L.eraseIdx (aI t k h t.root).toNat).flatMap bO)).Perm ((L.set (aI t k h t.root).toNat (⟨(kI p (aL (t.pg (aI t k h t.root)) k)),some ⟨bk,0,none⟩,ck,[⟨bk,88,ck*1,flatMap cK (p.keys.eraseIdx (aL (t.pg (aI t k h t.root)) k))⟩],some ⟨bi,0,none⟩,ci,[⟨bi,3,ci*1,flatMap cI (p.kids.eraseIdx (aL (t.pg (aI t k h t.root)) k))⟩]⟩:aB)).flatMap bO):=(qW bO hj (⟨(kI p (aL (t.pg (aI t k h t.root)) k)),some ⟨bk,0,none⟩,ck,[⟨bk,88,ck*1,flatMap cK (p.keys.eraseIdx (aL (t.pg (aI t k h t.root)) k))⟩],some ⟨bi,0,none⟩,ci,[⟨bi,3,ci*1,flatMap cI (p.kids.eraseIdx (aL (t.pg (aI t k h t.root)) k))⟩]⟩:aB)).symm;refine OD.perm (Perm.cons _ (Perm.cons _ (Perm.cons _ (Perm.cons _ vK)))) ?_;refine an 58 [4,7] ?_;refine aD 1 ?_;refine aN 1 [_,_] sizeOf51 ?_;refine an 58 [4,5] ?_
 refine aJ ([⟨bx,153,cap*5,flatMap gO (L.set (aI t k h t.root).toNat (⟨(kI p (aL (t.pg (aI t k h t.root)) k)),some ⟨bk,0,none⟩,ck,[⟨bk,88,ck*1,flatMap cK (p.keys.eraseIdx (aL (t.pg (aI t k h t.root)) k))⟩],some ⟨bi,0,none⟩,ci,[⟨bi,3,ci*1,flatMap cI (p.kids.eraseIdx (aL (t.pg (aI t k h t.root)) k))⟩]⟩:aB))⟩]++(L.set (aI t k h t.root).toNat (⟨(kI p (aL (t.pg (aI t k h t.root)) k)),some ⟨bk,0,none⟩,ck,[⟨bk,88,ck*1,flatMap cK (p.keys.eraseIdx (aL (t.pg (aI t k h t.root)) k))⟩],some ⟨bi,0,none⟩,ci,[⟨bi,3,ci*1,flatMap cI (p.kids.eraseIdx (aL (t.pg (aI t k h t.root)) k))⟩]⟩:aB)).flatMap bO) ?_;unfold rq;rw[if_pos hz,if_pos iU];refine⟨_,rfl,L.set (aI t k h t.root).toNat (⟨(kI p (aL (t.pg (aI t k h t.root)) k)),some ⟨bk,0,none⟩,ck,[⟨bk,88,ck*1,flatMap cK (p.keys.eraseIdx (aL (t.pg (aI t k h t.root)) k))⟩],some ⟨bi,0,none⟩,ci,[⟨bi,3,ci*1,flatMap cI (p.kids.eraseIdx (aL (t.pg (aI t k h t.root)) k))⟩]⟩:aB),some ⟨bx,0,none⟩,cap,_,by rw[length_set];rfl,bH rH rL,fun x hx=>?_,?_,rfl⟩
 ·rcases mem_or_eq_of_mem_set hx with hx|rfl
  ·exact aR x hx
  exact⟨bH (by show(p.keys.eraseIdx (aL (t.pg (aI t k h t.root)) k)).length≤ck;rw[length_eraseIdx_of_lt ha];omega) xV,bH (by show(p.kids.eraseIdx (aL (t.pg (aI t k h t.root)) k)).length≤ci;rw[length_eraseIdx_of_lt pZ];omega) GW⟩
 rw[map_set,hL];show _=t.ag.set (aI t k h t.root).toNat (kI (t.pg (aI t k h t.root)) (aL (t.pg (aI t k h t.root)) k));rw[←gX]
theorem abn(t:aF)(h:Nat)(k:K)(hb:∀p∈t.ag,p.keys.length≤maxLen∧p.kids.length≤maxLen)(E:gG t=0→Valid t h):VP Tryz.prog G 90 [.agg (cT t),av 1 cB k] (.dJ [.agg (cT (rq t k h).1),ae (rq t k h).2]):=(abm t h k hb E).cover fun r S hr=>hr.view

def Wb(L:List aB)(b:Nat)(root:Int)(j:Nat)(p:de)(r:D)(S:List ah):Prop:=r = .dJ [.list 1 ((jn p).flatMap cB) (jn p).length,ae (L.length:Nat)]∧∃L' ad cap Sx,um L' ad cap Sx∧(∀o∈L',qT o)∧L'.map aB.p=(L.map aB.p).set j (bu p L.length)++[bz p]∧S=⟨b,51,2,[aP ad (length L') cap,ae root]⟩::(Sx++L'.flatMap bO)
theorem yF:(Tryz.prog.info? 153).map (fun i=>(i.zero,i.size,i.bytes))=some (some (.agg #[.bool false,.slice none 0 0,.slice none 0 0,.slice none 0 0,.int .i64 0]),5,88):=by kernel_rfl
theorem acZ(L:List aB)(b:Nat)(root i:Int)(ad:Option Addr)(cap:Nat)(Sx:List ah)(hi:0≤i∧i<L.length)(hn:L.length≤10000)(dY:um L ad cap Sx)(aR:∀o∈L,qT o)(h5:(L[i.toNat]'w4).p.keys.length=5)(dX:(L[i.toNat]'w4).p.leaf=true→(L[i.toNat]'w4).p.kids.length=5)(qU:(L[i.toNat]'w4).p.leaf=false→(L[i.toNat]'w4).p.kids.length=6)(HD:∀k∈(L[i.toNat]'w4).p.keys,k.length≤100)(hh:(L[i.toNat]'w4).p.high.length≤100) :
 VC Tryz.prog G 126 [dM b,ae i] (⟨b,51,2,[aP ad L.length cap,ae root]⟩::(Sx++L.flatMap bO)) (Wb L b root i.toNat (L[i.toNat]'w4).p):=by
 refine VC.body func126 rfl ntmps126 aQ fun X0 w0 bg=>?_;have dz:=ei;have hj:i.toNat<L.length:=(by omega)
 obtain⟨bx,rfl,fY,rL,rfl⟩:=dY.pos w4;have ye:=aR _ (getElem_mem hj);obtain⟨o,ho⟩:∃o,o=L[i.toNat]:=⟨_,rfl⟩
 rw[←ho] at ye h5 dX qU HD hh ⊢;rcases o with ⟨p,ak,ck,sk,ai,ci,si⟩
 obtain⟨dP,kj⟩:oU p.keys ak ck sk∧lU p.kids ai ci si:=ye;change p.keys.length=5 at h5;change p.leaf=true→p.kids.length=5 at dX;change p.leaf=false→p.kids.length=6 at qU;change ∀k∈p.keys,k.length≤100 at HD;change p.high.length≤100 at hh;have KT:(L.flatMap bO).Perm (sk++(si++((L.eraseIdx i.toNat).flatMap bO))):=(by have:=y6 bO hj;rw[←ho] at this;exact this.trans (by rw[show bO ⟨p,ak,ck,sk,ai,ci,si⟩=sk++si from rfl,append_assoc]))
 refine CD.perm (Perm.cons _ (Perm.cons _ KT)) ?_;have xL:jn p=p.keys[2]'w4:=zc h5;have Ym:(p.keys[2]'w4).length≤100:=HD _ (getElem_mem _);refine af [0,1] ?_;refine aD 5 ?_;refine bN (dc 5 (h:=by first|exact .l (j:=i.toNat) (Int.toNat_of_nonneg hi.1).symm hj|exact .r (j:=i.toNat) (Int.toNat_of_nonneg hi.1).symm hj)) ?_;refine bN (cU (mk:=Op.load 153) rfl ot (cn (k:=1) (ls:=L) (i:=i.toNat) gk rfl rfl rfl isAgg153 sizeOf153 hj)) ?_;refine OD.alloc (ds:=[_,_,_,_,_]) ap rfl rfl zeroValue153 rfl (fun b6=>?_);refine aN 0 [_,_,_,_,_] sizeOf153 ?_;refine an 98 [0,1,6] ?_;refine CD.seq ?_;refine CD.wk (Wk.cover (A:=⟨b6,153,5,gO L[i.toNat]⟩) (R:=⟨b,51,2,[aP (some ⟨bx,0,none⟩) L.length cap,ae root]⟩::⟨bx,153,cap*5,flatMap gO L⟩::((L.eraseIdx i.toNat).flatMap bO)) (Sd:=sk++si) (cs':=cP p) (Perm.cons _ (Perm.cons _ (Perm.cons _ (by rw[←append_assoc];exact perm_append_comm)))) (by show gH _ (gO L[i.toNat]) _;rw[←ho];exact⟨eU,lK dP (cu gl _) (fun B hB=>mem_append_left _ hB),lK kj (cu eo _) (fun B hB=>mem_append_right _ hB),eU,eU,trivial⟩)) ?_;refine dO 7 ?_;refine OD.alloc (ds:=[_,_,_,_,_]) ap rfl rfl zeroValue153 rfl (fun b7=>?_);refine aN 0 [_,_,_,_,_] sizeOf153 ?_;refine an 98 [0,1,6,7] ?_;refine cZ [0,1,6,7,8] ?_
 refine aS 2 ?_ (h:=by exact(so (mk:=Op.indexAddr 151) rfl ot bP (by first|exact tO runUnderlying151 sizeOf88 (j:=2) rfl w4|exact tX runUnderlying151 sizeOf88 (j:=2) rfl w4)));refine bK ?_;refine CD.cut (fun aH=>∃(b7:Nat),∃(dA:Option Addr),∃(dB:Nat),∃(cN:List ah),∃(dD:Option Addr),∃(dF:Nat),∃(cQ:List ah),∃(bL:Option Addr),∃(bM:Nat),∃(bB:List ah),(oU (bz p).keys dA dB cN)∧(lU (bz p).kids dD dF cQ)∧(lU (bu p L.length).kids bL bM bB)∧aH=(⟨98,[(0,dM b),(1,ae i),(6,dM b6),(7,dM b7),(8,.list 1 ((jn p).flatMap cB) (jn p).length)],(⟨b7,153,5,[bS p.leaf,aP dA (bz p).keys.length dB,aP dD (bz p).kids.length dF,av 1 cB p.high,ae p.next]⟩::⟨b6,153,5,[bS p.leaf,av 1 cK p.keys,aP bL (bu p L.length).kids.length bM,av 1 cB p.high,ae p.next]⟩::⟨b,51,2,[aP (some ⟨bx,0,none⟩) L.length cap,ae root]⟩::⟨bx,153,cap*5,flatMap gO L⟩::(bB++(cQ++(cN++((L.eraseIdx i.toNat).flatMap bO)))))⟩:St)) ?_ ?_
 ·refine af [0,1,6,7,8,28] ?_;refine au ?_ ?_<;>intro aO bE
  ·have fM:p.leaf=true:=aO;have dX:=dX fM;refine CD.seq ?_;refine fE 10 (aq (take 2 (drop 1 _))) ?_ (fun _ h=>(Sublist.map _ ((take_sublist _ _).trans (drop_sublist _ _))).subset h);refine ay 0 rfl (dh 1) ?_;refine ay 4 rfl (dh 2) ?_;refine dm.later rfl ?_;refine AD.two (i:=1) (j:=5) aA ?_ ?_
   ·refine at_ rfl (dI 1) ?_;refine cr 2 rfl (eA (l:=2) rfl ot ⟨_,bP⟩ trivial GQ) ?_;refine AD.two (i:=3) (j:=5) aA ?_ ?_
    ·have BW:VC Tryz.prog G 150 [.list 1 ((p.keys.drop 2).flatMap cK) (p.keys.drop 2).length] [] (fun r S=>∃ad cap,r=aP ad (bz p).keys.length cap∧oU (bz p).keys ad cap S):=(by rw[show(p.keys.drop 2)=(bz p).keys from vD];exact wi _ Mr)
     refine bj.call rfl ap rfl rfl rfl call150 BW ⟨ot,trivial⟩ (eR _) iE ?_;rintro _ DD ⟨DE,DF,rfl,Cu⟩;refine AD.perm (jo (A:=[_,_,_,_])) ?_;refine cr 8 rfl (dh 1) ?_;refine AD.one (i:=5) aA ?_;refine at_ rfl (dI 1) ?_;refine cr 6 rfl (eA (l:=2) rfl ot ⟨_,bP⟩ trivial Af) ?_;refine AD.one (i:=7) aA ?_;have BX:VC Tryz.prog G 120 [.list 1 ((p.kids.drop 2).flatMap cI) (p.kids.drop 2).length] [] (fun r S=>∃ad cap,r=aP ad (bz p).kids.length cap∧lU (bz p).kids ad cap S):=(by rw[show(p.kids.drop 2)=(bz p).kids from vC];exact nZ _ Mp)
     refine bj.call rfl ap rfl rfl rfl call120 BX ⟨ot,trivial⟩ (eR _) iE ?_;rintro _ DG ⟨DH,DI,rfl,Cv⟩;refine AD.perm (jo (A:=[_,_,_,_])) ?_;refine AD.one (i:=9) aA ?_;refine dS 0 [_,_,_,_,_] sizeOf151 ?_;refine eE ?_;refine aE 1 ?_;refine aN 0 [_,_,_,_,_] sizeOf67 ?_;refine an 98 [0,1,6,7,8] ?_;refine dO 2 ?_;refine bN (eA (l:=0) (h:=2) rfl ot trivial ⟨_,bP⟩ Ag) ?_;have BY:VC Tryz.prog G 120 [.list 1 ((p.kids.take 2).flatMap cI) (p.kids.take 2).length] [] (fun r S=>∃ad cap,r=aP ad (bu p L.length).kids.length cap∧lU (bu p L.length).kids ad cap S):=(by rw[show(p.kids.take 2)=(bu p L.length).kids from vB];exact nZ _ Mn)
     refine OD.call ap rfl rfl rfl call120 BY ⟨ot,trivial⟩ (eR _) ?_;rintro _ DJ ⟨DK,DL,rfl,Cw⟩;refine OD.perm (jo (A:=[_,_,_,_])) ?_;refine aE 1 ?_;refine aN 1 [_,_,_,_,_] sizeOf67 ?_;refine an 98 [0,1,6,7,8] ?_;refine⟨_,(aK (h:=by repeat (first|exact trivial|refine⟨zX,?_⟩))),b7,DE,DF,DD,DH,DI,DG,DK,DL,DJ,Cu,Cv,Cw,rfl⟩
    refine at_ rfl (dI 1) ?_;refine cr 6 rfl (eA (l:=2) rfl ot ⟨_,bP⟩ trivial Af) ?_;refine AD.one (i:=3) aA ?_;have BW:VC Tryz.prog G 150 [.list 1 ((p.keys.drop 2).flatMap cK) (p.keys.drop 2).length] [] (fun r S=>∃ad cap,r=aP ad (bz p).keys.length cap∧oU (bz p).keys ad cap S):=(by rw[show(p.keys.drop 2)=(bz p).keys from vD];exact wi _ Mr)
    refine bj.call rfl ap rfl rfl rfl call150 BW ⟨ot,trivial⟩ (eR _) iE ?_;rintro _ DD ⟨DE,DF,rfl,Cu⟩;refine AD.perm (jo (A:=[_,_,_,_])) ?_;refine cr 8 rfl (dh 1) ?_;refine AD.one (i:=7) aA ?_;have BX:VC Tryz.prog G 120 [.list 1 ((p.kids.drop 2).flatMap cI) (p.kids.drop 2).length] [] (fun r S=>∃ad cap,r=aP ad (bz p).kids.length cap∧lU (bz p).kids ad cap S):=(by rw[show(p.kids.drop 2)=(bz p).kids from vC];exact nZ _ Mp)
    refine bj.call rfl ap rfl rfl rfl call120 BX ⟨ot,trivial⟩ (eR _) iE ?_;rintro _ DG ⟨DH,DI,rfl,Cv⟩;refine AD.perm (jo (A:=[_,_,_,_])) ?_;refine AD.one (i:=9) aA ?_;refine dS 0 [_,_,_,_,_] sizeOf151 ?_;refine eE ?_;refine aE 1 ?_;refine aN 0 [_,_,_,_,_] sizeOf67 ?_;refine an 98 [0,1,6,7,8] ?_;refine dO 2 ?_;refine bN (eA (l:=0) (h:=2) rfl ot trivial ⟨_,bP⟩ Ag) ?_;have BY:VC Tryz.prog G 120 [.list 1 ((p.kids.take 2).flatMap cI) (p.kids.take 2).length] [] (fun r S=>∃ad cap,r=aP ad (bu p L.length).kids.length cap∧lU (bu p L.length).kids ad cap S):=(by rw[show(p.kids.take 2)=(bu p L.length).kids from vB];exact nZ _ Mn)
    refine OD.call ap rfl rfl rfl call120 BY ⟨ot,trivial⟩ (eR _) ?_;rintro _ DJ ⟨DK,DL,rfl,Cw⟩;refine OD.perm (jo (A:=[_,_,_,_])) ?_;refine aE 1 ?_;refine aN 1 [_,_,_,_,_] sizeOf67 ?_;refine an 98 [0,1,6,7,8] ?_;refine⟨_,(aK (h:=by repeat (first|exact trivial|refine⟨zX,?_⟩))),b7,DE,DF,DD,DH,DI,DG,DK,DL,DJ,Cu,Cv,Cw,rfl⟩
   refine at_ rfl (dI 1) ?_;refine cr 6 rfl (eA (l:=2) rfl ot ⟨_,bP⟩ trivial Af) ?_;refine AD.one (i:=1) aA ?_;refine at_ rfl (dI 1) ?_;refine cr 2 rfl (eA (l:=2) rfl ot ⟨_,bP⟩ trivial GQ) ?_;refine AD.one (i:=3) aA ?_;have BW:VC Tryz.prog G 150 [.list 1 ((p.keys.drop 2).flatMap cK) (p.keys.drop 2).length] [] (fun r S=>∃ad cap,r=aP ad (bz p).keys.length cap∧oU (bz p).keys ad cap S):=(by rw[show(p.keys.drop 2)=(bz p).keys from vD];exact wi _ Mr)
   refine bj.call rfl ap rfl rfl rfl call150 BW ⟨ot,trivial⟩ (eR _) iE ?_;rintro _ DD ⟨DE,DF,rfl,Cu⟩;refine AD.perm (jo (A:=[_,_,_,_])) ?_;refine cr 8 rfl (dh 1) ?_;refine AD.one (i:=7) aA ?_;have BX:VC Tryz.prog G 120 [.list 1 ((p.kids.drop 2).flatMap cI) (p.kids.drop 2).length] [] (fun r S=>∃ad cap,r=aP ad (bz p).kids.length cap∧lU (bz p).kids ad cap S):=(by rw[show(p.kids.drop 2)=(bz p).kids from vC];exact nZ _ Mp)
   refine bj.call rfl ap rfl rfl rfl call120 BX ⟨ot,trivial⟩ (eR _) iE ?_;rintro _ DG ⟨DH,DI,rfl,Cv⟩;refine AD.perm (jo (A:=[_,_,_,_])) ?_;refine AD.one (i:=9) aA ?_;refine dS 0 [_,_,_,_,_] sizeOf151 ?_;refine eE ?_;refine aE 1 ?_;refine aN 0 [_,_,_,_,_] sizeOf67 ?_;refine an 98 [0,1,6,7,8] ?_;refine dO 2 ?_;refine bN (eA (l:=0) (h:=2) rfl ot trivial ⟨_,bP⟩ Ag) ?_;have BY:VC Tryz.prog G 120 [.list 1 ((p.kids.take 2).flatMap cI) (p.kids.take 2).length] [] (fun r S=>∃ad cap,r=aP ad (bu p L.length).kids.length cap∧lU (bu p L.length).kids ad cap S):=(by rw[show(p.kids.take 2)=(bu p L.length).kids from vB];exact nZ _ Mn)
   refine OD.call ap rfl rfl rfl call120 BY ⟨ot,trivial⟩ (eR _) ?_;rintro _ DJ ⟨DK,DL,rfl,Cw⟩;refine OD.perm (jo (A:=[_,_,_,_])) ?_;refine aE 1 ?_;refine aN 1 [_,_,_,_,_] sizeOf67 ?_;refine an 98 [0,1,6,7,8] ?_;refine⟨_,(aK (h:=by repeat (first|exact trivial|refine⟨zX,?_⟩))),b7,DE,DF,DD,DH,DI,DG,DK,DL,DJ,Cu,Cv,Cw,rfl⟩
  have fM:p.leaf=false:=aO;have qU:=qU fM;refine CD.seq ?_;refine fE 10 (aq (take 2 (drop 1 _))) ?_ (fun _ h=>(Sublist.map _ ((take_sublist _ _).trans (drop_sublist _ _))).subset h);refine ay 0 rfl (dh 1) ?_;refine ay 4 rfl (dh 2) ?_;refine dm.later rfl ?_;refine AD.two (i:=1) (j:=5) aA ?_ ?_
  ·refine at_ rfl (dI 1) ?_;refine cr 2 rfl (eA (l:=3) rfl ot ⟨_,bP⟩ trivial GQ) ?_;refine AD.two (i:=3) (j:=5) aA ?_ ?_
   ·have BZ:VC Tryz.prog G 150 [.list 1 ((p.keys.drop 3).flatMap cK) (p.keys.drop 3).length] [] (fun r S=>∃ad cap,r=aP ad (bz p).keys.length cap∧oU (bz p).keys ad cap S):=(by rw[show(p.keys.drop 3)=(bz p).keys from vD];exact wi _ Mq)
    refine bj.call rfl ap rfl rfl rfl call150 BZ ⟨ot,trivial⟩ (eR _) iE ?_;rintro _ DM ⟨DN,DO,rfl,Cx⟩;refine AD.perm (jo (A:=[_,_,_,_])) ?_;refine cr 8 rfl (dh 1) ?_;refine AD.one (i:=5) aA ?_;refine at_ rfl (dI 1) ?_;refine cr 6 rfl (eA (l:=3) rfl ot ⟨_,bP⟩ trivial Af) ?_;refine AD.one (i:=7) aA ?_;have B0:VC Tryz.prog G 120 [.list 1 ((p.kids.drop 3).flatMap cI) (p.kids.drop 3).length] [] (fun r S=>∃ad cap,r=aP ad (bz p).kids.length cap∧lU (bz p).kids ad cap S):=(by rw[show(p.kids.drop 3)=(bz p).kids from vC];exact nZ _ Mo)
    refine bj.call rfl ap rfl rfl rfl call120 B0 ⟨ot,trivial⟩ (eR _) iE ?_;rintro _ DP ⟨a51,DQ,rfl,Cy⟩;refine AD.perm (jo (A:=[_,_,_,_])) ?_;refine AD.one (i:=9) aA ?_;refine dS 0 [_,_,_,_,_] sizeOf151 ?_;refine eE ?_;refine aE 1 ?_;refine aN 0 [_,_,_,_,_] sizeOf67 ?_;refine an 98 [0,1,6,7,8] ?_;refine dO 2 ?_;refine bN (eA (l:=0) (h:=3) rfl ot trivial ⟨_,bP⟩ Ag) ?_;have B3:VC Tryz.prog G 120 [.list 1 ((p.kids.take 3).flatMap cI) (p.kids.take 3).length] [] (fun r S=>∃ad cap,r=aP ad (bu p L.length).kids.length cap∧lU (bu p L.length).kids ad cap S):=(by rw[show(p.kids.take 3)=(bu p L.length).kids from vB];exact nZ _ Mm)
    refine OD.call ap rfl rfl rfl call120 B3 ⟨ot,trivial⟩ (eR _) ?_;rintro _ vS ⟨DR,DS,rfl,vt⟩;refine OD.perm (jo (A:=[_,_,_,_])) ?_;refine aE 1 ?_;refine aN 1 [_,_,_,_,_] sizeOf67 ?_;refine an 98 [0,1,6,7,8] ?_;refine⟨_,(aK (h:=by repeat (first|exact trivial|refine⟨zX,?_⟩))),b7,DN,DO,DM,a51,DQ,DP,DR,DS,vS,Cx,Cy,vt,rfl⟩
   refine at_ rfl (dI 1) ?_;refine cr 6 rfl (eA (l:=3) rfl ot ⟨_,bP⟩ trivial Af) ?_;refine AD.one (i:=3) aA ?_;have BZ:VC Tryz.prog G 150 [.list 1 ((p.keys.drop 3).flatMap cK) (p.keys.drop 3).length] [] (fun r S=>∃ad cap,r=aP ad (bz p).keys.length cap∧oU (bz p).keys ad cap S):=(by rw[show(p.keys.drop 3)=(bz p).keys from vD];exact wi _ Mq)
   refine bj.call rfl ap rfl rfl rfl call150 BZ ⟨ot,trivial⟩ (eR _) iE ?_;rintro _ DM ⟨DN,DO,rfl,Cx⟩;refine AD.perm (jo (A:=[_,_,_,_])) ?_;refine cr 8 rfl (dh 1) ?_;refine AD.one (i:=7) aA ?_;have B0:VC Tryz.prog G 120 [.list 1 ((p.kids.drop 3).flatMap cI) (p.kids.drop 3).length] [] (fun r S=>∃ad cap,r=aP ad (bz p).kids.length cap∧lU (bz p).kids ad cap S):=(by rw[show(p.kids.drop 3)=(bz p).kids from vC];exact nZ _ Mo)
   refine bj.call rfl ap rfl rfl rfl call120 B0 ⟨ot,trivial⟩ (eR _) iE ?_;rintro _ DP ⟨a51,DQ,rfl,Cy⟩;refine AD.perm (jo (A:=[_,_,_,_])) ?_;refine AD.one (i:=9) aA ?_;refine dS 0 [_,_,_,_,_] sizeOf151 ?_;refine eE ?_;refine aE 1 ?_;refine aN 0 [_,_,_,_,_] sizeOf67 ?_;refine an 98 [0,1,6,7,8] ?_;refine dO 2 ?_;refine bN (eA (l:=0) (h:=3) rfl ot trivial ⟨_,bP⟩ Ag) ?_;have B3:VC Tryz.prog G 120 [.list 1 ((p.kids.take 3).flatMap cI) (p.kids.take 3).length] [] (fun r S=>∃ad cap,r=aP ad (bu p L.length).kids.length cap∧lU (bu p L.length).kids ad cap S):=(by rw[show(p.kids.take 3)=(bu p L.length).kids from vB];exact nZ _ Mm)
   refine OD.call ap rfl rfl rfl call120 B3 ⟨ot,trivial⟩ (eR _) ?_;rintro _ vS ⟨DR,DS,rfl,vt⟩;refine OD.perm (jo (A:=[_,_,_,_])) ?_;refine aE 1 ?_;refine aN 1 [_,_,_,_,_] sizeOf67 ?_;refine an 98 [0,1,6,7,8] ?_;refine⟨_,(aK (h:=by repeat (first|exact trivial|refine⟨zX,?_⟩))),b7,DN,DO,DM,a51,DQ,DP,DR,DS,vS,Cx,Cy,vt,rfl⟩
  refine at_ rfl (dI 1) ?_;refine cr 6 rfl (eA (l:=3) rfl ot ⟨_,bP⟩ trivial Af) ?_;refine AD.one (i:=1) aA ?_;refine at_ rfl (dI 1) ?_;refine cr 2 rfl (eA (l:=3) rfl ot ⟨_,bP⟩ trivial GQ) ?_;refine AD.one (i:=3) aA ?_;have BZ:VC Tryz.prog G 150 [.list 1 ((p.keys.drop 3).flatMap cK) (p.keys.drop 3).length] [] (fun r S=>∃ad cap,r=aP ad (bz p).keys.length cap∧oU (bz p).keys ad cap S):=(by rw[show(p.keys.drop 3)=(bz p).keys from vD];exact wi _ Mq)
  refine bj.call rfl ap rfl rfl rfl call150 BZ ⟨ot,trivial⟩ (eR _) iE ?_;rintro _ DM ⟨DN,DO,rfl,Cx⟩;refine AD.perm (jo (A:=[_,_,_,_])) ?_;refine cr 8 rfl (dh 1) ?_;refine AD.one (i:=7) aA ?_;have B0:VC Tryz.prog G 120 [.list 1 ((p.kids.drop 3).flatMap cI) (p.kids.drop 3).length] [] (fun r S=>∃ad cap,r=aP ad (bz p).kids.length cap∧lU (bz p).kids ad cap S):=(by rw[show(p.kids.drop 3)=(bz p).kids from vC];exact nZ _ Mo)
  refine bj.call rfl ap rfl rfl rfl call120 B0 ⟨ot,trivial⟩ (eR _) iE ?_;rintro _ DP ⟨a51,DQ,rfl,Cy⟩;refine AD.perm (jo (A:=[_,_,_,_])) ?_;refine AD.one (i:=9) aA ?_;refine dS 0 [_,_,_,_,_] sizeOf151 ?_;refine eE ?_;refine aE 1 ?_;refine aN 0 [_,_,_,_,_] sizeOf67 ?_;refine an 98 [0,1,6,7,8] ?_;refine dO 2 ?_;refine bN (eA (l:=0) (h:=3) rfl ot trivial ⟨_,bP⟩ Ag) ?_;have B3:VC Tryz.prog G 120 [.list 1 ((p.kids.take 3).flatMap cI) (p.kids.take 3).length] [] (fun r S=>∃ad cap,r=aP ad (bu p L.length).kids.length cap∧lU (bu p L.length).kids ad cap S):=(by rw[show(p.kids.take 3)=(bu p L.length).kids from vB];exact nZ _ Mm)
  refine OD.call ap rfl rfl rfl call120 B3 ⟨ot,trivial⟩ (eR _) ?_;rintro _ vS ⟨DR,DS,rfl,vt⟩;refine OD.perm (jo (A:=[_,_,_,_])) ?_;refine aE 1 ?_;refine aN 1 [_,_,_,_,_] sizeOf67 ?_;refine an 98 [0,1,6,7,8] ?_;refine⟨_,(aK (h:=by repeat (first|exact trivial|refine⟨zX,?_⟩))),b7,DN,DO,DM,a51,DQ,DP,DR,DS,vS,Cx,Cy,vt,rfl⟩
 rintro _ ⟨b7,dA,dB,cN,dD,dF,cQ,bL,bM,bB,pX,zT,zU,rfl⟩;refine aD 2 ?_;refine bN (eA (l:=0) (h:=2) rfl ot trivial ⟨_,bP⟩ (by first|exact oP gl (fun h=>by cases h) runUnderlying151 sizeOf88 w4|exact oP eo (fun h=>by cases h) runUnderlying151 sizeOf88 w4|exact oR (fun h=>by cases h) runUnderlying151 sizeOf88 w4|exact n9 (fun _=>rfl) (fun h=>by cases h) runUnderlying151 sizeOf88 w4 w4)) ?_;have ahI:VC Tryz.prog G 150 [.list 1 ((p.keys.take 2).flatMap cK) (p.keys.take 2).length] [] (fun r S=>∃ad cap,r=aP ad (bu p L.length).keys.length cap∧oU (bu p L.length).keys ad cap S):=(by rw[show(p.keys.take 2)=(bu p L.length).keys from rfl];exact wi _ (by rw[←show(p.keys.take 2)=(bu p L.length).keys from rfl];simp only[length_take,length_drop];omega))
 refine OD.call ap rfl rfl rfl call150 ahI ⟨ot,trivial⟩ (eR _) ?_;rintro _ cf ⟨cx,cy,rfl,zV⟩;refine OD.perm (jo (A:=[_,_,_,_])) ?_;refine aE 1 ?_;refine aN 1 [_,_,_,_,_] sizeOf151 ?_;refine an 98 [0,1,6,7,8] ?_;refine CD.seq ?_;refine fE 9 (aq (take 1 (drop 0 _))) ?_ (fun _ h=>(Sublist.map _ ((take_sublist _ _).trans (drop_sublist _ _))).subset h);refine ay 0 rfl aZ ?_;refine ay 2 rfl aZ ?_;refine ay 3 rfl lW ?_;refine ay 4 rfl (dh 0) ?_;refine dm.later rfl ?_;refine AD.two (i:=1) (j:=5) aA ?_ ?_
 ·refine jm call95 (j7 (jn p) vJ) ?_;refine cr 7 rfl (dh 3) ?_;refine AD.two (i:=5) (j:=8) aA ?_ ?_
  ·refine at_ rfl (dI 2) ?_;refine cr 6 rfl qQ ?_;refine AD.one (i:=8) aA ?_;refine dS 1 [_,_,_,_,_] sizeOf88 ?_;refine eE ?_;refine aE 1 ?_;refine aN 1 [_,_,_,_,_] sizeOf3 ?_;refine an 98 [0,1,6,7,8] ?_;refine CD.seq ?_;refine mv 6 [0,7,8,76,77,78] ?_;refine bK ?_;refine bN (dc 5 (h:=by first|exact .l (j:=i.toNat) (Int.toNat_of_nonneg hi.1).symm hj|exact .r (j:=i.toNat) (Int.toNat_of_nonneg hi.1).symm hj)) ?_;refine OD.storeAt (k:=3) (cs':=flatMap gO (L.set i.toNat (⟨bu p L.length,cx,cy,cf,bL,bM,bB⟩:aB))) ap rfl rfl ot rfl rfl ot rfl rfl sizeOf153 rfl Mt Mg ?_;refine an 98 [0,7,8] ?_;refine CD.seq ?_;refine fE 8 (aq (take 2 _)) ?_ (fun _ h=>(Sublist.map _ (take_sublist _ _)).subset h);refine ay 0 rfl aZ ?_;refine ay 1 rfl aZ ?_;refine ay 2 rfl lW ?_;refine ay 3 rfl (dh 0) ?_;refine ay 5 rfl (B9 0 [_,_,_,_,_]) ?_;refine dm.later rfl ?_;refine AD.two (i:=4) (j:=6) aA ?_ ?_
   ·refine at_ rfl (cU (mk:=Op.load 49) rfl ot (sy (k:=2) (d:=aP (some ⟨bx,0,none⟩) (L.set i.toNat (⟨bu p L.length,cx,cy,cf,bL,bM,bB⟩:aB)).length cap) rfl rfl isAgg49 Ai)) ?_;refine AD.one (i:=6) aA ?_;refine iV (cc 0 [_]) [.bool false,.slice none 0 0,.slice none 0 0,.slice none 0 0,.int .i64 0] [_,_,_,_,_] zeroValue153 runUnderlying49 sizeOf153 (fun DT=>?_);refine iW 0 86 5 1 ?_;refine AD.one (i:=7) aA ?_;refine bj.en (ls:=(L.set i.toNat (⟨bu p L.length,cx,cy,cf,bL,bM,bB⟩:aB))) (new:=[(⟨bz p,dA,dB,cN,dD,dF,cQ⟩:aB)]) (Sq:=[⟨bx,153,cap*5,flatMap gO (L.set i.toNat (⟨bu p L.length,cx,cy,cf,bL,bM,bB⟩:aB))⟩]) gk uZ rfl ap rfl rfl underlying49 yF rfl w7 ot (bH rH rL) (kr (k:=3) rfl) ot bq Ac Ad (hT:=by intro x0 O;have O:x0∈[b7,b6]:=O;show x0∈(b7::b6::_:List Nat);simp only[mem_cons,not_mem_nil,or_false] at O ⊢;omega) (fun I E U Z=>?_);refine eE ?_;refine aE 2 ?_;refine aN 3 [_,_] sizeOf49 ?_;refine an 98 [0,8] ?_;refine CD.seq ?_;refine fE 9 (aq _) ?_ (fun _ h=>h);refine ay 0 rfl aZ ?_;refine ay 2 rfl aZ ?_;refine ay 3 rfl lW ?_;refine ay 4 rfl (dh 0) ?_;refine ay 5 rfl (dI 3) ?_;refine ay 6 rfl qQ ?_;refine ay 7 rfl (dw (r:=.int .i64 (L.length:Nat)) rfl ot bP (gj Ae)) ?_;refine dm.later rfl ?_;refine AD.one (i:=1) aA ?_;refine jm call95 (j7 (jn p) vJ) ?_
    have o8:(cf++(bB++(cQ++(cN++((L.eraseIdx i.toNat).flatMap bO))))).Perm (((L.set i.toNat (⟨bu p L.length,cx,cy,cf,bL,bM,bB⟩:aB))++[(⟨bz p,dA,dB,cN,dD,dF,cQ⟩:aB)]).flatMap bO):=iH fun jj=>by have hq:=yK (qW bO hj (⟨bu p L.length,cx,cy,cf,bL,bM,bB⟩:aB)) jj;rw[flatMap_append,show[(⟨bz p,dA,dB,cN,dD,dF,cQ⟩:aB)].flatMap bO=cN++(cQ++[]) from by simp[bO]];simp only[show bO (⟨bu p L.length,cx,cy,cf,bL,bM,bB⟩:aB)=cf++bB from rfl,map_append,map_cons,map_nil,sum_append,sum_cons,sum_nil] at *;omega
    refine AD.perm (S':=⟨b7,153,5,gO (⟨bz p,dA,dB,cN,dD,dF,cQ⟩:aB)⟩::⟨b6,153,5,gO (⟨bu p L.length,cx,cy,cf,bL,bM,bB⟩:aB)⟩::⟨b,51,2,[aP (some ⟨I,0,none⟩) ((L.set i.toNat (⟨bu p L.length,cx,cy,cf,bL,bM,bB⟩:aB))++[(⟨bz p,dA,dB,cN,dD,dF,cQ⟩:aB)]).length E,ae root]⟩::(([⟨I,153,E*5,flatMap gO ((L.set i.toNat (⟨bu p L.length,cx,cy,cf,bL,bM,bB⟩:aB))++[(⟨bz p,dA,dB,cN,dD,dF,cQ⟩:aB)])⟩]:List ah)++((L.set i.toNat (⟨bu p L.length,cx,cy,cf,bL,bM,bB⟩:aB))++[(⟨bz p,dA,dB,cN,dD,dF,cQ⟩:aB)]).flatMap bO)) zY ?_;refine cr 8 rfl aZ ?_;refine eE ?_;refine bf [4,5] ?_;refine aJ (⟨b,51,2,[aP (some ⟨I,0,none⟩) ((L.set i.toNat (⟨bu p L.length,cx,cy,cf,bL,bM,bB⟩:aB))++[(⟨bz p,dA,dB,cN,dD,dF,cQ⟩:aB)]).length E,ae root]⟩::([⟨I,153,E*5,flatMap gO ((L.set i.toNat (⟨bu p L.length,cx,cy,cf,bL,bM,bB⟩:aB))++[(⟨bz p,dA,dB,cN,dD,dF,cQ⟩:aB)])⟩]++((L.set i.toNat (⟨bu p L.length,cx,cy,cf,bL,bM,bB⟩:aB))++[(⟨bz p,dA,dB,cN,dD,dF,cQ⟩:aB)]).flatMap bO)) ?_;refine⟨rfl,((L.set i.toNat (⟨bu p L.length,cx,cy,cf,bL,bM,bB⟩:aB))++[(⟨bz p,dA,dB,cN,dD,dF,cQ⟩:aB)]),some ⟨I,0,none⟩,E,[⟨I,153,E*5,flatMap gO ((L.set i.toNat (⟨bu p L.length,cx,cy,cf,bL,bM,bB⟩:aB))++[(⟨bz p,dA,dB,cN,dD,dF,cQ⟩:aB)])⟩],bH U Z,fun x hx=>?_,?_,rfl⟩
    ·rcases mem_append.1 hx with hx|hx
     ·rcases mem_or_eq_of_mem_set hx with hx|rfl
      ·exact aR x hx
      exact⟨zV,zU⟩
     rw[mem_singleton] at hx;subst hx;exact⟨pX,zT⟩
    rw[map_append,map_set];rfl
   refine iV (cc 0 [_]) [.bool false,.slice none 0 0,.slice none 0 0,.slice none 0 0,.int .i64 0] [_,_,_,_,_] zeroValue153 runUnderlying49 sizeOf153 (fun DT=>?_);refine iW 0 86 5 1 ?_;refine AD.one (i:=4) aA ?_;refine at_ rfl (cU (mk:=Op.load 49) rfl ot (sy (k:=2) (d:=aP (some ⟨bx,0,none⟩) (L.set i.toNat (⟨bu p L.length,cx,cy,cf,bL,bM,bB⟩:aB)).length cap) rfl rfl isAgg49 Ai)) ?_;refine AD.one (i:=7) aA ?_;refine bj.en (ls:=(L.set i.toNat (⟨bu p L.length,cx,cy,cf,bL,bM,bB⟩:aB))) (new:=[(⟨bz p,dA,dB,cN,dD,dF,cQ⟩:aB)]) (Sq:=[⟨bx,153,cap*5,flatMap gO (L.set i.toNat (⟨bu p L.length,cx,cy,cf,bL,bM,bB⟩:aB))⟩]) gk uZ rfl ap rfl rfl underlying49 yF rfl w7 ot (bH rH rL) (kr (k:=3) rfl) ot bq Ac Ad (hT:=by intro x0 O;have O:x0∈[b7,b6]:=O;show x0∈(b7::b6::_:List Nat);simp only[mem_cons,not_mem_nil,or_false] at O ⊢;omega) (fun I E U Z=>?_);refine eE ?_;refine aE 2 ?_;refine aN 3 [_,_] sizeOf49 ?_;refine an 98 [0,8] ?_;refine CD.seq ?_;refine fE 9 (aq _) ?_ (fun _ h=>h);refine ay 0 rfl aZ ?_;refine ay 2 rfl aZ ?_;refine ay 3 rfl lW ?_;refine ay 4 rfl (dh 0) ?_;refine ay 5 rfl (dI 3) ?_;refine ay 6 rfl qQ ?_;refine ay 7 rfl (dw (r:=.int .i64 (L.length:Nat)) rfl ot bP (gj Ae)) ?_;refine dm.later rfl ?_;refine AD.one (i:=1) aA ?_;refine jm call95 (j7 (jn p) vJ) ?_
   have o8:(cf++(bB++(cQ++(cN++((L.eraseIdx i.toNat).flatMap bO))))).Perm (((L.set i.toNat (⟨bu p L.length,cx,cy,cf,bL,bM,bB⟩:aB))++[(⟨bz p,dA,dB,cN,dD,dF,cQ⟩:aB)]).flatMap bO):=iH fun jj=>by have hq:=yK (qW bO hj (⟨bu p L.length,cx,cy,cf,bL,bM,bB⟩:aB)) jj;rw[flatMap_append,show[(⟨bz p,dA,dB,cN,dD,dF,cQ⟩:aB)].flatMap bO=cN++(cQ++[]) from by simp[bO]];simp only[show bO (⟨bu p L.length,cx,cy,cf,bL,bM,bB⟩:aB)=cf++bB from rfl,map_append,map_cons,map_nil,sum_append,sum_cons,sum_nil] at *;omega
   refine AD.perm (S':=⟨b7,153,5,gO (⟨bz p,dA,dB,cN,dD,dF,cQ⟩:aB)⟩::⟨b6,153,5,gO (⟨bu p L.length,cx,cy,cf,bL,bM,bB⟩:aB)⟩::⟨b,51,2,[aP (some ⟨I,0,none⟩) ((L.set i.toNat (⟨bu p L.length,cx,cy,cf,bL,bM,bB⟩:aB))++[(⟨bz p,dA,dB,cN,dD,dF,cQ⟩:aB)]).length E,ae root]⟩::(([⟨I,153,E*5,flatMap gO ((L.set i.toNat (⟨bu p L.length,cx,cy,cf,bL,bM,bB⟩:aB))++[(⟨bz p,dA,dB,cN,dD,dF,cQ⟩:aB)])⟩]:List ah)++((L.set i.toNat (⟨bu p L.length,cx,cy,cf,bL,bM,bB⟩:aB))++[(⟨bz p,dA,dB,cN,dD,dF,cQ⟩:aB)]).flatMap bO)) zY ?_;refine cr 8 rfl aZ ?_;refine eE ?_;refine bf [4,5] ?_;refine aJ (⟨b,51,2,[aP (some ⟨I,0,none⟩) ((L.set i.toNat (⟨bu p L.length,cx,cy,cf,bL,bM,bB⟩:aB))++[(⟨bz p,dA,dB,cN,dD,dF,cQ⟩:aB)]).length E,ae root]⟩::([⟨I,153,E*5,flatMap gO ((L.set i.toNat (⟨bu p L.length,cx,cy,cf,bL,bM,bB⟩:aB))++[(⟨bz p,dA,dB,cN,dD,dF,cQ⟩:aB)])⟩]++((L.set i.toNat (⟨bu p L.length,cx,cy,cf,bL,bM,bB⟩:aB))++[(⟨bz p,dA,dB,cN,dD,dF,cQ⟩:aB)]).flatMap bO)) ?_;refine⟨rfl,((L.set i.toNat (⟨bu p L.length,cx,cy,cf,bL,bM,bB⟩:aB))++[(⟨bz p,dA,dB,cN,dD,dF,cQ⟩:aB)]),some ⟨I,0,none⟩,E,[⟨I,153,E*5,flatMap gO ((L.set i.toNat (⟨bu p L.length,cx,cy,cf,bL,bM,bB⟩:aB))++[(⟨bz p,dA,dB,cN,dD,dF,cQ⟩:aB)])⟩],bH U Z,fun x hx=>?_,?_,rfl⟩
   ·rcases mem_append.1 hx with hx|hx
    ·rcases mem_or_eq_of_mem_set hx with hx|rfl
     ·exact aR x hx
     exact⟨zV,zU⟩
    rw[mem_singleton] at hx;subst hx;exact⟨pX,zT⟩
   rw[map_append,map_set];rfl
  refine dS 1 [_,_,_,_,_] sizeOf88 ?_;refine AD.one (i:=5) aA ?_;refine at_ rfl (dI 2) ?_;refine cr 6 rfl qQ ?_;refine eE ?_;refine aE 1 ?_;refine aN 1 [_,_,_,_,_] sizeOf3 ?_;refine an 98 [0,1,6,7,8] ?_;refine CD.seq ?_;refine mv 6 [0,7,8,76,77,78] ?_;refine bK ?_;refine bN (dc 5 (h:=by first|exact .l (j:=i.toNat) (Int.toNat_of_nonneg hi.1).symm hj|exact .r (j:=i.toNat) (Int.toNat_of_nonneg hi.1).symm hj)) ?_;refine OD.storeAt (k:=3) (cs':=flatMap gO (L.set i.toNat (⟨bu p L.length,cx,cy,cf,bL,bM,bB⟩:aB))) ap rfl rfl ot rfl rfl ot rfl rfl sizeOf153 rfl Mt Mg ?_;refine an 98 [0,7,8] ?_;refine CD.seq ?_;refine fE 8 (aq (take 2 _)) ?_ (fun _ h=>(Sublist.map _ (take_sublist _ _)).subset h);refine ay 0 rfl aZ ?_;refine ay 1 rfl aZ ?_;refine ay 2 rfl lW ?_;refine ay 3 rfl (dh 0) ?_;refine ay 5 rfl (B9 0 [_,_,_,_,_]) ?_;refine dm.later rfl ?_;refine AD.two (i:=4) (j:=6) aA ?_ ?_
  ·refine at_ rfl (cU (mk:=Op.load 49) rfl ot (sy (k:=2) (d:=aP (some ⟨bx,0,none⟩) (L.set i.toNat (⟨bu p L.length,cx,cy,cf,bL,bM,bB⟩:aB)).length cap) rfl rfl isAgg49 Ai)) ?_;refine AD.one (i:=6) aA ?_;refine iV (cc 0 [_]) [.bool false,.slice none 0 0,.slice none 0 0,.slice none 0 0,.int .i64 0] [_,_,_,_,_] zeroValue153 runUnderlying49 sizeOf153 (fun DT=>?_);refine iW 0 86 5 1 ?_;refine AD.one (i:=7) aA ?_;refine bj.en (ls:=(L.set i.toNat (⟨bu p L.length,cx,cy,cf,bL,bM,bB⟩:aB))) (new:=[(⟨bz p,dA,dB,cN,dD,dF,cQ⟩:aB)]) (Sq:=[⟨bx,153,cap*5,flatMap gO (L.set i.toNat (⟨bu p L.length,cx,cy,cf,bL,bM,bB⟩:aB))⟩]) gk uZ rfl ap rfl rfl underlying49 yF rfl w7 ot (bH rH rL) (kr (k:=3) rfl) ot bq Ac Ad (hT:=by intro x0 O;have O:x0∈[b7,b6]:=O;show x0∈(b7::b6::_:List Nat);simp only[mem_cons,not_mem_nil,or_false] at O ⊢;omega) (fun I E U Z=>?_);refine eE ?_;refine aE 2 ?_;refine aN 3 [_,_] sizeOf49 ?_;refine an 98 [0,8] ?_;refine CD.seq ?_;refine fE 9 (aq _) ?_ (fun _ h=>h);refine ay 0 rfl aZ ?_;refine ay 2 rfl aZ ?_;refine ay 3 rfl lW ?_;refine ay 4 rfl (dh 0) ?_;refine ay 5 rfl (dI 3) ?_;refine ay 6 rfl qQ ?_;refine ay 7 rfl (dw (r:=.int .i64 (L.length:Nat)) rfl ot bP (gj Ae)) ?_;refine dm.later rfl ?_;refine AD.one (i:=1) aA ?_;refine jm call95 (j7 (jn p) vJ) ?_
   have o8:(cf++(bB++(cQ++(cN++((L.eraseIdx i.toNat).flatMap bO))))).Perm (((L.set i.toNat (⟨bu p L.length,cx,cy,cf,bL,bM,bB⟩:aB))++[(⟨bz p,dA,dB,cN,dD,dF,cQ⟩:aB)]).flatMap bO):=iH fun jj=>by have hq:=yK (qW bO hj (⟨bu p L.length,cx,cy,cf,bL,bM,bB⟩:aB)) jj;rw[flatMap_append,show[(⟨bz p,dA,dB,cN,dD,dF,cQ⟩:aB)].flatMap bO=cN++(cQ++[]) from by simp[bO]];simp only[show bO (⟨bu p L.length,cx,cy,cf,bL,bM,bB⟩:aB)=cf++bB from rfl,map_append,map_cons,map_nil,sum_append,sum_cons,sum_nil] at *;omega
   refine AD.perm (S':=⟨b7,153,5,gO (⟨bz p,dA,dB,cN,dD,dF,cQ⟩:aB)⟩::⟨b6,153,5,gO (⟨bu p L.length,cx,cy,cf,bL,bM,bB⟩:aB)⟩::⟨b,51,2,[aP (some ⟨I,0,none⟩) ((L.set i.toNat (⟨bu p L.length,cx,cy,cf,bL,bM,bB⟩:aB))++[(⟨bz p,dA,dB,cN,dD,dF,cQ⟩:aB)]).length E,ae root]⟩::(([⟨I,153,E*5,flatMap gO ((L.set i.toNat (⟨bu p L.length,cx,cy,cf,bL,bM,bB⟩:aB))++[(⟨bz p,dA,dB,cN,dD,dF,cQ⟩:aB)])⟩]:List ah)++((L.set i.toNat (⟨bu p L.length,cx,cy,cf,bL,bM,bB⟩:aB))++[(⟨bz p,dA,dB,cN,dD,dF,cQ⟩:aB)]).flatMap bO)) zY ?_;refine cr 8 rfl aZ ?_;refine eE ?_;refine bf [4,5] ?_;refine aJ (⟨b,51,2,[aP (some ⟨I,0,none⟩) ((L.set i.toNat (⟨bu p L.length,cx,cy,cf,bL,bM,bB⟩:aB))++[(⟨bz p,dA,dB,cN,dD,dF,cQ⟩:aB)]).length E,ae root]⟩::([⟨I,153,E*5,flatMap gO ((L.set i.toNat (⟨bu p L.length,cx,cy,cf,bL,bM,bB⟩:aB))++[(⟨bz p,dA,dB,cN,dD,dF,cQ⟩:aB)])⟩]++((L.set i.toNat (⟨bu p L.length,cx,cy,cf,bL,bM,bB⟩:aB))++[(⟨bz p,dA,dB,cN,dD,dF,cQ⟩:aB)]).flatMap bO)) ?_;refine⟨rfl,((L.set i.toNat (⟨bu p L.length,cx,cy,cf,bL,bM,bB⟩:aB))++[(⟨bz p,dA,dB,cN,dD,dF,cQ⟩:aB)]),some ⟨I,0,none⟩,E,[⟨I,153,E*5,flatMap gO ((L.set i.toNat (⟨bu p L.length,cx,cy,cf,bL,bM,bB⟩:aB))++[(⟨bz p,dA,dB,cN,dD,dF,cQ⟩:aB)])⟩],bH U Z,fun x hx=>?_,?_,rfl⟩
   ·rcases mem_append.1 hx with hx|hx
    ·rcases mem_or_eq_of_mem_set hx with hx|rfl
     ·exact aR x hx
     exact⟨zV,zU⟩
    rw[mem_singleton] at hx;subst hx;exact⟨pX,zT⟩
   rw[map_append,map_set];rfl
  refine iV (cc 0 [_]) [.bool false,.slice none 0 0,.slice none 0 0,.slice none 0 0,.int .i64 0] [_,_,_,_,_] zeroValue153 runUnderlying49 sizeOf153 (fun DT=>?_);refine iW 0 86 5 1 ?_;refine AD.one (i:=4) aA ?_;refine at_ rfl (cU (mk:=Op.load 49) rfl ot (sy (k:=2) (d:=aP (some ⟨bx,0,none⟩) (L.set i.toNat (⟨bu p L.length,cx,cy,cf,bL,bM,bB⟩:aB)).length cap) rfl rfl isAgg49 Ai)) ?_;refine AD.one (i:=7) aA ?_;refine bj.en (ls:=(L.set i.toNat (⟨bu p L.length,cx,cy,cf,bL,bM,bB⟩:aB))) (new:=[(⟨bz p,dA,dB,cN,dD,dF,cQ⟩:aB)]) (Sq:=[⟨bx,153,cap*5,flatMap gO (L.set i.toNat (⟨bu p L.length,cx,cy,cf,bL,bM,bB⟩:aB))⟩]) gk uZ rfl ap rfl rfl underlying49 yF rfl w7 ot (bH rH rL) (kr (k:=3) rfl) ot bq Ac Ad (hT:=by intro x0 O;have O:x0∈[b7,b6]:=O;show x0∈(b7::b6::_:List Nat);simp only[mem_cons,not_mem_nil,or_false] at O ⊢;omega) (fun I E U Z=>?_);refine eE ?_;refine aE 2 ?_;refine aN 3 [_,_] sizeOf49 ?_;refine an 98 [0,8] ?_;refine CD.seq ?_;refine fE 9 (aq _) ?_ (fun _ h=>h);refine ay 0 rfl aZ ?_;refine ay 2 rfl aZ ?_;refine ay 3 rfl lW ?_;refine ay 4 rfl (dh 0) ?_;refine ay 5 rfl (dI 3) ?_;refine ay 6 rfl qQ ?_;refine ay 7 rfl (dw (r:=.int .i64 (L.length:Nat)) rfl ot bP (gj Ae)) ?_;refine dm.later rfl ?_;refine AD.one (i:=1) aA ?_;refine jm call95 (j7 (jn p) vJ) ?_
  have o8:(cf++(bB++(cQ++(cN++((L.eraseIdx i.toNat).flatMap bO))))).Perm (((L.set i.toNat (⟨bu p L.length,cx,cy,cf,bL,bM,bB⟩:aB))++[(⟨bz p,dA,dB,cN,dD,dF,cQ⟩:aB)]).flatMap bO):=iH fun jj=>by have hq:=yK (qW bO hj (⟨bu p L.length,cx,cy,cf,bL,bM,bB⟩:aB)) jj;rw[flatMap_append,show[(⟨bz p,dA,dB,cN,dD,dF,cQ⟩:aB)].flatMap bO=cN++(cQ++[]) from by simp[bO]];simp only[show bO (⟨bu p L.length,cx,cy,cf,bL,bM,bB⟩:aB)=cf++bB from rfl,map_append,map_cons,map_nil,sum_append,sum_cons,sum_nil] at *;omega
  refine AD.perm (S':=⟨b7,153,5,gO (⟨bz p,dA,dB,cN,dD,dF,cQ⟩:aB)⟩::⟨b6,153,5,gO (⟨bu p L.length,cx,cy,cf,bL,bM,bB⟩:aB)⟩::⟨b,51,2,[aP (some ⟨I,0,none⟩) ((L.set i.toNat (⟨bu p L.length,cx,cy,cf,bL,bM,bB⟩:aB))++[(⟨bz p,dA,dB,cN,dD,dF,cQ⟩:aB)]).length E,ae root]⟩::(([⟨I,153,E*5,flatMap gO ((L.set i.toNat (⟨bu p L.length,cx,cy,cf,bL,bM,bB⟩:aB))++[(⟨bz p,dA,dB,cN,dD,dF,cQ⟩:aB)])⟩]:List ah)++((L.set i.toNat (⟨bu p L.length,cx,cy,cf,bL,bM,bB⟩:aB))++[(⟨bz p,dA,dB,cN,dD,dF,cQ⟩:aB)]).flatMap bO)) zY ?_;refine cr 8 rfl aZ ?_;refine eE ?_;refine bf [4,5] ?_;refine aJ (⟨b,51,2,[aP (some ⟨I,0,none⟩) ((L.set i.toNat (⟨bu p L.length,cx,cy,cf,bL,bM,bB⟩:aB))++[(⟨bz p,dA,dB,cN,dD,dF,cQ⟩:aB)]).length E,ae root]⟩::([⟨I,153,E*5,flatMap gO ((L.set i.toNat (⟨bu p L.length,cx,cy,cf,bL,bM,bB⟩:aB))++[(⟨bz p,dA,dB,cN,dD,dF,cQ⟩:aB)])⟩]++((L.set i.toNat (⟨bu p L.length,cx,cy,cf,bL,bM,bB⟩:aB))++[(⟨bz p,dA,dB,cN,dD,dF,cQ⟩:aB)]).flatMap bO)) ?_;refine⟨rfl,((L.set i.toNat (⟨bu p L.length,cx,cy,cf,bL,bM,bB⟩:aB))++[(⟨bz p,dA,dB,cN,dD,dF,cQ⟩:aB)]),some ⟨I,0,none⟩,E,[⟨I,153,E*5,flatMap gO ((L.set i.toNat (⟨bu p L.length,cx,cy,cf,bL,bM,bB⟩:aB))++[(⟨bz p,dA,dB,cN,dD,dF,cQ⟩:aB)])⟩],bH U Z,fun x hx=>?_,?_,rfl⟩
  ·rcases mem_append.1 hx with hx|hx
   ·rcases mem_or_eq_of_mem_set hx with hx|rfl
    ·exact aR x hx
    exact⟨zV,zU⟩
   rw[mem_singleton] at hx;subst hx;exact⟨pX,zT⟩
  rw[map_append,map_set];rfl
 refine at_ rfl (dI 2) ?_;refine cr 6 rfl qQ ?_;refine AD.one (i:=1) aA ?_;refine jm call95 (j7 (jn p) vJ) ?_;refine cr 7 rfl (dh 3) ?_;refine AD.one (i:=8) aA ?_;refine dS 1 [_,_,_,_,_] sizeOf88 ?_;refine eE ?_;refine aE 1 ?_;refine aN 1 [_,_,_,_,_] sizeOf3 ?_;refine an 98 [0,1,6,7,8] ?_;refine CD.seq ?_;refine mv 6 [0,7,8,76,77,78] ?_;refine bK ?_;refine bN (dc 5 (h:=by first|exact .l (j:=i.toNat) (Int.toNat_of_nonneg hi.1).symm hj|exact .r (j:=i.toNat) (Int.toNat_of_nonneg hi.1).symm hj)) ?_;refine OD.storeAt (k:=3) (cs':=flatMap gO (L.set i.toNat (⟨bu p L.length,cx,cy,cf,bL,bM,bB⟩:aB))) ap rfl rfl ot rfl rfl ot rfl rfl sizeOf153 rfl Mt Mg ?_;refine an 98 [0,7,8] ?_;refine CD.seq ?_;refine fE 8 (aq (take 2 _)) ?_ (fun _ h=>(Sublist.map _ (take_sublist _ _)).subset h);refine ay 0 rfl aZ ?_;refine ay 1 rfl aZ ?_;refine ay 2 rfl lW ?_;refine ay 3 rfl (dh 0) ?_;refine ay 5 rfl (B9 0 [_,_,_,_,_]) ?_;refine dm.later rfl ?_;refine AD.two (i:=4) (j:=6) aA ?_ ?_
 ·refine at_ rfl (cU (mk:=Op.load 49) rfl ot (sy (k:=2) (d:=aP (some ⟨bx,0,none⟩) (L.set i.toNat (⟨bu p L.length,cx,cy,cf,bL,bM,bB⟩:aB)).length cap) rfl rfl isAgg49 Ai)) ?_;refine AD.one (i:=6) aA ?_;refine iV (cc 0 [_]) [.bool false,.slice none 0 0,.slice none 0 0,.slice none 0 0,.int .i64 0] [_,_,_,_,_] zeroValue153 runUnderlying49 sizeOf153 (fun DT=>?_);refine iW 0 86 5 1 ?_;refine AD.one (i:=7) aA ?_;refine bj.en (ls:=(L.set i.toNat (⟨bu p L.length,cx,cy,cf,bL,bM,bB⟩:aB))) (new:=[(⟨bz p,dA,dB,cN,dD,dF,cQ⟩:aB)]) (Sq:=[⟨bx,153,cap*5,flatMap gO (L.set i.toNat (⟨bu p L.length,cx,cy,cf,bL,bM,bB⟩:aB))⟩]) gk uZ rfl ap rfl rfl underlying49 yF rfl w7 ot (bH rH rL) (kr (k:=3) rfl) ot bq Ac Ad (hT:=by intro x0 O;have O:x0∈[b7,b6]:=O;show x0∈(b7::b6::_:List Nat);simp only[mem_cons,not_mem_nil,or_false] at O ⊢;omega) (fun I E U Z=>?_);refine eE ?_;refine aE 2 ?_;refine aN 3 [_,_] sizeOf49 ?_;refine an 98 [0,8] ?_;refine CD.seq ?_;refine fE 9 (aq _) ?_ (fun _ h=>h);refine ay 0 rfl aZ ?_;refine ay 2 rfl aZ ?_;refine ay 3 rfl lW ?_;refine ay 4 rfl (dh 0) ?_;refine ay 5 rfl (dI 3) ?_;refine ay 6 rfl qQ ?_;refine ay 7 rfl (dw (r:=.int .i64 (L.length:Nat)) rfl ot bP (gj Ae)) ?_;refine dm.later rfl ?_;refine AD.one (i:=1) aA ?_;refine jm call95 (j7 (jn p) vJ) ?_
  have o8:(cf++(bB++(cQ++(cN++((L.eraseIdx i.toNat).flatMap bO))))).Perm (((L.set i.toNat (⟨bu p L.length,cx,cy,cf,bL,bM,bB⟩:aB))++[(⟨bz p,dA,dB,cN,dD,dF,cQ⟩:aB)]).flatMap bO):=iH fun jj=>by have hq:=yK (qW bO hj (⟨bu p L.length,cx,cy,cf,bL,bM,bB⟩:aB)) jj;rw[flatMap_append,show[(⟨bz p,dA,dB,cN,dD,dF,cQ⟩:aB)].flatMap bO=cN++(cQ++[]) from by simp[bO]];simp only[show bO (⟨bu p L.length,cx,cy,cf,bL,bM,bB⟩:aB)=cf++bB from rfl,map_append,map_cons,map_nil,sum_append,sum_cons,sum_nil] at *;omega
  refine AD.perm (S':=⟨b7,153,5,gO (⟨bz p,dA,dB,cN,dD,dF,cQ⟩:aB)⟩::⟨b6,153,5,gO (⟨bu p L.length,cx,cy,cf,bL,bM,bB⟩:aB)⟩::⟨b,51,2,[aP (some ⟨I,0,none⟩) ((L.set i.toNat (⟨bu p L.length,cx,cy,cf,bL,bM,bB⟩:aB))++[(⟨bz p,dA,dB,cN,dD,dF,cQ⟩:aB)]).length E,ae root]⟩::(([⟨I,153,E*5,flatMap gO ((L.set i.toNat (⟨bu p L.length,cx,cy,cf,bL,bM,bB⟩:aB))++[(⟨bz p,dA,dB,cN,dD,dF,cQ⟩:aB)])⟩]:List ah)++((L.set i.toNat (⟨bu p L.length,cx,cy,cf,bL,bM,bB⟩:aB))++[(⟨bz p,dA,dB,cN,dD,dF,cQ⟩:aB)]).flatMap bO)) zY ?_;refine cr 8 rfl aZ ?_;refine eE ?_;refine bf [4,5] ?_;refine aJ (⟨b,51,2,[aP (some ⟨I,0,none⟩) ((L.set i.toNat (⟨bu p L.length,cx,cy,cf,bL,bM,bB⟩:aB))++[(⟨bz p,dA,dB,cN,dD,dF,cQ⟩:aB)]).length E,ae root]⟩::([⟨I,153,E*5,flatMap gO ((L.set i.toNat (⟨bu p L.length,cx,cy,cf,bL,bM,bB⟩:aB))++[(⟨bz p,dA,dB,cN,dD,dF,cQ⟩:aB)])⟩]++((L.set i.toNat (⟨bu p L.length,cx,cy,cf,bL,bM,bB⟩:aB))++[(⟨bz p,dA,dB,cN,dD,dF,cQ⟩:aB)]).flatMap bO)) ?_;refine⟨rfl,((L.set i.toNat (⟨bu p L.length,cx,cy,cf,bL,bM,bB⟩:aB))++[(⟨bz p,dA,dB,cN,dD,dF,cQ⟩:aB)]),some ⟨I,0,none⟩,E,[⟨I,153,E*5,flatMap gO ((L.set i.toNat (⟨bu p L.length,cx,cy,cf,bL,bM,bB⟩:aB))++[(⟨bz p,dA,dB,cN,dD,dF,cQ⟩:aB)])⟩],bH U Z,fun x hx=>?_,?_,rfl⟩
  ·rcases mem_append.1 hx with hx|hx
   ·rcases mem_or_eq_of_mem_set hx with hx|rfl
    ·exact aR x hx
    exact⟨zV,zU⟩
   rw[mem_singleton] at hx;subst hx;exact⟨pX,zT⟩
  rw[map_append,map_set];rfl
 refine iV (cc 0 [_]) [.bool false,.slice none 0 0,.slice none 0 0,.slice none 0 0,.int .i64 0] [_,_,_,_,_] zeroValue153 runUnderlying49 sizeOf153 (fun DT=>?_);refine iW 0 86 5 1 ?_;refine AD.one (i:=4) aA ?_;refine at_ rfl (cU (mk:=Op.load 49) rfl ot (sy (k:=2) (d:=aP (some ⟨bx,0,none⟩) (L.set i.toNat (⟨bu p L.length,cx,cy,cf,bL,bM,bB⟩:aB)).length cap) rfl rfl isAgg49 Ai)) ?_;refine AD.one (i:=7) aA ?_;refine bj.en (ls:=(L.set i.toNat (⟨bu p L.length,cx,cy,cf,bL,bM,bB⟩:aB))) (new:=[(⟨bz p,dA,dB,cN,dD,dF,cQ⟩:aB)]) (Sq:=[⟨bx,153,cap*5,flatMap gO (L.set i.toNat (⟨bu p L.length,cx,cy,cf,bL,bM,bB⟩:aB))⟩]) gk uZ rfl ap rfl rfl underlying49 yF rfl w7 ot (bH rH rL) (kr (k:=3) rfl) ot bq Ac Ad (hT:=by intro x0 O;have O:x0∈[b7,b6]:=O;show x0∈(b7::b6::_:List Nat);simp only[mem_cons,not_mem_nil,or_false] at O ⊢;omega) (fun I E U Z=>?_);refine eE ?_;refine aE 2 ?_;refine aN 3 [_,_] sizeOf49 ?_;refine an 98 [0,8] ?_;refine CD.seq ?_;refine fE 9 (aq _) ?_ (fun _ h=>h);refine ay 0 rfl aZ ?_;refine ay 2 rfl aZ ?_;refine ay 3 rfl lW ?_;refine ay 4 rfl (dh 0) ?_;refine ay 5 rfl (dI 3) ?_;refine ay 6 rfl qQ ?_;refine ay 7 rfl (dw (r:=.int .i64 (L.length:Nat)) rfl ot bP (gj Ae)) ?_;refine dm.later rfl ?_;refine AD.one (i:=1) aA ?_;refine jm call95 (j7 (jn p) vJ) ?_
 have o8:(cf++(bB++(cQ++(cN++((L.eraseIdx i.toNat).flatMap bO))))).Perm (((L.set i.toNat (⟨bu p L.length,cx,cy,cf,bL,bM,bB⟩:aB))++[(⟨bz p,dA,dB,cN,dD,dF,cQ⟩:aB)]).flatMap bO):=iH fun jj=>by have hq:=yK (qW bO hj (⟨bu p L.length,cx,cy,cf,bL,bM,bB⟩:aB)) jj;rw[flatMap_append,show[(⟨bz p,dA,dB,cN,dD,dF,cQ⟩:aB)].flatMap bO=cN++(cQ++[]) from by simp[bO]];simp only[show bO (⟨bu p L.length,cx,cy,cf,bL,bM,bB⟩:aB)=cf++bB from rfl,map_append,map_cons,map_nil,sum_append,sum_cons,sum_nil] at *;omega
 refine AD.perm (S':=⟨b7,153,5,gO (⟨bz p,dA,dB,cN,dD,dF,cQ⟩:aB)⟩::⟨b6,153,5,gO (⟨bu p L.length,cx,cy,cf,bL,bM,bB⟩:aB)⟩::⟨b,51,2,[aP (some ⟨I,0,none⟩) ((L.set i.toNat (⟨bu p L.length,cx,cy,cf,bL,bM,bB⟩:aB))++[(⟨bz p,dA,dB,cN,dD,dF,cQ⟩:aB)]).length E,ae root]⟩::(([⟨I,153,E*5,flatMap gO ((L.set i.toNat (⟨bu p L.length,cx,cy,cf,bL,bM,bB⟩:aB))++[(⟨bz p,dA,dB,cN,dD,dF,cQ⟩:aB)])⟩]:List ah)++((L.set i.toNat (⟨bu p L.length,cx,cy,cf,bL,bM,bB⟩:aB))++[(⟨bz p,dA,dB,cN,dD,dF,cQ⟩:aB)]).flatMap bO)) zY ?_;refine cr 8 rfl aZ ?_;refine eE ?_;refine bf [4,5] ?_;refine aJ (⟨b,51,2,[aP (some ⟨I,0,none⟩) ((L.set i.toNat (⟨bu p L.length,cx,cy,cf,bL,bM,bB⟩:aB))++[(⟨bz p,dA,dB,cN,dD,dF,cQ⟩:aB)]).length E,ae root]⟩::([⟨I,153,E*5,flatMap gO ((L.set i.toNat (⟨bu p L.length,cx,cy,cf,bL,bM,bB⟩:aB))++[(⟨bz p,dA,dB,cN,dD,dF,cQ⟩:aB)])⟩]++((L.set i.toNat (⟨bu p L.length,cx,cy,cf,bL,bM,bB⟩:aB))++[(⟨bz p,dA,dB,cN,dD,dF,cQ⟩:aB)]).flatMap bO)) ?_;refine⟨rfl,((L.set i.toNat (⟨bu p L.length,cx,cy,cf,bL,bM,bB⟩:aB))++[(⟨bz p,dA,dB,cN,dD,dF,cQ⟩:aB)]),some ⟨I,0,none⟩,E,[⟨I,153,E*5,flatMap gO ((L.set i.toNat (⟨bu p L.length,cx,cy,cf,bL,bM,bB⟩:aB))++[(⟨bz p,dA,dB,cN,dD,dF,cQ⟩:aB)])⟩],bH U Z,fun x hx=>?_,?_,rfl⟩
 ·rcases mem_append.1 hx with hx|hx
  ·rcases mem_or_eq_of_mem_set hx with hx|rfl
   ·exact aR x hx
   exact⟨zV,zU⟩
  rw[mem_singleton] at hx;subst hx;exact⟨pX,zT⟩
 rw[map_append,map_set];rfl

end Go.Proofs.YtdgichenhdikgaaGreatDoor.Tw
