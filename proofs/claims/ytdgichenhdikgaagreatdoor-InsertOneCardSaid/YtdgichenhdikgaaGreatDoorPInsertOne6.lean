/-
  What the proof of InsertOne leans on, part 6 of 9: walks of the program's functions at the level of values, and plain facts of what they compute.
-/
import Derived.Test.YtdgichenhdikgaaGreatDoorPInsertOne5
set_option linter.unusedVariables false
set_option linter.unusedSimpArgs false
set_option maxRecDepth 100000
set_option maxHeartbeats 4000000
namespace Go.Proofs.YtdgichenhdikgaaGreatDoor.Tw
open List
open Go.Proofs.Tryz
open Go.RowKit V Tr Pk
open Go.Lib (compareBytes)
variable {l hi k:K} {p:da} {n many:Int} {i:Nat} {t:aG}
def cK(k:K):List D:=[av 1 cB k]
theorem gl(k:K):(cK k).length=1:=rfl
theorem pI(k:K):(cK k).all V.one=true:=rfl
def cI(n:Int):List D:=[ae n]
theorem eC(n:Int):(cI n).length=1:=rfl
theorem nF(n:Int):(cI n).all V.one=true:=rfl
def cP(p:da):List D:=[cj p.leaf,av 1 cK p.keys,av 1 cI p.kids,av 1 cB p.high,ae p.next]
theorem FO(p:da):(cP p).length=5:=rfl
theorem agt(p:da):(cP p).all V.one=true:=rfl
def cT(t:aG):List D:=[av 5 cP t.ag,ae t.root]
def ox(k:K):Bool:=decide (0<k.length∧k.length≤100)
def u6(p:da)(i:Nat):Prop:=∀(h:i<p.keys.length),ox p.keys[i]=true∧(∀(h0:0<i),bB (p.keys[i-1]'w4) p.keys[i])∧(p.high≠[]→bB p.keys[i] p.high)
theorem adg{l:List K}(h:∀i (hi:i<l.length) (h0:0<i),bB (l[i-1]'w4) l[i]):l.Pairwise bB:=by
 refine pairwise_iff_getElem.2 fun i j hi hj E=>?_;obtain⟨d,rfl⟩:∃d,j=i+1+d:=⟨j-(i+1),by omega⟩
 induction d with
 | zero=>have:=h (i+1) hj w4;simpa using this
 | succ d ih =>
  have h1:=ih w4 w4;have h2:=h (i+1+(d+1)) hj w4;exact lP h1 (by simpa using h2)
theorem SO(h:eG p n)(i:Nat):u6 p i:=fun hi=>by
 have hm:=getElem_mem hi;have:=h.lD _ hm;exact⟨by unfold ox;simp;omega,fun h0=>nc h.jV w4 hi,fun hne=>h.qA hne _ hm⟩
theorem Kq(h:decide ((l.length:Int)>0)=true):l≠[]:=fun e=>by rw[e] at h;cases h
theorem len_nil(h:decide ((l.length:Int)>0)=false):l=[]:=by
 have:=of_decide_eq_false h;exact length_eq_zero_iff.1 w4
theorem Vu(h:decide ((hi.length:Int)>0)=true):decide (compareBytes k hi≥0)=decide (hi≠[]∧¬bB k hi):=by
 have:=Kq h;unfold bB;simp[this]
theorem Vv(h:decide ((hi.length:Int)>0)=false):false=decide (hi≠[]∧¬bB k hi):=by simp[len_nil h]
variable {G:List (Nat×List Value)}
theorem wI(a b:K):VP Tryz.prog G 51 [av 1 cB a,av 1 cB b] (ae (compareBytes a b)):=by
 exact V8
theorem Vw(a b:K)(ha:a.length≤maxLen)(hb:b.length≤maxLen):VP Tryz.prog G 133 [av 1 cB a,av 1 cB b] (cj (decide (a=b))):=by
 refine VC.body func133 rfl ntmps133 aR fun X0 w0 aZ=>?_;refine af [0,1] ?_;refine cZ [4] ?_;refine aS 1 ?_ (h:=by exact Dh);refine aS 1 ?_ (h:=by exact Dh);refine bG ?_;refine aI [] ?_;refine⟨vb ?_,rfl⟩;rw[ByteArray.toList_eq,ByteArray.toList_eq];show(a==b)=decide (a=b);by_cases h:a=b<;>simp[h]
theorem ze(k:K):VP Tryz.prog G 132 [av 1 cB k] (cj (ox k)):=by
 refine VC.body func132 rfl ntmps132 aR fun X0 w0 aZ=>?_;refine af [0] ?_;refine aD 4 ?_;refine bV 6 (fun I E=>?_) (fun I E=>?_)
 ·refine bg [2] ?_;refine eN ?_;refine⟨vb ?_,rfl⟩;unfold ox;first|(simp_all;done)|(simp_all;omega)
 refine bg [2] ?_;refine eN ?_;refine⟨vb ?_,rfl⟩;unfold ox;first|(simp_all;done)|(simp_all;omega)
theorem abw(p:da)(k:K):VP Tryz.prog G 144 [.agg (cP p),av 1 cB k] (cj (decide (p.high≠[]∧¬bB k p.high))):=by
 refine VC.body func144 rfl ntmps144 aR fun X0 w0 aZ=>?_;unfold cP;refine bY ?_;refine OD.box (ds:=[_,_,_,_,_]) ap rfl rfl ot rfl rfl (fun b2=>?_);refine an 16 [1,2] ?_;refine aD 5 ?_;refine bV 9 (fun E I=>?_) (fun E I=>?_)
 ·refine aE 3 ?_;refine OD.gM gW rfl rfl rfl call51 (wI k p.high) ⟨ot,ot,trivial⟩ ?_;refine an 16 [4] ?_;refine aI [] ?_;refine⟨vb ?_,rfl⟩;first|exact Vu E|exact Vv E
 refine bg [4] ?_;refine eN ?_;refine⟨vb ?_,rfl⟩;first|exact Vu E|exact Vv E
theorem Vx{a:Int}(h:(decide (a<0)!=((l.length:Int)==0))=false):a<0↔l=[]:=by
 have h:decide (a<0)=((l.length:Int)==0):=(by simpa using h)
 rw[←length_eq_zero_iff];constructor
 ·intro q;rw[decide_eq_true q] at h;have:=beq_iff_eq.1 h.symm;omega
 intro q;rw[q] at h;exact of_decide_eq_true h
theorem ag7{a:Int}(h:a<0↔l=[]):(!(decide (a<0)==((l.length:Int)==0)))=false:=by
 rw[←length_eq_zero_iff] at h;by_cases q:a<0
 ·rw[decide_eq_true q,h.1 q];rfl
 rw[decide_eq_false q];have:¬l.length=0:=fun e=>q (h.2 e);simp;exact fun e=>this (by rw[e];rfl)
open Classical in
noncomputable def B4(p:da)(many:Int):Bool:=decide (eG p many)
open Classical in
theorem EQ(h:¬eG p many):false=B4 p many:=(decide_eq_false h).symm
open Classical in
theorem abx(h:eG p many):true=B4 p many:=(decide_eq_true h).symm
theorem aei(h:eG p n)(hi:i<p.kids.length):0≤p.kids[i]∧(p.leaf=false→p.kids[i]<n):=⟨h.aC _ (getElem_mem hi),fun hl=>h.vr hl _ (getElem_mem hi)⟩
theorem adi(f1:p.keys.length≤4)(f2:p.high.length≤100)(f3:-1≤p.next)(f4:p.next<many)(I:(p.next<0↔p.high=[]))(O:(p.leaf=true→p.kids.length=p.keys.length))(E:(p.leaf=false→p.kids.length=p.keys.length+1∧p.keys.length≠0))(hk:∀j,j<p.keys.length→u6 p j)(hc:∀j (hj:j<p.kids.length),0≤p.kids[j]∧(p.leaf=false→p.kids[j]<many)):eG p many:=by
 refine⟨f1,f2,f3,f4,I,O,fun h=>⟨(E h).1,fun e=>(E h).2 (by rw[e];rfl)⟩,fun k h=>?_,fun hne k h=>?_,adg fun i hi h0=>(hk i hi hi).2.1 h0,fun n h=>?_,fun hl n h=>?_⟩
 ·obtain⟨i,hi,rfl⟩:=mem_iff_getElem.1 h;have:=(hk i hi hi).1;unfold ox at this;have:=of_decide_eq_true this;omega
 ·obtain⟨i,hi,rfl⟩:=mem_iff_getElem.1 h;exact(hk i hi hi).2.2 hne
 ·obtain⟨i,hi,rfl⟩:=mem_iff_getElem.1 h;exact(hc i hi).1
 obtain⟨i,hi,rfl⟩:=mem_iff_getElem.1 h;exact(hc i hi).2 hl
theorem ae1(p:da)(many:Int)(ee:p.keys.length≤maxLen)(fA:p.kids.length≤maxLen):VP Tryz.prog G 91 [.agg (cP p),ae many] (cj (B4 p many)):=by
 refine VC.body func91 rfl ntmps91 aR fun X0 w0 aZ=>?_;unfold cP;have dm:=ec;refine bY ?_;refine OD.box (ds:=[_,_,_,_,_]) ap rfl rfl ot rfl rfl (fun b2=>?_);refine an 132 [1,2] ?_;refine aD 5 ?_;refine bV 13 (fun aj8 Z=>?_) (fun aj8 Z=>?_)
 ·exact z127
 refine aE 6 ?_;refine bV 19 (fun LY ahO=>?_) (fun LY ahO=>?_)
 ·exact z127
 refine aE 5 ?_;refine bV 24 (fun aj9 ahP=>?_) (fun aj9 ahP=>?_)
 ·exact z127
 refine aE 6 ?_;refine bV 30 (fun aka ahQ=>?_) (fun aka ahQ=>?_)
 ·exact z127
 refine aE 7 ?_;refine OD.still gW rfl (dj rfl ot ot (Q6 underlying4)) ?_;refine an 132 [1,2,39] ?_;refine au ?_ ?_<;>intro aM bD
 ·refine af [4] ?_;refine aI [] ?_;exact G8
 refine CD.skip ?_;refine jB [1,2] (fun aU I aH=>(p.keys.length≤4)∧(p.high.length≤100)∧(-1≤p.next)∧(p.next<many)∧((p.next<0↔p.high=[]))∧((p.leaf=true→p.kids.length=p.keys.length))∧((p.leaf=false→p.kids.length=p.keys.length+1∧p.keys.length≠0))∧aH=(⟨132,aU,I⟩:St)) ?_ ?_
 ·refine aD 3 ?_;refine bV 42 (fun rj ahR=>?_) (fun rj ahR=>?_)
  ·refine aE 9 ?_;refine bV 51 (fun akb ahS=>?_) (fun akb ahS=>?_)
   ·exact We
   refine aE 4 ?_;refine bV 55 (fun tZ E=>?_) (fun tZ E=>?_)
   ·exact absurd tZ (by rw[rj];decide)
   refine bg [1,2,71] ?_;refine fM ?_;refine CD.skip ?_;refine⟨_,aK,w4,w4,w4,w4,(Vx aM),(fun _=>by omega),(fun h=>absurd rj (by rw[h];decide)),rfl⟩
  refine x4 7 ?_;refine aE 6 ?_;refine bV 55 (fun tZ E=>?_) (fun tZ E=>?_)
  ·refine aE 9 ?_;refine bV 64 (fun L9 K5=>?_) (fun L9 K5=>?_)
   ·exact We
   refine bg [1,2,71] ?_;refine au ?_ ?_<;>intro aY cy
   ·refine af [4] ?_;refine eN ?_;exact G8
   refine CD.skip ?_;refine⟨_,aK,w4,w4,w4,w4,(Vx aM),(fun h=>absurd rj (by rw[h];decide)),(fun _=>⟨by omega,by omega⟩),rfl⟩
  exact absurd tZ (by rw[rj];decide)
 rintro _ ⟨f1,f2,f3,f4,f5,f6,f7,rfl⟩;refine af [1,2,73,74,75] ?_;refine eA [1,2,73,74] (fun aU I (i:Nat) aH=>(i≤p.keys.length)∧(∀j,j<i→u6 p j)∧aH=(⟨132,(75,ae (i:Nat))::aU,I⟩:St)) (fun (i:Nat)=>p.keys.length-i) 0 ⟨(Nat.zero_le _),(fun j h=>by omega),rfl⟩ ?_;rintro i _ ⟨hi,xV,rfl⟩;refine af [1,2,73,74,75,76] ?_;refine au ?_ ?_<;>intro bZ cN
 ·have aa:i<p.keys.length:=(by omega)
  refine af [1,2,5,6,73,74,75] ?_;refine aD 1 ?_;refine dQ call132 (ze p.keys[i]) ?_;refine aE 2 ?_;refine bV 83 (fun xx ahT=>?_) (fun xx ahT=>?_)
  ·refine an 132 [1,2,73,74,75,110] ?_;refine eI ?_;exact Xq
  refine aE 3 ?_;refine bV 86 (fun akc ahU=>?_) (fun akc ahU=>?_)
  ·refine aE 4 ?_;refine bN (dF 1 (h:=by first|exact .l (j:=i-1) w4 w4|exact .r (j:=i-1) w4 w4)) ?_;refine aE 2 ?_;refine OD.gM gW rfl rfl rfl call51 (wI (p.keys[i-1]'w4) p.keys[i]) ⟨ot,ot,trivial⟩ ?_;refine aE 4 ?_;refine bV 98 (fun zC Gc=>?_) (fun zC Gc=>?_)
   ·refine an 132 [1,2,73,74,75,110] ?_;refine eI ?_;exact Xq
   refine aE 5 ?_;exact Xi
  refine x4 9 ?_;refine aE 8 ?_;exact Xi
 have ahV:∀j,j<p.keys.length→u6 p j:=fun j hj=>xV j w4;refine af [1,2,113,114,115] ?_;refine eA [1,2,113,114] (fun aU I (i:Nat) aH=>(i≤p.kids.length)∧(∀j (_:j<i) (hj:j<p.kids.length),0≤p.kids[j]∧(p.leaf=false→p.kids[j]<many))∧aH=(⟨132,(115,ae (i:Nat))::aU,I⟩:St)) (fun (i:Nat)=>p.kids.length-i) 0 ⟨(Nat.zero_le _),(fun j h=>by omega),rfl⟩ ?_;rintro i _ ⟨kg,j7,rfl⟩;refine af [1,2,113,114,115,116] ?_;refine au ?_ ?_<;>intro er fq
 ·have aa:i<p.kids.length:=(by omega)
  refine af [1,2,8,113,114,115] ?_;refine aD 3 ?_;refine bV 121 (fun KU O=>?_) (fun KU O=>?_)
  ·refine bg [1,2,113,114,115,130] ?_;refine eI ?_;exact XH
  refine aE 4 ?_;refine bV 125 (fun FZ U=>?_) (fun FZ U=>?_)
  ·refine bg [1,2,113,114,115,130] ?_;refine au ?_ ?_<;>intro fx gG
   ·exact XH
   exact XD
  refine bg [1,2,113,114,115,130] ?_;refine fM ?_;exact XD
 refine af [4] ?_;refine aI [] ?_;refine⟨vb (abx (adi f1 f2 f3 f4 f5 f6 f7 ahV fun j hj=>j7 j w4 hj)),rfl⟩

def ng(keys:List K)(k:K):Bool:=decide (keys[gA keys k]?=some k)
theorem adj{keys:List K}(hi:i≤keys.length)(h1:∀m (hm:m<keys.length),m<i→bB keys[m] k)(h2:∀m (hm:m<keys.length),i≤m→¬bB keys[m] k):gA keys k=i:=by
 have E:=yP keys k;rcases Nat.lt_trichotomy (gA keys k) i with h|h|h
 ·have aa:gA keys k<keys.length:=(by omega)
  exact absurd (h1 _ aa h) (Bh aa)
 ·exact h
 obtain⟨h',q⟩:=Br h;exact absurd q (h2 _ h' (Nat.le_refl _))
theorem aby{keys:List K}(hr:keys.Pairwise bB)(k:K):mK keys k=if ng keys k=true then gA keys k+1 else gA keys k:=by
 have E:=yP keys k;split
 ·rename_i hf;unfold ng at hf;have hf:=of_decide_eq_true hf;obtain⟨aa,he⟩:=List.getElem?_eq_some_iff.1 hf;refine J5 hr w4 (fun _=>?_) (fun h=>?_)
  ·show ¬bB k (keys[gA keys k+1-1]'w4);simp only[Nat.add_sub_cancel,he];exact iZ k
  have:=nc hr (Nat.lt_succ_self (gA keys k)) h;rw[he] at this;exact this
 rename_i hf;refine J5 hr E (fun h0=>?_) (fun h=>?_)
 ·exact wN (Br (by omega:gA keys k-1<gA keys k)).2
 have h1:=Bh h;rcases wO keys[gA keys k] k with h2|h2|h2
 ·exact absurd h2 h1
 ·exfalso;apply hf;unfold ng;rw[getElem?_eq_getElem h,h2];simp
 exact h2
theorem B5{a:Nat}:((a:Nat):Int).fdiv (2 ^ min (1:Int).toNat IntKind.u64.bits)=((a/2:Nat):Int):=by
 rw[show min (1:Int).toNat IntKind.u64.bits=1 from rfl,Int.fdiv_eq_ediv_of_nonneg _ w7];rfl
theorem UY{keys:List K}(hd:gA keys k=i)(hi:i<keys.length):(D.dI [ae (i:Nat),cj (compareBytes keys[i] k==0)]) = .dI [ae (gA keys k:Nat),cj (ng keys k)]∧([]:List ah)=[]:=by
 subst hd;refine⟨?_,rfl⟩;have:(compareBytes keys[gA keys k] k==0)=ng keys k:=by
  unfold ng;rw[getElem?_eq_getElem hi];by_cases h:keys[gA keys k]=k
  ·have:=tW.2 h;rw[this];simp[h]
  have:¬compareBytes keys[gA keys k] k=0:=fun e=>h (tW.1 e);simp[h,this]
 rw[this]
theorem TS{keys:List K}(hd:gA keys k=i)(hi:keys.length≤i):(D.dI [ae (i:Nat),cj false]) = .dI [ae (gA keys k:Nat),cj (ng keys k)]∧([]:List ah)=[]:=by
 subst hd;refine⟨?_,rfl⟩;have:ng keys k=false:=(by unfold ng;rw[getElem?_eq_none hi];rfl)
 rw[this]
theorem abz(keys:List K)(k:K)(hr:keys.Pairwise bB)(hl:keys.length≤1000):VP Tryz.prog G 145 [av 1 cK keys,av 1 cB k,.ez (.func 51) []] (.dI [ae (gA keys k:Nat),cj (ng keys k)]):=by
 refine VC.body func145 rfl ntmps145 aR fun X0 w0 aZ=>?_;have dm:=ec;refine af [0,1,2] ?_;refine af [0,1,2,8] ?_;refine af [0,1,2,8,9,10] ?_;refine eA [0,1,2,8] (fun aU _ (I:Nat×Nat) aH=>match I with|(i,j)=>(i≤j)∧(j≤keys.length)∧(∀m (hm:m<keys.length),m<i→bB keys[m] k)∧(∀m (hm:m<keys.length),j≤m→¬bB keys[m] k)∧aH=(⟨49,(9,ae (i:Nat))::(10,ae (j:Nat))::aU,[]⟩:St)) (fun (I:Nat×Nat)=>match I with|(i,j)=>j-i) (0,keys.length) ⟨(Nat.zero_le _),(Nat.le_refl _),(fun m hm h=>by omega),(fun m hm h=>by omega),rfl⟩ ?_;rintro⟨i,j⟩ _ ⟨YQ,hjn,h1,h2,rfl⟩;refine af [0,1,2,8,9,10,17] ?_;refine au ?_ ?_<;>intro aM bD
 ·have aa:i<j:=(by omega)
  have E:((i+j)/2)<keys.length:=(by omega)
  refine cZ [0,1,2,8,9,10,11] ?_;refine aS 2 ?_ (h:=by exact(dj rfl ot ot (kr (r:=((i+j:Nat):Int)) Ak)));refine aS 0 ?_ (h:=by exact(oK rfl ot (oL (r:=((i+j:Nat):Int)) runUnderlying3 runUnderlying231 (IntWalk.u64_in _ w4))));refine aS 0 ?_ (h:=by exact(dj rfl ot bI (y4 w7 B5)));refine aS 0 ?_ (h:=by exact(oK rfl ot (oL (r:=((((i+j)/2):Nat):Int)) runUnderlying231 runUnderlying3 (wrap_i64 w4 w4))));refine bG ?_;refine aD 6 ?_;refine OD.kv (f:=51) (args:=[_,_]) (all:=[_,_]) (Sf:=[]) ap rfl rfl ot call51 (wI (keys[((i+j)/2)]'E) k) rfl ⟨ot,ot,trivial⟩ (eO _) ?_;rintro _ _ ⟨rfl,rfl⟩;refine an 49 [0,1,2,8,9,10,11,31] ?_;refine au ?_ ?_<;>intro aY cy
  ·have hc:bB (keys[((i+j)/2)]'E) k:=of_decide_eq_true aY;have Z:∀m (hm:m<keys.length),m<((i+j)/2)+1→bB keys[m] k:=fun m hm h=>by (rcases Nat.lt_or_ge m ((i+j)/2) with q|q);exact lP (nc hr q E) hc;(have:m=((i+j)/2):=by omega);subst this;exact hc
   refine cm [0,1,2,8,9,10] ?_;refine⟨((((i+j)/2)+1),j),_,cD,aK,w4,w4,(fun m hm h=>by rcases Nat.lt_or_ge m i with q|q;exact h1 m hm q;exact Z m hm w4),h2,rfl⟩
  have hc:¬bB (keys[((i+j)/2)]'E) k:=of_decide_eq_false aY;have O:∀m (hm:m<keys.length),((i+j)/2)≤m→¬bB keys[m] k:=fun m hm h hh=>by (rcases Nat.lt_or_ge ((i+j)/2) m with q|q);exact hc (lP (nc hr q hm) hh);(have:m=((i+j)/2):=by omega);subst this;exact hc hh
  refine cm [0,1,2,8,9,10] ?_;refine⟨(i,((i+j)/2)),_,cD,aK,w4,w4,h1,O,rfl⟩
 obtain rfl:i=j:=(by omega)
 have hd:=adj hjn h1 h2;refine aD 5 ?_;refine bV 39 (fun akd U=>?_) (fun akd U=>?_)
 ·refine aE 6 ?_;refine OD.kv (f:=51) (args:=[_,_]) (all:=[_,_]) (Sf:=[]) gW rfl rfl ot call51 (wI (keys[i]'w4) k) rfl ⟨ot,ot,trivial⟩ (eO _) ?_;rintro _ _ ⟨rfl,rfl⟩;refine an 49 [6,7] ?_;refine aI [] ?_;first|exact UY hd w4|exact TS hd w4
 refine bg [6,7] ?_;refine Nh ?_;first|exact UY hd w4|exact TS hd w4
theorem Jp(p:da)(k:K)(hr:p.keys.Pairwise bB)(hl:p.keys.length≤1000):VP Tryz.prog G 123 [.agg (cP p),av 1 cB k] (ae (aL p k:Nat)):=by
 refine VC.body func123 rfl ntmps123 aR fun X0 w0 aZ=>?_;unfold cP;have dm:=ec;have I:=yP p.keys k;have XV:=aby hr k;refine bY ?_;refine OD.box (ds:=[_,_,_,_,_]) ap rfl rfl ot rfl rfl (fun b2=>?_);refine an 23 [1,2] ?_;refine cJ [2,5,6] (abz p.keys k hr hl) ?_;refine aD 2 ?_;refine bV 15 (fun Cl E=>?_) (fun Cl E=>?_)
 ·refine bg [5,19] ?_;refine au ?_ ?_<;>intro aM bD
  ·refine cm [5] ?_;exact XU
  exact XU
 refine bg [5,19] ?_;refine fM ?_;refine af [4] ?_;refine eN ?_;refine⟨vi ?_,rfl⟩;unfold aL;first|(rw[Cl] at XV;cases fL:p.leaf<;>simp_all;done)|(simp_all;done)|(simp_all;omega)

theorem abA{d:Nat}{i:Int}{lo:K}(ok:dY t d i lo hi)(h:(t.pg i).leaf=true):d=0:=by
 cases d with
 | zero=>rfl
 | succ d=>obtain⟨_,q2,_⟩:=ok;rw[q2] at h;cases h
theorem abB{d:Nat}{i:Int}{lo:K}(ok:dY t d i lo hi)(h:(t.pg i).leaf=false):∃d',d=d'+1:=by
 cases d with
 | zero=>obtain⟨_,q2,_⟩:=ok;rw[q2] at h;cases h
 | succ d=>exact⟨d,rfl⟩
theorem abC:(Tryz.prog.info? 3).map (fun i=>(i.zero,i.size,i.bytes))=some (some (.int .i64 0),1,8):=by kernel_rfl
theorem TT(t:aG)(h:Nat)(v:Valid t h)(k:K):VC Tryz.prog G 122 [.agg (cT t),av 1 cB k] [] (gm cI 3 1 (je t k h t.root)):=by
 refine VC.body func122 rfl ntmps122 aR fun X0 w0 aZ=>?_;unfold cT;have dm:=ec;have hval:=v;have eB:=v.high;have Oc:=v.nO;refine bY ?_;refine OD.box (ds:=[_,_]) ap rfl rfl ot rfl rfl (fun b2=>?_);refine an 45 [1,2] ?_;refine aD 2 ?_;refine ei (bW 0 [_]) [.int .i64 0] [_] zeroValue3 runUnderlying67 sizeOf3 (fun k8=>?_);refine OD.perm (dZ (S1:=[⟨k8,3,1*1,flatMap cI ([t.root])⟩]) (A:=[_])) ?_;refine an 45 [1,2,5] ?_;refine CD.block ?_;refine mV (fun (U:Nat×Int×K×K×List Int×Option Addr×Nat×List ah) aH=>match U with|(d,i,lo,hi,pre,HL,O,Sl)=>(dY t d i lo hi)∧(lJ lo hi k)∧(pre++je t k d i=je t k h t.root)∧(pre.length+d≤h)∧(bn 3 1 (((pre++[i])).flatMap cI) ((pre++[i])).length HL O Sl)∧aH=(⟨45,[(1,av 1 cB k),(2,dL b2),(5,aN HL ((pre++[i])).length O)],(⟨b2,51,2,[av 5 cP t.ag,ae t.root]⟩::Sl)⟩:St)) (fun (U:Nat×Int×K×K×List Int×Option Addr×Nat×List ah)=>match U with|(d,i,lo,hi,pre,HL,O,Sl)=>d) (h,t.root,[],[],[],(some ⟨k8,0,none⟩),1,[⟨k8,3,1*1,flatMap cI ([t.root])⟩]) ⟨v.ok,(tO k),(nil_append _),bf,(bn.cast (bE (g:=cI) (sz:=1) (e:=3) (ls:=[t.root]) (Nat.le_refl _) (show 1≤maxLen by decide)) j6),rfl⟩ (aK (h:=by repeat (first|exact trivial|refine⟨(by (repeat (first|exact fD|(apply fV;focus (first|rfl|(simp;done)|(congr 2;omega)|(apply eK;rw[Z])|(apply eK;simp;done)))|(apply fH;focus rfl)));done),?_⟩))) ?_
 rintro⟨d,i,lo,hi,pre,HL,O,Sl⟩ _ ⟨ok,kj,Vy,fN,N1,rfl⟩;obtain⟨bl,rfl,CA,B6,rfl⟩:=N1.pos bf;have q1:=ok.idx;have aa:i.toNat<t.ag.length:=(by omega)
 have E:t.pg i=(t.ag[i.toNat]'aa):=ve q1;have po:=v.fF _ (jF q1);have B7:=ok.high;rw[E] at po B7;refine cZ [1,2,5,6] ?_;refine aS 4 ?_ (h:=by exact(dF 1 (h:=by first|exact .l (j:=pre.length) bf bf|exact .r (j:=pre.length) bf bf)));refine aS 0 ?_ (h:=by exact(cW (mk:=Op.load 3) rfl ot (iY (k:=1) (d:=ae i) (i:=pre.length) eC rfl rfl rfl isAgg3 bf (by simp[cI]))));refine bG ?_;refine aD 3 ?_;refine bN (dF 5 (h:=by first|exact .l (j:=i.toNat) (Int.toNat_of_nonneg q1.1).symm aa|exact .r (j:=i.toNat) (Int.toNat_of_nonneg q1.1).symm aa)) ?_;refine aE 1 ?_;refine OD.alloc (ds:=[_,_,_,_,_]) ap rfl rfl zeroValue153 rfl (fun b7=>?_);refine aP 0 [_,_,_,_,_] sizeOf153 ?_;refine an 45 [1,2,5,7] ?_;refine cJ [1,2,5,7,24] (abw (t.ag[i.toNat]'aa) k) ?_;refine au ?_ ?_<;>intro aM bD
 ·exact absurd aM (by intro e;have e:=of_decide_eq_true e;rw[B7] at e;exact e.2 (kj.2 e.1))
 refine af [1,2,5,7,33] ?_;refine au ?_ ?_<;>intro aY cy
 ·obtain rfl:=abA ok (by rw[E];exact aY);have aW:pre++[i]=je t k h t.root:=(by rw[←Vy];rfl)
  refine af [4] ?_;refine aI [⟨bl,3,O*1,flatMap cI (pre++[i])⟩] ?_;rw[←aW];exact⟨_,_,rfl,(bE (g:=cI) (ls:=pre++[i]) CA B6)⟩
 obtain⟨dd,rfl⟩:=abB ok (by rw[E];exact aY);have ok0:=ok;obtain⟨_,fL,hh,ajm,pV⟩:=ok0;obtain⟨d1,d2⟩:=down (p:=t.pg i) (by rw[E];exact po) fL hh kj;have jT:=pV _ d1;rw[←tG d1] at jT;have Ma:=d2;have agu:pre++[i]++je t k dd ((t.pg i).kids.getD (aL (t.pg i) k) 0)=je t k h t.root:=(by rw[←Vy,append_assoc];rfl)
 have qK:=Jp (G:=G) (t.pg i) k (by rw[E];exact po.jV) (by rw[E];have:=po.eJ;omega);have I:aL (t.ag[i.toNat]'aa) k<(t.ag[i.toNat]'aa).kids.length:=(by rw[←E];exact d1)
 have ake:VP Tryz.prog G 123 [.agg (cP (t.ag[i.toNat]'aa)),av 1 cB k] (ae (aL (t.ag[i.toNat]'aa) k:Nat)):=(by rw[←E];exact qK)
 have Z:(t.pg i).kids.getD (aL (t.pg i) k) 0=(t.ag[i.toNat]'aa).kids[aL (t.ag[i.toNat]'aa) k]'I:=(by rw[E];exact tG I)
 refine CD.skip ?_;refine fR 10 (aq (take 2 _)) ?_ (fun _ h=>(Sublist.map _ (take_sublist _ _)).subset h);refine az 0 rfl bp ?_;refine az 1 rfl (dr 2) ?_;refine az 2 rfl (dK 0) ?_;refine az 3 rfl (Ck 0 [_,_,_,_,_]) ?_;refine az 4 rfl bp ?_;refine dD.later rfl ?_;refine AD.one (i:=5) aA ?_;refine jJ call123 (ake) ?_;refine cA 6 rfl (dF 1 (h:=by first|exact .l (j:=aL (t.ag[i.toNat]'aa) k) rfl I|exact .r (j:=aL (t.ag[i.toNat]'aa) k) rfl I)) ?_;refine AD.one (i:=7) aA ?_;refine at_ rfl eT ?_;refine AD.one (i:=8) aA ?_;refine js (bW 0 [_]) [.int .i64 0] [_] zeroValue3 runUnderlying67 sizeOf3 (fun YH=>?_);refine jt 0 43 1 1 ?_;refine AD.one (i:=9) aA ?_;refine bj.ek (ls:=(pre++[i])) (new:=[(t.ag[i.toNat]'aa).kids[aL (t.ag[i.toNat]'aa) k]'I]) (Sq:=[⟨bl,3,O*1,flatMap cI (pre++[i])⟩]) eC nF rfl ap rfl rfl underlying67 abC rfl w7 ot (bE (g:=cI) (ls:=pre++[i]) CA B6) (de (A:=[_,_])) ot bf vG iq (fun Od Mb akf akg=>?_);refine AD.perm (dZ (S1:=[⟨Od,3,Mb*1,flatMap cI ((pre++[i])++[(t.ag[i.toNat]'aa).kids[aL (t.ag[i.toNat]'aa) k]'I])⟩]) (A:=[_,_])) ?_;refine eH ?_;refine bg [1,2,5] ?_
 refine⟨(dd,((t.pg i).kids.getD (aL (t.pg i) k) 0),(iu lo (t.pg i) (aL (t.pg i) k)),(gY (t.pg i) (aL (t.pg i) k)),(pre++[i]),(some ⟨Od,0,none⟩),Mb,[⟨Od,3,Mb*1,flatMap cI ((pre++[i])++[(t.ag[i.toNat]'aa).kids[aL (t.ag[i.toNat]'aa) k]'I])⟩]),_,cD,(aK (h:=by repeat (first|exact trivial|refine⟨(by (repeat (first|exact fD|(apply fV;focus (first|rfl|(simp;done)|(congr 2;omega)|(apply eK;rw[Z])|(apply eK;simp;done)))|(apply fH;focus rfl)));done),?_⟩))),jT,Ma,agu,iq,(bn.cast (bE akf akg) (by rw[Z])),rfl⟩
theorem ae2(t:aG)(h:Nat)(v:Valid t h)(k:K):VP Tryz.prog G 122 [.agg (cT t),av 1 cB k] (.list 1 ((je t k h t.root).flatMap cI) (je t k h t.root).length):=(TT t h v k).wX eC

def gE(t:aG)(k:K)(h:Nat):Bool:=ng (t.pg (aJ t k h t.root)).keys k
theorem Ev{h:Nat}(v:Valid t h)(k:K):gE t k h=true↔BO t k h:=by
 unfold gE ng BO;have hl:=(v.leaf k).2;have fN:aL (t.pg (aJ t k h t.root)) k=gA (t.pg (aJ t k h t.root)).keys k:=(by unfold aL;rw[if_pos hl])
 rw[fN,decide_eq_true_iff,List.getElem?_eq_some_iff]
theorem TU(hl:p.leaf=true)(ha:aL p k<p.keys.length):decide (p.keys[aL p k]=k)=ng p.keys k:=by
 unfold ng;have fN:aL p k=gA p.keys k:=(by unfold aL;rw[if_pos hl])
 simp only[fN] at ha ⊢;rw[getElem?_eq_getElem ha];simp
theorem TV(hl:p.leaf=true)(ha:¬aL p k<p.keys.length):false=ng p.keys k:=by
 unfold ng;have fN:aL p k=gA p.keys k:=(by unfold aL;rw[if_pos hl])
 rw[fN] at ha;rw[getElem?_eq_none w4];rfl
theorem ae3{h:Nat}{i:Int}:∃(hn:(je t k h i).length-1<(je t k h i).length),(je t k h i)[(je t k h i).length-1]=aJ t k h i:=by
 have h1:=Qi t k h i;rw[getLast?_eq_getElem?] at h1;exact List.getElem?_eq_some_iff.1 h1
theorem RW(hp:eG p n)(k:K):aL p k≤p.keys.length:=by
 unfold aL;split
 ·exact yP _ _
 exact Bs _ _
theorem E4(t:aG)(k:K):∀(h:Nat) (i:Int),(je t k h i).length=h+1
 | 0,i=>rfl
 | h+1,i=>by rw[je,length_cons,E4 t k h]
theorem qt(t:aG)(h:Nat)(v:Valid t h)(k:K)(ee:k.length≤maxLen)(U:(je t k h t.root).length≤1000000):VP Tryz.prog G 94 [.agg (cT t),av 1 cB k] (.dI [ae (aJ t k h t.root),ae (aL (t.pg (aJ t k h t.root)) k:Nat),cj (gE t k h)]):=by
 refine VC.body func94 rfl ntmps94 aR fun X0 w0 aZ=>?_;unfold cT;have dm:=ec;have qK:=ae2 (G:=G) t h v k;unfold cT at qK;obtain⟨gi,Z⟩:=ae3 (t:=t) (k:=k) (h:=h) (i:=t.root);obtain⟨q1,K7⟩:=v.leaf k;have aa:(aJ t k h t.root).toNat<t.ag.length:=(by omega)
 have I:t.pg (aJ t k h t.root)=(t.ag[(aJ t k h t.root).toNat]'aa):=ve q1;have po:=v.fF _ (jF q1);have Oc:=v.nO;have Wz:(je t k h t.root).length≤1000000:=U;have akh:=Jp (G:=G) (t.pg (aJ t k h t.root)) k po.jV (by have:=po.eJ;omega);have aki:VP Tryz.prog G 123 [.agg (cP (t.ag[(aJ t k h t.root).toNat]'aa)),av 1 cB k] (ae (aL (t.ag[(aJ t k h t.root).toNat]'aa) k:Nat)):=(by rw[←I];exact akh)
 have akj:∀x∈(t.ag[(aJ t k h t.root).toNat]'aa).keys,x.length≤maxLen:=fun x hx=>by rw[←I] at hx;have:=(po.lD x hx).2;omega
 have E:(t.ag[(aJ t k h t.root).toNat]'aa).leaf=true:=(by rw[←I];exact K7)
 have O:gE t k h=ng (t.ag[(aJ t k h t.root).toNat]'aa).keys k:=(by unfold gE;rw[I])
 have mN:=po.eJ;have akk:=(RW po k)
 rw[I] at mN akk;refine bY ?_;refine OD.box (ds:=[_,_]) ap rfl rfl ot rfl rfl (fun b2=>?_);refine an 42 [1,2] ?_;refine cJ [1,2,7] (qK) ?_;refine cZ [1,2,4] ?_;refine aS 4 ?_ (h:=by exact(dF 1 (h:=by first|exact .l (j:=(je t k h t.root).length-1) w4 gi|exact .r (j:=(je t k h t.root).length-1) w4 gi)));refine aS 0 ?_ (h:=by exact(cW (mk:=Op.load 3) rfl ot (qu (d:=ae (aJ t k h t.root)) (i:=(je t k h t.root).length-1) eC isAgg3 gi (by rw[Z];rfl))));refine bG ?_;refine aD 5 ?_;refine OD.alloc (ds:=[_,_,_,_,_]) ap rfl rfl zeroValue153 rfl (fun b8=>?_);refine aP 0 [_,_,_,_,_] sizeOf153 ?_;refine an 42 [1,4,8] ?_;refine cJ [1,4,5,8] (aki) ?_;refine aD 8 ?_;refine bV 33 (fun akl ahW=>?_) (fun akl ahW=>?_)
 ·refine aE 6 ?_;refine OD.gM gW rfl rfl rfl call133 (Vw ((t.ag[(aJ t k h t.root).toNat]'aa).keys[aL (t.ag[(aJ t k h t.root).toNat]'aa) k]'w4) k (akj _ (getElem_mem _)) ee) ⟨ot,ot,trivial⟩ ?_;refine an 42 [4,5,6] ?_;refine aI [] ?_;rw[O,I];first|exact⟨by rw[TU E w4],rfl⟩|exact⟨by rw[←TV E w4],rfl⟩
 refine bg [4,5,6] ?_;refine aI [] ?_;rw[O,I];first|exact⟨by rw[TU E w4],rfl⟩|exact⟨by rw[←TV E w4],rfl⟩

end Go.Proofs.YtdgichenhdikgaaGreatDoor.Tw
namespace Go.Proofs.YtdgichenhdikgaaGreatDoor.Tw
open List
open Go.Proofs.Tryz
open Go.RowKit V Tr Pk
abbrev lV(ls:List Int)(ad:Option Addr)(cap:Nat)(S:List ah):Prop:=bn 3 1 (ls.flatMap cI) ls.length ad cap S
abbrev oT(ls:List K)(ad:Option Addr)(cap:Nat)(S:List ah):Prop:=bn 88 1 (ls.flatMap cK) ls.length ad cap S
variable {G:List (Nat×List Value)}
theorem abD:(Tryz.prog.info? 5).map (fun i=>(i.zero,i.size,i.bytes))=some (some (.int .u8 0),1,1):=by kernel_rfl
theorem j3(a:List UInt8)(ha:a.length≤1000000):VP Tryz.prog G 95 [av 1 cB a] (av 1 cB a):=by
 refine VC.body func95 rfl ntmps95 aR fun X0 w0 aZ=>?_;have dm:=ec;refine af [0] ?_;refine aD 1 ?_;refine OD.zm ap rfl rfl ot bI underlying88 (fun O xX=>?_);refine an 8 [0,4] ?_;refine au ?_ ?_<;>intro aM bD
 ·exact z91
 refine bY ?_;refine OD.zn ap rfl rfl runUnderlying88 sizeOf5 (fun b5=>?_);refine aE 1 ?_;refine OD.pz (ls:=([]:List UInt8)) (new:=a) (Sq:=[⟨b5,5,0*1,[]⟩]) pG wM ap rfl rfl underlying88 abD rfl w7 runUnderlying88 sizeOf5 ot (.inr ⟨b5,rfl,Nat.le_refl _,Nat.zero_le _,rfl⟩) (de (A:=[])) ot iq iq (fun E I S7 p8=>?_);exact Wb
theorem abE:(Tryz.prog.info? 3).map (fun i=>(i.zero,i.size,i.bytes))=some (some (.int .i64 0),1,8):=by kernel_rfl
theorem nY(a:List Int)(ha:a.length≤1000000):VC Tryz.prog G 120 [av 1 cI a] [] (fun r S=>∃ad cap,r=aN ad a.length cap∧lV a ad cap S):=by
 refine VC.body func120 rfl ntmps120 aR fun X0 w0 aZ=>?_;have dm:=ec;refine af [0] ?_;refine aD 1 ?_;refine OD.zm ap rfl rfl ot bI underlying67 (fun O xX=>?_);refine an 8 [0,4] ?_;refine au ?_ ?_<;>intro aM bD
 ·exact Hh
 refine bY ?_;refine OD.zn ap rfl rfl runUnderlying67 sizeOf3 (fun b5=>?_);refine aE 1 ?_;refine OD.pz (ls:=([]:List Int)) (new:=a) (Sq:=[⟨b5,3,0*1,[]⟩]) eC nF ap rfl rfl underlying67 abE rfl w7 runUnderlying67 sizeOf3 ot (.inr ⟨b5,rfl,Nat.le_refl _,Nat.zero_le _,rfl⟩) (de (A:=[])) ot iq iq (fun E I S7 p8=>?_);exact Hj
theorem aam:(Tryz.prog.info? 88).map (fun i=>(i.zero,i.size,i.bytes))=some (some (.slice none 0 0),1,24):=by kernel_rfl
theorem wm(a:List K)(ha:a.length≤1000000):VC Tryz.prog G 150 [av 1 cK a] [] (fun r S=>∃ad cap,r=aN ad a.length cap∧oT a ad cap S):=by
 refine VC.body func150 rfl ntmps150 aR fun X0 w0 aZ=>?_;have dm:=ec;refine af [0] ?_;refine aD 1 ?_;refine OD.zm ap rfl rfl ot bI underlying151 (fun O xX=>?_);refine an 8 [0,4] ?_;refine au ?_ ?_<;>intro aM bD
 ·exact Hh
 refine bY ?_;refine OD.zn ap rfl rfl runUnderlying151 sizeOf88 (fun b5=>?_);refine aE 1 ?_;refine OD.pz (ls:=([]:List K)) (new:=a) (Sq:=[⟨b5,88,0*1,[]⟩]) gl pI ap rfl rfl underlying151 aam rfl w7 runUnderlying151 sizeOf88 ot (.inr ⟨b5,rfl,Nat.le_refl _,Nat.zero_le _,rfl⟩) (de (A:=[])) ot iq iq (fun E I S7 p8=>?_);exact Hj

structure aB where
 p:da
 ak:Option Addr
 ck:Nat
 sk:List ah
 ai:Option Addr
 ci:Nat
 si:List ah
def gO(o:aB):List D:=[cj o.p.leaf,aN o.ak o.p.keys.length o.ck,aN o.ai o.p.kids.length o.ci,av 1 cB o.p.high,ae o.p.next]
theorem gk(o:aB):(gO o).length=5:=rfl
theorem uV(o:aB):(gO o).all V.one=true:=rfl
def bO(o:aB):List ah:=o.sk++o.si
def qR(o:aB):Prop:=oT o.p.keys o.ak o.ck o.sk∧lV o.p.kids o.ai o.ci o.si
theorem TW{S:List ah}:∀{L:List aB},(∀o∈L,qR o)→(∀B∈L.flatMap bO,B∈S)→gF S (L.flatMap gO) ((L.map aB.p).flatMap cP)
 | [],_,_=>trivial
 | o::L,h,hs=>by
  rw[map_cons,flatMap_cons,flatMap_cons];obtain⟨h1,h2⟩:=h o mem_cons_self;refine gF.append ⟨eR,lK h1 (cr gl _) (fun B E=>hs B ?_),lK h2 (cr eC _) (fun B E=>hs B ?_),eR,eR,trivial⟩ (TW (fun o ho=>h o (mem_cons_of_mem _ ho)) fun B E=>hs B ?_)
  ·rw[flatMap_cons];exact mem_append_left _ (mem_append_left _ E)
  ·rw[flatMap_cons];exact mem_append_left _ (mem_append_right _ E)
  rw[flatMap_cons];exact mem_append_right _ E
abbrev uf(L:List aB)(ad:Option Addr)(cap:Nat)(S:List ah):Prop:=bn 153 5 (L.flatMap gO) L.length ad cap S
theorem KG{S Sx:List ah}{L:List aB}{ad:Option Addr}{cap:Nat}{root:Int}(ho:uf L ad cap Sx)(h:∀o∈L,qR o)(hs:∀B∈Sx++L.flatMap bO,B∈S) :
  View S (.agg [aN ad L.length cap,ae root]) (.agg (cT ⟨L.map aB.p,root⟩)):=by
 refine uM ⟨?_,eR,trivial⟩;have:=Be ho (TW h fun B E=>hs B (mem_append_right _ E)) (cr FO _ |>.trans bf) (fun B E=>hs B (mem_append_left _ E));first|rw[length_map]|(show View _ _ (.list _ _ (length _));rw[length_map])|(show View _ _ (.agg [.list _ _ (length _)]);rw[length_map])
 exact this
def GK(t:aG)(r:D)(S:List ah):Prop:=∃L ad cap Sx,r = .agg [aN ad (length L) cap,ae t.root]∧uf L ad cap Sx∧(∀o∈L,qR o)∧L.map aB.p=t.ag∧S=Sx++L.flatMap bO
theorem SM(L:List aB)(o:aB):(L++[o]).flatMap bO=L.flatMap bO++bO o:=by simp
theorem py{α:Type}{l:List α}{j:Nat}(h:j<l.length):take j l++[l[j]]=take (j+1) l:=(take_succ_eq_append_getElem h).symm
theorem aan:(Tryz.prog.info? 88).map (fun i=>(i.zero,i.size,i.bytes))=some (some (.slice none 0 0),1,24):=by kernel_rfl
theorem ZF:(Tryz.prog.info? 153).map (fun i=>(i.zero,i.size,i.bytes))=some (some (.agg #[.bool false,.slice none 0 0,.slice none 0 0,.slice none 0 0,.int .i64 0]),5,88):=by kernel_rfl
theorem OR : ∀ w, ((#[{ name := "Leaf", type := 4, offset := 0, embedded := false, tag := "", pkgPath := "", byteOffset := 0 }, { name := "Keys", type := 151, offset := 1, embedded := false, tag := "", pkgPath := "", byteOffset := 8 }, { name := "Kids", type := 67, offset := 2, embedded := false, tag := "", pkgPath := "", byteOffset := 32 }, { name := "High", type := 88, offset := 3, embedded := false, tag := "", pkgPath := "", byteOffset := 56 }, { name := "Next", type := 3, offset := 4, embedded := false, tag := "", pkgPath := "", byteOffset := 80 }] : Array Field).mapM fun f => do pure (f.offset, ← sizeOf f.type) : Sem (Array (Nat × Nat))).run Tryz.prog w = .ok #[(0, 1), (1, 1), (2, 1), (3, 1), (4, 1)] w := fun w => by simp [sizeOf151, sizeOf3, sizeOf4, sizeOf67, sizeOf88]
theorem FP(t:aG)(h:Nat)(v:Valid t h):VC Tryz.prog G 121 [.agg (cT t)] [] (GK t):=by
 refine VC.body func121 rfl ntmps121 aR fun X0 w0 aZ=>?_;unfold cT;have dm:=ec;have hval:=v;have Oc:=v.nO;refine bY ?_;refine OD.box (ds:=[_,_]) ap rfl rfl ot rfl rfl (fun b1=>?_);refine OD.alloc (ds:=[_,_]) ap rfl rfl zeroValue51 rfl (fun b2=>?_);refine an 51 [1,2] ?_;refine aD 3 ?_;refine OD.alloc (ds:=[_,_]) ap rfl rfl zeroValue51 rfl (fun b3=>?_);refine aP 0 [_,_] sizeOf51 ?_;refine an 51 [1,2,3] ?_;refine af [2,3,13,14,15] ?_;refine eA [2,3,13,14] (fun aU _ (E:Nat×List aB×Option Addr×Nat×List ah) aH=>match E with|(i,L,dg,cR,Sx)=>(i≤t.ag.length)∧(L.map aB.p=t.ag.take i)∧(∀o∈L,qR o)∧(uf L dg cR Sx)∧aH=(⟨51,(15,ae (i:Nat))::aU,(⟨b3,51,2,[aN dg L.length cR,ae t.root]⟩::⟨b2,51,2,[cf,ae 0]⟩::(Sx++L.flatMap bO))⟩:St)) (fun (E:Nat×List aB×Option Addr×Nat×List ah)=>match E with|(i,L,dg,cR,Sx)=>t.ag.length-i) (0,([]:List aB),none,0,[]) ⟨(Nat.zero_le _),rfl,(fun o h=>by cases h),iv,rfl⟩ ?_;rintro⟨i,L,dg,cR,Sx⟩ _ ⟨hi,hL,aQ,dW,rfl⟩;refine af [2,3,13,14,15,16] ?_;refine au ?_ ?_<;>intro aM bD
 ·have aa:i<t.ag.length:=(by omega)
  have po:=v.fF _ (getElem_mem aa);have rO:L.length=i:=(by have:=congrArg length hL;rw[length_map,length_take] at this;omega)
  have mN:=po.eJ;have YR:=po.hlen;have Ge:(t.ag[i]'aa).kids.length≤5:=by
      exact XW
  refine aD 2 ?_;refine OD.alloc (ds:=[_,_,_,_,_]) ap rfl rfl zeroValue153 rfl (fun b5=>?_);refine aP 0 [_,_,_,_,_] sizeOf153 ?_;refine an 51 [2,3,5,13,14,15] ?_;refine bY ?_;refine bg [2,3,5,6,13,14,15] ?_;refine af [2,3,5,6,13,14,15,20,21,22] ?_;refine CD.block ?_;refine mV (fun (E:Nat×Option Addr×Nat×List ah) aH=>match E with|(j,iC,iD,Sy)=>(j≤(t.ag[i]'aa).keys.length)∧(oT (take j (t.ag[i]'aa).keys) iC iD Sy)∧aH=(⟨51,[(2,dL b2),(3,dL b3),(5,dL b5),(6,aN iC (take j (t.ag[i]'aa).keys).length iD),(13,av 5 cP t.ag),(14,ae (t.ag.length:Nat)),(15,ae (i:Nat)),(20,.list 1 ((t.ag[i]'aa).keys.flatMap cK) (t.ag[i]'aa).keys.length),(21,ae ((t.ag[i]'aa).keys.length:Nat)),(22,ae (j:Nat))],(⟨b5,153,5,cP (t.ag[i]'aa)⟩::⟨b3,51,2,[aN dg L.length cR,ae t.root]⟩::⟨b2,51,2,[cf,ae 0]⟩::(Sy++(Sx++L.flatMap bO)))⟩:St)) (fun (E:Nat×Option Addr×Nat×List ah)=>match E with|(j,iC,iD,Sy)=>(t.ag[i]'aa).keys.length-j) (0,none,0,[]) ⟨(Nat.zero_le _),iv,rfl⟩ (aK (h:=by repeat (first|exact trivial|refine⟨(by (repeat (first|exact fD|(apply fV;focus (first|rfl|(simp;done)|(congr 2;omega)|(apply eK;exact py O)))|(apply fH;focus rfl)));done),?_⟩))) ?_;rintro⟨j,iC,iD,Sy⟩ _ ⟨hj,U,rfl⟩;refine af [2,3,5,6,13,14,15,20,21,22,23] ?_;refine au ?_ ?_<;>intro aY cy
  ·have O:j<(t.ag[i]'aa).keys.length:=(by omega)
   have Mc:=(po.lD _ (getElem_mem O)).2;refine af [2,3,5,6,8,13,14,15,20,21,22] ?_;refine dM 2 ?_;refine dQ call95 (j3 (t.ag[i]'aa).keys[j] w4) ?_;refine ei (bW 0 [_]) [.slice none 0 0] [_] zeroValue88 runUnderlying151 sizeOf88 (fun uD=>?_);refine fw 0 29 1 1 ?_;refine OD.ek (ls:=(take j (t.ag[i]'aa).keys)) (new:=[(t.ag[i]'aa).keys[j]]) (Sq:=Sy) gl pI ap rfl rfl underlying151 aan rfl w7 ot U (I9 (A:=[_,_,_])) ot bf vG iq (fun Z I L7 L8=>?_);refine OD.perm (Q8 (S1:=[⟨Z,88,I*1,flatMap cK ((take j (t.ag[i]'aa).keys)++[(t.ag[i]'aa).keys[j]])⟩]) (A:=[_,_,_])) ?_;refine an 51 [2,3,5,6,13,14,15,20,21,22] ?_;refine cm [2,3,5,6,13,14,15,20,21,22] ?_;refine⟨((j+1),(some ⟨Z,0,none⟩),I,[⟨Z,88,I*1,flatMap cK ((take j (t.ag[i]'aa).keys)++[(t.ag[i]'aa).keys[j]])⟩]),_,cD,(aK (h:=by repeat (first|exact trivial|refine⟨(by (repeat (first|exact fD|(apply fV;focus (first|rfl|(simp;done)|(congr 2;omega)|(apply eK;exact py O)))|(apply fH;focus rfl)));done),?_⟩))),w4,(bn.cast (bE L7 L8) (py O)),rfl⟩
  have hjt:take j (t.ag[i]'aa).keys=(t.ag[i]'aa).keys:=take_of_length_le w4;rw[hjt] at U ⊢;refine CD.exit ?_;refine fR 16 (aq (take 1 _)) ?_ (fun _ h=>(Sublist.map _ (take_sublist _ _)).subset h);refine az 0 rfl (dr 0) ?_;refine az 2 rfl (dr 0) ?_;refine az 3 rfl (dK 0) ?_;refine az 4 rfl bp ?_;refine az 5 rfl (dr 2) ?_;refine az 6 rfl (dK 0) ?_;refine az 8 rfl (dr 3) ?_;refine az 9 rfl (dK 0) ?_;refine az 11 rfl (dr 4) ?_;refine az 12 rfl (dK 0) ?_;refine dD.later rfl ?_;refine AD.two (i:=1) (j:=7) aA ?_ ?_
  ·refine at_ rfl (dK 1) ?_;refine AD.one (i:=7) aA ?_;refine bj.call rfl ap rfl rfl rfl call120 (nY (t.ag[i]'aa).kids w4) ⟨ot,trivial⟩ (eO _) (fun b hb=>by simp[aq,St.put] at hb ⊢;try simp[hb]) ?_;rintro _ Sz ⟨l5,l6,rfl,yo⟩;refine AD.perm (jk (A:=[_,_,_])) ?_;have vL:(L++[(⟨(t.ag[i]'aa),iC,iD,Sy,l5,l6,Sz⟩:aB)]).map aB.p=t.ag.take (i+1):=(by rw[map_append,hL];exact py aa)
   have jT:∀o∈L++[(⟨(t.ag[i]'aa),iC,iD,Sy,l5,l6,Sz⟩:aB)],qR o:=fun o ho=>by rcases mem_append.1 ho with ho|ho;exact aQ o ho;rw[mem_singleton] at ho;subst ho;exact⟨U,yo⟩
   exact V4
  refine bj.call rfl ap rfl rfl rfl call120 (nY (t.ag[i]'aa).kids w4) ⟨ot,trivial⟩ (eO _) (fun b hb=>by simp[aq,St.put] at hb ⊢;try simp[hb]) ?_;rintro _ Sz ⟨l5,l6,rfl,yo⟩;refine AD.perm (jk (A:=[_,_,_])) ?_;have vL:(L++[(⟨(t.ag[i]'aa),iC,iD,Sy,l5,l6,Sz⟩:aB)]).map aB.p=t.ag.take (i+1):=(by rw[map_append,hL];exact py aa)
  have jT:∀o∈L++[(⟨(t.ag[i]'aa),iC,iD,Sy,l5,l6,Sz⟩:aB)],qR o:=fun o ho=>by rcases mem_append.1 ho with ho|ho;exact aQ o ho;rw[mem_singleton] at ho;subst ho;exact⟨U,yo⟩
  refine AD.two (i:=1) (j:=10) aA ?_ ?_
  ·refine at_ rfl (dK 1) ?_;exact V4
  refine jJ call95 (j3 (t.ag[i]'aa).high w4) ?_;refine cA 13 rfl (nE (pl:=[(0,_),(1,_),(2,_),(3,_),(4,_)]) (ds:=[_,_,_,_,_]) rfl zeroValue153 runUnderlying153 OR ⟨rfl,ot,rfl,ot,rfl,ot,rfl,ot,rfl,ot,trivial⟩ rfl rfl) ?_;refine AD.two (i:=1) (j:=14) aA ?_ ?_
  ·refine at_ rfl (dK 1) ?_;refine AD.one (i:=14) aA ?_;refine js (bW 0 [_]) [.bool false,.slice none 0 0,.slice none 0 0,.slice none 0 0,.int .i64 0] [_,_,_,_,_] zeroValue153 runUnderlying49 sizeOf153 (fun AA=>?_);refine jt 0 46 5 1 ?_;exact M5
  refine js (bW 0 [_]) [.bool false,.slice none 0 0,.slice none 0 0,.slice none 0 0,.int .i64 0] [_,_,_,_,_] zeroValue153 runUnderlying49 sizeOf153 (fun AA=>?_);refine jt 0 46 5 1 ?_;refine AD.one (i:=1) aA ?_;refine at_ rfl (dK 1) ?_;exact M5
 refine aD 1 ?_;refine aP 1 [_,_] sizeOf51 ?_;refine an 51 [2] ?_;refine aI (Sx++L.flatMap bO) ?_;exact⟨L,dg,cR,Sx,rfl,dW,aQ,by rw[hL,take_of_length_le w4],rfl⟩

end Go.Proofs.YtdgichenhdikgaaGreatDoor.Tw

namespace Go.Proofs.YtdgichenhdikgaaGreatDoor.Tw
open List
open Go.Proofs.Tryz
open Go.RowKit V Go.Proofs.YtdgichenhdikgaaGreatDoor.Tr Pk
open Go.Lib (compareBytes)
variable {t:aG} {lv:List (List Int)} {level:Nat} {i:Int}
structure nI (t:aG) (s:jD):Prop where
 nd:s.1.Nodup
 rg:∀x∈s.1,0≤x∧x<t.ag.length
 eJ:s.2.length≤s.1.length
 each:∀l∈s.2,l.length≤s.1.length
 el:∀l∈s.2,∀x∈l,0≤x∧x<t.ag.length
theorem adk{n:Nat}{l:List Int}(h:l.Nodup)(hr:∀x∈l,0≤x∧x<n):l.length≤n:=by
 induction n generalizing l with
 | zero =>
  cases l with
  | nil=>simp
  | cons a l=>have:=hr a mem_cons_self;omega
 | succ n ih =>
  have h1:=ih (l:=l.erase (n:Int)) (h.erase _) fun x hx=>by
   have h2:=(h.mem_erase_iff).1 hx;have h3:=hr x h2.2;have:=h2.1;omega
  rw[length_erase] at h1;split at h1<;>omega
theorem nI.nO{s:jD}(h:nI t s):s.1.length≤t.ag.length:=adk h.nd h.rg
theorem abF{n:Nat}(h:∀l∈lv,l.length≤n):∀l∈kK lv level i,l.length≤n+1:=fun l hl=>by
 obtain⟨j,hj,rfl⟩:=mem_iff_getElem.1 hl;have e:(kK lv level i)[j]=(kK lv level i).getD j []:=(by rw[getD_eq_getElem?_getD,getElem?_eq_getElem hj];rfl)
 rw[e,Fv,length_append];have h1:(lv.getD j []).length≤n:=by
  rw[getD_eq_getElem?_getD];rcases Nat.lt_or_ge j lv.length with q|q
  ·rw[getElem?_eq_getElem q];exact h _ (getElem_mem q)
  rw[getElem?_eq_none q];simp
 split
 ·simp only[length_cons,length_nil];omega
 simp only[length_nil];omega
theorem ae4{Q:Int→Prop}(h:∀l∈lv,∀x∈l,Q x)(hi:Q i):∀l∈kK lv level i,∀x∈l,Q x:=fun l hl x hx=>by
 obtain⟨j,hj,rfl⟩:=mem_iff_getElem.1 hl;have e:(kK lv level i)[j]=(kK lv level i).getD j []:=(by rw[getD_eq_getElem?_getD,getElem?_eq_getElem hj];rfl)
 rw[e,Fv,mem_append] at hx;rcases hx with hx|hx
 ·rw[getD_eq_getElem?_getD] at hx;rcases Nat.lt_or_ge j lv.length with q|q
  ·rw[getElem?_eq_getElem q] at hx;exact h _ (getElem_mem q) x hx
  rw[getElem?_eq_none q] at hx;cases hx
 split at hx
 ·rw[mem_singleton] at hx;subst hx;exact hi
 cases hx
theorem nI.add{s:jD}(h:nI t s)(hi:0≤i∧i<t.ag.length)(hn:i∉s.1)(hl:level≤s.1.length):nI t (s.1++[i],kK s.2 level i):=by
 refine⟨?_,fun x hx=>?_,?_,?_,ae4 h.el hi⟩
 ·exact nodup_append.2 ⟨h.nd,by simp,fun a ha b hb e=>by rw[mem_singleton] at hb;subst hb;subst e;exact hn ha⟩
 ·rcases mem_append.1 hx with hx|hx
  ·exact h.rg x hx
  rw[mem_singleton] at hx;subst hx;exact hi
 ·show(kK s.2 level i).length≤(s.1++[i]).length;rw[Jn,length_append];have:=h.eJ;simp;omega
 show ∀l∈kK s.2 level i,l.length≤(s.1++[i]).length;rw[length_append];exact abF h.each
theorem RX{t:aG}{go:Int→K→K→jD→Option (Nat×jD)}{low:K}{p:da}{n:Nat}(E:∀(c:Int) lo hi s d s',(0≤c∧c<t.ag.length)→nI t s→n≤s.1.length→go c lo hi s=some (d,s')→nI t s'∧s.1.length≤s'.1.length) :
  ∀(cs:List Int) (k:Nat) (deep:Option Nat) (s:jD) (d:Nat) (s':jD),(∀c∈cs,0≤c∧c<t.ag.length)→nI t s→n≤s.1.length→lR go low p cs k deep s=some (d,s')→nI t s'∧s.1.length≤s'.1.length
 | [],k,deep,s,d,s',_,hs,_,h=>by
  rw[lR] at h;cases deep with
  | none=>cases h
  | some e=>simp at h;rw[←h.2];exact⟨hs,Nat.le_refl _⟩
 | c::cs,k,deep,s,d,s',hc,hs,hn,h=>by
  rw[lR] at h;cases hg:go c (iu low p k) (gY p k) s with
  | none=>rw[hg] at h;cases h
  | some q =>
   obtain⟨d1,s1⟩:=q;rw[hg] at h;obtain⟨h1,h2⟩:=E _ _ _ _ _ _ (hc c mem_cons_self) hs hn hg;change (if deep=none∨deep=some d1 then lR go low p cs (k+1) (some d1) s1 else none)=_ at h;split at h
   ·obtain⟨h3,h4⟩:=RX E cs _ _ _ _ _ (fun c uC=>hc c (mem_cons_of_mem _ uC)) h1 w4 h;exact⟨h3,by omega⟩
   cases h
theorem Qm{p:da}(hp:eG p t.ag.length)(hl:p.leaf=false):∀c∈p.kids,0≤c∧c<t.ag.length:=fun c hc=>⟨hp.aC c hc,hp.vr hl c hc⟩
theorem J8{t:aG}(hp:uS t):∀(f:Nat) (i:Int) (lo hi:K) (level:Nat) (s:jD) (d:Nat) (s':jD),(0≤i∧i<t.ag.length)→nI t s→level≤s.1.length→jq t f i lo hi level s=some (d,s')→nI t s'∧s.1.length≤s'.1.length
 | 0,i,lo,hi,level,s,d,s',_,_,_,h=>by rw[jq] at h;cases h
 | f+1,i,lo,hi,level,s,d,s',hr,hs,hl,h=>by
  rw[jq] at h;split at h
  ·cases h
  rename_i hn;split at h
  ·cases h
  have ha:=hs.add hr hn hl;have hlen:s.1.length+1=(s.1++[i]).length:=(by simp)
  split at h
  ·simp at h;rw[←h.2];exact⟨ha,by show s.1.length≤(s.1++[i]).length;omega⟩
  rename_i fL;have fL:(t.pg i).leaf=false:=(by simpa using fL)
  obtain⟨h1,h2⟩:=RX (n:=level+1) (fun c lo hi s d s' hc hs hn h=>J8 hp f c lo hi (level+1) s d s' hc hs hn h) _ _ _ _ _ _ (Qm (hp _ (jF hr)) fL) ha (by show level+1≤(s.1++[i]).length;omega) h;have h3:(s.1++[i]).length≤s'.1.length:=h2;exact⟨h1,by omega⟩
structure dJ where
 l:List Int
 ad:Option Addr
 cp:Nat
 s:List ah
variable {L:List dJ}
def gV(o:dJ):List D:=[aN o.ad o.l.length o.cp]
theorem wQ(o:dJ):(gV o).length=1:=rfl
theorem agv(o:dJ):(gV o).all V.one=true:=rfl
def mW(o:dJ):Prop:=lV o.l o.ad o.cp o.s
def ru:dJ:=⟨[],none,0,[]⟩
theorem ae5:mW ru:=.inl ⟨rfl,rfl,rfl,rfl,rfl⟩
abbrev zT(L:List dJ)(ad:Option Addr)(cap:Nat)(S:List ah):Prop:=bn 67 1 (L.flatMap gV) L.length ad cap S
def WA(t:aG)(b bm:Nat)(n:Nat)(ad:Option Addr)(cap:Nat):ah:=⟨b,159,4,[av 5 cP t.ag,ae t.root,.v (.map (some bm)),aN ad n cap]⟩
def SW(t:aG)(b bm:Nat)(m:List Int)(L:List dJ)(ad:Option Addr)(cap:Nat)(Sx:List ah):List ah:=WA t b bm L.length ad cap::kX bm m::(Sx++L.flatMap dJ.s)
def WB(t:aG)(b bm:Nat):Option (Nat×jD)→D→List ah→Prop
 | none,r,S=>r = .v (.int .i64 (-1))∧S=[]
 | some (d,s),r,S=>r = .v (.int .i64 (d:Nat))∧∃L ad cap Sx,zT L ad cap Sx∧(∀o∈L,mW o)∧L.map dJ.l=s.2∧S=SW t b bm s.1 L ad cap Sx
theorem y6{α:Type}(g:α→List ah):∀{L:List α} {j:Nat} (h:j<L.length),(L.flatMap g).Perm (g L[j]++(L.eraseIdx j).flatMap g)
 | a::L,0,_=>by simp
 | a::L,j+1,h=>by
  have E:=y6 g (L:=L) (j:=j) oY;simp only[flatMap_cons,getElem_cons_succ,eraseIdx_cons_succ];refine(E.append_left (g a)).trans ?_;rw[←append_assoc,←append_assoc];exact List.perm_append_comm.append_right _
theorem qT{α:Type}(g:α→List ah){L:List α}{j:Nat}(h:j<L.length)(a:α):((L.set j a).flatMap g).Perm (g a++(L.eraseIdx j).flatMap g):=by
 have:=y6 g (L:=L.set j a) (j:=j) (by rw[length_set];exact h);rw[getElem_set_self,eraseIdx_set_eq] at this;exact this
def sA:Option Nat→Int
 | none=>-2
 | some d=>d
variable {G:List (Nat×List Value)}

theorem agw{f:Nat}{low high:K}{s:jD}(h:i∈s.1):jq t (f+1) i low high level s=none:=by rw[jq,if_pos h]
theorem TX{f:Nat}{low high:K}{s:jD}(h:((t.pg i).high≠high∨∃k,(t.pg i).keys.head?=some k∧bB k low)):jq t (f+1) i low high level s=none:=by
 rw[jq];by_cases hi:i∈s.1
 ·rw[if_pos hi]
 rw[if_neg hi,if_pos h]
theorem adm{f:Nat}{low high:K}{s:jD}(h:i∉s.1)(h2:¬((t.pg i).high≠high∨∃k,(t.pg i).keys.head?=some k∧bB k low))(h3:(t.pg i).leaf=true):jq t (f+1) i low high level s=some (level,(s.1++[i],kK s.2 level i)):=by rw[jq,if_neg h,if_neg h2,if_pos h3]
theorem adn{f:Nat}{low high:K}{s:jD}(h:i∉s.1)(h2:¬((t.pg i).high≠high∨∃k,(t.pg i).keys.head?=some k∧bB k low))(h3:(t.pg i).leaf=false):jq t (f+1) i low high level s=lR (fun c lo hi s=>jq t f c lo hi (level+1) s) low (t.pg i) (t.pg i).kids 0 none (s.1++[i],kK s.2 level i):=by rw[jq,if_neg h,if_neg h2,if_neg (by rw[h3];decide)]
section
variable {go:Int→K→K→jD→Option (Nat×jD)} {low:K} {p:da} {k:Nat} {deep:Option Nat} {s s':jD} {d:Nat}
theorem abG(hk:k<p.kids.length)(h:go p.kids[k] (iu low p k) (gY p k) s=none):lR go low p (p.kids.drop k) k deep s=none:=by rw[drop_eq_getElem_cons hk,lR,h]
theorem Qn(hk:k<p.kids.length)(h:go p.kids[k] (iu low p k) (gY p k) s=some (d,s'))(hd:deep=none∨deep=some d):lR go low p (p.kids.drop k) k deep s=lR go low p (p.kids.drop (k+1)) (k+1) (some d) s':=by
 rw[drop_eq_getElem_cons hk,lR,h];show(if deep=none∨deep=some d then _ else _)=_;rw[if_pos hd]
theorem adp(hk:k<p.kids.length)(h:go p.kids[k] (iu low p k) (gY p k) s=some (d,s'))(hd:¬(deep=none∨deep=some d)):lR go low p (p.kids.drop k) k deep s=none:=by
 rw[drop_eq_getElem_cons hk,lR,h];show(if deep=none∨deep=some d then _ else _)=_;rw[if_neg hd]
theorem adq(hk:p.kids.length≤k):lR go low p (p.kids.drop k) k deep s=deep.map fun d=>(d,s):=by rw[drop_of_length_le hk,lR]
end
theorem abH:(L++[ru]).flatMap dJ.s=L.flatMap dJ.s:=by simp[ru]
theorem ae6{E:List dJ}(h:E.map dJ.l=L.map dJ.l++replicate (E.length-L.length) [])(h1:L.length≤E.length)(h2:E.length≤max L.length (level+1))(h3:level<E.length):E.map dJ.l=sK (L.map dJ.l) (level+1):=by
 rw[h];unfold sK;rw[length_map,show E.length-L.length=level+1-L.length from by omega]
theorem J9{E:List dJ}{o:dJ}(h:E.map dJ.l=sK (L.map dJ.l) (level+1))(h3:level<E.length)(ho:o.l=E[level].l++[i]):(E.set level o).map dJ.l=kK (L.map dJ.l) level i:=by
 rw[map_set,ho];unfold kK;rw[←h,getD_eq_getElem?_getD,getElem?_eq_getElem (by rw[length_map];exact h3),getElem_map];rfl
theorem TY{j:Nat}{o:dJ}(h:∀o∈L,mW o)(ho:mW o):∀x∈L.set j o,mW x:=fun x hx=>by
 rcases mem_or_eq_of_mem_set hx with hx|rfl
 ·exact h x hx
 exact ho
theorem RY{deep:Option Nat}{d:Nat}(h:sA deep≠-2)(h2:(d:Int)=sA deep):deep=some d:=by
 cases deep with
 | none=>exact absurd rfl h
 | some e=>unfold sA at h2;simp only at h2;rw[show d=e from by omega]
theorem adr{deep:Option Nat}{d:Nat}(h:sA deep≠-2)(h2:¬(d:Int)=sA deep):¬(deep=none∨deep=some d):=by
 rintro(rfl|rfl)
 ·exact h rfl
 exact h2 rfl
theorem Qo{deep:Option Nat}(h:sA deep = -2):deep=none:=by
 cases deep with
 | none=>rfl
 | some e=>unfold sA at h;simp only at h;omega
def Vz(G:List (Nat×List Value))(t:aG)(b bm f:Nat):Prop:=∀(i:Int) (low high:K) (level:Nat) (m:List Int) (L:List dJ) (ad:Option Addr) (cap:Nat) (Sx:List ah),(0≤i∧i<t.ag.length)→nI t (m,(L.map dJ.l))→level≤m.length→t.ag.length+1≤f+m.length→high.length≤100→zT L ad cap Sx→(∀o∈L,mW o) →
 VC Tryz.prog G 92 [dL b,ae i,av 1 cB low,av 1 cB high,ae (level:Nat)] (SW t b bm m L ad cap Sx) (WB t b bm (jq t f i low high level (m,(L.map dJ.l))))

theorem Qp:(Tryz.prog.info? 3).map (fun i=>(i.zero,i.size,i.bytes))=some (some (.int .i64 0),1,8):=by kernel_rfl

theorem aao:(Tryz.prog.info? 67).map (fun i=>(i.zero,i.size,i.bytes))=some (some (.slice none 0 0),1,24):=by kernel_rfl

theorem abI(t:aG)(hp:uS t)(ry:t.ag.length≤4000)(b bm f:Nat)(ih:Vz G t b bm f)(i:Int)(low high:K)(level:Nat)(m:List Int)(L:List dJ)(ad:Option Addr)(cap:Nat)(Sx:List ah)(hr:0≤i∧i<t.ag.length)(GL:nI t (m,(L.map dJ.l)))(hlm:level≤m.length)(hfu:t.ag.length+1≤(f+1)+m.length)(YS:high.length≤100)(mS:zT L ad cap Sx)(aQ:∀o∈L,mW o) :
 VC Tryz.prog G 92 [dL b,ae i,av 1 cB low,av 1 cB high,ae (level:Nat)] (SW t b bm m L ad cap Sx) (WB t b bm (jq t (f+1) i low high level (m,(L.map dJ.l)))):=by
 refine VC.body func92 rfl ntmps92 aR fun X0 w0 aZ=>?_;unfold SW WA;have dm:=ec;have aa:i.toNat<t.ag.length:=(by omega)
 have qf:t.pg i=(t.ag[i.toNat]'aa):=ve hr;have po:eG (t.ag[i.toNat]'aa) t.ag.length:=hp _ (getElem_mem aa);have YR:=po.hlen;have Ns:=GL.nO;have DC:m.length≤t.ag.length:=Ns;refine af [0,1,2,3,4] ?_;refine aD 5 ?_;refine bN (aa1 (i:=1) rfl ot ot rfl underlying156 underlying3 zeroValue203) ?_;refine aE 3 ?_;refine OD.alloc (ds:=[]) ap rfl rfl zeroValue203 rfl (fun jN=>?_);refine aP 0 [] sizeOf203 ?_;refine an 148 [0,1,2,3,4,12] ?_;refine af [0,1,2,3,4,29] ?_;refine au ?_ ?_<;>intro aM bD
 ·have kj:i∈m:=(by simpa using aM)
  refine af [10] ?_;refine aI [] ?_;rw[agw (by exact kj)];exact⟨rfl,rfl⟩
 have qa:i∉m:=(by simpa using aM)
 refine aD 6 ?_;refine OD.addKey (i:=2) ap rfl rfl ot ot ot rfl qa underlying156 underlying3 ?_;refine an 148 [0,1,2,3,4] ?_;refine aD 6 ?_;refine bN (dF 5 (h:=by first|exact .l (j:=i.toNat) (Int.toNat_of_nonneg hr.1).symm aa|exact .r (j:=i.toNat) (Int.toNat_of_nonneg hr.1).symm aa)) ?_;refine aE 1 ?_;refine OD.alloc (ds:=[_,_,_,_,_]) ap rfl rfl zeroValue153 rfl (fun mB=>?_);refine aP 0 [_,_,_,_,_] sizeOf153 ?_;refine an 148 [0,1,2,3,4,13] ?_;refine jB [0,1,2,3,4] (fun aU _ aH=>∃(mB:Nat),(¬((t.pg i).high≠high∨∃k,(t.pg i).keys.head?=some k∧bB k low))∧aH=(⟨148,(13,dL mB)::aU,(⟨mB,153,5,cP (t.ag[i.toNat]'aa)⟩::⟨b,159,4,[av 5 cP t.ag,ae t.root,.v (.map (some bm)),aN ad L.length cap]⟩::kX bm (m++[i])::(Sx++L.flatMap dJ.s))⟩:St)) ?_ ?_
 ·refine aD 3 ?_;refine dQ call133 (Vw (t.ag[i.toNat]'aa).high high w4 w4) ?_;refine aE 2 ?_;refine bV 49 (fun CB ahX=>?_) (fun CB ahX=>?_)
  ·refine an 148 [0,1,2,3,4,13,63] ?_;refine eI ?_;have oq:((t.pg i).high≠high∨∃k,(t.pg i).keys.head?=some k∧bB k low):=(by rw[qf];first|exact .inl (by simpa using CB)|exact .inr ⟨_,head?_eq_getElem? .. ▸ getElem?_eq_getElem w4,of_decide_eq_true aY⟩)
   refine af [10] ?_;refine aI [] ?_;rw[TX oq];exact⟨rfl,rfl⟩
  refine aE 5 ?_;refine bV 54 (fun zH zj=>?_) (fun zH zj=>?_)
  ·refine aE 2 ?_;refine OD.still gW rfl (oM (mk:=Op.indexAddr 151) rfl ot bI (by first|exact pD (j:=0) runUnderlying151 sizeOf88 rfl An|exact pH (j:=0) runUnderlying151 sizeOf88 rfl An)) ?_;refine aE 2 ?_;refine OD.gM gW rfl rfl rfl call51 (wI ((t.ag[i.toNat]'aa).keys[0]'w4) low) ⟨ot,ot,trivial⟩ ?_;refine an 148 [0,1,2,3,4,13,63] ?_;refine au ?_ ?_<;>intro aY cy
   ·have oq:((t.pg i).high≠high∨∃k,(t.pg i).keys.head?=some k∧bB k low):=(by rw[qf];first|exact .inl (by simpa using CB)|exact .inr ⟨_,head?_eq_getElem? .. ▸ getElem?_eq_getElem w4,of_decide_eq_true aY⟩)
    refine af [10] ?_;refine aI [] ?_;rw[TX oq];exact⟨rfl,rfl⟩
   have oh:¬((t.pg i).high≠high∨∃k,(t.pg i).keys.head?=some k∧bB k low):=(by rw[qf];rintro(h|⟨k,hk,vl⟩);exact h (by simpa using CB);first|(rw[head?_eq_getElem?,getElem?_eq_none w4] at hk;cases hk;done)|(rw[head?_eq_getElem?,getElem?_eq_getElem w4] at hk;cases hk;exact of_decide_eq_false aY vl))
   refine CD.skip ?_;refine⟨_,aK,mB,oh,rfl⟩
  refine an 148 [0,1,2,3,4,13,63] ?_;refine fM ?_;have oh:¬((t.pg i).high≠high∨∃k,(t.pg i).keys.head?=some k∧bB k low):=(by rw[qf];rintro(h|⟨k,hk,vl⟩);exact h (by simpa using CB);first|(rw[head?_eq_getElem?,getElem?_eq_none w4] at hk;cases hk;done)|(rw[head?_eq_getElem?,getElem?_eq_getElem w4] at hk;cases hk;exact of_decide_eq_false aY vl))
  refine CD.skip ?_;refine⟨_,aK,mB,oh,rfl⟩
 rintro _ ⟨mB,oh,rfl⟩;refine eA [0,1,2,3,4,13] (fun aU _ (kJ:List dJ×Option Addr×Nat×List ah) aH=>match kJ with|(I,HM,Z,DF)=>(zT I HM Z DF)∧(∀o∈I,mW o)∧(I.map dJ.l=L.map dJ.l++replicate (I.length-L.length) [])∧(L.length≤I.length)∧(I.length≤max L.length (level+1))∧aH=(⟨148,aU,(⟨mB,153,5,cP (t.ag[i.toNat]'aa)⟩::⟨b,159,4,[av 5 cP t.ag,ae t.root,.v (.map (some bm)),aN HM I.length Z]⟩::kX bm (m++[i])::(DF++I.flatMap dJ.s))⟩:St)) (fun (kJ:List dJ×Option Addr×Nat×List ah)=>match kJ with|(I,HM,Z,DF)=>level+1-I.length) (L,ad,cap,Sx) ⟨mS,aQ,bf,(Nat.le_refl _),w4,rfl⟩ ?_;rintro⟨I,HM,Z,DF⟩ _ ⟨WD,pV,WE,akm,akn,rfl⟩;refine af [0,1,2,3,4,13,70] ?_;refine au ?_ ?_<;>intro bZ cN
 ·have mN:=GL.eJ;have mN:L.length≤m.length:=(by simpa using mN)
  have E:I.length≤level:=(by omega)
  refine dM 5 ?_;refine ei (bW 0 [_]) [.slice none 0 0] [_] zeroValue67 runUnderlying157 sizeOf67 (fun b76=>?_);refine fw 0 76 1 1 ?_;refine OD.ek (ls:=I) (new:=[ru]) (Sq:=DF) wQ agv ap rfl rfl underlying157 aao rfl w7 ot WD (oN (A:=[_,_,_])) ot bf GZ GZ (fun Oe Md ako akp=>?_);refine OD.perm (jk (S1:=[⟨Oe,67,Md*1,flatMap gV (I++[ru])⟩]) (A:=[_,_,_])) ?_;rw[←abH (L:=I)];refine aE 2 ?_;refine aP 1 [_,_,_,_] sizeOf157 ?_;refine an 148 [0,1,2,3,4,13] ?_;refine⟨((I++[ru]),(some ⟨Oe,0,none⟩),Md,[⟨Oe,67,Md*1,flatMap gV (I++[ru])⟩]),_,(by (show level+1-(I++[ru]).length<level+1-I.length;rw[length_append,show[ru].length=1 from rfl];omega)),aK,(bE ako akp),(fun o ho=>by rcases mem_append.1 ho with ho|ho;exact pV o ho;rw[mem_singleton] at ho;subst ho;exact ae5),(by rw[map_append,WE,append_assoc,length_append,show[ru].length=1 from rfl,show I.length+1-L.length=I.length-L.length+1 from by omega,replicate_succ'];rfl),vD,(by rw[length_append,show[ru].length=1 from rfl];omega),rfl⟩
 have E:level<I.length:=(by omega)
 have zU:=ae6 WE akm akn E;obtain⟨bv,rfl,CA,B6,rfl⟩:=WD.pos w4;have dW:mW (I[level]'E):=pV _ (getElem_mem E);have me:(I[level]'E).l.length≤m.length:=by
    have hz:(I[level]'E).l=(sK (L.map dJ.l) (level+1)).getD level []:=(by rw[←zU,getD_eq_getElem?_getD,getElem?_eq_getElem (by rw[length_map];exact E),getElem_map];rfl)
    rw[hz,J7,getD_eq_getElem?_getD];rcases Nat.lt_or_ge level (L.map dJ.l).length with q|q
    ·rw[getElem?_eq_getElem q];exact GL.each _ (getElem_mem q)
    rw[getElem?_eq_none q];simp
 refine CD.perm (Perm.cons _ (Perm.cons _ (Perm.cons _ ((y6 dJ.s E).append_left _)))) ?_;refine CD.exit ?_;refine CD.seq ?_;refine CD.mono (Q:=fun aU aH=>aU=Exit.normal∧∃(o2:dJ),(mW o2)∧(o2.l=(I[level]'E).l++[i])∧Wk aH (⟨148,[(0,dL b),(2,av 1 cB low),(3,av 1 cB high),(4,ae (level:Nat)),(13,dL mB)],(⟨mB,153,5,cP (t.ag[i.toNat]'aa)⟩::⟨b,159,4,[av 5 cP t.ag,ae t.root,.v (.map (some bm)),aN (some ⟨bv,0,none⟩) (I.set level o2).length Z]⟩::kX bm (m++[i])::([⟨bv,67,Z*1,flatMap gV (I.set level o2)⟩]++(I.set level o2).flatMap dJ.s))⟩:St)) ?_ ?_
 ·refine CD.draw (aq (take 3 _)) aA (fun _ h=>(Sublist.map _ (take_sublist _ _)).subset h) ?_;refine az 0 rfl bp ?_;refine az 1 rfl lZ ?_;refine az 2 rfl (dr 3) ?_;refine az 3 rfl (dK 1) ?_;refine az 4 rfl bp ?_;refine az 5 rfl bp ?_;refine az 6 rfl lZ ?_;refine az 7 rfl (dr 3) ?_;refine az 8 rfl (dK 1) ?_;refine az 9 rfl bp ?_;refine az 10 rfl (dF 1) ?_;refine az 12 rfl bp ?_;refine dD.later rfl ?_;refine AD.two (i:=11) (j:=13) aA ?_ ?_
  ·refine at_ rfl (cW (mk:=Op.load 67) rfl ot (iY (k:=3) (d:=aN (I[level]'E).ad (I[level]'E).l.length (I[level]'E).cp) (i:=level) wQ rfl rfl rfl isAgg67 E rfl)) ?_;refine AD.one (i:=13) aA ?_;refine js (bW 0 [_]) [.int .i64 0] [_] zeroValue3 runUnderlying67 sizeOf3 (fun AP=>?_);refine jt 0 93 1 1 ?_;refine AD.one (i:=14) aA ?_;refine bj.ek (ls:=(I[level]'E).l) (new:=[i]) (Sq:=(I[level]'E).s) eC nF rfl ap rfl rfl underlying67 Qp rfl w7 ot dW (tw (A:=[_,_,_]) (S1:=[⟨bv,67,Z*1,flatMap gV I⟩])) ot bf w9 lY (fun U O Me Mf=>?_);refine AD.perm (wu (S2:=[⟨U,3,O*1,flatMap cI ((I[level]'E).l++[i])⟩]) (A:=[_,_,_])) ?_;refine cA 15 rfl (dF 1) ?_;refine AD.one (i:=16) aA ?_;refine bj.storeAt (k:=3) (cs':=flatMap gV (I.set level (⟨(I[level]'E).l++[i],some ⟨U,0,none⟩,O,[⟨U,3,O*1,flatMap cI ((I[level]'E).l++[i])⟩]⟩:dJ))) rfl ap rfl rfl ot rfl rfl ot rfl rfl sizeOf67 rfl (by show 0+level*1+1≤(flatMap gV I).length;rw[cr wQ];omega) (by rw[Nat.zero_add];exact oP wQ I (⟨(I[level]'E).l++[i],some ⟨U,0,none⟩,O,[⟨U,3,O*1,flatMap cI ((I[level]'E).l++[i])⟩]⟩:dJ) E) iB ?_
   refine AD.wk (y:=⟨148,[(0,_),(2,_),(3,_),(4,_),(13,_)],(⟨mB,153,5,[_,_,_,_,_]⟩::⟨b,159,4,[_,_,_,_]⟩::_::([⟨bv,67,Z*1,flatMap gV (I.set level (⟨(I[level]'E).l++[i],some ⟨U,0,none⟩,O,[⟨U,3,O*1,flatMap cI ((I[level]'E).l++[i])⟩]⟩:dJ))⟩]++([⟨U,3,O*1,flatMap cI ((I[level]'E).l++[i])⟩]++((I.eraseIdx level).flatMap dJ.s))))⟩) (Wk.dV rfl rfl fk) rfl ?_;refine AD.done aA ?_;exact⟨rfl,(⟨(I[level]'E).l++[i],some ⟨U,0,none⟩,O,[⟨U,3,O*1,flatMap cI ((I[level]'E).l++[i])⟩]⟩:dJ),bE Me Mf,rfl,by rw[length_set];exact Wk.perm (Perm.cons _ (Perm.cons _ (Perm.cons _ ((qT dJ.s E (⟨(I[level]'E).l++[i],some ⟨U,0,none⟩,O,[⟨U,3,O*1,flatMap cI ((I[level]'E).l++[i])⟩]⟩:dJ)).symm.append_left _))))⟩
  refine js (bW 0 [_]) [.int .i64 0] [_] zeroValue3 runUnderlying67 sizeOf3 (fun AP=>?_);refine jt 0 93 1 1 ?_;refine AD.one (i:=11) aA ?_;refine at_ rfl (cW (mk:=Op.load 67) rfl ot (iY (k:=3) (d:=aN (I[level]'E).ad (I[level]'E).l.length (I[level]'E).cp) (i:=level) wQ rfl rfl rfl isAgg67 E rfl)) ?_;refine AD.one (i:=14) aA ?_;refine bj.ek (ls:=(I[level]'E).l) (new:=[i]) (Sq:=(I[level]'E).s) eC nF rfl ap rfl rfl underlying67 Qp rfl w7 ot dW (tw (A:=[_,_,_]) (S1:=[⟨bv,67,Z*1,flatMap gV I⟩])) ot bf w9 lY (fun U O Me Mf=>?_);refine AD.perm (wu (S2:=[⟨U,3,O*1,flatMap cI ((I[level]'E).l++[i])⟩]) (A:=[_,_,_])) ?_;refine cA 15 rfl (dF 1) ?_;refine AD.one (i:=16) aA ?_;refine bj.storeAt (k:=3) (cs':=flatMap gV (I.set level (⟨(I[level]'E).l++[i],some ⟨U,0,none⟩,O,[⟨U,3,O*1,flatMap cI ((I[level]'E).l++[i])⟩]⟩:dJ))) rfl ap rfl rfl ot rfl rfl ot rfl rfl sizeOf67 rfl (by show 0+level*1+1≤(flatMap gV I).length;rw[cr wQ];omega) (by rw[Nat.zero_add];exact oP wQ I (⟨(I[level]'E).l++[i],some ⟨U,0,none⟩,O,[⟨U,3,O*1,flatMap cI ((I[level]'E).l++[i])⟩]⟩:dJ) E) iB ?_
  refine AD.wk (y:=⟨148,[(0,_),(2,_),(3,_),(4,_),(13,_)],(⟨mB,153,5,[_,_,_,_,_]⟩::⟨b,159,4,[_,_,_,_]⟩::_::([⟨bv,67,Z*1,flatMap gV (I.set level (⟨(I[level]'E).l++[i],some ⟨U,0,none⟩,O,[⟨U,3,O*1,flatMap cI ((I[level]'E).l++[i])⟩]⟩:dJ))⟩]++([⟨U,3,O*1,flatMap cI ((I[level]'E).l++[i])⟩]++((I.eraseIdx level).flatMap dJ.s))))⟩) (Wk.dV rfl rfl fk) rfl ?_;refine AD.done aA ?_;exact⟨rfl,(⟨(I[level]'E).l++[i],some ⟨U,0,none⟩,O,[⟨U,3,O*1,flatMap cI ((I[level]'E).l++[i])⟩]⟩:dJ),bE Me Mf,rfl,by rw[length_set];exact Wk.perm (Perm.cons _ (Perm.cons _ (Perm.cons _ ((qT dJ.s E (⟨(I[level]'E).l++[i],some ⟨U,0,none⟩,O,[⟨U,3,O*1,flatMap cI ((I[level]'E).l++[i])⟩]⟩:dJ)).symm.append_left _))))⟩
 rintro _ _ ⟨rfl,o2,pu,GJ,K8⟩;refine CD.wk K8 ?_;refine af [0,2,3,4,13,97] ?_;refine au ?_ ?_<;>intro cX en
 ·refine af [10] ?_;refine aI (SW t b bm (m++[i]) (I.set level o2) (some ⟨bv,0,none⟩) Z _) ?_;rw[adm qa oh (by rw[qf];exact cX)];exact⟨rfl,_,_,_,_,bE (by rw[length_set];exact CA) B6,TY pV pu,J9 zU E GJ,rfl⟩
 have fL:(t.pg i).leaf=false:=(by rw[qf];exact cX)
 have Gf:nI t (m++[i],(I.set level o2).map dJ.l):=(by rw[J9 zU E GJ];exact GL.add hr qa hlm)
 have akq:=Qm po (by rw[←qf];exact fL);have apm:=(po.node (by rw[←qf];exact fL)).1;have apn:=po.eJ;have B7:(t.ag[i.toNat]'aa).high=high:=(by rw[←qf];exact Classical.byContradiction fun h=>oh (.inl h))
 refine af [0,2,3,4,13,14] ?_;refine af [0,2,3,4,13,14,100,101,102] ?_;refine eA [0,2,3,4,13,100,101] (fun aU _ (kJ:Nat×Option Nat×List Int×List dJ×Option Addr×Nat×List ah) aH=>match kJ with|(k,deep,m2,L2,qg,ug,uF)=>(k≤(t.ag[i.toNat]'aa).kids.length)∧(lR (fun c lo hi s=>jq t f c lo hi (level+1) s) low (t.ag[i.toNat]'aa) ((t.ag[i.toNat]'aa).kids.drop k) k deep (m2,(L2.map dJ.l))=(jq t (f+1) i low high level (m,(L.map dJ.l))))∧(zT L2 qg ug uF)∧(∀o∈L2,mW o)∧(nI t (m2,(L2.map dJ.l)))∧(level+1≤m2.length)∧(t.ag.length+1≤f+m2.length)∧((k=0∨deep≠none))∧aH=(⟨148,(14,ae (sA deep))::(102,ae (k:Nat))::aU,(⟨mB,153,5,cP (t.ag[i.toNat]'aa)⟩::⟨b,159,4,[av 5 cP t.ag,ae t.root,.v (.map (some bm)),aN qg L2.length ug]⟩::kX bm m2::(uF++L2.flatMap dJ.s))⟩:St)) (fun (kJ:Nat×Option Nat×List Int×List dJ×Option Addr×Nat×List ah)=>match kJ with|(k,deep,m2,L2,qg,ug,uF)=>(t.ag[i.toNat]'aa).kids.length-k) (0,none,(m++[i]),(I.set level o2),(some ⟨bv,0,none⟩),Z,[⟨bv,67,Z*1,flatMap gV (I.set level o2)⟩]) ⟨(Nat.zero_le _),(by rw[adn qa oh fL,J9 zU E GJ,qf];rfl),(bE (by rw[length_set];exact CA) B6),(TY pV pu),Gf,G4,G4,(.inl rfl),rfl⟩ ?_;rintro⟨k,deep,m2,L2,qg,ug,uF⟩ _ ⟨hk,DG,WG,jT,Gf,WH,akr,hdp,rfl⟩;refine af [0,2,3,4,13,14,100,101,102,103] ?_;refine au ?_ ?_<;>intro er fq
 ·have ee:k<(t.ag[i.toNat]'aa).kids.length:=(by omega)
  have YT:=akq _ (getElem_mem ee);have hhk:(gY (t.ag[i.toNat]'aa) k).length≤100:=(by unfold gY;rw[getD_eq_getElem?_getD];rcases Nat.lt_or_ge k (t.ag[i.toNat]'aa).keys.length with q|q;(rw[getElem?_eq_getElem q];exact(po.lD _ (getElem_mem q)).2);(rw[getElem?_eq_none q];exact po.hlen))
  refine af [0,2,3,4,13,14,15,16,100,101,102] ?_;refine af [0,2,3,4,13,14,15,16,17,18,100,101,102] ?_;refine CD.cut (fun aH=>aH=(⟨148,[(0,dL b),(2,av 1 cB low),(3,av 1 cB high),(4,ae (level:Nat)),(13,dL mB),(14,ae (sA deep)),(15,ae (k:Nat)),(16,ae ((t.ag[i.toNat]'aa).kids[k]'ee)),(17,.list 1 ((iu low (t.ag[i.toNat]'aa) k).flatMap cB) (iu low (t.ag[i.toNat]'aa) k).length),(18,av 1 cB high),(100,.list 1 ((t.ag[i.toNat]'aa).kids.flatMap cI) (t.ag[i.toNat]'aa).kids.length),(101,ae ((t.ag[i.toNat]'aa).kids.length:Nat)),(102,ae (k:Nat))],(⟨mB,153,5,cP (t.ag[i.toNat]'aa)⟩::⟨b,159,4,[av 5 cP t.ag,ae t.root,.v (.map (some bm)),aN qg L2.length ug]⟩::kX bm m2::(uF++L2.flatMap dJ.s))⟩:St)) ?_ ?_
  ·refine af [0,2,3,4,13,14,15,16,17,18,100,101,102,110] ?_;refine au ?_ ?_<;>intro fx gG
   ·have eS:iu low (t.ag[i.toNat]'aa) k=(t.ag[i.toNat]'aa).keys[k-1]'w4:=(by unfold iu;rw[if_neg w4,getD_eq_getElem?_getD,getElem?_eq_getElem w4];rfl)
    refine ie [0,2,3,4,13,14,15,16,17,18,100,101,102] ?_;refine aS 4 ?_ (h:=by exact(dF 1 (h:=by first|exact .l (j:=k-1) w4 w4|exact .r (j:=k-1) w4 w4)));refine bG ?_;refine⟨_,(aK (h:=by repeat (first|exact trivial|refine⟨(by (repeat (first|exact fD|(apply fV;focus (first|rfl|(rw[eS];done)|(simp;done)))|(apply fH;focus rfl)));done),?_⟩))),rfl⟩
   have eS:iu low (t.ag[i.toNat]'aa) k=low:=(by unfold iu;rw[if_pos w4])
   refine CD.skip ?_;refine⟨_,(aK (h:=by repeat (first|exact trivial|refine⟨(by (repeat (first|exact fD|(apply fV;focus (first|rfl|(rw[eS];done)|(simp;done)))|(apply fH;focus rfl)));done),?_⟩))),rfl⟩
  rintro _ ⟨rfl⟩;refine CD.cut (fun aH=>aH=(⟨148,[(0,dL b),(2,av 1 cB low),(3,av 1 cB high),(4,ae (level:Nat)),(13,dL mB),(14,ae (sA deep)),(16,ae ((t.ag[i.toNat]'aa).kids[k]'ee)),(17,.list 1 ((iu low (t.ag[i.toNat]'aa) k).flatMap cB) (iu low (t.ag[i.toNat]'aa) k).length),(18,.list 1 ((gY (t.ag[i.toNat]'aa) k).flatMap cB) (gY (t.ag[i.toNat]'aa) k).length),(100,.list 1 ((t.ag[i.toNat]'aa).kids.flatMap cI) (t.ag[i.toNat]'aa).kids.length),(101,ae ((t.ag[i.toNat]'aa).kids.length:Nat)),(102,ae (k:Nat))],(⟨mB,153,5,cP (t.ag[i.toNat]'aa)⟩::⟨b,159,4,[av 5 cP t.ag,ae t.root,.v (.map (some bm)),aN qg L2.length ug]⟩::kX bm m2::(uF++L2.flatMap dJ.s))⟩:St)) ?_ ?_
  ·refine af [0,2,3,4,13,14,15,16,17,18,100,101,102,121] ?_;refine au ?_ ?_<;>intro gU kU
   ·have eB:gY (t.ag[i.toNat]'aa) k=(t.ag[i.toNat]'aa).keys[k]'w4:=(by unfold gY;rw[getD_eq_getElem?_getD,getElem?_eq_getElem w4];rfl)
    refine cm [0,2,3,4,13,14,16,17,18,100,101,102] ?_;refine⟨_,(aK (h:=by repeat (first|exact trivial|refine⟨(by (repeat (first|exact fD|(apply fV;focus (first|rfl|(rw[eB];done)|(simp;done)))|(apply fH;focus rfl)));done),?_⟩))),rfl⟩
   have eB:gY (t.ag[i.toNat]'aa) k=high:=(by unfold gY;rw[getD_eq_getElem?_getD,getElem?_eq_none w4];exact B7)
   refine CD.skip ?_;refine⟨_,(aK (h:=by repeat (first|exact trivial|refine⟨(by (repeat (first|exact fD|(apply fV;focus (first|rfl|(rw[eB];done)|(simp;done)))|(apply fH;focus rfl)));done),?_⟩))),rfl⟩
  rintro _ ⟨rfl⟩;refine aD 5 ?_;refine bN (dj (r:=.int .i64 ((level+1:Nat):Int)) rfl ot bI (kr (by rw[show((level:Nat):Int)+1=((level+1:Nat):Int) from rfl];exact wrap_i64 w4 w4))) ?_;refine OD.call ap rfl rfl rfl call92 (ih ((t.ag[i.toNat]'aa).kids[k]'ee) (iu low (t.ag[i.toNat]'aa) k) (gY (t.ag[i.toNat]'aa) k) (level+1) m2 L2 qg ug uF YT Gf WH akr hhk WG jT) ⟨ot,ot,ot,ot,ot,trivial⟩ (perm_append_singleton _ _).symm ?_;rintro r19 S19 mL;rcases jK:jq t f ((t.ag[i.toNat]'aa).kids[k]'ee) (iu low (t.ag[i.toNat]'aa) k) (gY (t.ag[i.toNat]'aa) k) (level+1) (m2,(L2.map dJ.l)) with _|⟨d,m3,lv3⟩
  ·rw[jK] at mL;obtain⟨rfl,rfl⟩:=mL;have ahY:=DG.symm.trans (abG ee jK);refine an 148 [0,2,3,4,13,14,19,100,101,102] ?_;refine aD 3 ?_;refine bV 136 (fun B8 KH=>?_) (fun B8 KH=>?_)
   ·refine bg [0,2,3,4,13,19,100,101,102,144] ?_;refine eI ?_;refine af [10] ?_;refine aI [] ?_;rw[ahY];exact⟨rfl,rfl⟩
   exact absurd B8 w7
  rw[jK] at mL;obtain⟨rfl,L3,HN,GM,HO,WI,xH,rfl,rfl⟩:=mL;obtain⟨VA,F6⟩:=J8 hp _ _ _ _ _ _ _ _ YT Gf WH jK;have F6:m2.length≤m3.length:=F6;refine OD.perm (perm_append_singleton _ _) ?_;refine an 148 [0,2,3,4,13,14,19,100,101,102] ?_;refine aD 3 ?_;refine bV 136 (fun B8 KH=>?_) (fun B8 KH=>?_)
  ·exact absurd B8 (by intro e;have e:=of_decide_eq_true e;omega)
  refine aE 3 ?_;refine bV 139 (fun zA agx=>?_) (fun zA agx=>?_)
  ·refine bg [0,2,3,4,13,19,100,101,102,144] ?_;refine au ?_ ?_<;>intro gq lA
   ·refine af [10] ?_;refine aI [] ?_;rw[DG.symm.trans (adp ee jK (adr (by simpa using zA) (by simpa using gq)))];exact⟨rfl,rfl⟩
   refine cm [0,2,3,4,13,14,100,101,102] ?_;refine cm [0,2,3,4,13,14,100,101,102] ?_;refine⟨((k+1),(some d),m3,L3,HN,GM,HO),_,cD,aK,w4,((Qn ee jK (by first|exact .inl (Qo (by simpa using zA))|exact .inr (RY (by simpa using zA) (by simpa using gq)))).symm.trans DG),WI,xH,VA,w4,w4,(.inr (fun e=>by cases e)),rfl⟩
  refine bg [0,2,3,4,13,19,100,101,102,144] ?_;refine fM ?_;refine cm [0,2,3,4,13,14,100,101,102] ?_;refine cm [0,2,3,4,13,14,100,101,102] ?_;refine⟨((k+1),(some d),m3,L3,HN,GM,HO),_,cD,aK,w4,((Qn ee jK (by first|exact .inl (Qo (by simpa using zA))|exact .inr (RY (by simpa using zA) (by simpa using gq)))).symm.trans DG),WI,xH,VA,w4,w4,(.inr (fun e=>by cases e)),rfl⟩
 obtain rfl:k=(t.ag[i.toNat]'aa).kids.length:=(by omega)
 obtain⟨d,rfl⟩:∃d,deep=some d:=(by rcases hdp with h|h;omega;exact Option.ne_none_iff_exists'.1 h)
 refine af [10] ?_;refine aI (SW t b bm m2 L2 qg ug uF) ?_;rw[←DG,adq (Nat.le_refl _)];exact⟨rfl,L2,qg,ug,uF,WG,jT,rfl,rfl⟩

end Go.Proofs.YtdgichenhdikgaaGreatDoor.Tw

namespace Go.Proofs.YtdgichenhdikgaaGreatDoor.Tw
open List
open Go.Proofs.Tryz
open Go.RowKit V Go.Proofs.YtdgichenhdikgaaGreatDoor.Tr Pk
theorem Ka{G:List (Nat×List Value)}(t:aG)(hp:uS t)(I:t.ag.length≤4000)(b Z:Nat):∀f,Vz G t b Z f
 | 0=>fun i low high level m L ad cap Sx hr E O U _ _ _=>by have h:m.length≤t.ag.length:=E.nO;exfalso;omega
 | f+1=>fun i low high level m L ad cap Sx hr E O U YS mS aQ=>abI t hp I b Z f (Ka t hp I b Z f) i low high level m L ad cap Sx hr E O U YS mS aQ
theorem Kb(t:aG):nI t ([],[]):=⟨nodup_nil,(fun x h=>by cases h),Nat.le_refl _,(fun l h=>by cases h),(fun l h=>by cases h)⟩
theorem Kc{t:aG}{e:Int}:∀{l:List Int},ff t l e↔∀k (h:k<l.length),(t.pg l[k]).next=l.getD (k+1) e
  | []=>⟨(fun _ k h=>by cases h),fun _=>trivial⟩
  | [i] => ⟨fun h k hk => by obtain rfl : k=0 := by (simp at hk; exact hk)
                             exact h,fun h=>h 0 bf⟩
  | i::j::r=>by
    show(t.pg i).next=j∧ff t (j::r) e↔_;rw[Kc (l:=j::r)];constructor
    · rintro⟨h1,h2⟩ k hk;cases k with
      | zero=>exact h1
      | succ k=>exact h2 k (by simpa using hk)
    intro h;exact⟨h 0 bf,fun k hk=>h (k+1) (by simpa using hk)⟩
theorem Qq{p:da}{n:Int}:B4 p n=true↔eG p n:=by unfold B4;simp
section
variable {t:aG}
theorem O4(h:t.ag.length<1∨t.ag.length>4000∨t.root<0∨t.root≥t.ag.length):gD t=11:=by unfold gD;rw[if_pos h]
theorem aap(h:¬uS t):gD t=11:=by
 unfold gD;split
 ·rfl
 first|rfl|rw[if_pos h]
variable {d:Nat} {m:List Int} {lv:List (List Int)}
theorem aaq(hw:jq t (t.ag.length+1) t.root [] [] 0 ([],[])=none):gD t=11:=by
 unfold gD;split
 ·rfl
 split
 ·rfl
 rw[hw]
theorem abJ(hw:jq t (t.ag.length+1) t.root [] [] 0 ([],[])=some (d,m,lv))(h:m.length≠t.ag.length):gD t=11:=by
 unfold gD;split
 ·rfl
 split
 ·rfl
 rw[hw];exact if_pos h
open Classical in
theorem abK(hw:jq t (t.ag.length+1) t.root [] [] 0 ([],[])=some (d,m,lv))(h:¬∀l∈lv,ff t l (-1)):gD t=11:=by
 unfold gD;split
 ·rfl
 split
 ·rfl
 rw[hw];show(if m.length≠t.ag.length then (11:Int) else if ∀l∈lv,ff t l (-1) then 0 else 11)=11;split
 ·rfl
 first|rfl|rw[if_neg h]
open Classical in
theorem abL(h1:¬(t.ag.length<1∨t.ag.length>4000∨t.root<0∨t.root≥t.ag.length))(h2:uS t)(hw:jq t (t.ag.length+1) t.root [] [] 0 ([],[])=some (d,m,lv))(h3:m.length=t.ag.length)(h:∀l∈lv,ff t l (-1)):gD t=0:=by
 unfold gD;rw[if_neg h1,if_neg (fun hn=>hn h2),hw];show(if m.length≠t.ag.length then (11:Int) else if ∀l∈lv,ff t l (-1) then 0 else 11)=0;rw[if_neg (fun hn=>hn h3),if_pos h]
end
def yp(l:List Int):List D:=[av 1 cI l]
theorem ae7(l:List Int):(yp l).length=1:=rfl
theorem TZ{S:List ah}:∀{L:List dJ},(∀o∈L,mW o)→(∀B∈L.flatMap dJ.s,B∈S)→gF S (L.flatMap gV) ((L.map dJ.l).flatMap yp)
 | [],_,_=>trivial
 | o::L,h,hs=>by
  rw[map_cons,flatMap_cons,flatMap_cons];refine gF.append ⟨lK (h o mem_cons_self) (cr eC _) (fun B E=>hs B ?_),trivial⟩ (TZ (fun o ho=>h o (mem_cons_of_mem _ ho)) fun B E=>hs B ?_)
  ·rw[flatMap_cons];exact mem_append_left _ E
  rw[flatMap_cons];exact mem_append_right _ E
theorem agy{Sx:List ah}{L:List dJ}{ad:Option Addr}{cap:Nat}{lv:List (List Int)}(ho:zT L ad cap Sx)(h:∀o∈L,mW o)(hm:L.map dJ.l=lv):View (Sx++L.flatMap dJ.s) (aN ad L.length cap) (av 1 yp lv):=by
 subst hm;have:=Be ho (TZ (S:=Sx++L.flatMap dJ.s) h fun B E=>mem_append_right _ E) (cr ae7 _ |>.trans bf) (fun B E=>mem_append_left _ E);first|rw[length_map]|(show View _ _ (.list _ _ (length _));rw[length_map])|(show View _ _ (.agg [.list _ _ (length _)]);rw[length_map])
 exact this
variable {G:List (Nat×List Value)}

theorem pB(t:aG)(hb:∀p∈t.ag,p.keys.length≤maxLen∧p.kids.length≤maxLen):VP Tryz.prog G 49 [.agg (cT t)] (ae (gD t)):=by
 refine VC.body func49 rfl ntmps49 aR fun X0 w0 aZ=>?_;unfold cT;have dm:=ec;refine bY ?_;refine OD.box (ds:=[_,_]) ap rfl rfl ot rfl rfl (fun b1=>?_);refine an 104 [1] ?_;refine aD 5 ?_;refine bV 15 (fun Cl ahZ=>?_) (fun Cl ahZ=>?_)
 ·exact z76
 refine aE 6 ?_;refine bV 21 (fun qE ah0=>?_) (fun qE ah0=>?_)
 ·exact z76
 refine aE 5 ?_;refine bV 26 (fun aks K9=>?_) (fun aks K9=>?_)
 ·exact z76
 refine bg [1,33] ?_;refine au ?_ ?_<;>intro aM bD
 ·refine af [2] ?_;refine eN ?_;exact⟨vi (O4 w4).symm,rfl⟩
 refine af [1,35,36,37] ?_;refine eA [1,35,36] (fun aU _ (i:Nat) aH=>(i≤t.ag.length)∧(∀j (h:j<t.ag.length),j<i→eG t.ag[j] t.ag.length)∧aH=(⟨104,(37,ae (i:Nat))::aU,[⟨b1,51,2,[av 5 cP t.ag,ae t.root]⟩]⟩:St)) (fun (i:Nat)=>t.ag.length-i) 0 ⟨(Nat.zero_le _),(fun j h h0=>by omega),rfl⟩ ?_;rintro i _ ⟨hi,qf,rfl⟩;refine af [1,35,36,37,38] ?_;refine au ?_ ?_<;>intro aY cy
 ·have aa:i<t.ag.length:=(by omega)
  obtain⟨ee,fA⟩:=hb (t.ag[i]'aa) (getElem_mem aa);refine aD 2 ?_;refine OD.alloc (ds:=[_,_,_,_,_]) ap rfl rfl zeroValue153 rfl (fun b4=>?_);refine aP 0 [_,_,_,_,_] sizeOf153 ?_;refine an 104 [1,4,35,36,37] ?_;refine cJ [1,35,36,37,46] (ae1 (t.ag[i]'aa) (t.ag.length:Nat) ee fA) ?_;refine au ?_ ?_<;>intro bZ cN
  ·have oq:¬uS t:=fun h=>by have:=Qq.2 (h (t.ag[i]'aa) (getElem_mem aa));rw[this] at bZ;cases bZ
   refine af [2] ?_;refine aI [] ?_;exact⟨vi (aap oq).symm,rfl⟩
  have akt:eG (t.ag[i]'aa) t.ag.length:=Qq.1 (by simpa using bZ);refine cm [1,35,36,37] ?_;refine⟨(i+1),_,cD,aK,w4,(fun j h h0=>by rcases Nat.lt_or_ge j i with q|q;exact qf j h q;obtain rfl:j=i:=w4;exact akt),rfl⟩
 have fh:uS t:=fun p h=>by obtain⟨j,hj,rfl⟩:=mem_iff_getElem.1 h;exact qf j hj w4
 have h4:t.ag.length≤4000:=(by omega)
 have E:0≤t.root∧t.root<t.ag.length:=(by omega)
 refine aD 1 ?_;refine OD.aen ap rfl rfl (fun O=>?_);refine aE 1 ?_;refine OD.box (ds:=[_,_,_,_]) ap rfl rfl ot rfl rfl (fun U=>?_);refine an 104 [1,5] ?_;refine CD.seq ?_;refine CD.seq ?_;rcases jK:jq t (t.ag.length+1) t.root [] [] 0 ([],[]) with _|⟨d,m,lv⟩
 ·refine fR 14 (aq (drop 2 _)) ?_ (fun _ h=>(Sublist.map _ (drop_sublist _ _)).subset h);refine az 0 rfl bp ?_;refine az 1 rfl (dr 1) ?_;refine az 2 rfl (dK 2) ?_;refine dD.later rfl ?_;refine AD.one (i:=3) aA ?_;refine bj.call rfl ap rfl rfl rfl call92 (VC.eV (args':=[dL U,ae t.root,cf,cf,ae 0]) (Ka t fh h4 U O (t.ag.length+1) t.root [] [] 0 [] [] none 0 [] E (Kb t) (Nat.le_refl _) (Nat.le_refl _) w7 iv (fun o h=>by cases h)) ⟨.inl rfl,.inl rfl,.inr ⟨1,rfl,rfl⟩,.inr ⟨1,rfl,rfl⟩,.inl rfl,trivial⟩) ⟨ot,ot,bI,bI,bI,trivial⟩ (Perm.refl _) iB ?_;rintro r55 Na mL;rw[show map dJ.l []=[] from rfl,jK] at mL;obtain⟨rfl,rfl⟩:=mL;refine cA 4 rfl mT ?_;refine cA 5 rfl bp ?_;refine AD.split (t:=57) lk (fun ud=>?_) (fun ud=>?_)
  ·have BV:=ud;(try simp only[V.nv,ne_eq] at BV)
   refine pY 6 rfl ?_;refine pY 7 rfl ?_;refine pY 11 rfl ?_;refine pY 12 rfl ?_;refine pY 13 rfl ?_;refine AD.one (i:=8) aA ?_;refine bj.skip rfl (mD rfl rfl rfl lk jr) rfl ?_;refine AD.one (i:=9) aA ?_;refine bj.skip rfl (mD rfl rfl rfl lk jr) rfl ?_;refine AD.one (i:=10) aA ?_;refine bj.skip rfl (mD rfl rfl rfl lk jr) rfl ?_;refine eH ?_;refine bg [1,5,67] ?_;refine eI ?_;try have I:m.length≠t.ag.length:=by intro e;rw[e] at cX;simp at cX
   refine af [2] ?_;refine eN ?_;exact⟨vi (aaq jK).symm,rfl⟩
  exact absurd ud w7
 refine fR 14 (aq (drop 2 _)) ?_ (fun _ h=>(Sublist.map _ (drop_sublist _ _)).subset h);refine az 0 rfl bp ?_;refine az 1 rfl (dr 1) ?_;refine az 2 rfl (dK 2) ?_;refine dD.later rfl ?_;refine AD.one (i:=3) aA ?_;refine bj.call rfl ap rfl rfl rfl call92 (VC.eV (args':=[dL U,ae t.root,cf,cf,ae 0]) (Ka t fh h4 U O (t.ag.length+1) t.root [] [] 0 [] [] none 0 [] E (Kb t) (Nat.le_refl _) (Nat.le_refl _) w7 iv (fun o h=>by cases h)) ⟨.inl rfl,.inl rfl,.inr ⟨1,rfl,rfl⟩,.inr ⟨1,rfl,rfl⟩,.inl rfl,trivial⟩) ⟨ot,ot,bI,bI,bI,trivial⟩ (Perm.refl _) iB ?_;rintro r55 Na mL;rw[show map dJ.l []=[] from rfl,jK] at mL;obtain⟨rfl,L,ad,cap,Sx,mS,aQ,zU,rfl⟩:=mL;refine AD.perm (Perm.cons _ (Perm.cons _ (perm_append_singleton _ _))) ?_;refine cA 4 rfl mT ?_;refine cA 5 rfl bp ?_;refine AD.split (t:=57) lk (fun ud=>?_) (fun ud=>?_)
 ·exact absurd ud (by intro e;have e:=of_decide_eq_true e;omega)
 have BV:=ud;(try simp only[V.nv,ne_eq] at BV)
 refine cA 6 rfl bp ?_;refine cA 7 rfl lZ ?_;refine cA 11 rfl (dr 0) ?_;refine cA 12 rfl (dK 2) ?_;refine cA 13 rfl qO ?_;refine AD.one (i:=8) aA ?_;refine at_ rfl (dr 2) ?_;refine AD.one (i:=9) aA ?_;refine at_ rfl (dK 0) ?_;refine AD.one (i:=10) aA ?_;refine at_ rfl (aaa (i:=1) rfl rfl ot rfl underlying156) ?_;refine eH ?_;refine bg [1,5,67] ?_;refine au ?_ ?_<;>intro cX en
 ·try have I:m.length≠t.ag.length:=by intro e;rw[e] at cX;simp at cX
  refine af [2] ?_;refine eN ?_;exact⟨vi (abJ jK I).symm,rfl⟩
 have I:m.length=t.ag.length:=(by have:=cX;simp at this;omega)
 refine CD.wk (Wk.cover (A:=⟨U,159,4,[av 5 cP t.ag,ae t.root,.v (.map (some O)),aN ad L.length cap]⟩) (R:=[kX O m,⟨b1,51,2,[av 5 cP t.ag,ae t.root]⟩]) (Sd:=Sx++L.flatMap dJ.s) (cs':=[av 5 cP t.ag,ae t.root,.v (.map (some O)),av 1 yp lv]) (Perm.refl _) ⟨eR,eR,eR,agy mS aQ zU,trivial⟩) ?_;obtain⟨Z,_⟩:=J8 fh _ _ _ _ _ _ _ _ E (Kb t) (Nat.le_refl _) jK;refine af [1,71,72,73] ?_;refine Yk (fun (i:Nat) aH=>(i≤lv.length)∧(∀j (_:j<i) (h:j<lv.length),ff t lv[j] (-1))∧aH=(⟨104,[(1,dL b1),(71,av 1 yp lv),(72,ae (lv.length:Nat)),(73,ae (i:Nat))],[⟨b1,51,2,[av 5 cP t.ag,ae t.root]⟩]⟩:St)) (fun (i:Nat)=>lv.length-i) 0 ⟨(Nat.zero_le _),(fun j h _=>by omega),rfl⟩ ?_;rintro i _ ⟨kg,HP,rfl⟩;refine af [1,71,72,73,74] ?_;refine au ?_ ?_<;>intro er fq
 ·have fA:i<lv.length:=(by omega)
  have Dq:∀x∈(lv[i]'fA),0≤x∧x<t.ag.length:=Z.el _ (getElem_mem fA);have me:(lv[i]'fA).length≤m.length:=Z.each _ (getElem_mem fA);have YU:lv.length≤m.length:=Z.eJ;refine af [1,7,71,72,73] ?_;refine af [1,7,71,72,73,77,78,79] ?_;refine Yk (fun (k:Nat) aH=>(k≤(lv[i]'fA).length)∧(∀j (_:j<k) (h:j<(lv[i]'fA).length),(t.pg (lv[i]'fA)[j]).next=(lv[i]'fA).getD (j+1) (-1))∧aH=(⟨104,[(1,dL b1),(7,.list 1 ((lv[i]'fA).flatMap cI) (lv[i]'fA).length),(71,av 1 yp lv),(72,ae (lv.length:Nat)),(73,ae (i:Nat)),(77,.list 1 ((lv[i]'fA).flatMap cI) (lv[i]'fA).length),(78,ae ((lv[i]'fA).length:Nat)),(79,ae (k:Nat))],[⟨b1,51,2,[av 5 cP t.ag,ae t.root]⟩]⟩:St)) (fun (k:Nat)=>(lv[i]'fA).length-k) 0 ⟨(Nat.zero_le _),(fun j h _=>by omega),rfl⟩ ?_;rintro k _ ⟨hk,hn,rfl⟩;refine af [1,7,71,72,73,77,78,79,80] ?_;refine au ?_ ?_<;>intro fx gG
  ·have ee:k<(lv[i]'fA).length:=(by omega)
   have Of:=Dq _ (getElem_mem ee);have fZ:((lv[i]'fA)[k]'ee).toNat<t.ag.length:=(by omega)
   have YV:t.pg ((lv[i]'fA)[k]'ee)=t.ag[((lv[i]'fA)[k]'ee).toNat]'fZ:=ve Of;refine af [1,7,8,9,71,72,73,77,78,79] ?_;refine af [1,7,8,9,10,71,72,73,77,78,79] ?_;refine CD.cut (fun aH=>aH=(⟨104,[(1,dL b1),(7,.list 1 ((lv[i]'fA).flatMap cI) (lv[i]'fA).length),(9,ae ((lv[i]'fA)[k]'ee)),(10,ae ((lv[i]'fA).getD (k+1) (-1))),(71,av 1 yp lv),(72,ae (lv.length:Nat)),(73,ae (i:Nat)),(77,.list 1 ((lv[i]'fA).flatMap cI) (lv[i]'fA).length),(78,ae ((lv[i]'fA).length:Nat)),(79,ae (k:Nat))],[⟨b1,51,2,[av 5 cP t.ag,ae t.root]⟩]⟩:St)) ?_ ?_
   ·refine af [1,7,8,9,10,71,72,73,77,78,79,88] ?_;refine au ?_ ?_<;>intro gU kU
    ·have j9:(lv[i]'fA).getD (k+1) (-1)=(lv[i]'fA)[k+1]'w4:=(by rw[getD_eq_getElem?_getD,getElem?_eq_getElem w4];rfl)
     refine ie [1,7,9,10,71,72,73,77,78,79] ?_;refine aS 3 ?_ (h:=by exact(dF 1 (h:=by first|exact .l (j:=k+1) w4 w4|exact .r (j:=k+1) w4 w4)));refine bG ?_;exact XS
    have j9:(lv[i]'fA).getD (k+1) (-1) = -1:=(by rw[getD_eq_getElem?_getD,getElem?_eq_none w4];rfl)
    refine CD.skip ?_;exact XS
   rintro _ ⟨rfl⟩;refine cZ [1,7,71,72,73,77,78,79,101] ?_;refine aS 3 ?_ (h:=by exact(dF 5 (h:=by first|exact .l (j:=((lv[i]'fA)[k]'ee).toNat) (Int.toNat_of_nonneg Of.1).symm fZ|exact .r (j:=((lv[i]'fA)[k]'ee).toNat) (Int.toNat_of_nonneg Of.1).symm fZ)));refine bG ?_;refine au ?_ ?_<;>intro gq lA
   ·have oq:¬∀l∈lv,ff t l (-1):=fun h=>by have:=Kc.1 (h (lv[i]'fA) (getElem_mem fA)) k ee;rw[YV] at this;simp[this] at gq
    refine af [2] ?_;refine aI [] ?_;exact⟨vi (abK jK oq).symm,rfl⟩
   have nS:(t.pg ((lv[i]'fA)[k]'ee)).next=(lv[i]'fA).getD (k+1) (-1):=(by rw[YV];simpa using gq)
   refine cm [1,7,71,72,73,77,78,79] ?_;refine⟨(k+1),_,cD,aK,w4,(fun j h0 h=>by rcases Nat.lt_or_ge j k with q|q;exact hn j q h;obtain rfl:j=k:=w4;exact nS),rfl⟩
  have aku:ff t (lv[i]'fA) (-1):=Kc.2 fun j hj=>hn j w4 hj;refine cm [1,71,72,73] ?_;refine⟨(i+1),_,cD,aK,w4,(fun j h0 h=>by rcases Nat.lt_or_ge j i with q|q;exact HP j q h;obtain rfl:j=i:=w4;exact aku),rfl⟩
 have nq:i=lv.length:=(by omega)
 refine af [2] ?_;refine aI [] ?_;exact⟨vi (abL w4 fh jK I fun l hl=>by obtain⟨j,hj,rfl⟩:=mem_iff_getElem.1 hl;exact HP j w4 hj).symm,rfl⟩

end Go.Proofs.YtdgichenhdikgaaGreatDoor.Tw

namespace Go.Proofs.YtdgichenhdikgaaGreatDoor.Tw
open List
open Go.Proofs.Tryz
open Go.RowKit V Tr Pk
variable {t:aG} {k:K}
noncomputable def lE(t:aG)(k:K):Int:=if gD t=0 then (if ox k=true then 0 else 1) else gD t
theorem ET(h:¬gD t=0):lE t k=gD t:=by unfold lE;rw[if_neg h]
theorem EA(h:gD t=0)(hk:ox k=false):lE t k=1:=by unfold lE;rw[if_pos h,hk];rfl
theorem JF(h:gD t=0)(hk:ox k=true):lE t k=0:=by unfold lE;rw[if_pos h,hk];rfl
def dO(t:aG)(k:K)(h:Nat):Int:=(t.pg (aJ t k h t.root)).kids.getD (aL (t.pg (aJ t k h t.root)) k) 0
noncomputable def findF(t:aG)(k:K)(h:Nat):Int×Int:=if lE t k=0 then (if gE t k h=true then (dO t k h,0) else (0,8)) else (0,lE t k)
theorem ads{h:Nat}(v:Valid t h):∀p∈t.ag,p.keys.length≤maxLen∧p.kids.length≤maxLen:=fun p hp=>by
 have po:=v.fF p hp;have dm:=ec;have h1:=po.eJ;cases hl:p.leaf with
 | true=>have:=po.leaf hl;omega
 | false=>have:=(po.node hl).1;omega
theorem Ew{h:Nat}(v:Valid t h)(k:K):(je t k h t.root).length≤1000000:=by
 rw[E4];have:=v.high;have:=v.nO;omega
theorem Jq(h:ox k=true):0<k.length∧k.length≤100:=of_decide_eq_true h
variable {G:List (Nat×List Value)}
theorem Ir(t:aG)(k:K)(hb:∀p∈t.ag,p.keys.length≤maxLen∧p.kids.length≤maxLen):VP Tryz.prog G 110 [.agg (cT t),av 1 cB k] (ae (lE t k)):=by
 refine VC.body func110 rfl ntmps110 aR fun X0 w0 aZ=>?_;have fb:=pB (G:=G) t hb;unfold cT at fb;unfold cT;refine bY ?_;refine OD.box (ds:=[_,_]) ap rfl rfl ot rfl rfl (fun b2=>?_);refine an 14 [1,2] ?_;refine cJ [1,5] (fb) ?_;refine af [1,5,9] ?_;refine au ?_ ?_<;>intro aM bD
 ·have hn:¬gD t=0:=(by simpa using aM)
  exact XT
 have hz:gD t=0:=(by simpa using aM)
 refine cJ [13] (ze k) ?_;refine au ?_ ?_<;>intro aY cy
 ·exact XT
 refine af [4] ?_;refine aI [] ?_;first|exact⟨vi (ET hn).symm,rfl⟩|exact⟨vi (EA hz vI).symm,rfl⟩|exact⟨vi (JF hz vI).symm,rfl⟩
theorem agz(t:aG)(h:Nat)(k:K)(hb:∀p∈t.ag,p.keys.length≤maxLen∧p.kids.length≤maxLen)(hv:gD t=0→Valid t h):VP Tryz.prog G 65 [.agg (cT t),av 1 cB k] (.dI [ae (findF t k h).1,ae (findF t k h).2]):=by
 refine VC.body func65 rfl ntmps65 aR fun X0 w0 aZ=>?_;have fb:=Ir (G:=G) t k hb;unfold cT at fb;unfold cT;have dm:=ec;refine bY ?_;refine OD.box (ds:=[_,_]) ap rfl rfl ot rfl rfl (fun b2=>?_);refine an 34 [1,2] ?_;refine cJ [1,2,6] (fb) ?_;refine af [1,2,6,14] ?_;refine au ?_ ?_<;>intro aM bD
 ·have hn:¬lE t k=0:=(by simpa using aM)
  refine af [4,5] ?_;refine aI [] ?_;exact⟨by unfold findF;rw[if_neg hn],rfl⟩
 have hz:lE t k=0:=(by simpa using aM)
 have hc:gD t=0:=Classical.byContradiction fun e=>by rw[ET e] at hz;exact e hz
 have U:ox k=true:=(by cases hq:ox k with|true=>rfl|false=>rw[EA hc hq] at hz;cases hz)
 have v:=hv hc;have ee:=Jq U;have fO:=qt (G:=G) t h v k w4 (Ew v k);unfold cT at fO;obtain⟨q1,E⟩:=v.leaf k;have aa:(aJ t k h t.root).toNat<t.ag.length:=(by omega)
 have I:t.pg (aJ t k h t.root)=(t.ag[(aJ t k h t.root).toNat]'aa):=ve q1;refine cJ [2,7,8,9] (fO) ?_;refine af [2,7,8,24] ?_;refine au ?_ ?_<;>intro aY cy
 ·have gg:gE t k h=false:=(by simpa using aY)
  refine af [4,5] ?_;refine aI [] ?_;exact⟨by unfold findF;rw[if_pos hz,if_neg vH],rfl⟩
 have gg:gE t k h=true:=(by simpa using aY)
 obtain⟨ha,NY⟩:=(Ev v k).1 gg;have po:=v.fF _ (jF q1);have hle:=po.leaf E;have O:aL (t.pg (aJ t k h t.root)) k<(t.pg (aJ t k h t.root)).kids.length:=(by omega)
 have Z:aL (t.ag[(aJ t k h t.root).toNat]'aa) k<(t.ag[(aJ t k h t.root).toNat]'aa).kids.length:=(by rw[←I];exact O)
 rw[I];refine cZ [4,5] ?_;refine aS 3 ?_ (h:=by exact(dF 5 (h:=by first|exact .l (j:=(aJ t k h t.root).toNat) (Int.toNat_of_nonneg q1.1).symm aa|exact .r (j:=(aJ t k h t.root).toNat) (Int.toNat_of_nonneg q1.1).symm aa)));refine bG ?_;refine aI [] ?_;exact⟨by unfold findF dO;rw[if_pos hz,if_pos gg,I,tG Z],rfl⟩
theorem abM{S:List ah}:gF S [cj true,cf,cf,cf,ae (-1)] (cP (⟨true,[],[],[],-1⟩:da)):=⟨eR,yJ,yJ,yJ,eR,trivial⟩
theorem agA(E:True):VC Tryz.prog G 83 [] [] (fun r S=>∃b,r = .agg [aN (some ⟨b,0,none⟩) 1 1,ae 0]∧S=[⟨b,153,5,[cj true,cf,cf,cf,ae (-1)]⟩]):=by
 refine VC.body func83 rfl ntmps83 aR fun X0 w0 aZ=>?_;refine bY ?_;refine OD.alloc (ds:=[_,_]) ap rfl rfl zeroValue51 rfl (fun b0=>?_);refine an 4 [0] ?_;refine aD 1 ?_;refine ei (bW 0 [_]) [.bool false,.slice none 0 0,.slice none 0 0,.slice none 0 0,.int .i64 0] [_,_,_,_,_] zeroValue153 runUnderlying49 sizeOf153 (fun b2=>?_);refine aE 1 ?_;refine aP 1 [_,_] sizeOf51 ?_;refine an 4 [0] ?_;refine aI [_] ?_;exact⟨_,rfl,rfl⟩
theorem agB:VP Tryz.prog G 83 [] (.agg (cT pU)):=VC.cover (agA trivial) fun r S ⟨b,hr,hS⟩=>by
 subst hr;subst hS;exact uM ⟨PU (cs:=[cj true,cf,cf,cf,ae (-1)]) (e:=153) (size:=5) mem_cons_self abM rfl (Nat.le_refl _) w7,eR,trivial⟩

end Go.Proofs.YtdgichenhdikgaaGreatDoor.Tw
namespace Go.Proofs.YtdgichenhdikgaaGreatDoor.Tr
open List
open Go.Proofs.Tryz
open Go.Lib (compareBytes)
variable {t:aG} {k:K} {row:Int}
variable {h m:Nat} {u:aG} {up:K}
def dx(t:aG)(k:K):Nat→Int→Nat→Int
 | 0,i,_=>i
 | h+1,i,m=>if m=h+1 then i else dx t k h ((t.pg i).kids.getD (aL (t.pg i) k) 0) m
theorem IR:∀(h:Nat) (i:Int),dx t k h i h=i
 | 0,_=>rfl
 | h+1,i=>by rw[dx,if_pos rfl]
theorem Bb:∀{h:Nat} {i:Int} {m:Nat},m<h→dx t k h i m=(t.pg (dx t k h i (m+1))).kids.getD (aL (t.pg (dx t k h i (m+1))) k) 0
 | 0,_,_,hm=>by omega
 | h+1,i,m,hm=>by
  rw[dx,if_neg w4,dx];by_cases e:m=h
  ·subst e;rw[IR,if_pos rfl]
  rw[if_neg w4];exact Bb w4
theorem Qr:∀{h:Nat} {i:Int} {m:Nat},m≤h→(je t k h i)[h-m]?=some (dx t k h i m)
 | 0,i,m,_=>by
  obtain rfl:m=0:=(by omega)
  rfl
 | h+1,i,m,hm=>by
  rw[je,dx];by_cases e:m=h+1
  ·subst e;rw[if_pos rfl,Nat.sub_self];rfl
  rw[if_neg e,show h+1-m=(h-m)+1 from by omega,getElem?_cons_succ];exact Qr w4
theorem E5{n:Int}(hp:∀p∈t.ag,eG p n):∀{h:Nat} {i:Int} {low high:K},dY t h i low high→(ids t h i).Nodup→lJ low high k→(∀x∈eu t h i,x.1≠k)→∀m,m≤h →
  ∃lo hi,dY t m (dx t k h i m) lo hi∧(ids t m (dx t k h i m)).Nodup∧lJ lo hi k∧∀x∈eu t m (dx t k h i m),x.1≠k
 | 0,i,low,high,ok,nd,hk,hn,m,hm=>by
  obtain rfl:m=0:=(by omega)
  exact⟨low,high,ok,nd,hk,hn⟩
 | h+1,i,low,high,ok,nd,hk,hn,m,hm=>by
  by_cases e:m=h+1
  ·subst e;rw[IR];exact⟨low,high,ok,nd,hk,hn⟩
  obtain⟨q1,q2,q3,q4,E⟩:=id ok;have po:=hp _ (jF q1);obtain⟨d1,d2⟩:=down po q2 q3 hk;have:=E5 hp (E _ d1) (wj d1 nd).1 d2 (fun x hx=>hn x MZ) m w4;rw[←tG d1] at this;rw[dx,if_neg e];exact this
structure agC (u:aG) (i:Int) (up:K) (aC:Int):Prop where
 fF:∀p∈u.ag,eG p u.ag.length
 rg:0≤i∧i<u.ag.length
 out:up∉(u.pg i).keys
 len:1≤up.length∧up.length≤100
 high:(u.pg i).high≠[]→bB up (u.pg i).high
 nn:0≤aC
 nnl:(u.pg i).leaf=false→aC<u.ag.length
def kD(t:aG)(k:K)(row:Int)(h m:Nat):aG×Option (K×Int):=if m=0 then (t,some (k,row)) else e9 t k row (m-1) (dx t k h t.root (m-1))
theorem RZ(h:Nat):kD t k row h (h+1)=e9 t k row h t.root:=by unfold kD;rw[if_neg w4,Nat.add_sub_cancel,IR]
theorem Qs(hm:m≤h){aC:Int}(e:kD t k row h m=(u,some (up,aC))):kD t k row h (m+1)=rq u (dx t k h t.root m) up aC:=by
 unfold kD at e ⊢;rw[if_neg w4,Nat.add_sub_cancel];cases m with
 | zero=>rw[if_pos rfl] at e;injection e with e1 e2;injection e2 with e2;injection e2 with e2 E;subst e1 e2 E;rw[e9]
 | succ m=>rw[if_neg w4,Nat.add_sub_cancel,Bb w4] at e;rw[e9,e]
theorem abN(h0:0<m)(hm:m≤h)(e:kD t k row h m=(u,none)):kD t k row h (m+1)=(u,none):=by
 unfold kD at e ⊢;rw[if_neg w4,Nat.add_sub_cancel];cases m with
 | zero=>omega
 | succ m=>rw[if_neg w4,Nat.add_sub_cancel,Bb w4] at e;rw[e9,e]
theorem Qt{h:Nat}{u:aG}:∀(d m:Nat),m+d=h+1→0<m→kD t k row h m=(u,none)→e9 t k row h t.root=(u,none)
 | 0,m,hm,_,e=>by
  obtain rfl:m=h+1:=(by omega)
  rw[←RZ];exact e
 | d+1,m,hm,h0,e=>Qt d (m+1) w4 w4 (abN h0 w4 e)
theorem R3(v:Valid t h)(hn:∀x∈kZ t h,x.1≠k)(hl:1≤k.length∧k.length≤100)(hr:0≤row)(hm:m≤h):∃lo hi,dY t m (dx t k h t.root m) lo hi∧lJ lo hi k∧oH t (e9 t k row m (dx t k h t.root m)).1 m (dx t k h t.root m) lo hi k row (e9 t k row m (dx t k h t.root m)).2:=by
 obtain⟨lo,hi,ok,nd,hk,hne⟩:=E5 v.fF v.ok v.zS (tO k) hn m hm;exact⟨lo,hi,ok,hk,FN v.fF ok nd hk hne hl hr⟩
theorem IS(v:Valid t h)(hn:∀x∈kZ t h,x.1≠k)(hl:1≤k.length∧k.length≤100)(hr:0≤row)(hm:m≤h+1){r:Option (K×Int)}(e:kD t k row h m=(u,r)):u.root=t.root∧u.ag.length≤t.ag.length+m∧t.ag.length≤u.ag.length∧∀p∈u.ag,eG p u.ag.length:=by
 unfold kD at e;cases m with
 | zero=>rw[if_pos rfl] at e;injection e with e1 e2;subst e1;exact⟨rfl,Nat.le_refl _,Nat.le_refl _,v.fF⟩
 | succ m =>
  rw[if_neg w4,Nat.add_sub_cancel] at e;obtain⟨lo,hi,_,_,I⟩:=R3 v hn hl hr (m:=m) w4;rw[e] at I;exact⟨I.root,I.more,I.le,I.fF⟩
theorem ae8(v:Valid t h)(hn:∀x∈kZ t h,x.1≠k)(hl:1≤k.length∧k.length≤100)(hr:0≤row)(hm:m≤h+1){aC:Int}(e:kD t k row h m=(u,some (up,aC))):up.length≤100:=by
 unfold kD at e;cases m with
 | zero=>rw[if_pos rfl] at e;injection e with e1 e2;injection e2 with e2;injection e2 with e2 E;subst e2;exact hl.2
 | succ m =>
  rw[if_neg w4,Nat.add_sub_cancel] at e;obtain⟨lo,hi,_,_,I⟩:=R3 v hn hl hr (m:=m) w4;rw[e] at I;exact I.ok.1.2
theorem ae9(v:Valid t h)(hn:∀x∈kZ t h,x.1≠k)(hl:1≤k.length∧k.length≤100)(hr:0≤row)(hm:m≤h){aC:Int}(e:kD t k row h m=(u,some (up,aC))):agC u (dx t k h t.root m) up aC:=by
 cases m with
 | zero =>
  unfold kD at e;rw[if_pos rfl] at e;injection e with e1 e2;injection e2 with e2;injection e2 with e2 Z;subst e1 e2 Z
  obtain⟨lo,hi,⟨q1,q2,q3,q4⟩,nd,hk,hne⟩:=E5 v.fF v.ok v.zS (tO k) hn 0 hm;refine⟨v.fF,q1,fun hm=>?_,hl,fun E=>?_,hr,fun h=>by rw[q2] at h;cases h⟩
  ·have po:=v.fF _ (jF q1);have hlen:=po.leaf q2;obtain⟨a,ha,he⟩:=mem_iff_getElem.1 hm;exact hne (k,(t.pg (dx t k h t.root 0)).kids[a]'w4) ((Bi hlen).2 ⟨a,ha,by rw[he]⟩) rfl
  rw[q3] at E ⊢;exact hk.2 E
 | succ m =>
  obtain⟨s1,s2,s3,s4⟩:=IS v hn hl hr w4 e;unfold kD at e;rw[if_neg w4,Nat.add_sub_cancel] at e;obtain⟨lo,hi,ok,nd,hk,hne⟩:=E5 v.fF v.ok v.zS (tO k) hn (m+1) hm;obtain⟨q1,q2,q3,q4,q5⟩:=id ok;have po:=v.fF _ (jF q1);obtain⟨d1,d2⟩:=down po q2 q3 hk;have O:=FN (row:=row) v.fF (q5 _ d1) (wj d1 nd).1 d2 (fun x hx=>hne x MZ) hl hr;rw[←tG d1,←Bb w4,e,Bb w4] at O;have M:jC t u m (dx t k h t.root (m+1)) lo hi (aL (t.pg (dx t k h t.root (m+1))) k) k row (some (up,aC)):=⟨v.fF,ok,nd,d1,d2,O⟩
  obtain⟨m1,m2,m3,m4⟩:=M.place;have U:=M.same;obtain⟨o1,o2,o3,o4,o5⟩:(1≤up.length∧up.length≤100)∧_∧_∧_∧dY u m aC up _:=O.ok;have I:=o5.idx;refine⟨s4,⟨q1.1,by omega⟩,by rw[U];exact m2,o1,fun E=>?_,I.1,fun _=>I.2⟩;rw[U,q3] at E ⊢;exact m3.2 E

end Go.Proofs.YtdgichenhdikgaaGreatDoor.Tr
namespace Go.Proofs.YtdgichenhdikgaaGreatDoor.Tr
open List
open Go.Proofs.Tryz
open Go.Lib (compareBytes)
variable {t:aG} {h:Nat} {k:K}
variable {i:Int}
noncomputable def nk(t:aG)(h:Nat)(k:K):List (K×Int):=(kZ t h).filter fun x=>decide (¬bB x.1 k)
def jb(t:aG)(ls:List Int):List (K×Int):=ls.flatMap fun l=>eY (t.pg l)
theorem ff.tail{r:List Int}{e:Int}(h:ff t (i::r) e):ff t r e:=by
 cases r with
 | nil=>trivial
 | cons j r=>exact h.2
theorem ff.next{i:Int}{r:List Int}{e:Int}(h:ff t (i::r) e):(t.pg i).next=r.headD e:=by
 cases r with
 | nil=>exact h
 | cons j r=>exact h.1
theorem ff.drop{e:Int}:∀{a b:List Int},ff t (a++b) e→ff t b e
 | [],_,h=>h
 | i::a,b,h=>ff.drop (a:=a) (ff.tail h)
theorem R4:∀{h:Nat} {i:Int} {low high:K},dY t h i low high→∀l∈cG t h i,(0≤l∧l<t.ag.length)∧(t.pg l).leaf=true
 | 0,i,low,high,ok,l,hl=>by
  rw[cG,mem_singleton] at hl;subst hl;exact⟨ok.1,ok.2.1⟩
 | h+1,i,low,high,ok,l,hl=>by
  obtain⟨q1,q2,q3,q4,E⟩:=ok;rw[cG] at hl;obtain⟨c,hc,hl⟩:=mem_flatMap.1 hl;obtain⟨j,hj,rfl⟩:=mem_iff_getElem.1 hc;exact R4 (E j hj) l hl
structure rh (t:aG) (ls:List Int):Prop where
 pp:ff t ls (-1)
 at_:∀l∈ls,(0≤l∧l<t.ag.length)∧(t.pg l).leaf=true
theorem rh.tail{i:Int}{r:List Int}(h:rh t (i::r)):rh t r:=⟨ff.tail h.pp,fun l hl=>h.at_ l (mem_cons_of_mem _ hl)⟩
theorem rh.head{ls:List Int}(h:rh t ls):(0≤ls.headD (-1)→∃r,ls=ls.headD (-1)::r)∧(ls.headD (-1)<0→ls=[]):=by
 cases ls with
 | nil=>exact⟨fun h=>by simp at h,fun _=>rfl⟩
 | cons i r=>exact⟨fun _=>⟨r,rfl⟩,fun h0=>by have:=(h.at_ i mem_cons_self).1;simp at h0;omega⟩
theorem Pz(v:Valid t h):rh t (cG t h t.root):=⟨v.pp h (Nat.le_refl _),R4 v.ok⟩
theorem EL(v:Valid t h){l:Int}(hl:(0≤l∧l<t.ag.length)∧(t.pg l).leaf=true):(eY (t.pg l)).length=(t.pg l).keys.length:=by
 have:=(v.fF _ (jF hl.1)).leaf hl.2;unfold eY;rw[length_zip];omega
theorem aar(v:Valid t h)(k:K):∃r,rh t (aJ t k h t.root::r)∧nk t h k=(jb t (aJ t k h t.root::r)).drop (aL (t.pg (aJ t k h t.root)) k)∧aL (t.pg (aJ t k h t.root)) k≤(t.pg (aJ t k h t.root)).keys.length:=by
 obtain⟨pre,post,e,he⟩:=abq v.fF v.ok (tO k);have hL:=Pz v;have hl:=v.leaf k;have fN:aL (t.pg (aJ t k h t.root)) k≤(t.pg (aJ t k h t.root)).keys.length:=by
  unfold aL;split
  ·exact yP _ _
  exact Bs _ _
 rw[e] at hL;refine⟨post,⟨ff.drop hL.pp,fun l hl=>hL.at_ l (mem_append_right _ hl)⟩,?_,fN⟩;unfold nk kZ;rw[he];unfold jb;rw[flatMap_cons,drop_append_of_le_length (by rw[EL v hl];exact fN)]
theorem abO(v:Valid t h){r:List Int}(hL:rh t (i::r)){a:Nat}(ha:a<(t.pg i).keys.length)(hk:a<(t.pg i).kids.length) :
  (jb t (i::r)).drop a=((t.pg i).keys[a],(t.pg i).kids[a])::(jb t (i::r)).drop (a+1):=by
 have hi:=hL.at_ i mem_cons_self;have hlen:=EL v hi;have h1:a<(jb t (i::r)).length:=(by unfold jb;rw[flatMap_cons,length_append];omega)
 rw[drop_eq_getElem_cons h1];congr 1;unfold jb;simp only[flatMap_cons];rw[getElem_append_left w4];unfold eY;rw[getElem_zip]
theorem aas(v:Valid t h){r:List Int}(hL:rh t (i::r)){a:Nat}(ha:a=(t.pg i).keys.length):(jb t (i::r)).drop a=(jb t r).drop 0:=by
 have hi:=hL.at_ i mem_cons_self;have hlen:=EL v hi;unfold jb;rw[flatMap_cons,drop_zero,drop_append_of_le_length w4,drop_eq_nil_of_le w4];rfl
theorem adt(v:Valid t h):kZ t h=jb t (cG t h t.root):=wB t h t.root
theorem Bk(v:Valid t h):(kZ t h).Pairwise fun x y=>bB x.1 y.1:=(J4 v.fF v.ok).1
theorem abP(v:Valid t h)(k:K):(nk t h k).Pairwise fun x y=>bB x.1 y.1:=(Bk v).filter _
theorem adu(t:aG)(h:Nat):nk t h []=kZ t h:=by
 unfold nk;rw[filter_eq_self.2];intro x _;simpa using KD x.1
theorem adw(v:Valid t h):(kZ t h).length≤4*t.ag.length:=by
 have key:∀(ls:List Int),(∀l∈ls,(0≤l∧l<t.ag.length)∧(t.pg l).leaf=true)→(jb t ls).length≤4*ls.length:=by
  intro ls;induction ls with
  | nil=>intro _;simp[jb]
  | cons i r ih =>
   intro hl;have h1:=EL v (hl i mem_cons_self);have h2:=(v.fF _ (jF (hl i mem_cons_self).1)).eJ;have h3:=ih fun l E=>hl l (mem_cons_of_mem _ E);unfold jb at h3 ⊢;rw[flatMap_cons,length_append,length_cons];omega
 have I:(cG t h t.root).length≤(ids t h t.root).length:=by
  have:∀(h:Nat) (i:Int),(cG t h i).length≤(ids t h i).length:=by
   intro h;induction h with
   | zero=>intro i;simp[cG,ids]
   | succ h ih =>
    intro i;rw[cG,ids,length_cons,length_flatMap,length_flatMap];have:∀(l:List Int),(l.map fun a=>(cG t h a).length).sum≤(l.map fun a=>(ids t h a).length).sum:=by
     intro l;induction l with
     | nil=>simp
     | cons a l O=>simp only[map_cons,sum_cons];have:=ih a;omega
    have:=this (t.pg i).kids;omega
  exact this h t.root
 rw[adt v];have:=key _ (Pz v).at_;rw[v.all] at I;omega
theorem R5(v:Valid t h)(k:K):(nk t h k).length≤16000:=by
 have:=adw v;have h1:=v.nO;have:(nk t h k).length≤(kZ t h).length:=(filter_sublist).length_le;omega

end Go.Proofs.YtdgichenhdikgaaGreatDoor.Tr
namespace Go.Proofs.YtdgichenhdikgaaGreatDoor.Tw
open List
open Go.Proofs.Tryz
open Go.RowKit V Tr Pk
def cE(e:K×Int):List D:=[av 1 cB e.1,ae e.2]
theorem UA(e:K×Int):(cE e).length=2:=rfl
def GN(e:K×Int):List D:=[.agg (cE e)]
theorem agD(b:UInt8):fK (cB b)=true:=rfl
theorem zf(k:K):fK (k.flatMap cB)=true:=uR agD k
theorem zg(e:K×Int):fK (cE e)=true:=by simp[cE,fK,iF,zf]
theorem adA(e:K×Int):fK (GN e)=true:=by simp[GN,fK,iF,zg]
def La(t:aG)(k:K):List D:=[.fE [av 5 cP t.ag,ae t.root] 0,.fE [av 1 cB k] 0]
variable {G:List (Nat×List Value)}
theorem rT : ∀ w, ((#[{ name := "Key", type := 88, offset := 0, embedded := false, tag := "", pkgPath := "", byteOffset := 0 }, { name := "Row", type := 3, offset := 1, embedded := false, tag := "", pkgPath := "", byteOffset := 24 }] : Array Field).mapM fun f => do pure (f.offset, ← sizeOf f.type) : Sem (Array (Nat × Nat))).run Tryz.prog w = .ok #[(0, 1), (1, 1)] w := fun w => by simp [sizeOf3, sizeOf88]
theorem adB(t:aG)(h:Nat)(v:Valid t h)(k:K)(ee:k.length≤maxLen):VI Tryz.prog G 93 (La t k) GN (fun xs=>xs=nk t h k) (fun pre=>pre <+: nk t h k) (nk t h k).length:=by
 refine VI.body func93 rfl ntmps93 aR fun Y X0 w0 aZ Sc0 hYe hYN O hY hJ0=>?_;have dm:=ec;have fO:=qt (G:=G) t h v k w4 (Ew v k);unfold cT at fO;obtain⟨r0,hL0,akv,Wz⟩:=aar v k;obtain⟨y1,y2,y3⟩:=(by exact⟨hYe,hYN,O⟩:Y.enc=GN∧Y.N=(nk t h k).length∧w0.heap.size≤Y.l)
 refine cJ [0,1,4,5] (fO) ?_;refine CD.block ?_;refine mV (fun (U:List Int×Nat×List (K×Int)×List ah) aH=>match U with|(ls,a,pre,Sc)=>(rh t ls)∧(nk t h k=pre++(jb t ls).drop a)∧((∀x∈head? ls,a≤(t.pg x).keys.length))∧(Y.J pre Sc)∧aH=(⟨46,[(0,.kf Y.l Y.os),(1,.fE [av 5 cP t.ag,ae t.root] 0),(4,ae (headD ls (-1))),(5,ae (a:Nat))],Sc⟩:St)) (fun (U:List Int×Nat×List (K×Int)×List ah)=>match U with|(ls,a,pre,Sc)=>length ls) ((aJ t k h t.root::r0),(aL (t.pg (aJ t k h t.root)) k),[],Sc0) ⟨hL0,(by rw[nil_append];exact akv),(fun x hx=>by simp at hx;subst hx;exact Wz),hJ0,rfl⟩ (aK (h:=by repeat (first|exact trivial|refine⟨(by (repeat (first|exact fD|(apply fV;focus (first|rfl|(simp;done)|(rw[←gS,ff.next hL.pp])))|(apply fH;focus rfl)));done),?_⟩))) ?_;rintro⟨ls,a,pre,Sc⟩ _ ⟨hL,Og,fN,hj,rfl⟩;refine af [0,1,4,5,16] ?_;refine au ?_ ?_<;>intro aM bD
 ·have N8:0≤headD ls (-1):=(by simpa using aM)
  obtain⟨r,hr⟩:=(rh.head hL).1 N8;obtain⟨i,hi⟩:∃i,i=headD ls (-1):=⟨_,rfl⟩
  rw[←hi] at hr N8;subst hr;obtain⟨AS,K7⟩:=hL.at_ i mem_cons_self;have aa:i.toNat<t.ag.length:=(by omega)
  have gS:t.pg i=t.ag[i.toNat]:=ve AS;have po:=v.fF _ (jF AS);have Mc:=po.leaf K7;have mN:=po.eJ;have WJ:=fN i rfl;have VB:=v.nO;rw[gS] at po Mc mN WJ;refine aD 3 ?_;refine bN (dF 5 (h:=by first|exact .l (j:=i.toNat) (by show headD (i::r) (-1)=_;simp;omega) aa|exact .r (j:=i.toNat) (by show headD (i::r) (-1)=_;simp;omega) aa)) ?_;refine bN (cW (mk:=Op.load 153) rfl ot (by exact j5 (i:=i.toNat) FO isAgg153 sizeOf153 aa)) ?_;refine OD.alloc (ds:=[_,_,_,_,_]) ap rfl rfl zeroValue153 rfl (fun b7=>?_);refine aP 0 [_,_,_,_,_] sizeOf153 ?_;refine an 46 [0,1,5,7] ?_;refine eA [0,1,7] (fun aU _ (U:Nat×List (K×Int)×List ah) aH=>match U with|(a,E,I)=>(nk t h k=E++(jb t (i::r)).drop a)∧(a≤((t.ag[i.toNat]'aa)).keys.length)∧(Y.J E I)∧aH=(⟨46,(5,ae (a:Nat))::aU,(⟨b7,153,5,cP (t.ag[i.toNat]'aa)⟩::I)⟩:St)) (fun (U:Nat×List (K×Int)×List ah)=>match U with|(a,E,I)=>((t.ag[i.toNat]'aa)).keys.length-a) (a,pre,Sc) ⟨Og,WJ,hj,rfl⟩ ?_;rintro⟨a,E,I⟩ _ ⟨pP,aqi,Z,rfl⟩;refine af [0,1,5,7,26] ?_;refine au ?_ ?_<;>intro aY cy
  ·have qb:a<((t.ag[i.toNat]'aa)).keys.length:=(by have:=aY;simp at this;omega)
   have uG:a<((t.ag[i.toNat]'aa)).kids.length:=(by omega)
   have jm:(jb t (i::r)).drop a=(((t.ag[i.toNat]'aa)).keys[a],((t.ag[i.toNat]'aa)).kids[a])::(jb t (i::r)).drop (a+1):=(by have:=abO v hL (a:=a) (by rw[gS];exact qb) (by rw[gS];exact uG);simp only[gS] at this;exact this)
   have lg:((t.ag[i.toNat]'aa)).keys[a].length≤100:=(by have:=(po.lD _ (getElem_mem qb)).2;omega)
   refine CD.skip ?_;refine CD.seq ?_;refine CD.block ?_;refine CD.seq ?_;refine CD.aeo aA ?_;refine fT 0 rfl bp ?_;refine fT 1 rfl (dr 1) ?_;refine fT 3 rfl bp ?_;refine fT 7 rfl (dr 2) ?_;refine fT 9 rfl bp ?_;refine AI.two (i:=2) (j:=8) aA ?_ ?_
   ·refine kL rfl (dK 0) ?_;refine fT 4 rfl (dF 1 (h:=by first|exact .l (j:=a) rfl qb|exact .r (j:=a) rfl qb)) ?_;refine AI.two (i:=5) (j:=8) aA ?_ ?_
    ·refine kL rfl eT ?_;refine AI.two (i:=6) (j:=8) aA ?_ ?_
     ·refine gK.gM rfl ap rfl rfl rfl call95 (j3 (((t.ag[i.toNat]'aa)).keys[a]) w4) ⟨ot,trivial⟩ ?_;refine AI.one (i:=8) aA ?_;refine kL rfl (dK 0) ?_;refine fT 10 rfl (dF 1 (h:=by first|exact .l (j:=a) rfl uG|exact .r (j:=a) rfl uG)) ?_;refine AI.one (i:=11) aA ?_;refine kL rfl eT ?_;refine fT 12 rfl (nE (pl:=[(0,_),(1,_)]) (ds:=[_,_]) rfl zeroValue90 runUnderlying90 rT ⟨rfl,ot,rfl,ot,trivial⟩ rfl rfl) ?_;refine AI.one (i:=13) aA ?_;refine gK.yield (Y:=Y) (pre:=E) (y:=(((t.ag[i.toNat]'aa)).keys[a],((t.ag[i.toNat]'aa)).kids[a])) (Sc:=I) (R:=[⟨b7,153,5,cP (t.ag[i.toNat]'aa)⟩]) rfl ap rfl rfl ot aR lk sU (perm_append_singleton _ _).symm Z sR hY O w7 (fun DH Oh=>?_) (fun DH Oh=>?_)
      ·refine AI.perm (perm_append_singleton _ _) ?_;refine fT 14 rfl lf ?_;refine AI.wk (y:=⟨46,[(0,_),(1,_),(5,_),(7,_),(43,_)],(⟨b7,153,5,[_,_,_,_,_]⟩::DH)⟩) (Wk.dV rfl rfl fk) ?_;refine AI.done aA ?_;refine fM ?_;refine cm [0,1,5,7] ?_;refine⟨((a+1),(E++[(((t.ag[i.toNat]'aa)).keys[a],((t.ag[i.toNat]'aa)).kids[a])]),DH),_,cD,aK,sP,w4,Oh,rfl⟩
      refine fT 14 rfl lf ?_;refine AI.wk (y:=⟨46,[(0,_),(43,_)],(DH)⟩) (Wk.dV rfl rfl fk) ?_;refine AI.done aA ?_;refine eI ?_;refine CD.ret ?_;refine⟨.inr rfl,⟨_,qn results93⟩,(show 0<46 by decide),DH,Sublist.refl _,?_⟩;exact .inr ⟨E++[(((t.ag[i.toNat]'aa)).keys[a],((t.ag[i.toNat]'aa)).kids[a])],⟨(jb t (i::r)).drop (a+1),by rw[pP,jm,append_assoc];rfl⟩,Oh,lk⟩
     refine kL rfl (dK 0) ?_;refine fT 10 rfl (dF 1 (h:=by first|exact .l (j:=a) rfl uG|exact .r (j:=a) rfl uG)) ?_;refine AI.two (i:=6) (j:=11) aA ?_ ?_
     ·refine gK.gM rfl ap rfl rfl rfl call95 (j3 (((t.ag[i.toNat]'aa)).keys[a]) w4) ⟨ot,trivial⟩ ?_;refine AI.one (i:=11) aA ?_;refine kL rfl eT ?_;refine fT 12 rfl (nE (pl:=[(0,_),(1,_)]) (ds:=[_,_]) rfl zeroValue90 runUnderlying90 rT ⟨rfl,ot,rfl,ot,trivial⟩ rfl rfl) ?_;refine AI.one (i:=13) aA ?_;refine gK.yield (Y:=Y) (pre:=E) (y:=(((t.ag[i.toNat]'aa)).keys[a],((t.ag[i.toNat]'aa)).kids[a])) (Sc:=I) (R:=[⟨b7,153,5,cP (t.ag[i.toNat]'aa)⟩]) rfl ap rfl rfl ot aR lk sU (perm_append_singleton _ _).symm Z sR hY O w7 (fun I Oi=>?_) (fun I Oi=>?_)
      ·refine AI.perm (perm_append_singleton _ _) ?_;refine fT 14 rfl lf ?_;refine AI.wk (y:=⟨46,[(0,_),(1,_),(5,_),(7,_),(43,_)],(⟨b7,153,5,[_,_,_,_,_]⟩::I)⟩) (Wk.dV rfl rfl fk) ?_;refine AI.done aA ?_;refine fM ?_;refine cm [0,1,5,7] ?_;refine⟨((a+1),(E++[(((t.ag[i.toNat]'aa)).keys[a],((t.ag[i.toNat]'aa)).kids[a])]),I),_,cD,aK,sP,w4,Oi,rfl⟩
      refine fT 14 rfl lf ?_;refine AI.wk (y:=⟨46,[(0,_),(43,_)],(I)⟩) (Wk.dV rfl rfl fk) ?_;refine AI.done aA ?_;refine eI ?_;refine CD.ret ?_;refine⟨.inr rfl,⟨_,qn results93⟩,(show 0<46 by decide),I,Sublist.refl _,?_⟩;exact .inr ⟨E++[(((t.ag[i.toNat]'aa)).keys[a],((t.ag[i.toNat]'aa)).kids[a])],⟨(jb t (i::r)).drop (a+1),by rw[pP,jm,append_assoc];rfl⟩,Oi,lk⟩
     refine kL rfl eT ?_;refine AI.one (i:=6) aA ?_;refine gK.gM rfl ap rfl rfl rfl call95 (j3 (((t.ag[i.toNat]'aa)).keys[a]) w4) ⟨ot,trivial⟩ ?_;refine fT 12 rfl (nE (pl:=[(0,_),(1,_)]) (ds:=[_,_]) rfl zeroValue90 runUnderlying90 rT ⟨rfl,ot,rfl,ot,trivial⟩ rfl rfl) ?_;refine AI.one (i:=13) aA ?_;refine gK.yield (Y:=Y) (pre:=E) (y:=(((t.ag[i.toNat]'aa)).keys[a],((t.ag[i.toNat]'aa)).kids[a])) (Sc:=I) (R:=[⟨b7,153,5,cP (t.ag[i.toNat]'aa)⟩]) rfl ap rfl rfl ot aR lk sU (perm_append_singleton _ _).symm Z sR hY O w7 (fun DI Oj=>?_) (fun DI Oj=>?_)
     ·refine AI.perm (perm_append_singleton _ _) ?_;refine fT 14 rfl lf ?_;refine AI.wk (y:=⟨46,[(0,_),(1,_),(5,_),(7,_),(43,_)],(⟨b7,153,5,[_,_,_,_,_]⟩::DI)⟩) (Wk.dV rfl rfl fk) ?_;refine AI.done aA ?_;refine fM ?_;refine cm [0,1,5,7] ?_;refine⟨((a+1),(E++[(((t.ag[i.toNat]'aa)).keys[a],((t.ag[i.toNat]'aa)).kids[a])]),DI),_,cD,aK,sP,w4,Oj,rfl⟩
     refine fT 14 rfl lf ?_;refine AI.wk (y:=⟨46,[(0,_),(43,_)],(DI)⟩) (Wk.dV rfl rfl fk) ?_;refine AI.done aA ?_;refine eI ?_;refine CD.ret ?_;refine⟨.inr rfl,⟨_,qn results93⟩,(show 0<46 by decide),DI,Sublist.refl _,?_⟩;exact .inr ⟨E++[(((t.ag[i.toNat]'aa)).keys[a],((t.ag[i.toNat]'aa)).kids[a])],⟨(jb t (i::r)).drop (a+1),by rw[pP,jm,append_assoc];rfl⟩,Oj,lk⟩
    refine kL rfl (dK 0) ?_;refine fT 10 rfl (dF 1 (h:=by first|exact .l (j:=a) rfl uG|exact .r (j:=a) rfl uG)) ?_;refine AI.two (i:=5) (j:=11) aA ?_ ?_
    ·refine kL rfl eT ?_;refine AI.two (i:=6) (j:=11) aA ?_ ?_
     ·refine gK.gM rfl ap rfl rfl rfl call95 (j3 (((t.ag[i.toNat]'aa)).keys[a]) w4) ⟨ot,trivial⟩ ?_;refine AI.one (i:=11) aA ?_;refine kL rfl eT ?_;refine fT 12 rfl (nE (pl:=[(0,_),(1,_)]) (ds:=[_,_]) rfl zeroValue90 runUnderlying90 rT ⟨rfl,ot,rfl,ot,trivial⟩ rfl rfl) ?_;refine AI.one (i:=13) aA ?_;refine gK.yield (Y:=Y) (pre:=E) (y:=(((t.ag[i.toNat]'aa)).keys[a],((t.ag[i.toNat]'aa)).kids[a])) (Sc:=I) (R:=[⟨b7,153,5,cP (t.ag[i.toNat]'aa)⟩]) rfl ap rfl rfl ot aR lk sU (perm_append_singleton _ _).symm Z sR hY O w7 (fun DJ Ol=>?_) (fun DJ Ol=>?_)
      ·refine AI.perm (perm_append_singleton _ _) ?_;refine fT 14 rfl lf ?_;refine AI.wk (y:=⟨46,[(0,_),(1,_),(5,_),(7,_),(43,_)],(⟨b7,153,5,[_,_,_,_,_]⟩::DJ)⟩) (Wk.dV rfl rfl fk) ?_;refine AI.done aA ?_;refine fM ?_;refine cm [0,1,5,7] ?_;refine⟨((a+1),(E++[(((t.ag[i.toNat]'aa)).keys[a],((t.ag[i.toNat]'aa)).kids[a])]),DJ),_,cD,aK,sP,w4,Ol,rfl⟩
      refine fT 14 rfl lf ?_;refine AI.wk (y:=⟨46,[(0,_),(43,_)],(DJ)⟩) (Wk.dV rfl rfl fk) ?_;refine AI.done aA ?_;refine eI ?_;refine CD.ret ?_;refine⟨.inr rfl,⟨_,qn results93⟩,(show 0<46 by decide),DJ,Sublist.refl _,?_⟩;exact .inr ⟨E++[(((t.ag[i.toNat]'aa)).keys[a],((t.ag[i.toNat]'aa)).kids[a])],⟨(jb t (i::r)).drop (a+1),by rw[pP,jm,append_assoc];rfl⟩,Ol,lk⟩
     refine kL rfl eT ?_;refine AI.one (i:=6) aA ?_;refine gK.gM rfl ap rfl rfl rfl call95 (j3 (((t.ag[i.toNat]'aa)).keys[a]) w4) ⟨ot,trivial⟩ ?_;refine fT 12 rfl (nE (pl:=[(0,_),(1,_)]) (ds:=[_,_]) rfl zeroValue90 runUnderlying90 rT ⟨rfl,ot,rfl,ot,trivial⟩ rfl rfl) ?_;refine AI.one (i:=13) aA ?_;refine gK.yield (Y:=Y) (pre:=E) (y:=(((t.ag[i.toNat]'aa)).keys[a],((t.ag[i.toNat]'aa)).kids[a])) (Sc:=I) (R:=[⟨b7,153,5,cP (t.ag[i.toNat]'aa)⟩]) rfl ap rfl rfl ot aR lk sU (perm_append_singleton _ _).symm Z sR hY O w7 (fun DK Om=>?_) (fun DK Om=>?_)
     ·refine AI.perm (perm_append_singleton _ _) ?_;refine fT 14 rfl lf ?_;refine AI.wk (y:=⟨46,[(0,_),(1,_),(5,_),(7,_),(43,_)],(⟨b7,153,5,[_,_,_,_,_]⟩::DK)⟩) (Wk.dV rfl rfl fk) ?_;refine AI.done aA ?_;refine fM ?_;refine cm [0,1,5,7] ?_;refine⟨((a+1),(E++[(((t.ag[i.toNat]'aa)).keys[a],((t.ag[i.toNat]'aa)).kids[a])]),DK),_,cD,aK,sP,w4,Om,rfl⟩
     refine fT 14 rfl lf ?_;refine AI.wk (y:=⟨46,[(0,_),(43,_)],(DK)⟩) (Wk.dV rfl rfl fk) ?_;refine AI.done aA ?_;refine eI ?_;refine CD.ret ?_;refine⟨.inr rfl,⟨_,qn results93⟩,(show 0<46 by decide),DK,Sublist.refl _,?_⟩;exact .inr ⟨E++[(((t.ag[i.toNat]'aa)).keys[a],((t.ag[i.toNat]'aa)).kids[a])],⟨(jb t (i::r)).drop (a+1),by rw[pP,jm,append_assoc];rfl⟩,Om,lk⟩
    refine kL rfl eT ?_;refine AI.one (i:=5) aA ?_;refine kL rfl eT ?_;refine AI.one (i:=6) aA ?_;refine gK.gM rfl ap rfl rfl rfl call95 (j3 (((t.ag[i.toNat]'aa)).keys[a]) w4) ⟨ot,trivial⟩ ?_;refine fT 12 rfl (nE (pl:=[(0,_),(1,_)]) (ds:=[_,_]) rfl zeroValue90 runUnderlying90 rT ⟨rfl,ot,rfl,ot,trivial⟩ rfl rfl) ?_;refine AI.one (i:=13) aA ?_;refine gK.yield (Y:=Y) (pre:=E) (y:=(((t.ag[i.toNat]'aa)).keys[a],((t.ag[i.toNat]'aa)).kids[a])) (Sc:=I) (R:=[⟨b7,153,5,cP (t.ag[i.toNat]'aa)⟩]) rfl ap rfl rfl ot aR lk sU (perm_append_singleton _ _).symm Z sR hY O w7 (fun DL On=>?_) (fun DL On=>?_)
    ·refine AI.perm (perm_append_singleton _ _) ?_;refine fT 14 rfl lf ?_;refine AI.wk (y:=⟨46,[(0,_),(1,_),(5,_),(7,_),(43,_)],(⟨b7,153,5,[_,_,_,_,_]⟩::DL)⟩) (Wk.dV rfl rfl fk) ?_;refine AI.done aA ?_;refine fM ?_;refine cm [0,1,5,7] ?_;refine⟨((a+1),(E++[(((t.ag[i.toNat]'aa)).keys[a],((t.ag[i.toNat]'aa)).kids[a])]),DL),_,cD,aK,sP,w4,On,rfl⟩
    refine fT 14 rfl lf ?_;refine AI.wk (y:=⟨46,[(0,_),(43,_)],(DL)⟩) (Wk.dV rfl rfl fk) ?_;refine AI.done aA ?_;refine eI ?_;refine CD.ret ?_;refine⟨.inr rfl,⟨_,qn results93⟩,(show 0<46 by decide),DL,Sublist.refl _,?_⟩;exact .inr ⟨E++[(((t.ag[i.toNat]'aa)).keys[a],((t.ag[i.toNat]'aa)).kids[a])],⟨(jb t (i::r)).drop (a+1),by rw[pP,jm,append_assoc];rfl⟩,On,lk⟩
   refine kL rfl (dK 0) ?_;refine fT 10 rfl (dF 1 (h:=by first|exact .l (j:=a) rfl uG|exact .r (j:=a) rfl uG)) ?_;refine AI.two (i:=2) (j:=11) aA ?_ ?_
   ·refine kL rfl (dK 0) ?_;refine fT 4 rfl (dF 1 (h:=by first|exact .l (j:=a) rfl qb|exact .r (j:=a) rfl qb)) ?_;refine AI.two (i:=5) (j:=11) aA ?_ ?_
    ·refine kL rfl eT ?_;refine AI.two (i:=6) (j:=11) aA ?_ ?_
     ·refine gK.gM rfl ap rfl rfl rfl call95 (j3 (((t.ag[i.toNat]'aa)).keys[a]) w4) ⟨ot,trivial⟩ ?_;refine AI.one (i:=11) aA ?_;refine kL rfl eT ?_;refine fT 12 rfl (nE (pl:=[(0,_),(1,_)]) (ds:=[_,_]) rfl zeroValue90 runUnderlying90 rT ⟨rfl,ot,rfl,ot,trivial⟩ rfl rfl) ?_;refine AI.one (i:=13) aA ?_;refine gK.yield (Y:=Y) (pre:=E) (y:=(((t.ag[i.toNat]'aa)).keys[a],((t.ag[i.toNat]'aa)).kids[a])) (Sc:=I) (R:=[⟨b7,153,5,cP (t.ag[i.toNat]'aa)⟩]) rfl ap rfl rfl ot aR lk sU (perm_append_singleton _ _).symm Z sR hY O w7 (fun DM Oo=>?_) (fun DM Oo=>?_)
      ·refine AI.perm (perm_append_singleton _ _) ?_;refine fT 14 rfl lf ?_;refine AI.wk (y:=⟨46,[(0,_),(1,_),(5,_),(7,_),(43,_)],(⟨b7,153,5,[_,_,_,_,_]⟩::DM)⟩) (Wk.dV rfl rfl fk) ?_;refine AI.done aA ?_;refine fM ?_;refine cm [0,1,5,7] ?_;refine⟨((a+1),(E++[(((t.ag[i.toNat]'aa)).keys[a],((t.ag[i.toNat]'aa)).kids[a])]),DM),_,cD,aK,sP,w4,Oo,rfl⟩
      refine fT 14 rfl lf ?_;refine AI.wk (y:=⟨46,[(0,_),(43,_)],(DM)⟩) (Wk.dV rfl rfl fk) ?_;refine AI.done aA ?_;refine eI ?_;refine CD.ret ?_;refine⟨.inr rfl,⟨_,qn results93⟩,(show 0<46 by decide),DM,Sublist.refl _,?_⟩;exact .inr ⟨E++[(((t.ag[i.toNat]'aa)).keys[a],((t.ag[i.toNat]'aa)).kids[a])],⟨(jb t (i::r)).drop (a+1),by rw[pP,jm,append_assoc];rfl⟩,Oo,lk⟩
     refine kL rfl eT ?_;refine AI.one (i:=6) aA ?_;refine gK.gM rfl ap rfl rfl rfl call95 (j3 (((t.ag[i.toNat]'aa)).keys[a]) w4) ⟨ot,trivial⟩ ?_;refine fT 12 rfl (nE (pl:=[(0,_),(1,_)]) (ds:=[_,_]) rfl zeroValue90 runUnderlying90 rT ⟨rfl,ot,rfl,ot,trivial⟩ rfl rfl) ?_;refine AI.one (i:=13) aA ?_;refine gK.yield (Y:=Y) (pre:=E) (y:=(((t.ag[i.toNat]'aa)).keys[a],((t.ag[i.toNat]'aa)).kids[a])) (Sc:=I) (R:=[⟨b7,153,5,cP (t.ag[i.toNat]'aa)⟩]) rfl ap rfl rfl ot aR lk sU (perm_append_singleton _ _).symm Z sR hY O w7 (fun DN Oq=>?_) (fun DN Oq=>?_)
     ·refine AI.perm (perm_append_singleton _ _) ?_;refine fT 14 rfl lf ?_;refine AI.wk (y:=⟨46,[(0,_),(1,_),(5,_),(7,_),(43,_)],(⟨b7,153,5,[_,_,_,_,_]⟩::DN)⟩) (Wk.dV rfl rfl fk) ?_;refine AI.done aA ?_;refine fM ?_;refine cm [0,1,5,7] ?_;refine⟨((a+1),(E++[(((t.ag[i.toNat]'aa)).keys[a],((t.ag[i.toNat]'aa)).kids[a])]),DN),_,cD,aK,sP,w4,Oq,rfl⟩
     refine fT 14 rfl lf ?_;refine AI.wk (y:=⟨46,[(0,_),(43,_)],(DN)⟩) (Wk.dV rfl rfl fk) ?_;refine AI.done aA ?_;refine eI ?_;refine CD.ret ?_;refine⟨.inr rfl,⟨_,qn results93⟩,(show 0<46 by decide),DN,Sublist.refl _,?_⟩;exact .inr ⟨E++[(((t.ag[i.toNat]'aa)).keys[a],((t.ag[i.toNat]'aa)).kids[a])],⟨(jb t (i::r)).drop (a+1),by rw[pP,jm,append_assoc];rfl⟩,Oq,lk⟩
    refine kL rfl eT ?_;refine AI.one (i:=5) aA ?_;refine kL rfl eT ?_;refine AI.one (i:=6) aA ?_;refine gK.gM rfl ap rfl rfl rfl call95 (j3 (((t.ag[i.toNat]'aa)).keys[a]) w4) ⟨ot,trivial⟩ ?_;refine fT 12 rfl (nE (pl:=[(0,_),(1,_)]) (ds:=[_,_]) rfl zeroValue90 runUnderlying90 rT ⟨rfl,ot,rfl,ot,trivial⟩ rfl rfl) ?_;refine AI.one (i:=13) aA ?_;refine gK.yield (Y:=Y) (pre:=E) (y:=(((t.ag[i.toNat]'aa)).keys[a],((t.ag[i.toNat]'aa)).kids[a])) (Sc:=I) (R:=[⟨b7,153,5,cP (t.ag[i.toNat]'aa)⟩]) rfl ap rfl rfl ot aR lk sU (perm_append_singleton _ _).symm Z sR hY O w7 (fun DO Ot=>?_) (fun DO Ot=>?_)
    ·refine AI.perm (perm_append_singleton _ _) ?_;refine fT 14 rfl lf ?_;refine AI.wk (y:=⟨46,[(0,_),(1,_),(5,_),(7,_),(43,_)],(⟨b7,153,5,[_,_,_,_,_]⟩::DO)⟩) (Wk.dV rfl rfl fk) ?_;refine AI.done aA ?_;refine fM ?_;refine cm [0,1,5,7] ?_;refine⟨((a+1),(E++[(((t.ag[i.toNat]'aa)).keys[a],((t.ag[i.toNat]'aa)).kids[a])]),DO),_,cD,aK,sP,w4,Ot,rfl⟩
    refine fT 14 rfl lf ?_;refine AI.wk (y:=⟨46,[(0,_),(43,_)],(DO)⟩) (Wk.dV rfl rfl fk) ?_;refine AI.done aA ?_;refine eI ?_;refine CD.ret ?_;refine⟨.inr rfl,⟨_,qn results93⟩,(show 0<46 by decide),DO,Sublist.refl _,?_⟩;exact .inr ⟨E++[(((t.ag[i.toNat]'aa)).keys[a],((t.ag[i.toNat]'aa)).kids[a])],⟨(jb t (i::r)).drop (a+1),by rw[pP,jm,append_assoc];rfl⟩,Ot,lk⟩
   refine kL rfl eT ?_;refine AI.one (i:=2) aA ?_;refine kL rfl (dK 0) ?_;refine fT 4 rfl (dF 1 (h:=by first|exact .l (j:=a) rfl qb|exact .r (j:=a) rfl qb)) ?_;refine AI.one (i:=5) aA ?_;refine kL rfl eT ?_;refine AI.one (i:=6) aA ?_;refine gK.gM rfl ap rfl rfl rfl call95 (j3 (((t.ag[i.toNat]'aa)).keys[a]) w4) ⟨ot,trivial⟩ ?_;refine fT 12 rfl (nE (pl:=[(0,_),(1,_)]) (ds:=[_,_]) rfl zeroValue90 runUnderlying90 rT ⟨rfl,ot,rfl,ot,trivial⟩ rfl rfl) ?_;refine AI.one (i:=13) aA ?_;refine gK.yield (Y:=Y) (pre:=E) (y:=(((t.ag[i.toNat]'aa)).keys[a],((t.ag[i.toNat]'aa)).kids[a])) (Sc:=I) (R:=[⟨b7,153,5,cP (t.ag[i.toNat]'aa)⟩]) rfl ap rfl rfl ot aR lk sU (perm_append_singleton _ _).symm Z sR hY O w7 (fun CC Mg=>?_) (fun CC Mg=>?_)
   ·refine AI.perm (perm_append_singleton _ _) ?_;refine fT 14 rfl lf ?_;refine AI.wk (y:=⟨46,[(0,_),(1,_),(5,_),(7,_),(43,_)],(⟨b7,153,5,[_,_,_,_,_]⟩::CC)⟩) (Wk.dV rfl rfl fk) ?_;refine AI.done aA ?_;refine fM ?_;refine cm [0,1,5,7] ?_;refine⟨((a+1),(E++[(((t.ag[i.toNat]'aa)).keys[a],((t.ag[i.toNat]'aa)).kids[a])]),CC),_,cD,aK,sP,w4,Mg,rfl⟩
   refine fT 14 rfl lf ?_;refine AI.wk (y:=⟨46,[(0,_),(43,_)],(CC)⟩) (Wk.dV rfl rfl fk) ?_;refine AI.done aA ?_;refine eI ?_;refine CD.ret ?_;refine⟨.inr rfl,⟨_,qn results93⟩,(show 0<46 by decide),CC,Sublist.refl _,?_⟩;exact .inr ⟨E++[(((t.ag[i.toNat]'aa)).keys[a],((t.ag[i.toNat]'aa)).kids[a])],⟨(jb t (i::r)).drop (a+1),by rw[pP,jm,append_assoc];rfl⟩,Mg,lk⟩
  have eZ:a=(t.pg i).keys.length:=(by rw[gS];have:=aY;simp at this;omega)
  refine cm [0,1,4,5] ?_;refine⟨(r,0,E,I),_,(by (show length r<length (i::r);simp)),(aK (h:=by repeat (first|exact trivial|refine⟨(by (repeat (first|exact fD|(apply fV;focus (first|rfl|(simp;done)|(rw[←gS,ff.next hL.pp])))|(apply fH;focus rfl)));done),?_⟩))),hL.tail,(by rw[pP,aas v hL eZ]),(fun x hx=>Nat.zero_le _),Z,rfl⟩
 have akw:ls=[]:=hL.head.2 xR;refine CD.exit ?_;refine⟨.inl rfl,⟨_,qn results93⟩,(show 0<46 by decide),Sc,Sublist.refl _,?_⟩;exact .inl ⟨pre,by rw[Og,akw];simp[jb],hj,lk⟩

open Go.Lib (compareBytes)
theorem afN(e:K×Int):(cE e).all V.one=true:=rfl
theorem agE(k:K):fK (cK k)=true:=by simp[cK,fK,iF,zf]
theorem agF(n:Int):fK (cI n)=true:=rfl
theorem agG(p:da):fK (cP p)=true:=by simp[cP,fK,iF,zf,uR agE,uR agF]
def VD(t:aG)(k:K):D:=.ez (.func 93) (La t k)
noncomputable def u7(eV:K)(x:K×Int):Bool:=decide (0<eV.length∧bB eV x.1)
noncomputable def xm(t:aG)(h:Nat)(f eV:K):List (K×Int):=(nk t h f).takeWhile fun x=>!u7 eV x
noncomputable def wU(t:aG)(h:Nat)(f eV:K):List (K×Int)×Int:=if gD t=0 then (if f.length≤100∧eV.length≤100 then (xm t h f eV,0) else ([],1)) else ([],gD t)
theorem IT{α:Type}{p:α→Bool}:∀{l:List α},(∀x∈l,p x=true)→l.takeWhile p=l
 | [],_=>rfl
 | x::l,h=>by rw[takeWhile_cons,if_pos (h x mem_cons_self),IT fun y hy=>h y (mem_cons_of_mem _ hy)]
theorem Qu{α:Type}{p:α→Bool}{y:α}{r:List α}(hy:p y=false):∀{l:List α},(∀x∈l,p x=true)→(l++y::r).takeWhile p=l
 | [],_=>by rw[nil_append,takeWhile_cons,if_neg (by rw[hy];decide)]
 | x::l,h=>by rw[cons_append,takeWhile_cons,if_pos (h x mem_cons_self),Qu hy fun y hy=>h y (mem_cons_of_mem _ hy)]
def xn(b9 b5:Nat)(eV:K)(pre:List (K×Int))(Sc:List ah):Prop:=(∀x∈pre,u7 eV x=false)∧∃ad cap So,bn 90 2 (pre.flatMap cE) pre.length ad cap So∧Sc=⟨b9,85,1,[aN ad pre.length cap]⟩::⟨b5,88,1,[av 1 cB eV]⟩::So
def Gg(b9 b5:Nat)(eV:K)(pre:List (K×Int))(Sc:List ah):Prop:=∃init y,pre=init++[y]∧u7 eV y=true∧xn b9 b5 eV init Sc
theorem xn.iF{b9 b5:Nat}{eV:K}{pre:List (K×Int)}{Sc:List ah}(h:xn b9 b5 eV pre Sc):∀B∈Sc,fK B.cs=true:=by
 obtain⟨_,ad,cap,So,ho,rfl⟩:=h;intro B E;rcases mem_cons.1 E with rfl|E
 ·rfl
 rcases mem_cons.1 E with rfl|E
 ·simp[fK,V.iF,zf]
 rcases ho with ⟨_,_,_,_,rfl⟩|⟨b,_,_,_,rfl⟩
 ·cases E
 rw[mem_singleton] at E;subst E;exact uR zg pre
theorem Gg.iF{b9 b5:Nat}{eV:K}{pre:List (K×Int)}{Sc:List ah}(h:Gg b9 b5 eV pre Sc):∀B∈Sc,fK B.cs=true:=by
 obtain⟨init,y,_,_,h⟩:=h;exact h.iF
def Lb(b9 b5:Nat)(eV:K)(pre:List (K×Int))(y:K×Int)(Sc:List ah)(z:St):Prop:=xn b9 b5 eV pre Sc∧∃k8,z=⟨43,[(5,dL b5),(9,dL b9),(10,dL k8)],⟨k8,90,2,cE y⟩::Sc⟩
theorem Lb.iF{b9 b5:Nat}{eV:K}{pre:List (K×Int)}{y:K×Int}{Sc:List ah}{z:St}(h:Lb b9 b5 eV pre y Sc z):(z.env.all fun p=>V.iF p.2)=true∧∀B∈z.S,fK B.cs=true:=by
 obtain⟨hj,k8,rfl⟩:=h;refine⟨rfl,fun B E=>?_⟩;rcases mem_cons.1 E with rfl|E
 ·exact zg y
 exact hj.iF B E
theorem adC{b9 b5:Nat}{t:aG}{h:Nat}{f eV:K}{Sc:List ah}{c d:Code}(he:(∃xs,xs=nk t h f∧xn b9 b5 eV xs Sc)∨(c=d∧∃pre,pre <+: nk t h f∧Gg b9 b5 eV pre Sc)):∃I,I=xm t h f eV∧xn b9 b5 eV I Sc:=by
 rcases he with ⟨xs,rfl,hj⟩|⟨_,pre,⟨r,hr⟩,E,y,rfl,hy,hj⟩
 ·exact⟨_,(IT fun x hx=>by rw[hj.1 x hx];rfl).symm,hj⟩
 refine⟨E,?_,hj⟩;unfold xm;rw[←hr,append_assoc,singleton_append];exact(Qu (by rw[hy];rfl) fun x hx=>by rw[hj.1 x hx];rfl).symm
theorem afa(t:aG)(k:K):VC Tryz.prog G 50 [.agg (cT t),av 1 cB k] [] (fun r S=>∃b2 b3,r = .ez (.func 93) [dL b2,dL b3]∧S=[⟨b3,88,1,[av 1 cB k]⟩,⟨b2,51,2,cT t⟩]):=by
 refine VC.body func50 rfl ntmps50 aR fun X0 w0 aZ=>?_;unfold cT;refine bY ?_;refine OD.box (ds:=[_,_]) ap rfl rfl ot rfl rfl (fun b2=>?_);refine OD.box (ds:=[_]) ap rfl rfl ot rfl rfl (fun b3=>?_);refine an 6 [2,3] ?_;refine cZ [4] ?_;refine aS 0 ?_ (h:=by exact(pA (ds:=[_,_]) rfl ⟨ot,ot,trivial⟩));refine bG ?_;refine aI [_,_] ?_;exact⟨_,_,rfl,rfl⟩
theorem afb(t:aG)(k:K):VP Tryz.prog G 50 [.agg (cT t),av 1 cB k] (VD t k):=VC.cover (afa t k) fun r S ⟨b2,b3,hr,hS⟩=>by
 subst hr;subst hS;exact acE ⟨Rg (e:=51) (size:=2) (cs:=cT t) (mem_cons_of_mem _ mem_cons_self) gF.same,Rg (e:=88) (size:=1) mem_cons_self gF.same,trivial⟩
theorem Z2:(Tryz.prog.info? 90).map (fun i=>(i.zero,i.size,i.bytes))=some (some (.agg #[.slice none 0 0,.int .i64 0]),2,32):=by kernel_rfl
theorem afc(t:aG)(h:Nat)(hb:∀p∈t.ag,p.keys.length≤maxLen∧p.kids.length≤maxLen)(hv:gD t=0→Valid t h)(f eV:K):VP Tryz.prog G 30 [.agg (cT t),av 1 cB f,av 1 cB eV] (.dI [.list 2 ((wU t h f eV).1.flatMap cE) (wU t h f eV).1.length,ae (wU t h f eV).2]):=by
 refine VC.zv func30 rfl ntmps30 aR fun X0 w0 aZ=>?_;have dm:=ec;have fb:=pB (G:=G) t hb;have U:=afb (G:=G) t f;unfold cT at fb U;unfold cT;refine bY ?_;refine OD.box (ds:=[_,_]) ap rfl rfl ot rfl rfl (fun b3=>?_);refine OD.box (ds:=[_]) ap rfl rfl ot rfl rfl (fun b5=>?_);refine an 43 [1,3,5] ?_;refine cJ [1,3,5,8] (fb) ?_;refine af [1,3,5,8,14] ?_;refine au ?_ ?_<;>intro aM bD
 ·have hn:¬gD t=0:=(by simpa using aM)
  refine af [6,7] ?_;refine CD.wk (Wk.tL (t:=6) (sz:=2) lk) ?_;refine aI [] ?_;exact⟨by unfold wU;rw[if_neg hn];rfl,rfl⟩
 have hz:gD t=0:=(by simpa using aM)
 have v:=hv hz;have VB:=R5 v f;refine aD 4 ?_;refine bV 19 (fun Z O=>?_) (fun Z O=>?_)
 ·refine bg [1,3,5,23] ?_;refine eI ?_;exact XM
 refine bg [1,3,5,23] ?_;refine au ?_ ?_<;>intro aY cy
 ·exact XM
 have aoU:f.length≤100∧eV.length≤100:=(by simp_all;omega)
 have hf1:f.length≤maxLen:=(by omega)
 refine bY ?_;refine OD.alloc (ds:=[_]) ap rfl rfl zeroValue85 rfl (fun b9=>?_);refine an 43 [1,3,5,9] ?_;refine CD.aiT ?_;refine dM 2 ?_;refine dQ call50 (U) ?_;refine an 43 [5,9,26] ?_;refine vP.wk (Wk.drop _ _ _ [⟨b9,85,1,[cf]⟩,⟨b5,88,1,[av 1 cB eV]⟩] (Sublist.cons_cons _ (Sublist.cons_cons _ (Sublist.cons _ (Sublist.refl _))))) ?_;refine vP.range ot call93 (adB t h v f hf1) (fun _=>rfl) adA (.exit 0) (.inr rfl) (xn b9 b5 eV) (Gg b9 b5 eV) (fun _ _ h=>h.iF) (fun _ _ h=>h.iF) ⟨(fun _ h=>by cases h),none,0,[],iv,rfl⟩ (Lb b9 b5 eV) (fun _ _ _ _ h=>h.iF) ?_ ?_ ?_ (fun h=>by cases h)
 ·intro X1 W1 S1 l1 pre y Sc hJ hN;refine CI.region M1 rfl ?_;refine OD.alloc (ds:=[_,_]) ap rfl rfl zeroValue90 rfl (fun k8=>?_);refine aP 0 [_,_] sizeOf90 ?_;refine OD.wk (Wk.dV (n:=43) (l':=[(5,_),(9,_),(10,_)]) (S':=(⟨k8,90,2,[_,_]⟩::Sc)) rfl rfl fk) ?_;refine OD.nil ?_;exact⟨rfl,hJ,k8,rfl⟩
 ·intro X1 W1 S1 l1 pre y Sc z hJ hN hz;obtain⟨⟨aQ,ad,cap,So,ho,rfl⟩,k8,rfl⟩:=hz;unfold cE;refine CI.block ?_;refine CI.seq ?_;refine CI.seq ?_;refine CI.region M1 rfl ?_;refine bN (dK 2) ?_;refine bN qO ?_;refine bN mT ?_;refine om_ ?_;refine OD.split (t:=31) lk (fun I=>?_) (fun I=>?_)
  ·have E:=I;(try simp only[V.nv,ne_eq] at E)
   refine bN (dr 0) ?_;refine bN (dK 0) ?_;refine bN (dK 2) ?_;refine OD.gM gW rfl rfl rfl call51 (wI y.1 eV) ⟨ot,ot,trivial⟩ ?_;refine bN mT ?_;refine bN xA ?_;refine OD.wk (Wk.dV (n:=43) (l':=[(9,_),(10,_),(37,_)]) (S':=(⟨k8,90,2,[_,_]⟩::⟨b9,85,1,[_]⟩::⟨b5,88,1,[_]⟩::So)) rfl rfl fk) ?_;refine OD.nil ?_;refine CI.cond ot (fun bZ=>?_) (fun bZ=>?_)
   ·have cN:=bZ
    (try simp only[V.nv,ne_eq] at cN)
    have fG:u7 eV y=true:=(by unfold u7;simp_all[Uz])
    refine CI.exit ?_;exact⟨rfl,_,Sublist.cons _ (Sublist.refl _),pre,y,rfl,fG,aQ,ad,cap,So,ho,rfl⟩
   have cN:=bZ
   (try simp only[V.nv,ne_eq] at cN)
   exact Xk
  have E:=I;(try simp only[V.nv,ne_eq] at E)
  refine Db ?_;refine Db ?_;refine Db ?_;refine Db ?_;refine Db ?_;refine bN vj ?_;refine X3 [9,10,37] ?_;refine CI.KZ ot jr ?_;exact Xk
 intro W1 S1 D1 Sc eZ;obtain⟨es,hes,aQ,ad,cap,So,ho,rfl⟩:=adC eZ;refine af [6,7] ?_;refine CD.gN (t:=6) (Sq:=So) lk ho (cr UA _) (de (A:=[_,_])) ?_;refine CD.ret ?_;refine⟨rfl,(by simp[iF,fK,uR zg,zf,zg,uR agG,VD,La]),(by intro B hB;simp only[mem_cons,not_mem_nil,or_false] at hB;rcases hB with rfl|rfl<;>simp[iF,fK,zf]),_,[],nil_sublist _,JI results30 (yW aR lk) (yW aR lk),(by simp[iF,fK,uR zg]),?_⟩;rw[hes];exact⟨by unfold wU;rw[if_pos hz,if_pos ⟨by omega,by omega⟩],rfl⟩

end Go.Proofs.YtdgichenhdikgaaGreatDoor.Tw
namespace Go.Proofs.YtdgichenhdikgaaGreatDoor.Tw

open List
open Go.Proofs.Tryz
open Go.RowKit V Tr Pk
variable {t:aG}
theorem T0{α:Type}{g:α→List D}(hg:∀a,(g a).length=1){q:List α}{i cap:Nat}(hi:i<q.length)(hc:q.length≤cap):((q.flatMap g).drop (eM cap (i+1) 1 0)).take ((q.length-(i+1))*1)=(q.drop (i+1)).flatMap g:=by
 unfold eM;by_cases h:cap=i+1
 ·have e:q.length=i+1:=(by omega)
  have e2:q.drop (i+1)=[]:=drop_of_length_le w4;rw[if_pos h,show q.length-(i+1)=0 from by omega,e2];simp
 rw[if_neg h,Nat.zero_add,uQ hg,take_of_length_le];rw[cr hg,length_drop];exact Nat.le_refl _
theorem UZ{α:Type}{g:α→List D}(hg:∀a,(g a).length=1){q:List α}{i:Nat}(hi:i<q.length):dw (q.flatMap g) (i*1) ((q.drop (i+1)).flatMap g)=(q.eraseIdx i).flatMap g++(q.flatMap g).drop (i*1+((q.drop (i+1)).flatMap g).length):=by
 rw[wg _ _ _ (by rw[cr hg,cr hg,length_drop];omega),tN hg,eraseIdx_eq_take_drop_succ,flatMap_append]
variable {G:List (Nat×List Value)}
theorem Zh:(Tryz.prog.info? 88).map (fun i=>i.size)=some 1:=by kernel_rfl
theorem Is(q:List K)(i cap b:Nat)(hi:i<q.length)(hc:q.length≤cap)(hm:cap≤maxLen)(hs:q.length≤1000):VC Tryz.prog G 130 [aN (some ⟨b,0,none⟩) q.length cap,ae (i:Nat),ae ((i+1:Nat):Int)] [⟨b,88,cap*1,q.flatMap cK⟩] (fun r S=>r=aN (some ⟨b,0,none⟩) (q.length-1) cap∧S=[⟨b,88,cap*1,(q.eraseIdx i).flatMap cK⟩]):=by
 refine VC.body func130 rfl ntmps130 aR fun X0 w0 aZ=>?_;refine af [0,1,2] ?_;refine cZ [0,1,2] ?_;refine aS 5 ?_ (h:=by exact(OW rfl ot ot ot ot runUnderlying151 sizeOf88 w4 w4 hc));refine jW ?_;refine af [0,1,2,16] ?_;refine au ?_ ?_<;>intro aM bD
 ·exact absurd aM um
 refine af [0,1,2,7] ?_;refine CD.seq ?_;refine fR 7 (aq (eraseIdx _ 0)) ?_ (fun _ h=>(Sublist.map _ (eraseIdx_sublist _ 0)).subset h);refine az 0 rfl bp ?_;refine az 1 rfl bp ?_;refine az 2 rfl (ey (l:=0) (h:=i) rfl ot trivial ⟨_,ot⟩ MH) ?_;refine az 3 rfl bp ?_;refine az 4 rfl bp ?_;refine az 5 rfl (ey (l:=i+1) rfl ot ⟨_,ot⟩ trivial uj) ?_;refine dD.later rfl ?_;refine AD.one (i:=6) aA ?_;refine bj.Q7 (n:=i) (m:=q.length-(i+1)) (k:=0) (new:=(q.drop (i+1)).flatMap cK) (cs':=(q.eraseIdx i).flatMap cK++(q.flatMap cK).drop (i*1+((q.drop (i+1)).flatMap cK).length)) rfl ap rfl rfl underlying151 Zh ot rfl rfl ot (T0 gl hi hc) (by rw[cr gl,length_drop]) (tU pI _) w4 (by show _≤(q.flatMap cK).length;rw[cr gl];omega) (UZ gl hi) iB ?_;rw[show i+(q.length-(i+1))=q.length-1 from by omega];refine eH ?_;refine bg [0,7] ?_;refine aD 4 ?_;refine bN (ey (l:=q.length-1) (h:=q.length) rfl ot ⟨_,ot⟩ ⟨_,ot⟩ (by first|exact oQ (fun h=>by cases h) runUnderlying151 sizeOf88 w4|exact yT (fun h=>by cases h) (fun h=>by cases h) runUnderlying151 sizeOf88 w4 w4|exact n8 (fun h=>by cases h) (fun h=>by cases h) runUnderlying151 sizeOf88 w4 w4)) ?_;refine OD.shrink (k:=0) (cs':=(q.eraseIdx i).flatMap cK) rfl (prefix_append _ _) ?_;refine OD.clear (k:=0) (sz:=1) ap rfl rfl underlying151 zeroValue88 rfl aA ot rfl rfl (fun h0=>?_) ?_
 ·have h3:eM cap (q.length-1) 1 0=(q.length-1)*1:=(by unfold eM;rw[if_neg w4];omega)
  rw[h3];refine⟨?_,?_⟩
  ·show((q.eraseIdx i).flatMap cK).length≤_;rw[cr gl,length_eraseIdx_of_lt hi];exact Nat.le_refl _
  show _≤cap*1;omega
 refine an 33 [0] ?_;refine af [6] ?_;refine aI [_] ?_;exact⟨rfl,rfl⟩
theorem Zi:(Tryz.prog.info? 3).map (fun i=>i.size)=some 1:=by kernel_rfl
theorem Pd(q:List Int)(i cap b:Nat)(hi:i<q.length)(hc:q.length≤cap)(hm:cap≤maxLen)(hs:q.length≤1000):VC Tryz.prog G 131 [aN (some ⟨b,0,none⟩) q.length cap,ae (i:Nat),ae ((i+1:Nat):Int)] [⟨b,3,cap*1,q.flatMap cI⟩] (fun r S=>r=aN (some ⟨b,0,none⟩) (q.length-1) cap∧S=[⟨b,3,cap*1,(q.eraseIdx i).flatMap cI⟩]):=by
 refine VC.body func131 rfl ntmps131 aR fun X0 w0 aZ=>?_;refine af [0,1,2] ?_;refine cZ [0,1,2] ?_;refine aS 5 ?_ (h:=by exact(OW rfl ot ot ot ot runUnderlying67 sizeOf3 w4 w4 hc));refine jW ?_;refine af [0,1,2,16] ?_;refine au ?_ ?_<;>intro aM bD
 ·exact absurd aM um
 refine af [0,1,2,7] ?_;refine CD.seq ?_;refine fR 7 (aq (eraseIdx _ 0)) ?_ (fun _ h=>(Sublist.map _ (eraseIdx_sublist _ 0)).subset h);refine az 0 rfl bp ?_;refine az 1 rfl bp ?_;refine az 2 rfl (ey (l:=0) (h:=i) rfl ot trivial ⟨_,ot⟩ MI) ?_;refine az 3 rfl bp ?_;refine az 4 rfl bp ?_;refine az 5 rfl (ey (l:=i+1) rfl ot ⟨_,ot⟩ trivial uk) ?_;refine dD.later rfl ?_;refine AD.one (i:=6) aA ?_;refine bj.Q7 (n:=i) (m:=q.length-(i+1)) (k:=0) (new:=(q.drop (i+1)).flatMap cI) (cs':=(q.eraseIdx i).flatMap cI++(q.flatMap cI).drop (i*1+((q.drop (i+1)).flatMap cI).length)) rfl ap rfl rfl underlying67 Zi ot rfl rfl ot (T0 eC hi hc) (by rw[cr eC,length_drop]) (tU nF _) w4 (by show _≤(q.flatMap cI).length;rw[cr eC];omega) (UZ eC hi) iB ?_;rw[show i+(q.length-(i+1))=q.length-1 from by omega];refine eH ?_;refine bg [0,7] ?_;refine aD 4 ?_;refine bN (ey (l:=q.length-1) (h:=q.length) rfl ot ⟨_,ot⟩ ⟨_,ot⟩ (by first|exact oQ (fun h=>by cases h) runUnderlying67 sizeOf3 w4|exact yT (fun h=>by cases h) (fun h=>by cases h) runUnderlying67 sizeOf3 w4 w4|exact n8 (fun h=>by cases h) (fun h=>by cases h) runUnderlying67 sizeOf3 w4 w4)) ?_;refine OD.shrink (k:=0) (cs':=(q.eraseIdx i).flatMap cI) rfl (prefix_append _ _) ?_;refine OD.clear (k:=0) (sz:=1) ap rfl rfl underlying67 zeroValue3 rfl aA ot rfl rfl (fun h0=>?_) ?_
 ·have h3:eM cap (q.length-1) 1 0=(q.length-1)*1:=(by unfold eM;rw[if_neg w4];omega)
  rw[h3];refine⟨?_,?_⟩
  ·show((q.eraseIdx i).flatMap cI).length≤_;rw[cr eC,length_eraseIdx_of_lt hi];exact Nat.le_refl _
  show _≤cap*1;omega
 refine an 33 [0] ?_;refine af [6] ?_;refine aI [_] ?_;exact⟨rfl,rfl⟩

theorem wc{α:Type}{g:α→List D}{sz:Nat}(hg:∀a,(g a).length=sz){a':α}{c:Nat}{d:D}(hc:c<sz):∀{L:List α} {j:Nat} (hj:j<L.length),g a'=(g L[j]).set c d→(L.flatMap g).set (j*sz+c) d=(L.set j a').flatMap g
 | a::L,0,_,h=>by
  simp only[getElem_cons_zero] at h;rw[flatMap_cons,set_cons_zero,flatMap_cons,h,set_append_left _ _ (by rw[hg];omega),Nat.zero_mul,Nat.zero_add]
 | a::L,j+1,hj,h=>by
  have E:=wc hg hc (L:=L) (j:=j) (by simpa using hj) oY;have e:(j+1)*sz+c=sz+(j*sz+c):=(by rw[Nat.succ_mul];omega)
  rw[flatMap_cons,set_cons_succ,flatMap_cons,←E,set_append_right _ _ (by rw[hg];omega),hg,e,show sz+(j*sz+c)-sz=j*sz+c from by omega]
theorem U0{L:List aB}(hL:L.map aB.p=t.ag){i:Int}(hi:0≤i∧i<t.ag.length)(hj:i.toNat<L.length):L[i.toNat].p=t.pg i:=by
 rw[ve hi];have h:(L.map aB.p)[i.toNat]?=some L[i.toNat].p:=(by rw[getElem?_map,getElem?_eq_getElem hj];rfl)
 rw[hL,getElem?_eq_getElem w4] at h;exact(Option.some.inj h).symm
def vU:aG:=⟨[],0⟩
def CE(te:aG×Int)(r:D)(S:List ah):Prop:=∃r',r = .dI [r',ae te.2]∧GK te.1 r' S
theorem y7(e:Int):CE (vU,e) (.dI [.agg [cf,ae 0],ae e]) []:=⟨_,rfl,[],none,0,[],rfl,iv,(fun o h=>by cases h),rfl,rfl⟩
theorem GK.view{r:D}{S:List ah}(h:GK t r S):View S r (.agg (cT t)):=by
 obtain⟨L,ad,cap,Sx,rfl,ho,aQ,hL,rfl⟩:=h;have:=KG (root:=t.root) ho aQ (fun B E=>E);rw[hL] at this;exact this
theorem CE.view{te:aG×Int}{r:D}{S:List ah}(h:CE te r S):View S r (.dI [.agg (cT te.1),ae te.2]):=by
 obtain⟨r',rfl,h⟩:=h;exact EX ⟨h.view,eR,trivial⟩
noncomputable def ri(t:aG)(k:K)(h:Nat):aG×Int:=if lE t k=0 then (if gE t k h=true then (gI t h k,0) else (vU,8)) else (vU,lE t k)
theorem Qv{k:K}(h:lE t k=0):gD t=0∧ox k=true:=by
 have hc:gD t=0:=Classical.byContradiction fun e=>by rw[ET e] at h;exact e h
 refine⟨hc,?_⟩;cases hq:ox k with
 | true=>rfl
 | false=>rw[EA hc hq] at h;cases h
theorem abQ(t:aG)(h:Nat)(k:K)(hb:∀p∈t.ag,p.keys.length≤maxLen∧p.kids.length≤maxLen)(hv:gD t=0→Valid t h):VC Tryz.prog G 90 [.agg [av 5 cP t.ag,ae t.root],av 1 cB k] [] (CE (ri t k h)):=by
 refine VC.body func90 rfl ntmps90 aR fun X0 w0 aZ=>?_;have fb:=Ir (G:=G) t k hb;unfold cT at fb;have hcT:cT t=[av 5 cP t.ag,ae t.root]:=rfl;have dm:=ec;refine bY ?_;refine OD.box (ds:=[_,_]) ap rfl rfl ot rfl rfl (fun b2=>?_);refine OD.alloc (ds:=[_,_]) ap rfl rfl zeroValue51 rfl (fun b4=>?_);refine an 58 [1,2,4] ?_;refine cJ [1,2,4,6] (fb) ?_;refine af [1,2,4,6,16] ?_;refine au ?_ ?_<;>intro aM bD
 ·have hn:¬lE t k=0:=(by simpa using aM)
  refine aD 2 ?_;refine aP 0 [_,_] sizeOf51 ?_;refine an 58 [4,5] ?_;refine aI [] ?_;unfold ri;rw[if_neg hn];exact y7 _
 have hz:lE t k=0:=(by simpa using aM)
 obtain⟨hc,Ou⟩:=Qv hz;have v:=hv hc;have CF:=Jq Ou;have fO:=qt (G:=G) t h v k w4 (Ew v k);obtain⟨q1,E⟩:=v.leaf k;refine aD 1 ?_;refine OD.call ap rfl rfl rfl call121 (FP t h v) ⟨ot,trivial⟩ (eO _) ?_;rintro _ _ ⟨L,ad,cap,Sx,rfl,dW,aQ,hL,rfl⟩;refine OD.perm (dZ (A:=[_,_])) ?_;refine OD.alloc (ds:=[_,_]) ap rfl rfl zeroValue51 rfl (fun b7=>?_);refine aP 0 [_,_] sizeOf51 ?_;refine an 58 [1,4,7] ?_;refine cZ [4,7,8,9,10] ?_;refine ny 2 ?_;refine zL (fO) (ha:=by exact⟨⟨_,ot,by have:=KG (root:=t.root) dW aQ (fun B hB=>mem_cons_of_mem ⟨b7,51,2,[aN ad L.length cap,ae t.root]⟩ (mem_cons_of_mem ⟨b4,51,2,[cf,ae 0]⟩ (mem_cons_of_mem ⟨b2,51,2,[av 5 cP t.ag,ae t.root]⟩ hB)));rw[hL] at this;exact this⟩,⟨_,ot,eR⟩,trivial⟩) (K:=?_);refine bG ?_;refine af [4,7,8,9,29] ?_;refine au ?_ ?_<;>intro aY cy
 ·have gg:gE t k h=false:=(by simpa using aY)
  refine aD 1 ?_;refine aP 1 [_,_] sizeOf51 ?_;refine an 58 [4,5] ?_;refine aI [] ?_;unfold ri;rw[if_pos hz,if_neg vH];exact y7 _
 have gg:gE t k h=true:=(by simpa using aY)
 obtain⟨ha,NY⟩:=(Ev v k).1 gg;have po:=v.fF _ (jF q1);have hle:=po.leaf E;have YU:=po.eJ;have rO:L.length=t.ag.length:=(by rw[←hL,length_map])
 have hj:(aJ t k h t.root).toNat<L.length:=(by omega)
 have O:=U0 hL q1 hj;obtain⟨bx,rfl,fZ,rG,rfl⟩:=dW.pos w4;have U:=aQ _ (getElem_mem hj);obtain⟨o,ho⟩:∃o,o=L[(aJ t k h t.root).toNat]:=⟨_,rfl⟩
 rw[←ho] at U O;rcases o with ⟨p,ak,ck,sk,ai,ci,si⟩
 have gS:p=t.pg (aJ t k h t.root):=O;obtain⟨dP,Z⟩:oT p.keys ak ck sk∧lV p.kids ai ci si:=U;rw[←gS] at ha hle YU;obtain⟨bk,rfl,ee,xU,rfl⟩:=dP.pos w4;obtain⟨bi,rfl,fA,G6,rfl⟩:=Z.pos w4;have I:(L.flatMap bO).Perm (⟨bk,88,ck*1,flatMap cK p.keys⟩::⟨bi,3,ci*1,flatMap cI p.kids⟩::((L.eraseIdx (aJ t k h t.root).toNat).flatMap bO)):=(by have:=y6 bO hj;rw[←ho] at this;exact this)
 refine CD.perm (Perm.cons _ (Perm.cons _ (Perm.cons _ (Perm.cons _ I)))) ?_;rw[gS] at ha;have ha:(aL (t.pg (aJ t k h t.root)) k)<p.keys.length:=(by rw[gS];exact ha)
 have pX:(aL (t.pg (aJ t k h t.root)) k)<p.kids.length:=(by omega)
 have hid:=ee;clear dP Z;refine cZ [4,7,9,11] ?_;refine aS 3 ?_ (h:=by exact(dF 5 (h:=by first|exact .l (j:=(aJ t k h t.root).toNat) (Int.toNat_of_nonneg q1.1).symm hj|exact .r (j:=(aJ t k h t.root).toNat) (Int.toNat_of_nonneg q1.1).symm hj)));refine bG ?_;refine CD.seq ?_;refine fR 21 (aq (take 3 _)) ?_ (fun _ h=>(Sublist.map _ (take_sublist _ _)).subset h);refine az 0 rfl bp ?_;refine az 1 rfl bp ?_;refine az 2 rfl bp ?_;refine az 3 rfl lZ ?_;refine az 4 rfl (dr 1) ?_;refine az 6 rfl bp ?_;refine az 7 rfl bp ?_;refine az 8 rfl (dj (r:=.int .i64 (((aL (t.pg (aJ t k h t.root)) k)+1:Nat):Int)) rfl ot bI (kr (by rw[show(((aL (t.pg (aJ t k h t.root)) k):Nat):Int)+1=(((aL (t.pg (aJ t k h t.root)) k)+1:Nat):Int) from rfl];exact wrap_i64 w4 w4))) ?_;refine az 10 rfl bp ?_;refine az 11 rfl lZ ?_;refine az 12 rfl (dr 2) ?_;refine az 14 rfl bp ?_;refine az 15 rfl bp ?_;refine az 16 rfl (dj (r:=.int .i64 (((aL (t.pg (aJ t k h t.root)) k)+1:Nat):Int)) rfl ot bI (kr (by rw[show(((aL (t.pg (aJ t k h t.root)) k):Nat):Int)+1=(((aL (t.pg (aJ t k h t.root)) k)+1:Nat):Int) from rfl];exact wrap_i64 w4 w4))) ?_;refine dD.later rfl ?_;refine AD.two (i:=5) (j:=13) aA ?_ ?_
 ·first|refine at_ rfl (cW (mk:=Op.load 151) rfl ot (lp (k:=3) (j:=1) (d:=aN (some ⟨bk,0,none⟩) p.keys.length ck) (ls:=L) gk rfl rfl rfl isAgg151 hj rE)) ?_|refine at_ rfl (cW (mk:=Op.load 151) rfl ot (lp (k:=4) (j:=1) (d:=aN (some ⟨bk,0,none⟩) p.keys.length ck) (ls:=L) gk rfl rfl rfl isAgg151 hj rE)) ?_
  refine AD.two (i:=9) (j:=13) aA ?_ ?_
  ·refine bj.call rfl ap rfl rfl rfl call130 (Is p.keys (aL (t.pg (aJ t k h t.root)) k) ck bk ha ee xU w4) ⟨ot,ot,ot,trivial⟩ (ko (k:=4) rfl) iB ?_;rintro _ _ ⟨rfl,rfl⟩;refine AD.perm (perm_middle (l₁:=[_,_,_,_])).symm ?_;refine AD.one (i:=13) aA ?_;first|refine at_ rfl (cW (mk:=Op.load 67) rfl ot (lp (k:=3) (j:=2) (d:=aN (some ⟨bi,0,none⟩) p.kids.length ci) (ls:=L) gk rfl rfl rfl isAgg67 hj rE)) ?_|refine at_ rfl (cW (mk:=Op.load 67) rfl ot (lp (k:=4) (j:=2) (d:=aN (some ⟨bi,0,none⟩) p.kids.length ci) (ls:=L) gk rfl rfl rfl isAgg67 hj rE)) ?_
   exact z8
  first|refine at_ rfl (cW (mk:=Op.load 67) rfl ot (lp (k:=3) (j:=2) (d:=aN (some ⟨bi,0,none⟩) p.kids.length ci) (ls:=L) gk rfl rfl rfl isAgg67 hj rE)) ?_|refine at_ rfl (cW (mk:=Op.load 67) rfl ot (lp (k:=4) (j:=2) (d:=aN (some ⟨bi,0,none⟩) p.kids.length ci) (ls:=L) gk rfl rfl rfl isAgg67 hj rE)) ?_
  refine AD.one (i:=9) aA ?_;refine bj.call rfl ap rfl rfl rfl call130 (Is p.keys (aL (t.pg (aJ t k h t.root)) k) ck bk ha ee xU w4) ⟨ot,ot,ot,trivial⟩ (ko (k:=4) rfl) iB ?_;rintro _ _ ⟨rfl,rfl⟩;refine AD.perm (perm_middle (l₁:=[_,_,_,_])).symm ?_;exact z8
 first|refine at_ rfl (cW (mk:=Op.load 67) rfl ot (lp (k:=3) (j:=2) (d:=aN (some ⟨bi,0,none⟩) p.kids.length ci) (ls:=L) gk rfl rfl rfl isAgg67 hj rE)) ?_|refine at_ rfl (cW (mk:=Op.load 67) rfl ot (lp (k:=4) (j:=2) (d:=aN (some ⟨bi,0,none⟩) p.kids.length ci) (ls:=L) gk rfl rfl rfl isAgg67 hj rE)) ?_
 refine AD.one (i:=5) aA ?_;first|refine at_ rfl (cW (mk:=Op.load 151) rfl ot (lp (k:=3) (j:=1) (d:=aN (some ⟨bk,0,none⟩) p.keys.length ck) (ls:=L) gk rfl rfl rfl isAgg151 hj rE)) ?_|refine at_ rfl (cW (mk:=Op.load 151) rfl ot (lp (k:=4) (j:=1) (d:=aN (some ⟨bk,0,none⟩) p.keys.length ck) (ls:=L) gk rfl rfl rfl isAgg151 hj rE)) ?_
 refine AD.one (i:=9) aA ?_;refine bj.call rfl ap rfl rfl rfl call130 (Is p.keys (aL (t.pg (aJ t k h t.root)) k) ck bk ha ee xU w4) ⟨ot,ot,ot,trivial⟩ (ko (k:=4) rfl) iB ?_;rintro _ _ ⟨rfl,rfl⟩;refine AD.perm (perm_middle (l₁:=[_,_,_,_])).symm ?_;refine AD.one (i:=17) aA ?_;refine bj.call rfl ap rfl rfl rfl call131 (Pd p.kids (aL (t.pg (aJ t k h t.root)) k) ci bi pX fA G6 w4) ⟨ot,ot,ot,trivial⟩ (ko (k:=5) rfl) iB ?_;rintro _ _ ⟨rfl,rfl⟩;refine AD.perm (perm_middle (l₁:=[_,_,_,_,_])).symm ?_;refine cA 18 rfl lZ ?_;refine cA 19 rfl (dr 1) ?_;refine AD.one (i:=20) aA ?_
 refine bj.storeAt (k:=3) (cs':=flatMap gO (L.set (aJ t k h t.root).toNat (⟨{p with keys:=(p.keys.eraseIdx (aL (t.pg (aJ t k h t.root)) k))},some ⟨bk,0,none⟩,ck,[⟨bk,88,ck*1,flatMap cK (p.keys.eraseIdx (aL (t.pg (aJ t k h t.root)) k))⟩],some ⟨bi,0,none⟩,ci,[⟨bi,3,ci*1,flatMap cI p.kids⟩]⟩:aB))) rfl ap rfl rfl ot rfl rfl ot rfl rfl sizeOf151 rfl (by show 0+(aJ t k h t.root).toNat*5+1+1≤(flatMap gO L).length;rw[cr gk];omega) (by show(L.flatMap gO).set (0+(aJ t k h t.root).toNat*5+1) _=_;rw[Nat.zero_add];exact wc gk w7 hj (by rw[←ho];show gO (⟨{p with keys:=(p.keys.eraseIdx (aL (t.pg (aJ t k h t.root)) k))},some ⟨bk,0,none⟩,ck,[⟨bk,88,ck*1,flatMap cK (p.keys.eraseIdx (aL (t.pg (aJ t k h t.root)) k))⟩],some ⟨bi,0,none⟩,ci,[⟨bi,3,ci*1,flatMap cI p.kids⟩]⟩:aB)=(gO (⟨p,some ⟨bk,0,none⟩,ck,[⟨bk,88,ck*1,flatMap cK p.keys⟩],some ⟨bi,0,none⟩,ci,[⟨bi,3,ci*1,flatMap cI p.kids⟩]⟩:aB)).set 1 _;unfold gO;rw[length_eraseIdx_of_lt ha];rfl)) iB ?_;refine eH ?_;refine aE 2 ?_
 refine OD.storeAt (k:=3) (cs':=flatMap gO (L.set (aJ t k h t.root).toNat (⟨(kG p (aL (t.pg (aJ t k h t.root)) k)),some ⟨bk,0,none⟩,ck,[⟨bk,88,ck*1,flatMap cK (p.keys.eraseIdx (aL (t.pg (aJ t k h t.root)) k))⟩],some ⟨bi,0,none⟩,ci,[⟨bi,3,ci*1,flatMap cI (p.kids.eraseIdx (aL (t.pg (aJ t k h t.root)) k))⟩]⟩:aB))) ap rfl rfl ot rfl rfl ot rfl rfl sizeOf67 rfl (by show 0+(aJ t k h t.root).toNat*5+2+1≤(flatMap gO (L.set (aJ t k h t.root).toNat (⟨{p with keys:=(p.keys.eraseIdx (aL (t.pg (aJ t k h t.root)) k))},some ⟨bk,0,none⟩,ck,[⟨bk,88,ck*1,flatMap cK (p.keys.eraseIdx (aL (t.pg (aJ t k h t.root)) k))⟩],some ⟨bi,0,none⟩,ci,[⟨bi,3,ci*1,flatMap cI p.kids⟩]⟩:aB))).length;rw[cr gk,length_set];omega) (by show(flatMap gO (L.set (aJ t k h t.root).toNat (⟨{p with keys:=(p.keys.eraseIdx (aL (t.pg (aJ t k h t.root)) k))},some ⟨bk,0,none⟩,ck,[⟨bk,88,ck*1,flatMap cK (p.keys.eraseIdx (aL (t.pg (aJ t k h t.root)) k))⟩],some ⟨bi,0,none⟩,ci,[⟨bi,3,ci*1,flatMap cI p.kids⟩]⟩:aB))).set (0+(aJ t k h t.root).toNat*5+2) _=_;rw[Nat.zero_add,wc gk (a':=(⟨(kG p (aL (t.pg (aJ t k h t.root)) k)),some ⟨bk,0,none⟩,ck,[⟨bk,88,ck*1,flatMap cK (p.keys.eraseIdx (aL (t.pg (aJ t k h t.root)) k))⟩],some ⟨bi,0,none⟩,ci,[⟨bi,3,ci*1,flatMap cI (p.kids.eraseIdx (aL (t.pg (aJ t k h t.root)) k))⟩]⟩:aB)) w7 xN (by rw[getElem_set_self];show gO (⟨(kG p (aL (t.pg (aJ t k h t.root)) k)),some ⟨bk,0,none⟩,ck,[⟨bk,88,ck*1,flatMap cK (p.keys.eraseIdx (aL (t.pg (aJ t k h t.root)) k))⟩],some ⟨bi,0,none⟩,ci,[⟨bi,3,ci*1,flatMap cI (p.kids.eraseIdx (aL (t.pg (aJ t k h t.root)) k))⟩]⟩:aB)=(gO (⟨{p with keys:=(p.keys.eraseIdx (aL (t.pg (aJ t k h t.root)) k))},some ⟨bk,0,none⟩,ck,[⟨bk,88,ck*1,flatMap cK (p.keys.eraseIdx (aL (t.pg (aJ t k h t.root)) k))⟩],some ⟨bi,0,none⟩,ci,[⟨bi,3,ci*1,flatMap cI p.kids⟩]⟩:aB)).set 2 _;unfold gO kG;simp only[];rw[length_eraseIdx_of_lt pX];rfl),set_set]) ?_
 have vK:(⟨bk,88,ck*1,flatMap cK (p.keys.eraseIdx (aL (t.pg (aJ t k h t.root)) k))⟩::⟨bi,3,ci*1,flatMap cI (p.kids.eraseIdx (aL (t.pg (aJ t k h t.root)) k))⟩::((L.eraseIdx (aJ t k h t.root).toNat).flatMap bO)).Perm ((L.set (aJ t k h t.root).toNat (⟨(kG p (aL (t.pg (aJ t k h t.root)) k)),some ⟨bk,0,none⟩,ck,[⟨bk,88,ck*1,flatMap cK (p.keys.eraseIdx (aL (t.pg (aJ t k h t.root)) k))⟩],some ⟨bi,0,none⟩,ci,[⟨bi,3,ci*1,flatMap cI (p.kids.eraseIdx (aL (t.pg (aJ t k h t.root)) k))⟩]⟩:aB)).flatMap bO):=(qT bO hj (⟨(kG p (aL (t.pg (aJ t k h t.root)) k)),some ⟨bk,0,none⟩,ck,[⟨bk,88,ck*1,flatMap cK (p.keys.eraseIdx (aL (t.pg (aJ t k h t.root)) k))⟩],some ⟨bi,0,none⟩,ci,[⟨bi,3,ci*1,flatMap cI (p.kids.eraseIdx (aL (t.pg (aJ t k h t.root)) k))⟩]⟩:aB)).symm;refine OD.perm (Perm.cons _ (Perm.cons _ (Perm.cons _ (Perm.cons _ vK)))) ?_;refine an 58 [4,7] ?_;refine aD 1 ?_;refine aP 1 [_,_] sizeOf51 ?_;refine an 58 [4,5] ?_
 refine aI ([⟨bx,153,cap*5,flatMap gO (L.set (aJ t k h t.root).toNat (⟨(kG p (aL (t.pg (aJ t k h t.root)) k)),some ⟨bk,0,none⟩,ck,[⟨bk,88,ck*1,flatMap cK (p.keys.eraseIdx (aL (t.pg (aJ t k h t.root)) k))⟩],some ⟨bi,0,none⟩,ci,[⟨bi,3,ci*1,flatMap cI (p.kids.eraseIdx (aL (t.pg (aJ t k h t.root)) k))⟩]⟩:aB))⟩]++(L.set (aJ t k h t.root).toNat (⟨(kG p (aL (t.pg (aJ t k h t.root)) k)),some ⟨bk,0,none⟩,ck,[⟨bk,88,ck*1,flatMap cK (p.keys.eraseIdx (aL (t.pg (aJ t k h t.root)) k))⟩],some ⟨bi,0,none⟩,ci,[⟨bi,3,ci*1,flatMap cI (p.kids.eraseIdx (aL (t.pg (aJ t k h t.root)) k))⟩]⟩:aB)).flatMap bO) ?_;unfold ri;rw[if_pos hz,if_pos gg];refine⟨_,rfl,L.set (aJ t k h t.root).toNat (⟨(kG p (aL (t.pg (aJ t k h t.root)) k)),some ⟨bk,0,none⟩,ck,[⟨bk,88,ck*1,flatMap cK (p.keys.eraseIdx (aL (t.pg (aJ t k h t.root)) k))⟩],some ⟨bi,0,none⟩,ci,[⟨bi,3,ci*1,flatMap cI (p.kids.eraseIdx (aL (t.pg (aJ t k h t.root)) k))⟩]⟩:aB),some ⟨bx,0,none⟩,cap,_,by rw[length_set];rfl,bE rD rG,fun x hx=>?_,?_,rfl⟩
 ·rcases mem_or_eq_of_mem_set hx with hx|rfl
  ·exact aQ x hx
  exact⟨bE (by show(p.keys.eraseIdx (aL (t.pg (aJ t k h t.root)) k)).length≤ck;rw[length_eraseIdx_of_lt ha];omega) xU,bE (by show(p.kids.eraseIdx (aL (t.pg (aJ t k h t.root)) k)).length≤ci;rw[length_eraseIdx_of_lt pX];omega) G6⟩
 rw[map_set,hL];show _=t.ag.set (aJ t k h t.root).toNat (kG (t.pg (aJ t k h t.root)) (aL (t.pg (aJ t k h t.root)) k));rw[←gS]
theorem abR(t:aG)(h:Nat)(k:K)(hb:∀p∈t.ag,p.keys.length≤maxLen∧p.kids.length≤maxLen)(E:gD t=0→Valid t h):VP Tryz.prog G 90 [.agg (cT t),av 1 cB k] (.dI [.agg (cT (ri t k h).1),ae (ri t k h).2]):=(abQ t h k hb E).cover fun r S hr=>hr.view

def WK(L:List aB)(b:Nat)(root:Int)(j:Nat)(p:da)(r:D)(S:List ah):Prop:=r = .dI [.list 1 ((jj p).flatMap cB) (jj p).length,ae (L.length:Nat)]∧∃L' ad cap Sx,uf L' ad cap Sx∧(∀o∈L',qR o)∧L'.map aB.p=(L.map aB.p).set j (bq p L.length)++[bz p]∧S=⟨b,51,2,[aN ad (length L') cap,ae root]⟩::(Sx++L'.flatMap bO)
theorem yF:(Tryz.prog.info? 153).map (fun i=>(i.zero,i.size,i.bytes))=some (some (.agg #[.bool false,.slice none 0 0,.slice none 0 0,.slice none 0 0,.int .i64 0]),5,88):=by kernel_rfl
theorem adD(L:List aB)(b:Nat)(root i:Int)(ad:Option Addr)(cap:Nat)(Sx:List ah)(hi:0≤i∧i<L.length)(hn:L.length≤10000)(dW:uf L ad cap Sx)(aQ:∀o∈L,qR o)(h5:(L[i.toNat]'w4).p.keys.length=5)(ee:(L[i.toNat]'w4).p.leaf=true→(L[i.toNat]'w4).p.kids.length=5)(yq:(L[i.toNat]'w4).p.leaf=false→(L[i.toNat]'w4).p.kids.length=6)(HQ:∀k∈(L[i.toNat]'w4).p.keys,k.length≤100)(hh:(L[i.toNat]'w4).p.high.length≤100) :
 VC Tryz.prog G 126 [dL b,ae i] (⟨b,51,2,[aN ad L.length cap,ae root]⟩::(Sx++L.flatMap bO)) (WK L b root i.toNat (L[i.toNat]'w4).p):=by
 refine VC.body func126 rfl ntmps126 aR fun X0 w0 aZ=>?_;have dm:=ec;have hj:i.toNat<L.length:=(by omega)
 obtain⟨bx,rfl,fZ,rG,rfl⟩:=dW.pos w4;have yd:=aQ _ (getElem_mem hj);obtain⟨o,ho⟩:∃o,o=L[i.toNat]:=⟨_,rfl⟩
 rw[←ho] at yd h5 ee yq HQ hh ⊢;rcases o with ⟨p,ak,ck,sk,ai,ci,si⟩
 obtain⟨dP,kg⟩:oT p.keys ak ck sk∧lV p.kids ai ci si:=yd;change p.keys.length=5 at h5;change p.leaf=true→p.kids.length=5 at ee;change p.leaf=false→p.kids.length=6 at yq;change ∀k∈p.keys,k.length≤100 at HQ;change p.high.length≤100 at hh;have Lc:(L.flatMap bO).Perm (sk++(si++((L.eraseIdx i.toNat).flatMap bO))):=(by have:=y6 bO hj;rw[←ho] at this;exact this.trans (by rw[show bO ⟨p,ak,ck,sk,ai,ci,si⟩=sk++si from rfl,append_assoc]))
 refine CD.perm (Perm.cons _ (Perm.cons _ Lc)) ?_;have xM:jj p=p.keys[2]'w4:=zc h5;have YW:(p.keys[2]'w4).length≤100:=HQ _ (getElem_mem _);refine af [0,1] ?_;refine aD 5 ?_;refine bN (dF 5 (h:=by first|exact .l (j:=i.toNat) (Int.toNat_of_nonneg hi.1).symm hj|exact .r (j:=i.toNat) (Int.toNat_of_nonneg hi.1).symm hj)) ?_;refine bN (cW (mk:=Op.load 153) rfl ot (dR (k:=1) (ls:=L) (i:=i.toNat) gk rfl rfl rfl isAgg153 sizeOf153 hj)) ?_;refine OD.alloc (ds:=[_,_,_,_,_]) ap rfl rfl zeroValue153 rfl (fun b6=>?_);refine aP 0 [_,_,_,_,_] sizeOf153 ?_;refine an 98 [0,1,6] ?_;refine CD.seq ?_;refine CD.wk (Wk.cover (A:=⟨b6,153,5,gO L[i.toNat]⟩) (R:=⟨b,51,2,[aN (some ⟨bx,0,none⟩) L.length cap,ae root]⟩::⟨bx,153,cap*5,flatMap gO L⟩::((L.eraseIdx i.toNat).flatMap bO)) (Sd:=sk++si) (cs':=cP p) (Perm.cons _ (Perm.cons _ (Perm.cons _ (by rw[←append_assoc];exact perm_append_comm)))) (by show gF _ (gO L[i.toNat]) _;rw[←ho];exact⟨eR,lK dP (cr gl _) (fun B hB=>mem_append_left _ hB),lK kg (cr eC _) (fun B hB=>mem_append_right _ hB),eR,eR,trivial⟩)) ?_;refine dM 7 ?_;refine OD.alloc (ds:=[_,_,_,_,_]) ap rfl rfl zeroValue153 rfl (fun b7=>?_);refine aP 0 [_,_,_,_,_] sizeOf153 ?_;refine an 98 [0,1,6,7] ?_;refine cZ [0,1,6,7,8] ?_
 refine aS 2 ?_ (h:=by exact(oM (mk:=Op.indexAddr 151) rfl ot bI (by first|exact pD runUnderlying151 sizeOf88 (j:=2) rfl w4|exact pH runUnderlying151 sizeOf88 (j:=2) rfl w4)));refine bG ?_;refine CD.cut (fun aH=>∃(b7:Nat),∃(dy:Option Addr),∃(dz:Nat),∃(cL:List ah),∃(dA:Option Addr),∃(dB:Nat),∃(cM:List ah),∃(bK:Option Addr),∃(bL:Nat),∃(bA:List ah),(oT (bz p).keys dy dz cL)∧(lV (bz p).kids dA dB cM)∧(lV (bq p L.length).kids bK bL bA)∧aH=(⟨98,[(0,dL b),(1,ae i),(6,dL b6),(7,dL b7),(8,.list 1 ((jj p).flatMap cB) (jj p).length)],(⟨b7,153,5,[cj p.leaf,aN dy (bz p).keys.length dz,aN dA (bz p).kids.length dB,av 1 cB p.high,ae p.next]⟩::⟨b6,153,5,[cj p.leaf,av 1 cK p.keys,aN bK (bq p L.length).kids.length bL,av 1 cB p.high,ae p.next]⟩::⟨b,51,2,[aN (some ⟨bx,0,none⟩) L.length cap,ae root]⟩::⟨bx,153,cap*5,flatMap gO L⟩::(bA++(cM++(cL++((L.eraseIdx i.toNat).flatMap bO)))))⟩:St)) ?_ ?_
 ·refine af [0,1,6,7,8,28] ?_;refine au ?_ ?_<;>intro aM bD
  ·have fL:p.leaf=true:=aM;have ee:=ee fL;refine CD.seq ?_;refine fR 10 (aq (take 2 (drop 1 _))) ?_ (fun _ h=>(Sublist.map _ ((take_sublist _ _).trans (drop_sublist _ _))).subset h);refine az 0 rfl (dr 1) ?_;refine az 4 rfl (dr 2) ?_;refine dD.later rfl ?_;refine AD.two (i:=1) (j:=5) aA ?_ ?_
   ·refine at_ rfl (dK 1) ?_;refine cA 2 rfl (ey (l:=2) rfl ot ⟨_,bI⟩ trivial G1) ?_;refine AD.two (i:=3) (j:=5) aA ?_ ?_
    ·have B9:VC Tryz.prog G 150 [.list 1 ((p.keys.drop 2).flatMap cK) (p.keys.drop 2).length] [] (fun r S=>∃ad cap,r=aN ad (bz p).keys.length cap∧oT (bz p).keys ad cap S):=(by rw[show(p.keys.drop 2)=(bz p).keys from vC];exact wm _ MQ)
     refine bj.call rfl ap rfl rfl rfl call150 B9 ⟨ot,trivial⟩ (eO _) iB ?_;rintro _ DP ⟨DQ,DR,rfl,CG⟩;refine AD.perm (jk (A:=[_,_,_,_])) ?_;refine cA 8 rfl (dr 1) ?_;refine AD.one (i:=5) aA ?_;refine at_ rfl (dK 1) ?_;refine cA 6 rfl (ey (l:=2) rfl ot ⟨_,bI⟩ trivial Ai) ?_;refine AD.one (i:=7) aA ?_;have Ca:VC Tryz.prog G 120 [.list 1 ((p.kids.drop 2).flatMap cI) (p.kids.drop 2).length] [] (fun r S=>∃ad cap,r=aN ad (bz p).kids.length cap∧lV (bz p).kids ad cap S):=(by rw[show(p.kids.drop 2)=(bz p).kids from vB];exact nY _ MO)
     refine bj.call rfl ap rfl rfl rfl call120 Ca ⟨ot,trivial⟩ (eO _) iB ?_;rintro _ DS ⟨DT,DU,rfl,CH⟩;refine AD.perm (jk (A:=[_,_,_,_])) ?_;refine AD.one (i:=9) aA ?_;refine dV 0 [_,_,_,_,_] sizeOf151 ?_;refine eH ?_;refine aE 1 ?_;refine aP 0 [_,_,_,_,_] sizeOf67 ?_;refine an 98 [0,1,6,7,8] ?_;refine dM 2 ?_;refine bN (ey (l:=0) (h:=2) rfl ot trivial ⟨_,bI⟩ Aj) ?_;have Cb:VC Tryz.prog G 120 [.list 1 ((p.kids.take 2).flatMap cI) (p.kids.take 2).length] [] (fun r S=>∃ad cap,r=aN ad (bq p L.length).kids.length cap∧lV (bq p L.length).kids ad cap S):=(by rw[show(p.kids.take 2)=(bq p L.length).kids from vA];exact nY _ MM)
     refine OD.call ap rfl rfl rfl call120 Cb ⟨ot,trivial⟩ (eO _) ?_;rintro _ DV ⟨DW,DX,rfl,CJ⟩;refine OD.perm (jk (A:=[_,_,_,_])) ?_;refine aE 1 ?_;refine aP 1 [_,_,_,_,_] sizeOf67 ?_;refine an 98 [0,1,6,7,8] ?_;refine⟨_,(aK (h:=by repeat (first|exact trivial|refine⟨zZ,?_⟩))),b7,DQ,DR,DP,DT,DU,DS,DW,DX,DV,CG,CH,CJ,rfl⟩
    refine at_ rfl (dK 1) ?_;refine cA 6 rfl (ey (l:=2) rfl ot ⟨_,bI⟩ trivial Ai) ?_;refine AD.one (i:=3) aA ?_;have B9:VC Tryz.prog G 150 [.list 1 ((p.keys.drop 2).flatMap cK) (p.keys.drop 2).length] [] (fun r S=>∃ad cap,r=aN ad (bz p).keys.length cap∧oT (bz p).keys ad cap S):=(by rw[show(p.keys.drop 2)=(bz p).keys from vC];exact wm _ MQ)
    refine bj.call rfl ap rfl rfl rfl call150 B9 ⟨ot,trivial⟩ (eO _) iB ?_;rintro _ DP ⟨DQ,DR,rfl,CG⟩;refine AD.perm (jk (A:=[_,_,_,_])) ?_;refine cA 8 rfl (dr 1) ?_;refine AD.one (i:=7) aA ?_;have Ca:VC Tryz.prog G 120 [.list 1 ((p.kids.drop 2).flatMap cI) (p.kids.drop 2).length] [] (fun r S=>∃ad cap,r=aN ad (bz p).kids.length cap∧lV (bz p).kids ad cap S):=(by rw[show(p.kids.drop 2)=(bz p).kids from vB];exact nY _ MO)
    refine bj.call rfl ap rfl rfl rfl call120 Ca ⟨ot,trivial⟩ (eO _) iB ?_;rintro _ DS ⟨DT,DU,rfl,CH⟩;refine AD.perm (jk (A:=[_,_,_,_])) ?_;refine AD.one (i:=9) aA ?_;refine dV 0 [_,_,_,_,_] sizeOf151 ?_;refine eH ?_;refine aE 1 ?_;refine aP 0 [_,_,_,_,_] sizeOf67 ?_;refine an 98 [0,1,6,7,8] ?_;refine dM 2 ?_;refine bN (ey (l:=0) (h:=2) rfl ot trivial ⟨_,bI⟩ Aj) ?_;have Cb:VC Tryz.prog G 120 [.list 1 ((p.kids.take 2).flatMap cI) (p.kids.take 2).length] [] (fun r S=>∃ad cap,r=aN ad (bq p L.length).kids.length cap∧lV (bq p L.length).kids ad cap S):=(by rw[show(p.kids.take 2)=(bq p L.length).kids from vA];exact nY _ MM)
    refine OD.call ap rfl rfl rfl call120 Cb ⟨ot,trivial⟩ (eO _) ?_;rintro _ DV ⟨DW,DX,rfl,CJ⟩;refine OD.perm (jk (A:=[_,_,_,_])) ?_;refine aE 1 ?_;refine aP 1 [_,_,_,_,_] sizeOf67 ?_;refine an 98 [0,1,6,7,8] ?_;refine⟨_,(aK (h:=by repeat (first|exact trivial|refine⟨zZ,?_⟩))),b7,DQ,DR,DP,DT,DU,DS,DW,DX,DV,CG,CH,CJ,rfl⟩
   refine at_ rfl (dK 1) ?_;refine cA 6 rfl (ey (l:=2) rfl ot ⟨_,bI⟩ trivial Ai) ?_;refine AD.one (i:=1) aA ?_;refine at_ rfl (dK 1) ?_;refine cA 2 rfl (ey (l:=2) rfl ot ⟨_,bI⟩ trivial G1) ?_;refine AD.one (i:=3) aA ?_;have B9:VC Tryz.prog G 150 [.list 1 ((p.keys.drop 2).flatMap cK) (p.keys.drop 2).length] [] (fun r S=>∃ad cap,r=aN ad (bz p).keys.length cap∧oT (bz p).keys ad cap S):=(by rw[show(p.keys.drop 2)=(bz p).keys from vC];exact wm _ MQ)
   refine bj.call rfl ap rfl rfl rfl call150 B9 ⟨ot,trivial⟩ (eO _) iB ?_;rintro _ DP ⟨DQ,DR,rfl,CG⟩;refine AD.perm (jk (A:=[_,_,_,_])) ?_;refine cA 8 rfl (dr 1) ?_;refine AD.one (i:=7) aA ?_;have Ca:VC Tryz.prog G 120 [.list 1 ((p.kids.drop 2).flatMap cI) (p.kids.drop 2).length] [] (fun r S=>∃ad cap,r=aN ad (bz p).kids.length cap∧lV (bz p).kids ad cap S):=(by rw[show(p.kids.drop 2)=(bz p).kids from vB];exact nY _ MO)
   refine bj.call rfl ap rfl rfl rfl call120 Ca ⟨ot,trivial⟩ (eO _) iB ?_;rintro _ DS ⟨DT,DU,rfl,CH⟩;refine AD.perm (jk (A:=[_,_,_,_])) ?_;refine AD.one (i:=9) aA ?_;refine dV 0 [_,_,_,_,_] sizeOf151 ?_;refine eH ?_;refine aE 1 ?_;refine aP 0 [_,_,_,_,_] sizeOf67 ?_;refine an 98 [0,1,6,7,8] ?_;refine dM 2 ?_;refine bN (ey (l:=0) (h:=2) rfl ot trivial ⟨_,bI⟩ Aj) ?_;have Cb:VC Tryz.prog G 120 [.list 1 ((p.kids.take 2).flatMap cI) (p.kids.take 2).length] [] (fun r S=>∃ad cap,r=aN ad (bq p L.length).kids.length cap∧lV (bq p L.length).kids ad cap S):=(by rw[show(p.kids.take 2)=(bq p L.length).kids from vA];exact nY _ MM)
   refine OD.call ap rfl rfl rfl call120 Cb ⟨ot,trivial⟩ (eO _) ?_;rintro _ DV ⟨DW,DX,rfl,CJ⟩;refine OD.perm (jk (A:=[_,_,_,_])) ?_;refine aE 1 ?_;refine aP 1 [_,_,_,_,_] sizeOf67 ?_;refine an 98 [0,1,6,7,8] ?_;refine⟨_,(aK (h:=by repeat (first|exact trivial|refine⟨zZ,?_⟩))),b7,DQ,DR,DP,DT,DU,DS,DW,DX,DV,CG,CH,CJ,rfl⟩
  have fL:p.leaf=false:=aM;have yq:=yq fL;refine CD.seq ?_;refine fR 10 (aq (take 2 (drop 1 _))) ?_ (fun _ h=>(Sublist.map _ ((take_sublist _ _).trans (drop_sublist _ _))).subset h);refine az 0 rfl (dr 1) ?_;refine az 4 rfl (dr 2) ?_;refine dD.later rfl ?_;refine AD.two (i:=1) (j:=5) aA ?_ ?_
  ·refine at_ rfl (dK 1) ?_;refine cA 2 rfl (ey (l:=3) rfl ot ⟨_,bI⟩ trivial G1) ?_;refine AD.two (i:=3) (j:=5) aA ?_ ?_
   ·have Cc:VC Tryz.prog G 150 [.list 1 ((p.keys.drop 3).flatMap cK) (p.keys.drop 3).length] [] (fun r S=>∃ad cap,r=aN ad (bz p).keys.length cap∧oT (bz p).keys ad cap S):=(by rw[show(p.keys.drop 3)=(bz p).keys from vC];exact wm _ MP)
    refine bj.call rfl ap rfl rfl rfl call150 Cc ⟨ot,trivial⟩ (eO _) iB ?_;rintro _ DY ⟨DZ,D0,rfl,CK⟩;refine AD.perm (jk (A:=[_,_,_,_])) ?_;refine cA 8 rfl (dr 1) ?_;refine AD.one (i:=5) aA ?_;refine at_ rfl (dK 1) ?_;refine cA 6 rfl (ey (l:=3) rfl ot ⟨_,bI⟩ trivial Ai) ?_;refine AD.one (i:=7) aA ?_;have Ce:VC Tryz.prog G 120 [.list 1 ((p.kids.drop 3).flatMap cI) (p.kids.drop 3).length] [] (fun r S=>∃ad cap,r=aN ad (bz p).kids.length cap∧lV (bz p).kids ad cap S):=(by rw[show(p.kids.drop 3)=(bz p).kids from vB];exact nY _ MN)
    refine bj.call rfl ap rfl rfl rfl call120 Ce ⟨ot,trivial⟩ (eO _) iB ?_;rintro _ D2 ⟨a51,D3,rfl,CL⟩;refine AD.perm (jk (A:=[_,_,_,_])) ?_;refine AD.one (i:=9) aA ?_;refine dV 0 [_,_,_,_,_] sizeOf151 ?_;refine eH ?_;refine aE 1 ?_;refine aP 0 [_,_,_,_,_] sizeOf67 ?_;refine an 98 [0,1,6,7,8] ?_;refine dM 2 ?_;refine bN (ey (l:=0) (h:=3) rfl ot trivial ⟨_,bI⟩ Aj) ?_;have Cf:VC Tryz.prog G 120 [.list 1 ((p.kids.take 3).flatMap cI) (p.kids.take 3).length] [] (fun r S=>∃ad cap,r=aN ad (bq p L.length).kids.length cap∧lV (bq p L.length).kids ad cap S):=(by rw[show(p.kids.take 3)=(bq p L.length).kids from vA];exact nY _ ML)
    refine OD.call ap rfl rfl rfl call120 Cf ⟨ot,trivial⟩ (eO _) ?_;rintro _ vS ⟨D4,D5,rfl,vp⟩;refine OD.perm (jk (A:=[_,_,_,_])) ?_;refine aE 1 ?_;refine aP 1 [_,_,_,_,_] sizeOf67 ?_;refine an 98 [0,1,6,7,8] ?_;refine⟨_,(aK (h:=by repeat (first|exact trivial|refine⟨zZ,?_⟩))),b7,DZ,D0,DY,a51,D3,D2,D4,D5,vS,CK,CL,vp,rfl⟩
   refine at_ rfl (dK 1) ?_;refine cA 6 rfl (ey (l:=3) rfl ot ⟨_,bI⟩ trivial Ai) ?_;refine AD.one (i:=3) aA ?_;have Cc:VC Tryz.prog G 150 [.list 1 ((p.keys.drop 3).flatMap cK) (p.keys.drop 3).length] [] (fun r S=>∃ad cap,r=aN ad (bz p).keys.length cap∧oT (bz p).keys ad cap S):=(by rw[show(p.keys.drop 3)=(bz p).keys from vC];exact wm _ MP)
   refine bj.call rfl ap rfl rfl rfl call150 Cc ⟨ot,trivial⟩ (eO _) iB ?_;rintro _ DY ⟨DZ,D0,rfl,CK⟩;refine AD.perm (jk (A:=[_,_,_,_])) ?_;refine cA 8 rfl (dr 1) ?_;refine AD.one (i:=7) aA ?_;have Ce:VC Tryz.prog G 120 [.list 1 ((p.kids.drop 3).flatMap cI) (p.kids.drop 3).length] [] (fun r S=>∃ad cap,r=aN ad (bz p).kids.length cap∧lV (bz p).kids ad cap S):=(by rw[show(p.kids.drop 3)=(bz p).kids from vB];exact nY _ MN)
   refine bj.call rfl ap rfl rfl rfl call120 Ce ⟨ot,trivial⟩ (eO _) iB ?_;rintro _ D2 ⟨a51,D3,rfl,CL⟩;refine AD.perm (jk (A:=[_,_,_,_])) ?_;refine AD.one (i:=9) aA ?_;refine dV 0 [_,_,_,_,_] sizeOf151 ?_;refine eH ?_;refine aE 1 ?_;refine aP 0 [_,_,_,_,_] sizeOf67 ?_;refine an 98 [0,1,6,7,8] ?_;refine dM 2 ?_;refine bN (ey (l:=0) (h:=3) rfl ot trivial ⟨_,bI⟩ Aj) ?_;have Cf:VC Tryz.prog G 120 [.list 1 ((p.kids.take 3).flatMap cI) (p.kids.take 3).length] [] (fun r S=>∃ad cap,r=aN ad (bq p L.length).kids.length cap∧lV (bq p L.length).kids ad cap S):=(by rw[show(p.kids.take 3)=(bq p L.length).kids from vA];exact nY _ ML)
   refine OD.call ap rfl rfl rfl call120 Cf ⟨ot,trivial⟩ (eO _) ?_;rintro _ vS ⟨D4,D5,rfl,vp⟩;refine OD.perm (jk (A:=[_,_,_,_])) ?_;refine aE 1 ?_;refine aP 1 [_,_,_,_,_] sizeOf67 ?_;refine an 98 [0,1,6,7,8] ?_;refine⟨_,(aK (h:=by repeat (first|exact trivial|refine⟨zZ,?_⟩))),b7,DZ,D0,DY,a51,D3,D2,D4,D5,vS,CK,CL,vp,rfl⟩
  refine at_ rfl (dK 1) ?_;refine cA 6 rfl (ey (l:=3) rfl ot ⟨_,bI⟩ trivial Ai) ?_;refine AD.one (i:=1) aA ?_;refine at_ rfl (dK 1) ?_;refine cA 2 rfl (ey (l:=3) rfl ot ⟨_,bI⟩ trivial G1) ?_;refine AD.one (i:=3) aA ?_;have Cc:VC Tryz.prog G 150 [.list 1 ((p.keys.drop 3).flatMap cK) (p.keys.drop 3).length] [] (fun r S=>∃ad cap,r=aN ad (bz p).keys.length cap∧oT (bz p).keys ad cap S):=(by rw[show(p.keys.drop 3)=(bz p).keys from vC];exact wm _ MP)
  refine bj.call rfl ap rfl rfl rfl call150 Cc ⟨ot,trivial⟩ (eO _) iB ?_;rintro _ DY ⟨DZ,D0,rfl,CK⟩;refine AD.perm (jk (A:=[_,_,_,_])) ?_;refine cA 8 rfl (dr 1) ?_;refine AD.one (i:=7) aA ?_;have Ce:VC Tryz.prog G 120 [.list 1 ((p.kids.drop 3).flatMap cI) (p.kids.drop 3).length] [] (fun r S=>∃ad cap,r=aN ad (bz p).kids.length cap∧lV (bz p).kids ad cap S):=(by rw[show(p.kids.drop 3)=(bz p).kids from vB];exact nY _ MN)
  refine bj.call rfl ap rfl rfl rfl call120 Ce ⟨ot,trivial⟩ (eO _) iB ?_;rintro _ D2 ⟨a51,D3,rfl,CL⟩;refine AD.perm (jk (A:=[_,_,_,_])) ?_;refine AD.one (i:=9) aA ?_;refine dV 0 [_,_,_,_,_] sizeOf151 ?_;refine eH ?_;refine aE 1 ?_;refine aP 0 [_,_,_,_,_] sizeOf67 ?_;refine an 98 [0,1,6,7,8] ?_;refine dM 2 ?_;refine bN (ey (l:=0) (h:=3) rfl ot trivial ⟨_,bI⟩ Aj) ?_;have Cf:VC Tryz.prog G 120 [.list 1 ((p.kids.take 3).flatMap cI) (p.kids.take 3).length] [] (fun r S=>∃ad cap,r=aN ad (bq p L.length).kids.length cap∧lV (bq p L.length).kids ad cap S):=(by rw[show(p.kids.take 3)=(bq p L.length).kids from vA];exact nY _ ML)
  refine OD.call ap rfl rfl rfl call120 Cf ⟨ot,trivial⟩ (eO _) ?_;rintro _ vS ⟨D4,D5,rfl,vp⟩;refine OD.perm (jk (A:=[_,_,_,_])) ?_;refine aE 1 ?_;refine aP 1 [_,_,_,_,_] sizeOf67 ?_;refine an 98 [0,1,6,7,8] ?_;refine⟨_,(aK (h:=by repeat (first|exact trivial|refine⟨zZ,?_⟩))),b7,DZ,D0,DY,a51,D3,D2,D4,D5,vS,CK,CL,vp,rfl⟩
 rintro _ ⟨b7,dy,dz,cL,dA,dB,cM,bK,bL,bA,pV,zV,zW,rfl⟩;refine aD 2 ?_;refine bN (ey (l:=0) (h:=2) rfl ot trivial ⟨_,bI⟩ (by first|exact oO gl (fun h=>by cases h) runUnderlying151 sizeOf88 w4|exact oO eC (fun h=>by cases h) runUnderlying151 sizeOf88 w4|exact oQ (fun h=>by cases h) runUnderlying151 sizeOf88 w4|exact n8 (fun _=>rfl) (fun h=>by cases h) runUnderlying151 sizeOf88 w4 w4)) ?_;have ah1:VC Tryz.prog G 150 [.list 1 ((p.keys.take 2).flatMap cK) (p.keys.take 2).length] [] (fun r S=>∃ad cap,r=aN ad (bq p L.length).keys.length cap∧oT (bq p L.length).keys ad cap S):=(by rw[show(p.keys.take 2)=(bq p L.length).keys from rfl];exact wm _ (by rw[←show(p.keys.take 2)=(bq p L.length).keys from rfl];simp only[length_take,length_drop];omega))
 refine OD.call ap rfl rfl rfl call150 ah1 ⟨ot,trivial⟩ (eO _) ?_;rintro _ cg ⟨cu,cx,rfl,zX⟩;refine OD.perm (jk (A:=[_,_,_,_])) ?_;refine aE 1 ?_;refine aP 1 [_,_,_,_,_] sizeOf151 ?_;refine an 98 [0,1,6,7,8] ?_;refine CD.seq ?_;refine fR 9 (aq (take 1 (drop 0 _))) ?_ (fun _ h=>(Sublist.map _ ((take_sublist _ _).trans (drop_sublist _ _))).subset h);refine az 0 rfl bp ?_;refine az 2 rfl bp ?_;refine az 3 rfl lZ ?_;refine az 4 rfl (dr 0) ?_;refine dD.later rfl ?_;refine AD.two (i:=1) (j:=5) aA ?_ ?_
 ·refine jJ call95 (j3 (jj p) vJ) ?_;refine cA 7 rfl (dr 3) ?_;refine AD.two (i:=5) (j:=8) aA ?_ ?_
  ·refine at_ rfl (dK 2) ?_;refine cA 6 rfl qO ?_;refine AD.one (i:=8) aA ?_;refine dV 1 [_,_,_,_,_] sizeOf88 ?_;refine eH ?_;refine aE 1 ?_;refine aP 1 [_,_,_,_,_] sizeOf3 ?_;refine an 98 [0,1,6,7,8] ?_;refine CD.seq ?_;refine lF 6 [0,7,8,76,77,78] ?_;refine bG ?_;refine bN (dF 5 (h:=by first|exact .l (j:=i.toNat) (Int.toNat_of_nonneg hi.1).symm hj|exact .r (j:=i.toNat) (Int.toNat_of_nonneg hi.1).symm hj)) ?_;refine OD.storeAt (k:=3) (cs':=flatMap gO (L.set i.toNat (⟨bq p L.length,cu,cx,cg,bK,bL,bA⟩:aB))) ap rfl rfl ot rfl rfl ot rfl rfl sizeOf153 rfl MS MF ?_;refine an 98 [0,7,8] ?_;refine CD.seq ?_;refine fR 8 (aq (take 2 _)) ?_ (fun _ h=>(Sublist.map _ (take_sublist _ _)).subset h);refine az 0 rfl bp ?_;refine az 1 rfl bp ?_;refine az 2 rfl lZ ?_;refine az 3 rfl (dr 0) ?_;refine az 5 rfl (Ck 0 [_,_,_,_,_]) ?_;refine dD.later rfl ?_;refine AD.two (i:=4) (j:=6) aA ?_ ?_
   ·refine at_ rfl (cW (mk:=Op.load 49) rfl ot (r8 (k:=2) (d:=aN (some ⟨bx,0,none⟩) (L.set i.toNat (⟨bq p L.length,cu,cx,cg,bK,bL,bA⟩:aB)).length cap) rfl rfl isAgg49 Am)) ?_;refine AD.one (i:=6) aA ?_;refine js (bW 0 [_]) [.bool false,.slice none 0 0,.slice none 0 0,.slice none 0 0,.int .i64 0] [_,_,_,_,_] zeroValue153 runUnderlying49 sizeOf153 (fun uH=>?_);refine jt 0 86 5 1 ?_;refine AD.one (i:=7) aA ?_;refine bj.ek (ls:=(L.set i.toNat (⟨bq p L.length,cu,cx,cg,bK,bL,bA⟩:aB))) (new:=[(⟨bz p,dy,dz,cL,dA,dB,cM⟩:aB)]) (Sq:=[⟨bx,153,cap*5,flatMap gO (L.set i.toNat (⟨bq p L.length,cu,cx,cg,bK,bL,bA⟩:aB))⟩]) gk uV rfl ap rfl rfl underlying49 yF rfl w7 ot (bE rD rG) (ko (k:=3) rfl) ot bf Ae Af (hT:=by intro x0 O;have O:x0∈[b7,b6]:=O;show x0∈(b7::b6::_:List Nat);simp only[mem_cons,not_mem_nil,or_false] at O ⊢;omega) (fun I E U Z=>?_);refine eH ?_;refine aE 2 ?_;refine aP 3 [_,_] sizeOf49 ?_;refine an 98 [0,8] ?_;refine CD.seq ?_;refine fR 9 (aq _) ?_ (fun _ h=>h);refine az 0 rfl bp ?_;refine az 2 rfl bp ?_;refine az 3 rfl lZ ?_;refine az 4 rfl (dr 0) ?_;refine az 5 rfl (dK 3) ?_;refine az 6 rfl qO ?_;refine az 7 rfl (dj (r:=.int .i64 (L.length:Nat)) rfl ot bI (gj Ah)) ?_;refine dD.later rfl ?_;refine AD.one (i:=1) aA ?_;refine jJ call95 (j3 (jj p) vJ) ?_
    have oV:(cg++(bA++(cM++(cL++((L.eraseIdx i.toNat).flatMap bO))))).Perm (((L.set i.toNat (⟨bq p L.length,cu,cx,cg,bK,bL,bA⟩:aB))++[(⟨bz p,dy,dz,cL,dA,dB,cM⟩:aB)]).flatMap bO):=iH fun jg=>by have hq:=yK (qT bO hj (⟨bq p L.length,cu,cx,cg,bK,bL,bA⟩:aB)) jg;rw[flatMap_append,show[(⟨bz p,dy,dz,cL,dA,dB,cM⟩:aB)].flatMap bO=cL++(cM++[]) from by simp[bO]];simp only[show bO (⟨bq p L.length,cu,cx,cg,bK,bL,bA⟩:aB)=cg++bA from rfl,map_append,map_cons,map_nil,sum_append,sum_cons,sum_nil] at *;omega
    refine AD.perm (S':=⟨b7,153,5,gO (⟨bz p,dy,dz,cL,dA,dB,cM⟩:aB)⟩::⟨b6,153,5,gO (⟨bq p L.length,cu,cx,cg,bK,bL,bA⟩:aB)⟩::⟨b,51,2,[aN (some ⟨I,0,none⟩) ((L.set i.toNat (⟨bq p L.length,cu,cx,cg,bK,bL,bA⟩:aB))++[(⟨bz p,dy,dz,cL,dA,dB,cM⟩:aB)]).length E,ae root]⟩::(([⟨I,153,E*5,flatMap gO ((L.set i.toNat (⟨bq p L.length,cu,cx,cg,bK,bL,bA⟩:aB))++[(⟨bz p,dy,dz,cL,dA,dB,cM⟩:aB)])⟩]:List ah)++((L.set i.toNat (⟨bq p L.length,cu,cx,cg,bK,bL,bA⟩:aB))++[(⟨bz p,dy,dz,cL,dA,dB,cM⟩:aB)]).flatMap bO)) Aa ?_;refine cA 8 rfl bp ?_;refine eH ?_;refine bg [4,5] ?_;refine aI (⟨b,51,2,[aN (some ⟨I,0,none⟩) ((L.set i.toNat (⟨bq p L.length,cu,cx,cg,bK,bL,bA⟩:aB))++[(⟨bz p,dy,dz,cL,dA,dB,cM⟩:aB)]).length E,ae root]⟩::([⟨I,153,E*5,flatMap gO ((L.set i.toNat (⟨bq p L.length,cu,cx,cg,bK,bL,bA⟩:aB))++[(⟨bz p,dy,dz,cL,dA,dB,cM⟩:aB)])⟩]++((L.set i.toNat (⟨bq p L.length,cu,cx,cg,bK,bL,bA⟩:aB))++[(⟨bz p,dy,dz,cL,dA,dB,cM⟩:aB)]).flatMap bO)) ?_;refine⟨rfl,((L.set i.toNat (⟨bq p L.length,cu,cx,cg,bK,bL,bA⟩:aB))++[(⟨bz p,dy,dz,cL,dA,dB,cM⟩:aB)]),some ⟨I,0,none⟩,E,[⟨I,153,E*5,flatMap gO ((L.set i.toNat (⟨bq p L.length,cu,cx,cg,bK,bL,bA⟩:aB))++[(⟨bz p,dy,dz,cL,dA,dB,cM⟩:aB)])⟩],bE U Z,fun x hx=>?_,?_,rfl⟩
    ·rcases mem_append.1 hx with hx|hx
     ·rcases mem_or_eq_of_mem_set hx with hx|rfl
      ·exact aQ x hx
      exact⟨zX,zW⟩
     rw[mem_singleton] at hx;subst hx;exact⟨pV,zV⟩
    rw[map_append,map_set];rfl
   refine js (bW 0 [_]) [.bool false,.slice none 0 0,.slice none 0 0,.slice none 0 0,.int .i64 0] [_,_,_,_,_] zeroValue153 runUnderlying49 sizeOf153 (fun uH=>?_);refine jt 0 86 5 1 ?_;refine AD.one (i:=4) aA ?_;refine at_ rfl (cW (mk:=Op.load 49) rfl ot (r8 (k:=2) (d:=aN (some ⟨bx,0,none⟩) (L.set i.toNat (⟨bq p L.length,cu,cx,cg,bK,bL,bA⟩:aB)).length cap) rfl rfl isAgg49 Am)) ?_;refine AD.one (i:=7) aA ?_;refine bj.ek (ls:=(L.set i.toNat (⟨bq p L.length,cu,cx,cg,bK,bL,bA⟩:aB))) (new:=[(⟨bz p,dy,dz,cL,dA,dB,cM⟩:aB)]) (Sq:=[⟨bx,153,cap*5,flatMap gO (L.set i.toNat (⟨bq p L.length,cu,cx,cg,bK,bL,bA⟩:aB))⟩]) gk uV rfl ap rfl rfl underlying49 yF rfl w7 ot (bE rD rG) (ko (k:=3) rfl) ot bf Ae Af (hT:=by intro x0 O;have O:x0∈[b7,b6]:=O;show x0∈(b7::b6::_:List Nat);simp only[mem_cons,not_mem_nil,or_false] at O ⊢;omega) (fun I E U Z=>?_);refine eH ?_;refine aE 2 ?_;refine aP 3 [_,_] sizeOf49 ?_;refine an 98 [0,8] ?_;refine CD.seq ?_;refine fR 9 (aq _) ?_ (fun _ h=>h);refine az 0 rfl bp ?_;refine az 2 rfl bp ?_;refine az 3 rfl lZ ?_;refine az 4 rfl (dr 0) ?_;refine az 5 rfl (dK 3) ?_;refine az 6 rfl qO ?_;refine az 7 rfl (dj (r:=.int .i64 (L.length:Nat)) rfl ot bI (gj Ah)) ?_;refine dD.later rfl ?_;refine AD.one (i:=1) aA ?_;refine jJ call95 (j3 (jj p) vJ) ?_
   have oV:(cg++(bA++(cM++(cL++((L.eraseIdx i.toNat).flatMap bO))))).Perm (((L.set i.toNat (⟨bq p L.length,cu,cx,cg,bK,bL,bA⟩:aB))++[(⟨bz p,dy,dz,cL,dA,dB,cM⟩:aB)]).flatMap bO):=iH fun jg=>by have hq:=yK (qT bO hj (⟨bq p L.length,cu,cx,cg,bK,bL,bA⟩:aB)) jg;rw[flatMap_append,show[(⟨bz p,dy,dz,cL,dA,dB,cM⟩:aB)].flatMap bO=cL++(cM++[]) from by simp[bO]];simp only[show bO (⟨bq p L.length,cu,cx,cg,bK,bL,bA⟩:aB)=cg++bA from rfl,map_append,map_cons,map_nil,sum_append,sum_cons,sum_nil] at *;omega
   refine AD.perm (S':=⟨b7,153,5,gO (⟨bz p,dy,dz,cL,dA,dB,cM⟩:aB)⟩::⟨b6,153,5,gO (⟨bq p L.length,cu,cx,cg,bK,bL,bA⟩:aB)⟩::⟨b,51,2,[aN (some ⟨I,0,none⟩) ((L.set i.toNat (⟨bq p L.length,cu,cx,cg,bK,bL,bA⟩:aB))++[(⟨bz p,dy,dz,cL,dA,dB,cM⟩:aB)]).length E,ae root]⟩::(([⟨I,153,E*5,flatMap gO ((L.set i.toNat (⟨bq p L.length,cu,cx,cg,bK,bL,bA⟩:aB))++[(⟨bz p,dy,dz,cL,dA,dB,cM⟩:aB)])⟩]:List ah)++((L.set i.toNat (⟨bq p L.length,cu,cx,cg,bK,bL,bA⟩:aB))++[(⟨bz p,dy,dz,cL,dA,dB,cM⟩:aB)]).flatMap bO)) Aa ?_;refine cA 8 rfl bp ?_;refine eH ?_;refine bg [4,5] ?_;refine aI (⟨b,51,2,[aN (some ⟨I,0,none⟩) ((L.set i.toNat (⟨bq p L.length,cu,cx,cg,bK,bL,bA⟩:aB))++[(⟨bz p,dy,dz,cL,dA,dB,cM⟩:aB)]).length E,ae root]⟩::([⟨I,153,E*5,flatMap gO ((L.set i.toNat (⟨bq p L.length,cu,cx,cg,bK,bL,bA⟩:aB))++[(⟨bz p,dy,dz,cL,dA,dB,cM⟩:aB)])⟩]++((L.set i.toNat (⟨bq p L.length,cu,cx,cg,bK,bL,bA⟩:aB))++[(⟨bz p,dy,dz,cL,dA,dB,cM⟩:aB)]).flatMap bO)) ?_;refine⟨rfl,((L.set i.toNat (⟨bq p L.length,cu,cx,cg,bK,bL,bA⟩:aB))++[(⟨bz p,dy,dz,cL,dA,dB,cM⟩:aB)]),some ⟨I,0,none⟩,E,[⟨I,153,E*5,flatMap gO ((L.set i.toNat (⟨bq p L.length,cu,cx,cg,bK,bL,bA⟩:aB))++[(⟨bz p,dy,dz,cL,dA,dB,cM⟩:aB)])⟩],bE U Z,fun x hx=>?_,?_,rfl⟩
   ·rcases mem_append.1 hx with hx|hx
    ·rcases mem_or_eq_of_mem_set hx with hx|rfl
     ·exact aQ x hx
     exact⟨zX,zW⟩
    rw[mem_singleton] at hx;subst hx;exact⟨pV,zV⟩
   rw[map_append,map_set];rfl
  refine dV 1 [_,_,_,_,_] sizeOf88 ?_;refine AD.one (i:=5) aA ?_;refine at_ rfl (dK 2) ?_;refine cA 6 rfl qO ?_;refine eH ?_;refine aE 1 ?_;refine aP 1 [_,_,_,_,_] sizeOf3 ?_;refine an 98 [0,1,6,7,8] ?_;refine CD.seq ?_;refine lF 6 [0,7,8,76,77,78] ?_;refine bG ?_;refine bN (dF 5 (h:=by first|exact .l (j:=i.toNat) (Int.toNat_of_nonneg hi.1).symm hj|exact .r (j:=i.toNat) (Int.toNat_of_nonneg hi.1).symm hj)) ?_;refine OD.storeAt (k:=3) (cs':=flatMap gO (L.set i.toNat (⟨bq p L.length,cu,cx,cg,bK,bL,bA⟩:aB))) ap rfl rfl ot rfl rfl ot rfl rfl sizeOf153 rfl MS MF ?_;refine an 98 [0,7,8] ?_;refine CD.seq ?_;refine fR 8 (aq (take 2 _)) ?_ (fun _ h=>(Sublist.map _ (take_sublist _ _)).subset h);refine az 0 rfl bp ?_;refine az 1 rfl bp ?_;refine az 2 rfl lZ ?_;refine az 3 rfl (dr 0) ?_;refine az 5 rfl (Ck 0 [_,_,_,_,_]) ?_;refine dD.later rfl ?_;refine AD.two (i:=4) (j:=6) aA ?_ ?_
  ·refine at_ rfl (cW (mk:=Op.load 49) rfl ot (r8 (k:=2) (d:=aN (some ⟨bx,0,none⟩) (L.set i.toNat (⟨bq p L.length,cu,cx,cg,bK,bL,bA⟩:aB)).length cap) rfl rfl isAgg49 Am)) ?_;refine AD.one (i:=6) aA ?_;refine js (bW 0 [_]) [.bool false,.slice none 0 0,.slice none 0 0,.slice none 0 0,.int .i64 0] [_,_,_,_,_] zeroValue153 runUnderlying49 sizeOf153 (fun uH=>?_);refine jt 0 86 5 1 ?_;refine AD.one (i:=7) aA ?_;refine bj.ek (ls:=(L.set i.toNat (⟨bq p L.length,cu,cx,cg,bK,bL,bA⟩:aB))) (new:=[(⟨bz p,dy,dz,cL,dA,dB,cM⟩:aB)]) (Sq:=[⟨bx,153,cap*5,flatMap gO (L.set i.toNat (⟨bq p L.length,cu,cx,cg,bK,bL,bA⟩:aB))⟩]) gk uV rfl ap rfl rfl underlying49 yF rfl w7 ot (bE rD rG) (ko (k:=3) rfl) ot bf Ae Af (hT:=by intro x0 O;have O:x0∈[b7,b6]:=O;show x0∈(b7::b6::_:List Nat);simp only[mem_cons,not_mem_nil,or_false] at O ⊢;omega) (fun I E U Z=>?_);refine eH ?_;refine aE 2 ?_;refine aP 3 [_,_] sizeOf49 ?_;refine an 98 [0,8] ?_;refine CD.seq ?_;refine fR 9 (aq _) ?_ (fun _ h=>h);refine az 0 rfl bp ?_;refine az 2 rfl bp ?_;refine az 3 rfl lZ ?_;refine az 4 rfl (dr 0) ?_;refine az 5 rfl (dK 3) ?_;refine az 6 rfl qO ?_;refine az 7 rfl (dj (r:=.int .i64 (L.length:Nat)) rfl ot bI (gj Ah)) ?_;refine dD.later rfl ?_;refine AD.one (i:=1) aA ?_;refine jJ call95 (j3 (jj p) vJ) ?_
   have oV:(cg++(bA++(cM++(cL++((L.eraseIdx i.toNat).flatMap bO))))).Perm (((L.set i.toNat (⟨bq p L.length,cu,cx,cg,bK,bL,bA⟩:aB))++[(⟨bz p,dy,dz,cL,dA,dB,cM⟩:aB)]).flatMap bO):=iH fun jg=>by have hq:=yK (qT bO hj (⟨bq p L.length,cu,cx,cg,bK,bL,bA⟩:aB)) jg;rw[flatMap_append,show[(⟨bz p,dy,dz,cL,dA,dB,cM⟩:aB)].flatMap bO=cL++(cM++[]) from by simp[bO]];simp only[show bO (⟨bq p L.length,cu,cx,cg,bK,bL,bA⟩:aB)=cg++bA from rfl,map_append,map_cons,map_nil,sum_append,sum_cons,sum_nil] at *;omega
   refine AD.perm (S':=⟨b7,153,5,gO (⟨bz p,dy,dz,cL,dA,dB,cM⟩:aB)⟩::⟨b6,153,5,gO (⟨bq p L.length,cu,cx,cg,bK,bL,bA⟩:aB)⟩::⟨b,51,2,[aN (some ⟨I,0,none⟩) ((L.set i.toNat (⟨bq p L.length,cu,cx,cg,bK,bL,bA⟩:aB))++[(⟨bz p,dy,dz,cL,dA,dB,cM⟩:aB)]).length E,ae root]⟩::(([⟨I,153,E*5,flatMap gO ((L.set i.toNat (⟨bq p L.length,cu,cx,cg,bK,bL,bA⟩:aB))++[(⟨bz p,dy,dz,cL,dA,dB,cM⟩:aB)])⟩]:List ah)++((L.set i.toNat (⟨bq p L.length,cu,cx,cg,bK,bL,bA⟩:aB))++[(⟨bz p,dy,dz,cL,dA,dB,cM⟩:aB)]).flatMap bO)) Aa ?_;refine cA 8 rfl bp ?_;refine eH ?_;refine bg [4,5] ?_;refine aI (⟨b,51,2,[aN (some ⟨I,0,none⟩) ((L.set i.toNat (⟨bq p L.length,cu,cx,cg,bK,bL,bA⟩:aB))++[(⟨bz p,dy,dz,cL,dA,dB,cM⟩:aB)]).length E,ae root]⟩::([⟨I,153,E*5,flatMap gO ((L.set i.toNat (⟨bq p L.length,cu,cx,cg,bK,bL,bA⟩:aB))++[(⟨bz p,dy,dz,cL,dA,dB,cM⟩:aB)])⟩]++((L.set i.toNat (⟨bq p L.length,cu,cx,cg,bK,bL,bA⟩:aB))++[(⟨bz p,dy,dz,cL,dA,dB,cM⟩:aB)]).flatMap bO)) ?_;refine⟨rfl,((L.set i.toNat (⟨bq p L.length,cu,cx,cg,bK,bL,bA⟩:aB))++[(⟨bz p,dy,dz,cL,dA,dB,cM⟩:aB)]),some ⟨I,0,none⟩,E,[⟨I,153,E*5,flatMap gO ((L.set i.toNat (⟨bq p L.length,cu,cx,cg,bK,bL,bA⟩:aB))++[(⟨bz p,dy,dz,cL,dA,dB,cM⟩:aB)])⟩],bE U Z,fun x hx=>?_,?_,rfl⟩
   ·rcases mem_append.1 hx with hx|hx
    ·rcases mem_or_eq_of_mem_set hx with hx|rfl
     ·exact aQ x hx
     exact⟨zX,zW⟩
    rw[mem_singleton] at hx;subst hx;exact⟨pV,zV⟩
   rw[map_append,map_set];rfl
  refine js (bW 0 [_]) [.bool false,.slice none 0 0,.slice none 0 0,.slice none 0 0,.int .i64 0] [_,_,_,_,_] zeroValue153 runUnderlying49 sizeOf153 (fun uH=>?_);refine jt 0 86 5 1 ?_;refine AD.one (i:=4) aA ?_;refine at_ rfl (cW (mk:=Op.load 49) rfl ot (r8 (k:=2) (d:=aN (some ⟨bx,0,none⟩) (L.set i.toNat (⟨bq p L.length,cu,cx,cg,bK,bL,bA⟩:aB)).length cap) rfl rfl isAgg49 Am)) ?_;refine AD.one (i:=7) aA ?_;refine bj.ek (ls:=(L.set i.toNat (⟨bq p L.length,cu,cx,cg,bK,bL,bA⟩:aB))) (new:=[(⟨bz p,dy,dz,cL,dA,dB,cM⟩:aB)]) (Sq:=[⟨bx,153,cap*5,flatMap gO (L.set i.toNat (⟨bq p L.length,cu,cx,cg,bK,bL,bA⟩:aB))⟩]) gk uV rfl ap rfl rfl underlying49 yF rfl w7 ot (bE rD rG) (ko (k:=3) rfl) ot bf Ae Af (hT:=by intro x0 O;have O:x0∈[b7,b6]:=O;show x0∈(b7::b6::_:List Nat);simp only[mem_cons,not_mem_nil,or_false] at O ⊢;omega) (fun I E U Z=>?_);refine eH ?_;refine aE 2 ?_;refine aP 3 [_,_] sizeOf49 ?_;refine an 98 [0,8] ?_;refine CD.seq ?_;refine fR 9 (aq _) ?_ (fun _ h=>h);refine az 0 rfl bp ?_;refine az 2 rfl bp ?_;refine az 3 rfl lZ ?_;refine az 4 rfl (dr 0) ?_;refine az 5 rfl (dK 3) ?_;refine az 6 rfl qO ?_;refine az 7 rfl (dj (r:=.int .i64 (L.length:Nat)) rfl ot bI (gj Ah)) ?_;refine dD.later rfl ?_;refine AD.one (i:=1) aA ?_;refine jJ call95 (j3 (jj p) vJ) ?_
  have oV:(cg++(bA++(cM++(cL++((L.eraseIdx i.toNat).flatMap bO))))).Perm (((L.set i.toNat (⟨bq p L.length,cu,cx,cg,bK,bL,bA⟩:aB))++[(⟨bz p,dy,dz,cL,dA,dB,cM⟩:aB)]).flatMap bO):=iH fun jg=>by have hq:=yK (qT bO hj (⟨bq p L.length,cu,cx,cg,bK,bL,bA⟩:aB)) jg;rw[flatMap_append,show[(⟨bz p,dy,dz,cL,dA,dB,cM⟩:aB)].flatMap bO=cL++(cM++[]) from by simp[bO]];simp only[show bO (⟨bq p L.length,cu,cx,cg,bK,bL,bA⟩:aB)=cg++bA from rfl,map_append,map_cons,map_nil,sum_append,sum_cons,sum_nil] at *;omega
  refine AD.perm (S':=⟨b7,153,5,gO (⟨bz p,dy,dz,cL,dA,dB,cM⟩:aB)⟩::⟨b6,153,5,gO (⟨bq p L.length,cu,cx,cg,bK,bL,bA⟩:aB)⟩::⟨b,51,2,[aN (some ⟨I,0,none⟩) ((L.set i.toNat (⟨bq p L.length,cu,cx,cg,bK,bL,bA⟩:aB))++[(⟨bz p,dy,dz,cL,dA,dB,cM⟩:aB)]).length E,ae root]⟩::(([⟨I,153,E*5,flatMap gO ((L.set i.toNat (⟨bq p L.length,cu,cx,cg,bK,bL,bA⟩:aB))++[(⟨bz p,dy,dz,cL,dA,dB,cM⟩:aB)])⟩]:List ah)++((L.set i.toNat (⟨bq p L.length,cu,cx,cg,bK,bL,bA⟩:aB))++[(⟨bz p,dy,dz,cL,dA,dB,cM⟩:aB)]).flatMap bO)) Aa ?_;refine cA 8 rfl bp ?_;refine eH ?_;refine bg [4,5] ?_;refine aI (⟨b,51,2,[aN (some ⟨I,0,none⟩) ((L.set i.toNat (⟨bq p L.length,cu,cx,cg,bK,bL,bA⟩:aB))++[(⟨bz p,dy,dz,cL,dA,dB,cM⟩:aB)]).length E,ae root]⟩::([⟨I,153,E*5,flatMap gO ((L.set i.toNat (⟨bq p L.length,cu,cx,cg,bK,bL,bA⟩:aB))++[(⟨bz p,dy,dz,cL,dA,dB,cM⟩:aB)])⟩]++((L.set i.toNat (⟨bq p L.length,cu,cx,cg,bK,bL,bA⟩:aB))++[(⟨bz p,dy,dz,cL,dA,dB,cM⟩:aB)]).flatMap bO)) ?_;refine⟨rfl,((L.set i.toNat (⟨bq p L.length,cu,cx,cg,bK,bL,bA⟩:aB))++[(⟨bz p,dy,dz,cL,dA,dB,cM⟩:aB)]),some ⟨I,0,none⟩,E,[⟨I,153,E*5,flatMap gO ((L.set i.toNat (⟨bq p L.length,cu,cx,cg,bK,bL,bA⟩:aB))++[(⟨bz p,dy,dz,cL,dA,dB,cM⟩:aB)])⟩],bE U Z,fun x hx=>?_,?_,rfl⟩
  ·rcases mem_append.1 hx with hx|hx
   ·rcases mem_or_eq_of_mem_set hx with hx|rfl
    ·exact aQ x hx
    exact⟨zX,zW⟩
   rw[mem_singleton] at hx;subst hx;exact⟨pV,zV⟩
  rw[map_append,map_set];rfl
 refine at_ rfl (dK 2) ?_;refine cA 6 rfl qO ?_;refine AD.one (i:=1) aA ?_;refine jJ call95 (j3 (jj p) vJ) ?_;refine cA 7 rfl (dr 3) ?_;refine AD.one (i:=8) aA ?_;refine dV 1 [_,_,_,_,_] sizeOf88 ?_;refine eH ?_;refine aE 1 ?_;refine aP 1 [_,_,_,_,_] sizeOf3 ?_;refine an 98 [0,1,6,7,8] ?_;refine CD.seq ?_;refine lF 6 [0,7,8,76,77,78] ?_;refine bG ?_;refine bN (dF 5 (h:=by first|exact .l (j:=i.toNat) (Int.toNat_of_nonneg hi.1).symm hj|exact .r (j:=i.toNat) (Int.toNat_of_nonneg hi.1).symm hj)) ?_;refine OD.storeAt (k:=3) (cs':=flatMap gO (L.set i.toNat (⟨bq p L.length,cu,cx,cg,bK,bL,bA⟩:aB))) ap rfl rfl ot rfl rfl ot rfl rfl sizeOf153 rfl MS MF ?_;refine an 98 [0,7,8] ?_;refine CD.seq ?_;refine fR 8 (aq (take 2 _)) ?_ (fun _ h=>(Sublist.map _ (take_sublist _ _)).subset h);refine az 0 rfl bp ?_;refine az 1 rfl bp ?_;refine az 2 rfl lZ ?_;refine az 3 rfl (dr 0) ?_;refine az 5 rfl (Ck 0 [_,_,_,_,_]) ?_;refine dD.later rfl ?_;refine AD.two (i:=4) (j:=6) aA ?_ ?_
 ·refine at_ rfl (cW (mk:=Op.load 49) rfl ot (r8 (k:=2) (d:=aN (some ⟨bx,0,none⟩) (L.set i.toNat (⟨bq p L.length,cu,cx,cg,bK,bL,bA⟩:aB)).length cap) rfl rfl isAgg49 Am)) ?_;refine AD.one (i:=6) aA ?_;refine js (bW 0 [_]) [.bool false,.slice none 0 0,.slice none 0 0,.slice none 0 0,.int .i64 0] [_,_,_,_,_] zeroValue153 runUnderlying49 sizeOf153 (fun uH=>?_);refine jt 0 86 5 1 ?_;refine AD.one (i:=7) aA ?_;refine bj.ek (ls:=(L.set i.toNat (⟨bq p L.length,cu,cx,cg,bK,bL,bA⟩:aB))) (new:=[(⟨bz p,dy,dz,cL,dA,dB,cM⟩:aB)]) (Sq:=[⟨bx,153,cap*5,flatMap gO (L.set i.toNat (⟨bq p L.length,cu,cx,cg,bK,bL,bA⟩:aB))⟩]) gk uV rfl ap rfl rfl underlying49 yF rfl w7 ot (bE rD rG) (ko (k:=3) rfl) ot bf Ae Af (hT:=by intro x0 O;have O:x0∈[b7,b6]:=O;show x0∈(b7::b6::_:List Nat);simp only[mem_cons,not_mem_nil,or_false] at O ⊢;omega) (fun I E U Z=>?_);refine eH ?_;refine aE 2 ?_;refine aP 3 [_,_] sizeOf49 ?_;refine an 98 [0,8] ?_;refine CD.seq ?_;refine fR 9 (aq _) ?_ (fun _ h=>h);refine az 0 rfl bp ?_;refine az 2 rfl bp ?_;refine az 3 rfl lZ ?_;refine az 4 rfl (dr 0) ?_;refine az 5 rfl (dK 3) ?_;refine az 6 rfl qO ?_;refine az 7 rfl (dj (r:=.int .i64 (L.length:Nat)) rfl ot bI (gj Ah)) ?_;refine dD.later rfl ?_;refine AD.one (i:=1) aA ?_;refine jJ call95 (j3 (jj p) vJ) ?_
  have oV:(cg++(bA++(cM++(cL++((L.eraseIdx i.toNat).flatMap bO))))).Perm (((L.set i.toNat (⟨bq p L.length,cu,cx,cg,bK,bL,bA⟩:aB))++[(⟨bz p,dy,dz,cL,dA,dB,cM⟩:aB)]).flatMap bO):=iH fun jg=>by have hq:=yK (qT bO hj (⟨bq p L.length,cu,cx,cg,bK,bL,bA⟩:aB)) jg;rw[flatMap_append,show[(⟨bz p,dy,dz,cL,dA,dB,cM⟩:aB)].flatMap bO=cL++(cM++[]) from by simp[bO]];simp only[show bO (⟨bq p L.length,cu,cx,cg,bK,bL,bA⟩:aB)=cg++bA from rfl,map_append,map_cons,map_nil,sum_append,sum_cons,sum_nil] at *;omega
  refine AD.perm (S':=⟨b7,153,5,gO (⟨bz p,dy,dz,cL,dA,dB,cM⟩:aB)⟩::⟨b6,153,5,gO (⟨bq p L.length,cu,cx,cg,bK,bL,bA⟩:aB)⟩::⟨b,51,2,[aN (some ⟨I,0,none⟩) ((L.set i.toNat (⟨bq p L.length,cu,cx,cg,bK,bL,bA⟩:aB))++[(⟨bz p,dy,dz,cL,dA,dB,cM⟩:aB)]).length E,ae root]⟩::(([⟨I,153,E*5,flatMap gO ((L.set i.toNat (⟨bq p L.length,cu,cx,cg,bK,bL,bA⟩:aB))++[(⟨bz p,dy,dz,cL,dA,dB,cM⟩:aB)])⟩]:List ah)++((L.set i.toNat (⟨bq p L.length,cu,cx,cg,bK,bL,bA⟩:aB))++[(⟨bz p,dy,dz,cL,dA,dB,cM⟩:aB)]).flatMap bO)) Aa ?_;refine cA 8 rfl bp ?_;refine eH ?_;refine bg [4,5] ?_;refine aI (⟨b,51,2,[aN (some ⟨I,0,none⟩) ((L.set i.toNat (⟨bq p L.length,cu,cx,cg,bK,bL,bA⟩:aB))++[(⟨bz p,dy,dz,cL,dA,dB,cM⟩:aB)]).length E,ae root]⟩::([⟨I,153,E*5,flatMap gO ((L.set i.toNat (⟨bq p L.length,cu,cx,cg,bK,bL,bA⟩:aB))++[(⟨bz p,dy,dz,cL,dA,dB,cM⟩:aB)])⟩]++((L.set i.toNat (⟨bq p L.length,cu,cx,cg,bK,bL,bA⟩:aB))++[(⟨bz p,dy,dz,cL,dA,dB,cM⟩:aB)]).flatMap bO)) ?_;refine⟨rfl,((L.set i.toNat (⟨bq p L.length,cu,cx,cg,bK,bL,bA⟩:aB))++[(⟨bz p,dy,dz,cL,dA,dB,cM⟩:aB)]),some ⟨I,0,none⟩,E,[⟨I,153,E*5,flatMap gO ((L.set i.toNat (⟨bq p L.length,cu,cx,cg,bK,bL,bA⟩:aB))++[(⟨bz p,dy,dz,cL,dA,dB,cM⟩:aB)])⟩],bE U Z,fun x hx=>?_,?_,rfl⟩
  ·rcases mem_append.1 hx with hx|hx
   ·rcases mem_or_eq_of_mem_set hx with hx|rfl
    ·exact aQ x hx
    exact⟨zX,zW⟩
   rw[mem_singleton] at hx;subst hx;exact⟨pV,zV⟩
  rw[map_append,map_set];rfl
 refine js (bW 0 [_]) [.bool false,.slice none 0 0,.slice none 0 0,.slice none 0 0,.int .i64 0] [_,_,_,_,_] zeroValue153 runUnderlying49 sizeOf153 (fun uH=>?_);refine jt 0 86 5 1 ?_;refine AD.one (i:=4) aA ?_;refine at_ rfl (cW (mk:=Op.load 49) rfl ot (r8 (k:=2) (d:=aN (some ⟨bx,0,none⟩) (L.set i.toNat (⟨bq p L.length,cu,cx,cg,bK,bL,bA⟩:aB)).length cap) rfl rfl isAgg49 Am)) ?_;refine AD.one (i:=7) aA ?_;refine bj.ek (ls:=(L.set i.toNat (⟨bq p L.length,cu,cx,cg,bK,bL,bA⟩:aB))) (new:=[(⟨bz p,dy,dz,cL,dA,dB,cM⟩:aB)]) (Sq:=[⟨bx,153,cap*5,flatMap gO (L.set i.toNat (⟨bq p L.length,cu,cx,cg,bK,bL,bA⟩:aB))⟩]) gk uV rfl ap rfl rfl underlying49 yF rfl w7 ot (bE rD rG) (ko (k:=3) rfl) ot bf Ae Af (hT:=by intro x0 O;have O:x0∈[b7,b6]:=O;show x0∈(b7::b6::_:List Nat);simp only[mem_cons,not_mem_nil,or_false] at O ⊢;omega) (fun I E U Z=>?_);refine eH ?_;refine aE 2 ?_;refine aP 3 [_,_] sizeOf49 ?_;refine an 98 [0,8] ?_;refine CD.seq ?_;refine fR 9 (aq _) ?_ (fun _ h=>h);refine az 0 rfl bp ?_;refine az 2 rfl bp ?_;refine az 3 rfl lZ ?_;refine az 4 rfl (dr 0) ?_;refine az 5 rfl (dK 3) ?_;refine az 6 rfl qO ?_;refine az 7 rfl (dj (r:=.int .i64 (L.length:Nat)) rfl ot bI (gj Ah)) ?_;refine dD.later rfl ?_;refine AD.one (i:=1) aA ?_;refine jJ call95 (j3 (jj p) vJ) ?_
 have oV:(cg++(bA++(cM++(cL++((L.eraseIdx i.toNat).flatMap bO))))).Perm (((L.set i.toNat (⟨bq p L.length,cu,cx,cg,bK,bL,bA⟩:aB))++[(⟨bz p,dy,dz,cL,dA,dB,cM⟩:aB)]).flatMap bO):=iH fun jg=>by have hq:=yK (qT bO hj (⟨bq p L.length,cu,cx,cg,bK,bL,bA⟩:aB)) jg;rw[flatMap_append,show[(⟨bz p,dy,dz,cL,dA,dB,cM⟩:aB)].flatMap bO=cL++(cM++[]) from by simp[bO]];simp only[show bO (⟨bq p L.length,cu,cx,cg,bK,bL,bA⟩:aB)=cg++bA from rfl,map_append,map_cons,map_nil,sum_append,sum_cons,sum_nil] at *;omega
 refine AD.perm (S':=⟨b7,153,5,gO (⟨bz p,dy,dz,cL,dA,dB,cM⟩:aB)⟩::⟨b6,153,5,gO (⟨bq p L.length,cu,cx,cg,bK,bL,bA⟩:aB)⟩::⟨b,51,2,[aN (some ⟨I,0,none⟩) ((L.set i.toNat (⟨bq p L.length,cu,cx,cg,bK,bL,bA⟩:aB))++[(⟨bz p,dy,dz,cL,dA,dB,cM⟩:aB)]).length E,ae root]⟩::(([⟨I,153,E*5,flatMap gO ((L.set i.toNat (⟨bq p L.length,cu,cx,cg,bK,bL,bA⟩:aB))++[(⟨bz p,dy,dz,cL,dA,dB,cM⟩:aB)])⟩]:List ah)++((L.set i.toNat (⟨bq p L.length,cu,cx,cg,bK,bL,bA⟩:aB))++[(⟨bz p,dy,dz,cL,dA,dB,cM⟩:aB)]).flatMap bO)) Aa ?_;refine cA 8 rfl bp ?_;refine eH ?_;refine bg [4,5] ?_;refine aI (⟨b,51,2,[aN (some ⟨I,0,none⟩) ((L.set i.toNat (⟨bq p L.length,cu,cx,cg,bK,bL,bA⟩:aB))++[(⟨bz p,dy,dz,cL,dA,dB,cM⟩:aB)]).length E,ae root]⟩::([⟨I,153,E*5,flatMap gO ((L.set i.toNat (⟨bq p L.length,cu,cx,cg,bK,bL,bA⟩:aB))++[(⟨bz p,dy,dz,cL,dA,dB,cM⟩:aB)])⟩]++((L.set i.toNat (⟨bq p L.length,cu,cx,cg,bK,bL,bA⟩:aB))++[(⟨bz p,dy,dz,cL,dA,dB,cM⟩:aB)]).flatMap bO)) ?_;refine⟨rfl,((L.set i.toNat (⟨bq p L.length,cu,cx,cg,bK,bL,bA⟩:aB))++[(⟨bz p,dy,dz,cL,dA,dB,cM⟩:aB)]),some ⟨I,0,none⟩,E,[⟨I,153,E*5,flatMap gO ((L.set i.toNat (⟨bq p L.length,cu,cx,cg,bK,bL,bA⟩:aB))++[(⟨bz p,dy,dz,cL,dA,dB,cM⟩:aB)])⟩],bE U Z,fun x hx=>?_,?_,rfl⟩
 ·rcases mem_append.1 hx with hx|hx
  ·rcases mem_or_eq_of_mem_set hx with hx|rfl
   ·exact aQ x hx
   exact⟨zX,zW⟩
  rw[mem_singleton] at hx;subst hx;exact⟨pV,zV⟩
 rw[map_append,map_set];rfl

end Go.Proofs.YtdgichenhdikgaaGreatDoor.Tw
