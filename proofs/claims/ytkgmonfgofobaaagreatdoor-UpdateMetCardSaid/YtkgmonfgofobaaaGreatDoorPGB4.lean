/-
  GB: walks and plain facts, part 4.
-/
import Derived.Test.YtkgmonfgofobaaaGreatDoorPGB3
set_option linter.unusedVariables false
set_option linter.unusedSimpArgs false
set_option maxRecDepth 100000
set_option maxHeartbeats 4000000
namespace Go.Proofs.YtkgmonfgofobaaaGreatDoor.Cd
open List
open Go.Proofs.Tryz
open Go.RowKit V Pk Vl
variable {v:Vl}
theorem QZ(c:UInt8)(new:List UInt8):∀s:List UInt8,Lib.replaceK [c] new (s.count c) s=s.flatMap fun b=>if b=c then new else [b]
 | []=>rfl
 | b::l=>by
  have I:=QZ c new l;by_cases h:b=c
  ·subst h;have hi:Lib.index (b::l) [b]=((0:Nat):Int):=(by rw[Lib.index_one];simp[Lib.indexByte])
   rw[count_cons_self,Lib.replaceK_hit _ _ _ _ _ hi,flatMap_cons,if_pos rfl,←I];simp
  have hc:(b::l).count c=l.count c:=count_cons_of_ne h;rw[hc,flatMap_cons,if_neg h,←I];cases hk:l.count c with
  | zero=>rfl
  | succ k =>
   obtain⟨i,hi⟩:=Lib.index_of_count (s:=l) (old:=[c]) (by rw[Lib.count_one];omega);have E:Lib.index (b::l) [c]=((i+1:Nat):Int):=by
    rw[Lib.index_one] at hi ⊢;unfold Lib.indexByte;rw[if_neg px,hi,if_neg (by rw[beq_iff_eq];omega)];omega
   rw[Lib.replaceK_hit _ _ _ _ _ E,Lib.replaceK_hit _ _ _ _ _ hi];simp
def tX(c:UInt8)(new:List UInt8)(s:ByteArray):ByteArray:=⟨(s.data.toList.flatMap fun b=>if b=c then new else [b]).toArray⟩
theorem ZW(c:UInt8)(new s:List UInt8):Lib.replaceAll s [c] new=s.flatMap fun b=>if b=c then new else [b]:=by
 unfold Lib.replaceAll Lib.replace Lib.replaceNum;split
 ·rename_i h;have h':[c]=new:=(by simpa using h)
  subst h';induction s with
  | nil=>rfl
  | cons b l ih =>
   rw[flatMap_cons,←ih];have:(if b=c then [c] else [b])=[b]:=by
    split
    ·rename_i e;rw[e]
    rfl
   rw[this];rfl
 rw[if_pos (.inl w8),Lib.count_one,QZ]
variable {G:List (Nat×List Value)} {m:Int}
theorem aeT(hG:(2,[Value.int .i64 m])∈G)(c:UInt8)(new:ByteArray)(s:ByteArray)(hs:s.size≤1000000)(hn:new.size≤1000):VP Tryz.prog G 141 [aZ s,aZ ⟨#[c]⟩,aZ new] (aZ (tX c new.data.toList s)):=by
 have hc:Lib.countB s ⟨#[c]⟩≤1000000:=by
  show Lib.count s.data.toList [c]≤1000000;rw[Lib.count_one];exact Nat.le_trans count_le_length (by rw[kQ];exact hs)
 have I:Lib.countB s ⟨#[c]⟩*new.size≤1000000*1000:=Nat.mul_le_mul hc hn;have key:=VP.SY (P:=Tryz.prog) (G:=G) (f:=141) (vs:=[.string s,.string ⟨#[c]⟩,.string new]) (v:=.string (tX c new.data.toList s)) fun w E=>by
  refine(Tryz.strings_ReplaceAll s ⟨#[c]⟩ new m w w4 (E _ hG 0 _ rfl) (Nat.le_refl _) w4).mono fun e w' ⟨h1,h2⟩=>⟨?_,h2⟩
  rw[h1];congr 2;show(⟨(Lib.replaceAll s.data.toList [c] new.data.toList).toArray⟩:ByteArray)=_;rw[ZW];rfl
 exact key
def kb(v:Vl):UInt8:=UInt8.ofNat v.k.toNat
def nb(v:Vl):UInt8:=UInt8.ofNat v.n.toNat
def uN(v:Vl):Nat:=(v.n+9223372036854775808).toNat
def xz(u k:Nat):UInt8:=UInt8.ofNat (u/256 ^ (7-k))
def l7(u:Nat):List UInt8:=(range 8).map (xz u)
def oE(s:List UInt8):List UInt8:=s.flatMap fun b=>if b=0 then [0,255] else [b]
def sN(v:Vl):List UInt8:=if v.k=1 then [nb v] else if v.k=2 then l7 (uN v) else if v.k=3 then oE v.s.data.toList++[0,0] else []
def pY(v:Vl):List UInt8:=kb v::sN v
def fj(l:List Vl):List UInt8:=l.flatMap pY
def sO:List Vl→Int
 | []=>0
 | v::r=>if cl v=0 then sO r else cl v
def ga(l:List Vl):List UInt8×Int:=if l.length>6 then ([],1) else if sO l≠0 then ([],sO l) else if (fj l).length>100 then ([],5) else (fj l,0)
def BG(b:List UInt8):D:=au 1 cB b
def LO(r:List UInt8×Int):D:=.dh [BG r.1,ae r.2]
theorem Ta:∀{l:List Vl} {i:Nat} (hi:i<l.length),(∀v∈l.take i,cl v=0)→cl l[i]≠0→sO l=cl l[i]
 | v::r,0,hi,_,h=>by
  have h':cl v≠0:=h;show sO (v::r)=cl v;rw[sO,if_neg h']
 | v::r,i+1,hi,h0,h=>by
  rw[sO,if_pos (h0 v bq)];exact Ta (l:=r) (i:=i) (by simpa using hi) (fun x hx=>h0 x (by rw[take_succ_cons];exact mem_cons_of_mem _ hx)) h
theorem Fg:∀{l:List Vl},(∀v∈l,cl v=0)→sO l=0
 | [],_=>rfl
 | v::r,h=>by rw[sO,if_pos (h v mem_cons_self)];exact Fg fun x hx=>h x (mem_cons_of_mem _ hx)
theorem Ip(h:cl v=0):0≤v.k∧v.k≤3:=by
 unfold cl at h;split at h
 ·omega
 split at h
 ·omega
 split at h
 ·omega
 split at h
 ·omega
 cases h
theorem O5(h:cl v=0)(hk:v.k=1):0≤v.n∧v.n≤1:=by
 unfold cl at h;rw[if_neg w4,if_pos hk] at h;split at h
 ·cases h
 omega
theorem O6(h:cl v=0)(hk:v.k=3):v.s.size≤20:=by
 unfold cl at h;rw[if_neg w4,if_neg w4,if_neg w4,if_pos hk] at h;split at h
 ·cases h
 split at h
 ·cases h
 omega
theorem KA(h:cl v=0):((kb v).toNat:Int)=v.k:=by
 have:=Ip h;unfold kb;rw[UInt8.toNat_ofNat'];omega
theorem KB(h:cl v=0)(hk:v.k=1):((nb v).toNat:Int)=v.n:=by
 have:=O5 h hk;unfold nb;rw[UInt8.toNat_ofNat'];omega
theorem aeU(h:cl v=0):IntKind.u8.wrap v.k=((kb v).toNat:Int):=by
 have:=Ip h;rw[KA h];show v.k % 256=_;omega
theorem aeV(h:cl v=0)(hk:v.k=1):IntKind.u8.wrap v.n=((nb v).toNat:Int):=by
 have:=O5 h hk;rw[KB h hk];show v.n % 256=_;omega
theorem KC(h:v.Ok):((uN v:Nat):Int)=v.n+9223372036854775808:=by have:=h.n1;unfold uN;omega
theorem agy{u k:Nat}(hk:k≤7):(u:Int).fdiv (2 ^ min ((56:Int)-8*(k:Int)).toNat IntKind.u64.bits)=((u/256 ^ (7-k):Nat):Int):=by
 have e1:min ((56:Int)-8*(k:Int)).toNat IntKind.u64.bits=8*(7-k):=by
  show min _ 64=_;omega
 have E:(2 ^ (8*(7-k)):Nat)=256 ^ (7-k):=(by rw[Nat.pow_mul])
 have e2:((2:Int) ^ (8*(7-k)))=((256 ^ (7-k):Nat):Int):=by
  rw[←E,Int.natCast_pow];rfl
 rw[e1,e2];exact(Int.ofNat_fdiv _ _).symm
theorem aeW(x:Nat):IntKind.u8.wrap (x:Int)=((UInt8.ofNat x).toNat:Int):=by
 rw[UInt8.toNat_ofNat'];show(x:Int) % 256=_;omega
theorem Fh{u k:Nat}(hk:k≤7):(l7 u).take k++[xz u k]=(l7 u).take (k+1):=by
 have hl:k<(l7 u).length:=(by simp[l7];omega)
 rw[take_succ_eq_append_getElem hl];congr 2;simp[l7]
theorem wE(u:Nat):(l7 u).length=8:=by simp[l7]
theorem Tb(s:List UInt8):(oE s).length≤2*s.length:=by
 induction s with
 | nil=>simp[oE]
 | cons b l ih =>
  unfold oE at ih ⊢;rw[flatMap_cons,length_append,length_cons];split<;>simp only[length_cons,length_nil]<;>omega
theorem Fi(h:cl v=0):(pY v).length≤43:=by
 unfold pY sN;rw[length_cons];split
 ·simp
 split
 ·rw[wE];omega
 split
 ·rename_i hk;have h1:=O6 h hk;have h2:=Tb v.s.data.toList;rw[kQ] at h2;rw[length_append];simp;omega
 simp
theorem EN:∀{l:List Vl},(∀v∈l,cl v=0)→(fj l).length≤43*l.length
 | [],_=>Nat.le_refl _
 | v::r,h=>by
  have h1:=Fi (h v mem_cons_self);have h2:=EN (l:=r) fun x hx=>h x (mem_cons_of_mem _ hx);unfold fj at h2 ⊢;rw[flatMap_cons,length_append,length_cons];omega
theorem Pr{l:List Vl}{i:Nat}(hi:i<l.length):fj (l.take i)++pY l[i]=fj (l.take (i+1)):=by
 unfold fj;rw[take_succ_eq_append_getElem hi,flatMap_append];simp
theorem FT(h:v.k=1):sN v=[nb v]:=if_pos h
theorem FU(h:v.k=2):sN v=l7 (uN v):=by unfold sN;rw[if_neg w4,if_pos h]
theorem FV(h:v.k=3):sN v=oE v.s.data.toList++[0,0]:=by unfold sN;rw[if_neg w4,if_neg w4,if_pos h]
theorem Vb(h1:¬v.k=1)(h2:¬v.k=2)(h3:¬v.k=3):sN v=[]:=by unfold sN;rw[if_neg h1,if_neg h2,if_neg h3]
theorem Bk(s:ByteArray):(tX 0 [0,255] s).data.toList=oE s.data.toList:=rfl
def LP(p:List UInt8×Int)(r:D)(S:List ah):Prop:=∃ad cap,r = .dh [aN ad p.1.length cap,ae p.2]∧bg 5 1 (p.1.flatMap cB) p.1.length ad cap S
theorem LP.view{p:List UInt8×Int}{r:D}{S:List ah}(h:LP p r S):View S r (LO p):=by
 obtain⟨ad,cap,rfl,ho⟩:=h;exact EK ⟨lq ho (cm pT _) (fun B h=>h),eO,trivial⟩
theorem A9:(Tryz.prog.info? 5).map (fun i=>(i.zero,i.size,i.bytes))=some (some (.int .u8 0),1,1):=by kernel_rfl
theorem UG(hG:(2,[Value.int .i64 m])∈G)(l:List Vl)(hl:l.length≤maxLen)(aV:∀v∈l,v.Ok):VC Tryz.prog G 95 [au 3 cV l] [] (LP (ga l)):=by
 refine VC.body func95 rfl ntmps95 aQ fun X0 w0 bf=>?_;refine af [0] ?_;refine af [0,12] ?_;refine ax ?_ ?_<;>intro aO bA
 ·have aW:ga l=([],1):=if_pos w4;exact M7
 have h6:l.length≤6:=(by omega)
 refine bS ?_;refine bp [0,4] ?_;refine af [4,13,14,15] ?_;refine CD.block ?_;refine ni (fun (E:Nat×Option Addr×Nat×List ah) aD=>match E with|(i,I,O,Sb)=>(i≤l.length)∧(∀v∈l.take i,cl v=0)∧(bg 5 1 ((fj (l.take i)).flatMap cB) (fj (l.take i)).length I O Sb)∧aD=(⟨72,[(4,aN I (fj (l.take i)).length O),(13,au 3 cV l),(14,ae l.length),(15,ae (i:Nat))],(Sb)⟩:St)) (fun (E:Nat×Option Addr×Nat×List ah)=>match E with|(i,I,O,Sb)=>l.length-i) (0,none,0,[]) ⟨(Nat.zero_le _),bq,(bg.cast iz (by rfl)),rfl⟩ (aJ (h:=by repeat (first|exact trivial|refine⟨w6,?_⟩))) ?_;rintro⟨i,I,O,Sb⟩ _ ⟨hi,h0,pE,rfl⟩;refine af [4,13,14,15,16] ?_;refine ax ?_ ?_<;>intro aY cz
 ·have aa:i<l.length:=(by omega)
  have Ng:=EN h0;rw[length_take] at Ng;have cY:=dN;have fT:=aV _ (getElem_mem aa);refine aA 2 ?_;refine OD.alloc (ds:=[_,_,_]) ap rfl rfl zeroValue33 rfl (fun b6=>?_);refine aM 0 [_,_,_] sizeOf33 ?_;refine an 72 [4,6,13,14,15] ?_;refine cL [4,6,7,13,14,15] (Vl.pQ l[i]) ?_;refine af [4,6,7,13,14,15,22] ?_;refine ax ?_ ?_<;>intro cc cN
  ·have hne:cl l[i]≠0:=(by simpa using cc)
   have aW:ga l=([],cl l[i]):=(by unfold ga;rw[if_neg w4,Ta aa h0 hne,if_pos hne])
   exact M7
  have U:cl l[i]=0:=(by simpa using cc)
  refine aA 3 ?_;refine bQ (oQ (r:=.int .u8 ((kb l[i]).toNat:Int)) rfl ot (oS runUnderlying3 runUnderlying5 (aeU U))) ?_;refine ew (cu 0 [_]) [.int .u8 0] [_] zeroValue5 runUnderlying90 sizeOf5 (fun ND=>?_);refine fS 0 28 1 1 ?_;refine OD.eB (ls:=(fj (l.take i))) (new:=[kb l[i]]) (Sq:=Sb) pT wJ ap rfl rfl underlying90 A9 rfl w8 ot pE (dg (A:=[_])) ot bq zY zY (fun uC Z Gx Gy=>?_);refine OD.perm (dW (S1:=[⟨uC,5,Z*1,flatMap cB ((fj (l.take i))++[kb l[i]])⟩]) (A:=[_])) ?_;refine an 72 [4,6,13,14,15] ?_;refine af [4,6,13,14,15,31] ?_;refine af [4,6,13,14,15,31,32] ?_;refine ax ?_ ?_<;>intro cQ ek
  ·have dL:l[i].k=1:=(by simpa using cQ)
   refine dG 3 ?_;refine bQ (oQ (r:=.int .u8 ((nb l[i]).toNat:Int)) rfl ot (oS runUnderlying3 runUnderlying5 (aeV U dL))) ?_;refine ew (cu 0 [_]) [.int .u8 0] [_] zeroValue5 runUnderlying90 sizeOf5 (fun NE=>?_);refine fS 0 38 1 1 ?_;refine OD.eB (ls:=((fj (l.take i))++[kb l[i]])) (new:=[nb l[i]]) (Sq:=[⟨uC,5,Z*1,flatMap cB ((fj (l.take i))++[kb l[i]])⟩]) pT wJ ap rfl rfl underlying90 A9 rfl w8 ot (bM Gx Gy) (dg (A:=[_])) ot bq zY zY (fun CW LS ajB ajC=>?_);refine OD.perm (dW (S1:=[⟨CW,5,LS*1,flatMap cB (((fj (l.take i))++[kb l[i]])++[nb l[i]])⟩]) (A:=[_])) ?_;refine an 72 [4,13,14,15] ?_;refine bX [4,13,14,15] ?_;refine⟨((i+1),(some ⟨CW,0,none⟩),LS,[⟨CW,5,LS*1,flatMap cB (((fj (l.take i))++[kb l[i]])++[nb l[i]])⟩]),_,cn,(aJ (h:=by repeat (first|exact trivial|refine⟨w6,?_⟩))),w4,(yP aa h0 U),(bg.cast (bM ajB ajC) GR),rfl⟩
  have dL:¬l[i].k=1:=(by simpa using cQ)
  refine af [4,6,13,14,15,31,40] ?_;refine ax ?_ ?_<;>intro dV fB
  ·have fF:l[i].k=2:=(by simpa using dV)
   refine cM [4,8,13,14,15] ?_;refine aP 3 ?_ (h:=by exact(dj (r:=.int .u64 ((uN l[i]:Nat):Int)) rfl ot bP (aeG (by rw[KC fT];exact aeI fT.n1 fT.n2))));refine bD ?_;refine af [4,8,9,13,14,15] ?_;refine CD.block ?_;refine ni (fun (E:Nat×Option Addr×Nat×List ah) aD=>match E with|(k,I,O,Sb)=>(k≤8)∧(bg 5 1 (((fj (l.take i)++[kb l[i]])++(l7 (uN l[i])).take k).flatMap cB) ((fj (l.take i)++[kb l[i]])++(l7 (uN l[i])).take k).length I O Sb)∧aD=(⟨72,[(4,aN I ((fj (l.take i)++[kb l[i]])++(l7 (uN l[i])).take k).length O),(8,.v (.int .u64 ((uN l[i]:Nat):Int))),(9,ae (56-8*(k:Int))),(13,au 3 cV l),(14,ae l.length),(15,ae (i:Nat))],(Sb)⟩:St)) (fun (E:Nat×Option Addr×Nat×List ah)=>match E with|(k,I,O,Sb)=>8-k) (0,(some ⟨uC,0,none⟩),Z,[⟨uC,5,Z*1,flatMap cB ((fj (l.take i))++[kb l[i]])⟩]) ⟨w8,(bg.cast (bM Gx Gy) bq),rfl⟩ (aJ (h:=by repeat (first|exact trivial|refine⟨(by (repeat (first|exact fI|(apply fX;focus (first|rfl|(congr 2;omega)|(simp;done)|(apply eL;rw[←Fh w4];simp)|(apply eL;simp)|(apply eL;simp;done)))|(apply fN;focus rfl)));done),?_⟩))) ?_;rintro⟨k,I,O,Sb⟩ _ ⟨HA,pE,rfl⟩;refine af [4,8,9,13,14,15,47] ?_;refine ax ?_ ?_<;>intro fD gG
   ·have hk7:k≤7:=(by omega)
    refine dG 3 ?_;refine bQ (dj (r:=.int .u64 ((uN l[i]/256 ^ (7-k):Nat):Int)) rfl ot ot (y4 w4 (agy hk7))) ?_;refine bQ (oQ (r:=.int .u8 ((xz (uN l[i]) k).toNat:Int)) rfl ot (oS runUnderlying208 runUnderlying5 (aeW _))) ?_;refine ew (cu 0 [_]) [.int .u8 0] [_] zeroValue5 runUnderlying90 sizeOf5 (fun b55=>?_);refine fS 0 55 1 1 ?_;refine OD.eB (ls:=((fj (l.take i)++[kb l[i]])++(l7 (uN l[i])).take k)) (new:=[xz (uN l[i]) k]) (Sq:=Sb) pT wJ ap rfl rfl underlying90 A9 rfl w8 ot pE (dg (A:=[])) ot bq zY zY (fun kM LU ajD ajE=>?_);refine OD.perm (dW (S1:=[⟨kM,5,LU*1,flatMap cB (((fj (l.take i)++[kb l[i]])++(l7 (uN l[i])).take k)++[xz (uN l[i]) k])⟩]) (A:=[])) ?_;refine an 72 [4,8,9,13,14,15] ?_;refine bX [4,8,9,13,14,15] ?_;refine⟨((k+1),(some ⟨kM,0,none⟩),LU,[⟨kM,5,LU*1,flatMap cB (((fj (l.take i)++[kb l[i]])++(l7 (uN l[i])).take k)++[xz (uN l[i]) k])⟩]),_,cn,(aJ (h:=by repeat (first|exact trivial|refine⟨(by (repeat (first|exact fI|(apply fX;focus (first|rfl|(congr 2;omega)|(simp;done)|(apply eL;rw[←Fh w4];simp)|(apply eL;simp)|(apply eL;simp;done)))|(apply fN;focus rfl)));done),?_⟩))),w4,(bg.cast (bM ajD ajE) (by rw[←Fh w4];simp)),rfl⟩
   have aqw:k=8:=(by omega)
   have aqx:8≤k:=(by omega)
   refine bX [4,13,14,15] ?_;refine⟨((i+1),I,O,Sb),_,cn,(aJ (h:=by repeat (first|exact trivial|refine⟨w6,?_⟩))),w4,(yP aa h0 U),(bg.cast pE GR),rfl⟩
  have fF:¬l[i].k=2:=(by simpa using dV)
  refine af [4,6,13,14,15,57] ?_;refine ax ?_ ?_<;>intro iP o9
  ·have mb:l[i].k=3:=(by simpa using iP)
   have MA:=O6 U mb;have Di:=Tb l[i].s.data.toList;rw[kQ] at Di;have Yo:(tX 0 [0,255] l[i].s).size=(oE l[i].s.data.toList).length:=(by rw[←kQ,Bk])
   refine aA 3 ?_;refine dO call141 (aeT hG 0 ⟨#[0,255]⟩ l[i].s w4 w8) ?_;refine OD.aac (ls:=((fj (l.take i))++[kb l[i]])) (Sq:=[⟨uC,5,Z*1,flatMap cB ((fj (l.take i))++[kb l[i]])⟩]) ap rfl rfl underlying90 underlying9 A9 ot (bM Gx Gy) (dg (A:=[_])) ot (by rw[show(tX 0 (⟨#[0,255]⟩:ByteArray).data.toList l[i].s).size=(oE l[i].s.data.toList).length from Yo];simp only[length_append,length_cons,length_nil];omega) (by rw[show(tX 0 (⟨#[0,255]⟩:ByteArray).data.toList l[i].s).size=(oE l[i].s.data.toList).length from Yo];simp only[length_append,length_cons,length_nil];omega) (fun Wd xA Dk Cj=>?_);refine OD.perm (dW (A:=[_])) ?_;refine an 72 [4,13,14,15] ?_;refine dG 1 ?_;refine ew (cu 0 [_,_]) [.int .u8 0,.int .u8 0] [_,_] zeroValue5 runUnderlying90 sizeOf5 (fun b65=>?_);refine fS 0 65 1 2 ?_;refine OD.eB (ls:=(((fj (l.take i))++[kb l[i]])++(tX 0 [0,255] l[i].s).data.toList)) (new:=[(0:UInt8),0]) (Sq:=Dk) pT wJ ap rfl rfl underlying90 A9 rfl w8 ot Cj (dg (A:=[_])) ot bq (by rw[Bk];simp only[length_append,length_cons,length_nil];omega) (by rw[Bk];simp only[length_append,length_cons,length_nil];omega) (fun pH zQ zR zS=>?_);refine OD.perm (dW (S1:=[⟨pH,5,zQ*1,flatMap cB ((((fj (l.take i))++[kb l[i]])++(tX 0 [0,255] l[i].s).data.toList)++[(0:UInt8),0])⟩]) (A:=[_])) ?_
   refine an 72 [4,13,14,15] ?_;refine bX [4,13,14,15] ?_;refine⟨((i+1),(some ⟨pH,0,none⟩),zQ,[⟨pH,5,zQ*1,flatMap cB ((((fj (l.take i))++[kb l[i]])++(tX 0 [0,255] l[i].s).data.toList)++[(0:UInt8),0])⟩]),_,cn,(aJ (h:=by repeat (first|exact trivial|refine⟨w6,?_⟩))),w4,(yP aa h0 U),(bg.cast (bM zR zS) GR),rfl⟩
  have mb:¬l[i].k=3:=(by simpa using iP)
  refine bX [4,13,14,15] ?_;refine⟨((i+1),(some ⟨uC,0,none⟩),Z,[⟨uC,5,Z*1,flatMap cB ((fj (l.take i))++[kb l[i]])⟩]),_,cn,(aJ (h:=by repeat (first|exact trivial|refine⟨w6,?_⟩))),w4,(yP aa h0 U),(bg.cast (bM Gx Gy) GR),rfl⟩
 have fm:∀v∈l,cl v=0:=(by rw[take_of_length_le w4] at h0;exact h0)
 have hle:=EN fm;have NF:fj (l.take i)=fj l:=(by rw[take_of_length_le w4])
 refine af [4,70] ?_;refine ax ?_ ?_<;>intro iG mU
 ·have aW:ga l=([],5):=(by unfold ga;rw[if_neg w4,Fg fm,if_neg bq,if_pos (by rw[NF] at iG;simp at iG;omega)])
  exact M7
 have aW:ga l=(fj l,0):=(by unfold ga;rw[if_neg w4,Fg fm,if_neg bq,if_neg (by rw[NF] at iG;simp at iG;omega)])
 refine af [2,3] ?_;refine aK Sb ?_;rw[aW,←NF];exact⟨I,O,rfl,pE⟩
theorem agz(hG:(2,[Value.int .i64 m])∈G)(l:List Vl)(hl:l.length≤maxLen)(aV:∀v∈l,v.Ok):VP Tryz.prog G 95 [au 3 cV l] (LO (ga l)):=(UG hG l hl aV).cover fun r S hr=>hr.view

end Go.Proofs.YtkgmonfgofobaaaGreatDoor.Cd
namespace Go.Proofs.YtkgmonfgofobaaaGreatDoor.Cd
open List
open Go.Proofs.Tryz
open Go.RowKit V Pk Vl
def l6(l:List UInt8):Nat:=l.foldl (fun a c=>a*256+c.toNat) 0
theorem ID(l:List UInt8)(c:UInt8):l6 (l++[c])=l6 l*256+c.toNat:=by unfold l6;rw[foldl_append];rfl
theorem JR:∀(n:Nat) (l:List UInt8),l.length=n→l6 l<256 ^ n
 | 0,l,h=>by rw[eq_nil_of_length_eq_zero h];decide
 | n+1,l,h=>by
  have hne:l≠[]:=(by intro e;subst e;simp at h)
  rw[←dropLast_concat_getLast hne,ID];have h1:=JR n l.dropLast (by rw[length_dropLast,h];rfl);have h2:(l.getLast hne).toNat<256:=(l.getLast hne).toNat_lt;rw[Nat.pow_succ];omega
variable {G:List (Nat×List Value)}

end Go.Proofs.YtkgmonfgofobaaaGreatDoor.Cd
namespace Go.Proofs.YtkgmonfgofobaaaGreatDoor.Cd
open List
open Go.Proofs.Tryz
open Go.RowKit V Pk Vl
variable {v:Vl}
theorem Ie:∀(b a:List UInt8),l6 (a++b)=l6 a*256 ^ b.length+l6 b
 | [],a=>by simp[l6]
 | c::b,a=>by
  have h1:=Ie b (a++[c]);have h2:=Ie b [c];rw[append_assoc,singleton_append,ID] at h1;have h3:l6 (c::b)=c.toNat*256 ^ b.length+l6 b:=by
   rw[singleton_append] at h2;rw[h2];have:l6 [c]=c.toNat:=(by simp[l6])
   rw[this]
  rw[h1,h3,length_cons,Nat.pow_succ,Nat.add_mul,Nat.mul_assoc,Nat.mul_comm 256];omega
theorem Q0{u:Nat}(h:u<18446744073709551616):l6 (l7 u)=u:=by
 have key:∀k,k≤8→l6 ((l7 u).take k)=u/256 ^ (8-k):=by
  intro k;induction k with
  | zero=>intro _;show 0=u/256 ^ 8;exact(Nat.div_eq_of_lt h).symm
  | succ k ih =>
   intro hk;have hb:=ih w4;rw[←Fh w4,ID,hb];unfold xz;rw[UInt8.toNat_ofNat',show 8-k=(7-k)+1 by omega,show 8-(k+1)=7-k by omega,Nat.pow_succ,←Nat.div_div_eq_div_mul];have:=Nat.div_add_mod (u/256 ^ (7-k)) 256;omega
 have:=key 8 (Nat.le_refl _);rw[take_of_length_le (by rw[wE];omega)] at this;rw[this];simp
theorem IE{s:ByteArray}(h:s.size=0):s=⟨#[]⟩:=Fc (eq_nil_of_length_eq_zero (by rw[kQ,h]))
theorem Fj(h:cl v=0)(hk:v.k=0):v=⟨0,0,⟨#[]⟩⟩:=by
 unfold cl at h;rw[if_pos hk] at h;split at h
 ·cases h
 rename_i hn;exact Vl.ext' hk (by show v.n=0;omega) (IE w4)
theorem Tc(h:cl v=0)(hk:v.k=1):v.s=⟨#[]⟩:=by
 unfold cl at h;rw[if_neg w4,if_pos hk] at h;split at h
 ·cases h
 exact IE w4
theorem Td(h:cl v=0)(hk:v.k=2):v.s=⟨#[]⟩:=by
 unfold cl at h;rw[if_neg w4,if_neg w4,if_pos hk] at h;split at h
 ·cases h
 exact IE w4
theorem Te(h:cl v=0)(hk:v.k=3):v.n=0:=by
 unfold cl at h;rw[if_neg w4,if_neg w4,if_neg w4,if_pos hk] at h;split at h
 ·cases h
 omega

end Go.Proofs.YtkgmonfgofobaaaGreatDoor.Cd
namespace Go.Proofs.YtkgmonfgofobaaaGreatDoor.Cd





open List
open Go.Proofs.Tryz
open Go.RowKit V Pk Vl
open Go.Lib (compareBytes)
variable {a b:UInt8} {l:List Int}
theorem tU:a<b↔a.toNat<b.toNat:=UInt8.lt_iff_toNat_lt
theorem agA(h:a≠b):a.toNat≠b.toNat:=fun e=>h (UInt8.toNat_inj.1 e)
theorem y5(a b:UInt8)(x y:List UInt8):compareBytes (a::x) (b::y)=if a<b then -1 else if b<a then 1 else compareBytes x y:=by rw[compareBytes]
theorem wT(x y:List UInt8)(h:a.toNat<b.toNat):compareBytes (a::x) (b::y) = -1:=by rw[y5,if_pos (tU.2 h)]
theorem tY(a:UInt8)(x y:List UInt8):compareBytes (a::x) (a::y)=compareBytes x y:=by
 rw[y5,if_neg qS,if_neg qS]
theorem Tf:∀(p x y:List UInt8),compareBytes (p++x) (p++y)=compareBytes x y
 | [],_,_=>rfl
 | a::p,x,y=>by rw[cons_append,cons_append,tY,Tf p x y]
theorem JS:∀(x y:List UInt8),compareBytes y x = - compareBytes x y
 | [],[]=>rfl
 | [],_::_=>rfl
 | _::_,[]=>rfl
 | a::x,b::y=>by
  have E:=JS x y;rw[y5,y5];rcases Nat.lt_trichotomy a.toNat b.toNat with h|h|h
  ·rw[if_neg qS,if_pos (tU.2 h),if_pos (tU.2 h)];rfl
  ·rw[if_neg qS,if_neg qS,if_neg qS,if_neg qS,E]
  rw[if_pos (tU.2 h),if_neg qS,if_pos (tU.2 h)]
theorem Q1:∀(x y:List UInt8),compareBytes x y = -1∨compareBytes x y=0∧x=y∨compareBytes x y=1
 | [],[]=>.inr (.inl ⟨rfl,rfl⟩)
 | [],_::_=>.inl rfl
 | _::_,[]=>.inr (.inr rfl)
 | a::x,b::y=>by
  rw[y5];rcases Nat.lt_trichotomy a.toNat b.toNat with h|h|h
  ·exact .inl (if_pos (tU.2 h))
  ·have e:a=b:=UInt8.toNat_inj.1 h;subst e;rw[if_neg qS,if_neg qS];rcases Q1 x y with h|⟨h,e⟩|h
   ·exact .inl h
   ·exact .inr (.inl ⟨h,by rw[e]⟩)
   exact .inr (.inr h)
  exact .inr (.inr (by rw[if_neg qS,if_pos (tU.2 h)]))
theorem PI(c:UInt8)(b:List UInt8):l6 (c::b)=c.toNat*256 ^ b.length+l6 b:=by
 have h2:=Ie b [c];rw[singleton_append] at h2;rw[h2];have:l6 [c]=c.toNat:=(by simp[l6])
 rw[this]
theorem Vi:∀(l k:List UInt8) (x y:List UInt8),l.length=k.length→l6 l<l6 k→compareBytes (l++x) (k++y) = -1
 | [],[],_,_,_,h=>absurd h (Nat.lt_irrefl _)
 | [],_::_,_,_,h,_=>by simp at h
 | _::_,[],_,_,h,_=>by simp at h
 | a::l,b::k,x,y,hl,h=>by
  simp only[length_cons,Nat.add_right_cancel_iff] at hl;rw[PI,PI,hl] at h;have h1:=JR _ l hl;have h2:=JR _ k rfl;rw[cons_append,cons_append];rcases Nat.lt_trichotomy a.toNat b.toNat with e|e|e
  ·exact wT _ _ e
  ·have e':a=b:=UInt8.toNat_inj.1 e;subst e';rw[tY];exact Vi l k x y hl w4
  exfalso;have:(b.toNat+1)*256 ^ k.length≤a.toNat*256 ^ k.length:=Nat.mul_le_mul_right _ e;rw[Nat.succ_mul] at this;omega
theorem Bp(c:UInt8)(s:List UInt8):oE (c::s)=(if c=0 then [0,255] else [c])++oE s:=by unfold oE;rw[flatMap_cons]
theorem UH{c:UInt8}(h:¬c=0):0<c.toNat:=by
 have:=agA h;have e:(0:UInt8).toNat=0:=rfl;omega
theorem UI:∀(s t x y:List UInt8),compareBytes s t = -1→compareBytes (oE s++([0,0]++x)) (oE t++([0,0]++y)) = -1
 | [],[],_,_,h=>by exact absurd h w8
 | _::_,[],_,_,h=>by exact absurd (show(1:Int) = -1 from h) w8
 | [],d::t,x,y,_=>by
  rw[Bp];by_cases hd:d=0
  ·rw[if_pos hd];show compareBytes (0::0::x) (0::255::(oE t++([0,0]++y))) = -1;rw[tY];exact wT _ _ w8
  rw[if_neg hd];exact wT (a:=0) _ _ (UH hd)
 | c::s,d::t,x,y,h=>by
  rcases Nat.lt_trichotomy c.toNat d.toNat with e|e|e
  ·have hd:¬d=0:=fun hd=>by subst hd;have:(0:UInt8).toNat=0:=rfl;omega
   rw[Bp,Bp,if_neg hd];by_cases hc:c=0
   ·rw[if_pos hc];exact wT (a:=0) _ _ (UH hd)
   rw[if_neg hc];exact wT _ _ e
  ·have e':c=d:=UInt8.toNat_inj.1 e;subst e';rw[tY] at h;rw[Bp,Bp,append_assoc,append_assoc,Tf];exact UI s t x y h
  rw[y5,if_neg qS,if_pos (tU.2 e)] at h;exact absurd h w8
def p9(x y:Int):Int:=if x<y then -1 else if x>y then 1 else 0
def gm:List Int→Int
 | []=>0
 | a::l=>if a≠0 then a else gm l
def cmpL(a b:Vl):List Int:=[p9 a.k b.k,p9 a.n b.n,compareBytes a.s.data.toList b.s.data.toList]
def fg(a b:Vl):Int:=gm (cmpL a b)
theorem su(x y:Int):p9 x y = -1∧x<y∨p9 x y=0∧x=y∨p9 x y=1∧y<x:=by unfold p9;split;omega;split<;>omega
theorem PJ(x y:Int):p9 y x = - p9 x y:=by
 rcases su x y with h|h|h<;>rcases su y x with k|k|k<;>omega
theorem Bb(a b:Vl):fg b a = - fg a b:=by
 unfold fg cmpL gm gm gm gm;rw[PJ a.k b.k,PJ a.n b.n,JS a.s.data.toList b.s.data.toList];repeat' split
 all_goals omega
theorem UJ{v w:Vl}(E:cl v=0)(I:v.Ok)(hw:cl w=0)(O:w.Ok)(x y:List UInt8)(h:fg v w = -1):compareBytes (pY v++x) (pY w++y) = -1:=by
 have Z:=KA E;have kw:=KA hw;unfold pY;rw[cons_append,cons_append];unfold fg cmpL gm gm gm gm at h;rcases su v.k w.k with h1|h1|h1
 ·exact wT _ _ w4
 ·have U:kb v=kb w:=UInt8.toNat_inj.1 w4;rw[U,tY];rw[h1.1,if_neg bq] at h;have hk:=Ip E;have h4:v.k=0∨v.k=1∨v.k=2∨v.k=3:=(by omega)
  rcases su v.n w.n with h2|h2|h2
  ·rcases h4 with e|e|e|e
   ·have:=Fj E e;have:=Fj hw w4;simp_all
   ·have n1:=KB E e;have n2:=KB hw w4;rw[FT e,FT w4];exact wT _ _ w4
   ·have u1:=KC I;have u2:=KC O;have b1:=I.n2;have b2:=O.n2;rw[FU e,FU w4];exact Vi _ _ _ _ (by rw[wE,wE]) (by rw[Q0 w4,Q0 w4];omega)
   have:=Te E e;have:=Te hw w4;omega
  ·rw[h2.1,if_neg bq] at h;have h:compareBytes v.s.data.toList w.s.data.toList = -1:=by
    by_cases hz:compareBytes v.s.data.toList w.s.data.toList=0
    ·rw[hz] at h;simp at h
    rw[if_pos hz] at h;exact h
   rcases h4 with e|e|e|e
   ·rw[Fj E e,Fj hw w4] at h;exact absurd h w8
   ·rw[Tc E e,Tc hw w4] at h;exact absurd h w8
   ·rw[Td E e,Td hw w4] at h;exact absurd h w8
   rw[FV e,FV w4,append_assoc,append_assoc];exact UI _ _ _ _ h
  rw[h2.1,if_pos w8] at h;exact absurd h w8
 rw[h1.1,if_pos w8] at h;exact absurd h w8
theorem aak(v w:Vl):fg v w = -1∨fg v w=0∨fg v w=1:=by
 unfold fg cmpL gm gm gm gm;rcases su v.k w.k with h1|h1|h1<;>rcases su v.n w.n with h2|h2|h2<;>rcases Q1 v.s.data.toList w.s.data.toList with h3|h3|h3
 all_goals (rw[h1.1,h2.1];first|rw[h3.1]|rw[h3])
 all_goals decide
theorem Tg{v w:Vl}(E:cl v=0)(I:v.Ok)(hw:cl w=0)(O:w.Ok)(x y:List UInt8)(h:fg v w≠0):compareBytes (pY v++x) (pY w++y)=fg v w:=by
 rcases aak v w with e|e|e
 ·rw[e];exact UJ E I hw O x y e
 ·exact absurd e h
 rw[e,JS,UJ hw O E I y x (by rw[Bb,e])];rfl

variable {G:List (Nat×List Value)} {m:Int}
def cI(n:Int):List D:=[ae n]
theorem ac0:∀{i:Nat} (hi:i<l.length),(∀x∈l.take i,x=0)→gm l=gm (l.drop i):=by
 induction l with
 | nil=>intro i hi;simp at hi
 | cons a l ih =>
  intro i hi h;cases i with
  | zero=>rfl
  | succ i =>
   have ha:a=0:=h a bq;show(if a≠0 then a else gm l)=gm (l.drop i);rw[if_neg (by simp[ha])];exact ih (by simpa using hi) (fun x hx=>h x (by simp[hx]))
theorem aeX{i:Nat}(hi:i<l.length)(h:∀x∈l.take i,x=0)(h1:l[i]≠0):gm l=l[i]:=by
 rw[ac0 hi h,drop_eq_getElem_cons hi];exact if_pos h1
theorem Q2:∀{l:List Int},(∀x∈l,x=0)→gm l=0
 | [],_=>rfl
 | a::l,h=>by
  show(if a≠0 then a else gm l)=0;rw[if_neg (by simp[h a bq]),Q2 fun x hx=>h x (by simp[hx])]
theorem take_zero{i:Nat}(hi:i<l.length)(h:∀x∈l.take i,x=0)(h1:l[i]=0):∀x∈l.take (i+1),x=0:=fun x hx=>by
 rw[take_succ_eq_append_getElem hi] at hx;rcases mem_append.1 hx with hx|hx
 ·exact h x hx
 simp only[mem_singleton] at hx;rw[hx];exact h1
theorem UK(x:Int):VP Tryz.prog G 127 [ae x] (bI false):=by
 refine VC.body func127 rfl ntmps127 aQ fun X0 w0 bf=>?_;refine af [0] ?_;refine af [2] ?_;refine aK [] ?_;first|exact⟨rfl,rfl⟩|(refine⟨vb ?_,rfl⟩;simp)
theorem Th(x y:Int):VP Tryz.prog G 80 [ae x,ae y] (ae (p9 x y)):=by
 refine VC.body func80 rfl ntmps80 aQ fun X0 w0 bf=>?_;refine af [0,1] ?_;refine cL [0,1,5] (UK x) ?_;refine cL [0,1,5,6] (UK y) ?_;refine af [0,1,6,11] ?_;refine ax ?_ ?_<;>intro aO bA
 ·refine af [12] ?_;refine ax ?_ ?_<;>intro aY cz
  ·exact z40
  exact z40
 refine af [0,1,13] ?_;refine ax ?_ ?_<;>intro cc cN
 ·exact z40
 refine af [0,1,16] ?_;refine ax ?_ ?_<;>intro cQ ek
 ·exact z40
 refine af [19] ?_;refine ax ?_ ?_<;>intro dV fB
 ·exact z40
 refine af [4] ?_;refine aK [] ?_;first|exact⟨rfl,rfl⟩|(refine⟨vi ?_,rfl⟩;unfold p9;simp_all;done)|(refine⟨vi ?_,rfl⟩;unfold p9;split<;>(try split)<;>simp_all<;>omega)
theorem agB(l:List Int)(hl:l.length≤100):VP Tryz.prog G 79 [au 1 cI l] (ae (gm l)):=by
 refine VC.body func79 rfl ntmps79 aQ fun X0 w0 bf=>?_;have cY:=dN;refine af [0] ?_;refine af [0,3] ?_;refine af [3,6,7,8] ?_;refine ez [3,6,7] (fun aR _ (i:Nat) aD=>(i≤l.length)∧(∀x∈l.take i,x=0)∧aD=(⟨18,(8,ae (i:Nat))::aR,[]⟩:St)) (fun (i:Nat)=>l.length-i) 0 ⟨(Nat.zero_le _),(fun x hx=>by simp at hx),rfl⟩ ?_;rintro i _ ⟨hi,hz,rfl⟩;refine af [3,6,7,8,9] ?_;refine ax ?_ ?_<;>intro aO bA
 ·have aa:i<l.length:=(by omega)
  refine af [3,5,6,7,8] ?_;refine af [3,5,6,7,8,14] ?_;refine ax ?_ ?_<;>intro aY cz
  ·have aW:gm l=l[i]:=aeX aa hz vI;refine af [2] ?_;exact oJ
  refine bX [3,6,7,8] ?_;refine⟨(i+1),_,cn,aJ,w4,(take_zero aa hz vI),rfl⟩
 have aW:gm l=0:=Q2 (by rw[take_of_length_le w4] at hz;exact hz);refine af [2] ?_;exact z59
theorem aeY(a b:ByteArray):VP Tryz.prog G 81 [aZ a,aZ b] (ae (compareBytes a.data.toList b.data.toList)) :=
 VP.SY (P:=Tryz.prog) (G:=G) (f:=81) (vs:=[.string a,.string b]) (v:=.int .i64 (compareBytes a.data.toList b.data.toList)) fun w _ =>
  (Tryz.strings_Compare a b w).mono fun e w' ⟨h1,h2⟩=>⟨h1,h2 ▸ Below.refl _ _⟩
theorem O7(a b:Vl)(ha:a.Ok)(hb:b.Ok):VP Tryz.prog G 44 [.agg (cV a),.agg (cV b)] (ae (fg a b)):=by
 refine VC.body func44 rfl ntmps44 aQ fun X0 w0 bf=>?_;unfold cV;refine bS ?_;refine OD.box (ds:=[_,_,_]) ap rfl rfl ot rfl rfl (fun b2=>?_);refine OD.box (ds:=[_,_,_]) ap rfl rfl ot rfl rfl (fun b3=>?_);refine an 22 [2,3] ?_;refine cM [4] ?_;refine cJ (Th a.k b.k) ?_;refine cJ (Th a.n b.n) ?_;refine cJ (aeY a.s b.s) ?_;refine cJ (agB (cmpL a b) (by show 3≤100;decide)) ?_;refine bD ?_;exact nE
def lU(a b:Vl):Int:=if cl a≠0 then cl a else cl b
def Gz(a b:Vl):D:=.dh [ae (if lU a b≠0 then 0 else fg a b),ae (lU a b)]
theorem Ti(a b:Vl):VP Tryz.prog G 43 [.agg (cV a),.agg (cV b)] (ae (lU a b)):=by
 refine VC.body func43 rfl ntmps43 aQ fun X0 w0 bf=>?_;unfold cV;refine bS ?_;refine OD.box (ds:=[_,_,_]) ap rfl rfl ot rfl rfl (fun b2=>?_);refine OD.box (ds:=[_,_,_]) ap rfl rfl ot rfl rfl (fun b3=>?_);refine an 13 [2,3] ?_;refine cL [3,5] (pQ a) ?_;refine af [3,5,9] ?_;refine ax ?_ ?_<;>intro aO bA
 ·refine af [4] ?_;refine aK [] ?_;refine⟨vi ?_,rfl⟩;unfold lU;simp_all
 refine cL [4] (pQ b) ?_;refine aK [] ?_;refine⟨vi ?_,rfl⟩;unfold lU;simp_all
theorem O8(a b:Vl)(ha:a.Ok)(hb:b.Ok):VP Tryz.prog G 24 [.agg (cV a),.agg (cV b)] (Gz a b):=by
 refine VC.body func24 rfl ntmps24 aQ fun X0 w0 bf=>?_;unfold cV Gz;refine bS ?_;refine OD.box (ds:=[_,_,_]) ap rfl rfl ot rfl rfl (fun b2=>?_);refine OD.box (ds:=[_,_,_]) ap rfl rfl ot rfl rfl (fun b3=>?_);refine an 16 [2,3] ?_;refine cL [2,3,6] (Ti a b) ?_;refine af [2,3,6,11] ?_;refine ax ?_ ?_<;>intro aO bA
 ·refine af [4,5] ?_;refine aK [] ?_;first|(simp_all;done)|(refine⟨?_,rfl⟩;simp_all;done)
 refine cL [4,5] (O7 a b ha hb) ?_;refine aK [] ?_;first|(simp_all;done)|(refine⟨?_,rfl⟩;simp_all;done)

end Go.Proofs.YtkgmonfgofobaaaGreatDoor.Cd
namespace Go.Proofs.YtkgmonfgofobaaaGreatDoor.Pc
open List
open Go.Proofs.Tryz
open Go.RowKit V Pk Vl Go.Proofs.YtkgmonfgofobaaaGreatDoor.Nm
variable {i:Nat}
def typesC:List Value:=[.string ⟨#[]⟩,.string ⟨#[66,79,79,76]⟩,.string ⟨#[73,78,84]⟩,.string ⟨#[84,69,88,84]⟩]
structure cx where
 n:ByteArray
 k:Int
variable {l:List cx}
def cC(c:cx):List D:=[aZ c.n,ae c.k]
theorem lu(c:cx):(cC c).length=2:=rfl
theorem agC(c:cx):(cC c).all V.one=true:=rfl
def nx(pre:List cx)(c:cx):Int :=
 if cy c.n≠0 then cy c.n else if c.k<1∨c.k>3 then 2 else if (pre.any fun d=>d.n.toList==c.n.toList)=true then 9 else 0
def rF:List cx→List cx→Int
 | _,[]=>0
 | pre,c::r=>if nx pre c≠0 then nx pre c else rF (pre++[c]) r
def fO(l:List cx):Int:=if l.length<1∨l.length>6 then 1 else rF [] l
theorem abc(hi:i<l.length)(h:nx (l.take i) l[i]=0):rF (l.take i) (l.drop i)=rF (l.take (i+1)) (l.drop (i+1)):=by
 rw[drop_eq_getElem_cons hi,take_succ_eq_append_getElem hi];exact if_neg (by simp[h])
theorem I6(hi:i<l.length)(h:nx (l.take i) l[i]≠0):rF (l.take i) (l.drop i)=nx (l.take i) l[i]:=by
 rw[drop_eq_getElem_cons hi];exact if_pos h
theorem ac1(hi:¬i<l.length):rF (l.take i) (l.drop i)=0:=by
 rw[drop_of_length_le w4];rfl
theorem I3(S:List ah):S.Perm (S++[]):=by rw[append_nil]
variable {G:List (Nat×List Value)}
theorem Jd(ls:List cx)(g:Nat)(E:List D)(S:List ah)(p:cx→Bool)(fb:∀args w,(callFunc g args).run Tryz.prog w = .ok (.enter g args) w)(hp:∀x∈ls,VC Tryz.prog G g (.agg (cC x)::E) S (fun r S'=>r=bI (p x)∧S'=S))(hlen:ls.length≤1000000):VC Tryz.prog G 125 [au 2 cC ls,.eA (.func g) E] S (fun r S'=>r=ae (dA p ls)∧S'=S):=by
 refine VC.body func125 rfl ntmps125 aQ fun X0 w0 bf=>?_;unfold cC at hp;exact W0
theorem ZX(ls:List cx)(g:Nat)(E:List D)(S:List ah)(p:cx→Bool)(fb:∀args w,(callFunc g args).run Tryz.prog w = .ok (.enter g args) w)(hp:∀x∈ls,VC Tryz.prog G g (.agg (cC x)::E) S (fun r S'=>r=bI (p x)∧S'=S))(hlen:ls.length≤1000000):VC Tryz.prog G 142 [au 2 cC ls,.eA (.func g) E] S (fun r S'=>r=bI (ls.any p)∧S'=S):=by
 refine VC.body func142 rfl ntmps142 aQ fun X0 w0 bf=>?_;refine aA 1 ?_;refine OD.wk (Wk.dP (n:=9) (l':=[(0,_),(1,_)]) (S':=S) rfl nc fy) ?_;refine OD.nil ?_;refine aA 2 ?_;refine OD.call ap rfl rfl rfl call125 (Jd ls g E S p fb hp hlen) ⟨tL rfl lk,tL rfl lk,trivial⟩ (I3 _) ?_;rintro _ S2 ⟨rfl,iH⟩;rw[iH];clear iH;refine aG 2 ?_;refine OD.wk (Wk.dP (n:=9) (l':=[(4,_)]) (S':=S) rfl nc fy) ?_;refine OD.nil ?_;refine aK S ?_;refine⟨?_,rfl⟩;rw[QN]
theorem aeZ(h x:cx)(b:Nat):VC Tryz.prog G 143 [.agg (cC h),cU b] [⟨b,28,2,cC x⟩] (fun r S=>r=bI (h.n.toList==x.n.toList)∧S=[⟨b,28,2,cC x⟩]):=by
 refine VC.body func143 rfl ntmps143 aQ fun X0 w0 bf=>?_;unfold cC;refine bS ?_;refine OD.box (ds:=[_,_]) ap rfl rfl ot rfl rfl (fun b2=>?_);refine an 9 [1,2] ?_;refine af [3] ?_;refine aK [⟨b,28,2,cC x⟩] ?_;exact⟨rfl,rfl⟩
theorem ae0(hm:(3,marksC)∈G)(hw:(1,wordsC)∈G)(l:List cx)(hl:l.length≤maxLen)(aV:∀c∈l,c.n.size≤maxLen):VP Tryz.prog G 96 [au 2 cC l] (ae (fO l)):=by
 refine VC.body func96 rfl ntmps96 aQ fun X0 w0 bf=>?_;have cY:=dN;refine af [0] ?_;refine aA 4 ?_;refine bW 9 (fun Z O=>?_) (fun Z O=>?_)
 ·refine bp [0,13] ?_;refine eT ?_;have aW:fO l=1:=if_pos w4;exact xV
 refine bp [0,13] ?_;refine ax ?_ ?_<;>intro aO bA
 ·have aW:fO l=1:=if_pos w4;exact xV
 have h16:¬(l.length<1∨l.length>6):=(by omega)
 have E:fO l=rF (l.take 0) (l.drop 0):=if_neg h16;refine af [0,14,15,16] ?_;refine ez [0,14,15] (fun aR _ (i:Nat) aD=>(i≤l.length)∧(fO l=rF (l.take i) (l.drop i))∧aD=(⟨41,(16,ae (i:Nat))::aR,[]⟩:St)) (fun (i:Nat)=>l.length-i) 0 ⟨(Nat.zero_le _),E,rfl⟩ ?_;rintro i _ ⟨hi,hinv,rfl⟩;refine af [0,14,15,16,17] ?_;refine ax ?_ ?_<;>intro aY cz
 ·have aa:i<l.length:=(by omega)
  refine aA 3 ?_;refine OD.alloc (ds:=[_,_]) ap rfl rfl zeroValue28 rfl (fun b4=>?_);refine aG 1 ?_;refine aM 0 [_,_] sizeOf28 ?_;refine an 41 [0,3,4,14,15,16] ?_;refine cL [0,3,4,5,14,15,16] (uV hm hw l[i].n (aV _ (getElem_mem aa))) ?_;refine af [0,3,4,5,14,15,16,25] ?_;refine ax ?_ ?_<;>intro cc cN
  ·have hne:cy l[i].n≠0:=(by simpa using cc)
   have hf:nx (l.take i) l[i]=cy l[i].n:=if_pos hne;have aW:fO l=cy l[i].n:=(by rw[hinv,I6 aa (by rw[hf];exact hne),hf])
   refine af [2] ?_;exact oJ
  have gJ:¬cy l[i].n≠0:=(by simpa using cc)
  refine aA 4 ?_;refine bW 30 (fun U I=>?_) (fun U I=>?_)
  ·refine bp [0,3,4,14,15,16,34] ?_;refine eT ?_;exact V0
  refine bp [0,3,4,14,15,16,34] ?_;refine ax ?_ ?_<;>intro cQ ek
  ·exact V0
  have hk:¬(l[i].k<1∨l[i].k>3):=(by omega)
  refine aA 2 ?_;refine bQ (eE (l:=0) rfl ot trivial ⟨_,ot⟩ (by first|exact kO lu (fun h=>by cases h) runUnderlying29 sizeOf28 w4|exact nO (fun h=>by cases h) runUnderlying29 sizeOf28 w4|exact nk (fun _=>rfl) (fun h=>by cases h) runUnderlying29 sizeOf28 w4 w4)) ?_;refine bQ (pP (ds:=[_]) rfl ⟨ot,trivial⟩) ?_;refine OD.call ap rfl rfl rfl call142 (ZX (l.take i) 143 [cU b4] _ (fun d=>d.n.toList==l[i].n.toList) call143 (fun h _=>aeZ h l[i] b4) pp) ⟨tL rfl lk,tL rfl lk,trivial⟩ (mM (k:=0) rfl) ?_;rintro _ S2 ⟨rfl,iH⟩;rw[iH];clear iH;refine an 41 [0,14,15,16,39] ?_;refine ax ?_ ?_<;>intro dV fB
  ·have hf:nx (l.take i) l[i]=9:=(by unfold nx;rw[if_neg gJ,if_neg hk,if_pos dV])
   have aW:fO l=9:=(by rw[hinv,I6 aa (by rw[hf];decide),hf])
   refine af [2] ?_;exact oJ
  have hf:nx (l.take i) l[i]=0:=(by unfold nx;rw[if_neg gJ,if_neg hk,if_neg (by rw[dV];simp)])
  have jl:=hinv.trans (abc aa hf);refine bX [0,14,15,16] ?_;refine⟨(i+1),_,cn,aJ,w4,jl,rfl⟩
 have aW:fO l=0:=(by rw[hinv];exact ac1 w4)
 refine af [2] ?_;exact z59

end Go.Proofs.YtkgmonfgofobaaaGreatDoor.Pc
namespace Go.Proofs.YtkgmonfgofobaaaGreatDoor.Pa
open List
open Go.Proofs.Tryz
open Go.RowKit V Pk Vl Go.Proofs.YtkgmonfgofobaaaGreatDoor.Nm Pc
structure bJ where
 kind:Int
 table:ByteArray
 ay:List cx
 row:List Vl
 names:List ByteArray
 count:Bool
 aj:List aS
 order:ByteArray
 down:Bool
 gS:Int
 set:ByteArray
 bN:List aS
def dQ:bJ:=⟨0,⟨#[]⟩,[],[],[],false,[],⟨#[]⟩,false,-1,⟨#[]⟩,[]⟩

end Go.Proofs.YtkgmonfgofobaaaGreatDoor.Pa
namespace Go.Proofs.YtkgmonfgofobaaaGreatDoor.Pa







open List
open Go.Proofs.Tryz
open Go.RowKit V Pk Vl Go.Proofs.YtkgmonfgofobaaaGreatDoor.Nm Pc
variable {G:List (Nat×List Value)}
variable {α:Type}
theorem Et{ls:List (List α)}{j:Nat}(h:j<ls.length):(ls.take (j+1)).flatten=(ls.take j).flatten++ls[j]:=by
 rw[take_succ_eq_append_getElem h,flatten_append,flatten_cons,flatten_nil,append_nil]
theorem OJ{ls:List (List α)}{j:Nat}(h:j<ls.length):((ls.take (j+1)).flatten).length=((ls.take j).flatten).length+ls[j].length:=by rw[Et h,length_append]
theorem ON(ls:List (List α))(j:Nat):((ls.take j).flatten).length≤ls.flatten.length:=by
 conv=>rhs;rw[←take_append_drop j ls,flatten_append,length_append]
 omega
theorem abd{e sz b cap:Nat}(h:cap≤maxLen):bg e sz [] 0 (some ⟨b,0,none⟩) cap [⟨b,e,cap*sz,[]⟩]:=.inr ⟨b,rfl,Nat.zero_le _,h,rfl⟩

end Go.Proofs.YtkgmonfgofobaaaGreatDoor.Pa
namespace Go.Proofs.YtkgmonfgofobaaaGreatDoor.Pa



open List
open Go.Proofs.Tryz
open Go.RowKit V Pk Vl Go.Proofs.YtkgmonfgofobaaaGreatDoor.Nm Pc
variable {G:List (Nat×List Value)}
variable {α:Type} {i n:Nat} {ts h:List (List Tk)} {o:aS}
def agD:List ByteArray:=[⟨#[]⟩,⟨#[66,79,79,76]⟩,⟨#[73,78,84]⟩,⟨#[84,69,88,84]⟩]

theorem lP(t:Tk):(cT t).all V.one=true:=rfl
def bE(s:ByteArray):Tk:=⟨1,s,0⟩
def dD(s:ByteArray):Tk:=⟨4,s,0⟩
def cK(l:List Tk):List D:=[au 3 cT l]
theorem gi(l:List Tk):(cK l).length=1:=rfl
theorem pU(l:List Tk):(cK l).all V.one=true:=rfl
theorem tI{β:Type}(f:α→β){l:List α}(hi:i<l.length):(l.take i).map f++[f l[i]]=(l.take (i+1)).map f:=by rw[take_succ_eq_append_getElem hi,map_append];rfl
theorem JT{β:Type}(f:α→β){l:List α}(hi:l.length≤i):(l.take i).map f=l.map f:=by rw[take_of_length_le hi]
theorem nl(s:ByteArray):VP Tryz.prog G 106 [aZ s] (.agg (cT (dD s))):=by
 refine VC.body func106 rfl ntmps106 aQ fun X0 w0 bf=>?_;exact z119
theorem rA(s:ByteArray):VP Tryz.prog G 145 [aZ s] (.agg (cT (bE s))):=by
 refine VC.body func145 rfl ntmps145 aQ fun X0 w0 bf=>?_;exact z119
theorem A5:(Tryz.prog.info? 170).map (fun i=>(i.zero,i.size,i.bytes))=some (some (.agg #[.int .i64 0,.string ⟨#[]⟩,.int .i64 0]),3,32):=by kernel_rfl
theorem zb(l:List ByteArray)(hl:l.length≤10):VC Tryz.prog G 101 [au 1 cS l] [] (gv cT 170 3 (l.map bE)):=by
 refine VC.body func101 rfl ntmps101 aQ fun X0 w0 bf=>?_;have cY:=dN;refine af [0] ?_;refine bS ?_;refine bp [0,3] ?_;refine af [3,6,7,8] ?_;refine CD.block ?_;refine ni (fun (E:Nat×Option Addr×Nat×List ah) aD=>match E with|(i,O,U,Sa)=>(i≤l.length)∧(bg 170 3 (((l.take i).map bE).flatMap cT) ((l.take i).map bE).length O U Sa)∧aD=(⟨19,[(3,aN O ((l.take i).map bE).length U),(6,au 1 cS l),(7,ae (l.length:Nat)),(8,ae (i:Nat))],(Sa)⟩:St)) (fun (E:Nat×Option Addr×Nat×List ah)=>match E with|(i,O,U,Sa)=>l.length-i) (0,none,0,[]) ⟨(Nat.zero_le _),(bg.cast iz k8),rfl⟩ (aJ (h:=by repeat (first|exact trivial|refine⟨(by (repeat (first|exact fI|(apply fX;focus (first|rfl|(simp;done)|(congr 2;omega)|(apply eL;exact tI bE aa)|(apply eL;simp;done)))|(apply fN;focus rfl)));done),?_⟩))) ?_;rintro⟨i,O,U,Sa⟩ _ ⟨hi,oM,rfl⟩;refine af [3,6,7,8,9] ?_;refine ax ?_ ?_<;>intro aO bA
 ·have aa:i<l.length:=(by omega)
  refine af [3,5,6,7,8] ?_;refine dG 2 ?_;refine dO call145 (rA l[i]) ?_;refine ew (cu 0 [_]) [.int .i64 0,.string ⟨#[]⟩,.int .i64 0] [_,_,_] zeroValue170 runUnderlying110 sizeOf170 (fun b15=>?_);refine fS 0 15 3 1 ?_;refine OD.eB (ls:=((l.take i).map bE)) (new:=[bE l[i]]) (Sq:=Sa) iL lP ap rfl rfl underlying110 A5 rfl w8 ot oM (dg (A:=[])) ot bq (by have cY:=dN;(try simp only[length_append,length_cons,length_nil,length_map,length_take]);omega) (by have cY:=dN;(try simp only[length_append,length_cons,length_nil,length_map,length_take]);omega) (fun Z I ajF ajG=>?_);refine OD.perm (dW (S1:=[⟨Z,170,I*3,flatMap cT (((l.take i).map bE)++[bE l[i]])⟩]) (A:=[])) ?_;refine an 19 [3,6,7,8] ?_;refine bX [3,6,7,8] ?_;refine⟨((i+1),(some ⟨Z,0,none⟩),I,[⟨Z,170,I*3,flatMap cT (((l.take i).map bE)++[bE l[i]])⟩]),_,cn,(aJ (h:=by repeat (first|exact trivial|refine⟨(by (repeat (first|exact fI|(apply fX;focus (first|rfl|(simp;done)|(congr 2;omega)|(apply eL;exact tI bE aa)|(apply eL;simp;done)))|(apply fN;focus rfl)));done),?_⟩))),w4,(bg.cast (bM ajF ajG) (by exact tI bE aa)),rfl⟩
 have fh:=JT bE (show l.length≤i by omega);refine af [2] ?_;refine aK _ ?_;exact gv.cast (gv.mk oM) fh
theorem sC(l:List ByteArray)(hl:l.length≤10):VP Tryz.prog G 101 [au 1 cS l] (.list 3 ((l.map bE).flatMap cT) (l.map bE).length):=VC.wR iL (zb l hl)
def kX(ts:List (List Tk)):Nat→List Tk
 | 0=>[dD ⟨#[40]⟩]
 | i+1=>kX ts i++(if i>0 then [dD ⟨#[44]⟩] else [])++ts.getD i []
def my(ts:List (List Tk)):List Tk:=kX ts ts.length++[dD ⟨#[41]⟩]
theorem E7{ts:List (List Tk)}(h:∀x∈ts,x.length≤10):∀i,(kX ts i).length≤1+11*i
 | 0=>Nat.le_refl _
 | i+1=>by
  have E:=E7 h i;have h2:(ts.getD i []).length≤10:=by
   rw[getD_eq_getElem?_getD];cases hx:ts[i]? with
   | none=>exact Nat.zero_le _
   | some x=>exact h x (mem_of_getElem? hx)
  have h3:(if i>0 then [dD ⟨#[44]⟩] else []).length≤1:=(by split<;>simp)
  unfold kX;rw[length_append,length_append];omega
theorem I4(hi:i<ts.length)(h:0<i):(kX ts i++[dD ⟨#[44]⟩])++ts[i]=kX ts (i+1):=by
 rw[kX,if_pos h,getD_eq_getElem?_getD,getElem?_eq_getElem hi];rfl
theorem Iv(hi:i<ts.length)(h:¬0<i):kX ts i++ts[i]=kX ts (i+1):=by
 rw[kX,if_neg h,append_nil,getD_eq_getElem?_getD,getElem?_eq_getElem hi];rfl
theorem Tj(ts:List (List Tk))(hl:ts.length≤10)(MA:∀x∈ts,x.length≤10):VP Tryz.prog G 102 [au 1 cK ts] (.list 3 ((my ts).flatMap cT) (my ts).length):=by
 refine VC.body func102 rfl ntmps102 aQ fun X0 w0 bf=>?_;have cY:=dN;refine af [0] ?_;refine bS ?_;refine dO call106 (nl ⟨#[40]⟩) ?_;refine ew (cu 0 [_]) [.int .i64 0,.string ⟨#[]⟩,.int .i64 0] [_,_,_] zeroValue170 runUnderlying110 sizeOf170 (fun b7=>?_);refine OD.perm (dW (S1:=[⟨b7,170,1*3,flatMap cT ([dD ⟨#[40]⟩])⟩]) (A:=[])) ?_;refine an 29 [0,3] ?_;refine af [3,8,9,10] ?_;refine CD.block ?_;refine ni (fun (E:Nat×Option Addr×Nat×List ah) aD=>match E with|(i,I,O,Sa)=>(i≤ts.length)∧(bg 170 3 ((kX ts i).flatMap cT) (kX ts i).length I O Sa)∧aD=(⟨29,[(3,aN I (kX ts i).length O),(8,au 1 cK ts),(9,ae (ts.length:Nat)),(10,ae (i:Nat))],(Sa)⟩:St)) (fun (E:Nat×Option Addr×Nat×List ah)=>match E with|(i,I,O,Sa)=>ts.length-i) (0,(some ⟨b7,0,none⟩),1,[⟨b7,170,1*3,flatMap cT ([dD ⟨#[40]⟩])⟩]) ⟨(Nat.zero_le _),(bg.cast (bM (g:=cT) (sz:=3) (e:=170) (ls:=[dD ⟨#[40]⟩]) (Nat.le_refl _) (show 1≤maxLen by decide)) (by rfl)),rfl⟩ (aJ (h:=by repeat (first|exact trivial|refine⟨(by (repeat (first|exact fI|(apply fX;focus (first|rfl|(simp;done)|(congr 2;omega)|(apply eL;first|exact I4 aa w4|exact Iv aa w4)|(apply eL;rfl)|(apply eL;simp;done)))|(apply fN;focus rfl)));done),?_⟩))) ?_;rintro⟨i,I,O,Sa⟩ _ ⟨hi,oM,rfl⟩;refine af [3,8,9,10,11] ?_;refine ax ?_ ?_<;>intro aO bA
 ·have aa:i<ts.length:=(by omega)
  refine af [3,4,5,8,9,10] ?_;refine af [3,5,8,9,10,16] ?_;refine ax ?_ ?_<;>intro aY cz
  ·refine dG 1 ?_;refine dO call106 (nl ⟨#[44]⟩) ?_;refine ew (cu 0 [_]) [.int .i64 0,.string ⟨#[]⟩,.int .i64 0] [_,_,_] zeroValue170 runUnderlying110 sizeOf170 (fun b19=>?_);refine fS 0 19 3 1 ?_;refine OD.eB (ls:=(kX ts i)) (new:=[dD ⟨#[44]⟩]) (Sq:=Sa) iL lP ap rfl rfl underlying110 A5 rfl w8 ot oM (dg (A:=[])) ot bq vB vB (fun HB U ajH ajI=>?_);refine OD.perm (dW (S1:=[⟨HB,170,U*3,flatMap cT ((kX ts i)++[dD ⟨#[44]⟩])⟩]) (A:=[])) ?_;refine an 29 [3,5,8,9,10] ?_;refine dG 2 ?_;refine OD.pO (ls:=((kX ts i)++[dD ⟨#[44]⟩])) (new:=ts[i]) (Sq:=[⟨HB,170,U*3,flatMap cT ((kX ts i)++[dD ⟨#[44]⟩])⟩]) iL lP ap rfl rfl underlying110 A5 rfl w8 runUnderlying110 sizeOf170 ot (bM ajH ajI) (dg (A:=[])) ot vB vB (fun VK VL Xh VM=>?_);exact Xg
  refine dG 2 ?_;refine OD.pO (ls:=(kX ts i)) (new:=ts[i]) (Sq:=Sa) iL lP ap rfl rfl underlying110 A5 rfl w8 runUnderlying110 sizeOf170 ot oM (dg (A:=[])) ot vB vB (fun VK VL Xh VM=>?_);exact Xg
 have um:i=ts.length:=(by omega)
 have ny:kX ts i++[dD ⟨#[41]⟩]=my ts:=(by unfold my;rw[←um])
 refine aA 1 ?_;refine dO call106 (nl ⟨#[41]⟩) ?_;refine ew (cu 0 [_]) [.int .i64 0,.string ⟨#[]⟩,.int .i64 0] [_,_,_] zeroValue170 runUnderlying110 sizeOf170 (fun b27=>?_);refine fS 0 27 3 1 ?_;refine OD.eB (ls:=(kX ts i)) (new:=[dD ⟨#[41]⟩]) (Sq:=Sa) iL lP ap rfl rfl underlying110 A5 rfl w8 ot oM (dg (A:=[])) ot bq vB vB (fun ND Z ajJ ajK=>?_);refine OD.perm (dW (S1:=[⟨ND,170,Z*3,flatMap cT ((kX ts i)++[dD ⟨#[41]⟩])⟩]) (A:=[])) ?_;refine an 29 [2] ?_;refine CD.ic (t:=2) (Sq:=[⟨ND,170,Z*3,flatMap cT ((kX ts i)++[dD ⟨#[41]⟩])⟩]) lk (bM ajJ ajK) (cm iL _) (dg (A:=[])) ?_;refine aK [] ?_;rw[ny];exact⟨rfl,rfl⟩
def jd(v:Vl):List Tk :=
 if v.k=0 then [bE ⟨#[78,85,76,76]⟩]
 else if v.k=1 then [bE (if v.n=0 then ⟨#[70,65,76,83,69]⟩ else ⟨#[84,82,85,69]⟩)]
 else if v.k=3 then [⟨3,v.s,0⟩]
 else if v.n<0 then [dD ⟨#[45]⟩,⟨2,⟨#[]⟩,-v.n⟩] else [⟨2,⟨#[]⟩,v.n⟩]
def nj(v:Vl):Prop:=(v.k=1→v.n=0∨v.n=1)∧-9223372036854775807≤v.n∧v.n≤9223372036854775807
theorem IF(v:Vl):0<(jd v).length∧(jd v).length≤2:=by
 unfold jd;repeat' split
 all_goals exact⟨by simp,by simp⟩
def F8:List ByteArray:=[⟨#[]⟩,⟨#[]⟩,⟨#[]⟩,⟨#[]⟩,⟨#[]⟩,⟨#[]⟩,⟨#[61]⟩,⟨#[60]⟩,⟨#[43]⟩,⟨#[45]⟩,⟨#[42]⟩]
def zG(k:Int):Tk:=if k=3 then bE ⟨#[65,78,68]⟩ else if k=4 then bE ⟨#[79,82]⟩ else dD (F8.getD k.toNat ⟨#[]⟩)
theorem ahW{j:Nat}(h:j<11):(F8.map fun s=>D.v (.string s))[j*1]?=some (aZ (F8[j]'h)):=by
 rw[Nat.mul_one,getElem?_map,getElem?_eq_getElem h];rfl
theorem OO(v:Vl)(h:nj v):VP Tryz.prog G 103 [.agg (cV v)] (.list 3 ((jd v).flatMap cT) (jd v).length):=by
 refine VC.body func103 rfl ntmps103 aQ fun X0 w0 bf=>?_;obtain⟨h1,h2,h3⟩:=h;unfold cV;refine bS ?_;refine OD.box (ds:=[_,_,_]) ap rfl rfl ot rfl rfl (fun b1=>?_);refine an 42 [1] ?_;refine af [1,3] ?_;refine ax ?_ ?_<;>intro aO bA
 ·refine cL [2] (sC [⟨#[78,85,76,76]⟩] Ah) ?_;exact z26
 refine af [1,9] ?_;refine ax ?_ ?_<;>intro aY cz
 ·have dL:v.k=1:=(by simpa using aY)
  obtain⟨j,hj,I⟩:∃j:Nat,v.n=(j:Int)∧j<2:=(by (rcases h1 dL with h|h;exact⟨0,h,by decide⟩;exact⟨1,h,by decide⟩))
  rw[hj];refine cM [2] ?_;refine Nu (g:=cS) ([⟨#[70,65,76,83,69]⟩,⟨#[84,82,85,69]⟩]) ?_;refine aP 3 ?_ (h:=by exact(cR (mk:=Op.load 9) rfl ot (by exact rD (i:=j) jB isAgg9 (by show j<2;omega) rfl)));refine cJ (sC [([⟨#[70,65,76,83,69]⟩,⟨#[84,82,85,69]⟩]:List ByteArray)[j]'(by show j<2;omega)] Ah) ?_;refine bD ?_;exact z26
 refine af [1,20] ?_;refine ax ?_ ?_<;>intro cc cN
 ·refine aA 3 ?_;refine ew (cu 0 [_]) [.int .i64 0,.string ⟨#[]⟩,.int .i64 0] [_,_,_] zeroValue170 runUnderlying110 sizeOf170 (fun E=>?_);refine OD.perm (dW (S1:=[⟨E,170,1*3,flatMap cT ([(⟨3,v.s,0⟩:Tk)])⟩]) (A:=[_])) ?_;refine an 42 [2] ?_;refine CD.ic (t:=2) (Sq:=[⟨E,170,1*3,flatMap cT ([(⟨3,v.s,0⟩:Tk)])⟩]) lk (bM (g:=cT) (sz:=3) (e:=170) (ls:=[(⟨3,v.s,0⟩:Tk)]) (Nat.le_refl _) (show 1≤maxLen by decide)) (cm iL _) (dg (A:=[_])) ?_;exact z26
 refine af [1,28] ?_;refine ax ?_ ?_<;>intro cQ ek
 ·refine cM [2] ?_;refine cJ (nl ⟨#[45]⟩) ?_;refine aP 2 ?_ (h:=by exact(Bm rfl ot (FE (wrap_i64 w4 w4))));refine bD ?_;exact z26
 refine aA 3 ?_;refine ew (cu 0 [_]) [.int .i64 0,.string ⟨#[]⟩,.int .i64 0] [_,_,_] zeroValue170 runUnderlying110 sizeOf170 (fun vM=>?_);refine OD.perm (dW (S1:=[⟨vM,170,1*3,flatMap cT ([(⟨2,⟨#[]⟩,v.n⟩:Tk)])⟩]) (A:=[_])) ?_;refine an 42 [2] ?_;refine CD.ic (t:=2) (Sq:=[⟨vM,170,1*3,flatMap cT ([(⟨2,⟨#[]⟩,v.n⟩:Tk)])⟩]) lk (bM (g:=cT) (sz:=3) (e:=170) (ls:=[(⟨2,⟨#[]⟩,v.n⟩:Tk)]) (Nat.le_refl _) (show 1≤maxLen by decide)) (cm iL _) (dg (A:=[_])) ?_;refine aK [] ?_;refine⟨?_,rfl⟩;unfold jd;first|(rw[if_pos bA];first|done|rfl)|(rw[if_neg bA,if_pos dL,hj];rcases j with _|_|j<;>first|rfl|omega)|(rw[if_neg bA,if_neg cz,if_pos cN];first|done|rfl)|(rw[if_neg bA,if_neg cz,if_neg cN,if_pos w4,show -v.n=0-v.n by omega];first|done|rfl)|(rw[if_neg bA,if_neg cz,if_neg cN,if_neg w4];first|done|rfl)
theorem aal(k:Int)(h:k=3∨k=4∨6≤k∧k≤10):VP Tryz.prog G 147 [ae k] (.agg (cT (zG k))):=by
 refine VC.body func147 rfl ntmps147 aQ fun X0 w0 bf=>?_;refine bS ?_;refine OD.alloc (ds:=[_,_,_]) ap rfl rfl zeroValue170 rfl (fun b2=>?_);refine an 14 [0,2] ?_;refine af [0,2,3] ?_;refine af [0,2,3,4] ?_;refine ax ?_ ?_<;>intro aO bA
 ·refine bS ?_;refine dO call145 (rA ⟨#[65,78,68]⟩) ?_;exact Xm
 refine af [0,2,7] ?_;refine ax ?_ ?_<;>intro aY cz
 ·refine bS ?_;refine dO call145 (rA ⟨#[79,82]⟩) ?_;exact Xm
 have mb:¬k=3:=(by simpa using aO)
 have xW:¬k=4:=(by simpa using aY)
 obtain⟨j,rfl⟩:∃j:Nat,k=(j:Int):=⟨k.toNat,by omega⟩
 have hj:j<11:=(by omega)
 refine bS ?_;refine bQ (Ef (pl:=[(6,_),(7,_),(8,_),(9,_),(10,_)]) (ds:=[_,_,_,_,_,_,_,_,_,_,_]) rfl zeroValue227 runUnderlying227 sizeOf9 ⟨rfl,bP,rfl,bP,rfl,bP,rfl,bP,rfl,bP,trivial⟩ rfl rfl) ?_;refine aG 1 ?_;refine bQ (Z9 (j:=j) rfl ot ot runUnderlying227 sizeOf9 isAgg9 rfl hj (ahW hj)) ?_;refine dO call106 (nl (F8[j]'hj)) ?_;refine aM 0 [_,_,_] sizeOf170 ?_;refine an 14 [2] ?_;refine aK [] ?_;refine⟨?_,rfl⟩;unfold zG;first|(rw[if_neg mb,if_neg xW,show((j:Nat):Int).toNat=j from rfl,getD_eq_getElem?_getD,getElem?_eq_getElem hj];rfl)|(rw[if_pos xN];rfl)|(rw[if_neg xN,if_pos vI];rfl)

def Dl(q:List Tk):List D:=[au 3 cT q]
theorem OT:(Tryz.prog.info? 170).map (fun i=>(i.zero,i.size,i.bytes))=some (some (.agg #[.int .i64 0,.string ⟨#[]⟩,.int .i64 0]),3,32):=by kernel_rfl
theorem abe(n:Nat)(h0:0<n)(hn:n≤100000):VC Tryz.prog G 146 [bF,ae (n:Nat)] [] (fun r S=>∃b cap,cap≤maxLen∧r=aN (some ⟨b,0,none⟩) 0 cap∧S=[⟨b,170,cap*3,[]⟩]):=by
 refine VC.body func146 rfl ntmps146 aQ fun X0 w0 bf=>?_;refine af [0,1] ?_;refine af [0,1,6] ?_;refine ax ?_ ?_<;>intro aO bA
 ·exact absurd aO ur
 refine cM [0,1] ?_;refine aP 2 ?_ (h:=by exact(Er rfl rfl ot runUnderlying110));refine aP 1 ?_ (h:=by exact(cR (mk:=fun y=>.call {callee:=.builtin .len,args:=#[y],argTypes:=#[110]}) rfl ot (SS rfl runUnderlying110)));refine bD ?_;refine af [0,1,16] ?_;refine ax ?_ ?_<;>intro aY cz
 ·refine dG 2 ?_;refine bQ (Er rfl rfl ot runUnderlying110) ?_;refine bQ (D8 rfl ot rfl ⟨_,_,ot,rfl⟩ runUnderlying110 sizeOf170) ?_;refine aG 1 ?_;refine OD.acV (m:=n) (sz:=3) ap rfl rfl underlying110 underlying3 OT rfl w8 ot (Eq.trans ot (congrArg (fun z=>D.v (.int .i64 z)) (show((n:Nat):Int)-(0-0)=((n:Nat):Int) by omega))) h0 G4 w4 (fun b cap h1 h2=>?_);refine aG 1 ?_;refine bQ (cR (mk:=fun y=>.call {callee:=.builtin .len,args:=#[y],argTypes:=#[110]}) rfl ot (SS rfl runUnderlying110)) ?_;refine bQ (eE (l:=0) (h:=0) rfl ot trivial ⟨_,ot⟩ (by first|exact nO (fun h=>by cases h) runUnderlying110 sizeOf170 w4|exact nk (fun _=>rfl) (fun h=>by cases h) runUnderlying110 sizeOf170 w4 w4)) ?_;refine an 27 [0] ?_;refine af [4] ?_;refine aK [⟨b,170,cap*3,[]⟩] ?_;exact⟨b,cap,h2,rfl,rfl⟩
 exact absurd aY (by simp at aY;omega)
theorem ZY(ls:List (List Tk))(Yn:ls.length≤1000)(h0:0<ls.flatten.length)(hn:ls.flatten.length≤100000):VC Tryz.prog G 105 [au 1 Dl ls] [] (fun r S=>∃ad cap,r=aN ad ls.flatten.length cap∧bg 170 3 (ls.flatten.flatMap cT) ls.flatten.length ad cap S):=by
 refine VC.body func105 rfl ntmps105 aQ fun X0 w0 bf=>?_;refine af [0] ?_;refine af [0,3] ?_;refine af [0,3,9,10,11] ?_;refine CD.block ?_;refine ni (fun (j:Nat) aD=>(j≤ls.length)∧aD=(⟨36,[(0,au 1 Dl ls),(3,ae ((((ls.take j).flatten).length:Nat):Int)),(9,au 1 Dl ls),(10,ae (ls.length:Nat)),(11,ae (j:Nat))],[]⟩:St)) (fun (j:Nat)=>ls.length-j) 0 ⟨(Nat.zero_le _),rfl⟩ (aJ (h:=by repeat (first|exact trivial|refine⟨(by (repeat (first|exact fI|(apply fX;focus (first|rfl|(congr 2;omega)|(simp;done)))|(apply fN;focus rfl)));done),?_⟩))) ?_;rintro j _ ⟨hj,rfl⟩;refine af [0,3,9,10,11,12] ?_;refine ax ?_ ?_<;>intro aO bA
 ·have aa:j<ls.length:=(by simp at aO;omega)
  have O:=OJ aa;have hle:=ON ls (j+1);refine af [0,3,5,9,10,11] ?_;refine cM [0,3,9,10,11] ?_;refine aP 3 ?_ (h:=by exact(dj (r:=.int .i64 ((((ls.take (j+1)).flatten).length:Nat):Int)) rfl ot ot (kz (by rw[show((((ls.take j).flatten).length:Nat):Int)+(ls[j].length:Nat)=((((ls.take (j+1)).flatten).length:Nat):Int) by omega];exact wrap_i64 w4 w4))));refine bD ?_;refine af [0,3,9,10,11,20] ?_;refine ax ?_ ?_<;>intro aY cz
  ·exact absurd aY (by simp at aY;omega)
  refine bX [0,3,9,10,11] ?_;refine⟨(j+1),_,cn,(aJ (h:=by repeat (first|exact trivial|refine⟨(by (repeat (first|exact fI|(apply fX;focus (first|rfl|(congr 2;omega)|(simp;done)))|(apply fN;focus rfl)));done),?_⟩))),w4,rfl⟩
 obtain rfl:j=ls.length:=(by simp at aO;omega)
 rw[take_length];refine aA 1 ?_;refine OD.call ap rfl rfl rfl call146 (abe ls.flatten.length h0 hn) ⟨bP,ot,trivial⟩ (Perm.refl _) ?_;rintro _ _ ⟨b,cp,xS,rfl,rfl⟩;refine OD.perm (Perm.refl _) ?_;refine an 36 [0,6] ?_;refine af [6,25,26,27] ?_;refine CD.block ?_;refine ni (fun (E:Nat×Option Addr×Nat×List ah) aD=>match E with|(j,dz,cZ,Sx)=>(j≤ls.length)∧(bg 170 3 (((ls.take j).flatten).flatMap cT) ((ls.take j).flatten).length dz cZ Sx)∧aD=(⟨36,[(6,aN dz ((ls.take j).flatten).length cZ),(25,au 1 Dl ls),(26,ae (ls.length:Nat)),(27,ae (j:Nat))],(Sx)⟩:St)) (fun (E:Nat×Option Addr×Nat×List ah)=>match E with|(j,dz,cZ,Sx)=>ls.length-j) (0,(some ⟨b,0,none⟩),cp,[⟨b,170,cp*3,[]⟩]) ⟨(Nat.zero_le _),(bg.cast (abd xS) (by rfl)),rfl⟩ (aJ (h:=by repeat (first|exact trivial|refine⟨(by (repeat (first|exact fI|(apply fX;focus (first|rfl|(simp;done)|(congr 2;omega)|(apply eL;rw[Et aa])|(apply eL;rfl)|(apply eL;simp;done)))|(apply fN;focus rfl)));done),?_⟩))) ?_;rintro⟨j,dz,cZ,Sx⟩ _ ⟨hj,dX,rfl⟩;refine af [6,25,26,27,28] ?_;refine ax ?_ ?_<;>intro cc cN
 ·have aa:j<ls.length:=(by simp at cc;omega)
  have O:=OJ aa;have hle:=ON ls (j+1);refine af [6,8,25,26,27] ?_;refine dG 2 ?_;refine OD.pO (ls:=((ls.take j).flatten)) (new:=ls[j]) (Sq:=Sx) iL lP ap rfl rfl underlying110 OT rfl w8 runUnderlying110 sizeOf170 ot dX (dg (A:=[])) ot G4 w4 (fun U Z S33 ajL=>?_);refine OD.perm (dW (A:=[])) ?_;refine an 36 [6,25,26,27] ?_;refine bX [6,25,26,27] ?_;refine⟨((j+1),U,Z,S33),_,cn,(aJ (h:=by repeat (first|exact trivial|refine⟨(by (repeat (first|exact fI|(apply fX;focus (first|rfl|(simp;done)|(congr 2;omega)|(apply eL;rw[Et aa])|(apply eL;rfl)|(apply eL;simp;done)))|(apply fN;focus rfl)));done),?_⟩))),w4,(bg.cast ajL (by rw[Et aa])),rfl⟩
 obtain rfl:j=ls.length:=(by simp at cc;omega)
 refine af [2] ?_;refine aK Sx ?_;have I:=dX;rw[take_length] at I;exact⟨dz,cZ,by rw[take_length],I⟩
theorem Eu(ls:List (List Tk))(E:ls.length≤1000)(h0:0<ls.flatten.length)(hn:ls.flatten.length≤100000):VP Tryz.prog G 105 [au 1 Dl ls] (au 3 cT ls.flatten):=VC.wR iL (ZY ls E h0 hn)
def oF(o:aS)(a b:List Tk):List Tk :=
 if o.k=1 then jd o.v else if o.k=2 then [bE o.nm]
 else if o.k=5 then [[dD ⟨#[40]⟩,bE ⟨#[78,79,84]⟩],a,[dD ⟨#[41]⟩]].flatten
 else if o.k=11 then [[dD ⟨#[40]⟩],a,[bE ⟨#[73,83]⟩,bE ⟨#[78,85,76,76]⟩],[dD ⟨#[41]⟩]].flatten
 else [[dD ⟨#[40]⟩],a,[zG o.k],b,[dD ⟨#[41]⟩]].flatten
def ei(h:List (List Tk))(o:aS):Nat:=h.length-(bK o.k).toNat
def jM(h:List (List Tk))(o:aS):List (List Tk):=h.take (ei h o)++[oF o (h.getD (ei h o) []) (h.getD (ei h o+1) [])]
def oX(l:List aS):List Tk:=(l.foldl jM []).getD 0 []
theorem ae1{h:Int}(he:gq h o=0):1≤o.k∧o.k≤11∧iT o.v=0∧bK o.k≤h:=by
 unfold gq at he;split at he
 ·cases he
 split at he
 ·exact absurd he uu
 split at he
 ·cases he
 split at he
 ·rename_i h4;exact absurd he h4.2
 split at he
 ·cases he
 exact⟨by omega,by omega,by omega,by omega⟩
theorem ae2{l:List aS}{h:Int}(hi:i<l.length)(he:fP h (l.drop i)=0):gq h l[i]=0:=by
 rw[drop_eq_getElem_cons hi,fP] at he;split at he
 ·assumption
 exact he
theorem FI{v:Vl}(h:iT v=0)(h1:-9223372036854775808≤v.n)(h2:v.n≤9223372036854775807):nj v:=by
 unfold iT cl at h;split at h
 ·cases h
 have hn:¬(v.k=2∧v.n = -9223372036854775808):=(by assumption)
 repeat' split at h
 all_goals first|(exfalso;omega)|(unfold nj;refine⟨?_,?_,h2⟩<;>omega)
theorem Q3(hp:bK o.k≤(h.length:Int)):((jM h o).length:Int)=h.length+(1-bK o.k):=by
 have:=tP o.k;unfold jM ei;rw[length_append,length_take];simp only[length_cons,length_nil];omega
theorem AZ(h:List (List Tk))(n:Nat):h.flatten.length=(h.take n).flatten.length+(h.drop n).flatten.length:=by
 conv=>lhs;rw[←take_append_drop n h,flatten_append,length_append]
theorem uO:(h.getD n []).length≤(h.drop n).flatten.length∧(h.getD n []).length+(h.getD (n+1) []).length≤(h.drop n).flatten.length:=by
 by_cases hn:n<h.length
 ·rw[drop_eq_getElem_cons hn];have e1:h.getD n []=h[n]:=(by rw[getD_eq_getElem?_getD,getElem?_eq_getElem hn];rfl)
  rw[e1,flatten_cons,length_append];refine⟨by omega,?_⟩;by_cases iI:n+1<h.length
  ·rw[drop_eq_getElem_cons iI,flatten_cons,length_append];have e2:h.getD (n+1) []=h[n+1]:=(by rw[getD_eq_getElem?_getD,getElem?_eq_getElem iI];rfl)
   rw[e2];omega
  have e2:h.getD (n+1) []=[]:=(by rw[getD_eq_getElem?_getD,getElem?_eq_none w4];rfl)
  rw[e2];simp only[length_nil];omega
 have e1:h.getD n []=[]:=(by rw[getD_eq_getElem?_getD,getElem?_eq_none w4];rfl)
 have e2:h.getD (n+1) []=[]:=(by rw[getD_eq_getElem?_getD,getElem?_eq_none w4];rfl)
 rw[e1,e2];exact⟨by simp,by simp⟩
theorem Tm(o:aS)(a b:List Tk):(oF o a b).length≤a.length+b.length+5∧0<(oF o a b).length:=by
 have:=IF o.v;unfold oF;repeat' split
 all_goals first|exact⟨by omega,by omega⟩|(simp only[flatten_cons,flatten_nil,length_append,length_cons,length_nil];exact⟨by omega,by omega⟩)
theorem PM:(jM h o).flatten.length≤h.flatten.length+5:=by
 have h1:=AZ h (ei h o);have h2:=(uO (h:=h) (n:=ei h o)).2;have h3:=(Tm o (h.getD (ei h o) []) (h.getD (ei h o+1) [])).1;unfold jM;rw[flatten_append,length_append];simp only[flatten_cons,flatten_nil,append_nil];omega
theorem abf{l:List aS}(hi:i<l.length):(l.take (i+1)).foldl jM []=jM ((l.take i).foldl jM []) l[i]:=by
 rw[take_succ_eq_append_getElem hi,foldl_append];rfl
theorem Fk{e sz cap:Nat}{cs:List D}{ad:Option Addr}{S:List ah}(h:bg e sz cs n ad cap S)(hn:0<n):∃b,ad=some ⟨b,0,none⟩∧n≤cap∧cap≤maxLen∧S=[⟨b,e,cap*sz,cs⟩]:=by
 rcases h with ⟨h1,_⟩|h
 ·omega
 exact h
theorem mO{h:List α}{d:α}(hn:n<h.length):h.getD n d=h[n]:=by rw[getD_eq_getElem?_getD,getElem?_eq_getElem hn];rfl
theorem ZZ:(Tryz.prog.info? 110).map (fun i=>(i.zero,i.size,i.bytes))=some (some (.slice none 0 0),1,24):=by kernel_rfl
theorem O9(l:List aS)(hl:l.length≤40)(he:fP 0 l=0)(hr:∀o∈l,-9223372036854775808≤o.v.n∧o.v.n≤9223372036854775807):VP Tryz.prog G 107 [au 5 cO l] (.list 3 ((oX l).flatMap cT) (oX l).length):=by
 refine VC.body func107 rfl ntmps107 aQ fun X0 w0 bf=>?_;have cY:=dN;refine af [0] ?_;refine bS ?_;refine bp [0,3] ?_;refine af [3,8,9,10] ?_;refine CD.block ?_;refine ni (fun (iO:Nat×List (List Tk)×Option Addr×Nat×List ah) aD=>match iO with|(i,H,AL,E,Sh)=>(i≤l.length)∧(H=(l.take i).foldl jM [])∧(fP ((H).length:Int) (l.drop i)=0)∧((H).length≤i)∧((H).flatten.length≤5*i)∧(bg 110 1 ((H).flatMap cK) (H).length AL E Sh)∧aD=(⟨90,[(3,aN AL (H).length E),(8,au 5 cO l),(9,ae (l.length:Nat)),(10,ae (i:Nat))],(Sh)⟩:St)) (fun (iO:Nat×List (List Tk)×Option Addr×Nat×List ah)=>match iO with|(i,H,AL,E,Sh)=>l.length-i) (0,[],none,0,[]) ⟨(Nat.zero_le _),rfl,he,(Nat.le_refl _),(Nat.le_refl _),(bg.cast iz (by rfl)),rfl⟩ (aJ (h:=by repeat (first|exact trivial|refine⟨(by (repeat (first|exact fI|(apply fX;focus (first|rfl|(simp;done)|(congr 2;omega)|(apply eL;rw[hT];rfl)|(apply eL;rfl)|(apply eL;simp;done)))|(apply fN;focus rfl)));done),?_⟩))) ?_;rintro⟨i,H,AL,E,Sh⟩ _ ⟨hi,hH,hx,hHi,hHf,AM,rfl⟩;refine af [3,8,9,10,11] ?_;refine ax ?_ ?_<;>intro aO bA
 ·have aa:i<l.length:=(by simp at aO;omega)
  have AG:=ae2 aa hx;obtain⟨dL,We,ajM,Hp⟩:=ae1 AG;have yj:=tP l[i].k;have LV:l.length≤40:=hl;have ajN:ei H l[i]≤H.length:=Nat.sub_le _ _;have ajO:=FI ajM (hr _ (getElem_mem aa)).1 (hr _ (getElem_mem aa)).2;refine aA 2 ?_;refine OD.alloc (ds:=[_,_,_,_,_]) ap rfl rfl zeroValue35 rfl (fun b5=>?_);refine aM 0 [_,_,_,_,_] sizeOf35 ?_;refine an 90 [3,5,8,9,10] ?_;refine cM [3,5,6,8,9,10] ?_;refine cJ (JP l[i].k) ?_;refine aP 0 ?_ (h:=by exact(dj (r:=.int .i64 (((ei H l[i]):Nat):Int)) rfl ot ot (gN (by rw[show((H.length:Nat):Int)-bK l[i].k=(((ei H l[i]):Nat):Int) by unfold ei;omega];exact wrap_i64 w4 w4))));refine bD ?_;refine af [3,5,6,8,9,10] ?_;refine iv [6,8,9,10] (fun aR _ aD=>∃(Tx:List Tk),∃(ad:Option Addr),∃(cp:Nat),∃(Sx:List ah),(Tx=oF l[i] (H.getD (ei H l[i]) []) (H.getD (ei H l[i]+1) []))∧(bg 110 1 (H.flatMap cK) H.length ad cp Sx)∧aD=(⟨90,(3,aN ad H.length cp)::(7,au 3 cT Tx)::aR,Sx⟩:St)) ?_ ?_
  ·refine af [3,5,6,8,9,10,21] ?_;refine af [3,5,6,8,9,10,21,41] ?_;refine ax ?_ ?_<;>intro aY cz
   ·refine gC [3,6,7,8,9,10] ?_;refine cJ (OO l[i].v ajO) ?_;refine bD ?_;refine⟨_,aJ,jd l[i].v,AL,E,Sh,(by unfold oF;rw[if_pos cz]),AM,rfl⟩
   refine af [3,5,6,8,9,10,21,46] ?_;refine ax ?_ ?_<;>intro cc cN
   ·refine gC [3,6,7,8,9,10] ?_;refine cJ (sC [l[i].nm] Ah) ?_;refine bD ?_;refine⟨_,aJ,[bE l[i].nm],AL,E,Sh,(by unfold oF;rw[if_neg cz,if_pos cN]),AM,rfl⟩
   refine af [3,5,6,8,9,10,21,52] ?_;refine ax ?_ ?_<;>intro cQ ek
   ·have Dm:l[i].k=5:=(by simpa using cQ)
    have hp1:bK l[i].k=1:=(by rw[Dm];decide)
    have hg1:=(uO (h:=H) (n:=ei H l[i])).1;have hg2:=(uO (h:=H) (n:=ei H l[i])).2;have hg3:=AZ H (ei H l[i]);have Z:0<H.length:=(by omega)
    obtain⟨bh,I,O,U,yl⟩:=Fk AM Z;subst I yl;have gJ:ei H l[i]<H.length:=(by unfold ei;omega)
    rw[mO gJ] at hg1 hg2;skip;refine gC [3,6,7,8,9,10] ?_;refine cJ (nl ⟨#[40]⟩) ?_;refine cJ (rA ⟨#[78,79,84]⟩) ?_;refine aP 4 ?_ (h:=by first|exact(cR (mk:=Op.load 110) rfl ot MO)|exact(cR (mk:=Op.load 110) rfl ot MN)|exact(cR (mk:=Op.load 110) rfl ot MM));refine cJ (nl ⟨#[41]⟩) ?_;refine cJ (Eu ([[dD ⟨#[40]⟩,bE ⟨#[78,79,84]⟩],H[ei H l[i]],[dD ⟨#[41]⟩]]) MS zZ zZ) ?_;refine bD ?_;refine⟨_,aJ,[[dD ⟨#[40]⟩,bE ⟨#[78,79,84]⟩],H[ei H l[i]],[dD ⟨#[41]⟩]].flatten,(some ⟨bh,0,none⟩),E,[⟨bh,110,E*1,H.flatMap cK⟩],(by unfold oF;rw[if_neg cz,if_neg cN,if_pos ek,mO gJ]),(bM O U),rfl⟩
   refine af [3,5,6,8,9,10,65] ?_;refine ax ?_ ?_<;>intro dV fB
   ·have NG:l[i].k=11:=(by simpa using dV)
    have hp1:bK l[i].k=1:=(by rw[NG];decide)
    have hg1:=(uO (h:=H) (n:=ei H l[i])).1;have hg2:=(uO (h:=H) (n:=ei H l[i])).2;have hg3:=AZ H (ei H l[i]);have Z:0<H.length:=(by omega)
    obtain⟨bh,I,O,U,yl⟩:=Fk AM Z;subst I yl;have gJ:ei H l[i]<H.length:=(by unfold ei;omega)
    rw[mO gJ] at hg1 hg2;skip;refine gC [3,6,7,8,9,10] ?_;refine cJ (nl ⟨#[40]⟩) ?_;refine aP 4 ?_ (h:=by first|exact(cR (mk:=Op.load 110) rfl ot MO)|exact(cR (mk:=Op.load 110) rfl ot MN)|exact(cR (mk:=Op.load 110) rfl ot MM));refine cJ (sC [⟨#[73,83]⟩,⟨#[78,85,76,76]⟩] (by show 2≤10;decide)) ?_;refine cJ (nl ⟨#[41]⟩) ?_;refine cJ (Eu ([[dD ⟨#[40]⟩],H[ei H l[i]],[bE ⟨#[73,83]⟩,bE ⟨#[78,85,76,76]⟩],[dD ⟨#[41]⟩]]) MS zZ zZ) ?_;refine bD ?_;refine⟨_,aJ,[[dD ⟨#[40]⟩],H[ei H l[i]],[bE ⟨#[73,83]⟩,bE ⟨#[78,85,76,76]⟩],[dD ⟨#[41]⟩]].flatten,(some ⟨bh,0,none⟩),E,[⟨bh,110,E*1,H.flatMap cK⟩],(by unfold oF;rw[if_neg cz,if_neg cN,if_neg ek,if_pos fB,mO gJ]),(bM O U),rfl⟩
   have hkb:¬l[i].k=1∧¬l[i].k=2∧¬l[i].k=5∧¬l[i].k=11:=⟨by simpa using aY,by simpa using cc,by simpa using cQ,by simpa using dV⟩
   have oK:bK l[i].k=2:=(by unfold bK;rw[if_neg w4,if_neg w4])
   have hg1:=(uO (h:=H) (n:=ei H l[i])).1;have hg2:=(uO (h:=H) (n:=ei H l[i])).2;have hg3:=AZ H (ei H l[i]);have Z:0<H.length:=(by omega)
   obtain⟨bh,I,O,U,yl⟩:=Fk AM Z;subst I yl;have gJ:ei H l[i]<H.length:=(by unfold ei;omega)
   have gw:ei H l[i]+1<H.length:=(by unfold ei;omega)
   rw[mO gJ,mO gw] at hg2;rw[mO gJ] at hg1;refine gC [3,6,7,8,9,10] ?_;refine cJ (nl ⟨#[40]⟩) ?_;refine aP 4 ?_ (h:=by first|exact(cR (mk:=Op.load 110) rfl ot MO)|exact(cR (mk:=Op.load 110) rfl ot MN)|exact(cR (mk:=Op.load 110) rfl ot MM));refine cJ (aal l[i].k w4) ?_;refine aP 3 ?_ (h:=by exact(dj (r:=.int .i64 ((((ei H l[i])+1:Nat)):Int)) rfl ot bP (kz (by rw[show(((ei H l[i]):Nat):Int)+1=(((ei H l[i])+1:Nat):Int) by omega];exact wrap_i64 w4 w4))));refine aP 1 ?_ (h:=by first|exact(cR (mk:=Op.load 110) rfl ot (by exact iZ (k:=0) (i:=((ei H l[i])+1)) gi rfl rfl rfl isAgg110 gw rfl))|exact(cR (mk:=Op.load 110) rfl ot (by exact iZ (k:=1) (i:=((ei H l[i])+1)) gi rfl rfl rfl isAgg110 gw rfl))|exact(cR (mk:=Op.load 110) rfl ot (by exact iZ (k:=2) (i:=((ei H l[i])+1)) gi rfl rfl rfl isAgg110 gw rfl)));refine cJ (nl ⟨#[41]⟩) ?_;refine cJ (Eu ([[dD ⟨#[40]⟩],H[ei H l[i]],[zG l[i].k],H[ei H l[i]+1],[dD ⟨#[41]⟩]]) MS zZ zZ) ?_;refine bD ?_;refine⟨_,aJ,[[dD ⟨#[40]⟩],H[ei H l[i]],[zG l[i].k],H[ei H l[i]+1],[dD ⟨#[41]⟩]].flatten,(some ⟨bh,0,none⟩),E,[⟨bh,110,E*1,H.flatMap cK⟩],(by unfold oF;rw[if_neg cz,if_neg cN,if_neg ek,if_neg fB,mO gJ,mO gw]),(bM O U),rfl⟩
  rintro _ ⟨Tx,ad,cp,Sx,hT,dX,rfl⟩;have hTl:=Tm l[i] (H.getD (ei H l[i]) []) (H.getD (ei H l[i]+1) []);refine dG 3 ?_;refine bQ (Zv dX rfl ot ot ot runUnderlying163 sizeOf110 (by unfold ei;omega)) ?_;refine aG 1 ?_;refine ew (cu 0 [_]) [.slice none 0 0] [_] zeroValue110 runUnderlying163 sizeOf110 (fun b84=>?_);refine fS 0 84 1 1 ?_;refine OD.aah (ls:=H) (new:=[Tx]) (n:=ei H l[i]) (Sq:=Sx) gi pU ap rfl rfl underlying163 ZZ rfl w8 ot dX (dg (A:=[])) (by unfold ei;omega) ot bq (by simp only[maxLen,length_cons,length_nil];omega) (by simp only[length_cons,length_nil];omega) (fun NH LW ajP ajQ=>?_);refine OD.perm (dW (S1:=[⟨NH,110,LW*1,flatMap cK (H.take (ei H l[i])++[Tx])⟩]) (A:=[])) ?_;refine an 90 [3,8,9,10] ?_;refine bX [3,8,9,10] ?_;refine⟨((i+1),(jM H l[i]),(some ⟨NH,0,none⟩),LW,[⟨NH,110,LW*1,flatMap cK (H.take (ei H l[i])++[Tx])⟩]),_,cn,(aJ (h:=by repeat (first|exact trivial|refine⟨(by (repeat (first|exact fI|(apply fX;focus (first|rfl|(simp;done)|(congr 2;omega)|(apply eL;rw[hT];rfl)|(apply eL;rfl)|(apply eL;simp;done)))|(apply fN;focus rfl)));done),?_⟩))),w4,(by rw[hH,←abf aa]),(by rw[Q3 Hp,←QY aa AG];exact hx),(by have:=Q3 Hp;omega),(by have:=PM (h:=H) (o:=l[i]);omega),(bg.cast (bM ajP ajQ) (by rw[hT];rfl)),rfl⟩
 have um:l.length≤i:=(by simp at aO;omega)
 have fh:=hx;rw[PG um] at fh;have hH1:H.length=1:=(by (split at fh;omega;cases fh))
 refine CD.exit ?_;refine CD.seq ?_;obtain⟨bh,I,O,U,yl⟩:=Fk AM (show 0<H.length by omega);subst I yl;have gJ:0<H.length:=(by omega)
 refine gC [2] ?_;refine aP 1 ?_ (h:=by exact(oe (mk:=Op.indexAddr 163) rfl ot bP (by first|exact oU runUnderlying163 sizeOf110 (j:=0) rfl (by first|exact gJ|exact gw)|exact oV runUnderlying163 sizeOf110 (j:=0) rfl (by first|exact gJ|exact gw))));refine aP 0 ?_ (h:=by first|exact(cR (mk:=Op.load 110) rfl ot (by exact iZ (k:=0) (i:=0) gi rfl rfl rfl isAgg110 gJ rfl))|exact(cR (mk:=Op.load 110) rfl ot (by exact iZ (k:=1) (i:=0) gi rfl rfl rfl isAgg110 gJ rfl))|exact(cR (mk:=Op.load 110) rfl ot (by exact iZ (k:=2) (i:=0) gi rfl rfl rfl isAgg110 gJ rfl)));refine bD ?_;refine aK [] ?_;refine⟨?_,rfl⟩;unfold oX;rw[show l.foldl jM []=H by rw[hH,take_of_length_le um],mO gJ]

end Go.Proofs.YtkgmonfgofobaaaGreatDoor.Pa
namespace Go.Proofs.YtkgmonfgofobaaaGreatDoor.Pa

open List
open Go.Proofs.Tryz
open Go.RowKit V Pk Vl Go.Proofs.YtkgmonfgofobaaaGreatDoor.Nm Pc
variable {G:List (Nat×List Value)}
variable {α:Type} {i:Nat} {E:List ByteArray}
def bj(s:bJ):List D:=[ae s.kind,aZ s.table,au 2 cC s.ay,au 3 cV s.row,au 1 cS s.names,bI s.count,au 5 cO s.aj,aZ s.order,bI s.down,ae s.gS,aZ s.set,au 5 cO s.bN]
def okS(s:bJ):Prop:=s.ay.length≤6∧s.row.length≤6∧s.names.length≤6∧s.aj.length≤40∧s.bN.length≤40

def jL{α:Type}(f:α→Int):List α→Int
 | []=>0
 | a::r=>if f a≠0 then f a else jL f r
theorem Q4{f:α→Int}{l:List α}(hi:i<l.length)(h:f l[i]≠0):jL f (l.drop i)=f l[i]:=by rw[drop_eq_getElem_cons hi,jL,if_pos h]
theorem Q5{f:α→Int}{l:List α}(hi:i<l.length)(h:f l[i]=0):jL f (l.drop i)=jL f (l.drop (i+1)):=by rw[drop_eq_getElem_cons hi,jL,if_neg (by rw[h];decide)]
theorem PN{f:α→Int}{l:List α}(hi:l.length≤i):jL f (l.drop i)=0:=by rw[drop_of_length_le hi];rfl
def dR(l:List Vl):Int:=if l.length<1∨l.length>6 then 1 else jL iT l
def mR(l:List aS):Int:=if l.length=0 then 0 else ij l
def ox(s:bJ):Int :=
 if s.names.length>6 then 1 else if s.gS < -1 then 3
 else if (s.count=true∧0<s.names.length)∨(s.down=true∧iQ s.order ⟨#[]⟩=true) then 6
 else if jL cy s.names≠0 then jL cy s.names else if mR s.aj≠0 then mR s.aj else if iQ s.order ⟨#[]⟩=true then 0 else cy s.order
def eP(s h:bJ):Bool:=iQ s.table h.table&&(((s.ay.length:Int)==(h.ay.length:Int))&&(((s.row.length:Int)==(h.row.length:Int))&&(((s.names.length:Int)==(h.names.length:Int))&&((s.count==h.count)&&(((s.aj.length:Int)==(h.aj.length:Int))&&(iQ s.order h.order&&((s.down==h.down)&&((s.gS==h.gS)&&(iQ s.set h.set&&((s.bN.length:Int)==(h.bN.length:Int)))))))))))
structure eS (s:bJ):Prop where
 ok:okS s
 t:s.table.size≤maxLen
 c:∀c∈s.ay,c.n.size≤maxLen
 n:∀x∈s.names,x.size≤maxLen
 o:s.order.size≤maxLen
 e:s.set.size≤maxLen
 r:∀v∈s.row,-9223372036854775808≤v.n∧v.n≤9223372036854775807
 w:∀o∈s.aj,o.nm.size≤maxLen∧-9223372036854775808≤o.v.n∧o.v.n≤9223372036854775807
 x:∀o∈s.bN,o.nm.size≤maxLen∧-9223372036854775808≤o.v.n∧o.v.n≤9223372036854775807
def jN(l:List aS):List Tk:=if l.length=0 then [] else [⟨#[87,72,69,82,69]⟩].map bE++oX l
theorem Qy(hm:(3,marksC)∈G)(hw:(1,wordsC)∈G)(l:List ByteArray)(hl:l.length≤1000)(hs:∀s∈l,s.size≤maxLen):VP Tryz.prog G 144 [au 1 cS l] (ae (jL cy l)):=by
 refine VC.body func144 rfl ntmps144 aQ fun X0 w0 bf=>?_;refine af [0] ?_;refine af [6,7,8] ?_;refine ez [6,7] (fun aR _ (i:Nat) aD=>(i≤l.length)∧(jL cy l=jL cy (l.drop i))∧aD=(⟨18,(8,ae (i:Nat))::aR,[]⟩:St)) (fun (i:Nat)=>l.length-i) 0 ⟨(Nat.zero_le _),rfl,rfl⟩ ?_;rintro i _ ⟨hi,hx,rfl⟩;refine af [6,7,8,9] ?_;refine ax ?_ ?_<;>intro aO bA
 ·have aa:i<l.length:=(by simp at aO;omega)
  refine af [4,6,7,8] ?_;refine cL [5,6,7,8] (uV hm hw l[i] (hs _ (getElem_mem aa))) ?_;refine af [5,6,7,8,15] ?_;refine ax ?_ ?_<;>intro aY cz
  ·have hn:cy l[i]≠0:=(by simpa using aY)
   have fh:=hx.trans (Q4 aa hn);refine af [2] ?_;exact xX
  have h0:cy l[i]=0:=(by simpa using aY)
  refine bX [6,7,8] ?_;refine⟨(i+1),_,cn,aJ,w4,(hx.trans (Q5 aa h0)),rfl⟩
 have fh:jL cy l=0:=hx.trans (PN ur);refine af [2] ?_;exact z76
theorem ae3(l:List Vl)(hl:l.length≤1000):VP Tryz.prog G 97 [au 3 cV l] (ae (dR l)):=by
 refine VC.body func97 rfl ntmps97 aQ fun X0 w0 bf=>?_;have O:(l.length<1∨l.length>6)∨¬(l.length<1∨l.length>6):=(by omega)
 refine af [0] ?_;refine aA 4 ?_;refine bW 9 (fun I E=>?_) (fun I E=>?_)
 ·refine bp [0,13] ?_;refine eT ?_;exact VR
 refine bp [0,13] ?_;refine ax ?_ ?_<;>intro aO bA
 ·exact VR
 have hf:dR l=jL iT l:=if_neg w4;refine af [14,15,16] ?_;refine ez [14,15] (fun aR _ (i:Nat) aD=>(i≤l.length)∧(jL iT l=jL iT (l.drop i))∧aD=(⟨26,(16,ae (i:Nat))::aR,[]⟩:St)) (fun (i:Nat)=>l.length-i) 0 ⟨(Nat.zero_le _),rfl,rfl⟩ ?_;rintro i _ ⟨hi,hx,rfl⟩;refine af [14,15,16,17] ?_;refine ax ?_ ?_<;>intro aY cz
 ·have aa:i<l.length:=(by simp at aY;omega)
  refine aA 2 ?_;refine OD.alloc (ds:=[_,_,_]) ap rfl rfl zeroValue33 rfl (fun b4=>?_);refine aM 0 [_,_,_] sizeOf33 ?_;refine an 26 [4,14,15,16] ?_;refine cL [5,14,15,16] (Nm.O4 l[i]) ?_;refine af [5,14,15,16,23] ?_;refine ax ?_ ?_<;>intro cc cN
  ·have hn:iT l[i]≠0:=(by simpa using cc)
   have fh:=hf.trans (hx.trans (Q4 aa hn));refine af [2] ?_;exact xX
  have h0:iT l[i]=0:=(by simpa using cc)
  refine bX [14,15,16] ?_;refine⟨(i+1),_,cn,aJ,w4,(hx.trans (Q5 aa h0)),rfl⟩
 have fh:dR l=0:=hf.trans (hx.trans (PN (by simp at aY;omega)));refine af [2] ?_;exact z76
theorem Ek(hm:(3,marksC)∈G)(hw:(1,wordsC)∈G)(l:List aS)(hs:∀o∈l,o.nm.size≤maxLen):VP Tryz.prog G 99 [au 5 cO l] (ae (mR l)):=by
 refine VC.body func99 rfl ntmps99 aQ fun X0 w0 bf=>?_;refine af [0] ?_;refine af [0,5] ?_;refine ax ?_ ?_<;>intro aO bA
 ·have fh:mR l=0:=if_pos ur;refine af [2] ?_;exact xX
 have fh:mR l=ij l:=if_neg ur;refine cL [2] (JQ hm hw l hs) ?_;exact z76
theorem ac2(hm:(3,marksC)∈G)(hw:(1,wordsC)∈G)(s:bJ)(hf:eS s):VP Tryz.prog G 98 [.agg (bj s)] (ae (ox s)):=by
 refine VC.body func98 rfl ntmps98 aQ fun X0 w0 bf=>?_;unfold bj;refine bS ?_;refine OD.box (ds:=[_,_,_,_,_,_,_,_,_,_,_,_]) ap rfl rfl ot rfl rfl (fun b1=>?_);refine an 50 [1] ?_;refine af [1,5] ?_;refine ax ?_ ?_<;>intro aO bA
 ·refine af [2] ?_;refine aK [] ?_;exact W5
 refine af [1,10] ?_;refine ax ?_ ?_<;>intro aY cz
 ·refine af [2] ?_;refine aK [] ?_;exact W5
 refine aA 3 ?_;refine bW 17 (fun xp wP=>?_) (fun xp wP=>?_)
 ·refine aG 6 ?_;refine bW 23 (fun U O=>?_) (fun U O=>?_)
  ·refine bp [1,14] ?_;refine eT ?_;refine af [2] ?_;exact CQ
  refine aG 3 ?_;refine bW 26 (fun I E=>?_) (fun I E=>?_)
  ·exact z127
  refine bp [1,14] ?_;refine fY ?_;exact W4
 refine yd 4 ?_;refine aG 5 ?_;refine bW 26 (fun I E=>?_) (fun I E=>?_)
 ·exact z127
 refine bp [1,14] ?_;refine fY ?_;refine cL [1,3] (Qy hm hw s.names (by have:=hf.ok.2.2.1;omega) hf.n) ?_;refine af [1,3,36] ?_;refine ax ?_ ?_<;>intro cQ ek
 ·refine af [2] ?_;exact CQ
 refine cL [1,4] (Ek hm hw s.aj (fun o h=>(hf.w o h).1)) ?_;refine af [1,4,42] ?_;refine ax ?_ ?_<;>intro dV fB
 ·refine af [2] ?_;exact CQ
 refine af [1,46] ?_;refine ax ?_ ?_<;>intro fD gG
 ·refine cL [2] (uV hm hw s.order hf.o) ?_;exact CQ
 refine af [2] ?_;refine eU ?_;refine⟨vi ?_,rfl⟩;unfold ox iQ;simp_all;all_goals (try (intros;(repeat' split)<;>first|rfl|omega))
theorem ae4(s h:bJ):VP Tryz.prog G 100 [.agg (bj s),.agg (bj h)] (bI (eP s h)):=by
 refine VC.body func100 rfl ntmps100 aQ fun X0 w0 bf=>?_;unfold bj;refine bS ?_;refine OD.box (ds:=[_,_,_,_,_,_,_,_,_,_,_,_]) ap rfl rfl ot rfl rfl (fun b2=>?_);refine OD.box (ds:=[_,_,_,_,_,_,_,_,_,_,_,_]) ap rfl rfl ot rfl rfl (fun b3=>?_);refine an 90 [2,3] ?_;refine aA 6 ?_;refine bW 10 (fun ajR E=>?_) (fun ajR E=>?_)
 ·refine aG 9 ?_;refine bW 19 (fun LX I=>?_) (fun LX I=>?_)
  ·refine aG 9 ?_;refine bW 28 (fun ajS O=>?_) (fun ajS O=>?_)
   ·refine aG 9 ?_;refine bW 37 (fun ajT U=>?_) (fun ajT U=>?_)
    ·refine aG 4 ?_;refine OD.still iq rfl (dj rfl ot ot (EG underlying4)) ?_;refine aG 2 ?_;refine bW 44 (fun Ci Z=>?_) (fun Ci Z=>?_)
     ·refine aG 9 ?_;refine bW 53 (fun LY K8=>?_) (fun LY K8=>?_)
      ·refine aG 7 ?_;refine bW 60 (fun ajU K9=>?_) (fun ajU K9=>?_)
       ·refine aG 4 ?_;refine OD.still iq rfl (dj rfl ot ot (EG underlying4)) ?_;refine aG 2 ?_;refine bW 67 (fun ajV ahX=>?_) (fun ajV ahX=>?_)
        ·refine aG 7 ?_;refine bW 74 (fun ajW ahY=>?_) (fun ajW ahY=>?_)
         ·refine aG 7 ?_;refine bW 81 (fun ajX ahZ=>?_) (fun ajX ahZ=>?_)
          ·exact xT
          exact xT
         exact xT
        exact xT
       exact xT
      exact xT
     exact xT
    refine bp [4] ?_;refine eU ?_;exact M2
   refine bp [4] ?_;refine eU ?_;exact M2
  refine bp [4] ?_;refine eU ?_;exact M2
 refine bp [4] ?_;refine eU ?_;refine⟨vb ?_,rfl⟩;unfold eP iQ;simp_all;all_goals (try (intros;omega))
theorem Z0:(Tryz.prog.info? 170).map (fun i=>(i.zero,i.size,i.bytes))=some (some (.agg #[.int .i64 0,.string ⟨#[]⟩,.int .i64 0]),3,32):=by kernel_rfl
theorem H9(l:List aS)(hl:l.length≤40)(he:l.length=0∨fP 0 l=0)(hr:∀o∈l,-9223372036854775808≤o.v.n∧o.v.n≤9223372036854775807)(hsl:(oX l).length≤1000):VP Tryz.prog G 108 [au 5 cO l] (.list 3 ((jN l).flatMap cT) (jN l).length):=by
 refine VC.body func108 rfl ntmps108 aQ fun X0 w0 bf=>?_;refine af [0] ?_;refine af [0,5] ?_;refine ax ?_ ?_<;>intro aO bA
 ·have fh:jN l=[]:=if_pos ur;refine af [2] ?_;refine CD.wk (Wk.tM (t:=2) (sz:=3) lk) ?_;exact xX
 have fh:jN l=[⟨#[87,72,69,82,69]⟩].map bE++oX l:=if_neg ur;have I:fP 0 l=0:=he.resolve_left ur;refine bS ?_;refine ew (cu 0 [_]) [.string ⟨#[]⟩] [_] zeroValue9 runUnderlying44 sizeOf9 (fun U=>?_);refine OD.perm (dW (S1:=[⟨U,9,1*1,flatMap cS ([⟨#[87,72,69,82,69]⟩])⟩]) (A:=[])) ?_;refine OD.ic (t:=6) (Sq:=[⟨U,9,1*1,flatMap cS ([⟨#[87,72,69,82,69]⟩])⟩]) lk (bM (g:=cS) (sz:=1) (e:=9) (ls:=[⟨#[87,72,69,82,69]⟩]) (Nat.le_refl _) (show 1≤maxLen by decide)) (cm jB _) (dg (A:=[])) ?_;refine OD.call ap rfl rfl rfl call101 (zb [⟨#[87,72,69,82,69]⟩] Ah) ⟨ot,trivial⟩ (fa _) ?_;rintro _ S7 ⟨Yp,Yq,rfl,qj⟩;refine OD.perm (S':=S7) (append_nil _ ▸ Perm.refl _) ?_;refine aG 1 ?_;refine dO call107 (O9 l hl I hr) ?_;refine OD.pO (ls:=([⟨#[87,72,69,82,69]⟩].map bE)) (new:=(oX l)) (Sq:=S7) iL lP ap rfl rfl underlying110 Z0 rfl w8 runUnderlying110 sizeOf170 ot qj (dg (A:=[])) ot (by simp only[maxLen,length_map,length_cons,length_nil];omega) (by simp only[length_map,length_cons,length_nil];omega) (fun Z aqy O E=>?_);refine OD.perm (dW (A:=[])) ?_;refine an 11 [2] ?_;refine CD.ic (t:=2) (Sq:=O) lk E (cm iL _) (dg (A:=[])) ?_;exact z76

def rM(s:bJ):ByteArray:=if s.kind<7 then s.table else ⟨#[]⟩
def en(s:bJ):bJ :=
 if s.kind=1 then {dQ with kind:=s.kind,table:=(rM s),ay:=s.ay} else if s.kind=3 then {dQ with kind:=s.kind,table:=(rM s),row:=s.row} else if s.kind=4 then {dQ with kind:=s.kind,table:=(rM s),names:=s.names,count:=s.count,aj:=s.aj,order:=s.order,down:=s.down,gS:=s.gS} else if s.kind=5 then {dQ with kind:=s.kind,table:=(rM s),set:=s.set,bN:=s.bN,aj:=s.aj} else if s.kind=6 then {dQ with kind:=s.kind,table:=(rM s),aj:=s.aj} else {dQ with kind:=s.kind,table:=(rM s)}
def eC(s:bJ):Int :=
 if s.kind=1 then fO s.ay else if s.kind=3 then dR s.row else if s.kind=4 then ox s
 else if s.kind=5 then (if cy s.set=0 then (if ij s.bN=0 then mR s.aj else ij s.bN) else cy s.set) else if s.kind=6 then mR s.aj else 0
def dS(s:bJ):Int:=if s.kind<7∧cy s.table≠0 then cy s.table else if eC s=0∧eP s (en s)=false then 6 else eC s
theorem abg(hm:(3,marksC)∈G)(hw:(1,wordsC)∈G)(s:bJ)(hf:eS s):VP Tryz.prog G 52 [.agg (bj s)] (ae (dS s)):=by
 refine VC.body func52 rfl ntmps52 aQ fun X0 w0 bf=>?_;have I:=ac2 hm hw s hf;unfold bj at I;unfold bj;refine bS ?_;refine OD.box (ds:=[_,_,_,_,_,_,_,_,_,_,_,_]) ap rfl rfl ot rfl rfl (fun b1=>?_);refine an 102 [1] ?_;refine aA 3 ?_;refine OD.alloc (ds:=[_,_,_,_,_,_,_,_,_,_,_,_]) ap rfl rfl zeroValue46 rfl (fun b3=>?_);refine aM 0 [_,_,_,_,_,_,_,_,_,_,_,_] sizeOf46 ?_;refine an 102 [1,3] ?_;refine iv [1,3] (fun aR _ aD=>∃(tb:ByteArray),(tb=rM s)∧(¬(s.kind<7∧cy s.table≠0))∧aD=(⟨102,aR,[⟨b3,46,12,[ae s.kind,aZ tb,.list 2 [] 0,.list 3 [] 0,.list 1 [] 0,bI false,.list 5 [] 0,fk,bI false,ae (-1),fk,.list 5 [] 0]⟩,⟨b1,46,12,[ae s.kind,aZ s.table,au 2 cC s.ay,au 3 cV s.row,au 1 cS s.names,bI s.count,au 5 cO s.aj,aZ s.order,bI s.down,ae s.gS,aZ s.set,au 5 cO s.bN]⟩]⟩:St)) ?_ ?_
 ·refine CD.seq ?_;refine CD.cells (k:=0) (cs':=[_,_,.list 2 [] 0,.list 3 [] 0,.list 1 [] 0,_,.list 5 [] 0,_,_,_,_,.list 5 [] 0]) (S':=[_,_]) rfl (by repeat (first|exact trivial|exact⟨cq,trivial⟩|exact⟨ey,trivial⟩|refine⟨cq,?_⟩|refine⟨ey,?_⟩)) rfl ?_;refine bX [1,3,11] ?_;refine ax ?_ ?_<;>intro aO bA
  ·refine aA 3 ?_;refine aM 0 [_,_,_,_,_,_,_,_,_,_,_,_] sizeOf9 ?_;refine an 102 [1,3] ?_;refine cL [1,3,4] (uV hm hw s.table hf.t) ?_;refine af [1,3,4,19] ?_;refine ax ?_ ?_<;>intro aY cz
   ·have aW:dS s=cy s.table:=(by unfold dS;rw[if_pos ⟨bA,by simpa using aY⟩])
    exact z91
   have gJ:cy s.table=0:=(by simpa using aY)
   have O:s.table=rM s:=(by unfold rM;rw[if_pos bA])
   have U:¬(s.kind<7∧cy s.table≠0):=fun h=>h.2 gJ;refine CD.skip ?_;refine⟨_,aJ,s.table,O,U,rfl⟩
  have O:(⟨#[]⟩:ByteArray)=rM s:=(by unfold rM;rw[if_neg w4])
  have U:¬(s.kind<7∧cy s.table≠0):=fun h=>by omega
  refine CD.skip ?_;refine⟨_,aJ,⟨#[]⟩,O,U,rfl⟩
 rintro _ ⟨tb,qU,n8,rfl⟩;refine af [1,3,5] ?_;refine iv [1,3] (fun aR _ aD=>∃(H:bJ),∃(e:Int),(H=en s)∧(e=eC s)∧aD=(⟨102,(5,ae e)::aR,[⟨b3,46,12,[ae H.kind,aZ H.table,au 2 cC H.ay,au 3 cV H.row,au 1 cS H.names,bI H.count,au 5 cO H.aj,aZ H.order,bI H.down,ae H.gS,aZ H.set,au 5 cO H.bN]⟩,⟨b1,46,12,[ae s.kind,aZ s.table,au 2 cC s.ay,au 3 cV s.row,au 1 cS s.names,bI s.count,au 5 cO s.aj,aZ s.order,bI s.down,ae s.gS,aZ s.set,au 5 cO s.bN]⟩]⟩:St)) ?_ ?_
 ·refine af [1,3,5,22] ?_;refine af [1,3,5,22,23] ?_;refine ax ?_ ?_<;>intro cc cN
  ·refine aA 3 ?_;refine aM 0 [_,_,_,_,_,_,_,_,_,_,_,_] sizeOf29 ?_;refine an 102 [1,3] ?_;refine gC [1,3,5] ?_;refine cJ (ae0 hm hw s.ay (by have:=hf.ok.1;simp only[maxLen];omega) hf.c) ?_;refine bD ?_;refine⟨_,aJ,{dQ with kind:=s.kind,table:=tb,ay:=s.ay},fO s.ay,(by unfold en;rw[if_pos cN,qU]),(by unfold eC;rw[if_pos cN]),rfl⟩
  refine af [1,3,5,22,31] ?_;refine ax ?_ ?_<;>intro cQ ek
  ·refine aA 3 ?_;refine aM 0 [_,_,_,_,_,_,_,_,_,_,_,_] sizeOf43 ?_;refine an 102 [1,3] ?_;refine gC [1,3,5] ?_;refine cJ (ae3 s.row (by have:=hf.ok.2.1;omega)) ?_;refine bD ?_;refine⟨_,aJ,{dQ with kind:=s.kind,table:=tb,row:=s.row},dR s.row,(by unfold en;rw[if_neg cN,if_pos ek,qU]),(by unfold eC;rw[if_neg cN,if_pos ek]),rfl⟩
  refine af [1,3,5,22,39] ?_;refine ax ?_ ?_<;>intro dV fB
  ·refine CD.seq ?_;refine gX 22 (av (eraseIdx _ 0)) ?_ (fun _ h=>(Sublist.map _ (eraseIdx_sublist _ 0)).subset h);refine aC 0 rfl (dF 4) ?_;refine aC 1 rfl (dK 1) ?_;refine aC 2 rfl (dF 5) ?_;refine aC 3 rfl (dK 1) ?_;refine aC 4 rfl (dF 6) ?_;refine aC 5 rfl (dK 1) ?_;refine aC 6 rfl (dF 7) ?_;refine aC 7 rfl (dK 1) ?_;refine aC 8 rfl (dF 8) ?_;refine aC 9 rfl (dK 1) ?_;refine aC 10 rfl (dF 9) ?_;refine aC 11 rfl (dK 1) ?_;refine aC 12 rfl (dF 4) ?_;refine dH.later rfl ?_;refine AD.one (i:=13) aB ?_;refine dP 0 [_,_,_,_,_,_,_,_,_,_,_,_] sizeOf44 ?_;refine c9 14 rfl (dF 5) ?_;refine AD.one (i:=15) aB ?_;refine dP 0 [_,_,_,_,_,_,_,_,_,_,_,_] sizeOf4 ?_;refine c9 16 rfl (dF 6) ?_;refine AD.one (i:=17) aB ?_;refine dP 0 [_,_,_,_,_,_,_,_,_,_,_,_] sizeOf36 ?_;refine c9 18 rfl (dF 7) ?_;refine AD.one (i:=19) aB ?_;refine dP 0 [_,_,_,_,_,_,_,_,_,_,_,_] sizeOf9 ?_;refine c9 20 rfl (dF 8) ?_;refine AD.one (i:=21) aB ?_;refine dP 0 [_,_,_,_,_,_,_,_,_,_,_,_] sizeOf4 ?_;refine fw ?_;refine aG 1 ?_;refine aM 0 [_,_,_,_,_,_,_,_,_,_,_,_] sizeOf3 ?_;refine an 102 [1,3] ?_;refine gC [1,3,5] ?_;refine cJ (I) ?_;refine bD ?_;refine⟨_,aJ,{dQ with kind:=s.kind,table:=tb,names:=s.names,count:=s.count,aj:=s.aj,order:=s.order,down:=s.down,gS:=s.gS},ox s,(by unfold en;rw[if_neg cN,if_neg ek,if_pos fB,qU]),(by unfold eC;rw[if_neg cN,if_neg ek,if_pos fB]),rfl⟩
  refine af [1,3,5,22,61] ?_;refine ax ?_ ?_<;>intro fD gG
  ·refine CD.seq ?_;refine gX 10 (av (eraseIdx _ 0)) ?_ (fun _ h=>(Sublist.map _ (eraseIdx_sublist _ 0)).subset h);refine aC 0 rfl (dF 10) ?_;refine aC 1 rfl (dK 1) ?_;refine aC 2 rfl (dF 11) ?_;refine aC 3 rfl (dK 1) ?_;refine aC 4 rfl (dF 6) ?_;refine aC 5 rfl (dK 1) ?_;refine aC 6 rfl (dF 10) ?_;refine dH.later rfl ?_;refine AD.one (i:=7) aB ?_;refine dP 0 [_,_,_,_,_,_,_,_,_,_,_,_] sizeOf9 ?_;refine c9 8 rfl (dF 11) ?_;refine AD.one (i:=9) aB ?_;refine dP 0 [_,_,_,_,_,_,_,_,_,_,_,_] sizeOf36 ?_;refine fw ?_;refine aG 1 ?_;refine aM 0 [_,_,_,_,_,_,_,_,_,_,_,_] sizeOf36 ?_;refine an 102 [1,3] ?_;refine cL [1,3,5] (uV hm hw s.set hf.e) ?_;refine af [1,3,5,76] ?_;refine ax ?_ ?_<;>intro iP o9
   ·have Z:cy s.set=0:=(by simpa using iP)
    refine gC [1,3,5] ?_;refine cJ (JQ hm hw s.bN (fun o h=>(hf.x o h).1)) ?_;refine bD ?_;refine af [1,3,5,81] ?_;refine ax ?_ ?_<;>intro iG mU
    ·have NI:ij s.bN=0:=(by simpa using iG)
     refine gC [1,3,5] ?_;refine cJ (Ek hm hw s.aj (fun o h=>(hf.w o h).1)) ?_;refine bD ?_;refine⟨_,aJ,{dQ with kind:=s.kind,table:=tb,set:=s.set,bN:=s.bN,aj:=s.aj},mR s.aj,MP,(by unfold eC;rw[if_neg cN,if_neg ek,if_neg fB,if_pos gG,if_pos Z,if_pos NI]),rfl⟩
    have NI:¬ij s.bN=0:=(by simpa using iG)
    refine CD.skip ?_;refine⟨_,aJ,{dQ with kind:=s.kind,table:=tb,set:=s.set,bN:=s.bN,aj:=s.aj},ij s.bN,MP,(by unfold eC;rw[if_neg cN,if_neg ek,if_neg fB,if_pos gG,if_pos Z,if_neg NI]),rfl⟩
   have Z:¬cy s.set=0:=(by simpa using iP)
   refine af [1,3,5,81] ?_;refine ax ?_ ?_<;>intro iG mU
   ·exact absurd iG (by simp[Z])
   refine CD.skip ?_;refine⟨_,aJ,{dQ with kind:=s.kind,table:=tb,set:=s.set,bN:=s.bN,aj:=s.aj},cy s.set,MP,(by unfold eC;rw[if_neg cN,if_neg ek,if_neg fB,if_pos gG,if_neg Z]),rfl⟩
  refine af [1,3,5,85] ?_;refine ax ?_ ?_<;>intro qi E
  ·refine aA 3 ?_;refine aM 0 [_,_,_,_,_,_,_,_,_,_,_,_] sizeOf36 ?_;refine an 102 [1,3] ?_;refine gC [1,3,5] ?_;refine cJ (Ek hm hw s.aj (fun o h=>(hf.w o h).1)) ?_;refine bD ?_;refine⟨_,aJ,{dQ with kind:=s.kind,table:=tb,aj:=s.aj},mR s.aj,(by unfold en;rw[if_neg cN,if_neg ek,if_neg fB,if_neg gG,if_pos E,qU]),(by unfold eC;rw[if_neg cN,if_neg ek,if_neg fB,if_neg gG,if_pos E]),rfl⟩
  refine CD.skip ?_;refine⟨_,aJ,{dQ with kind:=s.kind,table:=tb},0,(by unfold en;rw[if_neg cN,if_neg ek,if_neg fB,if_neg gG,if_neg E,qU]),(by unfold eC;rw[if_neg cN,if_neg ek,if_neg fB,if_neg gG,if_neg E]),rfl⟩
 rintro _ ⟨H,e,hH,Dn,rfl⟩;refine CD.seq ?_;refine CD.seq ?_;have Vj:=ae4 (G:=G) s H;unfold bj at Vj;refine dG 3 ?_;refine bW 95 (fun Wf ah0=>?_) (fun Wf ah0=>?_)
 ·refine aG 2 ?_;refine OD.gQ iq rfl rfl rfl call100 (Vj) ⟨ot,ot,trivial⟩ ?_;refine an 102 [5,100] ?_;refine ax ?_ ?_<;>intro uD Ck
  ·have aW:dS s=6:=(by unfold dS;rw[if_neg n8,if_pos ⟨by rw[←Dn];simpa using Wf,by rw[←hH];simpa using uD⟩])
   refine bX [5] ?_;exact z91
  have aW:dS s=e:=(by unfold dS;rw[if_neg n8,if_neg (by rw[←Dn,←hH];exact(fun h=>by obtain⟨h1,h2⟩:=h;simp_all)),Dn])
  exact z91
 refine bp [5,100] ?_;refine fY ?_;have aW:dS s=e:=(by unfold dS;rw[if_neg n8,if_neg (by rw[←Dn,←hH];exact(fun h=>by obtain⟨h1,h2⟩:=h;simp_all)),Dn])
 refine af [2] ?_;refine eU ?_;exact⟨by first|rw[aW]|rw[aW];rfl,rfl⟩

theorem PO:∀(l:List aS) (H:List (List Tk)),(l.foldl jM H).flatten.length≤H.flatten.length+5*l.length
 | [],H=>by simp
 | o::r,H=>by
  have h1:=PO r (jM H o);have h2:=PM (h:=H) (o:=o);rw[foldl_cons,length_cons];omega
theorem Ev(l:List aS):(oX l).length≤5*l.length:=by
 have h:=PO l [];have h2:=(uO (h:=l.foldl jM []) (n:=0)).1;have h3:=AZ (l.foldl jM []) 0;simp only[List.take_zero,flatten_nil,length_nil] at h h3;unfold oX;omega
theorem IG(l:List aS):(jN l).length≤5*l.length+1:=by
 have h:=Ev l;unfold jN;split
 ·simp
 rw[length_append,length_map];simp only[length_cons,length_nil];omega
def jY(ns:List ByteArray):Nat→List Tk
 | 0=>[]
 | i+1=>jY ns i++(if i>0 then [dD ⟨#[44]⟩] else [])++[bE (ns.getD i ⟨#[]⟩)]
theorem ED(E:List ByteArray):∀i,(jY E i).length≤2*i
 | 0=>Nat.le_refl _
 | i+1=>by
  have I:=ED E i;have h3:(if i>0 then [dD ⟨#[44]⟩] else []).length≤1:=(by split<;>simp)
  unfold jY;rw[length_append,length_append];simp only[length_cons,length_nil];omega
theorem Iu(hi:i<E.length)(h:0<i)(X:List Tk):((X++jY E i)++[dD ⟨#[44]⟩])++[bE E[i]]=X++jY E (i+1):=by
 rw[jY,if_pos h,mO hi];simp only[append_assoc]
theorem Ii(hi:i<E.length)(h:¬0<i)(X:List Tk):(X++jY E i)++[bE E[i]]=X++jY E (i+1):=by
 rw[jY,if_neg h,mO hi];simp only[append_assoc,append_nil]
def vj(s:bJ):List Tk:=if s.count=true then [bE ⟨#[67,79,85,78,84]⟩,dD ⟨#[40]⟩,dD ⟨#[42]⟩,dD ⟨#[41]⟩] else if s.names.length=0 then [dD ⟨#[42]⟩] else jY s.names s.names.length
def xB(s:bJ):List Tk:=if iQ s.order ⟨#[]⟩=true then [] else [⟨#[79,82,68,69,82]⟩,⟨#[66,89]⟩,s.order].map bE++(if s.down=true then [bE ⟨#[68,69,83,67]⟩] else [])
def Cl(s:bJ):List Tk:=if 0≤s.gS then [bE ⟨#[76,73,77,73,84]⟩,⟨2,⟨#[]⟩,s.gS⟩] else []
def zy(s:bJ):List Tk:=((([⟨#[83,69,76,69,67,84]⟩].map bE++vj s)++[⟨#[70,82,79,77]⟩,s.table].map bE++jN s.aj)++xB s)++Cl s
theorem so:(Tryz.prog.info? 170).map (fun i=>(i.zero,i.size,i.bytes))=some (some (.agg #[.int .i64 0,.string ⟨#[]⟩,.int .i64 0]),3,32):=by kernel_rfl
theorem Zw : ∀ w, ((#[{ name := "Kind", type := 3, offset := 0, embedded := false, tag := "", pkgPath := "", byteOffset := 0 }, { name := "Text", type := 9, offset := 1, embedded := false, tag := "", pkgPath := "", byteOffset := 8 }, { name := "Int", type := 3, offset := 2, embedded := false, tag := "", pkgPath := "", byteOffset := 24 }] : Array Field).mapM fun f => do pure (f.offset, ← sizeOf f.type) : Sem (Array (Nat × Nat))).run Tryz.prog w = .ok #[(0, 1), (1, 1), (2, 1)] w := fun w => by simp [sizeOf3, sizeOf9]
theorem Z1(s:bJ)(hf:eS s)(NJ:s.aj.length=0∨fP 0 s.aj=0):VP Tryz.prog G 104 [.agg (bj s)] (.list 3 ((zy s).flatMap cT) (zy s).length):=by
 refine VC.body func104 rfl ntmps104 aQ fun X0 w0 bf=>?_;have cY:=dN;have h6:=hf.ok.2.2.1;have pG:=hf.ok.2.2.2.1;have ym:=IG s.aj;have NK:=Ev s.aj;unfold bj;refine bS ?_;refine OD.box (ds:=[_,_,_,_,_,_,_,_,_,_,_,_]) ap rfl rfl ot rfl rfl (fun b1=>?_);refine an 84 [1] ?_;refine bS ?_;refine ew (cu 0 [_]) [.string ⟨#[]⟩] [_] zeroValue9 runUnderlying44 sizeOf9 (fun b6=>?_);refine OD.perm (dW (S1:=[⟨b6,9,1*1,flatMap cS ([⟨#[83,69,76,69,67,84]⟩])⟩]) (A:=[_])) ?_;refine OD.ic (t:=6) (Sq:=[⟨b6,9,1*1,flatMap cS ([⟨#[83,69,76,69,67,84]⟩])⟩]) lk (bM (g:=cS) (sz:=1) (e:=9) (ls:=[⟨#[83,69,76,69,67,84]⟩]) (Nat.le_refl _) (show 1≤maxLen by decide)) (cm jB _) (dg (A:=[_])) ?_;refine OD.call ap rfl rfl rfl call101 (zb [⟨#[83,69,76,69,67,84]⟩] Ah) ⟨ot,trivial⟩ (fa _) ?_;rintro _ S7 ⟨Yp,Yq,rfl,qj⟩;refine OD.perm (dW (A:=[_])) ?_;refine an 84 [1,3] ?_;refine iv [1] (fun aR _ aD=>∃(Q:List Tk),∃(ad:Option Addr),∃(cp:Nat),∃(Sx:List ah),(Q=[⟨#[83,69,76,69,67,84]⟩].map bE++vj s)∧(bg 170 3 (Q.flatMap cT) Q.length ad cp Sx)∧(Q.length≤20)∧aD=(⟨84,(3,aN ad Q.length cp)::aR,(⟨b1,46,12,[ae s.kind,aZ s.table,au 2 cC s.ay,au 3 cV s.row,au 1 cS s.names,bI s.count,au 5 cO s.aj,aZ s.order,bI s.down,ae s.gS,aZ s.set,au 5 cO s.bN]⟩::Sx)⟩:St)) ?_ ?_
 ·refine af [1,3,28] ?_;refine ax ?_ ?_<;>intro aO bA
  ·refine dG 1 ?_;refine dO call145 (rA ⟨#[67,79,85,78,84]⟩) ?_;refine dO call106 (nl ⟨#[40]⟩) ?_;refine dO call106 (nl ⟨#[42]⟩) ?_;refine dO call106 (nl ⟨#[41]⟩) ?_;refine ew (cu 0 [_,_,_,_]) [.int .i64 0,.string ⟨#[]⟩,.int .i64 0,.int .i64 0,.string ⟨#[]⟩,.int .i64 0,.int .i64 0,.string ⟨#[]⟩,.int .i64 0,.int .i64 0,.string ⟨#[]⟩,.int .i64 0] [_,_,_,_,_,_,_,_,_,_,_,_] zeroValue170 runUnderlying110 sizeOf170 (fun HC=>?_);refine fS 0 36 3 4 ?_;refine OD.eB (ls:=([⟨#[83,69,76,69,67,84]⟩].map bE)) (new:=[bE ⟨#[67,79,85,78,84]⟩,dD ⟨#[40]⟩,dD ⟨#[42]⟩,dD ⟨#[41]⟩]) (Sq:=S7) iL lP ap rfl rfl underlying110 so rfl w8 ot qj (dg (A:=[_])) ot bq qe w9 (fun NL U ajY ajZ=>?_);refine OD.perm (dW (S1:=[⟨NL,170,U*3,flatMap cT (([⟨#[83,69,76,69,67,84]⟩].map bE)++[bE ⟨#[67,79,85,78,84]⟩,dD ⟨#[40]⟩,dD ⟨#[42]⟩,dD ⟨#[41]⟩])⟩]) (A:=[_])) ?_;refine an 84 [1,3] ?_;refine⟨_,aJ,(([⟨#[83,69,76,69,67,84]⟩].map bE)++[bE ⟨#[67,79,85,78,84]⟩,dD ⟨#[40]⟩,dD ⟨#[42]⟩,dD ⟨#[41]⟩]),(some ⟨NL,0,none⟩),U,[⟨NL,170,U*3,flatMap cT (([⟨#[83,69,76,69,67,84]⟩].map bE)++[bE ⟨#[67,79,85,78,84]⟩,dD ⟨#[40]⟩,dD ⟨#[42]⟩,dD ⟨#[41]⟩])⟩],(by unfold vj;rw[if_pos bA]),(bM ajY ajZ),MB,rfl⟩
  refine af [1,3,38] ?_;refine ax ?_ ?_<;>intro aY cz
  ·refine dG 1 ?_;refine dO call106 (nl ⟨#[42]⟩) ?_;refine ew (cu 0 [_]) [.int .i64 0,.string ⟨#[]⟩,.int .i64 0] [_,_,_] zeroValue170 runUnderlying110 sizeOf170 (fun b45=>?_);refine fS 0 45 3 1 ?_;refine OD.eB (ls:=([⟨#[83,69,76,69,67,84]⟩].map bE)) (new:=[dD ⟨#[42]⟩]) (Sq:=S7) iL lP ap rfl rfl underlying110 so rfl w8 ot qj (dg (A:=[_])) ot bq qe w9 (fun Aw Z aj0 aj1=>?_);refine OD.perm (dW (S1:=[⟨Aw,170,Z*3,flatMap cT (([⟨#[83,69,76,69,67,84]⟩].map bE)++[dD ⟨#[42]⟩])⟩]) (A:=[_])) ?_;refine an 84 [1,3] ?_;refine⟨_,aJ,(([⟨#[83,69,76,69,67,84]⟩].map bE)++[dD ⟨#[42]⟩]),(some ⟨Aw,0,none⟩),Z,[⟨Aw,170,Z*3,flatMap cT (([⟨#[83,69,76,69,67,84]⟩].map bE)++[dD ⟨#[42]⟩])⟩],(by unfold vj;rw[if_neg xN,if_pos w4]),(bM aj0 aj1),MB,rfl⟩
  refine af [1,3,9,10,11] ?_;refine CD.block ?_;refine ni (fun (iO:Nat×Option Addr×Nat×List ah) aD=>match iO with|(i,Dp,Dq,So)=>(i≤s.names.length)∧(bg 170 3 ((([⟨#[83,69,76,69,67,84]⟩].map bE++jY s.names i)).flatMap cT) (([⟨#[83,69,76,69,67,84]⟩].map bE++jY s.names i)).length Dp Dq So)∧aD=(⟨84,[(1,cU b1),(3,aN Dp (([⟨#[83,69,76,69,67,84]⟩].map bE++jY s.names i)).length Dq),(9,au 1 cS s.names),(10,ae (s.names.length:Nat)),(11,ae (i:Nat))],((⟨b1,46,12,[ae s.kind,aZ s.table,au 2 cC s.ay,au 3 cV s.row,au 1 cS s.names,bI s.count,au 5 cO s.aj,aZ s.order,bI s.down,ae s.gS,aZ s.set,au 5 cO s.bN]⟩:ah)::So)⟩:St)) (fun (iO:Nat×Option Addr×Nat×List ah)=>match iO with|(i,Dp,Dq,So)=>s.names.length-i) (0,Yp,Yq,S7) ⟨(Nat.zero_le _),(bg.cast qj (by simp[jY])),rfl⟩ (aJ (h:=by repeat (first|exact trivial|refine⟨MF,?_⟩))) ?_;rintro⟨i,Dp,Dq,So⟩ _ ⟨hi,Dr,rfl⟩;refine af [1,3,9,10,11,12] ?_;refine ax ?_ ?_<;>intro cc cN
  ·have aa:i<s.names.length:=(by simp at cc;omega)
   have fE:=ED s.names i;refine af [1,3,4,5,9,10,11] ?_;refine af [1,3,5,9,10,11,17] ?_;refine ax ?_ ?_<;>intro cQ ek
   ·refine dG 1 ?_;refine dO call106 (nl ⟨#[44]⟩) ?_;refine ew (cu 0 [_]) [.int .i64 0,.string ⟨#[]⟩,.int .i64 0] [_,_,_] zeroValue170 runUnderlying110 sizeOf170 (fun HB=>?_);refine fS 0 20 3 1 ?_;refine OD.eB (ls:=(([⟨#[83,69,76,69,67,84]⟩].map bE++jY s.names i))) (new:=[dD ⟨#[44]⟩]) (Sq:=So) iL lP ap rfl rfl underlying110 so rfl w8 ot Dr (dg (A:=[_])) ot bq qe w9 (fun Dj Wg aj2 aj3=>?_);refine OD.perm (dW (S1:=[⟨Dj,170,Wg*3,flatMap cT ((([⟨#[83,69,76,69,67,84]⟩].map bE++jY s.names i))++[dD ⟨#[44]⟩])⟩]) (A:=[_])) ?_;refine an 84 [1,3,5,9,10,11] ?_;refine dG 2 ?_;refine dO call145 (rA s.names[i]) ?_;refine ew (cu 0 [_]) [.int .i64 0,.string ⟨#[]⟩,.int .i64 0] [_,_,_] zeroValue170 runUnderlying110 sizeOf170 (fun yn=>?_);refine fS 0 25 3 1 ?_;refine OD.eB (ls:=((([⟨#[83,69,76,69,67,84]⟩].map bE++jY s.names i))++[dD ⟨#[44]⟩])) (new:=[bE s.names[i]]) (Sq:=[⟨Dj,170,Wg*3,flatMap cT ((([⟨#[83,69,76,69,67,84]⟩].map bE++jY s.names i))++[dD ⟨#[44]⟩])⟩]) iL lP ap rfl rfl underlying110 so rfl w8 ot (bM aj2 aj3) (dg (A:=[_])) ot bq qe w9 (fun I E LZ L0=>?_);refine OD.perm (dW (S1:=[⟨I,170,E*3,flatMap cT (((([⟨#[83,69,76,69,67,84]⟩].map bE++jY s.names i))++[dD ⟨#[44]⟩])++[bE s.names[i]])⟩]) (A:=[_])) ?_;refine an 84 [1,3,9,10,11] ?_;refine bX [1,3,9,10,11] ?_
    refine⟨((i+1),(some ⟨I,0,none⟩),E,[⟨I,170,E*3,flatMap cT (((([⟨#[83,69,76,69,67,84]⟩].map bE++jY s.names i))++[dD ⟨#[44]⟩])++[bE s.names[i]])⟩]),_,cn,(aJ (h:=by repeat (first|exact trivial|refine⟨MF,?_⟩))),w4,(bg.cast (bM LZ L0) (by first|exact Iu aa w4 _|exact Ii aa w4 _)),rfl⟩
   refine dG 2 ?_;refine dO call145 (rA s.names[i]) ?_;refine ew (cu 0 [_]) [.int .i64 0,.string ⟨#[]⟩,.int .i64 0] [_,_,_] zeroValue170 runUnderlying110 sizeOf170 (fun yn=>?_);refine fS 0 25 3 1 ?_;refine OD.eB (ls:=(([⟨#[83,69,76,69,67,84]⟩].map bE++jY s.names i))) (new:=[bE s.names[i]]) (Sq:=So) iL lP ap rfl rfl underlying110 so rfl w8 ot Dr (dg (A:=[_])) ot bq qe w9 (fun I E LZ L0=>?_);refine OD.perm (dW (S1:=[⟨I,170,E*3,flatMap cT ((([⟨#[83,69,76,69,67,84]⟩].map bE++jY s.names i))++[bE s.names[i]])⟩]) (A:=[_])) ?_;refine an 84 [1,3,9,10,11] ?_;refine bX [1,3,9,10,11] ?_;refine⟨((i+1),(some ⟨I,0,none⟩),E,[⟨I,170,E*3,flatMap cT ((([⟨#[83,69,76,69,67,84]⟩].map bE++jY s.names i))++[bE s.names[i]])⟩]),_,cn,(aJ (h:=by repeat (first|exact trivial|refine⟨MF,?_⟩))),w4,(bg.cast (bM LZ L0) (by first|exact Iu aa w4 _|exact Ii aa w4 _)),rfl⟩
  have um:i=s.names.length:=(by simp at cc;omega)
  refine CD.exit ?_;refine⟨_,aJ,(([⟨#[83,69,76,69,67,84]⟩].map bE++jY s.names i)),Dp,Dq,So,(by unfold vj;rw[if_neg xN,if_neg w4,um]),Dr,MB,rfl⟩
 rintro _ ⟨Q,ad,cp,Sx,hQ,dX,hQl,rfl⟩;refine aA 3 ?_;refine ew (cu 0 [_,_]) [.string ⟨#[]⟩,.string ⟨#[]⟩] [_,_] zeroValue9 runUnderlying44 sizeOf9 (fun AN=>?_);refine OD.perm (yO (S2:=[⟨AN,9,2*1,flatMap cS ([⟨#[70,82,79,77]⟩,s.table])⟩]) (A:=[_])) ?_;refine OD.ic (t:=50) (Sq:=[⟨AN,9,2*1,flatMap cS ([⟨#[70,82,79,77]⟩,s.table])⟩]) lk (bM (g:=cS) (sz:=1) (e:=9) (ls:=[⟨#[70,82,79,77]⟩,s.table]) (Nat.le_refl _) (show 2≤maxLen by decide)) (cm jB _) (yN (A:=[_])) ?_;refine dO call101 (sC [⟨#[70,82,79,77]⟩,s.table] (by show 2≤10;decide)) ?_;refine OD.eB (ls:=Q) (new:=([⟨#[70,82,79,77]⟩,s.table].map bE)) (Sq:=Sx) iL lP ap rfl rfl underlying110 so rfl w8 ot dX (dg (A:=[_])) ot bq qe w9 (fun Yr Wh aj4 aj5=>?_);refine OD.perm (dW (S1:=[⟨Yr,170,Wh*3,flatMap cT (Q++([⟨#[70,82,79,77]⟩,s.table].map bE))⟩]) (A:=[_])) ?_;refine an 84 [1,3] ?_;refine aA 3 ?_;refine dO call108 (H9 s.aj pG NJ (fun o h=>(hf.w o h).2) w4) ?_;refine OD.pO (ls:=(Q++([⟨#[70,82,79,77]⟩,s.table].map bE))) (new:=(jN s.aj)) (Sq:=[⟨Yr,170,Wh*3,flatMap cT (Q++([⟨#[70,82,79,77]⟩,s.table].map bE))⟩]) iL lP ap rfl rfl underlying110 so rfl w8 runUnderlying110 sizeOf170 ot (bM aj4 aj5) (dg (A:=[_])) ot qe w9 (fun aj6 aj7 HD GA=>?_);refine OD.perm (dW (A:=[_])) ?_;refine an 84 [1,3] ?_
 refine iv [1] (fun aR _ aD=>∃(Q:List Tk),∃(ad:Option Addr),∃(cp:Nat),∃(Sx:List ah),(Q=(([⟨#[83,69,76,69,67,84]⟩].map bE++vj s)++[⟨#[70,82,79,77]⟩,s.table].map bE++jN s.aj)++xB s)∧(bg 170 3 (Q.flatMap cT) Q.length ad cp Sx)∧(Q.length≤500)∧aD=(⟨84,(3,aN ad Q.length cp)::aR,(⟨b1,46,12,[ae s.kind,aZ s.table,au 2 cC s.ay,au 3 cV s.row,au 1 cS s.names,bI s.count,au 5 cO s.aj,aZ s.order,bI s.down,ae s.gS,aZ s.set,au 5 cO s.bN]⟩::Sx)⟩:St)) ?_ ?_
 ·refine af [1,3,60] ?_;refine ax ?_ ?_<;>intro dV fB
  ·refine aA 3 ?_;refine ew (cu 0 [_,_,_]) [.string ⟨#[]⟩,.string ⟨#[]⟩,.string ⟨#[]⟩] [_,_,_] zeroValue9 runUnderlying44 sizeOf9 (fun Ds=>?_);refine OD.perm (yO (S2:=[⟨Ds,9,3*1,flatMap cS ([⟨#[79,82,68,69,82]⟩,⟨#[66,89]⟩,s.order])⟩]) (A:=[_])) ?_;refine OD.ic (t:=64) (Sq:=[⟨Ds,9,3*1,flatMap cS ([⟨#[79,82,68,69,82]⟩,⟨#[66,89]⟩,s.order])⟩]) lk (bM (g:=cS) (sz:=1) (e:=9) (ls:=[⟨#[79,82,68,69,82]⟩,⟨#[66,89]⟩,s.order]) (Nat.le_refl _) (show 3≤maxLen by decide)) (cm jB _) (yN (A:=[_])) ?_;refine dO call101 (sC [⟨#[79,82,68,69,82]⟩,⟨#[66,89]⟩,s.order] (by show 3≤10;decide)) ?_;refine OD.eB (ls:=((Q++([⟨#[70,82,79,77]⟩,s.table].map bE))++(jN s.aj))) (new:=([⟨#[79,82,68,69,82]⟩,⟨#[66,89]⟩,s.order].map bE)) (Sq:=HD) iL lP ap rfl rfl underlying110 so rfl w8 ot GA (dg (A:=[_])) ot bq qe w9 (fun pH O zR zS=>?_);refine OD.perm (dW (S1:=[⟨pH,170,O*3,flatMap cT (((Q++([⟨#[70,82,79,77]⟩,s.table].map bE))++(jN s.aj))++([⟨#[79,82,68,69,82]⟩,⟨#[66,89]⟩,s.order].map bE))⟩]) (A:=[_])) ?_;refine an 84 [1,3] ?_;refine af [1,3,68] ?_;refine ax ?_ ?_<;>intro fD gG
   ·refine dG 1 ?_;refine dO call145 (rA ⟨#[68,69,83,67]⟩) ?_;refine ew (cu 0 [_]) [.int .i64 0,.string ⟨#[]⟩,.int .i64 0] [_,_,_] zeroValue170 runUnderlying110 sizeOf170 (fun b71=>?_);refine fS 0 71 3 1 ?_;refine OD.eB (ls:=(((Q++([⟨#[70,82,79,77]⟩,s.table].map bE))++(jN s.aj))++([⟨#[79,82,68,69,82]⟩,⟨#[66,89]⟩,s.order].map bE))) (new:=[bE ⟨#[68,69,83,67]⟩]) (Sq:=[⟨pH,170,O*3,flatMap cT (((Q++([⟨#[70,82,79,77]⟩,s.table].map bE))++(jN s.aj))++([⟨#[79,82,68,69,82]⟩,⟨#[66,89]⟩,s.order].map bE))⟩]) iL lP ap rfl rfl underlying110 so rfl w8 ot (bM zR zS) (dg (A:=[_])) ot bq qe w9 (fun NM L1 aj8 aj9=>?_);refine OD.perm (dW (S1:=[⟨NM,170,L1*3,flatMap cT ((((Q++([⟨#[70,82,79,77]⟩,s.table].map bE))++(jN s.aj))++([⟨#[79,82,68,69,82]⟩,⟨#[66,89]⟩,s.order].map bE))++[bE ⟨#[68,69,83,67]⟩])⟩]) (A:=[_])) ?_;refine an 84 [1,3] ?_;refine⟨_,aJ,((((Q++([⟨#[70,82,79,77]⟩,s.table].map bE))++(jN s.aj))++([⟨#[79,82,68,69,82]⟩,⟨#[66,89]⟩,s.order].map bE))++[bE ⟨#[68,69,83,67]⟩]),(some ⟨NM,0,none⟩),L1,[⟨NM,170,L1*3,flatMap cT ((((Q++([⟨#[70,82,79,77]⟩,s.table].map bE))++(jN s.aj))++([⟨#[79,82,68,69,82]⟩,⟨#[66,89]⟩,s.order].map bE))++[bE ⟨#[68,69,83,67]⟩])⟩],(by rw[hQ];unfold xB;rw[if_neg (by unfold iQ;simpa using dV),if_pos gG];simp only[append_assoc]),(bM aj8 aj9),w9,rfl⟩
   refine CD.skip ?_;refine⟨_,aJ,(((Q++([⟨#[70,82,79,77]⟩,s.table].map bE))++(jN s.aj))++([⟨#[79,82,68,69,82]⟩,⟨#[66,89]⟩,s.order].map bE)),(some ⟨pH,0,none⟩),O,[⟨pH,170,O*3,flatMap cT (((Q++([⟨#[70,82,79,77]⟩,s.table].map bE))++(jN s.aj))++([⟨#[79,82,68,69,82]⟩,⟨#[66,89]⟩,s.order].map bE))⟩],(by rw[hQ];unfold xB;rw[if_neg (by unfold iQ;simpa using dV),if_neg (by simpa using fD)];simp only[append_assoc,append_nil]),(bM zR zS),w9,rfl⟩
  refine CD.skip ?_;refine⟨_,aJ,((Q++([⟨#[70,82,79,77]⟩,s.table].map bE))++(jN s.aj)),aj6,aj7,HD,(by rw[hQ];unfold xB;rw[if_pos (by unfold iQ;simpa using dV)];simp),GA,w9,rfl⟩
 rintro _ ⟨Q,ad,cp,Sx,hQ,dX,hQl,rfl⟩;refine af [1,3,75] ?_;refine ax ?_ ?_<;>intro iP o9
 ·refine gX 7 (av (take 1 _)) ?_ (fun _ h=>(Sublist.map _ (take_sublist _ _)).subset h);refine aC 0 rfl bG ?_;refine aC 2 rfl (dF 9) ?_;refine aC 3 rfl (dK 0) ?_;refine aC 4 rfl (oR (pl:=[(0,_),(2,_)]) (ds:=[_,_,_]) rfl zeroValue170 runUnderlying170 Zw ⟨rfl,bP,rfl,ot,trivial⟩ rfl rfl) ?_;refine dH.later rfl ?_;refine AD.one (i:=1) aB ?_;refine qk call145 (rA ⟨#[76,73,77,73,84]⟩) ?_;refine AD.one (i:=5) aB ?_;refine nF (cu 0 [_,_]) [.int .i64 0,.string ⟨#[]⟩,.int .i64 0,.int .i64 0,.string ⟨#[]⟩,.int .i64 0] [_,_,_,_,_,_] zeroValue170 runUnderlying110 sizeOf170 (fun b81=>?_);refine nG 0 81 3 2 ?_;refine AD.one (i:=6) aB ?_;refine bB.eB (ls:=Q) (new:=[bE ⟨#[76,73,77,73,84]⟩,(⟨2,⟨#[]⟩,s.gS⟩:Tk)]) (Sq:=Sx) iL lP rfl ap rfl rfl underlying110 so rfl w8 ot dX (dg (A:=[_])) ot bq qe w9 (fun Yt Wi aka akb=>?_);refine AD.perm (dW (S1:=[⟨Yt,170,Wi*3,flatMap cT (Q++[bE ⟨#[76,73,77,73,84]⟩,(⟨2,⟨#[]⟩,s.gS⟩:Tk)])⟩]) (A:=[_])) ?_;refine fw ?_;refine bp [3] ?_;refine af [2] ?_;refine CD.ic (t:=2) (Sq:=[⟨Yt,170,Wi*3,flatMap cT (Q++[bE ⟨#[76,73,77,73,84]⟩,(⟨2,⟨#[]⟩,s.gS⟩:Tk)])⟩]) lk (bM aka akb) (cm iL _) (dg (A:=[_])) ?_;refine eU ?_;refine⟨?_,rfl⟩;rw[hQ];unfold zy Cl;rw[if_pos w4]
 refine af [2] ?_;refine CD.ic (t:=2) (Sq:=Sx) lk dX (cm iL _) (dg (A:=[_])) ?_;refine aK [] ?_;refine⟨?_,rfl⟩;rw[hQ];unfold zy Cl;rw[if_neg w4];simp only[append_nil]

def La(k:Int):ByteArray:=agD.getD k.toNat ⟨#[]⟩
theorem ac3{k:Int}(h1:1≤k)(h2:k≤3):typesC[0+k.toNat*1]?=some (.string (La k)):=by
 have h:k=1∨k=2∨k=3:=(by omega)
 rcases h with rfl|rfl|rfl<;>rfl
def jh(c:cx):List Tk:=[c.n,La c.k].map bE
def GB:List ByteArray:=[⟨#[66,69,71,73,78]⟩,⟨#[67,79,77,77,73,84]⟩,⟨#[82,79,76,76,66,65,67,75]⟩]
def oY(s:bJ):List Tk :=
 if s.kind=1 then [⟨#[67,82,69,65,84,69]⟩,⟨#[84,65,66,76,69]⟩,s.table].map bE++my (s.ay.map jh)
 else if s.kind=2 then [⟨#[68,82,79,80]⟩,⟨#[84,65,66,76,69]⟩,s.table].map bE
 else if s.kind=3 then [⟨#[73,78,83,69,82,84]⟩,⟨#[73,78,84,79]⟩,s.table,⟨#[86,65,76,85,69,83]⟩].map bE++my (s.row.map jd)
 else if s.kind=4 then zy s
 else if s.kind=5 then [[⟨#[85,80,68,65,84,69]⟩,s.table,⟨#[83,69,84]⟩,s.set].map bE,[dD ⟨#[61]⟩],oX s.bN,jN s.aj].flatten
 else if s.kind=6 then [⟨#[68,69,76,69,84,69]⟩,⟨#[70,82,79,77]⟩,s.table].map bE++jN s.aj
 else [GB.getD (s.kind-7).toNat ⟨#[]⟩].map bE
structure Yu (s:bJ):Prop where
 fin:eS s
 k1:1≤s.kind
 k9:s.kind≤9
 c:s.kind=1→∀c∈s.ay,1≤c.k∧c.k≤3
 r:s.kind=3→∀v∈s.row,nj v
 w:s.kind=4∨s.kind=5∨s.kind=6→s.aj.length=0∨fP 0 s.aj=0
 t:s.kind=5→fP 0 s.bN=0
theorem Q6(ts:List (List Tk)):0<(my ts).length:=by unfold my;rw[length_append];simp
theorem Q7{ts:List (List Tk)}(h:∀x∈ts,x.length≤10):(my ts).length≤2+11*ts.length:=by
 have h1:=E7 h ts.length;unfold my;rw[length_append];simp only[length_cons,length_nil];omega
theorem JU(l:List cx):∀x∈l.map jh,x.length≤10:=fun x hx=>by obtain⟨c,_,rfl⟩:=mem_map.1 hx;show 2≤10;decide
theorem Q8(l:List Vl):∀x∈l.map jd,x.length≤10:=fun x hx=>by obtain⟨v,_,rfl⟩:=mem_map.1 hx;have:=IF v;omega
theorem OU:(Tryz.prog.info? 110).map (fun i=>(i.zero,i.size,i.bytes))=some (some (.slice none 0 0),1,24):=by kernel_rfl
theorem If:(Tryz.prog.info? 170).map (fun i=>(i.zero,i.size,i.bytes))=some (some (.agg #[.int .i64 0,.string ⟨#[]⟩,.int .i64 0]),3,32):=by kernel_rfl
theorem ae5(hty:(0,typesC)∈G)(s:bJ)(hs:Yu s):VP Tryz.prog G 53 [.agg (bj s)] (.list 3 ((oY s).flatMap cT) (oY s).length):=by
 refine VC.body func53 rfl ntmps53 aQ fun X0 w0 bf=>?_;have cY:=dN;have hf:=hs.fin;have h6:=hf.ok.1;have h6r:=hf.ok.2.1;have pG:=hf.ok.2.2.2.1;have akc:=hf.ok.2.2.2.2;have ym:=IG s.aj;have NK:=Ev s.aj;have GC:=Ev s.bN;have ku:=Q7 (JU s.ay);have qm:=Q7 (Q8 s.row);have O:=Z1 (G:=G) s hf
 (first|rw[length_map] at ku|(unfold au at ku;rw[length_map] at ku));(first|rw[length_map] at qm|(unfold au at qm;rw[length_map] at qm))
 unfold bj at O;unfold bj;refine bS ?_;refine OD.box (ds:=[_,_,_,_,_,_,_,_,_,_,_,_]) ap rfl rfl ot rfl rfl (fun b1=>?_);refine an 107 [1] ?_;refine cM [1,10] ?_;refine aP 1 ?_ (h:=by exact eW);refine jI ?_;refine af [1,10,11] ?_;refine ax ?_ ?_<;>intro aO bA
 ·refine bS ?_;refine bp [1,3] ?_;refine cM [1,3,14,15,16] ?_;refine aP 1 ?_ (h:=by exact eW);refine bD ?_;refine CD.block ?_;refine ni (fun (E:Nat×Option Addr×Nat×List ah) aD=>match E with|(i,dz,cZ,Sx)=>(i≤s.ay.length)∧(bg 110 1 (((s.ay.take i).map jh).flatMap cK) ((s.ay.take i).map jh).length dz cZ Sx)∧aD=(⟨107,[(1,cU b1),(3,aN dz ((s.ay.take i).map jh).length cZ),(14,au 2 cC s.ay),(15,ae (s.ay.length:Nat)),(16,ae (i:Nat))],((⟨b1,46,12,[ae s.kind,aZ s.table,au 2 cC s.ay,au 3 cV s.row,au 1 cS s.names,bI s.count,au 5 cO s.aj,aZ s.order,bI s.down,ae s.gS,aZ s.set,au 5 cO s.bN]⟩:ah)::Sx)⟩:St)) (fun (E:Nat×Option Addr×Nat×List ah)=>match E with|(i,dz,cZ,Sx)=>s.ay.length-i) (0,none,0,[]) ⟨(Nat.zero_le _),(bg.cast iz k8),rfl⟩ (aJ (h:=by repeat (first|exact trivial|refine⟨(by (repeat (first|exact fI|(apply fX;focus (first|rfl|(simp;done)|(congr 2;omega)|(apply eL;exact tI jh aa)|(apply eL;simp;done)))|(apply fN;focus rfl)));done),?_⟩))) ?_;rintro⟨i,dz,cZ,Sx⟩ _ ⟨hi,dX,rfl⟩;refine af [1,3,14,15,16,17] ?_;refine ax ?_ ?_<;>intro aY cz
  ·have aa:i<s.ay.length:=(by simp at aY;omega)
   have Yv:=hs.c bA _ (getElem_mem aa);refine aA 1 ?_;refine bQ (cR (mk:=Op.load 28) rfl ot (by first|exact qE (k:=0) (ds:=[_,_]) rfl rfl isAgg28 sizeOf28 rfl rfl|exact kj lu isAgg28 sizeOf28 w5|exact kj eZ isAgg28 sizeOf28 w5|exact kj jB isAgg28 sizeOf28 w5|exact dy (k:=0) lu rfl rfl rfl isAgg28 sizeOf28 w5|exact dy (k:=0) eZ rfl rfl rfl isAgg28 sizeOf28 w5|exact dy (k:=0) jB rfl rfl rfl isAgg28 sizeOf28 w5|exact qJ (ds:=[_,_]) isAgg28 sizeOf28 rfl rfl)) ?_;refine OD.alloc (ds:=[_,_]) ap rfl rfl zeroValue28 rfl (fun b5=>?_);refine aM 0 [_,_] sizeOf28 ?_;refine an 107 [1,3,5,14,15,16] ?_;refine gX 11 (av (take 2 _)) ?_ (fun _ h=>(Sublist.map _ (take_sublist _ _)).subset h);refine aC 0 rfl bG ?_;refine aC 1 rfl (dF 0) ?_;refine aC 2 rfl eW ?_;refine aC 3 rfl (dF 1) ?_;refine aC 4 rfl eW ?_;refine aC 5 rfl (oe (mk:=Op.indexAddr 165) rfl wg ot (by first|exact UB runUnderlying165 sizeOf9 rfl w5|exact UB (j:=Int.toNat _) runUnderlying165 sizeOf9 (Int.toNat_of_nonneg w4).symm w4)) ?_
   refine aC 6 rfl (cR (mk:=Op.load 9) rfl ot (by first|exact za (k:=0) rfl rfl isAgg9 rfl|exact za (k:=1) rfl rfl isAgg9 rfl|exact vc lu isAgg9 w5 rfl|exact rD lu isAgg9 w5 rfl|exact vc eZ isAgg9 w5 rfl|exact rD eZ isAgg9 w5 rfl|exact vc jB isAgg9 w5 rfl|exact rD jB isAgg9 w5 rfl|exact lA (k:=0) lu rfl rfl rfl isAgg9 w5 rfl|exact iZ (k:=0) lu rfl rfl rfl isAgg9 w5 rfl|exact lA (k:=1) lu rfl rfl rfl isAgg9 w5 rfl|exact iZ (k:=1) lu rfl rfl rfl isAgg9 w5 rfl|exact lA (k:=0) eZ rfl rfl rfl isAgg9 w5 rfl|exact iZ (k:=0) eZ rfl rfl rfl isAgg9 w5 rfl|exact lA (k:=1) eZ rfl rfl rfl isAgg9 w5 rfl|exact iZ (k:=1) eZ rfl rfl rfl isAgg9 w5 rfl|exact lA (k:=0) jB rfl rfl rfl isAgg9 w5 rfl|exact iZ (k:=0) jB rfl rfl rfl isAgg9 w5 rfl|exact lA (k:=1) jB rfl rfl rfl isAgg9 w5 rfl|exact iZ (k:=1) jB rfl rfl rfl isAgg9 w5 rfl|exact Cb isAgg9 rfl|exact agf hty isAgg9 (ac3 Yv.1 Yv.2))) ?_;refine dH.later rfl ?_;refine AD.one (i:=7) aB ?_;refine nF (cu 0 [_,_]) [.string ⟨#[]⟩,.string ⟨#[]⟩] [_,_] zeroValue9 runUnderlying44 sizeOf9 (fun b27=>?_);refine nG 0 27 1 2 ?_;refine AD.one (i:=8) aB ?_;refine qk call101 (sC [s.ay[i].n,La s.ay[i].k] (by show 2≤10;decide)) ?_;refine AD.one (i:=9) aB ?_;refine nF (cu 0 [_]) [.slice none 0 0] [_] zeroValue110 runUnderlying163 sizeOf110 (fun uC=>?_)
   refine nG 0 29 1 1 ?_;refine AD.one (i:=10) aB ?_;refine bB.Ep (Sq:=Sx) (R:=[_,_]) rfl ap rfl rfl underlying163 OU rfl w8 ot dX (perm_append_comm (l₁:=[_,_])) (cm gi _) ot (tW pU [jh s.ay[i]]) w8 (by rw[length_map,length_take];simp only[maxLen];omega) (by rw[length_map,length_take];omega) iD (fun NN U L4 L5=>?_);refine AD.perm (dW (S1:=[⟨NN,110,U*1,flatMap cK ((s.ay.take i).map jh)++flatMap cK [jh s.ay[i]]⟩]) (A:=[_,_])) ?_;rw[show flatMap cK ((s.ay.take i).map jh)++flatMap cK [jh s.ay[i]]=flatMap cK ((s.ay.take i).map jh++[jh s.ay[i]]) from List.flatMap_append.symm,show((s.ay.take i).map jh).length+1=((s.ay.take i).map jh++[jh s.ay[i]]).length from by rw[length_append];rfl];refine fw ?_;refine bp [1,3,14,15,16] ?_;refine bX [1,3,14,15,16] ?_;refine⟨((i+1),(some ⟨NN,0,none⟩),U,[⟨NN,110,U*1,flatMap cK ((s.ay.take i).map jh++[jh s.ay[i]])⟩]),_,cn,(aJ (h:=by repeat (first|exact trivial|refine⟨(by (repeat (first|exact fI|(apply fX;focus (first|rfl|(simp;done)|(congr 2;omega)|(apply eL;exact tI jh aa)|(apply eL;simp;done)))|(apply fN;focus rfl)));done),?_⟩))),w4,(bg.cast (bM (by rw[length_append];exact L4) L5) (by exact tI jh aa)),rfl⟩
  have fh:=JT jh (show s.ay.length≤i by simp at aY;omega);have Z:=Tj (G:=G) (s.ay.map jh) Ae (JU s.ay);rw[←fh] at Z ku;refine aA 1 ?_;refine bQ eW ?_;refine ew (cu 0 [_,_,_]) [.string ⟨#[]⟩,.string ⟨#[]⟩,.string ⟨#[]⟩] [_,_,_] zeroValue9 runUnderlying44 sizeOf9 (fun Yw=>?_);refine OD.perm (yO (S2:=[⟨Yw,9,3*1,flatMap cS ([⟨#[67,82,69,65,84,69]⟩,⟨#[84,65,66,76,69]⟩,s.table])⟩]) (A:=[_])) ?_;refine OD.ic (t:=34) (Sq:=[⟨Yw,9,3*1,flatMap cS ([⟨#[67,82,69,65,84,69]⟩,⟨#[84,65,66,76,69]⟩,s.table])⟩]) lk (bM (g:=cS) (sz:=1) (e:=9) (ls:=[⟨#[67,82,69,65,84,69]⟩,⟨#[84,65,66,76,69]⟩,s.table]) (Nat.le_refl _) (show 3≤maxLen by decide)) (cm jB _) (yN (A:=[_])) ?_;refine OD.call ap rfl rfl rfl call101 (zb [⟨#[67,82,69,65,84,69]⟩,⟨#[84,65,66,76,69]⟩,s.table] (by show 3≤10;decide)) ⟨ot,trivial⟩ (fa _) ?_;rintro _ S35 ⟨aqz,aqA,rfl,akd⟩;refine OD.perm (yO (A:=[_])) ?_;refine aG 1 ?_;refine OD.ic (t:=36) (Sq:=Sx) lk dX (cm gi _) (oT (A:=[_])) ?_;refine dO call102 (Z) ?_;refine OD.eB (ls:=([⟨#[67,82,69,65,84,69]⟩,⟨#[84,65,66,76,69]⟩,s.table].map bE)) (new:=(my ((s.ay.take i).map jh))) (Sq:=S35) iL lP ap rfl rfl underlying110 If rfl w8 ot akd (dg (A:=[_])) ot (Q6 _) qe w9 (fun NE Wj ake akf=>?_)
  refine OD.perm (dW (S1:=[⟨NE,170,Wj*3,flatMap cT (([⟨#[67,82,69,65,84,69]⟩,⟨#[84,65,66,76,69]⟩,s.table].map bE)++(my ((s.ay.take i).map jh)))⟩]) (A:=[_])) ?_;refine an 107 [2] ?_;refine CD.ic (t:=2) (Sq:=[⟨NE,170,Wj*3,flatMap cT (([⟨#[67,82,69,65,84,69]⟩,⟨#[84,65,66,76,69]⟩,s.table].map bE)++(my ((s.ay.take i).map jh)))⟩]) lk (bM ake akf) (cm iL _) (dg (A:=[_])) ?_;refine aK [] ?_;refine⟨?_,rfl⟩;unfold oY;rw[if_pos bA,←fh]
 refine af [1,10,39] ?_;refine ax ?_ ?_<;>intro cc cN
 ·refine cM [2] ?_;refine aP 1 ?_ (h:=by exact eW);refine cJ (sC [⟨#[68,82,79,80]⟩,⟨#[84,65,66,76,69]⟩,s.table] (by show 3≤10;decide)) ?_;refine bD ?_;refine aK [] ?_;refine⟨?_,rfl⟩;unfold oY;rw[if_neg bA,if_pos cN]
 refine af [1,10,45] ?_;refine ax ?_ ?_<;>intro cQ ek
 ·refine bS ?_;refine bp [1,6] ?_;refine cM [1,6,48,49,50] ?_;refine aP 1 ?_ (h:=by exact eW);refine bD ?_;refine CD.block ?_;refine ni (fun (E:Nat×Option Addr×Nat×List ah) aD=>match E with|(i,HE,HF,Sv)=>(i≤s.row.length)∧(bg 110 1 (((s.row.take i).map jd).flatMap cK) ((s.row.take i).map jd).length HE HF Sv)∧aD=(⟨107,[(1,cU b1),(6,aN HE ((s.row.take i).map jd).length HF),(48,au 3 cV s.row),(49,ae (s.row.length:Nat)),(50,ae (i:Nat))],((⟨b1,46,12,[ae s.kind,aZ s.table,au 2 cC s.ay,au 3 cV s.row,au 1 cS s.names,bI s.count,au 5 cO s.aj,aZ s.order,bI s.down,ae s.gS,aZ s.set,au 5 cO s.bN]⟩:ah)::Sv)⟩:St)) (fun (E:Nat×Option Addr×Nat×List ah)=>match E with|(i,HE,HF,Sv)=>s.row.length-i) (0,none,0,[]) ⟨(Nat.zero_le _),(bg.cast iz k8),rfl⟩ (aJ (h:=by repeat (first|exact trivial|refine⟨(by (repeat (first|exact fI|(apply fX;focus (first|rfl|(simp;done)|(congr 2;omega)|(apply eL;exact tI jd aa)|(apply eL;simp;done)))|(apply fN;focus rfl)));done),?_⟩))) ?_;rintro⟨i,HE,HF,Sv⟩ _ ⟨hi,ng,rfl⟩;refine af [1,6,48,49,50,51] ?_;refine ax ?_ ?_<;>intro dV fB
  ·have aa:i<s.row.length:=(by simp at dV;omega)
   refine aA 1 ?_;refine bQ (cR (mk:=Op.load 33) rfl ot (by first|exact qE (k:=0) (ds:=[_,_,_]) rfl rfl isAgg33 sizeOf33 rfl rfl|exact kj lu isAgg33 sizeOf33 w5|exact kj eZ isAgg33 sizeOf33 w5|exact kj jB isAgg33 sizeOf33 w5|exact dy (k:=0) lu rfl rfl rfl isAgg33 sizeOf33 w5|exact dy (k:=0) eZ rfl rfl rfl isAgg33 sizeOf33 w5|exact dy (k:=0) jB rfl rfl rfl isAgg33 sizeOf33 w5|exact qJ (ds:=[_,_,_]) isAgg33 sizeOf33 rfl rfl)) ?_;refine OD.alloc (ds:=[_,_,_]) ap rfl rfl zeroValue33 rfl (fun b8=>?_);refine aM 0 [_,_,_] sizeOf33 ?_;refine an 107 [1,6,8,48,49,50] ?_;refine dG 1 ?_;refine bQ (cR (mk:=Op.load 33) rfl ot (by first|exact qE (k:=0) (ds:=[_,_,_]) rfl rfl isAgg33 sizeOf33 rfl rfl|exact kj lu isAgg33 sizeOf33 w5|exact kj eZ isAgg33 sizeOf33 w5|exact kj jB isAgg33 sizeOf33 w5|exact dy (k:=0) lu rfl rfl rfl isAgg33 sizeOf33 w5|exact dy (k:=1) lu rfl rfl rfl isAgg33 sizeOf33 w5|exact dy (k:=0) eZ rfl rfl rfl isAgg33 sizeOf33 w5|exact dy (k:=1) eZ rfl rfl rfl isAgg33 sizeOf33 w5|exact dy (k:=0) jB rfl rfl rfl isAgg33 sizeOf33 w5|exact dy (k:=1) jB rfl rfl rfl isAgg33 sizeOf33 w5|exact qJ (ds:=[_,_,_]) isAgg33 sizeOf33 rfl rfl)) ?_;refine dO call103 (OO s.row[i] (hs.r ek _ (getElem_mem aa))) ?_;refine ew (cu 0 [_]) [.slice none 0 0] [_] zeroValue110 runUnderlying163 sizeOf110 (fun b57=>?_)
   refine fS 0 57 1 1 ?_;refine OD.eB (ls:=((s.row.take i).map jd)) (new:=[jd s.row[i]]) (Sq:=Sv) gi pU ap rfl rfl underlying163 OU rfl w8 ot ng (dg (A:=[_,_])) ot bq (by simp only[maxLen,length_map,length_take,length_cons,length_nil];omega) (by simp only[length_map,length_take,length_cons,length_nil];omega) (fun An L6 akg akh=>?_);refine OD.perm (dW (S1:=[⟨An,110,L6*1,flatMap cK (((s.row.take i).map jd)++[jd s.row[i]])⟩]) (A:=[_,_])) ?_;refine an 107 [1,6,48,49,50] ?_;refine bX [1,6,48,49,50] ?_;refine⟨((i+1),(some ⟨An,0,none⟩),L6,[⟨An,110,L6*1,flatMap cK (((s.row.take i).map jd)++[jd s.row[i]])⟩]),_,cn,(aJ (h:=by repeat (first|exact trivial|refine⟨(by (repeat (first|exact fI|(apply fX;focus (first|rfl|(simp;done)|(congr 2;omega)|(apply eL;exact tI jd aa)|(apply eL;simp;done)))|(apply fN;focus rfl)));done),?_⟩))),w4,(bg.cast (bM akg akh) (by exact tI jd aa)),rfl⟩
  have Vk:=JT jd (show s.row.length≤i by simp at dV;omega);have Z:=Tj (G:=G) (s.row.map jd) Ae (Q8 s.row);rw[←Vk] at Z qm;refine aA 1 ?_;refine bQ eW ?_;refine ew (cu 0 [_,_,_,_]) [.string ⟨#[]⟩,.string ⟨#[]⟩,.string ⟨#[]⟩,.string ⟨#[]⟩] [_,_,_,_] zeroValue9 runUnderlying44 sizeOf9 (fun NQ=>?_);refine OD.perm (yO (S2:=[⟨NQ,9,4*1,flatMap cS ([⟨#[73,78,83,69,82,84]⟩,⟨#[73,78,84,79]⟩,s.table,⟨#[86,65,76,85,69,83]⟩])⟩]) (A:=[_])) ?_;refine OD.ic (t:=62) (Sq:=[⟨NQ,9,4*1,flatMap cS ([⟨#[73,78,83,69,82,84]⟩,⟨#[73,78,84,79]⟩,s.table,⟨#[86,65,76,85,69,83]⟩])⟩]) lk (bM (g:=cS) (sz:=1) (e:=9) (ls:=[⟨#[73,78,83,69,82,84]⟩,⟨#[73,78,84,79]⟩,s.table,⟨#[86,65,76,85,69,83]⟩]) (Nat.le_refl _) (show 4≤maxLen by decide)) (cm jB _) (yN (A:=[_])) ?_;refine OD.call ap rfl rfl rfl call101 (zb [⟨#[73,78,83,69,82,84]⟩,⟨#[73,78,84,79]⟩,s.table,⟨#[86,65,76,85,69,83]⟩] (by show 4≤10;decide)) ⟨ot,trivial⟩ (fa _) ?_;rintro _ Dk ⟨Wd,xA,rfl,Cj⟩;refine OD.perm (yO (A:=[_])) ?_;refine aG 1 ?_;refine OD.ic (t:=64) (Sq:=Sv) lk ng (cm gi _) (oT (A:=[_])) ?_;refine dO call102 (Z) ?_;refine OD.eB (ls:=([⟨#[73,78,83,69,82,84]⟩,⟨#[73,78,84,79]⟩,s.table,⟨#[86,65,76,85,69,83]⟩].map bE)) (new:=(my ((s.row.take i).map jd))) (Sq:=Dk) iL lP ap rfl rfl underlying110 If rfl w8 ot Cj (dg (A:=[_])) ot (Q6 _) qe w9 (fun pH zQ zR zS=>?_)
  refine OD.perm (dW (S1:=[⟨pH,170,zQ*3,flatMap cT (([⟨#[73,78,83,69,82,84]⟩,⟨#[73,78,84,79]⟩,s.table,⟨#[86,65,76,85,69,83]⟩].map bE)++(my ((s.row.take i).map jd)))⟩]) (A:=[_])) ?_;refine an 107 [2] ?_;refine CD.ic (t:=2) (Sq:=[⟨pH,170,zQ*3,flatMap cT (([⟨#[73,78,83,69,82,84]⟩,⟨#[73,78,84,79]⟩,s.table,⟨#[86,65,76,85,69,83]⟩].map bE)++(my ((s.row.take i).map jd)))⟩]) lk (bM zR zS) (cm iL _) (dg (A:=[_])) ?_;refine aK [] ?_;refine⟨?_,rfl⟩;unfold oY;rw[if_neg bA,if_neg cN,if_pos ek,←Vk]
 refine af [1,10,67] ?_;refine ax ?_ ?_<;>intro fD gG
 ·refine cM [2] ?_;refine aP 0 ?_ (h:=by exact(cR (mk:=Op.load 46) rfl ot (by first|exact qE (k:=0) (ds:=[_,_,_,_,_,_,_,_,_,_,_,_]) rfl rfl isAgg46 sizeOf46 rfl rfl|exact kj lu isAgg46 sizeOf46 w5|exact kj eZ isAgg46 sizeOf46 w5|exact kj jB isAgg46 sizeOf46 w5|exact dy (k:=0) lu rfl rfl rfl isAgg46 sizeOf46 w5|exact dy (k:=0) eZ rfl rfl rfl isAgg46 sizeOf46 w5|exact dy (k:=0) jB rfl rfl rfl isAgg46 sizeOf46 w5|exact qJ (ds:=[_,_,_,_,_,_,_,_,_,_,_,_]) isAgg46 sizeOf46 rfl rfl)));refine cJ (O (hs.w (.inl gG))) ?_;refine bD ?_;refine aK [] ?_;refine⟨?_,rfl⟩;unfold oY;rw[if_neg bA,if_neg cN,if_neg ek,if_pos gG]
 refine af [1,10,71] ?_;refine ax ?_ ?_<;>intro iP I
 ·refine cM [2] ?_;refine aP 1 ?_ (h:=by exact eW);refine aP 1 ?_ (h:=by exact eW);refine cJ (sC [⟨#[85,80,68,65,84,69]⟩,s.table,⟨#[83,69,84]⟩,s.set] (by show 4≤10;decide)) ?_;refine cJ (nl ⟨#[61]⟩) ?_;refine aP 2 ?_ (h:=by exact eW);refine cJ (O9 s.bN akc (hs.t I) (fun o h=>(hf.x o h).2)) ?_;refine aP 1 ?_ (h:=by exact eW);refine cJ (H9 s.aj pG (hs.w (.inr (.inl I))) (fun o h=>(hf.w o h).2) w4) ?_;refine cJ (Eu [[⟨#[85,80,68,65,84,69]⟩,s.table,⟨#[83,69,84]⟩,s.set].map bE,[dD ⟨#[61]⟩],oX s.bN,jN s.aj] (by show 4≤1000;decide) (by simp only[flatten_cons,flatten_nil,length_append,length_map,length_cons,length_nil];omega) (by simp only[flatten_cons,flatten_nil,length_append,length_map,length_cons,length_nil];omega)) ?_;refine bD ?_;refine aK [] ?_;refine⟨?_,rfl⟩;unfold oY;rw[if_neg bA,if_neg cN,if_neg ek,if_neg gG,if_pos I]
 refine af [1,89] ?_;refine ax ?_ ?_<;>intro iG mU
 ·refine CD.seq ?_;refine gX 8 (av (take 1 _)) ?_ (fun _ h=>(Sublist.map _ (take_sublist _ _)).subset h);refine aC 0 rfl (dF 1) ?_;refine aC 1 rfl eW ?_;refine aC 4 rfl (dF 6) ?_;refine aC 5 rfl eW ?_;refine dH.later rfl ?_;refine AD.one (i:=2) aB ?_;refine nF (cu 0 [_,_,_]) [.string ⟨#[]⟩,.string ⟨#[]⟩,.string ⟨#[]⟩] [_,_,_] zeroValue9 runUnderlying44 sizeOf9 (fun Yx=>?_);refine nG 0 93 1 3 ?_;refine AD.one (i:=3) aB ?_;refine bB.call rfl ap rfl rfl rfl call101 (zb [⟨#[68,69,76,69,84,69]⟩,⟨#[70,82,79,77]⟩,s.table] (by show 3≤10;decide)) ⟨ot,trivial⟩ (fa _) iD ?_;rintro _ S94 ⟨aqB,aqC,rfl,aki⟩;refine AD.perm (dW (A:=[_])) ?_;refine AD.one (i:=6) aB ?_;refine qk call108 (H9 s.aj pG (hs.w (.inr (.inr mU))) (fun o h=>(hf.w o h).2) w4) ?_;refine AD.one (i:=7) aB ?_;refine bB.pO (ls:=([⟨#[68,69,76,69,84,69]⟩,⟨#[70,82,79,77]⟩,s.table].map bE)) (new:=(jN s.aj)) (Sq:=S94) iL lP rfl ap rfl rfl underlying110 If rfl w8 runUnderlying110 sizeOf170 ot aki (dg (A:=[_])) ot qe w9 (fun aqD aqE S98 akj=>?_);refine AD.perm (dW (A:=[_])) ?_;refine fw ?_;refine bp [2] ?_;refine CD.ic (t:=2) (Sq:=S98) lk akj (cm iL _) (dg (A:=[_])) ?_;refine eU ?_;refine⟨?_,rfl⟩;unfold oY;rw[if_neg bA,if_neg cN,if_neg ek,if_neg gG,if_neg I,if_pos mU]
 obtain⟨j,hj,NR⟩:∃j:Nat,s.kind=((7+j:Nat):Int)∧j<GB.length:=⟨(s.kind-7).toNat,by have:=hs.k1;have:=hs.k9;omega,by have:=hs.k1;have:=hs.k9;show _<3;omega⟩
 refine cM [2] ?_;refine Nu (g:=cS) (GB) ?_;refine aP 1 ?_ (h:=by exact eW);refine aP 0 ?_ (h:=by exact(dj (r:=.int .i64 ((j:Nat):Int)) rfl ot bP (gN (by rw[hj,show(((7+j:Nat)):Int)-7=((j:Nat):Int) by omega];exact wrap_i64 w4 (by have:j<3:=NR;omega)))));refine aP 1 ?_ (h:=by exact(cR (mk:=Op.load 9) rfl ot (by exact rD (i:=j) jB isAgg9 NR rfl)));refine cJ (sC [GB[j]] Ah) ?_;refine bD ?_;refine aK [] ?_;refine⟨?_,rfl⟩;unfold oY;rw[if_neg bA,if_neg cN,if_neg ek,if_neg gG,if_neg I,if_neg mU,hj,show(((7+j:Nat):Int)-7).toNat=j by omega,mO NR];first|done|rfl

theorem Pb:∀(l pre:List cx),rF pre l=0→∀c∈l,cy c.n=0∧1≤c.k∧c.k≤3
 | [],_,_,c,hc=>by cases hc
 | a::l,pre,h,c,hc=>by
  have h:(if nx pre a≠0 then nx pre a else rF (pre++[a]) l)=0:=h;by_cases h0:nx pre a=0
  ·rw[if_neg (by simp[h0])] at h;rcases mem_cons.1 hc with rfl|hc
   ·unfold nx at h0;by_cases h1:cy c.n=0
    ·rw[if_neg (by simp[h1])] at h0;by_cases h2:c.k<1∨c.k>3
     ·rw[if_pos h2] at h0;cases h0
     exact⟨h1,by omega⟩
    rw[if_pos h1] at h0;exact absurd h0 h1
   exact Pb l _ h c hc
  rw[if_pos h0] at h;exact absurd h h0
theorem abh{l:List cx}(h:fO l=0):(1≤l.length∧l.length≤6)∧∀c∈l,cy c.n=0∧1≤c.k∧c.k≤3:=by
 unfold fO at h;split at h
 ·cases h
 exact⟨by omega,Pb l [] h⟩
theorem Tn{α:Type}{f:α→Int}:∀{l:List α},jL f l=0→∀a∈l,f a=0
 | [],_,a,h=>by cases h
 | b::r,h,a,ha=>by
  unfold jL at h;split at h
  ·exact absurd h uu
  rcases mem_cons.1 ha with rfl|ha
  ·have hn:¬f a≠0:=(by assumption)
   omega
  exact Tn h a ha
theorem JV{l:List aS}(h:mR l=0):l.length=0∨fP 0 l=0:=by
 unfold mR at h;split at h
 ·exact .inl uu
 right;unfold ij at h;split at h
 ·cases h
 exact h
theorem agE{l:List aS}(h:ij l=0):fP 0 l=0∧l.length≤40:=by
 unfold ij at h;split at h
 ·cases h
 exact⟨h,by omega⟩
theorem ah1{s:bJ}(h:dS s=0):eC s=0∧eP s (en s)=true∧(s.kind<7→cy s.table=0):=by
 unfold dS at h;split at h
 ·rename_i h1;exact absurd h h1.2
 rename_i h1;split at h
 ·cases h
 rename_i h2;refine⟨h,?_,fun hk=>?_⟩
 ·cases hb:eP s (en s) with
  | true=>rfl
  | false=>exact absurd ⟨h,hb⟩ h2
 by_cases hn:cy s.table=0
 ·exact hn
 exact absurd ⟨hk,hn⟩ h1
theorem ah2{s:bJ}(hf:eS s)(h1:1≤s.kind)(I:s.kind≤9)(h:dS s=0):Yu s:=by
 have he:=(ah1 h).1;unfold eC at he;refine⟨hf,h1,I,fun hk=>?_,fun hk v E=>?_,fun hk=>?_,fun hk=>?_⟩
 ·rw[if_pos hk] at he;exact fun c hc=>((abh he).2 c hc).2
 ·rw[if_neg w4,if_pos hk] at he;unfold dR at he;split at he
  ·cases he
  exact FI (Tn he v E) (hf.r v E).1 (hf.r v E).2
 ·by_cases h4:s.kind=4
  ·rw[if_neg w4,if_neg w4,if_pos h4] at he;unfold ox at he;repeat' split at he
   all_goals first|(exfalso;omega)|exact JV w4
  by_cases h5:s.kind=5
  ·rw[if_neg w4,if_neg w4,if_neg h4,if_pos h5] at he;repeat' split at he
   all_goals first|(exfalso;omega)|exact JV he
  rw[if_neg w4,if_neg w4,if_neg h4,if_neg h5,if_pos w4] at he;exact JV he
 rw[if_neg w4,if_neg w4,if_neg w4,if_pos hk] at he;repeat' split at he
 all_goals first|(exfalso;omega)|exact(agE uu).1
def dJ(s:bJ):Int:=if s.kind<1∨s.kind>9 then 2 else if dS s≠0 then dS s else if (oY s).length>100 then 10 else 0
theorem Q9(hm:(3,marksC)∈G)(hw:(1,wordsC)∈G)(O:(0,typesC)∈G)(s:bJ)(hf:eS s):VP Tryz.prog G 28 [.agg (bj s)] (ae (dJ s)):=by
 refine VC.body func28 rfl ntmps28 aQ fun X0 w0 bf=>?_;have cY:=dN;have eV:=abg hm hw s hf;unfold bj at eV;unfold bj;have Z:(s.kind<1∨s.kind>9)∨¬(s.kind<1∨s.kind>9):=(by omega)
 refine bS ?_;refine OD.box (ds:=[_,_,_,_,_,_,_,_,_,_,_,_]) ap rfl rfl ot rfl rfl (fun b1=>?_);refine an 21 [1] ?_;refine aA 4 ?_;refine bW 7 (fun U E=>?_) (fun U E=>?_)
 ·refine bp [1,11] ?_;refine eT ?_;have aW:dJ s=2:=if_pos w4;exact xV
 refine bp [1,11] ?_;refine ax ?_ ?_<;>intro aO bA
 ·have aW:dJ s=2:=if_pos w4;exact xV
 have hk:¬(s.kind<1∨s.kind>9):=(by omega)
 refine cL [1,3] (eV) ?_;refine af [1,3,15] ?_;refine ax ?_ ?_<;>intro aY cz
 ·have hn:dS s≠0:=(by simpa using aY)
  have aW:dJ s=dS s:=(by unfold dJ;rw[if_neg hk,if_pos hn])
  exact xV
 have h0:dS s=0:=(by simpa using aY)
 have I:=ae5 O s (ah2 hf w4 w4 h0);unfold bj at I;have gJ:¬dS s≠0:=fun h=>h h0;refine cL [20] (I) ?_;refine ax ?_ ?_<;>intro cc cN
 ·have aW:dJ s=10:=(by unfold dJ;rw[if_neg hk,if_neg gJ,if_pos (by simp at cc;omega)])
  exact xV
 have aW:dJ s=0:=(by unfold dJ;rw[if_neg hk,if_neg gJ,if_neg (by simp at cc;omega)])
 refine af [2] ?_;refine eU ?_;rw[aW];exact⟨rfl,rfl⟩

end Go.Proofs.YtkgmonfgofobaaaGreatDoor.Pa
namespace Go.Proofs.YtkgmonfgofobaaaGreatDoor.Pc
open List
open Go.Proofs.Tryz
open Go.RowKit V Pk Vl Go.Proofs.YtkgmonfgofobaaaGreatDoor.Nm Pa
variable {G:List (Nat×List Value)}
variable {i:Nat}
theorem agF:cy ⟨#[116]⟩=0:=tv (l:=[116]) w8 w8 (fun c hc=>by simp only[mem_singleton] at hc;subst hc;decide)
def rj(l:List cx):bJ:={dQ with kind:=1,table:=⟨#[116]⟩,ay:=l}
theorem ah3{l:List cx}(h6:l.length≤6)(aV:∀c∈l,c.n.size≤maxLen):eS (rj l) :=
 ⟨⟨h6,Nat.zero_le _,Nat.zero_le _,Nat.zero_le _,Nat.zero_le _⟩,(by show 1≤maxLen;decide),aV,(fun _ h=>by cases h),Nat.zero_le _,Nat.zero_le _,(fun _ h=>by cases h),(fun _ h=>by cases h),(fun _ h=>by cases h)⟩
theorem agG(l:List cx):eP (rj l) (rj l)=true:=by
 unfold eP;simp only[Bool.and_eq_true,beq_iff_eq,wv,and_self]
theorem ae6(l:List cx):dS (rj l)=fO l:=by
 have h1:eC (rj l)=fO l:=rfl;have h2:en (rj l)=rj l:=rfl;unfold dS;rw[if_neg (fun h=>h.2 agF),h2,h1,if_neg (fun h=>by rw[agG] at h;cases h.2)]
theorem ac4{l:List cx}(h6:l.length≤6):dJ (rj l)=fO l:=by
 unfold dJ;rw[if_neg (fun h=>by have:(rj l).kind=1:=rfl;omega),ae6];split
 ·rfl
 rename_i h0;have h1:=E7 (ts:=l.map jh) (JU l) (l.map jh).length;have h2:(my (l.map jh)).length≤80:=(by unfold my;rw[length_append];(first|rw[length_map] at h1|(unfold au at h1;rw[length_map] at h1));(first|rw[length_map]|(unfold au;rw[length_map]));simp only[length_cons,length_nil];omega)
 have h3:(oY (rj l)).length≤100:=by
  show([_,_,_].map bE++my (l.map jh)).length≤100;rw[length_append];simp only[length_map,length_cons,length_nil];omega
 rw[if_neg w4];simp only[ne_eq,Decidable.not_not] at h0;exact h0.symm
def NT(l:List cx):List D:=[ae 1,aZ ⟨#[116]⟩,au 2 cC l,bF,bF,bI false,bF,fk,bI false,ae (-1),fk,bF]
theorem abi(hm:(3,marksC)∈G)(hw:(1,wordsC)∈G)(ht:(0,typesC)∈G)(l:List cx)(hl:l.length≤6)(aV:∀c∈l,c.n.size≤maxLen):VP Tryz.prog G 28 [.agg (NT l)] (ae (fO l)):=by
 have h:=Pa.Q9 (G:=G) hm hw ht (rj l) (ah3 hl aV);rw[ac4 hl] at h;refine VC.args h rfl fun w L i h1 h2 v E=>?_;have:i=0:=(by simp only[length_cons,length_nil] at h1;omega)
 subst this;exact u0 (a:=NT l) (b:=bj (rj l)) ⟨cq,cq,cq,ey,ey,cq,ey,cq,cq,cq,cq,ey,trivial⟩ w L v E
theorem Fl(hm:(3,marksC)∈G)(hw:(1,wordsC)∈G)(ht:(0,typesC)∈G)(l:List cx)(hl:l.length≤6)(aV:∀c∈l,c.n.size≤maxLen):VP Tryz.prog G 67 [au 2 cC l] (ae (fO l)):=by
 refine VC.body func67 rfl ntmps67 aQ fun X0 w0 bf=>?_;have cY:=dN;have eV:=abi hm hw ht l hl aV;unfold NT at eV;refine af [0] ?_;refine cL [2] (eV) ?_;exact nE
def lY(i:Nat)(c:cx)(v:Vl):Int:=if cl v≠0 then cl v else if v.k≠c.k∧(i=0∨v.k≠0) then 4 else 0
def pc:Nat→List cx→List Vl→Int
 | i,c::cs,v::vs=>if lY i c v≠0 then lY i c v else pc (i+1) cs vs
 | _,_,_=>0
def dR(cs:List cx)(vs:List Vl):Int:=if fO cs≠0 then fO cs else if vs.length≠cs.length then 1 else pc 0 cs vs
theorem aaY{cs:List cx}{vs:List Vl}(h1:i<cs.length)(h2:i<vs.length)(h:lY i cs[i] vs[i]=0):pc i (cs.drop i) (vs.drop i)=pc (i+1) (cs.drop (i+1)) (vs.drop (i+1)):=by
 rw[drop_eq_getElem_cons h1,drop_eq_getElem_cons h2];exact if_neg (by simp[h])
theorem QC{cs:List cx}{vs:List Vl}(h1:i<cs.length)(h2:i<vs.length)(h:lY i cs[i] vs[i]≠0):pc i (cs.drop i) (vs.drop i)=lY i cs[i] vs[i]:=by
 rw[drop_eq_getElem_cons h1,drop_eq_getElem_cons h2];exact if_pos h
theorem ac5{cs:List cx}{vs:List Vl}(h:¬i<vs.length):pc i (cs.drop i) (vs.drop i)=0:=by
 rw[drop_of_length_le (l:=vs) w4];cases cs.drop i<;>rfl
theorem KD(hm:(3,marksC)∈G)(hw:(1,wordsC)∈G)(ht:(0,typesC)∈G)(l:List cx)(hl:l.length≤6)(aV:∀c∈l,c.n.size≤maxLen)(vs:List Vl)(qm:vs.length≤maxLen):VP Tryz.prog G 37 [au 2 cC l,au 3 cV vs] (ae (dR l vs)):=by
 refine VC.body func37 rfl ntmps37 aQ fun X0 w0 bf=>?_;have cY:=dN;refine af [0,1] ?_;refine cL [0,1,5] (Fl hm hw ht l hl aV) ?_;refine af [0,1,5,12] ?_;refine ax ?_ ?_<;>intro aO bA
 ·have hne:fO l≠0:=(by simpa using aO)
  have aW:dR l vs=fO l:=if_pos hne;refine af [4] ?_;exact oJ
 have h0:¬fO l≠0:=(by simpa using aO)
 refine af [0,1,18] ?_;refine ax ?_ ?_<;>intro aY cz
 ·have aW:dR l vs=1:=(by unfold dR;rw[if_neg h0,if_pos w4])
  refine af [4] ?_;exact oJ
 have Z:vs.length=l.length:=(by omega)
 have E:dR l vs=pc 0 (l.drop 0) (vs.drop 0):=(by unfold dR;rw[if_neg h0,if_neg (by simp[Z])];rfl)
 refine af [0,19,20,21] ?_;refine ez [0,19,20] (fun aR _ (i:Nat) aD=>(i≤vs.length)∧(dR l vs=pc i (l.drop i) (vs.drop i))∧aD=(⟨49,(21,ae (i:Nat))::aR,[]⟩:St)) (fun (i:Nat)=>vs.length-i) 0 ⟨(Nat.zero_le _),E,rfl⟩ ?_;rintro i _ ⟨hi,hinv,rfl⟩;refine af [0,19,20,21,22] ?_;refine ax ?_ ?_<;>intro cc cN
 ·have aa:i<vs.length:=(by omega)
  have Lv:i<l.length:=(by omega)
  refine aA 3 ?_;refine OD.alloc (ds:=[_,_,_]) ap rfl rfl zeroValue33 rfl (fun b7=>?_);refine aG 1 ?_;refine aM 0 [_,_,_] sizeOf33 ?_;refine an 49 [0,6,7,19,20,21] ?_;refine cL [0,6,7,8,19,20,21] (Vl.pQ vs[i]) ?_;refine af [0,6,7,8,19,20,21,29] ?_;refine ax ?_ ?_<;>intro cQ ek
  ·have hne:cl vs[i]≠0:=(by simpa using cQ)
   have hf:lY i l[i] vs[i]=cl vs[i]:=if_pos hne;have aW:dR l vs=cl vs[i]:=(by rw[hinv,QC Lv aa (by rw[hf];exact hne),hf])
   refine af [4] ?_;exact oJ
  have hz:¬cl vs[i]≠0:=(by simpa using cQ)
  refine CD.skip ?_;refine CD.seq ?_;refine nD 7 [0,6,7,19,20,21,32,37] ?_;refine bD ?_;refine aG 2 ?_;refine bW 39 (fun U I=>?_) (fun U I=>?_)
  ·refine aG 3 ?_;refine bW 42 (fun rK O=>?_) (fun rK O=>?_)
   ·refine bp [0,19,20,21,47] ?_;refine eT ?_;exact Xn
   refine bp [0,19,20,21,47] ?_;refine ax ?_ ?_<;>intro dV fB
   ·exact Xn
   exact Xq
  refine bp [0,19,20,21,47] ?_;refine fY ?_;exact Xq
 have aW:dR l vs=0:=(by rw[hinv];exact ac5 w4)
 refine af [4] ?_;exact z59

end Go.Proofs.YtkgmonfgofobaaaGreatDoor.Pc

namespace Go.Proofs.YtkgmonfgofobaaaGreatDoor.Nm
open List
open Go.Proofs.Tryz
open Go.RowKit V Pk Vl
inductive Tw where
 | mk (k n:Int) (s:ByteArray) (ts:List Tw)
mutual
def Tw.cs:Tw→List D
 | .mk k n s ts=>[.v (.int .i64 k),.v (.int .i64 n),.v (.string s),.list 4 (Tw.nM ts) ts.length]
def Tw.nM:List Tw→List D
 | []=>[]
 | t::r=>t.cs++Tw.nM r
end
theorem Tw.KE:∀ts:List Tw,Tw.nM ts=ts.flatMap Tw.cs
 | []=>rfl
 | t::r=>by rw[Tw.nM,Tw.KE r,flatMap_cons]
theorem Tw.FJ(t:Tw):t.cs.length=4:=by cases t;rfl
mutual
def Tw.Ok:Tw→Prop
 | .mk k n s ts=>(-9223372036854775808≤k∧k≤9223372036854775807)∧(-9223372036854775808≤n∧n≤9223372036854775807)∧s.size≤maxLen∧ts.length≤maxLen∧Tw.HG ts
def Tw.HG:List Tw→Prop
 | []=>True
 | t::r=>t.Ok∧Tw.HG r
end
theorem Tw.To:∀{ts:List Tw},Tw.HG ts→∀t∈ts,t.Ok
 | [],_,t,h=>by cases h
 | a::r,⟨h1,h2⟩,t,h=>by
  rcases mem_cons.1 h with rfl|h
  ·exact h1
  exact Tw.To h2 t h
theorem Tw.Tp:∀{ts:List Tw},(∀t∈ts,t.Ok)→Tw.HG ts
 | [],_=>trivial
 | a::r,h=>⟨h a mem_cons_self,Tw.Tp fun t ht=>h t (mem_cons_of_mem _ ht)⟩

def ko(j:Int):ByteArray:=if j=0 then ⟨#[105,100]⟩ else if j=1 then ⟨#[110]⟩ else if j=2 then ⟨#[115]⟩ else ⟨#[98]⟩
def qO(n:Int)(s:ByteArray):Vl:={ou ⟨n,dI n 40-20,s⟩ with s:=mX (ou ⟨n,dI n 40-20,s⟩).s 4}
def pW(n:Int)(s:ByteArray):aS:=⟨1,qO n s,⟨#[]⟩⟩
def sE(n:Int):aS:=⟨2,bu,ko (dI n 4)⟩
def lQ(k:Int):aS:=⟨k,bu,⟨#[]⟩⟩
def kP(k n:Int)(s:ByteArray):List aS:=if 1+dI k 11=2 then [sE n] else [pW n s]
def bL:Nat→Tw→List aS
 | 0,.mk k n s _=>kP k n s
 | r+1,.mk k n s ts =>
  if 1+dI k 11=1 then [pW n s]
  else if 1+dI k 11=2 then [sE n]
  else if 1+dI k 11=5∨1+dI k 11=11 then (match ts[0]? with|some t=>bL r t|none=>kP n 0 s)++[lQ (1+dI k 11)]
  else ((match ts[0]? with|some t=>bL r t|none=>kP n 0 s)++(match ts[1]? with|some t=>bL r t|none=>kP n 1 s))++[lQ (1+dI k 11)]
def gb(r:Nat)(ts:List Tw)(n:Int)(s:ByteArray)(i:Nat):List aS:=match ts[i]? with|some t=>bL r t|none=>kP n i s
theorem yQ(k n:Int)(s:ByteArray):(kP k n s).length=1:=by unfold kP;split<;>rfl
theorem JW:∀(r:Nat) (t:Tw),1≤(bL r t).length∧(bL r t).length+1≤2 ^ (r+1)
 | 0,.mk k n s ts=>by rw[bL,yQ];exact⟨by decide,by decide⟩
 | r+1,.mk k n s ts=>by
  have E:∀i:Nat,1≤(gb r ts n s i).length∧(gb r ts n s i).length+1≤2 ^ (r+1):=fun i=>by
   unfold gb;split
   ·exact JW r _
   rw[yQ];exact⟨by decide,by rw[Nat.pow_succ];have:=Nat.one_le_two_pow (n:=r);omega⟩
  have h0:=E 0;have h1:=E 1;unfold gb at h0 h1;have hp:2 ^ (r+1+1)=2 ^ (r+1)+2 ^ (r+1):=(by rw[Nat.pow_succ];omega)
  rw[bL];simp only[Int.natCast_zero,Int.natCast_one] at h0 h1;split
  ·exact⟨by simp,by simp;omega⟩
  split
  ·exact⟨by simp,by simp;omega⟩
  split<;>simp only[length_append,length_cons,length_nil]<;>omega
theorem Tq(r:Nat)(ts:List Tw)(n:Int)(s:ByteArray)(i:Nat):1≤(gb r ts n s i).length∧(gb r ts n s i).length+1≤2 ^ (r+1):=by
 unfold gb;split
 ·exact JW r _
 rw[yQ];exact⟨by decide,by rw[Nat.pow_succ];have:=Nat.one_le_two_pow (n:=r);omega⟩
theorem Pd(r:Vl):(ou r).s.size≤10:=by
 unfold ou bu;split
 ·exact Nat.zero_le _
 split
 ·exact Nat.zero_le _
 split
 ·show(mX r.s 10).size≤10;rw[Es];omega
 decide
theorem Ts{j:Nat}(h:j<4):[D.v (.string ⟨#[105,100]⟩),D.v (.string ⟨#[110]⟩),D.v (.string ⟨#[115]⟩),D.v (.string ⟨#[98]⟩)][j*1]?=some (aZ (ko (j:Int))):=by
 match j,h with
 | 0,_|1,_|2,_|3,_=>rfl
variable {G:List (Nat×List Value)}
abbrev xC(ls:List aS)(r:D)(S:List ah):Prop:=gv cO 35 5 ls r S

theorem Tu(k n d:Int)(s:ByteArray)(d4:D)(h4:kS d4=true)(dL:-9223372036854775808≤k)(fF:k≤9223372036854775807)(gw:-9223372036854775808≤n)(iI:n≤9223372036854775807)(hs:s.size≤maxLen)(hd:2<d):VC Tryz.prog G 34 [.agg [ae k,ae n,aZ s,d4],ae d] [] (xC (kP k n s)):=by
 refine VC.body func34 rfl ntmps34 aQ fun X0 w0 bf=>?_;have HH:=iX k (by decide:(1:Int)≤11);have hpn:=iX n (by decide:(1:Int)≤40);have U:=iX n (by decide:(1:Int)≤4);obtain⟨j,hj⟩:=Int.eq_ofNat_of_zero_le U.1;have Z:j<4:=(by omega)
 have I:=kv G n 4 gw iI w8;rw[hj] at I;have fT:(⟨n,dI n 40-20,s⟩:Vl).Ok:=⟨gw,iI,by show _≤dI n 40-20;omega,by show dI n 40-20≤_;omega,hs⟩
 have XS:=Pd ⟨n,dI n 40-20,s⟩;have hml:100≤maxLen:=(by decide)
 obtain⟨kk,lG⟩:∃kk:Int,1+dI k 11=kk:=⟨_,rfl⟩
 refine bS ?_;refine OD.box (ds:=[_,_,_,_]) ap rfl rfl ot rfl rfl (fun b2=>?_);refine OD.box (ds:=[_]) ap rfl rfl ot rfl rfl (fun b3=>?_);refine an 69 [2,3] ?_;refine cM [2,3,5] ?_;refine cJ (kv G k 11 dL fF w8) ?_;refine aP 0 ?_ (h:=by exact(dj (r:=.int .i64 kk) rfl bP ot (kz (by rw[lG];exact wrap_i64 w4 w4))));refine bD ?_;refine aA 3 ?_;refine bW 14 (fun E O=>?_) (fun E O=>?_)
 ·refine bp [2,3,5,17] ?_;refine ax ?_ ?_<;>intro aO bA
  ·refine bX [2,3,5] ?_;refine cM [2,5,6] ?_;refine aP 0 ?_ (h:=by exact(pP (ds:=[_,_]) rfl ⟨ot,ot,trivial⟩));refine bD ?_;refine af [2,5,6,19] ?_;refine af [2,5,6,19,20] ?_;refine eT ?_;exact z107
  refine cM [2,5,6] ?_;refine aP 0 ?_ (h:=by exact(pP (ds:=[_,_]) rfl ⟨ot,ot,trivial⟩));refine bD ?_;refine af [2,5,6,19] ?_;refine af [2,5,6,19,20] ?_;refine ax ?_ ?_<;>intro aY cz
  ·exact z107
  refine af [2,5,6,19,40] ?_;refine ax ?_ ?_<;>intro cc cN
  ·refine aA 1 ?_;refine ew (cu 0 [_,_,_,_]) [.string ⟨#[]⟩,.string ⟨#[]⟩,.string ⟨#[]⟩,.string ⟨#[]⟩] [_,_,_,_] zeroValue9 runUnderlying44 sizeOf9 (fun Yy=>?_);refine fS 0 43 1 4 ?_;refine aG 2 ?_;refine dO call14 (I) ?_;refine aG 1 ?_;refine bQ (cR (mk:=Op.load 9) rfl ot (Cb isAgg9 (Ts Z))) ?_;refine aG 1 ?_;refine ew (cu 0 [_]) [.int .i64 0,.int .i64 0,.int .i64 0,.string ⟨#[]⟩,.string ⟨#[]⟩] [_,_,_,_,_] zeroValue35 runUnderlying36 sizeOf35 (fun AN=>?_);exact z21
  exact absurd cc (by simp at aO aY cc;omega)
 exact absurd E (by simp at E;omega)

end Go.Proofs.YtkgmonfgofobaaaGreatDoor.Nm

namespace Go.Proofs.YtkgmonfgofobaaaGreatDoor.Nm
open List
open Go.Proofs.Tryz
open Go.RowKit V Pk Vl
variable {G:List (Nat×List Value)}
variable {ts:List Tw} {h:Int}
theorem Ra{r:Nat}{n:Int}{s:ByteArray}{i:Nat}(hi:i<ts.length):bL r ts[i]=gb r ts n s i:=by unfold gb;rw[getElem?_eq_getElem hi]
theorem Rb{r:Nat}{n:Int}{s:ByteArray}{i:Nat}(hi:ts.length≤i):kP n i s=gb r ts n s i:=by unfold gb;rw[getElem?_eq_none hi]
theorem tw(r:Nat)(k n:Int)(s:ByteArray)(ts:List Tw):bL (r+1) (.mk k n s ts)=if 1+dI k 11=1 then [pW n s] else if 1+dI k 11=2 then [sE n]
  else if 1+dI k 11=5∨1+dI k 11=11 then gb r ts n s 0++[lQ (1+dI k 11)] else (gb r ts n s 0++gb r ts n s 1)++[lQ (1+dI k 11)]:=rfl
theorem KW(r:Nat)(k n d:Int)(s:ByteArray)(ts:List Tw)(i b2 b3:Nat)(IH:∀t∈ts,VC Tryz.prog G 34 [.agg t.cs,ae (d+1)] [] (xC (bL r t)))(gw:-9223372036854775808≤n)(iI:n≤9223372036854775807)(hs:s.size≤maxLen)(hd1:0≤d)(hd:d≤2)(hi:i≤1):VC Tryz.prog G 65 [ae (i:Int),cU b2,cU b3] [⟨b3,3,1,[ae d]⟩,⟨b2,54,4,[ae k,ae n,aZ s,.list 4 (ts.flatMap Tw.cs) ts.length]⟩] (fun x S=>∃S1,xC (gb r ts n s i) x S1∧S=S1++[⟨b3,3,1,[ae d]⟩,⟨b2,54,4,[ae k,ae n,aZ s,.list 4 (ts.flatMap Tw.cs) ts.length]⟩]):=by
 refine VC.body func65 rfl ntmps65 aQ fun X0 w0 bf=>?_;refine aA 1 ?_;refine OD.wk (Wk.dP (n:=25) (l':=[(0,_),(1,_),(2,_)]) (S':=_) rfl rfl fy) ?_;refine OD.nil ?_;refine aA 5 ?_;refine OD.wk (Wk.dP (n:=25) (l':=[(0,_),(1,_),(2,_),(9,_)]) (S':=_) rfl rfl fy) ?_;refine OD.nil ?_;refine ax ?_ ?_<;>intro aO bA
 ·have aa:i<ts.length:=(by omega)
  refine CD.seq ?_;refine CD.draw (av _) aB (fun _ h=>h) ?_;refine aC 0 rfl (dF 3) ?_;refine aC 1 rfl (dK 1) ?_;refine aC 2 rfl bG ?_;refine aC 3 rfl (dw 4) ?_;refine aC 4 rfl (cR (mk:=Op.load 54) rfl ot (by first|exact qE (k:=0) (ds:=[_,_,_,_]) rfl rfl isAgg54 sizeOf54 rfl rfl|exact qE (k:=1) (ds:=[_,_,_,_]) rfl rfl isAgg54 sizeOf54 rfl rfl|exact kj Tw.FJ isAgg54 sizeOf54 w5|exact dy (k:=0) Tw.FJ rfl rfl rfl isAgg54 sizeOf54 w5|exact dy (k:=1) Tw.FJ rfl rfl rfl isAgg54 sizeOf54 w5|exact qJ (ds:=[_,_,_,_]) isAgg54 sizeOf54 rfl rfl)) ?_;refine aC 5 rfl (dK 0) ?_;refine aC 6 rfl ql ?_;refine dH.later rfl ?_;refine AD.one (i:=7) aB ?_;refine bB.call rfl ap rfl rfl rfl call34 (IH _ (getElem_mem aa)) ⟨ot,ot,trivial⟩ (fa _) (fun _ h=>h) ?_;rintro _ O ⟨U,Z,rfl,E⟩;refine c9 8 rfl bG ?_;refine AD.wk (y:=⟨25,[(4,_)],((O++[_,_]))⟩) (Wk.dP rfl rfl fy) rfl ?_;refine AD.done aB ?_;refine aK _ ?_;first|exact⟨_,gv.cast (gv.mk E) (Ra aa),rfl⟩|exact⟨_,gv.cast (gv.mk I) (Rb w4),rfl⟩
 refine aA 6 ?_;refine OD.call ap rfl rfl rfl call34 (Tu n (i:Int) 9 s (bF) rfl gw iI w4 w4 hs w8) ⟨ot,bP,trivial⟩ (fa _) ?_;rintro _ S24 ⟨aqF,aqG,rfl,I⟩;refine aG 1 ?_;refine OD.wk (Wk.dP (n:=25) (l':=[(4,_)]) (S':=_) rfl rfl fy) ?_;refine OD.nil ?_;refine aK _ ?_;first|exact⟨_,gv.cast (gv.mk E) (Ra aa),rfl⟩|exact⟨_,gv.cast (gv.mk I) (Rb w4),rfl⟩
theorem Ij:(Tryz.prog.info? 35).map (fun i=>(i.zero,i.size,i.bytes))=some (some (.agg #[.int .i64 0,.int .i64 0,.int .i64 0,.string ⟨#[]⟩,.string ⟨#[]⟩]),5,56):=by kernel_rfl
theorem ae7(r:Nat)(hr:r≤2)(k n d:Int)(s:ByteArray)(ts:List Tw)(IH:∀t∈ts,VC Tryz.prog G 34 [.agg t.cs,ae (d+1)] [] (xC (bL r t)))(dL:-9223372036854775808≤k)(fF:k≤9223372036854775807)(gw:-9223372036854775808≤n)(iI:n≤9223372036854775807)(hs:s.size≤maxLen)(hd1:0≤d)(hd:d≤2):VC Tryz.prog G 34 [.agg [ae k,ae n,aZ s,.list 4 (ts.flatMap Tw.cs) ts.length],ae d] [] (xC (bL (r+1) (.mk k n s ts))):=by
 refine VC.body func34 rfl ntmps34 aQ fun X0 w0 bf=>?_;have HH:=iX k (by decide:(1:Int)≤11);have hpn:=iX n (by decide:(1:Int)≤40);have hpc:=iX n (by decide:(1:Int)≤4);obtain⟨j,hj⟩:=Int.eq_ofNat_of_zero_le hpc.1;have hj4:j<4:=(by omega)
 have I:=kv G n 4 gw iI w8;rw[hj] at I;have fT:(⟨n,dI n 40-20,s⟩:Vl).Ok:=⟨gw,iI,by show _≤dI n 40-20;omega,by show dI n 40-20≤_;omega,hs⟩
 have XS:=Pd ⟨n,dI n 40-20,s⟩;have hml:100≤maxLen:=(by decide)
 obtain⟨kk,lG⟩:∃kk:Int,1+dI k 11=kk:=⟨_,rfl⟩
 have oI:=Tq r ts n s 0;have lF:=Tq r ts n s 1;have h2p:2 ^ (r+1)≤8:=Nat.pow_le_pow_right w8 (show r+1≤3 by omega);refine bS ?_;refine OD.box (ds:=[_,_,_,_]) ap rfl rfl ot rfl rfl (fun b2=>?_);refine OD.box (ds:=[_]) ap rfl rfl ot rfl rfl (fun b3=>?_);refine an 69 [2,3] ?_;refine cM [2,3,5] ?_;refine cJ (kv G k 11 dL fF w8) ?_;refine aP 0 ?_ (h:=by exact(dj (r:=.int .i64 kk) rfl bP ot (kz (by rw[lG];exact wrap_i64 w4 w4))));refine bD ?_;refine aA 3 ?_;refine bW 14 (fun E Z=>?_) (fun E Z=>?_)
 ·exact absurd E (by simp at E;omega)
 refine bp [2,3,5,17] ?_;refine fY ?_;refine cM [2,5,6] ?_;refine aP 0 ?_ (h:=by exact(pP (ds:=[_,_]) rfl ⟨ot,ot,trivial⟩));refine bD ?_;refine af [2,5,6,19] ?_;refine af [2,5,6,19,20] ?_;refine ax ?_ ?_<;>intro aY cz
 ·refine CD.seq ?_;refine s8 11 10 [5,7,31] ?_;refine cJ (kv G n 40 gw iI w8) ?_;refine cJ (QD ⟨n,dI n 40-20,s⟩ fT) ?_;refine pA ?_;refine jI ?_;refine⟨rfl,fun b7=>?_⟩;refine aM 0 [_,_,_] sizeOf33 ?_;refine an 69 [5,7] ?_;refine aA 2 ?_;refine dO call40 (FD (ou ⟨n,dI n 40-20,s⟩).s 4 w4) ?_;refine aG 1 ?_;refine aM 0 [_,_,_] sizeOf9 ?_;refine an 69 [5,7] ?_;refine aA 3 ?_;refine ew (cu 0 [_]) [.int .i64 0,.int .i64 0,.int .i64 0,.string ⟨#[]⟩,.string ⟨#[]⟩] [_,_,_,_,_] zeroValue35 runUnderlying36 sizeOf35 (fun CW=>?_);exact z46
 refine af [2,5,6,19,40] ?_;refine ax ?_ ?_<;>intro cc cN
 ·refine aA 1 ?_;refine ew (cu 0 [_,_,_,_]) [.string ⟨#[]⟩,.string ⟨#[]⟩,.string ⟨#[]⟩,.string ⟨#[]⟩] [_,_,_,_] zeroValue9 runUnderlying44 sizeOf9 (fun Yy=>?_);refine fS 0 43 1 4 ?_;refine aG 2 ?_;refine dO call14 (I) ?_;refine aG 1 ?_;refine bQ (cR (mk:=Op.load 9) rfl ot (Cb isAgg9 (Ts hj4))) ?_;refine aG 1 ?_;refine ew (cu 0 [_]) [.int .i64 0,.int .i64 0,.int .i64 0,.string ⟨#[]⟩,.string ⟨#[]⟩] [_,_,_,_,_] zeroValue35 runUnderlying36 sizeOf35 (fun AN=>?_);exact z46
 refine af [5,6,19,51] ?_;refine ax ?_ ?_<;>intro cQ ek
 ·refine eT ?_;exact z25
 refine bX [5,6,51] ?_;refine ax ?_ ?_<;>intro dV fB
 ·exact z25
 refine aA 1 ?_;refine OD.lS (f:=65) (args:=[_]) (all:=[_,_,_]) (Sf:=[_,_]) (R:=[]) ap rfl rfl ot call65 (KW r k n d s ts 0 b2 b3 IH gw iI hs hd1 hd w8) rfl ⟨bP,trivial⟩ (Perm.refl _) ?_;rintro _ _ ⟨Yz,⟨aqH,aqI,rfl,akk⟩,rfl⟩;refine OD.perm (QA (A:=[_,_])) ?_;refine aG 1 ?_;refine OD.lS (f:=65) (args:=[_]) (all:=[_,_,_]) (Sf:=[_,_]) (R:=Yz) ap rfl rfl ot call65 (KW r k n d s ts 1 b2 b3 IH gw iI hs hd1 hd w8) rfl ⟨bP,trivial⟩ (Perm.refl _) ?_;rintro _ _ ⟨Dk,⟨Wd,xA,rfl,Cj⟩,rfl⟩;refine OD.perm (acM (A:=[_,_])) ?_;refine OD.ic (t:=63) (Sq:=Dk) lk Cj (cm mQ _) (yN (A:=[_,_])) ?_;refine OD.eB (ls:=(gb r ts n s 0)) (new:=(gb r ts n s 1)) (Sq:=Yz) mQ Ku ap rfl rfl underlying36 Ij rfl w8 ot akk (dg (A:=[_,_])) ot w4 Aa Aa (fun Ds O akl akm=>?_);refine OD.perm (dW (S1:=[⟨Ds,35,O*5,flatMap cO ((gb r ts n s 0)++(gb r ts n s 1))⟩]) (A:=[_,_])) ?_;refine aG 2 ?_;refine ew (cu 0 [_]) [.int .i64 0,.int .i64 0,.int .i64 0,.string ⟨#[]⟩,.string ⟨#[]⟩] [_,_,_,_,_] zeroValue35 runUnderlying36 sizeOf35 (fun qY=>?_);refine fS 0 67 5 1 ?_
 refine OD.eB (ls:=((gb r ts n s 0)++(gb r ts n s 1))) (new:=[(⟨kk,bu,⟨#[]⟩⟩:aS)]) (Sq:=[⟨Ds,35,O*5,flatMap cO ((gb r ts n s 0)++(gb r ts n s 1))⟩]) mQ Ku ap rfl rfl underlying36 Ij rfl w8 ot (bM akl akm) (dg (A:=[_,_])) ot bq Aa Aa (fun YA U akn ako=>?_);refine OD.perm (dW (S1:=[⟨YA,35,U*5,flatMap cO (((gb r ts n s 0)++(gb r ts n s 1))++[(⟨kk,bu,⟨#[]⟩⟩:aS)])⟩]) (A:=[_,_])) ?_;refine an 69 [4] ?_;refine aK [⟨YA,35,U*5,flatMap cO (((gb r ts n s 0)++(gb r ts n s 1))++[(⟨kk,bu,⟨#[]⟩⟩:aS)])⟩] ?_;exact gv.cast (gv.mk (bM akn ako)) (by rw[tw,lG,if_neg w4,if_neg w4,if_neg w4];rfl)
theorem UL:∀(r:Nat),r≤3→∀(t:Tw),t.Ok→VC Tryz.prog G 34 [.agg t.cs,ae (3-(r:Int))] [] (xC (bL r t))
 | 0,_,.mk k n s ts,h=>Tu k n 3 s (.list 4 (Tw.nM ts) ts.length) rfl h.1.1 h.1.2 h.2.1.1 h.2.1.2 h.2.2.1 w8
 | r+1,hr,.mk k n s ts,h=>by
  have:=ae7 (G:=G) r w4 k n (3-((r+1:Nat):Int)) s ts (fun t ht=>by
   have h1:=UL r w4 t (Tw.To h.2.2.2.2 t ht);rw[show(3-((r+1:Nat):Int)+1)=3-(r:Int) by omega];exact h1) h.1.1 h.1.2 h.2.1.1 h.2.1.2 h.2.2.1 w4 w4
  rw[←Tw.KE] at this;exact this
theorem agH(t:Tw)(h:t.Ok):VC Tryz.prog G 19 [.agg t.cs] [] (xC (bL 3 t)):=by
 refine VC.body func19 rfl ntmps19 aQ fun X0 w0 bf=>?_;obtain⟨k,n,s,ts⟩:=t;have E:=UL (G:=G) 3 (Nat.le_refl _) (.mk k n s ts) h;unfold Tw.cs at E ⊢;refine bS ?_;refine OD.box (ds:=[_,_,_,_]) ap rfl rfl ot rfl rfl (fun b1=>?_);refine an 5 [1] ?_;refine aA 1 ?_;refine OD.call ap rfl rfl rfl call34 (E) ⟨ot,bP,trivial⟩ (fa _) ?_;rintro _ O ⟨U,Z,rfl,I⟩;refine OD.perm dW ?_;refine an 5 [2] ?_;refine aK O ?_;exact gv.mk I
theorem FK(t:Tw)(h:t.Ok):VP Tryz.prog G 19 [.agg t.cs] (.list 5 ((bL 3 t).flatMap cO) (bL 3 t).length):=(agH t h).wR mQ

def runs:Int→List aS→Option Int
 | h,[]=>some h
 | h,o::r=>if gq h o=0 then runs (h+(1-bK o.k)) r else none
theorem yG:∀(a b:List aS) (h:Int),runs h (a++b)=(runs h a).bind fun h'=>runs h' b
 | [],b,h=>rfl
 | o::r,b,h=>by
  rw[cons_append,runs,runs];split
  ·exact yG r b _
  rfl
theorem Pe:∀{a:List aS} {h h':Int} (b:List aS),runs h a=some h'→fP h (a++b)=fP h' b
 | [],h,h',b,e=>by cases e;rfl
 | o::r,h,h',b,e=>by
  rw[runs] at e;split at e
  ·rename_i h0;rw[cons_append,fP,if_pos h0];exact Pe b e
  cases e
theorem ae8:((⟨#[]⟩:ByteArray).toList==(⟨#[]⟩:ByteArray).toList)=true:=by simp
theorem PP:zeroV bu=true:=by unfold zeroV bu;simp
theorem Re:iT bu=0:=by decide
theorem Rf(n:Int)(s:ByteArray):iT (qO n s)=0:=by
 have h1:=iX n (by decide:(1:Int)≤40);have h2:=iX (dI n 40-20) (by decide:(1:Int)≤2);have hc:(mX (mX s 10) 4).size≤4:=(by rw[Es];omega)
 have he:mX (⟨#[]⟩:ByteArray) 4=ByteArray.empty:=Fc (by rw[PF];rfl);unfold iT qO ou;split
 ·simp[cl,he];omega
 split
 ·simp[cl,he];omega
 split
 ·simp[cl];omega
 unfold bu;simp[cl,he]
theorem Tv(h0:0≤h)(n:Int)(s:ByteArray):gq h (pW n s)=0:=by
 unfold gq pW;rw[Rf];simp[bK];omega
theorem Rg(j:Int):cy (ko j)=0:=by
 unfold ko;split
 ·exact tv (l:=[105,100]) w8 w8 w8
 split
 ·exact tv (l:=[110]) w8 w8 w8
 split
 ·exact tv (l:=[115]) w8 w8 w8
 exact tv (l:=[98]) w8 w8 w8
theorem Ty(h0:0≤h)(n:Int):gq h (sE n)=0:=by
 unfold gq sE;rw[Re,PP,Rg];simp[bK];omega
theorem Rh{k:Int}(h1:3≤k)(h2:k≤11)(E:bK k≤h):gq h (lQ k)=0:=by
 unfold gq lQ;simp only[Re,PP,ae8];rw[if_neg w4,if_neg bq,if_neg bq,if_neg w4,if_neg w4]
theorem PR(h0:0≤h)(k n:Int)(s:ByteArray):runs h (kP k n s)=some (h+1):=by
 unfold kP;split
 ·rw[runs,if_pos (Ty h0 n),runs];rfl
 rw[runs,if_pos (Tv h0 n s),runs];rfl
theorem Ri:∀(r:Nat) (t:Tw) (h:Int),0≤h→runs h (bL r t)=some (h+1)
 | 0,.mk k n s ts,h,h0=>PR h0 k n s
 | r+1,.mk k n s ts,h,h0=>by
  have E:∀(i:Nat) (h:Int),0≤h→runs h (gb r ts n s i)=some (h+1):=fun i h h0=>by
   unfold gb;split
   ·exact Ri r _ h h0
   exact PR h0 _ _ _
  have hk:=iX k (by decide:(1:Int)≤11);rw[tw];split
  ·rw[runs,if_pos (Tv h0 n s),runs];rfl
  split
  ·rw[runs,if_pos (Ty h0 n),runs];rfl
  split
  ·rename_i h3;rw[yG,E 0 h h0,Option.bind_some,runs,if_pos (Rh w4 w4 (by unfold bK;rw[if_neg w4,if_pos h3];omega)),runs];unfold lQ bK;rw[if_neg (by simp only[];omega),if_pos h3];simp
  rename_i h3;rw[yG,yG,E 0 h h0,Option.bind_some,E 1 (h+1) w4,Option.bind_some,runs,if_pos (Rh w4 w4 (by unfold bK;rw[if_neg w4,if_neg h3];omega)),runs];unfold lQ bK;rw[if_neg (by simp only[];omega),if_neg h3];congr 1;omega
theorem II(t:Tw):1≤(bL 3 t).length∧(bL 3 t).length≤15:=by
 have:=JW 3 t;omega
theorem Ew(t:Tw):ij (bL 3 t)=0:=by
 unfold ij;rw[if_neg (by have:=II t;omega)];have:=Pe [] (Ri 3 t 0 (Int.le_refl _));rw[append_nil] at this;rw[this];rfl
theorem ac6(t:Tw):∀o∈bL 3 t,o.nm.size≤2:=by
 have hn:∀j:Int,(ko j).size≤2:=fun j=>by
  unfold ko;split
  ·decide
  split
  ·decide
  split<;>decide
 have E:∀k n s,∀o∈kP k n s,o.nm.size≤2:=fun k n s o ho=>by
  unfold kP at ho;split at ho<;>(simp only[mem_singleton] at ho;subst ho)
  ·exact hn _
  exact Nat.zero_le _
 have key:∀(r:Nat) (t:Tw),∀o∈bL r t,o.nm.size≤2:=by
  intro r;induction r with
  | zero=>intro t;obtain⟨k,n,s,ts⟩:=t;exact E k n s
  | succ r ih =>
   intro t o ho;obtain⟨k,n,s,ts⟩:=t;have I:∀i:Nat,∀o∈gb r ts n s i,o.nm.size≤2:=fun i o ho=>by
    unfold gb at ho;split at ho
    ·exact ih _ o ho
    exact E _ _ _ o ho
   have hb:∀k,(lQ k).nm.size≤2:=fun k=>Nat.zero_le _;rw[tw] at ho;split at ho
   ·simp only[mem_singleton] at ho;subst ho;exact Nat.zero_le _
   split at ho
   ·simp only[mem_singleton] at ho;subst ho;exact hn _
   split at ho
   ·rcases mem_append.1 ho with ho|ho
    ·exact I 0 o ho
    simp only[mem_singleton] at ho;subst ho;exact hb _
   rcases mem_append.1 ho with ho|ho
   ·rcases mem_append.1 ho with ho|ho
    ·exact I 0 o ho
    exact I 1 o ho
   simp only[mem_singleton] at ho;subst ho;exact hb _
 exact key 3 t
theorem ac7{l:List aS}(h:∀o∈l,o.nm.size≤2):∀o∈l,o.nm.size≤maxLen:=fun o ho=>Nat.le_trans (h o ho) w8
theorem Je{H:Type}{enc:TypeId×Value→H}{w:World}{base:Nat}{sp:Nat→Bool}{held:Bool}:∀n,l5 n enc Tryz.prog w base sp held 54 Tw.cs Tw.Ok:=by
 intro n;induction n using Nat.strongRecOn with
 | _ n ih =>
  intro cs x h;obtain⟨⟨k,m,s,ts⟩,h1,h2,h3,h4,h5⟩:=aag (fuel:=n) (n0:=1) (n1:=1) (n2:=1) (n3:=1) underlying54 aB rfl rfl rfl rfl aB aB aB aB
   (fun q _=>(u5 underlying3).at q) (fun q _=>(u5 underlying3).at q) (fun q _=>(Px underlying9).at q) (fun q hq=>PB (sz:=4) underlying52 aB w8 (fun z hz=>ih z w4) Tw.FJ) cs x h
  refine⟨.mk k m s ts,?_,h2,h3,h4,h5.2,Tw.Tp h5.1⟩;unfold Tw.cs;rw[Tw.KE];exact h1

end Go.Proofs.YtkgmonfgofobaaaGreatDoor.Nm
namespace Go.Proofs.YtkgmonfgofobaaaGreatDoor.Ex
open List
open Go.Proofs.Tryz
open Go.RowKit V Pk Vl Go.Proofs.YtkgmonfgofobaaaGreatDoor.Nm Pc
variable {α:Type} {l:List aS} {i:Nat} {h:Int}
theorem wz(p:α→Bool)(ls:List α):-1≤dA p ls∧dA p ls<ls.length:=by
 unfold dA;cases h:ls.findIdx? p with
 | none=>simp;omega
 | some i=>have:=(findIdx?_eq_some_iff_findIdx_eq.1 h).1;simp;omega
def bz(l:List cx)(nm:ByteArray):Int:=dA (fun c=>c.n.toList==nm.toList) l
def rY(a b:Int):Bool:=a==b||a==0
def okF(k a b:Int):Bool :=
 if k=3∨k=4 then rY a 1&&rY b 1 else if k=5 then rY a 1 else if k=6∨k=7 then rY a b||b==0 else if k=8∨k=9∨k=10 then rY a 2&&rY b 2 else true
def xj(k:Int):Int:=if k=8∨k=9∨k=10 then 2 else 1
def u6(l:List cx)(nm:ByteArray):Int×Int:=if bz l nm<0 then (0,8) else ((l.getD (bz l nm).toNat ⟨⟨#[]⟩,0⟩).k,0)
def jm(l:List cx)(o:aS)(a b:Int):Int×Int :=
 if o.k=1 then (o.v.k,0) else if o.k=2 then u6 l o.nm else if okF o.k a b=true then (xj o.k,0) else (0,4)
def fp(z:α)(k:Int)(st:List α):α:=if 0<bK k then st.getD (st.length-(bK k).toNat) z else z
def fq(z:α)(k:Int)(st:List α):α:=if 1<bK k then st.getD (st.length-(bK k).toNat+1) z else z
def jE{α:Type}(z:α)(f:aS→α→α→α × Int):List aS→List α→α × Int
 | [],st=>(st.getD 0 z,0)
 | o::r,st =>
  if (f o (fp z o.k st) (fq z o.k st)).2≠0 then (z,(f o (fp z o.k st) (fq z o.k st)).2)
  else jE z f r (st.take (st.length-(bK o.k).toNat)++[(f o (fp z o.k st) (fq z o.k st)).1])
theorem Tz{z:α}{f:aS→α→α→α × Int}{st:List α}(hi:i<l.length)(h:(f l[i] (fp z l[i].k st) (fq z l[i].k st)).2≠0) :
  jE z f (l.drop i) st=(z,(f l[i] (fp z l[i].k st) (fq z l[i].k st)).2):=by rw[drop_eq_getElem_cons hi,jE,if_pos h]
theorem TA{z:α}{f:aS→α→α→α × Int}{st:List α}(hi:i<l.length)(h:(f l[i] (fp z l[i].k st) (fq z l[i].k st)).2=0) :
  jE z f (l.drop i) st=jE z f (l.drop (i+1)) (st.take (st.length-(bK l[i].k).toNat)++[(f l[i] (fp z l[i].k st) (fq z l[i].k st)).1]):=by
 rw[drop_eq_getElem_cons hi,jE,if_neg (by rw[h];simp)]
theorem Rj{z:α}{f:aS→α→α→α × Int}{st:List α}(hi:¬i<l.length):jE z f (l.drop i) st=(st.getD 0 z,0):=by
 rw[drop_of_length_le w4];rfl
theorem PS(hi:i<l.length)(h0:fP h (l.drop i)=0):gq h l[i]=0∧fP (h+(1-bK l[i].k)) (l.drop (i+1))=0:=by
 rw[drop_eq_getElem_cons hi,fP] at h0;by_cases he:gq h l[i]=0
 ·rw[if_pos he] at h0;exact⟨he,h0⟩
 rw[if_neg he] at h0;exact absurd h0 he
theorem Rk(hi:¬i<l.length)(h0:fP h (l.drop i)=0):h=1:=by
 rw[drop_of_length_le w4,fP] at h0;split at h0
 ·assumption
 cases h0
theorem wo{o:aS}(he:gq h o=0):bK o.k≤h∧(1≤o.k∧o.k≤11)∧iT o.v=0∧(o.k=2→cy o.nm=0):=by
 unfold gq at he;split at he
 ·cases he
 split at he
 ·rename_i h2;exact absurd he h2
 split at he
 ·cases he
 split at he
 ·rename_i h4;exact absurd he h4.2
 split at he
 ·cases he
 rename_i q1 q2 q3 E I;refine⟨by omega,by omega,by simpa using q2,fun hk=>?_⟩;by_cases hn:cy o.nm=0
 ·exact hn
 exact absurd ⟨hk,hn⟩ E
def tZ(l:List cx)(ops:List aS):Int×Int:=jE 0 (jm l) ops []
def dm(l:List cx)(ops:List aS):Int×Int:=if fO l≠0 then (0,fO l) else if ij ops≠0 then (0,ij ops) else tZ l ops
def ph(r:Int×Int):D:=.dh [ae r.1,ae r.2]
def cI(n:Int):List D:=[ae n]
theorem eG(n:Int):(cI n).length=1:=rfl
theorem nP(n:Int):(cI n).all V.one=true:=rfl
theorem wA{ops:List aS}(h:ij ops=0):ops.length≤40∧fP 0 ops=0:=by
 unfold ij at h;split at h
 ·cases h
 exact⟨by omega,h⟩
variable {G:List (Nat×List Value)}
theorem EO(k:Int):VP Tryz.prog G 75 [ae k] (ae (bK k)):=by
 refine VC.body func75 rfl ntmps75 aQ fun X0 w0 bf=>?_;exact Xb
theorem abj(c:cx)(nm:ByteArray)(b:Nat):VC Tryz.prog G 126 [.agg (cC c),cU b] [⟨b,9,1,[aZ nm]⟩] (fun r S=>r=bI (c.n.toList==nm.toList)∧S=[⟨b,9,1,[aZ nm]⟩]):=by
 refine VC.body func126 rfl ntmps126 aQ fun X0 w0 bf=>?_;exact Xw
theorem qF(l:List cx)(hl:l.length≤6)(nm:ByteArray):VP Tryz.prog G 78 [au 2 cC l,aZ nm] (ae (bz l nm)):=by
 refine VC.body func78 rfl ntmps78 aQ fun X0 w0 bf=>?_;refine bS ?_;refine OD.box (ds:=[_]) ap rfl rfl ot rfl rfl (fun b3=>?_);refine an 8 [0,3] ?_;refine aA 1 ?_;refine bQ (pP (ds:=[_]) rfl ⟨ot,trivial⟩) ?_;refine OD.call ap rfl rfl rfl call125 (Jd l 126 [cU b3] _ (fun c=>c.n.toList==nm.toList) call126 (fun h _=>abj h nm b3) w4) ⟨ot,ot,trivial⟩ (mM (k:=0) rfl) ?_;rintro _ S2 ⟨rfl,iH⟩;rw[iH];clear iH;refine an 8 [4] ?_;exact nE
theorem zl(a b:Int):VP Tryz.prog G 120 [ae a,ae b] (bI (rY a b)):=by
 refine VC.body func120 rfl ntmps120 aQ fun X0 w0 bf=>?_;refine af [0,1] ?_;refine aA 4 ?_;refine bW 8 (fun I E=>?_) (fun I E=>?_)
 ·refine bp [4] ?_;refine eU ?_;refine⟨vb ?_,rfl⟩;unfold rY;simp_all
 refine bp [4] ?_;refine eU ?_;refine⟨vb ?_,rfl⟩;unfold rY;simp_all
theorem ae9(l:List cx)(hl:l.length≤6)(o:aS)(a b:Int):VP Tryz.prog G 71 [.agg (cO o),au 2 cC l,ae a,ae b] (ph (jm l o a b)):=by
 refine VC.body func71 rfl ntmps71 aQ fun X0 w0 bf=>?_;unfold cO ph;have I:=wz (fun c:cx=>c.n.toList==o.nm.toList) l;have E:bz l o.nm=dA (fun c:cx=>c.n.toList==o.nm.toList) l:=rfl;rw[←E] at I;clear E;refine bS ?_;refine OD.box (ds:=[_,_,_,_,_]) ap rfl rfl ot rfl rfl (fun b4=>?_);refine an 76 [1,2,3,4] ?_;refine af [1,2,3,4,10] ?_;refine af [1,2,3,4,10,11,12] ?_;refine af [1,2,3,4,10,11,12,15] ?_;refine af [1,2,3,4,10,11,12,15,16] ?_;refine ax ?_ ?_<;>intro aO bA
 ·exact Am
 refine af [1,2,3,4,10,11,12,15,21] ?_;refine ax ?_ ?_<;>intro aY cz
 ·refine cL [1,13] (qF l hl o.nm) ?_;refine af [1,13,28] ?_;refine ax ?_ ?_<;>intro cc cN
  ·have dc:u6 l o.nm=(0,8):=(by unfold u6;rw[if_pos w4])
   exact Am
  have O:(bz l o.nm).toNat<l.length:=(by omega)
  have dc:u6 l o.nm=(l[(bz l o.nm).toNat].k,0):=(by unfold u6;rw[if_neg w4,getD_eq_getElem?_getD,getElem?_eq_getElem O];rfl)
  exact Am
 refine af [2,3,10,11,12,15,34] ?_;refine ax ?_ ?_<;>intro cQ ek
 ·refine eT ?_;exact VU
 refine bX [2,3,10,11,12,15,34] ?_;refine ax ?_ ?_<;>intro dV fB
 ·exact VU
 refine af [2,3,10,11,12,15,45] ?_;refine ax ?_ ?_<;>intro fD gG
 ·refine dG 2 ?_;refine OD.lS (f:=120) (args:=[_,_]) (all:=[_,_]) (Sf:=[]) ap rfl rfl ot call120 (zl a 1) rfl ⟨ot,bP,trivial⟩ (fa _) ?_;rintro _ _ ⟨rfl,rfl⟩;exact G9
 refine af [2,3,10,11,12,15,50] ?_;refine ax ?_ ?_<;>intro iP Z
 ·refine eT ?_;exact VV
 refine bX [2,3,10,11,12,15,50] ?_;refine ax ?_ ?_<;>intro iG mU
 ·exact VV
 refine af [2,3,10,11,12,15,61] ?_;refine ax ?_ ?_<;>intro qi zP
 ·refine eT ?_;exact Lx
 refine af [2,3,10,11,12,15,61] ?_;refine ax ?_ ?_<;>intro uD Ck
 ·refine eT ?_;exact Lx
 refine bX [2,3,10,11,12,61] ?_;refine ax ?_ ?_<;>intro GD U
 ·exact Lx
 refine af [12,74] ?_;refine fY ?_;refine af [8,9] ?_;refine aK [] ?_;refine⟨?_,rfl⟩;unfold jm okF xj;simp_all
theorem abk(l:List cx)(hl:l.length≤6)(o:aS)(a b a' I:Int)(ha:a=a')(hb:b=I)(b2:Nat):VC Tryz.prog G 70 [.agg (cO o),ae a',ae I,cU b2] [⟨b2,29,1,[au 2 cC l]⟩] (fun r S=>r=ph (jm l o a b)∧S=[⟨b2,29,1,[au 2 cC l]⟩]):=by
 refine VC.body func70 rfl ntmps70 aQ fun X0 w0 bf=>?_;subst ha hb;have E:=ae9 (G:=G) l hl o a b;unfold cO at E ⊢;unfold ph at E ⊢;refine bS ?_;refine OD.box (ds:=[_,_,_,_,_]) ap rfl rfl ot rfl rfl (fun b4=>?_);refine an 16 [1,2,3,4] ?_;refine cL [7,8] (E) ?_;refine aK [⟨b2,29,1,[au 2 cC l]⟩] ?_;exact⟨rfl,rfl⟩
theorem abl:(Tryz.prog.info? 3).map (fun i=>(i.zero,i.size,i.bytes))=some (some (.int .i64 0),1,8):=by kernel_rfl
theorem ac8(l:List cx)(hl:l.length≤6)(ops:List aS)(pG:ops.length≤40)(hx:fP 0 ops=0)(b2:Nat):VC Tryz.prog G 69 [au 5 cO ops,.eA (.func 70) [cU b2]] [⟨b2,29,1,[au 2 cC l]⟩] (fun r S=>r=ph (tZ l ops)∧S=[⟨b2,29,1,[au 2 cC l]⟩]):=by
 refine VC.body func69 rfl ntmps69 aQ fun X0 w0 bf=>?_;unfold ph;refine af [0,1] ?_;refine af [0,1,6] ?_;refine bS ?_;refine bp [0,1,6,7] ?_;refine af [1,6,7,16,17,18] ?_;refine CD.block ?_;refine ni (fun (iO:Nat×List Int×Option Addr×Nat×List ah) aD=>match iO with|(i,st,I,E,Sh)=>(i≤ops.length)∧(st.length≤i)∧(fP ((st.length:Nat):Int) (ops.drop i)=0)∧(tZ l ops=jE 0 (jm l) (ops.drop i) st)∧(bg 3 1 ((st).flatMap cI) (st).length I E Sh)∧aD=(⟨64,[(1,.eA (.func 70) [cU b2]),(6,ae 0),(7,aN I (st).length E),(16,au 5 cO ops),(17,ae (ops.length:Nat)),(18,ae (i:Nat))],(⟨b2,29,1,[au 2 cC l]⟩::Sh)⟩:St)) (fun (iO:Nat×List Int×Option Addr×Nat×List ah)=>match iO with|(i,st,I,E,Sh)=>ops.length-i) (0,[],none,0,[]) ⟨(Nat.zero_le _),(Nat.zero_le _),hx,rfl,(bg.cast iz k8),rfl⟩ (aJ (h:=by repeat (first|exact trivial|refine⟨GS,?_⟩))) ?_;rintro⟨i,st,I,E,Sh⟩ _ ⟨hi,fL,hex,hinv,U,rfl⟩;refine af [1,6,7,16,17,18,19] ?_;refine ax ?_ ?_<;>intro aO bA
 ·have aa:i<ops.length:=(by omega)
  obtain⟨he,yo⟩:=PS aa hex;obtain⟨rV,We,yp,AK⟩:=wo he;have yj:=tP ops[i].k;have pI:(st.take (st.length-(bK ops[i].k).toNat)++[(jm l ops[i] (fp 0 ops[i].k st) (fq 0 ops[i].k st)).1]).length=st.length+1-(bK ops[i].k).toNat:=(by rw[length_append,length_take,length_singleton];omega)
  have nf:fP (((st.take (st.length-(bK ops[i].k).toNat)++[(jm l ops[i] (fp 0 ops[i].k st) (fq 0 ops[i].k st)).1]).length:Nat):Int) (ops.drop (i+1))=0:=(by rw[pI,show(((st.length+1-(bK ops[i].k).toNat:Nat)):Int)=(st.length:Int)+(1-bK ops[i].k) by omega];exact yo)
  refine aA 2 ?_;refine OD.alloc (ds:=[_,_,_,_,_]) ap rfl rfl zeroValue35 rfl (fun b9=>?_);refine aM 0 [_,_,_,_,_] sizeOf35 ?_;refine an 64 [1,6,7,9,16,17,18] ?_;refine af [1,6,7,9,10,11,16,17,18] ?_;refine cL [1,6,7,9,10,11,12,16,17,18] (EO ops[i].k) ?_;refine af [1,6,7,9,10,11,12,13,16,17,18] ?_;refine iv [1,6,9,11,12,13,16,17,18] (fun aR _ aD=>∃(va:Int),∃(I:Option Addr),∃(E:Nat),∃(Sh:List ah),(fp 0 ops[i].k st=va)∧(bg 3 1 (st.flatMap cI) st.length I E Sh)∧aD=(⟨64,(7,aN I st.length E)::(10,ae va)::aR,(⟨b9,35,5,[ae ops[i].k,ae ops[i].v.k,ae ops[i].v.n,aZ ops[i].v.s,aZ ops[i].nm]⟩::⟨b2,29,1,[au 2 cC l]⟩::Sh)⟩:St)) ?_ ?_
  ·refine af [1,6,7,9,10,11,12,13,16,17,18,30] ?_;refine ax ?_ ?_<;>intro aY cz
   ·obtain⟨bh,rfl,Z,O,rfl⟩:=U.pos w4;have uE:(st.length-(bK ops[i].k).toNat)<st.length:=(by omega)
    have ha:fp 0 ops[i].k st=st[(st.length-(bK ops[i].k).toNat)]:=(by unfold fp;rw[if_pos w4,getD_eq_getElem?_getD,getElem?_eq_getElem uE];rfl)
    refine gC [1,6,7,9,10,11,12,13,16,17,18] ?_;refine aP 2 ?_ (h:=by exact(dw 1 (h:=by first|exact .l (j:=(st.length-(bK ops[i].k).toNat)) w4 w4|exact .r (j:=(st.length-(bK ops[i].k).toNat)) w4 w4)));refine aP 0 ?_ (h:=by exact(cR (mk:=Op.load 3) rfl ot (iZ (k:=2) eG rfl rfl rfl isAgg3 uE rfl)));refine bD ?_;refine⟨_,aJ,(st[(st.length-(bK ops[i].k).toNat)]),(some ⟨bh,0,none⟩),E,[⟨bh,3,E*1,flatMap cI st⟩],ha,(bM (g:=cI) (ls:=st) Z O),rfl⟩
   have ha:fp 0 ops[i].k st=0:=(by unfold fp;rw[if_neg w4])
   refine CD.skip ?_;refine⟨_,aJ,0,I,E,Sh,ha,U,rfl⟩
  rintro _ ⟨va,I,E,Sh,ha,U,rfl⟩;refine iv [1,6,9,10,13,16,17,18] (fun aR _ aD=>∃(vb:Int),∃(I:Option Addr),∃(E:Nat),∃(Sh:List ah),(fq 0 ops[i].k st=vb)∧(bg 3 1 (st.flatMap cI) st.length I E Sh)∧aD=(⟨64,(7,aN I st.length E)::(11,ae vb)::aR,(⟨b9,35,5,[ae ops[i].k,ae ops[i].v.k,ae ops[i].v.n,aZ ops[i].v.s,aZ ops[i].nm]⟩::⟨b2,29,1,[au 2 cC l]⟩::Sh)⟩:St)) ?_ ?_
  ·refine af [1,6,7,9,10,11,13,16,17,18,36] ?_;refine ax ?_ ?_<;>intro cc cN
   ·obtain⟨bh,rfl,Z,O,rfl⟩:=U.pos w4;have Cm:(st.length-(bK ops[i].k).toNat)+1<st.length:=(by omega)
    have hb:fq 0 ops[i].k st=st[(st.length-(bK ops[i].k).toNat)+1]:=(by unfold fq;rw[if_pos w4,getD_eq_getElem?_getD,getElem?_eq_getElem Cm];rfl)
    refine gC [1,6,7,9,10,11,13,16,17,18] ?_;refine aP 3 ?_ (h:=by exact(dw 1 (h:=by first|exact .l (j:=(st.length-(bK ops[i].k).toNat)+1) w4 w4|exact .r (j:=(st.length-(bK ops[i].k).toNat)+1) w4 w4)));refine aP 0 ?_ (h:=by exact(cR (mk:=Op.load 3) rfl ot (iZ (k:=2) eG rfl rfl rfl isAgg3 Cm rfl)));refine bD ?_;refine⟨_,aJ,(st[(st.length-(bK ops[i].k).toNat)+1]),(some ⟨bh,0,none⟩),E,[⟨bh,3,E*1,flatMap cI st⟩],hb,(bM (g:=cI) (ls:=st) Z O),rfl⟩
   have hb:fq 0 ops[i].k st=0:=(by unfold fq;rw[if_neg w4])
   refine CD.skip ?_;refine⟨_,aJ,0,I,E,Sh,hb,U,rfl⟩
  rintro _ ⟨vb,I,E,Sh,hb,U,rfl⟩;refine aA 4 ?_;refine OD.lS (f:=70) (args:=[_,_,_]) (all:=[_,_,_,_]) (Sf:=[⟨b2,29,1,[au 2 cC l]⟩]) ap rfl rfl ot call70 (abk l hl ops[i] _ _ _ _ ha hb b2) rfl ⟨ot,ot,ot,trivial⟩ (mM (k:=1) rfl) ?_;rintro _ _ ⟨rfl,rfl⟩;refine an 64 [1,6,7,13,14,15,16,17,18] ?_;refine af [1,6,7,13,14,15,16,17,18,51] ?_;refine ax ?_ ?_<;>intro cQ ek
  ·have hz:(jm l ops[i] (fp 0 ops[i].k st) (fq 0 ops[i].k st)).2≠0:=(by simpa using cQ)
   have aW:=hinv.trans (Tz aa hz);refine af [4,5] ?_;refine aK [⟨b2,29,1,[au 2 cC l]⟩] ?_;rw[aW];exact⟨rfl,rfl⟩
  have hz:(jm l ops[i] (fp 0 ops[i].k st) (fq 0 ops[i].k st)).2=0:=(by simpa using cQ)
  refine CD.skip ?_;refine CD.jF (k:=(st.length-(bK ops[i].k).toNat)) (ls:=st) (Sq:=Sh) eG w4 U (dg (A:=[_,_])) (fun L7 Lb=>?_);refine CD.perm (dW (A:=[_,_])) ?_;refine dG 2 ?_;first|refine bQ (D9 (n:=st.length) (k:=(take (st.length-(bK ops[i].k).toNat) st).length) (cs:=st.flatMap cI) rfl ot rfl ⟨_,_,ot,by rw[length_take];omega⟩ runUnderlying70 sizeOf3 pp U) ?_|refine OD.still ap rfl (D9 (n:=st.length) (k:=(take (st.length-(bK ops[i].k).toNat) st).length) (cs:=st.flatMap cI) rfl ot rfl ⟨_,_,ot,by rw[length_take];omega⟩ runUnderlying70 sizeOf3 pp (bM (e:=3) (g:=cI) (ls:=st) Z O)) ?_
  refine aG 1 ?_;refine ew (cu 0 [_]) [.int .i64 0] [_] zeroValue3 runUnderlying70 sizeOf3 (fun An=>?_);refine fS 0 58 1 1 ?_;refine OD.eB (ls:=(take (st.length-(bK ops[i].k).toNat) st)) (new:=[(jm l ops[i] (fp 0 ops[i].k st) (fq 0 ops[i].k st)).1]) (Sq:=L7) eG nP ap rfl rfl underlying70 abl rfl w8 ot Lb (dg (A:=[_,_])) ot bq vH ig (fun s7 sI B5 B6=>?_);refine OD.perm (dW (S1:=[⟨s7,3,sI*1,flatMap cI ((take (st.length-(bK ops[i].k).toNat) st)++[(jm l ops[i] (fp 0 ops[i].k st) (fq 0 ops[i].k st)).1])⟩]) (A:=[_,_])) ?_;refine an 64 [1,6,7,16,17,18] ?_;refine bX [1,6,7,16,17,18] ?_;refine⟨((i+1),(st.take (st.length-(bK ops[i].k).toNat)++[(jm l ops[i] (fp 0 ops[i].k st) (fq 0 ops[i].k st)).1]),(some ⟨s7,0,none⟩),sI,[⟨s7,3,sI*1,flatMap cI ((take (st.length-(bK ops[i].k).toNat) st)++[(jm l ops[i] (fp 0 ops[i].k st) (fq 0 ops[i].k st)).1])⟩]),_,cn,(aJ (h:=by repeat (first|exact trivial|refine⟨GS,?_⟩))),w4,(by rw[pI];omega),nf,(hinv.trans (TA aa hz)),(bg.cast (bM B5 B6) (by rfl)),rfl⟩
 have h1:=Rk w4 hex;have Cn:0<st.length:=(by omega)
 obtain⟨bh,rfl,Z,O,rfl⟩:=U.pos w4;have aW:=hinv.trans (Rj w4);have jt:st.getD 0 0=st[0]:=(by rw[getD_eq_getElem?_getD,getElem?_eq_getElem Cn];rfl)
 rw[jt] at aW;refine cM [4,5] ?_;refine aP 1 ?_ (h:=by exact(oe (mk:=Op.indexAddr 70) rfl ot bP (by first|exact oU (j:=0) runUnderlying70 sizeOf3 rfl Af|exact oV (j:=0) runUnderlying70 sizeOf3 rfl Af)));refine aP 0 ?_ (h:=by exact(cR (mk:=Op.load 3) rfl ot (iZ (k:=1) eG rfl rfl rfl isAgg3 Cn rfl)));refine bD ?_;refine aK [⟨b2,29,1,[au 2 cC l]⟩] ?_;rw[aW];exact⟨rfl,rfl⟩
theorem abm(l:List cx)(hl:l.length≤6)(ops:List aS)(hx:ij ops=0):VP Tryz.prog G 36 [au 2 cC l,au 5 cO ops] (ph (tZ l ops)):=by
 refine VC.body func36 rfl ntmps36 aQ fun X0 w0 bf=>?_;obtain⟨E,fH⟩:=wA hx;have fx:=fun b2=>ac8 (G:=G) l hl ops E fH b2;unfold ph at fx ⊢;refine bS ?_;refine OD.box (ds:=[_]) ap rfl rfl ot rfl rfl (fun b2=>?_);refine an 11 [1,2] ?_;refine aA 1 ?_;refine bQ (pP (ds:=[_]) rfl ⟨ot,trivial⟩) ?_;refine OD.call ap rfl rfl rfl call69 (fx b2) ⟨ot,ot,trivial⟩ (mM (k:=0) rfl) ?_;rintro _ _ ⟨rfl,rfl⟩;refine an 11 [4,5] ?_;exact nE
theorem agI(hm:(3,marksC)∈G)(hw:(1,wordsC)∈G)(ht:(0,typesC)∈G)(l:List cx)(hl:l.length≤6)(aV:∀c∈l,c.n.size≤maxLen)(ops:List aS)(ho:∀o∈ops,o.nm.size≤maxLen):VP Tryz.prog G 35 [au 2 cC l,au 5 cO ops] (ae (if fO l≠0 then fO l else ij ops)):=by
 refine VC.body func35 rfl ntmps35 aQ fun X0 w0 bf=>?_;have cY:=dN;refine af [0,1] ?_;refine cL [1,5] (Fl hm hw ht l w4 aV) ?_;refine af [1,5,9] ?_;refine ax ?_ ?_<;>intro aO bA
 ·refine af [4] ?_;refine aK [] ?_;refine⟨vi ?_,rfl⟩;simp_all
 refine cL [4] (JQ hm hw ops ho) ?_;refine aK [] ?_;refine⟨vi ?_,rfl⟩;simp_all
theorem Fm(hm:(3,marksC)∈G)(hw:(1,wordsC)∈G)(ht:(0,typesC)∈G)(l:List cx)(hl:l.length≤6)(aV:∀c∈l,c.n.size≤maxLen)(ops:List aS)(ho:∀o∈ops,o.nm.size≤maxLen):VP Tryz.prog G 21 [au 2 cC l,au 5 cO ops] (ph (dm l ops)):=by
 refine VC.body func21 rfl ntmps21 aQ fun X0 w0 bf=>?_;have eV:=agI hm hw ht l hl aV ops ho;have E:=fun hx=>abm (G:=G) l hl ops hx;unfold ph at E ⊢;refine af [0,1] ?_;refine cL [0,1,6] (eV) ?_;refine af [0,1,6,11] ?_;refine ax ?_ ?_<;>intro aO bA
 ·have aW:dm l ops=(0,if fO l≠0 then fO l else ij ops):=(by unfold dm;split<;>simp_all)
  refine af [4,5] ?_;exact oJ
 have h0:fO l=0∧ij ops=0:=(by split at aO<;>simp_all)
 have aW:dm l ops=tZ l ops:=(by unfold dm;simp[h0])
 refine cL [4,5] (E h0.2) ?_;exact z59

end Go.Proofs.YtkgmonfgofobaaaGreatDoor.Ex
namespace Go.Proofs.YtkgmonfgofobaaaGreatDoor.Ex
open List
open Go.Proofs.Tryz
open Go.RowKit V Pk Vl Cd
variable {i:Nat} {a b:Vl} {p:Vl→Prop}
def wr(n:Int):Int:=IntKind.i64.wrap n
theorem ah4(n:Int):-9223372036854775808≤wr n∧wr n≤9223372036854775807:=by unfold wr;rw[IntKind.wrap_i64];omega
def qG(b:Bool):Vl:=if b=true then ⟨1,1,⟨#[]⟩⟩ else ⟨1,0,⟨#[]⟩⟩
def jg(a b:Vl)(i:Nat):Vl:=if i=0 then a else b
theorem IJ(a b:Vl)(h:i<2):(([ae a.k,ae a.n,aZ a.s,ae b.k,ae b.n,aZ b.s]:List D).drop (i*3)).take 3=[ae (jg a b i).k,ae (jg a b i).n,aZ (jg a b i).s]:=by
 match i,h with
 | 0,_|1,_=>rfl
def lB(a b:Vl)(d:Int):Vl×Int :=
 if (a.k≠1∧a.k≠0)∨(b.k≠1∧b.k≠0) then (bu,4) else if a.k=1∧a.n=d then (a,0) else if b.k=1∧b.n=d then (b,0) else if a.k=0∨b.k=0 then (bu,0) else (a,0)
theorem JX(h:∀j,j<i→p (jg a b j))(hi:2≤i):p a∧p b:=⟨h 0 w4,h 1 w4⟩
theorem I5(h:∀j,j<i→p (jg a b j))(h1:p (jg a b i)):∀j,j<i+1→p (jg a b j):=fun j hj=>by
 by_cases e:j=i
 ·subst e;exact h1
 exact h j w4
theorem abn{d:Int}(hi:i<2)(h1:(jg a b i).k≠1)(h2:(jg a b i).k≠0):lB a b d=(bu,4):=by
 unfold lB;match i,hi with
 | 0,_=>rw[if_pos (.inl ⟨h1,h2⟩)]
 | 1,_=>rw[if_pos (.inr ⟨h1,h2⟩)]
theorem abo{d:Int}(hi:i<2)(hg:¬((a.k≠1∧a.k≠0)∨(b.k≠1∧b.k≠0)))(h0:∀j,j<i→¬((jg a b j).k=1∧(jg a b j).n=d))(h1:(jg a b i).k=1)(h2:(jg a b i).n=d):lB a b d=(jg a b i,0):=by
 unfold lB;rw[if_neg hg];match i,hi with
 | 0,_=>rw[if_pos ⟨h1,h2⟩];rfl
 | 1,_=>rw[if_neg (show ¬(a.k=1∧a.n=d) from h0 0 w4),if_pos (show b.k=1∧b.n=d from⟨h1,h2⟩)];rfl
def pS(k a b:Int):Int×Bool :=
 if k=8 then (wr (a+b),decide (wr (a+b)<a)==decide (b<0)) else if k=9 then (wr (a-b),decide (wr (a-b)>a)==decide (b<0))
 else (wr (a*b),a==0||(wr ((wr (a*b)).tdiv a)==b && !(a == -1&&b == -9223372036854775808)))
def rG(a b:Vl):Bool:=a.k==0||b.k==0
def iB(k:Int)(a b:Vl):Vl×Int :=
 if lU a b≠0 then (bu,lU a b) else if k=3 then lB a b 0 else if k=4 then lB a b 1
 else if k=6∨k=7 then (if rG a b=true then (bu,0) else if a.k≠b.k then (bu,4) else (qG ((fg a b==0&&k==6)||(decide (fg a b<0)&&k==7)),0))
 else if k=8∨k=9∨k=10 then (if (a.k≠2∧a.k≠0)∨(b.k≠2∧b.k≠0) then (bu,4) else if rG a b=true then (bu,0) else if (pS k a.n b.n).2=true then (⟨2,(pS k a.n b.n).1,⟨#[]⟩⟩,0) else (bu,5))
 else (bu,2)
def uc(k:Int)(a:Vl):Vl×Int :=
 if cl a≠0 then (bu,cl a) else if k=11 then (qG (a.k==0),0)
 else if k=5 then (if a.k=0 then (a,0) else if a.k=1 then (qG (a.n==0),0) else (bu,4)) else (bu,2)
def mI(r:Vl×Int):D:=.dh [.agg (cV r.1),ae r.2]
variable {G:List (Nat×List Value)}
theorem Bl(b:Bool):VP Tryz.prog G 121 [bI b] (.agg (cV (qG b))):=by
 refine VC.body func121 rfl ntmps121 aQ fun X0 w0 bf=>?_;refine bS ?_;refine OD.alloc (ds:=[_,_,_]) ap rfl rfl zeroValue33 rfl (fun b2=>?_);refine an 6 [0,2] ?_;refine af [2,3] ?_;refine ax ?_ ?_<;>intro aO bA
 ·refine aA 1 ?_;refine aM 0 [_,_,_] sizeOf33 ?_;refine an 6 [2] ?_;refine aK [] ?_;refine⟨?_,rfl⟩;unfold qG;simp_all[cV]
 refine aA 1 ?_;refine aM 0 [_,_,_] sizeOf33 ?_;refine an 6 [2] ?_;refine aK [] ?_;refine⟨?_,rfl⟩;unfold qG;simp_all[cV]
theorem TB(a b:Vl):VP Tryz.prog G 123 [.agg (cV a),.agg (cV b)] (bI (rG a b)):=by
 refine VC.body func123 rfl ntmps123 aQ fun X0 w0 bf=>?_;unfold cV;refine bS ?_;refine OD.box (ds:=[_,_,_]) ap rfl rfl ot rfl rfl (fun b2=>?_);refine OD.box (ds:=[_,_,_]) ap rfl rfl ot rfl rfl (fun b3=>?_);refine an 13 [2,3] ?_;refine aA 4 ?_;refine bW 8 (fun I E=>?_) (fun I E=>?_)
 ·refine bp [4] ?_;refine eU ?_;refine⟨vb ?_,rfl⟩;unfold rG;simp_all
 refine bp [4] ?_;refine eU ?_;refine⟨vb ?_,rfl⟩;unfold rG;simp_all
theorem Rl(a b:Vl)(d:Int):VP Tryz.prog G 122 [.agg (cV a),.agg (cV b),ae d] (mI (lB a b d)):=by
 refine VC.body func122 rfl ntmps122 aQ fun X0 w0 bf=>?_;unfold mI cV;have py:=TB (G:=G) a b;unfold cV at py;refine bS ?_;refine OD.box (ds:=[_,_,_]) ap rfl rfl ot rfl rfl (fun b3=>?_);refine OD.box (ds:=[_,_,_]) ap rfl rfl ot rfl rfl (fun b4=>?_);refine OD.alloc (ds:=[_,_,_]) ap rfl rfl zeroValue33 rfl (fun b6=>?_);refine an 50 [2,3,4,6] ?_;refine cM [2,3,4,6,14,15] ?_;refine aP 2 ?_ (h:=by exact(Ef (pl:=[(0,_),(1,_)]) (ds:=[_,_,_,_,_,_]) rfl zeroValue189 runUnderlying189 sizeOf33 ⟨rfl,ot,rfl,ot,trivial⟩ rfl rfl));refine bD ?_;refine ez [2,3,4,6,14] (fun aR _ (i:Nat) aD=>(i≤2)∧(∀j,j<i→¬((jg a b j).k≠1∧(jg a b j).k≠0))∧aD=(⟨50,(15,ae (i:Nat))::aR,[⟨b6,33,3,[ae 0,ae 0,fk]⟩,⟨b4,33,3,[ae b.k,ae b.n,aZ b.s]⟩,⟨b3,33,3,[ae a.k,ae a.n,aZ a.s]⟩]⟩:St)) (fun (i:Nat)=>2-i) 0 ⟨(Nat.zero_le _),(fun j hj=>absurd hj (Nat.not_lt_zero _)),rfl⟩ ?_;rintro i _ ⟨hi,fm,rfl⟩;refine af [2,3,4,6,14,15,16] ?_;refine ax ?_ ?_<;>intro aO bA
 ·have aa:i<2:=(by omega)
  refine bS ?_;refine bQ (Ic (j:=i) rfl ot ot runUnderlying189 sizeOf33 isAgg33 rfl aa (IJ a b aa)) ?_;refine OD.alloc (ds:=[_,_,_]) ap rfl rfl zeroValue33 rfl (fun b9=>?_);refine aM 0 [_,_,_] sizeOf33 ?_;refine an 50 [2,3,4,6,9,14,15] ?_;refine aA 4 ?_;refine bW 21 (fun qQ I=>?_) (fun qQ I=>?_)
  ·refine bp [2,3,4,6,14,15,25] ?_;refine ax ?_ ?_<;>intro aY cz
   ·have aW:lB a b d=(bu,4):=abn aa (by simp_all) (by simp_all);refine aA 1 ?_;refine aM 1 [_,_,_] sizeOf33 ?_;refine an 50 [6,7] ?_;exact oJ
   exact Xy
  refine bp [2,3,4,6,14,15,25] ?_;refine fY ?_;exact Xy
 have U:=JX (p:=fun v=>¬(v.k≠1∧v.k≠0)) fm w4;have hg:¬((a.k≠1∧a.k≠0)∨(b.k≠1∧b.k≠0)):=fun h=>h.elim U.1 U.2;clear fm hi;refine cM [2,3,4,6,30,31] ?_;refine aP 2 ?_ (h:=by exact(Ef (pl:=[(0,_),(1,_)]) (ds:=[_,_,_,_,_,_]) rfl zeroValue189 runUnderlying189 sizeOf33 ⟨rfl,ot,rfl,ot,trivial⟩ rfl rfl));refine bD ?_;refine ez [2,3,4,6,30] (fun aR _ (i:Nat) aD=>(i≤2)∧(∀j,j<i→¬((jg a b j).k=1∧(jg a b j).n=d))∧aD=(⟨50,(31,ae (i:Nat))::aR,[⟨b6,33,3,[ae 0,ae 0,fk]⟩,⟨b4,33,3,[ae b.k,ae b.n,aZ b.s]⟩,⟨b3,33,3,[ae a.k,ae a.n,aZ a.s]⟩]⟩:St)) (fun (i:Nat)=>2-i) 0 ⟨(Nat.zero_le _),(fun j hj=>absurd hj (Nat.not_lt_zero _)),rfl⟩ ?_;rintro i _ ⟨lI,KZ,rfl⟩;refine af [2,3,4,6,30,31,32] ?_;refine ax ?_ ?_<;>intro cc cN
 ·have aa:i<2:=(by omega)
  refine bS ?_;refine bQ (Ic (j:=i) rfl ot ot runUnderlying189 sizeOf33 isAgg33 rfl aa (IJ a b aa)) ?_;refine OD.alloc (ds:=[_,_,_]) ap rfl rfl zeroValue33 rfl (fun kN=>?_);refine aM 0 [_,_,_] sizeOf33 ?_;refine an 50 [2,3,4,6,11,30,31] ?_;refine aA 4 ?_;refine bW 37 (fun Z O=>?_) (fun Z O=>?_)
  ·refine bp [2,3,4,6,11,30,31,42] ?_;refine ax ?_ ?_<;>intro cQ ek
   ·have aW:lB a b d=(jg a b i,0):=abo aa hg KZ (by simp_all) (by simp_all);refine aA 1 ?_;refine aM 1 [_,_,_] sizeOf33 ?_;refine an 50 [6,7] ?_;exact oJ
   exact XA
  refine bp [2,3,4,6,11,30,31,42] ?_;refine fY ?_;exact XA
 have E:=JX (p:=fun v=>¬(v.k=1∧v.n=d)) KZ w4;refine cL [3,6,47] (py) ?_;refine ax ?_ ?_<;>intro dV fB
 ·have aW:lB a b d=(bu,0):=(by unfold lB;rw[if_neg hg,if_neg E.1,if_neg E.2,if_pos (by unfold rG at dV;simpa using dV)])
  refine aA 1 ?_;refine aM 0 [_,_,_] sizeOf33 ?_;refine an 50 [6,7] ?_;exact oJ
 have aW:lB a b d=(a,0):=(by unfold lB;rw[if_neg hg,if_neg E.1,if_neg E.2,if_neg (by unfold rG at dV;simpa using dV)])
 refine aA 1 ?_;refine aM 0 [_,_,_] sizeOf33 ?_;refine an 50 [6,7] ?_;exact z59
theorem ac9(k a b:Int):VP Tryz.prog G 124 [ae k,ae a,ae b] (.dh [ae (pS k a b).1,bI (pS k a b).2]):=by
 refine VC.body func124 rfl ntmps124 aQ fun X0 w0 bf=>?_;refine af [0,1,2] ?_;refine af [1,2,11] ?_;refine af [1,2,11,12] ?_;refine ax ?_ ?_<;>intro aO bA
 ·refine cM [1,2,8] ?_;refine aP 2 ?_ (h:=by exact(dj (r:=.int .i64 (wr (a+b))) rfl ot ot (kz rfl)));exact Xz
 refine af [1,2,24] ?_;refine ax ?_ ?_<;>intro aY cz
 ·refine cM [1,2,9] ?_;refine aP 2 ?_ (h:=by exact(dj (r:=.int .i64 (wr (a-b))) rfl ot ot (gN rfl)));exact Xz
 refine cM [1,2,10] ?_;refine aP 2 ?_ (h:=by exact(dj (r:=.int .i64 (wr (a*b))) rfl ot ot (JJ rfl)));refine bD ?_;refine aA 4 ?_;refine bW 42 (fun rK E=>?_) (fun rK E=>?_)
 ·refine bp [6,7] ?_;refine M6 ?_;refine⟨?_,rfl⟩;unfold pS;simp_all
 refine aG 2 ?_;refine OD.still iq rfl (dj (r:=.int .i64 (wr ((wr (a*b)).tdiv a))) rfl ot ot (aeC (by simpa using rK) rfl)) ?_;refine aG 3 ?_;refine bW 48 (fun U I=>?_) (fun U I=>?_)
 ·refine aG 3 ?_;refine bW 51 (fun Z O=>?_) (fun Z O=>?_)
  ·refine an 58 [6,7] ?_;refine aK [] ?_;refine⟨?_,rfl⟩;unfold pS;simp_all
  refine an 58 [6,7] ?_;refine aK [] ?_;refine⟨?_,rfl⟩;unfold pS;simp_all
 refine an 58 [6,7] ?_;refine aK [] ?_;refine⟨?_,rfl⟩;unfold pS;simp_all
theorem agJ(k:Int)(a:Vl):VP Tryz.prog G 76 [ae k,.agg (cV a)] (mI (uc k a)):=by
 refine VC.body func76 rfl ntmps76 aQ fun X0 w0 bf=>?_;unfold mI;have eV:=Vl.pQ (G:=G) a;unfold cV at eV;unfold cV;refine bS ?_;refine OD.box (ds:=[_,_,_]) ap rfl rfl ot rfl rfl (fun b3=>?_);refine OD.alloc (ds:=[_,_,_]) ap rfl rfl zeroValue33 rfl (fun b4=>?_);refine an 35 [0,3,4] ?_;refine cL [0,3,4,6] (eV) ?_;refine af [0,3,4,6,10] ?_;refine ax ?_ ?_<;>intro aO bA
 ·refine aA 2 ?_;exact CS
 refine af [3,4,13] ?_;refine af [3,4,13,14] ?_;refine ax ?_ ?_<;>intro aY cz
 ·refine aA 3 ?_;refine dO call121 (Bl _) ?_;exact CS
 refine af [3,4,20] ?_;refine ax ?_ ?_<;>intro cc cN
 ·refine af [3,4,23] ?_;refine af [3,4,23,24] ?_;refine ax ?_ ?_<;>intro cQ ek
  ·refine aA 1 ?_;exact CS
  refine af [3,4,27] ?_;refine ax ?_ ?_<;>intro dV fB
  ·refine aA 3 ?_;refine dO call121 (Bl _) ?_;exact CS
  refine aA 1 ?_;exact CS
 refine aA 1 ?_;refine aM 0 [_,_,_] sizeOf33 ?_;refine an 35 [4,5] ?_;refine aK [] ?_;refine⟨?_,rfl⟩;unfold uc;simp_all[bu]
theorem afa{k:Int}(h0:lU a b=0)(hk:k=8∨k=9∨k=10)(hi:i<2)(h1:(jg a b i).k≠2)(h2:(jg a b i).k≠0):iB k a b=(bu,4):=by
 unfold iB;rw[if_neg (by simp[h0]),if_neg w4,if_neg w4,if_neg w4,if_pos hk];match i,hi with
 | 0,_=>rw[if_pos (.inl ⟨h1,h2⟩)]
 | 1,_=>rw[if_pos (.inr ⟨h1,h2⟩)]
theorem PT{k:Int}(h0:lU a b=0)(hk:k=8∨k=9∨k=10)(hg:¬((a.k≠2∧a.k≠0)∨(b.k≠2∧b.k≠0))) :
  iB k a b=if rG a b=true then (bu,0) else if (pS k a.n b.n).2=true then (⟨2,(pS k a.n b.n).1,⟨#[]⟩⟩,0) else (bu,5):=by
 unfold iB;rw[if_neg (by simp[h0]),if_neg w4,if_neg w4,if_neg w4,if_pos hk,if_neg hg]
theorem agK(k:Int)(a b:Vl)(oa:a.Ok)(ob:b.Ok):VP Tryz.prog G 77 [ae k,.agg (cV a),.agg (cV b)] (mI (iB k a b)):=by
 refine VC.body func77 rfl ntmps77 aQ fun X0 w0 bf=>?_;unfold mI;have qV:=Cd.Ti (G:=G) a b;have py:=TB (G:=G) a b;have oI:=Rl (G:=G) a b 0;have lF:=Rl (G:=G) a b 1;have eV:=Cd.O7 (G:=G) a b oa ob;have G8:=ac9 (G:=G) k a.n b.n;unfold mI at oI lF;unfold cV at qV py oI lF eV;unfold cV;refine bS ?_;refine OD.box (ds:=[_,_,_]) ap rfl rfl ot rfl rfl (fun b4=>?_);refine OD.box (ds:=[_,_,_]) ap rfl rfl ot rfl rfl (fun b5=>?_);refine OD.alloc (ds:=[_,_,_]) ap rfl rfl zeroValue33 rfl (fun b6=>?_);refine an 106 [0,4,5,6] ?_;refine cL [0,4,5,6,8] (qV) ?_;refine af [0,4,5,6,8,18] ?_;refine ax ?_ ?_<;>intro aO bA
 ·have E:lU a b≠0:=(by simpa using aO)
  have aW:iB k a b=(bu,lU a b):=(by unfold iB;rw[if_pos E])
  refine aA 2 ?_;exact z8
 have E:lU a b=0:=(by simpa using aO)
 refine af [0,4,5,6,21] ?_;refine af [0,4,5,6,21,22] ?_;refine ax ?_ ?_<;>intro aY cz
 ·have aW:iB k a b=lB a b 0:=(by unfold iB;rw[if_neg (by simp[E]),if_pos w4])
  refine aA 2 ?_;refine dO call122 (oI) ?_;refine aG 2 ?_;exact z8
 refine af [0,4,5,6,21,29] ?_;refine ax ?_ ?_<;>intro cc cN
 ·have aW:iB k a b=lB a b 1:=(by unfold iB;rw[if_neg (by simp[E]),if_neg w4,if_pos w4])
  refine aA 2 ?_;refine dO call122 (lF) ?_;refine aG 2 ?_;exact z8
 refine iv [0,4,5,6,21] (fun aR lK aD=>∃(q:Bool),(q=true↔k=6∨k=7)∧aD=(⟨106,(36,bI q)::aR,lK⟩:St)) ?_ ?_
 ·refine af [0,4,5,6,21,36] ?_;refine ax ?_ ?_<;>intro cQ ek
  ·refine CD.skip ?_;exact CV
  refine bX [0,4,5,6,21,36] ?_;exact CV
 rintro _ ⟨q,hq,rfl⟩;refine ax ?_ ?_<;>intro dV fB
 ·have aqJ:=hq.1 dV;refine cL [0,4,5,6,41] (py) ?_;refine ax ?_ ?_<;>intro fD gG
  ·have aW:iB k a b=(bu,0):=(by unfold iB;rw[if_neg (by simp[E]),if_neg w4,if_neg w4,if_pos w4,if_pos fD])
   refine aA 1 ?_;exact z8
  refine af [0,4,5,6,47] ?_;refine ax ?_ ?_<;>intro iP o9
  ·have aW:iB k a b=(bu,4):=(by unfold iB;rw[if_neg (by simp[E]),if_neg w4,if_neg w4,if_pos w4,if_neg (by rw[fD];simp),if_pos (by simpa using iP)])
   refine aA 1 ?_;exact z8
  have aW:iB k a b=(qG ((fg a b==0&&k==6)||(decide (fg a b<0)&&k==7)),0):=(by unfold iB;rw[if_neg (by simp[E]),if_neg w4,if_neg w4,if_pos w4,if_neg (by rw[fD];simp),if_neg (by simpa using iP)])
  refine cL [0,6,9] (eV) ?_;refine aA 3 ?_;refine bW 54 (fun zT zk=>?_) (fun zT zk=>?_)
  ·refine aG 4 ?_;refine bW 58 (fun akp ah5=>?_) (fun akp ah5=>?_)
   ·refine yd 3 ?_;exact B8
   refine aG 3 ?_;refine bW 61 (fun O I=>?_) (fun O I=>?_)
   ·exact B8
   exact B8
  refine aG 7 ?_;refine bW 61 (fun O I=>?_) (fun O I=>?_)
  ·exact B8
  exact B8
 have aqK:¬(k=6∨k=7):=fun h=>by rw[hq.2 h] at dV;cases dV
 refine iv [0,4,5,6] (fun aR lK aD=>∃(q:Bool),(q=true↔k=8∨k=9∨k=10)∧aD=(⟨106,(67,bI q)::aR,lK⟩:St)) ?_ ?_
 ·refine af [0,4,5,6,21,67] ?_;refine ax ?_ ?_<;>intro iG mU
  ·refine CD.skip ?_;exact CV
  refine af [0,4,5,6,21,67] ?_;refine ax ?_ ?_<;>intro qi zP
  ·refine CD.skip ?_;exact CV
  refine bX [0,4,5,6,67] ?_;exact CV
 rintro _ ⟨q,YB,rfl⟩;refine ax ?_ ?_<;>intro uD Ck
 ·have HA:=YB.1 uD;refine cM [0,4,5,6,73,74] ?_;refine aP 2 ?_ (h:=by exact(Ef (pl:=[(0,_),(1,_)]) (ds:=[_,_,_,_,_,_]) rfl zeroValue189 runUnderlying189 sizeOf33 ⟨rfl,ot,rfl,ot,trivial⟩ rfl rfl));refine bD ?_;refine ez [0,4,5,6,73] (fun aR _ (i:Nat) aD=>(i≤2)∧(∀j,j<i→¬((jg a b j).k≠2∧(jg a b j).k≠0))∧aD=(⟨106,(74,ae (i:Nat))::aR,[⟨b6,33,3,[ae 0,ae 0,fk]⟩,⟨b5,33,3,[ae b.k,ae b.n,aZ b.s]⟩,⟨b4,33,3,[ae a.k,ae a.n,aZ a.s]⟩]⟩:St)) (fun (i:Nat)=>2-i) 0 ⟨(Nat.zero_le _),(fun j hj=>absurd hj (Nat.not_lt_zero _)),rfl⟩ ?_;rintro i _ ⟨hi,fm,rfl⟩;have HA:k=8∨k=9∨k=10:=(by omega)
  refine af [0,4,5,6,73,74,75] ?_;refine ax ?_ ?_<;>intro GD F9
  ·have aa:i<2:=(by omega)
   refine bS ?_;refine bQ (Ic (j:=i) rfl ot ot runUnderlying189 sizeOf33 isAgg33 rfl aa (IJ a b aa)) ?_;refine OD.alloc (ds:=[_,_,_]) ap rfl rfl zeroValue33 rfl (fun kN=>?_);refine aM 0 [_,_,_] sizeOf33 ?_;refine an 106 [0,4,5,6,11,73,74] ?_;refine aA 4 ?_;refine bW 80 (fun L8 Ga=>?_) (fun L8 Ga=>?_)
   ·refine bp [0,4,5,6,73,74,84] ?_;refine ax ?_ ?_<;>intro vq FW
    ·have aW:iB k a b=(bu,4):=afa E HA aa (by simp_all) (by simp_all);refine aA 1 ?_;refine aM 1 [_,_,_] sizeOf33 ?_;refine an 106 [6,7] ?_;refine aK [] ?_;rw[aW];first|exact⟨rfl,rfl⟩|(refine⟨?_,rfl⟩;clear aW eV G8 oI lF qV py;generalize (fg a b==0)=z1 at *;generalize (decide (fg a b<0))=z2 at *;subst_vars;simp_all;done)
    exact Xx
   refine bp [0,4,5,6,73,74,84] ?_;refine fY ?_;exact Xx
  have YC:=JX (p:=fun v=>¬(v.k≠2∧v.k≠0)) fm w4;have NU:=PT E HA (fun h=>h.elim YC.1 YC.2);refine cL [0,4,5,6,89] (py) ?_;refine ax ?_ ?_<;>intro U ah6
  ·have aW:iB k a b=(bu,0):=(by rw[NU,if_pos U])
   refine aA 1 ?_;exact z8
  refine cL [6,12,13] (G8) ?_;refine af [6,12,101] ?_;refine ax ?_ ?_<;>intro Z ah7
  ·have aW:iB k a b=(bu,5):=(by rw[NU,if_neg (by rw[U];simp),if_neg (by simpa using Z)])
   refine aA 1 ?_;exact z8
  have aW:iB k a b=(⟨2,(pS k a.n b.n).1,⟨#[]⟩⟩,0):=(by rw[NU,if_neg (by rw[U];simp),if_pos (by simpa using Z)])
  refine aA 2 ?_;exact z8
 have hn8:¬(k=8∨k=9∨k=10):=fun h=>by rw[YB.2 h] at uD;cases uD
 have aW:iB k a b=(bu,2):=(by unfold iB;rw[if_neg (by simp[E]),if_neg w4,if_neg w4,if_neg w4,if_neg w4])
 refine aA 1 ?_;refine aM 0 [_,_,_] sizeOf33 ?_;refine an 106 [6,7] ?_;refine aK [] ?_;rw[aW];first|exact⟨rfl,rfl⟩|(refine⟨?_,rfl⟩;clear aW eV G8 oI lF qV py;generalize (fg a b==0)=z1 at *;generalize (decide (fg a b<0))=z2 at *;subst_vars;simp_all;done)

end Go.Proofs.YtkgmonfgofobaaaGreatDoor.Ex
