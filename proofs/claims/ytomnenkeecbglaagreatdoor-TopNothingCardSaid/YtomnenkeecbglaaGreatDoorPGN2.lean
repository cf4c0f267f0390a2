/-
  GN: walks and plain facts, part 2.
-/
import Derived.Test.YtomnenkeecbglaaGreatDoorPGN1
set_option linter.unusedVariables false
set_option linter.unusedSimpArgs false
set_option maxRecDepth 100000
set_option maxHeartbeats 4000000
namespace Go.Proofs.YtomnenkeecbglaaGreatDoor
namespace V
open List
open Go.RowKit
section
variable {P:Program} {C:cj} {G:List (Nat×List Value)} {Q:Exit->St->Prop} {x:St} {ops:Array Oper} {l:List Oper} {o:Oper}
variable {e sz cap b n m k:Nat} {α:Type} {ad:Option Addr} {S Sq R A S1 S2:List ak} {t:TypeId} {cs:List D} {y:Operand}
theorem kT{g:α->List D}:bV e sz (([]:List α).flatMap g) ([]:List α).length none 0 []:=.inl ⟨rfl,rfl,rfl,rfl,rfl⟩
theorem bV.cast{g:α->List D}{ls E:List α}(h:bV e sz (ls.flatMap g) ls.length ad cap S)(he:ls=E):bV e sz (E.flatMap g) E.length ad cap S:=he ▸ h
theorem cU{g:α->List D}{ls:List α}(h1:ls.length<=cap)(h2:cap<=maxLen):bV e sz (ls.flatMap g) ls.length (some ⟨b,0,none⟩) cap [⟨b,e,cap*sz,ls.flatMap g⟩]:=.inr ⟨b,rfl,h1,h2,rfl⟩
def k8(g:α->List D)(e sz:Nat)(ls:List α)(r:D)(S:List ak):Prop:=∃ad cap,r = .v (.slice ad ls.length cap)/\bV e sz (ls.flatMap g) ls.length ad cap S
theorem k8.view{g:α->List D}{ls:List α}{r:D}(hg:∀a,(g a).length=sz)(h:k8 g e sz ls r S)(hne:isMap e=false:=by rfl):View S r (.list sz (ls.flatMap g) ls.length):=by
 obtain⟨ad,cap,rfl,ho⟩:=h;exact xW (hne:=hne) ho (de hg ls) (fun B E=>E)
theorem VC.sK{g:α->List D}{ls:List α}{f:FuncId}{args:List D}(hg:∀a,(g a).length=sz)(h:VC P G f args [] (k8 g e sz ls))(hne:isMap e=false:=by rfl):VP P G f args (.list sz (ls.flatMap g) ls.length) :=
 h.cover fun r S hr=>k8.view (hne:=hne) hg hr
theorem Wk.yI{t:Nat}{l:List (Nat×D)}(ht:look t l = .v (.slice ad m cap))(ho:bV e sz cs m ad cap Sq)(hl:cs.length=m*sz)(hp:S.Perm (Sq++R))(hne:isMap e=false:=by rfl):Wk ⟨n,l,S⟩ ⟨n,(t,.list sz cs m)::l,R⟩:=by
 refine(Wk.perm hp).trans ?_;rcases ho with ⟨rfl,rfl,rfl,rfl,rfl⟩|⟨b,rfl,h1,h2,rfl⟩
 ·exact Wk.qB ht
 exact Wk.vr (hne:=hne) (k:=0) rfl ht rfl hl h1 h2
theorem iH{t:Nat}(ht:V.look t x.env = .v (.slice ad m cap))(ho:bV e sz cs m ad cap Sq)(hl:cs.length=m*sz)(hp:x.S.Perm (Sq++R))(K:OD P C ops l ⟨x.n,(t,.list sz cs m)::x.env,R⟩ Q)(hne:isMap e=false:=by rfl):OD P C ops l x Q :=
 bc (Wk.yI (hne:=hne) (n:=x.n) (S:=x.S) ht ho hl hp) K
theorem jn{c:Code}{t:Nat}(ht:V.look t x.env = .v (.slice ad m cap))(ho:bV e sz cs m ad cap Sq)(hl:cs.length=m*sz)(hp:x.S.Perm (Sq++R))(K:CD P C c ⟨x.n,(t,.list sz cs m)::x.env,R⟩ Q)(hne:isMap e=false:=by rfl):CD P C c x Q :=
 gS (Wk.yI (hne:=hne) (n:=x.n) (S:=x.S) ht ho hl hp) K
theorem k8.mk{g:α->List D}{ls:List α}(h:bV e sz (ls.flatMap g) ls.length ad cap S):k8 g e sz ls (.v (.slice ad ls.length cap)) S:=⟨ad,cap,rfl,h⟩
theorem k8.cast{g:α->List D}{ls E:List α}{r:D}(h:k8 g e sz ls r S)(he:ls=E):k8 g e sz E r S:=he ▸ h
theorem fZ{ls E:List α}(h:ls=E):D.v (.slice ad ls.length cap)=D.v (.slice ad E.length cap):=by rw[h]
theorem cy:(A++S1).Perm (S1++A):=perm_append_comm
theorem xX:(A++(S1++S2)).Perm (S1++(A++S2)):=perm_append_comm_assoc _ _ _
theorem qy:(A++(S1++S2)).Perm (S2++(A++S1)):=(List.perm_append_comm.append_left A).trans xX
theorem dj:(S1++A).Perm (A++S1):=cy.symm
theorem pb:(S2++(A++S1)).Perm (A++(S1++S2)):=qy.symm
theorem qo {g:α->List D} {ls new:List α} {s:Operand} {t tt bytes:Nat} {z:Value} (hg:∀a,(g a).length=sz) (hg1:∀a,(g a).all one=true) (hw:bS ops x o true) (ho:o.op = .call {callee:=.builtin .append,args:=#[s,y],argTypes:=#[t,t]}) (hd:o.dst=some tt)
  (ht:P.underlying t=some (.slice e)) (hi:(P.info? e).map (fun i=>(i.zero,i.size,i.bytes))=some (some z,sz,bytes)) (dy:z.cells.size=sz) (U:0<sz) (hu:∀w,(underlying t).run P w = .ok (.slice e) w) (Y:∀w,(sizeOf e).run P w = .ok sz w)
  (hs:aO x s = .v (.slice ad ls.length cap)) (M:bV e sz (ls.flatMap g) ls.length ad cap Sq) (hp:x.S.Perm (Sq++R))
  (hy:aO x y = .list sz (new.flatMap g) new.length) (Z:ls.length+new.length<=maxLen) (I:(ls.length+new.length)*bytes<=140737488355328)
  (K:∀O E S',bV e sz ((ls++new).flatMap g) (ls++new).length O E S'->OD P C ops l ⟨x.n,(tt,.v (.slice O (ls++new).length E))::x.env,S'++R⟩ Q) (hne:isMap e=false:=by rfl):OD P C ops (o::l) x Q:=by
 rcases Nat.eq_zero_or_pos new.length with h0|h0
 ·have hn:new=[]:=eq_nil_of_length_eq_zero h0;subst hn;refine gE hw hd (Bu ho hu Y hs M.le hy) ?_;have:=K ad cap Sq (by rw[append_nil];exact M);rw[append_nil] at this;exact bc (Wk.perm (n:=x.n) hp) this
 exact fY (hne:=hne) hg hg1 hw ho hd ht hi dy U hs M hp hy h0 Z I fun b' E h1 h2=>K _ E _ (cU h1 h2)
theorem Gy {e:TypeId} {vs:List Value} (ho:o.op = .slice t y none none none) (hy:aO x y = .v (.pointer (some ⟨b,0,none⟩))) (hg:(b,vs)∈G)
  (M:∀w,(underlying t).run P w = .ok (.array n e) w) (hs:∀w,(sizeOf e).run P w = .ok sz w) (hl:vs.length=n*sz) (hn:n≠0) (I:n<=maxLen) (gV:vs.all ku=true:=by rfl):bH P G x o .none (.list sz (vs.map .v) n):=fun C a w hG h=>by
 subst hG;obtain⟨⟨q1,q2,O⟩,Y⟩:=h.dx _ hg;refine⟨.slice (some ⟨b,0,none⟩) n n,.list sz (vs.map .v) n b 0 n (fun i=>vs.getD i undef) (by simpa using hl) (Nat.le_refl _) I (Nat.lt_of_lt_of_le q1 h.fr.size) (fun hl=>hl.elim O (h.fr.block b q1 q2).2) (fun i hi=>?_) (fun i hi=>?_),fun w' _=>?_⟩
 ·have E:i<vs.length:=(by simpa using hi)
  have:=(h.oo hg (getElem?_eq_getElem E)).cell (xO gV (getElem?_eq_getElem E));rw[Nat.zero_add,this];simp[E]
 ·have E:i<vs.length:=(by simpa using hi)
  simp only[getElem_map,getD_eq_getElem?_getD,getElem?_eq_getElem E,Option.getD_some];exact .v _
 unfold execOp;have U:(Instr.sliceBounds false n n none none none).run P w' = .ok (0,n,n) w':=(by unfold Instr.sliceBounds;simp)
 simp only[ho,h.flat hy,Instr.sliceAt,M,Instr.sureAddr,Sem.run_bind,Result.andThen_ok,Option.map_none,Sem.run_pure,U,hs,Nat.sub_zero];rw[if_neg hn];simp[Addr.add_mid]
theorem CU {g:α->List D} {ls:List α} {e:TypeId} {l' h':Nat} {vs:List Value} (hg:(b,vs)∈G) (M:vs.map D.v=ls.flatMap g) (E:n=ls.length)
  (O:∀w,(underlying t).run P w = .ok (.array n e) w) (hs:∀w,(sizeOf e).run P w = .ok sz w) (hl:vs.length=n*sz) (hn:n≠0) (I:n<=maxLen) (gV:vs.all ku=true:=by rfl):Rs P G t none none l' h' (.v (.pointer (some ⟨b,0,none⟩))) (.list sz (ls.flatMap g) ls.length):=fun x o y ho hy _ _=>by
 have:=Gy (P:=P) (G:=G) ho hy hg O hs hl hn I gV;rw[M,E] at this;exact this
theorem vb{x y:Bool}(h:x=y):D.v (.bool x)=D.v (.bool y):=by rw[h]
theorem vi{k:IntKind}{x y:Int}(h:x=y):D.v (.int k x)=D.v (.int k y):=by rw[h]
def cB(b:UInt8):List D:=[sM b]
theorem vf(b:UInt8):(cB b).length=1:=rfl
theorem Dh(b:UInt8):(cB b).all one=true:=rfl
theorem JO(E:List UInt8):E.flatMap cB=E.map sM:=by
 induction E with
 | nil=>rfl
 | cons a r ih=>rw[flatMap_cons,ih];rfl
def cS(s:ByteArray):List D:=[.v (.string s)]
theorem ej(s:ByteArray):(cS s).length=1:=rfl
theorem yA(s:ByteArray):(cS s).all one=true:=rfl
theorem Bp{s e:TypeId}{E:List UInt8}(ho:o.op = .convert s t y)(hy:aO x y = .list 1 (E.flatMap cB) n)(hs:P.underlying s=some (.slice e))(he:P.underlying e=some (.int .u8))(ht:P.underlying t=some .string) :
  bH P G x o .fA (.v (.string ⟨E.toArray⟩)):=xk ho (by rw[hy,JO]) hs he ht
def c6(s:ByteArray)(k:Nat):UInt8:=s.data.toList.getD k 0
theorem lH{s:ByteArray}(h:k<s.size):s[k]?=some (c6 s k):=by
 have h':k<s.data.size:=h;rw[getElem?_pos s k h];congr 1;show s.data[k]=_;simp only[c6,getD_eq_getElem?_getD,Array.getElem?_toList,Array.getElem?_eq_getElem h',Option.getD_some]
theorem ic(s:ByteArray):s.data.toList.length=s.size:=by rw[Array.length_toList];rfl
theorem uQ(s:ByteArray):s.toList=s.data.toList:=by rw[ByteArray.toList_eq]
theorem qs{s:ByteArray}(h:k<s.data.toList.length):s.data.toList[k]=c6 s k:=by simp only[c6,getD_eq_getElem?_getD,getElem?_eq_getElem h,Option.getD_some]
theorem JP{s:ByteArray}(h:(!(s.toList==(⟨#[]⟩:ByteArray).toList))=true):0<s.size:=by
 rcases Nat.eq_zero_or_pos s.size with h0|h0
 ·have:s.data.toList=[]:=eq_nil_of_length_eq_zero (by rw[ic,h0]);rw[uQ,uQ,this] at h;cases h
 exact h0
theorem ec{s:ByteArray}:(s.toList==(⟨#[]⟩:ByteArray).toList)=decide (s.size=0):=by
 rw[Bool.eq_iff_iff,beq_iff_eq,decide_eq_true_eq,uQ,uQ,<-ic];exact⟨fun h=>by rw[h];rfl,fun h=>eq_nil_of_length_eq_zero h⟩
theorem IT{s t:ByteArray}(h:s.data.toList=t.data.toList):s=t:=by
 obtain⟨⟨a⟩⟩:=s;obtain⟨⟨b⟩⟩:=t;simp only at h;rw[h]
def cM(a b:ByteArray):Bool:=a.toList==b.toList
def lK(p:α->Bool)(ls:List α):Int:=match ls.findIdx? p with|some i=>i|none=>-1
theorem qz{p:α->Bool}{ls:List α}(hk:k<ls.length)(h0:∀x∈ls.take k,p x=false)(h1:p ls[k]=true):lK p ls=k:=by
 have:ls.findIdx? p=some k:=by
  rw[findIdx?_eq_some_iff_getElem];refine⟨hk,h1,fun j hj=>?_⟩;have:=h0 ls[j] (mem_take_iff_getElem.2 ⟨j,by omega,rfl⟩);simp[this]
 simp[lK,this]
theorem qu{p:α->Bool}{ls:List α}(hk:¬(k<ls.length))(h0:∀x∈ls.take k,p x=false):lK p ls = -1:=by
 have:ls.findIdx? p=none:=by
  rw[findIdx?_eq_none_iff];intro x hx;rw[take_of_length_le w7] at h0;exact h0 x hx
 simp[lK,this]
theorem Ce{p:α->Bool}{ls:List α}:decide (lK p ls>=0)=ls.any p:=by
 unfold lK;cases h:ls.findIdx? p with
 | none =>
  have:=findIdx?_eq_none_iff.1 h;simp;exact this
 | some i =>
  obtain⟨h1,h2,_⟩:=findIdx?_eq_some_iff_getElem.1 h;simp only[ge_iff_le,Int.natCast_nonneg,decide_true];exact(any_eq_true.2 ⟨_,getElem_mem h1,h2⟩).symm
theorem xY{p:α->Prop}{ls:List α}(hk:k<ls.length)(h0:∀x∈ls.take k,p x)(h1:p ls[k]):∀x∈ls.take (k+1),p x:=by
 rw[take_succ_eq_append_getElem hk];intro x hx;rcases mem_append.1 hx with hx|hx
 ·exact h0 x hx
 simp only[mem_singleton] at hx;subst hx;exact h1
end
variable {P:Program} {C:cj} {G:List (Nat×List Value)} {Q:Exit->St->Prop} {ops:Array Oper} {l l2:List Oper} {o:Oper} {n t:Nat} {d:D} {e e' l':List (Nat×D)} {S:List ak} {ts:List Nat} {c:Bool}
variable {q:Nat} {ld:Array Bool}
theorem u0{a:Act}{w:World}{K:Act->World->Prop}{R:Exit->Act->World->Prop}(h:o.wp P a w K R):o.wp P a w (fun E w'=>K E w'/\∃v,E.tmps=(a.put o.dst v).tmps) R:=by
 unfold Oper.wp at *;generalize (execOp a.eval o).run P w=r at *;cases r with
 | ok x w' =>
  cases x<;>simp only[Oper.upon] at h |- <;>
   first
    | exact⟨h,_,rfl⟩
    | exact Calls.mono h (fun e I he=>by cases e<;>first|exact⟨he,_,rfl⟩|exact he)
    | exact Rows.mono h (fun _ _ he=>⟨he,_,rfl⟩)
    | (refine⟨h,undef,?_⟩;unfold Act.put;cases o.dst<;>rfl)
 | halt x w'=>cases x<;>simp only[Oper.upon] at h |-<;>exact h
theorem bp.sO{a I:Act}{w w':World}{v:Value}(h:bp C ⟨n,e,S⟩ a w)(k:bp C ⟨n,(t,d)::l',S⟩ I w')(hf:Fr w (aq S) w' (aq S))(M:I.tmps=(a.put (some t) v).tmps):bp C ⟨n,(t,d)::e,S⟩ I w':=by
 refine⟨k.defers,k.size,fun q hq=>?_,k.own,k.fr,k.ex,k.dx⟩;by_cases E:t=q
 ·subst E;have:=k.env t hq;simp only[ey,if_pos] at this |-;exact this
 have h1:=h.env q hq;have h2:I.tmps.getD q undef=a.tmps.getD q undef:=(by rw[M];simp[Act.put,Array.getD_eq_getD_getElem?,Array.getElem?_setIfInBounds,E])
 simp only[ey,if_neg E];rw[h2];exact h1.mono fun b hb hn=>⟨(hf.block b hb (fun hm=>hn (.inr hm))).1,hn⟩
theorem e8.sO(hd:o.dst=some t)(h:e8 P G ⟨n,l',S⟩ o [] (fun y=>y=⟨n,(t,d)::l',S⟩))(hs:gG e l'):e8 P G ⟨n,e,S⟩ o [] (fun y=>y=⟨n,(t,d)::e,S⟩):=fun C a w K R hG E O=>by
 have h1:=h C a w (fun I w'=>bp C ⟨n,(t,d)::l',S⟩ I w'/\jz [] w w'/\Fr w (aq S) w' (aq S)) R hG (Wk.gH hs C a w E) (fun y I w' hy M hc hf=>by subst hy;exact⟨M,hc,hf⟩);refine Oper.wp_mono (fun I w' h2=>?_) (u0 h1);obtain⟨⟨h3,h4,h5⟩,v,h6⟩:=h2;rw[hd] at h6;exact O _ I w' rfl (E.sO h3 h5 h6) h4 h5
def jZ(ops:Array Oper)(o:Oper)(ts:List Nat):Bool:=(range ops.size).all fun j=>match ops[j]? with
 | some p=>(match p.dst with
  | some t=>!(ts.elem t)||o.after.any (fun e=>Region.binds .any e&&Nat.beq e.on j)
  | none=>true)
 | none=>true
def je(ops:Array Oper):Bool:=(range ops.size).all fun i=>match ops[i]? with
 | some o=>o.after.all (fun e=>!Region.binds .any e||Nat.blt e.on i)&&(match o.dst with
  | some t=>(range i).all fun j=>match ops[j]? with
   | some p=>(match p.dst with|some q=>!(Nat.beq q t)|none=>true)
   | none=>true
  | none=>false)
 | none=>true
inductive PD (c:Bool) (P:Program) (G:List (Nat×List Value)) (n:Nat) (S:List ak) (ops:Array Oper):List Oper->List (Nat×D)->List Oper->List (Nat×D)->Prop
 | nil {l:List Oper} {e:List (Nat×D)}:PD c P G n S ops l e l e
 | cons {o:Oper} {l l2:List Oper} {t:Nat} {d:D} {e e' l':List (Nat×D)} {ts:List Nat} (hd:o.dst=some t) (hr:dX ts e l') (hq:(!c||jZ ops o ts)=true) (hw:bS ops ⟨n,l',S⟩ o true)
   (h:e8 P G ⟨n,l',S⟩ o [] (fun y=>y=⟨n,(t,d)::l',S⟩)) (k:PD c P G n S ops l ((t,d)::e) l2 e'):PD c P G n S ops (o::l) e l2 e'
 | skip {o:Oper} {l l2:List Oper} {t:Nat} {e e' l':List (Nat×D)} {ts:List Nat} (hd:o.dst=some t) (hr:dX ts e l') (hq:(!c||jZ ops o ts)=true) (hw:bS ops ⟨n,l',S⟩ o false)
   (k:PD c P G n S ops l ((t,.v (.tuple #[]))::e) l2 e'):PD c P G n S ops (o::l) e l2 e'
theorem PD.od(h:PD c P C.G n S ops l e l2 e')(K:OD P C ops l2 ⟨n,e',S⟩ Q):OD P C ops l ⟨n,e,S⟩ Q:=by
 induction h with
 | nil=>exact K
 | cons hd hr hq hw h k ih=>exact OD.fh (fun C a w hs=>hw C a w (Wk.gH hr.gH C a w hs)) (h.sO hd hr.gH) fun y hy=>by subst hy;exact ih K
 | skip hd hr hq hw k ih=>exact ym (fun C a w hs=>hw C a w (Wk.gH hr.gH C a w hs)) hd (ih K)
def Gd(P:Program)(G:List (Nat×List Value))(n:Nat)(S:List ak)(ops:Array Oper)(eF:List (Nat×D))(i:Nat):Prop :=
 ∃o t ts l',ops[i]?=some o/\o.dst=some t/\jZ ops o ts=true/\(∀p∈l',p.1∈ts/\look p.1 eF=look p.1 l')/\l'.map (·.1)=ts /\
  ((bS ops ⟨n,l',S⟩ o true/\e8 P G ⟨n,l',S⟩ o [] (fun y=>y=⟨n,(t,look t eF)::l',S⟩))\/(bS ops ⟨n,l',S⟩ o false/\look t eF = .v (.tuple #[])))
theorem dX.keys(h:dX ts e l'):l'.map (·.1)=ts:=by
 induction h with
 | nil=>rfl
 | cons h k ih=>rw[map_cons,ih]
theorem dX.at(h:dX ts e l')(hq:q∈ts):look q l'=look q e:=by
 induction h with
 | nil=>cases hq
 | @cons t ts d e l' h k ih =>
  rw[ey];by_cases E:t=q
  ·subst E;rw[if_pos rfl,h]
  rw[if_neg E];rcases mem_cons.1 hq with rfl|hm
  ·exact absurd rfl E
  exact ih hm
theorem px(h:je ops=true){i:Nat}{o:Oper}(hi:ops[i]?=some o):(∀e∈o.after,Region.binds .any e=true->e.on<i)/\∃t,o.dst=some t/\∀j p,j<i->ops[j]?=some p->p.dst≠some t:=by
 have aD:=(Array.getElem?_eq_some_iff.1 hi).1;have:=all_eq_true.1 h i (mem_range.2 aD);simp only[hi,Bool.and_eq_true] at this;obtain⟨h1,h2⟩:=this;refine⟨fun e he hb=>?_,?_⟩
 ·have:=Array.all_eq_true'.1 h1 e he;simp only[hb,Bool.not_true,Bool.false_or] at this;exact Nat.le_of_ble_eq_true this
 cases hd:o.dst with
 | none=>rw[hd] at h2;cases h2
 | some t =>
  rw[hd] at h2;refine⟨t,rfl,fun j p hj hp hq=>?_⟩;have:=all_eq_true.1 h2 j (mem_range.2 hj);simp only[hp,hq,Bool.not_eq_true'] at this;have E:Nat.beq t t=true:=Nat.beq_refl t;rw[E] at this;cases this
theorem u3(h:jZ ops o ts=true){j:Nat}{p:Oper}(hj:ops[j]?=some p)(hp:p.dst=some q)(hq:q∈ts):∃e∈o.after,Region.binds .any e=true/\e.on=j:=by
 have aD:=(Array.getElem?_eq_some_iff.1 hj).1;have:=all_eq_true.1 h j (mem_range.2 aD);simp only[hj,hp] at this;rw[show ts.elem q=true from elem_eq_true_of_mem hq] at this;simp only[Bool.not_true,Bool.false_or] at this;obtain⟨e,he,hb⟩:=Array.any_eq_true'.1 this;rw[Bool.and_eq_true] at hb;exact⟨e,he,hb.1,Nat.eq_of_beq_eq_true hb.2⟩
theorem PD.later(h:PD c P G n S ops l e l2 e')(hq:∀o∈l,o.dst≠some q):look q e'=look q e:=by
 induction h with
 | nil=>rfl
 | @cons o l l2 t d e e' l' ts hd hr E hw h k ih =>
  rw[ih fun p hp=>hq p (mem_cons_of_mem _ hp),ey,if_neg (fun I:t=q=>hq o mem_cons_self (by rw[<-I];exact hd))]
 | @skip o l l2 t e e' l' ts hd hr E hw k ih =>
  rw[ih fun p hp=>hq p (mem_cons_of_mem _ hp),ey,if_neg (fun I:t=q=>hq o mem_cons_self (by rw[<-I];exact hd))]
theorem PD.DP(hp:je ops=true)(h:PD true P G n S ops l e l2 e'):l2=[]->∀k,ops.toList.drop k=l->∀i,k<=i->i<ops.size->Gd P G n S ops e' i:=by
 induction h with
 | nil =>
  intro gz k hk i h1 h2;rw[gz,drop_eq_nil_iff] at hk;simp at hk;omega
 | @cons o l l2 t d e e' l' ts hd hr tL hw h k0 ih =>
  intro gz k hk i h1 h2;have gX:ops.toList[k]?=some o:=(by rw[<-head?_drop,hk];rfl)
  have E:ops[k]?=some o:=(by rw[<-Array.getElem?_toList];exact gX)
  have O:ops.toList.drop (k+1)=l:=(by rw[<-drop_drop,hk];rfl)
  rcases Nat.eq_or_lt_of_le h1 with rfl|h1
  ·have lW:∀j p,k<j->ops[j]?=some p->p.dst≠some t:=fun j p hj U Y=>by
    obtain⟨t',h3,h4⟩:=(px hp U).2;rw[Y] at h3;obtain rfl:=Option.some.inj h3;exact h4 k o hj E hd
   have aD:∀p∈l,p.dst≠some t:=fun p I=>by
    rw[<-O] at I;obtain⟨j,hj,rfl⟩:=mem_iff_getElem.1 I;refine lW (k+1+j) _ w7 ?_;rw[<-Array.getElem?_toList,<-getElem?_drop,getElem?_eq_getElem hj]
   have Z:look t e'=d:=(by rw[k0.later aD,ey,if_pos rfl])
   refine⟨o,t,ts,l',E,hd,by simpa using tL,fun p I=>?_,hr.keys,.inl ⟨hw,by rw[Z];exact h⟩⟩;have mO:p.1∈ts:=(by rw[<-hr.keys];exact mem_map_of_mem I)
   refine⟨mO,?_⟩;rw[hr.at mO];have M:∀(j:Nat) (p':Oper),k<=j->ops[j]?=some p'->p'.dst≠some p.1:=fun j p' hj U Y=>by
    obtain⟨e1,pZ,iP,p0⟩:=u3 (by simpa using tL) U Y mO;have:=(px hp E).1 e1 pZ iP;omega
   have h5:=k0.later (q:=p.1) (fun p' p7=>by
    rw[<-O] at p7;obtain⟨j,hj,rfl⟩:=mem_iff_getElem.1 p7;refine M (k+1+j) _ w7 ?_;rw[<-Array.getElem?_toList,<-getElem?_drop,getElem?_eq_getElem hj])
   rw[h5,ey,if_neg (fun e1:t=p.1=>M k o (Nat.le_refl _) E (by rw[<-e1];exact hd))]
  exact ih gz (k+1) O i h1 h2
 | @skip o l l2 t e e' l' ts hd hr tL hw k0 ih =>
  intro gz k hk i h1 h2;have gX:ops.toList[k]?=some o:=(by rw[<-head?_drop,hk];rfl)
  have E:ops[k]?=some o:=(by rw[<-Array.getElem?_toList];exact gX)
  have O:ops.toList.drop (k+1)=l:=(by rw[<-drop_drop,hk];rfl)
  rcases Nat.eq_or_lt_of_le h1 with rfl|h1
  ·have lW:∀j p,k<j->ops[j]?=some p->p.dst≠some t:=fun j p hj U Y=>by
    obtain⟨t',h3,h4⟩:=(px hp U).2;rw[Y] at h3;obtain rfl:=Option.some.inj h3;exact h4 k o hj E hd
   have aD:∀p∈l,p.dst≠some t:=fun p I=>by
    rw[<-O] at I;obtain⟨j,hj,rfl⟩:=mem_iff_getElem.1 I;refine lW (k+1+j) _ w7 ?_;rw[<-Array.getElem?_toList,<-getElem?_drop,getElem?_eq_getElem hj]
   have Z:look t e' = .v (.tuple #[]):=(by rw[k0.later aD,ey,if_pos rfl])
   refine⟨o,t,ts,l',E,hd,by simpa using tL,fun p I=>?_,hr.keys,.inr ⟨hw,Z⟩⟩;have mO:p.1∈ts:=(by rw[<-hr.keys];exact mem_map_of_mem I)
   refine⟨mO,?_⟩;rw[hr.at mO];have M:∀(j:Nat) (p':Oper),k<=j->ops[j]?=some p'->p'.dst≠some p.1:=fun j p' hj U Y=>by
    obtain⟨e1,pZ,iP,p0⟩:=u3 (by simpa using tL) U Y mO;have:=(px hp E).1 e1 pZ iP;omega
   have h5:=k0.later (q:=p.1) (fun p' p7=>by
    rw[<-O] at p7;obtain⟨j,hj,rfl⟩:=mem_iff_getElem.1 p7;refine M (k+1+j) _ w7 ?_;rw[<-Array.getElem?_toList,<-getElem?_drop,getElem?_eq_getElem hj])
   rw[h5,ey,if_neg (fun e1:t=p.1=>M k o (Nat.le_refl _) E (by rw[<-e1];exact hd))]
  exact ih gz (k+1) O i h1 h2
def left(N:Nat)(ld:Array Bool):Nat:=((range N).filter fun j=>!ld.getD j true).length
theorem u4{N i:Nat}(hi:i<N)(hl:ld.getD i true=false):left N (ld.setIfInBounds i true)<left N ld:=by
 unfold left;have E:i<ld.size:=by
  rcases Nat.lt_or_ge i ld.size with h|h
  ·exact h
  rw[Array.getD_eq_getD_getElem?,Array.getElem?_eq_none h] at hl;cases hl
 have h1:(range N).filter (fun j=>!(ld.setIfInBounds i true).getD j true)=((range N).filter fun j=>!ld.getD j true).filter (fun j=>!decide (j=i)):=by
  rw[filter_filter];congr 1;funext j;by_cases hj:j=i
  ·subst hj;simp[Array.getD_eq_getD_getElem?,Array.getElem?_setIfInBounds,E]
  simp[Array.getD_eq_getD_getElem?,Array.getElem?_setIfInBounds,hj,Ne.symm hj]
 rw[h1];refine length_filter_lt_length_iff_exists.2 ⟨i,mem_filter.2 ⟨mem_range.2 hi,by simp[hl]⟩,by simp⟩
theorem Di(hp:je ops=true)(hr:Region.ready .any ops ld=[]):∀j,j<ops.size->ld.getD j true=true:=fun j=>by
 induction j using Nat.strongRecOn with
 | _ j ih =>
  intro hj;cases hl:ld.getD j true with
  | true=>rfl
  | false =>
   have ho:ops[j]?=some ops[j]:=Array.getElem?_eq_getElem hj;have:j∈Region.ready .any ops ld:=mem_ready.2 ⟨hl,ops[j],ho,fun e he hb=>by
    have aD:=(px hp ho).1 e he hb;have:=ih e.on aD w7;rw[Array.getD_eq_getD_getElem?] at this |-;cases hq:ld[e.on]? with
    | none =>
     have E:ld.size<=e.on:=Array.getElem?_eq_none_iff.1 hq;rw[Array.getD_eq_getD_getElem?,Array.getElem?_eq_none w7] at hl;cases hl
    | some b=>rw[hq] at this;exact this⟩
   rw[hr] at this;cases this
theorem xZ{q:Nat}:∀{r:List (Nat×D)},¬q∈r.map (·.1)->look q r = .cx
 | [],_=>rfl
 | (p1,p2)::r,hm=>by
  rw[map_cons,mem_cons,not_or] at hm;rw[ey,if_neg (fun E=>hm.1 E.symm)];exact xZ hm.2
theorem JQ{eF:List (Nat×D)}{w1:World}{S1:List Nat}(Ng:aq S=S1)(hp:je ops=true)(H:∀i,i<ops.size->Gd P C.G n S ops eF i)(hQ:Q .normal ⟨n,eF,S⟩):∀(aP:Nat) (ld:Array Bool) (env:List (Nat×D)) (a:Act) (w:World),
  left ops.size ld<=aP->bp C ⟨n,env,S⟩ a w->Fr w1 S1 w S1->(∀q,(∀j o,ops[j]?=some o->o.dst=some q->ld.getD j true=true)->look q env=look q eF)->wpAnyH P .any ops (LQ C Q) (gJ w1 S1 []) aP ld a w:=by
 have Z:∀(ld:Array Bool) (env:List (Nat×D)) (a:Act) (w:World),bp C ⟨n,env,S⟩ a w->(∀q,(∀j o,ops[j]?=some o->o.dst=some q->ld.getD j true=true)->look q env=look q eF)->(∀j,j<ops.size->ld.getD j true=true)->LQ C Q .normal a w:=fun ld env a w hs he I =>
  .inl ⟨⟨n,eF,S⟩,⟨hs.defers,hs.size,fun q hq=>by have:=hs.env q hq;rw[he q fun j o hj _=>I j (Array.getElem?_eq_some_iff.1 hj).1] at this;exact this,hs.own,hs.fr,hs.ex,hs.dx⟩,hQ⟩
 intro aP;induction aP with
 | zero =>
  intro ld env a w hl hs hf he;have I:∀j,j<ops.size->ld.getD j true=true:=fun j hj=>by
   cases hq:ld.getD j true with
   | true=>rfl
   | false=>have:=u4 hj hq;omega
  refine⟨?_,Z ld env a w hs he I⟩;rw[eq_nil_iff_forall_not_mem];intro j hj;obtain⟨h1,o,h2,_⟩:=mem_ready.1 hj;have:=I j (Array.getElem?_eq_some_iff.1 h2).1;rw[h1] at this;cases this
 | succ aP ih =>
  intro ld env a w hl hs hf he;refine⟨fun h0=>Z ld env a w hs he (Di hp h0),fun i hi=>?_⟩;obtain⟨j6,o,O,yY⟩:=mem_ready.1 hi;have aD:=(Array.getElem?_eq_some_iff.1 O).1;obtain⟨o',t,ts,l',h1,hd,hq,j5,hk,hb⟩:=H i aD;rw[O] at h1;obtain rfl:=Option.some.inj h1;have Lp:=u4 aD j6;have ov:∀j,(ld.setIfInBounds i true).getD j true=true↔j=i\/ld.getD j true=true:=fun j=>by
   by_cases hj:j=i
   ·subst hj;have jb:j<ld.size:=by
     rcases Nat.lt_or_ge j ld.size with h|h
     ·exact h
     rw[Array.getD_eq_getD_getElem?,Array.getElem?_eq_none h] at j6;cases j6
    simp[Array.getD_eq_getD_getElem?,Array.getElem?_setIfInBounds,jb]
   simp[Array.getD_eq_getD_getElem?,Array.getElem?_setIfInBounds,hj,Ne.symm hj]
  have rF:∀{r:List (Nat×D)},(∀p∈r,look p.1 env=p.2)->gG env r:=by
   intro r;induction r with
   | nil=>intro _;trivial
   | cons p r Nh=>intro hr;exact⟨hr p mem_cons_self,Nh fun p' p7=>hr p' (mem_cons_of_mem _ p7)⟩
  have Lq:∀p∈l',look p.1 env=look p.1 l':=fun p fk=>by
   obtain⟨h2,h3⟩:=j5 p fk;rw[<-h3];refine he p.1 fun j oj hj M=>?_;obtain⟨e1,pZ,iP,p0⟩:=u3 hq hj M h2;have:=yY e1 pZ iP;rw[p0] at this;rw[Array.getD_eq_getD_getElem?] at this |-;cases hx:ld[j]? with
   | none=>rw[hx] at this;cases this
   | some b=>rw[hx] at this;exact this
  have p8:bp C ⟨n,l',S⟩ a w:=⟨hs.defers,hs.size,fun q Ap=>by
   by_cases hm:q∈ts
   ·rw[<-hk] at hm;obtain⟨p,fk,rfl⟩:=mem_map.1 hm;have:=hs.env p.1 Ap;rw[Lq p fk] at this;exact this
   have:look q l' = .cx:=by
    rw[<-hk] at hm;exact xZ hm
   rw[this];exact .cx _,hs.own,hs.fr,hs.ex,hs.dx⟩
  have E:∀(U:Act) (w':World),bp C ⟨n,(t,look t eF)::env,S⟩ U w'->Fr w (aq S) w' (aq S)->gJ w1 S1 [] w'/\wpAnyH P .any ops (LQ C Q) (gJ w1 S1 []) aP (ld.setIfInBounds i true) U w':=fun U w' lX nK=>by
   have gk:Fr w1 S1 w' S1:=hf.trans (Ng ▸ nK);refine⟨⟨fun b h2 h3=>(gk.block b h2 h3).1,fun b h2=>by cases h2⟩,ih _ _ U w' w7 lX gk fun q tM=>?_⟩;rw[ey];by_cases Y:t=q
   ·rw[if_pos Y,Y]
   rw[if_neg Y];refine he q fun j oj hj M=>?_;rcases(ov j).1 (tM j oj hj M) with rfl|h2
   ·rw[O] at hj;obtain rfl:=Option.some.inj hj;rw[hd] at M;exact absurd (Option.some.inj M) Y
   exact h2
  unfold wpOp;rw[O];rcases hb with ⟨hw,hE⟩|⟨hw,hv⟩
  ·simp only[hw C a w p8,if_true];have h2:=hE C a w (fun U w'=>bp C ⟨n,(t,look t eF)::l',S⟩ U w'/\Fr w (aq S) w' (aq S)) (LQ C Q) rfl p8 (fun y U w' hy lX _ nK=>by subst hy;exact⟨lX,nK⟩);refine .inl (Oper.wp_mono (fun U w' h3=>?_) (u0 h2));obtain⟨⟨h4,h5⟩,v,h6⟩:=h3;rw[hd] at h6;exact E U w' (hs.sO h4 h5 h6) h5
  simp only[hw C a w p8,hd];have:=hs.put (t:=t) (.v (w:=w) (L:=live C.X S) undef);rw[hv] at E;exact E _ w this (Fr.refl _ _)
theorem bt.pd(hp:je ops=true)(h:PD true P C.G n S ops ops.toList e [] e')(hQ:Q .normal ⟨n,e',S⟩):bt P C ops (aq S) [] ops.size (Array.replicate ops.size false) ⟨n,e,S⟩ Q:=fun a w hs _ _=>by
 have hg:=h.DP hp rfl 0 rfl;refine JQ rfl hp (fun i hi=>hg i (Nat.zero_le _) hi) hQ _ _ e a w ?_ hs (Fr.refl _ _) fun q hq=>?_
 ·unfold left;exact Nat.le_trans (length_filter_le _ _) cq
 refine(h.later fun o ho hd=>?_).symm;obtain⟨j,hj,rfl⟩:=mem_iff_getElem.1 ho;have E:j<ops.size:=(by simpa using hj)
 have:=hq j _ (by rw[<-Array.getElem?_toList,getElem?_eq_getElem hj]) hd;simp[Array.getD_eq_getD_getElem?,E] at this
theorem Dy{id:Nat}{E:Bool}(hm:E=true->P.follows .mixedOrders=true)(hp:E=true->je l.toArray=true)(h:PD E P C.G n S l.toArray l e [] e')(hQ:Q .normal ⟨n,e',S⟩):CD P C (.region id l.toArray E) ⟨n,e,S⟩ Q:=by
 cases E with
 | false=>exact aV (h.od (bi hQ))
 | true=>exact ez [] (hm rfl) (fun _ hb=>by cases hb) (bt.pd (hp rfl) h hQ)
end V
namespace V
open List
open Go.RowKit
variable {P:Program} {C:cj} {G:List (Nat×List Value)} {Q:Exit->St->Prop} {x:St} {ops:Array Oper} {l:List Oper} {o:Oper} {S1 T:List Nat} {aP i:Nat} {ld:Array Bool}
variable {fo:Operand} {bL:Array Operand} {ts:Array TypeId} {args:List D} {post:D->List ak->Prop}
theorem kv.same{S:List ak}:∀{a:List D},kv S a a
 | []=>trivial
 | _::_=>⟨qt,kv.same⟩
variable {α:Type} {V:α->List D->List ak->Prop}
theorem BX {f t:Nat} (ho:o.op = .call {callee:=.value fo,args:=bL,argTypes:=ts}) (hd:o.dst=some t)
  (hf:fo = .func f) (dz:∀args w,(callFunc f args).run P w = .ok (.enter f args) w) (hc:VC P G f args [] post) (hr:∀r S',post r S'->kw r=true/\∀B∈S',∀d∈B.cs,kw d=true) (ha:Looks x bL.toList args) :
  e8 P G x o [] (fun y=>∃r S',post r S'/\y=⟨x.n,(t,r)::x.env,S'++x.S⟩):=fun C a w K Q hG h hK=>by
 subst hf;have U:(execOp a.eval o).run P w = .ok (.enter f (bL.toList.map a.eval).toArray) w:=by
  unfold execOp;have e:bL.map a.eval=(bL.toList.map a.eval).toArray:=by
   rw[<-Array.toList_map,Array.toArray_toList]
  simp only[ho,resolve,Act.eval,Deferred.ofValue,Sem.run_bind,Sem.run_pure,Result.andThen_ok,invoke,e];simp[dz]
 have Y:mL G (fun _=>False) w [] args (bL.toList.map a.eval):=by
  refine⟨fun b hx=>hx.elim,fun g hg=>?_,⟨fun B O=>by simp at O,by simp[aq]⟩,(Looks.Am h ha).mono fun b _ _=>⟨rfl,fun hl=>by rcases hl with hl|hl;exact hl;simp[aq] at hl⟩⟩;rw[<-hG] at hg;exact⟨⟨Nat.lt_of_lt_of_le (h.dx g hg).1.1 h.fr.size,by simp[aq],id⟩,fun i v hi=>h.oo hg hi⟩
 unfold Oper.wp;rw[U,Oper.upon_enter,hd];refine(hc _ w _ Y).mono fun e w' ⟨v,r,S',h1,h2,h3,h4,I⟩=>?_;subst h1;obtain⟨Z,kI⟩:=hr r S' h2;have hb:∀b,b<w.heap.size->w'.heap[b]?=w.heap[b]?:=fun b hb=>(I.block b hb (by simp[aq])).1;have hn:∀b,b<w.heap.size->b∉aq S':=fun b hb=>(I.block b hb (by simp[aq])).2;have M:∀b,b<w.heap.size->¬live C.X x.S b->¬live C.X (S'++x.S) b:=fun b E h0 hl=>by
  rcases hl with hl|hl
  ·exact h0 (.inl hl)
  rw[aq,map_append,mem_append] at hl;rcases hl with hl|hl
  ·exact hn b E hl
  exact h0 (.inr hl)
 have base:bp C ⟨x.n,x.env,S'++x.S⟩ a w':=by
  refine⟨h.defers,h.size,fun t ht=>(h.env t ht).mono fun b E h0=>⟨hb b E,M b E h0⟩,⟨fun B O=>?_,?_⟩,?_,h.ex,h.dx⟩
  ·rcases mem_append.1 O with O|O
   ·obtain⟨r0,cur,r1,r2,r3,r4⟩:=h3.at_ B O;refine⟨r0,cur,r1,r2,r3,fun i hi=>?_⟩;obtain⟨u,hu,hq⟩:=r4 i hi;exact⟨u,hu,hq.flat (kI B O _ (getElem_mem hi))⟩
   obtain⟨r0,cur,r1,r2,r3,r4⟩:=h.own.at_ B O;refine⟨kS r0 (hb _ r0),cur,(hb _ r0).trans r1,r2,r3,fun i hi=>?_⟩;obtain⟨u,hu,hq⟩:=r4 i hi;exact⟨u,hu,hq.mono fun b E h0=>⟨hb b E,M b E h0⟩⟩
  ·rw[aq,map_append];refine nodup_append.2 ⟨h3.apart,h.own.apart,fun b iP c aG e=>?_⟩;subst e;obtain⟨B,O,rfl⟩:=mem_map.1 aG;exact hn _ (h.own.at_ B O).1 iP
  refine⟨I.os.trans h.fr.os,I.tape.trans h.fr.tape,I.output.trans h.fr.output,Nat.le_trans h.fr.size I.size,fun b E h0=>⟨(hb b (Nat.lt_of_lt_of_le E h.fr.size)).trans (h.fr.block b E h0).1,fun hm=>?_⟩⟩;rw[aq,map_append,mem_append] at hm;rcases hm with hm|hm
  ·exact hn b (Nat.lt_of_lt_of_le E h.fr.size) hm
  exact(h.fr.block b E h0).2 hm
 refine hK _ _ _ ⟨r,S',h2,rfl⟩ (base.put (h4.flat Z)) ⟨I.size,fun b E _=>hb b E⟩ ⟨I.os,I.tape,I.output,I.size,fun b E h0=>⟨hb b E,fun hm=>?_⟩⟩;rw[aq,map_append,mem_append] at hm;rcases hm with hm|hm
 ·exact hn b E hm
 exact h0 hm
theorem H7 {f t:Nat} (hw:bS ops x o true) (ho:o.op = .call {callee:=.value fo,args:=bL,argTypes:=ts}) (hd:o.dst=some t)
  (hf:fo = .func f) (dz:∀args w,(callFunc f args).run P w = .ok (.enter f args) w) (hc:VC P C.G f args [] post) (hr:∀r S',post r S'->kw r=true/\∀B∈S',∀d∈B.cs,kw d=true) (ha:Looks x bL.toList args)
  (K:∀r S',post r S'->OD P C ops l ⟨x.n,(t,r)::x.env,S'++x.S⟩ Q):OD P C ops (o::l) x Q:=OD.fh hw (BX ho hd hf dz hc hr ha) fun y ⟨r,S',hp,hy⟩=>hy ▸ K r S' hp
end V
namespace V
open List
open Go.RowKit
section
variable {w:World}
mutual
def jf:D->Bool
 | .v _=>true
 | .list _ cs _=>eT cs
 | .dG cs _=>eT cs
 | .agg cs=>eT cs
 | .dK cs=>eT cs
 | .dQ _ cs=>eT cs
 | .iZ _ _=>false
 | .cx=>true
def eT:List D->Bool
 | []=>true
 | d::r=>jf d&&eT r
end
theorem pg:∀{cs:List D},eT cs=true->∀i (h:i<cs.length),jf cs[i]=true
 | [],_,_,h=>by cases h
 | d::r,hn,0,_=>by rw[eT,Bool.and_eq_true] at hn;exact hn.1
 | d::r,hn,i+1,h=>by rw[eT,Bool.and_eq_true] at hn;exact pg hn.2 i pV
theorem Cf:∀{a b:List D},eT a=true->eT b=true->eT (a++b)=true
 | [],_,_,h=>h
 | d::r,b,ha,hb=>by
  rw[eT,Bool.and_eq_true] at ha;rw[cons_append,eT,Bool.and_eq_true];exact⟨ha.1,Cf ha.2 hb⟩
theorem u5{α:Type}{g:α->List D}(hg:∀a,eT (g a)=true):∀(ls:List α),eT (ls.flatMap g)=true
 | []=>rfl
 | a::ls=>by rw[flatMap_cons];exact Cf (hg a) (u5 hg ls)
theorem H8{l:List (Nat×D)}(h:(l.all fun p=>jf p.2)=true)(t:Nat):jf (look t l)=true:=by
 induction l with
 | nil=>rfl
 | cons p l ih =>
  obtain⟨i,d⟩:=p;rw[all_cons,Bool.and_eq_true] at h;rw[ey];split
  ·exact h.1
  exact ih h.2
theorem bP.qM {w':World} {L M:Nat->Prop} {Z:Nat->Prop} {d:D} {v:Value} (h:bP w L d v) (hn:jf d=true) (H:∀b,b<w.heap.size->¬L b->¬Z b->w'.heap[b]?=w.heap[b]?/\¬M b)
  (O:∀b o,Z b->w.cell? ⟨b,o,none⟩=none) (hs:w.heap.size<=w'.heap.size) (I:∀b,b<w.heap.size->¬L b->Z b->¬M b):bP w' M d v:=by
 induction h with
 | v x=>exact .v x
 | jv sz ad cap=>exact .jv sz ad cap
 | list sz cs len b o cap f hl h1 h2 hb hL hc hr ih =>
  rw[jf] at hn;by_cases hz:Z b
  ·have:¬0<cs.length:=fun h0=>by have:=hc 0 h0;rw[O _ _ hz] at this;cases this
   exact .list sz cs len b o cap f hl h1 h2 w7 (I b hb hL hz) (fun i hi=>by omega) (fun i hi=>by omega)
  have E:=H b hb hL hz;exact .list sz cs len b o cap f hl h1 h2 (kS hb E.1) E.2 (fun i hi=>(World.cell?_of_block (w:=w) (a:=⟨b,o+i,none⟩) E.1).trans (hc i hi)) (fun i hi=>ih i hi (pg hn i hi))
 | dG cs off b o f hb hL hc hr ih =>
  rw[jf] at hn;by_cases hz:Z b
  ·have:¬0<cs.length:=fun h0=>by have:=hc 0 h0;rw[O _ _ hz] at this;cases this
   exact .dG cs off b o f w7 (I b hb hL hz) (fun i hi=>by omega) (fun i hi=>by omega)
  have E:=H b hb hL hz;exact .dG cs off b o f (kS hb E.1) E.2 (fun i hi=>(World.cell?_of_block (w:=w) (a:=⟨b,o+i,none⟩) E.1).trans (hc i hi)) (fun i hi=>ih i hi (pg hn i hi))
 | agg cs vs hl hr ih=>rw[jf] at hn;exact .agg cs vs hl fun i h h'=>ih i h h' (pg hn i h)
 | dK cs vs hl hr ih=>rw[jf] at hn;exact .dK cs vs hl fun i h h'=>ih i h h' (pg hn i h)
 | dQ fn cs vs hl hr ih=>rw[jf] at hn;exact .dQ fn cs vs hl fun i h h'=>ih i h h' (pg hn i h)
 | iZ l os h=>rw[jf] at hn;cases hn
 | cx x=>exact .cx x
theorem Own.qM {w w':World} {L:Nat->Prop} {Z:Nat->Prop} {S:List ak} (h:Own w L S) (hS:∀B∈S,L B.b) (hn:∀B∈S,eT B.cs=true) (H:∀b,b<w.heap.size->¬Z b->w'.heap[b]?=w.heap[b]?)
  (M:∀b o,Z b->w.cell? ⟨b,o,none⟩=none) (hs:w.heap.size<=w'.heap.size) (E:∀B∈S,¬Z B.b):Own w' L S :=
 ⟨fun B I=>by
  obtain⟨r0,cur,r1,r2,O,U⟩:=h.at_ B I;refine⟨by omega,cur,(H _ r0 (E B I)).trans r1,r2,O,fun i hi=>?_⟩;obtain⟨u,hu,hq⟩:=U i hi;exact⟨u,hu,hq.qM (pg (hn B I) i hi) (fun b hb hl hz=>⟨H b hb hz,hl⟩) M hs (fun b _ hl _=>hl)⟩,h.apart⟩
theorem uR{b:Nat}{o:Obj}(h:w.heap[b]?=some o)(ho:o.isCells=false)(i:Nat):w.cell? ⟨b,i,none⟩=none:=by
 cases hc:w.cell? ⟨b,i,none⟩ with
 | none=>rfl
 | some v =>
  obtain⟨o',h1,h2⟩:=cells_of_cell hc;have h1:w.heap[b]?=some o':=h1;rw[h] at h1;cases h1;rw[ho] at h2;cases h2
structure EP (l:Nat) (w:World) (S:List Nat) (w':World) (S':List Nat):Prop where
 os:w'.os=w.os
 tape:w'.tape=w.tape
 output:w'.output=w.output
 size:w.heap.size<=w'.heap.size
 block:∀b,b<w.heap.size->b∉S->(b≠l->w'.heap[b]?=w.heap[b]?)/\b∉S'
structure tN (α:Type) where
 l:Nat
 os:List (Nat×Obj)
 od:List (Nat×Obj)
 enc:α->List D
 J:List α->List ak->Prop
 Jx:List α->List ak->Prop
 N:Nat
def mr(W:World)(L:Nat->Prop)(os:List (Nat×Obj)):Prop:=∀z∈os,z.1<W.heap.size/\¬L z.1/\W.heap[z.1]?=some z.2
def EQ{α:Type}(P:Program)(X0:Nat->Prop)(w0:World)(S0:List Nat)(Y:tN α):Prop :=
 ∀(pre:List α) (y:α) (Sc:List ak) (X:Nat->Prop) (W:World) (vs:List Value),
  Y.J pre Sc->pre.length<Y.N->(∀b,X b->b<W.heap.size/\b∉aq Sc)->(∀b,X0 b->X b)->(∀b,X b->X0 b\/w0.heap.size<=b\/b∈S0) ->
  Own W (live X Sc) Sc->bX W (live X Sc) (Y.enc y) vs->Fr w0 S0 W (aq Sc)->mr W (live X Sc) Y.os ->
  ∃fn tmps assign body,(Instr.yield Y.l vs.toArray).run P W = .ok (.round Y.l fn tmps assign body) W /\
   RoundIn Fence.wide 0 P Y.l fn tmps assign body W (fun e W'=>∃b iB,e = .returned (.bool b)/\Own W' (live X iB) iB/\EP Y.l W (aq Sc) W' (aq iB) /\
    (b=true->Y.J (pre++[y]) iB/\W'.heap[Y.l]?=W.heap[Y.l]?)/\(b=false->Y.Jx (pre++[y]) iB/\mr W' (live X iB) Y.od))
def iM(G:List (Nat×List Value))(w0:World)(S0:List Nat)(X0:Nat->Prop):Prop:=∀g∈G,(g.1<w0.heap.size/\g.1∉S0/\¬X0 g.1)/\∀i v,g.2[i]?=some v->iR w0 g.1 i v
def VI{α:Type}(P:Program)(G:List (Nat×List Value))(gf:FuncId)(cQ:List D)(enc:α->List D)(Sa Sp:List α->Prop)(N:Nat):Prop :=
 ∀(Y:tN α) (X0:Nat->Prop) (w0 W:World) (S0:List Nat) (Sc:List ak) (cv:List Value),Y.enc=enc->Y.N=N ->
  (∀b,X0 b->b<w0.heap.size/\b∉S0)->iM G w0 S0 X0->w0.heap.size<=Y.l->Own W (live X0 Sc) Sc->bX W (live X0 Sc) cQ cv->Fr w0 S0 W (aq Sc) ->
  mr W (live X0 Sc) Y.os->Y.J [] Sc->EQ P X0 w0 S0 Y ->
  Calls P gf (#[.func (.yield Y.l) #[] #[]]++cv.toArray) W fun e W'=>∃v iB,e = .returned v/\Own W' (live X0 iB) iB/\Fr w0 S0 W' (aq iB) /\
   ((∃xs,Sa xs/\Y.J xs iB/\mr W' (live X0 iB) Y.os)\/(∃pre,Sp pre/\Y.Jx pre iB/\mr W' (live X0 iB) Y.od))
variable {P:Program} {C:cj} {G:List (Nat×List Value)} {Q:Exit->St->Prop} {x:St} {ops:Array Oper} {o:Oper} {aP i:Nat} {ld:Array Bool} {α:Type}
def KK(P:Program)(fn:Func)(Y:tN α)(Sa Sp:List α->Prop)(e:Exit)(y:St):Prop :=
 (e = .normal\/e = .ret)/\(∃r,iA P fn y r)/\0<y.n/\∃iB,iB.Sublist y.S/\((∃xs,Sa xs/\Y.J xs iB/\look 0 y.env = .iZ Y.l Y.os)\/(∃pre,Sp pre/\Y.Jx pre iB/\look 0 y.env = .iZ Y.l Y.od))
theorem VI.body {gf:FuncId} {fn:Func} {c:Code} {n:Nat} {cQ:List D} {enc:α->List D} {Sa Sp:List α->Prop} {N:Nat} (hf:P.funcs[gf]?=some fn) (hb:fn.body=some c) (hn:fn.ntmps=n) (hl:1+cQ.length<=n)
  (h:∀(Y:tN α) M w0 S0 Z,Y.enc=enc->Y.N=N->w0.heap.size<=Y.l->EQ P M w0 S0 Y->Y.J [] Z->CD P ⟨M,w0,S0,G,[],fun _ _=>False⟩ c ⟨n,iL 0 (.iZ Y.l Y.os::cQ),Z⟩ (KK P fn Y Sa Sp)):VI P G gf cQ enc Sa Sp N:=fun Y M w0 W S0 Z cv he hN hex qT aD qU vu gk Lr hJ hY=>by
 let C:cj:=⟨M,w0,S0,G,[],fun _ _=>False⟩
 have I:bX W (live M Z) (.iZ Y.l Y.os::cQ) (.func (.yield Y.l) #[] #[]::cv):=.cons (.iZ _ _ Lr) vu;have Ls:#[Value.func (.yield Y.l) #[] #[]]++cv.toArray=(Value.func (.yield Y.l) #[] #[]::cv).toArray:=(by simp)
 rw[Ls];generalize Qd:Value.func (.yield Y.l) #[] #[]::cv=vs at I;generalize ja:D.iZ Y.l Y.os::cQ=args at I;have wg:args.length<=n:=(by rw[<-ja];simp;omega)
 have kG:vs.length=args.length:=I.1;have O:bp C ⟨n,iL 0 args,Z⟩ {tmps:=vs.toArray++Array.replicate (fn.ntmps-vs.toArray.size) undef,defers:=[]} W:=by
  refine⟨rfl,by simp[hn];omega,fun t ht=>?_,qU,gk,hex,qT⟩;simp only[oY,Nat.zero_le,if_true,Nat.sub_zero];by_cases aD:t<args.length
  ·have e1:args.getD t .cx=args[t]:=(by simp[getD,aD])
   have e2:(vs.toArray++Array.replicate (fn.ntmps-vs.toArray.size) undef).getD t undef=vs[t]'w7:=by
    rw[Array.getD_eq_getD_getElem?,Array.getElem?_append_left ee];simp[show t<vs.length by omega]
   rw[e1,e2];exact I.2 t aD w7
  have e1:args.getD t .cx = .cx:=(by simp[getD,getElem?_eq_none (show args.length<=t by omega)])
  rw[e1];exact .cx _
 rw[<-ja] at O;refine calls_of_wp hf hb (wp_mono (h Y M w0 S0 Z he hN aD hY hJ _ _ O) fun e a w' hq=>?_);rcases hq with ⟨y,h1,h2,⟨r,h3⟩,h0,E,h4,h5⟩|⟨_,hq⟩
 case inr=>exact hq.elim
 obtain⟨v,q1,q2⟩:=h3 C a w' h1;have U:(aq E).Sublist (aq y.S):=Sublist.map _ h4;have raw:∀os,look 0 y.env = .iZ Y.l os->mr w' (live M E) os:=fun os ho=>by
  have hv:=h1.env 0 h0;rw[ho] at hv;generalize a.tmps.getD 0 undef=u at hv;cases hv with
  | iZ _ _ hz=>exact fun z Ni=>by obtain⟨z1,z2,z3⟩:=hz z Ni;exact⟨z1,fun hl=>z2 (hl.imp id fun q=>U.subset q),z3⟩
 have key:a.defers=[]/\∃v,(results fn a.tmps).run P w' = .ok v w'/\∃v' E,Ending.returned v = .returned v'/\Own w' (live M E) E/\Fr w0 S0 w' (aq E)/\((∃xs,Sa xs/\Y.J xs E/\mr w' (live M E) Y.os)\/(∃pre,Sp pre/\Y.Jx pre E/\mr w' (live M E) Y.od)) :=
  ⟨h1.defers,v,q2,v,E,rfl,h1.own.sub h4,⟨h1.fr.os,h1.fr.tape,h1.fr.output,h1.fr.size,fun b jd hn=>⟨(h1.fr.block b jd hn).1,fun q=>(h1.fr.block b jd hn).2 (U.subset q)⟩⟩,
   h5.imp (fun ⟨xs,s1,s2,s3⟩=>⟨xs,s1,s2,raw _ s3⟩) (fun ⟨pre,s1,s2,s3⟩=>⟨pre,s1,s2,raw _ s3⟩)⟩
 rcases h2 with rfl|rfl<;>exact key
theorem bp.back{a:Act}{w':World}(h:bp C x a w){Sf R S':List ak}(hp:x.S.Perm (Sf++R))(h3:Own w' (live (fun b=>C.X b\/b∈aq R) S') S')(I:Fr w (aq Sf) w' (aq S')):bp C ⟨x.n,x.env,S'++R⟩ a w':=by
 have hb:(aq x.S).Perm (aq Sf++aq R):=(by have:=hp.map ak.b;simpa[aq] using this)
 have hL:=oc (X:=C.X) hp;have hnd:(aq Sf++aq R).Nodup:=hb.nodup_iff.1 h.own.apart;obtain⟨n1,n2,n3⟩:=nodup_append.1 hnd;have O:∀b,b∈aq R->b<w.heap.size:=fun b Z=>by
  obtain⟨B,M,rfl⟩:=mem_map.1 Z;exact(h.own.at_ B (hp.symm.subset (mem_append_right _ M))).1
 have U:live C.X (S'++R)=live (fun b=>C.X b\/b∈aq R) S':=oc (Perm.refl _);have H:∀b,b<w.heap.size->¬live C.X x.S b->w'.heap[b]?=w.heap[b]?/\¬live C.X (S'++R) b:=fun b aD hn=>by
  rw[hL] at hn;have E:b∉aq Sf:=fun hm=>hn (.inr hm);obtain⟨q1,q2⟩:=I.block b aD E;refine⟨q1,fun hl=>?_⟩;rw[U] at hl;rcases hl with hl|hl
  ·exact hn (.inl hl)
  exact q2 hl
 refine⟨h.defers,h.size,fun t ht=>(h.env t ht).mono H,⟨fun B M=>?_,?_⟩,?_,h.ex,h.dx⟩
 ·rcases mem_append.1 M with M|M
  ·have:=h3.at_ B M;rw[<-U] at this;exact this
  obtain⟨r0,cur,r1,r2,r3,r4⟩:=h.own.at_ B (hp.symm.subset (mem_append_right _ M));have tG:B.b∈aq R:=mem_map.2 ⟨B,M,rfl⟩;have E:B.b∉aq Sf:=fun hm=>n3 B.b hm B.b tG rfl;have hh:=(I.block B.b r0 E).1;refine⟨kS r0 hh,cur,hh.trans r1,r2,r3,fun i hi=>?_⟩;obtain⟨u,hu,hq⟩:=r4 i hi;exact⟨u,hu,hq.mono H⟩
 ·show(aq (S'++R)).Nodup;have:aq (S'++R)=aq S'++aq R:=(by simp[aq])
  rw[this];refine nodup_append.2 ⟨h3.apart,n2,fun b iP c aG he=>?_⟩;subst he;have E:b∉aq Sf:=fun hm=>n3 b hm b aG rfl;exact(I.block b (O b aG) E).2 iP
 refine⟨I.os.trans h.fr.os,I.tape.trans h.fr.tape,I.output.trans h.fr.output,Nat.le_trans h.fr.size I.size,fun b Y hn=>?_⟩;obtain⟨q1,q2⟩:=h.fr.block b Y hn;have fD:b∉aq Sf:=fun hm=>q2 (hb.symm.subset (mem_append_left _ hm));have tO:b∉aq R:=fun hm=>q2 (hb.symm.subset (mem_append_right _ hm));obtain⟨q3,q4⟩:=I.block b (Nat.lt_of_lt_of_le Y h.fr.size) fD;refine⟨q3.trans q1,fun hm=>?_⟩;have:aq (S'++R)=aq S'++aq R:=(by simp[aq])
 rw[this] at hm;rcases mem_append.1 hm with hm|hm
 ·exact q4 hm
 exact tO hm
end
section
variable {P:Program} {C:cj} {G:List (Nat×List Value)} {Q:Exit->St->Prop} {x:St} {ops:Array Oper} {l:List Oper} {o:Oper}
variable {L:Nat->Prop} {α:Type} {sz n:Nat} {k1 k2:IntKind}
theorem bX.flatten{w:World}{us vs:List Value}(h:bX w L (us.map .v) vs):vs=us:=by
 refine ext_getElem (by simpa using h.1) fun i h1 h2=>?_;have:=h.2 i (by simpa using h2) h1;simp only[getElem_map] at this;exact this.gu
theorem VP.IU{f:FuncId}{vs:List Value}{v:Value}(h:∀w:World,(∀g∈G,∀(i:Nat) (u:Value),g.2[i]?=some u->iR w g.1 i u)->Calls P f vs.toArray w fun e w'=>e = .returned v/\Below w.heap.size w w'):VP P G f (vs.map .v) (.v v):=fun X w us hp=>by
 have E:us=vs:=hp.args.flatten;subst E;refine(h w fun g hg i u hi=>(hp.dx g hg).2 i u hi).mono fun e w' ⟨h1,h2⟩=>?_;refine⟨v,.v v,[],h1,⟨rfl,rfl⟩,⟨fun B I=>by simp at I,by simp[aq]⟩,.v _,⟨h2.os,h2.tape,h2.output,h2.size,fun b hb _=>⟨h2.block b hb,by simp[aq]⟩⟩⟩
theorem H9{g:α->List D}{a:α}{z:Value}{w:World}(lY:g a=z.cells.toList.map .v)(hg:∀a,(g a).length=sz)(dy:z.cells.size=sz)(I:0<sz):bX w L ((replicate n a).flatMap g) (madeCells z.cells (n*sz)).toList:=by
 have hl:((replicate n a).flatMap g).length=n*sz:=(by rw[de hg,length_replicate])
 refine⟨by rw[Array.length_toList,size_madeCells,hl],fun i h1 h2=>?_⟩;rw[hl] at h1;have hi:i/sz<(replicate n a).length:=(by rw[length_replicate];exact Nat.div_lt_of_lt_mul (by rw[Nat.mul_comm];exact h1))
 have hj:i % sz<sz:=Nat.mod_lt _ I;have E:i % sz<z.cells.size:=(by omega)
 have M:i/sz*sz+i % sz=i:=(by rw[Nat.mul_comm];exact Nat.div_add_mod i sz)
 have hd:(g (replicate n a)[i/sz])[i % sz]?=some (.v z.cells[i % sz]):=by
  rw[getElem_replicate,lY,getElem?_map,Array.getElem?_toList,Array.getElem?_eq_getElem E];rfl
 have O:=qE hg hi hd;rw[M,getElem?_eq_getElem (by rw[hl];exact h1)] at O;rw[Option.some.inj O];have U:(madeCells z.cells (n*sz)).toList[i]=z.cells[i % sz]:=by
  simp only[madeCells,Array.getElem_toList,Array.getElem_map,Array.getElem_range,dy];exact getElem!_pos z.cells (i % sz) E
 rw[U];exact .v _
theorem Ia {g:α->List D} {a:α} {y y':Operand} {t e tt bytes:Nat} {z:Value} (lY:g a=z.cells.toList.map .v) (hg:∀a,(g a).length=sz) (ho:o.op = .makeSlice t y y') (hd:o.dst=some tt)
  (ht:P.underlying t=some (.slice e)) (hi:(P.info? e).map (fun i=>(i.zero,i.size,i.bytes))=some (some z,sz,bytes)) (dy:z.cells.size=sz) (I:0<sz)
  (hy:aO x y = .v (.int k1 (n:Int))) (M:aO x y' = .v (.int k2 (n:Int))) (hb:bytes*n<=281474976710656) (O:n<=maxLen) (hne:isMap e=false:=by rfl) :
  e8 P G x o [] (fun s=>∃b,s=⟨x.n,(tt,.v (.slice (some ⟨b,0,none⟩) (replicate n a).length n))::x.env,⟨b,e,n*sz,(replicate n a).flatMap g⟩::x.S⟩):=fun C a' w K Q hG h hK=>by
 obtain⟨i,U,nI,Y,nJ⟩:=sw hi;have E:(n:Int)<=9223372036854775807:=(by simp only[maxLen] at O;omega)
 have Z:(i.bytes:Int)*(n:Int)<=281474976710656:=by
  rw[nJ];have h:((bytes*n:Nat):Int)<=281474976710656:=(by omega)
  rwa [Int.natCast_mul] at h
 have hr:=run_make (P:=P) (w:=w) t e i z ht U nI k1 k2 n n w7 (Int.le_refl _) Z E;simp only[Int.toNat_natCast,Y] at hr;unfold Oper.wp;have:(execOp a'.eval o).run P w = .ok (.value (.slice (some ⟨w.heap.size,0,none⟩) n n)) (w.alloc (.cells (madeCells z.cells (n*sz)) e)):=by
  unfold execOp;simp only[ho,h.flat hy,h.flat M,Sem.run_bind,hr,Result.andThen_ok,Sem.run_pure]
 rw[this,Oper.upon_value,hd];have Nj:(replicate n a).length=n:=length_replicate;exact hK _ _ _ ⟨w.heap.size,rfl⟩ (h.new (hne:=hne) (ds:=(replicate n a).flatMap g) (size:=n*sz) (H9 lY hg dy I) (size_madeCells _ _) (fun L=>by rw[Nj];exact .v _)) (jz.alloc _ _) (Fr.alloc _ _ _)
theorem CV {g:α->List D} {a:α} {y O:Operand} {t e tt bytes:Nat} {z:Value} (lY:g a=z.cells.toList.map .v) (hg:∀a,(g a).length=sz) (hw:bS ops x o true) (ho:o.op = .makeSlice t y O) (hd:o.dst=some tt)
  (ht:P.underlying t=some (.slice e)) (hi:(P.info? e).map (fun i=>(i.zero,i.size,i.bytes))=some (some z,sz,bytes)) (dy:z.cells.size=sz) (E:0<sz)
  (hy:aO x y = .v (.int k1 (n:Int))) (I:aO x O = .v (.int k2 (n:Int))) (hb:bytes*n<=281474976710656) (M:n<=maxLen)
  (K:∀b,OD P C ops l ⟨x.n,(tt,.v (.slice (some ⟨b,0,none⟩) (replicate n a).length n))::x.env,⟨b,e,n*sz,(replicate n a).flatMap g⟩::x.S⟩ Q) (hne:isMap e=false:=by rfl):OD P C ops (o::l) x Q :=
 OD.fh hw (Ia (hne:=hne) lY hg ho hd ht hi dy E hy I hb M) fun y ⟨b,hy⟩=>hy ▸ K b
end
section
variable {P:Program} {C:cj} {G:List (Nat×List Value)} {Q:Exit->St->Prop} {x y:St} {ops:Array Oper} {o:Oper} {ro:Nat} {α:Type}
variable {fn:Func} {S:List ak} {post:D->List ak->Prop}
def CI(P:Program)(C:cj)(ro:Nat)(c:Code)(x:St)(Q:Exit->St->Prop):Prop:=∀a w,bp C x a w->c.wpIn (Fence.wide.inRound ro) 0 P (LQ C Q) a w
def yZ:List Tmp->List D->List (Nat×D)->List (Nat×D)
 | t::ts,d::ds,env=>yZ ts ds ((t,d)::env)
 | _,_,env=>env
theorem bp.params{n:Nat}{S:List ak}:∀{ts:List Tmp} {ds:List D} {vs:List Value} {env:List (Nat×D)} {tm:Array Value} {w:World},bp C ⟨n,env,S⟩ {tmps:=tm,defers:=[]} w->bX w (live C.X S) ds vs->ds.length=ts.length->bp C ⟨n,yZ ts ds env,S⟩ {tmps:=(ts.zip vs).foldl (fun tm (t,v)=>tm.setIfInBounds t v) tm,defers:=[]} w
 | [],ds,vs,env,tm,w,h,_,hl=>by
  have:ds=[]:=length_eq_zero_iff.1 hl;subst this;exact h
 | t::ts,[],_,_,_,_,_,_,hl=>by cases hl
 | t::ts,d::ds,[],_,_,_,_,hr,_=>by simp[bX] at hr
 | t::ts,d::ds,v::vs,env,tm,w,h,hr,hl=>by
  obtain⟨h0,h1⟩:=hr.tail;exact bp.params (env:=(t,d)::env) (tm:=tm.setIfInBounds t v) (h.put h0) h1 (by simpa using hl)
def JR(J Jx:List α->List ak->Prop)(jc:Code)(xs:List α):Exit->St->Prop
 | .normal,z=>∃S',S'.Sublist z.S/\J xs S'
 | .ret,z=>jc = .ret/\∃S',S'.Sublist z.S/\Jx xs S'
 | .exit i,z=>jc = .exit i/\∃S',S'.Sublist z.S/\Jx xs S'
 | _,_=>False
def qN(P:Program)(fn:Func)(post:D->List ak->Prop)(y:St):Prop :=
 (y.env.all fun p=>jf p.2)=true/\(∀B∈y.S,eT B.cs=true)/\∃r S',S'.Sublist y.S/\iA P fn y r/\jf r=true/\post r S'
def NR(e:Exit):Prop:=e = .normal\/e = .ret
def KL(N:Exit->Prop)(P:Program)(fn:Func)(post:D->List ak->Prop)(e:Exit)(y:St):Prop:=N e/\qN P fn post y
def mark(D:Nat):Deferred:={target:=.collected D,args:=#[]}
def pB(P:Program)(fn:Func)(post:D->List ak->Prop)(X:Nat->Prop)(w0:World)(S0:List Nat):Act->World->Prop:=fun a w =>
 ∃(Dd:Nat) (C':cj) (y:St),C'.X=X/\a.defers=[mark Dd]/\Fr w0 S0 C'.w0 C'.S0/\w0.heap.size<=Dd/\Dd<C'.w0.heap.size/\Dd∉C'.S0/\C'.w0.heap[Dd]?=some (.deferred (some []))/\bp C' y a w/\qN P fn post y
theorem bp.Dj {a:Act} {w:World} (h:bp C y a w) {l:Nat} {U o2:Obj} (hl:w.heap[l]?=some U) (ho:U.isCells=false) (M:l∉aq y.S) (Y:¬C.X l) (hn:(y.env.all fun p=>jf p.2)=true) (hS:∀B∈y.S,eT B.cs=true)
  (I:iM G (w.putObj l o2) (aq y.S) C.X) (mK:Act->World->Prop):bp ⟨C.X,w.putObj l o2,aq y.S,G,a.defers,mK⟩ y a (w.putObj l o2):=by
 have aD:l<w.heap.size:=(Array.getElem?_eq_some_iff.1 hl).1;have E:(w.putObj l o2).heap.size=w.heap.size:=World.putObj_size;have H:∀b,b≠l->(w.putObj l o2).heap[b]?=w.heap[b]?:=fun b hb=>World.putObj_heap_other hb;refine⟨rfl,h.size,fun t ht=>(h.env t ht).qM (Z:=fun b=>b=l) (H8 hn t) (fun b _ hb hz=>⟨H b hz,hb⟩) (fun b i hz=>by subst hz;exact uR hl ho i) (by rw[E];exact Nat.le_refl _) (fun b _ hb _=>hb),
  h.own.qM (Z:=fun b=>b=l) (fun B O=>.inr (mem_map.2 ⟨B,O,rfl⟩)) hS (fun b _ hz=>H b hz) (fun b i hz=>by subst hz;exact uR hl ho i) (by rw[E];exact Nat.le_refl _) (fun B O e=>M (e ▸ mem_map.2 ⟨B,O,rfl⟩)),
  Fr.refl _ _,fun b hb=>?_,I⟩
 show b<(w.putObj l o2).heap.size/\b∉aq y.S;rw[E];exact⟨Nat.lt_of_lt_of_le (h.ex b hb).1 h.fr.size,(h.fr.block b (h.ex b hb).1 (h.ex b hb).2).2⟩
def wh(N:Exit->Prop)(C:cj)(Q:Exit->St->Prop):Exit->Act->World->Prop:=fun e a w=>(∃y,bp C y a w/\Q e y)\/(N e/\C.mK a w)
def oJ(P:Program)(C:cj)(c:Code)(x:St)(Q:Exit->St->Prop):Prop:=∀a w,bp C x a w->c.wp P (wh NR C Q) a w
theorem oJ.seq{c d:Code}(h:CD P C c x (fun e y=>e = .normal/\oJ P C d y Q)):oJ P C (.seq c d) x Q:=fun a w hs=>wp_seq (wp_mono (h a w hs) fun e E w' h=>by
 rcases h with ⟨y,h1,rfl,h2⟩|⟨rfl,h⟩
 ·exact h2 E w' h1
 exact .inr ⟨.inr rfl,h⟩)
theorem VC.JS {f:FuncId} {c:Code} {n:Nat} {args:List D} (hf:P.funcs[f]?=some fn) (hb:fn.body=some c) (hn:fn.ntmps=n) (hl:args.length<=n)
  (h:∀X w0 S0,oJ P ⟨X,w0,S0,G,[],pB P fn post X w0 S0⟩ c ⟨n,iL 0 args,S⟩ (Body P fn post)):VC P G f args S post:=fun X w vs hp=>by
 have kG:vs.length=args.length:=hp.args.1;let C:cj:=⟨X,w,aq S,G,[],pB P fn post X w (aq S)⟩
 have U:bp C ⟨n,iL 0 args,S⟩ {tmps:=vs.toArray++Array.replicate (fn.ntmps-vs.toArray.size) undef,defers:=[]} w:=by
  refine⟨rfl,by simp[hn];omega,fun t ht=>?_,hp.own,Fr.refl _ _,hp.ex,hp.dx⟩;simp only[oY,Nat.zero_le,if_true,Nat.sub_zero];by_cases aD:t<args.length
  ·have e1:args.getD t .cx=args[t]:=(by simp[getD,aD])
   have e2:(vs.toArray++Array.replicate (fn.ntmps-vs.toArray.size) undef).getD t undef=vs[t]'w7:=by
    rw[Array.getD_eq_getD_getElem?,Array.getElem?_append_left ee];simp[show t<vs.length by omega]
   rw[e1,e2];exact hp.args.2 t aD w7
  have e1:args.getD t .cx = .cx:=(by simp[getD,getElem?_eq_none (show args.length<=t by omega)])
  rw[e1];exact .cx _
 refine callsIn_wide.1 (callsIn_of_wp_marks (F:=Fence.wide) (n:=0) hf hb trivial (wpIn_wide.2 (wp_mono (h X w (aq S) _ _ U) fun e a w' hq=>?_)) rfl);rcases hq with ⟨y,h1,h2,r,S',Y,h4,h5⟩|⟨hN,O,C',y,hX,Nk,Z,Qe,Nl,Nn,No,h1,Aq,rG,r,S',Y,h4,Qf,h5⟩
 ·obtain⟨v,q1,q2⟩:=h4 C a w' h1;have E:(aq S').Sublist (aq y.S):=Sublist.map _ Y;have M:LeavesInM Fence.wide 0 P fn a.tmps (fun e w'=>∃v r S',e = .returned v/\post r S'/\Own w' (live X S') S'/\bP w' (live X S') r v/\Fr w (aq S) w' (aq S')) a.defers .returning w':=by
   rw[show a.defers=[] from h1.defers];exact⟨v,q2,v,r,S',rfl,h5,h1.own.sub Y,q1.mono fun b _ hn=>⟨rfl,fun hl=>hn (hl.imp id fun q=>E.subset q)⟩,
    ⟨h1.fr.os,h1.fr.tape,h1.fr.output,h1.fr.size,fun b I hn=>⟨(h1.fr.block b I hn).1,fun q=>(h1.fr.block b I hn).2 (E.subset q)⟩⟩⟩
  rcases h2 with rfl|rfl<;>exact M
 suffices M:LeavesInM Fence.wide 0 P fn a.tmps (fun e w'=>∃v r S',e = .returned v/\post r S'/\Own w' (live X S') S'/\bP w' (live X S') r v/\Fr w (aq S) w' (aq S')) a.defers .returning w' by
  rcases hN with rfl|rfl<;>exact M
 rw[Nk];obtain⟨f1,f2⟩:=h1.fr.block O Nl Nn;have hD:w'.heap[O]?=some (.deferred (some [])):=f1.trans No;have Np:¬C'.X O:=fun hx=>by rw[hX] at hx;have:=(hp.ex O hx).1;omega
 have rH:=h1.Dj (G:=[]) (o2:=.deferred none) hD rfl f2 Np Aq rG (fun g hg=>by cases hg) (fun _ _=>False);obtain⟨v,q1,q2⟩:=h4 _ a _ rH;have E:(aq S').Sublist (aq y.S):=Sublist.map _ Y;refine⟨by simp,.inl ⟨O,_,rfl,run_takeDeferred hD,v,q2,v,r,S',rfl,h5,?_,?_,?_⟩⟩
 ·have:=rH.own.sub Y;rw[show(⟨C'.X,w'.putObj O (.deferred none),aq y.S,[],a.defers,fun _ _=>False⟩:cj).X=X from hX] at this;exact this
 ·rw[<-hX];exact q1.mono fun b _ hn=>⟨rfl,fun hl=>hn (hl.imp id fun q=>E.subset q)⟩
 have k:=Z.trans h1.fr;exact⟨k.os,k.tape,k.output,by rw[World.putObj_size];exact k.size,fun b I hn=>by
  obtain⟨k1,k2⟩:=k.block b I hn;exact⟨(World.putObj_heap_other w7).trans k1,fun q=>k2 (E.subset q)⟩⟩
theorem Cg(w:World)(o:Obj)(S:List Nat)(hS:∀b∈S,b<w.heap.size):Fr w S (w.alloc o) S:=⟨rfl,rfl,rfl,by rw[World.size_alloc];omega,fun b hb hn=>⟨Below.heap_alloc w o b hb,hn⟩⟩
theorem iM.on{w w':World}{S S':List Nat}{X E:Nat->Prop}(h:iM G w S X)(hf:∀b,b<w.heap.size->b∉S->¬X b->w'.heap[b]?=w.heap[b]?/\b∉S'/\¬E b):iM G w' S' E:=fun g hg=>by
 obtain⟨⟨h1,h2,h3⟩,h4⟩:=h g hg;obtain⟨f1,f2,f3⟩:=hf g.1 h1 h2 h3;exact⟨⟨kS h1 f1,f2,f3⟩,fun i v hi=>(h4 i v hi).on f1⟩
def wi(N:Exit->Prop)(P:Program)(C:cj)(b rest:Code)(x:St)(Q:Exit->St->Prop):Prop:=∀a w,bp C x a w->b.wp P (Exit.then (rest.wp P (wh N C Q)) (wh N C Q)) a w
theorem oJ.Lt{b c d:Code}(h:CD P C d x (fun e y=>e = .normal/\wi NR P C b c y Q)):oJ P C (.seq (.seq d b) c) x Q:=fun a w hs =>
 wp_seq (wp_seq (wp_mono (h a w hs) fun e E w' h=>by
  rcases h with ⟨y,h1,rfl,h2⟩|⟨rfl,h⟩
  ·exact h2 E w' h1
  exact .inr ⟨.inr rfl,h⟩))
theorem wi.range {N_:Exit->Prop} (hN:N_ .ret) {X:Nat->Prop} {w0:World} {S0:List Nat} {g:Operand} {ps:Array Tmp} {assign body:Code} {gf:FuncId} {cQ:List D} {enc:α->List D} {Sa Sp:List α->Prop} {N id:Nat} {rest:Code}
  (hg:aO x g = .dQ (.func gf) cQ) (eg:∀args w,(callFunc gf args).run P w = .ok (.enter gf args) w) (Nq:VI P G gf cQ enc Sa Sp N) (fM:∀y,(enc y).length=ps.toList.length) (hne:∀y,eT (enc y)=true)
  (jc:Code) (qa:jc = .ret\/jc = .exit id) (J Jx:List α->List ak->Prop) (ER:∀pre E,J pre E->∀B∈E,eT B.cs=true) (y4:∀pre E,Jx pre E->∀B∈E,eT B.cs=true) (h0:J [] x.S)
  (AQ:List α->α->List ak->St->Prop) (Nr:∀pre y E z,AQ pre y E z->(z.env.all fun p=>jf p.2)=true/\∀B∈z.S,eT B.cs=true)
  (IV:∀X' W' S' l pre y E,J pre E->pre.length<N->CI P ⟨X',W',S',G,[],fun _ _=>False⟩ l assign ⟨x.n,yZ ps.toList (enc y) x.env,E⟩ (fun e z=>e = .normal/\AQ pre y E z))
  (KM:∀X' W' S' l pre y E z,J pre E->pre.length<N->AQ pre y E z->CI P ⟨X',W',S',G,[],fun _ _=>False⟩ l body z (JR J Jx jc (pre++[y])))
  (KN:∀W' S' D E,((∃xs,Sa xs/\J xs E)\/(jc = .exit id/\∃pre,Sp pre/\Jx pre E))->CD P ⟨X,W',S',G,[mark D],fun _ _=>False⟩ rest ⟨x.n,x.env,E⟩ (KL N_ P fn post))
  (Lu:jc = .ret->∀pre E,Sp pre->Jx pre E->qN P fn post ⟨x.n,x.env,E⟩):wi N_ P ⟨X,w0,S0,G,[],pB P fn post X w0 S0⟩ (.block id (.rangeFunc g ps assign body)) rest x Q:=fun a w hs=>by
 have hex:∀b,X b->b<w.heap.size/\b∉aq x.S:=fun b hb=>⟨Nat.lt_of_lt_of_le (hs.ex b hb).1 hs.fr.size,(hs.fr.block b (hs.ex b hb).1 (hs.ex b hb).2).2⟩
 have qT:iM G w (aq x.S) X:=iM.on (w:=w0) (S:=S0) (X:=X) hs.dx fun b h1 h2 h3=>⟨(hs.fr.block b h1 h2).1,(hs.fr.block b h1 h2).2,h3⟩
 have y5:∀b∈aq x.S,b<w.heap.size:=fun b hb=>by
  obtain⟨B,hB,rfl⟩:=mem_map.1 hb;exact(hs.own.at_ B hB).1
 -- the OM value
 obtain⟨lb,Ns,wj⟩:∃lb:List Value,a.eval g = .func (.func gf) #[] lb.toArray/\bX w (live X x.S) cQ lb:=by
  have hv:=hs.eval g;rw[hg] at hv;generalize a.eval g=u at hv;cases hv with
  | dQ _ _ vs hl hr=>exact⟨vs,rfl,hl,hr⟩
 refine(wp_block (wpIn_wide.1 (wpIn_rangeFunc (F:=Fence.wide) (n:=0) fun ES _=>?_)));obtain⟨rec,nD⟩:∃rec:LoopState->Option Code->Loop,rec=fun st pe=>{state:=st,pending:=pe,fn:=ES,tmps:=a.tmps,params:=ps,assign,body,defers:=w.heap.size}:=⟨_,rfl⟩
 obtain⟨W1,tP⟩:∃W1,(w.alloc (.deferred (some []))).alloc (.loop (rec .ready none))=W1:=⟨_,rfl⟩
 have ET:W1.heap[w.heap.size+1]?=some (.loop (rec .ready none)):=by
  rw[<-tP];have:=World.alloc_heap_new (w.alloc (.deferred (some []))) (.loop (rec .ready none));rwa [World.size_alloc] at this
 have EU:W1.heap[w.heap.size]?=some (.deferred (some [])):=by
  rw[<-tP];exact(Below.heap_alloc _ _ _ cq).trans (World.alloc_heap_new w _)
 have EV:Fr w (aq x.S) W1 (aq x.S):=by
  rw[<-tP];exact(Cg w _ _ y5).trans (Cg _ _ _ fun b hb=>by rw[World.size_alloc];have:=y5 b hb;omega)
 have Ar:∀b,b<w.heap.size->W1.heap[b]?=w.heap[b]?:=fun b hb=>by
  rw[<-tP,Below.heap_alloc _ _ _ (by rw[World.size_alloc];omega),Below.heap_alloc _ _ _ hb]
 have KO:Own W1 (live X x.S) x.S:=⟨fun B hB=>by
  obtain⟨r0,cur,r1,r2,r3,r4⟩:=hs.own.at_ B hB;exact⟨Nat.lt_of_lt_of_le r0 EV.size,cur,(Ar _ r0).trans r1,r2,r3,fun i hi=>by
   obtain⟨u,hu,hq⟩:=r4 i hi;exact⟨u,hu,hq.mono fun b hb hn=>⟨Ar b hb,hn⟩⟩⟩,hs.own.apart⟩
 have EW:∀b,w.heap.size<=b->¬live X x.S b:=fun b hb hl=>by
  rcases hl with hl|hl
  ·have:=(hex b hl).1;omega
  have:=y5 b hl;omega
 let Y:tN α:=⟨w.heap.size+1,[(w.heap.size+1,.loop (rec .ready none)),(w.heap.size,.deferred (some []))],[(w.heap.size+1,.loop (rec .done (some jc))),(w.heap.size,.deferred (some []))],enc,J,Jx,N⟩
 have KQ:mr W1 (live X x.S) Y.os:=fun z hz=>by
  rcases mem_cons.1 hz with rfl|hz
  ·exact⟨(Array.getElem?_eq_some_iff.1 ET).1,EW _ cq,ET⟩
  rw[mem_singleton] at hz;subst hz;exact⟨(Array.getElem?_eq_some_iff.1 EU).1,EW _ (Nat.le_refl _),EU⟩
 -- the ON gH,later
 have DQ:∀(W:World) (Xr:Nat->Prop) (E:List ak),Fr w (aq x.S) W (aq E)->(∀b,Xr b->X b\/w.heap.size<=b\/b∈aq x.S)->∀t,t<x.n->bP W (live Xr E) (look t x.env) (a.tmps.getD t undef):=fun W Xr E hf hx t ht =>
  (hs.env t ht).mono fun b hb hn=>by
   have rG:b∉aq x.S:=fun h=>hn (.inr h);obtain⟨k1,k2⟩:=hf.block b hb rG;refine⟨k1,fun hl=>?_⟩;rcases hl with hl|hl
   ·rcases hx b hl with h|h|h
    ·exact hn (.inl h)
    ·omega
    exact rG h
   exact k2 hl
 -- what follows
 have after:∀(I:World) (E:List ak),Fr w (aq x.S) I (aq E)->Own I (live X E) E->I.heap[w.heap.size]?=some (.deferred (some []))->w.heap.size∉aq E ->
   bp ⟨X,I,aq E,G,[mark w.heap.size],fun _ _=>False⟩ ⟨x.n,x.env,E⟩ {a with defers:=[mark w.heap.size]++a.defers} I/\∀a' w' y,bp ⟨X,I,aq E,G,[mark w.heap.size],fun _ _=>False⟩ y a' w'->qN P fn post y->pB P fn post X w0 S0 a' w':=fun I E hf ho hk Nt=>by
  refine⟨⟨by show[mark w.heap.size]++a.defers=_;rw[show a.defers=[] from hs.defers];rfl,hs.size,fun t ht=>DQ I X E hf (fun b hb=>.inl hb) t ht,ho,Fr.refl _ _,fun b hb=>⟨Nat.lt_of_lt_of_le (hex b hb).1 hf.size,(hf.block b (hex b hb).1 (hex b hb).2).2⟩,iM.on qT fun b h1 h2 h3=>⟨(hf.block b h1 h2).1,(hf.block b h1 h2).2,h3⟩⟩,fun a' w' y h1 h2=>?_⟩;exact⟨w.heap.size,_,y,rfl,h1.defers,hs.fr.trans hf,hs.fr.size,(Array.getElem?_eq_some_iff.1 hk).1,Nt,hk,h1,h2⟩
 refine⟨w.heap.size+1,[mark w.heap.size],W1,{target:=.fn (.func gf) lb.toArray,args:=#[.func (.yield (w.heap.size+1)) #[] #[]]},W1,gf,#[.func (.yield (w.heap.size+1)) #[] #[]]++lb.toArray,W1,?_,?_,fun _ _=>trivial,?_,fun hc=>(by cases hc),?_⟩
 ·rw[<-tP,nD];exact run_enterLoop_outer _ _ _ _ _
 ·simp only[resolve,Ns];simp[go_sem]
 ·simp[invoke,go_sem,eg]
 refine callsIn_wide.2 ((Nq Y X w W1 (aq x.S) x.S lb rfl rfl hex qT (by simp[Y]) KO (wj.mono fun b hb hn=>⟨Ar b hb,hn⟩) EV KQ h0 ?_).mono ?_)
 ·
  intro pre y E Xr W vs hJ hN Lw Qg As qU vu gk M;have hl:W.heap[w.heap.size+1]?=some (.loop (rec .ready none)):=(M _ mem_cons_self).2.2;have hk:W.heap[w.heap.size]?=some (.deferred (some [])):=(M _ (mem_cons_of_mem _ mem_cons_self)).2.2;have EX:¬live Xr E (w.heap.size+1):=(M _ mem_cons_self).2.1;have EY:¬live Xr E w.heap.size:=(M _ (mem_cons_of_mem _ mem_cons_self)).2.1;have tQ:w.heap.size<W.heap.size:=(Array.getElem?_eq_some_iff.1 hk).1;have Ao:w.heap.size+1<W.heap.size:=(Array.getElem?_eq_some_iff.1 hl).1;have kG:vs.length=ps.toList.length:=(by rw[vu.1];exact fM y)
  have hy:=run_yield (P:=P) (args:=vs.toArray) hl (by rw[nD];simp at kG |-;exact kG);rw[nD] at hy;refine⟨ES,_,assign,body,hy,roundIn_of_wpIn trivial ?_⟩;have KR:iM G W (aq E) Xr:=iM.on qT fun b h1 h2 h3=>⟨(gk.block b h1 h2).1,(gk.block b h1 h2).2,fun hx=>by
   rcases As b hx with h|h|h
   ·exact h3 h
   ·omega
   exact h2 h⟩
  have KS:bp ⟨Xr,W,aq E,G,[],fun _ _=>False⟩ ⟨x.n,x.env,E⟩ {tmps:=a.tmps,defers:=[]} W:=⟨rfl,hs.size,fun t ht=>DQ W Xr E gk As t ht,qU,Fr.refl _ _,Lw,KR⟩
  have Lz:(ps.zip vs.toArray).foldl (fun t (p,v)=>t.setIfInBounds p v) a.tmps=(ps.toList.zip vs).foldl (fun t (p,v)=>t.setIfInBounds p v) a.tmps:=by
   rw[<-Array.foldl_toList];simp
  refine wpIn_mono (IV Xr W (aq E) _ pre y E hJ hN _ _ (by
   have:=KS.params vu (fM y);rw[<-Lz] at this;exact this)) fun e a1 w1 hq=>?_
  rcases hq with ⟨z,lj,rfl,EZ⟩|⟨_,hq⟩
  case inr=>exact hq.elim
  obtain⟨Aq,rG⟩:=Nr _ _ _ _ EZ;obtain⟨f1,f2⟩:=lj.fr.block (w.heap.size+1) Ao (fun h=>EX (.inr h));have Au:w1.heap[w.heap.size+1]?=some (.loop (rec .ready none)):=f1.trans hl;have gz:w1.heap.size=(w1.putObj (w.heap.size+1) (.loop {rec .ready none with state:=.busy})).heap.size:=(by rw[World.putObj_size])
  have E0:¬Xr (w.heap.size+1):=fun h=>EX (.inl h);have O:∀(u:World) (ob:Obj) b,b≠w.heap.size+1->(u.putObj (w.heap.size+1) ob).heap[b]?=u.heap[b]?:=fun u ob b hb=>World.putObj_heap_other hb;obtain⟨W2,nL⟩:∃W2,w1.putObj (w.heap.size+1) (.loop {rec .ready none with state:=.busy})=W2:=⟨_,rfl⟩
  have Dz:=lj.Dj (G:=G) (o2:=.loop {rec .ready none with state:=.busy}) Au rfl f2 E0 Aq rG (iM.on qT fun b h1 h2 h3=>by
   obtain⟨k1,k2⟩:=gk.block b h1 h2;obtain⟨k3,k4⟩:=lj.fr.block b (Nat.lt_of_lt_of_le h1 gk.size) k2;refine⟨(O _ _ _ w7).trans (k3.trans k1),k4,fun hx=>?_⟩;rcases As b hx with h|h|h
   ·exact h3 h
   ·omega
   exact h2 h) (fun _ _=>False)
  rw[lj.defers,nL] at Dz;have gz:W2.heap[w.heap.size+1]?=some (.loop {rec .ready none with state:=.busy}):=(by rw[<-nL];exact World.putObj_heap_same (Array.getElem?_eq_some_iff.1 Au).1)
  have ow:∀(a3:Act) (W3:World) (y3:St) (S':List ak) (jump:Option Code),bp ⟨Xr,W2,aq z.S,G,[],fun _ _=>False⟩ y3 a3 W3->S'.Sublist y3.S->(∀B∈S',eT B.cs=true) ->
    ∃I,(Instr.endRound (w.heap.size+1) jump).run P W3 = .ok (.bool jump.isNone) I/\I.heap[w.heap.size+1]?=some (.loop (rec (if jump.isNone then .ready else .done) jump))/\I.heap[w.heap.size]?=some (.deferred (some [])) /\
     Own I (live Xr S') S'/\EP (w.heap.size+1) W (aq E) I (aq S')/\¬live Xr S' (w.heap.size+1)/\¬live Xr S' w.heap.size:=fun a3 W3 y3 S' jump h3 U Av=>by
   have Aw:(aq S').Sublist (aq y3.S):=Sublist.map _ U;have sX:W2.heap.size=w1.heap.size:=(by rw[<-nL,World.putObj_size])
   obtain⟨g1,g2⟩:=h3.fr.block (w.heap.size+1) (Array.getElem?_eq_some_iff.1 gz).1 f2;have Ax:W3.heap[w.heap.size+1]?=some (.loop {rec .ready none with state:=.busy}):=g1.trans gz;have y6:=(Array.getElem?_eq_some_iff.1 Ax).1;have mz:=run_endRound (P:=P) jump Ax;obtain⟨k1,k2⟩:=lj.fr.block w.heap.size tQ (fun h=>EY (.inr h));obtain⟨k3,k4⟩:=h3.fr.block w.heap.size (by rw[sX];exact Nat.lt_of_lt_of_le tQ lj.fr.size) k2;have fg:W2.heap[w.heap.size]?=some (.deferred (some [])):=(by rw[<-nL];exact(O _ _ _ w7).trans (k1.trans hk))
   have E1:w.heap.size+1∉aq S':=fun h=>g2 (Aw.subset h);refine⟨_,mz,?_,(O _ _ _ w7).trans (k3.trans fg),?_,?_,?_,?_⟩
   ·rw[nD];exact World.putObj_heap_same y6
   ·exact(h3.own.sub U).qM (Z:=fun b=>b=w.heap.size+1) (fun B hB=>.inr (mem_map.2 ⟨B,hB,rfl⟩)) Av (fun b _ hb=>O _ _ _ hb) (fun b i hz=>by subst hz;exact uR Ax rfl i) (by rw[World.putObj_size];exact Nat.le_refl _) (fun B hB e=>E1 (e ▸ mem_map.2 ⟨B,hB,rfl⟩))
   ·refine⟨h3.fr.os.trans ?_,h3.fr.tape.trans ?_,h3.fr.output.trans ?_,?_,fun b hb hn=>?_⟩
    ·rw[<-nL];exact lj.fr.os
    ·rw[<-nL];exact lj.fr.tape
    ·rw[<-nL];exact lj.fr.output
    ·rw[World.putObj_size];exact Nat.le_trans lj.fr.size (by rw[<-sX];exact h3.fr.size)
    obtain⟨m1,m2⟩:=lj.fr.block b hb hn;obtain⟨m3,m4⟩:=h3.fr.block b (by rw[sX];exact Nat.lt_of_lt_of_le hb lj.fr.size) m2;refine⟨fun DR=>(O _ _ _ DR).trans (m3.trans ?_),fun h=>m4 (Aw.subset h)⟩;rw[<-nL];exact(O _ _ _ DR).trans m1
   ·rintro(h|h)
    ·exact E0 h
    exact E1 h
   rintro(h|h)
   ·exact EY (.inl h)
   exact k4 (Aw.subset h)
  refine⟨W2,by rw[<-nL];exact run_beginRound Au (by rw[nD]),wpIn_mono (KM Xr W2 (aq z.S) _ pre y E z hJ hN EZ _ _ Dz) fun e a3 W3 hq=>?_⟩;rcases hq with ⟨y3,h3,hq⟩|⟨_,hq⟩
  case inr=>exact hq.elim
  cases e with
  | normal =>
   obtain⟨S',U,hj⟩:=hq;obtain⟨I,r1,r2,r3,r4,r5,r6,r7⟩:=ow a3 W3 y3 S' none h3 U (ER _ _ hj);exact⟨_,I,r1,true,S',rfl,r4,r5,fun _=>⟨hj,r2.trans hl.symm⟩,(fun h=>by cases h)⟩
  | ret =>
   obtain⟨hc,S',U,hj⟩:=hq;obtain⟨I,r1,r2,r3,r4,r5,r6,r7⟩:=ow a3 W3 y3 S' (some .ret) h3 U (y4 _ _ hj);refine⟨_,I,r1,false,S',rfl,r4,r5,(fun h=>by cases h),fun _=>⟨hj,fun z hz=>?_⟩⟩;rcases mem_cons.1 hz with rfl|hz
   ·exact⟨(Array.getElem?_eq_some_iff.1 r2).1,r6,by rw[hc];exact r2⟩
   rw[mem_singleton] at hz;subst hz;exact⟨(Array.getElem?_eq_some_iff.1 r3).1,r7,r3⟩
  | exit i =>
   obtain⟨hc,S',U,hj⟩:=hq;obtain⟨I,r1,r2,r3,r4,r5,r6,r7⟩:=ow a3 W3 y3 S' (some (.exit i)) h3 U (y4 _ _ hj);refine⟨_,I,r1,false,S',rfl,r4,r5,(fun h=>by cases h),fun _=>⟨hj,fun z hz=>?_⟩⟩;rcases mem_cons.1 hz with rfl|hz
   ·exact⟨(Array.getElem?_eq_some_iff.1 r2).1,r6,by rw[hc];exact r2⟩
   rw[mem_singleton] at hz;subst hz;exact⟨(Array.getElem?_eq_some_iff.1 r3).1,r7,r3⟩
  | goto t=>exact hq.elim
  | panic ch=>exact hq.elim
  | outgrown=>exact hq.elim
 -- behind the iterator
 have iu:∀(W':World) (E:List ak) (st:LoopState) (pe:Option Code),Own W' (live X E) E->Fr w (aq x.S) W' (aq E)->(∀B∈E,eT B.cs=true)->st≠.busy ->
   mr W' (live X E) [(w.heap.size+1,.loop (rec st pe)),(w.heap.size,.deferred (some []))] ->
   ∃I,(Instr.endLoop (w.heap.size+1)).run P W' = .ok pe I/\bp ⟨X,I,aq E,G,[mark w.heap.size],fun _ _=>False⟩ ⟨x.n,x.env,E⟩ {a with defers:=[mark w.heap.size]++a.defers} I /\
    ∀a' w' y,bp ⟨X,I,aq E,G,[mark w.heap.size],fun _ _=>False⟩ y a' w'->qN P fn post y->pB P fn post X w0 S0 a' w':=fun W' E st pe ho hf Av lm M=>by
  obtain⟨r1,r2,r3⟩:=M _ mem_cons_self;obtain⟨k1,k2,k3⟩:=M _ (mem_cons_of_mem _ mem_cons_self);have r1:w.heap.size+1<W'.heap.size:=r1;have r3:W'.heap[w.heap.size+1]?=some (.loop (rec st pe)):=r3;have mz:=run_endLoop (P:=P) r3 (by rw[nD];exact lm);have j4:(rec st pe).pending=pe:=(by rw[nD])
  rw[j4] at mz;refine⟨_,mz,after _ E ⟨hf.os,hf.tape,hf.output,by rw[World.putObj_size];exact hf.size,fun b hb hn=>⟨(World.putObj_heap_other w7).trans (hf.block b hb hn).1,(hf.block b hb hn).2⟩⟩ ?_ ((World.putObj_heap_other w7).trans k3) (fun h=>k2 (.inr h))⟩;exact ho.qM (Z:=fun b=>b=w.heap.size+1) (fun B hB=>.inr (mem_map.2 ⟨B,hB,rfl⟩)) Av (fun b _ hb=>World.putObj_heap_other hb) (fun b i hz=>by subst hz;exact uR r3 rfl i) (by rw[World.putObj_size];exact Nat.le_refl _) (fun B hB e=>r2 (.inr (by rw[<-e];exact mem_map.2 ⟨B,hB,rfl⟩)))
 have hR:∀(a':Act) (I:World) (E:List ak),bp ⟨X,I,aq E,G,[mark w.heap.size],fun _ _=>False⟩ ⟨x.n,x.env,E⟩ a' I->(∀a' w' y,bp ⟨X,I,aq E,G,[mark w.heap.size],fun _ _=>False⟩ y a' w'->qN P fn post y->pB P fn post X w0 S0 a' w') ->
   ((∃xs,Sa xs/\J xs E)\/(jc = .exit id/\∃pre,Sp pre/\Jx pre E))->rest.wp P (wh N_ ⟨X,w0,S0,G,[],pB P fn post X w0 S0⟩ Q) a' I:=fun a' I E h1 h2 h3 =>
  wp_mono (KN I (aq E) w.heap.size E h3 _ _ h1) fun e a2 w2 hq=>by
   rcases hq with ⟨y,q1,hn,q2⟩|⟨_,hq⟩
   ·exact .inr ⟨hn,h2 _ _ _ q1 q2⟩
   exact hq.elim
 rintro e W' ⟨v,E,rfl,qU,gk,h⟩;rcases h with ⟨xs,Nu,hj,M⟩|⟨pre,E2,hj,M⟩
 ·obtain⟨I,q1,q2,q3⟩:=iu W' E .ready none qU gk (ER _ _ hj) cq M;refine⟨none,I,q1,?_⟩;exact hR _ I E q2 q3 (.inl ⟨xs,Nu,hj⟩)
 obtain⟨I,q1,q2,q3⟩:=iu W' E .done (some jc) qU gk (y4 _ _ hj) cq M;refine⟨some jc,I,q1,?_⟩;rcases qa with qa|qa
 ·rw[qa];refine wpIn_ret ?_;exact .inr ⟨hN,q3 _ _ _ q2 (Lu qa pre E E2 hj)⟩
 rw[qa];refine wpIn_exit ?_;have:=hR _ I E q2 q3 (.inr ⟨qa,pre,E2,hj⟩);simpa[Exit.inBlock,Exit.then] using this
theorem Ch{b e size:Nat}{cs cs':List D}(E:(⟨b,e,size,cs⟩:ak)∈S)(U:kv S cs cs')(hne:isMap e=false:=by rfl):View S (.v (.pointer (some ⟨b,0,none⟩))) (.dG cs' 0):=fun X Y w v I M ho h=>by
 rw[h.gu];obtain⟨v1,v2⟩:=U.spec;obtain⟨r0,cur,r1,r2,Z,O⟩:=ho.at_ _ E;rw[jl hne] at r1;refine .dG cs' 0 b 0 (fun i=>cur.getD i undef) r0 (fun hy=>M _ (I _ hy) (mem_map.2 ⟨_,E,rfl⟩)) (fun i hi=>?_) (fun i hi=>?_)
 ·obtain⟨u,hu,_⟩:=O i (by show i<cs.length;omega);rw[Nat.zero_add,ng r1 hu];simp[hu]
 obtain⟨u,hu,hq⟩:=O i (by show i<cs.length;omega);simp only[Array.getD_eq_getD_getElem?,hu,Option.getD_some];exact v2 i w7 hi X Y w u I M ho hq
theorem Ci{f:Fn}{ds E:List D}(h:kv S ds E):View S (.dQ f ds) (.dQ f E):=fun X Y w v M O ho hr=>by
 obtain⟨h1,h2⟩:=h.spec;cases hr with
 | dQ _ _ vs hl I=>exact .dQ f E vs w7 fun i q1 q2=>h2 i w7 q1 X Y w _ M O ho (I i w7 q2)
variable {S1 T:List Nat} {aP i:Nat} {ld:Array Bool}
theorem Ib {t m cap e sz:Nat} {Sq R:List ak} {cs:List D} {ad:Option Addr} (ht:V.look t x.env = .v (.slice ad m cap)) (ho:bV e sz cs m ad cap Sq) (hl:cs.length=m*sz) (hp:x.S.Perm (Sq++R))
  (k:AD P C ops S1 T aP ld ⟨x.n,(t,.list sz cs m)::x.env,R⟩ Q) (hne:isMap e=false:=by rfl):AD P C ops S1 T aP ld x Q :=
 sg (Wk.yI (hne:=hne) ht ho hl hp) (fun b hb=>by
  obtain⟨B,hB,rfl⟩:=mem_map.1 hb;exact mem_map.2 ⟨B,hp.symm.subset (mem_append_right _ hB),rfl⟩) k
def bN(P:Program)(fn:Func)(post:D->List ak->Prop)(Ay:List PanicEntry->Prop)(e:Exit)(y:St):Prop:=Body P fn post e y\/∃ch,e = .panic ch/\Ay ch
theorem NP.qK{E:List PanicEntry->Prop}:NP (bN P fn post E):=fun I y t hq=>by
 rcases hq with hq|hq
 ·rcases hq.1 with h|h<;>cases h
 exact .inr hq
end
section
variable {P:Program} {C:cj} {G:List (Nat×List Value)} {Q:Exit->St->Prop} {x:St} {ops:Array Oper} {o:Oper} {n aP t:Nat} {e:List (Nat×D)} {S:List ak} {S1 T:List Nat} {ld:Array Bool} {d:D} {kd:Rd}
theorem aj (i:Nat) (hi:ops[i]?=some o) (h:bH P C.G ⟨n,e,S⟩ o kd d) (K:bt P C ops S1 T aP (ld.setIfInBounds i true) ⟨n,(t,d)::e,S⟩ Q) (hs:Region.noSelect ops=true:=by kernel_rfl) (hf:Region.free .any ops ld i=true:=by kernel_rfl) (hr:(Region.ready .any ops ld).contains i=true:=by kernel_rfl)
  (hp:NP Q:=by repeat (first|exact NP.norm|exact NP.body|exact NP.sI|exact NP.qK|apply NP.tl|apply NP.sJ|apply NP.then|apply NP.cut|apply NP.inBlock|apply NP.round)) (hw:bS ops ⟨n,e,S⟩ o true:=by first|exact mc rfl|exact pp rfl rfl rfl lk w6) (hd:o.dst=some t:=by exact rfl)
  (hk:Safe ⟨n,e,S⟩ T kd:=by first|exact trivial|exact gM (k0:=0) rfl rfl|exact gM (k0:=1) rfl rfl|exact gM (k0:=2) rfl rfl|exact gM (k0:=3) rfl rfl|exact gM (k0:=4) rfl rfl|exact gM (k0:=5) rfl rfl):bt P C ops S1 T (aP+1) ld ⟨n,e,S⟩ Q :=
 bt.take hi hs hf hr hp hw hd h hk K
theorem bR (i:Nat) (hi:ops[i]?=some o) (h:bH P C.G ⟨n,e,S⟩ o kd d) (K:AD P C ops S1 T aP (ld.setIfInBounds i true) ⟨n,(t,d)::e,S⟩ Q) (hs:Region.noSelect ops=true:=by kernel_rfl) (hf:Region.free .any ops ld i=true:=by kernel_rfl) (hr:(Region.ready .any ops ld).contains i=true:=by kernel_rfl)
  (hp:NP Q:=by repeat (first|exact NP.norm|exact NP.body|exact NP.sI|exact NP.qK|apply NP.tl|apply NP.sJ|apply NP.then|apply NP.cut|apply NP.inBlock|apply NP.round)) (hw:bS ops ⟨n,e,S⟩ o true:=by first|exact mc rfl|exact pp rfl rfl rfl lk w6) (hd:o.dst=some t:=by exact rfl)
  (hk:Safe ⟨n,e,S⟩ T kd:=by first|exact trivial|exact gM (k0:=0) rfl rfl|exact gM (k0:=1) rfl rfl|exact gM (k0:=2) rfl rfl|exact gM (k0:=3) rfl rfl|exact gM (k0:=4) rfl rfl|exact gM (k0:=5) rfl rfl) (Ak:kd≠.fA:=by intro h;cases h):AD P C ops S1 T (aP+1) ld ⟨n,e,S⟩ Q :=
 AD.take hi hs hf hr hp hw hd h hk Ak K
theorem at_{i:Nat}(hi:ops[i]?=some o)(h:bH P C.G ⟨n,e,S⟩ o kd d)(K:AD P C ops S1 T aP (ld.setIfInBounds i true) ⟨n,(t,d)::e,S⟩ Q)(hw:bS ops ⟨n,e,S⟩ o true:=by first|exact mc rfl|exact pp rfl rfl rfl lk w6)(hd:o.dst=some t:=by exact rfl):ea P C ops S1 T aP ld ⟨n,e,S⟩ Q i :=
 oW hi hw hd h K
theorem bk (i:Nat) (hi:ops[i]?=some o) (K:bt P C ops S1 T aP (ld.setIfInBounds i true) ⟨n,(t,.v (.tuple #[]))::e,S⟩ Q) (hw:bS ops ⟨n,e,S⟩ o false:=by first|exact cz rfl rfl rfl lk w6|exact yl (b:=false) rfl rfl rfl lk) (hs:Region.noSelect ops=true:=by kernel_rfl) (hf:Region.free .any ops ld i=true:=by kernel_rfl) (hr:(Region.ready .any ops ld).contains i=true:=by kernel_rfl)
  (hp:NP Q:=by repeat (first|exact NP.norm|exact NP.body|exact NP.sI|exact NP.qK|apply NP.tl|apply NP.sJ|apply NP.then|apply NP.cut|apply NP.inBlock|apply NP.round)) (hd:o.dst=some t:=by exact rfl):bt P C ops S1 T (aP+1) ld ⟨n,e,S⟩ Q :=
 bt.ki hi hs hf hr hp hw hd K
theorem Es{l:List (Nat×D)}(h:look t l=d:=by (repeat (first|exact jQ|(apply kV;focus (first|rfl|(simp;done)|(congr 2;omega)))|(apply jO;focus rfl)));done):look t l=d:=h
end
section
variable {P:Program} {C:cj} {G:List (Nat×List Value)} {Q:Exit->St->Prop} {x:St} {ops:Array Oper} {l:List Oper} {o:Oper} {n:Nat} {e:List (Nat×D)} {S:List ak} {S1 T:List Nat} {aP i:Nat} {ld:Array Bool}
variable {α:Type} {b sz:Nat} {l':List (Nat×D)} {bL:Array Operand} {t:TypeId} {fo:Operand} {ts:Array TypeId} {args:List D} {B:ak} {ps:List (Nat×Operand)} {d:D}
theorem af{a b:α}(h:a=b:=by kernel_rfl):a=b:=h
theorem aF{a:Nat}(h:Nat.ble a b=true:=by exact rfl):a<=b:=Nat.le_of_ble_eq_true h
theorem ay(h:o.guard=none:=by exact rfl):bS ops x o true:=mc h
theorem dH(h:bS ops x o true:=by exact pp rfl rfl rfl lk w6):bS ops x o true:=h
theorem E3{pd zs ds:List D}(ha:(pd.all fun d=>Nat.beq (cellsOf d).length sz)=true:=by exact rfl)(hl:Nat.beq zs.length (pd.length*sz)=true:=by exact rfl)(ja:pd.flatMap cellsOf=ds:=by exact rfl):gR (fun i=>some (i*sz,sz)) zs (aU 0 pd)=some ds:=Hr ha hl ja
theorem Az(h:NP Q:=by repeat (first|exact NP.body|exact NP.sI|exact NP.Dv|exact NP.qK|apply NP.tl|apply NP.sJ|apply NP.then|apply NP.cut|apply NP.inBlock|apply NP.round)):NP Q:=h
theorem cG{a b:List α}(h:a.Sublist b:=by repeat (first|exact Sublist.refl _|apply Sublist.cons_cons|apply Sublist.cons)):a.Sublist b:=h
theorem eB{a b:List α}(h:a.Sublist b:=by repeat (first|exact Sublist.refl _|apply Sublist.cons)):a.Sublist b:=h
theorem j7{a b:List α}(h:a.Sublist b:=by repeat (first|exact Sublist.refl _|exact nil_sublist _|apply Sublist.cons_cons|apply Sublist.cons)):a.Sublist b:=h
theorem AA{a b:List Nat}(h:∀x∈a,x∈b:=by intro b hb;simp[aq,St.put] at hb |-;try first|exact hb|omega|simp[hb]|(rcases hb with hb|hb<;>simp[hb])|(rcases hb with hb|hb|hb<;>simp[hb])):∀x∈a,x∈b:=h
theorem bj(h:gG e l':=by repeat (first|exact trivial|refine⟨lk,?_⟩)):gG e l':=h
theorem dL(h:gG e l':=by repeat (first|exact trivial|refine⟨Es,?_⟩)):gG e l':=h
theorem tT{bL:List Operand}{ds:List D}(h:gT x bL ds:=by repeat (first|exact trivial|refine⟨ot,?_⟩|refine⟨aN,?_⟩|refine⟨nh,?_⟩)):gT x bL ds:=h
theorem aK(l':List (Nat×D))(S':List ak)(K:Q .normal ⟨n,l',S'⟩)(hS:S=S':=by exact rfl)(h:gG e l':=by exact bj):OD P C ops [] ⟨n,e,S⟩ Q:=bc (Wk.aR rfl hS h) (bi K)
theorem cg(l':List (Nat×D))(S':List ak)(K:AD P C ops S1 T aP ld ⟨n,l',S'⟩ Q)(hS:S=S':=by exact rfl)(h:gG e l':=by exact bj)(hb:aq S'=aq S:=by exact rfl):AD P C ops S1 T aP ld ⟨n,e,S⟩ Q:=jr (Wk.aR rfl hS h) hb K
theorem bU {f t:Nat} {r:D} (dz:∀args w,(callFunc f args).run P w = .ok (.enter f args) w) (hc:VP P C.G f args r) (K:OD P C ops l (x.put t r) Q)
  (ho:o.op = .call {callee:=.value fo,args:=bL,argTypes:=ts}:=by exact rfl) (hw:bS ops x o true:=by exact ay) (hd:o.dst=some t:=by exact rfl) (hf:fo = .func f:=by exact rfl) (ha:gT x bL.toList args:=by exact tT):OD P C ops (o::l) x Q:=qx hw ho hd hf dz hc ha K
theorem bY {f t:Nat} {r:D} (dz:∀args w,(callFunc f args).run P w = .ok (.enter f args) w) (hc:VP P C.G f args r) (K:AD P C ops S1 T aP (ld.setIfInBounds i true) (x.put t r) Q)
  (hi:ops[i]?=some o:=by exact rfl) (ho:o.op = .call {callee:=.value fo,args:=bL,argTypes:=ts}:=by exact rfl) (hw:bS ops x o true:=by exact ay) (hd:o.dst=some t:=by exact rfl) (hf:fo = .func f:=by exact rfl) (ha:gT x bL.toList args:=by exact tT):ea P C ops S1 T aP ld x Q i:=qq hi hw ho hd hf dz hc ha K
theorem fB (k t sz m:Nat) {cap:Nat} {cs:List D} (K:OD P C ops l ⟨x.n,(t,.list sz cs m)::x.env,x.S.eraseIdx k⟩ Q) (hk:x.S[k]?=some B:=by exact rfl) (ht:V.look t x.env = .v (.slice (some ⟨b,0,none⟩) m cap):=by exact lk) (hb:B.b=b:=by exact rfl) (cL:B.cs=cs:=by exact rfl) (hl:cs.length=m*sz:=by exact rfl) (h1:m<=cap:=by exact Nat.le_refl _) (h2:cap<=maxLen:=by decide)
  (hne:isMap B.e=false:=by exact rfl):OD P C ops l x Q:=CT (hne:=hne) hk ht hb cL hl h1 h2 K
theorem bz (k t sz m:Nat) {cap:Nat} {cs:List D} (K:AD P C ops S1 T aP ld ⟨x.n,(t,.list sz cs m)::x.env,x.S.eraseIdx k⟩ Q) (hk:x.S[k]?=some B:=by exact rfl) (ht:V.look t x.env = .v (.slice (some ⟨b,0,none⟩) m cap):=by exact lk) (hb:B.b=b:=by exact rfl) (cL:B.cs=cs:=by exact rfl) (hl:cs.length=m*sz:=by exact rfl) (h1:m<=cap:=by exact Nat.le_refl _) (h2:cap<=maxLen:=by decide)
  (hne:isMap B.e=false:=by exact rfl):AD P C ops S1 T aP ld x Q:=IR (hne:=hne) hk ht hb cL hl h1 h2 K
theorem E4{pl:List (Nat×D)}(h:ik x ps pl:=by repeat (first|exact trivial|refine⟨rfl,ot,?_⟩|refine⟨rfl,aN,?_⟩|refine⟨rfl,nh,?_⟩)):ik x ps pl:=h
theorem fa{c:Code}{ι:Type}{y:St}(I:ι->St->Prop)(μ:ι->Nat)(i:ι)(h0:I i y)(hw:Wk x y)(round:∀i y,I i y->CD P C c y (vl I μ i Q)):CD P C (.loop c) x Q:=gS hw (CJ I μ i h0 round)
theorem dM {e':TypeId} {tt len:Nat} {z:Value} (pl:List (Nat×D)) (jA:List Value) (ds:List D) (hz:∀w,(zeroValue e').run P w = .ok z w) (E:∀w,(underlying t).run P w = .ok (.slice e') w) (hs:∀w,(sizeOf e').run P w = .ok sz w)
  (k:∀b,OD P C ops l ⟨x.n,(tt,.v (.slice (some ⟨b,0,none⟩) len len))::x.env,⟨b,e',ds.length,ds⟩::x.S⟩ Q) (ho:o.op = .buildSlice t len ps.toArray:=by exact rfl) (hw:bS ops x o true:=by exact ay) (gw:o.dst=some tt:=by exact rfl) (hl:Nat.ble 1 (len*sz)=true:=by exact rfl) (gz:Nat.ble (len*sz) (2 ^ 24)=true:=by exact rfl)
  (dy:(Array.range (len*sz)).map (fun i=>z.cells[i % z.cells.size]!)=jA.toArray:=by kernel_rfl) (fM:ik x ps pl:=by exact E4) (hj:pl.all (fun p=>jW p.2)=true:=by exact rfl) (hd:gR (fun i=>some (i*sz,sz)) (jA.map .v) pl=some ds:=by exact E3) (hne:isMap e'=false:=by exact rfl):OD P C ops (o::l) x Q:=IQ (hne:=hne) hw ho gw hz E hs hl gz dy fM hj hd k
theorem bA {e':TypeId} {tt len:Nat} {z:Value} (pl:List (Nat×D)) (jA:List Value) (ds:List D) (hz:∀w,(zeroValue e').run P w = .ok z w) (E:∀w,(underlying t).run P w = .ok (.slice e') w) (hs:∀w,(sizeOf e').run P w = .ok sz w)
  (k:∀b,AD P C ops S1 T aP (ld.setIfInBounds i true) ⟨x.n,(tt,.v (.slice (some ⟨b,0,none⟩) len len))::x.env,⟨b,e',ds.length,ds⟩::x.S⟩ Q) (hi:ops[i]?=some o:=by exact rfl) (ho:o.op = .buildSlice t len ps.toArray:=by exact rfl) (hw:bS ops x o true:=by exact ay) (gw:o.dst=some tt:=by exact rfl) (hl:Nat.ble 1 (len*sz)=true:=by exact rfl) (gz:Nat.ble (len*sz) (2 ^ 24)=true:=by exact rfl)
  (dy:(Array.range (len*sz)).map (fun i=>z.cells[i % z.cells.size]!)=jA.toArray:=by kernel_rfl) (fM:ik x ps pl:=by exact E4) (hj:pl.all (fun p=>jW p.2)=true:=by exact rfl) (hd:gR (fun i=>some (i*sz,sz)) (jA.map .v) pl=some ds:=by exact E3) (hne:isMap e'=false:=by exact rfl):ea P C ops S1 T aP ld x Q i:=G2 (hne:=hne) hi hw ho gw hz E hs hl gz dy fM hj hd k
theorem bn (k:Nat) (cs':List D) {o' m:Nat} {y z:Operand} (hn:∀w,(sizeOf t).run P w = .ok m w) (K:OD P C ops l ⟨x.n,x.env,x.S.set k {B with cs:=cs'}⟩ Q) (ho:o.op = .store t y z:=by exact rfl) (hw:bS ops x o true:=by exact ay) (gw:o.dst=none:=by exact rfl) (hy:aO x y = .v (.pointer (some ⟨b,o',none⟩)):=by exact ot)
  (hk:x.S[k]?=some B:=by exact rfl) (hb:B.b=b:=by exact rfl) (hz:aO x z=d:=by first|exact ot|exact aN) (hj:jW d=true:=by exact rfl) (h1:(cellsOf d).all one=true:=by exact rfl) (lT:(cellsOf d).length=m:=by exact rfl) (hl:Nat.ble (o'+m) B.cs.length=true:=by exact rfl) (cL:eR B.cs o' (cellsOf d)=cs':=by exact rfl) (hne:isMap B.e=false:=by exact rfl):OD P C ops (o::l) x Q:=OD.store (hne:=hne) hw ho gw hy hk hb hz hj h1 hn lT hl cL K
theorem aR (k:Nat) (cs':List D) {o' m:Nat} {y z:Operand} (hn:∀w,(sizeOf t).run P w = .ok m w) (K:AD P C ops S1 T aP (ld.setIfInBounds i true) ⟨x.n,x.env,x.S.set k {B with cs:=cs'}⟩ Q) (hi:ops[i]?=some o:=by exact rfl) (ho:o.op = .store t y z:=by exact rfl) (hw:bS ops x o true:=by exact ay) (gw:o.dst=none:=by exact rfl) (hy:aO x y = .v (.pointer (some ⟨b,o',none⟩)):=by exact ot)
  (hk:x.S[k]?=some B:=by exact rfl) (hb:B.b=b:=by exact rfl) (hz:aO x z=d:=by first|exact ot|exact aN) (hj:jW d=true:=by exact rfl) (h1:(cellsOf d).all one=true:=by exact rfl) (lT:(cellsOf d).length=m:=by exact rfl) (hl:Nat.ble (o'+m) B.cs.length=true:=by exact rfl) (cL:eR B.cs o' (cellsOf d)=cs':=by exact rfl) (hT:∀b∈T,b∈aq (x.S.eraseIdx k):=by exact AA) (hne:isMap B.e=false:=by exact rfl):ea P C ops S1 T aP ld x Q i:=ea.store (hne:=hne) hi hw ho gw hy hk hb hz hj h1 hn lT hl cL hT K
theorem aa {t:Nat} {z:Operand} (K:OD P C ops l ⟨n,(t,d)::e,S⟩ Q) (ho:o.op = .move z\/o.op = .assign z:=by first|exact .inl rfl|exact .inr rfl) (hz:aO ⟨n,e,S⟩ z=d:=by first|exact ot|exact aN|exact nh|exact mh)
  (hw:bS ops ⟨n,e,S⟩ o true:=by first|exact mc rfl|exact pp rfl rfl rfl lk w6) (hd:o.dst=some t:=by exact rfl):OD P C ops (o::l) ⟨n,e,S⟩ Q:=gE hw hd (bg ho hz) K
theorem en{fn:Func}{t:Nat}{post:D->List ak->Prop}(hr:fn.results = #[.tmp t])(K:post d [])(ht:Nat.blt t x.n=true:=by exact rfl)(hd:look t x.env=d:=by exact lk):∃r S',S'.Sublist x.S/\iA P fn x r/\post r S':=⟨d,[],nil_sublist _,eC hr (cw (Nat.le_of_ble_eq_true ht) hd),K⟩
end
section
variable {P:Program} {C:cj} {G:List (Nat×List Value)} {Q:Exit->St->Prop} {x:St} {ops:Array Oper} {l l2:List Oper} {o:Oper} {n t:Nat} {d:D} {e e' l':List (Nat×D)} {S:List ak} {ts:List Nat} {kd:Rd} {c:Bool}
variable {zs:List Value} {pl lr e2:List (Nat×D)} {k sz id:Nat} {ds args:List D} {d0 r:D} {y fo:Operand} {ps:List (Nat×Operand)} {bL:Array Operand} {tt:Array TypeId} {p q:Prop} {b:Bool} {S':List ak} {S1 T:List Nat} {ld oL:Array Bool}
class Fo (P:Program) (s i:Nat) (off:outParam Nat):Prop where h:tI P s i off=true
class Sl (P:Program) (t:Nat) (sz:outParam Nat):Prop where h:tJ P t sz=true
class Sz (P:Program) (t:Nat) (sz:outParam Nat):Prop where h:mM P t sz=true
def qO(P:Program)(t:Nat):Option (List Value):=(P.info? t).bind fun i=>i.zero.map fun z=>z.cells.toList
theorem yp(h:qO P t=some zs):∃z,(∀w,(zeroValue t).run P w = .ok z w)/\z.cells.toList=zs:=by
 unfold qO at h;cases hi:P.info? t with
 | none=>rw[hi] at h;cases h
 | some i =>
  rw[hi,Option.bind_some] at h;cases hz:i.zero with
  | none=>rw[hz] at h;cases h
  | some z =>
   rw[hz,Option.map_some] at h;refine⟨z,fun w=>?_,Option.some.inj h⟩;unfold zeroValue typeInfo;simp[hi,hz]
def u6(P:Program)(t:Nat):Option (List (Nat×Option Nat)):=(P.underlying t).bind fun d=>match d with
 | .struct fs=>some (fs.toList.map fun f=>(f.offset,(P.info? f.type).map (·.size)))
 | _=>none
theorem Hs{pl:List (Nat×Nat)}(h:u6 P t=some (pl.map fun p=>(p.1,some p.2))):∃E,(∀w,(underlying t).run P w = .ok (.struct E) w)/\∀w,(E.mapM fun f=>do pure (f.offset,<-sizeOf f.type):Sem (Array (Nat×Nat))).run P w = .ok pl.toArray w:=by
 unfold u6 at h;cases hu:P.underlying t with
 | none=>rw[hu] at h;cases h
 | some d =>
  rw[hu,Option.bind_some] at h;split at h
  ·rename_i E;refine⟨E,run_underlying hu,fun w=>?_⟩;have h:=Option.some.inj h;rw[<-Array.toArray_toList (xs:=E),mapM_toArray];have I:∀(l:List Field) (pl:List (Nat×Nat)),l.map (fun f=>(f.offset,(P.info? f.type).map (·.size)))=pl.map (fun p=>(p.1,some p.2))->(l.mapM fun f=>do pure (f.offset,<-sizeOf f.type):Sem (List (Nat×Nat))).run P w = .ok pl w:=by
    intro l;induction l with
    | nil=>intro pl h;cases pl with
     | nil=>rfl
     | cons _ _=>cases h
    | cons f r ih =>
     intro pl h;cases pl with
     | nil=>cases h
     | cons p q =>
      rw[map_cons,map_cons,List.cons.injEq,Prod.mk.injEq] at h;obtain⟨⟨h1,h2⟩,h3⟩:=h;have M:∀w,(sizeOf f.type).run P w = .ok p.2 w:=by
       cases hi:P.info? f.type with
       | none=>rw[hi] at h2;cases h2
       | some i=>exact iq (by unfold mM;rw[hi] at h2 |-;simp at h2;simp[h2])
      rw[mapM_cons];simp only[Sem.run_bind,Sem.run_pure,M,Result.andThen_ok,ih q h3,h1]
   have:=I E.toList pl h;simp only[map_eq_pure_bind,Sem.run_bind,this,Result.andThen_ok,Sem.run_pure]
  cases h
class Sb (P:Program) (t:Nat) (zs:outParam (List Value)) (pl:outParam (List (Nat×Nat))):Prop where
  hz:qO P t=some zs
  hp:u6 P t=some (pl.map fun p=>(p.1,some p.2))
inductive jC:Nat->List D->List D->Prop
  | z {l:List D}:jC 0 l []
  | s {k:Nat} {a:D} {l l':List D} (h:jC k l l'):jC (k+1) (a::l) (a::l')
inductive lZ:Nat->List D->List D->Prop
 | z {l:List D}:lZ 0 l l
 | s {k:Nat} {a:D} {l l':List D} (h:lZ k l l'):lZ (k+1) (a::l) l'
theorem jC.eq{l l':List D}(h:jC k l l'):l.take k=l'/\l'.length=k:=by
 induction h with
 | z=>exact⟨rfl,rfl⟩
 | s h ih=>exact⟨by rw[take_succ_cons,ih.1],by rw[length_cons,ih.2]⟩
theorem jC.whole{l l':List D}(h:jC k l l')(hl:Nat.beq l.length k=true):l=l':=by
 have:=h.eq.1;rwa [take_of_length_le (Nat.le_of_eq (Nat.eq_of_beq_eq_true hl))] at this
theorem lZ.eq{l l':List D}(h:lZ k l l'):l.drop k=l':=by
 induction h with
 | z=>rfl
 | s h ih=>rw[drop_succ_cons,ih]
inductive LB (S:List ak) (sz:Nat):D->Rd->List D->Prop
 | b (k:Nat) {b o':Nat} {B:ak} {ds m:List D} (hk:S[k]?=some B) (hb:B.b=b) (hm:lZ o' B.cs m) (hd:jC sz m ds) (hne:isMap B.e=false):LB S sz (.v (.pointer (some ⟨b,o',none⟩))) (.eK k) ds
 | m {α:Type} {g:α->List D} {i:Nat} {ls:List α} (hg:∀a,(g a).length=sz) (hi:i<ls.length):LB S sz (.dG (ls.flatMap g) (i*sz)) .fA (g ls[i])
 | r (k:Nat) {α:Type} {g:α->List D} {b i:Nat} {B:ak} {ls:List α} (hg:∀a,(g a).length=sz) (hk:S[k]?=some B) (hb:B.b=b) (cL:B.cs=ls.flatMap g) (hi:i<ls.length) (hne:isMap B.e=false):LB S sz (.v (.pointer (some ⟨b,0+i*sz,none⟩))) (.eK k) (g ls[i])
 | i {o':Nat} {cs ds m:List D} (hm:lZ o' cs m) (hd:jC sz m ds):LB S sz (.dG cs o') .fA ds
theorem LB.still(h:LB x.S sz d0 kd ds)(ho:o.op = .load t y)(hy:aO x y=d0)(ha:mN P t true=true)(hn:mM P t sz=true):bH P G x o kd (.agg ds):=by
 cases h with
 | b k hk hb hm hd hne=>exact uA (hne:=hne) ho hy hk hb (eE ha) (iq hn) hd.eq.2 (by rw[hm.eq];exact hd.eq.1)
 | m hg hi=>exact rX ho hy (eE ha) (iq hn) (hg _) (sN hg hi)
 | r k hg hk hb cL hi hne=>exact iI (hne:=hne) hg hk hb cL (eE ha) (iq hn) hi x o y ho hy rfl
 | i hm hd=>exact rX ho hy (eE ha) (iq hn) hd.eq.2 (by rw[hm.eq];exact hd.eq.1)
theorem js{l l':List D}(h:jC k l l':=by repeat (first|exact jC.z|apply jC.s)):jC k l l':=h
theorem lJ{l l':List D}(h:lZ k l l':=by repeat (first|exact lZ.z|apply lZ.s)):lZ k l l':=h
theorem Nv{s:TypeId}{i off:Nat}{d d':D}(ho:o.op = .fieldAddr s y i:=by exact rfl)(hy:aO x y=d:=by first|exact ot|exact mh)(hc:tI P s i off=true:=by exact Fo.h)(h:FA off d d':=by first|exact .p|exact .i):bH P G x o .none d':=aB off ho hy hc h
theorem Nw (ho:o.op = .load t y:=by exact rfl) (hy:aO x y=d0:=by exact ot) (hn:mM P t sz=true:=by exact Sz.h) (ha:mN P t true=true:=by kernel_rfl)
  (h:LB x.S sz d0 kd ds:=by first|(apply LB.b 0;(focus exact rfl);(focus exact rfl);(focus exact lJ);(focus exact js);(focus exact rfl))|(apply LB.b 1;(focus exact rfl);(focus exact rfl);(focus exact lJ);(focus exact js);(focus exact rfl))|(apply LB.b 2;(focus exact rfl);(focus exact rfl);(focus exact lJ);(focus exact js);(focus exact rfl))|(apply LB.b 3;(focus exact rfl);(focus exact rfl);(focus exact lJ);(focus exact js);(focus exact rfl))|(apply LB.b 4;(focus exact rfl);(focus exact rfl);(focus exact lJ);(focus exact js);(focus exact rfl))|(apply LB.b 5;(focus exact rfl);(focus exact rfl);(focus exact lJ);(focus exact js);(focus exact rfl))|(apply LB.b 6;(focus exact rfl);(focus exact rfl);(focus exact lJ);(focus exact js);(focus exact rfl))|(apply LB.b 7;(focus exact rfl);(focus exact rfl);(focus exact lJ);(focus exact js);(focus exact rfl))|(apply LB.b 8;(focus exact rfl);(focus exact rfl);(focus exact lJ);(focus exact js);(focus exact rfl))|(apply LB.b 9;(focus exact rfl);(focus exact rfl);(focus exact lJ);(focus exact js);(focus exact rfl))|(apply LB.m;(focus exact fun _=>rfl);(focus first|assumption|omega|fail))|(apply LB.i;(focus exact lJ);(focus exact js))|(apply LB.r 0;(focus exact fun _=>rfl);(focus exact rfl);(focus exact rfl);(focus exact rfl);(focus exact rfl);(focus first|assumption|omega|fail))|(apply LB.r 1;(focus exact fun _=>rfl);(focus exact rfl);(focus exact rfl);(focus exact rfl);(focus exact rfl);(focus first|assumption|omega|fail))|(apply LB.r 2;(focus exact fun _=>rfl);(focus exact rfl);(focus exact rfl);(focus exact rfl);(focus exact rfl);(focus first|assumption|omega|fail))|(apply LB.r 3;(focus exact fun _=>rfl);(focus exact rfl);(focus exact rfl);(focus exact rfl);(focus exact rfl);(focus first|assumption|omega|fail))|fail):bH P G x o kd (.agg ds):=h.still ho hy ha hn
theorem LF {d:D} (ho:o.op = .load t y:=by exact rfl) (hy:aO x y=d0:=by exact ot) (ha:mN P t false=true:=by kernel_rfl)
  (h:LD x.S d0 kd d:=by first|(apply LD.b 0;(focus exact rfl);(focus exact rfl);(focus exact rfl);(focus exact rfl))|(apply LD.b 1;(focus exact rfl);(focus exact rfl);(focus exact rfl);(focus exact rfl))|(apply LD.b 2;(focus exact rfl);(focus exact rfl);(focus exact rfl);(focus exact rfl))|(apply LD.b 3;(focus exact rfl);(focus exact rfl);(focus exact rfl);(focus exact rfl))|(apply LD.b 4;(focus exact rfl);(focus exact rfl);(focus exact rfl);(focus exact rfl))|(apply LD.b 5;(focus exact rfl);(focus exact rfl);(focus exact rfl);(focus exact rfl))|(apply LD.b 6;(focus exact rfl);(focus exact rfl);(focus exact rfl);(focus exact rfl))|(apply LD.b 7;(focus exact rfl);(focus exact rfl);(focus exact rfl);(focus exact rfl))|(apply LD.b 8;(focus exact rfl);(focus exact rfl);(focus exact rfl);(focus exact rfl))|(apply LD.b 9;(focus exact rfl);(focus exact rfl);(focus exact rfl);(focus exact rfl))|(apply LD.m;(focus exact fun _=>rfl);(focus exact rfl);(focus first|assumption|omega|fail))|(apply LD.m0;(focus exact fun _=>rfl);(focus exact rfl);(focus first|assumption|omega|fail))|(apply LD.i;(focus exact rfl))|(apply LD.r 0;(focus exact fun _=>rfl);(focus exact rfl);(focus exact rfl);(focus exact rfl);(focus exact rfl);(focus exact rfl);(focus first|assumption|omega|fail))|(apply LD.r0 0;(focus exact fun _=>rfl);(focus exact rfl);(focus exact rfl);(focus exact rfl);(focus exact rfl);(focus exact rfl);(focus first|assumption|omega|fail))|(apply LD.r 1;(focus exact fun _=>rfl);(focus exact rfl);(focus exact rfl);(focus exact rfl);(focus exact rfl);(focus exact rfl);(focus first|assumption|omega|fail))|(apply LD.r0 1;(focus exact fun _=>rfl);(focus exact rfl);(focus exact rfl);(focus exact rfl);(focus exact rfl);(focus exact rfl);(focus first|assumption|omega|fail))|(apply LD.r 2;(focus exact fun _=>rfl);(focus exact rfl);(focus exact rfl);(focus exact rfl);(focus exact rfl);(focus exact rfl);(focus first|assumption|omega|fail))|(apply LD.r0 2;(focus exact fun _=>rfl);(focus exact rfl);(focus exact rfl);(focus exact rfl);(focus exact rfl);(focus exact rfl);(focus first|assumption|omega|fail))|(apply LD.r 3;(focus exact fun _=>rfl);(focus exact rfl);(focus exact rfl);(focus exact rfl);(focus exact rfl);(focus exact rfl);(focus first|assumption|omega|fail))|(apply LD.r0 3;(focus exact fun _=>rfl);(focus exact rfl);(focus exact rfl);(focus exact rfl);(focus exact rfl);(focus exact rfl);(focus first|assumption|omega|fail))|fail):bH P G x o kd d:=h.still ho hy (eE ha)
theorem LG {op:BinOp} {t t':TypeId} {z:Operand} {u u' r:Value} (ho:o.op = .binOp op t y z t':=by exact rfl) (hy:aO x y = .v u:=by first|exact ot|exact aN|fail) (hz:aO x z = .v u':=by first|exact ot|exact aN|fail)
  (hb:ij P op t u u' r:=by first|exact sx|exact CL|exact CP|exact CN|exact CM|exact CO|(apply lD;(focus exact wrap_i64 w7 w7))|(apply qC;(focus exact wrap_i64 w7 w7))|(apply qD;(focus exact wrap_i64 w7 w7))|exact Cc|exact xR|exact HV|exact HW|exact HX|exact HY|(apply IS;(focus omega))|fail):bH P G x o .none (.v r):=eX ho hy hz hb
theorem Nx {z:Operand} {k:IntKind} {i:Int} {d d':D} (ho:o.op = .indexAddr t y z:=by exact rfl) (hy:aO x y=d:=by exact ot) (hz:aO x z = .v (.int k i):=by first|exact ot|exact aN) (hs:tJ P t sz=true:=by exact Sl.h)
  (h:IX sz i d d':=by first|(apply IX.l;(focus exact rfl);(focus first|assumption|omega|(simp;omega)|fail))|(apply IX.r;(focus exact rfl);(focus first|assumption|omega|(simp;omega)|fail))|(apply IX.l;(focus exact(Int.toNat_of_nonneg w7).symm);(focus omega))|(apply IX.r;(focus exact(Int.toNat_of_nonneg w7).symm);(focus omega))|fail):bH P G x o .none d':=dW sz ho hy hz hs h
theorem JT:ik x [] []:=trivial
theorem IW{d:D}(hy:aO x y=d)(h:ik x ps pl):ik x ((k,y)::ps) ((k,d)::pl):=⟨rfl,hy,h⟩
theorem Ny(h:ik x ps pl:=by repeat (first|exact JT|(apply IW;(focus first|exact ot|exact aN|exact nh|fail)))):ik x ps pl:=h
theorem Nz {pq:List (Nat×Nat)} {m:List D} (ho:o.op = .build t ps.toArray:=by exact rfl) (hz:qO P t=some zs:=by exact Sb.hz) (hp:u6 P t=some (pq.map fun p=>(p.1,some p.2)):=by exact Sb.hp)
  (fM:ik x ps pl:=by exact Ny) (hj:pl.all (fun p=>jW p.2)=true:=by exact rfl) (hs:mM P t sz=true:=by exact Sz.h) (hd:gR (pq.toArray[·]?) (zs.map .v) pl=some m:=by exact rfl) (hl:Nat.beq m.length sz=true:=by exact rfl) (hk:jC sz m ds:=by exact js):bH P G x o .none (.agg ds):=by
 obtain⟨z,h1,h2⟩:=yp hz;obtain⟨fs,h3,h4⟩:=Hs hp;rw[hk.whole hl] at hd;exact dc ho h1 h3 h4 fM hj (by rw[h2];exact hd)
def tmpsOf:List Operand->List Nat
 | []=>[]
 | .tmp t::r=>t::tmpsOf r
 | _::r=>tmpsOf r
def opsOf:Op->List Operand
 | .move x|.assign x|.nilCheck x|.unOp _ _ x|.convert _ _ x|.fieldAddr _ x _|.field _ x _|.load _ x|.extract x _=>[x]
 | .pick c a b=>[c,a,b]
 | .binOp _ _ a b _|.indexAddr _ a b|.index _ a b|.lookup _ a b _=>[a,b]
 | .slice _ x lo hi mx=>x::(lo.toList++hi.toList++mx.toList)
 | .build _ ps|.buildSlice _ _ ps=>ps.toList.map (·.2)
 | .makeFunc _ _ c=>c.toList
 | .call c=>match c.callee with
  | .value f=>f::c.args.toList
  | _=>c.args.toList
 | _=>[]
def DS(ops:Array Oper)(o:Oper):List Nat:=match o.guard with
 | some (g,_)=>(match ops[g]? with
  | some p=>p.dst.toList
  | none=>[])
 | none=>[]
def iN(ops:Array Oper)(o:Oper):List Nat:=DS ops o++tmpsOf (opsOf o.op)
theorem gg{ts:List Nat}(h:dX ts e l':=by repeat (first|exact dX.nil|(apply dX.cons;(focus exact lk)))):dX ts e l':=h
theorem kJ{x:St}(h:bS ops x o true:=by first|exact mc rfl|exact pp rfl rfl rfl lk w6|fail):bS ops x o true:=h
theorem AB{x:St}(h:bS ops x o false:=by first|exact cz rfl rfl rfl lk w6|exact yl (b:=false) rfl rfl rfl lk|fail):bS ops x o false:=h
def PE(c:Bool)(P:Program)(G:List (Nat×List Value))(n:Nat)(S:List ak)(ops:Array Oper)(ts:List Nat)(l:List Oper)(e:List (Nat×D))(R:List (Nat×D)->Prop):Prop:=∃e' l',PD c P G n S ops l e [] e'/\dX ts e' l'/\R l'
variable {R:List (Nat×D)->Prop}
theorem mP(K:R l')(h:dX ts e l':=by exact gg):PE c P G n S ops ts [] e R:=⟨e,l',.nil,h,K⟩
theorem PE.cons{lr:List (Nat×D)}{E:List Nat}(hd:o.dst=some t)(hr:dX E e lr)(hq:(!c||jZ ops o E)=true)(hw:bS ops ⟨n,lr,S⟩ o true)(h:e8 P G ⟨n,lr,S⟩ o [] (fun y=>y=⟨n,(t,d)::lr,S⟩))(K:PE c P G n S ops ts l ((t,d)::e) R):PE c P G n S ops ts (o::l) e R:=by
 obtain⟨e',l',h1,h2⟩:=K;exact⟨e',l',.cons hd hr hq hw h h1,h2⟩
theorem E5(hd:o.dst=some t:=by exact rfl)(hr:dX (iN ops o) e lr:=by exact gg)(h:bH P G ⟨n,lr,S⟩ o kd d)(K:PE c P G n S ops ts l ((t,d)::e) R)(hq:(!c||jZ ops o (iN ops o))=true:=by kernel_rfl)(hw:bS ops ⟨n,lr,S⟩ o true:=by exact kJ):PE c P G n S ops ts (o::l) e R:=.cons hd hr hq hw (h.fh hd) K
def pH(P:Program)(f:Nat):Bool:=match P.funcs[f]? with
 | some fn => !(fn.name == "runtime.NumGoroutine") && fn.body.isSome
 | none=>false
theorem Dk{f:Nat}(h:pH P f=true):∀args w,(callFunc f args).run P w = .ok (.enter f args) w:=by
 unfold pH at h;split at h
 ·rename_i fn hf;rw[Bool.and_eq_true] at h;obtain⟨h1,h2⟩:=h;obtain⟨c,hc⟩:=Option.isSome_iff_exists.1 h2;exact enters_of hf (by simpa using h1) hc
 cases h
theorem NA {f:Nat} (hc:VP P G f args r) (K:PE c P G n S ops ts l ((t,r)::e) R) (ho:o.op = .call {callee:=.value fo,args:=bL,argTypes:=tt}:=by exact rfl)
  (hd:o.dst=some t:=by exact rfl) (hr:dX (iN ops o) e lr:=by exact gg) (hq:(!c||jZ ops o (iN ops o))=true:=by kernel_rfl) (hw:bS ops ⟨n,lr,S⟩ o true:=by exact kJ) (hf:fo = .func f:=by exact rfl) (dz:pH P f=true:=by kernel_rfl) (ha:gT ⟨n,lr,S⟩ bL.toList args:=by exact tT):PE c P G n S ops ts (o::l) e R:=by
 refine .cons hd hr hq hw ?_ K;intro C a w K Q hG hs O;refine uP ho hd hf (Dk dz) ha.eq (jP _) hc C a w K Q hG hs fun y U w' hy E I M=>?_;obtain⟨r',S',⟨rfl,rfl⟩,rfl⟩:=hy;exact O _ U w' rfl E I M
theorem wk{x:St}(h:bH P G x o kd d:=by first|exact bg|exact Nv|exact Nw|exact LF|exact LG|exact Nx|exact gW|exact cZ|exact bF|exact cW|exact bC|exact e9|exact Nz|exact Qh|exact Qi|exact Qj|exact Qk|fail):bH P G x o kd d:=h
structure PK (k:Nat) (P:Program) (G:List (Nat×List Value)) (n:Nat) (S:List ak) (ops:Array Oper) (l:List Oper) (e:List (Nat×D)) (l2:List Oper) (e':List (Nat×D)):Prop where
 h:PD false P G n S ops l e l2 e'
theorem PK.z:PK 0 P G n S ops l e l e:=⟨.nil⟩
theorem PK.s(hd:o.dst=some t)(hr:dX (iN ops o) e lr)(hw:bS ops ⟨n,lr,S⟩ o true)(h:bH P G ⟨n,lr,S⟩ o kd d)(K:PK k P G n S ops l ((t,d)::e) l2 e'):PK (k+1) P G n S ops (o::l) e l2 e':=⟨.cons hd hr rfl hw (h.fh hd) K.h⟩
theorem PK.f(hd:o.dst=some t)(hr:dX (DS ops o) e lr)(hw:bS ops ⟨n,lr,S⟩ o false)(K:PK k P G n S ops l ((t,.v (.tuple #[]))::e) l2 e'):PK (k+1) P G n S ops (o::l) e l2 e':=⟨.skip hd hr rfl hw K.h⟩
theorem tU(h:PK k P G n S ops l e l2 e':=by repeat (first|exact PK.z|(apply PK.s;(focus exact rfl);(focus exact gg);(focus exact kJ);(focus exact wk))|(apply PK.f;(focus exact rfl);(focus exact gg);(focus exact AB)))):PK k P G n S ops l e l2 e':=h
theorem eU(k:Nat)(K:OD P C ops l2 ⟨n,e',S⟩ Q)(h:PK k P C.G n S ops l e l2 e':=by exact tU):OD P C ops l ⟨n,e,S⟩ Q:=h.h.od K
theorem dS{d:Code}(k:Nat)(K:OD P C l.toArray l2 ⟨n,e',S⟩ (sV P C d Q))(h0:CD P C (.seq (.region id l.toArray false) d) ⟨n,e,S⟩ Q->p:=by exact jB)(h:PK k P C.G n S l.toArray l e l2 e':=by exact tU):p:=h0 (aC (aV (h.h.od K)))
theorem lp(k:Nat)(K:OD P C l.toArray l2 ⟨n,e',S⟩ Q)(h0:CD P C (.region id l.toArray false) ⟨n,e,S⟩ Q->p:=by exact jB)(h:PK k P C.G n S l.toArray l e l2 e':=by exact tU):p:=h0 (aV (h.h.od K))
theorem kK(ts:List Nat)(K:Q .normal ⟨n,l',S⟩)(h:PK k P C.G n S ops l e [] e':=by exact tU)(hr:dX ts e' l':=by exact gg):OD P C ops l ⟨n,e,S⟩ Q:=h.h.od (au ts K hr)
theorem gY{d:Code}(ts:List Nat)(h:PE c P C.G n S l.toArray ts l e fun l'=>CD P C d ⟨n,l',S⟩ Q)(h0:CD P C (.seq (.region id l.toArray c) d) ⟨n,e,S⟩ Q->p:=by exact jB)(hm:(!c||P.follows .mixedOrders)=true:=by kernel_rfl)(hp:(!c||je l.toArray)=true:=by kernel_rfl):p:=by
 obtain⟨e',l',h1,h2,K⟩:=h;exact h0 (aC (Dy (by intro hc;subst hc;simpa using hm) (by intro hc;subst hc;simpa using hp) h1 (gS (Wk.gH h2.gH) K)))
def WC(Q:Exit->St->Prop):Prop:=∀n e l' S,gG e l'->Q .normal ⟨n,l',S⟩->Q .normal ⟨n,e,S⟩
theorem WC.then{d:Code}:WC (sV P C d Q):=fun n e l' S h k=>gS (Wk.gH h) k
theorem WC.round{ι:Type}{I:ι->St->Prop}{μ:ι->Nat}{i:ι}:WC (vl I μ i Q):=fun n e l' S h ⟨j,z,h1,h2,E⟩=>⟨j,z,h1,(Wk.gH h).trans h2,E⟩
theorem E6(h:WC Q:=by repeat (first|exact WC.then|exact WC.cut|exact WC.round|exact WC.body|apply WC.inBlock)):WC Q:=h
theorem wm(ts:List Nat)(h:PE c P C.G n S l.toArray ts l e fun l'=>Q .normal ⟨n,l',S⟩)(h0:CD P C (.region id l.toArray c) ⟨n,e,S⟩ Q->p:=by exact jB)(hm:(!c||P.follows .mixedOrders)=true:=by kernel_rfl)(hp:(!c||je l.toArray)=true:=by kernel_rfl)(hQ:WC Q:=by exact E6):p:=by
 obtain⟨e',l',h1,h2,K⟩:=h;exact h0 (Dy (by intro hc;subst hc;simpa using hm) (by intro hc;subst hc;simpa using hp) h1 (hQ _ _ _ _ h2.gH K))
structure PL (k:Nat) (c:Bool) (P:Program) (G:List (Nat×List Value)) (n:Nat) (S:List ak) (ops:Array Oper) (ts:List Nat) (l:List Oper) (e:List (Nat×D)) (l2:List Oper) (e':List (Nat×D)):Prop where
 h:∀R,PE c P G n S ops ts l2 e' R->PE c P G n S ops ts l e R
theorem PL.z:PL 0 c P G n S ops ts l e l e:=⟨fun _ h=>h⟩
theorem PL.s(hd:o.dst=some t)(hr:dX (iN ops o) e lr)(hw:bS ops ⟨n,lr,S⟩ o true)(h:bH P G ⟨n,lr,S⟩ o kd d)(hq:(!c||jZ ops o (iN ops o))=true)(K:PL k c P G n S ops ts l ((t,d)::e) l2 e'):PL (k+1) c P G n S ops ts (o::l) e l2 e':=⟨fun R h1=>E5 hd hr h (K.h R h1) hq hw⟩
theorem qV(h:PL k c P G n S ops ts l e l2 e':=by repeat (first|exact PL.z|(apply PL.s;(focus exact rfl);(focus exact gg);(focus exact kJ);(focus exact wk);(focus kernel_rfl))|(apply PL.f;(focus exact rfl);(focus exact gg);(focus exact AB);(focus kernel_rfl))|(apply PL.r;(focus exact rfl);(focus exact rfl);(focus exact gg);(focus exact NB);(focus exact NC.h);(focus exact kJ);(iterate 5 (focus exact rfl));(focus kernel_rfl);(focus exact js)))):PL k c P G n S ops ts l e l2 e':=h
theorem AE(k:Nat)(K:PE c P G n S ops ts l2 e' R)(h:PL k c P G n S ops ts l e l2 e':=by exact qV):PE c P G n S ops ts l e R:=h.h R K
theorem fb(k:Nat)(K:PE c P G n S ops ts l2 ((t,d)::e') R)(h1:PL k c P G n S ops ts l e (o::l2) e':=by exact qV)(hd:o.dst=some t:=by exact rfl)(hr:dX (iN ops o) e' lr:=by exact gg)(h:bH P G ⟨n,lr,S⟩ o kd d)(hq:(!c||jZ ops o (iN ops o))=true:=by kernel_rfl)(hw:bS ops ⟨n,lr,S⟩ o true:=by exact kJ):PE c P G n S ops ts l e R:=h1.h R (E5 hd hr h K hq hw)
theorem E7(h:PL k c P G n S ops ts l e l2 e':=by (repeat (first|(apply PL.s;(focus exact rfl);(focus exact gg);(focus exact kJ);(focus exact wk);(focus kernel_rfl))|(apply PL.f;(focus exact rfl);(focus exact gg);(focus exact AB);(focus kernel_rfl))|(apply PL.r;(focus exact rfl);(focus exact rfl);(focus exact gg);(focus exact NB);(focus exact NC.h);(focus exact kJ);(iterate 5 (focus exact rfl));(focus kernel_rfl);(focus exact js))|fail));exact PL.z):PL k c P G n S ops ts l e l2 e':=h
theorem qb {f:Nat} (hc:VP P G f args r) (K:PE c P G n S ops ts l2 ((t,r)::e') R) (h1:PL k c P G n S ops ts l e (o::l2) e':=by exact E7) (ho:o.op = .call {callee:=.value fo,args:=bL,argTypes:=tt}:=by exact rfl)
  (hd:o.dst=some t:=by exact rfl) (hr:dX (iN ops o) e' lr:=by exact gg) (hq:(!c||jZ ops o (iN ops o))=true:=by kernel_rfl) (hw:bS ops ⟨n,lr,S⟩ o true:=by exact kJ) (hf:fo = .func f:=by exact rfl) (dz:pH P f=true:=by kernel_rfl) (ha:gT ⟨n,lr,S⟩ bL.toList args:=by exact tT):PE c P G n S ops ts l e R:=h1.h R (NA hc K ho hd hr hq hw hf dz ha)
theorem iC(K:R l')(h:PL k c P G n S ops ts l e [] e':=by exact qV)(hr:dX ts e' l':=by exact gg):PE c P G n S ops ts l e R:=h.h R (mP K hr)
theorem bM{d:Code}(ts:List Nat)(K:CD P C d ⟨n,l',S⟩ Q)(h0:CD P C (.seq (.region id l.toArray c) d) ⟨n,e,S⟩ Q->p:=by exact jB)(h:PL k c P C.G n S l.toArray ts l e [] e':=by exact qV)(hr:dX ts e' l':=by exact gg)(hm:(!c||P.follows .mixedOrders)=true:=by kernel_rfl)(hp:(!c||je l.toArray)=true:=by kernel_rfl):p:=gY ts (h.h _ (mP K hr)) h0 hm hp
theorem mQ {k2 f:Nat} {d':Code} (ts:List Nat) (hc:VP P G f args r) (K:CD P C d' ⟨n,l',S⟩ Q) (h0:CD P C (.seq (.region id l.toArray c) d') ⟨n,e,S⟩ Q->p:=by exact jB) (hG:C.G=G:=by exact rfl) (h1:PL k c P G n S l.toArray ts l e (o::l2) e':=by exact E7) (ho:o.op = .call {callee:=.value fo,args:=bL,argTypes:=tt}:=by exact rfl)
  (hd:o.dst=some t:=by exact rfl) (hr:dX (iN l.toArray o) e' lr:=by exact gg) (hq:(!c||jZ l.toArray o (iN l.toArray o))=true:=by kernel_rfl) (hw:bS l.toArray ⟨n,lr,S⟩ o true:=by exact kJ) (hf:fo = .func f:=by exact rfl) (dz:pH P f=true:=by kernel_rfl) (ha:gT ⟨n,lr,S⟩ bL.toList args:=by exact tT)
  (h2:PL k2 c P G n S l.toArray ts l2 ((t,r)::e') [] e2:=by exact qV) (hs:dX ts e2 l':=by exact gg) (hm:(!c||P.follows .mixedOrders)=true:=by kernel_rfl) (hp:(!c||je l.toArray)=true:=by kernel_rfl):p:=by
 subst hG;exact gY ts (qb hc (iC K h2 hs) h1 ho hd hr hq hw hf dz ha) h0 hm hp
theorem lq(ts:List Nat)(K:Q .normal ⟨n,l',S⟩)(h0:CD P C (.region id l.toArray c) ⟨n,e,S⟩ Q->p:=by exact jB)(h:PL k c P C.G n S l.toArray ts l e [] e':=by exact qV)(hr:dX ts e' l':=by exact gg)(hm:(!c||P.follows .mixedOrders)=true:=by kernel_rfl)(hp:(!c||je l.toArray)=true:=by kernel_rfl)(hQ:WC Q:=by exact E6):p:=wm ts (h.h _ (mP K hr)) h0 hm hp hQ
inductive BP:Bool->Prop->Prop->Prop
 | lt {a b:Int}:BP (decide (a<b)) (a<b) (b<=a)
 | le {a b:Int}:BP (decide (a<=b)) (a<=b) (b<a)
 | gt {a b:Int}:BP (decide (a>b)) (a>b) (a<=b)
 | ge {a b:Int}:BP (decide (a>=b)) (a>=b) (a<b)
 | eq {a b:Int}:BP (a==b) (a=b) (¬a=b)
 | ne {a b:Int}:BP (a != b) (¬a=b) (a=b)
 | beq {a b:Bool}:BP (a==b) (a=b) (¬a=b)
 | bne {a b:Bool}:BP (a != b) (¬a=b) (a=b)
 | dec {p:Prop} [Decidable p]:BP (decide p) p (¬p)
 | nn {b:Bool} {p q:Prop} (h:BP b p q):BP (!!b) p q
 | no {b:Bool} {p q:Prop} (h:BP b p q):BP (!b) q p
 | any {b:Bool}:BP b (b=true) (b=false)
theorem BP.ok(h:BP b p q):(b=true->p)/\(b=false->q):=by
 induction h with
 | lt=>exact⟨of_decide_eq_true,fun h=>Int.not_lt.1 (of_decide_eq_false h)⟩
 | le=>exact⟨of_decide_eq_true,fun h=>Int.not_le.1 (of_decide_eq_false h)⟩
 | gt=>exact⟨of_decide_eq_true,fun h=>Int.not_lt.1 (of_decide_eq_false h)⟩
 | ge=>exact⟨of_decide_eq_true,fun h=>Int.not_le.1 (of_decide_eq_false h)⟩
 | eq=>exact⟨by simp,by simp⟩
 | ne=>exact⟨by simp,by simp⟩
 | beq=>exact⟨by simp,by simp⟩
 | bne=>exact⟨by simp,by simp⟩
 | dec=>exact⟨of_decide_eq_true,of_decide_eq_false⟩
 | nn h ih=>exact⟨fun e=>ih.1 (by simpa using e),fun e=>ih.2 (by simpa using e)⟩
 | no h ih=>exact⟨fun e=>ih.2 (by simpa using e),fun e=>ih.1 (by simpa using e)⟩
 | any=>exact⟨id,id⟩
theorem E8(h:BP b p q:=by first|exact .lt|exact .le|exact .eq|exact .ne|exact .gt|exact .ge|exact .beq|exact .bne|exact .dec|(apply BP.nn;focus (first|exact .lt|exact .le|exact .eq|exact .ne|exact .gt|exact .ge|exact .dec|exact .any))|(apply BP.no;focus (first|exact .lt|exact .le|exact .eq|exact .ne|exact .gt|exact .ge|exact .dec|exact .any))|exact .any):BP b p q:=h
theorem c8{z:Operand}{d1 d2:Code}{r:Prop}(ht:b=true->p->CD P C d1 x Q)(hf:b=false->q->CD P C d2 x Q)(h0:CD P C (.cond z d1 d2) x Q->r:=by exact jB)(hc:aO x z = .v (.bool b):=by exact ot)(h:BP b p q:=by exact E8):r:=h0 (aM hc (fun e=>ht e (h.ok.1 e)) (fun e=>hf e (h.ok.2 e)))
theorem jg(t:Nat)(h1:b=true->p->OD P C ops l x Q)(h2:b=false->q->OD P C ops l x Q)(hb:look t x.env = .v (.bool b):=by exact lk)(h:BP b p q:=by exact E8):OD P C ops l x Q:=dN hb (fun e=>h1 e (h.ok.1 e)) (fun e=>h2 e (h.ok.2 e))
inductive NS:List ak->List ak->Prop
 | r {S:List ak}:NS S S
 | c {b e sz:Nat} {cs cs':List D} {S S':List ak} (hl:Nat.beq cs.length sz=true) (h:jC sz cs cs') (k:NS S S'):NS (⟨b,e,sz,cs⟩::S) (⟨b,e,sz,cs'⟩::S')
 | k {B:ak} {S S':List ak} (k:NS S S'):NS (B::S) (B::S')
theorem NS.eq{S:List ak}(h:NS S S'):S=S':=by
 induction h with
 | r=>rfl
 | c hl h k ih=>rw[h.whole hl,ih]
 | k k ih=>rw[ih]
theorem ND{S:List ak}(h:NS S S':=by repeat (first|(apply NS.c;(focus exact rfl);(focus exact js))|apply NS.k|exact NS.r)):NS S S':=h
theorem da(m:Nat)(ts:List Nat)(K:Q .normal ⟨m,l',S'⟩)(h:PK k P C.G n S ops l e [] e':=by exact tU)(hr:dX ts e' l':=by exact gg)(hS:NS S S':=by exact ND)(hn:n=m:=by exact rfl):OD P C ops l ⟨n,e,S⟩ Q:=h.h.od (bc (Wk.aR hn hS.eq hr.gH) (bi K))
theorem E9{α:Type}{a b:List α}(h:a.Sublist b:=by repeat (first|exact Sublist.refl _|exact nil_sublist _|apply Sublist.cons_cons|apply Sublist.cons)):a.Sublist b:=h
theorem LH{l:List (Nat×D)}(h:look t l=d:=by (repeat (first|exact jQ|(apply kV;focus (first|rfl|(simp;done)|(congr 2;omega)|(apply fZ;first|rfl|assumption|(simp;done))))|(apply jO;focus rfl)));first|done|fail):look t l=d:=h
theorem LI{l':List (Nat×D)}(h:gG e l':=by repeat (first|exact trivial|refine⟨LH,?_⟩)):gG e l':=h
theorem kL{x:St}{n:Nat}(hn:x.n=n:=by exact rfl)(hS:S'.Sublist x.S:=by exact E9)(h:gG x.env l':=by exact LI):Wk x ⟨n,l',S'⟩:=Wk.bI hn hS h
theorem lu{a b:Nat}(h:a<b:=by first|omega|(simp only[];omega)|(simp;omega)):a<b:=h
theorem gK{c:Code}{ι:Type}{y:St}(ts:List Nat)(I:List (Nat×D)->List ak->ι->St->Prop)(μ:ι->Nat)(i:ι)(h0:I l' S i y)(round:∀i y,I l' S i y->CD P C c y (vl (I l' S) μ i Q))(hp:CD P C (.loop c) ⟨n,e,S⟩ Q->p:=by exact jB)(hr:dX ts e l':=by exact gg)(hw:Wk ⟨n,e,S⟩ y:=by exact kL):p:=hp (gS hw (CJ (I l' S) μ i h0 round))
theorem rI{y:St}{rv:ResultVar}{d:D}(h:lV P y rv d:=by first|exact cw aF lk|exact di (k:=0) aF lk rfl rfl (eE af) (iq Sz.h) rfl rfl|exact di (k:=1) aF lk rfl rfl (eE af) (iq Sz.h) rfl rfl|exact di (k:=2) aF lk rfl rfl (eE af) (iq Sz.h) rfl rfl|exact di (k:=3) aF lk rfl rfl (eE af) (iq Sz.h) rfl rfl|exact di (k:=4) aF lk rfl rfl (eE af) (iq Sz.h) rfl rfl|exact di (k:=5) aF lk rfl rfl (eE af) (iq Sz.h) rfl rfl|exact di (k:=6) aF lk rfl rfl (eE af) (iq Sz.h) rfl rfl|exact di (k:=7) aF lk rfl rfl (eE af) (iq Sz.h) rfl rfl|exact di (k:=8) aF lk rfl rfl (eE af) (iq Sz.h) rfl rfl|exact di (k:=9) aF lk rfl rfl (eE af) (iq Sz.h) rfl rfl|exact hU (k:=0) aF lk rfl rfl (eE af) rfl|exact hU (k:=1) aF lk rfl rfl (eE af) rfl|exact hU (k:=2) aF lk rfl rfl (eE af) rfl|exact hU (k:=3) aF lk rfl rfl (eE af) rfl|exact hU (k:=4) aF lk rfl rfl (eE af) rfl|exact hU (k:=5) aF lk rfl rfl (eE af) rfl|exact hU (k:=6) aF lk rfl rfl (eE af) rfl|exact hU (k:=7) aF lk rfl rfl (eE af) rfl|exact hU (k:=8) aF lk rfl rfl (eE af) rfl|exact hU (k:=9) aF lk rfl rfl (eE af) rfl|fail):lV P y rv d:=h
theorem NE{fn:Func}{y:St}(h:iA P fn y r:=by first|exact eM rfl|exact eC rfl rI|exact kp rfl rI rI|exact gm rfl rI rI rI|fail):iA P fn y r:=h
theorem ei{fn:Func}{post:D->List ak->Prop}{ex:Exit}{x:St}(S':List ak)(hp:post r S')(h0:Body P fn post ex x->p:=by exact jB)(he:ex = .normal\/ex = .ret:=by first|exact .inr rfl|exact .inl rfl)(hS:S'.Sublist x.S:=by exact E9)(hr:iA P fn x r:=by exact NE):p:=h0 ⟨he,r,S',hS,hr,hp⟩
inductive oK (P:Program) (C:cj) (ops:Array Oper) (T:List Nat) (n:Nat) (S:List ak):List Nat->Nat->Array Bool->List (Nat×D)->Nat->Array Bool->List (Nat×D)->Prop
 | z {aP:Nat} {ld:Array Bool} {e:List (Nat×D)}:oK P C ops T n S [] aP ld e aP ld e
 | s {i:Nat} {is:List Nat} {aP f2 t:Nat} {ld oL:Array Bool} {e e2:List (Nat×D)} {o:Oper} {kd:Rd} {d:D} (hi:ops[i]?=some o) (hw:bS ops ⟨n,e,S⟩ o true) (h:bH P C.G ⟨n,e,S⟩ o kd d) (hd:o.dst=some t) (hf:Region.free .any ops ld i=true) (hr:(Region.ready .any ops ld).contains i=true) (hk:Safe ⟨n,e,S⟩ T kd)
   (K:oK P C ops T n S is aP (ld.setIfInBounds i true) ((t,d)::e) f2 oL e2):oK P C ops T n S (i::is) (aP+1) ld e f2 oL e2
theorem oK.run{is:List Nat}{aP f2:Nat}(h:oK P C ops T n S is aP ld e f2 oL e2)(hs:Region.noSelect ops=true)(hp:NP Q)(K:bt P C ops S1 T f2 oL ⟨n,e2,S⟩ Q):bt P C ops S1 T aP ld ⟨n,e,S⟩ Q:=by
 induction h with
 | z=>exact K
 | s hi hw h hd hf hr hk _ ih=>exact bt.take hi hs hf hr hp hw hd h hk (ih K)
theorem NF{x:St}(h:Safe x T kd:=by first|exact trivial|exact gM (k0:=0) rfl rfl|exact gM (k0:=1) rfl rfl|exact gM (k0:=2) rfl rfl|exact gM (k0:=3) rfl rfl|exact gM (k0:=4) rfl rfl|exact gM (k0:=5) rfl rfl|fail):Safe x T kd:=h
theorem DT {aP f2:Nat} (is:List Nat) (K:bt P C ops S1 T f2 oL ⟨n,e2,S⟩ Q) (h:oK P C ops T n S is aP ld e f2 oL e2:=by repeat (first|exact oK.z|(apply oK.s;(focus exact rfl);(focus exact kJ);(focus exact wk);(focus exact rfl);(focus kernel_rfl);(focus kernel_rfl);(focus exact NF)))) (hs:Region.noSelect ops=true:=by kernel_rfl)
  (hp:NP Q:=by repeat (first|exact NP.norm|exact NP.body|exact NP.sI|exact NP.Dv|exact NP.qK|apply NP.tl|apply NP.sJ|apply NP.then|apply NP.cut|apply NP.inBlock|apply NP.round)):bt P C ops S1 T aP ld ⟨n,e,S⟩ Q:=h.run hs hp K
end
section
variable {P:Program} {C:cj} {G:List (Nat×List Value)} {Q:Exit->St->Prop} {ops:Array Oper} {l l2:List Oper} {o:Oper} {n t:Nat} {d:D} {e e' l':List (Nat×D)} {S S':List ak} {ts:List Nat} {c:Bool} {x:St}
variable {a:Act} {w:World} {R':Exit->Act->World->Prop} {m id ta:Nat} {ld:Array Bool} {B:List ak} {te:TypeId} {S1:List Nat} {oa:Oper} {zs:List Value}
theorem Ic{K I:Act->World->Prop}{R:Exit->Act->World->Prop}(h:o.wp P a w K R)(E:∀a w,K a w->I a w)(hp:∀M a w,R (.panic M) a w->R' (.panic M) a w)(ho:∀a w,R .outgrown a w->R' .outgrown a w):o.wp P a w I R':=by
 unfold Oper.wp at *;generalize (execOp a.eval o).run P w=r at *;cases r with
 | ok z w' =>
  cases z<;>simp only[Oper.upon] at h |- <;>
   first
    | exact E _ _ h
    | exact Calls.mono h (fun e O he=>by cases e<;>first|exact E _ _ he|exact hp _ _ _ he|exact(let ⟨a,w,q⟩:=he;⟨a,w,ho a w q⟩))
    | exact Rows.mono h (fun _ _ he=>E _ _ he)
 | halt z w'=>cases z<;>simp only[Oper.upon] at h |-<;>first|exact hp _ _ _ h|exact h
def vm(o:Oper):Bool:=match o.op with
 | .extract _ _=>o.guard.isNone
 | .move _=>o.guard.isNone
 | _=>false
def qP(ops:Array Oper)(j:Nat)(o:Oper):Bool:=vm o&&(range ops.size).all fun k=>Nat.beq k j||(match ops[k]? with
   | some p=>p.after.any (fun e=>Region.binds .any e&&Nat.beq e.on j)||o.after.any (fun e=>Region.binds .any e&&Nat.beq e.on k)||o.apart ops p
   | none=>true)
def tV(o:Oper):List Nat:=o.after.toList.filterMap fun e=>bif Region.binds .any e then some e.on else none
def sY(ops:Array Oper):Nat->List Nat->List Nat
 | 0,s=>s
 | i+1,s=>sY ops i (bif s.elem i then (match ops[i]? with|some o=>tV o|none=>[])++s else s)
theorem CW{o:Oper}{k:Nat}(h:k∈tV o):∃e∈o.after,Region.binds .any e=true/\e.on=k:=by
 obtain⟨e,he,hk⟩:=mem_filterMap.1 h;cases hb:Region.binds .any e with
 | true=>rw[hb] at hk;exact⟨e,Array.mem_def.2 he,hb,Option.some.inj hk⟩
 | false=>rw[hb] at hk;cases hk
theorem BY{D:Nat->Prop}(E:∀k o,ops[k]?=some o->D k->∀e∈o.after,Region.binds .any e=true->D e.on):∀(i:Nat) (s:List Nat),(∀k∈s,D k)->∀k∈sY ops i s,D k
 | 0,s,h=>h
 | i+1,s,h=>by
  unfold sY;refine BY E i _ fun k hk=>?_;cases he:s.elem i with
  | false=>rw[he] at hk;exact h k hk
  | true =>
   rw[he,cond_true] at hk;rcases mem_append.1 hk with hk|hk
   ·cases ho:ops[i]? with
    | none=>rw[ho] at hk;cases hk
    | some o =>
     rw[ho] at hk;obtain⟨e,h1,h2,h3⟩:=CW hk;rw[<-h3];exact E i o ho (h i (elem_iff.1 he)) e h1 h2
   exact h k hk
def mu(m:Nat)(ops:Array Oper):Bool:=(range ops.size).all fun j=>match ops[j]? with
 | some o=>o.after.all (fun e=>!Region.binds .any e||Nat.blt e.on j) &&
  (bif Nat.blt j m then (match o.guard with|some (g,_)=>Nat.blt g m|none=>true)
  else bif Nat.beq j m then (range m).all (fun k=>(sY ops m (tV o)).elem k||(match ops[k]? with|some p=>qP ops k p|none=>false)) else o.after.any (fun e=>Region.binds .any e&&Nat.beq e.on (j-1)))
 | none=>true
theorem yB{o:Oper}{k:Nat}(h:o.after.any (fun e=>Region.binds .any e&&Nat.beq e.on k)=true):∃e∈o.after,Region.binds .any e=true/\e.on=k:=by
 obtain⟨e,he,hb⟩:=Array.any_eq_true'.1 h;rw[Bool.and_eq_true] at hb;exact⟨e,he,hb.1,Nat.eq_of_beq_eq_true hb.2⟩
theorem nj(h:mu m ops=true){j:Nat}{o:Oper}(hj:ops[j]?=some o):(∀e∈o.after,Region.binds .any e=true->e.on<j)/\(j<m->∀g b,o.guard=some (g,b)->g<m) /\
  (m<=j->(j=m/\∀k,k<m->k∈sY ops m (tV o)\/(∃p,ops[k]?=some p/\qP ops k p=true))\/(m<j/\∃e∈o.after,Region.binds .any e=true/\e.on=j-1)) /\
  (qP ops j o=true->∀k p,ops[k]?=some p->k≠j->(∃e∈p.after,Region.binds .any e=true/\e.on=j)\/(∃e∈o.after,Region.binds .any e=true/\e.on=k)\/o.apart ops p=true):=by
 have aD:=(Array.getElem?_eq_some_iff.1 hj).1;have:=all_eq_true.1 h j (mem_range.2 aD);simp only[hj,Bool.and_eq_true] at this;obtain⟨h1,h2⟩:=this;have U:j<m->(match o.guard with|some (g,_)=>Nat.blt g m|none=>true)=true:=fun hm=>by
  have M:Nat.blt j m=true:=Nat.ble_eq_true_of_le hm;rw[M,cond_true] at h2;exact h2
 refine⟨fun e he hb=>?_,fun hm g b hg=>?_,fun hm=>?_,fun hf k p hp Y=>?_⟩
 ·have:=Array.all_eq_true'.1 h1 e he;simp only[hb,Bool.not_true,Bool.false_or] at this;exact Nat.le_of_ble_eq_true this
 ·have E:=U hm;rw[hg] at E;exact Nat.le_of_ble_eq_true E
 ·have M:Nat.blt j m=false:=by
   cases hq:Nat.blt j m with
   | false=>rfl
   | true=>have:=Nat.le_of_ble_eq_true hq;omega
  rw[M,cond_false] at h2;cases I:Nat.beq j m with
  | false =>
   rw[I,cond_false] at h2;refine .inr ⟨?_,yB h2⟩;rcases Nat.lt_or_eq_of_le hm with h|h
   ·exact h
   rw[<-h,Nat.beq_refl] at I;cases I
  | true =>
   rw[I,cond_true] at h2;refine .inl ⟨Nat.eq_of_beq_eq_true I,fun k hk=>?_⟩;have:=all_eq_true.1 h2 k (mem_range.2 hk);rw[Bool.or_eq_true] at this;rcases this with E|E
   ·exact .inl (elem_iff.1 E)
   refine .inr ?_;cases rD:ops[k]? with
   | none=>rw[rD] at E;cases E
   | some p=>rw[rD] at E;exact⟨p,rfl,E⟩
 have E:=hf;unfold qP at E;rw[Bool.and_eq_true] at E;have:=all_eq_true.1 E.2 k (mem_range.2 (Array.getElem?_eq_some_iff.1 hp).1);have hb:Nat.beq k j=false:=by
  cases hq:Nat.beq k j with
  | false=>rfl
  | true=>exact absurd (Nat.eq_of_beq_eq_true hq) Y
 simp only[hb,hp,Bool.false_or,Bool.or_eq_true] at this;rcases this with (O|O)|O
 ·exact .inl (yB O)
 ·exact .inr (.inl (yB O))
 exact .inr (.inr O)
theorem Ie{R:Exit->Act->World->Prop}(hq:mu m ops=true):∀(k s aP:Nat) (ld:Array Bool) (a:Act) (w:World),m<=s->s+k=ops.size->k<=aP->ld.size=ops.size->(∀j,j<s->ld.getD j true=true)->(∀j,s<=j->j<ops.size->ld.getD j true=false)->wpOps P ops R (range' s k) a w->wpAny P .any ops R aP ld a w:=by
 intro k;induction k with
 | zero =>
  intro s aP ld a w hs hk hf I h1 h2 h;have hr:Region.ready .any ops ld=[]:=by
   rw[eq_nil_iff_forall_not_mem];intro j hj;obtain⟨q1,o,q2,_⟩:=mem_ready.1 hj;have aD:=(Array.getElem?_eq_some_iff.1 q2).1;rw[h1 j w7] at q1;cases q1
  have hn:R .normal a w:=h;cases aP with
  | zero=>exact⟨hr,hn⟩
  | succ f=>exact⟨fun _=>hn,by rw[hr];simp⟩
 | succ k ih =>
  intro s aP ld a w hs hk hf I h1 h2 h;obtain⟨f,rfl⟩:∃f,aP=f+1:=⟨aP-1,by omega⟩
  have Y:∀e,e<s->ld.getD e false=true:=fun e he=>by
   have:=h1 e he;rw[Array.getD_eq_getD_getElem?] at this |-;rw[Array.getElem?_eq_getElem w7] at this |-;exact this
  have M:s∈Region.ready .any ops ld:=mem_ready.2 ⟨h2 s (Nat.le_refl _) w7,ops[s]'w7,Array.getElem?_eq_getElem w7,fun e he hb=>Y _ ((nj hq (Array.getElem?_eq_getElem w7)).1 e he hb)⟩;refine⟨fun h0=>(by rw[h0] at M;cases M),fun i hi=>?_⟩;obtain⟨q1,o,q2,q3⟩:=mem_ready.1 hi;have Z:=(Array.getElem?_eq_some_iff.1 q2).1;have Fa:i=s:=by
   rcases Nat.lt_trichotomy i s with q|q|q
   ·rw[h1 i q] at q1;cases q1
   ·exact q
   rcases(nj hq q2).2.2.1 w7 with h9|⟨_,e,he,hb,p0⟩
   ·omega
   have O:=q3 e he hb;rw[p0] at O;have U:=h2 (i-1) w7 w7;rw[Array.getD_eq_getD_getElem?,Array.getElem?_eq_getElem w7] at O U;simp only[Option.getD_some] at O U;rw[O] at U;cases U
  subst Fa;rw[range'_succ,wpOps_cons] at h;have E:∀j,(ld.setIfInBounds i true).getD j true=if j=i then true else ld.getD j true:=fun j=>by
   by_cases hj:j=i
   ·subst hj;simp[Array.getD_eq_getD_getElem?,Array.getElem?_setIfInBounds,I,Z]
   simp[Array.getD_eq_getD_getElem?,Array.getElem?_setIfInBounds,hj,Ne.symm hj]
  refine wpOp_mono (fun a' w' h'=>ih (i+1) f _ a' w' w7 w7 w7 (by simpa using I) (fun j hj=>?_) (fun j hj pX=>?_) h') h
  ·rw[E];split
   ·rfl
   exact h1 j w7
  rw[E,if_neg w7];exact h2 j w7 pX
theorem If{R:Exit->Act->World->Prop}(hq:mu m ops=true)(hm:m<=ops.size)(hn:∀a w,R' .normal a w->wpOps P ops R (range' m (ops.size-m)) a w)(hp:∀ch a w,R' (.panic ch) a w->R (.panic ch) a w)(ho:∀a w,R' .outgrown a w->R .outgrown a w)(cR:Region.noSelect ops=true)(hQ:∀(d:Option Nat) v c a w,R (.panic c) (a.put d v) w->R (.panic c) a w) :
  ∀(aP:Nat) (ld:Array Bool) (a:Act) (w:World),ld.size=m->(∀k o,ops[k]?=some o->ld.getD k false=true->∀e∈o.after,Region.binds .any e=true->ld.getD e.on false=true)->wpAny P .any (ops.toList.take m).toArray R' aP ld a w->wpAny P .any ops R (aP+(ops.size-m)) (ld++Array.replicate (ops.size-m) false) a w:=by
 have I:∀i,i<m->(ops.toList.take m).toArray[i]?=ops[i]?:=fun i hi=>by simp[getElem?_take,hi]
 have rJ:(ops.toList.take m).toArray.size=m:=(by simp;omega)
 -- what may LJ up Pf the first Pm
 have O:∀(ld:Array Bool) (b:Bool),ld.size=m->∀j,j<m->(ld++Array.replicate (ops.size-m) false).getD j b=ld.getD j b:=fun ld b hs j hj=>by
  rw[Array.getD_eq_getD_getElem?,Array.getD_eq_getD_getElem?,Array.getElem?_append_left w7]
 have DU:∀(ld:Array Bool) (b:Bool),ld.size=m->∀j,m<=j->j<ops.size->(ld++Array.replicate (ops.size-m) false).getD j b=false:=fun ld b hs j hj pX=>by
  rw[Array.getD_eq_getD_getElem?,Array.getElem?_append_right w7,hs];simp[Array.getElem?_replicate,show j-m<ops.size-m by omega]
 have rK:∀(ld:Array Bool),ld.size=m->∀i,i<m->(i∈Region.ready .any ops (ld++Array.replicate (ops.size-m) false)↔i∈Region.ready .any (ops.toList.take m).toArray ld):=fun ld hs i hi=>by
  rw[mem_ready,mem_ready,I i hi,O ld true hs i hi];constructor
  ·rintro⟨q1,o,q2,q3⟩;exact⟨q1,o,q2,fun e he hb=>by have:=q3 e he hb;rwa [O ld false hs _ (Nat.lt_trans ((nj hq q2).1 e he hb) hi)] at this⟩
  rintro⟨q1,o,q2,q3⟩;exact⟨q1,o,q2,fun e he hb=>by rw[O ld false hs _ (Nat.lt_trans ((nj hq q2).1 e he hb) hi)];exact q3 e he hb⟩
 -- OR may LJ up: all have
 have LK:∀(ld:Array Bool),ld.size=m->Region.ready .any (ops.toList.take m).toArray ld=[]->∀j,j<m->ld.getD j true=true:=fun ld hs hr j=>by
  induction j using Nat.strongRecOn with
  | _ j ih =>
   intro hj;cases hl:ld.getD j true with
   | true=>rfl
   | false =>
    have wc:ops[j]?=some (ops[j]'w7):=Array.getElem?_eq_getElem w7;have:j∈Region.ready .any (ops.toList.take m).toArray ld:=mem_ready.2 ⟨hl,ops[j]'w7,by rw[I j hj];exact wc,fun e he hb=>by
     have aD:=(nj hq wc).1 e he hb;have:=ih e.on aD w7;rw[Array.getD_eq_getD_getElem?] at this |-;rw[Array.getElem?_eq_getElem w7] at this |-;exact this⟩
    rw[hr] at this;cases this
 have ow:∀(aP:Nat) (ld:Array Bool) (a:Act) (w:World),ld.size=m->ops.size-m<=aP->Region.ready .any (ops.toList.take m).toArray ld=[]->R' .normal a w->wpAny P .any ops R aP (ld++Array.replicate (ops.size-m) false) a w:=fun aP ld a w hs hf hr h =>
  Ie hq (ops.size-m) m aP _ a w (Nat.le_refl _) w7 hf ee (fun j hj=>by rw[O ld true hs j hj];exact LK ld hs hr j hj) (fun j hj pX=>DU ld true hs j hj pX) (hn a w h)
 intro aP;induction aP with
 | zero=>intro ld a w hs _ h;rw[Nat.zero_add];exact ow _ ld a w hs (Nat.le_refl _) h.1 h.2
 | succ aP ih =>
  intro ld a w hs qc h;obtain⟨h1,h2⟩:=h;have y7:∀i,i∈Region.ready .any (ops.toList.take m).toArray ld->∀k o,ops[k]?=some o->(ld.setIfInBounds i true).getD k false=true->∀e∈o.after,Region.binds .any e=true->(ld.setIfInBounds i true).getD e.on false=true:=fun i hi k o hk hd e he hb=>by
   have KT:∀j,ld.getD j false=true->(ld.setIfInBounds i true).getD j false=true:=fun j hj=>by
    rw[Array.getD_eq_getD_getElem?] at hj |-;rw[Array.getElem?_setIfInBounds];split
    ·split
     ·rfl
     rename_i h1 h2;subst h1;rw[Array.getElem?_eq_none w7] at hj;cases hj
    exact hj
   refine KT _ ?_;by_cases AF:i=k
   ·subst AF;obtain⟨q1,o',q2,q3⟩:=mem_ready.1 hi;have M:i<m:=(by have:=(Array.getElem?_eq_some_iff.1 q2).1;omega)
    rw[I i M,hk] at q2;obtain rfl:=Option.some.inj q2;exact q3 e he hb
   refine qc k o hk ?_ e he hb;rw[Array.getD_eq_getD_getElem?,Array.getElem?_setIfInBounds,if_neg AF] at hd;rw[Array.getD_eq_getD_getElem?];exact hd
  by_cases hr:Region.ready .any (ops.toList.take m).toArray ld=[]
  ·exact ow _ ld a w hs w7 hr (h1 hr)
  rw[show aP+1+(ops.size-m)=(aP+(ops.size-m))+1 by omega];have ov:∀i,i<m->(ld++Array.replicate (ops.size-m) false).setIfInBounds i true=ld.setIfInBounds i true++Array.replicate (ops.size-m) false:=fun i M=>by
   rw[Array.setIfInBounds_append_left w7]
  by_cases gk:∃f o,f∈Region.ready .any (ops.toList.take m).toArray ld/\ops[f]?=some o/\qP ops f o=true
  ·
   obtain⟨f,o,hf,wo,Z⟩:=gk;have U:vm o=true:=(by unfold qP at Z;rw[Bool.and_eq_true] at Z;exact Z.1)
   have wq:f<m:=by
    obtain⟨_,o',q2,_⟩:=mem_ready.1 hf;have:=(Array.getElem?_eq_some_iff.1 q2).1;omega
   have E:=h2 f hf;unfold wpOp at E;rw[I f wq,wo] at E;have hg:o.guard=none:=by
    unfold vm at U;split at U
    ·exact Option.isNone_iff_eq_none.1 U
    ·exact Option.isNone_iff_eq_none.1 U
    cases U
   have AG:∀(Fb:Array Oper),Region.wanted o (yielded Fb a.tmps)=true:=fun Fb=>by simp[Region.wanted,hg]
   simp only[AG,if_true] at E;obtain⟨v,hy,h4⟩:∃v,(∀w',(execOp a.eval o).run P w' = .ok (.value v) w')/\wpAny P .any (ops.toList.take m).toArray R' aP (ld.setIfInBounds f true) (a.put o.dst v) w:=by
    have hc:(∃v,execOp a.eval o=Sem.pure (.value v))\/∃s,execOp a.eval o=Sem.halt (.stuck s):=by
     unfold vm at U;split at U
     ·rename_i y i rL;unfold execOp;rw[rL];show(∃v,(Instr.extract (a.eval y) i).bind _=_)\/∃s,(Instr.extract (a.eval y) i).bind _=_;unfold Instr.extract;split
      ·split
       ·exact .inl ⟨_,rfl⟩
       exact .inr ⟨_,rfl⟩
      exact .inr ⟨_,rfl⟩
     ·rename_i y rL;unfold execOp;rw[rL];exact .inl ⟨_,rfl⟩
     cases U
    have NG:¬o.asks P a w:=fun ha=>by
     unfold Oper.asks at ha;rcases hc with ⟨v,e⟩|⟨s,e⟩<;>rw[e] at ha<;>simp[Sem.runT] at ha
    rcases E with E|⟨E,_⟩
    rotate_left
    ·exact absurd E NG
    unfold Oper.wp at E;rcases hc with ⟨v,e⟩|⟨s,e⟩
    ·refine⟨v,fun w'=>by rw[e];rfl,?_⟩;rw[e] at E;exact E
    rw[e] at E;exact E.elim
   refine wpAny_first (v:=v) wo (Region.noSelect_spec cR) (hQ _ _) _ _ a w (fun j oj NH NI j6 NJ=>?_) ((rK ld hs f wq).2 hf) (.inl ⟨AG _,hy⟩) ?_
   ·rcases(nj hq wo).2.2.2 Z j oj NH NI with ⟨e,he,hb,Y⟩|⟨e,he,hb,Y⟩|h5
    ·exact absurd Y (NJ e he hb)
    ·obtain⟨_,o',p1,p2⟩:=mem_ready.1 ((rK ld hs f wq).2 hf);rw[wo] at p1;obtain rfl:=Option.some.inj p1;have h6:=p2 e he hb;rw[Y] at h6;rw[Array.getD_eq_getD_getElem?] at h6 j6;cases hx:(ld++Array.replicate (ops.size-m) false)[j]? with
     | none=>rw[hx] at h6;cases h6
     | some b=>rw[hx] at h6 j6;simp only[Option.getD_some] at h6 j6;rw[h6] at j6;cases j6
    exact h5
   rw[ov f wq];exact ih _ _ _ (by simpa using hs) (y7 f hf) h4
  have LL:∀i,i∈Region.ready .any ops (ld++Array.replicate (ops.size-m) false)->i<m:=fun i hi=>by
   rcases Nat.lt_or_ge i m with q|q
   ·exact q
   obtain⟨q1,o,q2,q3⟩:=mem_ready.1 hi;refine absurd ?_ hr;rw[eq_nil_iff_forall_not_mem];intro j hj;obtain⟨p1,o',p2,_⟩:=mem_ready.1 hj;have NK:j<m:=(by have:=(Array.getElem?_eq_some_iff.1 p2).1;omega)
   have Pn:=(Array.getElem?_eq_some_iff.1 q2).1;rcases(nj hq q2).2.2.1 q with ⟨rfl,hw⟩|⟨aD,e,he,hb,Y⟩
   ·rcases hw j NK with hw|⟨p,h8,h9⟩
    ·have hd:=BY (ops:=ops) (D:=fun k=>ld.getD k false=true) qc i (tV o) (fun k hk=>by
      obtain⟨e,he,hb,Y⟩:=CW hk;have h5:=q3 e he hb;have h6:=(nj hq q2).1 e he hb;rw[O ld false hs _ h6,Y] at h5;exact h5) j hw
     rw[Array.getD_eq_getD_getElem?,Array.getElem?_eq_getElem w7] at hd p1;simp only[Option.getD_some] at hd p1;rw[hd] at p1;cases p1
    exact gk ⟨j,p,hj,h8,h9⟩
   have h5:=q3 e he hb;rw[Y,DU ld false hs (i-1) w7 w7] at h5;cases h5
  refine⟨fun h0=>?_,fun i hi=>?_⟩
  ·obtain⟨i,hi⟩:=exists_mem_of_ne_nil _ hr;have qd:i<m:=by
    obtain⟨_,o,q2,_⟩:=mem_ready.1 hi;have:=(Array.getElem?_eq_some_iff.1 q2).1;omega
   have:=(rK ld hs i qd).2 hi;rw[h0] at this;cases this
  have M:=LL i hi;have E:=h2 i ((rK ld hs i M).1 hi);rw[ov i M];unfold wpOp at E |-;rw[I i M] at E;have Fc:ops[i]?=some (ops[i]'w7):=Array.getElem?_eq_getElem w7;rw[Fc] at E |-;have hw:Region.wanted (ops[i]'w7) (yielded (ops.toList.take m).toArray a.tmps)=Region.wanted (ops[i]'w7) (yielded ops a.tmps):=by
   unfold Region.wanted;cases hg:(ops[i]'w7).guard with
   | none=>rfl
   | some p =>
    obtain⟨g,b⟩:=p;have:=(nj hq Fc).2.1 M g b hg;simp only[yielded,I g this]
  simp only[hw] at E |-;split
  ·rename_i AH;simp only[AH,if_true] at E;rcases E with E|⟨E,a0,w0,h4⟩
   ·exact .inl (Ic E (fun a' w' h'=>ih _ a' w' (by simpa using hs) (y7 i ((rK ld hs i M).1 hi)) h') hp ho)
   exact .inr ⟨E,a0,w0,ho _ _ h4⟩
  rename_i AH;simp only[AH] at E;exact ih _ _ _ (by simpa using hs) (y7 i ((rK ld hs i M).1 hi)) E
theorem JU(cR:Region.noSelect l.toArray=true)(j8:NP Q)(hq:mu m l.toArray=true)(hm:m<=l.length){aP:Nat}(hs:ld.size=m)(E:∀k,ld.getD k false=false)(h:wpAny P .any (l.take m).toArray (LQ C (Tl P C l.toArray (l.drop m) Q)) aP ld a w):wpAny P .any l.toArray (LQ C Q) (aP+(l.length-m)) (ld++Array.replicate (l.length-m) false) a w:=by
 have h1:=If (P:=P) (ops:=l.toArray) (R:=LQ C Q) (R':=LQ C (Tl P C l.toArray (l.drop m) Q)) hq (by simpa using hm) (fun a w h=>by
  rcases h with ⟨y,h1,h2⟩|⟨h1,_⟩
  ·have:=wpOps_eq_wpList (P:=P) (ops:=l.toArray) (Q:=LQ C Q) (l.drop m) m (fun j=>by simp);rw[length_drop] at this;rw[show l.toArray.size-m=l.length-m by simp,this];exact h2 a w h1
  cases h1) (fun I a w h=>h) (fun a w h=>h) cR (fun d v=>sL j8 d v) aP ld a w hs (fun k o hk hd=>by rw[E k] at hd;cases hd)
 simpa using h1 pV
theorem ya (m:Nat) (T:List Nat) (cR:Region.noSelect l.toArray=true) (j8:NP Q) (hm:P.follows .mixedOrders=true) (hl:m<=l.length) (hq:mu m l.toArray=true) (hT:∀b∈T,b∈aq x.S)
  (h:bt P C (l.take m).toArray (aq x.S) T m (Array.replicate m false) x (Tl P C l.toArray (l.drop m) Q)):CD P C (.region id l.toArray true) x Q:=fun a w hs =>
 wp_region_any hm (by
  have h1:=h a {w with drawn:=w.drawn+1} ⟨hs.defers,hs.size,fun t ht=>(hs.env t ht).mono fun b _ hn=>⟨rfl,hn⟩,⟨fun B E=>by
   obtain⟨r0,cur,r1,r2,I,M⟩:=hs.own.at_ B E;exact⟨r0,cur,r1,r2,I,fun i hi=>by
    obtain⟨u,hu,hq⟩:=M i hi;exact⟨u,hu,hq.mono fun b _ hn=>⟨rfl,hn⟩⟩⟩,hs.own.apart⟩,⟨hs.fr.os,hs.fr.tape,hs.fr.output,hs.fr.size,hs.fr.block⟩,hs.ex,hs.dx⟩ rfl hT
  have h2:=JU cR j8 hq hl cq (fun k=>by rw[Array.getD_eq_getD_getElem?,Array.getElem?_replicate];split<;>rfl) (wpAny_of_held _ _ _ _ h1);rw[Array.replicate_append_replicate,show m+(l.length-m)=l.length by omega] at h2;simpa using h2)
theorem JV(cR:Region.noSelect l.toArray=true)(j8:NP Q)(hm:P.follows .mixedOrders=true)(hl:m<=l.length)(hq:mu m l.toArray=true)(hp:je (l.take m).toArray=true)(h:PD true P C.G n S (l.take m).toArray (l.take m) e [] e')(K:OD P C l.toArray (l.drop m) ⟨n,e',S⟩ Q):CD P C (.region id l.toArray true) ⟨n,e,S⟩ Q :=
 ya m [] cR j8 hm hl hq (fun _ hb=>by cases hb) (by
  have:=bt.pd (C:=C) (Q:=Tl P C l.toArray (l.drop m) Q) hp pV K;have hz:(l.take m).toArray.size=m:=(by simp;omega)
  rw[hz] at this;exact this)
theorem bp.bare(hs:bp C ⟨n,e,B++S⟩ a w):bp ⟨fun b=>C.X b\/b∈aq B,w,aq S,C.G,C.df,C.mK⟩ ⟨n,e,S⟩ a w/\live C.X (B++S)=live (fun b=>C.X b\/b∈aq B) S/\∀b∈aq B,b∉aq S:=by
 have hl:live C.X (B++S)=live (fun b=>C.X b\/b∈aq B) S:=by
  funext b;simp only[live,aq,map_append,mem_append,eq_iff_iff];constructor
  ·rintro(h1|h1|h1)
   ·exact .inl (.inl h1)
   ·exact .inl (.inr h1)
   exact .inr h1
  rintro((h1|h1)|h1)
  ·exact .inl h1
  ·exact .inr (.inl h1)
  exact .inr (.inr h1)
 have I:aq (B++S)=aq B++aq S:=(by simp[aq])
 have hnd:=hs.own.apart;simp only[I] at hnd;have E:∀b∈aq B,b∉aq S:=fun b h1 h2=>(nodup_append.1 hnd).2.2 b h1 b h2 rfl;refine⟨⟨hs.defers,hs.size,fun q hq=>?_,⟨fun A hA=>?_,(nodup_append.1 hnd).2.1⟩,Fr.refl _ _,fun b hb=>?_,fun g hg=>?_⟩,hl,E⟩
 ·have:=hs.env q hq;simp only[hl] at this;exact this
 ·have:=hs.own.at_ A (mem_append_right _ hA);simp only[hl] at this;exact this
 ·rcases hb with hb|hb
  ·obtain⟨h1,h2⟩:=hs.ex b hb;exact⟨Nat.lt_of_lt_of_le h1 hs.fr.size,fun hm=>(hs.fr.block b h1 h2).2 (by simp only[I];exact mem_append_right _ hm)⟩
  obtain⟨A,hA,rfl⟩:=mem_map.1 hb;exact⟨(hs.own.at_ A (mem_append_left _ hA)).1,E _ hb⟩
 obtain⟨⟨h1,h2,h3⟩,h4⟩:=hs.dx g hg;have M:=hs.fr.block g.1 h1 h2;simp only[I] at M;exact⟨⟨Nat.lt_of_lt_of_le h1 hs.fr.size,fun hm=>M.2 (mem_append_right _ hm),fun hm=>hm.elim h3 fun hm=>M.2 (mem_append_left _ hm)⟩,fun i v hi=>(h4 i v hi).on M.1⟩
theorem e8.frame(h:e8 P G ⟨n,e,S⟩ o [] (fun y=>y=⟨n,(t,d)::e,S⟩)):e8 P G ⟨n,e,B++S⟩ o [] (fun y=>y=⟨n,(t,d)::e,B++S⟩):=fun C a w K Q hG hs Y=>by
 obtain⟨lX,hl,E⟩:=hs.bare;have M:aq (B++S)=aq B++aq S:=(by simp[aq])
 refine h ⟨fun b=>C.X b\/b∈aq B,w,aq S,C.G,C.df,C.mK⟩ a w K Q hG lX fun y Z w' hy k hc hf=>?_;subst hy;have I:Fr w (aq (B++S)) w' (aq (B++S)):=⟨hf.os,hf.tape,hf.output,hf.size,fun b h1 h2=>⟨(hf.block b h1 (fun hm=>h2 (by rw[M];exact mem_append_right _ hm))).1,h2⟩⟩
 refine Y _ Z w' rfl ⟨k.defers,k.size,fun q hq=>?_,⟨fun A hA=>?_,hs.own.apart⟩,hs.fr.trans I,hs.ex,hs.dx⟩ hc I
 ·have:=k.env q hq;simp only[hl];exact this
 simp only[hl];rcases mem_append.1 hA with hA|hA
 ·obtain⟨r0,cur,r1,r2,r3,r4⟩:=hs.own.at_ A (mem_append_left _ hA);have O:A.b∈aq B:=mem_map.2 ⟨A,hA,rfl⟩;have U:=(hf.block A.b r0 (E _ O)).1;refine⟨kS r0 U,cur,U.trans r1,r2,r3,fun i hi=>?_⟩;obtain⟨u,hu,hr⟩:=r4 i hi;simp only[hl] at hr;exact⟨u,hu,hr.mono fun b h1 h2=>⟨(hf.block b h1 (fun hm=>h2 (.inr hm))).1,h2⟩⟩
 exact k.own.at_ A hA
theorem bS.frame{b:Bool}(h:bS ops ⟨n,e,S⟩ o b):bS ops ⟨n,e,B++S⟩ o b:=fun C a w hs=>h _ a w hs.bare.1
theorem bp.JW{I:Act}{w':World}{v:Value}(h:bp C ⟨n,e,S⟩ a w)(k:bp C ⟨n,(t,d)::l',S'⟩ I w')(hf:Fr w (aq S) w' (aq S'))(M:I.tmps=(a.put (some t) v).tmps):bp C ⟨n,(t,d)::e,S'⟩ I w':=by
 refine⟨k.defers,k.size,fun q hq=>?_,k.own,k.fr,k.ex,k.dx⟩;by_cases E:t=q
 ·subst E;have:=k.env t hq;simp only[ey,if_pos] at this |-;exact this
 have h1:=h.env q hq;have h2:I.tmps.getD q undef=a.tmps.getD q undef:=(by rw[M];simp[Act.put,Array.getD_eq_getD_getElem?,Array.getElem?_setIfInBounds,E])
 simp only[ey,if_neg E];rw[h2];exact h1.mono fun b hb hn=>⟨(hf.block b hb (fun hm=>hn (.inr hm))).1,fun hl=>hl.elim (fun hx=>hn (.inl hx)) fun hm=>(hf.block b hb (fun hm=>hn (.inr hm))).2 hm⟩
theorem G3{z:Value}(ho:o.op = .alloc te)(hd:o.dst=some t)(hz:∀w,(zeroValue te).run P w = .ok z w)(hne:isMap te=false:=by rfl):e8 P G ⟨n,e,S⟩ o [] (fun y=>y=⟨n,(t,.cx)::e,S⟩):=fun C a w K Q hG h M =>
 xE (hne:=hne) ho hd hz rfl C a w K Q hG h fun y E w' ⟨b,hy⟩ hs hc hf=>by
  subst hy;have h1:=Wk.drop n ((t,.v (.pointer (some ⟨b,0,none⟩)))::e) _ S (sublist_cons_self _ _) C E w' hs;refine M _ E w' rfl ⟨h1.defers,h1.size,fun q hq=>?_,h1.own,h1.fr,h1.ex,h1.dx⟩ hc ⟨hf.os,hf.tape,hf.output,hf.size,fun b hb hn=>⟨(hf.block b hb hn).1,hn⟩⟩;have h2:=h1.env q hq;simp only[ey] at h2 |-;by_cases I:t=q
  ·rw[if_pos I];exact .cx _
  rw[if_neg I] at h2 |-;exact h2
def bx(te:TypeId)(ds:List D):Option Nat->List ak
 | some b=>[⟨b,te,ds.length,ds⟩]
 | none=>[]
theorem IY {eF:List (Nat×D)} {w1:World} {ia:Nat} {ds:List D} (mR:ops[ia]?=some oa) (nM:oa.dst=some ta) (lY:oa.guard=none) (hE:∀S',e8 P C.G ⟨n,[],S'⟩ oa [] (yy ⟨n,[],S'⟩ ta te ds))
  (hj:look ta eF = .cx) (hp:je ops=true) (H:∀i,i<ops.size->Gd P C.G n S ops eF i) (hQ:∀b,Q .normal ⟨n,(ta,.v (.pointer (some ⟨b,0,none⟩)))::eF,⟨b,te,ds.length,ds⟩::S⟩):∀(aP:Nat) (ld:Array Bool) (env:List (Nat×D)) (ob:Option Nat) (a:Act) (w:World),
  left ops.size ld<=aP->bp C ⟨n,env,bx te ds ob++S⟩ a w->Fr w1 S1 w (aq (bx te ds ob++S))->(ld.getD ia true=true->∃b,ob=some b/\look ta env = .v (.pointer (some ⟨b,0,none⟩)))->(ld.getD ia true=false->ob=none) ->
   (∀q,q≠ta->(∀j o,ops[j]?=some o->o.dst=some q->ld.getD j true=true)->look q env=look q eF)->wpAnyH P .any ops (LQ C Q) (gJ w1 S1 []) aP ld a w:=by
 have NL:∀j o,ops[j]?=some o->o.dst=some ta->j=ia:=fun j o hj hd=>by
  rcases Nat.lt_trichotomy j ia with q|q|q
  ·obtain⟨t',h1,h2⟩:=(px hp mR).2;rw[nM] at h1;obtain rfl:=Option.some.inj h1;exact absurd hd (h2 j o q hj)
  ·exact q
  obtain⟨t',h1,h2⟩:=(px hp hj).2;rw[hd] at h1;obtain rfl:=Option.some.inj h1;exact absurd nM (h2 ia oa q mR)
 have iu:∀(ld:Array Bool) (env:List (Nat×D)) (ob:Option Nat) (a:Act) (w:World),bp C ⟨n,env,bx te ds ob++S⟩ a w->(ld.getD ia true=true->∃b,ob=some b/\look ta env = .v (.pointer (some ⟨b,0,none⟩)))->(∀q,q≠ta->(∀j o,ops[j]?=some o->o.dst=some q->ld.getD j true=true)->look q env=look q eF)->(∀j,j<ops.size->ld.getD j true=true)->LQ C Q .normal a w:=fun ld env ob a w hs hb he I=>by
  obtain⟨b,rfl,Fe⟩:=hb (I ia (Array.getElem?_eq_some_iff.1 mR).1);refine .inl ⟨⟨n,(ta,.v (.pointer (some ⟨b,0,none⟩)))::eF,⟨b,te,ds.length,ds⟩::S⟩,⟨hs.defers,hs.size,fun q hq=>?_,hs.own,hs.fr,hs.ex,hs.dx⟩,hQ b⟩;have:=hs.env q hq;simp only[ey];by_cases M:ta=q
  ·subst M;rw[if_pos rfl];rw[Fe] at this;exact this
  rw[if_neg M];rw[he q (fun e=>M e.symm) fun j o hj _=>I j (Array.getElem?_eq_some_iff.1 hj).1] at this;exact this
 intro aP;induction aP with
 | zero =>
  intro ld env ob a w hl hs hf hb jd he;have I:∀j,j<ops.size->ld.getD j true=true:=fun j hj=>by
   cases hq:ld.getD j true with
   | true=>rfl
   | false=>have:=u4 hj hq;omega
  refine⟨?_,iu ld env ob a w hs hb he I⟩;rw[eq_nil_iff_forall_not_mem];intro j hj;obtain⟨h1,o,h2,_⟩:=mem_ready.1 hj;have:=I j (Array.getElem?_eq_some_iff.1 h2).1;rw[h1] at this;cases this
 | succ aP ih =>
  intro ld env ob a w hl hs hf hb jd he;refine⟨fun h0=>iu ld env ob a w hs hb he (Di hp h0),fun i hi=>?_⟩;obtain⟨j6,o,O,yY⟩:=mem_ready.1 hi;have aD:=(Array.getElem?_eq_some_iff.1 O).1;have Lp:=u4 aD j6;have ov:∀j,(ld.setIfInBounds i true).getD j true=true↔j=i\/ld.getD j true=true:=fun j=>by
   by_cases hj:j=i
   ·subst hj;have jb:j<ld.size:=by
     rcases Nat.lt_or_ge j ld.size with h|h
     ·exact h
     rw[Array.getD_eq_getD_getElem?,Array.getElem?_eq_none h] at j6;cases j6
    simp[Array.getD_eq_getD_getElem?,Array.getElem?_setIfInBounds,jb]
   simp[Array.getD_eq_getD_getElem?,Array.getElem?_setIfInBounds,hj,Ne.symm hj]
  by_cases AI:i=ia
  ·subst AI;rw[mR] at O;obtain rfl:=Option.some.inj O;obtain rfl:=jd j6;unfold wpOp;rw[mR];have hw:Region.wanted oa (yielded ops a.tmps)=true:=(by simp[Region.wanted,lY])
   simp only[hw,if_true];have NM:bp C ⟨n,[],bx te ds none++S⟩ a w:=⟨hs.defers,hs.size,fun q hq=>.cx _,hs.own,hs.fr,hs.ex,hs.dx⟩
   have h2:=hE (bx te ds none++S) C a w (fun Y w'=>∃b,bp C ⟨n,[(ta,.v (.pointer (some ⟨b,0,none⟩)))],⟨b,te,ds.length,ds⟩::S⟩ Y w'/\Fr w (aq S) w' (aq (⟨b,te,ds.length,ds⟩::S))) (LQ C Q) rfl NM (fun y Y w' ⟨b,hy⟩ lX _ nK=>by subst hy;exact⟨b,lX,nK⟩);refine .inl (Oper.wp_mono (fun Y w' Z=>?_) (u0 h2));obtain⟨⟨b,h4,h5⟩,v,h6⟩:=Z;rw[nM] at h6;have gk:Fr w1 S1 w' (aq (bx te ds (some b)++S)):=hf.trans h5;refine⟨⟨fun b h2 Z=>(gk.block b h2 Z).1,fun b h2=>by cases h2⟩,ih _ ((ta,.v (.pointer (some ⟨b,0,none⟩)))::env) (some b) Y w' w7 (bp.JW (S:=S) hs h4 h5 h6) gk (fun _=>⟨b,rfl,by rw[ey,if_pos rfl]⟩) (fun h=>by have:=(ov i).2 (.inl rfl);rw[this] at h;cases h) fun q hq tM=>?_⟩;rw[ey,if_neg (fun e=>hq e.symm)];refine he q hq fun j oj hj E=>?_;rcases(ov j).1 (tM j oj hj E) with rfl|h2
   ·rw[mR] at hj;obtain rfl:=Option.some.inj hj;rw[nM] at E;exact absurd (Option.some.inj E).symm hq
   exact h2
  obtain⟨o',t,ts,l',h1,hd,hq,j5,hk,NN⟩:=H i aD;rw[O] at h1;obtain rfl:=Option.some.inj h1;have LM:t≠ta:=fun e=>AI (NL i o O (by rw[hd,e]))
  -- what it looks at is there,or nothing is said of it
  have p8:bp C ⟨n,l',bx te ds ob++S⟩ a w:=⟨hs.defers,hs.size,fun q Ap=>by
   by_cases hm:q∈ts
   ·have Ff:=hm;rw[<-hk] at Ff;obtain⟨p,fk,rfl⟩:=mem_map.1 Ff;obtain⟨h2,Z⟩:=j5 p fk;have h9:=hs.env p.1 Ap;by_cases mO:p.1=ta
    ·rw[<-Z,mO,hj];exact .cx _
    have:look p.1 env=look p.1 l':=by
     rw[<-Z];refine he p.1 mO fun j oj hj E=>?_;obtain⟨e1,pZ,iP,p0⟩:=u3 hq hj E h2;have:=yY e1 pZ iP;rw[p0] at this;rw[Array.getD_eq_getD_getElem?] at this |-;cases hx:ld[j]? with
     | none=>rw[hx] at this;cases this
     | some b=>rw[hx] at this;exact this
    rw[this] at h9;exact h9
   have:look q l' = .cx:=by
    rw[<-hk] at hm;exact xZ hm
   rw[this];exact .cx _,hs.own,hs.fr,hs.ex,hs.dx⟩
  have U:∀(Y:Act) (w':World),bp C ⟨n,(t,look t eF)::env,bx te ds ob++S⟩ Y w'->Fr w (aq (bx te ds ob++S)) w' (aq (bx te ds ob++S))->gJ w1 S1 [] w'/\wpAnyH P .any ops (LQ C Q) (gJ w1 S1 []) aP (ld.setIfInBounds i true) Y w':=fun Y w' lX nK=>by
   have gk:Fr w1 S1 w' (aq (bx te ds ob++S)):=hf.trans nK;have Fg:(ld.setIfInBounds i true).getD ia true=ld.getD ia true:=by
    simp[Array.getD_eq_getD_getElem?,Array.getElem?_setIfInBounds,AI]
   refine⟨⟨fun b h2 Z=>(gk.block b h2 Z).1,fun b h2=>by cases h2⟩,ih _ _ ob Y w' w7 lX gk (fun h=>?_) (fun h=>jd (by rw[Fg] at h;exact h)) fun q NO tM=>?_⟩
   ·rw[Fg] at h;obtain⟨b,h2,Z⟩:=hb h;exact⟨b,h2,by rw[ey,if_neg LM];exact Z⟩
   rw[ey];by_cases M:t=q
   ·rw[if_pos M,M]
   rw[if_neg M];refine he q NO fun j oj hj E=>?_;rcases(ov j).1 (tM j oj hj E) with rfl|h2
   ·rw[O] at hj;obtain rfl:=Option.some.inj hj;rw[hd] at E;exact absurd (Option.some.inj E) M
   exact h2
  unfold wpOp;rw[O];rcases NN with ⟨hw,NQ⟩|⟨hw,hv⟩
  ·simp only[hw.frame (B:=bx te ds ob) C a w p8,if_true];have h2:=NQ.frame (B:=bx te ds ob) C a w (fun Y w'=>bp C ⟨n,(t,look t eF)::l',bx te ds ob++S⟩ Y w'/\Fr w (aq (bx te ds ob++S)) w' (aq (bx te ds ob++S))) (LQ C Q) rfl p8 (fun y Y w' hy lX _ nK=>by subst hy;exact⟨lX,nK⟩);refine .inl (Oper.wp_mono (fun Y w' Z=>?_) (u0 h2));obtain⟨⟨h4,h5⟩,v,h6⟩:=Z;rw[hd] at h6;exact U Y w' (hs.sO h4 h5 h6) h5
  simp only[hw.frame (B:=bx te ds ob) C a w p8,hd];have:=hs.put (t:=t) (.v (w:=w) (L:=live C.X (bx te ds ob++S)) undef);rw[hv] at U;exact U _ w this (Fr.refl _ _)
theorem JX {ia:Nat} {z:Value} {ds:List D} (cR:Region.noSelect l.toArray=true) (j8:NP Q) (hm:P.follows .mixedOrders=true) (hl:m<=l.length) (hq:mu m l.toArray=true) (hp:je (l.take m).toArray=true) (mR:(l.take m)[ia]?=some oa) (ho:oa.op = .alloc te) (nM:oa.dst=some ta) (lY:oa.guard=none) (hz:∀w,(zeroValue te).run P w = .ok z w) (ja:z.cells.toList.map .v=ds)
  (h:PD true P C.G n S (l.take m).toArray (l.take m) e [] e') (hj:look ta e' = .cx) (K:∀b,OD P C l.toArray (l.drop m) ⟨n,(ta,.v (.pointer (some ⟨b,0,none⟩)))::e',⟨b,te,ds.length,ds⟩::S⟩ Q) (hne:isMap te=false:=by rfl):CD P C (.region id l.toArray true) ⟨n,e,S⟩ Q :=
 ya m [] cR j8 hm hl hq (fun _ hb=>by cases hb) (fun a w hs _ _=>by
  have h':PD true P C.G n S (l.take m).toArray (l.take m).toArray.toList e [] e':=(by simpa using h)
  have hg:=h'.DP hp rfl 0 rfl;have E:(l.take m).toArray[ia]?=some oa:=(by simpa using mR)
  have I:(l.take m).toArray.size=m:=(by simp;omega)
  refine IY (Q:=Tl P C l.toArray (l.drop m) Q) E nM lY (fun S'=>xE (hne:=hne) ho nM hz ja) hj hp (fun i hi=>hg i (Nat.zero_le _) hi) K _ _ e none a w ?_ hs (Fr.refl _ _) (fun h=>?_) (fun _=>rfl) fun q U O=>?_
  ·rw[I];unfold left;exact Nat.le_trans (length_filter_le _ _) cq
  ·have aD:=(Array.getElem?_eq_some_iff.1 E).1;rw[I] at aD;simp[Array.getD_eq_getD_getElem?,aD] at h
  refine(h'.later fun o ho hd=>?_).symm;obtain⟨j,hj,rfl⟩:=mem_iff_getElem.1 ho;have M:j<(l.take m).toArray.size:=(by simpa using hj)
  have:=O j _ (by rw[<-Array.getElem?_toList,getElem?_eq_getElem hj]) hd;rw[I] at M;simp[Array.getD_eq_getD_getElem?,M] at this)
variable {R:List (Nat×D)->Prop}
theorem Wk.JY(h:gG e e'):Wk ⟨n,(t,d)::e,S⟩ ⟨n,(t,d)::e',S⟩:=fun C a w hs=>⟨hs.defers,hs.size,fun q hq=>by
 have h1:=hs.env q hq;simp only[ey] at h1 |-;by_cases E:t=q
 ·rw[if_pos E] at h1 |-;exact h1
 rw[if_neg E] at h1 |-;rcases h.look q with h2|h2
 ·rw[h2];exact h1
 rw[h2];exact .cx _,hs.own,hs.fr,hs.ex,hs.dx⟩
theorem Fh(m:Nat)(ts:List Nat)(h:PE true P C.G n S (l.take m).toArray ts (l.take m) e fun l'=>OD P C l.toArray (l.drop m) ⟨n,l',S⟩ Q)(hm:P.follows .mixedOrders=true:=by kernel_rfl)(hl:Nat.ble m l.length=true:=by kernel_rfl)(hq:mu m l.toArray=true:=by kernel_rfl)(hp:je (l.take m).toArray=true:=by kernel_rfl)(cR:Region.noSelect l.toArray=true:=by kernel_rfl)(j8:NP Q:=by exact Az):CD P C (.region id l.toArray true) ⟨n,e,S⟩ Q:=by
 obtain⟨e',l',h1,h2,K⟩:=h;exact JV cR j8 hm (Nat.le_of_ble_eq_true hl) hq hp h1 (bc (Wk.gH h2.gH) K)
theorem AJ(m:Nat)(T:List Nat)(h:bt P C (l.take m).toArray (aq x.S) T m (Array.replicate m false) x (Tl P C l.toArray (l.drop m) Q))(hT:∀b∈T,b∈aq x.S)(hm:P.follows .mixedOrders=true:=by kernel_rfl)(hl:Nat.ble m l.length=true:=by kernel_rfl)(hq:mu m l.toArray=true:=by kernel_rfl)(cR:Region.noSelect l.toArray=true:=by kernel_rfl)(j8:NP Q:=by exact Az):CD P C (.region id l.toArray true) x Q:=ya m T cR j8 hm (Nat.le_of_ble_eq_true hl) hq hT h
theorem tW{T:List Nat}{aP:Nat}{E:Array Oper}{l2:List Oper}(K:OD P C E l2 x Q)(hr:Region.ready .any ops ld=[]:=by kernel_rfl):AD P C ops S1 T aP ld x (Tl P C E l2 Q):=bO hr K
theorem Fi (m ia:Nat) (ts:List Nat) (h:PE true P C.G n S (l.take m).toArray ts (l.take m) e fun l'=>look ta l' = .cx/\∀b,OD P C l.toArray (l.drop m) ⟨n,(ta,.v (.pointer (some ⟨b,0,none⟩)))::l',⟨b,te,(zs.map D.v).length,zs.map .v⟩::S⟩ Q) (hm:P.follows .mixedOrders=true:=by kernel_rfl) (hl:Nat.ble m l.length=true:=by kernel_rfl) (hq:mu m l.toArray=true:=by kernel_rfl) (hp:je (l.take m).toArray=true:=by kernel_rfl)
  (mR:(l.take m)[ia]?=some oa:=by exact rfl) (ho:oa.op = .alloc te:=by exact rfl) (nM:oa.dst=some ta:=by exact rfl) (lY:oa.guard=none:=by exact rfl) (hz:qO P te=some zs:=by exact Sb.hz) (ht:ts.elem ta=true:=by exact rfl) (hne:isMap te=false:=by rfl) (cR:Region.noSelect l.toArray=true:=by kernel_rfl) (j8:NP Q:=by exact Az):CD P C (.region id l.toArray true) ⟨n,e,S⟩ Q:=by
 obtain⟨e',l',h1,h2,hj,K⟩:=h;obtain⟨z,h3,h4⟩:=yp hz;exact JX (hne:=hne) cR j8 hm (Nat.le_of_ble_eq_true hl) hq hp mR ho nM lY h3 (by rw[h4]) h1 (by rw[<-h2.at (mem_of_elem_eq_true ht)];exact hj) fun b=>bc (Wk.JY h2.gH) (K b)
theorem Fj{c:Bool}{ts:List Nat}(K:PE c P G n S ops ts l ((t,.cx)::e) R)(ho:o.op = .alloc te:=by exact rfl)(hd:o.dst=some t:=by exact rfl)(hg:o.guard=none:=by exact rfl)(hz:qO P te=some zs:=by exact Sb.hz)(hq:(!c||jZ ops o [])=true:=by kernel_rfl)(hne:isMap te=false:=by rfl):PE c P G n S ops ts (o::l) e R:=by
 obtain⟨z,h3,_⟩:=yp hz;exact PE.cons hd dX.nil hq (mc hg) (G3 (hne:=hne) ho hd h3) K
end
section
variable {P:Program} {C:cj} {G:List (Nat×List Value)} {Q:Exit->St->Prop} {x:St} {ops:Array Oper} {l:List Oper} {o:Oper} {S1 T:List Nat} {aP i:Nat} {ld:Array Bool}
variable {sz:Nat} {y:Operand} {ad:Option Addr}
theorem GP {t e:TypeId} {len j:Nat} {cs ds:List D} {k:IntKind} {i:Int} {z:Operand} (ho:o.op = .index t y z) (hy:aO x y = .agg cs) (hz:aO x z = .v (.int k i))
  (E:∀w,(underlying t).run P w = .ok (.array len e) w) (hs:∀w,(sizeOf e).run P w = .ok sz w) (ha:∀w,(isAgg e).run P w = .ok true w) (hi:i=j) (hj:j<len) (hd:(cs.drop (j*sz)).take sz=ds):bH P G x o .none (.agg ds):=fun C a w _ h=>by
 have hr:=h.eval y;rw[hy] at hr;generalize hg:a.eval y=u at hr;subst hi hd;cases hr with
 | agg _ vs hl hr =>
  refine⟨.agg ((vs.drop (j*sz)).take sz).toArray,.agg _ _ (by simp[hl]) (fun i h1 h2=>?_),fun w' _=>?_⟩
  ·simp only[getElem_take,getElem_drop];exact hr _ _ _
  unfold execOp;simp[ho,hg,h.flat hz,Instr.index,asIntOf,E,hj,part,ha,asAgg,hs]
theorem Bw {t e:TypeId} {M hi:Option Operand} (ho:o.op = .slice t y M hi none) (hy:aO x y = .v (.slice none 0 0)) (E:jV x M 0 0) (I:jV x hi 0 0)
  (O:∀w,(underlying t).run P w = .ok (.slice e) w) (hs:∀w,(sizeOf e).run P w = .ok sz w):bH P G x o .none (.v (.slice none 0 0)):=fun C a w _ h =>
 ⟨_,.v _,fun w' _=>by
  have U:=n8 h E;have Y:=n8 h I;unfold execOp;simp[ho,h.flat hy,Instr.sliceAt,Instr.slice,O,qp U Y (Nat.zero_le _) (Nat.le_refl _),hs]⟩
theorem bV.pos{e n cap:Nat}{cs:List D}{S:List ak}(h:bV e sz cs n ad cap S)(hn:0<n):∃b,ad=some ⟨b,0,none⟩/\n<=cap/\cap<=maxLen/\S=[⟨b,e,cap*sz,cs⟩]:=by
 rcases h with ⟨h1,_,_,_,_⟩|h
 ·omega
 exact h
theorem n6 {α:Type} {g:α->List D} {ls new:List α} {s:Operand} {t e tt bytes cap:Nat} {z:Value} {Sq R:List ak} (hg:∀a,(g a).length=sz) (hg1:∀a,(g a).all one=true) (O:ops[i]?=some o) (hw:bS ops x o true) (ho:o.op = .call {callee:=.builtin .append,args:=#[s,y],argTypes:=#[t,t]}) (hd:o.dst=some tt)
  (ht:P.underlying t=some (.slice e)) (hi:(P.info? e).map (fun i=>(i.zero,i.size,i.bytes))=some (some z,sz,bytes)) (dy:z.cells.size=sz) (U:0<sz)
  (hs:aO x s = .v (.slice ad ls.length cap)) (Y:bV e sz (ls.flatMap g) ls.length ad cap Sq) (hp:x.S.Perm (Sq++R))
  (hy:aO x y = .list sz (new.flatMap g) new.length) (hm:0<new.length) (Z:ls.length+new.length<=maxLen) (I:(ls.length+new.length)*bytes<=140737488355328)
  (K:∀M E,(ls++new).length<=E->E<=maxLen->AD P C ops S1 T aP (ld.setIfInBounds i true) ⟨x.n,(tt,.v (.slice (some ⟨M,0,none⟩) (ls++new).length E))::x.env,⟨M,e,E*sz,(ls++new).flatMap g⟩::R⟩ Q) (hne:isMap e=false:=by rfl)
  (hT:∀b∈T,b∈aq R:=by first|exact fun b hb=>hb|(intro b hb;simp[aq] at hb |-;first|exact hb|exact .inl hb|(rcases hb with hb|hb<;>simp[hb])|(rcases hb with hb|hb|hb<;>simp[hb])|(rcases hb with hb|hb|hb|hb<;>simp[hb])|(rcases hb with hb|hb|hb|hb|hb<;>simp[hb])|(rcases hb with hb|hb|hb|hb|hb|hb<;>simp[hb])|(rcases hb with hb|hb|hb|hb|hb|hb|hb<;>simp[hb])|(rcases hb with hb|hb|hb|hb|hb|hb|hb|hb<;>simp[hb]))):ea P C ops S1 T aP ld x Q i :=
 Bn (hne:=hne) O hw ho hd ht hi dy U hs Y hp (de hg ls) hy (sE hg1 new) hm Z I hT fun M E h1 h2=>by
  have:=K M E (by rw[length_append];exact h1) h2;rw[length_append,flatMap_append] at this;exact this
end
section
variable {P:Program} {C:cj} {G:List (Nat×List Value)} {Q:Exit->St->Prop} {x:St} {ops:Array Oper} {l:List Oper} {o:Oper}
def VX(P:Program)(G:List (Nat×List Value))(f:FuncId)(args:List D)(S:List ak)(post:D->List ak->Prop)(Ay:List PanicEntry->Prop):Prop :=
 ∀(X:Nat->Prop) (w:World) (vs:List Value),mL G X w S args vs->Calls P f vs.toArray w fun e w' =>
  (∃v r S',e = .returned v/\post r S'/\Own w' (live X S') S'/\bP w' (live X S') r v/\Fr w (aq S) w' (aq S'))\/(∃ch,e = .panicked ch/\Ay ch/\Fr w (aq S) w' [])
theorem bp.bK{a:Act}{w:World}(h:bp C x a w)(hG:C.G=G){f:FuncId}{args:List D}{vs:List Value}{Sf R:List ak}{post:D->List ak->Prop}{M:List PanicEntry->Prop}(hc:VX P G f args Sf post M)(hp:x.S.Perm (Sf++R))(hr:bX w (live C.X x.S) args vs) :
  Calls P f vs.toArray w fun e w'=>(∃v r S',e = .returned v/\post r S'/\bP w' (live C.X (S'++R)) r v/\bp C ⟨x.n,x.env,S'++R⟩ a w'/\jz (aq Sf) w w'/\Fr w (aq x.S) w' (aq (S'++R)))\/(∃Z,e = .panicked Z/\M Z/\bp C ⟨x.n,x.env,R⟩ a w'):=by
 have hb:(aq x.S).Perm (aq Sf++aq R):=(by have:=hp.map ak.b;simpa[aq] using this)
 have hL:=oc (X:=C.X) hp;have hnd:(aq Sf++aq R).Nodup:=hb.nodup_iff.1 h.own.apart;obtain⟨n1,n2,n3⟩:=nodup_append.1 hnd;have O:∀b,b∈aq R->b<w.heap.size:=fun b tF=>by
  obtain⟨B,U,rfl⟩:=mem_map.1 tF;exact(h.own.at_ B (hp.symm.subset (mem_append_right _ U))).1
 have Y:mL G (fun b=>C.X b\/b∈aq R) w Sf args vs:=by
  refine⟨fun b hx=>?_,fun g hg=>?_,⟨fun B U=>?_,n1⟩,?_⟩
  ·rcases hx with hx|hx
   ·obtain⟨q1,q2⟩:=h.ex b hx;exact⟨Nat.lt_of_lt_of_le q1 h.fr.size,fun hm=>(h.fr.block b q1 q2).2 (hb.symm.subset (mem_append_left _ hm))⟩
   exact⟨O b hx,fun hm=>n3 b hm b hx rfl⟩
  ·rw[<-hG] at hg;obtain⟨⟨q1,q2,q3⟩,q4⟩:=h.dx g hg;have q5:=(h.fr.block g.1 q1 q2).2;refine⟨⟨Nat.lt_of_lt_of_le q1 h.fr.size,fun hm=>q5 (hb.symm.subset (mem_append_left _ hm)),fun hx=>?_⟩,fun i v hi=>h.oo hg hi⟩;rcases hx with hx|hx
   ·exact q3 hx
   exact q5 (hb.symm.subset (mem_append_right _ hx))
  ·rw[<-hL];exact h.own.at_ B (hp.symm.subset (mem_append_left _ U))
  rw[<-hL];exact hr
 refine(hc _ w vs Y).mono fun e w' hq=>?_;rcases hq with ⟨v,r,S',h1,h2,h3,h4,E⟩|⟨Z,h1,h2,E⟩
 ·refine .inl ⟨v,r,S',h1,h2,?_,h.back hp h3 E,⟨E.size,fun b I hn=>(E.block b I hn).1⟩,?_⟩
  ·have:live C.X (S'++R)=live (fun b=>C.X b\/b∈aq R) S':=oc (Perm.refl _);rw[this];exact h4
  refine⟨E.os,E.tape,E.output,E.size,fun b I hn=>?_⟩;have fD:b∉aq Sf:=fun hm=>hn (hb.symm.subset (mem_append_left _ hm));have tO:b∉aq R:=fun hm=>hn (hb.symm.subset (mem_append_right _ hm));obtain⟨q3,q4⟩:=E.block b I fD;refine⟨q3,fun hm=>?_⟩;have:aq (S'++R)=aq S'++aq R:=(by simp[aq])
  rw[this] at hm;rcases mem_append.1 hm with hm|hm
  ·exact q4 hm
  exact tO hm
 exact .inr ⟨Z,h1,h2,h.back (S':=[]) hp ⟨fun B U=>(by cases U),nodup_nil⟩ E⟩
theorem OD.bK {f t:Nat} {fo:Operand} {bL:Array Operand} {ts:Array TypeId} {args:List D} {Sf R:List ak} {post:D->List ak->Prop} {E:List PanicEntry->Prop} (hw:bS ops x o true) (ho:o.op = .call {callee:=.value fo,args:=bL,argTypes:=ts}) (hd:o.dst=some t)
  (hf:fo = .func f) (dz:∀args w,(callFunc f args).run P w = .ok (.enter f args) w) (hc:VX P C.G f args Sf post E) (ha:gT x bL.toList args) (hp:x.S.Perm (Sf++R))
  (Y:∀M,E M->Q (.panic M) ⟨x.n,x.env,R⟩) (K:∀r S',post r S'->OD P C ops l ⟨x.n,(t,r)::x.env,S'++R⟩ Q):OD P C ops (o::l) x Q:=fun a w h=>by
 have O:bL.toList.map (aO x)=args:=ha.eq;subst hf O;have hr:=bX.vq h bL.toList;have I:(execOp a.eval o).run P w = .ok (.enter f (bL.toList.map a.eval).toArray) w:=by
  unfold execOp;have e:bL.map a.eval=(bL.toList.map a.eval).toArray:=by
   rw[<-Array.toList_map,Array.toArray_toList]
  simp only[ho,resolve,Act.eval,Deferred.ofValue,Sem.run_bind,Sem.run_pure,Result.andThen_ok,invoke,e];simp[dz]
 unfold wpList;rw[if_pos (hw _ a w h)];refine .inl ?_;unfold Oper.wp;rw[I,Oper.upon_enter,hd];refine(h.bK rfl hc hp hr).mono fun e w' hq=>?_;rcases hq with ⟨v,r,S',h1,h2,U,Z,h5,h6⟩|⟨M,h1,h2,U⟩
 ·subst h1;exact K r S' h2 _ _ (Z.put U)
 subst h1;exact .inl ⟨_,U,Y M h2⟩
variable {S1 T:List Nat} {aP i:Nat} {ld:Array Bool}
theorem ea.bK {f t:Nat} {fo:Operand} {bL:Array Operand} {ts:Array TypeId} {args:List D} {Sf R:List ak} {post:D->List ak->Prop} {O:List PanicEntry->Prop} (hi:ops[i]?=some o) (hw:bS ops x o true) (ho:o.op = .call {callee:=.value fo,args:=bL,argTypes:=ts}) (hd:o.dst=some t)
  (hf:fo = .func f) (dz:∀args w,(callFunc f args).run P w = .ok (.enter f args) w) (hc:VX P C.G f args Sf post O) (ha:gT x bL.toList args) (hp:x.S.Perm (Sf++R)) (hT:∀b∈T,b∈aq R)
  (KP:∀Z,O Z->Q (.panic Z) ⟨x.n,x.env,R⟩) (K:∀r S',post r S'->AD P C ops S1 T aP (ld.setIfInBounds i true) ⟨x.n,(t,r)::x.env,S'++R⟩ Q):ea P C ops S1 T aP ld x Q i:=fun w1 a w h U aD E lm=>by
 have NT:bL.toList.map (aO x)=args:=ha.eq;subst hf NT;have hr:=bX.vq h bL.toList;have Y:(execOp a.eval o).run P w = .ok (.enter f (bL.toList.map a.eval).toArray) w:=by
  unfold execOp;have e:bL.map a.eval=(bL.toList.map a.eval).toArray:=by
   rw[<-Array.toList_map,Array.toArray_toList]
  simp only[ho,resolve,Act.eval,Deferred.ofValue,Sem.run_bind,Sem.run_pure,Result.andThen_ok,invoke,e];simp[dz]
 unfold wpOp;simp only[hi,hw C a w h,if_true];refine .inl ?_;unfold Oper.wp;rw[Y,Oper.upon_enter,hd];refine(h.bK rfl hc hp hr).mono fun e w' hq=>?_;rcases hq with ⟨v,r,S',h1,h2,h3,h4,NU,hf⟩|⟨Z,h1,h2,h3⟩
 ·subst h1;have I:Fr w1 S1 w' (aq (S'++R)):=⟨hf.os.trans E.os,hf.tape.trans E.tape,hf.output.trans E.output,Nat.le_trans E.size hf.size,fun b hb hn=>by
   obtain⟨q1,q2⟩:=E.block b hb hn;obtain⟨q3,q4⟩:=hf.block b (Nat.lt_of_lt_of_le hb E.size) q2;exact⟨q3.trans q1,q4⟩⟩
  have h7:(aq x.S).Perm (aq Sf++aq R):=(by have:=hp.map ak.b;simpa[aq] using this)
  have h8:=h7.nodup_iff.1 h.own.apart;have M:gJ w1 S1 T w':=⟨fun b hb hn=>(I.block b hb hn).1,fun b hb=>by
   have iP:=Nat.lt_of_lt_of_le (aD b (U b hb)) E.size;exact(NU.2 b iP (fun hm=>(nodup_append.1 h8).2.2 b hm b (hT b hb) rfl)).trans (lm.2 b hb)⟩
  exact⟨M,K r S' h2 w1 _ w' (h4.put h3) U aD I M⟩
 subst h1;exact .inl ⟨_,h3,KP Z h2⟩
theorem VX.body {f:FuncId} {fn:Func} {c:Code} {n:Nat} {args:List D} {S:List ak} {post:D->List ak->Prop} {M:List PanicEntry->Prop} (hf:P.funcs[f]?=some fn) (hb:fn.body=some c) (hn:fn.ntmps=n) (hl:args.length<=n)
  (h:∀X w0 S0,CD P ⟨X,w0,S0,G,[],fun _ _=>False⟩ c ⟨n,iL 0 args,S⟩ (bN P fn post M)):VX P G f args S post M:=fun X w vs hp=>by
 have kG:vs.length=args.length:=hp.args.1;let C:cj:=⟨X,w,aq S,G,[],fun _ _=>False⟩
 have O:bp C ⟨n,iL 0 args,S⟩ {tmps:=vs.toArray++Array.replicate (fn.ntmps-vs.toArray.size) undef,defers:=[]} w:=by
  refine⟨rfl,by simp[hn];omega,fun t ht=>?_,hp.own,Fr.refl _ _,hp.ex,hp.dx⟩;simp only[oY,Nat.zero_le,if_true,Nat.sub_zero];by_cases aD:t<args.length
  ·have Z:args.getD t .cx=args[t]:=(by simp[getD,aD])
   have e2:(vs.toArray++Array.replicate (fn.ntmps-vs.toArray.size) undef).getD t undef=vs[t]'w7:=by
    rw[Array.getD_eq_getD_getElem?,Array.getElem?_append_left ee];simp[show t<vs.length by omega]
   rw[Z,e2];exact hp.args.2 t aD w7
  have Z:args.getD t .cx = .cx:=(by simp[getD,getElem?_eq_none (show args.length<=t by omega)])
  rw[Z];exact .cx _
 refine calls_of_wp hf hb (wp_mono (h _ _ _ _ _ O) fun e a w' h=>?_);rcases h with ⟨y,h1,h2⟩|⟨_,h⟩
 case inr=>exact h.elim
 rcases h2 with ⟨h2,r,S',h3,h4,h5⟩|⟨Y,rfl,U⟩
 ·obtain⟨v,q1,q2⟩:=h4 C a w' h1;have I:(aq S').Sublist (aq y.S):=Sublist.map _ h3;have key:a.defers=[]/\∃v,(results fn a.tmps).run P w' = .ok v w'/\((∃v' r S',Ending.returned v = .returned v'/\post r S'/\Own w' (live X S') S'/\bP w' (live X S') r v'/\Fr w (aq S) w' (aq S'))\/(∃Y,Ending.returned v = .panicked Y/\M Y/\Fr w (aq S) w' [])) :=
   ⟨h1.defers,v,q2,.inl ⟨v,r,S',rfl,h5,h1.own.sub h3,q1.mono fun b _ hn=>⟨rfl,fun hl=>hn (hl.imp id fun q=>I.subset q)⟩,
    ⟨h1.fr.os,h1.fr.tape,h1.fr.output,h1.fr.size,fun b E hn=>⟨(h1.fr.block b E hn).1,fun q=>(h1.fr.block b E hn).2 (I.subset q)⟩⟩⟩⟩
  rcases h2 with rfl|rfl<;>exact key
 exact⟨h1.defers,.inr ⟨Y,rfl,U,h1.fr.os,h1.fr.tape,h1.fr.output,h1.fr.size,fun b E hn=>⟨(h1.fr.block b E hn).1,by simp⟩⟩⟩
theorem Cj{y:Operand}{v:Value}{T:TypeId}(hw:bS ops x o true)(ho:o.op = .panic y)(hy:aO x y = .v (.iface T v))(K:Q (.panic [{v:=.iface T v,recovered:=false}]) x):OD P C ops (o::l) x Q:=fun a w h=>by
 unfold wpList;rw[if_pos (hw _ a w h)];refine .inl ?_;unfold Oper.wp;have:(execOp a.eval o).run P w = .halt (.panic (.iface T v)) w:=by
  unfold execOp;simp[ho,h.flat hy,Instr.panic]
 rw[this,Oper.upon_panic];exact .inl ⟨x,h,K⟩
end
section
variable {P:Program} {C:cj} {G:List (Nat×List Value)} {Q:Exit->St->Prop} {x y:St} {R:Exit->Act->World->Prop}
variable {post:D->List ak->Prop}
def KD(P:Program)(C:cj)(c:Code)(x:St)(R:Exit->Act->World->Prop):Prop:=∀a w,bp C x a w->c.wp P R a w
theorem KD.of{c:Code}(h:CD P C c x Q)(k:∀e a w,LQ C Q e a w->R e a w):KD P C c x R:=fun a w hs=>wp_mono (h a w hs) k
theorem KD.seq{c d:Code}(h:KD P C c x (Exit.then (d.wp P R) R)):KD P C (.seq c d) x R:=fun a w hs=>wp_seq (h a w hs)
def qe(P:Program)(G:List (Nat×List Value))(g:FuncId)(cQ:List D)(S:List ak)(u u':FrameMode)(post:List ak->Prop):Prop :=
 ∀(X:Nat->Prop) (w:World) (vs:List Value),mL G X w S cQ vs->CallsDIn Fence.wide 0 P g vs.toArray u w fun e u2 w'=>(∃v,e = .returned v)/\u2=u'/\∃S',post S'/\Own w' (live X S') S'/\Fr w (aq S) w' (aq S')
def vv(post:D->List ak->Prop)(X:Nat->Prop)(w:World)(S:List ak)(e:Ending)(w':World):Prop:=∃v r S',e = .returned v/\post r S'/\Own w' (live X S') S'/\bP w' (live X S') r v/\Fr w (aq S) w' (aq S')
theorem VC.closing {f:FuncId} {fn:Func} {c:Code} {n:Nat} {args:List D} {S:List ak} (hf:P.funcs[f]?=some fn) (hb:fn.body=some c) (hn:fn.ntmps=n) (hl:args.length<=n)
  (h:∀X w,KD P ⟨X,w,aq S,G,[],fun _ _=>False⟩ c ⟨n,iL 0 args,S⟩ (bodyPostM Fence.wide 0 P fn (vv post X w S))):VC P G f args S post:=fun X w vs hp=>by
 have M:vs.length=args.length:=hp.args.1;have E:bp ⟨X,w,aq S,G,[],fun _ _=>False⟩ ⟨n,iL 0 args,S⟩ {tmps:=vs.toArray++Array.replicate (fn.ntmps-vs.toArray.size) undef,defers:=[]} w:=by
  refine⟨rfl,by simp[hn];omega,fun t ht=>?_,hp.own,Fr.refl _ _,hp.ex,hp.dx⟩;simp only[oY,Nat.zero_le,if_true,Nat.sub_zero];by_cases aD:t<args.length
  ·have I:args.getD t .cx=args[t]:=(by simp[getD,aD])
   have e2:(vs.toArray++Array.replicate (fn.ntmps-vs.toArray.size) undef).getD t undef=vs[t]'w7:=by
    rw[Array.getD_eq_getD_getElem?,Array.getElem?_append_left ee];simp[show t<vs.length by omega]
   rw[I,e2];exact hp.args.2 t aD w7
  have I:args.getD t .cx = .cx:=(by simp[getD,getElem?_eq_none (show args.length<=t by omega)])
  rw[I];exact .cx _
 exact callsIn_wide.1 (callsIn_of_wp_marks (F:=Fence.wide) (n:=0) hf hb trivial (wpIn_wide.2 (h X w _ _ E)) rfl)
theorem BJ {a:Act} {w:World} {fn:Func} {w0:World} {S0:List ak} {g:FuncId} {cQ:List D} {cv:List Value} {u u':FrameMode} {Sf Rs:List ak} {pc:List ak->Prop}
  (h:bp C x a w) (NV:C.w0=w0) (NW:C.S0=aq S0) (hG:C.G=G) (hd:a.defers=[{target:=.fn (.func g) cv.toArray,args:=#[]}]) (NX:bX w (live C.X x.S) cQ cv) (dz:∀args w,(callFunc g args).run P w = .ok (.enter g args) w)
  (hp:x.S.Perm (Sf++Rs)) (hu:u≠.run) (NY:settle u' = .returning) (hc:qe P G g cQ Sf u u' pc) (M:∀S',pc S'->∃r E,E.Sublist (S'++Rs)/\iA P fn ⟨x.n,x.env,S'++Rs⟩ r/\post r E) :
  LeavesInM Fence.wide 0 P fn a.tmps (vv post C.X w0 S0) a.defers u w:=by
 have hb:(aq x.S).Perm (aq Sf++aq Rs):=(by have:=hp.map ak.b;simpa[aq] using this)
 have hL:=oc (X:=C.X) hp;have hnd:(aq Sf++aq Rs).Nodup:=hb.nodup_iff.1 h.own.apart;obtain⟨n1,n2,n3⟩:=nodup_append.1 hnd;have O:∀b,b∈aq Rs->b<w.heap.size:=fun b tF=>by
  obtain⟨B,hB,rfl⟩:=mem_map.1 tF;exact(h.own.at_ B (hp.symm.subset (mem_append_right _ hB))).1
 have U:mL G (fun b=>C.X b\/b∈aq Rs) w Sf cQ cv:=by
  refine⟨fun b hx=>?_,fun g hg=>?_,⟨fun B hB=>?_,n1⟩,?_⟩
  ·rcases hx with hx|hx
   ·obtain⟨q1,q2⟩:=h.ex b hx;exact⟨Nat.lt_of_lt_of_le q1 h.fr.size,fun hm=>(h.fr.block b q1 q2).2 (hb.symm.subset (mem_append_left _ hm))⟩
   exact⟨O b hx,fun hm=>n3 b hm b hx rfl⟩
  ·rw[<-hG] at hg;obtain⟨⟨q1,q2,q3⟩,q4⟩:=h.dx g hg;have q5:=(h.fr.block g.1 q1 q2).2;refine⟨⟨Nat.lt_of_lt_of_le q1 h.fr.size,fun hm=>q5 (hb.symm.subset (mem_append_left _ hm)),fun hx=>?_⟩,fun i v hi=>h.oo hg hi⟩;rcases hx with hx|hx
   ·exact q3 hx
   exact q5 (hb.symm.subset (mem_append_right _ hx))
  ·rw[<-hL];exact h.own.at_ B (hp.symm.subset (mem_append_left _ hB))
  rw[<-hL];exact NX
 rw[hd];refine⟨hu,.inr ⟨fun hq=>(by cases hq),.func g,cv.toArray,g,cv.toArray,rfl,?_,fun _ _=>trivial,?_⟩⟩
 ·simp[invoke,go_sem,dz]
 refine(hc _ w cv U).mono fun e u2 w' ⟨⟨v,he⟩,NZ,S',AK,ho,hf⟩=>?_;subst he;subst NZ;have I:bp C ⟨x.n,x.env,S'++Rs⟩ a w':=h.back hp ho hf;obtain⟨r,E,sZ,Y,yJ⟩:=M S' AK;obtain⟨v',q1,q2⟩:=Y C a w' I;have Z:(aq E).Sublist (aq (S'++Rs)):=Sublist.map _ sZ;show LeavesInM Fence.wide 0 P fn a.tmps (vv post C.X w0 S0) [] (settle u2) w';rw[NY];refine⟨v',q2,v',r,E,rfl,yJ,I.own.sub sZ,q1.mono fun b _ hn=>⟨rfl,fun hl=>hn (hl.imp id fun q=>Z.subset q)⟩,?_⟩;have k:=I.fr;rw[NV,NW] at k;exact⟨k.os,k.tape,k.output,k.size,fun b jd hn=>⟨(k.block b jd hn).1,fun q=>(k.block b jd hn).2 (Z.subset q)⟩⟩
end
section
variable {P:Program} {C:cj} {G:List (Nat×List Value)} {Q:Exit->St->Prop} {x:St} {ops:Array Oper} {l:List Oper} {o:Oper}
variable {kq kn:IntKind}
theorem Gz {s y:Operand} {t tn e tt m sz bytes:Nat} {z:Value} (ho:o.op = .call {callee:=.builtin .append,args:=#[s,y],argTypes:=#[t,tn]}) (hd:o.dst=some tt)
  (ht:P.underlying t=some (.slice e)) (N0:P.underlying tn=some (.int kn)) (hi:(P.info? e).map (fun i=>(i.zero,i.size,i.bytes))=some (some z,sz,bytes)) (dy:z.cells.size=sz) (U:0<sz)
  (hs:aO x s = .v (.slice none 0 0)) (hy:aO x y = .v (.int kq m)) (h0:0<m) (Y:m<=maxLen) (JZ:m*bytes<=140737488355328) (pI:isMap e=false:=by rfl) :
  e8 P G x o [] (fun y=>∃b' E,m<=E/\E<=maxLen/\y=⟨x.n,(tt,.v (.slice (some ⟨b',0,none⟩) m E))::x.env,⟨b',e,E*sz,[]⟩::x.S⟩):=fun C a w K Q hG h hK=>by
 obtain⟨i,lU,nI,rC,nJ⟩:=sw hi;have I:=Lib.run_append_nil_zeros (P:=P) w t tn o.type e i z kq kn ht N0 lU nI m h0 (by rw[rC];exact U) (by simp only[maxLen] at Y;omega) (by rw[nJ];omega);have h1:=grownCap_ge w m 0 e;have h2:=grownCap_le_maxLen w m 0 e Y;generalize grownCap w m 0 e=E at I h1 h2;generalize Z:Builtin.zeroCells z.cells m++Builtin.zeroCells z.cells (E-m)=M at I;have wu:∀q,(Builtin.zeroCells z.cells q).size=q*sz:=fun q=>by simp[Builtin.zeroCells,dy]
 have jb:M.size=E*sz:=by
  rw[<-Z,Array.size_append,wu,wu,<-Nat.add_mul];congr 1;omega
 have O:(execOp a.eval o).run P w = .ok (.value (.slice (some ⟨w.heap.size,0,none⟩) m E)) (w.drew.alloc (.cells M e)):=by
  unfold execOp;simp only[ho,resolve,invoke,builtin,Sem.run_bind,Sem.run_pure,Result.andThen_ok,map_toArray,map_cons,map_nil,h.flat hs,h.flat hy,I]
 obtain⟨s1,s2,s3⟩:=h.grown (w':=w.drew.alloc (.cells M e)) (t:=tt) (m:=m) (e:=e) (sz:=sz) (S:=x.S) (cs:=[]) (row:=none) (g:=w.heap.size) (cap:=E) (cur:=M) (hne:=pI) (Sublist.refl _) (fun k hk=>by cases hk)
  ⟨rfl,rfl,rfl,by show w.heap.size<=(w.heap.push _).size;simp,fun k hk _=>getElem?_push_lt (w:=w.drew) hk⟩ (.inr rfl) (by show w.heap.size<(w.heap.push _).size;simp) (by show(w.heap.push _)[w.heap.size]?=_;simp) jb (Nat.zero_le _) (fun j hj=>by cases hj)
 unfold Oper.wp;rw[O,Oper.upon_value,hd];exact hK _ _ _ ⟨_,_,h1,h2,rfl⟩ s1 s2 s3
theorem Bz {s y:Operand} {t Z e tt m sz bytes:Nat} {z:Value} (hw:bS ops x o true) (ho:o.op = .call {callee:=.builtin .append,args:=#[s,y],argTypes:=#[t,Z]}) (hd:o.dst=some tt)
  (ht:P.underlying t=some (.slice e)) (U:P.underlying Z=some (.int kn)) (hi:(P.info? e).map (fun i=>(i.zero,i.size,i.bytes))=some (some z,sz,bytes)) (dy:z.cells.size=sz) (M:0<sz)
  (hs:aO x s = .v (.slice none 0 0)) (hy:aO x y = .v (.int kq m)) (h0:0<m) (Y:m<=maxLen) (I:m*bytes<=140737488355328)
  (K:∀O E,m<=E->E<=maxLen->OD P C ops l ⟨x.n,(tt,.v (.slice (some ⟨O,0,none⟩) m E))::x.env,⟨O,e,E*sz,[]⟩::x.S⟩ Q) (pI:isMap e=false:=by rfl):OD P C ops (o::l) x Q :=
 OD.fh hw (Gz (pI:=pI) ho hd ht U hi dy M hs hy h0 Y I) fun y ⟨O,E,h1,h2,hy⟩=>hy ▸ K O E h1 h2
end
section
variable {P:Program} {C:cj} {G:List (Nat×List Value)} {Q:Exit->St->Prop} {x:St}
variable {sz:Nat} {l:List (Nat×D)} {S' Sq:List ak} {cs':List D} {ad:Option Addr}
def Gv(d d':D):Prop:=∀w L v,bP w L d v->bP w L d' v
theorem mo{d:D}:Gv d d:=fun _ _ _ h=>h
theorem ve:Gv (.v (.slice none 0 0)) (.list sz [] 0):=fun _ _ _ h=>by rw[h.gu];exact .nil sz
def kM:List D->List D->Prop
 | [],[]=>True
 | d::r,d'::r'=>Gv d d'/\kM r r'
 | _,_=>False
theorem kM.spec:∀{a b:List D},kM a b->b.length=a.length/\∀i (h:i<a.length) (h':i<b.length),Gv a[i] b[i]
 | [],[],_=>⟨rfl,fun i h=>by simp at h⟩
 | d::r,d'::r',h=>by
  obtain⟨h1,h2⟩:=kM.spec h.2;refine⟨by simp[h1],fun i q E=>?_⟩;cases i with
  | zero=>exact h.1
  | succ i=>exact h2 i (by simpa using q) (by simpa using E)
 | [],_::_,h=>h.elim
 | _::_,[],h=>h.elim
theorem yC{a b:List D}(h:kM a b):Gv (.agg a) (.agg b):=fun w L v hr=>by
 obtain⟨h1,h2⟩:=h.spec;cases hr with
 | agg _ vs hl hq=>exact .agg b vs w7 fun i q E=>h2 i w7 q _ _ _ (hq i w7 E)
theorem Wk.cells{n:Nat}{S:List ak}{k:Nat}{B:ak}(hk:S[k]?=some B)(H:kM B.cs cs')(hS:S.set k {B with cs:=cs'}=S'):Wk ⟨n,l,S⟩ ⟨n,l,S'⟩:=fun C a w h=>by
 subst hS;obtain⟨H1,H2⟩:=H.spec;have Z:=(List.getElem?_eq_some_iff.1 hk).1;have M:=(List.getElem?_eq_some_iff.1 hk).2;have E:aq (S.set k {B with cs:=cs'})=aq S:=by
  unfold aq;rw[map_set];apply ext_getElem cq;intro i q1 q2;rw[getElem_set];split
  ·rename_i e;subst e;simp[M]
  rfl
 have I:live C.X (S.set k {B with cs:=cs'})=live C.X S:=(by funext b;simp only[live,E])
 refine⟨h.defers,h.size,fun t ht=>?_,⟨fun B' O=>?_,?_⟩,?_,h.ex,h.dx⟩
 ·simp only[I];exact h.env t ht
 ·simp only[I];obtain⟨p,hp,j4⟩:=mem_iff_getElem.1 O;rw[length_set] at hp;rw[getElem_set] at j4;by_cases e:k=p
  ·rw[if_pos e] at j4;subst j4;obtain⟨r0,cur,r1,r2,r3,r4⟩:=h.own.at_ B (mem_of_getElem? hk);refine⟨r0,cur,r1,r2,by show cs'.length<=B.size;omega,fun q hq=>?_⟩;have U:q<cs'.length:=hq;obtain⟨u,hu,Y⟩:=r4 q w7;exact⟨u,hu,H2 q w7 U _ _ _ Y⟩
  rw[if_neg e] at j4;subst j4;exact h.own.at_ _ (getElem_mem hp)
 ·simp only[E];exact h.own.apart
 simp only[E];exact h.fr
theorem kU{c:Code}{k:Nat}{B:ak}(hk:x.S[k]?=some B)(H:kM B.cs cs')(hS:x.S.set k {B with cs:=cs'}=S')(K:CD P C c ⟨x.n,x.env,S'⟩ Q):CD P C c x Q:=gS (Wk.cells (n:=x.n) (l:=x.env) (S:=x.S) hk H hS) K
theorem Wk.Ig {n i j m cap e:Nat} {S R:List ak} {A:ak} {cs:List D} (ho:bV e sz cs m ad cap Sq) (hl:cs.length=m*sz) (hp:S.Perm (Sq++R)) (hj:R[j]?=some A) (hi:A.cs[i]?=some (.v (.slice ad m cap)))
  (E:A.cs.set i (.list sz cs m)=cs') (hS:R.set j {A with cs:=cs'}=S') (hne:isMap e=false:=by rfl):Wk ⟨n,l,S⟩ ⟨n,l,S'⟩:=by
 refine(Wk.perm hp).trans ?_;rcases ho with ⟨rfl,rfl,rfl,rfl,rfl⟩|⟨b,rfl,h1,h2,rfl⟩
 ·refine Wk.cells (B:=A) hj ?_ hS;subst E;have M:∀(I:List D) (i:Nat),I[i]?=some (.v (.slice none 0 0))->kM I (I.set i (.list sz [] 0)):=by
   have O:∀r:List D,kM r r:=by
    intro r;induction r with
    | nil=>trivial
    | cons d r ih=>exact⟨mo,ih⟩
   intro I;induction I with
   | nil=>intro i h;simp at h
   | cons d r ih =>
    intro i h;cases i with
    | zero=>simp only[getElem?_cons_zero,Option.some.injEq] at h;subst h;exact⟨ve,O r⟩
    | succ i=>simp only[getElem?_cons_succ] at h;exact⟨mo,ih i h⟩
  exact M _ _ hi
 exact Wk.JJ (hne:=hne) (k:=0) rfl hj hi rfl hl h1 h2 E hS
theorem xp {c:Code} {i j m cap e:Nat} {R:List ak} {A:ak} {cs:List D} (ho:bV e sz cs m ad cap Sq) (hl:cs.length=m*sz) (hp:x.S.Perm (Sq++R)) (hj:R[j]?=some A) (hi:A.cs[i]?=some (.v (.slice ad m cap)))
  (E:A.cs.set i (.list sz cs m)=cs') (hS:R.set j {A with cs:=cs'}=S') (K:CD P C c ⟨x.n,x.env,S'⟩ Q) (hne:isMap e=false:=by rfl):CD P C c x Q:=gS (Wk.Ig (hne:=hne) (n:=x.n) (l:=x.env) (S:=x.S) ho hl hp hj hi E hS) K
end
variable {P:Program} {C:cj} {G:List (Nat×List Value)} {Q:Exit->St->Prop} {x:St} {ops:Array Oper} {l:List Oper} {o:Oper} {S1 T:List Nat} {aP i:Nat} {ld:Array Bool}
theorem Ih{S':List ak}{k:Nat}{B:ak}{cs':List D}(hk:x.S[k]?=some B)(H:kM B.cs cs')(hS:x.S.set k {B with cs:=cs'}=S')(K:OD P C ops l ⟨x.n,x.env,S'⟩ Q):OD P C ops l x Q:=bc (Wk.cells (n:=x.n) (l:=x.env) (S:=x.S) hk H hS) K
theorem Wk.J0{n t:Nat}{r d':D}{l:List (Nat×D)}{S R Sd:List ak}(hp:S.Perm (R++Sd))(ht:View Sd r d'):Wk ⟨n,(t,r)::l,S⟩ ⟨n,(t,d')::l,R⟩:=fun C a w h0=>by
 have h:=Wk.perm (n:=n) (env:=(t,r)::l) hp C a w h0;have h1:bp C ⟨n,(t,r)::l,R⟩ a w:=Wk.drop n ((t,r)::l) _ R (sublist_append_left _ _) C a w h;refine⟨h1.defers,h1.size,fun q hq=>?_,h1.own,h1.fr,h1.ex,h1.dx⟩;rw[ey];by_cases e:t=q
 ·subst e;rw[if_pos rfl];have hL:live C.X (R++Sd)=live (fun b=>live C.X R b) Sd:=by
   funext b;simp only[live,aq,map_append,mem_append];exact propext or_assoc.symm
  have hnd:(aq R++aq Sd).Nodup:=(by have:=h.own.apart;simpa[aq] using this)
  have M:∀b,live C.X R b->b∉aq Sd:=fun b hb hm=>by
   rcases hb with hb|hb
   ·exact h.rB b hb (by simp only[aq,map_append,mem_append] at hm |-;exact .inr hm)
   exact(nodup_append.1 hnd).2.2 b hb b hm rfl
  have E:Own w (live (fun b=>live C.X R b) Sd) Sd:=⟨fun B O=>by rw[<-hL];exact h.own.at_ B (mem_append_right _ O),(nodup_append.1 hnd).2.1⟩
  have I:=h.env t hq;rw[ey,if_pos rfl] at I;simp only[hL] at I;exact ht (fun b=>live C.X R b) _ w _ (fun b hb=>hb) M E I
 rw[if_neg e];have I:=h1.env q hq;rwa [ey,if_neg e] at I
theorem Ht {f t:Nat} {fo:Operand} {bL:Array Operand} {ts:Array TypeId} {args:List D} {post:D->List ak->Prop} {d:D} (ho:o.op = .call {callee:=.value fo,args:=bL,argTypes:=ts}) (hd:o.dst=some t)
  (hf:fo = .func f) (dz:∀args w,(callFunc f args).run P w = .ok (.enter f args) w) (hc:VC P G f args [] post) (hr:∀r S',post r S'->kw r=true/\∀B∈S',∀d∈B.cs,kw d=true) (U:∀r S',post r S'->View S' r d) (ha:Looks x bL.toList args) :
  e8 P G x o [] (fun y=>y=⟨x.n,(t,d)::x.env,x.S⟩):=fun C a w K R hG h Y=>by
 refine BX ho hd hf dz hc hr ha C a w K R hG h fun y O w' ⟨r,S',hp,hy⟩ I M E=>?_;subst hy;have h1:Wk ⟨x.n,(t,r)::x.env,S'++x.S⟩ ⟨x.n,(t,d)::x.env,x.S⟩:=Wk.J0 perm_append_comm (U r S' hp);refine Y _ O w' rfl (h1 C O w' I) M ⟨E.os,E.tape,E.output,E.size,fun b hb hn=>⟨(E.block b hb hn).1,hn⟩⟩
section pe
variable {c:Bool} {n t f:Nat} {S:List ak} {ts:List Nat} {e lr:List (Nat×D)} {R:List (Nat×D)->Prop} {fo:Operand} {bL:Array Operand} {tt:Array TypeId} {args:List D} {d:D} {post:D->List ak->Prop}
theorem LN (hc:VC P G f args [] post) (AL:∀r S',post r S'->kw r=true/\∀B∈S',∀d∈B.cs,kw d=true) (E:∀r S',post r S'->View S' r d) (ho:o.op = .call {callee:=.value fo,args:=bL,argTypes:=tt}:=by exact rfl)
  (hd:o.dst=some t:=by exact rfl) (hr:dX (iN ops o) e lr:=by exact gg) (ha:Looks ⟨n,lr,S⟩ bL.toList args) (K:PE c P G n S ops ts l ((t,d)::e) R) (hq:(!c||jZ ops o (iN ops o))=true:=by kernel_rfl) (hw:bS ops ⟨n,lr,S⟩ o true:=by exact kJ) (hf:fo = .func f:=by exact rfl) (dz:pH P f=true:=by kernel_rfl):PE c P G n S ops ts (o::l) e R :=
 .cons hd hr hq hw (Ht ho hd hf (Dk dz) hc AL E ha) K
theorem LO (hc:VP P G f args d) (ho:o.op = .call {callee:=.value fo,args:=bL,argTypes:=tt}:=by exact rfl)
  (hd:o.dst=some t:=by exact rfl) (hr:dX (iN ops o) e lr:=by exact gg) (ha:Looks ⟨n,lr,S⟩ bL.toList args) (K:PE c P G n S ops ts l ((t,d)::e) R) (AL:kw d=true:=by exact rfl) (hq:(!c||jZ ops o (iN ops o))=true:=by kernel_rfl) (hw:bS ops ⟨n,lr,S⟩ o true:=by exact kJ) (hf:fo = .func f:=by exact rfl) (dz:pH P f=true:=by kernel_rfl):PE c P G n S ops ts (o::l) e R :=
 LN hc (fun r S' h=>by obtain⟨rfl,rfl⟩:=h;exact⟨AL,fun B E=>by cases E⟩) (fun r S' h=>by obtain⟨rfl,rfl⟩:=h;exact qt) ho hd hr ha K hq hw hf dz
end pe
end V
namespace V
open List
open Go.RowKit
variable {P:Program} {C:cj} {G:List (Nat×List Value)} {Q:Exit->St->Prop} {x:St} {ops:Array Oper} {l:List Oper} {o:Oper} {S1 T:List Nat} {aP i:Nat} {ld:Array Bool}
theorem uM {t e:TypeId} {ad:Option Addr} {len cap:Nat} {y:Operand} {ts:Array TypeId} (ho:o.op = .call {callee:=.builtin .cap,args:=#[y],argTypes:=ts}) (ht:ts = #[t]) (hy:aO x y = .v (.slice ad len cap))
  (E:∀w,(underlying t).run P w = .ok (.slice e) w):bH P G x o .none (.v (.int .i64 cap)):=fun C a w _ h=>⟨_,.v _,fun w' _=>by
 subst ht;unfold execOp;simp[ho,resolve,invoke,builtin,Builtin.cap_,h.flat hy,E,goInt]⟩
end V
namespace V
open List
open Go.RowKit
section
variable {P:Program} {G:List (Nat×List Value)} {x:St} {o:Oper} {C:cj} {S:List ak}
variable {t:TypeId} {y:Operand} {E:Array (String×TypeId)}
theorem GA {b n:Nat} {vs:List Value} (ho:o.op = .load t y) (hy:aO x y = .v (.pointer (some ⟨b,0,none⟩)))
  (hg:(b,vs)∈G) (ha:∀w,(isAgg t).run P w = .ok true w) (hn:∀w,(sizeOf t).run P w = .ok n w) (hl:vs.length=n) (gV:vs.all ku=true:=by rfl):bH P G x o .fA (.agg (vs.map .v)):=fun C a w hG h=>by
 subst hG;refine⟨.agg vs.toArray,.agg _ vs cq (fun i q1 q2=>?_),fun w' hw=>?_⟩
 ·simp only[getElem_map];exact .v _
 obtain⟨⟨q1,q2,I⟩,_⟩:=h.dx _ hg;have hb:b<w.heap.size:=Nat.lt_of_lt_of_le q1 h.fr.size;have E:¬live C.X x.S b:=fun hl=>hl.elim I (h.fr.block b q1 q2).2;have:=uK (P:=P) (t:=t) (b:=b) (o':=0) (vs:=vs) (w:=w') ha hn hl (fun j hj=>by
  rw[World.cell?_of_block (w:=w) (a:=⟨b,0+j,none⟩) (hw b hb E),Nat.zero_add];exact(h.oo hg (getElem?_eq_getElem hj)).cell (xO gV (getElem?_eq_getElem hj)))
 unfold execOp;simp only[ho,h.flat hy,Sem.run_bind,this,Result.andThen_ok,Sem.run_pure]
theorem yq{t b n:Nat}{vs:List Value}(hg:(b,vs)∈G)(ha:∀w,(isAgg t).run P w = .ok true w)(hn:∀w,(sizeOf t).run P w = .ok n w)(hl:vs.length=n)(gV:vs.all ku=true:=by rfl):R1 P G S (Op.load t) (.v (.pointer (some ⟨b,0,none⟩))) .fA (.agg (vs.map .v)):=fun x o y ho hy _=>GA ho hy hg ha hn hl gV
theorem GB(w:World)(I:P.underlying t=some (.interface E)):(Op.equal t .nilIface .nilIface).run P w = .ok true w:=by
 show(Op.equalIn (9999+1) t _ _).run P w=_;rw[Op.equalIn];simp[run_underlying I]
theorem Gc{u:TypeId}{p:Value}(w:World)(I:P.underlying t=some (.interface E)):(Op.equal t (.iface u p) .nilIface).run P w = .ok false w:=by
 show(Op.equalIn (9999+1) t _ _).run P w=_;rw[Op.equalIn];simp[run_underlying I]
theorem xq{t':TypeId}(ho:o.op = .binOp .neq t y (.const .nilIface) t')(hy:aO x y = .v .nilIface)(I:P.underlying t=some (.interface E)):bH P G x o .none (.v (.bool false)):=fun C a w _ h =>
 ⟨_,.v _,fun w' _=>by
  have e:binOp .neq t .nilIface .nilIface=(do pure (.bool (!(<-Op.equal t .nilIface .nilIface)))):=rfl;have e2:a.eval (.const .nilIface) = .nilIface:=rfl;unfold execOp;simp only[ho,h.flat hy,e2,eqGuard,e,Sem.run_bind];simp[GB w' I]⟩
theorem xm{t' te:TypeId}{p:Value}(ho:o.op = .binOp .neq t y (.const .nilIface) t')(hy:aO x y = .v (.iface te p))(I:P.underlying t=some (.interface E)):bH P G x o .none (.v (.bool true)):=fun C a w _ h =>
 ⟨_,.v _,fun w' _=>by
  have e:binOp .neq t (.iface te p) .nilIface=(do pure (.bool (!(<-Op.equal t (.iface te p) .nilIface)))):=rfl;have e2:a.eval (.const .nilIface) = .nilIface:=rfl;unfold execOp;simp only[ho,h.flat hy,e2,eqGuard,e,Sem.run_bind];simp[Gc w' I]⟩
end
variable {P:Program} {C:cj} {G:List (Nat×List Value)} {Q:Exit->St->Prop} {x y:St} {R:Exit->Act->World->Prop}
variable {w:World} {L:Nat->Prop}
theorem Hu{vs us:List Value}(hl:us.length=(vs.map D.v).length)(h:∀i (h:i<(vs.map D.v).length) (h':i<us.length),bP w L (vs.map D.v)[i] us[i]):us=vs:=by
 rw[length_map] at hl;apply ext_getElem hl;intro i h1 h2;have:=h i (by simpa using h2) h1;simp only[getElem_map] at this;exact this.gu
theorem KD.y8{c d:Code}{Q1:Exit->St->Prop}(E:∀a w,¬C.mK a w)(h:CD P C c x Q1)(hn:∀y,Q1 .normal y->KD P C d y R)(ho:∀e a w y,e≠.normal->bp C y a w->Q1 e y->R e a w):KD P C (.seq c d) x R:=KD.seq (KD.of h fun e a w hq=>by
 rcases hq with ⟨y,hs,hq⟩|⟨_,he⟩
 ·cases e with
  | normal=>exact hn y hq a w hs
  | exit _=>exact ho _ a w y dD hs hq
  | goto _=>exact ho _ a w y dD hs hq
  | ret=>exact ho _ a w y dD hs hq
  | panic _=>exact ho _ a w y dD hs hq
  | outgrown=>exact ho _ a w y dD hs hq
 exact(E _ _ he).elim)
theorem BZ{X:Nat->Prop}{w0:World}{S:List ak}{mK:Act->World->Prop}{a:Act}{fn:Func}{post:D->List ak->Prop}(h:bp ⟨X,w0,aq S,G,[],mK⟩ y a w)(hb:∃r S',S'.Sublist y.S/\iA P fn y r/\post r S') :
  LeavesInM Fence.wide 0 P fn a.tmps (vv post X w0 S) a.defers .returning w:=by
 rw[h.defers];obtain⟨r,S',sZ,E,yJ⟩:=hb;obtain⟨v,q1,q2⟩:=E _ a w h;have I:(aq S').Sublist (aq y.S):=Sublist.map _ sZ;exact⟨v,q2,v,r,S',rfl,yJ,h.own.sub sZ,q1.mono fun b _ hn=>⟨rfl,fun hl=>hn (hl.imp id fun q=>I.subset q)⟩,
  ⟨h.fr.os,h.fr.tape,h.fr.output,h.fr.size,fun b M hn=>⟨(h.fr.block b M hn).1,fun q=>(h.fr.block b M hn).2 (I.subset q)⟩⟩⟩
def vw(g:FuncId)(vs:List Value):Deferred:={target:=.fn (.func g) vs.toArray,args:=#[]}
theorem KD.defer {id t:Nat} {g:FuncId} {O o2:Oper} {vs:List Value} {I:Code} {k:Rd} {ts:Array TypeId} (hg1:O.guard=none) (hg2:o2.guard=none) (h1:bH P C.G x O k (.dQ (.func g) (vs.map .v))) (hd1:O.dst=some t) (Y:o2.op = .defer {callee:=.value (.tmp t),args:=#[],argTypes:=ts}) (hd2:o2.dst=none) (ht:Nat.blt t x.n=true)
  (K:KD P ⟨C.X,C.w0,C.S0,C.G,vw g vs::C.df,C.mK⟩ I ⟨x.n,(t,.dQ (.func g) (vs.map .v))::x.env,x.S⟩ R):KD P C (.seq (.region id [O,o2].toArray false) I) x R:=KD.seq fun a w hs=>wp_region_lit (by
 unfold wpList;rw[if_pos (mc hg1 C a w hs)];refine .inl (h1.fh hd1 _ _ _ _ _ rfl hs fun y U w' hy E _ _=>?_);subst hy;unfold wpList;rw[if_pos (mc hg2 C U w' E)];refine .inl ?_;have Z:U.eval (.tmp t) = .func (.func g) #[] vs.toArray:=by
  have:=E.eval (.tmp t);have ho:aO (x.put t (.dQ (.func g) (vs.map .v))) (.tmp t) = .dQ (.func g) (vs.map .v):=(by simp[aO,St.put,ht,ey])
  rw[ho] at this;generalize U.eval (.tmp t)=u at this;cases this with
  | dQ _ _ us hl hr=>rw[Hu hl hr]
 have M:(execOp U.eval o2).run P w' = .ok (.defer (vw g vs)) w':=by
  unfold execOp;simp only[Y,resolve,Z,Deferred.ofValue,Sem.run_bind,Sem.run_pure,Result.andThen_ok];simp[vw]
 unfold Oper.wp;rw[M,Oper.upon_defer,hd2];exact K _ w' ⟨congrArg (vw g vs::·) E.defers,E.size,E.env,E.own,E.fr,E.ex,E.dx⟩)
theorem yD{a b:List D}(h:kM a b):Gv (.dK a) (.dK b):=fun w L v hr=>by
 obtain⟨h1,h2⟩:=h.spec;cases hr with
 | dK _ vs hl hq=>exact .dK b vs w7 fun i q E=>h2 i w7 q _ _ _ (hq i w7 E)
theorem iA.gv{fn:Func}{r E:D}(h:iA P fn y r)(g:Gv r E):iA P fn y E:=fun C a w hs=>let ⟨v,h1,h2⟩:=h C a w hs;⟨v,g _ _ _ h1,h2⟩
theorem B0(vs:List Value):bX w L (vs.map D.v) vs:=⟨by simp,fun i h h'=>by rw[getElem_map];exact .v _⟩
theorem Ge{G:List (Nat×List Value)}{o:Oper}{E te:TypeId}{y:Operand}{vs:List Value}{I:Array Field}(ho:o.op = .typeAssert y E te false)(hy:aO x y = .v (.iface te (.agg vs.toArray)))(M:P.underlying te=some (.struct I)):bH P G x o .none (.agg (vs.map .v)):=fun C a w _ h =>
 ⟨_,.agg _ vs cq (fun i h h'=>by rw[getElem_map];exact .v _),fun w' _=>by
  unfold execOp;simp[ho,h.flat hy,Instr.typeAssert,run_underlying M]⟩
theorem BK{ops:Array Oper}{o:Oper}(h:o.guard=none)(a:Act):Region.wanted o (yielded ops a.tmps)=true:=by simp[Region.wanted,h]
theorem qe.recover {g:FuncId} {fn:Func} {n id t0 t1:Nat} {M O:Oper} {E:Code} {cQ:List D} {S:List ak} {pc:List ak->Prop} {u u':FrameMode} {v:Value} {ts:Array TypeId} (hf:P.funcs[g]?=some fn) (hb:fn.body=some (.seq (.region id #[M,O] false) E)) (hn:fn.ntmps=n) (hr:fn.results = #[]) (hl:cQ.length<=n)
  (hg0:M.guard=none) (hg1:O.guard=none) (N1:M.op = .call {callee:=.builtin .recover,args:=#[],argTypes:=ts}) (hd0:M.dst=some t0) (jD:O.op = .assign (.tmp t0)) (hd1:O.dst=some t1) (ht0:t0<n)
  (nD:∀U cs,U.mode=u->(recoverD (U::cs)=some (v,{U with mode:=u'}::cs))\/(recoverD (U::cs)=none/\v = .nilIface/\u'=u))
  (K:∀X w0,CD P ⟨X,w0,aq S,G,[],fun _ _=>False⟩ E ⟨n,(t1,.v v)::(t0,.v v)::iL 0 cQ,S⟩ (fun e y=>e = .normal/\pc y.S)):qe P G g cQ S u u' pc:=fun X w vs hp=>by
 have kG:vs.length=cQ.length:=hp.args.1;have I:bp ⟨X,w,aq S,G,[],fun _ _=>False⟩ ⟨n,iL 0 cQ,S⟩ {tmps:=vs.toArray++Array.replicate (fn.ntmps-vs.toArray.size) undef,defers:=[]} w:=by
  refine⟨rfl,by simp[hn];omega,fun t ht=>?_,hp.own,Fr.refl _ _,hp.ex,hp.dx⟩;simp only[oY,Nat.zero_le,if_true,Nat.sub_zero];by_cases aD:t<cQ.length
  ·have e1:cQ.getD t .cx=cQ[t]:=(by simp[getD,aD])
   have e2:(vs.toArray++Array.replicate (fn.ntmps-vs.toArray.size) undef).getD t undef=vs[t]'w7:=by
    rw[Array.getD_eq_getD_getElem?,Array.getElem?_append_left ee];simp[show t<vs.length by omega]
   rw[e1,e2];exact hp.args.2 t aD w7
  have e1:cQ.getD t .cx = .cx:=(by simp[getD,getElem?_eq_none (show cQ.length<=t by omega)])
  rw[e1];exact .cx _
 generalize hA:({tmps:=vs.toArray++Array.replicate (fn.ntmps-vs.toArray.size) undef,defers:=[]}:Act)=A at I;refine callsDIn_of_wpSIn hf hb trivial fun U cs hu=>wpSIn_seq (wpSIn_region ?_);rw[hA];have Y:(execOp A.eval M).run P w = .ok .recover w:=by
  unfold execOp;simp[N1,resolve,invoke,builtin]
 have rH:bp ⟨X,w,aq S,G,[],fun _ _=>False⟩ ⟨n,(t1,.v v)::(t0,.v v)::iL 0 cQ,S⟩ ((A.put (some t0) v).put (some t1) v) w:=(I.put (t:=t0) (bP.v v)).put (t:=t1) (bP.v v);have wv:(A.put (some t0) v).eval (.tmp t0)=v:=by
  have:=(I.put (t:=t0) (bP.v v)).flat (o:=.tmp t0) (u:=v) (by
   have:Nat.blt t0 n=true:=(by simp[Nat.blt];omega)
   simp[aO,St.put,ey,this])
  exact this
 have Z:(execOp (A.put (some t0) v).eval O).run P w = .ok (.value v) w:=by
  unfold execOp;simp[jD,wv]
 have key:∀cs',cs'={U with mode:=u'}::cs->wpOpsSIn Fence.wide 0 P #[M,O] (Exit.thenS (E.wpSIn Fence.wide 0 P (bodyPostS P fn U cs fun e u2 w'=>(∃v,e = .returned v)/\u2=u'/\∃S',pc S'/\Own w' (live X S') S'/\Fr w (aq S) w' (aq S'))) (bodyPostS P fn U cs fun e u2 w'=>(∃v,e = .returned v)/\u2=u'/\∃S',pc S'/\Own w' (live X S') S'/\Fr w (aq S) w' (aq S'))) [1] (A.put (some t0) v) cs' w:=fun cs' cL=>by
  have e1:(#[M,O]:Array Oper)[1]?=some O:=rfl;simp only[wpOpsSIn,e1];refine⟨fun _ _=>trivial,?_⟩;rw[if_pos (BK hg1 _),Z,hd1];refine wpSIn_of_wpIn rfl (wpIn_wide.2 (wp_mono (K X w _ _ rH) fun e a3 w3 hq=>?_));rcases hq with ⟨y,hy,rfl,AK⟩|⟨_,he⟩
  ·subst cL;refine⟨hy.defers,u',rfl,.tuple #[],by unfold results;simp[hr],⟨_,rfl⟩,rfl,y.S,AK,hy.own,hy.fr⟩
  exact he.elim
 have e0:(#[M,O]:Array Oper)[0]?=some M:=rfl;show wpOpsSIn Fence.wide 0 P #[M,O] _ [0,1] A (U::cs) w;rw[wpOpsSIn];simp only[e0];refine⟨fun _ _=>trivial,?_⟩;rw[if_pos (BK hg0 _),Y,hd0];rcases nD U cs hu with h|⟨h,rfl,rfl⟩
 ·rw[h];exact key _ rfl
 rw[h];exact key _ (by subst hu;rfl)
end V
end Go.Proofs.YtomnenkeecbglaaGreatDoor
