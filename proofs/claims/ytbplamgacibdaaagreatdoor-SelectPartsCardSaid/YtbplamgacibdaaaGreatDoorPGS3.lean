/-
  GS: walks and plain facts, part 3.
-/
import Derived.Test.YtbplamgacibdaaaGreatDoorPGS2
set_option linter.unusedVariables false
set_option linter.unusedSimpArgs false
set_option maxRecDepth 100000
set_option maxHeartbeats 4000000
namespace Go.Proofs.YtbplamgacibdaaaGreatDoor
namespace V
open List
open Go.RowKit
section
variable {P:Program} {C:dJ} {G:List (Nat×List Value)} {Q:Exit->St->Prop} {x:St} {ops:Array Oper} {l l2:List Oper} {o:Oper} {n t:Nat} {d:D} {e e' l':List (Nat×D)} {S:List ag} {ts:List Nat} {kd:Rd} {c:Bool}
variable {zs:List Value} {pl lr:List (Nat×D)} {k sz t' id:Nat} {ds:List D} {d0:D} {y fo:Operand} {ps:List (Nat×Operand)} {dh:Array Operand} {tt:Array TypeId} {p q:Prop} {fn:Func} {post:D->List ag->Prop} {b:Bool} {S':List ag} {ex:Exit}
class Fo (P:Program) (s i:Nat) (off:outParam Nat):Prop where h:D0 P s i off=true
class Sl (P:Program) (t:Nat) (sz:outParam Nat):Prop where h:D2 P t sz=true
class Sz (P:Program) (t:Nat) (sz:outParam Nat):Prop where h:rX P t sz=true
def rF(P:Program)(t:Nat):Option (List Value):=(P.info? t).bind fun i=>i.zero.map fun z=>z.cells.toList
theorem Cu(h:rF P t=some zs):∃z,(∀w,(zeroValue t).run P w = .ok z w)/\z.cells.toList=zs:=by
 unfold rF at h;cases hi:P.info? t with
 | none=>rw[hi] at h;cases h
 | some i =>
  rw[hi,Option.bind_some] at h;cases hz:i.zero with
  | none=>rw[hz] at h;cases h
  | some z =>
   rw[hz,Option.map_some] at h;refine⟨z,fun w=>?_,Option.some.inj h⟩;unfold zeroValue typeInfo;simp[hi,hz]
def Gb(P:Program)(t:Nat):Option (List (Nat×Option Nat)):=(P.underlying t).bind fun d=>match d with
 | .struct fs=>some (fs.toList.map fun f=>(f.offset,(P.info? f.type).map (·.size)))
 | _=>none
theorem adW{pl:List (Nat×Nat)}(h:Gb P t=some (pl.map fun p=>(p.1,some p.2))):∃E,(∀w,(underlying t).run P w = .ok (.struct E) w)/\∀w,(E.mapM fun f=>do pure (f.offset,<-sizeOf f.type):Sem (Array (Nat×Nat))).run P w = .ok pl.toArray w:=by
 unfold Gb at h;cases hu:P.underlying t with
 | none=>rw[hu] at h;cases h
 | some d =>
  rw[hu,Option.bind_some] at h;split at h
  ·rename_i E;refine⟨E,run_underlying hu,fun w=>?_⟩;have h:=Option.some.inj h;rw[<-Array.toArray_toList (xs:=E),mapM_toArray];have key:∀(l:List Field) (pl:List (Nat×Nat)),l.map (fun f=>(f.offset,(P.info? f.type).map (·.size)))=pl.map (fun p=>(p.1,some p.2))->(l.mapM fun f=>do pure (f.offset,<-sizeOf f.type):Sem (List (Nat×Nat))).run P w = .ok pl w:=by
    intro l;induction l with
    | nil=>intro pl h;cases pl with
     | nil=>rfl
     | cons _ _=>cases h
    | cons f r ih =>
     intro pl h;cases pl with
     | nil=>cases h
     | cons p q =>
      rw[map_cons,map_cons,List.cons.injEq,Prod.mk.injEq] at h;obtain⟨⟨h1,h2⟩,h3⟩:=h;have h4:∀w,(sizeOf f.type).run P w = .ok p.2 w:=by
       cases hi:P.info? f.type with
       | none=>rw[hi] at h2;cases h2
       | some i=>exact mF (by unfold rX;rw[hi] at h2 |-;simp at h2;simp[h2])
      rw[mapM_cons];simp only[Sem.run_bind,Sem.run_pure,h4,Result.andThen_ok,ih q h3,h1]
   have:=key E.toList pl h;simp only[map_eq_pure_bind,Sem.run_bind,this,Result.andThen_ok,Sem.run_pure]
  cases h
class Sb (P:Program) (t:Nat) (zs:outParam (List Value)) (pl:outParam (List (Nat×Nat))):Prop where
  hz:rF P t=some zs
  hp:Gb P t=some (pl.map fun p=>(p.1,some p.2))
inductive nx:Nat->List D->List D->Prop
  | z {l:List D}:nx 0 l []
  | s {k:Nat} {a:D} {l l':List D} (h:nx k l l'):nx (k+1) (a::l) (a::l')
inductive qW:Nat->List D->List D->Prop
 | z {l:List D}:qW 0 l l
 | s {k:Nat} {a:D} {l l':List D} (h:qW k l l'):qW (k+1) (a::l) l'
theorem nx.eq{l l':List D}(h:nx k l l'):l.take k=l'/\l'.length=k:=by
 induction h with
 | z=>exact⟨rfl,rfl⟩
 | s h ih=>exact⟨by rw[take_succ_cons,ih.1],by rw[length_cons,ih.2]⟩
theorem nx.whole{l l':List D}(h:nx k l l')(hl:Nat.beq l.length k=true):l=l':=by
 have:=h.eq.1;rwa [take_of_length_le (Nat.le_of_eq (Nat.eq_of_beq_eq_true hl))] at this
theorem qW.eq{l l':List D}(h:qW k l l'):l.drop k=l':=by
 induction h with
 | z=>rfl
 | s h ih=>rw[drop_succ_cons,ih]
inductive LB (S:List ag) (sz:Nat):D->Rd->List D->Prop
 | b (k:Nat) {b o':Nat} {B:ag} {ds m:List D} (hk:S[k]?=some B) (hb:B.b=b) (hm:qW o' B.cs m) (hd:nx sz m ds) (hne:isMap B.e=false):LB S sz (.v (.pointer (some ⟨b,o',none⟩))) (.fP k) ds
 | m {α:Type} {g:α->List D} {i:Nat} {ls:List α} (hg:∀a,(g a).length=sz) (hi:i<ls.length):LB S sz (.fT (ls.flatMap g) (i*sz)) .kL (g ls[i])
 | r (k:Nat) {α:Type} {g:α->List D} {b i:Nat} {B:ag} {ls:List α} (hg:∀a,(g a).length=sz) (hk:S[k]?=some B) (hb:B.b=b) (dz:B.cs=ls.flatMap g) (hi:i<ls.length) (hne:isMap B.e=false):LB S sz (.v (.pointer (some ⟨b,0+i*sz,none⟩))) (.fP k) (g ls[i])
 | i {o':Nat} {cs ds m:List D} (hm:qW o' cs m) (hd:nx sz m ds):LB S sz (.fT cs o') .kL ds
theorem LB.still(h:LB x.S sz d0 kd ds)(ho:o.op = .load t y)(hy:aD x y=d0)(ha:rY P t true=true)(hn:rX P t sz=true):bS P G x o kd (.agg ds):=by
 cases h with
 | b k hk hb hm hd hne=>exact BX (hne:=hne) ho hy hk hb (jl ha) (mF hn) hd.eq.2 (by rw[hm.eq];exact hd.eq.1)
 | m hg hi=>exact Jh ho hy (jl ha) (mF hn) (hg _) (GW hg hi)
 | r k hg hk hb dz hi hne=>exact dO (hne:=hne) hg hk hb dz (jl ha) (mF hn) hi x o y ho hy rfl
 | i hm hd=>exact Jh ho hy (jl ha) (mF hn) hd.eq.2 (by rw[hm.eq];exact hd.eq.1)
theorem oq{l l':List D}(h:nx k l l':=by repeat (first|exact nx.z|apply nx.s)):nx k l l':=h
theorem rG{l l':List D}(h:qW k l l':=by repeat (first|exact qW.z|apply qW.s)):qW k l l':=h
theorem fb_{s:TypeId}{i off:Nat}{d d':D}(ho:o.op = .fieldAddr s y i:=by exact rfl)(hy:aD x y=d:=by first|exact ot|exact xX)(hc:D0 P s i off=true:=by exact Fo.h)(h:FA off d d':=by first|exact .p|exact .i):bS P G x o .none d':=dU off ho hy hc h
theorem lc_ (ho:o.op = .load t y:=by exact rfl) (hy:aD x y=d0:=by exact ot) (hn:rX P t sz=true:=by exact Sz.h) (ha:rY P t true=true:=by kernel_rfl)
  (h:LB x.S sz d0 kd ds:=by first|(apply LB.b 0;exact rfl;exact rfl;(focus exact rG);(focus exact oq);exact rfl)|(apply LB.b 1;exact rfl;exact rfl;(focus exact rG);(focus exact oq);exact rfl)|(apply LB.b 2;exact rfl;exact rfl;(focus exact rG);(focus exact oq);exact rfl)|(apply LB.b 3;exact rfl;exact rfl;(focus exact rG);(focus exact oq);exact rfl)|(apply LB.b 4;exact rfl;exact rfl;(focus exact rG);(focus exact oq);exact rfl)|(apply LB.b 5;exact rfl;exact rfl;(focus exact rG);(focus exact oq);exact rfl)|(apply LB.b 6;exact rfl;exact rfl;(focus exact rG);(focus exact oq);exact rfl)|(apply LB.b 7;exact rfl;exact rfl;(focus exact rG);(focus exact oq);exact rfl)|(apply LB.b 8;exact rfl;exact rfl;(focus exact rG);(focus exact oq);exact rfl)|(apply LB.b 9;exact rfl;exact rfl;(focus exact rG);(focus exact oq);exact rfl)|(apply LB.m;(focus exact fun _=>rfl);(focus first|assumption|omega|fail))|(apply LB.i;(focus exact rG);(focus exact oq))|(apply LB.r 0;(focus exact fun _=>rfl);exact rfl;exact rfl;exact rfl;exact rfl;(focus first|assumption|omega|fail))|(apply LB.r 1;(focus exact fun _=>rfl);exact rfl;exact rfl;exact rfl;exact rfl;(focus first|assumption|omega|fail))|(apply LB.r 2;(focus exact fun _=>rfl);exact rfl;exact rfl;exact rfl;exact rfl;(focus first|assumption|omega|fail))|(apply LB.r 3;(focus exact fun _=>rfl);exact rfl;exact rfl;exact rfl;exact rfl;(focus first|assumption|omega|fail))|fail):bS P G x o kd (.agg ds):=h.still ho hy ha hn
theorem amm {d:D} (ho:o.op = .load t y:=by exact rfl) (hy:aD x y=d0:=by exact ot) (ha:rY P t false=true:=by kernel_rfl)
  (h:LD x.S d0 kd d:=by first|(apply LD.b 0;exact rfl;exact rfl;exact rfl;exact rfl)|(apply LD.b 1;exact rfl;exact rfl;exact rfl;exact rfl)|(apply LD.b 2;exact rfl;exact rfl;exact rfl;exact rfl)|(apply LD.b 3;exact rfl;exact rfl;exact rfl;exact rfl)|(apply LD.b 4;exact rfl;exact rfl;exact rfl;exact rfl)|(apply LD.b 5;exact rfl;exact rfl;exact rfl;exact rfl)|(apply LD.b 6;exact rfl;exact rfl;exact rfl;exact rfl)|(apply LD.b 7;exact rfl;exact rfl;exact rfl;exact rfl)|(apply LD.b 8;exact rfl;exact rfl;exact rfl;exact rfl)|(apply LD.b 9;exact rfl;exact rfl;exact rfl;exact rfl)|(apply LD.m;(focus exact fun _=>rfl);exact rfl;(focus first|assumption|omega|fail))|(apply LD.m0;(focus exact fun _=>rfl);exact rfl;(focus first|assumption|omega|fail))|(apply LD.i;exact rfl)|(apply LD.r 0;(focus exact fun _=>rfl);exact rfl;exact rfl;exact rfl;exact rfl;exact rfl;(focus first|assumption|omega|fail))|(apply LD.r0 0;(focus exact fun _=>rfl);exact rfl;exact rfl;exact rfl;exact rfl;exact rfl;(focus first|assumption|omega|fail))|(apply LD.r 1;(focus exact fun _=>rfl);exact rfl;exact rfl;exact rfl;exact rfl;exact rfl;(focus first|assumption|omega|fail))|(apply LD.r0 1;(focus exact fun _=>rfl);exact rfl;exact rfl;exact rfl;exact rfl;exact rfl;(focus first|assumption|omega|fail))|(apply LD.r 2;(focus exact fun _=>rfl);exact rfl;exact rfl;exact rfl;exact rfl;exact rfl;(focus first|assumption|omega|fail))|(apply LD.r0 2;(focus exact fun _=>rfl);exact rfl;exact rfl;exact rfl;exact rfl;exact rfl;(focus first|assumption|omega|fail))|(apply LD.r 3;(focus exact fun _=>rfl);exact rfl;exact rfl;exact rfl;exact rfl;exact rfl;(focus first|assumption|omega|fail))|(apply LD.r0 3;(focus exact fun _=>rfl);exact rfl;exact rfl;exact rfl;exact rfl;exact rfl;(focus first|assumption|omega|fail))|fail):bS P G x o kd d:=h.still ho hy (jl ha)
theorem amn {op:BinOp} {t t':TypeId} {z:Operand} {u u' r:Value} (ho:o.op = .binOp op t y z t':=by exact rfl) (hy:aD x y = .v u:=by first|exact ot|exact cf|fail) (hz:aD x z = .v u':=by first|exact ot|exact cf|fail)
  (hb:lO P op t u u' r:=by first|exact UP|exact UL|exact UQ|exact UN|exact UM|exact UO|(apply lI;(focus exact wrap_i64 w4 w4))|(apply iL;(focus exact wrap_i64 w4 w4))|(apply KW;(focus exact wrap_i64 w4 w4))|exact Ta|exact Tb|exact afx|exact afy|exact afz|exact afA|(apply KY;(focus omega))|fail):bS P G x o .none (.v r):=dX ho hy hz hb
theorem iy_ {z:Operand} {k:IntKind} {i:Int} {d d':D} (ho:o.op = .indexAddr t y z:=by exact rfl) (hy:aD x y=d:=by exact ot) (hz:aD x z = .v (.int k i):=by first|exact ot|exact cf) (hs:D2 P t sz=true:=by exact Sl.h)
  (h:IX sz i d d':=by first|(apply IX.l;exact rfl;(focus first|assumption|omega|(simp;omega)|fail))|(apply IX.r;exact rfl;(focus first|assumption|omega|(simp;omega)|fail))|(apply IX.l;(focus exact(Int.toNat_of_nonneg w4).symm);(focus omega))|(apply IX.r;(focus exact(Int.toNat_of_nonneg w4).symm);(focus omega))|fail):bS P G x o .none d':=ei sz ho hy hz hs h
def fvQ(P:Program)(s i:Nat):Bool:=match P.underlying s with
 | some (.struct fs)=>match fs[i]? with
  | some f=>rY P f.type false
  | none=>false
 | _=>false
theorem aja:jK x [] []:=trivial
theorem ahq{d:D}(hy:aD x y=d)(h:jK x ps pl):jK x ((k,y)::ps) ((k,d)::pl):=⟨rfl,hy,h⟩
theorem pt_(h:jK x ps pl:=by repeat (first|exact aja|(apply ahq;(focus first|exact ot|exact cf|exact u4|fail)))):jK x ps pl:=h
theorem bd_ {pq:List (Nat×Nat)} {m:List D} (ho:o.op = .build t ps.toArray:=by exact rfl) (hz:rF P t=some zs:=by exact Sb.hz) (hp:Gb P t=some (pq.map fun p=>(p.1,some p.2)):=by exact Sb.hp)
  (iv:jK x ps pl:=by exact pt_) (hj:pl.all (fun p=>kV p.2)=true:=by exact rfl) (hs:rX P t sz=true:=by exact Sz.h) (hd:nc (pq.toArray[·]?) (zs.map .v) pl=some m:=by exact rfl) (hl:Nat.beq m.length sz=true:=by exact rfl) (hk:nx sz m ds:=by exact oq):bS P G x o .none (.agg ds):=by
 obtain⟨z,h1,h2⟩:=Cu hz;obtain⟨fs,h3,h4⟩:=adW hp;rw[hk.whole hl] at hd;exact pQ ho h1 h3 h4 iv hj (by rw[h2];exact hd)
def O2(P:Program)(t:Nat):Bool:=match P.underlying t with
 | some .string=>true
 | _=>false
theorem akP(h:O2 P t=true):∀w,(underlying t).run P w = .ok .string w:=by
 unfold O2 at h;split at h
 ·rename_i E;exact run_underlying E
 cases h
def Ea(P:Program)(t:Nat)(k:IntKind):Bool:=match P.underlying t with
 | some (.int a)=>decide (a=k)
 | _=>false
class Ik (P:Program) (t:Nat) (k:outParam IntKind):Prop where h:Ea P t k=true
theorem W5{k:IntKind}(h:Ea P t k=true):∀w,(underlying t).run P w = .ok (.int k) w:=by
 unfold Ea at h;split at h
 ·rename_i a h1;obtain rfl:=of_decide_eq_true h;exact run_underlying h1
 cases h
theorem cv_{s:TypeId}{k0 k k':IntKind}{a r:Int}(ho:o.op = .convert s t y:=by exact rfl)(hy:aD x y = .v (.int k a):=by exact ot)(hc:Ea P s k0=true:=by exact Ik.h)(vL:Ea P t k'=true:=by exact Ik.h)(h:k'.wrap a=r:=by first|exact wrap_i64 w4 w4|exact rfl):bS P G x o .none (.v (.int k' r)) :=
 tO ho hy (tT (W5 hc) (W5 vL) h)
theorem lr_{s:ByteArray}{ts:Array TypeId}(ho:o.op = .call {callee:=.builtin .len,args:=#[y],argTypes:=ts}:=by exact rfl)(ht:ts = #[t]:=by exact rfl)(hy:aD x y = .v (.string s):=by exact ot)(hs:O2 P t=true:=by kernel_rfl):bS P G x o .none (.v (.int .i64 (s.size:Nat))):=Fh ho ht hy (akP hs)
def tmpsOf:List Operand->List Nat
 | []=>[]
 | .tmp t::r=>t::tmpsOf r
 | _::r=>tmpsOf r
def opsOf:Op->List Operand
 | .move x|.assign x|.nilCheck x|.unOp _ _ x|.convert _ _ x|.fieldAddr _ x _|.field _ x _|.load _ x|.extract x _=>[x]
 | .pick c a b=>[c,a,b]
 | .binOp _ _ a b _|.indexAddr _ a b|.index _ a b|.lookup _ a b _=>[a,b]
 | .slice _ x lo hi mx=>x::(lo.toList++hi.toList++mx.toList)
 | .build _ ps|.buildSlice _ _ ps=>ps.toList.map (·.2)
 | .makeFunc _ _ c=>c.toList
 | .call c=>match c.callee with
  | .value f=>f::c.args.toList
  | _=>c.args.toList
 | _=>[]
def A8(ops:Array Oper)(o:Oper):List Nat:=match o.guard with
 | some (g,_)=>(match ops[g]? with
  | some p=>p.dst.toList
  | none=>[])
 | none=>[]
def iF(ops:Array Oper)(o:Oper):List Nat:=A8 ops o++tmpsOf (opsOf o.op)
theorem gN{ts:List Nat}(h:eW ts e l':=by repeat (first|exact eW.nil|(apply eW.cons;(focus exact lk)))):eW ts e l':=h
theorem oH{x:St}(h:bV ops x o true:=by first|exact so rfl|exact vk rfl rfl rfl lk jQ|fail):bV ops x o true:=h
theorem IB{x:St}(h:bV ops x o false:=by first|exact nC rfl rfl rfl lk jQ|exact KR (b:=false) rfl rfl rfl lk|fail):bV ops x o false:=h
def PE(c:Bool)(P:Program)(G:List (Nat×List Value))(n:Nat)(S:List ag)(ops:Array Oper)(ts:List Nat)(l:List Oper)(e:List (Nat×D))(R:List (Nat×D)->Prop):Prop:=∃e' l',PD c P G n S ops l e [] e'/\eW ts e' l'/\R l'
variable {R:List (Nat×D)->Prop}
theorem jR(K:R l')(h:eW ts e l':=by exact gN):PE c P G n S ops ts [] e R:=⟨e,l',.nil,h,K⟩
theorem PE.cons{lr:List (Nat×D)}{E:List Nat}(hd:o.dst=some t)(hr:eW E e lr)(hq:(!c||jx ops o E)=true)(hw:bV ops ⟨n,lr,S⟩ o true)(h:fh P G ⟨n,lr,S⟩ o [] (fun y=>y=⟨n,(t,d)::lr,S⟩))(K:PE c P G n S ops ts l ((t,d)::e) R):PE c P G n S ops ts (o::l) e R:=by
 obtain⟨e',l',h1,h2⟩:=K;exact⟨e',l',.cons hd hr hq hw h h1,h2⟩
theorem pe_(hd:o.dst=some t:=by exact rfl)(hr:eW (iF ops o) e lr:=by exact gN)(h:bS P G ⟨n,lr,S⟩ o kd d)(K:PE c P G n S ops ts l ((t,d)::e) R)(hq:(!c||jx ops o (iF ops o))=true:=by kernel_rfl)(hw:bV ops ⟨n,lr,S⟩ o true:=by exact oH):PE c P G n S ops ts (o::l) e R:=.cons hd hr hq hw (h.gm hd) K
theorem pf_(K:PE c P G n S ops ts l ((t,.v (.tuple #[]))::e) R)(hd:o.dst=some t:=by exact rfl)(hr:eW (A8 ops o) e lr:=by exact gN)(hq:(!c||jx ops o (A8 ops o))=true:=by kernel_rfl)(hw:bV ops ⟨n,lr,S⟩ o false:=by exact IB):PE c P G n S ops ts (o::l) e R:=by
 obtain⟨e',l',h1,h2⟩:=K;exact⟨e',l',.skip hd hr hq hw h1,h2⟩
def yM(P:Program)(f:Nat):Bool:=match P.funcs[f]? with
 | some fn => !(fn.name == "runtime.NumGoroutine") && fn.body.isSome
 | none=>false
theorem Wl{f:Nat}(h:yM P f=true):∀args w,(callFunc f args).run P w = .ok (.enter f args) w:=by
 unfold yM at h;split at h
 ·rename_i fn hf;rw[Bool.and_eq_true] at h;obtain⟨h1,h2⟩:=h;obtain⟨c,hc⟩:=Option.isSome_iff_exists.1 h2;exact enters_of hf (by simpa using h1) hc
 cases h
theorem pc_ {f:Nat} {args:List D} {r:D} (hc:VP P G f args r) (K:PE c P G n S ops ts l ((t,r)::e) R) (ho:o.op = .call {callee:=.value fo,args:=dh,argTypes:=tt}:=by exact rfl)
  (hd:o.dst=some t:=by exact rfl) (hr:eW (iF ops o) e lr:=by exact gN) (hq:(!c||jx ops o (iF ops o))=true:=by kernel_rfl) (hw:bV ops ⟨n,lr,S⟩ o true:=by exact oH) (hf:fo = .func f:=by exact rfl) (fH:yM P f=true:=by kernel_rfl) (ha:nN ⟨n,lr,S⟩ dh.toList args:=by exact D9):PE c P G n S ops ts (o::l) e R:=by
 refine .cons hd hr hq hw ?_ K;intro C a w K Q hG hs hK;refine Cg ho hd hf (Wl fH) ha.eq (fx _) hc C a w K Q hG hs fun y a' w' hy E vL I=>?_;obtain⟨r',S',⟨rfl,rfl⟩,rfl⟩:=hy;exact hK _ a' w' rfl E vL I
theorem ajb{x:St}:jK x [] (cx k []):=trivial
theorem ahr{x:St}{d:D}{pd:List D}(hy:aD x y=d)(h:jK x ps (cx (k+1) pd)):jK x ((k,y)::ps) (cx k (d::pd)):=⟨rfl,hy,h⟩
theorem Eb{x:St}{pd:List D}(h:jK x ps (cx k pd):=by repeat (first|exact ajb|(apply ahr;(focus first|exact ot|exact cf|exact u4|fail)))):jK x ps (cx k pd):=h
def wU(P:Program)(t sz:Nat):Bool:=match P.underlying t with
 | some (.slice e)=>rX P e sz&&(rF P e).isSome && !(isMap e)
 | _=>false
class rZ (P:Program) (t:Nat) (sz:outParam Nat):Prop where h:wU P t sz=true
theorem ajc(h:wU P t sz=true):∃e z,(∀w,(underlying t).run P w = .ok (.slice e) w)/\(∀w,(sizeOf e).run P w = .ok sz w)/\(∀w,(zeroValue e).run P w = .ok z w)/\isMap e=false:=by
 unfold wU at h;split at h
 ·rename_i e E;simp only[Bool.and_eq_true,Bool.not_eq_true'] at h;obtain⟨⟨h1,h2⟩,h3⟩:=h;obtain⟨zs,h4⟩:=Option.isSome_iff_exists.1 h2;obtain⟨z,h5,_⟩:=Cu h4;exact⟨e,z,run_underlying E,mF h1,h5,h3⟩
 cases h
theorem acq{pd:List D}(h:pd.all kV=true):∀k,(cx k pd).all (fun p=>kV p.2)=true:=by
 induction pd with
 | nil=>intro k;rfl
 | cons a r ih =>
  intro k;rw[all_cons,Bool.and_eq_true] at h;rw[cx,all_cons,Bool.and_eq_true];exact⟨h.1,ih h.2 _⟩
theorem To {len:Nat} {pd:List D} (ho:o.op = .buildSlice t' len ps.toArray) (hd:o.dst=some t) (hs:wU P t' sz=true) (iv:jK x ps (cx 0 pd)) (hn:Nat.beq pd.length len=true) (hl:Nat.ble 1 (len*sz)=true) (iu:Nat.ble (len*sz) (2 ^ 24)=true)
  (hj:pd.all kV=true) (ha:(pd.all fun d=>Nat.beq (cellsOf d).length sz)=true) (jA:pd.flatMap cellsOf=ds):fh P G x o [] (fun y=>y=x.put t (.list sz ds len)):=by
 obtain⟨e,z,hu,dg,hz,hne⟩:=ajc hs;have hlen:pd.length=len:=Nat.eq_of_beq_eq_true hn;have zm:ds.length=len*sz:=by
  rw[<-jA,<-hlen];clear iv hn hlen jA hj;induction pd with
  | nil=>simp
  | cons a r ih =>
   rw[all_cons,Bool.and_eq_true] at ha;rw[flatMap_cons,length_append,ih ha.2,Nat.eq_of_beq_eq_true ha.1,length_cons,Nat.succ_mul,Nat.add_comm]
 intro C a w K Q hG h hK;refine Je (hne:=hne) (zs:=((Array.range (len*sz)).map (fun i=>z.cells[i % z.cells.size]!)).toList.map .v) (ds:=ds) ho hd hz hu dg (Nat.le_of_ble_eq_true hl) (Nat.le_of_ble_eq_true iu) ?_ ?_ ?_ ?_ C a w K Q hG h fun y a' w' hy O vL E=>?_
 ·rw[map_map,Array.toList_map,map_map];apply Array.ext';simp[Function.comp_def]
 ·intro d hd;obtain⟨u,_,rfl⟩:=mem_map.1 hd;exact⟨u,rfl⟩
 ·rw[iv.eq];exact BY (acq hj 0)
 ·rw[iv.eq];exact Ro ha (by rw[hlen];simp) jA
 obtain⟨b,rfl⟩:=hy;have I:len<=maxLen:=by
  have h1:=Nat.le_of_ble_eq_true hl;have h2:=Nat.le_of_ble_eq_true iu;have h3:1<=sz:=Nat.pos_of_ne_zero fun h0=>by rw[h0] at h1;omega
  have h4:len*1<=len*sz:=Nat.mul_le_mul_left _ h3;have:maxLen=9223372036854775807:=rfl;omega
 have hg:=Wk.Da (hne:=hne) (k:=0) (t:=t) (sz:=sz) (m:=len) (cap:=len) (B:=⟨b,e,ds.length,ds⟩) (n:=x.n) (l:=(t,.v (.slice (some ⟨b,0,none⟩) len len))::x.env) (S:=⟨b,e,ds.length,ds⟩::x.S) (cs:=ds) rfl jV rfl zm (Nat.le_refl _) I;refine hK (x.put t (.list sz ds len)) a' w' rfl ?_ vL ?_
 ·have h1:=hg C a' w' O;refine⟨h1.defers,h1.size,fun q hq=>?_,h1.own,h1.fr,h1.ex,h1.eI⟩;have h2:=h1.env q hq;simp only[eD] at h2;simp only[St.put,eD];by_cases e1:t=q
  ·rw[if_pos e1] at h2 |-;exact h2
  rw[if_neg e1] at h2 |-;rw[if_neg e1] at h2;exact h2
 exact⟨E.os,E.tape,E.output,E.size,fun U h1 h2=>⟨(E.block U h1 h2).1,fun h3=>(E.block U h1 h2).2 (mem_cons_of_mem _ h3)⟩⟩
theorem pl_ {len:Nat} {pd:List D} (K:PE c P G n S ops ts l ((t,.list sz ds len)::e) R) (ho:o.op = .buildSlice t' len ps.toArray:=by exact rfl)
  (hd:o.dst=some t:=by exact rfl) (hr:eW (iF ops o) e lr:=by exact gN) (iv:jK ⟨n,lr,S⟩ ps (cx 0 pd):=by exact Eb) (hs:wU P t' sz=true:=by exact rZ.h) (hq:(!c||jx ops o (iF ops o))=true:=by kernel_rfl) (hw:bV ops ⟨n,lr,S⟩ o true:=by exact oH)
  (hn:Nat.beq pd.length len=true:=by exact rfl) (hl:Nat.ble 1 (len*sz)=true:=by exact rfl) (iu:Nat.ble (len*sz) (2 ^ 24)=true:=by exact rfl) (hj:pd.all kV=true:=by exact rfl) (ha:(pd.all fun d=>Nat.beq (cellsOf d).length sz)=true:=by exact rfl) (jA:pd.flatMap cellsOf=ds:=by exact rfl):PE c P G n S ops ts (o::l) e R:=.cons hd hr hq hw (To ho hd hs iv hn hl iu hj ha jA) K
theorem O3 {α:Type} {g:α->List D} (ls:List α) {len:Nat} {pd:List D} (K:PE c P G n S ops ts l ((t,.list sz (ls.flatMap g) ls.length)::e) R) (ho:o.op = .buildSlice t' len ps.toArray:=by exact rfl)
  (hd:o.dst=some t:=by exact rfl) (hr:eW (iF ops o) e lr:=by exact gN) (iv:jK ⟨n,lr,S⟩ ps (cx 0 pd):=by exact Eb) (hs:wU P t' sz=true:=by exact rZ.h) (hq:(!c||jx ops o (iF ops o))=true:=by kernel_rfl) (hw:bV ops ⟨n,lr,S⟩ o true:=by exact oH)
  (hn:Nat.beq pd.length len=true:=by exact rfl) (hl:Nat.ble 1 (len*sz)=true:=by exact rfl) (iu:Nat.ble (len*sz) (2 ^ 24)=true:=by exact rfl) (hj:pd.all kV=true:=by exact rfl) (ha:(pd.all fun d=>Nat.beq (cellsOf d).length sz)=true:=by exact rfl) (hlen:len=ls.length:=by exact rfl) (jA:pd.flatMap cellsOf=ls.flatMap g:=by exact rfl):PE c P G n S ops ts (o::l) e R:=by
 subst hlen;exact pl_ K ho hd hr iv hs hq hw hn hl iu hj ha jA
theorem IC{x:St}(h:bS P G x o kd d:=by first|exact bJ|exact fb_|exact lc_|exact amm|exact amn|exact iy_|exact OO|exact zf|exact qN|exact yJ|exact wQ|exact lY|exact bd_|exact cv_|exact lr_|exact fv_|exact D7|fail):bS P G x o kd d:=h
structure PK (k:Nat) (P:Program) (G:List (Nat×List Value)) (n:Nat) (S:List ag) (ops:Array Oper) (l:List Oper) (e:List (Nat×D)) (l2:List Oper) (e':List (Nat×D)):Prop where
 h:PD false P G n S ops l e l2 e'
theorem PK.z:PK 0 P G n S ops l e l e:=⟨.nil⟩
theorem PK.s(hd:o.dst=some t)(hr:eW (iF ops o) e lr)(hw:bV ops ⟨n,lr,S⟩ o true)(h:bS P G ⟨n,lr,S⟩ o kd d)(K:PK k P G n S ops l ((t,d)::e) l2 e'):PK (k+1) P G n S ops (o::l) e l2 e':=⟨.cons hd hr rfl hw (h.gm hd) K.h⟩
theorem PK.f(hd:o.dst=some t)(hr:eW (A8 ops o) e lr)(hw:bV ops ⟨n,lr,S⟩ o false)(K:PK k P G n S ops l ((t,.v (.tuple #[]))::e) l2 e'):PK (k+1) P G n S ops (o::l) e l2 e':=⟨.skip hd hr rfl hw K.h⟩
theorem BA(h:PK k P G n S ops l e l2 e':=by repeat (first|exact PK.z|(apply PK.s;exact rfl;(focus exact gN);(focus exact oH);(focus exact IC))|(apply PK.f;exact rfl;(focus exact gN);(focus exact IB)))):PK k P G n S ops l e l2 e':=h
theorem aG(k:Nat)(K:OD P C ops l2 ⟨n,e',S⟩ Q)(h:PK k P C.G n S ops l e l2 e':=by exact BA):OD P C ops l ⟨n,e,S⟩ Q:=h.h.od K
theorem az{d:Code}(k:Nat)(K:OD P C l.toArray l2 ⟨n,e',S⟩ (Dc P C d Q))(h0:CD P C (.seq (.region id l.toArray false) d) ⟨n,e,S⟩ Q->p:=by exact lZ)(h:PK k P C.G n S l.toArray l e l2 e':=by exact BA):p:=h0 (cQ (B5 (h.h.od K)))
theorem dV(k:Nat)(K:OD P C l.toArray l2 ⟨n,e',S⟩ Q)(h0:CD P C (.region id l.toArray false) ⟨n,e,S⟩ Q->p:=by exact lZ)(h:PK k P C.G n S l.toArray l e l2 e':=by exact BA):p:=h0 (B5 (h.h.od K))
theorem zn(k:Nat)(K:OD P C ops l2 ⟨n,e',S⟩ Q)(h:PK k P C.G n S ops l e l2 e':=by repeat (first|exact PK.z|(apply PK.f;exact rfl;(focus exact gN);(focus exact nC rfl rfl rfl lk jQ)))):OD P C ops l ⟨n,e,S⟩ Q:=h.h.od K
theorem bA(ts:List Nat)(K:Q .normal ⟨n,l',S⟩)(h:PK k P C.G n S ops l e [] e':=by exact BA)(hr:eW ts e' l':=by exact gN):OD P C ops l ⟨n,e,S⟩ Q:=h.h.od (nm_ ts K hr)
theorem cN{d:Code}(ts:List Nat)(h:PE c P C.G n S l.toArray ts l e fun l'=>CD P C d ⟨n,l',S⟩ Q)(h0:CD P C (.seq (.region id l.toArray c) d) ⟨n,e,S⟩ Q->p:=by exact lZ)(hm:(!c||P.follows .mixedOrders)=true:=by kernel_rfl)(hp:(!c||j6 l.toArray)=true:=by kernel_rfl):p:=by
 obtain⟨e',l',h1,h2,K⟩:=h;exact h0 (cQ (WZ (by intro hc;subst hc;simpa using hm) (by intro hc;subst hc;simpa using hp) h1 (kS (Wk.kU h2.kU) K)))
def WC(Q:Exit->St->Prop):Prop:=∀n e l' S,oN e l'->Q .normal ⟨n,l',S⟩->Q .normal ⟨n,e,S⟩
theorem WC.then{d:Code}:WC (Dc P C d Q):=fun n e l' S h k=>kS (Wk.kU h) k
theorem WC.cut{E:St->Prop}:WC (OL E Q):=fun n e l' S h ⟨z,h1,h2⟩=>⟨z,(Wk.kU h).trans h1,h2⟩
theorem WC.round{ι:Type}{I:ι->St->Prop}{μ:ι->Nat}{i:ι}:WC (CQ I μ i Q):=fun n e l' S h ⟨j,z,h1,h2,h3⟩=>⟨j,z,h1,(Wk.kU h).trans h2,h3⟩
theorem WC.inBlock(h:WC Q):WC (Cr id Q):=h
theorem WC.body:WC (Body P fn post):=fun n e l' S h ⟨h1,r,S',h2,h3,h4⟩=>⟨h1,r,S',h2,fun C a w hs=>h3 C a w (Wk.kU h C a w hs),h4⟩
theorem wc_(h:WC Q:=by repeat (first|exact WC.then|exact WC.cut|exact WC.round|exact WC.body|apply WC.inBlock)):WC Q:=h
theorem jg(ts:List Nat)(h:PE c P C.G n S l.toArray ts l e fun l'=>Q .normal ⟨n,l',S⟩)(h0:CD P C (.region id l.toArray c) ⟨n,e,S⟩ Q->p:=by exact lZ)(hm:(!c||P.follows .mixedOrders)=true:=by kernel_rfl)(hp:(!c||j6 l.toArray)=true:=by kernel_rfl)(hQ:WC Q:=by exact wc_):p:=by
 obtain⟨e',l',h1,h2,K⟩:=h;exact h0 (WZ (by intro hc;subst hc;simpa using hm) (by intro hc;subst hc;simpa using hp) h1 (hQ _ _ _ _ h2.kU K))
structure PL (k:Nat) (c:Bool) (P:Program) (G:List (Nat×List Value)) (n:Nat) (S:List ag) (ops:Array Oper) (ts:List Nat) (l:List Oper) (e:List (Nat×D)) (l2:List Oper) (e':List (Nat×D)):Prop where
 h:∀R,PE c P G n S ops ts l2 e' R->PE c P G n S ops ts l e R
theorem K0{pd:List D}{len:Nat}(hn:Nat.beq pd.length len=true)(ha:(pd.all fun d=>Nat.beq (cellsOf d).length sz)=true):Nat.beq (pd.flatMap cellsOf).length (len*sz)=true:=by
 have:(pd.flatMap cellsOf).length=pd.length*sz:=by
  clear hn;induction pd with
  | nil=>simp
  | cons a r ih =>
   rw[all_cons,Bool.and_eq_true] at ha;rw[flatMap_cons,length_append,ih ha.2,Nat.eq_of_beq_eq_true ha.1,length_cons,Nat.succ_mul,Nat.add_comm]
 rw[this,Nat.eq_of_beq_eq_true hn];exact Nat.beq_refl _
theorem PL.z:PL 0 c P G n S ops ts l e l e:=⟨fun _ h=>h⟩
theorem PL.s(hd:o.dst=some t)(hr:eW (iF ops o) e lr)(hw:bV ops ⟨n,lr,S⟩ o true)(h:bS P G ⟨n,lr,S⟩ o kd d)(hq:(!c||jx ops o (iF ops o))=true)(K:PL k c P G n S ops ts l ((t,d)::e) l2 e'):PL (k+1) c P G n S ops ts (o::l) e l2 e':=⟨fun R h1=>pe_ hd hr h (K.h R h1) hq hw⟩
theorem PL.f(hd:o.dst=some t)(hr:eW (A8 ops o) e lr)(hw:bV ops ⟨n,lr,S⟩ o false)(hq:(!c||jx ops o (A8 ops o))=true)(K:PL k c P G n S ops ts l ((t,.v (.tuple #[]))::e) l2 e'):PL (k+1) c P G n S ops ts (o::l) e l2 e':=⟨fun R h1=>pf_ (K.h R h1) hd hr hq hw⟩
theorem PL.r {len:Nat} {pd:List D} (ho:o.op = .buildSlice t' len ps.toArray) (hd:o.dst=some t) (hr:eW (iF ops o) e lr) (iv:jK ⟨n,lr,S⟩ ps (cx 0 pd)) (hs:wU P t' sz=true) (hw:bV ops ⟨n,lr,S⟩ o true)
  (hn:Nat.beq pd.length len=true) (hl:Nat.ble 1 (len*sz)=true) (iu:Nat.ble (len*sz) (2 ^ 24)=true) (hj:pd.all kV=true) (ha:(pd.all fun d=>Nat.beq (cellsOf d).length sz)=true) (hq:(!c||jx ops o (iF ops o))=true) (jA:nx (len*sz) (pd.flatMap cellsOf) ds) (K:PL k c P G n S ops ts l ((t,.list sz ds len)::e) l2 e'):PL (k+1) c P G n S ops ts (o::l) e l2 e' :=
 ⟨fun R h1=>pl_ (K.h R h1) ho hd hr iv hs hq hw hn hl iu hj ha (jA.whole (K0 hn ha))⟩
theorem wV(h:PL k c P G n S ops ts l e l2 e':=by repeat (first|exact PL.z|(apply PL.s;exact rfl;(focus exact gN);(focus exact oH);(focus exact IC);(focus kernel_rfl))|(apply PL.f;exact rfl;(focus exact gN);(focus exact IB);(focus kernel_rfl))|(apply PL.r;exact rfl;exact rfl;(focus exact gN);(focus exact Eb);(focus exact rZ.h);(focus exact oH);(iterate 5 (focus exact rfl));(focus kernel_rfl);(focus exact oq)))):PL k c P G n S ops ts l e l2 e':=h
theorem mr(k:Nat)(K:PE c P G n S ops ts l2 e' R)(h:PL k c P G n S ops ts l e l2 e':=by exact wV):PE c P G n S ops ts l e R:=h.h R K
theorem aT(k:Nat)(K:PE c P G n S ops ts l2 ((t,d)::e') R)(h1:PL k c P G n S ops ts l e (o::l2) e':=by exact wV)(hd:o.dst=some t:=by exact rfl)(hr:eW (iF ops o) e' lr:=by exact gN)(h:bS P G ⟨n,lr,S⟩ o kd d)(hq:(!c||jx ops o (iF ops o))=true:=by kernel_rfl)(hw:bV ops ⟨n,lr,S⟩ o true:=by exact oH):PE c P G n S ops ts l e R:=h1.h R (pe_ hd hr h K hq hw)
theorem pa_(h:PL k c P G n S ops ts l e l2 e':=by (repeat (first|(apply PL.s;exact rfl;(focus exact gN);(focus exact oH);(focus exact IC);(focus kernel_rfl))|(apply PL.f;exact rfl;(focus exact gN);(focus exact IB);(focus kernel_rfl))|(apply PL.r;exact rfl;exact rfl;(focus exact gN);(focus exact Eb);(focus exact rZ.h);(focus exact oH);(iterate 5 (focus exact rfl));(focus kernel_rfl);(focus exact oq))|fail));exact PL.z):PL k c P G n S ops ts l e l2 e':=h
theorem cL {f:Nat} {args:List D} {r:D} (hc:VP P G f args r) (K:PE c P G n S ops ts l2 ((t,r)::e') R) (h1:PL k c P G n S ops ts l e (o::l2) e':=by exact pa_) (ho:o.op = .call {callee:=.value fo,args:=dh,argTypes:=tt}:=by exact rfl)
  (hd:o.dst=some t:=by exact rfl) (hr:eW (iF ops o) e' lr:=by exact gN) (hq:(!c||jx ops o (iF ops o))=true:=by kernel_rfl) (hw:bV ops ⟨n,lr,S⟩ o true:=by exact oH) (hf:fo = .func f:=by exact rfl) (fH:yM P f=true:=by kernel_rfl) (ha:nN ⟨n,lr,S⟩ dh.toList args:=by exact D9):PE c P G n S ops ts l e R:=h1.h R (pc_ hc K ho hd hr hq hw hf fH ha)
theorem bL(K:R l')(h:PL k c P G n S ops ts l e [] e':=by exact wV)(hr:eW ts e' l':=by exact gN):PE c P G n S ops ts l e R:=h.h R (jR K hr)
theorem aA{d:Code}(ts:List Nat)(K:CD P C d ⟨n,l',S⟩ Q)(h0:CD P C (.seq (.region id l.toArray c) d) ⟨n,e,S⟩ Q->p:=by exact lZ)(h:PL k c P C.G n S l.toArray ts l e [] e':=by exact wV)(hr:eW ts e' l':=by exact gN)(hm:(!c||P.follows .mixedOrders)=true:=by kernel_rfl)(hp:(!c||j6 l.toArray)=true:=by kernel_rfl):p:=cN ts (h.h _ (jR K hr)) h0 hm hp
theorem cX {k2 f:Nat} {d':Code} {args:List D} {r:D} {e2:List (Nat×D)} (ts:List Nat) (hc:VP P G f args r) (K:CD P C d' ⟨n,l',S⟩ Q) (h0:CD P C (.seq (.region id l.toArray c) d') ⟨n,e,S⟩ Q->p:=by exact lZ) (hG:C.G=G:=by exact rfl) (h1:PL k c P G n S l.toArray ts l e (o::l2) e':=by exact pa_) (ho:o.op = .call {callee:=.value fo,args:=dh,argTypes:=tt}:=by exact rfl)
  (hd:o.dst=some t:=by exact rfl) (hr:eW (iF l.toArray o) e' lr:=by exact gN) (hq:(!c||jx l.toArray o (iF l.toArray o))=true:=by kernel_rfl) (hw:bV l.toArray ⟨n,lr,S⟩ o true:=by exact oH) (hf:fo = .func f:=by exact rfl) (fH:yM P f=true:=by kernel_rfl) (ha:nN ⟨n,lr,S⟩ dh.toList args:=by exact D9)
  (h2:PL k2 c P G n S l.toArray ts l2 ((t,r)::e') [] e2:=by exact wV) (hs:eW ts e2 l':=by exact gN) (hm:(!c||P.follows .mixedOrders)=true:=by kernel_rfl) (hp:(!c||j6 l.toArray)=true:=by kernel_rfl):p:=by
 subst hG;exact cN ts (cL hc (bL K h2 hs) h1 ho hd hr hq hw hf fH ha) h0 hm hp
theorem cc(ts:List Nat)(K:Q .normal ⟨n,l',S⟩)(h0:CD P C (.region id l.toArray c) ⟨n,e,S⟩ Q->p:=by exact lZ)(h:PL k c P C.G n S l.toArray ts l e [] e':=by exact wV)(hr:eW ts e' l':=by exact gN)(hm:(!c||P.follows .mixedOrders)=true:=by kernel_rfl)(hp:(!c||j6 l.toArray)=true:=by kernel_rfl)(hQ:WC Q:=by exact wc_):p:=jg ts (h.h _ (jR K hr)) h0 hm hp hQ
inductive BP:Bool->Prop->Prop->Prop
 | lt {a b:Int}:BP (decide (a<b)) (a<b) (b<=a)
 | le {a b:Int}:BP (decide (a<=b)) (a<=b) (b<a)
 | gt {a b:Int}:BP (decide (a>b)) (a>b) (a<=b)
 | ge {a b:Int}:BP (decide (a>=b)) (a>=b) (a<b)
 | eq {a b:Int}:BP (a==b) (a=b) (¬a=b)
 | ne {a b:Int}:BP (a != b) (¬a=b) (a=b)
 | beq {a b:Bool}:BP (a==b) (a=b) (¬a=b)
 | bne {a b:Bool}:BP (a != b) (¬a=b) (a=b)
 | dec {p:Prop} [Decidable p]:BP (decide p) p (¬p)
 | nn {b:Bool} {p q:Prop} (h:BP b p q):BP (!!b) p q
 | no {b:Bool} {p q:Prop} (h:BP b p q):BP (!b) q p
 | any {b:Bool}:BP b (b=true) (b=false)
theorem BP.ok(h:BP b p q):(b=true->p)/\(b=false->q):=by
 induction h with
 | lt=>exact⟨of_decide_eq_true,fun h=>Int.not_lt.1 (of_decide_eq_false h)⟩
 | le=>exact⟨of_decide_eq_true,fun h=>Int.not_le.1 (of_decide_eq_false h)⟩
 | gt=>exact⟨of_decide_eq_true,fun h=>Int.not_lt.1 (of_decide_eq_false h)⟩
 | ge=>exact⟨of_decide_eq_true,fun h=>Int.not_le.1 (of_decide_eq_false h)⟩
 | eq=>exact⟨by simp,by simp⟩
 | ne=>exact⟨by simp,by simp⟩
 | beq=>exact⟨by simp,by simp⟩
 | bne=>exact⟨by simp,by simp⟩
 | dec=>exact⟨of_decide_eq_true,of_decide_eq_false⟩
 | nn h ih=>exact⟨fun e=>ih.1 (by simpa using e),fun e=>ih.2 (by simpa using e)⟩
 | no h ih=>exact⟨fun e=>ih.2 (by simpa using e),fun e=>ih.1 (by simpa using e)⟩
 | any=>exact⟨id,id⟩
theorem O4(h:BP b p q:=by first|exact .lt|exact .le|exact .eq|exact .ne|exact .gt|exact .ge|exact .beq|exact .bne|exact .dec|(apply BP.nn;focus (first|exact .lt|exact .le|exact .eq|exact .ne|exact .gt|exact .ge|exact .dec|exact .any))|(apply BP.no;focus (first|exact .lt|exact .le|exact .eq|exact .ne|exact .gt|exact .ge|exact .dec|exact .any))|exact .any):BP b p q:=h
theorem cj{z:Operand}{d1 d2:Code}{r:Prop}(ht:b=true->p->CD P C d1 x Q)(hf:b=false->q->CD P C d2 x Q)(h0:CD P C (.cond z d1 d2) x Q->r:=by exact lZ)(hc:aD x z = .v (.bool b):=by exact ot)(h:BP b p q:=by exact O4):r:=h0 (ahf hc (fun e=>ht e (h.ok.1 e)) (fun e=>hf e (h.ok.2 e)))
theorem bU(t:Nat)(h1:b=true->p->OD P C ops l x Q)(h2:b=false->q->OD P C ops l x Q)(hb:look t x.env = .v (.bool b):=by exact lk)(h:BP b p q:=by exact O4):OD P C ops l x Q:=Td hb (fun e=>h1 e (h.ok.1 e)) (fun e=>h2 e (h.ok.2 e))
inductive NS:List ag->List ag->Prop
 | r {S:List ag}:NS S S
 | c {b e sz:Nat} {cs cs':List D} {S S':List ag} (hl:Nat.beq cs.length sz=true) (h:nx sz cs cs') (k:NS S S'):NS (⟨b,e,sz,cs⟩::S) (⟨b,e,sz,cs'⟩::S')
 | k {B:ag} {S S':List ag} (k:NS S S'):NS (B::S) (B::S')
theorem NS.eq{S:List ag}(h:NS S S'):S=S':=by
 induction h with
 | r=>rfl
 | c hl h k ih=>rw[h.whole hl,ih]
 | k k ih=>rw[ih]
theorem ns_{S:List ag}(h:NS S S':=by repeat (first|(apply NS.c;exact rfl;(focus exact oq))|apply NS.k|exact NS.r)):NS S S':=h
theorem aq(m:Nat)(ts:List Nat)(K:Q .normal ⟨m,l',S'⟩)(h:PK k P C.G n S ops l e [] e':=by exact BA)(hr:eW ts e' l':=by exact gN)(hS:NS S S':=by exact ns_)(hn:n=m:=by exact rfl):OD P C ops l ⟨n,e,S⟩ Q:=h.h.od (fC (Wk.ek hn hS.eq hr.kU) (jX K))
theorem ID{α:Type}{a b:List α}(h:a.Sublist b:=by repeat (first|exact Sublist.refl _|exact nil_sublist _|apply Sublist.cons_cons|apply Sublist.cons)):a.Sublist b:=h
theorem amo{l:List (Nat×D)}(h:look t l=d:=by (repeat (first|exact jV|(apply kP;focus (first|rfl|(simp;done)|(congr 2;omega)|(apply iW;first|rfl|assumption|(simp;done))))|(apply j8;focus rfl)));first|done|fail):look t l=d:=h
theorem amq{l':List (Nat×D)}(h:oN e l':=by repeat (first|exact trivial|refine⟨amo,?_⟩)):oN e l':=h
theorem aI{x:St}{n:Nat}(hn:x.n=n:=by exact rfl)(hS:S'.Sublist x.S:=by exact ID)(h:oN x.env l':=by exact amq):Wk x ⟨n,l',S'⟩:=Wk.asS hn hS h
theorem cG{a b:Nat}(h:a<b:=by first|omega|(simp only[];omega)|(simp;omega)):a<b:=h
theorem fa{c:Code}{ι:Type}{y:St}(ts:List Nat)(I:List (Nat×D)->List ag->ι->St->Prop)(μ:ι->Nat)(i:ι)(h0:I l' S i y)(round:∀i y,I l' S i y->CD P C c y (CQ (I l' S) μ i Q))(hp:CD P C (.loop c) ⟨n,e,S⟩ Q->p:=by exact lZ)(hr:eW ts e l':=by exact gN)(hw:Wk ⟨n,e,S⟩ y:=by exact aI):p:=hp (kS hw (KS (I l' S) μ i h0 round))
theorem iT{c d:Code}(ts:List Nat)(I:List (Nat×D)->List ag->St->Prop)(h1:CD P C c ⟨n,e,S⟩ (OL (I l' S) Q))(h2:∀y,I l' S y->CD P C d y Q)(hr:eW ts e l':=by exact gN):CD P C (.seq c d) ⟨n,e,S⟩ Q:=sG (I l' S) h1 h2
theorem BB{y:St}{rv:ResultVar}{d:D}(h:uO P y rv d:=by first|exact Ak aP lk|exact tQ (k:=0) aP lk rfl rfl (jl aB) (mF Sz.h) rfl rfl|exact tQ (k:=1) aP lk rfl rfl (jl aB) (mF Sz.h) rfl rfl|exact tQ (k:=2) aP lk rfl rfl (jl aB) (mF Sz.h) rfl rfl|exact tQ (k:=3) aP lk rfl rfl (jl aB) (mF Sz.h) rfl rfl|exact tQ (k:=4) aP lk rfl rfl (jl aB) (mF Sz.h) rfl rfl|exact tQ (k:=5) aP lk rfl rfl (jl aB) (mF Sz.h) rfl rfl|exact tQ (k:=6) aP lk rfl rfl (jl aB) (mF Sz.h) rfl rfl|exact tQ (k:=7) aP lk rfl rfl (jl aB) (mF Sz.h) rfl rfl|exact tQ (k:=8) aP lk rfl rfl (jl aB) (mF Sz.h) rfl rfl|exact tQ (k:=9) aP lk rfl rfl (jl aB) (mF Sz.h) rfl rfl|exact u6 (k:=0) aP lk rfl rfl (jl aB) rfl|exact u6 (k:=1) aP lk rfl rfl (jl aB) rfl|exact u6 (k:=2) aP lk rfl rfl (jl aB) rfl|exact u6 (k:=3) aP lk rfl rfl (jl aB) rfl|exact u6 (k:=4) aP lk rfl rfl (jl aB) rfl|exact u6 (k:=5) aP lk rfl rfl (jl aB) rfl|exact u6 (k:=6) aP lk rfl rfl (jl aB) rfl|exact u6 (k:=7) aP lk rfl rfl (jl aB) rfl|exact u6 (k:=8) aP lk rfl rfl (jl aB) rfl|exact u6 (k:=9) aP lk rfl rfl (jl aB) rfl|fail):uO P y rv d:=h
theorem O5{y:St}{r:D}(h:rW P fn y r:=by first|exact rp rfl|exact UJ rfl BB|exact KT rfl BB BB|exact adO rfl BB BB BB|fail):rW P fn y r:=h
theorem eu{x:St}{r:D}(S':List ag)(hp:post r S')(h0:Body P fn post ex x->p:=by exact lZ)(he:ex = .normal\/ex = .ret:=by first|exact .inr rfl|exact .inl rfl)(hS:S'.Sublist x.S:=by exact ID)(hr:rW P fn x r:=by exact O5):p:=h0 ⟨he,r,S',hS,hr,hp⟩
theorem ax {d d1 d2:Code} {z:Operand} {pp:Prop} {Q':Exit->St->Prop} (ts:List Nat) (ht:b=true->pp->CD P C d1 ⟨n,l',S⟩ Q') (hf:b=false->q->CD P C d2 ⟨n,l',S⟩ Q') (h0:CD P C (.seq (.region id l.toArray c) d) ⟨n,e,S⟩ Q->p:=by exact lZ) (h:PL k c P C.G n S l.toArray ts l e [] e':=by exact wV) (hr:eW ts e' l':=by exact gN) (hm:(!c||P.follows .mixedOrders)=true:=by kernel_rfl) (hp:(!c||j6 l.toArray)=true:=by kernel_rfl)
  (h1:CD P C (.cond z d1 d2) ⟨n,l',S⟩ Q'->CD P C d ⟨n,l',S⟩ Q:=by exact lZ) (hc:aD ⟨n,l',S⟩ z = .v (.bool b):=by exact ot) (hb:BP b pp q:=by exact O4):p:=aA ts (cj ht hf h1 hc hb) h0 h hr hm hp
theorem dj {d:Code} {r:D} (ts:List Nat) (S':List ag) (hq:post r S') (h0:CD P C (.seq (.region id l.toArray c) d) ⟨n,e,S⟩ Q->p:=by exact lZ) (h:PL k c P C.G n S l.toArray ts l e [] e':=by exact wV) (hr:eW ts e' l':=by exact gN) (hm:(!c||P.follows .mixedOrders)=true:=by kernel_rfl) (hp:(!c||j6 l.toArray)=true:=by kernel_rfl)
  (h1:Body P fn post ex ⟨n,l',S⟩->CD P C d ⟨n,l',S⟩ Q:=by exact lZ) (he:ex = .normal\/ex = .ret:=by first|exact .inr rfl|exact .inl rfl) (hS:S'.Sublist S:=by exact ID) (hv:rW P fn ⟨n,l',S⟩ r:=by exact O5):p:=aA ts (eu (x:=⟨n,l',S⟩) S' hq h1 he hS hv) h0 h hr hm hp
theorem dY {r:D} (m:Nat) (ts:List Nat) (S2:List ag) (hq:post r S2) (h:PK k P C.G n S ops l e [] e':=by exact BA) (hr:eW ts e' l':=by exact gN) (hS:NS S S':=by exact ns_) (hn:n=m:=by exact rfl)
  (h1:Body P fn post ex ⟨m,l',S'⟩->Q .normal ⟨m,l',S'⟩:=by exact lZ) (he:ex = .normal\/ex = .ret:=by first|exact .inr rfl|exact .inl rfl) (iK:S2.Sublist S':=by exact ID) (hv:rW P fn ⟨m,l',S'⟩ r:=by exact O5):OD P C ops l ⟨n,e,S⟩ Q:=aq m ts (eu (x:=⟨m,l',S'⟩) S2 hq h1 he iK hv) h hr hS hn
theorem cW{te:TypeId}{z:Operand}{t:Nat}{d:D}{x:St}(ds:List D)(k:∀b,OD P C ops l ⟨x.n,(t,.v (.pointer (some ⟨b,0,none⟩)))::x.env,⟨b,te,ds.length,ds⟩::x.S⟩ Q)(ho:o.op = .box te z:=by exact rfl)(hd:o.dst=some t:=by exact rfl)(hw:o.guard=none:=by exact rfl)(hy:aD x z=d:=by exact ot)(hj:kV d=true:=by exact rfl)(jA:cellsOf d=ds:=by exact rfl)(hne:isMap te=false:=by rfl):OD P C ops (o::l) x Q:=ai3 (hne:=hne) (so hw) ho hd hy hj jA k
end
section
variable {P:Program} {C:dJ} {G:List (Nat×List Value)} {Q:Exit->St->Prop} {ops:Array Oper} {l l2:List Oper} {o:Oper} {n t:Nat} {d:D} {e e' l':List (Nat×D)} {S S':List ag} {ts:List Nat} {c:Bool} {x:St}
variable {a:Act} {R':Exit->Act->World->Prop} {m id ta:Nat} {ld:Array Bool} {B:List ag} {te:TypeId} {S1:List Nat} {oa:Oper} {zs:List Value}
theorem afJ{w:World}{K E:Act->World->Prop}{R:Exit->Act->World->Prop}(h:o.wp P a w K R)(hK:∀a w,K a w->E a w)(hp:∀I a w,R (.panic I) a w->R' (.panic I) a w)(ho:∀a w,R .outgrown a w->R' .outgrown a w):o.wp P a w E R':=by
 unfold Oper.wp at *;generalize (execOp a.eval o).run P w=r at *;cases r with
 | ok z w' =>
  cases z<;>simp only[Oper.upon] at h |- <;>
   first
    | exact hK _ _ h
    | exact Calls.mono h (fun e O he=>by cases e<;>first|exact hK _ _ he|exact hp _ _ _ he|exact(let ⟨a,w,q⟩:=he;⟨a,w,ho a w q⟩))
    | exact Rows.mono h (fun _ _ he=>hK _ _ he)
 | halt z w'=>cases z<;>simp only[Oper.upon] at h |-<;>first|exact hp _ _ _ h|exact h
def GZ(o:Oper):Bool:=match o.op with
 | .extract _ _=>o.guard.isNone
 | .move _=>o.guard.isNone
 | _=>false
def AP(ops:Array Oper)(j:Nat)(o:Oper):Bool:=GZ o&&(range ops.size).all fun k=>Nat.beq k j||(match ops[k]? with
   | some p=>p.after.any (fun e=>Region.binds .any e&&Nat.beq e.on j)||o.after.any (fun e=>Region.binds .any e&&Nat.beq e.on k)||o.apart ops p
   | none=>true)
def Ec(o:Oper):List Nat:=o.after.toList.filterMap fun e=>bif Region.binds .any e then some e.on else none
def Di(ops:Array Oper):Nat->List Nat->List Nat
 | 0,s=>s
 | i+1,s=>Di ops i (bif s.elem i then (match ops[i]? with|some o=>Ec o|none=>[])++s else s)
theorem UY{o:Oper}{k:Nat}(h:k∈Ec o):∃e∈o.after,Region.binds .any e=true/\e.on=k:=by
 obtain⟨e,he,hk⟩:=mem_filterMap.1 h;cases hb:Region.binds .any e with
 | true=>rw[hb] at hk;exact⟨e,Array.mem_def.2 he,hb,Option.some.inj hk⟩
 | false=>rw[hb] at hk;cases hk
theorem Rr{D:Nat->Prop}(E:∀k o,ops[k]?=some o->D k->∀e∈o.after,Region.binds .any e=true->D e.on):∀(i:Nat) (s:List Nat),(∀k∈s,D k)->∀k∈Di ops i s,D k
 | 0,s,h=>h
 | i+1,s,h=>by
  unfold Di;refine Rr E i _ fun k hk=>?_;cases he:s.elem i with
  | false=>rw[he] at hk;exact h k hk
  | true =>
   rw[he,cond_true] at hk;rcases mem_append.1 hk with hk|hk
   ·cases ho:ops[i]? with
    | none=>rw[ho] at hk;cases hk
    | some o =>
     rw[ho] at hk;obtain⟨e,h1,h2,h3⟩:=UY hk;rw[<-h3];exact E i o ho (h i (elem_iff.1 he)) e h1 h2
   exact h k hk
def pY(m:Nat)(ops:Array Oper):Bool:=(range ops.size).all fun j=>match ops[j]? with
 | some o=>o.after.all (fun e=>!Region.binds .any e||Nat.blt e.on j) &&
  (bif Nat.blt j m then (match o.guard with|some (g,_)=>Nat.blt g m|none=>true)
  else bif Nat.beq j m then (range m).all (fun k=>(Di ops m (Ec o)).elem k||(match ops[k]? with|some p=>AP ops k p|none=>false)) else o.after.any (fun e=>Region.binds .any e&&Nat.beq e.on (j-1)))
 | none=>true
theorem LX{o:Oper}{k:Nat}(h:o.after.any (fun e=>Region.binds .any e&&Nat.beq e.on k)=true):∃e∈o.after,Region.binds .any e=true/\e.on=k:=by
 obtain⟨e,he,hb⟩:=Array.any_eq_true'.1 h;rw[Bool.and_eq_true] at hb;exact⟨e,he,hb.1,Nat.eq_of_beq_eq_true hb.2⟩
theorem u7(h:pY m ops=true){j:Nat}{o:Oper}(hj:ops[j]?=some o):(∀e∈o.after,Region.binds .any e=true->e.on<j)/\(j<m->∀g b,o.guard=some (g,b)->g<m) /\
  (m<=j->(j=m/\∀k,k<m->k∈Di ops m (Ec o)\/(∃p,ops[k]?=some p/\AP ops k p=true))\/(m<j/\∃e∈o.after,Region.binds .any e=true/\e.on=j-1)) /\
  (AP ops j o=true->∀k p,ops[k]?=some p->k≠j->(∃e∈p.after,Region.binds .any e=true/\e.on=j)\/(∃e∈o.after,Region.binds .any e=true/\e.on=k)\/o.apart ops p=true):=by
 have aa:=(Array.getElem?_eq_some_iff.1 hj).1;have:=all_eq_true.1 h j (mem_range.2 aa);simp only[hj,Bool.and_eq_true] at this;obtain⟨h1,h2⟩:=this;have ff:j<m->(match o.guard with|some (g,_)=>Nat.blt g m|none=>true)=true:=fun hm=>by
  have I:Nat.blt j m=true:=Nat.ble_eq_true_of_le hm;rw[I,cond_true] at h2;exact h2
 refine⟨fun e he hb=>?_,fun hm g b hg=>?_,fun hm=>?_,fun hf k p hp O=>?_⟩
 ·have:=Array.all_eq_true'.1 h1 e he;simp only[hb,Bool.not_true,Bool.false_or] at this;exact Nat.le_of_ble_eq_true this
 ·have h3:=ff hm;rw[hg] at h3;exact Nat.le_of_ble_eq_true h3
 ·have I:Nat.blt j m=false:=by
   cases hq:Nat.blt j m with
   | false=>rfl
   | true=>have:=Nat.le_of_ble_eq_true hq;omega
  rw[I,cond_false] at h2;cases E:Nat.beq j m with
  | false =>
   rw[E,cond_false] at h2;refine .inr ⟨?_,LX h2⟩;rcases Nat.lt_or_eq_of_le hm with h|h
   ·exact h
   rw[<-h,Nat.beq_refl] at E;cases E
  | true =>
   rw[E,cond_true] at h2;refine .inl ⟨Nat.eq_of_beq_eq_true E,fun k hk=>?_⟩;have:=all_eq_true.1 h2 k (mem_range.2 hk);rw[Bool.or_eq_true] at this;rcases this with h3|h3
   ·exact .inl (elem_iff.1 h3)
   refine .inr ?_;cases rV:ops[k]? with
   | none=>rw[rV] at h3;cases h3
   | some p=>rw[rV] at h3;exact⟨p,rfl,h3⟩
 have h3:=hf;unfold AP at h3;rw[Bool.and_eq_true] at h3;have:=all_eq_true.1 h3.2 k (mem_range.2 (Array.getElem?_eq_some_iff.1 hp).1);have hb:Nat.beq k j=false:=by
  cases hq:Nat.beq k j with
  | false=>rfl
  | true=>exact absurd (Nat.eq_of_beq_eq_true hq) O
 simp only[hb,hp,Bool.false_or,Bool.or_eq_true] at this;rcases this with (h4|h4)|h4
 ·exact .inl (LX h4)
 ·exact .inr (.inl (LX h4))
 exact .inr (.inr h4)
theorem afK{R:Exit->Act->World->Prop}(hq:pY m ops=true):∀(k s fuel:Nat) (ld:Array Bool) (a:Act) (w:World),m<=s->s+k=ops.size->k<=fuel->ld.size=ops.size->(∀j,j<s->ld.getD j true=true)->(∀j,s<=j->j<ops.size->ld.getD j true=false)->wpOps P ops R (range' s k) a w->wpAny P .any ops R fuel ld a w:=by
 intro k;induction k with
 | zero =>
  intro s fuel ld a w hs hk hf dg h1 h2 h;have hr:Region.ready .any ops ld=[]:=by
   rw[eq_nil_iff_forall_not_mem];intro j hj;obtain⟨q1,o,q2,_⟩:=mem_ready.1 hj;have aa:=(Array.getElem?_eq_some_iff.1 q2).1;rw[h1 j w4] at q1;cases q1
  have hn:R .normal a w:=h;cases fuel with
  | zero=>exact⟨hr,hn⟩
  | succ f=>exact⟨fun _=>hn,by rw[hr];simp⟩
 | succ k ih =>
  intro s fuel ld a w hs hk hf dg h1 h2 h;obtain⟨f,rfl⟩:∃f,fuel=f+1:=⟨fuel-1,by omega⟩
  have O:∀e,e<s->ld.getD e false=true:=fun e he=>by
   have:=h1 e he;rw[Array.getD_eq_getD_getElem?] at this |-;rw[Array.getElem?_eq_getElem w4] at this |-;exact this
  have I:s∈Region.ready .any ops ld:=mem_ready.2 ⟨h2 s (Nat.le_refl _) w4,ops[s]'w4,Array.getElem?_eq_getElem w4,fun e he hb=>O _ ((u7 hq (Array.getElem?_eq_getElem w4)).1 e he hb)⟩;refine⟨fun h0=>(by rw[h0] at I;cases I),fun i hi=>?_⟩;obtain⟨q1,o,q2,q3⟩:=mem_ready.1 hi;have fO:=(Array.getElem?_eq_some_iff.1 q2).1;have U:i=s:=by
   rcases Nat.lt_trichotomy i s with q|q|q
   ·rw[h1 i q] at q1;cases q1
   ·exact q
   rcases(u7 hq q2).2.2.1 w4 with h9|⟨_,e,he,hb,jh⟩
   ·omega
   have h5:=q3 e he hb;rw[jh] at h5;have h6:=h2 (i-1) w4 w4;rw[Array.getD_eq_getD_getElem?,Array.getElem?_eq_getElem w4] at h5 h6;simp only[Option.getD_some] at h5 h6;rw[h5] at h6;cases h6
  subst U;rw[range'_succ,wpOps_cons] at h;have E:∀j,(ld.setIfInBounds i true).getD j true=if j=i then true else ld.getD j true:=fun j=>by
   by_cases hj:j=i
   ·subst hj;simp[Array.getD_eq_getD_getElem?,Array.getElem?_setIfInBounds,dg,fO]
   simp[Array.getD_eq_getD_getElem?,Array.getElem?_setIfInBounds,hj,Ne.symm hj]
  refine wpOp_mono (fun a' w' h'=>ih (i+1) f _ a' w' w4 w4 w4 (by simpa using dg) (fun j hj=>?_) (fun j hj Z=>?_) h') h
  ·rw[E];split
   ·rfl
   exact h1 j w4
  rw[E,if_neg w4];exact h2 j w4 Z
theorem afL{R:Exit->Act->World->Prop}(hq:pY m ops=true)(hm:m<=ops.size)(hn:∀a w,R' .normal a w->wpOps P ops R (range' m (ops.size-m)) a w)(hp:∀ch a w,R' (.panic ch) a w->R (.panic ch) a w)(ho:∀a w,R' .outgrown a w->R .outgrown a w)(lF:Region.noSelect ops=true)(hQ:∀(d:Option Nat) v c a w,R (.panic c) (a.put d v) w->R (.panic c) a w) :
  ∀(fuel:Nat) (ld:Array Bool) (a:Act) (w:World),ld.size=m->(∀k o,ops[k]?=some o->ld.getD k false=true->∀e∈o.after,Region.binds .any e=true->ld.getD e.on false=true)->wpAny P .any (ops.toList.take m).toArray R' fuel ld a w->wpAny P .any ops R (fuel+(ops.size-m)) (ld++Array.replicate (ops.size-m) false) a w:=by
 have E:∀i,i<m->(ops.toList.take m).toArray[i]?=ops[i]?:=fun i hi=>by simp[getElem?_take,hi]
 have hpz:(ops.toList.take m).toArray.size=m:=(by simp;omega)
 -- what may amr up asK the first atf
 have O:∀(ld:Array Bool) (b:Bool),ld.size=m->∀j,j<m->(ld++Array.replicate (ops.size-m) false).getD j b=ld.getD j b:=fun ld b hs j hj=>by
  rw[Array.getD_eq_getD_getElem?,Array.getD_eq_getD_getElem?,Array.getElem?_append_left w4]
 have Yq:∀(ld:Array Bool) (b:Bool),ld.size=m->∀j,m<=j->j<ops.size->(ld++Array.replicate (ops.size-m) false).getD j b=false:=fun ld b hs j hj kM=>by
  rw[Array.getD_eq_getD_getElem?,Array.getElem?_append_right w4,hs];simp[Array.getElem?_replicate,show j-m<ops.size-m by omega]
 have BC:∀(ld:Array Bool),ld.size=m->∀i,i<m->(i∈Region.ready .any ops (ld++Array.replicate (ops.size-m) false)↔i∈Region.ready .any (ops.toList.take m).toArray ld):=fun ld hs i hi=>by
  rw[mem_ready,mem_ready,E i hi,O ld true hs i hi];constructor
  ·rintro⟨q1,o,q2,q3⟩;exact⟨q1,o,q2,fun e he hb=>by have:=q3 e he hb;rwa [O ld false hs _ (Nat.lt_trans ((u7 hq q2).1 e he hb) hi)] at this⟩
  rintro⟨q1,o,q2,q3⟩;exact⟨q1,o,q2,fun e he hb=>by rw[O ld false hs _ (Nat.lt_trans ((u7 hq q2).1 e he hb) hi)];exact q3 e he hb⟩
 -- arX may amr up: all have
 have eL:∀(ld:Array Bool),ld.size=m->Region.ready .any (ops.toList.take m).toArray ld=[]->∀j,j<m->ld.getD j true=true:=fun ld hs hr j=>by
  induction j using Nat.strongRecOn with
  | _ j ih =>
   intro hj;cases hl:ld.getD j true with
   | true=>rfl
   | false =>
    have Iw:ops[j]?=some (ops[j]'w4):=Array.getElem?_eq_getElem w4;have:j∈Region.ready .any (ops.toList.take m).toArray ld:=mem_ready.2 ⟨hl,ops[j]'w4,by rw[E j hj];exact Iw,fun e he hb=>by
     have aa:=(u7 hq Iw).1 e he hb;have:=ih e.on aa w4;rw[Array.getD_eq_getD_getElem?] at this |-;rw[Array.getElem?_eq_getElem w4] at this |-;exact this⟩
    rw[hr] at this;cases this
 have ox:∀(fuel:Nat) (ld:Array Bool) (a:Act) (w:World),ld.size=m->ops.size-m<=fuel->Region.ready .any (ops.toList.take m).toArray ld=[]->R' .normal a w->wpAny P .any ops R fuel (ld++Array.replicate (ops.size-m) false) a w:=fun fuel ld a w hs hf hr h =>
  afK hq (ops.size-m) m fuel _ a w (Nat.le_refl _) w4 hf iI (fun j hj=>by rw[O ld true hs j hj];exact eL ld hs hr j hj) (fun j hj kM=>Yq ld true hs j hj kM) (hn a w h)
 intro fuel;induction fuel with
 | zero=>intro ld a w hs _ h;rw[Nat.zero_add];exact ox _ ld a w hs (Nat.le_refl _) h.1 h.2
 | succ fuel ih =>
  intro ld a w hs lm h;obtain⟨h1,h2⟩:=h;have A5:∀i,i∈Region.ready .any (ops.toList.take m).toArray ld->∀k o,ops[k]?=some o->(ld.setIfInBounds i true).getD k false=true->∀e∈o.after,Region.binds .any e=true->(ld.setIfInBounds i true).getD e.on false=true:=fun i hi k o hk hd e he hb=>by
   have G0:∀j,ld.getD j false=true->(ld.setIfInBounds i true).getD j false=true:=fun j hj=>by
    rw[Array.getD_eq_getD_getElem?] at hj |-;rw[Array.getElem?_setIfInBounds];split
    ·split
     ·rfl
     rename_i h1 h2;subst h1;rw[Array.getElem?_eq_none w4] at hj;cases hj
    exact hj
   refine G0 _ ?_;by_cases hik:i=k
   ·subst hik;obtain⟨q1,o',q2,q3⟩:=mem_ready.1 hi;have I:i<m:=(by have:=(Array.getElem?_eq_some_iff.1 q2).1;omega)
    rw[E i I,hk] at q2;obtain rfl:=Option.some.inj q2;exact q3 e he hb
   refine lm k o hk ?_ e he hb;rw[Array.getD_eq_getD_getElem?,Array.getElem?_setIfInBounds,if_neg hik] at hd;rw[Array.getD_eq_getD_getElem?];exact hd
  by_cases hr:Region.ready .any (ops.toList.take m).toArray ld=[]
  ·exact ox _ ld a w hs w4 hr (h1 hr)
  rw[show fuel+1+(ops.size-m)=(fuel+(ops.size-m))+1 by omega];have ow:∀i,i<m->(ld++Array.replicate (ops.size-m) false).setIfInBounds i true=ld.setIfInBounds i true++Array.replicate (ops.size-m) false:=fun i I=>by
   rw[Array.setIfInBounds_append_left w4]
  by_cases gC:∃f o,f∈Region.ready .any (ops.toList.take m).toArray ld/\ops[f]?=some o/\AP ops f o=true
  ·
   obtain⟨f,o,hf,xE,Z⟩:=gC;have U:GZ o=true:=(by unfold AP at Z;rw[Bool.and_eq_true] at Z;exact Z.1)
   have IE:f<m:=by
    obtain⟨_,o',q2,_⟩:=mem_ready.1 hf;have:=(Array.getElem?_eq_some_iff.1 q2).1;omega
   have h3:=h2 f hf;unfold wpOp at h3;rw[E f IE,xE] at h3;have hg:o.guard=none:=by
    unfold GZ at U;split at U
    ·exact Option.isNone_iff_eq_none.1 U
    ·exact Option.isNone_iff_eq_none.1 U
    cases U
   have yY:∀(op2:Array Oper),Region.wanted o (yielded op2 a.tmps)=true:=fun op2=>by simp[Region.wanted,hg]
   simp only[yY,if_true] at h3;obtain⟨v,hy,h4⟩:∃v,(∀w',(execOp a.eval o).run P w' = .ok (.value v) w')/\wpAny P .any (ops.toList.take m).toArray R' fuel (ld.setIfInBounds f true) (a.put o.dst v) w:=by
    have hc:(∃v,execOp a.eval o=Sem.pure (.value v))\/∃s,execOp a.eval o=Sem.halt (.stuck s):=by
     unfold GZ at U;split at U
     ·rename_i y i BD;unfold execOp;rw[BD];show(∃v,(Instr.extract (a.eval y) i).bind _=_)\/∃s,(Instr.extract (a.eval y) i).bind _=_;unfold Instr.extract;split
      ·split
       ·exact .inl ⟨_,rfl⟩
       exact .inr ⟨_,rfl⟩
      exact .inr ⟨_,rfl⟩
     ·rename_i y BD;unfold execOp;rw[BD];exact .inl ⟨_,rfl⟩
     cases U
    have xF:¬o.asks P a w:=fun ha=>by
     unfold Oper.asks at ha;rcases hc with ⟨v,e⟩|⟨s,e⟩<;>rw[e] at ha<;>simp[Sem.runT] at ha
    rcases h3 with h3|⟨h3,_⟩
    rotate_left
    ·exact absurd h3 xF
    unfold Oper.wp at h3;rcases hc with ⟨v,e⟩|⟨s,e⟩
    ·refine⟨v,fun w'=>by rw[e];rfl,?_⟩;rw[e] at h3;exact h3
    rw[e] at h3;exact h3.elim
   refine wpAny_first (v:=v) xE (Region.noSelect_spec lF) (hQ _ _) _ _ a w (fun j oj zo hji jB Bt=>?_) ((BC ld hs f IE).2 hf) (.inl ⟨yY _,hy⟩) ?_
   ·rcases(u7 hq xE).2.2.2 Z j oj zo hji with ⟨e,he,hb,jh⟩|⟨e,he,hb,jh⟩|h5
    ·exact absurd jh (Bt e he hb)
    ·obtain⟨_,o',p1,p2⟩:=mem_ready.1 ((BC ld hs f IE).2 hf);rw[xE] at p1;obtain rfl:=Option.some.inj p1;have h6:=p2 e he hb;rw[jh] at h6;rw[Array.getD_eq_getD_getElem?] at h6 jB;cases hx:(ld++Array.replicate (ops.size-m) false)[j]? with
     | none=>rw[hx] at h6;cases h6
     | some b=>rw[hx] at h6 jB;simp only[Option.getD_some] at h6 jB;rw[h6] at jB;cases jB
    exact h5
   rw[ow f IE];exact ih _ _ _ (by simpa using hs) (A5 f hf) h4
  have Nl:∀i,i∈Region.ready .any ops (ld++Array.replicate (ops.size-m) false)->i<m:=fun i hi=>by
   rcases Nat.lt_or_ge i m with q|q
   ·exact q
   obtain⟨q1,o,q2,q3⟩:=mem_ready.1 hi;refine absurd ?_ hr;rw[eq_nil_iff_forall_not_mem];intro j hj;obtain⟨p1,o',p2,_⟩:=mem_ready.1 hj;have O6:j<m:=(by have:=(Array.getElem?_eq_some_iff.1 p2).1;omega)
   have atg:=(Array.getElem?_eq_some_iff.1 q2).1;rcases(u7 hq q2).2.2.1 q with ⟨rfl,hw⟩|⟨aa,e,he,hb,jh⟩
   ·rcases hw j O6 with hw|⟨p,h8,h9⟩
    ·have hd:=Rr (ops:=ops) (D:=fun k=>ld.getD k false=true) lm i (Ec o) (fun k hk=>by
      obtain⟨e,he,hb,jh⟩:=UY hk;have h5:=q3 e he hb;have h6:=(u7 hq q2).1 e he hb;rw[O ld false hs _ h6,jh] at h5;exact h5) j hw
     rw[Array.getD_eq_getD_getElem?,Array.getElem?_eq_getElem w4] at hd p1;simp only[Option.getD_some] at hd p1;rw[hd] at p1;cases p1
    exact gC ⟨j,p,hj,h8,h9⟩
   have h5:=q3 e he hb;rw[jh,Yq ld false hs (i-1) w4 w4] at h5;cases h5
  refine⟨fun h0=>?_,fun i hi=>?_⟩
  ·obtain⟨i,hi⟩:=exists_mem_of_ne_nil _ hr;have fO:i<m:=by
    obtain⟨_,o,q2,_⟩:=mem_ready.1 hi;have:=(Array.getElem?_eq_some_iff.1 q2).1;omega
   have:=(BC ld hs i fO).2 hi;rw[h0] at this;cases this
  have I:=Nl i hi;have h3:=h2 i ((BC ld hs i I).1 hi);rw[ow i I];unfold wpOp at h3 |-;rw[E i I] at h3;have hoi:ops[i]?=some (ops[i]'w4):=Array.getElem?_eq_getElem w4;rw[hoi] at h3 |-;have hw:Region.wanted (ops[i]'w4) (yielded (ops.toList.take m).toArray a.tmps)=Region.wanted (ops[i]'w4) (yielded ops a.tmps):=by
   unfold Region.wanted;cases hg:(ops[i]'w4).guard with
   | none=>rfl
   | some p =>
    obtain⟨g,b⟩:=p;have:=(u7 hq hoi).2.1 I g b hg;simp only[yielded,E g this]
  simp only[hw] at h3 |-;split
  ·rename_i O7;simp only[O7,if_true] at h3;rcases h3 with h3|⟨h3,a0,w0,h4⟩
   ·exact .inl (afJ h3 (fun a' w' h'=>ih _ a' w' (by simpa using hs) (A5 i ((BC ld hs i I).1 hi)) h') hp ho)
   exact .inr ⟨h3,a0,w0,ho _ _ h4⟩
  rename_i O7;simp only[O7] at h3;exact ih _ _ _ (by simpa using hs) (A5 i ((BC ld hs i I).1 hi)) h3
theorem ajd(lF:Region.noSelect l.toArray=true)(mu:NP Q)(hq:pY m l.toArray=true)(hm:m<=l.length){fuel:Nat}{w:World}(hs:ld.size=m)(E:∀k,ld.getD k false=false)(h:wpAny P .any (l.take m).toArray (LQ C (Tl P C l.toArray (l.drop m) Q)) fuel ld a w):wpAny P .any l.toArray (LQ C Q) (fuel+(l.length-m)) (ld++Array.replicate (l.length-m) false) a w:=by
 have h1:=afL (P:=P) (ops:=l.toArray) (R:=LQ C Q) (R':=LQ C (Tl P C l.toArray (l.drop m) Q)) hq (by simpa using hm) (fun a w h=>by
  rcases h with ⟨y,h1,h2⟩|⟨h1,_⟩
  ·have:=wpOps_eq_wpList (P:=P) (ops:=l.toArray) (Q:=LQ C Q) (l.drop m) m (fun j=>by simp);rw[length_drop] at this;rw[show l.toArray.size-m=l.length-m by simp,this];exact h2 a w h1
  cases h1) (fun I a w h=>h) (fun a w h=>h) lF (fun d v=>AL mu d v) fuel ld a w hs (fun k o hk hd=>by rw[E k] at hd;cases hd)
 simpa using h1 nS
theorem Ci (m:Nat) (T:List Nat) (lF:Region.noSelect l.toArray=true) (mu:NP Q) (hm:P.follows .mixedOrders=true) (hl:m<=l.length) (hq:pY m l.toArray=true) (hT:∀b∈T,b∈aj x.S)
  (h:dW P C (l.take m).toArray (aj x.S) T m (Array.replicate m false) x (Tl P C l.toArray (l.drop m) Q)):CD P C (.region id l.toArray true) x Q:=fun a w hs =>
 wp_region_any hm (by
  have h1:=h a {w with drawn:=w.drawn+1} ⟨hs.defers,hs.size,fun t ht=>(hs.env t ht).mono fun b _ hn=>⟨rfl,hn⟩,⟨fun B hB=>by
   obtain⟨r0,cur,r1,r2,E,I⟩:=hs.own.at_ B hB;exact⟨r0,cur,r1,r2,E,fun i hi=>by
    obtain⟨u,hu,hq⟩:=I i hi;exact⟨u,hu,hq.mono fun b _ hn=>⟨rfl,hn⟩⟩⟩,hs.own.apart⟩,⟨hs.fr.os,hs.fr.tape,hs.fr.output,hs.fr.size,hs.fr.block⟩,hs.ex,hs.eI⟩ rfl hT
  have h2:=ajd lF mu hq hl bp (fun k=>by rw[Array.getD_eq_getD_getElem?,Array.getElem?_replicate];split<;>rfl) (wpAny_of_held _ _ _ _ h1);rw[Array.replicate_append_replicate,show m+(l.length-m)=l.length by omega] at h2;simpa using h2)
theorem aje(lF:Region.noSelect l.toArray=true)(mu:NP Q)(hm:P.follows .mixedOrders=true)(hl:m<=l.length)(hq:pY m l.toArray=true)(hp:j6 (l.take m).toArray=true)(h:PD true P C.G n S (l.take m).toArray (l.take m) e [] e')(K:OD P C l.toArray (l.drop m) ⟨n,e',S⟩ Q):CD P C (.region id l.toArray true) ⟨n,e,S⟩ Q :=
 Ci m [] lF mu hm hl hq (fun _ hb=>by cases hb) (by
  have:=dW.pd (C:=C) (Q:=Tl P C l.toArray (l.drop m) Q) hp nS K;have hz:(l.take m).toArray.size=m:=(by simp;omega)
  rw[hz] at this;exact this)
theorem bB.bare{w:World}(hs:bB C ⟨n,e,B++S⟩ a w):bB ⟨fun b=>C.X b\/b∈aj B,w,aj S,C.G,C.df,C.DW⟩ ⟨n,e,S⟩ a w/\live C.X (B++S)=live (fun b=>C.X b\/b∈aj B) S/\∀b∈aj B,b∉aj S:=by
 have hl:live C.X (B++S)=live (fun b=>C.X b\/b∈aj B) S:=by
  funext b;simp only[live,aj,map_append,mem_append,eq_iff_iff];constructor
  ·rintro(h1|h1|h1)
   ·exact .inl (.inl h1)
   ·exact .inl (.inr h1)
   exact .inr h1
  rintro((h1|h1)|h1)
  ·exact .inl h1
  ·exact .inr (.inl h1)
  exact .inr (.inr h1)
 have I:aj (B++S)=aj B++aj S:=(by simp[aj])
 have hnd:=hs.own.apart;simp only[I] at hnd;have E:∀b∈aj B,b∉aj S:=fun b h1 h2=>(nodup_append.1 hnd).2.2 b h1 b h2 rfl;refine⟨⟨hs.defers,hs.size,fun q hq=>?_,⟨fun A hA=>?_,(nodup_append.1 hnd).2.1⟩,Fr.refl _ _,fun b hb=>?_,fun g hg=>?_⟩,hl,E⟩
 ·have:=hs.env q hq;simp only[hl] at this;exact this
 ·have:=hs.own.at_ A (mem_append_right _ hA);simp only[hl] at this;exact this
 ·rcases hb with hb|hb
  ·obtain⟨h1,h2⟩:=hs.ex b hb;exact⟨Nat.lt_of_lt_of_le h1 hs.fr.size,fun hm=>(hs.fr.block b h1 h2).2 (by simp only[I];exact mem_append_right _ hm)⟩
  obtain⟨A,hA,rfl⟩:=mem_map.1 hb;exact⟨(hs.own.at_ A (mem_append_left _ hA)).1,E _ hb⟩
 obtain⟨⟨h1,h2,h3⟩,h4⟩:=hs.eI g hg;have h5:=hs.fr.block g.1 h1 h2;simp only[I] at h5;exact⟨⟨Nat.lt_of_lt_of_le h1 hs.fr.size,fun hm=>h5.2 (mem_append_right _ hm),fun hm=>hm.elim h3 fun hm=>h5.2 (mem_append_left _ hm)⟩,fun i v hi=>(h4 i v hi).on h5.1⟩
theorem fh.frame(h:fh P G ⟨n,e,S⟩ o [] (fun y=>y=⟨n,(t,d)::e,S⟩)):fh P G ⟨n,e,B++S⟩ o [] (fun y=>y=⟨n,(t,d)::e,B++S⟩):=fun C a w K Q hG hs hK=>by
 obtain⟨nu,hl,E⟩:=hs.bare;have O:aj (B++S)=aj B++aj S:=(by simp[aj])
 refine h ⟨fun b=>C.X b\/b∈aj B,w,aj S,C.G,C.df,C.DW⟩ a w K Q hG nu fun y a' w' hy k hc hf=>?_;subst hy;have I:Fr w (aj (B++S)) w' (aj (B++S)):=⟨hf.os,hf.tape,hf.output,hf.size,fun b h1 h2=>⟨(hf.block b h1 (fun hm=>h2 (by rw[O];exact mem_append_right _ hm))).1,h2⟩⟩
 refine hK _ a' w' rfl ⟨k.defers,k.size,fun q hq=>?_,⟨fun A hA=>?_,hs.own.apart⟩,hs.fr.trans I,hs.ex,hs.eI⟩ hc I
 ·have:=k.env q hq;simp only[hl];exact this
 simp only[hl];rcases mem_append.1 hA with hA|hA
 ·obtain⟨r0,cur,r1,r2,r3,r4⟩:=hs.own.at_ A (mem_append_left _ hA);have U:A.b∈aj B:=mem_map.2 ⟨A,hA,rfl⟩;have Z:=(hf.block A.b r0 (E _ U)).1;refine⟨su r0 Z,cur,Z.trans r1,r2,r3,fun i hi=>?_⟩;obtain⟨u,hu,hr⟩:=r4 i hi;simp only[hl] at hr;exact⟨u,hu,hr.mono fun b h1 h2=>⟨(hf.block b h1 (fun hm=>h2 (.inr hm))).1,h2⟩⟩
 exact k.own.at_ A hA
theorem bV.frame{b:Bool}(h:bV ops ⟨n,e,S⟩ o b):bV ops ⟨n,e,B++S⟩ o b:=fun C a w hs=>h _ a w hs.bare.1
theorem bB.CH{a':Act}{w w':World}{v:Value}(h:bB C ⟨n,e,S⟩ a w)(k:bB C ⟨n,(t,d)::l',S'⟩ a' w')(hf:Fr w (aj S) w' (aj S'))(hv:a'.tmps=(a.put (some t) v).tmps):bB C ⟨n,(t,d)::e,S'⟩ a' w':=by
 refine⟨k.defers,k.size,fun q hq=>?_,k.own,k.fr,k.ex,k.eI⟩;by_cases E:t=q
 ·subst E;have:=k.env t hq;simp only[eD,if_pos] at this |-;exact this
 have h1:=h.env q hq;have h2:a'.tmps.getD q undef=a.tmps.getD q undef:=(by rw[hv];simp[Act.put,Array.getD_eq_getD_getElem?,Array.getElem?_setIfInBounds,E])
 simp only[eD,if_neg E];rw[h2];exact h1.mono fun b hb hn=>⟨(hf.block b hb (fun hm=>hn (.inr hm))).1,fun hl=>hl.elim (fun hx=>hn (.inl hx)) fun hm=>(hf.block b hb (fun hm=>hn (.inr hm))).2 hm⟩
theorem acV{z:Value}(ho:o.op = .alloc te)(hd:o.dst=some t)(hz:∀w,(zeroValue te).run P w = .ok z w)(hne:isMap te=false:=by rfl):fh P G ⟨n,e,S⟩ o [] (fun y=>y=⟨n,(t,.bF)::e,S⟩):=fun C a w K Q hG h hK =>
 Fs (hne:=hne) ho hd hz rfl C a w K Q hG h fun y a' w' ⟨b,hy⟩ hs hc hf=>by
  subst hy;have h1:=Wk.drop n ((t,.v (.pointer (some ⟨b,0,none⟩)))::e) _ S (sublist_cons_self _ _) C a' w' hs;refine hK _ a' w' rfl ⟨h1.defers,h1.size,fun q hq=>?_,h1.own,h1.fr,h1.ex,h1.eI⟩ hc ⟨hf.os,hf.tape,hf.output,hf.size,fun b hb hn=>⟨(hf.block b hb hn).1,hn⟩⟩;have h2:=h1.env q hq;simp only[eD] at h2 |-;by_cases e1:t=q
  ·rw[if_pos e1];exact .bF _
  rw[if_neg e1] at h2 |-;exact h2
def bx(te:TypeId)(ds:List D):Option Nat->List ag
 | some b=>[⟨b,te,ds.length,ds⟩]
 | none=>[]
theorem ahs {eF:List (Nat×D)} {w1:World} {ia:Nat} {ds:List D} (jC:ops[ia]?=some oa) (jI:oa.dst=some ta) (tw:oa.guard=none) (hE:∀S',fh P C.G ⟨n,[],S'⟩ oa [] (ua ⟨n,[],S'⟩ ta te ds))
  (hj:look ta eF = .bF) (hp:j6 ops=true) (H:∀i,i<ops.size->Gd P C.G n S ops eF i) (hQ:∀b,Q .normal ⟨n,(ta,.v (.pointer (some ⟨b,0,none⟩)))::eF,⟨b,te,ds.length,ds⟩::S⟩):∀(fuel:Nat) (ld:Array Bool) (env:List (Nat×D)) (ob:Option Nat) (a:Act) (w:World),
  left ops.size ld<=fuel->bB C ⟨n,env,bx te ds ob++S⟩ a w->Fr w1 S1 w (aj (bx te ds ob++S))->(ld.getD ia true=true->∃b,ob=some b/\look ta env = .v (.pointer (some ⟨b,0,none⟩)))->(ld.getD ia true=false->ob=none) ->
   (∀q,q≠ta->(∀j o,ops[j]?=some o->o.dst=some q->ld.getD j true=true)->look q env=look q eF)->wpAnyH P .any ops (LQ C Q) (kE w1 S1 []) fuel ld a w:=by
 have IF:∀j o,ops[j]?=some o->o.dst=some ta->j=ia:=fun j o hj hd=>by
  rcases Nat.lt_trichotomy j ia with q|q|q
  ·obtain⟨t',h1,h2⟩:=(rB hp jC).2;rw[jI] at h1;obtain rfl:=Option.some.inj h1;exact absurd hd (h2 j o q hj)
  ·exact q
  obtain⟨t',h1,h2⟩:=(rB hp hj).2;rw[hd] at h1;obtain rfl:=Option.some.inj h1;exact absurd jI (h2 ia oa q jC)
 have fw:∀(ld:Array Bool) (env:List (Nat×D)) (ob:Option Nat) (a:Act) (w:World),bB C ⟨n,env,bx te ds ob++S⟩ a w->(ld.getD ia true=true->∃b,ob=some b/\look ta env = .v (.pointer (some ⟨b,0,none⟩)))->(∀q,q≠ta->(∀j o,ops[j]?=some o->o.dst=some q->ld.getD j true=true)->look q env=look q eF)->(∀j,j<ops.size->ld.getD j true=true)->LQ C Q .normal a w:=fun ld env ob a w hs hb he eL=>by
  obtain⟨b,rfl,O8⟩:=hb (eL ia (Array.getElem?_eq_some_iff.1 jC).1);refine .inl ⟨⟨n,(ta,.v (.pointer (some ⟨b,0,none⟩)))::eF,⟨b,te,ds.length,ds⟩::S⟩,⟨hs.defers,hs.size,fun q hq=>?_,hs.own,hs.fr,hs.ex,hs.eI⟩,hQ b⟩;have:=hs.env q hq;simp only[eD];by_cases E:ta=q
  ·subst E;rw[if_pos rfl];rw[O8] at this;exact this
  rw[if_neg E];rw[he q (fun e=>E e.symm) fun j o hj _=>eL j (Array.getElem?_eq_some_iff.1 hj).1] at this;exact this
 intro fuel;induction fuel with
 | zero =>
  intro ld env ob a w hl hs hf hb jo he;have eL:∀j,j<ops.size->ld.getD j true=true:=fun j hj=>by
   cases hq:ld.getD j true with
   | true=>rfl
   | false=>have:=wq hj hq;omega
  refine⟨?_,fw ld env ob a w hs hb he eL⟩;rw[eq_nil_iff_forall_not_mem];intro j hj;obtain⟨h1,o,h2,_⟩:=mem_ready.1 hj;have:=eL j (Array.getElem?_eq_some_iff.1 h2).1;rw[h1] at this;cases this
 | succ fuel ih =>
  intro ld env ob a w hl hs hf hb jo he;refine⟨fun h0=>fw ld env ob a w hs hb he (GB hp h0),fun i hi=>?_⟩;obtain⟨jB,o,I,yK⟩:=mem_ready.1 hi;have aa:=(Array.getElem?_eq_some_iff.1 I).1;have Ng:=wq aa jB;have O:∀j,(ld.setIfInBounds i true).getD j true=true↔j=i\/ld.getD j true=true:=fun j=>by
   by_cases hj:j=i
   ·subst hj;have dg:j<ld.size:=by
     rcases Nat.lt_or_ge j ld.size with h|h
     ·exact h
     rw[Array.getD_eq_getD_getElem?,Array.getElem?_eq_none h] at jB;cases jB
    simp[Array.getD_eq_getD_getElem?,Array.getElem?_setIfInBounds,dg]
   simp[Array.getD_eq_getD_getElem?,Array.getElem?_setIfInBounds,hj,Ne.symm hj]
  by_cases pK:i=ia
  ·subst pK;rw[jC] at I;obtain rfl:=Option.some.inj I;obtain rfl:=jo jB;unfold wpOp;rw[jC];have hw:Region.wanted oa (yielded ops a.tmps)=true:=(by simp[Region.wanted,tw])
   simp only[hw,if_true];have mq:bB C ⟨n,[],bx te ds none++S⟩ a w:=⟨hs.defers,hs.size,fun q hq=>.bF _,hs.own,hs.fr,hs.ex,hs.eI⟩
   have h2:=hE (bx te ds none++S) C a w (fun a' w'=>∃b,bB C ⟨n,[(ta,.v (.pointer (some ⟨b,0,none⟩)))],⟨b,te,ds.length,ds⟩::S⟩ a' w'/\Fr w (aj S) w' (aj (⟨b,te,ds.length,ds⟩::S))) (LQ C Q) rfl mq (fun y a' w' ⟨b,hy⟩ U _ Z=>by subst hy;exact⟨b,U,Z⟩);refine .inl (Oper.wp_mono (fun a' w' h3=>?_) (tW h2));obtain⟨⟨b,h4,h5⟩,v,h6⟩:=h3;rw[jI] at h6;have gC:Fr w1 S1 w' (aj (bx te ds (some b)++S)):=hf.trans h5;refine⟨⟨fun b h2 h3=>(gC.block b h2 h3).1,fun b h2=>by cases h2⟩,ih _ ((ta,.v (.pointer (some ⟨b,0,none⟩)))::env) (some b) a' w' w4 (bB.CH (S:=S) hs h4 h5 h6) gC (fun _=>⟨b,rfl,by rw[eD,if_pos rfl]⟩) (fun h=>by have:=(O i).2 (.inl rfl);rw[this] at h;cases h) fun q hq mo=>?_⟩;rw[eD,if_neg (fun e=>hq e.symm)];refine he q hq fun j oj hj fj=>?_;rcases(O j).1 (mo j oj hj fj) with rfl|h2
   ·rw[jC] at hj;obtain rfl:=Option.some.inj hj;rw[jI] at fj;exact absurd (Option.some.inj fj).symm hq
   exact h2
  obtain⟨o',t,ts,l',h1,hd,hq,lj,hk,Ed⟩:=H i aa;rw[I] at h1;obtain rfl:=Option.some.inj h1;have yN:t≠ta:=fun e=>pK (IF i o I (by rw[hd,e]))
  -- what it looks at is there,or nothing is said of it
  have jq:bB C ⟨n,l',bx te ds ob++S⟩ a w:=⟨hs.defers,hs.size,fun q zi=>by
   by_cases hm:q∈ts
   ·have qX:=hm;rw[<-hk] at qX;obtain⟨p,eP,rfl⟩:=mem_map.1 qX;obtain⟨h2,h3⟩:=lj p eP;have h9:=hs.env p.1 zi;by_cases kZ:p.1=ta
    ·rw[<-h3,kZ,hj];exact .bF _
    have:look p.1 env=look p.1 l':=by
     rw[<-h3];refine he p.1 kZ fun j oj hj fj=>?_;obtain⟨e1,mR,gw,jh⟩:=wj hq hj fj h2;have:=yK e1 mR gw;rw[jh] at this;rw[Array.getD_eq_getD_getElem?] at this |-;cases hx:ld[j]? with
     | none=>rw[hx] at this;cases this
     | some b=>rw[hx] at this;exact this
    rw[this] at h9;exact h9
   have:look q l' = .bF:=by
    rw[<-hk] at hm;exact Ch hm
   rw[this];exact .bF _,hs.own,hs.fr,hs.ex,hs.eI⟩
  have iY:∀(a':Act) (w':World),bB C ⟨n,(t,look t eF)::env,bx te ds ob++S⟩ a' w'->Fr w (aj (bx te ds ob++S)) w' (aj (bx te ds ob++S))->kE w1 S1 [] w'/\wpAnyH P .any ops (LQ C Q) (kE w1 S1 []) fuel (ld.setIfInBounds i true) a' w':=fun a' w' U Z=>by
   have gC:Fr w1 S1 w' (aj (bx te ds ob++S)):=hf.trans Z;have uR:(ld.setIfInBounds i true).getD ia true=ld.getD ia true:=by
    simp[Array.getD_eq_getD_getElem?,Array.getElem?_setIfInBounds,pK]
   refine⟨⟨fun b h2 h3=>(gC.block b h2 h3).1,fun b h2=>by cases h2⟩,ih _ _ ob a' w' w4 U gC (fun h=>?_) (fun h=>jo (by rw[uR] at h;exact h)) fun q zq mo=>?_⟩
   ·rw[uR] at h;obtain⟨b,h2,h3⟩:=hb h;exact⟨b,h2,by rw[eD,if_neg yN];exact h3⟩
   rw[eD];by_cases E:t=q
   ·rw[if_pos E,E]
   rw[if_neg E];refine he q zq fun j oj hj fj=>?_;rcases(O j).1 (mo j oj hj fj) with rfl|h2
   ·rw[I] at hj;obtain rfl:=Option.some.inj hj;rw[hd] at fj;exact absurd (Option.some.inj fj) E
   exact h2
  unfold wpOp;rw[I];rcases Ed with ⟨hw,Ee⟩|⟨hw,hv⟩
  ·simp only[hw.frame (B:=bx te ds ob) C a w jq,if_true];have h2:=Ee.frame (B:=bx te ds ob) C a w (fun a' w'=>bB C ⟨n,(t,look t eF)::l',bx te ds ob++S⟩ a' w'/\Fr w (aj (bx te ds ob++S)) w' (aj (bx te ds ob++S))) (LQ C Q) rfl jq (fun y a' w' hy U _ Z=>by subst hy;exact⟨U,Z⟩);refine .inl (Oper.wp_mono (fun a' w' h3=>?_) (tW h2));obtain⟨⟨h4,h5⟩,v,h6⟩:=h3;rw[hd] at h6;exact iY a' w' (hs.yo h4 h5 h6) h5
  simp only[hw.frame (B:=bx te ds ob) C a w jq,hd];have:=hs.put (t:=t) (.v (w:=w) (L:=live C.X (bx te ds ob++S)) undef);rw[hv] at iY;exact iY _ w this (Fr.refl _ _)
theorem ajf {ia:Nat} {z:Value} {ds:List D} (lF:Region.noSelect l.toArray=true) (mu:NP Q) (hm:P.follows .mixedOrders=true) (hl:m<=l.length) (hq:pY m l.toArray=true) (hp:j6 (l.take m).toArray=true) (jC:(l.take m)[ia]?=some oa) (ho:oa.op = .alloc te) (jI:oa.dst=some ta) (tw:oa.guard=none) (hz:∀w,(zeroValue te).run P w = .ok z w) (jA:z.cells.toList.map .v=ds)
  (h:PD true P C.G n S (l.take m).toArray (l.take m) e [] e') (hj:look ta e' = .bF) (K:∀b,OD P C l.toArray (l.drop m) ⟨n,(ta,.v (.pointer (some ⟨b,0,none⟩)))::e',⟨b,te,ds.length,ds⟩::S⟩ Q) (hne:isMap te=false:=by rfl):CD P C (.region id l.toArray true) ⟨n,e,S⟩ Q :=
 Ci m [] lF mu hm hl hq (fun _ hb=>by cases hb) (fun a w hs _ _=>by
  have h':PD true P C.G n S (l.take m).toArray (l.take m).toArray.toList e [] e':=(by simpa using h)
  have hg:=h'.wT hp rfl 0 rfl;have E:(l.take m).toArray[ia]?=some oa:=(by simpa using jC)
  have I:(l.take m).toArray.size=m:=(by simp;omega)
  refine ahs (Q:=Tl P C l.toArray (l.drop m) Q) E jI tw (fun S'=>Fs (hne:=hne) ho jI hz jA) hj hp (fun i hi=>hg i (Nat.zero_le _) hi) K _ _ e none a w ?_ hs (Fr.refl _ _) (fun h=>?_) (fun _=>rfl) fun q Z U=>?_
  ·rw[I];unfold left;exact Nat.le_trans (length_filter_le _ _) bp
  ·have aa:=(Array.getElem?_eq_some_iff.1 E).1;rw[I] at aa;simp[Array.getD_eq_getD_getElem?,aa] at h
  refine(h'.later fun o ho hd=>?_).symm;obtain⟨j,hj,rfl⟩:=mem_iff_getElem.1 ho;have O:j<(l.take m).toArray.size:=(by simpa using hj)
  have:=U j _ Ib hd;rw[I] at O;simp[Array.getD_eq_getD_getElem?,O] at this)
variable {R:List (Nat×D)->Prop}
theorem Wk.ajg(h:oN e e'):Wk ⟨n,(t,d)::e,S⟩ ⟨n,(t,d)::e',S⟩:=fun C a w hs=>⟨hs.defers,hs.size,fun q hq=>by
 have h1:=hs.env q hq;simp only[eD] at h1 |-;by_cases e1:t=q
 ·rw[if_pos e1] at h1 |-;exact h1
 rw[if_neg e1] at h1 |-;rcases h.look q with h2|h2
 ·rw[h2];exact h1
 rw[h2];exact .bF _,hs.own,hs.fr,hs.ex,hs.eI⟩
theorem oC(m:Nat)(ts:List Nat)(h:PE true P C.G n S (l.take m).toArray ts (l.take m) e fun l'=>OD P C l.toArray (l.drop m) ⟨n,l',S⟩ Q)(hm:P.follows .mixedOrders=true:=by kernel_rfl)(hl:Nat.ble m l.length=true:=by kernel_rfl)(hq:pY m l.toArray=true:=by kernel_rfl)(hp:j6 (l.take m).toArray=true:=by kernel_rfl)(lF:Region.noSelect l.toArray=true:=by kernel_rfl)(mu:NP Q:=by exact D8):CD P C (.region id l.toArray true) ⟨n,e,S⟩ Q:=by
 obtain⟨e',l',h1,h2,K⟩:=h;exact aje lF mu hm (Nat.le_of_ble_eq_true hl) hq hp h1 (fC (Wk.kU h2.kU) K)
theorem iD(m:Nat)(T:List Nat)(h:dW P C (l.take m).toArray (aj x.S) T m (Array.replicate m false) x (Tl P C l.toArray (l.drop m) Q))(hT:∀b∈T,b∈aj x.S)(hm:P.follows .mixedOrders=true:=by kernel_rfl)(hl:Nat.ble m l.length=true:=by kernel_rfl)(hq:pY m l.toArray=true:=by kernel_rfl)(lF:Region.noSelect l.toArray=true:=by kernel_rfl)(mu:NP Q:=by exact D8):CD P C (.region id l.toArray true) x Q:=Ci m T lF mu hm (Nat.le_of_ble_eq_true hl) hq hT h
theorem fD{T:List Nat}{fuel:Nat}{bz:Array Oper}{l2:List Oper}(K:OD P C bz l2 x Q)(hr:Region.ready .any ops ld=[]:=by kernel_rfl):AD P C ops S1 T fuel ld x (Tl P C bz l2 Q):=Ga hr K
theorem uL (m ia:Nat) (ts:List Nat) (h:PE true P C.G n S (l.take m).toArray ts (l.take m) e fun l'=>look ta l' = .bF/\∀b,OD P C l.toArray (l.drop m) ⟨n,(ta,.v (.pointer (some ⟨b,0,none⟩)))::l',⟨b,te,(zs.map D.v).length,zs.map .v⟩::S⟩ Q) (hm:P.follows .mixedOrders=true:=by kernel_rfl) (hl:Nat.ble m l.length=true:=by kernel_rfl) (hq:pY m l.toArray=true:=by kernel_rfl) (hp:j6 (l.take m).toArray=true:=by kernel_rfl)
  (jC:(l.take m)[ia]?=some oa:=by exact rfl) (ho:oa.op = .alloc te:=by exact rfl) (jI:oa.dst=some ta:=by exact rfl) (tw:oa.guard=none:=by exact rfl) (hz:rF P te=some zs:=by exact Sb.hz) (ht:ts.elem ta=true:=by exact rfl) (hne:isMap te=false:=by rfl) (lF:Region.noSelect l.toArray=true:=by kernel_rfl) (mu:NP Q:=by exact D8):CD P C (.region id l.toArray true) ⟨n,e,S⟩ Q:=by
 obtain⟨e',l',h1,h2,hj,K⟩:=h;obtain⟨z,h3,h4⟩:=Cu hz;exact ajf (hne:=hne) lF mu hm (Nat.le_of_ble_eq_true hl) hq hp jC ho jI tw h3 (by rw[h4]) h1 (by rw[<-h2.at (mem_of_elem_eq_true ht)];exact hj) fun b=>fC (Wk.ajg h2.kU) (K b)
theorem nV{c:Bool}{ts:List Nat}(K:PE c P G n S ops ts l ((t,.bF)::e) R)(ho:o.op = .alloc te:=by exact rfl)(hd:o.dst=some t:=by exact rfl)(hg:o.guard=none:=by exact rfl)(hz:rF P te=some zs:=by exact Sb.hz)(hq:(!c||jx ops o [])=true:=by kernel_rfl)(hne:isMap te=false:=by rfl):PE c P G n S ops ts (o::l) e R:=by
 obtain⟨z,h3,_⟩:=Cu hz;exact PE.cons hd eW.nil hq (so hg) (acV (hne:=hne) ho hd h3) K
end
variable {P:Program} {C:dJ} {G:List (Nat×List Value)} {Q:Exit->St->Prop} {x:St} {ops:Array Oper} {l:List Oper} {o:Oper} {S1 T:List Nat} {fuel i:Nat} {ld:Array Bool}
variable {t e:TypeId} {sz cap:Nat} {y:Operand} {lo hi:Option Operand} {ad:Option Addr} {Sq:List ag}
theorem Jl {len j:Nat} {cs ds:List D} {k:IntKind} {i:Int} {z:Operand} (ho:o.op = .index t y z) (hy:aD x y = .agg cs) (hz:aD x z = .v (.int k i))
  (E:∀w,(underlying t).run P w = .ok (.array len e) w) (hs:∀w,(sizeOf e).run P w = .ok sz w) (ha:∀w,(isAgg e).run P w = .ok true w) (hi:i=j) (hj:j<len) (hd:(cs.drop (j*sz)).take sz=ds):bS P G x o .none (.agg ds):=fun C a w _ h=>by
 have hr:=h.eval y;rw[hy] at hr;generalize hg:a.eval y=u at hr;subst hi hd;cases hr with
 | agg _ vs hl hr =>
  refine⟨.agg ((vs.drop (j*sz)).take sz).toArray,.agg _ _ (by simp[hl]) (fun i h1 h2=>?_),fun w' _=>?_⟩
  ·simp only[getElem_take,getElem_drop];exact hr _ _ _
  unfold execOp;simp[ho,hg,h.flat hz,Instr.index,asIntOf,E,hj,part,ha,asAgg,hs]
theorem Fb (ho:o.op = .slice t y lo hi none) (hy:aD x y = .v (.slice none 0 0)) (ff:nG x lo 0 0) (eJ:nG x hi 0 0)
  (E:∀w,(underlying t).run P w = .ok (.slice e) w) (hs:∀w,(sizeOf e).run P w = .ok sz w):bS P G x o .none (.v (.slice none 0 0)):=fun C a w _ h =>
 ⟨_,.v _,fun w' _=>by
  have b1:=tP h ff;have b2:=tP h eJ;unfold execOp;simp[ho,h.flat hy,Instr.sliceAt,Instr.slice,E,xO b1 b2 (Nat.zero_le _) (Nat.le_refl _),hs]⟩
theorem bq.pos{e n:Nat}{cs:List D}{S:List ag}(h:bq e sz cs n ad cap S)(hn:0<n):∃b,ad=some ⟨b,0,none⟩/\n<=cap/\cap<=maxLen/\S=[⟨b,e,cap*sz,cs⟩]:=by
 rcases h with ⟨h1,_,_,_,_⟩|h
 ·omega
 exact h
theorem Fc {e':TypeId} {sz' n k:Nat} {cs:List D} (ho:o.op = .slice t y lo hi none) (hy:aD x y = .v (.slice ad n cap)) (ff:nG x lo 0 0) (eJ:nG x hi k n)
  (E:∀w,(underlying t).run P w = .ok (.slice e) w) (hs:∀w,(sizeOf e).run P w = .ok sz w) (hk:k<=n) (fy:bq e' sz' cs n ad cap Sq):bS P G x o .none (.v (.slice ad k cap)):=by
 rcases fy with ⟨h1,h2,rfl,rfl,rfl⟩|⟨b,rfl,h1,h2,rfl⟩
 ·subst h1;obtain rfl:k=0:=(by omega)
  exact Fb ho hy ff eJ E hs
 exact QC ho hy ff eJ E hs (Nat.le_trans hk h1)
theorem UZ {c:Code} {α:Type} {g:α->List D} {ls:List α} {e k:Nat} {R:List ag} (hg:∀a,(g a).length=sz) (hk:k<=ls.length)
  (fy:bq e sz (ls.flatMap g) ls.length ad cap Sq) (hp:x.S.Perm (Sq++R))
  (K:∀S',bq e sz ((ls.take k).flatMap g) (ls.take k).length ad cap S'->CD P C c ⟨x.n,x.env,S'++R⟩ Q):CD P C c x Q:=by
 have er:(ls.take k).length=k:=(by rw[length_take];omega)
 refine qs hp ?_;rcases fy with ⟨h1,h2,rfl,rfl,rfl⟩|⟨b,rfl,h1,h2,rfl⟩
 ·have hl:ls=[]:=eq_nil_of_length_eq_zero h1;subst hl;exact K [] (.inl ⟨by simp,by simp,rfl,rfl,rfl⟩)
 refine kS (Wk.shrink (n:=x.n) (l:=x.env) (k:=0) (cs':=(ls.take k).flatMap g) rfl ?_) ?_
 ·rw[<-vl hg ls];exact take_prefix _ _
 exact K [⟨b,e,cap*sz,(ls.take k).flatMap g⟩] (.inr ⟨b,rfl,by rw[er];omega,h2,rfl⟩)
theorem qk {α:Type} {g:α->List D} {ls new:List α} {s:Operand} {t e tt bytes:Nat} {z:Value} {R:List ag} (hg:∀a,(g a).length=sz) (hg1:∀a,(g a).all one=true) (O:ops[i]?=some o) (hw:bV ops x o true) (ho:o.op = .call {callee:=.builtin .append,args:=#[s,y],argTypes:=#[t,t]}) (hd:o.dst=some tt)
  (ht:P.underlying t=some (.slice e)) (hi:(P.info? e).map (fun i=>(i.zero,i.size,i.bytes))=some (some z,sz,bytes)) (eM:z.cells.size=sz) (dg:0<sz)
  (hs:aD x s = .v (.slice ad ls.length cap)) (U:bq e sz (ls.flatMap g) ls.length ad cap Sq) (hp:x.S.Perm (Sq++R))
  (hy:aD x y = .list sz (new.flatMap g) new.length) (hm:0<new.length) (Z:ls.length+new.length<=maxLen) (E:(ls.length+new.length)*bytes<=140737488355328)
  (K:∀I aO,(ls++new).length<=aO->aO<=maxLen->AD P C ops S1 T fuel (ld.setIfInBounds i true) ⟨x.n,(tt,.v (.slice (some ⟨I,0,none⟩) (ls++new).length aO))::x.env,⟨I,e,aO*sz,(ls++new).flatMap g⟩::R⟩ Q) (hne:isMap e=false:=by rfl)
  (hT:∀b∈T,b∈aj R:=by first|exact fun b hb=>hb|(intro b hb;simp[aj] at hb |-;first|exact hb|exact .inl hb|(rcases hb with hb|hb<;>simp[hb])|(rcases hb with hb|hb|hb<;>simp[hb])|(rcases hb with hb|hb|hb|hb<;>simp[hb])|(rcases hb with hb|hb|hb|hb|hb<;>simp[hb])|(rcases hb with hb|hb|hb|hb|hb|hb<;>simp[hb])|(rcases hb with hb|hb|hb|hb|hb|hb|hb<;>simp[hb])|(rcases hb with hb|hb|hb|hb|hb|hb|hb|hb<;>simp[hb]))):gQ P C ops S1 T fuel ld x Q i :=
 Qs (hne:=hne) O hw ho hd ht hi eM dg hs U hp (cz hg ls) hy (sH hg1 new) hm Z E hT fun I aO h1 h2=>by
  have:=K I aO (by rw[length_append];exact h1) h2;rw[length_append,flatMap_append] at this;exact this
end V
namespace V
open List
open Go.RowKit
variable {P:Program} {C:dJ} {G:List (Nat×List Value)} {Q:Exit->St->Prop} {x:St} {ops:Array Oper} {l:List Oper} {o:Oper}
variable {kq kn:IntKind}
theorem ab6 {s y:Operand} {t tn e tt m sz bytes:Nat} {z:Value} (ho:o.op = .call {callee:=.builtin .append,args:=#[s,y],argTypes:=#[t,tn]}) (hd:o.dst=some tt)
  (ht:P.underlying t=some (.slice e)) (uS:P.underlying tn=some (.int kn)) (hi:(P.info? e).map (fun i=>(i.zero,i.size,i.bytes))=some (some z,sz,bytes)) (eM:z.cells.size=sz) (U:0<sz)
  (hs:aD x s = .v (.slice none 0 0)) (hy:aD x y = .v (.int kq m)) (h0:0<m) (Z:m<=maxLen) (ajh:m*bytes<=140737488355328) (kG:isMap e=false:=by rfl) :
  fh P G x o [] (fun y=>∃b' aO,m<=aO/\aO<=maxLen/\y=⟨x.n,(tt,.v (.slice (some ⟨b',0,none⟩) m aO))::x.env,⟨b',e,aO*sz,[]⟩::x.S⟩):=fun C a w K Q hG h hK=>by
 obtain⟨i,lg,gE,qg,qU⟩:=Aj hi;have E:=Lib.run_append_nil_zeros (P:=P) w t tn o.type e i z kq kn ht uS lg gE m h0 (by rw[qg];exact U) (by simp only[maxLen] at Z;omega) (by rw[qU];omega);have h1:=grownCap_ge w m 0 e;have h2:=grownCap_le_maxLen w m 0 e Z;generalize grownCap w m 0 e=aO at E h1 h2;generalize ams:Builtin.zeroCells z.cells m++Builtin.zeroCells z.cells (aO-m)=I at E;have zu:∀q,(Builtin.zeroCells z.cells q).size=q*sz:=fun q=>by simp[Builtin.zeroCells,eM]
 have dg:I.size=aO*sz:=by
  rw[<-ams,Array.size_append,zu,zu,<-Nat.add_mul];congr 1;omega
 have O:(execOp a.eval o).run P w = .ok (.value (.slice (some ⟨w.heap.size,0,none⟩) m aO)) (w.drew.alloc (.cells I e)):=by
  unfold execOp;simp only[ho,resolve,invoke,builtin,Sem.run_bind,Sem.run_pure,Result.andThen_ok,map_toArray,map_cons,map_nil,h.flat hs,h.flat hy,E]
 obtain⟨s1,s2,s3⟩:=h.grown (w':=w.drew.alloc (.cells I e)) (t:=tt) (m:=m) (e:=e) (sz:=sz) (S:=x.S) (cs:=[]) (row:=none) (g:=w.heap.size) (cap:=aO) (cur:=I) (hne:=kG) (Sublist.refl _) (fun k hk=>by cases hk)
  ⟨rfl,rfl,rfl,by show w.heap.size<=(w.heap.push _).size;simp,fun k hk _=>getElem?_push_lt (w:=w.drew) hk⟩ (.inr rfl) M3 M4 dg (Nat.zero_le _) (fun j hj=>by cases hj)
 unfold Oper.wp;rw[O,Oper.upon_value,hd];exact hK _ _ _ ⟨_,_,h1,h2,rfl⟩ s1 s2 s3
theorem acr {s y:Operand} {t tn e tt m sz bytes:Nat} {z:Value} (hw:bV ops x o true) (ho:o.op = .call {callee:=.builtin .append,args:=#[s,y],argTypes:=#[t,tn]}) (hd:o.dst=some tt)
  (ht:P.underlying t=some (.slice e)) (U:P.underlying tn=some (.int kn)) (hi:(P.info? e).map (fun i=>(i.zero,i.size,i.bytes))=some (some z,sz,bytes)) (eM:z.cells.size=sz) (I:0<sz)
  (hs:aD x s = .v (.slice none 0 0)) (hy:aD x y = .v (.int kq m)) (h0:0<m) (Z:m<=maxLen) (E:m*bytes<=140737488355328)
  (K:∀O aO,m<=aO->aO<=maxLen->OD P C ops l ⟨x.n,(tt,.v (.slice (some ⟨O,0,none⟩) m aO))::x.env,⟨O,e,aO*sz,[]⟩::x.S⟩ Q) (kG:isMap e=false:=by rfl):OD P C ops (o::l) x Q :=
 OD.gm hw (ab6 (kG:=kG) ho hd ht U hi eM I hs hy h0 Z E) fun y ⟨O,aO,h1,h2,hy⟩=>hy ▸ K O aO h1 h2
end V
namespace V
open List
open Go.RowKit
section
variable {P:Program} {C:dJ} {G:List (Nat×List Value)} {Q:Exit->St->Prop} {x:St}
variable {sz:Nat} {l:List (Nat×D)} {S' Sq:List ag} {cs':List D} {ad:Option Addr}
def Gv(d d':D):Prop:=∀w L v,cq w L d v->cq w L d' v
theorem dG{d:D}:Gv d d:=fun _ _ _ h=>h
theorem fG:Gv (.v (.slice none 0 0)) (.list sz [] 0):=fun _ _ _ h=>by rw[h.lQ];exact .nil sz
def qY:List D->List D->Prop
 | [],[]=>True
 | d::r,d'::r'=>Gv d d'/\qY r r'
 | _,_=>False
theorem qY.spec:∀{a b:List D},qY a b->b.length=a.length/\∀i (h:i<a.length) (h':i<b.length),Gv a[i] b[i]
 | [],[],_=>⟨rfl,fun i h=>by simp at h⟩
 | d::r,d'::r',h=>by
  obtain⟨h1,h2⟩:=qY.spec h.2;refine⟨by simp[h1],fun i q E=>?_⟩;cases i with
  | zero=>exact h.1
  | succ i=>exact h2 i (by simpa using q) (by simpa using E)
 | [],_::_,h=>h.elim
 | _::_,[],h=>h.elim
theorem As{a b:List D}(h:qY a b):Gv (.agg a) (.agg b):=fun w L v hr=>by
 obtain⟨h1,h2⟩:=h.spec;cases hr with
 | agg _ vs hl hq=>exact .agg b vs w4 fun i q E=>h2 i w4 q _ _ _ (hq i w4 E)
theorem Wk.cells{n:Nat}{S:List ag}{k:Nat}{B:ag}(hk:S[k]?=some B)(H:qY B.cs cs')(hS:S.set k {B with cs:=cs'}=S'):Wk ⟨n,l,S⟩ ⟨n,l,S'⟩:=fun C a w h=>by
 subst hS;obtain⟨H1,H2⟩:=H.spec;have er:=(List.getElem?_eq_some_iff.1 hk).1;have O:=(List.getElem?_eq_some_iff.1 hk).2;have E:aj (S.set k {B with cs:=cs'})=aj S:=by
  unfold aj;rw[map_set];apply ext_getElem bp;intro i q1 q2;rw[getElem_set];split
  ·rename_i e;subst e;simp[O]
  rfl
 have I:live C.X (S.set k {B with cs:=cs'})=live C.X S:=(by funext b;simp only[live,E])
 refine⟨h.defers,h.size,fun t ht=>?_,⟨fun B' U=>?_,?_⟩,?_,h.ex,h.eI⟩
 ·simp only[I];exact h.env t ht
 ·simp only[I];obtain⟨p,hp,iJ⟩:=mem_iff_getElem.1 U;rw[length_set] at hp;rw[getElem_set] at iJ;by_cases e:k=p
  ·rw[if_pos e] at iJ;subst iJ;obtain⟨r0,cur,r1,r2,r3,r4⟩:=h.own.at_ B (mem_of_getElem? hk);refine⟨r0,cur,r1,r2,by show cs'.length<=B.size;omega,fun q hq=>?_⟩;have Z:q<cs'.length:=hq;obtain⟨u,hu,hqr⟩:=r4 q w4;exact⟨u,hu,H2 q w4 Z _ _ _ hqr⟩
  rw[if_neg e] at iJ;subst iJ;exact h.own.at_ _ (getElem_mem hp)
 ·simp only[E];exact h.own.apart
 simp only[E];exact h.fr
theorem Tp{c:Code}{k:Nat}{B:ag}(hk:x.S[k]?=some B)(H:qY B.cs cs')(hS:x.S.set k {B with cs:=cs'}=S')(K:CD P C c ⟨x.n,x.env,S'⟩ Q):CD P C c x Q:=kS (Wk.cells (n:=x.n) (l:=x.env) (S:=x.S) hk H hS) K
theorem Wk.afM {n i j m cap e:Nat} {S R:List ag} {A:ag} {cs:List D} (ho:bq e sz cs m ad cap Sq) (hl:cs.length=m*sz) (hp:S.Perm (Sq++R)) (hj:R[j]?=some A) (hi:A.cs[i]?=some (.v (.slice ad m cap)))
  (E:A.cs.set i (.list sz cs m)=cs') (hS:R.set j {A with cs:=cs'}=S') (hne:isMap e=false:=by rfl):Wk ⟨n,l,S⟩ ⟨n,l,S'⟩:=by
 refine(Wk.perm hp).trans ?_;rcases ho with ⟨rfl,rfl,rfl,rfl,rfl⟩|⟨b,rfl,h1,h2,rfl⟩
 ·refine Wk.cells (B:=A) hj ?_ hS;subst E;have key:∀(I:List D) (i:Nat),I[i]?=some (.v (.slice none 0 0))->qY I (I.set i (.list sz [] 0)):=by
   have O:∀r:List D,qY r r:=by
    intro r;induction r with
    | nil=>trivial
    | cons d r ih=>exact⟨dG,ih⟩
   intro I;induction I with
   | nil=>intro i h;simp at h
   | cons d r ih =>
    intro i h;cases i with
    | zero=>simp only[getElem?_cons_zero,Option.some.injEq] at h;subst h;exact⟨fG,O r⟩
    | succ i=>simp only[getElem?_cons_succ] at h;exact⟨dG,ih i h⟩
  exact key _ _ hi
 exact Wk.aiZ (hne:=hne) (k:=0) rfl hj hi rfl hl h1 h2 E hS
theorem acs {c:Code} {i j m cap e:Nat} {R:List ag} {A:ag} {cs:List D} (ho:bq e sz cs m ad cap Sq) (hl:cs.length=m*sz) (hp:x.S.Perm (Sq++R)) (hj:R[j]?=some A) (hi:A.cs[i]?=some (.v (.slice ad m cap)))
  (E:A.cs.set i (.list sz cs m)=cs') (hS:R.set j {A with cs:=cs'}=S') (K:CD P C c ⟨x.n,x.env,S'⟩ Q) (hne:isMap e=false:=by rfl):CD P C c x Q:=kS (Wk.afM (hne:=hne) (n:=x.n) (l:=x.env) (S:=x.S) ho hl hp hj hi E hS) K
end
section
variable {P:Program} {C:dJ} {G:List (Nat×List Value)} {Q:Exit->St->Prop} {x:St} {ops:Array Oper} {l:List Oper} {o:Oper} {S1 T:List Nat} {fuel i:Nat} {ld:Array Bool}
theorem acu {f t:Nat} {fo:Operand} {dh:Array Operand} {ts:Array TypeId} {args:List D} {post:D->List ag->Prop} (hi:ops[i]?=some o) (hw:bV ops x o true) (ho:o.op = .call {callee:=.value fo,args:=dh,argTypes:=ts}) (hd:o.dst=some t)
  (hf:fo = .func f) (fH:∀args w,(callFunc f args).run P w = .ok (.enter f args) w) (hc:VC P C.G f args [] post) (hr:∀r S',post r S'->lP r=true/\∀B∈S',∀d∈B.cs,lP d=true) (ha:Looks x dh.toList args)
  (K:∀r S',post r S'->AD P C ops S1 T fuel (ld.setIfInBounds i true) ⟨x.n,(t,r)::x.env,S'++x.S⟩ Q):gQ P C ops S1 T fuel ld x Q i :=
 gQ.gm hi hw (JM ho hd hf fH hc hr ha) (fun _ _ _ _ b _ hb=>by simp at hb) (fun b hb=>by simp at hb) fun y ⟨r,S',hp,hy⟩=>hy ▸ K r S' hp
theorem U0:∀r:List D,qY r r
 | []=>trivial
 | _::r=>⟨dG,U0 r⟩
theorem U1{d d':D}(h:Gv d d'):∀(r:List D) (i:Nat),qY (r.set i d) (r.set i d')
 | [],_=>trivial
 | _::r,0=>⟨h,U0 r⟩
 | _::r,i+1=>⟨dG,U1 h r i⟩
theorem l8{S':List ag}{k:Nat}{B:ag}{cs':List D}(hk:x.S[k]?=some B)(H:qY B.cs cs')(hS:x.S.set k {B with cs:=cs'}=S')(K:OD P C ops l ⟨x.n,x.env,S'⟩ Q):OD P C ops l x Q:=fC (Wk.cells (n:=x.n) (l:=x.env) (S:=x.S) hk H hS) K
theorem Wk.aji{n t:Nat}{r d':D}{l:List (Nat×D)}{S R Sd:List ag}(hp:S.Perm (R++Sd))(ht:View Sd r d'):Wk ⟨n,(t,r)::l,S⟩ ⟨n,(t,d')::l,R⟩:=fun C a w h0=>by
 have h:=Wk.perm (n:=n) (env:=(t,r)::l) hp C a w h0;have h1:bB C ⟨n,(t,r)::l,R⟩ a w:=Wk.drop n ((t,r)::l) _ R (sublist_append_left _ _) C a w h;refine⟨h1.defers,h1.size,fun q hq=>?_,h1.own,h1.fr,h1.ex,h1.eI⟩;rw[eD];by_cases e:t=q
 ·subst e;rw[if_pos rfl];have hL:live C.X (R++Sd)=live (fun b=>live C.X R b) Sd:=by
   funext b;simp only[live,aj,map_append,mem_append];exact propext or_assoc.symm
  have hnd:(aj R++aj Sd).Nodup:=(by have:=h.own.apart;simpa[aj] using this)
  have I:∀b,live C.X R b->b∉aj Sd:=fun b hb hm=>by
   rcases hb with hb|hb
   ·exact h.Bx b hb (by simp only[aj,map_append,mem_append] at hm |-;exact .inr hm)
   exact(nodup_append.1 hnd).2.2 b hb b hm rfl
  have E:Own w (live (fun b=>live C.X R b) Sd) Sd:=⟨fun B hB=>by rw[<-hL];exact h.own.at_ B (mem_append_right _ hB),(nodup_append.1 hnd).2.1⟩
  have h3:=h.env t hq;rw[eD,if_pos rfl] at h3;simp only[hL] at h3;exact ht (fun b=>live C.X R b) _ w _ (fun b hb=>hb) I E h3
 rw[if_neg e];have h3:=h1.env q hq;rwa [eD,if_neg e] at h3
theorem adX {f t:Nat} {fo:Operand} {dh:Array Operand} {ts:Array TypeId} {args:List D} {post:D->List ag->Prop} {d:D} (ho:o.op = .call {callee:=.value fo,args:=dh,argTypes:=ts}) (hd:o.dst=some t)
  (hf:fo = .func f) (fH:∀args w,(callFunc f args).run P w = .ok (.enter f args) w) (hc:VC P G f args [] post) (hr:∀r S',post r S'->lP r=true/\∀B∈S',∀d∈B.cs,lP d=true) (hv:∀r S',post r S'->View S' r d) (ha:Looks x dh.toList args) :
  fh P G x o [] (fun y=>y=⟨x.n,(t,d)::x.env,x.S⟩):=fun C a w K R hG h hK=>by
 refine JM ho hd hf fH hc hr ha C a w K R hG h fun y a' w' ⟨r,S',hp,hy⟩ I vL E=>?_;subst hy;have h1:Wk ⟨x.n,(t,r)::x.env,S'++x.S⟩ ⟨x.n,(t,d)::x.env,x.S⟩:=Wk.aji perm_append_comm (hv r S' hp);refine hK _ a' w' rfl (h1 C a' w' I) vL ⟨E.os,E.tape,E.output,E.size,fun b hb hn=>⟨(E.block b hb hn).1,hn⟩⟩
section pe
variable {c:Bool} {n t f:Nat} {S:List ag} {ts:List Nat} {e lr:List (Nat×D)} {R:List (Nat×D)->Prop} {fo:Operand} {dh:Array Operand} {tt:Array TypeId} {args:List D} {d:D} {post:D->List ag->Prop}
theorem A9 (hc:VC P G f args [] post) (zm:∀r S',post r S'->lP r=true/\∀B∈S',∀d∈B.cs,lP d=true) (hv:∀r S',post r S'->View S' r d) (ho:o.op = .call {callee:=.value fo,args:=dh,argTypes:=tt}:=by exact rfl)
  (hd:o.dst=some t:=by exact rfl) (hr:eW (iF ops o) e lr:=by exact gN) (ha:Looks ⟨n,lr,S⟩ dh.toList args) (K:PE c P G n S ops ts l ((t,d)::e) R) (hq:(!c||jx ops o (iF ops o))=true:=by kernel_rfl) (hw:bV ops ⟨n,lr,S⟩ o true:=by exact oH) (hf:fo = .func f:=by exact rfl) (fH:yM P f=true:=by kernel_rfl):PE c P G n S ops ts (o::l) e R :=
 .cons hd hr hq hw (adX ho hd hf (Wl fH) hc zm hv ha) K
theorem Bb (hc:VP P G f args d) (ho:o.op = .call {callee:=.value fo,args:=dh,argTypes:=tt}:=by exact rfl)
  (hd:o.dst=some t:=by exact rfl) (hr:eW (iF ops o) e lr:=by exact gN) (ha:Looks ⟨n,lr,S⟩ dh.toList args) (K:PE c P G n S ops ts l ((t,d)::e) R) (zm:lP d=true:=by exact rfl) (hq:(!c||jx ops o (iF ops o))=true:=by kernel_rfl) (hw:bV ops ⟨n,lr,S⟩ o true:=by exact oH) (hf:fo = .func f:=by exact rfl) (fH:yM P f=true:=by kernel_rfl):PE c P G n S ops ts (o::l) e R :=
 A9 hc (fun r S' h=>by obtain⟨rfl,rfl⟩:=h;exact⟨zm,fun B hB=>by cases hB⟩) (fun r S' h=>by obtain⟨rfl,rfl⟩:=h;exact fq) ho hd hr ha K hq hw hf fH
end pe
end
section
variable {P:Program} {C:dJ} {G:List (Nat×List Value)} {Q:Exit->St->Prop} {ops:Array Oper} {l l2:List Oper} {o:Oper} {n t:Nat} {d:D} {e e' l':List (Nat×D)} {S S':List ag} {ts:List Nat} {c:Bool} {x:St}
variable {S1:List Nat} {zs:List Value}
structure Al where
 ia:Nat
 ta:Nat
 te:TypeId
 ds:List D
variable {al:List Al}
def di(al:List Al)(ob:Nat->Option Nat):List ag:=al.flatMap fun a=>bx a.te a.ds (ob a.ta)
def lG(ob:Nat->Option Nat)(t b:Nat):Nat->Option Nat:=fun q=>if q=t then some b else ob q
theorem Tq{ob:Nat->Option Nat}{t b:Nat}:∀{al:List Al},(∀a∈al,a.ta≠t)->di al (lG ob t b)=di al ob
 | [],_=>rfl
 | a::al,h=>by
  unfold di;rw[flatMap_cons,flatMap_cons];congr 1
  ·unfold lG;rw[if_neg (h a mem_cons_self)]
  exact Tq fun x hx=>h x (mem_cons_of_mem _ hx)
theorem K3{ob:Nat->Option Nat}{b:Nat}{a:Al}:∀{al:List Al},a∈al->(al.map Al.ta).Nodup->ob a.ta=none->(⟨b,a.te,a.ds.length,a.ds⟩::di al ob).Perm (di al (lG ob a.ta b))
 | [],h,_,_=>by cases h
 | y::al,h,hn,ho=>by
  rw[map_cons,nodup_cons] at hn;have e1:di (y::al) ob=bx y.te y.ds (ob y.ta)++di al ob:=rfl;have e2:di (y::al) (lG ob a.ta b)=bx y.te y.ds (lG ob a.ta b y.ta)++di al (lG ob a.ta b):=rfl;rw[e1,e2];by_cases hy:y=a
  ·subst hy;have h1:di al (lG ob y.ta b)=di al ob:=Tq fun x hx e=>hn.1 (e ▸ mem_map_of_mem hx);have h2:lG ob y.ta b y.ta=some b:=(by unfold lG;rw[if_pos rfl])
   rw[h1,h2,ho];exact Perm.refl _
  have hm:a∈al:=by
   rcases mem_cons.1 h with h|h
   ·exact absurd h.symm hy
   exact h
  have hne:y.ta≠a.ta:=fun e=>hn.1 (e ▸ mem_map_of_mem hm);have h2:lG ob a.ta b y.ta=ob y.ta:=(by unfold lG;rw[if_neg hne])
  rw[h2];exact(perm_middle (a:=(⟨b,a.te,a.ds.length,a.ds⟩:ag)) (l₁:=bx y.te y.ds (ob y.ta)) (l₂:=di al ob)).symm.trans (Perm.append_left _ (K3 hm hn.2 ho))
theorem Fr.G1{E w:World}{A B:List ag}(h:Fr E S1 w (aj A))(hp:A.Perm B):Fr E S1 w (aj B):=⟨h.os,h.tape,h.output,h.size,fun b h1 h2=>⟨(h.block b h1 h2).1,fun hm=>(h.block b h1 h2).2 ((hp.map ag.b).symm.subset hm)⟩⟩
def vB(al:List Al)(f:Nat->Nat):List (Nat×D):=al.map fun a=>(a.ta,.v (.pointer (some ⟨f a.ta,0,none⟩)))
def made(al:List Al)(f:Nat->Nat):List ag:=al.map fun a=>⟨f a.ta,a.te,a.ds.length,a.ds⟩
theorem Km{ob:Nat->Option Nat}{f:Nat->Nat}:∀{al:List Al},(∀a∈al,ob a.ta=some (f a.ta))->di al ob=made al f
 | [],_=>rfl
 | a::al,h=>by
  show bx a.te a.ds (ob a.ta)++di al ob=_;rw[h a mem_cons_self,Km fun x hx=>h x (mem_cons_of_mem _ hx)];rfl
theorem JN{f:Nat->Nat}{q:Nat}:∀{al:List Al},look q (vB al f++e)=if q∈al.map Al.ta then .v (.pointer (some ⟨f q,0,none⟩)) else look q e
 | []=>by simp[vB]
 | a::al=>by
  show look q ((a.ta,_)::(vB al f++e))=_;rw[eD,JN (al:=al)];by_cases h:a.ta=q
  ·rw[if_pos h,if_pos (by rw[map_cons,h];exact mem_cons_self),h]
  rw[if_neg h,map_cons];by_cases h2:q∈al.map Al.ta
  ·rw[if_pos h2,if_pos (mem_cons_of_mem _ h2)]
  rw[if_neg h2,if_neg (fun hm=>by rcases mem_cons.1 hm with hm|hm;exact h hm.symm;exact h2 hm)]
theorem aht {eF:List (Nat×D)} {w1:World} (hA:∀a∈al,∃oa,ops[a.ia]?=some oa/\oa.dst=some a.ta/\oa.guard=none/\∀S',fh P C.G ⟨n,[],S'⟩ oa [] (ua ⟨n,[],S'⟩ a.ta a.te a.ds)) (hnd:(al.map Al.ta).Nodup)
  (hj:∀a∈al,look a.ta eF = .bF) (hp:j6 ops=true) (H:∀i,i<ops.size->Gd P C.G n S ops eF i) (hQ:∀f,Q .normal ⟨n,vB al f++eF,made al f++S⟩):∀(fuel:Nat) (ld:Array Bool) (env:List (Nat×D)) (ob:Nat->Option Nat) (a:Act) (w:World),
  left ops.size ld<=fuel->bB C ⟨n,env,di al ob++S⟩ a w->Fr w1 S1 w (aj (di al ob++S))->(∀x∈al,ld.getD x.ia true=true->∃b,ob x.ta=some b/\look x.ta env = .v (.pointer (some ⟨b,0,none⟩)))->(∀x∈al,ld.getD x.ia true=false->ob x.ta=none) ->
   (∀q,q∉al.map Al.ta->(∀j o,ops[j]?=some o->o.dst=some q->ld.getD j true=true)->look q env=look q eF)->wpAnyH P .any ops (LQ C Q) (kE w1 S1 []) fuel ld a w:=by
 have IF:∀x∈al,∀j o,ops[j]?=some o->o.dst=some x.ta->j=x.ia:=fun x hx j o hj hd=>by
  obtain⟨oa,jC,jI,_,_⟩:=hA x hx;rcases Nat.lt_trichotomy j x.ia with q|q|q
  ·obtain⟨t',h1,h2⟩:=(rB hp jC).2;rw[jI] at h1;obtain rfl:=Option.some.inj h1;exact absurd hd (h2 j o q hj)
  ·exact q
  obtain⟨t',h1,h2⟩:=(rB hp hj).2;rw[hd] at h1;obtain rfl:=Option.some.inj h1;exact absurd jI (h2 x.ia oa q jC)
 have fw:∀(ld:Array Bool) (env:List (Nat×D)) (ob:Nat->Option Nat) (a:Act) (w:World),bB C ⟨n,env,di al ob++S⟩ a w->(∀x∈al,ld.getD x.ia true=true->∃b,ob x.ta=some b/\look x.ta env = .v (.pointer (some ⟨b,0,none⟩)))->(∀q,q∉al.map Al.ta->(∀j o,ops[j]?=some o->o.dst=some q->ld.getD j true=true)->look q env=look q eF)->(∀j,j<ops.size->ld.getD j true=true)->LQ C Q .normal a w:=fun ld env ob a w hs hb he eL=>by
  have pL:∀x∈al,ob x.ta=some ((ob x.ta).getD 0)/\look x.ta env = .v (.pointer (some ⟨(ob x.ta).getD 0,0,none⟩)):=fun x hx=>by
   obtain⟨oa,jC,_⟩:=hA x hx;obtain⟨b,h1,h2⟩:=hb x hx (eL x.ia (Array.getElem?_eq_some_iff.1 jC).1);rw[h1];exact⟨rfl,h2⟩
  have ze:di al ob=made al (fun q=>(ob q).getD 0):=Km fun x hx=>(pL x hx).1;rw[ze] at hs;refine .inl ⟨⟨n,vB al (fun q=>(ob q).getD 0)++eF,made al (fun q=>(ob q).getD 0)++S⟩,⟨hs.defers,hs.size,fun q hq=>?_,hs.own,hs.fr,hs.ex,hs.eI⟩,hQ _⟩;have:=hs.env q hq;rw[JN];by_cases E:q∈al.map Al.ta
  ·rw[if_pos E];obtain⟨x,hx,rfl⟩:=mem_map.1 E;rw[(pL x hx).2] at this;exact this
  rw[if_neg E];rw[he q E fun j o hj _=>eL j (Array.getElem?_eq_some_iff.1 hj).1] at this;exact this
 intro fuel;induction fuel with
 | zero =>
  intro ld env ob a w hl hs hf hb jo he;have eL:∀j,j<ops.size->ld.getD j true=true:=fun j hj=>by
   cases hq:ld.getD j true with
   | true=>rfl
   | false=>have:=wq hj hq;omega
  refine⟨?_,fw ld env ob a w hs hb he eL⟩;rw[eq_nil_iff_forall_not_mem];intro j hj;obtain⟨h1,o,h2,_⟩:=mem_ready.1 hj;have:=eL j (Array.getElem?_eq_some_iff.1 h2).1;rw[h1] at this;cases this
 | succ fuel ih =>
  intro ld env ob a w hl hs hf hb jo he;refine⟨fun h0=>fw ld env ob a w hs hb he (GB hp h0),fun i hi=>?_⟩;obtain⟨jB,o,I,yK⟩:=mem_ready.1 hi;have aa:=(Array.getElem?_eq_some_iff.1 I).1;have Ng:=wq aa jB;have ow:∀j,(ld.setIfInBounds i true).getD j true=true↔j=i\/ld.getD j true=true:=fun j=>by
   by_cases hj:j=i
   ·subst hj;have dg:j<ld.size:=by
     rcases Nat.lt_or_ge j ld.size with h|h
     ·exact h
     rw[Array.getD_eq_getD_getElem?,Array.getElem?_eq_none h] at jB;cases jB
    simp[Array.getD_eq_getD_getElem?,Array.getElem?_setIfInBounds,dg]
   simp[Array.getD_eq_getD_getElem?,Array.getElem?_setIfInBounds,hj,Ne.symm hj]
  have O:∀j,j≠i->(ld.setIfInBounds i true).getD j true=ld.getD j true:=fun j hj=>by
   simp[Array.getD_eq_getD_getElem?,Array.getElem?_setIfInBounds,Ne.symm hj]
  by_cases pK:∃x∈al,x.ia=i
  ·obtain⟨x,hx,rfl⟩:=pK;obtain⟨oa,jC,jI,tw,hE⟩:=hA x hx;rw[jC] at I;obtain rfl:=Option.some.inj I;have pL:=jo x hx jB;unfold wpOp;rw[jC];have hw:Region.wanted oa (yielded ops a.tmps)=true:=(by simp[Region.wanted,tw])
   simp only[hw,if_true];have mq:bB C ⟨n,[],di al ob++S⟩ a w:=⟨hs.defers,hs.size,fun q hq=>.bF _,hs.own,hs.fr,hs.ex,hs.eI⟩
   have h2:=hE (di al ob++S) C a w (fun a' w'=>∃b,bB C ⟨n,[(x.ta,.v (.pointer (some ⟨b,0,none⟩)))],⟨b,x.te,x.ds.length,x.ds⟩::(di al ob++S)⟩ a' w'/\Fr w (aj (di al ob++S)) w' (aj (⟨b,x.te,x.ds.length,x.ds⟩::(di al ob++S)))) (LQ C Q) rfl mq (fun y a' w' ⟨b,hy⟩ nu _ nv=>by subst hy;exact⟨b,nu,nv⟩);refine .inl (Oper.wp_mono (fun a' w' h3=>?_) (tW h2));obtain⟨⟨b,h4,h5⟩,v,h6⟩:=h3;rw[jI] at h6;have nT:(⟨b,x.te,x.ds.length,x.ds⟩::(di al ob++S)).Perm (di al (lG ob x.ta b)++S):=Perm.append_right S (K3 hx hnd pL);have gC:Fr w1 S1 w' (aj (di al (lG ob x.ta b)++S)):=Fr.G1 (hf.trans h5) nT;have pJ:=Wk.perm nT C a' w' (bB.CH hs h4 h5 h6);refine⟨⟨fun b h2 h3=>(gC.block b h2 h3).1,fun b h2=>by cases h2⟩,ih _ ((x.ta,.v (.pointer (some ⟨b,0,none⟩)))::env) (lG ob x.ta b) a' w' w4 pJ gC (fun y hy U=>?_) (fun y hy U=>?_) fun q hq mo=>?_⟩
   ·by_cases Z:y.ta=x.ta
    ·exact⟨b,by unfold lG;rw[if_pos Z],by rw[eD,if_pos Z.symm]⟩
    have tD:y.ia≠x.ia:=fun e=>by
     obtain⟨oy,vM,uT,_⟩:=hA y hy;rw[e,jC] at vM;obtain rfl:=Option.some.inj vM;rw[jI] at uT;exact Z (Option.some.inj uT).symm
    rw[O _ tD] at U;obtain⟨b',h7,h8⟩:=hb y hy U;exact⟨b',by unfold lG;rw[if_neg Z];exact h7,by rw[eD,if_neg (fun e=>Z e.symm)];exact h8⟩
   ·by_cases tD:y.ia=x.ia
    ·have:=(ow y.ia).2 (.inl tD);rw[this] at U;cases U
    rw[O _ tD] at U;have Z:y.ta≠x.ta:=fun e=>by
     obtain⟨oy,vM,uT,_⟩:=hA y hy;rw[e] at uT;exact tD (IF x hx _ _ vM uT)
    unfold lG;rw[if_neg Z];exact jo y hy U
   rw[eD,if_neg (fun e:x.ta=q=>hq (e ▸ mem_map_of_mem hx))];refine he q hq fun j oj hj fj=>?_;rcases(ow j).1 (mo j oj hj fj) with rfl|h2
   ·rw[jC] at hj;obtain rfl:=Option.some.inj hj;rw[jI] at fj;exact absurd (Option.some.inj fj ▸ mem_map_of_mem hx) hq
   exact h2
  obtain⟨o',t,ts,l',h1,hd,hq,lj,hk,Ed⟩:=H i aa;rw[I] at h1;obtain rfl:=Option.some.inj h1;have yN:t∉al.map Al.ta:=fun hm=>by
   obtain⟨x,hx,e⟩:=mem_map.1 hm;exact pK ⟨x,hx,(IF x hx i o I (by rw[hd,e])).symm⟩
  have jq:bB C ⟨n,l',di al ob++S⟩ a w:=⟨hs.defers,hs.size,fun q zi=>by
   by_cases hm:q∈ts
   ·have qX:=hm;rw[<-hk] at qX;obtain⟨p,eP,rfl⟩:=mem_map.1 qX;obtain⟨h2,h3⟩:=lj p eP;have h9:=hs.env p.1 zi;by_cases kZ:p.1∈al.map Al.ta
    ·obtain⟨x,hx,e⟩:=mem_map.1 kZ;rw[<-h3,<-e,hj x hx];exact .bF _
    have:look p.1 env=look p.1 l':=by
     rw[<-h3];refine he p.1 kZ fun j oj hj fj=>?_;obtain⟨e1,mR,gw,jh⟩:=wj hq hj fj h2;have:=yK e1 mR gw;rw[jh] at this;rw[Array.getD_eq_getD_getElem?] at this |-;cases hx:ld[j]? with
     | none=>rw[hx] at this;cases this
     | some b=>rw[hx] at this;exact this
    rw[this] at h9;exact h9
   have:look q l' = .bF:=by
    rw[<-hk] at hm;exact Ch hm
   rw[this];exact .bF _,hs.own,hs.fr,hs.ex,hs.eI⟩
  have iY:∀(a':Act) (w':World),bB C ⟨n,(t,look t eF)::env,di al ob++S⟩ a' w'->Fr w (aj (di al ob++S)) w' (aj (di al ob++S))->kE w1 S1 [] w'/\wpAnyH P .any ops (LQ C Q) (kE w1 S1 []) fuel (ld.setIfInBounds i true) a' w':=fun a' w' nu nv=>by
   have gC:Fr w1 S1 w' (aj (di al ob++S)):=hf.trans nv;have uR:∀x∈al,(ld.setIfInBounds i true).getD x.ia true=ld.getD x.ia true:=fun x hx=>O _ fun e=>pK ⟨x,hx,e⟩;refine⟨⟨fun b h2 h3=>(gC.block b h2 h3).1,fun b h2=>by cases h2⟩,ih _ _ ob a' w' w4 nu gC (fun x hx h=>?_) (fun x hx h=>jo x hx (by rw[uR x hx] at h;exact h)) fun q zq mo=>?_⟩
   ·rw[uR x hx] at h;obtain⟨b,h2,h3⟩:=hb x hx h;exact⟨b,h2,by rw[eD,if_neg (fun e:t=x.ta=>yN (by rw[e];exact mem_map_of_mem hx))];exact h3⟩
   rw[eD];by_cases E:t=q
   ·rw[if_pos E,E]
   rw[if_neg E];refine he q zq fun j oj hj fj=>?_;rcases(ow j).1 (mo j oj hj fj) with rfl|h2
   ·rw[I] at hj;obtain rfl:=Option.some.inj hj;rw[hd] at fj;exact absurd (Option.some.inj fj) E
   exact h2
  unfold wpOp;rw[I];rcases Ed with ⟨hw,Ee⟩|⟨hw,hv⟩
  ·simp only[hw.frame (B:=di al ob) C a w jq,if_true];have h2:=Ee.frame (B:=di al ob) C a w (fun a' w'=>bB C ⟨n,(t,look t eF)::l',di al ob++S⟩ a' w'/\Fr w (aj (di al ob++S)) w' (aj (di al ob++S))) (LQ C Q) rfl jq (fun y a' w' hy nu _ nv=>by subst hy;exact⟨nu,nv⟩);refine .inl (Oper.wp_mono (fun a' w' h3=>?_) (tW h2));obtain⟨⟨h4,h5⟩,v,h6⟩:=h3;rw[hd] at h6;exact iY a' w' (hs.yo h4 h5 h6) h5
  simp only[hw.frame (B:=di al ob) C a w jq,hd];have:=hs.put (t:=t) (.v (w:=w) (L:=live C.X (di al ob++S)) undef);rw[hv] at iY;exact iY _ w this (Fr.refl _ _)
theorem ajj {id m:Nat} (lF:Region.noSelect l.toArray=true) (mu:NP Q) (hm:P.follows .mixedOrders=true) (hl:m<=l.length) (hq:pY m l.toArray=true) (hp:j6 (l.take m).toArray=true) (hA:∀a∈al,∃oa,(l.take m)[a.ia]?=some oa/\oa.dst=some a.ta/\oa.guard=none/\∀S',fh P C.G ⟨n,[],S'⟩ oa [] (ua ⟨n,[],S'⟩ a.ta a.te a.ds)) (hnd:(al.map Al.ta).Nodup)
  (h:PD true P C.G n S (l.take m).toArray (l.take m) e [] e') (hj:∀a∈al,look a.ta e' = .bF) (K:∀f,OD P C l.toArray (l.drop m) ⟨n,vB al f++e',made al f++S⟩ Q):CD P C (.region id l.toArray true) ⟨n,e,S⟩ Q :=
 Ci m [] lF mu hm hl hq (fun _ hb=>by cases hb) (fun a w hs _ _=>by
  have h':PD true P C.G n S (l.take m).toArray (l.take m).toArray.toList e [] e':=(by simpa using h)
  have hg:=h'.wT hp rfl 0 rfl;have E:∀a∈al,∃oa,(l.take m).toArray[a.ia]?=some oa/\oa.dst=some a.ta/\oa.guard=none/\∀S',fh P C.G ⟨n,[],S'⟩ oa [] (ua ⟨n,[],S'⟩ a.ta a.te a.ds):=fun a ha=>by
   obtain⟨oa,h1,h2⟩:=hA a ha;exact⟨oa,by simpa using h1,h2⟩
  have I:(l.take m).toArray.size=m:=(by simp;omega)
  have O:di al (fun _=>none)=[]:=by
   clear hA E hnd hj K;induction al with
   | nil=>rfl
   | cons a al ih=>show bx a.te a.ds none++di al (fun _=>none)=[];rw[ih];rfl
  refine aht (Q:=Tl P C l.toArray (l.drop m) Q) E hnd hj hp (fun i hi=>hg i (Nat.zero_le _) hi) K _ _ e (fun _=>none) a w ?_ (by rw[O];exact hs) (by rw[O];exact Fr.refl _ _) (fun x hx h=>?_) (fun _ _ _=>rfl) fun q zq mo=>?_
  ·rw[I];unfold left;exact Nat.le_trans (length_filter_le _ _) bp
  ·obtain⟨oa,U,_⟩:=E x hx;have aa:=(Array.getElem?_eq_some_iff.1 U).1;rw[I] at aa;simp[Array.getD_eq_getD_getElem?,aa] at h
  refine(h'.later fun o ho hd=>?_).symm;obtain⟨j,hj,rfl⟩:=mem_iff_getElem.1 ho;have Z:j<(l.take m).toArray.size:=(by simpa using hj)
  have:=mo j _ Ib hd;rw[I] at Z;simp[Array.getD_eq_getD_getElem?,Z] at this)
def Aw(P:Program)(l:List Oper)(ia ta te:Nat):Bool:=match l[ia]? with
 | some o=>(match o.op with|.alloc te'=>Nat.beq te' te|_=>false)&&(match o.dst with|some t=>Nat.beq t ta|none=>false)&&o.guard.isNone && !(isMap te)
 | none=>false
theorem FT{l:List Oper}{ia ta te:Nat}(h:Aw P l ia ta te=true)(hz:rF P te=some zs):∃oa,l[ia]?=some oa/\oa.dst=some ta/\oa.guard=none/\∀S',fh P G ⟨n,[],S'⟩ oa [] (ua ⟨n,[],S'⟩ ta te (zs.map .v)):=by
 unfold Aw at h;split at h
 ·rename_i o ho;simp only[Bool.and_eq_true,Bool.not_eq_true'] at h;obtain⟨⟨⟨h1,h2⟩,h3⟩,h4⟩:=h;obtain⟨z,mV,E⟩:=Cu hz;split at h1
  ·rename_i O I;obtain rfl:=Nat.eq_of_beq_eq_true h1;split at h2
   ·rename_i t hd;obtain rfl:=Nat.eq_of_beq_eq_true h2;exact⟨o,ho,hd,Option.isNone_iff_eq_none.1 h3,fun S'=>Fs (hne:=h4) I hd mV (by rw[E])⟩
   cases h2
  cases h1
 cases h
variable {R:List (Nat×D)->Prop}
theorem dv_ {id ta tb:Nat} {te tf:TypeId} {zt:List Value} (m ia ib:Nat) (ts:List Nat) (h:PE true P C.G n S (l.take m).toArray ts (l.take m) e fun l'=>look ta l' = .bF/\look tb l' = .bF/\∀b U,OD P C l.toArray (l.drop m) ⟨n,(ta,.v (.pointer (some ⟨b,0,none⟩)))::(tb,.v (.pointer (some ⟨U,0,none⟩)))::l',⟨b,te,(zs.map D.v).length,zs.map .v⟩::⟨U,tf,(zt.map D.v).length,zt.map .v⟩::S⟩ Q) (hm:P.follows .mixedOrders=true:=by kernel_rfl) (hl:Nat.ble m l.length=true:=by kernel_rfl) (hq:pY m l.toArray=true:=by kernel_rfl) (hp:j6 (l.take m).toArray=true:=by kernel_rfl)
  (jI:((l.take m)[ia]?.bind (·.dst))=some ta:=by exact rfl) (hdb:((l.take m)[ib]?.bind (·.dst))=some tb:=by exact rfl) (hea:((l.take m)[ia]?.bind fun o=>match o.op with|.alloc te=>some te|_=>none)=some te:=by exact rfl) (heb:((l.take m)[ib]?.bind fun o=>match o.op with|.alloc te=>some te|_=>none)=some tf:=by exact rfl)
  (hz:rF P te=some zs:=by exact Sb.hz) (vJ:rF P tf=some zt:=by exact Sb.hz) (ha:Aw P (l.take m) ia ta te=true:=by kernel_rfl) (hb:Aw P (l.take m) ib tb tf=true:=by kernel_rfl) (nw:Nat.beq ta tb=false:=by kernel_rfl) (ht:ts.elem ta=true:=by exact rfl) (By:ts.elem tb=true:=by exact rfl) (lF:Region.noSelect l.toArray=true:=by kernel_rfl) (mu:NP Q:=by exact D8):CD P C (.region id l.toArray true) ⟨n,e,S⟩ Q:=by
 obtain⟨e',l',h1,h2,hj,kM,K⟩:=h;have hne:ta≠tb:=fun e=>by rw[e,Nat.beq_refl] at nw;cases nw
 refine ajj (al:=[⟨ia,ta,te,zs.map .v⟩,⟨ib,tb,tf,zt.map .v⟩]) lF mu hm (Nat.le_of_ble_eq_true hl) hq hp (fun a h=>?_) (by simp[hne]) h1 (fun a h=>?_) fun f=>fC ?_ (K (f ta) (f tb))
 ·rcases mem_cons.1 h with rfl|h
  ·exact FT ha hz
  rw[mem_singleton] at h;subst h;exact FT hb vJ
 ·rcases mem_cons.1 h with rfl|h
  ·show look ta e'=_;rw[<-h2.at (mem_of_elem_eq_true ht)];exact hj
  rw[mem_singleton] at h;subst h;show look tb e'=_;rw[<-h2.at (mem_of_elem_eq_true By)];exact kM
 intro C a w hs;have E:bB C ⟨n,(ta,.v (.pointer (some ⟨f ta,0,none⟩)))::(tb,.v (.pointer (some ⟨f tb,0,none⟩)))::e',⟨f ta,te,(zs.map D.v).length,zs.map .v⟩::⟨f tb,tf,(zt.map D.v).length,zt.map .v⟩::S⟩ a w:=hs;refine⟨E.defers,E.size,fun q hq=>?_,E.own,E.fr,E.ex,E.eI⟩;have I:=E.env q hq;simp only[eD] at I |-;by_cases e1:ta=q
 ·rw[if_pos e1] at I |-;exact I
 rw[if_neg e1] at I |-;by_cases e2:tb=q
 ·rw[if_pos e2] at I |-;exact I
 rw[if_neg e2] at I |-;rcases h2.kU.look q with O|O
 ·rw[O];exact I
 rw[O];exact .bF _
end
section
variable {H:Type} {enc:TypeId×Value->H} {P:Program} {w:World} {base:Nat} {sp:Nat->Bool} {held:Bool}
variable {α:Type} {t:TypeId}
def mM(fuel:Nat)(enc:TypeId×Value->H)(P:Program)(w:World)(base:Nat)(sp:Nat->Bool)(held:Bool)(t:TypeId)(g:α->List D)(ok:α->Prop):Prop :=
 ∀cs x,DataW.trod enc P w base sp held fuel t cs=some x->∃a,cM w (fun _=>False) (g a) cs/\ok a
theorem qh.at{g:α->List D}{ok:α->Prop}(h:qh enc P w base sp held t g ok)(n:Nat):mM n enc P w base sp held t g ok:=h n
theorem cM.one{w:World}{L:Nat->Prop}{d:D}{v:Value}(h:cq w L d v):cM w L [d] [v]:=⟨rfl,fun i h1 h2=>by
 have:i=0:=(by simpa using h1)
 subst this;exact h⟩
theorem Rt{fuel:Nat}{e:TypeId}{sz:Nat}{g:α->List D}{ok:α->Prop}(ht:P.underlying t=some (.slice e))(U:P.cellsOf e=sz)(dg:0<sz)(re:∀n,n+1=fuel->mM n enc P w base sp held e g ok)(hg:∀a,(g a).length=sz) :
  mM fuel enc P w base sp held t (fun l:List α=>[.list sz (l.flatMap g) l.length]) (fun l=>(∀x∈l,ok x)/\l.length<=maxLen):=fun cs x h=>by
 rcases DataW.trod_slice ht h with ⟨rfl,_⟩|⟨a,len,cap,Z,rest,n,hn,rfl,_,hb,hl,dH,hlen,Ef,_,_⟩
 ·exact⟨[],cM.one (.nil sz),(fun x hx=>by cases hx),Nat.zero_le _⟩
 have re':=re n hn.symm;rcases Nat.eq_zero_or_pos len with h0|h0
 ·subst h0;exact⟨[],cM.one (.ni sz (some a) cap),(fun x hx=>by cases hx),Nat.zero_le _⟩
 have each:∀i:Fin len,∃y:α,(∃cs',w.cells? base (a.add (i.1*P.cellsOf e)) (P.cellsOf e)=some cs'/\cM w (fun _=>False) (g y) cs')/\ok y:=fun i=>by
  have h1:=Ef i.1 i.2;rw[getElem?_eq_getElem (by rw[hlen];exact i.2)] at h1;cases hc:w.cells? base (a.add (i.1*P.cellsOf e)) (P.cellsOf e) with
  | none=>rw[hc] at h1;cases h1
  | some cs' =>
   rw[hc] at h1;obtain⟨y,h3,h4⟩:=re' _ _ h1;exact⟨y,⟨cs',rfl,h3⟩,h4⟩
 obtain⟨cs0,aM,_⟩:=(Classical.choose_spec (each ⟨0,h0⟩)).1;obtain⟨_,pG,h5⟩:=World.cells?_some aM;have h6:=h5 0 w4;rw[getElem?_eq_getElem w4,Nat.zero_mul,show(a.add 0).add 0=a from by simp[Addr.add]] at h6;have E:a.spot=none/\a.block<w.heap.size:=by
  unfold World.cell? at h6;cases hh:w.heap[a.block]? with
  | none=>rw[hh] at h6;cases h6
  | some o =>
   rw[hh] at h6;refine⟨?_,?_⟩
   ·cases o with
    | cells c t f =>
     cases hs:a.spot with
     | none=>rfl
     | some q=>simp[hs] at h6
    | _=>cases h6
   rcases Nat.lt_or_ge a.block w.heap.size with h2|h2
   ·exact h2
   rw[Array.getElem?_eq_none h2] at hh;cases hh
 obtain⟨b,o,s⟩:=a;obtain⟨rfl,aa⟩:=E;let l:List α:=ofFn fun i:Fin len=>Classical.choose (each i)
 have mU:l.length=len:=(by simp[l])
 have O:∀i (hi:i<l.length),(∃cs',w.cells? base ((⟨b,o,none⟩:Addr).add (i*P.cellsOf e)) (P.cellsOf e)=some cs'/\cM w (fun _=>False) (g l[i]) cs')/\ok l[i]:=fun i hi=>by
  have:=Classical.choose_spec (each ⟨i,by omega⟩);simpa[l] using this
 refine⟨l,cM.one ?_,fun x hx=>?_,by omega⟩
 ·have key:∀k,k<(l.flatMap g).length->∃u,w.cell? ⟨b,o+k,none⟩=some u/\∀h:k<(l.flatMap g).length,cq w (fun _=>False) (l.flatMap g)[k] u:=fun k hk=>by
   rw[cz hg] at hk;have hi:k/sz<l.length:=Nat.div_lt_of_lt_mul (by rw[Nat.mul_comm];exact hk);have hj:k % sz<sz:=Nat.mod_lt _ dg;have mO:k/sz*sz+k % sz=k:=(by rw[Nat.mul_comm];exact Nat.div_add_mod k sz)
   obtain⟨⟨cs',h1,h2⟩,_⟩:=O _ hi;obtain⟨_,h4,h5⟩:=World.cells?_some h1;have h6:=h5 (k % sz) w4;have ja:k % sz<cs'.length:=(by omega)
   rw[getElem?_eq_getElem ja,Go.Deep.add_add,U,mO,Addr.add_mid] at h6;refine⟨_,h6,fun h=>?_⟩;have h7:=h2.2 (k % sz) (by rw[hg];exact hj) ja;have h8:=Am hg hi (getElem?_eq_getElem (show k % sz<(g l[k/sz]).length by rw[hg];exact hj));rw[mO,getElem?_eq_getElem h] at h8;rw[Option.some.inj h8];exact h7
  have I:Value.slice (some ⟨b,o,none⟩) len cap=Value.slice (some ⟨b,o,none⟩) l.length cap:=(by rw[mU])
  rw[I];refine cq.list (L:=fun _=>False) sz (l.flatMap g) l.length b o cap (fun k=>(w.cell? ⟨b,o+k,none⟩).getD undef) (cz hg l) w4 dH aa (fun h=>h.elim) (fun k hk=>?_) (fun k hk=>?_)
  ·obtain⟨u,h1,_⟩:=key k hk;rw[h1];rfl
  obtain⟨u,h1,h2⟩:=key k hk;simp only[h1,Option.getD_some];exact h2 hk
 obtain⟨i,hi,rfl⟩:=mem_iff_getElem.1 hx;exact(O i hi).2
theorem acW {fuel:Nat} {f0 f1 f2 f3:Field} {E I O U:Type} {g0:E->List D} {g1:I->List D} {g2:O->List D} {g3:U->List D} {k0:E->Prop} {k1:I->Prop} {k2:O->Prop} {k3:U->Prop} {n0 n1 n2 n3:Nat}
  (ht:P.underlying t=some (.struct #[f0,f1,f2,f3])) (hc:P.cellsOf t=n0+n1+n2+n3) (o0:f0.offset=0) (o1:f1.offset=n0) (o2:f2.offset=n0+n1) (o3:f3.offset=n0+n1+n2) (c0:P.cellsOf f0.type=n0) (c1:P.cellsOf f1.type=n1) (c2:P.cellsOf f2.type=n2) (c3:P.cellsOf f3.type=n3)
  (r0:∀n,n+1=fuel->mM n enc P w base sp held f0.type g0 k0) (r1:∀n,n+1=fuel->mM n enc P w base sp held f1.type g1 k1) (r2:∀n,n+1=fuel->mM n enc P w base sp held f2.type g2 k2) (r3:∀n,n+1=fuel->mM n enc P w base sp held f3.type g3 k3) :
  mM fuel enc P w base sp held t (fun a:E × I × O × U=>g0 a.1++(g1 a.2.1++(g2 a.2.2.1++g3 a.2.2.2))) (fun a=>k0 a.1/\k1 a.2.1/\k2 a.2.2.1/\k3 a.2.2.2):=fun cs x h=>by
 obtain⟨xs,n,hn,_,hl,gK,hf⟩:=DataW.trod_struct ht h;have Z:=hf 0 f0 rfl;have e1:=hf 1 f1 rfl;have e2:=hf 2 f2 rfl;have e3:=hf 3 f3 rfl;rw[o0,c0,drop_zero] at Z;rw[o1,c1] at e1;rw[o2,c2] at e2;rw[o3,c3] at e3;have OP:xs.length=4:=gK;rw[getElem?_eq_getElem w4] at Z e1 e2 e3;obtain⟨a0,p0,q0⟩:=r0 n hn.symm _ _ Z;obtain⟨a1,p1,q1⟩:=r1 n hn.symm _ _ e1;obtain⟨a2,p2,q2⟩:=r2 n hn.symm _ _ e2;obtain⟨a3,p3,q3⟩:=r3 n hn.symm _ _ e3;refine⟨(a0,a1,a2,a3),?_,q0,q1,q2,q3⟩;have dz:cs=cs.take n0++((cs.drop n0).take n1++((cs.drop (n0+n1)).take n2++(cs.drop (n0+n1+n2)).take n3)):=by
  rw[take_of_length_le (l:=drop (n0+n1+n2) cs) (by rw[length_drop];omega)];have e1:cs.drop (n0+n1+n2)=(cs.drop (n0+n1)).drop n2:=(by rw[drop_drop])
  have e2:cs.drop (n0+n1)=(cs.drop n0).drop n1:=(by rw[drop_drop])
  rw[e1,take_append_drop,e2,take_append_drop,take_append_drop]
 rw[dz];exact p0.append (p1.append (p2.append p3))
theorem ajk {E:Array Field} {I:Nat} {g:α->List D} {ok:α->Prop} (ht:P.underlying t=some (.struct E)) (O:∀n,mM n enc P w base sp held t g ok) {v:Value} {d:DataW H} {p:List MemPlace}
  (hval:Value.okWide P w .any I t v) (h:DataW.Trod enc P w base sp held t v d p):∃a:α,cq w (fun _=>False) (.agg (g a)) v/\ok a/\True:=by
 unfold Value.okWide at hval;rw[ht] at hval;obtain⟨cs,rfl,_⟩:=hval;obtain⟨m,hm⟩:=h;obtain⟨a,h1,h2⟩:=O m _ _ hm;exact⟨a,by
  have:=cq.agg (w:=w) (L:=fun _=>False) (g a) cs.toList h1.1 (fun i q1 q2=>h1.2 i q1 q2);simpa using this,h2,trivial⟩
end
variable {P:Program} {C:dJ} {G:List (Nat×List Value)} {Q:Exit->St->Prop} {x:St} {ops:Array Oper} {l:List Oper} {o:Oper} {S1 T:List Nat} {fuel i:Nat} {ld:Array Bool}
variable {y:Operand} {t e tt m m2 c b b2 k k2 oy c2 cap:Nat} {B B2:ag} {cs':List D} {kq kn:IntKind} {ts:Array TypeId}
def toEnd(B:ag):ag:={B with cs:=B.cs++replicate (B.size-B.cs.length) .bF}
theorem Wk.toEnd{n:Nat}{l:List (Nat×D)}{S:List ag}{k:Nat}{B:ag}(hk:S[k]?=some B):Wk ⟨n,l,S⟩ ⟨n,l,S.set k (V.toEnd B)⟩:=fun C a w h=>by
 have E:aj (S.set k (V.toEnd B))=aj S:=by
  unfold aj;rw[map_set];have aa:k<S.length:=(List.getElem?_eq_some_iff.1 hk).1;have:(S.map ag.b)[k]'(by simpa using aa)=B.b:=(by rw[getElem_map];rw[(List.getElem?_eq_some_iff.1 hk).2])
  show(S.map ag.b).set k B.b=_;rw[<-this,set_getElem_self]
 have hl:live C.X (S.set k (V.toEnd B))=live C.X S:=(by funext b;unfold live;rw[E])
 refine⟨h.defers,h.size,by simpa only[hl] using h.env,⟨fun B' I=>?_,by rw[E];exact h.own.apart⟩,by simpa only[E] using h.fr,h.ex,h.eI⟩;rw[hl];rcases mem_or_eq_of_mem_set I with I|rfl
 ·exact h.own.at_ B' I
 obtain⟨r0,cur,r1,r2,Z,U⟩:=h.own.at_ B (mem_of_getElem? hk);have key:∀i (hi:i<(B.cs++replicate (B.size-B.cs.length) D.bF).length),∃u,cur[i]?=some u/\cq w (live C.X S) (B.cs++replicate (B.size-B.cs.length) D.bF)[i] u:=fun i hi=>by
  have O:=hi;rw[length_append,length_replicate] at O;rcases Nat.lt_or_ge i B.cs.length with q|q
  ·obtain⟨u,hu,hq⟩:=U i q;exact⟨u,hu,by rw[getElem_append_left q];exact hq⟩
  exact⟨cur[i]'w4,Array.getElem?_eq_getElem w4,by rw[getElem_append_right q,getElem_replicate];exact .bF _⟩
 refine⟨r0,cur,r1,r2,?_,key⟩;show(B.cs++replicate (B.size-B.cs.length) D.bF).length<=B.size;rw[length_append,length_replicate];omega
theorem afN {d:Operand} {t2 od:Nat} {new:List D} (ho:o.op = .call {callee:=.builtin .copy,args:=#[d,y],argTypes:=#[t,t2]}) (hd:o.dst=some tt)
  (ht:P.underlying t=some (.slice e)) (hi:(P.info? e).map (fun i=>i.size)=some 1)
  (hs:aD x d = .v (.slice (some ⟨b,od,none⟩) m c)) (hk:x.S[k]?=some B) (hb:B.b=b) (hy:aD x y = .v (.slice (some ⟨b2,oy,none⟩) m2 c2)) (eR:x.S[k2]?=some B2) (oZ:B2.b=b2)
  (O:(B2.cs.drop oy).take (Nat.min m2 m)=new) (hlen:new.length=Nat.min m2 m) (jw:∀d∈new,one d=true) (hl:od+new.length<=B.cs.length) (dz:dx B.cs od new=cs') (hne:isMap B.e=false:=by rfl) (kG:isMap B2.e=false:=by rfl) :
  fh P G x o [b] (fun y=>y=⟨x.n,(tt,.v (.int .i64 (new.length:Nat)))::x.env,x.S.set k {B with cs:=cs'}⟩):=fun C a w K Q hG h hK=>by
 subst dz hb oZ;obtain⟨h0,cur,q1,q2,q3,q4⟩:=h.fP hk;rw[lp hne] at q1;obtain⟨h02,oS,p1,p2,p3,p4⟩:=h.fP eR;rw[lp kG] at p1;have lX:∀j,(hj:j<new.length)->∃zv:oy+j<B2.cs.length,new[j]=B2.cs[oy+j]:=fun j hj=>by
  have h2:oy+j<B2.cs.length:=by
   have:=congrArg length O;rw[length_take,length_drop] at this;omega
  refine⟨h2,?_⟩;have e2:new[j]?=some B2.cs[oy+j]:=(by rw[<-O,getElem?_take,if_pos w4,getElem?_drop,getElem?_eq_getElem h2])
  rw[getElem?_eq_getElem hj] at e2;exact Option.some.inj e2
 let vs:List Value:=(range new.length).map fun j=>oS.getD (oy+j) undef
 have E:vs.length=new.length:=(by simp[vs])
 have hv:∀j (hj:j<new.length),∃u,oS[oy+j]?=some u/\vs[j]?=some u/\cq w (live C.X x.S) new[j] u:=fun j hj=>by
  obtain⟨h1,h3⟩:=lX j hj;obtain⟨u,I,hq⟩:=p4 (oy+j) h1;refine⟨u,I,?_,h3 ▸ hq⟩;simp[vs,hj,I]
 have hr:cM w (live C.X x.S) new vs:=⟨by rw[E],fun j h1 h2=>by
  obtain⟨u,_,I,hq⟩:=hv j h1;rw[getElem?_eq_getElem h2] at I;rw[Option.some.inj I];exact hq⟩
 obtain⟨s1,s2,s3⟩:=h.store (hne:=hne) hk hr (o':=od) hl;have Z:=run_copy_cells (P:=P) w t t2 o.type e B.b od m c ⟨B2.b,oy,none⟩ m2 c2 vs ht hi (by rw[E,hlen]) (fun j u I=>by
   rw[Addr.add_mid];have hj:j<new.length:=(by rw[<-E];exact(List.getElem?_eq_some_iff.1 I).1)
   obtain⟨u',zg,zh,_⟩:=hv j hj;rw[zh] at I;rw[<-I];exact pc p1 zg) (fun j hj=>by
   have:od+j<cur.size:=(by rw[E] at hj;omega)
   rw[pc q1 (u:=cur[od+j]) (by simp[this])];rfl) (fun j hj=>by unfold World.frozen?;simp[q1]) (fun u I=>by
   obtain⟨j,hj,rfl⟩:=mem_iff_getElem.1 I;have kM:j<new.length:=(by omega)
   exact(hr.2 j kM hj).Cf (jw _ (getElem_mem kM)))
 have U:(execOp a.eval o).run P w = .ok (.value (goInt vs.length)) (w.setCells B.b od vs):=by
  unfold execOp;simp only[ho,resolve,invoke,builtin,Sem.run_bind,Sem.run_pure,Result.andThen_ok,map_toArray,map_cons,map_nil,h.flat hs,h.flat hy,Z]
 unfold Oper.wp;rw[U,Oper.upon_value,hd];exact hK _ _ _ rfl (s1.put (by rw[E];exact .v _)) s2 s3
theorem wv {d:Operand} {t2 I od U:Nat} {new:List D} (hw:bV ops x o true) (ho:o.op = .call {callee:=.builtin .copy,args:=#[d,y],argTypes:=#[t,t2]}) (hd:o.dst=some tt)
  (ht:P.underlying t=some (.slice e)) (hi:(P.info? e).map (fun i=>i.size)=some 1)
  (hs:aD x d = .v (.slice (some ⟨b,od,none⟩) m c)) (hk:x.S[k]?=some B) (hb:B.b=b) (hy:aD x y = .v (.slice (some ⟨b2,oy,none⟩) I U)) (eR:x.S[k2]?=some B2) (O:B2.b=b2)
  (E:(B2.cs.drop oy).take (Nat.min I m)=new) (hlen:new.length=Nat.min I m) (jw:∀d∈new,one d=true) (hl:od+new.length<=B.cs.length) (dz:dx B.cs od new=cs')
  (K:OD P C ops l ⟨x.n,(tt,.v (.int .i64 (new.length:Nat)))::x.env,x.S.set k {B with cs:=cs'}⟩ Q) (hne:isMap B.e=false:=by rfl) (kG:isMap B2.e=false:=by rfl):OD P C ops (o::l) x Q :=
 OD.gm hw (afN (hne:=hne) (kG:=kG) ho hd ht hi hs hk hb hy eR O E hlen jw hl dz) fun y hy=>hy ▸ K
theorem acv {s:Operand} {tn n bytes:Nat} {z:Value} (ho:o.op = .call {callee:=.builtin .append,args:=#[s,y],argTypes:=#[t,tn]}) (hd:o.dst=some tt)
  (ht:P.underlying t=some (.slice e)) (uS:P.underlying tn=some (.int kn)) (hi:(P.info? e).map (fun i=>(i.zero,i.size,i.bytes))=some (some z,1,bytes)) (eM:z.cells.size=1)
  (hs:aD x s = .v (.slice (some ⟨b,0,none⟩) n cap)) (hk:x.S[k]?=some B) (hb:B.b=b) (hl:n<=B.cs.length) (hy:aD x y = .v (.int kq m)) (hg:cap<n+m) (h0:0<m) (oY:n+m<=maxLen) (I:(n+m)*bytes<=140737488355328) (hne:isMap B.e=false:=by rfl) (kG:isMap e=false:=by rfl) :
  fh P G x o [] (fun y=>∃b' aO,n+m<=aO/\aO<=maxLen/\y=⟨x.n,(tt,.v (.slice (some ⟨b',0,none⟩) (n+m) aO))::x.env,⟨b',e,aO*1,B.cs.take n⟩::x.S⟩):=fun C a w K Q hG h hK=>by
 subst hb;obtain⟨i,lg,gE,qg,qU⟩:=Aj hi;obtain⟨r0,cur,r1,r2,r3,r4⟩:=h.fP hk;rw[lp hne] at r1;have lm:n<=cur.size:=(by omega)
 have hold:(Builtin.firstCells i.size n (.slice (some ⟨B.b,0,none⟩) n cap)).run P w.drew = .ok (cur.toList.take n).toArray w.drew:=by
  rw[qg];exact run_firstCells_some w.drew 1 n ⟨B.b,0,none⟩ n cap (cur.toList.take n) iI (fun j v hj=>by
   rw[Addr.add_mid];rw[getElem?_take] at hj;split at hj
   ·rw[Array.getElem?_toList] at hj;have:w.drew.heap[B.b]?=some (.cells cur B.e (0,0)):=r1;exact pc this (by rw[Nat.zero_add];exact hj)
   cases hj)
 have E:=Lib.run_append_grow_zeros (P:=P) w t tn o.type e i z kq kn ht uS lg gE (some ⟨B.b,0,none⟩) n cap _ hold m h0 w4 hg (by simp only[maxLen] at oY;omega) (by rw[qU];exact Nat.le_trans (Nat.mul_le_mul_right _ (Nat.le_add_left m n)) w4) (by rw[qU];exact growslice_fits hg I);have h1:=grownCap_ge w (n+m) cap e;have h2:=grownCap_le_maxLen w (n+m) cap e oY;generalize grownCap w (n+m) cap e=aO at E h1 h2;generalize U:(cur.toList.take n).toArray++Builtin.zeroCells z.cells m++Builtin.zeroCells z.cells (aO-(n+m))=O at E;have zu:∀q,(Builtin.zeroCells z.cells q).size=q:=fun q=>by
  obtain⟨u,hu⟩:∃u,z.cells = #[u]:=by
   have:z.cells.toList.length=1:=(by simpa using eM)
   obtain⟨u,hu⟩:=length_eq_one_iff.1 this;exact⟨u,by rw[<-Array.toArray_toList (xs:=z.cells),hu]⟩
  simp[Builtin.zeroCells,hu]
 have dg:O.size=aO*1:=by
  rw[<-U,Array.size_append,Array.size_append,zu,zu];simp;omega
 have Z:(execOp a.eval o).run P w = .ok (.value (.slice (some ⟨w.heap.size,0,none⟩) (n+m) aO)) (w.drew.alloc (.cells O e)):=by
  unfold execOp;simp only[ho,resolve,invoke,builtin,Sem.run_bind,Sem.run_pure,Result.andThen_ok,map_toArray,map_cons,map_nil,h.flat hs,h.flat hy,E]
 obtain⟨s1,s2,s3⟩:=h.grown (w':=w.drew.alloc (.cells O e)) (t:=tt) (m:=n+m) (e:=e) (sz:=1) (S:=x.S) (cs:=B.cs.take n) (row:=none) (g:=w.heap.size) (cap:=aO) (cur:=O) (hne:=kG) (Sublist.refl _) (fun k hk=>by cases hk)
  ⟨rfl,rfl,rfl,by show w.heap.size<=(w.heap.push _).size;simp,fun k hk _=>getElem?_push_lt (w:=w.drew) hk⟩ (.inr rfl) M3 M4 dg pF (fun j hj=>by
   have kM:j<n:=(by rw[length_take] at hj;omega)
   obtain⟨u,hu,hq⟩:=r4 j w4;refine⟨u,?_,by rw[getElem_take];exact hq⟩;rw[<-U,Array.append_assoc,Array.getElem?_append_left iI];simp[kM,hu])
 unfold Oper.wp;rw[Z,Oper.upon_value,hd];exact hK _ _ _ ⟨_,_,h1,h2,rfl⟩ s1 s2 s3
theorem QZ {s:Operand} {Z n bytes:Nat} {z:Value} (hw:bV ops x o true) (ho:o.op = .call {callee:=.builtin .append,args:=#[s,y],argTypes:=#[t,Z]}) (hd:o.dst=some tt)
  (ht:P.underlying t=some (.slice e)) (O:P.underlying Z=some (.int kn)) (hi:(P.info? e).map (fun i=>(i.zero,i.size,i.bytes))=some (some z,1,bytes)) (eM:z.cells.size=1)
  (hs:aD x s = .v (.slice (some ⟨b,0,none⟩) n cap)) (hk:x.S[k]?=some B) (hb:B.b=b) (hl:n<=B.cs.length) (hy:aD x y = .v (.int kq m)) (hg:cap<n+m) (h0:0<m) (U:n+m<=maxLen) (E:(n+m)*bytes<=140737488355328)
  (K:∀I aO,n+m<=aO->aO<=maxLen->OD P C ops l ⟨x.n,(tt,.v (.slice (some ⟨I,0,none⟩) (n+m) aO))::x.env,⟨I,e,aO*1,B.cs.take n⟩::x.S⟩ Q) (hne:isMap B.e=false:=by rfl) (kG:isMap e=false:=by rfl):OD P C ops (o::l) x Q :=
 OD.gm hw (acv (hne:=hne) (kG:=kG) ho hd ht O hi eM hs hk hb hl hy hg h0 U E) fun y ⟨I,aO,h1,h2,hy⟩=>hy ▸ K I aO h1 h2
theorem ab7 {f:FuncId} {fn:Func} {z:Operand} {r oz:Nat} (ho:o.op = .call {callee:=.value (.func f),args:=#[y,z],argTypes:=ts}) (hd:o.dst=some tt)
  (hf : P.funcs[f]? = some fn) (CR : (fn.name == "runtime.NumGoroutine") = false) (IG : fn.body.isNone = true) (hn : Extern.findNext fn = none) (he : Extern.find fn = some (Extern.SlicesOverlaps.overlaps #[t, t] #[r])) (ht : P.underlying t = some (.slice e)) (mV : ∀ w, (sizeOf e).run P w = .ok 1 w)
  (hy:aD x y = .v (.slice (some ⟨b,oy,none⟩) m c)) (hk:x.S[k]?=some B) (hb:B.b=b) (hz:aD x z = .v (.slice (some ⟨b2,oz,none⟩) m2 c2)) (eR:x.S[k2]?=some B2) (oZ:B2.b=b2) (mO:k≠k2) (pJ:B2.size≠0) (hne:isMap B.e=false:=by rfl) (kG:isMap B2.e=false:=by rfl) :
  fh P G x o [] (fun s=>s=x.put tt (.v (.bool false))):=fun C a w K Q hG h hK=>by
 subst hb oZ;obtain⟨r0,cur,r1,r2,r3,r4⟩:=h.fP hk;rw[lp hne] at r1;obtain⟨p0,oS,p1,p2,p3,p4⟩:=h.fP eR;rw[lp kG] at p1;have hnb:B.b≠B2.b:=fun e=>by
  have hnd:=h.own.apart;have l1:=(List.getElem?_eq_some_iff.1 hk).1;have l2:=(List.getElem?_eq_some_iff.1 eR).1;have e1:(aj x.S)[k]?=some B.b:=(by unfold aj;rw[getElem?_map,hk];rfl)
  have e2:(aj x.S)[k2]?=some B2.b:=(by unfold aj;rw[getElem?_map,eR];rfl)
  obtain⟨q1,e1⟩:=List.getElem?_eq_some_iff.1 e1;obtain⟨q2,e2⟩:=List.getElem?_eq_some_iff.1 e2;rcases Nat.lt_trichotomy k k2 with q|q|q
  ·exact pairwise_iff_getElem.1 hnd k k2 q1 q2 q (by rw[e1,e2,e])
  ·exact mO q
  exact pairwise_iff_getElem.1 hnd k2 k q2 q1 q (by rw[e1,e2,e])
 have hc:(callFunc f #[a.eval y,a.eval z]).run P w = .ok (.value (.bool false)) w:=by
  rw[h.flat hy,h.flat hz,run_callFunc_extern hf CR IG hn he,Lib.run_overlaps_apart w t r e ht 1 mV ⟨B.b,oy,none⟩ ⟨B2.b,oz,none⟩ m c m2 c2 hnb B.e B2.e cur.size oS.size (by simp[World.shape?,r1]) (by simp[World.shape?,p1]) w4 (by unfold World.frozen?;simp[r1]) (by unfold World.frozen?;simp[r1])];rfl
 unfold Oper.wp;have oR:(execOp a.eval o).run P w = .ok (.value (.bool false)) w:=by
  unfold execOp;have ef:a.eval (.func f) = .func (.func f) #[] #[]:=rfl;simp only[ho,resolve,ef,Deferred.ofValue,Sem.run_bind,Sem.run_pure,Result.andThen_ok,invoke];simp[hc]
 rw[oR,Oper.upon_value,hd];exact hK _ _ _ rfl (h.put (.v _)) (mT.refl _ _) (Fr.refl _ _)
theorem QI {f:FuncId} {fn:Func} {z:Operand} {r oz:Nat} (hw:bV ops x o true) (ho:o.op = .call {callee:=.value (.func f),args:=#[y,z],argTypes:=ts}) (hd:o.dst=some tt)
  (hf : P.funcs[f]? = some fn) (CR : (fn.name == "runtime.NumGoroutine") = false) (IG : fn.body.isNone = true) (hn : Extern.findNext fn = none) (he : Extern.find fn = some (Extern.SlicesOverlaps.overlaps #[t, t] #[r])) (ht : P.underlying t = some (.slice e)) (mV : ∀ w, (sizeOf e).run P w = .ok 1 w)
  (hy:aD x y = .v (.slice (some ⟨b,oy,none⟩) m c)) (hk:x.S[k]?=some B) (hb:B.b=b) (hz:aD x z = .v (.slice (some ⟨b2,oz,none⟩) m2 c2)) (eR:x.S[k2]?=some B2) (oZ:B2.b=b2) (mO:k≠k2) (pJ:B2.size≠0)
  (K:OD P C ops l (x.put tt (.v (.bool false))) Q) (hne:isMap B.e=false:=by rfl) (kG:isMap B2.e=false:=by rfl):OD P C ops (o::l) x Q :=
 OD.gm hw (ab7 (hne:=hne) (kG:=kG) ho hd hf CR IG hn he ht mV hy hk hb hz eR oZ mO pJ) fun y hy=>hy ▸ K
theorem Fv {t e:TypeId} {ad:Option Addr} {len:Nat} (ho:o.op = .call {callee:=.builtin .cap,args:=#[y],argTypes:=ts}) (ht:ts = #[t]) (hy:aD x y = .v (.slice ad len cap))
  (E:∀w,(underlying t).run P w = .ok (.slice e) w):bS P G x o .none (.v (.int .i64 cap)):=fun C a w _ h=>⟨_,.v _,fun w' _=>by
 subst ht;unfold execOp;simp[ho,resolve,invoke,builtin,Builtin.cap_,h.flat hy,E,goInt]⟩
end V
namespace V
open List
open Go.RowKit
variable {P:Program} {C:dJ} {G:List (Nat×List Value)} {Q:Exit->St->Prop} {x:St} {ops:Array Oper} {l:List Oper} {o:Oper}
variable {t e:TypeId} {cap sz n tt bytes:Nat} {k2 k3:IntKind} {y hi E:Operand} {ad:Option Addr} {Sq:List ag}
theorem ab8 {b len:Nat} (ho:o.op = .slice t y none (some hi) (some E)) (hy:aD x y = .v (.slice (some ⟨b,0,none⟩) len cap)) (eJ:aD x hi = .v (.int k2 n)) (dH:aD x E = .v (.int k3 n))
  (I:∀w,(underlying t).run P w = .ok (.slice e) w) (hs:∀w,(sizeOf e).run P w = .ok sz w) (h3:n<=cap):bS P G x o .none (.v (.slice (some ⟨b,0,none⟩) n n)):=fun C a w _ h =>
 ⟨_,.v _,fun w' _=>by
  have b3:∀w,(Instr.sliceBounds true len cap none (some (.int k2 n)) (some (.int k3 n))).run P w = .ok (0,n,n) w:=fun w=>by
   unfold Instr.sliceBounds;simp[Fg,h3]
  unfold execOp;simp only[ho,h.flat hy,h.flat eJ,h.flat dH,Instr.sliceAt,Instr.slice,I,Sem.run_bind,Result.andThen_ok,Option.map_some,Option.map_none,b3,hs,Sem.run_pure];by_cases hc:n=0
  ·rw[if_pos hc];simp
  rw[if_neg hc];simp[Addr.add]⟩
theorem ahu(len cap n:Nat)(h3:n<=cap)(w:World):(Instr.sliceBounds true len cap none (some (.int k2 n)) (some (.int k3 n))).run P w = .ok (0,n,n) w:=by
 unfold Instr.sliceBounds;simp[Fg,h3]
theorem abR (ho:o.op = .slice t y none (some hi) (some E)) (hy:aD x y = .v (.slice none 0 0)) (eJ:aD x hi = .v (.int k2 n)) (dH:aD x E = .v (.int k3 n)) (hn:n=0)
  (I:∀w,(underlying t).run P w = .ok (.slice e) w) (hs:∀w,(sizeOf e).run P w = .ok sz w):bS P G x o .none (.v (.slice none 0 0)):=fun C a w _ h =>
 ⟨_,.v _,fun w' _=>by
  have b3:=fun w=>ahu (P:=P) (k2:=k2) (k3:=k3) 0 0 n w4 w;unfold execOp;simp only[ho,h.flat hy,h.flat eJ,h.flat dH,Instr.sliceAt,Instr.slice,I,Sem.run_bind,Result.andThen_ok,Option.map_some,Option.map_none,b3,hs,Sem.run_pure];subst hn;simp⟩
theorem abS {s:Operand} {t e m b k:Nat} {z:Value} {B:ag} {cs:List D} (ho:o.op = .call {callee:=.builtin .append,args:=#[s,y],argTypes:=#[t,t]}) (hd:o.dst=some tt)
  (ht:P.underlying t=some (.slice e)) (hi:(P.info? e).map (fun i=>(i.zero,i.size,i.bytes))=some (some z,sz,bytes)) (eM:z.cells.size=sz) (dg:0<sz)
  (hs:aD x s = .v (.slice (some ⟨b,0,none⟩) n n)) (hk:x.S[k]?=some B) (hb:B.b=b) (hl:n*sz<=B.cs.length)
  (hy:aD x y = .list sz cs m) (jw:∀d∈cs,one d=true) (asL:∀d∈B.cs.take (n*sz),one d=true) (hm:0<m) (Z:n+m<=maxLen) (ajh:(n+m)*bytes<=140737488355328) (hne:isMap B.e=false:=by rfl) (kG:isMap e=false:=by rfl) :
  fh P G x o [] (fun y=>∃b' aO,n+m<=aO/\aO<=maxLen/\y=⟨x.n,(tt,.v (.slice (some ⟨b',0,none⟩) (n+m) aO))::x.env,⟨b',e,aO*sz,B.cs.take (n*sz)++cs⟩::x.S⟩):=fun C a w K Q hG h hK=>by
 subst hb;obtain⟨i,lg,gE,qg,qU⟩:=Aj hi;obtain⟨r0,cur,r1,r2,r3,r4⟩:=h.fP hk;rw[lp hne] at r1;have hr:=h.eval y;rw[hy] at hr;generalize hg:a.eval y=u at hr;cases hr with
 | ni=>omega
 | list _ _ _ b' o' aO f lj q1 q2 jo hL hc O9 =>
  have amt:Builtin.nextslicecap (n+m) n*bytes<=281474976710656:=by
   have q1:=nextslicecap_le (need:=n+m) (old:=n) w4;have q2:=Nat.mul_le_mul_right bytes q1;rw[Nat.mul_assoc] at q2;omega
  have E:=Go.run_append_grow (P:=P) (w:=w) t o.type e i z ht lg gE ⟨B.b,0,none⟩ n n (cur.toList.take (n*sz)) (by rw[qg];simp;omega) (fun j v hv=>by
    have hj:=(List.getElem?_eq_some_iff.1 hv).1;rw[length_take] at hj;rw[getElem?_take_of_lt w4,Array.getElem?_toList] at hv;rw[Addr.add_mid,Nat.zero_add];exact pc r1 hv) ⟨b',o',none⟩ m aO ((range cs.length).map f) (by rw[qg];simp[lj]) (fun j u hu=>by
    rw[Addr.add_mid];obtain⟨hj,he⟩:=List.getElem?_eq_some_iff.1 hu;simp only[length_map,length_range] at hj;rw[hc j hj,<-he];simp) w4 (by simp only[maxLen] at Z;omega) (by rw[qU];exact amt)
  have h1:=grownCap_ge w (n+m) n e;have h2:=grownCap_le_maxLen w (n+m) n e Z;generalize grownCap w (n+m) n e=cp at E h1 h2;generalize I:(cur.toList.take (n*sz)).toArray++((range cs.length).map f).toArray++Builtin.zeroCells z.cells (cp-(n+m))=U at E;have zu:∀q,(Builtin.zeroCells z.cells q).size=q*sz:=fun q=>by simp[Builtin.zeroCells,eM]
  have aa:(cur.toList.take (n*sz)).length=n*sz:=(by rw[length_take];simp;omega)
  have Dh:U.size=cp*sz:=by
   rw[<-I,Array.size_append,Array.size_append,zu];simp only[size_toArray,aa,length_map,length_range,lj,<-Nat.add_mul];congr 1;omega
  have hlc:(B.cs.take (n*sz)++cs).length=(n+m)*sz:=(by rw[length_append,length_take,lj,Nat.add_mul];omega)
  obtain⟨s1,s2,s3⟩:=h.grown (w':=w.drew.alloc (.cells U e)) (t:=tt) (m:=n+m) (e:=e) (sz:=sz) (S:=x.S) (cs:=B.cs.take (n*sz)++cs) (row:=none) (g:=w.heap.size) (cap:=cp) (cur:=U) (hne:=kG) (Sublist.refl _) (fun k hk=>by cases hk)
   ⟨rfl,rfl,rfl,by show w.heap.size<=(w.heap.push _).size;simp,fun k hk _=>getElem?_push_lt (w:=w.drew) hk⟩ (.inr rfl) M3 M4 Dh (by rw[hlc];exact Nat.mul_le_mul_right _ h1) (fun j hj=>by
    rw[hlc,Nat.add_mul] at hj;by_cases lX:j<n*sz
    ·obtain⟨u,hu,hq⟩:=r4 j w4;refine⟨u,?_,?_⟩
     ·rw[<-I,Array.getElem?_append_left (by simp[aa];omega),Array.getElem?_append_left (by simp[aa];omega),getElem?_toArray,getElem?_take_of_lt lX,Array.getElem?_toList,hu]
     rw[getElem_append_left pF,getElem_take];exact hq
    have O:j-n*sz<cs.length:=(by omega)
    refine⟨f (j-n*sz),?_,?_⟩
    ·rw[<-I,Array.getElem?_append_left (by simp[aa];omega),Array.getElem?_append_right (by simp[aa];omega)];simp[aa,O]
    rw[getElem_append_right pF];have:=O9 (j-n*sz) O;have e1:(B.cs.take (n*sz)).length=n*sz:=(by rw[length_take];omega)
    simp only[e1];exact this)
  unfold Oper.wp;rw[B3 (P:=P) ho (h.flat hs) hg E,Oper.upon_value,hd];exact hK _ _ _ ⟨_,_,h1,h2,rfl⟩ s1 s2 s3
theorem abT {len:Nat} {cs:List D} (O:bq e sz cs len ad cap Sq) (ho:o.op = .slice t y none (some hi) (some E)) (hy:aD x y = .v (.slice ad len cap)) (eJ:aD x hi = .v (.int k2 n)) (dH:aD x E = .v (.int k3 n))
  (I:∀w,(underlying t).run P w = .ok (.slice e) w) (hs:∀w,(sizeOf e).run P w = .ok sz w) (hn:n<=len):bS P G x o .none (.v (.slice ad n n)):=by
 rcases O with ⟨rfl,rfl,rfl,rfl,rfl⟩|⟨b,rfl,h1,h2,rfl⟩
 ·have h:=abR (P:=P) (G:=G) ho hy eJ dH w4 I hs;obtain rfl:n=0:=(by omega)
  exact h
 exact ab8 ho hy eJ dH I hs w4
theorem abU {α:Type} {g:α->List D} {ls new:List α} {s:Operand} {t e:Nat} {z:Value} {R:List ag} (hg:∀a,(g a).length=sz) (hg1:∀a,(g a).all one=true) (hw:bV ops x o true) (ho:o.op = .call {callee:=.builtin .append,args:=#[s,y],argTypes:=#[t,t]}) (hd:o.dst=some tt)
  (ht:P.underlying t=some (.slice e)) (hi:(P.info? e).map (fun i=>(i.zero,i.size,i.bytes))=some (some z,sz,bytes)) (eM:z.cells.size=sz) (dg:0<sz)
  (hs:aD x s = .v (.slice ad n n)) (Z:bq e sz (ls.flatMap g) ls.length ad cap Sq) (hp:x.S.Perm (Sq++R)) (hn:n<=ls.length)
  (hy:aD x y = .list sz (new.flatMap g) new.length) (hm:0<new.length) (O:n+new.length<=maxLen) (E:(n+new.length)*bytes<=140737488355328)
  (K:∀I aO,(ls.take n++new).length<=aO->aO<=maxLen->OD P C ops l ⟨x.n,(tt,.v (.slice (some ⟨I,0,none⟩) (ls.take n++new).length aO))::x.env,⟨I,e,aO*sz,(ls.take n++new).flatMap g⟩::R⟩ Q) (hne:isMap e=false:=by rfl):OD P C ops (o::l) x Q:=by
 have hlen:(ls.take n++new).length=n+new.length:=(by rw[length_append,length_take];omega)
 rcases Z with ⟨h1,h2,rfl,rfl,rfl⟩|⟨b,rfl,h1,h2,rfl⟩
 ·have U:ls=[]:=length_eq_zero_iff.1 h1;subst U;obtain rfl:n=0:=(by simpa using hn)
  refine fY (hne:=hne) (ls:=([]:List α)) (new:=new) (Sq:=[]) (R:=R) (ad:=none) (cap:=0) hg hg1 hw ho hd ht hi eM dg hs (.inl ⟨rfl,rfl,rfl,rfl,rfl⟩) hp hy hm (by simpa using O) (by simpa using E) ?_;intro I aO q1 q2;exact K I aO (by simpa using q1) q2
 refine bZ hp ?_;refine OD.gm (fun C a w h=>hw C a w (Wk.perm hp.symm C a w h)) (abS (hne:=hne) (kG:=hne) (k:=0) ho hd ht hi eM dg hs rfl rfl (by rw[cz hg];exact Nat.mul_le_mul_right _ hn) hy (sH hg1 new) (by rw[vl hg];exact sH hg1 _) hm O E) ?_;rintro _ ⟨I,aO,q1,q2,rfl⟩;have k:=K I aO (by rw[hlen];exact q1) q2;rw[hlen,flatMap_append,<-vl hg] at k;exact fC (Wk.drop _ _ _ _ (Sublist.cons_cons _ (Sublist.cons _ (Sublist.refl _)))) k
variable {S1 T:List Nat} {fuel i:Nat} {ld:Array Bool}
theorem abF {α:Type} {g:α->List D} {ls new:List α} {s:Operand} {t e:Nat} {z:Value} {R:List ag} (hg:∀a,(g a).length=sz) (hg1:∀a,(g a).all one=true) (O:ops[i]?=some o) (hw:bV ops x o true) (ho:o.op = .call {callee:=.builtin .append,args:=#[s,y],argTypes:=#[t,t]}) (hd:o.dst=some tt)
  (ht:P.underlying t=some (.slice e)) (hi:(P.info? e).map (fun i=>(i.zero,i.size,i.bytes))=some (some z,sz,bytes)) (eM:z.cells.size=sz) (dg:0<sz) (hu:∀w,(underlying t).run P w = .ok (.slice e) w) (U:∀w,(sizeOf e).run P w = .ok sz w)
  (hs:aD x s = .v (.slice ad ls.length cap)) (I:bq e sz (ls.flatMap g) ls.length ad cap Sq) (hp:x.S.Perm (Sq++R))
  (hy:aD x y = .list sz (new.flatMap g) new.length) (Z:ls.length+new.length<=maxLen) (E:(ls.length+new.length)*bytes<=140737488355328)
  (K:∀gL aO S',bq e sz ((ls++new).flatMap g) (ls++new).length gL aO S'->AD P C ops S1 T fuel (ld.setIfInBounds i true) ⟨x.n,(tt,.v (.slice gL (ls++new).length aO))::x.env,S'++R⟩ Q) (hne:isMap e=false:=by rfl)
  (hT:∀b∈T,b∈aj R:=by (intro b hb;simp[aj] at hb |-;try first|exact hb|omega)):gQ P C ops S1 T fuel ld x Q i:=by
 rcases Nat.eq_zero_or_pos new.length with h0|h0
 ·have hn:new=[]:=eq_nil_of_length_eq_zero h0;subst hn;refine QH O hw hd (Qx ho hu U hs I.le hy) ?_;have:=K ad cap Sq (by rw[append_nil];exact I);rw[append_nil] at this;exact gq hp this
 exact qk (hne:=hne) (hT:=hT) hg hg1 O hw ho hd ht hi eM dg hs I hp hy h0 Z E fun b' aO h1 h2=>K _ aO _ (bN h1 h2)
end V
namespace V
open List
open Go.RowKit
variable {P:Program} {C:dJ} {G:List (Nat×List Value)} {Q:Exit->St->Prop} {x:St} {ops:Array Oper} {l:List Oper} {o:Oper} {S1 T:List Nat} {fuel i:Nat} {ld:Array Bool}
variable {L:Nat->Prop} {bs:List UInt8} {n:Nat}
theorem QJ{w w':World}{v:Value}(hr:cq w L (.list 1 (bs.flatMap cB) n) v)(hw:∀b,b<w.heap.size->¬L b->w'.heap[b]?=w.heap[b]?) :
  (Extern.Bytes.bytesOf v).run P w' = .ok ⟨bs.toArray⟩ w':=by
 rw[LU] at hr;generalize dz:bs.map wK=cs at hr;cases hr with
 | ni _ ad cap =>
  have:bs=[]:=(by simpa using dz)
  subst this;cases ad<;>rfl
 | list _ _ _ b I cap g hl q1 q2 hb hL hc O =>
  subst dz;simp only[length_map,Nat.mul_one] at hl hc;have E:=Lib.run_loadBytesX (P:=P) w' (bs.map fun c=>(c.toNat:Int)) ⟨b,I,none⟩ .empty (fun j x hj=>by
   rw[Addr.add_mid];have ja:j<bs.length:=(by have:=(List.getElem?_eq_some_iff.1 hj).1;simpa using this)
   have U:=World.cell?_of_block (w:=w) (a:=⟨b,I+j,none⟩) (hw b hb hL);rw[U,hc j ja];have h1:=O j (by simpa using ja);simp only[getElem_map,wK] at h1;rw[h1.lQ];rw[getElem?_map,getElem?_eq_getElem ja] at hj;simp only[Option.map_some,Option.some.injEq] at hj;rw[hj])
  rw[length_map,hl] at E;have e:Lib.bytesOf (bs.map fun c=>(c.toNat:Int))=bs:=by
   unfold Lib.bytesOf;rw[map_map];have:∀c:UInt8,((fun n:Int=>UInt8.ofNat n.toNat) ∘ fun c:UInt8=>(c.toNat:Int)) c=c:=fun c=>by simp
   rw[map_congr_left (g:=id) (fun c _=>this c),map_id]
  rw[e] at E;show(Extern.Bytes.loadBytes ⟨b,I,none⟩ n .empty).run P w'=_;rw[E];congr 1;apply ByteArray.ext;show(#[]:Array UInt8)++bs.toArray=bs.toArray;simp
theorem abL {f:FuncId} {fn:Func} {y z:Operand} {ts:Array TypeId} {ds:List UInt8} {m:Nat} (ho:o.op = .call {callee:=.value (.func f),args:=#[y,z],argTypes:=ts}) (hy:aD x y = .list 1 (ds.flatMap cB) n) (hz:aD x z = .list 1 (bs.flatMap cB) m)
  (hf : P.funcs[f]? = some fn) (CR : (fn.name == "runtime.NumGoroutine") = false) (hb : fn.body.isNone = true) (hn : Extern.findNext fn = none) (he : Extern.find fn = some Extern.BytealgCompare.compare) :
  bS P G x o .kL (.v (.int .i64 (Lib.compareBytes ds bs))):=fun C a w _ h=>by
 have h1:=h.eval y;have h2:=h.eval z;rw[hy] at h1;rw[hz] at h2;refine⟨_,.v _,fun w' hw=>?_⟩;have e1:=QJ (P:=P) h1 hw;have e2:=QJ (P:=P) h2 hw;have hc:(callFunc f #[a.eval y,a.eval z]).run P w' = .ok (.value (.int .i64 (Lib.compareBytes ds bs))) w':=by
  rw[run_callFunc_extern hf CR hb hn he];have:(Extern.BytealgCompare.compare #[a.eval y,a.eval z]).run P w' = .ok (.int .i64 (Lib.compareBytes ds bs)) w':=by
   change Sem.run P (do pure (goInt (Extern.BytealgCompare.cmp (<-Extern.Bytes.bytesOf (a.eval y)) (<-Extern.Bytes.bytesOf (a.eval z))))) w'=_;simp only[Sem.run_bind,e1,e2,Sem.run_pure,Result.andThen_ok,Lib.cmp_eq];rfl
  rw[this];rfl
 unfold execOp;have ef:a.eval (.func f) = .func (.func f) #[] #[]:=rfl;generalize OT:a.eval y=u at *;generalize vJ:a.eval z=v at *;simp only[ho,resolve,ef,Deferred.ofValue,Sem.run_bind,Sem.run_pure,Result.andThen_ok,invoke];simp[hc,OT,vJ]
theorem Wk.ajl{l:List (Nat×D)}{S:List ag}{k:Nat}{B:ag}{cs':List D}(hk:S[k]?=some B)(hl:cs'.length<=B.size)(hc:∀(i:Nat) (d:D),cs'[i]?=some d->∃d0,B.cs[i]?=some d0/\∀(w:World) (L:Nat->Prop) (v:Value),cq w L d0 v->cq w L d v):Wk ⟨n,l,S⟩ ⟨n,l,S.set k {B with cs:=cs'}⟩:=fun C a w h=>by
 have er:=(List.getElem?_eq_some_iff.1 hk).1;have U:=(List.getElem?_eq_some_iff.1 hk).2;have E:aj (S.set k {B with cs:=cs'})=aj S:=by
  unfold aj;rw[map_set];apply ext_getElem bp;intro i q1 q2;rw[getElem_set];split
  ·rename_i e;subst e;simp[U]
  rfl
 have I:live C.X (S.set k {B with cs:=cs'})=live C.X S:=(by funext b;simp only[live,E])
 refine⟨h.defers,h.size,fun t ht=>?_,⟨fun B' Z=>?_,?_⟩,?_,h.ex,h.eI⟩
 ·simp only[I];exact h.env t ht
 ·simp only[I];obtain⟨j,hj,O⟩:=mem_iff_getElem.1 Z;rw[length_set] at hj;rw[getElem_set] at O;by_cases e:k=j
  ·rw[if_pos e] at O;subst O;obtain⟨r0,cur,r1,r2,r3,r4⟩:=h.own.at_ B (mem_of_getElem? hk);refine⟨r0,cur,r1,r2,hl,fun i hi=>?_⟩;simp only at hi hl;obtain⟨d0,hd,O9⟩:=hc i _ (getElem?_eq_getElem hi);obtain⟨hd1,hd2⟩:=List.getElem?_eq_some_iff.1 hd;obtain⟨u,hu,hq⟩:=r4 i hd1;rw[hd2] at hq;exact⟨u,hu,O9 _ _ _ hq⟩
  rw[if_neg e] at O;subst O;exact h.own.at_ _ (getElem_mem hj)
 ·simp only[E];exact h.own.apart
 simp only[E];exact h.fr
theorem cq.ofNil{w:World}(sz:Nat){v:Value}(h:cq w L (.v (.slice none 0 0)) v):cq w L (.list sz [] 0) v:=by rw[h.lQ];exact .nil sz
theorem Wk.Yr{l:List (Nat×D)}{S:List ag}{k:Nat}{b e:Nat}{sz sz':Nat}(hk:S[k]?=some ⟨b,e,2,[.v (.slice none 0 0),.v (.slice none 0 0)]⟩):Wk ⟨n,l,S⟩ ⟨n,l,S.set k ⟨b,e,2,[.list sz [] 0,.list sz' [] 0]⟩⟩ :=
 Wk.ajl hk bp fun i d hd=>by
  match i,hd with
  | 0,hd=>cases hd;exact⟨_,rfl,fun _ _ _ h=>h.ofNil sz⟩
  | 1,hd=>cases hd;exact⟨_,rfl,fun _ _ _ h=>h.ofNil sz'⟩
  | i+2,hd=>simp at hd
theorem ajm {α:Type} {g:α->List D} {t e:TypeId} {sz l' h':Nat} {lo hi:Option Operand} (hg:∀a,(g a).length=sz) {ls:List α} (ff:lo=none->l'=0) (eJ:hi=none->h'=ls.length)
  (E:∀w,(underlying t).run P w = .ok (.slice e) w) (hs:∀w,(sizeOf e).run P w = .ok sz w) (h1:l'<=h') (h2:h'<=ls.length):Rs P G t lo hi l' h' (.list sz (ls.flatMap g) ls.length) (.list sz (((ls.take h').drop l').flatMap g) ((ls.take h').drop l').length):=by
 have h:=ph (P:=P) (G:=G) (sz:=sz) (cs:=ls.flatMap g) ff eJ E hs h1 h2;rw[wm hg,vl hg,<-drop_take] at h;rw[show((ls.take h').drop l').length=h'-l' by rw[length_drop,length_take];omega];exact h
theorem VC.args{f:FuncId}{cs bs:List D}{S:List ag}{post:D->List ag->Prop}(h:VC P G f cs S post)(hl:bs.length=cs.length)(hr:∀(w:World) (L:Nat->Prop) (i:Nat) (h1:i<cs.length) (h2:i<bs.length) (v:Value),cq w L bs[i] v->cq w L cs[i] v):VC P G f bs S post:=fun X w vs hp=>by
 refine h X w vs ⟨hp.ex,hp.eI,hp.own,?_,fun i h1 h2=>?_⟩
 ·rw[hp.args.1,hl]
 exact hr w _ i h1 w4 _ (hp.args.2 i w4 h2)
end V
namespace V
open List
open Go.RowKit
variable {P:Program} {C:dJ} {G:List (Nat×List Value)} {Q:Exit->St->Prop} {ops:Array Oper} {l l2:List Oper} {o:Oper} {n t:Nat} {d:D} {e e' l':List (Nat×D)} {S S':List ag} {ts:List Nat} {c:Bool} {x:St}
variable {al:List Al} {Rw:D->List ag->Prop} {t2 t5 t' sz bytes:Nat} {l5:List Oper} {lr:List (Nat×D)} {α:Type}
theorem PD.sub(h:PD c P G n S ops l e l2 e'):∀o∈l2,o∈l:=by
 induction h with
 | nil=>exact fun o h=>h
 | cons _ _ _ _ _ _ ih=>exact fun o h=>mem_cons_of_mem _ (ih o h)
 | skip _ _ _ _ _ ih=>exact fun o h=>mem_cons_of_mem _ (ih o h)
theorem PD.akQ(hp:j6 ops=true)(h:PD true P G n S ops l e l2 e'){I:List (Nat×D)}(he:∀q,(∀o∈l2,o.dst≠some q)->look q I=look q e'):∀k,ops.toList.drop k=l->∀i,k<=i->i<ops.size->i<ops.size-l2.length->Gd P G n S ops I i:=by
 induction h with
 | @nil l e =>
  intro k hk i h1 h2 h3;have:l.length=ops.size-k:=(by rw[<-hk];simp)
  omega
 | @cons o l l2 t d e e' l' ts hd hr tr hw h k0 ih =>
  intro k hk i h1 h2 h3;have aQ:ops.toList[k]?=some o:=(by rw[<-head?_drop,hk];rfl)
  have rI:ops[k]?=some o:=(by rw[<-Array.getElem?_toList];exact aQ)
  have gY:ops.toList.drop (k+1)=l:=(by rw[<-drop_drop,hk];rfl)
  rcases Nat.eq_or_lt_of_le h1 with rfl|h1
  ·have j5:∀j p,k<j->ops[j]?=some p->p.dst≠some t:=fun j p hj rS fj=>by
    exact Ir
   have aa:∀p∈l,p.dst≠some t:=fun p eP=>by
    exact Ip
   have E:look t I=d:=(by rw[he t fun p hp=>aa p (k0.sub p hp),k0.later aa,eD,if_pos rfl])
   refine⟨o,t,ts,l',rI,hd,by simpa using tr,fun p eP=>?_,hr.keys,.inl ⟨hw,by rw[E];exact h⟩⟩;exact ZS
  exact ih he (k+1) gY i h1 h2 h3
 | @skip o l l2 t e e' l' ts hd hr tr hw k0 ih =>
  intro k hk i h1 h2 h3;have aQ:ops.toList[k]?=some o:=(by rw[<-head?_drop,hk];rfl)
  have rI:ops[k]?=some o:=(by rw[<-Array.getElem?_toList];exact aQ)
  have gY:ops.toList.drop (k+1)=l:=(by rw[<-drop_drop,hk];rfl)
  rcases Nat.eq_or_lt_of_le h1 with rfl|h1
  ·have j5:∀j p,k<j->ops[j]?=some p->p.dst≠some t:=fun j p hj rS fj=>by
    exact Ir
   have aa:∀p∈l,p.dst≠some t:=fun p eP=>by
    exact Ip
   have E:look t I = .v (.tuple #[]):=(by rw[he t fun p hp=>aa p (k0.sub p hp),k0.later aa,eD,if_pos rfl])
   refine⟨o,t,ts,l',rI,hd,by simpa using tr,fun p eP=>?_,hr.keys,.inr ⟨hw,E⟩⟩;exact ZS
  exact ih he (k+1) gY i h1 h2 h3
theorem pm3(A B D':List ag):(A++(B++D')).Perm ((B++A)++D'):=by
 rw[append_assoc];exact(perm_append_comm_assoc A B D')
theorem ahv {eF:List (Nat×D)} {w1:World} {S1:List Nat} {i2 i5:Nat} (hA:∀a∈al,∃oa,ops[a.ia]?=some oa/\oa.dst=some a.ta/\oa.guard=none/\∀S',fh P C.G ⟨n,[],S'⟩ oa [] (ua ⟨n,[],S'⟩ a.ta a.te a.ds)) (hnd:(al.map Al.ta).Nodup)
  (hM:∃o2 uU lM,ops[i2]?=some o2/\o2.dst=some t2/\o2.guard=none/\jx ops o2 uU=true/\(∀p∈lM,p.1∈uU/\look p.1 eF=look p.1 lM)/\lM.map (·.1)=uU/\∀S',fh P C.G ⟨n,lM,S'⟩ o2 [] (fun y=>∃rv E,Rw rv E/\y=⟨n,(t2,rv)::lM,E++S'⟩))
  (hT:∃o5 BE lT,ops[i5]?=some o5/\o5.dst=some t5/\o5.guard=none/\jx ops o5 BE=true/\t2∈BE/\(∀p∈lT,p.1∈BE/\look p.1 eF=look p.1 lT)/\lT.map (·.1)=BE/\∀rv E S',Rw rv E->∃W,fh P C.G ⟨n,(t2,rv)::lT,E++S'⟩ o5 W (fun y=>y=⟨n,(t5,look t5 eF)::(t2,rv)::lT,S'⟩))
  (ht2:t2∉al.map Al.ta) (Eg:t5∉al.map Al.ta) (vN:i2≠i5) (zv:look t2 eF = .bF)
  (hj:∀a∈al,look a.ta eF = .bF) (hp:j6 ops=true) (H:∀i,i<ops.size->i≠i5->Gd P C.G n S ops eF i) (hQ:∀f,Q .normal ⟨n,vB al f++eF,made al f++S⟩):∀(fuel:Nat) (ld:Array Bool) (env:List (Nat×D)) (ob:Nat->Option Nat) (E:List ag) (a:Act) (w:World),
  left ops.size ld<=fuel->bB C ⟨n,env,di al ob++E++S⟩ a w->Fr w1 S1 w (aj (di al ob++E++S))->(∀x∈al,ld.getD x.ia true=true->∃b,ob x.ta=some b/\look x.ta env = .v (.pointer (some ⟨b,0,none⟩)))->(∀x∈al,ld.getD x.ia true=false->ob x.ta=none) ->
   (ld.getD i2 true=true->ld.getD i5 true=false->Rw (look t2 env) E)->(ld.getD i2 true=false\/ld.getD i5 true=true->E=[])->(ld.getD i5 true=true->ld.getD i2 true=true) ->
   (∀q,q∉al.map Al.ta->q≠t2->(∀j o,ops[j]?=some o->o.dst=some q->ld.getD j true=true)->look q env=look q eF)->wpAnyH P .any ops (LQ C Q) (kE w1 S1 []) fuel ld a w:=by
 have G2:∀{j i:Nat} {oj oi:Oper} {q:Nat},ops[j]?=some oj->ops[i]?=some oi->oj.dst=some q->oi.dst=some q->j=i:=fun {j i oj oi q} hj hi hdj hdi=>by
  rcases Nat.lt_trichotomy j i with h|h|h
  ·obtain⟨t',h1,h2⟩:=(rB hp hi).2;rw[hdi] at h1;obtain rfl:=Option.some.inj h1;exact absurd hdj (h2 j oj h hj)
  ·exact h
  obtain⟨t',h1,h2⟩:=(rB hp hj).2;rw[hdj] at h1;obtain rfl:=Option.some.inj h1;exact absurd hdi (h2 i oi h hi)
 obtain⟨o2,uU,lM,gE,hd2,hg2,vO,iu,eR,Pb⟩:=hM;obtain⟨o5,BE,lT,uV,tE,tF,zw,Eh,Pd,zx,Pe⟩:=hT;have ath:t2≠t5:=fun e1=>vN (G2 gE uV hd2 (by rw[e1];exact tE));have Pf:∀x∈al,x.ia≠i2:=fun x hx e1=>by
  obtain⟨oa,h1,h2,_⟩:=hA x hx;rw[e1,gE] at h1;obtain rfl:=Option.some.inj h1;rw[hd2] at h2;exact ht2 (Option.some.inj h2 ▸ mem_map_of_mem hx)
 have Pg:∀x∈al,x.ia≠i5:=fun x hx e1=>by
  obtain⟨oa,h1,h2,_⟩:=hA x hx;rw[e1,uV] at h1;obtain rfl:=Option.some.inj h1;rw[tE] at h2;exact Eg (Option.some.inj h2 ▸ mem_map_of_mem hx)
 have fw:∀(ld:Array Bool) (env:List (Nat×D)) (ob:Nat->Option Nat) (E:List ag) (a:Act) (w:World),bB C ⟨n,env,di al ob++E++S⟩ a w->(∀x∈al,ld.getD x.ia true=true->∃b,ob x.ta=some b/\look x.ta env = .v (.pointer (some ⟨b,0,none⟩)))->(ld.getD i2 true=false\/ld.getD i5 true=true->E=[])->(∀q,q∉al.map Al.ta->q≠t2->(∀j o,ops[j]?=some o->o.dst=some q->ld.getD j true=true)->look q env=look q eF)->(∀j,j<ops.size->ld.getD j true=true)->LQ C Q .normal a w:=fun ld env ob E a w hs hb hR he eL=>by
  have Pj:E=[]:=hR (.inr (eL i5 (Array.getElem?_eq_some_iff.1 uV).1));subst Pj;rw[append_nil] at hs;have pL:∀x∈al,ob x.ta=some ((ob x.ta).getD 0)/\look x.ta env = .v (.pointer (some ⟨(ob x.ta).getD 0,0,none⟩)):=fun x hx=>by
   obtain⟨oa,jC,_⟩:=hA x hx;obtain⟨b,h1,h2⟩:=hb x hx (eL x.ia (Array.getElem?_eq_some_iff.1 jC).1);rw[h1];exact⟨rfl,h2⟩
  have ze:di al ob=made al (fun q=>(ob q).getD 0):=Km fun x hx=>(pL x hx).1;rw[ze] at hs;refine .inl ⟨⟨n,vB al (fun q=>(ob q).getD 0)++eF,made al (fun q=>(ob q).getD 0)++S⟩,⟨hs.defers,hs.size,fun q hq=>?_,hs.own,hs.fr,hs.ex,hs.eI⟩,hQ _⟩;have:=hs.env q hq;rw[JN];by_cases U:q∈al.map Al.ta
  ·rw[if_pos U];obtain⟨x,hx,rfl⟩:=mem_map.1 U;rw[(pL x hx).2] at this;exact this
  rw[if_neg U];by_cases O:q=t2
  ·rw[O,zv];exact .bF _
  rw[he q U O fun j o hj _=>eL j (Array.getElem?_eq_some_iff.1 hj).1] at this;exact this
 intro fuel;induction fuel with
 | zero =>
  intro ld env ob E a w hl hs hf hb jo II BF IJ he;have eL:∀j,j<ops.size->ld.getD j true=true:=fun j hj=>by
   cases hq:ld.getD j true with
   | true=>rfl
   | false=>have:=wq hj hq;omega
  refine⟨?_,fw ld env ob E a w hs hb BF he eL⟩;rw[eq_nil_iff_forall_not_mem];intro j hj;obtain⟨h1,o,h2,_⟩:=mem_ready.1 hj;have:=eL j (Array.getElem?_eq_some_iff.1 h2).1;rw[h1] at this;cases this
 | succ fuel ih =>
  intro ld env ob E a w hl hs hf hb jo II BF IJ he;refine⟨fun h0=>fw ld env ob E a w hs hb BF he (GB hp h0),fun i hi=>?_⟩;obtain⟨jB,o,Z,yK⟩:=mem_ready.1 hi;have aa:=(Array.getElem?_eq_some_iff.1 Z).1;have Ng:=wq aa jB;have ow:∀j,(ld.setIfInBounds i true).getD j true=true↔j=i\/ld.getD j true=true:=fun j=>by
   by_cases hj:j=i
   ·subst hj;have dg:j<ld.size:=by
     rcases Nat.lt_or_ge j ld.size with h|h
     ·exact h
     rw[Array.getD_eq_getD_getElem?,Array.getElem?_eq_none h] at jB;cases jB
    simp[Array.getD_eq_getD_getElem?,Array.getElem?_setIfInBounds,dg]
   simp[Array.getD_eq_getD_getElem?,Array.getElem?_setIfInBounds,hj,Ne.symm hj]
  have Mu:(ld.setIfInBounds i true).getD i true=true:=(ow i).2 (.inl rfl);have I:∀j,j≠i->(ld.setIfInBounds i true).getD j true=ld.getD j true:=fun j hj=>by
   simp[Array.getD_eq_getD_getElem?,Array.getElem?_setIfInBounds,Ne.symm hj]
  have W6:∀e1∈o.after,Region.binds .any e1=true->ld.getD e1.on true=true:=fun e1 mR gw=>by
   have:=yK e1 mR gw;rw[Array.getD_eq_getD_getElem?] at this |-;cases hx:ld[e1.on]? with
   | none=>rfl
   | some b=>rw[hx] at this;exact this
  have jq:∀(ts:List Nat) (l':List (Nat×D)),jx ops o ts=true->(∀p∈l',p.1∈ts/\look p.1 eF=look p.1 l')->l'.map (·.1)=ts->bB C ⟨n,l',di al ob++E++S⟩ a w:=fun ts l' hq lj hk=>⟨hs.defers,hs.size,fun q zi=>by
    by_cases hm:q∈ts
    ·have qX:=hm;rw[<-hk] at qX;obtain⟨p,eP,rfl⟩:=mem_map.1 qX;obtain⟨h2,h3⟩:=lj p eP;have h9:=hs.env p.1 zi;by_cases kZ:p.1∈al.map Al.ta
     ·obtain⟨x,hx,e⟩:=mem_map.1 kZ;rw[<-h3,<-e,hj x hx];exact .bF _
     by_cases mS:p.1=t2
     ·rw[<-h3,mS,zv];exact .bF _
     have:look p.1 env=look p.1 l':=by
      rw[<-h3];refine he p.1 kZ mS fun j oj hj fj=>?_;obtain⟨e1,mR,gw,jh⟩:=wj hq hj fj h2;have:=W6 e1 mR gw;rw[jh] at this;exact this
     rw[this] at h9;exact h9
    have:look q l' = .bF:=by
     rw[<-hk] at hm;exact Ch hm
    rw[this];exact .bF _,hs.own,hs.fr,hs.ex,hs.eI⟩
  by_cases pK:∃x∈al,x.ia=i
  ·obtain⟨x,hx,rfl⟩:=pK;obtain⟨oa,jC,jI,tw,hE⟩:=hA x hx;rw[jC] at Z;obtain rfl:=Option.some.inj Z;have pL:=jo x hx jB;unfold wpOp;rw[jC];have hw:Region.wanted oa (yielded ops a.tmps)=true:=(by simp[Region.wanted,tw])
   simp only[hw,if_true];have mq:bB C ⟨n,[],di al ob++E++S⟩ a w:=⟨hs.defers,hs.size,fun q hq=>.bF _,hs.own,hs.fr,hs.ex,hs.eI⟩
   have h2:=hE (di al ob++E++S) C a w (fun a' w'=>∃b,bB C ⟨n,[(x.ta,.v (.pointer (some ⟨b,0,none⟩)))],⟨b,x.te,x.ds.length,x.ds⟩::(di al ob++E++S)⟩ a' w'/\Fr w (aj (di al ob++E++S)) w' (aj (⟨b,x.te,x.ds.length,x.ds⟩::(di al ob++E++S)))) (LQ C Q) rfl mq (fun y a' w' ⟨b,hy⟩ nu _ nv=>by subst hy;exact⟨b,nu,nv⟩);refine .inl (Oper.wp_mono (fun a' w' h3=>?_) (tW h2));obtain⟨⟨b,h4,h5⟩,v,h6⟩:=h3;rw[jI] at h6;have nT:(⟨b,x.te,x.ds.length,x.ds⟩::(di al ob++E++S)).Perm (di al (lG ob x.ta b)++E++S):=Perm.append_right S (Perm.append_right E (K3 hx hnd pL));have gC:Fr w1 S1 w' (aj (di al (lG ob x.ta b)++E++S)):=Fr.G1 (hf.trans h5) nT;have pJ:=Wk.perm nT C a' w' (bB.CH hs h4 h5 h6);have nZ:x.ta≠t2:=fun e1=>ht2 (e1 ▸ mem_map_of_mem hx);refine⟨⟨fun b h2 h3=>(gC.block b h2 h3).1,fun b h2=>by cases h2⟩,ih _ ((x.ta,.v (.pointer (some ⟨b,0,none⟩)))::env) (lG ob x.ta b) E a' w' w4 pJ gC (fun y hy zy=>?_) (fun y hy zy=>?_) (fun h7 h8=>?_) (fun h7=>?_) (fun h7=>?_) fun q hq O mo=>?_⟩
   ·by_cases zz:y.ta=x.ta
    ·exact⟨b,by unfold lG;rw[if_pos zz],by rw[eD,if_pos zz.symm]⟩
    have tD:y.ia≠x.ia:=fun e=>by
     obtain⟨oy,vM,uT,_⟩:=hA y hy;rw[e,jC] at vM;obtain rfl:=Option.some.inj vM;rw[jI] at uT;exact zz (Option.some.inj uT).symm
    rw[I _ tD] at zy;obtain⟨b',h7,h8⟩:=hb y hy zy;exact⟨b',by unfold lG;rw[if_neg zz];exact h7,by rw[eD,if_neg (fun e=>zz e.symm)];exact h8⟩
   ·by_cases tD:y.ia=x.ia
    ·have:=(ow y.ia).2 (.inl tD);rw[this] at zy;cases zy
    rw[I _ tD] at zy;have zz:y.ta≠x.ta:=fun e=>by
     obtain⟨oy,vM,uT,_⟩:=hA y hy;exact tD (G2 vM jC uT (by rw[e];exact jI))
    unfold lG;rw[if_neg zz];exact jo y hy zy
   ·rw[eD,if_neg nZ];rw[I _ (Pf x hx).symm] at h7;rw[I _ (Pg x hx).symm] at h8;exact II h7 h8
   ·rw[I _ (Pf x hx).symm,I _ (Pg x hx).symm] at h7;exact BF h7
   ·rw[I _ (Pg x hx).symm] at h7;rw[I _ (Pf x hx).symm];exact IJ h7
   rw[eD,if_neg (fun e:x.ta=q=>hq (e ▸ mem_map_of_mem hx))];refine he q hq O fun j oj hj fj=>?_;rcases(ow j).1 (mo j oj hj fj) with rfl|h2
   ·rw[jC] at hj;obtain rfl:=Option.some.inj hj;rw[jI] at fj;exact absurd (Option.some.inj fj ▸ mem_map_of_mem hx) hq
   exact h2
  have uR:∀x∈al,(ld.setIfInBounds i true).getD x.ia true=ld.getD x.ia true:=fun x hx=>I _ fun e=>pK ⟨x,hx,e⟩;have Pm:∀{t:Nat} {d:D},t∉al.map Al.ta->∀x∈al,(ld.setIfInBounds i true).getD x.ia true=true->∃b,ob x.ta=some b/\look x.ta ((t,d)::env) = .v (.pointer (some ⟨b,0,none⟩)):=fun {t d} yN x hx h=>by
   rw[uR x hx] at h;obtain⟨b,h2,h3⟩:=hb x hx h;exact⟨b,h2,by rw[eD,if_neg (fun e:t=x.ta=>yN (by rw[e];exact mem_map_of_mem hx))];exact h3⟩
  have Pn:∀x∈al,(ld.setIfInBounds i true).getD x.ia true=false->ob x.ta=none:=fun x hx h=>jo x hx (by rw[uR x hx] at h;exact h);by_cases Po:i=i2
  ·subst Po;rw[gE] at Z;obtain rfl:=Option.some.inj Z;have Pj:=BF (.inl jB);subst Pj;have mq:=jq uU lM vO iu eR;rw[append_nil] at mq hs hf;unfold wpOp;rw[gE];have hw:Region.wanted o2 (yielded ops a.tmps)=true:=(by simp[Region.wanted,hg2])
   simp only[hw,if_true];have h2:=Pb (di al ob++S) C a w (fun a' w'=>∃rv E,Rw rv E/\bB C ⟨n,(t2,rv)::lM,E++(di al ob++S)⟩ a' w'/\Fr w (aj (di al ob++S)) w' (aj (E++(di al ob++S)))) (LQ C Q) rfl mq (fun y a' w' ⟨rv,E,zA,hy⟩ nu _ nv=>by subst hy;exact⟨rv,E,zA,nu,nv⟩);refine .inl (Oper.wp_mono (fun a' w' h3=>?_) (tW h2));obtain⟨⟨rv,E,zA,h4,h5⟩,v,h6⟩:=h3;rw[hd2] at h6;have nT:=pm3 E (di al ob) S;have gC:Fr w1 S1 w' (aj (di al ob++E++S)):=Fr.G1 (hf.trans h5) nT;have pJ:=Wk.perm nT C a' w' (bB.CH hs h4 h5 h6);have h5f:ld.getD i5 true=false:=by
    cases hx:ld.getD i5 true with
    | false=>rfl
    | true=>have:=IJ hx;rw[jB] at this;cases this
   refine⟨⟨fun b h2 h3=>(gC.block b h2 h3).1,fun b h2=>by cases h2⟩,ih _ ((t2,rv)::env) ob E a' w' w4 pJ gC (Pm ht2) Pn (fun h7 h8=>?_) (fun h7=>?_) (fun h7=>Mu) fun q hq O mo=>?_⟩
   ·rw[eD,if_pos rfl];exact zA
   ·rw[Mu,I _ vN.symm,h5f] at h7;rcases h7 with h7|h7<;>cases h7
   rw[eD,if_neg (fun e1:t2=q=>O e1.symm)];refine he q hq O fun j oj hj fj=>?_;rcases(ow j).1 (mo j oj hj fj) with rfl|h2
   ·rw[gE] at hj;obtain rfl:=Option.some.inj hj;rw[hd2] at fj;exact absurd (Option.some.inj fj).symm O
   exact h2
  by_cases Pp:i=i5
  ·subst Pp;rw[uV] at Z;obtain rfl:=Option.some.inj Z;have h2t:ld.getD i2 true=true:=by
    obtain⟨e1,mR,gw,jh⟩:=wj zw gE hd2 Eh;have:=W6 e1 mR gw;rw[jh] at this;exact this
   have zA:=II h2t jB;have mq:=jq BE lT zw Pd zx;have nT:=(pm3 E (di al ob) S).symm;have hs3:=Wk.perm nT C a w hs;have hs5:bB C ⟨n,(t2,look t2 env)::lT,E++(di al ob++S)⟩ a w:=Wk.perm nT C a w ⟨hs.defers,hs.size,fun q hq=>by
    rw[eD];by_cases e1:t2=q
    ·rw[if_pos e1,e1];exact hs.env q hq
    rw[if_neg e1];exact mq.env q hq,hs.own,hs.fr,hs.ex,hs.eI⟩
   obtain⟨W,hE⟩:=Pe (look t2 env) E (di al ob++S) zA;unfold wpOp;rw[uV];have hw:Region.wanted o5 (yielded ops a.tmps)=true:=(by simp[Region.wanted,tF])
   simp only[hw,if_true];have h2:=hE C a w (fun a' w'=>bB C ⟨n,(t5,look t5 eF)::(t2,look t2 env)::lT,di al ob++S⟩ a' w'/\Fr w (aj (E++(di al ob++S))) w' (aj (di al ob++S))) (LQ C Q) rfl hs5 (fun y a' w' hy nu _ nv=>by subst hy;exact⟨nu,nv⟩);refine .inl (Oper.wp_mono (fun a' w' h3=>?_) (tW h2));obtain⟨⟨h4,h5⟩,v,h6⟩:=h3;rw[tE] at h6;have gC:Fr w1 S1 w' (aj (di al ob++[]++S)):=(by rw[append_nil];exact(Fr.G1 hf nT).trans h5)
   have pJ:bB C ⟨n,(t5,look t5 eF)::env,di al ob++[]++S⟩ a' w':=(by rw[append_nil];exact bB.CH hs3 h4 h5 h6)
   refine⟨⟨fun b h2 h3=>(gC.block b h2 h3).1,fun b h2=>by cases h2⟩,ih _ ((t5,look t5 eF)::env) ob [] a' w' w4 pJ gC (Pm Eg) Pn (fun h7 h8=>?_) (fun h7=>rfl) (fun h7=>by rw[I _ vN];exact h2t) fun q hq O mo=>?_⟩
   ·rw[Mu] at h8;cases h8
   rw[eD];by_cases U:t5=q
   ·rw[if_pos U,U]
   rw[if_neg U];refine he q hq O fun j oj hj fj=>?_;rcases(ow j).1 (mo j oj hj fj) with rfl|h2
   ·rw[uV] at hj;obtain rfl:=Option.some.inj hj;rw[tE] at fj;exact absurd (Option.some.inj fj) U
   exact h2
  obtain⟨o',t,ts,l',h1,hd,hq,lj,hk,Ed⟩:=H i aa Pp;rw[Z] at h1;obtain rfl:=Option.some.inj h1;have yN:t∉al.map Al.ta:=fun hm=>by
   obtain⟨x,hx,e⟩:=mem_map.1 hm;obtain⟨oa,jC,jI,_⟩:=hA x hx;exact pK ⟨x,hx,G2 jC Z jI (by rw[hd,e])⟩
  have nq:=jq ts l' hq lj hk;have amu:t≠t2:=fun e1=>Po (G2 Z gE C3 hd2);have iY:∀(a':Act) (w':World),bB C ⟨n,(t,look t eF)::env,di al ob++E++S⟩ a' w'->Fr w (aj (di al ob++E++S)) w' (aj (di al ob++E++S))->kE w1 S1 [] w'/\wpAnyH P .any ops (LQ C Q) (kE w1 S1 []) fuel (ld.setIfInBounds i true) a' w':=fun a' w' nu nv=>by
   have gC:Fr w1 S1 w' (aj (di al ob++E++S)):=hf.trans nv;have e2:=I i2 (fun e=>Po e.symm);have e5:=I i5 (fun e=>Pp e.symm);refine⟨⟨fun b h2 h3=>(gC.block b h2 h3).1,fun b h2=>by cases h2⟩,ih _ _ ob E a' w' w4 nu gC (Pm yN) Pn (fun h7 h8=>?_) (fun h7=>BF (by rw[e2,e5] at h7;exact h7)) (fun h7=>by rw[e5] at h7;rw[e2];exact IJ h7) fun q zq O mo=>?_⟩
   ·rw[e2] at h7;rw[e5] at h8;rw[eD,if_neg amu];exact II h7 h8
   rw[eD];by_cases U:t=q
   ·rw[if_pos U,U]
   rw[if_neg U];refine he q zq O fun j oj hj fj=>?_;rcases(ow j).1 (mo j oj hj fj) with rfl|h2
   ·rw[Z] at hj;obtain rfl:=Option.some.inj hj;rw[hd] at fj;exact absurd (Option.some.inj fj) U
   exact h2
  unfold wpOp;rw[Z];rcases Ed with ⟨hw,Ee⟩|⟨hw,hv⟩
  ·simp only[hw.frame (B:=di al ob++E) C a w nq,if_true];have h2:=Ee.frame (B:=di al ob++E) C a w (fun a' w'=>bB C ⟨n,(t,look t eF)::l',di al ob++E++S⟩ a' w'/\Fr w (aj (di al ob++E++S)) w' (aj (di al ob++E++S))) (LQ C Q) rfl nq (fun y a' w' hy nu _ nv=>by subst hy;exact⟨nu,nv⟩);refine .inl (Oper.wp_mono (fun a' w' h3=>?_) (tW h2));obtain⟨⟨h4,h5⟩,v,h6⟩:=h3;rw[hd] at h6;exact iY a' w' (hs.yo h4 h5 h6) h5
  simp only[hw.frame (B:=di al ob++E) C a w nq,hd];have:=hs.put (t:=t) (.v (w:=w) (L:=live C.X (di al ob++E++S)) undef);rw[hv] at iY;exact iY _ w this (Fr.refl _ _)
theorem Ts(hp:j6 ops=true){i k q:Nat}(hi:ops[i]?=some o)(hd:o.dst=some q)(hk:i<k):∀p∈ops.toList.drop k,p.dst≠some q:=fun p eP E=>by
 obtain⟨j,hj,rfl⟩:=mem_iff_getElem.1 eP;have rS:ops[k+j]?=some (ops.toList.drop k)[j]:=(by rw[<-Array.getElem?_toList,<-getElem?_drop,getElem?_eq_getElem hj])
 obtain⟨t',h3,h4⟩:=(rB hp rS).2;rw[E] at h3;obtain rfl:=Option.some.inj h3;exact h4 i o w4 hi hd
theorem Ru(hp:j6 ops=true){i k q:Nat}(hi:ops[i]?=some o)(hq:jx ops o ts=true)(E:q∈ts)(hk:i<=k):∀p∈ops.toList.drop k,p.dst≠some q:=fun p eP I=>by
 obtain⟨j,hj,rfl⟩:=mem_iff_getElem.1 eP;have rS:ops[k+j]?=some (ops.toList.drop k)[j]:=(by rw[<-Array.getElem?_toList,<-getElem?_drop,getElem?_eq_getElem hj])
 obtain⟨e1,mR,gw,jh⟩:=wj hq rS I E;have:=(rB hp hi).1 e1 mR gw;omega
theorem ajn {id m:Nat} {i2 i5:Nat} {o2 o5:Oper} {e1 lM lT:List (Nat×D)} {uU Z:List Nat} {d5:D} (lF:Region.noSelect l.toArray=true) (mu:NP Q) (hm:P.follows .mixedOrders=true) (hl:m<=l.length) (hq:pY m l.toArray=true) (hp:j6 (l.take m).toArray=true) (hA:∀a∈al,∃oa,(l.take m)[a.ia]?=some oa/\oa.dst=some a.ta/\oa.guard=none/\∀S',fh P C.G ⟨n,[],S'⟩ oa [] (ua ⟨n,[],S'⟩ a.ta a.te a.ds)) (hnd:(al.map Al.ta).Nodup)
  (h1:PD true P C.G n S (l.take m).toArray (l.take m) e (o5::l5) e1) (h2:PD true P C.G n S (l.take m).toArray l5 ((t5,d5)::e1) [] e')
  (gE:(l.take m)[i2]?=some o2) (hd2:o2.dst=some t2) (hg2:o2.guard=none) (vO:jx (l.take m).toArray o2 uU=true) (nW:eW uU e1 lM) (Pb:∀S',fh P C.G ⟨n,lM,S'⟩ o2 [] (fun y=>∃rv RB,Rw rv RB/\y=⟨n,(t2,rv)::lM,RB++S'⟩))
  (uV:(l.take m)[i5]?=some o5) (tE:o5.dst=some t5) (tF:o5.guard=none) (zw:jx (l.take m).toArray o5 Z=true) (Eh:t2∈Z) (Pq:eW Z e1 lT) (Pe:∀rv RB S',Rw rv RB->∃W,fh P C.G ⟨n,(t2,rv)::lT,RB++S'⟩ o5 W (fun y=>y=⟨n,(t5,d5)::(t2,rv)::lT,S'⟩))
  (vN:i2<i5) (gY:(l.take m).drop (i5+1)=l5) (ht2:t2∉al.map Al.ta) (Eg:t5∉al.map Al.ta) (zv:look t2 e1 = .bF)
  (hj:∀a∈al,look a.ta e' = .bF) (K:∀f,OD P C l.toArray (l.drop m) ⟨n,vB al f++e',made al f++S⟩ Q):CD P C (.region id l.toArray true) ⟨n,e,S⟩ Q :=
 Ci m [] lF mu hm hl hq (fun _ hb=>by cases hb) (fun a w hs _ _=>by
  have U:(l.take m).toArray.size=m:=(by simp;omega)
  have xC:PD true P C.G n S (l.take m).toArray (l.take m).toArray.toList e (o5::l5) e1:=(by simpa using h1)
  have O:(l.take m).toArray[i2]?=some o2:=(by simpa using gE)
  have E:(l.take m).toArray[i5]?=some o5:=(by simpa using uV)
  have Nn:(l.take m).toArray.toList.drop (i5+1)=l5:=(by simpa using gY)
  have I:(l.take m).toArray.toList.drop i5=o5::l5:=by
   have h5:=(Array.getElem?_eq_some_iff.1 E).1;rw[drop_eq_getElem_cons (by simpa using h5),Nn];congr 1;have:=(Array.getElem?_eq_some_iff.1 E).2;simpa using this
  have hlen:l5.length+i5+1=m:=by
   have:=congrArg length I;have h5:=(Array.getElem?_eq_some_iff.1 E).1;rw[length_drop] at this;simp only[length_cons,Array.length_toList] at this;rw[U] at h5;rw[show(l.take m).length=m by simp;omega] at this;omega
  have he:∀q,(∀o∈o5::l5,o.dst≠some q)->look q e'=look q e1:=fun q hq=>by
   rw[h2.later fun o ho=>hq o (mem_cons_of_mem _ ho),eD,if_neg (fun e:t5=q=>hq o5 mem_cons_self (by rw[<-e];exact tE))]
  have amv:look t5 e'=d5:=by
   rw[h2.later (by rw[<-Nn];exact Ts hp E tE w4),eD,if_pos rfl]
  have hgA:∀i,i<i5->Gd P C.G n S (l.take m).toArray e' i:=fun i hi=>xC.akQ hp he 0 rfl i (Nat.zero_le _) w4 (by rw[length_cons];omega);have hgB:∀i,i5<i->i<(l.take m).toArray.size->Gd P C.G n S (l.take m).toArray e' i:=fun i hi Bw=>h2.wT hp rfl (i5+1) Nn i hi Bw;have Pr:∀a∈al,∃oa,(l.take m).toArray[a.ia]?=some oa/\oa.dst=some a.ta/\oa.guard=none/\∀S',fh P C.G ⟨n,[],S'⟩ oa [] (ua ⟨n,[],S'⟩ a.ta a.te a.ds):=fun a ha=>by
   obtain⟨oa,h1,h2⟩:=hA a ha;exact⟨oa,by simpa using h1,h2⟩
  have IK:di al (fun _=>none)=[]:=by
   clear hA Pr hnd hj K ht2 Eg;induction al with
   | nil=>rfl
   | cons a al ih=>show bx a.te a.ds none++di al (fun _=>none)=[];rw[ih];rfl
  refine ahv (Q:=Tl P C l.toArray (l.drop m) Q) Pr hnd ⟨o2,uU,lM,O,hd2,hg2,vO,fun p eP=>?_,nW.keys,Pb⟩ ⟨o5,Z,lT,E,tE,tF,zw,Eh,fun p eP=>?_,Pq.keys,fun rv RB S' h=>?_⟩ ht2 Eg (Nat.ne_of_lt vN) ?_ hj hp (fun i hi hne=>?_) K _ _ e (fun _=>none) [] a w ?_ (by rw[IK];exact hs) (by rw[IK];exact Fr.refl _ _) (fun x hx h=>?_) (fun _ _ _=>rfl) (fun h _=>?_) (fun _=>rfl) (fun h=>?_) fun q zq ati mo=>?_
  ·have kZ:p.1∈uU:=(by rw[<-nW.keys];exact mem_map_of_mem eP)
   refine⟨kZ,?_⟩;rw[nW.at kZ];exact he _ (by rw[<-I];exact Ru hp O vO kZ (Nat.le_of_lt vN))
  ·have kZ:p.1∈Z:=(by rw[<-Pq.keys];exact mem_map_of_mem eP)
   refine⟨kZ,?_⟩;rw[Pq.at kZ];exact he _ (by rw[<-I];exact Ru hp E zw kZ (Nat.le_refl _))
  ·rw[amv];exact Pe rv RB S' h
  ·rw[he t2 (by rw[<-I];exact Ts hp O hd2 vN)];exact zv
  ·rcases Nat.lt_or_gt_of_ne hne with h|h
   ·exact hgA i h
   exact hgB i h hi
  ·rw[U];unfold left;exact Nat.le_trans (length_filter_le _ _) bp
  ·obtain⟨oa,amw,_⟩:=Pr x hx;have aa:=(Array.getElem?_eq_some_iff.1 amw).1;rw[U] at aa;simp[Array.getD_eq_getD_getElem?,aa] at h
  ·have aa:=(Array.getElem?_eq_some_iff.1 O).1;rw[U] at aa;simp[Array.getD_eq_getD_getElem?,aa] at h
  ·have aa:=(Array.getElem?_eq_some_iff.1 E).1;rw[U] at aa;simp[Array.getD_eq_getD_getElem?,aa] at h
  have j5:∀o∈(l.take m).toArray.toList,o.dst≠some q:=fun o ho hd=>by
   obtain⟨j,hj,rfl⟩:=mem_iff_getElem.1 ho;have hjs:j<(l.take m).toArray.size:=(by simpa using hj)
   have:=mo j _ Ib hd;rw[U] at hjs;simp[Array.getD_eq_getD_getElem?,hjs] at this
  rw[he q (by rw[<-I];exact fun o ho=>j5 o (mem_of_mem_drop ho)),xC.later j5])
def PS(c:Bool)(P:Program)(G:List (Nat×List Value))(n:Nat)(S:List ag)(ops:Array Oper)(l:List Oper)(e:List (Nat×D))(l2:List Oper)(R:List (Nat×D)->Prop):Prop:=∃e1,PD c P G n S ops l e l2 e1/\R e1
variable {R:List (Nat×D)->Prop}
theorem Yt(K:R e):PS c P G n S ops l e l R:=⟨e,.nil,K⟩
theorem BG{kd:Rd}(K:PS c P G n S ops l ((t,d)::e) l2 R)(hd:o.dst=some t:=by exact rfl)(hr:eW (iF ops o) e lr:=by exact gN)(h:bS P G ⟨n,lr,S⟩ o kd d:=by exact IC)(hq:(!c||jx ops o (iF ops o))=true:=by kernel_rfl)(hw:bV ops ⟨n,lr,S⟩ o true:=by exact oH):PS c P G n S ops (o::l) e l2 R:=by
 obtain⟨e1,h1,h2⟩:=K;exact⟨e1,.cons hd hr hq hw (h.gm hd) h1,h2⟩
theorem Yu {g:α->List D} (ls:List α) {len:Nat} {ps:List (Nat×Operand)} {pd:List D} (K:PS c P G n S ops l ((t,.list sz (ls.flatMap g) ls.length)::e) l2 R) (ho:o.op = .buildSlice t' len ps.toArray:=by exact rfl)
  (hd:o.dst=some t:=by exact rfl) (hr:eW (iF ops o) e lr:=by exact gN) (iv:jK ⟨n,lr,S⟩ ps (cx 0 pd):=by exact Eb) (hs:wU P t' sz=true:=by exact rZ.h) (hq:(!c||jx ops o (iF ops o))=true:=by kernel_rfl) (hw:bV ops ⟨n,lr,S⟩ o true:=by exact oH)
  (hn:Nat.beq pd.length len=true:=by exact rfl) (hl:Nat.ble 1 (len*sz)=true:=by exact rfl) (iu:Nat.ble (len*sz) (2 ^ 24)=true:=by exact rfl) (hj:pd.all kV=true:=by exact rfl) (ha:(pd.all fun d=>Nat.beq (cellsOf d).length sz)=true:=by exact rfl) (hlen:len=ls.length:=by exact rfl) (jA:pd.flatMap cellsOf=ls.flatMap g:=by exact rfl):PS c P G n S ops (o::l) e l2 R:=by
 subst hlen;obtain⟨e1,h1,h2⟩:=K;exact⟨e1,.cons hd hr hq hw (To ho hd hs iv hn hl iu hj ha jA) h1,h2⟩
theorem Yv(h:fh P G ⟨n,lr,S⟩ o [] (fun y=>∃rv E,Rw rv E/\y=⟨n,(t,rv)::lr,E++S⟩))(K:PS c P G n S ops l ((t,.bF)::e) l2 R)(hd:o.dst=some t:=by exact rfl)(hr:eW (iF ops o) e lr:=by exact gN)(hq:(!c||jx ops o (iF ops o))=true:=by kernel_rfl)(hw:bV ops ⟨n,lr,S⟩ o true:=by exact oH):PS c P G n S ops (o::l) e l2 R:=by
 obtain⟨e1,h1,h2⟩:=K;refine⟨e1,.cons hd hr hq hw (fun C a w K Q hG hs hK=>h C a w K Q hG hs fun y a' w' ⟨rv,E,_,hy⟩ I hc hf=>?_) h1,h2⟩;subst hy;have h3:=Wk.drop n ((t,rv)::lr) _ S (List.sublist_append_right E S) C a' w' I;refine hK _ a' w' rfl ⟨h3.defers,h3.size,fun q hq=>?_,h3.own,h3.fr,h3.ex,h3.eI⟩ hc ⟨hf.os,hf.tape,hf.output,hf.size,fun b hb hn=>⟨(hf.block b hb hn).1,hn⟩⟩;have h4:=h3.env q hq;simp only[eD] at h4 |-;by_cases e1:t=q
 ·rw[if_pos e1];exact .bF _
 rw[if_neg e1] at h4 |-;exact h4
def Ei(g:α->List D)(e sz:Nat)(ls:List α)(rv:D)(RB:List ag):Prop:=∃b cap,ls.length<=cap/\cap<=maxLen/\rv = .v (.slice (some ⟨b,0,none⟩) ls.length cap)/\RB=[⟨b,e,cap*sz,ls.flatMap g⟩]
theorem We {g:α->List D} {ls:List α} {s y:Operand} {e tt:Nat} {z:Value} (hg1:∀a,(g a).all one=true) (ho:o.op = .call {callee:=.builtin .append,args:=#[s,y],argTypes:=#[t',t']}) (hd:o.dst=some tt)
  (ht:P.underlying t'=some (.slice e)) (hi:(P.info? e).map (fun i=>(i.zero,i.size,i.bytes))=some (some z,sz,bytes)) (eM:z.cells.size=sz) (dg:0<sz)
  (hs:∀S',aD ⟨n,lr,S'⟩ s = .v (.slice none 0 0)) (hy:∀S',aD ⟨n,lr,S'⟩ y = .list sz (ls.flatMap g) ls.length) (hm:0<ls.length) (I:ls.length<=maxLen) (E:ls.length*bytes<=140737488355328) (hne:isMap e=false) (S':List ag) :
  fh P G ⟨n,lr,S'⟩ o [] (fun y=>∃rv O,Ei g e sz ls rv O/\y=⟨n,(tt,rv)::lr,O++S'⟩):=fun C a w K Q hG h hK =>
 Jg (hne:=hne) ho hd ht hi eM dg (hs S') (hy S') (sH hg1 ls) hm I E C a w K Q hG h fun y a' w' ⟨b,cap,h1,h2,hy⟩ hs hc hf=>by
  subst hy;exact hK _ a' w' ⟨_,_,⟨b,cap,h1,h2,rfl,rfl⟩,rfl⟩ hs hc hf
theorem ajo {g:α->List D} {ls new:List α} {s y:Operand} {e tt:Nat} {z:Value} (hg:∀a,(g a).length=sz) (hg1:∀a,(g a).all one=true) (ho:o.op = .call {callee:=.builtin .append,args:=#[s,y],argTypes:=#[t',t']}) (hd:o.dst=some tt)
  (ht:P.underlying t'=some (.slice e)) (hi:(P.info? e).map (fun i=>(i.zero,i.size,i.bytes))=some (some z,sz,bytes)) (eM:z.cells.size=sz) (dg:0<sz)
  (hs:∀rv S',aD ⟨n,(t2,rv)::lr,S'⟩ s=rv) (hy:∀rv S',aD ⟨n,(t2,rv)::lr,S'⟩ y = .list sz (new.flatMap g) new.length) (hm:0<new.length) (I:ls.length+new.length<=maxLen) (E:(ls.length+new.length)*bytes<=140737488355328) (hne:isMap e=false) (rv:D) (RB S':List ag) (O:Ei g e sz ls rv RB) :
  ∃W,fh P G ⟨n,(t2,rv)::lr,RB++S'⟩ o W (fun y=>y=⟨n,(tt,.list sz ((ls++new).flatMap g) (ls++new).length)::(t2,rv)::lr,S'⟩):=by
 obtain⟨b,cap,h1,h2,rfl,rfl⟩:=O;refine⟨[b],fun C a w K Q hG h hK=>?_⟩;refine Ju (x:=⟨n,(t2,.v (.slice (some ⟨b,0,none⟩) ls.length cap))::lr,[⟨b,e,cap*sz,ls.flatMap g⟩]++S'⟩) (B:=⟨b,e,cap*sz,ls.flatMap g⟩) (k:=0) (hne:=hne) ho hd ht hi eM dg (hs _ _) rfl rfl rfl rfl (cz hg ls) h1 h2 (hy _ _) (sH hg1 new) hm I E C a w K Q hG h fun y a' w' ⟨b',aO,h3,h4,U⟩ Z hc hf=>?_;subst U;have h5:Wk _ _:=Wk.Da (n:=n) (l:=(tt,.v (.slice (some ⟨b',0,none⟩) (ls.length+new.length) aO))::(t2,.v (.slice (some ⟨b,0,none⟩) ls.length cap))::lr) (S:=⟨b',e,aO*sz,ls.flatMap g++new.flatMap g⟩::S') (k:=0) (t:=tt) (m:=ls.length+new.length) (cap:=aO) (sz:=sz) (cs:=ls.flatMap g++new.flatMap g) rfl (by rw[eD,if_pos rfl]) rfl (by rw[length_append,cz hg,cz hg,Nat.add_mul]) h3 h4 hne;have h6:=h5 C a' w' Z;refine hK _ a' w' rfl ?_ hc ⟨hf.os,hf.tape,hf.output,hf.size,fun b hb hn=>⟨(hf.block b hb hn).1,fun hm=>(hf.block b hb hn).2 (mem_cons_of_mem _ hm)⟩⟩;rw[flatMap_append,length_append];refine⟨h6.defers,h6.size,fun q hq=>?_,h6.own,h6.fr,h6.ex,h6.eI⟩;have h7:=h6.env q hq;simp only[eD] at h7 |-;by_cases e1:tt=q
 ·simp only[if_pos e1] at h7 |-;exact h7
 simp only[if_neg e1] at h7 |-;exact h7
theorem dw_ {id ta tb IL:Nat} {te tf:TypeId} {zs zt:List Value} {o2 o5:Oper} {g:α->List D} {ls new:List α} {s2 y2 s5 y5:Operand} {z:Value} (m ia ib i2 i5:Nat) (ts:List Nat) (hg:∀a,(g a).length=sz) (hg1:∀a,(g a).all one=true)
  (ht:P.underlying t'=some (.slice IL)) (hi:(P.info? IL).map (fun i=>(i.zero,i.size,i.bytes))=some (some z,sz,bytes)) (Ps:0<ls.length) (gz:0<new.length) (oY:ls.length+new.length<=maxLen) (I:(ls.length+new.length)*bytes<=140737488355328)
  (h:PS true P C.G n S (l.take m).toArray (l.take m) e (o5::l5) fun e1=>∃lM lT,eW (iF (l.take m).toArray o2) e1 lM/\eW (iF (l.take m).toArray o5) e1 lT/\look t2 e1 = .bF/\(∀S',aD ⟨n,lM,S'⟩ s2 = .v (.slice none 0 0))/\(∀S',aD ⟨n,lM,S'⟩ y2 = .list sz (ls.flatMap g) ls.length)/\(∀rv S',aD ⟨n,(t2,rv)::lT,S'⟩ s5=rv)/\(∀rv S',aD ⟨n,(t2,rv)::lT,S'⟩ y5 = .list sz (new.flatMap g) new.length) /\
   PE true P C.G n S (l.take m).toArray ts l5 ((t5,.list sz ((ls++new).flatMap g) (ls++new).length)::e1) fun l'=>look ta l' = .bF/\look tb l' = .bF/\∀b b',OD P C l.toArray (l.drop m) ⟨n,(ta,.v (.pointer (some ⟨b,0,none⟩)))::(tb,.v (.pointer (some ⟨b',0,none⟩)))::l',⟨b,te,(zs.map D.v).length,zs.map .v⟩::⟨b',tf,(zt.map D.v).length,zt.map .v⟩::S⟩ Q)
  (gE:(l.take m)[i2]?=some o2:=by exact rfl) (n8:o2.op = .call {callee:=.builtin .append,args:=#[s2,y2],argTypes:=#[t',t']}:=by exact rfl) (hd2:o2.dst=some t2:=by exact rfl) (hg2:o2.guard=none:=by exact rfl) (vO:jx (l.take m).toArray o2 (iF (l.take m).toArray o2)=true:=by kernel_rfl)
  (uV:(l.take m)[i5]?=some o5:=by exact rfl) (ho5:o5.op = .call {callee:=.builtin .append,args:=#[s5,y5],argTypes:=#[t',t']}:=by exact rfl) (tE:o5.dst=some t5:=by exact rfl) (tF:o5.guard=none:=by exact rfl) (zw:jx (l.take m).toArray o5 (iF (l.take m).toArray o5)=true:=by kernel_rfl) (Eh:(iF (l.take m).toArray o5).elem t2=true:=by exact rfl) (gY:(l.take m).drop (i5+1)=l5:=by exact rfl) (vN:Nat.blt i2 i5=true:=by exact rfl)
  (eM:z.cells.size=sz:=by exact rfl) (dg:Nat.blt 0 sz=true:=by exact rfl) (hne:isMap IL=false:=by rfl)
  (hm:P.follows .mixedOrders=true:=by kernel_rfl) (hl:Nat.ble m l.length=true:=by kernel_rfl) (hq:pY m l.toArray=true:=by kernel_rfl) (hp:j6 (l.take m).toArray=true:=by kernel_rfl)
  (jI:((l.take m)[ia]?.bind (·.dst))=some ta:=by exact rfl) (hdb:((l.take m)[ib]?.bind (·.dst))=some tb:=by exact rfl) (hea:((l.take m)[ia]?.bind fun o=>match o.op with|.alloc te=>some te|_=>none)=some te:=by exact rfl) (heb:((l.take m)[ib]?.bind fun o=>match o.op with|.alloc te=>some te|_=>none)=some tf:=by exact rfl)
  (hz:rF P te=some zs:=by exact Sb.hz) (vJ:rF P tf=some zt:=by exact Sb.hz) (ha:Aw P (l.take m) ia ta te=true:=by kernel_rfl) (hb:Aw P (l.take m) ib tb tf=true:=by kernel_rfl) (nw:Nat.beq ta tb=false:=by kernel_rfl) (iS:[ta,tb].elem t2=false:=by kernel_rfl) (hn5:[ta,tb].elem t5=false:=by kernel_rfl) (ht1:ts.elem ta=true:=by exact rfl) (By:ts.elem tb=true:=by exact rfl) (lF:Region.noSelect l.toArray=true:=by kernel_rfl) (mu:NP Q:=by exact D8):CD P C (.region id l.toArray true) ⟨n,e,S⟩ Q:=by
 obtain⟨e1,BH,lM,lT,r2,r5,zv,q1,q2,q3,q4,e',l',h1,h2,hj,kM,K⟩:=h;have Z:ta≠tb:=fun e=>by rw[e,Nat.beq_refl] at nw;cases nw
 have O:0<sz:=Nat.lt_of_lt_of_le (Nat.lt_succ_self 0) (Nat.le_of_ble_eq_true dg);refine ajn (al:=[⟨ia,ta,te,zs.map .v⟩,⟨ib,tb,tf,zt.map .v⟩]) (Rw:=Ei g IL sz ls) lF mu hm (Nat.le_of_ble_eq_true hl) hq hp (fun a h=>?_) (by simp[Z]) BH h1 gE hd2 hg2 vO r2 (We hg1 n8 hd2 ht hi eM O q1 q2 Ps w4 (Nat.le_trans (Nat.mul_le_mul_right _ (Nat.le_add_right _ _)) I) hne) uV tE tF zw (mem_of_elem_eq_true Eh) r5 (ajo hg hg1 ho5 tE ht hi eM O q3 q4 gz oY I hne) (Nat.le_of_ble_eq_true vN) gY (fun h=>by have h0:[ta,tb].elem t2=true:=elem_eq_true_of_mem h;rw[h0] at iS;cases iS) (fun h=>by have h0:[ta,tb].elem t5=true:=elem_eq_true_of_mem h;rw[h0] at hn5;cases hn5) zv (fun a h=>?_) fun f=>fC ?_ (K (f ta) (f tb))
 ·rcases mem_cons.1 h with rfl|h
  ·exact FT ha hz
  rw[mem_singleton] at h;subst h;exact FT hb vJ
 ·rcases mem_cons.1 h with rfl|h
  ·show look ta e'=_;rw[<-h2.at (mem_of_elem_eq_true ht1)];exact hj
  rw[mem_singleton] at h;subst h;show look tb e'=_;rw[<-h2.at (mem_of_elem_eq_true By)];exact kM
 intro C a w hs;have E:bB C ⟨n,(ta,.v (.pointer (some ⟨f ta,0,none⟩)))::(tb,.v (.pointer (some ⟨f tb,0,none⟩)))::e',⟨f ta,te,(zs.map D.v).length,zs.map .v⟩::⟨f tb,tf,(zt.map D.v).length,zt.map .v⟩::S⟩ a w:=hs;refine⟨E.defers,E.size,fun q hq=>?_,E.own,E.fr,E.ex,E.eI⟩;have U:=E.env q hq;simp only[eD] at U |-;by_cases e1:ta=q
 ·rw[if_pos e1] at U |-;exact U
 rw[if_neg e1] at U |-;by_cases e2:tb=q
 ·rw[if_pos e2] at U |-;exact U
 rw[if_neg e2] at U |-;rcases h2.kU.look q with h8|h8
 ·rw[h8];exact U
 rw[h8];exact .bF _
end V
namespace V
open List
abbrev ae(x:Int):D:=.v (.int .i64 x)
abbrev da(b:Nat):D:=.v (.pointer (some ⟨b,0,none⟩))
abbrev bW:D:=.v (.slice none 0 0)
abbrev fN:D:=.v (.string ⟨#[]⟩)
abbrev aN(a:Option Addr)(n c:Nat):D:=.v (.slice a n c)
abbrev bg(s:ByteArray):D:=.v (.string s)
abbrev bP(b:Bool):D:=.v (.bool b)
abbrev an{α:Type}(n:Nat)(g:α->List D)(l:List α):D:=.list n (l.flatMap g) l.length
theorem ey:maxLen=9223372036854775807:=rfl
open Go.RowKit V
instance ik3:Ik Tryz.prog 3 .i64:=⟨by kernel_rfl⟩
instance atj:Sl Tryz.prog 22 14:=⟨by kernel_rfl⟩
instance arY:Fo Tryz.prog 26 0 0:=⟨by kernel_rfl⟩
instance arZ:Fo Tryz.prog 26 1 1:=⟨by kernel_rfl⟩
instance ar0:Fo Tryz.prog 26 2 2:=⟨by kernel_rfl⟩
instance ar1:Fo Tryz.prog 26 3 3:=⟨by kernel_rfl⟩
instance atk:Sz Tryz.prog 26 4:=⟨by kernel_rfl⟩
instance atl:Sb Tryz.prog 26 [.int .i64 0,.int .i64 0,.string ⟨#[]⟩,.slice none 0 0] [(0,1),(1,1),(2,1),(3,1)]:=⟨by kernel_rfl,by kernel_rfl⟩
instance ar2:Fo Tryz.prog 28 0 0:=⟨by kernel_rfl⟩
instance ar3:Fo Tryz.prog 28 1 1:=⟨by kernel_rfl⟩
instance ar4:Fo Tryz.prog 28 2 2:=⟨by kernel_rfl⟩
instance ar5:Fo Tryz.prog 28 3 3:=⟨by kernel_rfl⟩
instance ar6:Fo Tryz.prog 28 4 4:=⟨by kernel_rfl⟩
instance ar7:Fo Tryz.prog 28 5 5:=⟨by kernel_rfl⟩
instance ar8:Fo Tryz.prog 28 6 9:=⟨by kernel_rfl⟩
instance ar9:Fo Tryz.prog 28 7 13:=⟨by kernel_rfl⟩
instance atm:Sz Tryz.prog 28 14:=⟨by kernel_rfl⟩
instance atn:Sb Tryz.prog 28 [.int .i64 0,.int .i64 0,.int .i64 0,.int .i64 0,.slice none 0 0,.int .i64 0,.int .i64 0,.string ⟨#[]⟩,.slice none 0 0,.int .i64 0,.int .i64 0,.string ⟨#[]⟩,.slice none 0 0,.bool false] [(0,1),(1,1),(2,1),(3,1),(4,1),(5,4),(9,4),(13,1)]:=⟨by kernel_rfl,by kernel_rfl⟩
instance ato:Sl Tryz.prog 29 5:=⟨by kernel_rfl⟩
instance asM:rZ Tryz.prog 29 5:=⟨by kernel_rfl⟩
instance asa:Fo Tryz.prog 31 0 0:=⟨by kernel_rfl⟩
instance atp:Sz Tryz.prog 31 1:=⟨by kernel_rfl⟩
instance atq:Sb Tryz.prog 31 [.slice none 0 0] [(0,1)]:=⟨by kernel_rfl,by kernel_rfl⟩
instance atr:Sl Tryz.prog 33 1:=⟨by kernel_rfl⟩
instance asb:Fo Tryz.prog 35 0 0:=⟨by kernel_rfl⟩
instance asc:Fo Tryz.prog 35 1 1:=⟨by kernel_rfl⟩
instance att:Sz Tryz.prog 35 2:=⟨by kernel_rfl⟩
instance atu:Sb Tryz.prog 35 [.slice none 0 0,.int .i64 0] [(0,1),(1,1)]:=⟨by kernel_rfl,by kernel_rfl⟩
instance atv:Sl Tryz.prog 39 2:=⟨by kernel_rfl⟩
instance atw:Sl Tryz.prog 40 3:=⟨by kernel_rfl⟩
instance asN:rZ Tryz.prog 40 3:=⟨by kernel_rfl⟩
instance atx:Sl Tryz.prog 41 1:=⟨by kernel_rfl⟩
instance asO:rZ Tryz.prog 41 1:=⟨by kernel_rfl⟩
instance aty:Sl Tryz.prog 42 5:=⟨by kernel_rfl⟩
instance asP:rZ Tryz.prog 42 5:=⟨by kernel_rfl⟩
instance asd:Fo Tryz.prog 44 0 0:=⟨by kernel_rfl⟩
instance ase:Fo Tryz.prog 44 1 1:=⟨by kernel_rfl⟩
instance asf:Fo Tryz.prog 44 2 2:=⟨by kernel_rfl⟩
instance asg:Fo Tryz.prog 44 3 3:=⟨by kernel_rfl⟩
instance ash:Fo Tryz.prog 44 4 4:=⟨by kernel_rfl⟩
instance asi:Fo Tryz.prog 44 5 5:=⟨by kernel_rfl⟩
instance asj:Fo Tryz.prog 44 6 6:=⟨by kernel_rfl⟩
instance asl:Fo Tryz.prog 44 7 7:=⟨by kernel_rfl⟩
instance asm:Fo Tryz.prog 44 8 8:=⟨by kernel_rfl⟩
instance asn:Fo Tryz.prog 44 9 9:=⟨by kernel_rfl⟩
instance arE:Fo Tryz.prog 44 10 10:=⟨by kernel_rfl⟩
instance arF:Fo Tryz.prog 44 11 11:=⟨by kernel_rfl⟩
instance atz:Sz Tryz.prog 44 12:=⟨by kernel_rfl⟩
instance atA:Sb Tryz.prog 44 [.int .i64 0,.string ⟨#[]⟩,.slice none 0 0,.slice none 0 0,.slice none 0 0,.bool false,.slice none 0 0,.string ⟨#[]⟩,.bool false,.int .i64 0,.string ⟨#[]⟩,.slice none 0 0] [(0,1),(1,1),(2,1),(3,1),(4,1),(5,1),(6,1),(7,1),(8,1),(9,1),(10,1),(11,1)]:=⟨by kernel_rfl,by kernel_rfl⟩
instance aso:Fo Tryz.prog 56 0 0:=⟨by kernel_rfl⟩
instance asp:Fo Tryz.prog 56 1 1:=⟨by kernel_rfl⟩
instance asq:Fo Tryz.prog 56 2 2:=⟨by kernel_rfl⟩
instance atB:Sz Tryz.prog 56 3:=⟨by kernel_rfl⟩
instance atC:Sb Tryz.prog 56 [.int .i64 0,.int .i64 0,.string ⟨#[]⟩] [(0,1),(1,1),(2,1)]:=⟨by kernel_rfl,by kernel_rfl⟩
instance asr:Fo Tryz.prog 58 0 0:=⟨by kernel_rfl⟩
instance ass:Fo Tryz.prog 58 1 1:=⟨by kernel_rfl⟩
instance ast:Fo Tryz.prog 58 2 4:=⟨by kernel_rfl⟩
instance atD:Sz Tryz.prog 58 5:=⟨by kernel_rfl⟩
instance atE:Sb Tryz.prog 58 [.int .i64 0,.int .i64 0,.int .i64 0,.string ⟨#[]⟩,.string ⟨#[]⟩] [(0,1),(1,3),(4,1)]:=⟨by kernel_rfl,by kernel_rfl⟩
instance atG:Sl Tryz.prog 61 1:=⟨by kernel_rfl⟩
instance asQ:rZ Tryz.prog 61 1:=⟨by kernel_rfl⟩
instance atH:Sl Tryz.prog 64 5:=⟨by kernel_rfl⟩
instance asu:Fo Tryz.prog 66 0 0:=⟨by kernel_rfl⟩
instance asv:Fo Tryz.prog 66 1 1:=⟨by kernel_rfl⟩
instance atI:Sz Tryz.prog 66 2:=⟨by kernel_rfl⟩
instance atJ:Sb Tryz.prog 66 [.slice none 0 0,.int .i64 0] [(0,1),(1,1)]:=⟨by kernel_rfl,by kernel_rfl⟩
instance asw:Fo Tryz.prog 68 0 0:=⟨by kernel_rfl⟩
instance asx:Fo Tryz.prog 68 1 1:=⟨by kernel_rfl⟩
instance asy:Fo Tryz.prog 68 2 2:=⟨by kernel_rfl⟩
instance asz:Fo Tryz.prog 68 3 3:=⟨by kernel_rfl⟩
instance atK:Sz Tryz.prog 68 5:=⟨by kernel_rfl⟩
instance atL:Sb Tryz.prog 68 [.string ⟨#[]⟩,.slice none 0 0,.slice none 0 0,.slice none 0 0,.int .i64 0] [(0,1),(1,1),(2,1),(3,2)]:=⟨by kernel_rfl,by kernel_rfl⟩
instance atM:Sl Tryz.prog 83 2:=⟨by kernel_rfl⟩
instance asA:Fo Tryz.prog 88 1 1:=⟨by kernel_rfl⟩
instance atN:Sz Tryz.prog 88 2:=⟨by kernel_rfl⟩
instance asB:Fo Tryz.prog 93 0 0:=⟨by kernel_rfl⟩
instance asC:Fo Tryz.prog 93 1 1:=⟨by kernel_rfl⟩
instance atO:Sz Tryz.prog 93 2:=⟨by kernel_rfl⟩
instance atP:Sb Tryz.prog 93 [.string ⟨#[]⟩,.int .i64 0] [(0,1),(1,1)]:=⟨by kernel_rfl,by kernel_rfl⟩
instance asD:rZ Tryz.prog 101 3:=⟨by kernel_rfl⟩
instance arG:Fo Tryz.prog 109 0 0:=⟨by kernel_rfl⟩
instance arH:Fo Tryz.prog 109 1 1:=⟨by kernel_rfl⟩
instance arI:Fo Tryz.prog 109 2 2:=⟨by kernel_rfl⟩
instance asR:Sz Tryz.prog 109 3:=⟨by kernel_rfl⟩
instance asT:Sb Tryz.prog 109 [.int .i64 0,.int .i64 0,.string ⟨#[]⟩] [(0,1),(1,1),(2,1)]:=⟨by kernel_rfl,by kernel_rfl⟩
instance asU:Sl Tryz.prog 127 1:=⟨by kernel_rfl⟩
instance arJ:Fo Tryz.prog 129 0 0:=⟨by kernel_rfl⟩
instance arK:Fo Tryz.prog 129 1 1:=⟨by kernel_rfl⟩
instance arL:Fo Tryz.prog 129 2 2:=⟨by kernel_rfl⟩
instance arM:Fo Tryz.prog 129 3 3:=⟨by kernel_rfl⟩
instance arN:Fo Tryz.prog 129 4 4:=⟨by kernel_rfl⟩
instance asV:Sz Tryz.prog 129 5:=⟨by kernel_rfl⟩
instance asW:Sb Tryz.prog 129 [.bool false,.slice none 0 0,.slice none 0 0,.slice none 0 0,.int .i64 0] [(0,1),(1,1),(2,1),(3,1),(4,1)]:=⟨by kernel_rfl,by kernel_rfl⟩
instance asX:Sl Tryz.prog 146 1:=⟨by kernel_rfl⟩
instance asE:rZ Tryz.prog 146 1:=⟨by kernel_rfl⟩
instance arO:Fo Tryz.prog 153 0 0:=⟨by kernel_rfl⟩
instance arP:Fo Tryz.prog 153 1 1:=⟨by kernel_rfl⟩
instance arQ:Fo Tryz.prog 153 2 2:=⟨by kernel_rfl⟩
instance asY:Sz Tryz.prog 153 3:=⟨by kernel_rfl⟩
instance asZ:Sb Tryz.prog 153 [.int .i64 0,.string ⟨#[]⟩,.int .i64 0] [(0,1),(1,1),(2,1)]:=⟨by kernel_rfl,by kernel_rfl⟩
instance as0:Sl Tryz.prog 166 1:=⟨by kernel_rfl⟩
instance arR:Fo Tryz.prog 168 0 0:=⟨by kernel_rfl⟩
instance arS:Fo Tryz.prog 168 1 2:=⟨by kernel_rfl⟩
instance arT:Fo Tryz.prog 168 2 3:=⟨by kernel_rfl⟩
instance as1:Sz Tryz.prog 168 4:=⟨by kernel_rfl⟩
instance as2:Sb Tryz.prog 168 [.slice none 0 0,.int .i64 0,.map none,.slice none 0 0] [(0,2),(2,1),(3,1)]:=⟨by kernel_rfl,by kernel_rfl⟩
instance as3:Ik Tryz.prog 189 .u64:=⟨by kernel_rfl⟩
instance as4:Sz Tryz.prog 204 0:=⟨by kernel_rfl⟩
instance as5:Sb Tryz.prog 204 [] []:=⟨by kernel_rfl,by kernel_rfl⟩
instance arU:Fo Tryz.prog 215 0 0:=⟨by kernel_rfl⟩
instance arV:Fo Tryz.prog 215 1 1:=⟨by kernel_rfl⟩
instance as6:Sz Tryz.prog 215 2:=⟨by kernel_rfl⟩
instance as7:Sb Tryz.prog 215 [.slice none 0 0,.slice none 0 0] [(0,1),(1,1)]:=⟨by kernel_rfl,by kernel_rfl⟩
end V
end Go.Proofs.YtbplamgacibdaaaGreatDoor
