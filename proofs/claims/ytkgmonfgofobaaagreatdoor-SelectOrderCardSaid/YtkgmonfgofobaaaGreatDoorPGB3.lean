/-
  GB: walks and plain facts, part 3.
-/
import Derived.Test.YtkgmonfgofobaaaGreatDoorPGB2
set_option linter.unusedVariables false
set_option linter.unusedSimpArgs false
set_option maxRecDepth 100000
set_option maxHeartbeats 4000000
namespace Go.Proofs.YtkgmonfgofobaaaGreatDoor.V
open List
open Go.RowKit
variable {P:Program} {C:dx} {G:List (Nat×List Value)} {Q:Exit→St→Prop} {x:St} {ops:Array Oper} {l l2:List Oper} {o:Oper} {n t:Nat} {d:D} {e e' l':List (Nat×D)} {S:List ah} {ts:List Nat} {kd:Rd} {c:Bool}
variable {zs:List Value} {pl lr:List (Nat×D)} {k sz t' id:Nat} {ds:List D} {d0:D} {y fo:Operand} {ps:List (Nat×Operand)} {cG:Array Operand} {tt:Array TypeId} {p q:Prop} {fn:Func} {post:D→List ah→Prop} {b:Bool} {S':List ah}
class Fo (P:Program) (s i:Nat) (off:outParam Nat):Prop where h:C2 P s i off=true
class Sl (P:Program) (t:Nat) (sz:outParam Nat):Prop where h:C3 P t sz=true
class Sz (P:Program) (t:Nat) (sz:outParam Nat):Prop where h:q9 P t sz=true
def sG(P:Program)(t:Nat):Option (List Value):=(P.info? t).bind fun i=>i.zero.map fun z=>z.cells.toList
theorem Bx(h:sG P t=some zs):∃z,(∀w,(zeroValue t).run P w = .ok z w)∧z.cells.toList=zs:=by
 unfold sG at h;cases hi:P.info? t with
 | none=>rw[hi] at h;cases h
 | some i =>
  rw[hi,Option.bind_some] at h;cases hz:i.zero with
  | none=>rw[hz] at h;cases h
  | some z =>
   rw[hz,Option.map_some] at h;refine⟨z,fun w=>?_,Option.some.inj h⟩;unfold zeroValue typeInfo;simp[hi,hz]
def Fe(P:Program)(t:Nat):Option (List (Nat×Option Nat)):=(P.underlying t).bind fun d=>match d with
 | .struct fs=>some (fs.toList.map fun f=>(f.offset,(P.info? f.type).map (·.size)))
 | _=>none
theorem aa8{pl:List (Nat×Nat)}(h:Fe P t=some (pl.map fun p=>(p.1,some p.2))):∃E,(∀w,(underlying t).run P w = .ok (.struct E) w)∧∀w,(E.mapM fun f=>do pure (f.offset,←sizeOf f.type):Sem (Array (Nat×Nat))).run P w = .ok pl.toArray w:=by
 unfold Fe at h;cases hu:P.underlying t with
 | none=>rw[hu] at h;cases h
 | some d =>
  rw[hu,Option.bind_some] at h;split at h
  ·rename_i E;refine⟨E,run_underlying hu,fun w=>?_⟩;have h:=Option.some.inj h;rw[←Array.toArray_toList (xs:=E),mapM_toArray];have key:∀(l:List Field) (pl:List (Nat×Nat)),l.map (fun f=>(f.offset,(P.info? f.type).map (·.size)))=pl.map (fun p=>(p.1,some p.2))→(l.mapM fun f=>do pure (f.offset,←sizeOf f.type):Sem (List (Nat×Nat))).run P w = .ok pl w:=by
    intro l;induction l with
    | nil=>intro pl h;cases pl with
     | nil=>rfl
     | cons _ _=>cases h
    | cons f r ih =>
     intro pl h;cases pl with
     | nil=>cases h
     | cons p q =>
      rw[map_cons,map_cons,List.cons.injEq,Prod.mk.injEq] at h;obtain⟨⟨h1,h2⟩,h3⟩:=h;have h4:∀w,(sizeOf f.type).run P w = .ok p.2 w:=by
       cases hi:P.info? f.type with
       | none=>rw[hi] at h2;cases h2
       | some i=>exact lT (by unfold q9;rw[hi] at h2 ⊢;simp at h2;simp[h2])
      rw[mapM_cons];simp only[Sem.run_bind,Sem.run_pure,h4,Result.andThen_ok,ih q h3,h1]
   have:=key E.toList pl h;simp only[map_eq_pure_bind,Sem.run_bind,this,Result.andThen_ok,Sem.run_pure]
  cases h
class Sb (P:Program) (t:Nat) (zs:outParam (List Value)) (pl:outParam (List (Nat×Nat))):Prop where
  hz:sG P t=some zs
  hp:Fe P t=some (pl.map fun p=>(p.1,some p.2))
inductive mF:Nat→List D→List D→Prop
  | z {l:List D}:mF 0 l []
  | s {k:Nat} {a:D} {l l':List D} (h:mF k l l'):mF (k+1) (a::l) (a::l')
inductive qp:Nat→List D→List D→Prop
 | z {l:List D}:qp 0 l l
 | s {k:Nat} {a:D} {l l':List D} (h:qp k l l'):qp (k+1) (a::l) l'
theorem mF.eq{l l':List D}(h:mF k l l'):l.take k=l'∧l'.length=k:=by
 induction h with
 | z=>exact⟨rfl,rfl⟩
 | s h ih=>exact⟨by rw[take_succ_cons,ih.1],by rw[length_cons,ih.2]⟩
theorem mF.whole{l l':List D}(h:mF k l l')(hl:Nat.beq l.length k=true):l=l':=by
 have:=h.eq.1;rwa [take_of_length_le (Nat.le_of_eq (Nat.eq_of_beq_eq_true hl))] at this
theorem qp.eq{l l':List D}(h:qp k l l'):l.drop k=l':=by
 induction h with
 | z=>rfl
 | s h ih=>rw[drop_succ_cons,ih]
inductive LB (S:List ah) (sz:Nat):D→Rd→List D→Prop
 | b (k:Nat) {b o':Nat} {B:ah} {ds m:List D} (hk:S[k]?=some B) (hb:B.b=b) (hm:qp o' B.cs m) (hd:mF sz m ds) (hne:isMap B.e=false):LB S sz (.v (.pointer (some ⟨b,o',none⟩))) (.fG k) ds
 | m {α:Type} {g:α→List D} {i:Nat} {ls:List α} (hg:∀a,(g a).length=sz) (hi:i<ls.length):LB S sz (.fJ (ls.flatMap g) (i*sz)) .j8 (g ls[i])
 | r (k:Nat) {α:Type} {g:α→List D} {b i:Nat} {B:ah} {ls:List α} (hg:∀a,(g a).length=sz) (hk:S[k]?=some B) (hb:B.b=b) (de:B.cs=ls.flatMap g) (hi:i<ls.length) (hne:isMap B.e=false):LB S sz (.v (.pointer (some ⟨b,0+i*sz,none⟩))) (.fG k) (g ls[i])
 | i {o':Nat} {cs ds m:List D} (hm:qp o' cs m) (hd:mF sz m ds):LB S sz (.fJ cs o') .j8 ds
theorem LB.still(h:LB x.S sz d0 kd ds)(ho:o.op = .load t y)(hy:aE x y=d0)(ha:rf P t true=true)(hn:q9 P t sz=true):bU P G x o kd (.agg ds):=by
 cases h with
 | b k hk hb hm hd hne=>exact A3 (hne:=hne) ho hy hk hb (iM ha) (lT hn) hd.eq.2 (by rw[hm.eq];exact hd.eq.1)
 | m hg hi=>exact H8 ho hy (iM ha) (lT hn) (hg _) (F0 hg hi)
 | r k hg hk hb de hi hne=>exact dy (hne:=hne) hg hk hb de (iM ha) (lT hn) hi x o y ho hy rfl
 | i hm hd=>exact H8 ho hy (iM ha) (lT hn) hd.eq.2 (by rw[hm.eq];exact hd.eq.1)
theorem nv{l l':List D}(h:mF k l l':=by repeat (first|exact mF.z|apply mF.s)):mF k l l':=h
theorem qK{l l':List D}(h:qp k l l':=by repeat (first|exact qp.z|apply qp.s)):qp k l l':=h
theorem fb_{s:TypeId}{i off:Nat}{d d':D}(ho:o.op = .fieldAddr s y i:=by exact rfl)(hy:aE x y=d:=by first|exact ot|exact wg)(hc:C2 P s i off=true:=by exact Fo.h)(h:FA off d d':=by first|exact .p|exact .i):bU P G x o .none d':=dF off ho hy hc h
theorem lc_ (ho:o.op = .load t y:=by exact rfl) (hy:aE x y=d0:=by exact ot) (hn:q9 P t sz=true:=by exact Sz.h) (ha:rf P t true=true:=by kernel_rfl)
  (h:LB x.S sz d0 kd ds:=by first|(apply LB.b 0;exact rfl;exact rfl;(focus exact qK);(focus exact nv);exact rfl)|(apply LB.b 1;exact rfl;exact rfl;(focus exact qK);(focus exact nv);exact rfl)|(apply LB.b 2;exact rfl;exact rfl;(focus exact qK);(focus exact nv);exact rfl)|(apply LB.b 3;exact rfl;exact rfl;(focus exact qK);(focus exact nv);exact rfl)|(apply LB.b 4;exact rfl;exact rfl;(focus exact qK);(focus exact nv);exact rfl)|(apply LB.b 5;exact rfl;exact rfl;(focus exact qK);(focus exact nv);exact rfl)|(apply LB.b 6;exact rfl;exact rfl;(focus exact qK);(focus exact nv);exact rfl)|(apply LB.b 7;exact rfl;exact rfl;(focus exact qK);(focus exact nv);exact rfl)|(apply LB.b 8;exact rfl;exact rfl;(focus exact qK);(focus exact nv);exact rfl)|(apply LB.b 9;exact rfl;exact rfl;(focus exact qK);(focus exact nv);exact rfl)|(apply LB.m;(focus exact fun _=>rfl);(focus first|assumption|omega|fail))|(apply LB.i;(focus exact qK);(focus exact nv))|(apply LB.r 0;(focus exact fun _=>rfl);exact rfl;exact rfl;exact rfl;exact rfl;(focus first|assumption|omega|fail))|(apply LB.r 1;(focus exact fun _=>rfl);exact rfl;exact rfl;exact rfl;exact rfl;(focus first|assumption|omega|fail))|(apply LB.r 2;(focus exact fun _=>rfl);exact rfl;exact rfl;exact rfl;exact rfl;(focus first|assumption|omega|fail))|(apply LB.r 3;(focus exact fun _=>rfl);exact rfl;exact rfl;exact rfl;exact rfl;(focus first|assumption|omega|fail))|fail):bU P G x o kd (.agg ds):=h.still ho hy ha hn
theorem ajo {d:D} (ho:o.op = .load t y:=by exact rfl) (hy:aE x y=d0:=by exact ot) (ha:rf P t false=true:=by kernel_rfl)
  (h:LD x.S d0 kd d:=by first|(apply LD.b 0;exact rfl;exact rfl;exact rfl;exact rfl)|(apply LD.b 1;exact rfl;exact rfl;exact rfl;exact rfl)|(apply LD.b 2;exact rfl;exact rfl;exact rfl;exact rfl)|(apply LD.b 3;exact rfl;exact rfl;exact rfl;exact rfl)|(apply LD.b 4;exact rfl;exact rfl;exact rfl;exact rfl)|(apply LD.b 5;exact rfl;exact rfl;exact rfl;exact rfl)|(apply LD.b 6;exact rfl;exact rfl;exact rfl;exact rfl)|(apply LD.b 7;exact rfl;exact rfl;exact rfl;exact rfl)|(apply LD.b 8;exact rfl;exact rfl;exact rfl;exact rfl)|(apply LD.b 9;exact rfl;exact rfl;exact rfl;exact rfl)|(apply LD.m;(focus exact fun _=>rfl);exact rfl;(focus first|assumption|omega|fail))|(apply LD.m0;(focus exact fun _=>rfl);exact rfl;(focus first|assumption|omega|fail))|(apply LD.i;exact rfl)|(apply LD.r 0;(focus exact fun _=>rfl);exact rfl;exact rfl;exact rfl;exact rfl;exact rfl;(focus first|assumption|omega|fail))|(apply LD.r0 0;(focus exact fun _=>rfl);exact rfl;exact rfl;exact rfl;exact rfl;exact rfl;(focus first|assumption|omega|fail))|(apply LD.r 1;(focus exact fun _=>rfl);exact rfl;exact rfl;exact rfl;exact rfl;exact rfl;(focus first|assumption|omega|fail))|(apply LD.r0 1;(focus exact fun _=>rfl);exact rfl;exact rfl;exact rfl;exact rfl;exact rfl;(focus first|assumption|omega|fail))|(apply LD.r 2;(focus exact fun _=>rfl);exact rfl;exact rfl;exact rfl;exact rfl;exact rfl;(focus first|assumption|omega|fail))|(apply LD.r0 2;(focus exact fun _=>rfl);exact rfl;exact rfl;exact rfl;exact rfl;exact rfl;(focus first|assumption|omega|fail))|(apply LD.r 3;(focus exact fun _=>rfl);exact rfl;exact rfl;exact rfl;exact rfl;exact rfl;(focus first|assumption|omega|fail))|(apply LD.r0 3;(focus exact fun _=>rfl);exact rfl;exact rfl;exact rfl;exact rfl;exact rfl;(focus first|assumption|omega|fail))|fail):bU P G x o kd d:=h.still ho hy (iM ha)
theorem ajp {op:BinOp} {t t':TypeId} {z:Operand} {u u' r:Value} (ho:o.op = .binOp op t y z t':=by exact rfl) (hy:aE x y = .v u:=by first|exact ot|exact bP|fail) (hz:aE x z = .v u':=by first|exact ot|exact bP|fail)
  (hb:kR P op t u u' r:=by first|exact SP|exact SL|exact SQ|exact SN|exact SM|exact SO|(apply kz;(focus exact wrap_i64 w4 w4))|(apply gN;(focus exact wrap_i64 w4 w4))|(apply JJ;(focus exact wrap_i64 w4 w4))|exact QI|exact QJ|exact acG|exact acH|exact acI|exact acJ|(apply JL;(focus omega))|fail):bU P G x o .none (.v r):=dj ho hy hz hb
theorem iy_ {z:Operand} {k:IntKind} {i:Int} {d d':D} (ho:o.op = .indexAddr t y z:=by exact rfl) (hy:aE x y=d:=by exact ot) (hz:aE x z = .v (.int k i):=by first|exact ot|exact bP) (hs:C3 P t sz=true:=by exact Sl.h)
  (h:IX sz i d d':=by first|(apply IX.l;exact rfl;(focus first|assumption|omega|(simp;omega)|fail))|(apply IX.r;exact rfl;(focus first|assumption|omega|(simp;omega)|fail))|(apply IX.l;(focus exact(Int.toNat_of_nonneg w4).symm);(focus omega))|(apply IX.r;(focus exact(Int.toNat_of_nonneg w4).symm);(focus omega))|fail):bU P G x o .none d':=dw sz ho hy hz hs h
def fvQ(P:Program)(s i:Nat):Bool:=match P.underlying s with
 | some (.struct fs)=>match fs[i]? with
  | some f=>rf P f.type false
  | none=>false
 | _=>false
theorem agn:jD x [] []:=trivial
theorem aeK{d:D}(hy:aE x y=d)(h:jD x ps pl):jD x ((k,y)::ps) ((k,d)::pl):=⟨rfl,hy,h⟩
theorem pt_(h:jD x ps pl:=by repeat (first|exact agn|(apply aeK;(focus first|exact ot|exact bP|exact tE|fail)))):jD x ps pl:=h
theorem bd_ {pq:List (Nat×Nat)} {m:List D} (ho:o.op = .build t ps.toArray:=by exact rfl) (hz:sG P t=some zs:=by exact Sb.hz) (hp:Fe P t=some (pq.map fun p=>(p.1,some p.2)):=by exact Sb.hp)
  (gK:jD x ps pl:=by exact pt_) (hj:pl.all (fun p=>kS p.2)=true:=by exact rfl) (hs:q9 P t sz=true:=by exact Sz.h) (hd:mv (pq.toArray[·]?) (zs.map .v) pl=some m:=by exact rfl) (hl:Nat.beq m.length sz=true:=by exact rfl) (hk:mF sz m ds:=by exact nv):bU P G x o .none (.agg ds):=by
 obtain⟨z,h1,h2⟩:=Bx hz;obtain⟨fs,h3,h4⟩:=aa8 hp;rw[hk.whole hl] at hd;exact oR ho h1 h3 h4 gK hj (by rw[h2];exact hd)
def Nt(P:Program)(t:Nat):Bool:=match P.underlying t with
 | some .string=>true
 | _=>false
theorem ahT(h:Nt P t=true):∀w,(underlying t).run P w = .ok .string w:=by
 unfold Nt at h;split at h
 ·rename_i E;exact run_underlying E
 cases h
def Db(P:Program)(t:Nat)(k:IntKind):Bool:=match P.underlying t with
 | some (.int a)=>decide (a=k)
 | _=>false
class Ik (P:Program) (t:Nat) (k:outParam IntKind):Prop where h:Db P t k=true
theorem Vh{k:IntKind}(h:Db P t k=true):∀w,(underlying t).run P w = .ok (.int k) w:=by
 unfold Db at h;split at h
 ·rename_i a h1;obtain rfl:=of_decide_eq_true h;exact run_underlying h1
 cases h
theorem cv_{s:TypeId}{k0 k k':IntKind}{a r:Int}(ho:o.op = .convert s t y:=by exact rfl)(hy:aE x y = .v (.int k a):=by exact ot)(hc:Db P s k0=true:=by exact Ik.h)(uB:Db P t k'=true:=by exact Ik.h)(h:k'.wrap a=r:=by first|exact wrap_i64 w4 w4|exact rfl):bU P G x o .none (.v (.int k' r)) :=
 oQ ho hy (oS (Vh hc) (Vh uB) h)
theorem lr_{s:ByteArray}{ts:Array TypeId}(ho:o.op = .call {callee:=.builtin .len,args:=#[y],argTypes:=ts}:=by exact rfl)(ht:ts = #[t]:=by exact rfl)(hy:aE x y = .v (.string s):=by exact ot)(hs:Nt P t=true:=by kernel_rfl):bU P G x o .none (.v (.int .i64 (s.size:Nat))):=Ed ho ht hy (ahT hs)
def tmpsOf:List Operand→List Nat
 | []=>[]
 | .tmp t::r=>t::tmpsOf r
 | _::r=>tmpsOf r
def opsOf:Op→List Operand
 | .move x|.assign x|.nilCheck x|.unOp _ _ x|.convert _ _ x|.fieldAddr _ x _|.field _ x _|.load _ x|.extract x _=>[x]
 | .pick c a b=>[c,a,b]
 | .binOp _ _ a b _|.indexAddr _ a b|.index _ a b|.lookup _ a b _=>[a,b]
 | .slice _ x lo hi mx=>x::(lo.toList++hi.toList++mx.toList)
 | .build _ ps|.buildSlice _ _ ps=>ps.toList.map (·.2)
 | .makeFunc _ _ c=>c.toList
 | .call c=>match c.callee with
  | .value f=>f::c.args.toList
  | _=>c.args.toList
 | _=>[]
def zK(ops:Array Oper)(o:Oper):List Nat:=match o.guard with
 | some (g,_)=>(match ops[g]? with
  | some p=>p.dst.toList
  | none=>[])
 | none=>[]
def kD(ops:Array Oper)(o:Oper):List Nat:=zK ops o++tmpsOf (opsOf o.op)
theorem jx{ts:List Nat}(h:fA ts e l':=by repeat (first|exact fA.nil|(apply fA.cons;(focus exact lk)))):fA ts e l':=h
theorem pD{x:St}(h:bZ ops x o true:=by first|exact sj rfl|exact tN rfl rfl rfl lk jr|fail):bZ ops x o true:=h
theorem Ht{x:St}(h:bZ ops x o false:=by first|exact mN rfl rfl rfl lk jr|exact JG (b:=false) rfl rfl rfl lk|fail):bZ ops x o false:=h
def PE(c:Bool)(P:Program)(G:List (Nat×List Value))(n:Nat)(S:List ah)(ops:Array Oper)(ts:List Nat)(l:List Oper)(e:List (Nat×D))(R:List (Nat×D)→Prop):Prop:=∃e' l',PD c P G n S ops l e [] e'∧fA ts e' l'∧R l'
variable {R:List (Nat×D)→Prop}
theorem jI(K:R l')(h:fA ts e l':=by exact jx):PE c P G n S ops ts [] e R:=⟨e,l',.nil,h,K⟩
theorem PE.cons{lr:List (Nat×D)}{E:List Nat}(hd:o.dst=some t)(hr:fA E e lr)(hq:(!c||mB ops o E)=true)(hw:bZ ops ⟨n,lr,S⟩ o true)(h:fM P G ⟨n,lr,S⟩ o [] (fun y=>y=⟨n,(t,d)::lr,S⟩))(K:PE c P G n S ops ts l ((t,d)::e) R):PE c P G n S ops ts (o::l) e R:=by
 obtain⟨e',l',h1,h2⟩:=K;exact⟨e',l',.cons hd hr hq hw h h1,h2⟩
theorem X9(hd:o.dst=some t:=by exact rfl)(hr:fA (kD ops o) e lr:=by exact jx)(h:bU P G ⟨n,lr,S⟩ o kd d)(K:PE c P G n S ops ts l ((t,d)::e) R)(hq:(!c||mB ops o (kD ops o))=true:=by kernel_rfl)(hw:bZ ops ⟨n,lr,S⟩ o true:=by exact pD):PE c P G n S ops ts (o::l) e R:=.cons hd hr hq hw (h.fU hd) K
theorem pf_(K:PE c P G n S ops ts l ((t,.v (.tuple #[]))::e) R)(hd:o.dst=some t:=by exact rfl)(hr:fA (zK ops o) e lr:=by exact jx)(hq:(!c||mB ops o (zK ops o))=true:=by kernel_rfl)(hw:bZ ops ⟨n,lr,S⟩ o false:=by exact Ht):PE c P G n S ops ts (o::l) e R:=by
 obtain⟨e',l',h1,h2⟩:=K;exact⟨e',l',.skip hd hr hq hw h1,h2⟩
def xx(P:Program)(f:Nat):Bool:=match P.funcs[f]? with
 | some fn => !(fn.name == "runtime.NumGoroutine") && fn.body.isSome
 | none=>false
theorem UD{f:Nat}(h:xx P f=true):∀args w,(callFunc f args).run P w = .ok (.enter f args) w:=by
 unfold xx at h;split at h
 ·rename_i fn hf;rw[Bool.and_eq_true] at h;obtain⟨h1,h2⟩:=h;obtain⟨c,hc⟩:=Option.isSome_iff_exists.1 h2;exact enters_of hf (by simpa using h1) hc
 cases h
theorem pc_ {f:Nat} {args:List D} {r:D} (hc:VP P G f args r) (K:PE c P G n S ops ts l ((t,r)::e) R) (ho:o.op = .call {callee:=.value fo,args:=cG,argTypes:=tt}:=by exact rfl)
  (hd:o.dst=some t:=by exact rfl) (hr:fA (kD ops o) e lr:=by exact jx) (hq:(!c||mB ops o (kD ops o))=true:=by kernel_rfl) (hw:bZ ops ⟨n,lr,S⟩ o true:=by exact pD) (hf:fo = .func f:=by exact rfl) (fb:xx P f=true:=by kernel_rfl) (ha:mW ⟨n,lr,S⟩ cG.toList args:=by exact Da):PE c P G n S ops ts (o::l) e R:=by
 refine .cons hd hr hq hw ?_ K;intro C a w K Q hG hs hK;refine Bo ho hd hf (UD fb) ha.eq (fa _) hc C a w K Q hG hs fun y a' w' hy E uB I=>?_;obtain⟨r',S',⟨rfl,rfl⟩,rfl⟩:=hy;exact hK _ a' w' rfl E uB I
theorem ago{x:St}:jD x [] (cu k []):=trivial
theorem aeL{x:St}{d:D}{pd:List D}(hy:aE x y=d)(h:jD x ps (cu (k+1) pd)):jD x ((k,y)::ps) (cu k (d::pd)):=⟨rfl,hy,h⟩
theorem Hu{x:St}{pd:List D}(h:jD x ps (cu k pd):=by repeat (first|exact ago|(apply aeL;(focus first|exact ot|exact bP|exact tE|fail)))):jD x ps (cu k pd):=h
def xy(P:Program)(t sz:Nat):Bool:=match P.underlying t with
 | some (.slice e)=>q9 P e sz&&(sG P e).isSome && !(isMap e)
 | _=>false
class tr (P:Program) (t:Nat) (sz:outParam Nat):Prop where h:xy P t sz=true
theorem agp(h:xy P t sz=true):∃e z,(∀w,(underlying t).run P w = .ok (.slice e) w)∧(∀w,(sizeOf e).run P w = .ok sz w)∧(∀w,(zeroValue e).run P w = .ok z w)∧isMap e=false:=by
 unfold xy at h;split at h
 ·rename_i e E;simp only[Bool.and_eq_true,Bool.not_eq_true'] at h;obtain⟨⟨h1,h2⟩,h3⟩:=h;obtain⟨zs,h4⟩:=Option.isSome_iff_exists.1 h2;obtain⟨z,h5,_⟩:=Bx h4;exact⟨e,z,run_underlying E,lT h1,h5,h3⟩
 cases h
theorem ZS{pd:List D}(h:pd.all kS=true):∀k,(cu k pd).all (fun p=>kS p.2)=true:=by
 induction pd with
 | nil=>intro k;rfl
 | cons a r ih =>
  intro k;rw[all_cons,Bool.and_eq_true] at h;rw[cu,all_cons,Bool.and_eq_true];exact⟨h.1,ih h.2 _⟩
theorem acR {len:Nat} {pd:List D} (ho:o.op = .buildSlice t' len ps.toArray) (hd:o.dst=some t) (hs:xy P t' sz=true) (gK:jD x ps (cu 0 pd)) (hn:Nat.beq pd.length len=true) (hl:Nat.ble 1 (len*sz)=true) (ir:Nat.ble (len*sz) (2 ^ 24)=true)
  (hj:pd.all kS=true) (ha:(pd.all fun d=>Nat.beq (cellsOf d).length sz)=true) (jQ:pd.flatMap cellsOf=ds):fM P G x o [] (fun y=>y=x.put t (.list sz ds len)):=by
 obtain⟨e,z,hu,iu,hz,hne⟩:=agp hs;have hlen:pd.length=len:=Nat.eq_of_beq_eq_true hn;have Dc:ds.length=len*sz:=by
  rw[←jQ,←hlen];clear gK hn hlen jQ hj;induction pd with
  | nil=>simp
  | cons a r ih =>
   rw[all_cons,Bool.and_eq_true] at ha;rw[flatMap_cons,length_append,ih ha.2,Nat.eq_of_beq_eq_true ha.1,length_cons,Nat.succ_mul,Nat.add_comm]
 intro C a w K Q hG h hK;refine H7 (hne:=hne) (zs:=((Array.range (len*sz)).map (fun i=>z.cells[i % z.cells.size]!)).toList.map .v) (ds:=ds) ho hd hz hu iu (Nat.le_of_ble_eq_true hl) (Nat.le_of_ble_eq_true ir) ?_ ?_ ?_ ?_ C a w K Q hG h fun y a' w' hy O uB E=>?_
 ·rw[map_map,Array.toList_map,map_map];apply Array.ext';simp[Function.comp_def]
 ·intro d hd;obtain⟨u,_,rfl⟩:=mem_map.1 hd;exact⟨u,rfl⟩
 ·rw[gK.eq];exact A4 (ZS hj 0)
 ·rw[gK.eq];exact Pw ha (by rw[hlen];simp) jQ
 obtain⟨b,rfl⟩:=hy;have I:len≤maxLen:=by
  have h1:=Nat.le_of_ble_eq_true hl;have h2:=Nat.le_of_ble_eq_true ir;have h3:1≤sz:=Nat.pos_of_ne_zero fun h0=>by rw[h0] at h1;omega
  have h4:len*1≤len*sz:=Nat.mul_le_mul_left _ h3;have:maxLen=9223372036854775807:=rfl;omega
 have hg:=Wk.vt (hne:=hne) (k:=0) (t:=t) (sz:=sz) (m:=len) (cap:=len) (B:=⟨b,e,ds.length,ds⟩) (n:=x.n) (l:=(t,.v (.slice (some ⟨b,0,none⟩) len len))::x.env) (S:=⟨b,e,ds.length,ds⟩::x.S) (cs:=ds) rfl fI rfl Dc (Nat.le_refl _) I;refine hK (x.put t (.list sz ds len)) a' w' rfl ?_ uB ?_
 ·have h1:=hg C a' w' O;refine⟨h1.defers,h1.size,fun q hq=>?_,h1.own,h1.fr,h1.ex,h1.eK⟩;have h2:=h1.env q hq;simp only[fW] at h2;simp only[St.put,fW];by_cases e1:t=q
  ·rw[if_pos e1] at h2 ⊢;exact h2
  rw[if_neg e1] at h2 ⊢;rw[if_neg e1] at h2;exact h2
 exact⟨E.os,E.tape,E.output,E.size,fun U h1 h2=>⟨(E.block U h1 h2).1,fun h3=>(E.block U h1 h2).2 (mem_cons_of_mem _ h3)⟩⟩
theorem Ya {len:Nat} {pd:List D} (K:PE c P G n S ops ts l ((t,.list sz ds len)::e) R) (ho:o.op = .buildSlice t' len ps.toArray:=by exact rfl)
  (hd:o.dst=some t:=by exact rfl) (hr:fA (kD ops o) e lr:=by exact jx) (gK:jD ⟨n,lr,S⟩ ps (cu 0 pd):=by exact Hu) (hs:xy P t' sz=true:=by exact tr.h) (hq:(!c||mB ops o (kD ops o))=true:=by kernel_rfl) (hw:bZ ops ⟨n,lr,S⟩ o true:=by exact pD)
  (hn:Nat.beq pd.length len=true:=by exact rfl) (hl:Nat.ble 1 (len*sz)=true:=by exact rfl) (ir:Nat.ble (len*sz) (2 ^ 24)=true:=by exact rfl) (hj:pd.all kS=true:=by exact rfl) (ha:(pd.all fun d=>Nat.beq (cellsOf d).length sz)=true:=by exact rfl) (jQ:pd.flatMap cellsOf=ds:=by exact rfl):PE c P G n S ops ts (o::l) e R:=.cons hd hr hq hw (acR ho hd hs gK hn hl ir hj ha jQ) K
theorem Nu {α:Type} {g:α→List D} (ls:List α) {len:Nat} {pd:List D} (K:PE c P G n S ops ts l ((t,.list sz (ls.flatMap g) ls.length)::e) R) (ho:o.op = .buildSlice t' len ps.toArray:=by exact rfl)
  (hd:o.dst=some t:=by exact rfl) (hr:fA (kD ops o) e lr:=by exact jx) (gK:jD ⟨n,lr,S⟩ ps (cu 0 pd):=by exact Hu) (hs:xy P t' sz=true:=by exact tr.h) (hq:(!c||mB ops o (kD ops o))=true:=by kernel_rfl) (hw:bZ ops ⟨n,lr,S⟩ o true:=by exact pD)
  (hn:Nat.beq pd.length len=true:=by exact rfl) (hl:Nat.ble 1 (len*sz)=true:=by exact rfl) (ir:Nat.ble (len*sz) (2 ^ 24)=true:=by exact rfl) (hj:pd.all kS=true:=by exact rfl) (ha:(pd.all fun d=>Nat.beq (cellsOf d).length sz)=true:=by exact rfl) (hlen:len=ls.length:=by exact rfl) (jQ:pd.flatMap cellsOf=ls.flatMap g:=by exact rfl):PE c P G n S ops ts (o::l) e R:=by
 subst hlen;exact Ya K ho hd hr gK hs hq hw hn hl ir hj ha jQ
theorem Nv{x:St}(h:bU P G x o kd d:=by first|exact bG|exact fb_|exact lc_|exact ajo|exact ajp|exact iy_|exact Nc|exact x4|exact qg|exact xq|exact vo|exact lg|exact bd_|exact cv_|exact lr_|exact fv_|exact C9|fail):bU P G x o kd d:=h
structure PK (k:Nat) (P:Program) (G:List (Nat×List Value)) (n:Nat) (S:List ah) (ops:Array Oper) (l:List Oper) (e:List (Nat×D)) (l2:List Oper) (e':List (Nat×D)):Prop where
 h:PD false P G n S ops l e l2 e'
theorem PK.z:PK 0 P G n S ops l e l e:=⟨.nil⟩
theorem PK.s(hd:o.dst=some t)(hr:fA (kD ops o) e lr)(hw:bZ ops ⟨n,lr,S⟩ o true)(h:bU P G ⟨n,lr,S⟩ o kd d)(K:PK k P G n S ops l ((t,d)::e) l2 e'):PK (k+1) P G n S ops (o::l) e l2 e':=⟨.cons hd hr rfl hw (h.fU hd) K.h⟩
theorem PK.f(hd:o.dst=some t)(hr:fA (zK ops o) e lr)(hw:bZ ops ⟨n,lr,S⟩ o false)(K:PK k P G n S ops l ((t,.v (.tuple #[]))::e) l2 e'):PK (k+1) P G n S ops (o::l) e l2 e':=⟨.skip hd hr rfl hw K.h⟩
theorem De(h:PK k P G n S ops l e l2 e':=by repeat (first|exact PK.z|(apply PK.s;exact rfl;(focus exact jx);(focus exact pD);(focus exact Nv))|(apply PK.f;exact rfl;(focus exact jx);(focus exact Ht)))):PK k P G n S ops l e l2 e':=h
theorem aG(k:Nat)(K:OD P C ops l2 ⟨n,e',S⟩ Q)(h:PK k P C.G n S ops l e l2 e':=by exact De):OD P C ops l ⟨n,e,S⟩ Q:=h.h.od K
theorem aA{d:Code}(k:Nat)(K:OD P C l.toArray l2 ⟨n,e',S⟩ (Ca P C d Q))(h0:CD P C (.seq (.region id l.toArray false) d) ⟨n,e,S⟩ Q→p:=by exact nI)(h:PK k P C.G n S l.toArray l e l2 e':=by exact De):p:=h0 (CD.seq (CD.region (h.h.od K)))
theorem dG(k:Nat)(K:OD P C l.toArray l2 ⟨n,e',S⟩ Q)(h0:CD P C (.region id l.toArray false) ⟨n,e,S⟩ Q→p:=by exact nI)(h:PK k P C.G n S l.toArray l e l2 e':=by exact De):p:=h0 (CD.region (h.h.od K))
theorem yd(k:Nat)(K:OD P C ops l2 ⟨n,e',S⟩ Q)(h:PK k P C.G n S ops l e l2 e':=by repeat (first|exact PK.z|(apply PK.f;exact rfl;(focus exact jx);(focus exact mN rfl rfl rfl lk jr)))):OD P C ops l ⟨n,e,S⟩ Q:=h.h.od K
theorem bp(ts:List Nat)(K:Q .normal ⟨n,l',S⟩)(h:PK k P C.G n S ops l e [] e':=by exact De)(hr:fA ts e' l':=by exact jx):OD P C ops l ⟨n,e,S⟩ Q:=h.h.od (XO ts K hr)
theorem cM{d:Code}(ts:List Nat)(h:PE c P C.G n S l.toArray ts l e fun l'=>CD P C d ⟨n,l',S⟩ Q)(h0:CD P C (.seq (.region id l.toArray c) d) ⟨n,e,S⟩ Q→p:=by exact nI)(hm:(!c||P.follows .mixedOrders)=true:=by kernel_rfl)(hp:(!c||mE l.toArray)=true:=by kernel_rfl):p:=by
 obtain⟨e',l',h1,h2,K⟩:=h;exact h0 (CD.seq (CD.pd (by intro hc;subst hc;simpa using hm) (by intro hc;subst hc;simpa using hp) h1 (CD.wk (Wk.kC h2.kC) K)))
def WC(Q:Exit→St→Prop):Prop:=∀n e l' S,nQ e l'→Q .normal ⟨n,l',S⟩→Q .normal ⟨n,e,S⟩
theorem WC.then{d:Code}:WC (Ca P C d Q):=fun n e l' S h k=>CD.wk (Wk.kC h) k
theorem WC.cut{E:St→Prop}:WC (Na E Q):=fun n e l' S h ⟨z,h1,h2⟩=>⟨z,(Wk.kC h).trans h1,h2⟩
theorem WC.round{ι:Type}{I:ι→St→Prop}{μ:ι→Nat}{i:ι}:WC (BO I μ i Q):=fun n e l' S h ⟨j,z,h1,h2,h3⟩=>⟨j,z,h1,(Wk.kC h).trans h2,h3⟩
theorem WC.inBlock(h:WC Q):WC (Bv id Q):=h
theorem WC.body:WC (Body P fn post):=fun n e l' S h ⟨h1,r,S',h2,h3,h4⟩=>⟨h1,r,S',h2,fun C a w hs=>h3 C a w (Wk.kC h C a w hs),h4⟩
theorem Yb(h:WC Q:=by repeat (first|exact WC.then|exact WC.cut|exact WC.round|exact WC.body|apply WC.inBlock)):WC Q:=h
theorem gC(ts:List Nat)(h:PE c P C.G n S l.toArray ts l e fun l'=>Q .normal ⟨n,l',S⟩)(h0:CD P C (.region id l.toArray c) ⟨n,e,S⟩ Q→p:=by exact nI)(hm:(!c||P.follows .mixedOrders)=true:=by kernel_rfl)(hp:(!c||mE l.toArray)=true:=by kernel_rfl)(hQ:WC Q:=by exact Yb):p:=by
 obtain⟨e',l',h1,h2,K⟩:=h;exact h0 (CD.pd (by intro hc;subst hc;simpa using hm) (by intro hc;subst hc;simpa using hp) h1 (hQ _ _ _ _ h2.kC K))
structure PL (k:Nat) (c:Bool) (P:Program) (G:List (Nat×List Value)) (n:Nat) (S:List ah) (ops:Array Oper) (ts:List Nat) (l:List Oper) (e:List (Nat×D)) (l2:List Oper) (e':List (Nat×D)):Prop where
 h:∀R,PE c P G n S ops ts l2 e' R→PE c P G n S ops ts l e R
theorem JN{pd:List D}{len:Nat}(hn:Nat.beq pd.length len=true)(ha:(pd.all fun d=>Nat.beq (cellsOf d).length sz)=true):Nat.beq (pd.flatMap cellsOf).length (len*sz)=true:=by
 have:(pd.flatMap cellsOf).length=pd.length*sz:=by
  clear hn;induction pd with
  | nil=>simp
  | cons a r ih =>
   rw[all_cons,Bool.and_eq_true] at ha;rw[flatMap_cons,length_append,ih ha.2,Nat.eq_of_beq_eq_true ha.1,length_cons,Nat.succ_mul,Nat.add_comm]
 rw[this,Nat.eq_of_beq_eq_true hn];exact Nat.beq_refl _
theorem PL.z:PL 0 c P G n S ops ts l e l e:=⟨fun _ h=>h⟩
theorem PL.s(hd:o.dst=some t)(hr:fA (kD ops o) e lr)(hw:bZ ops ⟨n,lr,S⟩ o true)(h:bU P G ⟨n,lr,S⟩ o kd d)(hq:(!c||mB ops o (kD ops o))=true)(K:PL k c P G n S ops ts l ((t,d)::e) l2 e'):PL (k+1) c P G n S ops ts (o::l) e l2 e':=⟨fun R h1=>X9 hd hr h (K.h R h1) hq hw⟩
theorem PL.f(hd:o.dst=some t)(hr:fA (zK ops o) e lr)(hw:bZ ops ⟨n,lr,S⟩ o false)(hq:(!c||mB ops o (zK ops o))=true)(K:PL k c P G n S ops ts l ((t,.v (.tuple #[]))::e) l2 e'):PL (k+1) c P G n S ops ts (o::l) e l2 e':=⟨fun R h1=>pf_ (K.h R h1) hd hr hq hw⟩
theorem PL.r {len:Nat} {pd:List D} (ho:o.op = .buildSlice t' len ps.toArray) (hd:o.dst=some t) (hr:fA (kD ops o) e lr) (gK:jD ⟨n,lr,S⟩ ps (cu 0 pd)) (hs:xy P t' sz=true) (hw:bZ ops ⟨n,lr,S⟩ o true)
  (hn:Nat.beq pd.length len=true) (hl:Nat.ble 1 (len*sz)=true) (ir:Nat.ble (len*sz) (2 ^ 24)=true) (hj:pd.all kS=true) (ha:(pd.all fun d=>Nat.beq (cellsOf d).length sz)=true) (hq:(!c||mB ops o (kD ops o))=true) (jQ:mF (len*sz) (pd.flatMap cellsOf) ds) (K:PL k c P G n S ops ts l ((t,.list sz ds len)::e) l2 e'):PL (k+1) c P G n S ops ts (o::l) e l2 e' :=
 ⟨fun R h1=>Ya (K.h R h1) ho hd hr gK hs hq hw hn hl ir hj ha (jQ.whole (JN hn ha))⟩
theorem zL(h:PL k c P G n S ops ts l e l2 e':=by repeat (first|exact PL.z|(apply PL.s;exact rfl;(focus exact jx);(focus exact pD);(focus exact Nv);(focus kernel_rfl))|(apply PL.f;exact rfl;(focus exact jx);(focus exact Ht);(focus kernel_rfl))|(apply PL.r;exact rfl;exact rfl;(focus exact jx);(focus exact Hu);(focus exact tr.h);(focus exact pD);(iterate 5 (focus exact rfl));(focus kernel_rfl);(focus exact nv)))):PL k c P G n S ops ts l e l2 e':=h
theorem mG(k:Nat)(K:PE c P G n S ops ts l2 e' R)(h:PL k c P G n S ops ts l e l2 e':=by exact zL):PE c P G n S ops ts l e R:=h.h R K
theorem aP(k:Nat)(K:PE c P G n S ops ts l2 ((t,d)::e') R)(h1:PL k c P G n S ops ts l e (o::l2) e':=by exact zL)(hd:o.dst=some t:=by exact rfl)(hr:fA (kD ops o) e' lr:=by exact jx)(h:bU P G ⟨n,lr,S⟩ o kd d)(hq:(!c||mB ops o (kD ops o))=true:=by kernel_rfl)(hw:bZ ops ⟨n,lr,S⟩ o true:=by exact pD):PE c P G n S ops ts l e R:=h1.h R (X9 hd hr h K hq hw)
theorem Yc(h:PL k c P G n S ops ts l e l2 e':=by (repeat (first|(apply PL.s;exact rfl;(focus exact jx);(focus exact pD);(focus exact Nv);(focus kernel_rfl))|(apply PL.f;exact rfl;(focus exact jx);(focus exact Ht);(focus kernel_rfl))|(apply PL.r;exact rfl;exact rfl;(focus exact jx);(focus exact Hu);(focus exact tr.h);(focus exact pD);(iterate 5 (focus exact rfl));(focus kernel_rfl);(focus exact nv))|fail));exact PL.z):PL k c P G n S ops ts l e l2 e':=h
theorem cJ {f:Nat} {args:List D} {r:D} (hc:VP P G f args r) (K:PE c P G n S ops ts l2 ((t,r)::e') R) (h1:PL k c P G n S ops ts l e (o::l2) e':=by exact Yc) (ho:o.op = .call {callee:=.value fo,args:=cG,argTypes:=tt}:=by exact rfl)
  (hd:o.dst=some t:=by exact rfl) (hr:fA (kD ops o) e' lr:=by exact jx) (hq:(!c||mB ops o (kD ops o))=true:=by kernel_rfl) (hw:bZ ops ⟨n,lr,S⟩ o true:=by exact pD) (hf:fo = .func f:=by exact rfl) (fb:xx P f=true:=by kernel_rfl) (ha:mW ⟨n,lr,S⟩ cG.toList args:=by exact Da):PE c P G n S ops ts l e R:=h1.h R (pc_ hc K ho hd hr hq hw hf fb ha)
theorem bD(K:R l')(h:PL k c P G n S ops ts l e [] e':=by exact zL)(hr:fA ts e' l':=by exact jx):PE c P G n S ops ts l e R:=h.h R (jI K hr)
theorem af{d:Code}(ts:List Nat)(K:CD P C d ⟨n,l',S⟩ Q)(h0:CD P C (.seq (.region id l.toArray c) d) ⟨n,e,S⟩ Q→p:=by exact nI)(h:PL k c P C.G n S l.toArray ts l e [] e':=by exact zL)(hr:fA ts e' l':=by exact jx)(hm:(!c||P.follows .mixedOrders)=true:=by kernel_rfl)(hp:(!c||mE l.toArray)=true:=by kernel_rfl):p:=cM ts (h.h _ (jI K hr)) h0 hm hp
theorem cL {k2 f:Nat} {d':Code} {args:List D} {r:D} {e2:List (Nat×D)} (ts:List Nat) (hc:VP P G f args r) (K:CD P C d' ⟨n,l',S⟩ Q) (h0:CD P C (.seq (.region id l.toArray c) d') ⟨n,e,S⟩ Q→p:=by exact nI) (hG:C.G=G:=by exact rfl) (h1:PL k c P G n S l.toArray ts l e (o::l2) e':=by exact Yc) (ho:o.op = .call {callee:=.value fo,args:=cG,argTypes:=tt}:=by exact rfl)
  (hd:o.dst=some t:=by exact rfl) (hr:fA (kD l.toArray o) e' lr:=by exact jx) (hq:(!c||mB l.toArray o (kD l.toArray o))=true:=by kernel_rfl) (hw:bZ l.toArray ⟨n,lr,S⟩ o true:=by exact pD) (hf:fo = .func f:=by exact rfl) (fb:xx P f=true:=by kernel_rfl) (ha:mW ⟨n,lr,S⟩ cG.toList args:=by exact Da)
  (h2:PL k2 c P G n S l.toArray ts l2 ((t,r)::e') [] e2:=by exact zL) (hs:fA ts e2 l':=by exact jx) (hm:(!c||P.follows .mixedOrders)=true:=by kernel_rfl) (hp:(!c||mE l.toArray)=true:=by kernel_rfl):p:=by
 subst hG;exact cM ts (cJ hc (bD K h2 hs) h1 ho hd hr hq hw hf fb ha) h0 hm hp
theorem bX(ts:List Nat)(K:Q .normal ⟨n,l',S⟩)(h0:CD P C (.region id l.toArray c) ⟨n,e,S⟩ Q→p:=by exact nI)(h:PL k c P C.G n S l.toArray ts l e [] e':=by exact zL)(hr:fA ts e' l':=by exact jx)(hm:(!c||P.follows .mixedOrders)=true:=by kernel_rfl)(hp:(!c||mE l.toArray)=true:=by kernel_rfl)(hQ:WC Q:=by exact Yb):p:=gC ts (h.h _ (jI K hr)) h0 hm hp hQ
inductive BP:Bool→Prop→Prop→Prop
 | lt {a b:Int}:BP (decide (a<b)) (a<b) (b≤a)
 | le {a b:Int}:BP (decide (a≤b)) (a≤b) (b<a)
 | gt {a b:Int}:BP (decide (a>b)) (a>b) (a≤b)
 | ge {a b:Int}:BP (decide (a≥b)) (a≥b) (a<b)
 | eq {a b:Int}:BP (a==b) (a=b) (¬a=b)
 | ne {a b:Int}:BP (a != b) (¬a=b) (a=b)
 | beq {a b:Bool}:BP (a==b) (a=b) (¬a=b)
 | bne {a b:Bool}:BP (a != b) (¬a=b) (a=b)
 | dec {p:Prop} [Decidable p]:BP (decide p) p (¬p)
 | nn {b:Bool} {p q:Prop} (h:BP b p q):BP (!!b) p q
 | no {b:Bool} {p q:Prop} (h:BP b p q):BP (!b) q p
 | any {b:Bool}:BP b (b=true) (b=false)
theorem BP.ok(h:BP b p q):(b=true→p)∧(b=false→q):=by
 induction h with
 | lt=>exact⟨of_decide_eq_true,fun h=>Int.not_lt.1 (of_decide_eq_false h)⟩
 | le=>exact⟨of_decide_eq_true,fun h=>Int.not_le.1 (of_decide_eq_false h)⟩
 | gt=>exact⟨of_decide_eq_true,fun h=>Int.not_lt.1 (of_decide_eq_false h)⟩
 | ge=>exact⟨of_decide_eq_true,fun h=>Int.not_le.1 (of_decide_eq_false h)⟩
 | eq=>exact⟨by simp,by simp⟩
 | ne=>exact⟨by simp,by simp⟩
 | beq=>exact⟨by simp,by simp⟩
 | bne=>exact⟨by simp,by simp⟩
 | dec=>exact⟨of_decide_eq_true,of_decide_eq_false⟩
 | nn h ih=>exact⟨fun e=>ih.1 (by simpa using e),fun e=>ih.2 (by simpa using e)⟩
 | no h ih=>exact⟨fun e=>ih.2 (by simpa using e),fun e=>ih.1 (by simpa using e)⟩
 | any=>exact⟨id,id⟩
theorem Yd(h:BP b p q:=by first|exact .lt|exact .le|exact .eq|exact .ne|exact .gt|exact .ge|exact .beq|exact .bne|exact .dec|(apply BP.nn;focus (first|exact .lt|exact .le|exact .eq|exact .ne|exact .gt|exact .ge|exact .dec|exact .any))|(apply BP.no;focus (first|exact .lt|exact .le|exact .eq|exact .ne|exact .gt|exact .ge|exact .dec|exact .any))|exact .any):BP b p q:=h
theorem ax{z:Operand}{d1 d2:Code}{r:Prop}(ht:b=true→p→CD P C d1 x Q)(hf:b=false→q→CD P C d2 x Q)(h0:CD P C (.cond z d1 d2) x Q→r:=by exact nI)(hc:aE x z = .v (.bool b):=by exact ot)(h:BP b p q:=by exact Yd):r:=h0 (CD.cond hc (fun e=>ht e (h.ok.1 e)) (fun e=>hf e (h.ok.2 e)))
theorem bW(t:Nat)(h1:b=true→p→OD P C ops l x Q)(h2:b=false→q→OD P C ops l x Q)(hb:look t x.env = .v (.bool b):=by exact lk)(h:BP b p q:=by exact Yd):OD P C ops l x Q:=OD.split hb (fun e=>h1 e (h.ok.1 e)) (fun e=>h2 e (h.ok.2 e))
inductive NS:List ah→List ah→Prop
 | r {S:List ah}:NS S S
 | c {b e sz:Nat} {cs cs':List D} {S S':List ah} (hl:Nat.beq cs.length sz=true) (h:mF sz cs cs') (k:NS S S'):NS (⟨b,e,sz,cs⟩::S) (⟨b,e,sz,cs'⟩::S')
 | k {B:ah} {S S':List ah} (k:NS S S'):NS (B::S) (B::S')
theorem NS.eq{S:List ah}(h:NS S S'):S=S':=by
 induction h with
 | r=>rfl
 | c hl h k ih=>rw[h.whole hl,ih]
 | k k ih=>rw[ih]
theorem ns_{S:List ah}(h:NS S S':=by repeat (first|(apply NS.c;exact rfl;(focus exact nv))|apply NS.k|exact NS.r)):NS S S':=h
theorem an(m:Nat)(ts:List Nat)(K:Q .normal ⟨m,l',S'⟩)(h:PK k P C.G n S ops l e [] e':=by exact De)(hr:fA ts e' l':=by exact jx)(hS:NS S S':=by exact ns_)(hn:n=m:=by exact rfl):OD P C ops l ⟨n,e,S⟩ Q:=h.h.od (OD.wk (Wk.dP hn hS.eq hr.kC) (OD.nil K))
theorem Ye{α:Type}{a b:List α}(h:a.Sublist b:=by repeat (first|exact Sublist.refl _|exact nil_sublist _|apply Sublist.cons_cons|apply Sublist.cons)):a.Sublist b:=h
theorem ajq{l:List (Nat×D)}(h:look t l=d:=by (repeat (first|exact fI|(apply fX;focus (first|rfl|(simp;done)|(congr 2;omega)|(apply eL;first|rfl|assumption|(simp;done))))|(apply fN;focus rfl)));first|done|fail):look t l=d:=h
theorem ajr{l':List (Nat×D)}(h:nQ e l':=by repeat (first|exact trivial|refine⟨ajq,?_⟩)):nQ e l':=h
theorem aJ{x:St}{n:Nat}(hn:x.n=n:=by exact rfl)(hS:S'.Sublist x.S:=by exact Ye)(h:nQ x.env l':=by exact ajr):Wk x ⟨n,l',S'⟩:=Wk.asS hn hS h
theorem cn{a b:Nat}(h:a<b:=by first|omega|(simp only[];omega)|(simp;omega)):a<b:=h
theorem ez{c:Code}{ι:Type}{y:St}(ts:List Nat)(I:List (Nat×D)→List ah→ι→St→Prop)(μ:ι→Nat)(i:ι)(h0:I l' S i y)(round:∀i y,I l' S i y→CD P C c y (BO (I l' S) μ i Q))(hp:CD P C (.loop c) ⟨n,e,S⟩ Q→p:=by exact nI)(hr:fA ts e l':=by exact jx)(hw:Wk ⟨n,e,S⟩ y:=by exact aJ):p:=hp (CD.wk hw (CD.loop (I l' S) μ i h0 round))
theorem iv{c d:Code}(ts:List Nat)(I:List (Nat×D)→List ah→St→Prop)(h1:CD P C c ⟨n,e,S⟩ (Na (I l' S) Q))(h2:∀y,I l' S y→CD P C d y Q)(hr:fA ts e l':=by exact jx):CD P C (.seq c d) ⟨n,e,S⟩ Q:=CD.cut (I l' S) h1 h2
theorem AE{y:St}{rv:ResultVar}{d:D}(h:tc P y rv d:=by first|exact yW aQ lk|exact sA (k:=0) aQ lk rfl rfl (iM aB) (lT Sz.h) rfl rfl|exact sA (k:=1) aQ lk rfl rfl (iM aB) (lT Sz.h) rfl rfl|exact sA (k:=2) aQ lk rfl rfl (iM aB) (lT Sz.h) rfl rfl|exact sA (k:=3) aQ lk rfl rfl (iM aB) (lT Sz.h) rfl rfl|exact sA (k:=4) aQ lk rfl rfl (iM aB) (lT Sz.h) rfl rfl|exact sA (k:=5) aQ lk rfl rfl (iM aB) (lT Sz.h) rfl rfl|exact sA (k:=6) aQ lk rfl rfl (iM aB) (lT Sz.h) rfl rfl|exact sA (k:=7) aQ lk rfl rfl (iM aB) (lT Sz.h) rfl rfl|exact sA (k:=8) aQ lk rfl rfl (iM aB) (lT Sz.h) rfl rfl|exact sA (k:=9) aQ lk rfl rfl (iM aB) (lT Sz.h) rfl rfl|exact tG (k:=0) aQ lk rfl rfl (iM aB) rfl|exact tG (k:=1) aQ lk rfl rfl (iM aB) rfl|exact tG (k:=2) aQ lk rfl rfl (iM aB) rfl|exact tG (k:=3) aQ lk rfl rfl (iM aB) rfl|exact tG (k:=4) aQ lk rfl rfl (iM aB) rfl|exact tG (k:=5) aQ lk rfl rfl (iM aB) rfl|exact tG (k:=6) aQ lk rfl rfl (iM aB) rfl|exact tG (k:=7) aQ lk rfl rfl (iM aB) rfl|exact tG (k:=8) aQ lk rfl rfl (iM aB) rfl|exact tG (k:=9) aQ lk rfl rfl (iM aB) rfl|fail):tc P y rv d:=h
theorem rv_{y:St}{r:D}(h:td P fn y r:=by first|exact qB rfl|exact SJ rfl AE|exact JH rfl AE AE|exact aa1 rfl AE AE AE|fail):td P fn y r:=h
theorem aK{ex:Exit}{x:St}{r:D}(S':List ah)(hp:post r S')(h0:Body P fn post ex x→p:=by exact nI)(he:ex = .normal∨ex = .ret:=by first|exact .inr rfl|exact .inl rfl)(hS:S'.Sublist x.S:=by exact Ye)(hr:td P fn x r:=by exact rv_):p:=h0 ⟨he,r,S',hS,hr,hp⟩

end Go.Proofs.YtkgmonfgofobaaaGreatDoor.V
namespace Go.Proofs.YtkgmonfgofobaaaGreatDoor.V
open List
open Go.RowKit
variable {P:Program} {C:dx} {G:List (Nat×List Value)} {Q:Exit→St→Prop} {ops:Array Oper} {l l2:List Oper} {o:Oper} {n t:Nat} {d:D} {e e' l':List (Nat×D)} {S S':List ah} {ts:List Nat} {c:Bool} {x:St}
variable {a:Act} {R':Exit→Act→World→Prop} {m id ta:Nat} {ld:Array Bool} {B:List ah} {te:TypeId} {S1:List Nat} {oa:Oper} {zs:List Value}
theorem acS{w:World}{K E:Act→World→Prop}{R:Exit→Act→World→Prop}(h:o.wp P a w K R)(hK:∀a w,K a w→E a w)(hp:∀I a w,R (.panic I) a w→R' (.panic I) a w)(ho:∀a w,R .outgrown a w→R' .outgrown a w):o.wp P a w E R':=by
 unfold Oper.wp at *;generalize (execOp a.eval o).run P w=r at *;cases r with
 | ok z w' =>
  cases z<;>simp only[Oper.upon] at h ⊢ <;>
   first
    | exact hK _ _ h
    | exact Calls.mono h (fun e O he=>by cases e<;>first|exact hK _ _ he|exact hp _ _ _ he|exact(let ⟨a,w,q⟩:=he;⟨a,w,ho a w q⟩))
    | exact Rows.mono h (fun _ _ he=>hK _ _ he)
 | halt z w'=>cases z<;>simp only[Oper.upon] at h ⊢<;>first|exact hp _ _ _ h|exact h
def F3(o:Oper):Bool:=match o.op with
 | .extract _ _=>o.guard.isNone
 | .move _=>o.guard.isNone
 | _=>false
def zx(ops:Array Oper)(j:Nat)(o:Oper):Bool:=F3 o&&(range ops.size).all fun k=>Nat.beq k j||(match ops[k]? with
   | some p=>p.after.any (fun e=>Region.binds .any e&&Nat.beq e.on j)||o.after.any (fun e=>Region.binds .any e&&Nat.beq e.on k)||o.apart ops p
   | none=>true)
def Df(o:Oper):List Nat:=o.after.toList.filterMap fun e=>bif Region.binds .any e then some e.on else none
def Ch(ops:Array Oper):Nat→List Nat→List Nat
 | 0,s=>s
 | i+1,s=>Ch ops i (bif s.elem i then (match ops[i]? with|some o=>Df o|none=>[])++s else s)
theorem SZ{o:Oper}{k:Nat}(h:k∈Df o):∃e∈o.after,Region.binds .any e=true∧e.on=k:=by
 obtain⟨e,he,hk⟩:=mem_filterMap.1 h;cases hb:Region.binds .any e with
 | true=>rw[hb] at hk;exact⟨e,Array.mem_def.2 he,hb,Option.some.inj hk⟩
 | false=>rw[hb] at hk;cases hk
theorem Pz{D:Nat→Prop}(E:∀k o,ops[k]?=some o→D k→∀e∈o.after,Region.binds .any e=true→D e.on):∀(i:Nat) (s:List Nat),(∀k∈s,D k)→∀k∈Ch ops i s,D k
 | 0,s,h=>h
 | i+1,s,h=>by
  unfold Ch;refine Pz E i _ fun k hk=>?_;cases he:s.elem i with
  | false=>rw[he] at hk;exact h k hk
  | true =>
   rw[he,cond_true] at hk;rcases mem_append.1 hk with hk|hk
   ·cases ho:ops[i]? with
    | none=>rw[ho] at hk;cases hk
    | some o =>
     rw[ho] at hk;obtain⟨e,h1,h2,h3⟩:=SZ hk;rw[←h3];exact E i o ho (h i (elem_iff.1 he)) e h1 h2
   exact h k hk
def qL(m:Nat)(ops:Array Oper):Bool:=(range ops.size).all fun j=>match ops[j]? with
 | some o=>o.after.all (fun e=>!Region.binds .any e||Nat.blt e.on j) &&
  (bif Nat.blt j m then (match o.guard with|some (g,_)=>Nat.blt g m|none=>true)
  else bif Nat.beq j m then (range m).all (fun k=>(Ch ops m (Df o)).elem k||(match ops[k]? with|some p=>zx ops k p|none=>false)) else o.after.any (fun e=>Region.binds .any e&&Nat.beq e.on (j-1)))
 | none=>true
theorem Kz{o:Oper}{k:Nat}(h:o.after.any (fun e=>Region.binds .any e&&Nat.beq e.on k)=true):∃e∈o.after,Region.binds .any e=true∧e.on=k:=by
 obtain⟨e,he,hb⟩:=Array.any_eq_true'.1 h;rw[Bool.and_eq_true] at hb;exact⟨e,he,hb.1,Nat.eq_of_beq_eq_true hb.2⟩
theorem tH(h:qL m ops=true){j:Nat}{o:Oper}(hj:ops[j]?=some o):(∀e∈o.after,Region.binds .any e=true→e.on<j)∧(j<m→∀g b,o.guard=some (g,b)→g<m) ∧
  (m≤j→(j=m∧∀k,k<m→k∈Ch ops m (Df o)∨(∃p,ops[k]?=some p∧zx ops k p=true))∨(m<j∧∃e∈o.after,Region.binds .any e=true∧e.on=j-1)) ∧
  (zx ops j o=true→∀k p,ops[k]?=some p→k≠j→(∃e∈p.after,Region.binds .any e=true∧e.on=j)∨(∃e∈o.after,Region.binds .any e=true∧e.on=k)∨o.apart ops p=true):=by
 have aa:=(Array.getElem?_eq_some_iff.1 hj).1;have:=all_eq_true.1 h j (mem_range.2 aa);simp only[hj,Bool.and_eq_true] at this;obtain⟨h1,h2⟩:=this;have eJ:j<m→(match o.guard with|some (g,_)=>Nat.blt g m|none=>true)=true:=fun hm=>by
  have I:Nat.blt j m=true:=Nat.ble_eq_true_of_le hm;rw[I,cond_true] at h2;exact h2
 refine⟨fun e he hb=>?_,fun hm g b hg=>?_,fun hm=>?_,fun hf k p hp O=>?_⟩
 ·have:=Array.all_eq_true'.1 h1 e he;simp only[hb,Bool.not_true,Bool.false_or] at this;exact Nat.le_of_ble_eq_true this
 ·have h3:=eJ hm;rw[hg] at h3;exact Nat.le_of_ble_eq_true h3
 ·have I:Nat.blt j m=false:=by
   cases hq:Nat.blt j m with
   | false=>rfl
   | true=>have:=Nat.le_of_ble_eq_true hq;omega
  rw[I,cond_false] at h2;cases E:Nat.beq j m with
  | false =>
   rw[E,cond_false] at h2;refine .inr ⟨?_,Kz h2⟩;rcases Nat.lt_or_eq_of_le hm with h|h
   ·exact h
   rw[←h,Nat.beq_refl] at E;cases E
  | true =>
   rw[E,cond_true] at h2;refine .inl ⟨Nat.eq_of_beq_eq_true E,fun k hk=>?_⟩;have:=all_eq_true.1 h2 k (mem_range.2 hk);rw[Bool.or_eq_true] at this;rcases this with h3|h3
   ·exact .inl (elem_iff.1 h3)
   refine .inr ?_;cases q8:ops[k]? with
   | none=>rw[q8] at h3;cases h3
   | some p=>rw[q8] at h3;exact⟨p,rfl,h3⟩
 have h3:=hf;unfold zx at h3;rw[Bool.and_eq_true] at h3;have:=all_eq_true.1 h3.2 k (mem_range.2 (Array.getElem?_eq_some_iff.1 hp).1);have hb:Nat.beq k j=false:=by
  cases hq:Nat.beq k j with
  | false=>rfl
  | true=>exact absurd (Nat.eq_of_beq_eq_true hq) O
 simp only[hb,hp,Bool.false_or,Bool.or_eq_true] at this;rcases this with (h4|h4)|h4
 ·exact .inl (Kz h4)
 ·exact .inr (.inl (Kz h4))
 exact .inr (.inr h4)
theorem acT{R:Exit→Act→World→Prop}(hq:qL m ops=true):∀(k s fuel:Nat) (ld:Array Bool) (a:Act) (w:World),m≤s→s+k=ops.size→k≤fuel→ld.size=ops.size→(∀j,j<s→ld.getD j true=true)→(∀j,s≤j→j<ops.size→ld.getD j true=false)→wpOps P ops R (range' s k) a w→wpAny P .any ops R fuel ld a w:=by
 intro k;induction k with
 | zero =>
  intro s fuel ld a w hs hk hf I h1 h2 h;have hr:Region.ready .any ops ld=[]:=by
   rw[eq_nil_iff_forall_not_mem];intro j hj;obtain⟨q1,o,q2,_⟩:=mem_ready.1 hj;have aa:=(Array.getElem?_eq_some_iff.1 q2).1;rw[h1 j w4] at q1;cases q1
  have hn:R .normal a w:=h;cases fuel with
  | zero=>exact⟨hr,hn⟩
  | succ f=>exact⟨fun _=>hn,by rw[hr];simp⟩
 | succ k ih =>
  intro s fuel ld a w hs hk hf I h1 h2 h;obtain⟨f,rfl⟩:∃f,fuel=f+1:=⟨fuel-1,by omega⟩
  have U:∀e,e<s→ld.getD e false=true:=fun e he=>by
   have:=h1 e he;rw[Array.getD_eq_getD_getElem?] at this ⊢;rw[Array.getElem?_eq_getElem w4] at this ⊢;exact this
  have O:s∈Region.ready .any ops ld:=mem_ready.2 ⟨h2 s (Nat.le_refl _) w4,ops[s]'w4,Array.getElem?_eq_getElem w4,fun e he hb=>U _ ((tH hq (Array.getElem?_eq_getElem w4)).1 e he hb)⟩;refine⟨fun h0=>(by rw[h0] at O;cases O),fun i hi=>?_⟩;obtain⟨q1,o,q2,q3⟩:=mem_ready.1 hi;have fC:=(Array.getElem?_eq_some_iff.1 q2).1;have Z:i=s:=by
   rcases Nat.lt_trichotomy i s with q|q|q
   ·rw[h1 i q] at q1;cases q1
   ·exact q
   rcases(tH hq q2).2.2.1 w4 with h9|⟨_,e,he,hb,jP⟩
   ·omega
   have h5:=q3 e he hb;rw[jP] at h5;have h6:=h2 (i-1) w4 w4;rw[Array.getD_eq_getD_getElem?,Array.getElem?_eq_getElem w4] at h5 h6;simp only[Option.getD_some] at h5 h6;rw[h5] at h6;cases h6
  subst Z;rw[range'_succ,wpOps_cons] at h;have E:∀j,(ld.setIfInBounds i true).getD j true=if j=i then true else ld.getD j true:=fun j=>by
   by_cases hj:j=i
   ·subst hj;simp[Array.getD_eq_getD_getElem?,Array.getElem?_setIfInBounds,I,fC]
   simp[Array.getD_eq_getD_getElem?,Array.getElem?_setIfInBounds,hj,Ne.symm hj]
  refine wpOp_mono (fun a' w' h'=>ih (i+1) f _ a' w' w4 w4 w4 (by simpa using I) (fun j hj=>?_) (fun j hj ju=>?_) h') h
  ·rw[E];split
   ·rfl
   exact h1 j w4
  rw[E,if_neg w4];exact h2 j w4 ju
theorem acU{R:Exit→Act→World→Prop}(hq:qL m ops=true)(hm:m≤ops.size)(hn:∀a w,R' .normal a w→wpOps P ops R (range' m (ops.size-m)) a w)(hp:∀ch a w,R' (.panic ch) a w→R (.panic ch) a w)(ho:∀a w,R' .outgrown a w→R .outgrown a w)(mH:Region.noSelect ops=true)(hQ:∀(d:Option Nat) v c a w,R (.panic c) (a.put d v) w→R (.panic c) a w) :
  ∀(fuel:Nat) (ld:Array Bool) (a:Act) (w:World),ld.size=m→(∀k o,ops[k]?=some o→ld.getD k false=true→∀e∈o.after,Region.binds .any e=true→ld.getD e.on false=true)→wpAny P .any (ops.toList.take m).toArray R' fuel ld a w→wpAny P .any ops R (fuel+(ops.size-m)) (ld++Array.replicate (ops.size-m) false) a w:=by
 have E:∀i,i<m→(ops.toList.take m).toArray[i]?=ops[i]?:=fun i hi=>by simp[getElem?_take,hi]
 have Yf:(ops.toList.take m).toArray.size=m:=(by simp;omega)
 -- what may ajs up apu the first apZ
 have O:∀(ld:Array Bool) (b:Bool),ld.size=m→∀j,j<m→(ld++Array.replicate (ops.size-m) false).getD j b=ld.getD j b:=fun ld b hs j hj=>by
  rw[Array.getD_eq_getD_getElem?,Array.getD_eq_getD_getElem?,Array.getElem?_append_left w4]
 have Wb:∀(ld:Array Bool) (b:Bool),ld.size=m→∀j,m≤j→j<ops.size→(ld++Array.replicate (ops.size-m) false).getD j b=false:=fun ld b hs j hj ju=>by
  rw[Array.getD_eq_getD_getElem?,Array.getElem?_append_right w4,hs];simp[Array.getElem?_replicate,show j-m<ops.size-m by omega]
 have AF:∀(ld:Array Bool),ld.size=m→∀i,i<m→(i∈Region.ready .any ops (ld++Array.replicate (ops.size-m) false)↔i∈Region.ready .any (ops.toList.take m).toArray ld):=fun ld hs i hi=>by
  rw[mem_ready,mem_ready,E i hi,O ld true hs i hi];constructor
  ·rintro⟨q1,o,q2,q3⟩;exact⟨q1,o,q2,fun e he hb=>by have:=q3 e he hb;rwa [O ld false hs _ (Nat.lt_trans ((tH hq q2).1 e he hb) hi)] at this⟩
  rintro⟨q1,o,q2,q3⟩;exact⟨q1,o,q2,fun e he hb=>by rw[O ld false hs _ (Nat.lt_trans ((tH hq q2).1 e he hb) hi)];exact q3 e he hb⟩
 -- aoH may ajs up: all have
 have fm:∀(ld:Array Bool),ld.size=m→Region.ready .any (ops.toList.take m).toArray ld=[]→∀j,j<m→ld.getD j true=true:=fun ld hs hr j=>by
  induction j using Nat.strongRecOn with
  | _ j ih =>
   intro hj;cases hl:ld.getD j true with
   | true=>rfl
   | false =>
    have tg:ops[j]?=some (ops[j]'w4):=Array.getElem?_eq_getElem w4;have:j∈Region.ready .any (ops.toList.take m).toArray ld:=mem_ready.2 ⟨hl,ops[j]'w4,by rw[E j hj];exact tg,fun e he hb=>by
     have aa:=(tH hq tg).1 e he hb;have:=ih e.on aa w4;rw[Array.getD_eq_getD_getElem?] at this ⊢;rw[Array.getElem?_eq_getElem w4] at this ⊢;exact this⟩
    rw[hr] at this;cases this
 have ny:∀(fuel:Nat) (ld:Array Bool) (a:Act) (w:World),ld.size=m→ops.size-m≤fuel→Region.ready .any (ops.toList.take m).toArray ld=[]→R' .normal a w→wpAny P .any ops R fuel (ld++Array.replicate (ops.size-m) false) a w:=fun fuel ld a w hs hf hr h =>
  acT hq (ops.size-m) m fuel _ a w (Nat.le_refl _) w4 hf ig (fun j hj=>by rw[O ld true hs j hj];exact fm ld hs hr j hj) (fun j hj ju=>Wb ld true hs j hj ju) (hn a w h)
 intro fuel;induction fuel with
 | zero=>intro ld a w hs _ h;rw[Nat.zero_add];exact ny _ ld a w hs (Nat.le_refl _) h.1 h.2
 | succ fuel ih =>
  intro ld a w hs ku h;obtain⟨h1,h2⟩:=h;have zE:∀i,i∈Region.ready .any (ops.toList.take m).toArray ld→∀k o,ops[k]?=some o→(ld.setIfInBounds i true).getD k false=true→∀e∈o.after,Region.binds .any e=true→(ld.setIfInBounds i true).getD e.on false=true:=fun i hi k o hk hd e he hb=>by
   have F4:∀j,ld.getD j false=true→(ld.setIfInBounds i true).getD j false=true:=fun j hj=>by
    rw[Array.getD_eq_getD_getElem?] at hj ⊢;rw[Array.getElem?_setIfInBounds];split
    ·split
     ·rfl
     rename_i h1 h2;subst h1;rw[Array.getElem?_eq_none w4] at hj;cases hj
    exact hj
   refine F4 _ ?_;by_cases Yg:i=k
   ·subst Yg;obtain⟨q1,o',q2,q3⟩:=mem_ready.1 hi;have I:i<m:=(by have:=(Array.getElem?_eq_some_iff.1 q2).1;omega)
    rw[E i I,hk] at q2;obtain rfl:=Option.some.inj q2;exact q3 e he hb
   refine ku k o hk ?_ e he hb;rw[Array.getD_eq_getD_getElem?,Array.getElem?_setIfInBounds,if_neg Yg] at hd;rw[Array.getD_eq_getD_getElem?];exact hd
  by_cases hr:Region.ready .any (ops.toList.take m).toArray ld=[]
  ·exact ny _ ld a w hs w4 hr (h1 hr)
  rw[show fuel+1+(ops.size-m)=(fuel+(ops.size-m))+1 by omega];have sM:∀i,i<m→(ld++Array.replicate (ops.size-m) false).setIfInBounds i true=ld.setIfInBounds i true++Array.replicate (ops.size-m) false:=fun i I=>by
   rw[Array.setIfInBounds_append_left w4]
  by_cases jw:∃f o,f∈Region.ready .any (ops.toList.take m).toArray ld∧ops[f]?=some o∧zx ops f o=true
  ·
   obtain⟨f,o,hf,vP,Z⟩:=jw;have U:F3 o=true:=(by unfold zx at Z;rw[Bool.and_eq_true] at Z;exact Z.1)
   have Hv:f<m:=by
    obtain⟨_,o',q2,_⟩:=mem_ready.1 hf;have:=(Array.getElem?_eq_some_iff.1 q2).1;omega
   have h3:=h2 f hf;unfold wpOp at h3;rw[E f Hv,vP] at h3;have hg:o.guard=none:=by
    unfold F3 at U;split at U
    ·exact Option.isNone_iff_eq_none.1 U
    ·exact Option.isNone_iff_eq_none.1 U
    cases U
   have CO:∀(Yh:Array Oper),Region.wanted o (yielded Yh a.tmps)=true:=fun Yh=>by simp[Region.wanted,hg]
   simp only[CO,if_true] at h3;obtain⟨v,hy,h4⟩:∃v,(∀w',(execOp a.eval o).run P w' = .ok (.value v) w')∧wpAny P .any (ops.toList.take m).toArray R' fuel (ld.setIfInBounds f true) (a.put o.dst v) w:=by
    have hc:(∃v,execOp a.eval o=Sem.pure (.value v))∨∃s,execOp a.eval o=Sem.halt (.stuck s):=by
     unfold F3 at U;split at U
     ·rename_i y i AG;unfold execOp;rw[AG];show(∃v,(Instr.extract (a.eval y) i).bind _=_)∨∃s,(Instr.extract (a.eval y) i).bind _=_;unfold Instr.extract;split
      ·split
       ·exact .inl ⟨_,rfl⟩
       exact .inr ⟨_,rfl⟩
      exact .inr ⟨_,rfl⟩
     ·rename_i y AG;unfold execOp;rw[AG];exact .inl ⟨_,rfl⟩
     cases U
    have vQ:¬o.asks P a w:=fun ha=>by
     unfold Oper.asks at ha;rcases hc with ⟨v,e⟩|⟨s,e⟩<;>rw[e] at ha<;>simp[Sem.runT] at ha
    rcases h3 with h3|⟨h3,_⟩
    rotate_left
    ·exact absurd h3 vQ
    unfold Oper.wp at h3;rcases hc with ⟨v,e⟩|⟨s,e⟩
    ·refine⟨v,fun w'=>by rw[e];rfl,?_⟩;rw[e] at h3;exact h3
    rw[e] at h3;exact h3.elim
   refine wpAny_first (v:=v) vP (Region.noSelect_spec mH) (hQ _ _) _ _ a w (fun j oj ye hji lm Au=>?_) ((AF ld hs f Hv).2 hf) (.inl ⟨CO _,hy⟩) ?_
   ·rcases(tH hq vP).2.2.2 Z j oj ye hji with ⟨e,he,hb,jP⟩|⟨e,he,hb,jP⟩|h5
    ·exact absurd jP (Au e he hb)
    ·obtain⟨_,o',p1,p2⟩:=mem_ready.1 ((AF ld hs f Hv).2 hf);rw[vP] at p1;obtain rfl:=Option.some.inj p1;have h6:=p2 e he hb;rw[jP] at h6;rw[Array.getD_eq_getD_getElem?] at h6 lm;cases hx:(ld++Array.replicate (ops.size-m) false)[j]? with
     | none=>rw[hx] at h6;cases h6
     | some b=>rw[hx] at h6 lm;simp only[Option.getD_some] at h6 lm;rw[h6] at lm;cases lm
    exact h5
   rw[sM f Hv];exact ih _ _ _ (by simpa using hs) (zE f hf) h4
  have LL:∀i,i∈Region.ready .any ops (ld++Array.replicate (ops.size-m) false)→i<m:=fun i hi=>by
   rcases Nat.lt_or_ge i m with q|q
   ·exact q
   obtain⟨q1,o,q2,q3⟩:=mem_ready.1 hi;refine absurd ?_ hr;rw[eq_nil_iff_forall_not_mem];intro j hj;obtain⟨p1,o',p2,_⟩:=mem_ready.1 hj;have Nw:j<m:=(by have:=(Array.getElem?_eq_some_iff.1 p2).1;omega)
   have ap0:=(Array.getElem?_eq_some_iff.1 q2).1;rcases(tH hq q2).2.2.1 q with ⟨rfl,hw⟩|⟨aa,e,he,hb,jP⟩
   ·rcases hw j Nw with hw|⟨p,h8,h9⟩
    ·have hd:=Pz (ops:=ops) (D:=fun k=>ld.getD k false=true) ku i (Df o) (fun k hk=>by
      obtain⟨e,he,hb,jP⟩:=SZ hk;have h5:=q3 e he hb;have h6:=(tH hq q2).1 e he hb;rw[O ld false hs _ h6,jP] at h5;exact h5) j hw
     rw[Array.getD_eq_getD_getElem?,Array.getElem?_eq_getElem w4] at hd p1;simp only[Option.getD_some] at hd p1;rw[hd] at p1;cases p1
    exact jw ⟨j,p,hj,h8,h9⟩
   have h5:=q3 e he hb;rw[jP,Wb ld false hs (i-1) w4 w4] at h5;cases h5
  refine⟨fun h0=>?_,fun i hi=>?_⟩
  ·obtain⟨i,hi⟩:=exists_mem_of_ne_nil _ hr;have fC:i<m:=by
    obtain⟨_,o,q2,_⟩:=mem_ready.1 hi;have:=(Array.getElem?_eq_some_iff.1 q2).1;omega
   have:=(AF ld hs i fC).2 hi;rw[h0] at this;cases this
  have I:=LL i hi;have h3:=h2 i ((AF ld hs i I).1 hi);rw[sM i I];unfold wpOp at h3 ⊢;rw[E i I] at h3;have Yi:ops[i]?=some (ops[i]'w4):=Array.getElem?_eq_getElem w4;rw[Yi] at h3 ⊢;have hw:Region.wanted (ops[i]'w4) (yielded (ops.toList.take m).toArray a.tmps)=Region.wanted (ops[i]'w4) (yielded ops a.tmps):=by
   unfold Region.wanted;cases hg:(ops[i]'w4).guard with
   | none=>rfl
   | some p =>
    obtain⟨g,b⟩:=p;have:=(tH hq Yi).2.1 I g b hg;simp only[yielded,E g this]
  simp only[hw] at h3 ⊢;split
  ·rename_i Nx;simp only[Nx,if_true] at h3;rcases h3 with h3|⟨h3,a0,w0,h4⟩
   ·exact .inl (acS h3 (fun a' w' h'=>ih _ a' w' (by simpa using hs) (zE i ((AF ld hs i I).1 hi)) h') hp ho)
   exact .inr ⟨h3,a0,w0,ho _ _ h4⟩
  rename_i Nx;simp only[Nx] at h3;exact ih _ _ _ (by simpa using hs) (zE i ((AF ld hs i I).1 hi)) h3
theorem agq(mH:Region.noSelect l.toArray=true)(nK:NP Q)(hq:qL m l.toArray=true)(hm:m≤l.length){fuel:Nat}{w:World}(hs:ld.size=m)(E:∀k,ld.getD k false=false)(h:wpAny P .any (l.take m).toArray (LQ C (Tl P C l.toArray (l.drop m) Q)) fuel ld a w):wpAny P .any l.toArray (LQ C Q) (fuel+(l.length-m)) (ld++Array.replicate (l.length-m) false) a w:=by
 have h1:=acU (P:=P) (ops:=l.toArray) (R:=LQ C Q) (R':=LQ C (Tl P C l.toArray (l.drop m) Q)) hq (by simpa using hm) (fun a w h=>by
  rcases h with ⟨y,h1,h2⟩|⟨h1,_⟩
  ·have:=wpOps_eq_wpList (P:=P) (ops:=l.toArray) (Q:=LQ C Q) (l.drop m) m (fun j=>by simp);rw[length_drop] at this;rw[show l.toArray.size-m=l.length-m by simp,this];exact h2 a w h1
  cases h1) (fun I a w h=>h) (fun a w h=>h) mH (fun d v=>zm nK d v) fuel ld a w hs (fun k o hk hd=>by rw[E k] at hd;cases hd)
 simpa using h1 px
theorem CD.F5 (m:Nat) (T:List Nat) (mH:Region.noSelect l.toArray=true) (nK:NP Q) (hm:P.follows .mixedOrders=true) (hl:m≤l.length) (hq:qL m l.toArray=true) (hT:∀b∈T,b∈av x.S)
  (h:dH P C (l.take m).toArray (av x.S) T m (Array.replicate m false) x (Tl P C l.toArray (l.drop m) Q)):CD P C (.region id l.toArray true) x Q:=fun a w hs =>
 wp_region_any hm (by
  have h1:=h a {w with drawn:=w.drawn+1} ⟨hs.defers,hs.size,fun t ht=>(hs.env t ht).mono fun b _ hn=>⟨rfl,hn⟩,⟨fun B E=>by
   obtain⟨r0,cur,r1,r2,r3,I⟩:=hs.own.at_ B E;exact⟨r0,cur,r1,r2,r3,fun i hi=>by
    obtain⟨u,hu,hq⟩:=I i hi;exact⟨u,hu,hq.mono fun b _ hn=>⟨rfl,hn⟩⟩⟩,hs.own.apart⟩,⟨hs.fr.os,hs.fr.tape,hs.fr.output,hs.fr.size,hs.fr.block⟩,hs.ex,hs.eK⟩ rfl hT
  have h2:=agq mH nK hq hl bq (fun k=>by rw[Array.getD_eq_getD_getElem?,Array.getElem?_replicate];split<;>rfl) (wpAny_of_held _ _ _ _ h1);rw[Array.replicate_append_replicate,show m+(l.length-m)=l.length by omega] at h2;simpa using h2)
theorem CD.pdT(mH:Region.noSelect l.toArray=true)(nK:NP Q)(hm:P.follows .mixedOrders=true)(hl:m≤l.length)(hq:qL m l.toArray=true)(hp:mE (l.take m).toArray=true)(h:PD true P C.G n S (l.take m).toArray (l.take m) e [] e')(K:OD P C l.toArray (l.drop m) ⟨n,e',S⟩ Q):CD P C (.region id l.toArray true) ⟨n,e,S⟩ Q :=
 CD.F5 m [] mH nK hm hl hq (fun _ hb=>by cases hb) (by
  have:=dH.pd (C:=C) (Q:=Tl P C l.toArray (l.drop m) Q) hp px K;have hz:(l.take m).toArray.size=m:=(by simp;omega)
  rw[hz] at this;exact this)

theorem bH.bare{w:World}(hs:bH C ⟨n,e,B++S⟩ a w):bH ⟨fun b=>C.X b∨b∈av B,w,av S,C.G,C.df,C.CX⟩ ⟨n,e,S⟩ a w∧live C.X (B++S)=live (fun b=>C.X b∨b∈av B) S∧∀b∈av B,b∉av S:=by
 have hl:live C.X (B++S)=live (fun b=>C.X b∨b∈av B) S:=by
  funext b;simp only[live,av,map_append,mem_append,eq_iff_iff];constructor
  ·rintro(h1|h1|h1)
   ·exact .inl (.inl h1)
   ·exact .inl (.inr h1)
   exact .inr h1
  rintro((h1|h1)|h1)
  ·exact .inl h1
  ·exact .inr (.inl h1)
  exact .inr (.inr h1)
 have I:av (B++S)=av B++av S:=(by simp[av])
 have hnd:=hs.own.apart;simp only[I] at hnd;have E:∀b∈av B,b∉av S:=fun b h1 h2=>(nodup_append.1 hnd).2.2 b h1 b h2 rfl;refine⟨⟨hs.defers,hs.size,fun q hq=>?_,⟨fun A hA=>?_,(nodup_append.1 hnd).2.1⟩,Fr.refl _ _,fun b hb=>?_,fun g hg=>?_⟩,hl,E⟩
 ·have:=hs.env q hq;simp only[hl] at this;exact this
 ·have:=hs.own.at_ A (mem_append_right _ hA);simp only[hl] at this;exact this
 ·rcases hb with hb|hb
  ·obtain⟨h1,h2⟩:=hs.ex b hb;exact⟨Nat.lt_of_lt_of_le h1 hs.fr.size,fun hm=>(hs.fr.block b h1 h2).2 (by simp only[I];exact mem_append_right _ hm)⟩
  obtain⟨A,hA,rfl⟩:=mem_map.1 hb;exact⟨(hs.own.at_ A (mem_append_left _ hA)).1,E _ hb⟩
 obtain⟨⟨h1,h2,h3⟩,h4⟩:=hs.eK g hg;have h5:=hs.fr.block g.1 h1 h2;simp only[I] at h5;exact⟨⟨Nat.lt_of_lt_of_le h1 hs.fr.size,fun hm=>h5.2 (mem_append_right _ hm),fun hm=>hm.elim h3 fun hm=>h5.2 (mem_append_left _ hm)⟩,fun i v hi=>(h4 i v hi).on h5.1⟩
theorem fM.frame(h:fM P G ⟨n,e,S⟩ o [] (fun y=>y=⟨n,(t,d)::e,S⟩)):fM P G ⟨n,e,B++S⟩ o [] (fun y=>y=⟨n,(t,d)::e,B++S⟩):=fun C a w K Q hG hs hK=>by
 obtain⟨ux,hl,E⟩:=hs.bare;have O:av (B++S)=av B++av S:=(by simp[av])
 refine h ⟨fun b=>C.X b∨b∈av B,w,av S,C.G,C.df,C.CX⟩ a w K Q hG ux fun y a' w' hy k hc hf=>?_;subst hy;have I:Fr w (av (B++S)) w' (av (B++S)):=⟨hf.os,hf.tape,hf.output,hf.size,fun b h1 h2=>⟨(hf.block b h1 (fun hm=>h2 (by rw[O];exact mem_append_right _ hm))).1,h2⟩⟩
 refine hK _ a' w' rfl ⟨k.defers,k.size,fun q hq=>?_,⟨fun A hA=>?_,hs.own.apart⟩,hs.fr.trans I,hs.ex,hs.eK⟩ hc I
 ·have:=k.env q hq;simp only[hl];exact this
 simp only[hl];rcases mem_append.1 hA with hA|hA
 ·obtain⟨r0,cur,r1,r2,r3,r4⟩:=hs.own.at_ A (mem_append_left _ hA);have U:A.b∈av B:=mem_map.2 ⟨A,hA,rfl⟩;have Z:=(hf.block A.b r0 (E _ U)).1;refine⟨qz r0 Z,cur,Z.trans r1,r2,r3,fun i hi=>?_⟩;obtain⟨u,hu,hr⟩:=r4 i hi;simp only[hl] at hr;exact⟨u,hu,hr.mono fun b h1 h2=>⟨(hf.block b h1 (fun hm=>h2 (.inr hm))).1,h2⟩⟩
 exact k.own.at_ A hA
theorem bZ.frame{b:Bool}(h:bZ ops ⟨n,e,S⟩ o b):bZ ops ⟨n,e,B++S⟩ o b:=fun C a w hs=>h _ a w hs.bare.1
theorem bH.UE{a':Act}{w w':World}{v:Value}(h:bH C ⟨n,e,S⟩ a w)(k:bH C ⟨n,(t,d)::l',S'⟩ a' w')(hf:Fr w (av S) w' (av S'))(I:a'.tmps=(a.put (some t) v).tmps):bH C ⟨n,(t,d)::e,S'⟩ a' w':=by
 refine⟨k.defers,k.size,fun q hq=>?_,k.own,k.fr,k.ex,k.eK⟩;by_cases E:t=q
 ·subst E;have:=k.env t hq;simp only[fW,if_pos] at this ⊢;exact this
 have h1:=h.env q hq;have h2:a'.tmps.getD q undef=a.tmps.getD q undef:=(by rw[I];simp[Act.put,Array.getD_eq_getD_getElem?,Array.getElem?_setIfInBounds,E])
 simp only[fW,if_neg E];rw[h2];exact h1.mono fun b hb hn=>⟨(hf.block b hb (fun hm=>hn (.inr hm))).1,fun hl=>hl.elim (fun hx=>hn (.inl hx)) fun hm=>(hf.block b hb (fun hm=>hn (.inr hm))).2 hm⟩
theorem aaf{z:Value}(ho:o.op = .alloc te)(hd:o.dst=some t)(hz:∀w,(zeroValue te).run P w = .ok z w)(hne:isMap te=false:=by rfl):fM P G ⟨n,e,S⟩ o [] (fun y=>y=⟨n,(t,.bV)::e,S⟩):=fun C a w K Q hG h hK =>
 Em (hne:=hne) ho hd hz rfl C a w K Q hG h fun y a' w' ⟨b,hy⟩ hs hc hf=>by
  subst hy;have h1:=Wk.drop n ((t,.v (.pointer (some ⟨b,0,none⟩)))::e) _ S (sublist_cons_self _ _) C a' w' hs;refine hK _ a' w' rfl ⟨h1.defers,h1.size,fun q hq=>?_,h1.own,h1.fr,h1.ex,h1.eK⟩ hc ⟨hf.os,hf.tape,hf.output,hf.size,fun b hb hn=>⟨(hf.block b hb hn).1,hn⟩⟩;have h2:=h1.env q hq;simp only[fW] at h2 ⊢;by_cases e1:t=q
  ·rw[if_pos e1];exact .bV _
  rw[if_neg e1] at h2 ⊢;exact h2
def bx(te:TypeId)(ds:List D):Option Nat→List ah
 | some b=>[⟨b,te,ds.length,ds⟩]
 | none=>[]
theorem aeM {eF:List (Nat×D)} {w1:World} {ia:Nat} {ds:List D} (mj:ops[ia]?=some oa) (lJ:oa.dst=some ta) (yf:oa.guard=none) (hE:∀S',fM P C.G ⟨n,[],S'⟩ oa [] (wI ⟨n,[],S'⟩ ta te ds))
  (hj:look ta eF = .bV) (hp:mE ops=true) (H:∀i,i<ops.size→Gd P C.G n S ops eF i) (hQ:∀b,Q .normal ⟨n,(ta,.v (.pointer (some ⟨b,0,none⟩)))::eF,⟨b,te,ds.length,ds⟩::S⟩):∀(fuel:Nat) (ld:Array Bool) (env:List (Nat×D)) (ob:Option Nat) (a:Act) (w:World),
  left ops.size ld≤fuel→bH C ⟨n,env,bx te ds ob++S⟩ a w→Fr w1 S1 w (av (bx te ds ob++S))→(ld.getD ia true=true→∃b,ob=some b∧look ta env = .v (.pointer (some ⟨b,0,none⟩)))→(ld.getD ia true=false→ob=none) →
   (∀q,q≠ta→(∀j o,ops[j]?=some o→o.dst=some q→ld.getD j true=true)→look q env=look q eF)→wpAnyH P .any ops (LQ C Q) (kV w1 S1 []) fuel ld a w:=by
 have AH:∀j o,ops[j]?=some o→o.dst=some ta→j=ia:=fun j o hj hd=>by
  rcases Nat.lt_trichotomy j ia with q|q|q
  ·obtain⟨t',h1,h2⟩:=(wH hp mj).2;rw[lJ] at h1;obtain rfl:=Option.some.inj h1;exact absurd hd (h2 j o q hj)
  ·exact q
  obtain⟨t',h1,h2⟩:=(wH hp hj).2;rw[hd] at h1;obtain rfl:=Option.some.inj h1;exact absurd lJ (h2 ia oa q mj)
 have fh:∀(ld:Array Bool) (env:List (Nat×D)) (ob:Option Nat) (a:Act) (w:World),bH C ⟨n,env,bx te ds ob++S⟩ a w→(ld.getD ia true=true→∃b,ob=some b∧look ta env = .v (.pointer (some ⟨b,0,none⟩)))→(∀q,q≠ta→(∀j o,ops[j]?=some o→o.dst=some q→ld.getD j true=true)→look q env=look q eF)→(∀j,j<ops.size→ld.getD j true=true)→LQ C Q .normal a w:=fun ld env ob a w hs hb he fm=>by
  obtain⟨b,rfl,Ny⟩:=hb (fm ia (Array.getElem?_eq_some_iff.1 mj).1);refine .inl ⟨⟨n,(ta,.v (.pointer (some ⟨b,0,none⟩)))::eF,⟨b,te,ds.length,ds⟩::S⟩,⟨hs.defers,hs.size,fun q hq=>?_,hs.own,hs.fr,hs.ex,hs.eK⟩,hQ b⟩;have:=hs.env q hq;simp only[fW];by_cases E:ta=q
  ·subst E;rw[if_pos rfl];rw[Ny] at this;exact this
  rw[if_neg E];rw[he q (fun e=>E e.symm) fun j o hj _=>fm j (Array.getElem?_eq_some_iff.1 hj).1] at this;exact this
 intro fuel;induction fuel with
 | zero =>
  intro ld env ob a w hl hs hf hb jS he;have fm:∀j,j<ops.size→ld.getD j true=true:=fun j hj=>by
   cases hq:ld.getD j true with
   | true=>rfl
   | false=>have:=yZ hj hq;omega
  refine⟨?_,fh ld env ob a w hs hb he fm⟩;rw[eq_nil_iff_forall_not_mem];intro j hj;obtain⟨h1,o,h2,_⟩:=mem_ready.1 hj;have:=fm j (Array.getElem?_eq_some_iff.1 h2).1;rw[h1] at this;cases this
 | succ fuel ih =>
  intro ld env ob a w hl hs hf hb jS he;refine⟨fun h0=>fh ld env ob a w hs hb he (Kx hp h0),fun i hi=>?_⟩;obtain⟨lm,o,I,Ce⟩:=mem_ready.1 hi;have aa:=(Array.getElem?_eq_some_iff.1 I).1;have V8:=yZ aa lm;have O:∀j,(ld.setIfInBounds i true).getD j true=true↔j=i∨ld.getD j true=true:=fun j=>by
   by_cases hj:j=i
   ·subst hj;have iu:j<ld.size:=by
     rcases Nat.lt_or_ge j ld.size with h|h
     ·exact h
     rw[Array.getD_eq_getD_getElem?,Array.getElem?_eq_none h] at lm;cases lm
    simp[Array.getD_eq_getD_getElem?,Array.getElem?_setIfInBounds,iu]
   simp[Array.getD_eq_getD_getElem?,Array.getElem?_setIfInBounds,hj,Ne.symm hj]
  by_cases rX:i=ia
  ·subst rX;rw[mj] at I;obtain rfl:=Option.some.inj I;obtain rfl:=jS lm;unfold wpOp;rw[mj];have hw:Region.wanted oa (yielded ops a.tmps)=true:=(by simp[Region.wanted,yf])
   simp only[hw,if_true];have nJ:bH C ⟨n,[],bx te ds none++S⟩ a w:=⟨hs.defers,hs.size,fun q hq=>.bV _,hs.own,hs.fr,hs.ex,hs.eK⟩
   have h2:=hE (bx te ds none++S) C a w (fun a' w'=>∃b,bH C ⟨n,[(ta,.v (.pointer (some ⟨b,0,none⟩)))],⟨b,te,ds.length,ds⟩::S⟩ a' w'∧Fr w (av S) w' (av (⟨b,te,ds.length,ds⟩::S))) (LQ C Q) rfl nJ (fun y a' w' ⟨b,hy⟩ U _ Z=>by subst hy;exact⟨b,U,Z⟩);refine .inl (Oper.wp_mono (fun a' w' h3=>?_) (yY h2));obtain⟨⟨b,h4,h5⟩,v,h6⟩:=h3;rw[lJ] at h6;have jw:Fr w1 S1 w' (av (bx te ds (some b)++S)):=hf.trans h5;refine⟨⟨fun b h2 h3=>(jw.block b h2 h3).1,fun b h2=>by cases h2⟩,ih _ ((ta,.v (.pointer (some ⟨b,0,none⟩)))::env) (some b) a' w' w4 (bH.UE (S:=S) hs h4 h5 h6) jw (fun _=>⟨b,rfl,by rw[fW,if_pos rfl]⟩) (fun h=>by have:=(O i).2 (.inl rfl);rw[this] at h;cases h) fun q hq rW=>?_⟩;rw[fW,if_neg (fun e=>hq e.symm)];refine he q hq fun j oj hj iW=>?_;rcases(O j).1 (rW j oj hj iW) with rfl|h2
   ·rw[mj] at hj;obtain rfl:=Option.some.inj hj;rw[lJ] at iW;exact absurd (Option.some.inj iW).symm hq
   exact h2
  obtain⟨o',t,ts,l',h1,hd,hq,me,hk,Nz⟩:=H i aa;rw[I] at h1;obtain rfl:=Option.some.inj h1;have LM:t≠ta:=fun e=>rX (AH i o I (by rw[hd,e]))
  -- what it looks at is there,or nothing is said of it
  have jJ:bH C ⟨n,l',bx te ds ob++S⟩ a w:=⟨hs.defers,hs.size,fun q C6=>by
   by_cases hm:q∈ts
   ·have tu:=hm;rw[←hk] at tu;obtain⟨p,fE,rfl⟩:=mem_map.1 tu;obtain⟨h2,h3⟩:=me p fE;have h9:=hs.env p.1 C6;by_cases uw:p.1=ta
    ·rw[←h3,uw,hj];exact .bV _
    have:look p.1 env=look p.1 l':=by
     rw[←h3];refine he p.1 uw fun j oj hj iW=>?_;obtain⟨e1,s6,ji,jP⟩:=Fa hq hj iW h2;have:=Ce e1 s6 ji;rw[jP] at this;rw[Array.getD_eq_getD_getElem?] at this ⊢;cases hx:ld[j]? with
     | none=>rw[hx] at this;cases this
     | some b=>rw[hx] at this;exact this
    rw[this] at h9;exact h9
   have:look q l' = .bV:=by
    rw[←hk] at hm;exact EL hm
   rw[this];exact .bV _,hs.own,hs.fr,hs.ex,hs.eK⟩
  have jl:∀(a':Act) (w':World),bH C ⟨n,(t,look t eF)::env,bx te ds ob++S⟩ a' w'→Fr w (av (bx te ds ob++S)) w' (av (bx te ds ob++S))→kV w1 S1 [] w'∧wpAnyH P .any ops (LQ C Q) (kV w1 S1 []) fuel (ld.setIfInBounds i true) a' w':=fun a' w' U Z=>by
   have jw:Fr w1 S1 w' (av (bx te ds ob++S)):=hf.trans Z;have yg:(ld.setIfInBounds i true).getD ia true=ld.getD ia true:=by
    simp[Array.getD_eq_getD_getElem?,Array.getElem?_setIfInBounds,rX]
   refine⟨⟨fun b h2 h3=>(jw.block b h2 h3).1,fun b h2=>by cases h2⟩,ih _ _ ob a' w' w4 U jw (fun h=>?_) (fun h=>jS (by rw[yg] at h;exact h)) fun q Hw rW=>?_⟩
   ·rw[yg] at h;obtain⟨b,h2,h3⟩:=hb h;exact⟨b,h2,by rw[fW,if_neg LM];exact h3⟩
   rw[fW];by_cases E:t=q
   ·rw[if_pos E,E]
   rw[if_neg E];refine he q Hw fun j oj hj iW=>?_;rcases(O j).1 (rW j oj hj iW) with rfl|h2
   ·rw[I] at hj;obtain rfl:=Option.some.inj hj;rw[hd] at iW;exact absurd (Option.some.inj iW) E
   exact h2
  unfold wpOp;rw[I];rcases Nz with ⟨hw,NA⟩|⟨hw,hv⟩
  ·simp only[hw.frame (B:=bx te ds ob) C a w jJ,if_true];have h2:=NA.frame (B:=bx te ds ob) C a w (fun a' w'=>bH C ⟨n,(t,look t eF)::l',bx te ds ob++S⟩ a' w'∧Fr w (av (bx te ds ob++S)) w' (av (bx te ds ob++S))) (LQ C Q) rfl jJ (fun y a' w' hy U _ Z=>by subst hy;exact⟨U,Z⟩);refine .inl (Oper.wp_mono (fun a' w' h3=>?_) (yY h2));obtain⟨⟨h4,h5⟩,v,h6⟩:=h3;rw[hd] at h6;exact jl a' w' (hs.zq h4 h5 h6) h5
  simp only[hw.frame (B:=bx te ds ob) C a w jJ,hd];have:=hs.put (t:=t) (.v (w:=w) (L:=live C.X (bx te ds ob++S)) undef);rw[hv] at jl;exact jl _ w this (Fr.refl _ _)
theorem CD.pdA {ia:Nat} {z:Value} {ds:List D} (mH:Region.noSelect l.toArray=true) (nK:NP Q) (hm:P.follows .mixedOrders=true) (hl:m≤l.length) (hq:qL m l.toArray=true) (hp:mE (l.take m).toArray=true) (mj:(l.take m)[ia]?=some oa) (ho:oa.op = .alloc te) (lJ:oa.dst=some ta) (yf:oa.guard=none) (hz:∀w,(zeroValue te).run P w = .ok z w) (jQ:z.cells.toList.map .v=ds)
  (h:PD true P C.G n S (l.take m).toArray (l.take m) e [] e') (hj:look ta e' = .bV) (K:∀b,OD P C l.toArray (l.drop m) ⟨n,(ta,.v (.pointer (some ⟨b,0,none⟩)))::e',⟨b,te,ds.length,ds⟩::S⟩ Q) (hne:isMap te=false:=by rfl):CD P C (.region id l.toArray true) ⟨n,e,S⟩ Q :=
 CD.F5 m [] mH nK hm hl hq (fun _ hb=>by cases hb) (fun a w hs _ _=>by
  have h':PD true P C.G n S (l.take m).toArray (l.take m).toArray.toList e [] e':=(by simpa using h)
  have hg:=h'.xu hp rfl 0 rfl;have E:(l.take m).toArray[ia]?=some oa:=(by simpa using mj)
  have I:(l.take m).toArray.size=m:=(by simp;omega)
  refine aeM (Q:=Tl P C l.toArray (l.drop m) Q) E lJ yf (fun S'=>Em (hne:=hne) ho lJ hz jQ) hj hp (fun i hi=>hg i (Nat.zero_le _) hi) K _ _ e none a w ?_ hs (Fr.refl _ _) (fun h=>?_) (fun _=>rfl) fun q Z U=>?_
  ·rw[I];unfold left;exact Nat.le_trans (length_filter_le _ _) bq
  ·have aa:=(Array.getElem?_eq_some_iff.1 E).1;rw[I] at aa;simp[Array.getD_eq_getD_getElem?,aa] at h
  refine(h'.later fun o ho hd=>?_).symm;obtain⟨j,hj,rfl⟩:=mem_iff_getElem.1 ho;have O:j<(l.take m).toArray.size:=(by simpa using hj)
  have:=U j _ (by rw[←Array.getElem?_toList,getElem?_eq_getElem hj]) hd;rw[I] at O;simp[Array.getD_eq_getD_getElem?,O] at this)
variable {R:List (Nat×D)→Prop}
theorem Wk.agr(h:nQ e e'):Wk ⟨n,(t,d)::e,S⟩ ⟨n,(t,d)::e',S⟩:=fun C a w hs=>⟨hs.defers,hs.size,fun q hq=>by
 have h1:=hs.env q hq;simp only[fW] at h1 ⊢;by_cases e1:t=q
 ·rw[if_pos e1] at h1 ⊢;exact h1
 rw[if_neg e1] at h1 ⊢;rcases h.look q with h2|h2
 ·rw[h2];exact h1
 rw[h2];exact .bV _,hs.own,hs.fr,hs.ex,hs.eK⟩
theorem nD(m:Nat)(ts:List Nat)(h:PE true P C.G n S (l.take m).toArray ts (l.take m) e fun l'=>OD P C l.toArray (l.drop m) ⟨n,l',S⟩ Q)(hm:P.follows .mixedOrders=true:=by kernel_rfl)(hl:Nat.ble m l.length=true:=by kernel_rfl)(hq:qL m l.toArray=true:=by kernel_rfl)(hp:mE (l.take m).toArray=true:=by kernel_rfl)(mH:Region.noSelect l.toArray=true:=by kernel_rfl)(nK:NP Q:=by exact Hs):CD P C (.region id l.toArray true) ⟨n,e,S⟩ Q:=by
 obtain⟨e',l',h1,h2,K⟩:=h;exact CD.pdT mH nK hm (Nat.le_of_ble_eq_true hl) hq hp h1 (OD.wk (Wk.kC h2.kC) K)
theorem gX(m:Nat)(T:List Nat)(h:dH P C (l.take m).toArray (av x.S) T m (Array.replicate m false) x (Tl P C l.toArray (l.drop m) Q))(hT:∀b∈T,b∈av x.S)(hm:P.follows .mixedOrders=true:=by kernel_rfl)(hl:Nat.ble m l.length=true:=by kernel_rfl)(hq:qL m l.toArray=true:=by kernel_rfl)(mH:Region.noSelect l.toArray=true:=by kernel_rfl)(nK:NP Q:=by exact Hs):CD P C (.region id l.toArray true) x Q:=CD.F5 m T mH nK hm (Nat.le_of_ble_eq_true hl) hq hT h
theorem fw{T:List Nat}{fuel:Nat}{bn:Array Oper}{l2:List Oper}(K:OD P C bn l2 x Q)(hr:Region.ready .any ops ld=[]:=by kernel_rfl):AD P C ops S1 T fuel ld x (Tl P C bn l2 Q):=AD.done hr K
theorem s8 (m ia:Nat) (ts:List Nat) (h:PE true P C.G n S (l.take m).toArray ts (l.take m) e fun l'=>look ta l' = .bV∧∀b,OD P C l.toArray (l.drop m) ⟨n,(ta,.v (.pointer (some ⟨b,0,none⟩)))::l',⟨b,te,(zs.map D.v).length,zs.map .v⟩::S⟩ Q) (hm:P.follows .mixedOrders=true:=by kernel_rfl) (hl:Nat.ble m l.length=true:=by kernel_rfl) (hq:qL m l.toArray=true:=by kernel_rfl) (hp:mE (l.take m).toArray=true:=by kernel_rfl)
  (mj:(l.take m)[ia]?=some oa:=by exact rfl) (ho:oa.op = .alloc te:=by exact rfl) (lJ:oa.dst=some ta:=by exact rfl) (yf:oa.guard=none:=by exact rfl) (hz:sG P te=some zs:=by exact Sb.hz) (ht:ts.elem ta=true:=by exact rfl) (hne:isMap te=false:=by rfl) (mH:Region.noSelect l.toArray=true:=by kernel_rfl) (nK:NP Q:=by exact Hs):CD P C (.region id l.toArray true) ⟨n,e,S⟩ Q:=by
 obtain⟨e',l',h1,h2,hj,K⟩:=h;obtain⟨z,h3,h4⟩:=Bx hz;exact CD.pdA (hne:=hne) mH nK hm (Nat.le_of_ble_eq_true hl) hq hp mj ho lJ yf h3 (by rw[h4]) h1 (by rw[←h2.at (mem_of_elem_eq_true ht)];exact hj) fun b=>OD.wk (Wk.agr h2.kC) (K b)
theorem pA{c:Bool}{ts:List Nat}(K:PE c P G n S ops ts l ((t,.bV)::e) R)(ho:o.op = .alloc te:=by exact rfl)(hd:o.dst=some t:=by exact rfl)(hg:o.guard=none:=by exact rfl)(hz:sG P te=some zs:=by exact Sb.hz)(hq:(!c||mB ops o [])=true:=by kernel_rfl)(hne:isMap te=false:=by rfl):PE c P G n S ops ts (o::l) e R:=by
 obtain⟨z,h3,_⟩:=Bx hz;exact PE.cons hd fA.nil hq (sj hg) (aaf (hne:=hne) ho hd h3) K

end Go.Proofs.YtkgmonfgofobaaaGreatDoor.V
namespace Go.Proofs.YtkgmonfgofobaaaGreatDoor.V
open List
open Go.RowKit
variable {P:Program} {C:dx} {G:List (Nat×List Value)} {Q:Exit→St→Prop} {x:St} {ops:Array Oper} {l:List Oper} {o:Oper} {S1 T:List Nat} {fuel i:Nat} {ld:Array Bool}
variable {t e:TypeId} {sz cap:Nat} {y:Operand} {lo hi:Option Operand} {ad:Option Addr} {Sq:List ah}
theorem Ic {len j:Nat} {cs ds:List D} {k:IntKind} {i:Int} {z:Operand} (ho:o.op = .index t y z) (hy:aE x y = .agg cs) (hz:aE x z = .v (.int k i))
  (E:∀w,(underlying t).run P w = .ok (.array len e) w) (hs:∀w,(sizeOf e).run P w = .ok sz w) (ha:∀w,(isAgg e).run P w = .ok true w) (hi:i=j) (hj:j<len) (hd:(cs.drop (j*sz)).take sz=ds):bU P G x o .none (.agg ds):=fun C a w _ h=>by
 have hr:=h.eval y;rw[hy] at hr;generalize hg:a.eval y=u at hr;subst hi hd;cases hr with
 | agg _ vs hl hr =>
  refine⟨.agg ((vs.drop (j*sz)).take sz).toArray,.agg _ _ (by simp[hl]) (fun i h1 h2=>?_),fun w' _=>?_⟩
  ·simp only[getElem_take,getElem_drop];exact hr _ _ _
  unfold execOp;simp[ho,hg,h.flat hz,Instr.index,asIntOf,E,hj,part,ha,asAgg,hs]
theorem D8 (ho:o.op = .slice t y lo hi none) (hy:aE x y = .v (.slice none 0 0)) (eJ:mS x lo 0 0) (eD:mS x hi 0 0)
  (E:∀w,(underlying t).run P w = .ok (.slice e) w) (hs:∀w,(sizeOf e).run P w = .ok sz w):bU P G x o .none (.v (.slice none 0 0)):=fun C a w _ h =>
 ⟨_,.v _,fun w' _=>by
  have b1:=sy h eJ;have b2:=sy h eD;unfold execOp;simp[ho,h.flat hy,Instr.sliceAt,Instr.slice,E,vW b1 b2 (Nat.zero_le _) (Nat.le_refl _),hs]⟩
theorem bg.pos{e n:Nat}{cs:List D}{S:List ah}(h:bg e sz cs n ad cap S)(hn:0<n):∃b,ad=some ⟨b,0,none⟩∧n≤cap∧cap≤maxLen∧S=[⟨b,e,cap*sz,cs⟩]:=by
 rcases h with ⟨h1,_,_,_,_⟩|h
 ·omega
 exact h
theorem D9 {e':TypeId} {sz' n k:Nat} {cs:List D} (ho:o.op = .slice t y lo hi none) (hy:aE x y = .v (.slice ad n cap)) (eJ:mS x lo 0 0) (eD:mS x hi k n)
  (I:∀w,(underlying t).run P w = .ok (.slice e) w) (hs:∀w,(sizeOf e).run P w = .ok sz w) (hk:k≤n) (E:bg e' sz' cs n ad cap Sq):bU P G x o .none (.v (.slice ad k cap)):=by
 rcases E with ⟨h1,h2,rfl,rfl,rfl⟩|⟨b,rfl,h1,h2,rfl⟩
 ·subst h1;obtain rfl:k=0:=(by omega)
  exact D8 ho hy eJ eD I hs
 exact OK ho hy eJ eD I hs (Nat.le_trans hk h1)
theorem CD.jF {c:Code} {α:Type} {g:α→List D} {ls:List α} {e k:Nat} {R:List ah} (hg:∀a,(g a).length=sz) (hk:k≤ls.length)
  (E:bg e sz (ls.flatMap g) ls.length ad cap Sq) (hp:x.S.Perm (Sq++R))
  (K:∀S',bg e sz ((ls.take k).flatMap g) (ls.take k).length ad cap S'→CD P C c ⟨x.n,x.env,S'++R⟩ Q):CD P C c x Q:=by
 have dU:(ls.take k).length=k:=(by rw[length_take];omega)
 refine CD.perm hp ?_;rcases E with ⟨h1,h2,rfl,rfl,rfl⟩|⟨b,rfl,h1,h2,rfl⟩
 ·have hl:ls=[]:=eq_nil_of_length_eq_zero h1;subst hl;exact K [] (.inl ⟨by simp,by simp,rfl,rfl,rfl⟩)
 refine CD.wk (Wk.shrink (n:=x.n) (l:=x.env) (k:=0) (cs':=(ls.take k).flatMap g) rfl ?_) ?_
 ·rw[←tO hg ls];exact take_prefix _ _
 exact K [⟨b,e,cap*sz,(ls.take k).flatMap g⟩] (.inr ⟨b,rfl,by rw[dU];omega,h2,rfl⟩)
theorem bB.eB {α:Type} {g:α→List D} {ls new:List α} {s:Operand} {t e tt bytes:Nat} {z:Value} {R:List ah} (hg:∀a,(g a).length=sz) (hg1:∀a,(g a).all one=true) (U:ops[i]?=some o) (hw:bZ ops x o true) (ho:o.op = .call {callee:=.builtin .append,args:=#[s,y],argTypes:=#[t,t]}) (hd:o.dst=some tt)
  (ht:P.underlying t=some (.slice e)) (hi:(P.info? e).map (fun i=>(i.zero,i.size,i.bytes))=some (some z,sz,bytes)) (eX:z.cells.size=sz) (Z:0<sz)
  (hs:aE x s = .v (.slice ad ls.length cap)) (tg:bg e sz (ls.flatMap g) ls.length ad cap Sq) (hp:x.S.Perm (Sq++R))
  (hy:aE x y = .list sz (new.flatMap g) new.length) (hm:0<new.length) (gz:ls.length+new.length≤maxLen) (I:(ls.length+new.length)*bytes≤140737488355328)
  (K:∀O E,(ls++new).length≤E→E≤maxLen→AD P C ops S1 T fuel (ld.setIfInBounds i true) ⟨x.n,(tt,.v (.slice (some ⟨O,0,none⟩) (ls++new).length E))::x.env,⟨O,e,E*sz,(ls++new).flatMap g⟩::R⟩ Q) (hne:isMap e=false:=by rfl)
  (hT:∀b∈T,b∈av R:=by first|exact fun b hb=>hb|(intro b hb;simp[av] at hb ⊢;first|exact hb|exact .inl hb|(rcases hb with hb|hb<;>simp[hb])|(rcases hb with hb|hb|hb<;>simp[hb])|(rcases hb with hb|hb|hb|hb<;>simp[hb])|(rcases hb with hb|hb|hb|hb|hb<;>simp[hb])|(rcases hb with hb|hb|hb|hb|hb|hb<;>simp[hb])|(rcases hb with hb|hb|hb|hb|hb|hb|hb<;>simp[hb])|(rcases hb with hb|hb|hb|hb|hb|hb|hb|hb<;>simp[hb]))):bB P C ops S1 T fuel ld x Q i :=
 bB.Ep (hne:=hne) U hw ho hd ht hi eX Z hs tg hp (cm hg ls) hy (tW hg1 new) hm gz I hT fun O E h1 h2=>by
  have:=K O E (by rw[length_append];exact h1) h2;rw[length_append,flatMap_append] at this;exact this

end Go.Proofs.YtkgmonfgofobaaaGreatDoor.V
namespace Go.Proofs.YtkgmonfgofobaaaGreatDoor.V



open List
open Go.RowKit
variable {P:Program} {C:dx} {G:List (Nat×List Value)} {Q:Exit→St→Prop} {x:St} {ops:Array Oper} {l:List Oper} {o:Oper}
variable {kq kn:IntKind}
theorem ZD {s y:Operand} {t tn e tt m sz bytes:Nat} {z:Value} (ho:o.op = .call {callee:=.builtin .append,args:=#[s,y],argTypes:=#[t,tn]}) (hd:o.dst=some tt)
  (ht:P.underlying t=some (.slice e)) (NB:P.underlying tn=some (.int kn)) (hi:(P.info? e).map (fun i=>(i.zero,i.size,i.bytes))=some (some z,sz,bytes)) (eX:z.cells.size=sz) (Z:0<sz)
  (hs:aE x s = .v (.slice none 0 0)) (hy:aE x y = .v (.int kq m)) (h0:0<m) (gz:m≤maxLen) (ags:m*bytes≤140737488355328) (j3:isMap e=false:=by rfl) :
  fM P G x o [] (fun y=>∃b' E,m≤E∧E≤maxLen∧y=⟨x.n,(tt,.v (.slice (some ⟨b',0,none⟩) m E))::x.env,⟨b',e,E*sz,[]⟩::x.S⟩):=fun C a w K Q hG h hK=>by
 obtain⟨i,j9,lI,pB,qn⟩:=yV hi;have I:=Lib.run_append_nil_zeros (P:=P) w t tn o.type e i z kq kn ht NB j9 lI m h0 (by rw[pB];exact Z) (by simp only[maxLen] at gz;omega) (by rw[qn];omega);have h1:=grownCap_ge w m 0 e;have h2:=grownCap_le_maxLen w m 0 e gz;generalize grownCap w m 0 e=E at I h1 h2;generalize ajt:Builtin.zeroCells z.cells m++Builtin.zeroCells z.cells (E-m)=O at I;have yh:∀q,(Builtin.zeroCells z.cells q).size=q*sz:=fun q=>by simp[Builtin.zeroCells,eX]
 have iu:O.size=E*sz:=by
  rw[←ajt,Array.size_append,yh,yh,←Nat.add_mul];congr 1;omega
 have U:(execOp a.eval o).run P w = .ok (.value (.slice (some ⟨w.heap.size,0,none⟩) m E)) (w.drew.alloc (.cells O e)):=by
  unfold execOp;simp only[ho,resolve,invoke,builtin,Sem.run_bind,Sem.run_pure,Result.andThen_ok,map_toArray,map_cons,map_nil,h.flat hs,h.flat hy,I]
 obtain⟨s1,s2,s3⟩:=h.grown (w':=w.drew.alloc (.cells O e)) (t:=tt) (m:=m) (e:=e) (sz:=sz) (S:=x.S) (cs:=[]) (row:=none) (g:=w.heap.size) (cap:=E) (cur:=O) (hne:=j3) (Sublist.refl _) (fun k hk=>by cases hk)
  ⟨rfl,rfl,rfl,by show w.heap.size≤(w.heap.push _).size;simp,fun k hk _=>getElem?_push_lt (w:=w.drew) hk⟩ (.inr rfl) MT MU iu (Nat.zero_le _) (fun j hj=>by cases hj)
 unfold Oper.wp;rw[U,Oper.upon_value,hd];exact hK _ _ _ ⟨_,_,h1,h2,rfl⟩ s1 s2 s3
theorem OD.acV {s y:Operand} {t tn e tt m sz bytes:Nat} {z:Value} (hw:bZ ops x o true) (ho:o.op = .call {callee:=.builtin .append,args:=#[s,y],argTypes:=#[t,tn]}) (hd:o.dst=some tt)
  (ht:P.underlying t=some (.slice e)) (Z:P.underlying tn=some (.int kn)) (hi:(P.info? e).map (fun i=>(i.zero,i.size,i.bytes))=some (some z,sz,bytes)) (eX:z.cells.size=sz) (O:0<sz)
  (hs:aE x s = .v (.slice none 0 0)) (hy:aE x y = .v (.int kq m)) (h0:0<m) (gz:m≤maxLen) (I:m*bytes≤140737488355328)
  (K:∀U E,m≤E→E≤maxLen→OD P C ops l ⟨x.n,(tt,.v (.slice (some ⟨U,0,none⟩) m E))::x.env,⟨U,e,E*sz,[]⟩::x.S⟩ Q) (j3:isMap e=false:=by rfl):OD P C ops (o::l) x Q :=
 OD.fU hw (ZD (j3:=j3) ho hd ht Z hi eX O hs hy h0 gz I) fun y ⟨U,E,h1,h2,hy⟩=>hy ▸ K U E h1 h2

end Go.Proofs.YtkgmonfgofobaaaGreatDoor.V
namespace Go.Proofs.YtkgmonfgofobaaaGreatDoor.V
open List
open Go.RowKit
variable {P:Program} {C:dx} {G:List (Nat×List Value)} {Q:Exit→St→Prop} {x:St}
variable {l:List (Nat×D)} {S':List ah} {cs':List D}
def Gv(d d':D):Prop:=∀w L v,cg w L d v→cg w L d' v
theorem cq{d:D}:Gv d d:=fun _ _ _ h=>h
theorem ey{sz:Nat}:Gv (.v (.slice none 0 0)) (.list sz [] 0):=fun _ _ _ h=>by rw[h.kU];exact .nil sz
def qq:List D→List D→Prop
 | [],[]=>True
 | d::r,d'::r'=>Gv d d'∧qq r r'
 | _,_=>False
theorem qq.spec:∀{a b:List D},qq a b→b.length=a.length∧∀i (h:i<a.length) (h':i<b.length),Gv a[i] b[i]
 | [],[],_=>⟨rfl,fun i h=>by simp at h⟩
 | d::r,d'::r',h=>by
  obtain⟨h1,h2⟩:=qq.spec h.2;refine⟨by simp[h1],fun i q E=>?_⟩;cases i with
  | zero=>exact h.1
  | succ i=>exact h2 i (by simpa using q) (by simpa using E)
 | [],_::_,h=>h.elim
 | _::_,[],h=>h.elim
theorem u0{a b:List D}(h:qq a b):Gv (.agg a) (.agg b):=fun w L v hr=>by
 obtain⟨h1,h2⟩:=h.spec;cases hr with
 | agg _ vs hl hq=>exact .agg b vs w4 fun i q E=>h2 i w4 q _ _ _ (hq i w4 E)
theorem Wk.cells{n:Nat}{S:List ah}{k:Nat}{B:ah}(hk:S[k]?=some B)(H:qq B.cs cs')(hS:S.set k {B with cs:=cs'}=S'):Wk ⟨n,l,S⟩ ⟨n,l,S'⟩:=fun C a w h=>by
 subst hS;obtain⟨H1,H2⟩:=H.spec;have dU:=(List.getElem?_eq_some_iff.1 hk).1;have O:=(List.getElem?_eq_some_iff.1 hk).2;have E:av (S.set k {B with cs:=cs'})=av S:=by
  unfold av;rw[map_set];apply ext_getElem bq;intro i q1 q2;rw[getElem_set];split
  ·rename_i e;subst e;simp[O]
  rfl
 have I:live C.X (S.set k {B with cs:=cs'})=live C.X S:=(by funext b;simp only[live,E])
 refine⟨h.defers,h.size,fun t ht=>?_,⟨fun B' U=>?_,?_⟩,?_,h.ex,h.eK⟩
 ·simp only[I];exact h.env t ht
 ·simp only[I];obtain⟨p,hp,gW⟩:=mem_iff_getElem.1 U;rw[length_set] at hp;rw[getElem_set] at gW;by_cases e:k=p
  ·rw[if_pos e] at gW;subst gW;obtain⟨r0,cur,r1,r2,r3,r4⟩:=h.own.at_ B (mem_of_getElem? hk);refine⟨r0,cur,r1,r2,by show cs'.length≤B.size;omega,fun q hq=>?_⟩;have Z:q<cs'.length:=hq;obtain⟨u,hu,hqr⟩:=r4 q w4;exact⟨u,hu,H2 q w4 Z _ _ _ hqr⟩
  rw[if_neg e] at gW;subst gW;exact h.own.at_ _ (getElem_mem hp)
 ·simp only[E];exact h.own.apart
 simp only[E];exact h.fr
theorem CD.cells{c:Code}{S':List ah}{k:Nat}{B:ah}{cs':List D}(hk:x.S[k]?=some B)(H:qq B.cs cs')(hS:x.S.set k {B with cs:=cs'}=S')(K:CD P C c ⟨x.n,x.env,S'⟩ Q):CD P C c x Q:=CD.wk (Wk.cells (n:=x.n) (l:=x.env) (S:=x.S) hk H hS) K
theorem Wk.Jb {n i j m cap e sz:Nat} {S Sq R:List ah} {A:ah} {cs:List D} {ad:Option Addr} (ho:bg e sz cs m ad cap Sq) (hl:cs.length=m*sz) (hp:S.Perm (Sq++R)) (hj:R[j]?=some A) (hi:A.cs[i]?=some (.v (.slice ad m cap)))
  (E:A.cs.set i (.list sz cs m)=cs') (hS:R.set j {A with cs:=cs'}=S') (hne:isMap e=false:=by rfl):Wk ⟨n,l,S⟩ ⟨n,l,S'⟩:=by
 refine(Wk.perm hp).trans ?_;rcases ho with ⟨rfl,rfl,rfl,rfl,rfl⟩|⟨b,rfl,h1,h2,rfl⟩
 ·refine Wk.cells (B:=A) hj ?_ hS;subst E;have key:∀(I:List D) (i:Nat),I[i]?=some (.v (.slice none 0 0))→qq I (I.set i (.list sz [] 0)):=by
   have O:∀r:List D,qq r r:=by
    intro r;induction r with
    | nil=>trivial
    | cons d r ih=>exact⟨cq,ih⟩
   intro I;induction I with
   | nil=>intro i h;simp at h
   | cons d r ih =>
    intro i h;cases i with
    | zero=>simp only[getElem?_cons_zero,Option.some.injEq] at h;subst h;exact⟨ey,O r⟩
    | succ i=>simp only[getElem?_cons_succ] at h;exact⟨cq,ih i h⟩
  exact key _ _ hi
 exact Wk.agd (hne:=hne) (k:=0) rfl hj hi rfl hl h1 h2 E hS
theorem CD.Jb {c:Code} {i j m cap e sz:Nat} {Sq R S':List ah} {A:ah} {cs cs':List D} {ad:Option Addr} (ho:bg e sz cs m ad cap Sq) (hl:cs.length=m*sz) (hp:x.S.Perm (Sq++R)) (hj:R[j]?=some A) (hi:A.cs[i]?=some (.v (.slice ad m cap)))
  (E:A.cs.set i (.list sz cs m)=cs') (hS:R.set j {A with cs:=cs'}=S') (K:CD P C c ⟨x.n,x.env,S'⟩ Q) (hne:isMap e=false:=by rfl):CD P C c x Q:=CD.wk (Wk.Jb (hne:=hne) (n:=x.n) (l:=x.env) (S:=x.S) ho hl hp hj hi E hS) K

end Go.Proofs.YtkgmonfgofobaaaGreatDoor.V

namespace Go.Proofs.YtkgmonfgofobaaaGreatDoor.V
open List
open Go.RowKit
variable {P:Program} {C:dx} {G:List (Nat×List Value)} {Q:Exit→St→Prop} {x:St} {ops:Array Oper} {l:List Oper} {o:Oper} {S1 T:List Nat} {fuel i:Nat} {ld:Array Bool}
theorem bB.K6 {f t:Nat} {fo:Operand} {cG:Array Operand} {ts:Array TypeId} {args:List D} {post:D→List ah→Prop} (hi:ops[i]?=some o) (hw:bZ ops x o true) (ho:o.op = .call {callee:=.value fo,args:=cG,argTypes:=ts}) (hd:o.dst=some t)
  (hf:fo = .func f) (fb:∀args w,(callFunc f args).run P w = .ok (.enter f args) w) (hc:VC P C.G f args [] post) (hr:∀r S',post r S'→kp r=true∧∀B∈S',∀d∈B.cs,kp d=true) (ha:Looks x cG.toList args)
  (K:∀r S',post r S'→AD P C ops S1 T fuel (ld.setIfInBounds i true) ⟨x.n,(t,r)::x.env,S'++x.S⟩ Q):bB P C ops S1 T fuel ld x Q i :=
 bB.fU hi hw (IC ho hd hf fb hc hr ha) (fun _ _ _ _ b _ hb=>by simp at hb) (fun b hb=>by simp at hb) fun y ⟨r,S',hp,hy⟩=>hy ▸ K r S' hp
theorem S4:∀r:List D,qq r r
 | []=>trivial
 | _::r=>⟨cq,S4 r⟩
theorem S5{d d':D}(h:Gv d d'):∀(r:List D) (i:Nat),qq (r.set i d) (r.set i d')
 | [],_=>trivial
 | _::r,0=>⟨h,S4 r⟩
 | _::r,i+1=>⟨cq,S5 h r i⟩
theorem OD.cells{S':List ah}{k:Nat}{B:ah}{cs':List D}(hk:x.S[k]?=some B)(H:qq B.cs cs')(hS:x.S.set k {B with cs:=cs'}=S')(K:OD P C ops l ⟨x.n,x.env,S'⟩ Q):OD P C ops l x Q:=OD.wk (Wk.cells (n:=x.n) (l:=x.env) (S:=x.S) hk H hS) K

theorem Wk.agt{n t:Nat}{r d':D}{l:List (Nat×D)}{S R Sd:List ah}(hp:S.Perm (R++Sd))(ht:View Sd r d'):Wk ⟨n,(t,r)::l,S⟩ ⟨n,(t,d')::l,R⟩:=fun C a w h0=>by
 have h:=Wk.perm (n:=n) (env:=(t,r)::l) hp C a w h0;have h1:bH C ⟨n,(t,r)::l,R⟩ a w:=Wk.drop n ((t,r)::l) _ R (sublist_append_left _ _) C a w h;refine⟨h1.defers,h1.size,fun q hq=>?_,h1.own,h1.fr,h1.ex,h1.eK⟩;rw[fW];by_cases e:t=q
 ·subst e;rw[if_pos rfl];have hL:live C.X (R++Sd)=live (fun b=>live C.X R b) Sd:=by
   funext b;simp only[live,av,map_append,mem_append];exact propext or_assoc.symm
  have hnd:(av R++av Sd).Nodup:=(by have:=h.own.apart;simpa[av] using this)
  have I:∀b,live C.X R b→b∉av Sd:=fun b hb hm=>by
   rcases hb with hb|hb
   ·exact h.Ax b hb (by simp only[av,map_append,mem_append] at hm ⊢;exact .inr hm)
   exact(nodup_append.1 hnd).2.2 b hb b hm rfl
  have E:Own w (live (fun b=>live C.X R b) Sd) Sd:=⟨fun B O=>by rw[←hL];exact h.own.at_ B (mem_append_right _ O),(nodup_append.1 hnd).2.1⟩
  have h3:=h.env t hq;rw[fW,if_pos rfl] at h3;simp only[hL] at h3;exact ht (fun b=>live C.X R b) _ w _ (fun b hb=>hb) I E h3
 rw[if_neg e];have h3:=h1.env q hq;rwa [fW,if_neg e] at h3
theorem aa9 {f t:Nat} {fo:Operand} {cG:Array Operand} {ts:Array TypeId} {args:List D} {post:D→List ah→Prop} {d:D} (ho:o.op = .call {callee:=.value fo,args:=cG,argTypes:=ts}) (hd:o.dst=some t)
  (hf:fo = .func f) (fb:∀args w,(callFunc f args).run P w = .ok (.enter f args) w) (hc:VC P G f args [] post) (hr:∀r S',post r S'→kp r=true∧∀B∈S',∀d∈B.cs,kp d=true) (O:∀r S',post r S'→View S' r d) (ha:Looks x cG.toList args) :
  fM P G x o [] (fun y=>y=⟨x.n,(t,d)::x.env,x.S⟩):=fun C a w K R hG h hK=>by
 refine IC ho hd hf fb hc hr ha C a w K R hG h fun y a' w' ⟨r,S',hp,hy⟩ I uB E=>?_;subst hy;have h1:Wk ⟨x.n,(t,r)::x.env,S'++x.S⟩ ⟨x.n,(t,d)::x.env,x.S⟩:=Wk.agt perm_append_comm (O r S' hp);refine hK _ a' w' rfl (h1 C a' w' I) uB ⟨E.os,E.tape,E.output,E.size,fun b hb hn=>⟨(E.block b hb hn).1,hn⟩⟩
section pe
variable {c:Bool} {n t f:Nat} {S:List ah} {ts:List Nat} {e lr:List (Nat×D)} {R:List (Nat×D)→Prop} {fo:Operand} {cG:Array Operand} {tt:Array TypeId} {args:List D} {d:D} {post:D→List ah→Prop}
theorem zM (hc:VC P G f args [] post) (Dc:∀r S',post r S'→kp r=true∧∀B∈S',∀d∈B.cs,kp d=true) (E:∀r S',post r S'→View S' r d) (ho:o.op = .call {callee:=.value fo,args:=cG,argTypes:=tt}:=by exact rfl)
  (hd:o.dst=some t:=by exact rfl) (hr:fA (kD ops o) e lr:=by exact jx) (ha:Looks ⟨n,lr,S⟩ cG.toList args) (K:PE c P G n S ops ts l ((t,d)::e) R) (hq:(!c||mB ops o (kD ops o))=true:=by kernel_rfl) (hw:bZ ops ⟨n,lr,S⟩ o true:=by exact pD) (hf:fo = .func f:=by exact rfl) (fb:xx P f=true:=by kernel_rfl):PE c P G n S ops ts (o::l) e R :=
 .cons hd hr hq hw (aa9 ho hd hf (UD fb) hc Dc E ha) K
theorem zN (hc:VP P G f args d) (ho:o.op = .call {callee:=.value fo,args:=cG,argTypes:=tt}:=by exact rfl)
  (hd:o.dst=some t:=by exact rfl) (hr:fA (kD ops o) e lr:=by exact jx) (ha:Looks ⟨n,lr,S⟩ cG.toList args) (K:PE c P G n S ops ts l ((t,d)::e) R) (Dc:kp d=true:=by exact rfl) (hq:(!c||mB ops o (kD ops o))=true:=by kernel_rfl) (hw:bZ ops ⟨n,lr,S⟩ o true:=by exact pD) (hf:fo = .func f:=by exact rfl) (fb:xx P f=true:=by kernel_rfl):PE c P G n S ops ts (o::l) e R :=
 zM hc (fun r S' h=>by obtain⟨rfl,rfl⟩:=h;exact⟨Dc,fun B E=>by cases E⟩) (fun r S' h=>by obtain⟨rfl,rfl⟩:=h;exact eO) ho hd hr ha K hq hw hf fb
end pe
end Go.Proofs.YtkgmonfgofobaaaGreatDoor.V

namespace Go.Proofs.YtkgmonfgofobaaaGreatDoor.V
open List
open Go.RowKit
variable {P:Program} {C:dx} {G:List (Nat×List Value)} {Q:Exit→St→Prop} {ops:Array Oper} {l l2:List Oper} {o:Oper} {n t:Nat} {d:D} {e e' l':List (Nat×D)} {S S':List ah} {ts:List Nat} {c:Bool} {x:St}
variable {S1:List Nat} {zs:List Value}
structure Al where
 ia:Nat
 ta:Nat
 te:TypeId
 ds:List D
variable {al:List Al}
def gh(al:List Al)(ob:Nat→Option Nat):List ah:=al.flatMap fun a=>bx a.te a.ds (ob a.ta)
def nL(ob:Nat→Option Nat)(t b:Nat):Nat→Option Nat:=fun q=>if q=t then some b else ob q
theorem QV{ob:Nat→Option Nat}{t b:Nat}:∀{al:List Al},(∀a∈al,a.ta≠t)→gh al (nL ob t b)=gh al ob
 | [],_=>rfl
 | a::al,h=>by
  unfold gh;rw[flatMap_cons,flatMap_cons];congr 1
  ·unfold nL;rw[if_neg (h a mem_cons_self)]
  exact QV fun x hx=>h x (mem_cons_of_mem _ hx)
theorem S6{ob:Nat→Option Nat}{b:Nat}{a:Al}:∀{al:List Al},a∈al→(al.map Al.ta).Nodup→ob a.ta=none→(⟨b,a.te,a.ds.length,a.ds⟩::gh al ob).Perm (gh al (nL ob a.ta b))
 | [],h,_,_=>by cases h
 | y::al,h,hn,ho=>by
  rw[map_cons,nodup_cons] at hn;have e1:gh (y::al) ob=bx y.te y.ds (ob y.ta)++gh al ob:=rfl;have e2:gh (y::al) (nL ob a.ta b)=bx y.te y.ds (nL ob a.ta b y.ta)++gh al (nL ob a.ta b):=rfl;rw[e1,e2];by_cases hy:y=a
  ·subst hy;have h1:gh al (nL ob y.ta b)=gh al ob:=QV fun x hx e=>hn.1 (e ▸ mem_map_of_mem hx);have h2:nL ob y.ta b y.ta=some b:=(by unfold nL;rw[if_pos rfl])
   rw[h1,h2,ho];exact Perm.refl _
  have hm:a∈al:=by
   rcases mem_cons.1 h with h|h
   ·exact absurd h.symm hy
   exact h
  have hne:y.ta≠a.ta:=fun e=>hn.1 (e ▸ mem_map_of_mem hm);have h2:nL ob a.ta b y.ta=ob y.ta:=(by unfold nL;rw[if_neg hne])
  rw[h2];exact(perm_middle (a:=(⟨b,a.te,a.ds.length,a.ds⟩:ah)) (l₁:=bx y.te y.ds (ob y.ta)) (l₂:=gh al ob)).symm.trans (Perm.append_left _ (S6 hm hn.2 ho))
theorem Fr.ahU{w1 w:World}{A B:List ah}(h:Fr w1 S1 w (av A))(hp:A.Perm B):Fr w1 S1 w (av B):=⟨h.os,h.tape,h.output,h.size,fun b h1 h2=>⟨(h.block b h1 h2).1,fun hm=>(h.block b h1 h2).2 ((hp.map ah.b).symm.subset hm)⟩⟩
def zO(al:List Al)(f:Nat→Nat):List (Nat×D):=al.map fun a=>(a.ta,.v (.pointer (some ⟨f a.ta,0,none⟩)))
def made(al:List Al)(f:Nat→Nat):List ah:=al.map fun a=>⟨f a.ta,a.te,a.ds.length,a.ds⟩
theorem QW{ob:Nat→Option Nat}{f:Nat→Nat}:∀{al:List Al},(∀a∈al,ob a.ta=some (f a.ta))→gh al ob=made al f
 | [],_=>rfl
 | a::al,h=>by
  show bx a.te a.ds (ob a.ta)++gh al ob=_;rw[h a mem_cons_self,QW fun x hx=>h x (mem_cons_of_mem _ hx)];rfl
theorem PA{f:Nat→Nat}{q:Nat}:∀{al:List Al},look q (zO al f++e)=if q∈al.map Al.ta then .v (.pointer (some ⟨f q,0,none⟩)) else look q e
 | []=>by simp[zO]
 | a::al=>by
  show look q ((a.ta,_)::(zO al f++e))=_;rw[fW,PA (al:=al)];by_cases h:a.ta=q
  ·rw[if_pos h,if_pos (by rw[map_cons,h];exact mem_cons_self),h]
  rw[if_neg h,map_cons];by_cases h2:q∈al.map Al.ta
  ·rw[if_pos h2,if_pos (mem_cons_of_mem _ h2)]
  rw[if_neg h2,if_neg (fun hm=>by rcases mem_cons.1 hm with hm|hm;exact h hm.symm;exact h2 hm)]
theorem aeN {eF:List (Nat×D)} {w1:World} (hA:∀a∈al,∃oa,ops[a.ia]?=some oa∧oa.dst=some a.ta∧oa.guard=none∧∀S',fM P C.G ⟨n,[],S'⟩ oa [] (wI ⟨n,[],S'⟩ a.ta a.te a.ds)) (hnd:(al.map Al.ta).Nodup)
  (hj:∀a∈al,look a.ta eF = .bV) (hp:mE ops=true) (H:∀i,i<ops.size→Gd P C.G n S ops eF i) (hQ:∀f,Q .normal ⟨n,zO al f++eF,made al f++S⟩):∀(fuel:Nat) (ld:Array Bool) (env:List (Nat×D)) (ob:Nat→Option Nat) (a:Act) (w:World),
  left ops.size ld≤fuel→bH C ⟨n,env,gh al ob++S⟩ a w→Fr w1 S1 w (av (gh al ob++S))→(∀x∈al,ld.getD x.ia true=true→∃b,ob x.ta=some b∧look x.ta env = .v (.pointer (some ⟨b,0,none⟩)))→(∀x∈al,ld.getD x.ia true=false→ob x.ta=none) →
   (∀q,q∉al.map Al.ta→(∀j o,ops[j]?=some o→o.dst=some q→ld.getD j true=true)→look q env=look q eF)→wpAnyH P .any ops (LQ C Q) (kV w1 S1 []) fuel ld a w:=by
 have AH:∀x∈al,∀j o,ops[j]?=some o→o.dst=some x.ta→j=x.ia:=fun x hx j o hj hd=>by
  obtain⟨oa,mj,lJ,_,_⟩:=hA x hx;rcases Nat.lt_trichotomy j x.ia with q|q|q
  ·obtain⟨t',h1,h2⟩:=(wH hp mj).2;rw[lJ] at h1;obtain rfl:=Option.some.inj h1;exact absurd hd (h2 j o q hj)
  ·exact q
  obtain⟨t',h1,h2⟩:=(wH hp hj).2;rw[hd] at h1;obtain rfl:=Option.some.inj h1;exact absurd lJ (h2 x.ia oa q mj)
 have fh:∀(ld:Array Bool) (env:List (Nat×D)) (ob:Nat→Option Nat) (a:Act) (w:World),bH C ⟨n,env,gh al ob++S⟩ a w→(∀x∈al,ld.getD x.ia true=true→∃b,ob x.ta=some b∧look x.ta env = .v (.pointer (some ⟨b,0,none⟩)))→(∀q,q∉al.map Al.ta→(∀j o,ops[j]?=some o→o.dst=some q→ld.getD j true=true)→look q env=look q eF)→(∀j,j<ops.size→ld.getD j true=true)→LQ C Q .normal a w:=fun ld env ob a w hs hb he fm=>by
  have pE:∀x∈al,ob x.ta=some ((ob x.ta).getD 0)∧look x.ta env = .v (.pointer (some ⟨(ob x.ta).getD 0,0,none⟩)):=fun x hx=>by
   obtain⟨oa,mj,_⟩:=hA x hx;obtain⟨b,h1,h2⟩:=hb x hx (fm x.ia (Array.getElem?_eq_some_iff.1 mj).1);rw[h1];exact⟨rfl,h2⟩
  have xY:gh al ob=made al (fun q=>(ob q).getD 0):=QW fun x hx=>(pE x hx).1;rw[xY] at hs;refine .inl ⟨⟨n,zO al (fun q=>(ob q).getD 0)++eF,made al (fun q=>(ob q).getD 0)++S⟩,⟨hs.defers,hs.size,fun q hq=>?_,hs.own,hs.fr,hs.ex,hs.eK⟩,hQ _⟩;have:=hs.env q hq;rw[PA];by_cases E:q∈al.map Al.ta
  ·rw[if_pos E];obtain⟨x,hx,rfl⟩:=mem_map.1 E;rw[(pE x hx).2] at this;exact this
  rw[if_neg E];rw[he q E fun j o hj _=>fm j (Array.getElem?_eq_some_iff.1 hj).1] at this;exact this
 intro fuel;induction fuel with
 | zero =>
  intro ld env ob a w hl hs hf hb jS he;have fm:∀j,j<ops.size→ld.getD j true=true:=fun j hj=>by
   cases hq:ld.getD j true with
   | true=>rfl
   | false=>have:=yZ hj hq;omega
  refine⟨?_,fh ld env ob a w hs hb he fm⟩;rw[eq_nil_iff_forall_not_mem];intro j hj;obtain⟨h1,o,h2,_⟩:=mem_ready.1 hj;have:=fm j (Array.getElem?_eq_some_iff.1 h2).1;rw[h1] at this;cases this
 | succ fuel ih =>
  intro ld env ob a w hl hs hf hb jS he;refine⟨fun h0=>fh ld env ob a w hs hb he (Kx hp h0),fun i hi=>?_⟩;obtain⟨lm,o,I,Ce⟩:=mem_ready.1 hi;have aa:=(Array.getElem?_eq_some_iff.1 I).1;have V8:=yZ aa lm;have sM:∀j,(ld.setIfInBounds i true).getD j true=true↔j=i∨ld.getD j true=true:=fun j=>by
   by_cases hj:j=i
   ·subst hj;have iu:j<ld.size:=by
     rcases Nat.lt_or_ge j ld.size with h|h
     ·exact h
     rw[Array.getD_eq_getD_getElem?,Array.getElem?_eq_none h] at lm;cases lm
    simp[Array.getD_eq_getD_getElem?,Array.getElem?_setIfInBounds,iu]
   simp[Array.getD_eq_getD_getElem?,Array.getElem?_setIfInBounds,hj,Ne.symm hj]
  have O:∀j,j≠i→(ld.setIfInBounds i true).getD j true=ld.getD j true:=fun j hj=>by
   simp[Array.getD_eq_getD_getElem?,Array.getElem?_setIfInBounds,Ne.symm hj]
  by_cases rX:∃x∈al,x.ia=i
  ·obtain⟨x,hx,rfl⟩:=rX;obtain⟨oa,mj,lJ,yf,hE⟩:=hA x hx;rw[mj] at I;obtain rfl:=Option.some.inj I;have pE:=jS x hx lm;unfold wpOp;rw[mj];have hw:Region.wanted oa (yielded ops a.tmps)=true:=(by simp[Region.wanted,yf])
   simp only[hw,if_true];have nJ:bH C ⟨n,[],gh al ob++S⟩ a w:=⟨hs.defers,hs.size,fun q hq=>.bV _,hs.own,hs.fr,hs.ex,hs.eK⟩
   have h2:=hE (gh al ob++S) C a w (fun a' w'=>∃b,bH C ⟨n,[(x.ta,.v (.pointer (some ⟨b,0,none⟩)))],⟨b,x.te,x.ds.length,x.ds⟩::(gh al ob++S)⟩ a' w'∧Fr w (av (gh al ob++S)) w' (av (⟨b,x.te,x.ds.length,x.ds⟩::(gh al ob++S)))) (LQ C Q) rfl nJ (fun y a' w' ⟨b,hy⟩ ux _ uy=>by subst hy;exact⟨b,ux,uy⟩);refine .inl (Oper.wp_mono (fun a' w' h3=>?_) (yY h2));obtain⟨⟨b,h4,h5⟩,v,h6⟩:=h3;rw[lJ] at h6;have vK:(⟨b,x.te,x.ds.length,x.ds⟩::(gh al ob++S)).Perm (gh al (nL ob x.ta b)++S):=Perm.append_right S (S6 hx hnd pE);have jw:Fr w1 S1 w' (av (gh al (nL ob x.ta b)++S)):=Fr.ahU (hf.trans h5) vK;have uz:=Wk.perm vK C a' w' (bH.UE hs h4 h5 h6);refine⟨⟨fun b h2 h3=>(jw.block b h2 h3).1,fun b h2=>by cases h2⟩,ih _ ((x.ta,.v (.pointer (some ⟨b,0,none⟩)))::env) (nL ob x.ta b) a' w' w4 uz jw (fun y hy U=>?_) (fun y hy U=>?_) fun q hq rW=>?_⟩
   ·by_cases Z:y.ta=x.ta
    ·exact⟨b,by unfold nL;rw[if_pos Z],by rw[fW,if_pos Z.symm]⟩
    have Dg:y.ia≠x.ia:=fun e=>by
     obtain⟨oy,Hx,Dh,_⟩:=hA y hy;rw[e,mj] at Hx;obtain rfl:=Option.some.inj Hx;rw[lJ] at Dh;exact Z (Option.some.inj Dh).symm
    rw[O _ Dg] at U;obtain⟨b',h7,h8⟩:=hb y hy U;exact⟨b',by unfold nL;rw[if_neg Z];exact h7,by rw[fW,if_neg (fun e=>Z e.symm)];exact h8⟩
   ·by_cases Dg:y.ia=x.ia
    ·have:=(sM y.ia).2 (.inl Dg);rw[this] at U;cases U
    rw[O _ Dg] at U;have Z:y.ta≠x.ta:=fun e=>by
     obtain⟨oy,Hx,Dh,_⟩:=hA y hy;rw[e] at Dh;exact Dg (AH x hx _ _ Hx Dh)
    unfold nL;rw[if_neg Z];exact jS y hy U
   rw[fW,if_neg (fun e:x.ta=q=>hq (e ▸ mem_map_of_mem hx))];refine he q hq fun j oj hj iW=>?_;rcases(sM j).1 (rW j oj hj iW) with rfl|h2
   ·rw[mj] at hj;obtain rfl:=Option.some.inj hj;rw[lJ] at iW;exact absurd (Option.some.inj iW ▸ mem_map_of_mem hx) hq
   exact h2
  obtain⟨o',t,ts,l',h1,hd,hq,me,hk,Nz⟩:=H i aa;rw[I] at h1;obtain rfl:=Option.some.inj h1;have LM:t∉al.map Al.ta:=fun hm=>by
   obtain⟨x,hx,e⟩:=mem_map.1 hm;exact rX ⟨x,hx,(AH x hx i o I (by rw[hd,e])).symm⟩
  have jJ:bH C ⟨n,l',gh al ob++S⟩ a w:=⟨hs.defers,hs.size,fun q C6=>by
   by_cases hm:q∈ts
   ·have tu:=hm;rw[←hk] at tu;obtain⟨p,fE,rfl⟩:=mem_map.1 tu;obtain⟨h2,h3⟩:=me p fE;have h9:=hs.env p.1 C6;by_cases uw:p.1∈al.map Al.ta
    ·obtain⟨x,hx,e⟩:=mem_map.1 uw;rw[←h3,←e,hj x hx];exact .bV _
    have:look p.1 env=look p.1 l':=by
     rw[←h3];refine he p.1 uw fun j oj hj iW=>?_;obtain⟨e1,s6,ji,jP⟩:=Fa hq hj iW h2;have:=Ce e1 s6 ji;rw[jP] at this;rw[Array.getD_eq_getD_getElem?] at this ⊢;cases hx:ld[j]? with
     | none=>rw[hx] at this;cases this
     | some b=>rw[hx] at this;exact this
    rw[this] at h9;exact h9
   have:look q l' = .bV:=by
    rw[←hk] at hm;exact EL hm
   rw[this];exact .bV _,hs.own,hs.fr,hs.ex,hs.eK⟩
  have jl:∀(a':Act) (w':World),bH C ⟨n,(t,look t eF)::env,gh al ob++S⟩ a' w'→Fr w (av (gh al ob++S)) w' (av (gh al ob++S))→kV w1 S1 [] w'∧wpAnyH P .any ops (LQ C Q) (kV w1 S1 []) fuel (ld.setIfInBounds i true) a' w':=fun a' w' ux uy=>by
   have jw:Fr w1 S1 w' (av (gh al ob++S)):=hf.trans uy;have yg:∀x∈al,(ld.setIfInBounds i true).getD x.ia true=ld.getD x.ia true:=fun x hx=>O _ fun e=>rX ⟨x,hx,e⟩;refine⟨⟨fun b h2 h3=>(jw.block b h2 h3).1,fun b h2=>by cases h2⟩,ih _ _ ob a' w' w4 ux jw (fun x hx h=>?_) (fun x hx h=>jS x hx (by rw[yg x hx] at h;exact h)) fun q Hw rW=>?_⟩
   ·rw[yg x hx] at h;obtain⟨b,h2,h3⟩:=hb x hx h;exact⟨b,h2,by rw[fW,if_neg (fun e:t=x.ta=>LM (by rw[e];exact mem_map_of_mem hx))];exact h3⟩
   rw[fW];by_cases E:t=q
   ·rw[if_pos E,E]
   rw[if_neg E];refine he q Hw fun j oj hj iW=>?_;rcases(sM j).1 (rW j oj hj iW) with rfl|h2
   ·rw[I] at hj;obtain rfl:=Option.some.inj hj;rw[hd] at iW;exact absurd (Option.some.inj iW) E
   exact h2
  unfold wpOp;rw[I];rcases Nz with ⟨hw,NA⟩|⟨hw,hv⟩
  ·simp only[hw.frame (B:=gh al ob) C a w jJ,if_true];have h2:=NA.frame (B:=gh al ob) C a w (fun a' w'=>bH C ⟨n,(t,look t eF)::l',gh al ob++S⟩ a' w'∧Fr w (av (gh al ob++S)) w' (av (gh al ob++S))) (LQ C Q) rfl jJ (fun y a' w' hy ux _ uy=>by subst hy;exact⟨ux,uy⟩);refine .inl (Oper.wp_mono (fun a' w' h3=>?_) (yY h2));obtain⟨⟨h4,h5⟩,v,h6⟩:=h3;rw[hd] at h6;exact jl a' w' (hs.zq h4 h5 h6) h5
  simp only[hw.frame (B:=gh al ob) C a w jJ,hd];have:=hs.put (t:=t) (.v (w:=w) (L:=live C.X (gh al ob++S)) undef);rw[hv] at jl;exact jl _ w this (Fr.refl _ _)
theorem CD.pdL {id m:Nat} (mH:Region.noSelect l.toArray=true) (nK:NP Q) (hm:P.follows .mixedOrders=true) (hl:m≤l.length) (hq:qL m l.toArray=true) (hp:mE (l.take m).toArray=true) (hA:∀a∈al,∃oa,(l.take m)[a.ia]?=some oa∧oa.dst=some a.ta∧oa.guard=none∧∀S',fM P C.G ⟨n,[],S'⟩ oa [] (wI ⟨n,[],S'⟩ a.ta a.te a.ds)) (hnd:(al.map Al.ta).Nodup)
  (h:PD true P C.G n S (l.take m).toArray (l.take m) e [] e') (hj:∀a∈al,look a.ta e' = .bV) (K:∀f,OD P C l.toArray (l.drop m) ⟨n,zO al f++e',made al f++S⟩ Q):CD P C (.region id l.toArray true) ⟨n,e,S⟩ Q :=
 CD.F5 m [] mH nK hm hl hq (fun _ hb=>by cases hb) (fun a w hs _ _=>by
  have h':PD true P C.G n S (l.take m).toArray (l.take m).toArray.toList e [] e':=(by simpa using h)
  have hg:=h'.xu hp rfl 0 rfl;have E:∀a∈al,∃oa,(l.take m).toArray[a.ia]?=some oa∧oa.dst=some a.ta∧oa.guard=none∧∀S',fM P C.G ⟨n,[],S'⟩ oa [] (wI ⟨n,[],S'⟩ a.ta a.te a.ds):=fun a ha=>by
   obtain⟨oa,h1,h2⟩:=hA a ha;exact⟨oa,by simpa using h1,h2⟩
  have I:(l.take m).toArray.size=m:=(by simp;omega)
  have O:gh al (fun _=>none)=[]:=by
   clear hA E hnd hj K;induction al with
   | nil=>rfl
   | cons a al ih=>show bx a.te a.ds none++gh al (fun _=>none)=[];rw[ih];rfl
  refine aeN (Q:=Tl P C l.toArray (l.drop m) Q) E hnd hj hp (fun i hi=>hg i (Nat.zero_le _) hi) K _ _ e (fun _=>none) a w ?_ (by rw[O];exact hs) (by rw[O];exact Fr.refl _ _) (fun x hx h=>?_) (fun _ _ _=>rfl) fun q Hw rW=>?_
  ·rw[I];unfold left;exact Nat.le_trans (length_filter_le _ _) bq
  ·obtain⟨oa,U,_⟩:=E x hx;have aa:=(Array.getElem?_eq_some_iff.1 U).1;rw[I] at aa;simp[Array.getD_eq_getD_getElem?,aa] at h
  refine(h'.later fun o ho hd=>?_).symm;obtain⟨j,hj,rfl⟩:=mem_iff_getElem.1 ho;have Z:j<(l.take m).toArray.size:=(by simpa using hj)
  have:=rW j _ (by rw[←Array.getElem?_toList,getElem?_eq_getElem hj]) hd;rw[I] at Z;simp[Array.getD_eq_getD_getElem?,Z] at this)
def FF(P:Program)(l:List Oper)(ia ta te:Nat):Bool:=match l[ia]? with
 | some o=>(match o.op with|.alloc te'=>Nat.beq te' te|_=>false)&&(match o.dst with|some t=>Nat.beq t ta|none=>false)&&o.guard.isNone && !(isMap te)
 | none=>false
theorem QX{l:List Oper}{ia ta te:Nat}(h:FF P l ia ta te=true)(hz:sG P te=some zs):∃oa,l[ia]?=some oa∧oa.dst=some ta∧oa.guard=none∧∀S',fM P G ⟨n,[],S'⟩ oa [] (wI ⟨n,[],S'⟩ ta te (zs.map .v)):=by
 unfold FF at h;split at h
 ·rename_i o ho;simp only[Bool.and_eq_true,Bool.not_eq_true'] at h;obtain⟨⟨⟨h1,h2⟩,h3⟩,h4⟩:=h;obtain⟨z,mg,yc⟩:=Bx hz;split at h1
  ·rename_i I E;obtain rfl:=Nat.eq_of_beq_eq_true h1;split at h2
   ·rename_i t hd;obtain rfl:=Nat.eq_of_beq_eq_true h2;exact⟨o,ho,hd,Option.isNone_iff_eq_none.1 h3,fun S'=>Em (hne:=h4) E hd mg (by rw[yc])⟩
   cases h2
  cases h1
 cases h
variable {R:List (Nat×D)→Prop}
theorem Yj {id ta tb:Nat} {te tf:TypeId} {zt:List Value} (m ia ib:Nat) (ts:List Nat) (h:PE true P C.G n S (l.take m).toArray ts (l.take m) e fun l'=>look ta l' = .bV∧look tb l' = .bV∧∀b U,OD P C l.toArray (l.drop m) ⟨n,(ta,.v (.pointer (some ⟨b,0,none⟩)))::(tb,.v (.pointer (some ⟨U,0,none⟩)))::l',⟨b,te,(zs.map D.v).length,zs.map .v⟩::⟨U,tf,(zt.map D.v).length,zt.map .v⟩::S⟩ Q) (hm:P.follows .mixedOrders=true:=by kernel_rfl) (hl:Nat.ble m l.length=true:=by kernel_rfl) (hq:qL m l.toArray=true:=by kernel_rfl) (hp:mE (l.take m).toArray=true:=by kernel_rfl)
  (lJ:((l.take m)[ia]?.bind (·.dst))=some ta:=by exact rfl) (hdb:((l.take m)[ib]?.bind (·.dst))=some tb:=by exact rfl) (hea:((l.take m)[ia]?.bind fun o=>match o.op with|.alloc te=>some te|_=>none)=some te:=by exact rfl) (Yk:((l.take m)[ib]?.bind fun o=>match o.op with|.alloc te=>some te|_=>none)=some tf:=by exact rfl)
  (hz:sG P te=some zs:=by exact Sb.hz) (x8:sG P tf=some zt:=by exact Sb.hz) (ha:FF P (l.take m) ia ta te=true:=by kernel_rfl) (hb:FF P (l.take m) ib tb tf=true:=by kernel_rfl) (ri:Nat.beq ta tb=false:=by kernel_rfl) (ht:ts.elem ta=true:=by exact rfl) (Ho:ts.elem tb=true:=by exact rfl) (mH:Region.noSelect l.toArray=true:=by kernel_rfl) (nK:NP Q:=by exact Hs):CD P C (.region id l.toArray true) ⟨n,e,S⟩ Q:=by
 obtain⟨e',l',h1,h2,hj,ju,K⟩:=h;have hne:ta≠tb:=fun e=>by rw[e,Nat.beq_refl] at ri;cases ri
 refine CD.pdL (al:=[⟨ia,ta,te,zs.map .v⟩,⟨ib,tb,tf,zt.map .v⟩]) mH nK hm (Nat.le_of_ble_eq_true hl) hq hp (fun a h=>?_) (by simp[hne]) h1 (fun a h=>?_) fun f=>OD.wk ?_ (K (f ta) (f tb))
 ·rcases mem_cons.1 h with rfl|h
  ·exact QX ha hz
  rw[mem_singleton] at h;subst h;exact QX hb x8
 ·rcases mem_cons.1 h with rfl|h
  ·show look ta e'=_;rw[←h2.at (mem_of_elem_eq_true ht)];exact hj
  rw[mem_singleton] at h;subst h;show look tb e'=_;rw[←h2.at (mem_of_elem_eq_true Ho)];exact ju
 intro C a w hs;have E:bH C ⟨n,(ta,.v (.pointer (some ⟨f ta,0,none⟩)))::(tb,.v (.pointer (some ⟨f tb,0,none⟩)))::e',⟨f ta,te,(zs.map D.v).length,zs.map .v⟩::⟨f tb,tf,(zt.map D.v).length,zt.map .v⟩::S⟩ a w:=hs;refine⟨E.defers,E.size,fun q hq=>?_,E.own,E.fr,E.ex,E.eK⟩;have I:=E.env q hq;simp only[fW] at I ⊢;by_cases e1:ta=q
 ·rw[if_pos e1] at I ⊢;exact I
 rw[if_neg e1] at I ⊢;by_cases e2:tb=q
 ·rw[if_pos e2] at I ⊢;exact I
 rw[if_neg e2] at I ⊢;rcases h2.kC.look q with O|O
 ·rw[O];exact I
 rw[O];exact .bV _

end Go.Proofs.YtkgmonfgofobaaaGreatDoor.V
namespace Go.Proofs.YtkgmonfgofobaaaGreatDoor.V
open List
open Go.RowKit
variable {H:Type} {enc:TypeId×Value→H} {P:Program} {w:World} {base:Nat} {sp:Nat→Bool} {held:Bool}
variable {α:Type} {t:TypeId}
def l5(fuel:Nat)(enc:TypeId×Value→H)(P:Program)(w:World)(base:Nat)(sp:Nat→Bool)(held:Bool)(t:TypeId)(g:α→List D)(ok:α→Prop):Prop :=
 ∀cs x,DataW.trod enc P w base sp held fuel t cs=some x→∃a,cD w (fun _=>False) (g a) cs∧ok a
theorem pC.at{g:α→List D}{ok:α→Prop}(h:pC enc P w base sp held t g ok)(n:Nat):l5 n enc P w base sp held t g ok:=h n
theorem cD.one{w:World}{L:Nat→Prop}{d:D}{v:Value}(h:cg w L d v):cD w L [d] [v]:=⟨rfl,fun i h1 h2=>by
 have:i=0:=(by simpa using h1)
 subst this;exact h⟩
theorem PB{fuel:Nat}{e:TypeId}{sz:Nat}{g:α→List D}{ok:α→Prop}(ht:P.underlying t=some (.slice e))(Z:P.cellsOf e=sz)(iu:0<sz)(re:∀n,n+1=fuel→l5 n enc P w base sp held e g ok)(hg:∀a,(g a).length=sz) :
  l5 fuel enc P w base sp held t (fun l:List α=>[.list sz (l.flatMap g) l.length]) (fun l=>(∀x∈l,ok x)∧l.length≤maxLen):=fun cs x h=>by
 rcases DataW.trod_slice ht h with ⟨rfl,_⟩|⟨a,len,cap,apv,rest,n,hn,rfl,_,hb,hl,cY,hlen,Di,_,_⟩
 ·exact⟨[],cD.one (.nil sz),(fun x hx=>by cases hx),Nat.zero_le _⟩
 have re':=re n hn.symm;rcases Nat.eq_zero_or_pos len with h0|h0
 ·subst h0;exact⟨[],cD.one (.mA sz (some a) cap),(fun x hx=>by cases hx),Nat.zero_le _⟩
 have each:∀i:Fin len,∃y:α,(∃cs',w.cells? base (a.add (i.1*P.cellsOf e)) (P.cellsOf e)=some cs'∧cD w (fun _=>False) (g y) cs')∧ok y:=fun i=>by
  have h1:=Di i.1 i.2;rw[getElem?_eq_getElem (by rw[hlen];exact i.2)] at h1;cases hc:w.cells? base (a.add (i.1*P.cellsOf e)) (P.cellsOf e) with
  | none=>rw[hc] at h1;cases h1
  | some cs' =>
   rw[hc] at h1;obtain⟨y,h3,h4⟩:=re' _ _ h1;exact⟨y,⟨cs',rfl,h3⟩,h4⟩
 obtain⟨cs0,aO,_⟩:=(Classical.choose_spec (each ⟨0,h0⟩)).1;obtain⟨_,oI,h5⟩:=World.cells?_some aO;have h6:=h5 0 w4;rw[getElem?_eq_getElem w4,Nat.zero_mul,show(a.add 0).add 0=a from by simp[Addr.add]] at h6;have E:a.spot=none∧a.block<w.heap.size:=by
  unfold World.cell? at h6;cases hh:w.heap[a.block]? with
  | none=>rw[hh] at h6;cases h6
  | some o =>
   rw[hh] at h6;refine⟨?_,?_⟩
   ·cases o with
    | cells c t f =>
     cases hs:a.spot with
     | none=>rfl
     | some q=>simp[hs] at h6
    | _=>cases h6
   rcases Nat.lt_or_ge a.block w.heap.size with h2|h2
   ·exact h2
   rw[Array.getElem?_eq_none h2] at hh;cases hh
 obtain⟨b,o,s⟩:=a;obtain⟨rfl,aa⟩:=E;let l:List α:=ofFn fun i:Fin len=>Classical.choose (each i)
 have lj:l.length=len:=(by simp[l])
 have O:∀i (hi:i<l.length),(∃cs',w.cells? base ((⟨b,o,none⟩:Addr).add (i*P.cellsOf e)) (P.cellsOf e)=some cs'∧cD w (fun _=>False) (g l[i]) cs')∧ok l[i]:=fun i hi=>by
  have:=Classical.choose_spec (each ⟨i,by omega⟩);simpa[l] using this
 refine⟨l,cD.one ?_,fun x hx=>?_,by omega⟩
 ·have key:∀k,k<(l.flatMap g).length→∃u,w.cell? ⟨b,o+k,none⟩=some u∧∀h:k<(l.flatMap g).length,cg w (fun _=>False) (l.flatMap g)[k] u:=fun k hk=>by
   rw[cm hg] at hk;have hi:k/sz<l.length:=Nat.div_lt_of_lt_mul (by rw[Nat.mul_comm];exact hk);have hj:k % sz<sz:=Nat.mod_lt _ iu;have lG:k/sz*sz+k % sz=k:=(by rw[Nat.mul_comm];exact Nat.div_add_mod k sz)
   obtain⟨⟨cs',h1,h2⟩,_⟩:=O _ hi;obtain⟨_,h4,h5⟩:=World.cells?_some h1;have h6:=h5 (k % sz) w4;have U:k % sz<cs'.length:=(by omega)
   rw[getElem?_eq_getElem U,Go.Deep.add_add,Z,lG,Addr.add_mid] at h6;refine⟨_,h6,fun h=>?_⟩;have h7:=h2.2 (k % sz) (by rw[hg];exact hj) U;have h8:=yX hg hi (getElem?_eq_getElem (show k % sz<(g l[k/sz]).length by rw[hg];exact hj));rw[lG,getElem?_eq_getElem h] at h8;rw[Option.some.inj h8];exact h7
  have I:Value.slice (some ⟨b,o,none⟩) len cap=Value.slice (some ⟨b,o,none⟩) l.length cap:=(by rw[lj])
  rw[I];refine cg.list (L:=fun _=>False) sz (l.flatMap g) l.length b o cap (fun k=>(w.cell? ⟨b,o+k,none⟩).getD undef) (cm hg l) w4 cY aa (fun h=>h.elim) (fun k hk=>?_) (fun k hk=>?_)
  ·obtain⟨u,h1,_⟩:=key k hk;rw[h1];rfl
  obtain⟨u,h1,h2⟩:=key k hk;simp only[h1,Option.getD_some];exact h2 hk
 obtain⟨i,hi,rfl⟩:=mem_iff_getElem.1 hx;exact(O i hi).2
theorem aag {fuel:Nat} {f0 f1 f2 f3:Field} {E I O U:Type} {g0:E→List D} {g1:I→List D} {g2:O→List D} {g3:U→List D} {k0:E→Prop} {k1:I→Prop} {k2:O→Prop} {k3:U→Prop} {n0 n1 n2 n3:Nat}
  (ht:P.underlying t=some (.struct #[f0,f1,f2,f3])) (hc:P.cellsOf t=n0+n1+n2+n3) (o0:f0.offset=0) (o1:f1.offset=n0) (o2:f2.offset=n0+n1) (o3:f3.offset=n0+n1+n2) (c0:P.cellsOf f0.type=n0) (c1:P.cellsOf f1.type=n1) (c2:P.cellsOf f2.type=n2) (c3:P.cellsOf f3.type=n3)
  (r0:∀n,n+1=fuel→l5 n enc P w base sp held f0.type g0 k0) (r1:∀n,n+1=fuel→l5 n enc P w base sp held f1.type g1 k1) (r2:∀n,n+1=fuel→l5 n enc P w base sp held f2.type g2 k2) (r3:∀n,n+1=fuel→l5 n enc P w base sp held f3.type g3 k3) :
  l5 fuel enc P w base sp held t (fun a:E × I × O × U=>g0 a.1++(g1 a.2.1++(g2 a.2.2.1++g3 a.2.2.2))) (fun a=>k0 a.1∧k1 a.2.1∧k2 a.2.2.1∧k3 a.2.2.2):=fun cs x h=>by
 obtain⟨xs,n,hn,_,hl,gg,hf⟩:=DataW.trod_struct ht h;have Z:=hf 0 f0 rfl;have e1:=hf 1 f1 rfl;have e2:=hf 2 f2 rfl;have e3:=hf 3 f3 rfl;rw[o0,c0,drop_zero] at Z;rw[o1,c1] at e1;rw[o2,c2] at e2;rw[o3,c3] at e3;have Nd:xs.length=4:=gg;rw[getElem?_eq_getElem w4] at Z e1 e2 e3;obtain⟨a0,p0,q0⟩:=r0 n hn.symm _ _ Z;obtain⟨a1,p1,q1⟩:=r1 n hn.symm _ _ e1;obtain⟨a2,p2,q2⟩:=r2 n hn.symm _ _ e2;obtain⟨a3,p3,q3⟩:=r3 n hn.symm _ _ e3;refine⟨(a0,a1,a2,a3),?_,q0,q1,q2,q3⟩;have de:cs=cs.take n0++((cs.drop n0).take n1++((cs.drop (n0+n1)).take n2++(cs.drop (n0+n1+n2)).take n3)):=by
  rw[take_of_length_le (l:=drop (n0+n1+n2) cs) (by rw[length_drop];omega)];have e1:cs.drop (n0+n1+n2)=(cs.drop (n0+n1)).drop n2:=(by rw[drop_drop])
  have e2:cs.drop (n0+n1)=(cs.drop n0).drop n1:=(by rw[drop_drop])
  rw[e1,take_append_drop,e2,take_append_drop,take_append_drop]
 rw[de];exact p0.append (p1.append (p2.append p3))
theorem agu {E:Array Field} {I:Nat} {g:α→List D} {ok:α→Prop} (ht:P.underlying t=some (.struct E)) (O:∀n,l5 n enc P w base sp held t g ok) {v:Value} {d:DataW H} {p:List MemPlace}
  (hval:Value.okWide P w .any I t v) (h:DataW.Trod enc P w base sp held t v d p):∃a:α,cg w (fun _=>False) (.agg (g a)) v∧ok a∧True:=by
 unfold Value.okWide at hval;rw[ht] at hval;obtain⟨cs,rfl,_⟩:=hval;obtain⟨m,hm⟩:=h;obtain⟨a,h1,h2⟩:=O m _ _ hm;exact⟨a,by
  have:=cg.agg (w:=w) (L:=fun _=>False) (g a) cs.toList h1.1 (fun i q1 q2=>h1.2 i q1 q2);simpa using this,h2,trivial⟩

end Go.Proofs.YtkgmonfgofobaaaGreatDoor.V
namespace Go.Proofs.YtkgmonfgofobaaaGreatDoor.V
open List
open Go.RowKit
variable {P:Program} {C:dx} {G:List (Nat×List Value)} {Q:Exit→St→Prop} {x:St} {ops:Array Oper} {l:List Oper} {o:Oper} {S1 T:List Nat} {fuel i:Nat} {ld:Array Bool}
variable {y:Operand} {t e tt m b k cap:Nat} {B:ah} {kq kn:IntKind} {ts:Array TypeId}
def toEnd(B:ah):ah:={B with cs:=B.cs++replicate (B.size-B.cs.length) .bV}
theorem Wk.toEnd{n:Nat}{l:List (Nat×D)}{S:List ah}{k:Nat}{B:ah}(hk:S[k]?=some B):Wk ⟨n,l,S⟩ ⟨n,l,S.set k (V.toEnd B)⟩:=fun C a w h=>by
 have E:av (S.set k (V.toEnd B))=av S:=by
  unfold av;rw[map_set];have aa:k<S.length:=(List.getElem?_eq_some_iff.1 hk).1;have:(S.map ah.b)[k]'(by simpa using aa)=B.b:=(by rw[getElem_map];rw[(List.getElem?_eq_some_iff.1 hk).2])
  show(S.map ah.b).set k B.b=_;rw[←this,set_getElem_self]
 have hl:live C.X (S.set k (V.toEnd B))=live C.X S:=(by funext b;unfold live;rw[E])
 refine⟨h.defers,h.size,by simpa only[hl] using h.env,⟨fun B' I=>?_,by rw[E];exact h.own.apart⟩,by simpa only[E] using h.fr,h.ex,h.eK⟩;rw[hl];rcases mem_or_eq_of_mem_set I with I|rfl
 ·exact h.own.at_ B' I
 obtain⟨r0,cur,r1,r2,r3,U⟩:=h.own.at_ B (mem_of_getElem? hk);have key:∀i (hi:i<(B.cs++replicate (B.size-B.cs.length) D.bV).length),∃u,cur[i]?=some u∧cg w (live C.X S) (B.cs++replicate (B.size-B.cs.length) D.bV)[i] u:=fun i hi=>by
  have O:=hi;rw[length_append,length_replicate] at O;rcases Nat.lt_or_ge i B.cs.length with q|q
  ·obtain⟨u,hu,hq⟩:=U i q;exact⟨u,hu,by rw[getElem_append_left q];exact hq⟩
  exact⟨cur[i]'w4,Array.getElem?_eq_getElem w4,by rw[getElem_append_right q,getElem_replicate];exact .bV _⟩
 refine⟨r0,cur,r1,r2,?_,key⟩;show(B.cs++replicate (B.size-B.cs.length) D.bV).length≤B.size;rw[length_append,length_replicate];omega
theorem acW {d:Operand} {t2 m2 c b2 k2 od oy c2:Nat} {B2:ah} {new cs':List D} (ho:o.op = .call {callee:=.builtin .copy,args:=#[d,y],argTypes:=#[t,t2]}) (hd:o.dst=some tt)
  (ht:P.underlying t=some (.slice e)) (hi:(P.info? e).map (fun i=>i.size)=some 1)
  (hs:aE x d = .v (.slice (some ⟨b,od,none⟩) m c)) (hk:x.S[k]?=some B) (hb:B.b=b) (hy:aE x y = .v (.slice (some ⟨b2,oy,none⟩) m2 c2)) (fF:x.S[k2]?=some B2) (pF:B2.b=b2)
  (O:(B2.cs.drop oy).take (Nat.min m2 m)=new) (hlen:new.length=Nat.min m2 m) (iS:∀d∈new,one d=true) (hl:od+new.length≤B.cs.length) (de:c8 B.cs od new=cs') (hne:isMap B.e=false:=by rfl) (j3:isMap B2.e=false:=by rfl) :
  fM P G x o [b] (fun y=>y=⟨x.n,(tt,.v (.int .i64 (new.length:Nat)))::x.env,x.S.set k {B with cs:=cs'}⟩):=fun C a w K Q hG h hK=>by
 subst de hb pF;obtain⟨h0,cur,q1,q2,q3,q4⟩:=h.fG hk;rw[kx hne] at q1;obtain⟨h02,nV,p1,p2,p3,p4⟩:=h.fG fF;rw[kx j3] at p1;have jv:∀j,(hj:j<new.length)→∃hj2:oy+j<B2.cs.length,new[j]=B2.cs[oy+j]:=fun j hj=>by
  have h2:oy+j<B2.cs.length:=by
   have:=congrArg length O;rw[length_take,length_drop] at this;omega
  refine⟨h2,?_⟩;have e2:new[j]?=some B2.cs[oy+j]:=(by rw[←O,getElem?_take,if_pos w4,getElem?_drop,getElem?_eq_getElem h2])
  rw[getElem?_eq_getElem hj] at e2;exact Option.some.inj e2
 let vs:List Value:=(range new.length).map fun j=>nV.getD (oy+j) undef
 have E:vs.length=new.length:=(by simp[vs])
 have hv:∀j (hj:j<new.length),∃u,nV[oy+j]?=some u∧vs[j]?=some u∧cg w (live C.X x.S) new[j] u:=fun j hj=>by
  obtain⟨h1,h3⟩:=jv j hj;obtain⟨u,I,hq⟩:=p4 (oy+j) h1;refine⟨u,I,?_,h3 ▸ hq⟩;simp[vs,hj,I]
 have hr:cD w (live C.X x.S) new vs:=⟨by rw[E],fun j h1 h2=>by
  obtain⟨u,_,I,hq⟩:=hv j h1;rw[getElem?_eq_getElem h2] at I;rw[Option.some.inj I];exact hq⟩
 obtain⟨s1,s2,s3⟩:=h.store (hne:=hne) hk hr (o':=od) hl;have Z:=run_copy_cells (P:=P) w t t2 o.type e B.b od m c ⟨B2.b,oy,none⟩ m2 c2 vs ht hi (by rw[E,hlen]) (fun j u I=>by
   rw[Addr.add_mid];have hj:j<new.length:=(by rw[←E];exact(List.getElem?_eq_some_iff.1 I).1)
   obtain⟨u',x5,x6,_⟩:=hv j hj;rw[x6] at I;rw[←I];exact og p1 x5) (fun j hj=>by
   have:od+j<cur.size:=(by rw[E] at hj;omega)
   rw[og q1 (u:=cur[od+j]) (by simp[this])];rfl) (fun j hj=>by unfold World.frozen?;simp[q1]) (fun u I=>by
   obtain⟨j,hj,rfl⟩:=mem_iff_getElem.1 I;have ju:j<new.length:=(by omega)
   exact(hr.2 j ju hj).Bn (iS _ (getElem_mem ju)))
 have U:(execOp a.eval o).run P w = .ok (.value (goInt vs.length)) (w.setCells B.b od vs):=by
  unfold execOp;simp only[ho,resolve,invoke,builtin,Sem.run_bind,Sem.run_pure,Result.andThen_ok,map_toArray,map_cons,map_nil,h.flat hs,h.flat hy,Z]
 unfold Oper.wp;rw[U,Oper.upon_value,hd];exact hK _ _ _ rfl (s1.put (by rw[E];exact .v _)) s2 s3
theorem OD.copy {d y:Operand} {t t2 e tt m I c b b2 k k2 od oy U:Nat} {B B2:ah} {new cs':List D} (hw:bZ ops x o true) (ho:o.op = .call {callee:=.builtin .copy,args:=#[d,y],argTypes:=#[t,t2]}) (hd:o.dst=some tt)
  (ht:P.underlying t=some (.slice e)) (hi:(P.info? e).map (fun i=>i.size)=some 1)
  (hs:aE x d = .v (.slice (some ⟨b,od,none⟩) m c)) (hk:x.S[k]?=some B) (hb:B.b=b) (hy:aE x y = .v (.slice (some ⟨b2,oy,none⟩) I U)) (fF:x.S[k2]?=some B2) (O:B2.b=b2)
  (E:(B2.cs.drop oy).take (Nat.min I m)=new) (hlen:new.length=Nat.min I m) (iS:∀d∈new,one d=true) (hl:od+new.length≤B.cs.length) (de:c8 B.cs od new=cs')
  (K:OD P C ops l ⟨x.n,(tt,.v (.int .i64 (new.length:Nat)))::x.env,x.S.set k {B with cs:=cs'}⟩ Q) (hne:isMap B.e=false:=by rfl) (j3:isMap B2.e=false:=by rfl):OD P C ops (o::l) x Q :=
 OD.fU hw (acW (hne:=hne) (j3:=j3) ho hd ht hi hs hk hb hy fF O E hlen iS hl de) fun y hy=>hy ▸ K
theorem ZT {s:Operand} {tn n bytes:Nat} {z:Value} (ho:o.op = .call {callee:=.builtin .append,args:=#[s,y],argTypes:=#[t,tn]}) (hd:o.dst=some tt)
  (ht:P.underlying t=some (.slice e)) (NB:P.underlying tn=some (.int kn)) (hi:(P.info? e).map (fun i=>(i.zero,i.size,i.bytes))=some (some z,1,bytes)) (eX:z.cells.size=1)
  (hs:aE x s = .v (.slice (some ⟨b,0,none⟩) n cap)) (hk:x.S[k]?=some B) (hb:B.b=b) (hl:n≤B.cs.length) (hy:aE x y = .v (.int kq m)) (hg:cap<n+m) (h0:0<m) (gz:n+m≤maxLen) (O:(n+m)*bytes≤140737488355328) (hne:isMap B.e=false:=by rfl) (j3:isMap e=false:=by rfl) :
  fM P G x o [] (fun y=>∃b' E,n+m≤E∧E≤maxLen∧y=⟨x.n,(tt,.v (.slice (some ⟨b',0,none⟩) (n+m) E))::x.env,⟨b',e,E*1,B.cs.take n⟩::x.S⟩):=fun C a w K Q hG h hK=>by
 subst hb;obtain⟨i,j9,lI,pB,qn⟩:=yV hi;obtain⟨r0,cur,r1,r2,r3,r4⟩:=h.fG hk;rw[kx hne] at r1;have ku:n≤cur.size:=(by omega)
 have hold:(Builtin.firstCells i.size n (.slice (some ⟨B.b,0,none⟩) n cap)).run P w.drew = .ok (cur.toList.take n).toArray w.drew:=by
  rw[pB];exact run_firstCells_some w.drew 1 n ⟨B.b,0,none⟩ n cap (cur.toList.take n) ig (fun j v hj=>by
   rw[Addr.add_mid];rw[getElem?_take] at hj;split at hj
   ·rw[Array.getElem?_toList] at hj;have:w.drew.heap[B.b]?=some (.cells cur B.e (0,0)):=r1;exact og this (by rw[Nat.zero_add];exact hj)
   cases hj)
 have I:=Lib.run_append_grow_zeros (P:=P) w t tn o.type e i z kq kn ht NB j9 lI (some ⟨B.b,0,none⟩) n cap _ hold m h0 w4 hg (by simp only[maxLen] at gz;omega) (by rw[qn];exact Nat.le_trans (Nat.mul_le_mul_right _ (Nat.le_add_left m n)) w4) (by rw[qn];exact growslice_fits hg O);have h1:=grownCap_ge w (n+m) cap e;have h2:=grownCap_le_maxLen w (n+m) cap e gz;generalize grownCap w (n+m) cap e=E at I h1 h2;generalize Z:(cur.toList.take n).toArray++Builtin.zeroCells z.cells m++Builtin.zeroCells z.cells (E-(n+m))=U at I;have yh:∀q,(Builtin.zeroCells z.cells q).size=q:=fun q=>by
  obtain⟨u,hu⟩:∃u,z.cells = #[u]:=by
   have:z.cells.toList.length=1:=(by simpa using eX)
   obtain⟨u,hu⟩:=length_eq_one_iff.1 this;exact⟨u,by rw[←Array.toArray_toList (xs:=z.cells),hu]⟩
  simp[Builtin.zeroCells,hu]
 have iu:U.size=E*1:=by
  rw[←Z,Array.size_append,Array.size_append,yh,yh];simp;omega
 have K5:(execOp a.eval o).run P w = .ok (.value (.slice (some ⟨w.heap.size,0,none⟩) (n+m) E)) (w.drew.alloc (.cells U e)):=by
  unfold execOp;simp only[ho,resolve,invoke,builtin,Sem.run_bind,Sem.run_pure,Result.andThen_ok,map_toArray,map_cons,map_nil,h.flat hs,h.flat hy,I]
 obtain⟨s1,s2,s3⟩:=h.grown (w':=w.drew.alloc (.cells U e)) (t:=tt) (m:=n+m) (e:=e) (sz:=1) (S:=x.S) (cs:=B.cs.take n) (row:=none) (g:=w.heap.size) (cap:=E) (cur:=U) (hne:=j3) (Sublist.refl _) (fun k hk=>by cases hk)
  ⟨rfl,rfl,rfl,by show w.heap.size≤(w.heap.push _).size;simp,fun k hk _=>getElem?_push_lt (w:=w.drew) hk⟩ (.inr rfl) MT MU iu pp (fun j hj=>by
   have ju:j<n:=(by rw[length_take] at hj;omega)
   obtain⟨u,hu,hq⟩:=r4 j w4;refine⟨u,?_,by rw[getElem_take];exact hq⟩;rw[←Z,Array.append_assoc,Array.getElem?_append_left ig];simp[ju,hu])
 unfold Oper.wp;rw[K5,Oper.upon_value,hd];exact hK _ _ _ ⟨_,_,h1,h2,rfl⟩ s1 s2 s3
theorem OD.S8 {s:Operand} {tn n bytes:Nat} {z:Value} (hw:bZ ops x o true) (ho:o.op = .call {callee:=.builtin .append,args:=#[s,y],argTypes:=#[t,tn]}) (hd:o.dst=some tt)
  (ht:P.underlying t=some (.slice e)) (U:P.underlying tn=some (.int kn)) (hi:(P.info? e).map (fun i=>(i.zero,i.size,i.bytes))=some (some z,1,bytes)) (eX:z.cells.size=1)
  (hs:aE x s = .v (.slice (some ⟨b,0,none⟩) n cap)) (hk:x.S[k]?=some B) (hb:B.b=b) (hl:n≤B.cs.length) (hy:aE x y = .v (.int kq m)) (hg:cap<n+m) (h0:0<m) (Z:n+m≤maxLen) (I:(n+m)*bytes≤140737488355328)
  (K:∀O E,n+m≤E→E≤maxLen→OD P C ops l ⟨x.n,(tt,.v (.slice (some ⟨O,0,none⟩) (n+m) E))::x.env,⟨O,e,E*1,B.cs.take n⟩::x.S⟩ Q) (hne:isMap B.e=false:=by rfl) (j3:isMap e=false:=by rfl):OD P C ops (o::l) x Q :=
 OD.fU hw (ZT (hne:=hne) (j3:=j3) ho hd ht U hi eX hs hk hb hl hy hg h0 Z I) fun y ⟨O,E,h1,h2,hy⟩=>hy ▸ K O E h1 h2
theorem ZE {f:FuncId} {fn:Func} {z:Operand} {r oy c b2 oz m2 c2 k2:Nat} {B2:ah} (ho:o.op = .call {callee:=.value (.func f),args:=#[y,z],argTypes:=ts}) (hd:o.dst=some tt)
  (hf : P.funcs[f]? = some fn) (BR : (fn.name == "runtime.NumGoroutine") = false) (AJ : fn.body.isNone = true) (hn : Extern.findNext fn = none) (he : Extern.find fn = some (Extern.SlicesOverlaps.overlaps #[t, t] #[r])) (ht : P.underlying t = some (.slice e)) (mg : ∀ w, (sizeOf e).run P w = .ok 1 w)
  (hy:aE x y = .v (.slice (some ⟨b,oy,none⟩) m c)) (hk:x.S[k]?=some B) (hb:B.b=b) (hz:aE x z = .v (.slice (some ⟨b2,oz,none⟩) m2 c2)) (fF:x.S[k2]?=some B2) (pF:B2.b=b2) (lG:k≠k2) (uz:B2.size≠0) (hne:isMap B.e=false:=by rfl) (j3:isMap B2.e=false:=by rfl) :
  fM P G x o [] (fun s=>s=x.put tt (.v (.bool false))):=fun C a w K Q hG h hK=>by
 subst hb pF;obtain⟨r0,cur,r1,r2,r3,r4⟩:=h.fG hk;rw[kx hne] at r1;obtain⟨p0,nV,p1,p2,p3,p4⟩:=h.fG fF;rw[kx j3] at p1;have Yl:B.b≠B2.b:=fun e=>by
  have hnd:=h.own.apart;have l1:=(List.getElem?_eq_some_iff.1 hk).1;have l2:=(List.getElem?_eq_some_iff.1 fF).1;have e1:(av x.S)[k]?=some B.b:=(by unfold av;rw[getElem?_map,hk];rfl)
  have e2:(av x.S)[k2]?=some B2.b:=(by unfold av;rw[getElem?_map,fF];rfl)
  obtain⟨q1,e1⟩:=List.getElem?_eq_some_iff.1 e1;obtain⟨q2,e2⟩:=List.getElem?_eq_some_iff.1 e2;rcases Nat.lt_trichotomy k k2 with q|q|q
  ·exact pairwise_iff_getElem.1 hnd k k2 q1 q2 q (by rw[e1,e2,e])
  ·exact lG q
  exact pairwise_iff_getElem.1 hnd k2 k q2 q1 q (by rw[e1,e2,e])
 have hc:(callFunc f #[a.eval y,a.eval z]).run P w = .ok (.value (.bool false)) w:=by
  rw[h.flat hy,h.flat hz,run_callFunc_extern hf BR AJ hn he,Lib.run_overlaps_apart w t r e ht 1 mg ⟨B.b,oy,none⟩ ⟨B2.b,oz,none⟩ m c m2 c2 Yl B.e B2.e cur.size nV.size (by simp[World.shape?,r1]) (by simp[World.shape?,p1]) w4 (by unfold World.frozen?;simp[r1]) (by unfold World.frozen?;simp[r1])];rfl
 unfold Oper.wp;have nU:(execOp a.eval o).run P w = .ok (.value (.bool false)) w:=by
  unfold execOp;have ef:a.eval (.func f) = .func (.func f) #[] #[]:=rfl;simp only[ho,resolve,ef,Deferred.ofValue,Sem.run_bind,Sem.run_pure,Result.andThen_ok,invoke];simp[hc]
 rw[nU,Oper.upon_value,hd];exact hK _ _ _ rfl (h.put (.v _)) (mc.refl _ _) (Fr.refl _ _)
theorem OD.overlaps {f:FuncId} {fn:Func} {y z:Operand} {ts:Array TypeId} {t r e tt b oy m c b2 oz m2 c2 k k2:Nat} {B B2:ah} (hw:bZ ops x o true) (ho:o.op = .call {callee:=.value (.func f),args:=#[y,z],argTypes:=ts}) (hd:o.dst=some tt)
  (hf : P.funcs[f]? = some fn) (BR : (fn.name == "runtime.NumGoroutine") = false) (AJ : fn.body.isNone = true) (hn : Extern.findNext fn = none) (he : Extern.find fn = some (Extern.SlicesOverlaps.overlaps #[t, t] #[r])) (ht : P.underlying t = some (.slice e)) (mg : ∀ w, (sizeOf e).run P w = .ok 1 w)
  (hy:aE x y = .v (.slice (some ⟨b,oy,none⟩) m c)) (hk:x.S[k]?=some B) (hb:B.b=b) (hz:aE x z = .v (.slice (some ⟨b2,oz,none⟩) m2 c2)) (fF:x.S[k2]?=some B2) (pF:B2.b=b2) (lG:k≠k2) (uz:B2.size≠0)
  (K:OD P C ops l (x.put tt (.v (.bool false))) Q) (hne:isMap B.e=false:=by rfl) (j3:isMap B2.e=false:=by rfl):OD P C ops (o::l) x Q :=
 OD.fU hw (ZE (hne:=hne) (j3:=j3) ho hd hf BR AJ hn he ht mg hy hk hb hz fF pF lG uz) fun y hy=>hy ▸ K
theorem Er {t e:TypeId} {ad:Option Addr} {len:Nat} (ho:o.op = .call {callee:=.builtin .cap,args:=#[y],argTypes:=ts}) (ht:ts = #[t]) (hy:aE x y = .v (.slice ad len cap))
  (E:∀w,(underlying t).run P w = .ok (.slice e) w):bU P G x o .none (.v (.int .i64 cap)):=fun C a w _ h=>⟨_,.v _,fun w' _=>by
 subst ht;unfold execOp;simp[ho,resolve,invoke,builtin,Builtin.cap_,h.flat hy,E,goInt]⟩

end Go.Proofs.YtkgmonfgofobaaaGreatDoor.V
namespace Go.Proofs.YtkgmonfgofobaaaGreatDoor.V

open List
open Go.RowKit
variable {P:Program} {C:dx} {G:List (Nat×List Value)} {Q:Exit→St→Prop} {x:St} {ops:Array Oper} {l:List Oper} {o:Oper}
variable {t e:TypeId} {cap sz n tt bytes:Nat} {k2 k3:IntKind} {y hi E:Operand} {ad:Option Addr} {Sq:List ah}
theorem ZF {b len:Nat} (ho:o.op = .slice t y none (some hi) (some E)) (hy:aE x y = .v (.slice (some ⟨b,0,none⟩) len cap)) (eD:aE x hi = .v (.int k2 n)) (cY:aE x E = .v (.int k3 n))
  (I:∀w,(underlying t).run P w = .ok (.slice e) w) (hs:∀w,(sizeOf e).run P w = .ok sz w) (h3:n≤cap):bU P G x o .none (.v (.slice (some ⟨b,0,none⟩) n n)):=fun C a w _ h =>
 ⟨_,.v _,fun w' _=>by
  have b3:∀w,(Instr.sliceBounds true len cap none (some (.int k2 n)) (some (.int k3 n))).run P w = .ok (0,n,n) w:=fun w=>by
   unfold Instr.sliceBounds;simp[Ec,h3]
  unfold execOp;simp only[ho,h.flat hy,h.flat eD,h.flat cY,Instr.sliceAt,Instr.slice,I,Sem.run_bind,Result.andThen_ok,Option.map_some,Option.map_none,b3,hs,Sem.run_pure];by_cases hc:n=0
  ·rw[if_pos hc];simp
  rw[if_neg hc];simp[Addr.add]⟩
theorem aeO(len cap n:Nat)(h3:n≤cap)(w:World):(Instr.sliceBounds true len cap none (some (.int k2 n)) (some (.int k3 n))).run P w = .ok (0,n,n) w:=by
 unfold Instr.sliceBounds;simp[Ec,h3]
theorem Zt (ho:o.op = .slice t y none (some hi) (some E)) (hy:aE x y = .v (.slice none 0 0)) (eD:aE x hi = .v (.int k2 n)) (cY:aE x E = .v (.int k3 n)) (hn:n=0)
  (I:∀w,(underlying t).run P w = .ok (.slice e) w) (hs:∀w,(sizeOf e).run P w = .ok sz w):bU P G x o .none (.v (.slice none 0 0)):=fun C a w _ h =>
 ⟨_,.v _,fun w' _=>by
  have b3:=fun w=>aeO (P:=P) (k2:=k2) (k3:=k3) 0 0 n w4 w;unfold execOp;simp only[ho,h.flat hy,h.flat eD,h.flat cY,Instr.sliceAt,Instr.slice,I,Sem.run_bind,Result.andThen_ok,Option.map_some,Option.map_none,b3,hs,Sem.run_pure];subst hn;simp⟩
theorem Zu {s:Operand} {t e m b k:Nat} {z:Value} {B:ah} {cs:List D} (ho:o.op = .call {callee:=.builtin .append,args:=#[s,y],argTypes:=#[t,t]}) (hd:o.dst=some tt)
  (ht:P.underlying t=some (.slice e)) (hi:(P.info? e).map (fun i=>(i.zero,i.size,i.bytes))=some (some z,sz,bytes)) (eX:z.cells.size=sz) (iu:0<sz)
  (hs:aE x s = .v (.slice (some ⟨b,0,none⟩) n n)) (hk:x.S[k]?=some B) (hb:B.b=b) (hl:n*sz≤B.cs.length)
  (hy:aE x y = .list sz cs m) (iS:∀d∈cs,one d=true) (apw:∀d∈B.cs.take (n*sz),one d=true) (hm:0<m) (gz:n+m≤maxLen) (ags:(n+m)*bytes≤140737488355328) (hne:isMap B.e=false:=by rfl) (j3:isMap e=false:=by rfl) :
  fM P G x o [] (fun y=>∃b' E,n+m≤E∧E≤maxLen∧y=⟨x.n,(tt,.v (.slice (some ⟨b',0,none⟩) (n+m) E))::x.env,⟨b',e,E*sz,B.cs.take (n*sz)++cs⟩::x.S⟩):=fun C a w K Q hG h hK=>by
 subst hb;obtain⟨i,j9,lI,pB,qn⟩:=yV hi;obtain⟨r0,cur,r1,r2,r3,r4⟩:=h.fG hk;rw[kx hne] at r1;have hr:=h.eval y;rw[hy] at hr;generalize hg:a.eval y=u at hr;cases hr with
 | mA=>omega
 | list _ _ _ b' o' E f me q1 q2 jS hL hc Ay =>
  have aju:Builtin.nextslicecap (n+m) n*bytes≤281474976710656:=by
   have q1:=nextslicecap_le (need:=n+m) (old:=n) w4;have q2:=Nat.mul_le_mul_right bytes q1;rw[Nat.mul_assoc] at q2;omega
  have I:=Go.run_append_grow (P:=P) (w:=w) t o.type e i z ht j9 lI ⟨B.b,0,none⟩ n n (cur.toList.take (n*sz)) (by rw[pB];simp;omega) (fun j v hv=>by
    have hj:=(List.getElem?_eq_some_iff.1 hv).1;rw[length_take] at hj;rw[getElem?_take_of_lt w4,Array.getElem?_toList] at hv;rw[Addr.add_mid,Nat.zero_add];exact og r1 hv) ⟨b',o',none⟩ m E ((range cs.length).map f) (by rw[pB];simp[me]) (fun j u hu=>by
    rw[Addr.add_mid];obtain⟨hj,he⟩:=List.getElem?_eq_some_iff.1 hu;simp only[length_map,length_range] at hj;rw[hc j hj,←he];simp) w4 (by simp only[maxLen] at gz;omega) (by rw[qn];exact aju)
  have h1:=grownCap_ge w (n+m) n e;have h2:=grownCap_le_maxLen w (n+m) n e gz;generalize grownCap w (n+m) n e=cp at I h1 h2;generalize O:(cur.toList.take (n*sz)).toArray++((range cs.length).map f).toArray++Builtin.zeroCells z.cells (cp-(n+m))=Z at I;have yh:∀q,(Builtin.zeroCells z.cells q).size=q*sz:=fun q=>by simp[Builtin.zeroCells,eX]
  have aa:(cur.toList.take (n*sz)).length=n*sz:=(by rw[length_take];simp;omega)
  have Cg:Z.size=cp*sz:=by
   rw[←O,Array.size_append,Array.size_append,yh];simp only[size_toArray,aa,length_map,length_range,me,←Nat.add_mul];congr 1;omega
  have Ym:(B.cs.take (n*sz)++cs).length=(n+m)*sz:=(by rw[length_append,length_take,me,Nat.add_mul];omega)
  obtain⟨s1,s2,s3⟩:=h.grown (w':=w.drew.alloc (.cells Z e)) (t:=tt) (m:=n+m) (e:=e) (sz:=sz) (S:=x.S) (cs:=B.cs.take (n*sz)++cs) (row:=none) (g:=w.heap.size) (cap:=cp) (cur:=Z) (hne:=j3) (Sublist.refl _) (fun k hk=>by cases hk)
   ⟨rfl,rfl,rfl,by show w.heap.size≤(w.heap.push _).size;simp,fun k hk _=>getElem?_push_lt (w:=w.drew) hk⟩ (.inr rfl) MT MU Cg (by rw[Ym];exact Nat.mul_le_mul_right _ h1) (fun j hj=>by
    rw[Ym,Nat.add_mul] at hj;by_cases jv:j<n*sz
    ·obtain⟨u,hu,hq⟩:=r4 j w4;refine⟨u,?_,?_⟩
     ·rw[←O,Array.getElem?_append_left (by simp[aa];omega),Array.getElem?_append_left (by simp[aa];omega),getElem?_toArray,getElem?_take_of_lt jv,Array.getElem?_toList,hu]
     rw[getElem_append_left pp,getElem_take];exact hq
    have U:j-n*sz<cs.length:=(by omega)
    refine⟨f (j-n*sz),?_,?_⟩
    ·rw[←O,Array.getElem?_append_left (by simp[aa];omega),Array.getElem?_append_right (by simp[aa];omega)];simp[aa,U]
    rw[getElem_append_right pp];have:=Ay (j-n*sz) U;have e1:(B.cs.take (n*sz)).length=n*sz:=(by rw[length_take];omega)
    simp only[e1];exact this)
  unfold Oper.wp;rw[A6 (P:=P) ho (h.flat hs) hg I,Oper.upon_value,hd];exact hK _ _ _ ⟨_,_,h1,h2,rfl⟩ s1 s2 s3
theorem Zv {len:Nat} {cs:List D} (O:bg e sz cs len ad cap Sq) (ho:o.op = .slice t y none (some hi) (some E)) (hy:aE x y = .v (.slice ad len cap)) (eD:aE x hi = .v (.int k2 n)) (cY:aE x E = .v (.int k3 n))
  (I:∀w,(underlying t).run P w = .ok (.slice e) w) (hs:∀w,(sizeOf e).run P w = .ok sz w) (hn:n≤len):bU P G x o .none (.v (.slice ad n n)):=by
 rcases O with ⟨rfl,rfl,rfl,rfl,rfl⟩|⟨b,rfl,h1,h2,rfl⟩
 ·have h:=Zt (P:=P) (G:=G) ho hy eD cY w4 I hs;obtain rfl:n=0:=(by omega)
  exact h
 exact ZF ho hy eD cY I hs w4
theorem OD.aah {α:Type} {g:α→List D} {ls new:List α} {s:Operand} {t e:Nat} {z:Value} {R:List ah} (hg:∀a,(g a).length=sz) (hg1:∀a,(g a).all one=true) (hw:bZ ops x o true) (ho:o.op = .call {callee:=.builtin .append,args:=#[s,y],argTypes:=#[t,t]}) (hd:o.dst=some tt)
  (ht:P.underlying t=some (.slice e)) (hi:(P.info? e).map (fun i=>(i.zero,i.size,i.bytes))=some (some z,sz,bytes)) (eX:z.cells.size=sz) (U:0<sz)
  (hs:aE x s = .v (.slice ad n n)) (hO:bg e sz (ls.flatMap g) ls.length ad cap Sq) (hp:x.S.Perm (Sq++R)) (hn:n≤ls.length)
  (hy:aE x y = .list sz (new.flatMap g) new.length) (hm:0<new.length) (Z:n+new.length≤maxLen) (I:(n+new.length)*bytes≤140737488355328)
  (K:∀O E,(ls.take n++new).length≤E→E≤maxLen→OD P C ops l ⟨x.n,(tt,.v (.slice (some ⟨O,0,none⟩) (ls.take n++new).length E))::x.env,⟨O,e,E*sz,(ls.take n++new).flatMap g⟩::R⟩ Q) (hne:isMap e=false:=by rfl):OD P C ops (o::l) x Q:=by
 have hlen:(ls.take n++new).length=n+new.length:=(by rw[length_append,length_take];omega)
 rcases hO with ⟨h1,h2,rfl,rfl,rfl⟩|⟨b,rfl,h1,h2,rfl⟩
 ·have Yn:ls=[]:=length_eq_zero_iff.1 h1;subst Yn;obtain rfl:n=0:=(by simpa using hn)
  refine OD.eB (hne:=hne) (ls:=([]:List α)) (new:=new) (Sq:=[]) (R:=R) (ad:=none) (cap:=0) hg hg1 hw ho hd ht hi eX U hs (.inl ⟨rfl,rfl,rfl,rfl,rfl⟩) hp hy hm (by simpa using Z) (by simpa using I) ?_;intro O E q1 q2;exact K O E (by simpa using q1) q2
 refine OD.perm hp ?_;refine OD.fU (fun C a w h=>hw C a w (Wk.perm hp.symm C a w h)) (Zu (hne:=hne) (j3:=hne) (k:=0) ho hd ht hi eX U hs rfl rfl (by rw[cm hg];exact Nat.mul_le_mul_right _ hn) hy (tW hg1 new) (by rw[tO hg];exact tW hg1 _) hm Z I) ?_;rintro _ ⟨O,E,q1,q2,rfl⟩;have k:=K O E (by rw[hlen];exact q1) q2;rw[hlen,flatMap_append,←tO hg] at k;exact OD.wk (Wk.drop _ _ _ _ (Sublist.cons_cons _ (Sublist.cons _ (Sublist.refl _)))) k
variable {S1 T:List Nat} {fuel i:Nat} {ld:Array Bool}
theorem bB.pO {α:Type} {g:α→List D} {ls new:List α} {s:Operand} {t e:Nat} {z:Value} {R:List ah} (hg:∀a,(g a).length=sz) (hg1:∀a,(g a).all one=true) (U:ops[i]?=some o) (hw:bZ ops x o true) (ho:o.op = .call {callee:=.builtin .append,args:=#[s,y],argTypes:=#[t,t]}) (hd:o.dst=some tt)
  (ht:P.underlying t=some (.slice e)) (hi:(P.info? e).map (fun i=>(i.zero,i.size,i.bytes))=some (some z,sz,bytes)) (eX:z.cells.size=sz) (iu:0<sz) (hu:∀w,(underlying t).run P w = .ok (.slice e) w) (Ni:∀w,(sizeOf e).run P w = .ok sz w)
  (hs:aE x s = .v (.slice ad ls.length cap)) (O:bg e sz (ls.flatMap g) ls.length ad cap Sq) (hp:x.S.Perm (Sq++R))
  (hy:aE x y = .list sz (new.flatMap g) new.length) (gz:ls.length+new.length≤maxLen) (I:(ls.length+new.length)*bytes≤140737488355328)
  (K:∀Z E S',bg e sz ((ls++new).flatMap g) (ls++new).length Z E S'→AD P C ops S1 T fuel (ld.setIfInBounds i true) ⟨x.n,(tt,.v (.slice Z (ls++new).length E))::x.env,S'++R⟩ Q) (hne:isMap e=false:=by rfl)
  (hT:∀b∈T,b∈av R:=by (intro b hb;simp[av] at hb ⊢;try first|exact hb|omega)):bB P C ops S1 T fuel ld x Q i:=by
 rcases Nat.eq_zero_or_pos new.length with h0|h0
 ·have hn:new=[]:=eq_nil_of_length_eq_zero h0;subst hn;refine bB.still U hw hd (OG ho hu Ni hs O.le hy) ?_;have:=K ad cap Sq (by rw[append_nil];exact O);rw[append_nil] at this;exact AD.perm hp this
 exact bB.eB (hne:=hne) (hT:=hT) hg hg1 U hw ho hd ht hi eX iu hs O hp hy h0 gz I fun b' E h1 h2=>K _ E _ (bM h1 h2)

end Go.Proofs.YtkgmonfgofobaaaGreatDoor.V
namespace Go.Proofs.YtkgmonfgofobaaaGreatDoor.V
open List
open Go.RowKit
variable {P:Program} {C:dx} {G:List (Nat×List Value)} {Q:Exit→St→Prop} {x:St} {ops:Array Oper} {l:List Oper} {o:Oper} {S1 T:List Nat} {fuel i:Nat} {ld:Array Bool}
variable {L:Nat→Prop} {bs:List UInt8} {n:Nat}
theorem OQ{w w':World}{v:Value}(hr:cg w L (.list 1 (bs.flatMap cB) n) v)(hw:∀b,b<w.heap.size→¬L b→w'.heap[b]?=w.heap[b]?) :
  (Extern.Bytes.bytesOf v).run P w' = .ok ⟨bs.toArray⟩ w':=by
 rw[Kv] at hr;generalize de:bs.map vg=cs at hr;cases hr with
 | mA _ ad cap =>
  have:bs=[]:=(by simpa using de)
  subst this;cases ad<;>rfl
 | list _ _ _ b I cap g hl q1 q2 hb hL hc U =>
  subst de;simp only[length_map,Nat.mul_one] at hl hc;have E:=Lib.run_loadBytesX (P:=P) w' (bs.map fun c=>(c.toNat:Int)) ⟨b,I,none⟩ .empty (fun j x hj=>by
   rw[Addr.add_mid];have O:j<bs.length:=(by have:=(List.getElem?_eq_some_iff.1 hj).1;simpa using this)
   have Z:=World.cell?_of_block (w:=w) (a:=⟨b,I+j,none⟩) (hw b hb hL);rw[Z,hc j O];have h1:=U j (by simpa using O);simp only[getElem_map,vg] at h1;rw[h1.kU];rw[getElem?_map,getElem?_eq_getElem O] at hj;simp only[Option.map_some,Option.some.injEq] at hj;rw[hj])
  rw[length_map,hl] at E;have e:Lib.bytesOf (bs.map fun c=>(c.toNat:Int))=bs:=by
   unfold Lib.bytesOf;rw[map_map];have:∀c:UInt8,((fun n:Int=>UInt8.ofNat n.toNat) ∘ fun c:UInt8=>(c.toNat:Int)) c=c:=fun c=>by simp
   rw[map_congr_left (g:=id) (fun c _=>this c),map_id]
  rw[e] at E;show(Extern.Bytes.loadBytes ⟨b,I,none⟩ n .empty).run P w'=_;rw[E];congr 1;apply ByteArray.ext;show(#[]:Array UInt8)++bs.toArray=bs.toArray;simp
theorem Zo {f:FuncId} {fn:Func} {y z:Operand} {ts:Array TypeId} {ds:List UInt8} {m:Nat} (ho:o.op = .call {callee:=.value (.func f),args:=#[y,z],argTypes:=ts}) (hy:aE x y = .list 1 (ds.flatMap cB) n) (hz:aE x z = .list 1 (bs.flatMap cB) m)
  (hf : P.funcs[f]? = some fn) (BR : (fn.name == "runtime.NumGoroutine") = false) (hb : fn.body.isNone = true) (hn : Extern.findNext fn = none) (he : Extern.find fn = some Extern.BytealgCompare.compare) :
  bU P G x o .j8 (.v (.int .i64 (Lib.compareBytes ds bs))):=fun C a w _ h=>by
 have h1:=h.eval y;have h2:=h.eval z;rw[hy] at h1;rw[hz] at h2;refine⟨_,.v _,fun w' hw=>?_⟩;have e1:=OQ (P:=P) h1 hw;have e2:=OQ (P:=P) h2 hw;have hc:(callFunc f #[a.eval y,a.eval z]).run P w' = .ok (.value (.int .i64 (Lib.compareBytes ds bs))) w':=by
  rw[run_callFunc_extern hf BR hb hn he];have:(Extern.BytealgCompare.compare #[a.eval y,a.eval z]).run P w' = .ok (.int .i64 (Lib.compareBytes ds bs)) w':=by
   change Sem.run P (do pure (goInt (Extern.BytealgCompare.cmp (←Extern.Bytes.bytesOf (a.eval y)) (←Extern.Bytes.bytesOf (a.eval z))))) w'=_;simp only[Sem.run_bind,e1,e2,Sem.run_pure,Result.andThen_ok,Lib.cmp_eq];rfl
  rw[this];rfl
 unfold execOp;have ef:a.eval (.func f) = .func (.func f) #[] #[]:=rfl;generalize Nh:a.eval y=u at *;generalize x8:a.eval z=v at *;simp only[ho,resolve,ef,Deferred.ofValue,Sem.run_bind,Sem.run_pure,Result.andThen_ok,invoke];simp[hc,Nh,x8]
theorem Wk.agv{l:List (Nat×D)}{S:List ah}{k:Nat}{B:ah}{cs':List D}(hk:S[k]?=some B)(hl:cs'.length≤B.size)(hc:∀(i:Nat) (d:D),cs'[i]?=some d→∃d0,B.cs[i]?=some d0∧∀(w:World) (L:Nat→Prop) (v:Value),cg w L d0 v→cg w L d v):Wk ⟨n,l,S⟩ ⟨n,l,S.set k {B with cs:=cs'}⟩:=fun C a w h=>by
 have dU:=(List.getElem?_eq_some_iff.1 hk).1;have U:=(List.getElem?_eq_some_iff.1 hk).2;have E:av (S.set k {B with cs:=cs'})=av S:=by
  unfold av;rw[map_set];apply ext_getElem bq;intro i q1 q2;rw[getElem_set];split
  ·rename_i e;subst e;simp[U]
  rfl
 have I:live C.X (S.set k {B with cs:=cs'})=live C.X S:=(by funext b;simp only[live,E])
 refine⟨h.defers,h.size,fun t ht=>?_,⟨fun B' Z=>?_,?_⟩,?_,h.ex,h.eK⟩
 ·simp only[I];exact h.env t ht
 ·simp only[I];obtain⟨j,hj,O⟩:=mem_iff_getElem.1 Z;rw[length_set] at hj;rw[getElem_set] at O;by_cases e:k=j
  ·rw[if_pos e] at O;subst O;obtain⟨r0,cur,r1,r2,r3,r4⟩:=h.own.at_ B (mem_of_getElem? hk);refine⟨r0,cur,r1,r2,hl,fun i hi=>?_⟩;simp only at hi hl;obtain⟨d0,hd,Ay⟩:=hc i _ (getElem?_eq_getElem hi);obtain⟨hd1,hd2⟩:=List.getElem?_eq_some_iff.1 hd;obtain⟨u,hu,hq⟩:=r4 i hd1;rw[hd2] at hq;exact⟨u,hu,Ay _ _ _ hq⟩
  rw[if_neg e] at O;subst O;exact h.own.at_ _ (getElem_mem hj)
 ·simp only[E];exact h.own.apart
 simp only[E];exact h.fr
theorem cg.ofNil{w:World}(sz:Nat){v:Value}(h:cg w L (.v (.slice none 0 0)) v):cg w L (.list sz [] 0) v:=by rw[h.kU];exact .nil sz
theorem Wk.Wc{l:List (Nat×D)}{S:List ah}{k:Nat}{b e:Nat}{sz sz':Nat}(hk:S[k]?=some ⟨b,e,2,[.v (.slice none 0 0),.v (.slice none 0 0)]⟩):Wk ⟨n,l,S⟩ ⟨n,l,S.set k ⟨b,e,2,[.list sz [] 0,.list sz' [] 0]⟩⟩ :=
 Wk.agv hk bq fun i d hd=>by
  match i,hd with
  | 0,hd=>cases hd;exact⟨_,rfl,fun _ _ _ h=>h.ofNil sz⟩
  | 1,hd=>cases hd;exact⟨_,rfl,fun _ _ _ h=>h.ofNil sz'⟩
  | i+2,hd=>simp at hd
theorem agw {α:Type} {g:α→List D} {t e:TypeId} {sz l' h':Nat} {lo hi:Option Operand} (hg:∀a,(g a).length=sz) {ls:List α} (eJ:lo=none→l'=0) (eD:hi=none→h'=ls.length)
  (E:∀w,(underlying t).run P w = .ok (.slice e) w) (hs:∀w,(sizeOf e).run P w = .ok sz w) (h1:l'≤h') (h2:h'≤ls.length):Rs P G t lo hi l' h' (.list sz (ls.flatMap g) ls.length) (.list sz (((ls.take h').drop l').flatMap g) ((ls.take h').drop l').length):=by
 have h:=nk (P:=P) (G:=G) (sz:=sz) (cs:=ls.flatMap g) eJ eD E hs h1 h2;rw[uW hg,tO hg,←drop_take] at h;rw[show((ls.take h').drop l').length=h'-l' by rw[length_drop,length_take];omega];exact h

theorem VC.args{f:FuncId}{cs bs:List D}{S:List ah}{post:D→List ah→Prop}(h:VC P G f cs S post)(hl:bs.length=cs.length)(hr:∀(w:World) (L:Nat→Prop) (i:Nat) (h1:i<cs.length) (h2:i<bs.length) (v:Value),cg w L bs[i] v→cg w L cs[i] v):VC P G f bs S post:=fun X w vs hp=>by
 refine h X w vs ⟨hp.ex,hp.eK,hp.own,?_,fun i h1 h2=>?_⟩
 ·rw[hp.args.1,hl]
 exact hr w _ i h1 w4 _ (hp.args.2 i w4 h2)

end Go.Proofs.YtkgmonfgofobaaaGreatDoor.V
namespace Go.Proofs.YtkgmonfgofobaaaGreatDoor.V

open List
abbrev ae(x:Int):D:=.v (.int .i64 x)
abbrev cU(b:Nat):D:=.v (.pointer (some ⟨b,0,none⟩))
abbrev bF:D:=.v (.slice none 0 0)
abbrev fk:D:=.v (.string ⟨#[]⟩)
abbrev aN(a:Option Addr)(n c:Nat):D:=.v (.slice a n c)
abbrev aZ(s:ByteArray):D:=.v (.string s)
abbrev bI(b:Bool):D:=.v (.bool b)
abbrev au{α:Type}(n:Nat)(g:α→List D)(l:List α):D:=.list n (l.flatMap g) l.length
theorem dN:maxLen=9223372036854775807:=rfl

open Go.RowKit V
instance ik3:Ik Tryz.prog 3 .i64:=⟨by kernel_rfl⟩
instance ap1:Sl Tryz.prog 22 14:=⟨by kernel_rfl⟩
instance ap2:Sl Tryz.prog 23 5:=⟨by kernel_rfl⟩
instance apx:tr Tryz.prog 23 5:=⟨by kernel_rfl⟩
instance aoI:Fo Tryz.prog 25 0 0:=⟨by kernel_rfl⟩
instance ap3:Sz Tryz.prog 25 1:=⟨by kernel_rfl⟩
instance ap4:Sb Tryz.prog 25 [.slice none 0 0] [(0,1)]:=⟨by kernel_rfl,by kernel_rfl⟩
instance aoJ:Fo Tryz.prog 28 0 0:=⟨by kernel_rfl⟩
instance aoK:Fo Tryz.prog 28 1 1:=⟨by kernel_rfl⟩
instance ap5:Sz Tryz.prog 28 2:=⟨by kernel_rfl⟩
instance ap6:Sb Tryz.prog 28 [.string ⟨#[]⟩,.int .i64 0] [(0,1),(1,1)]:=⟨by kernel_rfl,by kernel_rfl⟩
instance ap7:Sl Tryz.prog 29 2:=⟨by kernel_rfl⟩
instance aoL:Fo Tryz.prog 33 0 0:=⟨by kernel_rfl⟩
instance aoM:Fo Tryz.prog 33 1 1:=⟨by kernel_rfl⟩
instance aoN:Fo Tryz.prog 33 2 2:=⟨by kernel_rfl⟩
instance ap8:Sz Tryz.prog 33 3:=⟨by kernel_rfl⟩
instance ap9:Sb Tryz.prog 33 [.int .i64 0,.int .i64 0,.string ⟨#[]⟩] [(0,1),(1,1),(2,1)]:=⟨by kernel_rfl,by kernel_rfl⟩
instance aoO:Fo Tryz.prog 35 0 0:=⟨by kernel_rfl⟩
instance aoP:Fo Tryz.prog 35 1 1:=⟨by kernel_rfl⟩
instance aoQ:Fo Tryz.prog 35 2 4:=⟨by kernel_rfl⟩
instance aqa:Sz Tryz.prog 35 5:=⟨by kernel_rfl⟩
instance aqb:Sb Tryz.prog 35 [.int .i64 0,.int .i64 0,.int .i64 0,.string ⟨#[]⟩,.string ⟨#[]⟩] [(0,1),(1,3),(4,1)]:=⟨by kernel_rfl,by kernel_rfl⟩
instance aqc:Sl Tryz.prog 36 5:=⟨by kernel_rfl⟩
instance aqd:Sl Tryz.prog 37 1:=⟨by kernel_rfl⟩
instance aoR:Fo Tryz.prog 39 0 0:=⟨by kernel_rfl⟩
instance aoS:Fo Tryz.prog 39 1 1:=⟨by kernel_rfl⟩
instance aqe:Sz Tryz.prog 39 2:=⟨by kernel_rfl⟩
instance aqf:Sb Tryz.prog 39 [.slice none 0 0,.int .i64 0] [(0,1),(1,1)]:=⟨by kernel_rfl,by kernel_rfl⟩
instance aqg:Sl Tryz.prog 43 3:=⟨by kernel_rfl⟩
instance apy:tr Tryz.prog 43 3:=⟨by kernel_rfl⟩
instance aqh:Sl Tryz.prog 44 1:=⟨by kernel_rfl⟩
instance apz:tr Tryz.prog 44 1:=⟨by kernel_rfl⟩
instance aoT:Fo Tryz.prog 46 0 0:=⟨by kernel_rfl⟩
instance aoU:Fo Tryz.prog 46 1 1:=⟨by kernel_rfl⟩
instance aoV:Fo Tryz.prog 46 2 2:=⟨by kernel_rfl⟩
instance aoW:Fo Tryz.prog 46 3 3:=⟨by kernel_rfl⟩
instance aoX:Fo Tryz.prog 46 4 4:=⟨by kernel_rfl⟩
instance aoY:Fo Tryz.prog 46 5 5:=⟨by kernel_rfl⟩
instance aoZ:Fo Tryz.prog 46 6 6:=⟨by kernel_rfl⟩
instance ao0:Fo Tryz.prog 46 7 7:=⟨by kernel_rfl⟩
instance ao1:Fo Tryz.prog 46 8 8:=⟨by kernel_rfl⟩
instance ao2:Fo Tryz.prog 46 9 9:=⟨by kernel_rfl⟩
instance aoo:Fo Tryz.prog 46 10 10:=⟨by kernel_rfl⟩
instance aop:Fo Tryz.prog 46 11 11:=⟨by kernel_rfl⟩
instance aqi:Sz Tryz.prog 46 12:=⟨by kernel_rfl⟩
instance aqj:Sb Tryz.prog 46 [.int .i64 0,.string ⟨#[]⟩,.slice none 0 0,.slice none 0 0,.slice none 0 0,.bool false,.slice none 0 0,.string ⟨#[]⟩,.bool false,.int .i64 0,.string ⟨#[]⟩,.slice none 0 0] [(0,1),(1,1),(2,1),(3,1),(4,1),(5,1),(6,1),(7,1),(8,1),(9,1),(10,1),(11,1)]:=⟨by kernel_rfl,by kernel_rfl⟩
instance ao3:Fo Tryz.prog 54 0 0:=⟨by kernel_rfl⟩
instance ao4:Fo Tryz.prog 54 1 1:=⟨by kernel_rfl⟩
instance ao5:Fo Tryz.prog 54 2 2:=⟨by kernel_rfl⟩
instance ao6:Fo Tryz.prog 54 3 3:=⟨by kernel_rfl⟩
instance aqk:Sz Tryz.prog 54 4:=⟨by kernel_rfl⟩
instance aql:Sb Tryz.prog 54 [.int .i64 0,.int .i64 0,.string ⟨#[]⟩,.slice none 0 0] [(0,1),(1,1),(2,1),(3,1)]:=⟨by kernel_rfl,by kernel_rfl⟩
instance ao7:Fo Tryz.prog 65 0 0:=⟨by kernel_rfl⟩
instance ao8:Fo Tryz.prog 65 1 1:=⟨by kernel_rfl⟩
instance ao9:Fo Tryz.prog 65 2 2:=⟨by kernel_rfl⟩
instance apa:Fo Tryz.prog 65 3 3:=⟨by kernel_rfl⟩
instance apb:Fo Tryz.prog 65 4 4:=⟨by kernel_rfl⟩
instance apc:Fo Tryz.prog 65 5 5:=⟨by kernel_rfl⟩
instance apd:Fo Tryz.prog 65 6 9:=⟨by kernel_rfl⟩
instance ape:Fo Tryz.prog 65 7 13:=⟨by kernel_rfl⟩
instance aqm:Sz Tryz.prog 65 14:=⟨by kernel_rfl⟩
instance aqn:Sb Tryz.prog 65 [.int .i64 0,.int .i64 0,.int .i64 0,.int .i64 0,.slice none 0 0,.int .i64 0,.int .i64 0,.string ⟨#[]⟩,.slice none 0 0,.int .i64 0,.int .i64 0,.string ⟨#[]⟩,.slice none 0 0,.bool false] [(0,1),(1,1),(2,1),(3,1),(4,1),(5,4),(9,4),(13,1)]:=⟨by kernel_rfl,by kernel_rfl⟩
instance aqo:Sl Tryz.prog 70 1:=⟨by kernel_rfl⟩
instance apA:tr Tryz.prog 70 1:=⟨by kernel_rfl⟩
instance aqp:Sl Tryz.prog 73 5:=⟨by kernel_rfl⟩
instance apf:Fo Tryz.prog 75 0 0:=⟨by kernel_rfl⟩
instance apg:Fo Tryz.prog 75 1 1:=⟨by kernel_rfl⟩
instance aqq:Sz Tryz.prog 75 2:=⟨by kernel_rfl⟩
instance aqr:Sb Tryz.prog 75 [.slice none 0 0,.int .i64 0] [(0,1),(1,1)]:=⟨by kernel_rfl,by kernel_rfl⟩
instance aph:Fo Tryz.prog 77 0 0:=⟨by kernel_rfl⟩
instance api:Fo Tryz.prog 77 1 1:=⟨by kernel_rfl⟩
instance apj:Fo Tryz.prog 77 2 2:=⟨by kernel_rfl⟩
instance apk:Fo Tryz.prog 77 3 3:=⟨by kernel_rfl⟩
instance aqs:Sz Tryz.prog 77 5:=⟨by kernel_rfl⟩
instance aqt:Sb Tryz.prog 77 [.string ⟨#[]⟩,.slice none 0 0,.slice none 0 0,.slice none 0 0,.int .i64 0] [(0,1),(1,1),(2,1),(3,2)]:=⟨by kernel_rfl,by kernel_rfl⟩
instance aqu:Sl Tryz.prog 87 2:=⟨by kernel_rfl⟩
instance apl:Fo Tryz.prog 92 1 1:=⟨by kernel_rfl⟩
instance aqv:Sz Tryz.prog 92 2:=⟨by kernel_rfl⟩
instance apm:tr Tryz.prog 110 3:=⟨by kernel_rfl⟩
instance aoq:Fo Tryz.prog 125 0 0:=⟨by kernel_rfl⟩
instance aor:Fo Tryz.prog 125 1 1:=⟨by kernel_rfl⟩
instance aos:Fo Tryz.prog 125 2 2:=⟨by kernel_rfl⟩
instance apB:Sz Tryz.prog 125 3:=⟨by kernel_rfl⟩
instance apC:Sb Tryz.prog 125 [.int .i64 0,.int .i64 0,.string ⟨#[]⟩] [(0,1),(1,1),(2,1)]:=⟨by kernel_rfl,by kernel_rfl⟩
instance apD:Sl Tryz.prog 144 1:=⟨by kernel_rfl⟩
instance aot:Fo Tryz.prog 146 0 0:=⟨by kernel_rfl⟩
instance aou:Fo Tryz.prog 146 1 1:=⟨by kernel_rfl⟩
instance aov:Fo Tryz.prog 146 2 2:=⟨by kernel_rfl⟩
instance aow:Fo Tryz.prog 146 3 3:=⟨by kernel_rfl⟩
instance aox:Fo Tryz.prog 146 4 4:=⟨by kernel_rfl⟩
instance apE:Sz Tryz.prog 146 5:=⟨by kernel_rfl⟩
instance apF:Sb Tryz.prog 146 [.bool false,.slice none 0 0,.slice none 0 0,.slice none 0 0,.int .i64 0] [(0,1),(1,1),(2,1),(3,1),(4,1)]:=⟨by kernel_rfl,by kernel_rfl⟩
instance apG:Sl Tryz.prog 163 1:=⟨by kernel_rfl⟩
instance apn:tr Tryz.prog 163 1:=⟨by kernel_rfl⟩
instance aoy:Fo Tryz.prog 170 0 0:=⟨by kernel_rfl⟩
instance aoz:Fo Tryz.prog 170 1 1:=⟨by kernel_rfl⟩
instance aoA:Fo Tryz.prog 170 2 2:=⟨by kernel_rfl⟩
instance apH:Sz Tryz.prog 170 3:=⟨by kernel_rfl⟩
instance apI:Sb Tryz.prog 170 [.int .i64 0,.string ⟨#[]⟩,.int .i64 0] [(0,1),(1,1),(2,1)]:=⟨by kernel_rfl,by kernel_rfl⟩
instance apJ:Sl Tryz.prog 180 1:=⟨by kernel_rfl⟩
instance aoB:Fo Tryz.prog 182 0 0:=⟨by kernel_rfl⟩
instance aoC:Fo Tryz.prog 182 1 2:=⟨by kernel_rfl⟩
instance aoD:Fo Tryz.prog 182 2 3:=⟨by kernel_rfl⟩
instance apK:Sz Tryz.prog 182 4:=⟨by kernel_rfl⟩
instance apL:Sb Tryz.prog 182 [.slice none 0 0,.int .i64 0,.map none,.slice none 0 0] [(0,2),(2,1),(3,1)]:=⟨by kernel_rfl,by kernel_rfl⟩
instance apM:Ik Tryz.prog 208 .u64:=⟨by kernel_rfl⟩
instance apN:Sz Tryz.prog 219 0:=⟨by kernel_rfl⟩
instance apO:Sb Tryz.prog 219 [] []:=⟨by kernel_rfl,by kernel_rfl⟩
instance aoE:Fo Tryz.prog 230 0 0:=⟨by kernel_rfl⟩
instance aoF:Fo Tryz.prog 230 1 1:=⟨by kernel_rfl⟩
instance apP:Sz Tryz.prog 230 2:=⟨by kernel_rfl⟩
instance apQ:Sb Tryz.prog 230 [.slice none 0 0,.slice none 0 0] [(0,1),(1,1)]:=⟨by kernel_rfl,by kernel_rfl⟩

end Go.Proofs.YtkgmonfgofobaaaGreatDoor.V
namespace Go.Proofs.YtkgmonfgofobaaaGreatDoor.Nm
open List
open Go.Proofs.Tryz
open Go.RowKit V
variable {k:Nat}
def wordsB:List (List UInt8):=[[67,82,69,65,84,69],[84,65,66,76,69],[68,82,79,80],[73,78,83,69,82,84],[73,78,84,79],[86,65,76,85,69,83],[83,69,76,69,67,84],[67,79,85,78,84],[70,82,79,77],[87,72,69,82,69],[79,82,68,69,82],[66,89],[68,69,83,67],[76,73,77,73,84],[85,80,68,65,84,69],[83,69,84],[68,69,76,69,84,69],[66,69,71,73,78],[67,79,77,77,73,84],[82,79,76,76,66,65,67,75],[65,78,68],[79,82],[78,79,84],[73,83],[78,85,76,76],[84,82,85,69],[70,65,76,83,69],[73,78,84],[84,69,88,84],[66,79,79,76]]
def marksB:List (List UInt8):=[[60,61],[62,61],[60,62],[40],[41],[44],[42],[43],[45],[61],[60],[62]]
def u4:List ByteArray:=wordsB.map fun b=>⟨b.toArray⟩
def FG:List ByteArray:=marksB.map fun b=>⟨b.toArray⟩
def wordsC:List Value:=u4.map .string
def marksC:List Value:=FG.map .string
def wu(c:UInt8):Bool:=decide ((97≤c.toNat∧c.toNat≤122)∨(65≤c.toNat∧c.toNat≤90)∨c.toNat=95)
def FH(c:UInt8):Bool:=decide (48≤c.toNat∧c.toNat≤57)
def wQ(c:UInt8):Bool:=wu c||FH c
def F6(p:UInt8→Bool)(s:ByteArray):Nat:=(s.data.toList.takeWhile p).length
theorem UF(p:UInt8→Bool):∀(l:List UInt8) (k:Nat),k≤l.length→(∀x∈l.take k,p x=true)→(∀h:k<l.length,p l[k]=false)→(l.takeWhile p).length=k
 | [],k,h,_,_=>by simp at h;subst h;rfl
 | a::r,0,_,_,h=>by
  have:p a=false:=h bq;rw[takeWhile_cons];simp[this]
 | a::r,k+1,h1,h2,h3=>by
  have ha:p a=true:=h2 a bq;rw[takeWhile_cons,if_pos ha,length_cons,UF p r k (by simpa using h1) (fun x hx=>h2 x (by rw[take_succ_cons];exact mem_cons_of_mem _ hx)) (fun h=>by have:=h3 px;simpa using this)]
theorem Ff{p:UInt8→Bool}{s:ByteArray}(hk:k≤s.size)(h0:∀x∈s.data.toList.take k,p x=true)(h1:k<s.size→p (mu s k)=false):F6 p s=k :=
 UF p _ k (by rw[kQ];exact hk) h0 fun h=>by rw[Io h];exact h1 (by rw[kQ] at h;exact h)
structure Tk where
 k:Int
 s:ByteArray
 n:Int
def cT(t:Tk):List D:=[ae t.k,aZ t.s,ae t.n]
theorem iL(t:Tk):(cT t).length=3:=rfl
def oo(s:ByteArray):Bool:=!decide (s.size=0)&&wu (mu s 0)&&((F6 wQ s:Int)==(s.size:Int))
def tV(t:Tk):Int :=
 if t.k=1 then (if (decide (t.n=0)&&oo t.s)=true then 0 else 6)
 else if t.k=2 then (if t.n<0 then 3 else if t.s.size=0 then 0 else 6)
 else if t.k=3 then (if t.n=0 then 0 else 6)
 else if t.k=4 then (if (decide (t.n=0)&&FG.any (iQ t.s))=true then 0 else 6)
 else 2
def cy(s:ByteArray):Int:=if s.size>8 then 1 else if (!(oo s)||u4.any (iQ s))=true then 6 else 0
theorem OZ(s:ByteArray):tV ⟨1,s,0⟩=if oo s=true then 0 else 6:=by
 unfold tV;rw[if_pos rfl];simp
variable {G:List (Nat×List Value)}
theorem PC(c:UInt8):VP Tryz.prog G 154 [.v (.int .u8 ((c).toNat:Int))] (bI (wu c)):=by
 refine VC.body func154 rfl ntmps154 aQ fun X0 w0 bf=>?_;refine af [0] ?_;refine aA 3 ?_;refine bW 5 (fun Z O=>?_) (fun Z O=>?_)
 ·refine aG 4 ?_;refine bW 9 (fun NC U=>?_) (fun NC U=>?_)
  ·exact Hg
  refine aG 3 ?_;refine bW 12 (fun I E=>?_) (fun I E=>?_)
  ·exact V3
  exact Hg
 refine aG 7 ?_;refine bW 12 (fun I E=>?_) (fun I E=>?_)
 ·exact V3
 refine bp [2] ?_;refine eU ?_;refine⟨vb ?_,rfl⟩;rw[Bool.eq_iff_iff];simp[wu];first|done|omega
theorem acX(c:UInt8):VP Tryz.prog G 157 [.v (.int .u8 ((c).toNat:Int))] (bI (FH c)):=by
 refine VC.body func157 rfl ntmps157 aQ fun X0 w0 bf=>?_;refine af [0] ?_;refine aA 3 ?_;refine bW 5 (fun I E=>?_) (fun I E=>?_)
 ·refine bp [2] ?_;refine eU ?_;refine⟨vb ?_,rfl⟩;rw[Bool.eq_iff_iff];simp[FH];first|done|omega
 refine bp [2] ?_;refine eU ?_;refine⟨vb ?_,rfl⟩;rw[Bool.eq_iff_iff];simp[FH];first|done|omega
theorem QE(c:UInt8):VP Tryz.prog G 156 [.v (.int .u8 ((c).toNat:Int))] (bI (wQ c)):=by
 refine VC.body func156 rfl ntmps156 aQ fun X0 w0 bf=>?_;refine af [0] ?_;refine aA 1 ?_;refine dO call154 (PC c) ?_;refine aG 1 ?_;refine bW 5 (fun I E=>?_) (fun I E=>?_)
 ·refine an 9 [2] ?_;refine aK [] ?_;exact⟨vb (by simp[wQ, *]),rfl⟩
 refine aG 1 ?_;refine OD.gQ iq rfl rfl rfl call157 (acX c) ⟨ot,trivial⟩ ?_;refine an 9 [2] ?_;refine aK [] ?_;exact⟨vb (by simp[wQ, *]),rfl⟩
theorem SF(s:ByteArray)(g:Nat)(p:UInt8→Bool)(fb:∀args w,(callFunc g args).run Tryz.prog w = .ok (.enter g args) w)(hp:∀c,VP Tryz.prog G g [.v (.int .u8 ((c).toNat:Int))] (bI (p c)))(hs:s.size≤maxLen):VP Tryz.prog G 155 [aZ s,.eA (.func g) []] (ae (F6 p s)):=by
 refine VC.body func155 rfl ntmps155 aQ fun X0 w0 bf=>?_;simp only[maxLen] at hs;refine af [0,1] ?_;refine af [0,1,5] ?_;refine ez [0,1] (fun aR _ (k:Nat) aD=>(k≤s.size)∧(∀x∈s.data.toList.take k,p x=true)∧aD=(⟨20,(5,ae (k:Nat))::aR,[]⟩:St)) (fun (k:Nat)=>s.size-k) 0 ⟨(Nat.zero_le _),bq,rfl⟩ ?_;rintro k _ ⟨hk,h0,rfl⟩;refine aA 5 ?_;refine bW 10 (fun I E=>?_) (fun I E=>?_)
 ·have O:k<s.size:=(by omega)
  have xP:s[k]?=some (mu s k):=Kw O;refine aG 3 ?_;refine OD.still iq rfl (Il rfl ot ot runUnderlying9 rfl (by first|assumption|rfl)) ?_;refine OD.lS (f:=g) (args:=[_]) (all:=[_]) iq rfl rfl ot fb (hp (mu s k)) rfl ⟨ot,trivial⟩ (fa _) ?_;rintro _ S2 ⟨rfl,rfl⟩;refine an 20 [0,1,5,16] ?_;refine ax ?_ ?_<;>intro aO bA
  ·refine bX [0,1,5] ?_;refine⟨(k+1),_,cn,aJ,w4,(yP (by rw[kQ];exact O) h0 (by rw[Io];assumption)),rfl⟩
  refine af [4] ?_;refine aK [] ?_;refine⟨vi ?_,rfl⟩;first|(rw[Ff hk h0 (fun h=>by omega)];done)|(rw[Ff hk h0 (fun h=>by assumption)];done)
 refine bp [0,1,5,16] ?_;refine fY ?_;refine af [4] ?_;refine eU ?_;refine⟨vi ?_,rfl⟩;first|(rw[Ff hk h0 (fun h=>by omega)];done)|(rw[Ff hk h0 (fun h=>by assumption)];done)
theorem acY(E:List ByteArray)(s:ByteArray)(hlen:E.length≤maxLen):VP Tryz.prog G 158 [au 1 cS E,aZ s] (ae (dA (iQ s) E)):=by
 refine VC.body func158 rfl ntmps158 aQ fun X0 w0 bf=>?_;simp only[maxLen] at hlen;refine af [0,1] ?_;refine af [0,1,7,8] ?_;refine ez [0,1,7] (fun aR _ (k:Nat) aD=>(k≤E.length)∧(∀x∈E.take k,iQ s x=false)∧aD=(⟨19,(8,ae (k:Nat))::aR,[]⟩:St)) (fun (k:Nat)=>E.length-k) 0 ⟨(Nat.zero_le _),bq,rfl⟩ ?_;rintro k _ ⟨hk,h0,rfl⟩;refine af [0,1,7,8,9] ?_;refine ax ?_ ?_<;>intro aO bA
 ·have aa:k<E.length:=(by omega)
  refine af [0,1,5,7,8] ?_;refine af [0,1,5,7,8,16] ?_;refine ax ?_ ?_<;>intro aY cz
  ·refine af [4] ?_;refine aK [] ?_;refine⟨vi ?_,rfl⟩;first|(rw[we w4 h0 aY];done)|(rw[vY w4 h0];done)
  refine bX [0,1,7,8] ?_;refine⟨(k+1),_,cn,aJ,w4,(yP w4 h0 aY),rfl⟩
 refine af [4] ?_;refine aK [] ?_;refine⟨vi ?_,rfl⟩;first|(rw[we w4 h0 aY];done)|(rw[vY w4 h0];done)
theorem OR(E:List ByteArray)(s:ByteArray)(hlen:E.length≤maxLen):VP Tryz.prog G 130 [au 1 cS E,aZ s] (bI (E.any (iQ s))):=by
 refine VC.body func130 rfl ntmps130 aQ fun X0 w0 bf=>?_;refine af [0,1] ?_;refine cL [4] (acY E s hlen) ?_;refine aK [] ?_;exact⟨vb QN,rfl⟩
theorem pQ(hm:(3,marksC)∈G)(t:Tk)(hs:t.s.size≤maxLen):VP Tryz.prog G 129 [.agg (cT t)] (ae (tV t)):=by
 refine VC.body func129 rfl ntmps129 aQ fun X0 w0 bf=>?_;unfold cT;refine bS ?_;refine OD.box (ds:=[_,_,_]) ap rfl rfl ot rfl rfl (fun b1=>?_);refine an 53 [1] ?_;refine af [1,3] ?_;refine af [1,3,8] ?_;refine af [1,3,8,9] ?_;refine ax ?_ ?_<;>intro aO bA
 ·refine gX 21 (av _) ?_ (fun _ h=>h);refine aC 0 rfl bG ?_;refine aC 1 rfl bG ?_;refine dH.split (t:=12) lk (fun U=>?_) (fun U=>?_)
  ·have E:=U;(try simp only[V.nH,ne_eq] at E)
   refine aC 2 rfl (dF 1) ?_;refine aC 3 rfl (dK 0) ?_;refine aC 4 rfl ql ?_;refine aC 5 rfl xq ?_;refine aC 6 rfl bG ?_;refine dH.split (t:=17) lk (fun xp=>?_) (fun xp=>?_)
   ·have wP:=xp;(try simp only[V.nH,ne_eq] at wP)
    refine aC 7 rfl (dF 1) ?_;refine aC 8 rfl (dK 0) ?_;refine aC 9 rfl (Il (c:=mu t.s 0) rfl ot bP runUnderlying9 rfl (Kw (agj uu))) ?_;refine dH.later rfl ?_;refine AD.one (i:=10) aB ?_;refine bB.gQ rfl iq rfl rfl rfl call154 (PC _) ⟨ot,trivial⟩ ?_;refine c9 11 rfl xq ?_;refine c9 12 rfl bG ?_;refine AD.split (t:=23) lk (fun Z=>?_) (fun Z=>?_)
    ·have I:=Z;(try simp only[V.nH,ne_eq] at I)
     refine c9 13 rfl (dF 1) ?_;refine c9 16 rfl (dF 1) ?_;refine AD.two (i:=14) (j:=17) aB ?_ ?_
     ·refine at_ rfl (dK 0) ?_;refine AD.two (i:=15) (j:=17) aB ?_ ?_
      ·refine bB.gQ rfl iq rfl rfl rfl call155 (SF t.s 156 wQ call156 QE hs) ⟨ot,tE,trivial⟩ ?_;refine AD.one (i:=17) aB ?_;refine at_ rfl (dK 0) ?_;refine c9 18 rfl (Ed rfl rfl ot runUnderlying9) ?_;refine c9 19 rfl ql ?_;refine c9 20 rfl xq ?_;exact Lz
      refine at_ rfl (dK 0) ?_;refine c9 18 rfl (Ed rfl rfl ot runUnderlying9) ?_;exact V4
     refine at_ rfl (dK 0) ?_;refine c9 18 rfl (Ed rfl rfl ot runUnderlying9) ?_;refine AD.one (i:=14) aB ?_;refine at_ rfl (dK 0) ?_;exact V4
    have I:=Z;(try simp only[V.nH,ne_eq] at I)
    exact z6
   have wP:=xp;(try simp only[V.nH,ne_eq] at wP)
   exact VX
  have E:=U;(try simp only[V.nH,ne_eq] at E)
  refine mD 2 rfl ?_;refine mD 3 rfl ?_;refine mD 4 rfl ?_;refine aC 5 rfl vo ?_;refine aC 6 rfl bG ?_;exact VX
 refine af [1,3,8,32] ?_;refine ax ?_ ?_<;>intro aY cz
 ·refine af [1,36] ?_;refine ax ?_ ?_<;>intro cc cN
  ·refine af [2] ?_;refine aK [] ?_;exact MX
  refine bX [3] ?_;exact VY
 refine af [1,3,8,40] ?_;refine ax ?_ ?_<;>intro cQ ek
 ·exact VY
 refine af [1,3,42] ?_;refine ax ?_ ?_<;>intro dV fB
 ·refine gX 7 (av _) ?_ (fun _ h=>h);refine aC 0 rfl bG ?_;refine aC 1 rfl bG ?_;refine dH.split (t:=45) lk (fun LN=>?_) (fun LN=>?_)
  ·have O:=LN;(try simp only[V.nH,ne_eq] at O)
   refine aC 2 rfl (eE (l:=0) (h:=0) rfl wg trivial trivial (by first|exact SU (ls:=FG) (g:=cS) hm rfl rfl runUnderlying223 sizeOf9 rfl w8 w8)) ?_;refine aC 3 rfl (dF 1) ?_;refine aC 4 rfl (dK 0) ?_;refine dH.later rfl ?_;refine AD.one (i:=5) aB ?_;refine bB.gQ rfl iq rfl rfl rfl call130 (OR FG t.s w8) ⟨ot,ot,trivial⟩ ?_;refine c9 6 rfl xq ?_;exact Lz
  have O:=LN;(try simp only[V.nH,ne_eq] at O)
  refine mD 2 rfl ?_;refine mD 3 rfl ?_;refine mD 4 rfl ?_;refine dH.later rfl ?_;refine AD.one (i:=5) aB ?_;refine bB.skip rfl (mN rfl rfl rfl lk jr) rfl ?_;refine c9 6 rfl vo ?_;refine fw ?_;refine bp [3] ?_;refine af [52] ?_;refine eT ?_;exact z12
 refine af [2] ?_;refine aK [] ?_;refine⟨vi ?_,rfl⟩;try simp only[uU] at *
 simp only[tV,oo];try simp_all
 try omega
theorem uV(hm:(3,marksC)∈G)(hw:(1,wordsC)∈G)(s:ByteArray)(hs:s.size≤maxLen):VP Tryz.prog G 82 [aZ s] (ae (cy s)):=by
 refine VC.body func82 rfl ntmps82 aQ fun X0 w0 bf=>?_;refine af [0] ?_;refine af [0,5] ?_;refine ax ?_ ?_<;>intro aO bA
 ·exact z53
 refine aA 2 ?_;refine dO call129 (pQ hm ⟨1,s,0⟩ hs) ?_;refine aG 2 ?_;refine bW 10 (fun I E=>?_) (fun I E=>?_)
 ·refine an 15 [14] ?_;refine eT ?_;exact z53
 refine OD.still iq rfl (eE (l:=0) (h:=0) rfl wg trivial trivial (by first|exact SU (ls:=u4) (g:=cS) hw rfl rfl runUnderlying197 sizeOf9 rfl w8 w8)) ?_;refine aG 1 ?_;refine OD.gQ iq rfl rfl rfl call130 (OR u4 s w8) ⟨ot,ot,trivial⟩ ?_;refine an 15 [14] ?_;refine ax ?_ ?_<;>intro aY cz
 ·exact z53
 refine af [2] ?_;refine aK [] ?_;refine⟨vi ?_,rfl⟩;try simp only[OZ] at *
 simp only[cy];first|(rw[if_pos w4];done)|(rw[if_neg w4];cases h1:oo s<;>cases h2:u4.any (iQ s)<;>simp_all)
def wb(c:UInt8):UInt8:=UInt8.ofNat (97+c.toNat % 26)
theorem agx(c:UInt8):(wb c).toNat=97+c.toNat % 26:=by
 have:c.toNat % 26<26:=Nat.mod_lt _ w8;unfold wb;rw[UInt8.toNat_ofNat'];exact Nat.mod_eq_of_lt w4
theorem aeP(c:UInt8):IntKind.u8.wrap (97+(c.toNat:Int).tmod 26)=((wb c).toNat:Int):=by
 rw[agx];have h1:(c.toNat:Int).tmod 26=((c.toNat % 26:Nat):Int):=rfl;have:c.toNat % 26<26:=Nat.mod_lt _ w8;rw[h1];have e:(97+((c.toNat % 26:Nat):Int))=((97+c.toNat % 26:Nat):Int):=(by omega)
 rw[e];show((97+c.toNat % 26:Nat):Int) % 256=_;omega
def zj(s:ByteArray):List UInt8:=if s.size=0 then [120] else (s.data.toList.take 6).map wb
def wN(s:ByteArray):ByteArray:=⟨(zj s).toArray⟩
theorem Jc{s:ByteArray}(h:k<s.size):(s.data.toList.take k).map wb++[wb (mu s k)]=(s.data.toList.take (k+1)).map wb:=by
 have h':k<s.data.toList.length:=(by rw[kQ];exact h)
 rw[take_succ_eq_append_getElem h',map_append,Io h'];rfl
theorem QB{s:ByteArray}(hk:k≤s.size)(h:k=s.size∨6≤k)(h6:k≤6):(s.data.toList.take k)=s.data.toList.take 6:=by
 rcases h with h|h
 ·rw[take_of_length_le (by rw[kQ];omega),take_of_length_le (by rw[kQ];omega)]
 rw[show k=6 by omega]
theorem aba:(Tryz.prog.info? 5).map (fun i=>(i.zero,i.size,i.bytes))=some (some (.int .u8 0),1,1):=by kernel_rfl
theorem rA(s:ByteArray)(hs:s.size≤maxLen):VP Tryz.prog G 39 [aZ s] (aZ (wN s)):=by
 refine VC.body func39 rfl ntmps39 aQ fun X0 w0 bf=>?_;simp only[maxLen] at hs;refine af [0] ?_;refine bS ?_;refine bp [0,3] ?_;refine af [0,3,4] ?_;refine CD.block ?_;refine ni (fun (E:Nat×Option Addr×Nat×List ah) aD=>match E with|(k,O,U,Sb)=>(k≤s.size)∧(k≤6)∧(bg 5 1 (((s.data.toList.take k).map wb).flatMap cB) ((s.data.toList.take k).map wb).length O U Sb)∧aD=(⟨28,[(0,aZ s),(3,aN O ((s.data.toList.take k).map wb).length U),(4,ae (k:Nat))],(Sb)⟩:St)) (fun (E:Nat×Option Addr×Nat×List ah)=>match E with|(k,O,U,Sb)=>s.size-k) (0,none,0,[]) ⟨(Nat.zero_le _),(Nat.zero_le _),(bg.cast iz k8),rfl⟩ (aJ (h:=by repeat (first|exact trivial|refine⟨(by (repeat (first|exact fI|(apply fX;focus (first|rfl|(simp;done)|(congr 2;omega)|(apply eL;exact Jc Z)|(apply eL;simp;done)))|(apply fN;focus rfl)));done),?_⟩))) ?_;rintro⟨k,O,U,Sb⟩ _ ⟨hk,h6,pE,rfl⟩;refine aA 5 ?_;refine bW 9 (fun NC ajv=>?_) (fun NC ajv=>?_)
 ·refine bp [0,3,4,12] ?_;refine ax ?_ ?_<;>intro aO bA
  ·refine dG 2 ?_;have Z:k<s.size:=(by omega)
   have xP:s[k]?=some (mu s k):=Kw Z;refine aG 1 ?_;refine bQ (Il rfl ot ot runUnderlying9 rfl (by first|assumption|rfl)) ?_;refine bQ (dj rfl ot bP (JK w4)) ?_;refine bQ (dj (r:=.int .u8 ((wb (mu s k)).toNat:Int)) rfl bP ot (kz (aeP _))) ?_;refine ew (cu 0 [_]) [.int .u8 0] [_] zeroValue5 runUnderlying90 sizeOf5 (fun Dj=>?_);refine fS 0 21 1 1 ?_;refine OD.eB (ls:=((s.data.toList.take k).map wb)) (new:=[wb (mu s k)]) (Sq:=Sb) pT wJ ap rfl rfl underlying90 aba rfl w8 ot pE (dg (A:=[])) ot bq vH ig (fun Hy I ajw ajx=>?_);refine OD.perm (dW (S1:=[⟨Hy,5,I*1,flatMap cB (((s.data.toList.take k).map wb)++[wb (mu s k)])⟩]) (A:=[])) ?_;refine an 28 [0,3,4] ?_;refine bX [0,3,4] ?_;refine⟨((k+1),(some ⟨Hy,0,none⟩),I,[⟨Hy,5,I*1,flatMap cB (((s.data.toList.take k).map wb)++[wb (mu s k)])⟩]),_,cn,(aJ (h:=by repeat (first|exact trivial|refine⟨(by (repeat (first|exact fI|(apply fX;focus (first|rfl|(simp;done)|(congr 2;omega)|(apply eL;exact Jc Z)|(apply eL;simp;done)))|(apply fN;focus rfl)));done),?_⟩))),w4,w4,(bg.cast (bM ajw ajx) (by exact Jc Z)),rfl⟩
  refine af [3,25] ?_;refine ax ?_ ?_<;>intro aY cz
  ·refine af [2] ?_;refine eU ?_;exact z49
  refine aA 1 ?_;refine OD.ic (t:=26) (Sq:=Sb) lk pE (cm pT _) (dg (A:=[])) ?_;refine bQ C9 ?_;refine an 28 [2] ?_;refine aK [] ?_;exact z49
 refine bp [0,3,4,12] ?_;refine fY ?_;refine af [3,25] ?_;refine ax ?_ ?_<;>intro aY cz
 ·refine af [2] ?_;refine eU ?_;exact z49
 refine aA 1 ?_;refine OD.ic (t:=26) (Sq:=Sb) lk pE (cm pT _) (dg (A:=[])) ?_;refine bQ C9 ?_;refine an 28 [2] ?_;refine aK [] ?_;refine⟨vs ?_,rfl⟩;have At:k=s.size∨6≤k:=(by omega)
 have Gn:min k s.size=k:=Nat.min_eq_left hk;simp only[length_map,length_take,kQ,Gn] at *;unfold wN zj;first|(rw[if_pos w4];done)|(rw[if_neg w4,QB hk At h6])
abbrev MarksTab(w:World):Prop:=Tab.mw w 3 marksC

end Go.Proofs.YtkgmonfgofobaaaGreatDoor.Nm
namespace Go.Proofs.YtkgmonfgofobaaaGreatDoor.Pk
open List
open Go.Proofs.Tryz
open Go.RowKit V
def dI(n m:Int):Int:=if n<0 then (-(n+1)).tmod m else n.tmod m
theorem iX(n:Int){m:Int}(h:1≤m):0≤dI n m∧dI n m<m:=by
 have key:∀k:Int,0≤k→0≤k.tmod m∧k.tmod m<m:=fun k hk=>⟨Int.tmod_nonneg _ hk,Int.tmod_lt_of_pos _ w4⟩
 unfold dI;split
 ·exact key _ w4
 exact key _ w4
variable (G:List (Nat×List Value))
theorem kv(n m:Int)(hn:-9223372036854775808≤n)(iI:n≤9223372036854775807)(hm:1≤m):VP Tryz.prog G 14 [ae n,ae m] (ae (dI n m)):=by
 refine VC.body func14 rfl ntmps14 aQ fun X0 w0 bf=>?_;refine af [0,1] ?_;refine af [0,1,6] ?_;refine ax ?_ ?_<;>intro aO bA
 ·refine gC [0,1] ?_;refine aP 2 ?_ (h:=by exact(Bm rfl ot (FE (r:=-(n+1)) (by rw[wrap_i64]<;>omega))));refine bD ?_;refine cM [4] ?_;refine aP 2 ?_ (h:=by exact(dj rfl ot ot (JK w4)));refine bD ?_;refine aK [] ?_;exact⟨by unfold dI;split<;>first|rfl|omega,rfl⟩
 refine cM [4] ?_;refine aP 2 ?_ (h:=by exact(dj rfl ot ot (JK w4)));refine bD ?_;refine aK [] ?_;exact⟨by unfold dI;split<;>first|rfl|omega,rfl⟩

end Go.Proofs.YtkgmonfgofobaaaGreatDoor.Pk
namespace Go.Proofs.YtkgmonfgofobaaaGreatDoor.Nm
open List
open Go.Proofs.Tryz
open Go.RowKit V Pk
variable {l:List UInt8}
theorem mk_data(l:List UInt8):(⟨l.toArray⟩:ByteArray).data.toList=l:=rfl
theorem JO(l:List UInt8):(⟨l.toArray⟩:ByteArray).size=l.length:=by rw[←kQ]
theorem abb(s:ByteArray):1≤(zj s).length∧(zj s).length≤6:=by
 unfold zj;split
 ·exact⟨by decide,by decide⟩
 rw[length_map,length_take,kQ];omega
theorem OI{p:UInt8→Bool}:∀{l:List UInt8},(∀c∈l,p c=true)→l.takeWhile p=l
 | [],_=>rfl
 | a::l,h=>by rw[takeWhile_cons,if_pos (h a mem_cons_self),OI fun c hc=>h c (mem_cons_of_mem _ hc)]
theorem OM{c:UInt8}(h:97≤c.toNat∧c.toNat≤122):wu c=true:=by unfold wu;exact decide_eq_true (.inl h)
theorem acZ(h1:1≤l.length)(h:∀c∈l,97≤c.toNat∧c.toNat≤122):oo ⟨l.toArray⟩=true:=by
 unfold oo F6;rw[JO,mk_data,OI fun c hc=>by unfold wQ;rw[OM (h c hc)];rfl];have h0:mu ⟨l.toArray⟩ 0∈l:=by
  exact XM
 rw[OM (h _ h0)];have:l.length≠0:=(by omega)
 simp[this]
theorem ZU:∀x∈u4,(mu x 0).toNat≤90:=by decide
theorem aai(h1:1≤l.length)(h:∀c∈l,97≤c.toNat∧c.toNat≤122):u4.any (iQ ⟨l.toArray⟩)=false:=by
 rw[any_eq_false];intro x hx he;have he:=wv.1 he;have h0:mu ⟨l.toArray⟩ 0∈l:=by
  exact XM
 have:=h _ h0;have h2:=ZU x hx;rw[←he] at h2;omega
theorem tv(h1:1≤l.length)(E:l.length≤8)(h:∀c∈l,97≤c.toNat∧c.toNat≤122):cy ⟨l.toArray⟩=0:=by
 unfold cy;rw[JO,if_neg w4,acZ h1 h,aai h1 h];rfl
theorem aaj(s:ByteArray):1≤(wN s).size∧(wN s).size≤6:=by unfold wN;rw[JO];exact abb s
variable {G:List (Nat×List Value)}
abbrev WordsTab(w:World):Prop:=Tab.mw w 1 wordsC

end Go.Proofs.YtkgmonfgofobaaaGreatDoor.Nm
namespace Go.Proofs.YtkgmonfgofobaaaGreatDoor.Vl
open List
open Go.Proofs.Tryz
open Go.RowKit V Pk
structure Vl where
 k:Int
 n:Int
 s:ByteArray
def cV(v:Vl):List D:=[ae v.k,ae v.n,aZ v.s]
theorem eZ(v:Vl):(cV v).length=3:=rfl
theorem BF(v:Vl):(cV v).all V.one=true:=rfl
structure Vl.Ok (v:Vl):Prop where
 k1:-9223372036854775808≤v.k
 k2:v.k≤9223372036854775807
 n1:-9223372036854775808≤v.n
 n2:v.n≤9223372036854775807
 s:v.s.size≤maxLen
def bu:Vl:=⟨0,0,⟨#[]⟩⟩
def cl(v:Vl):Int :=
 if v.k=0 then (if v.n≠0∨v.s.size≠0 then 6 else 0)
 else if v.k=1 then (if v.n<0∨v.n>1∨v.s.size≠0 then 6 else 0)
 else if v.k=2 then (if v.s.size≠0 then 6 else 0)
 else if v.k=3 then (if v.n≠0 then 6 else if v.s.size>20 then 1 else 0)
 else 2
theorem F7(x y:Vl):∀w,(Op.equalIn 10000 33 (.agg [.int .i64 x.k,.int .i64 x.n,.string x.s].toArray) (.agg [.int .i64 y.k,.int .i64 y.n,.string y.s].toArray)).run Tryz.prog w = .ok (x.k==y.k&&(x.n==y.n&&x.s.toList==y.s.toList)) w:=fun w=>by
 have hS:Tryz.prog.underlying 33=some (.struct (Tryz.prog.fieldsOf 33)):=(by kernel_rfl)
 have hp:Tryz.prog.stoodInHeld 33=false:=(by kernel_rfl)
 rw[show(10000:Nat)=9999+1 from rfl,run_equalIn_agg w 9999 33 _ _ hS hp];have u:=underlying33;have E:=underlying3;have I:=underlying9;have a3:=isAgg3;have O:=isAgg9;have U:=sizeOf3;have Z:=sizeOf9;simp only[Program.fieldsOf,u];go_simp
 by_cases h1:x.k=y.k<;>by_cases h2:x.n=y.n<;>by_cases h3:x.s.toList=y.s.toList<;>simp[h1,h2,h3]
theorem Vl.ext'{x y:Vl}(h1:x.k=y.k)(h2:x.n=y.n)(h3:x.s=y.s):x=y:=by cases x;cases y;simp only at h1 h2 h3;subst h1 h2 h3;rfl
def Hz(x y:Vl):Bool:=x.k==y.k&&(x.n==y.n&&x.s.toList==y.s.toList)
theorem aeQ{x y:Vl}:Hz x y=true↔x=y:=by
 unfold Hz;rw[Bool.and_eq_true,Bool.and_eq_true,beq_iff_eq,beq_iff_eq];constructor
 ·rintro⟨h1,h2,h3⟩;exact Vl.ext' h1 h2 (wv.1 h3)
 rintro rfl;exact⟨rfl,rfl,wv.2 rfl⟩
def mX(s:ByteArray)(m:Nat):ByteArray:=s.extract 0 (min s.size m)
def ou(r:Vl):Vl :=
 if dI r.k 4=1 then ⟨1,dI r.n 2,⟨#[]⟩⟩
 else if dI r.k 4=2 then ⟨2,r.n,⟨#[]⟩⟩
 else if dI r.k 4=3 then ⟨3,0,mX r.s 10⟩
 else bu
theorem PF(s:ByteArray)(m:Nat):(mX s m).data.toList=s.data.toList.take m:=by
 unfold mX;rw[ByteArray.data_extract,Array.toList_extract];simp only[extract_eq_take_drop,drop_zero,Nat.sub_zero];rw[←kQ];rcases Nat.le_total s.data.toList.length m with h|h
 ·rw[Nat.min_eq_left h,take_length,take_of_length_le h]
 rw[Nat.min_eq_right h]
theorem Es(s:ByteArray)(m:Nat):(mX s m).size=min s.size m:=by
 rw[←kQ,PF,length_take,kQ,Nat.min_comm]
variable {G:List (Nat×List Value)}
theorem pQ(v:Vl):VP Tryz.prog G 72 [.agg (cV v)] (ae (cl v)):=by
 refine VC.body func72 rfl ntmps72 aQ fun X0 w0 bf=>?_;unfold cV;refine bS ?_;refine OD.box (ds:=[_,_,_]) ap rfl rfl ot rfl rfl (fun b1=>?_);refine an 44 [1] ?_;refine af [1,4] ?_;refine af [1,4,5] ?_;refine ax ?_ ?_<;>intro aO bA
 ·refine aA 4 ?_;refine bW 10 (fun U E=>?_) (fun U E=>?_)
  ·refine bp [14] ?_;refine eT ?_;exact z117
  refine bp [14] ?_;refine ax ?_ ?_<;>intro aY cz
  ·exact z117
  exact z117
 refine af [1,4,15] ?_;refine ax ?_ ?_<;>intro cc cN
 ·refine aA 4 ?_;refine bW 20 (fun Z I=>?_) (fun Z I=>?_)
  ·refine bp [29] ?_;refine eT ?_;exact z117
  refine aG 5 ?_;refine bW 25 (fun ajy O=>?_) (fun ajy O=>?_)
  ·refine bp [29] ?_;refine eT ?_;exact z117
  refine bp [29] ?_;refine ax ?_ ?_<;>intro cQ ek
  ·exact z117
  exact z117
 refine af [1,4,30] ?_;refine ax ?_ ?_<;>intro dV fB
 ·refine af [34] ?_;refine ax ?_ ?_<;>intro fD gG
  ·exact z124
  exact z124
 refine af [1,35] ?_;refine ax ?_ ?_<;>intro iP o9
 ·refine af [1,39] ?_;refine ax ?_ ?_<;>intro iG mU
  ·exact z124
  refine af [43] ?_;refine ax ?_ ?_<;>intro qi zP
  ·exact z124
  exact z124
 refine af [2] ?_;refine aK [] ?_;refine⟨vi ?_,rfl⟩;try simp only[uU] at *
 unfold cl;simp_all;try omega
theorem FD(s:ByteArray)(m:Nat)(hs:s.size≤maxLen):VP Tryz.prog G 40 [aZ s,ae (m:Int)] (aZ (mX s m)):=by
 refine VC.body func40 rfl ntmps40 aQ fun X0 w0 bf=>?_;simp only[maxLen] at hs;refine af [0,1] ?_;refine cM [4] ?_;refine aP 4 ?_ (h:=by exact(OL (r:=.int .i64 ((min s.size m:Nat):Int)) rfl ot ot (fun cs w=>(UA cs w).trans (by split<;>(congr 3;omega)))));refine aP 0 ?_ (h:=by exact(eE (l:=0) rfl ot trivial ⟨_,ot⟩ (by first|exact agh (fun _=>rfl) (fun h=>by cases h) runUnderlying9 w4 w4)));refine bD ?_;refine aK [] ?_;exact⟨by first|rfl|(simp[*];done),rfl⟩
theorem QD(r:Vl)(h:r.Ok):VP Tryz.prog G 66 [.agg (cV r)] (.agg (cV (ou r))):=by
 refine VC.body func66 rfl ntmps66 aQ fun X0 w0 bf=>?_;unfold cV;refine bS ?_;refine OD.box (ds:=[_,_,_]) ap rfl rfl ot rfl rfl (fun b1=>?_);refine OD.alloc (ds:=[_,_,_]) ap rfl rfl zeroValue33 rfl (fun b2=>?_);refine an 29 [1,2] ?_;refine cL [1,2,3] (kv G r.k 4 h.k1 h.k2 w8) ?_;refine af [1,2,3,7] ?_;refine af [1,2,3,7,8] ?_;refine ax ?_ ?_<;>intro aO bA
 ·refine aA 3 ?_;refine dO call14 (kv G r.n 2 h.n1 h.n2 w8) ?_;refine aG 1 ?_;exact M4
 refine af [1,2,3,7,15] ?_;refine ax ?_ ?_<;>intro aY cz
 ·refine aA 4 ?_;exact M4
 refine af [1,2,3,21] ?_;refine ax ?_ ?_<;>intro cc cN
 ·refine aA 3 ?_;refine dO call40 (FD r.s 10 h.s) ?_;refine aG 1 ?_;exact M4
 refine aA 1 ?_;refine aM 0 [_,_,_] sizeOf33 ?_;refine an 29 [2] ?_;refine aK [] ?_;refine⟨?_,rfl⟩;unfold ou bu;simp_all

end Go.Proofs.YtkgmonfgofobaaaGreatDoor.Vl
namespace Go.Proofs.YtkgmonfgofobaaaGreatDoor.Nm
open List
open Go.Proofs.Tryz
open Go.RowKit V Pk Vl
variable {i:Nat} {h:Int}
theorem F7(x y:Vl):∀w,(Op.equalIn 10000 33 (.agg [.int .i64 x.k,.int .i64 x.n,.string x.s].toArray) (.agg [.int .i64 y.k,.int .i64 y.n,.string y.s].toArray)).run Tryz.prog w = .ok (x.k==y.k&&(x.n==y.n&&x.s.toList==y.s.toList)) w:=fun w=>by
 have hS:Tryz.prog.underlying 33=some (.struct (Tryz.prog.fieldsOf 33)):=(by kernel_rfl)
 have hp:Tryz.prog.stoodInHeld 33=false:=(by kernel_rfl)
 rw[show(10000:Nat)=9999+1 from rfl,run_equalIn_agg w 9999 33 _ _ hS hp];have u:=underlying33;have E:=underlying3;have I:=underlying9;have a3:=isAgg3;have O:=isAgg9;have U:=sizeOf3;have Z:=sizeOf9;simp only[Program.fieldsOf,u];go_simp
 by_cases h1:x.k=y.k<;>by_cases h2:x.n=y.n<;>by_cases h3:x.s.toList=y.s.toList<;>simp[h1,h2,h3]
def iT(v:Vl):Int:=if v.k=2∧v.n = -9223372036854775808 then 3 else cl v
structure aS where
 k:Int
 v:Vl
 nm:ByteArray
variable {l:List aS}
def cO(o:aS):List D:=[ae o.k,ae o.v.k,ae o.v.n,aZ o.v.s,aZ o.nm]
theorem mQ(o:aS):(cO o).length=5:=rfl
theorem Ku(o:aS):(cO o).all V.one=true:=rfl
def bK(k:Int):Int:=if k=1∨k=2 then 0 else if k=5∨k=11 then 1 else 2
theorem tP(k:Int):0≤bK k∧bK k≤2:=by unfold bK;split<;>(try split)<;>omega
def zeroV(v:Vl):Bool:=v.k==0&&(v.n==0&&v.s.toList==(⟨#[]⟩:ByteArray).toList)
def gq(h:Int)(o:aS):Int :=
 if o.k<1∨o.k>11 then 2
 else if iT o.v≠0 then iT o.v
 else if ((o.k != 1 && !(zeroV o.v))||(o.k != 2 && !(o.nm.toList==(⟨#[]⟩:ByteArray).toList)))=true then 6
 else if o.k=2∧cy o.nm≠0 then cy o.nm
 else if h<bK o.k then 7 else 0
def fP:Int→List aS→Int
 | h,[]=>if h=1 then 0 else 7
 | h,o::r=>if gq h o=0 then fP (h+(1-bK o.k)) r else gq h o
def ij(l:List aS):Int:=if l.length>40 then 10 else fP 0 l
theorem QY(hi:i<l.length)(he:gq h l[i]=0):fP h (l.drop i)=fP (h+(1-bK l[i].k)) (l.drop (i+1)):=by
 rw[drop_eq_getElem_cons hi,fP,if_pos he]
theorem Qz{e:Int}(hi:i<l.length)(he:gq h l[i]=e)(h0:e≠0):fP h (l.drop i)=e:=by
 rw[drop_eq_getElem_cons hi,fP,if_neg (by rw[he];exact h0),he]
theorem PG(hi:l.length≤i):fP h (l.drop i)=if h=1 then 0 else 7:=by
 rw[drop_of_length_le hi,fP]
variable {G:List (Nat×List Value)}
theorem O4(v:Vl):VP Tryz.prog G 118 [.agg (cV v)] (ae (iT v)):=by
 refine VC.body func118 rfl ntmps118 aQ fun X0 w0 bf=>?_;unfold cV;refine bS ?_;refine OD.box (ds:=[_,_,_]) ap rfl rfl ot rfl rfl (fun b1=>?_);refine an 13 [1] ?_;refine aA 4 ?_;refine bW 6 (fun I E=>?_) (fun I E=>?_)
 ·refine bp [1,10] ?_;refine ax ?_ ?_<;>intro aO bA
  ·refine af [2] ?_;refine eU ?_;refine⟨vi ?_,rfl⟩;unfold iT;simp_all
  refine cL [2] (Vl.pQ v) ?_;refine eU ?_;refine⟨vi ?_,rfl⟩;unfold iT;simp_all
 refine bp [1,10] ?_;refine fY ?_;refine cL [2] (Vl.pQ v) ?_;refine eU ?_;refine⟨vi ?_,rfl⟩;unfold iT;simp_all
theorem JP(k:Int):VP Tryz.prog G 119 [ae k] (ae (bK k)):=by
 refine VC.body func119 rfl ntmps119 aQ fun X0 w0 bf=>?_;exact Xb
theorem JQ(hm:(3,marksC)∈G)(hw:(1,wordsC)∈G)(l:List aS)(hs:∀o∈l,o.nm.size≤maxLen):VP Tryz.prog G 68 [au 5 cO l] (ae (ij l)):=by
 refine VC.body func68 rfl ntmps68 aQ fun X0 w0 bf=>?_;have hlx:l.length≤40∨40<l.length:=(by omega)
 refine af [0] ?_;refine af [0,10] ?_;refine ax ?_ ?_<;>intro aO bA
 ·have hf:ij l=10:=if_pos w4;refine af [2] ?_;refine aK [] ?_;exact z23
 have hf:ij l=fP 0 l:=if_neg w4;have pG:l.length≤40:=(by omega)
 refine af [0,3] ?_;refine af [3,11,12,13] ?_;refine ez [11,12] (fun aR _ (Z:Nat×Int) aD=>match Z with|(i,h)=>(i≤l.length)∧(fP 0 l=fP h (l.drop i))∧(0≤h)∧(h≤i)∧aD=(⟨73,(3,ae h)::(13,ae (i:Nat))::aR,[]⟩:St)) (fun (Z:Nat×Int)=>match Z with|(i,h)=>l.length-i) (0,0) ⟨(Nat.zero_le _),rfl,(Int.le_refl _),(Int.le_refl _),rfl⟩ ?_;rintro⟨i,h⟩ _ ⟨hi,hx,h0,hh,rfl⟩;refine af [3,11,12,13,14] ?_;refine ax ?_ ?_<;>intro aY cz
 ·have aa:i<l.length:=(by omega)
  have yj:=tP l[i].k;refine aA 2 ?_;refine OD.alloc (ds:=[_,_,_,_,_]) ap rfl rfl zeroValue35 rfl (fun b5=>?_);refine aM 0 [_,_,_,_,_] sizeOf35 ?_;refine an 73 [3,5,11,12,13] ?_;refine aA 4 ?_;refine bW 20 (fun ajz K7=>?_) (fun ajz K7=>?_)
  ·refine bp [3,5,11,12,13,24] ?_;refine eT ?_;have xm:gq h l[i]=2:=(by unfold gq;rw[if_pos w4])
   exact zJ
  refine bp [3,5,11,12,13,24] ?_;refine ax ?_ ?_<;>intro cc cN
  ·have xm:gq h l[i]=2:=(by unfold gq;rw[if_pos w4])
   exact zJ
  have dL:¬(l[i].k<1∨l[i].k>11):=(by omega)
  refine cL [3,5,6,11,12,13] (O4 l[i].v) ?_;refine af [3,5,6,11,12,13,29] ?_;refine ax ?_ ?_<;>intro cQ ek
  ·have E:iT l[i].v≠0:=(by simpa using cQ)
   have xm:gq h l[i]=iT l[i].v:=(by unfold gq;rw[if_neg dL,if_pos E])
   exact zJ
  have E:iT l[i].v=0:=(by simpa using cQ)
  refine CD.skip ?_;refine CD.seq ?_;refine iv [3,5,11,12,13] (fun aR lK aD=>∃(q:Bool),(q=((l[i].k != 1 && !(zeroV l[i].v))||(l[i].k != 2 && !(l[i].nm.toList==(⟨#[]⟩:ByteArray).toList))))∧aD=(⟨73,(49,bI q)::aR,lK⟩:St)) ?_ ?_
  ·refine dG 4 ?_;refine bW 34 (fun ajA ahV=>?_) (fun ajA ahV=>?_)
   ·refine aG 3 ?_;refine OD.still iq rfl (Pu (us:=[_,_,_]) (xZ:=[_,_,_]) rfl ot ot eqGuardType33 (F7 l[i].v ⟨0,0,⟨#[]⟩⟩)) ?_;refine aG 2 ?_;refine bW 40 (fun Ly K0=>?_) (fun Ly K0=>?_)
    ·refine an 73 [3,5,11,12,13,49] ?_;exact CU
    refine aG 4 ?_;refine bW 44 (fun Ci I=>?_) (fun Ci I=>?_)
    ·refine an 73 [3,5,11,12,13,49] ?_;exact CU
    refine an 73 [3,5,11,12,13,49] ?_;exact CU
   refine yd 4 ?_;refine aG 6 ?_;refine bW 44 (fun Ci I=>?_) (fun Ci I=>?_)
   ·refine bp [3,5,11,12,13,49] ?_;exact CU
   refine bp [3,5,11,12,13,49] ?_;exact CU
  rintro _ ⟨q,hq,rfl⟩;refine ax ?_ ?_<;>intro dV fB
  ·have xm:gq h l[i]=6:=(by unfold gq;rw[if_neg dL,if_neg (by rw[E];simp),if_pos (by rw[←hq];exact dV)])
   exact zJ
  have O:¬((l[i].k != 1 && !(zeroV l[i].v))||(l[i].k != 2 && !(l[i].nm.toList==(⟨#[]⟩:ByteArray).toList)))=true:=(by rw[←hq,dV];simp)
  refine CD.skip ?_;refine iv [3,5,11,12,13] (fun aR lK aD=>(¬(l[i].k=2∧cy l[i].nm≠0))∧aD=(⟨73,aR,lK⟩:St)) ?_ ?_
  ·refine af [3,5,11,12,13,52] ?_;refine ax ?_ ?_<;>intro fD gG
   ·refine cL [3,5,7,11,12,13] (uV hm hw l[i].nm (hs _ (getElem_mem aa))) ?_;refine af [3,5,7,11,12,13,57] ?_;refine ax ?_ ?_<;>intro iP o9
    ·have AK:cy l[i].nm≠0:=(by simpa using iP)
     have xm:gq h l[i]=cy l[i].nm:=(by unfold gq;rw[if_neg dL,if_neg (by rw[E];simp),if_neg O,if_pos ⟨by simpa using fD,AK⟩])
     exact zJ
    have U:¬(l[i].k=2∧cy l[i].nm≠0):=(by simp at iP;simp[iP])
    refine CD.skip ?_;refine⟨_,aJ,U,rfl⟩
   have U:¬(l[i].k=2∧cy l[i].nm≠0):=(by simp at fD;simp[fD])
   refine CD.skip ?_;refine⟨_,aJ,U,rfl⟩
  rintro _ ⟨U,rfl⟩;refine cL [3,5,11,12,13,63] (JP l[i].k) ?_;refine ax ?_ ?_<;>intro iG mU
  ·have C5:h<bK l[i].k:=(by simpa using iG)
   have xm:gq h l[i]=7:=(by unfold gq;rw[if_neg dL,if_neg (by rw[E];simp),if_neg O,if_neg U,if_pos C5])
   exact zJ
  have C5:¬h<bK l[i].k:=(by simpa using iG)
  have aV:gq h l[i]=0:=(by unfold gq;rw[if_neg dL,if_neg (by rw[E];simp),if_neg O,if_neg U,if_neg C5])
  refine gC [3,11,12,13] ?_;refine cJ (JP l[i].k) ?_;refine bD ?_;refine bX [3,11,12,13] ?_;refine⟨((i+1),(h+(1-bK l[i].k))),_,cn,aJ,w4,(by rw[hx];exact QY aa aV),w4,(by have:=tP l[i].k;omega),rfl⟩
 have fh:=hx.trans (PG (show l.length≤i by omega));refine af [72] ?_;refine ax ?_ ?_<;>intro qi zP
 ·refine af [2] ?_;refine aK [] ?_;exact z23
 refine af [2] ?_;refine aK [] ?_;refine⟨vi ?_,rfl⟩;first|exact hf.symm|(rw[hf,hx,Qz aa xm (by first|assumption|decide)];done)|(rw[hf,fh,if_pos (by simpa using qi)];done)|(rw[hf,fh,if_neg (by simpa using qi)];done)

end Go.Proofs.YtkgmonfgofobaaaGreatDoor.Nm
namespace Go.Proofs
open Go.Shelf
def Tryz.ZV:Go.Shelf.Ren:=⟨fun|106=>81|213=>128|265=>153|n=>n,fun|9=>9|3=>3|n=>n,fun|n=>n⟩
theorem Tryz.aeR:Go.Proofs.Lays.n106 Tryz.prog Tryz.ZV:={
 mixed:=by kernel_rfl
 f106:=Tryz.func81.trans (congrArg some (by kernel_rfl))
 f213:=Tryz.func128.trans (congrArg some (by kernel_rfl))
 f265:=Tryz.func153.trans (congrArg some (by kernel_rfl))
 t3:=Tryz.underlying3
 a3:=Tryz.isAgg3
 z3:=Tryz.sizeOf3
 v3:=Tryz.zeroValue3
 t9:=Tryz.underlying9
 a9:=Tryz.isAgg9
 z9:=Tryz.sizeOf9
 v9:=Tryz.zeroValue9}
open Go.RowKit in
theorem Tryz.strings_Compare(a b:ByteArray)(w:World) :
  Calls Tryz.prog 81 #[.string a,.string b] w fun e w'=>e = .returned (.int .i64 (Lib.compareBytes a.data.toList b.data.toList))∧w'=w:=Any.strings_Compare Tryz.aeR a b w
def Tryz.OS:Go.Shelf.Ren:=⟨fun|155=>141|154=>161|138=>167|165=>168|143=>169|166=>170|197=>171|169=>172|195=>178|218=>179|240=>180|241=>181|219=>182|260=>183|276=>185|277=>186|217=>187|225=>188|224=>189|267=>190|266=>191|314=>192|n=>n,fun|9=>9|3=>3|4=>4|72=>238|0=>0|76=>242|105=>244|21=>21|5=>5|70=>236|20=>20|37=>90|75=>241|127=>252|164=>253|46=>225|119=>256|139=>259|138=>258|146=>261|51=>260|80=>246|n=>n,fun|1=>2|3=>4|4=>5|n=>n⟩
theorem Tryz.aeS:Go.Proofs.Lays.n155 Tryz.prog Tryz.OS:={
 mixed:=by kernel_rfl
 f138:=Tryz.func167.trans (congrArg some (by kernel_rfl))
 f143:=Tryz.func169.trans (congrArg some (by kernel_rfl))
 f154:=Tryz.func161.trans (congrArg some (by kernel_rfl))
 f155:=Tryz.func141.trans (congrArg some (by kernel_rfl))
 f165:=Tryz.func168.trans (congrArg some (by kernel_rfl))
 f166:=Tryz.func170.trans (congrArg some (by kernel_rfl))
 f169:=Tryz.func172.trans (congrArg some (by kernel_rfl))
 f195:=Tryz.func178.trans (congrArg some (by kernel_rfl))
 f197:=Tryz.func171.trans (congrArg some (by kernel_rfl))
 f217:=Tryz.func187.trans (congrArg some (by kernel_rfl))
 f218:=Tryz.func179.trans (congrArg some (by kernel_rfl))
 f219:=Tryz.func182.trans (congrArg some (by kernel_rfl))
 f224:=Tryz.func189.trans (congrArg some (by kernel_rfl))
 f225:=Tryz.func188.trans (congrArg some (by kernel_rfl))
 f240:=Tryz.func180.trans (congrArg some (by kernel_rfl))
 f241:=Tryz.func181.trans (congrArg some (by kernel_rfl))
 f260:=Tryz.func183.trans (congrArg some (by kernel_rfl))
 f266:=Tryz.func191.trans (congrArg some (by kernel_rfl))
 f267:=Tryz.func190.trans (congrArg some (by kernel_rfl))
 f276:=Tryz.func185.trans (congrArg some (by kernel_rfl))
 f277:=Tryz.func186.trans (congrArg some (by kernel_rfl))
 f314:=Tryz.func192.trans (congrArg some (by kernel_rfl))
 t0:=Tryz.underlying0
 a0:=Tryz.isAgg0
 z0:=Tryz.sizeOf0
 v0:=Tryz.zeroValue0
 t3:=Tryz.underlying3
 a3:=Tryz.isAgg3
 z3:=Tryz.sizeOf3
 v3:=Tryz.zeroValue3
 t4:=Tryz.underlying4
 a4:=Tryz.isAgg4
 z4:=Tryz.sizeOf4
 v4:=Tryz.zeroValue4
 t5:=Tryz.underlying5
 a5:=Tryz.isAgg5
 z5:=Tryz.sizeOf5
 v5:=Tryz.zeroValue5
 t9:=Tryz.underlying9
 a9:=Tryz.isAgg9
 z9:=Tryz.sizeOf9
 v9:=Tryz.zeroValue9
 t20:=Tryz.underlying20
 a20:=Tryz.isAgg20
 z20:=Tryz.sizeOf20
 v20:=Tryz.zeroValue20
 t21:=Tryz.underlying21
 a21:=Tryz.isAgg21
 z21:=Tryz.sizeOf21
 v21:=Tryz.zeroValue21
 t37:=Tryz.underlying90
 a37:=Tryz.isAgg90
 z37:=Tryz.sizeOf90
 v37:=Tryz.zeroValue90
 t46:=Tryz.underlying225
 a46:=Tryz.isAgg225
 z46:=Tryz.sizeOf225
 v46:=Tryz.zeroValue225
 t51:=Tryz.underlying260
 a51:=Tryz.isAgg260
 z51:=Tryz.sizeOf260
 v51:=Tryz.zeroValue260
 t70:=Tryz.underlying236
 a70:=Tryz.isAgg236
 z70:=Tryz.sizeOf236
 v70:=Tryz.zeroValue236
 t72:=Tryz.underlying238
 a72:=Tryz.isAgg238
 z72:=Tryz.sizeOf238
 v72:=Tryz.zeroValue238
 t75:=Tryz.underlying241
 a75:=Tryz.isAgg241
 z75:=Tryz.sizeOf241
 v75:=Tryz.zeroValue241
 t76:=Tryz.underlying242
 a76:=Tryz.isAgg242
 z76:=Tryz.sizeOf242
 v76:=Tryz.zeroValue242
 t105:=Tryz.underlying244
 a105:=Tryz.isAgg244
 z105:=Tryz.sizeOf244
 v105:=Tryz.zeroValue244
 t119:=Tryz.underlying256
 a119:=Tryz.isAgg256
 z119:=Tryz.sizeOf256
 t127:=Tryz.underlying252
 a127:=Tryz.isAgg252
 z127:=Tryz.sizeOf252
 v127:=Tryz.zeroValue252
 t138:=Tryz.underlying258
 a138:=Tryz.isAgg258
 z138:=Tryz.sizeOf258
 v138:=Tryz.zeroValue258
 t139:=Tryz.underlying259
 a139:=Tryz.isAgg259
 z139:=Tryz.sizeOf259
 v139:=Tryz.zeroValue259
 t146:=Tryz.underlying261
 a146:=Tryz.isAgg261
 z146:=Tryz.sizeOf261
 v146:=Tryz.zeroValue261
 t164:=Tryz.underlying253
 a164:=Tryz.isAgg253
 z164:=Tryz.sizeOf253
 v164:=Tryz.zeroValue253
 g1:=by kernel_rfl
 g3:=by kernel_rfl
 g4:=by kernel_rfl}
theorem Tryz.Zh:Builder.Extra Tryz.prog Tryz.OS:={
 sizeBuilder:=by kernel_rfl
 liesBuilder:=by kernel_rfl
 t5:=Tryz.underlying5
 a5:=Tryz.isAgg5
 z5:=Tryz.sizeOf5
 v5:=Tryz.zeroValue5
 infoByte:=by kernel_rfl
 cellsByte:=by kernel_rfl
 sizeByte:=by kernel_rfl
 neB5:=by decide}
open Go.RowKit Go.Lib in
theorem Tryz.strings_ReplaceAll(s old new:ByteArray)(m:Int)(w:World)(hs:s.size<4294967281)(hm:w.cell? ⟨2,0,none⟩=some (.int .i64 m))(h1:1≤old.size)(hlen:s.size+Lib.countB s old*new.size≤140737488355328) :
  Calls Tryz.prog 141 #[.string s,.string old,.string new] w fun e w' =>
   e = .returned (.string ⟨(Lib.replaceAll s.data.toList old.data.toList new.data.toList).toArray⟩)∧Below w.heap.size w w':=Any.strings_ReplaceAll Tryz.aeS Tryz.Zh s old new m w hs hm h1 hlen

end Go.Proofs
