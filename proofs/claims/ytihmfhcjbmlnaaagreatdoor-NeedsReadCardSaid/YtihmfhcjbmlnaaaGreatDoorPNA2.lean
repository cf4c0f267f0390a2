/-
  NA: walks and plain facts, part 2.
-/
import Derived.Test.YtihmfhcjbmlnaaaGreatDoorPNA1
set_option linter.unusedVariables false
set_option linter.unusedSimpArgs false
set_option maxRecDepth 100000
set_option maxHeartbeats 4000000
namespace Go.Proofs.YtihmfhcjbmlnaaaGreatDoor
open List
namespace V
open Go.RowKit
section
variable {fuel i t:Nat} {ld:Array Bool}
def mG(w1:World)(S1 T:List Nat)(w:World):Prop:=(∀b,b<w1.heap.size->b∉S1->w.heap[b]?=w1.heap[b]?)/\∀b∈T,w.heap[b]?=w1.heap[b]?
def AD(P:Program)(C:ey)(ops:Array Oper)(S1 T:List Nat)(fuel:Nat)(ld:Array Bool)(x:St)(Q:Exit->St->Prop):Prop :=
 ∀w1 a w,cf C x a w->(∀b∈T,b∈S1)->(∀b∈S1,b<w1.heap.size)->Fr w1 S1 w (aq x.S)->mG w1 S1 T w->wpAnyH P .any ops (LQ C Q) (mG w1 S1 T) fuel ld a w
def ew(P:Program)(C:ey)(ops:Array Oper)(S1 T:List Nat)(fuel:Nat)(ld:Array Bool)(x:St)(Q:Exit->St->Prop):Prop :=
 ∀a w,cf C x a w->aq x.S=S1->(∀b∈T,b∈S1)->wpAnyH P .any ops (LQ C Q) (mG w S1 T) fuel ld a w
def NP(Q:Exit->St->Prop):Prop:=∀c y t,Q (.panic c) y->Q (.panic c) (y.put t .cy)
variable {P:Program} {C:ey} {Q:Exit->St->Prop} {x y:St} {ops:Array Oper} {l:List Oper} {o:Oper} {S1 T:List Nat}
theorem NP.body{fn:Func}{post:D->List ag->Prop}:NP (Body P fn post):=fun E y t hq=>by rcases hq.1 with h|h<;>cases h
def Tl(P:Program)(C:ey)(ops:Array Oper)(l:List Oper)(Q:Exit->St->Prop):Exit->St->Prop
 | .normal,y=>OD P C ops l y Q
 | e,y=>Q e y
theorem mG.refl(w1:World)(S1 T:List Nat):mG w1 S1 T w1:=⟨fun _ _ _=>rfl,fun _ _=>rfl⟩
theorem ew.later(hS:aq x.S=S1)(h:AD P C ops S1 T fuel ld x Q):ew P C ops S1 T fuel ld x Q:=fun a w hs _ hT =>
 h w a w hs hT (fun b hb=>by
  rw[<-hS] at hb;obtain⟨B,hB,rfl⟩:=mem_map.1 hb;exact(hs.own.at_ B hB).1) (hS ▸ Fr.refl _ _) (mG.refl _ _ _)
def Safe(x:St)(T:List Nat):Rd->Prop
 | .none=>True
 | .kP=>True
 | .gh k=>∃B,x.S[k]?=some B/\B.b∈T
theorem Cf(h:NP Q)(d:Option Nat)(v:Value):∀c a w,LQ C Q (.panic c) (a.put d v) w->LQ C Q (.panic c) a w:=fun c a w hq=>by
 rcases hq with ⟨y,h1,h2⟩|⟨h2,_⟩
 ·cases d with
  | none=>exact .inl ⟨y,h1,h2⟩
  | some t =>
   refine .inl ⟨y.put t .cy,⟨h1.defers,by have h9:=h1.size;simp only[Act.put,Array.size_setIfInBounds] at h9;exact h9,fun q hq=>?_,h1.own,h1.fr,h1.ex,h1.fE⟩,h c y t h2⟩;have h3:=h1.env q hq;simp only[St.put,gQ];by_cases e:t=q
   ·rw[if_pos e];exact .cy _
   rw[if_neg e];have:(a.put (some t) v).tmps.getD q undef=a.tmps.getD q undef:=(by simp[Act.put,Array.getD_eq_getD_getElem?,Array.getElem?_setIfInBounds,e])
   rw[this] at h3;exact h3
 cases h2
theorem ew.take {k:Rd} {d:D} (hi:ops[i]?=some o) (hs:Region.noSelect ops=true) (hf:Region.free .any ops ld i=true) (hr:(Region.ready .any ops ld).contains i=true) (hp:NP Q)
  (hw:cH ops x o true) (hd:o.dst=some t) (h:cu P C.G x o k d) (hk:Safe x T k) (K:ew P C ops S1 T fuel (ld.setIfInBounds i true) (x.put t d) Q):ew P C ops S1 T (fuel+1) ld x Q:=fun a w E hS hT=>by
 obtain⟨v,h1,h2⟩:=h C a w rfl E;refine wpAnyH_take hi hs hf hr (Cf hp _ v) (.inl ⟨hw C a w E,fun w' I=>h2 w' ?_⟩) (mG.refl _ _ _) ?_
 ·cases k with
  | none=>trivial
  | kP=>exact fun b hb hn=>I.1 b hb (fun hm=>hn (.inr (hS ▸ hm)))
  | gh k =>
   obtain⟨B,hB,hm⟩:=hk;intro B' O;rw[hB] at O;obtain rfl:=Option.some.inj O;exact I.2 _ hm
 rw[hd];exact K _ _ (E.put h1) hS hT
theorem ew.ahY (hi:ops[i]?=some o) (hs:Region.noSelect ops=true) (hf:Region.free .any ops ld i=true) (hr:(Region.ready .any ops ld).contains i=true) (hp:NP Q)
  (hw:cH ops x o false) (hd:o.dst=some t) (K:ew P C ops S1 T fuel (ld.setIfInBounds i true) (x.put t (.v (.tuple #[]))) Q):ew P C ops S1 T (fuel+1) ld x Q:=fun a w E hS hT=>by
 refine wpAnyH_take (v:=undef) hi hs hf hr (Cf hp _ _) (.inr ⟨hw C a w E,rfl⟩) (mG.refl _ _ _) ?_;rw[hd];exact K _ _ (E.put (.v _)) hS hT
theorem AD.take {k:Rd} {d:D} (hi:ops[i]?=some o) (hs:Region.noSelect ops=true) (hf:Region.free .any ops ld i=true) (hr:(Region.ready .any ops ld).contains i=true) (hp:NP Q)
  (hw:cH ops x o true) (hd:o.dst=some t) (h:cu P C.G x o k d) (hk:Safe x T k) (sy:k≠.kP) (K:AD P C ops S1 T fuel (ld.setIfInBounds i true) (x.put t d) Q):AD P C ops S1 T (fuel+1) ld x Q:=fun w1 a w E hT aa O ff=>by
 obtain⟨v,h1,h2⟩:=h C a w rfl E;refine wpAnyH_take hi hs hf hr (Cf hp _ v) (.inl ⟨hw C a w E,fun w' U=>h2 w' ?_⟩) ff ?_
 ·cases k with
  | none=>trivial
  | kP=>exact absurd rfl sy
  | gh k =>
   obtain⟨B,hB,hm⟩:=hk;intro B' I;rw[hB] at I;obtain rfl:=Option.some.inj I;exact(U.2 _ hm).trans (ff.2 _ hm).symm
 rw[hd];exact K _ _ _ (E.put h1) hT aa O ff
theorem ae4 (hi:ops[i]?=some o) (hs:Region.noSelect ops=true) (hf:Region.free .any ops ld i=true) (hr:(Region.ready .any ops ld).contains i=true) (hp:NP Q)
  (hw:cH ops x o false) (hd:o.dst=some t) (K:AD P C ops S1 T fuel (ld.setIfInBounds i true) (x.put t (.v (.tuple #[]))) Q):AD P C ops S1 T (fuel+1) ld x Q:=fun w1 a w E hT aa I ff=>by
 refine wpAnyH_take (v:=undef) hi hs hf hr (Cf hp _ _) (.inr ⟨hw C a w E,rfl⟩) ff ?_;rw[hd];exact K _ _ _ (E.put (.v _)) hT aa I ff
def ig(P:Program)(C:ey)(ops:Array Oper)(S1 T:List Nat)(fuel:Nat)(ld:Array Bool)(x:St)(Q:Exit->St->Prop)(i:Nat):Prop :=
 ∀w1 a w,cf C x a w->(∀b∈T,b∈S1)->(∀b∈S1,b<w1.heap.size)->Fr w1 S1 w (aq x.S)->mG w1 S1 T w ->
  wpOp P ops (LQ C Q) i (fun a' w'=>mG w1 S1 T w'/\wpAnyH P .any ops (LQ C Q) (mG w1 S1 T) fuel (ld.setIfInBounds i true) a' w') a w
theorem AD.all{rs:List Nat}(hr:Region.ready .any ops ld=rs)(hne:rs≠[])(h:∀i∈rs,ig P C ops S1 T fuel ld x Q i):AD P C ops S1 T (fuel+1) ld x Q:=fun w1 a w E hT aa I ff =>
 wpAnyH_all hr hne fun i hi=>h i hi w1 a w E hT aa I ff
theorem bV(hr:Region.ready .any ops ld=[i])(h:ig P C ops S1 T fuel ld x Q i):AD P C ops S1 T (fuel+1) ld x Q :=
 AD.all hr bC fun j hj=>by
  have:j=i:=(by simpa using hj)
  subst this;exact h
theorem mC{j:Nat}(hr:Region.ready .any ops ld=[i,j])(h:ig P C ops S1 T fuel ld x Q i)(h':ig P C ops S1 T fuel ld x Q j):AD P C ops S1 T (fuel+1) ld x Q :=
 AD.all hr bC fun k hk=>by
  simp only[mem_cons,not_mem_nil,or_false] at hk;rcases hk with rfl|rfl
  ·exact h
  exact h'
theorem Is(hr:Region.ready .any ops ld=[])(h:Q .normal x):AD P C ops S1 T fuel ld x Q:=fun w1 a w E hT aa I ff=>wpAnyH_done hr (.inl ⟨x,E,h⟩) _
theorem ig.gN {W:List Nat} {post:St->Prop} (hi:ops[i]?=some o) (hw:cH ops x o true) (h:gL P C.G x o W post) (hW:∀C a w,cf C x a w->∀b∈T,b∉W) (hWx:∀b∈W,b∈aq x.S)
  (k:∀y,post y->AD P C ops S1 T fuel (ld.setIfInBounds i true) y Q):ig P C ops S1 T fuel ld x Q i:=fun w1 a w I hT aa E ff=>by
 unfold wpOp;simp only[hi,hw C a w I,if_true];refine .inl (h C a w _ _ rfl I fun y a' w' hp Z hc hf=>?_);have O:Fr w1 S1 w' (aq y.S):=⟨hf.os.trans E.os,hf.tape.trans E.tape,hf.output.trans E.output,Nat.le_trans E.size hf.size,fun b hb hn=>by
  obtain⟨q1,q2⟩:=E.block b hb hn;obtain⟨q3,q4⟩:=hf.block b (Nat.lt_of_lt_of_le hb E.size) q2;exact⟨q3.trans q1,q4⟩⟩
 have U:mG w1 S1 T w':=⟨fun b hb hn=>(O.block b hb hn).1,fun b hb=>by
  have iI:=Nat.lt_of_lt_of_le (aa b (hT b hb)) E.size;exact(hc.2 b iI (hW C a w I b hb)).trans (ff.2 b hb)⟩
 exact⟨U,k y hp w1 a' w' Z hT aa O U⟩
theorem TL{kd:Rd}{d:D}(hi:ops[i]?=some o)(hw:cH ops x o true)(hd:o.dst=some t)(h:cu P C.G x o kd d)(k:AD P C ops S1 T fuel (ld.setIfInBounds i true) (x.put t d) Q):ig P C ops S1 T fuel ld x Q i :=
 ig.gN hi hw (h.gN hd) (fun _ _ _ _ b _ hb=>by simp at hb) (fun b hb=>by simp at hb) fun y hy=>by subst hy;exact k
theorem rA(hi:ops[i]?=some o)(hw:cH ops x o false)(hd:o.dst=some t)(k:AD P C ops S1 T fuel (ld.setIfInBounds i true) (x.put t (.v (.tuple #[]))) Q):ig P C ops S1 T fuel ld x Q i:=fun w1 a w E hT aa I ff=>by
 unfold wpOp;simp only[hi,hw C a w E,hd];exact⟨ff,k w1 _ w (E.put (.v _)) hT aa I ff⟩
theorem O8(h:Wk x y)(hb:aq y.S=aq x.S)(k:AD P C ops S1 T fuel ld y Q):AD P C ops S1 T fuel ld x Q:=fun w1 a w E hT aa I ff=>k w1 a w (h C a w E) hT aa (hb ▸ I) ff
theorem HT(h:Wk x y)(hb:∀b∈aq y.S,b∈aq x.S)(k:AD P C ops S1 T fuel ld y Q):AD P C ops S1 T fuel ld x Q:=fun w1 a w I hT aa E ff =>
 k w1 a w (h C a w I) hT aa ⟨E.os,E.tape,E.output,E.size,fun b h1 h2=>⟨(E.block b h1 h2).1,fun h3=>(E.block b h1 h2).2 (hb b h3)⟩⟩ ff
theorem Ny{id:Nat}{l:List Oper}(T:List Nat)(hm:P.follows .mixedOrders=true)(hT:∀b∈T,b∈aq x.S)(h:ew P C l.toArray (aq x.S) T l.toArray.size (Array.replicate l.toArray.size false) x Q):CD P C (.region id l.toArray true) x Q:=fun a w hs =>
 wp_region_held (S:=mG {w with drawn:=w.drawn+1} (aq x.S) T) hm (h a _ ⟨hs.defers,hs.size,fun t ht=>(hs.env t ht).mono fun b _ hn=>⟨rfl,hn⟩,⟨fun B hB=>by
  obtain⟨r0,cur,r1,r2,r3,E⟩:=hs.own.at_ B hB;exact⟨r0,cur,r1,r2,r3,fun i hi=>by
   obtain⟨u,hu,hq⟩:=E i hi;exact⟨u,hu,hq.mono fun b _ hn=>⟨rfl,hn⟩⟩⟩,hs.own.apart⟩,⟨hs.fr.os,hs.fr.tape,hs.fr.output,hs.fr.size,hs.fr.block⟩,hs.ex,hs.fE⟩ rfl hT)
end
section
variable {P:Program}
variable {t:TypeId} {k:IntKind} {a b:Int} {us Da:List Value} {y:Operand}
theorem Nz{op:BinOp}{r:Int}(h:(op = .add/\k.wrap (a+b)=r)\/(op = .sub/\k.wrap (a-b)=r)\/(op = .mul/\k.wrap (a*b)=r)):mD P op t (.int k a) (.int k b) (.int k r):=fun y z w=>by
 rcases h with ⟨rfl,h⟩|⟨rfl,h⟩|⟨rfl,h⟩<;>simp[eqGuard,binOp,Op.intArith,h]
theorem mB{r:Int}(h:k.wrap (a+b)=r):mD P .add t (.int k a) (.int k b) (.int k r):=Nz (.inl ⟨rfl,h⟩)
theorem je{r:Int}(h:k.wrap (a-b)=r):mD P .sub t (.int k a) (.int k b) (.int k r):=Nz (.inr (.inl ⟨rfl,h⟩))
theorem NA{r:Int}(h:k.wrap (a*b)=r):mD P .mul t (.int k a) (.int k b) (.int k r):=Nz (.inr (.inr ⟨rfl,h⟩))
theorem Xh:mD P .lss t (.int k a) (.int k b) (.bool (decide (a<b))):=fun y z w=>by simp[eqGuard,binOp,Op.intCmp]
theorem Xi:mD P .leq t (.int k a) (.int k b) (.bool (decide (a<=b))):=fun y z w=>by simp[eqGuard,binOp,Op.intCmp]
theorem Xj:mD P .gtr t (.int k a) (.int k b) (.bool (decide (a>b))):=fun y z w=>by simp[eqGuard,binOp,Op.intCmp]
theorem Xk:mD P .geq t (.int k a) (.int k b) (.bool (decide (a>=b))):=fun y z w=>by simp[eqGuard,binOp,Op.intCmp]
theorem Xl:mD P .eql t (.int k a) (.int k b) (.bool (a==b)):=fun y z w=>by simp[eqGuard,binOp,Op.intCmp]
theorem Xm:mD P .neq t (.int k a) (.int k b) (.bool (a != b)):=fun y z w=>by simp[eqGuard,binOp,Op.intCmp]
theorem ajG{r:Int}(hb:b≠0)(h:k.wrap (a.tdiv b)=r):mD P .quo t (.int k a) (.int k b) (.int k r):=fun y z w=>by simp[eqGuard,binOp,Op.intDiv,hb,h]
theorem NB(hb:b≠0):mD P .rem t (.int k a) (.int k b) (.int k (a.tmod b)):=fun y z w=>by simp[eqGuard,binOp,Op.intDiv,hb]
theorem VJ{a b:ByteArray}:mD P .eql t (.string a) (.string b) (.bool (a.toList==b.toList)):=fun y z w=>by simp[eqGuard,binOp,Op.stringOp]
theorem VK{a b:ByteArray}:mD P .neq t (.string a) (.string b) (.bool (!(a.toList==b.toList))):=fun y z w=>by simp[eqGuard,binOp,Op.stringOp]
theorem zj{a b:ByteArray}(h:a.size+b.size<=9223372036854775807):mD P .add t (.string a) (.string b) (.string (a++b)):=fun y z w=>by
 have:¬(((a.size+b.size:Nat):Int)>IntKind.i64.max):=by
  have:IntKind.i64.max=9223372036854775807:=rfl;omega
 simp only[eqGuard,binOp,Op.stringOp,Sem.run_bind];simp only[this,if_false];simp
theorem HP{a b:Bool}(E:P.underlying t=some .bool):mD P .eql t (.bool a) (.bool b) (.bool (a==b)):=fun y z w=>by
 have:binOp .eql t (.bool a) (.bool b)=(do pure (.bool (<-Op.equal t (.bool a) (.bool b)))):=rfl;simp only[eqGuard,this,Sem.run_bind];simp[run_equal_bool w t a b E]
theorem VL{a b:Bool}(E:P.underlying t=some .bool):mD P .neq t (.bool a) (.bool b) (.bool (!(a==b))):=fun y z w=>by
 have:binOp .neq t (.bool a) (.bool b)=(do pure (.bool (!(<-Op.equal t (.bool a) (.bool b))))):=rfl;simp only[eqGuard,this,Sem.run_bind];simp[run_equal_bool w t a b E]
theorem cG.Jk{w:World}{L:Nat->Prop}{v:Value}(h:cG w L (.agg (us.map .v)) v):v = .agg us.toArray:=by
 cases h with
 | agg _ vs hl hr =>
  congr 1;congr 1;refine ext_getElem zQ fun i h1 h2=>?_;have:=hr i (by simpa using h2) h1;simp only[getElem_map] at this;exact this.mi
section
variable {G:List (Nat×List Value)} {x:St} {o:Oper}
theorem Hr {t':TypeId} {z:Operand} {r:Bool} (ho:o.op = .binOp .eql t y z t') (hy:aK x y = .agg (us.map .v)) (hz:aK x z = .agg (Da.map .v)) (hg:P.eqGuardType P.depth t=false)
  (hE:∀w,(Op.equalIn 10000 t (.agg us.toArray) (.agg Da.toArray)).run P w = .ok r w):cu P G x o .none (.v (.bool r)):=fun C a w _ h=>by
 have h1:=h.eval y;have h2:=h.eval z;rw[hy] at h1;rw[hz] at h2;refine⟨_,.v _,fun w' _=>?_⟩;unfold execOp;simp only[ho,h1.Jk,h2.Jk,Sem.run_bind,run_eqGuard_agg _ _ _ _ _ _ _ hg,Result.andThen_ok,run_eql_struct,hE,Sem.run_pure]
theorem Uv {t':TypeId} {z:Operand} {r:Bool} (ho:o.op = .binOp .neq t y z t') (hy:aK x y = .agg (us.map .v)) (hz:aK x z = .agg (Da.map .v)) (hg:P.eqGuardType P.depth t=false)
  (hE:∀w,(Op.equalIn 10000 t (.agg us.toArray) (.agg Da.toArray)).run P w = .ok r w):cu P G x o .none (.v (.bool !r)):=fun C a w _ h=>by
 have h1:=h.eval y;have h2:=h.eval z;rw[hy] at h1;rw[hz] at h2;refine⟨_,.v _,fun w' _=>?_⟩;unfold execOp;simp only[ho,h1.Jk,h2.Jk,Sem.run_bind,run_eqGuard_agg _ _ _ _ _ _ _ hg,Result.andThen_ok,run_neq_struct,hE,Sem.run_pure]
def xW(b:UInt8):D:=.v (.int .u8 (b.toNat:Int))
theorem aew{s e:TypeId}{bs:List UInt8}{n:Nat}(ho:o.op = .convert s t y)(hy:aK x y = .list 1 (bs.map xW) n)(hs:P.underlying s=some (.slice e))(he:P.underlying e=some (.int .u8))(ht:P.underlying t=some .string) :
  cu P G x o .kP (.v (.string ⟨bs.toArray⟩)):=fun C a w _ h=>by
 have hr:=h.eval y;rw[hy] at hr;generalize hg:a.eval y=u at hr;generalize dP:bs.map xW=cs at hr;cases hr with
 | nK _ ad cap =>
  have:bs=[]:=(by simpa using dP)
  subst this;refine⟨_,.v _,fun w' _=>?_⟩;unfold execOp;simp only[ho,hg,Sem.run_bind,run_convert_bytes_string w' s t e ad 0 cap hs he ht];cases ad<;>simp[Conv.bytesToString,loadCells,loadCellsFrom]<;>rfl
 | list _ _ _ b I cap g hl q1 q2 hb hL hc O =>
  subst dP;simp only[length_map,Nat.mul_one] at hl hc;refine⟨_,.v _,fun w' hw=>?_⟩;unfold execOp;have E:=run_convert_bytes_back (P:=P) w' s t e ⟨b,I,none⟩ cap bs hs he ht (fun j hj=>by
   rw[Addr.add_mid];have U:=World.cell?_of_block (w:=w) (a:=⟨b,I+j,none⟩) (hw b hb hL);rw[U,hc j hj];have:=O j (by simpa using hj);simp only[getElem_map,xW] at this;rw[this.mi])
  rw[hl] at E;simp only[ho,hg,Sem.run_bind,E,Result.andThen_ok,Sem.run_pure]
end
theorem alk{b:Bool}:∀w,(Op.unary .not (.bool b)).run P w = .ok (.bool !b) w:=fun w=>rfl
theorem Ow{r:Int}(h:k.wrap (0-a)=r):∀w,(Op.unary .neg (.int k a)).run P w = .ok (.int k r) w:=fun w=>by
 subst h;rfl
theorem uW{s:TypeId}{k':IntKind}{r:Int}{d:TypeDesc}(hs:∀w,(underlying s).run P w = .ok d w)(ht:∀w,(underlying t).run P w = .ok (.int k') w)(h:k'.wrap a=r):∀w,(convert s t (.int k a)).run P w = .ok (.int k' r) w:=fun w=>by
 subst h;simp[convert,hs,ht,Conv.intToInt]
theorem wrap_i64{x:Int}(h1:-9223372036854775808<=x)(h2:x<=9223372036854775807):IntKind.i64.wrap x=x:=IntWalk.i64_in _ w4
theorem alm{ts:Array TypeId}{E:TypeId}:∀cs w,(builtin .min ts E cs #[.int k a,.int k b]).run P w = .ok (.value (.int k (if b<a then b else a))) w:=fun cs w=>by
 simp[builtin,Builtin.min_,Builtin.min2]
theorem ox:(∀{p:Prop} [Decidable p],(decide p=true)=p)/\(∀{p:Prop} [Decidable p],(decide p=false)↔¬p)/\(∀{a b:Int},(a==b)=true↔a=b)/\(∀{a b:Int},(a != b)=true↔a≠b)/\(∀{a b:Bool},(a==b)=true↔a=b)/\(∀{a b:Bool},(a != b)=true↔a≠b)
  /\ (∀{b:Bool},((!b)=true)=(b=false))/\(∀{b:Bool},((!b)=false)=(b=true))/\(∀{b:Bool},(¬b=true)=(b=false))/\(∀{b:Bool},(¬b=false)=(b=true))/\(∀{a b:Int},(a==b)=false↔¬a=b)/\(∀{a b:Int},(a != b)=false↔a=b)/\(∀{a b:Bool},(a==b)=false↔¬a=b)/\(∀{a b:Bool},(a != b)=false↔a=b)
  /\ (∀{a b:Bool},((a&&b)=true)=(a=true/\b=true))/\(∀{a b:Bool},((a||b)=true)=(a=true\/b=true))/\(∀{b:Bool},(!!b)=b)/\(∀{a b:Bool},(a&&b)=false↔a=false\/b=false)/\(∀{a b:Bool},(a||b)=false↔a=false/\b=false)/\(∀{a b:Int},(¬a<b)↔b<=a)/\(∀{a b:Int},(¬a<=b)↔b<a):=by
 refine⟨fun {p} _=>by simp,fun {p} _=>by simp,by simp,by simp,by simp,by simp,by simp,by simp,by simp,by simp,by simp,by simp,by simp,by simp,by simp,by simp,by simp,by simp,by simp,by simp,by simp⟩
end
section
variable {P:Program} {C:ey} {G:List (Nat×List Value)} {Q:Exit->St->Prop} {x y:St} {ops:Array Oper} {l:List Oper} {o:Oper}
variable {t e:TypeId} {ps:List (Nat×Operand)} {pl:List (Nat×D)} {ds:List D} {sz i:Nat} {fo:Operand} {dR:Array Operand} {ts:Array TypeId} {Sf:List ag} {post:D->List ag->Prop} {α:Type} {lo hi:Option Operand}
theorem ahZ{z:Operand}{d:D}(ho:o.op = .move z)(hd:aK x z=d):cu P G x o .none d:=hd ▸ afu ho
theorem ah0{z:Operand}{d:D}(ho:o.op = .assign z)(hd:aK x z=d):cu P G x o .none d:=hd ▸ aeJ ho
theorem ae5{c y z:Operand}{t:Bool}{d:D}(ho:o.op = .pick c y z)(hc:aK x c = .v (.bool t))(h:t=true)(hd:aK x y=d):cu P G x o .none d:=by
 have:=T2 (P:=P) (G:=G) ho hc;rw[if_pos h,hd] at this;exact this
theorem ae6{c y z:Operand}{t:Bool}{d:D}(ho:o.op = .pick c y z)(hc:aK x c = .v (.bool t))(h:t=false)(hd:aK x z=d):cu P G x o .none d:=by
 have:=T2 (P:=P) (G:=G) ho hc;rw[if_neg (by rw[h];simp),hd] at this;exact this
def om(x:St):List Operand->List D->Prop
 | [],[]=>True
 | o::r,d::r'=>aK x o=d/\om x r r'
 | _,_=>False
theorem om.eq:∀{os:List Operand} {ds:List D},om x os ds->os.map (aK x)=ds
 | [],[],_=>rfl
 | o::r,d::r',h=>by rw[map_cons,h.1,om.eq h.2]
 | [],_::_,h=>h.elim
 | _::_,[],h=>h.elim
def kJ(x:St):List (Nat×Operand)->List (Nat×D)->Prop
 | [],[]=>True
 | p::r,q::r'=>p.1=q.1/\aK x p.2=q.2/\kJ x r r'
 | _,_=>False
theorem kJ.eq:∀{ps:List (Nat×Operand)} {ds:List (Nat×D)},kJ x ps ds->nE x ps.toArray=ds
 | [],[],_=>rfl
 | p::r,(i,d)::r',h=>by
  have:=kJ.eq h.2.2;simp only[nE,map_cons] at this |-;rw[this,h.1,h.2.1]
 | [],_::_,h=>h.elim
 | _::_,[],h=>h.elim
def l9:D->Bool
 | .cy=>false
 | _=>true
theorem Dx{ps:List (Nat×D)}(h:ps.all (fun p=>l9 p.2)=true):∀p∈ps,p.2≠.cy:=fun p hp he=>by
 have:=all_eq_true.1 h p hp;rw[he] at this;cases this
theorem nZ {E:Array Field} {places:Array (Nat×Nat)} {z:Value} (ho:o.op = .build t ps.toArray) (hz:∀w,(zeroValue t).run P w = .ok z w)
  (I:∀w,(underlying t).run P w = .ok (.struct E) w) (hp:∀w,(E.mapM fun f=>do pure (f.offset,<-sizeOf f.type):Sem (Array (Nat×Nat))).run P w = .ok places w)
  (gv:kJ x ps pl) (hj:pl.all (fun p=>l9 p.2)=true) (hd:og (places[·]?) (z.cells.toList.map .v) pl=some ds):cu P G x o .none (.agg ds):=by
 refine ae3 ho hz I hp ?_ ?_
 ·rw[gv.eq];exact Dx hj
 rw[gv.eq];exact hd
theorem He {n:Nat} {z:Value} (ho:o.op = .build t ps.toArray) (hz:∀w,(zeroValue t).run P w = .ok z w)
  (E:∀w,(underlying t).run P w = .ok (.array n e) w) (hs:∀w,(sizeOf e).run P w = .ok sz w)
  (gv:kJ x ps pl) (hj:pl.all (fun p=>l9 p.2)=true) (hd:og (fun i=>some (i*sz,sz)) (z.cells.toList.map .v) pl=some ds):cu P G x o .none (.agg ds):=by
 refine aeN ho hz E hs ?_ ?_
 ·rw[gv.eq];exact Dx hj
 rw[gv.eq];exact hd
def cU(k:Nat):List D->List (Nat×D)
 | []=>[]
 | d::r=>(k,d)::cU (k+1) r
theorem Uw:∀(ds pre post:List D),ds.length<=post.length->dY (pre++post) pre.length ds=(pre++ds)++post.drop ds.length
 | [],pre,post,_=>by simp[dY]
 | d::ds,pre,[],h=>by simp at h
 | d::ds,pre,p::post,h=>by
  rw[dY,show(pre++p::post).set pre.length d=(pre++[d])++post by simp,show pre.length+1=(pre++[d]).length by simp,Uw ds (pre++[d]) post qz];simp
theorem Xn{sz:Nat}:∀(pd:List D) (k:Nat) (pre post:List D),(pd.all fun d=>Nat.beq (cellsOf d).length sz)=true->pre.length=k*sz->post.length=pd.length*sz->og (fun i=>some (i*sz,sz)) (pre++post) (cU k pd)=some (pre++pd.flatMap cellsOf)
 | [],k,pre,post,_,_,h=>by
  have:post=[]:=length_eq_zero_iff.1 qz;simp[cU,og,this]
 | d::r,k,pre,post,ha,h1,h2=>by
  rw[all_cons,Bool.and_eq_true] at ha;have hd:(cellsOf d).length=sz:=Nat.eq_of_beq_eq_true ha.1;have hp:post.length=r.length*sz+sz:=(by rw[h2,length_cons,Nat.succ_mul])
  rw[cU,og];simp only;rw[if_neg (by simp only[hd,length_append,h1,hp,ne_eq,not_true_eq_false,decide_false,Bool.false_or,decide_eq_true_eq];omega),<-h1,Uw _ _ _ w4,Xn r (k+1) _ _ ha.2 (by rw[length_append,hd,h1,Nat.succ_mul]) (by rw[length_drop,hd];omega),flatMap_cons];simp
theorem Ux{pd zs:List D}(ha:(pd.all fun d=>Nat.beq (cellsOf d).length sz)=true)(hl:Nat.beq zs.length (pd.length*sz)=true)(ku:pd.flatMap cellsOf=ds):og (fun i=>some (i*sz,sz)) zs (cU 0 pd)=some ds:=by
 have:=Xn pd 0 [] zs ha bC (Nat.eq_of_beq_eq_true hl);rw[nil_append,nil_append,ku] at this;exact this
theorem ajH {tt len:Nat} {z:Value} {qF:List Value} (hw:cH ops x o true) (ho:o.op = .buildSlice t len ps.toArray) (kL:o.dst=some tt) (hz:∀w,(zeroValue e).run P w = .ok z w)
  (E:∀w,(underlying t).run P w = .ok (.slice e) w) (hs:∀w,(sizeOf e).run P w = .ok sz w) (hl:Nat.ble 1 (len*sz)=true) (hU:Nat.ble (len*sz) (2 ^ 24)=true) (fK:(Array.range (len*sz)).map (fun i=>z.cells[i % z.cells.size]!)=qF.toArray)
  (gv:kJ x ps pl) (hj:pl.all (fun p=>l9 p.2)=true) (hd:og (fun i=>some (i*sz,sz)) (qF.map .v) pl=some ds)
  (k:∀b,OD P C ops l ⟨x.n,(tt,.v (.slice (some ⟨b,0,none⟩) len len))::x.env,⟨b,e,ds.length,ds⟩::x.S⟩ Q) (hne:isMap e=false:=by rfl):OD P C ops (o::l) x Q:=by
 refine OD.gN hw (LF (hne:=hne) (zs:=qF.map .v) (ds:=ds) ho kL hz E hs (Nat.le_of_ble_eq_true hl) (Nat.le_of_ble_eq_true hU) ?_ ?_ ?_ ?_) ?_
 ·rw[fK];congr 1;rw[map_map];exact(map_id qF).symm
 ·intro d hd;obtain⟨u,_,rfl⟩:=mem_map.1 hd;exact⟨u,rfl⟩
 ·rw[gv.eq];exact Dx hj
 ·rw[gv.eq];exact hd
 rintro _ ⟨b,rfl⟩;exact k b
theorem cD {z:Value} {t:Nat} (hw:cH ops x o true) (ho:o.op = .alloc e) (hd:o.dst=some t) (hz:∀w,(zeroValue e).run P w = .ok z w) (ku:z.cells.toList.map .v=ds)
  (k:∀b,OD P C ops l ⟨x.n,(t,.v (.pointer (some ⟨b,0,none⟩)))::x.env,⟨b,e,ds.length,ds⟩::x.S⟩ Q) (hne:isMap e=false:=by rfl):OD P C ops (o::l) x Q :=
 OD.gN hw (Hx (hne:=hne) ho hd hz ku) fun y ⟨b,hy⟩=>hy ▸ k b
theorem aln {z:Operand} {t:Nat} {d:D} (hw:cH ops x o true) (ho:o.op = .box e z) (hd:o.dst=some t) (hy:aK x z=d) (hj:l9 d=true) (ku:cellsOf d=ds)
  (k:∀b,OD P C ops l ⟨x.n,(t,.v (.pointer (some ⟨b,0,none⟩)))::x.env,⟨b,e,ds.length,ds⟩::x.S⟩ Q) (hne:isMap e=false:=by rfl):OD P C ops (o::l) x Q :=
 OD.gN hw (ajD (hne:=hne) ho hd hy (fun h=>by rw[h] at hj;cases hj) ku) fun y ⟨b,hy⟩=>hy ▸ k b
theorem OD.store {t:TypeId} {k b o' n:Nat} {B:ag} {d:D} {cs':List D} {y z:Operand} (hw:cH ops x o true) (ho:o.op = .store t y z) (kL:o.dst=none) (hy:aK x y = .v (.pointer (some ⟨b,o',none⟩)))
  (hk:x.S[k]?=some B) (hb:B.b=b) (hz:aK x z=d) (hj:l9 d=true) (h1:(cellsOf d).all one=true) (hn:∀w,(sizeOf t).run P w = .ok n w) (iv:(cellsOf d).length=n) (hl:Nat.ble (o'+n) B.cs.length=true) (dP:dY B.cs o' (cellsOf d)=cs')
  (K:OD P C ops l ⟨x.n,x.env,x.S.set k {B with cs:=cs'}⟩ Q) (hne:isMap B.e=false:=by rfl):OD P C ops (o::l) x Q :=
 OD.gN hw (Hz (hne:=hne) ho kL hy hk hb hz (fun h=>by rw[h] at hj;cases hj) h1 hn iv (Nat.le_of_ble_eq_true hl) dP) fun y hy=>hy ▸ K
theorem eH {f t:Nat} {args:List D} {R:List ag} (hw:cH ops x o true) (ho:o.op = .call {callee:=.value fo,args:=dR,argTypes:=ts}) (hd:o.dst=some t)
  (hf:fo = .func f) (fY:∀args w,(callFunc f args).run P w = .ok (.enter f args) w) (hc:VC P C.G f args Sf post) (ha:om x dR.toList args) (hp:x.S.Perm (Sf++R))
  (K:∀r S',post r S'->OD P C ops l ⟨x.n,(t,r)::x.env,S'++R⟩ Q):OD P C ops (o::l) x Q :=
 OD.gN hw (DR ho hd hf fY ha.eq hp hc) fun y ⟨r,S',h,hy⟩=>hy ▸ K r S' h
theorem pS {f t:Nat} {args:List D} {r:D} (hw:cH ops x o true) (ho:o.op = .call {callee:=.value fo,args:=dR,argTypes:=ts}) (hd:o.dst=some t)
  (hf:fo = .func f) (fY:∀args w,(callFunc f args).run P w = .ok (.enter f args) w) (hc:VP P C.G f args r) (ha:om x dR.toList args)
  (K:OD P C ops l (x.put t r) Q):OD P C ops (o::l) x Q :=
 eH hw ho hd hf fY hc ha (fj _) fun E S' ⟨h1,h2⟩=>by subst h1 h2;exact K
theorem nB {f t:Nat} {args E all:List D} {R:List ag} (hw:cH ops x o true) (ho:o.op = .call {callee:=.value fo,args:=dR,argTypes:=ts}) (hd:o.dst=some t)
  (hf:aK x fo = .fg (.func f) E) (fY:∀args w,(callFunc f args).run P w = .ok (.enter f args) w) (hc:VC P C.G f all Sf post) (fb:args++E=all) (ha:om x dR.toList args) (hp:x.S.Perm (Sf++R))
  (K:∀r S',post r S'->OD P C ops l ⟨x.n,(t,r)::x.env,S'++R⟩ Q):OD P C ops (o::l) x Q :=
 OD.gN hw (Uu ho hd hf fY (by rw[ha.eq,fb]) hp hc) fun y ⟨r,S',h,hy⟩=>hy ▸ K r S' h
theorem OD.append {s y:Operand} {t e tt sz bytes n m b cap k:Nat} {z:Value} {B:ag} {cs:List D} (hw:cH ops x o true) (ho:o.op = .call {callee:=.builtin .append,args:=#[s,y],argTypes:=#[t,t]}) (hd:o.dst=some tt)
  (ht:P.underlying t=some (.slice e)) (hi:(P.info? e).map (fun i=>(i.zero,i.size,i.bytes))=some (some z,sz,bytes)) (fK:z.cells.size=sz) (Z:0<sz)
  (hs:aK x s = .v (.slice (some ⟨b,0,none⟩) n cap)) (hk:x.S[k]?=some B) (hb:B.b=b) (he:B.e=e) (I:B.size=cap*sz) (hl:B.cs.length=n*sz) (hn:n<=cap) (O:cap<=maxLen)
  (hy:aK x y = .list sz cs m) (ji:∀d∈cs,one d=true) (hm:0<m) (lX:n+m<=maxLen) (E:(n+m)*bytes<=140737488355328)
  (K:∀U bj,n+m<=bj->bj<=maxLen->OD P C ops l ⟨x.n,(tt,.v (.slice (some ⟨U,0,none⟩) (n+m) bj))::x.env,⟨U,e,bj*sz,B.cs++cs⟩::x.S.eraseIdx k⟩ Q) (hne:isMap B.e=false:=by rfl):OD P C ops (o::l) x Q :=
 OD.gN hw (T5 (hne:=hne) ho hd ht hi fK Z hs hk hb he I hl hn O hy ji hm lX E) fun y ⟨U,bj,h1,h2,hy⟩=>hy ▸ K U bj h1 h2
theorem aeO {s y:Operand} {t e tt bytes m:Nat} {z:Value} {cs:List D} (hw:cH ops x o true) (ho:o.op = .call {callee:=.builtin .append,args:=#[s,y],argTypes:=#[t,t]}) (hd:o.dst=some tt)
  (ht:P.underlying t=some (.slice e)) (hi:(P.info? e).map (fun i=>(i.zero,i.size,i.bytes))=some (some z,sz,bytes)) (fK:z.cells.size=sz) (O:0<sz)
  (hs:aK x s = .v (.slice none 0 0)) (hy:aK x y = .list sz cs m) (ji:∀d∈cs,one d=true) (hm:0<m) (U:m<=maxLen) (E:m*bytes<=140737488355328)
  (K:∀I bj,m<=bj->bj<=maxLen->OD P C ops l ⟨x.n,(tt,.v (.slice (some ⟨I,0,none⟩) m bj))::x.env,⟨I,e,bj*sz,cs⟩::x.S⟩ Q) (hne:isMap e=false:=by rfl):OD P C ops (o::l) x Q :=
 OD.gN hw (TB (hne:=hne) ho hd ht hi fK O hs hy ji hm U E) fun y ⟨I,bj,h1,h2,hy⟩=>hy ▸ K I bj h1 h2
theorem VM{t:Nat}{b:Bool}(hb:look t x.env = .v (.bool b))(h1:b=true->OD P C ops l x Q)(h2:b=false->OD P C ops l x Q):OD P C ops l x Q:=by
 cases h:b
 ·exact h2 h
 exact h1 h
theorem aep{z:Operand}{a':Addr}(ho:o.op = .nilCheck z)(hz:aK x z = .v (.pointer (some a'))):cu P G x o .none (.v (.pointer (some a'))):=fun C a w _ h =>
 ⟨_,.v _,fun w' _=>by unfold execOp;simp only[ho,h.flat hz];rfl⟩
theorem aem{z:Operand}{cs:List D}{off:Nat}(ho:o.op = .nilCheck z)(hz:aK x z = .gm cs off):cu P G x o .none (.gm cs off):=fun C a w _ h=>by
 have hr:=h.eval z;rw[hz] at hr;generalize hg:a.eval z=u at hr;cases hr with
 | gm _ _ b E g hb hL hc I=>exact⟨_,.gm cs off b E g hb hL hc I,fun w' _=>by unfold execOp;simp only[ho,hg];rfl⟩
theorem sM{fn:Fn}{E:Array Operand}(ho:o.op = .makeFunc fn #[] E)(hd:om x E.toList ds):cu P G x o .none (.fg fn ds):=afx ho hd.eq
theorem dg{α:Type}{g:α->List D}{sz:Nat}(hg:∀a,(g a).length=sz):∀(ls:List α),(ls.flatMap g).length=ls.length*sz
 | []=>by simp
 | a::r=>by rw[flatMap_cons,length_append,hg,dg hg r,length_cons,Nat.add_mul];omega
theorem xF{α:Type}{g:α->List D}{sz:Nat}(hg:∀a,(g a).length=sz):∀(ls:List α) (i:Nat),(ls.flatMap g).drop (i*sz)=(ls.drop i).flatMap g
 | [],i=>by simp
 | a::r,0=>by simp
 | a::r,i+1=>by
  rw[flatMap_cons,drop_succ_cons,<-xF hg r i,Nat.add_mul,Nat.one_mul,Nat.add_comm,<-drop_drop];congr 1;rw[<-hg a,drop_left]
theorem v8{α:Type}{g:α->List D}{sz:Nat}(hg:∀a,(g a).length=sz):∀(ls:List α) (i:Nat),(ls.flatMap g).take (i*sz)=(ls.take i).flatMap g
 | [],i=>by simp
 | a::r,0=>by simp
 | a::r,i+1=>by
  rw[flatMap_cons,take_succ_cons,flatMap_cons,<-v8 hg r i,Nat.add_mul,Nat.one_mul,Nat.add_comm,<-hg a,take_length_add_append]
theorem Jl{g:α->List D}(hg:∀a,(g a).length=sz){ls:List α}(hi:i<ls.length):((ls.flatMap g).drop (i*sz)).take sz=g ls[i]:=by
 rw[xF hg,drop_eq_getElem_cons hi,flatMap_cons,<-hg ls[i],take_left]
theorem BS{g:α->List D}(hg:∀a,(g a).length=sz){ls:List α}{j:Nat}{d:D}(hi:i<ls.length)(hd:(g ls[i])[j]?=some d):(ls.flatMap g)[i*sz+j]?=some d:=by
 have h:=Jl hg hi;have hj:=(List.getElem?_eq_some_iff.1 hd).1;rw[hg] at hj;rw[<-hd,<-h,getElem?_take_of_lt hj,getElem?_drop]
theorem MT{g:α->List D}(hg:∀a,(g a).length=sz){ls:List α}{d:D}(hi:i<ls.length)(hd:(g ls[i])[0]?=some d):(ls.flatMap g)[i*sz]?=some d:=BS hg hi hd
theorem wq{g:α->List D}(hg:∀a,(g a).all one=true)(ls:List α):∀d∈ls.flatMap g,one d=true:=fun d hd=>by
 obtain⟨a,_,h⟩:=mem_flatMap.1 hd;exact all_eq_true.1 (hg a) d h
theorem ae7 {g:α->List D} {h':Nat} (hg:∀a,(g a).length=sz) {ls:List α} {y:Operand} (ho:o.op = .slice t y lo hi none) (hy:aK x y = .list sz (ls.flatMap g) ls.length) (fA:oO x lo 0 0) (fk:oO x hi h' ls.length)
  (E:∀w,(underlying t).run P w = .ok (.slice e) w) (hs:∀w,(sizeOf e).run P w = .ok sz w) (h2:h'<=ls.length):cu P G x o .none (.list sz ((ls.take h').flatMap g) (ls.take h').length):=by
 have:=LJ (P:=P) (G:=G) ho hy fA fk E hs (Nat.zero_le _) h2;rw[Nat.zero_mul,drop_zero,Nat.sub_zero,v8 hg] at this;rw[length_take,Nat.min_eq_left h2];exact this
theorem ae8 {g:α->List D} {l':Nat} (hg:∀a,(g a).length=sz) {ls:List α} {y:Operand} (ho:o.op = .slice t y lo hi none) (hy:aK x y = .list sz (ls.flatMap g) ls.length) (fA:oO x lo l' 0) (fk:oO x hi ls.length ls.length)
  (E:∀w,(underlying t).run P w = .ok (.slice e) w) (hs:∀w,(sizeOf e).run P w = .ok sz w) (h2:l'<=ls.length):cu P G x o .none (.list sz ((ls.drop l').flatMap g) (ls.drop l').length):=by
 have:=LJ (P:=P) (G:=G) ho hy fA fk E hs h2 (Nat.le_refl _);rw[xF hg,take_of_length_le (by rw[dg hg,length_drop];exact Nat.le_refl _)] at this;rw[length_drop];exact this
end
section
variable {P:Program} {C:ey} {Q:Exit->St->Prop} {x:St} {ops:Array Oper} {o:Oper} {S1 T:List Nat} {fuel i:Nat} {ld:Array Bool}
variable {k t:Nat} {B:ag} {fo:Operand} {dR:Array Operand} {ts:Array TypeId}
theorem Ed{S:List ag}(hk:S[k]?=some B):B.b∈aq S:=mem_map.2 ⟨B,mem_of_getElem? hk,rfl⟩
theorem oG{S:List ag}{k0:Nat}(hk:x.S[k]?=some B)(h0:S[k0]?=some B):Safe x (aq S) (.gh k):=⟨B,hk,Ed h0⟩
theorem HU{b:Bool}(hb:look t x.env = .v (.bool b))(h1:b=true->AD P C ops S1 T fuel ld x Q)(h2:b=false->AD P C ops S1 T fuel ld x Q):AD P C ops S1 T fuel ld x Q:=by
 cases h:b
 ·exact h2 h
 exact h1 h
theorem ew.split{b:Bool}(hb:look t x.env = .v (.bool b))(h1:b=true->ew P C ops S1 T fuel ld x Q)(h2:b=false->ew P C ops S1 T fuel ld x Q):ew P C ops S1 T fuel ld x Q:=by
 cases h:b
 ·exact h2 h
 exact h1 h
theorem L6{post:St->Prop}(hi:ops[i]?=some o)(hw:cH ops x o true)(h:gL P C.G x o [] post)(k:∀y,post y->AD P C ops S1 T fuel (ld.setIfInBounds i true) y Q):ig P C ops S1 T fuel ld x Q i :=
 ig.gN hi hw h (fun _ _ _ _ _ _ hb=>by simp at hb) (fun _ hb=>by simp at hb) k
theorem J3{C:ey}{a:Act}{w:World}(h:cf C x a w)(hk:x.S[k]?=some B)(hT:∀b∈T,b∈aq (x.S.eraseIdx k)):∀b∈T,b∉[B.b]:=fun b hb hm=>by
 have hp:(aq x.S).Perm (B.b::aq (x.S.eraseIdx k)):=(by have:=(xu hk).map ag.b;simpa[aq] using this)
 have hn:=(nodup_cons.1 (hp.nodup_iff.1 h.own.apart)).1;have:b=B.b:=(by simpa using hm)
 exact hn (this ▸ hT b hb)
theorem afy {t e:TypeId} {tt len sz:Nat} {ps:List (Nat×Operand)} {pl:List (Nat×D)} {z:Value} {qF:List Value} {ds:List D} (hi:ops[i]?=some o) (hw:cH ops x o true) (ho:o.op = .buildSlice t len ps.toArray) (kL:o.dst=some tt) (hz:∀w,(zeroValue e).run P w = .ok z w)
  (E:∀w,(underlying t).run P w = .ok (.slice e) w) (hs:∀w,(sizeOf e).run P w = .ok sz w) (hl:Nat.ble 1 (len*sz)=true) (hU:Nat.ble (len*sz) (2 ^ 24)=true) (fK:(Array.range (len*sz)).map (fun i=>z.cells[i % z.cells.size]!)=qF.toArray)
  (gv:kJ x ps pl) (hj:pl.all (fun p=>l9 p.2)=true) (hd:og (fun i=>some (i*sz,sz)) (qF.map .v) pl=some ds)
  (k:∀b,AD P C ops S1 T fuel (ld.setIfInBounds i true) ⟨x.n,(tt,.v (.slice (some ⟨b,0,none⟩) len len))::x.env,⟨b,e,ds.length,ds⟩::x.S⟩ Q) (hne:isMap e=false:=by rfl):ig P C ops S1 T fuel ld x Q i:=by
 refine L6 hi hw (LF (hne:=hne) (zs:=qF.map .v) (ds:=ds) ho kL hz E hs (Nat.le_of_ble_eq_true hl) (Nat.le_of_ble_eq_true hU) ?_ ?_ ?_ ?_) ?_
 ·rw[fK];congr 1;rw[map_map];exact(map_id qF).symm
 ·intro d hd;obtain⟨u,_,rfl⟩:=mem_map.1 hd;exact⟨u,rfl⟩
 ·rw[gv.eq];exact Dx hj
 ·rw[gv.eq];exact hd
 rintro _ ⟨b,rfl⟩;exact k b
theorem ig.store {t:TypeId} {k b o' n:Nat} {B:ag} {d:D} {cs':List D} {y z:Operand} (hi:ops[i]?=some o) (hw:cH ops x o true) (ho:o.op = .store t y z) (kL:o.dst=none) (hy:aK x y = .v (.pointer (some ⟨b,o',none⟩)))
  (hk:x.S[k]?=some B) (hb:B.b=b) (hz:aK x z=d) (hj:l9 d=true) (h1:(cellsOf d).all one=true) (hn:∀w,(sizeOf t).run P w = .ok n w) (iv:(cellsOf d).length=n) (hl:Nat.ble (o'+n) B.cs.length=true) (dP:dY B.cs o' (cellsOf d)=cs')
  (hT:∀b∈T,b∈aq (x.S.eraseIdx k))
  (K:AD P C ops S1 T fuel (ld.setIfInBounds i true) ⟨x.n,x.env,x.S.set k {B with cs:=cs'}⟩ Q) (hne:isMap B.e=false:=by rfl):ig P C ops S1 T fuel ld x Q i :=
 ig.gN hi hw (Hz (hne:=hne) ho kL hy hk hb hz (fun h=>by rw[h] at hj;cases hj) h1 hn iv (Nat.le_of_ble_eq_true hl) dP) (fun C a w hs I E=>hb ▸ J3 hs hk hT I E) (fun I E=>by
  have:I=b:=(by simpa using E)
  subst this;rw[<-hb];exact Ed hk) fun y hy=>hy ▸ K
theorem Dv {f:Nat} {args:List D} {r:D} (hi:ops[i]?=some o) (hw:cH ops x o true) (ho:o.op = .call {callee:=.value fo,args:=dR,argTypes:=ts}) (hd:o.dst=some t)
  (hf:fo = .func f) (fY:∀args w,(callFunc f args).run P w = .ok (.enter f args) w) (hc:VP P C.G f args r) (ha:om x dR.toList args)
  (K:AD P C ops S1 T fuel (ld.setIfInBounds i true) (x.put t r) Q):ig P C ops S1 T fuel ld x Q i :=
 L6 hi hw (DR ho hd hf fY ha.eq (fj _) hc) fun y ⟨E,S',⟨h1,h2⟩,hy⟩=>by subst h1 h2;exact hy ▸ K
theorem lq {f:Nat} {args:List D} {Sf R:List ag} {post:D->List ag->Prop} (hi:ops[i]?=some o) (hw:cH ops x o true) (ho:o.op = .call {callee:=.value fo,args:=dR,argTypes:=ts}) (hd:o.dst=some t)
  (hf:fo = .func f) (fY:∀args w,(callFunc f args).run P w = .ok (.enter f args) w) (hc:VC P C.G f args Sf post) (ha:om x dR.toList args) (hp:x.S.Perm (Sf++R)) (hT:∀b∈T,b∈aq R)
  (K:∀r S',post r S'->AD P C ops S1 T fuel (ld.setIfInBounds i true) ⟨x.n,(t,r)::x.env,S'++R⟩ Q):ig P C ops S1 T fuel ld x Q i :=
 ig.gN hi hw (DR ho hd hf fY ha.eq hp hc) (fun C a w hs b hb hm=>by
  have h1:(aq x.S).Perm (aq Sf++aq R):=(by have:=hp.map ag.b;simpa[aq] using this)
  have h2:=h1.nodup_iff.1 hs.own.apart;exact(nodup_append.1 h2).2.2 b hm b (hT b hb) rfl) (fun b hb=>by
  have h1:(aq x.S).Perm (aq Sf++aq R):=(by have:=hp.map ag.b;simpa[aq] using this)
  exact h1.symm.subset (mem_append_left _ hb)) fun y ⟨r,S',h,hy⟩=>hy ▸ K r S' h
theorem ig.append {s y:Operand} {t e tt sz bytes n m b cap k:Nat} {z:Value} {B:ag} {cs:List D} (KV:ops[i]?=some o) (hw:cH ops x o true) (ho:o.op = .call {callee:=.builtin .append,args:=#[s,y],argTypes:=#[t,t]}) (hd:o.dst=some tt)
  (ht:P.underlying t=some (.slice e)) (hi:(P.info? e).map (fun i=>(i.zero,i.size,i.bytes))=some (some z,sz,bytes)) (fK:z.cells.size=sz) (mL:0<sz)
  (hs:aK x s = .v (.slice (some ⟨b,0,none⟩) n cap)) (hk:x.S[k]?=some B) (hb:B.b=b) (he:B.e=e) (O:B.size=cap*sz) (hl:B.cs.length=n*sz) (hn:n<=cap) (Z:cap<=maxLen)
  (hy:aK x y = .list sz cs m) (ji:∀d∈cs,one d=true) (hm:0<m) (lX:n+m<=maxLen) (E:(n+m)*bytes<=140737488355328) (hT:∀b∈T,b∈aq (x.S.eraseIdx k))
  (K:∀I bj,n+m<=bj->bj<=maxLen->AD P C ops S1 T fuel (ld.setIfInBounds i true) ⟨x.n,(tt,.v (.slice (some ⟨I,0,none⟩) (n+m) bj))::x.env,⟨I,e,bj*sz,B.cs++cs⟩::x.S.eraseIdx k⟩ Q) (hne:isMap B.e=false:=by rfl):ig P C ops S1 T fuel ld x Q i :=
 ig.gN KV hw (T5 (hne:=hne) ho hd ht hi fK mL hs hk hb he O hl hn Z hy ji hm lX E) (fun C a w hs I U=>hb ▸ J3 hs hk hT I U) (fun I U=>by
  have:I=b:=(by simpa using U)
  subst this;rw[<-hb];exact Ed hk) fun y ⟨I,bj,h1,h2,hy⟩=>hy ▸ K I bj h1 h2
theorem aen {s y:Operand} {e tt sz bytes m:Nat} {z:Value} {cs:List D} (O:ops[i]?=some o) (hw:cH ops x o true) (ho:o.op = .call {callee:=.builtin .append,args:=#[s,y],argTypes:=#[t,t]}) (hd:o.dst=some tt)
  (ht:P.underlying t=some (.slice e)) (hi:(P.info? e).map (fun i=>(i.zero,i.size,i.bytes))=some (some z,sz,bytes)) (fK:z.cells.size=sz) (U:0<sz)
  (hs:aK x s = .v (.slice none 0 0)) (hy:aK x y = .list sz cs m) (ji:∀d∈cs,one d=true) (hm:0<m) (Z:m<=maxLen) (E:m*bytes<=140737488355328)
  (K:∀I bj,m<=bj->bj<=maxLen->AD P C ops S1 T fuel (ld.setIfInBounds i true) ⟨x.n,(tt,.v (.slice (some ⟨I,0,none⟩) m bj))::x.env,⟨I,e,bj*sz,cs⟩::x.S⟩ Q) (hne:isMap e=false:=by rfl):ig P C ops S1 T fuel ld x Q i :=
 L6 O hw (TB (hne:=hne) ho hd ht hi fK U hs hy ji hm Z E) fun y ⟨I,bj,h1,h2,hy⟩=>hy ▸ K I bj h1 h2
end
section
variable {P:Program} {C:ey} {G:List (Nat×List Value)} {Q:Exit->St->Prop} {x:St} {ops:Array Oper} {l:List Oper} {o:Oper} {S1 T:List Nat} {fuel i:Nat} {ld:Array Bool}
variable {S Sq S' R:List ag} {sz k n cap b tt m:Nat} {B:ag} {t e:TypeId} {y:Operand} {ad:Option Addr} {cs':List D}
def View(S:List ag)(d d':D):Prop:=∀(X Y:Nat->Prop) w v,(∀b,Y b->X b)->(∀b,X b->b∉aq S)->Own w (live X S) S->cG w (live X S) d v->cG w Y d' v
theorem cG.bare{w:World}{X Y:Nat->Prop}{d:D}{v:Value}(h:cG w (live X S) d v)(E:∀b,Y b->X b):cG w Y d v:=h.mono fun b _ hn=>⟨rfl,fun hy=>hn (.inl (E b hy))⟩
theorem fN{d:D}:View S d d:=fun X Y w v E _ _ h=>h.bare E
theorem Bw:View S (.v (.slice none 0 0)) (.list sz [] 0):=fun X Y w v _ _ _ h=>by rw[h.mi];exact .nil sz
theorem ah1{cs:List D}(hk:S[k]?=some B)(hb:B.b=b)(dP:B.cs=cs)(hl:cs.length=n*sz)(h1:n<=cap)(h2:cap<=maxLen)(hne:isMap B.e=false:=by rfl):View S (.v (.slice (some ⟨b,0,none⟩) n cap)) (.list sz cs n):=fun X Y w v E O ho h=>by
 subst hb dP;rw[h.mi];obtain⟨r0,cur,r1,r2,r3,I⟩:=ho.at_ B (mem_of_getElem? hk);rw[lO hne] at r1;refine .list sz B.cs n B.b 0 cap (fun i=>cur.getD i undef) hl h1 h2 r0 (fun hy=>O _ (E _ hy) (mem_map.2 ⟨B,mem_of_getElem? hk,rfl⟩)) (fun i hi=>?_) (fun i hi=>?_)
 ·obtain⟨u,hu,_⟩:=I i hi;rw[Nat.zero_add,pT r1 hu];simp[hu]
 obtain⟨u,hu,hq⟩:=I i hi;simp only[Array.getD_eq_getD_getElem?,hu,Option.getD_some];exact hq.bare E
def iO(S:List ag):List D->List D->Prop
 | [],[]=>True
 | d::r,d'::r'=>View S d d'/\iO S r r'
 | _,_=>False
theorem iO.spec{S:List ag}:∀{ds E:List D},iO S ds E->ds.length=E.length/\∀i (h:i<ds.length) (h':i<E.length),View S ds[i] E[i]
 | [],[],_=>⟨rfl,fun i h=>by simp at h⟩
 | d::r,d'::r',h=>⟨by simp[(iO.spec h.2).1],fun i h1 h2=>by
  cases i with
  | zero=>exact h.1
  | succ i=>exact(iO.spec h.2).2 i _ _⟩
 | [],_::_,h=>h.elim
 | _::_,[],h=>h.elim
theorem xz{ds E:List D}(h:iO S ds E):View S (.agg ds) (.agg E):=fun X Y w v O U ho hr=>by
 obtain⟨h1,h2⟩:=h.spec;cases hr with
 | agg _ vs hl I=>exact .agg E vs w4 fun i q1 q2=>h2 i w4 q1 X Y w _ O U ho (I i w4 q2)
def Looks(x:St):List Operand->List D->Prop
 | [],[]=>True
 | o::r,d::r'=>(∃d0,aK x o=d0/\View x.S d0 d)/\Looks x r r'
 | _,_=>False
theorem Looks.F4{C:ey}{a:Act}{w:World}(h:cf C x a w):∀{os:List Operand} {ds:List D},Looks x os ds->cX w (fun _=>False) ds (os.map a.eval)
 | [],[],_=>⟨rfl,fun i h=>by simp at h⟩
 | o::r,d::r',⟨⟨d0,h1,h2⟩,h3⟩=>cX.cons (h2 _ _ _ _ (fun _ hf=>hf.elim) h.C9 h.own (h1 ▸ h.eval o)) (Looks.F4 h h3)
 | [],_::_,h=>h.elim
 | _::_,[],h=>h.elim
theorem HV{ds E:List D}(h:iO S ds E):View S (.dF ds) (.dF E):=fun X Y w v O U ho hr=>by
 obtain⟨h1,h2⟩:=h.spec;cases hr with
 | dF _ vs hl I=>exact .dF E vs w4 fun i q1 q2=>h2 i w4 q1 X Y w _ O U ho (I i w4 q2)
theorem VC.cover{f:FuncId}{args:List D}{post:D->List ag->Prop}{E:D}(h:VC P G f args [] post)(hv:∀r S',post r S'->View S' r E):VP P G f args E:=fun X w vs hp =>
 (h X w vs hp).mono fun e w' ⟨v,r,S',h1,h2,h3,h4,h5⟩=>by
  have I:∀b,X b->b∉aq S':=fun b hb=>(h5.block b (hp.ex b hb).1 (hp.ex b hb).2).2;refine⟨v,E,[],h1,⟨rfl,rfl⟩,⟨fun B hB=>by simp at hB,by simp[aq]⟩,hv r S' h2 X _ w' v (fun b hb=>?_) I h3 h4,⟨h5.os,h5.tape,h5.output,h5.size,fun b hb hn=>⟨(h5.block b hb hn).1,by simp[aq]⟩⟩⟩;rcases hb with hb|hb
  ·exact hb
  simp[aq] at hb
def mE:D->Bool
 | .v _=>true
 | .dF cs=>cs.all fun d=>match d with|.v _=>true|.agg es=>es.all (fun e=>match e with|.v _=>true|_=>false)|_=>false
 | .agg cs=>cs.all fun d=>match d with|.v _=>true|_=>false
 | _=>false
theorem cG.flat{w w':World}{L I:Nat->Prop}{d:D}{v:Value}(h:cG w L d v)(hf:mE d=true):cG w' I d v:=by
 have key:∀(d:D),(match d with|.v _=>true|_=>false)=true->∀v,cG w L d v->cG w' I d v:=fun d hd v h=>by
  cases d<;>simp at hd
  rw[h.mi];exact .v _
 have E:∀(d:D),(match d with|.v _=>true|.agg es=>es.all (fun e=>match e with|.v _=>true|_=>false)|_=>false)=true->∀v,cG w L d v->cG w' I d v:=fun d hd v h=>by
  cases d<;>simp at hd
  ·rw[h.mi];exact .v _
  cases h with
  | agg _ vs hl hr=>exact .agg _ vs hl fun i h1 h2=>key _ (by have:=hd _ (getElem_mem h1);simpa using this) _ (hr i h1 h2)
 cases h with
 | v=>exact .v _
 | dF cs vs hl hr=>exact .dF cs vs hl fun i h1 h2=>E _ (all_eq_true.1 hf _ (getElem_mem h1)) _ (hr i h1 h2)
 | agg cs vs hl hr=>exact .agg cs vs hl fun i h1 h2=>key _ (all_eq_true.1 hf _ (getElem_mem h1)) _ (hr i h1 h2)
 | _=>cases hf
theorem agl{t':TypeId}{cs:List D}{z:Operand}(ho:o.op = .binOp .eql t y z t')(hd:o.dst=some tt)(hy:aK x y = .list sz cs n)(hz:aK x z = .v (.slice none 0 0))(ht:P.underlying t=some (.slice e)) :
  gL P G x o [] (fun s=>∃b:Bool,(b=true->n=0/\cs=[])/\s=x.put tt (.v (.bool b))):=fun C a w K Q hG h hK=>by
 have hr:=h.eval y;rw[hy] at hr;generalize hg:a.eval y=u at hr;have E:∀ad len cap,u = .slice ad len cap->(execOp a.eval o).run P w = .ok (.value (.bool ad.isNone)) w:=fun ad len cap I=>by
  subst I;unfold execOp;have e1:binOp .eql t (.slice ad len cap) (.slice none 0 0)=(do pure (.bool (<-Op.equal t (.slice ad len cap) (.slice none 0 0)))):=rfl;simp only[ho,hg,h.flat hz,eqGuard,e1,Sem.run_bind];simp[run_equal_slice_nil w t e ad len cap ht]
 unfold Oper.wp;cases hr with
 | nK _ ad cap =>
  rw[E ad 0 cap rfl,Oper.upon_value,hd];exact hK _ _ _ ⟨ad.isNone,fun _=>⟨rfl,rfl⟩,rfl⟩ (h.put (.v _)) (nT.refl _ _) (Fr.refl _ _)
 | list _ _ _ b o' cap f hl q1 q2 hb hL hc O =>
  rw[E (some ⟨b,o',none⟩) n cap rfl,Oper.upon_value,hd];exact hK _ _ _ ⟨false,(fun U=>absurd U bC),rfl⟩ (h.put (.v _)) (nT.refl _ _) (Fr.refl _ _)
theorem Bx {t':TypeId} {cs:List D} {z:Operand} (hw:cH ops x o true) (ho:o.op = .binOp .eql t y z t') (hd:o.dst=some tt) (hy:aK x y = .list sz cs n) (hz:aK x z = .v (.slice none 0 0)) (ht:P.underlying t=some (.slice e))
  (K:∀b:Bool,(b=true->n=0/\cs=[])->OD P C ops l (x.put tt (.v (.bool b))) Q):OD P C ops (o::l) x Q :=
 OD.gN hw (agl ho hd hy hz ht) fun y ⟨b,hb,hy⟩=>hy ▸ K b hb
theorem agm(ho:o.op = .buildSlice t 0 #[])(kL:o.dst=some tt)(E:∀w,(underlying t).run P w = .ok (.slice e) w)(hs:∀w,(sizeOf e).run P w = .ok sz w)(hne:isMap e=false:=by rfl) :
  gL P G x o [] (fun s=>∃b,s=⟨x.n,(tt,.v (.slice (some ⟨b,0,none⟩) 0 0))::x.env,⟨b,e,0*sz,[]⟩::x.S⟩):=fun C a w K Q hG h hK=>by
 unfold Oper.wp;have:(execOp a.eval o).run P w = .ok (.value (.slice (some ⟨w.heap.size,0,none⟩) 0 0)) (w.alloc (.cells #[] e)):=by
  unfold execOp;have I:Array.map (fun x=>(default:Value)) (Array.range 0) = #[]:=Array.eq_empty_of_size_eq_zero bC;simp[ho,Instr.buildSlice,E,hs,Instr.fill,newRow,I]
 rw[this,Oper.upon_value,kL];exact hK _ _ _ ⟨w.heap.size,rfl⟩ (h.new (hne:=hne) (ds:=[]) (cX.nil _ _) bC (fun L=>.v _)) (nT.alloc _ _) (Fr.alloc _ _ _)
theorem By (hw:cH ops x o true) (ho:o.op = .buildSlice t 0 #[]) (kL:o.dst=some tt) (E:∀w,(underlying t).run P w = .ok (.slice e) w) (hs:∀w,(sizeOf e).run P w = .ok sz w)
  (K:∀b,OD P C ops l ⟨x.n,(tt,.v (.slice (some ⟨b,0,none⟩) 0 0))::x.env,⟨b,e,0*sz,[]⟩::x.S⟩ Q) (hne:isMap e=false:=by rfl):OD P C ops (o::l) x Q :=
 OD.gN hw (agm (hne:=hne) ho kL E hs) fun y ⟨b,hy⟩=>hy ▸ K b
def bF(e sz:Nat)(cs:List D)(n:Nat)(ad:Option Addr)(cap:Nat)(S:List ag):Prop :=
 (n=0/\cs=[]/\ad=none/\cap=0/\S=[])\/∃b,ad=some ⟨b,0,none⟩/\n<=cap/\cap<=maxLen/\S=[⟨b,e,cap*sz,cs⟩]
theorem n8{e:Nat}{cs:List D}(h:bF e sz cs n ad cap Sq)(hl:cs.length=n*sz)(hs:∀B∈Sq,B∈S)(hne:isMap e=false:=by rfl):View S (.v (.slice ad n cap)) (.list sz cs n):=by
 rcases h with ⟨rfl,rfl,rfl,rfl,rfl⟩|⟨b,rfl,h1,h2,rfl⟩
 ·exact Bw
 obtain⟨k,hk,he⟩:=mem_iff_getElem.1 (hs _ mem_cons_self);exact ah1 (hne:=hne) (k:=k) (by rw[getElem?_eq_getElem hk,he]) rfl rfl hl h1 h2
theorem bF.le{e:Nat}{cs:List D}(h:bF e sz cs n ad cap S):n<=cap:=by
 rcases h with ⟨rfl,_,_,rfl,_⟩|⟨_,_,h,_⟩
 ·exact Nat.le_refl _
 exact h
theorem Wk.perm{env:List (Nat×D)}(hp:S.Perm S'):Wk ⟨n,env,S⟩ ⟨n,env,S'⟩:=fun C a w h=>by
 have hb:(aq S).Perm (aq S'):=hp.map ag.b;have hl:live C.X S=live C.X S':=(by funext b;exact propext (or_congr Iff.rfl hb.mem_iff))
 have E:=h.env;have fQ:=h.own;simp only[hl] at E fQ;exact⟨h.defers,h.size,E,⟨fun B hB=>fQ.at_ B (hp.symm.subset hB),hb.nodup_iff.1 fQ.apart⟩,
  ⟨h.fr.os,h.fr.tape,h.fr.output,h.fr.size,fun b h1 h2=>⟨(h.fr.block b h1 h2).1,fun hm=>(h.fr.block b h1 h2).2 (hb.symm.subset hm)⟩⟩,h.ex,h.fE⟩
theorem cg(hp:x.S.Perm S')(k:OD P C ops l ⟨x.n,x.env,S'⟩ Q):OD P C ops l x Q:=fF (Wk.perm hp) k
theorem gS(hp:x.S.Perm S')(k:AD P C ops S1 T fuel ld ⟨x.n,x.env,S'⟩ Q):AD P C ops S1 T fuel ld x Q:=HT (Wk.perm hp) (fun b hb=>(hp.map ag.b).symm.subset hb) k
theorem rE{c:Code}(hp:x.S.Perm S')(k:CD P C c ⟨x.n,x.env,S'⟩ Q):CD P C c x Q:=kX (Wk.perm hp) k
theorem Wk.cover{l:List (Nat×D)}{Sd:List ag}{A:ag}(hp:S.Perm ((A::R)++Sd))(hv:iO Sd A.cs cs'):Wk ⟨n,l,S⟩ ⟨n,l,{A with cs:=cs'}::R⟩:=fun C a w h0=>by
 have h:=Wk.perm hp C a w h0;have hd:cf C ⟨n,l,A::R⟩ a w:=Wk.drop n l _ (A::R) (sublist_append_left _ _) C a w h;obtain⟨v1,v2⟩:=hv.spec;have O:live C.X ({A with cs:=cs'}::R)=live C.X (A::R):=rfl;have hL:live C.X ((A::R)++Sd)=live (fun b=>live C.X (A::R) b) Sd:=by
  funext b;simp only[live,aq,map_append,mem_append];exact propext or_assoc.symm
 have hnd:(aq (A::R)++aq Sd).Nodup:=(by have:=h.own.apart;simpa[aq] using this)
 have U:∀b,live C.X (A::R) b->b∉aq Sd:=fun b hb hm=>by
  rcases hb with hb|hb
  ·exact h.C9 b hb (by simp only[aq,map_append,mem_append] at hm |-;exact .inr hm)
  exact(nodup_append.1 hnd).2.2 b hb b hm rfl
 have E:Own w (live (fun b=>live C.X (A::R) b) Sd) Sd:=⟨fun B hB=>by rw[<-hL];exact h.own.at_ B (mem_append_right _ hB),(nodup_append.1 hnd).2.1⟩
 refine⟨hd.defers,hd.size,hd.env,⟨fun B hB=>?_,hd.own.apart⟩,hd.fr,hd.ex,hd.fE⟩;rcases mem_cons.1 hB with rfl|hB
 ·obtain⟨r0,cur,r1,r2,r3,Z⟩:=h.own.at_ A (mem_append_left _ mem_cons_self);refine⟨r0,cur,r1,r2,by rw[<-v1];exact r3,fun i hi=>?_⟩;have I:i<A.cs.length:=(by rw[v1];exact hi)
  obtain⟨u,hu,hq⟩:=Z i I;refine⟨u,hu,v2 i I hi (fun b=>live C.X (A::R) b) _ w u (fun b hb=>hb) U E ?_⟩;rw[<-hL];exact hq
 exact hd.own.at_ B (mem_cons_of_mem _ hB)
theorem OD.cover{R Sd:List ag}{A:ag}{cs':List D}(hp:x.S.Perm ((A::R)++Sd))(hv:iO Sd A.cs cs')(k:OD P C ops l ⟨x.n,x.env,{A with cs:=cs'}::R⟩ Q):OD P C ops l x Q:=fF (Wk.cover hp hv) k
theorem Hl(hk:S[k]?=some B)(hp:S.Perm (B::R)):(S.eraseIdx k).Perm R:=((xu hk).symm.trans hp).cons_inv
theorem ajI {t:Nat} {cs:List D} (hk:x.S[k]?=some B) (ht:V.look t x.env = .v (.slice (some ⟨b,0,none⟩) m cap)) (hb:B.b=b) (dP:B.cs=cs) (hl:cs.length=m*sz) (h1:m<=cap) (h2:cap<=maxLen)
  (K:OD P C ops l ⟨x.n,(t,.list sz cs m)::x.env,x.S.eraseIdx k⟩ Q) (hne:isMap B.e=false:=by rfl):OD P C ops l x Q:=by
 subst hb;exact fF (Wk.J1 (hne:=hne) (n:=x.n) (l:=x.env) (S:=x.S) hk ht dP hl h1 h2) K
theorem ajJ {t:Nat} {cs:List D} (hk:x.S[k]?=some B) (ht:V.look t x.env = .v (.slice (some ⟨b,0,none⟩) m cap)) (hb:B.b=b) (dP:B.cs=cs) (hl:cs.length=m*sz) (h1:m<=cap) (h2:cap<=maxLen)
  (K:AD P C ops S1 T fuel ld ⟨x.n,(t,.list sz cs m)::x.env,x.S.eraseIdx k⟩ Q) (hne:isMap B.e=false:=by rfl):AD P C ops S1 T fuel ld x Q:=by
 subst hb;exact HT (Wk.J1 (hne:=hne) (n:=x.n) (l:=x.env) (S:=x.S) hk ht dP hl h1 h2) (fun b hb=>(Sublist.map ag.b (eraseIdx_sublist x.S k)).subset hb) K
theorem aeP {s:Operand} {t e bytes:Nat} {z:Value} {cs new:List D} (hw:cH ops x o true) (ho:o.op = .call {callee:=.builtin .append,args:=#[s,y],argTypes:=#[t,t]}) (hd:o.dst=some tt)
  (ht:P.underlying t=some (.slice e)) (hi:(P.info? e).map (fun i=>(i.zero,i.size,i.bytes))=some (some z,sz,bytes)) (fK:z.cells.size=sz) (O:0<sz)
  (hs:aK x s = .v (.slice ad n cap)) (Z:bF e sz cs n ad cap Sq) (hp:x.S.Perm (Sq++R)) (hl:cs.length=n*sz)
  (hy:aK x y = .list sz new m) (ji:∀d∈new,one d=true) (hm:0<m) (lX:n+m<=maxLen) (E:(n+m)*bytes<=140737488355328)
  (K:∀I bj,n+m<=bj->bj<=maxLen->OD P C ops l ⟨x.n,(tt,.v (.slice (some ⟨I,0,none⟩) (n+m) bj))::x.env,⟨I,e,bj*sz,cs++new⟩::R⟩ Q) (hne:isMap e=false:=by rfl):OD P C ops (o::l) x Q:=by
 rcases Z with ⟨rfl,rfl,rfl,rfl,rfl⟩|⟨b,rfl,h1,h2,rfl⟩
 ·refine aeO (hne:=hne) hw ho hd ht hi fK O hs hy ji hm w4 (by rw[Nat.zero_add] at E;exact E) fun I bj q1 q2=>?_;have:=K I bj w4 q2;rw[Nat.zero_add] at this;exact fF (Wk.perm (hp.cons _)) this
 obtain⟨k,hk,he⟩:=mem_iff_getElem.1 (hp.symm.subset (mem_append_left _ mem_cons_self));have U:x.S[k]?=some (⟨b,e,cap*sz,cs⟩:ag):=(by rw[getElem?_eq_getElem hk,he])
 refine OD.append (hne:=hne) hw ho hd ht hi fK O hs U rfl rfl rfl hl h1 h2 hy ji hm lX E fun I bj q1 q2=>?_;exact fF (Wk.perm ((Hl U hp).cons _)) (K I bj q1 q2)
theorem Tu {s:Operand} {t e bytes:Nat} {z:Value} {cs new:List D} (U:ops[i]?=some o) (hw:cH ops x o true) (ho:o.op = .call {callee:=.builtin .append,args:=#[s,y],argTypes:=#[t,t]}) (hd:o.dst=some tt)
  (ht:P.underlying t=some (.slice e)) (hi:(P.info? e).map (fun i=>(i.zero,i.size,i.bytes))=some (some z,sz,bytes)) (fK:z.cells.size=sz) (Z:0<sz)
  (hs:aK x s = .v (.slice ad n cap)) (Db:bF e sz cs n ad cap Sq) (hp:x.S.Perm (Sq++R)) (hl:cs.length=n*sz)
  (hy:aK x y = .list sz new m) (ji:∀d∈new,one d=true) (hm:0<m) (lX:n+m<=maxLen) (E:(n+m)*bytes<=140737488355328) (hT:∀b∈T,b∈aq R)
  (K:∀O bj,n+m<=bj->bj<=maxLen->AD P C ops S1 T fuel (ld.setIfInBounds i true) ⟨x.n,(tt,.v (.slice (some ⟨O,0,none⟩) (n+m) bj))::x.env,⟨O,e,bj*sz,cs++new⟩::R⟩ Q) (hne:isMap e=false:=by rfl):ig P C ops S1 T fuel ld x Q i:=by
 rcases Db with ⟨rfl,rfl,rfl,rfl,rfl⟩|⟨b,rfl,h1,h2,rfl⟩
 ·refine aen (hne:=hne) U hw ho hd ht hi fK Z hs hy ji hm w4 (by rw[Nat.zero_add] at E;exact E) fun O bj q1 q2=>?_;have:=K O bj w4 q2;rw[Nat.zero_add] at this;exact HT (Wk.perm (hp.cons _)) (fun b hb=>((hp.cons _).map ag.b).symm.subset hb) this
 obtain⟨k,hk,he⟩:=mem_iff_getElem.1 (hp.symm.subset (mem_append_left _ mem_cons_self));have I:x.S[k]?=some (⟨b,e,cap*sz,cs⟩:ag):=(by rw[getElem?_eq_getElem hk,he])
 refine ig.append (hne:=hne) U hw ho hd ht hi fK Z hs I rfl rfl rfl hl h1 h2 hy ji hm lX E (fun b hb=>((Hl I hp).map ag.b).symm.subset (hT b hb)) fun O bj q1 q2=>?_;exact HT (Wk.perm ((Hl I hp).cons _)) (fun b hb=>(((Hl I hp).cons _).map ag.b).symm.subset hb) (K O bj q1 q2)
theorem pn {o':Nat} {d:D} {z:Operand} (hw:cH ops x o true) (ho:o.op = .store t y z) (kL:o.dst=none) (hy:aK x y = .v (.pointer (some ⟨b,o',none⟩)))
  (hk:x.S[k]?=some B) (hb:B.b=b) (hz:aK x z=d) (hj:l9 d=true) (h1:(cellsOf d).all one=true) (hn:∀w,(sizeOf t).run P w = .ok n w) (iv:(cellsOf d).length=n) (hl:o'+n<=B.cs.length) (dP:dY B.cs o' (cellsOf d)=cs')
  (K:OD P C ops l ⟨x.n,x.env,x.S.set k {B with cs:=cs'}⟩ Q) (hne:isMap B.e=false:=by rfl):OD P C ops (o::l) x Q :=
 OD.gN hw (Hz (hne:=hne) ho kL hy hk hb hz (fun h=>by rw[h] at hj;cases hj) h1 hn iv hl dP) fun y hy=>hy ▸ K
theorem xo {o':Nat} {d:D} {z:Operand} (hi:ops[i]?=some o) (hw:cH ops x o true) (ho:o.op = .store t y z) (kL:o.dst=none) (hy:aK x y = .v (.pointer (some ⟨b,o',none⟩)))
  (hk:x.S[k]?=some B) (hb:B.b=b) (hz:aK x z=d) (hj:l9 d=true) (h1:(cellsOf d).all one=true) (hn:∀w,(sizeOf t).run P w = .ok n w) (iv:(cellsOf d).length=n) (hl:o'+n<=B.cs.length) (dP:dY B.cs o' (cellsOf d)=cs')
  (hT:∀b∈T,b∈aq (x.S.eraseIdx k))
  (K:AD P C ops S1 T fuel (ld.setIfInBounds i true) ⟨x.n,x.env,x.S.set k {B with cs:=cs'}⟩ Q) (hne:isMap B.e=false:=by rfl):ig P C ops S1 T fuel ld x Q i :=
 ig.gN hi hw (Hz (hne:=hne) ho kL hy hk hb hz (fun h=>by rw[h] at hj;cases hj) h1 hn iv hl dP) (fun C a w hs I E=>hb ▸ J3 hs hk hT I E) (fun I E=>by
  have:I=b:=(by simpa using E)
  subst this;rw[<-hb];exact Ed hk) fun y hy=>hy ▸ K
end
section
variable {P:Program} {G:List (Nat×List Value)} {x:St} {o:Oper} {S:List ag}
variable {y:Operand} {d0:D} {k b o' n sz i j cap h' l':Nat} {t e:TypeId} {B:ag} {α:Type} {ad:Option Addr} {lo hi:Option Operand} {l:List Oper} {Q:Exit->St->Prop} {ops:Array Oper} {cs':List D}
def R1(P:Program)(G:List (Nat×List Value))(S:List ag)(mk:Operand->Op)(d0:D)(k:Rd)(d:D):Prop:=∀x o y,o.op=mk y->aK x y=d0->x.S=S->cu P G x o k d
theorem ez{mk:Operand->Op}{d:D}{k:Rd}(ho:o.op=mk y)(hy:aK x y=d0)(H:R1 P G x.S mk d0 k d):cu P G x o k d:=H x o y ho hy rfl
def R2(P:Program)(G:List (Nat×List Value))(S:List ag)(mk:Operand->Operand->Op)(d0 d1:D)(k:Rd)(d:D):Prop:=∀x o y z,o.op=mk y z->aK x y=d0->aK x z=d1->x.S=S->cu P G x o k d
theorem ny{mk:Operand->Operand->Op}{z:Operand}{d1 d:D}{k:Rd}(ho:o.op=mk y z)(hy:aK x y=d0)(hz:aK x z=d1)(H:R2 P G x.S mk d0 d1 k d):cu P G x o k d:=H x o y z ho hy hz rfl
theorem B3{t:Nat}{d:D}(hk:S[k]?=some B)(hb:B.b=b)(ha:∀w,(isAgg t).run P w = .ok false w)(hd:B.cs[o']?=some d)(hne:isMap B.e=false:=by rfl):R1 P G S (Op.load t) (.v (.pointer (some ⟨b,o',none⟩))) (.gh k) d:=fun x o y ho hy hS=>Hg (hne:=hne) ho hy (hS ▸ hk) hb ha hd
theorem rD{t:Nat}{ds:List D}(hk:S[k]?=some B)(hb:B.b=b)(ha:∀w,(isAgg t).run P w = .ok true w)(hn:∀w,(sizeOf t).run P w = .ok n w)(hl:ds.length=n)(hd:(B.cs.drop o').take n=ds)(hne:isMap B.e=false:=by rfl):R1 P G S (Op.load t) (.v (.pointer (some ⟨b,o',none⟩))) (.gh k) (.agg ds):=fun x o y ho hy hS=>Dw (hne:=hne) ho hy (hS ▸ hk) hb ha hn hl hd
theorem E7{t:Nat}{cs:List D}{d:D}(ha:∀w,(isAgg t).run P w = .ok false w)(hd:cs[o']?=some d):R1 P G S (Op.load t) (.gm cs o') .kP d:=fun x o y ho hy _=>G9 ho hy ha hd
theorem rL{t:Nat}{cs ds:List D}(ha:∀w,(isAgg t).run P w = .ok true w)(hn:∀w,(sizeOf t).run P w = .ok n w)(hl:ds.length=n)(hd:(cs.drop o').take n=ds):R1 P G S (Op.load t) (.gm cs o') .kP (.agg ds):=fun x o y ho hy _=>LG ho hy ha hn hl hd
theorem xR{g:α->List D}{t:Nat}{ls:List α}{d:D}(hg:∀a,(g a).length=sz)(ha:∀w,(isAgg t).run P w = .ok false w)(hi:i<ls.length)(hd:(g ls[i])[j]?=some d):R1 P G S (Op.load t) (.gm (ls.flatMap g) (i*sz+j)) .kP d:=E7 ha (BS hg hi hd)
theorem uf{g:α->List D}{t:Nat}{ls:List α}{d:D}(hg:∀a,(g a).length=sz)(ha:∀w,(isAgg t).run P w = .ok false w)(hi:i<ls.length)(hd:(g ls[i])[0]?=some d):R1 P G S (Op.load t) (.gm (ls.flatMap g) (i*sz)) .kP d:=E7 ha (MT hg hi hd)
theorem jM{g:α->List D}{t:Nat}{ls:List α}(hg:∀a,(g a).length=sz)(ha:∀w,(isAgg t).run P w = .ok true w)(hn:∀w,(sizeOf t).run P w = .ok sz w)(hi:i<ls.length):R1 P G S (Op.load t) (.gm (ls.flatMap g) (i*sz)) .kP (.agg (g ls[i])):=rL ha hn (hg _) (Jl hg hi)
theorem alo{t:Nat}{vs:List Value}{v:Value}(hg:(b,vs)∈G)(ha:∀w,(isAgg t).run P w = .ok false w)(hd:vs[o']?=some v)(tr:ud v=true:=by rfl):R1 P G S (Op.load t) (.v (.pointer (some ⟨b,o',none⟩))) .kP (.v v):=fun x o y ho hy _=>ae2 ho hy hg ha hd tr
theorem mW{g:α->List D}{t:Nat}{ls:List α}{d:D}(hg:∀a,(g a).length=sz)(hk:S[k]?=some B)(hb:B.b=b)(dP:B.cs=ls.flatMap g)(ha:∀w,(isAgg t).run P w = .ok false w)(hi:i<ls.length)(hd:(g ls[i])[j]?=some d)(hne:isMap B.e=false:=by rfl):R1 P G S (Op.load t) (.v (.pointer (some ⟨b,0+i*sz+j,none⟩))) (.gh k) d :=
 B3 (hne:=hne) hk hb ha (by rw[dP,Nat.zero_add];exact BS hg hi hd)
theorem kV{g:α->List D}{t:Nat}{ls:List α}{d:D}(hg:∀a,(g a).length=sz)(hk:S[k]?=some B)(hb:B.b=b)(dP:B.cs=ls.flatMap g)(ha:∀w,(isAgg t).run P w = .ok false w)(hi:i<ls.length)(hd:(g ls[i])[0]?=some d)(hne:isMap B.e=false:=by rfl):R1 P G S (Op.load t) (.v (.pointer (some ⟨b,0+i*sz,none⟩))) (.gh k) d :=
 B3 (hne:=hne) hk hb ha (by rw[dP,Nat.zero_add];exact MT hg hi hd)
theorem dM{g:α->List D}{t:Nat}{ls:List α}(hg:∀a,(g a).length=sz)(hk:S[k]?=some B)(hb:B.b=b)(dP:B.cs=ls.flatMap g)(ha:∀w,(isAgg t).run P w = .ok true w)(hn:∀w,(sizeOf t).run P w = .ok sz w)(hi:i<ls.length)(hne:isMap B.e=false:=by rfl):R1 P G S (Op.load t) (.v (.pointer (some ⟨b,0+i*sz,none⟩))) (.gh k) (.agg (g ls[i])) :=
 rD (hne:=hne) hk hb ha hn (hg _) (by rw[dP,Nat.zero_add];exact Jl hg hi)
theorem Xo{len:Nat}{ts:Array TypeId}(ht:ts = #[t])(E:∀w,(underlying t).run P w = .ok (.slice e) w):R1 P G S (fun y=>.call {callee:=.builtin .len,args:=#[y],argTypes:=ts}) (.v (.slice ad len cap)) .none (.v (.int .i64 len)):=fun x o y ho hy _=>T4 ho ht hy E
theorem qj{len:Nat}{cs:List D}{k:IntKind}{i:Int}(E:∀w,(underlying t).run P w = .ok (.slice e) w)(hs:∀w,(sizeOf e).run P w = .ok sz w)(hi:i=j)(hj:j<len):R2 P G S (Op.indexAddr t) (.list sz cs len) (.v (.int k i)) .none (.gm cs (j*sz)):=fun x o y z ho hy hz _=>Ut ho hy hz E hs hi hj
theorem qp{len:Nat}{k:IntKind}{i:Int}(E:∀w,(underlying t).run P w = .ok (.slice e) w)(hs:∀w,(sizeOf e).run P w = .ok sz w)(hi:i=j)(hj:j<len):R2 P G S (Op.indexAddr t) (.v (.slice (some ⟨b,o',none⟩) len cap)) (.v (.int k i)) .none (.v (.pointer (some ⟨b,o'+j*sz,none⟩))):=fun x o y z ho hy hz _=>T3 ho hy hz E hs hi hj
theorem Et{len:Nat}{k:IntKind}{i:Int}(E:∀w,(underlying t).run P w = .ok (.array len e) w)(hs:∀w,(sizeOf e).run P w = .ok sz w)(hi:i=j)(hj:j<len):R2 P G S (Op.indexAddr t) (.v (.pointer (some ⟨b,o',none⟩))) (.v (.int k i)) .none (.v (.pointer (some ⟨b,o'+j*sz,none⟩))):=fun x o y z ho hy hz _=>afv ho hy hz E hs hi hj
def Bd(x:St)(y:Option Operand)(n:Nat):Prop:=match y with|some y=>∃(k:IntKind),aK x y = .v (.int k n)|none=>True
def Rs(P:Program)(G:List (Nat×List Value))(t:TypeId)(lo hi:Option Operand)(l h:Nat)(d0:D)(d:D):Prop:=∀x o y,o.op = .slice t y lo hi none->aK x y=d0->Bd x lo l->Bd x hi h->cu P G x o .none d
theorem fw{l h:Nat}{d:D}(ho:o.op = .slice t y lo hi none)(hy:aK x y=d0)(hl:Bd x lo l)(E:Bd x hi h)(H:Rs P G t lo hi l h d0 d):cu P G x o .none d:=H x o y ho hy hl E
theorem tV{y:Option Operand}{df:Nat}(h:Bd x y n)(hd:y=none->n=df):oO x y n df:=by
 cases y with
 | none=>exact hd rfl
 | some y=>obtain⟨k,hk⟩:=h;exact⟨k,_,hk,rfl⟩
theorem nC {g:α->List D} (hg:∀a,(g a).length=sz) {ls:List α} (fk:hi=none->h'=ls.length)
  (E:∀w,(underlying t).run P w = .ok (.slice e) w) (hs:∀w,(sizeOf e).run P w = .ok sz w) (h2:h'<=ls.length):Rs P G t lo hi 0 h' (.list sz (ls.flatMap g) ls.length) (.list sz ((ls.take h').flatMap g) (ls.take h').length):=fun x o y ho hy hl I =>
 ae7 hg ho hy (tV hl fun _=>rfl) (tV I fk) E hs h2
theorem BJ {g:α->List D} {ls:List α} (E:h'=ls.length) (hg:∀a,(g a).length=sz) (fA:lo=none->l'=0)
  (I:∀w,(underlying t).run P w = .ok (.slice e) w) (hs:∀w,(sizeOf e).run P w = .ok sz w) (h2:l'<=ls.length):Rs P G t lo none l' h' (.list sz (ls.flatMap g) ls.length) (.list sz ((ls.drop l').flatMap g) (ls.drop l').length):=fun x o y ho hy hl O=>by
 subst E;exact ae8 hg ho hy (tV hl fA) rfl I hs h2
theorem pU {len:Nat} {cs:List D} (fA:lo=none->l'=0) (fk:hi=none->h'=len)
  (E:∀w,(underlying t).run P w = .ok (.slice e) w) (hs:∀w,(sizeOf e).run P w = .ok sz w) (h1:l'<=h') (h2:h'<=len):Rs P G t lo hi l' h' (.list sz cs len) (.list sz ((cs.drop (l'*sz)).take ((h'-l')*sz)) (h'-l')):=fun x o y ho hy hl I =>
 LJ ho hy (tV hl fA) (tV I fk) E hs h1 h2
theorem qq {len:Nat} (fk:hi=none->h'=len)
  (E:∀w,(underlying t).run P w = .ok (.slice e) w) (hs:∀w,(sizeOf e).run P w = .ok sz w) (h2:h'<=cap):Rs P G t lo hi 0 h' (.v (.slice (some ⟨b,o',none⟩) len cap)) (.v (.slice (some ⟨b,o',none⟩) h' cap)):=fun x o y ho hy hl I =>
 TG ho hy (tV hl fun _=>rfl) (tV I fk) E hs h2
theorem alp {s:ByteArray} (fA:lo=none->l'=0) (fk:hi=none->h'=s.size)
  (E:∀w,(underlying t).run P w = .ok .string w) (h1:l'<=h') (h2:h'<=s.size):Rs P G t lo hi l' h' (.v (.string s)) (.v (.string (s.extract l' h'))):=fun x o y ho hy hl I =>
 aeL ho hy (tV hl fA) (tV I fk) E h1 h2
theorem gi {C:ey} {g:α->List D} {ls new:List α} {s:Operand} {t e tt bytes:Nat} {z:Value} {Sq R:List ag} (hg:∀a,(g a).length=sz) (hg1:∀a,(g a).all one=true) (hw:cH ops x o true) (ho:o.op = .call {callee:=.builtin .append,args:=#[s,y],argTypes:=#[t,t]}) (hd:o.dst=some tt)
  (ht:P.underlying t=some (.slice e)) (hi:(P.info? e).map (fun i=>(i.zero,i.size,i.bytes))=some (some z,sz,bytes)) (fK:z.cells.size=sz) (O:0<sz)
  (hs:aK x s = .v (.slice ad ls.length cap)) (U:bF e sz (ls.flatMap g) ls.length ad cap Sq) (hp:x.S.Perm (Sq++R))
  (hy:aK x y = .list sz (new.flatMap g) new.length) (hm:0<new.length) (Z:ls.length+new.length<=maxLen) (E:(ls.length+new.length)*bytes<=140737488355328)
  (K:∀I bj,(ls++new).length<=bj->bj<=maxLen->OD P C ops l ⟨x.n,(tt,.v (.slice (some ⟨I,0,none⟩) (ls++new).length bj))::x.env,⟨I,e,bj*sz,(ls++new).flatMap g⟩::R⟩ Q) (hne:isMap e=false:=by rfl):OD P C ops (o::l) x Q :=
 aeP (hne:=hne) hw ho hd ht hi fK O hs U hp (dg hg ls) hy (wq hg1 new) hm Z E fun I bj h1 h2=>by
  have:=K I bj (by rw[length_append];exact h1) h2;rw[length_append,flatMap_append] at this;exact this
theorem Wk.shrink{l:List (Nat×D)}{S:List ag}(hk:S[k]?=some B)(hp:cs' <+: B.cs):Wk ⟨n,l,S⟩ ⟨n,l,S.set k {B with cs:=cs'}⟩:=fun C a w h=>by
 have eT:=(List.getElem?_eq_some_iff.1 hk).1;have U:=(List.getElem?_eq_some_iff.1 hk).2;have E:aq (S.set k {B with cs:=cs'})=aq S:=by
  unfold aq;rw[map_set];apply ext_getElem bC;intro i q1 q2;rw[getElem_set];split
  ·rename_i e;subst e;simp[U]
  rfl
 have I:live C.X (S.set k {B with cs:=cs'})=live C.X S:=(by funext b;simp only[live,E])
 refine⟨h.defers,h.size,fun t ht=>?_,⟨fun B' Z=>?_,?_⟩,?_,h.ex,h.fE⟩
 ·simp only[I];exact h.env t ht
 ·simp only[I];obtain⟨j,hj,O⟩:=mem_iff_getElem.1 Z;rw[length_set] at hj;rw[getElem_set] at O;by_cases e:k=j
  ·rw[if_pos e] at O;subst O;obtain⟨r0,cur,r1,r2,r3,r4⟩:=h.own.at_ B (mem_of_getElem? hk);refine⟨r0,cur,r1,r2,Nat.le_trans hp.length_le r3,fun i hi=>?_⟩;obtain⟨u,hu,hq⟩:=r4 i (Nat.lt_of_lt_of_le hi hp.length_le);refine⟨u,hu,?_⟩;have:cs'[i]=B.cs[i]'(Nat.lt_of_lt_of_le hi hp.length_le):=IsPrefix.getElem hp hi;simp only[this];exact hq
  rw[if_neg e] at O;subst O;exact h.own.at_ _ (getElem_mem hj)
 ·simp only[E];exact h.own.apart
 simp only[E];exact h.fr
theorem Br{C:ey}(hk:x.S[k]?=some B)(hp:cs' <+: B.cs)(K:OD P C ops l ⟨x.n,x.env,x.S.set k {B with cs:=cs'}⟩ Q):OD P C ops l x Q:=fF (Wk.shrink hk hp) K
end
variable {P:Program} {C:ey} {G:List (Nat×List Value)} {Q:Exit->St->Prop} {x:St} {ops:Array Oper} {l:List Oper} {o:Oper} {n:Nat} {e:List (Nat×D)} {S:List ag}
variable {t i:Nat} {b:Bool} {y c:Operand} {d':D} {kd:Rd} {l':List (Nat×D)} {p:Prop} {post:D->List ag->Prop}
def tw(P:Program)(t n:Nat):Bool:=match P.info? t with|some i=>Nat.beq i.size n|none=>false
theorem nG{n:Nat}(h:tw P t n=true):∀w,(sizeOf t).run P w = .ok n w:=by
 unfold tw at h;cases hi:P.info? t with
 | none=>rw[hi] at h;cases h
 | some i =>
  rw[hi] at h;intro w;have:=run_sizeOf (P:=P) w hi;rw[this];simp only[Program.cellsOf,hi,Option.map_some,Option.getD_some,Nat.eq_of_beq_eq_true h]
def tD(P:Program)(t:Nat)(b:Bool):Bool:=match P.underlying t with
 | some (.struct _)=>b
 | some (.array _ _)=>b
 | some _=>!b
 | none=>false
theorem jG(h:tD P t b=true):∀w,(isAgg t).run P w = .ok b w:=by
 unfold tD at h;intro w;cases hu:P.underlying t with
 | none=>rw[hu] at h;cases h
 | some d =>
  rw[hu] at h;have hr:=run_underlying hu w;unfold isAgg;rw[Sem.run_bind,hr];cases d<;>simp only at h<;>first|(subst h;rfl)|(cases b;rfl;cases h)
def F5(P:Program)(s i off:Nat):Bool:=match P.underlying s with
 | some (.struct fs)=>match fs[i]? with
  | some f=>Nat.beq f.offset off&&(match P.info? f.type with|some j=>Nat.ble 1 j.size|none=>false)
  | none=>false
 | _=>false
theorem amG{s off:Nat}(h:F5 P s i off=true):∃E f m,(∀w,(underlying s).run P w = .ok (.struct E) w)/\E[i]?=some f/\(∀w,(sizeOf f.type).run P w = .ok (m+1) w)/\f.offset=off:=by
 unfold F5 at h;split at h
 ·rename_i E I;split at h
  ·rename_i f hf;rw[Bool.and_eq_true] at h;obtain⟨h1,h2⟩:=h;split at h2
   ·rename_i j hj;have O:=Nat.le_of_ble_eq_true h2;refine⟨E,f,j.size-1,run_underlying I,hf,fun w=>?_,Nat.eq_of_beq_eq_true h1⟩;have:=run_sizeOf (P:=P) w hj;rw[this];simp only[Program.cellsOf,hj,Option.map_some,Option.getD_some];congr 1;omega
   cases h2
  cases h
 cases h
def F6(P:Program)(t sz:Nat):Bool:=match P.underlying t with
 | some (.slice e)=>tw P e sz
 | _=>false
theorem amH{sz:Nat}(h:F6 P t sz=true):∃e,(∀w,(underlying t).run P w = .ok (.slice e) w)/\∀w,(sizeOf e).run P w = .ok sz w:=by
 unfold F6 at h;split at h
 ·rename_i e E;exact⟨e,run_underlying E,nG h⟩
 cases h
def RJ(P:Program)(t:Nat):Bool:=match P.underlying t with
 | some (.slice _)=>true
 | _=>false
theorem alq(h:RJ P t=true):∃e,∀w,(underlying t).run P w = .ok (.slice e) w:=by
 unfold RJ at h;split at h
 ·rename_i e E;exact⟨e,run_underlying E⟩
 cases h
theorem eV{z:Operand}{d:D}(ho:o.op = .move z\/o.op = .assign z:=by first|exact .inl rfl|exact .inr rfl)(hz:aK x z=d:=by first|exact ot|exact bP|exact vS|exact zc):cu P G x o .none d:=by
 rcases ho with h|h
 ·exact ahZ h hz
 exact ah0 h hz
inductive FA (off:Nat):D->D->Prop
 | p {b o':Nat}:FA off (.v (.pointer (some ⟨b,o',none⟩))) (.v (.pointer (some ⟨b,o'+off,none⟩)))
 | i {cs:List D} {o':Nat}:FA off (.gm cs o') (.gm cs (o'+off))
theorem j3(off:Nat){s:TypeId}{d:D}(ho:o.op = .fieldAddr s y i:=by exact rfl)(hy:aK x y=d:=by first|exact ot|exact zc)(hc:F5 P s i off=true:=by kernel_rfl)(h:FA off d d':=by first|exact .p|exact .i):cu P G x o .none d':=by
 obtain⟨fs,f,m,h1,h2,h3,h4⟩:=amG hc;cases h with
 | p=>exact ae1 ho hy h1 h2 h3 h4
 | i=>exact aeK ho hy h1 h2 h3 h4
theorem Kz{d:D}(ho:o.op = .nilCheck y:=by exact rfl)(hy:aK x y=d:=by exact ot)(h:FA 0 d d:=by first|exact .p|exact .i):cu P G x o .none d:=by
 cases h with
 | p=>exact aep ho hy
 | i=>exact aem ho hy
theorem RL{cs:List D}{d:D}(ho:o.op = .extract y i:=by exact rfl)(hy:aK x y = .dF cs:=by exact ot)(hd:cs[i]?=some d:=by exact rfl):cu P G x o .none d:=aev ho hy hd
inductive LD (S:List ag):D->Rd->D->Prop
 | b (k:Nat) {b o':Nat} {B:ag} {d:D} (hk:S[k]?=some B) (hb:B.b=b) (hd:B.cs[o']?=some d) (hne:isMap B.e=false):LD S (.v (.pointer (some ⟨b,o',none⟩))) (.gh k) d
 | m {α:Type} {g:α->List D} {sz i j:Nat} {ls:List α} {d:D} (hg:∀a,(g a).length=sz) (hi:i<ls.length) (hd:(g ls[i])[j]?=some d):LD S (.gm (ls.flatMap g) (i*sz+j)) .kP d
 | m0 {α:Type} {g:α->List D} {sz i:Nat} {ls:List α} {d:D} (hg:∀a,(g a).length=sz) (hi:i<ls.length) (hd:(g ls[i])[0]?=some d):LD S (.gm (ls.flatMap g) (i*sz)) .kP d
 | r (k:Nat) {α:Type} {g:α->List D} {b sz i j:Nat} {B:ag} {ls:List α} {d:D} (hg:∀a,(g a).length=sz) (hk:S[k]?=some B) (hb:B.b=b) (dP:B.cs=ls.flatMap g) (hi:i<ls.length) (hd:(g ls[i])[j]?=some d) (hne:isMap B.e=false):LD S (.v (.pointer (some ⟨b,0+i*sz+j,none⟩))) (.gh k) d
 | r0 (k:Nat) {α:Type} {g:α->List D} {b sz i:Nat} {B:ag} {ls:List α} {d:D} (hg:∀a,(g a).length=sz) (hk:S[k]?=some B) (hb:B.b=b) (dP:B.cs=ls.flatMap g) (hi:i<ls.length) (hd:(g ls[i])[0]?=some d) (hne:isMap B.e=false):LD S (.v (.pointer (some ⟨b,0+i*sz,none⟩))) (.gh k) d
 | i {o':Nat} {cs:List D} {d:D} (hd:cs[o']?=some d):LD S (.gm cs o') .kP d
theorem LD.still{t:TypeId}{d0 d:D}(h:LD x.S d0 kd d)(ho:o.op = .load t y)(hy:aK x y=d0)(ha:∀w,(isAgg t).run P w = .ok false w):cu P G x o kd d:=by
 cases h with
 | b k hk hb hd hne=>exact Hg (hne:=hne) ho hy hk hb ha hd
 | m hg hi hd=>exact G9 ho hy ha (BS hg hi hd)
 | m0 hg hi hd=>exact G9 ho hy ha (MT hg hi hd)
 | r k hg hk hb dP hi hd hne=>exact mW (hne:=hne) hg hk hb dP ha hi hd x o y ho hy rfl
 | r0 k hg hk hb dP hi hd hne=>exact kV (hne:=hne) hg hk hb dP ha hi hd x o y ho hy rfl
 | i hd=>exact G9 ho hy ha hd
theorem gD {t:TypeId} {d0 d:D} (ho:o.op = .load t y:=by exact rfl) (hy:aK x y=d0:=by exact ot) (ha:tD P t false=true:=by kernel_rfl)
  (h:LD x.S d0 kd d:=by first|exact .m Cr w5 rfl|exact .m0 Cr w5 rfl|exact .b 0 rfl rfl rfl rfl|exact .b 1 rfl rfl rfl rfl|exact .b 2 rfl rfl rfl rfl|exact .b 3 rfl rfl rfl rfl|exact .b 4 rfl rfl rfl rfl|exact .i rfl|exact .r 0 Cr rfl rfl rfl w5 rfl rfl|exact .r0 0 Cr rfl rfl rfl w5 rfl rfl|exact .r 1 Cr rfl rfl rfl w5 rfl rfl|exact .r0 1 Cr rfl rfl rfl w5 rfl rfl):cu P G x o kd d:=h.still ho hy (jG ha)
theorem gW(k:Nat){b o':Nat}{B:ag}{d:D}(ho:o.op = .load t y:=by exact rfl)(hy:aK x y = .v (.pointer (some ⟨b,o',none⟩)):=by exact ot)(hk:x.S[k]?=some B:=by exact rfl)(hb:B.b=b:=by exact rfl)(ha:tD P t false=true:=by kernel_rfl)(hd:B.cs[o']?=some d:=by exact rfl)(hne:isMap B.e=false:=by exact rfl):cu P G x o (.gh k) d:=Hg (hne:=hne) ho hy hk hb (jG ha) hd
inductive LA (S:List ag):List D->D->Rd->List D->Prop
 | b (k:Nat) {b o':Nat} {B:ag} {ds:List D} (hk:S[k]?=some B) (hb:B.b=b) (hd:(B.cs.drop o').take ds.length=ds) (hne:isMap B.e=false):LA S ds (.v (.pointer (some ⟨b,o',none⟩))) (.gh k) ds
 | m {α:Type} {g:α->List D} {sz i:Nat} {ls:List α} {ds:List D} (hg:∀a,(g a).length=sz) (hi:i<ls.length) (hd:g ls[i]=ds):LA S ds (.gm (ls.flatMap g) (i*sz)) .kP (g ls[i])
 | r (k:Nat) {α:Type} {g:α->List D} {b sz i:Nat} {B:ag} {ls:List α} {ds:List D} (hg:∀a,(g a).length=sz) (hk:S[k]?=some B) (hb:B.b=b) (dP:B.cs=ls.flatMap g) (hi:i<ls.length) (hd:g ls[i]=ds) (hne:isMap B.e=false):LA S ds (.v (.pointer (some ⟨b,0+i*sz,none⟩))) (.gh k) (g ls[i])
 | i {o':Nat} {cs ds:List D} (hd:(cs.drop o').take ds.length=ds):LA S ds (.gm cs o') .kP ds
theorem JO(k:Nat)(ds:List D){b o':Nat}{B:ag}(ho:o.op = .load t y:=by exact rfl)(hy:aK x y = .v (.pointer (some ⟨b,o',none⟩)):=by exact ot)(ha:tD P t true=true:=by kernel_rfl)(hk:x.S[k]?=some B:=by exact rfl)(hb:B.b=b:=by exact rfl)(hd:(B.cs.drop o').take ds.length=ds:=by exact rfl)(hne:isMap B.e=false:=by exact rfl)(hn:tw P t ds.length=true:=by kernel_rfl):cu P G x o (.gh k) (.agg ds):=Dw (hne:=hne) ho hy hk hb (jG ha) (nG hn) rfl hd
inductive IX (sz:Nat) (i:Int):D->D->Prop
 | l {cs:List D} {len j:Nat} (hi:i=j) (hj:j<len):IX sz i (.list sz cs len) (.gm cs (j*sz))
 | r {b o' len cap j:Nat} (hi:i=j) (hj:j<len):IX sz i (.v (.slice (some ⟨b,o',none⟩) len cap)) (.v (.pointer (some ⟨b,o'+j*sz,none⟩)))
theorem ei (sz:Nat) {t:TypeId} {z:Operand} {k:IntKind} {i:Int} {d:D} (ho:o.op = .indexAddr t y z:=by exact rfl) (hy:aK x y=d:=by exact ot) (hz:aK x z = .v (.int k i):=by first|exact ot|exact bP) (hs:F6 P t sz=true:=by kernel_rfl)
  (h:IX sz i d d':=by first|exact .l rfl w5|exact .r rfl w5|exact .l (Int.toNat_of_nonneg w4).symm w4|exact .r (Int.toNat_of_nonneg w4).symm w4):cu P G x o .none d':=by
 obtain⟨e,h1,h2⟩:=amH hs;cases h with
 | l hi hj=>exact Ut ho hy hz h1 h2 hi hj
 | r hi hj=>exact T3 ho hy hz h1 h2 hi hj
theorem Dc{t:TypeId}{d:D}{m:Nat}{ts:Array TypeId}(ho:o.op = .call {callee:=.builtin .len,args:=#[y],argTypes:=ts}:=by exact rfl)(ht:ts = #[t]:=by exact rfl)(hy:aK x y=d:=by exact ot)(hs:RJ P t=true:=by kernel_rfl)(h:(∃sz cs,d = .list sz cs m)\/∃ad cap,d = .v (.slice ad m cap):=by first|exact .inl ⟨_,_,rfl⟩|exact .inr ⟨_,_,rfl⟩):cu P G x o .none (.v (.int .i64 m)):=by
 obtain⟨e,he⟩:=alq hs;rcases h with ⟨sz,cs,rfl⟩|⟨ad,cap,rfl⟩
 ·exact agj ho ht hy he
 exact T4 ho ht hy he
theorem AE {op:BinOp} {t t':TypeId} {z:Operand} {u u' r:Value} (ho:o.op = .binOp op t y z t':=by exact rfl) (hy:aK x y = .v u:=by first|exact ot|exact bP) (hz:aK x z = .v u':=by first|exact ot|exact bP)
  (hb:mD P op t u u' r:=by first|exact Xl|exact Xh|exact mB (wrap_i64 w4 w4)|exact je (wrap_i64 w4 w4)|exact Xm|exact Xj|exact Xi|exact Xk|exact NA (wrap_i64 w4 w4)|exact VJ|exact VK|exact ah2|exact ah3|exact ah4|exact ah5|exact zj w4):cu P G x o .none (.v r):=eE ho hy hz hb
theorem mv{t:TypeId}(ho:o.op = .unOp .not t y:=by exact rfl)(hy:aK x y = .v (.bool b):=by exact ot):cu P G x o .none (.v (.bool !b)):=HR ho hy alk
theorem Cy{z:Operand}{d:D}(ho:o.op = .pick c y z:=by exact rfl)(hc:aK x c = .v (.bool b):=by exact ot)(h:b=true:=by first|rfl|assumption)(hd:aK x y=d:=by first|exact ot|exact bP):cu P G x o .none d:=ae5 ho hc h hd
theorem zT{z:Operand}{d:D}(ho:o.op = .pick c y z:=by exact rfl)(hc:aK x c = .v (.bool b):=by exact ot)(h:b=false:=by first|rfl|assumption)(hd:aK x z=d:=by first|exact ot|exact bP):cu P G x o .none d:=ae6 ho hc h hd
theorem bS{d:D}(h:cu P C.G ⟨n,e,S⟩ o kd d)(K:OD P C ops l ⟨n,(t,d)::e,S⟩ Q)(hw:cH ops ⟨n,e,S⟩ o true:=by first|exact tO rfl|exact v7 rfl rfl rfl lk ko)(hd:o.dst=some t:=by exact rfl):OD P C ops (o::l) ⟨n,e,S⟩ Q:=qM hw hd h K
theorem F7(K:OD P C ops l ⟨n,(t,.v (.tuple #[]))::e,S⟩ Q)(hw:cH ops ⟨n,e,S⟩ o false:=by exact oH rfl rfl rfl lk ko)(hd:o.dst=some t:=by exact rfl):OD P C ops (o::l) ⟨n,e,S⟩ Q:=Xe hw hd K
inductive fZ:List Nat->List (Nat×D)->List (Nat×D)->Prop
 | nil {e:List (Nat×D)}:fZ [] e []
 | cons {t:Nat} {ts:List Nat} {d:D} {e l':List (Nat×D)} (h:look t e=d) (k:fZ ts e l'):fZ (t::ts) e ((t,d)::l')
theorem fZ.l8{ts:List Nat}{e:List (Nat×D)}(h:fZ ts e l'):pA e l':=by
 induction h with
 | nil=>trivial
 | cons h _ ih=>exact⟨h,ih⟩
theorem nm_(ts:List Nat)(K:Q .normal ⟨n,l',S⟩)(h:fZ ts e l':=by repeat (first|exact fZ.nil|(apply fZ.cons;focus exact lk))):OD P C ops [] ⟨n,e,S⟩ Q:=fF (Wk.eN rfl rfl h.l8) (jX K)
def isR:Code->Bool
 | .region ..=>true
 | _=>false
theorem sN_{c d:Code}(K:CD P C c x (E6 P C d Q))(h:isR c=false:=by exact rfl):CD P C (.seq c d) x Q:=cL K
theorem mO{q:Prop}(h:q->p:=by intro k;(repeat (first|refine sN_ ?_|refine eI ?_|refine kU ?_|refine qm ?_|refine rI ?_|fail));exact k):q->p:=h
theorem fJ{fn:Func}{ex:Exit}{d:D}(hp:post d [])(h0:Body P fn post ex ⟨n,e,S⟩->p:=by exact mO)(he:ex = .normal\/ex = .ret:=by first|exact .inr rfl|exact .inl rfl)(hr:fn.results = #[.tmp t]:=by exact rfl)(ht:Nat.blt t n=true:=by exact rfl)(hd:look t e=d:=by exact lk):p :=
 h0 ⟨he,d,[],nil_sublist _,Xf hr (BR (Nat.le_of_ble_eq_true ht) hd),hp⟩
theorem RF{fn:Func}{ex:Exit}{t':Nat}{d:D}(hp:post (.dF [d,d']) [])(h0:Body P fn post ex ⟨n,e,S⟩->p:=by exact mO)(he:ex = .normal\/ex = .ret:=by first|exact .inr rfl|exact .inl rfl)(hr:fn.results = #[.tmp t,.tmp t']:=by exact rfl)(ht:Nat.blt t n=true:=by exact rfl)(KX:Nat.blt t' n=true:=by exact rfl)(hd:look t e=d:=by exact lk)(hd':look t' e=d':=by exact lk):p :=
 h0 ⟨he,_,[],nil_sublist _,Ec hr (BR (Nat.le_of_ble_eq_true ht) hd) (BR (Nat.le_of_ble_eq_true KX) hd'),hp⟩
theorem cq{id:Nat}{r:List Oper}{d:Code}(h:OD P C r.toArray r x (E6 P C d Q))(h0:CD P C (.seq (.region id r.toArray false) d) x Q->p:=by exact mO):p:=h0 (cL (DF h))
theorem uK{id:Nat}{r:List Oper}(h:OD P C r.toArray r x Q)(h0:CD P C (.region id r.toArray false) x Q->p:=by exact mO):p:=h0 (DF h)
theorem fu{d e:Code}(ht:CD P C d x Q)(h0:CD P C (.cond c d e) x Q->p:=by exact mO)(hc:aK x c = .v (.bool b):=by exact ot)(hb:b=true:=by first|rfl|assumption):p:=h0 (ahW hc hb ht)
theorem gK{d e:Code}(ht:CD P C e x Q)(h0:CD P C (.cond c d e) x Q->p:=by exact mO)(hc:aK x c = .v (.bool b):=by exact ot)(hb:b=false:=by first|rfl|assumption):p:=h0 (ahX hc hb ht)
end V
namespace Tab
open Go.RowKit Go.ChangeShapes
variable {α:Type}
theorem chunks{α:Type}{g:α->List Value}{c:Nat}:∀(rs:List α) (cs:List Value),cs.length=rs.length*c->(∀i (h:i<rs.length),(cs.drop (i*c)).take c=g rs[i])->cs=rs.flatMap g
 | [],cs,hl,_=>by
  have:cs=[]:=length_eq_zero_iff.1 zQ;simp[this]
 | r::rs,cs,hl,h=>by
  have h0:cs.take c=g r:=by
   have h1:=h 0 bC;simp only[Nat.zero_mul,drop_zero] at h1;exact h1
  have ih:=chunks (c:=c) rs (cs.drop c) (by rw[length_drop,hl,length_cons,Nat.add_mul];omega) (fun i hi=>by
   have h1:=h (i+1) (by simpa using hi);rw[drop_drop,show c+i*c=(i+1)*c from by rw[Nat.add_mul];omega];exact h1)
  rw[flatMap_cons,<-h0,<-ih,take_append_drop]
variable {H:Type} {enc:TypeId×Value->H} {P:Program} {w:World} {base:Nat} {sp:Nat->Bool} {held:Bool}
def Reads(enc:TypeId×Value->H)(P:Program)(w:World)(base:Nat)(sp:Nat->Bool)(held:Bool)(e:TypeId)(f:α->DataW H)(g:α->List Value):Prop :=
 ∀(fuel:Nat) (cs:List Value) (x:DataW H×List MemPlace),DataW.trod enc P w base sp held fuel e cs=some x->∀r,x.1=f r->cs=g r
theorem reads_string{e:TypeId}(he:P.underlying e=some .string):Reads enc P w base sp held e (fun b:List UInt8=>.lit (.string b)) (fun b=>[.string ⟨b.toArray⟩]):=by
 intro fuel cs x h r hr;obtain⟨s,rfl,rfl,_⟩:=DataW.trod_string he h;simp at hr;obtain⟨⟨s⟩⟩:=s;simp at hr;rw[<-hr]
theorem reads_arr {f:α->DataW H} {g:α->List Value} {t e:TypeId} {n:Nat} (ht:P.underlying t=some (.array n e)) (E:P.cellsOf t=n*P.cellsOf e)
  (I:Reads enc P w base sp held e f g):Reads enc P w base sp held t (fun rs:List α=>.agg (rs.map f)) (fun rs=>rs.flatMap g):=by
 intro fuel cs x h rs hr;obtain⟨xs,m,_,rfl,hl,hn,hi⟩:=DataW.trod_array ht h;simp only[DataW.agg.injEq] at hr;have O:rs.length=n:=(by have:=congrArg length hr;simp at this;omega)
 refine chunks rs cs (by rw[hl,E,O]) fun i U=>?_;have h1:=hi i w4;rw[getElem?_eq_getElem w4] at h1;refine I m _ _ h1 _ ?_;have:=congrArg (fun l=>l[i]?) hr;simpa[getElem?_eq_getElem U,getElem?_eq_getElem (show i<xs.length by omega)] using this
theorem var_cells {f:α->DataW Unit} {g:α->List Value} {W:World} {n:String} {I:Nat} {t:TypeId} {cs:Array Value} {fuel:Nat} {p:List MemPlace} {r:α}
  (hg:P.globalNamed n=some I) (hv:W.var? P n=some cs) (hd:DataW.trod (fun _=>()) P W 0 (fun _=>true) false fuel t cs.toList=some (f r,p))
  (E:Reads (fun _=>()) P W 0 (fun _=>true) false t f g) (i:Nat) (v:Value) (hi:(g r)[i]?=some v):W.cell? ⟨I,i,none⟩=some v:=by
 have h:=E _ _ _ hd r rfl;rw[World.var?_cell hg hv i,<-Array.getElem?_toList,h,hi]
def lS(w:World)(g:Nat)(l:List Value):Prop:=∀i v,l[i]?=some v->w.cell? ⟨g,i,none⟩=some v
end Tab
namespace V
open Go.RowKit
section
variable {G:List (Nat×List Value)} {α:Type} {t:TypeId}
def E8(w:World)(g:Nat)(l:List Value):Prop:=∀i v,l[i]?=some v->ql w g i v
theorem E8.of{w:World}{g:Nat}{l:List Value}(h:Tab.lS w g l)(hp:l.all ud=true):E8 w g l:=fun i v hi=>.of (h i v hi) (VF hp hi)
theorem VP.run {P:Program} {f:FuncId} {args:List D} {vs:List Value} {r:Value} {w:World} (h:VP P G f args (.v r))
  (hG:∀g∈G,g.2≠[]/\E8 w g.1 g.2) (hr:cX w (live (fun _=>False) []) args vs):Calls P f vs.toArray w fun e w'=>e = .returned r/\Below w.heap.size w w':=by
 have hp:KW G (fun _=>False) w [] args vs:=by
  refine⟨fun _ h=>h.elim,fun g hg=>⟨⟨?_,by simp[aq],fun h=>h⟩,(hG g hg).2⟩,⟨fun B hB=>by simp at hB,by simp[aq]⟩,hr⟩;obtain⟨h1,h2⟩:=hG g hg;cases hl:g.2 with
  | nil=>exact absurd hl h1
  | cons v l=>exact(h2 0 v (by rw[hl];rfl)).lt
 refine(h _ w vs hp).mono fun e w' ⟨v,E,S',h1,⟨h2,h3⟩,h4,h5,h6⟩=>?_;subst h2;rw[h5.mi] at h1;exact⟨h1,h6.os,h6.tape,h6.output,h6.size,fun k hk=>(h6.block k hk (by simp[aq])).1⟩
theorem cX.vs(w:World)(L:Nat->Prop)(vs:List Value):cX w L (vs.map .v) vs:=⟨by simp,fun i h1 h2=>by rw[getElem_map];exact .v _⟩
theorem qw{a:Int}(h:(Lit.int .i64 a).wf=true):-9223372036854775808<=a/\a<=9223372036854775807:=bounds_i64 h
variable {H:Type} {enc:TypeId×Value->H} {P:Program} {w:World} {base:Nat} {sp:Nat->Bool} {held:Bool}
def rp(enc:TypeId×Value->H)(P:Program)(w:World)(base:Nat)(sp:Nat->Bool)(held:Bool)(t:TypeId)(g:α->List D)(ok:α->Prop):Prop :=
 ∀fuel cs x,DataW.trod enc P w base sp held fuel t cs=some x->∃a,cX w (fun _=>False) (g a) cs/\ok a
theorem xO(ht:P.underlying t=some (.int .i64)):rp enc P w base sp held t (fun n:Int=>[.v (.int .i64 n)]) (fun n=>-9223372036854775808<=n/\n<=9223372036854775807):=fun fuel cs x h=>by
 obtain⟨n,rfl,_,hw⟩:=DataW.trod_int ht h;exact⟨n,cX.vs w _ [_],qw hw⟩
theorem ajK(ht:P.underlying t=some .bool):rp enc P w base sp held t (fun n:Bool=>[.v (.bool n)]) (fun _=>True):=fun fuel cs x h=>by
 obtain⟨n,rfl,_⟩:=DataW.trod_bool ht h;exact⟨n,cX.vs w _ [_],trivial⟩
theorem Uy(ht:P.underlying t=some .string):rp enc P w base sp held t (fun n:ByteArray=>[.v (.string n)]) (fun s=>s.size<=maxLen):=fun fuel cs x h=>by
 obtain⟨n,rfl,_,hw⟩:=DataW.trod_string ht h;exact⟨n,cX.vs w _ [_],hw⟩
theorem rp.map{β:Type}{g:α->List D}{ok:α->Prop}{I:β->List D}{E:β->Prop}(h:rp enc P w base sp held t g ok)(f:α->β)(hg:∀a,I (f a)=g a)(bf:∀a,ok a->E (f a)):rp enc P w base sp held t I E:=fun fuel cs x hx=>by
 obtain⟨a,h1,h2⟩:=h fuel cs x hx;exact⟨f a,by rw[hg];exact h1,bf a h2⟩
theorem afz {f0 f1 f2:Field} {E I O:Type} {g0:E->List D} {g1:I->List D} {g2:O->List D} {k0:E->Prop} {k1:I->Prop} {k2:O->Prop} {n0 n1 n2:Nat}
  (ht:P.underlying t=some (.struct #[f0,f1,f2])) (hc:P.cellsOf t=n0+n1+n2) (Z:f0.offset=0) (o1:f1.offset=n0) (o2:f2.offset=n0+n1) (c0:P.cellsOf f0.type=n0) (c1:P.cellsOf f1.type=n1) (c2:P.cellsOf f2.type=n2)
  (r0:rp enc P w base sp held f0.type g0 k0) (r1:rp enc P w base sp held f1.type g1 k1) (r2:rp enc P w base sp held f2.type g2 k2) :
  rp enc P w base sp held t (fun a:E × I × O=>g0 a.1++(g1 a.2.1++g2 a.2.2)) (fun a=>k0 a.1/\k1 a.2.1/\k2 a.2.2):=fun fuel cs x h=>by
 obtain⟨xs,n,_,_,hl,gp,hf⟩:=DataW.trod_struct ht h;have U:=hf 0 f0 rfl;have e1:=hf 1 f1 rfl;have e2:=hf 2 f2 rfl;rw[Z,c0,drop_zero] at U;rw[o1,c1] at e1;rw[o2,c2] at e2;have CX:xs.length=3:=gp;rw[getElem?_eq_getElem w4] at U e1 e2;obtain⟨a0,p0,q0⟩:=r0 _ _ _ U;obtain⟨a1,p1,q1⟩:=r1 _ _ _ e1;obtain⟨a2,p2,q2⟩:=r2 _ _ _ e2;refine⟨(a0,a1,a2),?_,q0,q1,q2⟩;have dP:cs=cs.take n0++((cs.drop n0).take n1++(cs.drop (n0+n1)).take n2):=by
  rw[<-drop_drop,take_of_length_le (l:=drop n1 (drop n0 cs)) (by rw[length_drop,length_drop];omega),take_append_drop,take_append_drop]
 rw[dP];exact p0.append (p1.append p2)
theorem ah6 {e:TypeId} {sz b':Nat} {g:α->List D} {ok:α->Prop} (ht:P.underlying t=some (.slice e)) (RM:P.cellsOf e=sz) (mL:0<sz) (re:rp enc P w base sp held e g ok) (hg:∀a,(g a).length=sz) {v:Value} {d:DataW H} {p:List MemPlace}
  (hval:Value.okWide P w .any b' t v) (h:DataW.Trod enc P w base sp held t v d p):∃l:List α,cG w (fun _=>False) (.list sz (l.flatMap g) l.length) v/\(∀x∈l,ok x)/\l.length<=maxLen:=by
 have hv:Cell.okWide P w .any b' t v:=(by unfold Value.okWide at hval;rw[ht] at hval;exact hval)
 unfold Cell.okWide at hv;rw[ht] at hv;obtain⟨m,hm⟩:=h;have hv2:Cell.ok P w .any b' t v:=(by revert hv;cases v<;>exact id)
 unfold Cell.ok at hv2;rw[ht] at hv2;cases v with
 | slice ad len cap =>
  rcases Go.Deep.open_slice ht hm with ⟨h1,_⟩|⟨a,U,bj,mm,n,Dd,Pl,h1,hb,hl,dy,C1,_,hx⟩
  ·have e1:Value.slice ad len cap = .slice none 0 0:=(by simpa[Value.cells] using h1)
   rw[e1];exact⟨[],.nil sz,(fun x hx=>by cases hx),Nat.zero_le _⟩
  have e1:Value.slice ad len cap = .slice (some a) U bj:=(by simpa[Value.cells] using h1)
  cases e1;have Z:w.has P .any b' a e cap:=hv2.2.2;obtain⟨_,I,row,cells,F8,_⟩:=Z;obtain⟨b,o,s⟩:=a;have E:s=none:=I;subst E;have aa:b<w.heap.size:=by
   rcases Nat.lt_or_ge b w.heap.size with h2|h2
   ·exact h2
   simp[World.shape?,Array.getElem?_eq_none h2] at F8
  have hle:len<=mm:=(by rw[C1];split<;>omega)
  have each:∀i:Fin len,∃a:α,(∃cs',w.cells? base ((⟨b,o,none⟩:Addr).add (i.1*P.cellsOf e)) (P.cellsOf e)=some cs'/\cX w (fun _=>False) (g a) cs')/\ok a:=fun i=>by
   obtain⟨cs',h1,h2⟩:=hx i.1 w4;obtain⟨a,h3,h4⟩:=re _ _ _ h2;exact⟨a,⟨cs',h1,h3⟩,h4⟩
  let l:List α:=ofFn fun i:Fin len=>Classical.choose (each i)
  have nV:l.length=len:=(by simp[l])
  have hli:∀i (hi:i<l.length),(∃cs',w.cells? base ((⟨b,o,none⟩:Addr).add (i*P.cellsOf e)) (P.cellsOf e)=some cs'/\cX w (fun _=>False) (g l[i]) cs')/\ok l[i]:=fun i hi=>by
   have:=Classical.choose_spec (each ⟨i,by omega⟩);simpa[l] using this
  refine⟨l,?_,fun x hx=>?_,by omega⟩
  ·have key:∀k,k<(l.flatMap g).length->∃u,w.cell? ⟨b,o+k,none⟩=some u/\∀h:k<(l.flatMap g).length,cG w (fun _=>False) (l.flatMap g)[k] u:=fun k hk=>by
    rw[dg hg] at hk;have hi:k/sz<l.length:=Nat.div_lt_of_lt_mul (by rw[Nat.mul_comm];exact hk);have hj:k % sz<sz:=Nat.mod_lt _ mL;have nP:k/sz*sz+k % sz=k:=(by rw[Nat.mul_comm];exact Nat.div_add_mod k sz)
    obtain⟨⟨cs',h1,h2⟩,_⟩:=hli _ hi;obtain⟨_,h4,h5⟩:=World.cells?_some h1;have h6:=h5 (k % sz) w4;have jz:k % sz<cs'.length:=(by omega)
    rw[getElem?_eq_getElem jz,Go.Deep.add_add,RM,nP,Addr.add_mid] at h6;refine⟨_,h6,fun h=>?_⟩;have h7:=h2.2 (k % sz) (by rw[hg];exact hj) jz;have h8:=BS hg hi (getElem?_eq_getElem (show k % sz<(g l[k/sz]).length by rw[hg];exact hj));rw[nP,getElem?_eq_getElem h] at h8;rw[Option.some.inj h8];exact h7
   have hm2:len<=cap:=hl;have O:Value.slice (some ⟨b,o,none⟩) len cap=Value.slice (some ⟨b,o,none⟩) l.length cap:=(by rw[nV])
   rw[O];refine cG.list (L:=fun _=>False) sz (l.flatMap g) l.length b o cap (fun k=>(w.cell? ⟨b,o+k,none⟩).getD undef) (dg hg l) w4 dy aa (fun h=>h.elim) (fun k hk=>?_) (fun k hk=>?_)
   ·obtain⟨u,h1,_⟩:=key k hk;rw[h1];rfl
   obtain⟨u,h1,h2⟩:=key k hk;simp only[h1,Option.getD_some];exact h2 hk
  obtain⟨i,hi,rfl⟩:=mem_iff_getElem.1 hx;exact(hli i hi).2
 | _=>exact hv2.elim
theorem VP.Ae {f:FuncId} {args:List D} {vs:List Value} {r:Value} (h:VP P G f args (.v r))
  (hG:∀g∈G,g.2≠[]/\E8 w g.1 g.2) (hr:cX w (fun _=>False) args vs):Calls P f vs.toArray w fun e w'=>e = .returned r/\Below w.heap.size w w' :=
 h.run hG (hr.mono fun b _ _=>⟨rfl,fun hl=>by rcases hl with hl|hl;exact hl;simp[aq] at hl⟩)
end
section
variable {P:Program} {C:ey} {G:List (Nat×List Value)} {Q:Exit->St->Prop} {x:St} {ops:Array Oper} {l:List Oper} {o:Oper} {S1 T:List Nat} {fuel i:Nat} {ld:Array Bool}
variable {sz n k b o' cap h' m c:Nat} {B:ag} {cs':List D} {t e:TypeId} {y:Operand} {lo hi:Option Operand}
theorem yZ:∀(ds cs:List D) (off:Nat),off+ds.length<=cs.length->dY cs off ds=cs.take off++ds++cs.drop (off+ds.length)
 | [],cs,off,h=>by simp[dY]
 | d::ds,cs,off,h=>by
  simp only[length_cons] at h;have e:cs.set off d=(cs.take off++[d])++cs.drop (off+1):=(by rw[set_eq_take_append_cons_drop,if_pos w4];simp)
  have hl:(cs.take off++[d]).length=off+1:=(by simp;omega)
  rw[dY,yZ ds _ (off+1) jk,e,take_left' hl,<-drop_drop,drop_left' hl,drop_drop];simp only[append_assoc,cons_append,nil_append,length_cons];congr 4;omega
theorem rF{α:Type}{g:α->List D}(hg:∀a,(g a).length=sz)(ls:List α){i:Nat}(a:α)(hi:i<ls.length):dY (ls.flatMap g) (i*sz) (g a)=(ls.set i a).flatMap g:=by
 have h1:(i+1)*sz<=ls.length*sz:=Nat.mul_le_mul_right _ hi;rw[Nat.succ_mul] at h1;rw[yZ _ _ _ (by rw[dg hg,hg];exact h1),hg,set_eq_take_append_cons_drop,if_pos hi,v8 hg,<-Nat.succ_mul,xF hg];simp[flatMap_append]
theorem Wk.aa6{l:List (Nat×D)}{S:List ag}(hk:S[k]?=some B)(hl:cs'.length<=B.size)(hc:∀(i:Nat) (d:D),cs'[i]?=some d->B.cs[i]?=some d\/d=D.cy):Wk ⟨n,l,S⟩ ⟨n,l,S.set k {B with cs:=cs'}⟩:=fun C a w h=>by
 have eT:=(List.getElem?_eq_some_iff.1 hk).1;have U:=(List.getElem?_eq_some_iff.1 hk).2;have E:aq (S.set k {B with cs:=cs'})=aq S:=by
  unfold aq;rw[map_set];apply ext_getElem bC;intro i q1 q2;rw[getElem_set];split
  ·rename_i e;subst e;simp[U]
  rfl
 have I:live C.X (S.set k {B with cs:=cs'})=live C.X S:=(by funext b;simp only[live,E])
 refine⟨h.defers,h.size,fun t ht=>?_,⟨fun B' Z=>?_,?_⟩,?_,h.ex,h.fE⟩
 ·simp only[I];exact h.env t ht
 ·simp only[I];obtain⟨j,hj,O⟩:=mem_iff_getElem.1 Z;rw[length_set] at hj;rw[getElem_set] at O;by_cases e:k=j
  ·rw[if_pos e] at O;subst O;obtain⟨r0,cur,r1,r2,r3,r4⟩:=h.own.at_ B (mem_of_getElem? hk);refine⟨r0,cur,r1,r2,hl,fun i hi=>?_⟩;simp only at hi hl;have nr:i<cur.size:=(by omega)
   rcases hc i _ (getElem?_eq_getElem hi) with hd|hd
   ·obtain⟨hd1,hd2⟩:=List.getElem?_eq_some_iff.1 hd;obtain⟨u,hu,hq⟩:=r4 i hd1;rw[hd2] at hq;exact⟨u,hu,hq⟩
   exact⟨cur[i],by simp[nr],by simp only[hd];exact .cy _⟩
  rw[if_neg e] at O;subst O;exact h.own.at_ _ (getElem_mem hj)
 ·simp only[E];exact h.own.apart
 simp only[E];exact h.fr
def fy(cap l sz o':Nat):Nat:=if cap=l then o' else o'+l*sz
theorem aex {len l:Nat} (ho:o.op = .slice t y lo hi none) (hy:aK x y = .v (.slice (some ⟨b,o',none⟩) len cap)) (fA:oO x lo l 0) (fk:oO x hi h' len)
  (E:∀w,(underlying t).run P w = .ok (.slice e) w) (hs:∀w,(sizeOf e).run P w = .ok sz w) (h1:l<=h') (h2:h'<=cap):cu P G x o .none (.v (.slice (some ⟨b,fy cap l sz o',none⟩) (h'-l) (cap-l))):=fun C a w _ h =>
 ⟨_,.v _,fun w' _=>by
  have b1:=uV h fA;have b2:=uV h fk;have b3:=fun w=>yX (P:=P) (il:=true) (w:=w) b1 b2 h1 h2;unfold execOp fy;simp only[ho,h.flat hy,Instr.sliceAt,Instr.slice,E,Sem.run_bind,Result.andThen_ok,Option.map_none,b3,hs,Sem.run_pure];by_cases hc:cap=l
  ·rw[if_pos hc,if_pos hc]
  rw[if_neg hc,if_neg hc];simp only[Option.map_some,Addr.add_mid]⟩
theorem BK {l len:Nat} (fA:lo=none->l=0) (fk:hi=none->h'=len)
  (E:∀w,(underlying t).run P w = .ok (.slice e) w) (hs:∀w,(sizeOf e).run P w = .ok sz w) (h1:l<=h') (h2:h'<=cap):Rs P G t lo hi l h' (.v (.slice (some ⟨b,o',none⟩) len cap)) (.v (.slice (some ⟨b,fy cap l sz o',none⟩) (h'-l) (cap-l))):=fun x o y ho hy hl I =>
 aex ho hy (tV hl fA) (tV I fk) E hs h1 h2
theorem TD {len l:Nat} {k1 k2 k3:IntKind} {lo hi E:Operand} (ho:o.op = .slice t y (some lo) (some hi) (some E)) (hy:aK x y = .v (.slice (some ⟨b,o',none⟩) len cap)) (fA:aK x lo = .v (.int k1 l)) (fk:aK x hi = .v (.int k2 h')) (dy:aK x E = .v (.int k3 m))
  (I:∀w,(underlying t).run P w = .ok (.slice e) w) (hs:∀w,(sizeOf e).run P w = .ok sz w) (h1:l<=h') (h2:h'<=m) (h3:m<=cap):cu P G x o .none .cy:=fun C a w _ h =>
 ⟨.slice (some ⟨b,if m=l then o' else o'+l*sz,none⟩) (h'-l) (m-l),.cy _,fun w' _=>by
  have b3:∀w,(Instr.sliceBounds true len cap (some (.int k1 l)) (some (.int k2 h')) (some (.int k3 m))).run P w = .ok (l,h',m) w:=fun w=>by
   unfold Instr.sliceBounds;simp[Hh,h1,h2,h3]
  unfold execOp;simp only[ho,h.flat hy,h.flat fA,h.flat fk,h.flat dy,Instr.sliceAt,Instr.slice,I,Sem.run_bind,Result.andThen_ok,Option.map_some,b3,hs,Sem.run_pure];by_cases hc:m=l
  ·rw[if_pos hc,if_pos hc]
  rw[if_neg hc,if_neg hc];simp only[Option.map_some,Addr.add_mid]⟩
theorem aeQ {s:Operand} {t e tt oy:Nat} {new:List D} (ho:o.op = .call {callee:=.builtin .append,args:=#[s,y],argTypes:=#[t,t]}) (hd:o.dst=some tt)
  (ht:P.underlying t=some (.slice e)) (hi:(P.info? e).map (fun i=>i.size)=some sz)
  (hs:aK x s = .v (.slice (some ⟨b,0,none⟩) n cap)) (hk:x.S[k]?=some B) (hb:B.b=b) (hy:aK x y = .v (.slice (some ⟨b,oy,none⟩) m c))
  (O:(B.cs.drop oy).take (m*sz)=new) (hlen:new.length=m*sz) (ji:∀d∈new,one d=true) (Z:n+m<=cap) (hl:n*sz+m*sz<=B.cs.length) (dP:dY B.cs (n*sz) new=cs') (hne:isMap B.e=false:=by rfl) :
  gL P G x o [b] (fun y=>y=⟨x.n,(tt,.v (.slice (some ⟨b,0,none⟩) (n+m) cap))::x.env,x.S.set k {B with cs:=cs'}⟩):=fun C a w K Q hG h hK=>by
 subst dP hb;obtain⟨i,mM,rfl⟩:∃i,P.info? e=some i/\i.size=sz:=by
  cases h:P.info? e with
  | none=>simp[h] at hi
  | some i=>simp[h] at hi;exact⟨i,rfl,hi⟩
 obtain⟨h0,cur,q1,q2,q3,q4⟩:=h.gh hk;rw[lO hne] at q1;have mN:∀j,j<m*i.size->∃hj:oy+j<B.cs.length,∃hn:j<new.length,new[j]=B.cs[oy+j]:=fun j hj=>by
  have h1:j<new.length:=(by omega)
  have h2:oy+j<B.cs.length:=by
   have:=congrArg length O;rw[length_take,length_drop,hlen] at this;omega
  refine⟨h2,h1,?_⟩;have e2:new[j]?=some B.cs[oy+j]:=(by rw[<-O,getElem?_take,if_pos hj,getElem?_drop,getElem?_eq_getElem h2])
  rw[getElem?_eq_getElem h1] at e2;exact Option.some.inj e2
 let vs:List Value:=(range (m*i.size)).map fun j=>cur.getD (oy+j) undef
 have I:vs.length=m*i.size:=(by simp[vs])
 have hv:∀j (hj:j<m*i.size),∃u,cur[oy+j]?=some u/\vs[j]?=some u/\cG w (live C.X x.S) (new[j]'w4) u:=fun j hj=>by
  obtain⟨h1,h2,h3⟩:=mN j hj;obtain⟨u,E,hq⟩:=q4 (oy+j) h1;refine⟨u,E,?_,h3 ▸ hq⟩;simp[vs,hj,E]
 have hr:cX w (live C.X x.S) new vs:=⟨by rw[I,hlen],fun j h1 h2=>by
  obtain⟨u,_,E,hq⟩:=hv j w4;rw[getElem?_eq_getElem h2] at E;rw[Option.some.inj E];exact hq⟩
 obtain⟨s1,s2,s3⟩:=h.store (hne:=hne) hk hr (o':=n*i.size) (by rw[hlen];exact hl);have U:=run_append_room_cells (P:=P) w t o.type e i ht mM B.b 0 n cap ⟨B.b,oy,none⟩ m c vs I (fun j u E=>by
   rw[Addr.add_mid];have hj:j<m*i.size:=(by rw[<-I];exact(List.getElem?_eq_some_iff.1 E).1)
   obtain⟨u',AF,AG,_⟩:=hv j hj;rw[AG] at E;rw[<-E];exact pT q1 AF) (fun u E=>by
   obtain⟨j,hj,rfl⟩:=mem_iff_getElem.1 E;have mu:j<new.length:=(by omega)
   exact(hr.2 j mu hj).DQ (ji _ (getElem_mem mu))) Z (fun j hj=>by
   have:(0+n*i.size+j)<cur.size:=(by rw[I] at hj;omega)
   rw[pT q1 (u:=cur[0+n*i.size+j]) (by simp[this])];rfl) (fun j hj=>by unfold World.frozen?;simp[q1])
 rw[Nat.zero_add] at U;have amI:=DC (o:=o) (a:=a) ho (h.flat hs) (h.flat hy) U;unfold Oper.wp;rw[amI,Oper.upon_value,hd];exact hK _ _ _ rfl (s1.put (.v _)) s2 s3
theorem Tv {s:Operand} {t e tt oy:Nat} {new:List D} (U:ops[i]?=some o) (hw:cH ops x o true) (ho:o.op = .call {callee:=.builtin .append,args:=#[s,y],argTypes:=#[t,t]}) (hd:o.dst=some tt)
  (ht:P.underlying t=some (.slice e)) (hi:(P.info? e).map (fun i=>i.size)=some sz)
  (hs:aK x s = .v (.slice (some ⟨b,0,none⟩) n cap)) (hk:x.S[k]?=some B) (hb:B.b=b) (hy:aK x y = .v (.slice (some ⟨b,oy,none⟩) m c))
  (O:(B.cs.drop oy).take (m*sz)=new) (hlen:new.length=m*sz) (ji:∀d∈new,one d=true) (E:n+m<=cap) (hl:n*sz+m*sz<=B.cs.length) (dP:dY B.cs (n*sz) new=cs') (hT:∀b∈T,b∈aq (x.S.eraseIdx k))
  (K:AD P C ops S1 T fuel (ld.setIfInBounds i true) ⟨x.n,(tt,.v (.slice (some ⟨b,0,none⟩) (n+m) cap))::x.env,x.S.set k {B with cs:=cs'}⟩ Q) (hne:isMap B.e=false:=by rfl):ig P C ops S1 T fuel ld x Q i :=
 ig.gN U hw (aeQ (hne:=hne) ho hd ht hi hs hk hb hy O hlen ji E hl dP) (fun C a w hs Z I=>hb ▸ J3 hs hk hT Z I) (fun Z I=>by
  have:Z=b:=(by simpa using I)
  subst this;rw[<-hb];exact Ed hk) fun y hy=>hy ▸ K
theorem agn {s:Operand} {t e:Nat} {z:Value} (ho:o.op = .call {callee:=.builtin .clear,args:=#[s],argTypes:=#[t]}) (hd:o.dst=none)
  (ht:P.underlying t=some (.slice e)) (hz:∀w,(zeroValue e).run P w = .ok z w) (fK:z.cells.size=sz) (nW:z.cells.all (fun v=>v.oneCell')=true)
  (hs:aK x s = .v (.slice (some ⟨b,o',none⟩) n c)) (hk:x.S[k]?=some B) (hb:B.b=b) (fP:0<n->B.cs.length<=o'/\o'+n*sz<=B.size) (hne:isMap B.e=false:=by rfl) :
  gL P G x o [b] (fun y=>y=x):=fun C a w K Q hG h hK=>by
 subst hb;have Z:∀{w':World},(Builtin.clear_ #[t] o.type #[a.eval s]).run P w = .ok (.tuple #[]) w'->(execOp a.eval o).run P w = .ok (.value (.tuple #[])) w':=fun hr=>by
  unfold execOp;simp[ho,resolve,invoke,builtin,hr]
 rcases Nat.eq_zero_or_pos n with rfl|hn
 ·have I:(Builtin.clear_ #[t] o.type #[a.eval s]).run P w = .ok (.tuple #[]) w:=by
   rw[h.flat hs];simp[Builtin.clear_,run_underlying ht]
  unfold Oper.wp;rw[Z I,Oper.upon_value,hd];exact hK _ _ _ rfl h ⟨Nat.le_refl _,fun _ _ _=>rfl⟩ (Fr.refl _ _)
 obtain⟨bg,cl⟩:=fP hn;let vs:=(Builtin.zeroCells z.cells n).toList
 have so:vs.length=n*sz:=(by simp[vs,size_zeroCells,fK])
 have hv1:∀v∈vs,v.oneCell'=true:=fun v hv=>by
  simp only[vs,Builtin.zeroCells,Array.toList_map,mem_map] at hv;obtain⟨j,hj,rfl⟩:=hv;have mu:j<n*z.cells.size:=(by simpa using hj)
  have h0:0<z.cells.size:=by
   rcases Nat.eq_zero_or_pos z.cells.size with h0|h0
   ·rw[h0] at mu;simp at mu
   exact h0
  have aa:=Nat.mod_lt j h0;have:=Array.all_eq_true.1 nW _ aa;rw[getElem!_pos z.cells _ aa];exact this
 obtain⟨h0,cur,q1,q2,q3,q4⟩:=h.gh hk;rw[lO hne] at q1;have ff:=run_storeCells_cells (P:=P) B.b o' vs 0 w (fun j hj=>by
   have:(o'+0+j)<cur.size:=(by omega)
   rw[pT q1 (u:=cur[o'+0+j]) (by simp[this])];rfl) (fun j hj=>by unfold World.frozen?;simp[q1]) hv1
 have I:(Builtin.clear_ #[t] o.type #[a.eval s]).run P w = .ok (.tuple #[]) (w.setCells B.b o' vs):=by
  rw[h.flat hs];obtain⟨m,rfl⟩:∃m,n=m+1:=⟨n-1,by omega⟩
  simp only[Nat.add_zero] at ff;simp[Builtin.clear_,run_underlying ht,hz,vs,ff]
 have eT:=(List.getElem?_eq_some_iff.1 hk).1;have yF:=(List.getElem?_eq_some_iff.1 hk).2
 -- att,stored,and O again
 let E:=B.cs++replicate (B.size-B.cs.length) D.cy
 have hw:=Wk.aa6 (n:=x.n) (l:=x.env) (cs':=E) hk (by simp[E];omega) (fun i d hid=>by
  rcases Nat.lt_or_ge i B.cs.length with hi|hi
  ·left;rw[<-hid];simp only[E];rw[getElem?_append_left hi]
  right;simp only[E] at hid;rw[getElem?_append_right hi] at hid;exact eq_of_mem_replicate (mem_of_getElem? hid)) C a w h
 have fD:(⟨x.n,x.env,x.S.set k {B with cs:=E}⟩:St).S[k]?=some {B with cs:=E}:=(by simp[eT])
 have hjr:cX w (live C.X (⟨x.n,x.env,x.S.set k {B with cs:=E}⟩:St).S) (replicate (n*sz) D.cy) vs:=⟨by simp[so],fun j h1 h2=>by rw[getElem_replicate];exact .cy _⟩
 obtain⟨s1,s2,s3⟩:=hw.store (hne:=hne) fD hjr (o':=o') (by simp[E];omega);have vn:dY E o' (replicate (n*sz) D.cy)=E.take o'++replicate (n*sz) D.cy++E.drop (o'+n*sz):=by
  rw[yZ _ _ _ (by simp[E];omega),length_replicate]
 have gX:(x.S.set k {B with cs:=dY E o' (replicate (n*sz) D.cy)})[k]?=some {B with cs:=dY E o' (replicate (n*sz) D.cy)}:=(by simp[eT])
 have h1:cf C ⟨x.n,x.env,x.S.set k {B with cs:=dY E o' (replicate (n*sz) D.cy)}⟩ a (w.setCells B.b o' vs):=(by simpa[set_set] using s1)
 have h2:=Wk.aa6 (n:=x.n) (l:=x.env) (cs':=B.cs) gX (by simpa using q3) (fun i d hid=>by
  left;have hi:=(List.getElem?_eq_some_iff.1 hid).1;simp only[vn];rw[append_assoc,getElem?_append_left (by simp[E];omega),getElem?_take,if_pos w4];simp only[E];rw[getElem?_append_left hi,hid]) C a _ h1
 have hx:(⟨x.n,x.env,(x.S.set k {B with cs:=dY E o' (replicate (n*sz) D.cy)}).set k {B with cs:=B.cs}⟩:St)=x:=by
  rw[set_set];have:x.S.set k {B with cs:=B.cs}=x.S:=by
   apply ext_getElem bC;intro i q1 q2;rw[getElem_set];split
   ·rename_i e;subst e;exact yF.symm
   rfl
  rw[this]
 have hbk:∀cs1:List D,aq (x.S.set k {B with cs:=cs1})=aq x.S:=fun cs1=>by
  unfold aq;rw[map_set];apply ext_getElem bC;intro i q1 q2;rw[getElem_set];split
  ·rename_i e;subst e;simp[yF]
  rfl
 have h3:cf C x a (w.setCells B.b o' vs):=by
  have U:=h2;simp only at U;rw[hx] at U;exact U
 simp only[set_set,hbk] at s3;unfold Oper.wp;rw[Z I,Oper.upon_value,hd];exact hK _ _ _ rfl h3 s2 s3
theorem VN {s:Operand} {t e:Nat} {z:Value} (hw:cH ops x o true) (ho:o.op = .call {callee:=.builtin .clear,args:=#[s],argTypes:=#[t]}) (hd:o.dst=none)
  (ht:P.underlying t=some (.slice e)) (hz:∀w,(zeroValue e).run P w = .ok z w) (fK:z.cells.size=sz) (E:z.cells.all (fun v=>v.oneCell')=true)
  (hs:aK x s = .v (.slice (some ⟨b,o',none⟩) n c)) (hk:x.S[k]?=some B) (hb:B.b=b) (fP:0<n->B.cs.length<=o'/\o'+n*sz<=B.size) (K:OD P C ops l x Q) (hne:isMap B.e=false:=by rfl):OD P C ops (o::l) x Q :=
 OD.gN hw (agn (hne:=hne) ho hd ht hz fK E hs hk hb fP) fun y hy=>hy ▸ K
theorem kS{l r:List ag}(h:∀f:ag->Nat,(l.map f).sum=(r.map f).sum):l.Perm r:=by
 classical
 rw[perm_iff_count];intro a;have key:∀l:List ag,(l.map fun b=>if b=a then 1 else 0).sum=l.count a:=by
  intro l;induction l with
  | nil=>rfl
  | cons b l ih =>
   rw[map_cons,sum_cons,ih,count_cons];by_cases e:b=a<;>simp[e,Nat.add_comm]
 have:=h (fun b=>if b=a then 1 else 0);rw[key,key] at this;exact this
theorem ah7{l r:List ag}(h:l.Perm r)(f:ag->Nat):(l.map f).sum=(r.map f).sum:=by
 induction h with
 | nil=>rfl
 | cons x _ ih=>simp[ih]
 | swap x y l=>simp only[map_cons,sum_cons];omega
 | trans _ _ h1 h2=>exact h1.trans h2
theorem NP.norm{Φ:St->Prop}:NP (fun e y=>e=Exit.normal/\Φ y):=fun c y t hq=>by cases hq.1
end
section
variable {P:Program} {C:ey} {G:List (Nat×List Value)} {Q:Exit->St->Prop} {x:St} {ops:Array Oper} {l:List Oper} {o:Oper}
variable {e sz cap b n t m u tt k:Nat} {α:Type} {ad:Option Addr} {S Sq R A S1 S2 S3:List ag} {y:Operand} {ls:List UInt8}
theorem jt{g:α->List D}:bF e sz (([]:List α).flatMap g) ([]:List α).length none 0 []:=.inl ⟨rfl,rfl,rfl,rfl,rfl⟩
theorem bF.cast{g:α->List D}{ls E:List α}(h:bF e sz (ls.flatMap g) ls.length ad cap S)(he:ls=E):bF e sz (E.flatMap g) E.length ad cap S:=he ▸ h
theorem cj{g:α->List D}{ls:List α}(h1:ls.length<=cap)(h2:cap<=maxLen):bF e sz (ls.flatMap g) ls.length (some ⟨b,0,none⟩) cap [⟨b,e,cap*sz,ls.flatMap g⟩]:=.inr ⟨b,rfl,h1,h2,rfl⟩
def iC(g:α->List D)(e sz:Nat)(ls:List α)(r:D)(S:List ag):Prop:=∃ad cap,r = .v (.slice ad ls.length cap)/\bF e sz (ls.flatMap g) ls.length ad cap S
theorem iC.view{g:α->List D}{ls:List α}{r:D}(hg:∀a,(g a).length=sz)(h:iC g e sz ls r S)(hne:isMap e=false:=by rfl):View S r (.list sz (ls.flatMap g) ls.length):=by
 obtain⟨ad,cap,rfl,ho⟩:=h;exact n8 (hne:=hne) ho (dg hg ls) (fun B hB=>hB)
theorem VC.zI{g:α->List D}{ls:List α}{f:FuncId}{args:List D}(hg:∀a,(g a).length=sz)(h:VC P G f args [] (iC g e sz ls))(hne:isMap e=false:=by rfl):VP P G f args (.list sz (ls.flatMap g) ls.length) :=
 h.cover fun r S hr=>iC.view (hne:=hne) hg hr
theorem Wk.Zs{l:List (Nat×D)}{cs:List D}(ht:look t l = .v (.slice ad m cap))(ho:bF e sz cs m ad cap Sq)(hl:cs.length=m*sz)(hp:S.Perm (Sq++R))(hne:isMap e=false:=by rfl):Wk ⟨n,l,S⟩ ⟨n,(t,.list sz cs m)::l,R⟩:=by
 refine(Wk.perm hp).trans ?_;rcases ho with ⟨rfl,rfl,rfl,rfl,rfl⟩|⟨b,rfl,h1,h2,rfl⟩
 ·exact Wk.tY ht
 exact Wk.J1 (hne:=hne) (k:=0) rfl ht rfl hl h1 h2
theorem qN{cs:List D}(ht:V.look t x.env = .v (.slice ad m cap))(ho:bF e sz cs m ad cap Sq)(hl:cs.length=m*sz)(hp:x.S.Perm (Sq++R))(K:OD P C ops l ⟨x.n,(t,.list sz cs m)::x.env,R⟩ Q)(hne:isMap e=false:=by rfl):OD P C ops l x Q :=
 fF (Wk.Zs (hne:=hne) (n:=x.n) (S:=x.S) ht ho hl hp) K
theorem mS{c:Code}{cs:List D}(ht:V.look t x.env = .v (.slice ad m cap))(ho:bF e sz cs m ad cap Sq)(hl:cs.length=m*sz)(hp:x.S.Perm (Sq++R))(K:CD P C c ⟨x.n,(t,.list sz cs m)::x.env,R⟩ Q)(hne:isMap e=false:=by rfl):CD P C c x Q :=
 kX (Wk.Zs (hne:=hne) (n:=x.n) (S:=x.S) ht ho hl hp) K
theorem iC.mk{g:α->List D}{ls:List α}(h:bF e sz (ls.flatMap g) ls.length ad cap S):iC g e sz ls (.v (.slice ad ls.length cap)) S:=⟨ad,cap,rfl,h⟩
theorem iC.cast{g:α->List D}{ls E:List α}{r:D}(h:iC g e sz ls r S)(he:ls=E):iC g e sz E r S:=he ▸ h
theorem iZ{ls E:List α}(h:ls=E):D.v (.slice ad ls.length cap)=D.v (.slice ad E.length cap):=by rw[h]
theorem dL:(A++S1).Perm (S1++A):=perm_append_comm
theorem qO:(A++(S1++S2)).Perm (S1++(A++S2)):=perm_append_comm_assoc _ _ _
theorem Bz:(A++(S1++S2)).Perm (S2++(A++S1)):=(List.perm_append_comm.append_left A).trans qO
theorem MU:(A++(S1++(S2++S3))).Perm (S1++(A++(S2++S3))):=qO
theorem vT:(A++(S1++(S2++S3))).Perm (S2++(A++(S1++S3))):=(qO.append_left A).trans qO
theorem Vx:((S1++A)++[]).Perm (A++S1):=by rw[append_nil];exact perm_append_comm
theorem ah8:((S2++A)++S1).Perm (A++(S1++S2)):=by rw[append_assoc];exact List.perm_append_comm.trans (by rw[append_assoc])
theorem eM:(S1++A).Perm (A++S1):=dL.symm
theorem lP:(S1++(A++S2)).Perm (A++(S1++S2)):=qO.symm
theorem BA:(S2++(A++S1)).Perm (A++(S1++S2)):=Bz.symm
theorem VO:(S1++(A++(S2++S3))).Perm (A++(S1++(S2++S3))):=MU.symm
theorem ze:(S2++(A++(S1++S3))).Perm (A++(S1++(S2++S3))):=vT.symm
theorem Tt {w:World} (base:Nat) (t u ty e:TypeId) (i:TypeInfo) (ht:P.underlying t=some (.slice e)) (hu:P.underlying u=some .string) (hi:P.info? e=some i) (hz:i.zero=some (.int .u8 0))
  (E:i.size=1) (O:i.bytes=1) (v:Value) (n:Nat) (xs:List Value) (fQ:w.ownsRow base e 1 v n xs) (s:ByteArray)
  (lX:n+s.size<=maxLen) (I:n+s.size<=140737488355328) (U:base<=w.heap.size) :
  ∃Z w',(Builtin.append_ #[t,u] ty #[v,.string s]).run P w = .ok Z w'/\w'.ownsRow base e 1 Z (n+s.size) (xs++Go.Lib.strCells s)/\w.grownBy w' v.ownBlock /\
   (Z = .slice none 0 0↔v = .slice none 0 0/\s.size=0)/\(Z.ownBlock=v.ownBlock\/Z.ownBlock=some w.heap.size):=by
 obtain⟨Z,w',hr,h2,h3,h4⟩:=Go.Lib.run_append_own_string (P:=P) w base t u ty e i ht hu hi hz E O v n xs fQ s lX I U;refine⟨Z,w',hr,h2,h3,h4,?_⟩;have atP:n+s.size<=9223372036854775807:=(by simp only[maxLen] at lX;omega)
 have gp:xs.length=n:=(by simpa using fQ.1)
 rcases fQ.2 with ⟨rfl,rfl⟩|⟨g,cap,cur,rfl,hbg,hg,hnc,hcm,dP,Zr⟩
 ·by_cases hm:s.size=0
  ·left;rw[h4.2 ⟨rfl,hm⟩]
  right;have:=run_append_nil_string (P:=P) w t u ty e i (.int .u8 0) ht hu hi hz s w4 w4 (by rw[O];omega);rw[this] at hr;cases hr;rfl
 have avm:cur.size=cap:=(by simpa using dP)
 by_cases amJ:n+s.size<=cap
 ·left;have:=Go.Lib.run_append_room_string (P:=P) w t u ty e i ht hu hi E g n cap cur hg s amJ w4;rw[this] at hr;cases hr;rfl
 right;have holds:∀j u,xs[j]?=some u->w.cell? ((⟨g,0,none⟩:Addr).add j)=some u:=fQ.cells (g:=g) rfl;have:=Go.Lib.run_append_grow_string (P:=P) w t u ty e i (.int .u8 0) ht hu hi hz ⟨g,0,none⟩ n cap xs (by rw[E];simpa using gp) holds s w4 w4 (by rw[O];exact growslice_fits w4 w4);rw[this] at hr;cases hr;rfl
def qT(b:List UInt8):List D:=b.map xW
theorem LK {s:Operand} {t u:TypeId} {v I:Value} {w w':World} {a:Act} (ho:o.op = .call {callee:=.builtin .append,args:=#[s,y],argTypes:=#[t,u]}) (hs:a.eval s=v) {z:Value} (hy:a.eval y=z)
  (E:(Builtin.append_ #[t,u] o.type #[v,z]).run P w = .ok I w'):(execOp a.eval o).run P w = .ok (.value I) w':=by
 unfold execOp;simp[ho,resolve,invoke,builtin,hs,hy,E]
theorem aey {s:Operand} {cs:List D} {str:ByteArray} (ho:o.op = .call {callee:=.builtin .append,args:=#[s,y],argTypes:=#[t,u]}) (hd:o.dst=some tt)
  (ht:P.underlying t=some (.slice e)) (hu:P.underlying u=some .string) (hi:(P.info? e).map (fun i=>(i.zero,i.size,i.bytes))=some (some (.int .u8 0),1,1))
  (hs:aK x s = .v (.slice ad n cap)) (Db:bF e 1 cs n ad cap Sq) (hp:x.S=Sq++R) (hl:cs.length=n) (hy:aK x y = .v (.string str)) (lX:n+str.size<=maxLen) (O:n+str.size<=140737488355328) (hne:isMap e=false:=by rfl) :
  gL P G x o (aq Sq) (fun y=>∃iF bj S',bF e 1 (cs++qT str.data.toList) (n+str.size) iF bj S'/\y=⟨x.n,(tt,.v (.slice iF (n+str.size) bj))::x.env,S'++R⟩):=fun C a w K Q hG h hK=>by
 obtain⟨i,mM,nr,rm,su⟩:=BQ hi;have aow:(Go.Lib.strCells str).length=str.size:=Go.Lib.strCells_length str;have RN:(qT str.data.toList).length=str.size:=(by simp[qT])
 have U:∀j (hj:j<str.size),∃u,(Go.Lib.strCells str)[j]?=some u/\∀h:j<(qT str.data.toList).length,cG w (live C.X x.S) (qT str.data.toList)[j] u:=fun j hj=>by
  have h1:j<str.data.toList.length:=(by rw[Array.length_toList];exact hj)
  refine⟨.int .u8 (str.data.toList[j]).toNat,by rw[Go.Lib.strCells,getElem?_map,getElem?_eq_getElem h1];rfl,fun h=>?_⟩;simp only[qT,getElem_map];exact .v _
 rcases Db with ⟨rfl,rfl,rfl,rfl,rfl⟩|⟨b,rfl,h1,h2,rfl⟩
 ·rw[nil_append] at hp;by_cases hm:str.size=0
  ·have hd0:qT str.data.toList=[]:=eq_nil_of_length_eq_zero (by rw[RN,hm]);have hn:Go.Lib.strCells str=[]:=eq_nil_of_length_eq_zero (by rw[aow];exact hm);have hf:=Go.Lib.run_firstCells_string (P:=P) w 1 str;rw[hm] at hf;have I:(Builtin.append_ #[t,u] o.type #[.slice none 0 0,.string str]).run P w = .ok (.slice none 0 0) w:=by
    simp[Builtin.append_,run_underlying ht,run_underlying hu,sizeOf,typeInfo,mM,rm,Builtin.lenOf,hm,hf]
   unfold Oper.wp;rw[LK (P:=P) ho (h.flat hs) (h.flat hy) I,Oper.upon_value,hd];refine hK ⟨x.n,(tt,.v (.slice none (0+str.size) 0))::x.env,[]++R⟩ _ _ ⟨none,0,[],.inl ⟨by omega,by rw[hd0];rfl,rfl,rfl,rfl⟩,rfl⟩ ?_ (nT.refl _ _) ?_
   ·have e1:(.slice none 0 0:Value) = .slice none (0+str.size) 0:=(by rw[hm])
    rw[e1,nil_append,<-hp];exact h.put (.v _)
   rw[nil_append,hp];exact Fr.refl _ _
  have fQ:w.ownsRow 0 e 1 (.slice none 0 0) 0 []:=⟨by simp,.inl ⟨rfl,rfl⟩⟩
  obtain⟨v',w',I,q2,q3,_,Z⟩:=Tt (P:=P) 0 t u o.type e i ht hu mM nr rm su _ 0 _ fQ str lX O (Nat.zero_le _);simp only[Nat.zero_add,nil_append] at q2;obtain⟨g,E,rfl,_,aa⟩:=q2.form w4;have q6:(none:Option Nat)=some g\/g=w.heap.size:=by
   rcases Z with Z|Z
   ·simp[Value.ownBlock] at Z
   right;simpa[Value.ownBlock] using Z
  obtain⟨_,q2⟩:=q2;rcases q2 with ⟨q2,_⟩|⟨g',bj,nL,e1,_,e2,e3,e4,e5,e6⟩
  ·cases q2
  have F3:g=g'/\E=bj:=(by simpa using e1)
  obtain⟨rfl,rfl⟩:=F3;rw[Nat.mul_one] at e5 e6;obtain⟨s1,s2,s3⟩:=h.grown (hne:=hne) (t:=tt) (m:=str.size) (e:=e) (sz:=1) (S:=x.S) (cs:=qT str.data.toList) (row:=none) (g:=g) (cap:=E) (Sublist.refl _) (fun k' tu=>by cases tu) q3 q6 aa e2 w4 w4 (fun j hj=>by
    obtain⟨u,AF,AG⟩:=U j w4;refine⟨u,?_,AG hj⟩;rw[<-AF,<-e6,getElem?_take_of_lt w4,Array.getElem?_toList])
  unfold Oper.wp;rw[LK (P:=P) ho (h.flat hs) (h.flat hy) I,Oper.upon_value,hd];refine hK ⟨x.n,(tt,.v (.slice (some ⟨g,0,none⟩) (0+str.size) E))::x.env,[⟨g,e,E*1,[]++qT str.data.toList⟩]++R⟩ _ _ ⟨_,E,_,.inr ⟨g,rfl,by omega,e4,rfl⟩,rfl⟩ ?_ s2 ?_
  ·rw[Nat.zero_add,nil_append,<-hp];exact s1
  rw[nil_append,<-hp];exact s3
 have hk:x.S[0]?=some (⟨b,e,cap*1,cs⟩:ag):=(by rw[hp];rfl)
 obtain⟨r0,cur,r1,r2,r3,r4⟩:=h.gh hk;simp only at r0 r1 r2 r3 r4;rw[lO hne] at r1;rw[Nat.mul_one] at r2 r3;have fQ:w.ownsRow 0 e 1 (.slice (some ⟨b,0,none⟩) n cap) n (cur.toList.take n) :=
  ⟨by simp;omega,.inr ⟨b,cap,cur,rfl,Nat.zero_le _,r1,h1,h2,by omega,by rw[Nat.mul_one]⟩⟩
 obtain⟨v',w',I,q2,q3,q4,Z⟩:=Tt (P:=P) 0 t u o.type e i ht hu mM nr rm su _ n _ fQ str lX O (Nat.zero_le _);obtain⟨_,q2⟩:=q2;rcases q2 with ⟨q2,_⟩|⟨g,E,nL,rfl,_,e2,e3,e4,e5,e6⟩
 ·have:=(q4.1 q2).1;cases this
 have q6:(some b:Option Nat)=some g\/g=w.heap.size:=by
  rcases Z with Z|Z
  ·exact .inl Z.symm
  right;simpa[Value.ownBlock] using Z
 rw[Nat.mul_one] at e5 e6;have aa:g<w'.heap.size:=by
  rcases Nat.lt_or_ge g w'.heap.size with hh|hh
  ·exact hh
  rw[Array.getElem?_eq_none hh] at e2;cases e2
 have hR:R=x.S.eraseIdx 0:=(by rw[hp];rfl)
 obtain⟨s1,s2,s3⟩:=h.grown (hne:=hne) (t:=tt) (m:=n+str.size) (e:=e) (sz:=1) (S:=x.S.eraseIdx 0) (cs:=cs++qT str.data.toList) (row:=some b) (g:=g) (cap:=E) (eraseIdx_sublist _ _) (fun k' tu=>by
   have:b=k':=(by simpa using tu)
   subst this;refine⟨mem_map.2 ⟨_,mem_of_getElem? hk,rfl⟩,fun hm=>?_⟩;have KY:(aq x.S).Perm (b::aq (x.S.eraseIdx 0)):=(by have:=(xu hk).map ag.b;simpa[aq] using this)
   exact(nodup_cons.1 (KY.nodup_iff.1 h.own.apart)).1 hm) q3 q6 aa e2 w4 yy (fun j hj=>by
   rw[length_append] at hj;have E5:nL[j]?=(cur.toList.take n++Go.Lib.strCells str)[j]?:=(by rw[<-e6,getElem?_take_of_lt w4,Array.getElem?_toList])
   rw[E5];have yz:(cur.toList.take n).length=n:=(by simp;omega)
   by_cases mN:j<n
   ·obtain⟨u,hu,hq⟩:=r4 j w4;refine⟨u,?_,?_⟩
    ·rw[getElem?_append_left w4,getElem?_take_of_lt mN,Array.getElem?_toList,hu]
    rw[getElem_append_left w4];exact hq
   obtain⟨u,AF,AG⟩:=U (j-n) w4;refine⟨u,?_,?_⟩
   ·rw[getElem?_append_right w4,yz,AF]
   rw[getElem_append_right w4];have:=AG w4;simp only[hl];exact this)
 unfold Oper.wp;rw[LK (P:=P) ho (h.flat hs) (h.flat hy) I,Oper.upon_value,hd];refine hK ⟨x.n,(tt,.v (.slice (some ⟨g,0,none⟩) (n+str.size) E))::x.env,[⟨g,e,E*1,cs++qT str.data.toList⟩]++R⟩ _ _ ⟨_,E,_,.inr ⟨g,rfl,e3,e4,rfl⟩,rfl⟩ ?_ (by simpa[aq] using s2) ?_
 ·rw[hR];exact s1
 rw[hR];exact s3
theorem aeR {s:Operand} {cs:List D} {str:ByteArray} (hw:cH ops x o true) (ho:o.op = .call {callee:=.builtin .append,args:=#[s,y],argTypes:=#[t,u]}) (hd:o.dst=some tt)
  (ht:P.underlying t=some (.slice e)) (hu:P.underlying u=some .string) (hi:(P.info? e).map (fun i=>(i.zero,i.size,i.bytes))=some (some (.int .u8 0),1,1))
  (hs:aK x s = .v (.slice ad n cap)) (I:bF e 1 cs n ad cap Sq) (hp:x.S.Perm (Sq++R)) (hl:cs.length=n) (hy:aK x y = .v (.string str)) (O:n+str.size<=maxLen) (E:n+str.size<=140737488355328)
  (K:∀iF bj S',bF e 1 (cs++qT str.data.toList) (n+str.size) iF bj S'->OD P C ops l ⟨x.n,(tt,.v (.slice iF (n+str.size) bj))::x.env,S'++R⟩ Q) (hne:isMap e=false:=by rfl):OD P C ops (o::l) x Q:=by
 refine cg hp ?_;have U:cH ops ⟨x.n,x.env,Sq++R⟩ o true:=fun C a w hs=>hw C a w ((Wk.perm (n:=x.n) (env:=x.env) hp.symm) C a w hs);have Z:aK ⟨x.n,x.env,Sq++R⟩ s = .v (.slice ad n cap):=(by rw[<-hs];cases s<;>rfl)
 have RO:aK ⟨x.n,x.env,Sq++R⟩ y = .v (.string str):=(by rw[<-hy];cases y<;>rfl)
 exact OD.gN U (aey (hne:=hne) ho hd ht hu hi Z I rfl hl RO O E) fun y ⟨iF,bj,S',h1,hy⟩=>hy ▸ K iF bj S' h1
theorem tN {g:α->List D} {ls new:List α} {s:Operand} {bytes:Nat} {z:Value} (hg:∀a,(g a).length=sz) (hg1:∀a,(g a).all one=true) (hw:cH ops x o true) (ho:o.op = .call {callee:=.builtin .append,args:=#[s,y],argTypes:=#[t,t]}) (hd:o.dst=some tt)
  (ht:P.underlying t=some (.slice e)) (hi:(P.info? e).map (fun i=>(i.zero,i.size,i.bytes))=some (some z,sz,bytes)) (fK:z.cells.size=sz) (O:0<sz) (hu:∀w,(underlying t).run P w = .ok (.slice e) w) (U:∀w,(sizeOf e).run P w = .ok sz w)
  (hs:aK x s = .v (.slice ad ls.length cap)) (I:bF e sz (ls.flatMap g) ls.length ad cap Sq) (hp:x.S.Perm (Sq++R))
  (hy:aK x y = .list sz (new.flatMap g) new.length) (Z:ls.length+new.length<=maxLen) (E:(ls.length+new.length)*bytes<=140737488355328)
  (K:∀iF bj S',bF e sz ((ls++new).flatMap g) (ls++new).length iF bj S'->OD P C ops l ⟨x.n,(tt,.v (.slice iF (ls++new).length bj))::x.env,S'++R⟩ Q) (hne:isMap e=false:=by rfl):OD P C ops (o::l) x Q:=by
 rcases Nat.eq_zero_or_pos new.length with h0|h0
 ·have hn:new=[]:=eq_nil_of_length_eq_zero h0;subst hn;refine qM hw hd (TC ho hu U hs I.le hy) ?_;have:=K ad cap Sq (by rw[append_nil];exact I);rw[append_nil] at this;exact fF (Wk.perm (n:=x.n) hp) this
 exact gi (hne:=hne) hg hg1 hw ho hd ht hi fK O hs I hp hy h0 Z E fun b' bj h1 h2=>K _ bj _ (cj h1 h2)
theorem aeS {t e:TypeId} {vs:List Value} (ho:o.op = .slice t y none none none) (hy:aK x y = .v (.pointer (some ⟨b,0,none⟩))) (hg:(b,vs)∈G)
  (I:∀w,(underlying t).run P w = .ok (.array n e) w) (hs:∀w,(sizeOf e).run P w = .ok sz w) (hl:vs.length=n*sz) (hn:n≠0) (gZ:n<=maxLen) (tr:vs.all ud=true:=by rfl):cu P G x o .none (.list sz (vs.map .v) n):=fun C a w hG h=>by
 subst hG;obtain⟨⟨q1,q2,q3⟩,O⟩:=h.fE _ hg;refine⟨.slice (some ⟨b,0,none⟩) n n,.list sz (vs.map .v) n b 0 n (fun i=>vs.getD i undef) zQ (Nat.le_refl _) gZ (Nat.lt_of_lt_of_le q1 h.fr.size) (fun hl=>hl.elim q3 (h.fr.block b q1 q2).2) (fun i hi=>?_) (fun i hi=>?_),fun w' _=>?_⟩
 ·have E:i<vs.length:=(by simpa using hi)
  have:=(h.aC hg (getElem?_eq_getElem E)).cell (VF tr (getElem?_eq_getElem E));rw[Nat.zero_add,this];simp[E]
 ·have E:i<vs.length:=(by simpa using hi)
  simp only[getElem_map,getD_eq_getElem?_getD,getElem?_eq_getElem E,Option.getD_some];exact .v _
 unfold execOp;have b3:(Instr.sliceBounds false n n none none none).run P w' = .ok (0,n,n) w':=(by unfold Instr.sliceBounds;simp)
 simp only[ho,h.flat hy,Instr.sliceAt,I,Instr.sureAddr,Sem.run_bind,Result.andThen_ok,Option.map_none,Sem.run_pure,b3,hs,Nat.sub_zero];rw[if_neg hn];simp[Addr.add_mid]
theorem Xp {g:α->List D} {ls:List α} {t e:TypeId} {l' h':Nat} {vs:List Value} (hg:(b,vs)∈G) (hv:vs.map D.v=ls.flatMap g) (E:n=ls.length)
  (I:∀w,(underlying t).run P w = .ok (.array n e) w) (hs:∀w,(sizeOf e).run P w = .ok sz w) (hl:vs.length=n*sz) (hn:n≠0) (gZ:n<=maxLen) (tr:vs.all ud=true:=by rfl):Rs P G t none none l' h' (.v (.pointer (some ⟨b,0,none⟩))) (.list sz (ls.flatMap g) ls.length):=fun x o y ho hy _ _=>by
 have:=aeS (P:=P) (G:=G) ho hy hg I hs hl hn gZ tr;rw[hv,E] at this;exact this
theorem vb{x y:Bool}(h:x=y):D.v (.bool x)=D.v (.bool y):=by rw[h]
theorem vi{k:IntKind}{x y:Int}(h:x=y):D.v (.int k x)=D.v (.int k y):=by rw[h]
theorem vs{x y:ByteArray}(h:x=y):D.v (.string x)=D.v (.string y):=by rw[h]
def cB(b:UInt8):List D:=[xW b]
theorem qS(b:UInt8):(cB b).length=1:=rfl
theorem zz(b:UInt8):(cB b).all one=true:=rfl
theorem Ox(bs:List UInt8):bs.flatMap cB=bs.map xW:=by
 induction bs with
 | nil=>rfl
 | cons a r ih=>rw[flatMap_cons,ih];rfl
theorem ah9(bs:List UInt8):qT bs=bs.flatMap cB:=(Ox bs).symm
def cS(s:ByteArray):List D:=[.v (.string s)]
theorem kG(s:ByteArray):(cS s).length=1:=rfl
theorem aeq{s t e:TypeId}{bs:List UInt8}(ho:o.op = .convert s t y)(hy:aK x y = .list 1 (bs.flatMap cB) n)(hs:P.underlying s=some (.slice e))(he:P.underlying e=some (.int .u8))(ht:P.underlying t=some .string) :
  cu P G x o .kP (.v (.string ⟨bs.toArray⟩)):=aew ho (by rw[hy,Ox]) hs he ht
def oc(s:ByteArray)(k:Nat):UInt8:=s.data.toList.getD k 0
theorem Oy{s:ByteArray}(h:k<s.size):s[k]?=some (oc s k):=by
 have h':k<s.data.size:=h;rw[getElem?_pos s k h];congr 1;show s.data[k]=_;simp only[oc,getD_eq_getElem?_getD,Array.getElem?_toList,Array.getElem?_eq_getElem h',Option.getD_some]
theorem lA(s:ByteArray):s.data.toList.length=s.size:=by rw[Array.length_toList];rfl
theorem zf(s:ByteArray):s.toList=s.data.toList:=by rw[ByteArray.toList_eq]
theorem L7{s:ByteArray}(h:k<s.data.toList.length):s.data.toList[k]=oc s k:=by simp only[oc,getD_eq_getElem?_getD,getElem?_eq_getElem h,Option.getD_some]
theorem alr{s:ByteArray}(h:(!(s.toList==(⟨#[]⟩:ByteArray).toList))=true):0<s.size:=by
 rcases Nat.eq_zero_or_pos s.size with h0|h0
 ·have:s.data.toList=[]:=eq_nil_of_length_eq_zero (by rw[lA,h0]);rw[zf,zf,this] at h;cases h
 exact h0
theorem xD{s:ByteArray}:(s.toList==(⟨#[]⟩:ByteArray).toList)=decide (s.size=0):=by
 rw[Bool.eq_iff_iff,beq_iff_eq,decide_eq_true_eq,zf,zf,<-lA];exact⟨fun h=>by rw[h];rfl,fun h=>eq_nil_of_length_eq_zero h⟩
theorem zm{s t:ByteArray}(h:s.data.toList=t.data.toList):s=t:=by
 obtain⟨⟨a⟩⟩:=s;obtain⟨⟨b⟩⟩:=t;simp only at h;rw[h]
def jQ(a b:ByteArray):Bool:=a.toList==b.toList
theorem vY{a b:ByteArray}:jQ a b=true↔a=b:=by
 unfold jQ;rw[beq_iff_eq,zf,zf];exact⟨zm,fun h=>by rw[h]⟩
theorem bF.str{s:ByteArray}(h:bF e 1 (ls.flatMap cB++qT s.data.toList) (ls.length+s.size) ad cap S):bF e 1 ((ls++s.data.toList).flatMap cB) (ls++s.data.toList).length ad cap S:=by
 rw[flatMap_append,<-ah9 s.data.toList,length_append,lA];exact h
theorem aez {s:Operand} {str:ByteArray} (hw:cH ops x o true) (ho:o.op = .call {callee:=.builtin .append,args:=#[s,y],argTypes:=#[t,u]}) (hd:o.dst=some tt)
  (ht:P.underlying t=some (.slice e)) (U:P.underlying u=some .string) (hi:(P.info? e).map (fun i=>(i.zero,i.size,i.bytes))=some (some (.int .u8 0),1,1))
  (hs:aK x s = .v (.slice ad ls.length cap)) (I:bF e 1 (ls.flatMap cB) ls.length ad cap Sq) (hp:x.S.Perm (Sq++R)) (hy:aK x y = .v (.string str)) (O:ls.length+str.size<=maxLen) (E:ls.length+str.size<=140737488355328)
  (K:∀iF bj S',bF e 1 ((ls++str.data.toList).flatMap cB) (ls++str.data.toList).length iF bj S'->OD P C ops l ⟨x.n,(tt,.v (.slice iF (ls++str.data.toList).length bj))::x.env,S'++R⟩ Q) (hne:isMap e=false:=by rfl):OD P C ops (o::l) x Q :=
 aeR (hne:=hne) hw ho hd ht U hi hs I hp (by rw[dg qS,Nat.mul_one]) hy O E fun iF bj S' h=>by
  have:=K iF bj S' h.str;rw[length_append,lA] at this;exact this
def dD(p:α->Bool)(ls:List α):Int:=match ls.findIdx? p with|some i=>i|none=>-1
theorem y9{p:α->Bool}{ls:List α}(hk:k<ls.length)(h0:∀x∈ls.take k,p x=false)(h1:p ls[k]=true):dD p ls=k:=by
 have:ls.findIdx? p=some k:=by
  rw[findIdx?_eq_some_iff_getElem];refine⟨hk,h1,fun j hj=>?_⟩;have:=h0 ls[j] (mem_take_iff_getElem.2 ⟨j,by omega,rfl⟩);simp[this]
 simp[dD,this]
theorem xq{p:α->Bool}{ls:List α}(hk:¬(k<ls.length))(h0:∀x∈ls.take k,p x=false):dD p ls = -1:=by
 have:ls.findIdx? p=none:=by
  rw[findIdx?_eq_none_iff];intro x hx;rw[take_of_length_le w4] at h0;exact h0 x hx
 simp[dD,this]
theorem VQ{p:α->Bool}{ls:List α}:decide (dD p ls>=0)=ls.any p:=by
 unfold dD;cases h:ls.findIdx? p with
 | none =>
  have:=findIdx?_eq_none_iff.1 h;simp;exact this
 | some i =>
  obtain⟨h1,h2,_⟩:=findIdx?_eq_some_iff_getElem.1 h;simp only[ge_iff_le,Int.natCast_nonneg,decide_true];exact(any_eq_true.2 ⟨_,getElem_mem h1,h2⟩).symm
theorem BB{p:α->Prop}{ls:List α}(hk:k<ls.length)(h0:∀x∈ls.take k,p x)(h1:p ls[k]):∀x∈ls.take (k+1),p x:=by
 rw[take_succ_eq_append_getElem hk];intro x hx;rcases mem_append.1 hx with hx|hx
 ·exact h0 x hx
 simp only[mem_singleton] at hx;subst hx;exact h1
end
section
variable {P:Program} {C:ey} {G:List (Nat×List Value)} {Q:Exit->St->Prop} {ops:Array Oper} {l l2:List Oper} {o:Oper} {n t:Nat} {d:D} {e e' l':List (Nat×D)} {S:List ag} {ts:List Nat} {c:Bool}
variable {q:Nat} {ld:Array Bool}
theorem BU{a:Act}{w:World}{K:Act->World->Prop}{R:Exit->Act->World->Prop}(h:o.wp P a w K R):o.wp P a w (fun a' w'=>K a' w'/\∃v,a'.tmps=(a.put o.dst v).tmps) R:=by
 unfold Oper.wp at *;generalize (execOp a.eval o).run P w=r at *;cases r with
 | ok x w' =>
  cases x<;>simp only[Oper.upon] at h |- <;>
   first
    | exact⟨h,_,rfl⟩
    | exact Calls.mono h (fun e E he=>by cases e<;>first|exact⟨he,_,rfl⟩|exact he)
    | exact Rows.mono h (fun _ _ he=>⟨he,_,rfl⟩)
    | (refine⟨h,undef,?_⟩;unfold Act.put;cases o.dst<;>rfl)
 | halt x w'=>cases x<;>simp only[Oper.upon] at h |-<;>exact h
theorem cf.Cg{a a':Act}{w w':World}{v:Value}(h:cf C ⟨n,e,S⟩ a w)(k:cf C ⟨n,(t,d)::l',S⟩ a' w')(hf:Fr w (aq S) w' (aq S))(hv:a'.tmps=(a.put (some t) v).tmps):cf C ⟨n,(t,d)::e,S⟩ a' w':=by
 refine⟨k.defers,k.size,fun q hq=>?_,k.own,k.fr,k.ex,k.fE⟩;by_cases E:t=q
 ·subst E;have:=k.env t hq;simp only[gQ,if_pos] at this |-;exact this
 have h1:=h.env q hq;have h2:a'.tmps.getD q undef=a.tmps.getD q undef:=(by rw[hv];simp[Act.put,Array.getD_eq_getD_getElem?,Array.getElem?_setIfInBounds,E])
 simp only[gQ,if_neg E];rw[h2];exact h1.mono fun b hb hn=>⟨(hf.block b hb (fun hm=>hn (.inr hm))).1,hn⟩
theorem gL.Cg(hd:o.dst=some t)(h:gL P G ⟨n,l',S⟩ o [] (fun y=>y=⟨n,(t,d)::l',S⟩))(hs:pA e l'):gL P G ⟨n,e,S⟩ o [] (fun y=>y=⟨n,(t,d)::e,S⟩):=fun C a w K R hG E hK=>by
 have h1:=h C a w (fun a' w'=>cf C ⟨n,(t,d)::l',S⟩ a' w'/\nT [] w w'/\Fr w (aq S) w' (aq S)) R hG (Wk.l8 hs C a w E) (fun y a' w' hy I hc hf=>by subst hy;exact⟨I,hc,hf⟩);refine Oper.wp_mono (fun a' w' h2=>?_) (BU h1);obtain⟨⟨h3,h4,h5⟩,v,h6⟩:=h2;rw[hd] at h6;exact hK _ a' w' rfl (E.Cg h3 h5 h6) h4 h5
def oo(ops:Array Oper)(o:Oper)(ts:List Nat):Bool:=(range ops.size).all fun j=>match ops[j]? with
 | some p=>(match p.dst with
  | some t=>!(ts.elem t)||o.after.any (fun e=>Region.binds .any e&&Nat.beq e.on j)
  | none=>true)
 | none=>true
def nu(ops:Array Oper):Bool:=(range ops.size).all fun i=>match ops[i]? with
 | some o=>o.after.all (fun e=>!Region.binds .any e||Nat.blt e.on i)&&(match o.dst with
  | some t=>(range i).all fun j=>match ops[j]? with
   | some p=>(match p.dst with|some q=>!(Nat.beq q t)|none=>true)
   | none=>true
  | none=>false)
 | none=>true
inductive PD (c:Bool) (P:Program) (G:List (Nat×List Value)) (n:Nat) (S:List ag) (ops:Array Oper):List Oper->List (Nat×D)->List Oper->List (Nat×D)->Prop
 | nil {l:List Oper} {e:List (Nat×D)}:PD c P G n S ops l e l e
 | cons {o:Oper} {l l2:List Oper} {t:Nat} {d:D} {e e' l':List (Nat×D)} {ts:List Nat} (hd:o.dst=some t) (hr:fZ ts e l') (hq:(!c||oo ops o ts)=true) (hw:cH ops ⟨n,l',S⟩ o true)
   (h:gL P G ⟨n,l',S⟩ o [] (fun y=>y=⟨n,(t,d)::l',S⟩)) (k:PD c P G n S ops l ((t,d)::e) l2 e'):PD c P G n S ops (o::l) e l2 e'
 | skip {o:Oper} {l l2:List Oper} {t:Nat} {e e' l':List (Nat×D)} {ts:List Nat} (hd:o.dst=some t) (hr:fZ ts e l') (hq:(!c||oo ops o ts)=true) (hw:cH ops ⟨n,l',S⟩ o false)
   (k:PD c P G n S ops l ((t,.v (.tuple #[]))::e) l2 e'):PD c P G n S ops (o::l) e l2 e'
theorem PD.od(h:PD c P C.G n S ops l e l2 e')(K:OD P C ops l2 ⟨n,e',S⟩ Q):OD P C ops l ⟨n,e,S⟩ Q:=by
 induction h with
 | nil=>exact K
 | cons hd hr hq hw h k ih=>exact OD.gN (fun C a w hs=>hw C a w (Wk.l8 hr.l8 C a w hs)) (h.Cg hd hr.l8) fun y hy=>by subst hy;exact ih K
 | skip hd hr hq hw k ih=>exact Xe (fun C a w hs=>hw C a w (Wk.l8 hr.l8 C a w hs)) hd (ih K)
def Gd(P:Program)(G:List (Nat×List Value))(n:Nat)(S:List ag)(ops:Array Oper)(eF:List (Nat×D))(i:Nat):Prop :=
 ∃o t ts l',ops[i]?=some o/\o.dst=some t/\oo ops o ts=true/\(∀p∈l',p.1∈ts/\look p.1 eF=look p.1 l')/\l'.map (·.1)=ts /\
  ((cH ops ⟨n,l',S⟩ o true/\gL P G ⟨n,l',S⟩ o [] (fun y=>y=⟨n,(t,look t eF)::l',S⟩))\/(cH ops ⟨n,l',S⟩ o false/\look t eF = .v (.tuple #[])))
theorem fZ.keys(h:fZ ts e l'):l'.map (·.1)=ts:=by
 induction h with
 | nil=>rfl
 | cons h k ih=>rw[map_cons,ih]
theorem fZ.at(h:fZ ts e l')(hq:q∈ts):look q l'=look q e:=by
 induction h with
 | nil=>cases hq
 | @cons t ts d e l' h k ih =>
  rw[gQ];by_cases E:t=q
  ·subst E;rw[if_pos rfl,h]
  rw[if_neg E];rcases mem_cons.1 hq with rfl|hm
  ·exact absurd rfl E
  exact ih hm
theorem zx(h:nu ops=true){i:Nat}{o:Oper}(hi:ops[i]?=some o):(∀e∈o.after,Region.binds .any e=true->e.on<i)/\∃t,o.dst=some t/\∀j p,j<i->ops[j]?=some p->p.dst≠some t:=by
 have aa:=(Array.getElem?_eq_some_iff.1 hi).1;have:=all_eq_true.1 h i (mem_range.2 aa);simp only[hi,Bool.and_eq_true] at this;obtain⟨h1,h2⟩:=this;refine⟨fun e he hb=>?_,?_⟩
 ·have:=Array.all_eq_true'.1 h1 e he;simp only[hb,Bool.not_true,Bool.false_or] at this;exact Nat.le_of_ble_eq_true this
 cases hd:o.dst with
 | none=>rw[hd] at h2;cases h2
 | some t =>
  rw[hd] at h2;refine⟨t,rfl,fun j p hj hp hq=>?_⟩;have:=all_eq_true.1 h2 j (mem_range.2 hj);simp only[hp,hq,Bool.not_eq_true'] at this;have h3:Nat.beq t t=true:=Nat.beq_refl t;rw[h3] at this;cases this
theorem Iq(h:oo ops o ts=true){j:Nat}{p:Oper}(hj:ops[j]?=some p)(hp:p.dst=some q)(hq:q∈ts):∃e∈o.after,Region.binds .any e=true/\e.on=j:=by
 have aa:=(Array.getElem?_eq_some_iff.1 hj).1;have:=all_eq_true.1 h j (mem_range.2 aa);simp only[hj,hp] at this;rw[show ts.elem q=true from elem_eq_true_of_mem hq] at this;simp only[Bool.not_true,Bool.false_or] at this;obtain⟨e,he,hb⟩:=Array.any_eq_true'.1 this;rw[Bool.and_eq_true] at hb;exact⟨e,he,hb.1,Nat.eq_of_beq_eq_true hb.2⟩
theorem PD.later(h:PD c P G n S ops l e l2 e')(hq:∀o∈l,o.dst≠some q):look q e'=look q e:=by
 induction h with
 | nil=>rfl
 | @cons o l l2 t d e e' l' ts hd hr C3 hw h k ih =>
  rw[ih fun p hp=>hq p (mem_cons_of_mem _ hp),gQ,if_neg (fun e1:t=q=>hq o mem_cons_self (by rw[<-e1];exact hd))]
 | @skip o l l2 t e e' l' ts hd hr C3 hw k ih =>
  rw[ih fun p hp=>hq p (mem_cons_of_mem _ hp),gQ,if_neg (fun e1:t=q=>hq o mem_cons_self (by rw[<-e1];exact hd))]
theorem PD.wL(hp:nu ops=true)(h:PD true P G n S ops l e l2 e'):l2=[]->∀k,ops.toList.drop k=l->∀i,k<=i->i<ops.size->Gd P G n S ops e' i:=by
 induction h with
 | nil =>
  intro hU k hk i h1 h2;rw[hU,drop_eq_nil_iff] at hk;simp at hk;omega
 | @cons o l l2 t d e e' l' ts hd hr C3 hw h k0 ih =>
  intro hU k hk i h1 h2;have bf:ops.toList[k]?=some o:=(by rw[<-head?_drop,hk];rfl)
  have Cv:ops[k]?=some o:=(by rw[<-Array.getElem?_toList];exact bf)
  have iG:ops.toList.drop (k+1)=l:=(by rw[<-drop_drop,hk];rfl)
  rcases Nat.eq_or_lt_of_le h1 with rfl|h1
  ·have lV:∀j p,k<j->ops[j]?=some p->p.dst≠some t:=fun j p hj KH jR=>by
    exact z143
   have aa:∀p∈l,p.dst≠some t:=fun p fC=>by
    exact aaL
   have E:look t e'=d:=(by rw[k0.later aa,gQ,if_pos rfl])
   refine⟨o,t,ts,l',Cv,hd,by simpa using C3,fun p fC=>?_,hr.keys,.inl ⟨hw,by rw[E];exact h⟩⟩;exact z58
  exact ih hU (k+1) iG i h1 h2
 | @skip o l l2 t e e' l' ts hd hr C3 hw k0 ih =>
  intro hU k hk i h1 h2;have bf:ops.toList[k]?=some o:=(by rw[<-head?_drop,hk];rfl)
  have Cv:ops[k]?=some o:=(by rw[<-Array.getElem?_toList];exact bf)
  have iG:ops.toList.drop (k+1)=l:=(by rw[<-drop_drop,hk];rfl)
  rcases Nat.eq_or_lt_of_le h1 with rfl|h1
  ·have lV:∀j p,k<j->ops[j]?=some p->p.dst≠some t:=fun j p hj KH jR=>by
    exact z143
   have aa:∀p∈l,p.dst≠some t:=fun p fC=>by
    exact aaL
   have E:look t e' = .v (.tuple #[]):=(by rw[k0.later aa,gQ,if_pos rfl])
   refine⟨o,t,ts,l',Cv,hd,by simpa using C3,fun p fC=>?_,hr.keys,.inr ⟨hw,E⟩⟩;exact z58
  exact ih hU (k+1) iG i h1 h2
def left(N:Nat)(ld:Array Bool):Nat:=((range N).filter fun j=>!ld.getD j true).length
theorem BV{N i:Nat}(hi:i<N)(hl:ld.getD i true=false):left N (ld.setIfInBounds i true)<left N ld:=by
 unfold left;have E:i<ld.size:=by
  rcases Nat.lt_or_ge i ld.size with h|h
  ·exact h
  rw[Array.getD_eq_getD_getElem?,Array.getElem?_eq_none h] at hl;cases hl
 have h1:(range N).filter (fun j=>!(ld.setIfInBounds i true).getD j true)=((range N).filter fun j=>!ld.getD j true).filter (fun j=>!decide (j=i)):=by
  rw[filter_filter];congr 1;funext j;by_cases hj:j=i
  ·subst hj;simp[Array.getD_eq_getD_getElem?,Array.getElem?_setIfInBounds,E]
  simp[Array.getD_eq_getD_getElem?,Array.getElem?_setIfInBounds,hj,Ne.symm hj]
 rw[h1];refine length_filter_lt_length_iff_exists.2 ⟨i,mem_filter.2 ⟨mem_range.2 hi,by simp[hl]⟩,by simp⟩
theorem Oz(hp:nu ops=true)(hr:Region.ready .any ops ld=[]):∀j,j<ops.size->ld.getD j true=true:=fun j=>by
 induction j using Nat.strongRecOn with
 | _ j ih =>
  intro hj;cases hl:ld.getD j true with
  | true=>rfl
  | false =>
   have ho:ops[j]?=some ops[j]:=Array.getElem?_eq_getElem hj;have:j∈Region.ready .any ops ld:=mem_ready.2 ⟨hl,ops[j],ho,fun e he hb=>by
    have aa:=(zx hp ho).1 e he hb;have:=ih e.on aa w4;rw[Array.getD_eq_getD_getElem?] at this |-;cases hq:ld[e.on]? with
    | none =>
     have h3:ld.size<=e.on:=Array.getElem?_eq_none_iff.1 hq;rw[Array.getD_eq_getD_getElem?,Array.getElem?_eq_none w4] at hl;cases hl
    | some b=>rw[hq] at this;exact this⟩
   rw[hr] at this;cases this
theorem HW{q:Nat}:∀{r:List (Nat×D)},¬q∈r.map (·.1)->look q r = .cy
 | [],_=>rfl
 | (p1,p2)::r,hm=>by
  rw[map_cons,mem_cons,not_or] at hm;rw[gQ,if_neg (fun e1=>hm.1 e1.symm)];exact HW hm.2
theorem als{O:List (Nat×D)}{w1:World}{S1:List Nat}(hS1:aq S=S1)(hp:nu ops=true)(H:∀i,i<ops.size->Gd P C.G n S ops O i)(hQ:Q .normal ⟨n,O,S⟩):∀(fuel:Nat) (ld:Array Bool) (env:List (Nat×D)) (a:Act) (w:World),
  left ops.size ld<=fuel->cf C ⟨n,env,S⟩ a w->Fr w1 S1 w S1->(∀q,(∀j o,ops[j]?=some o->o.dst=some q->ld.getD j true=true)->look q env=look q O)->wpAnyH P .any ops (LQ C Q) (mG w1 S1 []) fuel ld a w:=by
 have fG:∀(ld:Array Bool) (env:List (Nat×D)) (a:Act) (w:World),cf C ⟨n,env,S⟩ a w->(∀q,(∀j o,ops[j]?=some o->o.dst=some q->ld.getD j true=true)->look q env=look q O)->(∀j,j<ops.size->ld.getD j true=true)->LQ C Q .normal a w:=fun ld env a w hs he fb =>
  .inl ⟨⟨n,O,S⟩,⟨hs.defers,hs.size,fun q hq=>by have:=hs.env q hq;rw[he q fun j o hj _=>fb j (Array.getElem?_eq_some_iff.1 hj).1] at this;exact this,hs.own,hs.fr,hs.ex,hs.fE⟩,hQ⟩
 intro fuel;induction fuel with
 | zero =>
  intro ld env a w hl hs hf he;have fb:∀j,j<ops.size->ld.getD j true=true:=fun j hj=>by
   cases hq:ld.getD j true with
   | true=>rfl
   | false=>have:=BV hj hq;omega
  refine⟨?_,fG ld env a w hs he fb⟩;rw[eq_nil_iff_forall_not_mem];intro j hj;obtain⟨h1,o,h2,_⟩:=mem_ready.1 hj;have:=fb j (Array.getElem?_eq_some_iff.1 h2).1;rw[h1] at this;cases this
 | succ fuel ih =>
  intro ld env a w hl hs hf he;refine⟨fun h0=>fG ld env a w hs he (Oz hp h0),fun i hi=>?_⟩;obtain⟨oA,o,E,E9⟩:=mem_ready.1 hi;have aa:=(Array.getElem?_eq_some_iff.1 E).1;obtain⟨o',t,ts,l',h1,hd,hq,nU,hk,hb⟩:=H i aa;rw[E] at h1;obtain rfl:=Option.some.inj h1;have aa7:=BV aa oA;have vn:∀j,(ld.setIfInBounds i true).getD j true=true↔j=i\/ld.getD j true=true:=fun j=>by
   by_cases hj:j=i
   ·subst hj;have mL:j<ld.size:=by
     rcases Nat.lt_or_ge j ld.size with h|h
     ·exact h
     rw[Array.getD_eq_getD_getElem?,Array.getElem?_eq_none h] at oA;cases oA
    simp[Array.getD_eq_getD_getElem?,Array.getElem?_setIfInBounds,mL]
   simp[Array.getD_eq_getD_getElem?,Array.getElem?_setIfInBounds,hj,Ne.symm hj]
  have RP:∀{r:List (Nat×D)},(∀p∈r,look p.1 env=p.2)->pA env r:=by
   intro r;induction r with
   | nil=>intro _;trivial
   | cons p r ihr=>intro hr;exact⟨hr p mem_cons_self,ihr fun p' C4=>hr p' (mem_cons_of_mem _ C4)⟩
  have aox:∀p∈l',look p.1 env=look p.1 l':=fun p fC=>by
   obtain⟨h2,h3⟩:=nU p fC;rw[<-h3];refine he p.1 fun j oj hj jR=>?_;obtain⟨e1,vF,iI,lf⟩:=Iq hq hj jR h2;have:=E9 e1 vF iI;rw[lf] at this;rw[Array.getD_eq_getD_getElem?] at this |-;cases hx:ld[j]? with
   | none=>rw[hx] at this;cases this
   | some b=>rw[hx] at this;exact this
  have U:cf C ⟨n,l',S⟩ a w:=⟨hs.defers,hs.size,fun q F9=>by
   by_cases hm:q∈ts
   ·rw[<-hk] at hm;obtain⟨p,fC,rfl⟩:=mem_map.1 hm;have:=hs.env p.1 F9;rw[aox p fC] at this;exact this
   have:look q l' = .cy:=by
    rw[<-hk] at hm;exact HW hm
   rw[this];exact .cy _,hs.own,hs.fr,hs.ex,hs.fE⟩
  have j8:∀(a':Act) (w':World),cf C ⟨n,(t,look t O)::env,S⟩ a' w'->Fr w (aq S) w' (aq S)->mG w1 S1 [] w'/\wpAnyH P .any ops (LQ C Q) (mG w1 S1 []) fuel (ld.setIfInBounds i true) a' w':=fun a' w' Z iH=>by
   have mP:Fr w1 S1 w' S1:=hf.trans (hS1 ▸ iH);refine⟨⟨fun b h2 h3=>(mP.block b h2 h3).1,fun b h2=>by cases h2⟩,ih _ _ a' w' w4 Z mP fun q uL=>?_⟩;rw[gQ];by_cases I:t=q
   ·rw[if_pos I,I]
   rw[if_neg I];refine he q fun j oj hj jR=>?_;rcases(vn j).1 (uL j oj hj jR) with rfl|h2
   ·rw[E] at hj;obtain rfl:=Option.some.inj hj;rw[hd] at jR;exact absurd (Option.some.inj jR) I
   exact h2
  unfold wpOp;rw[E];rcases hb with ⟨hw,hE⟩|⟨hw,hv⟩
  ·simp only[hw C a w U,if_true];have h2:=hE C a w (fun a' w'=>cf C ⟨n,(t,look t O)::l',S⟩ a' w'/\Fr w (aq S) w' (aq S)) (LQ C Q) rfl U (fun y a' w' hy Z _ iH=>by subst hy;exact⟨Z,iH⟩);refine .inl (Oper.wp_mono (fun a' w' h3=>?_) (BU h2));obtain⟨⟨h4,h5⟩,v,h6⟩:=h3;rw[hd] at h6;exact j8 a' w' (hs.Cg h4 h5 h6) h5
  simp only[hw C a w U,hd];have:=hs.put (t:=t) (.v (w:=w) (L:=live C.X S) undef);rw[hv] at j8;exact j8 _ w this (Fr.refl _ _)
theorem ew.pd(hp:nu ops=true)(h:PD true P C.G n S ops ops.toList e [] e')(hQ:Q .normal ⟨n,e',S⟩):ew P C ops (aq S) [] ops.size (Array.replicate ops.size false) ⟨n,e,S⟩ Q:=fun a w hs _ _=>by
 have hg:=h.wL hp rfl 0 rfl;refine als rfl hp (fun i hi=>hg i (Nat.zero_le _) hi) hQ _ _ e a w ?_ hs (Fr.refl _ _) fun q hq=>?_
 ·unfold left;exact Nat.le_trans (length_filter_le _ _) bC
 refine(h.later fun o ho hd=>?_).symm;obtain⟨j,hj,rfl⟩:=mem_iff_getElem.1 ho;have E:j<ops.size:=(by simpa using hj)
 have:=hq j _ PT hd;simp[Array.getD_eq_getD_getElem?,E] at this
theorem Zt{id:Nat}{E:Bool}(hm:E=true->P.follows .mixedOrders=true)(hp:E=true->nu l.toArray=true)(h:PD E P C.G n S l.toArray l e [] e')(hQ:Q .normal ⟨n,e',S⟩):CD P C (.region id l.toArray E) ⟨n,e,S⟩ Q:=by
 cases E with
 | false=>exact DF (h.od (jX hQ))
 | true=>exact Ny [] (hm rfl) (fun _ hb=>by cases hb) (ew.pd (hp rfl) h hQ)
end
section
variable {P:Program} {G:List (Nat×List Value)} {x:St} {o:Oper} {C:ey} {Q:Exit->St->Prop} {ops:Array Oper} {l:List Oper}
variable {L:Nat->Prop} {ks:List Int} {i b:Nat} {k:Int} {kt:TypeId} {y:Operand}
def xX(ks:List Int):List D:=ks.map fun k=>.v (.int .i64 k)
def mH(b:Nat)(ks:List Int):ag:=⟨b,B0,ks.length,xX ks⟩
theorem aia{w:World}{cur:Array Value}(h2:cur.size=ks.length)(h4:∀i (h:i<(xX ks).length),∃u,cur[i]?=some u/\cG w L (xX ks)[i] u):cur=(ks.map (Value.int .i64)).toArray:=by
 apply Array.ext (by simp[h2]);intro i q1 q2;have hi:i<ks.length:=(by omega)
 obtain⟨u,hu,hr⟩:=h4 i (by simpa[xX] using hi);simp only[xX,getElem_map] at hr;have:=hr.mi;subst this;have e:=(Array.getElem?_eq_some_iff.1 hu).2;rw[e];simp
theorem cf.amK {a:Act} {w:World} (h:cf C x a w) {B B':ag} {nL:Array Value} (hk:x.S[i]?=some B) (hb:B'.b=B.b) (h2:nL.size=B'.size) (h3:B'.cs.length<=B'.size)
  (h4:∀j (hj:j<B'.cs.length),∃u,nL[j]?=some u/\cG w (live C.X x.S) B'.cs[j] u) :
  cf C ⟨x.n,x.env,x.S.set i B'⟩ a {w with heap:=w.heap.setIfInBounds B.b (ob B'.e nL)}/\nT [B.b] w {w with heap:=w.heap.setIfInBounds B.b (ob B'.e nL)}/\Fr w (aq x.S) {w with heap:=w.heap.setIfInBounds B.b (ob B'.e nL)} (aq (x.S.set i B')):=by
 obtain⟨h0,cur,r1,r2,r3,r4⟩:=h.gh hk;generalize I:({w with heap:=w.heap.setIfInBounds B.b (ob B'.e nL)}:World)=w';have i1:w'.heap[B.b]?=some (ob B'.e nL):=(by rw[<-I];simp[h0])
 have i2:∀b,b≠B.b->w'.heap[b]?=w.heap[b]?:=fun b hn=>by rw[<-I];simp[Ne.symm hn]
 have i3:w'.heap.size=w.heap.size:=(by rw[<-I];simp)
 have i4:w'.os=w.os:=(by rw[<-I])
 have i5:w'.tape=w.tape:=(by rw[<-I])
 have i6:w'.output=w.output:=(by rw[<-I])
 have eT:i<x.S.length:=(List.getElem?_eq_some_iff.1 hk).1;have yF:x.S[i]=B:=(List.getElem?_eq_some_iff.1 hk).2;have E:aq (x.S.set i B')=aq x.S:=by
  unfold aq;rw[map_set];apply ext_getElem bC;intro j q1 q2;rw[getElem_set];split
  ·rename_i e;subst e;simp[yF,hb]
  rfl
 have O:live C.X (x.S.set i B')=live C.X x.S:=(by funext b;simp only[live,E])
 have hB:live C.X x.S B.b:=VG hk;have H:∀b,b<w.heap.size->¬live C.X x.S b->w'.heap[b]?=w.heap[b]?/\¬live C.X x.S b:=fun b _ hn=>⟨i2 b (fun e=>hn (e ▸ hB)),hn⟩
 refine⟨⟨h.defers,h.size,fun t ht=>?_,⟨fun B2 hB2=>?_,?_⟩,?_,h.ex,h.fE⟩,⟨by rw[i3];exact Nat.le_refl _,fun b _ hn=>i2 b (by simpa using hn)⟩,?_⟩
 ·simp only[O];exact(h.env t ht).mono H
 ·simp only[O];obtain⟨j,hj,U⟩:=mem_iff_getElem.1 hB2;rw[length_set] at hj;rw[getElem_set] at U;by_cases e:i=j
  ·rw[if_pos e] at U;subst U;refine⟨by rw[i3,hb];exact h0,nL,by rw[hb];exact i1,h2,h3,fun q hq=>?_⟩;obtain⟨u,hu,RQ⟩:=h4 q hq;exact⟨u,hu,RQ.mono H⟩
  rw[if_neg e] at U;subst U;have hne:x.S[j].b≠B.b:=fun he=>by
   have F0:(aq x.S)[j]'Cp=(aq x.S)[i]'Cn:=(by simp[aq,he,yF])
   have hp:=pairwise_iff_getElem.1 h.own.apart;rcases Nat.lt_trichotomy j i with Z|Z|Z
   ·exact hp j i Cp Cn Z F0
   ·exact e Z.symm
   exact hp i j Cn Cp Z F0.symm
  obtain⟨q0,p9,q1,q2,q3,q4⟩:=h.own.at_ x.S[j] (getElem_mem hj);refine⟨by rw[i3];exact q0,p9,(i2 _ hne).trans q1,q2,q3,fun q hq=>?_⟩;obtain⟨u,hu,RQ⟩:=q4 q hq;exact⟨u,hu,RQ.mono H⟩
 ·simp only[E];exact h.own.apart
 ·refine⟨i4.trans h.fr.os,i5.trans h.fr.tape,i6.trans h.fr.output,by rw[i3];exact h.fr.size,fun b lg hn=>?_⟩;obtain⟨q1,q2⟩:=h.fr.block b lg hn;refine⟨(i2 b (fun e=>q2 (e ▸ mem_map.2 ⟨B,mem_of_getElem? hk,rfl⟩))).trans q1,?_⟩;simp only[E];exact q2
 rw[E];exact⟨i4,i5,i6,by rw[i3];exact Nat.le_refl _,fun b lg hn=>⟨i2 b (fun e=>hn (e ▸ mem_map.2 ⟨B,mem_of_getElem? hk,rfl⟩)),hn⟩⟩
theorem ae9{t:TypeId}{tt:Nat}(ho:o.op = .makeMap t none)(hd:o.dst=some tt):gL P G x o [] (fun y=>∃b,y=⟨x.n,(tt,.v (.map (some b)))::x.env,mH b []::x.S⟩):=fun C a w K Q hG h hK=>by
 have:(execOp a.eval o).run P w = .ok (.value (.map (some w.heap.size))) (w.alloc (ob B0 #[])):=by
  unfold execOp;simp[ho,Instr.makeMap,YO,EE]
 unfold Oper.wp;rw[this,Oper.upon_value,hd];exact hK _ _ _ ⟨w.heap.size,rfl⟩ (h.Zq (ds:=[]) (cX.nil _ _) bC (fun L=>.v _)) (nT.alloc _ _) (Fr.alloc _ _ _)
theorem OA{w:World}(h:O7 w L (mH b ks)):w.heap[b]?=some (EE (ks.map (Value.int .i64)).toArray):=by
 obtain⟨h0,cur,h1,h2,h3,h4⟩:=h;have h2:cur.size=ks.length:=h2;have:=aia h2 h4;subst this;exact h1
theorem Xq{e:MapEntry}(h:e∈(Array.mapIdx (fun i k=>(⟨k,.agg #[],i⟩:MapEntry)) (ks.map (Value.int .i64)).toArray).toList):∃k∈ks,e.key = .int .i64 k/\e.val = .agg #[]:=by
 obtain⟨i,hi,rfl⟩:=mem_iff_getElem.1 h;have E:i<ks.length:=(by simpa using hi)
 exact⟨ks[i],getElem_mem E,by simp,by simp⟩
theorem VR:(k∉ks/\Instr.findNow (.int .i64) (.int .i64 k) (Array.mapIdx (fun i k=>(⟨k,.agg #[],i⟩:MapEntry)) (ks.map (Value.int .i64)).toArray).toList 0=some none) \/
  (k∈ks/\∃i,Instr.findNow (.int .i64) (.int .i64 k) (Array.mapIdx (fun i k=>(⟨k,.agg #[],i⟩:MapEntry)) (ks.map (Value.int .i64)).toArray).toList 0=some (some (i,.agg #[]))):=by
 rcases MapKept.findNow_spec (d:=.int .i64) (k:=.int .i64 k) (by simp[MapKept.IsKey]) (Array.mapIdx (fun i k=>(⟨k,.agg #[],i⟩:MapEntry)) (ks.map (Value.int .i64)).toArray).toList 0 (fun e he=>by
   obtain⟨k',_,h1,_⟩:=Xq he;rw[h1];simp[MapKept.IsKey]) with ⟨h1,h2⟩|⟨j,e,h1,h2,h3⟩
 ·refine .inl ⟨fun hm=>?_,h1⟩;obtain⟨i,hi,rfl⟩:=mem_iff_getElem.1 hm;exact h2 ((Array.mapIdx (fun i k=>(⟨k,.agg #[],i⟩:MapEntry)) (ks.map (Value.int .i64)).toArray).toList[i]'(by simpa using hi)) (getElem_mem _) bC
 obtain⟨k',tu,q1,q2⟩:=Xq (mem_of_getElem? h2);rw[h3] at q1;have:k=k':=(by simpa using q1)
 subst this;rw[q2] at h1;exact .inr ⟨tu,_,h1⟩
theorem ago {O U:TypeId} {z:Operand} (ho:o.op = .lookup O y z true) (hy:aK x y = .v (.map (some b))) (hz:aK x z = .v (.int .i64 k)) (hk:x.S[i]?=some (mH b ks))
  (hm:P.underlying O=some (.map kt U)) (E:P.underlying kt=some (.int .i64)) (I:∀w,(zeroValue U).run P w = .ok (.agg #[]) w):cu P G x o (.gh i) (.dF [.v (.agg #[]),.v (.bool (decide (k∈ks)))]):=fun C a w _ h=>by
 have h1:=OA (h.gh hk);refine⟨.tuple #[.agg #[],.bool (decide (k∈ks))],.dF _ [.agg #[],.bool (decide (k∈ks))] rfl (fun j q1 q2=>?_),fun w' hw=>?_⟩
 ·rcases j with _|_|j
  ·exact .v _
  ·exact .v _
  simp at q1;omega
 have Z:w'.heap[b]?=_:=(hw _ hk).trans h1;have pO:=MapKept.run_checkKey (P:=P) (w:=w') (kt:=kt) (d:=.int .i64) (k:=.int .i64 k) E (by simp[MapKept.IsKey]);unfold execOp;rcases VR (ks:=ks) (k:=k) with ⟨n1,n2⟩|⟨n1,j,n2⟩
 ·have hf:=MapKept.run_findKey (P:=P) (w:=w') E n2;simp only[ho,h.flat hy,h.flat hz,Instr.lookup,Sem.run_bind,run_underlying hm,MapKept.run_getObj_map Z,pO,hf,I,Result.andThen_ok,Sem.run_pure,n1,decide_false,if_true]
 have hf:=MapKept.run_findKey (P:=P) (w:=w') E n2;simp only[ho,h.flat hy,h.flat hz,Instr.lookup,Sem.run_bind,run_underlying hm,MapKept.run_getObj_map Z,pO,hf,Result.andThen_ok,Sem.run_pure,n1,decide_true,if_true]
theorem afA {Z et:TypeId} {z u:Operand} (ho:o.op = .mapUpdate Z y z u) (hd:o.dst=none) (hy:aK x y = .v (.map (some b))) (hz:aK x z = .v (.int .i64 k)) (hu:aK x u = .agg []) (hk:x.S[i]?=some (mH b ks)) (hn:k∉ks)
  (hm:P.underlying Z=some (.map kt et)) (I:P.underlying kt=some (.int .i64)):gL P G x o [b] (fun s=>s=⟨x.n,x.env,x.S.set i (mH b (ks++[k]))⟩):=fun C a w K Q hG h hK=>by
 have h1:=OA (h.gh hk);have hv:a.eval u = .agg #[]:=by
  have:=h.eval u;rw[hu] at this;generalize a.eval u=v at this;cases this with
  | agg _ vs hl _ =>
   have:vs=[]:=eq_nil_of_length_eq_zero zQ;subst this;rfl
 have pO:=MapKept.run_checkKey (P:=P) (w:=w) (kt:=kt) (d:=.int .i64) (k:=.int .i64 k) I (by simp[MapKept.IsKey]);have hf:=(VR (ks:=ks) (k:=k)).resolve_right fun q=>hn q.1;have iH:=MapKept.run_findKey (P:=P) (w:=w) I hf.2;have E:Obj.map ((Array.mapIdx (fun i k=>(⟨k,.agg #[],i⟩:MapEntry)) (ks.map (Value.int .i64)).toArray).push ⟨.int .i64 k,.agg #[],(ks.map (Value.int .i64)).toArray.size⟩) ((ks.map (Value.int .i64)).toArray.size+1)=ob B0 (((ks++[k]).map (Value.int .i64)).toArray):=by
  have e:((ks++[k]).map (Value.int .i64)).toArray=(ks.map (Value.int .i64)).toArray.push (.int .i64 k):=(by simp)
  rw[e,YO,EE,Array.mapIdx_push,Array.size_push]
 have O:(execOp a.eval o).run P w = .ok .skip {w with heap:=w.heap.setIfInBounds b (ob B0 (((ks++[k]).map (Value.int .i64)).toArray))}:=by
  unfold execOp;simp only[ho,h.flat hy,h.flat hz,hv,Instr.mapUpdate,Sem.run_bind,run_underlying hm,MapKept.run_getObj_map h1,pO,iH,Result.andThen_ok,MapKept.run_setObj_map _ h1,E,Sem.run_pure]
 obtain⟨s1,s2,s3⟩:=h.amK (B':=mH b (ks++[k])) (nL:=((ks++[k]).map (Value.int .i64)).toArray) hk rfl (by simp[mH]) (by simp[mH,xX]) (fun j hj=>by
  have U:j<(ks++[k]).length:=(by simpa[mH,xX] using hj)
  refine⟨.int .i64 (ks++[k])[j],by rw[getElem?_toArray,getElem?_map,getElem?_eq_getElem U];rfl,?_⟩;simp only[mH,xX,getElem_map];exact .v _)
 unfold Oper.wp;rw[O,Oper.upon_skip,hd];exact hK _ _ _ rfl s1 s2 s3
theorem afB{t:TypeId}{tt:Nat}(hw:cH ops x o true)(ho:o.op = .makeMap t none)(hd:o.dst=some tt)(K:∀b,OD P C ops l ⟨x.n,(tt,.v (.map (some b)))::x.env,mH b []::x.S⟩ Q):OD P C ops (o::l) x Q :=
 OD.gN hw (ae9 ho hd) fun y ⟨b,hy⟩=>hy ▸ K b
theorem agp {I O:TypeId} {z u:Operand} (hw:cH ops x o true) (ho:o.op = .mapUpdate I y z u) (hd:o.dst=none) (hy:aK x y = .v (.map (some b))) (hz:aK x z = .v (.int .i64 k)) (U:aK x u = .agg []) (hk:x.S[i]?=some (mH b ks)) (hn:k∉ks)
  (hm:P.underlying I=some (.map kt O)) (E:P.underlying kt=some (.int .i64)) (K:OD P C ops l ⟨x.n,x.env,x.S.set i (mH b (ks++[k]))⟩ Q):OD P C ops (o::l) x Q :=
 OD.gN hw (afA ho hd hy hz U hk hn hm E) fun y hy=>hy ▸ K
end
section
variable {P:Program} {C:ey} {G:List (Nat×List Value)} {Q:Exit->St->Prop} {x:St} {ops:Array Oper} {l:List Oper} {o:Oper} {S1 T:List Nat} {fuel i:Nat} {ld:Array Bool}
variable {ts:Array TypeId} {S S2 S3:List ag} {post:D->List ag->Prop} {cs':List D} {fo:Operand} {dR:Array Operand}
theorem afC {E kt I:TypeId} {i b:Nat} {ks:List Int} {y:Operand} (ho:o.op = .call {callee:=.builtin .len,args:=#[y],argTypes:=ts}) (ht:ts = #[E]) (hy:aK x y = .v (.map (some b))) (hk:x.S[i]?=some (mH b ks))
  (hm:P.underlying E=some (.map kt I)):cu P G x o (.gh i) (.v (.int .i64 (ks.length:Nat))):=fun C a w _ h=>by
 subst ht;have h1:=OA (h.gh hk);refine⟨_,.v _,fun w' hw=>?_⟩;have O:w'.heap[b]?=_:=(hw _ hk).trans h1;have hg:=MapKept.run_getObj_map (P:=P) O;have U:=run_underlying hm w';unfold execOp;simp[ho,resolve,invoke,builtin,Builtin.len_,h.flat hy,U,hg,goInt,Result.andThen]
def Ga:List D->List D->Prop
 | [],[]=>True
 | a::l,b::l'=>(a=b\/∃sz,a = .v (.slice none 0 0)/\b = .list sz [] 0)/\Ga l l'
 | _,_=>False
theorem Ga.F4{w:World}{L:Nat->Prop}:∀{a b:List D} {vs:List Value},Ga a b->cX w L a vs->cX w L b vs
 | [],[],_,_,h=>h
 | a::l,b::l',[],_,h=>by simp[cX] at h
 | a::l,b::l',v::vs,⟨k,t⟩,h=>by
  obtain⟨h0,h1⟩:=h.tail;have h2:=Ga.F4 t h1;refine⟨by have:=h2.1;simp[this],fun i q1 q2=>?_⟩;cases i with
  | zero =>
   rcases k with rfl|⟨sz,rfl,rfl⟩
   ·exact h0
   show cG w L (.list sz [] 0) v;rw[h0.mi];exact .nK sz none 0
  | succ i=>exact h2.2 i (by simpa using q1) (by simpa using q2)
theorem VC.eL{f:FuncId}{args args':List D}(h:VC P G f args S post)(k:Ga args' args):VC P G f args' S post:=fun X w vs hp=>h X w vs ⟨hp.ex,hp.fE,hp.own,k.F4 hp.args⟩
theorem agq{A:ag}{R:List ag}(hS:x.S=A::R)(hv:iO [] A.cs cs')(k:OD P C ops l ⟨x.n,x.env,{A with cs:=cs'}::R⟩ Q):OD P C ops l x Q :=
 OD.cover (Sd:=[]) (by rw[hS,append_nil]) hv k
theorem iO.append{S:List ag}:∀{a b c d:List D},iO S a b->iO S c d->iO S (a++c) (b++d)
 | [],[],_,_,_,h=>h
 | _::_,_::_,_,_,h,k=>⟨h.1,iO.append h.2 k⟩
 | [],_::_,_,_,h,_=>h.elim
 | _::_,[],_,_,h,_=>h.elim
theorem iO.same{S:List ag}:∀{a:List D},iO S a a
 | []=>trivial
 | _::_=>⟨fN,iO.same⟩
theorem Uz{sz n cap b e size:Nat}{cs:List D}(hB:(⟨b,e,size,cs⟩:ag)∈S)(hv:iO S cs cs')(hl:cs'.length=n*sz)(h1:n<=cap)(h2:cap<=maxLen)(hne:isMap e=false:=by rfl):View S (.v (.slice (some ⟨b,0,none⟩) n cap)) (.list sz cs' n):=fun X Y w v E I ho h=>by
 rw[h.mi];obtain⟨v1,v2⟩:=hv.spec;obtain⟨r0,cur,r1,r2,r3,O⟩:=ho.at_ _ hB;rw[lO hne] at r1;refine .list sz cs' n b 0 cap (fun i=>cur.getD i undef) hl h1 h2 r0 (fun hy=>I _ (E _ hy) (mem_map.2 ⟨_,hB,rfl⟩)) (fun i hi=>?_) (fun i hi=>?_)
 ·obtain⟨u,hu,_⟩:=O i JN;rw[Nat.zero_add,pT r1 hu];simp[hu]
 obtain⟨u,hu,hq⟩:=O i JN;simp only[Array.getD_eq_getD_getElem?,hu,Option.getD_some];exact v2 i w4 hi X Y w u E I ho hq
theorem DG{Sq:List ag}{e sz n cap:Nat}{cs:List D}{ad:Option Addr}(h:bF e sz cs n ad cap Sq)(hv:iO S cs cs')(hl:cs'.length=n*sz)(hs:∀B∈Sq,B∈S)(hne:isMap e=false:=by rfl):View S (.v (.slice ad n cap)) (.list sz cs' n):=by
 rcases h with ⟨rfl,rfl,rfl,rfl,rfl⟩|⟨b,rfl,h1,h2,rfl⟩
 ·have:cs'=[]:=(by cases cs' with|nil=>rfl|cons _ _=>exact hv.elim)
  subst this;exact Bw
 exact Uz (hne:=hne) (hs _ mem_cons_self) hv hl h1 h2
theorem Vt{A S1 E:List ag}:(A++(S1++(S2++(S3++E)))).Perm (S3++(A++(S1++(S2++E)))):=kS fun f=>by simp only[map_append,sum_append];omega
theorem ahS{A S1 E:List ag}:(S3++(A++(S1++(S2++E)))).Perm (A++(S1++(S2++(S3++E)))):=Vt.symm
variable {α:Type} {V:α->List D->List ag->Prop}
theorem Ml {f t:Nat} {args:List D} (ho:o.op = .call {callee:=.value fo,args:=dR,argTypes:=ts}) (hd:o.dst=some t)
  (hf:fo = .func f) (fY:∀args w,(callFunc f args).run P w = .ok (.enter f args) w) (hc:VC P G f args [] post) (hr:∀r S',post r S'->mE r=true/\∀B∈S',∀d∈B.cs,mE d=true) (ha:Looks x dR.toList args) :
  gL P G x o [] (fun y=>∃r S',post r S'/\y=⟨x.n,(t,r)::x.env,S'++x.S⟩):=fun C a w K Q hG h hK=>by
 subst hf;have O:(execOp a.eval o).run P w = .ok (.enter f (dR.toList.map a.eval).toArray) w:=by
  unfold execOp;have e:dR.map a.eval=(dR.toList.map a.eval).toArray:=by
   rw[<-Array.toList_map,Array.toArray_toList]
  simp only[ho,resolve,Act.eval,Deferred.ofValue,Sem.run_bind,Sem.run_pure,Result.andThen_ok,invoke,e];simp[fY]
 have U:KW G (fun _=>False) w [] args (dR.toList.map a.eval):=by
  refine⟨fun b hx=>hx.elim,fun g hg=>?_,⟨fun B hB=>by simp at hB,by simp[aq]⟩,(Looks.F4 h ha).mono fun b _ _=>⟨rfl,fun hl=>by rcases hl with hl|hl;exact hl;simp[aq] at hl⟩⟩;rw[<-hG] at hg;exact⟨⟨Nat.lt_of_lt_of_le (h.fE g hg).1.1 h.fr.size,by simp[aq],id⟩,fun i v hi=>h.aC hg hi⟩
 unfold Oper.wp;rw[O,Oper.upon_enter,hd];refine(hc _ w _ U).mono fun e w' ⟨v,r,S',h1,h2,h3,h4,h5⟩=>?_;subst h1;obtain⟨Z,wT⟩:=hr r S' h2;have hb:∀b,b<w.heap.size->w'.heap[b]?=w.heap[b]?:=fun b hb=>(h5.block b hb (by simp[aq])).1;have hn:∀b,b<w.heap.size->b∉aq S':=fun b hb=>(h5.block b hb (by simp[aq])).2;have I:∀b,b<w.heap.size->¬live C.X x.S b->¬live C.X (S'++x.S) b:=fun b E h0 hl=>by
  rcases hl with hl|hl
  ·exact h0 (.inl hl)
  rw[aq,map_append,mem_append] at hl;rcases hl with hl|hl
  ·exact hn b E hl
  exact h0 (.inr hl)
 have base:cf C ⟨x.n,x.env,S'++x.S⟩ a w':=by
  refine⟨h.defers,h.size,fun t ht=>(h.env t ht).mono fun b E h0=>⟨hb b E,I b E h0⟩,⟨fun B hB=>?_,?_⟩,?_,h.ex,h.fE⟩
  ·rcases mem_append.1 hB with hB|hB
   ·obtain⟨r0,cur,r1,r2,r3,r4⟩:=h3.at_ B hB;refine⟨r0,cur,r1,r2,r3,fun i hi=>?_⟩;obtain⟨u,hu,hq⟩:=r4 i hi;exact⟨u,hu,hq.flat (wT B hB _ (getElem_mem hi))⟩
   obtain⟨r0,cur,r1,r2,r3,r4⟩:=h.own.at_ B hB;refine⟨tP r0 (hb _ r0),cur,(hb _ r0).trans r1,r2,r3,fun i hi=>?_⟩;obtain⟨u,hu,hq⟩:=r4 i hi;exact⟨u,hu,hq.mono fun b E h0=>⟨hb b E,I b E h0⟩⟩
  ·rw[aq,map_append];refine nodup_append.2 ⟨h3.apart,h.own.apart,fun b iI c bg e=>?_⟩;subst e;obtain⟨B,hB,rfl⟩:=mem_map.1 bg;exact hn _ (h.own.at_ B hB).1 iI
  refine⟨h5.os.trans h.fr.os,h5.tape.trans h.fr.tape,h5.output.trans h.fr.output,Nat.le_trans h.fr.size h5.size,fun b E h0=>⟨(hb b (Nat.lt_of_lt_of_le E h.fr.size)).trans (h.fr.block b E h0).1,fun hm=>?_⟩⟩;rw[aq,map_append,mem_append] at hm;rcases hm with hm|hm
  ·exact hn b (Nat.lt_of_lt_of_le E h.fr.size) hm
  exact(h.fr.block b E h0).2 hm
 refine hK _ _ _ ⟨r,S',h2,rfl⟩ (base.put (h4.flat Z)) ⟨h5.size,fun b E _=>hb b E⟩ ⟨h5.os,h5.tape,h5.output,h5.size,fun b E h0=>⟨hb b E,fun hm=>?_⟩⟩;rw[aq,map_append,mem_append] at hm;rcases hm with hm|hm
 ·exact hn b E hm
 exact h0 hm
theorem aib {f t:Nat} {args:List D} (hw:cH ops x o true) (ho:o.op = .call {callee:=.value fo,args:=dR,argTypes:=ts}) (hd:o.dst=some t)
  (hf:fo = .func f) (fY:∀args w,(callFunc f args).run P w = .ok (.enter f args) w) (hc:VC P C.G f args [] post) (hr:∀r S',post r S'->mE r=true/\∀B∈S',∀d∈B.cs,mE d=true) (ha:Looks x dR.toList args)
  (K:∀r S',post r S'->OD P C ops l ⟨x.n,(t,r)::x.env,S'++x.S⟩ Q):OD P C ops (o::l) x Q:=OD.gN hw (Ml ho hd hf fY hc hr ha) fun y ⟨r,S',hp,hy⟩=>hy ▸ K r S' hp
end
section
variable {a:Act} {S':List ag} {t:Nat}
mutual
def gC:D->Bool
 | .v _=>true
 | .list _ cs _=>fL cs
 | .gm cs _=>fL cs
 | .agg cs=>fL cs
 | .dF cs=>fL cs
 | .fg _ cs=>fL cs
 | .lW _ _=>false
 | .cy=>true
def fL:List D->Bool
 | []=>true
 | d::r=>gC d&&fL r
end
theorem zg:∀{cs:List D},fL cs=true->∀i (h:i<cs.length),gC cs[i]=true
 | [],_,_,h=>by cases h
 | d::r,hn,0,_=>by rw[fL,Bool.and_eq_true] at hn;exact hn.1
 | d::r,hn,i+1,h=>by rw[fL,Bool.and_eq_true] at hn;exact zg hn.2 i qz
theorem VS:∀{a b:List D},fL a=true->fL b=true->fL (a++b)=true
 | [],_,_,h=>h
 | d::r,b,ha,hb=>by
  rw[fL,Bool.and_eq_true] at ha;rw[cons_append,fL,Bool.and_eq_true];exact⟨ha.1,VS ha.2 hb⟩
theorem xC{α:Type}{g:α->List D}(hg:∀a,fL (g a)=true):∀(ls:List α),fL (ls.flatMap g)=true
 | []=>rfl
 | a::ls=>by rw[flatMap_cons];exact VS (hg a) (xC hg ls)
theorem aic{l:List (Nat×D)}(h:(l.all fun p=>gC p.2)=true)(t:Nat):gC (look t l)=true:=by
 induction l with
 | nil=>rfl
 | cons p l ih =>
  obtain⟨i,d⟩:=p;rw[all_cons,Bool.and_eq_true] at h;rw[gQ];split
  ·exact h.1
  exact ih h.2
theorem cG.Ch {w w':World} {L O:Nat->Prop} {Z:Nat->Prop} {d:D} {v:Value} (h:cG w L d v) (hn:gC d=true) (H:∀b,b<w.heap.size->¬L b->¬Z b->w'.heap[b]?=w.heap[b]?/\¬O b)
  (U:∀b o,Z b->w.cell? ⟨b,o,none⟩=none) (hs:w.heap.size<=w'.heap.size) (I:∀b,b<w.heap.size->¬L b->Z b->¬O b):cG w' O d v:=by
 induction h with
 | v x=>exact .v x
 | nK sz ad cap=>exact .nK sz ad cap
 | list sz cs len b o cap f hl h1 h2 hb hL hc hr ih =>
  rw[gC] at hn;by_cases hz:Z b
  ·have:¬0<cs.length:=fun h0=>by have:=hc 0 h0;rw[U _ _ hz] at this;cases this
   exact .list sz cs len b o cap f hl h1 h2 w4 (I b hb hL hz) (fun i hi=>by omega) (fun i hi=>by omega)
  have E:=H b hb hL hz;exact .list sz cs len b o cap f hl h1 h2 (tP hb E.1) E.2 (fun i hi=>(World.cell?_of_block (w:=w) (a:=⟨b,o+i,none⟩) E.1).trans (hc i hi)) (fun i hi=>ih i hi (zg hn i hi))
 | gm cs off b o f hb hL hc hr ih =>
  rw[gC] at hn;by_cases hz:Z b
  ·have:¬0<cs.length:=fun h0=>by have:=hc 0 h0;rw[U _ _ hz] at this;cases this
   exact .gm cs off b o f w4 (I b hb hL hz) (fun i hi=>by omega) (fun i hi=>by omega)
  have E:=H b hb hL hz;exact .gm cs off b o f (tP hb E.1) E.2 (fun i hi=>(World.cell?_of_block (w:=w) (a:=⟨b,o+i,none⟩) E.1).trans (hc i hi)) (fun i hi=>ih i hi (zg hn i hi))
 | agg cs vs hl hr ih=>rw[gC] at hn;exact .agg cs vs hl fun i h h'=>ih i h h' (zg hn i h)
 | dF cs vs hl hr ih=>rw[gC] at hn;exact .dF cs vs hl fun i h h'=>ih i h h' (zg hn i h)
 | fg fn cs vs hl hr ih=>rw[gC] at hn;exact .fg fn cs vs hl fun i h h'=>ih i h h' (zg hn i h)
 | lW l os h=>rw[gC] at hn;cases hn
 | cy x=>exact .cy x
theorem Own.Ch {w w':World} {L:Nat->Prop} {Z:Nat->Prop} {S:List ag} (h:Own w L S) (hS:∀B∈S,L B.b) (hn:∀B∈S,fL B.cs=true) (H:∀b,b<w.heap.size->¬Z b->w'.heap[b]?=w.heap[b]?)
  (I:∀b o,Z b->w.cell? ⟨b,o,none⟩=none) (hs:w.heap.size<=w'.heap.size) (E:∀B∈S,¬Z B.b):Own w' L S :=
 ⟨fun B hB=>by
  obtain⟨r0,cur,r1,r2,r3,O⟩:=h.at_ B hB;refine⟨by omega,cur,(H _ r0 (E B hB)).trans r1,r2,r3,fun i hi=>?_⟩;obtain⟨u,hu,hq⟩:=O i hi;exact⟨u,hu,hq.Ch (zg (hn B hB) i hi) (fun b hb hl hz=>⟨H b hb hz,hl⟩) I hs (fun b _ hl _=>hl)⟩,h.apart⟩
theorem HX{w:World}{b:Nat}{o:Obj}(h:w.heap[b]?=some o)(ho:o.isCells=false)(i:Nat):w.cell? ⟨b,i,none⟩=none:=by
 cases hc:w.cell? ⟨b,i,none⟩ with
 | none=>rfl
 | some v =>
  obtain⟨o',h1,h2⟩:=cells_of_cell hc;have h1:w.heap[b]?=some o':=h1;rw[h] at h1;cases h1;rw[ho] at h2;cases h2
structure FrX (l:Nat) (w:World) (S:List Nat) (w':World) (S':List Nat):Prop where
 os:w'.os=w.os
 tape:w'.tape=w.tape
 output:w'.output=w.output
 size:w.heap.size<=w'.heap.size
 block:∀b,b<w.heap.size->b∉S->(b≠l->w'.heap[b]?=w.heap[b]?)/\b∉S'
structure AH (α:Type) where
 l:Nat
 os:List (Nat×Obj)
 od:List (Nat×Obj)
 enc:α->List D
 J:List α->List ag->Prop
 Jx:List α->List ag->Prop
 N:Nat
def uk(W:World)(L:Nat->Prop)(os:List (Nat×Obj)):Prop:=∀z∈os,z.1<W.heap.size/\¬L z.1/\W.heap[z.1]?=some z.2
def RR{α:Type}(P:Program)(X0:Nat->Prop)(w0:World)(S0:List Nat)(Y:AH α):Prop :=
 ∀(pre:List α) (y:α) (Sc:List ag) (X:Nat->Prop) (W:World) (vs:List Value),
  Y.J pre Sc->pre.length<Y.N->(∀b,X b->b<W.heap.size/\b∉aq Sc)->(∀b,X0 b->X b)->(∀b,X b->X0 b\/w0.heap.size<=b\/b∈S0) ->
  Own W (live X Sc) Sc->cX W (live X Sc) (Y.enc y) vs->Fr w0 S0 W (aq Sc)->uk W (live X Sc) Y.os ->
  ∃fn tmps assign body,(Instr.yield Y.l vs.toArray).run P W = .ok (.round Y.l fn tmps assign body) W /\
   RoundIn Fence.wide 0 P Y.l fn tmps assign body W (fun e W'=>∃b o9,e = .returned (.bool b)/\Own W' (live X o9) o9/\FrX Y.l W (aq Sc) W' (aq o9) /\
    (b=true->Y.J (pre++[y]) o9/\W'.heap[Y.l]?=W.heap[Y.l]?)/\(b=false->Y.Jx (pre++[y]) o9/\uk W' (live X o9) Y.od))
def lS(G:List (Nat×List Value))(w0:World)(S0:List Nat)(X0:Nat->Prop):Prop:=∀g∈G,(g.1<w0.heap.size/\g.1∉S0/\¬X0 g.1)/\∀i v,g.2[i]?=some v->ql w0 g.1 i v
def VI{α:Type}(P:Program)(G:List (Nat×List Value))(gf:FuncId)(Fa:List D)(enc:α->List D)(Sa Sp:List α->Prop)(N:Nat):Prop :=
 ∀(Y:AH α) (X0:Nat->Prop) (w0 W:World) (S0:List Nat) (Sc:List ag) (cv:List Value),Y.enc=enc->Y.N=N ->
  (∀b,X0 b->b<w0.heap.size/\b∉S0)->lS G w0 S0 X0->w0.heap.size<=Y.l->Own W (live X0 Sc) Sc->cX W (live X0 Sc) Fa cv->Fr w0 S0 W (aq Sc) ->
  uk W (live X0 Sc) Y.os->Y.J [] Sc->RR P X0 w0 S0 Y ->
  Calls P gf (#[.func (.yield Y.l) #[] #[]]++cv.toArray) W fun e W'=>∃v o9,e = .returned v/\Own W' (live X0 o9) o9/\Fr w0 S0 W' (aq o9) /\
   ((∃xs,Sa xs/\Y.J xs o9/\uk W' (live X0 o9) Y.os)\/(∃pre,Sp pre/\Y.Jx pre o9/\uk W' (live X0 o9) Y.od))
variable {P:Program} {C:ey} {G:List (Nat×List Value)} {Q:Exit->St->Prop} {x:St} {ops:Array Oper} {o:Oper} {fuel i:Nat} {ld:Array Bool} {α:Type}
def Zu(P:Program)(fn:Func)(Y:AH α)(Sa Sp:List α->Prop)(e:Exit)(y:St):Prop :=
 (e = .normal\/e = .ret)/\(∃r,tv P fn y r)/\0<y.n/\∃o9,o9.Sublist y.S/\((∃xs,Sa xs/\Y.J xs o9/\look 0 y.env = .lW Y.l Y.os)\/(∃pre,Sp pre/\Y.Jx pre o9/\look 0 y.env = .lW Y.l Y.od))
theorem NP.amL{fn:Func}{Y:AH α}{E I:List α->Prop}:NP (Zu P fn Y E I):=fun O y t hq=>by rcases hq.1 with h|h<;>cases h
theorem VI.body {gf:FuncId} {fn:Func} {c:Code} {n:Nat} {I:List D} {enc:α->List D} {Sa Sp:List α->Prop} {N:Nat} (hf:P.funcs[gf]?=some fn) (hb:fn.body=some c) (hn:fn.ntmps=n) (hl:1+I.length<=n)
  (h:∀(Y:AH α) X0 w0 S0 Sc,Y.enc=enc->Y.N=N->w0.heap.size<=Y.l->RR P X0 w0 S0 Y->Y.J [] Sc->CD P ⟨X0,w0,S0,G,[],fun _ _=>False⟩ c ⟨n,u9 0 (.lW Y.l Y.os::I),Sc⟩ (Zu P fn Y Sa Sp)):VI P G gf I enc Sa Sp N:=fun Y X0 w0 W S0 Sc cv he hN hex Z aa fQ J4 mP aoy hJ hY=>by
 let C:ey:=⟨X0,w0,S0,G,[],fun _ _=>False⟩
 have fb:cX W (live X0 Sc) (.lW Y.l Y.os::I) (.func (.yield Y.l) #[] #[]::cv):=.cons (.lW _ _ aoy) J4;have aoz:#[Value.func (.yield Y.l) #[] #[]]++cv.toArray=(Value.func (.yield Y.l) #[] #[]::cv).toArray:=(by simp)
 rw[aoz];generalize hvs:Value.func (.yield Y.l) #[] #[]::cv=vs at fb;generalize ku:D.lW Y.l Y.os::I=args at fb;have pK:args.length<=n:=(by rw[<-ku];simp;omega)
 have so:vs.length=args.length:=fb.1;have O:cf C ⟨n,u9 0 args,Sc⟩ {tmps:=vs.toArray++Array.replicate (fn.ntmps-vs.toArray.size) undef,defers:=[]} W:=by
  refine⟨rfl,by simp[hn];omega,fun t ht=>?_,fQ,mP,hex,Z⟩;simp only[Hj,Nat.zero_le,if_true,Nat.sub_zero];by_cases aa:t<args.length
  ·have e1:args.getD t .cy=args[t]:=(by simp[getD,aa])
   have e2:(vs.toArray++Array.replicate (fn.ntmps-vs.toArray.size) undef).getD t undef=vs[t]'w4:=by
    rw[Array.getD_eq_getD_getElem?,Array.getElem?_append_left jk];simp[show t<vs.length by omega]
   rw[e1,e2];exact fb.2 t aa w4
  have e1:args.getD t .cy = .cy:=(by simp[getD,getElem?_eq_none (show args.length<=t by omega)])
  rw[e1];exact .cy _
 rw[<-ku] at O;refine calls_of_wp hf hb (wp_mono (h Y X0 w0 S0 Sc he hN aa hY hJ _ _ O) fun e a w' hq=>?_);rcases hq with ⟨y,h1,h2,⟨r,h3⟩,h0,E,h4,h5⟩|⟨_,hq⟩
 case inr=>exact hq.elim
 obtain⟨v,q1,q2⟩:=h3 C a w' h1;have U:(aq E).Sublist (aq y.S):=Sublist.map _ h4;have raw:∀os,look 0 y.env = .lW Y.l os->uk w' (live X0 E) os:=fun os ho=>by
  have hv:=h1.env 0 h0;rw[ho] at hv;generalize a.tmps.getD 0 undef=u at hv;cases hv with
  | lW _ _ hz=>exact fun z AJ=>by obtain⟨z1,z2,z3⟩:=hz z AJ;exact⟨z1,fun hl=>z2 (hl.imp id fun q=>U.subset q),z3⟩
 have key:a.defers=[]/\∃v,(results fn a.tmps).run P w' = .ok v w'/\∃v' E,Ending.returned v = .returned v'/\Own w' (live X0 E) E/\Fr w0 S0 w' (aq E)/\((∃xs,Sa xs/\Y.J xs E/\uk w' (live X0 E) Y.os)\/(∃pre,Sp pre/\Y.Jx pre E/\uk w' (live X0 E) Y.od)) :=
  ⟨h1.defers,v,q2,v,E,rfl,h1.own.sub h4,⟨h1.fr.os,h1.fr.tape,h1.fr.output,h1.fr.size,fun b lg hn=>⟨(h1.fr.block b lg hn).1,fun q=>(h1.fr.block b lg hn).2 (U.subset q)⟩⟩,
   h5.imp (fun ⟨xs,s1,s2,s3⟩=>⟨xs,s1,s2,raw _ s3⟩) (fun ⟨pre,s1,s2,s3⟩=>⟨pre,s1,s2,raw _ s3⟩)⟩
 rcases h2 with rfl|rfl<;>exact key
def AI(P:Program)(C:ey)(ops:Array Oper)(fuel:Nat)(ld:Array Bool)(x:St)(Q:Exit->St->Prop):Prop :=
 ∀a w,cf C x a w->wpAnyIn Fence.wide 0 P .any ops (LQ C Q) fuel ld a w
def iW(P:Program)(C:ey)(ops:Array Oper)(fuel:Nat)(ld:Array Bool)(x:St)(Q:Exit->St->Prop)(i:Nat):Prop :=
 ∀a w,cf C x a w->wpOpIn Fence.wide 0 P ops (LQ C Q) i (wpAnyIn Fence.wide 0 P .any ops (LQ C Q) fuel (ld.setIfInBounds i true)) a w
theorem cf.drew{w:World}(hs:cf C x a w):cf C x a {w with drawn:=w.drawn+1} :=
 ⟨hs.defers,hs.size,fun t ht=>(hs.env t ht).mono fun b _ hn=>⟨rfl,hn⟩,⟨fun B hB=>by
  obtain⟨r0,cur,r1,r2,r3,E⟩:=hs.own.at_ B hB;exact⟨r0,cur,r1,r2,r3,fun i hi=>by
   obtain⟨u,hu,hq⟩:=E i hi;exact⟨u,hu,hq.mono fun b _ hn=>⟨rfl,hn⟩⟩⟩,hs.own.apart⟩,⟨hs.fr.os,hs.fr.tape,hs.fr.output,hs.fr.size,hs.fr.block⟩,hs.ex,hs.fE⟩
theorem afD{id:Nat}{l:List Oper}(hm:P.follows .mixedOrders=true)(h:AI P C l.toArray l.toArray.size (Array.replicate l.toArray.size false) x Q):CD P C (.region id l.toArray true) x Q:=fun a w hs =>
 wpIn_wide.1 (wpIn_region_any (F:=Fence.wide) (n:=0) hm (h a _ hs.drew))
theorem AI.all{rs:List Nat}(hr:Region.ready .any ops ld=rs)(hne:rs≠[])(h:∀i∈rs,iW P C ops fuel ld x Q i):AI P C ops (fuel+1) ld x Q:=fun a w hs=>wpAnyIn_all hr hne fun i hi=>h i hi a w hs
theorem lB(hr:Region.ready .any ops ld=[i])(h:iW P C ops fuel ld x Q i):AI P C ops (fuel+1) ld x Q:=AI.all hr bC fun j hj=>by rw[mem_singleton] at hj;subst hj;exact h
theorem wu{j:Nat}(hr:Region.ready .any ops ld=[i,j])(h:iW P C ops fuel ld x Q i)(h':iW P C ops fuel ld x Q j):AI P C ops (fuel+1) ld x Q:=AI.all hr bC fun k hk=>by
 rcases mem_cons.1 hk with rfl|hk
 ·exact h
 rw[mem_singleton] at hk;subst hk;exact h'
theorem nD(hr:Region.ready .any ops ld=[])(h:Q .normal x):AI P C ops fuel ld x Q:=fun a w hs=>wpAnyIn_done hr (.inl ⟨x,hs,h⟩) _
theorem mY{y:St}(h:Wk x y)(k:AI P C ops fuel ld y Q):AI P C ops fuel ld x Q:=fun a w hs=>k a w (h C a w hs)
theorem uX(hp:x.S.Perm S')(k:AI P C ops fuel ld ⟨x.n,x.env,S'⟩ Q):AI P C ops fuel ld x Q:=mY (Wk.perm hp) k
theorem AI.take {d:D} (hi:ops[i]?=some o) (hs:Region.noSelect ops=true) (hf:Region.free .any ops ld i=true) (hr:(Region.ready .any ops ld).contains i=true) (hp:NP Q)
  (hw:cH ops x o true) (tE:∀w a,o.about P w a=none) (hd:o.dst=some t) (h:cu P C.G x o .none d) (K:AI P C ops fuel (ld.setIfInBounds i true) (x.put t d) Q):AI P C ops (fuel+1) ld x Q:=fun a w E=>by
 obtain⟨v,h1,h2⟩:=h C a w rfl E;refine wpAnyIn_take (oi:=o) (v:=v) rfl hi hs hf hr (Cf hp _ v) ⟨.inl ⟨hw C a w E,fun w'=>h2 w' trivial⟩,fun w'=>tE w' _⟩ ?_;rw[hd];exact K _ _ (E.put h1)
theorem Xt{K:Act->World->Prop}{Q:Exit->Act->World->Prop}{w:World}(ro:Option Nat)(hd:∀c,o.op≠.defer c)(h:o.wp P a w K Q):o.wpIn {Fence.wide with round:=ro} 0 P a w K Q:=by
 refine⟨fun _ _=>trivial,?_⟩;rw[Oper.semAt_eq _ _ _ hd];unfold Oper.wp at h;generalize (execOp a.eval o).run P w=r at h;have ff:∀m E,Steps P m E->StepsIn (Machine.fenced P {Fence.wide with round:=ro}) P m E:=fun m E hs=>stepsIn_wide.2 hs;match r,h with
 | .ok (.value v) w',h=>exact h
 | .ok .skip w',h=>exact h
 | .ok (.defer d) w',h=>exact h
 | .ok (.enter f args) w',h=>exact⟨fun hc=>(by cases hc),((callsIn_wide (n:=0)).2 h:CallsIn Fence.wide 0 P f args w' _)⟩
 | .ok (.row row args) w',h=>exact⟨fun hc=>(by cases hc),fun c cs _=>let ⟨v,w'',r,s⟩:=h c cs;⟨v,w'',r,ff _ _ s⟩⟩
 | .halt (.panic v) w',h=>exact h
theorem iW.gN{W:List Nat}{post:St->Prop}(hi:ops[i]?=some o)(hw:cH ops x o true)(AK:∀c,o.op≠.defer c)(h:gL P C.G x o W post)(k:∀y,post y->AI P C ops fuel (ld.setIfInBounds i true) y Q):iW P C ops fuel ld x Q i:=fun a w E=>by
 unfold wpOpIn;simp only[hi,hw C a w E,if_true];exact Xt none AK (h C a w _ _ rfl E fun y a' w' hp I _ _=>k y hp a' w' I)
theorem iW.still{kd:Rd}{d:D}(hi:ops[i]?=some o)(hw:cH ops x o true)(AK:∀c,o.op≠.defer c)(hd:o.dst=some t)(h:cu P C.G x o kd d)(k:AI P C ops fuel (ld.setIfInBounds i true) (x.put t d) Q):iW P C ops fuel ld x Q i :=
 iW.gN hi hw AK (h.gN hd) fun y hy=>by subst hy;exact k
theorem iW.vc {f:Nat} {fo:Operand} {dR:Array Operand} {ts:Array TypeId} {args:List D} {r:D} (hi:ops[i]?=some o) (hw:cH ops x o true) (ho:o.op = .call {callee:=.value fo,args:=dR,argTypes:=ts}) (hd:o.dst=some t)
  (hf:fo = .func f) (fY:∀args w,(callFunc f args).run P w = .ok (.enter f args) w) (hc:VP P C.G f args r) (ha:om x dR.toList args)
  (K:AI P C ops fuel (ld.setIfInBounds i true) (x.put t r) Q):iW P C ops fuel ld x Q i :=
 iW.gN hi hw (fun c hc=>by rw[ho] at hc;cases hc) (DR ho hd hf fY ha.eq (fj _) hc) fun y ⟨E,S',⟨h1,h2⟩,hy⟩=>by subst h1 h2 hy;exact K
theorem cf.back{w w':World}(h:cf C x a w){Sf R:List ag}(hp:x.S.Perm (Sf++R))(h3:Own w' (live (fun b=>C.X b\/b∈aq R) S') S')(h5:Fr w (aq Sf) w' (aq S')):cf C ⟨x.n,x.env,S'++R⟩ a w':=by
 have hb:(aq x.S).Perm (aq Sf++aq R):=(by have:=hp.map ag.b;simpa[aq] using this)
 have hL:=Bq (X:=C.X) hp;have hnd:(aq Sf++aq R).Nodup:=hb.nodup_iff.1 h.own.apart;obtain⟨n1,n2,n3⟩:=nodup_append.1 hnd;have I:∀b,b∈aq R->b<w.heap.size:=fun b Z=>by
  obtain⟨B,hB,rfl⟩:=mem_map.1 Z;exact(h.own.at_ B (hp.symm.subset (mem_append_right _ hB))).1
 have O:live C.X (S'++R)=live (fun b=>C.X b\/b∈aq R) S':=Bq (Perm.refl _);have H:∀b,b<w.heap.size->¬live C.X x.S b->w'.heap[b]?=w.heap[b]?/\¬live C.X (S'++R) b:=fun b aa hn=>by
  rw[hL] at hn;have E:b∉aq Sf:=fun hm=>hn (.inr hm);obtain⟨q1,q2⟩:=h5.block b aa E;refine⟨q1,fun hl=>?_⟩;rw[O] at hl;rcases hl with hl|hl
  ·exact hn (.inl hl)
  exact q2 hl
 refine⟨h.defers,h.size,fun t ht=>(h.env t ht).mono H,⟨fun B hB=>?_,?_⟩,?_,h.ex,h.fE⟩
 ·rcases mem_append.1 hB with hB|hB
  ·have:=h3.at_ B hB;rw[<-O] at this;exact this
  obtain⟨r0,cur,r1,r2,r3,r4⟩:=h.own.at_ B (hp.symm.subset (mem_append_right _ hB));have F2:B.b∈aq R:=mem_map.2 ⟨B,hB,rfl⟩;have E:B.b∉aq Sf:=fun hm=>n3 B.b hm B.b F2 rfl;have hh:=(h5.block B.b r0 E).1;refine⟨tP r0 hh,cur,hh.trans r1,r2,r3,fun i hi=>?_⟩;obtain⟨u,hu,hq⟩:=r4 i hi;exact⟨u,hu,hq.mono H⟩
 ·show(aq (S'++R)).Nodup;have:aq (S'++R)=aq S'++aq R:=(by simp[aq])
  rw[this];refine nodup_append.2 ⟨h3.apart,n2,fun b iI c bg he=>?_⟩;subst he;have E:b∉aq Sf:=fun hm=>n3 b hm b bg rfl;exact(h5.block b (I b bg) E).2 iI
 refine⟨h5.os.trans h.fr.os,h5.tape.trans h.fr.tape,h5.output.trans h.fr.output,Nat.le_trans h.fr.size h5.size,fun b U hn=>?_⟩;obtain⟨q1,q2⟩:=h.fr.block b U hn;have dQ:b∉aq Sf:=fun hm=>q2 (hb.symm.subset (mem_append_left _ hm));have gZ:b∉aq R:=fun hm=>q2 (hb.symm.subset (mem_append_right _ hm));obtain⟨q3,q4⟩:=h5.block b (Nat.lt_of_lt_of_le U h.fr.size) dQ;refine⟨q3.trans q1,fun hm=>?_⟩;have:aq (S'++R)=aq S'++aq R:=(by simp[aq])
 rw[this] at hm;rcases mem_append.1 hm with hm|hm
 ·exact q4 hm
 exact gZ hm
theorem iW.yield {t:Nat} {fo:Operand} {dR:Array Operand} {ts:Array TypeId} {Y:AH α} {pre:List α} {y:α} {Sc R:List ag} (hi:ops[i]?=some o) (hw:cH ops x o true) (ho:o.op = .call {callee:=.value fo,args:=dR,argTypes:=ts}) (hd:o.dst=some t)
  (hf:aK x fo = .lW Y.l Y.os) (hn:0<x.n) (hz:look 0 x.env = .lW Y.l Y.os) (ha:dR.toList.map (aK x)=Y.enc y) (hp:x.S.Perm (Sc++R)) (hJ:Y.J pre Sc) (hN:pre.length<Y.N) (hY:RR P C.X C.w0 C.S0 Y) (hl:C.w0.heap.size<=Y.l) (h0t:t≠0)
  (kT:∀E,Y.J (pre++[y]) E->AI P C ops fuel (ld.setIfInBounds i true) ⟨x.n,(t,.v (.bool true))::x.env,E++R⟩ Q)
  (kF:∀E,Y.Jx (pre++[y]) E->AI P C ops fuel (ld.setIfInBounds i true) ⟨x.n,[(t,.v (.bool false)),(0,.lW Y.l Y.od)],E⟩ Q):iW P C ops fuel ld x Q i:=fun a w h=>by
 have hb:(aq x.S).Perm (aq Sc++aq R):=(by have:=hp.map ag.b;simpa[aq] using this)
 have hL:=Bq (X:=C.X) hp;have hnd:(aq Sc++aq R).Nodup:=hb.nodup_iff.1 h.own.apart;obtain⟨n1,n2,n3⟩:=nodup_append.1 hnd;have aoA:∀b,b∈aq R->b<w.heap.size:=fun b F1=>by
  obtain⟨B,hB,rfl⟩:=mem_map.1 F1;exact(h.own.at_ B (hp.symm.subset (mem_append_right _ hB))).1
 have yv:∀(o':Operand) os,aK x o' = .lW Y.l os->a.eval o' = .func (.yield Y.l) #[] #[]/\uk w (live C.X x.S) os:=fun o' os he=>by
  have hv:=h.eval o';rw[he] at hv;generalize a.eval o'=u at hv;cases hv with
  | lW _ _ hz=>exact⟨rfl,hz⟩
 obtain⟨e1,O⟩:=yv fo _ hf;have U:cX w (live C.X x.S) (Y.enc y) (dR.toList.map a.eval):=ha ▸ cX.Qg h dR.toList;have e0:a.tmps.getD 0 undef = .func (.yield Y.l) #[] #[]:=by
  have hv:=h.env 0 hn;rw[hz] at hv;generalize a.tmps.getD 0 undef=u at hv;cases hv with
  | lW _ _ _=>rfl
 rw[hL] at O U;obtain⟨fn,tmps,assign,body,hy,hro⟩:=hY pre y Sc (fun b=>C.X b\/b∈aq R) w _ hJ hN (fun b hx=>by
   rcases hx with hx|hx
   ·obtain⟨q1,q2⟩:=h.ex b hx;exact⟨Nat.lt_of_lt_of_le q1 h.fr.size,fun hm=>(h.fr.block b q1 q2).2 (hb.symm.subset (mem_append_left _ hm))⟩
   ·exact⟨aoA b hx,fun hm=>n3 b hm b hx rfl⟩) (fun b hx=>.inl hx) (fun b hx=>by
   rcases hx with hx|hx
   ·exact .inl hx
   rcases Nat.lt_or_ge b C.w0.heap.size with aa|RH
   ·by_cases rq:b∈C.S0
    ·exact .inr (.inr rq)
    exact absurd (hb.symm.subset (mem_append_right _ hx)) (h.fr.block b aa rq).2
   exact .inr (.inl RH))
  ⟨fun B hB=>by rw[<-hL];exact h.own.at_ B (hp.symm.subset (mem_append_left _ hB)),n1⟩ U
  ⟨h.fr.os,h.fr.tape,h.fr.output,h.fr.size,fun b lg hn'=>⟨(h.fr.block b lg hn').1,fun hm=>(h.fr.block b lg hn').2 (hb.symm.subset (mem_append_left _ hm))⟩⟩ O
 have qX:(execOp a.eval o).run P w = .ok (.round Y.l fn tmps assign body) w:=by
  unfold execOp;have e:dR.map a.eval=(dR.toList.map a.eval).toArray:=by
   rw[<-Array.toList_map,Array.toArray_toList]
  simp only[ho,resolve,e1,Deferred.ofValue,Sem.run_bind,Sem.run_pure,Result.andThen_ok,invoke,e,Array.empty_append];exact hy
 unfold wpOpIn;simp only[hi,hw C a w h,if_true];refine⟨fun _ _=>trivial,?_⟩;show o.uponIn Fence.wide 0 P a _ _ ((o.semAt none a.eval).run P w);rw[Oper.semAt_none,qX,Oper.uponIn_round];refine⟨fun hc=>(by cases hc),hro.mono fun e w' ⟨b,E,he,h3,h5,hT,hF⟩=>?_⟩;subst he;show wpAnyIn Fence.wide 0 P .any ops (LQ C Q) fuel (ld.setIfInBounds i true) (a.put o.dst (.bool b)) w';rw[hd];have pM:∀q,q<C.w0.heap.size->q≠Y.l:=fun q hq e=>by omega
 cases b with
 | true =>
  obtain⟨j1,j2⟩:=hT rfl;have aoB:Fr w (aq Sc) w' (aq E):=⟨h5.os,h5.tape,h5.output,h5.size,fun q hq Z=>by
   obtain⟨p1,p2⟩:=h5.block q hq Z;refine⟨?_,p2⟩;by_cases e:q=Y.l
   ·rw[e];exact j2
   exact p1 e⟩
  exact kT E j1 _ _ ((h.back hp h3 aoB).put (.v _))
 | false =>
  obtain⟨j1,j2⟩:=hF rfl;have I:∀q,live C.X E q->live (fun b=>C.X b\/b∈aq R) E q:=fun q hq=>hq.imp .inl id;have amM:Own w' (live C.X E) E:=⟨fun B hB=>by
   obtain⟨r0,cur,r1,r2,r3,r4⟩:=h3.at_ B hB;exact⟨r0,cur,r1,r2,r3,fun q hq=>by
    obtain⟨u,hu,hh⟩:=r4 q hq;exact⟨u,hu,hh.mono fun b _ hn=>⟨rfl,fun hl=>hn (I b hl)⟩⟩⟩,h3.apart⟩
  refine kF E j1 _ _ ⟨h.defers,by simp[Act.put,h.size],fun q hq=>?_,amM,⟨h5.os.trans h.fr.os,h5.tape.trans h.fr.tape,h5.output.trans h.fr.output,Nat.le_trans h.fr.size h5.size,fun q hq Z=>?_⟩,h.ex,h.fE⟩
  ·have mL:=h.size;simp only[gQ,Act.put];by_cases e:t=q
   ·subst e;rw[if_pos rfl];have:(a.tmps.setIfInBounds t (.bool false)).getD t undef = .bool false:=by
     have hq:t<x.n:=hq;simp[Array.getElem?_setIfInBounds,mL,hq]
    rw[this];exact .v _
   rw[if_neg e];by_cases e2:0=q
   ·subst e2;rw[if_pos rfl];have:(a.tmps.setIfInBounds t (.bool false)).getD 0 undef=a.tmps.getD 0 undef:=by
     simp[Array.getElem?_setIfInBounds,h0t]
    rw[this,e0];exact .lW _ _ fun z AJ=>by obtain⟨z1,z2,z3⟩:=j2 z AJ;exact⟨z1,fun hl=>z2 (I _ hl),z3⟩
   rw[if_neg e2];exact .cy _
  obtain⟨q1,q2⟩:=h.fr.block q hq Z;have dQ:q∉aq Sc:=fun hm=>q2 (hb.symm.subset (mem_append_left _ hm));obtain⟨p1,p2⟩:=h5.block q (Nat.lt_of_lt_of_le hq h.fr.size) dQ;exact⟨(p1 (pM q hq)).trans q1,p2⟩
end
variable {P:Program} {C:ey} {G:List (Nat×List Value)} {Q:Exit->St->Prop} {x:St} {ops:Array Oper} {l:List Oper} {o:Oper}
theorem cX.flatten{w:World}{L:Nat->Prop}{us vs:List Value}(h:cX w L (us.map .v) vs):vs=us:=by
 refine ext_getElem (by simpa using h.1) fun i h1 h2=>?_;have:=h.2 i (by simpa using h2) h1;simp only[getElem_map] at this;exact this.mi
theorem VP.Xu{f:FuncId}{vs:List Value}{v:Value}(h:∀w:World,(∀g∈G,∀(i:Nat) (u:Value),g.2[i]?=some u->ql w g.1 i u)->Calls P f vs.toArray w fun e w'=>e = .returned v/\Below w.heap.size w w'):VP P G f (vs.map .v) (.v v):=fun X w us hp=>by
 have E:us=vs:=hp.args.flatten;subst E;refine(h w fun g hg i u hi=>(hp.fE g hg).2 i u hi).mono fun e w' ⟨h1,h2⟩=>?_;refine⟨v,.v v,[],h1,⟨rfl,rfl⟩,⟨fun B hB=>by simp at hB,by simp[aq]⟩,.v _,⟨h2.os,h2.tape,h2.output,h2.size,fun b hb _=>⟨h2.block b hb,by simp[aq]⟩⟩⟩
theorem ajL{t:TypeId}{k:IntKind}{a b r:Int}(h:k.wrap ((BitVec.ofInt k.bits a ^^^ BitVec.ofInt k.bits b).toNat:Int)=r):mD P .xor t (.int k a) (.int k b) (.int k r):=fun y z w=>by subst h;simp only[eqGuard,binOp,Op.intBits,Sem.run_bind];simp
theorem W4{t:TypeId}{k k':IntKind}{a b r:Int}(hb:0<=b)(h:a.fdiv (2 ^ min b.toNat k.bits)=r):mD P .shr t (.int k a) (.int k' b) (.int k r):=fun y z w=>by
 have:¬b<0:=(by omega)
 simp[eqGuard,binOp,Op.shift,this,h]
theorem ajM(a:Nat)(h:a<2 ^ 64):a ^^^ 2 ^ 63=if a<2 ^ 63 then a+2 ^ 63 else a-2 ^ 63:=by
 have key:∀b,b<2 ^ 63->b ^^^ 2 ^ 63=2 ^ 63+b:=fun b hb=>by
  refine Nat.eq_of_testBit_eq fun i=>?_;rw[Nat.testBit_xor,Nat.testBit_two_pow];rcases Nat.lt_trichotomy i 63 with hi|hi|hi
  ·rw[Nat.testBit_two_pow_add_gt hi];have:¬63=i:=(by omega)
   simp[this]
  ·subst hi;rw[Nat.testBit_two_pow_add_eq];simp
  have h1:b.testBit i=false:=Nat.testBit_lt_two_pow (Nat.lt_of_lt_of_le hb (Nat.pow_le_pow_right w7 w4));have h2:(2 ^ 63+b).testBit i=false:=Nat.testBit_lt_two_pow (Nat.lt_of_lt_of_le (by omega:2 ^ 63+b<2 ^ 64) (Nat.pow_le_pow_right w7 w4));have:¬63=i:=(by omega)
  rw[h1,h2];simp[this]
 split
 ·rename_i h1;rw[key a h1];omega
 rename_i h1;have h2:=key (a-2 ^ 63) w4;have h3:a=2 ^ 63+(a-2 ^ 63):=(by omega)
 rw[<-h2] at h3;generalize a-2 ^ 63=b at h3 |-;rw[h3,Nat.xor_assoc,Nat.xor_self,Nat.xor_zero]
theorem VT(n:Int):IntKind.u64.wrap n=n % 18446744073709551616:=rfl
theorem ajN{n:Int}(h1:-9223372036854775808<=n)(h2:n<=9223372036854775807):IntKind.u64.wrap ((BitVec.ofInt IntKind.u64.bits (IntKind.u64.wrap n) ^^^ BitVec.ofInt IntKind.u64.bits 9223372036854775808).toNat:Int)=n+9223372036854775808:=by
 rw[VT,VT,BitVec.toNat_xor];have e1:(BitVec.ofInt IntKind.u64.bits (n % 18446744073709551616)).toNat=(n % 18446744073709551616).toNat:=by
  rw[BitVec.toNat_ofInt];show((n % 18446744073709551616) % ((18446744073709551616:Nat):Int)).toNat=_;omega
 have e2:(BitVec.ofInt IntKind.u64.bits 9223372036854775808).toNat=2 ^ 63:=(by decide)
 rw[e1,e2,ajM _ w4];split<;>omega
end V
end Go.Proofs.YtihmfhcjbmlnaaaGreatDoor
