/-
  What the proof of GA leans on, part 2: walks of the program's functions at the level of values, and plain facts of what they compute.
-/
import Derived.Test.YtkgmonfgofobaaaGreatDoorPGA1
set_option linter.unusedVariables false
set_option linter.unusedSimpArgs false
set_option maxRecDepth 100000
set_option maxHeartbeats 4000000
namespace Go.Proofs.YtkgmonfgofobaaaGreatDoor.V
open List
open Go.RowKit
variable {P:Program} {C:dK} {Q:Exit→St→Prop} {x:St} {ops:Array Oper} {o:Oper} {S1 T:List Nat} {fuel i:Nat} {ld:Array Bool}
variable {k t:Nat} {B:ah}
theorem B8{S:List ah}(hk:S[k]?=some B):B.b∈ax S:=mem_map.2 ⟨B,mem_of_getElem? hk,rfl⟩
theorem qH{S:List ah}{k0:Nat}(hk:x.S[k]?=some B)(h0:S[k0]?=some B):Safe x (ax S) (.fN k):=⟨B,hk,B8 h0⟩
theorem AD.split{b:Bool}(hb:look t x.env = .v (.bool b))(h1:b=true→AD P C ops S1 T fuel ld x Q)(h2:b=false→AD P C ops S1 T fuel ld x Q):AD P C ops S1 T fuel ld x Q:=by
 cases h:b
 ·exact h2 h
 exact h1 h
theorem dZ.split{b:Bool}(hb:look t x.env = .v (.bool b))(h1:b=true→dZ P C ops S1 T fuel ld x Q)(h2:b=false→dZ P C ops S1 T fuel ld x Q):dZ P C ops S1 T fuel ld x Q:=by
 cases h:b
 ·exact h2 h
 exact h1 h
theorem bD.My{post:St→Prop}(hi:ops[i]?=some o)(hw:cj ops x o true)(h:ga P C.G x o [] post)(k:∀y,post y→AD P C ops S1 T fuel (ld.setIfInBounds i true) y Q):bD P C ops S1 T fuel ld x Q i :=
 bD.gk hi hw h (fun _ _ _ _ _ _ hb=>by simp at hb) (fun _ hb=>by simp at hb) k
theorem G5{C:dK}{a:Act}{w:World}(h:bK C x a w)(hk:x.S[k]?=some B)(hT:∀b∈T,b∈ax (x.S.eraseIdx k)):∀b∈T,b∉[B.b]:=fun b hb hm=>by
 have hp:(ax x.S).Perm (B.b::ax (x.S.eraseIdx k)):=(by have:=(vg hk).map ah.b;simpa[ax] using this)
 have hn:=(nodup_cons.1 (hp.nodup_iff.1 h.own.apart)).1;have:b=B.b:=(by simpa using hm)
 exact hn (this ▸ hT b hb)
theorem bD.Mx {t e:TypeId} {tt len sz:Nat} {ps:List (Nat×Operand)} {pl:List (Nat×D)} {z:Value} {oQ:List Value} {ds:List D} (hi:ops[i]?=some o) (hw:cj ops x o true) (ho:o.op = .buildSlice t len ps.toArray) (jN:o.dst=some tt) (hz:∀w,(zeroValue e).run P w = .ok z w)
  (E:∀w,(underlying t).run P w = .ok (.slice e) w) (hs:∀w,(sizeOf e).run P w = .ok sz w) (hl:Nat.ble 1 (len*sz)=true) (iu:Nat.ble (len*sz) (2 ^ 24)=true) (fb:(Array.range (len*sz)).map (fun i=>z.cells[i % z.cells.size]!)=oQ.toArray)
  (gL:jL x ps pl) (hj:pl.all (fun p=>kY p.2)=true) (hd:mz (fun i=>some (i*sz,sz)) (oQ.map .v) pl=some ds)
  (k:∀b,AD P C ops S1 T fuel (ld.setIfInBounds i true) ⟨x.n,(tt,.v (.slice (some ⟨b,0,none⟩) len len))::x.env,⟨b,e,ds.length,ds⟩::x.S⟩ Q) (hne:isMap e=false:=by rfl):bD P C ops S1 T fuel ld x Q i:=by
 refine bD.My hi hw (IG (hne:=hne) (zs:=oQ.map .v) (ds:=ds) ho jN hz E hs (Nat.le_of_ble_eq_true hl) (Nat.le_of_ble_eq_true iu) ?_ ?_ ?_ ?_) ?_
 ·rw[fb];congr 1;rw[map_map];exact(map_id oQ).symm
 ·intro d hd;obtain⟨u,_,rfl⟩:=mem_map.1 hd;exact⟨u,rfl⟩
 ·rw[gL.eq];exact By hj
 ·rw[gL.eq];exact hd
 rintro _ ⟨b,rfl⟩;exact k b
theorem bD.store {t:TypeId} {k b o' n:Nat} {B:ah} {d:D} {cs':List D} {y z:Operand} (hi:ops[i]?=some o) (hw:cj ops x o true) (ho:o.op = .store t y z) (jN:o.dst=none) (hy:aF x y = .v (.pointer (some ⟨b,o',none⟩)))
  (hk:x.S[k]?=some B) (hb:B.b=b) (hz:aF x z=d) (hj:kY d=true) (h1:(cellsOf d).all one=true) (hn:∀w,(sizeOf t).run P w = .ok n w) (gC:(cellsOf d).length=n) (hl:Nat.ble (o'+n) B.cs.length=true) (dy:dm B.cs o' (cellsOf d)=cs')
  (hT:∀b∈T,b∈ax (x.S.eraseIdx k))
  (K:AD P C ops S1 T fuel (ld.setIfInBounds i true) ⟨x.n,x.env,x.S.set k {B with cs:=cs'}⟩ Q) (hne:isMap B.e=false:=by rfl):bD P C ops S1 T fuel ld x Q i :=
 bD.gk hi hw (Fb (hne:=hne) ho jN hy hk hb hz (fun h=>by rw[h] at hj;cases hj) h1 hn gC (Nat.le_of_ble_eq_true hl) dy) (fun C a w hs I E=>hb ▸ G5 hs hk hT I E) (fun I E=>by
  have:I=b:=(by simpa using E)
  subst this;rw[←hb];exact B8 hk) fun y hy=>hy ▸ K
theorem bD.iC {f:Nat} {fo:Operand} {de:Array Operand} {ts:Array TypeId} {args:List D} {r:D} (hi:ops[i]?=some o) (hw:cj ops x o true) (ho:o.op = .call {callee:=.value fo,args:=de,argTypes:=ts}) (hd:o.dst=some t)
  (hf:fo = .func f) (fG:∀args w,(callFunc f args).run P w = .ok (.enter f args) w) (hc:VP P C.G f args r) (ha:nc x de.toList args)
  (K:AD P C ops S1 T fuel (ld.setIfInBounds i true) (x.put t r) Q):bD P C ops S1 T fuel ld x Q i :=
 bD.My hi hw (BU ho hd hf fG ha.eq (fg _) hc) fun y ⟨E,S',⟨h1,h2⟩,hy⟩=>by subst h1 h2;exact hy ▸ K
theorem bD.call {f t:Nat} {fo:Operand} {de:Array Operand} {ts:Array TypeId} {args:List D} {Sf R:List ah} {post:D→List ah→Prop} (hi:ops[i]?=some o) (hw:cj ops x o true) (ho:o.op = .call {callee:=.value fo,args:=de,argTypes:=ts}) (hd:o.dst=some t)
  (hf:fo = .func f) (fG:∀args w,(callFunc f args).run P w = .ok (.enter f args) w) (hc:VC P C.G f args Sf post) (ha:nc x de.toList args) (hp:x.S.Perm (Sf++R)) (hT:∀b∈T,b∈ax R)
  (K:∀r S',post r S'→AD P C ops S1 T fuel (ld.setIfInBounds i true) ⟨x.n,(t,r)::x.env,S'++R⟩ Q):bD P C ops S1 T fuel ld x Q i :=
 bD.gk hi hw (BU ho hd hf fG ha.eq hp hc) (fun C a w hs b hb hm=>by
  have h1:(ax x.S).Perm (ax Sf++ax R):=(by have:=hp.map ah.b;simpa[ax] using this)
  have h2:=h1.nodup_iff.1 hs.own.apart;exact(nodup_append.1 h2).2.2 b hm b (hT b hb) rfl) (fun b hb=>by
  have h1:(ax x.S).Perm (ax Sf++ax R):=(by have:=hp.map ah.b;simpa[ax] using this)
  exact h1.symm.subset (mem_append_left _ hb)) fun y ⟨r,S',h,hy⟩=>hy ▸ K r S' h
theorem bD.append {s y:Operand} {t e tt sz bytes n m b cap k:Nat} {z:Value} {B:ah} {cs:List D} (HV:ops[i]?=some o) (hw:cj ops x o true) (ho:o.op = .call {callee:=.builtin .append,args:=#[s,y],argTypes:=#[t,t]}) (hd:o.dst=some tt)
  (ht:P.underlying t=some (.slice e)) (hi:(P.info? e).map (fun i=>(i.zero,i.size,i.bytes))=some (some z,sz,bytes)) (fb:z.cells.size=sz) (iK:0<sz)
  (hs:aF x s = .v (.slice (some ⟨b,0,none⟩) n cap)) (hk:x.S[k]?=some B) (hb:B.b=b) (he:B.e=e) (U:B.size=cap*sz) (hl:B.cs.length=n*sz) (hn:n≤cap) (qg:cap≤maxLen)
  (hy:aF x y = .list sz cs m) (iq:∀d∈cs,one d=true) (hm:0<m) (gK:n+m≤maxLen) (I:(n+m)*bytes≤140737488355328) (hT:∀b∈T,b∈ax (x.S.eraseIdx k))
  (K:∀O E,n+m≤E→E≤maxLen→AD P C ops S1 T fuel (ld.setIfInBounds i true) ⟨x.n,(tt,.v (.slice (some ⟨O,0,none⟩) (n+m) E))::x.env,⟨O,e,E*sz,B.cs++cs⟩::x.S.eraseIdx k⟩ Q) (hne:isMap B.e=false:=by rfl):bD P C ops S1 T fuel ld x Q i :=
 bD.gk HV hw (Qj (hne:=hne) ho hd ht hi fb iK hs hk hb he U hl hn qg hy iq hm gK I) (fun C a w hs O Z=>hb ▸ G5 hs hk hT O Z) (fun O Z=>by
  have:O=b:=(by simpa using Z)
  subst this;rw[←hb];exact B8 hk) fun y ⟨O,E,h1,h2,hy⟩=>hy ▸ K O E h1 h2
theorem bD.I8 {s y:Operand} {e tt sz bytes m:Nat} {z:Value} {cs:List D} (U:ops[i]?=some o) (hw:cj ops x o true) (ho:o.op = .call {callee:=.builtin .append,args:=#[s,y],argTypes:=#[t,t]}) (hd:o.dst=some tt)
  (ht:P.underlying t=some (.slice e)) (hi:(P.info? e).map (fun i=>(i.zero,i.size,i.bytes))=some (some z,sz,bytes)) (fb:z.cells.size=sz) (Z:0<sz)
  (hs:aF x s = .v (.slice none 0 0)) (hy:aF x y = .list sz cs m) (iq:∀d∈cs,one d=true) (hm:0<m) (gK:m≤maxLen) (I:m*bytes≤140737488355328)
  (K:∀O E,m≤E→E≤maxLen→AD P C ops S1 T fuel (ld.setIfInBounds i true) ⟨x.n,(tt,.v (.slice (some ⟨O,0,none⟩) m E))::x.env,⟨O,e,E*sz,cs⟩::x.S⟩ Q) (hne:isMap e=false:=by rfl):bD P C ops S1 T fuel ld x Q i :=
 bD.My U hw (PV (hne:=hne) ho hd ht hi fb Z hs hy iq hm gK I) fun y ⟨O,E,h1,h2,hy⟩=>hy ▸ K O E h1 h2

end Go.Proofs.YtkgmonfgofobaaaGreatDoor.V
namespace Go.Proofs.YtkgmonfgofobaaaGreatDoor.V
open List
open Go.RowKit
variable {P:Program} {C:dK} {G:List (Nat×List Value)} {Q:Exit→St→Prop} {x:St} {ops:Array Oper} {l:List Oper} {o:Oper} {S1 T:List Nat} {fuel i:Nat} {ld:Array Bool}
variable {S Sq R:List ah} {sz k n cap b tt:Nat} {B:ah} {t e:TypeId} {y:Operand} {ad:Option Addr} {cs':List D}
def View(S:List ah)(d d':D):Prop:=∀(X Y:Nat→Prop) w v,(∀b,Y b→X b)→(∀b,X b→b∉ax S)→Own w (live X S) S→cn w (live X S) d v→cn w Y d' v
theorem cn.bare{w:World}{X Y:Nat→Prop}{d:D}{v:Value}(h:cn w (live X S) d v)(E:∀b,Y b→X b):cn w Y d v:=h.mono fun b _ hn=>⟨rfl,fun hy=>hn (.inl (E b hy))⟩
theorem eW{d:D}:View S d d:=fun X Y w v E _ _ h=>h.bare E
theorem zj:View S (.v (.slice none 0 0)) (.list sz [] 0):=fun X Y w v _ _ _ h=>by rw[h.k8];exact .nil sz
theorem ac5{cs:List D}(hk:S[k]?=some B)(hb:B.b=b)(dy:B.cs=cs)(hl:cs.length=n*sz)(h1:n≤cap)(h2:cap≤maxLen)(hne:isMap B.e=false:=by rfl):View S (.v (.slice (some ⟨b,0,none⟩) n cap)) (.list sz cs n):=fun X Y w v E O ho h=>by
 subst hb dy;rw[h.k8];obtain⟨r0,cur,r1,r2,U,I⟩:=ho.at_ B (mem_of_getElem? hk);rw[kI hne] at r1;refine .list sz B.cs n B.b 0 cap (fun i=>cur.getD i undef) hl h1 h2 r0 (fun hy=>O _ (E _ hy) (mem_map.2 ⟨B,mem_of_getElem? hk,rfl⟩)) (fun i hi=>?_) (fun i hi=>?_)
 ·obtain⟨u,hu,_⟩:=I i hi;rw[Nat.zero_add,ou r1 hu];simp[hu]
 obtain⟨u,hu,hq⟩:=I i hi;simp only[Array.getD_eq_getD_getElem?,hu,Option.getD_some];exact hq.bare E
def gU(S:List ah):List D→List D→Prop
 | [],[]=>True
 | d::r,d'::r'=>View S d d'∧gU S r r'
 | _,_=>False
theorem gU.spec{S:List ah}:∀{ds E:List D},gU S ds E→ds.length=E.length∧∀i (h:i<ds.length) (h':i<E.length),View S ds[i] E[i]
 | [],[],_=>⟨rfl,fun i h=>by simp at h⟩
 | d::r,d'::r',h=>⟨by simp[(gU.spec h.2).1],fun i h1 h2=>by
  cases i with
  | zero=>exact h.1
  | succ i=>exact(gU.spec h.2).2 i _ _⟩
 | [],_::_,h=>h.elim
 | _::_,[],h=>h.elim
theorem vl{ds E:List D}(h:gU S ds E):View S (.agg ds) (.agg E):=fun X Y w v O U ho hr=>by
 obtain⟨h1,h2⟩:=h.spec;cases hr with
 | agg _ vs hl I=>exact .agg E vs w4 fun i q1 q2=>h2 i w4 q1 X Y w _ O U ho (I i w4 q2)
def Looks(x:St):List Operand→List D→Prop
 | [],[]=>True
 | o::r,d::r'=>(∃d0,aF x o=d0∧View x.S d0 d)∧Looks x r r'
 | _,_=>False
theorem Looks.DL{C:dK}{a:Act}{w:World}(h:bK C x a w):∀{os:List Operand} {ds:List D},Looks x os ds→cG w (fun _=>False) ds (os.map a.eval)
 | [],[],_=>⟨rfl,fun i h=>by simp at h⟩
 | o::r,d::r',⟨⟨d0,h1,h2⟩,h3⟩=>cG.cons (h2 _ _ _ _ (fun _ hf=>hf.elim) h.A6 h.own (h1 ▸ h.eval o)) (Looks.DL h h3)
 | [],_::_,h=>h.elim
 | _::_,[],h=>h.elim
theorem Fy{ds E:List D}(h:gU S ds E):View S (.dD ds) (.dD E):=fun X Y w v O U ho hr=>by
 obtain⟨h1,h2⟩:=h.spec;cases hr with
 | dD _ vs hl I=>exact .dD E vs w4 fun i q1 q2=>h2 i w4 q1 X Y w _ O U ho (I i w4 q2)
theorem VC.cover{f:FuncId}{args:List D}{post:D→List ah→Prop}{E:D}(h:VC P G f args [] post)(hv:∀r S',post r S'→View S' r E):VP P G f args E:=fun X w vs hp =>
 (h X w vs hp).mono fun e w' ⟨v,r,S',h1,h2,h3,h4,h5⟩=>by
  have I:∀b,X b→b∉ax S':=fun b hb=>(h5.block b (hp.ex b hb).1 (hp.ex b hb).2).2;refine⟨v,E,[],h1,⟨rfl,rfl⟩,⟨fun B O=>by simp at O,by simp[ax]⟩,hv r S' h2 X _ w' v (fun b hb=>?_) I h3 h4,⟨h5.os,h5.tape,h5.output,h5.size,fun b hb hn=>⟨(h5.block b hb hn).1,by simp[ax]⟩⟩⟩;rcases hb with hb|hb
  ·exact hb
  simp[ax] at hb
def kZ:D→Bool
 | .v _=>true
 | .dD cs=>cs.all fun d=>match d with|.v _=>true|.agg es=>es.all (fun e=>match e with|.v _=>true|_=>false)|_=>false
 | .agg cs=>cs.all fun d=>match d with|.v _=>true|_=>false
 | _=>false
theorem cn.flat{w w':World}{L I:Nat→Prop}{d:D}{v:Value}(h:cn w L d v)(hf:kZ d=true):cn w' I d v:=by
 have key:∀(d:D),(match d with|.v _=>true|_=>false)=true→∀v,cn w L d v→cn w' I d v:=fun d hd v h=>by
  cases d<;>simp at hd
  rw[h.k8];exact .v _
 have E:∀(d:D),(match d with|.v _=>true|.agg es=>es.all (fun e=>match e with|.v _=>true|_=>false)|_=>false)=true→∀v,cn w L d v→cn w' I d v:=fun d hd v h=>by
  cases d<;>simp at hd
  ·rw[h.k8];exact .v _
  cases h with
  | agg _ vs hl hr=>exact .agg _ vs hl fun i h1 h2=>key _ (by have:=hd _ (getElem_mem h1);simpa using this) _ (hr i h1 h2)
 cases h with
 | v=>exact .v _
 | dD cs vs hl hr=>exact .dD cs vs hl fun i h1 h2=>E _ (all_eq_true.1 hf _ (getElem_mem h1)) _ (hr i h1 h2)
 | agg cs vs hl hr=>exact .agg cs vs hl fun i h1 h2=>key _ (all_eq_true.1 hf _ (getElem_mem h1)) _ (hr i h1 h2)
 | _=>cases hf
theorem abw{t':TypeId}{cs:List D}{z:Operand}(ho:o.op = .binOp .eql t y z t')(hd:o.dst=some tt)(hy:aF x y = .list sz cs n)(hz:aF x z = .v (.slice none 0 0))(ht:P.underlying t=some (.slice e)) :
  ga P G x o [] (fun s=>∃b:Bool,(b=true→n=0∧cs=[])∧s=x.put tt (.v (.bool b))):=fun C a w K Q hG h hK=>by
 have hr:=h.eval y;rw[hy] at hr;generalize hg:a.eval y=u at hr;have E:∀ad len cap,u = .slice ad len cap→(execOp a.eval o).run P w = .ok (.value (.bool ad.isNone)) w:=fun ad len cap I=>by
  subst I;unfold execOp;have e1:binOp .eql t (.slice ad len cap) (.slice none 0 0)=(do pure (.bool (←Op.equal t (.slice ad len cap) (.slice none 0 0)))):=rfl;simp only[ho,hg,h.flat hz,eqGuard,e1,Sem.run_bind];simp[run_equal_slice_nil w t e ad len cap ht]
 unfold Oper.wp;cases hr with
 | mB _ ad cap =>
  rw[E ad 0 cap rfl,Oper.upon_value,hd];exact hK _ _ _ ⟨ad.isNone,fun _=>⟨rfl,rfl⟩,rfl⟩ (h.put (.v _)) (mh.refl _ _) (Fr.refl _ _)
 | list _ _ _ b o' cap f hl q1 q2 hb hL hc O =>
  rw[E (some ⟨b,o',none⟩) n cap rfl,Oper.upon_value,hd];exact hK _ _ _ ⟨false,(fun U=>absurd U bj),rfl⟩ (h.put (.v _)) (mh.refl _ _) (Fr.refl _ _)
theorem OD.Aa {t':TypeId} {cs:List D} {z:Operand} (hw:cj ops x o true) (ho:o.op = .binOp .eql t y z t') (hd:o.dst=some tt) (hy:aF x y = .list sz cs n) (hz:aF x z = .v (.slice none 0 0)) (ht:P.underlying t=some (.slice e))
  (K:∀b:Bool,(b=true→n=0∧cs=[])→OD P C ops l (x.put tt (.v (.bool b))) Q):OD P C ops (o::l) x Q :=
 OD.gk hw (abw ho hd hy hz ht) fun y ⟨b,hb,hy⟩=>hy ▸ K b hb
theorem abx(ho:o.op = .buildSlice t 0 #[])(jN:o.dst=some tt)(E:∀w,(underlying t).run P w = .ok (.slice e) w)(hs:∀w,(sizeOf e).run P w = .ok sz w)(hne:isMap e=false:=by rfl) :
  ga P G x o [] (fun s=>∃b,s=⟨x.n,(tt,.v (.slice (some ⟨b,0,none⟩) 0 0))::x.env,⟨b,e,0*sz,[]⟩::x.S⟩):=fun C a w K Q hG h hK=>by
 unfold Oper.wp;have:(execOp a.eval o).run P w = .ok (.value (.slice (some ⟨w.heap.size,0,none⟩) 0 0)) (w.alloc (.cells #[] e)):=by
  unfold execOp;have I:Array.map (fun x=>(default:Value)) (Array.range 0) = #[]:=Array.eq_empty_of_size_eq_zero bj;simp[ho,Instr.buildSlice,E,hs,Instr.fill,newRow,I]
 rw[this,Oper.upon_value,jN];exact hK _ _ _ ⟨w.heap.size,rfl⟩ (h.new (hne:=hne) (ds:=[]) (cG.nil _ _) bj (fun L=>.v _)) (mh.alloc _ _) (Fr.alloc _ _ _)
theorem OD.Ab (hw:cj ops x o true) (ho:o.op = .buildSlice t 0 #[]) (jN:o.dst=some tt) (E:∀w,(underlying t).run P w = .ok (.slice e) w) (hs:∀w,(sizeOf e).run P w = .ok sz w)
  (K:∀b,OD P C ops l ⟨x.n,(tt,.v (.slice (some ⟨b,0,none⟩) 0 0))::x.env,⟨b,e,0*sz,[]⟩::x.S⟩ Q) (hne:isMap e=false:=by rfl):OD P C ops (o::l) x Q :=
 OD.gk hw (abx (hne:=hne) ho jN E hs) fun y ⟨b,hy⟩=>hy ▸ K b
def bn(e sz:Nat)(cs:List D)(n:Nat)(ad:Option Addr)(cap:Nat)(S:List ah):Prop :=
 (n=0∧cs=[]∧ad=none∧cap=0∧S=[])∨∃b,ad=some ⟨b,0,none⟩∧n≤cap∧cap≤maxLen∧S=[⟨b,e,cap*sz,cs⟩]
theorem lU{e:Nat}{cs:List D}(h:bn e sz cs n ad cap Sq)(hl:cs.length=n*sz)(hs:∀B∈Sq,B∈S)(hne:isMap e=false:=by rfl):View S (.v (.slice ad n cap)) (.list sz cs n):=by
 rcases h with ⟨rfl,rfl,rfl,rfl,rfl⟩|⟨b,rfl,h1,h2,rfl⟩
 ·exact zj
 obtain⟨k,hk,he⟩:=mem_iff_getElem.1 (hs _ mem_cons_self);exact ac5 (hne:=hne) (k:=k) (by rw[getElem?_eq_getElem hk,he]) rfl rfl hl h1 h2
theorem bn.le{e:Nat}{cs:List D}(h:bn e sz cs n ad cap S):n≤cap:=by
 rcases h with ⟨rfl,_,_,rfl,_⟩|⟨_,_,h,_⟩
 ·exact Nat.le_refl _
 exact h
theorem Wk.perm{env:List (Nat×D)}{S':List ah}(hp:S.Perm S'):Wk ⟨n,env,S⟩ ⟨n,env,S'⟩:=fun C a w h=>by
 have hb:(ax S).Perm (ax S'):=hp.map ah.b;have hl:live C.X S=live C.X S':=(by funext b;exact propext (or_congr Iff.rfl hb.mem_iff))
 have I:=h.env;have E:=h.own;simp only[hl] at I E;exact⟨h.defers,h.size,I,⟨fun B O=>E.at_ B (hp.symm.subset O),hb.nodup_iff.1 E.apart⟩,
  ⟨h.fr.os,h.fr.tape,h.fr.output,h.fr.size,fun b h1 h2=>⟨(h.fr.block b h1 h2).1,fun hm=>(h.fr.block b h1 h2).2 (hb.symm.subset hm)⟩⟩,h.ex,h.eV⟩
theorem OD.perm{S':List ah}(hp:x.S.Perm S')(k:OD P C ops l ⟨x.n,x.env,S'⟩ Q):OD P C ops l x Q:=OD.wk (Wk.perm hp) k
theorem AD.perm{S':List ah}(hp:x.S.Perm S')(k:AD P C ops S1 T fuel ld ⟨x.n,x.env,S'⟩ Q):AD P C ops S1 T fuel ld x Q:=AD.GA (Wk.perm hp) (fun b hb=>(hp.map ah.b).symm.subset hb) k
theorem CD.perm{c:Code}{S':List ah}(hp:x.S.Perm S')(k:CD P C c ⟨x.n,x.env,S'⟩ Q):CD P C c x Q:=CD.wk (Wk.perm hp) k
theorem Wk.cover{l:List (Nat×D)}{Sd:List ah}{A:ah}(hp:S.Perm ((A::R)++Sd))(hv:gU Sd A.cs cs'):Wk ⟨n,l,S⟩ ⟨n,l,{A with cs:=cs'}::R⟩:=fun C a w h0=>by
 have h:=Wk.perm hp C a w h0;have hd:bK C ⟨n,l,A::R⟩ a w:=Wk.drop n l _ (A::R) (sublist_append_left _ _) C a w h;obtain⟨v1,v2⟩:=hv.spec;have U:live C.X ({A with cs:=cs'}::R)=live C.X (A::R):=rfl;have hL:live C.X ((A::R)++Sd)=live (fun b=>live C.X (A::R) b) Sd:=by
  funext b;simp only[live,ax,map_append,mem_append];exact propext or_assoc.symm
 have hnd:(ax (A::R)++ax Sd).Nodup:=(by have:=h.own.apart;simpa[ax] using this)
 have Z:∀b,live C.X (A::R) b→b∉ax Sd:=fun b hb hm=>by
  rcases hb with hb|hb
  ·exact h.A6 b hb (by simp only[ax,map_append,mem_append] at hm ⊢;exact .inr hm)
  exact(nodup_append.1 hnd).2.2 b hb b hm rfl
 have E:Own w (live (fun b=>live C.X (A::R) b) Sd) Sd:=⟨fun B I=>by rw[←hL];exact h.own.at_ B (mem_append_right _ I),(nodup_append.1 hnd).2.1⟩
 refine⟨hd.defers,hd.size,hd.env,⟨fun B I=>?_,hd.own.apart⟩,hd.fr,hd.ex,hd.eV⟩;rcases mem_cons.1 I with rfl|I
 ·obtain⟨r0,cur,r1,r2,r3,r4⟩:=h.own.at_ A (mem_append_left _ mem_cons_self);refine⟨r0,cur,r1,r2,by rw[←v1];exact r3,fun i hi=>?_⟩;have O:i<A.cs.length:=(by rw[v1];exact hi)
  obtain⟨u,hu,hq⟩:=r4 i O;refine⟨u,hu,v2 i O hi (fun b=>live C.X (A::R) b) _ w u (fun b hb=>hb) Z E ?_⟩;rw[←hL];exact hq
 exact hd.own.at_ B (mem_cons_of_mem _ I)
theorem OD.cover{R Sd:List ah}{A:ah}{cs':List D}(hp:x.S.Perm ((A::R)++Sd))(hv:gU Sd A.cs cs')(k:OD P C ops l ⟨x.n,x.env,{A with cs:=cs'}::R⟩ Q):OD P C ops l x Q:=OD.wk (Wk.cover hp hv) k
theorem E3(hk:S[k]?=some B)(hp:S.Perm (B::R)):(S.eraseIdx k).Perm R:=((vg hk).symm.trans hp).cons_inv
theorem OD.vR {k t m cap sz b:Nat} {B:ah} {cs:List D} (hk:x.S[k]?=some B) (ht:V.look t x.env = .v (.slice (some ⟨b,0,none⟩) m cap)) (hb:B.b=b) (dy:B.cs=cs) (hl:cs.length=m*sz) (h1:m≤cap) (h2:cap≤maxLen)
  (K:OD P C ops l ⟨x.n,(t,.list sz cs m)::x.env,x.S.eraseIdx k⟩ Q) (hne:isMap B.e=false:=by rfl):OD P C ops l x Q:=by
 subst hb;exact OD.wk (Wk.vR (hne:=hne) (n:=x.n) (l:=x.env) (S:=x.S) hk ht dy hl h1 h2) K
theorem AD.vR {k t m cap sz b:Nat} {B:ah} {cs:List D} (hk:x.S[k]?=some B) (ht:V.look t x.env = .v (.slice (some ⟨b,0,none⟩) m cap)) (hb:B.b=b) (dy:B.cs=cs) (hl:cs.length=m*sz) (h1:m≤cap) (h2:cap≤maxLen)
  (K:AD P C ops S1 T fuel ld ⟨x.n,(t,.list sz cs m)::x.env,x.S.eraseIdx k⟩ Q) (hne:isMap B.e=false:=by rfl):AD P C ops S1 T fuel ld x Q:=by
 subst hb;exact AD.GA (Wk.vR (hne:=hne) (n:=x.n) (l:=x.env) (S:=x.S) hk ht dy hl h1 h2) (fun b hb=>(Sublist.map ah.b (eraseIdx_sublist x.S k)).subset hb) K
theorem OD.Fc {s:Operand} {t e bytes m:Nat} {z:Value} {cs new:List D} (hw:cj ops x o true) (ho:o.op = .call {callee:=.builtin .append,args:=#[s,y],argTypes:=#[t,t]}) (hd:o.dst=some tt)
  (ht:P.underlying t=some (.slice e)) (hi:(P.info? e).map (fun i=>(i.zero,i.size,i.bytes))=some (some z,sz,bytes)) (fb:z.cells.size=sz) (U:0<sz)
  (hs:aF x s = .v (.slice ad n cap)) (tN:bn e sz cs n ad cap Sq) (hp:x.S.Perm (Sq++R)) (hl:cs.length=n*sz)
  (hy:aF x y = .list sz new m) (iq:∀d∈new,one d=true) (hm:0<m) (gK:n+m≤maxLen) (I:(n+m)*bytes≤140737488355328)
  (K:∀O E,n+m≤E→E≤maxLen→OD P C ops l ⟨x.n,(tt,.v (.slice (some ⟨O,0,none⟩) (n+m) E))::x.env,⟨O,e,E*sz,cs++new⟩::R⟩ Q) (hne:isMap e=false:=by rfl):OD P C ops (o::l) x Q:=by
 rcases tN with ⟨rfl,rfl,rfl,rfl,rfl⟩|⟨b,rfl,h1,h2,rfl⟩
 ·refine OD.I8 (hne:=hne) hw ho hd ht hi fb U hs hy iq hm w4 (by rw[Nat.zero_add] at I;exact I) fun O E q1 q2=>?_;have:=K O E w4 q2;rw[Nat.zero_add] at this;exact OD.wk (Wk.perm (hp.cons _)) this
 obtain⟨k,hk,he⟩:=mem_iff_getElem.1 (hp.symm.subset (mem_append_left _ mem_cons_self));have Z:x.S[k]?=some (⟨b,e,cap*sz,cs⟩:ah):=(by rw[getElem?_eq_getElem hk,he])
 refine OD.append (hne:=hne) hw ho hd ht hi fb U hs Z rfl rfl rfl hl h1 h2 hy iq hm gK I fun O E q1 q2=>?_;exact OD.wk (Wk.perm ((E3 Z hp).cons _)) (K O E q1 q2)
theorem bD.Fc {s:Operand} {t e bytes m:Nat} {z:Value} {cs new:List D} (Z:ops[i]?=some o) (hw:cj ops x o true) (ho:o.op = .call {callee:=.builtin .append,args:=#[s,y],argTypes:=#[t,t]}) (hd:o.dst=some tt)
  (ht:P.underlying t=some (.slice e)) (hi:(P.info? e).map (fun i=>(i.zero,i.size,i.bytes))=some (some z,sz,bytes)) (fb:z.cells.size=sz) (iK:0<sz)
  (hs:aF x s = .v (.slice ad n cap)) (tN:bn e sz cs n ad cap Sq) (hp:x.S.Perm (Sq++R)) (hl:cs.length=n*sz)
  (hy:aF x y = .list sz new m) (iq:∀d∈new,one d=true) (hm:0<m) (gK:n+m≤maxLen) (I:(n+m)*bytes≤140737488355328) (hT:∀b∈T,b∈ax R)
  (K:∀U E,n+m≤E→E≤maxLen→AD P C ops S1 T fuel (ld.setIfInBounds i true) ⟨x.n,(tt,.v (.slice (some ⟨U,0,none⟩) (n+m) E))::x.env,⟨U,e,E*sz,cs++new⟩::R⟩ Q) (hne:isMap e=false:=by rfl):bD P C ops S1 T fuel ld x Q i:=by
 rcases tN with ⟨rfl,rfl,rfl,rfl,rfl⟩|⟨b,rfl,h1,h2,rfl⟩
 ·refine bD.I8 (hne:=hne) Z hw ho hd ht hi fb iK hs hy iq hm w4 (by rw[Nat.zero_add] at I;exact I) fun U E q1 q2=>?_;have:=K U E w4 q2;rw[Nat.zero_add] at this;exact AD.GA (Wk.perm (hp.cons _)) (fun b hb=>((hp.cons _).map ah.b).symm.subset hb) this
 obtain⟨k,hk,he⟩:=mem_iff_getElem.1 (hp.symm.subset (mem_append_left _ mem_cons_self));have O:x.S[k]?=some (⟨b,e,cap*sz,cs⟩:ah):=(by rw[getElem?_eq_getElem hk,he])
 refine bD.append (hne:=hne) Z hw ho hd ht hi fb iK hs O rfl rfl rfl hl h1 h2 hy iq hm gK I (fun b hb=>((E3 O hp).map ah.b).symm.subset (hT b hb)) fun U E q1 q2=>?_;exact AD.GA (Wk.perm ((E3 O hp).cons _)) (fun b hb=>(((E3 O hp).cons _).map ah.b).symm.subset hb) (K U E q1 q2)
theorem OD.storeAt {o':Nat} {d:D} {z:Operand} (hw:cj ops x o true) (ho:o.op = .store t y z) (jN:o.dst=none) (hy:aF x y = .v (.pointer (some ⟨b,o',none⟩)))
  (hk:x.S[k]?=some B) (hb:B.b=b) (hz:aF x z=d) (hj:kY d=true) (h1:(cellsOf d).all one=true) (hn:∀w,(sizeOf t).run P w = .ok n w) (gC:(cellsOf d).length=n) (hl:o'+n≤B.cs.length) (dy:dm B.cs o' (cellsOf d)=cs')
  (K:OD P C ops l ⟨x.n,x.env,x.S.set k {B with cs:=cs'}⟩ Q) (hne:isMap B.e=false:=by rfl):OD P C ops (o::l) x Q :=
 OD.gk hw (Fb (hne:=hne) ho jN hy hk hb hz (fun h=>by rw[h] at hj;cases hj) h1 hn gC hl dy) fun y hy=>hy ▸ K
theorem bD.storeAt {o':Nat} {d:D} {z:Operand} (hi:ops[i]?=some o) (hw:cj ops x o true) (ho:o.op = .store t y z) (jN:o.dst=none) (hy:aF x y = .v (.pointer (some ⟨b,o',none⟩)))
  (hk:x.S[k]?=some B) (hb:B.b=b) (hz:aF x z=d) (hj:kY d=true) (h1:(cellsOf d).all one=true) (hn:∀w,(sizeOf t).run P w = .ok n w) (gC:(cellsOf d).length=n) (hl:o'+n≤B.cs.length) (dy:dm B.cs o' (cellsOf d)=cs')
  (hT:∀b∈T,b∈ax (x.S.eraseIdx k))
  (K:AD P C ops S1 T fuel (ld.setIfInBounds i true) ⟨x.n,x.env,x.S.set k {B with cs:=cs'}⟩ Q) (hne:isMap B.e=false:=by rfl):bD P C ops S1 T fuel ld x Q i :=
 bD.gk hi hw (Fb (hne:=hne) ho jN hy hk hb hz (fun h=>by rw[h] at hj;cases hj) h1 hn gC hl dy) (fun C a w hs I E=>hb ▸ G5 hs hk hT I E) (fun I E=>by
  have:I=b:=(by simpa using E)
  subst this;rw[←hb];exact B8 hk) fun y hy=>hy ▸ K

end Go.Proofs.YtkgmonfgofobaaaGreatDoor.V
namespace Go.Proofs.YtkgmonfgofobaaaGreatDoor.V
open List
open Go.RowKit
variable {P:Program} {G:List (Nat×List Value)} {x:St} {o:Oper} {S:List ah}
variable {y:Operand} {d0:D} {k b o' n sz i j cap h' l':Nat} {t e:TypeId} {B:ah} {α:Type} {ad:Option Addr} {lo hi:Option Operand}
def R1(P:Program)(G:List (Nat×List Value))(S:List ah)(mk:Operand→Op)(d0:D)(k:Rd)(d:D):Prop:=∀x o y,o.op=mk y→aF x y=d0→x.S=S→bW P G x o k d
theorem cW{mk:Operand→Op}{d:D}{k:Rd}(ho:o.op=mk y)(hy:aF x y=d0)(H:R1 P G x.S mk d0 k d):bW P G x o k d:=H x o y ho hy rfl
def R2(P:Program)(G:List (Nat×List Value))(S:List ah)(mk:Operand→Operand→Op)(d0 d1:D)(k:Rd)(d:D):Prop:=∀x o y z,o.op=mk y z→aF x y=d0→aF x z=d1→x.S=S→bW P G x o k d
theorem o9{mk:Operand→Operand→Op}{z:Operand}{d1 d:D}{k:Rd}(ho:o.op=mk y z)(hy:aF x y=d0)(hz:aF x z=d1)(H:R2 P G x.S mk d0 d1 k d):bW P G x o k d:=H x o y z ho hy hz rfl
theorem zL{t:Nat}{d:D}(hk:S[k]?=some B)(hb:B.b=b)(ha:∀w,(isAgg t).run P w = .ok false w)(hd:B.cs[o']?=some d)(hne:isMap B.e=false:=by rfl):R1 P G S (Op.load t) (.v (.pointer (some ⟨b,o',none⟩))) (.fN k) d:=fun x o y ho hy hS=>EW (hne:=hne) ho hy (hS ▸ hk) hb ha hd
theorem qJ{t:Nat}{ds:List D}(hk:S[k]?=some B)(hb:B.b=b)(ha:∀w,(isAgg t).run P w = .ok true w)(hn:∀w,(sizeOf t).run P w = .ok n w)(hl:ds.length=n)(hd:(B.cs.drop o').take n=ds)(hne:isMap B.e=false:=by rfl):R1 P G S (Op.load t) (.v (.pointer (some ⟨b,o',none⟩))) (.fN k) (.agg ds):=fun x o y ho hy hS=>Bx (hne:=hne) ho hy (hS ▸ hk) hb ha hn hl hd
theorem CW{t:Nat}{cs:List D}{d:D}(ha:∀w,(isAgg t).run P w = .ok false w)(hd:cs[o']?=some d):R1 P G S (Op.load t) (.fQ cs o') .kj d:=fun x o y ho hy _=>EV ho hy ha hd
theorem qR{t:Nat}{cs ds:List D}(ha:∀w,(isAgg t).run P w = .ok true w)(hn:∀w,(sizeOf t).run P w = .ok n w)(hl:ds.length=n)(hd:(cs.drop o').take n=ds):R1 P G S (Op.load t) (.fQ cs o') .kj (.agg ds):=fun x o y ho hy _=>II ho hy ha hn hl hd
theorem vC{g:α→List D}{t:Nat}{ls:List α}{d:D}(hg:∀a,(g a).length=sz)(ha:∀w,(isAgg t).run P w = .ok false w)(hi:i<ls.length)(hd:(g ls[i])[j]?=some d):R1 P G S (Op.load t) (.fQ (ls.flatMap g) (i*sz+j)) .kj d:=CW ha (zz hg hi hd)
theorem rJ{g:α→List D}{t:Nat}{ls:List α}{d:D}(hg:∀a,(g a).length=sz)(ha:∀w,(isAgg t).run P w = .ok false w)(hi:i<ls.length)(hd:(g ls[i])[0]?=some d):R1 P G S (Op.load t) (.fQ (ls.flatMap g) (i*sz)) .kj d:=CW ha (JJ hg hi hd)
theorem ku{g:α→List D}{t:Nat}{ls:List α}(hg:∀a,(g a).length=sz)(ha:∀w,(isAgg t).run P w = .ok true w)(hn:∀w,(sizeOf t).run P w = .ok sz w)(hi:i<ls.length):R1 P G S (Op.load t) (.fQ (ls.flatMap g) (i*sz)) .kj (.agg (g ls[i])):=qR ha hn (hg _) (GC hg hi)
theorem agP{t:Nat}{vs:List Value}{v:Value}(hg:(b,vs)∈G)(ha:∀w,(isAgg t).run P w = .ok false w)(hd:vs[o']?=some v)(rj:rI v=true:=by rfl):R1 P G S (Op.load t) (.v (.pointer (some ⟨b,o',none⟩))) .kj (.v v):=fun x o y ho hy _=>aaf ho hy hg ha hd rj
theorem lG{g:α→List D}{t:Nat}{ls:List α}{d:D}(hg:∀a,(g a).length=sz)(hk:S[k]?=some B)(hb:B.b=b)(dy:B.cs=ls.flatMap g)(ha:∀w,(isAgg t).run P w = .ok false w)(hi:i<ls.length)(hd:(g ls[i])[j]?=some d)(hne:isMap B.e=false:=by rfl):R1 P G S (Op.load t) (.v (.pointer (some ⟨b,0+i*sz+j,none⟩))) (.fN k) d :=
 zL (hne:=hne) hk hb ha (by rw[dy,Nat.zero_add];exact zz hg hi hd)
theorem jk{g:α→List D}{t:Nat}{ls:List α}{d:D}(hg:∀a,(g a).length=sz)(hk:S[k]?=some B)(hb:B.b=b)(dy:B.cs=ls.flatMap g)(ha:∀w,(isAgg t).run P w = .ok false w)(hi:i<ls.length)(hd:(g ls[i])[0]?=some d)(hne:isMap B.e=false:=by rfl):R1 P G S (Op.load t) (.v (.pointer (some ⟨b,0+i*sz,none⟩))) (.fN k) d :=
 zL (hne:=hne) hk hb ha (by rw[dy,Nat.zero_add];exact JJ hg hi hd)
theorem dL{g:α→List D}{t:Nat}{ls:List α}(hg:∀a,(g a).length=sz)(hk:S[k]?=some B)(hb:B.b=b)(dy:B.cs=ls.flatMap g)(ha:∀w,(isAgg t).run P w = .ok true w)(hn:∀w,(sizeOf t).run P w = .ok sz w)(hi:i<ls.length)(hne:isMap B.e=false:=by rfl):R1 P G S (Op.load t) (.v (.pointer (some ⟨b,0+i*sz,none⟩))) (.fN k) (.agg (g ls[i])) :=
 qJ (hne:=hne) hk hb ha hn (hg _) (by rw[dy,Nat.zero_add];exact GC hg hi)
theorem TX{len:Nat}{ts:Array TypeId}(ht:ts = #[t])(E:∀w,(underlying t).run P w = .ok (.slice e) w):R1 P G S (fun y=>.call {callee:=.builtin .len,args:=#[y],argTypes:=ts}) (.v (.slice ad len cap)) .none (.v (.int .i64 len)):=fun x o y ho hy _=>Qi ho ht hy E
theorem pU{len:Nat}{cs:List D}{k:IntKind}{i:Int}(E:∀w,(underlying t).run P w = .ok (.slice e) w)(hs:∀w,(sizeOf e).run P w = .ok sz w)(hi:i=j)(hj:j<len):R2 P G S (Op.indexAddr t) (.list sz cs len) (.v (.int k i)) .none (.fQ cs (j*sz)):=fun x o y z ho hy hz _=>QE ho hy hz E hs hi hj
theorem pY{len:Nat}{k:IntKind}{i:Int}(E:∀w,(underlying t).run P w = .ok (.slice e) w)(hs:∀w,(sizeOf e).run P w = .ok sz w)(hi:i=j)(hj:j<len):R2 P G S (Op.indexAddr t) (.v (.slice (some ⟨b,o',none⟩) len cap)) (.v (.int k i)) .none (.v (.pointer (some ⟨b,o'+j*sz,none⟩))):=fun x o y z ho hy hz _=>Qh ho hy hz E hs hi hj
theorem Vh{len:Nat}{k:IntKind}{i:Int}(E:∀w,(underlying t).run P w = .ok (.array len e) w)(hs:∀w,(sizeOf e).run P w = .ok sz w)(hi:i=j)(hj:j<len):R2 P G S (Op.indexAddr t) (.v (.pointer (some ⟨b,o',none⟩))) (.v (.int k i)) .none (.v (.pointer (some ⟨b,o'+j*sz,none⟩))):=fun x o y z ho hy hz _=>aaC ho hy hz E hs hi hj
def Bd(x:St)(y:Option Operand)(n:Nat):Prop:=match y with|some y=>∃(k:IntKind),aF x y = .v (.int k n)|none=>True
def Rs(P:Program)(G:List (Nat×List Value))(t:TypeId)(lo hi:Option Operand)(l h:Nat)(d0:D)(d:D):Prop:=∀x o y,o.op = .slice t y lo hi none→aF x y=d0→Bd x lo l→Bd x hi h→bW P G x o .none d
theorem eJ{l h:Nat}{d:D}(ho:o.op = .slice t y lo hi none)(hy:aF x y=d0)(hl:Bd x lo l)(E:Bd x hi h)(H:Rs P G t lo hi l h d0 d):bW P G x o .none d:=H x o y ho hy hl E
theorem rE{y:Option Operand}{df:Nat}(h:Bd x y n)(hd:y=none→n=df):mT x y n df:=by
 cases y with
 | none=>exact hd rfl
 | some y=>obtain⟨k,hk⟩:=h;exact⟨k,_,hk,rfl⟩
theorem nS {g:α→List D} (hg:∀a,(g a).length=sz) {ls:List α} (eK:hi=none→h'=ls.length)
  (E:∀w,(underlying t).run P w = .ok (.slice e) w) (hs:∀w,(sizeOf e).run P w = .ok sz w) (h2:h'≤ls.length):Rs P G t lo hi 0 h' (.list sz (ls.flatMap g) ls.length) (.list sz ((ls.take h').flatMap g) (ls.take h').length):=fun x o y ho hy hl I =>
 aaj hg ho hy (rE hl fun _=>rfl) (rE I eK) E hs h2
theorem nR {g:α→List D} {ls:List α} (E:h'=ls.length) (hg:∀a,(g a).length=sz) (e9:lo=none→l'=0)
  (I:∀w,(underlying t).run P w = .ok (.slice e) w) (hs:∀w,(sizeOf e).run P w = .ok sz w) (h2:l'≤ls.length):Rs P G t lo none l' h' (.list sz (ls.flatMap g) ls.length) (.list sz ((ls.drop l').flatMap g) (ls.drop l').length):=fun x o y ho hy hl O=>by
 subst E;exact aak hg ho hy (rE hl e9) rfl I hs h2
theorem mO {len:Nat} {cs:List D} (e9:lo=none→l'=0) (eK:hi=none→h'=len)
  (E:∀w,(underlying t).run P w = .ok (.slice e) w) (hs:∀w,(sizeOf e).run P w = .ok sz w) (h1:l'≤h') (h2:h'≤len):Rs P G t lo hi l' h' (.list sz cs len) (.list sz ((cs.drop (l'*sz)).take ((h'-l')*sz)) (h'-l')):=fun x o y ho hy hl I =>
 IK ho hy (rE hl e9) (rE I eK) E hs h1 h2
theorem nx {len:Nat} (eK:hi=none→h'=len)
  (E:∀w,(underlying t).run P w = .ok (.slice e) w) (hs:∀w,(sizeOf e).run P w = .ok sz w) (h2:h'≤cap):Rs P G t lo hi 0 h' (.v (.slice (some ⟨b,o',none⟩) len cap)) (.v (.slice (some ⟨b,o',none⟩) h' cap)):=fun x o y ho hy hl I =>
 P0 ho hy (rE hl fun _=>rfl) (rE I eK) E hs h2
theorem agR {s:ByteArray} (e9:lo=none→l'=0) (eK:hi=none→h'=s.size)
  (E:∀w,(underlying t).run P w = .ok .string w) (h1:l'≤h') (h2:h'≤s.size):Rs P G t lo hi l' h' (.v (.string s)) (.v (.string (s.extract l' h'))):=fun x o y ho hy hl I =>
 Z1 ho hy (rE hl e9) (rE I eK) E h1 h2
theorem OD.eL {C:dK} {Q:Exit→St→Prop} {ops:Array Oper} {l:List Oper} {g:α→List D} {ls new:List α} {s:Operand} {t e tt bytes:Nat} {z:Value} {Sq R:List ah} (hg:∀a,(g a).length=sz) (hg1:∀a,(g a).all one=true) (hw:cj ops x o true) (ho:o.op = .call {callee:=.builtin .append,args:=#[s,y],argTypes:=#[t,t]}) (hd:o.dst=some tt)
  (ht:P.underlying t=some (.slice e)) (hi:(P.info? e).map (fun i=>(i.zero,i.size,i.bytes))=some (some z,sz,bytes)) (fb:z.cells.size=sz) (U:0<sz)
  (hs:aF x s = .v (.slice ad ls.length cap)) (Z:bn e sz (ls.flatMap g) ls.length ad cap Sq) (hp:x.S.Perm (Sq++R))
  (hy:aF x y = .list sz (new.flatMap g) new.length) (hm:0<new.length) (gK:ls.length+new.length≤maxLen) (I:(ls.length+new.length)*bytes≤140737488355328)
  (K:∀O E,(ls++new).length≤E→E≤maxLen→OD P C ops l ⟨x.n,(tt,.v (.slice (some ⟨O,0,none⟩) (ls++new).length E))::x.env,⟨O,e,E*sz,(ls++new).flatMap g⟩::R⟩ Q) (hne:isMap e=false:=by rfl):OD P C ops (o::l) x Q :=
 OD.Fc (hne:=hne) hw ho hd ht hi fb U hs Z hp (cz hg ls) hy (uq hg1 new) hm gK I fun O E h1 h2=>by
  have:=K O E (by rw[length_append];exact h1) h2;rw[length_append,flatMap_append] at this;exact this
theorem Wk.shrink{l:List (Nat×D)}{S:List ah}{cs':List D}(hk:S[k]?=some B)(hp:cs' <+: B.cs):Wk ⟨n,l,S⟩ ⟨n,l,S.set k {B with cs:=cs'}⟩:=fun C a w h=>by
 have dJ:=(List.getElem?_eq_some_iff.1 hk).1;have U:=(List.getElem?_eq_some_iff.1 hk).2;have E:ax (S.set k {B with cs:=cs'})=ax S:=by
  unfold ax;rw[map_set];apply ext_getElem bj;intro i q1 q2;rw[getElem_set];split
  ·rename_i e;subst e;simp[U]
  rfl
 have I:live C.X (S.set k {B with cs:=cs'})=live C.X S:=(by funext b;simp only[live,E])
 refine⟨h.defers,h.size,fun t ht=>?_,⟨fun B' Z=>?_,?_⟩,?_,h.ex,h.eV⟩
 ·simp only[I];exact h.env t ht
 ·simp only[I];obtain⟨j,hj,O⟩:=mem_iff_getElem.1 Z;rw[length_set] at hj;rw[getElem_set] at O;by_cases e:k=j
  ·rw[if_pos e] at O;subst O;obtain⟨r0,cur,r1,r2,r3,r4⟩:=h.own.at_ B (mem_of_getElem? hk);refine⟨r0,cur,r1,r2,Nat.le_trans hp.length_le r3,fun i hi=>?_⟩;obtain⟨u,hu,hq⟩:=r4 i (Nat.lt_of_lt_of_le hi hp.length_le);refine⟨u,hu,?_⟩;have:cs'[i]=B.cs[i]'(Nat.lt_of_lt_of_le hi hp.length_le):=IsPrefix.getElem hp hi;simp only[this];exact hq
  rw[if_neg e] at O;subst O;exact h.own.at_ _ (getElem_mem hj)
 ·simp only[E];exact h.own.apart
 simp only[E];exact h.fr
theorem OD.shrink{C:dK}{Q:Exit→St→Prop}{ops:Array Oper}{l:List Oper}{k:Nat}{B:ah}{cs':List D}(hk:x.S[k]?=some B)(hp:cs' <+: B.cs)(K:OD P C ops l ⟨x.n,x.env,x.S.set k {B with cs:=cs'}⟩ Q):OD P C ops l x Q:=OD.wk (Wk.shrink hk hp) K

end Go.Proofs.YtkgmonfgofobaaaGreatDoor.V
namespace Go.Proofs.YtkgmonfgofobaaaGreatDoor.V
open List
open Go.RowKit
variable {P:Program} {C:dK} {G:List (Nat×List Value)} {Q:Exit→St→Prop} {x:St} {ops:Array Oper} {l:List Oper} {o:Oper} {n:Nat} {e:List (Nat×D)} {S:List ah}
variable {t i:Nat} {b:Bool} {y c:Operand} {d':D} {kd:Rd} {l':List (Nat×D)} {p:Prop} {post:D→List ah→Prop}
def rp(P:Program)(t n:Nat):Bool:=match P.info? t with|some i=>Nat.beq i.size n|none=>false
theorem lZ{n:Nat}(h:rp P t n=true):∀w,(sizeOf t).run P w = .ok n w:=by
 unfold rp at h;cases hi:P.info? t with
 | none=>rw[hi] at h;cases h
 | some i =>
  rw[hi] at h;intro w;have:=run_sizeOf (P:=P) w hi;rw[this];simp only[Program.cellsOf,hi,Option.map_some,Option.getD_some,Nat.eq_of_beq_eq_true h]
def rq(P:Program)(t:Nat)(b:Bool):Bool:=match P.underlying t with
 | some (.struct _)=>b
 | some (.array _ _)=>b
 | some _=>!b
 | none=>false
theorem iY(h:rq P t b=true):∀w,(isAgg t).run P w = .ok b w:=by
 unfold rq at h;intro w;cases hu:P.underlying t with
 | none=>rw[hu] at h;cases h
 | some d =>
  rw[hu] at h;have hr:=run_underlying hu w;unfold isAgg;rw[Sem.run_bind,hr];cases d<;>simp only at h<;>first|(subst h;rfl)|(cases b;rfl;cases h)
def DM(P:Program)(s i off:Nat):Bool:=match P.underlying s with
 | some (.struct fs)=>match fs[i]? with
  | some f=>Nat.beq f.offset off&&(match P.info? f.type with|some j=>Nat.ble 1 j.size|none=>false)
  | none=>false
 | _=>false
theorem aic{s off:Nat}(h:DM P s i off=true):∃E f m,(∀w,(underlying s).run P w = .ok (.struct E) w)∧E[i]?=some f∧(∀w,(sizeOf f.type).run P w = .ok (m+1) w)∧f.offset=off:=by
 unfold DM at h;split at h
 ·rename_i E I;split at h
  ·rename_i f hf;rw[Bool.and_eq_true] at h;obtain⟨h1,h2⟩:=h;split at h2
   ·rename_i j hj;have O:=Nat.le_of_ble_eq_true h2;refine⟨E,f,j.size-1,run_underlying I,hf,fun w=>?_,Nat.eq_of_beq_eq_true h1⟩;have:=run_sizeOf (P:=P) w hj;rw[this];simp only[Program.cellsOf,hj,Option.map_some,Option.getD_some];congr 1;omega
   cases h2
  cases h
 cases h
def DN(P:Program)(t sz:Nat):Bool:=match P.underlying t with
 | some (.slice e)=>rp P e sz
 | _=>false
theorem aid{sz:Nat}(h:DN P t sz=true):∃e,(∀w,(underlying t).run P w = .ok (.slice e) w)∧∀w,(sizeOf e).run P w = .ok sz w:=by
 unfold DN at h;split at h
 ·rename_i e E;exact⟨e,run_underlying E,lZ h⟩
 cases h
def N8(P:Program)(t:Nat):Bool:=match P.underlying t with
 | some (.slice _)=>true
 | _=>false
theorem agS(h:N8 P t=true):∃e,∀w,(underlying t).run P w = .ok (.slice e) w:=by
 unfold N8 at h;split at h
 ·rename_i e E;exact⟨e,run_underlying E⟩
 cases h
theorem bI{z:Operand}{d:D}(ho:o.op = .move z∨o.op = .assign z:=by first|exact .inl rfl|exact .inr rfl)(hz:aF x z=d:=by first|exact ot|exact bP|exact tV|exact wT):bW P G x o .none d:=by
 rcases ho with h|h
 ·exact ac3 h hz
 exact ac4 h hz
inductive FA (off:Nat):D→D→Prop
 | p {b o':Nat}:FA off (.v (.pointer (some ⟨b,o',none⟩))) (.v (.pointer (some ⟨b,o'+off,none⟩)))
 | i {cs:List D} {o':Nat}:FA off (.fQ cs o') (.fQ cs (o'+off))
theorem dX(off:Nat){s:TypeId}{d:D}(ho:o.op = .fieldAddr s y i:=by exact rfl)(hy:aF x y=d:=by first|exact ot|exact wT)(hc:DM P s i off=true:=by kernel_rfl)(h:FA off d d':=by first|exact .p|exact .i):bW P G x o .none d':=by
 obtain⟨fs,f,m,h1,h2,h3,h4⟩:=aic hc;cases h with
 | p=>exact aae ho hy h1 h2 h3 h4
 | i=>exact Z0 ho hy h1 h2 h3 h4
theorem qm{d:D}(ho:o.op = .nilCheck y:=by exact rfl)(hy:aF x y=d:=by exact ot)(h:FA 0 d d:=by first|exact .p|exact .i):bW P G x o .none d:=by
 cases h with
 | p=>exact ZK ho hy
 | i=>exact ZJ ho hy
theorem N9{cs:List D}{d:D}(ho:o.op = .extract y i:=by exact rfl)(hy:aF x y = .dD cs:=by exact ot)(hd:cs[i]?=some d:=by exact rfl):bW P G x o .none d:=ZP ho hy hd
inductive LD (S:List ah):D→Rd→D→Prop
 | b (k:Nat) {b o':Nat} {B:ah} {d:D} (hk:S[k]?=some B) (hb:B.b=b) (hd:B.cs[o']?=some d) (hne:isMap B.e=false):LD S (.v (.pointer (some ⟨b,o',none⟩))) (.fN k) d
 | m {α:Type} {g:α→List D} {sz i j:Nat} {ls:List α} {d:D} (hg:∀a,(g a).length=sz) (hi:i<ls.length) (hd:(g ls[i])[j]?=some d):LD S (.fQ (ls.flatMap g) (i*sz+j)) .kj d
 | m0 {α:Type} {g:α→List D} {sz i:Nat} {ls:List α} {d:D} (hg:∀a,(g a).length=sz) (hi:i<ls.length) (hd:(g ls[i])[0]?=some d):LD S (.fQ (ls.flatMap g) (i*sz)) .kj d
 | r (k:Nat) {α:Type} {g:α→List D} {b sz i j:Nat} {B:ah} {ls:List α} {d:D} (hg:∀a,(g a).length=sz) (hk:S[k]?=some B) (hb:B.b=b) (dy:B.cs=ls.flatMap g) (hi:i<ls.length) (hd:(g ls[i])[j]?=some d) (hne:isMap B.e=false):LD S (.v (.pointer (some ⟨b,0+i*sz+j,none⟩))) (.fN k) d
 | r0 (k:Nat) {α:Type} {g:α→List D} {b sz i:Nat} {B:ah} {ls:List α} {d:D} (hg:∀a,(g a).length=sz) (hk:S[k]?=some B) (hb:B.b=b) (dy:B.cs=ls.flatMap g) (hi:i<ls.length) (hd:(g ls[i])[0]?=some d) (hne:isMap B.e=false):LD S (.v (.pointer (some ⟨b,0+i*sz,none⟩))) (.fN k) d
 | i {o':Nat} {cs:List D} {d:D} (hd:cs[o']?=some d):LD S (.fQ cs o') .kj d
theorem LD.still{t:TypeId}{d0 d:D}(h:LD x.S d0 kd d)(ho:o.op = .load t y)(hy:aF x y=d0)(ha:∀w,(isAgg t).run P w = .ok false w):bW P G x o kd d:=by
 cases h with
 | b k hk hb hd hne=>exact EW (hne:=hne) ho hy hk hb ha hd
 | m hg hi hd=>exact EV ho hy ha (zz hg hi hd)
 | m0 hg hi hd=>exact EV ho hy ha (JJ hg hi hd)
 | r k hg hk hb dy hi hd hne=>exact lG (hne:=hne) hg hk hb dy ha hi hd x o y ho hy rfl
 | r0 k hg hk hb dy hi hd hne=>exact jk (hne:=hne) hg hk hb dy ha hi hd x o y ho hy rfl
 | i hd=>exact EV ho hy ha hd
theorem fa {t:TypeId} {d0 d:D} (ho:o.op = .load t y:=by exact rfl) (hy:aF x y=d0:=by exact ot) (ha:rq P t false=true:=by kernel_rfl)
  (h:LD x.S d0 kd d:=by first|exact .m AW w5 rfl|exact .m0 AW w5 rfl|exact .b 0 rfl rfl rfl rfl|exact .b 1 rfl rfl rfl rfl|exact .b 2 rfl rfl rfl rfl|exact .b 3 rfl rfl rfl rfl|exact .b 4 rfl rfl rfl rfl|exact .i rfl|exact .r 0 AW rfl rfl rfl w5 rfl rfl|exact .r0 0 AW rfl rfl rfl w5 rfl rfl|exact .r 1 AW rfl rfl rfl w5 rfl rfl|exact .r0 1 AW rfl rfl rfl w5 rfl rfl):bW P G x o kd d:=h.still ho hy (iY ha)
theorem ee(k:Nat){b o':Nat}{B:ah}{d:D}(ho:o.op = .load t y:=by exact rfl)(hy:aF x y = .v (.pointer (some ⟨b,o',none⟩)):=by exact ot)(hk:x.S[k]?=some B:=by exact rfl)(hb:B.b=b:=by exact rfl)(ha:rq P t false=true:=by kernel_rfl)(hd:B.cs[o']?=some d:=by exact rfl)(hne:isMap B.e=false:=by exact rfl):bW P G x o (.fN k) d:=EW (hne:=hne) ho hy hk hb (iY ha) hd
theorem Mm(k:Nat)(ds:List D){b o':Nat}{B:ah}(ho:o.op = .load t y:=by exact rfl)(hy:aF x y = .v (.pointer (some ⟨b,o',none⟩)):=by exact ot)(ha:rq P t true=true:=by kernel_rfl)(hk:x.S[k]?=some B:=by exact rfl)(hb:B.b=b:=by exact rfl)(hd:(B.cs.drop o').take ds.length=ds:=by exact rfl)(hne:isMap B.e=false:=by exact rfl)(hn:rp P t ds.length=true:=by kernel_rfl):bW P G x o (.fN k) (.agg ds):=Bx (hne:=hne) ho hy hk hb (iY ha) (lZ hn) rfl hd
inductive IX (sz:Nat) (i:Int):D→D→Prop
 | l {cs:List D} {len j:Nat} (hi:i=j) (hj:j<len):IX sz i (.list sz cs len) (.fQ cs (j*sz))
 | r {b o' len cap j:Nat} (hi:i=j) (hj:j<len):IX sz i (.v (.slice (some ⟨b,o',none⟩) len cap)) (.v (.pointer (some ⟨b,o'+j*sz,none⟩)))
theorem dO (sz:Nat) {t:TypeId} {z:Operand} {k:IntKind} {i:Int} {d:D} (ho:o.op = .indexAddr t y z:=by exact rfl) (hy:aF x y=d:=by exact ot) (hz:aF x z = .v (.int k i):=by first|exact ot|exact bP) (hs:DN P t sz=true:=by kernel_rfl)
  (h:IX sz i d d':=by first|exact .l rfl w5|exact .r rfl w5|exact .l (Int.toNat_of_nonneg w4).symm w4|exact .r (Int.toNat_of_nonneg w4).symm w4):bW P G x o .none d':=by
 obtain⟨e,h1,h2⟩:=aid hs;cases h with
 | l hi hj=>exact QE ho hy hz h1 h2 hi hj
 | r hi hj=>exact Qh ho hy hz h1 h2 hi hj
theorem yy{t:TypeId}{d:D}{m:Nat}{ts:Array TypeId}(ho:o.op = .call {callee:=.builtin .len,args:=#[y],argTypes:=ts}:=by exact rfl)(ht:ts = #[t]:=by exact rfl)(hy:aF x y=d:=by exact ot)(hs:N8 P t=true:=by kernel_rfl)(h:(∃sz cs,d = .list sz cs m)∨∃ad cap,d = .v (.slice ad m cap):=by first|exact .inl ⟨_,_,rfl⟩|exact .inr ⟨_,_,rfl⟩):bW P G x o .none (.v (.int .i64 m)):=by
 obtain⟨e,he⟩:=agS hs;rcases h with ⟨sz,cs,rfl⟩|⟨ad,cap,rfl⟩
 ·exact abr ho ht hy he
 exact Qi ho ht hy he
theorem qs {op:BinOp} {t t':TypeId} {z:Operand} {u u' r:Value} (ho:o.op = .binOp op t y z t':=by exact rfl) (hy:aF x y = .v u:=by first|exact ot|exact bP) (hz:aF x z = .v u':=by first|exact ot|exact bP)
  (hb:kX P op t u u' r:=by first|exact TU|exact TQ|exact kr (wrap_i64 w4 w4)|exact iy (wrap_i64 w4 w4)|exact TV|exact TS|exact TR|exact TT|exact Ku (wrap_i64 w4 w4)|exact RR|exact RS|exact ac6|exact ac7|exact ac8|exact ac9|exact Kw w4):bW P G x o .none (.v r):=dA ho hy hz hb
theorem lB{t:TypeId}(ho:o.op = .unOp .not t y:=by exact rfl)(hy:aF x y = .v (.bool b):=by exact ot):bW P G x o .none (.v (.bool !b)):=Fw ho hy agN
theorem xU{z:Operand}{d:D}(ho:o.op = .pick c y z:=by exact rfl)(hc:aF x c = .v (.bool b):=by exact ot)(h:b=true:=by first|rfl|assumption)(hd:aF x y=d:=by first|exact ot|exact bP):bW P G x o .none d:=aah ho hc h hd
theorem vM{z:Operand}{d:D}(ho:o.op = .pick c y z:=by exact rfl)(hc:aF x c = .v (.bool b):=by exact ot)(h:b=false:=by first|rfl|assumption)(hd:aF x z=d:=by first|exact ot|exact bP):bW P G x o .none d:=aai ho hc h hd
theorem bV{d:D}(h:bW P C.G ⟨n,e,S⟩ o kd d)(K:OD P C ops l ⟨n,(t,d)::e,S⟩ Q)(hw:cj ops ⟨n,e,S⟩ o true:=by first|exact sF rfl|exact uf rfl rfl rfl lk jC)(hd:o.dst=some t:=by exact rfl):OD P C ops (o::l) ⟨n,e,S⟩ Q:=OD.still hw hd h K
theorem DO(K:OD P C ops l ⟨n,(t,.v (.tuple #[]))::e,S⟩ Q)(hw:cj ops ⟨n,e,S⟩ o false:=by exact mP rfl rfl rfl lk jC)(hd:o.dst=some t:=by exact rfl):OD P C ops (o::l) ⟨n,e,S⟩ Q:=OD.skip hw hd K
inductive fJ:List Nat→List (Nat×D)→List (Nat×D)→Prop
 | nil {e:List (Nat×D)}:fJ [] e []
 | cons {t:Nat} {ts:List Nat} {d:D} {e l':List (Nat×D)} (h:look t e=d) (k:fJ ts e l'):fJ (t::ts) e ((t,d)::l')
theorem fJ.kK{ts:List Nat}{e:List (Nat×D)}(h:fJ ts e l'):nV e l':=by
 induction h with
 | nil=>trivial
 | cons h _ ih=>exact⟨h,ih⟩
theorem Yw(ts:List Nat)(K:Q .normal ⟨n,l',S⟩)(h:fJ ts e l':=by repeat (first|exact fJ.nil|(apply fJ.cons;focus exact lk))):OD P C ops [] ⟨n,e,S⟩ Q:=OD.wk (Wk.er rfl rfl h.kK) (OD.nil K)
def isR:Code→Bool
 | .region ..=>true
 | _=>false
theorem sN_{c d:Code}(K:CD P C c x (CV P C d Q))(h:isR c=false:=by exact rfl):CD P C (.seq c d) x Q:=CD.seq K
theorem nM{q:Prop}(h:q→p:=by intro k;(repeat (first|refine sN_ ?_|refine CD.skip ?_|refine CD.block ?_|refine CD.exit ?_|refine CD.ret ?_|fail));exact k):q→p:=h
theorem eZ{fn:Func}{ex:Exit}{d:D}(hp:post d [])(h0:Body P fn post ex ⟨n,e,S⟩→p:=by exact nM)(he:ex = .normal∨ex = .ret:=by first|exact .inr rfl|exact .inl rfl)(hr:fn.results = #[.tmp t]:=by exact rfl)(ht:Nat.blt t n=true:=by exact rfl)(hd:look t e=d:=by exact lk):p :=
 h0 ⟨he,d,[],nil_sublist _,TO hr (zy (Nat.le_of_ble_eq_true ht) hd),hp⟩
theorem N3{fn:Func}{ex:Exit}{t':Nat}{d:D}(hp:post (.dD [d,d']) [])(h0:Body P fn post ex ⟨n,e,S⟩→p:=by exact nM)(he:ex = .normal∨ex = .ret:=by first|exact .inr rfl|exact .inl rfl)(hr:fn.results = #[.tmp t,.tmp t']:=by exact rfl)(ht:Nat.blt t n=true:=by exact rfl)(HX:Nat.blt t' n=true:=by exact rfl)(hd:look t e=d:=by exact lk)(hd':look t' e=d':=by exact lk):p :=
 h0 ⟨he,_,[],nil_sublist _,Ks hr (zy (Nat.le_of_ble_eq_true ht) hd) (zy (Nat.le_of_ble_eq_true HX) hd'),hp⟩
theorem cf{id:Nat}{r:List Oper}{d:Code}(h:OD P C r.toArray r x (CV P C d Q))(h0:CD P C (.seq (.region id r.toArray false) d) x Q→p:=by exact nM):p:=h0 (CD.seq (CD.region h))
theorem tO{id:Nat}{r:List Oper}(h:OD P C r.toArray r x Q)(h0:CD P C (.region id r.toArray false) x Q→p:=by exact nM):p:=h0 (CD.region h)
theorem eY{d e:Code}(ht:CD P C d x Q)(h0:CD P C (.cond c d e) x Q→p:=by exact nM)(hc:aF x c = .v (.bool b):=by exact ot)(hb:b=true:=by first|rfl|assumption):p:=h0 (CD.aib hc hb ht)
theorem gq{d e:Code}(ht:CD P C e x Q)(h0:CD P C (.cond c d e) x Q→p:=by exact nM)(hc:aF x c = .v (.bool b):=by exact ot)(hb:b=false:=by first|rfl|assumption):p:=h0 (CD.LW hc hb ht)

end Go.Proofs.YtkgmonfgofobaaaGreatDoor.V
namespace Go.Proofs.YtkgmonfgofobaaaGreatDoor.Tab
open List
open Go.RowKit Go.ChangeShapes
variable {α:Type}
theorem chunks{α:Type}{g:α→List Value}{c:Nat}:∀(E:List α) (cs:List Value),cs.length=E.length*c→(∀i (h:i<E.length),(cs.drop (i*c)).take c=g E[i])→cs=E.flatMap g
 | [],cs,hl,_=>by
  have:cs=[]:=length_eq_zero_iff.1 uK;simp[this]
 | r::E,cs,hl,h=>by
  have h0:cs.take c=g r:=by
   have h1:=h 0 bj;simp only[Nat.zero_mul,drop_zero] at h1;exact h1
  have ih:=chunks (c:=c) E (cs.drop c) (by rw[length_drop,hl,length_cons,Nat.add_mul];omega) (fun i hi=>by
   have h1:=h (i+1) (by simpa using hi);rw[drop_drop,show c+i*c=(i+1)*c from by rw[Nat.add_mul];omega];exact h1)
  rw[flatMap_cons,←h0,←ih,take_append_drop]
variable {H:Type} {enc:TypeId×Value→H} {P:Program} {w:World} {base:Nat} {sp:Nat→Bool} {held:Bool}
def Reads(enc:TypeId×Value→H)(P:Program)(w:World)(base:Nat)(sp:Nat→Bool)(held:Bool)(e:TypeId)(f:α→DataW H)(g:α→List Value):Prop :=
 ∀(fuel:Nat) (cs:List Value) (x:DataW H×List MemPlace),DataW.trod enc P w base sp held fuel e cs=some x→∀r,x.1=f r→cs=g r
theorem reads_string{e:TypeId}(he:P.underlying e=some .string):Reads enc P w base sp held e (fun b:List UInt8=>.lit (.string b)) (fun b=>[.string ⟨b.toArray⟩]):=by
 intro fuel cs x h r hr;obtain⟨s,rfl,rfl,_⟩:=DataW.trod_string he h;simp at hr;obtain⟨⟨s⟩⟩:=s;simp at hr;rw[←hr]
theorem reads_arr {f:α→DataW H} {g:α→List Value} {t e:TypeId} {n:Nat} (ht:P.underlying t=some (.array n e)) (I:P.cellsOf t=n*P.cellsOf e)
  (dc:Reads enc P w base sp held e f g):Reads enc P w base sp held t (fun E:List α=>.agg (E.map f)) (fun E=>E.flatMap g):=by
 intro fuel cs x h E hr;obtain⟨xs,m,_,rfl,hl,hn,hi⟩:=DataW.trod_array ht h;simp only[DataW.agg.injEq] at hr;have O:E.length=n:=(by have:=congrArg length hr;simp at this;omega)
 refine chunks E cs (by rw[hl,I,O]) fun i U=>?_;have h1:=hi i w4;rw[getElem?_eq_getElem w4] at h1;refine dc m _ _ h1 _ ?_;have:=congrArg (fun l=>l[i]?) hr;simpa[getElem?_eq_getElem U,getElem?_eq_getElem (show i<xs.length by omega)] using this
theorem var_cells {f:α→DataW Unit} {g:α→List Value} {W:World} {n:String} {E:Nat} {t:TypeId} {cs:Array Value} {fuel:Nat} {p:List MemPlace} {r:α}
  (hg:P.globalNamed n=some E) (hv:W.var? P n=some cs) (hd:DataW.trod (fun _=>()) P W 0 (fun _=>true) false fuel t cs.toList=some (f r,p))
  (dc:Reads (fun _=>()) P W 0 (fun _=>true) false t f g) (i:Nat) (v:Value) (hi:(g r)[i]?=some v):W.cell? ⟨E,i,none⟩=some v:=by
 have h:=dc _ _ _ hd r rfl;rw[World.var?_cell hg hv i,←Array.getElem?_toList,h,hi]
def l5(w:World)(g:Nat)(l:List Value):Prop:=∀i v,l[i]?=some v→w.cell? ⟨g,i,none⟩=some v

end Go.Proofs.YtkgmonfgofobaaaGreatDoor.Tab
namespace Go.Proofs.YtkgmonfgofobaaaGreatDoor.V
open List
open Go.RowKit
variable {G:List (Nat×List Value)} {α:Type} {t:TypeId}
def CX(w:World)(g:Nat)(l:List Value):Prop:=∀i v,l[i]?=some v→ox w g i v
theorem CX.of{w:World}{g:Nat}{l:List Value}(h:Tab.l5 w g l)(hp:l.all rI=true):CX w g l:=fun i v hi=>.of (h i v hi) (RO hp hi)
theorem VP.run {P:Program} {f:FuncId} {args:List D} {vs:List Value} {r:Value} {w:World} (h:VP P G f args (.v r))
  (hG:∀g∈G,g.2≠[]∧CX w g.1 g.2) (hr:cG w (live (fun _=>False) []) args vs):Calls P f vs.toArray w fun e w'=>e = .returned r∧Below w.heap.size w w':=by
 have hp:HW G (fun _=>False) w [] args vs:=by
  refine⟨fun _ h=>h.elim,fun g hg=>⟨⟨?_,by simp[ax],fun h=>h⟩,(hG g hg).2⟩,⟨fun B E=>by simp at E,by simp[ax]⟩,hr⟩;obtain⟨h1,h2⟩:=hG g hg;cases hl:g.2 with
  | nil=>exact absurd hl h1
  | cons v l=>exact(h2 0 v (by rw[hl];rfl)).lt
 refine(h _ w vs hp).mono fun e w' ⟨v,I,S',h1,⟨h2,h3⟩,h4,h5,h6⟩=>?_;subst h2;rw[h5.k8] at h1;exact⟨h1,h6.os,h6.tape,h6.output,h6.size,fun k hk=>(h6.block k hk (by simp[ax])).1⟩
theorem cG.vs(w:World)(L:Nat→Prop)(vs:List Value):cG w L (vs.map .v) vs:=⟨by simp,fun i h1 h2=>by rw[getElem_map];exact .v _⟩
theorem CA{a:Int}(h:(Lit.int .i64 a).wf=true):-9223372036854775808≤a∧a≤9223372036854775807:=bounds_i64 h

variable {H:Type} {enc:TypeId×Value→H} {P:Program} {w:World} {base:Nat} {sp:Nat→Bool} {held:Bool}
def pH(enc:TypeId×Value→H)(P:Program)(w:World)(base:Nat)(sp:Nat→Bool)(held:Bool)(t:TypeId)(g:α→List D)(ok:α→Prop):Prop :=
 ∀fuel cs x,DataW.trod enc P w base sp held fuel t cs=some x→∃a,cG w (fun _=>False) (g a) cs∧ok a
theorem vy(ht:P.underlying t=some (.int .i64)):pH enc P w base sp held t (fun n:Int=>[.v (.int .i64 n)]) (fun n=>-9223372036854775808≤n∧n≤9223372036854775807):=fun fuel cs x h=>by
 obtain⟨n,rfl,_,hw⟩:=DataW.trod_int ht h;exact⟨n,cG.vs w _ [_],CA hw⟩
theorem ae8(ht:P.underlying t=some .bool):pH enc P w base sp held t (fun n:Bool=>[.v (.bool n)]) (fun _=>True):=fun fuel cs x h=>by
 obtain⟨n,rfl,_⟩:=DataW.trod_bool ht h;exact⟨n,cG.vs w _ [_],trivial⟩
theorem QI(ht:P.underlying t=some .string):pH enc P w base sp held t (fun n:ByteArray=>[.v (.string n)]) (fun s=>s.size≤maxLen):=fun fuel cs x h=>by
 obtain⟨n,rfl,_,hw⟩:=DataW.trod_string ht h;exact⟨n,cG.vs w _ [_],hw⟩
theorem pH.map{β:Type}{g:α→List D}{ok:α→Prop}{I:β→List D}{E:β→Prop}(h:pH enc P w base sp held t g ok)(f:α→β)(hg:∀a,I (f a)=g a)(aT:∀a,ok a→E (f a)):pH enc P w base sp held t I E:=fun fuel cs x hx=>by
 obtain⟨a,h1,h2⟩:=h fuel cs x hx;exact⟨f a,by rw[hg];exact h1,aT a h2⟩
theorem aaF {f0 f1 f2:Field} {E I O:Type} {g0:E→List D} {g1:I→List D} {g2:O→List D} {k0:E→Prop} {k1:I→Prop} {k2:O→Prop} {n0 n1 n2:Nat}
  (ht:P.underlying t=some (.struct #[f0,f1,f2])) (hc:P.cellsOf t=n0+n1+n2) (Z:f0.offset=0) (o1:f1.offset=n0) (o2:f2.offset=n0+n1) (c0:P.cellsOf f0.type=n0) (c1:P.cellsOf f1.type=n1) (c2:P.cellsOf f2.type=n2)
  (r0:pH enc P w base sp held f0.type g0 k0) (r1:pH enc P w base sp held f1.type g1 k1) (r2:pH enc P w base sp held f2.type g2 k2) :
  pH enc P w base sp held t (fun a:E × I × O=>g0 a.1++(g1 a.2.1++g2 a.2.2)) (fun a=>k0 a.1∧k1 a.2.1∧k2 a.2.2):=fun fuel cs x h=>by
 obtain⟨xs,n,_,_,hl,gp,hf⟩:=DataW.trod_struct ht h;have U:=hf 0 f0 rfl;have e1:=hf 1 f1 rfl;have e2:=hf 2 f2 rfl;rw[Z,c0,drop_zero] at U;rw[o1,c1] at e1;rw[o2,c2] at e2;have Oa:xs.length=3:=gp;rw[getElem?_eq_getElem w4] at U e1 e2;obtain⟨a0,p0,q0⟩:=r0 _ _ _ U;obtain⟨a1,p1,q1⟩:=r1 _ _ _ e1;obtain⟨a2,p2,q2⟩:=r2 _ _ _ e2;refine⟨(a0,a1,a2),?_,q0,q1,q2⟩;have dy:cs=cs.take n0++((cs.drop n0).take n1++(cs.drop (n0+n1)).take n2):=by
  rw[←drop_drop,take_of_length_le (l:=drop n1 (drop n0 cs)) (by rw[length_drop,length_drop];omega),take_append_drop,take_append_drop]
 rw[dy];exact p0.append (p1.append p2)
theorem ada {e:TypeId} {sz b':Nat} {g:α→List D} {ok:α→Prop} (ht:P.underlying t=some (.slice e)) (hce:P.cellsOf e=sz) (iK:0<sz) (re:pH enc P w base sp held e g ok) (hg:∀a,(g a).length=sz) {v:Value} {d:DataW H} {p:List MemPlace}
  (hval:Value.okWide P w .any b' t v) (h:DataW.Trod enc P w base sp held t v d p):∃l:List α,cn w (fun _=>False) (.list sz (l.flatMap g) l.length) v∧(∀x∈l,ok x)∧l.length≤maxLen:=by
 have hv:Cell.okWide P w .any b' t v:=(by unfold Value.okWide at hval;rw[ht] at hval;exact hval)
 unfold Cell.okWide at hv;rw[ht] at hv;obtain⟨m,hm⟩:=h;have hv2:Cell.ok P w .any b' t v:=(by revert hv;cases v<;>exact id)
 unfold Cell.ok at hv2;rw[ht] at hv2;cases v with
 | slice ad len cap =>
  rcases Go.Deep.open_slice ht hm with ⟨h1,_⟩|⟨a,U,Z,mm,n,Dd,Pl,h1,hb,hl,c8,Ob,_,hx⟩
  ·have e1:Value.slice ad len cap = .slice none 0 0:=(by simpa[Value.cells] using h1)
   rw[e1];exact⟨[],.nil sz,(fun x hx=>by cases hx),Nat.zero_le _⟩
  have e1:Value.slice ad len cap = .slice (some a) U Z:=(by simpa[Value.cells] using h1)
  cases e1;have ajM:w.has P .any b' a e cap:=hv2.2.2;obtain⟨_,I,row,cells,DP,_⟩:=ajM;obtain⟨b,o,s⟩:=a;have E:s=none:=I;subst E;have aa:b<w.heap.size:=by
   rcases Nat.lt_or_ge b w.heap.size with h2|h2
   ·exact h2
   simp[World.shape?,Array.getElem?_eq_none h2] at DP
  have hle:len≤mm:=(by rw[Ob];split<;>omega)
  have each:∀i:Fin len,∃a:α,(∃cs',w.cells? base ((⟨b,o,none⟩:Addr).add (i.1*P.cellsOf e)) (P.cellsOf e)=some cs'∧cG w (fun _=>False) (g a) cs')∧ok a:=fun i=>by
   obtain⟨cs',h1,h2⟩:=hx i.1 w4;obtain⟨a,h3,h4⟩:=re _ _ _ h2;exact⟨a,⟨cs',h1,h3⟩,h4⟩
  let l:List α:=ofFn fun i:Fin len=>Classical.choose (each i)
  have lC:l.length=len:=(by simp[l])
  have Yx:∀i (hi:i<l.length),(∃cs',w.cells? base ((⟨b,o,none⟩:Addr).add (i*P.cellsOf e)) (P.cellsOf e)=some cs'∧cG w (fun _=>False) (g l[i]) cs')∧ok l[i]:=fun i hi=>by
   have:=Classical.choose_spec (each ⟨i,by omega⟩);simpa[l] using this
  refine⟨l,?_,fun x hx=>?_,by omega⟩
  ·have key:∀k,k<(l.flatMap g).length→∃u,w.cell? ⟨b,o+k,none⟩=some u∧∀h:k<(l.flatMap g).length,cn w (fun _=>False) (l.flatMap g)[k] u:=fun k hk=>by
    rw[cz hg] at hk;have hi:k/sz<l.length:=Nat.div_lt_of_lt_mul (by rw[Nat.mul_comm];exact hk);have hj:k % sz<sz:=Nat.mod_lt _ iK;have lO:k/sz*sz+k % sz=k:=(by rw[Nat.mul_comm];exact Nat.div_add_mod k sz)
    obtain⟨⟨cs',h1,h2⟩,_⟩:=Yx _ hi;obtain⟨_,h4,h5⟩:=World.cells?_some h1;have h6:=h5 (k % sz) w4;have jQ:k % sz<cs'.length:=(by omega)
    rw[getElem?_eq_getElem jQ,Go.Deep.add_add,hce,lO,Addr.add_mid] at h6;refine⟨_,h6,fun h=>?_⟩;have h7:=h2.2 (k % sz) (by rw[hg];exact hj) jQ;have h8:=zz hg hi (getElem?_eq_getElem (show k % sz<(g l[k/sz]).length by rw[hg];exact hj));rw[lO,getElem?_eq_getElem h] at h8;rw[Option.some.inj h8];exact h7
   have Yy:len≤cap:=hl;have O:Value.slice (some ⟨b,o,none⟩) len cap=Value.slice (some ⟨b,o,none⟩) l.length cap:=(by rw[lC])
   rw[O];refine cn.list (L:=fun _=>False) sz (l.flatMap g) l.length b o cap (fun k=>(w.cell? ⟨b,o+k,none⟩).getD undef) (cz hg l) w4 c8 aa (fun h=>h.elim) (fun k hk=>?_) (fun k hk=>?_)
   ·obtain⟨u,h1,_⟩:=key k hk;rw[h1];rfl
   obtain⟨u,h1,h2⟩:=key k hk;simp only[h1,Option.getD_some];exact h2 hk
  obtain⟨i,hi,rfl⟩:=mem_iff_getElem.1 hx;exact(Yx i hi).2
 | _=>exact hv2.elim
theorem VP.Mz {f:FuncId} {args:List D} {vs:List Value} {r:Value} (h:VP P G f args (.v r))
  (hG:∀g∈G,g.2≠[]∧CX w g.1 g.2) (hr:cG w (fun _=>False) args vs):Calls P f vs.toArray w fun e w'=>e = .returned r∧Below w.heap.size w w' :=
 h.run hG (hr.mono fun b _ _=>⟨rfl,fun hl=>by rcases hl with hl|hl;exact hl;simp[ax] at hl⟩)

end Go.Proofs.YtkgmonfgofobaaaGreatDoor.V
namespace Go.Proofs.YtkgmonfgofobaaaGreatDoor.V
open List
open Go.RowKit
variable {P:Program} {C:dK} {G:List (Nat×List Value)} {Q:Exit→St→Prop} {x:St} {ops:Array Oper} {l:List Oper} {o:Oper} {S1 T:List Nat} {fuel i:Nat} {ld:Array Bool}
variable {sz n k b o' cap h' m c:Nat} {B:ah} {cs':List D} {t e:TypeId} {y:Operand} {lo hi:Option Operand}
theorem wM:∀(ds cs:List D) (off:Nat),off+ds.length≤cs.length→dm cs off ds=cs.take off++ds++cs.drop (off+ds.length)
 | [],cs,off,h=>by simp[dm]
 | d::ds,cs,off,h=>by
  simp only[length_cons] at h;have e:cs.set off d=(cs.take off++[d])++cs.drop (off+1):=(by rw[set_eq_take_append_cons_drop,if_pos w4];simp)
  have hl:(cs.take off++[d]).length=off+1:=(by simp;omega)
  rw[dm,wM ds _ (off+1) iB,e,take_left' hl,←drop_drop,drop_left' hl,drop_drop];simp only[append_assoc,cons_append,nil_append,length_cons];congr 4;omega
theorem pi{α:Type}{g:α→List D}(hg:∀a,(g a).length=sz)(ls:List α){i:Nat}(a:α)(hi:i<ls.length):dm (ls.flatMap g) (i*sz) (g a)=(ls.set i a).flatMap g:=by
 have h1:(i+1)*sz≤ls.length*sz:=Nat.mul_le_mul_right _ hi;rw[Nat.succ_mul] at h1;rw[wM _ _ _ (by rw[cz hg,hg];exact h1),hg,set_eq_take_append_cons_drop,if_pos hi,ug hg,←Nat.succ_mul,vp hg];simp[flatMap_append]
theorem Wk.WO{l:List (Nat×D)}{S:List ah}(hk:S[k]?=some B)(hl:cs'.length≤B.size)(hc:∀(i:Nat) (d:D),cs'[i]?=some d→B.cs[i]?=some d∨d=D.bX):Wk ⟨n,l,S⟩ ⟨n,l,S.set k {B with cs:=cs'}⟩:=fun C a w h=>by
 have dJ:=(List.getElem?_eq_some_iff.1 hk).1;have U:=(List.getElem?_eq_some_iff.1 hk).2;have E:ax (S.set k {B with cs:=cs'})=ax S:=by
  unfold ax;rw[map_set];apply ext_getElem bj;intro i q1 q2;rw[getElem_set];split
  ·rename_i e;subst e;simp[U]
  rfl
 have I:live C.X (S.set k {B with cs:=cs'})=live C.X S:=(by funext b;simp only[live,E])
 refine⟨h.defers,h.size,fun t ht=>?_,⟨fun B' Z=>?_,?_⟩,?_,h.ex,h.eV⟩
 ·simp only[I];exact h.env t ht
 ·simp only[I];obtain⟨j,hj,O⟩:=mem_iff_getElem.1 Z;rw[length_set] at hj;rw[getElem_set] at O;by_cases e:k=j
  ·rw[if_pos e] at O;subst O;obtain⟨r0,cur,r1,r2,r3,r4⟩:=h.own.at_ B (mem_of_getElem? hk);refine⟨r0,cur,r1,r2,hl,fun i hi=>?_⟩;simp only at hi hl;have lQ:i<cur.size:=(by omega)
   rcases hc i _ (getElem?_eq_getElem hi) with hd|hd
   ·obtain⟨hd1,hd2⟩:=List.getElem?_eq_some_iff.1 hd;obtain⟨u,hu,hq⟩:=r4 i hd1;rw[hd2] at hq;exact⟨u,hu,hq⟩
   exact⟨cur[i],by simp[lQ],by simp only[hd];exact .bX _⟩
  rw[if_neg e] at O;subst O;exact h.own.at_ _ (getElem_mem hj)
 ·simp only[E];exact h.own.apart
 simp only[E];exact h.fr
def eS(cap l sz o':Nat):Nat:=if cap=l then o' else o'+l*sz
theorem ZR {len l:Nat} (ho:o.op = .slice t y lo hi none) (hy:aF x y = .v (.slice (some ⟨b,o',none⟩) len cap)) (e9:mT x lo l 0) (eK:mT x hi h' len)
  (E:∀w,(underlying t).run P w = .ok (.slice e) w) (hs:∀w,(sizeOf e).run P w = .ok sz w) (h1:l≤h') (h2:h'≤cap):bW P G x o .none (.v (.slice (some ⟨b,eS cap l sz o',none⟩) (h'-l) (cap-l))):=fun C a w _ h =>
 ⟨_,.v _,fun w' _=>by
  have b1:=sI h e9;have b2:=sI h eK;have b3:=fun w=>wK (P:=P) (il:=true) (w:=w) b1 b2 h1 h2;unfold execOp eS;simp only[ho,h.flat hy,Instr.sliceAt,Instr.slice,E,Sem.run_bind,Result.andThen_ok,Option.map_none,b3,hs,Sem.run_pure];by_cases hc:cap=l
  ·rw[if_pos hc,if_pos hc]
  rw[if_neg hc,if_neg hc];simp only[Option.map_some,Addr.add_mid]⟩
theorem zw {l len:Nat} (e9:lo=none→l=0) (eK:hi=none→h'=len)
  (E:∀w,(underlying t).run P w = .ok (.slice e) w) (hs:∀w,(sizeOf e).run P w = .ok sz w) (h1:l≤h') (h2:h'≤cap):Rs P G t lo hi l h' (.v (.slice (some ⟨b,o',none⟩) len cap)) (.v (.slice (some ⟨b,eS cap l sz o',none⟩) (h'-l) (cap-l))):=fun x o y ho hy hl I =>
 ZR ho hy (rE hl e9) (rE I eK) E hs h1 h2
theorem PX {len l:Nat} {k1 k2 k3:IntKind} {lo hi E:Operand} (ho:o.op = .slice t y (some lo) (some hi) (some E)) (hy:aF x y = .v (.slice (some ⟨b,o',none⟩) len cap)) (e9:aF x lo = .v (.int k1 l)) (eK:aF x hi = .v (.int k2 h')) (c8:aF x E = .v (.int k3 m))
  (I:∀w,(underlying t).run P w = .ok (.slice e) w) (hs:∀w,(sizeOf e).run P w = .ok sz w) (h1:l≤h') (h2:h'≤m) (h3:m≤cap):bW P G x o .none .bX:=fun C a w _ h =>
 ⟨.slice (some ⟨b,if m=l then o' else o'+l*sz,none⟩) (h'-l) (m-l),.bX _,fun w' _=>by
  have b3:∀w,(Instr.sliceBounds true len cap (some (.int k1 l)) (some (.int k2 h')) (some (.int k3 m))).run P w = .ok (l,h',m) w:=fun w=>by
   unfold Instr.sliceBounds;simp[EX,h1,h2,h3]
  unfold execOp;simp only[ho,h.flat hy,h.flat e9,h.flat eK,h.flat c8,Instr.sliceAt,Instr.slice,I,Sem.run_bind,Result.andThen_ok,Option.map_some,b3,hs,Sem.run_pure];by_cases hc:m=l
  ·rw[if_pos hc,if_pos hc]
  rw[if_neg hc,if_neg hc];simp only[Option.map_some,Addr.add_mid]⟩
theorem Z4 {s:Operand} {t e tt oy:Nat} {new:List D} (ho:o.op = .call {callee:=.builtin .append,args:=#[s,y],argTypes:=#[t,t]}) (hd:o.dst=some tt)
  (ht:P.underlying t=some (.slice e)) (hi:(P.info? e).map (fun i=>i.size)=some sz)
  (hs:aF x s = .v (.slice (some ⟨b,0,none⟩) n cap)) (hk:x.S[k]?=some B) (hb:B.b=b) (hy:aF x y = .v (.slice (some ⟨b,oy,none⟩) m c))
  (O:(B.cs.drop oy).take (m*sz)=new) (hlen:new.length=m*sz) (iq:∀d∈new,one d=true) (Z:n+m≤cap) (hl:n*sz+m*sz≤B.cs.length) (dy:dm B.cs (n*sz) new=cs') (hne:isMap B.e=false:=by rfl) :
  ga P G x o [b] (fun y=>y=⟨x.n,(tt,.v (.slice (some ⟨b,0,none⟩) (n+m) cap))::x.env,x.S.set k {B with cs:=cs'}⟩):=fun C a w K Q hG h hK=>by
 subst dy hb;obtain⟨i,kC,rfl⟩:∃i,P.info? e=some i∧i.size=sz:=by
  cases h:P.info? e with
  | none=>simp[h] at hi
  | some i=>simp[h] at hi;exact⟨i,rfl,hi⟩
 obtain⟨h0,cur,q1,q2,q3,q4⟩:=h.fN hk;rw[kI hne] at q1;have dc:∀j,j<m*i.size→∃hj:oy+j<B.cs.length,∃hn:j<new.length,new[j]=B.cs[oy+j]:=fun j hj=>by
  have h1:j<new.length:=(by omega)
  have h2:oy+j<B.cs.length:=by
   have:=congrArg length O;rw[length_take,length_drop,hlen] at this;omega
  refine⟨h2,h1,?_⟩;have e2:new[j]?=some B.cs[oy+j]:=(by rw[←O,getElem?_take,if_pos hj,getElem?_drop,getElem?_eq_getElem h2])
  rw[getElem?_eq_getElem h1] at e2;exact Option.some.inj e2
 let vs:List Value:=(range (m*i.size)).map fun j=>cur.getD (oy+j) undef
 have I:vs.length=m*i.size:=(by simp[vs])
 have hv:∀j (hj:j<m*i.size),∃u,cur[oy+j]?=some u∧vs[j]?=some u∧cn w (live C.X x.S) (new[j]'w4) u:=fun j hj=>by
  obtain⟨h1,h2,h3⟩:=dc j hj;obtain⟨u,E,hq⟩:=q4 (oy+j) h1;refine⟨u,E,?_,h3 ▸ hq⟩;simp[vs,hj,E]
 have hr:cG w (live C.X x.S) new vs:=⟨by rw[I,hlen],fun j h1 h2=>by
  obtain⟨u,_,E,hq⟩:=hv j w4;rw[getElem?_eq_getElem h2] at E;rw[Option.some.inj E];exact hq⟩
 obtain⟨s1,s2,s3⟩:=h.store (hne:=hne) hk hr (o':=n*i.size) (by rw[hlen];exact hl);have U:=run_append_room_cells (P:=P) w t o.type e i ht kC B.b 0 n cap ⟨B.b,oy,none⟩ m c vs I (fun j u E=>by
   rw[Addr.add_mid];have hj:j<m*i.size:=(by rw[←I];exact(List.getElem?_eq_some_iff.1 E).1)
   obtain⟨u',yz,yA,_⟩:=hv j hj;rw[yA] at E;rw[←E];exact ou q1 yz) (fun u E=>by
   obtain⟨j,hj,rfl⟩:=mem_iff_getElem.1 E;have jD:j<new.length:=(by omega)
   exact(hr.2 j jD hj).BS (iq _ (getElem_mem jD))) Z (fun j hj=>by
   have:(0+n*i.size+j)<cur.size:=(by rw[I] at hj;omega)
   rw[ou q1 (u:=cur[0+n*i.size+j]) (by simp[this])];rfl) (fun j hj=>by unfold World.frozen?;simp[q1])
 rw[Nat.zero_add] at U;have LX:=BA (o:=o) (a:=a) ho (h.flat hs) (h.flat hy) U;unfold Oper.wp;rw[LX,Oper.upon_value,hd];exact hK _ _ _ rfl (s1.put (.v _)) s2 s3
theorem bD.RT {s:Operand} {t e tt oy:Nat} {new:List D} (U:ops[i]?=some o) (hw:cj ops x o true) (ho:o.op = .call {callee:=.builtin .append,args:=#[s,y],argTypes:=#[t,t]}) (hd:o.dst=some tt)
  (ht:P.underlying t=some (.slice e)) (hi:(P.info? e).map (fun i=>i.size)=some sz)
  (hs:aF x s = .v (.slice (some ⟨b,0,none⟩) n cap)) (hk:x.S[k]?=some B) (hb:B.b=b) (hy:aF x y = .v (.slice (some ⟨b,oy,none⟩) m c))
  (O:(B.cs.drop oy).take (m*sz)=new) (hlen:new.length=m*sz) (iq:∀d∈new,one d=true) (E:n+m≤cap) (hl:n*sz+m*sz≤B.cs.length) (dy:dm B.cs (n*sz) new=cs') (hT:∀b∈T,b∈ax (x.S.eraseIdx k))
  (K:AD P C ops S1 T fuel (ld.setIfInBounds i true) ⟨x.n,(tt,.v (.slice (some ⟨b,0,none⟩) (n+m) cap))::x.env,x.S.set k {B with cs:=cs'}⟩ Q) (hne:isMap B.e=false:=by rfl):bD P C ops S1 T fuel ld x Q i :=
 bD.gk U hw (Z4 (hne:=hne) ho hd ht hi hs hk hb hy O hlen iq E hl dy) (fun C a w hs Z I=>hb ▸ G5 hs hk hT Z I) (fun Z I=>by
  have:Z=b:=(by simpa using I)
  subst this;rw[←hb];exact B8 hk) fun y hy=>hy ▸ K
theorem aby {s:Operand} {t e:Nat} {z:Value} (ho:o.op = .call {callee:=.builtin .clear,args:=#[s],argTypes:=#[t]}) (hd:o.dst=none)
  (ht:P.underlying t=some (.slice e)) (hz:∀w,(zeroValue e).run P w = .ok z w) (fb:z.cells.size=sz) (mj:z.cells.all (fun v=>v.oneCell')=true)
  (hs:aF x s = .v (.slice (some ⟨b,o',none⟩) n c)) (hk:x.S[k]?=some B) (hb:B.b=b) (kD:0<n→B.cs.length≤o'∧o'+n*sz≤B.size) (hne:isMap B.e=false:=by rfl) :
  ga P G x o [b] (fun y=>y=x):=fun C a w K Q hG h hK=>by
 subst hb;have lD:∀{w':World},(Builtin.clear_ #[t] o.type #[a.eval s]).run P w = .ok (.tuple #[]) w'→(execOp a.eval o).run P w = .ok (.value (.tuple #[])) w':=fun hr=>by
  unfold execOp;simp[ho,resolve,invoke,builtin,hr]
 rcases Nat.eq_zero_or_pos n with rfl|hn
 ·have O:(Builtin.clear_ #[t] o.type #[a.eval s]).run P w = .ok (.tuple #[]) w:=by
   rw[h.flat hs];simp[Builtin.clear_,run_underlying ht]
  unfold Oper.wp;rw[lD O,Oper.upon_value,hd];exact hK _ _ _ rfl h ⟨Nat.le_refl _,fun _ _ _=>rfl⟩ (Fr.refl _ _)
 obtain⟨aY,cm⟩:=kD hn;let vs:=(Builtin.zeroCells z.cells n).toList
 have r8:vs.length=n*sz:=(by simp[vs,size_zeroCells,fb])
 have hv1:∀v∈vs,v.oneCell'=true:=fun v hv=>by
  simp only[vs,Builtin.zeroCells,Array.toList_map,mem_map] at hv;obtain⟨j,hj,rfl⟩:=hv;have jD:j<n*z.cells.size:=(by simpa using hj)
  have h0:0<z.cells.size:=by
   rcases Nat.eq_zero_or_pos z.cells.size with h0|h0
   ·rw[h0] at jD;simp at jD
   exact h0
  have aa:=Nat.mod_lt j h0;have:=Array.all_eq_true.1 mj _ aa;rw[getElem!_pos z.cells _ aa];exact this
 obtain⟨h0,cur,q1,q2,q3,q4⟩:=h.fN hk;rw[kI hne] at q1;have fS:=run_storeCells_cells (P:=P) B.b o' vs 0 w (fun j hj=>by
   have:(o'+0+j)<cur.size:=(by omega)
   rw[ou q1 (u:=cur[o'+0+j]) (by simp[this])];rfl) (fun j hj=>by unfold World.frozen?;simp[q1]) hv1
 have O:(Builtin.clear_ #[t] o.type #[a.eval s]).run P w = .ok (.tuple #[]) (w.setCells B.b o' vs):=by
  rw[h.flat hs];obtain⟨m,rfl⟩:∃m,n=m+1:=⟨n-1,by omega⟩
  simp only[Nat.add_zero] at fS;simp[Builtin.clear_,run_underlying ht,hz,vs,fS]
 have dJ:=(List.getElem?_eq_some_iff.1 hk).1;have wv:=(List.getElem?_eq_some_iff.1 hk).2
 -- aoN,stored,and U again
 let E:=B.cs++replicate (B.size-B.cs.length) D.bX
 have hw:=Wk.WO (n:=x.n) (l:=x.env) (cs':=E) hk (by simp[E];omega) (fun i d I=>by
  rcases Nat.lt_or_ge i B.cs.length with hi|hi
  ·left;rw[←I];simp only[E];rw[getElem?_append_left hi]
  right;simp only[E] at I;rw[getElem?_append_right hi] at I;exact eq_of_mem_replicate (mem_of_getElem? I)) C a w h
 have fF:(⟨x.n,x.env,x.S.set k {B with cs:=E}⟩:St).S[k]?=some {B with cs:=E}:=(by simp[dJ])
 have hjr:cG w (live C.X (⟨x.n,x.env,x.S.set k {B with cs:=E}⟩:St).S) (replicate (n*sz) D.bX) vs:=⟨by simp[r8],fun j h1 h2=>by rw[getElem_replicate];exact .bX _⟩
 obtain⟨s1,s2,s3⟩:=hw.store (hne:=hne) fF hjr (o':=o') (by simp[E];omega);have s7:dm E o' (replicate (n*sz) D.bX)=E.take o'++replicate (n*sz) D.bX++E.drop (o'+n*sz):=by
  rw[wM _ _ _ (by simp[E];omega),length_replicate]
 have mg:(x.S.set k {B with cs:=dm E o' (replicate (n*sz) D.bX)})[k]?=some {B with cs:=dm E o' (replicate (n*sz) D.bX)}:=(by simp[dJ])
 have h1:bK C ⟨x.n,x.env,x.S.set k {B with cs:=dm E o' (replicate (n*sz) D.bX)}⟩ a (w.setCells B.b o' vs):=(by simpa[set_set] using s1)
 have h2:=Wk.WO (n:=x.n) (l:=x.env) (cs':=B.cs) mg (by simpa using q3) (fun i d I=>by
  left;have hi:=(List.getElem?_eq_some_iff.1 I).1;simp only[s7];rw[append_assoc,getElem?_append_left (by simp[E];omega),getElem?_take,if_pos w4];simp only[E];rw[getElem?_append_left hi,I]) C a _ h1
 have hx:(⟨x.n,x.env,(x.S.set k {B with cs:=dm E o' (replicate (n*sz) D.bX)}).set k {B with cs:=B.cs}⟩:St)=x:=by
  rw[set_set];have:x.S.set k {B with cs:=B.cs}=x.S:=by
   apply ext_getElem bj;intro i q1 q2;rw[getElem_set];split
   ·rename_i e;subst e;exact wv.symm
   rfl
  rw[this]
 have hbk:∀cs1:List D,ax (x.S.set k {B with cs:=cs1})=ax x.S:=fun cs1=>by
  unfold ax;rw[map_set];apply ext_getElem bj;intro i q1 q2;rw[getElem_set];split
  ·rename_i e;subst e;simp[wv]
  rfl
 have h3:bK C x a (w.setCells B.b o' vs):=by
  have Z:=h2;simp only at Z;rw[hx] at Z;exact Z
 simp only[set_set,hbk] at s3;unfold Oper.wp;rw[lD O,Oper.upon_value,hd];exact hK _ _ _ rfl h3 s2 s3
theorem OD.clear {s:Operand} {t e sz n b k o' c:Nat} {z:Value} {B:ah} (hw:cj ops x o true) (ho:o.op = .call {callee:=.builtin .clear,args:=#[s],argTypes:=#[t]}) (hd:o.dst=none)
  (ht:P.underlying t=some (.slice e)) (hz:∀w,(zeroValue e).run P w = .ok z w) (fb:z.cells.size=sz) (E:z.cells.all (fun v=>v.oneCell')=true)
  (hs:aF x s = .v (.slice (some ⟨b,o',none⟩) n c)) (hk:x.S[k]?=some B) (hb:B.b=b) (I:0<n→B.cs.length≤o'∧o'+n*sz≤B.size) (K:OD P C ops l x Q) (hne:isMap B.e=false:=by rfl):OD P C ops (o::l) x Q :=
 OD.gk hw (aby (hne:=hne) ho hd ht hz fb E hs hk hb I) fun y hy=>hy ▸ K
theorem jS{l r:List ah}(h:∀f:ah→Nat,(l.map f).sum=(r.map f).sum):l.Perm r:=by
 classical
 rw[perm_iff_count];intro a;have key:∀l:List ah,(l.map fun b=>if b=a then 1 else 0).sum=l.count a:=by
  intro l;induction l with
  | nil=>rfl
  | cons b l ih =>
   rw[map_cons,sum_cons,ih,count_cons];by_cases e:b=a<;>simp[e,Nat.add_comm]
 have:=h (fun b=>if b=a then 1 else 0);rw[key,key] at this;exact this
theorem adb{l r:List ah}(h:l.Perm r)(f:ah→Nat):(l.map f).sum=(r.map f).sum:=by
 induction h with
 | nil=>rfl
 | cons x _ ih=>simp[ih]
 | swap x y l=>simp only[map_cons,sum_cons];omega
 | trans _ _ h1 h2=>exact h1.trans h2
theorem NP.norm{Φ:St→Prop}:NP (fun e y=>e=Exit.normal∧Φ y):=fun c y t hq=>by cases hq.1

end Go.Proofs.YtkgmonfgofobaaaGreatDoor.V
namespace Go.Proofs.YtkgmonfgofobaaaGreatDoor.V
open List
open Go.RowKit
variable {P:Program} {C:dK} {G:List (Nat×List Value)} {Q:Exit→St→Prop} {x:St} {ops:Array Oper} {l:List Oper} {o:Oper}
variable {e sz cap b n u tt k:Nat} {α:Type} {ad:Option Addr} {S Sq R A S1 S2 S3:List ah} {t:TypeId} {y:Operand} {ls:List UInt8}
theorem iW{g:α→List D}:bn e sz (([]:List α).flatMap g) ([]:List α).length none 0 []:=.inl ⟨rfl,rfl,rfl,rfl,rfl⟩
theorem bn.cast{g:α→List D}{ls E:List α}(h:bn e sz (ls.flatMap g) ls.length ad cap S)(he:ls=E):bn e sz (E.flatMap g) E.length ad cap S:=he ▸ h
theorem bQ{g:α→List D}{ls:List α}(h1:ls.length≤cap)(h2:cap≤maxLen):bn e sz (ls.flatMap g) ls.length (some ⟨b,0,none⟩) cap [⟨b,e,cap*sz,ls.flatMap g⟩]:=.inr ⟨b,rfl,h1,h2,rfl⟩
def gE(g:α→List D)(e sz:Nat)(ls:List α)(r:D)(S:List ah):Prop:=∃ad cap,r = .v (.slice ad ls.length cap)∧bn e sz (ls.flatMap g) ls.length ad cap S
theorem gE.view{g:α→List D}{ls:List α}{r:D}(hg:∀a,(g a).length=sz)(h:gE g e sz ls r S)(hne:isMap e=false:=by rfl):View S r (.list sz (ls.flatMap g) ls.length):=by
 obtain⟨ad,cap,rfl,ho⟩:=h;exact lU (hne:=hne) ho (cz hg ls) (fun B E=>E)
theorem VC.xJ{g:α→List D}{ls:List α}{f:FuncId}{args:List D}(hg:∀a,(g a).length=sz)(h:VC P G f args [] (gE g e sz ls))(hne:isMap e=false:=by rfl):VP P G f args (.list sz (ls.flatMap g) ls.length) :=
 h.cover fun r S hr=>gE.view (hne:=hne) hg hr
theorem Wk.iE{t m:Nat}{l:List (Nat×D)}{cs:List D}(ht:look t l = .v (.slice ad m cap))(ho:bn e sz cs m ad cap Sq)(hl:cs.length=m*sz)(hp:S.Perm (Sq++R))(hne:isMap e=false:=by rfl):Wk ⟨n,l,S⟩ ⟨n,(t,.list sz cs m)::l,R⟩:=by
 refine(Wk.perm hp).trans ?_;rcases ho with ⟨rfl,rfl,rfl,rfl,rfl⟩|⟨b,rfl,h1,h2,rfl⟩
 ·exact Wk.ue ht
 exact Wk.vR (hne:=hne) (k:=0) rfl ht rfl hl h1 h2
theorem OD.iE{t m cap e sz:Nat}{Sq R:List ah}{cs:List D}{ad:Option Addr}(ht:V.look t x.env = .v (.slice ad m cap))(ho:bn e sz cs m ad cap Sq)(hl:cs.length=m*sz)(hp:x.S.Perm (Sq++R))(K:OD P C ops l ⟨x.n,(t,.list sz cs m)::x.env,R⟩ Q)(hne:isMap e=false:=by rfl):OD P C ops l x Q :=
 OD.wk (Wk.iE (hne:=hne) (n:=x.n) (S:=x.S) ht ho hl hp) K
theorem CD.iE{c:Code}{t m cap e sz:Nat}{Sq R:List ah}{cs:List D}{ad:Option Addr}(ht:V.look t x.env = .v (.slice ad m cap))(ho:bn e sz cs m ad cap Sq)(hl:cs.length=m*sz)(hp:x.S.Perm (Sq++R))(K:CD P C c ⟨x.n,(t,.list sz cs m)::x.env,R⟩ Q)(hne:isMap e=false:=by rfl):CD P C c x Q :=
 CD.wk (Wk.iE (hne:=hne) (n:=x.n) (S:=x.S) ht ho hl hp) K
theorem gE.mk{g:α→List D}{ls:List α}(h:bn e sz (ls.flatMap g) ls.length ad cap S):gE g e sz ls (.v (.slice ad ls.length cap)) S:=⟨ad,cap,rfl,h⟩
theorem gE.cast{g:α→List D}{ls E:List α}{r:D}(h:gE g e sz ls r S)(he:ls=E):gE g e sz E r S:=he ▸ h
theorem eP{ls E:List α}(h:ls=E):D.v (.slice ad ls.length cap)=D.v (.slice ad E.length cap):=by rw[h]
theorem dI:(A++S1).Perm (S1++A):=perm_append_comm
theorem pc:(A++(S1++S2)).Perm (S1++(A++S2)):=perm_append_comm_assoc _ _ _
theorem zk:(A++(S1++S2)).Perm (S2++(A++S1)):=(List.perm_append_comm.append_left A).trans pc
theorem JK:(A++(S1++(S2++S3))).Perm (S1++(A++(S2++S3))):=pc
theorem tW:(A++(S1++(S2++S3))).Perm (S2++(A++(S1++S3))):=(pc.append_left A).trans pc
theorem RI:((S1++A)++[]).Perm (A++S1):=by rw[append_nil];exact perm_append_comm
theorem ade:((S2++A)++S1).Perm (A++(S1++S2)):=by rw[append_assoc];exact List.perm_append_comm.trans (by rw[append_assoc])
theorem ez:(S1++A).Perm (A++S1):=dI.symm
theorem kp:(S1++(A++S2)).Perm (A++(S1++S2)):=pc.symm
theorem zl:(S2++(A++S1)).Perm (A++(S1++S2)):=zk.symm
theorem RU:(S1++(A++(S2++S3))).Perm (A++(S1++(S2++S3))):=JK.symm
theorem wU:(S2++(A++(S1++S3))).Perm (A++(S1++(S2++S3))):=tW.symm
theorem PR {w:World} (base:Nat) (t u ty e:TypeId) (i:TypeInfo) (ht:P.underlying t=some (.slice e)) (hu:P.underlying u=some .string) (hi:P.info? e=some i) (hz:i.zero=some (.int .u8 0))
  (E:i.size=1) (U:i.bytes=1) (v:Value) (n:Nat) (xs:List Value) (I:w.ownsRow base e 1 v n xs) (s:ByteArray)
  (gK:n+s.size≤maxLen) (O:n+s.size≤140737488355328) (Z:base≤w.heap.size) :
  ∃v' w',(Builtin.append_ #[t,u] ty #[v,.string s]).run P w = .ok v' w'∧w'.ownsRow base e 1 v' (n+s.size) (xs++Go.Lib.strCells s)∧w.grownBy w' v.ownBlock ∧
   (v' = .slice none 0 0↔v = .slice none 0 0∧s.size=0)∧(v'.ownBlock=v.ownBlock∨v'.ownBlock=some w.heap.size):=by
 obtain⟨v',w',hr,h2,h3,h4⟩:=Go.Lib.run_append_own_string (P:=P) w base t u ty e i ht hu hi hz E U v n xs I s gK O Z;refine⟨v',w',hr,h2,h3,h4,?_⟩;have ao6:n+s.size≤9223372036854775807:=(by simp only[maxLen] at gK;omega)
 have gp:xs.length=n:=(by simpa using I.1)
 rcases I.2 with ⟨rfl,rfl⟩|⟨g,cap,cur,rfl,Oc,hg,hnc,hcm,dy,VT⟩
 ·by_cases hm:s.size=0
  ·left;rw[h4.2 ⟨rfl,hm⟩]
  right;have:=run_append_nil_string (P:=P) w t u ty e i (.int .u8 0) ht hu hi hz s w4 w4 (by rw[U];omega);rw[this] at hr;cases hr;rfl
 have aqo:cur.size=cap:=(by simpa using dy)
 by_cases aie:n+s.size≤cap
 ·left;have:=Go.Lib.run_append_room_string (P:=P) w t u ty e i ht hu hi E g n cap cur hg s aie w4;rw[this] at hr;cases hr;rfl
 right;have holds:∀j u,xs[j]?=some u→w.cell? ((⟨g,0,none⟩:Addr).add j)=some u:=I.cells (g:=g) rfl;have:=Go.Lib.run_append_grow_string (P:=P) w t u ty e i (.int .u8 0) ht hu hi hz ⟨g,0,none⟩ n cap xs (by rw[E];simpa using gp) holds s w4 w4 (by rw[U];exact growslice_fits w4 w4);rw[this] at hr;cases hr;rfl
def pn(b:List UInt8):List D:=b.map vF
theorem IL {s:Operand} {u:TypeId} {v I:Value} {w w':World} {a:Act} (ho:o.op = .call {callee:=.builtin .append,args:=#[s,y],argTypes:=#[t,u]}) (hs:a.eval s=v) {z:Value} (hy:a.eval y=z)
  (E:(Builtin.append_ #[t,u] o.type #[v,z]).run P w = .ok I w'):(execOp a.eval o).run P w = .ok (.value I) w':=by
 unfold execOp;simp[ho,resolve,invoke,builtin,hs,hy,E]
theorem ZS {s:Operand} {t:Nat} {cs:List D} {str:ByteArray} (ho:o.op = .call {callee:=.builtin .append,args:=#[s,y],argTypes:=#[t,u]}) (hd:o.dst=some tt)
  (ht:P.underlying t=some (.slice e)) (hu:P.underlying u=some .string) (hi:(P.info? e).map (fun i=>(i.zero,i.size,i.bytes))=some (some (.int .u8 0),1,1))
  (hs:aF x s = .v (.slice ad n cap)) (tN:bn e 1 cs n ad cap Sq) (hp:x.S=Sq++R) (hl:cs.length=n) (hy:aF x y = .v (.string str)) (gK:n+str.size≤maxLen) (O:n+str.size≤140737488355328) (hne:isMap e=false:=by rfl) :
  ga P G x o (ax Sq) (fun y=>∃og U S',bn e 1 (cs++pn str.data.toList) (n+str.size) og U S'∧y=⟨x.n,(tt,.v (.slice og (n+str.size) U))::x.env,S'++R⟩):=fun C a w K Q hG h hK=>by
 obtain⟨i,kC,lQ,pG,qt⟩:=zx hi;have ajN:(Go.Lib.strCells str).length=str.size:=Go.Lib.strCells_length str;have Od:(pn str.data.toList).length=str.size:=(by simp[pn])
 have Z:∀j (hj:j<str.size),∃u,(Go.Lib.strCells str)[j]?=some u∧∀h:j<(pn str.data.toList).length,cn w (live C.X x.S) (pn str.data.toList)[j] u:=fun j hj=>by
  have h1:j<str.data.toList.length:=(by rw[Array.length_toList];exact hj)
  refine⟨.int .u8 (str.data.toList[j]).toNat,by rw[Go.Lib.strCells,getElem?_map,getElem?_eq_getElem h1];rfl,fun h=>?_⟩;simp only[pn,getElem_map];exact .v _
 rcases tN with ⟨rfl,rfl,rfl,rfl,rfl⟩|⟨b,rfl,h1,h2,rfl⟩
 ·rw[nil_append] at hp;by_cases hm:str.size=0
  ·have hd0:pn str.data.toList=[]:=eq_nil_of_length_eq_zero (by rw[Od,hm]);have hn:Go.Lib.strCells str=[]:=eq_nil_of_length_eq_zero (by rw[ajN];exact hm);have hf:=Go.Lib.run_firstCells_string (P:=P) w 1 str;rw[hm] at hf;have I:(Builtin.append_ #[t,u] o.type #[.slice none 0 0,.string str]).run P w = .ok (.slice none 0 0) w:=by
    simp[Builtin.append_,run_underlying ht,run_underlying hu,sizeOf,typeInfo,kC,pG,Builtin.lenOf,hm,hf]
   unfold Oper.wp;rw[IL (P:=P) ho (h.flat hs) (h.flat hy) I,Oper.upon_value,hd];refine hK ⟨x.n,(tt,.v (.slice none (0+str.size) 0))::x.env,[]++R⟩ _ _ ⟨none,0,[],.inl ⟨by omega,by rw[hd0];rfl,rfl,rfl,rfl⟩,rfl⟩ ?_ (mh.refl _ _) ?_
   ·have e1:(.slice none 0 0:Value) = .slice none (0+str.size) 0:=(by rw[hm])
    rw[e1,nil_append,←hp];exact h.put (.v _)
   rw[nil_append,hp];exact Fr.refl _ _
  have jz:w.ownsRow 0 e 1 (.slice none 0 0) 0 []:=⟨by simp,.inl ⟨rfl,rfl⟩⟩
  obtain⟨v',w',I,q2,q3,_,q5⟩:=PR (P:=P) 0 t u o.type e i ht hu kC lQ pG qt _ 0 _ jz str gK O (Nat.zero_le _);simp only[Nat.zero_add,nil_append] at q2;obtain⟨g,E,rfl,_,aa⟩:=q2.form w4;have q6:(none:Option Nat)=some g∨g=w.heap.size:=by
   rcases q5 with q5|q5
   ·simp[Value.ownBlock] at q5
   right;simpa[Value.ownBlock] using q5
  obtain⟨_,q2⟩:=q2;rcases q2 with ⟨q2,_⟩|⟨g',U,l8,e1,_,e2,e3,e4,e5,e6⟩
  ·cases q2
  have DK:g=g'∧E=U:=(by simpa using e1)
  obtain⟨rfl,rfl⟩:=DK;rw[Nat.mul_one] at e5 e6;obtain⟨s1,s2,s3⟩:=h.grown (hne:=hne) (t:=tt) (m:=str.size) (e:=e) (sz:=1) (S:=x.S) (cs:=pn str.data.toList) (row:=none) (g:=g) (cap:=E) (Sublist.refl _) (fun k' rm=>by cases rm) q3 q6 aa e2 w4 w4 (fun j hj=>by
    obtain⟨u,yz,yA⟩:=Z j w4;refine⟨u,?_,yA hj⟩;rw[←yz,←e6,getElem?_take_of_lt w4,Array.getElem?_toList])
  unfold Oper.wp;rw[IL (P:=P) ho (h.flat hs) (h.flat hy) I,Oper.upon_value,hd];refine hK ⟨x.n,(tt,.v (.slice (some ⟨g,0,none⟩) (0+str.size) E))::x.env,[⟨g,e,E*1,[]++pn str.data.toList⟩]++R⟩ _ _ ⟨_,E,_,.inr ⟨g,rfl,by omega,e4,rfl⟩,rfl⟩ ?_ s2 ?_
  ·rw[Nat.zero_add,nil_append,←hp];exact s1
  rw[nil_append,←hp];exact s3
 have hk:x.S[0]?=some (⟨b,e,cap*1,cs⟩:ah):=(by rw[hp];rfl)
 obtain⟨r0,cur,r1,r2,r3,r4⟩:=h.fN hk;simp only at r0 r1 r2 r3 r4;rw[kI hne] at r1;rw[Nat.mul_one] at r2 r3;have jz:w.ownsRow 0 e 1 (.slice (some ⟨b,0,none⟩) n cap) n (cur.toList.take n) :=
  ⟨by simp;omega,.inr ⟨b,cap,cur,rfl,Nat.zero_le _,r1,h1,h2,by omega,by rw[Nat.mul_one]⟩⟩
 obtain⟨v',w',I,q2,q3,q4,q5⟩:=PR (P:=P) 0 t u o.type e i ht hu kC lQ pG qt _ n _ jz str gK O (Nat.zero_le _);obtain⟨_,q2⟩:=q2;rcases q2 with ⟨q2,_⟩|⟨g,E,l8,rfl,_,e2,e3,e4,e5,e6⟩
 ·have:=(q4.1 q2).1;cases this
 have q6:(some b:Option Nat)=some g∨g=w.heap.size:=by
  rcases q5 with q5|q5
  ·exact .inl q5.symm
  right;simpa[Value.ownBlock] using q5
 rw[Nat.mul_one] at e5 e6;have aa:g<w'.heap.size:=by
  rcases Nat.lt_or_ge g w'.heap.size with hh|hh
  ·exact hh
  rw[Array.getElem?_eq_none hh] at e2;cases e2
 have hR:R=x.S.eraseIdx 0:=(by rw[hp];rfl)
 obtain⟨s1,s2,s3⟩:=h.grown (hne:=hne) (t:=tt) (m:=n+str.size) (e:=e) (sz:=1) (S:=x.S.eraseIdx 0) (cs:=cs++pn str.data.toList) (row:=some b) (g:=g) (cap:=E) (eraseIdx_sublist _ _) (fun k' rm=>by
   have:b=k':=(by simpa using rm)
   subst this;refine⟨mem_map.2 ⟨_,mem_of_getElem? hk,rfl⟩,fun hm=>?_⟩;have HY:(ax x.S).Perm (b::ax (x.S.eraseIdx 0)):=(by have:=(vg hk).map ah.b;simpa[ax] using this)
   exact(nodup_cons.1 (HY.nodup_iff.1 h.own.apart)).1 hm) q3 q6 aa e2 w4 v8 (fun j hj=>by
   rw[length_append] at hj;have CU:l8[j]?=(cur.toList.take n++Go.Lib.strCells str)[j]?:=(by rw[←e6,getElem?_take_of_lt w4,Array.getElem?_toList])
   rw[CU];have uS:(cur.toList.take n).length=n:=(by simp;omega)
   by_cases dc:j<n
   ·obtain⟨u,hu,hq⟩:=r4 j w4;refine⟨u,?_,?_⟩
    ·rw[getElem?_append_left w4,getElem?_take_of_lt dc,Array.getElem?_toList,hu]
    rw[getElem_append_left w4];exact hq
   obtain⟨u,yz,yA⟩:=Z (j-n) w4;refine⟨u,?_,?_⟩
   ·rw[getElem?_append_right w4,uS,yz]
   rw[getElem_append_right w4];have:=yA w4;simp only[hl];exact this)
 unfold Oper.wp;rw[IL (P:=P) ho (h.flat hs) (h.flat hy) I,Oper.upon_value,hd];refine hK ⟨x.n,(tt,.v (.slice (some ⟨g,0,none⟩) (n+str.size) E))::x.env,[⟨g,e,E*1,cs++pn str.data.toList⟩]++R⟩ _ _ ⟨_,E,_,.inr ⟨g,rfl,e3,e4,rfl⟩,rfl⟩ ?_ (by simpa[ax] using s2) ?_
 ·rw[hR];exact s1
 rw[hR];exact s3
theorem OD.abz {s:Operand} {t:Nat} {cs:List D} {str:ByteArray} (hw:cj ops x o true) (ho:o.op = .call {callee:=.builtin .append,args:=#[s,y],argTypes:=#[t,u]}) (hd:o.dst=some tt)
  (ht:P.underlying t=some (.slice e)) (hu:P.underlying u=some .string) (hi:(P.info? e).map (fun i=>(i.zero,i.size,i.bytes))=some (some (.int .u8 0),1,1))
  (hs:aF x s = .v (.slice ad n cap)) (U:bn e 1 cs n ad cap Sq) (hp:x.S.Perm (Sq++R)) (hl:cs.length=n) (hy:aF x y = .v (.string str)) (Z:n+str.size≤maxLen) (I:n+str.size≤140737488355328)
  (K:∀O E S',bn e 1 (cs++pn str.data.toList) (n+str.size) O E S'→OD P C ops l ⟨x.n,(tt,.v (.slice O (n+str.size) E))::x.env,S'++R⟩ Q) (hne:isMap e=false:=by rfl):OD P C ops (o::l) x Q:=by
 refine OD.perm hp ?_;have hw':cj ops ⟨x.n,x.env,Sq++R⟩ o true:=fun C a w hs=>hw C a w ((Wk.perm (n:=x.n) (env:=x.env) hp.symm) C a w hs);have uT:aF ⟨x.n,x.env,Sq++R⟩ s = .v (.slice ad n cap):=(by rw[←hs];cases s<;>rfl)
 have Oe:aF ⟨x.n,x.env,Sq++R⟩ y = .v (.string str):=(by rw[←hy];cases y<;>rfl)
 exact OD.gk hw' (ZS (hne:=hne) ho hd ht hu hi uT U rfl hl Oe Z I) fun y ⟨O,E,S',h1,hy⟩=>hy ▸ K O E S' h1
theorem OD.pQ {g:α→List D} {ls new:List α} {s:Operand} {t bytes:Nat} {z:Value} (hg:∀a,(g a).length=sz) (hg1:∀a,(g a).all one=true) (hw:cj ops x o true) (ho:o.op = .call {callee:=.builtin .append,args:=#[s,y],argTypes:=#[t,t]}) (hd:o.dst=some tt)
  (ht:P.underlying t=some (.slice e)) (hi:(P.info? e).map (fun i=>(i.zero,i.size,i.bytes))=some (some z,sz,bytes)) (fb:z.cells.size=sz) (Z:0<sz) (hu:∀w,(underlying t).run P w = .ok (.slice e) w) (Of:∀w,(sizeOf e).run P w = .ok sz w)
  (hs:aF x s = .v (.slice ad ls.length cap)) (O:bn e sz (ls.flatMap g) ls.length ad cap Sq) (hp:x.S.Perm (Sq++R))
  (hy:aF x y = .list sz (new.flatMap g) new.length) (gK:ls.length+new.length≤maxLen) (I:(ls.length+new.length)*bytes≤140737488355328)
  (K:∀U E S',bn e sz ((ls++new).flatMap g) (ls++new).length U E S'→OD P C ops l ⟨x.n,(tt,.v (.slice U (ls++new).length E))::x.env,S'++R⟩ Q) (hne:isMap e=false:=by rfl):OD P C ops (o::l) x Q:=by
 rcases Nat.eq_zero_or_pos new.length with h0|h0
 ·have hn:new=[]:=eq_nil_of_length_eq_zero h0;subst hn;refine OD.still hw hd (PW ho hu Of hs O.le hy) ?_;have:=K ad cap Sq (by rw[append_nil];exact O);rw[append_nil] at this;exact OD.wk (Wk.perm (n:=x.n) hp) this
 exact OD.eL (hne:=hne) hg hg1 hw ho hd ht hi fb Z hs O hp hy h0 gK I fun b' E h1 h2=>K _ E _ (bQ h1 h2)
theorem Z5 {e:TypeId} {vs:List Value} (ho:o.op = .slice t y none none none) (hy:aF x y = .v (.pointer (some ⟨b,0,none⟩))) (hg:(b,vs)∈G)
  (I:∀w,(underlying t).run P w = .ok (.array n e) w) (hs:∀w,(sizeOf e).run P w = .ok sz w) (hl:vs.length=n*sz) (hn:n≠0) (gJ:n≤maxLen) (rj:vs.all rI=true:=by rfl):bW P G x o .none (.list sz (vs.map .v) n):=fun C a w hG h=>by
 subst hG;obtain⟨⟨q1,q2,O⟩,U⟩:=h.eV _ hg;refine⟨.slice (some ⟨b,0,none⟩) n n,.list sz (vs.map .v) n b 0 n (fun i=>vs.getD i undef) uK (Nat.le_refl _) gJ (Nat.lt_of_lt_of_le q1 h.fr.size) (fun hl=>hl.elim O (h.fr.block b q1 q2).2) (fun i hi=>?_) (fun i hi=>?_),fun w' _=>?_⟩
 ·have E:i<vs.length:=(by simpa using hi)
  have:=(h.aU hg (getElem?_eq_getElem E)).cell (RO rj (getElem?_eq_getElem E));rw[Nat.zero_add,this];simp[E]
 ·have E:i<vs.length:=(by simpa using hi)
  simp only[getElem_map,getD_eq_getElem?_getD,getElem?_eq_getElem E,Option.getD_some];exact .v _
 unfold execOp;have b3:(Instr.sliceBounds false n n none none none).run P w' = .ok (0,n,n) w':=(by unfold Instr.sliceBounds;simp)
 simp only[ho,h.flat hy,Instr.sliceAt,I,Instr.sureAddr,Sem.run_bind,Result.andThen_ok,Option.map_none,Sem.run_pure,b3,hs,Nat.sub_zero];rw[if_neg hn];simp[Addr.add_mid]
theorem TY {g:α→List D} {ls:List α} {e:TypeId} {l' h':Nat} {vs:List Value} (hg:(b,vs)∈G) (hv:vs.map D.v=ls.flatMap g) (E:n=ls.length)
  (I:∀w,(underlying t).run P w = .ok (.array n e) w) (hs:∀w,(sizeOf e).run P w = .ok sz w) (hl:vs.length=n*sz) (hn:n≠0) (gJ:n≤maxLen) (rj:vs.all rI=true:=by rfl):Rs P G t none none l' h' (.v (.pointer (some ⟨b,0,none⟩))) (.list sz (ls.flatMap g) ls.length):=fun x o y ho hy _ _=>by
 have:=Z5 (P:=P) (G:=G) ho hy hg I hs hl hn gJ rj;rw[hv,E] at this;exact this
theorem vb{x y:Bool}(h:x=y):D.v (.bool x)=D.v (.bool y):=by rw[h]
theorem vi{k:IntKind}{x y:Int}(h:x=y):D.v (.int k x)=D.v (.int k y):=by rw[h]
theorem vs{x y:ByteArray}(h:x=y):D.v (.string x)=D.v (.string y):=by rw[h]
def cB(b:UInt8):List D:=[vF b]
theorem pX(b:UInt8):(cB b).length=1:=rfl
theorem xz(b:UInt8):(cB b).all one=true:=rfl
theorem Li(bs:List UInt8):bs.flatMap cB=bs.map vF:=by
 induction bs with
 | nil=>rfl
 | cons a r ih=>rw[flatMap_cons,ih];rfl
theorem adf(bs:List UInt8):pn bs=bs.flatMap cB:=(Li bs).symm
def cS(s:ByteArray):List D:=[.v (.string s)]
theorem jJ(s:ByteArray):(cS s).length=1:=rfl
theorem ZL{s e:TypeId}{bs:List UInt8}(ho:o.op = .convert s t y)(hy:aF x y = .list 1 (bs.flatMap cB) n)(hs:P.underlying s=some (.slice e))(he:P.underlying e=some (.int .u8))(ht:P.underlying t=some .string) :
  bW P G x o .kj (.v (.string ⟨bs.toArray⟩)):=ZQ ho (by rw[hy,Li]) hs he ht
def my(s:ByteArray)(k:Nat):UInt8:=s.data.toList.getD k 0
theorem Lj{s:ByteArray}(h:k<s.size):s[k]?=some (my s k):=by
 have h':k<s.data.size:=h;rw[getElem?_pos s k h];congr 1;show s.data[k]=_;simp only[my,getD_eq_getElem?_getD,Array.getElem?_toList,Array.getElem?_eq_getElem h',Option.getD_some]
theorem kJ(s:ByteArray):s.data.toList.length=s.size:=by rw[Array.length_toList];rfl
theorem wV(s:ByteArray):s.toList=s.data.toList:=by rw[ByteArray.toList_eq]
theorem IW{s:ByteArray}(h:k<s.data.toList.length):s.data.toList[k]=my s k:=by simp only[my,getD_eq_getElem?_getD,getElem?_eq_getElem h,Option.getD_some]
theorem agT{s:ByteArray}(h:(!(s.toList==(⟨#[]⟩:ByteArray).toList))=true):0<s.size:=by
 rcases Nat.eq_zero_or_pos s.size with h0|h0
 ·have:s.data.toList=[]:=eq_nil_of_length_eq_zero (by rw[kJ,h0]);rw[wV,wV,this] at h;cases h
 exact h0
theorem vn{s:ByteArray}:(s.toList==(⟨#[]⟩:ByteArray).toList)=decide (s.size=0):=by
 rw[Bool.eq_iff_iff,beq_iff_eq,decide_eq_true_eq,wV,wV,←kJ];exact⟨fun h=>by rw[h];rfl,fun h=>eq_nil_of_length_eq_zero h⟩
theorem B9{s t:ByteArray}(h:s.data.toList=t.data.toList):s=t:=by
 obtain⟨⟨a⟩⟩:=s;obtain⟨⟨b⟩⟩:=t;simp only at h;rw[h]
def jt(a b:ByteArray):Bool:=a.toList==b.toList
theorem xn{a b:ByteArray}:jt a b=true↔a=b:=by
 unfold jt;rw[beq_iff_eq,wV,wV];exact⟨B9,fun h=>by rw[h]⟩
theorem bn.str{s:ByteArray}(h:bn e 1 (ls.flatMap cB++pn s.data.toList) (ls.length+s.size) ad cap S):bn e 1 ((ls++s.data.toList).flatMap cB) (ls++s.data.toList).length ad cap S:=by
 rw[flatMap_append,←adf s.data.toList,length_append,kJ];exact h
theorem OD.aaG {s:Operand} {t:Nat} {str:ByteArray} (hw:cj ops x o true) (ho:o.op = .call {callee:=.builtin .append,args:=#[s,y],argTypes:=#[t,u]}) (hd:o.dst=some tt)
  (ht:P.underlying t=some (.slice e)) (hu:P.underlying u=some .string) (hi:(P.info? e).map (fun i=>(i.zero,i.size,i.bytes))=some (some (.int .u8 0),1,1))
  (hs:aF x s = .v (.slice ad ls.length cap)) (U:bn e 1 (ls.flatMap cB) ls.length ad cap Sq) (hp:x.S.Perm (Sq++R)) (hy:aF x y = .v (.string str)) (Z:ls.length+str.size≤maxLen) (I:ls.length+str.size≤140737488355328)
  (K:∀O E S',bn e 1 ((ls++str.data.toList).flatMap cB) (ls++str.data.toList).length O E S'→OD P C ops l ⟨x.n,(tt,.v (.slice O (ls++str.data.toList).length E))::x.env,S'++R⟩ Q) (hne:isMap e=false:=by rfl):OD P C ops (o::l) x Q :=
 OD.abz (hne:=hne) hw ho hd ht hu hi hs U hp (by rw[cz pX,Nat.mul_one]) hy Z I fun O E S' h=>by
  have:=K O E S' h.str;rw[length_append,kJ] at this;exact this
def dP(p:α→Bool)(ls:List α):Int:=match ls.findIdx? p with|some i=>i|none=>-1
theorem wQ{p:α→Bool}{ls:List α}(hk:k<ls.length)(h0:∀x∈ls.take k,p x=false)(h1:p ls[k]=true):dP p ls=k:=by
 have:ls.findIdx? p=some k:=by
  rw[findIdx?_eq_some_iff_getElem];refine⟨hk,h1,fun j hj=>?_⟩;have:=h0 ls[j] (mem_take_iff_getElem.2 ⟨j,by omega,rfl⟩);simp[this]
 simp[dP,this]
theorem vf{p:α→Bool}{ls:List α}(hk:¬(k<ls.length))(h0:∀x∈ls.take k,p x=false):dP p ls = -1:=by
 have:ls.findIdx? p=none:=by
  rw[findIdx?_eq_none_iff];intro x hx;rw[take_of_length_le w4] at h0;exact h0 x hx
 simp[dP,this]
theorem RV{p:α→Bool}{ls:List α}:decide (dP p ls≥0)=ls.any p:=by
 unfold dP;cases h:ls.findIdx? p with
 | none =>
  have:=findIdx?_eq_none_iff.1 h;simp;exact this
 | some i =>
  obtain⟨h1,h2,_⟩:=findIdx?_eq_some_iff_getElem.1 h;simp only[ge_iff_le,Int.natCast_nonneg,decide_true];exact(any_eq_true.2 ⟨_,getElem_mem h1,h2⟩).symm
theorem zm{p:α→Prop}{ls:List α}(hk:k<ls.length)(h0:∀x∈ls.take k,p x)(h1:p ls[k]):∀x∈ls.take (k+1),p x:=by
 rw[take_succ_eq_append_getElem hk];intro x hx;rcases mem_append.1 hx with hx|hx
 ·exact h0 x hx
 simp only[mem_singleton] at hx;subst hx;exact h1

end Go.Proofs.YtkgmonfgofobaaaGreatDoor.V
namespace Go.Proofs.YtkgmonfgofobaaaGreatDoor.V
open List
open Go.RowKit
variable {P:Program} {C:dK} {G:List (Nat×List Value)} {Q:Exit→St→Prop} {ops:Array Oper} {l l2:List Oper} {o:Oper} {n t:Nat} {d:D} {e e' l':List (Nat×D)} {S:List ah} {ts:List Nat} {c:Bool}
variable {q:Nat} {ld:Array Bool}
theorem zA{a:Act}{w:World}{K:Act→World→Prop}{R:Exit→Act→World→Prop}(h:o.wp P a w K R):o.wp P a w (fun a' w'=>K a' w'∧∃v,a'.tmps=(a.put o.dst v).tmps) R:=by
 unfold Oper.wp at *;generalize (execOp a.eval o).run P w=r at *;cases r with
 | ok x w' =>
  cases x<;>simp only[Oper.upon] at h ⊢ <;>
   first
    | exact⟨h,_,rfl⟩
    | exact Calls.mono h (fun e E he=>by cases e<;>first|exact⟨he,_,rfl⟩|exact he)
    | exact Rows.mono h (fun _ _ he=>⟨he,_,rfl⟩)
    | (refine⟨h,undef,?_⟩;unfold Act.put;cases o.dst<;>rfl)
 | halt x w'=>cases x<;>simp only[Oper.upon] at h ⊢<;>exact h
theorem bK.Ac{a a':Act}{w w':World}{v:Value}(h:bK C ⟨n,e,S⟩ a w)(k:bK C ⟨n,(t,d)::l',S⟩ a' w')(hf:Fr w (ax S) w' (ax S))(hv:a'.tmps=(a.put (some t) v).tmps):bK C ⟨n,(t,d)::e,S⟩ a' w':=by
 refine⟨k.defers,k.size,fun q hq=>?_,k.own,k.fr,k.ex,k.eV⟩;by_cases E:t=q
 ·subst E;have:=k.env t hq;simp only[gh,if_pos] at this ⊢;exact this
 have h1:=h.env q hq;have h2:a'.tmps.getD q undef=a.tmps.getD q undef:=(by rw[hv];simp[Act.put,Array.getD_eq_getD_getElem?,Array.getElem?_setIfInBounds,E])
 simp only[gh,if_neg E];rw[h2];exact h1.mono fun b hb hn=>⟨(hf.block b hb (fun hm=>hn (.inr hm))).1,hn⟩
theorem ga.Ac(hd:o.dst=some t)(h:ga P G ⟨n,l',S⟩ o [] (fun y=>y=⟨n,(t,d)::l',S⟩))(hs:nV e l'):ga P G ⟨n,e,S⟩ o [] (fun y=>y=⟨n,(t,d)::e,S⟩):=fun C a w K R hG E hK=>by
 have h1:=h C a w (fun a' w'=>bK C ⟨n,(t,d)::l',S⟩ a' w'∧mh [] w w'∧Fr w (ax S) w' (ax S)) R hG (Wk.kK hs C a w E) (fun y a' w' hy I hc hf=>by subst hy;exact⟨I,hc,hf⟩);refine Oper.wp_mono (fun a' w' h2=>?_) (zA h1);obtain⟨⟨h3,h4,h5⟩,v,h6⟩:=h2;rw[hd] at h6;exact hK _ a' w' rfl (E.Ac h3 h5 h6) h4 h5
def mC(ops:Array Oper)(o:Oper)(ts:List Nat):Bool:=(range ops.size).all fun j=>match ops[j]? with
 | some p=>(match p.dst with
  | some t=>!(ts.elem t)||o.after.any (fun e=>Region.binds .any e&&Nat.beq e.on j)
  | none=>true)
 | none=>true
def mG(ops:Array Oper):Bool:=(range ops.size).all fun i=>match ops[i]? with
 | some o=>o.after.all (fun e=>!Region.binds .any e||Nat.blt e.on i)&&(match o.dst with
  | some t=>(range i).all fun j=>match ops[j]? with
   | some p=>(match p.dst with|some q=>!(Nat.beq q t)|none=>true)
   | none=>true
  | none=>false)
 | none=>true
inductive PD (c:Bool) (P:Program) (G:List (Nat×List Value)) (n:Nat) (S:List ah) (ops:Array Oper):List Oper→List (Nat×D)→List Oper→List (Nat×D)→Prop
 | nil {l:List Oper} {e:List (Nat×D)}:PD c P G n S ops l e l e
 | cons {o:Oper} {l l2:List Oper} {t:Nat} {d:D} {e e' l':List (Nat×D)} {ts:List Nat} (hd:o.dst=some t) (hr:fJ ts e l') (hq:(!c||mC ops o ts)=true) (hw:cj ops ⟨n,l',S⟩ o true)
   (h:ga P G ⟨n,l',S⟩ o [] (fun y=>y=⟨n,(t,d)::l',S⟩)) (k:PD c P G n S ops l ((t,d)::e) l2 e'):PD c P G n S ops (o::l) e l2 e'
 | skip {o:Oper} {l l2:List Oper} {t:Nat} {e e' l':List (Nat×D)} {ts:List Nat} (hd:o.dst=some t) (hr:fJ ts e l') (hq:(!c||mC ops o ts)=true) (hw:cj ops ⟨n,l',S⟩ o false)
   (k:PD c P G n S ops l ((t,.v (.tuple #[]))::e) l2 e'):PD c P G n S ops (o::l) e l2 e'
theorem PD.od(h:PD c P C.G n S ops l e l2 e')(K:OD P C ops l2 ⟨n,e',S⟩ Q):OD P C ops l ⟨n,e,S⟩ Q:=by
 induction h with
 | nil=>exact K
 | cons hd hr hq hw h k ih=>exact OD.gk (fun C a w hs=>hw C a w (Wk.kK hr.kK C a w hs)) (h.Ac hd hr.kK) fun y hy=>by subst hy;exact ih K
 | skip hd hr hq hw k ih=>exact OD.skip (fun C a w hs=>hw C a w (Wk.kK hr.kK C a w hs)) hd (ih K)
def Gd(P:Program)(G:List (Nat×List Value))(n:Nat)(S:List ah)(ops:Array Oper)(eF:List (Nat×D))(i:Nat):Prop :=
 ∃o t ts l',ops[i]?=some o∧o.dst=some t∧mC ops o ts=true∧(∀p∈l',p.1∈ts∧look p.1 eF=look p.1 l')∧l'.map (·.1)=ts ∧
  ((cj ops ⟨n,l',S⟩ o true∧ga P G ⟨n,l',S⟩ o [] (fun y=>y=⟨n,(t,look t eF)::l',S⟩))∨(cj ops ⟨n,l',S⟩ o false∧look t eF = .v (.tuple #[])))
theorem fJ.keys(h:fJ ts e l'):l'.map (·.1)=ts:=by
 induction h with
 | nil=>rfl
 | cons h k ih=>rw[map_cons,ih]
theorem fJ.at(h:fJ ts e l')(hq:q∈ts):look q l'=look q e:=by
 induction h with
 | nil=>cases hq
 | @cons t ts d e l' h k ih =>
  rw[gh];by_cases E:t=q
  ·subst E;rw[if_pos rfl,h]
  rw[if_neg E];rcases mem_cons.1 hq with rfl|hm
  ·exact absurd rfl E
  exact ih hm
theorem xx(h:mG ops=true){i:Nat}{o:Oper}(hi:ops[i]?=some o):(∀e∈o.after,Region.binds .any e=true→e.on<i)∧∃t,o.dst=some t∧∀j p,j<i→ops[j]?=some p→p.dst≠some t:=by
 have aa:=(Array.getElem?_eq_some_iff.1 hi).1;have:=all_eq_true.1 h i (mem_range.2 aa);simp only[hi,Bool.and_eq_true] at this;obtain⟨h1,h2⟩:=this;refine⟨fun e he hb=>?_,?_⟩
 ·have:=Array.all_eq_true'.1 h1 e he;simp only[hb,Bool.not_true,Bool.false_or] at this;exact Nat.le_of_ble_eq_true this
 cases hd:o.dst with
 | none=>rw[hd] at h2;cases h2
 | some t =>
  rw[hd] at h2;refine⟨t,rfl,fun j p hj hp hq=>?_⟩;have:=all_eq_true.1 h2 j (mem_range.2 hj);simp only[hp,hq,Bool.not_eq_true'] at this;have h3:Nat.beq t t=true:=Nat.beq_refl t;rw[h3] at this;cases this
theorem FQ(h:mC ops o ts=true){j:Nat}{p:Oper}(hj:ops[j]?=some p)(hp:p.dst=some q)(hq:q∈ts):∃e∈o.after,Region.binds .any e=true∧e.on=j:=by
 have aa:=(Array.getElem?_eq_some_iff.1 hj).1;have:=all_eq_true.1 h j (mem_range.2 aa);simp only[hj,hp] at this;rw[show ts.elem q=true from elem_eq_true_of_mem hq] at this;simp only[Bool.not_true,Bool.false_or] at this;obtain⟨e,he,hb⟩:=Array.any_eq_true'.1 this;rw[Bool.and_eq_true] at hb;exact⟨e,he,hb.1,Nat.eq_of_beq_eq_true hb.2⟩
theorem PD.later(h:PD c P G n S ops l e l2 e')(hq:∀o∈l,o.dst≠some q):look q e'=look q e:=by
 induction h with
 | nil=>rfl
 | @cons o l l2 t d e e' l' ts hd hr AZ hw h k ih =>
  rw[ih fun p hp=>hq p (mem_cons_of_mem _ hp),gh,if_neg (fun e1:t=q=>hq o mem_cons_self (by rw[←e1];exact hd))]
 | @skip o l l2 t e e' l' ts hd hr AZ hw k ih =>
  rw[ih fun p hp=>hq p (mem_cons_of_mem _ hp),gh,if_neg (fun e1:t=q=>hq o mem_cons_self (by rw[←e1];exact hd))]
theorem PD.xV(hp:mG ops=true)(h:PD true P G n S ops l e l2 e'):l2=[]→∀k,ops.toList.drop k=l→∀i,k≤i→i<ops.size→Gd P G n S ops e' i:=by
 induction h with
 | nil =>
  intro iu k hk i h1 h2;rw[iu,drop_eq_nil_iff] at hk;simp at hk;omega
 | @cons o l l2 t d e e' l' ts hd hr AZ hw h k0 ih =>
  intro iu k hk i h1 h2;have aT:ops.toList[k]?=some o:=(by rw[←head?_drop,hk];rfl)
  have Ap:ops[k]?=some o:=(by rw[←Array.getElem?_toList];exact aT)
  have jj:ops.toList.drop (k+1)=l:=(by rw[←drop_drop,hk];rfl)
  rcases Nat.eq_or_lt_of_le h1 with rfl|h1
  ·have lA:∀j p,k<j→ops[j]?=some p→p.dst≠some t:=fun j p hj wq ji=>by
    exact Wv
   have aa:∀p∈l,p.dst≠some t:=fun p fD=>by
    exact Yq
   have E:look t e'=d:=(by rw[k0.later aa,gh,if_pos rfl])
   refine⟨o,t,ts,l',Ap,hd,by simpa using AZ,fun p fD=>?_,hr.keys,.inl ⟨hw,by rw[E];exact h⟩⟩;exact XT
  exact ih iu (k+1) jj i h1 h2
 | @skip o l l2 t e e' l' ts hd hr AZ hw k0 ih =>
  intro iu k hk i h1 h2;have aT:ops.toList[k]?=some o:=(by rw[←head?_drop,hk];rfl)
  have Ap:ops[k]?=some o:=(by rw[←Array.getElem?_toList];exact aT)
  have jj:ops.toList.drop (k+1)=l:=(by rw[←drop_drop,hk];rfl)
  rcases Nat.eq_or_lt_of_le h1 with rfl|h1
  ·have lA:∀j p,k<j→ops[j]?=some p→p.dst≠some t:=fun j p hj wq ji=>by
    exact Wv
   have aa:∀p∈l,p.dst≠some t:=fun p fD=>by
    exact Yq
   have E:look t e' = .v (.tuple #[]):=(by rw[k0.later aa,gh,if_pos rfl])
   refine⟨o,t,ts,l',Ap,hd,by simpa using AZ,fun p fD=>?_,hr.keys,.inr ⟨hw,E⟩⟩;exact XT
  exact ih iu (k+1) jj i h1 h2
def left(N:Nat)(ld:Array Bool):Nat:=((range N).filter fun j=>!ld.getD j true).length
theorem zB{N i:Nat}(hi:i<N)(hl:ld.getD i true=false):left N (ld.setIfInBounds i true)<left N ld:=by
 unfold left;have E:i<ld.size:=by
  rcases Nat.lt_or_ge i ld.size with h|h
  ·exact h
  rw[Array.getD_eq_getD_getElem?,Array.getElem?_eq_none h] at hl;cases hl
 have h1:(range N).filter (fun j=>!(ld.setIfInBounds i true).getD j true)=((range N).filter fun j=>!ld.getD j true).filter (fun j=>!decide (j=i)):=by
  rw[filter_filter];congr 1;funext j;by_cases hj:j=i
  ·subst hj;simp[Array.getD_eq_getD_getElem?,Array.getElem?_setIfInBounds,E]
  simp[Array.getD_eq_getD_getElem?,Array.getElem?_setIfInBounds,hj,Ne.symm hj]
 rw[h1];refine length_filter_lt_length_iff_exists.2 ⟨i,mem_filter.2 ⟨mem_range.2 hi,by simp[hl]⟩,by simp⟩
theorem Ll(hp:mG ops=true)(hr:Region.ready .any ops ld=[]):∀j,j<ops.size→ld.getD j true=true:=fun j=>by
 induction j using Nat.strongRecOn with
 | _ j ih =>
  intro hj;cases hl:ld.getD j true with
  | true=>rfl
  | false =>
   have ho:ops[j]?=some ops[j]:=Array.getElem?_eq_getElem hj;have:j∈Region.ready .any ops ld:=mem_ready.2 ⟨hl,ops[j],ho,fun e he hb=>by
    have aa:=(xx hp ho).1 e he hb;have:=ih e.on aa w4;rw[Array.getD_eq_getD_getElem?] at this ⊢;cases hq:ld[e.on]? with
    | none =>
     have h3:ld.size≤e.on:=Array.getElem?_eq_none_iff.1 hq;rw[Array.getD_eq_getD_getElem?,Array.getElem?_eq_none w4] at hl;cases hl
    | some b=>rw[hq] at this;exact this⟩
   rw[hr] at this;cases this
theorem Fz{q:Nat}:∀{r:List (Nat×D)},¬q∈r.map (·.1)→look q r = .bX
 | [],_=>rfl
 | (p1,p2)::r,hm=>by
  rw[map_cons,mem_cons,not_or] at hm;rw[gh,if_neg (fun e1=>hm.1 e1.symm)];exact Fz hm.2
theorem agU{O:List (Nat×D)}{w1:World}{S1:List Nat}(hS1:ax S=S1)(hp:mG ops=true)(H:∀i,i<ops.size→Gd P C.G n S ops O i)(hQ:Q .normal ⟨n,O,S⟩):∀(fuel:Nat) (ld:Array Bool) (env:List (Nat×D)) (a:Act) (w:World),
  left ops.size ld≤fuel→bK C ⟨n,env,S⟩ a w→Fr w1 S1 w S1→(∀q,(∀j o,ops[j]?=some o→o.dst=some q→ld.getD j true=true)→look q env=look q O)→wpAnyH P .any ops (LQ C Q) (lf w1 S1 []) fuel ld a w:=by
 have fk:∀(ld:Array Bool) (env:List (Nat×D)) (a:Act) (w:World),bK C ⟨n,env,S⟩ a w→(∀q,(∀j o,ops[j]?=some o→o.dst=some q→ld.getD j true=true)→look q env=look q O)→(∀j,j<ops.size→ld.getD j true=true)→LQ C Q .normal a w:=fun ld env a w hs he fw =>
  .inl ⟨⟨n,O,S⟩,⟨hs.defers,hs.size,fun q hq=>by have:=hs.env q hq;rw[he q fun j o hj _=>fw j (Array.getElem?_eq_some_iff.1 hj).1] at this;exact this,hs.own,hs.fr,hs.ex,hs.eV⟩,hQ⟩
 intro fuel;induction fuel with
 | zero =>
  intro ld env a w hl hs hf he;have fw:∀j,j<ops.size→ld.getD j true=true:=fun j hj=>by
   cases hq:ld.getD j true with
   | true=>rfl
   | false=>have:=zB hj hq;omega
  refine⟨?_,fk ld env a w hs he fw⟩;rw[eq_nil_iff_forall_not_mem];intro j hj;obtain⟨h1,o,h2,_⟩:=mem_ready.1 hj;have:=fw j (Array.getElem?_eq_some_iff.1 h2).1;rw[h1] at this;cases this
 | succ fuel ih =>
  intro ld env a w hl hs hf he;refine⟨fun h0=>fk ld env a w hs he (Ll hp h0),fun i hi=>?_⟩;obtain⟨lD,o,E,CY⟩:=mem_ready.1 hi;have aa:=(Array.getElem?_eq_some_iff.1 E).1;obtain⟨o',t,ts,l',h1,hd,hq,mi,hk,hb⟩:=H i aa;rw[E] at h1;obtain rfl:=Option.some.inj h1;have WQ:=zB aa lD;have s7:∀j,(ld.setIfInBounds i true).getD j true=true↔j=i∨ld.getD j true=true:=fun j=>by
   by_cases hj:j=i
   ·subst hj;have iK:j<ld.size:=by
     rcases Nat.lt_or_ge j ld.size with h|h
     ·exact h
     rw[Array.getD_eq_getD_getElem?,Array.getElem?_eq_none h] at lD;cases lD
    simp[Array.getD_eq_getD_getElem?,Array.getElem?_setIfInBounds,iK]
   simp[Array.getD_eq_getD_getElem?,Array.getElem?_setIfInBounds,hj,Ne.symm hj]
  have hsl:∀{r:List (Nat×D)},(∀p∈r,look p.1 env=p.2)→nV env r:=by
   intro r;induction r with
   | nil=>intro _;trivial
   | cons p r ihr=>intro hr;exact⟨hr p mem_cons_self,ihr fun p' uP=>hr p' (mem_cons_of_mem _ uP)⟩
  have ajO:∀p∈l',look p.1 env=look p.1 l':=fun p fD=>by
   obtain⟨h2,h3⟩:=mi p fD;rw[←h3];refine he p.1 fun j oj hj ji=>?_;obtain⟨e1,tH,jd,jU⟩:=FQ hq hj ji h2;have:=CY e1 tH jd;rw[jU] at this;rw[Array.getD_eq_getD_getElem?] at this ⊢;cases hx:ld[j]? with
   | none=>rw[hx] at this;cases this
   | some b=>rw[hx] at this;exact this
  have U:bK C ⟨n,l',S⟩ a w:=⟨hs.defers,hs.size,fun q DQ=>by
   by_cases hm:q∈ts
   ·rw[←hk] at hm;obtain⟨p,fD,rfl⟩:=mem_map.1 hm;have:=hs.env p.1 DQ;rw[ajO p fD] at this;exact this
   have:look q l' = .bX:=by
    rw[←hk] at hm;exact Fz hm
   rw[this];exact .bX _,hs.own,hs.fr,hs.ex,hs.eV⟩
  have jv:∀(a':Act) (w':World),bK C ⟨n,(t,look t O)::env,S⟩ a' w'→Fr w (ax S) w' (ax S)→lf w1 S1 [] w'∧wpAnyH P .any ops (LQ C Q) (lf w1 S1 []) fuel (ld.setIfInBounds i true) a' w':=fun a' w' Z uU=>by
   have jE:Fr w1 S1 w' S1:=hf.trans (hS1 ▸ uU);refine⟨⟨fun b h2 h3=>(jE.block b h2 h3).1,fun b h2=>by cases h2⟩,ih _ _ a' w' w4 Z jE fun q r9=>?_⟩;rw[gh];by_cases I:t=q
   ·rw[if_pos I,I]
   rw[if_neg I];refine he q fun j oj hj ji=>?_;rcases(s7 j).1 (r9 j oj hj ji) with rfl|h2
   ·rw[E] at hj;obtain rfl:=Option.some.inj hj;rw[hd] at ji;exact absurd (Option.some.inj ji) I
   exact h2
  unfold wpOp;rw[E];rcases hb with ⟨hw,hE⟩|⟨hw,hv⟩
  ·simp only[hw C a w U,if_true];have h2:=hE C a w (fun a' w'=>bK C ⟨n,(t,look t O)::l',S⟩ a' w'∧Fr w (ax S) w' (ax S)) (LQ C Q) rfl U (fun y a' w' hy Z _ uU=>by subst hy;exact⟨Z,uU⟩);refine .inl (Oper.wp_mono (fun a' w' h3=>?_) (zA h2));obtain⟨⟨h4,h5⟩,v,h6⟩:=h3;rw[hd] at h6;exact jv a' w' (hs.Ac h4 h5 h6) h5
  simp only[hw C a w U,hd];have:=hs.put (t:=t) (.v (w:=w) (L:=live C.X S) undef);rw[hv] at jv;exact jv _ w this (Fr.refl _ _)
theorem dZ.pd(hp:mG ops=true)(h:PD true P C.G n S ops ops.toList e [] e')(hQ:Q .normal ⟨n,e',S⟩):dZ P C ops (ax S) [] ops.size (Array.replicate ops.size false) ⟨n,e,S⟩ Q:=fun a w hs _ _=>by
 have hg:=h.xV hp rfl 0 rfl;refine agU rfl hp (fun i hi=>hg i (Nat.zero_le _) hi) hQ _ _ e a w ?_ hs (Fr.refl _ _) fun q hq=>?_
 ·unfold left;exact Nat.le_trans (length_filter_le _ _) bj
 refine(h.later fun o ho hd=>?_).symm;obtain⟨j,hj,rfl⟩:=mem_iff_getElem.1 ho;have E:j<ops.size:=(by simpa using hj)
 have:=hq j _ (by rw[←Array.getElem?_toList,getElem?_eq_getElem hj]) hd;simp[Array.getD_eq_getD_getElem?,E] at this
theorem CD.pd{id:Nat}{E:Bool}(hm:E=true→P.follows .mixedOrders=true)(hp:E=true→mG l.toArray=true)(h:PD E P C.G n S l.toArray l e [] e')(hQ:Q .normal ⟨n,e',S⟩):CD P C (.region id l.toArray E) ⟨n,e,S⟩ Q:=by
 cases E with
 | false=>exact CD.region (h.od (OD.nil hQ))
 | true=>exact CD.draw [] (hm rfl) (fun _ hb=>by cases hb) (dZ.pd (hp rfl) h hQ)

end Go.Proofs.YtkgmonfgofobaaaGreatDoor.V
namespace Go.Proofs.YtkgmonfgofobaaaGreatDoor.V
open List
open Go.RowKit
variable {P:Program} {G:List (Nat×List Value)} {x:St} {o:Oper} {C:dK} {Q:Exit→St→Prop} {ops:Array Oper} {l:List Oper}
variable {L:Nat→Prop} {ks:List Int} {i b:Nat} {k:Int} {kt:TypeId} {y:Operand}
def vG(ks:List Int):List D:=ks.map fun k=>.v (.int .i64 k)
def lg(b:Nat)(ks:List Int):ah:=⟨b,zK,ks.length,vG ks⟩
theorem adg{w:World}{cur:Array Value}(h2:cur.size=ks.length)(h4:∀i (h:i<(vG ks).length),∃u,cur[i]?=some u∧cn w L (vG ks)[i] u):cur=(ks.map (Value.int .i64)).toArray:=by
 apply Array.ext (by simp[h2]);intro i q1 q2;have hi:i<ks.length:=(by omega)
 obtain⟨u,hu,hr⟩:=h4 i (by simpa[vG] using hi);simp only[vG,getElem_map] at hr;have:=hr.k8;subst this;have e:=(Array.getElem?_eq_some_iff.1 hu).2;rw[e];simp
theorem bK.aif {a:Act} {w:World} (h:bK C x a w) {B B':ah} {l8:Array Value} (hk:x.S[i]?=some B) (hb:B'.b=B.b) (h2:l8.size=B'.size) (h3:B'.cs.length≤B'.size)
  (h4:∀j (hj:j<B'.cs.length),∃u,l8[j]?=some u∧cn w (live C.X x.S) B'.cs[j] u) :
  bK C ⟨x.n,x.env,x.S.set i B'⟩ a {w with heap:=w.heap.setIfInBounds B.b (ob B'.e l8)}∧mh [B.b] w {w with heap:=w.heap.setIfInBounds B.b (ob B'.e l8)}∧Fr w (ax x.S) {w with heap:=w.heap.setIfInBounds B.b (ob B'.e l8)} (ax (x.S.set i B')):=by
 obtain⟨h0,cur,r1,r2,r3,r4⟩:=h.fN hk;generalize I:({w with heap:=w.heap.setIfInBounds B.b (ob B'.e l8)}:World)=w';have i1:w'.heap[B.b]?=some (ob B'.e l8):=(by rw[←I];simp[h0])
 have i2:∀b,b≠B.b→w'.heap[b]?=w.heap[b]?:=fun b hn=>by rw[←I];simp[Ne.symm hn]
 have i3:w'.heap.size=w.heap.size:=(by rw[←I];simp)
 have i4:w'.os=w.os:=(by rw[←I])
 have i5:w'.tape=w.tape:=(by rw[←I])
 have i6:w'.output=w.output:=(by rw[←I])
 have dJ:i<x.S.length:=(List.getElem?_eq_some_iff.1 hk).1;have wv:x.S[i]=B:=(List.getElem?_eq_some_iff.1 hk).2;have E:ax (x.S.set i B')=ax x.S:=by
  unfold ax;rw[map_set];apply ext_getElem bj;intro j q1 q2;rw[getElem_set];split
  ·rename_i e;subst e;simp[wv,hb]
  rfl
 have O:live C.X (x.S.set i B')=live C.X x.S:=(by funext b;simp only[live,E])
 have hB:live C.X x.S B.b:=RP hk;have H:∀b,b<w.heap.size→¬live C.X x.S b→w'.heap[b]?=w.heap[b]?∧¬live C.X x.S b:=fun b _ hn=>⟨i2 b (fun e=>hn (e ▸ hB)),hn⟩
 refine⟨⟨h.defers,h.size,fun t ht=>?_,⟨fun B2 hB2=>?_,?_⟩,?_,h.ex,h.eV⟩,⟨by rw[i3];exact Nat.le_refl _,fun b _ hn=>i2 b (by simpa using hn)⟩,?_⟩
 ·simp only[O];exact(h.env t ht).mono H
 ·simp only[O];obtain⟨j,hj,U⟩:=mem_iff_getElem.1 hB2;rw[length_set] at hj;rw[getElem_set] at U;by_cases e:i=j
  ·rw[if_pos e] at U;subst U;refine⟨by rw[i3,hb];exact h0,l8,by rw[hb];exact i1,h2,h3,fun q hq=>?_⟩;obtain⟨u,hu,Og⟩:=h4 q hq;exact⟨u,hu,Og.mono H⟩
  rw[if_neg e] at U;subst U;have hne:x.S[j].b≠B.b:=fun he=>by
   have DI:(ax x.S)[j]'AU=(ax x.S)[i]'AS:=(by simp[ax,he,wv])
   have hp:=pairwise_iff_getElem.1 h.own.apart;rcases Nat.lt_trichotomy j i with Z|Z|Z
   ·exact hp j i AU AS Z DI
   ·exact e Z.symm
   exact hp i j AS AU Z DI.symm
  obtain⟨q0,nZ,q1,q2,q3,q4⟩:=h.own.at_ x.S[j] (getElem_mem hj);refine⟨by rw[i3];exact q0,nZ,(i2 _ hne).trans q1,q2,q3,fun q hq=>?_⟩;obtain⟨u,hu,Og⟩:=q4 q hq;exact⟨u,hu,Og.mono H⟩
 ·simp only[E];exact h.own.apart
 ·refine⟨i4.trans h.fr.os,i5.trans h.fr.tape,i6.trans h.fr.output,by rw[i3];exact h.fr.size,fun b jW hn=>?_⟩;obtain⟨q1,q2⟩:=h.fr.block b jW hn;refine⟨(i2 b (fun e=>q2 (e ▸ mem_map.2 ⟨B,mem_of_getElem? hk,rfl⟩))).trans q1,?_⟩;simp only[E];exact q2
 rw[E];exact⟨i4,i5,i6,by rw[i3];exact Nat.le_refl _,fun b jW hn=>⟨i2 b (fun e=>hn (e ▸ mem_map.2 ⟨B,mem_of_getElem? hk,rfl⟩)),hn⟩⟩
theorem aal{t:TypeId}{tt:Nat}(ho:o.op = .makeMap t none)(hd:o.dst=some tt):ga P G x o [] (fun y=>∃b,y=⟨x.n,(tt,.v (.map (some b)))::x.env,lg b []::x.S⟩):=fun C a w K Q hG h hK=>by
 have:(execOp a.eval o).run P w = .ok (.value (.map (some w.heap.size))) (w.alloc (ob zK #[])):=by
  unfold execOp;simp[ho,Instr.makeMap,Vg,Cy]
 unfold Oper.wp;rw[this,Oper.upon_value,hd];exact hK _ _ _ ⟨w.heap.size,rfl⟩ (h.VS (ds:=[]) (cG.nil _ _) bj (fun L=>.v _)) (mh.alloc _ _) (Fr.alloc _ _ _)
theorem Lm{w:World}(h:LV w L (lg b ks)):w.heap[b]?=some (Cy (ks.map (Value.int .i64)).toArray):=by
 obtain⟨h0,cur,h1,h2,h3,h4⟩:=h;have h2:cur.size=ks.length:=h2;have:=adg h2 h4;subst this;exact h1
theorem TZ{e:MapEntry}(h:e∈(Array.mapIdx (fun i k=>(⟨k,.agg #[],i⟩:MapEntry)) (ks.map (Value.int .i64)).toArray).toList):∃k∈ks,e.key = .int .i64 k∧e.val = .agg #[]:=by
 obtain⟨i,hi,rfl⟩:=mem_iff_getElem.1 h;have E:i<ks.length:=(by simpa using hi)
 exact⟨ks[i],getElem_mem E,by simp,by simp⟩
theorem RW:(k∉ks∧Instr.findNow (.int .i64) (.int .i64 k) (Array.mapIdx (fun i k=>(⟨k,.agg #[],i⟩:MapEntry)) (ks.map (Value.int .i64)).toArray).toList 0=some none) ∨
  (k∈ks∧∃i,Instr.findNow (.int .i64) (.int .i64 k) (Array.mapIdx (fun i k=>(⟨k,.agg #[],i⟩:MapEntry)) (ks.map (Value.int .i64)).toArray).toList 0=some (some (i,.agg #[]))):=by
 rcases MapKept.findNow_spec (d:=.int .i64) (k:=.int .i64 k) (by simp[MapKept.IsKey]) (Array.mapIdx (fun i k=>(⟨k,.agg #[],i⟩:MapEntry)) (ks.map (Value.int .i64)).toArray).toList 0 (fun e he=>by
   obtain⟨k',_,h1,_⟩:=TZ he;rw[h1];simp[MapKept.IsKey]) with ⟨h1,h2⟩|⟨j,e,h1,h2,h3⟩
 ·refine .inl ⟨fun hm=>?_,h1⟩;obtain⟨i,hi,rfl⟩:=mem_iff_getElem.1 hm;exact h2 ((Array.mapIdx (fun i k=>(⟨k,.agg #[],i⟩:MapEntry)) (ks.map (Value.int .i64)).toArray).toList[i]'(by simpa using hi)) (getElem_mem _) bj
 obtain⟨k',rm,q1,q2⟩:=TZ (mem_of_getElem? h2);rw[h3] at q1;have:k=k':=(by simpa using q1)
 subst this;rw[q2] at h1;exact .inr ⟨rm,_,h1⟩
theorem abA {U Z:TypeId} {z:Operand} (ho:o.op = .lookup U y z true) (hy:aF x y = .v (.map (some b))) (hz:aF x z = .v (.int .i64 k)) (hk:x.S[i]?=some (lg b ks))
  (hm:P.underlying U=some (.map kt Z)) (E:P.underlying kt=some (.int .i64)) (O:∀w,(zeroValue Z).run P w = .ok (.agg #[]) w):bW P G x o (.fN i) (.dD [.v (.agg #[]),.v (.bool (decide (k∈ks)))]):=fun C a w _ h=>by
 have h1:=Lm (h.fN hk);refine⟨.tuple #[.agg #[],.bool (decide (k∈ks))],.dD _ [.agg #[],.bool (decide (k∈ks))] rfl (fun j q1 q2=>?_),fun w' hw=>?_⟩
 ·rcases j with _|_|j
  ·exact .v _
  ·exact .v _
  simp at q1;omega
 have hh:w'.heap[b]?=_:=(hw _ hk).trans h1;have I:=MapKept.run_checkKey (P:=P) (w:=w') (kt:=kt) (d:=.int .i64) (k:=.int .i64 k) E (by simp[MapKept.IsKey]);unfold execOp;rcases RW (ks:=ks) (k:=k) with ⟨n1,n2⟩|⟨n1,j,n2⟩
 ·have hf:=MapKept.run_findKey (P:=P) (w:=w') E n2;simp only[ho,h.flat hy,h.flat hz,Instr.lookup,Sem.run_bind,run_underlying hm,MapKept.run_getObj_map hh,I,hf,O,Result.andThen_ok,Sem.run_pure,n1,decide_false,if_true]
 have hf:=MapKept.run_findKey (P:=P) (w:=w') E n2;simp only[ho,h.flat hy,h.flat hz,Instr.lookup,Sem.run_bind,run_underlying hm,MapKept.run_getObj_map hh,I,hf,Result.andThen_ok,Sem.run_pure,n1,decide_true,if_true]
theorem aaH {mt et:TypeId} {z u:Operand} (ho:o.op = .mapUpdate mt y z u) (hd:o.dst=none) (hy:aF x y = .v (.map (some b))) (hz:aF x z = .v (.int .i64 k)) (hu:aF x u = .agg []) (hk:x.S[i]?=some (lg b ks)) (hn:k∉ks)
  (hm:P.underlying mt=some (.map kt et)) (I:P.underlying kt=some (.int .i64)):ga P G x o [b] (fun s=>s=⟨x.n,x.env,x.S.set i (lg b (ks++[k]))⟩):=fun C a w K Q hG h hK=>by
 have h1:=Lm (h.fN hk);have hv:a.eval u = .agg #[]:=by
  have:=h.eval u;rw[hu] at this;generalize a.eval u=v at this;cases this with
  | agg _ vs hl _ =>
   have:vs=[]:=eq_nil_of_length_eq_zero uK;subst this;rfl
 have U:=MapKept.run_checkKey (P:=P) (w:=w) (kt:=kt) (d:=.int .i64) (k:=.int .i64 k) I (by simp[MapKept.IsKey]);have hf:=(RW (ks:=ks) (k:=k)).resolve_right fun q=>hn q.1;have Z:=MapKept.run_findKey (P:=P) (w:=w) I hf.2;have E:Obj.map ((Array.mapIdx (fun i k=>(⟨k,.agg #[],i⟩:MapEntry)) (ks.map (Value.int .i64)).toArray).push ⟨.int .i64 k,.agg #[],(ks.map (Value.int .i64)).toArray.size⟩) ((ks.map (Value.int .i64)).toArray.size+1)=ob zK (((ks++[k]).map (Value.int .i64)).toArray):=by
  have e:((ks++[k]).map (Value.int .i64)).toArray=(ks.map (Value.int .i64)).toArray.push (.int .i64 k):=(by simp)
  rw[e,Vg,Cy,Array.mapIdx_push,Array.size_push]
 have O:(execOp a.eval o).run P w = .ok .skip {w with heap:=w.heap.setIfInBounds b (ob zK (((ks++[k]).map (Value.int .i64)).toArray))}:=by
  unfold execOp;simp only[ho,h.flat hy,h.flat hz,hv,Instr.mapUpdate,Sem.run_bind,run_underlying hm,MapKept.run_getObj_map h1,U,Z,Result.andThen_ok,MapKept.run_setObj_map _ h1,E,Sem.run_pure]
 obtain⟨s1,s2,s3⟩:=h.aif (B':=lg b (ks++[k])) (l8:=((ks++[k]).map (Value.int .i64)).toArray) hk rfl (by simp[lg]) (by simp[lg,vG]) (fun j hj=>by
  have jD:j<(ks++[k]).length:=(by simpa[lg,vG] using hj)
  refine⟨.int .i64 (ks++[k])[j],by rw[getElem?_toArray,getElem?_map,getElem?_eq_getElem jD];rfl,?_⟩;simp only[lg,vG,getElem_map];exact .v _)
 unfold Oper.wp;rw[O,Oper.upon_skip,hd];exact hK _ _ _ rfl s1 s2 s3
theorem OD.ae9{t:TypeId}{tt:Nat}(hw:cj ops x o true)(ho:o.op = .makeMap t none)(hd:o.dst=some tt)(K:∀b,OD P C ops l ⟨x.n,(tt,.v (.map (some b)))::x.env,lg b []::x.S⟩ Q):OD P C ops (o::l) x Q :=
 OD.gk hw (aal ho hd) fun y ⟨b,hy⟩=>hy ▸ K b
theorem OD.addKey {I O:TypeId} {z u:Operand} (hw:cj ops x o true) (ho:o.op = .mapUpdate I y z u) (hd:o.dst=none) (hy:aF x y = .v (.map (some b))) (hz:aF x z = .v (.int .i64 k)) (U:aF x u = .agg []) (hk:x.S[i]?=some (lg b ks)) (hn:k∉ks)
  (hm:P.underlying I=some (.map kt O)) (E:P.underlying kt=some (.int .i64)) (K:OD P C ops l ⟨x.n,x.env,x.S.set i (lg b (ks++[k]))⟩ Q):OD P C ops (o::l) x Q :=
 OD.gk hw (aaH ho hd hy hz U hk hn hm E) fun y hy=>hy ▸ K

end Go.Proofs.YtkgmonfgofobaaaGreatDoor.V
namespace Go.Proofs.YtkgmonfgofobaaaGreatDoor.V
open List
open Go.RowKit
variable {P:Program} {C:dK} {G:List (Nat×List Value)} {Q:Exit→St→Prop} {x:St} {ops:Array Oper} {l:List Oper} {o:Oper} {S1 T:List Nat} {fuel i:Nat} {ld:Array Bool}
variable {ts:Array TypeId} {S S2 S3:List ah} {post:D→List ah→Prop} {cs':List D} {fo:Operand} {de:Array Operand}
theorem aaI {E kt I:TypeId} {i b:Nat} {ks:List Int} {y:Operand} (ho:o.op = .call {callee:=.builtin .len,args:=#[y],argTypes:=ts}) (ht:ts = #[E]) (hy:aF x y = .v (.map (some b))) (hk:x.S[i]?=some (lg b ks))
  (hm:P.underlying E=some (.map kt I)):bW P G x o (.fN i) (.v (.int .i64 (ks.length:Nat))):=fun C a w _ h=>by
 subst ht;have h1:=Lm (h.fN hk);refine⟨_,.v _,fun w' hw=>?_⟩;have O:w'.heap[b]?=_:=(hw _ hk).trans h1;have hg:=MapKept.run_getObj_map (P:=P) O;have U:=run_underlying hm w';unfold execOp;simp[ho,resolve,invoke,builtin,Builtin.len_,h.flat hy,U,hg,goInt,Result.andThen]
def DR:List D→List D→Prop
 | [],[]=>True
 | a::l,b::l'=>(a=b∨∃sz,a = .v (.slice none 0 0)∧b = .list sz [] 0)∧DR l l'
 | _,_=>False
theorem DR.DL{w:World}{L:Nat→Prop}:∀{a b:List D} {vs:List Value},DR a b→cG w L a vs→cG w L b vs
 | [],[],_,_,h=>h
 | a::l,b::l',[],_,h=>by simp[cG] at h
 | a::l,b::l',v::vs,⟨k,t⟩,h=>by
  obtain⟨h0,h1⟩:=h.tail;have h2:=DR.DL t h1;refine⟨by have:=h2.1;simp[this],fun i q1 q2=>?_⟩;cases i with
  | zero =>
   rcases k with rfl|⟨sz,rfl,rfl⟩
   ·exact h0
   show cn w L (.list sz [] 0) v;rw[h0.k8];exact .mB sz none 0
  | succ i=>exact h2.2 i (by simpa using q1) (by simpa using q2)
theorem VC.ff{f:FuncId}{args args':List D}(h:VC P G f args S post)(k:DR args' args):VC P G f args' S post:=fun X w vs hp=>h X w vs ⟨hp.ex,hp.eV,hp.own,k.DL hp.args⟩
theorem OD.agV{A:ah}{R:List ah}(hS:x.S=A::R)(hv:gU [] A.cs cs')(k:OD P C ops l ⟨x.n,x.env,{A with cs:=cs'}::R⟩ Q):OD P C ops l x Q :=
 OD.cover (Sd:=[]) (by rw[hS,append_nil]) hv k

theorem gU.append{S:List ah}:∀{a b c d:List D},gU S a b→gU S c d→gU S (a++c) (b++d)
 | [],[],_,_,_,h=>h
 | _::_,_::_,_,_,h,k=>⟨h.1,gU.append h.2 k⟩
 | [],_::_,_,_,h,_=>h.elim
 | _::_,[],_,_,h,_=>h.elim
theorem gU.same{S:List ah}:∀{a:List D},gU S a a
 | []=>trivial
 | _::_=>⟨eW,gU.same⟩
theorem QJ{sz n cap b e size:Nat}{cs:List D}(E:(⟨b,e,size,cs⟩:ah)∈S)(hv:gU S cs cs')(hl:cs'.length=n*sz)(h1:n≤cap)(h2:cap≤maxLen)(hne:isMap e=false:=by rfl):View S (.v (.slice (some ⟨b,0,none⟩) n cap)) (.list sz cs' n):=fun X Y w v I O ho h=>by
 rw[h.k8];obtain⟨v1,v2⟩:=hv.spec;obtain⟨r0,cur,r1,r2,Z,U⟩:=ho.at_ _ E;rw[kI hne] at r1;refine .list sz cs' n b 0 cap (fun i=>cur.getD i undef) hl h1 h2 r0 (fun hy=>O _ (I _ hy) (mem_map.2 ⟨_,E,rfl⟩)) (fun i hi=>?_) (fun i hi=>?_)
 ·obtain⟨u,hu,_⟩:=U i HK;rw[Nat.zero_add,ou r1 hu];simp[hu]
 obtain⟨u,hu,hq⟩:=U i HK;simp only[Array.getD_eq_getD_getElem?,hu,Option.getD_some];exact v2 i w4 hi X Y w u I O ho hq
theorem BG{Sq:List ah}{e sz n cap:Nat}{cs:List D}{ad:Option Addr}(h:bn e sz cs n ad cap Sq)(hv:gU S cs cs')(hl:cs'.length=n*sz)(hs:∀B∈Sq,B∈S)(hne:isMap e=false:=by rfl):View S (.v (.slice ad n cap)) (.list sz cs' n):=by
 rcases h with ⟨rfl,rfl,rfl,rfl,rfl⟩|⟨b,rfl,h1,h2,rfl⟩
 ·have:cs'=[]:=(by cases cs' with|nil=>rfl|cons _ _=>exact hv.elim)
  subst this;exact zj
 exact QJ (hne:=hne) (hs _ mem_cons_self) hv hl h1 h2
theorem RF{A S1 E:List ah}:(A++(S1++(S2++(S3++E)))).Perm (S3++(A++(S1++(S2++E)))):=jS fun f=>by simp only[map_append,sum_append];omega
theorem acZ{A S1 E:List ah}:(S3++(A++(S1++(S2++E)))).Perm (A++(S1++(S2++(S3++E)))):=RF.symm
variable {α:Type} {V:α→List D→List ah→Prop}
theorem I9 {f t:Nat} {args:List D} (ho:o.op = .call {callee:=.value fo,args:=de,argTypes:=ts}) (hd:o.dst=some t)
  (hf:fo = .func f) (fG:∀args w,(callFunc f args).run P w = .ok (.enter f args) w) (hc:VC P G f args [] post) (hr:∀r S',post r S'→kZ r=true∧∀B∈S',∀d∈B.cs,kZ d=true) (ha:Looks x de.toList args) :
  ga P G x o [] (fun y=>∃r S',post r S'∧y=⟨x.n,(t,r)::x.env,S'++x.S⟩):=fun C a w K Q hG h hK=>by
 subst hf;have U:(execOp a.eval o).run P w = .ok (.enter f (de.toList.map a.eval).toArray) w:=by
  unfold execOp;have e:de.map a.eval=(de.toList.map a.eval).toArray:=by
   rw[←Array.toList_map,Array.toArray_toList]
  simp only[ho,resolve,Act.eval,Deferred.ofValue,Sem.run_bind,Sem.run_pure,Result.andThen_ok,invoke,e];simp[fG]
 have Z:HW G (fun _=>False) w [] args (de.toList.map a.eval):=by
  refine⟨fun b hx=>hx.elim,fun g hg=>?_,⟨fun B O=>by simp at O,by simp[ax]⟩,(Looks.DL h ha).mono fun b _ _=>⟨rfl,fun hl=>by rcases hl with hl|hl;exact hl;simp[ax] at hl⟩⟩;rw[←hG] at hg;exact⟨⟨Nat.lt_of_lt_of_le (h.eV g hg).1.1 h.fr.size,by simp[ax],id⟩,fun i v hi=>h.aU hg hi⟩
 unfold Oper.wp;rw[U,Oper.upon_enter,hd];refine(hc _ w _ Z).mono fun e w' ⟨v,r,S',h1,h2,h3,h4,h5⟩=>?_;subst h1;obtain⟨kE,kS⟩:=hr r S' h2;have hb:∀b,b<w.heap.size→w'.heap[b]?=w.heap[b]?:=fun b hb=>(h5.block b hb (by simp[ax])).1;have hn:∀b,b<w.heap.size→b∉ax S':=fun b hb=>(h5.block b hb (by simp[ax])).2;have I:∀b,b<w.heap.size→¬live C.X x.S b→¬live C.X (S'++x.S) b:=fun b E h0 hl=>by
  rcases hl with hl|hl
  ·exact h0 (.inl hl)
  rw[ax,map_append,mem_append] at hl;rcases hl with hl|hl
  ·exact hn b E hl
  exact h0 (.inr hl)
 have base:bK C ⟨x.n,x.env,S'++x.S⟩ a w':=by
  refine⟨h.defers,h.size,fun t ht=>(h.env t ht).mono fun b E h0=>⟨hb b E,I b E h0⟩,⟨fun B O=>?_,?_⟩,?_,h.ex,h.eV⟩
  ·rcases mem_append.1 O with O|O
   ·obtain⟨r0,cur,r1,r2,r3,r4⟩:=h3.at_ B O;refine⟨r0,cur,r1,r2,r3,fun i hi=>?_⟩;obtain⟨u,hu,hq⟩:=r4 i hi;exact⟨u,hu,hq.flat (kS B O _ (getElem_mem hi))⟩
   obtain⟨r0,cur,r1,r2,r3,r4⟩:=h.own.at_ B O;refine⟨rC r0 (hb _ r0),cur,(hb _ r0).trans r1,r2,r3,fun i hi=>?_⟩;obtain⟨u,hu,hq⟩:=r4 i hi;exact⟨u,hu,hq.mono fun b E h0=>⟨hb b E,I b E h0⟩⟩
  ·rw[ax,map_append];refine nodup_append.2 ⟨h3.apart,h.own.apart,fun b jd c aY e=>?_⟩;subst e;obtain⟨B,O,rfl⟩:=mem_map.1 aY;exact hn _ (h.own.at_ B O).1 jd
  refine⟨h5.os.trans h.fr.os,h5.tape.trans h.fr.tape,h5.output.trans h.fr.output,Nat.le_trans h.fr.size h5.size,fun b E h0=>⟨(hb b (Nat.lt_of_lt_of_le E h.fr.size)).trans (h.fr.block b E h0).1,fun hm=>?_⟩⟩;rw[ax,map_append,mem_append] at hm;rcases hm with hm|hm
  ·exact hn b (Nat.lt_of_lt_of_le E h.fr.size) hm
  exact(h.fr.block b E h0).2 hm
 refine hK _ _ _ ⟨r,S',h2,rfl⟩ (base.put (h4.flat kE)) ⟨h5.size,fun b E _=>hb b E⟩ ⟨h5.os,h5.tape,h5.output,h5.size,fun b E h0=>⟨hb b E,fun hm=>?_⟩⟩;rw[ax,map_append,mem_append] at hm;rcases hm with hm|hm
 ·exact hn b E hm
 exact h0 hm
theorem OD.LY {f t:Nat} {args:List D} (hw:cj ops x o true) (ho:o.op = .call {callee:=.value fo,args:=de,argTypes:=ts}) (hd:o.dst=some t)
  (hf:fo = .func f) (fG:∀args w,(callFunc f args).run P w = .ok (.enter f args) w) (hc:VC P C.G f args [] post) (hr:∀r S',post r S'→kZ r=true∧∀B∈S',∀d∈B.cs,kZ d=true) (ha:Looks x de.toList args)
  (K:∀r S',post r S'→OD P C ops l ⟨x.n,(t,r)::x.env,S'++x.S⟩ Q):OD P C ops (o::l) x Q:=OD.gk hw (I9 ho hd hf fG hc hr ha) fun y ⟨r,S',hp,hy⟩=>hy ▸ K r S' hp

end Go.Proofs.YtkgmonfgofobaaaGreatDoor.V

namespace Go.Proofs.YtkgmonfgofobaaaGreatDoor.V
open List
open Go.RowKit
variable {a:Act} {t:Nat}
mutual
def iV:D→Bool
 | .v _=>true
 | .list _ cs _=>fZ cs
 | .fQ cs _=>fZ cs
 | .agg cs=>fZ cs
 | .dD cs=>fZ cs
 | .eH _ cs=>fZ cs
 | .kz _ _=>false
 | .bX=>true
def fZ:List D→Bool
 | []=>true
 | d::r=>iV d&&fZ r
end

theorem wW:∀{cs:List D},fZ cs=true→∀i (h:i<cs.length),iV cs[i]=true
 | [],_,_,h=>by cases h
 | d::r,hn,0,_=>by rw[fZ,Bool.and_eq_true] at hn;exact hn.1
 | d::r,hn,i+1,h=>by rw[fZ,Bool.and_eq_true] at hn;exact wW hn.2 i pC
theorem RX:∀{a b:List D},fZ a=true→fZ b=true→fZ (a++b)=true
 | [],_,_,h=>h
 | d::r,b,ha,hb=>by
  rw[fZ,Bool.and_eq_true] at ha;rw[cons_append,fZ,Bool.and_eq_true];exact⟨ha.1,RX ha.2 hb⟩
theorem vq{α:Type}{g:α→List D}(hg:∀a,fZ (g a)=true):∀(ls:List α),fZ (ls.flatMap g)=true
 | []=>rfl
 | a::ls=>by rw[flatMap_cons];exact RX (hg a) (vq hg ls)
theorem adi{l:List (Nat×D)}(h:(l.all fun p=>iV p.2)=true)(t:Nat):iV (look t l)=true:=by
 induction l with
 | nil=>rfl
 | cons p l ih =>
  obtain⟨i,d⟩:=p;rw[all_cons,Bool.and_eq_true] at h;rw[gh];split
  ·exact h.1
  exact ih h.2

theorem cn.Ad {w w':World} {L O:Nat→Prop} {Z:Nat→Prop} {d:D} {v:Value} (h:cn w L d v) (hn:iV d=true) (H:∀b,b<w.heap.size→¬L b→¬Z b→w'.heap[b]?=w.heap[b]?∧¬O b)
  (U:∀b o,Z b→w.cell? ⟨b,o,none⟩=none) (hs:w.heap.size≤w'.heap.size) (I:∀b,b<w.heap.size→¬L b→Z b→¬O b):cn w' O d v:=by
 induction h with
 | v x=>exact .v x
 | mB sz ad cap=>exact .mB sz ad cap
 | list sz cs len b o cap f hl h1 h2 hb hL hc hr ih =>
  rw[iV] at hn;by_cases hz:Z b
  ·have:¬0<cs.length:=fun h0=>by have:=hc 0 h0;rw[U _ _ hz] at this;cases this
   exact .list sz cs len b o cap f hl h1 h2 w4 (I b hb hL hz) (fun i hi=>by omega) (fun i hi=>by omega)
  have E:=H b hb hL hz;exact .list sz cs len b o cap f hl h1 h2 (rC hb E.1) E.2 (fun i hi=>(World.cell?_of_block (w:=w) (a:=⟨b,o+i,none⟩) E.1).trans (hc i hi)) (fun i hi=>ih i hi (wW hn i hi))
 | fQ cs off b o f hb hL hc hr ih =>
  rw[iV] at hn;by_cases hz:Z b
  ·have:¬0<cs.length:=fun h0=>by have:=hc 0 h0;rw[U _ _ hz] at this;cases this
   exact .fQ cs off b o f w4 (I b hb hL hz) (fun i hi=>by omega) (fun i hi=>by omega)
  have E:=H b hb hL hz;exact .fQ cs off b o f (rC hb E.1) E.2 (fun i hi=>(World.cell?_of_block (w:=w) (a:=⟨b,o+i,none⟩) E.1).trans (hc i hi)) (fun i hi=>ih i hi (wW hn i hi))
 | agg cs vs hl hr ih=>rw[iV] at hn;exact .agg cs vs hl fun i h h'=>ih i h h' (wW hn i h)
 | dD cs vs hl hr ih=>rw[iV] at hn;exact .dD cs vs hl fun i h h'=>ih i h h' (wW hn i h)
 | eH fn cs vs hl hr ih=>rw[iV] at hn;exact .eH fn cs vs hl fun i h h'=>ih i h h' (wW hn i h)
 | kz l os h=>rw[iV] at hn;cases hn
 | bX x=>exact .bX x

theorem Own.Ad {w w':World} {L:Nat→Prop} {Z:Nat→Prop} {S:List ah} (h:Own w L S) (hS:∀B∈S,L B.b) (hn:∀B∈S,fZ B.cs=true) (H:∀b,b<w.heap.size→¬Z b→w'.heap[b]?=w.heap[b]?)
  (O:∀b o,Z b→w.cell? ⟨b,o,none⟩=none) (hs:w.heap.size≤w'.heap.size) (E:∀B∈S,¬Z B.b):Own w' L S :=
 ⟨fun B I=>by
  obtain⟨r0,cur,r1,r2,U,r4⟩:=h.at_ B I;refine⟨by omega,cur,(H _ r0 (E B I)).trans r1,r2,U,fun i hi=>?_⟩;obtain⟨u,hu,hq⟩:=r4 i hi;exact⟨u,hu,hq.Ad (wW (hn B I) i hi) (fun b hb hl hz=>⟨H b hb hz,hl⟩) O hs (fun b _ hl _=>hl)⟩,h.apart⟩

theorem FB{w:World}{b:Nat}{o:Obj}(h:w.heap[b]?=some o)(ho:o.isCells=false)(i:Nat):w.cell? ⟨b,i,none⟩=none:=by
 cases hc:w.cell? ⟨b,i,none⟩ with
 | none=>rfl
 | some v =>
  obtain⟨o',h1,h2⟩:=cells_of_cell hc;have h1:w.heap[b]?=some o':=h1;rw[h] at h1;cases h1;rw[ho] at h2;cases h2

structure Yz (l:Nat) (w:World) (S:List Nat) (w':World) (S':List Nat):Prop where
 os:w'.os=w.os
 tape:w'.tape=w.tape
 output:w'.output=w.output
 size:w.heap.size≤w'.heap.size
 block:∀b,b<w.heap.size→b∉S→(b≠l→w'.heap[b]?=w.heap[b]?)∧b∉S'

structure yB (α:Type) where
 l:Nat
 os:List (Nat×Obj)
 od:List (Nat×Obj)
 enc:α→List D
 J:List α→List ah→Prop
 Jx:List α→List ah→Prop
 N:Nat

def rK(W:World)(L:Nat→Prop)(os:List (Nat×Obj)):Prop:=∀z∈os,z.1<W.heap.size∧¬L z.1∧W.heap[z.1]?=some z.2

def Oh{α:Type}(P:Program)(X0:Nat→Prop)(w0:World)(S0:List Nat)(Y:yB α):Prop :=
 ∀(pre:List α) (y:α) (Sc:List ah) (X:Nat→Prop) (W:World) (vs:List Value),
  Y.J pre Sc→pre.length<Y.N→(∀b,X b→b<W.heap.size∧b∉ax Sc)→(∀b,X0 b→X b)→(∀b,X b→X0 b∨w0.heap.size≤b∨b∈S0) →
  Own W (live X Sc) Sc→cG W (live X Sc) (Y.enc y) vs→Fr w0 S0 W (ax Sc)→rK W (live X Sc) Y.os →
  ∃fn tmps assign body,(Instr.yield Y.l vs.toArray).run P W = .ok (.round Y.l fn tmps assign body) W ∧
   RoundIn Fence.wide 0 P Y.l fn tmps assign body W (fun e W'=>∃b nl,e = .returned (.bool b)∧Own W' (live X nl) nl∧Yz Y.l W (ax Sc) W' (ax nl) ∧
    (b=true→Y.J (pre++[y]) nl∧W'.heap[Y.l]?=W.heap[Y.l]?)∧(b=false→Y.Jx (pre++[y]) nl∧rK W' (live X nl) Y.od))

def l5(G:List (Nat×List Value))(w0:World)(S0:List Nat)(X0:Nat→Prop):Prop:=∀g∈G,(g.1<w0.heap.size∧g.1∉S0∧¬X0 g.1)∧∀i v,g.2[i]?=some v→ox w0 g.1 i v

def VI{α:Type}(P:Program)(G:List (Nat×List Value))(gf:FuncId)(CZ:List D)(enc:α→List D)(Sa Sp:List α→Prop)(N:Nat):Prop :=
 ∀(Y:yB α) (X0:Nat→Prop) (w0 W:World) (S0:List Nat) (Sc:List ah) (cv:List Value),Y.enc=enc→Y.N=N →
  (∀b,X0 b→b<w0.heap.size∧b∉S0)→l5 G w0 S0 X0→w0.heap.size≤Y.l→Own W (live X0 Sc) Sc→cG W (live X0 Sc) CZ cv→Fr w0 S0 W (ax Sc) →
  rK W (live X0 Sc) Y.os→Y.J [] Sc→Oh P X0 w0 S0 Y →
  Calls P gf (#[.func (.yield Y.l) #[] #[]]++cv.toArray) W fun e W'=>∃v nl,e = .returned v∧Own W' (live X0 nl) nl∧Fr w0 S0 W' (ax nl) ∧
   ((∃xs,Sa xs∧Y.J xs nl∧rK W' (live X0 nl) Y.os)∨(∃pre,Sp pre∧Y.Jx pre nl∧rK W' (live X0 nl) Y.od))

variable {P:Program} {C:dK} {G:List (Nat×List Value)} {Q:Exit→St→Prop} {x:St} {ops:Array Oper} {o:Oper} {fuel i:Nat} {ld:Array Bool} {α:Type}

def VU(P:Program)(fn:Func)(Y:yB α)(Sa Sp:List α→Prop)(e:Exit)(y:St):Prop :=
 (e = .normal∨e = .ret)∧(∃r,tM P fn y r)∧0<y.n∧∃nl,nl.Sublist y.S∧((∃xs,Sa xs∧Y.J xs nl∧look 0 y.env = .kz Y.l Y.os)∨(∃pre,Sp pre∧Y.Jx pre nl∧look 0 y.env = .kz Y.l Y.od))
theorem NP.aih{fn:Func}{Y:yB α}{E I:List α→Prop}:NP (VU P fn Y E I):=fun O y t hq=>by rcases hq.1 with h|h<;>cases h

theorem VI.body {gf:FuncId} {fn:Func} {c:Code} {n:Nat} {I:List D} {enc:α→List D} {Sa Sp:List α→Prop} {N:Nat} (hf:P.funcs[gf]?=some fn) (hb:fn.body=some c) (hn:fn.ntmps=n) (hl:1+I.length≤n)
  (h:∀(Y:yB α) X0 w0 S0 Sc,Y.enc=enc→Y.N=N→w0.heap.size≤Y.l→Oh P X0 w0 S0 Y→Y.J [] Sc→CD P ⟨X0,w0,S0,G,[],fun _ _=>False⟩ c ⟨n,sU 0 (.kz Y.l Y.os::I),Sc⟩ (VU P fn Y Sa Sp)):VI P G gf I enc Sa Sp N:=fun Y X0 w0 W S0 Sc cv he hN hex Z aa jz G6 jE ajP hJ hY=>by
 let C:dK:=⟨X0,w0,S0,G,[],fun _ _=>False⟩
 have fw:cG W (live X0 Sc) (.kz Y.l Y.os::I) (.func (.yield Y.l) #[] #[]::cv):=.cons (.kz _ _ ajP) G6;have ajQ:#[Value.func (.yield Y.l) #[] #[]]++cv.toArray=(Value.func (.yield Y.l) #[] #[]::cv).toArray:=(by simp)
 rw[ajQ];generalize YA:Value.func (.yield Y.l) #[] #[]::cv=vs at fw;generalize jV:D.kz Y.l Y.os::I=args at fw;have ru:args.length≤n:=(by rw[←jV];simp;omega)
 have r8:vs.length=args.length:=fw.1;have O:bK C ⟨n,sU 0 args,Sc⟩ {tmps:=vs.toArray++Array.replicate (fn.ntmps-vs.toArray.size) undef,defers:=[]} W:=by
  refine⟨rfl,by simp[hn];omega,fun t ht=>?_,jz,jE,hex,Z⟩;simp only[EZ,Nat.zero_le,if_true,Nat.sub_zero];by_cases aa:t<args.length
  ·have e1:args.getD t .bX=args[t]:=(by simp[getD,aa])
   have e2:(vs.toArray++Array.replicate (fn.ntmps-vs.toArray.size) undef).getD t undef=vs[t]'w4:=by
    rw[Array.getD_eq_getD_getElem?,Array.getElem?_append_left iB];simp[show t<vs.length by omega]
   rw[e1,e2];exact fw.2 t aa w4
  have e1:args.getD t .bX = .bX:=(by simp[getD,getElem?_eq_none (show args.length≤t by omega)])
  rw[e1];exact .bX _
 rw[←jV] at O;refine calls_of_wp hf hb (wp_mono (h Y X0 w0 S0 Sc he hN aa hY hJ _ _ O) fun e a w' hq=>?_);rcases hq with ⟨y,h1,h2,⟨r,h3⟩,h0,E,h4,h5⟩|⟨_,hq⟩
 case inr=>exact hq.elim
 obtain⟨v,q1,q2⟩:=h3 C a w' h1;have U:(ax E).Sublist (ax y.S):=Sublist.map _ h4;have raw:∀os,look 0 y.env = .kz Y.l os→rK w' (live X0 E) os:=fun os ho=>by
  have hv:=h1.env 0 h0;rw[ho] at hv;generalize a.tmps.getD 0 undef=u at hv;cases hv with
  | kz _ _ hz=>exact fun z yC=>by obtain⟨z1,z2,z3⟩:=hz z yC;exact⟨z1,fun hl=>z2 (hl.imp id fun q=>U.subset q),z3⟩
 have key:a.defers=[]∧∃v,(results fn a.tmps).run P w' = .ok v w'∧∃v' E,Ending.returned v = .returned v'∧Own w' (live X0 E) E∧Fr w0 S0 w' (ax E)∧((∃xs,Sa xs∧Y.J xs E∧rK w' (live X0 E) Y.os)∨(∃pre,Sp pre∧Y.Jx pre E∧rK w' (live X0 E) Y.od)) :=
  ⟨h1.defers,v,q2,v,E,rfl,h1.own.sub h4,⟨h1.fr.os,h1.fr.tape,h1.fr.output,h1.fr.size,fun b jW hn=>⟨(h1.fr.block b jW hn).1,fun q=>(h1.fr.block b jW hn).2 (U.subset q)⟩⟩,
   h5.imp (fun ⟨xs,s1,s2,s3⟩=>⟨xs,s1,s2,raw _ s3⟩) (fun ⟨pre,s1,s2,s3⟩=>⟨pre,s1,s2,raw _ s3⟩)⟩
 rcases h2 with rfl|rfl<;>exact key

def AI(P:Program)(C:dK)(ops:Array Oper)(fuel:Nat)(ld:Array Bool)(x:St)(Q:Exit→St→Prop):Prop :=
 ∀a w,bK C x a w→wpAnyIn Fence.wide 0 P .any ops (LQ C Q) fuel ld a w
def ie(P:Program)(C:dK)(ops:Array Oper)(fuel:Nat)(ld:Array Bool)(x:St)(Q:Exit→St→Prop)(i:Nat):Prop :=
 ∀a w,bK C x a w→wpOpIn Fence.wide 0 P ops (LQ C Q) i (wpAnyIn Fence.wide 0 P .any ops (LQ C Q) fuel (ld.setIfInBounds i true)) a w

theorem bK.drew{w:World}(hs:bK C x a w):bK C x a {w with drawn:=w.drawn+1} :=
 ⟨hs.defers,hs.size,fun t ht=>(hs.env t ht).mono fun b _ hn=>⟨rfl,hn⟩,⟨fun B E=>by
  obtain⟨r0,cur,r1,r2,I,O⟩:=hs.own.at_ B E;exact⟨r0,cur,r1,r2,I,fun i hi=>by
   obtain⟨u,hu,hq⟩:=O i hi;exact⟨u,hu,hq.mono fun b _ hn=>⟨rfl,hn⟩⟩⟩,hs.own.apart⟩,⟨hs.fr.os,hs.fr.tape,hs.fr.output,hs.fr.size,hs.fr.block⟩,hs.ex,hs.eV⟩

theorem CD.afa{id:Nat}{l:List Oper}(hm:P.follows .mixedOrders=true)(h:AI P C l.toArray l.toArray.size (Array.replicate l.toArray.size false) x Q):CD P C (.region id l.toArray true) x Q:=fun a w hs =>
 wpIn_wide.1 (wpIn_region_any (F:=Fence.wide) (n:=0) hm (h a _ hs.drew))

theorem AI.all{E:List Nat}(hr:Region.ready .any ops ld=E)(hne:E≠[])(h:∀i∈E,ie P C ops fuel ld x Q i):AI P C ops (fuel+1) ld x Q:=fun a w hs=>wpAnyIn_all hr hne fun i hi=>h i hi a w hs
theorem AI.one(hr:Region.ready .any ops ld=[i])(h:ie P C ops fuel ld x Q i):AI P C ops (fuel+1) ld x Q:=AI.all hr bj fun j hj=>by rw[mem_singleton] at hj;subst hj;exact h
theorem AI.two{j:Nat}(hr:Region.ready .any ops ld=[i,j])(h:ie P C ops fuel ld x Q i)(h':ie P C ops fuel ld x Q j):AI P C ops (fuel+1) ld x Q:=AI.all hr bj fun k hk=>by
 rcases mem_cons.1 hk with rfl|hk
 ·exact h
 rw[mem_singleton] at hk;subst hk;exact h'
theorem AI.done(hr:Region.ready .any ops ld=[])(h:Q .normal x):AI P C ops fuel ld x Q:=fun a w hs=>wpAnyIn_done hr (.inl ⟨x,hs,h⟩) _
theorem AI.wk{y:St}(h:Wk x y)(k:AI P C ops fuel ld y Q):AI P C ops fuel ld x Q:=fun a w hs=>k a w (h C a w hs)
theorem AI.perm{S':List ah}(hp:x.S.Perm S')(k:AI P C ops fuel ld ⟨x.n,x.env,S'⟩ Q):AI P C ops fuel ld x Q:=AI.wk (Wk.perm hp) k
theorem AI.take {d:D} (hi:ops[i]?=some o) (hs:Region.noSelect ops=true) (hf:Region.free .any ops ld i=true) (hr:(Region.ready .any ops ld).contains i=true) (hp:NP Q)
  (hw:cj ops x o true) (ry:∀w a,o.about P w a=none) (hd:o.dst=some t) (h:bW P C.G x o .none d) (K:AI P C ops fuel (ld.setIfInBounds i true) (x.put t d) Q):AI P C ops (fuel+1) ld x Q:=fun a w E=>by
 obtain⟨v,h1,h2⟩:=h C a w rfl E;refine wpAnyIn_take (oi:=o) (v:=v) rfl hi hs hf hr (zZ hp _ v) ⟨.inl ⟨hw C a w E,fun w'=>h2 w' trivial⟩,fun w'=>ry w' _⟩ ?_;rw[hd];exact K _ _ (E.put h1)

theorem T0{K:Act→World→Prop}{Q:Exit→Act→World→Prop}{w:World}(ro:Option Nat)(hd:∀c,o.op≠.defer c)(h:o.wp P a w K Q):o.wpIn {Fence.wide with round:=ro} 0 P a w K Q:=by
 refine⟨fun _ _=>trivial,?_⟩;rw[Oper.semAt_eq _ _ _ hd];unfold Oper.wp at h;generalize (execOp a.eval o).run P w=r at h;have fS:∀m E,Steps P m E→StepsIn (Machine.fenced P {Fence.wide with round:=ro}) P m E:=fun m E hs=>stepsIn_wide.2 hs;match r,h with
 | .ok (.value v) w',h=>exact h
 | .ok .skip w',h=>exact h
 | .ok (.defer d) w',h=>exact h
 | .ok (.enter f args) w',h=>exact⟨fun hc=>(by cases hc),((callsIn_wide (n:=0)).2 h:CallsIn Fence.wide 0 P f args w' _)⟩
 | .ok (.row row args) w',h=>exact⟨fun hc=>(by cases hc),fun c cs _=>let ⟨v,w'',r,s⟩:=h c cs;⟨v,w'',r,fS _ _ s⟩⟩
 | .halt (.panic v) w',h=>exact h

theorem ie.gk{W:List Nat}{post:St→Prop}(hi:ops[i]?=some o)(hw:cj ops x o true)(yD:∀c,o.op≠.defer c)(h:ga P C.G x o W post)(k:∀y,post y→AI P C ops fuel (ld.setIfInBounds i true) y Q):ie P C ops fuel ld x Q i:=fun a w E=>by
 unfold wpOpIn;simp only[hi,hw C a w E,if_true];exact T0 none yD (h C a w _ _ rfl E fun y a' w' hp I _ _=>k y hp a' w' I)
theorem ie.still{kd:Rd}{d:D}(hi:ops[i]?=some o)(hw:cj ops x o true)(yD:∀c,o.op≠.defer c)(hd:o.dst=some t)(h:bW P C.G x o kd d)(k:AI P C ops fuel (ld.setIfInBounds i true) (x.put t d) Q):ie P C ops fuel ld x Q i :=
 ie.gk hi hw yD (h.gk hd) fun y hy=>by subst hy;exact k
theorem ie.iC {f:Nat} {fo:Operand} {de:Array Operand} {ts:Array TypeId} {args:List D} {r:D} (hi:ops[i]?=some o) (hw:cj ops x o true) (ho:o.op = .call {callee:=.value fo,args:=de,argTypes:=ts}) (hd:o.dst=some t)
  (hf:fo = .func f) (fG:∀args w,(callFunc f args).run P w = .ok (.enter f args) w) (hc:VP P C.G f args r) (ha:nc x de.toList args)
  (K:AI P C ops fuel (ld.setIfInBounds i true) (x.put t r) Q):ie P C ops fuel ld x Q i :=
 ie.gk hi hw (fun c hc=>by rw[ho] at hc;cases hc) (BU ho hd hf fG ha.eq (fg _) hc) fun y ⟨E,S',⟨h1,h2⟩,hy⟩=>by subst h1 h2 hy;exact K

theorem bK.back{w w':World}(h:bK C x a w){Sf R S':List ah}(hp:x.S.Perm (Sf++R))(h3:Own w' (live (fun b=>C.X b∨b∈ax R) S') S')(h5:Fr w (ax Sf) w' (ax S')):bK C ⟨x.n,x.env,S'++R⟩ a w':=by
 have hb:(ax x.S).Perm (ax Sf++ax R):=(by have:=hp.map ah.b;simpa[ax] using this)
 have hL:=ze (X:=C.X) hp;have hnd:(ax Sf++ax R).Nodup:=hb.nodup_iff.1 h.own.apart;obtain⟨n1,n2,n3⟩:=nodup_append.1 hnd;have O:∀b,b∈ax R→b<w.heap.size:=fun b yx=>by
  obtain⟨B,I,rfl⟩:=mem_map.1 yx;exact(h.own.at_ B (hp.symm.subset (mem_append_right _ I))).1
 have U:live C.X (S'++R)=live (fun b=>C.X b∨b∈ax R) S':=ze (Perm.refl _);have H:∀b,b<w.heap.size→¬live C.X x.S b→w'.heap[b]?=w.heap[b]?∧¬live C.X (S'++R) b:=fun b aa hn=>by
  rw[hL] at hn;have E:b∉ax Sf:=fun hm=>hn (.inr hm);obtain⟨q1,q2⟩:=h5.block b aa E;refine⟨q1,fun hl=>?_⟩;rw[U] at hl;rcases hl with hl|hl
  ·exact hn (.inl hl)
  exact q2 hl
 refine⟨h.defers,h.size,fun t ht=>(h.env t ht).mono H,⟨fun B I=>?_,?_⟩,?_,h.ex,h.eV⟩
 ·rcases mem_append.1 I with I|I
  ·have:=h3.at_ B I;rw[←U] at this;exact this
  obtain⟨r0,cur,r1,r2,r3,r4⟩:=h.own.at_ B (hp.symm.subset (mem_append_right _ I));have DJ:B.b∈ax R:=mem_map.2 ⟨B,I,rfl⟩;have E:B.b∉ax Sf:=fun hm=>n3 B.b hm B.b DJ rfl;have hh:=(h5.block B.b r0 E).1;refine⟨rC r0 hh,cur,hh.trans r1,r2,r3,fun i hi=>?_⟩;obtain⟨u,hu,hq⟩:=r4 i hi;exact⟨u,hu,hq.mono H⟩
 ·show(ax (S'++R)).Nodup;have:ax (S'++R)=ax S'++ax R:=(by simp[ax])
  rw[this];refine nodup_append.2 ⟨h3.apart,n2,fun b jd c aY he=>?_⟩;subst he;have E:b∉ax Sf:=fun hm=>n3 b hm b aY rfl;exact(h5.block b (O b aY) E).2 jd
 refine⟨h5.os.trans h.fr.os,h5.tape.trans h.fr.tape,h5.output.trans h.fr.output,Nat.le_trans h.fr.size h5.size,fun b Z hn=>?_⟩;obtain⟨q1,q2⟩:=h.fr.block b Z hn;have gI:b∉ax Sf:=fun hm=>q2 (hb.symm.subset (mem_append_left _ hm));have gJ:b∉ax R:=fun hm=>q2 (hb.symm.subset (mem_append_right _ hm));obtain⟨q3,q4⟩:=h5.block b (Nat.lt_of_lt_of_le Z h.fr.size) gI;refine⟨q3.trans q1,fun hm=>?_⟩;have:ax (S'++R)=ax S'++ax R:=(by simp[ax])
 rw[this] at hm;rcases mem_append.1 hm with hm|hm
 ·exact q4 hm
 exact gJ hm

theorem ie.yield {t:Nat} {fo:Operand} {de:Array Operand} {ts:Array TypeId} {Y:yB α} {pre:List α} {y:α} {Sc R:List ah} (hi:ops[i]?=some o) (hw:cj ops x o true) (ho:o.op = .call {callee:=.value fo,args:=de,argTypes:=ts}) (hd:o.dst=some t)
  (hf:aF x fo = .kz Y.l Y.os) (hn:0<x.n) (hz:look 0 x.env = .kz Y.l Y.os) (ha:de.toList.map (aF x)=Y.enc y) (hp:x.S.Perm (Sc++R)) (hJ:Y.J pre Sc) (hN:pre.length<Y.N) (hY:Oh P C.X C.w0 C.S0 Y) (hl:C.w0.heap.size≤Y.l) (h0t:t≠0)
  (kT:∀E,Y.J (pre++[y]) E→AI P C ops fuel (ld.setIfInBounds i true) ⟨x.n,(t,.v (.bool true))::x.env,E++R⟩ Q)
  (kF:∀E,Y.Jx (pre++[y]) E→AI P C ops fuel (ld.setIfInBounds i true) ⟨x.n,[(t,.v (.bool false)),(0,.kz Y.l Y.od)],E⟩ Q):ie P C ops fuel ld x Q i:=fun a w h=>by
 have hb:(ax x.S).Perm (ax Sc++ax R):=(by have:=hp.map ah.b;simpa[ax] using this)
 have hL:=ze (X:=C.X) hp;have hnd:(ax Sc++ax R).Nodup:=hb.nodup_iff.1 h.own.apart;obtain⟨n1,n2,n3⟩:=nodup_append.1 hnd;have ajR:∀b,b∈ax R→b<w.heap.size:=fun b yx=>by
  obtain⟨B,hB,rfl⟩:=mem_map.1 yx;exact(h.own.at_ B (hp.symm.subset (mem_append_right _ hB))).1
 have yv:∀(o':Operand) os,aF x o' = .kz Y.l os→a.eval o' = .func (.yield Y.l) #[] #[]∧rK w (live C.X x.S) os:=fun o' os he=>by
  have hv:=h.eval o';rw[he] at hv;generalize a.eval o'=u at hv;cases hv with
  | kz _ _ hz=>exact⟨rfl,hz⟩
 obtain⟨e1,O⟩:=yv fo _ hf;have U:cG w (live C.X x.S) (Y.enc y) (de.toList.map a.eval):=ha ▸ cG.Mu h de.toList;have e0:a.tmps.getD 0 undef = .func (.yield Y.l) #[] #[]:=by
  have hv:=h.env 0 hn;rw[hz] at hv;generalize a.tmps.getD 0 undef=u at hv;cases hv with
  | kz _ _ _=>rfl
 rw[hL] at O U;obtain⟨fn,tmps,assign,body,hy,hro⟩:=hY pre y Sc (fun b=>C.X b∨b∈ax R) w _ hJ hN (fun b hx=>by
   rcases hx with hx|hx
   ·obtain⟨q1,q2⟩:=h.ex b hx;exact⟨Nat.lt_of_lt_of_le q1 h.fr.size,fun hm=>(h.fr.block b q1 q2).2 (hb.symm.subset (mem_append_left _ hm))⟩
   ·exact⟨ajR b hx,fun hm=>n3 b hm b hx rfl⟩) (fun b hx=>.inl hx) (fun b hx=>by
   rcases hx with hx|hx
   ·exact .inl hx
   rcases Nat.lt_or_ge b C.w0.heap.size with aa|N6
   ·by_cases lR:b∈C.S0
    ·exact .inr (.inr lR)
    exact absurd (hb.symm.subset (mem_append_right _ hx)) (h.fr.block b aa lR).2
   exact .inr (.inl N6))
  ⟨fun B hB=>by rw[←hL];exact h.own.at_ B (hp.symm.subset (mem_append_left _ hB)),n1⟩ U
  ⟨h.fr.os,h.fr.tape,h.fr.output,h.fr.size,fun b jW wz=>⟨(h.fr.block b jW wz).1,fun hm=>(h.fr.block b jW wz).2 (hb.symm.subset (mem_append_left _ hm))⟩⟩ O
 have nY:(execOp a.eval o).run P w = .ok (.round Y.l fn tmps assign body) w:=by
  unfold execOp;have e:de.map a.eval=(de.toList.map a.eval).toArray:=by
   rw[←Array.toList_map,Array.toArray_toList]
  simp only[ho,resolve,e1,Deferred.ofValue,Sem.run_bind,Sem.run_pure,Result.andThen_ok,invoke,e,Array.empty_append];exact hy
 unfold wpOpIn;simp only[hi,hw C a w h,if_true];refine⟨fun _ _=>trivial,?_⟩;show o.uponIn Fence.wide 0 P a _ _ ((o.semAt none a.eval).run P w);rw[Oper.semAt_none,nY,Oper.uponIn_round];refine⟨fun hc=>(by cases hc),hro.mono fun e w' ⟨b,E,he,h3,h5,hT,hF⟩=>?_⟩;subst he;show wpAnyIn Fence.wide 0 P .any ops (LQ C Q) fuel (ld.setIfInBounds i true) (a.put o.dst (.bool b)) w';rw[hd];have oN:∀q,q<C.w0.heap.size→q≠Y.l:=fun q hq e=>by omega
 cases b with
 | true =>
  obtain⟨j1,j2⟩:=hT rfl;have ajS:Fr w (ax Sc) w' (ax E):=⟨h5.os,h5.tape,h5.output,h5.size,fun q hq Z=>by
   obtain⟨p1,p2⟩:=h5.block q hq Z;refine⟨?_,p2⟩;by_cases e:q=Y.l
   ·rw[e];exact j2
   exact p1 e⟩
  exact kT E j1 _ _ ((h.back hp h3 ajS).put (.v _))
 | false =>
  obtain⟨j1,j2⟩:=hF rfl;have I:∀q,live C.X E q→live (fun b=>C.X b∨b∈ax R) E q:=fun q hq=>hq.imp .inl id;have aii:Own w' (live C.X E) E:=⟨fun B hB=>by
   obtain⟨r0,cur,r1,r2,r3,r4⟩:=h3.at_ B hB;exact⟨r0,cur,r1,r2,r3,fun q hq=>by
    obtain⟨u,hu,hh⟩:=r4 q hq;exact⟨u,hu,hh.mono fun b _ hn=>⟨rfl,fun hl=>hn (I b hl)⟩⟩⟩,h3.apart⟩
  refine kF E j1 _ _ ⟨h.defers,by simp[Act.put,h.size],fun q hq=>?_,aii,⟨h5.os.trans h.fr.os,h5.tape.trans h.fr.tape,h5.output.trans h.fr.output,Nat.le_trans h.fr.size h5.size,fun q hq Z=>?_⟩,h.ex,h.eV⟩
  ·have iK:=h.size;simp only[gh,Act.put];by_cases e:t=q
   ·subst e;rw[if_pos rfl];have:(a.tmps.setIfInBounds t (.bool false)).getD t undef = .bool false:=by
     have hq:t<x.n:=hq;simp[Array.getElem?_setIfInBounds,iK,hq]
    rw[this];exact .v _
   rw[if_neg e];by_cases e2:0=q
   ·subst e2;rw[if_pos rfl];have:(a.tmps.setIfInBounds t (.bool false)).getD 0 undef=a.tmps.getD 0 undef:=by
     simp[Array.getElem?_setIfInBounds,h0t]
    rw[this,e0];exact .kz _ _ fun z yC=>by obtain⟨z1,z2,z3⟩:=j2 z yC;exact⟨z1,fun hl=>z2 (I _ hl),z3⟩
   rw[if_neg e2];exact .bX _
  obtain⟨q1,q2⟩:=h.fr.block q hq Z;have gI:q∉ax Sc:=fun hm=>q2 (hb.symm.subset (mem_append_left _ hm));obtain⟨p1,p2⟩:=h5.block q (Nat.lt_of_lt_of_le hq h.fr.size) gI;exact⟨(p1 (oN q hq)).trans q1,p2⟩

end Go.Proofs.YtkgmonfgofobaaaGreatDoor.V

namespace Go.Proofs.YtkgmonfgofobaaaGreatDoor.V
open List
open Go.RowKit
variable {P:Program} {C:dK} {G:List (Nat×List Value)} {Q:Exit→St→Prop} {x:St} {ops:Array Oper} {l:List Oper} {o:Oper}
theorem cG.flatten{w:World}{L:Nat→Prop}{us vs:List Value}(h:cG w L (us.map .v) vs):vs=us:=by
 refine ext_getElem (by simpa using h.1) fun i h1 h2=>?_;have:=h.2 i (by simpa using h2) h1;simp only[getElem_map] at this;exact this.k8
theorem VP.T1{f:FuncId}{vs:List Value}{v:Value}(h:∀w:World,(∀g∈G,∀(i:Nat) (u:Value),g.2[i]?=some u→ox w g.1 i u)→Calls P f vs.toArray w fun e w'=>e = .returned v∧Below w.heap.size w w'):VP P G f (vs.map .v) (.v v):=fun X w us hp=>by
 have E:us=vs:=hp.args.flatten;subst E;refine(h w fun g hg i u hi=>(hp.eV g hg).2 i u hi).mono fun e w' ⟨h1,h2⟩=>?_;refine⟨v,.v v,[],h1,⟨rfl,rfl⟩,⟨fun B I=>by simp at I,by simp[ax]⟩,.v _,⟨h2.os,h2.tape,h2.output,h2.size,fun b hb _=>⟨h2.block b hb,by simp[ax]⟩⟩⟩
theorem afb{t:TypeId}{k:IntKind}{a b r:Int}(h:k.wrap ((BitVec.ofInt k.bits a ^^^ BitVec.ofInt k.bits b).toNat:Int)=r):kX P .xor t (.int k a) (.int k b) (.int k r):=fun y z w=>by subst h;simp only[eqGuard,binOp,Op.intBits,Sem.run_bind];simp
theorem zC{t:TypeId}{k k':IntKind}{a b r:Int}(hb:0≤b)(h:a.fdiv (2 ^ min b.toNat k.bits)=r):kX P .shr t (.int k a) (.int k' b) (.int k r):=fun y z w=>by
 have:¬b<0:=(by omega)
 simp[eqGuard,binOp,Op.shift,this,h]
theorem afc(a:Nat)(h:a<2 ^ 64):a ^^^ 2 ^ 63=if a<2 ^ 63 then a+2 ^ 63 else a-2 ^ 63:=by
 have key:∀b,b<2 ^ 63→b ^^^ 2 ^ 63=2 ^ 63+b:=fun b hb=>by
  refine Nat.eq_of_testBit_eq fun i=>?_;rw[Nat.testBit_xor,Nat.testBit_two_pow];rcases Nat.lt_trichotomy i 63 with hi|hi|hi
  ·rw[Nat.testBit_two_pow_add_gt hi];have:¬63=i:=(by omega)
   simp[this]
  ·subst hi;rw[Nat.testBit_two_pow_add_eq];simp
  have h1:b.testBit i=false:=Nat.testBit_lt_two_pow (Nat.lt_of_lt_of_le hb (Nat.pow_le_pow_right w7 w4));have h2:(2 ^ 63+b).testBit i=false:=Nat.testBit_lt_two_pow (Nat.lt_of_lt_of_le (by omega:2 ^ 63+b<2 ^ 64) (Nat.pow_le_pow_right w7 w4));have:¬63=i:=(by omega)
  rw[h1,h2];simp[this]
 split
 ·rename_i h1;rw[key a h1];omega
 rename_i h1;have h2:=key (a-2 ^ 63) w4;have h3:a=2 ^ 63+(a-2 ^ 63):=(by omega)
 rw[←h2] at h3;generalize a-2 ^ 63=b at h3 ⊢;rw[h3,Nat.xor_assoc,Nat.xor_self,Nat.xor_zero]
theorem RY(n:Int):IntKind.u64.wrap n=n % 18446744073709551616:=rfl
theorem afd{n:Int}(h1:-9223372036854775808≤n)(h2:n≤9223372036854775807):IntKind.u64.wrap ((BitVec.ofInt IntKind.u64.bits (IntKind.u64.wrap n) ^^^ BitVec.ofInt IntKind.u64.bits 9223372036854775808).toNat:Int)=n+9223372036854775808:=by
 rw[RY,RY,BitVec.toNat_xor];have e1:(BitVec.ofInt IntKind.u64.bits (n % 18446744073709551616)).toNat=(n % 18446744073709551616).toNat:=by
  rw[BitVec.toNat_ofInt];show((n % 18446744073709551616) % ((18446744073709551616:Nat):Int)).toNat=_;omega
 have e2:(BitVec.ofInt IntKind.u64.bits 9223372036854775808).toNat=2 ^ 63:=(by decide)
 rw[e1,e2,afc _ w4];split<;>omega

end Go.Proofs.YtkgmonfgofobaaaGreatDoor.V
namespace Go.Proofs.YtkgmonfgofobaaaGreatDoor.V
open List
open Go.RowKit
variable {P:Program} {C:dK} {G:List (Nat×List Value)} {Q:Exit→St→Prop} {x y:St} {ops:Array Oper} {o:Oper} {ro:Nat} {α:Type}
variable {c:Code} {S:List ah} {post:D→List ah→Prop}
def CI(P:Program)(C:dK)(ro:Nat)(c:Code)(x:St)(Q:Exit→St→Prop):Prop:=∀a w,bK C x a w→c.wpIn (Fence.wide.inRound ro) 0 P (LQ C Q) a w
def aij(P:Program)(C:dK)(ro:Nat)(c:Code)(Q:Exit→St→Prop):Exit→St→Prop
 | .normal,y=>CI P C ro c y Q
 | e,y=>Q e y
def NO(Q:Exit→St→Prop):Prop:=∀y,¬Q .outgrown y
theorem CI.skip(h:Q .normal x):CI P C ro .skip x Q:=fun a w hs=>wpIn_skip (.inl ⟨x,hs,h⟩)
theorem CI.exit{id:Nat}(h:Q (.exit id) x):CI P C ro (.exit id) x Q:=fun a w hs=>wpIn_exit (.inl ⟨x,hs,h⟩)
theorem CI.seq{c d:Code}(h:CI P C ro c x (aij P C ro d Q)):CI P C ro (.seq c d) x Q:=fun a w hs =>
 wpIn_seq (wpIn_mono (h a w hs) fun e a' w' h=>by
  rcases h with ⟨y,h1,h2⟩|⟨rfl,h⟩
  ·cases e<;>first|exact h2 a' w' h1|exact .inl ⟨y,h1,h2⟩
  exact .inr ⟨rfl,h⟩)
theorem CI.cond{c:Operand}{d e:Code}{b:Bool}(hc:aF x c = .v (.bool b))(ht:b=true→CI P C ro d x Q)(hf:b=false→CI P C ro e x Q):CI P C ro (.cond c d e) x Q:=fun a w hs =>
 wpIn_cond_split (hs.flat hc) (fun h=>ht h a w hs) (fun h=>hf h a w hs)
theorem CI.LW{c:Operand}{d e:Code}{b:Bool}(hc:aF x c = .v (.bool b))(hb:b=false)(hf:CI P C ro e x Q):CI P C ro (.cond c d e) x Q:=fun a w hs =>
 wpIn_cond_false (by rw[hs.flat hc,hb]) (hf a w hs)
theorem CI.block{id:Nat}{c:Code}(h:CI P C ro c x (B7 id Q)):CI P C ro (.block id c) x Q:=fun a w hs =>
 wpIn_block (wpIn_mono (h a w hs) fun e a' w' h=>by
  rcases h with ⟨y,h1,h2⟩|⟨rfl,h⟩
  case inr=>exact .inr ⟨rfl,h⟩
  cases e with
  | exit tK =>
   simp only[B7] at h2;simp only[Exit.inBlock];by_cases he:tK=id
   ·subst he;rw[if_pos rfl];simp at h2;exact .inl ⟨y,h1,h2⟩
   rw[if_neg he];have:Nat.beq tK id=false:=by
    cases h:Nat.beq tK id with
    | false=>rfl
    | true=>exact absurd (Nat.eq_of_beq_eq_true h) he
   rw[this] at h2;exact .inl ⟨y,h1,h2⟩
  | _=>exact .inl ⟨y,h1,h2⟩)
def MA(l:List Oper):Bool:=l.all fun o=>match o.op with|.defer _=>false|_=>true
theorem Kx{Q:Exit→Act→World→Prop}(lA:¬LetsOut Q):∀(l:List Oper),MA l=true→∀a w,wpList P ops Q l a w→wpListIn (Fence.wide.inRound ro) 0 P ops Q l a w
 | [],_,a,w,h=>h
 | o::l,hd,a,w,h=>by
  unfold MA at hd;rw[all_cons,Bool.and_eq_true] at hd;obtain⟨hd1,hd2⟩:=hd;unfold wpList at h;unfold wpListIn;split at h
  ·rename_i hw;rw[if_pos hw];rcases h with h|⟨_,h⟩
   ·exact Oper.wpIn_mono (fun a w h=>Kx lA l hd2 a w h) (T0 (some ro) (fun c hc=>by rw[hc] at hd1;cases hd1) h)
   exact absurd h lA
  rename_i hw;rw[if_neg hw];exact⟨fun _ _=>trivial,Kx lA l hd2 _ _ h⟩
theorem CI.region{id:Nat}{l:List Oper}(lA:NO Q)(hd:MA l=true)(h:OD P C l.toArray l x Q):CI P C ro (.region id l.toArray false) x Q:=fun a w hs =>
 wpIn_region_lit (Kx (fun ⟨a,w,hq⟩=>by
  rcases hq with ⟨y,_,hq⟩|⟨hq,_⟩
  ·exact lA y hq
  cases hq) l hd a w (h a w hs))
def MB:List Tmp→List D→List (Nat×D)→List (Nat×D)
 | t::ts,d::ds,env=>MB ts ds ((t,d)::env)
 | _,_,env=>env
theorem bK.params{n:Nat}{S:List ah}:∀{ts:List Tmp} {ds:List D} {vs:List Value} {env:List (Nat×D)} {tm:Array Value} {w:World},bK C ⟨n,env,S⟩ {tmps:=tm,defers:=[]} w→cG w (live C.X S) ds vs→ds.length=ts.length→bK C ⟨n,MB ts ds env,S⟩ {tmps:=(ts.zip vs).foldl (fun tm (t,v)=>tm.setIfInBounds t v) tm,defers:=[]} w
 | [],ds,vs,env,tm,w,h,_,hl=>by
  have:ds=[]:=length_eq_zero_iff.1 hl;subst this;exact h
 | t::ts,[],_,_,_,_,_,_,hl=>by cases hl
 | t::ts,d::ds,[],_,_,_,_,hr,_=>by simp[cG] at hr
 | t::ts,d::ds,v::vs,env,tm,w,h,hr,hl=>by
  obtain⟨h0,h1⟩:=hr.tail;exact bK.params (env:=(t,d)::env) (tm:=tm.setIfInBounds t v) (h.put h0) h1 uK
def agW(J Jx:List α→List ah→Prop)(jc:Code)(xs:List α):Exit→St→Prop
 | .normal,z=>∃S',S'.Sublist z.S∧J xs S'
 | .ret,z=>jc = .ret∧∃S',S'.Sublist z.S∧Jx xs S'
 | .exit i,z=>jc = .exit i∧∃S',S'.Sublist z.S∧Jx xs S'
 | _,_=>False
def Ae(P:Program)(fn:Func)(post:D→List ah→Prop)(y:St):Prop :=
 (y.env.all fun p=>iV p.2)=true∧(∀B∈y.S,fZ B.cs=true)∧∃r S',S'.Sublist y.S∧tM P fn y r∧iV r=true∧post r S'
def aik(P:Program)(fn:Func)(post:D→List ah→Prop)(e:Exit)(y:St):Prop:=e = .ret∧Ae P fn post y
def mark(D:Nat):Deferred:={target:=.collected D,args:=#[]}
def xK(P:Program)(fn:Func)(post:D→List ah→Prop)(X:Nat→Prop)(w0:World)(S0:List Nat):Act→World→Prop:=fun a w =>
 ∃(Dd:Nat) (C':dK) (y:St),C'.X=X∧a.defers=[mark Dd]∧Fr w0 S0 C'.w0 C'.S0∧w0.heap.size≤Dd∧Dd<C'.w0.heap.size∧Dd∉C'.S0∧C'.w0.heap[Dd]?=some (.deferred (some []))∧bK C' y a w∧Ae P fn post y
theorem bK.Vi {a:Act} {w:World} (h:bK C y a w) {l:Nat} {o1 o2:Obj} (hl:w.heap[l]?=some o1) (ho:o1.isCells=false) (O:l∉ax y.S) (hlX:¬C.X l) (hn:(y.env.all fun p=>iV p.2)=true) (hS:∀B∈y.S,fZ B.cs=true)
  (I:l5 G (w.putObj l o2) (ax y.S) C.X) (DH:Act→World→Prop):bK ⟨C.X,w.putObj l o2,ax y.S,G,a.defers,DH⟩ y a (w.putObj l o2):=by
 have aa:l<w.heap.size:=(Array.getElem?_eq_some_iff.1 hl).1;have E:(w.putObj l o2).heap.size=w.heap.size:=World.putObj_size;have H:∀b,b≠l→(w.putObj l o2).heap[b]?=w.heap[b]?:=fun b hb=>World.putObj_heap_other hb;refine⟨rfl,h.size,fun t ht=>(h.env t ht).Ad (Z:=fun b=>b=l) (adi hn t) (fun b _ hb hz=>⟨H b hz,hb⟩) (fun b i hz=>by subst hz;exact FB hl ho i) (by rw[E];exact Nat.le_refl _) (fun b _ hb _=>hb),
  h.own.Ad (Z:=fun b=>b=l) (fun B U=>.inr (mem_map.2 ⟨B,U,rfl⟩)) hS (fun b _ hz=>H b hz) (fun b i hz=>by subst hz;exact FB hl ho i) (by rw[E];exact Nat.le_refl _) (fun B U e=>O (e ▸ mem_map.2 ⟨B,U,rfl⟩)),
  Fr.refl _ _,fun b hb=>?_,I⟩
 show b<(w.putObj l o2).heap.size∧b∉ax y.S;rw[E];exact⟨Nat.lt_of_lt_of_le (h.ex b hb).1 h.fr.size,(h.fr.block b (h.ex b hb).1 (h.ex b hb).2).2⟩
theorem VC.Af {f:FuncId} {fn:Func} {n:Nat} {args:List D} (hf:P.funcs[f]?=some fn) (hb:fn.body=some c) (hn:fn.ntmps=n) (hl:args.length≤n)
  (h:∀X w0 S0,CD P ⟨X,w0,S0,G,[],xK P fn post X w0 S0⟩ c ⟨n,sU 0 args,S⟩ (Body P fn post)):VC P G f args S post:=fun X w vs hp=>by
 have r8:vs.length=args.length:=hp.args.1;let C:dK:=⟨X,w,ax S,G,[],xK P fn post X w (ax S)⟩
 have U:bK C ⟨n,sU 0 args,S⟩ {tmps:=vs.toArray++Array.replicate (fn.ntmps-vs.toArray.size) undef,defers:=[]} w:=by
  refine⟨rfl,by simp[hn];omega,fun t ht=>?_,hp.own,Fr.refl _ _,hp.ex,hp.eV⟩;simp only[EZ,Nat.zero_le,if_true,Nat.sub_zero];by_cases aa:t<args.length
  ·have e1:args.getD t .bX=args[t]:=(by simp[getD,aa])
   have e2:(vs.toArray++Array.replicate (fn.ntmps-vs.toArray.size) undef).getD t undef=vs[t]'w4:=by
    rw[Array.getD_eq_getD_getElem?,Array.getElem?_append_left iB];simp[show t<vs.length by omega]
   rw[e1,e2];exact hp.args.2 t aa w4
  have e1:args.getD t .bX = .bX:=(by simp[getD,getElem?_eq_none (show args.length≤t by omega)])
  rw[e1];exact .bX _
 refine callsIn_wide.1 (callsIn_of_wp_marks (F:=Fence.wide) (n:=0) hf hb trivial (wpIn_wide.2 (wp_mono (h X w (ax S) _ _ U) fun e a w' hq=>?_)) rfl);rcases hq with ⟨y,h1,h2,r,S',h3,h4,h5⟩|⟨rfl,O,C',y,hX,yD,Z,hD0,hD1,hD2,hD3,h1,Oi,A9,r,S',h3,h4,hnr,h5⟩
 ·obtain⟨v,q1,q2⟩:=h4 C a w' h1;have E:(ax S').Sublist (ax y.S):=Sublist.map _ h3;have key:LeavesInM Fence.wide 0 P fn a.tmps (fun e w'=>∃v r S',e = .returned v∧post r S'∧Own w' (live X S') S'∧cn w' (live X S') r v∧Fr w (ax S) w' (ax S')) a.defers .returning w':=by
   rw[show a.defers=[] from h1.defers];exact⟨v,q2,v,r,S',rfl,h5,h1.own.sub h3,q1.mono fun b _ hn=>⟨rfl,fun hl=>hn (hl.imp id fun q=>E.subset q)⟩,
    ⟨h1.fr.os,h1.fr.tape,h1.fr.output,h1.fr.size,fun b I hn=>⟨(h1.fr.block b I hn).1,fun q=>(h1.fr.block b I hn).2 (E.subset q)⟩⟩⟩
  rcases h2 with rfl|rfl<;>exact key
 show LeavesInM Fence.wide 0 P fn a.tmps _ a.defers .returning w';rw[yD];obtain⟨f1,f2⟩:=h1.fr.block O hD1 hD2;have hD:w'.heap[O]?=some (.deferred (some [])):=f1.trans hD3;have hXD:¬C'.X O:=fun hx=>by rw[hX] at hx;have:=(hp.ex O hx).1;omega
 have sb:=h1.Vi (G:=[]) (o2:=.deferred none) hD rfl f2 hXD Oi A9 (fun g hg=>by cases hg) (fun _ _=>False);obtain⟨v,q1,q2⟩:=h4 _ a _ sb;have E:(ax S').Sublist (ax y.S):=Sublist.map _ h3;refine⟨by simp,.inl ⟨O,_,rfl,run_takeDeferred hD,v,q2,v,r,S',rfl,h5,?_,?_,?_⟩⟩
 ·have:=sb.own.sub h3;rw[show(⟨C'.X,w'.putObj O (.deferred none),ax y.S,[],a.defers,fun _ _=>False⟩:dK).X=X from hX] at this;exact this
 ·rw[←hX];exact q1.mono fun b _ hn=>⟨rfl,fun hl=>hn (hl.imp id fun q=>E.subset q)⟩
 have k:=Z.trans h1.fr;exact⟨k.os,k.tape,k.output,by rw[World.putObj_size];exact k.size,fun b I hn=>by
  obtain⟨k1,k2⟩:=k.block b I hn;exact⟨(World.putObj_heap_other w4).trans k1,fun q=>k2 (E.subset q)⟩⟩
theorem RZ(w:World)(o:Obj)(S:List Nat)(hS:∀b∈S,b<w.heap.size):Fr w S (w.alloc o) S:=⟨rfl,rfl,rfl,by rw[World.size_alloc];omega,fun b hb hn=>⟨Below.heap_alloc w o b hb,hn⟩⟩
theorem l5.on{w w':World}{S S':List Nat}{X E:Nat→Prop}(h:l5 G w S X)(hf:∀b,b<w.heap.size→b∉S→¬X b→w'.heap[b]?=w.heap[b]?∧b∉S'∧¬E b):l5 G w' S' E:=fun g hg=>by
 obtain⟨⟨h1,h2,h3⟩,h4⟩:=h g hg;obtain⟨f1,f2,f3⟩:=hf g.1 h1 h2 h3;exact⟨⟨rC h1 f1,f2,f3⟩,fun i v hi=>(h4 i v hi).on f1⟩
def wA(P:Program)(C:dK)(b rest:Code)(x:St)(Q:Exit→St→Prop):Prop:=∀a w,bK C x a w→b.wp P (Exit.then (rest.wp P (LQ C Q)) (LQ C Q)) a w
def ail(P:Program)(C:dK)(b rest:Code)(Q:Exit→St→Prop):Exit→St→Prop
 | .normal,y=>wA P C b rest y Q
 | e,y=>Q e y
theorem CD.ajT{b d:Code}(h:CD P C d x (ail P C b c Q)):CD P C (.seq (.seq d b) c) x Q:=fun a w hs =>
 wp_seq (wp_seq (wp_mono (h a w hs) fun e a' w' h=>by
  rcases h with ⟨y,h1,h2⟩|⟨rfl,h⟩
  ·cases e<;>first|exact h2 a' w' h1|exact .inl ⟨y,h1,h2⟩
  exact .inr ⟨rfl,h⟩))
theorem wA.wk{b:Code}(h:Wk x y)(k:wA P C b c y Q):wA P C b c x Q:=fun a w hs=>k a w (h C a w hs)
theorem wA.range {X:Nat→Prop} {w0:World} {S0:List Nat} {fn:Func} {g:Operand} {ps:Array Tmp} {assign body:Code} {gf:FuncId} {CZ:List D} {enc:α→List D} {Sa Sp:List α→Prop} {N id:Nat} {rest:Code}
  (hg:aF x g = .eH (.func gf) CZ) (eg:∀args w,(callFunc gf args).run P w = .ok (.enter gf args) w) (hvi:VI P G gf CZ enc Sa Sp N) (gL:∀y,(enc y).length=ps.toList.length) (hne:∀y,fZ (enc y)=true)
  (jc:Code) (yE:jc = .ret∨jc = .exit id) (J Jx:List α→List ah→Prop) (YB:∀pre Sc,J pre Sc→∀B∈Sc,fZ B.cs=true) (MC:∀pre Sc,Jx pre Sc→∀B∈Sc,fZ B.cs=true) (h0:J [] x.S)
  (AQ:List α→α→List ah→St→Prop) (hAQ:∀pre y Sc z,AQ pre y Sc z→(z.env.all fun p=>iV p.2)=true∧∀B∈z.S,fZ B.cs=true)
  (afe:∀X' W' S' l pre y Sc,J pre Sc→pre.length<N→CI P ⟨X',W',S',G,[],fun _ _=>False⟩ l assign ⟨x.n,MB ps.toList (enc y) x.env,Sc⟩ (fun e z=>e = .normal∧AQ pre y Sc z))
  (aim:∀X' W' S' l pre y Sc z,J pre Sc→pre.length<N→AQ pre y Sc z→CI P ⟨X',W',S',G,[],fun _ _=>False⟩ l body z (agW J Jx jc (pre++[y])))
  (ain:∀W' S' D Sc,((∃xs,Sa xs∧J xs Sc)∨(jc = .exit id∧∃pre,Sp pre∧Jx pre Sc))→CD P ⟨X,W',S',G,[mark D],fun _ _=>False⟩ rest ⟨x.n,x.env,Sc⟩ (aik P fn post))
  (mZ:jc = .ret→∀pre Sc,Sp pre→Jx pre Sc→Ae P fn post ⟨x.n,x.env,Sc⟩):wA P ⟨X,w0,S0,G,[],xK P fn post X w0 S0⟩ (.block id (.rangeFunc g ps assign body)) rest x Q:=fun a w hs=>by
 have hex:∀b,X b→b<w.heap.size∧b∉ax x.S:=fun b hb=>⟨Nat.lt_of_lt_of_le (hs.ex b hb).1 hs.fr.size,(hs.fr.block b (hs.ex b hb).1 (hs.ex b hb).2).2⟩
 have G7:l5 G w (ax x.S) X:=l5.on (w:=w0) (S:=S0) (X:=X) hs.eV fun b h1 h2 h3=>⟨(hs.fr.block b h1 h2).1,(hs.fr.block b h1 h2).2,h3⟩
 have MD:∀b∈ax x.S,b<w.heap.size:=fun b hb=>by
  obtain⟨B,hB,rfl⟩:=mem_map.1 hb;exact(hs.own.at_ B hB).1
 -- the aoL value
 obtain⟨lb,hgv,hlb⟩:∃lb:List Value,a.eval g = .func (.func gf) #[] lb.toArray∧cG w (live X x.S) CZ lb:=by
  have hv:=hs.eval g;rw[hg] at hv;generalize a.eval g=u at hv;cases hv with
  | eH _ _ vs hl hr=>exact⟨vs,rfl,hl,hr⟩
 refine(wp_block (wpIn_wide.1 (wpIn_rangeFunc (F:=Fence.wide) (n:=0) fun YC _=>?_)));obtain⟨rec,xW⟩:∃rec:LoopState→Option Code→Loop,rec=fun st pe=>{state:=st,pending:=pe,fn:=YC,tmps:=a.tmps,params:=ps,assign,body,defers:=w.heap.size}:=⟨_,rfl⟩
 obtain⟨W1,DS⟩:∃W1,(w.alloc (.deferred (some []))).alloc (.loop (rec .ready none))=W1:=⟨_,rfl⟩
 have YD:W1.heap[w.heap.size+1]?=some (.loop (rec .ready none)):=by
  rw[←DS];have:=World.alloc_heap_new (w.alloc (.deferred (some []))) (.loop (rec .ready none));rwa [World.size_alloc] at this
 have YE:W1.heap[w.heap.size]?=some (.deferred (some [])):=by
  rw[←DS];exact(Below.heap_alloc _ _ _ bj).trans (World.alloc_heap_new w _)
 have YF:Fr w (ax x.S) W1 (ax x.S):=by
  rw[←DS];exact(RZ w _ _ MD).trans (RZ _ _ _ fun b hb=>by rw[World.size_alloc];have:=MD b hb;omega)
 have Oj:∀b,b<w.heap.size→W1.heap[b]?=w.heap[b]?:=fun b hb=>by
  rw[←DS,Below.heap_alloc _ _ _ (by rw[World.size_alloc];omega),Below.heap_alloc _ _ _ hb]
 have aio:Own W1 (live X x.S) x.S:=⟨fun B hB=>by
  obtain⟨r0,cur,r1,r2,r3,r4⟩:=hs.own.at_ B hB;exact⟨Nat.lt_of_lt_of_le r0 YF.size,cur,(Oj _ r0).trans r1,r2,r3,fun i hi=>by
   obtain⟨u,hu,hq⟩:=r4 i hi;exact⟨u,hu,hq.mono fun b hb hn=>⟨Oj b hb,hn⟩⟩⟩,hs.own.apart⟩
 have YG:∀b,w.heap.size≤b→¬live X x.S b:=fun b hb hl=>by
  rcases hl with hl|hl
  ·have:=(hex b hl).1;omega
  have:=MD b hl;omega
 let Y:yB α:=⟨w.heap.size+1,[(w.heap.size+1,.loop (rec .ready none)),(w.heap.size,.deferred (some []))],[(w.heap.size+1,.loop (rec .done (some jc))),(w.heap.size,.deferred (some []))],enc,J,Jx,N⟩
 have aip:rK W1 (live X x.S) Y.os:=fun z hz=>by
  rcases mem_cons.1 hz with rfl|hz
  ·exact⟨(Array.getElem?_eq_some_iff.1 YD).1,YG _ bj,YD⟩
  rw[mem_singleton] at hz;subst hz;exact⟨(Array.getElem?_eq_some_iff.1 YE).1,YG _ (Nat.le_refl _),YE⟩
 -- the aoM kK,later
 have WR:∀(W:World) (Xr:Nat→Prop) (Sc:List ah),Fr w (ax x.S) W (ax Sc)→(∀b,Xr b→X b∨w.heap.size≤b∨b∈ax x.S)→∀t,t<x.n→cn W (live Xr Sc) (look t x.env) (a.tmps.getD t undef):=fun W Xr Sc hf hx t ht =>
  (hs.env t ht).mono fun b hb hn=>by
   have A9:b∉ax x.S:=fun h=>hn (.inr h);obtain⟨k1,k2⟩:=hf.block b hb A9;refine⟨k1,fun hl=>?_⟩;rcases hl with hl|hl
   ·rcases hx b hl with h|h|h
    ·exact hn (.inl h)
    ·omega
    exact A9 h
   exact k2 hl
 -- what follows
 have after:∀(E:World) (Sc:List ah),Fr w (ax x.S) E (ax Sc)→Own E (live X Sc) Sc→E.heap[w.heap.size]?=some (.deferred (some []))→w.heap.size∉ax Sc →
   bK ⟨X,E,ax Sc,G,[mark w.heap.size],fun _ _=>False⟩ ⟨x.n,x.env,Sc⟩ {a with defers:=[mark w.heap.size]++a.defers} E∧∀a' w' y,bK ⟨X,E,ax Sc,G,[mark w.heap.size],fun _ _=>False⟩ y a' w'→Ae P fn post y→xK P fn post X w0 S0 a' w':=fun E Sc hf ho hk hkS=>by
  refine⟨⟨by show[mark w.heap.size]++a.defers=_;rw[show a.defers=[] from hs.defers];rfl,hs.size,fun t ht=>WR E X Sc hf (fun b hb=>.inl hb) t ht,ho,Fr.refl _ _,fun b hb=>⟨Nat.lt_of_lt_of_le (hex b hb).1 hf.size,(hf.block b (hex b hb).1 (hex b hb).2).2⟩,l5.on G7 fun b h1 h2 h3=>⟨(hf.block b h1 h2).1,(hf.block b h1 h2).2,h3⟩⟩,fun a' w' y h1 h2=>?_⟩;exact⟨w.heap.size,_,y,rfl,h1.defers,hs.fr.trans hf,hs.fr.size,(Array.getElem?_eq_some_iff.1 hk).1,hkS,hk,h1,h2⟩
 refine⟨w.heap.size+1,[mark w.heap.size],W1,{target:=.fn (.func gf) lb.toArray,args:=#[.func (.yield (w.heap.size+1)) #[] #[]]},W1,gf,#[.func (.yield (w.heap.size+1)) #[] #[]]++lb.toArray,W1,?_,?_,fun _ _=>trivial,?_,fun hc=>(by cases hc),?_⟩
 ·rw[←DS,xW];exact run_enterLoop_outer _ _ _ _ _
 ·simp only[resolve,hgv];simp[go_sem]
 ·simp[invoke,go_sem,eg]
 refine callsIn_wide.2 ((hvi Y X w W1 (ax x.S) x.S lb rfl rfl hex G7 (by simp[Y]) aio (hlb.mono fun b hb hn=>⟨Oj b hb,hn⟩) YF aip h0 ?_).mono ?_)
 ·
  intro pre y Sc Xr W vs hJ hN ajU hX1 Ol jz G6 jE I;have hl:W.heap[w.heap.size+1]?=some (.loop (rec .ready none)):=(I _ mem_cons_self).2.2;have hk:W.heap[w.heap.size]?=some (.deferred (some [])):=(I _ (mem_cons_of_mem _ mem_cons_self)).2.2;have YH:¬live Xr Sc (w.heap.size+1):=(I _ mem_cons_self).2.1;have YI:¬live Xr Sc w.heap.size:=(I _ (mem_cons_of_mem _ mem_cons_self)).2.1;have dJ:w.heap.size<W.heap.size:=(Array.getElem?_eq_some_iff.1 hk).1;have lC:w.heap.size+1<W.heap.size:=(Array.getElem?_eq_some_iff.1 hl).1;have r8:vs.length=ps.toList.length:=(by rw[G6.1];exact gL y)
  have hy:=run_yield (P:=P) (args:=vs.toArray) hl (by rw[xW];simp at r8 ⊢;exact r8);rw[xW] at hy;refine⟨YC,_,assign,body,hy,roundIn_of_wpIn trivial ?_⟩;have aiq:l5 G W (ax Sc) Xr:=l5.on G7 fun b h1 h2 h3=>⟨(jE.block b h1 h2).1,(jE.block b h1 h2).2,fun hx=>by
   rcases Ol b hx with h|h|h
   ·exact h3 h
   ·omega
   exact h2 h⟩
  have air:bK ⟨Xr,W,ax Sc,G,[],fun _ _=>False⟩ ⟨x.n,x.env,Sc⟩ {tmps:=a.tmps,defers:=[]} W:=⟨rfl,hs.size,fun t ht=>WR W Xr Sc jE Ol t ht,jz,Fr.refl _ _,ajU,aiq⟩
  have ajV:(ps.zip vs.toArray).foldl (fun t (p,v)=>t.setIfInBounds p v) a.tmps=(ps.toList.zip vs).foldl (fun t (p,v)=>t.setIfInBounds p v) a.tmps:=by
   rw[←Array.foldl_toList];simp
  refine wpIn_mono (afe Xr W (ax Sc) _ pre y Sc hJ hN _ _ (by
   have:=air.params G6 (gL y);rw[←ajV] at this;exact this)) fun e a1 w1 hq=>?_
  rcases hq with ⟨z,mj,rfl,yF⟩|⟨_,hq⟩
  case inr=>exact hq.elim
  obtain⟨Oi,A9⟩:=hAQ _ _ _ _ yF;obtain⟨f1,f2⟩:=mj.fr.block (w.heap.size+1) lC (fun h=>YH (.inr h));have lN:w1.heap[w.heap.size+1]?=some (.loop (rec .ready none)):=f1.trans hl;have iu:w1.heap.size=(w1.putObj (w.heap.size+1) (.loop {rec .ready none with state:=.busy})).heap.size:=(by rw[World.putObj_size])
  have YJ:¬Xr (w.heap.size+1):=fun h=>YH (.inl h);have O:∀(u:World) (ob:Obj) b,b≠w.heap.size+1→(u.putObj (w.heap.size+1) ob).heap[b]?=u.heap[b]?:=fun u ob b hb=>World.putObj_heap_other hb;obtain⟨W2,uV⟩:∃W2,w1.putObj (w.heap.size+1) (.loop {rec .ready none with state:=.busy})=W2:=⟨_,rfl⟩
  have VV:=mj.Vi (G:=G) (o2:=.loop {rec .ready none with state:=.busy}) lN rfl f2 YJ Oi A9 (l5.on G7 fun b h1 h2 h3=>by
   obtain⟨k1,k2⟩:=jE.block b h1 h2;obtain⟨k3,k4⟩:=mj.fr.block b (Nat.lt_of_lt_of_le h1 jE.size) k2;refine⟨(O _ _ _ w4).trans (k3.trans k1),k4,fun hx=>?_⟩;rcases Ol b hx with h|h|h
   ·exact h3 h
   ·omega
   exact h2 h) (fun _ _=>False)
  rw[mj.defers,uV] at VV;have iu:W2.heap[w.heap.size+1]?=some (.loop {rec .ready none with state:=.busy}):=(by rw[←uV];exact World.putObj_heap_same (Array.getElem?_eq_some_iff.1 lN).1)
  have nF:∀(a3:Act) (W3:World) (y3:St) (S':List ah) (jump:Option Code),bK ⟨Xr,W2,ax z.S,G,[],fun _ _=>False⟩ y3 a3 W3→S'.Sublist y3.S→(∀B∈S',fZ B.cs=true) →
    ∃E,(Instr.endRound (w.heap.size+1) jump).run P W3 = .ok (.bool jump.isNone) E∧E.heap[w.heap.size+1]?=some (.loop (rec (if jump.isNone then .ready else .done) jump))∧E.heap[w.heap.size]?=some (.deferred (some [])) ∧
     Own E (live Xr S') S'∧Yz (w.heap.size+1) W (ax Sc) E (ax S')∧¬live Xr S' (w.heap.size+1)∧¬live Xr S' w.heap.size:=fun a3 W3 y3 S' jump h3 U Om=>by
   have On:(ax S').Sublist (ax y3.S):=Sublist.map _ U;have C0:W2.heap.size=w1.heap.size:=(by rw[←uV,World.putObj_size])
   obtain⟨g1,g2⟩:=h3.fr.block (w.heap.size+1) (Array.getElem?_eq_some_iff.1 iu).1 f2;have HZ:W3.heap[w.heap.size+1]?=some (.loop {rec .ready none with state:=.busy}):=g1.trans iu;have ajW:=(Array.getElem?_eq_some_iff.1 HZ).1;have nY:=run_endRound (P:=P) jump HZ;obtain⟨k1,k2⟩:=mj.fr.block w.heap.size dJ (fun h=>YI (.inr h));obtain⟨k3,k4⟩:=h3.fr.block w.heap.size (by rw[C0];exact Nat.lt_of_lt_of_le dJ mj.fr.size) k2;have fF:W2.heap[w.heap.size]?=some (.deferred (some [])):=(by rw[←uV];exact(O _ _ _ w4).trans (k1.trans hk))
   have YK:w.heap.size+1∉ax S':=fun h=>g2 (On.subset h);refine⟨_,nY,?_,(O _ _ _ w4).trans (k3.trans fF),?_,?_,?_,?_⟩
   ·rw[xW];exact World.putObj_heap_same ajW
   ·exact(h3.own.sub U).Ad (Z:=fun b=>b=w.heap.size+1) (fun B hB=>.inr (mem_map.2 ⟨B,hB,rfl⟩)) Om (fun b _ hb=>O _ _ _ hb) (fun b i hz=>by subst hz;exact FB HZ rfl i) (by rw[World.putObj_size];exact Nat.le_refl _) (fun B hB e=>YK (e ▸ mem_map.2 ⟨B,hB,rfl⟩))
   ·refine⟨h3.fr.os.trans ?_,h3.fr.tape.trans ?_,h3.fr.output.trans ?_,?_,fun b hb hn=>?_⟩
    ·rw[←uV];exact mj.fr.os
    ·rw[←uV];exact mj.fr.tape
    ·rw[←uV];exact mj.fr.output
    ·rw[World.putObj_size];exact Nat.le_trans mj.fr.size (by rw[←C0];exact h3.fr.size)
    obtain⟨m1,m2⟩:=mj.fr.block b hb hn;obtain⟨m3,m4⟩:=h3.fr.block b (by rw[C0];exact Nat.lt_of_lt_of_le hb mj.fr.size) m2;refine⟨fun WS=>(O _ _ _ WS).trans (m3.trans ?_),fun h=>m4 (On.subset h)⟩;rw[←uV];exact(O _ _ _ WS).trans m1
   ·rintro(h|h)
    ·exact YJ h
    exact YK h
   rintro(h|h)
   ·exact YI (.inl h)
   exact k4 (On.subset h)
  refine⟨W2,by rw[←uV];exact run_beginRound lN (by rw[xW]),wpIn_mono (aim Xr W2 (ax z.S) _ pre y Sc z hJ hN yF _ _ VV) fun e a3 W3 hq=>?_⟩;rcases hq with ⟨y3,h3,hq⟩|⟨_,hq⟩
  case inr=>exact hq.elim
  cases e with
  | normal =>
   obtain⟨S',U,hj⟩:=hq;obtain⟨E,r1,r2,r3,r4,r5,r6,r7⟩:=nF a3 W3 y3 S' none h3 U (YB _ _ hj);exact⟨_,E,r1,true,S',rfl,r4,r5,fun _=>⟨hj,r2.trans hl.symm⟩,(fun h=>by cases h)⟩
  | ret =>
   obtain⟨hc,S',U,hj⟩:=hq;obtain⟨E,r1,r2,r3,r4,r5,r6,r7⟩:=nF a3 W3 y3 S' (some .ret) h3 U (MC _ _ hj);refine⟨_,E,r1,false,S',rfl,r4,r5,(fun h=>by cases h),fun _=>⟨hj,fun z hz=>?_⟩⟩;rcases mem_cons.1 hz with rfl|hz
   ·exact⟨(Array.getElem?_eq_some_iff.1 r2).1,r6,by rw[hc];exact r2⟩
   rw[mem_singleton] at hz;subst hz;exact⟨(Array.getElem?_eq_some_iff.1 r3).1,r7,r3⟩
  | exit i =>
   obtain⟨hc,S',U,hj⟩:=hq;obtain⟨E,r1,r2,r3,r4,r5,r6,r7⟩:=nF a3 W3 y3 S' (some (.exit i)) h3 U (MC _ _ hj);refine⟨_,E,r1,false,S',rfl,r4,r5,(fun h=>by cases h),fun _=>⟨hj,fun z hz=>?_⟩⟩;rcases mem_cons.1 hz with rfl|hz
   ·exact⟨(Array.getElem?_eq_some_iff.1 r2).1,r6,by rw[hc];exact r2⟩
   rw[mem_singleton] at hz;subst hz;exact⟨(Array.getElem?_eq_some_iff.1 r3).1,r7,r3⟩
  | goto t=>exact hq.elim
  | panic ch=>exact hq.elim
  | outgrown=>exact hq.elim
 -- behind the iterator
 have fk:∀(W':World) (Sc:List ah) (st:LoopState) (pe:Option Code),Own W' (live X Sc) Sc→Fr w (ax x.S) W' (ax Sc)→(∀B∈Sc,fZ B.cs=true)→st≠.busy →
   rK W' (live X Sc) [(w.heap.size+1,.loop (rec st pe)),(w.heap.size,.deferred (some []))] →
   ∃E,(Instr.endLoop (w.heap.size+1)).run P W' = .ok pe E∧bK ⟨X,E,ax Sc,G,[mark w.heap.size],fun _ _=>False⟩ ⟨x.n,x.env,Sc⟩ {a with defers:=[mark w.heap.size]++a.defers} E ∧
    ∀a' w' y,bK ⟨X,E,ax Sc,G,[mark w.heap.size],fun _ _=>False⟩ y a' w'→Ae P fn post y→xK P fn post X w0 S0 a' w':=fun W' Sc st pe ho hf Om fS I=>by
  obtain⟨r1,r2,r3⟩:=I _ mem_cons_self;obtain⟨k1,k2,k3⟩:=I _ (mem_cons_of_mem _ mem_cons_self);have r1:w.heap.size+1<W'.heap.size:=r1;have r3:W'.heap[w.heap.size+1]?=some (.loop (rec st pe)):=r3;have nY:=run_endLoop (P:=P) r3 (by rw[xW];exact fS);have ir:(rec st pe).pending=pe:=(by rw[xW])
  rw[ir] at nY;refine⟨_,nY,after _ Sc ⟨hf.os,hf.tape,hf.output,by rw[World.putObj_size];exact hf.size,fun b hb hn=>⟨(World.putObj_heap_other w4).trans (hf.block b hb hn).1,(hf.block b hb hn).2⟩⟩ ?_ ((World.putObj_heap_other w4).trans k3) (fun h=>k2 (.inr h))⟩;exact ho.Ad (Z:=fun b=>b=w.heap.size+1) (fun B hB=>.inr (mem_map.2 ⟨B,hB,rfl⟩)) Om (fun b _ hb=>World.putObj_heap_other hb) (fun b i hz=>by subst hz;exact FB r3 rfl i) (by rw[World.putObj_size];exact Nat.le_refl _) (fun B hB e=>r2 (.inr (by rw[←e];exact mem_map.2 ⟨B,hB,rfl⟩)))
 have hR:∀(a':Act) (E:World) (Sc:List ah),bK ⟨X,E,ax Sc,G,[mark w.heap.size],fun _ _=>False⟩ ⟨x.n,x.env,Sc⟩ a' E→(∀a' w' y,bK ⟨X,E,ax Sc,G,[mark w.heap.size],fun _ _=>False⟩ y a' w'→Ae P fn post y→xK P fn post X w0 S0 a' w') →
   ((∃xs,Sa xs∧J xs Sc)∨(jc = .exit id∧∃pre,Sp pre∧Jx pre Sc))→rest.wp P (LQ ⟨X,w0,S0,G,[],xK P fn post X w0 S0⟩ Q) a' E:=fun a' E Sc h1 h2 h3 =>
  wp_mono (ain E (ax Sc) w.heap.size Sc h3 _ _ h1) fun e a2 w2 hq=>by
   rcases hq with ⟨y,q1,rfl,q2⟩|⟨_,hq⟩
   ·exact .inr ⟨rfl,h2 _ _ _ q1 q2⟩
   exact hq.elim
 rintro e W' ⟨v,Sc,rfl,jz,jE,h⟩;rcases h with ⟨xs,hsa,hj,I⟩|⟨pre,Bb,hj,I⟩
 ·obtain⟨E,q1,q2,q3⟩:=fk W' Sc .ready none jz jE (YB _ _ hj) bj I;refine⟨none,E,q1,?_⟩;exact hR _ E Sc q2 q3 (.inl ⟨xs,hsa,hj⟩)
 obtain⟨E,q1,q2,q3⟩:=fk W' Sc .done (some jc) jz jE (MC _ _ hj) bj I;refine⟨some jc,E,q1,?_⟩;rcases yE with yE|yE
 ·rw[yE];refine wpIn_ret ?_;exact .inr ⟨rfl,q3 _ _ _ q2 (mZ yE pre Sc Bb hj)⟩
 rw[yE];refine wpIn_exit ?_;have:=hR _ E Sc q2 q3 (.inr ⟨yE,pre,Bb,hj⟩);simpa[Exit.inBlock,Exit.then] using this
theorem R3{b e size:Nat}{cs cs':List D}(E:(⟨b,e,size,cs⟩:ah)∈S)(hv:gU S cs cs')(hne:isMap e=false:=by rfl):View S (.v (.pointer (some ⟨b,0,none⟩))) (.fQ cs' 0):=fun X Y w v I O ho h=>by
 rw[h.k8];obtain⟨v1,v2⟩:=hv.spec;obtain⟨r0,cur,r1,r2,Z,U⟩:=ho.at_ _ E;rw[kI hne] at r1;refine .fQ cs' 0 b 0 (fun i=>cur.getD i undef) r0 (fun hy=>O _ (I _ hy) (mem_map.2 ⟨_,E,rfl⟩)) (fun i hi=>?_) (fun i hi=>?_)
 ·obtain⟨u,hu,_⟩:=U i HK;rw[Nat.zero_add,ou r1 hu];simp[hu]
 obtain⟨u,hu,hq⟩:=U i HK;simp only[Array.getD_eq_getD_getElem?,hu,Option.getD_some];exact v2 i w4 hi X Y w u I O ho hq
theorem adj{f:Fn}{ds E:List D}(h:gU S ds E):View S (.eH f ds) (.eH f E):=fun X Y w v O U ho hr=>by
 obtain⟨h1,h2⟩:=h.spec;cases hr with
 | eH _ _ vs hl I=>exact .eH f E vs w4 fun i q1 q2=>h2 i w4 q1 X Y w _ O U ho (I i w4 q2)
variable {S1 T:List Nat} {fuel i:Nat} {ld:Array Bool}

end Go.Proofs.YtkgmonfgofobaaaGreatDoor.V
namespace Go.Proofs.YtkgmonfgofobaaaGreatDoor.V
open List
open Go.RowKit
variable {P:Program} {C:dK} {G:List (Nat×List Value)} {Q:Exit→St→Prop} {x:St} {ops:Array Oper} {o:Oper} {n fuel t:Nat} {e:List (Nat×D)} {S:List ah} {S1 T:List Nat} {ld:Array Bool} {d:D} {kd:Rd}
theorem aD (i:Nat) (hi:ops[i]?=some o) (h:bW P C.G ⟨n,e,S⟩ o kd d) (K:dZ P C ops S1 T fuel (ld.setIfInBounds i true) ⟨n,(t,d)::e,S⟩ Q) (hs:Region.noSelect ops=true:=by kernel_rfl) (hf:Region.free .any ops ld i=true:=by kernel_rfl) (hr:(Region.ready .any ops ld).contains i=true:=by kernel_rfl)
  (hp:NP Q:=by repeat (first|exact NP.norm|exact NP.body|exact NP.Af|exact NP.GD|apply NP.tl|apply NP.GF|apply NP.then|apply NP.cut|apply NP.inBlock|apply NP.round)) (hw:cj ops ⟨n,e,S⟩ o true:=by first|exact sF rfl|exact uf rfl rfl rfl lk jC) (hd:o.dst=some t:=by exact rfl)
  (hk:Safe ⟨n,e,S⟩ T kd:=by first|exact trivial|exact qH (k0:=0) rfl rfl|exact qH (k0:=1) rfl rfl|exact qH (k0:=2) rfl rfl|exact qH (k0:=3) rfl rfl|exact qH (k0:=4) rfl rfl|exact qH (k0:=5) rfl rfl):dZ P C ops S1 T (fuel+1) ld ⟨n,e,S⟩ Q :=
 dZ.take hi hs hf hr hp hw hd h hk K
theorem dj (i:Nat) (hi:ops[i]?=some o) (h:bW P C.G ⟨n,e,S⟩ o kd d) (K:AD P C ops S1 T fuel (ld.setIfInBounds i true) ⟨n,(t,d)::e,S⟩ Q) (hs:Region.noSelect ops=true:=by kernel_rfl) (hf:Region.free .any ops ld i=true:=by kernel_rfl) (hr:(Region.ready .any ops ld).contains i=true:=by kernel_rfl)
  (hp:NP Q:=by repeat (first|exact NP.norm|exact NP.body|exact NP.Af|exact NP.GD|apply NP.tl|apply NP.GF|apply NP.then|apply NP.cut|apply NP.inBlock|apply NP.round)) (hw:cj ops ⟨n,e,S⟩ o true:=by first|exact sF rfl|exact uf rfl rfl rfl lk jC) (hd:o.dst=some t:=by exact rfl)
  (hk:Safe ⟨n,e,S⟩ T kd:=by first|exact trivial|exact qH (k0:=0) rfl rfl|exact qH (k0:=1) rfl rfl|exact qH (k0:=2) rfl rfl|exact qH (k0:=3) rfl rfl|exact qH (k0:=4) rfl rfl|exact qH (k0:=5) rfl rfl) (nk:kd≠.kj:=by intro h;cases h):AD P C ops S1 T (fuel+1) ld ⟨n,e,S⟩ Q :=
 AD.take hi hs hf hr hp hw hd h hk nk K
theorem at_{i:Nat}(hi:ops[i]?=some o)(h:bW P C.G ⟨n,e,S⟩ o kd d)(K:AD P C ops S1 T fuel (ld.setIfInBounds i true) ⟨n,(t,d)::e,S⟩ Q)(hw:cj ops ⟨n,e,S⟩ o true:=by first|exact sF rfl|exact uf rfl rfl rfl lk jC)(hd:o.dst=some t:=by exact rfl):bD P C ops S1 T fuel ld ⟨n,e,S⟩ Q i :=
 bD.still hi hw hd h K
theorem mF (i:Nat) (hi:ops[i]?=some o) (K:dZ P C ops S1 T fuel (ld.setIfInBounds i true) ⟨n,(t,.v (.tuple #[]))::e,S⟩ Q) (hw:cj ops ⟨n,e,S⟩ o false:=by first|exact mP rfl rfl rfl lk jC|exact Kr (b:=false) rfl rfl rfl lk) (hs:Region.noSelect ops=true:=by kernel_rfl) (hf:Region.free .any ops ld i=true:=by kernel_rfl) (hr:(Region.ready .any ops ld).contains i=true:=by kernel_rfl)
  (hp:NP Q:=by repeat (first|exact NP.norm|exact NP.body|exact NP.Af|exact NP.GD|apply NP.tl|apply NP.GF|apply NP.then|apply NP.cut|apply NP.inBlock|apply NP.round)) (hd:o.dst=some t:=by exact rfl):dZ P C ops S1 T (fuel+1) ld ⟨n,e,S⟩ Q :=
 dZ.JH hi hs hf hr hp hw hd K
theorem qn (i:Nat) (hi:ops[i]?=some o) (K:AD P C ops S1 T fuel (ld.setIfInBounds i true) ⟨n,(t,.v (.tuple #[]))::e,S⟩ Q) (hw:cj ops ⟨n,e,S⟩ o false:=by first|exact mP rfl rfl rfl lk jC|exact Kr (b:=false) rfl rfl rfl lk) (hs:Region.noSelect ops=true:=by kernel_rfl) (hf:Region.free .any ops ld i=true:=by kernel_rfl) (hr:(Region.ready .any ops ld).contains i=true:=by kernel_rfl)
  (hp:NP Q:=by repeat (first|exact NP.norm|exact NP.body|exact NP.Af|exact NP.GD|apply NP.tl|apply NP.GF|apply NP.then|apply NP.cut|apply NP.inBlock|apply NP.round)) (hd:o.dst=some t:=by exact rfl):AD P C ops S1 T (fuel+1) ld ⟨n,e,S⟩ Q :=
 AD.JH hi hs hf hr hp hw hd K
theorem gg (i:Nat) (hi:ops[i]?=some o) (h:bW P C.G ⟨n,e,S⟩ o .none d) (K:AI P C ops fuel (ld.setIfInBounds i true) ⟨n,(t,d)::e,S⟩ Q) (ry:∀w a,o.about P w a=none:=by exact fun _ _=>rfl) (hs:Region.noSelect ops=true:=by kernel_rfl) (hf:Region.free .any ops ld i=true:=by kernel_rfl) (hr:(Region.ready .any ops ld).contains i=true:=by kernel_rfl)
  (hp:NP Q:=by repeat (first|exact NP.norm|exact NP.aih|apply NP.then|apply NP.cut|apply NP.inBlock|apply NP.round)) (hw:cj ops ⟨n,e,S⟩ o true:=by first|exact sF rfl|exact uf rfl rfl rfl lk jC) (hd:o.dst=some t:=by exact rfl):AI P C ops (fuel+1) ld ⟨n,e,S⟩ Q :=
 AI.take hi hs hf hr hp hw ry hd h K
theorem kU{i:Nat}(hi:ops[i]?=some o)(h:bW P C.G ⟨n,e,S⟩ o kd d)(K:AI P C ops fuel (ld.setIfInBounds i true) ⟨n,(t,d)::e,S⟩ Q)(yD:∀c,o.op≠.defer c:=by exact fun _ h=>by cases h)(hw:cj ops ⟨n,e,S⟩ o true:=by first|exact sF rfl|exact uf rfl rfl rfl lk jC)(hd:o.dst=some t:=by exact rfl):ie P C ops fuel ld ⟨n,e,S⟩ Q i :=
 ie.still hi hw yD hd h K
def Oo(P:Program)(s u:Nat):Bool:=match P.underlying s with
 | some (.slice b)=>(match P.underlying b with
  | some (.int .u8)=>(match P.underlying u with
   | some .string=>true
   | _=>false)
  | _=>false)
 | _=>false
theorem ais{s u:Nat}(h:Oo P s u=true):∃b,P.underlying s=some (.slice b)∧P.underlying b=some (.int .u8)∧P.underlying u=some .string:=by
 unfold Oo at h;split at h
 ·rename_i b hb;split at h
  ·rename_i E;split at h
   ·rename_i I;exact⟨b,hb,E,I⟩
   cases h
  cases h
 cases h
theorem DT{s u:TypeId}{y:Operand}{bs:List UInt8}{m:Nat}(ho:o.op = .convert s u y:=by exact rfl)(hy:aF x y = .list 1 (bs.flatMap cB) m:=by exact ot)(hs:Oo P s u=true:=by kernel_rfl):bW P G x o .kj (.v (.string ⟨bs.toArray⟩)):=by
 obtain⟨b,h1,h2,h3⟩:=ais hs;exact ZL ho hy h1 h2 h3

end Go.Proofs.YtkgmonfgofobaaaGreatDoor.V
