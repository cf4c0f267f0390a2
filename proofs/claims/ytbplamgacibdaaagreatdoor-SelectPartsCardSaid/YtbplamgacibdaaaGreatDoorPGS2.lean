/-
  GS: walks and plain facts, part 2.
-/
import Derived.Test.YtbplamgacibdaaaGreatDoorPGS1
set_option linter.unusedVariables false
set_option linter.unusedSimpArgs false
set_option maxRecDepth 100000
set_option maxHeartbeats 4000000
namespace Go.Proofs.YtbplamgacibdaaaGreatDoor
open List
namespace V
open Go.RowKit
section
variable {P:Program} {C:dJ} {Q:Exit->St->Prop} {x:St} {ops:Array Oper} {o:Oper} {S1 T:List Nat} {fuel i:Nat} {ld:Array Bool}
variable {k t:Nat} {B:ag} {fo:Operand} {dh:Array Operand} {ts:Array TypeId}
theorem Cs{S:List ag}(hk:S[k]?=some B):B.b∈aj S:=mem_map.2 ⟨B,mem_of_getElem? hk,rfl⟩
theorem rq{S:List ag}{k0:Nat}(hk:x.S[k]?=some B)(h0:S[k0]?=some B):Safe x (aj S) (.fP k):=⟨B,hk,Cs h0⟩
theorem FP{b:Bool}(hb:look t x.env = .v (.bool b))(h1:b=true->AD P C ops S1 T fuel ld x Q)(h2:b=false->AD P C ops S1 T fuel ld x Q):AD P C ops S1 T fuel ld x Q:=by
 cases h:b
 ·exact h2 h
 exact h1 h
theorem dW.split{b:Bool}(hb:look t x.env = .v (.bool b))(h1:b=true->dW P C ops S1 T fuel ld x Q)(h2:b=false->dW P C ops S1 T fuel ld x Q):dW P C ops S1 T fuel ld x Q:=by
 cases h:b
 ·exact h2 h
 exact h1 h
theorem Jw{post:St->Prop}(hi:ops[i]?=some o)(hw:bV ops x o true)(h:fh P C.G x o [] post)(k:∀y,post y->AD P C ops S1 T fuel (ld.setIfInBounds i true) y Q):gQ P C ops S1 T fuel ld x Q i :=
 gQ.gm hi hw h (fun _ _ _ _ _ _ hb=>by simp at hb) (fun _ hb=>by simp at hb) k
theorem HA{C:dJ}{a:Act}{w:World}(h:bB C x a w)(hk:x.S[k]?=some B)(hT:∀b∈T,b∈aj (x.S.eraseIdx k)):∀b∈T,b∉[B.b]:=fun b hb hm=>by
 have hp:(aj x.S).Perm (B.b::aj (x.S.eraseIdx k)):=(by have:=(vX hk).map ag.b;simpa[aj] using this)
 have hn:=(nodup_cons.1 (hp.nodup_iff.1 h.own.apart)).1;have:b=B.b:=(by simpa using hm)
 exact hn (this ▸ hT b hb)
theorem acP {t e:TypeId} {tt len sz:Nat} {ps:List (Nat×Operand)} {pl:List (Nat×D)} {z:Value} {pI:List Value} {ds:List D} (hi:ops[i]?=some o) (hw:bV ops x o true) (ho:o.op = .buildSlice t len ps.toArray) (j4:o.dst=some tt) (hz:∀w,(zeroValue e).run P w = .ok z w)
  (E:∀w,(underlying t).run P w = .ok (.slice e) w) (hs:∀w,(sizeOf e).run P w = .ok sz w) (hl:Nat.ble 1 (len*sz)=true) (iu:Nat.ble (len*sz) (2 ^ 24)=true) (eM:(Array.range (len*sz)).map (fun i=>z.cells[i % z.cells.size]!)=pI.toArray)
  (iv:jK x ps pl) (hj:pl.all (fun p=>kV p.2)=true) (hd:nc (fun i=>some (i*sz,sz)) (pI.map .v) pl=some ds)
  (k:∀b,AD P C ops S1 T fuel (ld.setIfInBounds i true) ⟨x.n,(tt,.v (.slice (some ⟨b,0,none⟩) len len))::x.env,⟨b,e,ds.length,ds⟩::x.S⟩ Q) (hne:isMap e=false:=by rfl):gQ P C ops S1 T fuel ld x Q i:=by
 refine Jw hi hw (Je (hne:=hne) (zs:=pI.map .v) (ds:=ds) ho j4 hz E hs (Nat.le_of_ble_eq_true hl) (Nat.le_of_ble_eq_true iu) ?_ ?_ ?_ ?_) ?_
 ·rw[eM];congr 1;rw[map_map];exact(map_id pI).symm
 ·intro d hd;obtain⟨u,_,rfl⟩:=mem_map.1 hd;exact⟨u,rfl⟩
 ·rw[iv.eq];exact BY hj
 ·rw[iv.eq];exact hd
 rintro _ ⟨b,rfl⟩;exact k b
theorem gQ.store {t:TypeId} {k b o' n:Nat} {B:ag} {d:D} {cs':List D} {y z:Operand} (hi:ops[i]?=some o) (hw:bV ops x o true) (ho:o.op = .store t y z) (j4:o.dst=none) (hy:aD x y = .v (.pointer (some ⟨b,o',none⟩)))
  (hk:x.S[k]?=some B) (hb:B.b=b) (hz:aD x z=d) (hj:kV d=true) (h1:(cellsOf d).all one=true) (hn:∀w,(sizeOf t).run P w = .ok n w) (gz:(cellsOf d).length=n) (hl:Nat.ble (o'+n) B.cs.length=true) (dz:dx B.cs o' (cellsOf d)=cs')
  (hT:∀b∈T,b∈aj (x.S.eraseIdx k))
  (K:AD P C ops S1 T fuel (ld.setIfInBounds i true) ⟨x.n,x.env,x.S.set k {B with cs:=cs'}⟩ Q) (hne:isMap B.e=false:=by rfl):gQ P C ops S1 T fuel ld x Q i :=
 gQ.gm hi hw (Fu (hne:=hne) ho j4 hy hk hb hz (fun h=>by rw[h] at hj;cases hj) h1 hn gz (Nat.le_of_ble_eq_true hl) dz) (fun C a w hs I E=>hb ▸ HA hs hk hT I E) (fun I E=>by
  have:I=b:=(by simpa using E)
  subst this;rw[<-hb];exact Cs hk) fun y hy=>hy ▸ K
theorem BW {f:Nat} {args:List D} {r:D} (hi:ops[i]?=some o) (hw:bV ops x o true) (ho:o.op = .call {callee:=.value fo,args:=dh,argTypes:=ts}) (hd:o.dst=some t)
  (hf:fo = .func f) (fH:∀args w,(callFunc f args).run P w = .ok (.enter f args) w) (hc:VP P C.G f args r) (ha:nN x dh.toList args)
  (K:AD P C ops S1 T fuel (ld.setIfInBounds i true) (x.put t r) Q):gQ P C ops S1 T fuel ld x Q i :=
 Jw hi hw (Cg ho hd hf fH ha.eq (fx _) hc) fun y ⟨E,S',⟨h1,h2⟩,hy⟩=>by subst h1 h2;exact hy ▸ K
theorem ko {f:Nat} {args:List D} {Sf R:List ag} {post:D->List ag->Prop} (hi:ops[i]?=some o) (hw:bV ops x o true) (ho:o.op = .call {callee:=.value fo,args:=dh,argTypes:=ts}) (hd:o.dst=some t)
  (hf:fo = .func f) (fH:∀args w,(callFunc f args).run P w = .ok (.enter f args) w) (hc:VC P C.G f args Sf post) (ha:nN x dh.toList args) (hp:x.S.Perm (Sf++R)) (hT:∀b∈T,b∈aj R)
  (K:∀r S',post r S'->AD P C ops S1 T fuel (ld.setIfInBounds i true) ⟨x.n,(t,r)::x.env,S'++R⟩ Q):gQ P C ops S1 T fuel ld x Q i :=
 gQ.gm hi hw (Cg ho hd hf fH ha.eq hp hc) (fun C a w hs b hb hm=>by
  have h1:(aj x.S).Perm (aj Sf++aj R):=(by have:=hp.map ag.b;simpa[aj] using this)
  have h2:=h1.nodup_iff.1 hs.own.apart;exact(nodup_append.1 h2).2.2 b hm b (hT b hb) rfl) (fun b hb=>by
  have h1:(aj x.S).Perm (aj Sf++aj R):=(by have:=hp.map ag.b;simpa[aj] using this)
  exact h1.symm.subset (mem_append_left _ hb)) fun y ⟨r,S',h,hy⟩=>hy ▸ K r S' h
theorem gQ.append {s y:Operand} {t e tt sz bytes n m b cap k:Nat} {z:Value} {B:ag} {cs:List D} (Bw:ops[i]?=some o) (hw:bV ops x o true) (ho:o.op = .call {callee:=.builtin .append,args:=#[s,y],argTypes:=#[t,t]}) (hd:o.dst=some tt)
  (ht:P.underlying t=some (.slice e)) (hi:(P.info? e).map (fun i=>(i.zero,i.size,i.bytes))=some (some z,sz,bytes)) (eM:z.cells.size=sz) (dg:0<sz)
  (hs:aD x s = .v (.slice (some ⟨b,0,none⟩) n cap)) (hk:x.S[k]?=some B) (hb:B.b=b) (he:B.e=e) (O:B.size=cap*sz) (hl:B.cs.length=n*sz) (hn:n<=cap) (Z:cap<=maxLen)
  (hy:aD x y = .list sz cs m) (jw:∀d∈cs,one d=true) (hm:0<m) (oY:n+m<=maxLen) (E:(n+m)*bytes<=140737488355328) (hT:∀b∈T,b∈aj (x.S.eraseIdx k))
  (K:∀I aO,n+m<=aO->aO<=maxLen->AD P C ops S1 T fuel (ld.setIfInBounds i true) ⟨x.n,(tt,.v (.slice (some ⟨I,0,none⟩) (n+m) aO))::x.env,⟨I,e,aO*sz,B.cs++cs⟩::x.S.eraseIdx k⟩ Q) (hne:isMap B.e=false:=by rfl):gQ P C ops S1 T fuel ld x Q i :=
 gQ.gm Bw hw (Ju (hne:=hne) ho hd ht hi eM dg hs hk hb he O hl hn Z hy jw hm oY E) (fun C a w hs I U=>hb ▸ HA hs hk hT I U) (fun I U=>by
  have:I=b:=(by simpa using U)
  subst this;rw[<-hb];exact Cs hk) fun y ⟨I,aO,h1,h2,hy⟩=>hy ▸ K I aO h1 h2
theorem abE {s y:Operand} {e tt sz bytes m:Nat} {z:Value} {cs:List D} (O:ops[i]?=some o) (hw:bV ops x o true) (ho:o.op = .call {callee:=.builtin .append,args:=#[s,y],argTypes:=#[t,t]}) (hd:o.dst=some tt)
  (ht:P.underlying t=some (.slice e)) (hi:(P.info? e).map (fun i=>(i.zero,i.size,i.bytes))=some (some z,sz,bytes)) (eM:z.cells.size=sz) (dg:0<sz)
  (hs:aD x s = .v (.slice none 0 0)) (hy:aD x y = .list sz cs m) (jw:∀d∈cs,one d=true) (hm:0<m) (U:m<=maxLen) (E:m*bytes<=140737488355328)
  (K:∀I aO,m<=aO->aO<=maxLen->AD P C ops S1 T fuel (ld.setIfInBounds i true) ⟨x.n,(tt,.v (.slice (some ⟨I,0,none⟩) m aO))::x.env,⟨I,e,aO*sz,cs⟩::x.S⟩ Q) (hne:isMap e=false:=by rfl):gQ P C ops S1 T fuel ld x Q i :=
 Jw O hw (Jg (hne:=hne) ho hd ht hi eM dg hs hy jw hm U E) fun y ⟨I,aO,h1,h2,hy⟩=>hy ▸ K I aO h1 h2
end
section
variable {P:Program} {C:dJ} {G:List (Nat×List Value)} {Q:Exit->St->Prop} {x:St} {ops:Array Oper} {l:List Oper} {o:Oper} {S1 T:List Nat} {fuel i:Nat} {ld:Array Bool}
variable {S Sq S' R:List ag} {sz k n cap b tt m:Nat} {B:ag} {t e:TypeId} {y:Operand} {ad:Option Addr} {cs':List D}
def View(S:List ag)(d d':D):Prop:=∀(X Y:Nat->Prop) w v,(∀b,Y b->X b)->(∀b,X b->b∉aj S)->Own w (live X S) S->cq w (live X S) d v->cq w Y d' v
theorem cq.bare{w:World}{X Y:Nat->Prop}{d:D}{v:Value}(h:cq w (live X S) d v)(E:∀b,Y b->X b):cq w Y d v:=h.mono fun b _ hn=>⟨rfl,fun hy=>hn (.inl (E b hy))⟩
theorem fq{d:D}:View S d d:=fun X Y w v E _ _ h=>h.bare E
theorem zX:View S (.v (.slice none 0 0)) (.list sz [] 0):=fun X Y w v _ _ _ h=>by rw[h.lQ];exact .nil sz
theorem afw{cs:List D}(hk:S[k]?=some B)(hb:B.b=b)(dz:B.cs=cs)(hl:cs.length=n*sz)(h1:n<=cap)(h2:cap<=maxLen)(hne:isMap B.e=false:=by rfl):View S (.v (.slice (some ⟨b,0,none⟩) n cap)) (.list sz cs n):=fun X Y w v E O ho h=>by
 subst hb dz;rw[h.lQ];obtain⟨r0,cur,r1,r2,U,I⟩:=ho.at_ B (mem_of_getElem? hk);rw[lp hne] at r1;refine .list sz B.cs n B.b 0 cap (fun i=>cur.getD i undef) hl h1 h2 r0 (fun hy=>O _ (E _ hy) (mem_map.2 ⟨B,mem_of_getElem? hk,rfl⟩)) (fun i hi=>?_) (fun i hi=>?_)
 ·obtain⟨u,hu,_⟩:=I i hi;rw[Nat.zero_add,pc r1 hu];simp[hu]
 obtain⟨u,hu,hq⟩:=I i hi;simp only[Array.getD_eq_getD_getElem?,hu,Option.getD_some];exact hq.bare E
def hU(S:List ag):List D->List D->Prop
 | [],[]=>True
 | d::r,d'::r'=>View S d d'/\hU S r r'
 | _,_=>False
theorem hU.spec{S:List ag}:∀{ds E:List D},hU S ds E->ds.length=E.length/\∀i (h:i<ds.length) (h':i<E.length),View S ds[i] E[i]
 | [],[],_=>⟨rfl,fun i h=>by simp at h⟩
 | d::r,d'::r',h=>⟨by simp[(hU.spec h.2).1],fun i h1 h2=>by
  cases i with
  | zero=>exact h.1
  | succ i=>exact(hU.spec h.2).2 i _ _⟩
 | [],_::_,h=>h.elim
 | _::_,[],h=>h.elim
theorem v8{ds E:List D}(h:hU S ds E):View S (.agg ds) (.agg E):=fun X Y w v O U ho hr=>by
 obtain⟨h1,h2⟩:=h.spec;cases hr with
 | agg _ vs hl I=>exact .agg E vs w4 fun i q1 q2=>h2 i w4 q1 X Y w _ O U ho (I i w4 q2)
def Looks(x:St):List Operand->List D->Prop
 | [],[]=>True
 | o::r,d::r'=>(∃d0,aD x o=d0/\View x.S d0 d)/\Looks x r r'
 | _,_=>False
theorem Looks.DZ{C:dJ}{a:Act}{w:World}(h:bB C x a w):∀{os:List Operand} {ds:List D},Looks x os ds->cM w (fun _=>False) ds (os.map a.eval)
 | [],[],_=>⟨rfl,fun i h=>by simp at h⟩
 | o::r,d::r',⟨⟨d0,h1,h2⟩,h3⟩=>cM.cons (h2 _ _ _ _ (fun _ hf=>hf.elim) h.Bx h.own (h1 ▸ h.eval o)) (Looks.DZ h h3)
 | [],_::_,h=>h.elim
 | _::_,[],h=>h.elim
theorem FQ{ds E:List D}(h:hU S ds E):View S (.dB ds) (.dB E):=fun X Y w v O U ho hr=>by
 obtain⟨h1,h2⟩:=h.spec;cases hr with
 | dB _ vs hl I=>exact .dB E vs w4 fun i q1 q2=>h2 i w4 q1 X Y w _ O U ho (I i w4 q2)
theorem VC.cover{f:FuncId}{args:List D}{post:D->List ag->Prop}{E:D}(h:VC P G f args [] post)(hv:∀r S',post r S'->View S' r E):VP P G f args E:=fun X w vs hp =>
 (h X w vs hp).mono fun e w' ⟨v,r,S',h1,h2,h3,h4,h5⟩=>by
  have I:∀b,X b->b∉aj S':=fun b hb=>(h5.block b (hp.ex b hb).1 (hp.ex b hb).2).2;refine⟨v,E,[],h1,⟨rfl,rfl⟩,⟨fun B hB=>by simp at hB,by simp[aj]⟩,hv r S' h2 X _ w' v (fun b hb=>?_) I h3 h4,⟨h5.os,h5.tape,h5.output,h5.size,fun b hb hn=>⟨(h5.block b hb hn).1,by simp[aj]⟩⟩⟩;rcases hb with hb|hb
  ·exact hb
  simp[aj] at hb
def lP:D->Bool
 | .v _=>true
 | .dB cs=>cs.all fun d=>match d with|.v _=>true|.agg es=>es.all (fun e=>match e with|.v _=>true|_=>false)|_=>false
 | .agg cs=>cs.all fun d=>match d with|.v _=>true|_=>false
 | _=>false
theorem cq.flat{w w':World}{L I:Nat->Prop}{d:D}{v:Value}(h:cq w L d v)(hf:lP d=true):cq w' I d v:=by
 have key:∀(d:D),(match d with|.v _=>true|_=>false)=true->∀v,cq w L d v->cq w' I d v:=fun d hd v h=>by
  cases d<;>simp at hd
  rw[h.lQ];exact .v _
 have E:∀(d:D),(match d with|.v _=>true|.agg es=>es.all (fun e=>match e with|.v _=>true|_=>false)|_=>false)=true->∀v,cq w L d v->cq w' I d v:=fun d hd v h=>by
  cases d<;>simp at hd
  ·rw[h.lQ];exact .v _
  cases h with
  | agg _ vs hl hr=>exact .agg _ vs hl fun i h1 h2=>key _ (by have:=hd _ (getElem_mem h1);simpa using this) _ (hr i h1 h2)
 cases h with
 | v=>exact .v _
 | dB cs vs hl hr=>exact .dB cs vs hl fun i h1 h2=>E _ (all_eq_true.1 hf _ (getElem_mem h1)) _ (hr i h1 h2)
 | agg cs vs hl hr=>exact .agg cs vs hl fun i h1 h2=>key _ (all_eq_true.1 hf _ (getElem_mem h1)) _ (hr i h1 h2)
 | _=>cases hf
theorem adQ{t':TypeId}{cs:List D}{z:Operand}(ho:o.op = .binOp .eql t y z t')(hd:o.dst=some tt)(hy:aD x y = .list sz cs n)(hz:aD x z = .v (.slice none 0 0))(ht:P.underlying t=some (.slice e)) :
  fh P G x o [] (fun s=>∃b:Bool,(b=true->n=0/\cs=[])/\s=x.put tt (.v (.bool b))):=fun C a w K Q hG h hK=>by
 have hr:=h.eval y;rw[hy] at hr;generalize hg:a.eval y=u at hr;have E:∀ad len cap,u = .slice ad len cap->(execOp a.eval o).run P w = .ok (.value (.bool ad.isNone)) w:=fun ad len cap I=>by
  subst I;unfold execOp;have e1:binOp .eql t (.slice ad len cap) (.slice none 0 0)=(do pure (.bool (<-Op.equal t (.slice ad len cap) (.slice none 0 0)))):=rfl;simp only[ho,hg,h.flat hz,eqGuard,e1,Sem.run_bind];simp[run_equal_slice_nil w t e ad len cap ht]
 unfold Oper.wp;cases hr with
 | ni _ ad cap =>
  rw[E ad 0 cap rfl,Oper.upon_value,hd];exact hK _ _ _ ⟨ad.isNone,fun _=>⟨rfl,rfl⟩,rfl⟩ (h.put (.v _)) (mT.refl _ _) (Fr.refl _ _)
 | list _ _ _ b o' cap f hl q1 q2 hb hL hc O =>
  rw[E (some ⟨b,o',none⟩) n cap rfl,Oper.upon_value,hd];exact hK _ _ _ ⟨false,(fun U=>absurd U bp),rfl⟩ (h.put (.v _)) (mT.refl _ _) (Fr.refl _ _)
theorem zY {t':TypeId} {cs:List D} {z:Operand} (hw:bV ops x o true) (ho:o.op = .binOp .eql t y z t') (hd:o.dst=some tt) (hy:aD x y = .list sz cs n) (hz:aD x z = .v (.slice none 0 0)) (ht:P.underlying t=some (.slice e))
  (K:∀b:Bool,(b=true->n=0/\cs=[])->OD P C ops l (x.put tt (.v (.bool b))) Q):OD P C ops (o::l) x Q :=
 OD.gm hw (adQ ho hd hy hz ht) fun y ⟨b,hb,hy⟩=>hy ▸ K b hb
theorem adR(ho:o.op = .buildSlice t 0 #[])(j4:o.dst=some tt)(E:∀w,(underlying t).run P w = .ok (.slice e) w)(hs:∀w,(sizeOf e).run P w = .ok sz w)(hne:isMap e=false:=by rfl) :
  fh P G x o [] (fun s=>∃b,s=⟨x.n,(tt,.v (.slice (some ⟨b,0,none⟩) 0 0))::x.env,⟨b,e,0*sz,[]⟩::x.S⟩):=fun C a w K Q hG h hK=>by
 unfold Oper.wp;have:(execOp a.eval o).run P w = .ok (.value (.slice (some ⟨w.heap.size,0,none⟩) 0 0)) (w.alloc (.cells #[] e)):=by
  unfold execOp;have I:Array.map (fun x=>(default:Value)) (Array.range 0) = #[]:=Array.eq_empty_of_size_eq_zero bp;simp[ho,Instr.buildSlice,E,hs,Instr.fill,newRow,I]
 rw[this,Oper.upon_value,j4];exact hK _ _ _ ⟨w.heap.size,rfl⟩ (h.new (hne:=hne) (ds:=[]) (cM.nil _ _) bp (fun L=>.v _)) (mT.alloc _ _) (Fr.alloc _ _ _)
theorem zZ (hw:bV ops x o true) (ho:o.op = .buildSlice t 0 #[]) (j4:o.dst=some tt) (E:∀w,(underlying t).run P w = .ok (.slice e) w) (hs:∀w,(sizeOf e).run P w = .ok sz w)
  (K:∀b,OD P C ops l ⟨x.n,(tt,.v (.slice (some ⟨b,0,none⟩) 0 0))::x.env,⟨b,e,0*sz,[]⟩::x.S⟩ Q) (hne:isMap e=false:=by rfl):OD P C ops (o::l) x Q :=
 OD.gm hw (adR (hne:=hne) ho j4 E hs) fun y ⟨b,hy⟩=>hy ▸ K b
def bq(e sz:Nat)(cs:List D)(n:Nat)(ad:Option Addr)(cap:Nat)(S:List ag):Prop :=
 (n=0/\cs=[]/\ad=none/\cap=0/\S=[])\/∃b,ad=some ⟨b,0,none⟩/\n<=cap/\cap<=maxLen/\S=[⟨b,e,cap*sz,cs⟩]
theorem mX{e:Nat}{cs:List D}(h:bq e sz cs n ad cap Sq)(hl:cs.length=n*sz)(hs:∀B∈Sq,B∈S)(hne:isMap e=false:=by rfl):View S (.v (.slice ad n cap)) (.list sz cs n):=by
 rcases h with ⟨rfl,rfl,rfl,rfl,rfl⟩|⟨b,rfl,h1,h2,rfl⟩
 ·exact zX
 obtain⟨k,hk,he⟩:=mem_iff_getElem.1 (hs _ mem_cons_self);exact afw (hne:=hne) (k:=k) (by rw[getElem?_eq_getElem hk,he]) rfl rfl hl h1 h2
theorem bq.le{e:Nat}{cs:List D}(h:bq e sz cs n ad cap S):n<=cap:=by
 rcases h with ⟨rfl,_,_,rfl,_⟩|⟨_,_,h,_⟩
 ·exact Nat.le_refl _
 exact h
theorem Wk.perm{env:List (Nat×D)}(hp:S.Perm S'):Wk ⟨n,env,S⟩ ⟨n,env,S'⟩:=fun C a w h=>by
 have hb:(aj S).Perm (aj S'):=hp.map ag.b;have hl:live C.X S=live C.X S':=(by funext b;exact propext (or_congr Iff.rfl hb.mem_iff))
 have E:=h.env;have fy:=h.own;simp only[hl] at E fy;exact⟨h.defers,h.size,E,⟨fun B hB=>fy.at_ B (hp.symm.subset hB),hb.nodup_iff.1 fy.apart⟩,
  ⟨h.fr.os,h.fr.tape,h.fr.output,h.fr.size,fun b h1 h2=>⟨(h.fr.block b h1 h2).1,fun hm=>(h.fr.block b h1 h2).2 (hb.symm.subset hm)⟩⟩,h.ex,h.eI⟩
theorem bZ(hp:x.S.Perm S')(k:OD P C ops l ⟨x.n,x.env,S'⟩ Q):OD P C ops l x Q:=fC (Wk.perm hp) k
theorem gq(hp:x.S.Perm S')(k:AD P C ops S1 T fuel ld ⟨x.n,x.env,S'⟩ Q):AD P C ops S1 T fuel ld x Q:=FO (Wk.perm hp) (fun b hb=>(hp.map ag.b).symm.subset hb) k
theorem qs{c:Code}(hp:x.S.Perm S')(k:CD P C c ⟨x.n,x.env,S'⟩ Q):CD P C c x Q:=kS (Wk.perm hp) k
theorem Wk.cover{l:List (Nat×D)}{Sd:List ag}{A:ag}(hp:S.Perm ((A::R)++Sd))(hv:hU Sd A.cs cs'):Wk ⟨n,l,S⟩ ⟨n,l,{A with cs:=cs'}::R⟩:=fun C a w h0=>by
 have h:=Wk.perm hp C a w h0;have hd:bB C ⟨n,l,A::R⟩ a w:=Wk.drop n l _ (A::R) (sublist_append_left _ _) C a w h;obtain⟨v1,v2⟩:=hv.spec;have O:live C.X ({A with cs:=cs'}::R)=live C.X (A::R):=rfl;have hL:live C.X ((A::R)++Sd)=live (fun b=>live C.X (A::R) b) Sd:=by
  funext b;simp only[live,aj,map_append,mem_append];exact propext or_assoc.symm
 have hnd:(aj (A::R)++aj Sd).Nodup:=(by have:=h.own.apart;simpa[aj] using this)
 have U:∀b,live C.X (A::R) b->b∉aj Sd:=fun b hb hm=>by
  rcases hb with hb|hb
  ·exact h.Bx b hb (by simp only[aj,map_append,mem_append] at hm |-;exact .inr hm)
  exact(nodup_append.1 hnd).2.2 b hb b hm rfl
 have E:Own w (live (fun b=>live C.X (A::R) b) Sd) Sd:=⟨fun B hB=>by rw[<-hL];exact h.own.at_ B (mem_append_right _ hB),(nodup_append.1 hnd).2.1⟩
 refine⟨hd.defers,hd.size,hd.env,⟨fun B hB=>?_,hd.own.apart⟩,hd.fr,hd.ex,hd.eI⟩;rcases mem_cons.1 hB with rfl|hB
 ·obtain⟨r0,cur,r1,r2,Z,r4⟩:=h.own.at_ A (mem_append_left _ mem_cons_self);refine⟨r0,cur,r1,r2,by rw[<-v1];exact Z,fun i hi=>?_⟩;have I:i<A.cs.length:=(by rw[v1];exact hi)
  obtain⟨u,hu,hq⟩:=r4 i I;refine⟨u,hu,v2 i I hi (fun b=>live C.X (A::R) b) _ w u (fun b hb=>hb) U E ?_⟩;rw[<-hL];exact hq
 exact hd.own.at_ B (mem_cons_of_mem _ hB)
theorem OD.cover{R Sd:List ag}{A:ag}{cs':List D}(hp:x.S.Perm ((A::R)++Sd))(hv:hU Sd A.cs cs')(k:OD P C ops l ⟨x.n,x.env,{A with cs:=cs'}::R⟩ Q):OD P C ops l x Q:=fC (Wk.cover hp hv) k
theorem Fj(hk:S[k]?=some B)(hp:S.Perm (B::R)):(S.eraseIdx k).Perm R:=((vX hk).symm.trans hp).cons_inv
theorem ahi {t:Nat} {cs:List D} (hk:x.S[k]?=some B) (ht:V.look t x.env = .v (.slice (some ⟨b,0,none⟩) m cap)) (hb:B.b=b) (dz:B.cs=cs) (hl:cs.length=m*sz) (h1:m<=cap) (h2:cap<=maxLen)
  (K:OD P C ops l ⟨x.n,(t,.list sz cs m)::x.env,x.S.eraseIdx k⟩ Q) (hne:isMap B.e=false:=by rfl):OD P C ops l x Q:=by
 subst hb;exact fC (Wk.Da (hne:=hne) (n:=x.n) (l:=x.env) (S:=x.S) hk ht dz hl h1 h2) K
theorem ahj {t:Nat} {cs:List D} (hk:x.S[k]?=some B) (ht:V.look t x.env = .v (.slice (some ⟨b,0,none⟩) m cap)) (hb:B.b=b) (dz:B.cs=cs) (hl:cs.length=m*sz) (h1:m<=cap) (h2:cap<=maxLen)
  (K:AD P C ops S1 T fuel ld ⟨x.n,(t,.list sz cs m)::x.env,x.S.eraseIdx k⟩ Q) (hne:isMap B.e=false:=by rfl):AD P C ops S1 T fuel ld x Q:=by
 subst hb;exact FO (Wk.Da (hne:=hne) (n:=x.n) (l:=x.env) (S:=x.S) hk ht dz hl h1 h2) (fun b hb=>(Sublist.map ag.b (eraseIdx_sublist x.S k)).subset hb) K
theorem ab2 {s:Operand} {t e bytes:Nat} {z:Value} {cs new:List D} (hw:bV ops x o true) (ho:o.op = .call {callee:=.builtin .append,args:=#[s,y],argTypes:=#[t,t]}) (hd:o.dst=some tt)
  (ht:P.underlying t=some (.slice e)) (hi:(P.info? e).map (fun i=>(i.zero,i.size,i.bytes))=some (some z,sz,bytes)) (eM:z.cells.size=sz) (dg:0<sz)
  (hs:aD x s = .v (.slice ad n cap)) (U:bq e sz cs n ad cap Sq) (hp:x.S.Perm (Sq++R)) (hl:cs.length=n*sz)
  (hy:aD x y = .list sz new m) (jw:∀d∈new,one d=true) (hm:0<m) (Z:n+m<=maxLen) (E:(n+m)*bytes<=140737488355328)
  (K:∀I aO,n+m<=aO->aO<=maxLen->OD P C ops l ⟨x.n,(tt,.v (.slice (some ⟨I,0,none⟩) (n+m) aO))::x.env,⟨I,e,aO*sz,cs++new⟩::R⟩ Q) (hne:isMap e=false:=by rfl):OD P C ops (o::l) x Q:=by
 rcases U with ⟨rfl,rfl,rfl,rfl,rfl⟩|⟨b,rfl,h1,h2,rfl⟩
 ·refine ab1 (hne:=hne) hw ho hd ht hi eM dg hs hy jw hm w4 (by rw[Nat.zero_add] at E;exact E) fun I aO q1 q2=>?_;have:=K I aO w4 q2;rw[Nat.zero_add] at this;exact fC (Wk.perm (hp.cons _)) this
 obtain⟨k,hk,he⟩:=mem_iff_getElem.1 (hp.symm.subset (mem_append_left _ mem_cons_self));have O:x.S[k]?=some (⟨b,e,cap*sz,cs⟩:ag):=(by rw[getElem?_eq_getElem hk,he])
 refine OD.append (hne:=hne) hw ho hd ht hi eM dg hs O rfl rfl rfl hl h1 h2 hy jw hm Z E fun I aO q1 q2=>?_;exact fC (Wk.perm ((Fj O hp).cons _)) (K I aO q1 q2)
theorem Qs {s:Operand} {t e bytes:Nat} {z:Value} {cs new:List D} (U:ops[i]?=some o) (hw:bV ops x o true) (ho:o.op = .call {callee:=.builtin .append,args:=#[s,y],argTypes:=#[t,t]}) (hd:o.dst=some tt)
  (ht:P.underlying t=some (.slice e)) (hi:(P.info? e).map (fun i=>(i.zero,i.size,i.bytes))=some (some z,sz,bytes)) (eM:z.cells.size=sz) (dg:0<sz)
  (hs:aD x s = .v (.slice ad n cap)) (Z:bq e sz cs n ad cap Sq) (hp:x.S.Perm (Sq++R)) (hl:cs.length=n*sz)
  (hy:aD x y = .list sz new m) (jw:∀d∈new,one d=true) (hm:0<m) (oY:n+m<=maxLen) (E:(n+m)*bytes<=140737488355328) (hT:∀b∈T,b∈aj R)
  (K:∀O aO,n+m<=aO->aO<=maxLen->AD P C ops S1 T fuel (ld.setIfInBounds i true) ⟨x.n,(tt,.v (.slice (some ⟨O,0,none⟩) (n+m) aO))::x.env,⟨O,e,aO*sz,cs++new⟩::R⟩ Q) (hne:isMap e=false:=by rfl):gQ P C ops S1 T fuel ld x Q i:=by
 rcases Z with ⟨rfl,rfl,rfl,rfl,rfl⟩|⟨b,rfl,h1,h2,rfl⟩
 ·refine abE (hne:=hne) U hw ho hd ht hi eM dg hs hy jw hm w4 (by rw[Nat.zero_add] at E;exact E) fun O aO q1 q2=>?_;have:=K O aO w4 q2;rw[Nat.zero_add] at this;exact FO (Wk.perm (hp.cons _)) (fun b hb=>((hp.cons _).map ag.b).symm.subset hb) this
 obtain⟨k,hk,he⟩:=mem_iff_getElem.1 (hp.symm.subset (mem_append_left _ mem_cons_self));have I:x.S[k]?=some (⟨b,e,cap*sz,cs⟩:ag):=(by rw[getElem?_eq_getElem hk,he])
 refine gQ.append (hne:=hne) U hw ho hd ht hi eM dg hs I rfl rfl rfl hl h1 h2 hy jw hm oY E (fun b hb=>((Fj I hp).map ag.b).symm.subset (hT b hb)) fun O aO q1 q2=>?_;exact FO (Wk.perm ((Fj I hp).cons _)) (fun b hb=>(((Fj I hp).cons _).map ag.b).symm.subset hb) (K O aO q1 q2)
theorem oe {o':Nat} {d:D} {z:Operand} (hw:bV ops x o true) (ho:o.op = .store t y z) (j4:o.dst=none) (hy:aD x y = .v (.pointer (some ⟨b,o',none⟩)))
  (hk:x.S[k]?=some B) (hb:B.b=b) (hz:aD x z=d) (hj:kV d=true) (h1:(cellsOf d).all one=true) (hn:∀w,(sizeOf t).run P w = .ok n w) (gz:(cellsOf d).length=n) (hl:o'+n<=B.cs.length) (dz:dx B.cs o' (cellsOf d)=cs')
  (K:OD P C ops l ⟨x.n,x.env,x.S.set k {B with cs:=cs'}⟩ Q) (hne:isMap B.e=false:=by rfl):OD P C ops (o::l) x Q :=
 OD.gm hw (Fu (hne:=hne) ho j4 hy hk hb hz (fun h=>by rw[h] at hj;cases hj) h1 hn gz hl dz) fun y hy=>hy ▸ K
theorem vW {o':Nat} {d:D} {z:Operand} (hi:ops[i]?=some o) (hw:bV ops x o true) (ho:o.op = .store t y z) (j4:o.dst=none) (hy:aD x y = .v (.pointer (some ⟨b,o',none⟩)))
  (hk:x.S[k]?=some B) (hb:B.b=b) (hz:aD x z=d) (hj:kV d=true) (h1:(cellsOf d).all one=true) (hn:∀w,(sizeOf t).run P w = .ok n w) (gz:(cellsOf d).length=n) (hl:o'+n<=B.cs.length) (dz:dx B.cs o' (cellsOf d)=cs')
  (hT:∀b∈T,b∈aj (x.S.eraseIdx k))
  (K:AD P C ops S1 T fuel (ld.setIfInBounds i true) ⟨x.n,x.env,x.S.set k {B with cs:=cs'}⟩ Q) (hne:isMap B.e=false:=by rfl):gQ P C ops S1 T fuel ld x Q i :=
 gQ.gm hi hw (Fu (hne:=hne) ho j4 hy hk hb hz (fun h=>by rw[h] at hj;cases hj) h1 hn gz hl dz) (fun C a w hs I E=>hb ▸ HA hs hk hT I E) (fun I E=>by
  have:I=b:=(by simpa using E)
  subst this;rw[<-hb];exact Cs hk) fun y hy=>hy ▸ K
end
section
variable {P:Program} {G:List (Nat×List Value)} {x:St} {o:Oper} {S:List ag}
variable {y:Operand} {d0:D} {k b o' n sz i j cap h' l':Nat} {t e:TypeId} {B:ag} {α:Type} {ad:Option Addr} {lo hi:Option Operand} {l:List Oper} {Q:Exit->St->Prop} {ops:Array Oper} {cs':List D}
def R1(P:Program)(G:List (Nat×List Value))(S:List ag)(mk:Operand->Op)(d0:D)(k:Rd)(d:D):Prop:=∀x o y,o.op=mk y->aD x y=d0->x.S=S->bS P G x o k d
theorem dN{mk:Operand->Op}{d:D}{k:Rd}(ho:o.op=mk y)(hy:aD x y=d0)(H:R1 P G x.S mk d0 k d):bS P G x o k d:=H x o y ho hy rfl
def R2(P:Program)(G:List (Nat×List Value))(S:List ag)(mk:Operand->Operand->Op)(d0 d1:D)(k:Rd)(d:D):Prop:=∀x o y z,o.op=mk y z->aD x y=d0->aD x z=d1->x.S=S->bS P G x o k d
theorem tV{mk:Operand->Operand->Op}{z:Operand}{d1 d:D}{k:Rd}(ho:o.op=mk y z)(hy:aD x y=d0)(hz:aD x z=d1)(H:R2 P G x.S mk d0 d1 k d):bS P G x o k d:=H x o y z ho hy hz rfl
theorem Av{t:Nat}{d:D}(hk:S[k]?=some B)(hb:B.b=b)(ha:∀w,(isAgg t).run P w = .ok false w)(hd:B.cs[o']?=some d)(hne:isMap B.e=false:=by rfl):R1 P G S (Op.load t) (.v (.pointer (some ⟨b,o',none⟩))) (.fP k) d:=fun x o y ho hy hS=>Ff (hne:=hne) ho hy (hS ▸ hk) hb ha hd
theorem ry{t:Nat}{ds:List D}(hk:S[k]?=some B)(hb:B.b=b)(ha:∀w,(isAgg t).run P w = .ok true w)(hn:∀w,(sizeOf t).run P w = .ok n w)(hl:ds.length=n)(hd:(B.cs.drop o').take n=ds)(hne:isMap B.e=false:=by rfl):R1 P G S (Op.load t) (.v (.pointer (some ⟨b,o',none⟩))) (.fP k) (.agg ds):=fun x o y ho hy hS=>BX (hne:=hne) ho hy (hS ▸ hk) hb ha hn hl hd
theorem De{t:Nat}{cs:List D}{d:D}(ha:∀w,(isAgg t).run P w = .ok false w)(hd:cs[o']?=some d):R1 P G S (Op.load t) (.fT cs o') .kL d:=fun x o y ho hy _=>Fe ho hy ha hd
theorem rE{t:Nat}{cs ds:List D}(ha:∀w,(isAgg t).run P w = .ok true w)(hn:∀w,(sizeOf t).run P w = .ok n w)(hl:ds.length=n)(hd:(cs.drop o').take n=ds):R1 P G S (Op.load t) (.fT cs o') .kL (.agg ds):=fun x o y ho hy _=>Jh ho hy ha hn hl hd
theorem wG{g:α->List D}{t:Nat}{ls:List α}{d:D}(hg:∀a,(g a).length=sz)(ha:∀w,(isAgg t).run P w = .ok false w)(hi:i<ls.length)(hd:(g ls[i])[j]?=some d):R1 P G S (Op.load t) (.fT (ls.flatMap g) (i*sz+j)) .kL d:=De ha (Am hg hi hd)
theorem sI{g:α->List D}{t:Nat}{ls:List α}{d:D}(hg:∀a,(g a).length=sz)(ha:∀w,(isAgg t).run P w = .ok false w)(hi:i<ls.length)(hd:(g ls[i])[0]?=some d):R1 P G S (Op.load t) (.fT (ls.flatMap g) (i*sz)) .kL d:=De ha (Kk hg hi hd)
theorem kR{g:α->List D}{t:Nat}{ls:List α}(hg:∀a,(g a).length=sz)(ha:∀w,(isAgg t).run P w = .ok true w)(hn:∀w,(sizeOf t).run P w = .ok sz w)(hi:i<ls.length):R1 P G S (Op.load t) (.fT (ls.flatMap g) (i*sz)) .kL (.agg (g ls[i])):=rE ha hn (hg _) (GW hg hi)
theorem ai4{t:Nat}{vs:List Value}{v:Value}(hg:(b,vs)∈G)(ha:∀w,(isAgg t).run P w = .ok false w)(hd:vs[o']?=some v)(rU:sF v=true:=by rfl):R1 P G S (Op.load t) (.v (.pointer (some ⟨b,o',none⟩))) .kL (.v v):=fun x o y ho hy _=>ach ho hy hg ha hd rU
theorem l9{g:α->List D}{t:Nat}{ls:List α}{d:D}(hg:∀a,(g a).length=sz)(hk:S[k]?=some B)(hb:B.b=b)(dz:B.cs=ls.flatMap g)(ha:∀w,(isAgg t).run P w = .ok false w)(hi:i<ls.length)(hd:(g ls[i])[j]?=some d)(hne:isMap B.e=false:=by rfl):R1 P G S (Op.load t) (.v (.pointer (some ⟨b,0+i*sz+j,none⟩))) (.fP k) d :=
 Av (hne:=hne) hk hb ha (by rw[dz,Nat.zero_add];exact Am hg hi hd)
theorem ke{g:α->List D}{t:Nat}{ls:List α}{d:D}(hg:∀a,(g a).length=sz)(hk:S[k]?=some B)(hb:B.b=b)(dz:B.cs=ls.flatMap g)(ha:∀w,(isAgg t).run P w = .ok false w)(hi:i<ls.length)(hd:(g ls[i])[0]?=some d)(hne:isMap B.e=false:=by rfl):R1 P G S (Op.load t) (.v (.pointer (some ⟨b,0+i*sz,none⟩))) (.fP k) d :=
 Av (hne:=hne) hk hb ha (by rw[dz,Nat.zero_add];exact Kk hg hi hd)
theorem dO{g:α->List D}{t:Nat}{ls:List α}(hg:∀a,(g a).length=sz)(hk:S[k]?=some B)(hb:B.b=b)(dz:B.cs=ls.flatMap g)(ha:∀w,(isAgg t).run P w = .ok true w)(hn:∀w,(sizeOf t).run P w = .ok sz w)(hi:i<ls.length)(hne:isMap B.e=false:=by rfl):R1 P G S (Op.load t) (.v (.pointer (some ⟨b,0+i*sz,none⟩))) (.fP k) (.agg (g ls[i])) :=
 ry (hne:=hne) hk hb ha hn (hg _) (by rw[dz,Nat.zero_add];exact GW hg hi)
theorem US{len:Nat}{ts:Array TypeId}(ht:ts = #[t])(E:∀w,(underlying t).run P w = .ok (.slice e) w):R1 P G S (fun y=>.call {callee:=.builtin .len,args:=#[y],argTypes:=ts}) (.v (.slice ad len cap)) .none (.v (.int .i64 len)):=fun x o y ho hy _=>QY ho ht hy E
theorem we{len:Nat}{cs:List D}{k:IntKind}{i:Int}(E:∀w,(underlying t).run P w = .ok (.slice e) w)(hs:∀w,(sizeOf e).run P w = .ok sz w)(hi:i=j)(hj:j<len):R2 P G S (Op.indexAddr t) (.list sz cs len) (.v (.int k i)) .none (.fT cs (j*sz)):=fun x o y z ho hy hz _=>Rm ho hy hz E hs hi hj
theorem wB{len:Nat}{k:IntKind}{i:Int}(E:∀w,(underlying t).run P w = .ok (.slice e) w)(hs:∀w,(sizeOf e).run P w = .ok sz w)(hi:i=j)(hj:j<len):R2 P G S (Op.indexAddr t) (.v (.slice (some ⟨b,o',none⟩) len cap)) (.v (.int k i)) .none (.v (.pointer (some ⟨b,o'+j*sz,none⟩))):=fun x o y z ho hy hz _=>QX ho hy hz E hs hi hj
theorem Wi{len:Nat}{k:IntKind}{i:Int}(E:∀w,(underlying t).run P w = .ok (.array len e) w)(hs:∀w,(sizeOf e).run P w = .ok sz w)(hi:i=j)(hj:j<len):R2 P G S (Op.indexAddr t) (.v (.pointer (some ⟨b,o',none⟩))) (.v (.int k i)) .none (.v (.pointer (some ⟨b,o'+j*sz,none⟩))):=fun x o y z ho hy hz _=>acM ho hy hz E hs hi hj
def Bd(x:St)(y:Option Operand)(n:Nat):Prop:=match y with|some y=>∃(k:IntKind),aD x y = .v (.int k n)|none=>True
def Rs(P:Program)(G:List (Nat×List Value))(t:TypeId)(lo hi:Option Operand)(l h:Nat)(d0:D)(d:D):Prop:=∀x o y,o.op = .slice t y lo hi none->aD x y=d0->Bd x lo l->Bd x hi h->bS P G x o .none d
theorem fb{l h:Nat}{d:D}(ho:o.op = .slice t y lo hi none)(hy:aD x y=d0)(hl:Bd x lo l)(E:Bd x hi h)(H:Rs P G t lo hi l h d0 d):bS P G x o .none d:=H x o y ho hy hl E
theorem sA{y:Option Operand}{df:Nat}(h:Bd x y n)(hd:y=none->n=df):nG x y n df:=by
 cases y with
 | none=>exact hd rfl
 | some y=>obtain⟨k,hk⟩:=h;exact⟨k,_,hk,rfl⟩
theorem pT {g:α->List D} (hg:∀a,(g a).length=sz) {ls:List α} (eJ:hi=none->h'=ls.length)
  (E:∀w,(underlying t).run P w = .ok (.slice e) w) (hs:∀w,(sizeOf e).run P w = .ok sz w) (h2:h'<=ls.length):Rs P G t lo hi 0 h' (.list sz (ls.flatMap g) ls.length) (.list sz ((ls.take h').flatMap g) (ls.take h').length):=fun x o y ho hy hl I =>
 acn hg ho hy (sA hl fun _=>rfl) (sA I eJ) E hs h2
theorem Ah {g:α->List D} {ls:List α} (E:h'=ls.length) (hg:∀a,(g a).length=sz) (ff:lo=none->l'=0)
  (I:∀w,(underlying t).run P w = .ok (.slice e) w) (hs:∀w,(sizeOf e).run P w = .ok sz w) (h2:l'<=ls.length):Rs P G t lo none l' h' (.list sz (ls.flatMap g) ls.length) (.list sz ((ls.drop l').flatMap g) (ls.drop l').length):=fun x o y ho hy hl O=>by
 subst E;exact aco hg ho hy (sA hl ff) rfl I hs h2
theorem ph {len:Nat} {cs:List D} (ff:lo=none->l'=0) (eJ:hi=none->h'=len)
  (E:∀w,(underlying t).run P w = .ok (.slice e) w) (hs:∀w,(sizeOf e).run P w = .ok sz w) (h1:l'<=h') (h2:h'<=len):Rs P G t lo hi l' h' (.list sz cs len) (.list sz ((cs.drop (l'*sz)).take ((h'-l')*sz)) (h'-l')):=fun x o y ho hy hl I =>
 Jj ho hy (sA hl ff) (sA I eJ) E hs h1 h2
theorem pU {len:Nat} (eJ:hi=none->h'=len)
  (E:∀w,(underlying t).run P w = .ok (.slice e) w) (hs:∀w,(sizeOf e).run P w = .ok sz w) (h2:h'<=cap):Rs P G t lo hi 0 h' (.v (.slice (some ⟨b,o',none⟩) len cap)) (.v (.slice (some ⟨b,o',none⟩) h' cap)):=fun x o y ho hy hl I =>
 QC ho hy (sA hl fun _=>rfl) (sA I eJ) E hs h2
theorem ai5 {s:ByteArray} (ff:lo=none->l'=0) (eJ:hi=none->h'=s.size)
  (E:∀w,(underlying t).run P w = .ok .string w) (h1:l'<=h') (h2:h'<=s.size):Rs P G t lo hi l' h' (.v (.string s)) (.v (.string (s.extract l' h'))):=fun x o y ho hy hl I =>
 abY ho hy (sA hl ff) (sA I eJ) E h1 h2
theorem fY {C:dJ} {g:α->List D} {ls new:List α} {s:Operand} {t e tt bytes:Nat} {z:Value} {Sq R:List ag} (hg:∀a,(g a).length=sz) (hg1:∀a,(g a).all one=true) (hw:bV ops x o true) (ho:o.op = .call {callee:=.builtin .append,args:=#[s,y],argTypes:=#[t,t]}) (hd:o.dst=some tt)
  (ht:P.underlying t=some (.slice e)) (hi:(P.info? e).map (fun i=>(i.zero,i.size,i.bytes))=some (some z,sz,bytes)) (eM:z.cells.size=sz) (dg:0<sz)
  (hs:aD x s = .v (.slice ad ls.length cap)) (O:bq e sz (ls.flatMap g) ls.length ad cap Sq) (hp:x.S.Perm (Sq++R))
  (hy:aD x y = .list sz (new.flatMap g) new.length) (hm:0<new.length) (U:ls.length+new.length<=maxLen) (E:(ls.length+new.length)*bytes<=140737488355328)
  (K:∀I aO,(ls++new).length<=aO->aO<=maxLen->OD P C ops l ⟨x.n,(tt,.v (.slice (some ⟨I,0,none⟩) (ls++new).length aO))::x.env,⟨I,e,aO*sz,(ls++new).flatMap g⟩::R⟩ Q) (hne:isMap e=false:=by rfl):OD P C ops (o::l) x Q :=
 ab2 (hne:=hne) hw ho hd ht hi eM dg hs O hp (cz hg ls) hy (sH hg1 new) hm U E fun I aO h1 h2=>by
  have:=K I aO (by rw[length_append];exact h1) h2;rw[length_append,flatMap_append] at this;exact this
theorem Wk.shrink{l:List (Nat×D)}{S:List ag}(hk:S[k]?=some B)(hp:cs' <+: B.cs):Wk ⟨n,l,S⟩ ⟨n,l,S.set k {B with cs:=cs'}⟩:=fun C a w h=>by
 have er:=(List.getElem?_eq_some_iff.1 hk).1;have U:=(List.getElem?_eq_some_iff.1 hk).2;have E:aj (S.set k {B with cs:=cs'})=aj S:=by
  unfold aj;rw[map_set];apply ext_getElem bp;intro i q1 q2;rw[getElem_set];split
  ·rename_i e;subst e;simp[U]
  rfl
 have I:live C.X (S.set k {B with cs:=cs'})=live C.X S:=(by funext b;simp only[live,E])
 refine⟨h.defers,h.size,fun t ht=>?_,⟨fun B' Z=>?_,?_⟩,?_,h.ex,h.eI⟩
 ·simp only[I];exact h.env t ht
 ·simp only[I];obtain⟨j,hj,O⟩:=mem_iff_getElem.1 Z;rw[length_set] at hj;rw[getElem_set] at O;by_cases e:k=j
  ·rw[if_pos e] at O;subst O;obtain⟨r0,cur,r1,r2,r3,r4⟩:=h.own.at_ B (mem_of_getElem? hk);refine⟨r0,cur,r1,r2,Nat.le_trans hp.length_le r3,fun i hi=>?_⟩;obtain⟨u,hu,hq⟩:=r4 i (Nat.lt_of_lt_of_le hi hp.length_le);refine⟨u,hu,?_⟩;have:cs'[i]=B.cs[i]'(Nat.lt_of_lt_of_le hi hp.length_le):=IsPrefix.getElem hp hi;simp only[this];exact hq
  rw[if_neg e] at O;subst O;exact h.own.at_ _ (getElem_mem hj)
 ·simp only[E];exact h.own.apart
 simp only[E];exact h.fr
theorem zR{C:dJ}(hk:x.S[k]?=some B)(hp:cs' <+: B.cs)(K:OD P C ops l ⟨x.n,x.env,x.S.set k {B with cs:=cs'}⟩ Q):OD P C ops l x Q:=fC (Wk.shrink hk hp) K
end
variable {P:Program} {C:dJ} {G:List (Nat×List Value)} {Q:Exit->St->Prop} {x:St} {ops:Array Oper} {l:List Oper} {o:Oper} {n:Nat} {e:List (Nat×D)} {S:List ag}
variable {t i:Nat} {b:Bool} {y c:Operand} {d':D} {kd:Rd} {l':List (Nat×D)} {p:Prop} {post:D->List ag->Prop}
def rX(P:Program)(t n:Nat):Bool:=match P.info? t with|some i=>Nat.beq i.size n|none=>false
theorem mF{n:Nat}(h:rX P t n=true):∀w,(sizeOf t).run P w = .ok n w:=by
 unfold rX at h;cases hi:P.info? t with
 | none=>rw[hi] at h;cases h
 | some i =>
  rw[hi] at h;intro w;have:=run_sizeOf (P:=P) w hi;rw[this];simp only[Program.cellsOf,hi,Option.map_some,Option.getD_some,Nat.eq_of_beq_eq_true h]
def rY(P:Program)(t:Nat)(b:Bool):Bool:=match P.underlying t with
 | some (.struct _)=>b
 | some (.array _ _)=>b
 | some _=>!b
 | none=>false
theorem jl(h:rY P t b=true):∀w,(isAgg t).run P w = .ok b w:=by
 unfold rY at h;intro w;cases hu:P.underlying t with
 | none=>rw[hu] at h;cases h
 | some d =>
  rw[hu] at h;have hr:=run_underlying hu w;unfold isAgg;rw[Sem.run_bind,hr];cases d<;>simp only at h<;>first|(subst h;rfl)|(cases b;rfl;cases h)
def D0(P:Program)(s i off:Nat):Bool:=match P.underlying s with
 | some (.struct fs)=>match fs[i]? with
  | some f=>Nat.beq f.offset off&&(match P.info? f.type with|some j=>Nat.ble 1 j.size|none=>false)
  | none=>false
 | _=>false
theorem akw{s off:Nat}(h:D0 P s i off=true):∃E f m,(∀w,(underlying s).run P w = .ok (.struct E) w)/\E[i]?=some f/\(∀w,(sizeOf f.type).run P w = .ok (m+1) w)/\f.offset=off:=by
 unfold D0 at h;split at h
 ·rename_i E I;split at h
  ·rename_i f hf;rw[Bool.and_eq_true] at h;obtain⟨h1,h2⟩:=h;split at h2
   ·rename_i j hj;have O:=Nat.le_of_ble_eq_true h2;refine⟨E,f,j.size-1,run_underlying I,hf,fun w=>?_,Nat.eq_of_beq_eq_true h1⟩;have:=run_sizeOf (P:=P) w hj;rw[this];simp only[Program.cellsOf,hj,Option.map_some,Option.getD_some];congr 1;omega
   cases h2
  cases h
 cases h
def D2(P:Program)(t sz:Nat):Bool:=match P.underlying t with
 | some (.slice e)=>rX P e sz
 | _=>false
theorem akx{sz:Nat}(h:D2 P t sz=true):∃e,(∀w,(underlying t).run P w = .ok (.slice e) w)/\∀w,(sizeOf e).run P w = .ok sz w:=by
 unfold D2 at h;split at h
 ·rename_i e E;exact⟨e,run_underlying E,mF h⟩
 cases h
def ON(P:Program)(t:Nat):Bool:=match P.underlying t with
 | some (.slice _)=>true
 | _=>false
theorem ai6(h:ON P t=true):∃e,∀w,(underlying t).run P w = .ok (.slice e) w:=by
 unfold ON at h;split at h
 ·rename_i e E;exact⟨e,run_underlying E⟩
 cases h
theorem bJ{z:Operand}{d:D}(ho:o.op = .move z\/o.op = .assign z:=by first|exact .inl rfl|exact .inr rfl)(hz:aD x z=d:=by first|exact ot|exact cf|exact u4|exact xX):bS P G x o .none d:=by
 rcases ho with h|h
 ·exact afu h hz
 exact afv h hz
inductive FA (off:Nat):D->D->Prop
 | p {b o':Nat}:FA off (.v (.pointer (some ⟨b,o',none⟩))) (.v (.pointer (some ⟨b,o'+off,none⟩)))
 | i {cs:List D} {o':Nat}:FA off (.fT cs o') (.fT cs (o'+off))
theorem dU(off:Nat){s:TypeId}{d:D}(ho:o.op = .fieldAddr s y i:=by exact rfl)(hy:aD x y=d:=by first|exact ot|exact xX)(hc:D0 P s i off=true:=by kernel_rfl)(h:FA off d d':=by first|exact .p|exact .i):bS P G x o .none d':=by
 obtain⟨fs,f,m,h1,h2,h3,h4⟩:=akw hc;cases h with
 | p=>exact acg ho hy h1 h2 h3 h4
 | i=>exact abX ho hy h1 h2 h3 h4
theorem qN{d:D}(ho:o.op = .nilCheck y:=by exact rfl)(hy:aD x y=d:=by exact ot)(h:FA 0 d d:=by first|exact .p|exact .i):bS P G x o .none d:=by
 cases h with
 | p=>exact abG ho hy
 | i=>exact abD ho hy
theorem OO{cs:List D}{d:D}(ho:o.op = .extract y i:=by exact rfl)(hy:aD x y = .dB cs:=by exact ot)(hd:cs[i]?=some d:=by exact rfl):bS P G x o .none d:=abM ho hy hd
inductive LD (S:List ag):D->Rd->D->Prop
 | b (k:Nat) {b o':Nat} {B:ag} {d:D} (hk:S[k]?=some B) (hb:B.b=b) (hd:B.cs[o']?=some d) (hne:isMap B.e=false):LD S (.v (.pointer (some ⟨b,o',none⟩))) (.fP k) d
 | m {α:Type} {g:α->List D} {sz i j:Nat} {ls:List α} {d:D} (hg:∀a,(g a).length=sz) (hi:i<ls.length) (hd:(g ls[i])[j]?=some d):LD S (.fT (ls.flatMap g) (i*sz+j)) .kL d
 | m0 {α:Type} {g:α->List D} {sz i:Nat} {ls:List α} {d:D} (hg:∀a,(g a).length=sz) (hi:i<ls.length) (hd:(g ls[i])[0]?=some d):LD S (.fT (ls.flatMap g) (i*sz)) .kL d
 | r (k:Nat) {α:Type} {g:α->List D} {b sz i j:Nat} {B:ag} {ls:List α} {d:D} (hg:∀a,(g a).length=sz) (hk:S[k]?=some B) (hb:B.b=b) (dz:B.cs=ls.flatMap g) (hi:i<ls.length) (hd:(g ls[i])[j]?=some d) (hne:isMap B.e=false):LD S (.v (.pointer (some ⟨b,0+i*sz+j,none⟩))) (.fP k) d
 | r0 (k:Nat) {α:Type} {g:α->List D} {b sz i:Nat} {B:ag} {ls:List α} {d:D} (hg:∀a,(g a).length=sz) (hk:S[k]?=some B) (hb:B.b=b) (dz:B.cs=ls.flatMap g) (hi:i<ls.length) (hd:(g ls[i])[0]?=some d) (hne:isMap B.e=false):LD S (.v (.pointer (some ⟨b,0+i*sz,none⟩))) (.fP k) d
 | i {o':Nat} {cs:List D} {d:D} (hd:cs[o']?=some d):LD S (.fT cs o') .kL d
theorem LD.still{t:TypeId}{d0 d:D}(h:LD x.S d0 kd d)(ho:o.op = .load t y)(hy:aD x y=d0)(ha:∀w,(isAgg t).run P w = .ok false w):bS P G x o kd d:=by
 cases h with
 | b k hk hb hd hne=>exact Ff (hne:=hne) ho hy hk hb ha hd
 | m hg hi hd=>exact Fe ho hy ha (Am hg hi hd)
 | m0 hg hi hd=>exact Fe ho hy ha (Kk hg hi hd)
 | r k hg hk hb dz hi hd hne=>exact l9 (hne:=hne) hg hk hb dz ha hi hd x o y ho hy rfl
 | r0 k hg hk hb dz hi hd hne=>exact ke (hne:=hne) hg hk hb dz ha hi hd x o y ho hy rfl
 | i hd=>exact Fe ho hy ha hd
theorem fW {t:TypeId} {d0 d:D} (ho:o.op = .load t y:=by exact rfl) (hy:aD x y=d0:=by exact ot) (ha:rY P t false=true:=by kernel_rfl)
  (h:LD x.S d0 kd d:=by first|exact .m AZ w5 rfl|exact .m0 AZ w5 rfl|exact .b 0 rfl rfl rfl rfl|exact .b 1 rfl rfl rfl rfl|exact .b 2 rfl rfl rfl rfl|exact .b 3 rfl rfl rfl rfl|exact .b 4 rfl rfl rfl rfl|exact .i rfl|exact .r 0 AZ rfl rfl rfl w5 rfl rfl|exact .r0 0 AZ rfl rfl rfl w5 rfl rfl|exact .r 1 AZ rfl rfl rfl w5 rfl rfl|exact .r0 1 AZ rfl rfl rfl w5 rfl rfl):bS P G x o kd d:=h.still ho hy (jl ha)
theorem ec(k:Nat){b o':Nat}{B:ag}{d:D}(ho:o.op = .load t y:=by exact rfl)(hy:aD x y = .v (.pointer (some ⟨b,o',none⟩)):=by exact ot)(hk:x.S[k]?=some B:=by exact rfl)(hb:B.b=b:=by exact rfl)(ha:rY P t false=true:=by kernel_rfl)(hd:B.cs[o']?=some d:=by exact rfl)(hne:isMap B.e=false:=by exact rfl):bS P G x o (.fP k) d:=Ff (hne:=hne) ho hy hk hb (jl ha) hd
theorem M6(k:Nat)(ds:List D){b o':Nat}{B:ag}(ho:o.op = .load t y:=by exact rfl)(hy:aD x y = .v (.pointer (some ⟨b,o',none⟩)):=by exact ot)(ha:rY P t true=true:=by kernel_rfl)(hk:x.S[k]?=some B:=by exact rfl)(hb:B.b=b:=by exact rfl)(hd:(B.cs.drop o').take ds.length=ds:=by exact rfl)(hne:isMap B.e=false:=by exact rfl)(hn:rX P t ds.length=true:=by kernel_rfl):bS P G x o (.fP k) (.agg ds):=BX (hne:=hne) ho hy hk hb (jl ha) (mF hn) rfl hd
inductive IX (sz:Nat) (i:Int):D->D->Prop
 | l {cs:List D} {len j:Nat} (hi:i=j) (hj:j<len):IX sz i (.list sz cs len) (.fT cs (j*sz))
 | r {b o' len cap j:Nat} (hi:i=j) (hj:j<len):IX sz i (.v (.slice (some ⟨b,o',none⟩) len cap)) (.v (.pointer (some ⟨b,o'+j*sz,none⟩)))
theorem ei (sz:Nat) {t:TypeId} {z:Operand} {k:IntKind} {i:Int} {d:D} (ho:o.op = .indexAddr t y z:=by exact rfl) (hy:aD x y=d:=by exact ot) (hz:aD x z = .v (.int k i):=by first|exact ot|exact cf) (hs:D2 P t sz=true:=by kernel_rfl)
  (h:IX sz i d d':=by first|exact .l rfl w5|exact .r rfl w5|exact .l (Int.toNat_of_nonneg w4).symm w4|exact .r (Int.toNat_of_nonneg w4).symm w4):bS P G x o .none d':=by
 obtain⟨e,h1,h2⟩:=akx hs;cases h with
 | l hi hj=>exact Rm ho hy hz h1 h2 hi hj
 | r hi hj=>exact QX ho hy hz h1 h2 hi hj
theorem zf{t:TypeId}{d:D}{m:Nat}{ts:Array TypeId}(ho:o.op = .call {callee:=.builtin .len,args:=#[y],argTypes:=ts}:=by exact rfl)(ht:ts = #[t]:=by exact rfl)(hy:aD x y=d:=by exact ot)(hs:ON P t=true:=by kernel_rfl)(h:(∃sz cs,d = .list sz cs m)\/∃ad cap,d = .v (.slice ad m cap):=by first|exact .inl ⟨_,_,rfl⟩|exact .inr ⟨_,_,rfl⟩):bS P G x o .none (.v (.int .i64 m)):=by
 obtain⟨e,he⟩:=ai6 hs;rcases h with ⟨sz,cs,rfl⟩|⟨ad,cap,rfl⟩
 ·exact adM ho ht hy he
 exact QY ho ht hy he
theorem qS {op:BinOp} {t t':TypeId} {z:Operand} {u u' r:Value} (ho:o.op = .binOp op t y z t':=by exact rfl) (hy:aD x y = .v u:=by first|exact ot|exact cf) (hz:aD x z = .v u':=by first|exact ot|exact cf)
  (hb:lO P op t u u' r:=by first|exact UP|exact UL|exact lI (wrap_i64 w4 w4)|exact iL (wrap_i64 w4 w4)|exact UQ|exact UN|exact UM|exact UO|exact KW (wrap_i64 w4 w4)|exact Ta|exact Tb|exact afx|exact afy|exact afz|exact afA|exact KY w4):bS P G x o .none (.v r):=dX ho hy hz hb
theorem lY{t:TypeId}(ho:o.op = .unOp .not t y:=by exact rfl)(hy:aD x y = .v (.bool b):=by exact ot):bS P G x o .none (.v (.bool !b)):=FM ho hy ai0
theorem yJ{z:Operand}{d:D}(ho:o.op = .pick c y z:=by exact rfl)(hc:aD x c = .v (.bool b):=by exact ot)(h:b=true:=by first|rfl|assumption)(hd:aD x y=d:=by first|exact ot|exact cf):bS P G x o .none d:=ack ho hc h hd
theorem wQ{z:Operand}{d:D}(ho:o.op = .pick c y z:=by exact rfl)(hc:aD x c = .v (.bool b):=by exact ot)(h:b=false:=by first|rfl|assumption)(hd:aD x z=d:=by first|exact ot|exact cf):bS P G x o .none d:=acm ho hc h hd
theorem bQ{d:D}(h:bS P C.G ⟨n,e,S⟩ o kd d)(K:OD P C ops l ⟨n,(t,d)::e,S⟩ Q)(hw:bV ops ⟨n,e,S⟩ o true:=by first|exact so rfl|exact vk rfl rfl rfl lk jQ)(hd:o.dst=some t:=by exact rfl):OD P C ops (o::l) ⟨n,e,S⟩ Q:=pR hw hd h K
theorem D3(K:OD P C ops l ⟨n,(t,.v (.tuple #[]))::e,S⟩ Q)(hw:bV ops ⟨n,e,S⟩ o false:=by exact nC rfl rfl rfl lk jQ)(hd:o.dst=some t:=by exact rfl):OD P C ops (o::l) ⟨n,e,S⟩ Q:=UI hw hd K
inductive eW:List Nat->List (Nat×D)->List (Nat×D)->Prop
 | nil {e:List (Nat×D)}:eW [] e []
 | cons {t:Nat} {ts:List Nat} {d:D} {e l':List (Nat×D)} (h:look t e=d) (k:eW ts e l'):eW (t::ts) e ((t,d)::l')
theorem eW.kU{ts:List Nat}{e:List (Nat×D)}(h:eW ts e l'):oN e l':=by
 induction h with
 | nil=>trivial
 | cons h _ ih=>exact⟨h,ih⟩
theorem nm_(ts:List Nat)(K:Q .normal ⟨n,l',S⟩)(h:eW ts e l':=by repeat (first|exact eW.nil|(apply eW.cons;focus exact lk))):OD P C ops [] ⟨n,e,S⟩ Q:=fC (Wk.ek rfl rfl h.kU) (jX K)
def isR:Code->Bool
 | .region ..=>true
 | _=>false
theorem sN_{c d:Code}(K:CD P C c x (Dc P C d Q))(h:isR c=false:=by exact rfl):CD P C (.seq c d) x Q:=cQ K
theorem lZ{q:Prop}(h:q->p:=by intro k;(repeat (first|refine sN_ ?_|refine en ?_|refine kp ?_|refine qq ?_|refine rC ?_|fail));exact k):q->p:=h
theorem fi{fn:Func}{ex:Exit}{d:D}(hp:post d [])(h0:Body P fn post ex ⟨n,e,S⟩->p:=by exact lZ)(he:ex = .normal\/ex = .ret:=by first|exact .inr rfl|exact .inl rfl)(hr:fn.results = #[.tmp t]:=by exact rfl)(ht:Nat.blt t n=true:=by exact rfl)(hd:look t e=d:=by exact lk):p :=
 h0 ⟨he,d,[],nil_sublist _,UJ hr (Ak (Nat.le_of_ble_eq_true ht) hd),hp⟩
theorem OG{fn:Func}{ex:Exit}{t':Nat}{d:D}(hp:post (.dB [d,d']) [])(h0:Body P fn post ex ⟨n,e,S⟩->p:=by exact lZ)(he:ex = .normal\/ex = .ret:=by first|exact .inr rfl|exact .inl rfl)(hr:fn.results = #[.tmp t,.tmp t']:=by exact rfl)(ht:Nat.blt t n=true:=by exact rfl)(By:Nat.blt t' n=true:=by exact rfl)(hd:look t e=d:=by exact lk)(hd':look t' e=d':=by exact lk):p :=
 h0 ⟨he,_,[],nil_sublist _,KT hr (Ak (Nat.le_of_ble_eq_true ht) hd) (Ak (Nat.le_of_ble_eq_true By) hd'),hp⟩
theorem bX{id:Nat}{r:List Oper}{d:Code}(h:OD P C r.toArray r x (Dc P C d Q))(h0:CD P C (.seq (.region id r.toArray false) d) x Q->p:=by exact lZ):p:=h0 (cQ (B5 h))
theorem uP{id:Nat}{r:List Oper}(h:OD P C r.toArray r x Q)(h0:CD P C (.region id r.toArray false) x Q->p:=by exact lZ):p:=h0 (B5 h)
theorem e9{d e:Code}(ht:CD P C d x Q)(h0:CD P C (.cond c d e) x Q->p:=by exact lZ)(hc:aD x c = .v (.bool b):=by exact ot)(hb:b=true:=by first|rfl|assumption):p:=h0 (afr hc hb ht)
theorem gB{d e:Code}(ht:CD P C e x Q)(h0:CD P C (.cond c d e) x Q->p:=by exact lZ)(hc:aD x c = .v (.bool b):=by exact ot)(hb:b=false:=by first|rfl|assumption):p:=h0 (afs hc hb ht)
end V
namespace Tab
open Go.RowKit Go.ChangeShapes
variable {α:Type}
theorem chunks{α:Type}{g:α->List Value}{c:Nat}:∀(E:List α) (cs:List Value),cs.length=E.length*c->(∀i (h:i<E.length),(cs.drop (i*c)).take c=g E[i])->cs=E.flatMap g
 | [],cs,hl,_=>by
  have:cs=[]:=length_eq_zero_iff.1 yB;simp[this]
 | r::E,cs,hl,h=>by
  have h0:cs.take c=g r:=by
   have h1:=h 0 bp;simp only[Nat.zero_mul,drop_zero] at h1;exact h1
  have I:=chunks (c:=c) E (cs.drop c) (by rw[length_drop,hl,length_cons,Nat.add_mul];omega) (fun i hi=>by
   have h1:=h (i+1) (by simpa using hi);rw[drop_drop,show c+i*c=(i+1)*c from by rw[Nat.add_mul];omega];exact h1)
  rw[flatMap_cons,<-h0,<-I,take_append_drop]
variable {H:Type} {enc:TypeId×Value->H} {P:Program} {w:World} {base:Nat} {sp:Nat->Bool} {held:Bool}
def Reads(enc:TypeId×Value->H)(P:Program)(w:World)(base:Nat)(sp:Nat->Bool)(held:Bool)(e:TypeId)(f:α->DataW H)(g:α->List Value):Prop :=
 ∀(fuel:Nat) (cs:List Value) (x:DataW H×List MemPlace),DataW.trod enc P w base sp held fuel e cs=some x->∀r,x.1=f r->cs=g r
theorem reads_string{e:TypeId}(he:P.underlying e=some .string):Reads enc P w base sp held e (fun b:List UInt8=>.lit (.string b)) (fun b=>[.string ⟨b.toArray⟩]):=by
 intro fuel cs x h r hr;obtain⟨s,rfl,rfl,_⟩:=DataW.trod_string he h;simp at hr;obtain⟨⟨s⟩⟩:=s;simp at hr;rw[<-hr]
theorem reads_arr {f:α->DataW H} {g:α->List Value} {t e:TypeId} {n:Nat} (ht:P.underlying t=some (.array n e)) (I:P.cellsOf t=n*P.cellsOf e)
  (O:Reads enc P w base sp held e f g):Reads enc P w base sp held t (fun E:List α=>.agg (E.map f)) (fun E=>E.flatMap g):=by
 intro fuel cs x h E hr;obtain⟨xs,m,_,rfl,hl,hn,hi⟩:=DataW.trod_array ht h;simp only[DataW.agg.injEq] at hr;have U:E.length=n:=(by have:=congrArg length hr;simp at this;omega)
 refine chunks E cs (by rw[hl,I,U]) fun i Z=>?_;have h1:=hi i w4;rw[getElem?_eq_getElem w4] at h1;refine O m _ _ h1 _ ?_;have:=congrArg (fun l=>l[i]?) hr;simpa[getElem?_eq_getElem Z,getElem?_eq_getElem (show i<xs.length by omega)] using this
theorem var_cells {f:α->DataW Unit} {g:α->List Value} {W:World} {n:String} {I:Nat} {t:TypeId} {cs:Array Value} {fuel:Nat} {p:List MemPlace} {r:α}
  (hg:P.globalNamed n=some I) (hv:W.var? P n=some cs) (hd:DataW.trod (fun _=>()) P W 0 (fun _=>true) false fuel t cs.toList=some (f r,p))
  (E:Reads (fun _=>()) P W 0 (fun _=>true) false t f g) (i:Nat) (v:Value) (hi:(g r)[i]?=some v):W.cell? ⟨I,i,none⟩=some v:=by
 have h:=E _ _ _ hd r rfl;rw[World.var?_cell hg hv i,<-Array.getElem?_toList,h,hi]
def nH(w:World)(g:Nat)(l:List Value):Prop:=∀i v,l[i]?=some v->w.cell? ⟨g,i,none⟩=some v
end Tab
namespace V
open Go.RowKit
section
variable {G:List (Nat×List Value)} {α:Type} {t:TypeId}
def Df(w:World)(g:Nat)(l:List Value):Prop:=∀i v,l[i]?=some v->pi w g i v
theorem Df.of{w:World}{g:Nat}{l:List Value}(h:Tab.nH w g l)(hp:l.all sF=true):Df w g l:=fun i v hi=>.of (h i v hi) (S5 hp hi)
theorem VP.run {P:Program} {f:FuncId} {args:List D} {vs:List Value} {r:Value} {w:World} (h:VP P G f args (.v r))
  (hG:∀g∈G,g.2≠[]/\Df w g.1 g.2) (hr:cM w (live (fun _=>False) []) args vs):Calls P f vs.toArray w fun e w'=>e = .returned r/\Below w.heap.size w w':=by
 have hp:Iv G (fun _=>False) w [] args vs:=by
  refine⟨fun _ h=>h.elim,fun g hg=>⟨⟨?_,by simp[aj],fun h=>h⟩,(hG g hg).2⟩,⟨fun B hB=>by simp at hB,by simp[aj]⟩,hr⟩;obtain⟨h1,h2⟩:=hG g hg;cases hl:g.2 with
  | nil=>exact absurd hl h1
  | cons v l=>exact(h2 0 v (by rw[hl];rfl)).lt
 refine(h _ w vs hp).mono fun e w' ⟨v,E,S',h1,⟨h2,h3⟩,h4,h5,h6⟩=>?_;subst h2;rw[h5.lQ] at h1;exact⟨h1,h6.os,h6.tape,h6.output,h6.size,fun k hk=>(h6.block k hk (by simp[aj])).1⟩
theorem cM.vs(w:World)(L:Nat->Prop)(vs:List Value):cM w L (vs.map .v) vs:=⟨by simp,fun i h1 h2=>by rw[getElem_map];exact .v _⟩
theorem aky{a:Int}(h:(Lit.int .i64 a).wf=true):-9223372036854775808<=a/\a<=9223372036854775807:=bounds_i64 h
variable {H:Type} {enc:TypeId×Value->H} {P:Program} {w:World} {base:Nat} {sp:Nat->Bool} {held:Bool}
def qh(enc:TypeId×Value->H)(P:Program)(w:World)(base:Nat)(sp:Nat->Bool)(held:Bool)(t:TypeId)(g:α->List D)(ok:α->Prop):Prop :=
 ∀fuel cs x,DataW.trod enc P w base sp held fuel t cs=some x->∃a,cM w (fun _=>False) (g a) cs/\ok a
theorem wE(ht:P.underlying t=some (.int .i64)):qh enc P w base sp held t (fun n:Int=>[.v (.int .i64 n)]) (fun n=>-9223372036854775808<=n/\n<=9223372036854775807):=fun fuel cs x h=>by
 obtain⟨n,rfl,_,hw⟩:=DataW.trod_int ht h;exact⟨n,cM.vs w _ [_],aky hw⟩
theorem ahk(ht:P.underlying t=some .bool):qh enc P w base sp held t (fun n:Bool=>[.v (.bool n)]) (fun _=>True):=fun fuel cs x h=>by
 obtain⟨n,rfl,_⟩:=DataW.trod_bool ht h;exact⟨n,cM.vs w _ [_],trivial⟩
theorem Rp(ht:P.underlying t=some .string):qh enc P w base sp held t (fun n:ByteArray=>[.v (.string n)]) (fun s=>s.size<=maxLen):=fun fuel cs x h=>by
 obtain⟨n,rfl,_,hw⟩:=DataW.trod_string ht h;exact⟨n,cM.vs w _ [_],hw⟩
theorem qh.map{β:Type}{g:α->List D}{ok:α->Prop}{I:β->List D}{E:β->Prop}(h:qh enc P w base sp held t g ok)(f:α->β)(hg:∀a,I (f a)=g a)(aQ:∀a,ok a->E (f a)):qh enc P w base sp held t I E:=fun fuel cs x hx=>by
 obtain⟨a,h1,h2⟩:=h fuel cs x hx;exact⟨f a,by rw[hg];exact h1,aQ a h2⟩
theorem acQ {f0 f1 f2:Field} {E I O:Type} {g0:E->List D} {g1:I->List D} {g2:O->List D} {k0:E->Prop} {k1:I->Prop} {k2:O->Prop} {n0 n1 n2:Nat}
  (ht:P.underlying t=some (.struct #[f0,f1,f2])) (hc:P.cellsOf t=n0+n1+n2) (Z:f0.offset=0) (o1:f1.offset=n0) (o2:f2.offset=n0+n1) (c0:P.cellsOf f0.type=n0) (c1:P.cellsOf f1.type=n1) (c2:P.cellsOf f2.type=n2)
  (r0:qh enc P w base sp held f0.type g0 k0) (r1:qh enc P w base sp held f1.type g1 k1) (r2:qh enc P w base sp held f2.type g2 k2) :
  qh enc P w base sp held t (fun a:E × I × O=>g0 a.1++(g1 a.2.1++g2 a.2.2)) (fun a=>k0 a.1/\k1 a.2.1/\k2 a.2.2):=fun fuel cs x h=>by
 obtain⟨xs,n,_,_,hl,gK,hf⟩:=DataW.trod_struct ht h;have U:=hf 0 f0 rfl;have e1:=hf 1 f1 rfl;have e2:=hf 2 f2 rfl;rw[Z,c0,drop_zero] at U;rw[o1,c1] at e1;rw[o2,c2] at e2;have OP:xs.length=3:=gK;rw[getElem?_eq_getElem w4] at U e1 e2;obtain⟨a0,p0,q0⟩:=r0 _ _ _ U;obtain⟨a1,p1,q1⟩:=r1 _ _ _ e1;obtain⟨a2,p2,q2⟩:=r2 _ _ _ e2;refine⟨(a0,a1,a2),?_,q0,q1,q2⟩;have dz:cs=cs.take n0++((cs.drop n0).take n1++(cs.drop (n0+n1)).take n2):=by
  rw[<-drop_drop,take_of_length_le (l:=drop n1 (drop n0 cs)) (by rw[length_drop,length_drop];omega),take_append_drop,take_append_drop]
 rw[dz];exact p0.append (p1.append p2)
theorem afB {e:TypeId} {sz b':Nat} {g:α->List D} {ok:α->Prop} (ht:P.underlying t=some (.slice e)) (OQ:P.cellsOf e=sz) (dg:0<sz) (re:qh enc P w base sp held e g ok) (hg:∀a,(g a).length=sz) {v:Value} {d:DataW H} {p:List MemPlace}
  (hval:Value.okWide P w .any b' t v) (h:DataW.Trod enc P w base sp held t v d p):∃l:List α,cq w (fun _=>False) (.list sz (l.flatMap g) l.length) v/\(∀x∈l,ok x)/\l.length<=maxLen:=by
 have hv:Cell.okWide P w .any b' t v:=(by unfold Value.okWide at hval;rw[ht] at hval;exact hval)
 unfold Cell.okWide at hv;rw[ht] at hv;obtain⟨m,hm⟩:=h;have hv2:Cell.ok P w .any b' t v:=(by revert hv;cases v<;>exact id)
 unfold Cell.ok at hv2;rw[ht] at hv2;cases v with
 | slice ad len cap =>
  rcases Go.Deep.open_slice ht hm with ⟨h1,_⟩|⟨a,U,aO,mm,n,Dd,Pl,h1,hb,hl,dH,OR,_,hx⟩
  ·have e1:Value.slice ad len cap = .slice none 0 0:=(by simpa[Value.cells] using h1)
   rw[e1];exact⟨[],.nil sz,(fun x hx=>by cases hx),Nat.zero_le _⟩
  have e1:Value.slice ad len cap = .slice (some a) U aO:=(by simpa[Value.cells] using h1)
  cases e1;have Z:w.has P .any b' a e cap:=hv2.2.2;obtain⟨_,I,row,cells,D4,_⟩:=Z;obtain⟨b,o,s⟩:=a;have E:s=none:=I;subst E;have aa:b<w.heap.size:=by
   rcases Nat.lt_or_ge b w.heap.size with h2|h2
   ·exact h2
   simp[World.shape?,Array.getElem?_eq_none h2] at D4
  have hle:len<=mm:=(by rw[OR];split<;>omega)
  have each:∀i:Fin len,∃a:α,(∃cs',w.cells? base ((⟨b,o,none⟩:Addr).add (i.1*P.cellsOf e)) (P.cellsOf e)=some cs'/\cM w (fun _=>False) (g a) cs')/\ok a:=fun i=>by
   obtain⟨cs',h1,h2⟩:=hx i.1 w4;obtain⟨a,h3,h4⟩:=re _ _ _ h2;exact⟨a,⟨cs',h1,h3⟩,h4⟩
  let l:List α:=ofFn fun i:Fin len=>Classical.choose (each i)
  have mU:l.length=len:=(by simp[l])
  have hli:∀i (hi:i<l.length),(∃cs',w.cells? base ((⟨b,o,none⟩:Addr).add (i*P.cellsOf e)) (P.cellsOf e)=some cs'/\cM w (fun _=>False) (g l[i]) cs')/\ok l[i]:=fun i hi=>by
   have:=Classical.choose_spec (each ⟨i,by omega⟩);simpa[l] using this
  refine⟨l,?_,fun x hx=>?_,by omega⟩
  ·have key:∀k,k<(l.flatMap g).length->∃u,w.cell? ⟨b,o+k,none⟩=some u/\∀h:k<(l.flatMap g).length,cq w (fun _=>False) (l.flatMap g)[k] u:=fun k hk=>by
    rw[cz hg] at hk;have hi:k/sz<l.length:=Nat.div_lt_of_lt_mul (by rw[Nat.mul_comm];exact hk);have hj:k % sz<sz:=Nat.mod_lt _ dg;have mO:k/sz*sz+k % sz=k:=(by rw[Nat.mul_comm];exact Nat.div_add_mod k sz)
    obtain⟨⟨cs',h1,h2⟩,_⟩:=hli _ hi;obtain⟨_,h4,h5⟩:=World.cells?_some h1;have h6:=h5 (k % sz) w4;have ja:k % sz<cs'.length:=(by omega)
    rw[getElem?_eq_getElem ja,Go.Deep.add_add,OQ,mO,Addr.add_mid] at h6;refine⟨_,h6,fun h=>?_⟩;have h7:=h2.2 (k % sz) (by rw[hg];exact hj) ja;have h8:=Am hg hi (getElem?_eq_getElem (show k % sz<(g l[k/sz]).length by rw[hg];exact hj));rw[mO,getElem?_eq_getElem h] at h8;rw[Option.some.inj h8];exact h7
   have hm2:len<=cap:=hl;have O:Value.slice (some ⟨b,o,none⟩) len cap=Value.slice (some ⟨b,o,none⟩) l.length cap:=(by rw[mU])
   rw[O];refine cq.list (L:=fun _=>False) sz (l.flatMap g) l.length b o cap (fun k=>(w.cell? ⟨b,o+k,none⟩).getD undef) (cz hg l) w4 dH aa (fun h=>h.elim) (fun k hk=>?_) (fun k hk=>?_)
   ·obtain⟨u,h1,_⟩:=key k hk;rw[h1];rfl
   obtain⟨u,h1,h2⟩:=key k hk;simp only[h1,Option.getD_some];exact h2 hk
  obtain⟨i,hi,rfl⟩:=mem_iff_getElem.1 hx;exact(hli i hi).2
 | _=>exact hv2.elim
theorem VP.amc {f:FuncId} {args:List D} {vs:List Value} {r:Value} (h:VP P G f args (.v r))
  (hG:∀g∈G,g.2≠[]/\Df w g.1 g.2) (hr:cM w (fun _=>False) args vs):Calls P f vs.toArray w fun e w'=>e = .returned r/\Below w.heap.size w w' :=
 h.run hG (hr.mono fun b _ _=>⟨rfl,fun hl=>by rcases hl with hl|hl;exact hl;simp[aj] at hl⟩)
end
section
variable {P:Program} {C:dJ} {G:List (Nat×List Value)} {Q:Exit->St->Prop} {x:St} {ops:Array Oper} {l:List Oper} {o:Oper} {S1 T:List Nat} {fuel i:Nat} {ld:Array Bool}
variable {sz n k b o' cap h' m c:Nat} {B:ag} {cs':List D} {t e:TypeId} {y:Operand} {lo hi:Option Operand}
theorem xR:∀(ds cs:List D) (off:Nat),off+ds.length<=cs.length->dx cs off ds=cs.take off++ds++cs.drop (off+ds.length)
 | [],cs,off,h=>by simp[dx]
 | d::ds,cs,off,h=>by
  simp only[length_cons] at h;have e:cs.set off d=(cs.take off++[d])++cs.drop (off+1):=(by rw[set_eq_take_append_cons_drop,if_pos w4];simp)
  have hl:(cs.take off++[d]).length=off+1:=(by simp;omega)
  rw[dx,xR ds _ (off+1) iI,e,take_left' hl,<-drop_drop,drop_left' hl,drop_drop];simp only[append_assoc,cons_append,nil_append,length_cons];congr 4;omega
theorem qt{α:Type}{g:α->List D}(hg:∀a,(g a).length=sz)(ls:List α){i:Nat}(a:α)(hi:i<ls.length):dx (ls.flatMap g) (i*sz) (g a)=(ls.set i a).flatMap g:=by
 have h1:(i+1)*sz<=ls.length*sz:=Nat.mul_le_mul_right _ hi;rw[Nat.succ_mul] at h1;rw[xR _ _ _ (by rw[cz hg,hg];exact h1),hg,set_eq_take_append_cons_drop,if_pos hi,vl hg,<-Nat.succ_mul,wm hg];simp[flatMap_append]
theorem Wk.Yn{l:List (Nat×D)}{S:List ag}(hk:S[k]?=some B)(hl:cs'.length<=B.size)(hc:∀(i:Nat) (d:D),cs'[i]?=some d->B.cs[i]?=some d\/d=D.bF):Wk ⟨n,l,S⟩ ⟨n,l,S.set k {B with cs:=cs'}⟩:=fun C a w h=>by
 have er:=(List.getElem?_eq_some_iff.1 hk).1;have U:=(List.getElem?_eq_some_iff.1 hk).2;have E:aj (S.set k {B with cs:=cs'})=aj S:=by
  unfold aj;rw[map_set];apply ext_getElem bp;intro i q1 q2;rw[getElem_set];split
  ·rename_i e;subst e;simp[U]
  rfl
 have I:live C.X (S.set k {B with cs:=cs'})=live C.X S:=(by funext b;simp only[live,E])
 refine⟨h.defers,h.size,fun t ht=>?_,⟨fun B' Z=>?_,?_⟩,?_,h.ex,h.eI⟩
 ·simp only[I];exact h.env t ht
 ·simp only[I];obtain⟨j,hj,O⟩:=mem_iff_getElem.1 Z;rw[length_set] at hj;rw[getElem_set] at O;by_cases e:k=j
  ·rw[if_pos e] at O;subst O;obtain⟨r0,cur,r1,r2,r3,r4⟩:=h.own.at_ B (mem_of_getElem? hk);refine⟨r0,cur,r1,r2,hl,fun i hi=>?_⟩;simp only at hi hl;have gE:i<cur.size:=(by omega)
   rcases hc i _ (getElem?_eq_getElem hi) with hd|hd
   ·obtain⟨hd1,hd2⟩:=List.getElem?_eq_some_iff.1 hd;obtain⟨u,hu,hq⟩:=r4 i hd1;rw[hd2] at hq;exact⟨u,hu,hq⟩
   exact⟨cur[i],by simp[gE],by simp only[hd];exact .bF _⟩
  rw[if_neg e] at O;subst O;exact h.own.at_ _ (getElem_mem hj)
 ·simp only[E];exact h.own.apart
 simp only[E];exact h.fr
def eY(cap l sz o':Nat):Nat:=if cap=l then o' else o'+l*sz
theorem abO {len l:Nat} (ho:o.op = .slice t y lo hi none) (hy:aD x y = .v (.slice (some ⟨b,o',none⟩) len cap)) (ff:nG x lo l 0) (eJ:nG x hi h' len)
  (E:∀w,(underlying t).run P w = .ok (.slice e) w) (hs:∀w,(sizeOf e).run P w = .ok sz w) (h1:l<=h') (h2:h'<=cap):bS P G x o .none (.v (.slice (some ⟨b,eY cap l sz o',none⟩) (h'-l) (cap-l))):=fun C a w _ h =>
 ⟨_,.v _,fun w' _=>by
  have b1:=tP h ff;have b2:=tP h eJ;have b3:=fun w=>xO (P:=P) (il:=true) (w:=w) b1 b2 h1 h2;unfold execOp eY;simp only[ho,h.flat hy,Instr.sliceAt,Instr.slice,E,Sem.run_bind,Result.andThen_ok,Option.map_none,b3,hs,Sem.run_pure];by_cases hc:cap=l
  ·rw[if_pos hc,if_pos hc]
  rw[if_neg hc,if_neg hc];simp only[Option.map_some,Addr.add_mid]⟩
theorem Ai {l len:Nat} (ff:lo=none->l=0) (eJ:hi=none->h'=len)
  (E:∀w,(underlying t).run P w = .ok (.slice e) w) (hs:∀w,(sizeOf e).run P w = .ok sz w) (h1:l<=h') (h2:h'<=cap):Rs P G t lo hi l h' (.v (.slice (some ⟨b,o',none⟩) len cap)) (.v (.slice (some ⟨b,eY cap l sz o',none⟩) (h'-l) (cap-l))):=fun x o y ho hy hl I =>
 abO ho hy (sA hl ff) (sA I eJ) E hs h1 h2
theorem Qy {len l:Nat} {k1 k2 k3:IntKind} {lo hi E:Operand} (ho:o.op = .slice t y (some lo) (some hi) (some E)) (hy:aD x y = .v (.slice (some ⟨b,o',none⟩) len cap)) (ff:aD x lo = .v (.int k1 l)) (eJ:aD x hi = .v (.int k2 h')) (dH:aD x E = .v (.int k3 m))
  (I:∀w,(underlying t).run P w = .ok (.slice e) w) (hs:∀w,(sizeOf e).run P w = .ok sz w) (h1:l<=h') (h2:h'<=m) (h3:m<=cap):bS P G x o .none .bF:=fun C a w _ h =>
 ⟨.slice (some ⟨b,if m=l then o' else o'+l*sz,none⟩) (h'-l) (m-l),.bF _,fun w' _=>by
  have b3:∀w,(Instr.sliceBounds true len cap (some (.int k1 l)) (some (.int k2 h')) (some (.int k3 m))).run P w = .ok (l,h',m) w:=fun w=>by
   unfold Instr.sliceBounds;simp[Fg,h1,h2,h3]
  unfold execOp;simp only[ho,h.flat hy,h.flat ff,h.flat eJ,h.flat dH,Instr.sliceAt,Instr.slice,I,Sem.run_bind,Result.andThen_ok,Option.map_some,b3,hs,Sem.run_pure];by_cases hc:m=l
  ·rw[if_pos hc,if_pos hc]
  rw[if_neg hc,if_neg hc];simp only[Option.map_some,Addr.add_mid]⟩
theorem ab3 {s:Operand} {t e tt oy:Nat} {new:List D} (ho:o.op = .call {callee:=.builtin .append,args:=#[s,y],argTypes:=#[t,t]}) (hd:o.dst=some tt)
  (ht:P.underlying t=some (.slice e)) (hi:(P.info? e).map (fun i=>i.size)=some sz)
  (hs:aD x s = .v (.slice (some ⟨b,0,none⟩) n cap)) (hk:x.S[k]?=some B) (hb:B.b=b) (hy:aD x y = .v (.slice (some ⟨b,oy,none⟩) m c))
  (O:(B.cs.drop oy).take (m*sz)=new) (hlen:new.length=m*sz) (jw:∀d∈new,one d=true) (Z:n+m<=cap) (hl:n*sz+m*sz<=B.cs.length) (dz:dx B.cs (n*sz) new=cs') (hne:isMap B.e=false:=by rfl) :
  fh P G x o [b] (fun y=>y=⟨x.n,(tt,.v (.slice (some ⟨b,0,none⟩) (n+m) cap))::x.env,x.S.set k {B with cs:=cs'}⟩):=fun C a w K Q hG h hK=>by
 subst dz hb;obtain⟨i,lg,rfl⟩:∃i,P.info? e=some i/\i.size=sz:=by
  cases h:P.info? e with
  | none=>simp[h] at hi
  | some i=>simp[h] at hi;exact⟨i,rfl,hi⟩
 obtain⟨h0,cur,q1,q2,q3,q4⟩:=h.fP hk;rw[lp hne] at q1;have lX:∀j,j<m*i.size->∃hj:oy+j<B.cs.length,∃hn:j<new.length,new[j]=B.cs[oy+j]:=fun j hj=>by
  have h1:j<new.length:=(by omega)
  have h2:oy+j<B.cs.length:=by
   have:=congrArg length O;rw[length_take,length_drop,hlen] at this;omega
  refine⟨h2,h1,?_⟩;have e2:new[j]?=some B.cs[oy+j]:=(by rw[<-O,getElem?_take,if_pos hj,getElem?_drop,getElem?_eq_getElem h2])
  rw[getElem?_eq_getElem h1] at e2;exact Option.some.inj e2
 let vs:List Value:=(range (m*i.size)).map fun j=>cur.getD (oy+j) undef
 have I:vs.length=m*i.size:=(by simp[vs])
 have hv:∀j (hj:j<m*i.size),∃u,cur[oy+j]?=some u/\vs[j]?=some u/\cq w (live C.X x.S) (new[j]'w4) u:=fun j hj=>by
  obtain⟨h1,h2,h3⟩:=lX j hj;obtain⟨u,E,hq⟩:=q4 (oy+j) h1;refine⟨u,E,?_,h3 ▸ hq⟩;simp[vs,hj,E]
 have hr:cM w (live C.X x.S) new vs:=⟨by rw[I,hlen],fun j h1 h2=>by
  obtain⟨u,_,E,hq⟩:=hv j w4;rw[getElem?_eq_getElem h2] at E;rw[Option.some.inj E];exact hq⟩
 obtain⟨s1,s2,s3⟩:=h.store (hne:=hne) hk hr (o':=n*i.size) (by rw[hlen];exact hl);have U:=run_append_room_cells (P:=P) w t o.type e i ht lg B.b 0 n cap ⟨B.b,oy,none⟩ m c vs I (fun j u E=>by
   rw[Addr.add_mid];have hj:j<m*i.size:=(by rw[<-I];exact(List.getElem?_eq_some_iff.1 E).1)
   obtain⟨u',zg,zh,_⟩:=hv j hj;rw[zh] at E;rw[<-E];exact pc q1 zg) (fun u E=>by
   obtain⟨j,hj,rfl⟩:=mem_iff_getElem.1 E;have kM:j<new.length:=(by omega)
   exact(hr.2 j kM hj).Cf (jw _ (getElem_mem kM))) Z (fun j hj=>by
   have:(0+n*i.size+j)<cur.size:=(by rw[I] at hj;omega)
   rw[pc q1 (u:=cur[0+n*i.size+j]) (by simp[this])];rfl) (fun j hj=>by unfold World.frozen?;simp[q1])
 rw[Nat.zero_add] at U;have akz:=B3 (o:=o) (a:=a) ho (h.flat hs) (h.flat hy) U;unfold Oper.wp;rw[akz,Oper.upon_value,hd];exact hK _ _ _ rfl (s1.put (.v _)) s2 s3
theorem Qt {s:Operand} {t e tt oy:Nat} {new:List D} (U:ops[i]?=some o) (hw:bV ops x o true) (ho:o.op = .call {callee:=.builtin .append,args:=#[s,y],argTypes:=#[t,t]}) (hd:o.dst=some tt)
  (ht:P.underlying t=some (.slice e)) (hi:(P.info? e).map (fun i=>i.size)=some sz)
  (hs:aD x s = .v (.slice (some ⟨b,0,none⟩) n cap)) (hk:x.S[k]?=some B) (hb:B.b=b) (hy:aD x y = .v (.slice (some ⟨b,oy,none⟩) m c))
  (O:(B.cs.drop oy).take (m*sz)=new) (hlen:new.length=m*sz) (jw:∀d∈new,one d=true) (E:n+m<=cap) (hl:n*sz+m*sz<=B.cs.length) (dz:dx B.cs (n*sz) new=cs') (hT:∀b∈T,b∈aj (x.S.eraseIdx k))
  (K:AD P C ops S1 T fuel (ld.setIfInBounds i true) ⟨x.n,(tt,.v (.slice (some ⟨b,0,none⟩) (n+m) cap))::x.env,x.S.set k {B with cs:=cs'}⟩ Q) (hne:isMap B.e=false:=by rfl):gQ P C ops S1 T fuel ld x Q i :=
 gQ.gm U hw (ab3 (hne:=hne) ho hd ht hi hs hk hb hy O hlen jw E hl dz) (fun C a w hs Z I=>hb ▸ HA hs hk hT Z I) (fun Z I=>by
  have:Z=b:=(by simpa using I)
  subst this;rw[<-hb];exact Cs hk) fun y hy=>hy ▸ K
theorem adS {s:Operand} {t e:Nat} {z:Value} (ho:o.op = .call {callee:=.builtin .clear,args:=#[s],argTypes:=#[t]}) (hd:o.dst=none)
  (ht:P.underlying t=some (.slice e)) (hz:∀w,(zeroValue e).run P w = .ok z w) (eM:z.cells.size=sz) (mV:z.cells.all (fun v=>v.oneCell')=true)
  (hs:aD x s = .v (.slice (some ⟨b,o',none⟩) n c)) (hk:x.S[k]?=some B) (hb:B.b=b) (lm:0<n->B.cs.length<=o'/\o'+n*sz<=B.size) (hne:isMap B.e=false:=by rfl) :
  fh P G x o [b] (fun y=>y=x):=fun C a w K Q hG h hK=>by
 subst hb;have jB:∀{w':World},(Builtin.clear_ #[t] o.type #[a.eval s]).run P w = .ok (.tuple #[]) w'->(execOp a.eval o).run P w = .ok (.value (.tuple #[])) w':=fun hr=>by
  unfold execOp;simp[ho,resolve,invoke,builtin,hr]
 rcases Nat.eq_zero_or_pos n with rfl|hn
 ·have O:(Builtin.clear_ #[t] o.type #[a.eval s]).run P w = .ok (.tuple #[]) w:=by
   rw[h.flat hs];simp[Builtin.clear_,run_underlying ht]
  unfold Oper.wp;rw[jB O,Oper.upon_value,hd];exact hK _ _ _ rfl h ⟨Nat.le_refl _,fun _ _ _=>rfl⟩ (Fr.refl _ _)
 obtain⟨bf,cr⟩:=lm hn;let vs:=(Builtin.zeroCells z.cells n).toList
 have qT:vs.length=n*sz:=(by simp[vs,size_zeroCells,eM])
 have hv1:∀v∈vs,v.oneCell'=true:=fun v hv=>by
  simp only[vs,Builtin.zeroCells,Array.toList_map,mem_map] at hv;obtain⟨j,hj,rfl⟩:=hv;have kM:j<n*z.cells.size:=(by simpa using hj)
  have h0:0<z.cells.size:=by
   rcases Nat.eq_zero_or_pos z.cells.size with h0|h0
   ·rw[h0] at kM;simp at kM
   exact h0
  have aa:=Nat.mod_lt j h0;have:=Array.all_eq_true.1 mV _ aa;rw[getElem!_pos z.cells _ aa];exact this
 obtain⟨h0,cur,q1,q2,q3,q4⟩:=h.fP hk;rw[lp hne] at q1;have fX:=run_storeCells_cells (P:=P) B.b o' vs 0 w (fun j hj=>by
   have:(o'+0+j)<cur.size:=(by omega)
   rw[pc q1 (u:=cur[o'+0+j]) (by simp[this])];rfl) (fun j hj=>by unfold World.frozen?;simp[q1]) hv1
 have O:(Builtin.clear_ #[t] o.type #[a.eval s]).run P w = .ok (.tuple #[]) (w.setCells B.b o' vs):=by
  rw[h.flat hs];obtain⟨m,rfl⟩:∃m,n=m+1:=⟨n-1,by omega⟩
  simp only[Nat.add_zero] at fX;simp[Builtin.clear_,run_underlying ht,hz,vs,fX]
 have er:=(List.getElem?_eq_some_iff.1 hk).1;have xB:=(List.getElem?_eq_some_iff.1 hk).2
 -- arD,stored,and U again
 let E:=B.cs++replicate (B.size-B.cs.length) D.bF
 have hw:=Wk.Yn (n:=x.n) (l:=x.env) (cs':=E) hk (by simp[E];omega) (fun i d I=>by
  rcases Nat.lt_or_ge i B.cs.length with hi|hi
  ·left;rw[<-I];simp only[E];rw[getElem?_append_left hi]
  right;simp only[E] at I;rw[getElem?_append_right hi] at I;exact eq_of_mem_replicate (mem_of_getElem? I)) C a w h
 have eR:(⟨x.n,x.env,x.S.set k {B with cs:=E}⟩:St).S[k]?=some {B with cs:=E}:=(by simp[er])
 have hjr:cM w (live C.X (⟨x.n,x.env,x.S.set k {B with cs:=E}⟩:St).S) (replicate (n*sz) D.bF) vs:=⟨by simp[qT],fun j h1 h2=>by rw[getElem_replicate];exact .bF _⟩
 obtain⟨s1,s2,s3⟩:=hw.store (hne:=hne) eR hjr (o':=o') (by simp[E];omega);have ow:dx E o' (replicate (n*sz) D.bF)=E.take o'++replicate (n*sz) D.bF++E.drop (o'+n*sz):=by
  rw[xR _ _ _ (by simp[E];omega),length_replicate]
 have kf:(x.S.set k {B with cs:=dx E o' (replicate (n*sz) D.bF)})[k]?=some {B with cs:=dx E o' (replicate (n*sz) D.bF)}:=(by simp[er])
 have h1:bB C ⟨x.n,x.env,x.S.set k {B with cs:=dx E o' (replicate (n*sz) D.bF)}⟩ a (w.setCells B.b o' vs):=(by simpa[List.set_set] using s1)
 have h2:=Wk.Yn (n:=x.n) (l:=x.env) (cs':=B.cs) kf (by simpa using q3) (fun i d I=>by
  left;have hi:=(List.getElem?_eq_some_iff.1 I).1;simp only[ow];rw[append_assoc,getElem?_append_left (by simp[E];omega),getElem?_take,if_pos w4];simp only[E];rw[getElem?_append_left hi,I]) C a _ h1
 have hx:(⟨x.n,x.env,(x.S.set k {B with cs:=dx E o' (replicate (n*sz) D.bF)}).set k {B with cs:=B.cs}⟩:St)=x:=by
  rw[List.set_set];have:x.S.set k {B with cs:=B.cs}=x.S:=by
   apply ext_getElem bp;intro i q1 q2;rw[getElem_set];split
   ·rename_i e;subst e;exact xB.symm
   rfl
  rw[this]
 have hbk:∀cs1:List D,aj (x.S.set k {B with cs:=cs1})=aj x.S:=fun cs1=>by
  unfold aj;rw[map_set];apply ext_getElem bp;intro i q1 q2;rw[getElem_set];split
  ·rename_i e;subst e;simp[xB]
  rfl
 have h3:bB C x a (w.setCells B.b o' vs):=by
  have Z:=h2;simp only at Z;rw[hx] at Z;exact Z
 simp only[List.set_set,hbk] at s3;unfold Oper.wp;rw[jB O,Oper.upon_value,hd];exact hK _ _ _ rfl h3 s2 s3
theorem Te {s:Operand} {t e:Nat} {z:Value} (hw:bV ops x o true) (ho:o.op = .call {callee:=.builtin .clear,args:=#[s],argTypes:=#[t]}) (hd:o.dst=none)
  (ht:P.underlying t=some (.slice e)) (hz:∀w,(zeroValue e).run P w = .ok z w) (eM:z.cells.size=sz) (E:z.cells.all (fun v=>v.oneCell')=true)
  (hs:aD x s = .v (.slice (some ⟨b,o',none⟩) n c)) (hk:x.S[k]?=some B) (hb:B.b=b) (I:0<n->B.cs.length<=o'/\o'+n*sz<=B.size) (K:OD P C ops l x Q) (hne:isMap B.e=false:=by rfl):OD P C ops (o::l) x Q :=
 OD.gm hw (adS (hne:=hne) ho hd ht hz eM E hs hk hb I) fun y hy=>hy ▸ K
theorem j9{l r:List ag}(h:∀f:ag->Nat,(l.map f).sum=(r.map f).sum):l.Perm r:=by
 classical
 rw[perm_iff_count];intro a;have key:∀l:List ag,(l.map fun b=>if b=a then 1 else 0).sum=l.count a:=by
  intro l;induction l with
  | nil=>rfl
  | cons b l ih =>
   rw[map_cons,sum_cons,ih,count_cons];by_cases e:b=a<;>simp[e,Nat.add_comm]
 have:=h (fun b=>if b=a then 1 else 0);rw[key,key] at this;exact this
theorem afC{l r:List ag}(h:l.Perm r)(f:ag->Nat):(l.map f).sum=(r.map f).sum:=by
 induction h with
 | nil=>rfl
 | cons x _ ih=>simp[ih]
 | swap x y l=>simp only[map_cons,sum_cons];omega
 | trans _ _ h1 h2=>exact h1.trans h2
theorem NP.norm{Φ:St->Prop}:NP (fun e y=>e=Exit.normal/\Φ y):=fun c y t hq=>by cases hq.1
end
section
variable {P:Program} {C:dJ} {G:List (Nat×List Value)} {Q:Exit->St->Prop} {x:St} {ops:Array Oper} {l:List Oper} {o:Oper}
variable {e sz cap b n t m u tt k:Nat} {α:Type} {ad:Option Addr} {S Sq R A S1 S2 S3:List ag} {y:Operand} {ls:List UInt8}
theorem jj{g:α->List D}:bq e sz (([]:List α).flatMap g) ([]:List α).length none 0 []:=.inl ⟨rfl,rfl,rfl,rfl,rfl⟩
theorem bq.cast{g:α->List D}{ls E:List α}(h:bq e sz (ls.flatMap g) ls.length ad cap S)(he:ls=E):bq e sz (E.flatMap g) E.length ad cap S:=he ▸ h
theorem bN{g:α->List D}{ls:List α}(h1:ls.length<=cap)(h2:cap<=maxLen):bq e sz (ls.flatMap g) ls.length (some ⟨b,0,none⟩) cap [⟨b,e,cap*sz,ls.flatMap g⟩]:=.inr ⟨b,rfl,h1,h2,rfl⟩
def gI(g:α->List D)(e sz:Nat)(ls:List α)(r:D)(S:List ag):Prop:=∃ad cap,r = .v (.slice ad ls.length cap)/\bq e sz (ls.flatMap g) ls.length ad cap S
theorem gI.view{g:α->List D}{ls:List α}{r:D}(hg:∀a,(g a).length=sz)(h:gI g e sz ls r S)(hne:isMap e=false:=by rfl):View S r (.list sz (ls.flatMap g) ls.length):=by
 obtain⟨ad,cap,rfl,ho⟩:=h;exact mX (hne:=hne) ho (cz hg ls) (fun B hB=>hB)
theorem VC.yn{g:α->List D}{ls:List α}{f:FuncId}{args:List D}(hg:∀a,(g a).length=sz)(h:VC P G f args [] (gI g e sz ls))(hne:isMap e=false:=by rfl):VP P G f args (.list sz (ls.flatMap g) ls.length) :=
 h.cover fun r S hr=>gI.view (hne:=hne) hg hr
theorem Wk.WY{l:List (Nat×D)}{cs:List D}(ht:look t l = .v (.slice ad m cap))(ho:bq e sz cs m ad cap Sq)(hl:cs.length=m*sz)(hp:S.Perm (Sq++R))(hne:isMap e=false:=by rfl):Wk ⟨n,l,S⟩ ⟨n,(t,.list sz cs m)::l,R⟩:=by
 refine(Wk.perm hp).trans ?_;rcases ho with ⟨rfl,rfl,rfl,rfl,rfl⟩|⟨b,rfl,h1,h2,rfl⟩
 ·exact Wk.vj ht
 exact Wk.Da (hne:=hne) (k:=0) rfl ht rfl hl h1 h2
theorem qn{cs:List D}(ht:V.look t x.env = .v (.slice ad m cap))(ho:bq e sz cs m ad cap Sq)(hl:cs.length=m*sz)(hp:x.S.Perm (Sq++R))(K:OD P C ops l ⟨x.n,(t,.list sz cs m)::x.env,R⟩ Q)(hne:isMap e=false:=by rfl):OD P C ops l x Q :=
 fC (Wk.WY (hne:=hne) (n:=x.n) (S:=x.S) ht ho hl hp) K
theorem oL{c:Code}{cs:List D}(ht:V.look t x.env = .v (.slice ad m cap))(ho:bq e sz cs m ad cap Sq)(hl:cs.length=m*sz)(hp:x.S.Perm (Sq++R))(K:CD P C c ⟨x.n,(t,.list sz cs m)::x.env,R⟩ Q)(hne:isMap e=false:=by rfl):CD P C c x Q :=
 kS (Wk.WY (hne:=hne) (n:=x.n) (S:=x.S) ht ho hl hp) K
theorem gI.mk{g:α->List D}{ls:List α}(h:bq e sz (ls.flatMap g) ls.length ad cap S):gI g e sz ls (.v (.slice ad ls.length cap)) S:=⟨ad,cap,rfl,h⟩
theorem gI.cast{g:α->List D}{ls E:List α}{r:D}(h:gI g e sz ls r S)(he:ls=E):gI g e sz E r S:=he ▸ h
theorem iW{ls E:List α}(h:ls=E):D.v (.slice ad ls.length cap)=D.v (.slice ad E.length cap):=by rw[h]
theorem dK:(A++S1).Perm (S1++A):=perm_append_comm
theorem pS:(A++(S1++S2)).Perm (S1++(A++S2)):=perm_append_comm_assoc _ _ _
theorem Aa:(A++(S1++S2)).Perm (S2++(A++S1)):=(List.perm_append_comm.append_left A).trans pS
theorem Kl:(A++(S1++(S2++S3))).Perm (S1++(A++(S2++S3))):=pS
theorem u5:(A++(S1++(S2++S3))).Perm (S2++(A++(S1++S3))):=(pS.append_left A).trans pS
theorem SV:((S1++A)++[]).Perm (A++S1):=by rw[append_nil];exact perm_append_comm
theorem afD:((S2++A)++S1).Perm (A++(S1++S2)):=by rw[append_assoc];exact List.perm_append_comm.trans (by rw[append_assoc])
theorem ew:(S1++A).Perm (A++S1):=dK.symm
theorem kO:(S1++(A++S2)).Perm (A++(S1++S2)):=pS.symm
theorem Ab:(S2++(A++S1)).Perm (A++(S1++S2)):=Aa.symm
theorem Tf:(S1++(A++(S2++S3))).Perm (A++(S1++(S2++S3))):=Kl.symm
theorem xY:(S2++(A++(S1++S3))).Perm (A++(S1++(S2++S3))):=u5.symm
theorem Qr {w:World} (base:Nat) (t u ty e:TypeId) (i:TypeInfo) (ht:P.underlying t=some (.slice e)) (hu:P.underlying u=some .string) (hi:P.info? e=some i) (hz:i.zero=some (.int .u8 0))
  (E:i.size=1) (O:i.bytes=1) (v:Value) (n:Nat) (xs:List Value) (fy:w.ownsRow base e 1 v n xs) (s:ByteArray)
  (oY:n+s.size<=maxLen) (I:n+s.size<=140737488355328) (U:base<=w.heap.size) :
  ∃Z w',(Builtin.append_ #[t,u] ty #[v,.string s]).run P w = .ok Z w'/\w'.ownsRow base e 1 Z (n+s.size) (xs++Go.Lib.strCells s)/\w.grownBy w' v.ownBlock /\
   (Z = .slice none 0 0↔v = .slice none 0 0/\s.size=0)/\(Z.ownBlock=v.ownBlock\/Z.ownBlock=some w.heap.size):=by
 obtain⟨Z,w',hr,h2,h3,h4⟩:=Go.Lib.run_append_own_string (P:=P) w base t u ty e i ht hu hi hz E O v n xs fy s oY I U;refine⟨Z,w',hr,h2,h3,h4,?_⟩;have arW:n+s.size<=9223372036854775807:=(by simp only[maxLen] at oY;omega)
 have gK:xs.length=n:=(by simpa using fy.1)
 rcases fy.2 with ⟨rfl,rfl⟩|⟨g,cap,cur,rfl,hbg,hg,hnc,hcm,dz,WW⟩
 ·by_cases hm:s.size=0
  ·left;rw[h4.2 ⟨rfl,hm⟩]
  right;have:=run_append_nil_string (P:=P) w t u ty e i (.int .u8 0) ht hu hi hz s w4 w4 (by rw[O];omega);rw[this] at hr;cases hr;rfl
 have ate:cur.size=cap:=(by simpa using dz)
 by_cases akA:n+s.size<=cap
 ·left;have:=Go.Lib.run_append_room_string (P:=P) w t u ty e i ht hu hi E g n cap cur hg s akA w4;rw[this] at hr;cases hr;rfl
 right;have holds:∀j u,xs[j]?=some u->w.cell? ((⟨g,0,none⟩:Addr).add j)=some u:=fy.cells (g:=g) rfl;have:=Go.Lib.run_append_grow_string (P:=P) w t u ty e i (.int .u8 0) ht hu hi hz ⟨g,0,none⟩ n cap xs (by rw[E];simpa using gK) holds s w4 w4 (by rw[O];exact growslice_fits w4 w4);rw[this] at hr;cases hr;rfl
def pV(b:List UInt8):List D:=b.map wK
theorem Jk {s:Operand} {t u:TypeId} {v I:Value} {w w':World} {a:Act} (ho:o.op = .call {callee:=.builtin .append,args:=#[s,y],argTypes:=#[t,u]}) (hs:a.eval s=v) {z:Value} (hy:a.eval y=z)
  (E:(Builtin.append_ #[t,u] o.type #[v,z]).run P w = .ok I w'):(execOp a.eval o).run P w = .ok (.value I) w':=by
 unfold execOp;simp[ho,resolve,invoke,builtin,hs,hy,E]
theorem abP {s:Operand} {cs:List D} {str:ByteArray} (ho:o.op = .call {callee:=.builtin .append,args:=#[s,y],argTypes:=#[t,u]}) (hd:o.dst=some tt)
  (ht:P.underlying t=some (.slice e)) (hu:P.underlying u=some .string) (hi:(P.info? e).map (fun i=>(i.zero,i.size,i.bytes))=some (some (.int .u8 0),1,1))
  (hs:aD x s = .v (.slice ad n cap)) (Iw:bq e 1 cs n ad cap Sq) (hp:x.S=Sq++R) (hl:cs.length=n) (hy:aD x y = .v (.string str)) (oY:n+str.size<=maxLen) (O:n+str.size<=140737488355328) (hne:isMap e=false:=by rfl) :
  fh P G x o (aj Sq) (fun y=>∃gL aO S',bq e 1 (cs++pV str.data.toList) (n+str.size) gL aO S'/\y=⟨x.n,(tt,.v (.slice gL (n+str.size) aO))::x.env,S'++R⟩):=fun C a w K Q hG h hK=>by
 obtain⟨i,lg,gE,qg,qU⟩:=Aj hi;have amd:(Go.Lib.strCells str).length=str.size:=Go.Lib.strCells_length str;have OS:(pV str.data.toList).length=str.size:=(by simp[pV])
 have U:∀j (hj:j<str.size),∃u,(Go.Lib.strCells str)[j]?=some u/\∀h:j<(pV str.data.toList).length,cq w (live C.X x.S) (pV str.data.toList)[j] u:=fun j hj=>by
  have h1:j<str.data.toList.length:=(by rw[Array.length_toList];exact hj)
  refine⟨.int .u8 (str.data.toList[j]).toNat,by rw[Go.Lib.strCells,getElem?_map,getElem?_eq_getElem h1];rfl,fun h=>?_⟩;simp only[pV,getElem_map];exact .v _
 rcases Iw with ⟨rfl,rfl,rfl,rfl,rfl⟩|⟨b,rfl,h1,h2,rfl⟩
 ·rw[nil_append] at hp;by_cases hm:str.size=0
  ·have hd0:pV str.data.toList=[]:=eq_nil_of_length_eq_zero (by rw[OS,hm]);have hn:Go.Lib.strCells str=[]:=eq_nil_of_length_eq_zero (by rw[amd];exact hm);have hf:=Go.Lib.run_firstCells_string (P:=P) w 1 str;rw[hm] at hf;have I:(Builtin.append_ #[t,u] o.type #[.slice none 0 0,.string str]).run P w = .ok (.slice none 0 0) w:=by
    simp[Builtin.append_,run_underlying ht,run_underlying hu,sizeOf,typeInfo,lg,qg,Builtin.lenOf,hm,hf]
   unfold Oper.wp;rw[Jk (P:=P) ho (h.flat hs) (h.flat hy) I,Oper.upon_value,hd];refine hK ⟨x.n,(tt,.v (.slice none (0+str.size) 0))::x.env,[]++R⟩ _ _ ⟨none,0,[],.inl ⟨by omega,by rw[hd0];rfl,rfl,rfl,rfl⟩,rfl⟩ ?_ (mT.refl _ _) ?_
   ·have e1:(.slice none 0 0:Value) = .slice none (0+str.size) 0:=(by rw[hm])
    rw[e1,nil_append,<-hp];exact h.put (.v _)
   rw[nil_append,hp];exact Fr.refl _ _
  have fy:w.ownsRow 0 e 1 (.slice none 0 0) 0 []:=⟨by simp,.inl ⟨rfl,rfl⟩⟩
  obtain⟨v',w',I,q2,q3,_,Z⟩:=Qr (P:=P) 0 t u o.type e i ht hu lg gE qg qU _ 0 _ fy str oY O (Nat.zero_le _);simp only[Nat.zero_add,nil_append] at q2;obtain⟨g,E,rfl,_,aa⟩:=q2.form w4;have q6:(none:Option Nat)=some g\/g=w.heap.size:=by
   rcases Z with Z|Z
   ·simp[Value.ownBlock] at Z
   right;simpa[Value.ownBlock] using Z
  obtain⟨_,q2⟩:=q2;rcases q2 with ⟨q2,_⟩|⟨g',aO,mL,e1,_,e2,e3,e4,e5,e6⟩
  ·cases q2
  have DY:g=g'/\E=aO:=(by simpa using e1)
  obtain⟨rfl,rfl⟩:=DY;rw[Nat.mul_one] at e5 e6;obtain⟨s1,s2,s3⟩:=h.grown (hne:=hne) (t:=tt) (m:=str.size) (e:=e) (sz:=1) (S:=x.S) (cs:=pV str.data.toList) (row:=none) (g:=g) (cap:=E) (Sublist.refl _) (fun k' rV=>by cases rV) q3 q6 aa e2 w4 w4 (fun j hj=>by
    obtain⟨u,zg,zh⟩:=U j w4;refine⟨u,?_,zh hj⟩;rw[<-zg,<-e6,getElem?_take_of_lt w4,Array.getElem?_toList])
  unfold Oper.wp;rw[Jk (P:=P) ho (h.flat hs) (h.flat hy) I,Oper.upon_value,hd];refine hK ⟨x.n,(tt,.v (.slice (some ⟨g,0,none⟩) (0+str.size) E))::x.env,[⟨g,e,E*1,[]++pV str.data.toList⟩]++R⟩ _ _ ⟨_,E,_,.inr ⟨g,rfl,by omega,e4,rfl⟩,rfl⟩ ?_ s2 ?_
  ·rw[Nat.zero_add,nil_append,<-hp];exact s1
  rw[nil_append,<-hp];exact s3
 have hk:x.S[0]?=some (⟨b,e,cap*1,cs⟩:ag):=(by rw[hp];rfl)
 obtain⟨r0,cur,r1,r2,r3,r4⟩:=h.fP hk;simp only at r0 r1 r2 r3 r4;rw[lp hne] at r1;rw[Nat.mul_one] at r2 r3;have fy:w.ownsRow 0 e 1 (.slice (some ⟨b,0,none⟩) n cap) n (cur.toList.take n) :=
  ⟨by simp;omega,.inr ⟨b,cap,cur,rfl,Nat.zero_le _,r1,h1,h2,by omega,by rw[Nat.mul_one]⟩⟩
 obtain⟨v',w',I,q2,q3,q4,Z⟩:=Qr (P:=P) 0 t u o.type e i ht hu lg gE qg qU _ n _ fy str oY O (Nat.zero_le _);obtain⟨_,q2⟩:=q2;rcases q2 with ⟨q2,_⟩|⟨g,E,mL,rfl,_,e2,e3,e4,e5,e6⟩
 ·have:=(q4.1 q2).1;cases this
 have q6:(some b:Option Nat)=some g\/g=w.heap.size:=by
  rcases Z with Z|Z
  ·exact .inl Z.symm
  right;simpa[Value.ownBlock] using Z
 rw[Nat.mul_one] at e5 e6;have aa:g<w'.heap.size:=by
  rcases Nat.lt_or_ge g w'.heap.size with hh|hh
  ·exact hh
  rw[Array.getElem?_eq_none hh] at e2;cases e2
 have hR:R=x.S.eraseIdx 0:=(by rw[hp];rfl)
 obtain⟨s1,s2,s3⟩:=h.grown (hne:=hne) (t:=tt) (m:=n+str.size) (e:=e) (sz:=1) (S:=x.S.eraseIdx 0) (cs:=cs++pV str.data.toList) (row:=some b) (g:=g) (cap:=E) (eraseIdx_sublist _ _) (fun k' rV=>by
   have:b=k':=(by simpa using rV)
   subst this;refine⟨mem_map.2 ⟨_,mem_of_getElem? hk,rfl⟩,fun hm=>?_⟩;have Iy:(aj x.S).Perm (b::aj (x.S.eraseIdx 0)):=(by have:=(vX hk).map ag.b;simpa[aj] using this)
   exact(nodup_cons.1 (Iy.nodup_iff.1 h.own.apart)).1 hm) q3 q6 aa e2 w4 xw (fun j hj=>by
   rw[length_append] at hj;have Db:mL[j]?=(cur.toList.take n++Go.Lib.strCells str)[j]?:=(by rw[<-e6,getElem?_take_of_lt w4,Array.getElem?_toList])
   rw[Db];have uG:(cur.toList.take n).length=n:=(by simp;omega)
   by_cases lX:j<n
   ·obtain⟨u,hu,hq⟩:=r4 j w4;refine⟨u,?_,?_⟩
    ·rw[getElem?_append_left w4,getElem?_take_of_lt lX,Array.getElem?_toList,hu]
    rw[getElem_append_left w4];exact hq
   obtain⟨u,zg,zh⟩:=U (j-n) w4;refine⟨u,?_,?_⟩
   ·rw[getElem?_append_right w4,uG,zg]
   rw[getElem_append_right w4];have:=zh w4;simp only[hl];exact this)
 unfold Oper.wp;rw[Jk (P:=P) ho (h.flat hs) (h.flat hy) I,Oper.upon_value,hd];refine hK ⟨x.n,(tt,.v (.slice (some ⟨g,0,none⟩) (n+str.size) E))::x.env,[⟨g,e,E*1,cs++pV str.data.toList⟩]++R⟩ _ _ ⟨_,E,_,.inr ⟨g,rfl,e3,e4,rfl⟩,rfl⟩ ?_ (by simpa[aj] using s2) ?_
 ·rw[hR];exact s1
 rw[hR];exact s3
theorem ab4 {s:Operand} {cs:List D} {str:ByteArray} (hw:bV ops x o true) (ho:o.op = .call {callee:=.builtin .append,args:=#[s,y],argTypes:=#[t,u]}) (hd:o.dst=some tt)
  (ht:P.underlying t=some (.slice e)) (hu:P.underlying u=some .string) (hi:(P.info? e).map (fun i=>(i.zero,i.size,i.bytes))=some (some (.int .u8 0),1,1))
  (hs:aD x s = .v (.slice ad n cap)) (I:bq e 1 cs n ad cap Sq) (hp:x.S.Perm (Sq++R)) (hl:cs.length=n) (hy:aD x y = .v (.string str)) (O:n+str.size<=maxLen) (E:n+str.size<=140737488355328)
  (K:∀gL aO S',bq e 1 (cs++pV str.data.toList) (n+str.size) gL aO S'->OD P C ops l ⟨x.n,(tt,.v (.slice gL (n+str.size) aO))::x.env,S'++R⟩ Q) (hne:isMap e=false:=by rfl):OD P C ops (o::l) x Q:=by
 refine bZ hp ?_;have U:bV ops ⟨x.n,x.env,Sq++R⟩ o true:=fun C a w hs=>hw C a w ((Wk.perm (n:=x.n) (env:=x.env) hp.symm) C a w hs);have Z:aD ⟨x.n,x.env,Sq++R⟩ s = .v (.slice ad n cap):=(by rw[<-hs];cases s<;>rfl)
 have OT:aD ⟨x.n,x.env,Sq++R⟩ y = .v (.string str):=(by rw[<-hy];cases y<;>rfl)
 exact OD.gm U (abP (hne:=hne) ho hd ht hu hi Z I rfl hl OT O E) fun y ⟨gL,aO,S',h1,hy⟩=>hy ▸ K gL aO S' h1
theorem sj {g:α->List D} {ls new:List α} {s:Operand} {bytes:Nat} {z:Value} (hg:∀a,(g a).length=sz) (hg1:∀a,(g a).all one=true) (hw:bV ops x o true) (ho:o.op = .call {callee:=.builtin .append,args:=#[s,y],argTypes:=#[t,t]}) (hd:o.dst=some tt)
  (ht:P.underlying t=some (.slice e)) (hi:(P.info? e).map (fun i=>(i.zero,i.size,i.bytes))=some (some z,sz,bytes)) (eM:z.cells.size=sz) (dg:0<sz) (Z:∀w,(underlying t).run P w = .ok (.slice e) w) (O:∀w,(sizeOf e).run P w = .ok sz w)
  (hs:aD x s = .v (.slice ad ls.length cap)) (I:bq e sz (ls.flatMap g) ls.length ad cap Sq) (hp:x.S.Perm (Sq++R))
  (hy:aD x y = .list sz (new.flatMap g) new.length) (U:ls.length+new.length<=maxLen) (E:(ls.length+new.length)*bytes<=140737488355328)
  (K:∀gL aO S',bq e sz ((ls++new).flatMap g) (ls++new).length gL aO S'->OD P C ops l ⟨x.n,(tt,.v (.slice gL (ls++new).length aO))::x.env,S'++R⟩ Q) (hne:isMap e=false:=by rfl):OD P C ops (o::l) x Q:=by
 rcases Nat.eq_zero_or_pos new.length with h0|h0
 ·have hn:new=[]:=eq_nil_of_length_eq_zero h0;subst hn;refine pR hw hd (Qx ho Z O hs I.le hy) ?_;have:=K ad cap Sq (by rw[append_nil];exact I);rw[append_nil] at this;exact fC (Wk.perm (n:=x.n) hp) this
 exact fY (hne:=hne) hg hg1 hw ho hd ht hi eM dg hs I hp hy h0 U E fun b' aO h1 h2=>K _ aO _ (bN h1 h2)
theorem ab5 {t e:TypeId} {vs:List Value} (ho:o.op = .slice t y none none none) (hy:aD x y = .v (.pointer (some ⟨b,0,none⟩))) (hg:(b,vs)∈G)
  (I:∀w,(underlying t).run P w = .ok (.array n e) w) (hs:∀w,(sizeOf e).run P w = .ok sz w) (hl:vs.length=n*sz) (hn:n≠0) (iS:n<=maxLen) (rU:vs.all sF=true:=by rfl):bS P G x o .none (.list sz (vs.map .v) n):=fun C a w hG h=>by
 subst hG;obtain⟨⟨q1,q2,O⟩,U⟩:=h.eI _ hg;refine⟨.slice (some ⟨b,0,none⟩) n n,.list sz (vs.map .v) n b 0 n (fun i=>vs.getD i undef) yB (Nat.le_refl _) iS (Nat.lt_of_lt_of_le q1 h.fr.size) (fun hl=>hl.elim O (h.fr.block b q1 q2).2) (fun i hi=>?_) (fun i hi=>?_),fun w' _=>?_⟩
 ·have E:i<vs.length:=(by simpa using hi)
  have:=(h.aW hg (getElem?_eq_getElem E)).cell (S5 rU (getElem?_eq_getElem E));rw[Nat.zero_add,this];simp[E]
 ·have E:i<vs.length:=(by simpa using hi)
  simp only[getElem_map,getD_eq_getElem?_getD,getElem?_eq_getElem E,Option.getD_some];exact .v _
 unfold execOp;have b3:(Instr.sliceBounds false n n none none none).run P w' = .ok (0,n,n) w':=(by unfold Instr.sliceBounds;simp)
 simp only[ho,h.flat hy,Instr.sliceAt,I,Instr.sureAddr,Sem.run_bind,Result.andThen_ok,Option.map_none,Sem.run_pure,b3,hs,Nat.sub_zero];rw[if_neg hn];simp[Addr.add_mid]
theorem UT {g:α->List D} {ls:List α} {t e:TypeId} {l' h':Nat} {vs:List Value} (hg:(b,vs)∈G) (hv:vs.map D.v=ls.flatMap g) (E:n=ls.length)
  (I:∀w,(underlying t).run P w = .ok (.array n e) w) (hs:∀w,(sizeOf e).run P w = .ok sz w) (hl:vs.length=n*sz) (hn:n≠0) (iS:n<=maxLen) (rU:vs.all sF=true:=by rfl):Rs P G t none none l' h' (.v (.pointer (some ⟨b,0,none⟩))) (.list sz (ls.flatMap g) ls.length):=fun x o y ho hy _ _=>by
 have:=ab5 (P:=P) (G:=G) ho hy hg I hs hl hn iS rU;rw[hv,E] at this;exact this
theorem vb{x y:Bool}(h:x=y):D.v (.bool x)=D.v (.bool y):=by rw[h]
theorem vi{k:IntKind}{x y:Int}(h:x=y):D.v (.int k x)=D.v (.int k y):=by rw[h]
theorem vs{x y:ByteArray}(h:x=y):D.v (.string x)=D.v (.string y):=by rw[h]
def cB(b:UInt8):List D:=[wK b]
theorem qv(b:UInt8):(cB b).length=1:=rfl
theorem yf(b:UInt8):(cB b).all one=true:=rfl
theorem LU(bs:List UInt8):bs.flatMap cB=bs.map wK:=by
 induction bs with
 | nil=>rfl
 | cons a r ih=>rw[flatMap_cons,ih];rfl
theorem afE(bs:List UInt8):pV bs=bs.flatMap cB:=(LU bs).symm
def cS(s:ByteArray):List D:=[.v (.string s)]
theorem jW(s:ByteArray):(cS s).length=1:=rfl
theorem abH{s t e:TypeId}{bs:List UInt8}(ho:o.op = .convert s t y)(hy:aD x y = .list 1 (bs.flatMap cB) n)(hs:P.underlying s=some (.slice e))(he:P.underlying e=some (.int .u8))(ht:P.underlying t=some .string) :
  bS P G x o .kL (.v (.string ⟨bs.toArray⟩)):=abN ho (by rw[hy,LU]) hs he ht
def mZ(s:ByteArray)(k:Nat):UInt8:=s.data.toList.getD k 0
theorem LV{s:ByteArray}(h:k<s.size):s[k]?=some (mZ s k):=by
 have h':k<s.data.size:=h;rw[getElem?_pos s k h];congr 1;show s.data[k]=_;simp only[mZ,getD_eq_getElem?_getD,Array.getElem?_toList,Array.getElem?_eq_getElem h',Option.getD_some]
theorem lJ(s:ByteArray):s.data.toList.length=s.size:=by rw[Array.length_toList];rfl
theorem xZ(s:ByteArray):s.toList=s.data.toList:=by rw[ByteArray.toList_eq]
theorem Jy{s:ByteArray}(h:k<s.data.toList.length):s.data.toList[k]=mZ s k:=by simp only[mZ,getD_eq_getElem?_getD,getElem?_eq_getElem h,Option.getD_some]
theorem ai7{s:ByteArray}(h:(!(s.toList==(⟨#[]⟩:ByteArray).toList))=true):0<s.size:=by
 rcases Nat.eq_zero_or_pos s.size with h0|h0
 ·have:s.data.toList=[]:=eq_nil_of_length_eq_zero (by rw[lJ,h0]);rw[xZ,xZ,this] at h;cases h
 exact h0
theorem wg{s:ByteArray}:(s.toList==(⟨#[]⟩:ByteArray).toList)=decide (s.size=0):=by
 rw[Bool.eq_iff_iff,beq_iff_eq,decide_eq_true_eq,xZ,xZ,<-lJ];exact⟨fun h=>by rw[h];rfl,fun h=>eq_nil_of_length_eq_zero h⟩
theorem Ct{s t:ByteArray}(h:s.data.toList=t.data.toList):s=t:=by
 obtain⟨⟨a⟩⟩:=s;obtain⟨⟨b⟩⟩:=t;simp only at h;rw[h]
def jf(a b:ByteArray):Bool:=a.toList==b.toList
theorem wo{a b:ByteArray}:jf a b=true↔a=b:=by
 unfold jf;rw[beq_iff_eq,xZ,xZ];exact⟨Ct,fun h=>by rw[h]⟩
theorem bq.str{s:ByteArray}(h:bq e 1 (ls.flatMap cB++pV s.data.toList) (ls.length+s.size) ad cap S):bq e 1 ((ls++s.data.toList).flatMap cB) (ls++s.data.toList).length ad cap S:=by
 rw[flatMap_append,<-afE s.data.toList,length_append,lJ];exact h
theorem abQ {s:Operand} {str:ByteArray} (hw:bV ops x o true) (ho:o.op = .call {callee:=.builtin .append,args:=#[s,y],argTypes:=#[t,u]}) (hd:o.dst=some tt)
  (ht:P.underlying t=some (.slice e)) (U:P.underlying u=some .string) (hi:(P.info? e).map (fun i=>(i.zero,i.size,i.bytes))=some (some (.int .u8 0),1,1))
  (hs:aD x s = .v (.slice ad ls.length cap)) (I:bq e 1 (ls.flatMap cB) ls.length ad cap Sq) (hp:x.S.Perm (Sq++R)) (hy:aD x y = .v (.string str)) (O:ls.length+str.size<=maxLen) (E:ls.length+str.size<=140737488355328)
  (K:∀gL aO S',bq e 1 ((ls++str.data.toList).flatMap cB) (ls++str.data.toList).length gL aO S'->OD P C ops l ⟨x.n,(tt,.v (.slice gL (ls++str.data.toList).length aO))::x.env,S'++R⟩ Q) (hne:isMap e=false:=by rfl):OD P C ops (o::l) x Q :=
 ab4 (hne:=hne) hw ho hd ht U hi hs I hp (by rw[cz qv,Nat.mul_one]) hy O E fun gL aO S' h=>by
  have:=K gL aO S' h.str;rw[length_append,lJ] at this;exact this
def c9(p:α->Bool)(ls:List α):Int:=match ls.findIdx? p with|some i=>i|none=>-1
theorem xW{p:α->Bool}{ls:List α}(hk:k<ls.length)(h0:∀x∈ls.take k,p x=false)(h1:p ls[k]=true):c9 p ls=k:=by
 have:ls.findIdx? p=some k:=by
  rw[findIdx?_eq_some_iff_getElem];refine⟨hk,h1,fun j hj=>?_⟩;have:=h0 ls[j] (mem_take_iff_getElem.2 ⟨j,by omega,rfl⟩);simp[this]
 simp[c9,this]
theorem xQ{p:α->Bool}{ls:List α}(hk:¬(k<ls.length))(h0:∀x∈ls.take k,p x=false):c9 p ls = -1:=by
 have:ls.findIdx? p=none:=by
  rw[findIdx?_eq_none_iff];intro x hx;rw[take_of_length_le w4] at h0;exact h0 x hx
 simp[c9,this]
theorem Tg{p:α->Bool}{ls:List α}:decide (c9 p ls>=0)=ls.any p:=by
 unfold c9;cases h:ls.findIdx? p with
 | none =>
  have:=findIdx?_eq_none_iff.1 h;simp;exact this
 | some i =>
  obtain⟨h1,h2,_⟩:=findIdx?_eq_some_iff_getElem.1 h;simp only[ge_iff_le,Int.natCast_nonneg,decide_true];exact(any_eq_true.2 ⟨_,getElem_mem h1,h2⟩).symm
theorem Ac{p:α->Prop}{ls:List α}(hk:k<ls.length)(h0:∀x∈ls.take k,p x)(h1:p ls[k]):∀x∈ls.take (k+1),p x:=by
 rw[take_succ_eq_append_getElem hk];intro x hx;rcases mem_append.1 hx with hx|hx
 ·exact h0 x hx
 simp only[mem_singleton] at hx;subst hx;exact h1
end
section
variable {P:Program} {C:dJ} {G:List (Nat×List Value)} {Q:Exit->St->Prop} {ops:Array Oper} {l l2:List Oper} {o:Oper} {n t:Nat} {d:D} {e e' l':List (Nat×D)} {S:List ag} {ts:List Nat} {c:Bool}
variable {q:Nat} {ld:Array Bool}
theorem tW{a:Act}{w:World}{K:Act->World->Prop}{R:Exit->Act->World->Prop}(h:o.wp P a w K R):o.wp P a w (fun a' w'=>K a' w'/\∃v,a'.tmps=(a.put o.dst v).tmps) R:=by
 unfold Oper.wp at *;generalize (execOp a.eval o).run P w=r at *;cases r with
 | ok x w' =>
  cases x<;>simp only[Oper.upon] at h |- <;>
   first
    | exact⟨h,_,rfl⟩
    | exact Calls.mono h (fun e E he=>by cases e<;>first|exact⟨he,_,rfl⟩|exact he)
    | exact Rows.mono h (fun _ _ he=>⟨he,_,rfl⟩)
    | (refine⟨h,undef,?_⟩;unfold Act.put;cases o.dst<;>rfl)
 | halt x w'=>cases x<;>simp only[Oper.upon] at h |-<;>exact h
theorem bB.yo{a a':Act}{w w':World}{v:Value}(h:bB C ⟨n,e,S⟩ a w)(k:bB C ⟨n,(t,d)::l',S⟩ a' w')(hf:Fr w (aj S) w' (aj S))(hv:a'.tmps=(a.put (some t) v).tmps):bB C ⟨n,(t,d)::e,S⟩ a' w':=by
 refine⟨k.defers,k.size,fun q hq=>?_,k.own,k.fr,k.ex,k.eI⟩;by_cases E:t=q
 ·subst E;have:=k.env t hq;simp only[eD,if_pos] at this |-;exact this
 have h1:=h.env q hq;have h2:a'.tmps.getD q undef=a.tmps.getD q undef:=(by rw[hv];simp[Act.put,Array.getD_eq_getD_getElem?,Array.getElem?_setIfInBounds,E])
 simp only[eD,if_neg E];rw[h2];exact h1.mono fun b hb hn=>⟨(hf.block b hb (fun hm=>hn (.inr hm))).1,hn⟩
theorem fh.yo(hd:o.dst=some t)(h:fh P G ⟨n,l',S⟩ o [] (fun y=>y=⟨n,(t,d)::l',S⟩))(hs:oN e l'):fh P G ⟨n,e,S⟩ o [] (fun y=>y=⟨n,(t,d)::e,S⟩):=fun C a w K R hG E hK=>by
 have h1:=h C a w (fun a' w'=>bB C ⟨n,(t,d)::l',S⟩ a' w'/\mT [] w w'/\Fr w (aj S) w' (aj S)) R hG (Wk.kU hs C a w E) (fun y a' w' hy I hc hf=>by subst hy;exact⟨I,hc,hf⟩);refine Oper.wp_mono (fun a' w' h2=>?_) (tW h1);obtain⟨⟨h3,h4,h5⟩,v,h6⟩:=h2;rw[hd] at h6;exact hK _ a' w' rfl (E.yo h3 h5 h6) h4 h5
def jx(ops:Array Oper)(o:Oper)(ts:List Nat):Bool:=(range ops.size).all fun j=>match ops[j]? with
 | some p=>(match p.dst with
  | some t=>!(ts.elem t)||o.after.any (fun e=>Region.binds .any e&&Nat.beq e.on j)
  | none=>true)
 | none=>true
def j6(ops:Array Oper):Bool:=(range ops.size).all fun i=>match ops[i]? with
 | some o=>o.after.all (fun e=>!Region.binds .any e||Nat.blt e.on i)&&(match o.dst with
  | some t=>(range i).all fun j=>match ops[j]? with
   | some p=>(match p.dst with|some q=>!(Nat.beq q t)|none=>true)
   | none=>true
  | none=>false)
 | none=>true
inductive PD (c:Bool) (P:Program) (G:List (Nat×List Value)) (n:Nat) (S:List ag) (ops:Array Oper):List Oper->List (Nat×D)->List Oper->List (Nat×D)->Prop
 | nil {l:List Oper} {e:List (Nat×D)}:PD c P G n S ops l e l e
 | cons {o:Oper} {l l2:List Oper} {t:Nat} {d:D} {e e' l':List (Nat×D)} {ts:List Nat} (hd:o.dst=some t) (hr:eW ts e l') (hq:(!c||jx ops o ts)=true) (hw:bV ops ⟨n,l',S⟩ o true)
   (h:fh P G ⟨n,l',S⟩ o [] (fun y=>y=⟨n,(t,d)::l',S⟩)) (k:PD c P G n S ops l ((t,d)::e) l2 e'):PD c P G n S ops (o::l) e l2 e'
 | skip {o:Oper} {l l2:List Oper} {t:Nat} {e e' l':List (Nat×D)} {ts:List Nat} (hd:o.dst=some t) (hr:eW ts e l') (hq:(!c||jx ops o ts)=true) (hw:bV ops ⟨n,l',S⟩ o false)
   (k:PD c P G n S ops l ((t,.v (.tuple #[]))::e) l2 e'):PD c P G n S ops (o::l) e l2 e'
theorem PD.od(h:PD c P C.G n S ops l e l2 e')(K:OD P C ops l2 ⟨n,e',S⟩ Q):OD P C ops l ⟨n,e,S⟩ Q:=by
 induction h with
 | nil=>exact K
 | cons hd hr hq hw h k ih=>exact OD.gm (fun C a w hs=>hw C a w (Wk.kU hr.kU C a w hs)) (h.yo hd hr.kU) fun y hy=>by subst hy;exact ih K
 | skip hd hr hq hw k ih=>exact UI (fun C a w hs=>hw C a w (Wk.kU hr.kU C a w hs)) hd (ih K)
def Gd(P:Program)(G:List (Nat×List Value))(n:Nat)(S:List ag)(ops:Array Oper)(eF:List (Nat×D))(i:Nat):Prop :=
 ∃o t ts l',ops[i]?=some o/\o.dst=some t/\jx ops o ts=true/\(∀p∈l',p.1∈ts/\look p.1 eF=look p.1 l')/\l'.map (·.1)=ts /\
  ((bV ops ⟨n,l',S⟩ o true/\fh P G ⟨n,l',S⟩ o [] (fun y=>y=⟨n,(t,look t eF)::l',S⟩))\/(bV ops ⟨n,l',S⟩ o false/\look t eF = .v (.tuple #[])))
theorem eW.keys(h:eW ts e l'):l'.map (·.1)=ts:=by
 induction h with
 | nil=>rfl
 | cons h k ih=>rw[map_cons,ih]
theorem eW.at(h:eW ts e l')(hq:q∈ts):look q l'=look q e:=by
 induction h with
 | nil=>cases hq
 | @cons t ts d e l' h k ih =>
  rw[eD];by_cases E:t=q
  ·subst E;rw[if_pos rfl,h]
  rw[if_neg E];rcases mem_cons.1 hq with rfl|hm
  ·exact absurd rfl E
  exact ih hm
theorem rB(h:j6 ops=true){i:Nat}{o:Oper}(hi:ops[i]?=some o):(∀e∈o.after,Region.binds .any e=true->e.on<i)/\∃t,o.dst=some t/\∀j p,j<i->ops[j]?=some p->p.dst≠some t:=by
 have aa:=(Array.getElem?_eq_some_iff.1 hi).1;have:=all_eq_true.1 h i (mem_range.2 aa);simp only[hi,Bool.and_eq_true] at this;obtain⟨h1,h2⟩:=this;refine⟨fun e he hb=>?_,?_⟩
 ·have:=Array.all_eq_true'.1 h1 e he;simp only[hb,Bool.not_true,Bool.false_or] at this;exact Nat.le_of_ble_eq_true this
 cases hd:o.dst with
 | none=>rw[hd] at h2;cases h2
 | some t =>
  rw[hd] at h2;refine⟨t,rfl,fun j p hj hp hq=>?_⟩;have:=all_eq_true.1 h2 j (mem_range.2 hj);simp only[hp,hq,Bool.not_eq_true'] at this;have h3:Nat.beq t t=true:=Nat.beq_refl t;rw[h3] at this;cases this
theorem wj(h:jx ops o ts=true){j:Nat}{p:Oper}(hj:ops[j]?=some p)(hp:p.dst=some q)(hq:q∈ts):∃e∈o.after,Region.binds .any e=true/\e.on=j:=by
 have aa:=(Array.getElem?_eq_some_iff.1 hj).1;have:=all_eq_true.1 h j (mem_range.2 aa);simp only[hj,hp] at this;rw[show ts.elem q=true from elem_eq_true_of_mem hq] at this;simp only[Bool.not_true,Bool.false_or] at this;obtain⟨e,he,hb⟩:=Array.any_eq_true'.1 this;rw[Bool.and_eq_true] at hb;exact⟨e,he,hb.1,Nat.eq_of_beq_eq_true hb.2⟩
theorem PD.later(h:PD c P G n S ops l e l2 e')(hq:∀o∈l,o.dst≠some q):look q e'=look q e:=by
 induction h with
 | nil=>rfl
 | @cons o l l2 t d e e' l' ts hd hr tr hw h k ih =>
  rw[ih fun p hp=>hq p (mem_cons_of_mem _ hp),eD,if_neg (fun e1:t=q=>hq o mem_cons_self C3)]
 | @skip o l l2 t e e' l' ts hd hr tr hw k ih =>
  rw[ih fun p hp=>hq p (mem_cons_of_mem _ hp),eD,if_neg (fun e1:t=q=>hq o mem_cons_self C3)]
theorem PD.wT(hp:j6 ops=true)(h:PD true P G n S ops l e l2 e'):l2=[]->∀k,ops.toList.drop k=l->∀i,k<=i->i<ops.size->Gd P G n S ops e' i:=by
 induction h with
 | nil =>
  intro iu k hk i h1 h2;rw[iu,drop_eq_nil_iff] at hk;simp at hk;omega
 | @cons o l l2 t d e e' l' ts hd hr tr hw h k0 ih =>
  intro iu k hk i h1 h2;have aQ:ops.toList[k]?=some o:=(by rw[<-head?_drop,hk];rfl)
  have rI:ops[k]?=some o:=(by rw[<-Array.getElem?_toList];exact aQ)
  have gY:ops.toList.drop (k+1)=l:=(by rw[<-drop_drop,hk];rfl)
  rcases Nat.eq_or_lt_of_le h1 with rfl|h1
  ·have j5:∀j p,k<j->ops[j]?=some p->p.dst≠some t:=fun j p hj rS fj=>by
    exact Ir
   have aa:∀p∈l,p.dst≠some t:=fun p eP=>by
    exact Ip
   have E:look t e'=d:=(by rw[k0.later aa,eD,if_pos rfl])
   refine⟨o,t,ts,l',rI,hd,by simpa using tr,fun p eP=>?_,hr.keys,.inl ⟨hw,by rw[E];exact h⟩⟩;exact ZT
  exact ih iu (k+1) gY i h1 h2
 | @skip o l l2 t e e' l' ts hd hr tr hw k0 ih =>
  intro iu k hk i h1 h2;have aQ:ops.toList[k]?=some o:=(by rw[<-head?_drop,hk];rfl)
  have rI:ops[k]?=some o:=(by rw[<-Array.getElem?_toList];exact aQ)
  have gY:ops.toList.drop (k+1)=l:=(by rw[<-drop_drop,hk];rfl)
  rcases Nat.eq_or_lt_of_le h1 with rfl|h1
  ·have j5:∀j p,k<j->ops[j]?=some p->p.dst≠some t:=fun j p hj rS fj=>by
    exact Ir
   have aa:∀p∈l,p.dst≠some t:=fun p eP=>by
    exact Ip
   have E:look t e' = .v (.tuple #[]):=(by rw[k0.later aa,eD,if_pos rfl])
   refine⟨o,t,ts,l',rI,hd,by simpa using tr,fun p eP=>?_,hr.keys,.inr ⟨hw,E⟩⟩;exact ZT
  exact ih iu (k+1) gY i h1 h2
def left(N:Nat)(ld:Array Bool):Nat:=((range N).filter fun j=>!ld.getD j true).length
theorem wq{N i:Nat}(hi:i<N)(hl:ld.getD i true=false):left N (ld.setIfInBounds i true)<left N ld:=by
 unfold left;have dg:i<ld.size:=by
  rcases Nat.lt_or_ge i ld.size with h|h
  ·exact h
  rw[Array.getD_eq_getD_getElem?,Array.getElem?_eq_none h] at hl;cases hl
 have h1:(range N).filter (fun j=>!(ld.setIfInBounds i true).getD j true)=((range N).filter fun j=>!ld.getD j true).filter (fun j=>!decide (j=i)):=by
  rw[filter_filter];congr 1;funext j;by_cases hj:j=i
  ·subst hj;simp[Array.getD_eq_getD_getElem?,Array.getElem?_setIfInBounds,dg]
  simp[Array.getD_eq_getD_getElem?,Array.getElem?_setIfInBounds,hj,Ne.symm hj]
 rw[h1];refine length_filter_lt_length_iff_exists.2 ⟨i,mem_filter.2 ⟨mem_range.2 hi,by simp[hl]⟩,by simp⟩
theorem GB(hp:j6 ops=true)(hr:Region.ready .any ops ld=[]):∀j,j<ops.size->ld.getD j true=true:=fun j=>by
 induction j using Nat.strongRecOn with
 | _ j ih =>
  intro hj;cases hl:ld.getD j true with
  | true=>rfl
  | false =>
   have ho:ops[j]?=some ops[j]:=Array.getElem?_eq_getElem hj;have:j∈Region.ready .any ops ld:=mem_ready.2 ⟨hl,ops[j],ho,fun e he hb=>by
    have aa:=(rB hp ho).1 e he hb;have:=ih e.on aa w4;rw[Array.getD_eq_getD_getElem?] at this |-;cases hq:ld[e.on]? with
    | none =>
     have h3:ld.size<=e.on:=Array.getElem?_eq_none_iff.1 hq;rw[Array.getD_eq_getD_getElem?,Array.getElem?_eq_none w4] at hl;cases hl
    | some b=>rw[hq] at this;exact this⟩
   rw[hr] at this;cases this
theorem Ch{q:Nat}:∀{r:List (Nat×D)},¬q∈r.map (·.1)->look q r = .bF
 | [],_=>rfl
 | (p1,p2)::r,hm=>by
  rw[map_cons,mem_cons,not_or] at hm;rw[eD,if_neg (fun e1=>hm.1 e1.symm)];exact Ch hm.2
theorem ai8{O:List (Nat×D)}{w1:World}{S1:List Nat}(hS1:aj S=S1)(hp:j6 ops=true)(H:∀i,i<ops.size->Gd P C.G n S ops O i)(hQ:Q .normal ⟨n,O,S⟩):∀(fuel:Nat) (ld:Array Bool) (env:List (Nat×D)) (a:Act) (w:World),
  left ops.size ld<=fuel->bB C ⟨n,env,S⟩ a w->Fr w1 S1 w S1->(∀q,(∀j o,ops[j]?=some o->o.dst=some q->ld.getD j true=true)->look q env=look q O)->wpAnyH P .any ops (LQ C Q) (kE w1 S1 []) fuel ld a w:=by
 have fw:∀(ld:Array Bool) (env:List (Nat×D)) (a:Act) (w:World),bB C ⟨n,env,S⟩ a w->(∀q,(∀j o,ops[j]?=some o->o.dst=some q->ld.getD j true=true)->look q env=look q O)->(∀j,j<ops.size->ld.getD j true=true)->LQ C Q .normal a w:=fun ld env a w hs he eL =>
  .inl ⟨⟨n,O,S⟩,⟨hs.defers,hs.size,fun q hq=>by have:=hs.env q hq;rw[he q fun j o hj _=>eL j (Array.getElem?_eq_some_iff.1 hj).1] at this;exact this,hs.own,hs.fr,hs.ex,hs.eI⟩,hQ⟩
 intro fuel;induction fuel with
 | zero =>
  intro ld env a w hl hs hf he;have eL:∀j,j<ops.size->ld.getD j true=true:=fun j hj=>by
   cases hq:ld.getD j true with
   | true=>rfl
   | false=>have:=wq hj hq;omega
  refine⟨?_,fw ld env a w hs he eL⟩;rw[eq_nil_iff_forall_not_mem];intro j hj;obtain⟨h1,o,h2,_⟩:=mem_ready.1 hj;have:=eL j (Array.getElem?_eq_some_iff.1 h2).1;rw[h1] at this;cases this
 | succ fuel ih =>
  intro ld env a w hl hs hf he;refine⟨fun h0=>fw ld env a w hs he (GB hp h0),fun i hi=>?_⟩;obtain⟨jB,o,E,yK⟩:=mem_ready.1 hi;have aa:=(Array.getElem?_eq_some_iff.1 E).1;obtain⟨o',t,ts,l',h1,hd,hq,lj,hk,hb⟩:=H i aa;rw[E] at h1;obtain rfl:=Option.some.inj h1;have Ng:=wq aa jB;have ow:∀j,(ld.setIfInBounds i true).getD j true=true↔j=i\/ld.getD j true=true:=fun j=>by
   by_cases hj:j=i
   ·subst hj;have dg:j<ld.size:=by
     rcases Nat.lt_or_ge j ld.size with h|h
     ·exact h
     rw[Array.getD_eq_getD_getElem?,Array.getElem?_eq_none h] at jB;cases jB
    simp[Array.getD_eq_getD_getElem?,Array.getElem?_setIfInBounds,dg]
   simp[Array.getD_eq_getD_getElem?,Array.getElem?_setIfInBounds,hj,Ne.symm hj]
  have hsl:∀{r:List (Nat×D)},(∀p∈r,look p.1 env=p.2)->oN env r:=by
   intro r;induction r with
   | nil=>intro _;trivial
   | cons p r ihr=>intro hr;exact⟨hr p mem_cons_self,ihr fun p' tu=>hr p' (mem_cons_of_mem _ tu)⟩
  have ame:∀p∈l',look p.1 env=look p.1 l':=fun p eP=>by
   obtain⟨h2,h3⟩:=lj p eP;rw[<-h3];refine he p.1 fun j oj hj fj=>?_;obtain⟨e1,mR,gw,jh⟩:=wj hq hj fj h2;have:=yK e1 mR gw;rw[jh] at this;rw[Array.getD_eq_getD_getElem?] at this |-;cases hx:ld[j]? with
   | none=>rw[hx] at this;cases this
   | some b=>rw[hx] at this;exact this
  have U:bB C ⟨n,l',S⟩ a w:=⟨hs.defers,hs.size,fun q zi=>by
   by_cases hm:q∈ts
   ·rw[<-hk] at hm;obtain⟨p,eP,rfl⟩:=mem_map.1 hm;have:=hs.env p.1 zi;rw[ame p eP] at this;exact this
   have:look q l' = .bF:=by
    rw[<-hk] at hm;exact Ch hm
   rw[this];exact .bF _,hs.own,hs.fr,hs.ex,hs.eI⟩
  have iY:∀(a':Act) (w':World),bB C ⟨n,(t,look t O)::env,S⟩ a' w'->Fr w (aj S) w' (aj S)->kE w1 S1 [] w'/\wpAnyH P .any ops (LQ C Q) (kE w1 S1 []) fuel (ld.setIfInBounds i true) a' w':=fun a' w' Z nv=>by
   have gC:Fr w1 S1 w' S1:=hf.trans (hS1 ▸ nv);refine⟨⟨fun b h2 h3=>(gC.block b h2 h3).1,fun b h2=>by cases h2⟩,ih _ _ a' w' w4 Z gC fun q mo=>?_⟩;rw[eD];by_cases I:t=q
   ·rw[if_pos I,I]
   rw[if_neg I];refine he q fun j oj hj fj=>?_;rcases(ow j).1 (mo j oj hj fj) with rfl|h2
   ·rw[E] at hj;obtain rfl:=Option.some.inj hj;rw[hd] at fj;exact absurd (Option.some.inj fj) I
   exact h2
  unfold wpOp;rw[E];rcases hb with ⟨hw,hE⟩|⟨hw,hv⟩
  ·simp only[hw C a w U,if_true];have h2:=hE C a w (fun a' w'=>bB C ⟨n,(t,look t O)::l',S⟩ a' w'/\Fr w (aj S) w' (aj S)) (LQ C Q) rfl U (fun y a' w' hy Z _ nv=>by subst hy;exact⟨Z,nv⟩);refine .inl (Oper.wp_mono (fun a' w' h3=>?_) (tW h2));obtain⟨⟨h4,h5⟩,v,h6⟩:=h3;rw[hd] at h6;exact iY a' w' (hs.yo h4 h5 h6) h5
  simp only[hw C a w U,hd];have:=hs.put (t:=t) (.v (w:=w) (L:=live C.X S) undef);rw[hv] at iY;exact iY _ w this (Fr.refl _ _)
theorem dW.pd(hp:j6 ops=true)(h:PD true P C.G n S ops ops.toList e [] e')(hQ:Q .normal ⟨n,e',S⟩):dW P C ops (aj S) [] ops.size (Array.replicate ops.size false) ⟨n,e,S⟩ Q:=fun a w hs _ _=>by
 have hg:=h.wT hp rfl 0 rfl;refine ai8 rfl hp (fun i hi=>hg i (Nat.zero_le _) hi) hQ _ _ e a w ?_ hs (Fr.refl _ _) fun q hq=>?_
 ·unfold left;exact Nat.le_trans (length_filter_le _ _) bp
 refine(h.later fun o ho hd=>?_).symm;obtain⟨j,hj,rfl⟩:=mem_iff_getElem.1 ho;have E:j<ops.size:=(by simpa using hj)
 have:=hq j _ Ib hd;simp[Array.getD_eq_getD_getElem?,E] at this
theorem WZ{id:Nat}{E:Bool}(hm:E=true->P.follows .mixedOrders=true)(hp:E=true->j6 l.toArray=true)(h:PD E P C.G n S l.toArray l e [] e')(hQ:Q .normal ⟨n,e',S⟩):CD P C (.region id l.toArray E) ⟨n,e,S⟩ Q:=by
 cases E with
 | false=>exact B5 (h.od (jX hQ))
 | true=>exact KU [] (hm rfl) (fun _ hb=>by cases hb) (dW.pd (hp rfl) h hQ)
end
section
variable {P:Program} {G:List (Nat×List Value)} {x:St} {o:Oper} {C:dJ} {Q:Exit->St->Prop} {ops:Array Oper} {l:List Oper}
variable {L:Nat->Prop} {ks:List Int} {i b:Nat} {k:Int} {kt:TypeId} {y:Operand}
def wL(ks:List Int):List D:=ks.map fun k=>.v (.int .i64 k)
def lR(b:Nat)(ks:List Int):ag:=⟨b,Au,ks.length,wL ks⟩
theorem afF{w:World}{cur:Array Value}(h2:cur.size=ks.length)(h4:∀i (h:i<(wL ks).length),∃u,cur[i]?=some u/\cq w L (wL ks)[i] u):cur=(ks.map (Value.int .i64)).toArray:=by
 apply Array.ext (by simp[h2]);intro i q1 q2;have hi:i<ks.length:=(by omega)
 obtain⟨u,hu,hr⟩:=h4 i (by simpa[wL] using hi);simp only[wL,getElem_map] at hr;have:=hr.lQ;subst this;have e:=(Array.getElem?_eq_some_iff.1 hu).2;rw[e];simp
theorem bB.akB {a:Act} {w:World} (h:bB C x a w) {B B':ag} {mL:Array Value} (hk:x.S[i]?=some B) (hb:B'.b=B.b) (h2:mL.size=B'.size) (h3:B'.cs.length<=B'.size)
  (h4:∀j (hj:j<B'.cs.length),∃u,mL[j]?=some u/\cq w (live C.X x.S) B'.cs[j] u) :
  bB C ⟨x.n,x.env,x.S.set i B'⟩ a {w with heap:=w.heap.setIfInBounds B.b (ob B'.e mL)}/\mT [B.b] w {w with heap:=w.heap.setIfInBounds B.b (ob B'.e mL)}/\Fr w (aj x.S) {w with heap:=w.heap.setIfInBounds B.b (ob B'.e mL)} (aj (x.S.set i B')):=by
 obtain⟨h0,cur,r1,r2,r3,r4⟩:=h.fP hk;generalize I:({w with heap:=w.heap.setIfInBounds B.b (ob B'.e mL)}:World)=w';have i1:w'.heap[B.b]?=some (ob B'.e mL):=(by rw[<-I];simp[h0])
 have i2:∀b,b≠B.b->w'.heap[b]?=w.heap[b]?:=fun b hn=>by rw[<-I];simp[Ne.symm hn]
 have i3:w'.heap.size=w.heap.size:=(by rw[<-I];simp)
 have i4:w'.os=w.os:=(by rw[<-I])
 have i5:w'.tape=w.tape:=(by rw[<-I])
 have i6:w'.output=w.output:=(by rw[<-I])
 have er:i<x.S.length:=(List.getElem?_eq_some_iff.1 hk).1;have xB:x.S[i]=B:=(List.getElem?_eq_some_iff.1 hk).2;have E:aj (x.S.set i B')=aj x.S:=by
  unfold aj;rw[map_set];apply ext_getElem bp;intro j q1 q2;rw[getElem_set];split
  ·rename_i e;subst e;simp[xB,hb]
  rfl
 have O:live C.X (x.S.set i B')=live C.X x.S:=(by funext b;simp only[live,E])
 have hB:live C.X x.S B.b:=S6 hk;have H:∀b,b<w.heap.size->¬live C.X x.S b->w'.heap[b]?=w.heap[b]?/\¬live C.X x.S b:=fun b _ hn=>⟨i2 b (fun e=>hn (e ▸ hB)),hn⟩
 refine⟨⟨h.defers,h.size,fun t ht=>?_,⟨fun B2 hB2=>?_,?_⟩,?_,h.ex,h.eI⟩,⟨by rw[i3];exact Nat.le_refl _,fun b _ hn=>i2 b (by simpa using hn)⟩,?_⟩
 ·simp only[O];exact(h.env t ht).mono H
 ·simp only[O];obtain⟨j,hj,U⟩:=mem_iff_getElem.1 hB2;rw[length_set] at hj;rw[getElem_set] at U;by_cases e:i=j
  ·rw[if_pos e] at U;subst U;refine⟨by rw[i3,hb];exact h0,mL,by rw[hb];exact i1,h2,h3,fun q hq=>?_⟩;obtain⟨u,hu,OU⟩:=h4 q hq;exact⟨u,hu,OU.mono H⟩
  rw[if_neg e] at U;subst U;have hne:x.S[j].b≠B.b:=fun he=>by
   have xC:(aj x.S)[j]'AY=(aj x.S)[i]'AW:=(by simp[aj,he,xB])
   have hp:=pairwise_iff_getElem.1 h.own.apart;rcases Nat.lt_trichotomy j i with Z|Z|Z
   ·exact hp j i AY AW Z xC
   ·exact e Z.symm
   exact hp i j AW AY Z xC.symm
  obtain⟨q0,oS,q1,q2,q3,q4⟩:=h.own.at_ x.S[j] (getElem_mem hj);refine⟨by rw[i3];exact q0,oS,(i2 _ hne).trans q1,q2,q3,fun q hq=>?_⟩;obtain⟨u,hu,OU⟩:=q4 q hq;exact⟨u,hu,OU.mono H⟩
 ·simp only[E];exact h.own.apart
 ·refine⟨i4.trans h.fr.os,i5.trans h.fr.tape,i6.trans h.fr.output,by rw[i3];exact h.fr.size,fun b jo hn=>?_⟩;obtain⟨q1,q2⟩:=h.fr.block b jo hn;refine⟨(i2 b (fun e=>q2 (e ▸ mem_map.2 ⟨B,mem_of_getElem? hk,rfl⟩))).trans q1,?_⟩;simp only[E];exact q2
 rw[E];exact⟨i4,i5,i6,by rw[i3];exact Nat.le_refl _,fun b jo hn=>⟨i2 b (fun e=>hn (e ▸ mem_map.2 ⟨B,mem_of_getElem? hk,rfl⟩)),hn⟩⟩
theorem acp{t:TypeId}{tt:Nat}(ho:o.op = .makeMap t none)(hd:o.dst=some tt):fh P G x o [] (fun y=>∃b,y=⟨x.n,(tt,.v (.map (some b)))::x.env,lR b []::x.S⟩):=fun C a w K Q hG h hK=>by
 have:(execOp a.eval o).run P w = .ok (.value (.map (some w.heap.size))) (w.alloc (ob Au #[])):=by
  unfold execOp;simp[ho,Instr.makeMap,Wh,CP]
 unfold Oper.wp;rw[this,Oper.upon_value,hd];exact hK _ _ _ ⟨w.heap.size,rfl⟩ (h.WV (ds:=[]) (cM.nil _ _) bp (fun L=>.v _)) (mT.alloc _ _) (Fr.alloc _ _ _)
theorem LW{w:World}(h:Ms w L (lR b ks)):w.heap[b]?=some (CP (ks.map (Value.int .i64)).toArray):=by
 obtain⟨h0,cur,h1,h2,h3,h4⟩:=h;have h2:cur.size=ks.length:=h2;have:=afF h2 h4;subst this;exact h1
theorem UU{e:MapEntry}(h:e∈(Array.mapIdx (fun i k=>(⟨k,.agg #[],i⟩:MapEntry)) (ks.map (Value.int .i64)).toArray).toList):∃k∈ks,e.key = .int .i64 k/\e.val = .agg #[]:=by
 obtain⟨i,hi,rfl⟩:=mem_iff_getElem.1 h;have E:i<ks.length:=(by simpa using hi)
 exact⟨ks[i],getElem_mem E,by simp,by simp⟩
theorem Th:(k∉ks/\Instr.findNow (.int .i64) (.int .i64 k) (Array.mapIdx (fun i k=>(⟨k,.agg #[],i⟩:MapEntry)) (ks.map (Value.int .i64)).toArray).toList 0=some none) \/
  (k∈ks/\∃i,Instr.findNow (.int .i64) (.int .i64 k) (Array.mapIdx (fun i k=>(⟨k,.agg #[],i⟩:MapEntry)) (ks.map (Value.int .i64)).toArray).toList 0=some (some (i,.agg #[]))):=by
 rcases MapKept.findNow_spec (d:=.int .i64) (k:=.int .i64 k) (by simp[MapKept.IsKey]) (Array.mapIdx (fun i k=>(⟨k,.agg #[],i⟩:MapEntry)) (ks.map (Value.int .i64)).toArray).toList 0 (fun e he=>by
   obtain⟨k',_,h1,_⟩:=UU he;rw[h1];simp[MapKept.IsKey]) with ⟨h1,h2⟩|⟨j,e,h1,h2,h3⟩
 ·refine .inl ⟨fun hm=>?_,h1⟩;obtain⟨i,hi,rfl⟩:=mem_iff_getElem.1 hm;exact h2 ((Array.mapIdx (fun i k=>(⟨k,.agg #[],i⟩:MapEntry)) (ks.map (Value.int .i64)).toArray).toList[i]'(by simpa using hi)) (getElem_mem _) bp
 obtain⟨k',rV,q1,q2⟩:=UU (mem_of_getElem? h2);rw[h3] at q1;have:k=k':=(by simpa using q1)
 subst this;rw[q2] at h1;exact .inr ⟨rV,_,h1⟩
theorem adT {U Z:TypeId} {z:Operand} (ho:o.op = .lookup U y z true) (hy:aD x y = .v (.map (some b))) (hz:aD x z = .v (.int .i64 k)) (hk:x.S[i]?=some (lR b ks))
  (hm:P.underlying U=some (.map kt Z)) (E:P.underlying kt=some (.int .i64)) (O:∀w,(zeroValue Z).run P w = .ok (.agg #[]) w):bS P G x o (.fP i) (.dB [.v (.agg #[]),.v (.bool (decide (k∈ks)))]):=fun C a w _ h=>by
 have h1:=LW (h.fP hk);refine⟨.tuple #[.agg #[],.bool (decide (k∈ks))],.dB _ [.agg #[],.bool (decide (k∈ks))] rfl (fun j q1 q2=>?_),fun w' hw=>?_⟩
 ·rcases j with _|_|j
  ·exact .v _
  ·exact .v _
  simp at q1;omega
 have hh:w'.heap[b]?=_:=(hw _ hk).trans h1;have I:=MapKept.run_checkKey (P:=P) (w:=w') (kt:=kt) (d:=.int .i64) (k:=.int .i64 k) E (by simp[MapKept.IsKey]);unfold execOp;rcases Th (ks:=ks) (k:=k) with ⟨n1,n2⟩|⟨n1,j,n2⟩
 ·have hf:=MapKept.run_findKey (P:=P) (w:=w') E n2;simp only[ho,h.flat hy,h.flat hz,Instr.lookup,Sem.run_bind,run_underlying hm,MapKept.run_getObj_map hh,I,hf,O,Result.andThen_ok,Sem.run_pure,n1,decide_false,if_true]
 have hf:=MapKept.run_findKey (P:=P) (w:=w') E n2;simp only[ho,h.flat hy,h.flat hz,Instr.lookup,Sem.run_bind,run_underlying hm,MapKept.run_getObj_map hh,I,hf,Result.andThen_ok,Sem.run_pure,n1,decide_true,if_true]
theorem acR {mt et:TypeId} {z u:Operand} (ho:o.op = .mapUpdate mt y z u) (hd:o.dst=none) (hy:aD x y = .v (.map (some b))) (hz:aD x z = .v (.int .i64 k)) (hu:aD x u = .agg []) (hk:x.S[i]?=some (lR b ks)) (hn:k∉ks)
  (hm:P.underlying mt=some (.map kt et)) (I:P.underlying kt=some (.int .i64)):fh P G x o [b] (fun s=>s=⟨x.n,x.env,x.S.set i (lR b (ks++[k]))⟩):=fun C a w K Q hG h hK=>by
 have h1:=LW (h.fP hk);have hv:a.eval u = .agg #[]:=by
  have:=h.eval u;rw[hu] at this;generalize a.eval u=v at this;cases this with
  | agg _ vs hl _ =>
   have:vs=[]:=eq_nil_of_length_eq_zero yB;subst this;rfl
 have U:=MapKept.run_checkKey (P:=P) (w:=w) (kt:=kt) (d:=.int .i64) (k:=.int .i64 k) I (by simp[MapKept.IsKey]);have hf:=(Th (ks:=ks) (k:=k)).resolve_right fun q=>hn q.1;have Z:=MapKept.run_findKey (P:=P) (w:=w) I hf.2;have E:Obj.map ((Array.mapIdx (fun i k=>(⟨k,.agg #[],i⟩:MapEntry)) (ks.map (Value.int .i64)).toArray).push ⟨.int .i64 k,.agg #[],(ks.map (Value.int .i64)).toArray.size⟩) ((ks.map (Value.int .i64)).toArray.size+1)=ob Au (((ks++[k]).map (Value.int .i64)).toArray):=by
  have e:((ks++[k]).map (Value.int .i64)).toArray=(ks.map (Value.int .i64)).toArray.push (.int .i64 k):=(by simp)
  rw[e,Wh,CP,Array.mapIdx_push,Array.size_push]
 have O:(execOp a.eval o).run P w = .ok .skip {w with heap:=w.heap.setIfInBounds b (ob Au (((ks++[k]).map (Value.int .i64)).toArray))}:=by
  unfold execOp;simp only[ho,h.flat hy,h.flat hz,hv,Instr.mapUpdate,Sem.run_bind,run_underlying hm,MapKept.run_getObj_map h1,U,Z,Result.andThen_ok,MapKept.run_setObj_map _ h1,E,Sem.run_pure]
 obtain⟨s1,s2,s3⟩:=h.akB (B':=lR b (ks++[k])) (mL:=((ks++[k]).map (Value.int .i64)).toArray) hk rfl (by simp[lR]) (by simp[lR,wL]) (fun j hj=>by
  have kM:j<(ks++[k]).length:=(by simpa[lR,wL] using hj)
  refine⟨.int .i64 (ks++[k])[j],by rw[getElem?_toArray,getElem?_map,getElem?_eq_getElem kM];rfl,?_⟩;simp only[lR,wL,getElem_map];exact .v _)
 unfold Oper.wp;rw[O,Oper.upon_skip,hd];exact hK _ _ _ rfl s1 s2 s3
theorem acS{t:TypeId}{tt:Nat}(hw:bV ops x o true)(ho:o.op = .makeMap t none)(hd:o.dst=some tt)(K:∀b,OD P C ops l ⟨x.n,(tt,.v (.map (some b)))::x.env,lR b []::x.S⟩ Q):OD P C ops (o::l) x Q :=
 OD.gm hw (acp ho hd) fun y ⟨b,hy⟩=>hy ▸ K b
theorem adU {I O:TypeId} {z u:Operand} (hw:bV ops x o true) (ho:o.op = .mapUpdate I y z u) (hd:o.dst=none) (hy:aD x y = .v (.map (some b))) (hz:aD x z = .v (.int .i64 k)) (U:aD x u = .agg []) (hk:x.S[i]?=some (lR b ks)) (hn:k∉ks)
  (hm:P.underlying I=some (.map kt O)) (E:P.underlying kt=some (.int .i64)) (K:OD P C ops l ⟨x.n,x.env,x.S.set i (lR b (ks++[k]))⟩ Q):OD P C ops (o::l) x Q :=
 OD.gm hw (acR ho hd hy hz U hk hn hm E) fun y hy=>hy ▸ K
end
section
variable {P:Program} {C:dJ} {G:List (Nat×List Value)} {Q:Exit->St->Prop} {x:St} {ops:Array Oper} {l:List Oper} {o:Oper} {S1 T:List Nat} {fuel i:Nat} {ld:Array Bool}
variable {ts:Array TypeId} {S S2 S3:List ag} {post:D->List ag->Prop} {cs':List D} {fo:Operand} {dh:Array Operand}
theorem acT {E kt I:TypeId} {i b:Nat} {ks:List Int} {y:Operand} (ho:o.op = .call {callee:=.builtin .len,args:=#[y],argTypes:=ts}) (ht:ts = #[E]) (hy:aD x y = .v (.map (some b))) (hk:x.S[i]?=some (lR b ks))
  (hm:P.underlying E=some (.map kt I)):bS P G x o (.fP i) (.v (.int .i64 (ks.length:Nat))):=fun C a w _ h=>by
 subst ht;have h1:=LW (h.fP hk);refine⟨_,.v _,fun w' hw=>?_⟩;have O:w'.heap[b]?=_:=(hw _ hk).trans h1;have hg:=MapKept.run_getObj_map (P:=P) O;have U:=run_underlying hm w';unfold execOp;simp[ho,resolve,invoke,builtin,Builtin.len_,h.flat hy,U,hg,goInt,Result.andThen]
def D5:List D->List D->Prop
 | [],[]=>True
 | a::l,b::l'=>(a=b\/∃sz,a = .v (.slice none 0 0)/\b = .list sz [] 0)/\D5 l l'
 | _,_=>False
theorem D5.DZ{w:World}{L:Nat->Prop}:∀{a b:List D} {vs:List Value},D5 a b->cM w L a vs->cM w L b vs
 | [],[],_,_,h=>h
 | a::l,b::l',[],_,h=>by simp[cM] at h
 | a::l,b::l',v::vs,⟨k,t⟩,h=>by
  obtain⟨h0,h1⟩:=h.tail;have h2:=D5.DZ t h1;refine⟨by have:=h2.1;simp[this],fun i q1 q2=>?_⟩;cases i with
  | zero =>
   rcases k with rfl|⟨sz,rfl,rfl⟩
   ·exact h0
   show cq w L (.list sz [] 0) v;rw[h0.lQ];exact .ni sz none 0
  | succ i=>exact h2.2 i (by simpa using q1) (by simpa using q2)
theorem VC.eC{f:FuncId}{args args':List D}(h:VC P G f args S post)(k:D5 args' args):VC P G f args' S post:=fun X w vs hp=>h X w vs ⟨hp.ex,hp.eI,hp.own,k.DZ hp.args⟩
theorem adV{A:ag}{R:List ag}(hS:x.S=A::R)(hv:hU [] A.cs cs')(k:OD P C ops l ⟨x.n,x.env,{A with cs:=cs'}::R⟩ Q):OD P C ops l x Q :=
 OD.cover (Sd:=[]) (by rw[hS,append_nil]) hv k
theorem hU.append{S:List ag}:∀{a b c d:List D},hU S a b->hU S c d->hU S (a++c) (b++d)
 | [],[],_,_,_,h=>h
 | _::_,_::_,_,_,h,k=>⟨h.1,hU.append h.2 k⟩
 | [],_::_,_,_,h,_=>h.elim
 | _::_,[],_,_,h,_=>h.elim
theorem hU.same{S:List ag}:∀{a:List D},hU S a a
 | []=>trivial
 | _::_=>⟨fq,hU.same⟩
theorem Rq{sz n cap b e size:Nat}{cs:List D}(hB:(⟨b,e,size,cs⟩:ag)∈S)(hv:hU S cs cs')(hl:cs'.length=n*sz)(h1:n<=cap)(h2:cap<=maxLen)(hne:isMap e=false:=by rfl):View S (.v (.slice (some ⟨b,0,none⟩) n cap)) (.list sz cs' n):=fun X Y w v E I ho h=>by
 rw[h.lQ];obtain⟨v1,v2⟩:=hv.spec;obtain⟨r0,cur,r1,r2,U,O⟩:=ho.at_ _ hB;rw[lp hne] at r1;refine .list sz cs' n b 0 cap (fun i=>cur.getD i undef) hl h1 h2 r0 (fun hy=>I _ (E _ hy) (mem_map.2 ⟨_,hB,rfl⟩)) (fun i hi=>?_) (fun i hi=>?_)
 ·obtain⟨u,hu,_⟩:=O i Ht;rw[Nat.zero_add,pc r1 hu];simp[hu]
 obtain⟨u,hu,hq⟩:=O i Ht;simp only[Array.getD_eq_getD_getElem?,hu,Option.getD_some];exact v2 i w4 hi X Y w u E I ho hq
theorem B6{Sq:List ag}{e sz n cap:Nat}{cs:List D}{ad:Option Addr}(h:bq e sz cs n ad cap Sq)(hv:hU S cs cs')(hl:cs'.length=n*sz)(hs:∀B∈Sq,B∈S)(hne:isMap e=false:=by rfl):View S (.v (.slice ad n cap)) (.list sz cs' n):=by
 rcases h with ⟨rfl,rfl,rfl,rfl,rfl⟩|⟨b,rfl,h1,h2,rfl⟩
 ·have:cs'=[]:=(by cases cs' with|nil=>rfl|cons _ _=>exact hv.elim)
  subst this;exact zX
 exact Rq (hne:=hne) (hs _ mem_cons_self) hv hl h1 h2
theorem SR{A S1 E:List ag}:(A++(S1++(S2++(S3++E)))).Perm (S3++(A++(S1++(S2++E)))):=j9 fun f=>by simp only[map_append,sum_append];omega
theorem afn{A S1 E:List ag}:(S3++(A++(S1++(S2++E)))).Perm (A++(S1++(S2++(S3++E)))):=SR.symm
variable {α:Type} {V:α->List D->List ag->Prop}
theorem JM {f t:Nat} {args:List D} (ho:o.op = .call {callee:=.value fo,args:=dh,argTypes:=ts}) (hd:o.dst=some t)
  (hf:fo = .func f) (fH:∀args w,(callFunc f args).run P w = .ok (.enter f args) w) (hc:VC P G f args [] post) (hr:∀r S',post r S'->lP r=true/\∀B∈S',∀d∈B.cs,lP d=true) (ha:Looks x dh.toList args) :
  fh P G x o [] (fun y=>∃r S',post r S'/\y=⟨x.n,(t,r)::x.env,S'++x.S⟩):=fun C a w K Q hG h hK=>by
 subst hf;have O:(execOp a.eval o).run P w = .ok (.enter f (dh.toList.map a.eval).toArray) w:=by
  unfold execOp;have e:dh.map a.eval=(dh.toList.map a.eval).toArray:=by
   rw[<-Array.toList_map,Array.toArray_toList]
  simp only[ho,resolve,Act.eval,Deferred.ofValue,Sem.run_bind,Sem.run_pure,Result.andThen_ok,invoke,e];simp[fH]
 have U:Iv G (fun _=>False) w [] args (dh.toList.map a.eval):=by
  refine⟨fun b hx=>hx.elim,fun g hg=>?_,⟨fun B hB=>by simp at hB,by simp[aj]⟩,(Looks.DZ h ha).mono fun b _ _=>⟨rfl,fun hl=>by rcases hl with hl|hl;exact hl;simp[aj] at hl⟩⟩;rw[<-hG] at hg;exact⟨⟨Nat.lt_of_lt_of_le (h.eI g hg).1.1 h.fr.size,by simp[aj],id⟩,fun i v hi=>h.aW hg hi⟩
 unfold Oper.wp;rw[O,Oper.upon_enter,hd];refine(hc _ w _ U).mono fun e w' ⟨v,r,S',h1,h2,h3,h4,h5⟩=>?_;subst h1;obtain⟨Z,nW⟩:=hr r S' h2;have hb:∀b,b<w.heap.size->w'.heap[b]?=w.heap[b]?:=fun b hb=>(h5.block b hb (by simp[aj])).1;have hn:∀b,b<w.heap.size->b∉aj S':=fun b hb=>(h5.block b hb (by simp[aj])).2;have I:∀b,b<w.heap.size->¬live C.X x.S b->¬live C.X (S'++x.S) b:=fun b E h0 hl=>by
  rcases hl with hl|hl
  ·exact h0 (.inl hl)
  rw[aj,map_append,mem_append] at hl;rcases hl with hl|hl
  ·exact hn b E hl
  exact h0 (.inr hl)
 have base:bB C ⟨x.n,x.env,S'++x.S⟩ a w':=by
  refine⟨h.defers,h.size,fun t ht=>(h.env t ht).mono fun b E h0=>⟨hb b E,I b E h0⟩,⟨fun B hB=>?_,?_⟩,?_,h.ex,h.eI⟩
  ·rcases mem_append.1 hB with hB|hB
   ·obtain⟨r0,cur,r1,r2,r3,r4⟩:=h3.at_ B hB;refine⟨r0,cur,r1,r2,r3,fun i hi=>?_⟩;obtain⟨u,hu,hq⟩:=r4 i hi;exact⟨u,hu,hq.flat (nW B hB _ (getElem_mem hi))⟩
   obtain⟨r0,cur,r1,r2,r3,r4⟩:=h.own.at_ B hB;refine⟨su r0 (hb _ r0),cur,(hb _ r0).trans r1,r2,r3,fun i hi=>?_⟩;obtain⟨u,hu,hq⟩:=r4 i hi;exact⟨u,hu,hq.mono fun b E h0=>⟨hb b E,I b E h0⟩⟩
  ·rw[aj,map_append];refine nodup_append.2 ⟨h3.apart,h.own.apart,fun b gw c bf e=>?_⟩;subst e;obtain⟨B,hB,rfl⟩:=mem_map.1 bf;exact hn _ (h.own.at_ B hB).1 gw
  refine⟨h5.os.trans h.fr.os,h5.tape.trans h.fr.tape,h5.output.trans h.fr.output,Nat.le_trans h.fr.size h5.size,fun b E h0=>⟨(hb b (Nat.lt_of_lt_of_le E h.fr.size)).trans (h.fr.block b E h0).1,fun hm=>?_⟩⟩;rw[aj,map_append,mem_append] at hm;rcases hm with hm|hm
  ·exact hn b (Nat.lt_of_lt_of_le E h.fr.size) hm
  exact(h.fr.block b E h0).2 hm
 refine hK _ _ _ ⟨r,S',h2,rfl⟩ (base.put (h4.flat Z)) ⟨h5.size,fun b E _=>hb b E⟩ ⟨h5.os,h5.tape,h5.output,h5.size,fun b E h0=>⟨hb b E,fun hm=>?_⟩⟩;rw[aj,map_append,mem_append] at hm;rcases hm with hm|hm
 ·exact hn b E hm
 exact h0 hm
theorem afG {f t:Nat} {args:List D} (hw:bV ops x o true) (ho:o.op = .call {callee:=.value fo,args:=dh,argTypes:=ts}) (hd:o.dst=some t)
  (hf:fo = .func f) (fH:∀args w,(callFunc f args).run P w = .ok (.enter f args) w) (hc:VC P C.G f args [] post) (hr:∀r S',post r S'->lP r=true/\∀B∈S',∀d∈B.cs,lP d=true) (ha:Looks x dh.toList args)
  (K:∀r S',post r S'->OD P C ops l ⟨x.n,(t,r)::x.env,S'++x.S⟩ Q):OD P C ops (o::l) x Q:=OD.gm hw (JM ho hd hf fH hc hr ha) fun y ⟨r,S',hp,hy⟩=>hy ▸ K r S' hp
end
section
variable {a:Act} {S':List ag} {t:Nat}
mutual
def ji:D->Bool
 | .v _=>true
 | .list _ cs _=>gd cs
 | .fT cs _=>gd cs
 | .agg cs=>gd cs
 | .dB cs=>gd cs
 | .eK _ cs=>gd cs
 | .lf _ _=>false
 | .bF=>true
def gd:List D->Bool
 | []=>true
 | d::r=>ji d&&gd r
end
theorem x4:∀{cs:List D},gd cs=true->∀i (h:i<cs.length),ji cs[i]=true
 | [],_,_,h=>by cases h
 | d::r,hn,0,_=>by rw[gd,Bool.and_eq_true] at hn;exact hn.1
 | d::r,hn,i+1,h=>by rw[gd,Bool.and_eq_true] at hn;exact x4 hn.2 i nS
theorem Ti:∀{a b:List D},gd a=true->gd b=true->gd (a++b)=true
 | [],_,_,h=>h
 | d::r,b,ha,hb=>by
  rw[gd,Bool.and_eq_true] at ha;rw[cons_append,gd,Bool.and_eq_true];exact⟨ha.1,Ti ha.2 hb⟩
theorem wu{α:Type}{g:α->List D}(hg:∀a,gd (g a)=true):∀(ls:List α),gd (ls.flatMap g)=true
 | []=>rfl
 | a::ls=>by rw[flatMap_cons];exact Ti (hg a) (wu hg ls)
theorem afH{l:List (Nat×D)}(h:(l.all fun p=>ji p.2)=true)(t:Nat):ji (look t l)=true:=by
 induction l with
 | nil=>rfl
 | cons p l ih =>
  obtain⟨i,d⟩:=p;rw[all_cons,Bool.and_eq_true] at h;rw[eD];split
  ·exact h.1
  exact ih h.2
theorem cq.AM {w w':World} {L O:Nat->Prop} {Z:Nat->Prop} {d:D} {v:Value} (h:cq w L d v) (hn:ji d=true) (H:∀b,b<w.heap.size->¬L b->¬Z b->w'.heap[b]?=w.heap[b]?/\¬O b)
  (U:∀b o,Z b->w.cell? ⟨b,o,none⟩=none) (hs:w.heap.size<=w'.heap.size) (I:∀b,b<w.heap.size->¬L b->Z b->¬O b):cq w' O d v:=by
 induction h with
 | v x=>exact .v x
 | ni sz ad cap=>exact .ni sz ad cap
 | list sz cs len b o cap f hl h1 h2 hb hL hc hr ih =>
  rw[ji] at hn;by_cases hz:Z b
  ·have:¬0<cs.length:=fun h0=>by have:=hc 0 h0;rw[U _ _ hz] at this;cases this
   exact .list sz cs len b o cap f hl h1 h2 w4 (I b hb hL hz) (fun i hi=>by omega) (fun i hi=>by omega)
  have E:=H b hb hL hz;exact .list sz cs len b o cap f hl h1 h2 (su hb E.1) E.2 (fun i hi=>(World.cell?_of_block (w:=w) (a:=⟨b,o+i,none⟩) E.1).trans (hc i hi)) (fun i hi=>ih i hi (x4 hn i hi))
 | fT cs off b o f hb hL hc hr ih =>
  rw[ji] at hn;by_cases hz:Z b
  ·have:¬0<cs.length:=fun h0=>by have:=hc 0 h0;rw[U _ _ hz] at this;cases this
   exact .fT cs off b o f w4 (I b hb hL hz) (fun i hi=>by omega) (fun i hi=>by omega)
  have E:=H b hb hL hz;exact .fT cs off b o f (su hb E.1) E.2 (fun i hi=>(World.cell?_of_block (w:=w) (a:=⟨b,o+i,none⟩) E.1).trans (hc i hi)) (fun i hi=>ih i hi (x4 hn i hi))
 | agg cs vs hl hr ih=>rw[ji] at hn;exact .agg cs vs hl fun i h h'=>ih i h h' (x4 hn i h)
 | dB cs vs hl hr ih=>rw[ji] at hn;exact .dB cs vs hl fun i h h'=>ih i h h' (x4 hn i h)
 | eK fn cs vs hl hr ih=>rw[ji] at hn;exact .eK fn cs vs hl fun i h h'=>ih i h h' (x4 hn i h)
 | lf l os h=>rw[ji] at hn;cases hn
 | bF x=>exact .bF x
theorem Own.AM {w w':World} {L:Nat->Prop} {Z:Nat->Prop} {S:List ag} (h:Own w L S) (hS:∀B∈S,L B.b) (hn:∀B∈S,gd B.cs=true) (H:∀b,b<w.heap.size->¬Z b->w'.heap[b]?=w.heap[b]?)
  (I:∀b o,Z b->w.cell? ⟨b,o,none⟩=none) (hs:w.heap.size<=w'.heap.size) (E:∀B∈S,¬Z B.b):Own w' L S :=
 ⟨fun B hB=>by
  obtain⟨r0,cur,r1,r2,O,U⟩:=h.at_ B hB;refine⟨by omega,cur,(H _ r0 (E B hB)).trans r1,r2,O,fun i hi=>?_⟩;obtain⟨u,hu,hq⟩:=U i hi;exact⟨u,hu,hq.AM (x4 (hn B hB) i hi) (fun b hb hl hz=>⟨H b hb hz,hl⟩) I hs (fun b _ hl _=>hl)⟩,h.apart⟩
theorem FR{w:World}{b:Nat}{o:Obj}(h:w.heap[b]?=some o)(ho:o.isCells=false)(i:Nat):w.cell? ⟨b,i,none⟩=none:=by
 cases hc:w.cell? ⟨b,i,none⟩ with
 | none=>rfl
 | some v =>
  obtain⟨o',h1,h2⟩:=cells_of_cell hc;have h1:w.heap[b]?=some o':=h1;rw[h] at h1;cases h1;rw[ho] at h2;cases h2
structure FrX (l:Nat) (w:World) (S:List Nat) (w':World) (S':List Nat):Prop where
 os:w'.os=w.os
 tape:w'.tape=w.tape
 output:w'.output=w.output
 size:w.heap.size<=w'.heap.size
 block:∀b,b<w.heap.size->b∉S->(b≠l->w'.heap[b]?=w.heap[b]?)/\b∉S'
structure zj (α:Type) where
 l:Nat
 os:List (Nat×Obj)
 od:List (Nat×Obj)
 enc:α->List D
 J:List α->List ag->Prop
 Jx:List α->List ag->Prop
 N:Nat
def sM(W:World)(L:Nat->Prop)(os:List (Nat×Obj)):Prop:=∀z∈os,z.1<W.heap.size/\¬L z.1/\W.heap[z.1]?=some z.2
def OV{α:Type}(P:Program)(X0:Nat->Prop)(w0:World)(S0:List Nat)(Y:zj α):Prop :=
 ∀(pre:List α) (y:α) (Sc:List ag) (X:Nat->Prop) (W:World) (vs:List Value),
  Y.J pre Sc->pre.length<Y.N->(∀b,X b->b<W.heap.size/\b∉aj Sc)->(∀b,X0 b->X b)->(∀b,X b->X0 b\/w0.heap.size<=b\/b∈S0) ->
  Own W (live X Sc) Sc->cM W (live X Sc) (Y.enc y) vs->Fr w0 S0 W (aj Sc)->sM W (live X Sc) Y.os ->
  ∃fn tmps assign body,(Instr.yield Y.l vs.toArray).run P W = .ok (.round Y.l fn tmps assign body) W /\
   RoundIn Fence.wide 0 P Y.l fn tmps assign body W (fun e W'=>∃b nX,e = .returned (.bool b)/\Own W' (live X nX) nX/\FrX Y.l W (aj Sc) W' (aj nX) /\
    (b=true->Y.J (pre++[y]) nX/\W'.heap[Y.l]?=W.heap[Y.l]?)/\(b=false->Y.Jx (pre++[y]) nX/\sM W' (live X nX) Y.od))
def nH(G:List (Nat×List Value))(w0:World)(S0:List Nat)(X0:Nat->Prop):Prop:=∀g∈G,(g.1<w0.heap.size/\g.1∉S0/\¬X0 g.1)/\∀i v,g.2[i]?=some v->pi w0 g.1 i v
def VI{α:Type}(P:Program)(G:List (Nat×List Value))(gf:FuncId)(Dg:List D)(enc:α->List D)(Sa Sp:List α->Prop)(N:Nat):Prop :=
 ∀(Y:zj α) (X0:Nat->Prop) (w0 W:World) (S0:List Nat) (Sc:List ag) (cv:List Value),Y.enc=enc->Y.N=N ->
  (∀b,X0 b->b<w0.heap.size/\b∉S0)->nH G w0 S0 X0->w0.heap.size<=Y.l->Own W (live X0 Sc) Sc->cM W (live X0 Sc) Dg cv->Fr w0 S0 W (aj Sc) ->
  sM W (live X0 Sc) Y.os->Y.J [] Sc->OV P X0 w0 S0 Y ->
  Calls P gf (#[.func (.yield Y.l) #[] #[]]++cv.toArray) W fun e W'=>∃v nX,e = .returned v/\Own W' (live X0 nX) nX/\Fr w0 S0 W' (aj nX) /\
   ((∃xs,Sa xs/\Y.J xs nX/\sM W' (live X0 nX) Y.os)\/(∃pre,Sp pre/\Y.Jx pre nX/\sM W' (live X0 nX) Y.od))
variable {P:Program} {C:dJ} {G:List (Nat×List Value)} {Q:Exit->St->Prop} {x:St} {ops:Array Oper} {o:Oper} {fuel i:Nat} {ld:Array Bool} {α:Type}
def W0(P:Program)(fn:Func)(Y:zj α)(Sa Sp:List α->Prop)(e:Exit)(y:St):Prop :=
 (e = .normal\/e = .ret)/\(∃r,rW P fn y r)/\0<y.n/\∃nX,nX.Sublist y.S/\((∃xs,Sa xs/\Y.J xs nX/\look 0 y.env = .lf Y.l Y.os)\/(∃pre,Sp pre/\Y.Jx pre nX/\look 0 y.env = .lf Y.l Y.od))
theorem NP.akC{fn:Func}{Y:zj α}{E I:List α->Prop}:NP (W0 P fn Y E I):=fun O y t hq=>by rcases hq.1 with h|h<;>cases h
theorem VI.body {gf:FuncId} {fn:Func} {c:Code} {n:Nat} {I:List D} {enc:α->List D} {Sa Sp:List α->Prop} {N:Nat} (hf:P.funcs[gf]?=some fn) (hb:fn.body=some c) (hn:fn.ntmps=n) (hl:1+I.length<=n)
  (h:∀(Y:zj α) X0 w0 S0 Sc,Y.enc=enc->Y.N=N->w0.heap.size<=Y.l->OV P X0 w0 S0 Y->Y.J [] Sc->CD P ⟨X0,w0,S0,G,[],fun _ _=>False⟩ c ⟨n,ue 0 (.lf Y.l Y.os::I),Sc⟩ (W0 P fn Y Sa Sp)):VI P G gf I enc Sa Sp N:=fun Y X0 w0 W S0 Sc cv he hN hex Z aa fy HB gC amf hJ hY=>by
 let C:dJ:=⟨X0,w0,S0,G,[],fun _ _=>False⟩
 have eL:cM W (live X0 Sc) (.lf Y.l Y.os::I) (.func (.yield Y.l) #[] #[]::cv):=.cons (.lf _ _ amf) HB;have amg:#[Value.func (.yield Y.l) #[] #[]]++cv.toArray=(Value.func (.yield Y.l) #[] #[]::cv).toArray:=(by simp)
 rw[amg];generalize hvs:Value.func (.yield Y.l) #[] #[]::cv=vs at eL;generalize jA:D.lf Y.l Y.os::I=args at eL;have qL:args.length<=n:=(by rw[<-jA];simp;omega)
 have qT:vs.length=args.length:=eL.1;have O:bB C ⟨n,ue 0 args,Sc⟩ {tmps:=vs.toArray++Array.replicate (fn.ntmps-vs.toArray.size) undef,defers:=[]} W:=by
  refine⟨rfl,by simp[hn];omega,fun t ht=>?_,fy,gC,hex,Z⟩;simp only[Fi,Nat.zero_le,if_true,Nat.sub_zero];by_cases aa:t<args.length
  ·have e1:args.getD t .bF=args[t]:=(by simp[getD,aa])
   have e2:(vs.toArray++Array.replicate (fn.ntmps-vs.toArray.size) undef).getD t undef=vs[t]'w4:=by
    rw[Array.getD_eq_getD_getElem?,Array.getElem?_append_left iI];simp[show t<vs.length by omega]
   rw[e1,e2];exact eL.2 t aa w4
  have e1:args.getD t .bF = .bF:=(by simp[getD,getElem?_eq_none (show args.length<=t by omega)])
  rw[e1];exact .bF _
 rw[<-jA] at O;refine calls_of_wp hf hb (wp_mono (h Y X0 w0 S0 Sc he hN aa hY hJ _ _ O) fun e a w' hq=>?_);rcases hq with ⟨y,h1,h2,⟨r,h3⟩,h0,E,h4,h5⟩|⟨_,hq⟩
 case inr=>exact hq.elim
 obtain⟨v,q1,q2⟩:=h3 C a w' h1;have U:(aj E).Sublist (aj y.S):=Sublist.map _ h4;have raw:∀os,look 0 y.env = .lf Y.l os->sM w' (live X0 E) os:=fun os ho=>by
  have hv:=h1.env 0 h0;rw[ho] at hv;generalize a.tmps.getD 0 undef=u at hv;cases hv with
  | lf _ _ hz=>exact fun z vJ=>by obtain⟨z1,z2,z3⟩:=hz z vJ;exact⟨z1,fun hl=>z2 (hl.imp id fun q=>U.subset q),z3⟩
 have key:a.defers=[]/\∃v,(results fn a.tmps).run P w' = .ok v w'/\∃v' E,Ending.returned v = .returned v'/\Own w' (live X0 E) E/\Fr w0 S0 w' (aj E)/\((∃xs,Sa xs/\Y.J xs E/\sM w' (live X0 E) Y.os)\/(∃pre,Sp pre/\Y.Jx pre E/\sM w' (live X0 E) Y.od)) :=
  ⟨h1.defers,v,q2,v,E,rfl,h1.own.sub h4,⟨h1.fr.os,h1.fr.tape,h1.fr.output,h1.fr.size,fun b jo hn=>⟨(h1.fr.block b jo hn).1,fun q=>(h1.fr.block b jo hn).2 (U.subset q)⟩⟩,
   h5.imp (fun ⟨xs,s1,s2,s3⟩=>⟨xs,s1,s2,raw _ s3⟩) (fun ⟨pre,s1,s2,s3⟩=>⟨pre,s1,s2,raw _ s3⟩)⟩
 rcases h2 with rfl|rfl<;>exact key
def AI(P:Program)(C:dJ)(ops:Array Oper)(fuel:Nat)(ld:Array Bool)(x:St)(Q:Exit->St->Prop):Prop :=
 ∀a w,bB C x a w->wpAnyIn Fence.wide 0 P .any ops (LQ C Q) fuel ld a w
def iw(P:Program)(C:dJ)(ops:Array Oper)(fuel:Nat)(ld:Array Bool)(x:St)(Q:Exit->St->Prop)(i:Nat):Prop :=
 ∀a w,bB C x a w->wpOpIn Fence.wide 0 P ops (LQ C Q) i (wpAnyIn Fence.wide 0 P .any ops (LQ C Q) fuel (ld.setIfInBounds i true)) a w
theorem bB.drew{w:World}(hs:bB C x a w):bB C x a {w with drawn:=w.drawn+1} :=
 ⟨hs.defers,hs.size,fun t ht=>(hs.env t ht).mono fun b _ hn=>⟨rfl,hn⟩,⟨fun B hB=>by
  obtain⟨r0,cur,r1,r2,E,I⟩:=hs.own.at_ B hB;exact⟨r0,cur,r1,r2,E,fun i hi=>by
   obtain⟨u,hu,hq⟩:=I i hi;exact⟨u,hu,hq.mono fun b _ hn=>⟨rfl,hn⟩⟩⟩,hs.own.apart⟩,⟨hs.fr.os,hs.fr.tape,hs.fr.output,hs.fr.size,hs.fr.block⟩,hs.ex,hs.eI⟩
theorem acU{id:Nat}{l:List Oper}(hm:P.follows .mixedOrders=true)(h:AI P C l.toArray l.toArray.size (Array.replicate l.toArray.size false) x Q):CD P C (.region id l.toArray true) x Q:=fun a w hs =>
 wpIn_wide.1 (wpIn_region_any (F:=Fence.wide) (n:=0) hm (h a _ hs.drew))
theorem AI.all{E:List Nat}(hr:Region.ready .any ops ld=E)(hne:E≠[])(h:∀i∈E,iw P C ops fuel ld x Q i):AI P C ops (fuel+1) ld x Q:=fun a w hs=>wpAnyIn_all hr hne fun i hi=>h i hi a w hs
theorem ku(hr:Region.ready .any ops ld=[i])(h:iw P C ops fuel ld x Q i):AI P C ops (fuel+1) ld x Q:=AI.all hr bp fun j hj=>by rw[mem_singleton] at hj;subst hj;exact h
theorem vq{j:Nat}(hr:Region.ready .any ops ld=[i,j])(h:iw P C ops fuel ld x Q i)(h':iw P C ops fuel ld x Q j):AI P C ops (fuel+1) ld x Q:=AI.all hr bp fun k hk=>by
 rcases mem_cons.1 hk with rfl|hk
 ·exact h
 rw[mem_singleton] at hk;subst hk;exact h'
theorem mA(hr:Region.ready .any ops ld=[])(h:Q .normal x):AI P C ops fuel ld x Q:=fun a w hs=>wpAnyIn_done hr (.inl ⟨x,hs,h⟩) _
theorem mc{y:St}(h:Wk x y)(k:AI P C ops fuel ld y Q):AI P C ops fuel ld x Q:=fun a w hs=>k a w (h C a w hs)
theorem tX(hp:x.S.Perm S')(k:AI P C ops fuel ld ⟨x.n,x.env,S'⟩ Q):AI P C ops fuel ld x Q:=mc (Wk.perm hp) k
theorem AI.take {d:D} (hi:ops[i]?=some o) (hs:Region.noSelect ops=true) (hf:Region.free .any ops ld i=true) (hr:(Region.ready .any ops ld).contains i=true) (hp:NP Q)
  (hw:bV ops x o true) (nw:∀w a,o.about P w a=none) (hd:o.dst=some t) (h:bS P C.G x o .none d) (K:AI P C ops fuel (ld.setIfInBounds i true) (x.put t d) Q):AI P C ops (fuel+1) ld x Q:=fun a w E=>by
 obtain⟨v,h1,h2⟩:=h C a w rfl E;refine wpAnyIn_take (oi:=o) (v:=v) rfl hi hs hf hr (AL hp _ v) ⟨.inl ⟨hw C a w E,fun w'=>h2 w' trivial⟩,fun w'=>nw w' _⟩ ?_;rw[hd];exact K _ _ (E.put h1)
theorem UW{K:Act->World->Prop}{Q:Exit->Act->World->Prop}{w:World}(ro:Option Nat)(hd:∀c,o.op≠.defer c)(h:o.wp P a w K Q):o.wpIn {Fence.wide with round:=ro} 0 P a w K Q:=by
 refine⟨fun _ _=>trivial,?_⟩;rw[Oper.semAt_eq _ _ _ hd];unfold Oper.wp at h;generalize (execOp a.eval o).run P w=r at h;have fX:∀m E,Steps P m E->StepsIn (Machine.fenced P {Fence.wide with round:=ro}) P m E:=fun m E hs=>stepsIn_wide.2 hs;match r,h with
 | .ok (.value v) w',h=>exact h
 | .ok .skip w',h=>exact h
 | .ok (.defer d) w',h=>exact h
 | .ok (.enter f args) w',h=>exact⟨fun hc=>(by cases hc),((callsIn_wide (n:=0)).2 h:CallsIn Fence.wide 0 P f args w' _)⟩
 | .ok (.row row args) w',h=>exact⟨fun hc=>(by cases hc),fun c cs _=>let ⟨v,w'',r,s⟩:=h c cs;⟨v,w'',r,fX _ _ s⟩⟩
 | .halt (.panic v) w',h=>exact h
theorem iw.gm{W:List Nat}{post:St->Prop}(hi:ops[i]?=some o)(hw:bV ops x o true)(zk:∀c,o.op≠.defer c)(h:fh P C.G x o W post)(k:∀y,post y->AI P C ops fuel (ld.setIfInBounds i true) y Q):iw P C ops fuel ld x Q i:=fun a w E=>by
 unfold wpOpIn;simp only[hi,hw C a w E,if_true];exact UW none zk (h C a w _ _ rfl E fun y a' w' hp I _ _=>k y hp a' w' I)
theorem iw.still{kd:Rd}{d:D}(hi:ops[i]?=some o)(hw:bV ops x o true)(zk:∀c,o.op≠.defer c)(hd:o.dst=some t)(h:bS P C.G x o kd d)(k:AI P C ops fuel (ld.setIfInBounds i true) (x.put t d) Q):iw P C ops fuel ld x Q i :=
 iw.gm hi hw zk (h.gm hd) fun y hy=>by subst hy;exact k
theorem iw.uf {f:Nat} {fo:Operand} {dh:Array Operand} {ts:Array TypeId} {args:List D} {r:D} (hi:ops[i]?=some o) (hw:bV ops x o true) (ho:o.op = .call {callee:=.value fo,args:=dh,argTypes:=ts}) (hd:o.dst=some t)
  (hf:fo = .func f) (fH:∀args w,(callFunc f args).run P w = .ok (.enter f args) w) (hc:VP P C.G f args r) (ha:nN x dh.toList args)
  (K:AI P C ops fuel (ld.setIfInBounds i true) (x.put t r) Q):iw P C ops fuel ld x Q i :=
 iw.gm hi hw (fun c hc=>by rw[ho] at hc;cases hc) (Cg ho hd hf fH ha.eq (fx _) hc) fun y ⟨E,S',⟨h1,h2⟩,hy⟩=>by subst h1 h2 hy;exact K
theorem bB.back{w w':World}(h:bB C x a w){Sf R:List ag}(hp:x.S.Perm (Sf++R))(h3:Own w' (live (fun b=>C.X b\/b∈aj R) S') S')(h5:Fr w (aj Sf) w' (aj S')):bB C ⟨x.n,x.env,S'++R⟩ a w':=by
 have hb:(aj x.S).Perm (aj Sf++aj R):=(by have:=hp.map ag.b;simpa[aj] using this)
 have hL:=zQ (X:=C.X) hp;have hnd:(aj Sf++aj R).Nodup:=hb.nodup_iff.1 h.own.apart;obtain⟨n1,n2,n3⟩:=nodup_append.1 hnd;have I:∀b,b∈aj R->b<w.heap.size:=fun b Z=>by
  obtain⟨B,hB,rfl⟩:=mem_map.1 Z;exact(h.own.at_ B (hp.symm.subset (mem_append_right _ hB))).1
 have O:live C.X (S'++R)=live (fun b=>C.X b\/b∈aj R) S':=zQ (Perm.refl _);have H:∀b,b<w.heap.size->¬live C.X x.S b->w'.heap[b]?=w.heap[b]?/\¬live C.X (S'++R) b:=fun b aa hn=>by
  rw[hL] at hn;have E:b∉aj Sf:=fun hm=>hn (.inr hm);obtain⟨q1,q2⟩:=h5.block b aa E;refine⟨q1,fun hl=>?_⟩;rw[O] at hl;rcases hl with hl|hl
  ·exact hn (.inl hl)
  exact q2 hl
 refine⟨h.defers,h.size,fun t ht=>(h.env t ht).mono H,⟨fun B hB=>?_,?_⟩,?_,h.ex,h.eI⟩
 ·rcases mem_append.1 hB with hB|hB
  ·have:=h3.at_ B hB;rw[<-O] at this;exact this
  obtain⟨r0,cur,r1,r2,r3,r4⟩:=h.own.at_ B (hp.symm.subset (mem_append_right _ hB));have DX:B.b∈aj R:=mem_map.2 ⟨B,hB,rfl⟩;have E:B.b∉aj Sf:=fun hm=>n3 B.b hm B.b DX rfl;have hh:=(h5.block B.b r0 E).1;refine⟨su r0 hh,cur,hh.trans r1,r2,r3,fun i hi=>?_⟩;obtain⟨u,hu,hq⟩:=r4 i hi;exact⟨u,hu,hq.mono H⟩
 ·show(aj (S'++R)).Nodup;have:aj (S'++R)=aj S'++aj R:=(by simp[aj])
  rw[this];refine nodup_append.2 ⟨h3.apart,n2,fun b gw c bf he=>?_⟩;subst he;have E:b∉aj Sf:=fun hm=>n3 b hm b bf rfl;exact(h5.block b (I b bf) E).2 gw
 refine⟨h5.os.trans h.fr.os,h5.tape.trans h.fr.tape,h5.output.trans h.fr.output,Nat.le_trans h.fr.size h5.size,fun b U hn=>?_⟩;obtain⟨q1,q2⟩:=h.fr.block b U hn;have gM:b∉aj Sf:=fun hm=>q2 (hb.symm.subset (mem_append_left _ hm));have iS:b∉aj R:=fun hm=>q2 (hb.symm.subset (mem_append_right _ hm));obtain⟨q3,q4⟩:=h5.block b (Nat.lt_of_lt_of_le U h.fr.size) gM;refine⟨q3.trans q1,fun hm=>?_⟩;have:aj (S'++R)=aj S'++aj R:=(by simp[aj])
 rw[this] at hm;rcases mem_append.1 hm with hm|hm
 ·exact q4 hm
 exact iS hm
theorem iw.yield {t:Nat} {fo:Operand} {dh:Array Operand} {ts:Array TypeId} {Y:zj α} {pre:List α} {y:α} {Sc R:List ag} (hi:ops[i]?=some o) (hw:bV ops x o true) (ho:o.op = .call {callee:=.value fo,args:=dh,argTypes:=ts}) (hd:o.dst=some t)
  (hf:aD x fo = .lf Y.l Y.os) (hn:0<x.n) (hz:look 0 x.env = .lf Y.l Y.os) (ha:dh.toList.map (aD x)=Y.enc y) (hp:x.S.Perm (Sc++R)) (hJ:Y.J pre Sc) (hN:pre.length<Y.N) (hY:OV P C.X C.w0 C.S0 Y) (hl:C.w0.heap.size<=Y.l) (h0t:t≠0)
  (kT:∀E,Y.J (pre++[y]) E->AI P C ops fuel (ld.setIfInBounds i true) ⟨x.n,(t,.v (.bool true))::x.env,E++R⟩ Q)
  (kF:∀E,Y.Jx (pre++[y]) E->AI P C ops fuel (ld.setIfInBounds i true) ⟨x.n,[(t,.v (.bool false)),(0,.lf Y.l Y.od)],E⟩ Q):iw P C ops fuel ld x Q i:=fun a w h=>by
 have hb:(aj x.S).Perm (aj Sc++aj R):=(by have:=hp.map ag.b;simpa[aj] using this)
 have hL:=zQ (X:=C.X) hp;have hnd:(aj Sc++aj R).Nodup:=hb.nodup_iff.1 h.own.apart;obtain⟨n1,n2,n3⟩:=nodup_append.1 hnd;have amh:∀b,b∈aj R->b<w.heap.size:=fun b ze=>by
  obtain⟨B,hB,rfl⟩:=mem_map.1 ze;exact(h.own.at_ B (hp.symm.subset (mem_append_right _ hB))).1
 have yv:∀(o':Operand) os,aD x o' = .lf Y.l os->a.eval o' = .func (.yield Y.l) #[] #[]/\sM w (live C.X x.S) os:=fun o' os he=>by
  have hv:=h.eval o';rw[he] at hv;generalize a.eval o'=u at hv;cases hv with
  | lf _ _ hz=>exact⟨rfl,hz⟩
 obtain⟨e1,O⟩:=yv fo _ hf;have U:cM w (live C.X x.S) (Y.enc y) (dh.toList.map a.eval):=ha ▸ cM.Nd h dh.toList;have e0:a.tmps.getD 0 undef = .func (.yield Y.l) #[] #[]:=by
  have hv:=h.env 0 hn;rw[hz] at hv;generalize a.tmps.getD 0 undef=u at hv;cases hv with
  | lf _ _ _=>rfl
 rw[hL] at O U;obtain⟨fn,tmps,assign,body,hy,hro⟩:=hY pre y Sc (fun b=>C.X b\/b∈aj R) w _ hJ hN (fun b hx=>by
   rcases hx with hx|hx
   ·obtain⟨q1,q2⟩:=h.ex b hx;exact⟨Nat.lt_of_lt_of_le q1 h.fr.size,fun hm=>(h.fr.block b q1 q2).2 (hb.symm.subset (mem_append_left _ hm))⟩
   ·exact⟨amh b hx,fun hm=>n3 b hm b hx rfl⟩) (fun b hx=>.inl hx) (fun b hx=>by
   rcases hx with hx|hx
   ·exact .inl hx
   rcases Nat.lt_or_ge b C.w0.heap.size with aa|OK
   ·by_cases mq:b∈C.S0
    ·exact .inr (.inr mq)
    exact absurd (hb.symm.subset (mem_append_right _ hx)) (h.fr.block b aa mq).2
   exact .inr (.inl OK))
  ⟨fun B hB=>by rw[<-hL];exact h.own.at_ B (hp.symm.subset (mem_append_left _ hB)),n1⟩ U
  ⟨h.fr.os,h.fr.tape,h.fr.output,h.fr.size,fun b jo hn'=>⟨(h.fr.block b jo hn').1,fun hm=>(h.fr.block b jo hn').2 (hb.symm.subset (mem_append_left _ hm))⟩⟩ O
 have oR:(execOp a.eval o).run P w = .ok (.round Y.l fn tmps assign body) w:=by
  unfold execOp;have e:dh.map a.eval=(dh.toList.map a.eval).toArray:=by
   rw[<-Array.toList_map,Array.toArray_toList]
  simp only[ho,resolve,e1,Deferred.ofValue,Sem.run_bind,Sem.run_pure,Result.andThen_ok,invoke,e,Array.empty_append];exact hy
 unfold wpOpIn;simp only[hi,hw C a w h,if_true];refine⟨fun _ _=>trivial,?_⟩;show o.uponIn Fence.wide 0 P a _ _ ((o.semAt none a.eval).run P w);rw[Oper.semAt_none,oR,Oper.uponIn_round];refine⟨fun hc=>(by cases hc),hro.mono fun e w' ⟨b,E,he,h3,h5,hT,hF⟩=>?_⟩;subst he;show wpAnyIn Fence.wide 0 P .any ops (LQ C Q) fuel (ld.setIfInBounds i true) (a.put o.dst (.bool b)) w';rw[hd];have pG:∀q,q<C.w0.heap.size->q≠Y.l:=fun q hq e=>by omega
 cases b with
 | true =>
  obtain⟨j1,j2⟩:=hT rfl;have ami:Fr w (aj Sc) w' (aj E):=⟨h5.os,h5.tape,h5.output,h5.size,fun q hq Z=>by
   obtain⟨p1,p2⟩:=h5.block q hq Z;refine⟨?_,p2⟩;by_cases e:q=Y.l
   ·rw[e];exact j2
   exact p1 e⟩
  exact kT E j1 _ _ ((h.back hp h3 ami).put (.v _))
 | false =>
  obtain⟨j1,j2⟩:=hF rfl;have I:∀q,live C.X E q->live (fun b=>C.X b\/b∈aj R) E q:=fun q hq=>hq.imp .inl id;have akD:Own w' (live C.X E) E:=⟨fun B hB=>by
   obtain⟨r0,cur,r1,r2,r3,r4⟩:=h3.at_ B hB;exact⟨r0,cur,r1,r2,r3,fun q hq=>by
    obtain⟨u,hu,hh⟩:=r4 q hq;exact⟨u,hu,hh.mono fun b _ hn=>⟨rfl,fun hl=>hn (I b hl)⟩⟩⟩,h3.apart⟩
  refine kF E j1 _ _ ⟨h.defers,by simp[Act.put,h.size],fun q hq=>?_,akD,⟨h5.os.trans h.fr.os,h5.tape.trans h.fr.tape,h5.output.trans h.fr.output,Nat.le_trans h.fr.size h5.size,fun q hq Z=>?_⟩,h.ex,h.eI⟩
  ·have dg:=h.size;simp only[eD,Act.put];by_cases e:t=q
   ·subst e;rw[if_pos rfl];have:(a.tmps.setIfInBounds t (.bool false)).getD t undef = .bool false:=by
     have hq:t<x.n:=hq;simp[Array.getElem?_setIfInBounds,dg,hq]
    rw[this];exact .v _
   rw[if_neg e];by_cases e2:0=q
   ·subst e2;rw[if_pos rfl];have:(a.tmps.setIfInBounds t (.bool false)).getD 0 undef=a.tmps.getD 0 undef:=by
     simp[Array.getElem?_setIfInBounds,h0t]
    rw[this,e0];exact .lf _ _ fun z vJ=>by obtain⟨z1,z2,z3⟩:=j2 z vJ;exact⟨z1,fun hl=>z2 (I _ hl),z3⟩
   rw[if_neg e2];exact .bF _
  obtain⟨q1,q2⟩:=h.fr.block q hq Z;have gM:q∉aj Sc:=fun hm=>q2 (hb.symm.subset (mem_append_left _ hm));obtain⟨p1,p2⟩:=h5.block q (Nat.lt_of_lt_of_le hq h.fr.size) gM;exact⟨(p1 (pG q hq)).trans q1,p2⟩
end
section
variable {P:Program} {C:dJ} {G:List (Nat×List Value)} {Q:Exit->St->Prop} {x:St} {ops:Array Oper} {l:List Oper} {o:Oper}
theorem cM.flatten{w:World}{L:Nat->Prop}{us vs:List Value}(h:cM w L (us.map .v) vs):vs=us:=by
 refine ext_getElem (by simpa using h.1) fun i h1 h2=>?_;have:=h.2 i (by simpa using h2) h1;simp only[getElem_map] at this;exact this.lQ
theorem VP.UX{f:FuncId}{vs:List Value}{v:Value}(h:∀w:World,(∀g∈G,∀(i:Nat) (u:Value),g.2[i]?=some u->pi w g.1 i u)->Calls P f vs.toArray w fun e w'=>e = .returned v/\Below w.heap.size w w'):VP P G f (vs.map .v) (.v v):=fun X w us hp=>by
 have E:us=vs:=hp.args.flatten;subst E;refine(h w fun g hg i u hi=>(hp.eI g hg).2 i u hi).mono fun e w' ⟨h1,h2⟩=>?_;refine⟨v,.v v,[],h1,⟨rfl,rfl⟩,⟨fun B hB=>by simp at hB,by simp[aj]⟩,.v _,⟨h2.os,h2.tape,h2.output,h2.size,fun b hb _=>⟨h2.block b hb,by simp[aj]⟩⟩⟩
theorem ahl{t:TypeId}{k:IntKind}{a b r:Int}(h:k.wrap ((BitVec.ofInt k.bits a ^^^ BitVec.ofInt k.bits b).toNat:Int)=r):lO P .xor t (.int k a) (.int k b) (.int k r):=fun y z w=>by subst h;simp only[eqGuard,binOp,Op.intBits,Sem.run_bind];simp
theorem Uz{t:TypeId}{k k':IntKind}{a b r:Int}(hb:0<=b)(h:a.fdiv (2 ^ min b.toNat k.bits)=r):lO P .shr t (.int k a) (.int k' b) (.int k r):=fun y z w=>by
 have:¬b<0:=(by omega)
 simp[eqGuard,binOp,Op.shift,this,h]
theorem ahm(a:Nat)(h:a<2 ^ 64):a ^^^ 2 ^ 63=if a<2 ^ 63 then a+2 ^ 63 else a-2 ^ 63:=by
 have key:∀b,b<2 ^ 63->b ^^^ 2 ^ 63=2 ^ 63+b:=fun b hb=>by
  refine Nat.eq_of_testBit_eq fun i=>?_;rw[Nat.testBit_xor,Nat.testBit_two_pow];rcases Nat.lt_trichotomy i 63 with hi|hi|hi
  ·rw[Nat.testBit_two_pow_add_gt hi];have:¬63=i:=(by omega)
   simp[this]
  ·subst hi;rw[Nat.testBit_two_pow_add_eq];simp
  have h1:b.testBit i=false:=Nat.testBit_lt_two_pow (Nat.lt_of_lt_of_le hb (Nat.pow_le_pow_right w8 w4));have h2:(2 ^ 63+b).testBit i=false:=Nat.testBit_lt_two_pow (Nat.lt_of_lt_of_le (by omega:2 ^ 63+b<2 ^ 64) (Nat.pow_le_pow_right w8 w4));have:¬63=i:=(by omega)
  rw[h1,h2];simp[this]
 split
 ·rename_i h1;rw[key a h1];omega
 rename_i h1;have h2:=key (a-2 ^ 63) w4;have h3:a=2 ^ 63+(a-2 ^ 63):=(by omega)
 rw[<-h2] at h3;generalize a-2 ^ 63=b at h3 |-;rw[h3,Nat.xor_assoc,Nat.xor_self,Nat.xor_zero]
theorem Tj(n:Int):IntKind.u64.wrap n=n % 18446744073709551616:=rfl
theorem ahn{n:Int}(h1:-9223372036854775808<=n)(h2:n<=9223372036854775807):IntKind.u64.wrap ((BitVec.ofInt IntKind.u64.bits (IntKind.u64.wrap n) ^^^ BitVec.ofInt IntKind.u64.bits 9223372036854775808).toNat:Int)=n+9223372036854775808:=by
 rw[Tj,Tj,BitVec.toNat_xor];have e1:(BitVec.ofInt IntKind.u64.bits (n % 18446744073709551616)).toNat=(n % 18446744073709551616).toNat:=by
  rw[BitVec.toNat_ofInt];show((n % 18446744073709551616) % ((18446744073709551616:Nat):Int)).toNat=_;omega
 have e2:(BitVec.ofInt IntKind.u64.bits 9223372036854775808).toNat=2 ^ 63:=(by decide)
 rw[e1,e2,ahm _ w4];split<;>omega
end
section
variable {P:Program} {C:dJ} {G:List (Nat×List Value)} {Q:Exit->St->Prop} {x y:St} {ops:Array Oper} {o:Oper} {ro:Nat} {α:Type}
variable {c:Code} {S:List ag} {post:D->List ag->Prop}
def CI(P:Program)(C:dJ)(ro:Nat)(c:Code)(x:St)(Q:Exit->St->Prop):Prop:=∀a w,bB C x a w->c.wpIn (Fence.wide.inRound ro) 0 P (LQ C Q) a w
def akE(P:Program)(C:dJ)(ro:Nat)(c:Code)(Q:Exit->St->Prop):Exit->St->Prop
 | .normal,y=>CI P C ro c y Q
 | e,y=>Q e y
def NO(Q:Exit->St->Prop):Prop:=∀y,¬Q .outgrown y
theorem CI.skip(h:Q .normal x):CI P C ro .skip x Q:=fun a w hs=>wpIn_skip (.inl ⟨x,hs,h⟩)
theorem CI.exit{id:Nat}(h:Q (.exit id) x):CI P C ro (.exit id) x Q:=fun a w hs=>wpIn_exit (.inl ⟨x,hs,h⟩)
theorem CI.seq{c d:Code}(h:CI P C ro c x (akE P C ro d Q)):CI P C ro (.seq c d) x Q:=fun a w hs =>
 wpIn_seq (wpIn_mono (h a w hs) fun e a' w' h=>by
  rcases h with ⟨y,h1,h2⟩|⟨rfl,h⟩
  ·cases e<;>first|exact h2 a' w' h1|exact .inl ⟨y,h1,h2⟩
  exact .inr ⟨rfl,h⟩)
theorem CI.cond{c:Operand}{d e:Code}{b:Bool}(hc:aD x c = .v (.bool b))(ht:b=true->CI P C ro d x Q)(hf:b=false->CI P C ro e x Q):CI P C ro (.cond c d e) x Q:=fun a w hs =>
 wpIn_cond_split (hs.flat hc) (fun h=>ht h a w hs) (fun h=>hf h a w hs)
theorem CI.akF{c:Operand}{d e:Code}{b:Bool}(hc:aD x c = .v (.bool b))(hb:b=false)(hf:CI P C ro e x Q):CI P C ro (.cond c d e) x Q:=fun a w hs =>
 wpIn_cond_false (by rw[hs.flat hc,hb]) (hf a w hs)
theorem CI.block{id:Nat}{c:Code}(h:CI P C ro c x (Cr id Q)):CI P C ro (.block id c) x Q:=fun a w hs =>
 wpIn_block (wpIn_mono (h a w hs) fun e a' w' h=>by
  rcases h with ⟨y,h1,h2⟩|⟨rfl,h⟩
  case inr=>exact .inr ⟨rfl,h⟩
  cases e with
  | exit uM =>
   simp only[Cr] at h2;simp only[Exit.inBlock];by_cases he:uM=id
   ·subst he;rw[if_pos rfl];simp at h2;exact .inl ⟨y,h1,h2⟩
   rw[if_neg he];have:Nat.beq uM id=false:=by
    cases h:Nat.beq uM id with
    | false=>rfl
    | true=>exact absurd (Nat.eq_of_beq_eq_true h) he
   rw[this] at h2;exact .inl ⟨y,h1,h2⟩
  | _=>exact .inl ⟨y,h1,h2⟩)
def Nh(l:List Oper):Bool:=l.all fun o=>match o.op with|.defer _=>false|_=>true
theorem KZ{Q:Exit->Act->World->Prop}(j5:¬LetsOut Q):∀(l:List Oper),Nh l=true->∀a w,wpList P ops Q l a w->wpListIn (Fence.wide.inRound ro) 0 P ops Q l a w
 | [],_,a,w,h=>h
 | o::l,hd,a,w,h=>by
  unfold Nh at hd;rw[all_cons,Bool.and_eq_true] at hd;obtain⟨hd1,hd2⟩:=hd;unfold wpList at h;unfold wpListIn;split at h
  ·rename_i hw;rw[if_pos hw];rcases h with h|⟨_,h⟩
   ·exact Oper.wpIn_mono (fun a w h=>KZ j5 l hd2 a w h) (UW (some ro) (fun c hc=>by rw[hc] at hd1;cases hd1) h)
   exact absurd h j5
  rename_i hw;rw[if_neg hw];exact⟨fun _ _=>trivial,KZ j5 l hd2 _ _ h⟩
theorem CI.region{id:Nat}{l:List Oper}(j5:NO Q)(hd:Nh l=true)(h:OD P C l.toArray l x Q):CI P C ro (.region id l.toArray false) x Q:=fun a w hs =>
 wpIn_region_lit (KZ (fun ⟨a,w,hq⟩=>by
  rcases hq with ⟨y,_,hq⟩|⟨hq,_⟩
  ·exact j5 y hq
  cases hq) l hd a w (h a w hs))
def Ni:List Tmp->List D->List (Nat×D)->List (Nat×D)
 | t::ts,d::ds,env=>Ni ts ds ((t,d)::env)
 | _,_,env=>env
theorem bB.params{n:Nat}{S:List ag}:∀{ts:List Tmp} {ds:List D} {vs:List Value} {env:List (Nat×D)} {tm:Array Value} {w:World},bB C ⟨n,env,S⟩ {tmps:=tm,defers:=[]} w->cM w (live C.X S) ds vs->ds.length=ts.length->bB C ⟨n,Ni ts ds env,S⟩ {tmps:=(ts.zip vs).foldl (fun tm (t,v)=>tm.setIfInBounds t v) tm,defers:=[]} w
 | [],ds,vs,env,tm,w,h,_,hl=>by
  have:ds=[]:=length_eq_zero_iff.1 hl;subst this;exact h
 | t::ts,[],_,_,_,_,_,_,hl=>by cases hl
 | t::ts,d::ds,[],_,_,_,_,hr,_=>by simp[cM] at hr
 | t::ts,d::ds,v::vs,env,tm,w,h,hr,hl=>by
  obtain⟨h0,h1⟩:=hr.tail;exact bB.params (env:=(t,d)::env) (tm:=tm.setIfInBounds t v) (h.put h0) h1 yB
def ai9(J Jx:List α->List ag->Prop)(jc:Code)(xs:List α):Exit->St->Prop
 | .normal,z=>∃S',S'.Sublist z.S/\J xs S'
 | .ret,z=>jc = .ret/\∃S',S'.Sublist z.S/\Jx xs S'
 | .exit i,z=>jc = .exit i/\∃S',S'.Sublist z.S/\Jx xs S'
 | _,_=>False
def AN(P:Program)(fn:Func)(post:D->List ag->Prop)(y:St):Prop :=
 (y.env.all fun p=>ji p.2)=true/\(∀B∈y.S,gd B.cs=true)/\∃r S',S'.Sublist y.S/\rW P fn y r/\ji r=true/\post r S'
def akG(P:Program)(fn:Func)(post:D->List ag->Prop)(e:Exit)(y:St):Prop:=e = .ret/\AN P fn post y
def mark(D:Nat):Deferred:={target:=.collected D,args:=#[]}
def yp(P:Program)(fn:Func)(post:D->List ag->Prop)(X:Nat->Prop)(w0:World)(S0:List Nat):Act->World->Prop:=fun a w =>
 ∃(Dd:Nat) (C':dJ) (y:St),C'.X=X/\a.defers=[mark Dd]/\Fr w0 S0 C'.w0 C'.S0/\w0.heap.size<=Dd/\Dd<C'.w0.heap.size/\Dd∉C'.S0/\C'.w0.heap[Dd]?=some (.deferred (some []))/\bB C' y a w/\AN P fn post y
theorem bB.Wj {a:Act} {w:World} (h:bB C y a w) {l:Nat} {O o2:Obj} (hl:w.heap[l]?=some O) (ho:O.isCells=false) (I:l∉aj y.S) (U:¬C.X l) (hn:(y.env.all fun p=>ji p.2)=true) (hS:∀B∈y.S,gd B.cs=true)
  (E:nH G (w.putObj l o2) (aj y.S) C.X) (DW:Act->World->Prop):bB ⟨C.X,w.putObj l o2,aj y.S,G,a.defers,DW⟩ y a (w.putObj l o2):=by
 have aa:l<w.heap.size:=(Array.getElem?_eq_some_iff.1 hl).1;have dg:(w.putObj l o2).heap.size=w.heap.size:=World.putObj_size;have H:∀b,b≠l->(w.putObj l o2).heap[b]?=w.heap[b]?:=fun b hb=>World.putObj_heap_other hb;refine⟨rfl,h.size,fun t ht=>(h.env t ht).AM (Z:=fun b=>b=l) (afH hn t) (fun b _ hb hz=>⟨H b hz,hb⟩) (fun b i hz=>by subst hz;exact FR hl ho i) (by rw[dg];exact Nat.le_refl _) (fun b _ hb _=>hb),
  h.own.AM (Z:=fun b=>b=l) (fun B hB=>.inr (mem_map.2 ⟨B,hB,rfl⟩)) hS (fun b _ hz=>H b hz) (fun b i hz=>by subst hz;exact FR hl ho i) (by rw[dg];exact Nat.le_refl _) (fun B hB e=>I (e ▸ mem_map.2 ⟨B,hB,rfl⟩)),
  Fr.refl _ _,fun b hb=>?_,E⟩
 show b<(w.putObj l o2).heap.size/\b∉aj y.S;rw[dg];exact⟨Nat.lt_of_lt_of_le (h.ex b hb).1 h.fr.size,(h.fr.block b (h.ex b hb).1 (h.ex b hb).2).2⟩
theorem VC.AO {f:FuncId} {fn:Func} {n:Nat} {args:List D} (hf:P.funcs[f]?=some fn) (hb:fn.body=some c) (hn:fn.ntmps=n) (hl:args.length<=n)
  (h:∀X w0 S0,CD P ⟨X,w0,S0,G,[],yp P fn post X w0 S0⟩ c ⟨n,ue 0 args,S⟩ (Body P fn post)):VC P G f args S post:=fun X w vs hp=>by
 have qT:vs.length=args.length:=hp.args.1;let C:dJ:=⟨X,w,aj S,G,[],yp P fn post X w (aj S)⟩
 have U:bB C ⟨n,ue 0 args,S⟩ {tmps:=vs.toArray++Array.replicate (fn.ntmps-vs.toArray.size) undef,defers:=[]} w:=by
  refine⟨rfl,by simp[hn];omega,fun t ht=>?_,hp.own,Fr.refl _ _,hp.ex,hp.eI⟩;simp only[Fi,Nat.zero_le,if_true,Nat.sub_zero];by_cases aa:t<args.length
  ·have e1:args.getD t .bF=args[t]:=(by simp[getD,aa])
   have e2:(vs.toArray++Array.replicate (fn.ntmps-vs.toArray.size) undef).getD t undef=vs[t]'w4:=by
    rw[Array.getD_eq_getD_getElem?,Array.getElem?_append_left iI];simp[show t<vs.length by omega]
   rw[e1,e2];exact hp.args.2 t aa w4
  have e1:args.getD t .bF = .bF:=(by simp[getD,getElem?_eq_none (show args.length<=t by omega)])
  rw[e1];exact .bF _
 refine callsIn_wide.1 (callsIn_of_wp_marks (F:=Fence.wide) (n:=0) hf hb trivial (wpIn_wide.2 (wp_mono (h X w (aj S) _ _ U) fun e a w' hq=>?_)) rfl);rcases hq with ⟨y,h1,h2,r,S',h3,h4,h5⟩|⟨rfl,O,C',y,hX,zk,Z,hD0,hD1,hD2,hD3,h1,OW,Bz,r,S',h3,h4,hnr,h5⟩
 ·obtain⟨v,q1,q2⟩:=h4 C a w' h1;have E:(aj S').Sublist (aj y.S):=Sublist.map _ h3;have key:LeavesInM Fence.wide 0 P fn a.tmps (fun e w'=>∃v r S',e = .returned v/\post r S'/\Own w' (live X S') S'/\cq w' (live X S') r v/\Fr w (aj S) w' (aj S')) a.defers .returning w':=by
   rw[show a.defers=[] from h1.defers];exact⟨v,q2,v,r,S',rfl,h5,h1.own.sub h3,q1.mono fun b _ hn=>⟨rfl,fun hl=>hn (hl.imp id fun q=>E.subset q)⟩,
    ⟨h1.fr.os,h1.fr.tape,h1.fr.output,h1.fr.size,fun b I hn=>⟨(h1.fr.block b I hn).1,fun q=>(h1.fr.block b I hn).2 (E.subset q)⟩⟩⟩
  rcases h2 with rfl|rfl<;>exact key
 show LeavesInM Fence.wide 0 P fn a.tmps _ a.defers .returning w';rw[zk];obtain⟨f1,f2⟩:=h1.fr.block O hD1 hD2;have hD:w'.heap[O]?=some (.deferred (some [])):=f1.trans hD3;have hXD:¬C'.X O:=fun hx=>by rw[hX] at hx;have:=(hp.ex O hx).1;omega
 have pJ:=h1.Wj (G:=[]) (o2:=.deferred none) hD rfl f2 hXD OW Bz (fun g hg=>by cases hg) (fun _ _=>False);obtain⟨v,q1,q2⟩:=h4 _ a _ pJ;have E:(aj S').Sublist (aj y.S):=Sublist.map _ h3;refine⟨by simp,.inl ⟨O,_,rfl,run_takeDeferred hD,v,q2,v,r,S',rfl,h5,?_,?_,?_⟩⟩
 ·have:=pJ.own.sub h3;rw[show(⟨C'.X,w'.putObj O (.deferred none),aj y.S,[],a.defers,fun _ _=>False⟩:dJ).X=X from hX] at this;exact this
 ·rw[<-hX];exact q1.mono fun b _ hn=>⟨rfl,fun hl=>hn (hl.imp id fun q=>E.subset q)⟩
 have k:=Z.trans h1.fr;exact⟨k.os,k.tape,k.output,by rw[World.putObj_size];exact k.size,fun b I hn=>by
  obtain⟨k1,k2⟩:=k.block b I hn;exact⟨(World.putObj_heap_other w4).trans k1,fun q=>k2 (E.subset q)⟩⟩
theorem Tm(w:World)(o:Obj)(S:List Nat)(hS:∀b∈S,b<w.heap.size):Fr w S (w.alloc o) S:=⟨rfl,rfl,rfl,by rw[World.size_alloc];omega,fun b hb hn=>⟨Below.heap_alloc w o b hb,hn⟩⟩
theorem nH.on{w w':World}{S S':List Nat}{X E:Nat->Prop}(h:nH G w S X)(hf:∀b,b<w.heap.size->b∉S->¬X b->w'.heap[b]?=w.heap[b]?/\b∉S'/\¬E b):nH G w' S' E:=fun g hg=>by
 obtain⟨⟨h1,h2,h3⟩,h4⟩:=h g hg;obtain⟨f1,f2,f3⟩:=hf g.1 h1 h2 h3;exact⟨⟨su h1 f1,f2,f3⟩,fun i v hi=>(h4 i v hi).on f1⟩
def xD(P:Program)(C:dJ)(b rest:Code)(x:St)(Q:Exit->St->Prop):Prop:=∀a w,bB C x a w->b.wp P (Exit.then (rest.wp P (LQ C Q)) (LQ C Q)) a w
def akH(P:Program)(C:dJ)(b rest:Code)(Q:Exit->St->Prop):Exit->St->Prop
 | .normal,y=>xD P C b rest y Q
 | e,y=>Q e y
theorem aho{b d:Code}(h:CD P C d x (akH P C b c Q)):CD P C (.seq (.seq d b) c) x Q:=fun a w hs =>
 wp_seq (wp_seq (wp_mono (h a w hs) fun e a' w' h=>by
  rcases h with ⟨y,h1,h2⟩|⟨rfl,h⟩
  ·cases e<;>first|exact h2 a' w' h1|exact .inl ⟨y,h1,h2⟩
  exact .inr ⟨rfl,h⟩))
theorem xD.wk{b:Code}(h:Wk x y)(k:xD P C b c y Q):xD P C b c x Q:=fun a w hs=>k a w (h C a w hs)
theorem xD.range {X:Nat->Prop} {w0:World} {S0:List Nat} {fn:Func} {g:Operand} {ps:Array Tmp} {assign body:Code} {gf:FuncId} {Dg:List D} {enc:α->List D} {Sa Sp:List α->Prop} {N id:Nat} {rest:Code}
  (hg:aD x g = .eK (.func gf) Dg) (eg:∀args w,(callFunc gf args).run P w = .ok (.enter gf args) w) (hvi:VI P G gf Dg enc Sa Sp N) (iv:∀y,(enc y).length=ps.toList.length) (hne:∀y,gd (enc y)=true)
  (jc:Code) (zl:jc = .ret\/jc = .exit id) (J Jx:List α->List ag->Prop) (hJn:∀pre Sc,J pre Sc->∀B∈Sc,gd B.cs=true) (Nj:∀pre Sc,Jx pre Sc->∀B∈Sc,gd B.cs=true) (h0:J [] x.S)
  (AQ:List α->α->List ag->St->Prop) (hAQ:∀pre y Sc z,AQ pre y Sc z->(z.env.all fun p=>ji p.2)=true/\∀B∈z.S,gd B.cs=true)
  (ahp:∀X' W' S' l pre y Sc,J pre Sc->pre.length<N->CI P ⟨X',W',S',G,[],fun _ _=>False⟩ l assign ⟨x.n,Ni ps.toList (enc y) x.env,Sc⟩ (fun e z=>e = .normal/\AQ pre y Sc z))
  (akI:∀X' W' S' l pre y Sc z,J pre Sc->pre.length<N->AQ pre y Sc z->CI P ⟨X',W',S',G,[],fun _ _=>False⟩ l body z (ai9 J Jx jc (pre++[y])))
  (akJ:∀W' S' D Sc,((∃xs,Sa xs/\J xs Sc)\/(jc = .exit id/\∃pre,Sp pre/\Jx pre Sc))->CD P ⟨X,W',S',G,[mark D],fun _ _=>False⟩ rest ⟨x.n,x.env,Sc⟩ (akG P fn post))
  (nM:jc = .ret->∀pre Sc,Sp pre->Jx pre Sc->AN P fn post ⟨x.n,x.env,Sc⟩):xD P ⟨X,w0,S0,G,[],yp P fn post X w0 S0⟩ (.block id (.rangeFunc g ps assign body)) rest x Q:=fun a w hs=>by
 have hex:∀b,X b->b<w.heap.size/\b∉aj x.S:=fun b hb=>⟨Nat.lt_of_lt_of_le (hs.ex b hb).1 hs.fr.size,(hs.fr.block b (hs.ex b hb).1 (hs.ex b hb).2).2⟩
 have uu:nH G w (aj x.S) X:=nH.on (w:=w0) (S:=S0) (X:=X) hs.eI fun b h1 h2 h3=>⟨(hs.fr.block b h1 h2).1,(hs.fr.block b h1 h2).2,h3⟩
 have Nk:∀b∈aj x.S,b<w.heap.size:=fun b hb=>by
  obtain⟨B,hB,rfl⟩:=mem_map.1 hb;exact(hs.own.at_ B hB).1
 -- the arB value
 obtain⟨lb,hgv,hlb⟩:∃lb:List Value,a.eval g = .func (.func gf) #[] lb.toArray/\cM w (live X x.S) Dg lb:=by
  have hv:=hs.eval g;rw[hg] at hv;generalize a.eval g=u at hv;cases hv with
  | eK _ _ vs hl hr=>exact⟨vs,rfl,hl,hr⟩
 refine(wp_block (wpIn_wide.1 (wpIn_rangeFunc (F:=Fence.wide) (n:=0) fun fid _=>?_)));obtain⟨rec,yL⟩:∃rec:LoopState->Option Code->Loop,rec=fun st pe=>{state:=st,pending:=pe,fn:=fid,tmps:=a.tmps,params:=ps,assign,body,defers:=w.heap.size}:=⟨_,rfl⟩
 obtain⟨W1,D6⟩:∃W1,(w.alloc (.deferred (some []))).alloc (.loop (rec .ready none))=W1:=⟨_,rfl⟩
 have hL1:W1.heap[w.heap.size+1]?=some (.loop (rec .ready none)):=by
  rw[<-D6];have:=World.alloc_heap_new (w.alloc (.deferred (some []))) (.loop (rec .ready none));rwa [World.size_alloc] at this
 have Iz:W1.heap[w.heap.size]?=some (.deferred (some [])):=by
  rw[<-D6];exact(Below.heap_alloc _ _ _ bp).trans (World.alloc_heap_new w _)
 have hF1:Fr w (aj x.S) W1 (aj x.S):=by
  rw[<-D6];exact(Tm w _ _ Nk).trans (Tm _ _ _ fun b hb=>by rw[World.size_alloc];have:=Nk b hb;omega)
 have OX:∀b,b<w.heap.size->W1.heap[b]?=w.heap[b]?:=fun b hb=>by
  rw[<-D6,Below.heap_alloc _ _ _ (by rw[World.size_alloc];omega),Below.heap_alloc _ _ _ hb]
 have akK:Own W1 (live X x.S) x.S:=⟨fun B hB=>by
  obtain⟨r0,cur,r1,r2,r3,r4⟩:=hs.own.at_ B hB;exact⟨Nat.lt_of_lt_of_le r0 hF1.size,cur,(OX _ r0).trans r1,r2,r3,fun i hi=>by
   obtain⟨u,hu,hq⟩:=r4 i hi;exact⟨u,hu,hq.mono fun b hb hn=>⟨OX b hb,hn⟩⟩⟩,hs.own.apart⟩
 have hos:∀b,w.heap.size<=b->¬live X x.S b:=fun b hb hl=>by
  rcases hl with hl|hl
  ·have:=(hex b hl).1;omega
  have:=Nk b hl;omega
 let Y:zj α:=⟨w.heap.size+1,[(w.heap.size+1,.loop (rec .ready none)),(w.heap.size,.deferred (some []))],[(w.heap.size+1,.loop (rec .done (some jc))),(w.heap.size,.deferred (some []))],enc,J,Jx,N⟩
 have akL:sM W1 (live X x.S) Y.os:=fun z hz=>by
  rcases mem_cons.1 hz with rfl|hz
  ·exact⟨(Array.getElem?_eq_some_iff.1 hL1).1,hos _ bp,hL1⟩
  rw[mem_singleton] at hz;subst hz;exact⟨(Array.getElem?_eq_some_iff.1 Iz).1,hos _ (Nat.le_refl _),Iz⟩
 -- the arC kU,later
 have Yo:∀(W:World) (Xr:Nat->Prop) (Sc:List ag),Fr w (aj x.S) W (aj Sc)->(∀b,Xr b->X b\/w.heap.size<=b\/b∈aj x.S)->∀t,t<x.n->cq W (live Xr Sc) (look t x.env) (a.tmps.getD t undef):=fun W Xr Sc hf hx t ht =>
  (hs.env t ht).mono fun b hb hn=>by
   have Bz:b∉aj x.S:=fun h=>hn (.inr h);obtain⟨k1,k2⟩:=hf.block b hb Bz;refine⟨k1,fun hl=>?_⟩;rcases hl with hl|hl
   ·rcases hx b hl with h|h|h
    ·exact hn (.inl h)
    ·omega
    exact Bz h
   exact k2 hl
 -- what follows
 have after:∀(E:World) (Sc:List ag),Fr w (aj x.S) E (aj Sc)->Own E (live X Sc) Sc->E.heap[w.heap.size]?=some (.deferred (some []))->w.heap.size∉aj Sc ->
   bB ⟨X,E,aj Sc,G,[mark w.heap.size],fun _ _=>False⟩ ⟨x.n,x.env,Sc⟩ {a with defers:=[mark w.heap.size]++a.defers} E/\∀a' w' y,bB ⟨X,E,aj Sc,G,[mark w.heap.size],fun _ _=>False⟩ y a' w'->AN P fn post y->yp P fn post X w0 S0 a' w':=fun E Sc hf ho hk hkS=>by
  refine⟨⟨by show[mark w.heap.size]++a.defers=_;rw[show a.defers=[] from hs.defers];rfl,hs.size,fun t ht=>Yo E X Sc hf (fun b hb=>.inl hb) t ht,ho,Fr.refl _ _,fun b hb=>⟨Nat.lt_of_lt_of_le (hex b hb).1 hf.size,(hf.block b (hex b hb).1 (hex b hb).2).2⟩,nH.on uu fun b h1 h2 h3=>⟨(hf.block b h1 h2).1,(hf.block b h1 h2).2,h3⟩⟩,fun a' w' y h1 h2=>?_⟩;exact⟨w.heap.size,_,y,rfl,h1.defers,hs.fr.trans hf,hs.fr.size,(Array.getElem?_eq_some_iff.1 hk).1,hkS,hk,h1,h2⟩
 refine⟨w.heap.size+1,[mark w.heap.size],W1,{target:=.fn (.func gf) lb.toArray,args:=#[.func (.yield (w.heap.size+1)) #[] #[]]},W1,gf,#[.func (.yield (w.heap.size+1)) #[] #[]]++lb.toArray,W1,?_,?_,fun _ _=>trivial,?_,fun hc=>(by cases hc),?_⟩
 ·rw[<-D6,yL];exact run_enterLoop_outer _ _ _ _ _
 ·simp only[resolve,hgv];simp[go_sem]
 ·simp[invoke,go_sem,eg]
 refine callsIn_wide.2 ((hvi Y X w W1 (aj x.S) x.S lb rfl rfl hex uu (by simp[Y]) akK (hlb.mono fun b hb hn=>⟨OX b hb,hn⟩) hF1 akL h0 ?_).mono ?_)
 ·
  intro pre y Sc Xr W vs hJ hN amj hX1 OY fy HB gC I;have hl:W.heap[w.heap.size+1]?=some (.loop (rec .ready none)):=(I _ mem_cons_self).2.2;have hk:W.heap[w.heap.size]?=some (.deferred (some [])):=(I _ (mem_cons_of_mem _ mem_cons_self)).2.2;have hlL:¬live Xr Sc (w.heap.size+1):=(I _ mem_cons_self).2.1;have hkL:¬live Xr Sc w.heap.size:=(I _ (mem_cons_of_mem _ mem_cons_self)).2.1;have er:w.heap.size<W.heap.size:=(Array.getElem?_eq_some_iff.1 hk).1;have mU:w.heap.size+1<W.heap.size:=(Array.getElem?_eq_some_iff.1 hl).1;have qT:vs.length=ps.toList.length:=(by rw[HB.1];exact iv y)
  have hy:=run_yield (P:=P) (args:=vs.toArray) hl (by rw[yL];simp at qT |-;exact qT);rw[yL] at hy;refine⟨fid,_,assign,body,hy,roundIn_of_wpIn trivial ?_⟩;have akM:nH G W (aj Sc) Xr:=nH.on uu fun b h1 h2 h3=>⟨(gC.block b h1 h2).1,(gC.block b h1 h2).2,fun hx=>by
   rcases OY b hx with h|h|h
   ·exact h3 h
   ·omega
   exact h2 h⟩
  have akN:bB ⟨Xr,W,aj Sc,G,[],fun _ _=>False⟩ ⟨x.n,x.env,Sc⟩ {tmps:=a.tmps,defers:=[]} W:=⟨rfl,hs.size,fun t ht=>Yo W Xr Sc gC OY t ht,fy,Fr.refl _ _,amj,akM⟩
  have amk:(ps.zip vs.toArray).foldl (fun t (p,v)=>t.setIfInBounds p v) a.tmps=(ps.toList.zip vs).foldl (fun t (p,v)=>t.setIfInBounds p v) a.tmps:=by
   rw[<-Array.foldl_toList];simp
  refine wpIn_mono (ahp Xr W (aj Sc) _ pre y Sc hJ hN _ _ (by
   have:=akN.params HB (iv y);rw[<-amk] at this;exact this)) fun e a1 w1 hq=>?_
  rcases hq with ⟨z,mV,rfl,hz2⟩|⟨_,hq⟩
  case inr=>exact hq.elim
  obtain⟨OW,Bz⟩:=hAQ _ _ _ _ hz2;obtain⟨f1,f2⟩:=mV.fr.block (w.heap.size+1) mU (fun h=>hlL (.inr h));have mi:w1.heap[w.heap.size+1]?=some (.loop (rec .ready none)):=f1.trans hl;have iu:w1.heap.size=(w1.putObj (w.heap.size+1) (.loop {rec .ready none with state:=.busy})).heap.size:=(by rw[World.putObj_size])
  have hXl:¬Xr (w.heap.size+1):=fun h=>hlL (.inl h);have O:∀(u:World) (ob:Obj) b,b≠w.heap.size+1->(u.putObj (w.heap.size+1) ob).heap[b]?=u.heap[b]?:=fun u ob b hb=>World.putObj_heap_other hb;obtain⟨W2,vK⟩:∃W2,w1.putObj (w.heap.size+1) (.loop {rec .ready none with state:=.busy})=W2:=⟨_,rfl⟩
  have W4:=mV.Wj (G:=G) (o2:=.loop {rec .ready none with state:=.busy}) mi rfl f2 hXl OW Bz (nH.on uu fun b h1 h2 h3=>by
   obtain⟨k1,k2⟩:=gC.block b h1 h2;obtain⟨k3,k4⟩:=mV.fr.block b (Nat.lt_of_lt_of_le h1 gC.size) k2;refine⟨(O _ _ _ w4).trans (k3.trans k1),k4,fun hx=>?_⟩;rcases OY b hx with h|h|h
   ·exact h3 h
   ·omega
   exact h2 h) (fun _ _=>False)
  rw[mV.defers,vK] at W4;have iu:W2.heap[w.heap.size+1]?=some (.loop {rec .ready none with state:=.busy}):=(by rw[<-vK];exact World.putObj_heap_same (Array.getElem?_eq_some_iff.1 mi).1)
  have ox:∀(a3:Act) (W3:World) (y3:St) (S':List ag) (jump:Option Code),bB ⟨Xr,W2,aj z.S,G,[],fun _ _=>False⟩ y3 a3 W3->S'.Sublist y3.S->(∀B∈S',gd B.cs=true) ->
    ∃E,(Instr.endRound (w.heap.size+1) jump).run P W3 = .ok (.bool jump.isNone) E/\E.heap[w.heap.size+1]?=some (.loop (rec (if jump.isNone then .ready else .done) jump))/\E.heap[w.heap.size]?=some (.deferred (some [])) /\
     Own E (live Xr S') S'/\FrX (w.heap.size+1) W (aj Sc) E (aj S')/\¬live Xr S' (w.heap.size+1)/\¬live Xr S' w.heap.size:=fun a3 W3 y3 S' jump h3 U OZ=>by
   have O0:(aj S').Sublist (aj y3.S):=Sublist.map _ U;have Dh:W2.heap.size=w1.heap.size:=(by rw[<-vK,World.putObj_size])
   obtain⟨g1,g2⟩:=h3.fr.block (w.heap.size+1) (Array.getElem?_eq_some_iff.1 iu).1 f2;have IA:W3.heap[w.heap.size+1]?=some (.loop {rec .ready none with state:=.busy}):=g1.trans iu;have aml:=(Array.getElem?_eq_some_iff.1 IA).1;have oR:=run_endRound (P:=P) jump IA;obtain⟨k1,k2⟩:=mV.fr.block w.heap.size er (fun h=>hkL (.inr h));obtain⟨k3,k4⟩:=h3.fr.block w.heap.size (by rw[Dh];exact Nat.lt_of_lt_of_le er mV.fr.size) k2;have eR:W2.heap[w.heap.size]?=some (.deferred (some [])):=(by rw[<-vK];exact(O _ _ _ w4).trans (k1.trans hk))
   have hlS:w.heap.size+1∉aj S':=fun h=>g2 (O0.subset h);refine⟨_,oR,?_,(O _ _ _ w4).trans (k3.trans eR),?_,?_,?_,?_⟩
   ·rw[yL];exact World.putObj_heap_same aml
   ·exact(h3.own.sub U).AM (Z:=fun b=>b=w.heap.size+1) (fun B hB=>.inr (mem_map.2 ⟨B,hB,rfl⟩)) OZ (fun b _ hb=>O _ _ _ hb) (fun b i hz=>by subst hz;exact FR IA rfl i) (by rw[World.putObj_size];exact Nat.le_refl _) (fun B hB e=>hlS (e ▸ mem_map.2 ⟨B,hB,rfl⟩))
   ·refine⟨h3.fr.os.trans ?_,h3.fr.tape.trans ?_,h3.fr.output.trans ?_,?_,fun b hb hn=>?_⟩
    ·rw[<-vK];exact mV.fr.os
    ·rw[<-vK];exact mV.fr.tape
    ·rw[<-vK];exact mV.fr.output
    ·rw[World.putObj_size];exact Nat.le_trans mV.fr.size (by rw[<-Dh];exact h3.fr.size)
    obtain⟨m1,m2⟩:=mV.fr.block b hb hn;obtain⟨m3,m4⟩:=h3.fr.block b (by rw[Dh];exact Nat.lt_of_lt_of_le hb mV.fr.size) m2;refine⟨fun Yp=>(O _ _ _ Yp).trans (m3.trans ?_),fun h=>m4 (O0.subset h)⟩;rw[<-vK];exact(O _ _ _ Yp).trans m1
   ·rintro(h|h)
    ·exact hXl h
    exact hlS h
   rintro(h|h)
   ·exact hkL (.inl h)
   exact k4 (O0.subset h)
  refine⟨W2,by rw[<-vK];exact run_beginRound mi (by rw[yL]),wpIn_mono (akI Xr W2 (aj z.S) _ pre y Sc z hJ hN hz2 _ _ W4) fun e a3 W3 hq=>?_⟩;rcases hq with ⟨y3,h3,hq⟩|⟨_,hq⟩
  case inr=>exact hq.elim
  cases e with
  | normal =>
   obtain⟨S',U,hj⟩:=hq;obtain⟨E,r1,r2,r3,r4,r5,r6,r7⟩:=ox a3 W3 y3 S' none h3 U (hJn _ _ hj);exact⟨_,E,r1,true,S',rfl,r4,r5,fun _=>⟨hj,r2.trans hl.symm⟩,(fun h=>by cases h)⟩
  | ret =>
   obtain⟨hc,S',U,hj⟩:=hq;obtain⟨E,r1,r2,r3,r4,r5,r6,r7⟩:=ox a3 W3 y3 S' (some .ret) h3 U (Nj _ _ hj);refine⟨_,E,r1,false,S',rfl,r4,r5,(fun h=>by cases h),fun _=>⟨hj,fun z hz=>?_⟩⟩;rcases mem_cons.1 hz with rfl|hz
   ·exact⟨(Array.getElem?_eq_some_iff.1 r2).1,r6,by rw[hc];exact r2⟩
   rw[mem_singleton] at hz;subst hz;exact⟨(Array.getElem?_eq_some_iff.1 r3).1,r7,r3⟩
  | exit i =>
   obtain⟨hc,S',U,hj⟩:=hq;obtain⟨E,r1,r2,r3,r4,r5,r6,r7⟩:=ox a3 W3 y3 S' (some (.exit i)) h3 U (Nj _ _ hj);refine⟨_,E,r1,false,S',rfl,r4,r5,(fun h=>by cases h),fun _=>⟨hj,fun z hz=>?_⟩⟩;rcases mem_cons.1 hz with rfl|hz
   ·exact⟨(Array.getElem?_eq_some_iff.1 r2).1,r6,by rw[hc];exact r2⟩
   rw[mem_singleton] at hz;subst hz;exact⟨(Array.getElem?_eq_some_iff.1 r3).1,r7,r3⟩
  | goto t=>exact hq.elim
  | panic ch=>exact hq.elim
  | outgrown=>exact hq.elim
 -- behind the iterator
 have fw:∀(W':World) (Sc:List ag) (st:LoopState) (pe:Option Code),Own W' (live X Sc) Sc->Fr w (aj x.S) W' (aj Sc)->(∀B∈Sc,gd B.cs=true)->st≠.busy ->
   sM W' (live X Sc) [(w.heap.size+1,.loop (rec st pe)),(w.heap.size,.deferred (some []))] ->
   ∃E,(Instr.endLoop (w.heap.size+1)).run P W' = .ok pe E/\bB ⟨X,E,aj Sc,G,[mark w.heap.size],fun _ _=>False⟩ ⟨x.n,x.env,Sc⟩ {a with defers:=[mark w.heap.size]++a.defers} E /\
    ∀a' w' y,bB ⟨X,E,aj Sc,G,[mark w.heap.size],fun _ _=>False⟩ y a' w'->AN P fn post y->yp P fn post X w0 S0 a' w':=fun W' Sc st pe ho hf OZ fX I=>by
  obtain⟨r1,r2,r3⟩:=I _ mem_cons_self;obtain⟨k1,k2,k3⟩:=I _ (mem_cons_of_mem _ mem_cons_self);have r1:w.heap.size+1<W'.heap.size:=r1;have r3:W'.heap[w.heap.size+1]?=some (.loop (rec st pe)):=r3;have oR:=run_endLoop (P:=P) r3 (by rw[yL];exact fX);have iJ:(rec st pe).pending=pe:=(by rw[yL])
  rw[iJ] at oR;refine⟨_,oR,after _ Sc ⟨hf.os,hf.tape,hf.output,by rw[World.putObj_size];exact hf.size,fun b hb hn=>⟨(World.putObj_heap_other w4).trans (hf.block b hb hn).1,(hf.block b hb hn).2⟩⟩ ?_ ((World.putObj_heap_other w4).trans k3) (fun h=>k2 (.inr h))⟩;exact ho.AM (Z:=fun b=>b=w.heap.size+1) (fun B hB=>.inr (mem_map.2 ⟨B,hB,rfl⟩)) OZ (fun b _ hb=>World.putObj_heap_other hb) (fun b i hz=>by subst hz;exact FR r3 rfl i) (by rw[World.putObj_size];exact Nat.le_refl _) (fun B hB e=>r2 (.inr (by rw[<-e];exact mem_map.2 ⟨B,hB,rfl⟩)))
 have hR:∀(a':Act) (E:World) (Sc:List ag),bB ⟨X,E,aj Sc,G,[mark w.heap.size],fun _ _=>False⟩ ⟨x.n,x.env,Sc⟩ a' E->(∀a' w' y,bB ⟨X,E,aj Sc,G,[mark w.heap.size],fun _ _=>False⟩ y a' w'->AN P fn post y->yp P fn post X w0 S0 a' w') ->
   ((∃xs,Sa xs/\J xs Sc)\/(jc = .exit id/\∃pre,Sp pre/\Jx pre Sc))->rest.wp P (LQ ⟨X,w0,S0,G,[],yp P fn post X w0 S0⟩ Q) a' E:=fun a' E Sc h1 h2 h3 =>
  wp_mono (akJ E (aj Sc) w.heap.size Sc h3 _ _ h1) fun e a2 w2 hq=>by
   rcases hq with ⟨y,q1,rfl,q2⟩|⟨_,hq⟩
   ·exact .inr ⟨rfl,h2 _ _ _ q1 q2⟩
   exact hq.elim
 rintro e W' ⟨v,Sc,rfl,fy,gC,h⟩;rcases h with ⟨xs,hsa,hj,I⟩|⟨pre,uQ,hj,I⟩
 ·obtain⟨E,q1,q2,q3⟩:=fw W' Sc .ready none fy gC (hJn _ _ hj) bp I;refine⟨none,E,q1,?_⟩;exact hR _ E Sc q2 q3 (.inl ⟨xs,hsa,hj⟩)
 obtain⟨E,q1,q2,q3⟩:=fw W' Sc .done (some jc) fy gC (Nj _ _ hj) bp I;refine⟨some jc,E,q1,?_⟩;rcases zl with zl|zl
 ·rw[zl];refine wpIn_ret ?_;exact .inr ⟨rfl,q3 _ _ _ q2 (nM zl pre Sc uQ hj)⟩
 rw[zl];refine wpIn_exit ?_;have:=hR _ E Sc q2 q3 (.inr ⟨zl,pre,uQ,hj⟩);simpa[Exit.inBlock,Exit.then] using this
theorem Tn{b e size:Nat}{cs cs':List D}(hB:(⟨b,e,size,cs⟩:ag)∈S)(hv:hU S cs cs')(hne:isMap e=false:=by rfl):View S (.v (.pointer (some ⟨b,0,none⟩))) (.fT cs' 0):=fun X Y w v E I ho h=>by
 rw[h.lQ];obtain⟨v1,v2⟩:=hv.spec;obtain⟨r0,cur,r1,r2,U,O⟩:=ho.at_ _ hB;rw[lp hne] at r1;refine .fT cs' 0 b 0 (fun i=>cur.getD i undef) r0 (fun hy=>I _ (E _ hy) (mem_map.2 ⟨_,hB,rfl⟩)) (fun i hi=>?_) (fun i hi=>?_)
 ·obtain⟨u,hu,_⟩:=O i Ht;rw[Nat.zero_add,pc r1 hu];simp[hu]
 obtain⟨u,hu,hq⟩:=O i Ht;simp only[Array.getD_eq_getD_getElem?,hu,Option.getD_some];exact v2 i w4 hi X Y w u E I ho hq
theorem afI{f:Fn}{ds E:List D}(h:hU S ds E):View S (.eK f ds) (.eK f E):=fun X Y w v O U ho hr=>by
 obtain⟨h1,h2⟩:=h.spec;cases hr with
 | eK _ _ vs hl I=>exact .eK f E vs w4 fun i q1 q2=>h2 i w4 q1 X Y w _ O U ho (I i w4 q2)
variable {S1 T:List Nat} {fuel i:Nat} {ld:Array Bool}
end
section
variable {P:Program} {C:dJ} {G:List (Nat×List Value)} {Q:Exit->St->Prop} {x:St} {ops:Array Oper} {o:Oper} {n fuel t:Nat} {e:List (Nat×D)} {S:List ag} {S1 T:List Nat} {ld:Array Bool} {d:D} {kd:Rd}
theorem aC (i:Nat) (hi:ops[i]?=some o) (h:bS P C.G ⟨n,e,S⟩ o kd d) (K:dW P C ops S1 T fuel (ld.setIfInBounds i true) ⟨n,(t,d)::e,S⟩ Q) (hs:Region.noSelect ops=true:=by kernel_rfl) (hf:Region.free .any ops ld i=true:=by kernel_rfl) (hr:(Region.ready .any ops ld).contains i=true:=by kernel_rfl)
  (hp:NP Q:=by repeat (first|exact NP.norm|exact NP.body|exact NP.AO|exact NP.GX|apply NP.tl|apply NP.GY|apply NP.then|apply NP.cut|apply NP.inBlock|apply NP.round)) (hw:bV ops ⟨n,e,S⟩ o true:=by first|exact so rfl|exact vk rfl rfl rfl lk jQ) (hd:o.dst=some t:=by exact rfl)
  (hk:Safe ⟨n,e,S⟩ T kd:=by first|exact trivial|exact rq (k0:=0) rfl rfl|exact rq (k0:=1) rfl rfl|exact rq (k0:=2) rfl rfl|exact rq (k0:=3) rfl rfl|exact rq (k0:=4) rfl rfl|exact rq (k0:=5) rfl rfl):dW P C ops S1 T (fuel+1) ld ⟨n,e,S⟩ Q :=
 dW.take hi hs hf hr hp hw hd h hk K
theorem dr (i:Nat) (hi:ops[i]?=some o) (h:bS P C.G ⟨n,e,S⟩ o kd d) (K:AD P C ops S1 T fuel (ld.setIfInBounds i true) ⟨n,(t,d)::e,S⟩ Q) (hs:Region.noSelect ops=true:=by kernel_rfl) (hf:Region.free .any ops ld i=true:=by kernel_rfl) (hr:(Region.ready .any ops ld).contains i=true:=by kernel_rfl)
  (hp:NP Q:=by repeat (first|exact NP.norm|exact NP.body|exact NP.AO|exact NP.GX|apply NP.tl|apply NP.GY|apply NP.then|apply NP.cut|apply NP.inBlock|apply NP.round)) (hw:bV ops ⟨n,e,S⟩ o true:=by first|exact so rfl|exact vk rfl rfl rfl lk jQ) (hd:o.dst=some t:=by exact rfl)
  (hk:Safe ⟨n,e,S⟩ T kd:=by first|exact trivial|exact rq (k0:=0) rfl rfl|exact rq (k0:=1) rfl rfl|exact rq (k0:=2) rfl rfl|exact rq (k0:=3) rfl rfl|exact rq (k0:=4) rfl rfl|exact rq (k0:=5) rfl rfl) (qV:kd≠.kL:=by intro h;cases h):AD P C ops S1 T (fuel+1) ld ⟨n,e,S⟩ Q :=
 AD.take hi hs hf hr hp hw hd h hk qV K
theorem at_{i:Nat}(hi:ops[i]?=some o)(h:bS P C.G ⟨n,e,S⟩ o kd d)(K:AD P C ops S1 T fuel (ld.setIfInBounds i true) ⟨n,(t,d)::e,S⟩ Q)(hw:bV ops ⟨n,e,S⟩ o true:=by first|exact so rfl|exact vk rfl rfl rfl lk jQ)(hd:o.dst=some t:=by exact rfl):gQ P C ops S1 T fuel ld ⟨n,e,S⟩ Q i :=
 QH hi hw hd h K
theorem nr (i:Nat) (hi:ops[i]?=some o) (K:dW P C ops S1 T fuel (ld.setIfInBounds i true) ⟨n,(t,.v (.tuple #[]))::e,S⟩ Q) (hw:bV ops ⟨n,e,S⟩ o false:=by first|exact nC rfl rfl rfl lk jQ|exact KR (b:=false) rfl rfl rfl lk) (hs:Region.noSelect ops=true:=by kernel_rfl) (hf:Region.free .any ops ld i=true:=by kernel_rfl) (hr:(Region.ready .any ops ld).contains i=true:=by kernel_rfl)
  (hp:NP Q:=by repeat (first|exact NP.norm|exact NP.body|exact NP.AO|exact NP.GX|apply NP.tl|apply NP.GY|apply NP.then|apply NP.cut|apply NP.inBlock|apply NP.round)) (hd:o.dst=some t:=by exact rfl):dW P C ops S1 T (fuel+1) ld ⟨n,e,S⟩ Q :=
 dW.aft hi hs hf hr hp hw hd K
theorem qO (i:Nat) (hi:ops[i]?=some o) (K:AD P C ops S1 T fuel (ld.setIfInBounds i true) ⟨n,(t,.v (.tuple #[]))::e,S⟩ Q) (hw:bV ops ⟨n,e,S⟩ o false:=by first|exact nC rfl rfl rfl lk jQ|exact KR (b:=false) rfl rfl rfl lk) (hs:Region.noSelect ops=true:=by kernel_rfl) (hf:Region.free .any ops ld i=true:=by kernel_rfl) (hr:(Region.ready .any ops ld).contains i=true:=by kernel_rfl)
  (hp:NP Q:=by repeat (first|exact NP.norm|exact NP.body|exact NP.AO|exact NP.GX|apply NP.tl|apply NP.GY|apply NP.then|apply NP.cut|apply NP.inBlock|apply NP.round)) (hd:o.dst=some t:=by exact rfl):AD P C ops S1 T (fuel+1) ld ⟨n,e,S⟩ Q :=
 acj hi hs hf hr hp hw hd K
theorem gp (i:Nat) (hi:ops[i]?=some o) (h:bS P C.G ⟨n,e,S⟩ o .none d) (K:AI P C ops fuel (ld.setIfInBounds i true) ⟨n,(t,d)::e,S⟩ Q) (nw:∀w a,o.about P w a=none:=by exact fun _ _=>rfl) (hs:Region.noSelect ops=true:=by kernel_rfl) (hf:Region.free .any ops ld i=true:=by kernel_rfl) (hr:(Region.ready .any ops ld).contains i=true:=by kernel_rfl)
  (hp:NP Q:=by repeat (first|exact NP.norm|exact NP.akC|apply NP.then|apply NP.cut|apply NP.inBlock|apply NP.round)) (hw:bV ops ⟨n,e,S⟩ o true:=by first|exact so rfl|exact vk rfl rfl rfl lk jQ) (hd:o.dst=some t:=by exact rfl):AI P C ops (fuel+1) ld ⟨n,e,S⟩ Q :=
 AI.take hi hs hf hr hp hw nw hd h K
theorem lE{i:Nat}(hi:ops[i]?=some o)(h:bS P C.G ⟨n,e,S⟩ o kd d)(K:AI P C ops fuel (ld.setIfInBounds i true) ⟨n,(t,d)::e,S⟩ Q)(zk:∀c,o.op≠.defer c:=by exact fun _ h=>by cases h)(hw:bV ops ⟨n,e,S⟩ o true:=by first|exact so rfl|exact vk rfl rfl rfl lk jQ)(hd:o.dst=some t:=by exact rfl):iw P C ops fuel ld ⟨n,e,S⟩ Q i :=
 iw.still hi hw zk hd h K
def O1(P:Program)(s u:Nat):Bool:=match P.underlying s with
 | some (.slice b)=>(match P.underlying b with
  | some (.int .u8)=>(match P.underlying u with
   | some .string=>true
   | _=>false)
  | _=>false)
 | _=>false
theorem akO{s u:Nat}(h:O1 P s u=true):∃b,P.underlying s=some (.slice b)/\P.underlying b=some (.int .u8)/\P.underlying u=some .string:=by
 unfold O1 at h;split at h
 ·rename_i b hb;split at h
  ·rename_i E;split at h
   ·rename_i I;exact⟨b,hb,E,I⟩
   cases h
  cases h
 cases h
theorem D7{s u:TypeId}{y:Operand}{bs:List UInt8}{m:Nat}(ho:o.op = .convert s u y:=by exact rfl)(hy:aD x y = .list 1 (bs.flatMap cB) m:=by exact ot)(hs:O1 P s u=true:=by kernel_rfl):bS P G x o .kL (.v (.string ⟨bs.toArray⟩)):=by
 obtain⟨b,h1,h2,h3⟩:=akO hs;exact abH ho hy h1 h2 h3
end
variable {P:Program} {C:dJ} {G:List (Nat×List Value)} {Q:Exit->St->Prop} {x:St} {ops:Array Oper} {l:List Oper} {o:Oper} {n:Nat} {e:List (Nat×D)} {S:List ag} {S1 T:List Nat} {fuel i:Nat} {ld:Array Bool}
variable {b sz:Nat} {dh:Array Operand} {t:TypeId} {fo:Operand} {ts:Array TypeId} {B:ag} {ps:List (Nat×Operand)}
theorem aB{α:Type}{a b:α}(h:a=b:=by kernel_rfl):a=b:=h
theorem aP{a:Nat}(h:Nat.ble a b=true:=by exact rfl):a<=b:=Nat.le_of_ble_eq_true h
theorem av(h:o.guard=none:=by exact rfl):bV ops x o true:=so h
theorem iR(h:bV ops x o true:=by exact vk rfl rfl rfl lk jQ):bV ops x o true:=h
theorem ff_{pd zs ds:List D}(ha:(pd.all fun d=>Nat.beq (cellsOf d).length sz)=true:=by exact rfl)(hl:Nat.beq zs.length (pd.length*sz)=true:=by exact rfl)(jA:pd.flatMap cellsOf=ds:=by exact rfl):nc (fun i=>some (i*sz,sz)) zs (cx 0 pd)=some ds:=Ro ha hl jA
theorem D8(h:NP Q:=by repeat (first|exact NP.body|exact NP.AO|exact NP.GX|apply NP.tl|apply NP.GY|apply NP.then|apply NP.cut|apply NP.inBlock|apply NP.round)):NP Q:=h
theorem jb{a b:List Nat}(h:∀x∈a,x∈b:=by intro b hb;simp[aj,St.put] at hb |-;try first|exact hb|omega|simp[hb]|(rcases hb with hb|hb<;>simp[hb])|(rcases hb with hb|hb|hb<;>simp[hb])):∀x∈a,x∈b:=h
theorem fJ{l':List (Nat×D)}(h:oN e l':=by repeat (first|exact trivial|refine⟨lk,?_⟩)):oN e l':=h
theorem D9{dh:List Operand}{ds:List D}(h:nN x dh ds:=by repeat (first|exact trivial|refine⟨ot,?_⟩|refine⟨cf,?_⟩|refine⟨u4,?_⟩)):nN x dh ds:=h
theorem eB {f t:Nat} {args:List D} {r:D} (fH:∀args w,(callFunc f args).run P w = .ok (.enter f args) w) (hc:VP P C.G f args r) (K:OD P C ops l (x.put t r) Q)
  (ho:o.op = .call {callee:=.value fo,args:=dh,argTypes:=ts}:=by exact rfl) (hw:bV ops x o true:=by exact av) (hd:o.dst=some t:=by exact rfl) (hf:fo = .func f:=by exact rfl) (ha:nN x dh.toList args:=by exact D9):OD P C ops (o::l) x Q:=oK hw ho hd hf fH hc ha K
theorem qR {f t:Nat} {args:List D} {r:D} (fH:∀args w,(callFunc f args).run P w = .ok (.enter f args) w) (hc:VP P C.G f args r) (K:AD P C ops S1 T fuel (ld.setIfInBounds i true) (x.put t r) Q)
  (hi:ops[i]?=some o:=by exact rfl) (ho:o.op = .call {callee:=.value fo,args:=dh,argTypes:=ts}:=by exact rfl) (hw:bV ops x o true:=by exact av) (hd:o.dst=some t:=by exact rfl) (hf:fo = .func f:=by exact rfl) (ha:nN x dh.toList args:=by exact D9):gQ P C ops S1 T fuel ld x Q i:=BW hi hw ho hd hf fH hc ha K
theorem gh (k t sz m:Nat) {cap:Nat} {cs:List D} (K:OD P C ops l ⟨x.n,(t,.list sz cs m)::x.env,x.S.eraseIdx k⟩ Q) (hk:x.S[k]?=some B:=by exact rfl) (ht:V.look t x.env = .v (.slice (some ⟨b,0,none⟩) m cap):=by exact lk) (hb:B.b=b:=by exact rfl) (dz:B.cs=cs:=by exact rfl) (hl:cs.length=m*sz:=by exact rfl) (h1:m<=cap:=by exact Nat.le_refl _) (h2:cap<=maxLen:=by decide)
  (hne:isMap B.e=false:=by exact rfl):OD P C ops l x Q:=ahi (hne:=hne) hk ht hb dz hl h1 h2 K
theorem oF (k t sz m:Nat) {cap:Nat} {cs:List D} (K:AD P C ops S1 T fuel ld ⟨x.n,(t,.list sz cs m)::x.env,x.S.eraseIdx k⟩ Q) (hk:x.S[k]?=some B:=by exact rfl) (ht:V.look t x.env = .v (.slice (some ⟨b,0,none⟩) m cap):=by exact lk) (hb:B.b=b:=by exact rfl) (dz:B.cs=cs:=by exact rfl) (hl:cs.length=m*sz:=by exact rfl) (h1:m<=cap:=by exact Nat.le_refl _) (h2:cap<=maxLen:=by decide)
  (hne:isMap B.e=false:=by exact rfl):AD P C ops S1 T fuel ld x Q:=ahj (hne:=hne) hk ht hb dz hl h1 h2 K
theorem pb_{pl:List (Nat×D)}(h:jK x ps pl:=by repeat (first|exact trivial|refine⟨rfl,ot,?_⟩|refine⟨rfl,cf,?_⟩|refine⟨rfl,u4,?_⟩)):jK x ps pl:=h
theorem nY{c:Code}{ι:Type}{y:St}(I:ι->St->Prop)(μ:ι->Nat)(i:ι)(h0:I i y)(hw:Wk x y)(round:∀i y,I i y->CD P C c y (CQ I μ i Q)):CD P C (.loop c) x Q:=kS hw (KS I μ i h0 round)
theorem lo_{p:Prop}{c:Code}{ι:Type}{y:St}(I:ι->St->Prop)(μ:ι->Nat)(i:ι)(h0:I i y)(round:∀i y,I i y->CD P C c y (CQ I μ i Q))(hp:CD P C (.loop c) x Q->p:=by exact lZ)(hw:Wk x y:=by exact aI):p:=hp (kS hw (KS I μ i h0 round))
theorem eH {e':TypeId} {tt len:Nat} {z:Value} (pl:List (Nat×D)) (pI:List Value) (ds:List D) (hz:∀w,(zeroValue e').run P w = .ok z w) (E:∀w,(underlying t).run P w = .ok (.slice e') w) (hs:∀w,(sizeOf e').run P w = .ok sz w)
  (k:∀b,OD P C ops l ⟨x.n,(tt,.v (.slice (some ⟨b,0,none⟩) len len))::x.env,⟨b,e',ds.length,ds⟩::x.S⟩ Q) (ho:o.op = .buildSlice t len ps.toArray:=by exact rfl) (hw:bV ops x o true:=by exact av) (j4:o.dst=some tt:=by exact rfl) (hl:Nat.ble 1 (len*sz)=true:=by exact rfl) (iu:Nat.ble (len*sz) (2 ^ 24)=true:=by exact rfl)
  (eM:(Array.range (len*sz)).map (fun i=>z.cells[i % z.cells.size]!)=pI.toArray:=by kernel_rfl) (iv:jK x ps pl:=by exact pb_) (hj:pl.all (fun p=>kV p.2)=true:=by exact rfl) (hd:nc (fun i=>some (i*sz,sz)) (pI.map .v) pl=some ds:=by exact ff_) (hne:isMap e'=false:=by exact rfl):OD P C ops (o::l) x Q:=ahh (hne:=hne) hw ho j4 hz E hs hl iu eM iv hj hd k
theorem oE {e':TypeId} {tt len:Nat} {z:Value} (pl:List (Nat×D)) (pI:List Value) (ds:List D) (hz:∀w,(zeroValue e').run P w = .ok z w) (E:∀w,(underlying t).run P w = .ok (.slice e') w) (hs:∀w,(sizeOf e').run P w = .ok sz w)
  (k:∀b,AD P C ops S1 T fuel (ld.setIfInBounds i true) ⟨x.n,(tt,.v (.slice (some ⟨b,0,none⟩) len len))::x.env,⟨b,e',ds.length,ds⟩::x.S⟩ Q) (hi:ops[i]?=some o:=by exact rfl) (ho:o.op = .buildSlice t len ps.toArray:=by exact rfl) (hw:bV ops x o true:=by exact av) (j4:o.dst=some tt:=by exact rfl) (hl:Nat.ble 1 (len*sz)=true:=by exact rfl) (iu:Nat.ble (len*sz) (2 ^ 24)=true:=by exact rfl)
  (eM:(Array.range (len*sz)).map (fun i=>z.cells[i % z.cells.size]!)=pI.toArray:=by kernel_rfl) (iv:jK x ps pl:=by exact pb_) (hj:pl.all (fun p=>kV p.2)=true:=by exact rfl) (hd:nc (fun i=>some (i*sz,sz)) (pI.map .v) pl=some ds:=by exact ff_) (hne:isMap e'=false:=by exact rfl):gQ P C ops S1 T fuel ld x Q i:=acP (hne:=hne) hi hw ho j4 hz E hs hl iu eM iv hj hd k
theorem aR (k:Nat) (cs':List D) {o' m:Nat} {d:D} {y z:Operand} (hn:∀w,(sizeOf t).run P w = .ok m w) (K:OD P C ops l ⟨x.n,x.env,x.S.set k {B with cs:=cs'}⟩ Q) (ho:o.op = .store t y z:=by exact rfl) (hw:bV ops x o true:=by exact av) (j4:o.dst=none:=by exact rfl) (hy:aD x y = .v (.pointer (some ⟨b,o',none⟩)):=by exact ot)
  (hk:x.S[k]?=some B:=by exact rfl) (hb:B.b=b:=by exact rfl) (hz:aD x z=d:=by first|exact ot|exact cf) (hj:kV d=true:=by exact rfl) (h1:(cellsOf d).all one=true:=by exact rfl) (gz:(cellsOf d).length=m:=by exact rfl) (hl:Nat.ble (o'+m) B.cs.length=true:=by exact rfl) (dz:dx B.cs o' (cellsOf d)=cs':=by exact rfl) (hne:isMap B.e=false:=by exact rfl):OD P C ops (o::l) x Q:=OD.store (hne:=hne) hw ho j4 hy hk hb hz hj h1 hn gz hl dz K
theorem ek (k:Nat) (cs':List D) {o' m:Nat} {d:D} {y z:Operand} (hn:∀w,(sizeOf t).run P w = .ok m w) (K:AD P C ops S1 T fuel (ld.setIfInBounds i true) ⟨x.n,x.env,x.S.set k {B with cs:=cs'}⟩ Q) (hi:ops[i]?=some o:=by exact rfl) (ho:o.op = .store t y z:=by exact rfl) (hw:bV ops x o true:=by exact av) (j4:o.dst=none:=by exact rfl) (hy:aD x y = .v (.pointer (some ⟨b,o',none⟩)):=by exact ot)
  (hk:x.S[k]?=some B:=by exact rfl) (hb:B.b=b:=by exact rfl) (hz:aD x z=d:=by first|exact ot|exact cf) (hj:kV d=true:=by exact rfl) (h1:(cellsOf d).all one=true:=by exact rfl) (gz:(cellsOf d).length=m:=by exact rfl) (hl:Nat.ble (o'+m) B.cs.length=true:=by exact rfl) (dz:dx B.cs o' (cellsOf d)=cs':=by exact rfl) (hT:∀b∈T,b∈aj (x.S.eraseIdx k):=by exact jb) (hne:isMap B.e=false:=by exact rfl):gQ P C ops S1 T fuel ld x Q i:=gQ.store (hne:=hne) hi hw ho j4 hy hk hb hz hj h1 hn gz hl dz hT K
theorem om_ {t:Nat} {d:D} {z:Operand} (K:OD P C ops l ⟨n,(t,d)::e,S⟩ Q) (ho:o.op = .move z\/o.op = .assign z:=by first|exact .inl rfl|exact .inr rfl) (hz:aD ⟨n,e,S⟩ z=d:=by first|exact ot|exact cf|exact u4|exact xX)
  (hw:bV ops ⟨n,e,S⟩ o true:=by first|exact so rfl|exact vk rfl rfl rfl lk jQ) (hd:o.dst=some t:=by exact rfl):OD P C ops (o::l) ⟨n,e,S⟩ Q:=pR hw hd (bJ ho hz) K
end V
end Go.Proofs.YtbplamgacibdaaaGreatDoor
