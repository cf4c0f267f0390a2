/-
  What the proof of BaseMay leans on, part 2 of 8: walks of the program's functions at the level of values, and plain facts of what they compute.
-/
import Derived.Test.YtbcmjoaggammcaaGreatDoorPBaseMay1
set_option linter.unusedVariables false
set_option linter.unusedSimpArgs false
set_option maxRecDepth 100000
set_option maxHeartbeats 4000000
namespace Go.Proofs.YtbcmjoaggammcaaGreatDoor.V
open List
open Go.RowKit
variable {P:Program} {C:dF} {G:List (Nat×List Value)} {Q:Exit→St→Prop} {x y:St} {ops:Array Oper} {l:List Oper} {o:Oper}
variable {t e:TypeId} {ps:List (Nat×Operand)} {pl:List (Nat×D)} {ds:List D} {sz i:Nat} {fo:Operand} {cW:Array Operand} {ts:Array TypeId} {α:Type} {lo hi:Option Operand}
theorem aa0{z:Operand}{d:D}(ho:o.op = .move z)(hd:aF x z=d):bV P G x o .none d:=hd ▸ YF ho
theorem aa1{z:Operand}{d:D}(ho:o.op = .assign z)(hd:aF x z=d):bV P G x o .none d:=hd ▸ X4 ho
theorem Yj{c y z:Operand}{t:Bool}{d:D}(ho:o.op = .pick c y z)(hc:aF x c = .v (.bool t))(h:t=true)(hd:aF x y=d):bV P G x o .none d:=by
 have:=N0 (P:=P) (G:=G) ho hc;rw[if_pos h,hd] at this;exact this
theorem Yk{c y z:Operand}{t:Bool}{d:D}(ho:o.op = .pick c y z)(hc:aF x c = .v (.bool t))(h:t=false)(hd:aF x z=d):bV P G x o .none d:=by
 have:=N0 (P:=P) (G:=G) ho hc;rw[if_neg (by rw[h];simp),hd] at this;exact this
def mA(x:St):List Operand→List D→Prop
 | [],[]=>True
 | o::r,d::r'=>aF x o=d∧mA x r r'
 | _,_=>False
theorem mA.eq:∀{os:List Operand} {ds:List D},mA x os ds→os.map (aF x)=ds
 | [],[],_=>rfl
 | o::r,d::r',h=>by rw[map_cons,h.1,mA.eq h.2]
 | [],_::_,h=>h.elim
 | _::_,[],h=>h.elim
def js(x:St):List (Nat×Operand)→List (Nat×D)→Prop
 | [],[]=>True
 | p::r,q::r'=>p.1=q.1∧aF x p.2=q.2∧js x r r'
 | _,_=>False
theorem js.eq:∀{ps:List (Nat×Operand)} {ds:List (Nat×D)},js x ps ds→lp x ps.toArray=ds
 | [],[],_=>rfl
 | p::r,(i,d)::r',h=>by
  have:=js.eq h.2.2;simp only[lp,map_cons] at this ⊢;rw[this,h.1,h.2.1]
 | [],_::_,h=>h.elim
 | _::_,[],h=>h.elim
def kz:D→Bool
 | .bU=>false
 | _=>true
theorem At{ps:List (Nat×D)}(h:ps.all (fun p=>kz p.2)=true):∀p∈ps,p.2≠.bU:=fun p hp he=>by
 have:=all_eq_true.1 h p hp;rw[he] at this;cases this
theorem nq {E:Array Field} {places:Array (Nat×Nat)} {z:Value} (ho:o.op = .build t ps.toArray) (hz:∀w,(zeroValue t).run P w = .ok z w)
  (I:∀w,(underlying t).run P w = .ok (.struct E) w) (hp:∀w,(E.mapM fun f=>do pure (f.offset,←sizeOf f.type):Sem (Array (Nat×Nat))).run P w = .ok places w)
  (gM:js x ps pl) (hj:pl.all (fun p=>kz p.2)=true) (hd:lW (places[·]?) (z.cells.toList.map .v) pl=some ds):bV P G x o .none (.agg ds):=by
 refine Yi ho hz I hp ?_ ?_
 ·rw[gM.eq];exact At hj
 rw[gM.eq];exact hd
theorem DI {n:Nat} {z:Value} (ho:o.op = .build t ps.toArray) (hz:∀w,(zeroValue t).run P w = .ok z w)
  (E:∀w,(underlying t).run P w = .ok (.array n e) w) (hs:∀w,(sizeOf e).run P w = .ok sz w)
  (gM:js x ps pl) (hj:pl.all (fun p=>kz p.2)=true) (hd:lW (fun i=>some (i*sz,sz)) (z.cells.toList.map .v) pl=some ds):bV P G x o .none (.agg ds):=by
 refine X8 ho hz E hs ?_ ?_
 ·rw[gM.eq];exact At hj
 rw[gM.eq];exact hd
def bZ(k:Nat):List D→List (Nat×D)
 | []=>[]
 | d::r=>(k,d)::bZ (k+1) r
theorem Ot:∀(ds pre post:List D),ds.length≤post.length→da (pre++post) pre.length ds=(pre++ds)++post.drop ds.length
 | [],pre,post,_=>by simp[da]
 | d::ds,pre,[],h=>by simp at h
 | d::ds,pre,p::post,h=>by
  rw[da,show(pre++p::post).set pre.length d=(pre++[d])++post by simp,show pre.length+1=(pre++[d]).length by simp,Ot ds (pre++[d]) post oJ];simp
theorem Rn{sz:Nat}:∀(pd:List D) (k:Nat) (pre post:List D),(pd.all fun d=>Nat.beq (cellsOf d).length sz)=true→pre.length=k*sz→post.length=pd.length*sz→lW (fun i=>some (i*sz,sz)) (pre++post) (bZ k pd)=some (pre++pd.flatMap cellsOf)
 | [],k,pre,post,_,_,h=>by
  have:post=[]:=length_eq_zero_iff.1 oJ;simp[bZ,lW,this]
 | d::r,k,pre,post,ha,h1,h2=>by
  rw[all_cons,Bool.and_eq_true] at ha;have hd:(cellsOf d).length=sz:=Nat.eq_of_beq_eq_true ha.1;have hp:post.length=r.length*sz+sz:=(by rw[h2,length_cons,Nat.succ_mul])
  rw[bZ,lW];simp only;rw[if_neg (by simp only[hd,length_append,h1,hp,ne_eq,not_true_eq_false,decide_false,Bool.false_or,decide_eq_true_eq];omega),←h1,Ot _ _ _ w4,Rn r (k+1) _ _ ha.2 (by rw[length_append,hd,h1,Nat.succ_mul]) (by rw[length_drop,hd];omega),flatMap_cons];simp
theorem Ou{pd zs:List D}(ha:(pd.all fun d=>Nat.beq (cellsOf d).length sz)=true)(hl:Nat.beq zs.length (pd.length*sz)=true)(jm:pd.flatMap cellsOf=ds):lW (fun i=>some (i*sz,sz)) zs (bZ 0 pd)=some ds:=by
 have:=Rn pd 0 [] zs ha bq (Nat.eq_of_beq_eq_true hl);rw[nil_append,nil_append,jm] at this;exact this
theorem OD.KD {tt len:Nat} {z:Value} {oc:List Value} (hw:cc ops x o true) (ho:o.op = .buildSlice t len ps.toArray) (ju:o.dst=some tt) (hz:∀w,(zeroValue e).run P w = .ok z w)
  (E:∀w,(underlying t).run P w = .ok (.slice e) w) (hs:∀w,(sizeOf e).run P w = .ok sz w) (hl:Nat.ble 1 (len*sz)=true) (ir:Nat.ble (len*sz) (2 ^ 24)=true) (eV:(Array.range (len*sz)).map (fun i=>z.cells[i % z.cells.size]!)=oc.toArray)
  (gM:js x ps pl) (hj:pl.all (fun p=>kz p.2)=true) (hd:lW (fun i=>some (i*sz,sz)) (oc.map .v) pl=some ds)
  (k:∀b,OD P C ops l ⟨x.n,(tt,.v (.slice (some ⟨b,0,none⟩) len len))::x.env,⟨b,e,ds.length,ds⟩::x.S⟩ Q) (hne:isMap e=false:=by rfl):OD P C ops (o::l) x Q:=by
 refine OD.fQ hw (GZ (hne:=hne) (zs:=oc.map .v) (ds:=ds) ho ju hz E hs (Nat.le_of_ble_eq_true hl) (Nat.le_of_ble_eq_true ir) ?_ ?_ ?_ ?_) ?_
 ·rw[eV];congr 1;rw[map_map];exact(map_id oc).symm
 ·intro d hd;obtain⟨u,_,rfl⟩:=mem_map.1 hd;exact⟨u,rfl⟩
 ·rw[gM.eq];exact At hj
 ·rw[gM.eq];exact hd
 rintro _ ⟨b,rfl⟩;exact k b
theorem OD.alloc {e:TypeId} {z:Value} {t:Nat} {ds:List D} (hw:cc ops x o true) (ho:o.op = .alloc e) (hd:o.dst=some t) (hz:∀w,(zeroValue e).run P w = .ok z w) (jm:z.cells.toList.map .v=ds)
  (k:∀b,OD P C ops l ⟨x.n,(t,.v (.pointer (some ⟨b,0,none⟩)))::x.env,⟨b,e,ds.length,ds⟩::x.S⟩ Q) (hne:isMap e=false:=by rfl):OD P C ops (o::l) x Q :=
 OD.fQ hw (Ax (hne:=hne) ho hd hz jm) fun y ⟨b,hy⟩=>hy ▸ k b
theorem OD.box {e:TypeId} {z:Operand} {t:Nat} {d:D} {ds:List D} (hw:cc ops x o true) (ho:o.op = .box e z) (hd:o.dst=some t) (hy:aF x z=d) (hj:kz d=true) (jm:cellsOf d=ds)
  (k:∀b,OD P C ops l ⟨x.n,(t,.v (.pointer (some ⟨b,0,none⟩)))::x.env,⟨b,e,ds.length,ds⟩::x.S⟩ Q) (hne:isMap e=false:=by rfl):OD P C ops (o::l) x Q :=
 OD.fQ hw (acF (hne:=hne) ho hd hy (fun h=>by rw[h] at hj;cases hj) jm) fun y ⟨b,hy⟩=>hy ▸ k b
theorem OD.store {t:TypeId} {k b o' n:Nat} {B:ag} {d:D} {cs':List D} {y z:Operand} (hw:cc ops x o true) (ho:o.op = .store t y z) (ju:o.dst=none) (hy:aF x y = .v (.pointer (some ⟨b,o',none⟩)))
  (hk:x.S[k]?=some B) (hb:B.b=b) (hz:aF x z=d) (hj:kz d=true) (h1:(cellsOf d).all one=true) (hn:∀w,(sizeOf t).run P w = .ok n w) (fY:(cellsOf d).length=n) (hl:Nat.ble (o'+n) B.cs.length=true) (dw:da B.cs o' (cellsOf d)=cs')
  (K:OD P C ops l ⟨x.n,x.env,x.S.set k {B with cs:=cs'}⟩ Q) (hne:isMap B.e=false:=by rfl):OD P C ops (o::l) x Q :=
 OD.fQ hw (DU (hne:=hne) ho ju hy hk hb hz (fun h=>by rw[h] at hj;cases hj) h1 hn fY (Nat.le_of_ble_eq_true hl) dw) fun y hy=>hy ▸ K
theorem OD.call {f t:Nat} {fo:Operand} {cW:Array Operand} {ts:Array TypeId} {args:List D} {Sf R:List ag} {post:D→List ag→Prop} (hw:cc ops x o true) (ho:o.op = .call {callee:=.value fo,args:=cW,argTypes:=ts}) (hd:o.dst=some t)
  (hf:fo = .func f) (fi:∀args w,(callFunc f args).run P w = .ok (.enter f args) w) (hc:VC P C.G f args Sf post) (ha:mA x cW.toList args) (hp:x.S.Perm (Sf++R))
  (K:∀r S',post r S'→OD P C ops l ⟨x.n,(t,r)::x.env,S'++R⟩ Q):OD P C ops (o::l) x Q :=
 OD.fQ hw (AK ho hd hf fi ha.eq hp hc) fun y ⟨r,S',h,hy⟩=>hy ▸ K r S' h
theorem OD.gI {f t:Nat} {args:List D} {r:D} (hw:cc ops x o true) (ho:o.op = .call {callee:=.value fo,args:=cW,argTypes:=ts}) (hd:o.dst=some t)
  (hf:fo = .func f) (fi:∀args w,(callFunc f args).run P w = .ok (.enter f args) w) (hc:VP P C.G f args r) (ha:mA x cW.toList args)
  (K:OD P C ops l (x.put t r) Q):OD P C ops (o::l) x Q :=
 OD.call hw ho hd hf fi hc ha (eN _) fun E S' ⟨h1,h2⟩=>by subst h1 h2;exact K
theorem OD.j4 {f t:Nat} {args E all:List D} {Sf R:List ag} {post:D→List ag→Prop} (hw:cc ops x o true) (ho:o.op = .call {callee:=.value fo,args:=cW,argTypes:=ts}) (hd:o.dst=some t)
  (hf:aF x fo = .ek (.func f) E) (fi:∀args w,(callFunc f args).run P w = .ok (.enter f args) w) (hc:VC P C.G f all Sf post) (fa:args++E=all) (ha:mA x cW.toList args) (hp:x.S.Perm (Sf++R))
  (K:∀r S',post r S'→OD P C ops l ⟨x.n,(t,r)::x.env,S'++R⟩ Q):OD P C ops (o::l) x Q :=
 OD.fQ hw (Zz ho hd hf fi (by rw[ha.eq,fa]) hp hc) fun y ⟨r,S',h,hy⟩=>hy ▸ K r S' h
theorem OD.append {s y:Operand} {t e tt sz bytes n m b cap k:Nat} {z:Value} {B:ag} {cs:List D} (hw:cc ops x o true) (ho:o.op = .call {callee:=.builtin .append,args:=#[s,y],argTypes:=#[t,t]}) (hd:o.dst=some tt)
  (ht:P.underlying t=some (.slice e)) (hi:(P.info? e).map (fun i=>(i.zero,i.size,i.bytes))=some (some z,sz,bytes)) (eV:z.cells.size=sz) (gX:0<sz)
  (hs:aF x s = .v (.slice (some ⟨b,0,none⟩) n cap)) (hk:x.S[k]?=some B) (hb:B.b=b) (he:B.e=e) (O:B.size=cap*sz) (hl:B.cs.length=n*sz) (hn:n≤cap) (U:cap≤maxLen)
  (hy:aF x y = .list sz cs m) (ie:∀d∈cs,one d=true) (hm:0<m) (gj:n+m≤maxLen) (I:(n+m)*bytes≤140737488355328)
  (K:∀Z E,n+m≤E→E≤maxLen→OD P C ops l ⟨x.n,(tt,.v (.slice (some ⟨Z,0,none⟩) (n+m) E))::x.env,⟨Z,e,E*sz,B.cs++cs⟩::x.S.eraseIdx k⟩ Q) (hne:isMap B.e=false:=by rfl):OD P C ops (o::l) x Q :=
 OD.fQ hw (N3 (hne:=hne) ho hd ht hi eV gX hs hk hb he O hl hn U hy ie hm gj I) fun y ⟨Z,E,h1,h2,hy⟩=>hy ▸ K Z E h1 h2
theorem OD.Hx {s y:Operand} {t e tt bytes m:Nat} {z:Value} {cs:List D} (hw:cc ops x o true) (ho:o.op = .call {callee:=.builtin .append,args:=#[s,y],argTypes:=#[t,t]}) (hd:o.dst=some tt)
  (ht:P.underlying t=some (.slice e)) (hi:(P.info? e).map (fun i=>(i.zero,i.size,i.bytes))=some (some z,sz,bytes)) (eV:z.cells.size=sz) (U:0<sz)
  (hs:aF x s = .v (.slice none 0 0)) (hy:aF x y = .list sz cs m) (ie:∀d∈cs,one d=true) (hm:0<m) (Z:m≤maxLen) (I:m*bytes≤140737488355328)
  (K:∀O E,m≤E→E≤maxLen→OD P C ops l ⟨x.n,(tt,.v (.slice (some ⟨O,0,none⟩) m E))::x.env,⟨O,e,E*sz,cs⟩::x.S⟩ Q) (hne:isMap e=false:=by rfl):OD P C ops (o::l) x Q :=
 OD.fQ hw (NC (hne:=hne) ho hd ht hi eV U hs hy ie hm Z I) fun y ⟨O,E,h1,h2,hy⟩=>hy ▸ K O E h1 h2
theorem OD.split{t:Nat}{b:Bool}(hb:look t x.env = .v (.bool b))(h1:b=true→OD P C ops l x Q)(h2:b=false→OD P C ops l x Q):OD P C ops l x Q:=by
 cases h:b
 ·exact h2 h
 exact h1 h
theorem XP{z:Operand}{a':Addr}(ho:o.op = .nilCheck z)(hz:aF x z = .v (.pointer (some a'))):bV P G x o .none (.v (.pointer (some a'))):=fun C a w _ h =>
 ⟨_,.v _,fun w' _=>by unfold execOp;simp only[ho,h.flat hz];rfl⟩
theorem XO{z:Operand}{cs:List D}{off:Nat}(ho:o.op = .nilCheck z)(hz:aF x z = .fx cs off):bV P G x o .none (.fx cs off):=fun C a w _ h=>by
 have hr:=h.eval z;rw[hz] at hr;generalize hg:a.eval z=u at hr;cases hr with
 | fx _ _ b E g hb hL hc I=>exact⟨_,.fx cs off b E g hb hL hc I,fun w' _=>by unfold execOp;simp only[ho,hg];rfl⟩
theorem oW{fn:Fn}{E:Array Operand}(ho:o.op = .makeFunc fn #[] E)(hd:mA x E.toList ds):bV P G x o .none (.ek fn ds):=YI ho hd.eq
/-! ### Lists of structs -/
theorem cq{α:Type}{g:α→List D}{sz:Nat}(hg:∀a,(g a).length=sz):∀(ls:List α),(ls.flatMap g).length=ls.length*sz
 | []=>by simp
 | a::r=>by rw[flatMap_cons,length_append,hg,cq hg r,length_cons,Nat.add_mul];omega
theorem uG{α:Type}{g:α→List D}{sz:Nat}(hg:∀a,(g a).length=sz):∀(ls:List α) (i:Nat),(ls.flatMap g).drop (i*sz)=(ls.drop i).flatMap g
 | [],i=>by simp
 | a::r,0=>by simp
 | a::r,i+1=>by
  rw[flatMap_cons,drop_succ_cons,←uG hg r i,Nat.add_mul,Nat.one_mul,Nat.add_comm,←drop_drop];congr 1;rw[←hg a,drop_left]
theorem tq{α:Type}{g:α→List D}{sz:Nat}(hg:∀a,(g a).length=sz):∀(ls:List α) (i:Nat),(ls.flatMap g).take (i*sz)=(ls.take i).flatMap g
 | [],i=>by simp
 | a::r,0=>by simp
 | a::r,i+1=>by
  rw[flatMap_cons,take_succ_cons,flatMap_cons,←tq hg r i,Nat.add_mul,Nat.one_mul,Nat.add_comm,←hg a,take_length_add_append]
theorem Fb{g:α→List D}(hg:∀a,(g a).length=sz){ls:List α}(hi:i<ls.length):((ls.flatMap g).drop (i*sz)).take sz=g ls[i]:=by
 rw[uG hg,drop_eq_getElem_cons hi,flatMap_cons,←hg ls[i],take_left]
theorem yA{g:α→List D}(hg:∀a,(g a).length=sz){ls:List α}{j:Nat}{d:D}(hi:i<ls.length)(hd:(g ls[i])[j]?=some d):(ls.flatMap g)[i*sz+j]?=some d:=by
 have h:=Fb hg hi;have hj:=(List.getElem?_eq_some_iff.1 hd).1;rw[hg] at hj;rw[←hd,←h,getElem?_take_of_lt hj,getElem?_drop]
theorem H7{g:α→List D}(hg:∀a,(g a).length=sz){ls:List α}{d:D}(hi:i<ls.length)(hd:(g ls[i])[0]?=some d):(ls.flatMap g)[i*sz]?=some d:=yA hg hi hd
theorem tE{g:α→List D}(hg:∀a,(g a).all one=true)(ls:List α):∀d∈ls.flatMap g,one d=true:=fun d hd=>by
 obtain⟨a,_,h⟩:=mem_flatMap.1 hd;exact all_eq_true.1 (hg a) d h
theorem Yl {g:α→List D} {h':Nat} (hg:∀a,(g a).length=sz) {ls:List α} {y:Operand} (ho:o.op = .slice t y lo hi none) (hy:aF x y = .list sz (ls.flatMap g) ls.length) (eT:mu x lo 0 0) (eu:mu x hi h' ls.length)
  (E:∀w,(underlying t).run P w = .ok (.slice e) w) (hs:∀w,(sizeOf e).run P w = .ok sz w) (h2:h'≤ls.length):bV P G x o .none (.list sz ((ls.take h').flatMap g) (ls.take h').length):=by
 have:=G3 (P:=P) (G:=G) ho hy eT eu E hs (Nat.zero_le _) h2;rw[Nat.zero_mul,drop_zero,Nat.sub_zero,tq hg] at this;rw[length_take,Nat.min_eq_left h2];exact this
theorem Ym {g:α→List D} {l':Nat} (hg:∀a,(g a).length=sz) {ls:List α} {y:Operand} (ho:o.op = .slice t y lo hi none) (hy:aF x y = .list sz (ls.flatMap g) ls.length) (eT:mu x lo l' 0) (eu:mu x hi ls.length ls.length)
  (E:∀w,(underlying t).run P w = .ok (.slice e) w) (hs:∀w,(sizeOf e).run P w = .ok sz w) (h2:l'≤ls.length):bV P G x o .none (.list sz ((ls.drop l').flatMap g) (ls.drop l').length):=by
 have:=G3 (P:=P) (G:=G) ho hy eT eu E hs h2 (Nat.le_refl _);rw[uG hg,take_of_length_le (by rw[cq hg,length_drop];exact Nat.le_refl _)] at this;rw[length_drop];exact this

end Go.Proofs.YtbcmjoaggammcaaGreatDoor.V
namespace Go.Proofs.YtbcmjoaggammcaaGreatDoor.V
open List
open Go.RowKit
variable {P:Program} {C:dF} {Q:Exit→St→Prop} {x:St} {ops:Array Oper} {o:Oper} {S1 T:List Nat} {fuel i:Nat} {ld:Array Bool}
variable {k t:Nat} {B:ag}
theorem AU{S:List ag}(hk:S[k]?=some B):B.b∈ap S:=mem_map.2 ⟨B,mem_of_getElem? hk,rfl⟩
theorem pU{S:List ag}{k0:Nat}(hk:x.S[k]?=some B)(h0:S[k0]?=some B):Safe x (ap S) (.fu k):=⟨B,hk,AU h0⟩
theorem AD.split{b:Bool}(hb:look t x.env = .v (.bool b))(h1:b=true→AD P C ops S1 T fuel ld x Q)(h2:b=false→AD P C ops S1 T fuel ld x Q):AD P C ops S1 T fuel ld x Q:=by
 cases h:b
 ·exact h2 h
 exact h1 h
theorem dm.split{b:Bool}(hb:look t x.env = .v (.bool b))(h1:b=true→dm P C ops S1 T fuel ld x Q)(h2:b=false→dm P C ops S1 T fuel ld x Q):dm P C ops S1 T fuel ld x Q:=by
 cases h:b
 ·exact h2 h
 exact h1 h
theorem bg.FH{post:St→Prop}(hi:ops[i]?=some o)(hw:cc ops x o true)(h:fJ P C.G x o [] post)(k:∀y,post y→AD P C ops S1 T fuel (ld.setIfInBounds i true) y Q):bg P C ops S1 T fuel ld x Q i :=
 bg.fQ hi hw h (fun _ _ _ _ _ _ hb=>by simp at hb) (fun _ hb=>by simp at hb) k
theorem FI{C:dF}{a:Act}{w:World}(h:bG C x a w)(hk:x.S[k]?=some B)(hT:∀b∈T,b∈ap (x.S.eraseIdx k)):∀b∈T,b∉[B.b]:=fun b hb hm=>by
 have hp:(ap x.S).Perm (B.b::ap (x.S.eraseIdx k)):=(by have:=(uA hk).map ag.b;simpa[ap] using this)
 have hn:=(nodup_cons.1 (hp.nodup_iff.1 h.own.apart)).1;have:b=B.b:=(by simpa using hm)
 exact hn (this ▸ hT b hb)
theorem bg.alloc {e:TypeId} {z:Value} {t:Nat} {ds:List D} (hi:ops[i]?=some o) (hw:cc ops x o true) (ho:o.op = .alloc e) (hd:o.dst=some t) (hz:∀w,(zeroValue e).run P w = .ok z w) (jm:z.cells.toList.map .v=ds)
  (k:∀b,AD P C ops S1 T fuel (ld.setIfInBounds i true) ⟨x.n,(t,.v (.pointer (some ⟨b,0,none⟩)))::x.env,⟨b,e,ds.length,ds⟩::x.S⟩ Q) (hne:isMap e=false:=by rfl):bg P C ops S1 T fuel ld x Q i :=
 bg.FH hi hw (Ax (hne:=hne) ho hd hz jm) fun y ⟨b,hy⟩=>hy ▸ k b
theorem bg.KD {t e:TypeId} {tt len sz:Nat} {ps:List (Nat×Operand)} {pl:List (Nat×D)} {z:Value} {oc:List Value} {ds:List D} (hi:ops[i]?=some o) (hw:cc ops x o true) (ho:o.op = .buildSlice t len ps.toArray) (ju:o.dst=some tt) (hz:∀w,(zeroValue e).run P w = .ok z w)
  (E:∀w,(underlying t).run P w = .ok (.slice e) w) (hs:∀w,(sizeOf e).run P w = .ok sz w) (hl:Nat.ble 1 (len*sz)=true) (ir:Nat.ble (len*sz) (2 ^ 24)=true) (eV:(Array.range (len*sz)).map (fun i=>z.cells[i % z.cells.size]!)=oc.toArray)
  (gM:js x ps pl) (hj:pl.all (fun p=>kz p.2)=true) (hd:lW (fun i=>some (i*sz,sz)) (oc.map .v) pl=some ds)
  (k:∀b,AD P C ops S1 T fuel (ld.setIfInBounds i true) ⟨x.n,(tt,.v (.slice (some ⟨b,0,none⟩) len len))::x.env,⟨b,e,ds.length,ds⟩::x.S⟩ Q) (hne:isMap e=false:=by rfl):bg P C ops S1 T fuel ld x Q i:=by
 refine bg.FH hi hw (GZ (hne:=hne) (zs:=oc.map .v) (ds:=ds) ho ju hz E hs (Nat.le_of_ble_eq_true hl) (Nat.le_of_ble_eq_true ir) ?_ ?_ ?_ ?_) ?_
 ·rw[eV];congr 1;rw[map_map];exact(map_id oc).symm
 ·intro d hd;obtain⟨u,_,rfl⟩:=mem_map.1 hd;exact⟨u,rfl⟩
 ·rw[gM.eq];exact At hj
 ·rw[gM.eq];exact hd
 rintro _ ⟨b,rfl⟩;exact k b
theorem bg.store {t:TypeId} {k b o' n:Nat} {B:ag} {d:D} {cs':List D} {y z:Operand} (hi:ops[i]?=some o) (hw:cc ops x o true) (ho:o.op = .store t y z) (ju:o.dst=none) (hy:aF x y = .v (.pointer (some ⟨b,o',none⟩)))
  (hk:x.S[k]?=some B) (hb:B.b=b) (hz:aF x z=d) (hj:kz d=true) (h1:(cellsOf d).all one=true) (hn:∀w,(sizeOf t).run P w = .ok n w) (fY:(cellsOf d).length=n) (hl:Nat.ble (o'+n) B.cs.length=true) (dw:da B.cs o' (cellsOf d)=cs')
  (hT:∀b∈T,b∈ap (x.S.eraseIdx k))
  (K:AD P C ops S1 T fuel (ld.setIfInBounds i true) ⟨x.n,x.env,x.S.set k {B with cs:=cs'}⟩ Q) (hne:isMap B.e=false:=by rfl):bg P C ops S1 T fuel ld x Q i :=
 bg.fQ hi hw (DU (hne:=hne) ho ju hy hk hb hz (fun h=>by rw[h] at hj;cases hj) h1 hn fY (Nat.le_of_ble_eq_true hl) dw) (fun C a w hs I E=>hb ▸ FI hs hk hT I E) (fun I E=>by
  have:I=b:=(by simpa using E)
  subst this;rw[←hb];exact AU hk) fun y hy=>hy ▸ K
theorem bg.gI {f:Nat} {fo:Operand} {cW:Array Operand} {ts:Array TypeId} {args:List D} {r:D} (hi:ops[i]?=some o) (hw:cc ops x o true) (ho:o.op = .call {callee:=.value fo,args:=cW,argTypes:=ts}) (hd:o.dst=some t)
  (hf:fo = .func f) (fi:∀args w,(callFunc f args).run P w = .ok (.enter f args) w) (hc:VP P C.G f args r) (ha:mA x cW.toList args)
  (K:AD P C ops S1 T fuel (ld.setIfInBounds i true) (x.put t r) Q):bg P C ops S1 T fuel ld x Q i :=
 bg.FH hi hw (AK ho hd hf fi ha.eq (eN _) hc) fun y ⟨E,S',⟨h1,h2⟩,hy⟩=>by subst h1 h2;exact hy ▸ K
theorem bg.call {f t:Nat} {fo:Operand} {cW:Array Operand} {ts:Array TypeId} {args:List D} {Sf R:List ag} {post:D→List ag→Prop} (hi:ops[i]?=some o) (hw:cc ops x o true) (ho:o.op = .call {callee:=.value fo,args:=cW,argTypes:=ts}) (hd:o.dst=some t)
  (hf:fo = .func f) (fi:∀args w,(callFunc f args).run P w = .ok (.enter f args) w) (hc:VC P C.G f args Sf post) (ha:mA x cW.toList args) (hp:x.S.Perm (Sf++R)) (hT:∀b∈T,b∈ap R)
  (K:∀r S',post r S'→AD P C ops S1 T fuel (ld.setIfInBounds i true) ⟨x.n,(t,r)::x.env,S'++R⟩ Q):bg P C ops S1 T fuel ld x Q i :=
 bg.fQ hi hw (AK ho hd hf fi ha.eq hp hc) (fun C a w hs b hb hm=>by
  have h1:(ap x.S).Perm (ap Sf++ap R):=(by have:=hp.map ag.b;simpa[ap] using this)
  have h2:=h1.nodup_iff.1 hs.own.apart;exact(nodup_append.1 h2).2.2 b hm b (hT b hb) rfl) (fun b hb=>by
  have h1:(ap x.S).Perm (ap Sf++ap R):=(by have:=hp.map ag.b;simpa[ap] using this)
  exact h1.symm.subset (mem_append_left _ hb)) fun y ⟨r,S',h,hy⟩=>hy ▸ K r S' h
theorem bg.append {s y:Operand} {t e tt sz bytes n m b cap k:Nat} {z:Value} {B:ag} {cs:List D} (Aa:ops[i]?=some o) (hw:cc ops x o true) (ho:o.op = .call {callee:=.builtin .append,args:=#[s,y],argTypes:=#[t,t]}) (hd:o.dst=some tt)
  (ht:P.underlying t=some (.slice e)) (hi:(P.info? e).map (fun i=>(i.zero,i.size,i.bytes))=some (some z,sz,bytes)) (eV:z.cells.size=sz) (gX:0<sz)
  (hs:aF x s = .v (.slice (some ⟨b,0,none⟩) n cap)) (hk:x.S[k]?=some B) (hb:B.b=b) (he:B.e=e) (U:B.size=cap*sz) (hl:B.cs.length=n*sz) (hn:n≤cap) (pz:cap≤maxLen)
  (hy:aF x y = .list sz cs m) (ie:∀d∈cs,one d=true) (hm:0<m) (gj:n+m≤maxLen) (I:(n+m)*bytes≤140737488355328) (hT:∀b∈T,b∈ap (x.S.eraseIdx k))
  (K:∀O E,n+m≤E→E≤maxLen→AD P C ops S1 T fuel (ld.setIfInBounds i true) ⟨x.n,(tt,.v (.slice (some ⟨O,0,none⟩) (n+m) E))::x.env,⟨O,e,E*sz,B.cs++cs⟩::x.S.eraseIdx k⟩ Q) (hne:isMap B.e=false:=by rfl):bg P C ops S1 T fuel ld x Q i :=
 bg.fQ Aa hw (N3 (hne:=hne) ho hd ht hi eV gX hs hk hb he U hl hn pz hy ie hm gj I) (fun C a w hs O Z=>hb ▸ FI hs hk hT O Z) (fun O Z=>by
  have:O=b:=(by simpa using Z)
  subst this;rw[←hb];exact AU hk) fun y ⟨O,E,h1,h2,hy⟩=>hy ▸ K O E h1 h2
theorem bg.Hx {s y:Operand} {e tt sz bytes m:Nat} {z:Value} {cs:List D} (U:ops[i]?=some o) (hw:cc ops x o true) (ho:o.op = .call {callee:=.builtin .append,args:=#[s,y],argTypes:=#[t,t]}) (hd:o.dst=some tt)
  (ht:P.underlying t=some (.slice e)) (hi:(P.info? e).map (fun i=>(i.zero,i.size,i.bytes))=some (some z,sz,bytes)) (eV:z.cells.size=sz) (Z:0<sz)
  (hs:aF x s = .v (.slice none 0 0)) (hy:aF x y = .list sz cs m) (ie:∀d∈cs,one d=true) (hm:0<m) (gj:m≤maxLen) (I:m*bytes≤140737488355328)
  (K:∀O E,m≤E→E≤maxLen→AD P C ops S1 T fuel (ld.setIfInBounds i true) ⟨x.n,(tt,.v (.slice (some ⟨O,0,none⟩) m E))::x.env,⟨O,e,E*sz,cs⟩::x.S⟩ Q) (hne:isMap e=false:=by rfl):bg P C ops S1 T fuel ld x Q i :=
 bg.FH U hw (NC (hne:=hne) ho hd ht hi eV Z hs hy ie hm gj I) fun y ⟨O,E,h1,h2,hy⟩=>hy ▸ K O E h1 h2

end Go.Proofs.YtbcmjoaggammcaaGreatDoor.V
namespace Go.Proofs.YtbcmjoaggammcaaGreatDoor.V
open List
open Go.RowKit
variable {P:Program} {C:dF} {G:List (Nat×List Value)} {Q:Exit→St→Prop} {x:St} {ops:Array Oper} {l:List Oper} {o:Oper} {S1 T:List Nat} {fuel i:Nat} {ld:Array Bool}
variable {S Sq R:List ag} {sz k n cap b tt:Nat} {B:ag} {t e:TypeId} {y:Operand} {ad:Option Addr} {cs':List D}
def View(S:List ag)(d d':D):Prop:=∀(X Y:Nat→Prop) w v,(∀b,Y b→X b)→(∀b,X b→b∉ap S)→Own w (live X S) S→cl w (live X S) d v→cl w Y d' v
theorem cl.bare{w:World}{X Y:Nat→Prop}{d:D}{v:Value}(h:cl w (live X S) d v)(E:∀b,Y b→X b):cl w Y d v:=h.mono fun b _ hn=>⟨rfl,fun hy=>hn (.inl (E b hy))⟩
theorem eP{d:D}:View S d d:=fun X Y w v E _ _ h=>h.bare E
theorem yh:View S (.v (.slice none 0 0)) (.list sz [] 0):=fun X Y w v _ _ _ h=>by rw[h.kD];exact .nil sz
theorem aa2{cs:List D}(hk:S[k]?=some B)(hb:B.b=b)(dw:B.cs=cs)(hl:cs.length=n*sz)(h1:n≤cap)(h2:cap≤maxLen)(hne:isMap B.e=false:=by rfl):View S (.v (.slice (some ⟨b,0,none⟩) n cap)) (.list sz cs n):=fun X Y w v E O ho h=>by
 subst hb dw;rw[h.kD];obtain⟨r0,cur,r1,r2,U,I⟩:=ho.at_ B (mem_of_getElem? hk);rw[jY hne] at r1;refine .list sz B.cs n B.b 0 cap (fun i=>cur.getD i undef) hl h1 h2 r0 (fun hy=>O _ (E _ hy) (mem_map.2 ⟨B,mem_of_getElem? hk,rfl⟩)) (fun i hi=>?_) (fun i hi=>?_)
 ·obtain⟨u,hu,_⟩:=I i hi;rw[Nat.zero_add,nK r1 hu];simp[hu]
 obtain⟨u,hu,hq⟩:=I i hi;simp only[Array.getD_eq_getD_getElem?,hu,Option.getD_some];exact hq.bare E
def gv(S:List ag):List D→List D→Prop
 | [],[]=>True
 | d::r,d'::r'=>View S d d'∧gv S r r'
 | _,_=>False
theorem gv.spec{S:List ag}:∀{ds E:List D},gv S ds E→ds.length=E.length∧∀i (h:i<ds.length) (h':i<E.length),View S ds[i] E[i]
 | [],[],_=>⟨rfl,fun i h=>by simp at h⟩
 | d::r,d'::r',h=>⟨by simp[(gv.spec h.2).1],fun i h1 h2=>by
  cases i with
  | zero=>exact h.1
  | succ i=>exact(gv.spec h.2).2 i _ _⟩
 | [],_::_,h=>h.elim
 | _::_,[],h=>h.elim
theorem uD{ds E:List D}(h:gv S ds E):View S (.agg ds) (.agg E):=fun X Y w v O U ho hr=>by
 obtain⟨h1,h2⟩:=h.spec;cases hr with
 | agg _ vs hl I=>exact .agg E vs w4 fun i q1 q2=>h2 i w4 q1 X Y w _ O U ho (I i w4 q2)
def Looks(x:St):List Operand→List D→Prop
 | [],[]=>True
 | o::r,d::r'=>(∃d0,aF x o=d0∧View x.S d0 d)∧Looks x r r'
 | _,_=>False
theorem Looks.Cr{C:dF}{a:Act}{w:World}(h:bG C x a w):∀{os:List Operand} {ds:List D},Looks x os ds→cH w (fun _=>False) ds (os.map a.eval)
 | [],[],_=>⟨rfl,fun i h=>by simp at h⟩
 | o::r,d::r',⟨⟨d0,h1,h2⟩,h3⟩=>cH.cons (h2 _ _ _ _ (fun _ hf=>hf.elim) h.Ab h.own (h1 ▸ h.eval o)) (Looks.Cr h h3)
 | [],_::_,h=>h.elim
 | _::_,[],h=>h.elim
theorem Ef{ds E:List D}(h:gv S ds E):View S (.dz ds) (.dz E):=fun X Y w v O U ho hr=>by
 obtain⟨h1,h2⟩:=h.spec;cases hr with
 | dz _ vs hl I=>exact .dz E vs w4 fun i q1 q2=>h2 i w4 q1 X Y w _ O U ho (I i w4 q2)
theorem VC.cover{f:FuncId}{args:List D}{post:D→List ag→Prop}{E:D}(h:VC P G f args [] post)(I:∀r S',post r S'→View S' r E):VP P G f args E:=fun X w vs hp =>
 (h X w vs hp).mono fun e w' ⟨v,r,S',h1,h2,h3,h4,h5⟩=>by
  have O:∀b,X b→b∉ap S':=fun b hb=>(h5.block b (hp.ex b hb).1 (hp.ex b hb).2).2;refine⟨v,E,[],h1,⟨rfl,rfl⟩,⟨fun B U=>by simp at U,by simp[ap]⟩,I r S' h2 X _ w' v (fun b hb=>?_) O h3 h4,⟨h5.os,h5.tape,h5.output,h5.size,fun b hb hn=>⟨(h5.block b hb hn).1,by simp[ap]⟩⟩⟩;rcases hb with hb|hb
  ·exact hb
  simp[ap] at hb
def kC:D→Bool
 | .v _=>true
 | .dz cs=>cs.all fun d=>match d with|.v _=>true|.agg es=>es.all (fun e=>match e with|.v _=>true|_=>false)|_=>false
 | .agg cs=>cs.all fun d=>match d with|.v _=>true|_=>false
 | _=>false
theorem cl.flat{w w':World}{L I:Nat→Prop}{d:D}{v:Value}(h:cl w L d v)(hf:kC d=true):cl w' I d v:=by
 have key:∀(d:D),(match d with|.v _=>true|_=>false)=true→∀v,cl w L d v→cl w' I d v:=fun d hd v h=>by
  cases d<;>simp at hd
  rw[h.kD];exact .v _
 have E:∀(d:D),(match d with|.v _=>true|.agg es=>es.all (fun e=>match e with|.v _=>true|_=>false)|_=>false)=true→∀v,cl w L d v→cl w' I d v:=fun d hd v h=>by
  cases d<;>simp at hd
  ·rw[h.kD];exact .v _
  cases h with
  | agg _ vs hl hr=>exact .agg _ vs hl fun i h1 h2=>key _ (by have:=hd _ (getElem_mem h1);simpa using this) _ (hr i h1 h2)
 cases h with
 | v=>exact .v _
 | dz cs vs hl hr=>exact .dz cs vs hl fun i h1 h2=>E _ (all_eq_true.1 hf _ (getElem_mem h1)) _ (hr i h1 h2)
 | agg cs vs hl hr=>exact .agg cs vs hl fun i h1 h2=>key _ (all_eq_true.1 hf _ (getElem_mem h1)) _ (hr i h1 h2)
 | _=>cases hf
/-! ### nil -/
theorem ZC{t':TypeId}{cs:List D}{z:Operand}(ho:o.op = .binOp .eql t y z t')(hd:o.dst=some tt)(hy:aF x y = .list sz cs n)(hz:aF x z = .v (.slice none 0 0))(ht:P.underlying t=some (.slice e)) :
  fJ P G x o [] (fun s=>∃b:Bool,(b=true→n=0∧cs=[])∧s=x.put tt (.v (.bool b))):=fun C a w K Q hG h hK=>by
 have hr:=h.eval y;rw[hy] at hr;generalize hg:a.eval y=u at hr;have E:∀ad len cap,u = .slice ad len cap→(execOp a.eval o).run P w = .ok (.value (.bool ad.isNone)) w:=fun ad len cap I=>by
  subst I;unfold execOp;have e1:binOp .eql t (.slice ad len cap) (.slice none 0 0)=(do pure (.bool (←Op.equal t (.slice ad len cap) (.slice none 0 0)))):=rfl;simp only[ho,hg,h.flat hz,eqGuard,e1,Sem.run_bind];simp[run_equal_slice_nil w t e ad len cap ht]
 unfold Oper.wp;cases hr with
 | lZ _ ad cap =>
  rw[E ad 0 cap rfl,Oper.upon_value,hd];exact hK _ _ _ ⟨ad.isNone,fun _=>⟨rfl,rfl⟩,rfl⟩ (h.put (.v _)) (lK.refl _ _) (Fr.refl _ _)
 | list _ _ _ b o' cap f hl q1 q2 hb hL hc O =>
  rw[E (some ⟨b,o',none⟩) n cap rfl,Oper.upon_value,hd];exact hK _ _ _ ⟨false,(fun U=>absurd U bq),rfl⟩ (h.put (.v _)) (lK.refl _ _) (Fr.refl _ _)
theorem OD.yT {t':TypeId} {cs:List D} {z:Operand} (hw:cc ops x o true) (ho:o.op = .binOp .eql t y z t') (hd:o.dst=some tt) (hy:aF x y = .list sz cs n) (hz:aF x z = .v (.slice none 0 0)) (ht:P.underlying t=some (.slice e))
  (K:∀b:Bool,(b=true→n=0∧cs=[])→OD P C ops l (x.put tt (.v (.bool b))) Q):OD P C ops (o::l) x Q :=
 OD.fQ hw (ZC ho hd hy hz ht) fun y ⟨b,hb,hy⟩=>hy ▸ K b hb
theorem ZD(ho:o.op = .buildSlice t 0 #[])(ju:o.dst=some tt)(E:∀w,(underlying t).run P w = .ok (.slice e) w)(hs:∀w,(sizeOf e).run P w = .ok sz w)(hne:isMap e=false:=by rfl) :
  fJ P G x o [] (fun s=>∃b,s=⟨x.n,(tt,.v (.slice (some ⟨b,0,none⟩) 0 0))::x.env,⟨b,e,0*sz,[]⟩::x.S⟩):=fun C a w K Q hG h hK=>by
 unfold Oper.wp;have:(execOp a.eval o).run P w = .ok (.value (.slice (some ⟨w.heap.size,0,none⟩) 0 0)) (w.alloc (.cells #[] e)):=by
  unfold execOp;have I:Array.map (fun x=>(default:Value)) (Array.range 0) = #[]:=Array.eq_empty_of_size_eq_zero bq;simp[ho,Instr.buildSlice,E,hs,Instr.fill,newRow,I]
 rw[this,Oper.upon_value,ju];exact hK _ _ _ ⟨w.heap.size,rfl⟩ (h.new (hne:=hne) (ds:=[]) (cH.nil _ _) bq (fun L=>.v _)) (lK.alloc _ _) (Fr.alloc _ _ _)
theorem OD.yU (hw:cc ops x o true) (ho:o.op = .buildSlice t 0 #[]) (ju:o.dst=some tt) (E:∀w,(underlying t).run P w = .ok (.slice e) w) (hs:∀w,(sizeOf e).run P w = .ok sz w)
  (K:∀b,OD P C ops l ⟨x.n,(tt,.v (.slice (some ⟨b,0,none⟩) 0 0))::x.env,⟨b,e,0*sz,[]⟩::x.S⟩ Q) (hne:isMap e=false:=by rfl):OD P C ops (o::l) x Q :=
 OD.fQ hw (ZD (hne:=hne) ho ju E hs) fun y ⟨b,hy⟩=>hy ▸ K b
def bw(e sz:Nat)(cs:List D)(n:Nat)(ad:Option Addr)(cap:Nat)(S:List ag):Prop :=
 (n=0∧cs=[]∧ad=none∧cap=0∧S=[])∨∃b,ad=some ⟨b,0,none⟩∧n≤cap∧cap≤maxLen∧S=[⟨b,e,cap*sz,cs⟩]
theorem lj{e:Nat}{cs:List D}(h:bw e sz cs n ad cap Sq)(hl:cs.length=n*sz)(hs:∀B∈Sq,B∈S)(hne:isMap e=false:=by rfl):View S (.v (.slice ad n cap)) (.list sz cs n):=by
 rcases h with ⟨rfl,rfl,rfl,rfl,rfl⟩|⟨b,rfl,h1,h2,rfl⟩
 ·exact yh
 obtain⟨k,hk,he⟩:=mem_iff_getElem.1 (hs _ mem_cons_self);exact aa2 (hne:=hne) (k:=k) (by rw[getElem?_eq_getElem hk,he]) rfl rfl hl h1 h2
theorem bw.le{e:Nat}{cs:List D}(h:bw e sz cs n ad cap S):n≤cap:=by
 rcases h with ⟨rfl,_,_,rfl,_⟩|⟨_,_,h,_⟩
 ·exact Nat.le_refl _
 exact h
theorem Wk.perm{env:List (Nat×D)}{S':List ag}(hp:S.Perm S'):Wk ⟨n,env,S⟩ ⟨n,env,S'⟩:=fun C a w h=>by
 have hb:(ap S).Perm (ap S'):=hp.map ag.b;have hl:live C.X S=live C.X S':=(by funext b;exact propext (or_congr Iff.rfl hb.mem_iff))
 have I:=h.env;have E:=h.own;simp only[hl] at I E;exact⟨h.defers,h.size,I,⟨fun B O=>E.at_ B (hp.symm.subset O),hb.nodup_iff.1 E.apart⟩,
  ⟨h.fr.os,h.fr.tape,h.fr.output,h.fr.size,fun b h1 h2=>⟨(h.fr.block b h1 h2).1,fun hm=>(h.fr.block b h1 h2).2 (hb.symm.subset hm)⟩⟩,h.ex,h.eM⟩
theorem OD.perm{S':List ag}(hp:x.S.Perm S')(k:OD P C ops l ⟨x.n,x.env,S'⟩ Q):OD P C ops l x Q:=OD.wk (Wk.perm hp) k
theorem AD.perm{S':List ag}(hp:x.S.Perm S')(k:AD P C ops S1 T fuel ld ⟨x.n,x.env,S'⟩ Q):AD P C ops S1 T fuel ld x Q:=AD.Fa (Wk.perm hp) (fun b hb=>(hp.map ag.b).symm.subset hb) k
theorem CD.perm{c:Code}{S':List ag}(hp:x.S.Perm S')(k:CD P C c ⟨x.n,x.env,S'⟩ Q):CD P C c x Q:=CD.wk (Wk.perm hp) k
theorem Wk.cover{l:List (Nat×D)}{Sd:List ag}{A:ag}(hp:S.Perm ((A::R)++Sd))(Z:gv Sd A.cs cs'):Wk ⟨n,l,S⟩ ⟨n,l,{A with cs:=cs'}::R⟩:=fun C a w h0=>by
 have h:=Wk.perm hp C a w h0;have hd:bG C ⟨n,l,A::R⟩ a w:=Wk.drop n l _ (A::R) (sublist_append_left _ _) C a w h;obtain⟨v1,v2⟩:=Z.spec;have U:live C.X ({A with cs:=cs'}::R)=live C.X (A::R):=rfl;have hL:live C.X ((A::R)++Sd)=live (fun b=>live C.X (A::R) b) Sd:=by
  funext b;simp only[live,ap,map_append,mem_append];exact propext or_assoc.symm
 have hnd:(ap (A::R)++ap Sd).Nodup:=(by have:=h.own.apart;simpa[ap] using this)
 have hX:∀b,live C.X (A::R) b→b∉ap Sd:=fun b hb hm=>by
  rcases hb with hb|hb
  ·exact h.Ab b hb (by simp only[ap,map_append,mem_append] at hm ⊢;exact .inr hm)
  exact(nodup_append.1 hnd).2.2 b hb b hm rfl
 have E:Own w (live (fun b=>live C.X (A::R) b) Sd) Sd:=⟨fun B I=>by rw[←hL];exact h.own.at_ B (mem_append_right _ I),(nodup_append.1 hnd).2.1⟩
 refine⟨hd.defers,hd.size,hd.env,⟨fun B I=>?_,hd.own.apart⟩,hd.fr,hd.ex,hd.eM⟩;rcases mem_cons.1 I with rfl|I
 ·obtain⟨r0,cur,r1,r2,r3,r4⟩:=h.own.at_ A (mem_append_left _ mem_cons_self);refine⟨r0,cur,r1,r2,by rw[←v1];exact r3,fun i hi=>?_⟩;have O:i<A.cs.length:=(by rw[v1];exact hi)
  obtain⟨u,hu,hq⟩:=r4 i O;refine⟨u,hu,v2 i O hi (fun b=>live C.X (A::R) b) _ w u (fun b hb=>hb) hX E ?_⟩;rw[←hL];exact hq
 exact hd.own.at_ B (mem_cons_of_mem _ I)
theorem OD.cover{R Sd:List ag}{A:ag}{cs':List D}(hp:x.S.Perm ((A::R)++Sd))(E:gv Sd A.cs cs')(k:OD P C ops l ⟨x.n,x.env,{A with cs:=cs'}::R⟩ Q):OD P C ops l x Q:=OD.wk (Wk.cover hp E) k
theorem DN(hk:S[k]?=some B)(hp:S.Perm (B::R)):(S.eraseIdx k).Perm R:=((uA hk).symm.trans hp).cons_inv
theorem OD.u9 {k t m cap sz b:Nat} {B:ag} {cs:List D} (hk:x.S[k]?=some B) (ht:V.look t x.env = .v (.slice (some ⟨b,0,none⟩) m cap)) (hb:B.b=b) (dw:B.cs=cs) (hl:cs.length=m*sz) (h1:m≤cap) (h2:cap≤maxLen)
  (K:OD P C ops l ⟨x.n,(t,.list sz cs m)::x.env,x.S.eraseIdx k⟩ Q) (hne:isMap B.e=false:=by rfl):OD P C ops l x Q:=by
 subst hb;exact OD.wk (Wk.u9 (hne:=hne) (n:=x.n) (l:=x.env) (S:=x.S) hk ht dw hl h1 h2) K
theorem AD.u9 {k t m cap sz b:Nat} {B:ag} {cs:List D} (hk:x.S[k]?=some B) (ht:V.look t x.env = .v (.slice (some ⟨b,0,none⟩) m cap)) (hb:B.b=b) (dw:B.cs=cs) (hl:cs.length=m*sz) (h1:m≤cap) (h2:cap≤maxLen)
  (K:AD P C ops S1 T fuel ld ⟨x.n,(t,.list sz cs m)::x.env,x.S.eraseIdx k⟩ Q) (hne:isMap B.e=false:=by rfl):AD P C ops S1 T fuel ld x Q:=by
 subst hb;exact AD.Fa (Wk.u9 (hne:=hne) (n:=x.n) (l:=x.env) (S:=x.S) hk ht dw hl h1 h2) (fun b hb=>(Sublist.map ag.b (eraseIdx_sublist x.S k)).subset hb) K
theorem OD.DV {s:Operand} {t e bytes m:Nat} {z:Value} {cs new:List D} (hw:cc ops x o true) (ho:o.op = .call {callee:=.builtin .append,args:=#[s,y],argTypes:=#[t,t]}) (hd:o.dst=some tt)
  (ht:P.underlying t=some (.slice e)) (hi:(P.info? e).map (fun i=>(i.zero,i.size,i.bytes))=some (some z,sz,bytes)) (eV:z.cells.size=sz) (U:0<sz)
  (hs:aF x s = .v (.slice ad n cap)) (sM:bw e sz cs n ad cap Sq) (hp:x.S.Perm (Sq++R)) (hl:cs.length=n*sz)
  (hy:aF x y = .list sz new m) (ie:∀d∈new,one d=true) (hm:0<m) (gj:n+m≤maxLen) (I:(n+m)*bytes≤140737488355328)
  (K:∀O E,n+m≤E→E≤maxLen→OD P C ops l ⟨x.n,(tt,.v (.slice (some ⟨O,0,none⟩) (n+m) E))::x.env,⟨O,e,E*sz,cs++new⟩::R⟩ Q) (hne:isMap e=false:=by rfl):OD P C ops (o::l) x Q:=by
 rcases sM with ⟨rfl,rfl,rfl,rfl,rfl⟩|⟨b,rfl,h1,h2,rfl⟩
 ·refine OD.Hx (hne:=hne) hw ho hd ht hi eV U hs hy ie hm w4 (by rw[Nat.zero_add] at I;exact I) fun O E q1 q2=>?_;have:=K O E w4 q2;rw[Nat.zero_add] at this;exact OD.wk (Wk.perm (hp.cons _)) this
 obtain⟨k,hk,he⟩:=mem_iff_getElem.1 (hp.symm.subset (mem_append_left _ mem_cons_self));have Z:x.S[k]?=some (⟨b,e,cap*sz,cs⟩:ag):=(by rw[getElem?_eq_getElem hk,he])
 refine OD.append (hne:=hne) hw ho hd ht hi eV U hs Z rfl rfl rfl hl h1 h2 hy ie hm gj I fun O E q1 q2=>?_;exact OD.wk (Wk.perm ((DN Z hp).cons _)) (K O E q1 q2)
theorem bg.DV {s:Operand} {t e bytes m:Nat} {z:Value} {cs new:List D} (Z:ops[i]?=some o) (hw:cc ops x o true) (ho:o.op = .call {callee:=.builtin .append,args:=#[s,y],argTypes:=#[t,t]}) (hd:o.dst=some tt)
  (ht:P.underlying t=some (.slice e)) (hi:(P.info? e).map (fun i=>(i.zero,i.size,i.bytes))=some (some z,sz,bytes)) (eV:z.cells.size=sz) (gX:0<sz)
  (hs:aF x s = .v (.slice ad n cap)) (sM:bw e sz cs n ad cap Sq) (hp:x.S.Perm (Sq++R)) (hl:cs.length=n*sz)
  (hy:aF x y = .list sz new m) (ie:∀d∈new,one d=true) (hm:0<m) (gj:n+m≤maxLen) (I:(n+m)*bytes≤140737488355328) (hT:∀b∈T,b∈ap R)
  (K:∀U E,n+m≤E→E≤maxLen→AD P C ops S1 T fuel (ld.setIfInBounds i true) ⟨x.n,(tt,.v (.slice (some ⟨U,0,none⟩) (n+m) E))::x.env,⟨U,e,E*sz,cs++new⟩::R⟩ Q) (hne:isMap e=false:=by rfl):bg P C ops S1 T fuel ld x Q i:=by
 rcases sM with ⟨rfl,rfl,rfl,rfl,rfl⟩|⟨b,rfl,h1,h2,rfl⟩
 ·refine bg.Hx (hne:=hne) Z hw ho hd ht hi eV gX hs hy ie hm w4 (by rw[Nat.zero_add] at I;exact I) fun U E q1 q2=>?_;have:=K U E w4 q2;rw[Nat.zero_add] at this;exact AD.Fa (Wk.perm (hp.cons _)) (fun b hb=>((hp.cons _).map ag.b).symm.subset hb) this
 obtain⟨k,hk,he⟩:=mem_iff_getElem.1 (hp.symm.subset (mem_append_left _ mem_cons_self));have O:x.S[k]?=some (⟨b,e,cap*sz,cs⟩:ag):=(by rw[getElem?_eq_getElem hk,he])
 refine bg.append (hne:=hne) Z hw ho hd ht hi eV gX hs O rfl rfl rfl hl h1 h2 hy ie hm gj I (fun b hb=>((DN O hp).map ag.b).symm.subset (hT b hb)) fun U E q1 q2=>?_;exact AD.Fa (Wk.perm ((DN O hp).cons _)) (fun b hb=>(((DN O hp).cons _).map ag.b).symm.subset hb) (K U E q1 q2)
theorem OD.storeAt {o':Nat} {d:D} {z:Operand} (hw:cc ops x o true) (ho:o.op = .store t y z) (ju:o.dst=none) (hy:aF x y = .v (.pointer (some ⟨b,o',none⟩)))
  (hk:x.S[k]?=some B) (hb:B.b=b) (hz:aF x z=d) (hj:kz d=true) (h1:(cellsOf d).all one=true) (hn:∀w,(sizeOf t).run P w = .ok n w) (fY:(cellsOf d).length=n) (hl:o'+n≤B.cs.length) (dw:da B.cs o' (cellsOf d)=cs')
  (K:OD P C ops l ⟨x.n,x.env,x.S.set k {B with cs:=cs'}⟩ Q) (hne:isMap B.e=false:=by rfl):OD P C ops (o::l) x Q :=
 OD.fQ hw (DU (hne:=hne) ho ju hy hk hb hz (fun h=>by rw[h] at hj;cases hj) h1 hn fY hl dw) fun y hy=>hy ▸ K
theorem bg.storeAt {o':Nat} {d:D} {z:Operand} (hi:ops[i]?=some o) (hw:cc ops x o true) (ho:o.op = .store t y z) (ju:o.dst=none) (hy:aF x y = .v (.pointer (some ⟨b,o',none⟩)))
  (hk:x.S[k]?=some B) (hb:B.b=b) (hz:aF x z=d) (hj:kz d=true) (h1:(cellsOf d).all one=true) (hn:∀w,(sizeOf t).run P w = .ok n w) (fY:(cellsOf d).length=n) (hl:o'+n≤B.cs.length) (dw:da B.cs o' (cellsOf d)=cs')
  (hT:∀b∈T,b∈ap (x.S.eraseIdx k))
  (K:AD P C ops S1 T fuel (ld.setIfInBounds i true) ⟨x.n,x.env,x.S.set k {B with cs:=cs'}⟩ Q) (hne:isMap B.e=false:=by rfl):bg P C ops S1 T fuel ld x Q i :=
 bg.fQ hi hw (DU (hne:=hne) ho ju hy hk hb hz (fun h=>by rw[h] at hj;cases hj) h1 hn fY hl dw) (fun C a w hs I E=>hb ▸ FI hs hk hT I E) (fun I E=>by
  have:I=b:=(by simpa using E)
  subst this;rw[←hb];exact AU hk) fun y hy=>hy ▸ K

end Go.Proofs.YtbcmjoaggammcaaGreatDoor.V
namespace Go.Proofs.YtbcmjoaggammcaaGreatDoor.V
open List
open Go.RowKit
variable {P:Program} {G:List (Nat×List Value)} {x:St} {o:Oper} {S:List ag}
variable {y:Operand} {d0:D} {k b o' n sz i j cap h' l':Nat} {t e:TypeId} {B:ag} {α:Type} {ad:Option Addr} {lo hi:Option Operand}
def R1(P:Program)(G:List (Nat×List Value))(S:List ag)(mk:Operand→Op)(d0:D)(k:Rd)(d:D):Prop:=∀x o y,o.op=mk y→aF x y=d0→x.S=S→bV P G x o k d
theorem cJ{mk:Operand→Op}{d:D}{k:Rd}(ho:o.op=mk y)(hy:aF x y=d0)(H:R1 P G x.S mk d0 k d):bV P G x o k d:=H x o y ho hy rfl
def R2(P:Program)(G:List (Nat×List Value))(S:List ag)(mk:Operand→Operand→Op)(d0 d1:D)(k:Rd)(d:D):Prop:=∀x o y z,o.op=mk y z→aF x y=d0→aF x z=d1→x.S=S→bV P G x o k d
theorem pV{mk:Operand→Operand→Op}{z:Operand}{d1 d:D}{k:Rd}(ho:o.op=mk y z)(hy:aF x y=d0)(hz:aF x z=d1)(H:R2 P G x.S mk d0 d1 k d):bV P G x o k d:=H x o y z ho hy hz rfl
theorem rM{t:Nat}{d:D}(hk:S[k]?=some B)(hb:B.b=b)(ha:∀w,(isAgg t).run P w = .ok false w)(hd:B.cs[o']?=some d)(hne:isMap B.e=false:=by rfl):R1 P G S (Op.load t) (.v (.pointer (some ⟨b,o',none⟩))) (.fu k) d:=fun x o y ho hy hS=>DJ (hne:=hne) ho hy (hS ▸ hk) hb ha hd
theorem pX{t:Nat}{ds:List D}(hk:S[k]?=some B)(hb:B.b=b)(ha:∀w,(isAgg t).run P w = .ok true w)(hn:∀w,(sizeOf t).run P w = .ok n w)(hl:ds.length=n)(hd:(B.cs.drop o').take n=ds)(hne:isMap B.e=false:=by rfl):R1 P G S (Op.load t) (.v (.pointer (some ⟨b,o',none⟩))) (.fu k) (.agg ds):=fun x o y ho hy hS=>As (hne:=hne) ho hy (hS ▸ hk) hb ha hn hl hd
theorem BH{t:Nat}{cs:List D}{d:D}(ha:∀w,(isAgg t).run P w = .ok false w)(hd:cs[o']?=some d):R1 P G S (Op.load t) (.fx cs o') .jI d:=fun x o y ho hy _=>DH ho hy ha hd
theorem qb{t:Nat}{cs ds:List D}(ha:∀w,(isAgg t).run P w = .ok true w)(hn:∀w,(sizeOf t).run P w = .ok n w)(hl:ds.length=n)(hd:(cs.drop o').take n=ds):R1 P G S (Op.load t) (.fx cs o') .jI (.agg ds):=fun x o y ho hy _=>G0 ho hy ha hn hl hd
theorem uT{g:α→List D}{t:Nat}{ls:List α}{d:D}(hg:∀a,(g a).length=sz)(ha:∀w,(isAgg t).run P w = .ok false w)(hi:i<ls.length)(hd:(g ls[i])[j]?=some d):R1 P G S (Op.load t) (.fx (ls.flatMap g) (i*sz+j)) .jI d:=BH ha (yA hg hi hd)
theorem pZ{g:α→List D}{t:Nat}{ls:List α}{d:D}(hg:∀a,(g a).length=sz)(ha:∀w,(isAgg t).run P w = .ok false w)(hi:i<ls.length)(hd:(g ls[i])[0]?=some d):R1 P G S (Op.load t) (.fx (ls.flatMap g) (i*sz)) .jI d:=BH ha (H7 hg hi hd)
theorem jN{g:α→List D}{t:Nat}{ls:List α}(hg:∀a,(g a).length=sz)(ha:∀w,(isAgg t).run P w = .ok true w)(hn:∀w,(sizeOf t).run P w = .ok sz w)(hi:i<ls.length):R1 P G S (Op.load t) (.fx (ls.flatMap g) (i*sz)) .jI (.agg (g ls[i])):=qb ha hn (hg _) (Fb hg hi)
theorem aet{t:Nat}{vs:List Value}{v:Value}(hg:(b,vs)∈G)(ha:∀w,(isAgg t).run P w = .ok false w)(hd:vs[o']?=some v)(qq:qG v=true:=by rfl):R1 P G S (Op.load t) (.v (.pointer (some ⟨b,o',none⟩))) .jI (.v v):=fun x o y ho hy _=>Yh ho hy hg ha hd qq
theorem kU{g:α→List D}{t:Nat}{ls:List α}{d:D}(hg:∀a,(g a).length=sz)(hk:S[k]?=some B)(hb:B.b=b)(dw:B.cs=ls.flatMap g)(ha:∀w,(isAgg t).run P w = .ok false w)(hi:i<ls.length)(hd:(g ls[i])[j]?=some d)(hne:isMap B.e=false:=by rfl):R1 P G S (Op.load t) (.v (.pointer (some ⟨b,0+i*sz+j,none⟩))) (.fu k) d :=
 rM (hne:=hne) hk hb ha (by rw[dw,Nat.zero_add];exact yA hg hi hd)
theorem iO{g:α→List D}{t:Nat}{ls:List α}{d:D}(hg:∀a,(g a).length=sz)(hk:S[k]?=some B)(hb:B.b=b)(dw:B.cs=ls.flatMap g)(ha:∀w,(isAgg t).run P w = .ok false w)(hi:i<ls.length)(hd:(g ls[i])[0]?=some d)(hne:isMap B.e=false:=by rfl):R1 P G S (Op.load t) (.v (.pointer (some ⟨b,0+i*sz,none⟩))) (.fu k) d :=
 rM (hne:=hne) hk hb ha (by rw[dw,Nat.zero_add];exact H7 hg hi hd)
theorem dJ{g:α→List D}{t:Nat}{ls:List α}(hg:∀a,(g a).length=sz)(hk:S[k]?=some B)(hb:B.b=b)(dw:B.cs=ls.flatMap g)(ha:∀w,(isAgg t).run P w = .ok true w)(hn:∀w,(sizeOf t).run P w = .ok sz w)(hi:i<ls.length)(hne:isMap B.e=false:=by rfl):R1 P G S (Op.load t) (.v (.pointer (some ⟨b,0+i*sz,none⟩))) (.fu k) (.agg (g ls[i])) :=
 pX (hne:=hne) hk hb ha hn (hg _) (by rw[dw,Nat.zero_add];exact Fb hg hi)
theorem Ro{len:Nat}{ts:Array TypeId}(ht:ts = #[t])(E:∀w,(underlying t).run P w = .ok (.slice e) w):R1 P G S (fun y=>.call {callee:=.builtin .len,args:=#[y],argTypes:=ts}) (.v (.slice ad len cap)) .none (.v (.int .i64 len)):=fun x o y ho hy _=>N2 ho ht hy E
theorem s8{len:Nat}{cs:List D}{k:IntKind}{i:Int}(E:∀w,(underlying t).run P w = .ok (.slice e) w)(hs:∀w,(sizeOf e).run P w = .ok sz w)(hi:i=j)(hj:j<len):R2 P G S (Op.indexAddr t) (.list sz cs len) (.v (.int k i)) .none (.fx cs (j*sz)):=fun x o y z ho hy hz _=>Oq ho hy hz E hs hi hj
theorem tv{len:Nat}{k:IntKind}{i:Int}(E:∀w,(underlying t).run P w = .ok (.slice e) w)(hs:∀w,(sizeOf e).run P w = .ok sz w)(hi:i=j)(hj:j<len):R2 P G S (Op.indexAddr t) (.v (.slice (some ⟨b,o',none⟩) len cap)) (.v (.int k i)) .none (.v (.pointer (some ⟨b,o'+j*sz,none⟩))):=fun x o y z ho hy hz _=>N1 ho hy hz E hs hi hj
theorem Te{len:Nat}{k:IntKind}{i:Int}(E:∀w,(underlying t).run P w = .ok (.array len e) w)(hs:∀w,(sizeOf e).run P w = .ok sz w)(hi:i=j)(hj:j<len):R2 P G S (Op.indexAddr t) (.v (.pointer (some ⟨b,o',none⟩))) (.v (.int k i)) .none (.v (.pointer (some ⟨b,o'+j*sz,none⟩))):=fun x o y z ho hy hz _=>YG ho hy hz E hs hi hj
def Bd(x:St)(y:Option Operand)(n:Nat):Prop:=match y with|some y=>∃(k:IntKind),aF x y = .v (.int k n)|none=>True
def Rs(P:Program)(G:List (Nat×List Value))(t:TypeId)(lo hi:Option Operand)(l h:Nat)(d0:D)(d:D):Prop:=∀x o y,o.op = .slice t y lo hi none→aF x y=d0→Bd x lo l→Bd x hi h→bV P G x o .none d
theorem ei{l h:Nat}{d:D}(ho:o.op = .slice t y lo hi none)(hy:aF x y=d0)(hl:Bd x lo l)(E:Bd x hi h)(H:Rs P G t lo hi l h d0 d):bV P G x o .none d:=H x o y ho hy hl E
theorem qD{y:Option Operand}{df:Nat}(h:Bd x y n)(hd:y=none→n=df):mu x y n df:=by
 cases y with
 | none=>exact hd rfl
 | some y=>obtain⟨k,hk⟩:=h;exact⟨k,_,hk,rfl⟩
theorem ow {g:α→List D} (hg:∀a,(g a).length=sz) {ls:List α} (eu:hi=none→h'=ls.length)
  (E:∀w,(underlying t).run P w = .ok (.slice e) w) (hs:∀w,(sizeOf e).run P w = .ok sz w) (h2:h'≤ls.length):Rs P G t lo hi 0 h' (.list sz (ls.flatMap g) ls.length) (.list sz ((ls.take h').flatMap g) (ls.take h').length):=fun x o y ho hy hl I =>
 Yl hg ho hy (qD hl fun _=>rfl) (qD I eu) E hs h2
theorem yu {g:α→List D} {ls:List α} (E:h'=ls.length) (hg:∀a,(g a).length=sz) (eT:lo=none→l'=0)
  (I:∀w,(underlying t).run P w = .ok (.slice e) w) (hs:∀w,(sizeOf e).run P w = .ok sz w) (h2:l'≤ls.length):Rs P G t lo none l' h' (.list sz (ls.flatMap g) ls.length) (.list sz ((ls.drop l').flatMap g) (ls.drop l').length):=fun x o y ho hy hl O=>by
 subst E;exact Ym hg ho hy (qD hl eT) rfl I hs h2
theorem nL {len:Nat} {cs:List D} (eT:lo=none→l'=0) (eu:hi=none→h'=len)
  (E:∀w,(underlying t).run P w = .ok (.slice e) w) (hs:∀w,(sizeOf e).run P w = .ok sz w) (h1:l'≤h') (h2:h'≤len):Rs P G t lo hi l' h' (.list sz cs len) (.list sz ((cs.drop (l'*sz)).take ((h'-l')*sz)) (h'-l')):=fun x o y ho hy hl I =>
 G3 ho hy (qD hl eT) (qD I eu) E hs h1 h2
theorem oA {len:Nat} (eu:hi=none→h'=len)
  (E:∀w,(underlying t).run P w = .ok (.slice e) w) (hs:∀w,(sizeOf e).run P w = .ok sz w) (h2:h'≤cap):Rs P G t lo hi 0 h' (.v (.slice (some ⟨b,o',none⟩) len cap)) (.v (.slice (some ⟨b,o',none⟩) h' cap)):=fun x o y ho hy hl I =>
 NJ ho hy (qD hl fun _=>rfl) (qD I eu) E hs h2
theorem aeu {s:ByteArray} (eT:lo=none→l'=0) (eu:hi=none→h'=s.size)
  (E:∀w,(underlying t).run P w = .ok .string w) (h1:l'≤h') (h2:h'≤s.size):Rs P G t lo hi l' h' (.v (.string s)) (.v (.string (s.extract l' h'))):=fun x o y ho hy hl I =>
 X6 ho hy (qD hl eT) (qD I eu) E h1 h2
theorem OD.dZ {C:dF} {Q:Exit→St→Prop} {ops:Array Oper} {l:List Oper} {g:α→List D} {ls new:List α} {s:Operand} {t e tt bytes:Nat} {z:Value} {Sq R:List ag} (hg:∀a,(g a).length=sz) (hg1:∀a,(g a).all one=true) (hw:cc ops x o true) (ho:o.op = .call {callee:=.builtin .append,args:=#[s,y],argTypes:=#[t,t]}) (hd:o.dst=some tt)
  (ht:P.underlying t=some (.slice e)) (hi:(P.info? e).map (fun i=>(i.zero,i.size,i.bytes))=some (some z,sz,bytes)) (eV:z.cells.size=sz) (U:0<sz)
  (hs:aF x s = .v (.slice ad ls.length cap)) (Z:bw e sz (ls.flatMap g) ls.length ad cap Sq) (hp:x.S.Perm (Sq++R))
  (hy:aF x y = .list sz (new.flatMap g) new.length) (hm:0<new.length) (gj:ls.length+new.length≤maxLen) (I:(ls.length+new.length)*bytes≤140737488355328)
  (K:∀O E,(ls++new).length≤E→E≤maxLen→OD P C ops l ⟨x.n,(tt,.v (.slice (some ⟨O,0,none⟩) (ls++new).length E))::x.env,⟨O,e,E*sz,(ls++new).flatMap g⟩::R⟩ Q) (hne:isMap e=false:=by rfl):OD P C ops (o::l) x Q :=
 OD.DV (hne:=hne) hw ho hd ht hi eV U hs Z hp (cq hg ls) hy (tE hg1 new) hm gj I fun O E h1 h2=>by
  have:=K O E (by rw[length_append];exact h1) h2;rw[length_append,flatMap_append] at this;exact this
theorem Wk.shrink{l:List (Nat×D)}{S:List ag}{cs':List D}(hk:S[k]?=some B)(hp:cs' <+: B.cs):Wk ⟨n,l,S⟩ ⟨n,l,S.set k {B with cs:=cs'}⟩:=fun C a w h=>by
 have dS:=(List.getElem?_eq_some_iff.1 hk).1;have U:=(List.getElem?_eq_some_iff.1 hk).2;have E:ap (S.set k {B with cs:=cs'})=ap S:=by
  unfold ap;rw[map_set];apply ext_getElem bq;intro i q1 q2;rw[getElem_set];split
  ·rename_i e;subst e;simp[U]
  rfl
 have I:live C.X (S.set k {B with cs:=cs'})=live C.X S:=(by funext b;simp only[live,E])
 refine⟨h.defers,h.size,fun t ht=>?_,⟨fun B' Z=>?_,?_⟩,?_,h.ex,h.eM⟩
 ·simp only[I];exact h.env t ht
 ·simp only[I];obtain⟨j,hj,O⟩:=mem_iff_getElem.1 Z;rw[length_set] at hj;rw[getElem_set] at O;by_cases e:k=j
  ·rw[if_pos e] at O;subst O;obtain⟨r0,cur,r1,r2,r3,r4⟩:=h.own.at_ B (mem_of_getElem? hk);refine⟨r0,cur,r1,r2,Nat.le_trans hp.length_le r3,fun i hi=>?_⟩;obtain⟨u,hu,hq⟩:=r4 i (Nat.lt_of_lt_of_le hi hp.length_le);refine⟨u,hu,?_⟩;have:cs'[i]=B.cs[i]'(Nat.lt_of_lt_of_le hi hp.length_le):=IsPrefix.getElem hp hi;simp only[this];exact hq
  rw[if_neg e] at O;subst O;exact h.own.at_ _ (getElem_mem hj)
 ·simp only[E];exact h.own.apart
 simp only[E];exact h.fr
theorem OD.shrink{C:dF}{Q:Exit→St→Prop}{ops:Array Oper}{l:List Oper}{k:Nat}{B:ag}{cs':List D}(hk:x.S[k]?=some B)(hp:cs' <+: B.cs)(K:OD P C ops l ⟨x.n,x.env,x.S.set k {B with cs:=cs'}⟩ Q):OD P C ops l x Q:=OD.wk (Wk.shrink hk hp) K

end Go.Proofs.YtbcmjoaggammcaaGreatDoor.V
namespace Go.Proofs.YtbcmjoaggammcaaGreatDoor.V
open List
open Go.RowKit
variable {P:Program} {C:dF} {G:List (Nat×List Value)} {Q:Exit→St→Prop} {x:St} {ops:Array Oper} {l:List Oper} {o:Oper} {n:Nat} {e:List (Nat×D)} {S:List ag}
/-! ### Facts of types, told by the program itself -/
variable {t i:Nat} {b:Bool} {y c:Operand} {d':D} {kd:Rd} {l':List (Nat×D)} {p:Prop} {post:D→List ag→Prop}
def qt(P:Program)(t n:Nat):Bool:=match P.info? t with|some i=>Nat.beq i.size n|none=>false
theorem lu{n:Nat}(h:qt P t n=true):∀w,(sizeOf t).run P w = .ok n w:=by
 unfold qt at h;cases hi:P.info? t with
 | none=>rw[hi] at h;cases h
 | some i =>
  rw[hi] at h;intro w;have:=run_sizeOf (P:=P) w hi;rw[this];simp only[Program.cellsOf,hi,Option.map_some,Option.getD_some,Nat.eq_of_beq_eq_true h]
def qu(P:Program)(t:Nat)(b:Bool):Bool:=match P.underlying t with
 | some (.struct _)=>b
 | some (.array _ _)=>b
 | some _=>!b
 | none=>false
theorem iA(h:qu P t b=true):∀w,(isAgg t).run P w = .ok b w:=by
 unfold qu at h;intro w;cases hu:P.underlying t with
 | none=>rw[hu] at h;cases h
 | some d =>
  rw[hu] at h;have hr:=run_underlying hu w;unfold isAgg;rw[Sem.run_bind,hr];cases d<;>simp only at h<;>first|(subst h;rfl)|(cases b;rfl;cases h)
def Cs(P:Program)(s i off:Nat):Bool:=match P.underlying s with
 | some (.struct fs)=>match fs[i]? with
  | some f=>Nat.beq f.offset off&&(match P.info? f.type with|some j=>Nat.ble 1 j.size|none=>false)
  | none=>false
 | _=>false
theorem afM{s off:Nat}(h:Cs P s i off=true):∃E f m,(∀w,(underlying s).run P w = .ok (.struct E) w)∧E[i]?=some f∧(∀w,(sizeOf f.type).run P w = .ok (m+1) w)∧f.offset=off:=by
 unfold Cs at h;split at h
 ·rename_i E I;split at h
  ·rename_i f hf;rw[Bool.and_eq_true] at h;obtain⟨h1,h2⟩:=h;split at h2
   ·rename_i j hj;have O:=Nat.le_of_ble_eq_true h2;refine⟨E,f,j.size-1,run_underlying I,hf,fun w=>?_,Nat.eq_of_beq_eq_true h1⟩;have:=run_sizeOf (P:=P) w hj;rw[this];simp only[Program.cellsOf,hj,Option.map_some,Option.getD_some];congr 1;omega
   cases h2
  cases h
 cases h
def Ct(P:Program)(t sz:Nat):Bool:=match P.underlying t with
 | some (.slice e)=>qt P e sz
 | _=>false
theorem afN{sz:Nat}(h:Ct P t sz=true):∃e,(∀w,(underlying t).run P w = .ok (.slice e) w)∧∀w,(sizeOf e).run P w = .ok sz w:=by
 unfold Ct at h;split at h
 ·rename_i e E;exact⟨e,run_underlying E,lu h⟩
 cases h
def Mh(P:Program)(t:Nat):Bool:=match P.underlying t with
 | some (.slice _)=>true
 | _=>false
theorem aev(h:Mh P t=true):∃e,∀w,(underlying t).run P w = .ok (.slice e) w:=by
 unfold Mh at h;split at h
 ·rename_i e E;exact⟨e,run_underlying E⟩
 cases h
/-! ### Operations that change nothing -/
theorem bj{z:Operand}{d:D}(ho:o.op = .move z∨o.op = .assign z:=by first|exact .inl rfl|exact .inr rfl)(hz:aF x z=d:=by first|exact ot|exact bJ|exact sW|exact vS):bV P G x o .none d:=by
 rcases ho with h|h
 ·exact aa0 h hz
 exact aa1 h hz
inductive FA (off:Nat):D→D→Prop
 | p {b o':Nat}:FA off (.v (.pointer (some ⟨b,o',none⟩))) (.v (.pointer (some ⟨b,o'+off,none⟩)))
 | i {cs:List D} {o':Nat}:FA off (.fx cs o') (.fx cs (o'+off))
theorem c8(off:Nat){s:TypeId}{d:D}(ho:o.op = .fieldAddr s y i:=by exact rfl)(hy:aF x y=d:=by first|exact ot|exact vS)(hc:Cs P s i off=true:=by kernel_rfl)(h:FA off d d':=by first|exact .p|exact .i):bV P G x o .none d':=by
 obtain⟨fs,f,m,h1,h2,h3,h4⟩:=afM hc;cases h with
 | p=>exact Yg ho hy h1 h2 h3 h4
 | i=>exact X5 ho hy h1 h2 h3 h4
theorem lG{d:D}(ho:o.op = .nilCheck y:=by exact rfl)(hy:aF x y=d:=by exact ot)(h:FA 0 d d:=by first|exact .p|exact .i):bV P G x o .none d:=by
 cases h with
 | p=>exact XP ho hy
 | i=>exact XO ho hy
theorem Mi{cs:List D}{d:D}(ho:o.op = .extract y i:=by exact rfl)(hy:aF x y = .dz cs:=by exact ot)(hd:cs[i]?=some d:=by exact rfl):bV P G x o .none d:=XU ho hy hd
inductive LD (S:List ag):D→Rd→D→Prop
 | b (k:Nat) {b o':Nat} {B:ag} {d:D} (hk:S[k]?=some B) (hb:B.b=b) (hd:B.cs[o']?=some d) (hne:isMap B.e=false):LD S (.v (.pointer (some ⟨b,o',none⟩))) (.fu k) d
 | m {α:Type} {g:α→List D} {sz i j:Nat} {ls:List α} {d:D} (hg:∀a,(g a).length=sz) (hi:i<ls.length) (hd:(g ls[i])[j]?=some d):LD S (.fx (ls.flatMap g) (i*sz+j)) .jI d
 | m0 {α:Type} {g:α→List D} {sz i:Nat} {ls:List α} {d:D} (hg:∀a,(g a).length=sz) (hi:i<ls.length) (hd:(g ls[i])[0]?=some d):LD S (.fx (ls.flatMap g) (i*sz)) .jI d
 | r (k:Nat) {α:Type} {g:α→List D} {b sz i j:Nat} {B:ag} {ls:List α} {d:D} (hg:∀a,(g a).length=sz) (hk:S[k]?=some B) (hb:B.b=b) (dw:B.cs=ls.flatMap g) (hi:i<ls.length) (hd:(g ls[i])[j]?=some d) (hne:isMap B.e=false):LD S (.v (.pointer (some ⟨b,0+i*sz+j,none⟩))) (.fu k) d
 | r0 (k:Nat) {α:Type} {g:α→List D} {b sz i:Nat} {B:ag} {ls:List α} {d:D} (hg:∀a,(g a).length=sz) (hk:S[k]?=some B) (hb:B.b=b) (dw:B.cs=ls.flatMap g) (hi:i<ls.length) (hd:(g ls[i])[0]?=some d) (hne:isMap B.e=false):LD S (.v (.pointer (some ⟨b,0+i*sz,none⟩))) (.fu k) d
 | i {o':Nat} {cs:List D} {d:D} (hd:cs[o']?=some d):LD S (.fx cs o') .jI d
theorem LD.still{t:TypeId}{d0 d:D}(h:LD x.S d0 kd d)(ho:o.op = .load t y)(hy:aF x y=d0)(ha:∀w,(isAgg t).run P w = .ok false w):bV P G x o kd d:=by
 cases h with
 | b k hk hb hd hne=>exact DJ (hne:=hne) ho hy hk hb ha hd
 | m hg hi hd=>exact DH ho hy ha (yA hg hi hd)
 | m0 hg hi hd=>exact DH ho hy ha (H7 hg hi hd)
 | r k hg hk hb dw hi hd hne=>exact kU (hne:=hne) hg hk hb dw ha hi hd x o y ho hy rfl
 | r0 k hg hk hb dw hi hd hne=>exact iO (hne:=hne) hg hk hb dw ha hi hd x o y ho hy rfl
 | i hd=>exact DH ho hy ha hd
theorem eU {t:TypeId} {d0 d:D} (ho:o.op = .load t y:=by exact rfl) (hy:aF x y=d0:=by exact ot) (ha:qu P t false=true:=by kernel_rfl)
  (h:LD x.S d0 kd d:=by first|exact .m zR w5 rfl|exact .m0 zR w5 rfl|exact .b 0 rfl rfl rfl rfl|exact .b 1 rfl rfl rfl rfl|exact .b 2 rfl rfl rfl rfl|exact .b 3 rfl rfl rfl rfl|exact .b 4 rfl rfl rfl rfl|exact .i rfl|exact .r 0 zR rfl rfl rfl w5 rfl rfl|exact .r0 0 zR rfl rfl rfl w5 rfl rfl|exact .r 1 zR rfl rfl rfl w5 rfl rfl|exact .r0 1 zR rfl rfl rfl w5 rfl rfl):bV P G x o kd d:=h.still ho hy (iA ha)
theorem dB(k:Nat){b o':Nat}{B:ag}{d:D}(ho:o.op = .load t y:=by exact rfl)(hy:aF x y = .v (.pointer (some ⟨b,o',none⟩)):=by exact ot)(hk:x.S[k]?=some B:=by exact rfl)(hb:B.b=b:=by exact rfl)(ha:qu P t false=true:=by kernel_rfl)(hd:B.cs[o']?=some d:=by exact rfl)(hne:isMap B.e=false:=by exact rfl):bV P G x o (.fu k) d:=DJ (hne:=hne) ho hy hk hb (iA ha) hd
theorem BD(k:Nat)(ds:List D){b o':Nat}{B:ag}(ho:o.op = .load t y:=by exact rfl)(hy:aF x y = .v (.pointer (some ⟨b,o',none⟩)):=by exact ot)(ha:qu P t true=true:=by kernel_rfl)(hk:x.S[k]?=some B:=by exact rfl)(hb:B.b=b:=by exact rfl)(hd:(B.cs.drop o').take ds.length=ds:=by exact rfl)(hne:isMap B.e=false:=by exact rfl)(hn:qt P t ds.length=true:=by kernel_rfl):bV P G x o (.fu k) (.agg ds):=As (hne:=hne) ho hy hk hb (iA ha) (lu hn) rfl hd
inductive IX (sz:Nat) (i:Int):D→D→Prop
 | l {cs:List D} {len j:Nat} (hi:i=j) (hj:j<len):IX sz i (.list sz cs len) (.fx cs (j*sz))
 | r {b o' len cap j:Nat} (hi:i=j) (hj:j<len):IX sz i (.v (.slice (some ⟨b,o',none⟩) len cap)) (.v (.pointer (some ⟨b,o'+j*sz,none⟩)))
theorem c9 (sz:Nat) {t:TypeId} {z:Operand} {k:IntKind} {i:Int} {d:D} (ho:o.op = .indexAddr t y z:=by exact rfl) (hy:aF x y=d:=by exact ot) (hz:aF x z = .v (.int k i):=by first|exact ot|exact bJ) (hs:Ct P t sz=true:=by kernel_rfl)
  (h:IX sz i d d':=by first|exact .l rfl w5|exact .r rfl w5|exact .l (Int.toNat_of_nonneg w4).symm w4|exact .r (Int.toNat_of_nonneg w4).symm w4):bV P G x o .none d':=by
 obtain⟨e,h1,h2⟩:=afN hs;cases h with
 | l hi hj=>exact Oq ho hy hz h1 h2 hi hj
 | r hi hj=>exact N1 ho hy hz h1 h2 hi hj
theorem qv{t:TypeId}{d:D}{m:Nat}{ts:Array TypeId}(ho:o.op = .call {callee:=.builtin .len,args:=#[y],argTypes:=ts}:=by exact rfl)(ht:ts = #[t]:=by exact rfl)(hy:aF x y=d:=by exact ot)(hs:Mh P t=true:=by kernel_rfl)(h:(∃sz cs,d = .list sz cs m)∨∃ad cap,d = .v (.slice ad m cap):=by first|exact .inl ⟨_,_,rfl⟩|exact .inr ⟨_,_,rfl⟩):bV P G x o .none (.v (.int .i64 m)):=by
 obtain⟨e,he⟩:=aev hs;rcases h with ⟨sz,cs,rfl⟩|⟨ad,cap,rfl⟩
 ·exact Zy ho ht hy he
 exact N2 ho ht hy he
theorem mH {op:BinOp} {t t':TypeId} {z:Operand} {u u' r:Value} (ho:o.op = .binOp op t y z t':=by exact rfl) (hy:aF x y = .v u:=by first|exact ot|exact bJ) (hz:aF x z = .v u':=by first|exact ot|exact bJ)
  (hb:kx P op t u u' r:=by first|exact Rl|exact Rh|exact j3 (wrap_i64 w4 w4)|exact fZ (wrap_i64 w4 w4)|exact Rm|exact Rj|exact Ri|exact Rk|exact IJ (wrap_i64 w4 w4)|exact PM|exact PN|exact aa3|exact aa4|exact aa5|exact aa6|exact IL w4):bV P G x o .none (.v r):=cZ ho hy hz hb
theorem kO{t:TypeId}(ho:o.op = .unOp .not t y:=by exact rfl)(hy:aF x y = .v (.bool b):=by exact ot):bV P G x o .none (.v (.bool !b)):=Ed ho hy aer
theorem wR{z:Operand}{d:D}(ho:o.op = .pick c y z:=by exact rfl)(hc:aF x c = .v (.bool b):=by exact ot)(h:b=true:=by first|rfl|assumption)(hd:aF x y=d:=by first|exact ot|exact bJ):bV P G x o .none d:=Yj ho hc h hd
theorem u4{z:Operand}{d:D}(ho:o.op = .pick c y z:=by exact rfl)(hc:aF x c = .v (.bool b):=by exact ot)(h:b=false:=by first|rfl|assumption)(hd:aF x z=d:=by first|exact ot|exact bJ):bV P G x o .none d:=Yk ho hc h hd
/-! ### Steps -/
theorem bN{d:D}(h:bV P C.G ⟨n,e,S⟩ o kd d)(K:OD P C ops l ⟨n,(t,d)::e,S⟩ Q)(hw:cc ops ⟨n,e,S⟩ o true:=by first|exact rG rfl|exact th rfl rfl rfl lk ji)(hd:o.dst=some t:=by exact rfl):OD P C ops (o::l) ⟨n,e,S⟩ Q:=OD.still hw hd h K
theorem Cu(K:OD P C ops l ⟨n,(t,.v (.tuple #[]))::e,S⟩ Q)(hw:cc ops ⟨n,e,S⟩ o false:=by exact mj rfl rfl rfl lk ji)(hd:o.dst=some t:=by exact rfl):OD P C ops (o::l) ⟨n,e,S⟩ Q:=OD.skip hw hd K
inductive fC:List Nat→List (Nat×D)→List (Nat×D)→Prop
 | nil {e:List (Nat×D)}:fC [] e []
 | cons {t:Nat} {ts:List Nat} {d:D} {e l':List (Nat×D)} (h:look t e=d) (k:fC ts e l'):fC (t::ts) e ((t,d)::l')
theorem fC.j5{ts:List Nat}{e:List (Nat×D)}(h:fC ts e l'):mR e l':=by
 induction h with
 | nil=>trivial
 | cons h _ ih=>exact⟨h,ih⟩
theorem Wu(ts:List Nat)(K:Q .normal ⟨n,l',S⟩)(h:fC ts e l':=by repeat (first|exact fC.nil|(apply fC.cons;focus exact lk))):OD P C ops [] ⟨n,e,S⟩ Q:=OD.wk (Wk.dN rfl rfl h.j5) (OD.nil K)
/-! ### Code that stands ahead of what is looked at is entered -/
def isR:Code→Bool
 | .region ..=>true
 | _=>false
theorem sN_{c d:Code}(K:CD P C c x (BG P C d Q))(h:isR c=false:=by exact rfl):CD P C (.seq c d) x Q:=CD.seq K
theorem nh{q:Prop}(h:q→p:=by intro k;(repeat (first|refine sN_ ?_|refine CD.skip ?_|refine CD.block ?_|refine CD.exit ?_|refine CD.ret ?_|fail));exact k):q→p:=h
theorem eJ{fn:Func}{ex:Exit}{d:D}(hp:post d [])(h0:Body P fn post ex ⟨n,e,S⟩→p:=by exact nh)(he:ex = .normal∨ex = .ret:=by first|exact .inr rfl|exact .inl rfl)(hr:fn.results = #[.tmp t]:=by exact rfl)(ht:Nat.blt t n=true:=by exact rfl)(hd:look t e=d:=by exact lk):p :=
 h0 ⟨he,d,[],nil_sublist _,Rf hr (yz (Nat.le_of_ble_eq_true ht) hd),hp⟩
theorem Ma{fn:Func}{ex:Exit}{t':Nat}{d:D}(hp:post (.dz [d,d']) [])(h0:Body P fn post ex ⟨n,e,S⟩→p:=by exact nh)(he:ex = .normal∨ex = .ret:=by first|exact .inr rfl|exact .inl rfl)(hr:fn.results = #[.tmp t,.tmp t']:=by exact rfl)(ht:Nat.blt t n=true:=by exact rfl)(Gq:Nat.blt t' n=true:=by exact rfl)(hd:look t e=d:=by exact lk)(hd':look t' e=d':=by exact lk):p :=
 h0 ⟨he,_,[],nil_sublist _,IG hr (yz (Nat.le_of_ble_eq_true ht) hd) (yz (Nat.le_of_ble_eq_true Gq) hd'),hp⟩
theorem bX{id:Nat}{r:List Oper}{d:Code}(h:OD P C r.toArray r x (BG P C d Q))(h0:CD P C (.seq (.region id r.toArray false) d) x Q→p:=by exact nh):p:=h0 (CD.seq (CD.region h))
theorem sN{id:Nat}{r:List Oper}(h:OD P C r.toArray r x Q)(h0:CD P C (.region id r.toArray false) x Q→p:=by exact nh):p:=h0 (CD.region h)
theorem eC{d e:Code}(ht:CD P C d x Q)(h0:CD P C (.cond c d e) x Q→p:=by exact nh)(hc:aF x c = .v (.bool b):=by exact ot)(hb:b=true:=by first|rfl|assumption):p:=h0 (CD.afL hc hb ht)
theorem fL{d e:Code}(ht:CD P C e x Q)(h0:CD P C (.cond c d e) x Q→p:=by exact nh)(hc:aF x c = .v (.bool b):=by exact ot)(hb:b=false:=by first|rfl|assumption):p:=h0 (CD.J1 hc hb ht)

end Go.Proofs.YtbcmjoaggammcaaGreatDoor.V
namespace Go.Proofs.YtbcmjoaggammcaaGreatDoor.Tab
open List
open Go.RowKit Go.ChangeShapes
variable {H:Type} {enc:TypeId×Value→H} {P:Program} {w:World} {base:Nat} {sp:Nat→Bool} {held:Bool}
def mv(w:World)(g:Nat)(l:List Value):Prop:=∀i v,l[i]?=some v→w.cell? ⟨g,i,none⟩=some v

end Go.Proofs.YtbcmjoaggammcaaGreatDoor.Tab
namespace Go.Proofs.YtbcmjoaggammcaaGreatDoor.V
open List
open Go.RowKit
variable {G:List (Nat×List Value)} {α:Type} {t:TypeId}
def BI(w:World)(g:Nat)(l:List Value):Prop:=∀i v,l[i]?=some v→nM w g i v
theorem BI.of{w:World}{g:Nat}{l:List Value}(h:Tab.mv w g l)(hp:l.all qG=true):BI w g l:=fun i v hi=>.of (h i v hi) (PG hp hi)
theorem VP.run {P:Program} {f:FuncId} {args:List D} {vs:List Value} {r:Value} {w:World} (h:VP P G f args (.v r))
  (hG:∀g∈G,g.2≠[]∧BI w g.1 g.2) (hr:cH w (live (fun _=>False) []) args vs):Calls P f vs.toArray w fun e w'=>e = .returned r∧Below w.heap.size w w':=by
 have hp:Gp G (fun _=>False) w [] args vs:=by
  refine⟨fun _ h=>h.elim,fun g hg=>⟨⟨?_,by simp[ap],fun h=>h⟩,(hG g hg).2⟩,⟨fun B E=>by simp at E,by simp[ap]⟩,hr⟩;obtain⟨h1,h2⟩:=hG g hg;cases hl:g.2 with
  | nil=>exact absurd hl h1
  | cons v l=>exact(h2 0 v (by rw[hl];rfl)).lt
 refine(h _ w vs hp).mono fun e w' ⟨v,I,S',h1,⟨h2,h3⟩,h4,h5,h6⟩=>?_;subst h2;rw[h5.kD] at h1;exact⟨h1,h6.os,h6.tape,h6.output,h6.size,fun k hk=>(h6.block k hk (by simp[ap])).1⟩
theorem cH.vs(w:World)(L:Nat→Prop)(vs:List Value):cH w L (vs.map .v) vs:=⟨by simp,fun i h1 h2=>by rw[getElem_map];exact .v _⟩
theorem afO{a:Int}(h:(Lit.int .i64 a).wf=true):-9223372036854775808≤a∧a≤9223372036854775807:=bounds_i64 h

variable {H:Type} {enc:TypeId×Value→H} {P:Program} {w:World} {base:Nat} {sp:Nat→Bool} {held:Bool}
def oM(enc:TypeId×Value→H)(P:Program)(w:World)(base:Nat)(sp:Nat→Bool)(held:Bool)(t:TypeId)(g:α→List D)(ok:α→Prop):Prop :=
 ∀fuel cs x,DataW.trod enc P w base sp held fuel t cs=some x→∃a,cH w (fun _=>False) (g a) cs∧ok a
theorem uO(ht:P.underlying t=some (.int .i64)):oM enc P w base sp held t (fun n:Int=>[.v (.int .i64 n)]) (fun n=>-9223372036854775808≤n∧n≤9223372036854775807):=fun fuel cs x h=>by
 obtain⟨n,rfl,_,hw⟩:=DataW.trod_int ht h;exact⟨n,cH.vs w _ [_],afO hw⟩
theorem acI(ht:P.underlying t=some .bool):oM enc P w base sp held t (fun n:Bool=>[.v (.bool n)]) (fun _=>True):=fun fuel cs x h=>by
 obtain⟨n,rfl,_⟩:=DataW.trod_bool ht h;exact⟨n,cH.vs w _ [_],trivial⟩
theorem Ov(ht:P.underlying t=some .string):oM enc P w base sp held t (fun n:ByteArray=>[.v (.string n)]) (fun s=>s.size≤maxLen):=fun fuel cs x h=>by
 obtain⟨n,rfl,_,hw⟩:=DataW.trod_string ht h;exact⟨n,cH.vs w _ [_],hw⟩
theorem oM.map{β:Type}{g:α→List D}{ok:α→Prop}{I:β→List D}{E:β→Prop}(h:oM enc P w base sp held t g ok)(f:α→β)(hg:∀a,I (f a)=g a)(aS:∀a,ok a→E (f a)):oM enc P w base sp held t I E:=fun fuel cs x hx=>by
 obtain⟨a,h1,h2⟩:=h fuel cs x hx;exact⟨f a,by rw[hg];exact h1,aS a h2⟩
theorem YJ {f0 f1 f2:Field} {E I O:Type} {g0:E→List D} {g1:I→List D} {g2:O→List D} {k0:E→Prop} {k1:I→Prop} {k2:O→Prop} {n0 n1 n2:Nat}
  (ht:P.underlying t=some (.struct #[f0,f1,f2])) (hc:P.cellsOf t=n0+n1+n2) (Z:f0.offset=0) (o1:f1.offset=n0) (o2:f2.offset=n0+n1) (c0:P.cellsOf f0.type=n0) (c1:P.cellsOf f1.type=n1) (c2:P.cellsOf f2.type=n2)
  (r0:oM enc P w base sp held f0.type g0 k0) (r1:oM enc P w base sp held f1.type g1 k1) (r2:oM enc P w base sp held f2.type g2 k2) :
  oM enc P w base sp held t (fun a:E × I × O=>g0 a.1++(g1 a.2.1++g2 a.2.2)) (fun a=>k0 a.1∧k1 a.2.1∧k2 a.2.2):=fun fuel cs x h=>by
 obtain⟨xs,n,_,_,hl,fT,hf⟩:=DataW.trod_struct ht h;have U:=hf 0 f0 rfl;have e1:=hf 1 f1 rfl;have e2:=hf 2 f2 rfl;rw[Z,c0,drop_zero] at U;rw[o1,c1] at e1;rw[o2,c2] at e2;have Mj:xs.length=3:=fT;rw[getElem?_eq_getElem w4] at U e1 e2;obtain⟨a0,p0,q0⟩:=r0 _ _ _ U;obtain⟨a1,p1,q1⟩:=r1 _ _ _ e1;obtain⟨a2,p2,q2⟩:=r2 _ _ _ e2;refine⟨(a0,a1,a2),?_,q0,q1,q2⟩;have dw:cs=cs.take n0++((cs.drop n0).take n1++(cs.drop (n0+n1)).take n2):=by
  rw[←drop_drop,take_of_length_le (l:=drop n1 (drop n0 cs)) (by rw[length_drop,length_drop];omega),take_append_drop,take_append_drop]
 rw[dw];exact p0.append (p1.append p2)
theorem aa7 {e:TypeId} {sz b':Nat} {g:α→List D} {ok:α→Prop} (ht:P.underlying t=some (.slice e)) (hce:P.cellsOf e=sz) (gX:0<sz) (re:oM enc P w base sp held e g ok) (hg:∀a,(g a).length=sz) {v:Value} {d:DataW H} {p:List MemPlace}
  (hval:Value.okWide P w .any b' t v) (h:DataW.Trod enc P w base sp held t v d p):∃l:List α,cl w (fun _=>False) (.list sz (l.flatMap g) l.length) v∧(∀x∈l,ok x)∧l.length≤maxLen:=by
 have hv:Cell.okWide P w .any b' t v:=(by unfold Value.okWide at hval;rw[ht] at hval;exact hval)
 unfold Cell.okWide at hv;rw[ht] at hv;obtain⟨m,hm⟩:=h;have hv2:Cell.ok P w .any b' t v:=(by revert hv;cases v<;>exact id)
 unfold Cell.ok at hv2;rw[ht] at hv2;cases v with
 | slice ad len cap =>
  rcases Go.Deep.open_slice ht hm with ⟨h1,_⟩|⟨a,U,Z,mm,n,Dd,Pl,h1,hb,hl,dy,Mk,_,hx⟩
  ·have e1:Value.slice ad len cap = .slice none 0 0:=(by simpa[Value.cells] using h1)
   rw[e1];exact⟨[],.nil sz,(fun x hx=>by cases hx),Nat.zero_le _⟩
  have e1:Value.slice ad len cap = .slice (some a) U Z:=(by simpa[Value.cells] using h1)
  cases e1;have ahi:w.has P .any b' a e cap:=hv2.2.2;obtain⟨_,I,row,cells,rh,_⟩:=ahi;obtain⟨b,o,s⟩:=a;have E:s=none:=I;subst E;have aa:b<w.heap.size:=by
   rcases Nat.lt_or_ge b w.heap.size with h2|h2
   ·exact h2
   simp[World.shape?,Array.getElem?_eq_none h2] at rh
  have hle:len≤mm:=(by rw[Mk];split<;>omega)
  have each:∀i:Fin len,∃a:α,(∃cs',w.cells? base ((⟨b,o,none⟩:Addr).add (i.1*P.cellsOf e)) (P.cellsOf e)=some cs'∧cH w (fun _=>False) (g a) cs')∧ok a:=fun i=>by
   obtain⟨cs',h1,h2⟩:=hx i.1 w4;obtain⟨a,h3,h4⟩:=re _ _ _ h2;exact⟨a,⟨cs',h1,h3⟩,h4⟩
  let l:List α:=ofFn fun i:Fin len=>Classical.choose (each i)
  have lP:l.length=len:=(by simp[l])
  have Wv:∀i (hi:i<l.length),(∃cs',w.cells? base ((⟨b,o,none⟩:Addr).add (i*P.cellsOf e)) (P.cellsOf e)=some cs'∧cH w (fun _=>False) (g l[i]) cs')∧ok l[i]:=fun i hi=>by
   have:=Classical.choose_spec (each ⟨i,by omega⟩);simpa[l] using this
  refine⟨l,?_,fun x hx=>?_,by omega⟩
  ·have key:∀k,k<(l.flatMap g).length→∃u,w.cell? ⟨b,o+k,none⟩=some u∧∀h:k<(l.flatMap g).length,cl w (fun _=>False) (l.flatMap g)[k] u:=fun k hk=>by
    rw[cq hg] at hk;have hi:k/sz<l.length:=Nat.div_lt_of_lt_mul (by rw[Nat.mul_comm];exact hk);have hj:k % sz<sz:=Nat.mod_lt _ gX;have kZ:k/sz*sz+k % sz=k:=(by rw[Nat.mul_comm];exact Nat.div_add_mod k sz)
    obtain⟨⟨cs',h1,h2⟩,_⟩:=Wv _ hi;obtain⟨_,h4,h5⟩:=World.cells?_some h1;have h6:=h5 (k % sz) w4;have lM:k % sz<cs'.length:=(by omega)
    rw[getElem?_eq_getElem lM,Go.Deep.add_add,hce,kZ,Addr.add_mid] at h6;refine⟨_,h6,fun h=>?_⟩;have h7:=h2.2 (k % sz) (by rw[hg];exact hj) lM;have h8:=yA hg hi (getElem?_eq_getElem (show k % sz<(g l[k/sz]).length by rw[hg];exact hj));rw[kZ,getElem?_eq_getElem h] at h8;rw[Option.some.inj h8];exact h7
   have Ww:len≤cap:=hl;have O:Value.slice (some ⟨b,o,none⟩) len cap=Value.slice (some ⟨b,o,none⟩) l.length cap:=(by rw[lP])
   rw[O];refine cl.list (L:=fun _=>False) sz (l.flatMap g) l.length b o cap (fun k=>(w.cell? ⟨b,o+k,none⟩).getD undef) (cq hg l) w4 dy aa (fun h=>h.elim) (fun k hk=>?_) (fun k hk=>?_)
   ·obtain⟨u,h1,_⟩:=key k hk;rw[h1];rfl
   obtain⟨u,h1,h2⟩:=key k hk;simp only[h1,Option.getD_some];exact h2 hk
  obtain⟨i,hi,rfl⟩:=mem_iff_getElem.1 hx;exact(Wv i hi).2
 | _=>exact hv2.elim
theorem VP.ahj {f:FuncId} {args:List D} {vs:List Value} {r:Value} (h:VP P G f args (.v r))
  (hG:∀g∈G,g.2≠[]∧BI w g.1 g.2) (hr:cH w (fun _=>False) args vs):Calls P f vs.toArray w fun e w'=>e = .returned r∧Below w.heap.size w w' :=
 h.run hG (hr.mono fun b _ _=>⟨rfl,fun hl=>by rcases hl with hl|hl;exact hl;simp[ap] at hl⟩)

end Go.Proofs.YtbcmjoaggammcaaGreatDoor.V
namespace Go.Proofs.YtbcmjoaggammcaaGreatDoor.V
open List
open Go.RowKit
variable {P:Program} {C:dF} {G:List (Nat×List Value)} {Q:Exit→St→Prop} {x:St} {ops:Array Oper} {l:List Oper} {o:Oper} {S1 T:List Nat} {fuel i:Nat} {ld:Array Bool}
variable {sz n k b o' cap h' m c:Nat} {B:ag} {cs':List D} {t e:TypeId} {y:Operand} {lo hi:Option Operand}
theorem vM:∀(ds cs:List D) (off:Nat),off+ds.length≤cs.length→da cs off ds=cs.take off++ds++cs.drop (off+ds.length)
 | [],cs,off,h=>by simp[da]
 | d::ds,cs,off,h=>by
  simp only[length_cons] at h;have e:cs.set off d=(cs.take off++[d])++cs.drop (off+1):=(by rw[set_eq_take_append_cons_drop,if_pos w4];simp)
  have hl:(cs.take off++[d]).length=off+1:=(by simp;omega)
  rw[da,vM ds _ (off+1) gU,e,take_left' hl,←drop_drop,drop_left' hl,drop_drop];simp only[append_assoc,cons_append,nil_append,length_cons];congr 4;omega
theorem ox{α:Type}{g:α→List D}(hg:∀a,(g a).length=sz)(ls:List α){i:Nat}(a:α)(hi:i<ls.length):da (ls.flatMap g) (i*sz) (g a)=(ls.set i a).flatMap g:=by
 have h1:(i+1)*sz≤ls.length*sz:=Nat.mul_le_mul_right _ hi;rw[Nat.succ_mul] at h1;rw[vM _ _ _ (by rw[cq hg,hg];exact h1),hg,set_eq_take_append_cons_drop,if_pos hi,tq hg,←Nat.succ_mul,uG hg];simp[flatMap_append]
theorem Wk.UQ{l:List (Nat×D)}{S:List ag}(hk:S[k]?=some B)(hl:cs'.length≤B.size)(hc:∀(i:Nat) (d:D),cs'[i]?=some d→B.cs[i]?=some d∨d=D.bU):Wk ⟨n,l,S⟩ ⟨n,l,S.set k {B with cs:=cs'}⟩:=fun C a w h=>by
 have dS:=(List.getElem?_eq_some_iff.1 hk).1;have U:=(List.getElem?_eq_some_iff.1 hk).2;have E:ap (S.set k {B with cs:=cs'})=ap S:=by
  unfold ap;rw[map_set];apply ext_getElem bq;intro i q1 q2;rw[getElem_set];split
  ·rename_i e;subst e;simp[U]
  rfl
 have I:live C.X (S.set k {B with cs:=cs'})=live C.X S:=(by funext b;simp only[live,E])
 refine⟨h.defers,h.size,fun t ht=>?_,⟨fun B' Z=>?_,?_⟩,?_,h.ex,h.eM⟩
 ·simp only[I];exact h.env t ht
 ·simp only[I];obtain⟨j,hj,O⟩:=mem_iff_getElem.1 Z;rw[length_set] at hj;rw[getElem_set] at O;by_cases e:k=j
  ·rw[if_pos e] at O;subst O;obtain⟨r0,cur,r1,r2,r3,r4⟩:=h.own.at_ B (mem_of_getElem? hk);refine⟨r0,cur,r1,r2,hl,fun i hi=>?_⟩;simp only at hi hl;have lN:i<cur.size:=(by omega)
   rcases hc i _ (getElem?_eq_getElem hi) with hd|hd
   ·obtain⟨hd1,hd2⟩:=List.getElem?_eq_some_iff.1 hd;obtain⟨u,hu,hq⟩:=r4 i hd1;rw[hd2] at hq;exact⟨u,hu,hq⟩
   exact⟨cur[i],by simp[lN],by simp only[hd];exact .bU _⟩
  rw[if_neg e] at O;subst O;exact h.own.at_ _ (getElem_mem hj)
 ·simp only[E];exact h.own.apart
 simp only[E];exact h.fr
/-! ### A slice of a row of one's own -/
def eH(cap l sz o':Nat):Nat:=if cap=l then o' else o'+l*sz
theorem XW {len l:Nat} (ho:o.op = .slice t y lo hi none) (hy:aF x y = .v (.slice (some ⟨b,o',none⟩) len cap)) (eT:mu x lo l 0) (eu:mu x hi h' len)
  (E:∀w,(underlying t).run P w = .ok (.slice e) w) (hs:∀w,(sizeOf e).run P w = .ok sz w) (h1:l≤h') (h2:h'≤cap):bV P G x o .none (.v (.slice (some ⟨b,eH cap l sz o',none⟩) (h'-l) (cap-l))):=fun C a w _ h =>
 ⟨_,.v _,fun w' _=>by
  have b1:=rJ h eT;have b2:=rJ h eu;have b3:=fun w=>vK (P:=P) (il:=true) (w:=w) b1 b2 h1 h2;unfold execOp eH;simp only[ho,h.flat hy,Instr.sliceAt,Instr.slice,E,Sem.run_bind,Result.andThen_ok,Option.map_none,b3,hs,Sem.run_pure];by_cases hc:cap=l
  ·rw[if_pos hc,if_pos hc]
  rw[if_neg hc,if_neg hc];simp only[Option.map_some,Addr.add_mid]⟩
theorem yw {l len:Nat} (eT:lo=none→l=0) (eu:hi=none→h'=len)
  (E:∀w,(underlying t).run P w = .ok (.slice e) w) (hs:∀w,(sizeOf e).run P w = .ok sz w) (h1:l≤h') (h2:h'≤cap):Rs P G t lo hi l h' (.v (.slice (some ⟨b,o',none⟩) len cap)) (.v (.slice (some ⟨b,eH cap l sz o',none⟩) (h'-l) (cap-l))):=fun x o y ho hy hl I =>
 XW ho hy (qD hl eT) (qD I eu) E hs h1 h2
theorem NE {len l:Nat} {k1 k2 k3:IntKind} {lo hi E:Operand} (ho:o.op = .slice t y (some lo) (some hi) (some E)) (hy:aF x y = .v (.slice (some ⟨b,o',none⟩) len cap)) (eT:aF x lo = .v (.int k1 l)) (eu:aF x hi = .v (.int k2 h')) (dy:aF x E = .v (.int k3 m))
  (I:∀w,(underlying t).run P w = .ok (.slice e) w) (hs:∀w,(sizeOf e).run P w = .ok sz w) (h1:l≤h') (h2:h'≤m) (h3:m≤cap):bV P G x o .none .bU:=fun C a w _ h =>
 ⟨.slice (some ⟨b,if m=l then o' else o'+l*sz,none⟩) (h'-l) (m-l),.bU _,fun w' _=>by
  have b3:∀w,(Instr.sliceBounds true len cap (some (.int k1 l)) (some (.int k2 h')) (some (.int k3 m))).run P w = .ok (l,h',m) w:=fun w=>by
   unfold Instr.sliceBounds;simp[DK,h1,h2,h3]
  unfold execOp;simp only[ho,h.flat hy,h.flat eT,h.flat eu,h.flat dy,Instr.sliceAt,Instr.slice,I,Sem.run_bind,Result.andThen_ok,Option.map_some,b3,hs,Sem.run_pure];by_cases hc:m=l
  ·rw[if_pos hc,if_pos hc]
  rw[if_neg hc,if_neg hc];simp only[Option.map_some,Addr.add_mid]⟩
/-! ### append within a row -/
theorem X9 {s:Operand} {t e tt oy:Nat} {new:List D} (ho:o.op = .call {callee:=.builtin .append,args:=#[s,y],argTypes:=#[t,t]}) (hd:o.dst=some tt)
  (ht:P.underlying t=some (.slice e)) (hi:(P.info? e).map (fun i=>i.size)=some sz)
  (hs:aF x s = .v (.slice (some ⟨b,0,none⟩) n cap)) (hk:x.S[k]?=some B) (hb:B.b=b) (hy:aF x y = .v (.slice (some ⟨b,oy,none⟩) m c))
  (O:(B.cs.drop oy).take (m*sz)=new) (hlen:new.length=m*sz) (ie:∀d∈new,one d=true) (Z:n+m≤cap) (hl:n*sz+m*sz≤B.cs.length) (dw:da B.cs (n*sz) new=cs') (hne:isMap B.e=false:=by rfl) :
  fJ P G x o [b] (fun y=>y=⟨x.n,(tt,.v (.slice (some ⟨b,0,none⟩) (n+m) cap))::x.env,x.S.set k {B with cs:=cs'}⟩):=fun C a w K Q hG h hK=>by
 subst dw hb;obtain⟨i,jU,rfl⟩:∃i,P.info? e=some i∧i.size=sz:=by
  cases h:P.info? e with
  | none=>simp[h] at hi
  | some i=>simp[h] at hi;exact⟨i,rfl,hi⟩
 obtain⟨h0,cur,q1,q2,q3,q4⟩:=h.fu hk;rw[jY hne] at q1;have jV:∀j,j<m*i.size→∃hj:oy+j<B.cs.length,∃hn:j<new.length,new[j]=B.cs[oy+j]:=fun j hj=>by
  have h1:j<new.length:=(by omega)
  have h2:oy+j<B.cs.length:=by
   have:=congrArg length O;rw[length_take,length_drop,hlen] at this;omega
  refine⟨h2,h1,?_⟩;have e2:new[j]?=some B.cs[oy+j]:=(by rw[←O,getElem?_take,if_pos hj,getElem?_drop,getElem?_eq_getElem h2])
  rw[getElem?_eq_getElem h1] at e2;exact Option.some.inj e2
 let vs:List Value:=(range (m*i.size)).map fun j=>cur.getD (oy+j) undef
 have I:vs.length=m*i.size:=(by simp[vs])
 have hv:∀j (hj:j<m*i.size),∃u,cur[oy+j]?=some u∧vs[j]?=some u∧cl w (live C.X x.S) (new[j]'w4) u:=fun j hj=>by
  obtain⟨h1,h2,h3⟩:=jV j hj;obtain⟨u,E,hq⟩:=q4 (oy+j) h1;refine⟨u,E,?_,h3 ▸ hq⟩;simp[vs,hj,E]
 have hr:cH w (live C.X x.S) new vs:=⟨by rw[I,hlen],fun j h1 h2=>by
  obtain⟨u,_,E,hq⟩:=hv j w4;rw[getElem?_eq_getElem h2] at E;rw[Option.some.inj E];exact hq⟩
 obtain⟨s1,s2,s3⟩:=h.store (hne:=hne) hk hr (o':=n*i.size) (by rw[hlen];exact hl);have U:=run_append_room_cells (P:=P) w t o.type e i ht jU B.b 0 n cap ⟨B.b,oy,none⟩ m c vs I (fun j u E=>by
   rw[Addr.add_mid];have hj:j<m*i.size:=(by rw[←I];exact(List.getElem?_eq_some_iff.1 E).1)
   obtain⟨u',xI,xJ,_⟩:=hv j hj;rw[xJ] at E;rw[←E];exact nK q1 xI) (fun u E=>by
   obtain⟨j,hj,rfl⟩:=mem_iff_getElem.1 E;have iM:j<new.length:=(by omega)
   exact(hr.2 j iM hj).AJ (ie _ (getElem_mem iM))) Z (fun j hj=>by
   have:(0+n*i.size+j)<cur.size:=(by rw[I] at hj;omega)
   rw[nK q1 (u:=cur[0+n*i.size+j]) (by simp[this])];rfl) (fun j hj=>by unfold World.frozen?;simp[q1])
 rw[Nat.zero_add] at U;have J2:=Av (o:=o) (a:=a) ho (h.flat hs) (h.flat hy) U;unfold Oper.wp;rw[J2,Oper.upon_value,hd];exact hK _ _ _ rfl (s1.put (.v _)) s2 s3
theorem bg.PP {s:Operand} {t e tt oy:Nat} {new:List D} (U:ops[i]?=some o) (hw:cc ops x o true) (ho:o.op = .call {callee:=.builtin .append,args:=#[s,y],argTypes:=#[t,t]}) (hd:o.dst=some tt)
  (ht:P.underlying t=some (.slice e)) (hi:(P.info? e).map (fun i=>i.size)=some sz)
  (hs:aF x s = .v (.slice (some ⟨b,0,none⟩) n cap)) (hk:x.S[k]?=some B) (hb:B.b=b) (hy:aF x y = .v (.slice (some ⟨b,oy,none⟩) m c))
  (O:(B.cs.drop oy).take (m*sz)=new) (hlen:new.length=m*sz) (ie:∀d∈new,one d=true) (E:n+m≤cap) (hl:n*sz+m*sz≤B.cs.length) (dw:da B.cs (n*sz) new=cs') (hT:∀b∈T,b∈ap (x.S.eraseIdx k))
  (K:AD P C ops S1 T fuel (ld.setIfInBounds i true) ⟨x.n,(tt,.v (.slice (some ⟨b,0,none⟩) (n+m) cap))::x.env,x.S.set k {B with cs:=cs'}⟩ Q) (hne:isMap B.e=false:=by rfl):bg P C ops S1 T fuel ld x Q i :=
 bg.fQ U hw (X9 (hne:=hne) ho hd ht hi hs hk hb hy O hlen ie E hl dw) (fun C a w hs Z I=>hb ▸ FI hs hk hT Z I) (fun Z I=>by
  have:Z=b:=(by simpa using I)
  subst this;rw[←hb];exact AU hk) fun y hy=>hy ▸ K
/-! ### clear, behind what is known -/
theorem ZE {s:Operand} {t e:Nat} {z:Value} (ho:o.op = .call {callee:=.builtin .clear,args:=#[s],argTypes:=#[t]}) (hd:o.dst=none)
  (ht:P.underlying t=some (.slice e)) (hz:∀w,(zeroValue e).run P w = .ok z w) (eV:z.cells.size=sz) (lQ:z.cells.all (fun v=>v.oneCell')=true)
  (hs:aF x s = .v (.slice (some ⟨b,o',none⟩) n c)) (hk:x.S[k]?=some B) (hb:B.b=b) (kP:0<n→B.cs.length≤o'∧o'+n*sz≤B.size) (hne:isMap B.e=false:=by rfl) :
  fJ P G x o [b] (fun y=>y=x):=fun C a w K Q hG h hK=>by
 subst hb;have kQ:∀{w':World},(Builtin.clear_ #[t] o.type #[a.eval s]).run P w = .ok (.tuple #[]) w'→(execOp a.eval o).run P w = .ok (.value (.tuple #[])) w':=fun hr=>by
  unfold execOp;simp[ho,resolve,invoke,builtin,hr]
 rcases Nat.eq_zero_or_pos n with rfl|hn
 ·have O:(Builtin.clear_ #[t] o.type #[a.eval s]).run P w = .ok (.tuple #[]) w:=by
   rw[h.flat hs];simp[Builtin.clear_,run_underlying ht]
  unfold Oper.wp;rw[kQ O,Oper.upon_value,hd];exact hK _ _ _ rfl h ⟨Nat.le_refl _,fun _ _ _=>rfl⟩ (Fr.refl _ _)
 obtain⟨aG,aY⟩:=kP hn;let vs:=(Builtin.zeroCells z.cells n).toList
 have rm:vs.length=n*sz:=(by simp[vs,size_zeroCells,eV])
 have hv1:∀v∈vs,v.oneCell'=true:=fun v hv=>by
  simp only[vs,Builtin.zeroCells,Array.toList_map,mem_map] at hv;obtain⟨j,hj,rfl⟩:=hv;have iM:j<n*z.cells.size:=(by simpa using hj)
  have h0:0<z.cells.size:=by
   rcases Nat.eq_zero_or_pos z.cells.size with h0|h0
   ·rw[h0] at iM;simp at iM
   exact h0
  have aa:=Nat.mod_lt j h0;have:=Array.all_eq_true.1 lQ _ aa;rw[getElem!_pos z.cells _ aa];exact this
 obtain⟨h0,cur,q1,q2,q3,q4⟩:=h.fu hk;rw[jY hne] at q1;have fy:=run_storeCells_cells (P:=P) B.b o' vs 0 w (fun j hj=>by
   have:(o'+0+j)<cur.size:=(by omega)
   rw[nK q1 (u:=cur[o'+0+j]) (by simp[this])];rfl) (fun j hj=>by unfold World.frozen?;simp[q1]) hv1
 have O:(Builtin.clear_ #[t] o.type #[a.eval s]).run P w = .ok (.tuple #[]) (w.setCells B.b o' vs):=by
  rw[h.flat hs];obtain⟨m,rfl⟩:∃m,n=m+1:=⟨n-1,by omega⟩
  simp only[Nat.add_zero] at fy;simp[Builtin.clear_,run_underlying ht,hz,vs,fy]
 have dS:=(List.getElem?_eq_some_iff.1 hk).1;have vy:=(List.getElem?_eq_some_iff.1 hk).2
 -- amd,stored,and U again
 let E:=B.cs++replicate (B.size-B.cs.length) D.bU
 have hw:=Wk.UQ (n:=x.n) (l:=x.env) (cs':=E) hk (by simp[E];omega) (fun i d I=>by
  rcases Nat.lt_or_ge i B.cs.length with hi|hi
  ·left;rw[←I];simp only[E];rw[getElem?_append_left hi]
  right;simp only[E] at I;rw[getElem?_append_right hi] at I;exact eq_of_mem_replicate (mem_of_getElem? I)) C a w h
 have fq:(⟨x.n,x.env,x.S.set k {B with cs:=E}⟩:St).S[k]?=some {B with cs:=E}:=(by simp[dS])
 have hjr:cH w (live C.X (⟨x.n,x.env,x.S.set k {B with cs:=E}⟩:St).S) (replicate (n*sz) D.bU) vs:=⟨by simp[rm],fun j h1 h2=>by rw[getElem_replicate];exact .bU _⟩
 obtain⟨s1,s2,s3⟩:=hw.store (hne:=hne) fq hjr (o':=o') (by simp[E];omega);have rZ:da E o' (replicate (n*sz) D.bU)=E.take o'++replicate (n*sz) D.bU++E.drop (o'+n*sz):=by
  rw[vM _ _ _ (by simp[E];omega),length_replicate]
 have lJ:(x.S.set k {B with cs:=da E o' (replicate (n*sz) D.bU)})[k]?=some {B with cs:=da E o' (replicate (n*sz) D.bU)}:=(by simp[dS])
 have h1:bG C ⟨x.n,x.env,x.S.set k {B with cs:=da E o' (replicate (n*sz) D.bU)}⟩ a (w.setCells B.b o' vs):=(by simpa[set_set] using s1)
 have h2:=Wk.UQ (n:=x.n) (l:=x.env) (cs':=B.cs) lJ (by simpa using q3) (fun i d I=>by
  left;have hi:=(List.getElem?_eq_some_iff.1 I).1;simp only[rZ];rw[append_assoc,getElem?_append_left (by simp[E];omega),getElem?_take,if_pos w4];simp only[E];rw[getElem?_append_left hi,I]) C a _ h1
 have hx:(⟨x.n,x.env,(x.S.set k {B with cs:=da E o' (replicate (n*sz) D.bU)}).set k {B with cs:=B.cs}⟩:St)=x:=by
  rw[set_set];have:x.S.set k {B with cs:=B.cs}=x.S:=by
   apply ext_getElem bq;intro i q1 q2;rw[getElem_set];split
   ·rename_i e;subst e;exact vy.symm
   rfl
  rw[this]
 have hbk:∀cs1:List D,ap (x.S.set k {B with cs:=cs1})=ap x.S:=fun cs1=>by
  unfold ap;rw[map_set];apply ext_getElem bq;intro i q1 q2;rw[getElem_set];split
  ·rename_i e;subst e;simp[vy]
  rfl
 have h3:bG C x a (w.setCells B.b o' vs):=by
  have Z:=h2;simp only at Z;rw[hx] at Z;exact Z
 simp only[set_set,hbk] at s3;unfold Oper.wp;rw[kQ O,Oper.upon_value,hd];exact hK _ _ _ rfl h3 s2 s3
theorem OD.clear {s:Operand} {t e sz n b k o' c:Nat} {z:Value} {B:ag} (hw:cc ops x o true) (ho:o.op = .call {callee:=.builtin .clear,args:=#[s],argTypes:=#[t]}) (hd:o.dst=none)
  (ht:P.underlying t=some (.slice e)) (hz:∀w,(zeroValue e).run P w = .ok z w) (eV:z.cells.size=sz) (E:z.cells.all (fun v=>v.oneCell')=true)
  (hs:aF x s = .v (.slice (some ⟨b,o',none⟩) n c)) (hk:x.S[k]?=some B) (hb:B.b=b) (I:0<n→B.cs.length≤o'∧o'+n*sz≤B.size) (K:OD P C ops l x Q) (hne:isMap B.e=false:=by rfl):OD P C ops (o::l) x Q :=
 OD.fQ hw (ZE (hne:=hne) ho hd ht hz eV E hs hk hb I) fun y hy=>hy ▸ K
/-! ### A call that looks at rows of one's own and keeps other blocks as they are -/
/-! ### The same blocks in another order: by counting -/
theorem iv{l r:List ag}(h:∀f:ag→Nat,(l.map f).sum=(r.map f).sum):l.Perm r:=by
 classical
 rw[perm_iff_count];intro a;have key:∀l:List ag,(l.map fun b=>if b=a then 1 else 0).sum=l.count a:=by
  intro l;induction l with
  | nil=>rfl
  | cons b l ih =>
   rw[map_cons,sum_cons,ih,count_cons];by_cases e:b=a<;>simp[e,Nat.add_comm]
 have:=h (fun b=>if b=a then 1 else 0);rw[key,key] at this;exact this
theorem yj{l r:List ag}(h:l.Perm r)(f:ag→Nat):(l.map f).sum=(r.map f).sum:=by
 induction h with
 | nil=>rfl
 | cons x _ ih=>simp[ih]
 | swap x y l=>simp only[map_cons,sum_cons];omega
 | trans _ _ h1 h2=>exact h1.trans h2
theorem NP.norm{Φ:St→Prop}:NP (fun e y=>e=Exit.normal∧Φ y):=fun c y t hq=>by cases hq.1

end Go.Proofs.YtbcmjoaggammcaaGreatDoor.V
namespace Go.Proofs.YtbcmjoaggammcaaGreatDoor.V
open List
open Go.RowKit
variable {P:Program} {C:dF} {G:List (Nat×List Value)} {Q:Exit→St→Prop} {x:St} {ops:Array Oper} {l:List Oper} {o:Oper}
variable {e sz cap b n u tt k:Nat} {α:Type} {ad:Option Addr} {S Sq R A S1 S2 S3:List ag} {t:TypeId} {y:Operand} {ls:List UInt8}
theorem iw{g:α→List D}:bw e sz (([]:List α).flatMap g) ([]:List α).length none 0 []:=.inl ⟨rfl,rfl,rfl,rfl,rfl⟩
theorem bw.cast{g:α→List D}{ls E:List α}(h:bw e sz (ls.flatMap g) ls.length ad cap S)(he:ls=E):bw e sz (E.flatMap g) E.length ad cap S:=he ▸ h
theorem bI{g:α→List D}{ls:List α}(h1:ls.length≤cap)(h2:cap≤maxLen):bw e sz (ls.flatMap g) ls.length (some ⟨b,0,none⟩) cap [⟨b,e,cap*sz,ls.flatMap g⟩]:=.inr ⟨b,rfl,h1,h2,rfl⟩
def gh(g:α→List D)(e sz:Nat)(ls:List α)(r:D)(S:List ag):Prop:=∃ad cap,r = .v (.slice ad ls.length cap)∧bw e sz (ls.flatMap g) ls.length ad cap S
theorem gh.view{g:α→List D}{ls:List α}{r:D}(hg:∀a,(g a).length=sz)(h:gh g e sz ls r S)(hne:isMap e=false:=by rfl):View S r (.list sz (ls.flatMap g) ls.length):=by
 obtain⟨ad,cap,rfl,ho⟩:=h;exact lj (hne:=hne) ho (cq hg ls) (fun B E=>E)
theorem VC.given{g:α→List D}{ls:List α}{f:FuncId}{args:List D}(hg:∀a,(g a).length=sz)(h:VC P G f args [] (gh g e sz ls))(hne:isMap e=false:=by rfl):VP P G f args (.list sz (ls.flatMap g) ls.length) :=
 h.cover fun r S hr=>gh.view (hne:=hne) hg hr
theorem Wk.gP{t m:Nat}{l:List (Nat×D)}{cs:List D}(ht:look t l = .v (.slice ad m cap))(ho:bw e sz cs m ad cap Sq)(hl:cs.length=m*sz)(hp:S.Perm (Sq++R))(hne:isMap e=false:=by rfl):Wk ⟨n,l,S⟩ ⟨n,(t,.list sz cs m)::l,R⟩:=by
 refine(Wk.perm hp).trans ?_;rcases ho with ⟨rfl,rfl,rfl,rfl,rfl⟩|⟨b,rfl,h1,h2,rfl⟩
 ·exact Wk.tg ht
 exact Wk.u9 (hne:=hne) (k:=0) rfl ht rfl hl h1 h2
theorem OD.gP{t m cap e sz:Nat}{Sq R:List ag}{cs:List D}{ad:Option Addr}(ht:V.look t x.env = .v (.slice ad m cap))(ho:bw e sz cs m ad cap Sq)(hl:cs.length=m*sz)(hp:x.S.Perm (Sq++R))(K:OD P C ops l ⟨x.n,(t,.list sz cs m)::x.env,R⟩ Q)(hne:isMap e=false:=by rfl):OD P C ops l x Q :=
 OD.wk (Wk.gP (hne:=hne) (n:=x.n) (S:=x.S) ht ho hl hp) K
theorem CD.gP{c:Code}{t m cap e sz:Nat}{Sq R:List ag}{cs:List D}{ad:Option Addr}(ht:V.look t x.env = .v (.slice ad m cap))(ho:bw e sz cs m ad cap Sq)(hl:cs.length=m*sz)(hp:x.S.Perm (Sq++R))(K:CD P C c ⟨x.n,(t,.list sz cs m)::x.env,R⟩ Q)(hne:isMap e=false:=by rfl):CD P C c x Q :=
 CD.wk (Wk.gP (hne:=hne) (n:=x.n) (S:=x.S) ht ho hl hp) K
theorem gh.mk{g:α→List D}{ls:List α}(h:bw e sz (ls.flatMap g) ls.length ad cap S):gh g e sz ls (.v (.slice ad ls.length cap)) S:=⟨ad,cap,rfl,h⟩
theorem gh.cast{g:α→List D}{ls E:List α}{r:D}(h:gh g e sz ls r S)(he:ls=E):gh g e sz E r S:=he ▸ h
theorem eE{ls E:List α}(h:ls=E):D.v (.slice ad ls.length cap)=D.v (.slice ad E.length cap):=by rw[h]
/-! One row among those at hand: ahead of all, and back. -/
theorem dx:(A++S1).Perm (S1++A):=perm_append_comm
theorem ou:(A++(S1++S2)).Perm (S1++(A++S2)):=perm_append_comm_assoc _ _ _
theorem yl:(A++(S1++S2)).Perm (S2++(A++S1)):=(List.perm_append_comm.append_left A).trans ou
theorem H8:(A++(S1++(S2++S3))).Perm (S1++(A++(S2++S3))):=ou
theorem sX:(A++(S1++(S2++S3))).Perm (S2++(A++(S1++S3))):=(ou.append_left A).trans ou
theorem Pz:((S1++A)++[]).Perm (A++S1):=by rw[append_nil];exact perm_append_comm
theorem aa8:((S2++A)++S1).Perm (A++(S1++S2)):=by rw[append_assoc];exact List.perm_append_comm.trans (by rw[append_assoc])
theorem dV:(S1++A).Perm (A++S1):=dx.symm
theorem iY:(S1++(A++S2)).Perm (A++(S1++S2)):=ou.symm
theorem ym:(S2++(A++S1)).Perm (A++(S1++S2)):=yl.symm
theorem PR:(S1++(A++(S2++S3))).Perm (A++(S1++(S2++S3))):=H8.symm
theorem vT:(S2++(A++(S1++S3))).Perm (A++(S1++(S2++S3))):=sX.symm
/-! ### A string appended to bytes -/
theorem Nz {w:World} (base:Nat) (t u ty e:TypeId) (i:TypeInfo) (ht:P.underlying t=some (.slice e)) (hu:P.underlying u=some .string) (hi:P.info? e=some i) (hz:i.zero=some (.int .u8 0))
  (E:i.size=1) (U:i.bytes=1) (v:Value) (n:Nat) (xs:List Value) (I:w.ownsRow base e 1 v n xs) (s:ByteArray)
  (gj:n+s.size≤maxLen) (O:n+s.size≤140737488355328) (Z:base≤w.heap.size) :
  ∃v' w',(Builtin.append_ #[t,u] ty #[v,.string s]).run P w = .ok v' w'∧w'.ownsRow base e 1 v' (n+s.size) (xs++Go.Lib.strCells s)∧w.grownBy w' v.ownBlock ∧
   (v' = .slice none 0 0↔v = .slice none 0 0∧s.size=0)∧(v'.ownBlock=v.ownBlock∨v'.ownBlock=some w.heap.size):=by
 obtain⟨v',w',hr,h2,h3,h4⟩:=Go.Lib.run_append_own_string (P:=P) w base t u ty e i ht hu hi hz E U v n xs I s gj O Z;refine⟨v',w',hr,h2,h3,h4,?_⟩;have amu:n+s.size≤9223372036854775807:=(by simp only[maxLen] at gj;omega)
 have fT:xs.length=n:=(by simpa using I.1)
 rcases I.2 with ⟨rfl,rfl⟩|⟨g,cap,cur,rfl,hbg,hg,hnc,hcm,dw,TV⟩
 ·by_cases hm:s.size=0
  ·left;rw[h4.2 ⟨rfl,hm⟩]
  right;have:=run_append_nil_string (P:=P) w t u ty e i (.int .u8 0) ht hu hi hz s w4 w4 (by rw[U];omega);rw[this] at hr;cases hr;rfl
 have anN:cur.size=cap:=(by simpa using dw)
 by_cases afP:n+s.size≤cap
 ·left;have:=Go.Lib.run_append_room_string (P:=P) w t u ty e i ht hu hi E g n cap cur hg s afP w4;rw[this] at hr;cases hr;rfl
 right;have holds:∀j u,xs[j]?=some u→w.cell? ((⟨g,0,none⟩:Addr).add j)=some u:=I.cells (g:=g) rfl;have:=Go.Lib.run_append_grow_string (P:=P) w t u ty e i (.int .u8 0) ht hu hi hz ⟨g,0,none⟩ n cap xs (by rw[E];simpa using fT) holds s w4 w4 (by rw[U];exact growslice_fits w4 w4);rw[this] at hr;cases hr;rfl
def oB(b:List UInt8):List D:=b.map uX
theorem G4 {s:Operand} {u:TypeId} {v I:Value} {w w':World} {a:Act} (ho:o.op = .call {callee:=.builtin .append,args:=#[s,y],argTypes:=#[t,u]}) (hs:a.eval s=v) {z:Value} (hy:a.eval y=z)
  (E:(Builtin.append_ #[t,u] o.type #[v,z]).run P w = .ok I w'):(execOp a.eval o).run P w = .ok (.value I) w':=by
 unfold execOp;simp[ho,resolve,invoke,builtin,hs,hy,E]
theorem XX {s:Operand} {t:Nat} {cs:List D} {str:ByteArray} (ho:o.op = .call {callee:=.builtin .append,args:=#[s,y],argTypes:=#[t,u]}) (hd:o.dst=some tt)
  (ht:P.underlying t=some (.slice e)) (hu:P.underlying u=some .string) (hi:(P.info? e).map (fun i=>(i.zero,i.size,i.bytes))=some (some (.int .u8 0),1,1))
  (hs:aF x s = .v (.slice ad n cap)) (sM:bw e 1 cs n ad cap Sq) (hp:x.S=Sq++R) (hl:cs.length=n) (hy:aF x y = .v (.string str)) (gj:n+str.size≤maxLen) (O:n+str.size≤140737488355328) (hne:isMap e=false:=by rfl) :
  fJ P G x o (ap Sq) (fun y=>∃nF U S',bw e 1 (cs++oB str.data.toList) (n+str.size) nF U S'∧y=⟨x.n,(tt,.v (.slice nF (n+str.size) U))::x.env,S'++R⟩):=fun C a w K Q hG h hK=>by
 obtain⟨i,jU,lN,oL,pI⟩:=yy hi;have ahk:(Go.Lib.strCells str).length=str.size:=Go.Lib.strCells_length str;have Ml:(oB str.data.toList).length=str.size:=(by simp[oB])
 have Z:∀j (hj:j<str.size),∃u,(Go.Lib.strCells str)[j]?=some u∧∀h:j<(oB str.data.toList).length,cl w (live C.X x.S) (oB str.data.toList)[j] u:=fun j hj=>by
  have h1:j<str.data.toList.length:=(by rw[Array.length_toList];exact hj)
  refine⟨.int .u8 (str.data.toList[j]).toNat,by rw[Go.Lib.strCells,getElem?_map,getElem?_eq_getElem h1];rfl,fun h=>?_⟩;simp only[oB,getElem_map];exact .v _
 rcases sM with ⟨rfl,rfl,rfl,rfl,rfl⟩|⟨b,rfl,h1,h2,rfl⟩
 ·rw[nil_append] at hp;by_cases hm:str.size=0
  ·have hd0:oB str.data.toList=[]:=eq_nil_of_length_eq_zero (by rw[Ml,hm]);have hn:Go.Lib.strCells str=[]:=eq_nil_of_length_eq_zero (by rw[ahk];exact hm);have hf:=Go.Lib.run_firstCells_string (P:=P) w 1 str;rw[hm] at hf;have I:(Builtin.append_ #[t,u] o.type #[.slice none 0 0,.string str]).run P w = .ok (.slice none 0 0) w:=by
    simp[Builtin.append_,run_underlying ht,run_underlying hu,sizeOf,typeInfo,jU,oL,Builtin.lenOf,hm,hf]
   unfold Oper.wp;rw[G4 (P:=P) ho (h.flat hs) (h.flat hy) I,Oper.upon_value,hd];refine hK ⟨x.n,(tt,.v (.slice none (0+str.size) 0))::x.env,[]++R⟩ _ _ ⟨none,0,[],.inl ⟨by omega,by rw[hd0];rfl,rfl,rfl,rfl⟩,rfl⟩ ?_ (lK.refl _ _) ?_
   ·have e1:(.slice none 0 0:Value) = .slice none (0+str.size) 0:=(by rw[hm])
    rw[e1,nil_append,←hp];exact h.put (.v _)
   rw[nil_append,hp];exact Fr.refl _ _
  have kf:w.ownsRow 0 e 1 (.slice none 0 0) 0 []:=⟨by simp,.inl ⟨rfl,rfl⟩⟩
  obtain⟨v',w',I,q2,q3,_,q5⟩:=Nz (P:=P) 0 t u o.type e i ht hu jU lN oL pI _ 0 _ kf str gj O (Nat.zero_le _);simp only[Nat.zero_add,nil_append] at q2;obtain⟨g,E,rfl,_,aa⟩:=q2.form w4;have q6:(none:Option Nat)=some g∨g=w.heap.size:=by
   rcases q5 with q5|q5
   ·simp[Value.ownBlock] at q5
   right;simpa[Value.ownBlock] using q5
  obtain⟨_,q2⟩:=q2;rcases q2 with ⟨q2,_⟩|⟨g',U,lB,e1,_,e2,e3,e4,e5,e6⟩
  ·cases q2
  have Cq:g=g'∧E=U:=(by simpa using e1)
  obtain⟨rfl,rfl⟩:=Cq;rw[Nat.mul_one] at e5 e6;obtain⟨s1,s2,s3⟩:=h.grown (hne:=hne) (t:=tt) (m:=str.size) (e:=e) (sz:=1) (S:=x.S) (cs:=oB str.data.toList) (row:=none) (g:=g) (cap:=E) (Sublist.refl _) (fun k' qs=>by cases qs) q3 q6 aa e2 w4 w4 (fun j hj=>by
    obtain⟨u,xI,xJ⟩:=Z j w4;refine⟨u,?_,xJ hj⟩;rw[←xI,←e6,getElem?_take_of_lt w4,Array.getElem?_toList])
  unfold Oper.wp;rw[G4 (P:=P) ho (h.flat hs) (h.flat hy) I,Oper.upon_value,hd];refine hK ⟨x.n,(tt,.v (.slice (some ⟨g,0,none⟩) (0+str.size) E))::x.env,[⟨g,e,E*1,[]++oB str.data.toList⟩]++R⟩ _ _ ⟨_,E,_,.inr ⟨g,rfl,by omega,e4,rfl⟩,rfl⟩ ?_ s2 ?_
  ·rw[Nat.zero_add,nil_append,←hp];exact s1
  rw[nil_append,←hp];exact s3
 have hk:x.S[0]?=some (⟨b,e,cap*1,cs⟩:ag):=(by rw[hp];rfl)
 obtain⟨r0,cur,r1,r2,r3,r4⟩:=h.fu hk;simp only at r0 r1 r2 r3 r4;rw[jY hne] at r1;rw[Nat.mul_one] at r2 r3;have kf:w.ownsRow 0 e 1 (.slice (some ⟨b,0,none⟩) n cap) n (cur.toList.take n) :=
  ⟨by simp;omega,.inr ⟨b,cap,cur,rfl,Nat.zero_le _,r1,h1,h2,by omega,by rw[Nat.mul_one]⟩⟩
 obtain⟨v',w',I,q2,q3,q4,q5⟩:=Nz (P:=P) 0 t u o.type e i ht hu jU lN oL pI _ n _ kf str gj O (Nat.zero_le _);obtain⟨_,q2⟩:=q2;rcases q2 with ⟨q2,_⟩|⟨g,E,lB,rfl,_,e2,e3,e4,e5,e6⟩
 ·have:=(q4.1 q2).1;cases this
 have q6:(some b:Option Nat)=some g∨g=w.heap.size:=by
  rcases q5 with q5|q5
  ·exact .inl q5.symm
  right;simpa[Value.ownBlock] using q5
 rw[Nat.mul_one] at e5 e6;have aa:g<w'.heap.size:=by
  rcases Nat.lt_or_ge g w'.heap.size with hh|hh
  ·exact hh
  rw[Array.getElem?_eq_none hh] at e2;cases e2
 have hR:R=x.S.eraseIdx 0:=(by rw[hp];rfl)
 obtain⟨s1,s2,s3⟩:=h.grown (hne:=hne) (t:=tt) (m:=n+str.size) (e:=e) (sz:=1) (S:=x.S.eraseIdx 0) (cs:=cs++oB str.data.toList) (row:=some b) (g:=g) (cap:=E) (eraseIdx_sublist _ _) (fun k' qs=>by
   have:b=k':=(by simpa using qs)
   subst this;refine⟨mem_map.2 ⟨_,mem_of_getElem? hk,rfl⟩,fun hm=>?_⟩;have Gr:(ap x.S).Perm (b::ap (x.S.eraseIdx 0)):=(by have:=(uA hk).map ag.b;simpa[ap] using this)
   exact(nodup_cons.1 (Gr.nodup_iff.1 h.own.apart)).1 hm) q3 q6 aa e2 w4 vm (fun j hj=>by
   rw[length_append] at hj;have BF:lB[j]?=(cur.toList.take n++Go.Lib.strCells str)[j]?:=(by rw[←e6,getElem?_take_of_lt w4,Array.getElem?_toList])
   rw[BF];have oG:(cur.toList.take n).length=n:=(by simp;omega)
   by_cases jV:j<n
   ·obtain⟨u,hu,hq⟩:=r4 j w4;refine⟨u,?_,?_⟩
    ·rw[getElem?_append_left w4,getElem?_take_of_lt jV,Array.getElem?_toList,hu]
    rw[getElem_append_left w4];exact hq
   obtain⟨u,xI,xJ⟩:=Z (j-n) w4;refine⟨u,?_,?_⟩
   ·rw[getElem?_append_right w4,oG,xI]
   rw[getElem_append_right w4];have:=xJ w4;simp only[hl];exact this)
 unfold Oper.wp;rw[G4 (P:=P) ho (h.flat hs) (h.flat hy) I,Oper.upon_value,hd];refine hK ⟨x.n,(tt,.v (.slice (some ⟨g,0,none⟩) (n+str.size) E))::x.env,[⟨g,e,E*1,cs++oB str.data.toList⟩]++R⟩ _ _ ⟨_,E,_,.inr ⟨g,rfl,e3,e4,rfl⟩,rfl⟩ ?_ (by simpa[ap] using s2) ?_
 ·rw[hR];exact s1
 rw[hR];exact s3
theorem OD.ZF {s:Operand} {t:Nat} {cs:List D} {str:ByteArray} (hw:cc ops x o true) (ho:o.op = .call {callee:=.builtin .append,args:=#[s,y],argTypes:=#[t,u]}) (hd:o.dst=some tt)
  (ht:P.underlying t=some (.slice e)) (hu:P.underlying u=some .string) (hi:(P.info? e).map (fun i=>(i.zero,i.size,i.bytes))=some (some (.int .u8 0),1,1))
  (hs:aF x s = .v (.slice ad n cap)) (U:bw e 1 cs n ad cap Sq) (hp:x.S.Perm (Sq++R)) (hl:cs.length=n) (hy:aF x y = .v (.string str)) (Z:n+str.size≤maxLen) (I:n+str.size≤140737488355328)
  (K:∀O E S',bw e 1 (cs++oB str.data.toList) (n+str.size) O E S'→OD P C ops l ⟨x.n,(tt,.v (.slice O (n+str.size) E))::x.env,S'++R⟩ Q) (hne:isMap e=false:=by rfl):OD P C ops (o::l) x Q:=by
 refine OD.perm hp ?_;have hw':cc ops ⟨x.n,x.env,Sq++R⟩ o true:=fun C a w hs=>hw C a w ((Wk.perm (n:=x.n) (env:=x.env) hp.symm) C a w hs);have rp:aF ⟨x.n,x.env,Sq++R⟩ s = .v (.slice ad n cap):=(by rw[←hs];cases s<;>rfl)
 have Mm:aF ⟨x.n,x.env,Sq++R⟩ y = .v (.string str):=(by rw[←hy];cases y<;>rfl)
 exact OD.fQ hw' (XX (hne:=hne) ho hd ht hu hi rp U rfl hl Mm Z I) fun y ⟨O,E,S',h1,hy⟩=>hy ▸ K O E S' h1
theorem OD.oV {g:α→List D} {ls new:List α} {s:Operand} {t bytes:Nat} {z:Value} (hg:∀a,(g a).length=sz) (hg1:∀a,(g a).all one=true) (hw:cc ops x o true) (ho:o.op = .call {callee:=.builtin .append,args:=#[s,y],argTypes:=#[t,t]}) (hd:o.dst=some tt)
  (ht:P.underlying t=some (.slice e)) (hi:(P.info? e).map (fun i=>(i.zero,i.size,i.bytes))=some (some z,sz,bytes)) (eV:z.cells.size=sz) (Z:0<sz) (hu:∀w,(underlying t).run P w = .ok (.slice e) w) (Mn:∀w,(sizeOf e).run P w = .ok sz w)
  (hs:aF x s = .v (.slice ad ls.length cap)) (O:bw e sz (ls.flatMap g) ls.length ad cap Sq) (hp:x.S.Perm (Sq++R))
  (hy:aF x y = .list sz (new.flatMap g) new.length) (gj:ls.length+new.length≤maxLen) (I:(ls.length+new.length)*bytes≤140737488355328)
  (K:∀U E S',bw e sz ((ls++new).flatMap g) (ls++new).length U E S'→OD P C ops l ⟨x.n,(tt,.v (.slice U (ls++new).length E))::x.env,S'++R⟩ Q) (hne:isMap e=false:=by rfl):OD P C ops (o::l) x Q:=by
 rcases Nat.eq_zero_or_pos new.length with h0|h0
 ·have hn:new=[]:=eq_nil_of_length_eq_zero h0;subst hn;refine OD.still hw hd (ND ho hu Mn hs O.le hy) ?_;have:=K ad cap Sq (by rw[append_nil];exact O);rw[append_nil] at this;exact OD.wk (Wk.perm (n:=x.n) hp) this
 exact OD.dZ (hne:=hne) hg hg1 hw ho hd ht hi eV Z hs O hp hy h0 gj I fun b' E h1 h2=>K _ E _ (bI h1 h2)
/-! ### A table as a list -/
theorem Ya {e:TypeId} {vs:List Value} (ho:o.op = .slice t y none none none) (hy:aF x y = .v (.pointer (some ⟨b,0,none⟩))) (hg:(b,vs)∈G)
  (I:∀w,(underlying t).run P w = .ok (.array n e) w) (hs:∀w,(sizeOf e).run P w = .ok sz w) (hl:vs.length=n*sz) (hn:n≠0) (iK:n≤maxLen) (qq:vs.all qG=true:=by rfl):bV P G x o .none (.list sz (vs.map .v) n):=fun C a w hG h=>by
 subst hG;obtain⟨⟨q1,q2,O⟩,U⟩:=h.eM _ hg;refine⟨.slice (some ⟨b,0,none⟩) n n,.list sz (vs.map .v) n b 0 n (fun i=>vs.getD i undef) (by simpa using hl) (Nat.le_refl _) iK (Nat.lt_of_lt_of_le q1 h.fr.size) (fun hl=>hl.elim O (h.fr.block b q1 q2).2) (fun i hi=>?_) (fun i hi=>?_),fun w' _=>?_⟩
 ·have E:i<vs.length:=(by simpa using hi)
  have:=(h.aR hg (getElem?_eq_getElem E)).cell (PG qq (getElem?_eq_getElem E));rw[Nat.zero_add,this];simp[E]
 ·have E:i<vs.length:=(by simpa using hi)
  simp only[getElem_map,getD_eq_getElem?_getD,getElem?_eq_getElem E,Option.getD_some];exact .v _
 unfold execOp;have b3:(Instr.sliceBounds false n n none none none).run P w' = .ok (0,n,n) w':=(by unfold Instr.sliceBounds;simp)
 simp only[ho,h.flat hy,Instr.sliceAt,I,Instr.sureAddr,Sem.run_bind,Result.andThen_ok,Option.map_none,Sem.run_pure,b3,hs,Nat.sub_zero];rw[if_neg hn];simp[Addr.add_mid]
theorem Rp {g:α→List D} {ls:List α} {e:TypeId} {l' h':Nat} {vs:List Value} (hg:(b,vs)∈G) (I:vs.map D.v=ls.flatMap g) (E:n=ls.length)
  (O:∀w,(underlying t).run P w = .ok (.array n e) w) (hs:∀w,(sizeOf e).run P w = .ok sz w) (hl:vs.length=n*sz) (hn:n≠0) (iK:n≤maxLen) (qq:vs.all qG=true:=by rfl):Rs P G t none none l' h' (.v (.pointer (some ⟨b,0,none⟩))) (.list sz (ls.flatMap g) ls.length):=fun x o y ho hy _ _=>by
 have:=Ya (P:=P) (G:=G) ho hy hg O hs hl hn iK qq;rw[I,E] at this;exact this
/-! ### Bytes, strings -/
theorem vb{x y:Bool}(h:x=y):D.v (.bool x)=D.v (.bool y):=by rw[h]
theorem vi{k:IntKind}{x y:Int}(h:x=y):D.v (.int k x)=D.v (.int k y):=by rw[h]
theorem vs{x y:ByteArray}(h:x=y):D.v (.string x)=D.v (.string y):=by rw[h]
def cB(b:UInt8):List D:=[uX b]
theorem o9(b:UInt8):(cB b).length=1:=rfl
theorem wm(b:UInt8):(cB b).all one=true:=rfl
theorem Js(bs:List UInt8):bs.flatMap cB=bs.map uX:=by
 induction bs with
 | nil=>rfl
 | cons a r ih=>rw[flatMap_cons,ih];rfl
theorem aa9(bs:List UInt8):oB bs=bs.flatMap cB:=(Js bs).symm
def cS(s:ByteArray):List D:=[.v (.string s)]
theorem ja(s:ByteArray):(cS s).length=1:=rfl
theorem XQ{s e:TypeId}{bs:List UInt8}(ho:o.op = .convert s t y)(hy:aF x y = .list 1 (bs.flatMap cB) n)(hs:P.underlying s=some (.slice e))(he:P.underlying e=some (.int .u8))(ht:P.underlying t=some .string) :
  bV P G x o .jI (.v (.string ⟨bs.toArray⟩)):=XV ho (by rw[hy,Js]) hs he ht
def lT(s:ByteArray)(k:Nat):UInt8:=s.data.toList.getD k 0
theorem Jt{s:ByteArray}(h:k<s.size):s[k]?=some (lT s k):=by
 have h':k<s.data.size:=h;rw[getElem?_pos s k h];congr 1;show s.data[k]=_;simp only[lT,getD_eq_getElem?_getD,Array.getElem?_toList,Array.getElem?_eq_getElem h',Option.getD_some]
theorem ku(s:ByteArray):s.data.toList.length=s.size:=by rw[Array.length_toList];rfl
theorem vU(s:ByteArray):s.toList=s.data.toList:=by rw[ByteArray.toList_eq]
theorem Hh{s:ByteArray}(h:k<s.data.toList.length):s.data.toList[k]=lT s k:=by simp only[lT,getD_eq_getElem?_getD,getElem?_eq_getElem h,Option.getD_some]
theorem aew{s:ByteArray}(h:(!(s.toList==(⟨#[]⟩:ByteArray).toList))=true):0<s.size:=by
 rcases Nat.eq_zero_or_pos s.size with h0|h0
 ·have:s.data.toList=[]:=eq_nil_of_length_eq_zero (by rw[ku,h0]);rw[vU,vU,this] at h;cases h
 exact h0
theorem uF{s:ByteArray}:(s.toList==(⟨#[]⟩:ByteArray).toList)=decide (s.size=0):=by
 rw[Bool.eq_iff_iff,beq_iff_eq,decide_eq_true_eq,vU,vU,←ku];exact⟨fun h=>by rw[h];rfl,fun h=>eq_nil_of_length_eq_zero h⟩
theorem Ez{s t:ByteArray}(h:s.data.toList=t.data.toList):s=t:=by
 obtain⟨⟨a⟩⟩:=s;obtain⟨⟨b⟩⟩:=t;simp only at h;rw[h]
def iW(a b:ByteArray):Bool:=a.toList==b.toList
theorem AV{a b:ByteArray}:iW a b=true↔a=b:=by
 unfold iW;rw[beq_iff_eq,vU,vU];exact⟨Ez,fun h=>by rw[h]⟩
theorem bw.str{s:ByteArray}(h:bw e 1 (ls.flatMap cB++oB s.data.toList) (ls.length+s.size) ad cap S):bw e 1 ((ls++s.data.toList).flatMap cB) (ls++s.data.toList).length ad cap S:=by
 rw[flatMap_append,←aa9 s.data.toList,length_append,ku];exact h
theorem OD.YK {s:Operand} {t:Nat} {str:ByteArray} (hw:cc ops x o true) (ho:o.op = .call {callee:=.builtin .append,args:=#[s,y],argTypes:=#[t,u]}) (hd:o.dst=some tt)
  (ht:P.underlying t=some (.slice e)) (hu:P.underlying u=some .string) (hi:(P.info? e).map (fun i=>(i.zero,i.size,i.bytes))=some (some (.int .u8 0),1,1))
  (hs:aF x s = .v (.slice ad ls.length cap)) (U:bw e 1 (ls.flatMap cB) ls.length ad cap Sq) (hp:x.S.Perm (Sq++R)) (hy:aF x y = .v (.string str)) (Z:ls.length+str.size≤maxLen) (I:ls.length+str.size≤140737488355328)
  (K:∀O E S',bw e 1 ((ls++str.data.toList).flatMap cB) (ls++str.data.toList).length O E S'→OD P C ops l ⟨x.n,(tt,.v (.slice O (ls++str.data.toList).length E))::x.env,S'++R⟩ Q) (hne:isMap e=false:=by rfl):OD P C ops (o::l) x Q :=
 OD.ZF (hne:=hne) hw ho hd ht hu hi hs U hp (by rw[cq o9,Nat.mul_one]) hy Z I fun O E S' h=>by
  have:=K O E S' h.str;rw[length_append,ku] at this;exact this
/-! ### The first place where something holds -/
def dM(p:α→Bool)(ls:List α):Int:=match ls.findIdx? p with|some i=>i|none=>-1
theorem vQ{p:α→Bool}{ls:List α}(hk:k<ls.length)(h0:∀x∈ls.take k,p x=false)(h1:p ls[k]=true):dM p ls=k:=by
 have:ls.findIdx? p=some k:=by
  rw[findIdx?_eq_some_iff_getElem];refine⟨hk,h1,fun j hj=>?_⟩;have:=h0 ls[j] (mem_take_iff_getElem.2 ⟨j,by omega,rfl⟩);simp[this]
 simp[dM,this]
theorem uz{p:α→Bool}{ls:List α}(hk:¬(k<ls.length))(h0:∀x∈ls.take k,p x=false):dM p ls = -1:=by
 have:ls.findIdx? p=none:=by
  rw[findIdx?_eq_none_iff];intro x hx;rw[take_of_length_le w4] at h0;exact h0 x hx
 simp[dM,this]
theorem PS{p:α→Bool}{ls:List α}:decide (dM p ls≥0)=ls.any p:=by
 unfold dM;cases h:ls.findIdx? p with
 | none =>
  have:=findIdx?_eq_none_iff.1 h;simp;exact this
 | some i =>
  obtain⟨h1,h2,_⟩:=findIdx?_eq_some_iff_getElem.1 h;simp only[ge_iff_le,Int.natCast_nonneg,decide_true];exact(any_eq_true.2 ⟨_,getElem_mem h1,h2⟩).symm
theorem yn{p:α→Prop}{ls:List α}(hk:k<ls.length)(h0:∀x∈ls.take k,p x)(h1:p ls[k]):∀x∈ls.take (k+1),p x:=by
 rw[take_succ_eq_append_getElem hk];intro x hx;rcases mem_append.1 hx with hx|hx
 ·exact h0 x hx
 simp only[mem_singleton] at hx;subst hx;exact h1

end Go.Proofs.YtbcmjoaggammcaaGreatDoor.V
namespace Go.Proofs.YtbcmjoaggammcaaGreatDoor.V
open List
open Go.RowKit
variable {P:Program} {C:dF} {G:List (Nat×List Value)} {Q:Exit→St→Prop} {ops:Array Oper} {l l2:List Oper} {o:Oper} {n t:Nat} {d:D} {e e' l':List (Nat×D)} {S:List ag} {ts:List Nat} {c:Bool}
variable {q:Nat} {ld:Array Bool}
theorem yB{a:Act}{w:World}{K:Act→World→Prop}{R:Exit→Act→World→Prop}(h:o.wp P a w K R):o.wp P a w (fun a' w'=>K a' w'∧∃v,a'.tmps=(a.put o.dst v).tmps) R:=by
 unfold Oper.wp at *;generalize (execOp a.eval o).run P w=r at *;cases r with
 | ok x w' =>
  cases x<;>simp only[Oper.upon] at h ⊢ <;>
   first
    | exact⟨h,_,rfl⟩
    | exact Calls.mono h (fun e E he=>by cases e<;>first|exact⟨he,_,rfl⟩|exact he)
    | exact Rows.mono h (fun _ _ he=>⟨he,_,rfl⟩)
    | (refine⟨h,undef,?_⟩;unfold Act.put;cases o.dst<;>rfl)
 | halt x w'=>cases x<;>simp only[Oper.upon] at h ⊢<;>exact h
theorem bG.yV{a a':Act}{w w':World}{v:Value}(h:bG C ⟨n,e,S⟩ a w)(k:bG C ⟨n,(t,d)::l',S⟩ a' w')(hf:Fr w (ap S) w' (ap S))(I:a'.tmps=(a.put (some t) v).tmps):bG C ⟨n,(t,d)::e,S⟩ a' w':=by
 refine⟨k.defers,k.size,fun q hq=>?_,k.own,k.fr,k.ex,k.eM⟩;by_cases E:t=q
 ·subst E;have:=k.env t hq;simp only[fO,if_pos] at this ⊢;exact this
 have h1:=h.env q hq;have h2:a'.tmps.getD q undef=a.tmps.getD q undef:=(by rw[I];simp[Act.put,Array.getD_eq_getD_getElem?,Array.getElem?_setIfInBounds,E])
 simp only[fO,if_neg E];rw[h2];exact h1.mono fun b hb hn=>⟨(hf.block b hb (fun hm=>hn (.inr hm))).1,hn⟩
theorem fJ.yV(hd:o.dst=some t)(h:fJ P G ⟨n,l',S⟩ o [] (fun y=>y=⟨n,(t,d)::l',S⟩))(hs:mR e l'):fJ P G ⟨n,e,S⟩ o [] (fun y=>y=⟨n,(t,d)::e,S⟩):=fun C a w K R hG E hK=>by
 have h1:=h C a w (fun a' w'=>bG C ⟨n,(t,d)::l',S⟩ a' w'∧lK [] w w'∧Fr w (ap S) w' (ap S)) R hG (Wk.j5 hs C a w E) (fun y a' w' hy I hc hf=>by subst hy;exact⟨I,hc,hf⟩);refine Oper.wp_mono (fun a' w' h2=>?_) (yB h1);obtain⟨⟨h3,h4,h5⟩,v,h6⟩:=h2;rw[hd] at h6;exact hK _ a' w' rfl (E.yV h3 h5 h6) h4 h5
def mV(ops:Array Oper)(o:Oper)(ts:List Nat):Bool:=(range ops.size).all fun j=>match ops[j]? with
 | some p=>(match p.dst with
  | some t=>!(ts.elem t)||o.after.any (fun e=>Region.binds .any e&&Nat.beq e.on j)
  | none=>true)
 | none=>true
def mb(ops:Array Oper):Bool:=(range ops.size).all fun i=>match ops[i]? with
 | some o=>o.after.all (fun e=>!Region.binds .any e||Nat.blt e.on i)&&(match o.dst with
  | some t=>(range i).all fun j=>match ops[j]? with
   | some p=>(match p.dst with|some q=>!(Nat.beq q t)|none=>true)
   | none=>true
  | none=>false)
 | none=>true
inductive PD (c:Bool) (P:Program) (G:List (Nat×List Value)) (n:Nat) (S:List ag) (ops:Array Oper):List Oper→List (Nat×D)→List Oper→List (Nat×D)→Prop
 | nil {l:List Oper} {e:List (Nat×D)}:PD c P G n S ops l e l e
 | cons {o:Oper} {l l2:List Oper} {t:Nat} {d:D} {e e' l':List (Nat×D)} {ts:List Nat} (hd:o.dst=some t) (hr:fC ts e l') (hq:(!c||mV ops o ts)=true) (hw:cc ops ⟨n,l',S⟩ o true)
   (h:fJ P G ⟨n,l',S⟩ o [] (fun y=>y=⟨n,(t,d)::l',S⟩)) (k:PD c P G n S ops l ((t,d)::e) l2 e'):PD c P G n S ops (o::l) e l2 e'
 | skip {o:Oper} {l l2:List Oper} {t:Nat} {e e' l':List (Nat×D)} {ts:List Nat} (hd:o.dst=some t) (hr:fC ts e l') (hq:(!c||mV ops o ts)=true) (hw:cc ops ⟨n,l',S⟩ o false)
   (k:PD c P G n S ops l ((t,.v (.tuple #[]))::e) l2 e'):PD c P G n S ops (o::l) e l2 e'
theorem PD.od(h:PD c P C.G n S ops l e l2 e')(K:OD P C ops l2 ⟨n,e',S⟩ Q):OD P C ops l ⟨n,e,S⟩ Q:=by
 induction h with
 | nil=>exact K
 | cons hd hr hq hw h k ih=>exact OD.fQ (fun C a w hs=>hw C a w (Wk.j5 hr.j5 C a w hs)) (h.yV hd hr.j5) fun y hy=>by subst hy;exact ih K
 | skip hd hr hq hw k ih=>exact OD.skip (fun C a w hs=>hw C a w (Wk.j5 hr.j5 C a w hs)) hd (ih K)
def Gd(P:Program)(G:List (Nat×List Value))(n:Nat)(S:List ag)(ops:Array Oper)(eF:List (Nat×D))(i:Nat):Prop :=
 ∃o t ts l',ops[i]?=some o∧o.dst=some t∧mV ops o ts=true∧(∀p∈l',p.1∈ts∧look p.1 eF=look p.1 l')∧l'.map (·.1)=ts ∧
  ((cc ops ⟨n,l',S⟩ o true∧fJ P G ⟨n,l',S⟩ o [] (fun y=>y=⟨n,(t,look t eF)::l',S⟩))∨(cc ops ⟨n,l',S⟩ o false∧look t eF = .v (.tuple #[])))
theorem fC.keys(h:fC ts e l'):l'.map (·.1)=ts:=by
 induction h with
 | nil=>rfl
 | cons h k ih=>rw[map_cons,ih]
theorem fC.at(h:fC ts e l')(hq:q∈ts):look q l'=look q e:=by
 induction h with
 | nil=>cases hq
 | @cons t ts d e l' h k ih =>
  rw[fO];by_cases E:t=q
  ·subst E;rw[if_pos rfl,h]
  rw[if_neg E];rcases mem_cons.1 hq with rfl|hm
  ·exact absurd rfl E
  exact ih hm
theorem wg(h:mb ops=true){i:Nat}{o:Oper}(hi:ops[i]?=some o):(∀e∈o.after,Region.binds .any e=true→e.on<i)∧∃t,o.dst=some t∧∀j p,j<i→ops[j]?=some p→p.dst≠some t:=by
 have aa:=(Array.getElem?_eq_some_iff.1 hi).1;have:=all_eq_true.1 h i (mem_range.2 aa);simp only[hi,Bool.and_eq_true] at this;obtain⟨h1,h2⟩:=this;refine⟨fun e he hb=>?_,?_⟩
 ·have:=Array.all_eq_true'.1 h1 e he;simp only[hb,Bool.not_true,Bool.false_or] at this;exact Nat.le_of_ble_eq_true this
 cases hd:o.dst with
 | none=>rw[hd] at h2;cases h2
 | some t =>
  rw[hd] at h2;refine⟨t,rfl,fun j p hj hp hq=>?_⟩;have:=all_eq_true.1 h2 j (mem_range.2 hj);simp only[hp,hq,Bool.not_eq_true'] at this;have h3:Nat.beq t t=true:=Nat.beq_refl t;rw[h3] at this;cases this
theorem Ew(h:mV ops o ts=true){j:Nat}{p:Oper}(hj:ops[j]?=some p)(hp:p.dst=some q)(hq:q∈ts):∃e∈o.after,Region.binds .any e=true∧e.on=j:=by
 have aa:=(Array.getElem?_eq_some_iff.1 hj).1;have:=all_eq_true.1 h j (mem_range.2 aa);simp only[hj,hp] at this;rw[show ts.elem q=true from elem_eq_true_of_mem hq] at this;simp only[Bool.not_true,Bool.false_or] at this;obtain⟨e,he,hb⟩:=Array.any_eq_true'.1 this;rw[Bool.and_eq_true] at hb;exact⟨e,he,hb.1,Nat.eq_of_beq_eq_true hb.2⟩
theorem PD.later(h:PD c P G n S ops l e l2 e')(hq:∀o∈l,o.dst≠some q):look q e'=look q e:=by
 induction h with
 | nil=>rfl
 | @cons o l l2 t d e e' l' ts hd hr zT hw h k ih =>
  rw[ih fun p hp=>hq p (mem_cons_of_mem _ hp),fO,if_neg (fun e1:t=q=>hq o mem_cons_self (by rw[←e1];exact hd))]
 | @skip o l l2 t e e' l' ts hd hr zT hw k ih =>
  rw[ih fun p hp=>hq p (mem_cons_of_mem _ hp),fO,if_neg (fun e1:t=q=>hq o mem_cons_self (by rw[←e1];exact hd))]
theorem PD.wS(hp:mb ops=true)(h:PD true P G n S ops l e l2 e'):l2=[]→∀k,ops.toList.drop k=l→∀i,k≤i→i<ops.size→Gd P G n S ops e' i:=by
 induction h with
 | nil =>
  intro ir k hk i h1 h2;rw[ir,drop_eq_nil_iff] at hk;simp at hk;omega
 | @cons o l l2 t d e e' l' ts hd hr zT hw h k0 ih =>
  intro ir k hk i h1 h2;have aS:ops.toList[k]?=some o:=(by rw[←head?_drop,hk];rfl)
  have ze:ops[k]?=some o:=(by rw[←Array.getElem?_toList];exact aS)
  have jl:ops.toList.drop (k+1)=l:=(by rw[←drop_drop,hk];rfl)
  rcases Nat.eq_or_lt_of_le h1 with rfl|h1
  ·have kN:∀j p,k<j→ops[j]?=some p→p.dst≠some t:=fun j p hj Gh iL=>by
    exact Ut
   have aa:∀p∈l,p.dst≠some t:=fun p fH=>by
    exact Wn
   have E:look t e'=d:=(by rw[k0.later aa,fO,if_pos rfl])
   refine⟨o,t,ts,l',ze,hd,by simpa using zT,fun p fH=>?_,hr.keys,.inl ⟨hw,by rw[E];exact h⟩⟩;exact V1
  exact ih ir (k+1) jl i h1 h2
 | @skip o l l2 t e e' l' ts hd hr zT hw k0 ih =>
  intro ir k hk i h1 h2;have aS:ops.toList[k]?=some o:=(by rw[←head?_drop,hk];rfl)
  have ze:ops[k]?=some o:=(by rw[←Array.getElem?_toList];exact aS)
  have jl:ops.toList.drop (k+1)=l:=(by rw[←drop_drop,hk];rfl)
  rcases Nat.eq_or_lt_of_le h1 with rfl|h1
  ·have kN:∀j p,k<j→ops[j]?=some p→p.dst≠some t:=fun j p hj Gh iL=>by
    exact Ut
   have aa:∀p∈l,p.dst≠some t:=fun p fH=>by
    exact Wn
   have E:look t e' = .v (.tuple #[]):=(by rw[k0.later aa,fO,if_pos rfl])
   refine⟨o,t,ts,l',ze,hd,by simpa using zT,fun p fH=>?_,hr.keys,.inr ⟨hw,E⟩⟩;exact V1
  exact ih ir (k+1) jl i h1 h2
def left(N:Nat)(ld:Array Bool):Nat:=((range N).filter fun j=>!ld.getD j true).length
theorem yC{N i:Nat}(hi:i<N)(hl:ld.getD i true=false):left N (ld.setIfInBounds i true)<left N ld:=by
 unfold left;have E:i<ld.size:=by
  rcases Nat.lt_or_ge i ld.size with h|h
  ·exact h
  rw[Array.getD_eq_getD_getElem?,Array.getElem?_eq_none h] at hl;cases hl
 have h1:(range N).filter (fun j=>!(ld.setIfInBounds i true).getD j true)=((range N).filter fun j=>!ld.getD j true).filter (fun j=>!decide (j=i)):=by
  rw[filter_filter];congr 1;funext j;by_cases hj:j=i
  ·subst hj;simp[Array.getD_eq_getD_getElem?,Array.getElem?_setIfInBounds,E]
  simp[Array.getD_eq_getD_getElem?,Array.getElem?_setIfInBounds,hj,Ne.symm hj]
 rw[h1];refine length_filter_lt_length_iff_exists.2 ⟨i,mem_filter.2 ⟨mem_range.2 hi,by simp[hl]⟩,by simp⟩
theorem Ju(hp:mb ops=true)(hr:Region.ready .any ops ld=[]):∀j,j<ops.size→ld.getD j true=true:=fun j=>by
 induction j using Nat.strongRecOn with
 | _ j ih =>
  intro hj;cases hl:ld.getD j true with
  | true=>rfl
  | false =>
   have ho:ops[j]?=some ops[j]:=Array.getElem?_eq_getElem hj;have:j∈Region.ready .any ops ld:=mem_ready.2 ⟨hl,ops[j],ho,fun e he hb=>by
    have aa:=(wg hp ho).1 e he hb;have:=ih e.on aa w4;rw[Array.getD_eq_getD_getElem?] at this ⊢;cases hq:ld[e.on]? with
    | none =>
     have h3:ld.size≤e.on:=Array.getElem?_eq_none_iff.1 hq;rw[Array.getD_eq_getD_getElem?,Array.getElem?_eq_none w4] at hl;cases hl
    | some b=>rw[hq] at this;exact this⟩
   rw[hr] at this;cases this
theorem Eg{q:Nat}:∀{r:List (Nat×D)},¬q∈r.map (·.1)→look q r = .bU
 | [],_=>rfl
 | (p1,p2)::r,hm=>by
  rw[map_cons,mem_cons,not_or] at hm;rw[fO,if_neg (fun e1=>hm.1 e1.symm)];exact Eg hm.2
theorem aex{O:List (Nat×D)}{w1:World}{S1:List Nat}(hS1:ap S=S1)(hp:mb ops=true)(H:∀i,i<ops.size→Gd P C.G n S ops O i)(hQ:Q .normal ⟨n,O,S⟩):∀(fuel:Nat) (ld:Array Bool) (env:List (Nat×D)) (a:Act) (w:World),
  left ops.size ld≤fuel→bG C ⟨n,env,S⟩ a w→Fr w1 S1 w S1→(∀q,(∀j o,ops[j]?=some o→o.dst=some q→ld.getD j true=true)→look q env=look q O)→wpAnyH P .any ops (LQ C Q) (kE w1 S1 []) fuel ld a w:=by
 have ff:∀(ld:Array Bool) (env:List (Nat×D)) (a:Act) (w:World),bG C ⟨n,env,S⟩ a w→(∀q,(∀j o,ops[j]?=some o→o.dst=some q→ld.getD j true=true)→look q env=look q O)→(∀j,j<ops.size→ld.getD j true=true)→LQ C Q .normal a w:=fun ld env a w hs he fa =>
  .inl ⟨⟨n,O,S⟩,⟨hs.defers,hs.size,fun q hq=>by have:=hs.env q hq;rw[he q fun j o hj _=>fa j (Array.getElem?_eq_some_iff.1 hj).1] at this;exact this,hs.own,hs.fr,hs.ex,hs.eM⟩,hQ⟩
 intro fuel;induction fuel with
 | zero =>
  intro ld env a w hl hs hf he;have fa:∀j,j<ops.size→ld.getD j true=true:=fun j hj=>by
   cases hq:ld.getD j true with
   | true=>rfl
   | false=>have:=yC hj hq;omega
  refine⟨?_,ff ld env a w hs he fa⟩;rw[eq_nil_iff_forall_not_mem];intro j hj;obtain⟨h1,o,h2,_⟩:=mem_ready.1 hj;have:=fa j (Array.getElem?_eq_some_iff.1 h2).1;rw[h1] at this;cases this
 | succ fuel ih =>
  intro ld env a w hl hs hf he;refine⟨fun h0=>ff ld env a w hs he (Ju hp h0),fun i hi=>?_⟩;obtain⟨kQ,o,E,BJ⟩:=mem_ready.1 hi;have aa:=(Array.getElem?_eq_some_iff.1 E).1;obtain⟨o',t,ts,l',h1,hd,hq,lO,hk,hb⟩:=H i aa;rw[E] at h1;obtain rfl:=Option.some.inj h1;have UR:=yC aa kQ;have rZ:∀j,(ld.setIfInBounds i true).getD j true=true↔j=i∨ld.getD j true=true:=fun j=>by
   by_cases hj:j=i
   ·subst hj;have gX:j<ld.size:=by
     rcases Nat.lt_or_ge j ld.size with h|h
     ·exact h
     rw[Array.getD_eq_getD_getElem?,Array.getElem?_eq_none h] at kQ;cases kQ
    simp[Array.getD_eq_getD_getElem?,Array.getElem?_setIfInBounds,gX]
   simp[Array.getD_eq_getD_getElem?,Array.getElem?_setIfInBounds,hj,Ne.symm hj]
  have hsl:∀{r:List (Nat×D)},(∀p∈r,look p.1 env=p.2)→mR env r:=by
   intro r;induction r with
   | nil=>intro _;trivial
   | cons p r ihr=>intro hr;exact⟨hr p mem_cons_self,ihr fun p' zU=>hr p' (mem_cons_of_mem _ zU)⟩
  have ahl:∀p∈l',look p.1 env=look p.1 l':=fun p fH=>by
   obtain⟨h2,h3⟩:=lO p fH;rw[←h3];refine he p.1 fun j oj hj iL=>?_;obtain⟨e1,sI,iV,jy⟩:=Ew hq hj iL h2;have:=BJ e1 sI iV;rw[jy] at this;rw[Array.getD_eq_getD_getElem?] at this ⊢;cases hx:ld[j]? with
   | none=>rw[hx] at this;cases this
   | some b=>rw[hx] at this;exact this
  have U:bG C ⟨n,l',S⟩ a w:=⟨hs.defers,hs.size,fun q Cv=>by
   by_cases hm:q∈ts
   ·rw[←hk] at hm;obtain⟨p,fH,rfl⟩:=mem_map.1 hm;have:=hs.env p.1 Cv;rw[ahl p fH] at this;exact this
   have:look q l' = .bU:=by
    rw[←hk] at hm;exact Eg hm
   rw[this];exact .bU _,hs.own,hs.fr,hs.ex,hs.eM⟩
  have jb:∀(a':Act) (w':World),bG C ⟨n,(t,look t O)::env,S⟩ a' w'→Fr w (ap S) w' (ap S)→kE w1 S1 [] w'∧wpAnyH P .any ops (LQ C Q) (kE w1 S1 []) fuel (ld.setIfInBounds i true) a' w':=fun a' w' Z ug=>by
   have jn:Fr w1 S1 w' S1:=hf.trans (hS1 ▸ ug);refine⟨⟨fun b h2 h3=>(jn.block b h2 h3).1,fun b h2=>by cases h2⟩,ih _ _ a' w' w4 Z jn fun q uh=>?_⟩;rw[fO];by_cases I:t=q
   ·rw[if_pos I,I]
   rw[if_neg I];refine he q fun j oj hj iL=>?_;rcases(rZ j).1 (uh j oj hj iL) with rfl|h2
   ·rw[E] at hj;obtain rfl:=Option.some.inj hj;rw[hd] at iL;exact absurd (Option.some.inj iL) I
   exact h2
  unfold wpOp;rw[E];rcases hb with ⟨hw,hE⟩|⟨hw,hv⟩
  ·simp only[hw C a w U,if_true];have h2:=hE C a w (fun a' w'=>bG C ⟨n,(t,look t O)::l',S⟩ a' w'∧Fr w (ap S) w' (ap S)) (LQ C Q) rfl U (fun y a' w' hy Z _ ug=>by subst hy;exact⟨Z,ug⟩);refine .inl (Oper.wp_mono (fun a' w' h3=>?_) (yB h2));obtain⟨⟨h4,h5⟩,v,h6⟩:=h3;rw[hd] at h6;exact jb a' w' (hs.yV h4 h5 h6) h5
  simp only[hw C a w U,hd];have:=hs.put (t:=t) (.v (w:=w) (L:=live C.X S) undef);rw[hv] at jb;exact jb _ w this (Fr.refl _ _)
theorem dm.pd(hp:mb ops=true)(h:PD true P C.G n S ops ops.toList e [] e')(hQ:Q .normal ⟨n,e',S⟩):dm P C ops (ap S) [] ops.size (Array.replicate ops.size false) ⟨n,e,S⟩ Q:=fun a w hs _ _=>by
 have hg:=h.wS hp rfl 0 rfl;refine aex rfl hp (fun i hi=>hg i (Nat.zero_le _) hi) hQ _ _ e a w ?_ hs (Fr.refl _ _) fun q hq=>?_
 ·unfold left;exact Nat.le_trans (length_filter_le _ _) bq
 refine(h.later fun o ho hd=>?_).symm;obtain⟨j,hj,rfl⟩:=mem_iff_getElem.1 ho;have E:j<ops.size:=(by simpa using hj)
 have:=hq j _ (by rw[←Array.getElem?_toList,getElem?_eq_getElem hj]) hd;simp[Array.getD_eq_getD_getElem?,E] at this
theorem CD.pd{id:Nat}{E:Bool}(hm:E=true→P.follows .mixedOrders=true)(hp:E=true→mb l.toArray=true)(h:PD E P C.G n S l.toArray l e [] e')(hQ:Q .normal ⟨n,e',S⟩):CD P C (.region id l.toArray E) ⟨n,e,S⟩ Q:=by
 cases E with
 | false=>exact CD.region (h.od (OD.nil hQ))
 | true=>exact CD.draw [] (hm rfl) (fun _ hb=>by cases hb) (dm.pd (hp rfl) h hQ)

end Go.Proofs.YtbcmjoaggammcaaGreatDoor.V
namespace Go.Proofs.YtbcmjoaggammcaaGreatDoor.V
open List
open Go.RowKit
variable {P:Program} {G:List (Nat×List Value)} {x:St} {o:Oper} {C:dF} {Q:Exit→St→Prop} {ops:Array Oper} {l:List Oper}
variable {L:Nat→Prop} {ks:List Int} {i b:Nat} {k:Int} {kt:TypeId} {y:Operand}
def uY(ks:List Int):List D:=ks.map fun k=>.v (.int .i64 k)
def kG(b:Nat)(ks:List Int):ag:=⟨b,yI,ks.length,uY ks⟩
theorem aba{w:World}{cur:Array Value}(h2:cur.size=ks.length)(h4:∀i (h:i<(uY ks).length),∃u,cur[i]?=some u∧cl w L (uY ks)[i] u):cur=(ks.map (Value.int .i64)).toArray:=by
 apply Array.ext (by simp[h2]);intro i q1 q2;have hi:i<ks.length:=(by omega)
 obtain⟨u,hu,hr⟩:=h4 i (by simpa[uY] using hi);simp only[uY,getElem_map] at hr;have:=hr.kD;subst this;have e:=(Array.getElem?_eq_some_iff.1 hu).2;rw[e];simp
theorem bG.afQ {a:Act} {w:World} (h:bG C x a w) {B B':ag} {lB:Array Value} (hk:x.S[i]?=some B) (hb:B'.b=B.b) (h2:lB.size=B'.size) (h3:B'.cs.length≤B'.size)
  (h4:∀j (hj:j<B'.cs.length),∃u,lB[j]?=some u∧cl w (live C.X x.S) B'.cs[j] u) :
  bG C ⟨x.n,x.env,x.S.set i B'⟩ a {w with heap:=w.heap.setIfInBounds B.b (ob B'.e lB)}∧lK [B.b] w {w with heap:=w.heap.setIfInBounds B.b (ob B'.e lB)}∧Fr w (ap x.S) {w with heap:=w.heap.setIfInBounds B.b (ob B'.e lB)} (ap (x.S.set i B')):=by
 obtain⟨h0,cur,r1,r2,r3,r4⟩:=h.fu hk;generalize I:({w with heap:=w.heap.setIfInBounds B.b (ob B'.e lB)}:World)=w';have i1:w'.heap[B.b]?=some (ob B'.e lB):=(by rw[←I];simp[h0])
 have i2:∀b,b≠B.b→w'.heap[b]?=w.heap[b]?:=fun b hn=>by rw[←I];simp[Ne.symm hn]
 have i3:w'.heap.size=w.heap.size:=(by rw[←I];simp)
 have i4:w'.os=w.os:=(by rw[←I])
 have i5:w'.tape=w.tape:=(by rw[←I])
 have i6:w'.output=w.output:=(by rw[←I])
 have dS:i<x.S.length:=(List.getElem?_eq_some_iff.1 hk).1;have vy:x.S[i]=B:=(List.getElem?_eq_some_iff.1 hk).2;have E:ap (x.S.set i B')=ap x.S:=by
  unfold ap;rw[map_set];apply ext_getElem bq;intro j q1 q2;rw[getElem_set];split
  ·rename_i e;subst e;simp[vy,hb]
  rfl
 have O:live C.X (x.S.set i B')=live C.X x.S:=(by funext b;simp only[live,E])
 have hB:live C.X x.S B.b:=PI hk;have H:∀b,b<w.heap.size→¬live C.X x.S b→w'.heap[b]?=w.heap[b]?∧¬live C.X x.S b:=fun b _ hn=>⟨i2 b (fun e=>hn (e ▸ hB)),hn⟩
 refine⟨⟨h.defers,h.size,fun t ht=>?_,⟨fun B2 hB2=>?_,?_⟩,?_,h.ex,h.eM⟩,⟨by rw[i3];exact Nat.le_refl _,fun b _ hn=>i2 b (by simpa using hn)⟩,?_⟩
 ·simp only[O];exact(h.env t ht).mono H
 ·simp only[O];obtain⟨j,hj,U⟩:=mem_iff_getElem.1 hB2;rw[length_set] at hj;rw[getElem_set] at U;by_cases e:i=j
  ·rw[if_pos e] at U;subst U;refine⟨by rw[i3,hb];exact h0,lB,by rw[hb];exact i1,h2,h3,fun q hq=>?_⟩;obtain⟨u,hu,Mo⟩:=h4 q hq;exact⟨u,hu,Mo.mono H⟩
  rw[if_neg e] at U;subst U;have hne:x.S[j].b≠B.b:=fun he=>by
   have Co:(ap x.S)[j]'zQ=(ap x.S)[i]'zO:=(by simp[ap,he,vy])
   have hp:=pairwise_iff_getElem.1 h.own.apart;rcases Nat.lt_trichotomy j i with Z|Z|Z
   ·exact hp j i zQ zO Z Co
   ·exact e Z.symm
   exact hp i j zO zQ Z Co.symm
  obtain⟨q0,ny,q1,q2,q3,q4⟩:=h.own.at_ x.S[j] (getElem_mem hj);refine⟨by rw[i3];exact q0,ny,(i2 _ hne).trans q1,q2,q3,fun q hq=>?_⟩;obtain⟨u,hu,Mo⟩:=q4 q hq;exact⟨u,hu,Mo.mono H⟩
 ·simp only[E];exact h.own.apart
 ·refine⟨i4.trans h.fr.os,i5.trans h.fr.tape,i6.trans h.fr.output,by rw[i3];exact h.fr.size,fun b jz hn=>?_⟩;obtain⟨q1,q2⟩:=h.fr.block b jz hn;refine⟨(i2 b (fun e=>q2 (e ▸ mem_map.2 ⟨B,mem_of_getElem? hk,rfl⟩))).trans q1,?_⟩;simp only[E];exact q2
 rw[E];exact⟨i4,i5,i6,by rw[i3];exact Nat.le_refl _,fun b jz hn=>⟨i2 b (fun e=>hn (e ▸ mem_map.2 ⟨B,mem_of_getElem? hk,rfl⟩)),hn⟩⟩
theorem Yn{t:TypeId}{tt:Nat}(ho:o.op = .makeMap t none)(hd:o.dst=some tt):fJ P G x o [] (fun y=>∃b,y=⟨x.n,(tt,.v (.map (some b)))::x.env,kG b []::x.S⟩):=fun C a w K Q hG h hK=>by
 have:(execOp a.eval o).run P w = .ok (.value (.map (some w.heap.size))) (w.alloc (ob yI #[])):=by
  unfold execOp;simp[ho,Instr.makeMap,Td,Bi]
 unfold Oper.wp;rw[this,Oper.upon_value,hd];exact hK _ _ _ ⟨w.heap.size,rfl⟩ (h.TU (ds:=[]) (cH.nil _ _) bq (fun L=>.v _)) (lK.alloc _ _) (Fr.alloc _ _ _)
theorem Jv{w:World}(h:J0 w L (kG b ks)):w.heap[b]?=some (Bi (ks.map (Value.int .i64)).toArray):=by
 obtain⟨h0,cur,h1,h2,h3,h4⟩:=h;have h2:cur.size=ks.length:=h2;have:=aba h2 h4;subst this;exact h1
theorem Rq{e:MapEntry}(h:e∈(Array.mapIdx (fun i k=>(⟨k,.agg #[],i⟩:MapEntry)) (ks.map (Value.int .i64)).toArray).toList):∃k∈ks,e.key = .int .i64 k∧e.val = .agg #[]:=by
 obtain⟨i,hi,rfl⟩:=mem_iff_getElem.1 h;have E:i<ks.length:=(by simpa using hi)
 exact⟨ks[i],getElem_mem E,by simp,by simp⟩
theorem PT:(k∉ks∧Instr.findNow (.int .i64) (.int .i64 k) (Array.mapIdx (fun i k=>(⟨k,.agg #[],i⟩:MapEntry)) (ks.map (Value.int .i64)).toArray).toList 0=some none) ∨
  (k∈ks∧∃i,Instr.findNow (.int .i64) (.int .i64 k) (Array.mapIdx (fun i k=>(⟨k,.agg #[],i⟩:MapEntry)) (ks.map (Value.int .i64)).toArray).toList 0=some (some (i,.agg #[]))):=by
 rcases MapKept.findNow_spec (d:=.int .i64) (k:=.int .i64 k) (by simp[MapKept.IsKey]) (Array.mapIdx (fun i k=>(⟨k,.agg #[],i⟩:MapEntry)) (ks.map (Value.int .i64)).toArray).toList 0 (fun e he=>by
   obtain⟨k',_,h1,_⟩:=Rq he;rw[h1];simp[MapKept.IsKey]) with ⟨h1,h2⟩|⟨j,e,h1,h2,h3⟩
 ·refine .inl ⟨fun hm=>?_,h1⟩;obtain⟨i,hi,rfl⟩:=mem_iff_getElem.1 hm;exact h2 ((Array.mapIdx (fun i k=>(⟨k,.agg #[],i⟩:MapEntry)) (ks.map (Value.int .i64)).toArray).toList[i]'(by simpa using hi)) (getElem_mem _) bq
 obtain⟨k',qs,q1,q2⟩:=Rq (mem_of_getElem? h2);rw[h3] at q1;have:k=k':=(by simpa using q1)
 subst this;rw[q2] at h1;exact .inr ⟨qs,_,h1⟩
theorem ZG {U Z:TypeId} {z:Operand} (ho:o.op = .lookup U y z true) (hy:aF x y = .v (.map (some b))) (hz:aF x z = .v (.int .i64 k)) (hk:x.S[i]?=some (kG b ks))
  (hm:P.underlying U=some (.map kt Z)) (E:P.underlying kt=some (.int .i64)) (O:∀w,(zeroValue Z).run P w = .ok (.agg #[]) w):bV P G x o (.fu i) (.dz [.v (.agg #[]),.v (.bool (decide (k∈ks)))]):=fun C a w _ h=>by
 have h1:=Jv (h.fu hk);refine⟨.tuple #[.agg #[],.bool (decide (k∈ks))],.dz _ [.agg #[],.bool (decide (k∈ks))] rfl (fun j q1 q2=>?_),fun w' hw=>?_⟩
 ·rcases j with _|_|j
  ·exact .v _
  ·exact .v _
  simp at q1;omega
 have hh:w'.heap[b]?=_:=(hw _ hk).trans h1;have I:=MapKept.run_checkKey (P:=P) (w:=w') (kt:=kt) (d:=.int .i64) (k:=.int .i64 k) E (by simp[MapKept.IsKey]);unfold execOp;rcases PT (ks:=ks) (k:=k) with ⟨n1,n2⟩|⟨n1,j,n2⟩
 ·have hf:=MapKept.run_findKey (P:=P) (w:=w') E n2;simp only[ho,h.flat hy,h.flat hz,Instr.lookup,Sem.run_bind,run_underlying hm,MapKept.run_getObj_map hh,I,hf,O,Result.andThen_ok,Sem.run_pure,n1,decide_false,if_true]
 have hf:=MapKept.run_findKey (P:=P) (w:=w') E n2;simp only[ho,h.flat hy,h.flat hz,Instr.lookup,Sem.run_bind,run_underlying hm,MapKept.run_getObj_map hh,I,hf,Result.andThen_ok,Sem.run_pure,n1,decide_true,if_true]
theorem YL {mt et:TypeId} {z u:Operand} (ho:o.op = .mapUpdate mt y z u) (hd:o.dst=none) (hy:aF x y = .v (.map (some b))) (hz:aF x z = .v (.int .i64 k)) (hu:aF x u = .agg []) (hk:x.S[i]?=some (kG b ks)) (hn:k∉ks)
  (hm:P.underlying mt=some (.map kt et)) (I:P.underlying kt=some (.int .i64)):fJ P G x o [b] (fun s=>s=⟨x.n,x.env,x.S.set i (kG b (ks++[k]))⟩):=fun C a w K Q hG h hK=>by
 have h1:=Jv (h.fu hk);have hv:a.eval u = .agg #[]:=by
  have:=h.eval u;rw[hu] at this;generalize a.eval u=v at this;cases this with
  | agg _ vs hl _ =>
   have:vs=[]:=eq_nil_of_length_eq_zero (by simpa using hl);subst this;rfl
 have U:=MapKept.run_checkKey (P:=P) (w:=w) (kt:=kt) (d:=.int .i64) (k:=.int .i64 k) I (by simp[MapKept.IsKey]);have hf:=(PT (ks:=ks) (k:=k)).resolve_right fun q=>hn q.1;have Z:=MapKept.run_findKey (P:=P) (w:=w) I hf.2;have E:Obj.map ((Array.mapIdx (fun i k=>(⟨k,.agg #[],i⟩:MapEntry)) (ks.map (Value.int .i64)).toArray).push ⟨.int .i64 k,.agg #[],(ks.map (Value.int .i64)).toArray.size⟩) ((ks.map (Value.int .i64)).toArray.size+1)=ob yI (((ks++[k]).map (Value.int .i64)).toArray):=by
  have e:((ks++[k]).map (Value.int .i64)).toArray=(ks.map (Value.int .i64)).toArray.push (.int .i64 k):=(by simp)
  rw[e,Td,Bi,Array.mapIdx_push,Array.size_push]
 have O:(execOp a.eval o).run P w = .ok .skip {w with heap:=w.heap.setIfInBounds b (ob yI (((ks++[k]).map (Value.int .i64)).toArray))}:=by
  unfold execOp;simp only[ho,h.flat hy,h.flat hz,hv,Instr.mapUpdate,Sem.run_bind,run_underlying hm,MapKept.run_getObj_map h1,U,Z,Result.andThen_ok,MapKept.run_setObj_map _ h1,E,Sem.run_pure]
 obtain⟨s1,s2,s3⟩:=h.afQ (B':=kG b (ks++[k])) (lB:=((ks++[k]).map (Value.int .i64)).toArray) hk rfl (by simp[kG]) (by simp[kG,uY]) (fun j hj=>by
  have iM:j<(ks++[k]).length:=(by simpa[kG,uY] using hj)
  refine⟨.int .i64 (ks++[k])[j],by rw[getElem?_toArray,getElem?_map,getElem?_eq_getElem iM];rfl,?_⟩;simp only[kG,uY,getElem_map];exact .v _)
 unfold Oper.wp;rw[O,Oper.upon_skip,hd];exact hK _ _ _ rfl s1 s2 s3
theorem OD.acJ{t:TypeId}{tt:Nat}(hw:cc ops x o true)(ho:o.op = .makeMap t none)(hd:o.dst=some tt)(K:∀b,OD P C ops l ⟨x.n,(tt,.v (.map (some b)))::x.env,kG b []::x.S⟩ Q):OD P C ops (o::l) x Q :=
 OD.fQ hw (Yn ho hd) fun y ⟨b,hy⟩=>hy ▸ K b
theorem OD.addKey {I O:TypeId} {z u:Operand} (hw:cc ops x o true) (ho:o.op = .mapUpdate I y z u) (hd:o.dst=none) (hy:aF x y = .v (.map (some b))) (hz:aF x z = .v (.int .i64 k)) (U:aF x u = .agg []) (hk:x.S[i]?=some (kG b ks)) (hn:k∉ks)
  (hm:P.underlying I=some (.map kt O)) (E:P.underlying kt=some (.int .i64)) (K:OD P C ops l ⟨x.n,x.env,x.S.set i (kG b (ks++[k]))⟩ Q):OD P C ops (o::l) x Q :=
 OD.fQ hw (YL ho hd hy hz U hk hn hm E) fun y hy=>hy ▸ K

end Go.Proofs.YtbcmjoaggammcaaGreatDoor.V
namespace Go.Proofs.YtbcmjoaggammcaaGreatDoor.V
open List
open Go.RowKit
variable {P:Program} {C:dF} {G:List (Nat×List Value)} {Q:Exit→St→Prop} {x:St} {ops:Array Oper} {l:List Oper} {o:Oper} {S1 T:List Nat} {fuel i:Nat} {ld:Array Bool}
variable {ts:Array TypeId} {S S2 S3:List ag} {post:D→List ag→Prop} {cs':List D} {fo:Operand} {cW:Array Operand}
theorem YM {E kt I:TypeId} {i b:Nat} {ks:List Int} {y:Operand} (ho:o.op = .call {callee:=.builtin .len,args:=#[y],argTypes:=ts}) (ht:ts = #[E]) (hy:aF x y = .v (.map (some b))) (hk:x.S[i]?=some (kG b ks))
  (hm:P.underlying E=some (.map kt I)):bV P G x o (.fu i) (.v (.int .i64 (ks.length:Nat))):=fun C a w _ h=>by
 subst ht;have h1:=Jv (h.fu hk);refine⟨_,.v _,fun w' hw=>?_⟩;have O:w'.heap[b]?=_:=(hw _ hk).trans h1;have hg:=MapKept.run_getObj_map (P:=P) O;have U:=run_underlying hm w';unfold execOp;simp[ho,resolve,invoke,builtin,Builtin.len_,h.flat hy,U,hg,goInt,Result.andThen]
def Cw:List D→List D→Prop
 | [],[]=>True
 | a::l,b::l'=>(a=b∨∃sz,a = .v (.slice none 0 0)∧b = .list sz [] 0)∧Cw l l'
 | _,_=>False
theorem Cw.Cr{w:World}{L:Nat→Prop}:∀{a b:List D} {vs:List Value},Cw a b→cH w L a vs→cH w L b vs
 | [],[],_,_,h=>h
 | a::l,b::l',[],_,h=>by simp[cH] at h
 | a::l,b::l',v::vs,⟨k,t⟩,h=>by
  obtain⟨h0,h1⟩:=h.tail;have h2:=Cw.Cr t h1;refine⟨by have:=h2.1;simp[this],fun i q1 q2=>?_⟩;cases i with
  | zero =>
   rcases k with rfl|⟨sz,rfl,rfl⟩
   ·exact h0
   show cl w L (.list sz [] 0) v;rw[h0.kD];exact .lZ sz none 0
  | succ i=>exact h2.2 i (by simpa using q1) (by simpa using q2)
theorem VC.eD{f:FuncId}{args args':List D}(h:VC P G f args S post)(k:Cw args' args):VC P G f args' S post:=fun X w vs hp=>h X w vs ⟨hp.ex,hp.eM,hp.own,k.Cr hp.args⟩
theorem OD.aey{A:ag}{R:List ag}(hS:x.S=A::R)(E:gv [] A.cs cs')(k:OD P C ops l ⟨x.n,x.env,{A with cs:=cs'}::R⟩ Q):OD P C ops l x Q :=
 OD.cover (Sd:=[]) (by rw[hS,append_nil]) E k

theorem gv.append{S:List ag}:∀{a b c d:List D},gv S a b→gv S c d→gv S (a++c) (b++d)
 | [],[],_,_,_,h=>h
 | _::_,_::_,_,_,h,k=>⟨h.1,gv.append h.2 k⟩
 | [],_::_,_,_,h,_=>h.elim
 | _::_,[],_,_,h,_=>h.elim
theorem gv.same{S:List ag}:∀{a:List D},gv S a a
 | []=>trivial
 | _::_=>⟨eP,gv.same⟩
theorem Ow{sz n cap b e size:Nat}{cs:List D}(E:(⟨b,e,size,cs⟩:ag)∈S)(Z:gv S cs cs')(hl:cs'.length=n*sz)(h1:n≤cap)(h2:cap≤maxLen)(hne:isMap e=false:=by rfl):View S (.v (.slice (some ⟨b,0,none⟩) n cap)) (.list sz cs' n):=fun X Y w v I O ho h=>by
 rw[h.kD];obtain⟨v1,v2⟩:=Z.spec;obtain⟨r0,cur,r1,r2,r3,U⟩:=ho.at_ _ E;rw[jY hne] at r1;refine .list sz cs' n b 0 cap (fun i=>cur.getD i undef) hl h1 h2 r0 (fun hy=>O _ (I _ hy) (mem_map.2 ⟨_,E,rfl⟩)) (fun i hi=>?_) (fun i hi=>?_)
 ·obtain⟨u,hu,_⟩:=U i Fy;rw[Nat.zero_add,nK r1 hu];simp[hu]
 obtain⟨u,hu,hq⟩:=U i Fy;simp only[Array.getD_eq_getD_getElem?,hu,Option.getD_some];exact v2 i w4 hi X Y w u I O ho hq
theorem Ay{Sq:List ag}{e sz n cap:Nat}{cs:List D}{ad:Option Addr}(h:bw e sz cs n ad cap Sq)(E:gv S cs cs')(hl:cs'.length=n*sz)(hs:∀B∈Sq,B∈S)(hne:isMap e=false:=by rfl):View S (.v (.slice ad n cap)) (.list sz cs' n):=by
 rcases h with ⟨rfl,rfl,rfl,rfl,rfl⟩|⟨b,rfl,h1,h2,rfl⟩
 ·have:cs'=[]:=(by cases cs' with|nil=>rfl|cons _ _=>exact E.elim)
  subst this;exact yh
 exact Ow (hne:=hne) (hs _ mem_cons_self) E hl h1 h2
theorem Pv{A S1 E:List ag}:(A++(S1++(S2++(S3++E)))).Perm (S3++(A++(S1++(S2++E)))):=iv fun f=>by simp only[map_append,sum_append];omega
theorem aaW{A S1 E:List ag}:(S3++(A++(S1++(S2++E)))).Perm (A++(S1++(S2++(S3++E)))):=Pv.symm
/-! ### Rows in rows: each element has its cells and its blocks -/
variable {α:Type} {V:α→List D→List ag→Prop}
/-! ### A call that looks at what is owned here, and gives what is its own -/
theorem Hy {f t:Nat} {args:List D} (ho:o.op = .call {callee:=.value fo,args:=cW,argTypes:=ts}) (hd:o.dst=some t)
  (hf:fo = .func f) (fi:∀args w,(callFunc f args).run P w = .ok (.enter f args) w) (hc:VC P G f args [] post) (hr:∀r S',post r S'→kC r=true∧∀B∈S',∀d∈B.cs,kC d=true) (ha:Looks x cW.toList args) :
  fJ P G x o [] (fun y=>∃r S',post r S'∧y=⟨x.n,(t,r)::x.env,S'++x.S⟩):=fun C a w K Q hG h hK=>by
 subst hf;have U:(execOp a.eval o).run P w = .ok (.enter f (cW.toList.map a.eval).toArray) w:=by
  unfold execOp;have e:cW.map a.eval=(cW.toList.map a.eval).toArray:=by
   rw[←Array.toList_map,Array.toArray_toList]
  simp only[ho,resolve,Act.eval,Deferred.ofValue,Sem.run_bind,Sem.run_pure,Result.andThen_ok,invoke,e];simp[fi]
 have Z:Gp G (fun _=>False) w [] args (cW.toList.map a.eval):=by
  refine⟨fun b hx=>hx.elim,fun g hg=>?_,⟨fun B O=>by simp at O,by simp[ap]⟩,(Looks.Cr h ha).mono fun b _ _=>⟨rfl,fun hl=>by rcases hl with hl|hl;exact hl;simp[ap] at hl⟩⟩;rw[←hG] at hg;exact⟨⟨Nat.lt_of_lt_of_le (h.eM g hg).1.1 h.fr.size,by simp[ap],id⟩,fun i v hi=>h.aR hg hi⟩
 unfold Oper.wp;rw[U,Oper.upon_enter,hd];refine(hc _ w _ Z).mono fun e w' ⟨v,r,S',h1,h2,h3,h4,h5⟩=>?_;subst h1;obtain⟨uj,uk⟩:=hr r S' h2;have hb:∀b,b<w.heap.size→w'.heap[b]?=w.heap[b]?:=fun b hb=>(h5.block b hb (by simp[ap])).1;have hn:∀b,b<w.heap.size→b∉ap S':=fun b hb=>(h5.block b hb (by simp[ap])).2;have I:∀b,b<w.heap.size→¬live C.X x.S b→¬live C.X (S'++x.S) b:=fun b E h0 hl=>by
  rcases hl with hl|hl
  ·exact h0 (.inl hl)
  rw[ap,map_append,mem_append] at hl;rcases hl with hl|hl
  ·exact hn b E hl
  exact h0 (.inr hl)
 have base:bG C ⟨x.n,x.env,S'++x.S⟩ a w':=by
  refine⟨h.defers,h.size,fun t ht=>(h.env t ht).mono fun b E h0=>⟨hb b E,I b E h0⟩,⟨fun B O=>?_,?_⟩,?_,h.ex,h.eM⟩
  ·rcases mem_append.1 O with O|O
   ·obtain⟨r0,cur,r1,r2,r3,r4⟩:=h3.at_ B O;refine⟨r0,cur,r1,r2,r3,fun i hi=>?_⟩;obtain⟨u,hu,hq⟩:=r4 i hi;exact⟨u,hu,hq.flat (uk B O _ (getElem_mem hi))⟩
   obtain⟨r0,cur,r1,r2,r3,r4⟩:=h.own.at_ B O;refine⟨qB r0 (hb _ r0),cur,(hb _ r0).trans r1,r2,r3,fun i hi=>?_⟩;obtain⟨u,hu,hq⟩:=r4 i hi;exact⟨u,hu,hq.mono fun b E h0=>⟨hb b E,I b E h0⟩⟩
  ·rw[ap,map_append];refine nodup_append.2 ⟨h3.apart,h.own.apart,fun b iV c aG e=>?_⟩;subst e;obtain⟨B,O,rfl⟩:=mem_map.1 aG;exact hn _ (h.own.at_ B O).1 iV
  refine⟨h5.os.trans h.fr.os,h5.tape.trans h.fr.tape,h5.output.trans h.fr.output,Nat.le_trans h.fr.size h5.size,fun b E h0=>⟨(hb b (Nat.lt_of_lt_of_le E h.fr.size)).trans (h.fr.block b E h0).1,fun hm=>?_⟩⟩;rw[ap,map_append,mem_append] at hm;rcases hm with hm|hm
  ·exact hn b (Nat.lt_of_lt_of_le E h.fr.size) hm
  exact(h.fr.block b E h0).2 hm
 refine hK _ _ _ ⟨r,S',h2,rfl⟩ (base.put (h4.flat uj)) ⟨h5.size,fun b E _=>hb b E⟩ ⟨h5.os,h5.tape,h5.output,h5.size,fun b E h0=>⟨hb b E,fun hm=>?_⟩⟩;rw[ap,map_append,mem_append] at hm;rcases hm with hm|hm
 ·exact hn b E hm
 exact h0 hm
theorem OD.J3 {f t:Nat} {args:List D} (hw:cc ops x o true) (ho:o.op = .call {callee:=.value fo,args:=cW,argTypes:=ts}) (hd:o.dst=some t)
  (hf:fo = .func f) (fi:∀args w,(callFunc f args).run P w = .ok (.enter f args) w) (hc:VC P C.G f args [] post) (hr:∀r S',post r S'→kC r=true∧∀B∈S',∀d∈B.cs,kC d=true) (ha:Looks x cW.toList args)
  (K:∀r S',post r S'→OD P C ops l ⟨x.n,(t,r)::x.env,S'++x.S⟩ Q):OD P C ops (o::l) x Q:=OD.fQ hw (Hy ho hd hf fi hc hr ha) fun y ⟨r,S',hp,hy⟩=>hy ▸ K r S' hp

end Go.Proofs.YtbcmjoaggammcaaGreatDoor.V

namespace Go.Proofs.YtbcmjoaggammcaaGreatDoor.V
open List
open Go.RowKit
/-! ### Values that hold no yield -/
variable {a:Act} {t:Nat}
mutual
def iu:D→Bool
 | .v _=>true
 | .list _ cs _=>fE cs
 | .fx cs _=>fE cs
 | .agg cs=>fE cs
 | .dz cs=>fE cs
 | .ek _ cs=>fE cs
 | .jT _ _=>false
 | .bU=>true
def fE:List D→Bool
 | []=>true
 | d::r=>iu d&&fE r
end

theorem vV:∀{cs:List D},fE cs=true→∀i (h:i<cs.length),iu cs[i]=true
 | [],_,_,h=>by cases h
 | d::r,hn,0,_=>by rw[fE,Bool.and_eq_true] at hn;exact hn.1
 | d::r,hn,i+1,h=>by rw[fE,Bool.and_eq_true] at hn;exact vV hn.2 i oJ
theorem PU:∀{a b:List D},fE a=true→fE b=true→fE (a++b)=true
 | [],_,_,h=>h
 | d::r,b,ha,hb=>by
  rw[fE,Bool.and_eq_true] at ha;rw[cons_append,fE,Bool.and_eq_true];exact⟨ha.1,PU ha.2 hb⟩
theorem uH{α:Type}{g:α→List D}(hg:∀a,fE (g a)=true):∀(ls:List α),fE (ls.flatMap g)=true
 | []=>rfl
 | a::ls=>by rw[flatMap_cons];exact PU (hg a) (uH hg ls)
theorem abb{l:List (Nat×D)}(h:(l.all fun p=>iu p.2)=true)(t:Nat):iu (look t l)=true:=by
 induction l with
 | nil=>rfl
 | cons p l ih =>
  obtain⟨i,d⟩:=p;rw[all_cons,Bool.and_eq_true] at h;rw[fO];split
  ·exact h.1
  exact ih h.2

theorem cl.yW {w w':World} {L O:Nat→Prop} {Z:Nat→Prop} {d:D} {v:Value} (h:cl w L d v) (hn:iu d=true) (H:∀b,b<w.heap.size→¬L b→¬Z b→w'.heap[b]?=w.heap[b]?∧¬O b)
  (U:∀b o,Z b→w.cell? ⟨b,o,none⟩=none) (hs:w.heap.size≤w'.heap.size) (I:∀b,b<w.heap.size→¬L b→Z b→¬O b):cl w' O d v:=by
 induction h with
 | v x=>exact .v x
 | lZ sz ad cap=>exact .lZ sz ad cap
 | list sz cs len b o cap f hl h1 h2 hb hL hc hr ih =>
  rw[iu] at hn;by_cases hz:Z b
  ·have:¬0<cs.length:=fun h0=>by have:=hc 0 h0;rw[U _ _ hz] at this;cases this
   exact .list sz cs len b o cap f hl h1 h2 w4 (I b hb hL hz) (fun i hi=>by omega) (fun i hi=>by omega)
  have E:=H b hb hL hz;exact .list sz cs len b o cap f hl h1 h2 (qB hb E.1) E.2 (fun i hi=>(World.cell?_of_block (w:=w) (a:=⟨b,o+i,none⟩) E.1).trans (hc i hi)) (fun i hi=>ih i hi (vV hn i hi))
 | fx cs off b o f hb hL hc hr ih =>
  rw[iu] at hn;by_cases hz:Z b
  ·have:¬0<cs.length:=fun h0=>by have:=hc 0 h0;rw[U _ _ hz] at this;cases this
   exact .fx cs off b o f w4 (I b hb hL hz) (fun i hi=>by omega) (fun i hi=>by omega)
  have E:=H b hb hL hz;exact .fx cs off b o f (qB hb E.1) E.2 (fun i hi=>(World.cell?_of_block (w:=w) (a:=⟨b,o+i,none⟩) E.1).trans (hc i hi)) (fun i hi=>ih i hi (vV hn i hi))
 | agg cs vs hl hr ih=>rw[iu] at hn;exact .agg cs vs hl fun i h h'=>ih i h h' (vV hn i h)
 | dz cs vs hl hr ih=>rw[iu] at hn;exact .dz cs vs hl fun i h h'=>ih i h h' (vV hn i h)
 | ek fn cs vs hl hr ih=>rw[iu] at hn;exact .ek fn cs vs hl fun i h h'=>ih i h h' (vV hn i h)
 | jT l os h=>rw[iu] at hn;cases hn
 | bU x=>exact .bU x

theorem Own.yW {w w':World} {L:Nat→Prop} {Z:Nat→Prop} {S:List ag} (h:Own w L S) (hS:∀B∈S,L B.b) (hn:∀B∈S,fE B.cs=true) (H:∀b,b<w.heap.size→¬Z b→w'.heap[b]?=w.heap[b]?)
  (O:∀b o,Z b→w.cell? ⟨b,o,none⟩=none) (hs:w.heap.size≤w'.heap.size) (E:∀B∈S,¬Z B.b):Own w' L S :=
 ⟨fun B I=>by
  obtain⟨r0,cur,r1,r2,U,r4⟩:=h.at_ B I;refine⟨by omega,cur,(H _ r0 (E B I)).trans r1,r2,U,fun i hi=>?_⟩;obtain⟨u,hu,hq⟩:=r4 i hi;exact⟨u,hu,hq.yW (vV (hn B I) i hi) (fun b hb hl hz=>⟨H b hb hz,hl⟩) O hs (fun b _ hl _=>hl)⟩,h.apart⟩

theorem Eh{w:World}{b:Nat}{o:Obj}(h:w.heap[b]?=some o)(ho:o.isCells=false)(i:Nat):w.cell? ⟨b,i,none⟩=none:=by
 cases hc:w.cell? ⟨b,i,none⟩ with
 | none=>rfl
 | some v =>
  obtain⟨o',h1,h2⟩:=cells_of_cell hc;have h1:w.heap[b]?=some o':=h1;rw[h] at h1;cases h1;rw[ho] at h2;cases h2

/-! ### What a loop owes its iterator -/
structure Wx (l:Nat) (w:World) (S:List Nat) (w':World) (S':List Nat):Prop where
 os:w'.os=w.os
 tape:w'.tape=w.tape
 output:w'.output=w.output
 size:w.heap.size≤w'.heap.size
 block:∀b,b<w.heap.size→b∉S→(b≠l→w'.heap[b]?=w.heap[b]?)∧b∉S'

structure xK (α:Type) where
 l:Nat
 os:List (Nat×Obj)
 od:List (Nat×Obj)
 enc:α→List D
 J:List α→List ag→Prop
 Jx:List α→List ag→Prop
 N:Nat

def qI(W:World)(L:Nat→Prop)(os:List (Nat×Obj)):Prop:=∀z∈os,z.1<W.heap.size∧¬L z.1∧W.heap[z.1]?=some z.2

def Mp{α:Type}(P:Program)(X0:Nat→Prop)(w0:World)(S0:List Nat)(Y:xK α):Prop :=
 ∀(pre:List α) (y:α) (Sc:List ag) (X:Nat→Prop) (W:World) (vs:List Value),
  Y.J pre Sc→pre.length<Y.N→(∀b,X b→b<W.heap.size∧b∉ap Sc)→(∀b,X0 b→X b)→(∀b,X b→X0 b∨w0.heap.size≤b∨b∈S0) →
  Own W (live X Sc) Sc→cH W (live X Sc) (Y.enc y) vs→Fr w0 S0 W (ap Sc)→qI W (live X Sc) Y.os →
  ∃fn tmps assign body,(Instr.yield Y.l vs.toArray).run P W = .ok (.round Y.l fn tmps assign body) W ∧
   RoundIn Fence.wide 0 P Y.l fn tmps assign body W (fun e W'=>∃b mI,e = .returned (.bool b)∧Own W' (live X mI) mI∧Wx Y.l W (ap Sc) W' (ap mI) ∧
    (b=true→Y.J (pre++[y]) mI∧W'.heap[Y.l]?=W.heap[Y.l]?)∧(b=false→Y.Jx (pre++[y]) mI∧qI W' (live X mI) Y.od))

def mv(G:List (Nat×List Value))(w0:World)(S0:List Nat)(X0:Nat→Prop):Prop:=∀g∈G,(g.1<w0.heap.size∧g.1∉S0∧¬X0 g.1)∧∀i v,g.2[i]?=some v→nM w0 g.1 i v

def VI{α:Type}(P:Program)(G:List (Nat×List Value))(gf:FuncId)(BK:List D)(enc:α→List D)(Sa Sp:List α→Prop)(N:Nat):Prop :=
 ∀(Y:xK α) (X0:Nat→Prop) (w0 W:World) (S0:List Nat) (Sc:List ag) (cv:List Value),Y.enc=enc→Y.N=N →
  (∀b,X0 b→b<w0.heap.size∧b∉S0)→mv G w0 S0 X0→w0.heap.size≤Y.l→Own W (live X0 Sc) Sc→cH W (live X0 Sc) BK cv→Fr w0 S0 W (ap Sc) →
  qI W (live X0 Sc) Y.os→Y.J [] Sc→Mp P X0 w0 S0 Y →
  Calls P gf (#[.func (.yield Y.l) #[] #[]]++cv.toArray) W fun e W'=>∃v mI,e = .returned v∧Own W' (live X0 mI) mI∧Fr w0 S0 W' (ap mI) ∧
   ((∃xs,Sa xs∧Y.J xs mI∧qI W' (live X0 mI) Y.os)∨(∃pre,Sp pre∧Y.Jx pre mI∧qI W' (live X0 mI) Y.od))

variable {P:Program} {C:dF} {G:List (Nat×List Value)} {Q:Exit→St→Prop} {x:St} {ops:Array Oper} {o:Oper} {fuel i:Nat} {ld:Array Bool} {α:Type}

def TX(P:Program)(fn:Func)(Y:xK α)(Sa Sp:List α→Prop)(e:Exit)(y:St):Prop :=
 (e = .normal∨e = .ret)∧(∃r,sL P fn y r)∧0<y.n∧∃mI,mI.Sublist y.S∧((∃xs,Sa xs∧Y.J xs mI∧look 0 y.env = .jT Y.l Y.os)∨(∃pre,Sp pre∧Y.Jx pre mI∧look 0 y.env = .jT Y.l Y.od))
theorem NP.afR{fn:Func}{Y:xK α}{E I:List α→Prop}:NP (TX P fn Y E I):=fun O y t hq=>by rcases hq.1 with h|h<;>cases h

theorem VI.body {gf:FuncId} {fn:Func} {c:Code} {n:Nat} {I:List D} {enc:α→List D} {Sa Sp:List α→Prop} {N:Nat} (hf:P.funcs[gf]?=some fn) (hb:fn.body=some c) (hn:fn.ntmps=n) (hl:1+I.length≤n)
  (h:∀(Y:xK α) X0 w0 S0 Sc,Y.enc=enc→Y.N=N→w0.heap.size≤Y.l→Mp P X0 w0 S0 Y→Y.J [] Sc→CD P ⟨X0,w0,S0,G,[],fun _ _=>False⟩ c ⟨n,rS 0 (.jT Y.l Y.os::I),Sc⟩ (TX P fn Y Sa Sp)):VI P G gf I enc Sa Sp N:=fun Y X0 w0 W S0 Sc cv he hN hex Z aa kf FJ jn ahm hJ hY=>by
 let C:dF:=⟨X0,w0,S0,G,[],fun _ _=>False⟩
 have fa:cH W (live X0 Sc) (.jT Y.l Y.os::I) (.func (.yield Y.l) #[] #[]::cv):=.cons (.jT _ _ ahm) FJ;have ahn:#[Value.func (.yield Y.l) #[] #[]]++cv.toArray=(Value.func (.yield Y.l) #[] #[]::cv).toArray:=(by simp)
 rw[ahn];generalize Wy:Value.func (.yield Y.l) #[] #[]::cv=vs at fa;generalize jm:D.jT Y.l Y.os::I=args at fa;have qw:args.length≤n:=(by rw[←jm];simp;omega)
 have rm:vs.length=args.length:=fa.1;have O:bG C ⟨n,rS 0 args,Sc⟩ {tmps:=vs.toArray++Array.replicate (fn.ntmps-vs.toArray.size) undef,defers:=[]} W:=by
  refine⟨rfl,by simp[hn];omega,fun t ht=>?_,kf,jn,hex,Z⟩;simp only[DM,Nat.zero_le,if_true,Nat.sub_zero];by_cases aa:t<args.length
  ·have e1:args.getD t .bU=args[t]:=(by simp[getD,aa])
   have e2:(vs.toArray++Array.replicate (fn.ntmps-vs.toArray.size) undef).getD t undef=vs[t]'w4:=by
    rw[Array.getD_eq_getD_getElem?,Array.getElem?_append_left gU];simp[show t<vs.length by omega]
   rw[e1,e2];exact fa.2 t aa w4
  have e1:args.getD t .bU = .bU:=(by simp[getD,getElem?_eq_none (show args.length≤t by omega)])
  rw[e1];exact .bU _
 rw[←jm] at O;refine calls_of_wp hf hb (wp_mono (h Y X0 w0 S0 Sc he hN aa hY hJ _ _ O) fun e a w' hq=>?_);rcases hq with ⟨y,h1,h2,⟨r,h3⟩,h0,E,h4,h5⟩|⟨_,hq⟩
 case inr=>exact hq.elim
 obtain⟨v,q1,q2⟩:=h3 C a w' h1;have U:(ap E).Sublist (ap y.S):=Sublist.map _ h4;have raw:∀os,look 0 y.env = .jT Y.l os→qI w' (live X0 E) os:=fun os ho=>by
  have hv:=h1.env 0 h0;rw[ho] at hv;generalize a.tmps.getD 0 undef=u at hv;cases hv with
  | jT _ _ hz=>exact fun z xL=>by obtain⟨z1,z2,z3⟩:=hz z xL;exact⟨z1,fun hl=>z2 (hl.imp id fun q=>U.subset q),z3⟩
 have key:a.defers=[]∧∃v,(results fn a.tmps).run P w' = .ok v w'∧∃v' E,Ending.returned v = .returned v'∧Own w' (live X0 E) E∧Fr w0 S0 w' (ap E)∧((∃xs,Sa xs∧Y.J xs E∧qI w' (live X0 E) Y.os)∨(∃pre,Sp pre∧Y.Jx pre E∧qI w' (live X0 E) Y.od)) :=
  ⟨h1.defers,v,q2,v,E,rfl,h1.own.sub h4,⟨h1.fr.os,h1.fr.tape,h1.fr.output,h1.fr.size,fun b jz hn=>⟨(h1.fr.block b jz hn).1,fun q=>(h1.fr.block b jz hn).2 (U.subset q)⟩⟩,
   h5.imp (fun ⟨xs,s1,s2,s3⟩=>⟨xs,s1,s2,raw _ s3⟩) (fun ⟨pre,s1,s2,s3⟩=>⟨pre,s1,s2,raw _ s3⟩)⟩
 rcases h2 with rfl|rfl<;>exact key

/-! ### A region in which yield is called -/
def AI(P:Program)(C:dF)(ops:Array Oper)(fuel:Nat)(ld:Array Bool)(x:St)(Q:Exit→St→Prop):Prop :=
 ∀a w,bG C x a w→wpAnyIn Fence.wide 0 P .any ops (LQ C Q) fuel ld a w
def gD(P:Program)(C:dF)(ops:Array Oper)(fuel:Nat)(ld:Array Bool)(x:St)(Q:Exit→St→Prop)(i:Nat):Prop :=
 ∀a w,bG C x a w→wpOpIn Fence.wide 0 P ops (LQ C Q) i (wpAnyIn Fence.wide 0 P .any ops (LQ C Q) fuel (ld.setIfInBounds i true)) a w

theorem bG.drew{w:World}(hs:bG C x a w):bG C x a {w with drawn:=w.drawn+1} :=
 ⟨hs.defers,hs.size,fun t ht=>(hs.env t ht).mono fun b _ hn=>⟨rfl,hn⟩,⟨fun B E=>by
  obtain⟨r0,cur,r1,r2,I,O⟩:=hs.own.at_ B E;exact⟨r0,cur,r1,r2,I,fun i hi=>by
   obtain⟨u,hu,hq⟩:=O i hi;exact⟨u,hu,hq.mono fun b _ hn=>⟨rfl,hn⟩⟩⟩,hs.own.apart⟩,⟨hs.fr.os,hs.fr.tape,hs.fr.output,hs.fr.size,hs.fr.block⟩,hs.ex,hs.eM⟩

theorem CD.acK{id:Nat}{l:List Oper}(hm:P.follows .mixedOrders=true)(h:AI P C l.toArray l.toArray.size (Array.replicate l.toArray.size false) x Q):CD P C (.region id l.toArray true) x Q:=fun a w hs =>
 wpIn_wide.1 (wpIn_region_any (F:=Fence.wide) (n:=0) hm (h a _ hs.drew))

theorem AI.all{E:List Nat}(hr:Region.ready .any ops ld=E)(hne:E≠[])(h:∀i∈E,gD P C ops fuel ld x Q i):AI P C ops (fuel+1) ld x Q:=fun a w hs=>wpAnyIn_all hr hne fun i hi=>h i hi a w hs
theorem AI.one(hr:Region.ready .any ops ld=[i])(h:gD P C ops fuel ld x Q i):AI P C ops (fuel+1) ld x Q:=AI.all hr bq fun j hj=>by rw[mem_singleton] at hj;subst hj;exact h
theorem AI.two{j:Nat}(hr:Region.ready .any ops ld=[i,j])(h:gD P C ops fuel ld x Q i)(h':gD P C ops fuel ld x Q j):AI P C ops (fuel+1) ld x Q:=AI.all hr bq fun k hk=>by
 rcases mem_cons.1 hk with rfl|hk
 ·exact h
 rw[mem_singleton] at hk;subst hk;exact h'
theorem AI.done(hr:Region.ready .any ops ld=[])(h:Q .normal x):AI P C ops fuel ld x Q:=fun a w hs=>wpAnyIn_done hr (.inl ⟨x,hs,h⟩) _
theorem AI.wk{y:St}(h:Wk x y)(k:AI P C ops fuel ld y Q):AI P C ops fuel ld x Q:=fun a w hs=>k a w (h C a w hs)
theorem AI.perm{S':List ag}(hp:x.S.Perm S')(k:AI P C ops fuel ld ⟨x.n,x.env,S'⟩ Q):AI P C ops fuel ld x Q:=AI.wk (Wk.perm hp) k
theorem AI.take {d:D} (hi:ops[i]?=some o) (hs:Region.noSelect ops=true) (hf:Region.free .any ops ld i=true) (hr:(Region.ready .any ops ld).contains i=true) (hp:NP Q)
  (hw:cc ops x o true) (qx:∀w a,o.about P w a=none) (hd:o.dst=some t) (h:bV P C.G x o .none d) (K:AI P C ops fuel (ld.setIfInBounds i true) (x.put t d) Q):AI P C ops (fuel+1) ld x Q:=fun a w E=>by
 obtain⟨v,h1,h2⟩:=h C a w rfl E;refine wpAnyIn_take (oi:=o) (v:=v) rfl hi hs hf hr (yS hp _ v) ⟨.inl ⟨hw C a w E,fun w'=>h2 w' trivial⟩,fun w'=>qx w' _⟩ ?_;rw[hd];exact K _ _ (E.put h1)

theorem Rr{K:Act→World→Prop}{Q:Exit→Act→World→Prop}{w:World}(ro:Option Nat)(hd:∀c,o.op≠.defer c)(h:o.wp P a w K Q):o.wpIn {Fence.wide with round:=ro} 0 P a w K Q:=by
 refine⟨fun _ _=>trivial,?_⟩;rw[Oper.semAt_eq _ _ _ hd];unfold Oper.wp at h;generalize (execOp a.eval o).run P w=r at h;have fy:∀m E,Steps P m E→StepsIn (Machine.fenced P {Fence.wide with round:=ro}) P m E:=fun m E hs=>stepsIn_wide.2 hs;match r,h with
 | .ok (.value v) w',h=>exact h
 | .ok .skip w',h=>exact h
 | .ok (.defer d) w',h=>exact h
 | .ok (.enter f args) w',h=>exact⟨fun hc=>(by cases hc),((callsIn_wide (n:=0)).2 h:CallsIn Fence.wide 0 P f args w' _)⟩
 | .ok (.row row args) w',h=>exact⟨fun hc=>(by cases hc),fun c cs _=>let ⟨v,w'',r,s⟩:=h c cs;⟨v,w'',r,fy _ _ s⟩⟩
 | .halt (.panic v) w',h=>exact h

theorem gD.fQ{W:List Nat}{post:St→Prop}(hi:ops[i]?=some o)(hw:cc ops x o true)(xM:∀c,o.op≠.defer c)(h:fJ P C.G x o W post)(k:∀y,post y→AI P C ops fuel (ld.setIfInBounds i true) y Q):gD P C ops fuel ld x Q i:=fun a w E=>by
 unfold wpOpIn;simp only[hi,hw C a w E,if_true];exact Rr none xM (h C a w _ _ rfl E fun y a' w' hp I _ _=>k y hp a' w' I)
theorem gD.still{kd:Rd}{d:D}(hi:ops[i]?=some o)(hw:cc ops x o true)(xM:∀c,o.op≠.defer c)(hd:o.dst=some t)(h:bV P C.G x o kd d)(k:AI P C ops fuel (ld.setIfInBounds i true) (x.put t d) Q):gD P C ops fuel ld x Q i :=
 gD.fQ hi hw xM (h.fQ hd) fun y hy=>by subst hy;exact k
theorem gD.gI {f:Nat} {fo:Operand} {cW:Array Operand} {ts:Array TypeId} {args:List D} {r:D} (hi:ops[i]?=some o) (hw:cc ops x o true) (ho:o.op = .call {callee:=.value fo,args:=cW,argTypes:=ts}) (hd:o.dst=some t)
  (hf:fo = .func f) (fi:∀args w,(callFunc f args).run P w = .ok (.enter f args) w) (hc:VP P C.G f args r) (ha:mA x cW.toList args)
  (K:AI P C ops fuel (ld.setIfInBounds i true) (x.put t r) Q):gD P C ops fuel ld x Q i :=
 gD.fQ hi hw (fun c hc=>by rw[ho] at hc;cases hc) (AK ho hd hf fi ha.eq (eN _) hc) fun y ⟨E,S',⟨h1,h2⟩,hy⟩=>by subst h1 h2 hy;exact K

theorem bG.back{w w':World}(h:bG C x a w){Sf R S':List ag}(hp:x.S.Perm (Sf++R))(h3:Own w' (live (fun b=>C.X b∨b∈ap R) S') S')(h5:Fr w (ap Sf) w' (ap S')):bG C ⟨x.n,x.env,S'++R⟩ a w':=by
 have hb:(ap x.S).Perm (ap Sf++ap R):=(by have:=hp.map ag.b;simpa[ap] using this)
 have hL:=ye (X:=C.X) hp;have hnd:(ap Sf++ap R).Nodup:=hb.nodup_iff.1 h.own.apart;obtain⟨n1,n2,n3⟩:=nodup_append.1 hnd;have O:∀b,b∈ap R→b<w.heap.size:=fun b xH=>by
  obtain⟨B,I,rfl⟩:=mem_map.1 xH;exact(h.own.at_ B (hp.symm.subset (mem_append_right _ I))).1
 have U:live C.X (S'++R)=live (fun b=>C.X b∨b∈ap R) S':=ye (Perm.refl _);have H:∀b,b<w.heap.size→¬live C.X x.S b→w'.heap[b]?=w.heap[b]?∧¬live C.X (S'++R) b:=fun b aa hn=>by
  rw[hL] at hn;have E:b∉ap Sf:=fun hm=>hn (.inr hm);obtain⟨q1,q2⟩:=h5.block b aa E;refine⟨q1,fun hl=>?_⟩;rw[U] at hl;rcases hl with hl|hl
  ·exact hn (.inl hl)
  exact q2 hl
 refine⟨h.defers,h.size,fun t ht=>(h.env t ht).mono H,⟨fun B I=>?_,?_⟩,?_,h.ex,h.eM⟩
 ·rcases mem_append.1 I with I|I
  ·have:=h3.at_ B I;rw[←U] at this;exact this
  obtain⟨r0,cur,r1,r2,r3,r4⟩:=h.own.at_ B (hp.symm.subset (mem_append_right _ I));have Cp:B.b∈ap R:=mem_map.2 ⟨B,I,rfl⟩;have E:B.b∉ap Sf:=fun hm=>n3 B.b hm B.b Cp rfl;have hh:=(h5.block B.b r0 E).1;refine⟨qB r0 hh,cur,hh.trans r1,r2,r3,fun i hi=>?_⟩;obtain⟨u,hu,hq⟩:=r4 i hi;exact⟨u,hu,hq.mono H⟩
 ·show(ap (S'++R)).Nodup;have:ap (S'++R)=ap S'++ap R:=(by simp[ap])
  rw[this];refine nodup_append.2 ⟨h3.apart,n2,fun b iV c aG he=>?_⟩;subst he;have E:b∉ap Sf:=fun hm=>n3 b hm b aG rfl;exact(h5.block b (O b aG) E).2 iV
 refine⟨h5.os.trans h.fr.os,h5.tape.trans h.fr.tape,h5.output.trans h.fr.output,Nat.le_trans h.fr.size h5.size,fun b Z hn=>?_⟩;obtain⟨q1,q2⟩:=h.fr.block b Z hn;have gi:b∉ap Sf:=fun hm=>q2 (hb.symm.subset (mem_append_left _ hm));have iK:b∉ap R:=fun hm=>q2 (hb.symm.subset (mem_append_right _ hm));obtain⟨q3,q4⟩:=h5.block b (Nat.lt_of_lt_of_le Z h.fr.size) gi;refine⟨q3.trans q1,fun hm=>?_⟩;have:ap (S'++R)=ap S'++ap R:=(by simp[ap])
 rw[this] at hm;rcases mem_append.1 hm with hm|hm
 ·exact q4 hm
 exact iK hm

theorem gD.yield {t:Nat} {fo:Operand} {cW:Array Operand} {ts:Array TypeId} {Y:xK α} {pre:List α} {y:α} {Sc R:List ag} (hi:ops[i]?=some o) (hw:cc ops x o true) (ho:o.op = .call {callee:=.value fo,args:=cW,argTypes:=ts}) (hd:o.dst=some t)
  (hf:aF x fo = .jT Y.l Y.os) (hn:0<x.n) (hz:look 0 x.env = .jT Y.l Y.os) (ha:cW.toList.map (aF x)=Y.enc y) (hp:x.S.Perm (Sc++R)) (hJ:Y.J pre Sc) (hN:pre.length<Y.N) (hY:Mp P C.X C.w0 C.S0 Y) (hl:C.w0.heap.size≤Y.l) (h0t:t≠0)
  (kT:∀E,Y.J (pre++[y]) E→AI P C ops fuel (ld.setIfInBounds i true) ⟨x.n,(t,.v (.bool true))::x.env,E++R⟩ Q)
  (kF:∀E,Y.Jx (pre++[y]) E→AI P C ops fuel (ld.setIfInBounds i true) ⟨x.n,[(t,.v (.bool false)),(0,.jT Y.l Y.od)],E⟩ Q):gD P C ops fuel ld x Q i:=fun a w h=>by
 have hb:(ap x.S).Perm (ap Sc++ap R):=(by have:=hp.map ag.b;simpa[ap] using this)
 have hL:=ye (X:=C.X) hp;have hnd:(ap Sc++ap R).Nodup:=hb.nodup_iff.1 h.own.apart;obtain⟨n1,n2,n3⟩:=nodup_append.1 hnd;have aho:∀b,b∈ap R→b<w.heap.size:=fun b xH=>by
  obtain⟨B,hB,rfl⟩:=mem_map.1 xH;exact(h.own.at_ B (hp.symm.subset (mem_append_right _ hB))).1
 have yv:∀(o':Operand) os,aF x o' = .jT Y.l os→a.eval o' = .func (.yield Y.l) #[] #[]∧qI w (live C.X x.S) os:=fun o' os he=>by
  have Z:=h.eval o';rw[he] at Z;generalize a.eval o'=u at Z;cases Z with
  | jT _ _ hz=>exact⟨rfl,hz⟩
 obtain⟨e1,O⟩:=yv fo _ hf;have U:cH w (live C.X x.S) (Y.enc y) (cW.toList.map a.eval):=ha ▸ cH.KB h cW.toList;have e0:a.tmps.getD 0 undef = .func (.yield Y.l) #[] #[]:=by
  have Z:=h.env 0 hn;rw[hz] at Z;generalize a.tmps.getD 0 undef=u at Z;cases Z with
  | jT _ _ _=>rfl
 rw[hL] at O U;obtain⟨fn,tmps,assign,body,hy,hro⟩:=hY pre y Sc (fun b=>C.X b∨b∈ap R) w _ hJ hN (fun b hx=>by
   rcases hx with hx|hx
   ·obtain⟨q1,q2⟩:=h.ex b hx;exact⟨Nat.lt_of_lt_of_le q1 h.fr.size,fun hm=>(h.fr.block b q1 q2).2 (hb.symm.subset (mem_append_left _ hm))⟩
   ·exact⟨aho b hx,fun hm=>n3 b hm b hx rfl⟩) (fun b hx=>.inl hx) (fun b hx=>by
   rcases hx with hx|hx
   ·exact .inl hx
   rcases Nat.lt_or_ge b C.w0.heap.size with aa|Me
   ·by_cases oN:b∈C.S0
    ·exact .inr (.inr oN)
    exact absurd (hb.symm.subset (mem_append_right _ hx)) (h.fr.block b aa oN).2
   exact .inr (.inl Me))
  ⟨fun B hB=>by rw[←hL];exact h.own.at_ B (hp.symm.subset (mem_append_left _ hB)),n1⟩ U
  ⟨h.fr.os,h.fr.tape,h.fr.output,h.fr.size,fun b jz Wz=>⟨(h.fr.block b jz Wz).1,fun hm=>(h.fr.block b jz Wz).2 (hb.symm.subset (mem_append_left _ hm))⟩⟩ O
 have oE:(execOp a.eval o).run P w = .ok (.round Y.l fn tmps assign body) w:=by
  unfold execOp;have e:cW.map a.eval=(cW.toList.map a.eval).toArray:=by
   rw[←Array.toList_map,Array.toArray_toList]
  simp only[ho,resolve,e1,Deferred.ofValue,Sem.run_bind,Sem.run_pure,Result.andThen_ok,invoke,e,Array.empty_append];exact hy
 unfold wpOpIn;simp only[hi,hw C a w h,if_true];refine⟨fun _ _=>trivial,?_⟩;show o.uponIn Fence.wide 0 P a _ _ ((o.semAt none a.eval).run P w);rw[Oper.semAt_none,oE,Oper.uponIn_round];refine⟨fun hc=>(by cases hc),hro.mono fun e w' ⟨b,E,he,h3,h5,hT,hF⟩=>?_⟩;subst he;show wpAnyIn Fence.wide 0 P .any ops (LQ C Q) fuel (ld.setIfInBounds i true) (a.put o.dst (.bool b)) w';rw[hd];have mF:∀q,q<C.w0.heap.size→q≠Y.l:=fun q hq e=>by omega
 cases b with
 | true =>
  obtain⟨j1,j2⟩:=hT rfl;have ahp:Fr w (ap Sc) w' (ap E):=⟨h5.os,h5.tape,h5.output,h5.size,fun q hq Mq=>by
   obtain⟨p1,p2⟩:=h5.block q hq Mq;refine⟨?_,p2⟩;by_cases e:q=Y.l
   ·rw[e];exact j2
   exact p1 e⟩
  exact kT E j1 _ _ ((h.back hp h3 ahp).put (.v _))
 | false =>
  obtain⟨j1,j2⟩:=hF rfl;have I:∀q,live C.X E q→live (fun b=>C.X b∨b∈ap R) E q:=fun q hq=>hq.imp .inl id;have afS:Own w' (live C.X E) E:=⟨fun B hB=>by
   obtain⟨r0,cur,r1,r2,r3,r4⟩:=h3.at_ B hB;exact⟨r0,cur,r1,r2,r3,fun q hq=>by
    obtain⟨u,hu,hh⟩:=r4 q hq;exact⟨u,hu,hh.mono fun b _ hn=>⟨rfl,fun hl=>hn (I b hl)⟩⟩⟩,h3.apart⟩
  refine kF E j1 _ _ ⟨h.defers,by simp[Act.put,h.size],fun q hq=>?_,afS,⟨h5.os.trans h.fr.os,h5.tape.trans h.fr.tape,h5.output.trans h.fr.output,Nat.le_trans h.fr.size h5.size,fun q hq Mq=>?_⟩,h.ex,h.eM⟩
  ·have gX:=h.size;simp only[fO,Act.put];by_cases e:t=q
   ·subst e;rw[if_pos rfl];have:(a.tmps.setIfInBounds t (.bool false)).getD t undef = .bool false:=by
     have hq:t<x.n:=hq;simp[Array.getElem?_setIfInBounds,gX,hq]
    rw[this];exact .v _
   rw[if_neg e];by_cases e2:0=q
   ·subst e2;rw[if_pos rfl];have:(a.tmps.setIfInBounds t (.bool false)).getD 0 undef=a.tmps.getD 0 undef:=by
     simp[Array.getElem?_setIfInBounds,h0t]
    rw[this,e0];exact .jT _ _ fun z xL=>by obtain⟨z1,z2,z3⟩:=j2 z xL;exact⟨z1,fun hl=>z2 (I _ hl),z3⟩
   rw[if_neg e2];exact .bU _
  obtain⟨q1,q2⟩:=h.fr.block q hq Mq;have gi:q∉ap Sc:=fun hm=>q2 (hb.symm.subset (mem_append_left _ hm));obtain⟨p1,p2⟩:=h5.block q (Nat.lt_of_lt_of_le hq h.fr.size) gi;exact⟨(p1 (mF q hq)).trans q1,p2⟩

end Go.Proofs.YtbcmjoaggammcaaGreatDoor.V

namespace Go.Proofs.YtbcmjoaggammcaaGreatDoor.V
open List
open Go.RowKit
variable {P:Program} {C:dF} {G:List (Nat×List Value)} {Q:Exit→St→Prop} {x:St} {ops:Array Oper} {l:List Oper} {o:Oper}
theorem cH.flatten{w:World}{L:Nat→Prop}{us vs:List Value}(h:cH w L (us.map .v) vs):vs=us:=by
 refine ext_getElem (by simpa using h.1) fun i h1 h2=>?_;have:=h.2 i (by simpa using h2) h1;simp only[getElem_map] at this;exact this.kD
theorem VP.Rt{f:FuncId}{vs:List Value}{v:Value}(h:∀w:World,(∀g∈G,∀(i:Nat) (u:Value),g.2[i]?=some u→nM w g.1 i u)→Calls P f vs.toArray w fun e w'=>e = .returned v∧Below w.heap.size w w'):VP P G f (vs.map .v) (.v v):=fun X w us hp=>by
 have E:us=vs:=hp.args.flatten;subst E;refine(h w fun g hg i u hi=>(hp.eM g hg).2 i u hi).mono fun e w' ⟨h1,h2⟩=>?_;refine⟨v,.v v,[],h1,⟨rfl,rfl⟩,⟨fun B I=>by simp at I,by simp[ap]⟩,.v _,⟨h2.os,h2.tape,h2.output,h2.size,fun b hb _=>⟨h2.block b hb,by simp[ap]⟩⟩⟩
theorem acL{t:TypeId}{k:IntKind}{a b r:Int}(h:k.wrap ((BitVec.ofInt k.bits a ^^^ BitVec.ofInt k.bits b).toNat:Int)=r):kx P .xor t (.int k a) (.int k b) (.int k r):=fun y z w=>by subst h;simp only[eqGuard,binOp,Op.intBits,Sem.run_bind];simp
theorem yD{t:TypeId}{k k':IntKind}{a b r:Int}(hb:0≤b)(h:a.fdiv (2 ^ min b.toNat k.bits)=r):kx P .shr t (.int k a) (.int k' b) (.int k r):=fun y z w=>by
 have:¬b<0:=(by omega)
 simp[eqGuard,binOp,Op.shift,this,h]
theorem acM(a:Nat)(h:a<2 ^ 64):a ^^^ 2 ^ 63=if a<2 ^ 63 then a+2 ^ 63 else a-2 ^ 63:=by
 have key:∀b,b<2 ^ 63→b ^^^ 2 ^ 63=2 ^ 63+b:=fun b hb=>by
  refine Nat.eq_of_testBit_eq fun i=>?_;rw[Nat.testBit_xor,Nat.testBit_two_pow];rcases Nat.lt_trichotomy i 63 with hi|hi|hi
  ·rw[Nat.testBit_two_pow_add_gt hi];have:¬63=i:=(by omega)
   simp[this]
  ·subst hi;rw[Nat.testBit_two_pow_add_eq];simp
  have h1:b.testBit i=false:=Nat.testBit_lt_two_pow (Nat.lt_of_lt_of_le hb (Nat.pow_le_pow_right w7 w4));have h2:(2 ^ 63+b).testBit i=false:=Nat.testBit_lt_two_pow (Nat.lt_of_lt_of_le (by omega:2 ^ 63+b<2 ^ 64) (Nat.pow_le_pow_right w7 w4));have:¬63=i:=(by omega)
  rw[h1,h2];simp[this]
 split
 ·rename_i h1;rw[key a h1];omega
 rename_i h1;have h2:=key (a-2 ^ 63) w4;have h3:a=2 ^ 63+(a-2 ^ 63):=(by omega)
 rw[←h2] at h3;generalize a-2 ^ 63=b at h3 ⊢;rw[h3,Nat.xor_assoc,Nat.xor_self,Nat.xor_zero]
theorem PV(n:Int):IntKind.u64.wrap n=n % 18446744073709551616:=rfl
theorem acN{n:Int}(h1:-9223372036854775808≤n)(h2:n≤9223372036854775807):IntKind.u64.wrap ((BitVec.ofInt IntKind.u64.bits (IntKind.u64.wrap n) ^^^ BitVec.ofInt IntKind.u64.bits 9223372036854775808).toNat:Int)=n+9223372036854775808:=by
 rw[PV,PV,BitVec.toNat_xor];have e1:(BitVec.ofInt IntKind.u64.bits (n % 18446744073709551616)).toNat=(n % 18446744073709551616).toNat:=by
  rw[BitVec.toNat_ofInt];show((n % 18446744073709551616) % ((18446744073709551616:Nat):Int)).toNat=_;omega
 have e2:(BitVec.ofInt IntKind.u64.bits 9223372036854775808).toNat=2 ^ 63:=(by decide)
 rw[e1,e2,acM _ w4];split<;>omega
/-! ### make -/

end Go.Proofs.YtbcmjoaggammcaaGreatDoor.V
namespace Go.Proofs.YtbcmjoaggammcaaGreatDoor.V
open List
open Go.RowKit
variable {P:Program} {C:dF} {G:List (Nat×List Value)} {Q:Exit→St→Prop} {x y:St} {ops:Array Oper} {o:Oper} {ro:Nat} {α:Type}
variable {c:Code} {S:List ag} {post:D→List ag→Prop}
def CI(P:Program)(C:dF)(ro:Nat)(c:Code)(x:St)(Q:Exit→St→Prop):Prop:=∀a w,bG C x a w→c.wpIn (Fence.wide.inRound ro) 0 P (LQ C Q) a w
def afT(P:Program)(C:dF)(ro:Nat)(c:Code)(Q:Exit→St→Prop):Exit→St→Prop
 | .normal,y=>CI P C ro c y Q
 | e,y=>Q e y
def NO(Q:Exit→St→Prop):Prop:=∀y,¬Q .outgrown y
theorem CI.skip(h:Q .normal x):CI P C ro .skip x Q:=fun a w hs=>wpIn_skip (.inl ⟨x,hs,h⟩)
theorem CI.exit{id:Nat}(h:Q (.exit id) x):CI P C ro (.exit id) x Q:=fun a w hs=>wpIn_exit (.inl ⟨x,hs,h⟩)
theorem CI.seq{c d:Code}(h:CI P C ro c x (afT P C ro d Q)):CI P C ro (.seq c d) x Q:=fun a w hs =>
 wpIn_seq (wpIn_mono (h a w hs) fun e a' w' h=>by
  rcases h with ⟨y,h1,h2⟩|⟨rfl,h⟩
  ·cases e<;>first|exact h2 a' w' h1|exact .inl ⟨y,h1,h2⟩
  exact .inr ⟨rfl,h⟩)
theorem CI.cond{c:Operand}{d e:Code}{b:Bool}(hc:aF x c = .v (.bool b))(ht:b=true→CI P C ro d x Q)(hf:b=false→CI P C ro e x Q):CI P C ro (.cond c d e) x Q:=fun a w hs =>
 wpIn_cond_split (hs.flat hc) (fun h=>ht h a w hs) (fun h=>hf h a w hs)
theorem CI.J1{c:Operand}{d e:Code}{b:Bool}(hc:aF x c = .v (.bool b))(hb:b=false)(hf:CI P C ro e x Q):CI P C ro (.cond c d e) x Q:=fun a w hs =>
 wpIn_cond_false (by rw[hs.flat hc,hb]) (hf a w hs)
theorem CI.block{id:Nat}{c:Code}(h:CI P C ro c x (AT id Q)):CI P C ro (.block id c) x Q:=fun a w hs =>
 wpIn_block (wpIn_mono (h a w hs) fun e a' w' h=>by
  rcases h with ⟨y,h1,h2⟩|⟨rfl,h⟩
  case inr=>exact .inr ⟨rfl,h⟩
  cases e with
  | exit sJ =>
   simp only[AT] at h2;simp only[Exit.inBlock];by_cases he:sJ=id
   ·subst he;rw[if_pos rfl];simp at h2;exact .inl ⟨y,h1,h2⟩
   rw[if_neg he];have:Nat.beq sJ id=false:=by
    cases h:Nat.beq sJ id with
    | false=>rfl
    | true=>exact absurd (Nat.eq_of_beq_eq_true h) he
   rw[this] at h2;exact .inl ⟨y,h1,h2⟩
  | _=>exact .inl ⟨y,h1,h2⟩)
def KE(l:List Oper):Bool:=l.all fun o=>match o.op with|.defer _=>false|_=>true
theorem IM{Q:Exit→Act→World→Prop}(kN:¬LetsOut Q):∀(l:List Oper),KE l=true→∀a w,wpList P ops Q l a w→wpListIn (Fence.wide.inRound ro) 0 P ops Q l a w
 | [],_,a,w,h=>h
 | o::l,hd,a,w,h=>by
  unfold KE at hd;rw[all_cons,Bool.and_eq_true] at hd;obtain⟨hd1,hd2⟩:=hd;unfold wpList at h;unfold wpListIn;split at h
  ·rename_i hw;rw[if_pos hw];rcases h with h|⟨_,h⟩
   ·exact Oper.wpIn_mono (fun a w h=>IM kN l hd2 a w h) (Rr (some ro) (fun c hc=>by rw[hc] at hd1;cases hd1) h)
   exact absurd h kN
  rename_i hw;rw[if_neg hw];exact⟨fun _ _=>trivial,IM kN l hd2 _ _ h⟩
theorem CI.region{id:Nat}{l:List Oper}(kN:NO Q)(hd:KE l=true)(h:OD P C l.toArray l x Q):CI P C ro (.region id l.toArray false) x Q:=fun a w hs =>
 wpIn_region_lit (IM (fun ⟨a,w,hq⟩=>by
  rcases hq with ⟨y,_,hq⟩|⟨hq,_⟩
  ·exact kN y hq
  cases hq) l hd a w (h a w hs))
/-! ### The loop -/
def KF:List Tmp→List D→List (Nat×D)→List (Nat×D)
 | t::ts,d::ds,env=>KF ts ds ((t,d)::env)
 | _,_,env=>env
theorem bG.params{n:Nat}{S:List ag}:∀{ts:List Tmp} {ds:List D} {vs:List Value} {env:List (Nat×D)} {tm:Array Value} {w:World},bG C ⟨n,env,S⟩ {tmps:=tm,defers:=[]} w→cH w (live C.X S) ds vs→ds.length=ts.length→bG C ⟨n,KF ts ds env,S⟩ {tmps:=(ts.zip vs).foldl (fun tm (t,v)=>tm.setIfInBounds t v) tm,defers:=[]} w
 | [],ds,vs,env,tm,w,h,_,hl=>by
  have:ds=[]:=length_eq_zero_iff.1 hl;subst this;exact h
 | t::ts,[],_,_,_,_,_,_,hl=>by cases hl
 | t::ts,d::ds,[],_,_,_,_,hr,_=>by simp[cH] at hr
 | t::ts,d::ds,v::vs,env,tm,w,h,hr,hl=>by
  obtain⟨h0,h1⟩:=hr.tail;exact bG.params (env:=(t,d)::env) (tm:=tm.setIfInBounds t v) (h.put h0) h1 (by simpa using hl)
def aez(J Jx:List α→List ag→Prop)(jc:Code)(xs:List α):Exit→St→Prop
 | .normal,z=>∃S',S'.Sublist z.S∧J xs S'
 | .ret,z=>jc = .ret∧∃S',S'.Sublist z.S∧Jx xs S'
 | .exit i,z=>jc = .exit i∧∃S',S'.Sublist z.S∧Jx xs S'
 | _,_=>False
def yX(P:Program)(fn:Func)(post:D→List ag→Prop)(y:St):Prop :=
 (y.env.all fun p=>iu p.2)=true∧(∀B∈y.S,fE B.cs=true)∧∃r S',S'.Sublist y.S∧sL P fn y r∧iu r=true∧post r S'
def afU(P:Program)(fn:Func)(post:D→List ag→Prop)(e:Exit)(y:St):Prop:=e = .ret∧yX P fn post y
def mark(D:Nat):Deferred:={target:=.collected D,args:=#[]}
def wE(P:Program)(fn:Func)(post:D→List ag→Prop)(X:Nat→Prop)(w0:World)(S0:List Nat):Act→World→Prop:=fun a w =>
 ∃(Dd:Nat) (C':dF) (y:St),C'.X=X∧a.defers=[mark Dd]∧Fr w0 S0 C'.w0 C'.S0∧w0.heap.size≤Dd∧Dd<C'.w0.heap.size∧Dd∉C'.S0∧C'.w0.heap[Dd]?=some (.deferred (some []))∧bG C' y a w∧yX P fn post y
theorem bG.Tf {a:Act} {w:World} (h:bG C y a w) {l:Nat} {o1 o2:Obj} (hl:w.heap[l]?=some o1) (ho:o1.isCells=false) (O:l∉ap y.S) (hlX:¬C.X l) (hn:(y.env.all fun p=>iu p.2)=true) (hS:∀B∈y.S,fE B.cs=true)
  (I:mv G (w.putObj l o2) (ap y.S) C.X) (Cn:Act→World→Prop):bG ⟨C.X,w.putObj l o2,ap y.S,G,a.defers,Cn⟩ y a (w.putObj l o2):=by
 have aa:l<w.heap.size:=(Array.getElem?_eq_some_iff.1 hl).1;have E:(w.putObj l o2).heap.size=w.heap.size:=World.putObj_size;have H:∀b,b≠l→(w.putObj l o2).heap[b]?=w.heap[b]?:=fun b hb=>World.putObj_heap_other hb;refine⟨rfl,h.size,fun t ht=>(h.env t ht).yW (Z:=fun b=>b=l) (abb hn t) (fun b _ hb hz=>⟨H b hz,hb⟩) (fun b i hz=>by subst hz;exact Eh hl ho i) (by rw[E];exact Nat.le_refl _) (fun b _ hb _=>hb),
  h.own.yW (Z:=fun b=>b=l) (fun B U=>.inr (mem_map.2 ⟨B,U,rfl⟩)) hS (fun b _ hz=>H b hz) (fun b i hz=>by subst hz;exact Eh hl ho i) (by rw[E];exact Nat.le_refl _) (fun B U e=>O (e ▸ mem_map.2 ⟨B,U,rfl⟩)),
  Fr.refl _ _,fun b hb=>?_,I⟩
 show b<(w.putObj l o2).heap.size∧b∉ap y.S;rw[E];exact⟨Nat.lt_of_lt_of_le (h.ex b hb).1 h.fr.size,(h.fr.block b (h.ex b hb).1 (h.ex b hb).2).2⟩
theorem VC.yY {f:FuncId} {fn:Func} {n:Nat} {args:List D} (hf:P.funcs[f]?=some fn) (hb:fn.body=some c) (hn:fn.ntmps=n) (hl:args.length≤n)
  (h:∀X w0 S0,CD P ⟨X,w0,S0,G,[],wE P fn post X w0 S0⟩ c ⟨n,rS 0 args,S⟩ (Body P fn post)):VC P G f args S post:=fun X w vs hp=>by
 have rm:vs.length=args.length:=hp.args.1;let C:dF:=⟨X,w,ap S,G,[],wE P fn post X w (ap S)⟩
 have U:bG C ⟨n,rS 0 args,S⟩ {tmps:=vs.toArray++Array.replicate (fn.ntmps-vs.toArray.size) undef,defers:=[]} w:=by
  refine⟨rfl,by simp[hn];omega,fun t ht=>?_,hp.own,Fr.refl _ _,hp.ex,hp.eM⟩;simp only[DM,Nat.zero_le,if_true,Nat.sub_zero];by_cases aa:t<args.length
  ·have e1:args.getD t .bU=args[t]:=(by simp[getD,aa])
   have e2:(vs.toArray++Array.replicate (fn.ntmps-vs.toArray.size) undef).getD t undef=vs[t]'w4:=by
    rw[Array.getD_eq_getD_getElem?,Array.getElem?_append_left gU];simp[show t<vs.length by omega]
   rw[e1,e2];exact hp.args.2 t aa w4
  have e1:args.getD t .bU = .bU:=(by simp[getD,getElem?_eq_none (show args.length≤t by omega)])
  rw[e1];exact .bU _
 refine callsIn_wide.1 (callsIn_of_wp_marks (F:=Fence.wide) (n:=0) hf hb trivial (wpIn_wide.2 (wp_mono (h X w (ap S) _ _ U) fun e a w' hq=>?_)) rfl);rcases hq with ⟨y,h1,h2,r,S',h3,h4,h5⟩|⟨rfl,O,C',y,hX,xM,Z,hD0,hD1,hD2,hD3,h1,Mr,Ad,r,S',h3,h4,hnr,h5⟩
 ·obtain⟨v,q1,q2⟩:=h4 C a w' h1;have E:(ap S').Sublist (ap y.S):=Sublist.map _ h3;have key:LeavesInM Fence.wide 0 P fn a.tmps (fun e w'=>∃v r S',e = .returned v∧post r S'∧Own w' (live X S') S'∧cl w' (live X S') r v∧Fr w (ap S) w' (ap S')) a.defers .returning w':=by
   rw[show a.defers=[] from h1.defers];exact⟨v,q2,v,r,S',rfl,h5,h1.own.sub h3,q1.mono fun b _ hn=>⟨rfl,fun hl=>hn (hl.imp id fun q=>E.subset q)⟩,
    ⟨h1.fr.os,h1.fr.tape,h1.fr.output,h1.fr.size,fun b I hn=>⟨(h1.fr.block b I hn).1,fun q=>(h1.fr.block b I hn).2 (E.subset q)⟩⟩⟩
  rcases h2 with rfl|rfl<;>exact key
 show LeavesInM Fence.wide 0 P fn a.tmps _ a.defers .returning w';rw[xM];obtain⟨f1,f2⟩:=h1.fr.block O hD1 hD2;have hD:w'.heap[O]?=some (.deferred (some [])):=f1.trans hD3;have hXD:¬C'.X O:=fun hx=>by rw[hX] at hx;have:=(hp.ex O hx).1;omega
 have um:=h1.Tf (G:=[]) (o2:=.deferred none) hD rfl f2 hXD Mr Ad (fun g hg=>by cases hg) (fun _ _=>False);obtain⟨v,q1,q2⟩:=h4 _ a _ um;have E:(ap S').Sublist (ap y.S):=Sublist.map _ h3;refine⟨by simp,.inl ⟨O,_,rfl,run_takeDeferred hD,v,q2,v,r,S',rfl,h5,?_,?_,?_⟩⟩
 ·have:=um.own.sub h3;rw[show(⟨C'.X,w'.putObj O (.deferred none),ap y.S,[],a.defers,fun _ _=>False⟩:dF).X=X from hX] at this;exact this
 ·rw[←hX];exact q1.mono fun b _ hn=>⟨rfl,fun hl=>hn (hl.imp id fun q=>E.subset q)⟩
 have k:=Z.trans h1.fr;exact⟨k.os,k.tape,k.output,by rw[World.putObj_size];exact k.size,fun b I hn=>by
  obtain⟨k1,k2⟩:=k.block b I hn;exact⟨(World.putObj_heap_other w4).trans k1,fun q=>k2 (E.subset q)⟩⟩
theorem PW(w:World)(o:Obj)(S:List Nat)(hS:∀b∈S,b<w.heap.size):Fr w S (w.alloc o) S:=⟨rfl,rfl,rfl,by rw[World.size_alloc];omega,fun b hb hn=>⟨Below.heap_alloc w o b hb,hn⟩⟩
theorem mv.on{w w':World}{S S':List Nat}{X E:Nat→Prop}(h:mv G w S X)(hf:∀b,b<w.heap.size→b∉S→¬X b→w'.heap[b]?=w.heap[b]?∧b∉S'∧¬E b):mv G w' S' E:=fun g hg=>by
 obtain⟨⟨h1,h2,h3⟩,h4⟩:=h g hg;obtain⟨f1,f2,f3⟩:=hf g.1 h1 h2 h3;exact⟨⟨qB h1 f1,f2,f3⟩,fun i v hi=>(h4 i v hi).on f1⟩
def vz(P:Program)(C:dF)(b rest:Code)(x:St)(Q:Exit→St→Prop):Prop:=∀a w,bG C x a w→b.wp P (Exit.then (rest.wp P (LQ C Q)) (LQ C Q)) a w
def afV(P:Program)(C:dF)(b rest:Code)(Q:Exit→St→Prop):Exit→St→Prop
 | .normal,y=>vz P C b rest y Q
 | e,y=>Q e y
theorem CD.ahq{b d:Code}(h:CD P C d x (afV P C b c Q)):CD P C (.seq (.seq d b) c) x Q:=fun a w hs =>
 wp_seq (wp_seq (wp_mono (h a w hs) fun e a' w' h=>by
  rcases h with ⟨y,h1,h2⟩|⟨rfl,h⟩
  ·cases e<;>first|exact h2 a' w' h1|exact .inl ⟨y,h1,h2⟩
  exact .inr ⟨rfl,h⟩))
theorem vz.wk{b:Code}(h:Wk x y)(k:vz P C b c y Q):vz P C b c x Q:=fun a w hs=>k a w (h C a w hs)
theorem vz.range {X:Nat→Prop} {w0:World} {S0:List Nat} {fn:Func} {g:Operand} {ps:Array Tmp} {assign body:Code} {gf:FuncId} {BK:List D} {enc:α→List D} {Sa Sp:List α→Prop} {N id:Nat} {rest:Code}
  (hg:aF x g = .ek (.func gf) BK) (eg:∀args w,(callFunc gf args).run P w = .ok (.enter gf args) w) (hvi:VI P G gf BK enc Sa Sp N) (gM:∀y,(enc y).length=ps.toList.length) (hne:∀y,fE (enc y)=true)
  (jc:Code) (xN:jc = .ret∨jc = .exit id) (J Jx:List α→List ag→Prop) (WA:∀pre Sc,J pre Sc→∀B∈Sc,fE B.cs=true) (KG:∀pre Sc,Jx pre Sc→∀B∈Sc,fE B.cs=true) (h0:J [] x.S)
  (AQ:List α→α→List ag→St→Prop) (hAQ:∀pre y Sc z,AQ pre y Sc z→(z.env.all fun p=>iu p.2)=true∧∀B∈z.S,fE B.cs=true)
  (acO:∀X' W' S' l pre y Sc,J pre Sc→pre.length<N→CI P ⟨X',W',S',G,[],fun _ _=>False⟩ l assign ⟨x.n,KF ps.toList (enc y) x.env,Sc⟩ (fun e z=>e = .normal∧AQ pre y Sc z))
  (afW:∀X' W' S' l pre y Sc z,J pre Sc→pre.length<N→AQ pre y Sc z→CI P ⟨X',W',S',G,[],fun _ _=>False⟩ l body z (aez J Jx jc (pre++[y])))
  (afX:∀W' S' D Sc,((∃xs,Sa xs∧J xs Sc)∨(jc = .exit id∧∃pre,Sp pre∧Jx pre Sc))→CD P ⟨X,W',S',G,[mark D],fun _ _=>False⟩ rest ⟨x.n,x.env,Sc⟩ (afU P fn post))
  (mz:jc = .ret→∀pre Sc,Sp pre→Jx pre Sc→yX P fn post ⟨x.n,x.env,Sc⟩):vz P ⟨X,w0,S0,G,[],wE P fn post X w0 S0⟩ (.block id (.rangeFunc g ps assign body)) rest x Q:=fun a w hs=>by
 have hex:∀b,X b→b<w.heap.size∧b∉ap x.S:=fun b hb=>⟨Nat.lt_of_lt_of_le (hs.ex b hb).1 hs.fr.size,(hs.fr.block b (hs.ex b hb).1 (hs.ex b hb).2).2⟩
 have FK:mv G w (ap x.S) X:=mv.on (w:=w0) (S:=S0) (X:=X) hs.eM fun b h1 h2 h3=>⟨(hs.fr.block b h1 h2).1,(hs.fr.block b h1 h2).2,h3⟩
 have KH:∀b∈ap x.S,b<w.heap.size:=fun b hb=>by
  obtain⟨B,hB,rfl⟩:=mem_map.1 hb;exact(hs.own.at_ B hB).1
 -- the ama value
 obtain⟨lb,hgv,hlb⟩:∃lb:List Value,a.eval g = .func (.func gf) #[] lb.toArray∧cH w (live X x.S) BK lb:=by
  have hv:=hs.eval g;rw[hg] at hv;generalize a.eval g=u at hv;cases hv with
  | ek _ _ vs hl hr=>exact⟨vs,rfl,hl,hr⟩
 refine(wp_block (wpIn_wide.1 (wpIn_rangeFunc (F:=Fence.wide) (n:=0) fun WB _=>?_)));obtain⟨rec,wT⟩:∃rec:LoopState→Option Code→Loop,rec=fun st pe=>{state:=st,pending:=pe,fn:=WB,tmps:=a.tmps,params:=ps,assign,body,defers:=w.heap.size}:=⟨_,rfl⟩
 obtain⟨W1,Cx⟩:∃W1,(w.alloc (.deferred (some []))).alloc (.loop (rec .ready none))=W1:=⟨_,rfl⟩
 have WD:W1.heap[w.heap.size+1]?=some (.loop (rec .ready none)):=by
  rw[←Cx];have:=World.alloc_heap_new (w.alloc (.deferred (some []))) (.loop (rec .ready none));rwa [World.size_alloc] at this
 have WE:W1.heap[w.heap.size]?=some (.deferred (some [])):=by
  rw[←Cx];exact(Below.heap_alloc _ _ _ bq).trans (World.alloc_heap_new w _)
 have WG:Fr w (ap x.S) W1 (ap x.S):=by
  rw[←Cx];exact(PW w _ _ KH).trans (PW _ _ _ fun b hb=>by rw[World.size_alloc];have:=KH b hb;omega)
 have Ms:∀b,b<w.heap.size→W1.heap[b]?=w.heap[b]?:=fun b hb=>by
  rw[←Cx,Below.heap_alloc _ _ _ (by rw[World.size_alloc];omega),Below.heap_alloc _ _ _ hb]
 have afY:Own W1 (live X x.S) x.S:=⟨fun B hB=>by
  obtain⟨r0,cur,r1,r2,r3,r4⟩:=hs.own.at_ B hB;exact⟨Nat.lt_of_lt_of_le r0 WG.size,cur,(Ms _ r0).trans r1,r2,r3,fun i hi=>by
   obtain⟨u,hu,hq⟩:=r4 i hi;exact⟨u,hu,hq.mono fun b hb hn=>⟨Ms b hb,hn⟩⟩⟩,hs.own.apart⟩
 have WH:∀b,w.heap.size≤b→¬live X x.S b:=fun b hb hl=>by
  rcases hl with hl|hl
  ·have:=(hex b hl).1;omega
  have:=KH b hl;omega
 let Y:xK α:=⟨w.heap.size+1,[(w.heap.size+1,.loop (rec .ready none)),(w.heap.size,.deferred (some []))],[(w.heap.size+1,.loop (rec .done (some jc))),(w.heap.size,.deferred (some []))],enc,J,Jx,N⟩
 have afZ:qI W1 (live X x.S) Y.os:=fun z hz=>by
  rcases mem_cons.1 hz with rfl|hz
  ·exact⟨(Array.getElem?_eq_some_iff.1 WD).1,WH _ bq,WD⟩
  rw[mem_singleton] at hz;subst hz;exact⟨(Array.getElem?_eq_some_iff.1 WE).1,WH _ (Nat.le_refl _),WE⟩
 -- the amc j5,later
 have US:∀(W:World) (Xr:Nat→Prop) (Sc:List ag),Fr w (ap x.S) W (ap Sc)→(∀b,Xr b→X b∨w.heap.size≤b∨b∈ap x.S)→∀t,t<x.n→cl W (live Xr Sc) (look t x.env) (a.tmps.getD t undef):=fun W Xr Sc hf hx t ht =>
  (hs.env t ht).mono fun b hb hn=>by
   have Ad:b∉ap x.S:=fun h=>hn (.inr h);obtain⟨k1,k2⟩:=hf.block b hb Ad;refine⟨k1,fun hl=>?_⟩;rcases hl with hl|hl
   ·rcases hx b hl with h|h|h
    ·exact hn (.inl h)
    ·omega
    exact Ad h
   exact k2 hl
 -- what follows
 have after:∀(E:World) (Sc:List ag),Fr w (ap x.S) E (ap Sc)→Own E (live X Sc) Sc→E.heap[w.heap.size]?=some (.deferred (some []))→w.heap.size∉ap Sc →
   bG ⟨X,E,ap Sc,G,[mark w.heap.size],fun _ _=>False⟩ ⟨x.n,x.env,Sc⟩ {a with defers:=[mark w.heap.size]++a.defers} E∧∀a' w' y,bG ⟨X,E,ap Sc,G,[mark w.heap.size],fun _ _=>False⟩ y a' w'→yX P fn post y→wE P fn post X w0 S0 a' w':=fun E Sc hf ho hk hkS=>by
  refine⟨⟨by show[mark w.heap.size]++a.defers=_;rw[show a.defers=[] from hs.defers];rfl,hs.size,fun t ht=>US E X Sc hf (fun b hb=>.inl hb) t ht,ho,Fr.refl _ _,fun b hb=>⟨Nat.lt_of_lt_of_le (hex b hb).1 hf.size,(hf.block b (hex b hb).1 (hex b hb).2).2⟩,mv.on FK fun b h1 h2 h3=>⟨(hf.block b h1 h2).1,(hf.block b h1 h2).2,h3⟩⟩,fun a' w' y h1 h2=>?_⟩;exact⟨w.heap.size,_,y,rfl,h1.defers,hs.fr.trans hf,hs.fr.size,(Array.getElem?_eq_some_iff.1 hk).1,hkS,hk,h1,h2⟩
 refine⟨w.heap.size+1,[mark w.heap.size],W1,{target:=.fn (.func gf) lb.toArray,args:=#[.func (.yield (w.heap.size+1)) #[] #[]]},W1,gf,#[.func (.yield (w.heap.size+1)) #[] #[]]++lb.toArray,W1,?_,?_,fun _ _=>trivial,?_,fun hc=>(by cases hc),?_⟩
 ·rw[←Cx,wT];exact run_enterLoop_outer _ _ _ _ _
 ·simp only[resolve,hgv];simp[go_sem]
 ·simp[invoke,go_sem,eg]
 refine callsIn_wide.2 ((hvi Y X w W1 (ap x.S) x.S lb rfl rfl hex FK (by simp[Y]) afY (hlb.mono fun b hb hn=>⟨Ms b hb,hn⟩) WG afZ h0 ?_).mono ?_)
 ·
  intro pre y Sc Xr W vs hJ hN ahr hX1 Mt kf FJ jn I;have hl:W.heap[w.heap.size+1]?=some (.loop (rec .ready none)):=(I _ mem_cons_self).2.2;have hk:W.heap[w.heap.size]?=some (.deferred (some [])):=(I _ (mem_cons_of_mem _ mem_cons_self)).2.2;have WI:¬live Xr Sc (w.heap.size+1):=(I _ mem_cons_self).2.1;have WJ:¬live Xr Sc w.heap.size:=(I _ (mem_cons_of_mem _ mem_cons_self)).2.1;have dS:w.heap.size<W.heap.size:=(Array.getElem?_eq_some_iff.1 hk).1;have lP:w.heap.size+1<W.heap.size:=(Array.getElem?_eq_some_iff.1 hl).1;have rm:vs.length=ps.toList.length:=(by rw[FJ.1];exact gM y)
  have hy:=run_yield (P:=P) (args:=vs.toArray) hl (by rw[wT];simp at rm ⊢;exact rm);rw[wT] at hy;refine⟨WB,_,assign,body,hy,roundIn_of_wpIn trivial ?_⟩;have af0:mv G W (ap Sc) Xr:=mv.on FK fun b h1 h2 h3=>⟨(jn.block b h1 h2).1,(jn.block b h1 h2).2,fun hx=>by
   rcases Mt b hx with h|h|h
   ·exact h3 h
   ·omega
   exact h2 h⟩
  have af1:bG ⟨Xr,W,ap Sc,G,[],fun _ _=>False⟩ ⟨x.n,x.env,Sc⟩ {tmps:=a.tmps,defers:=[]} W:=⟨rfl,hs.size,fun t ht=>US W Xr Sc jn Mt t ht,kf,Fr.refl _ _,ahr,af0⟩
  have ahs:(ps.zip vs.toArray).foldl (fun t (p,v)=>t.setIfInBounds p v) a.tmps=(ps.toList.zip vs).foldl (fun t (p,v)=>t.setIfInBounds p v) a.tmps:=by
   rw[←Array.foldl_toList];simp
  refine wpIn_mono (acO Xr W (ap Sc) _ pre y Sc hJ hN _ _ (by
   have:=af1.params FJ (gM y);rw[←ahs] at this;exact this)) fun e a1 w1 hq=>?_
  rcases hq with ⟨z,lQ,rfl,Cy⟩|⟨_,hq⟩
  case inr=>exact hq.elim
  obtain⟨Mr,Ad⟩:=hAQ _ _ _ _ Cy;obtain⟨f1,f2⟩:=lQ.fr.block (w.heap.size+1) lP (fun h=>WI (.inr h));have jP:w1.heap[w.heap.size+1]?=some (.loop (rec .ready none)):=f1.trans hl;have ir:w1.heap.size=(w1.putObj (w.heap.size+1) (.loop {rec .ready none with state:=.busy})).heap.size:=(by rw[World.putObj_size])
  have WK:¬Xr (w.heap.size+1):=fun h=>WI (.inl h);have O:∀(u:World) (ob:Obj) b,b≠w.heap.size+1→(u.putObj (w.heap.size+1) ob).heap[b]?=u.heap[b]?:=fun u ob b hb=>World.putObj_heap_other hb;obtain⟨W2,uo⟩:∃W2,w1.putObj (w.heap.size+1) (.loop {rec .ready none with state:=.busy})=W2:=⟨_,rfl⟩
  have TY:=lQ.Tf (G:=G) (o2:=.loop {rec .ready none with state:=.busy}) jP rfl f2 WK Mr Ad (mv.on FK fun b h1 h2 h3=>by
   obtain⟨k1,k2⟩:=jn.block b h1 h2;obtain⟨k3,k4⟩:=lQ.fr.block b (Nat.lt_of_lt_of_le h1 jn.size) k2;refine⟨(O _ _ _ w4).trans (k3.trans k1),k4,fun hx=>?_⟩;rcases Mt b hx with h|h|h
   ·exact h3 h
   ·omega
   exact h2 h) (fun _ _=>False)
  rw[lQ.defers,uo] at TY;have ir:W2.heap[w.heap.size+1]?=some (.loop {rec .ready none with state:=.busy}):=(by rw[←uo];exact World.putObj_heap_same (Array.getElem?_eq_some_iff.1 jP).1)
  have mW:∀(a3:Act) (W3:World) (y3:St) (S':List ag) (jump:Option Code),bG ⟨Xr,W2,ap z.S,G,[],fun _ _=>False⟩ y3 a3 W3→S'.Sublist y3.S→(∀B∈S',fE B.cs=true) →
    ∃E,(Instr.endRound (w.heap.size+1) jump).run P W3 = .ok (.bool jump.isNone) E∧E.heap[w.heap.size+1]?=some (.loop (rec (if jump.isNone then .ready else .done) jump))∧E.heap[w.heap.size]?=some (.deferred (some [])) ∧
     Own E (live Xr S') S'∧Wx (w.heap.size+1) W (ap Sc) E (ap S')∧¬live Xr S' (w.heap.size+1)∧¬live Xr S' w.heap.size:=fun a3 W3 y3 S' jump h3 U Mu=>by
   have Mw:(ap S').Sublist (ap y3.S):=Sublist.map _ U;have BL:W2.heap.size=w1.heap.size:=(by rw[←uo,World.putObj_size])
   obtain⟨g1,g2⟩:=h3.fr.block (w.heap.size+1) (Array.getElem?_eq_some_iff.1 ir).1 f2;have Gs:W3.heap[w.heap.size+1]?=some (.loop {rec .ready none with state:=.busy}):=g1.trans ir;have aht:=(Array.getElem?_eq_some_iff.1 Gs).1;have oE:=run_endRound (P:=P) jump Gs;obtain⟨k1,k2⟩:=lQ.fr.block w.heap.size dS (fun h=>WJ (.inr h));obtain⟨k3,k4⟩:=h3.fr.block w.heap.size (by rw[BL];exact Nat.lt_of_lt_of_le dS lQ.fr.size) k2;have fq:W2.heap[w.heap.size]?=some (.deferred (some [])):=(by rw[←uo];exact(O _ _ _ w4).trans (k1.trans hk))
   have WL:w.heap.size+1∉ap S':=fun h=>g2 (Mw.subset h);refine⟨_,oE,?_,(O _ _ _ w4).trans (k3.trans fq),?_,?_,?_,?_⟩
   ·rw[wT];exact World.putObj_heap_same aht
   ·exact(h3.own.sub U).yW (Z:=fun b=>b=w.heap.size+1) (fun B hB=>.inr (mem_map.2 ⟨B,hB,rfl⟩)) Mu (fun b _ hb=>O _ _ _ hb) (fun b i hz=>by subst hz;exact Eh Gs rfl i) (by rw[World.putObj_size];exact Nat.le_refl _) (fun B hB e=>WL (e ▸ mem_map.2 ⟨B,hB,rfl⟩))
   ·refine⟨h3.fr.os.trans ?_,h3.fr.tape.trans ?_,h3.fr.output.trans ?_,?_,fun b hb hn=>?_⟩
    ·rw[←uo];exact lQ.fr.os
    ·rw[←uo];exact lQ.fr.tape
    ·rw[←uo];exact lQ.fr.output
    ·rw[World.putObj_size];exact Nat.le_trans lQ.fr.size (by rw[←BL];exact h3.fr.size)
    obtain⟨m1,m2⟩:=lQ.fr.block b hb hn;obtain⟨m3,m4⟩:=h3.fr.block b (by rw[BL];exact Nat.lt_of_lt_of_le hb lQ.fr.size) m2;refine⟨fun UT=>(O _ _ _ UT).trans (m3.trans ?_),fun h=>m4 (Mw.subset h)⟩;rw[←uo];exact(O _ _ _ UT).trans m1
   ·rintro(h|h)
    ·exact WK h
    exact WL h
   rintro(h|h)
   ·exact WJ (.inl h)
   exact k4 (Mw.subset h)
  refine⟨W2,by rw[←uo];exact run_beginRound jP (by rw[wT]),wpIn_mono (afW Xr W2 (ap z.S) _ pre y Sc z hJ hN Cy _ _ TY) fun e a3 W3 hq=>?_⟩;rcases hq with ⟨y3,h3,hq⟩|⟨_,hq⟩
  case inr=>exact hq.elim
  cases e with
  | normal =>
   obtain⟨S',U,hj⟩:=hq;obtain⟨E,r1,r2,r3,r4,r5,r6,r7⟩:=mW a3 W3 y3 S' none h3 U (WA _ _ hj);exact⟨_,E,r1,true,S',rfl,r4,r5,fun _=>⟨hj,r2.trans hl.symm⟩,(fun h=>by cases h)⟩
  | ret =>
   obtain⟨hc,S',U,hj⟩:=hq;obtain⟨E,r1,r2,r3,r4,r5,r6,r7⟩:=mW a3 W3 y3 S' (some .ret) h3 U (KG _ _ hj);refine⟨_,E,r1,false,S',rfl,r4,r5,(fun h=>by cases h),fun _=>⟨hj,fun z hz=>?_⟩⟩;rcases mem_cons.1 hz with rfl|hz
   ·exact⟨(Array.getElem?_eq_some_iff.1 r2).1,r6,by rw[hc];exact r2⟩
   rw[mem_singleton] at hz;subst hz;exact⟨(Array.getElem?_eq_some_iff.1 r3).1,r7,r3⟩
  | exit i =>
   obtain⟨hc,S',U,hj⟩:=hq;obtain⟨E,r1,r2,r3,r4,r5,r6,r7⟩:=mW a3 W3 y3 S' (some (.exit i)) h3 U (KG _ _ hj);refine⟨_,E,r1,false,S',rfl,r4,r5,(fun h=>by cases h),fun _=>⟨hj,fun z hz=>?_⟩⟩;rcases mem_cons.1 hz with rfl|hz
   ·exact⟨(Array.getElem?_eq_some_iff.1 r2).1,r6,by rw[hc];exact r2⟩
   rw[mem_singleton] at hz;subst hz;exact⟨(Array.getElem?_eq_some_iff.1 r3).1,r7,r3⟩
  | goto t=>exact hq.elim
  | panic ch=>exact hq.elim
  | outgrown=>exact hq.elim
 -- behind the iterator
 have ff:∀(W':World) (Sc:List ag) (st:LoopState) (pe:Option Code),Own W' (live X Sc) Sc→Fr w (ap x.S) W' (ap Sc)→(∀B∈Sc,fE B.cs=true)→st≠.busy →
   qI W' (live X Sc) [(w.heap.size+1,.loop (rec st pe)),(w.heap.size,.deferred (some []))] →
   ∃E,(Instr.endLoop (w.heap.size+1)).run P W' = .ok pe E∧bG ⟨X,E,ap Sc,G,[mark w.heap.size],fun _ _=>False⟩ ⟨x.n,x.env,Sc⟩ {a with defers:=[mark w.heap.size]++a.defers} E ∧
    ∀a' w' y,bG ⟨X,E,ap Sc,G,[mark w.heap.size],fun _ _=>False⟩ y a' w'→yX P fn post y→wE P fn post X w0 S0 a' w':=fun W' Sc st pe ho hf Mu fy I=>by
  obtain⟨r1,r2,r3⟩:=I _ mem_cons_self;obtain⟨k1,k2,k3⟩:=I _ (mem_cons_of_mem _ mem_cons_self);have r1:w.heap.size+1<W'.heap.size:=r1;have r3:W'.heap[w.heap.size+1]?=some (.loop (rec st pe)):=r3;have oE:=run_endLoop (P:=P) r3 (by rw[wT];exact fy);have gG:(rec st pe).pending=pe:=(by rw[wT])
  rw[gG] at oE;refine⟨_,oE,after _ Sc ⟨hf.os,hf.tape,hf.output,by rw[World.putObj_size];exact hf.size,fun b hb hn=>⟨(World.putObj_heap_other w4).trans (hf.block b hb hn).1,(hf.block b hb hn).2⟩⟩ ?_ ((World.putObj_heap_other w4).trans k3) (fun h=>k2 (.inr h))⟩;exact ho.yW (Z:=fun b=>b=w.heap.size+1) (fun B hB=>.inr (mem_map.2 ⟨B,hB,rfl⟩)) Mu (fun b _ hb=>World.putObj_heap_other hb) (fun b i hz=>by subst hz;exact Eh r3 rfl i) (by rw[World.putObj_size];exact Nat.le_refl _) (fun B hB e=>r2 (.inr (by rw[←e];exact mem_map.2 ⟨B,hB,rfl⟩)))
 have hR:∀(a':Act) (E:World) (Sc:List ag),bG ⟨X,E,ap Sc,G,[mark w.heap.size],fun _ _=>False⟩ ⟨x.n,x.env,Sc⟩ a' E→(∀a' w' y,bG ⟨X,E,ap Sc,G,[mark w.heap.size],fun _ _=>False⟩ y a' w'→yX P fn post y→wE P fn post X w0 S0 a' w') →
   ((∃xs,Sa xs∧J xs Sc)∨(jc = .exit id∧∃pre,Sp pre∧Jx pre Sc))→rest.wp P (LQ ⟨X,w0,S0,G,[],wE P fn post X w0 S0⟩ Q) a' E:=fun a' E Sc h1 h2 h3 =>
  wp_mono (afX E (ap Sc) w.heap.size Sc h3 _ _ h1) fun e a2 w2 hq=>by
   rcases hq with ⟨y,q1,rfl,q2⟩|⟨_,hq⟩
   ·exact .inr ⟨rfl,h2 _ _ _ q1 q2⟩
   exact hq.elim
 rintro e W' ⟨v,Sc,rfl,kf,jn,h⟩;rcases h with ⟨xs,hsa,hj,I⟩|⟨pre,Ae,hj,I⟩
 ·obtain⟨E,q1,q2,q3⟩:=ff W' Sc .ready none kf jn (WA _ _ hj) bq I;refine⟨none,E,q1,?_⟩;exact hR _ E Sc q2 q3 (.inl ⟨xs,hsa,hj⟩)
 obtain⟨E,q1,q2,q3⟩:=ff W' Sc .done (some jc) kf jn (KG _ _ hj) bq I;refine⟨some jc,E,q1,?_⟩;rcases xN with xN|xN
 ·rw[xN];refine wpIn_ret ?_;exact .inr ⟨rfl,q3 _ _ _ q2 (mz xN pre Sc Ae hj)⟩
 rw[xN];refine wpIn_exit ?_;have:=hR _ E Sc q2 q3 (.inr ⟨xN,pre,Ae,hj⟩);simpa[Exit.inBlock,Exit.then] using this
theorem PX{b e size:Nat}{cs cs':List D}(E:(⟨b,e,size,cs⟩:ag)∈S)(Z:gv S cs cs')(hne:isMap e=false:=by rfl):View S (.v (.pointer (some ⟨b,0,none⟩))) (.fx cs' 0):=fun X Y w v I O ho h=>by
 rw[h.kD];obtain⟨v1,v2⟩:=Z.spec;obtain⟨r0,cur,r1,r2,r3,U⟩:=ho.at_ _ E;rw[jY hne] at r1;refine .fx cs' 0 b 0 (fun i=>cur.getD i undef) r0 (fun hy=>O _ (I _ hy) (mem_map.2 ⟨_,E,rfl⟩)) (fun i hi=>?_) (fun i hi=>?_)
 ·obtain⟨u,hu,_⟩:=U i Fy;rw[Nat.zero_add,nK r1 hu];simp[hu]
 obtain⟨u,hu,hq⟩:=U i Fy;simp only[Array.getD_eq_getD_getElem?,hu,Option.getD_some];exact v2 i w4 hi X Y w u I O ho hq
theorem abc{f:Fn}{ds E:List D}(h:gv S ds E):View S (.ek f ds) (.ek f E):=fun X Y w v O U ho hr=>by
 obtain⟨h1,h2⟩:=h.spec;cases hr with
 | ek _ _ vs hl I=>exact .ek f E vs w4 fun i q1 q2=>h2 i w4 q1 X Y w _ O U ho (I i w4 q2)
/-! ### More steps of a drawn region -/
variable {S1 T:List Nat} {fuel i:Nat} {ld:Array Bool}

end Go.Proofs.YtbcmjoaggammcaaGreatDoor.V
