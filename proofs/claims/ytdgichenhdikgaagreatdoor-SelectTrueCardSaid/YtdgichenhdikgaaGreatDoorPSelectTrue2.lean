/-
  What the proof of SelectTrue leans on, part 2 of 9: walks of the program's functions at the level of values, and plain facts of what they compute.
-/
import Derived.Test.YtdgichenhdikgaaGreatDoorPSelectTrue1
set_option linter.unusedVariables false
set_option linter.unusedSimpArgs false
set_option maxRecDepth 100000
set_option maxHeartbeats 4000000
namespace Go.Proofs.YtdgichenhdikgaaGreatDoor.V
open List
open Go.RowKit
variable {P:Program} {C:dy} {G:List (Nat×List Value)} {Q:Exit→St→Prop} {x y:St} {ops:Array Oper} {l:List Oper} {o:Oper}
variable {t e:TypeId} {ps:List (Nat×Operand)} {pl:List (Nat×D)} {ds:List D} {sz i:Nat} {fo:Operand} {cX:Array Operand} {ts:Array TypeId} {α:Type} {lo hi:Option Operand}
theorem acr{z:Operand}{d:D}(ho:o.op = .move z)(hd:aE x z=d):bQ P G x o .none d:=hd ▸ Z0 ho
theorem acs{z:Operand}{d:D}(ho:o.op = .assign z)(hd:aE x z=d):bQ P G x o .none d:=hd ▸ Zp ho
theorem ZF{c y z:Operand}{t:Bool}{d:D}(ho:o.op = .pick c y z)(hc:aE x c = .v (.bool t))(h:t=true)(hd:aE x y=d):bQ P G x o .none d:=by
 have:=OW (P:=P) (G:=G) ho hc;rw[if_pos h,hd] at this;exact this
theorem ZG{c y z:Operand}{t:Bool}{d:D}(ho:o.op = .pick c y z)(hc:aE x c = .v (.bool t))(h:t=false)(hd:aE x z=d):bQ P G x o .none d:=by
 have:=OW (P:=P) (G:=G) ho hc;rw[if_neg (by rw[h];simp),hd] at this;exact this
def mS(x:St):List Operand→List D→Prop
 | [],[]=>True
 | o::r,d::r'=>aE x o=d∧mS x r r'
 | _,_=>False
theorem mS.eq:∀{os:List Operand} {ds:List D},mS x os ds→os.map (aE x)=ds
 | [],[],_=>rfl
 | o::r,d::r',h=>by rw[map_cons,h.1,mS.eq h.2]
 | [],_::_,h=>h.elim
 | _::_,[],h=>h.elim
def jx(x:St):List (Nat×Operand)→List (Nat×D)→Prop
 | [],[]=>True
 | p::r,q::r'=>p.1=q.1∧aE x p.2=q.2∧jx x r r'
 | _,_=>False
theorem jx.eq:∀{ps:List (Nat×Operand)} {ds:List (Nat×D)},jx x ps ds→lO x ps.toArray=ds
 | [],[],_=>rfl
 | p::r,(i,d)::r',h=>by
  have:=jx.eq h.2.2;simp only[lO,map_cons] at this ⊢;rw[this,h.1,h.2.1]
 | [],_::_,h=>h.elim
 | _::_,[],h=>h.elim
def kR:D→Bool
 | .bS=>false
 | _=>true
theorem AS{ps:List (Nat×D)}(h:ps.all (fun p=>kR p.2)=true):∀p∈ps,p.2≠.bS:=fun p hp he=>by
 have:=all_eq_true.1 h p hp;rw[he] at this;cases this
theorem nO {E:Array Field} {places:Array (Nat×Nat)} {z:Value} (ho:o.op = .build t ps.toArray) (hz:∀w,(zeroValue t).run P w = .ok z w)
  (I:∀w,(underlying t).run P w = .ok (.struct E) w) (hp:∀w,(E.mapM fun f=>do pure (f.offset,←sizeOf f.type):Sem (Array (Nat×Nat))).run P w = .ok places w)
  (gX:jx x ps pl) (hj:pl.all (fun p=>kR p.2)=true) (hd:mu (places[·]?) (z.cells.toList.map .v) pl=some ds):bQ P G x o .none (.agg ds):=by
 refine ZE ho hz I hp ?_ ?_
 ·rw[gX.eq];exact AS hj
 rw[gX.eq];exact hd
theorem D4 {n:Nat} {z:Value} (ho:o.op = .build t ps.toArray) (hz:∀w,(zeroValue t).run P w = .ok z w)
  (E:∀w,(underlying t).run P w = .ok (.array n e) w) (hs:∀w,(sizeOf e).run P w = .ok sz w)
  (gX:jx x ps pl) (hj:pl.all (fun p=>kR p.2)=true) (hd:mu (fun i=>some (i*sz,sz)) (z.cells.toList.map .v) pl=some ds):bQ P G x o .none (.agg ds):=by
 refine Zt ho hz E hs ?_ ?_
 ·rw[gX.eq];exact AS hj
 rw[gX.eq];exact hd
def cf(k:Nat):List D→List (Nat×D)
 | []=>[]
 | d::r=>(k,d)::cf (k+1) r
theorem Pw:∀(ds pre post:List D),ds.length≤post.length→da (pre++post) pre.length ds=(pre++ds)++post.drop ds.length
 | [],pre,post,_=>by simp[da]
 | d::ds,pre,[],h=>by simp at h
 | d::ds,pre,p::post,h=>by
  rw[da,show(pre++p::post).set pre.length d=(pre++[d])++post by simp,show pre.length+1=(pre++[d]).length by simp,Pw ds (pre++[d]) post nf];simp
theorem SU{sz:Nat}:∀(pd:List D) (k:Nat) (pre post:List D),(pd.all fun d=>Nat.beq (cellsOf d).length sz)=true→pre.length=k*sz→post.length=pd.length*sz→mu (fun i=>some (i*sz,sz)) (pre++post) (cf k pd)=some (pre++pd.flatMap cellsOf)
 | [],k,pre,post,_,_,h=>by
  have:post=[]:=length_eq_zero_iff.1 nf;simp[cf,mu,this]
 | d::r,k,pre,post,ha,h1,h2=>by
  rw[all_cons,Bool.and_eq_true] at ha;have hd:(cellsOf d).length=sz:=Nat.eq_of_beq_eq_true ha.1;have hp:post.length=r.length*sz+sz:=(by rw[h2,length_cons,Nat.succ_mul])
  rw[cf,mu];simp only;rw[if_neg (by simp only[hd,length_append,h1,hp,ne_eq,not_true_eq_false,decide_false,Bool.false_or,decide_eq_true_eq];omega),←h1,Pw _ _ _ w4,SU r (k+1) _ _ ha.2 (by rw[length_append,hd,h1,Nat.succ_mul]) (by rw[length_drop,hd];omega),flatMap_cons];simp
theorem Px{pd zs:List D}(ha:(pd.all fun d=>Nat.beq (cellsOf d).length sz)=true)(hl:Nat.beq zs.length (pd.length*sz)=true)(jq:pd.flatMap cellsOf=ds):mu (fun i=>some (i*sz,sz)) zs (cf 0 pd)=some ds:=by
 have:=SU pd 0 [] zs ha bn (Nat.eq_of_beq_eq_true hl);rw[nil_append,nil_append,jq] at this;exact this
theorem OD.Lx {tt len:Nat} {z:Value} {oR:List Value} (hw:bY ops x o true) (ho:o.op = .buildSlice t len ps.toArray) (jz:o.dst=some tt) (hz:∀w,(zeroValue e).run P w = .ok z w)
  (E:∀w,(underlying t).run P w = .ok (.slice e) w) (hs:∀w,(sizeOf e).run P w = .ok sz w) (hl:Nat.ble 1 (len*sz)=true) (ir:Nat.ble (len*sz) (2 ^ 24)=true) (eO:(Array.range (len*sz)).map (fun i=>z.cells[i % z.cells.size]!)=oR.toArray)
  (gX:jx x ps pl) (hj:pl.all (fun p=>kR p.2)=true) (hd:mu (fun i=>some (i*sz,sz)) (oR.map .v) pl=some ds)
  (k:∀b,OD P C ops l ⟨x.n,(tt,.v (.slice (some ⟨b,0,none⟩) len len))::x.env,⟨b,e,ds.length,ds⟩::x.S⟩ Q) (hne:isMap e=false:=by rfl):OD P C ops (o::l) x Q:=by
 refine OD.fV hw (HQ (hne:=hne) (zs:=oR.map .v) (ds:=ds) ho jz hz E hs (Nat.le_of_ble_eq_true hl) (Nat.le_of_ble_eq_true ir) ?_ ?_ ?_ ?_) ?_
 ·rw[eO];congr 1;rw[map_map];exact(map_id oR).symm
 ·intro d hd;obtain⟨u,_,rfl⟩:=mem_map.1 hd;exact⟨u,rfl⟩
 ·rw[gX.eq];exact AS hj
 ·rw[gX.eq];exact hd
 rintro _ ⟨b,rfl⟩;exact k b
theorem OD.alloc {e:TypeId} {z:Value} {t:Nat} {ds:List D} (hw:bY ops x o true) (ho:o.op = .alloc e) (hd:o.dst=some t) (hz:∀w,(zeroValue e).run P w = .ok z w) (jq:z.cells.toList.map .v=ds)
  (k:∀b,OD P C ops l ⟨x.n,(t,.v (.pointer (some ⟨b,0,none⟩)))::x.env,⟨b,e,ds.length,ds⟩::x.S⟩ Q) (hne:isMap e=false:=by rfl):OD P C ops (o::l) x Q :=
 OD.fV hw (AW (hne:=hne) ho hd hz jq) fun y ⟨b,hy⟩=>hy ▸ k b
theorem OD.box {e:TypeId} {z:Operand} {t:Nat} {d:D} {ds:List D} (hw:bY ops x o true) (ho:o.op = .box e z) (hd:o.dst=some t) (hy:aE x z=d) (hj:kR d=true) (jq:cellsOf d=ds)
  (k:∀b,OD P C ops l ⟨x.n,(t,.v (.pointer (some ⟨b,0,none⟩)))::x.env,⟨b,e,ds.length,ds⟩::x.S⟩ Q) (hne:isMap e=false:=by rfl):OD P C ops (o::l) x Q :=
 OD.fV hw (aem (hne:=hne) ho hd hy (fun h=>by rw[h] at hj;cases hj) jq) fun y ⟨b,hy⟩=>hy ▸ k b
theorem OD.store {t:TypeId} {k b o' n:Nat} {B:ah} {d:D} {cs':List D} {y z:Operand} (hw:bY ops x o true) (ho:o.op = .store t y z) (jz:o.dst=none) (hy:aE x y = .v (.pointer (some ⟨b,o',none⟩)))
  (hk:x.S[k]?=some B) (hb:B.b=b) (hz:aE x z=d) (hj:kR d=true) (h1:(cellsOf d).all one=true) (hn:∀w,(sizeOf t).run P w = .ok n w) (gd:(cellsOf d).length=n) (hl:Nat.ble (o'+n) B.cs.length=true) (dh:da B.cs o' (cellsOf d)=cs')
  (K:OD P C ops l ⟨x.n,x.env,x.S.set k {B with cs:=cs'}⟩ Q) (hne:isMap B.e=false:=by rfl):OD P C ops (o::l) x Q :=
 OD.fV hw (Eh (hne:=hne) ho jz hy hk hb hz (fun h=>by rw[h] at hj;cases hj) h1 hn gd (Nat.le_of_ble_eq_true hl) dh) fun y hy=>hy ▸ K
theorem OD.call {f t:Nat} {fo:Operand} {cX:Array Operand} {ts:Array TypeId} {args:List D} {Sf R:List ah} {post:D→List ah→Prop} (hw:bY ops x o true) (ho:o.op = .call {callee:=.value fo,args:=cX,argTypes:=ts}) (hd:o.dst=some t)
  (hf:fo = .func f) (fg:∀args w,(callFunc f args).run P w = .ok (.enter f args) w) (hc:VC P C.G f args Sf post) (ha:mS x cX.toList args) (hp:x.S.Perm (Sf++R))
  (K:∀r S',post r S'→OD P C ops l ⟨x.n,(t,r)::x.env,S'++R⟩ Q):OD P C ops (o::l) x Q :=
 OD.fV hw (A9 ho hd hf fg ha.eq hp hc) fun y ⟨r,S',h,hy⟩=>hy ▸ K r S' h
theorem OD.gZ {f t:Nat} {args:List D} {r:D} (hw:bY ops x o true) (ho:o.op = .call {callee:=.value fo,args:=cX,argTypes:=ts}) (hd:o.dst=some t)
  (hf:fo = .func f) (fg:∀args w,(callFunc f args).run P w = .ok (.enter f args) w) (hc:VP P C.G f args r) (ha:mS x cX.toList args)
  (K:OD P C ops l (x.put t r) Q):OD P C ops (o::l) x Q :=
 OD.call hw ho hd hf fg hc ha (eV _) fun E S' ⟨h1,h2⟩=>by subst h1 h2;exact K
theorem OD.kx {f t:Nat} {args E all:List D} {Sf R:List ah} {post:D→List ah→Prop} (hw:bY ops x o true) (ho:o.op = .call {callee:=.value fo,args:=cX,argTypes:=ts}) (hd:o.dst=some t)
  (hf:aE x fo = .ew (.func f) E) (fg:∀args w,(callFunc f args).run P w = .ok (.enter f args) w) (hc:VC P C.G f all Sf post) (eY:args++E=all) (ha:mS x cX.toList args) (hp:x.S.Perm (Sf++R))
  (K:∀r S',post r S'→OD P C ops l ⟨x.n,(t,r)::x.env,S'++R⟩ Q):OD P C ops (o::l) x Q :=
 OD.fV hw (aaT ho hd hf fg (by rw[ha.eq,eY]) hp hc) fun y ⟨r,S',h,hy⟩=>hy ▸ K r S' h
theorem OD.append {s y:Operand} {t e tt sz bytes n m b cap k:Nat} {z:Value} {B:ah} {cs:List D} (hw:bY ops x o true) (ho:o.op = .call {callee:=.builtin .append,args:=#[s,y],argTypes:=#[t,t]}) (hd:o.dst=some tt)
  (ht:P.underlying t=some (.slice e)) (hi:(P.info? e).map (fun i=>(i.zero,i.size,i.bytes))=some (some z,sz,bytes)) (eO:z.cells.size=sz) (iu:0<sz)
  (hs:aE x s = .v (.slice (some ⟨b,0,none⟩) n cap)) (hk:x.S[k]?=some B) (hb:B.b=b) (he:B.e=e) (O:B.size=cap*sz) (hl:B.cs.length=n*sz) (hn:n≤cap) (U:cap≤maxLen)
  (hy:aE x y = .list sz cs m) (iB:∀d∈cs,one d=true) (hm:0<m) (gl:n+m≤maxLen) (I:(n+m)*bytes≤140737488355328)
  (K:∀Z E,n+m≤E→E≤maxLen→OD P C ops l ⟨x.n,(tt,.v (.slice (some ⟨Z,0,none⟩) (n+m) E))::x.env,⟨Z,e,E*sz,B.cs++cs⟩::x.S.eraseIdx k⟩ Q) (hne:isMap B.e=false:=by rfl):OD P C ops (o::l) x Q :=
 OD.fV hw (OZ (hne:=hne) ho hd ht hi eO iu hs hk hb he O hl hn U hy iB hm gl I) fun y ⟨Z,E,h1,h2,hy⟩=>hy ▸ K Z E h1 h2
theorem OD.Is {s y:Operand} {t e tt bytes m:Nat} {z:Value} {cs:List D} (hw:bY ops x o true) (ho:o.op = .call {callee:=.builtin .append,args:=#[s,y],argTypes:=#[t,t]}) (hd:o.dst=some tt)
  (ht:P.underlying t=some (.slice e)) (hi:(P.info? e).map (fun i=>(i.zero,i.size,i.bytes))=some (some z,sz,bytes)) (eO:z.cells.size=sz) (U:0<sz)
  (hs:aE x s = .v (.slice none 0 0)) (hy:aE x y = .list sz cs m) (iB:∀d∈cs,one d=true) (hm:0<m) (Z:m≤maxLen) (I:m*bytes≤140737488355328)
  (K:∀O E,m≤E→E≤maxLen→OD P C ops l ⟨x.n,(tt,.v (.slice (some ⟨O,0,none⟩) m E))::x.env,⟨O,e,E*sz,cs⟩::x.S⟩ Q) (hne:isMap e=false:=by rfl):OD P C ops (o::l) x Q :=
 OD.fV hw (OA (hne:=hne) ho hd ht hi eO U hs hy iB hm Z I) fun y ⟨O,E,h1,h2,hy⟩=>hy ▸ K O E h1 h2
theorem OD.split{t:Nat}{b:Bool}(hb:look t x.env = .v (.bool b))(h1:b=true→OD P C ops l x Q)(h2:b=false→OD P C ops l x Q):OD P C ops l x Q:=by
 cases h:b
 ·exact h2 h
 exact h1 h
theorem Zb{z:Operand}{a':Addr}(ho:o.op = .nilCheck z)(hz:aE x z = .v (.pointer (some a'))):bQ P G x o .none (.v (.pointer (some a'))):=fun C a w _ h =>
 ⟨_,.v _,fun w' _=>by unfold execOp;simp only[ho,h.flat hz];rfl⟩
theorem Za{z:Operand}{cs:List D}{off:Nat}(ho:o.op = .nilCheck z)(hz:aE x z = .fx cs off):bQ P G x o .none (.fx cs off):=fun C a w _ h=>by
 have hr:=h.eval z;rw[hz] at hr;generalize hg:a.eval z=u at hr;cases hr with
 | fx _ _ b E g hb hL hc I=>exact⟨_,.fx cs off b E g hb hL hc I,fun w' _=>by unfold execOp;simp only[ho,hg];rfl⟩
theorem pK{fn:Fn}{E:Array Operand}(ho:o.op = .makeFunc fn #[] E)(hd:mS x E.toList ds):bQ P G x o .none (.ew fn ds):=Z3 ho hd.eq
theorem cn{α:Type}{g:α→List D}{sz:Nat}(hg:∀a,(g a).length=sz):∀(ls:List α),(ls.flatMap g).length=ls.length*sz
 | []=>by simp
 | a::r=>by rw[flatMap_cons,length_append,hg,cn hg r,length_cons,Nat.add_mul];omega
theorem u4{α:Type}{g:α→List D}{sz:Nat}(hg:∀a,(g a).length=sz):∀(ls:List α) (i:Nat),(ls.flatMap g).drop (i*sz)=(ls.drop i).flatMap g
 | [],i=>by simp
 | a::r,0=>by simp
 | a::r,i+1=>by
  rw[flatMap_cons,drop_succ_cons,←u4 hg r i,Nat.add_mul,Nat.one_mul,Nat.add_comm,←drop_drop];congr 1;rw[←hg a,drop_left]
theorem tW{α:Type}{g:α→List D}{sz:Nat}(hg:∀a,(g a).length=sz):∀(ls:List α) (i:Nat),(ls.flatMap g).take (i*sz)=(ls.take i).flatMap g
 | [],i=>by simp
 | a::r,0=>by simp
 | a::r,i+1=>by
  rw[flatMap_cons,take_succ_cons,flatMap_cons,←tW hg r i,Nat.add_mul,Nat.one_mul,Nat.add_comm,←hg a,take_length_add_append]
theorem FP{g:α→List D}(hg:∀a,(g a).length=sz){ls:List α}(hi:i<ls.length):((ls.flatMap g).drop (i*sz)).take sz=g ls[i]:=by
 rw[u4 hg,drop_eq_getElem_cons hi,flatMap_cons,←hg ls[i],take_left]
theorem yZ{g:α→List D}(hg:∀a,(g a).length=sz){ls:List α}{j:Nat}{d:D}(hi:i<ls.length)(hd:(g ls[i])[j]?=some d):(ls.flatMap g)[i*sz+j]?=some d:=by
 have h:=FP hg hi;have hj:=(List.getElem?_eq_some_iff.1 hd).1;rw[hg] at hj;rw[←hd,←h,getElem?_take_of_lt hj,getElem?_drop]
theorem I1{g:α→List D}(hg:∀a,(g a).length=sz){ls:List α}{d:D}(hi:i<ls.length)(hd:(g ls[i])[0]?=some d):(ls.flatMap g)[i*sz]?=some d:=yZ hg hi hd
theorem ue{g:α→List D}(hg:∀a,(g a).all one=true)(ls:List α):∀d∈ls.flatMap g,one d=true:=fun d hd=>by
 obtain⟨a,_,h⟩:=mem_flatMap.1 hd;exact all_eq_true.1 (hg a) d h
theorem ZH {g:α→List D} {h':Nat} (hg:∀a,(g a).length=sz) {ls:List α} {y:Operand} (ho:o.op = .slice t y lo hi none) (hy:aE x y = .list sz (ls.flatMap g) ls.length) (eK:mL x lo 0 0) (er:mL x hi h' ls.length)
  (E:∀w,(underlying t).run P w = .ok (.slice e) w) (hs:∀w,(sizeOf e).run P w = .ok sz w) (h2:h'≤ls.length):bQ P G x o .none (.list sz ((ls.take h').flatMap g) (ls.take h').length):=by
 have:=HU (P:=P) (G:=G) ho hy eK er E hs (Nat.zero_le _) h2;rw[Nat.zero_mul,drop_zero,Nat.sub_zero,tW hg] at this;rw[length_take,Nat.min_eq_left h2];exact this
theorem ZI {g:α→List D} {l':Nat} (hg:∀a,(g a).length=sz) {ls:List α} {y:Operand} (ho:o.op = .slice t y lo hi none) (hy:aE x y = .list sz (ls.flatMap g) ls.length) (eK:mL x lo l' 0) (er:mL x hi ls.length ls.length)
  (E:∀w,(underlying t).run P w = .ok (.slice e) w) (hs:∀w,(sizeOf e).run P w = .ok sz w) (h2:l'≤ls.length):bQ P G x o .none (.list sz ((ls.drop l').flatMap g) (ls.drop l').length):=by
 have:=HU (P:=P) (G:=G) ho hy eK er E hs h2 (Nat.le_refl _);rw[u4 hg,take_of_length_le (by rw[cn hg,length_drop];exact Nat.le_refl _)] at this;rw[length_drop];exact this

end Go.Proofs.YtdgichenhdikgaaGreatDoor.V
namespace Go.Proofs.YtdgichenhdikgaaGreatDoor.V
open List
open Go.RowKit
variable {P:Program} {C:dy} {Q:Exit→St→Prop} {x:St} {ops:Array Oper} {o:Oper} {S1 T:List Nat} {fuel i:Nat} {ld:Array Bool}
variable {k t:Nat} {B:ah}
theorem Bl{S:List ah}(hk:S[k]?=some B):B.b∈au S:=mem_map.2 ⟨B,mem_of_getElem? hk,rfl⟩
theorem qw{S:List ah}{k0:Nat}(hk:x.S[k]?=some B)(h0:S[k0]?=some B):Safe x (au S) (.fp k):=⟨B,hk,Bl h0⟩
theorem AD.split{b:Bool}(hb:look t x.env = .v (.bool b))(h1:b=true→AD P C ops S1 T fuel ld x Q)(h2:b=false→AD P C ops S1 T fuel ld x Q):AD P C ops S1 T fuel ld x Q:=by
 cases h:b
 ·exact h2 h
 exact h1 h
theorem dH.split{b:Bool}(hb:look t x.env = .v (.bool b))(h1:b=true→dH P C ops S1 T fuel ld x Q)(h2:b=false→dH P C ops S1 T fuel ld x Q):dH P C ops S1 T fuel ld x Q:=by
 cases h:b
 ·exact h2 h
 exact h1 h
theorem bz.Gh{post:St→Prop}(hi:ops[i]?=some o)(hw:bY ops x o true)(h:fN P C.G x o [] post)(k:∀y,post y→AD P C ops S1 T fuel (ld.setIfInBounds i true) y Q):bz P C ops S1 T fuel ld x Q i :=
 bz.fV hi hw h (fun _ _ _ _ _ _ hb=>by simp at hb) (fun _ hb=>by simp at hb) k
theorem Gi{C:dy}{a:Act}{w:World}(h:bG C x a w)(hk:x.S[k]?=some B)(hT:∀b∈T,b∈au (x.S.eraseIdx k)):∀b∈T,b∉[B.b]:=fun b hb hm=>by
 have hp:(au x.S).Perm (B.b::au (x.S.eraseIdx k)):=(by have:=(uU hk).map ah.b;simpa[au] using this)
 have hn:=(nodup_cons.1 (hp.nodup_iff.1 h.own.apart)).1;have:b=B.b:=(by simpa using hm)
 exact hn (this ▸ hT b hb)
theorem bz.alloc {e:TypeId} {z:Value} {t:Nat} {ds:List D} (hi:ops[i]?=some o) (hw:bY ops x o true) (ho:o.op = .alloc e) (hd:o.dst=some t) (hz:∀w,(zeroValue e).run P w = .ok z w) (jq:z.cells.toList.map .v=ds)
  (k:∀b,AD P C ops S1 T fuel (ld.setIfInBounds i true) ⟨x.n,(t,.v (.pointer (some ⟨b,0,none⟩)))::x.env,⟨b,e,ds.length,ds⟩::x.S⟩ Q) (hne:isMap e=false:=by rfl):bz P C ops S1 T fuel ld x Q i :=
 bz.Gh hi hw (AW (hne:=hne) ho hd hz jq) fun y ⟨b,hy⟩=>hy ▸ k b
theorem bz.Lx {t e:TypeId} {tt len sz:Nat} {ps:List (Nat×Operand)} {pl:List (Nat×D)} {z:Value} {oR:List Value} {ds:List D} (hi:ops[i]?=some o) (hw:bY ops x o true) (ho:o.op = .buildSlice t len ps.toArray) (jz:o.dst=some tt) (hz:∀w,(zeroValue e).run P w = .ok z w)
  (E:∀w,(underlying t).run P w = .ok (.slice e) w) (hs:∀w,(sizeOf e).run P w = .ok sz w) (hl:Nat.ble 1 (len*sz)=true) (ir:Nat.ble (len*sz) (2 ^ 24)=true) (eO:(Array.range (len*sz)).map (fun i=>z.cells[i % z.cells.size]!)=oR.toArray)
  (gX:jx x ps pl) (hj:pl.all (fun p=>kR p.2)=true) (hd:mu (fun i=>some (i*sz,sz)) (oR.map .v) pl=some ds)
  (k:∀b,AD P C ops S1 T fuel (ld.setIfInBounds i true) ⟨x.n,(tt,.v (.slice (some ⟨b,0,none⟩) len len))::x.env,⟨b,e,ds.length,ds⟩::x.S⟩ Q) (hne:isMap e=false:=by rfl):bz P C ops S1 T fuel ld x Q i:=by
 refine bz.Gh hi hw (HQ (hne:=hne) (zs:=oR.map .v) (ds:=ds) ho jz hz E hs (Nat.le_of_ble_eq_true hl) (Nat.le_of_ble_eq_true ir) ?_ ?_ ?_ ?_) ?_
 ·rw[eO];congr 1;rw[map_map];exact(map_id oR).symm
 ·intro d hd;obtain⟨u,_,rfl⟩:=mem_map.1 hd;exact⟨u,rfl⟩
 ·rw[gX.eq];exact AS hj
 ·rw[gX.eq];exact hd
 rintro _ ⟨b,rfl⟩;exact k b
theorem bz.store {t:TypeId} {k b o' n:Nat} {B:ah} {d:D} {cs':List D} {y z:Operand} (hi:ops[i]?=some o) (hw:bY ops x o true) (ho:o.op = .store t y z) (jz:o.dst=none) (hy:aE x y = .v (.pointer (some ⟨b,o',none⟩)))
  (hk:x.S[k]?=some B) (hb:B.b=b) (hz:aE x z=d) (hj:kR d=true) (h1:(cellsOf d).all one=true) (hn:∀w,(sizeOf t).run P w = .ok n w) (gd:(cellsOf d).length=n) (hl:Nat.ble (o'+n) B.cs.length=true) (dh:da B.cs o' (cellsOf d)=cs')
  (hT:∀b∈T,b∈au (x.S.eraseIdx k))
  (K:AD P C ops S1 T fuel (ld.setIfInBounds i true) ⟨x.n,x.env,x.S.set k {B with cs:=cs'}⟩ Q) (hne:isMap B.e=false:=by rfl):bz P C ops S1 T fuel ld x Q i :=
 bz.fV hi hw (Eh (hne:=hne) ho jz hy hk hb hz (fun h=>by rw[h] at hj;cases hj) h1 hn gd (Nat.le_of_ble_eq_true hl) dh) (fun C a w hs I E=>hb ▸ Gi hs hk hT I E) (fun I E=>by
  have:I=b:=(by simpa using E)
  subst this;rw[←hb];exact Bl hk) fun y hy=>hy ▸ K
theorem bz.gZ {f:Nat} {fo:Operand} {cX:Array Operand} {ts:Array TypeId} {args:List D} {r:D} (hi:ops[i]?=some o) (hw:bY ops x o true) (ho:o.op = .call {callee:=.value fo,args:=cX,argTypes:=ts}) (hd:o.dst=some t)
  (hf:fo = .func f) (fg:∀args w,(callFunc f args).run P w = .ok (.enter f args) w) (hc:VP P C.G f args r) (ha:mS x cX.toList args)
  (K:AD P C ops S1 T fuel (ld.setIfInBounds i true) (x.put t r) Q):bz P C ops S1 T fuel ld x Q i :=
 bz.Gh hi hw (A9 ho hd hf fg ha.eq (eV _) hc) fun y ⟨E,S',⟨h1,h2⟩,hy⟩=>by subst h1 h2;exact hy ▸ K
theorem bz.call {f t:Nat} {fo:Operand} {cX:Array Operand} {ts:Array TypeId} {args:List D} {Sf R:List ah} {post:D→List ah→Prop} (hi:ops[i]?=some o) (hw:bY ops x o true) (ho:o.op = .call {callee:=.value fo,args:=cX,argTypes:=ts}) (hd:o.dst=some t)
  (hf:fo = .func f) (fg:∀args w,(callFunc f args).run P w = .ok (.enter f args) w) (hc:VC P C.G f args Sf post) (ha:mS x cX.toList args) (hp:x.S.Perm (Sf++R)) (hT:∀b∈T,b∈au R)
  (K:∀r S',post r S'→AD P C ops S1 T fuel (ld.setIfInBounds i true) ⟨x.n,(t,r)::x.env,S'++R⟩ Q):bz P C ops S1 T fuel ld x Q i :=
 bz.fV hi hw (A9 ho hd hf fg ha.eq hp hc) (fun C a w hs b hb hm=>by
  have h1:(au x.S).Perm (au Sf++au R):=(by have:=hp.map ah.b;simpa[au] using this)
  have h2:=h1.nodup_iff.1 hs.own.apart;exact(nodup_append.1 h2).2.2 b hm b (hT b hb) rfl) (fun b hb=>by
  have h1:(au x.S).Perm (au Sf++au R):=(by have:=hp.map ah.b;simpa[au] using this)
  exact h1.symm.subset (mem_append_left _ hb)) fun y ⟨r,S',h,hy⟩=>hy ▸ K r S' h
theorem bz.append {s y:Operand} {t e tt sz bytes n m b cap k:Nat} {z:Value} {B:ah} {cs:List D} (He:ops[i]?=some o) (hw:bY ops x o true) (ho:o.op = .call {callee:=.builtin .append,args:=#[s,y],argTypes:=#[t,t]}) (hd:o.dst=some tt)
  (ht:P.underlying t=some (.slice e)) (hi:(P.info? e).map (fun i=>(i.zero,i.size,i.bytes))=some (some z,sz,bytes)) (eO:z.cells.size=sz) (iu:0<sz)
  (hs:aE x s = .v (.slice (some ⟨b,0,none⟩) n cap)) (hk:x.S[k]?=some B) (hb:B.b=b) (he:B.e=e) (U:B.size=cap*sz) (hl:B.cs.length=n*sz) (hn:n≤cap) (pY:cap≤maxLen)
  (hy:aE x y = .list sz cs m) (iB:∀d∈cs,one d=true) (hm:0<m) (gl:n+m≤maxLen) (I:(n+m)*bytes≤140737488355328) (hT:∀b∈T,b∈au (x.S.eraseIdx k))
  (K:∀O E,n+m≤E→E≤maxLen→AD P C ops S1 T fuel (ld.setIfInBounds i true) ⟨x.n,(tt,.v (.slice (some ⟨O,0,none⟩) (n+m) E))::x.env,⟨O,e,E*sz,B.cs++cs⟩::x.S.eraseIdx k⟩ Q) (hne:isMap B.e=false:=by rfl):bz P C ops S1 T fuel ld x Q i :=
 bz.fV He hw (OZ (hne:=hne) ho hd ht hi eO iu hs hk hb he U hl hn pY hy iB hm gl I) (fun C a w hs O Z=>hb ▸ Gi hs hk hT O Z) (fun O Z=>by
  have:O=b:=(by simpa using Z)
  subst this;rw[←hb];exact Bl hk) fun y ⟨O,E,h1,h2,hy⟩=>hy ▸ K O E h1 h2
theorem bz.Is {s y:Operand} {e tt sz bytes m:Nat} {z:Value} {cs:List D} (U:ops[i]?=some o) (hw:bY ops x o true) (ho:o.op = .call {callee:=.builtin .append,args:=#[s,y],argTypes:=#[t,t]}) (hd:o.dst=some tt)
  (ht:P.underlying t=some (.slice e)) (hi:(P.info? e).map (fun i=>(i.zero,i.size,i.bytes))=some (some z,sz,bytes)) (eO:z.cells.size=sz) (Z:0<sz)
  (hs:aE x s = .v (.slice none 0 0)) (hy:aE x y = .list sz cs m) (iB:∀d∈cs,one d=true) (hm:0<m) (gl:m≤maxLen) (I:m*bytes≤140737488355328)
  (K:∀O E,m≤E→E≤maxLen→AD P C ops S1 T fuel (ld.setIfInBounds i true) ⟨x.n,(tt,.v (.slice (some ⟨O,0,none⟩) m E))::x.env,⟨O,e,E*sz,cs⟩::x.S⟩ Q) (hne:isMap e=false:=by rfl):bz P C ops S1 T fuel ld x Q i :=
 bz.Gh U hw (OA (hne:=hne) ho hd ht hi eO Z hs hy iB hm gl I) fun y ⟨O,E,h1,h2,hy⟩=>hy ▸ K O E h1 h2

end Go.Proofs.YtdgichenhdikgaaGreatDoor.V
namespace Go.Proofs.YtdgichenhdikgaaGreatDoor.V
open List
open Go.RowKit
variable {P:Program} {C:dy} {G:List (Nat×List Value)} {Q:Exit→St→Prop} {x:St} {ops:Array Oper} {l:List Oper} {o:Oper} {S1 T:List Nat} {fuel i:Nat} {ld:Array Bool}
variable {S Sq R:List ah} {sz k n cap b tt:Nat} {B:ah} {t e:TypeId} {y:Operand} {ad:Option Addr} {cs':List D}
def View(S:List ah)(d d':D):Prop:=∀(X Y:Nat→Prop) w v,(∀b,Y b→X b)→(∀b,X b→b∉au S)→Own w (live X S) S→cg w (live X S) d v→cg w Y d' v
theorem cg.bare{w:World}{X Y:Nat→Prop}{d:D}{v:Value}(h:cg w (live X S) d v)(E:∀b,Y b→X b):cg w Y d v:=h.mono fun b _ hn=>⟨rfl,fun hy=>hn (.inl (E b hy))⟩
theorem eM{d:D}:View S d d:=fun X Y w v E _ _ h=>h.bare E
theorem yL:View S (.v (.slice none 0 0)) (.list sz [] 0):=fun X Y w v _ _ _ h=>by rw[h.kV];exact .nil sz
theorem acu{cs:List D}(hk:S[k]?=some B)(hb:B.b=b)(dh:B.cs=cs)(hl:cs.length=n*sz)(h1:n≤cap)(h2:cap≤maxLen)(hne:isMap B.e=false:=by rfl):View S (.v (.slice (some ⟨b,0,none⟩) n cap)) (.list sz cs n):=fun X Y w v E O ho h=>by
 subst hb dh;rw[h.kV];obtain⟨r0,cur,r1,r2,U,I⟩:=ho.at_ B (mem_of_getElem? hk);rw[kp hne] at r1;refine .list sz B.cs n B.b 0 cap (fun i=>cur.getD i undef) hl h1 h2 r0 (fun hy=>O _ (E _ hy) (mem_map.2 ⟨B,mem_of_getElem? hk,rfl⟩)) (fun i hi=>?_) (fun i hi=>?_)
 ·obtain⟨u,hu,_⟩:=I i hi;rw[Nat.zero_add,ow r1 hu];simp[hu]
 obtain⟨u,hu,hq⟩:=I i hi;simp only[Array.getD_eq_getD_getElem?,hu,Option.getD_some];exact hq.bare E
def gw(S:List ah):List D→List D→Prop
 | [],[]=>True
 | d::r,d'::r'=>View S d d'∧gw S r r'
 | _,_=>False
theorem gw.spec{S:List ah}:∀{ds E:List D},gw S ds E→ds.length=E.length∧∀i (h:i<ds.length) (h':i<E.length),View S ds[i] E[i]
 | [],[],_=>⟨rfl,fun i h=>by simp at h⟩
 | d::r,d'::r',h=>⟨by simp[(gw.spec h.2).1],fun i h1 h2=>by
  cases i with
  | zero=>exact h.1
  | succ i=>exact(gw.spec h.2).2 i _ _⟩
 | [],_::_,h=>h.elim
 | _::_,[],h=>h.elim
theorem uY{ds E:List D}(h:gw S ds E):View S (.agg ds) (.agg E):=fun X Y w v O U ho hr=>by
 obtain⟨h1,h2⟩:=h.spec;cases hr with
 | agg _ vs hl I=>exact .agg E vs w4 fun i q1 q2=>h2 i w4 q1 X Y w _ O U ho (I i w4 q2)
def Looks(x:St):List Operand→List D→Prop
 | [],[]=>True
 | o::r,d::r'=>(∃d0,aE x o=d0∧View x.S d0 d)∧Looks x r r'
 | _,_=>False
theorem Looks.CS{C:dy}{a:Act}{w:World}(h:bG C x a w):∀{os:List Operand} {ds:List D},Looks x os ds→cx w (fun _=>False) ds (os.map a.eval)
 | [],[],_=>⟨rfl,fun i h=>by simp at h⟩
 | o::r,d::r',⟨⟨d0,h1,h2⟩,h3⟩=>cx.cons (h2 _ _ _ _ (fun _ hf=>hf.elim) h.Ar h.own (h1 ▸ h.eval o)) (Looks.CS h h3)
 | [],_::_,h=>h.elim
 | _::_,[],h=>h.elim
theorem EH{ds E:List D}(h:gw S ds E):View S (.di ds) (.di E):=fun X Y w v O U ho hr=>by
 obtain⟨h1,h2⟩:=h.spec;cases hr with
 | di _ vs hl I=>exact .di E vs w4 fun i q1 q2=>h2 i w4 q1 X Y w _ O U ho (I i w4 q2)
theorem VC.cover{f:FuncId}{args:List D}{post:D→List ah→Prop}{E:D}(h:VC P G f args [] post)(I:∀r S',post r S'→View S' r E):VP P G f args E:=fun X w vs hp =>
 (h X w vs hp).mono fun e w' ⟨v,r,S',h1,h2,h3,h4,h5⟩=>by
  have O:∀b,X b→b∉au S':=fun b hb=>(h5.block b (hp.ex b hb).1 (hp.ex b hb).2).2;refine⟨v,E,[],h1,⟨rfl,rfl⟩,⟨fun B U=>by simp at U,by simp[au]⟩,I r S' h2 X _ w' v (fun b hb=>?_) O h3 h4,⟨h5.os,h5.tape,h5.output,h5.size,fun b hb hn=>⟨(h5.block b hb hn).1,by simp[au]⟩⟩⟩;rcases hb with hb|hb
  ·exact hb
  simp[au] at hb
def kS:D→Bool
 | .v _=>true
 | .di cs=>cs.all fun d=>match d with|.v _=>true|.agg es=>es.all (fun e=>match e with|.v _=>true|_=>false)|_=>false
 | .agg cs=>cs.all fun d=>match d with|.v _=>true|_=>false
 | _=>false
theorem cg.flat{w w':World}{L I:Nat→Prop}{d:D}{v:Value}(h:cg w L d v)(hf:kS d=true):cg w' I d v:=by
 have key:∀(d:D),(match d with|.v _=>true|_=>false)=true→∀v,cg w L d v→cg w' I d v:=fun d hd v h=>by
  cases d<;>simp at hd
  rw[h.kV];exact .v _
 have E:∀(d:D),(match d with|.v _=>true|.agg es=>es.all (fun e=>match e with|.v _=>true|_=>false)|_=>false)=true→∀v,cg w L d v→cg w' I d v:=fun d hd v h=>by
  cases d<;>simp at hd
  ·rw[h.kV];exact .v _
  cases h with
  | agg _ vs hl hr=>exact .agg _ vs hl fun i h1 h2=>key _ (by have:=hd _ (getElem_mem h1);simpa using this) _ (hr i h1 h2)
 cases h with
 | v=>exact .v _
 | di cs vs hl hr=>exact .di cs vs hl fun i h1 h2=>E _ (all_eq_true.1 hf _ (getElem_mem h1)) _ (hr i h1 h2)
 | agg cs vs hl hr=>exact .agg cs vs hl fun i h1 h2=>key _ (all_eq_true.1 hf _ (getElem_mem h1)) _ (hr i h1 h2)
 | _=>cases hf
theorem aaV{t':TypeId}{cs:List D}{z:Operand}(ho:o.op = .binOp .eql t y z t')(hd:o.dst=some tt)(hy:aE x y = .list sz cs n)(hz:aE x z = .v (.slice none 0 0))(ht:P.underlying t=some (.slice e)) :
  fN P G x o [] (fun s=>∃b:Bool,(b=true→n=0∧cs=[])∧s=x.put tt (.v (.bool b))):=fun C a w K Q hG h hK=>by
 have hr:=h.eval y;rw[hy] at hr;generalize hg:a.eval y=u at hr;have E:∀ad len cap,u = .slice ad len cap→(execOp a.eval o).run P w = .ok (.value (.bool ad.isNone)) w:=fun ad len cap I=>by
  subst I;unfold execOp;have e1:binOp .eql t (.slice ad len cap) (.slice none 0 0)=(do pure (.bool (←Op.equal t (.slice ad len cap) (.slice none 0 0)))):=rfl;simp only[ho,hg,h.flat hz,eqGuard,e1,Sem.run_bind];simp[run_equal_slice_nil w t e ad len cap ht]
 unfold Oper.wp;cases hr with
 | my _ ad cap =>
  rw[E ad 0 cap rfl,Oper.upon_value,hd];exact hK _ _ _ ⟨ad.isNone,fun _=>⟨rfl,rfl⟩,rfl⟩ (h.put (.v _)) (l7.refl _ _) (Fr.refl _ _)
 | list _ _ _ b o' cap f hl q1 q2 hb hL hc O =>
  rw[E (some ⟨b,o',none⟩) n cap rfl,Oper.upon_value,hd];exact hK _ _ _ ⟨false,(fun U=>absurd U bn),rfl⟩ (h.put (.v _)) (l7.refl _ _) (Fr.refl _ _)
theorem OD.zu {t':TypeId} {cs:List D} {z:Operand} (hw:bY ops x o true) (ho:o.op = .binOp .eql t y z t') (hd:o.dst=some tt) (hy:aE x y = .list sz cs n) (hz:aE x z = .v (.slice none 0 0)) (ht:P.underlying t=some (.slice e))
  (K:∀b:Bool,(b=true→n=0∧cs=[])→OD P C ops l (x.put tt (.v (.bool b))) Q):OD P C ops (o::l) x Q :=
 OD.fV hw (aaV ho hd hy hz ht) fun y ⟨b,hb,hy⟩=>hy ▸ K b hb
theorem aaW(ho:o.op = .buildSlice t 0 #[])(jz:o.dst=some tt)(E:∀w,(underlying t).run P w = .ok (.slice e) w)(hs:∀w,(sizeOf e).run P w = .ok sz w)(hne:isMap e=false:=by rfl) :
  fN P G x o [] (fun s=>∃b,s=⟨x.n,(tt,.v (.slice (some ⟨b,0,none⟩) 0 0))::x.env,⟨b,e,0*sz,[]⟩::x.S⟩):=fun C a w K Q hG h hK=>by
 unfold Oper.wp;have:(execOp a.eval o).run P w = .ok (.value (.slice (some ⟨w.heap.size,0,none⟩) 0 0)) (w.alloc (.cells #[] e)):=by
  unfold execOp;have I:Array.map (fun x=>(default:Value)) (Array.range 0) = #[]:=Array.eq_empty_of_size_eq_zero bn;simp[ho,Instr.buildSlice,E,hs,Instr.fill,newRow,I]
 rw[this,Oper.upon_value,jz];exact hK _ _ _ ⟨w.heap.size,rfl⟩ (h.new (hne:=hne) (ds:=[]) (cx.nil _ _) bn (fun L=>.v _)) (l7.alloc _ _) (Fr.alloc _ _ _)
theorem OD.zv (hw:bY ops x o true) (ho:o.op = .buildSlice t 0 #[]) (jz:o.dst=some tt) (E:∀w,(underlying t).run P w = .ok (.slice e) w) (hs:∀w,(sizeOf e).run P w = .ok sz w)
  (K:∀b,OD P C ops l ⟨x.n,(tt,.v (.slice (some ⟨b,0,none⟩) 0 0))::x.env,⟨b,e,0*sz,[]⟩::x.S⟩ Q) (hne:isMap e=false:=by rfl):OD P C ops (o::l) x Q :=
 OD.fV hw (aaW (hne:=hne) ho jz E hs) fun y ⟨b,hy⟩=>hy ▸ K b
def bp(e sz:Nat)(cs:List D)(n:Nat)(ad:Option Addr)(cap:Nat)(S:List ah):Prop :=
 (n=0∧cs=[]∧ad=none∧cap=0∧S=[])∨∃b,ad=some ⟨b,0,none⟩∧n≤cap∧cap≤maxLen∧S=[⟨b,e,cap*sz,cs⟩]
theorem lK{e:Nat}{cs:List D}(h:bp e sz cs n ad cap Sq)(hl:cs.length=n*sz)(hs:∀B∈Sq,B∈S)(hne:isMap e=false:=by rfl):View S (.v (.slice ad n cap)) (.list sz cs n):=by
 rcases h with ⟨rfl,rfl,rfl,rfl,rfl⟩|⟨b,rfl,h1,h2,rfl⟩
 ·exact yL
 obtain⟨k,hk,he⟩:=mem_iff_getElem.1 (hs _ mem_cons_self);exact acu (hne:=hne) (k:=k) (by rw[getElem?_eq_getElem hk,he]) rfl rfl hl h1 h2
theorem bp.le{e:Nat}{cs:List D}(h:bp e sz cs n ad cap S):n≤cap:=by
 rcases h with ⟨rfl,_,_,rfl,_⟩|⟨_,_,h,_⟩
 ·exact Nat.le_refl _
 exact h
theorem Wk.perm{env:List (Nat×D)}{S':List ah}(hp:S.Perm S'):Wk ⟨n,env,S⟩ ⟨n,env,S'⟩:=fun C a w h=>by
 have hb:(au S).Perm (au S'):=hp.map ah.b;have hl:live C.X S=live C.X S':=(by funext b;exact propext (or_congr Iff.rfl hb.mem_iff))
 have I:=h.env;have E:=h.own;simp only[hl] at I E;exact⟨h.defers,h.size,I,⟨fun B O=>E.at_ B (hp.symm.subset O),hb.nodup_iff.1 E.apart⟩,
  ⟨h.fr.os,h.fr.tape,h.fr.output,h.fr.size,fun b h1 h2=>⟨(h.fr.block b h1 h2).1,fun hm=>(h.fr.block b h1 h2).2 (hb.symm.subset hm)⟩⟩,h.ex,h.eL⟩
theorem OD.perm{S':List ah}(hp:x.S.Perm S')(k:OD P C ops l ⟨x.n,x.env,S'⟩ Q):OD P C ops l x Q:=OD.wk (Wk.perm hp) k
theorem AD.perm{S':List ah}(hp:x.S.Perm S')(k:AD P C ops S1 T fuel ld ⟨x.n,x.env,S'⟩ Q):AD P C ops S1 T fuel ld x Q:=AD.FN (Wk.perm hp) (fun b hb=>(hp.map ah.b).symm.subset hb) k
theorem CD.perm{c:Code}{S':List ah}(hp:x.S.Perm S')(k:CD P C c ⟨x.n,x.env,S'⟩ Q):CD P C c x Q:=CD.wk (Wk.perm hp) k
theorem Wk.cover{l:List (Nat×D)}{Sd:List ah}{A:ah}(hp:S.Perm ((A::R)++Sd))(Z:gw Sd A.cs cs'):Wk ⟨n,l,S⟩ ⟨n,l,{A with cs:=cs'}::R⟩:=fun C a w h0=>by
 have h:=Wk.perm hp C a w h0;have hd:bG C ⟨n,l,A::R⟩ a w:=Wk.drop n l _ (A::R) (sublist_append_left _ _) C a w h;obtain⟨v1,v2⟩:=Z.spec;have U:live C.X ({A with cs:=cs'}::R)=live C.X (A::R):=rfl;have hL:live C.X ((A::R)++Sd)=live (fun b=>live C.X (A::R) b) Sd:=by
  funext b;simp only[live,au,map_append,mem_append];exact propext or_assoc.symm
 have hnd:(au (A::R)++au Sd).Nodup:=(by have:=h.own.apart;simpa[au] using this)
 have hX:∀b,live C.X (A::R) b→b∉au Sd:=fun b hb hm=>by
  rcases hb with hb|hb
  ·exact h.Ar b hb (by simp only[au,map_append,mem_append] at hm ⊢;exact .inr hm)
  exact(nodup_append.1 hnd).2.2 b hb b hm rfl
 have E:Own w (live (fun b=>live C.X (A::R) b) Sd) Sd:=⟨fun B I=>by rw[←hL];exact h.own.at_ B (mem_append_right _ I),(nodup_append.1 hnd).2.1⟩
 refine⟨hd.defers,hd.size,hd.env,⟨fun B I=>?_,hd.own.apart⟩,hd.fr,hd.ex,hd.eL⟩;rcases mem_cons.1 I with rfl|I
 ·obtain⟨r0,cur,r1,r2,r3,r4⟩:=h.own.at_ A (mem_append_left _ mem_cons_self);refine⟨r0,cur,r1,r2,by rw[←v1];exact r3,fun i hi=>?_⟩;have O:i<A.cs.length:=(by rw[v1];exact hi)
  obtain⟨u,hu,hq⟩:=r4 i O;refine⟨u,hu,v2 i O hi (fun b=>live C.X (A::R) b) _ w u (fun b hb=>hb) hX E ?_⟩;rw[←hL];exact hq
 exact hd.own.at_ B (mem_cons_of_mem _ I)
theorem OD.cover{R Sd:List ah}{A:ah}{cs':List D}(hp:x.S.Perm ((A::R)++Sd))(E:gw Sd A.cs cs')(k:OD P C ops l ⟨x.n,x.env,{A with cs:=cs'}::R⟩ Q):OD P C ops l x Q:=OD.wk (Wk.cover hp E) k
theorem D9(hk:S[k]?=some B)(hp:S.Perm (B::R)):(S.eraseIdx k).Perm R:=((uU hk).symm.trans hp).cons_inv
theorem OD.vv {k t m cap sz b:Nat} {B:ah} {cs:List D} (hk:x.S[k]?=some B) (ht:V.look t x.env = .v (.slice (some ⟨b,0,none⟩) m cap)) (hb:B.b=b) (dh:B.cs=cs) (hl:cs.length=m*sz) (h1:m≤cap) (h2:cap≤maxLen)
  (K:OD P C ops l ⟨x.n,(t,.list sz cs m)::x.env,x.S.eraseIdx k⟩ Q) (hne:isMap B.e=false:=by rfl):OD P C ops l x Q:=by
 subst hb;exact OD.wk (Wk.vv (hne:=hne) (n:=x.n) (l:=x.env) (S:=x.S) hk ht dh hl h1 h2) K
theorem AD.vv {k t m cap sz b:Nat} {B:ah} {cs:List D} (hk:x.S[k]?=some B) (ht:V.look t x.env = .v (.slice (some ⟨b,0,none⟩) m cap)) (hb:B.b=b) (dh:B.cs=cs) (hl:cs.length=m*sz) (h1:m≤cap) (h2:cap≤maxLen)
  (K:AD P C ops S1 T fuel ld ⟨x.n,(t,.list sz cs m)::x.env,x.S.eraseIdx k⟩ Q) (hne:isMap B.e=false:=by rfl):AD P C ops S1 T fuel ld x Q:=by
 subst hb;exact AD.FN (Wk.vv (hne:=hne) (n:=x.n) (l:=x.env) (S:=x.S) hk ht dh hl h1 h2) (fun b hb=>(Sublist.map ah.b (eraseIdx_sublist x.S k)).subset hb) K
theorem OD.Ei {s:Operand} {t e bytes m:Nat} {z:Value} {cs new:List D} (hw:bY ops x o true) (ho:o.op = .call {callee:=.builtin .append,args:=#[s,y],argTypes:=#[t,t]}) (hd:o.dst=some tt)
  (ht:P.underlying t=some (.slice e)) (hi:(P.info? e).map (fun i=>(i.zero,i.size,i.bytes))=some (some z,sz,bytes)) (eO:z.cells.size=sz) (U:0<sz)
  (hs:aE x s = .v (.slice ad n cap)) (tr:bp e sz cs n ad cap Sq) (hp:x.S.Perm (Sq++R)) (hl:cs.length=n*sz)
  (hy:aE x y = .list sz new m) (iB:∀d∈new,one d=true) (hm:0<m) (gl:n+m≤maxLen) (I:(n+m)*bytes≤140737488355328)
  (K:∀O E,n+m≤E→E≤maxLen→OD P C ops l ⟨x.n,(tt,.v (.slice (some ⟨O,0,none⟩) (n+m) E))::x.env,⟨O,e,E*sz,cs++new⟩::R⟩ Q) (hne:isMap e=false:=by rfl):OD P C ops (o::l) x Q:=by
 rcases tr with ⟨rfl,rfl,rfl,rfl,rfl⟩|⟨b,rfl,h1,h2,rfl⟩
 ·refine OD.Is (hne:=hne) hw ho hd ht hi eO U hs hy iB hm w4 (by rw[Nat.zero_add] at I;exact I) fun O E q1 q2=>?_;have:=K O E w4 q2;rw[Nat.zero_add] at this;exact OD.wk (Wk.perm (hp.cons _)) this
 obtain⟨k,hk,he⟩:=mem_iff_getElem.1 (hp.symm.subset (mem_append_left _ mem_cons_self));have Z:x.S[k]?=some (⟨b,e,cap*sz,cs⟩:ah):=(by rw[getElem?_eq_getElem hk,he])
 refine OD.append (hne:=hne) hw ho hd ht hi eO U hs Z rfl rfl rfl hl h1 h2 hy iB hm gl I fun O E q1 q2=>?_;exact OD.wk (Wk.perm ((D9 Z hp).cons _)) (K O E q1 q2)
theorem bz.Ei {s:Operand} {t e bytes m:Nat} {z:Value} {cs new:List D} (Z:ops[i]?=some o) (hw:bY ops x o true) (ho:o.op = .call {callee:=.builtin .append,args:=#[s,y],argTypes:=#[t,t]}) (hd:o.dst=some tt)
  (ht:P.underlying t=some (.slice e)) (hi:(P.info? e).map (fun i=>(i.zero,i.size,i.bytes))=some (some z,sz,bytes)) (eO:z.cells.size=sz) (iu:0<sz)
  (hs:aE x s = .v (.slice ad n cap)) (tr:bp e sz cs n ad cap Sq) (hp:x.S.Perm (Sq++R)) (hl:cs.length=n*sz)
  (hy:aE x y = .list sz new m) (iB:∀d∈new,one d=true) (hm:0<m) (gl:n+m≤maxLen) (I:(n+m)*bytes≤140737488355328) (hT:∀b∈T,b∈au R)
  (K:∀U E,n+m≤E→E≤maxLen→AD P C ops S1 T fuel (ld.setIfInBounds i true) ⟨x.n,(tt,.v (.slice (some ⟨U,0,none⟩) (n+m) E))::x.env,⟨U,e,E*sz,cs++new⟩::R⟩ Q) (hne:isMap e=false:=by rfl):bz P C ops S1 T fuel ld x Q i:=by
 rcases tr with ⟨rfl,rfl,rfl,rfl,rfl⟩|⟨b,rfl,h1,h2,rfl⟩
 ·refine bz.Is (hne:=hne) Z hw ho hd ht hi eO iu hs hy iB hm w4 (by rw[Nat.zero_add] at I;exact I) fun U E q1 q2=>?_;have:=K U E w4 q2;rw[Nat.zero_add] at this;exact AD.FN (Wk.perm (hp.cons _)) (fun b hb=>((hp.cons _).map ah.b).symm.subset hb) this
 obtain⟨k,hk,he⟩:=mem_iff_getElem.1 (hp.symm.subset (mem_append_left _ mem_cons_self));have O:x.S[k]?=some (⟨b,e,cap*sz,cs⟩:ah):=(by rw[getElem?_eq_getElem hk,he])
 refine bz.append (hne:=hne) Z hw ho hd ht hi eO iu hs O rfl rfl rfl hl h1 h2 hy iB hm gl I (fun b hb=>((D9 O hp).map ah.b).symm.subset (hT b hb)) fun U E q1 q2=>?_;exact AD.FN (Wk.perm ((D9 O hp).cons _)) (fun b hb=>(((D9 O hp).cons _).map ah.b).symm.subset hb) (K U E q1 q2)
theorem OD.storeAt {o':Nat} {d:D} {z:Operand} (hw:bY ops x o true) (ho:o.op = .store t y z) (jz:o.dst=none) (hy:aE x y = .v (.pointer (some ⟨b,o',none⟩)))
  (hk:x.S[k]?=some B) (hb:B.b=b) (hz:aE x z=d) (hj:kR d=true) (h1:(cellsOf d).all one=true) (hn:∀w,(sizeOf t).run P w = .ok n w) (gd:(cellsOf d).length=n) (hl:o'+n≤B.cs.length) (dh:da B.cs o' (cellsOf d)=cs')
  (K:OD P C ops l ⟨x.n,x.env,x.S.set k {B with cs:=cs'}⟩ Q) (hne:isMap B.e=false:=by rfl):OD P C ops (o::l) x Q :=
 OD.fV hw (Eh (hne:=hne) ho jz hy hk hb hz (fun h=>by rw[h] at hj;cases hj) h1 hn gd hl dh) fun y hy=>hy ▸ K
theorem bz.storeAt {o':Nat} {d:D} {z:Operand} (hi:ops[i]?=some o) (hw:bY ops x o true) (ho:o.op = .store t y z) (jz:o.dst=none) (hy:aE x y = .v (.pointer (some ⟨b,o',none⟩)))
  (hk:x.S[k]?=some B) (hb:B.b=b) (hz:aE x z=d) (hj:kR d=true) (h1:(cellsOf d).all one=true) (hn:∀w,(sizeOf t).run P w = .ok n w) (gd:(cellsOf d).length=n) (hl:o'+n≤B.cs.length) (dh:da B.cs o' (cellsOf d)=cs')
  (hT:∀b∈T,b∈au (x.S.eraseIdx k))
  (K:AD P C ops S1 T fuel (ld.setIfInBounds i true) ⟨x.n,x.env,x.S.set k {B with cs:=cs'}⟩ Q) (hne:isMap B.e=false:=by rfl):bz P C ops S1 T fuel ld x Q i :=
 bz.fV hi hw (Eh (hne:=hne) ho jz hy hk hb hz (fun h=>by rw[h] at hj;cases hj) h1 hn gd hl dh) (fun C a w hs I E=>hb ▸ Gi hs hk hT I E) (fun I E=>by
  have:I=b:=(by simpa using E)
  subst this;rw[←hb];exact Bl hk) fun y hy=>hy ▸ K

end Go.Proofs.YtdgichenhdikgaaGreatDoor.V
namespace Go.Proofs.YtdgichenhdikgaaGreatDoor.V
open List
open Go.RowKit
variable {P:Program} {G:List (Nat×List Value)} {x:St} {o:Oper} {S:List ah}
variable {y:Operand} {d0:D} {k b o' n sz i j cap h' l':Nat} {t e:TypeId} {B:ah} {α:Type} {ad:Option Addr} {lo hi:Option Operand}
def R1(P:Program)(G:List (Nat×List Value))(S:List ah)(mk:Operand→Op)(d0:D)(k:Rd)(d:D):Prop:=∀x o y,o.op=mk y→aE x y=d0→x.S=S→bQ P G x o k d
theorem cR{mk:Operand→Op}{d:D}{k:Rd}(ho:o.op=mk y)(hy:aE x y=d0)(H:R1 P G x.S mk d0 k d):bQ P G x o k d:=H x o y ho hy rfl
def R2(P:Program)(G:List (Nat×List Value))(S:List ah)(mk:Operand→Operand→Op)(d0 d1:D)(k:Rd)(d:D):Prop:=∀x o y z,o.op=mk y z→aE x y=d0→aE x z=d1→x.S=S→bQ P G x o k d
theorem su{mk:Operand→Operand→Op}{z:Operand}{d1 d:D}{k:Rd}(ho:o.op=mk y z)(hy:aE x y=d0)(hz:aE x z=d1)(H:R2 P G x.S mk d0 d1 k d):bQ P G x o k d:=H x o y z ho hy hz rfl
theorem zc{t:Nat}{d:D}(hk:S[k]?=some B)(hb:B.b=b)(ha:∀w,(isAgg t).run P w = .ok false w)(hd:B.cs[o']?=some d)(hne:isMap B.e=false:=by rfl):R1 P G S (Op.load t) (.v (.pointer (some ⟨b,o',none⟩))) (.fp k) d:=fun x o y ho hy hS=>D5 (hne:=hne) ho hy (hS ▸ hk) hb ha hd
theorem qy{t:Nat}{ds:List D}(hk:S[k]?=some B)(hb:B.b=b)(ha:∀w,(isAgg t).run P w = .ok true w)(hn:∀w,(sizeOf t).run P w = .ok n w)(hl:ds.length=n)(hd:(B.cs.drop o').take n=ds)(hne:isMap B.e=false:=by rfl):R1 P G S (Op.load t) (.v (.pointer (some ⟨b,o',none⟩))) (.fp k) (.agg ds):=fun x o y ho hy hS=>AR (hne:=hne) ho hy (hS ▸ hk) hb ha hn hl hd
theorem B9{t:Nat}{cs:List D}{d:D}(ha:∀w,(isAgg t).run P w = .ok false w)(hd:cs[o']?=some d):R1 P G S (Op.load t) (.fx cs o') .jU d:=fun x o y ho hy _=>D3 ho hy ha hd
theorem qE{t:Nat}{cs ds:List D}(ha:∀w,(isAgg t).run P w = .ok true w)(hn:∀w,(sizeOf t).run P w = .ok n w)(hl:ds.length=n)(hd:(cs.drop o').take n=ds):R1 P G S (Op.load t) (.fx cs o') .jU (.agg ds):=fun x o y ho hy _=>HR ho hy ha hn hl hd
theorem vg{g:α→List D}{t:Nat}{ls:List α}{d:D}(hg:∀a,(g a).length=sz)(ha:∀w,(isAgg t).run P w = .ok false w)(hi:i<ls.length)(hd:(g ls[i])[j]?=some d):R1 P G S (Op.load t) (.fx (ls.flatMap g) (i*sz+j)) .jU d:=B9 ha (yZ hg hi hd)
theorem qB{g:α→List D}{t:Nat}{ls:List α}{d:D}(hg:∀a,(g a).length=sz)(ha:∀w,(isAgg t).run P w = .ok false w)(hi:i<ls.length)(hd:(g ls[i])[0]?=some d):R1 P G S (Op.load t) (.fx (ls.flatMap g) (i*sz)) .jU d:=B9 ha (I1 hg hi hd)
theorem jZ{g:α→List D}{t:Nat}{ls:List α}(hg:∀a,(g a).length=sz)(ha:∀w,(isAgg t).run P w = .ok true w)(hn:∀w,(sizeOf t).run P w = .ok sz w)(hi:i<ls.length):R1 P G S (Op.load t) (.fx (ls.flatMap g) (i*sz)) .jU (.agg (g ls[i])):=qE ha hn (hg _) (FP hg hi)
theorem af5{t:Nat}{vs:List Value}{v:Value}(hg:(b,vs)∈G)(ha:∀w,(isAgg t).run P w = .ok false w)(hd:vs[o']?=some v)(qT:rj v=true:=by rfl):R1 P G S (Op.load t) (.v (.pointer (some ⟨b,o',none⟩))) .jU (.v v):=fun x o y ho hy _=>ZD ho hy hg ha hd qT
theorem lA{g:α→List D}{t:Nat}{ls:List α}{d:D}(hg:∀a,(g a).length=sz)(hk:S[k]?=some B)(hb:B.b=b)(dh:B.cs=ls.flatMap g)(ha:∀w,(isAgg t).run P w = .ok false w)(hi:i<ls.length)(hd:(g ls[i])[j]?=some d)(hne:isMap B.e=false:=by rfl):R1 P G S (Op.load t) (.v (.pointer (some ⟨b,0+i*sz+j,none⟩))) (.fp k) d :=
 zc (hne:=hne) hk hb ha (by rw[dh,Nat.zero_add];exact yZ hg hi hd)
theorem iT{g:α→List D}{t:Nat}{ls:List α}{d:D}(hg:∀a,(g a).length=sz)(hk:S[k]?=some B)(hb:B.b=b)(dh:B.cs=ls.flatMap g)(ha:∀w,(isAgg t).run P w = .ok false w)(hi:i<ls.length)(hd:(g ls[i])[0]?=some d)(hne:isMap B.e=false:=by rfl):R1 P G S (Op.load t) (.v (.pointer (some ⟨b,0+i*sz,none⟩))) (.fp k) d :=
 zc (hne:=hne) hk hb ha (by rw[dh,Nat.zero_add];exact I1 hg hi hd)
theorem dA{g:α→List D}{t:Nat}{ls:List α}(hg:∀a,(g a).length=sz)(hk:S[k]?=some B)(hb:B.b=b)(dh:B.cs=ls.flatMap g)(ha:∀w,(isAgg t).run P w = .ok true w)(hn:∀w,(sizeOf t).run P w = .ok sz w)(hi:i<ls.length)(hne:isMap B.e=false:=by rfl):R1 P G S (Op.load t) (.v (.pointer (some ⟨b,0+i*sz,none⟩))) (.fp k) (.agg (g ls[i])) :=
 qy (hne:=hne) hk hb ha hn (hg _) (by rw[dh,Nat.zero_add];exact FP hg hi)
theorem SV{len:Nat}{ts:Array TypeId}(ht:ts = #[t])(E:∀w,(underlying t).run P w = .ok (.slice e) w):R1 P G S (fun y=>.call {callee:=.builtin .len,args:=#[y],argTypes:=ts}) (.v (.slice ad len cap)) .none (.v (.int .i64 len)):=fun x o y ho hy _=>OY ho ht hy E
theorem tX{len:Nat}{cs:List D}{k:IntKind}{i:Int}(E:∀w,(underlying t).run P w = .ok (.slice e) w)(hs:∀w,(sizeOf e).run P w = .ok sz w)(hi:i=j)(hj:j<len):R2 P G S (Op.indexAddr t) (.list sz cs len) (.v (.int k i)) .none (.fx cs (j*sz)):=fun x o y z ho hy hz _=>Pu ho hy hz E hs hi hj
theorem uf{len:Nat}{k:IntKind}{i:Int}(E:∀w,(underlying t).run P w = .ok (.slice e) w)(hs:∀w,(sizeOf e).run P w = .ok sz w)(hi:i=j)(hj:j<len):R2 P G S (Op.indexAddr t) (.v (.slice (some ⟨b,o',none⟩) len cap)) (.v (.int k i)) .none (.v (.pointer (some ⟨b,o'+j*sz,none⟩))):=fun x o y z ho hy hz _=>OX ho hy hz E hs hi hj
theorem Ut{len:Nat}{k:IntKind}{i:Int}(E:∀w,(underlying t).run P w = .ok (.array len e) w)(hs:∀w,(sizeOf e).run P w = .ok sz w)(hi:i=j)(hj:j<len):R2 P G S (Op.indexAddr t) (.v (.pointer (some ⟨b,o',none⟩))) (.v (.int k i)) .none (.v (.pointer (some ⟨b,o'+j*sz,none⟩))):=fun x o y z ho hy hz _=>Z1 ho hy hz E hs hi hj
def Bd(x:St)(y:Option Operand)(n:Nat):Prop:=match y with|some y=>∃(k:IntKind),aE x y = .v (.int k n)|none=>True
def Rs(P:Program)(G:List (Nat×List Value))(t:TypeId)(lo hi:Option Operand)(l h:Nat)(d0:D)(d:D):Prop:=∀x o y,o.op = .slice t y lo hi none→aE x y=d0→Bd x lo l→Bd x hi h→bQ P G x o .none d
theorem eB{l h:Nat}{d:D}(ho:o.op = .slice t y lo hi none)(hy:aE x y=d0)(hl:Bd x lo l)(E:Bd x hi h)(H:Rs P G t lo hi l h d0 d):bQ P G x o .none d:=H x o y ho hy hl E
theorem rf{y:Option Operand}{df:Nat}(h:Bd x y n)(hd:y=none→n=df):mL x y n df:=by
 cases y with
 | none=>exact hd rfl
 | some y=>obtain⟨k,hk⟩:=h;exact⟨k,_,hk,rfl⟩
theorem nQ {g:α→List D} (hg:∀a,(g a).length=sz) {ls:List α} (er:hi=none→h'=ls.length)
  (E:∀w,(underlying t).run P w = .ok (.slice e) w) (hs:∀w,(sizeOf e).run P w = .ok sz w) (h2:h'≤ls.length):Rs P G t lo hi 0 h' (.list sz (ls.flatMap g) ls.length) (.list sz ((ls.take h').flatMap g) (ls.take h').length):=fun x o y ho hy hl I =>
 ZH hg ho hy (rf hl fun _=>rfl) (rf I er) E hs h2
theorem yU {g:α→List D} {ls:List α} (E:h'=ls.length) (hg:∀a,(g a).length=sz) (eK:lo=none→l'=0)
  (I:∀w,(underlying t).run P w = .ok (.slice e) w) (hs:∀w,(sizeOf e).run P w = .ok sz w) (h2:l'≤ls.length):Rs P G t lo none l' h' (.list sz (ls.flatMap g) ls.length) (.list sz ((ls.drop l').flatMap g) (ls.drop l').length):=fun x o y ho hy hl O=>by
 subst E;exact ZI hg ho hy (rf hl eK) rfl I hs h2
theorem nP {len:Nat} {cs:List D} (eK:lo=none→l'=0) (er:hi=none→h'=len)
  (E:∀w,(underlying t).run P w = .ok (.slice e) w) (hs:∀w,(sizeOf e).run P w = .ok sz w) (h1:l'≤h') (h2:h'≤len):Rs P G t lo hi l' h' (.list sz cs len) (.list sz ((cs.drop (l'*sz)).take ((h'-l')*sz)) (h'-l')):=fun x o y ho hy hl I =>
 HU ho hy (rf hl eK) (rf I er) E hs h1 h2
theorem oB {len:Nat} (er:hi=none→h'=len)
  (E:∀w,(underlying t).run P w = .ok (.slice e) w) (hs:∀w,(sizeOf e).run P w = .ok sz w) (h2:h'≤cap):Rs P G t lo hi 0 h' (.v (.slice (some ⟨b,o',none⟩) len cap)) (.v (.slice (some ⟨b,o',none⟩) h' cap)):=fun x o y ho hy hl I =>
 OI ho hy (rf hl fun _=>rfl) (rf I er) E hs h2
theorem af6 {s:ByteArray} (eK:lo=none→l'=0) (er:hi=none→h'=s.size)
  (E:∀w,(underlying t).run P w = .ok .string w) (h1:l'≤h') (h2:h'≤s.size):Rs P G t lo hi l' h' (.v (.string s)) (.v (.string (s.extract l' h'))):=fun x o y ho hy hl I =>
 Zr ho hy (rf hl eK) (rf I er) E h1 h2
theorem OD.ey {C:dy} {Q:Exit→St→Prop} {ops:Array Oper} {l:List Oper} {g:α→List D} {ls new:List α} {s:Operand} {t e tt bytes:Nat} {z:Value} {Sq R:List ah} (hg:∀a,(g a).length=sz) (hg1:∀a,(g a).all one=true) (hw:bY ops x o true) (ho:o.op = .call {callee:=.builtin .append,args:=#[s,y],argTypes:=#[t,t]}) (hd:o.dst=some tt)
  (ht:P.underlying t=some (.slice e)) (hi:(P.info? e).map (fun i=>(i.zero,i.size,i.bytes))=some (some z,sz,bytes)) (eO:z.cells.size=sz) (U:0<sz)
  (hs:aE x s = .v (.slice ad ls.length cap)) (Z:bp e sz (ls.flatMap g) ls.length ad cap Sq) (hp:x.S.Perm (Sq++R))
  (hy:aE x y = .list sz (new.flatMap g) new.length) (hm:0<new.length) (gl:ls.length+new.length≤maxLen) (I:(ls.length+new.length)*bytes≤140737488355328)
  (K:∀O E,(ls++new).length≤E→E≤maxLen→OD P C ops l ⟨x.n,(tt,.v (.slice (some ⟨O,0,none⟩) (ls++new).length E))::x.env,⟨O,e,E*sz,(ls++new).flatMap g⟩::R⟩ Q) (hne:isMap e=false:=by rfl):OD P C ops (o::l) x Q :=
 OD.Ei (hne:=hne) hw ho hd ht hi eO U hs Z hp (cn hg ls) hy (ue hg1 new) hm gl I fun O E h1 h2=>by
  have:=K O E (by rw[length_append];exact h1) h2;rw[length_append,flatMap_append] at this;exact this
theorem Wk.shrink{l:List (Nat×D)}{S:List ah}{cs':List D}(hk:S[k]?=some B)(hp:cs' <+: B.cs):Wk ⟨n,l,S⟩ ⟨n,l,S.set k {B with cs:=cs'}⟩:=fun C a w h=>by
 have dU:=(List.getElem?_eq_some_iff.1 hk).1;have U:=(List.getElem?_eq_some_iff.1 hk).2;have E:au (S.set k {B with cs:=cs'})=au S:=by
  unfold au;rw[map_set];apply ext_getElem bn;intro i q1 q2;rw[getElem_set];split
  ·rename_i e;subst e;simp[U]
  rfl
 have I:live C.X (S.set k {B with cs:=cs'})=live C.X S:=(by funext b;simp only[live,E])
 refine⟨h.defers,h.size,fun t ht=>?_,⟨fun B' Z=>?_,?_⟩,?_,h.ex,h.eL⟩
 ·simp only[I];exact h.env t ht
 ·simp only[I];obtain⟨j,hj,O⟩:=mem_iff_getElem.1 Z;rw[length_set] at hj;rw[getElem_set] at O;by_cases e:k=j
  ·rw[if_pos e] at O;subst O;obtain⟨r0,cur,r1,r2,r3,r4⟩:=h.own.at_ B (mem_of_getElem? hk);refine⟨r0,cur,r1,r2,Nat.le_trans hp.length_le r3,fun i hi=>?_⟩;obtain⟨u,hu,hq⟩:=r4 i (Nat.lt_of_lt_of_le hi hp.length_le);refine⟨u,hu,?_⟩;have:cs'[i]=B.cs[i]'(Nat.lt_of_lt_of_le hi hp.length_le):=IsPrefix.getElem hp hi;simp only[this];exact hq
  rw[if_neg e] at O;subst O;exact h.own.at_ _ (getElem_mem hj)
 ·simp only[E];exact h.own.apart
 simp only[E];exact h.fr
theorem OD.shrink{C:dy}{Q:Exit→St→Prop}{ops:Array Oper}{l:List Oper}{k:Nat}{B:ah}{cs':List D}(hk:x.S[k]?=some B)(hp:cs' <+: B.cs)(K:OD P C ops l ⟨x.n,x.env,x.S.set k {B with cs:=cs'}⟩ Q):OD P C ops l x Q:=OD.wk (Wk.shrink hk hp) K

end Go.Proofs.YtdgichenhdikgaaGreatDoor.V
namespace Go.Proofs.YtdgichenhdikgaaGreatDoor.V
open List
open Go.RowKit
variable {P:Program} {C:dy} {G:List (Nat×List Value)} {Q:Exit→St→Prop} {x:St} {ops:Array Oper} {l:List Oper} {o:Oper} {n:Nat} {e:List (Nat×D)} {S:List ah}
variable {t i:Nat} {b:Bool} {y c:Operand} {d':D} {kd:Rd} {l':List (Nat×D)} {p:Prop} {post:D→List ah→Prop}
def qV(P:Program)(t n:Nat):Bool:=match P.info? t with|some i=>Nat.beq i.size n|none=>false
theorem lR{n:Nat}(h:qV P t n=true):∀w,(sizeOf t).run P w = .ok n w:=by
 unfold qV at h;cases hi:P.info? t with
 | none=>rw[hi] at h;cases h
 | some i =>
  rw[hi] at h;intro w;have:=run_sizeOf (P:=P) w hi;rw[this];simp only[Program.cellsOf,hi,Option.map_some,Option.getD_some,Nat.eq_of_beq_eq_true h]
def qW(P:Program)(t:Nat)(b:Bool):Bool:=match P.underlying t with
 | some (.struct _)=>b
 | some (.array _ _)=>b
 | some _=>!b
 | none=>false
theorem iK(h:qW P t b=true):∀w,(isAgg t).run P w = .ok b w:=by
 unfold qW at h;intro w;cases hu:P.underlying t with
 | none=>rw[hu] at h;cases h
 | some d =>
  rw[hu] at h;have hr:=run_underlying hu w;unfold isAgg;rw[Sem.run_bind,hr];cases d<;>simp only at h<;>first|(subst h;rfl)|(cases b;rfl;cases h)
def CT(P:Program)(s i off:Nat):Bool:=match P.underlying s with
 | some (.struct fs)=>match fs[i]? with
  | some f=>Nat.beq f.offset off&&(match P.info? f.type with|some j=>Nat.ble 1 j.size|none=>false)
  | none=>false
 | _=>false
theorem ahy{s off:Nat}(h:CT P s i off=true):∃E f m,(∀w,(underlying s).run P w = .ok (.struct E) w)∧E[i]?=some f∧(∀w,(sizeOf f.type).run P w = .ok (m+1) w)∧f.offset=off:=by
 unfold CT at h;split at h
 ·rename_i E I;split at h
  ·rename_i f hf;rw[Bool.and_eq_true] at h;obtain⟨h1,h2⟩:=h;split at h2
   ·rename_i j hj;have O:=Nat.le_of_ble_eq_true h2;refine⟨E,f,j.size-1,run_underlying I,hf,fun w=>?_,Nat.eq_of_beq_eq_true h1⟩;have:=run_sizeOf (P:=P) w hj;rw[this];simp only[Program.cellsOf,hj,Option.map_some,Option.getD_some];congr 1;omega
   cases h2
  cases h
 cases h
def CU(P:Program)(t sz:Nat):Bool:=match P.underlying t with
 | some (.slice e)=>qV P e sz
 | _=>false
theorem ahz{sz:Nat}(h:CU P t sz=true):∃e,(∀w,(underlying t).run P w = .ok (.slice e) w)∧∀w,(sizeOf e).run P w = .ok sz w:=by
 unfold CU at h;split at h
 ·rename_i e E;exact⟨e,run_underlying E,lR h⟩
 cases h
def M9(P:Program)(t:Nat):Bool:=match P.underlying t with
 | some (.slice _)=>true
 | _=>false
theorem af7(h:M9 P t=true):∃e,∀w,(underlying t).run P w = .ok (.slice e) w:=by
 unfold M9 at h;split at h
 ·rename_i e E;exact⟨e,run_underlying E⟩
 cases h
theorem bF{z:Operand}{d:D}(ho:o.op = .move z∨o.op = .assign z:=by first|exact .inl rfl|exact .inr rfl)(hz:aE x z=d:=by first|exact ot|exact bV|exact tI|exact wq):bQ P G x o .none d:=by
 rcases ho with h|h
 ·exact acr h hz
 exact acs h hz
inductive FA (off:Nat):D→D→Prop
 | p {b o':Nat}:FA off (.v (.pointer (some ⟨b,o',none⟩))) (.v (.pointer (some ⟨b,o'+off,none⟩)))
 | i {cs:List D} {o':Nat}:FA off (.fx cs o') (.fx cs (o'+off))
theorem dF(off:Nat){s:TypeId}{d:D}(ho:o.op = .fieldAddr s y i:=by exact rfl)(hy:aE x y=d:=by first|exact ot|exact wq)(hc:CT P s i off=true:=by kernel_rfl)(h:FA off d d':=by first|exact .p|exact .i):bQ P G x o .none d':=by
 obtain⟨fs,f,m,h1,h2,h3,h4⟩:=ahy hc;cases h with
 | p=>exact ZC ho hy h1 h2 h3 h4
 | i=>exact Zq ho hy h1 h2 h3 h4
theorem qb{d:D}(ho:o.op = .nilCheck y:=by exact rfl)(hy:aE x y=d:=by exact ot)(h:FA 0 d d:=by first|exact .p|exact .i):bQ P G x o .none d:=by
 cases h with
 | p=>exact Zb ho hy
 | i=>exact Za ho hy
theorem Na{cs:List D}{d:D}(ho:o.op = .extract y i:=by exact rfl)(hy:aE x y = .di cs:=by exact ot)(hd:cs[i]?=some d:=by exact rfl):bQ P G x o .none d:=Zg ho hy hd
inductive LD (S:List ah):D→Rd→D→Prop
 | b (k:Nat) {b o':Nat} {B:ah} {d:D} (hk:S[k]?=some B) (hb:B.b=b) (hd:B.cs[o']?=some d) (hne:isMap B.e=false):LD S (.v (.pointer (some ⟨b,o',none⟩))) (.fp k) d
 | m {α:Type} {g:α→List D} {sz i j:Nat} {ls:List α} {d:D} (hg:∀a,(g a).length=sz) (hi:i<ls.length) (hd:(g ls[i])[j]?=some d):LD S (.fx (ls.flatMap g) (i*sz+j)) .jU d
 | m0 {α:Type} {g:α→List D} {sz i:Nat} {ls:List α} {d:D} (hg:∀a,(g a).length=sz) (hi:i<ls.length) (hd:(g ls[i])[0]?=some d):LD S (.fx (ls.flatMap g) (i*sz)) .jU d
 | r (k:Nat) {α:Type} {g:α→List D} {b sz i j:Nat} {B:ah} {ls:List α} {d:D} (hg:∀a,(g a).length=sz) (hk:S[k]?=some B) (hb:B.b=b) (dh:B.cs=ls.flatMap g) (hi:i<ls.length) (hd:(g ls[i])[j]?=some d) (hne:isMap B.e=false):LD S (.v (.pointer (some ⟨b,0+i*sz+j,none⟩))) (.fp k) d
 | r0 (k:Nat) {α:Type} {g:α→List D} {b sz i:Nat} {B:ah} {ls:List α} {d:D} (hg:∀a,(g a).length=sz) (hk:S[k]?=some B) (hb:B.b=b) (dh:B.cs=ls.flatMap g) (hi:i<ls.length) (hd:(g ls[i])[0]?=some d) (hne:isMap B.e=false):LD S (.v (.pointer (some ⟨b,0+i*sz,none⟩))) (.fp k) d
 | i {o':Nat} {cs:List D} {d:D} (hd:cs[o']?=some d):LD S (.fx cs o') .jU d
theorem LD.still{t:TypeId}{d0 d:D}(h:LD x.S d0 kd d)(ho:o.op = .load t y)(hy:aE x y=d0)(ha:∀w,(isAgg t).run P w = .ok false w):bQ P G x o kd d:=by
 cases h with
 | b k hk hb hd hne=>exact D5 (hne:=hne) ho hy hk hb ha hd
 | m hg hi hd=>exact D3 ho hy ha (yZ hg hi hd)
 | m0 hg hi hd=>exact D3 ho hy ha (I1 hg hi hd)
 | r k hg hk hb dh hi hd hne=>exact lA (hne:=hne) hg hk hb dh ha hi hd x o y ho hy rfl
 | r0 k hg hk hb dh hi hd hne=>exact iT (hne:=hne) hg hk hb dh ha hi hd x o y ho hy rfl
 | i hd=>exact D3 ho hy ha hd
theorem eN {t:TypeId} {d0 d:D} (ho:o.op = .load t y:=by exact rfl) (hy:aE x y=d0:=by exact ot) (ha:qW P t false=true:=by kernel_rfl)
  (h:LD x.S d0 kd d:=by first|exact .m Ah w5 rfl|exact .m0 Ah w5 rfl|exact .b 0 rfl rfl rfl rfl|exact .b 1 rfl rfl rfl rfl|exact .b 2 rfl rfl rfl rfl|exact .b 3 rfl rfl rfl rfl|exact .b 4 rfl rfl rfl rfl|exact .i rfl|exact .r 0 Ah rfl rfl rfl w5 rfl rfl|exact .r0 0 Ah rfl rfl rfl w5 rfl rfl|exact .r 1 Ah rfl rfl rfl w5 rfl rfl|exact .r0 1 Ah rfl rfl rfl w5 rfl rfl):bQ P G x o kd d:=h.still ho hy (iK ha)
theorem dI(k:Nat){b o':Nat}{B:ah}{d:D}(ho:o.op = .load t y:=by exact rfl)(hy:aE x y = .v (.pointer (some ⟨b,o',none⟩)):=by exact ot)(hk:x.S[k]?=some B:=by exact rfl)(hb:B.b=b:=by exact rfl)(ha:qW P t false=true:=by kernel_rfl)(hd:B.cs[o']?=some d:=by exact rfl)(hne:isMap B.e=false:=by exact rfl):bQ P G x o (.fp k) d:=D5 (hne:=hne) ho hy hk hb (iK ha) hd
theorem Lj(k:Nat)(ds:List D){b o':Nat}{B:ah}(ho:o.op = .load t y:=by exact rfl)(hy:aE x y = .v (.pointer (some ⟨b,o',none⟩)):=by exact ot)(ha:qW P t true=true:=by kernel_rfl)(hk:x.S[k]?=some B:=by exact rfl)(hb:B.b=b:=by exact rfl)(hd:(B.cs.drop o').take ds.length=ds:=by exact rfl)(hne:isMap B.e=false:=by exact rfl)(hn:qV P t ds.length=true:=by kernel_rfl):bQ P G x o (.fp k) (.agg ds):=AR (hne:=hne) ho hy hk hb (iK ha) (lR hn) rfl hd
inductive IX (sz:Nat) (i:Int):D→D→Prop
 | l {cs:List D} {len j:Nat} (hi:i=j) (hj:j<len):IX sz i (.list sz cs len) (.fx cs (j*sz))
 | r {b o' len cap j:Nat} (hi:i=j) (hj:j<len):IX sz i (.v (.slice (some ⟨b,o',none⟩) len cap)) (.v (.pointer (some ⟨b,o'+j*sz,none⟩)))
theorem dw (sz:Nat) {t:TypeId} {z:Operand} {k:IntKind} {i:Int} {d:D} (ho:o.op = .indexAddr t y z:=by exact rfl) (hy:aE x y=d:=by exact ot) (hz:aE x z = .v (.int k i):=by first|exact ot|exact bV) (hs:CU P t sz=true:=by kernel_rfl)
  (h:IX sz i d d':=by first|exact .l rfl w5|exact .r rfl w5|exact .l (Int.toNat_of_nonneg w4).symm w4|exact .r (Int.toNat_of_nonneg w4).symm w4):bQ P G x o .none d':=by
 obtain⟨e,h1,h2⟩:=ahz hs;cases h with
 | l hi hj=>exact Pu ho hy hz h1 h2 hi hj
 | r hi hj=>exact OX ho hy hz h1 h2 hi hj
theorem x7{t:TypeId}{d:D}{m:Nat}{ts:Array TypeId}(ho:o.op = .call {callee:=.builtin .len,args:=#[y],argTypes:=ts}:=by exact rfl)(ht:ts = #[t]:=by exact rfl)(hy:aE x y=d:=by exact ot)(hs:M9 P t=true:=by kernel_rfl)(h:(∃sz cs,d = .list sz cs m)∨∃ad cap,d = .v (.slice ad m cap):=by first|exact .inl ⟨_,_,rfl⟩|exact .inr ⟨_,_,rfl⟩):bQ P G x o .none (.v (.int .i64 m)):=by
 obtain⟨e,he⟩:=af7 hs;rcases h with ⟨sz,cs,rfl⟩|⟨ad,cap,rfl⟩
 ·exact aaS ho ht hy he
 exact OY ho ht hy he
theorem nj {op:BinOp} {t t':TypeId} {z:Operand} {u u' r:Value} (ho:o.op = .binOp op t y z t':=by exact rfl) (hy:aE x y = .v u:=by first|exact ot|exact bV) (hz:aE x z = .v u':=by first|exact ot|exact bV)
  (hb:kQ P op t u u' r:=by first|exact SR|exact SN|exact kr (wrap_i64 w4 w4)|exact gY (wrap_i64 w4 w4)|exact SS|exact SP|exact SO|exact SQ|exact JC (wrap_i64 w4 w4)|exact QR|exact QS|exact acv|exact acw|exact acy|exact acz|exact JE w4):bQ P G x o .none (.v r):=dz ho hy hz hb
theorem lm{t:TypeId}(ho:o.op = .unOp .not t y:=by exact rfl)(hy:aE x y = .v (.bool b):=by exact ot):bQ P G x o .none (.v (.bool !b)):=EF ho hy af3
theorem xu{z:Operand}{d:D}(ho:o.op = .pick c y z:=by exact rfl)(hc:aE x c = .v (.bool b):=by exact ot)(h:b=true:=by first|rfl|assumption)(hd:aE x y=d:=by first|exact ot|exact bV):bQ P G x o .none d:=ZF ho hc h hd
theorem vr{z:Operand}{d:D}(ho:o.op = .pick c y z:=by exact rfl)(hc:aE x c = .v (.bool b):=by exact ot)(h:b=false:=by first|rfl|assumption)(hd:aE x z=d:=by first|exact ot|exact bV):bQ P G x o .none d:=ZG ho hc h hd
theorem bN{d:D}(h:bQ P C.G ⟨n,e,S⟩ o kd d)(K:OD P C ops l ⟨n,(t,d)::e,S⟩ Q)(hw:bY ops ⟨n,e,S⟩ o true:=by first|exact sc rfl|exact tV rfl rfl rfl lk jn)(hd:o.dst=some t:=by exact rfl):OD P C ops (o::l) ⟨n,e,S⟩ Q:=OD.still hw hd h K
theorem CV(K:OD P C ops l ⟨n,(t,.v (.tuple #[]))::e,S⟩ Q)(hw:bY ops ⟨n,e,S⟩ o false:=by exact mH rfl rfl rfl lk jn)(hd:o.dst=some t:=by exact rfl):OD P C ops (o::l) ⟨n,e,S⟩ Q:=OD.skip hw hd K
inductive fE:List Nat→List (Nat×D)→List (Nat×D)→Prop
 | nil {e:List (Nat×D)}:fE [] e []
 | cons {t:Nat} {ts:List Nat} {d:D} {e l':List (Nat×D)} (h:look t e=d) (k:fE ts e l'):fE (t::ts) e ((t,d)::l')
theorem fE.kz{ts:List Nat}{e:List (Nat×D)}(h:fE ts e l'):ny e l':=by
 induction h with
 | nil=>trivial
 | cons h _ ih=>exact⟨h,ih⟩
theorem XS(ts:List Nat)(K:Q .normal ⟨n,l',S⟩)(h:fE ts e l':=by repeat (first|exact fE.nil|(apply fE.cons;focus exact lk))):OD P C ops [] ⟨n,e,S⟩ Q:=OD.wk (Wk.dG rfl rfl h.kz) (OD.nil K)
def isR:Code→Bool
 | .region ..=>true
 | _=>false
theorem sN_{c d:Code}(K:CD P C c x (B8 P C d Q))(h:isR c=false:=by exact rfl):CD P C (.seq c d) x Q:=CD.seq K
theorem nK{q:Prop}(h:q→p:=by intro k;(repeat (first|refine sN_ ?_|refine CD.skip ?_|refine CD.block ?_|refine CD.exit ?_|refine CD.ret ?_|fail));exact k):q→p:=h
theorem eJ{fn:Func}{ex:Exit}{d:D}(hp:post d [])(h0:Body P fn post ex ⟨n,e,S⟩→p:=by exact nK)(he:ex = .normal∨ex = .ret:=by first|exact .inr rfl|exact .inl rfl)(hr:fn.results = #[.tmp t]:=by exact rfl)(ht:Nat.blt t n=true:=by exact rfl)(hd:look t e=d:=by exact lk):p :=
 h0 ⟨he,d,[],nil_sublist _,SL hr (yY (Nat.le_of_ble_eq_true ht) hd),hp⟩
theorem M3{fn:Func}{ex:Exit}{t':Nat}{d:D}(hp:post (.di [d,d']) [])(h0:Body P fn post ex ⟨n,e,S⟩→p:=by exact nK)(he:ex = .normal∨ex = .ret:=by first|exact .inr rfl|exact .inl rfl)(hr:fn.results = #[.tmp t,.tmp t']:=by exact rfl)(ht:Nat.blt t n=true:=by exact rfl)(Hg:Nat.blt t' n=true:=by exact rfl)(hd:look t e=d:=by exact lk)(hd':look t' e=d':=by exact lk):p :=
 h0 ⟨he,_,[],nil_sublist _,JA hr (yY (Nat.le_of_ble_eq_true ht) hd) (yY (Nat.le_of_ble_eq_true Hg) hd'),hp⟩
theorem bU{id:Nat}{r:List Oper}{d:Code}(h:OD P C r.toArray r x (B8 P C d Q))(h0:CD P C (.seq (.region id r.toArray false) d) x Q→p:=by exact nK):p:=h0 (CD.seq (CD.region h))
theorem tu{id:Nat}{r:List Oper}(h:OD P C r.toArray r x Q)(h0:CD P C (.region id r.toArray false) x Q→p:=by exact nK):p:=h0 (CD.region h)
theorem eD{d e:Code}(ht:CD P C d x Q)(h0:CD P C (.cond c d e) x Q→p:=by exact nK)(hc:aE x c = .v (.bool b):=by exact ot)(hb:b=true:=by first|rfl|assumption):p:=h0 (CD.ahx hc hb ht)
theorem fJ{d e:Code}(ht:CD P C e x Q)(h0:CD P C (.cond c d e) x Q→p:=by exact nK)(hc:aE x c = .v (.bool b):=by exact ot)(hb:b=false:=by first|rfl|assumption):p:=h0 (CD.KV hc hb ht)

end Go.Proofs.YtdgichenhdikgaaGreatDoor.V
namespace Go.Proofs.YtdgichenhdikgaaGreatDoor.Tab
open List
open Go.RowKit Go.ChangeShapes
variable {α:Type}
theorem chunks{α:Type}{g:α→List Value}{c:Nat}:∀(E:List α) (cs:List Value),cs.length=E.length*c→(∀i (h:i<E.length),(cs.drop (i*c)).take c=g E[i])→cs=E.flatMap g
 | [],cs,hl,_=>by
  have:cs=[]:=length_eq_zero_iff.1 xR;simp[this]
 | r::E,cs,hl,h=>by
  have h0:cs.take c=g r:=by
   have h1:=h 0 bn;simp only[Nat.zero_mul,drop_zero] at h1;exact h1
  have I:=chunks (c:=c) E (cs.drop c) (by rw[length_drop,hl,length_cons,Nat.add_mul];omega) (fun i hi=>by
   have h1:=h (i+1) (by simpa using hi);rw[drop_drop,show c+i*c=(i+1)*c from by rw[Nat.add_mul];omega];exact h1)
  rw[flatMap_cons,←h0,←I,take_append_drop]
variable {H:Type} {enc:TypeId×Value→H} {P:Program} {w:World} {base:Nat} {sp:Nat→Bool} {held:Bool}
def Reads(enc:TypeId×Value→H)(P:Program)(w:World)(base:Nat)(sp:Nat→Bool)(held:Bool)(e:TypeId)(f:α→DataW H)(g:α→List Value):Prop :=
 ∀(fuel:Nat) (cs:List Value) (x:DataW H×List MemPlace),DataW.trod enc P w base sp held fuel e cs=some x→∀r,x.1=f r→cs=g r
theorem reads_string{e:TypeId}(he:P.underlying e=some .string):Reads enc P w base sp held e (fun b:List UInt8=>.lit (.string b)) (fun b=>[.string ⟨b.toArray⟩]):=by
 intro fuel cs x h r hr;obtain⟨s,rfl,rfl,_⟩:=DataW.trod_string he h;simp at hr;obtain⟨⟨s⟩⟩:=s;simp at hr;rw[←hr]
theorem reads_arr {f:α→DataW H} {g:α→List Value} {t e:TypeId} {n:Nat} (ht:P.underlying t=some (.array n e)) (I:P.cellsOf t=n*P.cellsOf e)
  (O:Reads enc P w base sp held e f g):Reads enc P w base sp held t (fun E:List α=>.agg (E.map f)) (fun E=>E.flatMap g):=by
 intro fuel cs x h E hr;obtain⟨xs,m,_,rfl,hl,hn,hi⟩:=DataW.trod_array ht h;simp only[DataW.agg.injEq] at hr;have U:E.length=n:=(by have:=congrArg length hr;simp at this;omega)
 refine chunks E cs (by rw[hl,I,U]) fun i Z=>?_;have h1:=hi i w4;rw[getElem?_eq_getElem w4] at h1;refine O m _ _ h1 _ ?_;have:=congrArg (fun l=>l[i]?) hr;simpa[getElem?_eq_getElem Z,getElem?_eq_getElem (show i<xs.length by omega)] using this
theorem var_cells {f:α→DataW Unit} {g:α→List Value} {W:World} {n:String} {I:Nat} {t:TypeId} {cs:Array Value} {fuel:Nat} {p:List MemPlace} {r:α}
  (hg:P.globalNamed n=some I) (O:W.var? P n=some cs) (hd:DataW.trod (fun _=>()) P W 0 (fun _=>true) false fuel t cs.toList=some (f r,p))
  (E:Reads (fun _=>()) P W 0 (fun _=>true) false t f g) (i:Nat) (v:Value) (hi:(g r)[i]?=some v):W.cell? ⟨I,i,none⟩=some v:=by
 have h:=E _ _ _ hd r rfl;rw[World.var?_cell hg O i,←Array.getElem?_toList,h,hi]
def mM(w:World)(g:Nat)(l:List Value):Prop:=∀i v,l[i]?=some v→w.cell? ⟨g,i,none⟩=some v

end Go.Proofs.YtdgichenhdikgaaGreatDoor.Tab
namespace Go.Proofs.YtdgichenhdikgaaGreatDoor.V
open List
open Go.RowKit
variable {G:List (Nat×List Value)} {α:Type} {t:TypeId}
def Ca(w:World)(g:Nat)(l:List Value):Prop:=∀i v,l[i]?=some v→ox w g i v
theorem Ca.of{w:World}{g:Nat}{l:List Value}(h:Tab.mM w g l)(hp:l.all rj=true):Ca w g l:=fun i v hi=>.of (h i v hi) (QM hp hi)
theorem VP.run {P:Program} {f:FuncId} {args:List D} {vs:List Value} {r:Value} {w:World} (h:VP P G f args (.v r))
  (hG:∀g∈G,g.2≠[]∧Ca w g.1 g.2) (hr:cx w (live (fun _=>False) []) args vs):Calls P f vs.toArray w fun e w'=>e = .returned r∧Below w.heap.size w w':=by
 have hp:Hf G (fun _=>False) w [] args vs:=by
  refine⟨fun _ h=>h.elim,fun g hg=>⟨⟨?_,by simp[au],fun h=>h⟩,(hG g hg).2⟩,⟨fun B E=>by simp at E,by simp[au]⟩,hr⟩;obtain⟨h1,h2⟩:=hG g hg;cases hl:g.2 with
  | nil=>exact absurd hl h1
  | cons v l=>exact(h2 0 v (by rw[hl];rfl)).lt
 refine(h _ w vs hp).mono fun e w' ⟨v,I,S',h1,⟨h2,h3⟩,h4,h5,h6⟩=>?_;subst h2;rw[h5.kV] at h1;exact⟨h1,h6.os,h6.tape,h6.output,h6.size,fun k hk=>(h6.block k hk (by simp[au])).1⟩
theorem cx.vs(w:World)(L:Nat→Prop)(vs:List Value):cx w L (vs.map .v) vs:=⟨by simp,fun i h1 h2=>by rw[getElem_map];exact .v _⟩
theorem ahA{a:Int}(h:(Lit.int .i64 a).wf=true):-9223372036854775808≤a∧a≤9223372036854775807:=bounds_i64 h

variable {H:Type} {enc:TypeId×Value→H} {P:Program} {w:World} {base:Nat} {sp:Nat→Bool} {held:Bool}
def pz(enc:TypeId×Value→H)(P:Program)(w:World)(base:Nat)(sp:Nat→Bool)(held:Bool)(t:TypeId)(g:α→List D)(ok:α→Prop):Prop :=
 ∀fuel cs x,DataW.trod enc P w base sp held fuel t cs=some x→∃a,cx w (fun _=>False) (g a) cs∧ok a
theorem va(ht:P.underlying t=some (.int .i64)):pz enc P w base sp held t (fun n:Int=>[.v (.int .i64 n)]) (fun n=>-9223372036854775808≤n∧n≤9223372036854775807):=fun fuel cs x h=>by
 obtain⟨n,rfl,_,hw⟩:=DataW.trod_int ht h;exact⟨n,cx.vs w _ [_],ahA hw⟩
theorem aep(ht:P.underlying t=some .bool):pz enc P w base sp held t (fun n:Bool=>[.v (.bool n)]) (fun _=>True):=fun fuel cs x h=>by
 obtain⟨n,rfl,_⟩:=DataW.trod_bool ht h;exact⟨n,cx.vs w _ [_],trivial⟩
theorem Py(ht:P.underlying t=some .string):pz enc P w base sp held t (fun n:ByteArray=>[.v (.string n)]) (fun s=>s.size≤maxLen):=fun fuel cs x h=>by
 obtain⟨n,rfl,_,hw⟩:=DataW.trod_string ht h;exact⟨n,cx.vs w _ [_],hw⟩
theorem pz.map{β:Type}{g:α→List D}{ok:α→Prop}{I:β→List D}{E:β→Prop}(h:pz enc P w base sp held t g ok)(f:α→β)(hg:∀a,I (f a)=g a)(aQ:∀a,ok a→E (f a)):pz enc P w base sp held t I E:=fun fuel cs x hx=>by
 obtain⟨a,h1,h2⟩:=h fuel cs x hx;exact⟨f a,by rw[hg];exact h1,aQ a h2⟩
theorem Z4 {f0 f1 f2:Field} {E I O:Type} {g0:E→List D} {g1:I→List D} {g2:O→List D} {k0:E→Prop} {k1:I→Prop} {k2:O→Prop} {n0 n1 n2:Nat}
  (ht:P.underlying t=some (.struct #[f0,f1,f2])) (hc:P.cellsOf t=n0+n1+n2) (Z:f0.offset=0) (o1:f1.offset=n0) (o2:f2.offset=n0+n1) (c0:P.cellsOf f0.type=n0) (c1:P.cellsOf f1.type=n1) (c2:P.cellsOf f2.type=n2)
  (r0:pz enc P w base sp held f0.type g0 k0) (r1:pz enc P w base sp held f1.type g1 k1) (r2:pz enc P w base sp held f2.type g2 k2) :
  pz enc P w base sp held t (fun a:E × I × O=>g0 a.1++(g1 a.2.1++g2 a.2.2)) (fun a=>k0 a.1∧k1 a.2.1∧k2 a.2.2):=fun fuel cs x h=>by
 obtain⟨xs,n,_,_,hl,fZ,hf⟩:=DataW.trod_struct ht h;have U:=hf 0 f0 rfl;have e1:=hf 1 f1 rfl;have e2:=hf 2 f2 rfl;rw[Z,c0,drop_zero] at U;rw[o1,c1] at e1;rw[o2,c2] at e2;have Nb:xs.length=3:=fZ;rw[getElem?_eq_getElem w4] at U e1 e2;obtain⟨a0,p0,q0⟩:=r0 _ _ _ U;obtain⟨a1,p1,q1⟩:=r1 _ _ _ e1;obtain⟨a2,p2,q2⟩:=r2 _ _ _ e2;refine⟨(a0,a1,a2),?_,q0,q1,q2⟩;have dh:cs=cs.take n0++((cs.drop n0).take n1++(cs.drop (n0+n1)).take n2):=by
  rw[←drop_drop,take_of_length_le (l:=drop n1 (drop n0 cs)) (by rw[length_drop,length_drop];omega),take_append_drop,take_append_drop]
 rw[dh];exact p0.append (p1.append p2)
theorem acA {e:TypeId} {sz b':Nat} {g:α→List D} {ok:α→Prop} (ht:P.underlying t=some (.slice e)) (hce:P.cellsOf e=sz) (iu:0<sz) (re:pz enc P w base sp held e g ok) (hg:∀a,(g a).length=sz) {v:Value} {d:DataW H} {p:List MemPlace}
  (hval:Value.okWide P w .any b' t v) (h:DataW.Trod enc P w base sp held t v d p):∃l:List α,cg w (fun _=>False) (.list sz (l.flatMap g) l.length) v∧(∀x∈l,ok x)∧l.length≤maxLen:=by
 have hv:Cell.okWide P w .any b' t v:=(by unfold Value.okWide at hval;rw[ht] at hval;exact hval)
 unfold Cell.okWide at hv;rw[ht] at hv;obtain⟨m,hm⟩:=h;have hv2:Cell.ok P w .any b' t v:=(by revert hv;cases v<;>exact id)
 unfold Cell.ok at hv2;rw[ht] at hv2;cases v with
 | slice ad len cap =>
  rcases Go.Deep.open_slice ht hm with ⟨h1,_⟩|⟨a,U,Z,mm,n,Dd,Pl,h1,hb,hl,c8,Nc,_,hx⟩
  ·have e1:Value.slice ad len cap = .slice none 0 0:=(by simpa[Value.cells] using h1)
   rw[e1];exact⟨[],.nil sz,(fun x hx=>by cases hx),Nat.zero_le _⟩
  have e1:Value.slice ad len cap = .slice (some a) U Z:=(by simpa[Value.cells] using h1)
  cases e1;have ajb:w.has P .any b' a e cap:=hv2.2.2;obtain⟨_,I,row,cells,rP,_⟩:=ajb;obtain⟨b,o,s⟩:=a;have E:s=none:=I;subst E;have aa:b<w.heap.size:=by
   rcases Nat.lt_or_ge b w.heap.size with h2|h2
   ·exact h2
   simp[World.shape?,Array.getElem?_eq_none h2] at rP
  have hle:len≤mm:=(by rw[Nc];split<;>omega)
  have each:∀i:Fin len,∃a:α,(∃cs',w.cells? base ((⟨b,o,none⟩:Addr).add (i.1*P.cellsOf e)) (P.cellsOf e)=some cs'∧cx w (fun _=>False) (g a) cs')∧ok a:=fun i=>by
   obtain⟨cs',h1,h2⟩:=hx i.1 w4;obtain⟨a,h3,h4⟩:=re _ _ _ h2;exact⟨a,⟨cs',h1,h3⟩,h4⟩
  let l:List α:=ofFn fun i:Fin len=>Classical.choose (each i)
  have mc:l.length=len:=(by simp[l])
  have XT:∀i (hi:i<l.length),(∃cs',w.cells? base ((⟨b,o,none⟩:Addr).add (i*P.cellsOf e)) (P.cellsOf e)=some cs'∧cx w (fun _=>False) (g l[i]) cs')∧ok l[i]:=fun i hi=>by
   have:=Classical.choose_spec (each ⟨i,by omega⟩);simpa[l] using this
  refine⟨l,?_,fun x hx=>?_,by omega⟩
  ·have key:∀k,k<(l.flatMap g).length→∃u,w.cell? ⟨b,o+k,none⟩=some u∧∀h:k<(l.flatMap g).length,cg w (fun _=>False) (l.flatMap g)[k] u:=fun k hk=>by
    rw[cn hg] at hk;have hi:k/sz<l.length:=Nat.div_lt_of_lt_mul (by rw[Nat.mul_comm];exact hk);have hj:k % sz<sz:=Nat.mod_lt _ iu;have lF:k/sz*sz+k % sz=k:=(by rw[Nat.mul_comm];exact Nat.div_add_mod k sz)
    obtain⟨⟨cs',h1,h2⟩,_⟩:=XT _ hi;obtain⟨_,h4,h5⟩:=World.cells?_some h1;have h6:=h5 (k % sz) w4;have l8:k % sz<cs'.length:=(by omega)
    rw[getElem?_eq_getElem l8,Go.Deep.add_add,hce,lF,Addr.add_mid] at h6;refine⟨_,h6,fun h=>?_⟩;have h7:=h2.2 (k % sz) (by rw[hg];exact hj) l8;have h8:=yZ hg hi (getElem?_eq_getElem (show k % sz<(g l[k/sz]).length by rw[hg];exact hj));rw[lF,getElem?_eq_getElem h] at h8;rw[Option.some.inj h8];exact h7
   have XU:len≤cap:=hl;have O:Value.slice (some ⟨b,o,none⟩) len cap=Value.slice (some ⟨b,o,none⟩) l.length cap:=(by rw[mc])
   rw[O];refine cg.list (L:=fun _=>False) sz (l.flatMap g) l.length b o cap (fun k=>(w.cell? ⟨b,o+k,none⟩).getD undef) (cn hg l) w4 c8 aa (fun h=>h.elim) (fun k hk=>?_) (fun k hk=>?_)
   ·obtain⟨u,h1,_⟩:=key k hk;rw[h1];rfl
   obtain⟨u,h1,h2⟩:=key k hk;simp only[h1,Option.getD_some];exact h2 hk
  obtain⟨i,hi,rfl⟩:=mem_iff_getElem.1 hx;exact(XT i hi).2
 | _=>exact hv2.elim
theorem VP.ajc {f:FuncId} {args:List D} {vs:List Value} {r:Value} (h:VP P G f args (.v r))
  (hG:∀g∈G,g.2≠[]∧Ca w g.1 g.2) (hr:cx w (fun _=>False) args vs):Calls P f vs.toArray w fun e w'=>e = .returned r∧Below w.heap.size w w' :=
 h.run hG (hr.mono fun b _ _=>⟨rfl,fun hl=>by rcases hl with hl|hl;exact hl;simp[au] at hl⟩)

end Go.Proofs.YtdgichenhdikgaaGreatDoor.V
namespace Go.Proofs.YtdgichenhdikgaaGreatDoor.V
open List
open Go.RowKit
variable {P:Program} {C:dy} {G:List (Nat×List Value)} {Q:Exit→St→Prop} {x:St} {ops:Array Oper} {l:List Oper} {o:Oper} {S1 T:List Nat} {fuel i:Nat} {ld:Array Bool}
variable {sz n k b o' cap h' m c:Nat} {B:ah} {cs':List D} {t e:TypeId} {y:Operand} {lo hi:Option Operand}
theorem we:∀(ds cs:List D) (off:Nat),off+ds.length≤cs.length→da cs off ds=cs.take off++ds++cs.drop (off+ds.length)
 | [],cs,off,h=>by simp[da]
 | d::ds,cs,off,h=>by
  simp only[length_cons] at h;have e:cs.set off d=(cs.take off++[d])++cs.drop (off+1):=(by rw[set_eq_take_append_cons_drop,if_pos w4];simp)
  have hl:(cs.take off++[d]).length=off+1:=(by simp;omega)
  rw[da,we ds _ (off+1) ij,e,take_left' hl,←drop_drop,drop_left' hl,drop_drop];simp only[append_assoc,cons_append,nil_append,length_cons];congr 4;omega
theorem o8{α:Type}{g:α→List D}(hg:∀a,(g a).length=sz)(ls:List α){i:Nat}(a:α)(hi:i<ls.length):da (ls.flatMap g) (i*sz) (g a)=(ls.set i a).flatMap g:=by
 have h1:(i+1)*sz≤ls.length*sz:=Nat.mul_le_mul_right _ hi;rw[Nat.succ_mul] at h1;rw[we _ _ _ (by rw[cn hg,hg];exact h1),hg,set_eq_take_append_cons_drop,if_pos hi,tW hg,←Nat.succ_mul,u4 hg];simp[flatMap_append]
theorem Wk.Wb{l:List (Nat×D)}{S:List ah}(hk:S[k]?=some B)(hl:cs'.length≤B.size)(hc:∀(i:Nat) (d:D),cs'[i]?=some d→B.cs[i]?=some d∨d=D.bS):Wk ⟨n,l,S⟩ ⟨n,l,S.set k {B with cs:=cs'}⟩:=fun C a w h=>by
 have dU:=(List.getElem?_eq_some_iff.1 hk).1;have U:=(List.getElem?_eq_some_iff.1 hk).2;have E:au (S.set k {B with cs:=cs'})=au S:=by
  unfold au;rw[map_set];apply ext_getElem bn;intro i q1 q2;rw[getElem_set];split
  ·rename_i e;subst e;simp[U]
  rfl
 have I:live C.X (S.set k {B with cs:=cs'})=live C.X S:=(by funext b;simp only[live,E])
 refine⟨h.defers,h.size,fun t ht=>?_,⟨fun B' Z=>?_,?_⟩,?_,h.ex,h.eL⟩
 ·simp only[I];exact h.env t ht
 ·simp only[I];obtain⟨j,hj,O⟩:=mem_iff_getElem.1 Z;rw[length_set] at hj;rw[getElem_set] at O;by_cases e:k=j
  ·rw[if_pos e] at O;subst O;obtain⟨r0,cur,r1,r2,r3,r4⟩:=h.own.at_ B (mem_of_getElem? hk);refine⟨r0,cur,r1,r2,hl,fun i hi=>?_⟩;simp only at hi hl;have l9:i<cur.size:=(by omega)
   rcases hc i _ (getElem?_eq_getElem hi) with hd|hd
   ·obtain⟨hd1,hd2⟩:=List.getElem?_eq_some_iff.1 hd;obtain⟨u,hu,hq⟩:=r4 i hd1;rw[hd2] at hq;exact⟨u,hu,hq⟩
   exact⟨cur[i],by simp[l9],by simp only[hd];exact .bS _⟩
  rw[if_neg e] at O;subst O;exact h.own.at_ _ (getElem_mem hj)
 ·simp only[E];exact h.own.apart
 simp only[E];exact h.fr
def eI(cap l sz o':Nat):Nat:=if cap=l then o' else o'+l*sz
theorem Zi {len l:Nat} (ho:o.op = .slice t y lo hi none) (hy:aE x y = .v (.slice (some ⟨b,o',none⟩) len cap)) (eK:mL x lo l 0) (er:mL x hi h' len)
  (E:∀w,(underlying t).run P w = .ok (.slice e) w) (hs:∀w,(sizeOf e).run P w = .ok sz w) (h1:l≤h') (h2:h'≤cap):bQ P G x o .none (.v (.slice (some ⟨b,eI cap l sz o',none⟩) (h'-l) (cap-l))):=fun C a w _ h =>
 ⟨_,.v _,fun w' _=>by
  have b1:=sj h eK;have b2:=sj h er;have b3:=fun w=>v7 (P:=P) (il:=true) (w:=w) b1 b2 h1 h2;unfold execOp eI;simp only[ho,h.flat hy,Instr.sliceAt,Instr.slice,E,Sem.run_bind,Result.andThen_ok,Option.map_none,b3,hs,Sem.run_pure];by_cases hc:cap=l
  ·rw[if_pos hc,if_pos hc]
  rw[if_neg hc,if_neg hc];simp only[Option.map_some,Addr.add_mid]⟩
theorem yV {l len:Nat} (eK:lo=none→l=0) (er:hi=none→h'=len)
  (E:∀w,(underlying t).run P w = .ok (.slice e) w) (hs:∀w,(sizeOf e).run P w = .ok sz w) (h1:l≤h') (h2:h'≤cap):Rs P G t lo hi l h' (.v (.slice (some ⟨b,o',none⟩) len cap)) (.v (.slice (some ⟨b,eI cap l sz o',none⟩) (h'-l) (cap-l))):=fun x o y ho hy hl I =>
 Zi ho hy (rf hl eK) (rf I er) E hs h1 h2
theorem OC {len l:Nat} {k1 k2 k3:IntKind} {lo hi E:Operand} (ho:o.op = .slice t y (some lo) (some hi) (some E)) (hy:aE x y = .v (.slice (some ⟨b,o',none⟩) len cap)) (eK:aE x lo = .v (.int k1 l)) (er:aE x hi = .v (.int k2 h')) (c8:aE x E = .v (.int k3 m))
  (I:∀w,(underlying t).run P w = .ok (.slice e) w) (hs:∀w,(sizeOf e).run P w = .ok sz w) (h1:l≤h') (h2:h'≤m) (h3:m≤cap):bQ P G x o .none .bS:=fun C a w _ h =>
 ⟨.slice (some ⟨b,if m=l then o' else o'+l*sz,none⟩) (h'-l) (m-l),.bS _,fun w' _=>by
  have b3:∀w,(Instr.sliceBounds true len cap (some (.int k1 l)) (some (.int k2 h')) (some (.int k3 m))).run P w = .ok (l,h',m) w:=fun w=>by
   unfold Instr.sliceBounds;simp[D6,h1,h2,h3]
  unfold execOp;simp only[ho,h.flat hy,h.flat eK,h.flat er,h.flat c8,Instr.sliceAt,Instr.slice,I,Sem.run_bind,Result.andThen_ok,Option.map_some,b3,hs,Sem.run_pure];by_cases hc:m=l
  ·rw[if_pos hc,if_pos hc]
  rw[if_neg hc,if_neg hc];simp only[Option.map_some,Addr.add_mid]⟩
theorem Zu {s:Operand} {t e tt oy:Nat} {new:List D} (ho:o.op = .call {callee:=.builtin .append,args:=#[s,y],argTypes:=#[t,t]}) (hd:o.dst=some tt)
  (ht:P.underlying t=some (.slice e)) (hi:(P.info? e).map (fun i=>i.size)=some sz)
  (hs:aE x s = .v (.slice (some ⟨b,0,none⟩) n cap)) (hk:x.S[k]?=some B) (hb:B.b=b) (hy:aE x y = .v (.slice (some ⟨b,oy,none⟩) m c))
  (O:(B.cs.drop oy).take (m*sz)=new) (hlen:new.length=m*sz) (iB:∀d∈new,one d=true) (Z:n+m≤cap) (hl:n*sz+m*sz≤B.cs.length) (dh:da B.cs (n*sz) new=cs') (hne:isMap B.e=false:=by rfl) :
  fN P G x o [b] (fun y=>y=⟨x.n,(tt,.v (.slice (some ⟨b,0,none⟩) (n+m) cap))::x.env,x.S.set k {B with cs:=cs'}⟩):=fun C a w K Q hG h hK=>by
 subst dh hb;obtain⟨i,kj,rfl⟩:∃i,P.info? e=some i∧i.size=sz:=by
  cases h:P.info? e with
  | none=>simp[h] at hi
  | some i=>simp[h] at hi;exact⟨i,rfl,hi⟩
 obtain⟨h0,cur,q1,q2,q3,q4⟩:=h.fp hk;rw[kp hne] at q1;have ko:∀j,j<m*i.size→∃hj:oy+j<B.cs.length,∃hn:j<new.length,new[j]=B.cs[oy+j]:=fun j hj=>by
  have h1:j<new.length:=(by omega)
  have h2:oy+j<B.cs.length:=by
   have:=congrArg length O;rw[length_take,length_drop,hlen] at this;omega
  refine⟨h2,h1,?_⟩;have e2:new[j]?=some B.cs[oy+j]:=(by rw[←O,getElem?_take,if_pos hj,getElem?_drop,getElem?_eq_getElem h2])
  rw[getElem?_eq_getElem h1] at e2;exact Option.some.inj e2
 let vs:List Value:=(range (m*i.size)).map fun j=>cur.getD (oy+j) undef
 have I:vs.length=m*i.size:=(by simp[vs])
 have hv:∀j (hj:j<m*i.size),∃u,cur[oy+j]?=some u∧vs[j]?=some u∧cg w (live C.X x.S) (new[j]'w4) u:=fun j hj=>by
  obtain⟨h1,h2,h3⟩:=ko j hj;obtain⟨u,E,hq⟩:=q4 (oy+j) h1;refine⟨u,E,?_,h3 ▸ hq⟩;simp[vs,hj,E]
 have hr:cx w (live C.X x.S) new vs:=⟨by rw[I,hlen],fun j h1 h2=>by
  obtain⟨u,_,E,hq⟩:=hv j w4;rw[getElem?_eq_getElem h2] at E;rw[Option.some.inj E];exact hq⟩
 obtain⟨s1,s2,s3⟩:=h.store (hne:=hne) hk hr (o':=n*i.size) (by rw[hlen];exact hl);have U:=run_append_room_cells (P:=P) w t o.type e i ht kj B.b 0 n cap ⟨B.b,oy,none⟩ m c vs I (fun j u E=>by
   rw[Addr.add_mid];have hj:j<m*i.size:=(by rw[←I];exact(List.getElem?_eq_some_iff.1 E).1)
   obtain⟨u',x8,x9,_⟩:=hv j hj;rw[x9] at E;rw[←E];exact ow q1 x8) (fun u E=>by
   obtain⟨j,hj,rfl⟩:=mem_iff_getElem.1 E;have jr:j<new.length:=(by omega)
   exact(hr.2 j jr hj).A8 (iB _ (getElem_mem jr))) Z (fun j hj=>by
   have:(0+n*i.size+j)<cur.size:=(by rw[I] at hj;omega)
   rw[ow q1 (u:=cur[0+n*i.size+j]) (by simp[this])];rfl) (fun j hj=>by unfold World.frozen?;simp[q1])
 rw[Nat.zero_add] at U;have KW:=AU (o:=o) (a:=a) ho (h.flat hs) (h.flat hy) U;unfold Oper.wp;rw[KW,Oper.upon_value,hd];exact hK _ _ _ rfl (s1.put (.v _)) s2 s3
theorem bz.QU {s:Operand} {t e tt oy:Nat} {new:List D} (U:ops[i]?=some o) (hw:bY ops x o true) (ho:o.op = .call {callee:=.builtin .append,args:=#[s,y],argTypes:=#[t,t]}) (hd:o.dst=some tt)
  (ht:P.underlying t=some (.slice e)) (hi:(P.info? e).map (fun i=>i.size)=some sz)
  (hs:aE x s = .v (.slice (some ⟨b,0,none⟩) n cap)) (hk:x.S[k]?=some B) (hb:B.b=b) (hy:aE x y = .v (.slice (some ⟨b,oy,none⟩) m c))
  (O:(B.cs.drop oy).take (m*sz)=new) (hlen:new.length=m*sz) (iB:∀d∈new,one d=true) (E:n+m≤cap) (hl:n*sz+m*sz≤B.cs.length) (dh:da B.cs (n*sz) new=cs') (hT:∀b∈T,b∈au (x.S.eraseIdx k))
  (K:AD P C ops S1 T fuel (ld.setIfInBounds i true) ⟨x.n,(tt,.v (.slice (some ⟨b,0,none⟩) (n+m) cap))::x.env,x.S.set k {B with cs:=cs'}⟩ Q) (hne:isMap B.e=false:=by rfl):bz P C ops S1 T fuel ld x Q i :=
 bz.fV U hw (Zu (hne:=hne) ho hd ht hi hs hk hb hy O hlen iB E hl dh) (fun C a w hs Z I=>hb ▸ Gi hs hk hT Z I) (fun Z I=>by
  have:Z=b:=(by simpa using I)
  subst this;rw[←hb];exact Bl hk) fun y hy=>hy ▸ K
theorem aaX {s:Operand} {t e:Nat} {z:Value} (ho:o.op = .call {callee:=.builtin .clear,args:=#[s],argTypes:=#[t]}) (hd:o.dst=none)
  (ht:P.underlying t=some (.slice e)) (hz:∀w,(zeroValue e).run P w = .ok z w) (eO:z.cells.size=sz) (me:z.cells.all (fun v=>v.oneCell')=true)
  (hs:aE x s = .v (.slice (some ⟨b,o',none⟩) n c)) (hk:x.S[k]?=some B) (hb:B.b=b) (lp:0<n→B.cs.length≤o'∧o'+n*sz≤B.size) (hne:isMap B.e=false:=by rfl) :
  fN P G x o [b] (fun y=>y=x):=fun C a w K Q hG h hK=>by
 subst hb;have lq:∀{w':World},(Builtin.clear_ #[t] o.type #[a.eval s]).run P w = .ok (.tuple #[]) w'→(execOp a.eval o).run P w = .ok (.value (.tuple #[])) w':=fun hr=>by
  unfold execOp;simp[ho,resolve,invoke,builtin,hr]
 rcases Nat.eq_zero_or_pos n with rfl|hn
 ·have O:(Builtin.clear_ #[t] o.type #[a.eval s]).run P w = .ok (.tuple #[]) w:=by
   rw[h.flat hs];simp[Builtin.clear_,run_underlying ht]
  unfold Oper.wp;rw[lq O,Oper.upon_value,hd];exact hK _ _ _ rfl h ⟨Nat.le_refl _,fun _ _ _=>rfl⟩ (Fr.refl _ _)
 obtain⟨aZ,bX⟩:=lp hn;let vs:=(Builtin.zeroCells z.cells n).toList
 have rR:vs.length=n*sz:=(by simp[vs,size_zeroCells,eO])
 have hv1:∀v∈vs,v.oneCell'=true:=fun v hv=>by
  simp only[vs,Builtin.zeroCells,Array.toList_map,mem_map] at hv;obtain⟨j,hj,rfl⟩:=hv;have jr:j<n*z.cells.size:=(by simpa using hj)
  have h0:0<z.cells.size:=by
   rcases Nat.eq_zero_or_pos z.cells.size with h0|h0
   ·rw[h0] at jr;simp at jr
   exact h0
  have aa:=Nat.mod_lt j h0;have:=Array.all_eq_true.1 me _ aa;rw[getElem!_pos z.cells _ aa];exact this
 obtain⟨h0,cur,q1,q2,q3,q4⟩:=h.fp hk;rw[kp hne] at q1;have fB:=run_storeCells_cells (P:=P) B.b o' vs 0 w (fun j hj=>by
   have:(o'+0+j)<cur.size:=(by omega)
   rw[ow q1 (u:=cur[o'+0+j]) (by simp[this])];rfl) (fun j hj=>by unfold World.frozen?;simp[q1]) hv1
 have O:(Builtin.clear_ #[t] o.type #[a.eval s]).run P w = .ok (.tuple #[]) (w.setCells B.b o' vs):=by
  rw[h.flat hs];obtain⟨m,rfl⟩:∃m,n=m+1:=⟨n-1,by omega⟩
  simp only[Nat.add_zero] at fB;simp[Builtin.clear_,run_underlying ht,hz,vs,fB]
 have dU:=(List.getElem?_eq_some_iff.1 hk).1;have vQ:=(List.getElem?_eq_some_iff.1 hk).2
 -- aoe,stored,and U again
 let E:=B.cs++replicate (B.size-B.cs.length) D.bS
 have hw:=Wk.Wb (n:=x.n) (l:=x.env) (cs':=E) hk (by simp[E];omega) (fun i d I=>by
  rcases Nat.lt_or_ge i B.cs.length with hi|hi
  ·left;rw[←I];simp only[E];rw[getElem?_append_left hi]
  right;simp only[E] at I;rw[getElem?_append_right hi] at I;exact eq_of_mem_replicate (mem_of_getElem? I)) C a w h
 have fb:(⟨x.n,x.env,x.S.set k {B with cs:=E}⟩:St).S[k]?=some {B with cs:=E}:=(by simp[dU])
 have hjr:cx w (live C.X (⟨x.n,x.env,x.S.set k {B with cs:=E}⟩:St).S) (replicate (n*sz) D.bS) vs:=⟨by simp[rR],fun j h1 h2=>by rw[getElem_replicate];exact .bS _⟩
 obtain⟨s1,s2,s3⟩:=hw.store (hne:=hne) fb hjr (o':=o') (by simp[E];omega);have sM:da E o' (replicate (n*sz) D.bS)=E.take o'++replicate (n*sz) D.bS++E.drop (o'+n*sz):=by
  rw[we _ _ _ (by simp[E];omega),length_replicate]
 have j9:(x.S.set k {B with cs:=da E o' (replicate (n*sz) D.bS)})[k]?=some {B with cs:=da E o' (replicate (n*sz) D.bS)}:=(by simp[dU])
 have h1:bG C ⟨x.n,x.env,x.S.set k {B with cs:=da E o' (replicate (n*sz) D.bS)}⟩ a (w.setCells B.b o' vs):=(by simpa[set_set] using s1)
 have h2:=Wk.Wb (n:=x.n) (l:=x.env) (cs':=B.cs) j9 (by simpa using q3) (fun i d I=>by
  left;have hi:=(List.getElem?_eq_some_iff.1 I).1;simp only[sM];rw[append_assoc,getElem?_append_left (by simp[E];omega),getElem?_take,if_pos w4];simp only[E];rw[getElem?_append_left hi,I]) C a _ h1
 have hx:(⟨x.n,x.env,(x.S.set k {B with cs:=da E o' (replicate (n*sz) D.bS)}).set k {B with cs:=B.cs}⟩:St)=x:=by
  rw[set_set];have:x.S.set k {B with cs:=B.cs}=x.S:=by
   apply ext_getElem bn;intro i q1 q2;rw[getElem_set];split
   ·rename_i e;subst e;exact vQ.symm
   rfl
  rw[this]
 have hbk:∀cs1:List D,au (x.S.set k {B with cs:=cs1})=au x.S:=fun cs1=>by
  unfold au;rw[map_set];apply ext_getElem bn;intro i q1 q2;rw[getElem_set];split
  ·rename_i e;subst e;simp[vQ]
  rfl
 have h3:bG C x a (w.setCells B.b o' vs):=by
  have Z:=h2;simp only at Z;rw[hx] at Z;exact Z
 simp only[set_set,hbk] at s3;unfold Oper.wp;rw[lq O,Oper.upon_value,hd];exact hK _ _ _ rfl h3 s2 s3
theorem OD.clear {s:Operand} {t e sz n b k o' c:Nat} {z:Value} {B:ah} (hw:bY ops x o true) (ho:o.op = .call {callee:=.builtin .clear,args:=#[s],argTypes:=#[t]}) (hd:o.dst=none)
  (ht:P.underlying t=some (.slice e)) (hz:∀w,(zeroValue e).run P w = .ok z w) (eO:z.cells.size=sz) (E:z.cells.all (fun v=>v.oneCell')=true)
  (hs:aE x s = .v (.slice (some ⟨b,o',none⟩) n c)) (hk:x.S[k]?=some B) (hb:B.b=b) (I:0<n→B.cs.length≤o'∧o'+n*sz≤B.size) (K:OD P C ops l x Q) (hne:isMap B.e=false:=by rfl):OD P C ops (o::l) x Q :=
 OD.fV hw (aaX (hne:=hne) ho hd ht hz eO E hs hk hb I) fun y hy=>hy ▸ K
theorem jE{l r:List ah}(h:∀f:ah→Nat,(l.map f).sum=(r.map f).sum):l.Perm r:=by
 classical
 rw[perm_iff_count];intro a;have key:∀l:List ah,(l.map fun b=>if b=a then 1 else 0).sum=l.count a:=by
  intro l;induction l with
  | nil=>rfl
  | cons b l ih =>
   rw[map_cons,sum_cons,ih,count_cons];by_cases e:b=a<;>simp[e,Nat.add_comm]
 have:=h (fun b=>if b=a then 1 else 0);rw[key,key] at this;exact this
theorem acB{l r:List ah}(h:l.Perm r)(f:ah→Nat):(l.map f).sum=(r.map f).sum:=by
 induction h with
 | nil=>rfl
 | cons x _ ih=>simp[ih]
 | swap x y l=>simp only[map_cons,sum_cons];omega
 | trans _ _ h1 h2=>exact h1.trans h2
theorem NP.norm{Φ:St→Prop}:NP (fun e y=>e=Exit.normal∧Φ y):=fun c y t hq=>by cases hq.1

end Go.Proofs.YtdgichenhdikgaaGreatDoor.V
namespace Go.Proofs.YtdgichenhdikgaaGreatDoor.V
open List
open Go.RowKit
variable {P:Program} {C:dy} {G:List (Nat×List Value)} {Q:Exit→St→Prop} {x:St} {ops:Array Oper} {l:List Oper} {o:Oper}
variable {e sz cap b n u tt k:Nat} {α:Type} {ad:Option Addr} {S Sq R A S1 S2 S3:List ah} {t:TypeId} {y:Operand} {ls:List UInt8}
theorem iy{g:α→List D}:bp e sz (([]:List α).flatMap g) ([]:List α).length none 0 []:=.inl ⟨rfl,rfl,rfl,rfl,rfl⟩
theorem bp.cast{g:α→List D}{ls E:List α}(h:bp e sz (ls.flatMap g) ls.length ad cap S)(he:ls=E):bp e sz (E.flatMap g) E.length ad cap S:=he ▸ h
theorem bM{g:α→List D}{ls:List α}(h1:ls.length≤cap)(h2:cap≤maxLen):bp e sz (ls.flatMap g) ls.length (some ⟨b,0,none⟩) cap [⟨b,e,cap*sz,ls.flatMap g⟩]:=.inr ⟨b,rfl,h1,h2,rfl⟩
def gh(g:α→List D)(e sz:Nat)(ls:List α)(r:D)(S:List ah):Prop:=∃ad cap,r = .v (.slice ad ls.length cap)∧bp e sz (ls.flatMap g) ls.length ad cap S
theorem gh.view{g:α→List D}{ls:List α}{r:D}(hg:∀a,(g a).length=sz)(h:gh g e sz ls r S)(hne:isMap e=false:=by rfl):View S r (.list sz (ls.flatMap g) ls.length):=by
 obtain⟨ad,cap,rfl,ho⟩:=h;exact lK (hne:=hne) ho (cn hg ls) (fun B E=>E)
theorem VC.wV{g:α→List D}{ls:List α}{f:FuncId}{args:List D}(hg:∀a,(g a).length=sz)(h:VC P G f args [] (gh g e sz ls))(hne:isMap e=false:=by rfl):VP P G f args (.list sz (ls.flatMap g) ls.length) :=
 h.cover fun r S hr=>gh.view (hne:=hne) hg hr
theorem Wk.gP{t m:Nat}{l:List (Nat×D)}{cs:List D}(ht:look t l = .v (.slice ad m cap))(ho:bp e sz cs m ad cap Sq)(hl:cs.length=m*sz)(hp:S.Perm (Sq++R))(hne:isMap e=false:=by rfl):Wk ⟨n,l,S⟩ ⟨n,(t,.list sz cs m)::l,R⟩:=by
 refine(Wk.perm hp).trans ?_;rcases ho with ⟨rfl,rfl,rfl,rfl,rfl⟩|⟨b,rfl,h1,h2,rfl⟩
 ·exact Wk.tU ht
 exact Wk.vv (hne:=hne) (k:=0) rfl ht rfl hl h1 h2
theorem OD.gP{t m cap e sz:Nat}{Sq R:List ah}{cs:List D}{ad:Option Addr}(ht:V.look t x.env = .v (.slice ad m cap))(ho:bp e sz cs m ad cap Sq)(hl:cs.length=m*sz)(hp:x.S.Perm (Sq++R))(K:OD P C ops l ⟨x.n,(t,.list sz cs m)::x.env,R⟩ Q)(hne:isMap e=false:=by rfl):OD P C ops l x Q :=
 OD.wk (Wk.gP (hne:=hne) (n:=x.n) (S:=x.S) ht ho hl hp) K
theorem CD.gP{c:Code}{t m cap e sz:Nat}{Sq R:List ah}{cs:List D}{ad:Option Addr}(ht:V.look t x.env = .v (.slice ad m cap))(ho:bp e sz cs m ad cap Sq)(hl:cs.length=m*sz)(hp:x.S.Perm (Sq++R))(K:CD P C c ⟨x.n,(t,.list sz cs m)::x.env,R⟩ Q)(hne:isMap e=false:=by rfl):CD P C c x Q :=
 CD.wk (Wk.gP (hne:=hne) (n:=x.n) (S:=x.S) ht ho hl hp) K
theorem gh.mk{g:α→List D}{ls:List α}(h:bp e sz (ls.flatMap g) ls.length ad cap S):gh g e sz ls (.v (.slice ad ls.length cap)) S:=⟨ad,cap,rfl,h⟩
theorem gh.cast{g:α→List D}{ls E:List α}{r:D}(h:gh g e sz ls r S)(he:ls=E):gh g e sz E r S:=he ▸ h
theorem eG{ls E:List α}(h:ls=E):D.v (.slice ad ls.length cap)=D.v (.slice ad E.length cap):=by rw[h]
theorem cZ:(A++S1).Perm (S1++A):=perm_append_comm
theorem oZ:(A++(S1++S2)).Perm (S1++(A++S2)):=perm_append_comm_assoc _ _ _
theorem yM:(A++(S1++S2)).Perm (S2++(A++S1)):=(List.perm_append_comm.append_left A).trans oZ
theorem I2:(A++(S1++(S2++S3))).Perm (S1++(A++(S2++S3))):=oZ
theorem tJ:(A++(S1++(S2++S3))).Perm (S2++(A++(S1++S3))):=(oZ.append_left A).trans oZ
theorem QH:((S1++A)++[]).Perm (A++S1):=by rw[append_nil];exact perm_append_comm
theorem acC:((S2++A)++S1).Perm (A++(S1++S2)):=by rw[append_assoc];exact List.perm_append_comm.trans (by rw[append_assoc])
theorem dV:(S1++A).Perm (A++S1):=cZ.symm
theorem jX:(S1++(A++S2)).Perm (A++(S1++S2)):=oZ.symm
theorem yN:(S2++(A++S1)).Perm (A++(S1++S2)):=yM.symm
theorem QV:(S1++(A++(S2++S3))).Perm (A++(S1++(S2++S3))):=I2.symm
theorem wu:(S2++(A++(S1++S3))).Perm (A++(S1++(S2++S3))):=tJ.symm
theorem Ov {w:World} (base:Nat) (t u ty e:TypeId) (i:TypeInfo) (ht:P.underlying t=some (.slice e)) (hu:P.underlying u=some .string) (hi:P.info? e=some i) (hz:i.zero=some (.int .u8 0))
  (E:i.size=1) (U:i.bytes=1) (v:Value) (n:Nat) (xs:List Value) (I:w.ownsRow base e 1 v n xs) (s:ByteArray)
  (gl:n+s.size≤maxLen) (O:n+s.size≤140737488355328) (Z:base≤w.heap.size) :
  ∃v' w',(Builtin.append_ #[t,u] ty #[v,.string s]).run P w = .ok v' w'∧w'.ownsRow base e 1 v' (n+s.size) (xs++Go.Lib.strCells s)∧w.grownBy w' v.ownBlock ∧
   (v' = .slice none 0 0↔v = .slice none 0 0∧s.size=0)∧(v'.ownBlock=v.ownBlock∨v'.ownBlock=some w.heap.size):=by
 obtain⟨v',w',hr,h2,h3,h4⟩:=Go.Lib.run_append_own_string (P:=P) w base t u ty e i ht hu hi hz E U v n xs I s gl O Z;refine⟨v',w',hr,h2,h3,h4,?_⟩;have aox:n+s.size≤9223372036854775807:=(by simp only[maxLen] at gl;omega)
 have fZ:xs.length=n:=(by simpa using I.1)
 rcases I.2 with ⟨rfl,rfl⟩|⟨g,cap,cur,rfl,hbg,hg,hnc,hcm,dh,U6⟩
 ·by_cases hm:s.size=0
  ·left;rw[h4.2 ⟨rfl,hm⟩]
  right;have:=run_append_nil_string (P:=P) w t u ty e i (.int .u8 0) ht hu hi hz s w4 w4 (by rw[U];omega);rw[this] at hr;cases hr;rfl
 have apO:cur.size=cap:=(by simpa using dh)
 by_cases ahB:n+s.size≤cap
 ·left;have:=Go.Lib.run_append_room_string (P:=P) w t u ty e i ht hu hi E g n cap cur hg s ahB w4;rw[this] at hr;cases hr;rfl
 right;have holds:∀j u,xs[j]?=some u→w.cell? ((⟨g,0,none⟩:Addr).add j)=some u:=I.cells (g:=g) rfl;have:=Go.Lib.run_append_grow_string (P:=P) w t u ty e i (.int .u8 0) ht hu hi hz ⟨g,0,none⟩ n cap xs (by rw[E];simpa using fZ) holds s w4 w4 (by rw[U];exact growslice_fits w4 w4);rw[this] at hr;cases hr;rfl
def o9(b:List UInt8):List D:=b.map vk
theorem HV {s:Operand} {u:TypeId} {v I:Value} {w w':World} {a:Act} (ho:o.op = .call {callee:=.builtin .append,args:=#[s,y],argTypes:=#[t,u]}) (hs:a.eval s=v) {z:Value} (hy:a.eval y=z)
  (E:(Builtin.append_ #[t,u] o.type #[v,z]).run P w = .ok I w'):(execOp a.eval o).run P w = .ok (.value I) w':=by
 unfold execOp;simp[ho,resolve,invoke,builtin,hs,hy,E]
theorem Zj {s:Operand} {t:Nat} {cs:List D} {str:ByteArray} (ho:o.op = .call {callee:=.builtin .append,args:=#[s,y],argTypes:=#[t,u]}) (hd:o.dst=some tt)
  (ht:P.underlying t=some (.slice e)) (hu:P.underlying u=some .string) (hi:(P.info? e).map (fun i=>(i.zero,i.size,i.bytes))=some (some (.int .u8 0),1,1))
  (hs:aE x s = .v (.slice ad n cap)) (tr:bp e 1 cs n ad cap Sq) (hp:x.S=Sq++R) (hl:cs.length=n) (hy:aE x y = .v (.string str)) (gl:n+str.size≤maxLen) (O:n+str.size≤140737488355328) (hne:isMap e=false:=by rfl) :
  fN P G x o (au Sq) (fun y=>∃oh U S',bp e 1 (cs++o9 str.data.toList) (n+str.size) oh U S'∧y=⟨x.n,(tt,.v (.slice oh (n+str.size) U))::x.env,S'++R⟩):=fun C a w K Q hG h hK=>by
 obtain⟨i,kj,l9,py,qf⟩:=yX hi;have ajd:(Go.Lib.strCells str).length=str.size:=Go.Lib.strCells_length str;have Nd:(o9 str.data.toList).length=str.size:=(by simp[o9])
 have Z:∀j (hj:j<str.size),∃u,(Go.Lib.strCells str)[j]?=some u∧∀h:j<(o9 str.data.toList).length,cg w (live C.X x.S) (o9 str.data.toList)[j] u:=fun j hj=>by
  have h1:j<str.data.toList.length:=(by rw[Array.length_toList];exact hj)
  refine⟨.int .u8 (str.data.toList[j]).toNat,by rw[Go.Lib.strCells,getElem?_map,getElem?_eq_getElem h1];rfl,fun h=>?_⟩;simp only[o9,getElem_map];exact .v _
 rcases tr with ⟨rfl,rfl,rfl,rfl,rfl⟩|⟨b,rfl,h1,h2,rfl⟩
 ·rw[nil_append] at hp;by_cases hm:str.size=0
  ·have hd0:o9 str.data.toList=[]:=eq_nil_of_length_eq_zero (by rw[Nd,hm]);have hn:Go.Lib.strCells str=[]:=eq_nil_of_length_eq_zero (by rw[ajd];exact hm);have hf:=Go.Lib.run_firstCells_string (P:=P) w 1 str;rw[hm] at hf;have I:(Builtin.append_ #[t,u] o.type #[.slice none 0 0,.string str]).run P w = .ok (.slice none 0 0) w:=by
    simp[Builtin.append_,run_underlying ht,run_underlying hu,sizeOf,typeInfo,kj,py,Builtin.lenOf,hm,hf]
   unfold Oper.wp;rw[HV (P:=P) ho (h.flat hs) (h.flat hy) I,Oper.upon_value,hd];refine hK ⟨x.n,(tt,.v (.slice none (0+str.size) 0))::x.env,[]++R⟩ _ _ ⟨none,0,[],.inl ⟨by omega,by rw[hd0];rfl,rfl,rfl,rfl⟩,rfl⟩ ?_ (l7.refl _ _) ?_
   ·have e1:(.slice none 0 0:Value) = .slice none (0+str.size) 0:=(by rw[hm])
    rw[e1,nil_append,←hp];exact h.put (.v _)
   rw[nil_append,hp];exact Fr.refl _ _
  have kI:w.ownsRow 0 e 1 (.slice none 0 0) 0 []:=⟨by simp,.inl ⟨rfl,rfl⟩⟩
  obtain⟨v',w',I,q2,q3,_,q5⟩:=Ov (P:=P) 0 t u o.type e i ht hu kj l9 py qf _ 0 _ kI str gl O (Nat.zero_le _);simp only[Nat.zero_add,nil_append] at q2;obtain⟨g,E,rfl,_,aa⟩:=q2.form w4;have q6:(none:Option Nat)=some g∨g=w.heap.size:=by
   rcases q5 with q5|q5
   ·simp[Value.ownBlock] at q5
   right;simpa[Value.ownBlock] using q5
  obtain⟨_,q2⟩:=q2;rcases q2 with ⟨q2,_⟩|⟨g',U,lX,e1,_,e2,e3,e4,e5,e6⟩
  ·cases q2
  have CR:g=g'∧E=U:=(by simpa using e1)
  obtain⟨rfl,rfl⟩:=CR;rw[Nat.mul_one] at e5 e6;obtain⟨s1,s2,s3⟩:=h.grown (hne:=hne) (t:=tt) (m:=str.size) (e:=e) (sz:=1) (S:=x.S) (cs:=o9 str.data.toList) (row:=none) (g:=g) (cap:=E) (Sublist.refl _) (fun k' qU=>by cases qU) q3 q6 aa e2 w4 w4 (fun j hj=>by
    obtain⟨u,x8,x9⟩:=Z j w4;refine⟨u,?_,x9 hj⟩;rw[←x8,←e6,getElem?_take_of_lt w4,Array.getElem?_toList])
  unfold Oper.wp;rw[HV (P:=P) ho (h.flat hs) (h.flat hy) I,Oper.upon_value,hd];refine hK ⟨x.n,(tt,.v (.slice (some ⟨g,0,none⟩) (0+str.size) E))::x.env,[⟨g,e,E*1,[]++o9 str.data.toList⟩]++R⟩ _ _ ⟨_,E,_,.inr ⟨g,rfl,by omega,e4,rfl⟩,rfl⟩ ?_ s2 ?_
  ·rw[Nat.zero_add,nil_append,←hp];exact s1
  rw[nil_append,←hp];exact s3
 have hk:x.S[0]?=some (⟨b,e,cap*1,cs⟩:ah):=(by rw[hp];rfl)
 obtain⟨r0,cur,r1,r2,r3,r4⟩:=h.fp hk;simp only at r0 r1 r2 r3 r4;rw[kp hne] at r1;rw[Nat.mul_one] at r2 r3;have kI:w.ownsRow 0 e 1 (.slice (some ⟨b,0,none⟩) n cap) n (cur.toList.take n) :=
  ⟨by simp;omega,.inr ⟨b,cap,cur,rfl,Nat.zero_le _,r1,h1,h2,by omega,by rw[Nat.mul_one]⟩⟩
 obtain⟨v',w',I,q2,q3,q4,q5⟩:=Ov (P:=P) 0 t u o.type e i ht hu kj l9 py qf _ n _ kI str gl O (Nat.zero_le _);obtain⟨_,q2⟩:=q2;rcases q2 with ⟨q2,_⟩|⟨g,E,lX,rfl,_,e2,e3,e4,e5,e6⟩
 ·have:=(q4.1 q2).1;cases this
 have q6:(some b:Option Nat)=some g∨g=w.heap.size:=by
  rcases q5 with q5|q5
  ·exact .inl q5.symm
  right;simpa[Value.ownBlock] using q5
 rw[Nat.mul_one] at e5 e6;have aa:g<w'.heap.size:=by
  rcases Nat.lt_or_ge g w'.heap.size with hh|hh
  ·exact hh
  rw[Array.getElem?_eq_none hh] at e2;cases e2
 have hR:R=x.S.eraseIdx 0:=(by rw[hp];rfl)
 obtain⟨s1,s2,s3⟩:=h.grown (hne:=hne) (t:=tt) (m:=n+str.size) (e:=e) (sz:=1) (S:=x.S.eraseIdx 0) (cs:=cs++o9 str.data.toList) (row:=some b) (g:=g) (cap:=E) (eraseIdx_sublist _ _) (fun k' qU=>by
   have:b=k':=(by simpa using qU)
   subst this;refine⟨mem_map.2 ⟨_,mem_of_getElem? hk,rfl⟩,fun hm=>?_⟩;have Hh:(au x.S).Perm (b::au (x.S.eraseIdx 0)):=(by have:=(uU hk).map ah.b;simpa[au] using this)
   exact(nodup_cons.1 (Hh.nodup_iff.1 h.own.apart)).1 hm) q3 q6 aa e2 w4 vH (fun j hj=>by
   rw[length_append] at hj;have B7:lX[j]?=(cur.toList.take n++Go.Lib.strCells str)[j]?:=(by rw[←e6,getElem?_take_of_lt w4,Array.getElem?_toList])
   rw[B7];have uG:(cur.toList.take n).length=n:=(by simp;omega)
   by_cases ko:j<n
   ·obtain⟨u,hu,hq⟩:=r4 j w4;refine⟨u,?_,?_⟩
    ·rw[getElem?_append_left w4,getElem?_take_of_lt ko,Array.getElem?_toList,hu]
    rw[getElem_append_left w4];exact hq
   obtain⟨u,x8,x9⟩:=Z (j-n) w4;refine⟨u,?_,?_⟩
   ·rw[getElem?_append_right w4,uG,x8]
   rw[getElem_append_right w4];have:=x9 w4;simp only[hl];exact this)
 unfold Oper.wp;rw[HV (P:=P) ho (h.flat hs) (h.flat hy) I,Oper.upon_value,hd];refine hK ⟨x.n,(tt,.v (.slice (some ⟨g,0,none⟩) (n+str.size) E))::x.env,[⟨g,e,E*1,cs++o9 str.data.toList⟩]++R⟩ _ _ ⟨_,E,_,.inr ⟨g,rfl,e3,e4,rfl⟩,rfl⟩ ?_ (by simpa[au] using s2) ?_
 ·rw[hR];exact s1
 rw[hR];exact s3
theorem OD.aaY {s:Operand} {t:Nat} {cs:List D} {str:ByteArray} (hw:bY ops x o true) (ho:o.op = .call {callee:=.builtin .append,args:=#[s,y],argTypes:=#[t,u]}) (hd:o.dst=some tt)
  (ht:P.underlying t=some (.slice e)) (hu:P.underlying u=some .string) (hi:(P.info? e).map (fun i=>(i.zero,i.size,i.bytes))=some (some (.int .u8 0),1,1))
  (hs:aE x s = .v (.slice ad n cap)) (U:bp e 1 cs n ad cap Sq) (hp:x.S.Perm (Sq++R)) (hl:cs.length=n) (hy:aE x y = .v (.string str)) (Z:n+str.size≤maxLen) (I:n+str.size≤140737488355328)
  (K:∀O E S',bp e 1 (cs++o9 str.data.toList) (n+str.size) O E S'→OD P C ops l ⟨x.n,(tt,.v (.slice O (n+str.size) E))::x.env,S'++R⟩ Q) (hne:isMap e=false:=by rfl):OD P C ops (o::l) x Q:=by
 refine OD.perm hp ?_;have hw':bY ops ⟨x.n,x.env,Sq++R⟩ o true:=fun C a w hs=>hw C a w ((Wk.perm (n:=x.n) (env:=x.env) hp.symm) C a w hs);have rS:aE ⟨x.n,x.env,Sq++R⟩ s = .v (.slice ad n cap):=(by rw[←hs];cases s<;>rfl)
 have Nf:aE ⟨x.n,x.env,Sq++R⟩ y = .v (.string str):=(by rw[←hy];cases y<;>rfl)
 exact OD.fV hw' (Zj (hne:=hne) ho hd ht hu hi rS U rfl hl Nf Z I) fun y ⟨O,E,S',h1,hy⟩=>hy ▸ K O E S' h1
theorem OD.pJ {g:α→List D} {ls new:List α} {s:Operand} {t bytes:Nat} {z:Value} (hg:∀a,(g a).length=sz) (hg1:∀a,(g a).all one=true) (hw:bY ops x o true) (ho:o.op = .call {callee:=.builtin .append,args:=#[s,y],argTypes:=#[t,t]}) (hd:o.dst=some tt)
  (ht:P.underlying t=some (.slice e)) (hi:(P.info? e).map (fun i=>(i.zero,i.size,i.bytes))=some (some z,sz,bytes)) (eO:z.cells.size=sz) (Z:0<sz) (hu:∀w,(underlying t).run P w = .ok (.slice e) w) (At:∀w,(sizeOf e).run P w = .ok sz w)
  (hs:aE x s = .v (.slice ad ls.length cap)) (O:bp e sz (ls.flatMap g) ls.length ad cap Sq) (hp:x.S.Perm (Sq++R))
  (hy:aE x y = .list sz (new.flatMap g) new.length) (gl:ls.length+new.length≤maxLen) (I:(ls.length+new.length)*bytes≤140737488355328)
  (K:∀U E S',bp e sz ((ls++new).flatMap g) (ls++new).length U E S'→OD P C ops l ⟨x.n,(tt,.v (.slice U (ls++new).length E))::x.env,S'++R⟩ Q) (hne:isMap e=false:=by rfl):OD P C ops (o::l) x Q:=by
 rcases Nat.eq_zero_or_pos new.length with h0|h0
 ·have hn:new=[]:=eq_nil_of_length_eq_zero h0;subst hn;refine OD.still hw hd (OB ho hu At hs O.le hy) ?_;have:=K ad cap Sq (by rw[append_nil];exact O);rw[append_nil] at this;exact OD.wk (Wk.perm (n:=x.n) hp) this
 exact OD.ey (hne:=hne) hg hg1 hw ho hd ht hi eO Z hs O hp hy h0 gl I fun b' E h1 h2=>K _ E _ (bM h1 h2)
theorem Zv {e:TypeId} {vs:List Value} (ho:o.op = .slice t y none none none) (hy:aE x y = .v (.pointer (some ⟨b,0,none⟩))) (hg:(b,vs)∈G)
  (I:∀w,(underlying t).run P w = .ok (.array n e) w) (hs:∀w,(sizeOf e).run P w = .ok sz w) (hl:vs.length=n*sz) (hn:n≠0) (iR:n≤maxLen) (qT:vs.all rj=true:=by rfl):bQ P G x o .none (.list sz (vs.map .v) n):=fun C a w hG h=>by
 subst hG;obtain⟨⟨q1,q2,O⟩,U⟩:=h.eL _ hg;refine⟨.slice (some ⟨b,0,none⟩) n n,.list sz (vs.map .v) n b 0 n (fun i=>vs.getD i undef) xR (Nat.le_refl _) iR (Nat.lt_of_lt_of_le q1 h.fr.size) (fun hl=>hl.elim O (h.fr.block b q1 q2).2) (fun i hi=>?_) (fun i hi=>?_),fun w' _=>?_⟩
 ·have E:i<vs.length:=(by simpa using hi)
  have:=(h.aT hg (getElem?_eq_getElem E)).cell (QM qT (getElem?_eq_getElem E));rw[Nat.zero_add,this];simp[E]
 ·have E:i<vs.length:=(by simpa using hi)
  simp only[getElem_map,getD_eq_getElem?_getD,getElem?_eq_getElem E,Option.getD_some];exact .v _
 unfold execOp;have b3:(Instr.sliceBounds false n n none none none).run P w' = .ok (0,n,n) w':=(by unfold Instr.sliceBounds;simp)
 simp only[ho,h.flat hy,Instr.sliceAt,I,Instr.sureAddr,Sem.run_bind,Result.andThen_ok,Option.map_none,Sem.run_pure,b3,hs,Nat.sub_zero];rw[if_neg hn];simp[Addr.add_mid]
theorem SX {g:α→List D} {ls:List α} {e:TypeId} {l' h':Nat} {vs:List Value} (hg:(b,vs)∈G) (I:vs.map D.v=ls.flatMap g) (E:n=ls.length)
  (O:∀w,(underlying t).run P w = .ok (.array n e) w) (hs:∀w,(sizeOf e).run P w = .ok sz w) (hl:vs.length=n*sz) (hn:n≠0) (iR:n≤maxLen) (qT:vs.all rj=true:=by rfl):Rs P G t none none l' h' (.v (.pointer (some ⟨b,0,none⟩))) (.list sz (ls.flatMap g) ls.length):=fun x o y ho hy _ _=>by
 have:=Zv (P:=P) (G:=G) ho hy hg O hs hl hn iR qT;rw[I,E] at this;exact this
theorem vb{x y:Bool}(h:x=y):D.v (.bool x)=D.v (.bool y):=by rw[h]
theorem vi{k:IntKind}{x y:Int}(h:x=y):D.v (.int k x)=D.v (.int k y):=by rw[h]
theorem vs{x y:ByteArray}(h:x=y):D.v (.string x)=D.v (.string y):=by rw[h]
def cB(b:UInt8):List D:=[vk b]
theorem pO(b:UInt8):(cB b).length=1:=rfl
theorem wM(b:UInt8):(cB b).all one=true:=rfl
theorem Kn(bs:List UInt8):bs.flatMap cB=bs.map vk:=by
 induction bs with
 | nil=>rfl
 | cons a r ih=>rw[flatMap_cons,ih];rfl
theorem acD(bs:List UInt8):o9 bs=bs.flatMap cB:=(Kn bs).symm
def cS(s:ByteArray):List D:=[.v (.string s)]
theorem jf(s:ByteArray):(cS s).length=1:=rfl
theorem Zc{s e:TypeId}{bs:List UInt8}(ho:o.op = .convert s t y)(hy:aE x y = .list 1 (bs.flatMap cB) n)(hs:P.underlying s=some (.slice e))(he:P.underlying e=some (.int .u8))(ht:P.underlying t=some .string) :
  bQ P G x o .jU (.v (.string ⟨bs.toArray⟩)):=Zh ho (by rw[hy,Kn]) hs he ht
def mq(s:ByteArray)(k:Nat):UInt8:=s.data.toList.getD k 0
theorem Ko{s:ByteArray}(h:k<s.size):s[k]?=some (mq s k):=by
 have h':k<s.data.size:=h;rw[getElem?_pos s k h];congr 1;show s.data[k]=_;simp only[mq,getD_eq_getElem?_getD,Array.getElem?_toList,Array.getElem?_eq_getElem h',Option.getD_some]
theorem kO(s:ByteArray):s.data.toList.length=s.size:=by rw[Array.length_toList];rfl
theorem wv(s:ByteArray):s.toList=s.data.toList:=by rw[ByteArray.toList_eq]
theorem Ia{s:ByteArray}(h:k<s.data.toList.length):s.data.toList[k]=mq s k:=by simp only[mq,getD_eq_getElem?_getD,getElem?_eq_getElem h,Option.getD_some]
theorem af8{s:ByteArray}(h:(!(s.toList==(⟨#[]⟩:ByteArray).toList))=true):0<s.size:=by
 rcases Nat.eq_zero_or_pos s.size with h0|h0
 ·have:s.data.toList=[]:=eq_nil_of_length_eq_zero (by rw[kO,h0]);rw[wv,wv,this] at h;cases h
 exact h0
theorem u3{s:ByteArray}:(s.toList==(⟨#[]⟩:ByteArray).toList)=decide (s.size=0):=by
 rw[Bool.eq_iff_iff,beq_iff_eq,decide_eq_true_eq,wv,wv,←kO];exact⟨fun h=>by rw[h];rfl,fun h=>eq_nil_of_length_eq_zero h⟩
theorem Bm{s t:ByteArray}(h:s.data.toList=t.data.toList):s=t:=by
 obtain⟨⟨a⟩⟩:=s;obtain⟨⟨b⟩⟩:=t;simp only at h;rw[h]
def ja(a b:ByteArray):Bool:=a.toList==b.toList
theorem wD{a b:ByteArray}:ja a b=true↔a=b:=by
 unfold ja;rw[beq_iff_eq,wv,wv];exact⟨Bm,fun h=>by rw[h]⟩
theorem bp.str{s:ByteArray}(h:bp e 1 (ls.flatMap cB++o9 s.data.toList) (ls.length+s.size) ad cap S):bp e 1 ((ls++s.data.toList).flatMap cB) (ls++s.data.toList).length ad cap S:=by
 rw[flatMap_append,←acD s.data.toList,length_append,kO];exact h
theorem OD.Z5 {s:Operand} {t:Nat} {str:ByteArray} (hw:bY ops x o true) (ho:o.op = .call {callee:=.builtin .append,args:=#[s,y],argTypes:=#[t,u]}) (hd:o.dst=some tt)
  (ht:P.underlying t=some (.slice e)) (hu:P.underlying u=some .string) (hi:(P.info? e).map (fun i=>(i.zero,i.size,i.bytes))=some (some (.int .u8 0),1,1))
  (hs:aE x s = .v (.slice ad ls.length cap)) (U:bp e 1 (ls.flatMap cB) ls.length ad cap Sq) (hp:x.S.Perm (Sq++R)) (hy:aE x y = .v (.string str)) (Z:ls.length+str.size≤maxLen) (I:ls.length+str.size≤140737488355328)
  (K:∀O E S',bp e 1 ((ls++str.data.toList).flatMap cB) (ls++str.data.toList).length O E S'→OD P C ops l ⟨x.n,(tt,.v (.slice O (ls++str.data.toList).length E))::x.env,S'++R⟩ Q) (hne:isMap e=false:=by rfl):OD P C ops (o::l) x Q :=
 OD.aaY (hne:=hne) hw ho hd ht hu hi hs U hp (by rw[cn pO,Nat.mul_one]) hy Z I fun O E S' h=>by
  have:=K O E S' h.str;rw[length_append,kO] at this;exact this
def cU(p:α→Bool)(ls:List α):Int:=match ls.findIdx? p with|some i=>i|none=>-1
theorem wo{p:α→Bool}{ls:List α}(hk:k<ls.length)(h0:∀x∈ls.take k,p x=false)(h1:p ls[k]=true):cU p ls=k:=by
 have:ls.findIdx? p=some k:=by
  rw[findIdx?_eq_some_iff_getElem];refine⟨hk,h1,fun j hj=>?_⟩;have:=h0 ls[j] (mem_take_iff_getElem.2 ⟨j,by omega,rfl⟩);simp[this]
 simp[cU,this]
theorem wc{p:α→Bool}{ls:List α}(hk:¬(k<ls.length))(h0:∀x∈ls.take k,p x=false):cU p ls = -1:=by
 have:ls.findIdx? p=none:=by
  rw[findIdx?_eq_none_iff];intro x hx;rw[take_of_length_le w4] at h0;exact h0 x hx
 simp[cU,this]
theorem QW{p:α→Bool}{ls:List α}:decide (cU p ls≥0)=ls.any p:=by
 unfold cU;cases h:ls.findIdx? p with
 | none =>
  have:=findIdx?_eq_none_iff.1 h;simp;exact this
 | some i =>
  obtain⟨h1,h2,_⟩:=findIdx?_eq_some_iff_getElem.1 h;simp only[ge_iff_le,Int.natCast_nonneg,decide_true];exact(any_eq_true.2 ⟨_,getElem_mem h1,h2⟩).symm
theorem yO{p:α→Prop}{ls:List α}(hk:k<ls.length)(h0:∀x∈ls.take k,p x)(h1:p ls[k]):∀x∈ls.take (k+1),p x:=by
 rw[take_succ_eq_append_getElem hk];intro x hx;rcases mem_append.1 hx with hx|hx
 ·exact h0 x hx
 simp only[mem_singleton] at hx;subst hx;exact h1

end Go.Proofs.YtdgichenhdikgaaGreatDoor.V
namespace Go.Proofs.YtdgichenhdikgaaGreatDoor.V
open List
open Go.RowKit
variable {P:Program} {C:dy} {G:List (Nat×List Value)} {Q:Exit→St→Prop} {ops:Array Oper} {l l2:List Oper} {o:Oper} {n t:Nat} {d:D} {e e' l':List (Nat×D)} {S:List ah} {ts:List Nat} {c:Bool}
variable {q:Nat} {ld:Array Bool}
theorem y4{a:Act}{w:World}{K:Act→World→Prop}{R:Exit→Act→World→Prop}(h:o.wp P a w K R):o.wp P a w (fun a' w'=>K a' w'∧∃v,a'.tmps=(a.put o.dst v).tmps) R:=by
 unfold Oper.wp at *;generalize (execOp a.eval o).run P w=r at *;cases r with
 | ok x w' =>
  cases x<;>simp only[Oper.upon] at h ⊢ <;>
   first
    | exact⟨h,_,rfl⟩
    | exact Calls.mono h (fun e E he=>by cases e<;>first|exact⟨he,_,rfl⟩|exact he)
    | exact Rows.mono h (fun _ _ he=>⟨he,_,rfl⟩)
    | (refine⟨h,undef,?_⟩;unfold Act.put;cases o.dst<;>rfl)
 | halt x w'=>cases x<;>simp only[Oper.upon] at h ⊢<;>exact h
theorem bG.zw{a a':Act}{w w':World}{v:Value}(h:bG C ⟨n,e,S⟩ a w)(k:bG C ⟨n,(t,d)::l',S⟩ a' w')(hf:Fr w (au S) w' (au S))(I:a'.tmps=(a.put (some t) v).tmps):bG C ⟨n,(t,d)::e,S⟩ a' w':=by
 refine⟨k.defers,k.size,fun q hq=>?_,k.own,k.fr,k.ex,k.eL⟩;by_cases E:t=q
 ·subst E;have:=k.env t hq;simp only[fS,if_pos] at this ⊢;exact this
 have h1:=h.env q hq;have h2:a'.tmps.getD q undef=a.tmps.getD q undef:=(by rw[I];simp[Act.put,Array.getD_eq_getD_getElem?,Array.getElem?_setIfInBounds,E])
 simp only[fS,if_neg E];rw[h2];exact h1.mono fun b hb hn=>⟨(hf.block b hb (fun hm=>hn (.inr hm))).1,hn⟩
theorem fN.zw(hd:o.dst=some t)(h:fN P G ⟨n,l',S⟩ o [] (fun y=>y=⟨n,(t,d)::l',S⟩))(hs:ny e l'):fN P G ⟨n,e,S⟩ o [] (fun y=>y=⟨n,(t,d)::e,S⟩):=fun C a w K R hG E hK=>by
 have h1:=h C a w (fun a' w'=>bG C ⟨n,(t,d)::l',S⟩ a' w'∧l7 [] w w'∧Fr w (au S) w' (au S)) R hG (Wk.kz hs C a w E) (fun y a' w' hy I hc hf=>by subst hy;exact⟨I,hc,hf⟩);refine Oper.wp_mono (fun a' w' h2=>?_) (y4 h1);obtain⟨⟨h3,h4,h5⟩,v,h6⟩:=h2;rw[hd] at h6;exact hK _ a' w' rfl (E.zw h3 h5 h6) h4 h5
def nE(ops:Array Oper)(o:Oper)(ts:List Nat):Bool:=(range ops.size).all fun j=>match ops[j]? with
 | some p=>(match p.dst with
  | some t=>!(ts.elem t)||o.after.any (fun e=>Region.binds .any e&&Nat.beq e.on j)
  | none=>true)
 | none=>true
def mB(ops:Array Oper):Bool:=(range ops.size).all fun i=>match ops[i]? with
 | some o=>o.after.all (fun e=>!Region.binds .any e||Nat.blt e.on i)&&(match o.dst with
  | some t=>(range i).all fun j=>match ops[j]? with
   | some p=>(match p.dst with|some q=>!(Nat.beq q t)|none=>true)
   | none=>true
  | none=>false)
 | none=>true
inductive PD (c:Bool) (P:Program) (G:List (Nat×List Value)) (n:Nat) (S:List ah) (ops:Array Oper):List Oper→List (Nat×D)→List Oper→List (Nat×D)→Prop
 | nil {l:List Oper} {e:List (Nat×D)}:PD c P G n S ops l e l e
 | cons {o:Oper} {l l2:List Oper} {t:Nat} {d:D} {e e' l':List (Nat×D)} {ts:List Nat} (hd:o.dst=some t) (hr:fE ts e l') (hq:(!c||nE ops o ts)=true) (hw:bY ops ⟨n,l',S⟩ o true)
   (h:fN P G ⟨n,l',S⟩ o [] (fun y=>y=⟨n,(t,d)::l',S⟩)) (k:PD c P G n S ops l ((t,d)::e) l2 e'):PD c P G n S ops (o::l) e l2 e'
 | skip {o:Oper} {l l2:List Oper} {t:Nat} {e e' l':List (Nat×D)} {ts:List Nat} (hd:o.dst=some t) (hr:fE ts e l') (hq:(!c||nE ops o ts)=true) (hw:bY ops ⟨n,l',S⟩ o false)
   (k:PD c P G n S ops l ((t,.v (.tuple #[]))::e) l2 e'):PD c P G n S ops (o::l) e l2 e'
theorem PD.od(h:PD c P C.G n S ops l e l2 e')(K:OD P C ops l2 ⟨n,e',S⟩ Q):OD P C ops l ⟨n,e,S⟩ Q:=by
 induction h with
 | nil=>exact K
 | cons hd hr hq hw h k ih=>exact OD.fV (fun C a w hs=>hw C a w (Wk.kz hr.kz C a w hs)) (h.zw hd hr.kz) fun y hy=>by subst hy;exact ih K
 | skip hd hr hq hw k ih=>exact OD.skip (fun C a w hs=>hw C a w (Wk.kz hr.kz C a w hs)) hd (ih K)
def Gd(P:Program)(G:List (Nat×List Value))(n:Nat)(S:List ah)(ops:Array Oper)(eF:List (Nat×D))(i:Nat):Prop :=
 ∃o t ts l',ops[i]?=some o∧o.dst=some t∧nE ops o ts=true∧(∀p∈l',p.1∈ts∧look p.1 eF=look p.1 l')∧l'.map (·.1)=ts ∧
  ((bY ops ⟨n,l',S⟩ o true∧fN P G ⟨n,l',S⟩ o [] (fun y=>y=⟨n,(t,look t eF)::l',S⟩))∨(bY ops ⟨n,l',S⟩ o false∧look t eF = .v (.tuple #[])))
theorem fE.keys(h:fE ts e l'):l'.map (·.1)=ts:=by
 induction h with
 | nil=>rfl
 | cons h k ih=>rw[map_cons,ih]
theorem fE.at(h:fE ts e l')(hq:q∈ts):look q l'=look q e:=by
 induction h with
 | nil=>cases hq
 | @cons t ts d e l' h k ih =>
  rw[fS];by_cases E:t=q
  ·subst E;rw[if_pos rfl,h]
  rw[if_neg E];rcases mem_cons.1 hq with rfl|hm
  ·exact absurd rfl E
  exact ih hm
theorem wK(h:mB ops=true){i:Nat}{o:Oper}(hi:ops[i]?=some o):(∀e∈o.after,Region.binds .any e=true→e.on<i)∧∃t,o.dst=some t∧∀j p,j<i→ops[j]?=some p→p.dst≠some t:=by
 have aa:=(Array.getElem?_eq_some_iff.1 hi).1;have:=all_eq_true.1 h i (mem_range.2 aa);simp only[hi,Bool.and_eq_true] at this;obtain⟨h1,h2⟩:=this;refine⟨fun e he hb=>?_,?_⟩
 ·have:=Array.all_eq_true'.1 h1 e he;simp only[hb,Bool.not_true,Bool.false_or] at this;exact Nat.le_of_ble_eq_true this
 cases hd:o.dst with
 | none=>rw[hd] at h2;cases h2
 | some t =>
  rw[hd] at h2;refine⟨t,rfl,fun j p hj hp hq=>?_⟩;have:=all_eq_true.1 h2 j (mem_range.2 hj);simp only[hp,hq,Bool.not_eq_true'] at this;have h3:Nat.beq t t=true:=Nat.beq_refl t;rw[h3] at this;cases this
theorem E0(h:nE ops o ts=true){j:Nat}{p:Oper}(hj:ops[j]?=some p)(hp:p.dst=some q)(hq:q∈ts):∃e∈o.after,Region.binds .any e=true∧e.on=j:=by
 have aa:=(Array.getElem?_eq_some_iff.1 hj).1;have:=all_eq_true.1 h j (mem_range.2 aa);simp only[hj,hp] at this;rw[show ts.elem q=true from elem_eq_true_of_mem hq] at this;simp only[Bool.not_true,Bool.false_or] at this;obtain⟨e,he,hb⟩:=Array.any_eq_true'.1 this;rw[Bool.and_eq_true] at hb;exact⟨e,he,hb.1,Nat.eq_of_beq_eq_true hb.2⟩
theorem PD.later(h:PD c P G n S ops l e l2 e')(hq:∀o∈l,o.dst≠some q):look q e'=look q e:=by
 induction h with
 | nil=>rfl
 | @cons o l l2 t d e e' l' ts hd hr Aj hw h k ih =>
  rw[ih fun p hp=>hq p (mem_cons_of_mem _ hp),fS,if_neg (fun e1:t=q=>hq o mem_cons_self (by rw[←e1];exact hd))]
 | @skip o l l2 t e e' l' ts hd hr Aj hw k ih =>
  rw[ih fun p hp=>hq p (mem_cons_of_mem _ hp),fS,if_neg (fun e1:t=q=>hq o mem_cons_self (by rw[←e1];exact hd))]
theorem PD.xw(hp:mB ops=true)(h:PD true P G n S ops l e l2 e'):l2=[]→∀k,ops.toList.drop k=l→∀i,k≤i→i<ops.size→Gd P G n S ops e' i:=by
 induction h with
 | nil =>
  intro ir k hk i h1 h2;rw[ir,drop_eq_nil_iff] at hk;simp at hk;omega
 | @cons o l l2 t d e e' l' ts hd hr Aj hw h k0 ih =>
  intro ir k hk i h1 h2;have aQ:ops.toList[k]?=some o:=(by rw[←head?_drop,hk];rfl)
  have zI:ops[k]?=some o:=(by rw[←Array.getElem?_toList];exact aQ)
  have jo:ops.toList.drop (k+1)=l:=(by rw[←drop_drop,hk];rfl)
  rcases Nat.eq_or_lt_of_le h1 with rfl|h1
  ·have lg:∀j p,k<j→ops[j]?=some p→p.dst≠some t:=fun j p hj G2 iS=>by
    exact VM
   have aa:∀p∈l,p.dst≠some t:=fun p fK=>by
    exact z93
   have E:look t e'=d:=(by rw[k0.later aa,fS,if_pos rfl])
   refine⟨o,t,ts,l',zI,hd,by simpa using Aj,fun p fK=>?_,hr.keys,.inl ⟨hw,by rw[E];exact h⟩⟩;exact Xo
  exact ih ir (k+1) jo i h1 h2
 | @skip o l l2 t e e' l' ts hd hr Aj hw k0 ih =>
  intro ir k hk i h1 h2;have aQ:ops.toList[k]?=some o:=(by rw[←head?_drop,hk];rfl)
  have zI:ops[k]?=some o:=(by rw[←Array.getElem?_toList];exact aQ)
  have jo:ops.toList.drop (k+1)=l:=(by rw[←drop_drop,hk];rfl)
  rcases Nat.eq_or_lt_of_le h1 with rfl|h1
  ·have lg:∀j p,k<j→ops[j]?=some p→p.dst≠some t:=fun j p hj G2 iS=>by
    exact VM
   have aa:∀p∈l,p.dst≠some t:=fun p fK=>by
    exact z93
   have E:look t e' = .v (.tuple #[]):=(by rw[k0.later aa,fS,if_pos rfl])
   refine⟨o,t,ts,l',zI,hd,by simpa using Aj,fun p fK=>?_,hr.keys,.inr ⟨hw,E⟩⟩;exact Xo
  exact ih ir (k+1) jo i h1 h2
def left(N:Nat)(ld:Array Bool):Nat:=((range N).filter fun j=>!ld.getD j true).length
theorem y5{N i:Nat}(hi:i<N)(hl:ld.getD i true=false):left N (ld.setIfInBounds i true)<left N ld:=by
 unfold left;have E:i<ld.size:=by
  rcases Nat.lt_or_ge i ld.size with h|h
  ·exact h
  rw[Array.getD_eq_getD_getElem?,Array.getElem?_eq_none h] at hl;cases hl
 have h1:(range N).filter (fun j=>!(ld.setIfInBounds i true).getD j true)=((range N).filter fun j=>!ld.getD j true).filter (fun j=>!decide (j=i)):=by
  rw[filter_filter];congr 1;funext j;by_cases hj:j=i
  ·subst hj;simp[Array.getD_eq_getD_getElem?,Array.getElem?_setIfInBounds,E]
  simp[Array.getD_eq_getD_getElem?,Array.getElem?_setIfInBounds,hj,Ne.symm hj]
 rw[h1];refine length_filter_lt_length_iff_exists.2 ⟨i,mem_filter.2 ⟨mem_range.2 hi,by simp[hl]⟩,by simp⟩
theorem Kp(hp:mB ops=true)(hr:Region.ready .any ops ld=[]):∀j,j<ops.size→ld.getD j true=true:=fun j=>by
 induction j using Nat.strongRecOn with
 | _ j ih =>
  intro hj;cases hl:ld.getD j true with
  | true=>rfl
  | false =>
   have ho:ops[j]?=some ops[j]:=Array.getElem?_eq_getElem hj;have:j∈Region.ready .any ops ld:=mem_ready.2 ⟨hl,ops[j],ho,fun e he hb=>by
    have aa:=(wK hp ho).1 e he hb;have:=ih e.on aa w4;rw[Array.getD_eq_getD_getElem?] at this ⊢;cases hq:ld[e.on]? with
    | none =>
     have h3:ld.size≤e.on:=Array.getElem?_eq_none_iff.1 hq;rw[Array.getD_eq_getD_getElem?,Array.getElem?_eq_none w4] at hl;cases hl
    | some b=>rw[hq] at this;exact this⟩
   rw[hr] at this;cases this
theorem EI{q:Nat}:∀{r:List (Nat×D)},¬q∈r.map (·.1)→look q r = .bS
 | [],_=>rfl
 | (p1,p2)::r,hm=>by
  rw[map_cons,mem_cons,not_or] at hm;rw[fS,if_neg (fun e1=>hm.1 e1.symm)];exact EI hm.2
theorem af9{O:List (Nat×D)}{w1:World}{S1:List Nat}(hS1:au S=S1)(hp:mB ops=true)(H:∀i,i<ops.size→Gd P C.G n S ops O i)(hQ:Q .normal ⟨n,O,S⟩):∀(fuel:Nat) (ld:Array Bool) (env:List (Nat×D)) (a:Act) (w:World),
  left ops.size ld≤fuel→bG C ⟨n,env,S⟩ a w→Fr w1 S1 w S1→(∀q,(∀j o,ops[j]?=some o→o.dst=some q→ld.getD j true=true)→look q env=look q O)→wpAnyH P .any ops (LQ C Q) (kW w1 S1 []) fuel ld a w:=by
 have eS:∀(ld:Array Bool) (env:List (Nat×D)) (a:Act) (w:World),bG C ⟨n,env,S⟩ a w→(∀q,(∀j o,ops[j]?=some o→o.dst=some q→ld.getD j true=true)→look q env=look q O)→(∀j,j<ops.size→ld.getD j true=true)→LQ C Q .normal a w:=fun ld env a w hs he eY =>
  .inl ⟨⟨n,O,S⟩,⟨hs.defers,hs.size,fun q hq=>by have:=hs.env q hq;rw[he q fun j o hj _=>eY j (Array.getElem?_eq_some_iff.1 hj).1] at this;exact this,hs.own,hs.fr,hs.ex,hs.eL⟩,hQ⟩
 intro fuel;induction fuel with
 | zero =>
  intro ld env a w hl hs hf he;have eY:∀j,j<ops.size→ld.getD j true=true:=fun j hj=>by
   cases hq:ld.getD j true with
   | true=>rfl
   | false=>have:=y5 hj hq;omega
  refine⟨?_,eS ld env a w hs he eY⟩;rw[eq_nil_iff_forall_not_mem];intro j hj;obtain⟨h1,o,h2,_⟩:=mem_ready.1 hj;have:=eY j (Array.getElem?_eq_some_iff.1 h2).1;rw[h1] at this;cases this
 | succ fuel ih =>
  intro ld env a w hl hs hf he;refine⟨fun h0=>eS ld env a w hs he (Kp hp h0),fun i hi=>?_⟩;obtain⟨lq,o,E,Cb⟩:=mem_ready.1 hi;have aa:=(Array.getElem?_eq_some_iff.1 E).1;obtain⟨o',t,ts,l',h1,hd,hq,mb,hk,hb⟩:=H i aa;rw[E] at h1;obtain rfl:=Option.some.inj h1;have Wc:=y5 aa lq;have sM:∀j,(ld.setIfInBounds i true).getD j true=true↔j=i∨ld.getD j true=true:=fun j=>by
   by_cases hj:j=i
   ·subst hj;have iu:j<ld.size:=by
     rcases Nat.lt_or_ge j ld.size with h|h
     ·exact h
     rw[Array.getD_eq_getD_getElem?,Array.getElem?_eq_none h] at lq;cases lq
    simp[Array.getD_eq_getD_getElem?,Array.getElem?_setIfInBounds,iu]
   simp[Array.getD_eq_getD_getElem?,Array.getElem?_setIfInBounds,hj,Ne.symm hj]
  have hsl:∀{r:List (Nat×D)},(∀p∈r,look p.1 env=p.2)→ny env r:=by
   intro r;induction r with
   | nil=>intro _;trivial
   | cons p r ihr=>intro hr;exact⟨hr p mem_cons_self,ihr fun p' Ak=>hr p' (mem_cons_of_mem _ Ak)⟩
  have aje:∀p∈l',look p.1 env=look p.1 l':=fun p fK=>by
   obtain⟨h2,h3⟩:=mb p fK;rw[←h3];refine he p.1 fun j oj hj iS=>?_;obtain⟨e1,tc,iZ,jF⟩:=E0 hq hj iS h2;have:=Cb e1 tc iZ;rw[jF] at this;rw[Array.getD_eq_getD_getElem?] at this ⊢;cases hx:ld[j]? with
   | none=>rw[hx] at this;cases this
   | some b=>rw[hx] at this;exact this
  have U:bG C ⟨n,l',S⟩ a w:=⟨hs.defers,hs.size,fun q CW=>by
   by_cases hm:q∈ts
   ·rw[←hk] at hm;obtain⟨p,fK,rfl⟩:=mem_map.1 hm;have:=hs.env p.1 CW;rw[aje p fK] at this;exact this
   have:look q l' = .bS:=by
    rw[←hk] at hm;exact EI hm
   rw[this];exact .bS _,hs.own,hs.fr,hs.ex,hs.eL⟩
  have jg:∀(a':Act) (w':World),bG C ⟨n,(t,look t O)::env,S⟩ a' w'→Fr w (au S) w' (au S)→kW w1 S1 [] w'∧wpAnyH P .any ops (LQ C Q) (kW w1 S1 []) fuel (ld.setIfInBounds i true) a' w':=fun a' w' Z uH=>by
   have js:Fr w1 S1 w' S1:=hf.trans (hS1 ▸ uH);refine⟨⟨fun b h2 h3=>(js.block b h2 h3).1,fun b h2=>by cases h2⟩,ih _ _ a' w' w4 Z js fun q uI=>?_⟩;rw[fS];by_cases I:t=q
   ·rw[if_pos I,I]
   rw[if_neg I];refine he q fun j oj hj iS=>?_;rcases(sM j).1 (uI j oj hj iS) with rfl|h2
   ·rw[E] at hj;obtain rfl:=Option.some.inj hj;rw[hd] at iS;exact absurd (Option.some.inj iS) I
   exact h2
  unfold wpOp;rw[E];rcases hb with ⟨hw,hE⟩|⟨hw,hv⟩
  ·simp only[hw C a w U,if_true];have h2:=hE C a w (fun a' w'=>bG C ⟨n,(t,look t O)::l',S⟩ a' w'∧Fr w (au S) w' (au S)) (LQ C Q) rfl U (fun y a' w' hy Z _ uH=>by subst hy;exact⟨Z,uH⟩);refine .inl (Oper.wp_mono (fun a' w' h3=>?_) (y4 h2));obtain⟨⟨h4,h5⟩,v,h6⟩:=h3;rw[hd] at h6;exact jg a' w' (hs.zw h4 h5 h6) h5
  simp only[hw C a w U,hd];have:=hs.put (t:=t) (.v (w:=w) (L:=live C.X S) undef);rw[hv] at jg;exact jg _ w this (Fr.refl _ _)
theorem dH.pd(hp:mB ops=true)(h:PD true P C.G n S ops ops.toList e [] e')(hQ:Q .normal ⟨n,e',S⟩):dH P C ops (au S) [] ops.size (Array.replicate ops.size false) ⟨n,e,S⟩ Q:=fun a w hs _ _=>by
 have hg:=h.xw hp rfl 0 rfl;refine af9 rfl hp (fun i hi=>hg i (Nat.zero_le _) hi) hQ _ _ e a w ?_ hs (Fr.refl _ _) fun q hq=>?_
 ·unfold left;exact Nat.le_trans (length_filter_le _ _) bn
 refine(h.later fun o ho hd=>?_).symm;obtain⟨j,hj,rfl⟩:=mem_iff_getElem.1 ho;have E:j<ops.size:=(by simpa using hj)
 have:=hq j _ (by rw[←Array.getElem?_toList,getElem?_eq_getElem hj]) hd;simp[Array.getD_eq_getD_getElem?,E] at this
theorem CD.pd{id:Nat}{E:Bool}(hm:E=true→P.follows .mixedOrders=true)(hp:E=true→mB l.toArray=true)(h:PD E P C.G n S l.toArray l e [] e')(hQ:Q .normal ⟨n,e',S⟩):CD P C (.region id l.toArray E) ⟨n,e,S⟩ Q:=by
 cases E with
 | false=>exact CD.region (h.od (OD.nil hQ))
 | true=>exact CD.draw [] (hm rfl) (fun _ hb=>by cases hb) (dH.pd (hp rfl) h hQ)

end Go.Proofs.YtdgichenhdikgaaGreatDoor.V
namespace Go.Proofs.YtdgichenhdikgaaGreatDoor.V
open List
open Go.RowKit
variable {P:Program} {G:List (Nat×List Value)} {x:St} {o:Oper} {C:dy} {Q:Exit→St→Prop} {ops:Array Oper} {l:List Oper}
variable {L:Nat→Prop} {ks:List Int} {i b:Nat} {k:Int} {kt:TypeId} {y:Operand}
def vl(ks:List Int):List D:=ks.map fun k=>.v (.int .i64 k)
def kX(b:Nat)(ks:List Int):ah:=⟨b,zb,ks.length,vl ks⟩
theorem acE{w:World}{cur:Array Value}(h2:cur.size=ks.length)(h4:∀i (h:i<(vl ks).length),∃u,cur[i]?=some u∧cg w L (vl ks)[i] u):cur=(ks.map (Value.int .i64)).toArray:=by
 apply Array.ext (by simp[h2]);intro i q1 q2;have hi:i<ks.length:=(by omega)
 obtain⟨u,hu,hr⟩:=h4 i (by simpa[vl] using hi);simp only[vl,getElem_map] at hr;have:=hr.kV;subst this;have e:=(Array.getElem?_eq_some_iff.1 hu).2;rw[e];simp
theorem bG.ahC {a:Act} {w:World} (h:bG C x a w) {B B':ah} {lX:Array Value} (hk:x.S[i]?=some B) (hb:B'.b=B.b) (h2:lX.size=B'.size) (h3:B'.cs.length≤B'.size)
  (h4:∀j (hj:j<B'.cs.length),∃u,lX[j]?=some u∧cg w (live C.X x.S) B'.cs[j] u) :
  bG C ⟨x.n,x.env,x.S.set i B'⟩ a {w with heap:=w.heap.setIfInBounds B.b (ob B'.e lX)}∧l7 [B.b] w {w with heap:=w.heap.setIfInBounds B.b (ob B'.e lX)}∧Fr w (au x.S) {w with heap:=w.heap.setIfInBounds B.b (ob B'.e lX)} (au (x.S.set i B')):=by
 obtain⟨h0,cur,r1,r2,r3,r4⟩:=h.fp hk;generalize I:({w with heap:=w.heap.setIfInBounds B.b (ob B'.e lX)}:World)=w';have i1:w'.heap[B.b]?=some (ob B'.e lX):=(by rw[←I];simp[h0])
 have i2:∀b,b≠B.b→w'.heap[b]?=w.heap[b]?:=fun b hn=>by rw[←I];simp[Ne.symm hn]
 have i3:w'.heap.size=w.heap.size:=(by rw[←I];simp)
 have i4:w'.os=w.os:=(by rw[←I])
 have i5:w'.tape=w.tape:=(by rw[←I])
 have i6:w'.output=w.output:=(by rw[←I])
 have dU:i<x.S.length:=(List.getElem?_eq_some_iff.1 hk).1;have vQ:x.S[i]=B:=(List.getElem?_eq_some_iff.1 hk).2;have E:au (x.S.set i B')=au x.S:=by
  unfold au;rw[map_set];apply ext_getElem bn;intro j q1 q2;rw[getElem_set];split
  ·rename_i e;subst e;simp[vQ,hb]
  rfl
 have O:live C.X (x.S.set i B')=live C.X x.S:=(by funext b;simp only[live,E])
 have hB:live C.X x.S B.b:=QN hk;have H:∀b,b<w.heap.size→¬live C.X x.S b→w'.heap[b]?=w.heap[b]?∧¬live C.X x.S b:=fun b _ hn=>⟨i2 b (fun e=>hn (e ▸ hB)),hn⟩
 refine⟨⟨h.defers,h.size,fun t ht=>?_,⟨fun B2 hB2=>?_,?_⟩,?_,h.ex,h.eL⟩,⟨by rw[i3];exact Nat.le_refl _,fun b _ hn=>i2 b (by simpa using hn)⟩,?_⟩
 ·simp only[O];exact(h.env t ht).mono H
 ·simp only[O];obtain⟨j,hj,U⟩:=mem_iff_getElem.1 hB2;rw[length_set] at hj;rw[getElem_set] at U;by_cases e:i=j
  ·rw[if_pos e] at U;subst U;refine⟨by rw[i3,hb];exact h0,lX,by rw[hb];exact i1,h2,h3,fun q hq=>?_⟩;obtain⟨u,hu,Ng⟩:=h4 q hq;exact⟨u,hu,Ng.mono H⟩
  rw[if_neg e] at U;subst U;have hne:x.S[j].b≠B.b:=fun he=>by
   have CP:(au x.S)[j]'Af=(au x.S)[i]'Ad:=(by simp[au,he,vQ])
   have hp:=pairwise_iff_getElem.1 h.own.apart;rcases Nat.lt_trichotomy j i with Z|Z|Z
   ·exact hp j i Af Ad Z CP
   ·exact e Z.symm
   exact hp i j Ad Af Z CP.symm
  obtain⟨q0,nX,q1,q2,q3,q4⟩:=h.own.at_ x.S[j] (getElem_mem hj);refine⟨by rw[i3];exact q0,nX,(i2 _ hne).trans q1,q2,q3,fun q hq=>?_⟩;obtain⟨u,hu,Ng⟩:=q4 q hq;exact⟨u,hu,Ng.mono H⟩
 ·simp only[E];exact h.own.apart
 ·refine⟨i4.trans h.fr.os,i5.trans h.fr.tape,i6.trans h.fr.output,by rw[i3];exact h.fr.size,fun b jG hn=>?_⟩;obtain⟨q1,q2⟩:=h.fr.block b jG hn;refine⟨(i2 b (fun e=>q2 (e ▸ mem_map.2 ⟨B,mem_of_getElem? hk,rfl⟩))).trans q1,?_⟩;simp only[E];exact q2
 rw[E];exact⟨i4,i5,i6,by rw[i3];exact Nat.le_refl _,fun b jG hn=>⟨i2 b (fun e=>hn (e ▸ mem_map.2 ⟨B,mem_of_getElem? hk,rfl⟩)),hn⟩⟩
theorem ZJ{t:TypeId}{tt:Nat}(ho:o.op = .makeMap t none)(hd:o.dst=some tt):fN P G x o [] (fun y=>∃b,y=⟨x.n,(tt,.v (.map (some b)))::x.env,kX b []::x.S⟩):=fun C a w K Q hG h hK=>by
 have:(execOp a.eval o).run P w = .ok (.value (.map (some w.heap.size))) (w.alloc (ob zb #[])):=by
  unfold execOp;simp[ho,Instr.makeMap,Us,BK]
 unfold Oper.wp;rw[this,Oper.upon_value,hd];exact hK _ _ _ ⟨w.heap.size,rfl⟩ (h.U5 (ds:=[]) (cx.nil _ _) bn (fun L=>.v _)) (l7.alloc _ _) (Fr.alloc _ _ _)
theorem Kq{w:World}(h:KU w L (kX b ks)):w.heap[b]?=some (BK (ks.map (Value.int .i64)).toArray):=by
 obtain⟨h0,cur,h1,h2,h3,h4⟩:=h;have h2:cur.size=ks.length:=h2;have:=acE h2 h4;subst this;exact h1
theorem SY{e:MapEntry}(h:e∈(Array.mapIdx (fun i k=>(⟨k,.agg #[],i⟩:MapEntry)) (ks.map (Value.int .i64)).toArray).toList):∃k∈ks,e.key = .int .i64 k∧e.val = .agg #[]:=by
 obtain⟨i,hi,rfl⟩:=mem_iff_getElem.1 h;have E:i<ks.length:=(by simpa using hi)
 exact⟨ks[i],getElem_mem E,by simp,by simp⟩
theorem QX:(k∉ks∧Instr.findNow (.int .i64) (.int .i64 k) (Array.mapIdx (fun i k=>(⟨k,.agg #[],i⟩:MapEntry)) (ks.map (Value.int .i64)).toArray).toList 0=some none) ∨
  (k∈ks∧∃i,Instr.findNow (.int .i64) (.int .i64 k) (Array.mapIdx (fun i k=>(⟨k,.agg #[],i⟩:MapEntry)) (ks.map (Value.int .i64)).toArray).toList 0=some (some (i,.agg #[]))):=by
 rcases MapKept.findNow_spec (d:=.int .i64) (k:=.int .i64 k) (by simp[MapKept.IsKey]) (Array.mapIdx (fun i k=>(⟨k,.agg #[],i⟩:MapEntry)) (ks.map (Value.int .i64)).toArray).toList 0 (fun e he=>by
   obtain⟨k',_,h1,_⟩:=SY he;rw[h1];simp[MapKept.IsKey]) with ⟨h1,h2⟩|⟨j,e,h1,h2,h3⟩
 ·refine .inl ⟨fun hm=>?_,h1⟩;obtain⟨i,hi,rfl⟩:=mem_iff_getElem.1 hm;exact h2 ((Array.mapIdx (fun i k=>(⟨k,.agg #[],i⟩:MapEntry)) (ks.map (Value.int .i64)).toArray).toList[i]'(by simpa using hi)) (getElem_mem _) bn
 obtain⟨k',qU,q1,q2⟩:=SY (mem_of_getElem? h2);rw[h3] at q1;have:k=k':=(by simpa using q1)
 subst this;rw[q2] at h1;exact .inr ⟨qU,_,h1⟩
theorem aaZ {U Z:TypeId} {z:Operand} (ho:o.op = .lookup U y z true) (hy:aE x y = .v (.map (some b))) (hz:aE x z = .v (.int .i64 k)) (hk:x.S[i]?=some (kX b ks))
  (hm:P.underlying U=some (.map kt Z)) (E:P.underlying kt=some (.int .i64)) (O:∀w,(zeroValue Z).run P w = .ok (.agg #[]) w):bQ P G x o (.fp i) (.di [.v (.agg #[]),.v (.bool (decide (k∈ks)))]):=fun C a w _ h=>by
 have h1:=Kq (h.fp hk);refine⟨.tuple #[.agg #[],.bool (decide (k∈ks))],.di _ [.agg #[],.bool (decide (k∈ks))] rfl (fun j q1 q2=>?_),fun w' hw=>?_⟩
 ·rcases j with _|_|j
  ·exact .v _
  ·exact .v _
  simp at q1;omega
 have hh:w'.heap[b]?=_:=(hw _ hk).trans h1;have I:=MapKept.run_checkKey (P:=P) (w:=w') (kt:=kt) (d:=.int .i64) (k:=.int .i64 k) E (by simp[MapKept.IsKey]);unfold execOp;rcases QX (ks:=ks) (k:=k) with ⟨n1,n2⟩|⟨n1,j,n2⟩
 ·have hf:=MapKept.run_findKey (P:=P) (w:=w') E n2;simp only[ho,h.flat hy,h.flat hz,Instr.lookup,Sem.run_bind,run_underlying hm,MapKept.run_getObj_map hh,I,hf,O,Result.andThen_ok,Sem.run_pure,n1,decide_false,if_true]
 have hf:=MapKept.run_findKey (P:=P) (w:=w') E n2;simp only[ho,h.flat hy,h.flat hz,Instr.lookup,Sem.run_bind,run_underlying hm,MapKept.run_getObj_map hh,I,hf,Result.andThen_ok,Sem.run_pure,n1,decide_true,if_true]
theorem Z6 {mt et:TypeId} {z u:Operand} (ho:o.op = .mapUpdate mt y z u) (hd:o.dst=none) (hy:aE x y = .v (.map (some b))) (hz:aE x z = .v (.int .i64 k)) (hu:aE x u = .agg []) (hk:x.S[i]?=some (kX b ks)) (hn:k∉ks)
  (hm:P.underlying mt=some (.map kt et)) (I:P.underlying kt=some (.int .i64)):fN P G x o [b] (fun s=>s=⟨x.n,x.env,x.S.set i (kX b (ks++[k]))⟩):=fun C a w K Q hG h hK=>by
 have h1:=Kq (h.fp hk);have hv:a.eval u = .agg #[]:=by
  have:=h.eval u;rw[hu] at this;generalize a.eval u=v at this;cases this with
  | agg _ vs hl _ =>
   have:vs=[]:=eq_nil_of_length_eq_zero xR;subst this;rfl
 have U:=MapKept.run_checkKey (P:=P) (w:=w) (kt:=kt) (d:=.int .i64) (k:=.int .i64 k) I (by simp[MapKept.IsKey]);have hf:=(QX (ks:=ks) (k:=k)).resolve_right fun q=>hn q.1;have Z:=MapKept.run_findKey (P:=P) (w:=w) I hf.2;have E:Obj.map ((Array.mapIdx (fun i k=>(⟨k,.agg #[],i⟩:MapEntry)) (ks.map (Value.int .i64)).toArray).push ⟨.int .i64 k,.agg #[],(ks.map (Value.int .i64)).toArray.size⟩) ((ks.map (Value.int .i64)).toArray.size+1)=ob zb (((ks++[k]).map (Value.int .i64)).toArray):=by
  have e:((ks++[k]).map (Value.int .i64)).toArray=(ks.map (Value.int .i64)).toArray.push (.int .i64 k):=(by simp)
  rw[e,Us,BK,Array.mapIdx_push,Array.size_push]
 have O:(execOp a.eval o).run P w = .ok .skip {w with heap:=w.heap.setIfInBounds b (ob zb (((ks++[k]).map (Value.int .i64)).toArray))}:=by
  unfold execOp;simp only[ho,h.flat hy,h.flat hz,hv,Instr.mapUpdate,Sem.run_bind,run_underlying hm,MapKept.run_getObj_map h1,U,Z,Result.andThen_ok,MapKept.run_setObj_map _ h1,E,Sem.run_pure]
 obtain⟨s1,s2,s3⟩:=h.ahC (B':=kX b (ks++[k])) (lX:=((ks++[k]).map (Value.int .i64)).toArray) hk rfl (by simp[kX]) (by simp[kX,vl]) (fun j hj=>by
  have jr:j<(ks++[k]).length:=(by simpa[kX,vl] using hj)
  refine⟨.int .i64 (ks++[k])[j],by rw[getElem?_toArray,getElem?_map,getElem?_eq_getElem jr];rfl,?_⟩;simp only[kX,vl,getElem_map];exact .v _)
 unfold Oper.wp;rw[O,Oper.upon_skip,hd];exact hK _ _ _ rfl s1 s2 s3
theorem OD.aeq{t:TypeId}{tt:Nat}(hw:bY ops x o true)(ho:o.op = .makeMap t none)(hd:o.dst=some tt)(K:∀b,OD P C ops l ⟨x.n,(tt,.v (.map (some b)))::x.env,kX b []::x.S⟩ Q):OD P C ops (o::l) x Q :=
 OD.fV hw (ZJ ho hd) fun y ⟨b,hy⟩=>hy ▸ K b
theorem OD.addKey {I O:TypeId} {z u:Operand} (hw:bY ops x o true) (ho:o.op = .mapUpdate I y z u) (hd:o.dst=none) (hy:aE x y = .v (.map (some b))) (hz:aE x z = .v (.int .i64 k)) (U:aE x u = .agg []) (hk:x.S[i]?=some (kX b ks)) (hn:k∉ks)
  (hm:P.underlying I=some (.map kt O)) (E:P.underlying kt=some (.int .i64)) (K:OD P C ops l ⟨x.n,x.env,x.S.set i (kX b (ks++[k]))⟩ Q):OD P C ops (o::l) x Q :=
 OD.fV hw (Z6 ho hd hy hz U hk hn hm E) fun y hy=>hy ▸ K

end Go.Proofs.YtdgichenhdikgaaGreatDoor.V
namespace Go.Proofs.YtdgichenhdikgaaGreatDoor.V
open List
open Go.RowKit
variable {P:Program} {C:dy} {G:List (Nat×List Value)} {Q:Exit→St→Prop} {x:St} {ops:Array Oper} {l:List Oper} {o:Oper} {S1 T:List Nat} {fuel i:Nat} {ld:Array Bool}
variable {ts:Array TypeId} {S S2 S3:List ah} {post:D→List ah→Prop} {cs':List D} {fo:Operand} {cX:Array Operand}
theorem Z7 {E kt I:TypeId} {i b:Nat} {ks:List Int} {y:Operand} (ho:o.op = .call {callee:=.builtin .len,args:=#[y],argTypes:=ts}) (ht:ts = #[E]) (hy:aE x y = .v (.map (some b))) (hk:x.S[i]?=some (kX b ks))
  (hm:P.underlying E=some (.map kt I)):bQ P G x o (.fp i) (.v (.int .i64 (ks.length:Nat))):=fun C a w _ h=>by
 subst ht;have h1:=Kq (h.fp hk);refine⟨_,.v _,fun w' hw=>?_⟩;have O:w'.heap[b]?=_:=(hw _ hk).trans h1;have hg:=MapKept.run_getObj_map (P:=P) O;have U:=run_underlying hm w';unfold execOp;simp[ho,resolve,invoke,builtin,Builtin.len_,h.flat hy,U,hg,goInt,Result.andThen]
def CX:List D→List D→Prop
 | [],[]=>True
 | a::l,b::l'=>(a=b∨∃sz,a = .v (.slice none 0 0)∧b = .list sz [] 0)∧CX l l'
 | _,_=>False
theorem CX.CS{w:World}{L:Nat→Prop}:∀{a b:List D} {vs:List Value},CX a b→cx w L a vs→cx w L b vs
 | [],[],_,_,h=>h
 | a::l,b::l',[],_,h=>by simp[cx] at h
 | a::l,b::l',v::vs,⟨k,t⟩,h=>by
  obtain⟨h0,h1⟩:=h.tail;have h2:=CX.CS t h1;refine⟨by have:=h2.1;simp[this],fun i q1 q2=>?_⟩;cases i with
  | zero =>
   rcases k with rfl|⟨sz,rfl,rfl⟩
   ·exact h0
   show cg w L (.list sz [] 0) v;rw[h0.kV];exact .my sz none 0
  | succ i=>exact h2.2 i (by simpa using q1) (by simpa using q2)
theorem VC.eo{f:FuncId}{args args':List D}(h:VC P G f args S post)(k:CX args' args):VC P G f args' S post:=fun X w vs hp=>h X w vs ⟨hp.ex,hp.eL,hp.own,k.CS hp.args⟩
theorem OD.aga{A:ah}{R:List ah}(hS:x.S=A::R)(E:gw [] A.cs cs')(k:OD P C ops l ⟨x.n,x.env,{A with cs:=cs'}::R⟩ Q):OD P C ops l x Q :=
 OD.cover (Sd:=[]) (by rw[hS,append_nil]) E k

theorem gw.append{S:List ah}:∀{a b c d:List D},gw S a b→gw S c d→gw S (a++c) (b++d)
 | [],[],_,_,_,h=>h
 | _::_,_::_,_,_,h,k=>⟨h.1,gw.append h.2 k⟩
 | [],_::_,_,_,h,_=>h.elim
 | _::_,[],_,_,h,_=>h.elim
theorem gw.same{S:List ah}:∀{a:List D},gw S a a
 | []=>trivial
 | _::_=>⟨eM,gw.same⟩
theorem Pz{sz n cap b e size:Nat}{cs:List D}(E:(⟨b,e,size,cs⟩:ah)∈S)(Z:gw S cs cs')(hl:cs'.length=n*sz)(h1:n≤cap)(h2:cap≤maxLen)(hne:isMap e=false:=by rfl):View S (.v (.slice (some ⟨b,0,none⟩) n cap)) (.list sz cs' n):=fun X Y w v I O ho h=>by
 rw[h.kV];obtain⟨v1,v2⟩:=Z.spec;obtain⟨r0,cur,r1,r2,r3,U⟩:=ho.at_ _ E;rw[kp hne] at r1;refine .list sz cs' n b 0 cap (fun i=>cur.getD i undef) hl h1 h2 r0 (fun hy=>O _ (I _ hy) (mem_map.2 ⟨_,E,rfl⟩)) (fun i hi=>?_) (fun i hi=>?_)
 ·obtain⟨u,hu,_⟩:=U i GS;rw[Nat.zero_add,ow r1 hu];simp[hu]
 obtain⟨u,hu,hq⟩:=U i GS;simp only[Array.getD_eq_getD_getElem?,hu,Option.getD_some];exact v2 i w4 hi X Y w u I O ho hq
theorem AX{Sq:List ah}{e sz n cap:Nat}{cs:List D}{ad:Option Addr}(h:bp e sz cs n ad cap Sq)(E:gw S cs cs')(hl:cs'.length=n*sz)(hs:∀B∈Sq,B∈S)(hne:isMap e=false:=by rfl):View S (.v (.slice ad n cap)) (.list sz cs' n):=by
 rcases h with ⟨rfl,rfl,rfl,rfl,rfl⟩|⟨b,rfl,h1,h2,rfl⟩
 ·have:cs'=[]:=(by cases cs' with|nil=>rfl|cons _ _=>exact E.elim)
  subst this;exact yL
 exact Pz (hne:=hne) (hs _ mem_cons_self) E hl h1 h2
theorem QD{A S1 E:List ah}:(A++(S1++(S2++(S3++E)))).Perm (S3++(A++(S1++(S2++E)))):=jE fun f=>by simp only[map_append,sum_append];omega
theorem acn{A S1 E:List ah}:(S3++(A++(S1++(S2++E)))).Perm (A++(S1++(S2++(S3++E)))):=QD.symm
variable {α:Type} {V:α→List D→List ah→Prop}
theorem It {f t:Nat} {args:List D} (ho:o.op = .call {callee:=.value fo,args:=cX,argTypes:=ts}) (hd:o.dst=some t)
  (hf:fo = .func f) (fg:∀args w,(callFunc f args).run P w = .ok (.enter f args) w) (hc:VC P G f args [] post) (hr:∀r S',post r S'→kS r=true∧∀B∈S',∀d∈B.cs,kS d=true) (ha:Looks x cX.toList args) :
  fN P G x o [] (fun y=>∃r S',post r S'∧y=⟨x.n,(t,r)::x.env,S'++x.S⟩):=fun C a w K Q hG h hK=>by
 subst hf;have U:(execOp a.eval o).run P w = .ok (.enter f (cX.toList.map a.eval).toArray) w:=by
  unfold execOp;have e:cX.map a.eval=(cX.toList.map a.eval).toArray:=by
   rw[←Array.toList_map,Array.toArray_toList]
  simp only[ho,resolve,Act.eval,Deferred.ofValue,Sem.run_bind,Sem.run_pure,Result.andThen_ok,invoke,e];simp[fg]
 have Z:Hf G (fun _=>False) w [] args (cX.toList.map a.eval):=by
  refine⟨fun b hx=>hx.elim,fun g hg=>?_,⟨fun B O=>by simp at O,by simp[au]⟩,(Looks.CS h ha).mono fun b _ _=>⟨rfl,fun hl=>by rcases hl with hl|hl;exact hl;simp[au] at hl⟩⟩;rw[←hG] at hg;exact⟨⟨Nat.lt_of_lt_of_le (h.eL g hg).1.1 h.fr.size,by simp[au],id⟩,fun i v hi=>h.aT hg hi⟩
 unfold Oper.wp;rw[U,Oper.upon_enter,hd];refine(hc _ w _ Z).mono fun e w' ⟨v,r,S',h1,h2,h3,h4,h5⟩=>?_;subst h1;obtain⟨uJ,oS⟩:=hr r S' h2;have hb:∀b,b<w.heap.size→w'.heap[b]?=w.heap[b]?:=fun b hb=>(h5.block b hb (by simp[au])).1;have hn:∀b,b<w.heap.size→b∉au S':=fun b hb=>(h5.block b hb (by simp[au])).2;have I:∀b,b<w.heap.size→¬live C.X x.S b→¬live C.X (S'++x.S) b:=fun b E h0 hl=>by
  rcases hl with hl|hl
  ·exact h0 (.inl hl)
  rw[au,map_append,mem_append] at hl;rcases hl with hl|hl
  ·exact hn b E hl
  exact h0 (.inr hl)
 have base:bG C ⟨x.n,x.env,S'++x.S⟩ a w':=by
  refine⟨h.defers,h.size,fun t ht=>(h.env t ht).mono fun b E h0=>⟨hb b E,I b E h0⟩,⟨fun B O=>?_,?_⟩,?_,h.ex,h.eL⟩
  ·rcases mem_append.1 O with O|O
   ·obtain⟨r0,cur,r1,r2,r3,r4⟩:=h3.at_ B O;refine⟨r0,cur,r1,r2,r3,fun i hi=>?_⟩;obtain⟨u,hu,hq⟩:=r4 i hi;exact⟨u,hu,hq.flat (oS B O _ (getElem_mem hi))⟩
   obtain⟨r0,cur,r1,r2,r3,r4⟩:=h.own.at_ B O;refine⟨q8 r0 (hb _ r0),cur,(hb _ r0).trans r1,r2,r3,fun i hi=>?_⟩;obtain⟨u,hu,hq⟩:=r4 i hi;exact⟨u,hu,hq.mono fun b E h0=>⟨hb b E,I b E h0⟩⟩
  ·rw[au,map_append];refine nodup_append.2 ⟨h3.apart,h.own.apart,fun b iZ c aZ e=>?_⟩;subst e;obtain⟨B,O,rfl⟩:=mem_map.1 aZ;exact hn _ (h.own.at_ B O).1 iZ
  refine⟨h5.os.trans h.fr.os,h5.tape.trans h.fr.tape,h5.output.trans h.fr.output,Nat.le_trans h.fr.size h5.size,fun b E h0=>⟨(hb b (Nat.lt_of_lt_of_le E h.fr.size)).trans (h.fr.block b E h0).1,fun hm=>?_⟩⟩;rw[au,map_append,mem_append] at hm;rcases hm with hm|hm
  ·exact hn b (Nat.lt_of_lt_of_le E h.fr.size) hm
  exact(h.fr.block b E h0).2 hm
 refine hK _ _ _ ⟨r,S',h2,rfl⟩ (base.put (h4.flat uJ)) ⟨h5.size,fun b E _=>hb b E⟩ ⟨h5.os,h5.tape,h5.output,h5.size,fun b E h0=>⟨hb b E,fun hm=>?_⟩⟩;rw[au,map_append,mem_append] at hm;rcases hm with hm|hm
 ·exact hn b E hm
 exact h0 hm
theorem OD.KX {f t:Nat} {args:List D} (hw:bY ops x o true) (ho:o.op = .call {callee:=.value fo,args:=cX,argTypes:=ts}) (hd:o.dst=some t)
  (hf:fo = .func f) (fg:∀args w,(callFunc f args).run P w = .ok (.enter f args) w) (hc:VC P C.G f args [] post) (hr:∀r S',post r S'→kS r=true∧∀B∈S',∀d∈B.cs,kS d=true) (ha:Looks x cX.toList args)
  (K:∀r S',post r S'→OD P C ops l ⟨x.n,(t,r)::x.env,S'++x.S⟩ Q):OD P C ops (o::l) x Q:=OD.fV hw (It ho hd hf fg hc hr ha) fun y ⟨r,S',hp,hy⟩=>hy ▸ K r S' hp

end Go.Proofs.YtdgichenhdikgaaGreatDoor.V

namespace Go.Proofs.YtdgichenhdikgaaGreatDoor.V
open List
open Go.RowKit
variable {a:Act} {t:Nat}
mutual
def iH:D→Bool
 | .v _=>true
 | .list _ cs _=>fH cs
 | .fx cs _=>fH cs
 | .agg cs=>fH cs
 | .di cs=>fH cs
 | .ew _ cs=>fH cs
 | .kg _ _=>false
 | .bS=>true
def fH:List D→Bool
 | []=>true
 | d::r=>iH d&&fH r
end

theorem wz:∀{cs:List D},fH cs=true→∀i (h:i<cs.length),iH cs[i]=true
 | [],_,_,h=>by cases h
 | d::r,hn,0,_=>by rw[fH,Bool.and_eq_true] at hn;exact hn.1
 | d::r,hn,i+1,h=>by rw[fH,Bool.and_eq_true] at hn;exact wz hn.2 i nf
theorem QY:∀{a b:List D},fH a=true→fH b=true→fH (a++b)=true
 | [],_,_,h=>h
 | d::r,b,ha,hb=>by
  rw[fH,Bool.and_eq_true] at ha;rw[cons_append,fH,Bool.and_eq_true];exact⟨ha.1,QY ha.2 hb⟩
theorem u5{α:Type}{g:α→List D}(hg:∀a,fH (g a)=true):∀(ls:List α),fH (ls.flatMap g)=true
 | []=>rfl
 | a::ls=>by rw[flatMap_cons];exact QY (hg a) (u5 hg ls)
theorem acF{l:List (Nat×D)}(h:(l.all fun p=>iH p.2)=true)(t:Nat):iH (look t l)=true:=by
 induction l with
 | nil=>rfl
 | cons p l ih =>
  obtain⟨i,d⟩:=p;rw[all_cons,Bool.and_eq_true] at h;rw[fS];split
  ·exact h.1
  exact ih h.2

theorem cg.zx {w w':World} {L O:Nat→Prop} {Z:Nat→Prop} {d:D} {v:Value} (h:cg w L d v) (hn:iH d=true) (H:∀b,b<w.heap.size→¬L b→¬Z b→w'.heap[b]?=w.heap[b]?∧¬O b)
  (U:∀b o,Z b→w.cell? ⟨b,o,none⟩=none) (hs:w.heap.size≤w'.heap.size) (I:∀b,b<w.heap.size→¬L b→Z b→¬O b):cg w' O d v:=by
 induction h with
 | v x=>exact .v x
 | my sz ad cap=>exact .my sz ad cap
 | list sz cs len b o cap f hl h1 h2 hb hL hc hr ih =>
  rw[iH] at hn;by_cases hz:Z b
  ·have:¬0<cs.length:=fun h0=>by have:=hc 0 h0;rw[U _ _ hz] at this;cases this
   exact .list sz cs len b o cap f hl h1 h2 w4 (I b hb hL hz) (fun i hi=>by omega) (fun i hi=>by omega)
  have E:=H b hb hL hz;exact .list sz cs len b o cap f hl h1 h2 (q8 hb E.1) E.2 (fun i hi=>(World.cell?_of_block (w:=w) (a:=⟨b,o+i,none⟩) E.1).trans (hc i hi)) (fun i hi=>ih i hi (wz hn i hi))
 | fx cs off b o f hb hL hc hr ih =>
  rw[iH] at hn;by_cases hz:Z b
  ·have:¬0<cs.length:=fun h0=>by have:=hc 0 h0;rw[U _ _ hz] at this;cases this
   exact .fx cs off b o f w4 (I b hb hL hz) (fun i hi=>by omega) (fun i hi=>by omega)
  have E:=H b hb hL hz;exact .fx cs off b o f (q8 hb E.1) E.2 (fun i hi=>(World.cell?_of_block (w:=w) (a:=⟨b,o+i,none⟩) E.1).trans (hc i hi)) (fun i hi=>ih i hi (wz hn i hi))
 | agg cs vs hl hr ih=>rw[iH] at hn;exact .agg cs vs hl fun i h h'=>ih i h h' (wz hn i h)
 | di cs vs hl hr ih=>rw[iH] at hn;exact .di cs vs hl fun i h h'=>ih i h h' (wz hn i h)
 | ew fn cs vs hl hr ih=>rw[iH] at hn;exact .ew fn cs vs hl fun i h h'=>ih i h h' (wz hn i h)
 | kg l os h=>rw[iH] at hn;cases hn
 | bS x=>exact .bS x

theorem Own.zx {w w':World} {L:Nat→Prop} {Z:Nat→Prop} {S:List ah} (h:Own w L S) (hS:∀B∈S,L B.b) (hn:∀B∈S,fH B.cs=true) (H:∀b,b<w.heap.size→¬Z b→w'.heap[b]?=w.heap[b]?)
  (O:∀b o,Z b→w.cell? ⟨b,o,none⟩=none) (hs:w.heap.size≤w'.heap.size) (E:∀B∈S,¬Z B.b):Own w' L S :=
 ⟨fun B I=>by
  obtain⟨r0,cur,r1,r2,U,r4⟩:=h.at_ B I;refine⟨by omega,cur,(H _ r0 (E B I)).trans r1,r2,U,fun i hi=>?_⟩;obtain⟨u,hu,hq⟩:=r4 i hi;exact⟨u,hu,hq.zx (wz (hn B I) i hi) (fun b hb hl hz=>⟨H b hb hz,hl⟩) O hs (fun b _ hl _=>hl)⟩,h.apart⟩

theorem EJ{w:World}{b:Nat}{o:Obj}(h:w.heap[b]?=some o)(ho:o.isCells=false)(i:Nat):w.cell? ⟨b,i,none⟩=none:=by
 cases hc:w.cell? ⟨b,i,none⟩ with
 | none=>rfl
 | some v =>
  obtain⟨o',h1,h2⟩:=cells_of_cell hc;have h1:w.heap[b]?=some o':=h1;rw[h] at h1;cases h1;rw[ho] at h2;cases h2

structure XV (l:Nat) (w:World) (S:List Nat) (w':World) (S':List Nat):Prop where
 os:w'.os=w.os
 tape:w'.tape=w.tape
 output:w'.output=w.output
 size:w.heap.size≤w'.heap.size
 block:∀b,b<w.heap.size→b∉S→(b≠l→w'.heap[b]?=w.heap[b]?)∧b∉S'

structure ya (α:Type) where
 l:Nat
 os:List (Nat×Obj)
 od:List (Nat×Obj)
 enc:α→List D
 J:List α→List ah→Prop
 Jx:List α→List ah→Prop
 N:Nat

def rq(W:World)(L:Nat→Prop)(os:List (Nat×Obj)):Prop:=∀z∈os,z.1<W.heap.size∧¬L z.1∧W.heap[z.1]?=some z.2

def Nh{α:Type}(P:Program)(X0:Nat→Prop)(w0:World)(S0:List Nat)(Y:ya α):Prop :=
 ∀(pre:List α) (y:α) (Sc:List ah) (X:Nat→Prop) (W:World) (vs:List Value),
  Y.J pre Sc→pre.length<Y.N→(∀b,X b→b<W.heap.size∧b∉au Sc)→(∀b,X0 b→X b)→(∀b,X b→X0 b∨w0.heap.size≤b∨b∈S0) →
  Own W (live X Sc) Sc→cx W (live X Sc) (Y.enc y) vs→Fr w0 S0 W (au Sc)→rq W (live X Sc) Y.os →
  ∃fn tmps assign body,(Instr.yield Y.l vs.toArray).run P W = .ok (.round Y.l fn tmps assign body) W ∧
   RoundIn Fence.wide 0 P Y.l fn tmps assign body W (fun e W'=>∃b nk,e = .returned (.bool b)∧Own W' (live X nk) nk∧XV Y.l W (au Sc) W' (au nk) ∧
    (b=true→Y.J (pre++[y]) nk∧W'.heap[Y.l]?=W.heap[Y.l]?)∧(b=false→Y.Jx (pre++[y]) nk∧rq W' (live X nk) Y.od))

def mM(G:List (Nat×List Value))(w0:World)(S0:List Nat)(X0:Nat→Prop):Prop:=∀g∈G,(g.1<w0.heap.size∧g.1∉S0∧¬X0 g.1)∧∀i v,g.2[i]?=some v→ox w0 g.1 i v

def VI{α:Type}(P:Program)(G:List (Nat×List Value))(gf:FuncId)(Cc:List D)(enc:α→List D)(Sa Sp:List α→Prop)(N:Nat):Prop :=
 ∀(Y:ya α) (X0:Nat→Prop) (w0 W:World) (S0:List Nat) (Sc:List ah) (cv:List Value),Y.enc=enc→Y.N=N →
  (∀b,X0 b→b<w0.heap.size∧b∉S0)→mM G w0 S0 X0→w0.heap.size≤Y.l→Own W (live X0 Sc) Sc→cx W (live X0 Sc) Cc cv→Fr w0 S0 W (au Sc) →
  rq W (live X0 Sc) Y.os→Y.J [] Sc→Nh P X0 w0 S0 Y →
  Calls P gf (#[.func (.yield Y.l) #[] #[]]++cv.toArray) W fun e W'=>∃v nk,e = .returned v∧Own W' (live X0 nk) nk∧Fr w0 S0 W' (au nk) ∧
   ((∃xs,Sa xs∧Y.J xs nk∧rq W' (live X0 nk) Y.os)∨(∃pre,Sp pre∧Y.Jx pre nk∧rq W' (live X0 nk) Y.od))

variable {P:Program} {C:dy} {G:List (Nat×List Value)} {Q:Exit→St→Prop} {x:St} {ops:Array Oper} {o:Oper} {fuel i:Nat} {ld:Array Bool} {α:Type}

def U7(P:Program)(fn:Func)(Y:ya α)(Sa Sp:List α→Prop)(e:Exit)(y:St):Prop :=
 (e = .normal∨e = .ret)∧(∃r,tq P fn y r)∧0<y.n∧∃nk,nk.Sublist y.S∧((∃xs,Sa xs∧Y.J xs nk∧look 0 y.env = .kg Y.l Y.os)∨(∃pre,Sp pre∧Y.Jx pre nk∧look 0 y.env = .kg Y.l Y.od))
theorem NP.ahD{fn:Func}{Y:ya α}{E I:List α→Prop}:NP (U7 P fn Y E I):=fun O y t hq=>by rcases hq.1 with h|h<;>cases h

theorem VI.body {gf:FuncId} {fn:Func} {c:Code} {n:Nat} {I:List D} {enc:α→List D} {Sa Sp:List α→Prop} {N:Nat} (hf:P.funcs[gf]?=some fn) (hb:fn.body=some c) (hn:fn.ntmps=n) (hl:1+I.length≤n)
  (h:∀(Y:ya α) X0 w0 S0 Sc,Y.enc=enc→Y.N=N→w0.heap.size≤Y.l→Nh P X0 w0 S0 Y→Y.J [] Sc→CD P ⟨X0,w0,S0,G,[],fun _ _=>False⟩ c ⟨n,sD 0 (.kg Y.l Y.os::I),Sc⟩ (U7 P fn Y Sa Sp)):VI P G gf I enc Sa Sp N:=fun Y X0 w0 W S0 Sc cv he hN hex Z aa kI Gj js ajf hJ hY=>by
 let C:dy:=⟨X0,w0,S0,G,[],fun _ _=>False⟩
 have eY:cx W (live X0 Sc) (.kg Y.l Y.os::I) (.func (.yield Y.l) #[] #[]::cv):=.cons (.kg _ _ ajf) Gj;have ajg:#[Value.func (.yield Y.l) #[] #[]]++cv.toArray=(Value.func (.yield Y.l) #[] #[]::cv).toArray:=(by simp)
 rw[ajg];generalize XW:Value.func (.yield Y.l) #[] #[]::cv=vs at eY;generalize jq:D.kg Y.l Y.os::I=args at eY;have qh:args.length≤n:=(by rw[←jq];simp;omega)
 have rR:vs.length=args.length:=eY.1;have O:bG C ⟨n,sD 0 args,Sc⟩ {tmps:=vs.toArray++Array.replicate (fn.ntmps-vs.toArray.size) undef,defers:=[]} W:=by
  refine⟨rfl,by simp[hn];omega,fun t ht=>?_,kI,js,hex,Z⟩;simp only[D8,Nat.zero_le,if_true,Nat.sub_zero];by_cases aa:t<args.length
  ·have e1:args.getD t .bS=args[t]:=(by simp[getD,aa])
   have e2:(vs.toArray++Array.replicate (fn.ntmps-vs.toArray.size) undef).getD t undef=vs[t]'w4:=by
    rw[Array.getD_eq_getD_getElem?,Array.getElem?_append_left ij];simp[show t<vs.length by omega]
   rw[e1,e2];exact eY.2 t aa w4
  have e1:args.getD t .bS = .bS:=(by simp[getD,getElem?_eq_none (show args.length≤t by omega)])
  rw[e1];exact .bS _
 rw[←jq] at O;refine calls_of_wp hf hb (wp_mono (h Y X0 w0 S0 Sc he hN aa hY hJ _ _ O) fun e a w' hq=>?_);rcases hq with ⟨y,h1,h2,⟨r,h3⟩,h0,E,h4,h5⟩|⟨_,hq⟩
 case inr=>exact hq.elim
 obtain⟨v,q1,q2⟩:=h3 C a w' h1;have U:(au E).Sublist (au y.S):=Sublist.map _ h4;have raw:∀os,look 0 y.env = .kg Y.l os→rq w' (live X0 E) os:=fun os ho=>by
  have hv:=h1.env 0 h0;rw[ho] at hv;generalize a.tmps.getD 0 undef=u at hv;cases hv with
  | kg _ _ hz=>exact fun z yc=>by obtain⟨z1,z2,z3⟩:=hz z yc;exact⟨z1,fun hl=>z2 (hl.imp id fun q=>U.subset q),z3⟩
 have key:a.defers=[]∧∃v,(results fn a.tmps).run P w' = .ok v w'∧∃v' E,Ending.returned v = .returned v'∧Own w' (live X0 E) E∧Fr w0 S0 w' (au E)∧((∃xs,Sa xs∧Y.J xs E∧rq w' (live X0 E) Y.os)∨(∃pre,Sp pre∧Y.Jx pre E∧rq w' (live X0 E) Y.od)) :=
  ⟨h1.defers,v,q2,v,E,rfl,h1.own.sub h4,⟨h1.fr.os,h1.fr.tape,h1.fr.output,h1.fr.size,fun b jG hn=>⟨(h1.fr.block b jG hn).1,fun q=>(h1.fr.block b jG hn).2 (U.subset q)⟩⟩,
   h5.imp (fun ⟨xs,s1,s2,s3⟩=>⟨xs,s1,s2,raw _ s3⟩) (fun ⟨pre,s1,s2,s3⟩=>⟨pre,s1,s2,raw _ s3⟩)⟩
 rcases h2 with rfl|rfl<;>exact key

def AI(P:Program)(C:dy)(ops:Array Oper)(fuel:Nat)(ld:Array Bool)(x:St)(Q:Exit→St→Prop):Prop :=
 ∀a w,bG C x a w→wpAnyIn Fence.wide 0 P .any ops (LQ C Q) fuel ld a w
def gF(P:Program)(C:dy)(ops:Array Oper)(fuel:Nat)(ld:Array Bool)(x:St)(Q:Exit→St→Prop)(i:Nat):Prop :=
 ∀a w,bG C x a w→wpOpIn Fence.wide 0 P ops (LQ C Q) i (wpAnyIn Fence.wide 0 P .any ops (LQ C Q) fuel (ld.setIfInBounds i true)) a w

theorem bG.drew{w:World}(hs:bG C x a w):bG C x a {w with drawn:=w.drawn+1} :=
 ⟨hs.defers,hs.size,fun t ht=>(hs.env t ht).mono fun b _ hn=>⟨rfl,hn⟩,⟨fun B E=>by
  obtain⟨r0,cur,r1,r2,I,O⟩:=hs.own.at_ B E;exact⟨r0,cur,r1,r2,I,fun i hi=>by
   obtain⟨u,hu,hq⟩:=O i hi;exact⟨u,hu,hq.mono fun b _ hn=>⟨rfl,hn⟩⟩⟩,hs.own.apart⟩,⟨hs.fr.os,hs.fr.tape,hs.fr.output,hs.fr.size,hs.fr.block⟩,hs.ex,hs.eL⟩

theorem CD.aer{id:Nat}{l:List Oper}(hm:P.follows .mixedOrders=true)(h:AI P C l.toArray l.toArray.size (Array.replicate l.toArray.size false) x Q):CD P C (.region id l.toArray true) x Q:=fun a w hs =>
 wpIn_wide.1 (wpIn_region_any (F:=Fence.wide) (n:=0) hm (h a _ hs.drew))

theorem AI.all{E:List Nat}(hr:Region.ready .any ops ld=E)(hne:E≠[])(h:∀i∈E,gF P C ops fuel ld x Q i):AI P C ops (fuel+1) ld x Q:=fun a w hs=>wpAnyIn_all hr hne fun i hi=>h i hi a w hs
theorem AI.one(hr:Region.ready .any ops ld=[i])(h:gF P C ops fuel ld x Q i):AI P C ops (fuel+1) ld x Q:=AI.all hr bn fun j hj=>by rw[mem_singleton] at hj;subst hj;exact h
theorem AI.two{j:Nat}(hr:Region.ready .any ops ld=[i,j])(h:gF P C ops fuel ld x Q i)(h':gF P C ops fuel ld x Q j):AI P C ops (fuel+1) ld x Q:=AI.all hr bn fun k hk=>by
 rcases mem_cons.1 hk with rfl|hk
 ·exact h
 rw[mem_singleton] at hk;subst hk;exact h'
theorem AI.done(hr:Region.ready .any ops ld=[])(h:Q .normal x):AI P C ops fuel ld x Q:=fun a w hs=>wpAnyIn_done hr (.inl ⟨x,hs,h⟩) _
theorem AI.wk{y:St}(h:Wk x y)(k:AI P C ops fuel ld y Q):AI P C ops fuel ld x Q:=fun a w hs=>k a w (h C a w hs)
theorem AI.perm{S':List ah}(hp:x.S.Perm S')(k:AI P C ops fuel ld ⟨x.n,x.env,S'⟩ Q):AI P C ops fuel ld x Q:=AI.wk (Wk.perm hp) k
theorem AI.take {d:D} (hi:ops[i]?=some o) (hs:Region.noSelect ops=true) (hf:Region.free .any ops ld i=true) (hr:(Region.ready .any ops ld).contains i=true) (hp:NP Q)
  (hw:bY ops x o true) (om:∀w a,o.about P w a=none) (hd:o.dst=some t) (h:bQ P C.G x o .none d) (K:AI P C ops fuel (ld.setIfInBounds i true) (x.put t d) Q):AI P C ops (fuel+1) ld x Q:=fun a w E=>by
 obtain⟨v,h1,h2⟩:=h C a w rfl E;refine wpAnyIn_take (oi:=o) (v:=v) rfl hi hs hf hr (zq hp _ v) ⟨.inl ⟨hw C a w E,fun w'=>h2 w' trivial⟩,fun w'=>om w' _⟩ ?_;rw[hd];exact K _ _ (E.put h1)

theorem SZ{K:Act→World→Prop}{Q:Exit→Act→World→Prop}{w:World}(ro:Option Nat)(hd:∀c,o.op≠.defer c)(h:o.wp P a w K Q):o.wpIn {Fence.wide with round:=ro} 0 P a w K Q:=by
 refine⟨fun _ _=>trivial,?_⟩;rw[Oper.semAt_eq _ _ _ hd];unfold Oper.wp at h;generalize (execOp a.eval o).run P w=r at h;have fB:∀m E,Steps P m E→StepsIn (Machine.fenced P {Fence.wide with round:=ro}) P m E:=fun m E hs=>stepsIn_wide.2 hs;match r,h with
 | .ok (.value v) w',h=>exact h
 | .ok .skip w',h=>exact h
 | .ok (.defer d) w',h=>exact h
 | .ok (.enter f args) w',h=>exact⟨fun hc=>(by cases hc),((callsIn_wide (n:=0)).2 h:CallsIn Fence.wide 0 P f args w' _)⟩
 | .ok (.row row args) w',h=>exact⟨fun hc=>(by cases hc),fun c cs _=>let ⟨v,w'',r,s⟩:=h c cs;⟨v,w'',r,fB _ _ s⟩⟩
 | .halt (.panic v) w',h=>exact h

theorem gF.fV{W:List Nat}{post:St→Prop}(hi:ops[i]?=some o)(hw:bY ops x o true)(yd:∀c,o.op≠.defer c)(h:fN P C.G x o W post)(k:∀y,post y→AI P C ops fuel (ld.setIfInBounds i true) y Q):gF P C ops fuel ld x Q i:=fun a w E=>by
 unfold wpOpIn;simp only[hi,hw C a w E,if_true];exact SZ none yd (h C a w _ _ rfl E fun y a' w' hp I _ _=>k y hp a' w' I)
theorem gF.still{kd:Rd}{d:D}(hi:ops[i]?=some o)(hw:bY ops x o true)(yd:∀c,o.op≠.defer c)(hd:o.dst=some t)(h:bQ P C.G x o kd d)(k:AI P C ops fuel (ld.setIfInBounds i true) (x.put t d) Q):gF P C ops fuel ld x Q i :=
 gF.fV hi hw yd (h.fV hd) fun y hy=>by subst hy;exact k
theorem gF.gZ {f:Nat} {fo:Operand} {cX:Array Operand} {ts:Array TypeId} {args:List D} {r:D} (hi:ops[i]?=some o) (hw:bY ops x o true) (ho:o.op = .call {callee:=.value fo,args:=cX,argTypes:=ts}) (hd:o.dst=some t)
  (hf:fo = .func f) (fg:∀args w,(callFunc f args).run P w = .ok (.enter f args) w) (hc:VP P C.G f args r) (ha:mS x cX.toList args)
  (K:AI P C ops fuel (ld.setIfInBounds i true) (x.put t r) Q):gF P C ops fuel ld x Q i :=
 gF.fV hi hw (fun c hc=>by rw[ho] at hc;cases hc) (A9 ho hd hf fg ha.eq (eV _) hc) fun y ⟨E,S',⟨h1,h2⟩,hy⟩=>by subst h1 h2 hy;exact K

theorem bG.back{w w':World}(h:bG C x a w){Sf R S':List ah}(hp:x.S.Perm (Sf++R))(h3:Own w' (live (fun b=>C.X b∨b∈au R) S') S')(h5:Fr w (au Sf) w' (au S')):bG C ⟨x.n,x.env,S'++R⟩ a w':=by
 have hb:(au x.S).Perm (au Sf++au R):=(by have:=hp.map ah.b;simpa[au] using this)
 have hL:=yG (X:=C.X) hp;have hnd:(au Sf++au R).Nodup:=hb.nodup_iff.1 h.own.apart;obtain⟨n1,n2,n3⟩:=nodup_append.1 hnd;have O:∀b,b∈au R→b<w.heap.size:=fun b x6=>by
  obtain⟨B,I,rfl⟩:=mem_map.1 x6;exact(h.own.at_ B (hp.symm.subset (mem_append_right _ I))).1
 have U:live C.X (S'++R)=live (fun b=>C.X b∨b∈au R) S':=yG (Perm.refl _);have H:∀b,b<w.heap.size→¬live C.X x.S b→w'.heap[b]?=w.heap[b]?∧¬live C.X (S'++R) b:=fun b aa hn=>by
  rw[hL] at hn;have E:b∉au Sf:=fun hm=>hn (.inr hm);obtain⟨q1,q2⟩:=h5.block b aa E;refine⟨q1,fun hl=>?_⟩;rw[U] at hl;rcases hl with hl|hl
  ·exact hn (.inl hl)
  exact q2 hl
 refine⟨h.defers,h.size,fun t ht=>(h.env t ht).mono H,⟨fun B I=>?_,?_⟩,?_,h.ex,h.eL⟩
 ·rcases mem_append.1 I with I|I
  ·have:=h3.at_ B I;rw[←U] at this;exact this
  obtain⟨r0,cur,r1,r2,r3,r4⟩:=h.own.at_ B (hp.symm.subset (mem_append_right _ I));have CQ:B.b∈au R:=mem_map.2 ⟨B,I,rfl⟩;have E:B.b∉au Sf:=fun hm=>n3 B.b hm B.b CQ rfl;have hh:=(h5.block B.b r0 E).1;refine⟨q8 r0 hh,cur,hh.trans r1,r2,r3,fun i hi=>?_⟩;obtain⟨u,hu,hq⟩:=r4 i hi;exact⟨u,hu,hq.mono H⟩
 ·show(au (S'++R)).Nodup;have:au (S'++R)=au S'++au R:=(by simp[au])
  rw[this];refine nodup_append.2 ⟨h3.apart,n2,fun b iZ c aZ he=>?_⟩;subst he;have E:b∉au Sf:=fun hm=>n3 b hm b aZ rfl;exact(h5.block b (O b aZ) E).2 iZ
 refine⟨h5.os.trans h.fr.os,h5.tape.trans h.fr.tape,h5.output.trans h.fr.output,Nat.le_trans h.fr.size h5.size,fun b Z hn=>?_⟩;obtain⟨q1,q2⟩:=h.fr.block b Z hn;have gk:b∉au Sf:=fun hm=>q2 (hb.symm.subset (mem_append_left _ hm));have iR:b∉au R:=fun hm=>q2 (hb.symm.subset (mem_append_right _ hm));obtain⟨q3,q4⟩:=h5.block b (Nat.lt_of_lt_of_le Z h.fr.size) gk;refine⟨q3.trans q1,fun hm=>?_⟩;have:au (S'++R)=au S'++au R:=(by simp[au])
 rw[this] at hm;rcases mem_append.1 hm with hm|hm
 ·exact q4 hm
 exact iR hm

theorem gF.yield {t:Nat} {fo:Operand} {cX:Array Operand} {ts:Array TypeId} {Y:ya α} {pre:List α} {y:α} {Sc R:List ah} (hi:ops[i]?=some o) (hw:bY ops x o true) (ho:o.op = .call {callee:=.value fo,args:=cX,argTypes:=ts}) (hd:o.dst=some t)
  (hf:aE x fo = .kg Y.l Y.os) (hn:0<x.n) (hz:look 0 x.env = .kg Y.l Y.os) (ha:cX.toList.map (aE x)=Y.enc y) (hp:x.S.Perm (Sc++R)) (hJ:Y.J pre Sc) (hN:pre.length<Y.N) (hY:Nh P C.X C.w0 C.S0 Y) (hl:C.w0.heap.size≤Y.l) (h0t:t≠0)
  (kT:∀E,Y.J (pre++[y]) E→AI P C ops fuel (ld.setIfInBounds i true) ⟨x.n,(t,.v (.bool true))::x.env,E++R⟩ Q)
  (kF:∀E,Y.Jx (pre++[y]) E→AI P C ops fuel (ld.setIfInBounds i true) ⟨x.n,[(t,.v (.bool false)),(0,.kg Y.l Y.od)],E⟩ Q):gF P C ops fuel ld x Q i:=fun a w h=>by
 have hb:(au x.S).Perm (au Sc++au R):=(by have:=hp.map ah.b;simpa[au] using this)
 have hL:=yG (X:=C.X) hp;have hnd:(au Sc++au R).Nodup:=hb.nodup_iff.1 h.own.apart;obtain⟨n1,n2,n3⟩:=nodup_append.1 hnd;have ajh:∀b,b∈au R→b<w.heap.size:=fun b x6=>by
  obtain⟨B,hB,rfl⟩:=mem_map.1 x6;exact(h.own.at_ B (hp.symm.subset (mem_append_right _ hB))).1
 have yv:∀(o':Operand) os,aE x o' = .kg Y.l os→a.eval o' = .func (.yield Y.l) #[] #[]∧rq w (live C.X x.S) os:=fun o' os he=>by
  have Z:=h.eval o';rw[he] at Z;generalize a.eval o'=u at Z;cases Z with
  | kg _ _ hz=>exact⟨rfl,hz⟩
 obtain⟨e1,O⟩:=yv fo _ hf;have U:cx w (live C.X x.S) (Y.enc y) (cX.toList.map a.eval):=ha ▸ cx.Lv h cX.toList;have e0:a.tmps.getD 0 undef = .func (.yield Y.l) #[] #[]:=by
  have Z:=h.env 0 hn;rw[hz] at Z;generalize a.tmps.getD 0 undef=u at Z;cases Z with
  | kg _ _ _=>rfl
 rw[hL] at O U;obtain⟨fn,tmps,assign,body,hy,hro⟩:=hY pre y Sc (fun b=>C.X b∨b∈au R) w _ hJ hN (fun b hx=>by
   rcases hx with hx|hx
   ·obtain⟨q1,q2⟩:=h.ex b hx;exact⟨Nat.lt_of_lt_of_le q1 h.fr.size,fun hm=>(h.fr.block b q1 q2).2 (hb.symm.subset (mem_append_left _ hm))⟩
   ·exact⟨ajh b hx,fun hm=>n3 b hm b hx rfl⟩) (fun b hx=>.inl hx) (fun b hx=>by
   rcases hx with hx|hx
   ·exact .inl hx
   rcases Nat.lt_or_ge b C.w0.heap.size with aa|M7
   ·by_cases pA:b∈C.S0
    ·exact .inr (.inr pA)
    exact absurd (hb.symm.subset (mem_append_right _ hx)) (h.fr.block b aa pA).2
   exact .inr (.inl M7))
  ⟨fun B hB=>by rw[←hL];exact h.own.at_ B (hp.symm.subset (mem_append_left _ hB)),n1⟩ U
  ⟨h.fr.os,h.fr.tape,h.fr.output,h.fr.size,fun b jG XX=>⟨(h.fr.block b jG XX).1,fun hm=>(h.fr.block b jG XX).2 (hb.symm.subset (mem_append_left _ hm))⟩⟩ O
 have nW:(execOp a.eval o).run P w = .ok (.round Y.l fn tmps assign body) w:=by
  unfold execOp;have e:cX.map a.eval=(cX.toList.map a.eval).toArray:=by
   rw[←Array.toList_map,Array.toArray_toList]
  simp only[ho,resolve,e1,Deferred.ofValue,Sem.run_bind,Sem.run_pure,Result.andThen_ok,invoke,e,Array.empty_append];exact hy
 unfold wpOpIn;simp only[hi,hw C a w h,if_true];refine⟨fun _ _=>trivial,?_⟩;show o.uponIn Fence.wide 0 P a _ _ ((o.semAt none a.eval).run P w);rw[Oper.semAt_none,nW,Oper.uponIn_round];refine⟨fun hc=>(by cases hc),hro.mono fun e w' ⟨b,E,he,h3,h5,hT,hF⟩=>?_⟩;subst he;show wpAnyIn Fence.wide 0 P .any ops (LQ C Q) fuel (ld.setIfInBounds i true) (a.put o.dst (.bool b)) w';rw[hd];have nh:∀q,q<C.w0.heap.size→q≠Y.l:=fun q hq e=>by omega
 cases b with
 | true =>
  obtain⟨j1,j2⟩:=hT rfl;have aji:Fr w (au Sc) w' (au E):=⟨h5.os,h5.tape,h5.output,h5.size,fun q hq Ni=>by
   obtain⟨p1,p2⟩:=h5.block q hq Ni;refine⟨?_,p2⟩;by_cases e:q=Y.l
   ·rw[e];exact j2
   exact p1 e⟩
  exact kT E j1 _ _ ((h.back hp h3 aji).put (.v _))
 | false =>
  obtain⟨j1,j2⟩:=hF rfl;have I:∀q,live C.X E q→live (fun b=>C.X b∨b∈au R) E q:=fun q hq=>hq.imp .inl id;have ahE:Own w' (live C.X E) E:=⟨fun B hB=>by
   obtain⟨r0,cur,r1,r2,r3,r4⟩:=h3.at_ B hB;exact⟨r0,cur,r1,r2,r3,fun q hq=>by
    obtain⟨u,hu,hh⟩:=r4 q hq;exact⟨u,hu,hh.mono fun b _ hn=>⟨rfl,fun hl=>hn (I b hl)⟩⟩⟩,h3.apart⟩
  refine kF E j1 _ _ ⟨h.defers,by simp[Act.put,h.size],fun q hq=>?_,ahE,⟨h5.os.trans h.fr.os,h5.tape.trans h.fr.tape,h5.output.trans h.fr.output,Nat.le_trans h.fr.size h5.size,fun q hq Ni=>?_⟩,h.ex,h.eL⟩
  ·have iu:=h.size;simp only[fS,Act.put];by_cases e:t=q
   ·subst e;rw[if_pos rfl];have:(a.tmps.setIfInBounds t (.bool false)).getD t undef = .bool false:=by
     have hq:t<x.n:=hq;simp[Array.getElem?_setIfInBounds,iu,hq]
    rw[this];exact .v _
   rw[if_neg e];by_cases e2:0=q
   ·subst e2;rw[if_pos rfl];have:(a.tmps.setIfInBounds t (.bool false)).getD 0 undef=a.tmps.getD 0 undef:=by
     simp[Array.getElem?_setIfInBounds,h0t]
    rw[this,e0];exact .kg _ _ fun z yc=>by obtain⟨z1,z2,z3⟩:=j2 z yc;exact⟨z1,fun hl=>z2 (I _ hl),z3⟩
   rw[if_neg e2];exact .bS _
  obtain⟨q1,q2⟩:=h.fr.block q hq Ni;have gk:q∉au Sc:=fun hm=>q2 (hb.symm.subset (mem_append_left _ hm));obtain⟨p1,p2⟩:=h5.block q (Nat.lt_of_lt_of_le hq h.fr.size) gk;exact⟨(p1 (nh q hq)).trans q1,p2⟩

end Go.Proofs.YtdgichenhdikgaaGreatDoor.V

namespace Go.Proofs.YtdgichenhdikgaaGreatDoor.V
open List
open Go.RowKit
variable {P:Program} {C:dy} {G:List (Nat×List Value)} {Q:Exit→St→Prop} {x:St} {ops:Array Oper} {l:List Oper} {o:Oper}
theorem cx.flatten{w:World}{L:Nat→Prop}{us vs:List Value}(h:cx w L (us.map .v) vs):vs=us:=by
 refine ext_getElem (by simpa using h.1) fun i h1 h2=>?_;have:=h.2 i (by simpa using h2) h1;simp only[getElem_map] at this;exact this.kV
theorem VP.S4{f:FuncId}{vs:List Value}{v:Value}(h:∀w:World,(∀g∈G,∀(i:Nat) (u:Value),g.2[i]?=some u→ox w g.1 i u)→Calls P f vs.toArray w fun e w'=>e = .returned v∧Below w.heap.size w w'):VP P G f (vs.map .v) (.v v):=fun X w us hp=>by
 have E:us=vs:=hp.args.flatten;subst E;refine(h w fun g hg i u hi=>(hp.eL g hg).2 i u hi).mono fun e w' ⟨h1,h2⟩=>?_;refine⟨v,.v v,[],h1,⟨rfl,rfl⟩,⟨fun B I=>by simp at I,by simp[au]⟩,.v _,⟨h2.os,h2.tape,h2.output,h2.size,fun b hb _=>⟨h2.block b hb,by simp[au]⟩⟩⟩
theorem aes{t:TypeId}{k:IntKind}{a b r:Int}(h:k.wrap ((BitVec.ofInt k.bits a ^^^ BitVec.ofInt k.bits b).toNat:Int)=r):kQ P .xor t (.int k a) (.int k b) (.int k r):=fun y z w=>by subst h;simp only[eqGuard,binOp,Op.intBits,Sem.run_bind];simp
theorem y6{t:TypeId}{k k':IntKind}{a b r:Int}(hb:0≤b)(h:a.fdiv (2 ^ min b.toNat k.bits)=r):kQ P .shr t (.int k a) (.int k' b) (.int k r):=fun y z w=>by
 have:¬b<0:=(by omega)
 simp[eqGuard,binOp,Op.shift,this,h]
theorem aet(a:Nat)(h:a<2 ^ 64):a ^^^ 2 ^ 63=if a<2 ^ 63 then a+2 ^ 63 else a-2 ^ 63:=by
 have key:∀b,b<2 ^ 63→b ^^^ 2 ^ 63=2 ^ 63+b:=fun b hb=>by
  refine Nat.eq_of_testBit_eq fun i=>?_;rw[Nat.testBit_xor,Nat.testBit_two_pow];rcases Nat.lt_trichotomy i 63 with hi|hi|hi
  ·rw[Nat.testBit_two_pow_add_gt hi];have:¬63=i:=(by omega)
   simp[this]
  ·subst hi;rw[Nat.testBit_two_pow_add_eq];simp
  have h1:b.testBit i=false:=Nat.testBit_lt_two_pow (Nat.lt_of_lt_of_le hb (Nat.pow_le_pow_right w8 w4));have h2:(2 ^ 63+b).testBit i=false:=Nat.testBit_lt_two_pow (Nat.lt_of_lt_of_le (by omega:2 ^ 63+b<2 ^ 64) (Nat.pow_le_pow_right w8 w4));have:¬63=i:=(by omega)
  rw[h1,h2];simp[this]
 split
 ·rename_i h1;rw[key a h1];omega
 rename_i h1;have h2:=key (a-2 ^ 63) w4;have h3:a=2 ^ 63+(a-2 ^ 63):=(by omega)
 rw[←h2] at h3;generalize a-2 ^ 63=b at h3 ⊢;rw[h3,Nat.xor_assoc,Nat.xor_self,Nat.xor_zero]
theorem QZ(n:Int):IntKind.u64.wrap n=n % 18446744073709551616:=rfl
theorem aeu{n:Int}(h1:-9223372036854775808≤n)(h2:n≤9223372036854775807):IntKind.u64.wrap ((BitVec.ofInt IntKind.u64.bits (IntKind.u64.wrap n) ^^^ BitVec.ofInt IntKind.u64.bits 9223372036854775808).toNat:Int)=n+9223372036854775808:=by
 rw[QZ,QZ,BitVec.toNat_xor];have e1:(BitVec.ofInt IntKind.u64.bits (n % 18446744073709551616)).toNat=(n % 18446744073709551616).toNat:=by
  rw[BitVec.toNat_ofInt];show((n % 18446744073709551616) % ((18446744073709551616:Nat):Int)).toNat=_;omega
 have e2:(BitVec.ofInt IntKind.u64.bits 9223372036854775808).toNat=2 ^ 63:=(by decide)
 rw[e1,e2,aet _ w4];split<;>omega

end Go.Proofs.YtdgichenhdikgaaGreatDoor.V
