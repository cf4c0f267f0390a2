/-
  What the proof of IndexRows leans on, part 2 of 8: walks of the program's functions at the level of values, and plain facts of what they compute.
-/
import Derived.Test.YtbcmjoaggammcaaGreatDoorPIndexRows1
set_option linter.unusedVariables false
set_option linter.unusedSimpArgs false
set_option maxRecDepth 100000
set_option maxHeartbeats 4000000
namespace Go.Proofs.YtbcmjoaggammcaaGreatDoor.V
open List
open Go.RowKit
variable {P:Program} {C:dF} {G:List (Nat×List Value)} {Q:Exit→St→Prop} {x y:St} {ops:Array Oper} {l:List Oper} {o:Oper}
variable {t e:TypeId} {ps:List (Nat×Operand)} {pl:List (Nat×D)} {ds:List D} {sz i:Nat} {fo:Operand} {cW:Array Operand} {ts:Array TypeId} {α:Type} {lo hi:Option Operand}
theorem aat{z:Operand}{d:D}(ho:o.op = .move z)(hd:aF x z=d):bV P G x o .none d:=hd ▸ X9 ho
theorem aau{z:Operand}{d:D}(ho:o.op = .assign z)(hd:aF x z=d):bV P G x o .none d:=hd ▸ Xw ho
theorem XM{c y z:Operand}{t:Bool}{d:D}(ho:o.op = .pick c y z)(hc:aF x c = .v (.bool t))(h:t=true)(hd:aF x y=d):bV P G x o .none d:=by
 have:=Ny (P:=P) (G:=G) ho hc;rw[if_pos h,hd] at this;exact this
theorem XN{c y z:Operand}{t:Bool}{d:D}(ho:o.op = .pick c y z)(hc:aF x c = .v (.bool t))(h:t=false)(hd:aF x z=d):bV P G x o .none d:=by
 have:=Ny (P:=P) (G:=G) ho hc;rw[if_neg (by rw[h];simp),hd] at this;exact this
def mu(x:St):List Operand→List D→Prop
 | [],[]=>True
 | o::r,d::r'=>aF x o=d∧mu x r r'
 | _,_=>False
theorem mu.eq:∀{os:List Operand} {ds:List D},mu x os ds→os.map (aF x)=ds
 | [],[],_=>rfl
 | o::r,d::r',h=>by rw[map_cons,h.1,mu.eq h.2]
 | [],_::_,h=>h.elim
 | _::_,[],h=>h.elim
def jr(x:St):List (Nat×Operand)→List (Nat×D)→Prop
 | [],[]=>True
 | p::r,q::r'=>p.1=q.1∧aF x p.2=q.2∧jr x r r'
 | _,_=>False
theorem jr.eq:∀{ps:List (Nat×Operand)} {ds:List (Nat×D)},jr x ps ds→lf x ps.toArray=ds
 | [],[],_=>rfl
 | p::r,(i,d)::r',h=>by
  have:=jr.eq h.2.2;simp only[lf,map_cons] at this ⊢;rw[this,h.1,h.2.1]
 | [],_::_,h=>h.elim
 | _::_,[],h=>h.elim
def kr:D→Bool
 | .bU=>false
 | _=>true
theorem Ag{ps:List (Nat×D)}(h:ps.all (fun p=>kr p.2)=true):∀p∈ps,p.2≠.bU:=fun p hp he=>by
 have:=all_eq_true.1 h p hp;rw[he] at this;cases this
theorem nf {E:Array Field} {places:Array (Nat×Nat)} {z:Value} (ho:o.op = .build t ps.toArray) (hz:∀w,(zeroValue t).run P w = .ok z w)
  (I:∀w,(underlying t).run P w = .ok (.struct E) w) (hp:∀w,(E.mapM fun f=>do pure (f.offset,←sizeOf f.type):Sem (Array (Nat×Nat))).run P w = .ok places w)
  (gI:jr x ps pl) (hj:pl.all (fun p=>kr p.2)=true) (hd:lQ (places[·]?) (z.cells.toList.map .v) pl=some ds):bV P G x o .none (.agg ds):=by
 refine XL ho hz I hp ?_ ?_
 ·rw[gI.eq];exact Ag hj
 rw[gI.eq];exact hd
theorem Dx {n:Nat} {z:Value} (ho:o.op = .build t ps.toArray) (hz:∀w,(zeroValue t).run P w = .ok z w)
  (E:∀w,(underlying t).run P w = .ok (.array n e) w) (hs:∀w,(sizeOf e).run P w = .ok sz w)
  (gI:jr x ps pl) (hj:pl.all (fun p=>kr p.2)=true) (hd:lQ (fun i=>some (i*sz,sz)) (z.cells.toList.map .v) pl=some ds):bV P G x o .none (.agg ds):=by
 refine XA ho hz E hs ?_ ?_
 ·rw[gI.eq];exact Ag hj
 rw[gI.eq];exact hd
def cc(k:Nat):List D→List (Nat×D)
 | []=>[]
 | d::r=>(k,d)::cc (k+1) r
theorem N0:∀(ds pre post:List D),ds.length≤post.length→cZ (pre++post) pre.length ds=(pre++ds)++post.drop ds.length
 | [],pre,post,_=>by simp[cZ]
 | d::ds,pre,[],h=>by simp at h
 | d::ds,pre,p::post,h=>by
  rw[cZ,show(pre++p::post).set pre.length d=(pre++[d])++post by simp,show pre.length+1=(pre++[d]).length by simp,N0 ds (pre++[d]) post oB];simp
theorem QR{sz:Nat}:∀(pd:List D) (k:Nat) (pre post:List D),(pd.all fun d=>Nat.beq (cellsOf d).length sz)=true→pre.length=k*sz→post.length=pd.length*sz→lQ (fun i=>some (i*sz,sz)) (pre++post) (cc k pd)=some (pre++pd.flatMap cellsOf)
 | [],k,pre,post,_,_,h=>by
  have:post=[]:=length_eq_zero_iff.1 oB;simp[cc,lQ,this]
 | d::r,k,pre,post,ha,h1,h2=>by
  rw[all_cons,Bool.and_eq_true] at ha;have hd:(cellsOf d).length=sz:=Nat.eq_of_beq_eq_true ha.1;have hp:post.length=r.length*sz+sz:=(by rw[h2,length_cons,Nat.succ_mul])
  rw[cc,lQ];simp only;rw[if_neg (by simp only[hd,length_append,h1,hp,ne_eq,not_true_eq_false,decide_false,Bool.false_or,decide_eq_true_eq];omega),←h1,N0 _ _ _ w4,QR r (k+1) _ _ ha.2 (by rw[length_append,hd,h1,Nat.succ_mul]) (by rw[length_drop,hd];omega),flatMap_cons];simp
theorem N1{pd zs:List D}(ha:(pd.all fun d=>Nat.beq (cellsOf d).length sz)=true)(hl:Nat.beq zs.length (pd.length*sz)=true)(ji:pd.flatMap cellsOf=ds):lQ (fun i=>some (i*sz,sz)) zs (cc 0 pd)=some ds:=by
 have:=QR pd 0 [] zs ha bu (Nat.eq_of_beq_eq_true hl);rw[nil_append,nil_append,ji] at this;exact this
theorem OD.Kg {tt len:Nat} {z:Value} {nW:List Value} (hw:bZ ops x o true) (ho:o.op = .buildSlice t len ps.toArray) (jt:o.dst=some tt) (hz:∀w,(zeroValue e).run P w = .ok z w)
  (E:∀w,(underlying t).run P w = .ok (.slice e) w) (hs:∀w,(sizeOf e).run P w = .ok sz w) (hl:Nat.ble 1 (len*sz)=true) (iB:Nat.ble (len*sz) (2 ^ 24)=true) (eR:(Array.range (len*sz)).map (fun i=>z.cells[i % z.cells.size]!)=nW.toArray)
  (gI:jr x ps pl) (hj:pl.all (fun p=>kr p.2)=true) (hd:lQ (fun i=>some (i*sz,sz)) (nW.map .v) pl=some ds)
  (k:∀b,OD P C ops l ⟨x.n,(tt,.v (.slice (some ⟨b,0,none⟩) len len))::x.env,⟨b,e,ds.length,ds⟩::x.S⟩ Q) (hne:isMap e=false:=by rfl):OD P C ops (o::l) x Q:=by
 refine OD.fM hw (GL (hne:=hne) (zs:=nW.map .v) (ds:=ds) ho jt hz E hs (Nat.le_of_ble_eq_true hl) (Nat.le_of_ble_eq_true iB) ?_ ?_ ?_ ?_) ?_
 ·rw[eR];congr 1;rw[map_map];exact(map_id nW).symm
 ·intro d hd;obtain⟨u,_,rfl⟩:=mem_map.1 hd;exact⟨u,rfl⟩
 ·rw[gI.eq];exact Ag hj
 ·rw[gI.eq];exact hd
 rintro _ ⟨b,rfl⟩;exact k b
theorem OD.alloc {e:TypeId} {z:Value} {t:Nat} {ds:List D} (hw:bZ ops x o true) (ho:o.op = .alloc e) (hd:o.dst=some t) (hz:∀w,(zeroValue e).run P w = .ok z w) (ji:z.cells.toList.map .v=ds)
  (k:∀b,OD P C ops l ⟨x.n,(t,.v (.pointer (some ⟨b,0,none⟩)))::x.env,⟨b,e,ds.length,ds⟩::x.S⟩ Q) (hne:isMap e=false:=by rfl):OD P C ops (o::l) x Q :=
 OD.fM hw (Ak (hne:=hne) ho hd hz ji) fun y ⟨b,hy⟩=>hy ▸ k b
theorem OD.box {e:TypeId} {z:Operand} {t:Nat} {d:D} {ds:List D} (hw:bZ ops x o true) (ho:o.op = .box e z) (hd:o.dst=some t) (hy:aF x z=d) (hj:kr d=true) (ji:cellsOf d=ds)
  (k:∀b,OD P C ops l ⟨x.n,(t,.v (.pointer (some ⟨b,0,none⟩)))::x.env,⟨b,e,ds.length,ds⟩::x.S⟩ Q) (hne:isMap e=false:=by rfl):OD P C ops (o::l) x Q :=
 OD.fM hw (ab3 (hne:=hne) ho hd hy (fun h=>by rw[h] at hj;cases hj) ji) fun y ⟨b,hy⟩=>hy ▸ k b
theorem OD.store {t:TypeId} {k b o' n:Nat} {B:ag} {d:D} {cs':List D} {y z:Operand} (hw:bZ ops x o true) (ho:o.op = .store t y z) (jt:o.dst=none) (hy:aF x y = .v (.pointer (some ⟨b,o',none⟩)))
  (hk:x.S[k]?=some B) (hb:B.b=b) (hz:aF x z=d) (hj:kr d=true) (h1:(cellsOf d).all one=true) (hn:∀w,(sizeOf t).run P w = .ok n w) (fU:(cellsOf d).length=n) (hl:Nat.ble (o'+n) B.cs.length=true) (dj:cZ B.cs o' (cellsOf d)=cs')
  (K:OD P C ops l ⟨x.n,x.env,x.S.set k {B with cs:=cs'}⟩ Q) (hne:isMap B.e=false:=by rfl):OD P C ops (o::l) x Q :=
 OD.fM hw (DJ (hne:=hne) ho jt hy hk hb hz (fun h=>by rw[h] at hj;cases hj) h1 hn fU (Nat.le_of_ble_eq_true hl) dj) fun y hy=>hy ▸ K
theorem OD.call {f t:Nat} {fo:Operand} {cW:Array Operand} {ts:Array TypeId} {args:List D} {Sf R:List ag} {post:D→List ag→Prop} (hw:bZ ops x o true) (ho:o.op = .call {callee:=.value fo,args:=cW,argTypes:=ts}) (hd:o.dst=some t)
  (hf:fo = .func f) (fg:∀args w,(callFunc f args).run P w = .ok (.enter f args) w) (hc:VC P C.G f args Sf post) (ha:mu x cW.toList args) (hp:x.S.Perm (Sf++R))
  (K:∀r S',post r S'→OD P C ops l ⟨x.n,(t,r)::x.env,S'++R⟩ Q):OD P C ops (o::l) x Q :=
 OD.fM hw (Au ho hd hf fg ha.eq hp hc) fun y ⟨r,S',h,hy⟩=>hy ▸ K r S' h
theorem OD.gE {f t:Nat} {args:List D} {r:D} (hw:bZ ops x o true) (ho:o.op = .call {callee:=.value fo,args:=cW,argTypes:=ts}) (hd:o.dst=some t)
  (hf:fo = .func f) (fg:∀args w,(callFunc f args).run P w = .ok (.enter f args) w) (hc:VP P C.G f args r) (ha:mu x cW.toList args)
  (K:OD P C ops l (x.put t r) Q):OD P C ops (o::l) x Q :=
 OD.call hw ho hd hf fg hc ha (eK _) fun E S' ⟨h1,h2⟩=>by subst h1 h2;exact K
theorem OD.j4 {f t:Nat} {args E all:List D} {Sf R:List ag} {post:D→List ag→Prop} (hw:bZ ops x o true) (ho:o.op = .call {callee:=.value fo,args:=cW,argTypes:=ts}) (hd:o.dst=some t)
  (hf:aF x fo = .ek (.func f) E) (fg:∀args w,(callFunc f args).run P w = .ok (.enter f args) w) (hc:VC P C.G f all Sf post) (eY:args++E=all) (ha:mu x cW.toList args) (hp:x.S.Perm (Sf++R))
  (K:∀r S',post r S'→OD P C ops l ⟨x.n,(t,r)::x.env,S'++R⟩ Q):OD P C ops (o::l) x Q :=
 OD.fM hw (Y1 ho hd hf fg (by rw[ha.eq,eY]) hp hc) fun y ⟨r,S',h,hy⟩=>hy ▸ K r S' h
theorem OD.append {s y:Operand} {t e tt sz bytes n m b cap k:Nat} {z:Value} {B:ag} {cs:List D} (hw:bZ ops x o true) (ho:o.op = .call {callee:=.builtin .append,args:=#[s,y],argTypes:=#[t,t]}) (hd:o.dst=some tt)
  (ht:P.underlying t=some (.slice e)) (hi:(P.info? e).map (fun i=>(i.zero,i.size,i.bytes))=some (some z,sz,bytes)) (eR:z.cells.size=sz) (gP:0<sz)
  (hs:aF x s = .v (.slice (some ⟨b,0,none⟩) n cap)) (hk:x.S[k]?=some B) (hb:B.b=b) (he:B.e=e) (O:B.size=cap*sz) (hl:B.cs.length=n*sz) (hn:n≤cap) (U:cap≤maxLen)
  (hy:aF x y = .list sz cs m) (gZ:∀d∈cs,one d=true) (hm:0<m) (gd:n+m≤maxLen) (I:(n+m)*bytes≤140737488355328)
  (K:∀Z E,n+m≤E→E≤maxLen→OD P C ops l ⟨x.n,(tt,.v (.slice (some ⟨Z,0,none⟩) (n+m) E))::x.env,⟨Z,e,E*sz,B.cs++cs⟩::x.S.eraseIdx k⟩ Q) (hne:isMap B.e=false:=by rfl):OD P C ops (o::l) x Q :=
 OD.fM hw (NB (hne:=hne) ho hd ht hi eR gP hs hk hb he O hl hn U hy gZ hm gd I) fun y ⟨Z,E,h1,h2,hy⟩=>hy ▸ K Z E h1 h2
theorem OD.Hf {s y:Operand} {t e tt bytes m:Nat} {z:Value} {cs:List D} (hw:bZ ops x o true) (ho:o.op = .call {callee:=.builtin .append,args:=#[s,y],argTypes:=#[t,t]}) (hd:o.dst=some tt)
  (ht:P.underlying t=some (.slice e)) (hi:(P.info? e).map (fun i=>(i.zero,i.size,i.bytes))=some (some z,sz,bytes)) (eR:z.cells.size=sz) (U:0<sz)
  (hs:aF x s = .v (.slice none 0 0)) (hy:aF x y = .list sz cs m) (gZ:∀d∈cs,one d=true) (hm:0<m) (Z:m≤maxLen) (I:m*bytes≤140737488355328)
  (K:∀O E,m≤E→E≤maxLen→OD P C ops l ⟨x.n,(tt,.v (.slice (some ⟨O,0,none⟩) m E))::x.env,⟨O,e,E*sz,cs⟩::x.S⟩ Q) (hne:isMap e=false:=by rfl):OD P C ops (o::l) x Q :=
 OD.fM hw (Nb (hne:=hne) ho hd ht hi eR U hs hy gZ hm Z I) fun y ⟨O,E,h1,h2,hy⟩=>hy ▸ K O E h1 h2
theorem OD.split{t:Nat}{b:Bool}(hb:look t x.env = .v (.bool b))(h1:b=true→OD P C ops l x Q)(h2:b=false→OD P C ops l x Q):OD P C ops l x Q:=by
 cases h:b
 ·exact h2 h
 exact h1 h
theorem Xh{z:Operand}{a':Addr}(ho:o.op = .nilCheck z)(hz:aF x z = .v (.pointer (some a'))):bV P G x o .none (.v (.pointer (some a'))):=fun C a w _ h =>
 ⟨_,.v _,fun w' _=>by unfold execOp;simp only[ho,h.flat hz];rfl⟩
theorem Xg{z:Operand}{cs:List D}{off:Nat}(ho:o.op = .nilCheck z)(hz:aF x z = .fp cs off):bV P G x o .none (.fp cs off):=fun C a w _ h=>by
 have hr:=h.eval z;rw[hz] at hr;generalize hg:a.eval z=u at hr;cases hr with
 | fp _ _ b E g hb hL hc I=>exact⟨_,.fp cs off b E g hb hL hc I,fun w' _=>by unfold execOp;simp only[ho,hg];rfl⟩
theorem oP{fn:Fn}{E:Array Operand}(ho:o.op = .makeFunc fn #[] E)(hd:mu x E.toList ds):bV P G x o .none (.ek fn ds):=Yc ho hd.eq
/-! ### Lists of structs -/
theorem cr{α:Type}{g:α→List D}{sz:Nat}(hg:∀a,(g a).length=sz):∀(ls:List α),(ls.flatMap g).length=ls.length*sz
 | []=>by simp
 | a::r=>by rw[flatMap_cons,length_append,hg,cr hg r,length_cons,Nat.add_mul];omega
theorem uu{α:Type}{g:α→List D}{sz:Nat}(hg:∀a,(g a).length=sz):∀(ls:List α) (i:Nat),(ls.flatMap g).drop (i*sz)=(ls.drop i).flatMap g
 | [],i=>by simp
 | a::r,0=>by simp
 | a::r,i+1=>by
  rw[flatMap_cons,drop_succ_cons,←uu hg r i,Nat.add_mul,Nat.one_mul,Nat.add_comm,←drop_drop];congr 1;rw[←hg a,drop_left]
theorem sY{α:Type}{g:α→List D}{sz:Nat}(hg:∀a,(g a).length=sz):∀(ls:List α) (i:Nat),(ls.flatMap g).take (i*sz)=(ls.take i).flatMap g
 | [],i=>by simp
 | a::r,0=>by simp
 | a::r,i+1=>by
  rw[flatMap_cons,take_succ_cons,flatMap_cons,←sY hg r i,Nat.add_mul,Nat.one_mul,Nat.add_comm,←hg a,take_length_add_append]
theorem EW{g:α→List D}(hg:∀a,(g a).length=sz){ls:List α}(hi:i<ls.length):((ls.flatMap g).drop (i*sz)).take sz=g ls[i]:=by
 rw[uu hg,drop_eq_getElem_cons hi,flatMap_cons,←hg ls[i],take_left]
theorem yg{g:α→List D}(hg:∀a,(g a).length=sz){ls:List α}{j:Nat}{d:D}(hi:i<ls.length)(hd:(g ls[i])[j]?=some d):(ls.flatMap g)[i*sz+j]?=some d:=by
 have h:=EW hg hi;have hj:=(List.getElem?_eq_some_iff.1 hd).1;rw[hg] at hj;rw[←hd,←h,getElem?_take_of_lt hj,getElem?_drop]
theorem HJ{g:α→List D}(hg:∀a,(g a).length=sz){ls:List α}{d:D}(hi:i<ls.length)(hd:(g ls[i])[0]?=some d):(ls.flatMap g)[i*sz]?=some d:=yg hg hi hd
theorem s7{g:α→List D}(hg:∀a,(g a).all one=true)(ls:List α):∀d∈ls.flatMap g,one d=true:=fun d hd=>by
 obtain⟨a,_,h⟩:=mem_flatMap.1 hd;exact all_eq_true.1 (hg a) d h
theorem XO {g:α→List D} {h':Nat} (hg:∀a,(g a).length=sz) {ls:List α} {y:Operand} (ho:o.op = .slice t y lo hi none) (hy:aF x y = .list sz (ls.flatMap g) ls.length) (eO:mi x lo 0 0) (er:mi x hi h' ls.length)
  (E:∀w,(underlying t).run P w = .ok (.slice e) w) (hs:∀w,(sizeOf e).run P w = .ok sz w) (h2:h'≤ls.length):bV P G x o .none (.list sz ((ls.take h').flatMap g) (ls.take h').length):=by
 have:=GP (P:=P) (G:=G) ho hy eO er E hs (Nat.zero_le _) h2;rw[Nat.zero_mul,drop_zero,Nat.sub_zero,sY hg] at this;rw[length_take,Nat.min_eq_left h2];exact this
theorem XP {g:α→List D} {l':Nat} (hg:∀a,(g a).length=sz) {ls:List α} {y:Operand} (ho:o.op = .slice t y lo hi none) (hy:aF x y = .list sz (ls.flatMap g) ls.length) (eO:mi x lo l' 0) (er:mi x hi ls.length ls.length)
  (E:∀w,(underlying t).run P w = .ok (.slice e) w) (hs:∀w,(sizeOf e).run P w = .ok sz w) (h2:l'≤ls.length):bV P G x o .none (.list sz ((ls.drop l').flatMap g) (ls.drop l').length):=by
 have:=GP (P:=P) (G:=G) ho hy eO er E hs h2 (Nat.le_refl _);rw[uu hg,take_of_length_le (by rw[cr hg,length_drop];exact Nat.le_refl _)] at this;rw[length_drop];exact this

end Go.Proofs.YtbcmjoaggammcaaGreatDoor.V
namespace Go.Proofs.YtbcmjoaggammcaaGreatDoor.V
open List
open Go.RowKit
variable {P:Program} {C:dF} {Q:Exit→St→Prop} {x:St} {ops:Array Oper} {o:Oper} {S1 T:List Nat} {fuel i:Nat} {ld:Array Bool}
variable {k t:Nat} {B:ag}
theorem AE{S:List ag}(hk:S[k]?=some B):B.b∈ap S:=mem_map.2 ⟨B,mem_of_getElem? hk,rfl⟩
theorem pN{S:List ag}{k0:Nat}(hk:x.S[k]?=some B)(h0:S[k0]?=some B):Safe x (ap S) (.fm k):=⟨B,hk,AE h0⟩
theorem AD.split{b:Bool}(hb:look t x.env = .v (.bool b))(h1:b=true→AD P C ops S1 T fuel ld x Q)(h2:b=false→AD P C ops S1 T fuel ld x Q):AD P C ops S1 T fuel ld x Q:=by
 cases h:b
 ·exact h2 h
 exact h1 h
theorem dh.split{b:Bool}(hb:look t x.env = .v (.bool b))(h1:b=true→dh P C ops S1 T fuel ld x Q)(h2:b=false→dh P C ops S1 T fuel ld x Q):dh P C ops S1 T fuel ld x Q:=by
 cases h:b
 ·exact h2 h
 exact h1 h
theorem bf.Fq{post:St→Prop}(hi:ops[i]?=some o)(hw:bZ ops x o true)(h:fD P C.G x o [] post)(k:∀y,post y→AD P C ops S1 T fuel (ld.setIfInBounds i true) y Q):bf P C ops S1 T fuel ld x Q i :=
 bf.fM hi hw h (fun _ _ _ _ _ _ hb=>by simp at hb) (fun _ hb=>by simp at hb) k
theorem Fs{C:dF}{a:Act}{w:World}(h:bF C x a w)(hk:x.S[k]?=some B)(hT:∀b∈T,b∈ap (x.S.eraseIdx k)):∀b∈T,b∉[B.b]:=fun b hb hm=>by
 have hp:(ap x.S).Perm (B.b::ap (x.S.eraseIdx k)):=(by have:=(uh hk).map ag.b;simpa[ap] using this)
 have hn:=(nodup_cons.1 (hp.nodup_iff.1 h.own.apart)).1;have:b=B.b:=(by simpa using hm)
 exact hn (this ▸ hT b hb)
theorem bf.alloc {e:TypeId} {z:Value} {t:Nat} {ds:List D} (hi:ops[i]?=some o) (hw:bZ ops x o true) (ho:o.op = .alloc e) (hd:o.dst=some t) (hz:∀w,(zeroValue e).run P w = .ok z w) (ji:z.cells.toList.map .v=ds)
  (k:∀b,AD P C ops S1 T fuel (ld.setIfInBounds i true) ⟨x.n,(t,.v (.pointer (some ⟨b,0,none⟩)))::x.env,⟨b,e,ds.length,ds⟩::x.S⟩ Q) (hne:isMap e=false:=by rfl):bf P C ops S1 T fuel ld x Q i :=
 bf.Fq hi hw (Ak (hne:=hne) ho hd hz ji) fun y ⟨b,hy⟩=>hy ▸ k b
theorem bf.Kg {t e:TypeId} {tt len sz:Nat} {ps:List (Nat×Operand)} {pl:List (Nat×D)} {z:Value} {nW:List Value} {ds:List D} (hi:ops[i]?=some o) (hw:bZ ops x o true) (ho:o.op = .buildSlice t len ps.toArray) (jt:o.dst=some tt) (hz:∀w,(zeroValue e).run P w = .ok z w)
  (E:∀w,(underlying t).run P w = .ok (.slice e) w) (hs:∀w,(sizeOf e).run P w = .ok sz w) (hl:Nat.ble 1 (len*sz)=true) (iB:Nat.ble (len*sz) (2 ^ 24)=true) (eR:(Array.range (len*sz)).map (fun i=>z.cells[i % z.cells.size]!)=nW.toArray)
  (gI:jr x ps pl) (hj:pl.all (fun p=>kr p.2)=true) (hd:lQ (fun i=>some (i*sz,sz)) (nW.map .v) pl=some ds)
  (k:∀b,AD P C ops S1 T fuel (ld.setIfInBounds i true) ⟨x.n,(tt,.v (.slice (some ⟨b,0,none⟩) len len))::x.env,⟨b,e,ds.length,ds⟩::x.S⟩ Q) (hne:isMap e=false:=by rfl):bf P C ops S1 T fuel ld x Q i:=by
 refine bf.Fq hi hw (GL (hne:=hne) (zs:=nW.map .v) (ds:=ds) ho jt hz E hs (Nat.le_of_ble_eq_true hl) (Nat.le_of_ble_eq_true iB) ?_ ?_ ?_ ?_) ?_
 ·rw[eR];congr 1;rw[map_map];exact(map_id nW).symm
 ·intro d hd;obtain⟨u,_,rfl⟩:=mem_map.1 hd;exact⟨u,rfl⟩
 ·rw[gI.eq];exact Ag hj
 ·rw[gI.eq];exact hd
 rintro _ ⟨b,rfl⟩;exact k b
theorem bf.store {t:TypeId} {k b o' n:Nat} {B:ag} {d:D} {cs':List D} {y z:Operand} (hi:ops[i]?=some o) (hw:bZ ops x o true) (ho:o.op = .store t y z) (jt:o.dst=none) (hy:aF x y = .v (.pointer (some ⟨b,o',none⟩)))
  (hk:x.S[k]?=some B) (hb:B.b=b) (hz:aF x z=d) (hj:kr d=true) (h1:(cellsOf d).all one=true) (hn:∀w,(sizeOf t).run P w = .ok n w) (fU:(cellsOf d).length=n) (hl:Nat.ble (o'+n) B.cs.length=true) (dj:cZ B.cs o' (cellsOf d)=cs')
  (hT:∀b∈T,b∈ap (x.S.eraseIdx k))
  (K:AD P C ops S1 T fuel (ld.setIfInBounds i true) ⟨x.n,x.env,x.S.set k {B with cs:=cs'}⟩ Q) (hne:isMap B.e=false:=by rfl):bf P C ops S1 T fuel ld x Q i :=
 bf.fM hi hw (DJ (hne:=hne) ho jt hy hk hb hz (fun h=>by rw[h] at hj;cases hj) h1 hn fU (Nat.le_of_ble_eq_true hl) dj) (fun C a w hs I E=>hb ▸ Fs hs hk hT I E) (fun I E=>by
  have:I=b:=(by simpa using E)
  subst this;rw[←hb];exact AE hk) fun y hy=>hy ▸ K
theorem bf.gE {f:Nat} {fo:Operand} {cW:Array Operand} {ts:Array TypeId} {args:List D} {r:D} (hi:ops[i]?=some o) (hw:bZ ops x o true) (ho:o.op = .call {callee:=.value fo,args:=cW,argTypes:=ts}) (hd:o.dst=some t)
  (hf:fo = .func f) (fg:∀args w,(callFunc f args).run P w = .ok (.enter f args) w) (hc:VP P C.G f args r) (ha:mu x cW.toList args)
  (K:AD P C ops S1 T fuel (ld.setIfInBounds i true) (x.put t r) Q):bf P C ops S1 T fuel ld x Q i :=
 bf.Fq hi hw (Au ho hd hf fg ha.eq (eK _) hc) fun y ⟨E,S',⟨h1,h2⟩,hy⟩=>by subst h1 h2;exact hy ▸ K
theorem bf.call {f t:Nat} {fo:Operand} {cW:Array Operand} {ts:Array TypeId} {args:List D} {Sf R:List ag} {post:D→List ag→Prop} (hi:ops[i]?=some o) (hw:bZ ops x o true) (ho:o.op = .call {callee:=.value fo,args:=cW,argTypes:=ts}) (hd:o.dst=some t)
  (hf:fo = .func f) (fg:∀args w,(callFunc f args).run P w = .ok (.enter f args) w) (hc:VC P C.G f args Sf post) (ha:mu x cW.toList args) (hp:x.S.Perm (Sf++R)) (hT:∀b∈T,b∈ap R)
  (K:∀r S',post r S'→AD P C ops S1 T fuel (ld.setIfInBounds i true) ⟨x.n,(t,r)::x.env,S'++R⟩ Q):bf P C ops S1 T fuel ld x Q i :=
 bf.fM hi hw (Au ho hd hf fg ha.eq hp hc) (fun C a w hs b hb hm=>by
  have h1:(ap x.S).Perm (ap Sf++ap R):=(by have:=hp.map ag.b;simpa[ap] using this)
  have h2:=h1.nodup_iff.1 hs.own.apart;exact(nodup_append.1 h2).2.2 b hm b (hT b hb) rfl) (fun b hb=>by
  have h1:(ap x.S).Perm (ap Sf++ap R):=(by have:=hp.map ag.b;simpa[ap] using this)
  exact h1.symm.subset (mem_append_left _ hb)) fun y ⟨r,S',h,hy⟩=>hy ▸ K r S' h
theorem bf.append {s y:Operand} {t e tt sz bytes n m b cap k:Nat} {z:Value} {B:ag} {cs:List D} (F8:ops[i]?=some o) (hw:bZ ops x o true) (ho:o.op = .call {callee:=.builtin .append,args:=#[s,y],argTypes:=#[t,t]}) (hd:o.dst=some tt)
  (ht:P.underlying t=some (.slice e)) (hi:(P.info? e).map (fun i=>(i.zero,i.size,i.bytes))=some (some z,sz,bytes)) (eR:z.cells.size=sz) (gP:0<sz)
  (hs:aF x s = .v (.slice (some ⟨b,0,none⟩) n cap)) (hk:x.S[k]?=some B) (hb:B.b=b) (he:B.e=e) (U:B.size=cap*sz) (hl:B.cs.length=n*sz) (hn:n≤cap) (pc:cap≤maxLen)
  (hy:aF x y = .list sz cs m) (gZ:∀d∈cs,one d=true) (hm:0<m) (gd:n+m≤maxLen) (I:(n+m)*bytes≤140737488355328) (hT:∀b∈T,b∈ap (x.S.eraseIdx k))
  (K:∀O E,n+m≤E→E≤maxLen→AD P C ops S1 T fuel (ld.setIfInBounds i true) ⟨x.n,(tt,.v (.slice (some ⟨O,0,none⟩) (n+m) E))::x.env,⟨O,e,E*sz,B.cs++cs⟩::x.S.eraseIdx k⟩ Q) (hne:isMap B.e=false:=by rfl):bf P C ops S1 T fuel ld x Q i :=
 bf.fM F8 hw (NB (hne:=hne) ho hd ht hi eR gP hs hk hb he U hl hn pc hy gZ hm gd I) (fun C a w hs O Z=>hb ▸ Fs hs hk hT O Z) (fun O Z=>by
  have:O=b:=(by simpa using Z)
  subst this;rw[←hb];exact AE hk) fun y ⟨O,E,h1,h2,hy⟩=>hy ▸ K O E h1 h2
theorem bf.Hf {s y:Operand} {e tt sz bytes m:Nat} {z:Value} {cs:List D} (U:ops[i]?=some o) (hw:bZ ops x o true) (ho:o.op = .call {callee:=.builtin .append,args:=#[s,y],argTypes:=#[t,t]}) (hd:o.dst=some tt)
  (ht:P.underlying t=some (.slice e)) (hi:(P.info? e).map (fun i=>(i.zero,i.size,i.bytes))=some (some z,sz,bytes)) (eR:z.cells.size=sz) (Z:0<sz)
  (hs:aF x s = .v (.slice none 0 0)) (hy:aF x y = .list sz cs m) (gZ:∀d∈cs,one d=true) (hm:0<m) (gd:m≤maxLen) (I:m*bytes≤140737488355328)
  (K:∀O E,m≤E→E≤maxLen→AD P C ops S1 T fuel (ld.setIfInBounds i true) ⟨x.n,(tt,.v (.slice (some ⟨O,0,none⟩) m E))::x.env,⟨O,e,E*sz,cs⟩::x.S⟩ Q) (hne:isMap e=false:=by rfl):bf P C ops S1 T fuel ld x Q i :=
 bf.Fq U hw (Nb (hne:=hne) ho hd ht hi eR Z hs hy gZ hm gd I) fun y ⟨O,E,h1,h2,hy⟩=>hy ▸ K O E h1 h2

end Go.Proofs.YtbcmjoaggammcaaGreatDoor.V
namespace Go.Proofs.YtbcmjoaggammcaaGreatDoor.V
open List
open Go.RowKit
variable {P:Program} {C:dF} {G:List (Nat×List Value)} {Q:Exit→St→Prop} {x:St} {ops:Array Oper} {l:List Oper} {o:Oper} {S1 T:List Nat} {fuel i:Nat} {ld:Array Bool}
variable {S Sq R:List ag} {sz k n cap b tt:Nat} {B:ag} {t e:TypeId} {y:Operand} {ad:Option Addr} {cs':List D}
def View(S:List ag)(d d':D):Prop:=∀(X Y:Nat→Prop) w v,(∀b,Y b→X b)→(∀b,X b→b∉ap S)→Own w (live X S) S→cl w (live X S) d v→cl w Y d' v
theorem cl.bare{w:World}{X Y:Nat→Prop}{d:D}{v:Value}(h:cl w (live X S) d v)(E:∀b,Y b→X b):cl w Y d v:=h.mono fun b _ hn=>⟨rfl,fun hy=>hn (.inl (E b hy))⟩
theorem eL{d:D}:View S d d:=fun X Y w v E _ _ h=>h.bare E
theorem xX:View S (.v (.slice none 0 0)) (.list sz [] 0):=fun X Y w v _ _ _ h=>by rw[h.kw];exact .nil sz
theorem aav{cs:List D}(hk:S[k]?=some B)(hb:B.b=b)(dj:B.cs=cs)(hl:cs.length=n*sz)(h1:n≤cap)(h2:cap≤maxLen)(hne:isMap B.e=false:=by rfl):View S (.v (.slice (some ⟨b,0,none⟩) n cap)) (.list sz cs n):=fun X Y w v E O ho h=>by
 subst hb dj;rw[h.kw];obtain⟨r0,cur,r1,r2,U,I⟩:=ho.at_ B (mem_of_getElem? hk);rw[jY hne] at r1;refine .list sz B.cs n B.b 0 cap (fun i=>cur.getD i undef) hl h1 h2 r0 (fun hy=>O _ (E _ hy) (mem_map.2 ⟨B,mem_of_getElem? hk,rfl⟩)) (fun i hi=>?_) (fun i hi=>?_)
 ·obtain⟨u,hu,_⟩:=I i hi;rw[Nat.zero_add,nF r1 hu];simp[hu]
 obtain⟨u,hu,hq⟩:=I i hi;simp only[Array.getD_eq_getD_getElem?,hu,Option.getD_some];exact hq.bare E
def gk(S:List ag):List D→List D→Prop
 | [],[]=>True
 | d::r,d'::r'=>View S d d'∧gk S r r'
 | _,_=>False
theorem gk.spec{S:List ag}:∀{ds E:List D},gk S ds E→ds.length=E.length∧∀i (h:i<ds.length) (h':i<E.length),View S ds[i] E[i]
 | [],[],_=>⟨rfl,fun i h=>by simp at h⟩
 | d::r,d'::r',h=>⟨by simp[(gk.spec h.2).1],fun i h1 h2=>by
  cases i with
  | zero=>exact h.1
  | succ i=>exact(gk.spec h.2).2 i _ _⟩
 | [],_::_,h=>h.elim
 | _::_,[],h=>h.elim
theorem um{ds E:List D}(h:gk S ds E):View S (.agg ds) (.agg E):=fun X Y w v O U ho hr=>by
 obtain⟨h1,h2⟩:=h.spec;cases hr with
 | agg _ vs hl I=>exact .agg E vs w4 fun i q1 q2=>h2 i w4 q1 X Y w _ O U ho (I i w4 q2)
def Looks(x:St):List Operand→List D→Prop
 | [],[]=>True
 | o::r,d::r'=>(∃d0,aF x o=d0∧View x.S d0 d)∧Looks x r r'
 | _,_=>False
theorem Looks.Cf{C:dF}{a:Act}{w:World}(h:bF C x a w):∀{os:List Operand} {ds:List D},Looks x os ds→cG w (fun _=>False) ds (os.map a.eval)
 | [],[],_=>⟨rfl,fun i h=>by simp at h⟩
 | o::r,d::r',⟨⟨d0,h1,h2⟩,h3⟩=>cG.cons (h2 _ _ _ _ (fun _ hf=>hf.elim) h.zP h.own (h1 ▸ h.eval o)) (Looks.Cf h h3)
 | [],_::_,h=>h.elim
 | _::_,[],h=>h.elim
theorem D3{ds E:List D}(h:gk S ds E):View S (.dy ds) (.dy E):=fun X Y w v O U ho hr=>by
 obtain⟨h1,h2⟩:=h.spec;cases hr with
 | dy _ vs hl I=>exact .dy E vs w4 fun i q1 q2=>h2 i w4 q1 X Y w _ O U ho (I i w4 q2)
theorem VC.cover{f:FuncId}{args:List D}{post:D→List ag→Prop}{E:D}(h:VC P G f args [] post)(I:∀r S',post r S'→View S' r E):VP P G f args E:=fun X w vs hp =>
 (h X w vs hp).mono fun e w' ⟨v,r,S',h1,h2,h3,h4,h5⟩=>by
  have O:∀b,X b→b∉ap S':=fun b hb=>(h5.block b (hp.ex b hb).1 (hp.ex b hb).2).2;refine⟨v,E,[],h1,⟨rfl,rfl⟩,⟨fun B U=>by simp at U,by simp[ap]⟩,I r S' h2 X _ w' v (fun b hb=>?_) O h3 h4,⟨h5.os,h5.tape,h5.output,h5.size,fun b hb hn=>⟨(h5.block b hb hn).1,by simp[ap]⟩⟩⟩;rcases hb with hb|hb
  ·exact hb
  simp[ap] at hb
def ku:D→Bool
 | .v _=>true
 | .dy cs=>cs.all fun d=>match d with|.v _=>true|.agg es=>es.all (fun e=>match e with|.v _=>true|_=>false)|_=>false
 | .agg cs=>cs.all fun d=>match d with|.v _=>true|_=>false
 | _=>false
theorem cl.flat{w w':World}{L I:Nat→Prop}{d:D}{v:Value}(h:cl w L d v)(hf:ku d=true):cl w' I d v:=by
 have key:∀(d:D),(match d with|.v _=>true|_=>false)=true→∀v,cl w L d v→cl w' I d v:=fun d hd v h=>by
  cases d<;>simp at hd
  rw[h.kw];exact .v _
 have E:∀(d:D),(match d with|.v _=>true|.agg es=>es.all (fun e=>match e with|.v _=>true|_=>false)|_=>false)=true→∀v,cl w L d v→cl w' I d v:=fun d hd v h=>by
  cases d<;>simp at hd
  ·rw[h.kw];exact .v _
  cases h with
  | agg _ vs hl hr=>exact .agg _ vs hl fun i h1 h2=>key _ (by have:=hd _ (getElem_mem h1);simpa using this) _ (hr i h1 h2)
 cases h with
 | v=>exact .v _
 | dy cs vs hl hr=>exact .dy cs vs hl fun i h1 h2=>E _ (all_eq_true.1 hf _ (getElem_mem h1)) _ (hr i h1 h2)
 | agg cs vs hl hr=>exact .agg cs vs hl fun i h1 h2=>key _ (all_eq_true.1 hf _ (getElem_mem h1)) _ (hr i h1 h2)
 | _=>cases hf
/-! ### nil -/
theorem Y4{t':TypeId}{cs:List D}{z:Operand}(ho:o.op = .binOp .eql t y z t')(hd:o.dst=some tt)(hy:aF x y = .list sz cs n)(hz:aF x z = .v (.slice none 0 0))(ht:P.underlying t=some (.slice e)) :
  fD P G x o [] (fun s=>∃b:Bool,(b=true→n=0∧cs=[])∧s=x.put tt (.v (.bool b))):=fun C a w K Q hG h hK=>by
 have hr:=h.eval y;rw[hy] at hr;generalize hg:a.eval y=u at hr;have E:∀ad len cap,u = .slice ad len cap→(execOp a.eval o).run P w = .ok (.value (.bool ad.isNone)) w:=fun ad len cap I=>by
  subst I;unfold execOp;have e1:binOp .eql t (.slice ad len cap) (.slice none 0 0)=(do pure (.bool (←Op.equal t (.slice ad len cap) (.slice none 0 0)))):=rfl;simp only[ho,hg,h.flat hz,eqGuard,e1,Sem.run_bind];simp[run_equal_slice_nil w t e ad len cap ht]
 unfold Oper.wp;cases hr with
 | lT _ ad cap =>
  rw[E ad 0 cap rfl,Oper.upon_value,hd];exact hK _ _ _ ⟨ad.isNone,fun _=>⟨rfl,rfl⟩,rfl⟩ (h.put (.v _)) (lG.refl _ _) (Fr.refl _ _)
 | list _ _ _ b o' cap f hl q1 q2 hb hL hc O =>
  rw[E (some ⟨b,o',none⟩) n cap rfl,Oper.upon_value,hd];exact hK _ _ _ ⟨false,(fun U=>absurd U bu),rfl⟩ (h.put (.v _)) (lG.refl _ _) (Fr.refl _ _)
theorem OD.yF {t':TypeId} {cs:List D} {z:Operand} (hw:bZ ops x o true) (ho:o.op = .binOp .eql t y z t') (hd:o.dst=some tt) (hy:aF x y = .list sz cs n) (hz:aF x z = .v (.slice none 0 0)) (ht:P.underlying t=some (.slice e))
  (K:∀b:Bool,(b=true→n=0∧cs=[])→OD P C ops l (x.put tt (.v (.bool b))) Q):OD P C ops (o::l) x Q :=
 OD.fM hw (Y4 ho hd hy hz ht) fun y ⟨b,hb,hy⟩=>hy ▸ K b hb
theorem Y5(ho:o.op = .buildSlice t 0 #[])(jt:o.dst=some tt)(E:∀w,(underlying t).run P w = .ok (.slice e) w)(hs:∀w,(sizeOf e).run P w = .ok sz w)(hne:isMap e=false:=by rfl) :
  fD P G x o [] (fun s=>∃b,s=⟨x.n,(tt,.v (.slice (some ⟨b,0,none⟩) 0 0))::x.env,⟨b,e,0*sz,[]⟩::x.S⟩):=fun C a w K Q hG h hK=>by
 unfold Oper.wp;have:(execOp a.eval o).run P w = .ok (.value (.slice (some ⟨w.heap.size,0,none⟩) 0 0)) (w.alloc (.cells #[] e)):=by
  unfold execOp;have I:Array.map (fun x=>(default:Value)) (Array.range 0) = #[]:=Array.eq_empty_of_size_eq_zero bu;simp[ho,Instr.buildSlice,E,hs,Instr.fill,newRow,I]
 rw[this,Oper.upon_value,jt];exact hK _ _ _ ⟨w.heap.size,rfl⟩ (h.new (hne:=hne) (ds:=[]) (cG.nil _ _) bu (fun L=>.v _)) (lG.alloc _ _) (Fr.alloc _ _ _)
theorem OD.yG (hw:bZ ops x o true) (ho:o.op = .buildSlice t 0 #[]) (jt:o.dst=some tt) (E:∀w,(underlying t).run P w = .ok (.slice e) w) (hs:∀w,(sizeOf e).run P w = .ok sz w)
  (K:∀b,OD P C ops l ⟨x.n,(tt,.v (.slice (some ⟨b,0,none⟩) 0 0))::x.env,⟨b,e,0*sz,[]⟩::x.S⟩ Q) (hne:isMap e=false:=by rfl):OD P C ops (o::l) x Q :=
 OD.fM hw (Y5 (hne:=hne) ho jt E hs) fun y ⟨b,hy⟩=>hy ▸ K b
def bq(e sz:Nat)(cs:List D)(n:Nat)(ad:Option Addr)(cap:Nat)(S:List ag):Prop :=
 (n=0∧cs=[]∧ad=none∧cap=0∧S=[])∨∃b,ad=some ⟨b,0,none⟩∧n≤cap∧cap≤maxLen∧S=[⟨b,e,cap*sz,cs⟩]
theorem kZ{e:Nat}{cs:List D}(h:bq e sz cs n ad cap Sq)(hl:cs.length=n*sz)(hs:∀B∈Sq,B∈S)(hne:isMap e=false:=by rfl):View S (.v (.slice ad n cap)) (.list sz cs n):=by
 rcases h with ⟨rfl,rfl,rfl,rfl,rfl⟩|⟨b,rfl,h1,h2,rfl⟩
 ·exact xX
 obtain⟨k,hk,he⟩:=mem_iff_getElem.1 (hs _ mem_cons_self);exact aav (hne:=hne) (k:=k) (by rw[getElem?_eq_getElem hk,he]) rfl rfl hl h1 h2
theorem bq.le{e:Nat}{cs:List D}(h:bq e sz cs n ad cap S):n≤cap:=by
 rcases h with ⟨rfl,_,_,rfl,_⟩|⟨_,_,h,_⟩
 ·exact Nat.le_refl _
 exact h
theorem Wk.perm{env:List (Nat×D)}{S':List ag}(hp:S.Perm S'):Wk ⟨n,env,S⟩ ⟨n,env,S'⟩:=fun C a w h=>by
 have hb:(ap S).Perm (ap S'):=hp.map ag.b;have hl:live C.X S=live C.X S':=(by funext b;exact propext (or_congr Iff.rfl hb.mem_iff))
 have I:=h.env;have E:=h.own;simp only[hl] at I E;exact⟨h.defers,h.size,I,⟨fun B O=>E.at_ B (hp.symm.subset O),hb.nodup_iff.1 E.apart⟩,
  ⟨h.fr.os,h.fr.tape,h.fr.output,h.fr.size,fun b h1 h2=>⟨(h.fr.block b h1 h2).1,fun hm=>(h.fr.block b h1 h2).2 (hb.symm.subset hm)⟩⟩,h.ex,h.eJ⟩
theorem OD.perm{S':List ag}(hp:x.S.Perm S')(k:OD P C ops l ⟨x.n,x.env,S'⟩ Q):OD P C ops l x Q:=OD.wk (Wk.perm hp) k
theorem AD.perm{S':List ag}(hp:x.S.Perm S')(k:AD P C ops S1 T fuel ld ⟨x.n,x.env,S'⟩ Q):AD P C ops S1 T fuel ld x Q:=AD.EV (Wk.perm hp) (fun b hb=>(hp.map ag.b).symm.subset hb) k
theorem CD.perm{c:Code}{S':List ag}(hp:x.S.Perm S')(k:CD P C c ⟨x.n,x.env,S'⟩ Q):CD P C c x Q:=CD.wk (Wk.perm hp) k
theorem Wk.cover{l:List (Nat×D)}{Sd:List ag}{A:ag}(hp:S.Perm ((A::R)++Sd))(Z:gk Sd A.cs cs'):Wk ⟨n,l,S⟩ ⟨n,l,{A with cs:=cs'}::R⟩:=fun C a w h0=>by
 have h:=Wk.perm hp C a w h0;have hd:bF C ⟨n,l,A::R⟩ a w:=Wk.drop n l _ (A::R) (sublist_append_left _ _) C a w h;obtain⟨v1,v2⟩:=Z.spec;have U:live C.X ({A with cs:=cs'}::R)=live C.X (A::R):=rfl;have hL:live C.X ((A::R)++Sd)=live (fun b=>live C.X (A::R) b) Sd:=by
  funext b;simp only[live,ap,map_append,mem_append];exact propext or_assoc.symm
 have hnd:(ap (A::R)++ap Sd).Nodup:=(by have:=h.own.apart;simpa[ap] using this)
 have hX:∀b,live C.X (A::R) b→b∉ap Sd:=fun b hb hm=>by
  rcases hb with hb|hb
  ·exact h.zP b hb (by simp only[ap,map_append,mem_append] at hm ⊢;exact .inr hm)
  exact(nodup_append.1 hnd).2.2 b hb b hm rfl
 have E:Own w (live (fun b=>live C.X (A::R) b) Sd) Sd:=⟨fun B I=>by rw[←hL];exact h.own.at_ B (mem_append_right _ I),(nodup_append.1 hnd).2.1⟩
 refine⟨hd.defers,hd.size,hd.env,⟨fun B I=>?_,hd.own.apart⟩,hd.fr,hd.ex,hd.eJ⟩;rcases mem_cons.1 I with rfl|I
 ·obtain⟨r0,cur,r1,r2,r3,r4⟩:=h.own.at_ A (mem_append_left _ mem_cons_self);refine⟨r0,cur,r1,r2,by rw[←v1];exact r3,fun i hi=>?_⟩;have O:i<A.cs.length:=(by rw[v1];exact hi)
  obtain⟨u,hu,hq⟩:=r4 i O;refine⟨u,hu,v2 i O hi (fun b=>live C.X (A::R) b) _ w u (fun b hb=>hb) hX E ?_⟩;rw[←hL];exact hq
 exact hd.own.at_ B (mem_cons_of_mem _ I)
theorem OD.cover{R Sd:List ag}{A:ag}{cs':List D}(hp:x.S.Perm ((A::R)++Sd))(E:gk Sd A.cs cs')(k:OD P C ops l ⟨x.n,x.env,{A with cs:=cs'}::R⟩ Q):OD P C ops l x Q:=OD.wk (Wk.cover hp E) k
theorem DC(hk:S[k]?=some B)(hp:S.Perm (B::R)):(S.eraseIdx k).Perm R:=((uh hk).symm.trans hp).cons_inv
theorem OD.uV {k t m cap sz b:Nat} {B:ag} {cs:List D} (hk:x.S[k]?=some B) (ht:V.look t x.env = .v (.slice (some ⟨b,0,none⟩) m cap)) (hb:B.b=b) (dj:B.cs=cs) (hl:cs.length=m*sz) (h1:m≤cap) (h2:cap≤maxLen)
  (K:OD P C ops l ⟨x.n,(t,.list sz cs m)::x.env,x.S.eraseIdx k⟩ Q) (hne:isMap B.e=false:=by rfl):OD P C ops l x Q:=by
 subst hb;exact OD.wk (Wk.uV (hne:=hne) (n:=x.n) (l:=x.env) (S:=x.S) hk ht dj hl h1 h2) K
theorem AD.uV {k t m cap sz b:Nat} {B:ag} {cs:List D} (hk:x.S[k]?=some B) (ht:V.look t x.env = .v (.slice (some ⟨b,0,none⟩) m cap)) (hb:B.b=b) (dj:B.cs=cs) (hl:cs.length=m*sz) (h1:m≤cap) (h2:cap≤maxLen)
  (K:AD P C ops S1 T fuel ld ⟨x.n,(t,.list sz cs m)::x.env,x.S.eraseIdx k⟩ Q) (hne:isMap B.e=false:=by rfl):AD P C ops S1 T fuel ld x Q:=by
 subst hb;exact AD.EV (Wk.uV (hne:=hne) (n:=x.n) (l:=x.env) (S:=x.S) hk ht dj hl h1 h2) (fun b hb=>(Sublist.map ag.b (eraseIdx_sublist x.S k)).subset hb) K
theorem OD.DK {s:Operand} {t e bytes m:Nat} {z:Value} {cs new:List D} (hw:bZ ops x o true) (ho:o.op = .call {callee:=.builtin .append,args:=#[s,y],argTypes:=#[t,t]}) (hd:o.dst=some tt)
  (ht:P.underlying t=some (.slice e)) (hi:(P.info? e).map (fun i=>(i.zero,i.size,i.bytes))=some (some z,sz,bytes)) (eR:z.cells.size=sz) (U:0<sz)
  (hs:aF x s = .v (.slice ad n cap)) (sE:bq e sz cs n ad cap Sq) (hp:x.S.Perm (Sq++R)) (hl:cs.length=n*sz)
  (hy:aF x y = .list sz new m) (gZ:∀d∈new,one d=true) (hm:0<m) (gd:n+m≤maxLen) (I:(n+m)*bytes≤140737488355328)
  (K:∀O E,n+m≤E→E≤maxLen→OD P C ops l ⟨x.n,(tt,.v (.slice (some ⟨O,0,none⟩) (n+m) E))::x.env,⟨O,e,E*sz,cs++new⟩::R⟩ Q) (hne:isMap e=false:=by rfl):OD P C ops (o::l) x Q:=by
 rcases sE with ⟨rfl,rfl,rfl,rfl,rfl⟩|⟨b,rfl,h1,h2,rfl⟩
 ·refine OD.Hf (hne:=hne) hw ho hd ht hi eR U hs hy gZ hm w4 (by rw[Nat.zero_add] at I;exact I) fun O E q1 q2=>?_;have:=K O E w4 q2;rw[Nat.zero_add] at this;exact OD.wk (Wk.perm (hp.cons _)) this
 obtain⟨k,hk,he⟩:=mem_iff_getElem.1 (hp.symm.subset (mem_append_left _ mem_cons_self));have Z:x.S[k]?=some (⟨b,e,cap*sz,cs⟩:ag):=(by rw[getElem?_eq_getElem hk,he])
 refine OD.append (hne:=hne) hw ho hd ht hi eR U hs Z rfl rfl rfl hl h1 h2 hy gZ hm gd I fun O E q1 q2=>?_;exact OD.wk (Wk.perm ((DC Z hp).cons _)) (K O E q1 q2)
theorem bf.DK {s:Operand} {t e bytes m:Nat} {z:Value} {cs new:List D} (Z:ops[i]?=some o) (hw:bZ ops x o true) (ho:o.op = .call {callee:=.builtin .append,args:=#[s,y],argTypes:=#[t,t]}) (hd:o.dst=some tt)
  (ht:P.underlying t=some (.slice e)) (hi:(P.info? e).map (fun i=>(i.zero,i.size,i.bytes))=some (some z,sz,bytes)) (eR:z.cells.size=sz) (gP:0<sz)
  (hs:aF x s = .v (.slice ad n cap)) (sE:bq e sz cs n ad cap Sq) (hp:x.S.Perm (Sq++R)) (hl:cs.length=n*sz)
  (hy:aF x y = .list sz new m) (gZ:∀d∈new,one d=true) (hm:0<m) (gd:n+m≤maxLen) (I:(n+m)*bytes≤140737488355328) (hT:∀b∈T,b∈ap R)
  (K:∀U E,n+m≤E→E≤maxLen→AD P C ops S1 T fuel (ld.setIfInBounds i true) ⟨x.n,(tt,.v (.slice (some ⟨U,0,none⟩) (n+m) E))::x.env,⟨U,e,E*sz,cs++new⟩::R⟩ Q) (hne:isMap e=false:=by rfl):bf P C ops S1 T fuel ld x Q i:=by
 rcases sE with ⟨rfl,rfl,rfl,rfl,rfl⟩|⟨b,rfl,h1,h2,rfl⟩
 ·refine bf.Hf (hne:=hne) Z hw ho hd ht hi eR gP hs hy gZ hm w4 (by rw[Nat.zero_add] at I;exact I) fun U E q1 q2=>?_;have:=K U E w4 q2;rw[Nat.zero_add] at this;exact AD.EV (Wk.perm (hp.cons _)) (fun b hb=>((hp.cons _).map ag.b).symm.subset hb) this
 obtain⟨k,hk,he⟩:=mem_iff_getElem.1 (hp.symm.subset (mem_append_left _ mem_cons_self));have O:x.S[k]?=some (⟨b,e,cap*sz,cs⟩:ag):=(by rw[getElem?_eq_getElem hk,he])
 refine bf.append (hne:=hne) Z hw ho hd ht hi eR gP hs O rfl rfl rfl hl h1 h2 hy gZ hm gd I (fun b hb=>((DC O hp).map ag.b).symm.subset (hT b hb)) fun U E q1 q2=>?_;exact AD.EV (Wk.perm ((DC O hp).cons _)) (fun b hb=>(((DC O hp).cons _).map ag.b).symm.subset hb) (K U E q1 q2)
theorem OD.storeAt {o':Nat} {d:D} {z:Operand} (hw:bZ ops x o true) (ho:o.op = .store t y z) (jt:o.dst=none) (hy:aF x y = .v (.pointer (some ⟨b,o',none⟩)))
  (hk:x.S[k]?=some B) (hb:B.b=b) (hz:aF x z=d) (hj:kr d=true) (h1:(cellsOf d).all one=true) (hn:∀w,(sizeOf t).run P w = .ok n w) (fU:(cellsOf d).length=n) (hl:o'+n≤B.cs.length) (dj:cZ B.cs o' (cellsOf d)=cs')
  (K:OD P C ops l ⟨x.n,x.env,x.S.set k {B with cs:=cs'}⟩ Q) (hne:isMap B.e=false:=by rfl):OD P C ops (o::l) x Q :=
 OD.fM hw (DJ (hne:=hne) ho jt hy hk hb hz (fun h=>by rw[h] at hj;cases hj) h1 hn fU hl dj) fun y hy=>hy ▸ K
theorem bf.storeAt {o':Nat} {d:D} {z:Operand} (hi:ops[i]?=some o) (hw:bZ ops x o true) (ho:o.op = .store t y z) (jt:o.dst=none) (hy:aF x y = .v (.pointer (some ⟨b,o',none⟩)))
  (hk:x.S[k]?=some B) (hb:B.b=b) (hz:aF x z=d) (hj:kr d=true) (h1:(cellsOf d).all one=true) (hn:∀w,(sizeOf t).run P w = .ok n w) (fU:(cellsOf d).length=n) (hl:o'+n≤B.cs.length) (dj:cZ B.cs o' (cellsOf d)=cs')
  (hT:∀b∈T,b∈ap (x.S.eraseIdx k))
  (K:AD P C ops S1 T fuel (ld.setIfInBounds i true) ⟨x.n,x.env,x.S.set k {B with cs:=cs'}⟩ Q) (hne:isMap B.e=false:=by rfl):bf P C ops S1 T fuel ld x Q i :=
 bf.fM hi hw (DJ (hne:=hne) ho jt hy hk hb hz (fun h=>by rw[h] at hj;cases hj) h1 hn fU hl dj) (fun C a w hs I E=>hb ▸ Fs hs hk hT I E) (fun I E=>by
  have:I=b:=(by simpa using E)
  subst this;rw[←hb];exact AE hk) fun y hy=>hy ▸ K

end Go.Proofs.YtbcmjoaggammcaaGreatDoor.V
namespace Go.Proofs.YtbcmjoaggammcaaGreatDoor.V
open List
open Go.RowKit
variable {P:Program} {G:List (Nat×List Value)} {x:St} {o:Oper} {S:List ag}
variable {y:Operand} {d0:D} {k b o' n sz i j cap h' l':Nat} {t e:TypeId} {B:ag} {α:Type} {ad:Option Addr} {lo hi:Option Operand}
def R1(P:Program)(G:List (Nat×List Value))(S:List ag)(mk:Operand→Op)(d0:D)(k:Rd)(d:D):Prop:=∀x o y,o.op=mk y→aF x y=d0→x.S=S→bV P G x o k d
theorem cH{mk:Operand→Op}{d:D}{k:Rd}(ho:o.op=mk y)(hy:aF x y=d0)(H:R1 P G x.S mk d0 k d):bV P G x o k d:=H x o y ho hy rfl
def R2(P:Program)(G:List (Nat×List Value))(S:List ag)(mk:Operand→Operand→Op)(d0 d1:D)(k:Rd)(d:D):Prop:=∀x o y z,o.op=mk y z→aF x y=d0→aF x z=d1→x.S=S→bV P G x o k d
theorem qq{mk:Operand→Operand→Op}{z:Operand}{d1 d:D}{k:Rd}(ho:o.op=mk y z)(hy:aF x y=d0)(hz:aF x z=d1)(H:R2 P G x.S mk d0 d1 k d):bV P G x o k d:=H x o y z ho hy hz rfl
theorem rE{t:Nat}{d:D}(hk:S[k]?=some B)(hb:B.b=b)(ha:∀w,(isAgg t).run P w = .ok false w)(hd:B.cs[o']?=some d)(hne:isMap B.e=false:=by rfl):R1 P G S (Op.load t) (.v (.pointer (some ⟨b,o',none⟩))) (.fm k) d:=fun x o y ho hy hS=>Dy (hne:=hne) ho hy (hS ▸ hk) hb ha hd
theorem pP{t:Nat}{ds:List D}(hk:S[k]?=some B)(hb:B.b=b)(ha:∀w,(isAgg t).run P w = .ok true w)(hn:∀w,(sizeOf t).run P w = .ok n w)(hl:ds.length=n)(hd:(B.cs.drop o').take n=ds)(hne:isMap B.e=false:=by rfl):R1 P G S (Op.load t) (.v (.pointer (some ⟨b,o',none⟩))) (.fm k) (.agg ds):=fun x o y ho hy hS=>Af (hne:=hne) ho hy (hS ▸ hk) hb ha hn hl hd
theorem Bv{t:Nat}{cs:List D}{d:D}(ha:∀w,(isAgg t).run P w = .ok false w)(hd:cs[o']?=some d):R1 P G S (Op.load t) (.fp cs o') .jH d:=fun x o y ho hy _=>Dw ho hy ha hd
theorem pU{t:Nat}{cs ds:List D}(ha:∀w,(isAgg t).run P w = .ok true w)(hn:∀w,(sizeOf t).run P w = .ok n w)(hl:ds.length=n)(hd:(cs.drop o').take n=ds):R1 P G S (Op.load t) (.fp cs o') .jH (.agg ds):=fun x o y ho hy _=>GM ho hy ha hn hl hd
theorem uH{g:α→List D}{t:Nat}{ls:List α}{d:D}(hg:∀a,(g a).length=sz)(ha:∀w,(isAgg t).run P w = .ok false w)(hi:i<ls.length)(hd:(g ls[i])[j]?=some d):R1 P G S (Op.load t) (.fp (ls.flatMap g) (i*sz+j)) .jH d:=Bv ha (yg hg hi hd)
theorem pQ{g:α→List D}{t:Nat}{ls:List α}{d:D}(hg:∀a,(g a).length=sz)(ha:∀w,(isAgg t).run P w = .ok false w)(hi:i<ls.length)(hd:(g ls[i])[0]?=some d):R1 P G S (Op.load t) (.fp (ls.flatMap g) (i*sz)) .jH d:=Bv ha (HJ hg hi hd)
theorem jM{g:α→List D}{t:Nat}{ls:List α}(hg:∀a,(g a).length=sz)(ha:∀w,(isAgg t).run P w = .ok true w)(hn:∀w,(sizeOf t).run P w = .ok sz w)(hi:i<ls.length):R1 P G S (Op.load t) (.fp (ls.flatMap g) (i*sz)) .jH (.agg (g ls[i])):=pU ha hn (hg _) (EW hg hi)
theorem adQ{t:Nat}{vs:List Value}{v:Value}(hg:(b,vs)∈G)(ha:∀w,(isAgg t).run P w = .ok false w)(hd:vs[o']?=some v)(qf:qw v=true:=by rfl):R1 P G S (Op.load t) (.v (.pointer (some ⟨b,o',none⟩))) .jH (.v v):=fun x o y ho hy _=>XK ho hy hg ha hd qf
theorem kP{g:α→List D}{t:Nat}{ls:List α}{d:D}(hg:∀a,(g a).length=sz)(hk:S[k]?=some B)(hb:B.b=b)(dj:B.cs=ls.flatMap g)(ha:∀w,(isAgg t).run P w = .ok false w)(hi:i<ls.length)(hd:(g ls[i])[j]?=some d)(hne:isMap B.e=false:=by rfl):R1 P G S (Op.load t) (.v (.pointer (some ⟨b,0+i*sz+j,none⟩))) (.fm k) d :=
 rE (hne:=hne) hk hb ha (by rw[dj,Nat.zero_add];exact yg hg hi hd)
theorem iL{g:α→List D}{t:Nat}{ls:List α}{d:D}(hg:∀a,(g a).length=sz)(hk:S[k]?=some B)(hb:B.b=b)(dj:B.cs=ls.flatMap g)(ha:∀w,(isAgg t).run P w = .ok false w)(hi:i<ls.length)(hd:(g ls[i])[0]?=some d)(hne:isMap B.e=false:=by rfl):R1 P G S (Op.load t) (.v (.pointer (some ⟨b,0+i*sz,none⟩))) (.fm k) d :=
 rE (hne:=hne) hk hb ha (by rw[dj,Nat.zero_add];exact HJ hg hi hd)
theorem dI{g:α→List D}{t:Nat}{ls:List α}(hg:∀a,(g a).length=sz)(hk:S[k]?=some B)(hb:B.b=b)(dj:B.cs=ls.flatMap g)(ha:∀w,(isAgg t).run P w = .ok true w)(hn:∀w,(sizeOf t).run P w = .ok sz w)(hi:i<ls.length)(hne:isMap B.e=false:=by rfl):R1 P G S (Op.load t) (.v (.pointer (some ⟨b,0+i*sz,none⟩))) (.fm k) (.agg (g ls[i])) :=
 pP (hne:=hne) hk hb ha hn (hg _) (by rw[dj,Nat.zero_add];exact EW hg hi)
theorem QS{len:Nat}{ts:Array TypeId}(ht:ts = #[t])(E:∀w,(underlying t).run P w = .ok (.slice e) w):R1 P G S (fun y=>.call {callee:=.builtin .len,args:=#[y],argTypes:=ts}) (.v (.slice ad len cap)) .none (.v (.int .i64 len)):=fun x o y ho hy _=>NA ho ht hy E
theorem rC{len:Nat}{cs:List D}{k:IntKind}{i:Int}(E:∀w,(underlying t).run P w = .ok (.slice e) w)(hs:∀w,(sizeOf e).run P w = .ok sz w)(hi:i=j)(hj:j<len):R2 P G S (Op.indexAddr t) (.list sz cs len) (.v (.int k i)) .none (.fp cs (j*sz)):=fun x o y z ho hy hz _=>NZ ho hy hz E hs hi hj
theorem rF{len:Nat}{k:IntKind}{i:Int}(E:∀w,(underlying t).run P w = .ok (.slice e) w)(hs:∀w,(sizeOf e).run P w = .ok sz w)(hi:i=j)(hj:j<len):R2 P G S (Op.indexAddr t) (.v (.slice (some ⟨b,o',none⟩) len cap)) (.v (.int k i)) .none (.v (.pointer (some ⟨b,o'+j*sz,none⟩))):=fun x o y z ho hy hz _=>Nz ho hy hz E hs hi hj
theorem SA{len:Nat}{k:IntKind}{i:Int}(E:∀w,(underlying t).run P w = .ok (.array len e) w)(hs:∀w,(sizeOf e).run P w = .ok sz w)(hi:i=j)(hj:j<len):R2 P G S (Op.indexAddr t) (.v (.pointer (some ⟨b,o',none⟩))) (.v (.int k i)) .none (.v (.pointer (some ⟨b,o'+j*sz,none⟩))):=fun x o y z ho hy hz _=>Ya ho hy hz E hs hi hj
def Bd(x:St)(y:Option Operand)(n:Nat):Prop:=match y with|some y=>∃(k:IntKind),aF x y = .v (.int k n)|none=>True
def Rs(P:Program)(G:List (Nat×List Value))(t:TypeId)(lo hi:Option Operand)(l h:Nat)(d0:D)(d:D):Prop:=∀x o y,o.op = .slice t y lo hi none→aF x y=d0→Bd x lo l→Bd x hi h→bV P G x o .none d
theorem dY{l h:Nat}{d:D}(ho:o.op = .slice t y lo hi none)(hy:aF x y=d0)(hl:Bd x lo l)(E:Bd x hi h)(H:Rs P G t lo hi l h d0 d):bV P G x o .none d:=H x o y ho hy hl E
theorem qs{y:Option Operand}{df:Nat}(h:Bd x y n)(hd:y=none→n=df):mi x y n df:=by
 cases y with
 | none=>exact hd rfl
 | some y=>obtain⟨k,hk⟩:=h;exact⟨k,_,hk,rfl⟩
theorem nH {g:α→List D} (hg:∀a,(g a).length=sz) {ls:List α} (er:hi=none→h'=ls.length)
  (E:∀w,(underlying t).run P w = .ok (.slice e) w) (hs:∀w,(sizeOf e).run P w = .ok sz w) (h2:h'≤ls.length):Rs P G t lo hi 0 h' (.list sz (ls.flatMap g) ls.length) (.list sz ((ls.take h').flatMap g) (ls.take h').length):=fun x o y ho hy hl I =>
 XO hg ho hy (qs hl fun _=>rfl) (qs I er) E hs h2
theorem ya {g:α→List D} {ls:List α} (E:h'=ls.length) (hg:∀a,(g a).length=sz) (eO:lo=none→l'=0)
  (I:∀w,(underlying t).run P w = .ok (.slice e) w) (hs:∀w,(sizeOf e).run P w = .ok sz w) (h2:l'≤ls.length):Rs P G t lo none l' h' (.list sz (ls.flatMap g) ls.length) (.list sz ((ls.drop l').flatMap g) (ls.drop l').length):=fun x o y ho hy hl O=>by
 subst E;exact XP hg ho hy (qs hl eO) rfl I hs h2
theorem nG {len:Nat} {cs:List D} (eO:lo=none→l'=0) (er:hi=none→h'=len)
  (E:∀w,(underlying t).run P w = .ok (.slice e) w) (hs:∀w,(sizeOf e).run P w = .ok sz w) (h1:l'≤h') (h2:h'≤len):Rs P G t lo hi l' h' (.list sz cs len) (.list sz ((cs.drop (l'*sz)).take ((h'-l')*sz)) (h'-l')):=fun x o y ho hy hl I =>
 GP ho hy (qs hl eO) (qs I er) E hs h1 h2
theorem oh {len:Nat} (er:hi=none→h'=len)
  (E:∀w,(underlying t).run P w = .ok (.slice e) w) (hs:∀w,(sizeOf e).run P w = .ok sz w) (h2:h'≤cap):Rs P G t lo hi 0 h' (.v (.slice (some ⟨b,o',none⟩) len cap)) (.v (.slice (some ⟨b,o',none⟩) h' cap)):=fun x o y ho hy hl I =>
 Nj ho hy (qs hl fun _=>rfl) (qs I er) E hs h2
theorem adR {s:ByteArray} (eO:lo=none→l'=0) (er:hi=none→h'=s.size)
  (E:∀w,(underlying t).run P w = .ok .string w) (h1:l'≤h') (h2:h'≤s.size):Rs P G t lo hi l' h' (.v (.string s)) (.v (.string (s.extract l' h'))):=fun x o y ho hy hl I =>
 Xy ho hy (qs hl eO) (qs I er) E h1 h2
theorem OD.ee {C:dF} {Q:Exit→St→Prop} {ops:Array Oper} {l:List Oper} {g:α→List D} {ls new:List α} {s:Operand} {t e tt bytes:Nat} {z:Value} {Sq R:List ag} (hg:∀a,(g a).length=sz) (hg1:∀a,(g a).all one=true) (hw:bZ ops x o true) (ho:o.op = .call {callee:=.builtin .append,args:=#[s,y],argTypes:=#[t,t]}) (hd:o.dst=some tt)
  (ht:P.underlying t=some (.slice e)) (hi:(P.info? e).map (fun i=>(i.zero,i.size,i.bytes))=some (some z,sz,bytes)) (eR:z.cells.size=sz) (U:0<sz)
  (hs:aF x s = .v (.slice ad ls.length cap)) (Z:bq e sz (ls.flatMap g) ls.length ad cap Sq) (hp:x.S.Perm (Sq++R))
  (hy:aF x y = .list sz (new.flatMap g) new.length) (hm:0<new.length) (gd:ls.length+new.length≤maxLen) (I:(ls.length+new.length)*bytes≤140737488355328)
  (K:∀O E,(ls++new).length≤E→E≤maxLen→OD P C ops l ⟨x.n,(tt,.v (.slice (some ⟨O,0,none⟩) (ls++new).length E))::x.env,⟨O,e,E*sz,(ls++new).flatMap g⟩::R⟩ Q) (hne:isMap e=false:=by rfl):OD P C ops (o::l) x Q :=
 OD.DK (hne:=hne) hw ho hd ht hi eR U hs Z hp (cr hg ls) hy (s7 hg1 new) hm gd I fun O E h1 h2=>by
  have:=K O E (by rw[length_append];exact h1) h2;rw[length_append,flatMap_append] at this;exact this
theorem Wk.shrink{l:List (Nat×D)}{S:List ag}{cs':List D}(hk:S[k]?=some B)(hp:cs' <+: B.cs):Wk ⟨n,l,S⟩ ⟨n,l,S.set k {B with cs:=cs'}⟩:=fun C a w h=>by
 have dR:=(List.getElem?_eq_some_iff.1 hk).1;have U:=(List.getElem?_eq_some_iff.1 hk).2;have E:ap (S.set k {B with cs:=cs'})=ap S:=by
  unfold ap;rw[map_set];apply ext_getElem bu;intro i q1 q2;rw[getElem_set];split
  ·rename_i e;subst e;simp[U]
  rfl
 have I:live C.X (S.set k {B with cs:=cs'})=live C.X S:=(by funext b;simp only[live,E])
 refine⟨h.defers,h.size,fun t ht=>?_,⟨fun B' Z=>?_,?_⟩,?_,h.ex,h.eJ⟩
 ·simp only[I];exact h.env t ht
 ·simp only[I];obtain⟨j,hj,O⟩:=mem_iff_getElem.1 Z;rw[length_set] at hj;rw[getElem_set] at O;by_cases e:k=j
  ·rw[if_pos e] at O;subst O;obtain⟨r0,cur,r1,r2,r3,r4⟩:=h.own.at_ B (mem_of_getElem? hk);refine⟨r0,cur,r1,r2,Nat.le_trans hp.length_le r3,fun i hi=>?_⟩;obtain⟨u,hu,hq⟩:=r4 i (Nat.lt_of_lt_of_le hi hp.length_le);refine⟨u,hu,?_⟩;have:cs'[i]=B.cs[i]'(Nat.lt_of_lt_of_le hi hp.length_le):=IsPrefix.getElem hp hi;simp only[this];exact hq
  rw[if_neg e] at O;subst O;exact h.own.at_ _ (getElem_mem hj)
 ·simp only[E];exact h.own.apart
 simp only[E];exact h.fr
theorem OD.shrink{C:dF}{Q:Exit→St→Prop}{ops:Array Oper}{l:List Oper}{k:Nat}{B:ag}{cs':List D}(hk:x.S[k]?=some B)(hp:cs' <+: B.cs)(K:OD P C ops l ⟨x.n,x.env,x.S.set k {B with cs:=cs'}⟩ Q):OD P C ops l x Q:=OD.wk (Wk.shrink hk hp) K

end Go.Proofs.YtbcmjoaggammcaaGreatDoor.V
namespace Go.Proofs.YtbcmjoaggammcaaGreatDoor.V
open List
open Go.RowKit
variable {P:Program} {C:dF} {G:List (Nat×List Value)} {Q:Exit→St→Prop} {x:St} {ops:Array Oper} {l:List Oper} {o:Oper} {n:Nat} {e:List (Nat×D)} {S:List ag}
/-! ### Facts of types, told by the program itself -/
variable {t i:Nat} {b:Bool} {y c:Operand} {d':D} {kd:Rd} {l':List (Nat×D)} {p:Prop} {post:D→List ag→Prop}
def qh(P:Program)(t n:Nat):Bool:=match P.info? t with|some i=>Nat.beq i.size n|none=>false
theorem lm{n:Nat}(h:qh P t n=true):∀w,(sizeOf t).run P w = .ok n w:=by
 unfold qh at h;cases hi:P.info? t with
 | none=>rw[hi] at h;cases h
 | some i =>
  rw[hi] at h;intro w;have:=run_sizeOf (P:=P) w hi;rw[this];simp only[Program.cellsOf,hi,Option.map_some,Option.getD_some,Nat.eq_of_beq_eq_true h]
def qi(P:Program)(t:Nat)(b:Bool):Bool:=match P.underlying t with
 | some (.struct _)=>b
 | some (.array _ _)=>b
 | some _=>!b
 | none=>false
theorem iw(h:qi P t b=true):∀w,(isAgg t).run P w = .ok b w:=by
 unfold qi at h;intro w;cases hu:P.underlying t with
 | none=>rw[hu] at h;cases h
 | some d =>
  rw[hu] at h;have hr:=run_underlying hu w;unfold isAgg;rw[Sem.run_bind,hr];cases d<;>simp only at h<;>first|(subst h;rfl)|(cases b;rfl;cases h)
def Cg(P:Program)(s i off:Nat):Bool:=match P.underlying s with
 | some (.struct fs)=>match fs[i]? with
  | some f=>Nat.beq f.offset off&&(match P.info? f.type with|some j=>Nat.ble 1 j.size|none=>false)
  | none=>false
 | _=>false
theorem afd{s off:Nat}(h:Cg P s i off=true):∃E f m,(∀w,(underlying s).run P w = .ok (.struct E) w)∧E[i]?=some f∧(∀w,(sizeOf f.type).run P w = .ok (m+1) w)∧f.offset=off:=by
 unfold Cg at h;split at h
 ·rename_i E I;split at h
  ·rename_i f hf;rw[Bool.and_eq_true] at h;obtain⟨h1,h2⟩:=h;split at h2
   ·rename_i j hj;have O:=Nat.le_of_ble_eq_true h2;refine⟨E,f,j.size-1,run_underlying I,hf,fun w=>?_,Nat.eq_of_beq_eq_true h1⟩;have:=run_sizeOf (P:=P) w hj;rw[this];simp only[Program.cellsOf,hj,Option.map_some,Option.getD_some];congr 1;omega
   cases h2
  cases h
 cases h
def Ch(P:Program)(t sz:Nat):Bool:=match P.underlying t with
 | some (.slice e)=>qh P e sz
 | _=>false
theorem afe{sz:Nat}(h:Ch P t sz=true):∃e,(∀w,(underlying t).run P w = .ok (.slice e) w)∧∀w,(sizeOf e).run P w = .ok sz w:=by
 unfold Ch at h;split at h
 ·rename_i e E;exact⟨e,run_underlying E,lm h⟩
 cases h
def LM(P:Program)(t:Nat):Bool:=match P.underlying t with
 | some (.slice _)=>true
 | _=>false
theorem adS(h:LM P t=true):∃e,∀w,(underlying t).run P w = .ok (.slice e) w:=by
 unfold LM at h;split at h
 ·rename_i e E;exact⟨e,run_underlying E⟩
 cases h
/-! ### Operations that change nothing -/
theorem bg{z:Operand}{d:D}(ho:o.op = .move z∨o.op = .assign z:=by first|exact .inl rfl|exact .inr rfl)(hz:aF x z=d:=by first|exact ot|exact bH|exact sM|exact vG):bV P G x o .none d:=by
 rcases ho with h|h
 ·exact aat h hz
 exact aau h hz
inductive FA (off:Nat):D→D→Prop
 | p {b o':Nat}:FA off (.v (.pointer (some ⟨b,o',none⟩))) (.v (.pointer (some ⟨b,o'+off,none⟩)))
 | i {cs:List D} {o':Nat}:FA off (.fp cs o') (.fp cs (o'+off))
theorem cY(off:Nat){s:TypeId}{d:D}(ho:o.op = .fieldAddr s y i:=by exact rfl)(hy:aF x y=d:=by first|exact ot|exact vG)(hc:Cg P s i off=true:=by kernel_rfl)(h:FA off d d':=by first|exact .p|exact .i):bV P G x o .none d':=by
 obtain⟨fs,f,m,h1,h2,h3,h4⟩:=afd hc;cases h with
 | p=>exact XJ ho hy h1 h2 h3 h4
 | i=>exact Xx ho hy h1 h2 h3 h4
theorem lC{d:D}(ho:o.op = .nilCheck y:=by exact rfl)(hy:aF x y=d:=by exact ot)(h:FA 0 d d:=by first|exact .p|exact .i):bV P G x o .none d:=by
 cases h with
 | p=>exact Xh ho hy
 | i=>exact Xg ho hy
theorem LN{cs:List D}{d:D}(ho:o.op = .extract y i:=by exact rfl)(hy:aF x y = .dy cs:=by exact ot)(hd:cs[i]?=some d:=by exact rfl):bV P G x o .none d:=Xm ho hy hd
inductive LD (S:List ag):D→Rd→D→Prop
 | b (k:Nat) {b o':Nat} {B:ag} {d:D} (hk:S[k]?=some B) (hb:B.b=b) (hd:B.cs[o']?=some d) (hne:isMap B.e=false):LD S (.v (.pointer (some ⟨b,o',none⟩))) (.fm k) d
 | m {α:Type} {g:α→List D} {sz i j:Nat} {ls:List α} {d:D} (hg:∀a,(g a).length=sz) (hi:i<ls.length) (hd:(g ls[i])[j]?=some d):LD S (.fp (ls.flatMap g) (i*sz+j)) .jH d
 | m0 {α:Type} {g:α→List D} {sz i:Nat} {ls:List α} {d:D} (hg:∀a,(g a).length=sz) (hi:i<ls.length) (hd:(g ls[i])[0]?=some d):LD S (.fp (ls.flatMap g) (i*sz)) .jH d
 | r (k:Nat) {α:Type} {g:α→List D} {b sz i j:Nat} {B:ag} {ls:List α} {d:D} (hg:∀a,(g a).length=sz) (hk:S[k]?=some B) (hb:B.b=b) (dj:B.cs=ls.flatMap g) (hi:i<ls.length) (hd:(g ls[i])[j]?=some d) (hne:isMap B.e=false):LD S (.v (.pointer (some ⟨b,0+i*sz+j,none⟩))) (.fm k) d
 | r0 (k:Nat) {α:Type} {g:α→List D} {b sz i:Nat} {B:ag} {ls:List α} {d:D} (hg:∀a,(g a).length=sz) (hk:S[k]?=some B) (hb:B.b=b) (dj:B.cs=ls.flatMap g) (hi:i<ls.length) (hd:(g ls[i])[0]?=some d) (hne:isMap B.e=false):LD S (.v (.pointer (some ⟨b,0+i*sz,none⟩))) (.fm k) d
 | i {o':Nat} {cs:List D} {d:D} (hd:cs[o']?=some d):LD S (.fp cs o') .jH d
theorem LD.still{t:TypeId}{d0 d:D}(h:LD x.S d0 kd d)(ho:o.op = .load t y)(hy:aF x y=d0)(ha:∀w,(isAgg t).run P w = .ok false w):bV P G x o kd d:=by
 cases h with
 | b k hk hb hd hne=>exact Dy (hne:=hne) ho hy hk hb ha hd
 | m hg hi hd=>exact Dw ho hy ha (yg hg hi hd)
 | m0 hg hi hd=>exact Dw ho hy ha (HJ hg hi hd)
 | r k hg hk hb dj hi hd hne=>exact kP (hne:=hne) hg hk hb dj ha hi hd x o y ho hy rfl
 | r0 k hg hk hb dj hi hd hne=>exact iL (hne:=hne) hg hk hb dj ha hi hd x o y ho hy rfl
 | i hd=>exact Dw ho hy ha hd
theorem eP {t:TypeId} {d0 d:D} (ho:o.op = .load t y:=by exact rfl) (hy:aF x y=d0:=by exact ot) (ha:qi P t false=true:=by kernel_rfl)
  (h:LD x.S d0 kd d:=by first|exact .m zG w5 rfl|exact .m0 zG w5 rfl|exact .b 0 rfl rfl rfl rfl|exact .b 1 rfl rfl rfl rfl|exact .b 2 rfl rfl rfl rfl|exact .b 3 rfl rfl rfl rfl|exact .b 4 rfl rfl rfl rfl|exact .i rfl|exact .r 0 zG rfl rfl rfl w5 rfl rfl|exact .r0 0 zG rfl rfl rfl w5 rfl rfl|exact .r 1 zG rfl rfl rfl w5 rfl rfl|exact .r0 1 zG rfl rfl rfl w5 rfl rfl):bV P G x o kd d:=h.still ho hy (iw ha)
theorem dw(k:Nat){b o':Nat}{B:ag}{d:D}(ho:o.op = .load t y:=by exact rfl)(hy:aF x y = .v (.pointer (some ⟨b,o',none⟩)):=by exact ot)(hk:x.S[k]?=some B:=by exact rfl)(hb:B.b=b:=by exact rfl)(ha:qi P t false=true:=by kernel_rfl)(hd:B.cs[o']?=some d:=by exact rfl)(hne:isMap B.e=false:=by exact rfl):bV P G x o (.fm k) d:=Dy (hne:=hne) ho hy hk hb (iw ha) hd
theorem Br(k:Nat)(ds:List D){b o':Nat}{B:ag}(ho:o.op = .load t y:=by exact rfl)(hy:aF x y = .v (.pointer (some ⟨b,o',none⟩)):=by exact ot)(ha:qi P t true=true:=by kernel_rfl)(hk:x.S[k]?=some B:=by exact rfl)(hb:B.b=b:=by exact rfl)(hd:(B.cs.drop o').take ds.length=ds:=by exact rfl)(hne:isMap B.e=false:=by exact rfl)(hn:qh P t ds.length=true:=by kernel_rfl):bV P G x o (.fm k) (.agg ds):=Af (hne:=hne) ho hy hk hb (iw ha) (lm hn) rfl hd
inductive IX (sz:Nat) (i:Int):D→D→Prop
 | l {cs:List D} {len j:Nat} (hi:i=j) (hj:j<len):IX sz i (.list sz cs len) (.fp cs (j*sz))
 | r {b o' len cap j:Nat} (hi:i=j) (hj:j<len):IX sz i (.v (.slice (some ⟨b,o',none⟩) len cap)) (.v (.pointer (some ⟨b,o'+j*sz,none⟩)))
theorem dx (sz:Nat) {t:TypeId} {z:Operand} {k:IntKind} {i:Int} {d:D} (ho:o.op = .indexAddr t y z:=by exact rfl) (hy:aF x y=d:=by exact ot) (hz:aF x z = .v (.int k i):=by first|exact ot|exact bH) (hs:Ch P t sz=true:=by kernel_rfl)
  (h:IX sz i d d':=by first|exact .l rfl w5|exact .r rfl w5|exact .l (Int.toNat_of_nonneg w4).symm w4|exact .r (Int.toNat_of_nonneg w4).symm w4):bV P G x o .none d':=by
 obtain⟨e,h1,h2⟩:=afe hs;cases h with
 | l hi hj=>exact NZ ho hy hz h1 h2 hi hj
 | r hi hj=>exact Nz ho hy hz h1 h2 hi hj
theorem qj{t:TypeId}{d:D}{m:Nat}{ts:Array TypeId}(ho:o.op = .call {callee:=.builtin .len,args:=#[y],argTypes:=ts}:=by exact rfl)(ht:ts = #[t]:=by exact rfl)(hy:aF x y=d:=by exact ot)(hs:LM P t=true:=by kernel_rfl)(h:(∃sz cs,d = .list sz cs m)∨∃ad cap,d = .v (.slice ad m cap):=by first|exact .inl ⟨_,_,rfl⟩|exact .inr ⟨_,_,rfl⟩):bV P G x o .none (.v (.int .i64 m)):=by
 obtain⟨e,he⟩:=adS hs;rcases h with ⟨sz,cs,rfl⟩|⟨ad,cap,rfl⟩
 ·exact Y0 ho ht hy he
 exact NA ho ht hy he
theorem mE {op:BinOp} {t t':TypeId} {z:Operand} {u u' r:Value} (ho:o.op = .binOp op t y z t':=by exact rfl) (hy:aF x y = .v u:=by first|exact ot|exact bH) (hz:aF x z = .v u':=by first|exact ot|exact bH)
  (hb:kp P op t u u' r:=by first|exact QN|exact QJ|exact jZ (wrap_i64 w4 w4)|exact fV (wrap_i64 w4 w4)|exact QO|exact QL|exact QK|exact QM|exact Io (wrap_i64 w4 w4)|exact Pd|exact Pe|exact aaw|exact aax|exact aay|exact aaz|exact Iq w4):bV P G x o .none (.v r):=cX ho hy hz hb
theorem kI{t:TypeId}(ho:o.op = .unOp .not t y:=by exact rfl)(hy:aF x y = .v (.bool b):=by exact ot):bV P G x o .none (.v (.bool !b)):=D0 ho hy adO
theorem wC{z:Operand}{d:D}(ho:o.op = .pick c y z:=by exact rfl)(hc:aF x c = .v (.bool b):=by exact ot)(h:b=true:=by first|rfl|assumption)(hd:aF x y=d:=by first|exact ot|exact bH):bV P G x o .none d:=XM ho hc h hd
theorem uR{z:Operand}{d:D}(ho:o.op = .pick c y z:=by exact rfl)(hc:aF x c = .v (.bool b):=by exact ot)(h:b=false:=by first|rfl|assumption)(hd:aF x z=d:=by first|exact ot|exact bH):bV P G x o .none d:=XN ho hc h hd
/-! ### Steps -/
theorem bQ{d:D}(h:bV P C.G ⟨n,e,S⟩ o kd d)(K:OD P C ops l ⟨n,(t,d)::e,S⟩ Q)(hw:bZ ops ⟨n,e,S⟩ o true:=by first|exact ry rfl|exact sX rfl rfl rfl lk je)(hd:o.dst=some t:=by exact rfl):OD P C ops (o::l) ⟨n,e,S⟩ Q:=OD.still hw hd h K
theorem Ci(K:OD P C ops l ⟨n,(t,.v (.tuple #[]))::e,S⟩ Q)(hw:bZ ops ⟨n,e,S⟩ o false:=by exact mb rfl rfl rfl lk je)(hd:o.dst=some t:=by exact rfl):OD P C ops (o::l) ⟨n,e,S⟩ Q:=OD.skip hw hd K
inductive fx:List Nat→List (Nat×D)→List (Nat×D)→Prop
 | nil {e:List (Nat×D)}:fx [] e []
 | cons {t:Nat} {ts:List Nat} {d:D} {e l':List (Nat×D)} (h:look t e=d) (k:fx ts e l'):fx (t::ts) e ((t,d)::l')
theorem fx.j5{ts:List Nat}{e:List (Nat×D)}(h:fx ts e l'):mO e l':=by
 induction h with
 | nil=>trivial
 | cons h _ ih=>exact⟨h,ih⟩
theorem VX(ts:List Nat)(K:Q .normal ⟨n,l',S⟩)(h:fx ts e l':=by repeat (first|exact fx.nil|(apply fx.cons;focus exact lk))):OD P C ops [] ⟨n,e,S⟩ Q:=OD.wk (Wk.dL rfl rfl h.j5) (OD.nil K)
/-! ### Code that stands ahead of what is looked at is entered -/
def isR:Code→Bool
 | .region ..=>true
 | _=>false
theorem sN_{c d:Code}(K:CD P C c x (Bu P C d Q))(h:isR c=false:=by exact rfl):CD P C (.seq c d) x Q:=CD.seq K
theorem mW{q:Prop}(h:q→p:=by intro k;(repeat (first|refine sN_ ?_|refine CD.skip ?_|refine CD.block ?_|refine CD.exit ?_|refine CD.ret ?_|fail));exact k):q→p:=h
theorem eE{fn:Func}{ex:Exit}{d:D}(hp:post d [])(h0:Body P fn post ex ⟨n,e,S⟩→p:=by exact mW)(he:ex = .normal∨ex = .ret:=by first|exact .inr rfl|exact .inl rfl)(hr:fn.results = #[.tmp t]:=by exact rfl)(ht:Nat.blt t n=true:=by exact rfl)(hd:look t e=d:=by exact lk):p :=
 h0 ⟨he,d,[],nil_sublist _,QH hr (yf (Nat.le_of_ble_eq_true ht) hd),hp⟩
theorem LF{fn:Func}{ex:Exit}{t':Nat}{d:D}(hp:post (.dy [d,d']) [])(h0:Body P fn post ex ⟨n,e,S⟩→p:=by exact mW)(he:ex = .normal∨ex = .ret:=by first|exact .inr rfl|exact .inl rfl)(hr:fn.results = #[.tmp t,.tmp t']:=by exact rfl)(ht:Nat.blt t n=true:=by exact rfl)(Ga:Nat.blt t' n=true:=by exact rfl)(hd:look t e=d:=by exact lk)(hd':look t' e=d':=by exact lk):p :=
 h0 ⟨he,_,[],nil_sublist _,Il hr (yf (Nat.le_of_ble_eq_true ht) hd) (yf (Nat.le_of_ble_eq_true Ga) hd'),hp⟩
theorem cj{id:Nat}{r:List Oper}{d:Code}(h:OD P C r.toArray r x (Bu P C d Q))(h0:CD P C (.seq (.region id r.toArray false) d) x Q→p:=by exact mW):p:=h0 (CD.seq (CD.region h))
theorem sF{id:Nat}{r:List Oper}(h:OD P C r.toArray r x Q)(h0:CD P C (.region id r.toArray false) x Q→p:=by exact mW):p:=h0 (CD.region h)
theorem ez{d e:Code}(ht:CD P C d x Q)(h0:CD P C (.cond c d e) x Q→p:=by exact mW)(hc:aF x c = .v (.bool b):=by exact ot)(hb:b=true:=by first|rfl|assumption):p:=h0 (CD.afc hc hb ht)
theorem fG{d e:Code}(ht:CD P C e x Q)(h0:CD P C (.cond c d e) x Q→p:=by exact mW)(hc:aF x c = .v (.bool b):=by exact ot)(hb:b=false:=by first|rfl|assumption):p:=h0 (CD.JD hc hb ht)

end Go.Proofs.YtbcmjoaggammcaaGreatDoor.V
namespace Go.Proofs.YtbcmjoaggammcaaGreatDoor.Tab
open List
open Go.RowKit Go.ChangeShapes
variable {H:Type} {enc:TypeId×Value→H} {P:Program} {w:World} {base:Nat} {sp:Nat→Bool} {held:Bool}
def mj(w:World)(g:Nat)(l:List Value):Prop:=∀i v,l[i]?=some v→w.cell? ⟨g,i,none⟩=some v

end Go.Proofs.YtbcmjoaggammcaaGreatDoor.Tab
namespace Go.Proofs.YtbcmjoaggammcaaGreatDoor.V
open List
open Go.RowKit
variable {G:List (Nat×List Value)} {α:Type} {t:TypeId}
def Bw(w:World)(g:Nat)(l:List Value):Prop:=∀i v,l[i]?=some v→nI w g i v
theorem Bw.of{w:World}{g:Nat}{l:List Value}(h:Tab.mj w g l)(hp:l.all qw=true):Bw w g l:=fun i v hi=>.of (h i v hi) (O8 hp hi)
theorem VP.run {P:Program} {f:FuncId} {args:List D} {vs:List Value} {r:Value} {w:World} (h:VP P G f args (.v r))
  (hG:∀g∈G,g.2≠[]∧Bw w g.1 g.2) (hr:cG w (live (fun _=>False) []) args vs):Calls P f vs.toArray w fun e w'=>e = .returned r∧Below w.heap.size w w':=by
 have hp:F9 G (fun _=>False) w [] args vs:=by
  refine⟨fun _ h=>h.elim,fun g hg=>⟨⟨?_,by simp[ap],fun h=>h⟩,(hG g hg).2⟩,⟨fun B E=>by simp at E,by simp[ap]⟩,hr⟩;obtain⟨h1,h2⟩:=hG g hg;cases hl:g.2 with
  | nil=>exact absurd hl h1
  | cons v l=>exact(h2 0 v (by rw[hl];rfl)).lt
 refine(h _ w vs hp).mono fun e w' ⟨v,I,S',h1,⟨h2,h3⟩,h4,h5,h6⟩=>?_;subst h2;rw[h5.kw] at h1;exact⟨h1,h6.os,h6.tape,h6.output,h6.size,fun k hk=>(h6.block k hk (by simp[ap])).1⟩
theorem cG.vs(w:World)(L:Nat→Prop)(vs:List Value):cG w L (vs.map .v) vs:=⟨by simp,fun i h1 h2=>by rw[getElem_map];exact .v _⟩
theorem aff{a:Int}(h:(Lit.int .i64 a).wf=true):-9223372036854775808≤a∧a≤9223372036854775807:=bounds_i64 h

variable {H:Type} {enc:TypeId×Value→H} {P:Program} {w:World} {base:Nat} {sp:Nat→Bool} {held:Bool}
def oF(enc:TypeId×Value→H)(P:Program)(w:World)(base:Nat)(sp:Nat→Bool)(held:Bool)(t:TypeId)(g:α→List D)(ok:α→Prop):Prop :=
 ∀fuel cs x,DataW.trod enc P w base sp held fuel t cs=some x→∃a,cG w (fun _=>False) (g a) cs∧ok a
theorem uC(ht:P.underlying t=some (.int .i64)):oF enc P w base sp held t (fun n:Int=>[.v (.int .i64 n)]) (fun n=>-9223372036854775808≤n∧n≤9223372036854775807):=fun fuel cs x h=>by
 obtain⟨n,rfl,_,hw⟩:=DataW.trod_int ht h;exact⟨n,cG.vs w _ [_],aff hw⟩
theorem ab6(ht:P.underlying t=some .bool):oF enc P w base sp held t (fun n:Bool=>[.v (.bool n)]) (fun _=>True):=fun fuel cs x h=>by
 obtain⟨n,rfl,_⟩:=DataW.trod_bool ht h;exact⟨n,cG.vs w _ [_],trivial⟩
theorem N2(ht:P.underlying t=some .string):oF enc P w base sp held t (fun n:ByteArray=>[.v (.string n)]) (fun s=>s.size≤maxLen):=fun fuel cs x h=>by
 obtain⟨n,rfl,_,hw⟩:=DataW.trod_string ht h;exact⟨n,cG.vs w _ [_],hw⟩
theorem oF.map{β:Type}{g:α→List D}{ok:α→Prop}{I:β→List D}{E:β→Prop}(h:oF enc P w base sp held t g ok)(f:α→β)(hg:∀a,I (f a)=g a)(aQ:∀a,ok a→E (f a)):oF enc P w base sp held t I E:=fun fuel cs x hx=>by
 obtain⟨a,h1,h2⟩:=h fuel cs x hx;exact⟨f a,by rw[hg];exact h1,aQ a h2⟩
theorem Yd {f0 f1 f2:Field} {E I O:Type} {g0:E→List D} {g1:I→List D} {g2:O→List D} {k0:E→Prop} {k1:I→Prop} {k2:O→Prop} {n0 n1 n2:Nat}
  (ht:P.underlying t=some (.struct #[f0,f1,f2])) (hc:P.cellsOf t=n0+n1+n2) (Z:f0.offset=0) (o1:f1.offset=n0) (o2:f2.offset=n0+n1) (c0:P.cellsOf f0.type=n0) (c1:P.cellsOf f1.type=n1) (c2:P.cellsOf f2.type=n2)
  (r0:oF enc P w base sp held f0.type g0 k0) (r1:oF enc P w base sp held f1.type g1 k1) (r2:oF enc P w base sp held f2.type g2 k2) :
  oF enc P w base sp held t (fun a:E × I × O=>g0 a.1++(g1 a.2.1++g2 a.2.2)) (fun a=>k0 a.1∧k1 a.2.1∧k2 a.2.2):=fun fuel cs x h=>by
 obtain⟨xs,n,_,_,hl,fQ,hf⟩:=DataW.trod_struct ht h;have U:=hf 0 f0 rfl;have e1:=hf 1 f1 rfl;have e2:=hf 2 f2 rfl;rw[Z,c0,drop_zero] at U;rw[o1,c1] at e1;rw[o2,c2] at e2;have VY:xs.length=3:=fQ;rw[getElem?_eq_getElem w4] at U e1 e2;obtain⟨a0,p0,q0⟩:=r0 _ _ _ U;obtain⟨a1,p1,q1⟩:=r1 _ _ _ e1;obtain⟨a2,p2,q2⟩:=r2 _ _ _ e2;refine⟨(a0,a1,a2),?_,q0,q1,q2⟩;have dj:cs=cs.take n0++((cs.drop n0).take n1++(cs.drop (n0+n1)).take n2):=by
  rw[←drop_drop,take_of_length_le (l:=drop n1 (drop n0 cs)) (by rw[length_drop,length_drop];omega),take_append_drop,take_append_drop]
 rw[dj];exact p0.append (p1.append p2)
theorem aaA {e:TypeId} {sz b':Nat} {g:α→List D} {ok:α→Prop} (ht:P.underlying t=some (.slice e)) (hce:P.cellsOf e=sz) (gP:0<sz) (re:oF enc P w base sp held e g ok) (hg:∀a,(g a).length=sz) {v:Value} {d:DataW H} {p:List MemPlace}
  (hval:Value.okWide P w .any b' t v) (h:DataW.Trod enc P w base sp held t v d p):∃l:List α,cl w (fun _=>False) (.list sz (l.flatMap g) l.length) v∧(∀x∈l,ok x)∧l.length≤maxLen:=by
 have hv:Cell.okWide P w .any b' t v:=(by unfold Value.okWide at hval;rw[ht] at hval;exact hval)
 unfold Cell.okWide at hv;rw[ht] at hv;obtain⟨m,hm⟩:=h;have hv2:Cell.ok P w .any b' t v:=(by revert hv;cases v<;>exact id)
 unfold Cell.ok at hv2;rw[ht] at hv2;cases v with
 | slice ad len cap =>
  rcases Go.Deep.open_slice ht hm with ⟨h1,_⟩|⟨a,U,Z,mm,n,Dd,Pl,h1,hb,hl,dr,LO,_,hx⟩
  ·have e1:Value.slice ad len cap = .slice none 0 0:=(by simpa[Value.cells] using h1)
   rw[e1];exact⟨[],.nil sz,(fun x hx=>by cases hx),Nat.zero_le _⟩
  have e1:Value.slice ad len cap = .slice (some a) U Z:=(by simpa[Value.cells] using h1)
  cases e1;have agJ:w.has P .any b' a e cap:=hv2.2.2;obtain⟨_,I,row,cells,qU,_⟩:=agJ;obtain⟨b,o,s⟩:=a;have E:s=none:=I;subst E;have aa:b<w.heap.size:=by
   rcases Nat.lt_or_ge b w.heap.size with h2|h2
   ·exact h2
   simp[World.shape?,Array.getElem?_eq_none h2] at qU
  have hle:len≤mm:=(by rw[LO];split<;>omega)
  have each:∀i:Fin len,∃a:α,(∃cs',w.cells? base ((⟨b,o,none⟩:Addr).add (i.1*P.cellsOf e)) (P.cellsOf e)=some cs'∧cG w (fun _=>False) (g a) cs')∧ok a:=fun i=>by
   obtain⟨cs',h1,h2⟩:=hx i.1 w4;obtain⟨a,h3,h4⟩:=re _ _ _ h2;exact⟨a,⟨cs',h1,h3⟩,h4⟩
  let l:List α:=ofFn fun i:Fin len=>Classical.choose (each i)
  have lK:l.length=len:=(by simp[l])
  have VZ:∀i (hi:i<l.length),(∃cs',w.cells? base ((⟨b,o,none⟩:Addr).add (i*P.cellsOf e)) (P.cellsOf e)=some cs'∧cG w (fun _=>False) (g l[i]) cs')∧ok l[i]:=fun i hi=>by
   have:=Classical.choose_spec (each ⟨i,by omega⟩);simpa[l] using this
  refine⟨l,?_,fun x hx=>?_,by omega⟩
  ·have key:∀k,k<(l.flatMap g).length→∃u,w.cell? ⟨b,o+k,none⟩=some u∧∀h:k<(l.flatMap g).length,cl w (fun _=>False) (l.flatMap g)[k] u:=fun k hk=>by
    rw[cr hg] at hk;have hi:k/sz<l.length:=Nat.div_lt_of_lt_mul (by rw[Nat.mul_comm];exact hk);have hj:k % sz<sz:=Nat.mod_lt _ gP;have kV:k/sz*sz+k % sz=k:=(by rw[Nat.mul_comm];exact Nat.div_add_mod k sz)
    obtain⟨⟨cs',h1,h2⟩,_⟩:=VZ _ hi;obtain⟨_,h4,h5⟩:=World.cells?_some h1;have h6:=h5 (k % sz) w4;have lH:k % sz<cs'.length:=(by omega)
    rw[getElem?_eq_getElem lH,Go.Deep.add_add,hce,kV,Addr.add_mid] at h6;refine⟨_,h6,fun h=>?_⟩;have h7:=h2.2 (k % sz) (by rw[hg];exact hj) lH;have h8:=yg hg hi (getElem?_eq_getElem (show k % sz<(g l[k/sz]).length by rw[hg];exact hj));rw[kV,getElem?_eq_getElem h] at h8;rw[Option.some.inj h8];exact h7
   have V0:len≤cap:=hl;have O:Value.slice (some ⟨b,o,none⟩) len cap=Value.slice (some ⟨b,o,none⟩) l.length cap:=(by rw[lK])
   rw[O];refine cl.list (L:=fun _=>False) sz (l.flatMap g) l.length b o cap (fun k=>(w.cell? ⟨b,o+k,none⟩).getD undef) (cr hg l) w4 dr aa (fun h=>h.elim) (fun k hk=>?_) (fun k hk=>?_)
   ·obtain⟨u,h1,_⟩:=key k hk;rw[h1];rfl
   obtain⟨u,h1,h2⟩:=key k hk;simp only[h1,Option.getD_some];exact h2 hk
  obtain⟨i,hi,rfl⟩:=mem_iff_getElem.1 hx;exact(VZ i hi).2
 | _=>exact hv2.elim
theorem VP.agK {f:FuncId} {args:List D} {vs:List Value} {r:Value} (h:VP P G f args (.v r))
  (hG:∀g∈G,g.2≠[]∧Bw w g.1 g.2) (hr:cG w (fun _=>False) args vs):Calls P f vs.toArray w fun e w'=>e = .returned r∧Below w.heap.size w w' :=
 h.run hG (hr.mono fun b _ _=>⟨rfl,fun hl=>by rcases hl with hl|hl;exact hl;simp[ap] at hl⟩)

end Go.Proofs.YtbcmjoaggammcaaGreatDoor.V
namespace Go.Proofs.YtbcmjoaggammcaaGreatDoor.V
open List
open Go.RowKit
variable {P:Program} {C:dF} {G:List (Nat×List Value)} {Q:Exit→St→Prop} {x:St} {ops:Array Oper} {l:List Oper} {o:Oper} {S1 T:List Nat} {fuel i:Nat} {ld:Array Bool}
variable {sz n k b o' cap h' m c:Nat} {B:ag} {cs':List D} {t e:TypeId} {y:Operand} {lo hi:Option Operand}
theorem vB:∀(ds cs:List D) (off:Nat),off+ds.length≤cs.length→cZ cs off ds=cs.take off++ds++cs.drop (off+ds.length)
 | [],cs,off,h=>by simp[cZ]
 | d::ds,cs,off,h=>by
  simp only[length_cons] at h;have e:cs.set off d=(cs.take off++[d])++cs.drop (off+1):=(by rw[set_eq_take_append_cons_drop,if_pos w4];simp)
  have hl:(cs.take off++[d]).length=off+1:=(by simp;omega)
  rw[cZ,vB ds _ (off+1) gN,e,take_left' hl,←drop_drop,drop_left' hl,drop_drop];simp only[append_assoc,cons_append,nil_append,length_cons];congr 4;omega
theorem og{α:Type}{g:α→List D}(hg:∀a,(g a).length=sz)(ls:List α){i:Nat}(a:α)(hi:i<ls.length):cZ (ls.flatMap g) (i*sz) (g a)=(ls.set i a).flatMap g:=by
 have h1:(i+1)*sz≤ls.length*sz:=Nat.mul_le_mul_right _ hi;rw[Nat.succ_mul] at h1;rw[vB _ _ _ (by rw[cr hg,hg];exact h1),hg,set_eq_take_append_cons_drop,if_pos hi,sY hg,←Nat.succ_mul,uu hg];simp[flatMap_append]
theorem Wk.Uk{l:List (Nat×D)}{S:List ag}(hk:S[k]?=some B)(hl:cs'.length≤B.size)(hc:∀(i:Nat) (d:D),cs'[i]?=some d→B.cs[i]?=some d∨d=D.bU):Wk ⟨n,l,S⟩ ⟨n,l,S.set k {B with cs:=cs'}⟩:=fun C a w h=>by
 have dR:=(List.getElem?_eq_some_iff.1 hk).1;have U:=(List.getElem?_eq_some_iff.1 hk).2;have E:ap (S.set k {B with cs:=cs'})=ap S:=by
  unfold ap;rw[map_set];apply ext_getElem bu;intro i q1 q2;rw[getElem_set];split
  ·rename_i e;subst e;simp[U]
  rfl
 have I:live C.X (S.set k {B with cs:=cs'})=live C.X S:=(by funext b;simp only[live,E])
 refine⟨h.defers,h.size,fun t ht=>?_,⟨fun B' Z=>?_,?_⟩,?_,h.ex,h.eJ⟩
 ·simp only[I];exact h.env t ht
 ·simp only[I];obtain⟨j,hj,O⟩:=mem_iff_getElem.1 Z;rw[length_set] at hj;rw[getElem_set] at O;by_cases e:k=j
  ·rw[if_pos e] at O;subst O;obtain⟨r0,cur,r1,r2,r3,r4⟩:=h.own.at_ B (mem_of_getElem? hk);refine⟨r0,cur,r1,r2,hl,fun i hi=>?_⟩;simp only at hi hl;have lI:i<cur.size:=(by omega)
   rcases hc i _ (getElem?_eq_getElem hi) with hd|hd
   ·obtain⟨hd1,hd2⟩:=List.getElem?_eq_some_iff.1 hd;obtain⟨u,hu,hq⟩:=r4 i hd1;rw[hd2] at hq;exact⟨u,hu,hq⟩
   exact⟨cur[i],by simp[lI],by simp only[hd];exact .bU _⟩
  rw[if_neg e] at O;subst O;exact h.own.at_ _ (getElem_mem hj)
 ·simp only[E];exact h.own.apart
 simp only[E];exact h.fr
/-! ### A slice of a row of one's own -/
def eD(cap l sz o':Nat):Nat:=if cap=l then o' else o'+l*sz
theorem Xo {len l:Nat} (ho:o.op = .slice t y lo hi none) (hy:aF x y = .v (.slice (some ⟨b,o',none⟩) len cap)) (eO:mi x lo l 0) (er:mi x hi h' len)
  (E:∀w,(underlying t).run P w = .ok (.slice e) w) (hs:∀w,(sizeOf e).run P w = .ok sz w) (h1:l≤h') (h2:h'≤cap):bV P G x o .none (.v (.slice (some ⟨b,eD cap l sz o',none⟩) (h'-l) (cap-l))):=fun C a w _ h =>
 ⟨_,.v _,fun w' _=>by
  have b1:=rA h eO;have b2:=rA h er;have b3:=fun w=>vy (P:=P) (il:=true) (w:=w) b1 b2 h1 h2;unfold execOp eD;simp only[ho,h.flat hy,Instr.sliceAt,Instr.slice,E,Sem.run_bind,Result.andThen_ok,Option.map_none,b3,hs,Sem.run_pure];by_cases hc:cap=l
  ·rw[if_pos hc,if_pos hc]
  rw[if_neg hc,if_neg hc];simp only[Option.map_some,Addr.add_mid]⟩
theorem yc {l len:Nat} (eO:lo=none→l=0) (er:hi=none→h'=len)
  (E:∀w,(underlying t).run P w = .ok (.slice e) w) (hs:∀w,(sizeOf e).run P w = .ok sz w) (h1:l≤h') (h2:h'≤cap):Rs P G t lo hi l h' (.v (.slice (some ⟨b,o',none⟩) len cap)) (.v (.slice (some ⟨b,eD cap l sz o',none⟩) (h'-l) (cap-l))):=fun x o y ho hy hl I =>
 Xo ho hy (qs hl eO) (qs I er) E hs h1 h2
theorem Nd {len l:Nat} {k1 k2 k3:IntKind} {lo hi E:Operand} (ho:o.op = .slice t y (some lo) (some hi) (some E)) (hy:aF x y = .v (.slice (some ⟨b,o',none⟩) len cap)) (eO:aF x lo = .v (.int k1 l)) (er:aF x hi = .v (.int k2 h')) (dr:aF x E = .v (.int k3 m))
  (I:∀w,(underlying t).run P w = .ok (.slice e) w) (hs:∀w,(sizeOf e).run P w = .ok sz w) (h1:l≤h') (h2:h'≤m) (h3:m≤cap):bV P G x o .none .bU:=fun C a w _ h =>
 ⟨.slice (some ⟨b,if m=l then o' else o'+l*sz,none⟩) (h'-l) (m-l),.bU _,fun w' _=>by
  have b3:∀w,(Instr.sliceBounds true len cap (some (.int k1 l)) (some (.int k2 h')) (some (.int k3 m))).run P w = .ok (l,h',m) w:=fun w=>by
   unfold Instr.sliceBounds;simp[Dz,h1,h2,h3]
  unfold execOp;simp only[ho,h.flat hy,h.flat eO,h.flat er,h.flat dr,Instr.sliceAt,Instr.slice,I,Sem.run_bind,Result.andThen_ok,Option.map_some,b3,hs,Sem.run_pure];by_cases hc:m=l
  ·rw[if_pos hc,if_pos hc]
  rw[if_neg hc,if_neg hc];simp only[Option.map_some,Addr.add_mid]⟩
/-! ### append within a row -/
theorem XB {s:Operand} {t e tt oy:Nat} {new:List D} (ho:o.op = .call {callee:=.builtin .append,args:=#[s,y],argTypes:=#[t,t]}) (hd:o.dst=some tt)
  (ht:P.underlying t=some (.slice e)) (hi:(P.info? e).map (fun i=>i.size)=some sz)
  (hs:aF x s = .v (.slice (some ⟨b,0,none⟩) n cap)) (hk:x.S[k]?=some B) (hb:B.b=b) (hy:aF x y = .v (.slice (some ⟨b,oy,none⟩) m c))
  (O:(B.cs.drop oy).take (m*sz)=new) (hlen:new.length=m*sz) (gZ:∀d∈new,one d=true) (Z:n+m≤cap) (hl:n*sz+m*sz≤B.cs.length) (dj:cZ B.cs (n*sz) new=cs') (hne:isMap B.e=false:=by rfl) :
  fD P G x o [b] (fun y=>y=⟨x.n,(tt,.v (.slice (some ⟨b,0,none⟩) (n+m) cap))::x.env,x.S.set k {B with cs:=cs'}⟩):=fun C a w K Q hG h hK=>by
 subst dj hb;obtain⟨i,jU,rfl⟩:∃i,P.info? e=some i∧i.size=sz:=by
  cases h:P.info? e with
  | none=>simp[h] at hi
  | some i=>simp[h] at hi;exact⟨i,rfl,hi⟩
 obtain⟨h0,cur,q1,q2,q3,q4⟩:=h.fm hk;rw[jY hne] at q1;have jV:∀j,j<m*i.size→∃hj:oy+j<B.cs.length,∃hn:j<new.length,new[j]=B.cs[oy+j]:=fun j hj=>by
  have h1:j<new.length:=(by omega)
  have h2:oy+j<B.cs.length:=by
   have:=congrArg length O;rw[length_take,length_drop,hlen] at this;omega
  refine⟨h2,h1,?_⟩;have e2:new[j]?=some B.cs[oy+j]:=(by rw[←O,getElem?_take,if_pos hj,getElem?_drop,getElem?_eq_getElem h2])
  rw[getElem?_eq_getElem h1] at e2;exact Option.some.inj e2
 let vs:List Value:=(range (m*i.size)).map fun j=>cur.getD (oy+j) undef
 have I:vs.length=m*i.size:=(by simp[vs])
 have hv:∀j (hj:j<m*i.size),∃u,cur[oy+j]?=some u∧vs[j]?=some u∧cl w (live C.X x.S) (new[j]'w4) u:=fun j hj=>by
  obtain⟨h1,h2,h3⟩:=jV j hj;obtain⟨u,E,hq⟩:=q4 (oy+j) h1;refine⟨u,E,?_,h3 ▸ hq⟩;simp[vs,hj,E]
 have hr:cG w (live C.X x.S) new vs:=⟨by rw[I,hlen],fun j h1 h2=>by
  obtain⟨u,_,E,hq⟩:=hv j w4;rw[getElem?_eq_getElem h2] at E;rw[Option.some.inj E];exact hq⟩
 obtain⟨s1,s2,s3⟩:=h.store (hne:=hne) hk hr (o':=n*i.size) (by rw[hlen];exact hl);have U:=run_append_room_cells (P:=P) w t o.type e i ht jU B.b 0 n cap ⟨B.b,oy,none⟩ m c vs I (fun j u E=>by
   rw[Addr.add_mid];have hj:j<m*i.size:=(by rw[←I];exact(List.getElem?_eq_some_iff.1 E).1)
   obtain⟨u',xp,xq,_⟩:=hv j hj;rw[xq] at E;rw[←E];exact nF q1 xp) (fun u E=>by
   obtain⟨j,hj,rfl⟩:=mem_iff_getElem.1 E;have jj:j<new.length:=(by omega)
   exact(hr.2 j jj hj).At (gZ _ (getElem_mem jj))) Z (fun j hj=>by
   have:(0+n*i.size+j)<cur.size:=(by rw[I] at hj;omega)
   rw[nF q1 (u:=cur[0+n*i.size+j]) (by simp[this])];rfl) (fun j hj=>by unfold World.frozen?;simp[q1])
 rw[Nat.zero_add] at U;have JE:=Ai (o:=o) (a:=a) ho (h.flat hs) (h.flat hy) U;unfold Oper.wp;rw[JE,Oper.upon_value,hd];exact hK _ _ _ rfl (s1.put (.v _)) s2 s3
theorem bf.Pg {s:Operand} {t e tt oy:Nat} {new:List D} (U:ops[i]?=some o) (hw:bZ ops x o true) (ho:o.op = .call {callee:=.builtin .append,args:=#[s,y],argTypes:=#[t,t]}) (hd:o.dst=some tt)
  (ht:P.underlying t=some (.slice e)) (hi:(P.info? e).map (fun i=>i.size)=some sz)
  (hs:aF x s = .v (.slice (some ⟨b,0,none⟩) n cap)) (hk:x.S[k]?=some B) (hb:B.b=b) (hy:aF x y = .v (.slice (some ⟨b,oy,none⟩) m c))
  (O:(B.cs.drop oy).take (m*sz)=new) (hlen:new.length=m*sz) (gZ:∀d∈new,one d=true) (E:n+m≤cap) (hl:n*sz+m*sz≤B.cs.length) (dj:cZ B.cs (n*sz) new=cs') (hT:∀b∈T,b∈ap (x.S.eraseIdx k))
  (K:AD P C ops S1 T fuel (ld.setIfInBounds i true) ⟨x.n,(tt,.v (.slice (some ⟨b,0,none⟩) (n+m) cap))::x.env,x.S.set k {B with cs:=cs'}⟩ Q) (hne:isMap B.e=false:=by rfl):bf P C ops S1 T fuel ld x Q i :=
 bf.fM U hw (XB (hne:=hne) ho hd ht hi hs hk hb hy O hlen gZ E hl dj) (fun C a w hs Z I=>hb ▸ Fs hs hk hT Z I) (fun Z I=>by
  have:Z=b:=(by simpa using I)
  subst this;rw[←hb];exact AE hk) fun y hy=>hy ▸ K
/-! ### clear, behind what is known -/
theorem Y6 {s:Operand} {t e:Nat} {z:Value} (ho:o.op = .call {callee:=.builtin .clear,args:=#[s],argTypes:=#[t]}) (hd:o.dst=none)
  (ht:P.underlying t=some (.slice e)) (hz:∀w,(zeroValue e).run P w = .ok z w) (eR:z.cells.size=sz) (lM:z.cells.all (fun v=>v.oneCell')=true)
  (hs:aF x s = .v (.slice (some ⟨b,o',none⟩) n c)) (hk:x.S[k]?=some B) (hb:B.b=b) (kJ:0<n→B.cs.length≤o'∧o'+n*sz≤B.size) (hne:isMap B.e=false:=by rfl) :
  fD P G x o [b] (fun y=>y=x):=fun C a w K Q hG h hK=>by
 subst hb;have kK:∀{w':World},(Builtin.clear_ #[t] o.type #[a.eval s]).run P w = .ok (.tuple #[]) w'→(execOp a.eval o).run P w = .ok (.value (.tuple #[])) w':=fun hr=>by
  unfold execOp;simp[ho,resolve,invoke,builtin,hr]
 rcases Nat.eq_zero_or_pos n with rfl|hn
 ·have O:(Builtin.clear_ #[t] o.type #[a.eval s]).run P w = .ok (.tuple #[]) w:=by
   rw[h.flat hs];simp[Builtin.clear_,run_underlying ht]
  unfold Oper.wp;rw[kK O,Oper.upon_value,hd];exact hK _ _ _ rfl h ⟨Nat.le_refl _,fun _ _ _=>rfl⟩ (Fr.refl _ _)
 obtain⟨aH,aX⟩:=kJ hn;let vs:=(Builtin.zeroCells z.cells n).toList
 have qX:vs.length=n*sz:=(by simp[vs,size_zeroCells,eR])
 have hv1:∀v∈vs,v.oneCell'=true:=fun v hv=>by
  simp only[vs,Builtin.zeroCells,Array.toList_map,mem_map] at hv;obtain⟨j,hj,rfl⟩:=hv;have jj:j<n*z.cells.size:=(by simpa using hj)
  have h0:0<z.cells.size:=by
   rcases Nat.eq_zero_or_pos z.cells.size with h0|h0
   ·rw[h0] at jj;simp at jj
   exact h0
  have aa:=Nat.mod_lt j h0;have:=Array.all_eq_true.1 lM _ aa;rw[getElem!_pos z.cells _ aa];exact this
 obtain⟨h0,cur,q1,q2,q3,q4⟩:=h.fm hk;rw[jY hne] at q1;have fq:=run_storeCells_cells (P:=P) B.b o' vs 0 w (fun j hj=>by
   have:(o'+0+j)<cur.size:=(by omega)
   rw[nF q1 (u:=cur[o'+0+j]) (by simp[this])];rfl) (fun j hj=>by unfold World.frozen?;simp[q1]) hv1
 have O:(Builtin.clear_ #[t] o.type #[a.eval s]).run P w = .ok (.tuple #[]) (w.setCells B.b o' vs):=by
  rw[h.flat hs];obtain⟨m,rfl⟩:∃m,n=m+1:=⟨n-1,by omega⟩
  simp only[Nat.add_zero] at fq;simp[Builtin.clear_,run_underlying ht,hz,vs,fq]
 have dR:=(List.getElem?_eq_some_iff.1 hk).1;have vl:=(List.getElem?_eq_some_iff.1 hk).2
 -- alC,stored,and U again
 let E:=B.cs++replicate (B.size-B.cs.length) D.bU
 have hw:=Wk.Uk (n:=x.n) (l:=x.env) (cs':=E) hk (by simp[E];omega) (fun i d I=>by
  rcases Nat.lt_or_ge i B.cs.length with hi|hi
  ·left;rw[←I];simp only[E];rw[getElem?_append_left hi]
  right;simp only[E] at I;rw[getElem?_append_right hi] at I;exact eq_of_mem_replicate (mem_of_getElem? I)) C a w h
 have fk:(⟨x.n,x.env,x.S.set k {B with cs:=E}⟩:St).S[k]?=some {B with cs:=E}:=(by simp[dR])
 have hjr:cG w (live C.X (⟨x.n,x.env,x.S.set k {B with cs:=E}⟩:St).S) (replicate (n*sz) D.bU) vs:=⟨by simp[qX],fun j h1 h2=>by rw[getElem_replicate];exact .bU _⟩
 obtain⟨s1,s2,s3⟩:=hw.store (hne:=hne) fk hjr (o':=o') (by simp[E];omega);have rR:cZ E o' (replicate (n*sz) D.bU)=E.take o'++replicate (n*sz) D.bU++E.drop (o'+n*sz):=by
  rw[vB _ _ _ (by simp[E];omega),length_replicate]
 have lF:(x.S.set k {B with cs:=cZ E o' (replicate (n*sz) D.bU)})[k]?=some {B with cs:=cZ E o' (replicate (n*sz) D.bU)}:=(by simp[dR])
 have h1:bF C ⟨x.n,x.env,x.S.set k {B with cs:=cZ E o' (replicate (n*sz) D.bU)}⟩ a (w.setCells B.b o' vs):=(by simpa[set_set] using s1)
 have h2:=Wk.Uk (n:=x.n) (l:=x.env) (cs':=B.cs) lF (by simpa using q3) (fun i d I=>by
  left;have hi:=(List.getElem?_eq_some_iff.1 I).1;simp only[rR];rw[append_assoc,getElem?_append_left (by simp[E];omega),getElem?_take,if_pos w4];simp only[E];rw[getElem?_append_left hi,I]) C a _ h1
 have hx:(⟨x.n,x.env,(x.S.set k {B with cs:=cZ E o' (replicate (n*sz) D.bU)}).set k {B with cs:=B.cs}⟩:St)=x:=by
  rw[set_set];have:x.S.set k {B with cs:=B.cs}=x.S:=by
   apply ext_getElem bu;intro i q1 q2;rw[getElem_set];split
   ·rename_i e;subst e;exact vl.symm
   rfl
  rw[this]
 have hbk:∀cs1:List D,ap (x.S.set k {B with cs:=cs1})=ap x.S:=fun cs1=>by
  unfold ap;rw[map_set];apply ext_getElem bu;intro i q1 q2;rw[getElem_set];split
  ·rename_i e;subst e;simp[vl]
  rfl
 have h3:bF C x a (w.setCells B.b o' vs):=by
  have Z:=h2;simp only at Z;rw[hx] at Z;exact Z
 simp only[set_set,hbk] at s3;unfold Oper.wp;rw[kK O,Oper.upon_value,hd];exact hK _ _ _ rfl h3 s2 s3
theorem OD.clear {s:Operand} {t e sz n b k o' c:Nat} {z:Value} {B:ag} (hw:bZ ops x o true) (ho:o.op = .call {callee:=.builtin .clear,args:=#[s],argTypes:=#[t]}) (hd:o.dst=none)
  (ht:P.underlying t=some (.slice e)) (hz:∀w,(zeroValue e).run P w = .ok z w) (eR:z.cells.size=sz) (E:z.cells.all (fun v=>v.oneCell')=true)
  (hs:aF x s = .v (.slice (some ⟨b,o',none⟩) n c)) (hk:x.S[k]?=some B) (hb:B.b=b) (I:0<n→B.cs.length≤o'∧o'+n*sz≤B.size) (K:OD P C ops l x Q) (hne:isMap B.e=false:=by rfl):OD P C ops (o::l) x Q :=
 OD.fM hw (Y6 (hne:=hne) ho hd ht hz eR E hs hk hb I) fun y hy=>hy ▸ K
/-! ### A call that looks at rows of one's own and keeps other blocks as they are -/
/-! ### The same blocks in another order: by counting -/
theorem iu{l r:List ag}(h:∀f:ag→Nat,(l.map f).sum=(r.map f).sum):l.Perm r:=by
 classical
 rw[perm_iff_count];intro a;have key:∀l:List ag,(l.map fun b=>if b=a then 1 else 0).sum=l.count a:=by
  intro l;induction l with
  | nil=>rfl
  | cons b l ih =>
   rw[map_cons,sum_cons,ih,count_cons];by_cases e:b=a<;>simp[e,Nat.add_comm]
 have:=h (fun b=>if b=a then 1 else 0);rw[key,key] at this;exact this
theorem xY{l r:List ag}(h:l.Perm r)(f:ag→Nat):(l.map f).sum=(r.map f).sum:=by
 induction h with
 | nil=>rfl
 | cons x _ ih=>simp[ih]
 | swap x y l=>simp only[map_cons,sum_cons];omega
 | trans _ _ h1 h2=>exact h1.trans h2
theorem NP.norm{Φ:St→Prop}:NP (fun e y=>e=Exit.normal∧Φ y):=fun c y t hq=>by cases hq.1

end Go.Proofs.YtbcmjoaggammcaaGreatDoor.V
namespace Go.Proofs.YtbcmjoaggammcaaGreatDoor.V
open List
open Go.RowKit
variable {P:Program} {C:dF} {G:List (Nat×List Value)} {Q:Exit→St→Prop} {x:St} {ops:Array Oper} {l:List Oper} {o:Oper}
variable {e sz cap b n u tt k:Nat} {α:Type} {ad:Option Addr} {S Sq R A S1 S2 S3:List ag} {t:TypeId} {y:Operand} {ls:List UInt8}
theorem iC{g:α→List D}:bq e sz (([]:List α).flatMap g) ([]:List α).length none 0 []:=.inl ⟨rfl,rfl,rfl,rfl,rfl⟩
theorem bq.cast{g:α→List D}{ls E:List α}(h:bq e sz (ls.flatMap g) ls.length ad cap S)(he:ls=E):bq e sz (E.flatMap g) E.length ad cap S:=he ▸ h
theorem bI{g:α→List D}{ls:List α}(h1:ls.length≤cap)(h2:cap≤maxLen):bq e sz (ls.flatMap g) ls.length (some ⟨b,0,none⟩) cap [⟨b,e,cap*sz,ls.flatMap g⟩]:=.inr ⟨b,rfl,h1,h2,rfl⟩
def ga(g:α→List D)(e sz:Nat)(ls:List α)(r:D)(S:List ag):Prop:=∃ad cap,r = .v (.slice ad ls.length cap)∧bq e sz (ls.flatMap g) ls.length ad cap S
theorem ga.view{g:α→List D}{ls:List α}{r:D}(hg:∀a,(g a).length=sz)(h:ga g e sz ls r S)(hne:isMap e=false:=by rfl):View S r (.list sz (ls.flatMap g) ls.length):=by
 obtain⟨ad,cap,rfl,ho⟩:=h;exact kZ (hne:=hne) ho (cr hg ls) (fun B E=>E)
theorem VC.given{g:α→List D}{ls:List α}{f:FuncId}{args:List D}(hg:∀a,(g a).length=sz)(h:VC P G f args [] (ga g e sz ls))(hne:isMap e=false:=by rfl):VP P G f args (.list sz (ls.flatMap g) ls.length) :=
 h.cover fun r S hr=>ga.view (hne:=hne) hg hr
theorem Wk.gW{t m:Nat}{l:List (Nat×D)}{cs:List D}(ht:look t l = .v (.slice ad m cap))(ho:bq e sz cs m ad cap Sq)(hl:cs.length=m*sz)(hp:S.Perm (Sq++R))(hne:isMap e=false:=by rfl):Wk ⟨n,l,S⟩ ⟨n,(t,.list sz cs m)::l,R⟩:=by
 refine(Wk.perm hp).trans ?_;rcases ho with ⟨rfl,rfl,rfl,rfl,rfl⟩|⟨b,rfl,h1,h2,rfl⟩
 ·exact Wk.ur ht
 exact Wk.uV (hne:=hne) (k:=0) rfl ht rfl hl h1 h2
theorem OD.gW{t m cap e sz:Nat}{Sq R:List ag}{cs:List D}{ad:Option Addr}(ht:V.look t x.env = .v (.slice ad m cap))(ho:bq e sz cs m ad cap Sq)(hl:cs.length=m*sz)(hp:x.S.Perm (Sq++R))(K:OD P C ops l ⟨x.n,(t,.list sz cs m)::x.env,R⟩ Q)(hne:isMap e=false:=by rfl):OD P C ops l x Q :=
 OD.wk (Wk.gW (hne:=hne) (n:=x.n) (S:=x.S) ht ho hl hp) K
theorem CD.gW{c:Code}{t m cap e sz:Nat}{Sq R:List ag}{cs:List D}{ad:Option Addr}(ht:V.look t x.env = .v (.slice ad m cap))(ho:bq e sz cs m ad cap Sq)(hl:cs.length=m*sz)(hp:x.S.Perm (Sq++R))(K:CD P C c ⟨x.n,(t,.list sz cs m)::x.env,R⟩ Q)(hne:isMap e=false:=by rfl):CD P C c x Q :=
 CD.wk (Wk.gW (hne:=hne) (n:=x.n) (S:=x.S) ht ho hl hp) K
theorem ga.mk{g:α→List D}{ls:List α}(h:bq e sz (ls.flatMap g) ls.length ad cap S):ga g e sz ls (.v (.slice ad ls.length cap)) S:=⟨ad,cap,rfl,h⟩
theorem ga.cast{g:α→List D}{ls E:List α}{r:D}(h:ga g e sz ls r S)(he:ls=E):ga g e sz E r S:=he ▸ h
theorem eB{ls E:List α}(h:ls=E):D.v (.slice ad ls.length cap)=D.v (.slice ad E.length cap):=by rw[h]
/-! One row among those at hand: ahead of all, and back. -/
theorem dA:(A++S1).Perm (S1++A):=perm_append_comm
theorem oe:(A++(S1++S2)).Perm (S1++(A++S2)):=perm_append_comm_assoc _ _ _
theorem xZ:(A++(S1++S2)).Perm (S2++(A++S1)):=(List.perm_append_comm.append_left A).trans oe
theorem HK:(A++(S1++(S2++S3))).Perm (S1++(A++(S2++S3))):=oe
theorem sN:(A++(S1++(S2++S3))).Perm (S2++(A++(S1++S3))):=(oe.append_left A).trans oe
theorem O3:((S1++A)++[]).Perm (A++S1):=by rw[append_nil];exact perm_append_comm
theorem aaB:((S2++A)++S1).Perm (A++(S1++S2)):=by rw[append_assoc];exact List.perm_append_comm.trans (by rw[append_assoc])
theorem dV:(S1++A).Perm (A++S1):=dA.symm
theorem iW:(S1++(A++S2)).Perm (A++(S1++S2)):=oe.symm
theorem x4:(S2++(A++S1)).Perm (A++(S1++S2)):=xZ.symm
theorem Pj:(S1++(A++(S2++S3))).Perm (A++(S1++(S2++S3))):=HK.symm
theorem vH:(S2++(A++(S1++S3))).Perm (A++(S1++(S2++S3))):=sN.symm
/-! ### A string appended to bytes -/
theorem M8 {w:World} (base:Nat) (t u ty e:TypeId) (i:TypeInfo) (ht:P.underlying t=some (.slice e)) (hu:P.underlying u=some .string) (hi:P.info? e=some i) (hz:i.zero=some (.int .u8 0))
  (E:i.size=1) (U:i.bytes=1) (v:Value) (n:Nat) (xs:List Value) (I:w.ownsRow base e 1 v n xs) (s:ByteArray)
  (gd:n+s.size≤maxLen) (O:n+s.size≤140737488355328) (Z:base≤w.heap.size) :
  ∃v' w',(Builtin.append_ #[t,u] ty #[v,.string s]).run P w = .ok v' w'∧w'.ownsRow base e 1 v' (n+s.size) (xs++Go.Lib.strCells s)∧w.grownBy w' v.ownBlock ∧
   (v' = .slice none 0 0↔v = .slice none 0 0∧s.size=0)∧(v'.ownBlock=v.ownBlock∨v'.ownBlock=some w.heap.size):=by
 obtain⟨v',w',hr,h2,h3,h4⟩:=Go.Lib.run_append_own_string (P:=P) w base t u ty e i ht hu hi hz E U v n xs I s gd O Z;refine⟨v',w',hr,h2,h3,h4,?_⟩;have alS:n+s.size≤9223372036854775807:=(by simp only[maxLen] at gd;omega)
 have fQ:xs.length=n:=(by simpa using I.1)
 rcases I.2 with ⟨rfl,rfl⟩|⟨g,cap,cur,rfl,hbg,hg,hnc,hcm,dj,Tj⟩
 ·by_cases hm:s.size=0
  ·left;rw[h4.2 ⟨rfl,hm⟩]
  right;have:=run_append_nil_string (P:=P) w t u ty e i (.int .u8 0) ht hu hi hz s w4 w4 (by rw[U];omega);rw[this] at hr;cases hr;rfl
 have ana:cur.size=cap:=(by simpa using dj)
 by_cases afg:n+s.size≤cap
 ·left;have:=Go.Lib.run_append_room_string (P:=P) w t u ty e i ht hu hi E g n cap cur hg s afg w4;rw[this] at hr;cases hr;rfl
 right;have holds:∀j u,xs[j]?=some u→w.cell? ((⟨g,0,none⟩:Addr).add j)=some u:=I.cells (g:=g) rfl;have:=Go.Lib.run_append_grow_string (P:=P) w t u ty e i (.int .u8 0) ht hu hi hz ⟨g,0,none⟩ n cap xs (by rw[E];simpa using fQ) holds s w4 w4 (by rw[U];exact growslice_fits w4 w4);rw[this] at hr;cases hr;rfl
def om(b:List UInt8):List D:=b.map uK
theorem GQ {s:Operand} {u:TypeId} {v I:Value} {w w':World} {a:Act} (ho:o.op = .call {callee:=.builtin .append,args:=#[s,y],argTypes:=#[t,u]}) (hs:a.eval s=v) {z:Value} (hy:a.eval y=z)
  (E:(Builtin.append_ #[t,u] o.type #[v,z]).run P w = .ok I w'):(execOp a.eval o).run P w = .ok (.value I) w':=by
 unfold execOp;simp[ho,resolve,invoke,builtin,hs,hy,E]
theorem Xp {s:Operand} {t:Nat} {cs:List D} {str:ByteArray} (ho:o.op = .call {callee:=.builtin .append,args:=#[s,y],argTypes:=#[t,u]}) (hd:o.dst=some tt)
  (ht:P.underlying t=some (.slice e)) (hu:P.underlying u=some .string) (hi:(P.info? e).map (fun i=>(i.zero,i.size,i.bytes))=some (some (.int .u8 0),1,1))
  (hs:aF x s = .v (.slice ad n cap)) (sE:bq e 1 cs n ad cap Sq) (hp:x.S=Sq++R) (hl:cs.length=n) (hy:aF x y = .v (.string str)) (gd:n+str.size≤maxLen) (O:n+str.size≤140737488355328) (hne:isMap e=false:=by rfl) :
  fD P G x o (ap Sq) (fun y=>∃nB U S',bq e 1 (cs++om str.data.toList) (n+str.size) nB U S'∧y=⟨x.n,(tt,.v (.slice nB (n+str.size) U))::x.env,S'++R⟩):=fun C a w K Q hG h hK=>by
 obtain⟨i,jU,lI,oE,pA⟩:=ye hi;have agL:(Go.Lib.strCells str).length=str.size:=Go.Lib.strCells_length str;have LP:(om str.data.toList).length=str.size:=(by simp[om])
 have Z:∀j (hj:j<str.size),∃u,(Go.Lib.strCells str)[j]?=some u∧∀h:j<(om str.data.toList).length,cl w (live C.X x.S) (om str.data.toList)[j] u:=fun j hj=>by
  have h1:j<str.data.toList.length:=(by rw[Array.length_toList];exact hj)
  refine⟨.int .u8 (str.data.toList[j]).toNat,by rw[Go.Lib.strCells,getElem?_map,getElem?_eq_getElem h1];rfl,fun h=>?_⟩;simp only[om,getElem_map];exact .v _
 rcases sE with ⟨rfl,rfl,rfl,rfl,rfl⟩|⟨b,rfl,h1,h2,rfl⟩
 ·rw[nil_append] at hp;by_cases hm:str.size=0
  ·have hd0:om str.data.toList=[]:=eq_nil_of_length_eq_zero (by rw[LP,hm]);have hn:Go.Lib.strCells str=[]:=eq_nil_of_length_eq_zero (by rw[agL];exact hm);have hf:=Go.Lib.run_firstCells_string (P:=P) w 1 str;rw[hm] at hf;have I:(Builtin.append_ #[t,u] o.type #[.slice none 0 0,.string str]).run P w = .ok (.slice none 0 0) w:=by
    simp[Builtin.append_,run_underlying ht,run_underlying hu,sizeOf,typeInfo,jU,oE,Builtin.lenOf,hm,hf]
   unfold Oper.wp;rw[GQ (P:=P) ho (h.flat hs) (h.flat hy) I,Oper.upon_value,hd];refine hK ⟨x.n,(tt,.v (.slice none (0+str.size) 0))::x.env,[]++R⟩ _ _ ⟨none,0,[],.inl ⟨by omega,by rw[hd0];rfl,rfl,rfl,rfl⟩,rfl⟩ ?_ (lG.refl _ _) ?_
   ·have e1:(.slice none 0 0:Value) = .slice none (0+str.size) 0:=(by rw[hm])
    rw[e1,nil_append,←hp];exact h.put (.v _)
   rw[nil_append,hp];exact Fr.refl _ _
  have kf:w.ownsRow 0 e 1 (.slice none 0 0) 0 []:=⟨by simp,.inl ⟨rfl,rfl⟩⟩
  obtain⟨v',w',I,q2,q3,_,q5⟩:=M8 (P:=P) 0 t u o.type e i ht hu jU lI oE pA _ 0 _ kf str gd O (Nat.zero_le _);simp only[Nat.zero_add,nil_append] at q2;obtain⟨g,E,rfl,_,aa⟩:=q2.form w4;have q6:(none:Option Nat)=some g∨g=w.heap.size:=by
   rcases q5 with q5|q5
   ·simp[Value.ownBlock] at q5
   right;simpa[Value.ownBlock] using q5
  obtain⟨_,q2⟩:=q2;rcases q2 with ⟨q2,_⟩|⟨g',U,lq,e1,_,e2,e3,e4,e5,e6⟩
  ·cases q2
  have Ce:g=g'∧E=U:=(by simpa using e1)
  obtain⟨rfl,rfl⟩:=Ce;rw[Nat.mul_one] at e5 e6;obtain⟨s1,s2,s3⟩:=h.grown (hne:=hne) (t:=tt) (m:=str.size) (e:=e) (sz:=1) (S:=x.S) (cs:=om str.data.toList) (row:=none) (g:=g) (cap:=E) (Sublist.refl _) (fun k' qg=>by cases qg) q3 q6 aa e2 w4 w4 (fun j hj=>by
    obtain⟨u,xp,xq⟩:=Z j w4;refine⟨u,?_,xq hj⟩;rw[←xp,←e6,getElem?_take_of_lt w4,Array.getElem?_toList])
  unfold Oper.wp;rw[GQ (P:=P) ho (h.flat hs) (h.flat hy) I,Oper.upon_value,hd];refine hK ⟨x.n,(tt,.v (.slice (some ⟨g,0,none⟩) (0+str.size) E))::x.env,[⟨g,e,E*1,[]++om str.data.toList⟩]++R⟩ _ _ ⟨_,E,_,.inr ⟨g,rfl,by omega,e4,rfl⟩,rfl⟩ ?_ s2 ?_
  ·rw[Nat.zero_add,nil_append,←hp];exact s1
  rw[nil_append,←hp];exact s3
 have hk:x.S[0]?=some (⟨b,e,cap*1,cs⟩:ag):=(by rw[hp];rfl)
 obtain⟨r0,cur,r1,r2,r3,r4⟩:=h.fm hk;simp only at r0 r1 r2 r3 r4;rw[jY hne] at r1;rw[Nat.mul_one] at r2 r3;have kf:w.ownsRow 0 e 1 (.slice (some ⟨b,0,none⟩) n cap) n (cur.toList.take n) :=
  ⟨by simp;omega,.inr ⟨b,cap,cur,rfl,Nat.zero_le _,r1,h1,h2,by omega,by rw[Nat.mul_one]⟩⟩
 obtain⟨v',w',I,q2,q3,q4,q5⟩:=M8 (P:=P) 0 t u o.type e i ht hu jU lI oE pA _ n _ kf str gd O (Nat.zero_le _);obtain⟨_,q2⟩:=q2;rcases q2 with ⟨q2,_⟩|⟨g,E,lq,rfl,_,e2,e3,e4,e5,e6⟩
 ·have:=(q4.1 q2).1;cases this
 have q6:(some b:Option Nat)=some g∨g=w.heap.size:=by
  rcases q5 with q5|q5
  ·exact .inl q5.symm
  right;simpa[Value.ownBlock] using q5
 rw[Nat.mul_one] at e5 e6;have aa:g<w'.heap.size:=by
  rcases Nat.lt_or_ge g w'.heap.size with hh|hh
  ·exact hh
  rw[Array.getElem?_eq_none hh] at e2;cases e2
 have hR:R=x.S.eraseIdx 0:=(by rw[hp];rfl)
 obtain⟨s1,s2,s3⟩:=h.grown (hne:=hne) (t:=tt) (m:=n+str.size) (e:=e) (sz:=1) (S:=x.S.eraseIdx 0) (cs:=cs++om str.data.toList) (row:=some b) (g:=g) (cap:=E) (eraseIdx_sublist _ _) (fun k' qg=>by
   have:b=k':=(by simpa using qg)
   subst this;refine⟨mem_map.2 ⟨_,mem_of_getElem? hk,rfl⟩,fun hm=>?_⟩;have Gb:(ap x.S).Perm (b::ap (x.S.eraseIdx 0)):=(by have:=(uh hk).map ag.b;simpa[ap] using this)
   exact(nodup_cons.1 (Gb.nodup_iff.1 h.own.apart)).1 hm) q3 q6 aa e2 w4 u6 (fun j hj=>by
   rw[length_append] at hj;have Bt:lq[j]?=(cur.toList.take n++Go.Lib.strCells str)[j]?:=(by rw[←e6,getElem?_take_of_lt w4,Array.getElem?_toList])
   rw[Bt];have ox:(cur.toList.take n).length=n:=(by simp;omega)
   by_cases jV:j<n
   ·obtain⟨u,hu,hq⟩:=r4 j w4;refine⟨u,?_,?_⟩
    ·rw[getElem?_append_left w4,getElem?_take_of_lt jV,Array.getElem?_toList,hu]
    rw[getElem_append_left w4];exact hq
   obtain⟨u,xp,xq⟩:=Z (j-n) w4;refine⟨u,?_,?_⟩
   ·rw[getElem?_append_right w4,ox,xp]
   rw[getElem_append_right w4];have:=xq w4;simp only[hl];exact this)
 unfold Oper.wp;rw[GQ (P:=P) ho (h.flat hs) (h.flat hy) I,Oper.upon_value,hd];refine hK ⟨x.n,(tt,.v (.slice (some ⟨g,0,none⟩) (n+str.size) E))::x.env,[⟨g,e,E*1,cs++om str.data.toList⟩]++R⟩ _ _ ⟨_,E,_,.inr ⟨g,rfl,e3,e4,rfl⟩,rfl⟩ ?_ (by simpa[ap] using s2) ?_
 ·rw[hR];exact s1
 rw[hR];exact s3
theorem OD.Y7 {s:Operand} {t:Nat} {cs:List D} {str:ByteArray} (hw:bZ ops x o true) (ho:o.op = .call {callee:=.builtin .append,args:=#[s,y],argTypes:=#[t,u]}) (hd:o.dst=some tt)
  (ht:P.underlying t=some (.slice e)) (hu:P.underlying u=some .string) (hi:(P.info? e).map (fun i=>(i.zero,i.size,i.bytes))=some (some (.int .u8 0),1,1))
  (hs:aF x s = .v (.slice ad n cap)) (U:bq e 1 cs n ad cap Sq) (hp:x.S.Perm (Sq++R)) (hl:cs.length=n) (hy:aF x y = .v (.string str)) (Z:n+str.size≤maxLen) (I:n+str.size≤140737488355328)
  (K:∀O E S',bq e 1 (cs++om str.data.toList) (n+str.size) O E S'→OD P C ops l ⟨x.n,(tt,.v (.slice O (n+str.size) E))::x.env,S'++R⟩ Q) (hne:isMap e=false:=by rfl):OD P C ops (o::l) x Q:=by
 refine OD.perm hp ?_;have hw':bZ ops ⟨x.n,x.env,Sq++R⟩ o true:=fun C a w hs=>hw C a w ((Wk.perm (n:=x.n) (env:=x.env) hp.symm) C a w hs);have qY:aF ⟨x.n,x.env,Sq++R⟩ s = .v (.slice ad n cap):=(by rw[←hs];cases s<;>rfl)
 have LS:aF ⟨x.n,x.env,Sq++R⟩ y = .v (.string str):=(by rw[←hy];cases y<;>rfl)
 exact OD.fM hw' (Xp (hne:=hne) ho hd ht hu hi qY U rfl hl LS Z I) fun y ⟨O,E,S',h1,hy⟩=>hy ▸ K O E S' h1
theorem OD.oO {g:α→List D} {ls new:List α} {s:Operand} {t bytes:Nat} {z:Value} (hg:∀a,(g a).length=sz) (hg1:∀a,(g a).all one=true) (hw:bZ ops x o true) (ho:o.op = .call {callee:=.builtin .append,args:=#[s,y],argTypes:=#[t,t]}) (hd:o.dst=some tt)
  (ht:P.underlying t=some (.slice e)) (hi:(P.info? e).map (fun i=>(i.zero,i.size,i.bytes))=some (some z,sz,bytes)) (eR:z.cells.size=sz) (Z:0<sz) (hu:∀w,(underlying t).run P w = .ok (.slice e) w) (LU:∀w,(sizeOf e).run P w = .ok sz w)
  (hs:aF x s = .v (.slice ad ls.length cap)) (O:bq e sz (ls.flatMap g) ls.length ad cap Sq) (hp:x.S.Perm (Sq++R))
  (hy:aF x y = .list sz (new.flatMap g) new.length) (gd:ls.length+new.length≤maxLen) (I:(ls.length+new.length)*bytes≤140737488355328)
  (K:∀U E S',bq e sz ((ls++new).flatMap g) (ls++new).length U E S'→OD P C ops l ⟨x.n,(tt,.v (.slice U (ls++new).length E))::x.env,S'++R⟩ Q) (hne:isMap e=false:=by rfl):OD P C ops (o::l) x Q:=by
 rcases Nat.eq_zero_or_pos new.length with h0|h0
 ·have hn:new=[]:=eq_nil_of_length_eq_zero h0;subst hn;refine OD.still hw hd (Nc ho hu LU hs O.le hy) ?_;have:=K ad cap Sq (by rw[append_nil];exact O);rw[append_nil] at this;exact OD.wk (Wk.perm (n:=x.n) hp) this
 exact OD.ee (hne:=hne) hg hg1 hw ho hd ht hi eR Z hs O hp hy h0 gd I fun b' E h1 h2=>K _ E _ (bI h1 h2)
/-! ### A table as a list -/
theorem XC {e:TypeId} {vs:List Value} (ho:o.op = .slice t y none none none) (hy:aF x y = .v (.pointer (some ⟨b,0,none⟩))) (hg:(b,vs)∈G)
  (I:∀w,(underlying t).run P w = .ok (.array n e) w) (hs:∀w,(sizeOf e).run P w = .ok sz w) (hl:vs.length=n*sz) (hn:n≠0) (iJ:n≤maxLen) (qf:vs.all qw=true:=by rfl):bV P G x o .none (.list sz (vs.map .v) n):=fun C a w hG h=>by
 subst hG;obtain⟨⟨q1,q2,O⟩,U⟩:=h.eJ _ hg;refine⟨.slice (some ⟨b,0,none⟩) n n,.list sz (vs.map .v) n b 0 n (fun i=>vs.getD i undef) (by simpa using hl) (Nat.le_refl _) iJ (Nat.lt_of_lt_of_le q1 h.fr.size) (fun hl=>hl.elim O (h.fr.block b q1 q2).2) (fun i hi=>?_) (fun i hi=>?_),fun w' _=>?_⟩
 ·have E:i<vs.length:=(by simpa using hi)
  have:=(h.bA hg (getElem?_eq_getElem E)).cell (O8 qf (getElem?_eq_getElem E));rw[Nat.zero_add,this];simp[E]
 ·have E:i<vs.length:=(by simpa using hi)
  simp only[getElem_map,getD_eq_getElem?_getD,getElem?_eq_getElem E,Option.getD_some];exact .v _
 unfold execOp;have b3:(Instr.sliceBounds false n n none none none).run P w' = .ok (0,n,n) w':=(by unfold Instr.sliceBounds;simp)
 simp only[ho,h.flat hy,Instr.sliceAt,I,Instr.sureAddr,Sem.run_bind,Result.andThen_ok,Option.map_none,Sem.run_pure,b3,hs,Nat.sub_zero];rw[if_neg hn];simp[Addr.add_mid]
theorem QT {g:α→List D} {ls:List α} {e:TypeId} {l' h':Nat} {vs:List Value} (hg:(b,vs)∈G) (I:vs.map D.v=ls.flatMap g) (E:n=ls.length)
  (O:∀w,(underlying t).run P w = .ok (.array n e) w) (hs:∀w,(sizeOf e).run P w = .ok sz w) (hl:vs.length=n*sz) (hn:n≠0) (iJ:n≤maxLen) (qf:vs.all qw=true:=by rfl):Rs P G t none none l' h' (.v (.pointer (some ⟨b,0,none⟩))) (.list sz (ls.flatMap g) ls.length):=fun x o y ho hy _ _=>by
 have:=XC (P:=P) (G:=G) ho hy hg O hs hl hn iJ qf;rw[I,E] at this;exact this
/-! ### Bytes, strings -/
theorem vb{x y:Bool}(h:x=y):D.v (.bool x)=D.v (.bool y):=by rw[h]
theorem vi{k:IntKind}{x y:Int}(h:x=y):D.v (.int k x)=D.v (.int k y):=by rw[h]
theorem vs{x y:ByteArray}(h:x=y):D.v (.string x)=D.v (.string y):=by rw[h]
def cB(b:UInt8):List D:=[uK b]
theorem oU(b:UInt8):(cB b).length=1:=rfl
theorem vS(b:UInt8):(cB b).all one=true:=rfl
theorem I8(bs:List UInt8):bs.flatMap cB=bs.map uK:=by
 induction bs with
 | nil=>rfl
 | cons a r ih=>rw[flatMap_cons,ih];rfl
theorem aaC(bs:List UInt8):om bs=bs.flatMap cB:=(I8 bs).symm
def cS(s:ByteArray):List D:=[.v (.string s)]
theorem iX(s:ByteArray):(cS s).length=1:=rfl
theorem Xi{s e:TypeId}{bs:List UInt8}(ho:o.op = .convert s t y)(hy:aF x y = .list 1 (bs.flatMap cB) n)(hs:P.underlying s=some (.slice e))(he:P.underlying e=some (.int .u8))(ht:P.underlying t=some .string) :
  bV P G x o .jH (.v (.string ⟨bs.toArray⟩)):=Xn ho (by rw[hy,I8]) hs he ht
def lP(s:ByteArray)(k:Nat):UInt8:=s.data.toList.getD k 0
theorem I9{s:ByteArray}(h:k<s.size):s[k]?=some (lP s k):=by
 have h':k<s.data.size:=h;rw[getElem?_pos s k h];congr 1;show s.data[k]=_;simp only[lP,getD_eq_getElem?_getD,Array.getElem?_toList,Array.getElem?_eq_getElem h',Option.getD_some]
theorem kO(s:ByteArray):s.data.toList.length=s.size:=by rw[Array.length_toList];rfl
theorem vI(s:ByteArray):s.toList=s.data.toList:=by rw[ByteArray.toList_eq]
theorem GZ{s:ByteArray}(h:k<s.data.toList.length):s.data.toList[k]=lP s k:=by simp only[lP,getD_eq_getElem?_getD,getElem?_eq_getElem h,Option.getD_some]
theorem adT{s:ByteArray}(h:(!(s.toList==(⟨#[]⟩:ByteArray).toList))=true):0<s.size:=by
 rcases Nat.eq_zero_or_pos s.size with h0|h0
 ·have:s.data.toList=[]:=eq_nil_of_length_eq_zero (by rw[kO,h0]);rw[vI,vI,this] at h;cases h
 exact h0
theorem uq{s:ByteArray}:(s.toList==(⟨#[]⟩:ByteArray).toList)=decide (s.size=0):=by
 rw[Bool.eq_iff_iff,beq_iff_eq,decide_eq_true_eq,vI,vI,←kO];exact⟨fun h=>by rw[h];rfl,fun h=>eq_nil_of_length_eq_zero h⟩
theorem Ir{s t:ByteArray}(h:s.data.toList=t.data.toList):s=t:=by
 obtain⟨⟨a⟩⟩:=s;obtain⟨⟨b⟩⟩:=t;simp only at h;rw[h]
def iU(a b:ByteArray):Bool:=a.toList==b.toList
theorem AF{a b:ByteArray}:iU a b=true↔a=b:=by
 unfold iU;rw[beq_iff_eq,vI,vI];exact⟨Ir,fun h=>by rw[h]⟩
theorem bq.str{s:ByteArray}(h:bq e 1 (ls.flatMap cB++om s.data.toList) (ls.length+s.size) ad cap S):bq e 1 ((ls++s.data.toList).flatMap cB) (ls++s.data.toList).length ad cap S:=by
 rw[flatMap_append,←aaC s.data.toList,length_append,kO];exact h
theorem OD.Ye {s:Operand} {t:Nat} {str:ByteArray} (hw:bZ ops x o true) (ho:o.op = .call {callee:=.builtin .append,args:=#[s,y],argTypes:=#[t,u]}) (hd:o.dst=some tt)
  (ht:P.underlying t=some (.slice e)) (hu:P.underlying u=some .string) (hi:(P.info? e).map (fun i=>(i.zero,i.size,i.bytes))=some (some (.int .u8 0),1,1))
  (hs:aF x s = .v (.slice ad ls.length cap)) (U:bq e 1 (ls.flatMap cB) ls.length ad cap Sq) (hp:x.S.Perm (Sq++R)) (hy:aF x y = .v (.string str)) (Z:ls.length+str.size≤maxLen) (I:ls.length+str.size≤140737488355328)
  (K:∀O E S',bq e 1 ((ls++str.data.toList).flatMap cB) (ls++str.data.toList).length O E S'→OD P C ops l ⟨x.n,(tt,.v (.slice O (ls++str.data.toList).length E))::x.env,S'++R⟩ Q) (hne:isMap e=false:=by rfl):OD P C ops (o::l) x Q :=
 OD.Y7 (hne:=hne) hw ho hd ht hu hi hs U hp (by rw[cr oU,Nat.mul_one]) hy Z I fun O E S' h=>by
  have:=K O E S' h.str;rw[length_append,kO] at this;exact this
/-! ### The first place where something holds -/
def dM(p:α→Bool)(ls:List α):Int:=match ls.findIdx? p with|some i=>i|none=>-1
theorem xW{p:α→Bool}{ls:List α}(hk:k<ls.length)(h0:∀x∈ls.take k,p x=false)(h1:p ls[k]=true):dM p ls=k:=by
 have:ls.findIdx? p=some k:=by
  rw[findIdx?_eq_some_iff_getElem];refine⟨hk,h1,fun j hj=>?_⟩;have:=h0 ls[j] (mem_take_iff_getElem.2 ⟨j,by omega,rfl⟩);simp[this]
 simp[dM,this]
theorem vA{p:α→Bool}{ls:List α}(hk:¬(k<ls.length))(h0:∀x∈ls.take k,p x=false):dM p ls = -1:=by
 have:ls.findIdx? p=none:=by
  rw[findIdx?_eq_none_iff];intro x hx;rw[take_of_length_le w4] at h0;exact h0 x hx
 simp[dM,this]
theorem Pm{p:α→Bool}{ls:List α}:decide (dM p ls≥0)=ls.any p:=by
 unfold dM;cases h:ls.findIdx? p with
 | none =>
  have:=findIdx?_eq_none_iff.1 h;simp;exact this
 | some i =>
  obtain⟨h1,h2,_⟩:=findIdx?_eq_some_iff_getElem.1 h;simp only[ge_iff_le,Int.natCast_nonneg,decide_true];exact(any_eq_true.2 ⟨_,getElem_mem h1,h2⟩).symm
theorem x5{p:α→Prop}{ls:List α}(hk:k<ls.length)(h0:∀x∈ls.take k,p x)(h1:p ls[k]):∀x∈ls.take (k+1),p x:=by
 rw[take_succ_eq_append_getElem hk];intro x hx;rcases mem_append.1 hx with hx|hx
 ·exact h0 x hx
 simp only[mem_singleton] at hx;subst hx;exact h1

end Go.Proofs.YtbcmjoaggammcaaGreatDoor.V
namespace Go.Proofs.YtbcmjoaggammcaaGreatDoor.V
open List
open Go.RowKit
variable {P:Program} {C:dF} {G:List (Nat×List Value)} {Q:Exit→St→Prop} {ops:Array Oper} {l l2:List Oper} {o:Oper} {n t:Nat} {d:D} {e e' l':List (Nat×D)} {S:List ag} {ts:List Nat} {c:Bool}
variable {q:Nat} {ld:Array Bool}
theorem yh{a:Act}{w:World}{K:Act→World→Prop}{R:Exit→Act→World→Prop}(h:o.wp P a w K R):o.wp P a w (fun a' w'=>K a' w'∧∃v,a'.tmps=(a.put o.dst v).tmps) R:=by
 unfold Oper.wp at *;generalize (execOp a.eval o).run P w=r at *;cases r with
 | ok x w' =>
  cases x<;>simp only[Oper.upon] at h ⊢ <;>
   first
    | exact⟨h,_,rfl⟩
    | exact Calls.mono h (fun e E he=>by cases e<;>first|exact⟨he,_,rfl⟩|exact he)
    | exact Rows.mono h (fun _ _ he=>⟨he,_,rfl⟩)
    | (refine⟨h,undef,?_⟩;unfold Act.put;cases o.dst<;>rfl)
 | halt x w'=>cases x<;>simp only[Oper.upon] at h ⊢<;>exact h
theorem bF.yH{a a':Act}{w w':World}{v:Value}(h:bF C ⟨n,e,S⟩ a w)(k:bF C ⟨n,(t,d)::l',S⟩ a' w')(hf:Fr w (ap S) w' (ap S))(I:a'.tmps=(a.put (some t) v).tmps):bF C ⟨n,(t,d)::e,S⟩ a' w':=by
 refine⟨k.defers,k.size,fun q hq=>?_,k.own,k.fr,k.ex,k.eJ⟩;by_cases E:t=q
 ·subst E;have:=k.env t hq;simp only[fK,if_pos] at this ⊢;exact this
 have h1:=h.env q hq;have h2:a'.tmps.getD q undef=a.tmps.getD q undef:=(by rw[I];simp[Act.put,Array.getD_eq_getD_getElem?,Array.getElem?_setIfInBounds,E])
 simp only[fK,if_neg E];rw[h2];exact h1.mono fun b hb hn=>⟨(hf.block b hb (fun hm=>hn (.inr hm))).1,hn⟩
theorem fD.yH(hd:o.dst=some t)(h:fD P G ⟨n,l',S⟩ o [] (fun y=>y=⟨n,(t,d)::l',S⟩))(hs:mO e l'):fD P G ⟨n,e,S⟩ o [] (fun y=>y=⟨n,(t,d)::e,S⟩):=fun C a w K R hG E hK=>by
 have h1:=h C a w (fun a' w'=>bF C ⟨n,(t,d)::l',S⟩ a' w'∧lG [] w w'∧Fr w (ap S) w' (ap S)) R hG (Wk.j5 hs C a w E) (fun y a' w' hy I hc hf=>by subst hy;exact⟨I,hc,hf⟩);refine Oper.wp_mono (fun a' w' h2=>?_) (yh h1);obtain⟨⟨h3,h4,h5⟩,v,h6⟩:=h2;rw[hd] at h6;exact hK _ a' w' rfl (E.yH h3 h5 h6) h4 h5
def mS(ops:Array Oper)(o:Oper)(ts:List Nat):Bool:=(range ops.size).all fun j=>match ops[j]? with
 | some p=>(match p.dst with
  | some t=>!(ts.elem t)||o.after.any (fun e=>Region.binds .any e&&Nat.beq e.on j)
  | none=>true)
 | none=>true
def lZ(ops:Array Oper):Bool:=(range ops.size).all fun i=>match ops[i]? with
 | some o=>o.after.all (fun e=>!Region.binds .any e||Nat.blt e.on i)&&(match o.dst with
  | some t=>(range i).all fun j=>match ops[j]? with
   | some p=>(match p.dst with|some q=>!(Nat.beq q t)|none=>true)
   | none=>true
  | none=>false)
 | none=>true
inductive PD (c:Bool) (P:Program) (G:List (Nat×List Value)) (n:Nat) (S:List ag) (ops:Array Oper):List Oper→List (Nat×D)→List Oper→List (Nat×D)→Prop
 | nil {l:List Oper} {e:List (Nat×D)}:PD c P G n S ops l e l e
 | cons {o:Oper} {l l2:List Oper} {t:Nat} {d:D} {e e' l':List (Nat×D)} {ts:List Nat} (hd:o.dst=some t) (hr:fx ts e l') (hq:(!c||mS ops o ts)=true) (hw:bZ ops ⟨n,l',S⟩ o true)
   (h:fD P G ⟨n,l',S⟩ o [] (fun y=>y=⟨n,(t,d)::l',S⟩)) (k:PD c P G n S ops l ((t,d)::e) l2 e'):PD c P G n S ops (o::l) e l2 e'
 | skip {o:Oper} {l l2:List Oper} {t:Nat} {e e' l':List (Nat×D)} {ts:List Nat} (hd:o.dst=some t) (hr:fx ts e l') (hq:(!c||mS ops o ts)=true) (hw:bZ ops ⟨n,l',S⟩ o false)
   (k:PD c P G n S ops l ((t,.v (.tuple #[]))::e) l2 e'):PD c P G n S ops (o::l) e l2 e'
theorem PD.od(h:PD c P C.G n S ops l e l2 e')(K:OD P C ops l2 ⟨n,e',S⟩ Q):OD P C ops l ⟨n,e,S⟩ Q:=by
 induction h with
 | nil=>exact K
 | cons hd hr hq hw h k ih=>exact OD.fM (fun C a w hs=>hw C a w (Wk.j5 hr.j5 C a w hs)) (h.yH hd hr.j5) fun y hy=>by subst hy;exact ih K
 | skip hd hr hq hw k ih=>exact OD.skip (fun C a w hs=>hw C a w (Wk.j5 hr.j5 C a w hs)) hd (ih K)
def Gd(P:Program)(G:List (Nat×List Value))(n:Nat)(S:List ag)(ops:Array Oper)(eF:List (Nat×D))(i:Nat):Prop :=
 ∃o t ts l',ops[i]?=some o∧o.dst=some t∧mS ops o ts=true∧(∀p∈l',p.1∈ts∧look p.1 eF=look p.1 l')∧l'.map (·.1)=ts ∧
  ((bZ ops ⟨n,l',S⟩ o true∧fD P G ⟨n,l',S⟩ o [] (fun y=>y=⟨n,(t,look t eF)::l',S⟩))∨(bZ ops ⟨n,l',S⟩ o false∧look t eF = .v (.tuple #[])))
theorem fx.keys(h:fx ts e l'):l'.map (·.1)=ts:=by
 induction h with
 | nil=>rfl
 | cons h k ih=>rw[map_cons,ih]
theorem fx.at(h:fx ts e l')(hq:q∈ts):look q l'=look q e:=by
 induction h with
 | nil=>cases hq
 | @cons t ts d e l' h k ih =>
  rw[fK];by_cases E:t=q
  ·subst E;rw[if_pos rfl,h]
  rw[if_neg E];rcases mem_cons.1 hq with rfl|hm
  ·exact absurd rfl E
  exact ih hm
theorem vP(h:lZ ops=true){i:Nat}{o:Oper}(hi:ops[i]?=some o):(∀e∈o.after,Region.binds .any e=true→e.on<i)∧∃t,o.dst=some t∧∀j p,j<i→ops[j]?=some p→p.dst≠some t:=by
 have aa:=(Array.getElem?_eq_some_iff.1 hi).1;have:=all_eq_true.1 h i (mem_range.2 aa);simp only[hi,Bool.and_eq_true] at this;obtain⟨h1,h2⟩:=this;refine⟨fun e he hb=>?_,?_⟩
 ·have:=Array.all_eq_true'.1 h1 e he;simp only[hb,Bool.not_true,Bool.false_or] at this;exact Nat.le_of_ble_eq_true this
 cases hd:o.dst with
 | none=>rw[hd] at h2;cases h2
 | some t =>
  rw[hd] at h2;refine⟨t,rfl,fun j p hj hp hq=>?_⟩;have:=all_eq_true.1 h2 j (mem_range.2 hj);simp only[hp,hq,Bool.not_eq_true'] at this;have h3:Nat.beq t t=true:=Nat.beq_refl t;rw[h3] at this;cases this
theorem Ek(h:mS ops o ts=true){j:Nat}{p:Oper}(hj:ops[j]?=some p)(hp:p.dst=some q)(hq:q∈ts):∃e∈o.after,Region.binds .any e=true∧e.on=j:=by
 have aa:=(Array.getElem?_eq_some_iff.1 hj).1;have:=all_eq_true.1 h j (mem_range.2 aa);simp only[hj,hp] at this;rw[show ts.elem q=true from elem_eq_true_of_mem hq] at this;simp only[Bool.not_true,Bool.false_or] at this;obtain⟨e,he,hb⟩:=Array.any_eq_true'.1 this;rw[Bool.and_eq_true] at hb;exact⟨e,he,hb.1,Nat.eq_of_beq_eq_true hb.2⟩
theorem PD.later(h:PD c P G n S ops l e l2 e')(hq:∀o∈l,o.dst≠some q):look q e'=look q e:=by
 induction h with
 | nil=>rfl
 | @cons o l l2 t d e e' l' ts hd hr zI hw h k ih =>
  rw[ih fun p hp=>hq p (mem_cons_of_mem _ hp),fK,if_neg (fun e1:t=q=>hq o mem_cons_self (by rw[←e1];exact hd))]
 | @skip o l l2 t e e' l' ts hd hr zI hw k ih =>
  rw[ih fun p hp=>hq p (mem_cons_of_mem _ hp),fK,if_neg (fun e1:t=q=>hq o mem_cons_self (by rw[←e1];exact hd))]
theorem PD.wD(hp:lZ ops=true)(h:PD true P G n S ops l e l2 e'):l2=[]→∀k,ops.toList.drop k=l→∀i,k≤i→i<ops.size→Gd P G n S ops e' i:=by
 induction h with
 | nil =>
  intro iB k hk i h1 h2;rw[iB,drop_eq_nil_iff] at hk;simp at hk;omega
 | @cons o l l2 t d e e' l' ts hd hr zI hw h k0 ih =>
  intro iB k hk i h1 h2;have aQ:ops.toList[k]?=some o:=(by rw[←head?_drop,hk];rfl)
  have yV:ops[k]?=some o:=(by rw[←Array.getElem?_toList];exact aQ)
  have jh:ops.toList.drop (k+1)=l:=(by rw[←drop_drop,hk];rfl)
  rcases Nat.eq_or_lt_of_le h1 with rfl|h1
  ·have kH:∀j p,k<j→ops[j]?=some p→p.dst≠some t:=fun j p hj F3 iK=>by
    exact TX
   have aa:∀p∈l,p.dst≠some t:=fun p fC=>by
    exact VQ
   have E:look t e'=d:=(by rw[k0.later aa,fK,if_pos rfl])
   refine⟨o,t,ts,l',yV,hd,by simpa using zI,fun p fC=>?_,hr.keys,.inl ⟨hw,by rw[E];exact h⟩⟩;exact z49
  exact ih iB (k+1) jh i h1 h2
 | @skip o l l2 t e e' l' ts hd hr zI hw k0 ih =>
  intro iB k hk i h1 h2;have aQ:ops.toList[k]?=some o:=(by rw[←head?_drop,hk];rfl)
  have yV:ops[k]?=some o:=(by rw[←Array.getElem?_toList];exact aQ)
  have jh:ops.toList.drop (k+1)=l:=(by rw[←drop_drop,hk];rfl)
  rcases Nat.eq_or_lt_of_le h1 with rfl|h1
  ·have kH:∀j p,k<j→ops[j]?=some p→p.dst≠some t:=fun j p hj F3 iK=>by
    exact TX
   have aa:∀p∈l,p.dst≠some t:=fun p fC=>by
    exact VQ
   have E:look t e' = .v (.tuple #[]):=(by rw[k0.later aa,fK,if_pos rfl])
   refine⟨o,t,ts,l',yV,hd,by simpa using zI,fun p fC=>?_,hr.keys,.inr ⟨hw,E⟩⟩;exact z49
  exact ih iB (k+1) jh i h1 h2
def left(N:Nat)(ld:Array Bool):Nat:=((range N).filter fun j=>!ld.getD j true).length
theorem yj{N i:Nat}(hi:i<N)(hl:ld.getD i true=false):left N (ld.setIfInBounds i true)<left N ld:=by
 unfold left;have E:i<ld.size:=by
  rcases Nat.lt_or_ge i ld.size with h|h
  ·exact h
  rw[Array.getD_eq_getD_getElem?,Array.getElem?_eq_none h] at hl;cases hl
 have h1:(range N).filter (fun j=>!(ld.setIfInBounds i true).getD j true)=((range N).filter fun j=>!ld.getD j true).filter (fun j=>!decide (j=i)):=by
  rw[filter_filter];congr 1;funext j;by_cases hj:j=i
  ·subst hj;simp[Array.getD_eq_getD_getElem?,Array.getElem?_setIfInBounds,E]
  simp[Array.getD_eq_getD_getElem?,Array.getElem?_setIfInBounds,hj,Ne.symm hj]
 rw[h1];refine length_filter_lt_length_iff_exists.2 ⟨i,mem_filter.2 ⟨mem_range.2 hi,by simp[hl]⟩,by simp⟩
theorem Ja(hp:lZ ops=true)(hr:Region.ready .any ops ld=[]):∀j,j<ops.size→ld.getD j true=true:=fun j=>by
 induction j using Nat.strongRecOn with
 | _ j ih =>
  intro hj;cases hl:ld.getD j true with
  | true=>rfl
  | false =>
   have ho:ops[j]?=some ops[j]:=Array.getElem?_eq_getElem hj;have:j∈Region.ready .any ops ld:=mem_ready.2 ⟨hl,ops[j],ho,fun e he hb=>by
    have aa:=(vP hp ho).1 e he hb;have:=ih e.on aa w4;rw[Array.getD_eq_getD_getElem?] at this ⊢;cases hq:ld[e.on]? with
    | none =>
     have h3:ld.size≤e.on:=Array.getElem?_eq_none_iff.1 hq;rw[Array.getD_eq_getD_getElem?,Array.getElem?_eq_none w4] at hl;cases hl
    | some b=>rw[hq] at this;exact this⟩
   rw[hr] at this;cases this
theorem D4{q:Nat}:∀{r:List (Nat×D)},¬q∈r.map (·.1)→look q r = .bU
 | [],_=>rfl
 | (p1,p2)::r,hm=>by
  rw[map_cons,mem_cons,not_or] at hm;rw[fK,if_neg (fun e1=>hm.1 e1.symm)];exact D4 hm.2
theorem adU{O:List (Nat×D)}{w1:World}{S1:List Nat}(hS1:ap S=S1)(hp:lZ ops=true)(H:∀i,i<ops.size→Gd P C.G n S ops O i)(hQ:Q .normal ⟨n,O,S⟩):∀(fuel:Nat) (ld:Array Bool) (env:List (Nat×D)) (a:Act) (w:World),
  left ops.size ld≤fuel→bF C ⟨n,env,S⟩ a w→Fr w1 S1 w S1→(∀q,(∀j o,ops[j]?=some o→o.dst=some q→ld.getD j true=true)→look q env=look q O)→wpAnyH P .any ops (LQ C Q) (kx w1 S1 []) fuel ld a w:=by
 have fb:∀(ld:Array Bool) (env:List (Nat×D)) (a:Act) (w:World),bF C ⟨n,env,S⟩ a w→(∀q,(∀j o,ops[j]?=some o→o.dst=some q→ld.getD j true=true)→look q env=look q O)→(∀j,j<ops.size→ld.getD j true=true)→LQ C Q .normal a w:=fun ld env a w hs he eY =>
  .inl ⟨⟨n,O,S⟩,⟨hs.defers,hs.size,fun q hq=>by have:=hs.env q hq;rw[he q fun j o hj _=>eY j (Array.getElem?_eq_some_iff.1 hj).1] at this;exact this,hs.own,hs.fr,hs.ex,hs.eJ⟩,hQ⟩
 intro fuel;induction fuel with
 | zero =>
  intro ld env a w hl hs hf he;have eY:∀j,j<ops.size→ld.getD j true=true:=fun j hj=>by
   cases hq:ld.getD j true with
   | true=>rfl
   | false=>have:=yj hj hq;omega
  refine⟨?_,fb ld env a w hs he eY⟩;rw[eq_nil_iff_forall_not_mem];intro j hj;obtain⟨h1,o,h2,_⟩:=mem_ready.1 hj;have:=eY j (Array.getElem?_eq_some_iff.1 h2).1;rw[h1] at this;cases this
 | succ fuel ih =>
  intro ld env a w hl hs hf he;refine⟨fun h0=>fb ld env a w hs he (Ja hp h0),fun i hi=>?_⟩;obtain⟨kK,o,E,Bx⟩:=mem_ready.1 hi;have aa:=(Array.getElem?_eq_some_iff.1 E).1;obtain⟨o',t,ts,l',h1,hd,hq,lJ,hk,hb⟩:=H i aa;rw[E] at h1;obtain rfl:=Option.some.inj h1;have Ul:=yj aa kK;have rR:∀j,(ld.setIfInBounds i true).getD j true=true↔j=i∨ld.getD j true=true:=fun j=>by
   by_cases hj:j=i
   ·subst hj;have gP:j<ld.size:=by
     rcases Nat.lt_or_ge j ld.size with h|h
     ·exact h
     rw[Array.getD_eq_getD_getElem?,Array.getElem?_eq_none h] at kK;cases kK
    simp[Array.getD_eq_getD_getElem?,Array.getElem?_setIfInBounds,gP]
   simp[Array.getD_eq_getD_getElem?,Array.getElem?_setIfInBounds,hj,Ne.symm hj]
  have hsl:∀{r:List (Nat×D)},(∀p∈r,look p.1 env=p.2)→mO env r:=by
   intro r;induction r with
   | nil=>intro _;trivial
   | cons p r ihr=>intro hr;exact⟨hr p mem_cons_self,ihr fun p' zJ=>hr p' (mem_cons_of_mem _ zJ)⟩
  have agM:∀p∈l',look p.1 env=look p.1 l':=fun p fC=>by
   obtain⟨h2,h3⟩:=lJ p fC;rw[←h3];refine he p.1 fun j oj hj iK=>?_;obtain⟨e1,sA,iT,jx⟩:=Ek hq hj iK h2;have:=Bx e1 sA iT;rw[jx] at this;rw[Array.getD_eq_getD_getElem?] at this ⊢;cases hx:ld[j]? with
   | none=>rw[hx] at this;cases this
   | some b=>rw[hx] at this;exact this
  have U:bF C ⟨n,l',S⟩ a w:=⟨hs.defers,hs.size,fun q Cj=>by
   by_cases hm:q∈ts
   ·rw[←hk] at hm;obtain⟨p,fC,rfl⟩:=mem_map.1 hm;have:=hs.env p.1 Cj;rw[agM p fC] at this;exact this
   have:look q l' = .bU:=by
    rw[←hk] at hm;exact D4 hm
   rw[this];exact .bU _,hs.own,hs.fr,hs.ex,hs.eJ⟩
  have iY:∀(a':Act) (w':World),bF C ⟨n,(t,look t O)::env,S⟩ a' w'→Fr w (ap S) w' (ap S)→kx w1 S1 [] w'∧wpAnyH P .any ops (LQ C Q) (kx w1 S1 []) fuel (ld.setIfInBounds i true) a' w':=fun a' w' Z tP=>by
   have jk:Fr w1 S1 w' S1:=hf.trans (hS1 ▸ tP);refine⟨⟨fun b h2 h3=>(jk.block b h2 h3).1,fun b h2=>by cases h2⟩,ih _ _ a' w' w4 Z jk fun q tQ=>?_⟩;rw[fK];by_cases I:t=q
   ·rw[if_pos I,I]
   rw[if_neg I];refine he q fun j oj hj iK=>?_;rcases(rR j).1 (tQ j oj hj iK) with rfl|h2
   ·rw[E] at hj;obtain rfl:=Option.some.inj hj;rw[hd] at iK;exact absurd (Option.some.inj iK) I
   exact h2
  unfold wpOp;rw[E];rcases hb with ⟨hw,hE⟩|⟨hw,hv⟩
  ·simp only[hw C a w U,if_true];have h2:=hE C a w (fun a' w'=>bF C ⟨n,(t,look t O)::l',S⟩ a' w'∧Fr w (ap S) w' (ap S)) (LQ C Q) rfl U (fun y a' w' hy Z _ tP=>by subst hy;exact⟨Z,tP⟩);refine .inl (Oper.wp_mono (fun a' w' h3=>?_) (yh h2));obtain⟨⟨h4,h5⟩,v,h6⟩:=h3;rw[hd] at h6;exact iY a' w' (hs.yH h4 h5 h6) h5
  simp only[hw C a w U,hd];have:=hs.put (t:=t) (.v (w:=w) (L:=live C.X S) undef);rw[hv] at iY;exact iY _ w this (Fr.refl _ _)
theorem dh.pd(hp:lZ ops=true)(h:PD true P C.G n S ops ops.toList e [] e')(hQ:Q .normal ⟨n,e',S⟩):dh P C ops (ap S) [] ops.size (Array.replicate ops.size false) ⟨n,e,S⟩ Q:=fun a w hs _ _=>by
 have hg:=h.wD hp rfl 0 rfl;refine adU rfl hp (fun i hi=>hg i (Nat.zero_le _) hi) hQ _ _ e a w ?_ hs (Fr.refl _ _) fun q hq=>?_
 ·unfold left;exact Nat.le_trans (length_filter_le _ _) bu
 refine(h.later fun o ho hd=>?_).symm;obtain⟨j,hj,rfl⟩:=mem_iff_getElem.1 ho;have E:j<ops.size:=(by simpa using hj)
 have:=hq j _ (by rw[←Array.getElem?_toList,getElem?_eq_getElem hj]) hd;simp[Array.getD_eq_getD_getElem?,E] at this
theorem CD.pd{id:Nat}{E:Bool}(hm:E=true→P.follows .mixedOrders=true)(hp:E=true→lZ l.toArray=true)(h:PD E P C.G n S l.toArray l e [] e')(hQ:Q .normal ⟨n,e',S⟩):CD P C (.region id l.toArray E) ⟨n,e,S⟩ Q:=by
 cases E with
 | false=>exact CD.region (h.od (OD.nil hQ))
 | true=>exact CD.draw [] (hm rfl) (fun _ hb=>by cases hb) (dh.pd (hp rfl) h hQ)

end Go.Proofs.YtbcmjoaggammcaaGreatDoor.V
namespace Go.Proofs.YtbcmjoaggammcaaGreatDoor.V
open List
open Go.RowKit
variable {P:Program} {G:List (Nat×List Value)} {x:St} {o:Oper} {C:dF} {Q:Exit→St→Prop} {ops:Array Oper} {l:List Oper}
variable {L:Nat→Prop} {ks:List Int} {i b:Nat} {k:Int} {kt:TypeId} {y:Operand}
def uL(ks:List Int):List D:=ks.map fun k=>.v (.int .i64 k)
def kz(b:Nat)(ks:List Int):ag:=⟨b,yq,ks.length,uL ks⟩
theorem aaD{w:World}{cur:Array Value}(h2:cur.size=ks.length)(h4:∀i (h:i<(uL ks).length),∃u,cur[i]?=some u∧cl w L (uL ks)[i] u):cur=(ks.map (Value.int .i64)).toArray:=by
 apply Array.ext (by simp[h2]);intro i q1 q2;have hi:i<ks.length:=(by omega)
 obtain⟨u,hu,hr⟩:=h4 i (by simpa[uL] using hi);simp only[uL,getElem_map] at hr;have:=hr.kw;subst this;have e:=(Array.getElem?_eq_some_iff.1 hu).2;rw[e];simp
theorem bF.afh {a:Act} {w:World} (h:bF C x a w) {B B':ag} {lq:Array Value} (hk:x.S[i]?=some B) (hb:B'.b=B.b) (h2:lq.size=B'.size) (h3:B'.cs.length≤B'.size)
  (h4:∀j (hj:j<B'.cs.length),∃u,lq[j]?=some u∧cl w (live C.X x.S) B'.cs[j] u) :
  bF C ⟨x.n,x.env,x.S.set i B'⟩ a {w with heap:=w.heap.setIfInBounds B.b (ob B'.e lq)}∧lG [B.b] w {w with heap:=w.heap.setIfInBounds B.b (ob B'.e lq)}∧Fr w (ap x.S) {w with heap:=w.heap.setIfInBounds B.b (ob B'.e lq)} (ap (x.S.set i B')):=by
 obtain⟨h0,cur,r1,r2,r3,r4⟩:=h.fm hk;generalize I:({w with heap:=w.heap.setIfInBounds B.b (ob B'.e lq)}:World)=w';have i1:w'.heap[B.b]?=some (ob B'.e lq):=(by rw[←I];simp[h0])
 have i2:∀b,b≠B.b→w'.heap[b]?=w.heap[b]?:=fun b hn=>by rw[←I];simp[Ne.symm hn]
 have i3:w'.heap.size=w.heap.size:=(by rw[←I];simp)
 have i4:w'.os=w.os:=(by rw[←I])
 have i5:w'.tape=w.tape:=(by rw[←I])
 have i6:w'.output=w.output:=(by rw[←I])
 have dR:i<x.S.length:=(List.getElem?_eq_some_iff.1 hk).1;have vl:x.S[i]=B:=(List.getElem?_eq_some_iff.1 hk).2;have E:ap (x.S.set i B')=ap x.S:=by
  unfold ap;rw[map_set];apply ext_getElem bu;intro j q1 q2;rw[getElem_set];split
  ·rename_i e;subst e;simp[vl,hb]
  rfl
 have O:live C.X (x.S.set i B')=live C.X x.S:=(by funext b;simp only[live,E])
 have hB:live C.X x.S B.b:=O9 hk;have H:∀b,b<w.heap.size→¬live C.X x.S b→w'.heap[b]?=w.heap[b]?∧¬live C.X x.S b:=fun b _ hn=>⟨i2 b (fun e=>hn (e ▸ hB)),hn⟩
 refine⟨⟨h.defers,h.size,fun t ht=>?_,⟨fun B2 hB2=>?_,?_⟩,?_,h.ex,h.eJ⟩,⟨by rw[i3];exact Nat.le_refl _,fun b _ hn=>i2 b (by simpa using hn)⟩,?_⟩
 ·simp only[O];exact(h.env t ht).mono H
 ·simp only[O];obtain⟨j,hj,U⟩:=mem_iff_getElem.1 hB2;rw[length_set] at hj;rw[getElem_set] at U;by_cases e:i=j
  ·rw[if_pos e] at U;subst U;refine⟨by rw[i3,hb];exact h0,lq,by rw[hb];exact i1,h2,h3,fun q hq=>?_⟩;obtain⟨u,hu,LV⟩:=h4 q hq;exact⟨u,hu,LV.mono H⟩
  rw[if_neg e] at U;subst U;have hne:x.S[j].b≠B.b:=fun he=>by
   have Cb:(ap x.S)[j]'zE=(ap x.S)[i]'zC:=(by simp[ap,he,vl])
   have hp:=pairwise_iff_getElem.1 h.own.apart;rcases Nat.lt_trichotomy j i with Z|Z|Z
   ·exact hp j i zE zC Z Cb
   ·exact e Z.symm
   exact hp i j zC zE Z Cb.symm
  obtain⟨q0,nl,q1,q2,q3,q4⟩:=h.own.at_ x.S[j] (getElem_mem hj);refine⟨by rw[i3];exact q0,nl,(i2 _ hne).trans q1,q2,q3,fun q hq=>?_⟩;obtain⟨u,hu,LV⟩:=q4 q hq;exact⟨u,hu,LV.mono H⟩
 ·simp only[E];exact h.own.apart
 ·refine⟨i4.trans h.fr.os,i5.trans h.fr.tape,i6.trans h.fr.output,by rw[i3];exact h.fr.size,fun b jy hn=>?_⟩;obtain⟨q1,q2⟩:=h.fr.block b jy hn;refine⟨(i2 b (fun e=>q2 (e ▸ mem_map.2 ⟨B,mem_of_getElem? hk,rfl⟩))).trans q1,?_⟩;simp only[E];exact q2
 rw[E];exact⟨i4,i5,i6,by rw[i3];exact Nat.le_refl _,fun b jy hn=>⟨i2 b (fun e=>hn (e ▸ mem_map.2 ⟨B,mem_of_getElem? hk,rfl⟩)),hn⟩⟩
theorem XQ{t:TypeId}{tt:Nat}(ho:o.op = .makeMap t none)(hd:o.dst=some tt):fD P G x o [] (fun y=>∃b,y=⟨x.n,(tt,.v (.map (some b)))::x.env,kz b []::x.S⟩):=fun C a w K Q hG h hK=>by
 have:(execOp a.eval o).run P w = .ok (.value (.map (some w.heap.size))) (w.alloc (ob yq #[])):=by
  unfold execOp;simp[ho,Instr.makeMap,Su,A3]
 unfold Oper.wp;rw[this,Oper.upon_value,hd];exact hK _ _ _ ⟨w.heap.size,rfl⟩ (h.Ti (ds:=[]) (cG.nil _ _) bu (fun L=>.v _)) (lG.alloc _ _) (Fr.alloc _ _ _)
theorem Jb{w:World}(h:JC w L (kz b ks)):w.heap[b]?=some (A3 (ks.map (Value.int .i64)).toArray):=by
 obtain⟨h0,cur,h1,h2,h3,h4⟩:=h;have h2:cur.size=ks.length:=h2;have:=aaD h2 h4;subst this;exact h1
theorem QU{e:MapEntry}(h:e∈(Array.mapIdx (fun i k=>(⟨k,.agg #[],i⟩:MapEntry)) (ks.map (Value.int .i64)).toArray).toList):∃k∈ks,e.key = .int .i64 k∧e.val = .agg #[]:=by
 obtain⟨i,hi,rfl⟩:=mem_iff_getElem.1 h;have E:i<ks.length:=(by simpa using hi)
 exact⟨ks[i],getElem_mem E,by simp,by simp⟩
theorem Pn:(k∉ks∧Instr.findNow (.int .i64) (.int .i64 k) (Array.mapIdx (fun i k=>(⟨k,.agg #[],i⟩:MapEntry)) (ks.map (Value.int .i64)).toArray).toList 0=some none) ∨
  (k∈ks∧∃i,Instr.findNow (.int .i64) (.int .i64 k) (Array.mapIdx (fun i k=>(⟨k,.agg #[],i⟩:MapEntry)) (ks.map (Value.int .i64)).toArray).toList 0=some (some (i,.agg #[]))):=by
 rcases MapKept.findNow_spec (d:=.int .i64) (k:=.int .i64 k) (by simp[MapKept.IsKey]) (Array.mapIdx (fun i k=>(⟨k,.agg #[],i⟩:MapEntry)) (ks.map (Value.int .i64)).toArray).toList 0 (fun e he=>by
   obtain⟨k',_,h1,_⟩:=QU he;rw[h1];simp[MapKept.IsKey]) with ⟨h1,h2⟩|⟨j,e,h1,h2,h3⟩
 ·refine .inl ⟨fun hm=>?_,h1⟩;obtain⟨i,hi,rfl⟩:=mem_iff_getElem.1 hm;exact h2 ((Array.mapIdx (fun i k=>(⟨k,.agg #[],i⟩:MapEntry)) (ks.map (Value.int .i64)).toArray).toList[i]'(by simpa using hi)) (getElem_mem _) bu
 obtain⟨k',qg,q1,q2⟩:=QU (mem_of_getElem? h2);rw[h3] at q1;have:k=k':=(by simpa using q1)
 subst this;rw[q2] at h1;exact .inr ⟨qg,_,h1⟩
theorem Y8 {U Z:TypeId} {z:Operand} (ho:o.op = .lookup U y z true) (hy:aF x y = .v (.map (some b))) (hz:aF x z = .v (.int .i64 k)) (hk:x.S[i]?=some (kz b ks))
  (hm:P.underlying U=some (.map kt Z)) (E:P.underlying kt=some (.int .i64)) (O:∀w,(zeroValue Z).run P w = .ok (.agg #[]) w):bV P G x o (.fm i) (.dy [.v (.agg #[]),.v (.bool (decide (k∈ks)))]):=fun C a w _ h=>by
 have h1:=Jb (h.fm hk);refine⟨.tuple #[.agg #[],.bool (decide (k∈ks))],.dy _ [.agg #[],.bool (decide (k∈ks))] rfl (fun j q1 q2=>?_),fun w' hw=>?_⟩
 ·rcases j with _|_|j
  ·exact .v _
  ·exact .v _
  simp at q1;omega
 have hh:w'.heap[b]?=_:=(hw _ hk).trans h1;have I:=MapKept.run_checkKey (P:=P) (w:=w') (kt:=kt) (d:=.int .i64) (k:=.int .i64 k) E (by simp[MapKept.IsKey]);unfold execOp;rcases Pn (ks:=ks) (k:=k) with ⟨n1,n2⟩|⟨n1,j,n2⟩
 ·have hf:=MapKept.run_findKey (P:=P) (w:=w') E n2;simp only[ho,h.flat hy,h.flat hz,Instr.lookup,Sem.run_bind,run_underlying hm,MapKept.run_getObj_map hh,I,hf,O,Result.andThen_ok,Sem.run_pure,n1,decide_false,if_true]
 have hf:=MapKept.run_findKey (P:=P) (w:=w') E n2;simp only[ho,h.flat hy,h.flat hz,Instr.lookup,Sem.run_bind,run_underlying hm,MapKept.run_getObj_map hh,I,hf,Result.andThen_ok,Sem.run_pure,n1,decide_true,if_true]
theorem Yf {mt et:TypeId} {z u:Operand} (ho:o.op = .mapUpdate mt y z u) (hd:o.dst=none) (hy:aF x y = .v (.map (some b))) (hz:aF x z = .v (.int .i64 k)) (hu:aF x u = .agg []) (hk:x.S[i]?=some (kz b ks)) (hn:k∉ks)
  (hm:P.underlying mt=some (.map kt et)) (I:P.underlying kt=some (.int .i64)):fD P G x o [b] (fun s=>s=⟨x.n,x.env,x.S.set i (kz b (ks++[k]))⟩):=fun C a w K Q hG h hK=>by
 have h1:=Jb (h.fm hk);have hv:a.eval u = .agg #[]:=by
  have:=h.eval u;rw[hu] at this;generalize a.eval u=v at this;cases this with
  | agg _ vs hl _ =>
   have:vs=[]:=eq_nil_of_length_eq_zero (by simpa using hl);subst this;rfl
 have U:=MapKept.run_checkKey (P:=P) (w:=w) (kt:=kt) (d:=.int .i64) (k:=.int .i64 k) I (by simp[MapKept.IsKey]);have hf:=(Pn (ks:=ks) (k:=k)).resolve_right fun q=>hn q.1;have Z:=MapKept.run_findKey (P:=P) (w:=w) I hf.2;have E:Obj.map ((Array.mapIdx (fun i k=>(⟨k,.agg #[],i⟩:MapEntry)) (ks.map (Value.int .i64)).toArray).push ⟨.int .i64 k,.agg #[],(ks.map (Value.int .i64)).toArray.size⟩) ((ks.map (Value.int .i64)).toArray.size+1)=ob yq (((ks++[k]).map (Value.int .i64)).toArray):=by
  have e:((ks++[k]).map (Value.int .i64)).toArray=(ks.map (Value.int .i64)).toArray.push (.int .i64 k):=(by simp)
  rw[e,Su,A3,Array.mapIdx_push,Array.size_push]
 have O:(execOp a.eval o).run P w = .ok .skip {w with heap:=w.heap.setIfInBounds b (ob yq (((ks++[k]).map (Value.int .i64)).toArray))}:=by
  unfold execOp;simp only[ho,h.flat hy,h.flat hz,hv,Instr.mapUpdate,Sem.run_bind,run_underlying hm,MapKept.run_getObj_map h1,U,Z,Result.andThen_ok,MapKept.run_setObj_map _ h1,E,Sem.run_pure]
 obtain⟨s1,s2,s3⟩:=h.afh (B':=kz b (ks++[k])) (lq:=((ks++[k]).map (Value.int .i64)).toArray) hk rfl (by simp[kz]) (by simp[kz,uL]) (fun j hj=>by
  have jj:j<(ks++[k]).length:=(by simpa[kz,uL] using hj)
  refine⟨.int .i64 (ks++[k])[j],by rw[getElem?_toArray,getElem?_map,getElem?_eq_getElem jj];rfl,?_⟩;simp only[kz,uL,getElem_map];exact .v _)
 unfold Oper.wp;rw[O,Oper.upon_skip,hd];exact hK _ _ _ rfl s1 s2 s3
theorem OD.ab7{t:TypeId}{tt:Nat}(hw:bZ ops x o true)(ho:o.op = .makeMap t none)(hd:o.dst=some tt)(K:∀b,OD P C ops l ⟨x.n,(tt,.v (.map (some b)))::x.env,kz b []::x.S⟩ Q):OD P C ops (o::l) x Q :=
 OD.fM hw (XQ ho hd) fun y ⟨b,hy⟩=>hy ▸ K b
theorem OD.addKey {I O:TypeId} {z u:Operand} (hw:bZ ops x o true) (ho:o.op = .mapUpdate I y z u) (hd:o.dst=none) (hy:aF x y = .v (.map (some b))) (hz:aF x z = .v (.int .i64 k)) (U:aF x u = .agg []) (hk:x.S[i]?=some (kz b ks)) (hn:k∉ks)
  (hm:P.underlying I=some (.map kt O)) (E:P.underlying kt=some (.int .i64)) (K:OD P C ops l ⟨x.n,x.env,x.S.set i (kz b (ks++[k]))⟩ Q):OD P C ops (o::l) x Q :=
 OD.fM hw (Yf ho hd hy hz U hk hn hm E) fun y hy=>hy ▸ K

end Go.Proofs.YtbcmjoaggammcaaGreatDoor.V
namespace Go.Proofs.YtbcmjoaggammcaaGreatDoor.V
open List
open Go.RowKit
variable {P:Program} {C:dF} {G:List (Nat×List Value)} {Q:Exit→St→Prop} {x:St} {ops:Array Oper} {l:List Oper} {o:Oper} {S1 T:List Nat} {fuel i:Nat} {ld:Array Bool}
variable {ts:Array TypeId} {S S2 S3:List ag} {post:D→List ag→Prop} {cs':List D} {fo:Operand} {cW:Array Operand}
theorem Yg {E kt I:TypeId} {i b:Nat} {ks:List Int} {y:Operand} (ho:o.op = .call {callee:=.builtin .len,args:=#[y],argTypes:=ts}) (ht:ts = #[E]) (hy:aF x y = .v (.map (some b))) (hk:x.S[i]?=some (kz b ks))
  (hm:P.underlying E=some (.map kt I)):bV P G x o (.fm i) (.v (.int .i64 (ks.length:Nat))):=fun C a w _ h=>by
 subst ht;have h1:=Jb (h.fm hk);refine⟨_,.v _,fun w' hw=>?_⟩;have O:w'.heap[b]?=_:=(hw _ hk).trans h1;have hg:=MapKept.run_getObj_map (P:=P) O;have U:=run_underlying hm w';unfold execOp;simp[ho,resolve,invoke,builtin,Builtin.len_,h.flat hy,U,hg,goInt,Result.andThen]
def Ck:List D→List D→Prop
 | [],[]=>True
 | a::l,b::l'=>(a=b∨∃sz,a = .v (.slice none 0 0)∧b = .list sz [] 0)∧Ck l l'
 | _,_=>False
theorem Ck.Cf{w:World}{L:Nat→Prop}:∀{a b:List D} {vs:List Value},Ck a b→cG w L a vs→cG w L b vs
 | [],[],_,_,h=>h
 | a::l,b::l',[],_,h=>by simp[cG] at h
 | a::l,b::l',v::vs,⟨k,t⟩,h=>by
  obtain⟨h0,h1⟩:=h.tail;have h2:=Ck.Cf t h1;refine⟨by have:=h2.1;simp[this],fun i q1 q2=>?_⟩;cases i with
  | zero =>
   rcases k with rfl|⟨sz,rfl,rfl⟩
   ·exact h0
   show cl w L (.list sz [] 0) v;rw[h0.kw];exact .lT sz none 0
  | succ i=>exact h2.2 i (by simpa using q1) (by simpa using q2)
theorem VC.eA{f:FuncId}{args args':List D}(h:VC P G f args S post)(k:Ck args' args):VC P G f args' S post:=fun X w vs hp=>h X w vs ⟨hp.ex,hp.eJ,hp.own,k.Cf hp.args⟩
theorem OD.adV{A:ag}{R:List ag}(hS:x.S=A::R)(E:gk [] A.cs cs')(k:OD P C ops l ⟨x.n,x.env,{A with cs:=cs'}::R⟩ Q):OD P C ops l x Q :=
 OD.cover (Sd:=[]) (by rw[hS,append_nil]) E k

theorem gk.append{S:List ag}:∀{a b c d:List D},gk S a b→gk S c d→gk S (a++c) (b++d)
 | [],[],_,_,_,h=>h
 | _::_,_::_,_,_,h,k=>⟨h.1,gk.append h.2 k⟩
 | [],_::_,_,_,h,_=>h.elim
 | _::_,[],_,_,h,_=>h.elim
theorem gk.same{S:List ag}:∀{a:List D},gk S a a
 | []=>trivial
 | _::_=>⟨eL,gk.same⟩
theorem N3{sz n cap b e size:Nat}{cs:List D}(E:(⟨b,e,size,cs⟩:ag)∈S)(Z:gk S cs cs')(hl:cs'.length=n*sz)(h1:n≤cap)(h2:cap≤maxLen)(hne:isMap e=false:=by rfl):View S (.v (.slice (some ⟨b,0,none⟩) n cap)) (.list sz cs' n):=fun X Y w v I O ho h=>by
 rw[h.kw];obtain⟨v1,v2⟩:=Z.spec;obtain⟨r0,cur,r1,r2,r3,U⟩:=ho.at_ _ E;rw[jY hne] at r1;refine .list sz cs' n b 0 cap (fun i=>cur.getD i undef) hl h1 h2 r0 (fun hy=>O _ (I _ hy) (mem_map.2 ⟨_,E,rfl⟩)) (fun i hi=>?_) (fun i hi=>?_)
 ·obtain⟨u,hu,_⟩:=U i Fg;rw[Nat.zero_add,nF r1 hu];simp[hu]
 obtain⟨u,hu,hq⟩:=U i Fg;simp only[Array.getD_eq_getD_getElem?,hu,Option.getD_some];exact v2 i w4 hi X Y w u I O ho hq
theorem Am{Sq:List ag}{e sz n cap:Nat}{cs:List D}{ad:Option Addr}(h:bq e sz cs n ad cap Sq)(E:gk S cs cs')(hl:cs'.length=n*sz)(hs:∀B∈Sq,B∈S)(hne:isMap e=false:=by rfl):View S (.v (.slice ad n cap)) (.list sz cs' n):=by
 rcases h with ⟨rfl,rfl,rfl,rfl,rfl⟩|⟨b,rfl,h1,h2,rfl⟩
 ·have:cs'=[]:=(by cases cs' with|nil=>rfl|cons _ _=>exact E.elim)
  subst this;exact xX
 exact N3 (hne:=hne) (hs _ mem_cons_self) E hl h1 h2
theorem OZ{A S1 E:List ag}:(A++(S1++(S2++(S3++E)))).Perm (S3++(A++(S1++(S2++E)))):=iu fun f=>by simp only[map_append,sum_append];omega
theorem aap{A S1 E:List ag}:(S3++(A++(S1++(S2++E)))).Perm (A++(S1++(S2++(S3++E)))):=OZ.symm
/-! ### Rows in rows: each element has its cells and its blocks -/
variable {α:Type} {V:α→List D→List ag→Prop}
/-! ### A call that looks at what is owned here, and gives what is its own -/
theorem Hg {f t:Nat} {args:List D} (ho:o.op = .call {callee:=.value fo,args:=cW,argTypes:=ts}) (hd:o.dst=some t)
  (hf:fo = .func f) (fg:∀args w,(callFunc f args).run P w = .ok (.enter f args) w) (hc:VC P G f args [] post) (hr:∀r S',post r S'→ku r=true∧∀B∈S',∀d∈B.cs,ku d=true) (ha:Looks x cW.toList args) :
  fD P G x o [] (fun y=>∃r S',post r S'∧y=⟨x.n,(t,r)::x.env,S'++x.S⟩):=fun C a w K Q hG h hK=>by
 subst hf;have U:(execOp a.eval o).run P w = .ok (.enter f (cW.toList.map a.eval).toArray) w:=by
  unfold execOp;have e:cW.map a.eval=(cW.toList.map a.eval).toArray:=by
   rw[←Array.toList_map,Array.toArray_toList]
  simp only[ho,resolve,Act.eval,Deferred.ofValue,Sem.run_bind,Sem.run_pure,Result.andThen_ok,invoke,e];simp[fg]
 have Z:F9 G (fun _=>False) w [] args (cW.toList.map a.eval):=by
  refine⟨fun b hx=>hx.elim,fun g hg=>?_,⟨fun B O=>by simp at O,by simp[ap]⟩,(Looks.Cf h ha).mono fun b _ _=>⟨rfl,fun hl=>by rcases hl with hl|hl;exact hl;simp[ap] at hl⟩⟩;rw[←hG] at hg;exact⟨⟨Nat.lt_of_lt_of_le (h.eJ g hg).1.1 h.fr.size,by simp[ap],id⟩,fun i v hi=>h.bA hg hi⟩
 unfold Oper.wp;rw[U,Oper.upon_enter,hd];refine(hc _ w _ Z).mono fun e w' ⟨v,r,S',h1,h2,h3,h4,h5⟩=>?_;subst h1;obtain⟨tT,tU⟩:=hr r S' h2;have hb:∀b,b<w.heap.size→w'.heap[b]?=w.heap[b]?:=fun b hb=>(h5.block b hb (by simp[ap])).1;have hn:∀b,b<w.heap.size→b∉ap S':=fun b hb=>(h5.block b hb (by simp[ap])).2;have I:∀b,b<w.heap.size→¬live C.X x.S b→¬live C.X (S'++x.S) b:=fun b E h0 hl=>by
  rcases hl with hl|hl
  ·exact h0 (.inl hl)
  rw[ap,map_append,mem_append] at hl;rcases hl with hl|hl
  ·exact hn b E hl
  exact h0 (.inr hl)
 have base:bF C ⟨x.n,x.env,S'++x.S⟩ a w':=by
  refine⟨h.defers,h.size,fun t ht=>(h.env t ht).mono fun b E h0=>⟨hb b E,I b E h0⟩,⟨fun B O=>?_,?_⟩,?_,h.ex,h.eJ⟩
  ·rcases mem_append.1 O with O|O
   ·obtain⟨r0,cur,r1,r2,r3,r4⟩:=h3.at_ B O;refine⟨r0,cur,r1,r2,r3,fun i hi=>?_⟩;obtain⟨u,hu,hq⟩:=r4 i hi;exact⟨u,hu,hq.flat (tU B O _ (getElem_mem hi))⟩
   obtain⟨r0,cur,r1,r2,r3,r4⟩:=h.own.at_ B O;refine⟨qo r0 (hb _ r0),cur,(hb _ r0).trans r1,r2,r3,fun i hi=>?_⟩;obtain⟨u,hu,hq⟩:=r4 i hi;exact⟨u,hu,hq.mono fun b E h0=>⟨hb b E,I b E h0⟩⟩
  ·rw[ap,map_append];refine nodup_append.2 ⟨h3.apart,h.own.apart,fun b iT c aH e=>?_⟩;subst e;obtain⟨B,O,rfl⟩:=mem_map.1 aH;exact hn _ (h.own.at_ B O).1 iT
  refine⟨h5.os.trans h.fr.os,h5.tape.trans h.fr.tape,h5.output.trans h.fr.output,Nat.le_trans h.fr.size h5.size,fun b E h0=>⟨(hb b (Nat.lt_of_lt_of_le E h.fr.size)).trans (h.fr.block b E h0).1,fun hm=>?_⟩⟩;rw[ap,map_append,mem_append] at hm;rcases hm with hm|hm
  ·exact hn b (Nat.lt_of_lt_of_le E h.fr.size) hm
  exact(h.fr.block b E h0).2 hm
 refine hK _ _ _ ⟨r,S',h2,rfl⟩ (base.put (h4.flat tT)) ⟨h5.size,fun b E _=>hb b E⟩ ⟨h5.os,h5.tape,h5.output,h5.size,fun b E h0=>⟨hb b E,fun hm=>?_⟩⟩;rw[ap,map_append,mem_append] at hm;rcases hm with hm|hm
 ·exact hn b E hm
 exact h0 hm
theorem OD.JF {f t:Nat} {args:List D} (hw:bZ ops x o true) (ho:o.op = .call {callee:=.value fo,args:=cW,argTypes:=ts}) (hd:o.dst=some t)
  (hf:fo = .func f) (fg:∀args w,(callFunc f args).run P w = .ok (.enter f args) w) (hc:VC P C.G f args [] post) (hr:∀r S',post r S'→ku r=true∧∀B∈S',∀d∈B.cs,ku d=true) (ha:Looks x cW.toList args)
  (K:∀r S',post r S'→OD P C ops l ⟨x.n,(t,r)::x.env,S'++x.S⟩ Q):OD P C ops (o::l) x Q:=OD.fM hw (Hg ho hd hf fg hc hr ha) fun y ⟨r,S',hp,hy⟩=>hy ▸ K r S' hp

end Go.Proofs.YtbcmjoaggammcaaGreatDoor.V

namespace Go.Proofs.YtbcmjoaggammcaaGreatDoor.V
open List
open Go.RowKit
/-! ### Values that hold no yield -/
variable {a:Act} {t:Nat}
mutual
def iq:D→Bool
 | .v _=>true
 | .list _ cs _=>fA cs
 | .fp cs _=>fA cs
 | .agg cs=>fA cs
 | .dy cs=>fA cs
 | .ek _ cs=>fA cs
 | .jT _ _=>false
 | .bU=>true
def fA:List D→Bool
 | []=>true
 | d::r=>iq d&&fA r
end

theorem vJ:∀{cs:List D},fA cs=true→∀i (h:i<cs.length),iq cs[i]=true
 | [],_,_,h=>by cases h
 | d::r,hn,0,_=>by rw[fA,Bool.and_eq_true] at hn;exact hn.1
 | d::r,hn,i+1,h=>by rw[fA,Bool.and_eq_true] at hn;exact vJ hn.2 i oB
theorem Po:∀{a b:List D},fA a=true→fA b=true→fA (a++b)=true
 | [],_,_,h=>h
 | d::r,b,ha,hb=>by
  rw[fA,Bool.and_eq_true] at ha;rw[cons_append,fA,Bool.and_eq_true];exact⟨ha.1,Po ha.2 hb⟩
theorem uv{α:Type}{g:α→List D}(hg:∀a,fA (g a)=true):∀(ls:List α),fA (ls.flatMap g)=true
 | []=>rfl
 | a::ls=>by rw[flatMap_cons];exact Po (hg a) (uv hg ls)
theorem aaE{l:List (Nat×D)}(h:(l.all fun p=>iq p.2)=true)(t:Nat):iq (look t l)=true:=by
 induction l with
 | nil=>rfl
 | cons p l ih =>
  obtain⟨i,d⟩:=p;rw[all_cons,Bool.and_eq_true] at h;rw[fK];split
  ·exact h.1
  exact ih h.2

theorem cl.yI {w w':World} {L O:Nat→Prop} {Z:Nat→Prop} {d:D} {v:Value} (h:cl w L d v) (hn:iq d=true) (H:∀b,b<w.heap.size→¬L b→¬Z b→w'.heap[b]?=w.heap[b]?∧¬O b)
  (U:∀b o,Z b→w.cell? ⟨b,o,none⟩=none) (hs:w.heap.size≤w'.heap.size) (I:∀b,b<w.heap.size→¬L b→Z b→¬O b):cl w' O d v:=by
 induction h with
 | v x=>exact .v x
 | lT sz ad cap=>exact .lT sz ad cap
 | list sz cs len b o cap f hl h1 h2 hb hL hc hr ih =>
  rw[iq] at hn;by_cases hz:Z b
  ·have:¬0<cs.length:=fun h0=>by have:=hc 0 h0;rw[U _ _ hz] at this;cases this
   exact .list sz cs len b o cap f hl h1 h2 w4 (I b hb hL hz) (fun i hi=>by omega) (fun i hi=>by omega)
  have E:=H b hb hL hz;exact .list sz cs len b o cap f hl h1 h2 (qo hb E.1) E.2 (fun i hi=>(World.cell?_of_block (w:=w) (a:=⟨b,o+i,none⟩) E.1).trans (hc i hi)) (fun i hi=>ih i hi (vJ hn i hi))
 | fp cs off b o f hb hL hc hr ih =>
  rw[iq] at hn;by_cases hz:Z b
  ·have:¬0<cs.length:=fun h0=>by have:=hc 0 h0;rw[U _ _ hz] at this;cases this
   exact .fp cs off b o f w4 (I b hb hL hz) (fun i hi=>by omega) (fun i hi=>by omega)
  have E:=H b hb hL hz;exact .fp cs off b o f (qo hb E.1) E.2 (fun i hi=>(World.cell?_of_block (w:=w) (a:=⟨b,o+i,none⟩) E.1).trans (hc i hi)) (fun i hi=>ih i hi (vJ hn i hi))
 | agg cs vs hl hr ih=>rw[iq] at hn;exact .agg cs vs hl fun i h h'=>ih i h h' (vJ hn i h)
 | dy cs vs hl hr ih=>rw[iq] at hn;exact .dy cs vs hl fun i h h'=>ih i h h' (vJ hn i h)
 | ek fn cs vs hl hr ih=>rw[iq] at hn;exact .ek fn cs vs hl fun i h h'=>ih i h h' (vJ hn i h)
 | jT l os h=>rw[iq] at hn;cases hn
 | bU x=>exact .bU x

theorem Own.yI {w w':World} {L:Nat→Prop} {Z:Nat→Prop} {S:List ag} (h:Own w L S) (hS:∀B∈S,L B.b) (hn:∀B∈S,fA B.cs=true) (H:∀b,b<w.heap.size→¬Z b→w'.heap[b]?=w.heap[b]?)
  (O:∀b o,Z b→w.cell? ⟨b,o,none⟩=none) (hs:w.heap.size≤w'.heap.size) (E:∀B∈S,¬Z B.b):Own w' L S :=
 ⟨fun B I=>by
  obtain⟨r0,cur,r1,r2,U,r4⟩:=h.at_ B I;refine⟨by omega,cur,(H _ r0 (E B I)).trans r1,r2,U,fun i hi=>?_⟩;obtain⟨u,hu,hq⟩:=r4 i hi;exact⟨u,hu,hq.yI (vJ (hn B I) i hi) (fun b hb hl hz=>⟨H b hb hz,hl⟩) O hs (fun b _ hl _=>hl)⟩,h.apart⟩

theorem D5{w:World}{b:Nat}{o:Obj}(h:w.heap[b]?=some o)(ho:o.isCells=false)(i:Nat):w.cell? ⟨b,i,none⟩=none:=by
 cases hc:w.cell? ⟨b,i,none⟩ with
 | none=>rfl
 | some v =>
  obtain⟨o',h1,h2⟩:=cells_of_cell hc;have h1:w.heap[b]?=some o':=h1;rw[h] at h1;cases h1;rw[ho] at h2;cases h2

/-! ### What a loop owes its iterator -/
structure V1 (l:Nat) (w:World) (S:List Nat) (w':World) (S':List Nat):Prop where
 os:w'.os=w.os
 tape:w'.tape=w.tape
 output:w'.output=w.output
 size:w.heap.size≤w'.heap.size
 block:∀b,b<w.heap.size→b∉S→(b≠l→w'.heap[b]?=w.heap[b]?)∧b∉S'

structure xu (α:Type) where
 l:Nat
 os:List (Nat×Obj)
 od:List (Nat×Obj)
 enc:α→List D
 J:List α→List ag→Prop
 Jx:List α→List ag→Prop
 N:Nat

def qy(W:World)(L:Nat→Prop)(os:List (Nat×Obj)):Prop:=∀z∈os,z.1<W.heap.size∧¬L z.1∧W.heap[z.1]?=some z.2

def LW{α:Type}(P:Program)(X0:Nat→Prop)(w0:World)(S0:List Nat)(Y:xu α):Prop :=
 ∀(pre:List α) (y:α) (Sc:List ag) (X:Nat→Prop) (W:World) (vs:List Value),
  Y.J pre Sc→pre.length<Y.N→(∀b,X b→b<W.heap.size∧b∉ap Sc)→(∀b,X0 b→X b)→(∀b,X b→X0 b∨w0.heap.size≤b∨b∈S0) →
  Own W (live X Sc) Sc→cG W (live X Sc) (Y.enc y) vs→Fr w0 S0 W (ap Sc)→qy W (live X Sc) Y.os →
  ∃fn tmps assign body,(Instr.yield Y.l vs.toArray).run P W = .ok (.round Y.l fn tmps assign body) W ∧
   RoundIn Fence.wide 0 P Y.l fn tmps assign body W (fun e W'=>∃b mF,e = .returned (.bool b)∧Own W' (live X mF) mF∧V1 Y.l W (ap Sc) W' (ap mF) ∧
    (b=true→Y.J (pre++[y]) mF∧W'.heap[Y.l]?=W.heap[Y.l]?)∧(b=false→Y.Jx (pre++[y]) mF∧qy W' (live X mF) Y.od))

def mj(G:List (Nat×List Value))(w0:World)(S0:List Nat)(X0:Nat→Prop):Prop:=∀g∈G,(g.1<w0.heap.size∧g.1∉S0∧¬X0 g.1)∧∀i v,g.2[i]?=some v→nI w0 g.1 i v

def VI{α:Type}(P:Program)(G:List (Nat×List Value))(gf:FuncId)(By:List D)(enc:α→List D)(Sa Sp:List α→Prop)(N:Nat):Prop :=
 ∀(Y:xu α) (X0:Nat→Prop) (w0 W:World) (S0:List Nat) (Sc:List ag) (cv:List Value),Y.enc=enc→Y.N=N →
  (∀b,X0 b→b<w0.heap.size∧b∉S0)→mj G w0 S0 X0→w0.heap.size≤Y.l→Own W (live X0 Sc) Sc→cG W (live X0 Sc) By cv→Fr w0 S0 W (ap Sc) →
  qy W (live X0 Sc) Y.os→Y.J [] Sc→LW P X0 w0 S0 Y →
  Calls P gf (#[.func (.yield Y.l) #[] #[]]++cv.toArray) W fun e W'=>∃v mF,e = .returned v∧Own W' (live X0 mF) mF∧Fr w0 S0 W' (ap mF) ∧
   ((∃xs,Sa xs∧Y.J xs mF∧qy W' (live X0 mF) Y.os)∨(∃pre,Sp pre∧Y.Jx pre mF∧qy W' (live X0 mF) Y.od))

variable {P:Program} {C:dF} {G:List (Nat×List Value)} {Q:Exit→St→Prop} {x:St} {ops:Array Oper} {o:Oper} {fuel i:Nat} {ld:Array Bool} {α:Type}

def Tn(P:Program)(fn:Func)(Y:xu α)(Sa Sp:List α→Prop)(e:Exit)(y:St):Prop :=
 (e = .normal∨e = .ret)∧(∃r,sD P fn y r)∧0<y.n∧∃mF,mF.Sublist y.S∧((∃xs,Sa xs∧Y.J xs mF∧look 0 y.env = .jT Y.l Y.os)∨(∃pre,Sp pre∧Y.Jx pre mF∧look 0 y.env = .jT Y.l Y.od))
theorem NP.afi{fn:Func}{Y:xu α}{E I:List α→Prop}:NP (Tn P fn Y E I):=fun O y t hq=>by rcases hq.1 with h|h<;>cases h

theorem VI.body {gf:FuncId} {fn:Func} {c:Code} {n:Nat} {I:List D} {enc:α→List D} {Sa Sp:List α→Prop} {N:Nat} (hf:P.funcs[gf]?=some fn) (hb:fn.body=some c) (hn:fn.ntmps=n) (hl:1+I.length≤n)
  (h:∀(Y:xu α) X0 w0 S0 Sc,Y.enc=enc→Y.N=N→w0.heap.size≤Y.l→LW P X0 w0 S0 Y→Y.J [] Sc→CD P ⟨X0,w0,S0,G,[],fun _ _=>False⟩ c ⟨n,rL 0 (.jT Y.l Y.os::I),Sc⟩ (Tn P fn Y Sa Sp)):VI P G gf I enc Sa Sp N:=fun Y X0 w0 W S0 Sc cv he hN hex Z aa kf Ft jk agN hJ hY=>by
 let C:dF:=⟨X0,w0,S0,G,[],fun _ _=>False⟩
 have eY:cG W (live X0 Sc) (.jT Y.l Y.os::I) (.func (.yield Y.l) #[] #[]::cv):=.cons (.jT _ _ agN) Ft;have agO:#[Value.func (.yield Y.l) #[] #[]]++cv.toArray=(Value.func (.yield Y.l) #[] #[]::cv).toArray:=(by simp)
 rw[agO];generalize V2:Value.func (.yield Y.l) #[] #[]::cv=vs at eY;generalize ji:D.jT Y.l Y.os::I=args at eY;have qZ:args.length≤n:=(by rw[←ji];simp;omega)
 have qX:vs.length=args.length:=eY.1;have O:bF C ⟨n,rL 0 args,Sc⟩ {tmps:=vs.toArray++Array.replicate (fn.ntmps-vs.toArray.size) undef,defers:=[]} W:=by
  refine⟨rfl,by simp[hn];omega,fun t ht=>?_,kf,jk,hex,Z⟩;simp only[DB,Nat.zero_le,if_true,Nat.sub_zero];by_cases aa:t<args.length
  ·have e1:args.getD t .bU=args[t]:=(by simp[getD,aa])
   have e2:(vs.toArray++Array.replicate (fn.ntmps-vs.toArray.size) undef).getD t undef=vs[t]'w4:=by
    rw[Array.getD_eq_getD_getElem?,Array.getElem?_append_left gN];simp[show t<vs.length by omega]
   rw[e1,e2];exact eY.2 t aa w4
  have e1:args.getD t .bU = .bU:=(by simp[getD,getElem?_eq_none (show args.length≤t by omega)])
  rw[e1];exact .bU _
 rw[←ji] at O;refine calls_of_wp hf hb (wp_mono (h Y X0 w0 S0 Sc he hN aa hY hJ _ _ O) fun e a w' hq=>?_);rcases hq with ⟨y,h1,h2,⟨r,h3⟩,h0,E,h4,h5⟩|⟨_,hq⟩
 case inr=>exact hq.elim
 obtain⟨v,q1,q2⟩:=h3 C a w' h1;have U:(ap E).Sublist (ap y.S):=Sublist.map _ h4;have raw:∀os,look 0 y.env = .jT Y.l os→qy w' (live X0 E) os:=fun os ho=>by
  have hv:=h1.env 0 h0;rw[ho] at hv;generalize a.tmps.getD 0 undef=u at hv;cases hv with
  | jT _ _ hz=>exact fun z xw=>by obtain⟨z1,z2,z3⟩:=hz z xw;exact⟨z1,fun hl=>z2 (hl.imp id fun q=>U.subset q),z3⟩
 have key:a.defers=[]∧∃v,(results fn a.tmps).run P w' = .ok v w'∧∃v' E,Ending.returned v = .returned v'∧Own w' (live X0 E) E∧Fr w0 S0 w' (ap E)∧((∃xs,Sa xs∧Y.J xs E∧qy w' (live X0 E) Y.os)∨(∃pre,Sp pre∧Y.Jx pre E∧qy w' (live X0 E) Y.od)) :=
  ⟨h1.defers,v,q2,v,E,rfl,h1.own.sub h4,⟨h1.fr.os,h1.fr.tape,h1.fr.output,h1.fr.size,fun b jy hn=>⟨(h1.fr.block b jy hn).1,fun q=>(h1.fr.block b jy hn).2 (U.subset q)⟩⟩,
   h5.imp (fun ⟨xs,s1,s2,s3⟩=>⟨xs,s1,s2,raw _ s3⟩) (fun ⟨pre,s1,s2,s3⟩=>⟨pre,s1,s2,raw _ s3⟩)⟩
 rcases h2 with rfl|rfl<;>exact key

/-! ### A region in which yield is called -/
def AI(P:Program)(C:dF)(ops:Array Oper)(fuel:Nat)(ld:Array Bool)(x:St)(Q:Exit→St→Prop):Prop :=
 ∀a w,bF C x a w→wpAnyIn Fence.wide 0 P .any ops (LQ C Q) fuel ld a w
def gw(P:Program)(C:dF)(ops:Array Oper)(fuel:Nat)(ld:Array Bool)(x:St)(Q:Exit→St→Prop)(i:Nat):Prop :=
 ∀a w,bF C x a w→wpOpIn Fence.wide 0 P ops (LQ C Q) i (wpAnyIn Fence.wide 0 P .any ops (LQ C Q) fuel (ld.setIfInBounds i true)) a w

theorem bF.drew{w:World}(hs:bF C x a w):bF C x a {w with drawn:=w.drawn+1} :=
 ⟨hs.defers,hs.size,fun t ht=>(hs.env t ht).mono fun b _ hn=>⟨rfl,hn⟩,⟨fun B E=>by
  obtain⟨r0,cur,r1,r2,I,O⟩:=hs.own.at_ B E;exact⟨r0,cur,r1,r2,I,fun i hi=>by
   obtain⟨u,hu,hq⟩:=O i hi;exact⟨u,hu,hq.mono fun b _ hn=>⟨rfl,hn⟩⟩⟩,hs.own.apart⟩,⟨hs.fr.os,hs.fr.tape,hs.fr.output,hs.fr.size,hs.fr.block⟩,hs.ex,hs.eJ⟩

theorem CD.ab8{id:Nat}{l:List Oper}(hm:P.follows .mixedOrders=true)(h:AI P C l.toArray l.toArray.size (Array.replicate l.toArray.size false) x Q):CD P C (.region id l.toArray true) x Q:=fun a w hs =>
 wpIn_wide.1 (wpIn_region_any (F:=Fence.wide) (n:=0) hm (h a _ hs.drew))

theorem AI.all{E:List Nat}(hr:Region.ready .any ops ld=E)(hne:E≠[])(h:∀i∈E,gw P C ops fuel ld x Q i):AI P C ops (fuel+1) ld x Q:=fun a w hs=>wpAnyIn_all hr hne fun i hi=>h i hi a w hs
theorem AI.one(hr:Region.ready .any ops ld=[i])(h:gw P C ops fuel ld x Q i):AI P C ops (fuel+1) ld x Q:=AI.all hr bu fun j hj=>by rw[mem_singleton] at hj;subst hj;exact h
theorem AI.two{j:Nat}(hr:Region.ready .any ops ld=[i,j])(h:gw P C ops fuel ld x Q i)(h':gw P C ops fuel ld x Q j):AI P C ops (fuel+1) ld x Q:=AI.all hr bu fun k hk=>by
 rcases mem_cons.1 hk with rfl|hk
 ·exact h
 rw[mem_singleton] at hk;subst hk;exact h'
theorem AI.done(hr:Region.ready .any ops ld=[])(h:Q .normal x):AI P C ops fuel ld x Q:=fun a w hs=>wpAnyIn_done hr (.inl ⟨x,hs,h⟩) _
theorem AI.wk{y:St}(h:Wk x y)(k:AI P C ops fuel ld y Q):AI P C ops fuel ld x Q:=fun a w hs=>k a w (h C a w hs)
theorem AI.perm{S':List ag}(hp:x.S.Perm S')(k:AI P C ops fuel ld ⟨x.n,x.env,S'⟩ Q):AI P C ops fuel ld x Q:=AI.wk (Wk.perm hp) k
theorem AI.take {d:D} (hi:ops[i]?=some o) (hs:Region.noSelect ops=true) (hf:Region.free .any ops ld i=true) (hr:(Region.ready .any ops ld).contains i=true) (hp:NP Q)
  (hw:bZ ops x o true) (qk:∀w a,o.about P w a=none) (hd:o.dst=some t) (h:bV P C.G x o .none d) (K:AI P C ops fuel (ld.setIfInBounds i true) (x.put t d) Q):AI P C ops (fuel+1) ld x Q:=fun a w E=>by
 obtain⟨v,h1,h2⟩:=h C a w rfl E;refine wpAnyIn_take (oi:=o) (v:=v) rfl hi hs hf hr (yE hp _ v) ⟨.inl ⟨hw C a w E,fun w'=>h2 w' trivial⟩,fun w'=>qk w' _⟩ ?_;rw[hd];exact K _ _ (E.put h1)

theorem QV{K:Act→World→Prop}{Q:Exit→Act→World→Prop}{w:World}(ro:Option Nat)(hd:∀c,o.op≠.defer c)(h:o.wp P a w K Q):o.wpIn {Fence.wide with round:=ro} 0 P a w K Q:=by
 refine⟨fun _ _=>trivial,?_⟩;rw[Oper.semAt_eq _ _ _ hd];unfold Oper.wp at h;generalize (execOp a.eval o).run P w=r at h;have fq:∀m E,Steps P m E→StepsIn (Machine.fenced P {Fence.wide with round:=ro}) P m E:=fun m E hs=>stepsIn_wide.2 hs;match r,h with
 | .ok (.value v) w',h=>exact h
 | .ok .skip w',h=>exact h
 | .ok (.defer d) w',h=>exact h
 | .ok (.enter f args) w',h=>exact⟨fun hc=>(by cases hc),((callsIn_wide (n:=0)).2 h:CallsIn Fence.wide 0 P f args w' _)⟩
 | .ok (.row row args) w',h=>exact⟨fun hc=>(by cases hc),fun c cs _=>let ⟨v,w'',r,s⟩:=h c cs;⟨v,w'',r,fq _ _ s⟩⟩
 | .halt (.panic v) w',h=>exact h

theorem gw.fM{W:List Nat}{post:St→Prop}(hi:ops[i]?=some o)(hw:bZ ops x o true)(xx:∀c,o.op≠.defer c)(h:fD P C.G x o W post)(k:∀y,post y→AI P C ops fuel (ld.setIfInBounds i true) y Q):gw P C ops fuel ld x Q i:=fun a w E=>by
 unfold wpOpIn;simp only[hi,hw C a w E,if_true];exact QV none xx (h C a w _ _ rfl E fun y a' w' hp I _ _=>k y hp a' w' I)
theorem gw.still{kd:Rd}{d:D}(hi:ops[i]?=some o)(hw:bZ ops x o true)(xx:∀c,o.op≠.defer c)(hd:o.dst=some t)(h:bV P C.G x o kd d)(k:AI P C ops fuel (ld.setIfInBounds i true) (x.put t d) Q):gw P C ops fuel ld x Q i :=
 gw.fM hi hw xx (h.fM hd) fun y hy=>by subst hy;exact k
theorem gw.gE {f:Nat} {fo:Operand} {cW:Array Operand} {ts:Array TypeId} {args:List D} {r:D} (hi:ops[i]?=some o) (hw:bZ ops x o true) (ho:o.op = .call {callee:=.value fo,args:=cW,argTypes:=ts}) (hd:o.dst=some t)
  (hf:fo = .func f) (fg:∀args w,(callFunc f args).run P w = .ok (.enter f args) w) (hc:VP P C.G f args r) (ha:mu x cW.toList args)
  (K:AI P C ops fuel (ld.setIfInBounds i true) (x.put t r) Q):gw P C ops fuel ld x Q i :=
 gw.fM hi hw (fun c hc=>by rw[ho] at hc;cases hc) (Au ho hd hf fg ha.eq (eK _) hc) fun y ⟨E,S',⟨h1,h2⟩,hy⟩=>by subst h1 h2 hy;exact K

theorem bF.back{w w':World}(h:bF C x a w){Sf R S':List ag}(hp:x.S.Perm (Sf++R))(h3:Own w' (live (fun b=>C.X b∨b∈ap R) S') S')(h5:Fr w (ap Sf) w' (ap S')):bF C ⟨x.n,x.env,S'++R⟩ a w':=by
 have hb:(ap x.S).Perm (ap Sf++ap R):=(by have:=hp.map ag.b;simpa[ap] using this)
 have hL:=xT (X:=C.X) hp;have hnd:(ap Sf++ap R).Nodup:=hb.nodup_iff.1 h.own.apart;obtain⟨n1,n2,n3⟩:=nodup_append.1 hnd;have O:∀b,b∈ap R→b<w.heap.size:=fun b xo=>by
  obtain⟨B,I,rfl⟩:=mem_map.1 xo;exact(h.own.at_ B (hp.symm.subset (mem_append_right _ I))).1
 have U:live C.X (S'++R)=live (fun b=>C.X b∨b∈ap R) S':=xT (Perm.refl _);have H:∀b,b<w.heap.size→¬live C.X x.S b→w'.heap[b]?=w.heap[b]?∧¬live C.X (S'++R) b:=fun b aa hn=>by
  rw[hL] at hn;have E:b∉ap Sf:=fun hm=>hn (.inr hm);obtain⟨q1,q2⟩:=h5.block b aa E;refine⟨q1,fun hl=>?_⟩;rw[U] at hl;rcases hl with hl|hl
  ·exact hn (.inl hl)
  exact q2 hl
 refine⟨h.defers,h.size,fun t ht=>(h.env t ht).mono H,⟨fun B I=>?_,?_⟩,?_,h.ex,h.eJ⟩
 ·rcases mem_append.1 I with I|I
  ·have:=h3.at_ B I;rw[←U] at this;exact this
  obtain⟨r0,cur,r1,r2,r3,r4⟩:=h.own.at_ B (hp.symm.subset (mem_append_right _ I));have Cc:B.b∈ap R:=mem_map.2 ⟨B,I,rfl⟩;have E:B.b∉ap Sf:=fun hm=>n3 B.b hm B.b Cc rfl;have hh:=(h5.block B.b r0 E).1;refine⟨qo r0 hh,cur,hh.trans r1,r2,r3,fun i hi=>?_⟩;obtain⟨u,hu,hq⟩:=r4 i hi;exact⟨u,hu,hq.mono H⟩
 ·show(ap (S'++R)).Nodup;have:ap (S'++R)=ap S'++ap R:=(by simp[ap])
  rw[this];refine nodup_append.2 ⟨h3.apart,n2,fun b iT c aH he=>?_⟩;subst he;have E:b∉ap Sf:=fun hm=>n3 b hm b aH rfl;exact(h5.block b (O b aH) E).2 iT
 refine⟨h5.os.trans h.fr.os,h5.tape.trans h.fr.tape,h5.output.trans h.fr.output,Nat.le_trans h.fr.size h5.size,fun b Z hn=>?_⟩;obtain⟨q1,q2⟩:=h.fr.block b Z hn;have gb:b∉ap Sf:=fun hm=>q2 (hb.symm.subset (mem_append_left _ hm));have iJ:b∉ap R:=fun hm=>q2 (hb.symm.subset (mem_append_right _ hm));obtain⟨q3,q4⟩:=h5.block b (Nat.lt_of_lt_of_le Z h.fr.size) gb;refine⟨q3.trans q1,fun hm=>?_⟩;have:ap (S'++R)=ap S'++ap R:=(by simp[ap])
 rw[this] at hm;rcases mem_append.1 hm with hm|hm
 ·exact q4 hm
 exact iJ hm

theorem gw.yield {t:Nat} {fo:Operand} {cW:Array Operand} {ts:Array TypeId} {Y:xu α} {pre:List α} {y:α} {Sc R:List ag} (hi:ops[i]?=some o) (hw:bZ ops x o true) (ho:o.op = .call {callee:=.value fo,args:=cW,argTypes:=ts}) (hd:o.dst=some t)
  (hf:aF x fo = .jT Y.l Y.os) (hn:0<x.n) (hz:look 0 x.env = .jT Y.l Y.os) (ha:cW.toList.map (aF x)=Y.enc y) (hp:x.S.Perm (Sc++R)) (hJ:Y.J pre Sc) (hN:pre.length<Y.N) (hY:LW P C.X C.w0 C.S0 Y) (hl:C.w0.heap.size≤Y.l) (h0t:t≠0)
  (kT:∀E,Y.J (pre++[y]) E→AI P C ops fuel (ld.setIfInBounds i true) ⟨x.n,(t,.v (.bool true))::x.env,E++R⟩ Q)
  (kF:∀E,Y.Jx (pre++[y]) E→AI P C ops fuel (ld.setIfInBounds i true) ⟨x.n,[(t,.v (.bool false)),(0,.jT Y.l Y.od)],E⟩ Q):gw P C ops fuel ld x Q i:=fun a w h=>by
 have hb:(ap x.S).Perm (ap Sc++ap R):=(by have:=hp.map ag.b;simpa[ap] using this)
 have hL:=xT (X:=C.X) hp;have hnd:(ap Sc++ap R).Nodup:=hb.nodup_iff.1 h.own.apart;obtain⟨n1,n2,n3⟩:=nodup_append.1 hnd;have agP:∀b,b∈ap R→b<w.heap.size:=fun b xo=>by
  obtain⟨B,hB,rfl⟩:=mem_map.1 xo;exact(h.own.at_ B (hp.symm.subset (mem_append_right _ hB))).1
 have yv:∀(o':Operand) os,aF x o' = .jT Y.l os→a.eval o' = .func (.yield Y.l) #[] #[]∧qy w (live C.X x.S) os:=fun o' os he=>by
  have Z:=h.eval o';rw[he] at Z;generalize a.eval o'=u at Z;cases Z with
  | jT _ _ hz=>exact⟨rfl,hz⟩
 obtain⟨e1,O⟩:=yv fo _ hf;have U:cG w (live C.X x.S) (Y.enc y) (cW.toList.map a.eval):=ha ▸ cG.Ke h cW.toList;have e0:a.tmps.getD 0 undef = .func (.yield Y.l) #[] #[]:=by
  have Z:=h.env 0 hn;rw[hz] at Z;generalize a.tmps.getD 0 undef=u at Z;cases Z with
  | jT _ _ _=>rfl
 rw[hL] at O U;obtain⟨fn,tmps,assign,body,hy,hro⟩:=hY pre y Sc (fun b=>C.X b∨b∈ap R) w _ hJ hN (fun b hx=>by
   rcases hx with hx|hx
   ·obtain⟨q1,q2⟩:=h.ex b hx;exact⟨Nat.lt_of_lt_of_le q1 h.fr.size,fun hm=>(h.fr.block b q1 q2).2 (hb.symm.subset (mem_append_left _ hm))⟩
   ·exact⟨agP b hx,fun hm=>n3 b hm b hx rfl⟩) (fun b hx=>.inl hx) (fun b hx=>by
   rcases hx with hx|hx
   ·exact .inl hx
   rcases Nat.lt_or_ge b C.w0.heap.size with aa|LJ
   ·by_cases oG:b∈C.S0
    ·exact .inr (.inr oG)
    exact absurd (hb.symm.subset (mem_append_right _ hx)) (h.fr.block b aa oG).2
   exact .inr (.inl LJ))
  ⟨fun B hB=>by rw[←hL];exact h.own.at_ B (hp.symm.subset (mem_append_left _ hB)),n1⟩ U
  ⟨h.fr.os,h.fr.tape,h.fr.output,h.fr.size,fun b jy V3=>⟨(h.fr.block b jy V3).1,fun hm=>(h.fr.block b jy V3).2 (hb.symm.subset (mem_append_left _ hm))⟩⟩ O
 have ou:(execOp a.eval o).run P w = .ok (.round Y.l fn tmps assign body) w:=by
  unfold execOp;have e:cW.map a.eval=(cW.toList.map a.eval).toArray:=by
   rw[←Array.toList_map,Array.toArray_toList]
  simp only[ho,resolve,e1,Deferred.ofValue,Sem.run_bind,Sem.run_pure,Result.andThen_ok,invoke,e,Array.empty_append];exact hy
 unfold wpOpIn;simp only[hi,hw C a w h,if_true];refine⟨fun _ _=>trivial,?_⟩;show o.uponIn Fence.wide 0 P a _ _ ((o.semAt none a.eval).run P w);rw[Oper.semAt_none,ou,Oper.uponIn_round];refine⟨fun hc=>(by cases hc),hro.mono fun e w' ⟨b,E,he,h3,h5,hT,hF⟩=>?_⟩;subst he;show wpAnyIn Fence.wide 0 P .any ops (LQ C Q) fuel (ld.setIfInBounds i true) (a.put o.dst (.bool b)) w';rw[hd];have mC:∀q,q<C.w0.heap.size→q≠Y.l:=fun q hq e=>by omega
 cases b with
 | true =>
  obtain⟨j1,j2⟩:=hT rfl;have agR:Fr w (ap Sc) w' (ap E):=⟨h5.os,h5.tape,h5.output,h5.size,fun q hq LX=>by
   obtain⟨p1,p2⟩:=h5.block q hq LX;refine⟨?_,p2⟩;by_cases e:q=Y.l
   ·rw[e];exact j2
   exact p1 e⟩
  exact kT E j1 _ _ ((h.back hp h3 agR).put (.v _))
 | false =>
  obtain⟨j1,j2⟩:=hF rfl;have I:∀q,live C.X E q→live (fun b=>C.X b∨b∈ap R) E q:=fun q hq=>hq.imp .inl id;have afj:Own w' (live C.X E) E:=⟨fun B hB=>by
   obtain⟨r0,cur,r1,r2,r3,r4⟩:=h3.at_ B hB;exact⟨r0,cur,r1,r2,r3,fun q hq=>by
    obtain⟨u,hu,hh⟩:=r4 q hq;exact⟨u,hu,hh.mono fun b _ hn=>⟨rfl,fun hl=>hn (I b hl)⟩⟩⟩,h3.apart⟩
  refine kF E j1 _ _ ⟨h.defers,by simp[Act.put,h.size],fun q hq=>?_,afj,⟨h5.os.trans h.fr.os,h5.tape.trans h.fr.tape,h5.output.trans h.fr.output,Nat.le_trans h.fr.size h5.size,fun q hq LX=>?_⟩,h.ex,h.eJ⟩
  ·have gP:=h.size;simp only[fK,Act.put];by_cases e:t=q
   ·subst e;rw[if_pos rfl];have:(a.tmps.setIfInBounds t (.bool false)).getD t undef = .bool false:=by
     have hq:t<x.n:=hq;simp[Array.getElem?_setIfInBounds,gP,hq]
    rw[this];exact .v _
   rw[if_neg e];by_cases e2:0=q
   ·subst e2;rw[if_pos rfl];have:(a.tmps.setIfInBounds t (.bool false)).getD 0 undef=a.tmps.getD 0 undef:=by
     simp[Array.getElem?_setIfInBounds,h0t]
    rw[this,e0];exact .jT _ _ fun z xw=>by obtain⟨z1,z2,z3⟩:=j2 z xw;exact⟨z1,fun hl=>z2 (I _ hl),z3⟩
   rw[if_neg e2];exact .bU _
  obtain⟨q1,q2⟩:=h.fr.block q hq LX;have gb:q∉ap Sc:=fun hm=>q2 (hb.symm.subset (mem_append_left _ hm));obtain⟨p1,p2⟩:=h5.block q (Nat.lt_of_lt_of_le hq h.fr.size) gb;exact⟨(p1 (mC q hq)).trans q1,p2⟩

end Go.Proofs.YtbcmjoaggammcaaGreatDoor.V

namespace Go.Proofs.YtbcmjoaggammcaaGreatDoor.V
open List
open Go.RowKit
variable {P:Program} {C:dF} {G:List (Nat×List Value)} {Q:Exit→St→Prop} {x:St} {ops:Array Oper} {l:List Oper} {o:Oper}
theorem cG.flatten{w:World}{L:Nat→Prop}{us vs:List Value}(h:cG w L (us.map .v) vs):vs=us:=by
 refine ext_getElem (by simpa using h.1) fun i h1 h2=>?_;have:=h.2 i (by simpa using h2) h1;simp only[getElem_map] at this;exact this.kw
theorem VP.QW{f:FuncId}{vs:List Value}{v:Value}(h:∀w:World,(∀g∈G,∀(i:Nat) (u:Value),g.2[i]?=some u→nI w g.1 i u)→Calls P f vs.toArray w fun e w'=>e = .returned v∧Below w.heap.size w w'):VP P G f (vs.map .v) (.v v):=fun X w us hp=>by
 have E:us=vs:=hp.args.flatten;subst E;refine(h w fun g hg i u hi=>(hp.eJ g hg).2 i u hi).mono fun e w' ⟨h1,h2⟩=>?_;refine⟨v,.v v,[],h1,⟨rfl,rfl⟩,⟨fun B I=>by simp at I,by simp[ap]⟩,.v _,⟨h2.os,h2.tape,h2.output,h2.size,fun b hb _=>⟨h2.block b hb,by simp[ap]⟩⟩⟩
theorem ab9{t:TypeId}{k:IntKind}{a b r:Int}(h:k.wrap ((BitVec.ofInt k.bits a ^^^ BitVec.ofInt k.bits b).toNat:Int)=r):kp P .xor t (.int k a) (.int k b) (.int k r):=fun y z w=>by subst h;simp only[eqGuard,binOp,Op.intBits,Sem.run_bind];simp
theorem yl{t:TypeId}{k k':IntKind}{a b r:Int}(hb:0≤b)(h:a.fdiv (2 ^ min b.toNat k.bits)=r):kp P .shr t (.int k a) (.int k' b) (.int k r):=fun y z w=>by
 have:¬b<0:=(by omega)
 simp[eqGuard,binOp,Op.shift,this,h]
theorem acd(a:Nat)(h:a<2 ^ 64):a ^^^ 2 ^ 63=if a<2 ^ 63 then a+2 ^ 63 else a-2 ^ 63:=by
 have key:∀b,b<2 ^ 63→b ^^^ 2 ^ 63=2 ^ 63+b:=fun b hb=>by
  refine Nat.eq_of_testBit_eq fun i=>?_;rw[Nat.testBit_xor,Nat.testBit_two_pow];rcases Nat.lt_trichotomy i 63 with hi|hi|hi
  ·rw[Nat.testBit_two_pow_add_gt hi];have:¬63=i:=(by omega)
   simp[this]
  ·subst hi;rw[Nat.testBit_two_pow_add_eq];simp
  have h1:b.testBit i=false:=Nat.testBit_lt_two_pow (Nat.lt_of_lt_of_le hb (Nat.pow_le_pow_right w7 w4));have h2:(2 ^ 63+b).testBit i=false:=Nat.testBit_lt_two_pow (Nat.lt_of_lt_of_le (by omega:2 ^ 63+b<2 ^ 64) (Nat.pow_le_pow_right w7 w4));have:¬63=i:=(by omega)
  rw[h1,h2];simp[this]
 split
 ·rename_i h1;rw[key a h1];omega
 rename_i h1;have h2:=key (a-2 ^ 63) w4;have h3:a=2 ^ 63+(a-2 ^ 63):=(by omega)
 rw[←h2] at h3;generalize a-2 ^ 63=b at h3 ⊢;rw[h3,Nat.xor_assoc,Nat.xor_self,Nat.xor_zero]
theorem Pp(n:Int):IntKind.u64.wrap n=n % 18446744073709551616:=rfl
theorem ace{n:Int}(h1:-9223372036854775808≤n)(h2:n≤9223372036854775807):IntKind.u64.wrap ((BitVec.ofInt IntKind.u64.bits (IntKind.u64.wrap n) ^^^ BitVec.ofInt IntKind.u64.bits 9223372036854775808).toNat:Int)=n+9223372036854775808:=by
 rw[Pp,Pp,BitVec.toNat_xor];have e1:(BitVec.ofInt IntKind.u64.bits (n % 18446744073709551616)).toNat=(n % 18446744073709551616).toNat:=by
  rw[BitVec.toNat_ofInt];show((n % 18446744073709551616) % ((18446744073709551616:Nat):Int)).toNat=_;omega
 have e2:(BitVec.ofInt IntKind.u64.bits 9223372036854775808).toNat=2 ^ 63:=(by decide)
 rw[e1,e2,acd _ w4];split<;>omega
/-! ### make -/

end Go.Proofs.YtbcmjoaggammcaaGreatDoor.V
namespace Go.Proofs.YtbcmjoaggammcaaGreatDoor.V
open List
open Go.RowKit
variable {P:Program} {C:dF} {G:List (Nat×List Value)} {Q:Exit→St→Prop} {x y:St} {ops:Array Oper} {o:Oper} {ro:Nat} {α:Type}
variable {c:Code} {S:List ag} {post:D→List ag→Prop}
def CI(P:Program)(C:dF)(ro:Nat)(c:Code)(x:St)(Q:Exit→St→Prop):Prop:=∀a w,bF C x a w→c.wpIn (Fence.wide.inRound ro) 0 P (LQ C Q) a w
def afk(P:Program)(C:dF)(ro:Nat)(c:Code)(Q:Exit→St→Prop):Exit→St→Prop
 | .normal,y=>CI P C ro c y Q
 | e,y=>Q e y
def NO(Q:Exit→St→Prop):Prop:=∀y,¬Q .outgrown y
theorem CI.skip(h:Q .normal x):CI P C ro .skip x Q:=fun a w hs=>wpIn_skip (.inl ⟨x,hs,h⟩)
theorem CI.exit{id:Nat}(h:Q (.exit id) x):CI P C ro (.exit id) x Q:=fun a w hs=>wpIn_exit (.inl ⟨x,hs,h⟩)
theorem CI.seq{c d:Code}(h:CI P C ro c x (afk P C ro d Q)):CI P C ro (.seq c d) x Q:=fun a w hs =>
 wpIn_seq (wpIn_mono (h a w hs) fun e a' w' h=>by
  rcases h with ⟨y,h1,h2⟩|⟨rfl,h⟩
  ·cases e<;>first|exact h2 a' w' h1|exact .inl ⟨y,h1,h2⟩
  exact .inr ⟨rfl,h⟩)
theorem CI.cond{c:Operand}{d e:Code}{b:Bool}(hc:aF x c = .v (.bool b))(ht:b=true→CI P C ro d x Q)(hf:b=false→CI P C ro e x Q):CI P C ro (.cond c d e) x Q:=fun a w hs =>
 wpIn_cond_split (hs.flat hc) (fun h=>ht h a w hs) (fun h=>hf h a w hs)
theorem CI.JD{c:Operand}{d e:Code}{b:Bool}(hc:aF x c = .v (.bool b))(hb:b=false)(hf:CI P C ro e x Q):CI P C ro (.cond c d e) x Q:=fun a w hs =>
 wpIn_cond_false (by rw[hs.flat hc,hb]) (hf a w hs)
theorem CI.block{id:Nat}{c:Code}(h:CI P C ro c x (AB id Q)):CI P C ro (.block id c) x Q:=fun a w hs =>
 wpIn_block (wpIn_mono (h a w hs) fun e a' w' h=>by
  rcases h with ⟨y,h1,h2⟩|⟨rfl,h⟩
  case inr=>exact .inr ⟨rfl,h⟩
  cases e with
  | exit sB =>
   simp only[AB] at h2;simp only[Exit.inBlock];by_cases he:sB=id
   ·subst he;rw[if_pos rfl];simp at h2;exact .inl ⟨y,h1,h2⟩
   rw[if_neg he];have:Nat.beq sB id=false:=by
    cases h:Nat.beq sB id with
    | false=>rfl
    | true=>exact absurd (Nat.eq_of_beq_eq_true h) he
   rw[this] at h2;exact .inl ⟨y,h1,h2⟩
  | _=>exact .inl ⟨y,h1,h2⟩)
def Kh(l:List Oper):Bool:=l.all fun o=>match o.op with|.defer _=>false|_=>true
theorem Is{Q:Exit→Act→World→Prop}(kH:¬LetsOut Q):∀(l:List Oper),Kh l=true→∀a w,wpList P ops Q l a w→wpListIn (Fence.wide.inRound ro) 0 P ops Q l a w
 | [],_,a,w,h=>h
 | o::l,hd,a,w,h=>by
  unfold Kh at hd;rw[all_cons,Bool.and_eq_true] at hd;obtain⟨hd1,hd2⟩:=hd;unfold wpList at h;unfold wpListIn;split at h
  ·rename_i hw;rw[if_pos hw];rcases h with h|⟨_,h⟩
   ·exact Oper.wpIn_mono (fun a w h=>Is kH l hd2 a w h) (QV (some ro) (fun c hc=>by rw[hc] at hd1;cases hd1) h)
   exact absurd h kH
  rename_i hw;rw[if_neg hw];exact⟨fun _ _=>trivial,Is kH l hd2 _ _ h⟩
theorem CI.region{id:Nat}{l:List Oper}(kH:NO Q)(hd:Kh l=true)(h:OD P C l.toArray l x Q):CI P C ro (.region id l.toArray false) x Q:=fun a w hs =>
 wpIn_region_lit (Is (fun ⟨a,w,hq⟩=>by
  rcases hq with ⟨y,_,hq⟩|⟨hq,_⟩
  ·exact kH y hq
  cases hq) l hd a w (h a w hs))
/-! ### The loop -/
def Ki:List Tmp→List D→List (Nat×D)→List (Nat×D)
 | t::ts,d::ds,env=>Ki ts ds ((t,d)::env)
 | _,_,env=>env
theorem bF.params{n:Nat}{S:List ag}:∀{ts:List Tmp} {ds:List D} {vs:List Value} {env:List (Nat×D)} {tm:Array Value} {w:World},bF C ⟨n,env,S⟩ {tmps:=tm,defers:=[]} w→cG w (live C.X S) ds vs→ds.length=ts.length→bF C ⟨n,Ki ts ds env,S⟩ {tmps:=(ts.zip vs).foldl (fun tm (t,v)=>tm.setIfInBounds t v) tm,defers:=[]} w
 | [],ds,vs,env,tm,w,h,_,hl=>by
  have:ds=[]:=length_eq_zero_iff.1 hl;subst this;exact h
 | t::ts,[],_,_,_,_,_,_,hl=>by cases hl
 | t::ts,d::ds,[],_,_,_,_,hr,_=>by simp[cG] at hr
 | t::ts,d::ds,v::vs,env,tm,w,h,hr,hl=>by
  obtain⟨h0,h1⟩:=hr.tail;exact bF.params (env:=(t,d)::env) (tm:=tm.setIfInBounds t v) (h.put h0) h1 (by simpa using hl)
def adW(J Jx:List α→List ag→Prop)(jc:Code)(xs:List α):Exit→St→Prop
 | .normal,z=>∃S',S'.Sublist z.S∧J xs S'
 | .ret,z=>jc = .ret∧∃S',S'.Sublist z.S∧Jx xs S'
 | .exit i,z=>jc = .exit i∧∃S',S'.Sublist z.S∧Jx xs S'
 | _,_=>False
def yJ(P:Program)(fn:Func)(post:D→List ag→Prop)(y:St):Prop :=
 (y.env.all fun p=>iq p.2)=true∧(∀B∈y.S,fA B.cs=true)∧∃r S',S'.Sublist y.S∧sD P fn y r∧iq r=true∧post r S'
def afl(P:Program)(fn:Func)(post:D→List ag→Prop)(e:Exit)(y:St):Prop:=e = .ret∧yJ P fn post y
def mark(D:Nat):Deferred:={target:=.collected D,args:=#[]}
def wc(P:Program)(fn:Func)(post:D→List ag→Prop)(X:Nat→Prop)(w0:World)(S0:List Nat):Act→World→Prop:=fun a w =>
 ∃(Dd:Nat) (C':dF) (y:St),C'.X=X∧a.defers=[mark Dd]∧Fr w0 S0 C'.w0 C'.S0∧w0.heap.size≤Dd∧Dd<C'.w0.heap.size∧Dd∉C'.S0∧C'.w0.heap[Dd]?=some (.deferred (some []))∧bF C' y a w∧yJ P fn post y
theorem bF.SB {a:Act} {w:World} (h:bF C y a w) {l:Nat} {o1 o2:Obj} (hl:w.heap[l]?=some o1) (ho:o1.isCells=false) (O:l∉ap y.S) (hlX:¬C.X l) (hn:(y.env.all fun p=>iq p.2)=true) (hS:∀B∈y.S,fA B.cs=true)
  (I:mj G (w.putObj l o2) (ap y.S) C.X) (Ca:Act→World→Prop):bF ⟨C.X,w.putObj l o2,ap y.S,G,a.defers,Ca⟩ y a (w.putObj l o2):=by
 have aa:l<w.heap.size:=(Array.getElem?_eq_some_iff.1 hl).1;have E:(w.putObj l o2).heap.size=w.heap.size:=World.putObj_size;have H:∀b,b≠l→(w.putObj l o2).heap[b]?=w.heap[b]?:=fun b hb=>World.putObj_heap_other hb;refine⟨rfl,h.size,fun t ht=>(h.env t ht).yI (Z:=fun b=>b=l) (aaE hn t) (fun b _ hb hz=>⟨H b hz,hb⟩) (fun b i hz=>by subst hz;exact D5 hl ho i) (by rw[E];exact Nat.le_refl _) (fun b _ hb _=>hb),
  h.own.yI (Z:=fun b=>b=l) (fun B U=>.inr (mem_map.2 ⟨B,U,rfl⟩)) hS (fun b _ hz=>H b hz) (fun b i hz=>by subst hz;exact D5 hl ho i) (by rw[E];exact Nat.le_refl _) (fun B U e=>O (e ▸ mem_map.2 ⟨B,U,rfl⟩)),
  Fr.refl _ _,fun b hb=>?_,I⟩
 show b<(w.putObj l o2).heap.size∧b∉ap y.S;rw[E];exact⟨Nat.lt_of_lt_of_le (h.ex b hb).1 h.fr.size,(h.fr.block b (h.ex b hb).1 (h.ex b hb).2).2⟩
theorem VC.yK {f:FuncId} {fn:Func} {n:Nat} {args:List D} (hf:P.funcs[f]?=some fn) (hb:fn.body=some c) (hn:fn.ntmps=n) (hl:args.length≤n)
  (h:∀X w0 S0,CD P ⟨X,w0,S0,G,[],wc P fn post X w0 S0⟩ c ⟨n,rL 0 args,S⟩ (Body P fn post)):VC P G f args S post:=fun X w vs hp=>by
 have qX:vs.length=args.length:=hp.args.1;let C:dF:=⟨X,w,ap S,G,[],wc P fn post X w (ap S)⟩
 have U:bF C ⟨n,rL 0 args,S⟩ {tmps:=vs.toArray++Array.replicate (fn.ntmps-vs.toArray.size) undef,defers:=[]} w:=by
  refine⟨rfl,by simp[hn];omega,fun t ht=>?_,hp.own,Fr.refl _ _,hp.ex,hp.eJ⟩;simp only[DB,Nat.zero_le,if_true,Nat.sub_zero];by_cases aa:t<args.length
  ·have e1:args.getD t .bU=args[t]:=(by simp[getD,aa])
   have e2:(vs.toArray++Array.replicate (fn.ntmps-vs.toArray.size) undef).getD t undef=vs[t]'w4:=by
    rw[Array.getD_eq_getD_getElem?,Array.getElem?_append_left gN];simp[show t<vs.length by omega]
   rw[e1,e2];exact hp.args.2 t aa w4
  have e1:args.getD t .bU = .bU:=(by simp[getD,getElem?_eq_none (show args.length≤t by omega)])
  rw[e1];exact .bU _
 refine callsIn_wide.1 (callsIn_of_wp_marks (F:=Fence.wide) (n:=0) hf hb trivial (wpIn_wide.2 (wp_mono (h X w (ap S) _ _ U) fun e a w' hq=>?_)) rfl);rcases hq with ⟨y,h1,h2,r,S',h3,h4,h5⟩|⟨rfl,O,C',y,hX,xx,Z,hD0,hD1,hD2,hD3,h1,LY,zR,r,S',h3,h4,hnr,h5⟩
 ·obtain⟨v,q1,q2⟩:=h4 C a w' h1;have E:(ap S').Sublist (ap y.S):=Sublist.map _ h3;have key:LeavesInM Fence.wide 0 P fn a.tmps (fun e w'=>∃v r S',e = .returned v∧post r S'∧Own w' (live X S') S'∧cl w' (live X S') r v∧Fr w (ap S) w' (ap S')) a.defers .returning w':=by
   rw[show a.defers=[] from h1.defers];exact⟨v,q2,v,r,S',rfl,h5,h1.own.sub h3,q1.mono fun b _ hn=>⟨rfl,fun hl=>hn (hl.imp id fun q=>E.subset q)⟩,
    ⟨h1.fr.os,h1.fr.tape,h1.fr.output,h1.fr.size,fun b I hn=>⟨(h1.fr.block b I hn).1,fun q=>(h1.fr.block b I hn).2 (E.subset q)⟩⟩⟩
  rcases h2 with rfl|rfl<;>exact key
 show LeavesInM Fence.wide 0 P fn a.tmps _ a.defers .returning w';rw[xx];obtain⟨f1,f2⟩:=h1.fr.block O hD1 hD2;have hD:w'.heap[O]?=some (.deferred (some [])):=f1.trans hD3;have hXD:¬C'.X O:=fun hx=>by rw[hX] at hx;have:=(hp.ex O hx).1;omega
 have tV:=h1.SB (G:=[]) (o2:=.deferred none) hD rfl f2 hXD LY zR (fun g hg=>by cases hg) (fun _ _=>False);obtain⟨v,q1,q2⟩:=h4 _ a _ tV;have E:(ap S').Sublist (ap y.S):=Sublist.map _ h3;refine⟨by simp,.inl ⟨O,_,rfl,run_takeDeferred hD,v,q2,v,r,S',rfl,h5,?_,?_,?_⟩⟩
 ·have:=tV.own.sub h3;rw[show(⟨C'.X,w'.putObj O (.deferred none),ap y.S,[],a.defers,fun _ _=>False⟩:dF).X=X from hX] at this;exact this
 ·rw[←hX];exact q1.mono fun b _ hn=>⟨rfl,fun hl=>hn (hl.imp id fun q=>E.subset q)⟩
 have k:=Z.trans h1.fr;exact⟨k.os,k.tape,k.output,by rw[World.putObj_size];exact k.size,fun b I hn=>by
  obtain⟨k1,k2⟩:=k.block b I hn;exact⟨(World.putObj_heap_other w4).trans k1,fun q=>k2 (E.subset q)⟩⟩
theorem Pq(w:World)(o:Obj)(S:List Nat)(hS:∀b∈S,b<w.heap.size):Fr w S (w.alloc o) S:=⟨rfl,rfl,rfl,by rw[World.size_alloc];omega,fun b hb hn=>⟨Below.heap_alloc w o b hb,hn⟩⟩
theorem mj.on{w w':World}{S S':List Nat}{X E:Nat→Prop}(h:mj G w S X)(hf:∀b,b<w.heap.size→b∉S→¬X b→w'.heap[b]?=w.heap[b]?∧b∉S'∧¬E b):mj G w' S' E:=fun g hg=>by
 obtain⟨⟨h1,h2,h3⟩,h4⟩:=h g hg;obtain⟨f1,f2,f3⟩:=hf g.1 h1 h2 h3;exact⟨⟨qo h1 f1,f2,f3⟩,fun i v hi=>(h4 i v hi).on f1⟩
def vm(P:Program)(C:dF)(b rest:Code)(x:St)(Q:Exit→St→Prop):Prop:=∀a w,bF C x a w→b.wp P (Exit.then (rest.wp P (LQ C Q)) (LQ C Q)) a w
def afm(P:Program)(C:dF)(b rest:Code)(Q:Exit→St→Prop):Exit→St→Prop
 | .normal,y=>vm P C b rest y Q
 | e,y=>Q e y
theorem CD.agS{b d:Code}(h:CD P C d x (afm P C b c Q)):CD P C (.seq (.seq d b) c) x Q:=fun a w hs =>
 wp_seq (wp_seq (wp_mono (h a w hs) fun e a' w' h=>by
  rcases h with ⟨y,h1,h2⟩|⟨rfl,h⟩
  ·cases e<;>first|exact h2 a' w' h1|exact .inl ⟨y,h1,h2⟩
  exact .inr ⟨rfl,h⟩))
theorem vm.wk{b:Code}(h:Wk x y)(k:vm P C b c y Q):vm P C b c x Q:=fun a w hs=>k a w (h C a w hs)
theorem vm.range {X:Nat→Prop} {w0:World} {S0:List Nat} {fn:Func} {g:Operand} {ps:Array Tmp} {assign body:Code} {gf:FuncId} {By:List D} {enc:α→List D} {Sa Sp:List α→Prop} {N id:Nat} {rest:Code}
  (hg:aF x g = .ek (.func gf) By) (eg:∀args w,(callFunc gf args).run P w = .ok (.enter gf args) w) (hvi:VI P G gf By enc Sa Sp N) (gI:∀y,(enc y).length=ps.toList.length) (hne:∀y,fA (enc y)=true)
  (jc:Code) (xy:jc = .ret∨jc = .exit id) (J Jx:List α→List ag→Prop) (V4:∀pre Sc,J pre Sc→∀B∈Sc,fA B.cs=true) (Kj:∀pre Sc,Jx pre Sc→∀B∈Sc,fA B.cs=true) (h0:J [] x.S)
  (AQ:List α→α→List ag→St→Prop) (hAQ:∀pre y Sc z,AQ pre y Sc z→(z.env.all fun p=>iq p.2)=true∧∀B∈z.S,fA B.cs=true)
  (acf:∀X' W' S' l pre y Sc,J pre Sc→pre.length<N→CI P ⟨X',W',S',G,[],fun _ _=>False⟩ l assign ⟨x.n,Ki ps.toList (enc y) x.env,Sc⟩ (fun e z=>e = .normal∧AQ pre y Sc z))
  (afn:∀X' W' S' l pre y Sc z,J pre Sc→pre.length<N→AQ pre y Sc z→CI P ⟨X',W',S',G,[],fun _ _=>False⟩ l body z (adW J Jx jc (pre++[y])))
  (afo:∀W' S' D Sc,((∃xs,Sa xs∧J xs Sc)∨(jc = .exit id∧∃pre,Sp pre∧Jx pre Sc))→CD P ⟨X,W',S',G,[mark D],fun _ _=>False⟩ rest ⟨x.n,x.env,Sc⟩ (afl P fn post))
  (mr:jc = .ret→∀pre Sc,Sp pre→Jx pre Sc→yJ P fn post ⟨x.n,x.env,Sc⟩):vm P ⟨X,w0,S0,G,[],wc P fn post X w0 S0⟩ (.block id (.rangeFunc g ps assign body)) rest x Q:=fun a w hs=>by
 have hex:∀b,X b→b<w.heap.size∧b∉ap x.S:=fun b hb=>⟨Nat.lt_of_lt_of_le (hs.ex b hb).1 hs.fr.size,(hs.fr.block b (hs.ex b hb).1 (hs.ex b hb).2).2⟩
 have Fu:mj G w (ap x.S) X:=mj.on (w:=w0) (S:=S0) (X:=X) hs.eJ fun b h1 h2 h3=>⟨(hs.fr.block b h1 h2).1,(hs.fr.block b h1 h2).2,h3⟩
 have Kk:∀b∈ap x.S,b<w.heap.size:=fun b hb=>by
  obtain⟨B,hB,rfl⟩:=mem_map.1 hb;exact(hs.own.at_ B hB).1
 -- the alz value
 obtain⟨lb,hgv,hlb⟩:∃lb:List Value,a.eval g = .func (.func gf) #[] lb.toArray∧cG w (live X x.S) By lb:=by
  have hv:=hs.eval g;rw[hg] at hv;generalize a.eval g=u at hv;cases hv with
  | ek _ _ vs hl hr=>exact⟨vs,rfl,hl,hr⟩
 refine(wp_block (wpIn_wide.1 (wpIn_rangeFunc (F:=Fence.wide) (n:=0) fun V5 _=>?_)));obtain⟨rec,wE⟩:∃rec:LoopState→Option Code→Loop,rec=fun st pe=>{state:=st,pending:=pe,fn:=V5,tmps:=a.tmps,params:=ps,assign,body,defers:=w.heap.size}:=⟨_,rfl⟩
 obtain⟨W1,Cl⟩:∃W1,(w.alloc (.deferred (some []))).alloc (.loop (rec .ready none))=W1:=⟨_,rfl⟩
 have V6:W1.heap[w.heap.size+1]?=some (.loop (rec .ready none)):=by
  rw[←Cl];have:=World.alloc_heap_new (w.alloc (.deferred (some []))) (.loop (rec .ready none));rwa [World.size_alloc] at this
 have V7:W1.heap[w.heap.size]?=some (.deferred (some [])):=by
  rw[←Cl];exact(Below.heap_alloc _ _ _ bu).trans (World.alloc_heap_new w _)
 have V8:Fr w (ap x.S) W1 (ap x.S):=by
  rw[←Cl];exact(Pq w _ _ Kk).trans (Pq _ _ _ fun b hb=>by rw[World.size_alloc];have:=Kk b hb;omega)
 have LZ:∀b,b<w.heap.size→W1.heap[b]?=w.heap[b]?:=fun b hb=>by
  rw[←Cl,Below.heap_alloc _ _ _ (by rw[World.size_alloc];omega),Below.heap_alloc _ _ _ hb]
 have afp:Own W1 (live X x.S) x.S:=⟨fun B hB=>by
  obtain⟨r0,cur,r1,r2,r3,r4⟩:=hs.own.at_ B hB;exact⟨Nat.lt_of_lt_of_le r0 V8.size,cur,(LZ _ r0).trans r1,r2,r3,fun i hi=>by
   obtain⟨u,hu,hq⟩:=r4 i hi;exact⟨u,hu,hq.mono fun b hb hn=>⟨LZ b hb,hn⟩⟩⟩,hs.own.apart⟩
 have V9:∀b,w.heap.size≤b→¬live X x.S b:=fun b hb hl=>by
  rcases hl with hl|hl
  ·have:=(hex b hl).1;omega
  have:=Kk b hl;omega
 let Y:xu α:=⟨w.heap.size+1,[(w.heap.size+1,.loop (rec .ready none)),(w.heap.size,.deferred (some []))],[(w.heap.size+1,.loop (rec .done (some jc))),(w.heap.size,.deferred (some []))],enc,J,Jx,N⟩
 have afq:qy W1 (live X x.S) Y.os:=fun z hz=>by
  rcases mem_cons.1 hz with rfl|hz
  ·exact⟨(Array.getElem?_eq_some_iff.1 V6).1,V9 _ bu,V6⟩
  rw[mem_singleton] at hz;subst hz;exact⟨(Array.getElem?_eq_some_iff.1 V7).1,V9 _ (Nat.le_refl _),V7⟩
 -- the alB j5,later
 have Um:∀(W:World) (Xr:Nat→Prop) (Sc:List ag),Fr w (ap x.S) W (ap Sc)→(∀b,Xr b→X b∨w.heap.size≤b∨b∈ap x.S)→∀t,t<x.n→cl W (live Xr Sc) (look t x.env) (a.tmps.getD t undef):=fun W Xr Sc hf hx t ht =>
  (hs.env t ht).mono fun b hb hn=>by
   have zR:b∉ap x.S:=fun h=>hn (.inr h);obtain⟨k1,k2⟩:=hf.block b hb zR;refine⟨k1,fun hl=>?_⟩;rcases hl with hl|hl
   ·rcases hx b hl with h|h|h
    ·exact hn (.inl h)
    ·omega
    exact zR h
   exact k2 hl
 -- what follows
 have after:∀(E:World) (Sc:List ag),Fr w (ap x.S) E (ap Sc)→Own E (live X Sc) Sc→E.heap[w.heap.size]?=some (.deferred (some []))→w.heap.size∉ap Sc →
   bF ⟨X,E,ap Sc,G,[mark w.heap.size],fun _ _=>False⟩ ⟨x.n,x.env,Sc⟩ {a with defers:=[mark w.heap.size]++a.defers} E∧∀a' w' y,bF ⟨X,E,ap Sc,G,[mark w.heap.size],fun _ _=>False⟩ y a' w'→yJ P fn post y→wc P fn post X w0 S0 a' w':=fun E Sc hf ho hk hkS=>by
  refine⟨⟨by show[mark w.heap.size]++a.defers=_;rw[show a.defers=[] from hs.defers];rfl,hs.size,fun t ht=>Um E X Sc hf (fun b hb=>.inl hb) t ht,ho,Fr.refl _ _,fun b hb=>⟨Nat.lt_of_lt_of_le (hex b hb).1 hf.size,(hf.block b (hex b hb).1 (hex b hb).2).2⟩,mj.on Fu fun b h1 h2 h3=>⟨(hf.block b h1 h2).1,(hf.block b h1 h2).2,h3⟩⟩,fun a' w' y h1 h2=>?_⟩;exact⟨w.heap.size,_,y,rfl,h1.defers,hs.fr.trans hf,hs.fr.size,(Array.getElem?_eq_some_iff.1 hk).1,hkS,hk,h1,h2⟩
 refine⟨w.heap.size+1,[mark w.heap.size],W1,{target:=.fn (.func gf) lb.toArray,args:=#[.func (.yield (w.heap.size+1)) #[] #[]]},W1,gf,#[.func (.yield (w.heap.size+1)) #[] #[]]++lb.toArray,W1,?_,?_,fun _ _=>trivial,?_,fun hc=>(by cases hc),?_⟩
 ·rw[←Cl,wE];exact run_enterLoop_outer _ _ _ _ _
 ·simp only[resolve,hgv];simp[go_sem]
 ·simp[invoke,go_sem,eg]
 refine callsIn_wide.2 ((hvi Y X w W1 (ap x.S) x.S lb rfl rfl hex Fu (by simp[Y]) afp (hlb.mono fun b hb hn=>⟨LZ b hb,hn⟩) V8 afq h0 ?_).mono ?_)
 ·
  intro pre y Sc Xr W vs hJ hN agT hX1 L0 kf Ft jk I;have hl:W.heap[w.heap.size+1]?=some (.loop (rec .ready none)):=(I _ mem_cons_self).2.2;have hk:W.heap[w.heap.size]?=some (.deferred (some [])):=(I _ (mem_cons_of_mem _ mem_cons_self)).2.2;have Wa:¬live Xr Sc (w.heap.size+1):=(I _ mem_cons_self).2.1;have Wb:¬live Xr Sc w.heap.size:=(I _ (mem_cons_of_mem _ mem_cons_self)).2.1;have dR:w.heap.size<W.heap.size:=(Array.getElem?_eq_some_iff.1 hk).1;have lK:w.heap.size+1<W.heap.size:=(Array.getElem?_eq_some_iff.1 hl).1;have qX:vs.length=ps.toList.length:=(by rw[Ft.1];exact gI y)
  have hy:=run_yield (P:=P) (args:=vs.toArray) hl (by rw[wE];simp at qX ⊢;exact qX);rw[wE] at hy;refine⟨V5,_,assign,body,hy,roundIn_of_wpIn trivial ?_⟩;have afr:mj G W (ap Sc) Xr:=mj.on Fu fun b h1 h2 h3=>⟨(jk.block b h1 h2).1,(jk.block b h1 h2).2,fun hx=>by
   rcases L0 b hx with h|h|h
   ·exact h3 h
   ·omega
   exact h2 h⟩
  have afs:bF ⟨Xr,W,ap Sc,G,[],fun _ _=>False⟩ ⟨x.n,x.env,Sc⟩ {tmps:=a.tmps,defers:=[]} W:=⟨rfl,hs.size,fun t ht=>Um W Xr Sc jk L0 t ht,kf,Fr.refl _ _,agT,afr⟩
  have agU:(ps.zip vs.toArray).foldl (fun t (p,v)=>t.setIfInBounds p v) a.tmps=(ps.toList.zip vs).foldl (fun t (p,v)=>t.setIfInBounds p v) a.tmps:=by
   rw[←Array.foldl_toList];simp
  refine wpIn_mono (acf Xr W (ap Sc) _ pre y Sc hJ hN _ _ (by
   have:=afs.params Ft (gI y);rw[←agU] at this;exact this)) fun e a1 w1 hq=>?_
  rcases hq with ⟨z,lM,rfl,Cm⟩|⟨_,hq⟩
  case inr=>exact hq.elim
  obtain⟨LY,zR⟩:=hAQ _ _ _ _ Cm;obtain⟨f1,f2⟩:=lM.fr.block (w.heap.size+1) lK (fun h=>Wa (.inr h));have jO:w1.heap[w.heap.size+1]?=some (.loop (rec .ready none)):=f1.trans hl;have iB:w1.heap.size=(w1.putObj (w.heap.size+1) (.loop {rec .ready none with state:=.busy})).heap.size:=(by rw[World.putObj_size])
  have Wc:¬Xr (w.heap.size+1):=fun h=>Wa (.inl h);have O:∀(u:World) (ob:Obj) b,b≠w.heap.size+1→(u.putObj (w.heap.size+1) ob).heap[b]?=u.heap[b]?:=fun u ob b hb=>World.putObj_heap_other hb;obtain⟨W2,tW⟩:∃W2,w1.putObj (w.heap.size+1) (.loop {rec .ready none with state:=.busy})=W2:=⟨_,rfl⟩
  have Tp:=lM.SB (G:=G) (o2:=.loop {rec .ready none with state:=.busy}) jO rfl f2 Wc LY zR (mj.on Fu fun b h1 h2 h3=>by
   obtain⟨k1,k2⟩:=jk.block b h1 h2;obtain⟨k3,k4⟩:=lM.fr.block b (Nat.lt_of_lt_of_le h1 jk.size) k2;refine⟨(O _ _ _ w4).trans (k3.trans k1),k4,fun hx=>?_⟩;rcases L0 b hx with h|h|h
   ·exact h3 h
   ·omega
   exact h2 h) (fun _ _=>False)
  rw[lM.defers,tW] at Tp;have iB:W2.heap[w.heap.size+1]?=some (.loop {rec .ready none with state:=.busy}):=(by rw[←tW];exact World.putObj_heap_same (Array.getElem?_eq_some_iff.1 jO).1)
  have nR:∀(a3:Act) (W3:World) (y3:St) (S':List ag) (jump:Option Code),bF ⟨Xr,W2,ap z.S,G,[],fun _ _=>False⟩ y3 a3 W3→S'.Sublist y3.S→(∀B∈S',fA B.cs=true) →
    ∃E,(Instr.endRound (w.heap.size+1) jump).run P W3 = .ok (.bool jump.isNone) E∧E.heap[w.heap.size+1]?=some (.loop (rec (if jump.isNone then .ready else .done) jump))∧E.heap[w.heap.size]?=some (.deferred (some [])) ∧
     Own E (live Xr S') S'∧V1 (w.heap.size+1) W (ap Sc) E (ap S')∧¬live Xr S' (w.heap.size+1)∧¬live Xr S' w.heap.size:=fun a3 W3 y3 S' jump h3 U L1=>by
   have L4:(ap S').Sublist (ap y3.S):=Sublist.map _ U;have Bz:W2.heap.size=w1.heap.size:=(by rw[←tW,World.putObj_size])
   obtain⟨g1,g2⟩:=h3.fr.block (w.heap.size+1) (Array.getElem?_eq_some_iff.1 iB).1 f2;have Gc:W3.heap[w.heap.size+1]?=some (.loop {rec .ready none with state:=.busy}):=g1.trans iB;have agV:=(Array.getElem?_eq_some_iff.1 Gc).1;have ou:=run_endRound (P:=P) jump Gc;obtain⟨k1,k2⟩:=lM.fr.block w.heap.size dR (fun h=>Wb (.inr h));obtain⟨k3,k4⟩:=h3.fr.block w.heap.size (by rw[Bz];exact Nat.lt_of_lt_of_le dR lM.fr.size) k2;have fk:W2.heap[w.heap.size]?=some (.deferred (some [])):=(by rw[←tW];exact(O _ _ _ w4).trans (k1.trans hk))
   have Wd:w.heap.size+1∉ap S':=fun h=>g2 (L4.subset h);refine⟨_,ou,?_,(O _ _ _ w4).trans (k3.trans fk),?_,?_,?_,?_⟩
   ·rw[wE];exact World.putObj_heap_same agV
   ·exact(h3.own.sub U).yI (Z:=fun b=>b=w.heap.size+1) (fun B hB=>.inr (mem_map.2 ⟨B,hB,rfl⟩)) L1 (fun b _ hb=>O _ _ _ hb) (fun b i hz=>by subst hz;exact D5 Gc rfl i) (by rw[World.putObj_size];exact Nat.le_refl _) (fun B hB e=>Wd (e ▸ mem_map.2 ⟨B,hB,rfl⟩))
   ·refine⟨h3.fr.os.trans ?_,h3.fr.tape.trans ?_,h3.fr.output.trans ?_,?_,fun b hb hn=>?_⟩
    ·rw[←tW];exact lM.fr.os
    ·rw[←tW];exact lM.fr.tape
    ·rw[←tW];exact lM.fr.output
    ·rw[World.putObj_size];exact Nat.le_trans lM.fr.size (by rw[←Bz];exact h3.fr.size)
    obtain⟨m1,m2⟩:=lM.fr.block b hb hn;obtain⟨m3,m4⟩:=h3.fr.block b (by rw[Bz];exact Nat.lt_of_lt_of_le hb lM.fr.size) m2;refine⟨fun Un=>(O _ _ _ Un).trans (m3.trans ?_),fun h=>m4 (L4.subset h)⟩;rw[←tW];exact(O _ _ _ Un).trans m1
   ·rintro(h|h)
    ·exact Wc h
    exact Wd h
   rintro(h|h)
   ·exact Wb (.inl h)
   exact k4 (L4.subset h)
  refine⟨W2,by rw[←tW];exact run_beginRound jO (by rw[wE]),wpIn_mono (afn Xr W2 (ap z.S) _ pre y Sc z hJ hN Cm _ _ Tp) fun e a3 W3 hq=>?_⟩;rcases hq with ⟨y3,h3,hq⟩|⟨_,hq⟩
  case inr=>exact hq.elim
  cases e with
  | normal =>
   obtain⟨S',U,hj⟩:=hq;obtain⟨E,r1,r2,r3,r4,r5,r6,r7⟩:=nR a3 W3 y3 S' none h3 U (V4 _ _ hj);exact⟨_,E,r1,true,S',rfl,r4,r5,fun _=>⟨hj,r2.trans hl.symm⟩,(fun h=>by cases h)⟩
  | ret =>
   obtain⟨hc,S',U,hj⟩:=hq;obtain⟨E,r1,r2,r3,r4,r5,r6,r7⟩:=nR a3 W3 y3 S' (some .ret) h3 U (Kj _ _ hj);refine⟨_,E,r1,false,S',rfl,r4,r5,(fun h=>by cases h),fun _=>⟨hj,fun z hz=>?_⟩⟩;rcases mem_cons.1 hz with rfl|hz
   ·exact⟨(Array.getElem?_eq_some_iff.1 r2).1,r6,by rw[hc];exact r2⟩
   rw[mem_singleton] at hz;subst hz;exact⟨(Array.getElem?_eq_some_iff.1 r3).1,r7,r3⟩
  | exit i =>
   obtain⟨hc,S',U,hj⟩:=hq;obtain⟨E,r1,r2,r3,r4,r5,r6,r7⟩:=nR a3 W3 y3 S' (some (.exit i)) h3 U (Kj _ _ hj);refine⟨_,E,r1,false,S',rfl,r4,r5,(fun h=>by cases h),fun _=>⟨hj,fun z hz=>?_⟩⟩;rcases mem_cons.1 hz with rfl|hz
   ·exact⟨(Array.getElem?_eq_some_iff.1 r2).1,r6,by rw[hc];exact r2⟩
   rw[mem_singleton] at hz;subst hz;exact⟨(Array.getElem?_eq_some_iff.1 r3).1,r7,r3⟩
  | goto t=>exact hq.elim
  | panic ch=>exact hq.elim
  | outgrown=>exact hq.elim
 -- behind the iterator
 have fb:∀(W':World) (Sc:List ag) (st:LoopState) (pe:Option Code),Own W' (live X Sc) Sc→Fr w (ap x.S) W' (ap Sc)→(∀B∈Sc,fA B.cs=true)→st≠.busy →
   qy W' (live X Sc) [(w.heap.size+1,.loop (rec st pe)),(w.heap.size,.deferred (some []))] →
   ∃E,(Instr.endLoop (w.heap.size+1)).run P W' = .ok pe E∧bF ⟨X,E,ap Sc,G,[mark w.heap.size],fun _ _=>False⟩ ⟨x.n,x.env,Sc⟩ {a with defers:=[mark w.heap.size]++a.defers} E ∧
    ∀a' w' y,bF ⟨X,E,ap Sc,G,[mark w.heap.size],fun _ _=>False⟩ y a' w'→yJ P fn post y→wc P fn post X w0 S0 a' w':=fun W' Sc st pe ho hf L1 fq I=>by
  obtain⟨r1,r2,r3⟩:=I _ mem_cons_self;obtain⟨k1,k2,k3⟩:=I _ (mem_cons_of_mem _ mem_cons_self);have r1:w.heap.size+1<W'.heap.size:=r1;have r3:W'.heap[w.heap.size+1]?=some (.loop (rec st pe)):=r3;have ou:=run_endLoop (P:=P) r3 (by rw[wE];exact fq);have gB:(rec st pe).pending=pe:=(by rw[wE])
  rw[gB] at ou;refine⟨_,ou,after _ Sc ⟨hf.os,hf.tape,hf.output,by rw[World.putObj_size];exact hf.size,fun b hb hn=>⟨(World.putObj_heap_other w4).trans (hf.block b hb hn).1,(hf.block b hb hn).2⟩⟩ ?_ ((World.putObj_heap_other w4).trans k3) (fun h=>k2 (.inr h))⟩;exact ho.yI (Z:=fun b=>b=w.heap.size+1) (fun B hB=>.inr (mem_map.2 ⟨B,hB,rfl⟩)) L1 (fun b _ hb=>World.putObj_heap_other hb) (fun b i hz=>by subst hz;exact D5 r3 rfl i) (by rw[World.putObj_size];exact Nat.le_refl _) (fun B hB e=>r2 (.inr (by rw[←e];exact mem_map.2 ⟨B,hB,rfl⟩)))
 have hR:∀(a':Act) (E:World) (Sc:List ag),bF ⟨X,E,ap Sc,G,[mark w.heap.size],fun _ _=>False⟩ ⟨x.n,x.env,Sc⟩ a' E→(∀a' w' y,bF ⟨X,E,ap Sc,G,[mark w.heap.size],fun _ _=>False⟩ y a' w'→yJ P fn post y→wc P fn post X w0 S0 a' w') →
   ((∃xs,Sa xs∧J xs Sc)∨(jc = .exit id∧∃pre,Sp pre∧Jx pre Sc))→rest.wp P (LQ ⟨X,w0,S0,G,[],wc P fn post X w0 S0⟩ Q) a' E:=fun a' E Sc h1 h2 h3 =>
  wp_mono (afo E (ap Sc) w.heap.size Sc h3 _ _ h1) fun e a2 w2 hq=>by
   rcases hq with ⟨y,q1,rfl,q2⟩|⟨_,hq⟩
   ·exact .inr ⟨rfl,h2 _ _ _ q1 q2⟩
   exact hq.elim
 rintro e W' ⟨v,Sc,rfl,kf,jk,h⟩;rcases h with ⟨xs,hsa,hj,I⟩|⟨pre,zS,hj,I⟩
 ·obtain⟨E,q1,q2,q3⟩:=fb W' Sc .ready none kf jk (V4 _ _ hj) bu I;refine⟨none,E,q1,?_⟩;exact hR _ E Sc q2 q3 (.inl ⟨xs,hsa,hj⟩)
 obtain⟨E,q1,q2,q3⟩:=fb W' Sc .done (some jc) kf jk (Kj _ _ hj) bu I;refine⟨some jc,E,q1,?_⟩;rcases xy with xy|xy
 ·rw[xy];refine wpIn_ret ?_;exact .inr ⟨rfl,q3 _ _ _ q2 (mr xy pre Sc zS hj)⟩
 rw[xy];refine wpIn_exit ?_;have:=hR _ E Sc q2 q3 (.inr ⟨xy,pre,zS,hj⟩);simpa[Exit.inBlock,Exit.then] using this
theorem Pr{b e size:Nat}{cs cs':List D}(E:(⟨b,e,size,cs⟩:ag)∈S)(Z:gk S cs cs')(hne:isMap e=false:=by rfl):View S (.v (.pointer (some ⟨b,0,none⟩))) (.fp cs' 0):=fun X Y w v I O ho h=>by
 rw[h.kw];obtain⟨v1,v2⟩:=Z.spec;obtain⟨r0,cur,r1,r2,r3,U⟩:=ho.at_ _ E;rw[jY hne] at r1;refine .fp cs' 0 b 0 (fun i=>cur.getD i undef) r0 (fun hy=>O _ (I _ hy) (mem_map.2 ⟨_,E,rfl⟩)) (fun i hi=>?_) (fun i hi=>?_)
 ·obtain⟨u,hu,_⟩:=U i Fg;rw[Nat.zero_add,nF r1 hu];simp[hu]
 obtain⟨u,hu,hq⟩:=U i Fg;simp only[Array.getD_eq_getD_getElem?,hu,Option.getD_some];exact v2 i w4 hi X Y w u I O ho hq
theorem aaF{f:Fn}{ds E:List D}(h:gk S ds E):View S (.ek f ds) (.ek f E):=fun X Y w v O U ho hr=>by
 obtain⟨h1,h2⟩:=h.spec;cases hr with
 | ek _ _ vs hl I=>exact .ek f E vs w4 fun i q1 q2=>h2 i w4 q1 X Y w _ O U ho (I i w4 q2)
/-! ### More steps of a drawn region -/
variable {S1 T:List Nat} {fuel i:Nat} {ld:Array Bool}

end Go.Proofs.YtbcmjoaggammcaaGreatDoor.V
