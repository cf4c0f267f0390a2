/-
  GC: walks and plain facts, part 2.
-/
import Derived.Test.YtbplamgacibdaaaGreatDoorPGC1
set_option linter.unusedVariables false
set_option linter.unusedSimpArgs false
set_option maxRecDepth 100000
set_option maxHeartbeats 4000000
namespace Go.Proofs.YtbplamgacibdaaaGreatDoor.V
open List
open Go.RowKit
variable {P:Program} {C:dG} {G:List (Nat×List Value)} {Q:Exit->St->Prop} {x y:St} {ops:Array Oper} {l:List Oper} {o:Oper}
variable {t e:TypeId} {ps:List (Nat×Operand)} {pl:List (Nat×D)} {ds:List D} {sz i:Nat} {fo:Operand} {dc:Array Operand} {ts:Array TypeId} {α:Type} {lo hi:Option Operand}
theorem adi{z:Operand}{d:D}(ho:o.op = .move z)(hd:aG x z=d):bX P G x o .none d:=hd ▸ aaO ho
theorem adj{z:Operand}{d:D}(ho:o.op = .assign z)(hd:aG x z=d):bX P G x o .none d:=hd ▸ aad ho
theorem aat{c y z:Operand}{t:Bool}{d:D}(ho:o.op = .pick c y z)(hc:aG x c = .v (.bool t))(h:t=true)(hd:aG x y=d):bX P G x o .none d:=by
 have:=P8 (P:=P) (G:=G) ho hc;rw[if_pos h,hd] at this;exact this
theorem aau{c y z:Operand}{t:Bool}{d:D}(ho:o.op = .pick c y z)(hc:aG x c = .v (.bool t))(h:t=false)(hd:aG x z=d):bX P G x o .none d:=by
 have:=P8 (P:=P) (G:=G) ho hc;rw[if_neg (by rw[h];simp),hd] at this;exact this
def ng(x:St):List Operand->List D->Prop
 | [],[]=>True
 | o::r,d::r'=>aG x o=d/\ng x r r'
 | _,_=>False
theorem ng.eq:∀{os:List Operand} {ds:List D},ng x os ds->os.map (aG x)=ds
 | [],[],_=>rfl
 | o::r,d::r',h=>by rw[map_cons,h.1,ng.eq h.2]
 | [],_::_,h=>h.elim
 | _::_,[],h=>h.elim
def jW(x:St):List (Nat×Operand)->List (Nat×D)->Prop
 | [],[]=>True
 | p::r,q::r'=>p.1=q.1/\aG x p.2=q.2/\jW x r r'
 | _,_=>False
theorem jW.eq:∀{ps:List (Nat×Operand)} {ds:List (Nat×D)},jW x ps ds->lW x ps.toArray=ds
 | [],[],_=>rfl
 | p::r,(i,d)::r',h=>by
  have:=jW.eq h.2.2;simp only[lW,map_cons] at this |-;rw[this,h.1,h.2.1]
 | [],_::_,h=>h.elim
 | _::_,[],h=>h.elim
def k8:D->Bool
 | .bY=>false
 | _=>true
theorem Bj{ps:List (Nat×D)}(h:ps.all (fun p=>k8 p.2)=true):∀p∈ps,p.2≠.bY:=fun p hp he=>by
 have:=all_eq_true.1 h p hp;rw[he] at this;cases this
theorem pi {E:Array Field} {places:Array (Nat×Nat)} {z:Value} (ho:o.op = .build t ps.toArray) (hz:∀w,(zeroValue t).run P w = .ok z w)
  (I:∀w,(underlying t).run P w = .ok (.struct E) w) (hp:∀w,(E.mapM fun f=>do pure (f.offset,<-sizeOf f.type):Sem (Array (Nat×Nat))).run P w = .ok places w)
  (gJ:jW x ps pl) (hj:pl.all (fun p=>k8 p.2)=true) (hd:mD (places[·]?) (z.cells.toList.map .v) pl=some ds):bX P G x o .none (.agg ds):=by
 refine aas ho hz I hp ?_ ?_
 ·rw[gJ.eq];exact Bj hj
 rw[gJ.eq];exact hd
theorem P4 {n:Nat} {z:Value} (ho:o.op = .build t ps.toArray) (hz:∀w,(zeroValue t).run P w = .ok z w)
  (E:∀w,(underlying t).run P w = .ok (.array n e) w) (hs:∀w,(sizeOf e).run P w = .ok sz w)
  (gJ:jW x ps pl) (hj:pl.all (fun p=>k8 p.2)=true) (hd:mD (fun i=>some (i*sz,sz)) (z.cells.toList.map .v) pl=some ds):bX P G x o .none (.agg ds):=by
 refine aah ho hz E hs ?_ ?_
 ·rw[gJ.eq];exact Bj hj
 rw[gJ.eq];exact hd
def cu(k:Nat):List D->List (Nat×D)
 | []=>[]
 | d::r=>(k,d)::cu (k+1) r
theorem QB:∀(ds pre post:List D),ds.length<=post.length->dh (pre++post) pre.length ds=(pre++ds)++post.drop ds.length
 | [],pre,post,_=>by simp[dh]
 | d::ds,pre,[],h=>by simp at h
 | d::ds,pre,p::post,h=>by
  rw[dh,show(pre++p::post).set pre.length d=(pre++[d])++post by simp,show pre.length+1=(pre++[d]).length by simp,QB ds (pre++[d]) post oV];simp
theorem TW{sz:Nat}:∀(pd:List D) (k:Nat) (pre post:List D),(pd.all fun d=>Nat.beq (cellsOf d).length sz)=true->pre.length=k*sz->post.length=pd.length*sz->mD (fun i=>some (i*sz,sz)) (pre++post) (cu k pd)=some (pre++pd.flatMap cellsOf)
 | [],k,pre,post,_,_,h=>by
  have:post=[]:=length_eq_zero_iff.1 oV;simp[cu,mD,this]
 | d::r,k,pre,post,ha,h1,h2=>by
  rw[all_cons,Bool.and_eq_true] at ha;have hd:(cellsOf d).length=sz:=Nat.eq_of_beq_eq_true ha.1;have hp:post.length=r.length*sz+sz:=(by rw[h2,length_cons,Nat.succ_mul])
  rw[cu,mD];simp only;rw[if_neg (by simp only[hd,length_append,h1,hp,ne_eq,not_true_eq_false,decide_false,Bool.false_or,decide_eq_true_eq];omega),<-h1,QB _ _ _ w4,TW r (k+1) _ _ ha.2 (by rw[length_append,hd,h1,Nat.succ_mul]) (by rw[length_drop,hd];omega),flatMap_cons];simp
theorem QC{pd zs:List D}(ha:(pd.all fun d=>Nat.beq (cellsOf d).length sz)=true)(hl:Nat.beq zs.length (pd.length*sz)=true)(j9:pd.flatMap cellsOf=ds):mD (fun i=>some (i*sz,sz)) zs (cu 0 pd)=some ds:=by
 have:=TW pd 0 [] zs ha bq (Nat.eq_of_beq_eq_true hl);rw[nil_append,nil_append,j9] at this;exact this
theorem OD.Mo {tt len:Nat} {z:Value} {oZ:List Value} (hw:cj ops x o true) (ho:o.op = .buildSlice t len ps.toArray) (jY:o.dst=some tt) (hz:∀w,(zeroValue e).run P w = .ok z w)
  (E:∀w,(underlying t).run P w = .ok (.slice e) w) (hs:∀w,(sizeOf e).run P w = .ok sz w) (hl:Nat.ble 1 (len*sz)=true) (gp:Nat.ble (len*sz) (2 ^ 24)=true) (fa:(Array.range (len*sz)).map (fun i=>z.cells[i % z.cells.size]!)=oZ.toArray)
  (gJ:jW x ps pl) (hj:pl.all (fun p=>k8 p.2)=true) (hd:mD (fun i=>some (i*sz,sz)) (oZ.map .v) pl=some ds)
  (k:∀b,OD P C ops l ⟨x.n,(tt,.v (.slice (some ⟨b,0,none⟩) len len))::x.env,⟨b,e,ds.length,ds⟩::x.S⟩ Q) (hne:isMap e=false:=by rfl):OD P C ops (o::l) x Q:=by
 refine OD.gj hw (Iv (hne:=hne) (zs:=oZ.map .v) (ds:=ds) ho jY hz E hs (Nat.le_of_ble_eq_true hl) (Nat.le_of_ble_eq_true gp) ?_ ?_ ?_ ?_) ?_
 ·rw[fa];congr 1;rw[map_map];exact(map_id oZ).symm
 ·intro d hd;obtain⟨u,_,rfl⟩:=mem_map.1 hd;exact⟨u,rfl⟩
 ·rw[gJ.eq];exact Bj hj
 ·rw[gJ.eq];exact hd
 rintro _ ⟨b,rfl⟩;exact k b
theorem OD.alloc {e:TypeId} {z:Value} {t:Nat} {ds:List D} (hw:cj ops x o true) (ho:o.op = .alloc e) (hd:o.dst=some t) (hz:∀w,(zeroValue e).run P w = .ok z w) (j9:z.cells.toList.map .v=ds)
  (k:∀b,OD P C ops l ⟨x.n,(t,.v (.pointer (some ⟨b,0,none⟩)))::x.env,⟨b,e,ds.length,ds⟩::x.S⟩ Q) (hne:isMap e=false:=by rfl):OD P C ops (o::l) x Q :=
 OD.gj hw (ES (hne:=hne) ho hd hz j9) fun y ⟨b,hy⟩=>hy ▸ k b
theorem OD.box {e:TypeId} {z:Operand} {t:Nat} {d:D} {ds:List D} (hw:cj ops x o true) (ho:o.op = .box e z) (hd:o.dst=some t) (hy:aG x z=d) (hj:k8 d=true) (j9:cellsOf d=ds)
  (k:∀b,OD P C ops l ⟨x.n,(t,.v (.pointer (some ⟨b,0,none⟩)))::x.env,⟨b,e,ds.length,ds⟩::x.S⟩ Q) (hne:isMap e=false:=by rfl):OD P C ops (o::l) x Q :=
 OD.gj hw (aeZ (hne:=hne) ho hd hy (fun h=>by rw[h] at hj;cases hj) j9) fun y ⟨b,hy⟩=>hy ▸ k b
theorem OD.store {t:TypeId} {k b o' n:Nat} {B:ah} {d:D} {cs':List D} {y z:Operand} (hw:cj ops x o true) (ho:o.op = .store t y z) (jY:o.dst=none) (hy:aG x y = .v (.pointer (some ⟨b,o',none⟩)))
  (hk:x.S[k]?=some B) (hb:B.b=b) (hz:aG x z=d) (hj:k8 d=true) (h1:(cellsOf d).all one=true) (hn:∀w,(sizeOf t).run P w = .ok n w) (gC:(cellsOf d).length=n) (hl:Nat.ble (o'+n) B.cs.length=true) (dy:dh B.cs o' (cellsOf d)=cs')
  (K:OD P C ops l ⟨x.n,x.env,x.S.set k {B with cs:=cs'}⟩ Q) (hne:isMap B.e=false:=by rfl):OD P C ops (o::l) x Q :=
 OD.gj hw (EU (hne:=hne) ho jY hy hk hb hz (fun h=>by rw[h] at hj;cases hj) h1 hn gC (Nat.le_of_ble_eq_true hl) dy) fun y hy=>hy ▸ K
theorem OD.call {f t:Nat} {fo:Operand} {dc:Array Operand} {ts:Array TypeId} {args:List D} {Sf R:List ah} {post:D->List ah->Prop} (hw:cj ops x o true) (ho:o.op = .call {callee:=.value fo,args:=dc,argTypes:=ts}) (hd:o.dst=some t)
  (hf:fo = .func f) (fy:∀args w,(callFunc f args).run P w = .ok (.enter f args) w) (hc:VC P C.G f args Sf post) (ha:ng x dc.toList args) (hp:x.S.Perm (Sf++R))
  (K:∀r S',post r S'->OD P C ops l ⟨x.n,(t,r)::x.env,S'++R⟩ Q):OD P C ops (o::l) x Q :=
 OD.gj hw (BB ho hd hf fy ha.eq hp hc) fun y ⟨r,S',h,hy⟩=>hy ▸ K r S' h
theorem OD.iD {f t:Nat} {args:List D} {r:D} (hw:cj ops x o true) (ho:o.op = .call {callee:=.value fo,args:=dc,argTypes:=ts}) (hd:o.dst=some t)
  (hf:fo = .func f) (fy:∀args w,(callFunc f args).run P w = .ok (.enter f args) w) (hc:VP P C.G f args r) (ha:ng x dc.toList args)
  (K:OD P C ops l (x.put t r) Q):OD P C ops (o::l) x Q :=
 OD.call hw ho hd hf fy hc ha (eX _) fun E S' ⟨h1,h2⟩=>by subst h1 h2;exact K
theorem OD.lY {f t:Nat} {args E all:List D} {Sf R:List ah} {post:D->List ah->Prop} (hw:cj ops x o true) (ho:o.op = .call {callee:=.value fo,args:=dc,argTypes:=ts}) (hd:o.dst=some t)
  (hf:aG x fo = .eI (.func f) E) (fy:∀args w,(callFunc f args).run P w = .ok (.enter f args) w) (hc:VC P C.G f all Sf post) (ek:args++E=all) (ha:ng x dc.toList args) (hp:x.S.Perm (Sf++R))
  (K:∀r S',post r S'->OD P C ops l ⟨x.n,(t,r)::x.env,S'++R⟩ Q):OD P C ops (o::l) x Q :=
 OD.gj hw (abD ho hd hf fy (by rw[ha.eq,ek]) hp hc) fun y ⟨r,S',h,hy⟩=>hy ▸ K r S' h
theorem OD.append {s y:Operand} {t e tt sz bytes n m b cap k:Nat} {z:Value} {B:ah} {cs:List D} (hw:cj ops x o true) (ho:o.op = .call {callee:=.builtin .append,args:=#[s,y],argTypes:=#[t,t]}) (hd:o.dst=some tt)
  (ht:P.underlying t=some (.slice e)) (hi:(P.info? e).map (fun i=>(i.zero,i.size,i.bytes))=some (some z,sz,bytes)) (fa:z.cells.size=sz) (jh:0<sz)
  (hs:aG x s = .v (.slice (some ⟨b,0,none⟩) n cap)) (hk:x.S[k]?=some B) (hb:B.b=b) (he:B.e=e) (O:B.size=cap*sz) (hl:B.cs.length=n*sz) (hn:n<=cap) (U:cap<=maxLen)
  (hy:aG x y = .list sz cs m) (jm:∀d∈cs,one d=true) (hm:0<m) (ie:n+m<=maxLen) (I:(n+m)*bytes<=140737488355328)
  (K:∀Z E,n+m<=E->E<=maxLen->OD P C ops l ⟨x.n,(tt,.v (.slice (some ⟨Z,0,none⟩) (n+m) E))::x.env,⟨Z,e,E*sz,B.cs++cs⟩::x.S.eraseIdx k⟩ Q) (hne:isMap B.e=false:=by rfl):OD P C ops (o::l) x Q :=
 OD.gj hw (Qb (hne:=hne) ho hd ht hi fa jh hs hk hb he O hl hn U hy jm hm ie I) fun y ⟨Z,E,h1,h2,hy⟩=>hy ▸ K Z E h1 h2
theorem OD.I4 {s y:Operand} {t e tt bytes m:Nat} {z:Value} {cs:List D} (hw:cj ops x o true) (ho:o.op = .call {callee:=.builtin .append,args:=#[s,y],argTypes:=#[t,t]}) (hd:o.dst=some tt)
  (ht:P.underlying t=some (.slice e)) (hi:(P.info? e).map (fun i=>(i.zero,i.size,i.bytes))=some (some z,sz,bytes)) (fa:z.cells.size=sz) (U:0<sz)
  (hs:aG x s = .v (.slice none 0 0)) (hy:aG x y = .list sz cs m) (jm:∀d∈cs,one d=true) (hm:0<m) (Z:m<=maxLen) (I:m*bytes<=140737488355328)
  (K:∀O E,m<=E->E<=maxLen->OD P C ops l ⟨x.n,(tt,.v (.slice (some ⟨O,0,none⟩) m E))::x.env,⟨O,e,E*sz,cs⟩::x.S⟩ Q) (hne:isMap e=false:=by rfl):OD P C ops (o::l) x Q :=
 OD.gj hw (PJ (hne:=hne) ho hd ht hi fa U hs hy jm hm Z I) fun y ⟨O,E,h1,h2,hy⟩=>hy ▸ K O E h1 h2
theorem OD.split{t:Nat}{b:Bool}(hb:look t x.env = .v (.bool b))(h1:b=true->OD P C ops l x Q)(h2:b=false->OD P C ops l x Q):OD P C ops l x Q:=by
 cases h:b
 ·exact h2 h
 exact h1 h
theorem ZX{z:Operand}{a':Addr}(ho:o.op = .nilCheck z)(hz:aG x z = .v (.pointer (some a'))):bX P G x o .none (.v (.pointer (some a'))):=fun C a w _ h =>
 ⟨_,.v _,fun w' _=>by unfold execOp;simp only[ho,h.flat hz];rfl⟩
theorem ZW{z:Operand}{cs:List D}{off:Nat}(ho:o.op = .nilCheck z)(hz:aG x z = .fL cs off):bX P G x o .none (.fL cs off):=fun C a w _ h=>by
 have hr:=h.eval z;rw[hz] at hr;generalize hg:a.eval z=u at hr;cases hr with
 | fL _ _ b E g hb hL hc I=>exact⟨_,.fL cs off b E g hb hL hc I,fun w' _=>by unfold execOp;simp only[ho,hg];rfl⟩
theorem sy{fn:Fn}{E:Array Operand}(ho:o.op = .makeFunc fn #[] E)(hd:ng x E.toList ds):bX P G x o .none (.eI fn ds):=aaS ho hd.eq
theorem cm{α:Type}{g:α->List D}{sz:Nat}(hg:∀a,(g a).length=sz):∀(ls:List α),(ls.flatMap g).length=ls.length*sz
 | []=>by simp
 | a::r=>by rw[flatMap_cons,length_append,hg,cm hg r,length_cons,Nat.add_mul];omega
theorem vk{α:Type}{g:α->List D}{sz:Nat}(hg:∀a,(g a).length=sz):∀(ls:List α) (i:Nat),(ls.flatMap g).drop (i*sz)=(ls.drop i).flatMap g
 | [],i=>by simp
 | a::r,0=>by simp
 | a::r,i+1=>by
  rw[flatMap_cons,drop_succ_cons,<-vk hg r i,Nat.add_mul,Nat.one_mul,Nat.add_comm,<-drop_drop];congr 1;rw[<-hg a,drop_left]
theorem sC{α:Type}{g:α->List D}{sz:Nat}(hg:∀a,(g a).length=sz):∀(ls:List α) (i:Nat),(ls.flatMap g).take (i*sz)=(ls.take i).flatMap g
 | [],i=>by simp
 | a::r,0=>by simp
 | a::r,i+1=>by
  rw[flatMap_cons,take_succ_cons,flatMap_cons,<-sC hg r i,Nat.add_mul,Nat.one_mul,Nat.add_comm,<-hg a,take_length_add_append]
theorem Ge{g:α->List D}(hg:∀a,(g a).length=sz){ls:List α}(hi:i<ls.length):((ls.flatMap g).drop (i*sz)).take sz=g ls[i]:=by
 rw[vk hg,drop_eq_getElem_cons hi,flatMap_cons,<-hg ls[i],take_left]
theorem zo{g:α->List D}(hg:∀a,(g a).length=sz){ls:List α}{j:Nat}{d:D}(hi:i<ls.length)(hd:(g ls[i])[j]?=some d):(ls.flatMap g)[i*sz+j]?=some d:=by
 have h:=Ge hg hi;have hj:=(List.getElem?_eq_some_iff.1 hd).1;rw[hg] at hj;rw[<-hd,<-h,getElem?_take_of_lt hj,getElem?_drop]
theorem JA{g:α->List D}(hg:∀a,(g a).length=sz){ls:List α}{d:D}(hi:i<ls.length)(hd:(g ls[i])[0]?=some d):(ls.flatMap g)[i*sz]?=some d:=zo hg hi hd
theorem sF{g:α->List D}(hg:∀a,(g a).all one=true)(ls:List α):∀d∈ls.flatMap g,one d=true:=fun d hd=>by
 obtain⟨a,_,h⟩:=mem_flatMap.1 hd;exact all_eq_true.1 (hg a) d h
theorem aav {g:α->List D} {h':Nat} (hg:∀a,(g a).length=sz) {ls:List α} {y:Operand} (ho:o.op = .slice t y lo hi none) (hy:aG x y = .list sz (ls.flatMap g) ls.length) (e9:mY x lo 0 0) (eL:mY x hi h' ls.length)
  (E:∀w,(underlying t).run P w = .ok (.slice e) w) (hs:∀w,(sizeOf e).run P w = .ok sz w) (h2:h'<=ls.length):bX P G x o .none (.list sz ((ls.take h').flatMap g) (ls.take h').length):=by
 have:=IA (P:=P) (G:=G) ho hy e9 eL E hs (Nat.zero_le _) h2;rw[Nat.zero_mul,drop_zero,Nat.sub_zero,sC hg] at this;rw[length_take,Nat.min_eq_left h2];exact this
theorem aaw {g:α->List D} {l':Nat} (hg:∀a,(g a).length=sz) {ls:List α} {y:Operand} (ho:o.op = .slice t y lo hi none) (hy:aG x y = .list sz (ls.flatMap g) ls.length) (e9:mY x lo l' 0) (eL:mY x hi ls.length ls.length)
  (E:∀w,(underlying t).run P w = .ok (.slice e) w) (hs:∀w,(sizeOf e).run P w = .ok sz w) (h2:l'<=ls.length):bX P G x o .none (.list sz ((ls.drop l').flatMap g) (ls.drop l').length):=by
 have:=IA (P:=P) (G:=G) ho hy e9 eL E hs h2 (Nat.le_refl _);rw[vk hg,take_of_length_le (by rw[cm hg,length_drop];exact Nat.le_refl _)] at this;rw[length_drop];exact this

end Go.Proofs.YtbplamgacibdaaaGreatDoor.V
namespace Go.Proofs.YtbplamgacibdaaaGreatDoor.V
open List
open Go.RowKit
variable {P:Program} {C:dG} {Q:Exit->St->Prop} {x:St} {ops:Array Oper} {o:Oper} {S1 T:List Nat} {fuel i:Nat} {ld:Array Bool}
variable {k t:Nat} {B:ah}
theorem BQ{S:List ah}(hk:S[k]?=some B):B.b∈av S:=mem_map.2 ⟨B,mem_of_getElem? hk,rfl⟩
theorem qA{S:List ah}{k0:Nat}(hk:x.S[k]?=some B)(h0:S[k0]?=some B):Safe x (av S) (.fJ k):=⟨B,hk,BQ h0⟩
theorem AD.split{b:Bool}(hb:look t x.env = .v (.bool b))(h1:b=true->AD P C ops S1 T fuel ld x Q)(h2:b=false->AD P C ops S1 T fuel ld x Q):AD P C ops S1 T fuel ld x Q:=by
 cases h:b
 ·exact h2 h
 exact h1 h
theorem dM.split{b:Bool}(hb:look t x.env = .v (.bool b))(h1:b=true->dM P C ops S1 T fuel ld x Q)(h2:b=false->dM P C ops S1 T fuel ld x Q):dM P C ops S1 T fuel ld x Q:=by
 cases h:b
 ·exact h2 h
 exact h1 h
theorem bC.Mp{post:St->Prop}(hi:ops[i]?=some o)(hw:cj ops x o true)(h:fU P C.G x o [] post)(k:∀y,post y->AD P C ops S1 T fuel (ld.setIfInBounds i true) y Q):bC P C ops S1 T fuel ld x Q i :=
 bC.gj hi hw h (fun _ _ _ _ _ _ hb=>by simp at hb) (fun _ hb=>by simp at hb) k
theorem GK{C:dG}{a:Act}{w:World}(h:bI C x a w)(hk:x.S[k]?=some B)(hT:∀b∈T,b∈av (x.S.eraseIdx k)):∀b∈T,b∉[B.b]:=fun b hb hm=>by
 have hp:(av x.S).Perm (B.b::av (x.S.eraseIdx k)):=(by have:=(uY hk).map ah.b;simpa[av] using this)
 have hn:=(nodup_cons.1 (hp.nodup_iff.1 h.own.apart)).1;have:b=B.b:=(by simpa using hm)
 exact hn (this ▸ hT b hb)
theorem bC.Mo {t e:TypeId} {tt len sz:Nat} {ps:List (Nat×Operand)} {pl:List (Nat×D)} {z:Value} {oZ:List Value} {ds:List D} (hi:ops[i]?=some o) (hw:cj ops x o true) (ho:o.op = .buildSlice t len ps.toArray) (jY:o.dst=some tt) (hz:∀w,(zeroValue e).run P w = .ok z w)
  (E:∀w,(underlying t).run P w = .ok (.slice e) w) (hs:∀w,(sizeOf e).run P w = .ok sz w) (hl:Nat.ble 1 (len*sz)=true) (gp:Nat.ble (len*sz) (2 ^ 24)=true) (fa:(Array.range (len*sz)).map (fun i=>z.cells[i % z.cells.size]!)=oZ.toArray)
  (gJ:jW x ps pl) (hj:pl.all (fun p=>k8 p.2)=true) (hd:mD (fun i=>some (i*sz,sz)) (oZ.map .v) pl=some ds)
  (k:∀b,AD P C ops S1 T fuel (ld.setIfInBounds i true) ⟨x.n,(tt,.v (.slice (some ⟨b,0,none⟩) len len))::x.env,⟨b,e,ds.length,ds⟩::x.S⟩ Q) (hne:isMap e=false:=by rfl):bC P C ops S1 T fuel ld x Q i:=by
 refine bC.Mp hi hw (Iv (hne:=hne) (zs:=oZ.map .v) (ds:=ds) ho jY hz E hs (Nat.le_of_ble_eq_true hl) (Nat.le_of_ble_eq_true gp) ?_ ?_ ?_ ?_) ?_
 ·rw[fa];congr 1;rw[map_map];exact(map_id oZ).symm
 ·intro d hd;obtain⟨u,_,rfl⟩:=mem_map.1 hd;exact⟨u,rfl⟩
 ·rw[gJ.eq];exact Bj hj
 ·rw[gJ.eq];exact hd
 rintro _ ⟨b,rfl⟩;exact k b
theorem bC.store {t:TypeId} {k b o' n:Nat} {B:ah} {d:D} {cs':List D} {y z:Operand} (hi:ops[i]?=some o) (hw:cj ops x o true) (ho:o.op = .store t y z) (jY:o.dst=none) (hy:aG x y = .v (.pointer (some ⟨b,o',none⟩)))
  (hk:x.S[k]?=some B) (hb:B.b=b) (hz:aG x z=d) (hj:k8 d=true) (h1:(cellsOf d).all one=true) (hn:∀w,(sizeOf t).run P w = .ok n w) (gC:(cellsOf d).length=n) (hl:Nat.ble (o'+n) B.cs.length=true) (dy:dh B.cs o' (cellsOf d)=cs')
  (hT:∀b∈T,b∈av (x.S.eraseIdx k))
  (K:AD P C ops S1 T fuel (ld.setIfInBounds i true) ⟨x.n,x.env,x.S.set k {B with cs:=cs'}⟩ Q) (hne:isMap B.e=false:=by rfl):bC P C ops S1 T fuel ld x Q i :=
 bC.gj hi hw (EU (hne:=hne) ho jY hy hk hb hz (fun h=>by rw[h] at hj;cases hj) h1 hn gC (Nat.le_of_ble_eq_true hl) dy) (fun C a w hs I E=>hb ▸ GK hs hk hT I E) (fun I E=>by
  have:I=b:=(by simpa using E)
  subst this;rw[<-hb];exact BQ hk) fun y hy=>hy ▸ K
theorem bC.iD {f:Nat} {fo:Operand} {dc:Array Operand} {ts:Array TypeId} {args:List D} {r:D} (hi:ops[i]?=some o) (hw:cj ops x o true) (ho:o.op = .call {callee:=.value fo,args:=dc,argTypes:=ts}) (hd:o.dst=some t)
  (hf:fo = .func f) (fy:∀args w,(callFunc f args).run P w = .ok (.enter f args) w) (hc:VP P C.G f args r) (ha:ng x dc.toList args)
  (K:AD P C ops S1 T fuel (ld.setIfInBounds i true) (x.put t r) Q):bC P C ops S1 T fuel ld x Q i :=
 bC.Mp hi hw (BB ho hd hf fy ha.eq (eX _) hc) fun y ⟨E,S',⟨h1,h2⟩,hy⟩=>by subst h1 h2;exact hy ▸ K
theorem bC.call {f t:Nat} {fo:Operand} {dc:Array Operand} {ts:Array TypeId} {args:List D} {Sf R:List ah} {post:D->List ah->Prop} (hi:ops[i]?=some o) (hw:cj ops x o true) (ho:o.op = .call {callee:=.value fo,args:=dc,argTypes:=ts}) (hd:o.dst=some t)
  (hf:fo = .func f) (fy:∀args w,(callFunc f args).run P w = .ok (.enter f args) w) (hc:VC P C.G f args Sf post) (ha:ng x dc.toList args) (hp:x.S.Perm (Sf++R)) (hT:∀b∈T,b∈av R)
  (K:∀r S',post r S'->AD P C ops S1 T fuel (ld.setIfInBounds i true) ⟨x.n,(t,r)::x.env,S'++R⟩ Q):bC P C ops S1 T fuel ld x Q i :=
 bC.gj hi hw (BB ho hd hf fy ha.eq hp hc) (fun C a w hs b hb hm=>by
  have h1:(av x.S).Perm (av Sf++av R):=(by have:=hp.map ah.b;simpa[av] using this)
  have h2:=h1.nodup_iff.1 hs.own.apart;exact(nodup_append.1 h2).2.2 b hm b (hT b hb) rfl) (fun b hb=>by
  have h1:(av x.S).Perm (av Sf++av R):=(by have:=hp.map ah.b;simpa[av] using this)
  exact h1.symm.subset (mem_append_left _ hb)) fun y ⟨r,S',h,hy⟩=>hy ▸ K r S' h
theorem bC.append {s y:Operand} {t e tt sz bytes n m b cap k:Nat} {z:Value} {B:ah} {cs:List D} (HJ:ops[i]?=some o) (hw:cj ops x o true) (ho:o.op = .call {callee:=.builtin .append,args:=#[s,y],argTypes:=#[t,t]}) (hd:o.dst=some tt)
  (ht:P.underlying t=some (.slice e)) (hi:(P.info? e).map (fun i=>(i.zero,i.size,i.bytes))=some (some z,sz,bytes)) (fa:z.cells.size=sz) (jh:0<sz)
  (hs:aG x s = .v (.slice (some ⟨b,0,none⟩) n cap)) (hk:x.S[k]?=some B) (hb:B.b=b) (he:B.e=e) (U:B.size=cap*sz) (hl:B.cs.length=n*sz) (hn:n<=cap) (qb:cap<=maxLen)
  (hy:aG x y = .list sz cs m) (jm:∀d∈cs,one d=true) (hm:0<m) (ie:n+m<=maxLen) (I:(n+m)*bytes<=140737488355328) (hT:∀b∈T,b∈av (x.S.eraseIdx k))
  (K:∀O E,n+m<=E->E<=maxLen->AD P C ops S1 T fuel (ld.setIfInBounds i true) ⟨x.n,(tt,.v (.slice (some ⟨O,0,none⟩) (n+m) E))::x.env,⟨O,e,E*sz,B.cs++cs⟩::x.S.eraseIdx k⟩ Q) (hne:isMap B.e=false:=by rfl):bC P C ops S1 T fuel ld x Q i :=
 bC.gj HJ hw (Qb (hne:=hne) ho hd ht hi fa jh hs hk hb he U hl hn qb hy jm hm ie I) (fun C a w hs O Z=>hb ▸ GK hs hk hT O Z) (fun O Z=>by
  have:O=b:=(by simpa using Z)
  subst this;rw[<-hb];exact BQ hk) fun y ⟨O,E,h1,h2,hy⟩=>hy ▸ K O E h1 h2
theorem bC.I4 {s y:Operand} {e tt sz bytes m:Nat} {z:Value} {cs:List D} (U:ops[i]?=some o) (hw:cj ops x o true) (ho:o.op = .call {callee:=.builtin .append,args:=#[s,y],argTypes:=#[t,t]}) (hd:o.dst=some tt)
  (ht:P.underlying t=some (.slice e)) (hi:(P.info? e).map (fun i=>(i.zero,i.size,i.bytes))=some (some z,sz,bytes)) (fa:z.cells.size=sz) (Z:0<sz)
  (hs:aG x s = .v (.slice none 0 0)) (hy:aG x y = .list sz cs m) (jm:∀d∈cs,one d=true) (hm:0<m) (ie:m<=maxLen) (I:m*bytes<=140737488355328)
  (K:∀O E,m<=E->E<=maxLen->AD P C ops S1 T fuel (ld.setIfInBounds i true) ⟨x.n,(tt,.v (.slice (some ⟨O,0,none⟩) m E))::x.env,⟨O,e,E*sz,cs⟩::x.S⟩ Q) (hne:isMap e=false:=by rfl):bC P C ops S1 T fuel ld x Q i :=
 bC.Mp U hw (PJ (hne:=hne) ho hd ht hi fa Z hs hy jm hm ie I) fun y ⟨O,E,h1,h2,hy⟩=>hy ▸ K O E h1 h2

end Go.Proofs.YtbplamgacibdaaaGreatDoor.V
namespace Go.Proofs.YtbplamgacibdaaaGreatDoor.V
open List
open Go.RowKit
variable {P:Program} {C:dG} {G:List (Nat×List Value)} {Q:Exit->St->Prop} {x:St} {ops:Array Oper} {l:List Oper} {o:Oper} {S1 T:List Nat} {fuel i:Nat} {ld:Array Bool}
variable {S Sq R:List ah} {sz k n cap b tt:Nat} {B:ah} {t e:TypeId} {y:Operand} {ad:Option Addr} {cs':List D}
def View(S:List ah)(d d':D):Prop:=∀(X Y:Nat->Prop) w v,(∀b,Y b->X b)->(∀b,X b->b∉av S)->Own w (live X S) S->cq w (live X S) d v->cq w Y d' v
theorem cq.bare{w:World}{X Y:Nat->Prop}{d:D}{v:Value}(h:cq w (live X S) d v)(E:∀b,Y b->X b):cq w Y d v:=h.mono fun b _ hn=>⟨rfl,fun hy=>hn (.inl (E b hy))⟩
theorem ff{d:D}:View S d d:=fun X Y w v E _ _ h=>h.bare E
theorem ze:View S (.v (.slice none 0 0)) (.list sz [] 0):=fun X Y w v _ _ _ h=>by rw[h.lj];exact .nil sz
theorem adk{cs:List D}(hk:S[k]?=some B)(hb:B.b=b)(dy:B.cs=cs)(hl:cs.length=n*sz)(h1:n<=cap)(h2:cap<=maxLen)(hne:isMap B.e=false:=by rfl):View S (.v (.slice (some ⟨b,0,none⟩) n cap)) (.list sz cs n):=fun X Y w v E O ho h=>by
 subst hb dy;rw[h.lj];obtain⟨r0,cur,r1,r2,U,I⟩:=ho.at_ B (mem_of_getElem? hk);rw[kM hne] at r1;refine .list sz B.cs n B.b 0 cap (fun i=>cur.getD i undef) hl h1 h2 r0 (fun hy=>O _ (E _ hy) (mem_map.2 ⟨B,mem_of_getElem? hk,rfl⟩)) (fun i hi=>?_) (fun i hi=>?_)
 ·obtain⟨u,hu,_⟩:=I i hi;rw[Nat.zero_add,oE r1 hu];simp[hu]
 obtain⟨u,hu,hq⟩:=I i hi;simp only[Array.getD_eq_getD_getElem?,hu,Option.getD_some];exact hq.bare E
def gU(S:List ah):List D->List D->Prop
 | [],[]=>True
 | d::r,d'::r'=>View S d d'/\gU S r r'
 | _,_=>False
theorem gU.spec{S:List ah}:∀{ds E:List D},gU S ds E->ds.length=E.length/\∀i (h:i<ds.length) (h':i<E.length),View S ds[i] E[i]
 | [],[],_=>⟨rfl,fun i h=>by simp at h⟩
 | d::r,d'::r',h=>⟨by simp[(gU.spec h.2).1],fun i h1 h2=>by
  cases i with
  | zero=>exact h.1
  | succ i=>exact(gU.spec h.2).2 i _ _⟩
 | [],_::_,h=>h.elim
 | _::_,[],h=>h.elim
theorem vc{ds E:List D}(h:gU S ds E):View S (.agg ds) (.agg E):=fun X Y w v O U ho hr=>by
 obtain⟨h1,h2⟩:=h.spec;cases hr with
 | agg _ vs hl I=>exact .agg E vs w4 fun i q1 q2=>h2 i w4 q1 X Y w _ O U ho (I i w4 q2)
def Looks(x:St):List Operand->List D->Prop
 | [],[]=>True
 | o::r,d::r'=>(∃d0,aG x o=d0/\View x.S d0 d)/\Looks x r r'
 | _,_=>False
theorem Looks.Du{C:dG}{a:Act}{w:World}(h:bI C x a w):∀{os:List Operand} {ds:List D},Looks x os ds->cD w (fun _=>False) ds (os.map a.eval)
 | [],[],_=>⟨rfl,fun i h=>by simp at h⟩
 | o::r,d::r',⟨⟨d0,h1,h2⟩,h3⟩=>cD.cons (h2 _ _ _ _ (fun _ hf=>hf.elim) h.AW h.own (h1 ▸ h.eval o)) (Looks.Du h h3)
 | [],_::_,h=>h.elim
 | _::_,[],h=>h.elim
theorem Fg{ds E:List D}(h:gU S ds E):View S (.da ds) (.da E):=fun X Y w v O U ho hr=>by
 obtain⟨h1,h2⟩:=h.spec;cases hr with
 | da _ vs hl I=>exact .da E vs w4 fun i q1 q2=>h2 i w4 q1 X Y w _ O U ho (I i w4 q2)
theorem VC.cover{f:FuncId}{args:List D}{post:D->List ah->Prop}{E:D}(h:VC P G f args [] post)(I:∀r S',post r S'->View S' r E):VP P G f args E:=fun X w vs hp =>
 (h X w vs hp).mono fun e w' ⟨v,r,S',h1,h2,h3,h4,h5⟩=>by
  have O:∀b,X b->b∉av S':=fun b hb=>(h5.block b (hp.ex b hb).1 (hp.ex b hb).2).2;refine⟨v,E,[],h1,⟨rfl,rfl⟩,⟨fun B hB=>by simp at hB,by simp[av]⟩,I r S' h2 X _ w' v (fun b hb=>?_) O h3 h4,⟨h5.os,h5.tape,h5.output,h5.size,fun b hb hn=>⟨(h5.block b hb hn).1,by simp[av]⟩⟩⟩;rcases hb with hb|hb
  ·exact hb
  simp[av] at hb
def lf:D->Bool
 | .v _=>true
 | .da cs=>cs.all fun d=>match d with|.v _=>true|.agg es=>es.all (fun e=>match e with|.v _=>true|_=>false)|_=>false
 | .agg cs=>cs.all fun d=>match d with|.v _=>true|_=>false
 | _=>false
theorem cq.flat{w w':World}{L I:Nat->Prop}{d:D}{v:Value}(h:cq w L d v)(hf:lf d=true):cq w' I d v:=by
 have key:∀(d:D),(match d with|.v _=>true|_=>false)=true->∀v,cq w L d v->cq w' I d v:=fun d hd v h=>by
  cases d<;>simp at hd
  rw[h.lj];exact .v _
 have E:∀(d:D),(match d with|.v _=>true|.agg es=>es.all (fun e=>match e with|.v _=>true|_=>false)|_=>false)=true->∀v,cq w L d v->cq w' I d v:=fun d hd v h=>by
  cases d<;>simp at hd
  ·rw[h.lj];exact .v _
  cases h with
  | agg _ vs hl hr=>exact .agg _ vs hl fun i h1 h2=>key _ (by have:=hd _ (getElem_mem h1);simpa using this) _ (hr i h1 h2)
 cases h with
 | v=>exact .v _
 | da cs vs hl hr=>exact .da cs vs hl fun i h1 h2=>E _ (all_eq_true.1 hf _ (getElem_mem h1)) _ (hr i h1 h2)
 | agg cs vs hl hr=>exact .agg cs vs hl fun i h1 h2=>key _ (all_eq_true.1 hf _ (getElem_mem h1)) _ (hr i h1 h2)
 | _=>cases hf
theorem abF{t':TypeId}{cs:List D}{z:Operand}(ho:o.op = .binOp .eql t y z t')(hd:o.dst=some tt)(hy:aG x y = .list sz cs n)(hz:aG x z = .v (.slice none 0 0))(ht:P.underlying t=some (.slice e)) :
  fU P G x o [] (fun s=>∃b:Bool,(b=true->n=0/\cs=[])/\s=x.put tt (.v (.bool b))):=fun C a w K Q hG h hK=>by
 have hr:=h.eval y;rw[hy] at hr;generalize hg:a.eval y=u at hr;have E:∀ad len cap,u = .slice ad len cap->(execOp a.eval o).run P w = .ok (.value (.bool ad.isNone)) w:=fun ad len cap I=>by
  subst I;unfold execOp;have e1:binOp .eql t (.slice ad len cap) (.slice none 0 0)=(do pure (.bool (<-Op.equal t (.slice ad len cap) (.slice none 0 0)))):=rfl;simp only[ho,hg,h.flat hz,eqGuard,e1,Sem.run_bind];simp[run_equal_slice_nil w t e ad len cap ht]
 unfold Oper.wp;cases hr with
 | mG _ ad cap =>
  rw[E ad 0 cap rfl,Oper.upon_value,hd];exact hK _ _ _ ⟨ad.isNone,fun _=>⟨rfl,rfl⟩,rfl⟩ (h.put (.v _)) (mq.refl _ _) (Fr.refl _ _)
 | list _ _ _ b o' cap f hl q1 q2 hb hL hc O =>
  rw[E (some ⟨b,o',none⟩) n cap rfl,Oper.upon_value,hd];exact hK _ _ _ ⟨false,(fun U=>absurd U bq),rfl⟩ (h.put (.v _)) (mq.refl _ _) (Fr.refl _ _)
theorem OD.zM {t':TypeId} {cs:List D} {z:Operand} (hw:cj ops x o true) (ho:o.op = .binOp .eql t y z t') (hd:o.dst=some tt) (hy:aG x y = .list sz cs n) (hz:aG x z = .v (.slice none 0 0)) (ht:P.underlying t=some (.slice e))
  (K:∀b:Bool,(b=true->n=0/\cs=[])->OD P C ops l (x.put tt (.v (.bool b))) Q):OD P C ops (o::l) x Q :=
 OD.gj hw (abF ho hd hy hz ht) fun y ⟨b,hb,hy⟩=>hy ▸ K b hb
theorem abG(ho:o.op = .buildSlice t 0 #[])(jY:o.dst=some tt)(E:∀w,(underlying t).run P w = .ok (.slice e) w)(hs:∀w,(sizeOf e).run P w = .ok sz w)(hne:isMap e=false:=by rfl) :
  fU P G x o [] (fun s=>∃b,s=⟨x.n,(tt,.v (.slice (some ⟨b,0,none⟩) 0 0))::x.env,⟨b,e,0*sz,[]⟩::x.S⟩):=fun C a w K Q hG h hK=>by
 unfold Oper.wp;have:(execOp a.eval o).run P w = .ok (.value (.slice (some ⟨w.heap.size,0,none⟩) 0 0)) (w.alloc (.cells #[] e)):=by
  unfold execOp;have I:Array.map (fun x=>(default:Value)) (Array.range 0) = #[]:=Array.eq_empty_of_size_eq_zero bq;simp[ho,Instr.buildSlice,E,hs,Instr.fill,newRow,I]
 rw[this,Oper.upon_value,jY];exact hK _ _ _ ⟨w.heap.size,rfl⟩ (h.new (hne:=hne) (ds:=[]) (cD.nil _ _) bq (fun L=>.v _)) (mq.alloc _ _) (Fr.alloc _ _ _)
theorem OD.zN (hw:cj ops x o true) (ho:o.op = .buildSlice t 0 #[]) (jY:o.dst=some tt) (E:∀w,(underlying t).run P w = .ok (.slice e) w) (hs:∀w,(sizeOf e).run P w = .ok sz w)
  (K:∀b,OD P C ops l ⟨x.n,(tt,.v (.slice (some ⟨b,0,none⟩) 0 0))::x.env,⟨b,e,0*sz,[]⟩::x.S⟩ Q) (hne:isMap e=false:=by rfl):OD P C ops (o::l) x Q :=
 OD.gj hw (abG (hne:=hne) ho jY E hs) fun y ⟨b,hy⟩=>hy ▸ K b
def bn(e sz:Nat)(cs:List D)(n:Nat)(ad:Option Addr)(cap:Nat)(S:List ah):Prop :=
 (n=0/\cs=[]/\ad=none/\cap=0/\S=[])\/∃b,ad=some ⟨b,0,none⟩/\n<=cap/\cap<=maxLen/\S=[⟨b,e,cap*sz,cs⟩]
theorem lU{e:Nat}{cs:List D}(h:bn e sz cs n ad cap Sq)(hl:cs.length=n*sz)(hs:∀B∈Sq,B∈S)(hne:isMap e=false:=by rfl):View S (.v (.slice ad n cap)) (.list sz cs n):=by
 rcases h with ⟨rfl,rfl,rfl,rfl,rfl⟩|⟨b,rfl,h1,h2,rfl⟩
 ·exact ze
 obtain⟨k,hk,he⟩:=mem_iff_getElem.1 (hs _ mem_cons_self);exact adk (hne:=hne) (k:=k) (by rw[getElem?_eq_getElem hk,he]) rfl rfl hl h1 h2
theorem bn.le{e:Nat}{cs:List D}(h:bn e sz cs n ad cap S):n<=cap:=by
 rcases h with ⟨rfl,_,_,rfl,_⟩|⟨_,_,h,_⟩
 ·exact Nat.le_refl _
 exact h
theorem Wk.perm{env:List (Nat×D)}{S':List ah}(hp:S.Perm S'):Wk ⟨n,env,S⟩ ⟨n,env,S'⟩:=fun C a w h=>by
 have hb:(av S).Perm (av S'):=hp.map ah.b;have hl:live C.X S=live C.X S':=(by funext b;exact propext (or_congr Iff.rfl hb.mem_iff))
 have E:=h.env;have eW:=h.own;simp only[hl] at E eW;exact⟨h.defers,h.size,E,⟨fun B hB=>eW.at_ B (hp.symm.subset hB),hb.nodup_iff.1 eW.apart⟩,
  ⟨h.fr.os,h.fr.tape,h.fr.output,h.fr.size,fun b h1 h2=>⟨(h.fr.block b h1 h2).1,fun hm=>(h.fr.block b h1 h2).2 (hb.symm.subset hm)⟩⟩,h.ex,h.eV⟩
theorem OD.perm{S':List ah}(hp:x.S.Perm S')(k:OD P C ops l ⟨x.n,x.env,S'⟩ Q):OD P C ops l x Q:=OD.wk (Wk.perm hp) k
theorem AD.perm{S':List ah}(hp:x.S.Perm S')(k:AD P C ops S1 T fuel ld ⟨x.n,x.env,S'⟩ Q):AD P C ops S1 T fuel ld x Q:=AD.Cg (Wk.perm hp) (fun b hb=>(hp.map ah.b).symm.subset hb) k
theorem CD.perm{c:Code}{S':List ah}(hp:x.S.Perm S')(k:CD P C c ⟨x.n,x.env,S'⟩ Q):CD P C c x Q:=CD.wk (Wk.perm hp) k
theorem Wk.cover{l:List (Nat×D)}{Sd:List ah}{A:ah}(hp:S.Perm ((A::R)++Sd))(U:gU Sd A.cs cs'):Wk ⟨n,l,S⟩ ⟨n,l,{A with cs:=cs'}::R⟩:=fun C a w h0=>by
 have h:=Wk.perm hp C a w h0;have hd:bI C ⟨n,l,A::R⟩ a w:=Wk.drop n l _ (A::R) (sublist_append_left _ _) C a w h;obtain⟨v1,v2⟩:=U.spec;have O:live C.X ({A with cs:=cs'}::R)=live C.X (A::R):=rfl;have hL:live C.X ((A::R)++Sd)=live (fun b=>live C.X (A::R) b) Sd:=by
  funext b;simp only[live,av,map_append,mem_append];exact propext or_assoc.symm
 have hnd:(av (A::R)++av Sd).Nodup:=(by have:=h.own.apart;simpa[av] using this)
 have Z:∀b,live C.X (A::R) b->b∉av Sd:=fun b hb hm=>by
  rcases hb with hb|hb
  ·exact h.AW b hb (by simp only[av,map_append,mem_append] at hm |-;exact .inr hm)
  exact(nodup_append.1 hnd).2.2 b hb b hm rfl
 have E:Own w (live (fun b=>live C.X (A::R) b) Sd) Sd:=⟨fun B hB=>by rw[<-hL];exact h.own.at_ B (mem_append_right _ hB),(nodup_append.1 hnd).2.1⟩
 refine⟨hd.defers,hd.size,hd.env,⟨fun B hB=>?_,hd.own.apart⟩,hd.fr,hd.ex,hd.eV⟩;rcases mem_cons.1 hB with rfl|hB
 ·obtain⟨r0,cur,r1,r2,r3,r4⟩:=h.own.at_ A (mem_append_left _ mem_cons_self);refine⟨r0,cur,r1,r2,by rw[<-v1];exact r3,fun i hi=>?_⟩;have I:i<A.cs.length:=(by rw[v1];exact hi)
  obtain⟨u,hu,hq⟩:=r4 i I;refine⟨u,hu,v2 i I hi (fun b=>live C.X (A::R) b) _ w u (fun b hb=>hb) Z E ?_⟩;rw[<-hL];exact hq
 exact hd.own.at_ B (mem_cons_of_mem _ hB)
theorem OD.cover{R Sd:List ah}{A:ah}{cs':List D}(hp:x.S.Perm ((A::R)++Sd))(E:gU Sd A.cs cs')(k:OD P C ops l ⟨x.n,x.env,{A with cs:=cs'}::R⟩ Q):OD P C ops l x Q:=OD.wk (Wk.cover hp E) k
theorem EJ(hk:S[k]?=some B)(hp:S.Perm (B::R)):(S.eraseIdx k).Perm R:=((uY hk).symm.trans hp).cons_inv
theorem OD.vJ {k t m cap sz b:Nat} {B:ah} {cs:List D} (hk:x.S[k]?=some B) (ht:V.look t x.env = .v (.slice (some ⟨b,0,none⟩) m cap)) (hb:B.b=b) (dy:B.cs=cs) (hl:cs.length=m*sz) (h1:m<=cap) (h2:cap<=maxLen)
  (K:OD P C ops l ⟨x.n,(t,.list sz cs m)::x.env,x.S.eraseIdx k⟩ Q) (hne:isMap B.e=false:=by rfl):OD P C ops l x Q:=by
 subst hb;exact OD.wk (Wk.vJ (hne:=hne) (n:=x.n) (l:=x.env) (S:=x.S) hk ht dy hl h1 h2) K
theorem AD.vJ {k t m cap sz b:Nat} {B:ah} {cs:List D} (hk:x.S[k]?=some B) (ht:V.look t x.env = .v (.slice (some ⟨b,0,none⟩) m cap)) (hb:B.b=b) (dy:B.cs=cs) (hl:cs.length=m*sz) (h1:m<=cap) (h2:cap<=maxLen)
  (K:AD P C ops S1 T fuel ld ⟨x.n,(t,.list sz cs m)::x.env,x.S.eraseIdx k⟩ Q) (hne:isMap B.e=false:=by rfl):AD P C ops S1 T fuel ld x Q:=by
 subst hb;exact AD.Cg (Wk.vJ (hne:=hne) (n:=x.n) (l:=x.env) (S:=x.S) hk ht dy hl h1 h2) (fun b hb=>(Sublist.map ah.b (eraseIdx_sublist x.S k)).subset hb) K
theorem OD.EV {s:Operand} {t e bytes m:Nat} {z:Value} {cs new:List D} (hw:cj ops x o true) (ho:o.op = .call {callee:=.builtin .append,args:=#[s,y],argTypes:=#[t,t]}) (hd:o.dst=some tt)
  (ht:P.underlying t=some (.slice e)) (hi:(P.info? e).map (fun i=>(i.zero,i.size,i.bytes))=some (some z,sz,bytes)) (fa:z.cells.size=sz) (U:0<sz)
  (hs:aG x s = .v (.slice ad n cap)) (tD:bn e sz cs n ad cap Sq) (hp:x.S.Perm (Sq++R)) (hl:cs.length=n*sz)
  (hy:aG x y = .list sz new m) (jm:∀d∈new,one d=true) (hm:0<m) (ie:n+m<=maxLen) (I:(n+m)*bytes<=140737488355328)
  (K:∀O E,n+m<=E->E<=maxLen->OD P C ops l ⟨x.n,(tt,.v (.slice (some ⟨O,0,none⟩) (n+m) E))::x.env,⟨O,e,E*sz,cs++new⟩::R⟩ Q) (hne:isMap e=false:=by rfl):OD P C ops (o::l) x Q:=by
 rcases tD with ⟨rfl,rfl,rfl,rfl,rfl⟩|⟨b,rfl,h1,h2,rfl⟩
 ·refine OD.I4 (hne:=hne) hw ho hd ht hi fa U hs hy jm hm w4 (by rw[Nat.zero_add] at I;exact I) fun O E q1 q2=>?_;have:=K O E w4 q2;rw[Nat.zero_add] at this;exact OD.wk (Wk.perm (hp.cons _)) this
 obtain⟨k,hk,he⟩:=mem_iff_getElem.1 (hp.symm.subset (mem_append_left _ mem_cons_self));have Z:x.S[k]?=some (⟨b,e,cap*sz,cs⟩:ah):=(by rw[getElem?_eq_getElem hk,he])
 refine OD.append (hne:=hne) hw ho hd ht hi fa U hs Z rfl rfl rfl hl h1 h2 hy jm hm ie I fun O E q1 q2=>?_;exact OD.wk (Wk.perm ((EJ Z hp).cons _)) (K O E q1 q2)
theorem bC.EV {s:Operand} {t e bytes m:Nat} {z:Value} {cs new:List D} (Z:ops[i]?=some o) (hw:cj ops x o true) (ho:o.op = .call {callee:=.builtin .append,args:=#[s,y],argTypes:=#[t,t]}) (hd:o.dst=some tt)
  (ht:P.underlying t=some (.slice e)) (hi:(P.info? e).map (fun i=>(i.zero,i.size,i.bytes))=some (some z,sz,bytes)) (fa:z.cells.size=sz) (jh:0<sz)
  (hs:aG x s = .v (.slice ad n cap)) (tD:bn e sz cs n ad cap Sq) (hp:x.S.Perm (Sq++R)) (hl:cs.length=n*sz)
  (hy:aG x y = .list sz new m) (jm:∀d∈new,one d=true) (hm:0<m) (ie:n+m<=maxLen) (I:(n+m)*bytes<=140737488355328) (hT:∀b∈T,b∈av R)
  (K:∀U E,n+m<=E->E<=maxLen->AD P C ops S1 T fuel (ld.setIfInBounds i true) ⟨x.n,(tt,.v (.slice (some ⟨U,0,none⟩) (n+m) E))::x.env,⟨U,e,E*sz,cs++new⟩::R⟩ Q) (hne:isMap e=false:=by rfl):bC P C ops S1 T fuel ld x Q i:=by
 rcases tD with ⟨rfl,rfl,rfl,rfl,rfl⟩|⟨b,rfl,h1,h2,rfl⟩
 ·refine bC.I4 (hne:=hne) Z hw ho hd ht hi fa jh hs hy jm hm w4 (by rw[Nat.zero_add] at I;exact I) fun U E q1 q2=>?_;have:=K U E w4 q2;rw[Nat.zero_add] at this;exact AD.Cg (Wk.perm (hp.cons _)) (fun b hb=>((hp.cons _).map ah.b).symm.subset hb) this
 obtain⟨k,hk,he⟩:=mem_iff_getElem.1 (hp.symm.subset (mem_append_left _ mem_cons_self));have O:x.S[k]?=some (⟨b,e,cap*sz,cs⟩:ah):=(by rw[getElem?_eq_getElem hk,he])
 refine bC.append (hne:=hne) Z hw ho hd ht hi fa jh hs O rfl rfl rfl hl h1 h2 hy jm hm ie I (fun b hb=>((EJ O hp).map ah.b).symm.subset (hT b hb)) fun U E q1 q2=>?_;exact AD.Cg (Wk.perm ((EJ O hp).cons _)) (fun b hb=>(((EJ O hp).cons _).map ah.b).symm.subset hb) (K U E q1 q2)
theorem OD.storeAt {o':Nat} {d:D} {z:Operand} (hw:cj ops x o true) (ho:o.op = .store t y z) (jY:o.dst=none) (hy:aG x y = .v (.pointer (some ⟨b,o',none⟩)))
  (hk:x.S[k]?=some B) (hb:B.b=b) (hz:aG x z=d) (hj:k8 d=true) (h1:(cellsOf d).all one=true) (hn:∀w,(sizeOf t).run P w = .ok n w) (gC:(cellsOf d).length=n) (hl:o'+n<=B.cs.length) (dy:dh B.cs o' (cellsOf d)=cs')
  (K:OD P C ops l ⟨x.n,x.env,x.S.set k {B with cs:=cs'}⟩ Q) (hne:isMap B.e=false:=by rfl):OD P C ops (o::l) x Q :=
 OD.gj hw (EU (hne:=hne) ho jY hy hk hb hz (fun h=>by rw[h] at hj;cases hj) h1 hn gC hl dy) fun y hy=>hy ▸ K
theorem bC.storeAt {o':Nat} {d:D} {z:Operand} (hi:ops[i]?=some o) (hw:cj ops x o true) (ho:o.op = .store t y z) (jY:o.dst=none) (hy:aG x y = .v (.pointer (some ⟨b,o',none⟩)))
  (hk:x.S[k]?=some B) (hb:B.b=b) (hz:aG x z=d) (hj:k8 d=true) (h1:(cellsOf d).all one=true) (hn:∀w,(sizeOf t).run P w = .ok n w) (gC:(cellsOf d).length=n) (hl:o'+n<=B.cs.length) (dy:dh B.cs o' (cellsOf d)=cs')
  (hT:∀b∈T,b∈av (x.S.eraseIdx k))
  (K:AD P C ops S1 T fuel (ld.setIfInBounds i true) ⟨x.n,x.env,x.S.set k {B with cs:=cs'}⟩ Q) (hne:isMap B.e=false:=by rfl):bC P C ops S1 T fuel ld x Q i :=
 bC.gj hi hw (EU (hne:=hne) ho jY hy hk hb hz (fun h=>by rw[h] at hj;cases hj) h1 hn gC hl dy) (fun C a w hs I E=>hb ▸ GK hs hk hT I E) (fun I E=>by
  have:I=b:=(by simpa using E)
  subst this;rw[<-hb];exact BQ hk) fun y hy=>hy ▸ K

end Go.Proofs.YtbplamgacibdaaaGreatDoor.V
namespace Go.Proofs.YtbplamgacibdaaaGreatDoor.V
open List
open Go.RowKit
variable {P:Program} {G:List (Nat×List Value)} {x:St} {o:Oper} {S:List ah}
variable {y:Operand} {d0:D} {k b o' n sz i j cap h' l':Nat} {t e:TypeId} {B:ah} {α:Type} {ad:Option Addr} {lo hi:Option Operand}
def R1(P:Program)(G:List (Nat×List Value))(S:List ah)(mk:Operand->Op)(d0:D)(k:Rd)(d:D):Prop:=∀x o y,o.op=mk y->aG x y=d0->x.S=S->bX P G x o k d
theorem dz{mk:Operand->Op}{d:D}{k:Rd}(ho:o.op=mk y)(hy:aG x y=d0)(H:R1 P G x.S mk d0 k d):bX P G x o k d:=H x o y ho hy rfl
def R2(P:Program)(G:List (Nat×List Value))(S:List ah)(mk:Operand->Operand->Op)(d0 d1:D)(k:Rd)(d:D):Prop:=∀x o y z,o.op=mk y z->aG x y=d0->aG x z=d1->x.S=S->bX P G x o k d
theorem nV{mk:Operand->Operand->Op}{z:Operand}{d1 d:D}{k:Rd}(ho:o.op=mk y z)(hy:aG x y=d0)(hz:aG x z=d1)(H:R2 P G x.S mk d0 d1 k d):bX P G x o k d:=H x o y z ho hy hz rfl
theorem zA{t:Nat}{d:D}(hk:S[k]?=some B)(hb:B.b=b)(ha:∀w,(isAgg t).run P w = .ok false w)(hd:B.cs[o']?=some d)(hne:isMap B.e=false:=by rfl):R1 P G S (Op.load t) (.v (.pointer (some ⟨b,o',none⟩))) (.fJ k) d:=fun x o y ho hy hS=>EF (hne:=hne) ho hy (hS ▸ hk) hb ha hd
theorem qD{t:Nat}{ds:List D}(hk:S[k]?=some B)(hb:B.b=b)(ha:∀w,(isAgg t).run P w = .ok true w)(hn:∀w,(sizeOf t).run P w = .ok n w)(hl:ds.length=n)(hd:(B.cs.drop o').take n=ds)(hne:isMap B.e=false:=by rfl):R1 P G S (Op.load t) (.v (.pointer (some ⟨b,o',none⟩))) (.fJ k) (.agg ds):=fun x o y ho hy hS=>Bi (hne:=hne) ho hy (hS ▸ hk) hb ha hn hl hd
theorem CG{t:Nat}{cs:List D}{d:D}(ha:∀w,(isAgg t).run P w = .ok false w)(hd:cs[o']?=some d):R1 P G S (Op.load t) (.fL cs o') .kC d:=fun x o y ho hy _=>EE ho hy ha hd
theorem qG{t:Nat}{cs ds:List D}(ha:∀w,(isAgg t).run P w = .ok true w)(hn:∀w,(sizeOf t).run P w = .ok n w)(hl:ds.length=n)(hd:(cs.drop o').take n=ds):R1 P G S (Op.load t) (.fL cs o') .kC (.agg ds):=fun x o y ho hy _=>Iy ho hy ha hn hl hd
theorem vv{g:α->List D}{t:Nat}{ls:List α}{d:D}(hg:∀a,(g a).length=sz)(ha:∀w,(isAgg t).run P w = .ok false w)(hi:i<ls.length)(hd:(g ls[i])[j]?=some d):R1 P G S (Op.load t) (.fL (ls.flatMap g) (i*sz+j)) .kC d:=CG ha (zo hg hi hd)
theorem ry{g:α->List D}{t:Nat}{ls:List α}{d:D}(hg:∀a,(g a).length=sz)(ha:∀w,(isAgg t).run P w = .ok false w)(hi:i<ls.length)(hd:(g ls[i])[0]?=some d):R1 P G S (Op.load t) (.fL (ls.flatMap g) (i*sz)) .kC d:=CG ha (JA hg hi hd)
theorem kH{g:α->List D}{t:Nat}{ls:List α}(hg:∀a,(g a).length=sz)(ha:∀w,(isAgg t).run P w = .ok true w)(hn:∀w,(sizeOf t).run P w = .ok sz w)(hi:i<ls.length):R1 P G S (Op.load t) (.fL (ls.flatMap g) (i*sz)) .kC (.agg (g ls[i])):=qG ha hn (hg _) (Ge hg hi)
theorem agF{t:Nat}{vs:List Value}{v:Value}(hg:(b,vs)∈G)(ha:∀w,(isAgg t).run P w = .ok false w)(hd:vs[o']?=some v)(qS:ru v=true:=by rfl):R1 P G S (Op.load t) (.v (.pointer (some ⟨b,o',none⟩))) .kC (.v v):=fun x o y ho hy _=>aar ho hy hg ha hd qS
theorem lG{g:α->List D}{t:Nat}{ls:List α}{d:D}(hg:∀a,(g a).length=sz)(hk:S[k]?=some B)(hb:B.b=b)(dy:B.cs=ls.flatMap g)(ha:∀w,(isAgg t).run P w = .ok false w)(hi:i<ls.length)(hd:(g ls[i])[j]?=some d)(hne:isMap B.e=false:=by rfl):R1 P G S (Op.load t) (.v (.pointer (some ⟨b,0+i*sz+j,none⟩))) (.fJ k) d :=
 zA (hne:=hne) hk hb ha (by rw[dy,Nat.zero_add];exact zo hg hi hd)
theorem jj{g:α->List D}{t:Nat}{ls:List α}{d:D}(hg:∀a,(g a).length=sz)(hk:S[k]?=some B)(hb:B.b=b)(dy:B.cs=ls.flatMap g)(ha:∀w,(isAgg t).run P w = .ok false w)(hi:i<ls.length)(hd:(g ls[i])[0]?=some d)(hne:isMap B.e=false:=by rfl):R1 P G S (Op.load t) (.v (.pointer (some ⟨b,0+i*sz,none⟩))) (.fJ k) d :=
 zA (hne:=hne) hk hb ha (by rw[dy,Nat.zero_add];exact JA hg hi hd)
theorem dJ{g:α->List D}{t:Nat}{ls:List α}(hg:∀a,(g a).length=sz)(hk:S[k]?=some B)(hb:B.b=b)(dy:B.cs=ls.flatMap g)(ha:∀w,(isAgg t).run P w = .ok true w)(hn:∀w,(sizeOf t).run P w = .ok sz w)(hi:i<ls.length)(hne:isMap B.e=false:=by rfl):R1 P G S (Op.load t) (.v (.pointer (some ⟨b,0+i*sz,none⟩))) (.fJ k) (.agg (g ls[i])) :=
 qD (hne:=hne) hk hb ha hn (hg _) (by rw[dy,Nat.zero_add];exact Ge hg hi)
theorem TX{len:Nat}{ts:Array TypeId}(ht:ts = #[t])(E:∀w,(underlying t).run P w = .ok (.slice e) w):R1 P G S (fun y=>.call {callee:=.builtin .len,args:=#[y],argTypes:=ts}) (.v (.slice ad len cap)) .none (.v (.int .i64 len)):=fun x o y ho hy _=>Qa ho ht hy E
theorem oF{len:Nat}{cs:List D}{k:IntKind}{i:Int}(E:∀w,(underlying t).run P w = .ok (.slice e) w)(hs:∀w,(sizeOf e).run P w = .ok sz w)(hi:i=j)(hj:j<len):R2 P G S (Op.indexAddr t) (.list sz cs len) (.v (.int k i)) .none (.fL cs (j*sz)):=fun x o y z ho hy hz _=>QA ho hy hz E hs hi hj
theorem oI{len:Nat}{k:IntKind}{i:Int}(E:∀w,(underlying t).run P w = .ok (.slice e) w)(hs:∀w,(sizeOf e).run P w = .ok sz w)(hi:i=j)(hj:j<len):R2 P G S (Op.indexAddr t) (.v (.slice (some ⟨b,o',none⟩) len cap)) (.v (.int k i)) .none (.v (.pointer (some ⟨b,o'+j*sz,none⟩))):=fun x o y z ho hy hz _=>P9 ho hy hz E hs hi hj
theorem Vg{len:Nat}{k:IntKind}{i:Int}(E:∀w,(underlying t).run P w = .ok (.array len e) w)(hs:∀w,(sizeOf e).run P w = .ok sz w)(hi:i=j)(hj:j<len):R2 P G S (Op.indexAddr t) (.v (.pointer (some ⟨b,o',none⟩))) (.v (.int k i)) .none (.v (.pointer (some ⟨b,o'+j*sz,none⟩))):=fun x o y z ho hy hz _=>aaQ ho hy hz E hs hi hj
def Bd(x:St)(y:Option Operand)(n:Nat):Prop:=match y with|some y=>∃(k:IntKind),aG x y = .v (.int k n)|none=>True
def Rs(P:Program)(G:List (Nat×List Value))(t:TypeId)(lo hi:Option Operand)(l h:Nat)(d0:D)(d:D):Prop:=∀x o y,o.op = .slice t y lo hi none->aG x y=d0->Bd x lo l->Bd x hi h->bX P G x o .none d
theorem eE{l h:Nat}{d:D}(ho:o.op = .slice t y lo hi none)(hy:aG x y=d0)(hl:Bd x lo l)(E:Bd x hi h)(H:Rs P G t lo hi l h d0 d):bX P G x o .none d:=H x o y ho hy hl E
theorem rj{y:Option Operand}{df:Nat}(h:Bd x y n)(hd:y=none->n=df):mY x y n df:=by
 cases y with
 | none=>exact hd rfl
 | some y=>obtain⟨k,hk⟩:=h;exact⟨k,_,hk,rfl⟩
theorem nx {g:α->List D} (hg:∀a,(g a).length=sz) {ls:List α} (eL:hi=none->h'=ls.length)
  (E:∀w,(underlying t).run P w = .ok (.slice e) w) (hs:∀w,(sizeOf e).run P w = .ok sz w) (h2:h'<=ls.length):Rs P G t lo hi 0 h' (.list sz (ls.flatMap g) ls.length) (.list sz ((ls.take h').flatMap g) (ls.take h').length):=fun x o y ho hy hl I =>
 aav hg ho hy (rj hl fun _=>rfl) (rj I eL) E hs h2
theorem vf {g:α->List D} {ls:List α} (E:h'=ls.length) (hg:∀a,(g a).length=sz) (e9:lo=none->l'=0)
  (I:∀w,(underlying t).run P w = .ok (.slice e) w) (hs:∀w,(sizeOf e).run P w = .ok sz w) (h2:l'<=ls.length):Rs P G t lo none l' h' (.list sz (ls.flatMap g) ls.length) (.list sz ((ls.drop l').flatMap g) (ls.drop l').length):=fun x o y ho hy hl O=>by
 subst E;exact aaw hg ho hy (rj hl e9) rfl I hs h2
theorem mz {len:Nat} {cs:List D} (e9:lo=none->l'=0) (eL:hi=none->h'=len)
  (E:∀w,(underlying t).run P w = .ok (.slice e) w) (hs:∀w,(sizeOf e).run P w = .ok sz w) (h1:l'<=h') (h2:h'<=len):Rs P G t lo hi l' h' (.list sz cs len) (.list sz ((cs.drop (l'*sz)).take ((h'-l')*sz)) (h'-l')):=fun x o y ho hy hl I =>
 IA ho hy (rj hl e9) (rj I eL) E hs h1 h2
theorem mW {len:Nat} (eL:hi=none->h'=len)
  (E:∀w,(underlying t).run P w = .ok (.slice e) w) (hs:∀w,(sizeOf e).run P w = .ok sz w) (h2:h'<=cap):Rs P G t lo hi 0 h' (.v (.slice (some ⟨b,o',none⟩) len cap)) (.v (.slice (some ⟨b,o',none⟩) h' cap)):=fun x o y ho hy hl I =>
 PP ho hy (rj hl fun _=>rfl) (rj I eL) E hs h2
theorem agG {s:ByteArray} (e9:lo=none->l'=0) (eL:hi=none->h'=s.size)
  (E:∀w,(underlying t).run P w = .ok .string w) (h1:l'<=h') (h2:h'<=s.size):Rs P G t lo hi l' h' (.v (.string s)) (.v (.string (s.extract l' h'))):=fun x o y ho hy hl I =>
 aaf ho hy (rj hl e9) (rj I eL) E h1 h2
theorem OD.eG {C:dG} {Q:Exit->St->Prop} {ops:Array Oper} {l:List Oper} {g:α->List D} {ls new:List α} {s:Operand} {t e tt bytes:Nat} {z:Value} {Sq R:List ah} (hg:∀a,(g a).length=sz) (hg1:∀a,(g a).all one=true) (hw:cj ops x o true) (ho:o.op = .call {callee:=.builtin .append,args:=#[s,y],argTypes:=#[t,t]}) (hd:o.dst=some tt)
  (ht:P.underlying t=some (.slice e)) (hi:(P.info? e).map (fun i=>(i.zero,i.size,i.bytes))=some (some z,sz,bytes)) (fa:z.cells.size=sz) (U:0<sz)
  (hs:aG x s = .v (.slice ad ls.length cap)) (Z:bn e sz (ls.flatMap g) ls.length ad cap Sq) (hp:x.S.Perm (Sq++R))
  (hy:aG x y = .list sz (new.flatMap g) new.length) (hm:0<new.length) (ie:ls.length+new.length<=maxLen) (I:(ls.length+new.length)*bytes<=140737488355328)
  (K:∀O E,(ls++new).length<=E->E<=maxLen->OD P C ops l ⟨x.n,(tt,.v (.slice (some ⟨O,0,none⟩) (ls++new).length E))::x.env,⟨O,e,E*sz,(ls++new).flatMap g⟩::R⟩ Q) (hne:isMap e=false:=by rfl):OD P C ops (o::l) x Q :=
 OD.EV (hne:=hne) hw ho hd ht hi fa U hs Z hp (cm hg ls) hy (sF hg1 new) hm ie I fun O E h1 h2=>by
  have:=K O E (by rw[length_append];exact h1) h2;rw[length_append,flatMap_append] at this;exact this
theorem Wk.shrink{l:List (Nat×D)}{S:List ah}{cs':List D}(hk:S[k]?=some B)(hp:cs' <+: B.cs):Wk ⟨n,l,S⟩ ⟨n,l,S.set k {B with cs:=cs'}⟩:=fun C a w h=>by
 have eo:=(List.getElem?_eq_some_iff.1 hk).1;have U:=(List.getElem?_eq_some_iff.1 hk).2;have E:av (S.set k {B with cs:=cs'})=av S:=by
  unfold av;rw[map_set];apply ext_getElem bq;intro i q1 q2;rw[getElem_set];split
  ·rename_i e;subst e;simp[U]
  rfl
 have I:live C.X (S.set k {B with cs:=cs'})=live C.X S:=(by funext b;simp only[live,E])
 refine⟨h.defers,h.size,fun t ht=>?_,⟨fun B' Z=>?_,?_⟩,?_,h.ex,h.eV⟩
 ·simp only[I];exact h.env t ht
 ·simp only[I];obtain⟨j,hj,O⟩:=mem_iff_getElem.1 Z;rw[length_set] at hj;rw[getElem_set] at O;by_cases e:k=j
  ·rw[if_pos e] at O;subst O;obtain⟨r0,cur,r1,r2,r3,r4⟩:=h.own.at_ B (mem_of_getElem? hk);refine⟨r0,cur,r1,r2,Nat.le_trans hp.length_le r3,fun i hi=>?_⟩;obtain⟨u,hu,hq⟩:=r4 i (Nat.lt_of_lt_of_le hi hp.length_le);refine⟨u,hu,?_⟩;have:cs'[i]=B.cs[i]'(Nat.lt_of_lt_of_le hi hp.length_le):=IsPrefix.getElem hp hi;simp only[this];exact hq
  rw[if_neg e] at O;subst O;exact h.own.at_ _ (getElem_mem hj)
 ·simp only[E];exact h.own.apart
 simp only[E];exact h.fr
theorem OD.shrink{C:dG}{Q:Exit->St->Prop}{ops:Array Oper}{l:List Oper}{k:Nat}{B:ah}{cs':List D}(hk:x.S[k]?=some B)(hp:cs' <+: B.cs)(K:OD P C ops l ⟨x.n,x.env,x.S.set k {B with cs:=cs'}⟩ Q):OD P C ops l x Q:=OD.wk (Wk.shrink hk hp) K

end Go.Proofs.YtbplamgacibdaaaGreatDoor.V
namespace Go.Proofs.YtbplamgacibdaaaGreatDoor.V
open List
open Go.RowKit
variable {P:Program} {C:dG} {G:List (Nat×List Value)} {Q:Exit->St->Prop} {x:St} {ops:Array Oper} {l:List Oper} {o:Oper} {n:Nat} {e:List (Nat×D)} {S:List ah}
variable {t i:Nat} {b:Bool} {y c:Operand} {d':D} {kd:Rd} {l':List (Nat×D)} {p:Prop} {post:D->List ah->Prop}
def qV(P:Program)(t n:Nat):Bool:=match P.info? t with|some i=>Nat.beq i.size n|none=>false
theorem lZ{n:Nat}(h:qV P t n=true):∀w,(sizeOf t).run P w = .ok n w:=by
 unfold qV at h;cases hi:P.info? t with
 | none=>rw[hi] at h;cases h
 | some i =>
  rw[hi] at h;intro w;have:=run_sizeOf (P:=P) w hi;rw[this];simp only[Program.cellsOf,hi,Option.map_some,Option.getD_some,Nat.eq_of_beq_eq_true h]
def qW(P:Program)(t:Nat)(b:Bool):Bool:=match P.underlying t with
 | some (.struct _)=>b
 | some (.array _ _)=>b
 | some _=>!b
 | none=>false
theorem iU(h:qW P t b=true):∀w,(isAgg t).run P w = .ok b w:=by
 unfold qW at h;intro w;cases hu:P.underlying t with
 | none=>rw[hu] at h;cases h
 | some d =>
  rw[hu] at h;have hr:=run_underlying hu w;unfold isAgg;rw[Sem.run_bind,hr];cases d<;>simp only at h<;>first|(subst h;rfl)|(cases b;rfl;cases h)
def AZ(P:Program)(s i off:Nat):Bool:=match P.underlying s with
 | some (.struct fs)=>match fs[i]? with
  | some f=>Nat.beq f.offset off&&(match P.info? f.type with|some j=>Nat.ble 1 j.size|none=>false)
  | none=>false
 | _=>false
theorem VZ{s off:Nat}(h:AZ P s i off=true):∃E f m,(∀w,(underlying s).run P w = .ok (.struct E) w)/\E[i]?=some f/\(∀w,(sizeOf f.type).run P w = .ok (m+1) w)/\f.offset=off:=by
 unfold AZ at h;split at h
 ·rename_i E I;split at h
  ·rename_i f hf;rw[Bool.and_eq_true] at h;obtain⟨h1,h2⟩:=h;split at h2
   ·rename_i j hj;have hle:=Nat.le_of_ble_eq_true h2;refine⟨E,f,j.size-1,run_underlying I,hf,fun w=>?_,Nat.eq_of_beq_eq_true h1⟩;have:=run_sizeOf (P:=P) w hj;rw[this];simp only[Program.cellsOf,hj,Option.map_some,Option.getD_some];congr 1;omega
   cases h2
  cases h
 cases h
def Dv(P:Program)(t sz:Nat):Bool:=match P.underlying t with
 | some (.slice e)=>qV P e sz
 | _=>false
theorem ah1{sz:Nat}(h:Dv P t sz=true):∃e,(∀w,(underlying t).run P w = .ok (.slice e) w)/\∀w,(sizeOf e).run P w = .ok sz w:=by
 unfold Dv at h;split at h
 ·rename_i e E;exact⟨e,run_underlying E,lZ h⟩
 cases h
def N9(P:Program)(t:Nat):Bool:=match P.underlying t with
 | some (.slice _)=>true
 | _=>false
theorem agH(h:N9 P t=true):∃e,∀w,(underlying t).run P w = .ok (.slice e) w:=by
 unfold N9 at h;split at h
 ·rename_i e E;exact⟨e,run_underlying E⟩
 cases h
theorem bD{z:Operand}{d:D}(ho:o.op = .move z\/o.op = .assign z:=by first|exact .inl rfl|exact .inr rfl)(hz:aG x z=d:=by first|exact ot|exact bV|exact tW|exact wT):bX P G x o .none d:=by
 rcases ho with h|h
 ·exact adi h hz
 exact adj h hz
inductive FA (off:Nat):D->D->Prop
 | p {b o':Nat}:FA off (.v (.pointer (some ⟨b,o',none⟩))) (.v (.pointer (some ⟨b,o'+off,none⟩)))
 | i {cs:List D} {o':Nat}:FA off (.fL cs o') (.fL cs (o'+off))
theorem dQ(off:Nat){s:TypeId}{d:D}(ho:o.op = .fieldAddr s y i:=by exact rfl)(hy:aG x y=d:=by first|exact ot|exact wT)(hc:AZ P s i off=true:=by kernel_rfl)(h:FA off d d':=by first|exact .p|exact .i):bX P G x o .none d':=by
 obtain⟨fs,f,m,h1,h2,h3,h4⟩:=VZ hc;cases h with
 | p=>exact aaq ho hy h1 h2 h3 h4
 | i=>exact aae ho hy h1 h2 h3 h4
theorem qg{d:D}(ho:o.op = .nilCheck y:=by exact rfl)(hy:aG x y=d:=by exact ot)(h:FA 0 d d:=by first|exact .p|exact .i):bX P G x o .none d:=by
 cases h with
 | p=>exact ZX ho hy
 | i=>exact ZW ho hy
theorem Oa{cs:List D}{d:D}(ho:o.op = .extract y i:=by exact rfl)(hy:aG x y = .da cs:=by exact ot)(hd:cs[i]?=some d:=by exact rfl):bX P G x o .none d:=Z4 ho hy hd
inductive LD (S:List ah):D->Rd->D->Prop
 | b (k:Nat) {b o':Nat} {B:ah} {d:D} (hk:S[k]?=some B) (hb:B.b=b) (hd:B.cs[o']?=some d) (hne:isMap B.e=false):LD S (.v (.pointer (some ⟨b,o',none⟩))) (.fJ k) d
 | m {α:Type} {g:α->List D} {sz i j:Nat} {ls:List α} {d:D} (hg:∀a,(g a).length=sz) (hi:i<ls.length) (hd:(g ls[i])[j]?=some d):LD S (.fL (ls.flatMap g) (i*sz+j)) .kC d
 | m0 {α:Type} {g:α->List D} {sz i:Nat} {ls:List α} {d:D} (hg:∀a,(g a).length=sz) (hi:i<ls.length) (hd:(g ls[i])[0]?=some d):LD S (.fL (ls.flatMap g) (i*sz)) .kC d
 | r (k:Nat) {α:Type} {g:α->List D} {b sz i j:Nat} {B:ah} {ls:List α} {d:D} (hg:∀a,(g a).length=sz) (hk:S[k]?=some B) (hb:B.b=b) (dy:B.cs=ls.flatMap g) (hi:i<ls.length) (hd:(g ls[i])[j]?=some d) (hne:isMap B.e=false):LD S (.v (.pointer (some ⟨b,0+i*sz+j,none⟩))) (.fJ k) d
 | r0 (k:Nat) {α:Type} {g:α->List D} {b sz i:Nat} {B:ah} {ls:List α} {d:D} (hg:∀a,(g a).length=sz) (hk:S[k]?=some B) (hb:B.b=b) (dy:B.cs=ls.flatMap g) (hi:i<ls.length) (hd:(g ls[i])[0]?=some d) (hne:isMap B.e=false):LD S (.v (.pointer (some ⟨b,0+i*sz,none⟩))) (.fJ k) d
 | i {o':Nat} {cs:List D} {d:D} (hd:cs[o']?=some d):LD S (.fL cs o') .kC d
theorem LD.still{t:TypeId}{d0 d:D}(h:LD x.S d0 kd d)(ho:o.op = .load t y)(hy:aG x y=d0)(ha:∀w,(isAgg t).run P w = .ok false w):bX P G x o kd d:=by
 cases h with
 | b k hk hb hd hne=>exact EF (hne:=hne) ho hy hk hb ha hd
 | m hg hi hd=>exact EE ho hy ha (zo hg hi hd)
 | m0 hg hi hd=>exact EE ho hy ha (JA hg hi hd)
 | r k hg hk hb dy hi hd hne=>exact lG (hne:=hne) hg hk hb dy ha hi hd x o y ho hy rfl
 | r0 k hg hk hb dy hi hd hne=>exact jj (hne:=hne) hg hk hb dy ha hi hd x o y ho hy rfl
 | i hd=>exact EE ho hy ha hd
theorem fN {t:TypeId} {d0 d:D} (ho:o.op = .load t y:=by exact rfl) (hy:aG x y=d0:=by exact ot) (ha:qW P t false=true:=by kernel_rfl)
  (h:LD x.S d0 kd d:=by first|exact .m Ab w5 rfl|exact .m0 Ab w5 rfl|exact .b 0 rfl rfl rfl rfl|exact .b 1 rfl rfl rfl rfl|exact .b 2 rfl rfl rfl rfl|exact .b 3 rfl rfl rfl rfl|exact .b 4 rfl rfl rfl rfl|exact .i rfl|exact .r 0 Ab rfl rfl rfl w5 rfl rfl|exact .r0 0 Ab rfl rfl rfl w5 rfl rfl|exact .r 1 Ab rfl rfl rfl w5 rfl rfl|exact .r0 1 Ab rfl rfl rfl w5 rfl rfl):bX P G x o kd d:=h.still ho hy (iU ha)
theorem dS(k:Nat){b o':Nat}{B:ah}{d:D}(ho:o.op = .load t y:=by exact rfl)(hy:aG x y = .v (.pointer (some ⟨b,o',none⟩)):=by exact ot)(hk:x.S[k]?=some B:=by exact rfl)(hb:B.b=b:=by exact rfl)(ha:qW P t false=true:=by kernel_rfl)(hd:B.cs[o']?=some d:=by exact rfl)(hne:isMap B.e=false:=by exact rfl):bX P G x o (.fJ k) d:=EF (hne:=hne) ho hy hk hb (iU ha) hd
theorem GD(k:Nat)(ds:List D){b o':Nat}{B:ah}(ho:o.op = .load t y:=by exact rfl)(hy:aG x y = .v (.pointer (some ⟨b,o',none⟩)):=by exact ot)(ha:qW P t true=true:=by kernel_rfl)(hk:x.S[k]?=some B:=by exact rfl)(hb:B.b=b:=by exact rfl)(hd:(B.cs.drop o').take ds.length=ds:=by exact rfl)(hne:isMap B.e=false:=by exact rfl)(hn:qV P t ds.length=true:=by kernel_rfl):bX P G x o (.fJ k) (.agg ds):=Bi (hne:=hne) ho hy hk hb (iU ha) (lZ hn) rfl hd
inductive IX (sz:Nat) (i:Int):D->D->Prop
 | l {cs:List D} {len j:Nat} (hi:i=j) (hj:j<len):IX sz i (.list sz cs len) (.fL cs (j*sz))
 | r {b o' len cap j:Nat} (hi:i=j) (hj:j<len):IX sz i (.v (.slice (some ⟨b,o',none⟩) len cap)) (.v (.pointer (some ⟨b,o'+j*sz,none⟩)))
theorem dL (sz:Nat) {t:TypeId} {z:Operand} {k:IntKind} {i:Int} {d:D} (ho:o.op = .indexAddr t y z:=by exact rfl) (hy:aG x y=d:=by exact ot) (hz:aG x z = .v (.int k i):=by first|exact ot|exact bV) (hs:Dv P t sz=true:=by kernel_rfl)
  (h:IX sz i d d':=by first|exact .l rfl w5|exact .r rfl w5|exact .l (Int.toNat_of_nonneg w4).symm w4|exact .r (Int.toNat_of_nonneg w4).symm w4):bX P G x o .none d':=by
 obtain⟨e,h1,h2⟩:=ah1 hs;cases h with
 | l hi hj=>exact QA ho hy hz h1 h2 hi hj
 | r hi hj=>exact P9 ho hy hz h1 h2 hi hj
theorem yu{t:TypeId}{d:D}{m:Nat}{ts:Array TypeId}(ho:o.op = .call {callee:=.builtin .len,args:=#[y],argTypes:=ts}:=by exact rfl)(ht:ts = #[t]:=by exact rfl)(hy:aG x y=d:=by exact ot)(hs:N9 P t=true:=by kernel_rfl)(h:(∃sz cs,d = .list sz cs m)\/∃ad cap,d = .v (.slice ad m cap):=by first|exact .inl ⟨_,_,rfl⟩|exact .inr ⟨_,_,rfl⟩):bX P G x o .none (.v (.int .i64 m)):=by
 obtain⟨e,he⟩:=agH hs;rcases h with ⟨sz,cs,rfl⟩|⟨ad,cap,rfl⟩
 ·exact abC ho ht hy he
 exact Qa ho ht hy he
theorem qn {op:BinOp} {t t':TypeId} {z:Operand} {u u' r:Value} (ho:o.op = .binOp op t y z t':=by exact rfl) (hy:aG x y = .v u:=by first|exact ot|exact bV) (hz:aG x z = .v u':=by first|exact ot|exact bV)
  (hb:kZ P op t u u' r:=by first|exact TU|exact TQ|exact kN (wrap_i64 w4 w4)|exact iI (wrap_i64 w4 w4)|exact TV|exact TS|exact TR|exact TT|exact Kc (wrap_i64 w4 w4)|exact RN|exact RO|exact adm|exact adn|exact adp|exact adq|exact Kf w4):bX P G x o .none (.v r):=dR ho hy hz hb
theorem lD{t:TypeId}(ho:o.op = .unOp .not t y:=by exact rfl)(hy:aG x y = .v (.bool b):=by exact ot):bX P G x o .none (.v (.bool !b)):=Fe ho hy agD
theorem xV{z:Operand}{d:D}(ho:o.op = .pick c y z:=by exact rfl)(hc:aG x c = .v (.bool b):=by exact ot)(h:b=true:=by first|rfl|assumption)(hd:aG x y=d:=by first|exact ot|exact bV):bX P G x o .none d:=aat ho hc h hd
theorem vF{z:Operand}{d:D}(ho:o.op = .pick c y z:=by exact rfl)(hc:aG x c = .v (.bool b):=by exact ot)(h:b=false:=by first|rfl|assumption)(hd:aG x z=d:=by first|exact ot|exact bV):bX P G x o .none d:=aau ho hc h hd
theorem bN{d:D}(h:bX P C.G ⟨n,e,S⟩ o kd d)(K:OD P C ops l ⟨n,(t,d)::e,S⟩ Q)(hw:cj ops ⟨n,e,S⟩ o true:=by first|exact sb rfl|exact uh rfl rfl rfl lk jJ)(hd:o.dst=some t:=by exact rfl):OD P C ops (o::l) ⟨n,e,S⟩ Q:=OD.still hw hd h K
theorem Dw(K:OD P C ops l ⟨n,(t,.v (.tuple #[]))::e,S⟩ Q)(hw:cj ops ⟨n,e,S⟩ o false:=by exact mT rfl rfl rfl lk jJ)(hd:o.dst=some t:=by exact rfl):OD P C ops (o::l) ⟨n,e,S⟩ Q:=OD.skip hw hd K
inductive fH:List Nat->List (Nat×D)->List (Nat×D)->Prop
 | nil {e:List (Nat×D)}:fH [] e []
 | cons {t:Nat} {ts:List Nat} {d:D} {e l':List (Nat×D)} (h:look t e=d) (k:fH ts e l'):fH (t::ts) e ((t,d)::l')
theorem fH.kO{ts:List Nat}{e:List (Nat×D)}(h:fH ts e l'):nZ e l':=by
 induction h with
 | nil=>trivial
 | cons h _ ih=>exact⟨h,ih⟩
theorem YJ(ts:List Nat)(K:Q .normal ⟨n,l',S⟩)(h:fH ts e l':=by repeat (first|exact fH.nil|(apply fH.cons;focus exact lk))):OD P C ops [] ⟨n,e,S⟩ Q:=OD.wk (Wk.ee rfl rfl h.kO) (OD.nil K)
def isR:Code->Bool
 | .region ..=>true
 | _=>false
theorem sN_{c d:Code}(K:CD P C c x (CF P C d Q))(h:isR c=false:=by exact rfl):CD P C (.seq c d) x Q:=CD.seq K
theorem nS{q:Prop}(h:q->p:=by intro k;(repeat (first|refine sN_ ?_|refine CD.skip ?_|refine CD.block ?_|refine CD.exit ?_|refine CD.ret ?_|fail));exact k):q->p:=h
theorem eZ{fn:Func}{ex:Exit}{d:D}(hp:post d [])(h0:Body P fn post ex ⟨n,e,S⟩->p:=by exact nS)(he:ex = .normal\/ex = .ret:=by first|exact .inr rfl|exact .inl rfl)(hr:fn.results = #[.tmp t]:=by exact rfl)(ht:Nat.blt t n=true:=by exact rfl)(hd:look t e=d:=by exact lk):p :=
 h0 ⟨he,d,[],nil_sublist _,TO hr (zn (Nat.le_of_ble_eq_true ht) hd),hp⟩
theorem N4{fn:Func}{ex:Exit}{t':Nat}{d:D}(hp:post (.da [d,d']) [])(h0:Body P fn post ex ⟨n,e,S⟩->p:=by exact nS)(he:ex = .normal\/ex = .ret:=by first|exact .inr rfl|exact .inl rfl)(hr:fn.results = #[.tmp t,.tmp t']:=by exact rfl)(ht:Nat.blt t n=true:=by exact rfl)(AY:Nat.blt t' n=true:=by exact rfl)(hd:look t e=d:=by exact lk)(hd':look t' e=d':=by exact lk):p :=
 h0 ⟨he,_,[],nil_sublist _,Ka hr (zn (Nat.le_of_ble_eq_true ht) hd) (zn (Nat.le_of_ble_eq_true AY) hd'),hp⟩
theorem bS{id:Nat}{r:List Oper}{d:Code}(h:OD P C r.toArray r x (CF P C d Q))(h0:CD P C (.seq (.region id r.toArray false) d) x Q->p:=by exact nS):p:=h0 (CD.seq (CD.region h))
theorem tE{id:Nat}{r:List Oper}(h:OD P C r.toArray r x Q)(h0:CD P C (.region id r.toArray false) x Q->p:=by exact nS):p:=h0 (CD.region h)
theorem eO{d e:Code}(ht:CD P C d x Q)(h0:CD P C (.cond c d e) x Q->p:=by exact nS)(hc:aG x c = .v (.bool b):=by exact ot)(hb:b=true:=by first|rfl|assumption):p:=h0 (CD.ah0 hc hb ht)
theorem gm{d e:Code}(ht:CD P C e x Q)(h0:CD P C (.cond c d e) x Q->p:=by exact nS)(hc:aG x c = .v (.bool b):=by exact ot)(hb:b=false:=by first|rfl|assumption):p:=h0 (CD.LG hc hb ht)

end Go.Proofs.YtbplamgacibdaaaGreatDoor.V
namespace Go.Proofs.YtbplamgacibdaaaGreatDoor.Tab
open List
open Go.RowKit Go.ChangeShapes
variable {α:Type}
theorem chunks{α:Type}{g:α->List Value}{c:Nat}:∀(E:List α) (cs:List Value),cs.length=E.length*c->(∀i (h:i<E.length),(cs.drop (i*c)).take c=g E[i])->cs=E.flatMap g
 | [],cs,hl,_=>by
  have:cs=[]:=length_eq_zero_iff.1 uI;simp[this]
 | r::E,cs,hl,h=>by
  have h0:cs.take c=g r:=by
   have h1:=h 0 bq;simp only[Nat.zero_mul,drop_zero] at h1;exact h1
  have ih:=chunks (c:=c) E (cs.drop c) (by rw[length_drop,hl,length_cons,Nat.add_mul];omega) (fun i hi=>by
   have h1:=h (i+1) (by simpa using hi);rw[drop_drop,show c+i*c=(i+1)*c from by rw[Nat.add_mul];omega];exact h1)
  rw[flatMap_cons,<-h0,<-ih,take_append_drop]
variable {H:Type} {enc:TypeId×Value->H} {P:Program} {w:World} {base:Nat} {sp:Nat->Bool} {held:Bool}
def Reads(enc:TypeId×Value->H)(P:Program)(w:World)(base:Nat)(sp:Nat->Bool)(held:Bool)(e:TypeId)(f:α->DataW H)(g:α->List Value):Prop :=
 ∀(fuel:Nat) (cs:List Value) (x:DataW H×List MemPlace),DataW.trod enc P w base sp held fuel e cs=some x->∀r,x.1=f r->cs=g r
theorem reads_string{e:TypeId}(he:P.underlying e=some .string):Reads enc P w base sp held e (fun b:List UInt8=>.lit (.string b)) (fun b=>[.string ⟨b.toArray⟩]):=by
 intro fuel cs x h r hr;obtain⟨s,rfl,rfl,_⟩:=DataW.trod_string he h;simp at hr;obtain⟨⟨s⟩⟩:=s;simp at hr;rw[<-hr]
theorem reads_arr {f:α->DataW H} {g:α->List Value} {t e:TypeId} {n:Nat} (ht:P.underlying t=some (.array n e)) (I:P.cellsOf t=n*P.cellsOf e)
  (fX:Reads enc P w base sp held e f g):Reads enc P w base sp held t (fun E:List α=>.agg (E.map f)) (fun E=>E.flatMap g):=by
 intro fuel cs x h E hr;obtain⟨xs,m,_,rfl,hl,hn,hi⟩:=DataW.trod_array ht h;simp only[DataW.agg.injEq] at hr;have gN:E.length=n:=(by have:=congrArg length hr;simp at this;omega)
 refine chunks E cs (by rw[hl,I,gN]) fun i O=>?_;have h1:=hi i w4;rw[getElem?_eq_getElem w4] at h1;refine fX m _ _ h1 _ ?_;have:=congrArg (fun l=>l[i]?) hr;simpa[getElem?_eq_getElem O,getElem?_eq_getElem (show i<xs.length by omega)] using this
theorem var_cells {f:α->DataW Unit} {g:α->List Value} {W:World} {n:String} {E:Nat} {t:TypeId} {cs:Array Value} {fuel:Nat} {p:List MemPlace} {r:α}
  (hg:P.globalNamed n=some E) (I:W.var? P n=some cs) (hd:DataW.trod (fun _=>()) P W 0 (fun _=>true) false fuel t cs.toList=some (f r,p))
  (fX:Reads (fun _=>()) P W 0 (fun _=>true) false t f g) (i:Nat) (v:Value) (hi:(g r)[i]?=some v):W.cell? ⟨E,i,none⟩=some v:=by
 have h:=fX _ _ _ hd r rfl;rw[World.var?_cell hg I i,<-Array.getElem?_toList,h,hi]
def l5(w:World)(g:Nat)(l:List Value):Prop:=∀i v,l[i]?=some v->w.cell? ⟨g,i,none⟩=some v

end Go.Proofs.YtbplamgacibdaaaGreatDoor.Tab
namespace Go.Proofs.YtbplamgacibdaaaGreatDoor.V
open List
open Go.RowKit
variable {G:List (Nat×List Value)} {α:Type} {t:TypeId}
def CH(w:World)(g:Nat)(l:List Value):Prop:=∀i v,l[i]?=some v->oG w g i v
theorem CH.of{w:World}{g:Nat}{l:List Value}(h:Tab.l5 w g l)(hp:l.all ru=true):CH w g l:=fun i v hi=>.of (h i v hi) (RJ hp hi)
theorem VP.run {P:Program} {f:FuncId} {args:List D} {vs:List Value} {r:Value} {w:World} (h:VP P G f args (.v r))
  (hG:∀g∈G,g.2≠[]/\CH w g.1 g.2) (hr:cD w (live (fun _=>False) []) args vs):Calls P f vs.toArray w fun e w'=>e = .returned r/\Below w.heap.size w w':=by
 have hp:HK G (fun _=>False) w [] args vs:=by
  refine⟨fun _ h=>h.elim,fun g hg=>⟨⟨?_,by simp[av],fun h=>h⟩,(hG g hg).2⟩,⟨fun B hB=>by simp at hB,by simp[av]⟩,hr⟩;obtain⟨h1,h2⟩:=hG g hg;cases hl:g.2 with
  | nil=>exact absurd hl h1
  | cons v l=>exact(h2 0 v (by rw[hl];rfl)).lt
 refine(h _ w vs hp).mono fun e w' ⟨v,E,S',h1,⟨h2,h3⟩,h4,h5,h6⟩=>?_;subst h2;rw[h5.lj] at h1;exact⟨h1,h6.os,h6.tape,h6.output,h6.size,fun k hk=>(h6.block k hk (by simp[av])).1⟩
theorem cD.vs(w:World)(L:Nat->Prop)(vs:List Value):cD w L (vs.map .v) vs:=⟨by simp,fun i h1 h2=>by rw[getElem_map];exact .v _⟩
theorem ah2{a:Int}(h:(Lit.int .i64 a).wf=true):-9223372036854775808<=a/\a<=9223372036854775807:=bounds_i64 h

variable {H:Type} {enc:TypeId×Value->H} {P:Program} {w:World} {base:Nat} {sp:Nat->Bool} {held:Bool}
def pJ(enc:TypeId×Value->H)(P:Program)(w:World)(base:Nat)(sp:Nat->Bool)(held:Bool)(t:TypeId)(g:α->List D)(ok:α->Prop):Prop :=
 ∀fuel cs x,DataW.trod enc P w base sp held fuel t cs=some x->∃a,cD w (fun _=>False) (g a) cs/\ok a
theorem vq(ht:P.underlying t=some (.int .i64)):pJ enc P w base sp held t (fun n:Int=>[.v (.int .i64 n)]) (fun n=>-9223372036854775808<=n/\n<=9223372036854775807):=fun fuel cs x h=>by
 obtain⟨n,rfl,_,hw⟩:=DataW.trod_int ht h;exact⟨n,cD.vs w _ [_],ah2 hw⟩
theorem ae2(ht:P.underlying t=some .bool):pJ enc P w base sp held t (fun n:Bool=>[.v (.bool n)]) (fun _=>True):=fun fuel cs x h=>by
 obtain⟨n,rfl,_⟩:=DataW.trod_bool ht h;exact⟨n,cD.vs w _ [_],trivial⟩
theorem QD(ht:P.underlying t=some .string):pJ enc P w base sp held t (fun n:ByteArray=>[.v (.string n)]) (fun s=>s.size<=maxLen):=fun fuel cs x h=>by
 obtain⟨n,rfl,_,hw⟩:=DataW.trod_string ht h;exact⟨n,cD.vs w _ [_],hw⟩
theorem pJ.map{β:Type}{g:α->List D}{ok:α->Prop}{I:β->List D}{E:β->Prop}(h:pJ enc P w base sp held t g ok)(f:α->β)(hg:∀a,I (f a)=g a)(aW:∀a,ok a->E (f a)):pJ enc P w base sp held t I E:=fun fuel cs x hx=>by
 obtain⟨a,h1,h2⟩:=h fuel cs x hx;exact⟨f a,by rw[hg];exact h1,aW a h2⟩
theorem aaT {f0 f1 f2:Field} {E I O:Type} {g0:E->List D} {g1:I->List D} {g2:O->List D} {k0:E->Prop} {k1:I->Prop} {k2:O->Prop} {n0 n1 n2:Nat}
  (ht:P.underlying t=some (.struct #[f0,f1,f2])) (hc:P.cellsOf t=n0+n1+n2) (Z:f0.offset=0) (o1:f1.offset=n0) (o2:f2.offset=n0+n1) (c0:P.cellsOf f0.type=n0) (c1:P.cellsOf f1.type=n1) (c2:P.cellsOf f2.type=n2)
  (r0:pJ enc P w base sp held f0.type g0 k0) (r1:pJ enc P w base sp held f1.type g1 k1) (r2:pJ enc P w base sp held f2.type g2 k2) :
  pJ enc P w base sp held t (fun a:E × I × O=>g0 a.1++(g1 a.2.1++g2 a.2.2)) (fun a=>k0 a.1/\k1 a.2.1/\k2 a.2.2):=fun fuel cs x h=>by
 obtain⟨xs,n,_,_,hl,gi,hf⟩:=DataW.trod_struct ht h;have U:=hf 0 f0 rfl;have e1:=hf 1 f1 rfl;have e2:=hf 2 f2 rfl;rw[Z,c0,drop_zero] at U;rw[o1,c1] at e1;rw[o2,c2] at e2;have NN:xs.length=3:=gi;rw[getElem?_eq_getElem w4] at U e1 e2;obtain⟨a0,p0,q0⟩:=r0 _ _ _ U;obtain⟨a1,p1,q1⟩:=r1 _ _ _ e1;obtain⟨a2,p2,q2⟩:=r2 _ _ _ e2;refine⟨(a0,a1,a2),?_,q0,q1,q2⟩;have dy:cs=cs.take n0++((cs.drop n0).take n1++(cs.drop (n0+n1)).take n2):=by
  rw[<-drop_drop,take_of_length_le (l:=drop n1 (drop n0 cs)) (by rw[length_drop,length_drop];omega),take_append_drop,take_append_drop]
 rw[dy];exact p0.append (p1.append p2)
theorem adr {e:TypeId} {sz b':Nat} {g:α->List D} {ok:α->Prop} (ht:P.underlying t=some (.slice e)) (rQ:P.cellsOf e=sz) (jh:0<sz) (re:pJ enc P w base sp held e g ok) (hg:∀a,(g a).length=sz) {v:Value} {d:DataW H} {p:List MemPlace}
  (hval:Value.okWide P w .any b' t v) (h:DataW.Trod enc P w base sp held t v d p):∃l:List α,cq w (fun _=>False) (.list sz (l.flatMap g) l.length) v/\(∀x∈l,ok x)/\l.length<=maxLen:=by
 have hv:Cell.okWide P w .any b' t v:=(by unfold Value.okWide at hval;rw[ht] at hval;exact hval)
 unfold Cell.okWide at hv;rw[ht] at hv;obtain⟨m,hm⟩:=h;have hv2:Cell.ok P w .any b' t v:=(by revert hv;cases v<;>exact id)
 unfold Cell.ok at hv2;rw[ht] at hv2;cases v with
 | slice ad len cap =>
  rcases Go.Deep.open_slice ht hm with ⟨h1,_⟩|⟨a,U,Z,mm,n,Dd,Pl,h1,hb,hl,cR,AM,_,hx⟩
  ·have e1:Value.slice ad len cap = .slice none 0 0:=(by simpa[Value.cells] using h1)
   rw[e1];exact⟨[],.nil sz,(fun x hx=>by cases hx),Nat.zero_le _⟩
  have e1:Value.slice ad len cap = .slice (some a) U Z:=(by simpa[Value.cells] using h1)
  cases e1;have ajz:w.has P .any b' a e cap:=hv2.2.2;obtain⟨_,I,row,cells,Dx,_⟩:=ajz;obtain⟨b,o,s⟩:=a;have E:s=none:=I;subst E;have aa:b<w.heap.size:=by
   rcases Nat.lt_or_ge b w.heap.size with h2|h2
   ·exact h2
   simp[World.shape?,Array.getElem?_eq_none h2] at Dx
  have hle:len<=mm:=(by rw[AM];split<;>omega)
  have each:∀i:Fin len,∃a:α,(∃cs',w.cells? base ((⟨b,o,none⟩:Addr).add (i.1*P.cellsOf e)) (P.cellsOf e)=some cs'/\cD w (fun _=>False) (g a) cs')/\ok a:=fun i=>by
   obtain⟨cs',h1,h2⟩:=hx i.1 w4;obtain⟨a,h3,h4⟩:=re _ _ _ h2;exact⟨a,⟨cs',h1,h3⟩,h4⟩
  let l:List α:=ofFn fun i:Fin len=>Classical.choose (each i)
  have iG:l.length=len:=(by simp[l])
  have YK:∀i (hi:i<l.length),(∃cs',w.cells? base ((⟨b,o,none⟩:Addr).add (i*P.cellsOf e)) (P.cellsOf e)=some cs'/\cD w (fun _=>False) (g l[i]) cs')/\ok l[i]:=fun i hi=>by
   have:=Classical.choose_spec (each ⟨i,by omega⟩);simpa[l] using this
  refine⟨l,?_,fun x hx=>?_,by omega⟩
  ·have key:∀k,k<(l.flatMap g).length->∃u,w.cell? ⟨b,o+k,none⟩=some u/\∀h:k<(l.flatMap g).length,cq w (fun _=>False) (l.flatMap g)[k] u:=fun k hk=>by
    rw[cm hg] at hk;have hi:k/sz<l.length:=Nat.div_lt_of_lt_mul (by rw[Nat.mul_comm];exact hk);have hj:k % sz<sz:=Nat.mod_lt _ jh;have kW:k/sz*sz+k % sz=k:=(by rw[Nat.mul_comm];exact Nat.div_add_mod k sz)
    obtain⟨⟨cs',h1,h2⟩,_⟩:=YK _ hi;obtain⟨_,h4,h5⟩:=World.cells?_some h1;have h6:=h5 (k % sz) w4;have mr:k % sz<cs'.length:=(by omega)
    rw[getElem?_eq_getElem mr,Go.Deep.add_add,rQ,kW,Addr.add_mid] at h6;refine⟨_,h6,fun h=>?_⟩;have h7:=h2.2 (k % sz) (by rw[hg];exact hj) mr;have h8:=zo hg hi (getElem?_eq_getElem (show k % sz<(g l[k/sz]).length by rw[hg];exact hj));rw[kW,getElem?_eq_getElem h] at h8;rw[Option.some.inj h8];exact h7
   have YL:len<=cap:=hl;have O:Value.slice (some ⟨b,o,none⟩) len cap=Value.slice (some ⟨b,o,none⟩) l.length cap:=(by rw[iG])
   rw[O];refine cq.list (L:=fun _=>False) sz (l.flatMap g) l.length b o cap (fun k=>(w.cell? ⟨b,o+k,none⟩).getD undef) (cm hg l) w4 cR aa (fun h=>h.elim) (fun k hk=>?_) (fun k hk=>?_)
   ·obtain⟨u,h1,_⟩:=key k hk;rw[h1];rfl
   obtain⟨u,h1,h2⟩:=key k hk;simp only[h1,Option.getD_some];exact h2 hk
  obtain⟨i,hi,rfl⟩:=mem_iff_getElem.1 hx;exact(YK i hi).2
 | _=>exact hv2.elim
theorem VP.Mq {f:FuncId} {args:List D} {vs:List Value} {r:Value} (h:VP P G f args (.v r))
  (hG:∀g∈G,g.2≠[]/\CH w g.1 g.2) (hr:cD w (fun _=>False) args vs):Calls P f vs.toArray w fun e w'=>e = .returned r/\Below w.heap.size w w' :=
 h.run hG (hr.mono fun b _ _=>⟨rfl,fun hl=>by rcases hl with hl|hl;exact hl;simp[av] at hl⟩)

end Go.Proofs.YtbplamgacibdaaaGreatDoor.V
namespace Go.Proofs.YtbplamgacibdaaaGreatDoor.V
open List
open Go.RowKit
variable {P:Program} {C:dG} {G:List (Nat×List Value)} {Q:Exit->St->Prop} {x:St} {ops:Array Oper} {l:List Oper} {o:Oper} {S1 T:List Nat} {fuel i:Nat} {ld:Array Bool}
variable {sz n k b o' cap h' m c:Nat} {B:ah} {cs':List D} {t e:TypeId} {y:Operand} {lo hi:Option Operand}
theorem uZ:∀(ds cs:List D) (off:Nat),off+ds.length<=cs.length->dh cs off ds=cs.take off++ds++cs.drop (off+ds.length)
 | [],cs,off,h=>by simp[dh]
 | d::ds,cs,off,h=>by
  simp only[length_cons] at h;have e:cs.set off d=(cs.take off++[d])++cs.drop (off+1):=(by rw[set_eq_take_append_cons_drop,if_pos w4];simp)
  have hl:(cs.take off++[d]).length=off+1:=(by simp;omega)
  rw[dh,uZ ds _ (off+1) iF,e,take_left' hl,<-drop_drop,drop_left' hl,drop_drop];simp only[append_assoc,cons_append,nil_append,length_cons];congr 4;omega
theorem nX{α:Type}{g:α->List D}(hg:∀a,(g a).length=sz)(ls:List α){i:Nat}(a:α)(hi:i<ls.length):dh (ls.flatMap g) (i*sz) (g a)=(ls.set i a).flatMap g:=by
 have h1:(i+1)*sz<=ls.length*sz:=Nat.mul_le_mul_right _ hi;rw[Nat.succ_mul] at h1;rw[uZ _ _ _ (by rw[cm hg,hg];exact h1),hg,set_eq_take_append_cons_drop,if_pos hi,sC hg,<-Nat.succ_mul,vk hg];simp[flatMap_append]
theorem Wk.W0{l:List (Nat×D)}{S:List ah}(hk:S[k]?=some B)(hl:cs'.length<=B.size)(hc:∀(i:Nat) (d:D),cs'[i]?=some d->B.cs[i]?=some d\/d=D.bY):Wk ⟨n,l,S⟩ ⟨n,l,S.set k {B with cs:=cs'}⟩:=fun C a w h=>by
 have eo:=(List.getElem?_eq_some_iff.1 hk).1;have U:=(List.getElem?_eq_some_iff.1 hk).2;have E:av (S.set k {B with cs:=cs'})=av S:=by
  unfold av;rw[map_set];apply ext_getElem bq;intro i q1 q2;rw[getElem_set];split
  ·rename_i e;subst e;simp[U]
  rfl
 have I:live C.X (S.set k {B with cs:=cs'})=live C.X S:=(by funext b;simp only[live,E])
 refine⟨h.defers,h.size,fun t ht=>?_,⟨fun B' Z=>?_,?_⟩,?_,h.ex,h.eV⟩
 ·simp only[I];exact h.env t ht
 ·simp only[I];obtain⟨j,hj,O⟩:=mem_iff_getElem.1 Z;rw[length_set] at hj;rw[getElem_set] at O;by_cases e:k=j
  ·rw[if_pos e] at O;subst O;obtain⟨r0,cur,r1,r2,r3,r4⟩:=h.own.at_ B (mem_of_getElem? hk);refine⟨r0,cur,r1,r2,hl,fun i hi=>?_⟩;simp only at hi hl;have lP:i<cur.size:=(by omega)
   rcases hc i _ (getElem?_eq_getElem hi) with hd|hd
   ·obtain⟨hd1,hd2⟩:=List.getElem?_eq_some_iff.1 hd;obtain⟨u,hu,hq⟩:=r4 i hd1;rw[hd2] at hq;exact⟨u,hu,hq⟩
   exact⟨cur[i],by simp[lP],by simp only[hd];exact .bY _⟩
  rw[if_neg e] at O;subst O;exact h.own.at_ _ (getElem_mem hj)
 ·simp only[E];exact h.own.apart
 simp only[E];exact h.fr
def eJ(cap l sz o':Nat):Nat:=if cap=l then o' else o'+l*sz
theorem Z6 {len l:Nat} (ho:o.op = .slice t y lo hi none) (hy:aG x y = .v (.slice (some ⟨b,o',none⟩) len cap)) (e9:mY x lo l 0) (eL:mY x hi h' len)
  (E:∀w,(underlying t).run P w = .ok (.slice e) w) (hs:∀w,(sizeOf e).run P w = .ok sz w) (h1:l<=h') (h2:h'<=cap):bX P G x o .none (.v (.slice (some ⟨b,eJ cap l sz o',none⟩) (h'-l) (cap-l))):=fun C a w _ h =>
 ⟨_,.v _,fun w' _=>by
  have b1:=sj h e9;have b2:=sj h eL;have b3:=fun w=>wL (P:=P) (il:=true) (w:=w) b1 b2 h1 h2;unfold execOp eJ;simp only[ho,h.flat hy,Instr.sliceAt,Instr.slice,E,Sem.run_bind,Result.andThen_ok,Option.map_none,b3,hs,Sem.run_pure];by_cases hc:cap=l
  ·rw[if_pos hc,if_pos hc]
  rw[if_neg hc,if_neg hc];simp only[Option.map_some,Addr.add_mid]⟩
theorem ue {l len:Nat} (e9:lo=none->l=0) (eL:hi=none->h'=len)
  (E:∀w,(underlying t).run P w = .ok (.slice e) w) (hs:∀w,(sizeOf e).run P w = .ok sz w) (h1:l<=h') (h2:h'<=cap):Rs P G t lo hi l h' (.v (.slice (some ⟨b,o',none⟩) len cap)) (.v (.slice (some ⟨b,eJ cap l sz o',none⟩) (h'-l) (cap-l))):=fun x o y ho hy hl I =>
 Z6 ho hy (rj hl e9) (rj I eL) E hs h1 h2
theorem Iw {len l:Nat} {k1 k2 k3:IntKind} {lo hi E:Operand} (ho:o.op = .slice t y (some lo) (some hi) (some E)) (hy:aG x y = .v (.slice (some ⟨b,o',none⟩) len cap)) (e9:aG x lo = .v (.int k1 l)) (eL:aG x hi = .v (.int k2 h')) (cR:aG x E = .v (.int k3 m))
  (I:∀w,(underlying t).run P w = .ok (.slice e) w) (hs:∀w,(sizeOf e).run P w = .ok sz w) (h1:l<=h') (h2:h'<=m) (h3:m<=cap):bX P G x o .none .bY:=fun C a w _ h =>
 ⟨.slice (some ⟨b,if m=l then o' else o'+l*sz,none⟩) (h'-l) (m-l),.bY _,fun w' _=>by
  have b3:∀w,(Instr.sliceBounds true len cap (some (.int k1 l)) (some (.int k2 h')) (some (.int k3 m))).run P w = .ok (l,h',m) w:=fun w=>by
   unfold Instr.sliceBounds;simp[EG,h1,h2,h3]
  unfold execOp;simp only[ho,h.flat hy,h.flat e9,h.flat eL,h.flat cR,Instr.sliceAt,Instr.slice,I,Sem.run_bind,Result.andThen_ok,Option.map_some,b3,hs,Sem.run_pure];by_cases hc:m=l
  ·rw[if_pos hc,if_pos hc]
  rw[if_neg hc,if_neg hc];simp only[Option.map_some,Addr.add_mid]⟩
theorem aai {s:Operand} {t e tt oy:Nat} {new:List D} (ho:o.op = .call {callee:=.builtin .append,args:=#[s,y],argTypes:=#[t,t]}) (hd:o.dst=some tt)
  (ht:P.underlying t=some (.slice e)) (hi:(P.info? e).map (fun i=>i.size)=some sz)
  (hs:aG x s = .v (.slice (some ⟨b,0,none⟩) n cap)) (hk:x.S[k]?=some B) (hb:B.b=b) (hy:aG x y = .v (.slice (some ⟨b,oy,none⟩) m c))
  (O:(B.cs.drop oy).take (m*sz)=new) (hlen:new.length=m*sz) (jm:∀d∈new,one d=true) (Z:n+m<=cap) (hl:n*sz+m*sz<=B.cs.length) (dy:dh B.cs (n*sz) new=cs') (hne:isMap B.e=false:=by rfl) :
  fU P G x o [b] (fun y=>y=⟨x.n,(tt,.v (.slice (some ⟨b,0,none⟩) (n+m) cap))::x.env,x.S.set k {B with cs:=cs'}⟩):=fun C a w K Q hG h hK=>by
 subst dy hb;obtain⟨i,lC,rfl⟩:∃i,P.info? e=some i/\i.size=sz:=by
  cases h:P.info? e with
  | none=>simp[h] at hi
  | some i=>simp[h] at hi;exact⟨i,rfl,hi⟩
 obtain⟨h0,cur,q1,q2,q3,q4⟩:=h.fJ hk;rw[kM hne] at q1;have fX:∀j,j<m*i.size->∃hj:oy+j<B.cs.length,∃hn:j<new.length,new[j]=B.cs[oy+j]:=fun j hj=>by
  have h1:j<new.length:=(by omega)
  have h2:oy+j<B.cs.length:=by
   have:=congrArg length O;rw[length_take,length_drop,hlen] at this;omega
  refine⟨h2,h1,?_⟩;have e2:new[j]?=some B.cs[oy+j]:=(by rw[<-O,getElem?_take,if_pos hj,getElem?_drop,getElem?_eq_getElem h2])
  rw[getElem?_eq_getElem h1] at e2;exact Option.some.inj e2
 let vs:List Value:=(range (m*i.size)).map fun j=>cur.getD (oy+j) undef
 have I:vs.length=m*i.size:=(by simp[vs])
 have hv:∀j (hj:j<m*i.size),∃u,cur[oy+j]?=some u/\vs[j]?=some u/\cq w (live C.X x.S) (new[j]'w4) u:=fun j hj=>by
  obtain⟨h1,h2,h3⟩:=fX j hj;obtain⟨u,E,hq⟩:=q4 (oy+j) h1;refine⟨u,E,?_,h3 ▸ hq⟩;simp[vs,hj,E]
 have hr:cD w (live C.X x.S) new vs:=⟨by rw[I,hlen],fun j h1 h2=>by
  obtain⟨u,_,E,hq⟩:=hv j w4;rw[getElem?_eq_getElem h2] at E;rw[Option.some.inj E];exact hq⟩
 obtain⟨s1,s2,s3⟩:=h.store (hne:=hne) hk hr (o':=n*i.size) (by rw[hlen];exact hl);have U:=run_append_room_cells (P:=P) w t o.type e i ht lC B.b 0 n cap ⟨B.b,oy,none⟩ m c vs I (fun j u E=>by
   rw[Addr.add_mid];have hj:j<m*i.size:=(by rw[<-I];exact(List.getElem?_eq_some_iff.1 E).1)
   obtain⟨u',yw,yx,_⟩:=hv j hj;rw[yx] at E;rw[<-E];exact oE q1 yw) (fun u E=>by
   obtain⟨j,hj,rfl⟩:=mem_iff_getElem.1 E;have kD:j<new.length:=(by omega)
   exact(hr.2 j kD hj).BA (jm _ (getElem_mem kD))) Z (fun j hj=>by
   have:(0+n*i.size+j)<cur.size:=(by rw[I] at hj;omega)
   rw[oE q1 (u:=cur[0+n*i.size+j]) (by simp[this])];rfl) (fun j hj=>by unfold World.frozen?;simp[q1])
 rw[Nat.zero_add] at U;have LH:=Bl (o:=o) (a:=a) ho (h.flat hs) (h.flat hy) U;unfold Oper.wp;rw[LH,Oper.upon_value,hd];exact hK _ _ _ rfl (s1.put (.v _)) s2 s3
theorem bC.JB {s:Operand} {t e tt oy:Nat} {new:List D} (U:ops[i]?=some o) (hw:cj ops x o true) (ho:o.op = .call {callee:=.builtin .append,args:=#[s,y],argTypes:=#[t,t]}) (hd:o.dst=some tt)
  (ht:P.underlying t=some (.slice e)) (hi:(P.info? e).map (fun i=>i.size)=some sz)
  (hs:aG x s = .v (.slice (some ⟨b,0,none⟩) n cap)) (hk:x.S[k]?=some B) (hb:B.b=b) (hy:aG x y = .v (.slice (some ⟨b,oy,none⟩) m c))
  (O:(B.cs.drop oy).take (m*sz)=new) (hlen:new.length=m*sz) (jm:∀d∈new,one d=true) (E:n+m<=cap) (hl:n*sz+m*sz<=B.cs.length) (dy:dh B.cs (n*sz) new=cs') (hT:∀b∈T,b∈av (x.S.eraseIdx k))
  (K:AD P C ops S1 T fuel (ld.setIfInBounds i true) ⟨x.n,(tt,.v (.slice (some ⟨b,0,none⟩) (n+m) cap))::x.env,x.S.set k {B with cs:=cs'}⟩ Q) (hne:isMap B.e=false:=by rfl):bC P C ops S1 T fuel ld x Q i :=
 bC.gj U hw (aai (hne:=hne) ho hd ht hi hs hk hb hy O hlen jm E hl dy) (fun C a w hs Z I=>hb ▸ GK hs hk hT Z I) (fun Z I=>by
  have:Z=b:=(by simpa using I)
  subst this;rw[<-hb];exact BQ hk) fun y hy=>hy ▸ K
theorem abH {s:Operand} {t e:Nat} {z:Value} (ho:o.op = .call {callee:=.builtin .clear,args:=#[s],argTypes:=#[t]}) (hd:o.dst=none)
  (ht:P.underlying t=some (.slice e)) (hz:∀w,(zeroValue e).run P w = .ok z w) (fa:z.cells.size=sz) (mv:z.cells.all (fun v=>v.oneCell')=true)
  (hs:aG x s = .v (.slice (some ⟨b,o',none⟩) n c)) (hk:x.S[k]?=some B) (hb:B.b=b) (fj:0<n->B.cs.length<=o'/\o'+n*sz<=B.size) (hne:isMap B.e=false:=by rfl) :
  fU P G x o [b] (fun y=>y=x):=fun C a w K Q hG h hK=>by
 subst hb;have j4:∀{w':World},(Builtin.clear_ #[t] o.type #[a.eval s]).run P w = .ok (.tuple #[]) w'->(execOp a.eval o).run P w = .ok (.value (.tuple #[])) w':=fun hr=>by
  unfold execOp;simp[ho,resolve,invoke,builtin,hr]
 rcases Nat.eq_zero_or_pos n with rfl|hn
 ·have O:(Builtin.clear_ #[t] o.type #[a.eval s]).run P w = .ok (.tuple #[]) w:=by
   rw[h.flat hs];simp[Builtin.clear_,run_underlying ht]
  unfold Oper.wp;rw[j4 O,Oper.upon_value,hd];exact hK _ _ _ rfl h ⟨Nat.le_refl _,fun _ _ _=>rfl⟩ (Fr.refl _ _)
 obtain⟨aX,bL⟩:=fj hn;let vs:=(Builtin.zeroCells z.cells n).toList
 have qT:vs.length=n*sz:=(by simp[vs,size_zeroCells,fa])
 have hv1:∀v∈vs,v.oneCell'=true:=fun v hv=>by
  simp only[vs,Builtin.zeroCells,Array.toList_map,mem_map] at hv;obtain⟨j,hj,rfl⟩:=hv;have kD:j<n*z.cells.size:=(by simpa using hj)
  have h0:0<z.cells.size:=by
   rcases Nat.eq_zero_or_pos z.cells.size with h0|h0
   ·rw[h0] at kD;simp at kD
   exact h0
  have aa:=Nat.mod_lt j h0;have:=Array.all_eq_true.1 mv _ aa;rw[getElem!_pos z.cells _ aa];exact this
 obtain⟨h0,cur,q1,q2,q3,q4⟩:=h.fJ hk;rw[kM hne] at q1;have eU:=run_storeCells_cells (P:=P) B.b o' vs 0 w (fun j hj=>by
   have:(o'+0+j)<cur.size:=(by omega)
   rw[oE q1 (u:=cur[o'+0+j]) (by simp[this])];rfl) (fun j hj=>by unfold World.frozen?;simp[q1]) hv1
 have O:(Builtin.clear_ #[t] o.type #[a.eval s]).run P w = .ok (.tuple #[]) (w.setCells B.b o' vs):=by
  rw[h.flat hs];obtain⟨m,rfl⟩:∃m,n=m+1:=⟨n-1,by omega⟩
  simp only[Nat.add_zero] at eU;simp[Builtin.clear_,run_underlying ht,hz,vs,eU]
 have eo:=(List.getElem?_eq_some_iff.1 hk).1;have wj:=(List.getElem?_eq_some_iff.1 hk).2
 -- aox,stored,and U again
 let E:=B.cs++replicate (B.size-B.cs.length) D.bY
 have hw:=Wk.W0 (n:=x.n) (l:=x.env) (cs':=E) hk (by simp[E];omega) (fun i d I=>by
  rcases Nat.lt_or_ge i B.cs.length with hi|hi
  ·left;rw[<-I];simp only[E];rw[getElem?_append_left hi]
  right;simp only[E] at I;rw[getElem?_append_right hi] at I;exact eq_of_mem_replicate (mem_of_getElem? I)) C a w h
 have eD:(⟨x.n,x.env,x.S.set k {B with cs:=E}⟩:St).S[k]?=some {B with cs:=E}:=(by simp[eo])
 have HL:cD w (live C.X (⟨x.n,x.env,x.S.set k {B with cs:=E}⟩:St).S) (replicate (n*sz) D.bY) vs:=⟨by simp[qT],fun j h1 h2=>by rw[getElem_replicate];exact .bY _⟩
 obtain⟨s1,s2,s3⟩:=hw.store (hne:=hne) eD HL (o':=o') (by simp[E];omega);have sS:dh E o' (replicate (n*sz) D.bY)=E.take o'++replicate (n*sz) D.bY++E.drop (o'+n*sz):=by
  rw[uZ _ _ _ (by simp[E];omega),length_replicate]
 have lA:(x.S.set k {B with cs:=dh E o' (replicate (n*sz) D.bY)})[k]?=some {B with cs:=dh E o' (replicate (n*sz) D.bY)}:=(by simp[eo])
 have h1:bI C ⟨x.n,x.env,x.S.set k {B with cs:=dh E o' (replicate (n*sz) D.bY)}⟩ a (w.setCells B.b o' vs):=(by simpa[List.set_set] using s1)
 have h2:=Wk.W0 (n:=x.n) (l:=x.env) (cs':=B.cs) lA (by simpa using q3) (fun i d I=>by
  left;have hi:=(List.getElem?_eq_some_iff.1 I).1;simp only[sS];rw[append_assoc,getElem?_append_left (by simp[E];omega),getElem?_take,if_pos w4];simp only[E];rw[getElem?_append_left hi,I]) C a _ h1
 have hx:(⟨x.n,x.env,(x.S.set k {B with cs:=dh E o' (replicate (n*sz) D.bY)}).set k {B with cs:=B.cs}⟩:St)=x:=by
  rw[List.set_set];have:x.S.set k {B with cs:=B.cs}=x.S:=by
   apply ext_getElem bq;intro i q1 q2;rw[getElem_set];split
   ·rename_i e;subst e;exact wj.symm
   rfl
  rw[this]
 have Dy:∀cs1:List D,av (x.S.set k {B with cs:=cs1})=av x.S:=fun cs1=>by
  unfold av;rw[map_set];apply ext_getElem bq;intro i q1 q2;rw[getElem_set];split
  ·rename_i e;subst e;simp[wj]
  rfl
 have h3:bI C x a (w.setCells B.b o' vs):=by
  have Z:=h2;simp only at Z;rw[hx] at Z;exact Z
 simp only[List.set_set,Dy] at s3;unfold Oper.wp;rw[j4 O,Oper.upon_value,hd];exact hK _ _ _ rfl h3 s2 s3
theorem OD.clear {s:Operand} {t e sz n b k o' c:Nat} {z:Value} {B:ah} (hw:cj ops x o true) (ho:o.op = .call {callee:=.builtin .clear,args:=#[s],argTypes:=#[t]}) (hd:o.dst=none)
  (ht:P.underlying t=some (.slice e)) (hz:∀w,(zeroValue e).run P w = .ok z w) (fa:z.cells.size=sz) (E:z.cells.all (fun v=>v.oneCell')=true)
  (hs:aG x s = .v (.slice (some ⟨b,o',none⟩) n c)) (hk:x.S[k]?=some B) (hb:B.b=b) (fj:0<n->B.cs.length<=o'/\o'+n*sz<=B.size) (K:OD P C ops l x Q) (hne:isMap B.e=false:=by rfl):OD P C ops (o::l) x Q :=
 OD.gj hw (abH (hne:=hne) ho hd ht hz fa E hs hk hb fj) fun y hy=>hy ▸ K
theorem jB{l r:List ah}(h:∀f:ah->Nat,(l.map f).sum=(r.map f).sum):l.Perm r:=by
 classical
 rw[perm_iff_count];intro a;have key:∀l:List ah,(l.map fun b=>if b=a then 1 else 0).sum=l.count a:=by
  intro l;induction l with
  | nil=>rfl
  | cons b l ih =>
   rw[map_cons,sum_cons,ih,count_cons];by_cases e:b=a<;>simp[e,Nat.add_comm]
 have:=h (fun b=>if b=a then 1 else 0);rw[key,key] at this;exact this
theorem ads{l r:List ah}(h:l.Perm r)(f:ah->Nat):(l.map f).sum=(r.map f).sum:=by
 induction h with
 | nil=>rfl
 | cons x _ ih=>simp[ih]
 | swap x y l=>simp only[map_cons,sum_cons];omega
 | trans _ _ h1 h2=>exact h1.trans h2
theorem NP.norm{Φ:St->Prop}:NP (fun e y=>e=Exit.normal/\Φ y):=fun c y t hq=>by cases hq.1

end Go.Proofs.YtbplamgacibdaaaGreatDoor.V
namespace Go.Proofs.YtbplamgacibdaaaGreatDoor.V
open List
open Go.RowKit
variable {P:Program} {C:dG} {G:List (Nat×List Value)} {Q:Exit->St->Prop} {x:St} {ops:Array Oper} {l:List Oper} {o:Oper}
variable {e sz cap b n u tt k:Nat} {α:Type} {ad:Option Addr} {S Sq R A S1 S2 S3:List ah} {t:TypeId} {y:Operand} {ls:List UInt8}
theorem iR{g:α->List D}:bn e sz (([]:List α).flatMap g) ([]:List α).length none 0 []:=.inl ⟨rfl,rfl,rfl,rfl,rfl⟩
theorem bn.cast{g:α->List D}{ls E:List α}(h:bn e sz (ls.flatMap g) ls.length ad cap S)(he:ls=E):bn e sz (E.flatMap g) E.length ad cap S:=he ▸ h
theorem bJ{g:α->List D}{ls:List α}(h1:ls.length<=cap)(h2:cap<=maxLen):bn e sz (ls.flatMap g) ls.length (some ⟨b,0,none⟩) cap [⟨b,e,cap*sz,ls.flatMap g⟩]:=.inr ⟨b,rfl,h1,h2,rfl⟩
def gE(g:α->List D)(e sz:Nat)(ls:List α)(r:D)(S:List ah):Prop:=∃ad cap,r = .v (.slice ad ls.length cap)/\bn e sz (ls.flatMap g) ls.length ad cap S
theorem gE.view{g:α->List D}{ls:List α}{r:D}(hg:∀a,(g a).length=sz)(h:gE g e sz ls r S)(hne:isMap e=false:=by rfl):View S r (.list sz (ls.flatMap g) ls.length):=by
 obtain⟨ad,cap,rfl,ho⟩:=h;exact lU (hne:=hne) ho (cm hg ls) (fun B hB=>hB)
theorem VC.xG{g:α->List D}{ls:List α}{f:FuncId}{args:List D}(hg:∀a,(g a).length=sz)(h:VC P G f args [] (gE g e sz ls))(hne:isMap e=false:=by rfl):VP P G f args (.list sz (ls.flatMap g) ls.length) :=
 h.cover fun r S hr=>gE.view (hne:=hne) hg hr
theorem Wk.gK{t m:Nat}{l:List (Nat×D)}{cs:List D}(ht:look t l = .v (.slice ad m cap))(ho:bn e sz cs m ad cap Sq)(hl:cs.length=m*sz)(hp:S.Perm (Sq++R))(hne:isMap e=false:=by rfl):Wk ⟨n,l,S⟩ ⟨n,(t,.list sz cs m)::l,R⟩:=by
 refine(Wk.perm hp).trans ?_;rcases ho with ⟨rfl,rfl,rfl,rfl,rfl⟩|⟨b,rfl,h1,h2,rfl⟩
 ·exact Wk.sA ht
 exact Wk.vJ (hne:=hne) (k:=0) rfl ht rfl hl h1 h2
theorem OD.gK{t m cap e sz:Nat}{Sq R:List ah}{cs:List D}{ad:Option Addr}(ht:V.look t x.env = .v (.slice ad m cap))(ho:bn e sz cs m ad cap Sq)(hl:cs.length=m*sz)(hp:x.S.Perm (Sq++R))(K:OD P C ops l ⟨x.n,(t,.list sz cs m)::x.env,R⟩ Q)(hne:isMap e=false:=by rfl):OD P C ops l x Q :=
 OD.wk (Wk.gK (hne:=hne) (n:=x.n) (S:=x.S) ht ho hl hp) K
theorem CD.gK{c:Code}{t m cap e sz:Nat}{Sq R:List ah}{cs:List D}{ad:Option Addr}(ht:V.look t x.env = .v (.slice ad m cap))(ho:bn e sz cs m ad cap Sq)(hl:cs.length=m*sz)(hp:x.S.Perm (Sq++R))(K:CD P C c ⟨x.n,(t,.list sz cs m)::x.env,R⟩ Q)(hne:isMap e=false:=by rfl):CD P C c x Q :=
 CD.wk (Wk.gK (hne:=hne) (n:=x.n) (S:=x.S) ht ho hl hp) K
theorem gE.mk{g:α->List D}{ls:List α}(h:bn e sz (ls.flatMap g) ls.length ad cap S):gE g e sz ls (.v (.slice ad ls.length cap)) S:=⟨ad,cap,rfl,h⟩
theorem gE.cast{g:α->List D}{ls E:List α}{r:D}(h:gE g e sz ls r S)(he:ls=E):gE g e sz E r S:=he ▸ h
theorem eP{ls E:List α}(h:ls=E):D.v (.slice ad ls.length cap)=D.v (.slice ad E.length cap):=by rw[h]
theorem cZ:(A++S1).Perm (S1++A):=perm_append_comm
theorem pp:(A++(S1++S2)).Perm (S1++(A++S2)):=perm_append_comm_assoc _ _ _
theorem zf:(A++(S1++S2)).Perm (S2++(A++S1)):=(List.perm_append_comm.append_left A).trans pp
theorem JC:(A++(S1++(S2++S3))).Perm (S1++(A++(S2++S3))):=pp
theorem tX:(A++(S1++(S2++S3))).Perm (S2++(A++(S1++S3))):=(pp.append_left A).trans pp
theorem RE:((S1++A)++[]).Perm (A++S1):=by rw[append_nil];exact perm_append_comm
theorem adt:((S2++A)++S1).Perm (A++(S1++S2)):=by rw[append_assoc];exact List.perm_append_comm.trans (by rw[append_assoc])
theorem dU:(S1++A).Perm (A++S1):=cZ.symm
theorem kG:(S1++(A++S2)).Perm (A++(S1++S2)):=pp.symm
theorem zg:(S2++(A++S1)).Perm (A++(S1++S2)):=zf.symm
theorem RQ:(S1++(A++(S2++S3))).Perm (A++(S1++(S2++S3))):=JC.symm
theorem wU:(S2++(A++(S1++S3))).Perm (A++(S1++(S2++S3))):=tX.symm
theorem PC {w:World} (base:Nat) (t u ty e:TypeId) (i:TypeInfo) (ht:P.underlying t=some (.slice e)) (hu:P.underlying u=some .string) (hi:P.info? e=some i) (hz:i.zero=some (.int .u8 0))
  (E:i.size=1) (O:i.bytes=1) (v:Value) (n:Nat) (xs:List Value) (eW:w.ownsRow base e 1 v n xs) (s:ByteArray)
  (ie:n+s.size<=maxLen) (I:n+s.size<=140737488355328) (U:base<=w.heap.size) :
  ∃Z w',(Builtin.append_ #[t,u] ty #[v,.string s]).run P w = .ok Z w'/\w'.ownsRow base e 1 Z (n+s.size) (xs++Go.Lib.strCells s)/\w.grownBy w' v.ownBlock /\
   (Z = .slice none 0 0↔v = .slice none 0 0/\s.size=0)/\(Z.ownBlock=v.ownBlock\/Z.ownBlock=some w.heap.size):=by
 obtain⟨Z,w',hr,h2,h3,h4⟩:=Go.Lib.run_append_own_string (P:=P) w base t u ty e i ht hu hi hz E O v n xs eW s ie I U;refine⟨Z,w',hr,h2,h3,h4,?_⟩;have aoQ:n+s.size<=9223372036854775807:=(by simp only[maxLen] at ie;omega)
 have gi:xs.length=n:=(by simpa using eW.1)
 rcases eW.2 with ⟨rfl,rfl⟩|⟨g,cap,cur,rfl,hbg,hg,hnc,hcm,dy,VX⟩
 ·by_cases hm:s.size=0
  ·left;rw[h4.2 ⟨rfl,hm⟩]
  right;have:=run_append_nil_string (P:=P) w t u ty e i (.int .u8 0) ht hu hi hz s w4 w4 (by rw[O];omega);rw[this] at hr;cases hr;rfl
 have ap9:cur.size=cap:=(by simpa using dy)
 by_cases ah3:n+s.size<=cap
 ·left;have:=Go.Lib.run_append_room_string (P:=P) w t u ty e i ht hu hi E g n cap cur hg s ah3 w4;rw[this] at hr;cases hr;rfl
 right;have holds:∀j u,xs[j]?=some u->w.cell? ((⟨g,0,none⟩:Addr).add j)=some u:=eW.cells (g:=g) rfl;have:=Go.Lib.run_append_grow_string (P:=P) w t u ty e i (.int .u8 0) ht hu hi hz ⟨g,0,none⟩ n cap xs (by rw[E];simpa using gi) holds s w4 w4 (by rw[O];exact growslice_fits w4 w4);rw[this] at hr;cases hr;rfl
def pu(b:List UInt8):List D:=b.map vA
theorem IB {s:Operand} {u:TypeId} {v I:Value} {w w':World} {a:Act} (ho:o.op = .call {callee:=.builtin .append,args:=#[s,y],argTypes:=#[t,u]}) (hs:a.eval s=v) {z:Value} (hy:a.eval y=z)
  (E:(Builtin.append_ #[t,u] o.type #[v,z]).run P w = .ok I w'):(execOp a.eval o).run P w = .ok (.value I) w':=by
 unfold execOp;simp[ho,resolve,invoke,builtin,hs,hy,E]
theorem Z7 {s:Operand} {t:Nat} {cs:List D} {str:ByteArray} (ho:o.op = .call {callee:=.builtin .append,args:=#[s,y],argTypes:=#[t,u]}) (hd:o.dst=some tt)
  (ht:P.underlying t=some (.slice e)) (hu:P.underlying u=some .string) (hi:(P.info? e).map (fun i=>(i.zero,i.size,i.bytes))=some (some (.int .u8 0),1,1))
  (hs:aG x s = .v (.slice ad n cap)) (tD:bn e 1 cs n ad cap Sq) (hp:x.S=Sq++R) (hl:cs.length=n) (hy:aG x y = .v (.string str)) (ie:n+str.size<=maxLen) (O:n+str.size<=140737488355328) (hne:isMap e=false:=by rfl) :
  fU P G x o (av Sq) (fun y=>∃qq U S',bn e 1 (cs++pu str.data.toList) (n+str.size) qq U S'/\y=⟨x.n,(tt,.v (.slice qq (n+str.size) U))::x.env,S'++R⟩):=fun C a w K Q hG h hK=>by
 obtain⟨i,lC,lP,pI,qo⟩:=zm hi;have ajA:(Go.Lib.strCells str).length=str.size:=Go.Lib.strCells_length str;have Ob:(pu str.data.toList).length=str.size:=(by simp[pu])
 have Z:∀j (hj:j<str.size),∃u,(Go.Lib.strCells str)[j]?=some u/\∀h:j<(pu str.data.toList).length,cq w (live C.X x.S) (pu str.data.toList)[j] u:=fun j hj=>by
  have h1:j<str.data.toList.length:=(by rw[Array.length_toList];exact hj)
  refine⟨.int .u8 (str.data.toList[j]).toNat,by rw[Go.Lib.strCells,getElem?_map,getElem?_eq_getElem h1];rfl,fun h=>?_⟩;simp only[pu,getElem_map];exact .v _
 rcases tD with ⟨rfl,rfl,rfl,rfl,rfl⟩|⟨b,rfl,h1,h2,rfl⟩
 ·rw[nil_append] at hp;by_cases hm:str.size=0
  ·have hd0:pu str.data.toList=[]:=eq_nil_of_length_eq_zero (by rw[Ob,hm]);have hn:Go.Lib.strCells str=[]:=eq_nil_of_length_eq_zero (by rw[ajA];exact hm);have hf:=Go.Lib.run_firstCells_string (P:=P) w 1 str;rw[hm] at hf;have I:(Builtin.append_ #[t,u] o.type #[.slice none 0 0,.string str]).run P w = .ok (.slice none 0 0) w:=by
    simp[Builtin.append_,run_underlying ht,run_underlying hu,sizeOf,typeInfo,lC,pI,Builtin.lenOf,hm,hf]
   unfold Oper.wp;rw[IB (P:=P) ho (h.flat hs) (h.flat hy) I,Oper.upon_value,hd];refine hK ⟨x.n,(tt,.v (.slice none (0+str.size) 0))::x.env,[]++R⟩ _ _ ⟨none,0,[],.inl ⟨by omega,by rw[hd0];rfl,rfl,rfl,rfl⟩,rfl⟩ ?_ (mq.refl _ _) ?_
   ·have e1:(.slice none 0 0:Value) = .slice none (0+str.size) 0:=(by rw[hm])
    rw[e1,nil_append,<-hp];exact h.put (.v _)
   rw[nil_append,hp];exact Fr.refl _ _
  have eW:w.ownsRow 0 e 1 (.slice none 0 0) 0 []:=⟨by simp,.inl ⟨rfl,rfl⟩⟩
  obtain⟨v',w',I,q2,q3,_,q5⟩:=PC (P:=P) 0 t u o.type e i ht hu lC lP pI qo _ 0 _ eW str ie O (Nat.zero_le _);simp only[Nat.zero_add,nil_append] at q2;obtain⟨g,E,rfl,_,aa⟩:=q2.form w4;have q6:(none:Option Nat)=some g\/g=w.heap.size:=by
   rcases q5 with q5|q5
   ·simp[Value.ownBlock] at q5
   right;simpa[Value.ownBlock] using q5
  obtain⟨_,q2⟩:=q2;rcases q2 with ⟨q2,_⟩|⟨g',U,l9,e1,_,e2,e3,e4,e5,e6⟩
  ·cases q2
  have Dt:g=g'/\E=U:=(by simpa using e1)
  obtain⟨rfl,rfl⟩:=Dt;rw[Nat.mul_one] at e5 e6;obtain⟨s1,s2,s3⟩:=h.grown (hne:=hne) (t:=tt) (m:=str.size) (e:=e) (sz:=1) (S:=x.S) (cs:=pu str.data.toList) (row:=none) (g:=g) (cap:=E) (Sublist.refl _) (fun k' qU=>by cases qU) q3 q6 aa e2 w4 w4 (fun j hj=>by
    obtain⟨u,yw,yx⟩:=Z j w4;refine⟨u,?_,yx hj⟩;rw[<-yw,<-e6,getElem?_take_of_lt w4,Array.getElem?_toList])
  unfold Oper.wp;rw[IB (P:=P) ho (h.flat hs) (h.flat hy) I,Oper.upon_value,hd];refine hK ⟨x.n,(tt,.v (.slice (some ⟨g,0,none⟩) (0+str.size) E))::x.env,[⟨g,e,E*1,[]++pu str.data.toList⟩]++R⟩ _ _ ⟨_,E,_,.inr ⟨g,rfl,by omega,e4,rfl⟩,rfl⟩ ?_ s2 ?_
  ·rw[Nat.zero_add,nil_append,<-hp];exact s1
  rw[nil_append,<-hp];exact s3
 have hk:x.S[0]?=some (⟨b,e,cap*1,cs⟩:ah):=(by rw[hp];rfl)
 obtain⟨r0,cur,r1,r2,r3,r4⟩:=h.fJ hk;simp only at r0 r1 r2 r3 r4;rw[kM hne] at r1;rw[Nat.mul_one] at r2 r3;have eW:w.ownsRow 0 e 1 (.slice (some ⟨b,0,none⟩) n cap) n (cur.toList.take n) :=
  ⟨by simp;omega,.inr ⟨b,cap,cur,rfl,Nat.zero_le _,r1,h1,h2,by omega,by rw[Nat.mul_one]⟩⟩
 obtain⟨v',w',I,q2,q3,q4,q5⟩:=PC (P:=P) 0 t u o.type e i ht hu lC lP pI qo _ n _ eW str ie O (Nat.zero_le _);obtain⟨_,q2⟩:=q2;rcases q2 with ⟨q2,_⟩|⟨g,E,l9,rfl,_,e2,e3,e4,e5,e6⟩
 ·have:=(q4.1 q2).1;cases this
 have q6:(some b:Option Nat)=some g\/g=w.heap.size:=by
  rcases q5 with q5|q5
  ·exact .inl q5.symm
  right;simpa[Value.ownBlock] using q5
 rw[Nat.mul_one] at e5 e6;have aa:g<w'.heap.size:=by
  rcases Nat.lt_or_ge g w'.heap.size with hh|hh
  ·exact hh
  rw[Array.getElem?_eq_none hh] at e2;cases e2
 have hR:R=x.S.eraseIdx 0:=(by rw[hp];rfl)
 obtain⟨s1,s2,s3⟩:=h.grown (hne:=hne) (t:=tt) (m:=n+str.size) (e:=e) (sz:=1) (S:=x.S.eraseIdx 0) (cs:=cs++pu str.data.toList) (row:=some b) (g:=g) (cap:=E) (eraseIdx_sublist _ _) (fun k' qU=>by
   have:b=k':=(by simpa using qU)
   subst this;refine⟨mem_map.2 ⟨_,mem_of_getElem? hk,rfl⟩,fun hm=>?_⟩;have HM:(av x.S).Perm (b::av (x.S.eraseIdx 0)):=(by have:=(uY hk).map ah.b;simpa[av] using this)
   exact(nodup_cons.1 (HM.nodup_iff.1 h.own.apart)).1 hm) q3 q6 aa e2 w4 vY (fun j hj=>by
   rw[length_append] at hj;have CE:l9[j]?=(cur.toList.take n++Go.Lib.strCells str)[j]?:=(by rw[<-e6,getElem?_take_of_lt w4,Array.getElem?_toList])
   rw[CE];have uM:(cur.toList.take n).length=n:=(by simp;omega)
   by_cases fX:j<n
   ·obtain⟨u,hu,hq⟩:=r4 j w4;refine⟨u,?_,?_⟩
    ·rw[getElem?_append_left w4,getElem?_take_of_lt fX,Array.getElem?_toList,hu]
    rw[getElem_append_left w4];exact hq
   obtain⟨u,yw,yx⟩:=Z (j-n) w4;refine⟨u,?_,?_⟩
   ·rw[getElem?_append_right w4,uM,yw]
   rw[getElem_append_right w4];have:=yx w4;simp only[hl];exact this)
 unfold Oper.wp;rw[IB (P:=P) ho (h.flat hs) (h.flat hy) I,Oper.upon_value,hd];refine hK ⟨x.n,(tt,.v (.slice (some ⟨g,0,none⟩) (n+str.size) E))::x.env,[⟨g,e,E*1,cs++pu str.data.toList⟩]++R⟩ _ _ ⟨_,E,_,.inr ⟨g,rfl,e3,e4,rfl⟩,rfl⟩ ?_ (by simpa[av] using s2) ?_
 ·rw[hR];exact s1
 rw[hR];exact s3
theorem OD.abI {s:Operand} {t:Nat} {cs:List D} {str:ByteArray} (hw:cj ops x o true) (ho:o.op = .call {callee:=.builtin .append,args:=#[s,y],argTypes:=#[t,u]}) (hd:o.dst=some tt)
  (ht:P.underlying t=some (.slice e)) (hu:P.underlying u=some .string) (hi:(P.info? e).map (fun i=>(i.zero,i.size,i.bytes))=some (some (.int .u8 0),1,1))
  (hs:aG x s = .v (.slice ad n cap)) (U:bn e 1 cs n ad cap Sq) (hp:x.S.Perm (Sq++R)) (hl:cs.length=n) (hy:aG x y = .v (.string str)) (Z:n+str.size<=maxLen) (I:n+str.size<=140737488355328)
  (K:∀O E S',bn e 1 (cs++pu str.data.toList) (n+str.size) O E S'->OD P C ops l ⟨x.n,(tt,.v (.slice O (n+str.size) E))::x.env,S'++R⟩ Q) (hne:isMap e=false:=by rfl):OD P C ops (o::l) x Q:=by
 refine OD.perm hp ?_;have hw':cj ops ⟨x.n,x.env,Sq++R⟩ o true:=fun C a w hs=>hw C a w ((Wk.perm (n:=x.n) (env:=x.env) hp.symm) C a w hs);have rT:aG ⟨x.n,x.env,Sq++R⟩ s = .v (.slice ad n cap):=(by rw[<-hs];cases s<;>rfl)
 have Oc:aG ⟨x.n,x.env,Sq++R⟩ y = .v (.string str):=(by rw[<-hy];cases y<;>rfl)
 exact OD.gj hw' (Z7 (hne:=hne) ho hd ht hu hi rT U rfl hl Oc Z I) fun y ⟨O,E,S',h1,hy⟩=>hy ▸ K O E S' h1
theorem OD.pn {g:α->List D} {ls new:List α} {s:Operand} {t bytes:Nat} {z:Value} (hg:∀a,(g a).length=sz) (hg1:∀a,(g a).all one=true) (hw:cj ops x o true) (ho:o.op = .call {callee:=.builtin .append,args:=#[s,y],argTypes:=#[t,t]}) (hd:o.dst=some tt)
  (ht:P.underlying t=some (.slice e)) (hi:(P.info? e).map (fun i=>(i.zero,i.size,i.bytes))=some (some z,sz,bytes)) (fa:z.cells.size=sz) (Z:0<sz) (hu:∀w,(underlying t).run P w = .ok (.slice e) w) (Dz:∀w,(sizeOf e).run P w = .ok sz w)
  (hs:aG x s = .v (.slice ad ls.length cap)) (O:bn e sz (ls.flatMap g) ls.length ad cap Sq) (hp:x.S.Perm (Sq++R))
  (hy:aG x y = .list sz (new.flatMap g) new.length) (ie:ls.length+new.length<=maxLen) (I:(ls.length+new.length)*bytes<=140737488355328)
  (K:∀U E S',bn e sz ((ls++new).flatMap g) (ls++new).length U E S'->OD P C ops l ⟨x.n,(tt,.v (.slice U (ls++new).length E))::x.env,S'++R⟩ Q) (hne:isMap e=false:=by rfl):OD P C ops (o::l) x Q:=by
 rcases Nat.eq_zero_or_pos new.length with h0|h0
 ·have hn:new=[]:=eq_nil_of_length_eq_zero h0;subst hn;refine OD.still hw hd (PM ho hu Dz hs O.le hy) ?_;have:=K ad cap Sq (by rw[append_nil];exact O);rw[append_nil] at this;exact OD.wk (Wk.perm (n:=x.n) hp) this
 exact OD.eG (hne:=hne) hg hg1 hw ho hd ht hi fa Z hs O hp hy h0 ie I fun b' E h1 h2=>K _ E _ (bJ h1 h2)
theorem aaj {e:TypeId} {vs:List Value} (ho:o.op = .slice t y none none none) (hy:aG x y = .v (.pointer (some ⟨b,0,none⟩))) (hg:(b,vs)∈G)
  (I:∀w,(underlying t).run P w = .ok (.array n e) w) (hs:∀w,(sizeOf e).run P w = .ok sz w) (hl:vs.length=n*sz) (hn:n≠0) (iO:n<=maxLen) (qS:vs.all ru=true:=by rfl):bX P G x o .none (.list sz (vs.map .v) n):=fun C a w hG h=>by
 subst hG;obtain⟨⟨q1,q2,O⟩,U⟩:=h.eV _ hg;refine⟨.slice (some ⟨b,0,none⟩) n n,.list sz (vs.map .v) n b 0 n (fun i=>vs.getD i undef) uI (Nat.le_refl _) iO (Nat.lt_of_lt_of_le q1 h.fr.size) (fun hl=>hl.elim O (h.fr.block b q1 q2).2) (fun i hi=>?_) (fun i hi=>?_),fun w' _=>?_⟩
 ·have E:i<vs.length:=(by simpa using hi)
  have:=(h.aN hg (getElem?_eq_getElem E)).cell (RJ qS (getElem?_eq_getElem E));rw[Nat.zero_add,this];simp[E]
 ·have E:i<vs.length:=(by simpa using hi)
  simp only[getElem_map,getD_eq_getElem?_getD,getElem?_eq_getElem E,Option.getD_some];exact .v _
 unfold execOp;have b3:(Instr.sliceBounds false n n none none none).run P w' = .ok (0,n,n) w':=(by unfold Instr.sliceBounds;simp)
 simp only[ho,h.flat hy,Instr.sliceAt,I,Instr.sureAddr,Sem.run_bind,Result.andThen_ok,Option.map_none,Sem.run_pure,b3,hs,Nat.sub_zero];rw[if_neg hn];simp[Addr.add_mid]
theorem TY {g:α->List D} {ls:List α} {e:TypeId} {l' h':Nat} {vs:List Value} (hg:(b,vs)∈G) (I:vs.map D.v=ls.flatMap g) (E:n=ls.length)
  (O:∀w,(underlying t).run P w = .ok (.array n e) w) (hs:∀w,(sizeOf e).run P w = .ok sz w) (hl:vs.length=n*sz) (hn:n≠0) (iO:n<=maxLen) (qS:vs.all ru=true:=by rfl):Rs P G t none none l' h' (.v (.pointer (some ⟨b,0,none⟩))) (.list sz (ls.flatMap g) ls.length):=fun x o y ho hy _ _=>by
 have:=aaj (P:=P) (G:=G) ho hy hg O hs hl hn iO qS;rw[I,E] at this;exact this
theorem vb{x y:Bool}(h:x=y):D.v (.bool x)=D.v (.bool y):=by rw[h]
theorem vi{k:IntKind}{x y:Int}(h:x=y):D.v (.int k x)=D.v (.int k y):=by rw[h]
theorem vs{x y:ByteArray}(h:x=y):D.v (.string x)=D.v (.string y):=by rw[h]
def cB(b:UInt8):List D:=[vA b]
theorem pX(b:UInt8):(cB b).length=1:=rfl
theorem xx(b:UInt8):(cB b).all one=true:=rfl
theorem K3(bs:List UInt8):bs.flatMap cB=bs.map vA:=by
 induction bs with
 | nil=>rfl
 | cons a r ih=>rw[flatMap_cons,ih];rfl
theorem adu(bs:List UInt8):pu bs=bs.flatMap cB:=(K3 bs).symm
def cS(s:ByteArray):List D:=[.v (.string s)]
theorem jU(s:ByteArray):(cS s).length=1:=rfl
theorem ZY{s e:TypeId}{bs:List UInt8}(ho:o.op = .convert s t y)(hy:aG x y = .list 1 (bs.flatMap cB) n)(hs:P.underlying s=some (.slice e))(he:P.underlying e=some (.int .u8))(ht:P.underlying t=some .string) :
  bX P G x o .kC (.v (.string ⟨bs.toArray⟩)):=Z5 ho (by rw[hy,K3]) hs he ht
def mC(s:ByteArray)(k:Nat):UInt8:=s.data.toList.getD k 0
theorem K4{s:ByteArray}(h:k<s.size):s[k]?=some (mC s k):=by
 have h':k<s.data.size:=h;rw[getElem?_pos s k h];congr 1;show s.data[k]=_;simp only[mC,getD_eq_getElem?_getD,Array.getElem?_toList,Array.getElem?_eq_getElem h',Option.getD_some]
theorem lF(s:ByteArray):s.data.toList.length=s.size:=by rw[Array.length_toList];rfl
theorem wV(s:ByteArray):s.toList=s.data.toList:=by rw[ByteArray.toList_eq]
theorem IL{s:ByteArray}(h:k<s.data.toList.length):s.data.toList[k]=mC s k:=by simp only[mC,getD_eq_getElem?_getD,getElem?_eq_getElem h,Option.getD_some]
theorem agI{s:ByteArray}(h:(!(s.toList==(⟨#[]⟩:ByteArray).toList))=true):0<s.size:=by
 rcases Nat.eq_zero_or_pos s.size with h0|h0
 ·have:s.data.toList=[]:=eq_nil_of_length_eq_zero (by rw[lF,h0]);rw[wV,wV,this] at h;cases h
 exact h0
theorem vh{s:ByteArray}:(s.toList==(⟨#[]⟩:ByteArray).toList)=decide (s.size=0):=by
 rw[Bool.eq_iff_iff,beq_iff_eq,decide_eq_true_eq,wV,wV,<-lF];exact⟨fun h=>by rw[h];rfl,fun h=>eq_nil_of_length_eq_zero h⟩
theorem Kg{s t:ByteArray}(h:s.data.toList=t.data.toList):s=t:=by
 obtain⟨⟨a⟩⟩:=s;obtain⟨⟨b⟩⟩:=t;simp only at h;rw[h]
def ja(a b:ByteArray):Bool:=a.toList==b.toList
theorem qC{a b:ByteArray}:ja a b=true↔a=b:=by
 unfold ja;rw[beq_iff_eq,wV,wV];exact⟨Kg,fun h=>by rw[h]⟩
theorem bn.str{s:ByteArray}(h:bn e 1 (ls.flatMap cB++pu s.data.toList) (ls.length+s.size) ad cap S):bn e 1 ((ls++s.data.toList).flatMap cB) (ls++s.data.toList).length ad cap S:=by
 rw[flatMap_append,<-adu s.data.toList,length_append,lF];exact h
theorem OD.aaU {s:Operand} {t:Nat} {str:ByteArray} (hw:cj ops x o true) (ho:o.op = .call {callee:=.builtin .append,args:=#[s,y],argTypes:=#[t,u]}) (hd:o.dst=some tt)
  (ht:P.underlying t=some (.slice e)) (hu:P.underlying u=some .string) (hi:(P.info? e).map (fun i=>(i.zero,i.size,i.bytes))=some (some (.int .u8 0),1,1))
  (hs:aG x s = .v (.slice ad ls.length cap)) (U:bn e 1 (ls.flatMap cB) ls.length ad cap Sq) (hp:x.S.Perm (Sq++R)) (hy:aG x y = .v (.string str)) (Z:ls.length+str.size<=maxLen) (I:ls.length+str.size<=140737488355328)
  (K:∀O E S',bn e 1 ((ls++str.data.toList).flatMap cB) (ls++str.data.toList).length O E S'->OD P C ops l ⟨x.n,(tt,.v (.slice O (ls++str.data.toList).length E))::x.env,S'++R⟩ Q) (hne:isMap e=false:=by rfl):OD P C ops (o::l) x Q :=
 OD.abI (hne:=hne) hw ho hd ht hu hi hs U hp (by rw[cm pX,Nat.mul_one]) hy Z I fun O E S' h=>by
  have:=K O E S' h.str;rw[length_append,lF] at this;exact this
def dK(p:α->Bool)(ls:List α):Int:=match ls.findIdx? p with|some i=>i|none=>-1
theorem tU{p:α->Bool}{ls:List α}(hk:k<ls.length)(h0:∀x∈ls.take k,p x=false)(h1:p ls[k]=true):dK p ls=k:=by
 have:ls.findIdx? p=some k:=by
  rw[findIdx?_eq_some_iff_getElem];refine⟨hk,h1,fun j hj=>?_⟩;have:=h0 ls[j] (mem_take_iff_getElem.2 ⟨j,by omega,rfl⟩);simp[this]
 simp[dK,this]
theorem wO{p:α->Bool}{ls:List α}(hk:¬(k<ls.length))(h0:∀x∈ls.take k,p x=false):dK p ls = -1:=by
 have:ls.findIdx? p=none:=by
  rw[findIdx?_eq_none_iff];intro x hx;rw[take_of_length_le w4] at h0;exact h0 x hx
 simp[dK,this]
theorem RR{p:α->Bool}{ls:List α}:decide (dK p ls>=0)=ls.any p:=by
 unfold dK;cases h:ls.findIdx? p with
 | none =>
  have:=findIdx?_eq_none_iff.1 h;simp;exact this
 | some i =>
  obtain⟨h1,h2,_⟩:=findIdx?_eq_some_iff_getElem.1 h;simp only[ge_iff_le,Int.natCast_nonneg,decide_true];exact(any_eq_true.2 ⟨_,getElem_mem h1,h2⟩).symm
theorem zh{p:α->Prop}{ls:List α}(hk:k<ls.length)(h0:∀x∈ls.take k,p x)(h1:p ls[k]):∀x∈ls.take (k+1),p x:=by
 rw[take_succ_eq_append_getElem hk];intro x hx;rcases mem_append.1 hx with hx|hx
 ·exact h0 x hx
 simp only[mem_singleton] at hx;subst hx;exact h1

end Go.Proofs.YtbplamgacibdaaaGreatDoor.V
namespace Go.Proofs.YtbplamgacibdaaaGreatDoor.V
open List
open Go.RowKit
variable {P:Program} {C:dG} {G:List (Nat×List Value)} {Q:Exit->St->Prop} {ops:Array Oper} {l l2:List Oper} {o:Oper} {n t:Nat} {d:D} {e e' l':List (Nat×D)} {S:List ah} {ts:List Nat} {c:Bool}
variable {q:Nat} {ld:Array Bool}
theorem zq{a:Act}{w:World}{K:Act->World->Prop}{R:Exit->Act->World->Prop}(h:o.wp P a w K R):o.wp P a w (fun a' w'=>K a' w'/\∃v,a'.tmps=(a.put o.dst v).tmps) R:=by
 unfold Oper.wp at *;generalize (execOp a.eval o).run P w=r at *;cases r with
 | ok x w' =>
  cases x<;>simp only[Oper.upon] at h |- <;>
   first
    | exact⟨h,_,rfl⟩
    | exact Calls.mono h (fun e E he=>by cases e<;>first|exact⟨he,_,rfl⟩|exact he)
    | exact Rows.mono h (fun _ _ he=>⟨he,_,rfl⟩)
    | (refine⟨h,undef,?_⟩;unfold Act.put;cases o.dst<;>rfl)
 | halt x w'=>cases x<;>simp only[Oper.upon] at h |-<;>exact h
theorem bI.zO{a a':Act}{w w':World}{v:Value}(h:bI C ⟨n,e,S⟩ a w)(k:bI C ⟨n,(t,d)::l',S⟩ a' w')(hf:Fr w (av S) w' (av S))(I:a'.tmps=(a.put (some t) v).tmps):bI C ⟨n,(t,d)::e,S⟩ a' w':=by
 refine⟨k.defers,k.size,fun q hq=>?_,k.own,k.fr,k.ex,k.eV⟩;by_cases E:t=q
 ·subst E;have:=k.env t hq;simp only[ga,if_pos] at this |-;exact this
 have h1:=h.env q hq;have h2:a'.tmps.getD q undef=a.tmps.getD q undef:=(by rw[I];simp[Act.put,Array.getD_eq_getD_getElem?,Array.getElem?_setIfInBounds,E])
 simp only[ga,if_neg E];rw[h2];exact h1.mono fun b hb hn=>⟨(hf.block b hb (fun hm=>hn (.inr hm))).1,hn⟩
theorem fU.zO(hd:o.dst=some t)(h:fU P G ⟨n,l',S⟩ o [] (fun y=>y=⟨n,(t,d)::l',S⟩))(hs:nZ e l'):fU P G ⟨n,e,S⟩ o [] (fun y=>y=⟨n,(t,d)::e,S⟩):=fun C a w K R hG E hK=>by
 have h1:=h C a w (fun a' w'=>bI C ⟨n,(t,d)::l',S⟩ a' w'/\mq [] w w'/\Fr w (av S) w' (av S)) R hG (Wk.kO hs C a w E) (fun y a' w' hy I hc hf=>by subst hy;exact⟨I,hc,hf⟩);refine Oper.wp_mono (fun a' w' h2=>?_) (zq h1);obtain⟨⟨h3,h4,h5⟩,v,h6⟩:=h2;rw[hd] at h6;exact hK _ a' w' rfl (E.zO h3 h5 h6) h4 h5
def mH(ops:Array Oper)(o:Oper)(ts:List Nat):Bool:=(range ops.size).all fun j=>match ops[j]? with
 | some p=>(match p.dst with
  | some t=>!(ts.elem t)||o.after.any (fun e=>Region.binds .any e&&Nat.beq e.on j)
  | none=>true)
 | none=>true
def mM(ops:Array Oper):Bool:=(range ops.size).all fun i=>match ops[i]? with
 | some o=>o.after.all (fun e=>!Region.binds .any e||Nat.blt e.on i)&&(match o.dst with
  | some t=>(range i).all fun j=>match ops[j]? with
   | some p=>(match p.dst with|some q=>!(Nat.beq q t)|none=>true)
   | none=>true
  | none=>false)
 | none=>true
inductive PD (c:Bool) (P:Program) (G:List (Nat×List Value)) (n:Nat) (S:List ah) (ops:Array Oper):List Oper->List (Nat×D)->List Oper->List (Nat×D)->Prop
 | nil {l:List Oper} {e:List (Nat×D)}:PD c P G n S ops l e l e
 | cons {o:Oper} {l l2:List Oper} {t:Nat} {d:D} {e e' l':List (Nat×D)} {ts:List Nat} (hd:o.dst=some t) (hr:fH ts e l') (hq:(!c||mH ops o ts)=true) (hw:cj ops ⟨n,l',S⟩ o true)
   (h:fU P G ⟨n,l',S⟩ o [] (fun y=>y=⟨n,(t,d)::l',S⟩)) (k:PD c P G n S ops l ((t,d)::e) l2 e'):PD c P G n S ops (o::l) e l2 e'
 | skip {o:Oper} {l l2:List Oper} {t:Nat} {e e' l':List (Nat×D)} {ts:List Nat} (hd:o.dst=some t) (hr:fH ts e l') (hq:(!c||mH ops o ts)=true) (hw:cj ops ⟨n,l',S⟩ o false)
   (k:PD c P G n S ops l ((t,.v (.tuple #[]))::e) l2 e'):PD c P G n S ops (o::l) e l2 e'
theorem PD.od(h:PD c P C.G n S ops l e l2 e')(K:OD P C ops l2 ⟨n,e',S⟩ Q):OD P C ops l ⟨n,e,S⟩ Q:=by
 induction h with
 | nil=>exact K
 | cons hd hr hq hw h k ih=>exact OD.gj (fun C a w hs=>hw C a w (Wk.kO hr.kO C a w hs)) (h.zO hd hr.kO) fun y hy=>by subst hy;exact ih K
 | skip hd hr hq hw k ih=>exact OD.skip (fun C a w hs=>hw C a w (Wk.kO hr.kO C a w hs)) hd (ih K)
def Gd(P:Program)(G:List (Nat×List Value))(n:Nat)(S:List ah)(ops:Array Oper)(eF:List (Nat×D))(i:Nat):Prop :=
 ∃o t ts l',ops[i]?=some o/\o.dst=some t/\mH ops o ts=true/\(∀p∈l',p.1∈ts/\look p.1 eF=look p.1 l')/\l'.map (·.1)=ts /\
  ((cj ops ⟨n,l',S⟩ o true/\fU P G ⟨n,l',S⟩ o [] (fun y=>y=⟨n,(t,look t eF)::l',S⟩))\/(cj ops ⟨n,l',S⟩ o false/\look t eF = .v (.tuple #[])))
theorem fH.keys(h:fH ts e l'):l'.map (·.1)=ts:=by
 induction h with
 | nil=>rfl
 | cons h k ih=>rw[map_cons,ih]
theorem fH.at(h:fH ts e l')(hq:q∈ts):look q l'=look q e:=by
 induction h with
 | nil=>cases hq
 | @cons t ts d e l' h k ih =>
  rw[ga];by_cases E:t=q
  ·subst E;rw[if_pos rfl,h]
  rw[if_neg E];rcases mem_cons.1 hq with rfl|hm
  ·exact absurd rfl E
  exact ih hm
theorem xq(h:mM ops=true){i:Nat}{o:Oper}(hi:ops[i]?=some o):(∀e∈o.after,Region.binds .any e=true->e.on<i)/\∃t,o.dst=some t/\∀j p,j<i->ops[j]?=some p->p.dst≠some t:=by
 have aa:=(Array.getElem?_eq_some_iff.1 hi).1;have:=all_eq_true.1 h i (mem_range.2 aa);simp only[hi,Bool.and_eq_true] at this;obtain⟨h1,h2⟩:=this;refine⟨fun e he hb=>?_,?_⟩
 ·have:=Array.all_eq_true'.1 h1 e he;simp only[hb,Bool.not_true,Bool.false_or] at this;exact Nat.le_of_ble_eq_true this
 cases hd:o.dst with
 | none=>rw[hd] at h2;cases h2
 | some t =>
  rw[hd] at h2;refine⟨t,rfl,fun j p hj hp hq=>?_⟩;have:=all_eq_true.1 h2 j (mem_range.2 hj);simp only[hp,hq,Bool.not_eq_true'] at this;have h3:Nat.beq t t=true:=Nat.beq_refl t;rw[h3] at this;cases this
theorem FB(h:mH ops o ts=true){j:Nat}{p:Oper}(hj:ops[j]?=some p)(hp:p.dst=some q)(hq:q∈ts):∃e∈o.after,Region.binds .any e=true/\e.on=j:=by
 have aa:=(Array.getElem?_eq_some_iff.1 hj).1;have:=all_eq_true.1 h j (mem_range.2 aa);simp only[hj,hp] at this;rw[show ts.elem q=true from elem_eq_true_of_mem hq] at this;simp only[Bool.not_true,Bool.false_or] at this;obtain⟨e,he,hb⟩:=Array.any_eq_true'.1 this;rw[Bool.and_eq_true] at hb;exact⟨e,he,hb.1,Nat.eq_of_beq_eq_true hb.2⟩
theorem PD.later(h:PD c P G n S ops l e l2 e')(hq:∀o∈l,o.dst≠some q):look q e'=look q e:=by
 induction h with
 | nil=>rfl
 | @cons o l l2 t d e e' l' ts hd hr AR hw h k ih =>
  rw[ih fun p hp=>hq p (mem_cons_of_mem _ hp),ga,if_neg (fun e1:t=q=>hq o mem_cons_self (by rw[<-e1];exact hd))]
 | @skip o l l2 t e e' l' ts hd hr AR hw k ih =>
  rw[ih fun p hp=>hq p (mem_cons_of_mem _ hp),ga,if_neg (fun e1:t=q=>hq o mem_cons_self (by rw[<-e1];exact hd))]
theorem PD.vK(hp:mM ops=true)(h:PD true P G n S ops l e l2 e'):l2=[]->∀k,ops.toList.drop k=l->∀i,k<=i->i<ops.size->Gd P G n S ops e' i:=by
 induction h with
 | nil =>
  intro gp k hk i h1 h2;rw[gp,drop_eq_nil_iff] at hk;simp at hk;omega
 | @cons o l l2 t d e e' l' ts hd hr AR hw h k0 ih =>
  intro gp k hk i h1 h2;have aW:ops.toList[k]?=some o:=(by rw[<-head?_drop,hk];rfl)
  have Ae:ops[k]?=some o:=(by rw[<-Array.getElem?_toList];exact aW)
  have jM:ops.toList.drop (k+1)=l:=(by rw[<-drop_drop,hk];rfl)
  rcases Nat.eq_or_lt_of_le h1 with rfl|h1
  ·have lB:∀j p,k<j->ops[j]?=some p->p.dst≠some t:=fun j p hj HD jq=>by
    exact WJ
   have aa:∀p∈l,p.dst≠some t:=fun p fx=>by
    exact WB
   have E:look t e'=d:=(by rw[k0.later aa,ga,if_pos rfl])
   refine⟨o,t,ts,l',Ae,hd,by simpa using AR,fun p fx=>?_,hr.keys,.inl ⟨hw,by rw[E];exact h⟩⟩;exact z49
  exact ih gp (k+1) jM i h1 h2
 | @skip o l l2 t e e' l' ts hd hr AR hw k0 ih =>
  intro gp k hk i h1 h2;have aW:ops.toList[k]?=some o:=(by rw[<-head?_drop,hk];rfl)
  have Ae:ops[k]?=some o:=(by rw[<-Array.getElem?_toList];exact aW)
  have jM:ops.toList.drop (k+1)=l:=(by rw[<-drop_drop,hk];rfl)
  rcases Nat.eq_or_lt_of_le h1 with rfl|h1
  ·have lB:∀j p,k<j->ops[j]?=some p->p.dst≠some t:=fun j p hj HD jq=>by
    exact WJ
   have aa:∀p∈l,p.dst≠some t:=fun p fx=>by
    exact WB
   have E:look t e' = .v (.tuple #[]):=(by rw[k0.later aa,ga,if_pos rfl])
   refine⟨o,t,ts,l',Ae,hd,by simpa using AR,fun p fx=>?_,hr.keys,.inr ⟨hw,E⟩⟩;exact z49
  exact ih gp (k+1) jM i h1 h2
def left(N:Nat)(ld:Array Bool):Nat:=((range N).filter fun j=>!ld.getD j true).length
theorem zu{N i:Nat}(hi:i<N)(hl:ld.getD i true=false):left N (ld.setIfInBounds i true)<left N ld:=by
 unfold left;have E:i<ld.size:=by
  rcases Nat.lt_or_ge i ld.size with h|h
  ·exact h
  rw[Array.getD_eq_getD_getElem?,Array.getElem?_eq_none h] at hl;cases hl
 have h1:(range N).filter (fun j=>!(ld.setIfInBounds i true).getD j true)=((range N).filter fun j=>!ld.getD j true).filter (fun j=>!decide (j=i)):=by
  rw[filter_filter];congr 1;funext j;by_cases hj:j=i
  ·subst hj;simp[Array.getD_eq_getD_getElem?,Array.getElem?_setIfInBounds,E]
  simp[Array.getD_eq_getD_getElem?,Array.getElem?_setIfInBounds,hj,Ne.symm hj]
 rw[h1];refine length_filter_lt_length_iff_exists.2 ⟨i,mem_filter.2 ⟨mem_range.2 hi,by simp[hl]⟩,by simp⟩
theorem K5(hp:mM ops=true)(hr:Region.ready .any ops ld=[]):∀j,j<ops.size->ld.getD j true=true:=fun j=>by
 induction j using Nat.strongRecOn with
 | _ j ih =>
  intro hj;cases hl:ld.getD j true with
  | true=>rfl
  | false =>
   have ho:ops[j]?=some ops[j]:=Array.getElem?_eq_getElem hj;have:j∈Region.ready .any ops ld:=mem_ready.2 ⟨hl,ops[j],ho,fun e he hb=>by
    have aa:=(xq hp ho).1 e he hb;have:=ih e.on aa w4;rw[Array.getD_eq_getD_getElem?] at this |-;cases hq:ld[e.on]? with
    | none =>
     have h3:ld.size<=e.on:=Array.getElem?_eq_none_iff.1 hq;rw[Array.getD_eq_getD_getElem?,Array.getElem?_eq_none w4] at hl;cases hl
    | some b=>rw[hq] at this;exact this⟩
   rw[hr] at this;cases this
theorem Fh{q:Nat}:∀{r:List (Nat×D)},¬q∈r.map (·.1)->look q r = .bY
 | [],_=>rfl
 | (p1,p2)::r,hm=>by
  rw[map_cons,mem_cons,not_or] at hm;rw[ga,if_neg (fun e1=>hm.1 e1.symm)];exact Fh hm.2
theorem agJ{O:List (Nat×D)}{w1:World}{S1:List Nat}(hS1:av S=S1)(hp:mM ops=true)(H:∀i,i<ops.size->Gd P C.G n S ops O i)(hQ:Q .normal ⟨n,O,S⟩):∀(fuel:Nat) (ld:Array Bool) (env:List (Nat×D)) (a:Act) (w:World),
  left ops.size ld<=fuel->bI C ⟨n,env,S⟩ a w->Fr w1 S1 w S1->(∀q,(∀j o,ops[j]?=some o->o.dst=some q->ld.getD j true=true)->look q env=look q O)->wpAnyH P .any ops (LQ C Q) (lm w1 S1 []) fuel ld a w:=by
 have dN:∀(ld:Array Bool) (env:List (Nat×D)) (a:Act) (w:World),bI C ⟨n,env,S⟩ a w->(∀q,(∀j o,ops[j]?=some o->o.dst=some q->ld.getD j true=true)->look q env=look q O)->(∀j,j<ops.size->ld.getD j true=true)->LQ C Q .normal a w:=fun ld env a w hs he ek =>
  .inl ⟨⟨n,O,S⟩,⟨hs.defers,hs.size,fun q hq=>by have:=hs.env q hq;rw[he q fun j o hj _=>ek j (Array.getElem?_eq_some_iff.1 hj).1] at this;exact this,hs.own,hs.fr,hs.ex,hs.eV⟩,hQ⟩
 intro fuel;induction fuel with
 | zero =>
  intro ld env a w hl hs hf he;have ek:∀j,j<ops.size->ld.getD j true=true:=fun j hj=>by
   cases hq:ld.getD j true with
   | true=>rfl
   | false=>have:=zu hj hq;omega
  refine⟨?_,dN ld env a w hs he ek⟩;rw[eq_nil_iff_forall_not_mem];intro j hj;obtain⟨h1,o,h2,_⟩:=mem_ready.1 hj;have:=ek j (Array.getElem?_eq_some_iff.1 h2).1;rw[h1] at this;cases this
 | succ fuel ih =>
  intro ld env a w hl hs hf he;refine⟨fun h0=>dN ld env a w hs he (K5 hp h0),fun i hi=>?_⟩;obtain⟨j4,o,E,CJ⟩:=mem_ready.1 hi;have aa:=(Array.getElem?_eq_some_iff.1 E).1;obtain⟨o',t,ts,l',h1,hd,hq,mu,hk,hb⟩:=H i aa;rw[E] at h1;obtain rfl:=Option.some.inj h1;have W4:=zu aa j4;have sS:∀j,(ld.setIfInBounds i true).getD j true=true↔j=i\/ld.getD j true=true:=fun j=>by
   by_cases hj:j=i
   ·subst hj;have jh:j<ld.size:=by
     rcases Nat.lt_or_ge j ld.size with h|h
     ·exact h
     rw[Array.getD_eq_getD_getElem?,Array.getElem?_eq_none h] at j4;cases j4
    simp[Array.getD_eq_getD_getElem?,Array.getElem?_setIfInBounds,jh]
   simp[Array.getD_eq_getD_getElem?,Array.getElem?_setIfInBounds,hj,Ne.symm hj]
  have YM:∀{r:List (Nat×D)},(∀p∈r,look p.1 env=p.2)->nZ env r:=by
   intro r;induction r with
   | nil=>intro _;trivial
   | cons p r ihr=>intro hr;exact⟨hr p mem_cons_self,ihr fun p' AS=>hr p' (mem_cons_of_mem _ AS)⟩
  have ajB:∀p∈l',look p.1 env=look p.1 l':=fun p fx=>by
   obtain⟨h2,h3⟩:=mu p fx;rw[<-h3];refine he p.1 fun j oj hj jq=>?_;obtain⟨e1,tq,iM,j7⟩:=FB hq hj jq h2;have:=CJ e1 tq iM;rw[j7] at this;rw[Array.getD_eq_getD_getElem?] at this |-;cases hx:ld[j]? with
   | none=>rw[hx] at this;cases this
   | some b=>rw[hx] at this;exact this
  have U:bI C ⟨n,l',S⟩ a w:=⟨hs.defers,hs.size,fun q DA=>by
   by_cases hm:q∈ts
   ·rw[<-hk] at hm;obtain⟨p,fx,rfl⟩:=mem_map.1 hm;have:=hs.env p.1 DA;rw[ajB p fx] at this;exact this
   have:look q l' = .bY:=by
    rw[<-hk] at hm;exact Fh hm
   rw[this];exact .bY _,hs.own,hs.fr,hs.ex,hs.eV⟩
  have jC:∀(a':Act) (w':World),bI C ⟨n,(t,look t O)::env,S⟩ a' w'->Fr w (av S) w' (av S)->lm w1 S1 [] w'/\wpAnyH P .any ops (LQ C Q) (lm w1 S1 []) fuel (ld.setIfInBounds i true) a' w':=fun a' w' Z uO=>by
   have jN:Fr w1 S1 w' S1:=hf.trans (hS1 ▸ uO);refine⟨⟨fun b h2 h3=>(jN.block b h2 h3).1,fun b h2=>by cases h2⟩,ih _ _ a' w' w4 Z jN fun q rU=>?_⟩;rw[ga];by_cases I:t=q
   ·rw[if_pos I,I]
   rw[if_neg I];refine he q fun j oj hj jq=>?_;rcases(sS j).1 (rU j oj hj jq) with rfl|h2
   ·rw[E] at hj;obtain rfl:=Option.some.inj hj;rw[hd] at jq;exact absurd (Option.some.inj jq) I
   exact h2
  unfold wpOp;rw[E];rcases hb with ⟨hw,hE⟩|⟨hw,hv⟩
  ·simp only[hw C a w U,if_true];have h2:=hE C a w (fun a' w'=>bI C ⟨n,(t,look t O)::l',S⟩ a' w'/\Fr w (av S) w' (av S)) (LQ C Q) rfl U (fun y a' w' hy Z _ uO=>by subst hy;exact⟨Z,uO⟩);refine .inl (Oper.wp_mono (fun a' w' h3=>?_) (zq h2));obtain⟨⟨h4,h5⟩,v,h6⟩:=h3;rw[hd] at h6;exact jC a' w' (hs.zO h4 h5 h6) h5
  simp only[hw C a w U,hd];have:=hs.put (t:=t) (.v (w:=w) (L:=live C.X S) undef);rw[hv] at jC;exact jC _ w this (Fr.refl _ _)
theorem dM.pd(hp:mM ops=true)(h:PD true P C.G n S ops ops.toList e [] e')(hQ:Q .normal ⟨n,e',S⟩):dM P C ops (av S) [] ops.size (Array.replicate ops.size false) ⟨n,e,S⟩ Q:=fun a w hs _ _=>by
 have hg:=h.vK hp rfl 0 rfl;refine agJ rfl hp (fun i hi=>hg i (Nat.zero_le _) hi) hQ _ _ e a w ?_ hs (Fr.refl _ _) fun q hq=>?_
 ·unfold left;exact Nat.le_trans (length_filter_le _ _) bq
 refine(h.later fun o ho hd=>?_).symm;obtain⟨j,hj,rfl⟩:=mem_iff_getElem.1 ho;have E:j<ops.size:=(by simpa using hj)
 have:=hq j _ (by rw[<-Array.getElem?_toList,getElem?_eq_getElem hj]) hd;simp[Array.getD_eq_getD_getElem?,E] at this
theorem CD.pd{id:Nat}{E:Bool}(hm:E=true->P.follows .mixedOrders=true)(hp:E=true->mM l.toArray=true)(h:PD E P C.G n S l.toArray l e [] e')(hQ:Q .normal ⟨n,e',S⟩):CD P C (.region id l.toArray E) ⟨n,e,S⟩ Q:=by
 cases E with
 | false=>exact CD.region (h.od (OD.nil hQ))
 | true=>exact CD.draw [] (hm rfl) (fun _ hb=>by cases hb) (dM.pd (hp rfl) h hQ)

end Go.Proofs.YtbplamgacibdaaaGreatDoor.V
namespace Go.Proofs.YtbplamgacibdaaaGreatDoor.V
open List
open Go.RowKit
variable {P:Program} {G:List (Nat×List Value)} {x:St} {o:Oper} {C:dG} {Q:Exit->St->Prop} {ops:Array Oper} {l:List Oper}
variable {L:Nat->Prop} {ks:List Int} {i b:Nat} {k:Int} {kt:TypeId} {y:Operand}
def vB(ks:List Int):List D:=ks.map fun k=>.v (.int .i64 k)
def lp(b:Nat)(ks:List Int):ah:=⟨b,zz,ks.length,vB ks⟩
theorem adw{w:World}{cur:Array Value}(h2:cur.size=ks.length)(h4:∀i (h:i<(vB ks).length),∃u,cur[i]?=some u/\cq w L (vB ks)[i] u):cur=(ks.map (Value.int .i64)).toArray:=by
 apply Array.ext (by simp[h2]);intro i q1 q2;have hi:i<ks.length:=(by omega)
 obtain⟨u,hu,hr⟩:=h4 i (by simpa[vB] using hi);simp only[vB,getElem_map] at hr;have:=hr.lj;subst this;have e:=(Array.getElem?_eq_some_iff.1 hu).2;rw[e];simp
theorem bI.ah4 {a:Act} {w:World} (h:bI C x a w) {B B':ah} {l9:Array Value} (hk:x.S[i]?=some B) (hb:B'.b=B.b) (h2:l9.size=B'.size) (h3:B'.cs.length<=B'.size)
  (h4:∀j (hj:j<B'.cs.length),∃u,l9[j]?=some u/\cq w (live C.X x.S) B'.cs[j] u) :
  bI C ⟨x.n,x.env,x.S.set i B'⟩ a {w with heap:=w.heap.setIfInBounds B.b (ob B'.e l9)}/\mq [B.b] w {w with heap:=w.heap.setIfInBounds B.b (ob B'.e l9)}/\Fr w (av x.S) {w with heap:=w.heap.setIfInBounds B.b (ob B'.e l9)} (av (x.S.set i B')):=by
 obtain⟨h0,cur,r1,r2,r3,r4⟩:=h.fJ hk;generalize I:({w with heap:=w.heap.setIfInBounds B.b (ob B'.e l9)}:World)=w';have i1:w'.heap[B.b]?=some (ob B'.e l9):=(by rw[<-I];simp[h0])
 have i2:∀b,b≠B.b->w'.heap[b]?=w.heap[b]?:=fun b hn=>by rw[<-I];simp[Ne.symm hn]
 have i3:w'.heap.size=w.heap.size:=(by rw[<-I];simp)
 have i4:w'.os=w.os:=(by rw[<-I])
 have i5:w'.tape=w.tape:=(by rw[<-I])
 have i6:w'.output=w.output:=(by rw[<-I])
 have eo:i<x.S.length:=(List.getElem?_eq_some_iff.1 hk).1;have wj:x.S[i]=B:=(List.getElem?_eq_some_iff.1 hk).2;have E:av (x.S.set i B')=av x.S:=by
  unfold av;rw[map_set];apply ext_getElem bq;intro j q1 q2;rw[getElem_set];split
  ·rename_i e;subst e;simp[wj,hb]
  rfl
 have O:live C.X (x.S.set i B')=live C.X x.S:=(by funext b;simp only[live,E])
 have hB:live C.X x.S B.b:=RL hk;have H:∀b,b<w.heap.size->¬live C.X x.S b->w'.heap[b]?=w.heap[b]?/\¬live C.X x.S b:=fun b _ hn=>⟨i2 b (fun e=>hn (e ▸ hB)),hn⟩
 refine⟨⟨h.defers,h.size,fun t ht=>?_,⟨fun B2 hB2=>?_,?_⟩,?_,h.ex,h.eV⟩,⟨by rw[i3];exact Nat.le_refl _,fun b _ hn=>i2 b (by simpa using hn)⟩,?_⟩
 ·simp only[O];exact(h.env t ht).mono H
 ·simp only[O];obtain⟨j,hj,U⟩:=mem_iff_getElem.1 hB2;rw[length_set] at hj;rw[getElem_set] at U;by_cases e:i=j
  ·rw[if_pos e] at U;subst U;refine⟨by rw[i3,hb];exact h0,l9,by rw[hb];exact i1,h2,h3,fun q hq=>?_⟩;obtain⟨u,hu,Od⟩:=h4 q hq;exact⟨u,hu,Od.mono H⟩
  rw[if_neg e] at U;subst U;have hne:x.S[j].b≠B.b:=fun he=>by
   have Dq:(av x.S)[j]'AH=(av x.S)[i]'AF:=(by simp[av,he,wj])
   have hp:=pairwise_iff_getElem.1 h.own.apart;rcases Nat.lt_trichotomy j i with Z|Z|Z
   ·exact hp j i AH AF Z Dq
   ·exact e Z.symm
   exact hp i j AF AH Z Dq.symm
  obtain⟨q0,om,q1,q2,q3,q4⟩:=h.own.at_ x.S[j] (getElem_mem hj);refine⟨by rw[i3];exact q0,om,(i2 _ hne).trans q1,q2,q3,fun q hq=>?_⟩;obtain⟨u,hu,Od⟩:=q4 q hq;exact⟨u,hu,Od.mono H⟩
 ·simp only[E];exact h.own.apart
 ·refine⟨i4.trans h.fr.os,i5.trans h.fr.tape,i6.trans h.fr.output,by rw[i3];exact h.fr.size,fun b ke hn=>?_⟩;obtain⟨q1,q2⟩:=h.fr.block b ke hn;refine⟨(i2 b (fun e=>q2 (e ▸ mem_map.2 ⟨B,mem_of_getElem? hk,rfl⟩))).trans q1,?_⟩;simp only[E];exact q2
 rw[E];exact⟨i4,i5,i6,by rw[i3];exact Nat.le_refl _,fun b ke hn=>⟨i2 b (fun e=>hn (e ▸ mem_map.2 ⟨B,mem_of_getElem? hk,rfl⟩)),hn⟩⟩
theorem aax{t:TypeId}{tt:Nat}(ho:o.op = .makeMap t none)(hd:o.dst=some tt):fU P G x o [] (fun y=>∃b,y=⟨x.n,(tt,.v (.map (some b)))::x.env,lp b []::x.S⟩):=fun C a w K Q hG h hK=>by
 have:(execOp a.eval o).run P w = .ok (.value (.map (some w.heap.size))) (w.alloc (ob zz #[])):=by
  unfold execOp;simp[ho,Instr.makeMap,Vf,Ce]
 unfold Oper.wp;rw[this,Oper.upon_value,hd];exact hK _ _ _ ⟨w.heap.size,rfl⟩ (h.VW (ds:=[]) (cD.nil _ _) bq (fun L=>.v _)) (mq.alloc _ _) (Fr.alloc _ _ _)
theorem K6{w:World}(h:LF w L (lp b ks)):w.heap[b]?=some (Ce (ks.map (Value.int .i64)).toArray):=by
 obtain⟨h0,cur,h1,h2,h3,h4⟩:=h;have h2:cur.size=ks.length:=h2;have:=adw h2 h4;subst this;exact h1
theorem TZ{e:MapEntry}(h:e∈(Array.mapIdx (fun i k=>(⟨k,.agg #[],i⟩:MapEntry)) (ks.map (Value.int .i64)).toArray).toList):∃k∈ks,e.key = .int .i64 k/\e.val = .agg #[]:=by
 obtain⟨i,hi,rfl⟩:=mem_iff_getElem.1 h;have E:i<ks.length:=(by simpa using hi)
 exact⟨ks[i],getElem_mem E,by simp,by simp⟩
theorem RS:(k∉ks/\Instr.findNow (.int .i64) (.int .i64 k) (Array.mapIdx (fun i k=>(⟨k,.agg #[],i⟩:MapEntry)) (ks.map (Value.int .i64)).toArray).toList 0=some none) \/
  (k∈ks/\∃i,Instr.findNow (.int .i64) (.int .i64 k) (Array.mapIdx (fun i k=>(⟨k,.agg #[],i⟩:MapEntry)) (ks.map (Value.int .i64)).toArray).toList 0=some (some (i,.agg #[]))):=by
 rcases MapKept.findNow_spec (d:=.int .i64) (k:=.int .i64 k) (by simp[MapKept.IsKey]) (Array.mapIdx (fun i k=>(⟨k,.agg #[],i⟩:MapEntry)) (ks.map (Value.int .i64)).toArray).toList 0 (fun e he=>by
   obtain⟨k',_,h1,_⟩:=TZ he;rw[h1];simp[MapKept.IsKey]) with ⟨h1,h2⟩|⟨j,e,h1,h2,h3⟩
 ·refine .inl ⟨fun hm=>?_,h1⟩;obtain⟨i,hi,rfl⟩:=mem_iff_getElem.1 hm;exact h2 ((Array.mapIdx (fun i k=>(⟨k,.agg #[],i⟩:MapEntry)) (ks.map (Value.int .i64)).toArray).toList[i]'(by simpa using hi)) (getElem_mem _) bq
 obtain⟨k',qU,q1,q2⟩:=TZ (mem_of_getElem? h2);rw[h3] at q1;have:k=k':=(by simpa using q1)
 subst this;rw[q2] at h1;exact .inr ⟨qU,_,h1⟩
theorem abJ {U Z:TypeId} {z:Operand} (ho:o.op = .lookup U y z true) (hy:aG x y = .v (.map (some b))) (hz:aG x z = .v (.int .i64 k)) (hk:x.S[i]?=some (lp b ks))
  (hm:P.underlying U=some (.map kt Z)) (E:P.underlying kt=some (.int .i64)) (O:∀w,(zeroValue Z).run P w = .ok (.agg #[]) w):bX P G x o (.fJ i) (.da [.v (.agg #[]),.v (.bool (decide (k∈ks)))]):=fun C a w _ h=>by
 have h1:=K6 (h.fJ hk);refine⟨.tuple #[.agg #[],.bool (decide (k∈ks))],.da _ [.agg #[],.bool (decide (k∈ks))] rfl (fun j q1 q2=>?_),fun w' hw=>?_⟩
 ·rcases j with _|_|j
  ·exact .v _
  ·exact .v _
  simp at q1;omega
 have hh:w'.heap[b]?=_:=(hw _ hk).trans h1;have I:=MapKept.run_checkKey (P:=P) (w:=w') (kt:=kt) (d:=.int .i64) (k:=.int .i64 k) E (by simp[MapKept.IsKey]);unfold execOp;rcases RS (ks:=ks) (k:=k) with ⟨n1,n2⟩|⟨n1,j,n2⟩
 ·have hf:=MapKept.run_findKey (P:=P) (w:=w') E n2;simp only[ho,h.flat hy,h.flat hz,Instr.lookup,Sem.run_bind,run_underlying hm,MapKept.run_getObj_map hh,I,hf,O,Result.andThen_ok,Sem.run_pure,n1,decide_false,if_true]
 have hf:=MapKept.run_findKey (P:=P) (w:=w') E n2;simp only[ho,h.flat hy,h.flat hz,Instr.lookup,Sem.run_bind,run_underlying hm,MapKept.run_getObj_map hh,I,hf,Result.andThen_ok,Sem.run_pure,n1,decide_true,if_true]
theorem aaV {mt et:TypeId} {z u:Operand} (ho:o.op = .mapUpdate mt y z u) (hd:o.dst=none) (hy:aG x y = .v (.map (some b))) (hz:aG x z = .v (.int .i64 k)) (hu:aG x u = .agg []) (hk:x.S[i]?=some (lp b ks)) (hn:k∉ks)
  (hm:P.underlying mt=some (.map kt et)) (I:P.underlying kt=some (.int .i64)):fU P G x o [b] (fun s=>s=⟨x.n,x.env,x.S.set i (lp b (ks++[k]))⟩):=fun C a w K Q hG h hK=>by
 have h1:=K6 (h.fJ hk);have hv:a.eval u = .agg #[]:=by
  have:=h.eval u;rw[hu] at this;generalize a.eval u=v at this;cases this with
  | agg _ vs hl _ =>
   have:vs=[]:=eq_nil_of_length_eq_zero uI;subst this;rfl
 have U:=MapKept.run_checkKey (P:=P) (w:=w) (kt:=kt) (d:=.int .i64) (k:=.int .i64 k) I (by simp[MapKept.IsKey]);have hf:=(RS (ks:=ks) (k:=k)).resolve_right fun q=>hn q.1;have Z:=MapKept.run_findKey (P:=P) (w:=w) I hf.2;have E:Obj.map ((Array.mapIdx (fun i k=>(⟨k,.agg #[],i⟩:MapEntry)) (ks.map (Value.int .i64)).toArray).push ⟨.int .i64 k,.agg #[],(ks.map (Value.int .i64)).toArray.size⟩) ((ks.map (Value.int .i64)).toArray.size+1)=ob zz (((ks++[k]).map (Value.int .i64)).toArray):=by
  have e:((ks++[k]).map (Value.int .i64)).toArray=(ks.map (Value.int .i64)).toArray.push (.int .i64 k):=(by simp)
  rw[e,Vf,Ce,Array.mapIdx_push,Array.size_push]
 have O:(execOp a.eval o).run P w = .ok .skip {w with heap:=w.heap.setIfInBounds b (ob zz (((ks++[k]).map (Value.int .i64)).toArray))}:=by
  unfold execOp;simp only[ho,h.flat hy,h.flat hz,hv,Instr.mapUpdate,Sem.run_bind,run_underlying hm,MapKept.run_getObj_map h1,U,Z,Result.andThen_ok,MapKept.run_setObj_map _ h1,E,Sem.run_pure]
 obtain⟨s1,s2,s3⟩:=h.ah4 (B':=lp b (ks++[k])) (l9:=((ks++[k]).map (Value.int .i64)).toArray) hk rfl (by simp[lp]) (by simp[lp,vB]) (fun j hj=>by
  have kD:j<(ks++[k]).length:=(by simpa[lp,vB] using hj)
  refine⟨.int .i64 (ks++[k])[j],by rw[getElem?_toArray,getElem?_map,getElem?_eq_getElem kD];rfl,?_⟩;simp only[lp,vB,getElem_map];exact .v _)
 unfold Oper.wp;rw[O,Oper.upon_skip,hd];exact hK _ _ _ rfl s1 s2 s3
theorem OD.ae3{t:TypeId}{tt:Nat}(hw:cj ops x o true)(ho:o.op = .makeMap t none)(hd:o.dst=some tt)(K:∀b,OD P C ops l ⟨x.n,(tt,.v (.map (some b)))::x.env,lp b []::x.S⟩ Q):OD P C ops (o::l) x Q :=
 OD.gj hw (aax ho hd) fun y ⟨b,hy⟩=>hy ▸ K b
theorem OD.addKey {I O:TypeId} {z u:Operand} (hw:cj ops x o true) (ho:o.op = .mapUpdate I y z u) (hd:o.dst=none) (hy:aG x y = .v (.map (some b))) (hz:aG x z = .v (.int .i64 k)) (U:aG x u = .agg []) (hk:x.S[i]?=some (lp b ks)) (hn:k∉ks)
  (hm:P.underlying I=some (.map kt O)) (E:P.underlying kt=some (.int .i64)) (K:OD P C ops l ⟨x.n,x.env,x.S.set i (lp b (ks++[k]))⟩ Q):OD P C ops (o::l) x Q :=
 OD.gj hw (aaV ho hd hy hz U hk hn hm E) fun y hy=>hy ▸ K

end Go.Proofs.YtbplamgacibdaaaGreatDoor.V
namespace Go.Proofs.YtbplamgacibdaaaGreatDoor.V
open List
open Go.RowKit
variable {P:Program} {C:dG} {G:List (Nat×List Value)} {Q:Exit->St->Prop} {x:St} {ops:Array Oper} {l:List Oper} {o:Oper} {S1 T:List Nat} {fuel i:Nat} {ld:Array Bool}
variable {ts:Array TypeId} {S S2 S3:List ah} {post:D->List ah->Prop} {cs':List D} {fo:Operand} {dc:Array Operand}
theorem aaW {E kt I:TypeId} {i b:Nat} {ks:List Int} {y:Operand} (ho:o.op = .call {callee:=.builtin .len,args:=#[y],argTypes:=ts}) (ht:ts = #[E]) (hy:aG x y = .v (.map (some b))) (hk:x.S[i]?=some (lp b ks))
  (hm:P.underlying E=some (.map kt I)):bX P G x o (.fJ i) (.v (.int .i64 (ks.length:Nat))):=fun C a w _ h=>by
 subst ht;have h1:=K6 (h.fJ hk);refine⟨_,.v _,fun w' hw=>?_⟩;have O:w'.heap[b]?=_:=(hw _ hk).trans h1;have hg:=MapKept.run_getObj_map (P:=P) O;have U:=run_underlying hm w';unfold execOp;simp[ho,resolve,invoke,builtin,Builtin.len_,h.flat hy,U,hg,goInt,Result.andThen]
def DB:List D->List D->Prop
 | [],[]=>True
 | a::l,b::l'=>(a=b\/∃sz,a = .v (.slice none 0 0)/\b = .list sz [] 0)/\DB l l'
 | _,_=>False
theorem DB.Du{w:World}{L:Nat->Prop}:∀{a b:List D} {vs:List Value},DB a b->cD w L a vs->cD w L b vs
 | [],[],_,_,h=>h
 | a::l,b::l',[],_,h=>by simp[cD] at h
 | a::l,b::l',v::vs,⟨k,t⟩,h=>by
  obtain⟨h0,h1⟩:=h.tail;have h2:=DB.Du t h1;refine⟨by have:=h2.1;simp[this],fun i q1 q2=>?_⟩;cases i with
  | zero =>
   rcases k with rfl|⟨sz,rfl,rfl⟩
   ·exact h0
   show cq w L (.list sz [] 0) v;rw[h0.lj];exact .mG sz none 0
  | succ i=>exact h2.2 i (by simpa using q1) (by simpa using q2)
theorem VC.fb{f:FuncId}{args args':List D}(h:VC P G f args S post)(k:DB args' args):VC P G f args' S post:=fun X w vs hp=>h X w vs ⟨hp.ex,hp.eV,hp.own,k.Du hp.args⟩
theorem OD.agK{A:ah}{R:List ah}(hS:x.S=A::R)(E:gU [] A.cs cs')(k:OD P C ops l ⟨x.n,x.env,{A with cs:=cs'}::R⟩ Q):OD P C ops l x Q :=
 OD.cover (Sd:=[]) (by rw[hS,append_nil]) E k

theorem gU.append{S:List ah}:∀{a b c d:List D},gU S a b->gU S c d->gU S (a++c) (b++d)
 | [],[],_,_,_,h=>h
 | _::_,_::_,_,_,h,k=>⟨h.1,gU.append h.2 k⟩
 | [],_::_,_,_,h,_=>h.elim
 | _::_,[],_,_,h,_=>h.elim
theorem gU.same{S:List ah}:∀{a:List D},gU S a a
 | []=>trivial
 | _::_=>⟨ff,gU.same⟩
theorem QE{sz n cap b e size:Nat}{cs:List D}(hB:(⟨b,e,size,cs⟩:ah)∈S)(U:gU S cs cs')(hl:cs'.length=n*sz)(h1:n<=cap)(h2:cap<=maxLen)(hne:isMap e=false:=by rfl):View S (.v (.slice (some ⟨b,0,none⟩) n cap)) (.list sz cs' n):=fun X Y w v E I ho h=>by
 rw[h.lj];obtain⟨v1,v2⟩:=U.spec;obtain⟨r0,cur,r1,r2,Z,O⟩:=ho.at_ _ hB;rw[kM hne] at r1;refine .list sz cs' n b 0 cap (fun i=>cur.getD i undef) hl h1 h2 r0 (fun hy=>I _ (E _ hy) (mem_map.2 ⟨_,hB,rfl⟩)) (fun i hi=>?_) (fun i hi=>?_)
 ·obtain⟨u,hu,_⟩:=O i GB;rw[Nat.zero_add,oE r1 hu];simp[hu]
 obtain⟨u,hu,hq⟩:=O i GB;simp only[Array.getD_eq_getD_getElem?,hu,Option.getD_some];exact v2 i w4 hi X Y w u E I ho hq
theorem Bn{Sq:List ah}{e sz n cap:Nat}{cs:List D}{ad:Option Addr}(h:bn e sz cs n ad cap Sq)(E:gU S cs cs')(hl:cs'.length=n*sz)(hs:∀B∈Sq,B∈S)(hne:isMap e=false:=by rfl):View S (.v (.slice ad n cap)) (.list sz cs' n):=by
 rcases h with ⟨rfl,rfl,rfl,rfl,rfl⟩|⟨b,rfl,h1,h2,rfl⟩
 ·have:cs'=[]:=(by cases cs' with|nil=>rfl|cons _ _=>exact E.elim)
  subst this;exact ze
 exact QE (hne:=hne) (hs _ mem_cons_self) E hl h1 h2
theorem RB{A S1 E:List ah}:(A++(S1++(S2++(S3++E)))).Perm (S3++(A++(S1++(S2++E)))):=jB fun f=>by simp only[map_append,sum_append];omega
theorem adb{A S1 E:List ah}:(S3++(A++(S1++(S2++E)))).Perm (A++(S1++(S2++(S3++E)))):=RB.symm
variable {α:Type} {V:α->List D->List ah->Prop}
theorem I5 {f t:Nat} {args:List D} (ho:o.op = .call {callee:=.value fo,args:=dc,argTypes:=ts}) (hd:o.dst=some t)
  (hf:fo = .func f) (fy:∀args w,(callFunc f args).run P w = .ok (.enter f args) w) (hc:VC P G f args [] post) (hr:∀r S',post r S'->lf r=true/\∀B∈S',∀d∈B.cs,lf d=true) (ha:Looks x dc.toList args) :
  fU P G x o [] (fun y=>∃r S',post r S'/\y=⟨x.n,(t,r)::x.env,S'++x.S⟩):=fun C a w K Q hG h hK=>by
 subst hf;have O:(execOp a.eval o).run P w = .ok (.enter f (dc.toList.map a.eval).toArray) w:=by
  unfold execOp;have e:dc.map a.eval=(dc.toList.map a.eval).toArray:=by
   rw[<-Array.toList_map,Array.toArray_toList]
  simp only[ho,resolve,Act.eval,Deferred.ofValue,Sem.run_bind,Sem.run_pure,Result.andThen_ok,invoke,e];simp[fy]
 have U:HK G (fun _=>False) w [] args (dc.toList.map a.eval):=by
  refine⟨fun b hx=>hx.elim,fun g hg=>?_,⟨fun B hB=>by simp at hB,by simp[av]⟩,(Looks.Du h ha).mono fun b _ _=>⟨rfl,fun hl=>by rcases hl with hl|hl;exact hl;simp[av] at hl⟩⟩;rw[<-hG] at hg;exact⟨⟨Nat.lt_of_lt_of_le (h.eV g hg).1.1 h.fr.size,by simp[av],id⟩,fun i v hi=>h.aN hg hi⟩
 unfold Oper.wp;rw[O,Oper.upon_enter,hd];refine(hc _ w _ U).mono fun e w' ⟨v,r,S',h1,h2,h3,h4,h5⟩=>?_;subst h1;obtain⟨Z,qs⟩:=hr r S' h2;have hb:∀b,b<w.heap.size->w'.heap[b]?=w.heap[b]?:=fun b hb=>(h5.block b hb (by simp[av])).1;have hn:∀b,b<w.heap.size->b∉av S':=fun b hb=>(h5.block b hb (by simp[av])).2;have I:∀b,b<w.heap.size->¬live C.X x.S b->¬live C.X (S'++x.S) b:=fun b E h0 hl=>by
  rcases hl with hl|hl
  ·exact h0 (.inl hl)
  rw[av,map_append,mem_append] at hl;rcases hl with hl|hl
  ·exact hn b E hl
  exact h0 (.inr hl)
 have base:bI C ⟨x.n,x.env,S'++x.S⟩ a w':=by
  refine⟨h.defers,h.size,fun t ht=>(h.env t ht).mono fun b E h0=>⟨hb b E,I b E h0⟩,⟨fun B hB=>?_,?_⟩,?_,h.ex,h.eV⟩
  ·rcases mem_append.1 hB with hB|hB
   ·obtain⟨r0,cur,r1,r2,r3,r4⟩:=h3.at_ B hB;refine⟨r0,cur,r1,r2,r3,fun i hi=>?_⟩;obtain⟨u,hu,hq⟩:=r4 i hi;exact⟨u,hu,hq.flat (qs B hB _ (getElem_mem hi))⟩
   obtain⟨r0,cur,r1,r2,r3,r4⟩:=h.own.at_ B hB;refine⟨rh r0 (hb _ r0),cur,(hb _ r0).trans r1,r2,r3,fun i hi=>?_⟩;obtain⟨u,hu,hq⟩:=r4 i hi;exact⟨u,hu,hq.mono fun b E h0=>⟨hb b E,I b E h0⟩⟩
  ·rw[av,map_append];refine nodup_append.2 ⟨h3.apart,h.own.apart,fun b iM c aX e=>?_⟩;subst e;obtain⟨B,hB,rfl⟩:=mem_map.1 aX;exact hn _ (h.own.at_ B hB).1 iM
  refine⟨h5.os.trans h.fr.os,h5.tape.trans h.fr.tape,h5.output.trans h.fr.output,Nat.le_trans h.fr.size h5.size,fun b E h0=>⟨(hb b (Nat.lt_of_lt_of_le E h.fr.size)).trans (h.fr.block b E h0).1,fun hm=>?_⟩⟩;rw[av,map_append,mem_append] at hm;rcases hm with hm|hm
  ·exact hn b (Nat.lt_of_lt_of_le E h.fr.size) hm
  exact(h.fr.block b E h0).2 hm
 refine hK _ _ _ ⟨r,S',h2,rfl⟩ (base.put (h4.flat Z)) ⟨h5.size,fun b E _=>hb b E⟩ ⟨h5.os,h5.tape,h5.output,h5.size,fun b E h0=>⟨hb b E,fun hm=>?_⟩⟩;rw[av,map_append,mem_append] at hm;rcases hm with hm|hm
 ·exact hn b E hm
 exact h0 hm
theorem OD.LI {f t:Nat} {args:List D} (hw:cj ops x o true) (ho:o.op = .call {callee:=.value fo,args:=dc,argTypes:=ts}) (hd:o.dst=some t)
  (hf:fo = .func f) (fy:∀args w,(callFunc f args).run P w = .ok (.enter f args) w) (hc:VC P C.G f args [] post) (hr:∀r S',post r S'->lf r=true/\∀B∈S',∀d∈B.cs,lf d=true) (ha:Looks x dc.toList args)
  (K:∀r S',post r S'->OD P C ops l ⟨x.n,(t,r)::x.env,S'++x.S⟩ Q):OD P C ops (o::l) x Q:=OD.gj hw (I5 ho hd hf fy hc hr ha) fun y ⟨r,S',hp,hy⟩=>hy ▸ K r S' hp

end Go.Proofs.YtbplamgacibdaaaGreatDoor.V

namespace Go.Proofs.YtbplamgacibdaaaGreatDoor.V
open List
open Go.RowKit
variable {a:Act} {t:Nat}
mutual
def jb:D->Bool
 | .v _=>true
 | .list _ cs _=>fS cs
 | .fL cs _=>fS cs
 | .agg cs=>fS cs
 | .da cs=>fS cs
 | .eI _ cs=>fS cs
 | .kJ _ _=>false
 | .bY=>true
def fS:List D->Bool
 | []=>true
 | d::r=>jb d&&fS r
end

theorem wW:∀{cs:List D},fS cs=true->∀i (h:i<cs.length),jb cs[i]=true
 | [],_,_,h=>by cases h
 | d::r,hn,0,_=>by rw[fS,Bool.and_eq_true] at hn;exact hn.1
 | d::r,hn,i+1,h=>by rw[fS,Bool.and_eq_true] at hn;exact wW hn.2 i oV
theorem RT:∀{a b:List D},fS a=true->fS b=true->fS (a++b)=true
 | [],_,_,h=>h
 | d::r,b,ha,hb=>by
  rw[fS,Bool.and_eq_true] at ha;rw[cons_append,fS,Bool.and_eq_true];exact⟨ha.1,RT ha.2 hb⟩
theorem vl{α:Type}{g:α->List D}(hg:∀a,fS (g a)=true):∀(ls:List α),fS (ls.flatMap g)=true
 | []=>rfl
 | a::ls=>by rw[flatMap_cons];exact RT (hg a) (vl hg ls)
theorem adA{l:List (Nat×D)}(h:(l.all fun p=>jb p.2)=true)(t:Nat):jb (look t l)=true:=by
 induction l with
 | nil=>rfl
 | cons p l ih =>
  obtain⟨i,d⟩:=p;rw[all_cons,Bool.and_eq_true] at h;rw[ga];split
  ·exact h.1
  exact ih h.2

theorem cq.zP {w w':World} {L O:Nat->Prop} {Z:Nat->Prop} {d:D} {v:Value} (h:cq w L d v) (hn:jb d=true) (H:∀b,b<w.heap.size->¬L b->¬Z b->w'.heap[b]?=w.heap[b]?/\¬O b)
  (U:∀b o,Z b->w.cell? ⟨b,o,none⟩=none) (hs:w.heap.size<=w'.heap.size) (I:∀b,b<w.heap.size->¬L b->Z b->¬O b):cq w' O d v:=by
 induction h with
 | v x=>exact .v x
 | mG sz ad cap=>exact .mG sz ad cap
 | list sz cs len b o cap f hl h1 h2 hb hL hc hr ih =>
  rw[jb] at hn;by_cases hz:Z b
  ·have:¬0<cs.length:=fun h0=>by have:=hc 0 h0;rw[U _ _ hz] at this;cases this
   exact .list sz cs len b o cap f hl h1 h2 w4 (I b hb hL hz) (fun i hi=>by omega) (fun i hi=>by omega)
  have E:=H b hb hL hz;exact .list sz cs len b o cap f hl h1 h2 (rh hb E.1) E.2 (fun i hi=>(World.cell?_of_block (w:=w) (a:=⟨b,o+i,none⟩) E.1).trans (hc i hi)) (fun i hi=>ih i hi (wW hn i hi))
 | fL cs off b o f hb hL hc hr ih =>
  rw[jb] at hn;by_cases hz:Z b
  ·have:¬0<cs.length:=fun h0=>by have:=hc 0 h0;rw[U _ _ hz] at this;cases this
   exact .fL cs off b o f w4 (I b hb hL hz) (fun i hi=>by omega) (fun i hi=>by omega)
  have E:=H b hb hL hz;exact .fL cs off b o f (rh hb E.1) E.2 (fun i hi=>(World.cell?_of_block (w:=w) (a:=⟨b,o+i,none⟩) E.1).trans (hc i hi)) (fun i hi=>ih i hi (wW hn i hi))
 | agg cs vs hl hr ih=>rw[jb] at hn;exact .agg cs vs hl fun i h h'=>ih i h h' (wW hn i h)
 | da cs vs hl hr ih=>rw[jb] at hn;exact .da cs vs hl fun i h h'=>ih i h h' (wW hn i h)
 | eI fn cs vs hl hr ih=>rw[jb] at hn;exact .eI fn cs vs hl fun i h h'=>ih i h h' (wW hn i h)
 | kJ l os h=>rw[jb] at hn;cases hn
 | bY x=>exact .bY x

theorem Own.zP {w w':World} {L:Nat->Prop} {Z:Nat->Prop} {S:List ah} (h:Own w L S) (hS:∀B∈S,L B.b) (hn:∀B∈S,fS B.cs=true) (H:∀b,b<w.heap.size->¬Z b->w'.heap[b]?=w.heap[b]?)
  (I:∀b o,Z b->w.cell? ⟨b,o,none⟩=none) (hs:w.heap.size<=w'.heap.size) (E:∀B∈S,¬Z B.b):Own w' L S :=
 ⟨fun B hB=>by
  obtain⟨r0,cur,r1,r2,O,U⟩:=h.at_ B hB;refine⟨by omega,cur,(H _ r0 (E B hB)).trans r1,r2,O,fun i hi=>?_⟩;obtain⟨u,hu,hq⟩:=U i hi;exact⟨u,hu,hq.zP (wW (hn B hB) i hi) (fun b hb hl hz=>⟨H b hb hz,hl⟩) I hs (fun b _ hl _=>hl)⟩,h.apart⟩

theorem Fi{w:World}{b:Nat}{o:Obj}(h:w.heap[b]?=some o)(ho:o.isCells=false)(i:Nat):w.cell? ⟨b,i,none⟩=none:=by
 cases hc:w.cell? ⟨b,i,none⟩ with
 | none=>rfl
 | some v =>
  obtain⟨o',h1,h2⟩:=cells_of_cell hc;have h1:w.heap[b]?=some o':=h1;rw[h] at h1;cases h1;rw[ho] at h2;cases h2

structure YN (l:Nat) (w:World) (S:List Nat) (w':World) (S':List Nat):Prop where
 os:w'.os=w.os
 tape:w'.tape=w.tape
 output:w'.output=w.output
 size:w.heap.size<=w'.heap.size
 block:∀b,b<w.heap.size->b∉S->(b≠l->w'.heap[b]?=w.heap[b]?)/\b∉S'

structure yy (α:Type) where
 l:Nat
 os:List (Nat×Obj)
 od:List (Nat×Obj)
 enc:α->List D
 J:List α->List ah->Prop
 Jx:List α->List ah->Prop
 N:Nat

def rA(W:World)(L:Nat->Prop)(os:List (Nat×Obj)):Prop:=∀z∈os,z.1<W.heap.size/\¬L z.1/\W.heap[z.1]?=some z.2

def Oe{α:Type}(P:Program)(X0:Nat->Prop)(w0:World)(S0:List Nat)(Y:yy α):Prop :=
 ∀(pre:List α) (y:α) (Sc:List ah) (X:Nat->Prop) (W:World) (vs:List Value),
  Y.J pre Sc->pre.length<Y.N->(∀b,X b->b<W.heap.size/\b∉av Sc)->(∀b,X0 b->X b)->(∀b,X b->X0 b\/w0.heap.size<=b\/b∈S0) ->
  Own W (live X Sc) Sc->cD W (live X Sc) (Y.enc y) vs->Fr w0 S0 W (av Sc)->rA W (live X Sc) Y.os ->
  ∃fn tmps assign body,(Instr.yield Y.l vs.toArray).run P W = .ok (.round Y.l fn tmps assign body) W /\
   RoundIn Fence.wide 0 P Y.l fn tmps assign body W (fun e W'=>∃b nr,e = .returned (.bool b)/\Own W' (live X nr) nr/\YN Y.l W (av Sc) W' (av nr) /\
    (b=true->Y.J (pre++[y]) nr/\W'.heap[Y.l]?=W.heap[Y.l]?)/\(b=false->Y.Jx (pre++[y]) nr/\rA W' (live X nr) Y.od))

def l5(G:List (Nat×List Value))(w0:World)(S0:List Nat)(X0:Nat->Prop):Prop:=∀g∈G,(g.1<w0.heap.size/\g.1∉S0/\¬X0 g.1)/\∀i v,g.2[i]?=some v->oG w0 g.1 i v

def VI{α:Type}(P:Program)(G:List (Nat×List Value))(gf:FuncId)(CK:List D)(enc:α->List D)(Sa Sp:List α->Prop)(N:Nat):Prop :=
 ∀(Y:yy α) (X0:Nat->Prop) (w0 W:World) (S0:List Nat) (Sc:List ah) (cv:List Value),Y.enc=enc->Y.N=N ->
  (∀b,X0 b->b<w0.heap.size/\b∉S0)->l5 G w0 S0 X0->w0.heap.size<=Y.l->Own W (live X0 Sc) Sc->cD W (live X0 Sc) CK cv->Fr w0 S0 W (av Sc) ->
  rA W (live X0 Sc) Y.os->Y.J [] Sc->Oe P X0 w0 S0 Y ->
  Calls P gf (#[.func (.yield Y.l) #[] #[]]++cv.toArray) W fun e W'=>∃v nr,e = .returned v/\Own W' (live X0 nr) nr/\Fr w0 S0 W' (av nr) /\
   ((∃xs,Sa xs/\Y.J xs nr/\rA W' (live X0 nr) Y.os)\/(∃pre,Sp pre/\Y.Jx pre nr/\rA W' (live X0 nr) Y.od))

variable {P:Program} {C:dG} {G:List (Nat×List Value)} {Q:Exit->St->Prop} {x:St} {ops:Array Oper} {o:Oper} {fuel i:Nat} {ld:Array Bool} {α:Type}

def V0(P:Program)(fn:Func)(Y:yy α)(Sa Sp:List α->Prop)(e:Exit)(y:St):Prop :=
 (e = .normal\/e = .ret)/\(∃r,tw P fn y r)/\0<y.n/\∃nr,nr.Sublist y.S/\((∃xs,Sa xs/\Y.J xs nr/\look 0 y.env = .kJ Y.l Y.os)\/(∃pre,Sp pre/\Y.Jx pre nr/\look 0 y.env = .kJ Y.l Y.od))
theorem NP.ah5{fn:Func}{Y:yy α}{E I:List α->Prop}:NP (V0 P fn Y E I):=fun O y t hq=>by rcases hq.1 with h|h<;>cases h

theorem VI.body {gf:FuncId} {fn:Func} {c:Code} {n:Nat} {I:List D} {enc:α->List D} {Sa Sp:List α->Prop} {N:Nat} (hf:P.funcs[gf]?=some fn) (hb:fn.body=some c) (hn:fn.ntmps=n) (hl:1+I.length<=n)
  (h:∀(Y:yy α) X0 w0 S0 Sc,Y.enc=enc->Y.N=N->w0.heap.size<=Y.l->Oe P X0 w0 S0 Y->Y.J [] Sc->CD P ⟨X0,w0,S0,G,[],fun _ _=>False⟩ c ⟨n,sK 0 (.kJ Y.l Y.os::I),Sc⟩ (V0 P fn Y Sa Sp)):VI P G gf I enc Sa Sp N:=fun Y X0 w0 W S0 Sc cv he hN hex Z aa eW GL jN ajC hJ hY=>by
 let C:dG:=⟨X0,w0,S0,G,[],fun _ _=>False⟩
 have ek:cD W (live X0 Sc) (.kJ Y.l Y.os::I) (.func (.yield Y.l) #[] #[]::cv):=.cons (.kJ _ _ ajC) GL;have ajD:#[Value.func (.yield Y.l) #[] #[]]++cv.toArray=(Value.func (.yield Y.l) #[] #[]::cv).toArray:=(by simp)
 rw[ajD];generalize YO:Value.func (.yield Y.l) #[] #[]::cv=vs at ek;generalize j9:D.kJ Y.l Y.os::I=args at ek;have pE:args.length<=n:=(by rw[<-j9];simp;omega)
 have qT:vs.length=args.length:=ek.1;have O:bI C ⟨n,sK 0 args,Sc⟩ {tmps:=vs.toArray++Array.replicate (fn.ntmps-vs.toArray.size) undef,defers:=[]} W:=by
  refine⟨rfl,by simp[hn];omega,fun t ht=>?_,eW,jN,hex,Z⟩;simp only[EI,Nat.zero_le,if_true,Nat.sub_zero];by_cases aa:t<args.length
  ·have e1:args.getD t .bY=args[t]:=(by simp[getD,aa])
   have e2:(vs.toArray++Array.replicate (fn.ntmps-vs.toArray.size) undef).getD t undef=vs[t]'w4:=by
    rw[Array.getD_eq_getD_getElem?,Array.getElem?_append_left iF];simp[show t<vs.length by omega]
   rw[e1,e2];exact ek.2 t aa w4
  have e1:args.getD t .bY = .bY:=(by simp[getD,getElem?_eq_none (show args.length<=t by omega)])
  rw[e1];exact .bY _
 rw[<-j9] at O;refine calls_of_wp hf hb (wp_mono (h Y X0 w0 S0 Sc he hN aa hY hJ _ _ O) fun e a w' hq=>?_);rcases hq with ⟨y,h1,h2,⟨r,h3⟩,h0,E,h4,h5⟩|⟨_,hq⟩
 case inr=>exact hq.elim
 obtain⟨v,q1,q2⟩:=h3 C a w' h1;have U:(av E).Sublist (av y.S):=Sublist.map _ h4;have raw:∀os,look 0 y.env = .kJ Y.l os->rA w' (live X0 E) os:=fun os ho=>by
  have hv:=h1.env 0 h0;rw[ho] at hv;generalize a.tmps.getD 0 undef=u at hv;cases hv with
  | kJ _ _ hz=>exact fun z yz=>by obtain⟨z1,z2,z3⟩:=hz z yz;exact⟨z1,fun hl=>z2 (hl.imp id fun q=>U.subset q),z3⟩
 have key:a.defers=[]/\∃v,(results fn a.tmps).run P w' = .ok v w'/\∃v' E,Ending.returned v = .returned v'/\Own w' (live X0 E) E/\Fr w0 S0 w' (av E)/\((∃xs,Sa xs/\Y.J xs E/\rA w' (live X0 E) Y.os)\/(∃pre,Sp pre/\Y.Jx pre E/\rA w' (live X0 E) Y.od)) :=
  ⟨h1.defers,v,q2,v,E,rfl,h1.own.sub h4,⟨h1.fr.os,h1.fr.tape,h1.fr.output,h1.fr.size,fun b ke hn=>⟨(h1.fr.block b ke hn).1,fun q=>(h1.fr.block b ke hn).2 (U.subset q)⟩⟩,
   h5.imp (fun ⟨xs,s1,s2,s3⟩=>⟨xs,s1,s2,raw _ s3⟩) (fun ⟨pre,s1,s2,s3⟩=>⟨pre,s1,s2,raw _ s3⟩)⟩
 rcases h2 with rfl|rfl<;>exact key

def AI(P:Program)(C:dG)(ops:Array Oper)(fuel:Nat)(ld:Array Bool)(x:St)(Q:Exit->St->Prop):Prop :=
 ∀a w,bI C x a w->wpAnyIn Fence.wide 0 P .any ops (LQ C Q) fuel ld a w
def ig(P:Program)(C:dG)(ops:Array Oper)(fuel:Nat)(ld:Array Bool)(x:St)(Q:Exit->St->Prop)(i:Nat):Prop :=
 ∀a w,bI C x a w->wpOpIn Fence.wide 0 P ops (LQ C Q) i (wpAnyIn Fence.wide 0 P .any ops (LQ C Q) fuel (ld.setIfInBounds i true)) a w

theorem bI.drew{w:World}(hs:bI C x a w):bI C x a {w with drawn:=w.drawn+1} :=
 ⟨hs.defers,hs.size,fun t ht=>(hs.env t ht).mono fun b _ hn=>⟨rfl,hn⟩,⟨fun B hB=>by
  obtain⟨r0,cur,r1,r2,E,I⟩:=hs.own.at_ B hB;exact⟨r0,cur,r1,r2,E,fun i hi=>by
   obtain⟨u,hu,hq⟩:=I i hi;exact⟨u,hu,hq.mono fun b _ hn=>⟨rfl,hn⟩⟩⟩,hs.own.apart⟩,⟨hs.fr.os,hs.fr.tape,hs.fr.output,hs.fr.size,hs.fr.block⟩,hs.ex,hs.eV⟩

theorem CD.ae4{id:Nat}{l:List Oper}(hm:P.follows .mixedOrders=true)(h:AI P C l.toArray l.toArray.size (Array.replicate l.toArray.size false) x Q):CD P C (.region id l.toArray true) x Q:=fun a w hs =>
 wpIn_wide.1 (wpIn_region_any (F:=Fence.wide) (n:=0) hm (h a _ hs.drew))

theorem AI.all{E:List Nat}(hr:Region.ready .any ops ld=E)(hne:E≠[])(h:∀i∈E,ig P C ops fuel ld x Q i):AI P C ops (fuel+1) ld x Q:=fun a w hs=>wpAnyIn_all hr hne fun i hi=>h i hi a w hs
theorem AI.one(hr:Region.ready .any ops ld=[i])(h:ig P C ops fuel ld x Q i):AI P C ops (fuel+1) ld x Q:=AI.all hr bq fun j hj=>by rw[mem_singleton] at hj;subst hj;exact h
theorem AI.two{j:Nat}(hr:Region.ready .any ops ld=[i,j])(h:ig P C ops fuel ld x Q i)(h':ig P C ops fuel ld x Q j):AI P C ops (fuel+1) ld x Q:=AI.all hr bq fun k hk=>by
 rcases mem_cons.1 hk with rfl|hk
 ·exact h
 rw[mem_singleton] at hk;subst hk;exact h'
theorem AI.done(hr:Region.ready .any ops ld=[])(h:Q .normal x):AI P C ops fuel ld x Q:=fun a w hs=>wpAnyIn_done hr (.inl ⟨x,hs,h⟩) _
theorem AI.wk{y:St}(h:Wk x y)(k:AI P C ops fuel ld y Q):AI P C ops fuel ld x Q:=fun a w hs=>k a w (h C a w hs)
theorem AI.perm{S':List ah}(hp:x.S.Perm S')(k:AI P C ops fuel ld ⟨x.n,x.env,S'⟩ Q):AI P C ops fuel ld x Q:=AI.wk (Wk.perm hp) k
theorem AI.take {d:D} (hi:ops[i]?=some o) (hs:Region.noSelect ops=true) (hf:Region.free .any ops ld i=true) (hr:(Region.ready .any ops ld).contains i=true) (hp:NP Q)
  (hw:cj ops x o true) (qX:∀w a,o.about P w a=none) (hd:o.dst=some t) (h:bX P C.G x o .none d) (K:AI P C ops fuel (ld.setIfInBounds i true) (x.put t d) Q):AI P C ops (fuel+1) ld x Q:=fun a w E=>by
 obtain⟨v,h1,h2⟩:=h C a w rfl E;refine wpAnyIn_take (oi:=o) (v:=v) rfl hi hs hf hr (zL hp _ v) ⟨.inl ⟨hw C a w E,fun w'=>h2 w' trivial⟩,fun w'=>qX w' _⟩ ?_;rw[hd];exact K _ _ (E.put h1)

theorem T0{K:Act->World->Prop}{Q:Exit->Act->World->Prop}{w:World}(ro:Option Nat)(hd:∀c,o.op≠.defer c)(h:o.wp P a w K Q):o.wpIn {Fence.wide with round:=ro} 0 P a w K Q:=by
 refine⟨fun _ _=>trivial,?_⟩;rw[Oper.semAt_eq _ _ _ hd];unfold Oper.wp at h;generalize (execOp a.eval o).run P w=r at h;have eU:∀m E,Steps P m E->StepsIn (Machine.fenced P {Fence.wide with round:=ro}) P m E:=fun m E hs=>stepsIn_wide.2 hs;match r,h with
 | .ok (.value v) w',h=>exact h
 | .ok .skip w',h=>exact h
 | .ok (.defer d) w',h=>exact h
 | .ok (.enter f args) w',h=>exact⟨fun hc=>(by cases hc),((callsIn_wide (n:=0)).2 h:CallsIn Fence.wide 0 P f args w' _)⟩
 | .ok (.row row args) w',h=>exact⟨fun hc=>(by cases hc),fun c cs _=>let ⟨v,w'',r,s⟩:=h c cs;⟨v,w'',r,eU _ _ s⟩⟩
 | .halt (.panic v) w',h=>exact h

theorem ig.gj{W:List Nat}{post:St->Prop}(hi:ops[i]?=some o)(hw:cj ops x o true)(yA:∀c,o.op≠.defer c)(h:fU P C.G x o W post)(k:∀y,post y->AI P C ops fuel (ld.setIfInBounds i true) y Q):ig P C ops fuel ld x Q i:=fun a w E=>by
 unfold wpOpIn;simp only[hi,hw C a w E,if_true];exact T0 none yA (h C a w _ _ rfl E fun y a' w' hp I _ _=>k y hp a' w' I)
theorem ig.still{kd:Rd}{d:D}(hi:ops[i]?=some o)(hw:cj ops x o true)(yA:∀c,o.op≠.defer c)(hd:o.dst=some t)(h:bX P C.G x o kd d)(k:AI P C ops fuel (ld.setIfInBounds i true) (x.put t d) Q):ig P C ops fuel ld x Q i :=
 ig.gj hi hw yA (h.gj hd) fun y hy=>by subst hy;exact k
theorem ig.iD {f:Nat} {fo:Operand} {dc:Array Operand} {ts:Array TypeId} {args:List D} {r:D} (hi:ops[i]?=some o) (hw:cj ops x o true) (ho:o.op = .call {callee:=.value fo,args:=dc,argTypes:=ts}) (hd:o.dst=some t)
  (hf:fo = .func f) (fy:∀args w,(callFunc f args).run P w = .ok (.enter f args) w) (hc:VP P C.G f args r) (ha:ng x dc.toList args)
  (K:AI P C ops fuel (ld.setIfInBounds i true) (x.put t r) Q):ig P C ops fuel ld x Q i :=
 ig.gj hi hw (fun c hc=>by rw[ho] at hc;cases hc) (BB ho hd hf fy ha.eq (eX _) hc) fun y ⟨E,S',⟨h1,h2⟩,hy⟩=>by subst h1 h2 hy;exact K

theorem bI.back{w w':World}(h:bI C x a w){Sf R S':List ah}(hp:x.S.Perm (Sf++R))(h3:Own w' (live (fun b=>C.X b\/b∈av R) S') S')(h5:Fr w (av Sf) w' (av S')):bI C ⟨x.n,x.env,S'++R⟩ a w':=by
 have hb:(av x.S).Perm (av Sf++av R):=(by have:=hp.map ah.b;simpa[av] using this)
 have hL:=y8 (X:=C.X) hp;have hnd:(av Sf++av R).Nodup:=hb.nodup_iff.1 h.own.apart;obtain⟨n1,n2,n3⟩:=nodup_append.1 hnd;have I:∀b,b∈av R->b<w.heap.size:=fun b Z=>by
  obtain⟨B,hB,rfl⟩:=mem_map.1 Z;exact(h.own.at_ B (hp.symm.subset (mem_append_right _ hB))).1
 have O:live C.X (S'++R)=live (fun b=>C.X b\/b∈av R) S':=y8 (Perm.refl _);have H:∀b,b<w.heap.size->¬live C.X x.S b->w'.heap[b]?=w.heap[b]?/\¬live C.X (S'++R) b:=fun b aa hn=>by
  rw[hL] at hn;have E:b∉av Sf:=fun hm=>hn (.inr hm);obtain⟨q1,q2⟩:=h5.block b aa E;refine⟨q1,fun hl=>?_⟩;rw[O] at hl;rcases hl with hl|hl
  ·exact hn (.inl hl)
  exact q2 hl
 refine⟨h.defers,h.size,fun t ht=>(h.env t ht).mono H,⟨fun B hB=>?_,?_⟩,?_,h.ex,h.eV⟩
 ·rcases mem_append.1 hB with hB|hB
  ·have:=h3.at_ B hB;rw[<-O] at this;exact this
  obtain⟨r0,cur,r1,r2,r3,r4⟩:=h.own.at_ B (hp.symm.subset (mem_append_right _ hB));have Ds:B.b∈av R:=mem_map.2 ⟨B,hB,rfl⟩;have E:B.b∉av Sf:=fun hm=>n3 B.b hm B.b Ds rfl;have hh:=(h5.block B.b r0 E).1;refine⟨rh r0 hh,cur,hh.trans r1,r2,r3,fun i hi=>?_⟩;obtain⟨u,hu,hq⟩:=r4 i hi;exact⟨u,hu,hq.mono H⟩
 ·show(av (S'++R)).Nodup;have:av (S'++R)=av S'++av R:=(by simp[av])
  rw[this];refine nodup_append.2 ⟨h3.apart,n2,fun b iM c aX he=>?_⟩;subst he;have E:b∉av Sf:=fun hm=>n3 b hm b aX rfl;exact(h5.block b (I b aX) E).2 iM
 refine⟨h5.os.trans h.fr.os,h5.tape.trans h.fr.tape,h5.output.trans h.fr.output,Nat.le_trans h.fr.size h5.size,fun b U hn=>?_⟩;obtain⟨q1,q2⟩:=h.fr.block b U hn;have gI:b∉av Sf:=fun hm=>q2 (hb.symm.subset (mem_append_left _ hm));have iO:b∉av R:=fun hm=>q2 (hb.symm.subset (mem_append_right _ hm));obtain⟨q3,q4⟩:=h5.block b (Nat.lt_of_lt_of_le U h.fr.size) gI;refine⟨q3.trans q1,fun hm=>?_⟩;have:av (S'++R)=av S'++av R:=(by simp[av])
 rw[this] at hm;rcases mem_append.1 hm with hm|hm
 ·exact q4 hm
 exact iO hm

theorem ig.yield {t:Nat} {fo:Operand} {dc:Array Operand} {ts:Array TypeId} {Y:yy α} {pre:List α} {y:α} {Sc R:List ah} (hi:ops[i]?=some o) (hw:cj ops x o true) (ho:o.op = .call {callee:=.value fo,args:=dc,argTypes:=ts}) (hd:o.dst=some t)
  (hf:aG x fo = .kJ Y.l Y.os) (hn:0<x.n) (hz:look 0 x.env = .kJ Y.l Y.os) (ha:dc.toList.map (aG x)=Y.enc y) (hp:x.S.Perm (Sc++R)) (hJ:Y.J pre Sc) (hN:pre.length<Y.N) (hY:Oe P C.X C.w0 C.S0 Y) (hl:C.w0.heap.size<=Y.l) (h0t:t≠0)
  (kT:∀E,Y.J (pre++[y]) E->AI P C ops fuel (ld.setIfInBounds i true) ⟨x.n,(t,.v (.bool true))::x.env,E++R⟩ Q)
  (kF:∀E,Y.Jx (pre++[y]) E->AI P C ops fuel (ld.setIfInBounds i true) ⟨x.n,[(t,.v (.bool false)),(0,.kJ Y.l Y.od)],E⟩ Q):ig P C ops fuel ld x Q i:=fun a w h=>by
 have hb:(av x.S).Perm (av Sc++av R):=(by have:=hp.map ah.b;simpa[av] using this)
 have hL:=y8 (X:=C.X) hp;have hnd:(av Sc++av R).Nodup:=hb.nodup_iff.1 h.own.apart;obtain⟨n1,n2,n3⟩:=nodup_append.1 hnd;have ajE:∀b,b∈av R->b<w.heap.size:=fun b Dr=>by
  obtain⟨B,hB,rfl⟩:=mem_map.1 Dr;exact(h.own.at_ B (hp.symm.subset (mem_append_right _ hB))).1
 have yv:∀(o':Operand) os,aG x o' = .kJ Y.l os->a.eval o' = .func (.yield Y.l) #[] #[]/\rA w (live C.X x.S) os:=fun o' os he=>by
  have Z:=h.eval o';rw[he] at Z;generalize a.eval o'=u at Z;cases Z with
  | kJ _ _ hz=>exact⟨rfl,hz⟩
 obtain⟨e1,O⟩:=yv fo _ hf;have U:cD w (live C.X x.S) (Y.enc y) (dc.toList.map a.eval):=ha ▸ cD.Mm h dc.toList;have e0:a.tmps.getD 0 undef = .func (.yield Y.l) #[] #[]:=by
  have Z:=h.env 0 hn;rw[hz] at Z;generalize a.tmps.getD 0 undef=u at Z;cases Z with
  | kJ _ _ _=>rfl
 rw[hL] at O U;obtain⟨fn,tmps,assign,body,hy,hro⟩:=hY pre y Sc (fun b=>C.X b\/b∈av R) w _ hJ hN (fun b hx=>by
   rcases hx with hx|hx
   ·obtain⟨q1,q2⟩:=h.ex b hx;exact⟨Nat.lt_of_lt_of_le q1 h.fr.size,fun hm=>(h.fr.block b q1 q2).2 (hb.symm.subset (mem_append_left _ hm))⟩
   ·exact⟨ajE b hx,fun hm=>n3 b hm b hx rfl⟩) (fun b hx=>.inl hx) (fun b hx=>by
   rcases hx with hx|hx
   ·exact .inl hx
   rcases Nat.lt_or_ge b C.w0.heap.size with aa|N6
   ·by_cases hU:b∈C.S0
    ·exact .inr (.inr hU)
    exact absurd (hb.symm.subset (mem_append_right _ hx)) (h.fr.block b aa hU).2
   exact .inr (.inl N6))
  ⟨fun B hB=>by rw[<-hL];exact h.own.at_ B (hp.symm.subset (mem_append_left _ hB)),n1⟩ U
  ⟨h.fr.os,h.fr.tape,h.fr.output,h.fr.size,fun b ke wm=>⟨(h.fr.block b ke wm).1,fun hm=>(h.fr.block b ke wm).2 (hb.symm.subset (mem_append_left _ hm))⟩⟩ O
 have oh:(execOp a.eval o).run P w = .ok (.round Y.l fn tmps assign body) w:=by
  unfold execOp;have e:dc.map a.eval=(dc.toList.map a.eval).toArray:=by
   rw[<-Array.toList_map,Array.toArray_toList]
  simp only[ho,resolve,e1,Deferred.ofValue,Sem.run_bind,Sem.run_pure,Result.andThen_ok,invoke,e,Array.empty_append];exact hy
 unfold wpOpIn;simp only[hi,hw C a w h,if_true];refine⟨fun _ _=>trivial,?_⟩;show o.uponIn Fence.wide 0 P a _ _ ((o.semAt none a.eval).run P w);rw[Oper.semAt_none,oh,Oper.uponIn_round];refine⟨fun hc=>(by cases hc),hro.mono fun e w' ⟨b,E,he,h3,h5,hT,hF⟩=>?_⟩;subst he;show wpAnyIn Fence.wide 0 P .any ops (LQ C Q) fuel (ld.setIfInBounds i true) (a.put o.dst (.bool b)) w';rw[hd];have oX:∀q,q<C.w0.heap.size->q≠Y.l:=fun q hq e=>by omega
 cases b with
 | true =>
  obtain⟨j1,j2⟩:=hT rfl;have ajF:Fr w (av Sc) w' (av E):=⟨h5.os,h5.tape,h5.output,h5.size,fun q hq Of=>by
   obtain⟨p1,p2⟩:=h5.block q hq Of;refine⟨?_,p2⟩;by_cases e:q=Y.l
   ·rw[e];exact j2
   exact p1 e⟩
  exact kT E j1 _ _ ((h.back hp h3 ajF).put (.v _))
 | false =>
  obtain⟨j1,j2⟩:=hF rfl;have I:∀q,live C.X E q->live (fun b=>C.X b\/b∈av R) E q:=fun q hq=>hq.imp .inl id;have ah6:Own w' (live C.X E) E:=⟨fun B hB=>by
   obtain⟨r0,cur,r1,r2,r3,r4⟩:=h3.at_ B hB;exact⟨r0,cur,r1,r2,r3,fun q hq=>by
    obtain⟨u,hu,hh⟩:=r4 q hq;exact⟨u,hu,hh.mono fun b _ hn=>⟨rfl,fun hl=>hn (I b hl)⟩⟩⟩,h3.apart⟩
  refine kF E j1 _ _ ⟨h.defers,by simp[Act.put,h.size],fun q hq=>?_,ah6,⟨h5.os.trans h.fr.os,h5.tape.trans h.fr.tape,h5.output.trans h.fr.output,Nat.le_trans h.fr.size h5.size,fun q hq Of=>?_⟩,h.ex,h.eV⟩
  ·have jh:=h.size;simp only[ga,Act.put];by_cases e:t=q
   ·subst e;rw[if_pos rfl];have:(a.tmps.setIfInBounds t (.bool false)).getD t undef = .bool false:=by
     have hq:t<x.n:=hq;simp[Array.getElem?_setIfInBounds,jh,hq]
    rw[this];exact .v _
   rw[if_neg e];by_cases e2:0=q
   ·subst e2;rw[if_pos rfl];have:(a.tmps.setIfInBounds t (.bool false)).getD 0 undef=a.tmps.getD 0 undef:=by
     simp[Array.getElem?_setIfInBounds,h0t]
    rw[this,e0];exact .kJ _ _ fun z yz=>by obtain⟨z1,z2,z3⟩:=j2 z yz;exact⟨z1,fun hl=>z2 (I _ hl),z3⟩
   rw[if_neg e2];exact .bY _
  obtain⟨q1,q2⟩:=h.fr.block q hq Of;have gI:q∉av Sc:=fun hm=>q2 (hb.symm.subset (mem_append_left _ hm));obtain⟨p1,p2⟩:=h5.block q (Nat.lt_of_lt_of_le hq h.fr.size) gI;exact⟨(p1 (oX q hq)).trans q1,p2⟩

end Go.Proofs.YtbplamgacibdaaaGreatDoor.V

namespace Go.Proofs.YtbplamgacibdaaaGreatDoor.V
open List
open Go.RowKit
variable {P:Program} {C:dG} {G:List (Nat×List Value)} {Q:Exit->St->Prop} {x:St} {ops:Array Oper} {l:List Oper} {o:Oper}
theorem cD.flatten{w:World}{L:Nat->Prop}{us vs:List Value}(h:cD w L (us.map .v) vs):vs=us:=by
 refine ext_getElem (by simpa using h.1) fun i h1 h2=>?_;have:=h.2 i (by simpa using h2) h1;simp only[getElem_map] at this;exact this.lj
theorem VP.T1{f:FuncId}{vs:List Value}{v:Value}(h:∀w:World,(∀g∈G,∀(i:Nat) (u:Value),g.2[i]?=some u->oG w g.1 i u)->Calls P f vs.toArray w fun e w'=>e = .returned v/\Below w.heap.size w w'):VP P G f (vs.map .v) (.v v):=fun X w us hp=>by
 have E:us=vs:=hp.args.flatten;subst E;refine(h w fun g hg i u hi=>(hp.eV g hg).2 i u hi).mono fun e w' ⟨h1,h2⟩=>?_;refine⟨v,.v v,[],h1,⟨rfl,rfl⟩,⟨fun B hB=>by simp at hB,by simp[av]⟩,.v _,⟨h2.os,h2.tape,h2.output,h2.size,fun b hb _=>⟨h2.block b hb,by simp[av]⟩⟩⟩
theorem ae5{t:TypeId}{k:IntKind}{a b r:Int}(h:k.wrap ((BitVec.ofInt k.bits a ^^^ BitVec.ofInt k.bits b).toNat:Int)=r):kZ P .xor t (.int k a) (.int k b) (.int k r):=fun y z w=>by subst h;simp only[eqGuard,binOp,Op.intBits,Sem.run_bind];simp
theorem TA{t:TypeId}{k k':IntKind}{a b r:Int}(hb:0<=b)(h:a.fdiv (2 ^ min b.toNat k.bits)=r):kZ P .shr t (.int k a) (.int k' b) (.int k r):=fun y z w=>by
 have:¬b<0:=(by omega)
 simp[eqGuard,binOp,Op.shift,this,h]
theorem ae6(a:Nat)(h:a<2 ^ 64):a ^^^ 2 ^ 63=if a<2 ^ 63 then a+2 ^ 63 else a-2 ^ 63:=by
 have key:∀b,b<2 ^ 63->b ^^^ 2 ^ 63=2 ^ 63+b:=fun b hb=>by
  refine Nat.eq_of_testBit_eq fun i=>?_;rw[Nat.testBit_xor,Nat.testBit_two_pow];rcases Nat.lt_trichotomy i 63 with hi|hi|hi
  ·rw[Nat.testBit_two_pow_add_gt hi];have:¬63=i:=(by omega)
   simp[this]
  ·subst hi;rw[Nat.testBit_two_pow_add_eq];simp
  have h1:b.testBit i=false:=Nat.testBit_lt_two_pow (Nat.lt_of_lt_of_le hb (Nat.pow_le_pow_right w8 w4));have h2:(2 ^ 63+b).testBit i=false:=Nat.testBit_lt_two_pow (Nat.lt_of_lt_of_le (by omega:2 ^ 63+b<2 ^ 64) (Nat.pow_le_pow_right w8 w4));have:¬63=i:=(by omega)
  rw[h1,h2];simp[this]
 split
 ·rename_i h1;rw[key a h1];omega
 rename_i h1;have h2:=key (a-2 ^ 63) w4;have h3:a=2 ^ 63+(a-2 ^ 63):=(by omega)
 rw[<-h2] at h3;generalize a-2 ^ 63=b at h3 |-;rw[h3,Nat.xor_assoc,Nat.xor_self,Nat.xor_zero]
theorem RU(n:Int):IntKind.u64.wrap n=n % 18446744073709551616:=rfl
theorem ae7{n:Int}(h1:-9223372036854775808<=n)(h2:n<=9223372036854775807):IntKind.u64.wrap ((BitVec.ofInt IntKind.u64.bits (IntKind.u64.wrap n) ^^^ BitVec.ofInt IntKind.u64.bits 9223372036854775808).toNat:Int)=n+9223372036854775808:=by
 rw[RU,RU,BitVec.toNat_xor];have e1:(BitVec.ofInt IntKind.u64.bits (n % 18446744073709551616)).toNat=(n % 18446744073709551616).toNat:=by
  rw[BitVec.toNat_ofInt];show((n % 18446744073709551616) % ((18446744073709551616:Nat):Int)).toNat=_;omega
 have e2:(BitVec.ofInt IntKind.u64.bits 9223372036854775808).toNat=2 ^ 63:=(by decide)
 rw[e1,e2,ae6 _ w4];split<;>omega

end Go.Proofs.YtbplamgacibdaaaGreatDoor.V
