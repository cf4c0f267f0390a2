/-
  GP: walks and plain facts, part 2.
-/
import Derived.Test.YtmapbfkhggjgeaaDoorPGP1
set_option linter.unusedVariables false
set_option linter.unusedSimpArgs false
set_option maxRecDepth 100000
set_option maxHeartbeats 4000000
namespace Go.Proofs.YtmapbfkhggjgeaaDoor
namespace V
open List
open Go.RowKit
variable {P:Program} {C:cq} {G:List (Nat×List Value)} {Q:Exit->St->Prop} {x:St} {ops:Array Oper} {o:Oper} {aZ i:Nat} {ld:Array Bool} {α:Type}
theorem bP.back{a:Act}{w w':World}(h:bP C x a w){Sf R S':List ay}(hp:x.S.Perm (Sf++R))(h3:Own w' (live (fun b=>C.X b\/b∈au R) S') S')(I:Fr w (au Sf) w' (au S')):bP C ⟨x.n,x.env,S'++R⟩ a w':=by
 have hb:(au x.S).Perm (au Sf++au R):=(by have:=hp.map ay.b;simpa[au] using this)
 have hL:=kH (X:=C.X) hp;have hnd:(au Sf++au R).Nodup:=hb.nodup_iff.1 h.own.apart;obtain⟨n1,n2,n3⟩:=nodup_append.1 hnd;have K:∀b,b∈au R->b<w.heap.size:=fun b U=>by
  obtain⟨B,J,rfl⟩:=mem_map.1 U;exact(h.own.at_ B (hp.symm.subset (mem_append_right _ J))).1
 have M:live C.X (S'++R)=live (fun b=>C.X b\/b∈au R) S':=kH (Perm.refl _);have H:∀b,b<w.heap.size->¬live C.X x.S b->w'.heap[b]?=w.heap[b]?/\¬live C.X (S'++R) b:=fun b aH hn=>by
  rw[hL] at hn;have E:b∉au Sf:=fun hm=>hn (.inr hm);obtain⟨q1,q2⟩:=I.block b aH E;refine⟨q1,fun hl=>?_⟩;rw[M] at hl;rcases hl with hl|hl
  ·exact hn (.inl hl)
  exact q2 hl
 refine⟨h.defers,h.size,fun t ht=>(h.env t ht).mono H,⟨fun B J=>?_,?_⟩,?_,h.ex,h.dI⟩
 ·rcases mem_append.1 J with J|J
  ·have:=h3.at_ B J;rw[<-M] at this;exact this
  obtain⟨r0,cur,r1,r2,r3,r4⟩:=h.own.at_ B (hp.symm.subset (mem_append_right _ J));have Y:B.b∈au R:=mem_map.2 ⟨B,J,rfl⟩;have E:B.b∉au Sf:=fun hm=>n3 B.b hm B.b Y rfl;have hh:=(I.block B.b r0 E).1;refine⟨kE r0 hh,cur,hh.trans r1,r2,r3,fun i hi=>?_⟩;obtain⟨u,hu,hq⟩:=r4 i hi;exact⟨u,hu,hq.mono H⟩
 ·show(au (S'++R)).Nodup;have:au (S'++R)=au S'++au R:=(by simp[au])
  rw[this];refine nodup_append.2 ⟨h3.apart,n2,fun b Z c N he=>?_⟩;subst he;have E:b∉au Sf:=fun hm=>n3 b hm b N rfl;exact(I.block b (K b N) E).2 Z
 refine⟨I.os.trans h.fr.os,I.tape.trans h.fr.tape,I.output.trans h.fr.output,Nat.le_trans h.fr.size I.size,fun b O hn=>?_⟩;obtain⟨q1,q2⟩:=h.fr.block b O hn;have fI:b∉au Sf:=fun hm=>q2 (hb.symm.subset (mem_append_left _ hm));have uh:b∉au R:=fun hm=>q2 (hb.symm.subset (mem_append_right _ hm));obtain⟨q3,q4⟩:=I.block b (Nat.lt_of_lt_of_le O h.fr.size) fI;refine⟨q3.trans q1,fun hm=>?_⟩;have:au (S'++R)=au S'++au R:=(by simp[au])
 rw[this] at hm;rcases mem_append.1 hm with hm|hm
 ·exact q4 hm
 exact uh hm
end V
namespace V
open List
open Go.RowKit
variable {P:Program} {C:cq} {G:List (Nat×List Value)} {Q:Exit->St->Prop} {x y:St} {ops:Array Oper} {o:Oper} {ro:Nat} {α:Type}
theorem AH{S:List ay}{b e size:Nat}{cs cs':List D}(E:(⟨b,e,size,cs⟩:ay)∈S)(M:iG S cs cs')(hne:isMap e=false:=by rfl):View S (.v (.pointer (some ⟨b,0,none⟩))) (.dh cs' 0):=fun X Y w v I J ho h=>by
 rw[h.eK];obtain⟨v1,v2⟩:=M.spec;obtain⟨r0,cur,r1,r2,N,K⟩:=ho.at_ _ E;rw[fS hne] at r1;refine .dh cs' 0 b 0 (fun i=>cur.getD i undef) r0 (fun hy=>J _ (I _ hy) (mem_map.2 ⟨_,E,rfl⟩)) (fun i hi=>?_) (fun i hi=>?_)
 ·obtain⟨u,hu,_⟩:=K i (by show i<cs.length;omega);rw[Nat.zero_add,jk r1 hu];simp[hu]
 obtain⟨u,hu,hq⟩:=K i (by show i<cs.length;omega);simp only[Array.getD_eq_getD_getElem?,hu,Option.getD_some];exact v2 i w8 hi X Y w u I J ho hq
theorem AI{S:List ay}{f:Fn}{ds E:List D}(h:iG S ds E):View S (.dV f ds) (.dV f E):=fun X Y w v J K ho hr=>by
 obtain⟨h1,h2⟩:=h.spec;cases hr with
 | dV _ _ vs hl I=>exact .dV f E vs w8 fun i q1 q2=>h2 i w8 q1 X Y w _ J K ho (I i w8 q2)
variable {S1 T:List Nat} {aZ i:Nat} {ld:Array Bool}
def bD(P:Program)(fn:Func)(post:D->List ay->Prop)(uj:List PanicEntry->Prop)(e:Exit)(y:St):Prop:=Body P fn post e y\/∃ch,e = .panic ch/\uj ch
theorem NP.pK{fn:Func}{post:D->List ay->Prop}{I:List PanicEntry->Prop}:NP (bD P fn post I):=fun J y t E=>by
 rcases E with E|E
 ·rcases E.1 with h|h<;>cases h
 exact .inr E
end V
namespace V
open List
open Go.RowKit
section
variable {P:Program} {C:cq} {G:List (Nat×List Value)} {Q:Exit->St->Prop} {x:St} {ops:Array Oper} {o:Oper} {n aZ t:Nat} {e:List (Nat×D)} {S:List ay} {S1 T:List Nat} {ld:Array Bool} {d:D} {kd:Rd}
theorem ai (i:Nat) (hi:ops[i]?=some o) (h:bG P C.G ⟨n,e,S⟩ o kd d) (K:bp P C ops S1 T aZ (ld.setIfInBounds i true) ⟨n,(t,d)::e,S⟩ Q) (hs:Region.noSelect ops=true:=by kernel_rfl) (hf:Region.free .any ops ld i=true:=by kernel_rfl) (hr:(Region.ready .any ops ld).contains i=true:=by kernel_rfl)
  (hp:NP Q:=by repeat (first|exact NP.norm|exact NP.body|exact NP.sq|exact NP.pK|apply NP.tl|apply NP.sr|apply NP.then|apply NP.cut|apply NP.inBlock|apply NP.round)) (hw:cg ops ⟨n,e,S⟩ o true:=by first|exact kD rfl|exact mA rfl rfl rfl lk w5) (hd:o.dst=some t:=by exact rfl)
  (hk:Safe ⟨n,e,S⟩ T kd:=by first|exact trivial|exact g7 (k0:=0) rfl rfl|exact g7 (k0:=1) rfl rfl|exact g7 (k0:=2) rfl rfl|exact g7 (k0:=3) rfl rfl|exact g7 (k0:=4) rfl rfl|exact g7 (k0:=5) rfl rfl):bp P C ops S1 T (aZ+1) ld ⟨n,e,S⟩ Q :=
 bp.take hi hs hf hr hp hw hd h hk K
theorem bx (i:Nat) (hi:ops[i]?=some o) (h:bG P C.G ⟨n,e,S⟩ o kd d) (K:AD P C ops S1 T aZ (ld.setIfInBounds i true) ⟨n,(t,d)::e,S⟩ Q) (hs:Region.noSelect ops=true:=by kernel_rfl) (hf:Region.free .any ops ld i=true:=by kernel_rfl) (hr:(Region.ready .any ops ld).contains i=true:=by kernel_rfl)
  (hp:NP Q:=by repeat (first|exact NP.norm|exact NP.body|exact NP.sq|exact NP.pK|apply NP.tl|apply NP.sr|apply NP.then|apply NP.cut|apply NP.inBlock|apply NP.round)) (hw:cg ops ⟨n,e,S⟩ o true:=by first|exact kD rfl|exact mA rfl rfl rfl lk w5) (hd:o.dst=some t:=by exact rfl)
  (hk:Safe ⟨n,e,S⟩ T kd:=by first|exact trivial|exact g7 (k0:=0) rfl rfl|exact g7 (k0:=1) rfl rfl|exact g7 (k0:=2) rfl rfl|exact g7 (k0:=3) rfl rfl|exact g7 (k0:=4) rfl rfl|exact g7 (k0:=5) rfl rfl) (uc:kd≠.eP:=by intro h;cases h):AD P C ops S1 T (aZ+1) ld ⟨n,e,S⟩ Q :=
 AD.take hi hs hf hr hp hw hd h hk uc K
theorem at_{i:Nat}(hi:ops[i]?=some o)(h:bG P C.G ⟨n,e,S⟩ o kd d)(K:AD P C ops S1 T aZ (ld.setIfInBounds i true) ⟨n,(t,d)::e,S⟩ Q)(hw:cg ops ⟨n,e,S⟩ o true:=by first|exact kD rfl|exact mA rfl rfl rfl lk w5)(hd:o.dst=some t:=by exact rfl):dr P C ops S1 T aZ ld ⟨n,e,S⟩ Q i :=
 lD hi hw hd h K
theorem bc (i:Nat) (hi:ops[i]?=some o) (K:bp P C ops S1 T aZ (ld.setIfInBounds i true) ⟨n,(t,.v (.tuple #[]))::e,S⟩ Q) (hw:cg ops ⟨n,e,S⟩ o false:=by first|exact bX rfl rfl rfl lk w5|exact wH (b:=false) rfl rfl rfl lk) (hs:Region.noSelect ops=true:=by kernel_rfl) (hf:Region.free .any ops ld i=true:=by kernel_rfl) (hr:(Region.ready .any ops ld).contains i=true:=by kernel_rfl)
  (hp:NP Q:=by repeat (first|exact NP.norm|exact NP.body|exact NP.sq|exact NP.pK|apply NP.tl|apply NP.sr|apply NP.then|apply NP.cut|apply NP.inBlock|apply NP.round)) (hd:o.dst=some t:=by exact rfl):bp P C ops S1 T (aZ+1) ld ⟨n,e,S⟩ Q :=
 bp.g8 hi hs hf hr hp hw hd K
theorem yj{l:List (Nat×D)}(h:look t l=d:=by (repeat (first|exact iy|(apply jm;focus (first|rfl|(simp;done)|(congr 2;omega)))|(apply ix;focus rfl)));done):look t l=d:=h
end
section
variable {P:Program} {C:cq} {G:List (Nat×List Value)} {Q:Exit->St->Prop} {x:St} {ops:Array Oper} {l:List Oper} {o:Oper} {n:Nat} {e:List (Nat×D)} {S:List ay} {S1 T:List Nat} {aZ i:Nat} {ld:Array Bool}
variable {α:Type} {b sz:Nat} {l':List (Nat×D)} {bN:Array Operand} {t:TypeId} {fo z:Operand} {ts:Array TypeId} {args:List D} {B:ay} {ps:List (Nat×Operand)} {d:D}
theorem af{a b:α}(h:a=b:=by kernel_rfl):a=b:=h
theorem aV{a:Nat}(h:Nat.ble a b=true:=by exact rfl):a<=b:=Nat.le_of_ble_eq_true h
theorem av(h:o.guard=none:=by exact rfl):cg ops x o true:=kD h
theorem de(h:cg ops x o true:=by exact mA rfl rfl rfl lk w5):cg ops x o true:=h
theorem yB{pd zs ds:List D}(ha:(pd.all fun d=>Nat.beq (cellsOf d).length sz)=true:=by exact rfl)(hl:Nat.beq zs.length (pd.length*sz)=true:=by exact rfl)(jb:pd.flatMap cellsOf=ds:=by exact rfl):fD (fun i=>some (i*sz,sz)) zs (aP 0 pd)=some ds:=An ha hl jb
theorem cw{a b:List α}(h:a.Sublist b:=by repeat (first|exact Sublist.refl _|apply Sublist.cons_cons|apply Sublist.cons)):a.Sublist b:=h
theorem c5{a b:List α}(h:a.Sublist b:=by repeat (first|exact Sublist.refl _|apply Sublist.cons)):a.Sublist b:=h
theorem gZ{a b:List α}(h:a.Sublist b:=by repeat (first|exact Sublist.refl _|exact nil_sublist _|apply Sublist.cons_cons|apply Sublist.cons)):a.Sublist b:=h
theorem uk{a b:List Nat}(h:∀x∈a,x∈b:=by intro b hb;simp[au,St.put] at hb |-;try first|exact hb|omega|simp[hb]|(rcases hb with hb|hb<;>simp[hb])|(rcases hb with hb|hb|hb<;>simp[hb])):∀x∈a,x∈b:=h
theorem bi(h:hO e l':=by repeat (first|exact trivial|refine⟨lk,?_⟩)):hO e l':=h
theorem cD(h:hO e l':=by repeat (first|exact trivial|refine⟨yj,?_⟩)):hO e l':=h
theorem yC{bN:List Operand}{ds:List D}(h:fZ x bN ds:=by repeat (first|exact trivial|refine⟨ot,?_⟩|refine⟨aJ,?_⟩|refine⟨lH,?_⟩)):fZ x bN ds:=h
theorem aF(l':List (Nat×D))(S':List ay)(K:Q .normal ⟨n,l',S'⟩)(hS:S=S':=by exact rfl)(h:hO e l':=by exact bi):OD P C ops [] ⟨n,e,S⟩ Q:=aY (Wk.aO rfl hS h) (bg K)
theorem bL(l':List (Nat×D))(S':List ay)(K:AD P C ops S1 T aZ ld ⟨n,l',S'⟩ Q)(hS:S=S':=by exact rfl)(h:hO e l':=by exact bi)(hb:au S'=au S:=by exact rfl):AD P C ops S1 T aZ ld ⟨n,e,S⟩ Q:=gw (Wk.aO rfl hS h) hb K
theorem bK {f t:Nat} {r:D} (E:∀args w,(callFunc f args).run P w = .ok (.enter f args) w) (hc:VP P C.G f args r) (K:OD P C ops l (x.put t r) Q)
  (ho:o.op = .call {callee:=.value fo,args:=bN,argTypes:=ts}:=by exact rfl) (hw:cg ops x o true:=by exact av) (hd:o.dst=some t:=by exact rfl) (hf:fo = .func f:=by exact rfl) (ha:fZ x bN.toList args:=by exact yC):OD P C ops (o::l) x Q:=nn hw ho hd hf E hc ha K
theorem bS {f t:Nat} {r:D} (E:∀args w,(callFunc f args).run P w = .ok (.enter f args) w) (hc:VP P C.G f args r) (K:AD P C ops S1 T aZ (ld.setIfInBounds i true) (x.put t r) Q)
  (hi:ops[i]?=some o:=by exact rfl) (ho:o.op = .call {callee:=.value fo,args:=bN,argTypes:=ts}:=by exact rfl) (hw:cg ops x o true:=by exact av) (hd:o.dst=some t:=by exact rfl) (hf:fo = .func f:=by exact rfl) (ha:fZ x bN.toList args:=by exact yC):dr P C ops S1 T aZ ld x Q i:=lF hi hw ho hd hf E hc ha K
theorem eT (k t sz m:Nat) {cap:Nat} {cs:List D} (K:OD P C ops l ⟨x.n,(t,.list sz cs m)::x.env,x.S.eraseIdx k⟩ Q) (hk:x.S[k]?=some B:=by exact rfl) (ht:V.look t x.env = .v (.slice (some ⟨b,0,none⟩) m cap):=by exact lk) (hb:B.b=b:=by exact rfl) (cB:B.cs=cs:=by exact rfl) (hl:cs.length=m*sz:=by exact rfl) (h1:m<=cap:=by exact Nat.le_refl _) (h2:cap<=maxLen:=by decide)
  (hne:isMap B.e=false:=by exact rfl):OD P C ops l x Q:=Bc (hne:=hne) hk ht hb cB hl h1 h2 K
theorem bj (k t sz m:Nat) {cap:Nat} {cs:List D} (K:AD P C ops S1 T aZ ld ⟨x.n,(t,.list sz cs m)::x.env,x.S.eraseIdx k⟩ Q) (hk:x.S[k]?=some B:=by exact rfl) (ht:V.look t x.env = .v (.slice (some ⟨b,0,none⟩) m cap):=by exact lk) (hb:B.b=b:=by exact rfl) (cB:B.cs=cs:=by exact rfl) (hl:cs.length=m*sz:=by exact rfl) (h1:m<=cap:=by exact Nat.le_refl _) (h2:cap<=maxLen:=by decide)
  (hne:isMap B.e=false:=by exact rfl):AD P C ops S1 T aZ ld x Q:=Be (hne:=hne) hk ht hb cB hl h1 h2 K
theorem yD{pl:List (Nat×D)}(h:iE x ps pl:=by repeat (first|exact trivial|refine⟨rfl,ot,?_⟩|refine⟨rfl,aJ,?_⟩|refine⟨rfl,lH,?_⟩)):iE x ps pl:=h
theorem ed{c:Code}{ι:Type}{y:St}(I:ι->St->Prop)(μ:ι->Nat)(i:ι)(h0:I i y)(hw:Wk x y)(round:∀i y,I i y->CD P C c y (xu I μ i Q)):CD P C (.loop c) x Q:=hU hw (A4 I μ i h0 round)
theorem dj {e':TypeId} {tt len:Nat} {z:Value} (pl:List (Nat×D)) (gE:List Value) (ds:List D) (hz:∀w,(zeroValue e').run P w = .ok z w) (E:∀w,(underlying t).run P w = .ok (.slice e') w) (hs:∀w,(sizeOf e').run P w = .ok sz w)
  (k:∀b,OD P C ops l ⟨x.n,(tt,.v (.slice (some ⟨b,0,none⟩) len len))::x.env,⟨b,e',ds.length,ds⟩::x.S⟩ Q) (ho:o.op = .buildSlice t len ps.toArray:=by exact rfl) (hw:cg ops x o true:=by exact av) (fq:o.dst=some tt:=by exact rfl) (hl:Nat.ble 1 (len*sz)=true:=by exact rfl) (j8:Nat.ble (len*sz) (2 ^ 24)=true:=by exact rfl)
  (cW:(Array.range (len*sz)).map (fun i=>z.cells[i % z.cells.size]!)=gE.toArray:=by kernel_rfl) (gD:iE x ps pl:=by exact yD) (hj:pl.all (fun p=>iF p.2)=true:=by exact rfl) (hd:fD (fun i=>some (i*sz,sz)) (gE.map .v) pl=some ds:=by exact yB) (hne:isMap e'=false:=by exact rfl):OD P C ops (o::l) x Q:=Ba (hne:=hne) hw ho fq hz E hs hl j8 cW gD hj hd k
theorem bk {e':TypeId} {tt len:Nat} {z:Value} (pl:List (Nat×D)) (gE:List Value) (ds:List D) (hz:∀w,(zeroValue e').run P w = .ok z w) (E:∀w,(underlying t).run P w = .ok (.slice e') w) (hs:∀w,(sizeOf e').run P w = .ok sz w)
  (k:∀b,AD P C ops S1 T aZ (ld.setIfInBounds i true) ⟨x.n,(tt,.v (.slice (some ⟨b,0,none⟩) len len))::x.env,⟨b,e',ds.length,ds⟩::x.S⟩ Q) (hi:ops[i]?=some o:=by exact rfl) (ho:o.op = .buildSlice t len ps.toArray:=by exact rfl) (hw:cg ops x o true:=by exact av) (fq:o.dst=some tt:=by exact rfl) (hl:Nat.ble 1 (len*sz)=true:=by exact rfl) (j8:Nat.ble (len*sz) (2 ^ 24)=true:=by exact rfl)
  (cW:(Array.range (len*sz)).map (fun i=>z.cells[i % z.cells.size]!)=gE.toArray:=by kernel_rfl) (gD:iE x ps pl:=by exact yD) (hj:pl.all (fun p=>iF p.2)=true:=by exact rfl) (hd:fD (fun i=>some (i*sz,sz)) (gE.map .v) pl=some ds:=by exact yB) (hne:isMap e'=false:=by exact rfl):dr P C ops S1 T aZ ld x Q i:=Ad (hne:=hne) hi hw ho fq hz E hs hl j8 cW gD hj hd k
theorem bq (k:Nat) (cs':List D) {o' m:Nat} {y:Operand} (hn:∀w,(sizeOf t).run P w = .ok m w) (K:OD P C ops l ⟨x.n,x.env,x.S.set k {B with cs:=cs'}⟩ Q) (ho:o.op = .store t y z:=by exact rfl) (hw:cg ops x o true:=by exact av) (fq:o.dst=none:=by exact rfl) (hy:aL x y = .v (.pointer (some ⟨b,o',none⟩)):=by exact ot)
  (hk:x.S[k]?=some B:=by exact rfl) (hb:B.b=b:=by exact rfl) (hz:aL x z=d:=by first|exact ot|exact aJ) (hj:iF d=true:=by exact rfl) (h1:(cellsOf d).all one=true:=by exact rfl) (j9:(cellsOf d).length=m:=by exact rfl) (hl:Nat.ble (o'+m) B.cs.length=true:=by exact rfl) (cB:eX B.cs o' (cellsOf d)=cs':=by exact rfl) (hne:isMap B.e=false:=by exact rfl):OD P C ops (o::l) x Q:=OD.store (hne:=hne) hw ho fq hy hk hb hz hj h1 hn j9 hl cB K
theorem aO (k:Nat) (cs':List D) {o' m:Nat} {y:Operand} (hn:∀w,(sizeOf t).run P w = .ok m w) (K:AD P C ops S1 T aZ (ld.setIfInBounds i true) ⟨x.n,x.env,x.S.set k {B with cs:=cs'}⟩ Q) (hi:ops[i]?=some o:=by exact rfl) (ho:o.op = .store t y z:=by exact rfl) (hw:cg ops x o true:=by exact av) (fq:o.dst=none:=by exact rfl) (hy:aL x y = .v (.pointer (some ⟨b,o',none⟩)):=by exact ot)
  (hk:x.S[k]?=some B:=by exact rfl) (hb:B.b=b:=by exact rfl) (hz:aL x z=d:=by first|exact ot|exact aJ) (hj:iF d=true:=by exact rfl) (h1:(cellsOf d).all one=true:=by exact rfl) (j9:(cellsOf d).length=m:=by exact rfl) (hl:Nat.ble (o'+m) B.cs.length=true:=by exact rfl) (cB:eX B.cs o' (cellsOf d)=cs':=by exact rfl) (hT:∀b∈T,b∈au (x.S.eraseIdx k):=by exact uk) (hne:isMap B.e=false:=by exact rfl):dr P C ops S1 T aZ ld x Q i:=dr.store (hne:=hne) hi hw ho fq hy hk hb hz hj h1 hn j9 hl cB hT K
theorem ae {t:Nat} (K:OD P C ops l ⟨n,(t,d)::e,S⟩ Q) (ho:o.op = .move z\/o.op = .assign z:=by first|exact .inl rfl|exact .inr rfl) (hz:aL ⟨n,e,S⟩ z=d:=by first|exact ot|exact aJ|exact lH|exact kK)
  (hw:cg ops ⟨n,e,S⟩ o true:=by first|exact kD rfl|exact mA rfl rfl rfl lk w5) (hd:o.dst=some t:=by exact rfl):OD P C ops (o::l) ⟨n,e,S⟩ Q:=iT hw hd (aU ho hz) K
theorem c6{fn:Func}{t:Nat}{post:D->List ay->Prop}(hr:fn.results = #[.tmp t])(K:post d [])(ht:Nat.blt t x.n=true:=by exact rfl)(hd:look t x.env=d:=by exact lk):∃r S',S'.Sublist x.S/\iq P fn x r/\post r S':=⟨d,[],nil_sublist _,c8 hr (dm (Nat.le_of_ble_eq_true ht) hd),K⟩
end
section
variable {P:Program} {C:cq} {G:List (Nat×List Value)} {Q:Exit->St->Prop} {x:St} {ops:Array Oper} {l:List Oper} {o:Oper} {S1 T:List Nat} {aZ i:Nat} {ld:Array Bool}
variable {sz:Nat} {y:Operand}
theorem z4 {t e:TypeId} {len j:Nat} {cs ds:List D} {k:IntKind} {i:Int} {z:Operand} (ho:o.op = .index t y z) (hy:aL x y = .agg cs) (hz:aL x z = .v (.int k i))
  (E:∀w,(underlying t).run P w = .ok (.array len e) w) (hs:∀w,(sizeOf e).run P w = .ok sz w) (ha:∀w,(isAgg e).run P w = .ok true w) (hi:i=j) (hj:j<len) (hd:(cs.drop (j*sz)).take sz=ds):bG P G x o .none (.agg ds):=fun C a w _ h=>by
 have hr:=h.eval y;rw[hy] at hr;generalize hg:a.eval y=u at hr;subst hi hd;cases hr with
 | agg _ vs hl hr =>
  refine⟨.agg ((vs.drop (j*sz)).take sz).toArray,.agg _ _ (by simp[hl]) (fun i h1 h2=>?_),fun w' _=>?_⟩
  ·simp only[getElem_take,getElem_drop];exact hr _ _ _
  unfold execOp;simp[ho,hg,h.flat hz,Instr.index,asIntOf,E,hj,part,ha,asAgg,hs]
theorem vg {t e:TypeId} {J hi:Option Operand} (ho:o.op = .slice t y J hi none) (hy:aL x y = .v (.slice none 0 0)) (E:gT x J 0 0) (I:gT x hi 0 0)
  (K:∀w,(underlying t).run P w = .ok (.slice e) w) (hs:∀w,(sizeOf e).run P w = .ok sz w):bG P G x o .none (.v (.slice none 0 0)):=fun C a w _ h =>
 ⟨_,.v _,fun w' _=>by
  have M:=kF h E;have N:=kF h I;unfold execOp;simp[ho,h.flat hy,Instr.sliceAt,Instr.slice,K,mv M N (Nat.zero_le _) (Nat.le_refl _),hs]⟩
theorem lB {α:Type} {g:α->List D} {ls new:List α} {s:Operand} {t e tt bytes cap:Nat} {ad:Option Addr} {z:Value} {Sq R:List ay} (hg:∀a,(g a).length=sz) (hg1:∀a,(g a).all one=true) (M:ops[i]?=some o) (hw:cg ops x o true) (ho:o.op = .call {callee:=.builtin .append,args:=#[s,y],argTypes:=#[t,t]}) (hd:o.dst=some tt)
  (ht:P.underlying t=some (.slice e)) (hi:(P.info? e).map (fun i=>(i.zero,i.size,i.bytes))=some (some z,sz,bytes)) (cW:z.cells.size=sz) (N:0<sz)
  (hs:aL x s = .v (.slice ad ls.length cap)) (O:bQ e sz (ls.flatMap g) ls.length ad cap Sq) (hp:x.S.Perm (Sq++R))
  (hy:aL x y = .list sz (new.flatMap g) new.length) (hm:0<new.length) (U:ls.length+new.length<=maxLen) (I:(ls.length+new.length)*bytes<=140737488355328)
  (K:∀J E,(ls++new).length<=E->E<=maxLen->AD P C ops S1 T aZ (ld.setIfInBounds i true) ⟨x.n,(tt,.v (.slice (some ⟨J,0,none⟩) (ls++new).length E))::x.env,⟨J,e,E*sz,(ls++new).flatMap g⟩::R⟩ Q) (hne:isMap e=false:=by rfl)
  (hT:∀b∈T,b∈au R:=by first|exact fun b hb=>hb|(intro b hb;simp[au] at hb |-;first|exact hb|exact .inl hb|(rcases hb with hb|hb<;>simp[hb])|(rcases hb with hb|hb|hb<;>simp[hb])|(rcases hb with hb|hb|hb|hb<;>simp[hb])|(rcases hb with hb|hb|hb|hb|hb<;>simp[hb])|(rcases hb with hb|hb|hb|hb|hb|hb<;>simp[hb])|(rcases hb with hb|hb|hb|hb|hb|hb|hb<;>simp[hb])|(rcases hb with hb|hb|hb|hb|hb|hb|hb|hb<;>simp[hb]))):dr P C ops S1 T aZ ld x Q i :=
 u6 (hne:=hne) M hw ho hd ht hi cW N hs O hp (dg hg ls) hy (nD hg1 new) hm U I hT fun J E h1 h2=>by
  have:=K J E (by rw[length_append];exact h1) h2;rw[length_append,flatMap_append] at this;exact this
end
section
variable {P:Program} {C:cq} {G:List (Nat×List Value)} {Q:Exit->St->Prop} {x:St} {ops:Array Oper} {l:List Oper} {o:Oper}
def VX(P:Program)(G:List (Nat×List Value))(f:FuncId)(args:List D)(S:List ay)(post:D->List ay->Prop)(uj:List PanicEntry->Prop):Prop :=
 ∀(X:Nat->Prop) (w:World) (vs:List Value),ke G X w S args vs->Calls P f vs.toArray w fun e w' =>
  (∃v r S',e = .returned v/\post r S'/\Own w' (live X S') S'/\bF w' (live X S') r v/\Fr w (au S) w' (au S'))\/(∃ch,e = .panicked ch/\uj ch/\Fr w (au S) w' [])
theorem bP.bB{a:Act}{w:World}(h:bP C x a w)(hG:C.G=G){f:FuncId}{args:List D}{vs:List Value}{Sf R:List ay}{post:D->List ay->Prop}{J:List PanicEntry->Prop}(hc:VX P G f args Sf post J)(hp:x.S.Perm (Sf++R))(hr:bY w (live C.X x.S) args vs) :
  Calls P f vs.toArray w fun e w'=>(∃v r S',e = .returned v/\post r S'/\bF w' (live C.X (S'++R)) r v/\bP C ⟨x.n,x.env,S'++R⟩ a w'/\ik (au Sf) w w'/\Fr w (au x.S) w' (au (S'++R)))\/(∃O,e = .panicked O/\J O/\bP C ⟨x.n,x.env,R⟩ a w'):=by
 have hb:(au x.S).Perm (au Sf++au R):=(by have:=hp.map ay.b;simpa[au] using this)
 have hL:=kH (X:=C.X) hp;have hnd:(au Sf++au R).Nodup:=hb.nodup_iff.1 h.own.apart;obtain⟨n1,n2,n3⟩:=nodup_append.1 hnd;have K:∀b,b∈au R->b<w.heap.size:=fun b U=>by
  obtain⟨B,M,rfl⟩:=mem_map.1 U;exact(h.own.at_ B (hp.symm.subset (mem_append_right _ M))).1
 have N:ke G (fun b=>C.X b\/b∈au R) w Sf args vs:=by
  refine⟨fun b hx=>?_,fun g hg=>?_,⟨fun B M=>?_,n1⟩,?_⟩
  ·rcases hx with hx|hx
   ·obtain⟨q1,q2⟩:=h.ex b hx;exact⟨Nat.lt_of_lt_of_le q1 h.fr.size,fun hm=>(h.fr.block b q1 q2).2 (hb.symm.subset (mem_append_left _ hm))⟩
   exact⟨K b hx,fun hm=>n3 b hm b hx rfl⟩
  ·rw[<-hG] at hg;obtain⟨⟨q1,q2,Y⟩,q4⟩:=h.dI g hg;have q5:=(h.fr.block g.1 q1 q2).2;refine⟨⟨Nat.lt_of_lt_of_le q1 h.fr.size,fun hm=>q5 (hb.symm.subset (mem_append_left _ hm)),fun hx=>?_⟩,fun i v hi=>h.kO hg hi⟩;rcases hx with hx|hx
   ·exact Y hx
   exact q5 (hb.symm.subset (mem_append_right _ hx))
  ·rw[<-hL];exact h.own.at_ B (hp.symm.subset (mem_append_left _ M))
  rw[<-hL];exact hr
 refine(hc _ w vs N).mono fun e w' hq=>?_;rcases hq with ⟨v,r,S',h1,h2,h3,h4,E⟩|⟨O,h1,h2,E⟩
 ·refine .inl ⟨v,r,S',h1,h2,?_,h.back hp h3 E,⟨E.size,fun b I hn=>(E.block b I hn).1⟩,?_⟩
  ·have:live C.X (S'++R)=live (fun b=>C.X b\/b∈au R) S':=kH (Perm.refl _);rw[this];exact h4
  refine⟨E.os,E.tape,E.output,E.size,fun b I hn=>?_⟩;have fI:b∉au Sf:=fun hm=>hn (hb.symm.subset (mem_append_left _ hm));have Z:b∉au R:=fun hm=>hn (hb.symm.subset (mem_append_right _ hm));obtain⟨Y,q4⟩:=E.block b I fI;refine⟨Y,fun hm=>?_⟩;have:au (S'++R)=au S'++au R:=(by simp[au])
  rw[this] at hm;rcases mem_append.1 hm with hm|hm
  ·exact q4 hm
  exact Z hm
 exact .inr ⟨O,h1,h2,h.back (S':=[]) hp ⟨fun B M=>(by cases M),nodup_nil⟩ E⟩
theorem OD.bB {f t:Nat} {fo:Operand} {bN:Array Operand} {ts:Array TypeId} {args:List D} {Sf R:List ay} {post:D->List ay->Prop} {I:List PanicEntry->Prop} (hw:cg ops x o true) (ho:o.op = .call {callee:=.value fo,args:=bN,argTypes:=ts}) (hd:o.dst=some t)
  (hf:fo = .func f) (E:∀args w,(callFunc f args).run P w = .ok (.enter f args) w) (hc:VX P C.G f args Sf post I) (ha:fZ x bN.toList args) (hp:x.S.Perm (Sf++R))
  (U:∀M,I M->Q (.panic M) ⟨x.n,x.env,R⟩) (K:∀r S',post r S'->OD P C ops l ⟨x.n,(t,r)::x.env,S'++R⟩ Q):OD P C ops (o::l) x Q:=fun a w h=>by
 have N:bN.toList.map (aL x)=args:=ha.eq;subst hf N;have hr:=bY.pT h bN.toList;have J:(execOp a.eval o).run P w = .ok (.enter f (bN.toList.map a.eval).toArray) w:=by
  unfold execOp;have e:bN.map a.eval=(bN.toList.map a.eval).toArray:=by
   rw[<-Array.toList_map,Array.toArray_toList]
  simp only[ho,resolve,Act.eval,Deferred.ofValue,Sem.run_bind,Sem.run_pure,Result.andThen_ok,invoke,e];simp[E]
 unfold wpList;rw[if_pos (hw _ a w h)];refine .inl ?_;unfold Oper.wp;rw[J,Oper.upon_enter,hd];refine(h.bB rfl hc hp hr).mono fun e w' Y=>?_;rcases Y with ⟨v,r,S',h1,h2,O,Z,h5,h6⟩|⟨M,h1,h2,O⟩
 ·subst h1;exact K r S' h2 _ _ (Z.put O)
 subst h1;exact .inl ⟨_,O,U M h2⟩
variable {S1 T:List Nat} {aZ i:Nat} {ld:Array Bool}
theorem dr.bB {f t:Nat} {fo:Operand} {bN:Array Operand} {ts:Array TypeId} {args:List D} {Sf R:List ay} {post:D->List ay->Prop} {N:List PanicEntry->Prop} (hi:ops[i]?=some o) (hw:cg ops x o true) (ho:o.op = .call {callee:=.value fo,args:=bN,argTypes:=ts}) (hd:o.dst=some t)
  (hf:fo = .func f) (M:∀args w,(callFunc f args).run P w = .ok (.enter f args) w) (hc:VX P C.G f args Sf post N) (ha:fZ x bN.toList args) (hp:x.S.Perm (Sf++R)) (hT:∀b∈T,b∈au R)
  (KP:∀Y,N Y->Q (.panic Y) ⟨x.n,x.env,R⟩) (K:∀r S',post r S'->AD P C ops S1 T aZ (ld.setIfInBounds i true) ⟨x.n,(t,r)::x.env,S'++R⟩ Q):dr P C ops S1 T aZ ld x Q i:=fun w1 a w h O aH E Z=>by
 have D1:bN.toList.map (aL x)=args:=ha.eq;subst hf D1;have hr:=bY.pT h bN.toList;have U:(execOp a.eval o).run P w = .ok (.enter f (bN.toList.map a.eval).toArray) w:=by
  unfold execOp;have e:bN.map a.eval=(bN.toList.map a.eval).toArray:=by
   rw[<-Array.toList_map,Array.toArray_toList]
  simp only[ho,resolve,Act.eval,Deferred.ofValue,Sem.run_bind,Sem.run_pure,Result.andThen_ok,invoke,e];simp[M]
 unfold wpOp;simp only[hi,hw C a w h,if_true];refine .inl ?_;unfold Oper.wp;rw[U,Oper.upon_enter,hd];refine(h.bB rfl hc hp hr).mono fun e w' hq=>?_;rcases hq with ⟨v,r,S',h1,h2,h3,h4,D2,hf⟩|⟨Y,h1,h2,h3⟩
 ·subst h1;have I:Fr w1 S1 w' (au (S'++R)):=⟨hf.os.trans E.os,hf.tape.trans E.tape,hf.output.trans E.output,Nat.le_trans E.size hf.size,fun b hb hn=>by
   obtain⟨q1,q2⟩:=E.block b hb hn;obtain⟨q3,q4⟩:=hf.block b (Nat.lt_of_lt_of_le hb E.size) q2;exact⟨q3.trans q1,q4⟩⟩
  have h7:(au x.S).Perm (au Sf++au R):=(by have:=hp.map ay.b;simpa[au] using this)
  have h8:=h7.nodup_iff.1 h.own.apart;have J:gW w1 S1 T w':=⟨fun b hb hn=>(I.block b hb hn).1,fun b hb=>by
   have tW:=Nat.lt_of_lt_of_le (aH b (O b hb)) E.size;exact(D2.2 b tW (fun hm=>(nodup_append.1 h8).2.2 b hm b (hT b hb) rfl)).trans (Z.2 b hb)⟩
  exact⟨J,K r S' h2 w1 _ w' (h4.put h3) O aH I J⟩
 subst h1;exact .inl ⟨_,h3,KP Y h2⟩
theorem VX.body {f:FuncId} {fn:Func} {c:Code} {n:Nat} {args:List D} {S:List ay} {post:D->List ay->Prop} {J:List PanicEntry->Prop} (hf:P.funcs[f]?=some fn) (hb:fn.body=some c) (hn:fn.ntmps=n) (hl:args.length<=n)
  (h:∀X w0 S0,CD P ⟨X,w0,S0,G,[],fun _ _=>False⟩ c ⟨n,ia 0 args,S⟩ (bD P fn post J)):VX P G f args S post J:=fun X w vs hp=>by
 have l8:vs.length=args.length:=hp.args.1;let C:cq:=⟨X,w,au S,G,[],fun _ _=>False⟩
 have K:bP C ⟨n,ia 0 args,S⟩ {tmps:=vs.toArray++Array.replicate (fn.ntmps-vs.toArray.size) undef,defers:=[]} w:=by
  refine⟨rfl,by simp[hn];omega,fun t ht=>?_,hp.own,Fr.refl _ _,hp.ex,hp.dI⟩;simp only[nj,Nat.zero_le,if_true,Nat.sub_zero];by_cases aH:t<args.length
  ·have O:args.getD t .cU=args[t]:=(by simp[getD,aH])
   have e2:(vs.toArray++Array.replicate (fn.ntmps-vs.toArray.size) undef).getD t undef=vs[t]'w8:=by
    rw[Array.getD_eq_getD_getElem?,Array.getElem?_append_left fx];simp[show t<vs.length by omega]
   rw[O,e2];exact hp.args.2 t aH w8
  have O:args.getD t .cU = .cU:=(by simp[getD,getElem?_eq_none (show args.length<=t by omega)])
  rw[O];exact .cU _
 refine calls_of_wp hf hb (wp_mono (h _ _ _ _ _ K) fun e a w' h=>?_);rcases h with ⟨y,h1,h2⟩|⟨_,h⟩
 case inr=>exact h.elim
 rcases h2 with ⟨h2,r,S',Y,h4,h5⟩|⟨N,rfl,M⟩
 ·obtain⟨v,q1,q2⟩:=h4 C a w' h1;have I:(au S').Sublist (au y.S):=Sublist.map _ Y;have U:a.defers=[]/\∃v,(results fn a.tmps).run P w' = .ok v w'/\((∃Z r S',Ending.returned v = .returned Z/\post r S'/\Own w' (live X S') S'/\bF w' (live X S') r Z/\Fr w (au S) w' (au S'))\/(∃N,Ending.returned v = .panicked N/\J N/\Fr w (au S) w' [])) :=
   ⟨h1.defers,v,q2,.inl ⟨v,r,S',rfl,h5,h1.own.sub Y,q1.mono fun b _ hn=>⟨rfl,fun hl=>hn (hl.imp id fun q=>I.subset q)⟩,
    ⟨h1.fr.os,h1.fr.tape,h1.fr.output,h1.fr.size,fun b E hn=>⟨(h1.fr.block b E hn).1,fun q=>(h1.fr.block b E hn).2 (I.subset q)⟩⟩⟩⟩
  rcases h2 with rfl|rfl<;>exact U
 exact⟨h1.defers,.inr ⟨N,rfl,M,h1.fr.os,h1.fr.tape,h1.fr.output,h1.fr.size,fun b E hn=>⟨(h1.fr.block b E hn).1,by simp⟩⟩⟩
theorem we{y:Operand}{v:Value}{T:TypeId}(hw:cg ops x o true)(ho:o.op = .panic y)(hy:aL x y = .v (.iface T v))(K:Q (.panic [{v:=.iface T v,recovered:=false}]) x):OD P C ops (o::l) x Q:=fun a w h=>by
 unfold wpList;rw[if_pos (hw _ a w h)];refine .inl ?_;unfold Oper.wp;have:(execOp a.eval o).run P w = .halt (.panic (.iface T v)) w:=by
  unfold execOp;simp[ho,h.flat hy,Instr.panic]
 rw[this,Oper.upon_panic];exact .inl ⟨x,h,K⟩
end
section
variable {P:Program} {C:cq} {G:List (Nat×List Value)} {Q:Exit->St->Prop} {x y:St} {R:Exit->Act->World->Prop}
variable {post:D->List ay->Prop}
def KD(P:Program)(C:cq)(c:Code)(x:St)(R:Exit->Act->World->Prop):Prop:=∀a w,bP C x a w->c.wp P R a w
theorem KD.of{c:Code}(h:CD P C c x Q)(k:∀e a w,LQ C Q e a w->R e a w):KD P C c x R:=fun a w hs=>wp_mono (h a w hs) k
theorem KD.seq{c d:Code}(h:KD P C c x (Exit.then (d.wp P R) R)):KD P C (.seq c d) x R:=fun a w hs=>wp_seq (h a w hs)
def mg(P:Program)(G:List (Nat×List Value))(g:FuncId)(da:List D)(S:List ay)(u u':FrameMode)(post:List ay->Prop):Prop :=
 ∀(X:Nat->Prop) (w:World) (vs:List Value),ke G X w S da vs->CallsDIn Fence.wide 0 P g vs.toArray u w fun e u2 w'=>(∃v,e = .returned v)/\u2=u'/\∃S',post S'/\Own w' (live X S') S'/\Fr w (au S) w' (au S')
def pV(post:D->List ay->Prop)(X:Nat->Prop)(w:World)(S:List ay)(e:Ending)(w':World):Prop:=∃v r S',e = .returned v/\post r S'/\Own w' (live X S') S'/\bF w' (live X S') r v/\Fr w (au S) w' (au S')
theorem VC.closing {f:FuncId} {fn:Func} {c:Code} {n:Nat} {args:List D} {S:List ay} (hf:P.funcs[f]?=some fn) (hb:fn.body=some c) (hn:fn.ntmps=n) (hl:args.length<=n)
  (h:∀X w,KD P ⟨X,w,au S,G,[],fun _ _=>False⟩ c ⟨n,ia 0 args,S⟩ (bodyPostM Fence.wide 0 P fn (pV post X w S))):VC P G f args S post:=fun X w vs hp=>by
 have J:vs.length=args.length:=hp.args.1;have E:bP ⟨X,w,au S,G,[],fun _ _=>False⟩ ⟨n,ia 0 args,S⟩ {tmps:=vs.toArray++Array.replicate (fn.ntmps-vs.toArray.size) undef,defers:=[]} w:=by
  refine⟨rfl,by simp[hn];omega,fun t ht=>?_,hp.own,Fr.refl _ _,hp.ex,hp.dI⟩;simp only[nj,Nat.zero_le,if_true,Nat.sub_zero];by_cases aH:t<args.length
  ·have I:args.getD t .cU=args[t]:=(by simp[getD,aH])
   have K:(vs.toArray++Array.replicate (fn.ntmps-vs.toArray.size) undef).getD t undef=vs[t]'w8:=by
    rw[Array.getD_eq_getD_getElem?,Array.getElem?_append_left fx];simp[show t<vs.length by omega]
   rw[I,K];exact hp.args.2 t aH w8
  have I:args.getD t .cU = .cU:=(by simp[getD,getElem?_eq_none (show args.length<=t by omega)])
  rw[I];exact .cU _
 exact callsIn_wide.1 (callsIn_of_wp_marks (F:=Fence.wide) (n:=0) hf hb trivial (wpIn_wide.2 (h X w _ _ E)) rfl)
theorem vz {a:Act} {w:World} {fn:Func} {w0:World} {S0:List ay} {g:FuncId} {da:List D} {cv:List Value} {u u':FrameMode} {Sf Rs:List ay} {pc:List ay->Prop}
  (h:bP C x a w) (Z:C.w0=w0) (D3:C.S0=au S0) (hG:C.G=G) (hd:a.defers=[{target:=.fn (.func g) cv.toArray,args:=#[]}]) (D4:bY w (live C.X x.S) da cv) (I:∀args w,(callFunc g args).run P w = .ok (.enter g args) w)
  (hp:x.S.Perm (Sf++Rs)) (hu:u≠.run) (D5:settle u' = .returning) (hc:mg P G g da Sf u u' pc) (K:∀S',pc S'->∃r E,E.Sublist (S'++Rs)/\iq P fn ⟨x.n,x.env,S'++Rs⟩ r/\post r E) :
  LeavesInM Fence.wide 0 P fn a.tmps (pV post C.X w0 S0) a.defers u w:=by
 have hb:(au x.S).Perm (au Sf++au Rs):=(by have:=hp.map ay.b;simpa[au] using this)
 have hL:=kH (X:=C.X) hp;have hnd:(au Sf++au Rs).Nodup:=hb.nodup_iff.1 h.own.apart;obtain⟨n1,n2,n3⟩:=nodup_append.1 hnd;have M:∀b,b∈au Rs->b<w.heap.size:=fun b tU=>by
  obtain⟨B,hB,rfl⟩:=mem_map.1 tU;exact(h.own.at_ B (hp.symm.subset (mem_append_right _ hB))).1
 have N:ke G (fun b=>C.X b\/b∈au Rs) w Sf da cv:=by
  refine⟨fun b hx=>?_,fun g hg=>?_,⟨fun B hB=>?_,n1⟩,?_⟩
  ·rcases hx with hx|hx
   ·obtain⟨q1,q2⟩:=h.ex b hx;exact⟨Nat.lt_of_lt_of_le q1 h.fr.size,fun hm=>(h.fr.block b q1 q2).2 (hb.symm.subset (mem_append_left _ hm))⟩
   exact⟨M b hx,fun hm=>n3 b hm b hx rfl⟩
  ·rw[<-hG] at hg;obtain⟨⟨q1,q2,q3⟩,q4⟩:=h.dI g hg;have q5:=(h.fr.block g.1 q1 q2).2;refine⟨⟨Nat.lt_of_lt_of_le q1 h.fr.size,fun hm=>q5 (hb.symm.subset (mem_append_left _ hm)),fun hx=>?_⟩,fun i v hi=>h.kO hg hi⟩;rcases hx with hx|hx
   ·exact q3 hx
   exact q5 (hb.symm.subset (mem_append_right _ hx))
  ·rw[<-hL];exact h.own.at_ B (hp.symm.subset (mem_append_left _ hB))
  rw[<-hL];exact D4
 rw[hd];refine⟨hu,.inr ⟨fun hq=>(by cases hq),.func g,cv.toArray,g,cv.toArray,rfl,?_,fun _ _=>trivial,?_⟩⟩
 ·simp[invoke,go_sem,I]
 refine(hc _ w cv N).mono fun e u2 w' ⟨⟨v,he⟩,D6,S',um,ho,hf⟩=>?_;subst he;subst D6;have J:bP C ⟨x.n,x.env,S'++Rs⟩ a w':=h.back hp ho hf;obtain⟨r,E,nQ,O,sw⟩:=K S' um;obtain⟨v',q1,q2⟩:=O C a w' J;have U:(au E).Sublist (au (S'++Rs)):=Sublist.map _ nQ;show LeavesInM Fence.wide 0 P fn a.tmps (pV post C.X w0 S0) [] (settle u2) w';rw[D5];refine⟨v',q2,v',r,E,rfl,sw,J.own.sub nQ,q1.mono fun b _ hn=>⟨rfl,fun hl=>hn (hl.imp id fun q=>U.subset q)⟩,?_⟩;have k:=J.fr;rw[Z,D3] at k;exact⟨k.os,k.tape,k.output,k.size,fun b Y hn=>⟨(k.block b Y hn).1,fun q=>(k.block b Y hn).2 (U.subset q)⟩⟩
end
section
variable {P:Program} {C:cq} {G:List (Nat×List Value)} {Q:Exit->St->Prop} {x:St} {ops:Array Oper} {l:List Oper} {o:Oper}
theorem zL {s y:Operand} {t tn e tt m sz bytes:Nat} {kq kn:IntKind} {z:Value} (ho:o.op = .call {callee:=.builtin .append,args:=#[s,y],argTypes:=#[t,tn]}) (hd:o.dst=some tt)
  (ht:P.underlying t=some (.slice e)) (D7:P.underlying tn=some (.int kn)) (hi:(P.info? e).map (fun i=>(i.zero,i.size,i.bytes))=some (some z,sz,bytes)) (cW:z.cells.size=sz) (N:0<sz)
  (hs:aL x s = .v (.slice none 0 0)) (hy:aL x y = .v (.int kq m)) (h0:0<m) (O:m<=maxLen) (Z:m*bytes<=140737488355328) (lT:isMap e=false:=by rfl) :
  gh P G x o [] (fun y=>∃b' E,m<=E/\E<=maxLen/\y=⟨x.n,(tt,.v (.slice (some ⟨b',0,none⟩) m E))::x.env,⟨b',e,E*sz,[]⟩::x.S⟩):=fun C a w K Q hG h hK=>by
 obtain⟨i,mb,mc,oq,me⟩:=pz hi;have I:=Lib.run_append_nil_zeros (P:=P) w t tn o.type e i z kq kn ht D7 mb mc m h0 (by rw[oq];exact N) (by simp only[maxLen] at O;omega) (by rw[me];omega);have h1:=grownCap_ge w m 0 e;have h2:=grownCap_le_maxLen w m 0 e O;generalize grownCap w m 0 e=E at I h1 h2;generalize U:Builtin.zeroCells z.cells m++Builtin.zeroCells z.cells (E-m)=J at I;have Y:∀q,(Builtin.zeroCells z.cells q).size=q*sz:=fun q=>by simp[Builtin.zeroCells,cW]
 have l9:J.size=E*sz:=by
  rw[<-U,Array.size_append,Y,Y,<-Nat.add_mul];congr 1;omega
 have M:(execOp a.eval o).run P w = .ok (.value (.slice (some ⟨w.heap.size,0,none⟩) m E)) (w.drew.alloc (.cells J e)):=by
  unfold execOp;simp only[ho,resolve,invoke,builtin,Sem.run_bind,Sem.run_pure,Result.andThen_ok,map_toArray,map_cons,map_nil,h.flat hs,h.flat hy,I]
 obtain⟨s1,s2,s3⟩:=h.grown (w':=w.drew.alloc (.cells J e)) (t:=tt) (m:=m) (e:=e) (sz:=sz) (S:=x.S) (cs:=[]) (row:=none) (g:=w.heap.size) (cap:=E) (cur:=J) (hne:=lT) (Sublist.refl _) (fun k hk=>by cases hk)
  ⟨rfl,rfl,rfl,by show w.heap.size<=(w.heap.push _).size;simp,fun k hk _=>getElem?_push_lt (w:=w.drew) hk⟩ (.inr rfl) (by show w.heap.size<(w.heap.push _).size;simp) (by show(w.heap.push _)[w.heap.size]?=_;simp) l9 (Nat.zero_le _) (fun j hj=>by cases hj)
 unfold Oper.wp;rw[M,Oper.upon_value,hd];exact hK _ _ _ ⟨_,_,h1,h2,rfl⟩ s1 s2 s3
theorem vm {s y:Operand} {t U e tt m sz bytes:Nat} {Y Z:IntKind} {z:Value} (hw:cg ops x o true) (ho:o.op = .call {callee:=.builtin .append,args:=#[s,y],argTypes:=#[t,U]}) (hd:o.dst=some tt)
  (ht:P.underlying t=some (.slice e)) (N:P.underlying U=some (.int Z)) (hi:(P.info? e).map (fun i=>(i.zero,i.size,i.bytes))=some (some z,sz,bytes)) (cW:z.cells.size=sz) (J:0<sz)
  (hs:aL x s = .v (.slice none 0 0)) (hy:aL x y = .v (.int Y m)) (h0:0<m) (O:m<=maxLen) (I:m*bytes<=140737488355328)
  (K:∀M E,m<=E->E<=maxLen->OD P C ops l ⟨x.n,(tt,.v (.slice (some ⟨M,0,none⟩) m E))::x.env,⟨M,e,E*sz,[]⟩::x.S⟩ Q) (lT:isMap e=false:=by rfl):OD P C ops (o::l) x Q :=
 OD.eR hw (zL (lT:=lT) ho hd ht N hi cW J hs hy h0 O I) fun y ⟨M,E,h1,h2,hy⟩=>hy ▸ K M E h1 h2
end
section
variable {P:Program} {C:cq} {G:List (Nat×List Value)} {Q:Exit->St->Prop} {x:St} {ops:Array Oper} {l:List Oper} {o:Oper} {S1 T:List Nat} {aZ i:Nat} {ld:Array Bool}
theorem pb {t e:TypeId} {ad:Option Addr} {len cap:Nat} {y:Operand} {ts:Array TypeId} (ho:o.op = .call {callee:=.builtin .cap,args:=#[y],argTypes:=ts}) (ht:ts = #[t]) (hy:aL x y = .v (.slice ad len cap))
  (E:∀w,(underlying t).run P w = .ok (.slice e) w):bG P G x o .none (.v (.int .i64 cap)):=fun C a w _ h=>⟨_,.v _,fun w' _=>by
 subst ht;unfold execOp;simp[ho,resolve,invoke,builtin,Builtin.cap_,h.flat hy,E,goInt]⟩
end
section
variable {P:Program} {G:List (Nat×List Value)} {x:St} {o:Oper} {C:cq} {S:List ay}
variable {t:TypeId} {y:Operand} {E:Array (String×TypeId)}
theorem zM {b n:Nat} {vs:List Value} (ho:o.op = .load t y) (hy:aL x y = .v (.pointer (some ⟨b,0,none⟩)))
  (hg:(b,vs)∈G) (ha:∀w,(isAgg t).run P w = .ok true w) (hn:∀w,(sizeOf t).run P w = .ok n w) (hl:vs.length=n) (ja:vs.all hN=true:=by rfl):bG P G x o .eP (.agg (vs.map .v)):=fun C a w I h=>by
 subst I;refine⟨.agg vs.toArray,.agg _ vs cl (fun i q1 q2=>?_),fun w' hw=>?_⟩
 ·simp only[getElem_map];exact .v _
 obtain⟨⟨q1,q2,J⟩,_⟩:=h.dI _ hg;have hb:b<w.heap.size:=Nat.lt_of_lt_of_le q1 h.fr.size;have E:¬live C.X x.S b:=fun hl=>hl.elim J (h.fr.block b q1 q2).2;have:=oX (P:=P) (t:=t) (b:=b) (o':=0) (vs:=vs) (w:=w') ha hn hl (fun j hj=>by
  rw[World.cell?_of_block (w:=w) (a:=⟨b,0+j,none⟩) (hw b hb E),Nat.zero_add];exact(h.kO hg (getElem?_eq_getElem hj)).cell (rI ja (getElem?_eq_getElem hj)))
 unfold execOp;simp only[ho,h.flat hy,Sem.run_bind,this,Result.andThen_ok,Sem.run_pure]
theorem wP{t b n:Nat}{vs:List Value}(hg:(b,vs)∈G)(ha:∀w,(isAgg t).run P w = .ok true w)(hn:∀w,(sizeOf t).run P w = .ok n w)(hl:vs.length=n)(ja:vs.all hN=true:=by rfl):R1 P G S (Op.load t) (.v (.pointer (some ⟨b,0,none⟩))) .eP (.agg (vs.map .v)):=fun x o y ho hy _=>zM ho hy hg ha hn hl ja
theorem zN(w:World)(I:P.underlying t=some (.interface E)):(Op.equal t .nilIface .nilIface).run P w = .ok true w:=by
 show(Op.equalIn (9999+1) t _ _).run P w=_;rw[Op.equalIn];simp[run_underlying I]
theorem zw{u:TypeId}{p:Value}(w:World)(I:P.underlying t=some (.interface E)):(Op.equal t (.iface u p) .nilIface).run P w = .ok false w:=by
 show(Op.equalIn (9999+1) t _ _).run P w=_;rw[Op.equalIn];simp[run_underlying I]
theorem z5{t':TypeId}(ho:o.op = .binOp .neq t y (.const .nilIface) t')(hy:aL x y = .v .nilIface)(I:P.underlying t=some (.interface E)):bG P G x o .none (.v (.bool false)):=fun C a w _ h =>
 ⟨_,.v _,fun w' _=>by
  have e:binOp .neq t .nilIface .nilIface=(do pure (.bool (!(<-Op.equal t .nilIface .nilIface)))):=rfl;have J:a.eval (.const .nilIface) = .nilIface:=rfl;unfold execOp;simp only[ho,h.flat hy,J,eqGuard,e,Sem.run_bind];simp[zN w' I]⟩
theorem zO{t' E:TypeId}{p:Value}{I:Array (String×TypeId)}(ho:o.op = .binOp .neq t y (.const .nilIface) t')(hy:aL x y = .v (.iface E p))(J:P.underlying t=some (.interface I)):bG P G x o .none (.v (.bool true)):=fun C a w _ h =>
 ⟨_,.v _,fun w' _=>by
  have e:binOp .neq t (.iface E p) .nilIface=(do pure (.bool (!(<-Op.equal t (.iface E p) .nilIface)))):=rfl;have K:a.eval (.const .nilIface) = .nilIface:=rfl;unfold execOp;simp only[ho,h.flat hy,K,eqGuard,e,Sem.run_bind];simp[zw w' J]⟩
end
section
variable {P:Program} {C:cq} {G:List (Nat×List Value)} {Q:Exit->St->Prop} {x:St}
variable {sz:Nat} {l:List (Nat×D)} {S' Sq:List ay} {cs':List D} {ad:Option Addr}
def Gv(d d':D):Prop:=∀w L v,bF w L d v->bF w L d' v
theorem jq{d:D}:Gv d d:=fun _ _ _ h=>h
theorem sb:Gv (.v (.slice none 0 0)) (.list sz [] 0):=fun _ _ _ h=>by rw[h.eK];exact .nil sz
def jF:List D->List D->Prop
 | [],[]=>True
 | d::r,d'::r'=>Gv d d'/\jF r r'
 | _,_=>False
theorem jF.spec:∀{a b:List D},jF a b->b.length=a.length/\∀i (h:i<a.length) (h':i<b.length),Gv a[i] b[i]
 | [],[],_=>⟨rfl,fun i h=>by simp at h⟩
 | d::r,d'::r',h=>by
  obtain⟨h1,h2⟩:=jF.spec h.2;refine⟨by simp[h1],fun i q E=>?_⟩;cases i with
  | zero=>exact h.1
  | succ i=>exact h2 i (by simpa using q) (by simpa using E)
 | [],_::_,h=>h.elim
 | _::_,[],h=>h.elim
theorem si{a b:List D}(h:jF a b):Gv (.agg a) (.agg b):=fun w L v hr=>by
 obtain⟨h1,h2⟩:=h.spec;cases hr with
 | agg _ vs hl hq=>exact .agg b vs w8 fun i q E=>h2 i w8 q _ _ _ (hq i w8 E)
theorem Wk.cells{n:Nat}{S:List ay}{k:Nat}{B:ay}(hk:S[k]?=some B)(H:jF B.cs cs')(hS:S.set k {B with cs:=cs'}=S'):Wk ⟨n,l,S⟩ ⟨n,l,S'⟩:=fun C a w h=>by
 subst hS;obtain⟨H1,H2⟩:=H.spec;have U:=(List.getElem?_eq_some_iff.1 hk).1;have K:=(List.getElem?_eq_some_iff.1 hk).2;have E:au (S.set k {B with cs:=cs'})=au S:=by
  unfold au;rw[map_set];apply ext_getElem cl;intro i q1 q2;rw[getElem_set];split
  ·rename_i e;subst e;simp[K]
  rfl
 have I:live C.X (S.set k {B with cs:=cs'})=live C.X S:=(by funext b;simp only[live,E])
 refine⟨h.defers,h.size,fun t ht=>?_,⟨fun B' M=>?_,?_⟩,?_,h.ex,h.dI⟩
 ·simp only[I];exact h.env t ht
 ·simp only[I];obtain⟨p,hp,J⟩:=mem_iff_getElem.1 M;rw[length_set] at hp;rw[getElem_set] at J;by_cases e:k=p
  ·rw[if_pos e] at J;subst J;obtain⟨r0,cur,r1,r2,r3,Y⟩:=h.own.at_ B (mem_of_getElem? hk);refine⟨r0,cur,r1,r2,by show cs'.length<=B.size;omega,fun q Z=>?_⟩;have N:q<cs'.length:=Z;obtain⟨u,hu,O⟩:=Y q w8;exact⟨u,hu,H2 q w8 N _ _ _ O⟩
  rw[if_neg e] at J;subst J;exact h.own.at_ _ (getElem_mem hp)
 ·simp only[E];exact h.own.apart
 simp only[E];exact h.fr
theorem iA{c:Code}{k:Nat}{B:ay}(hk:x.S[k]?=some B)(H:jF B.cs cs')(hS:x.S.set k {B with cs:=cs'}=S')(K:CD P C c ⟨x.n,x.env,S'⟩ Q):CD P C c x Q:=hU (Wk.cells (n:=x.n) (l:=x.env) (S:=x.S) hk H hS) K
theorem Wk.AJ {n i j m cap e:Nat} {S R:List ay} {A:ay} {cs:List D} (ho:bQ e sz cs m ad cap Sq) (hl:cs.length=m*sz) (hp:S.Perm (Sq++R)) (hj:R[j]?=some A) (hi:A.cs[i]?=some (.v (.slice ad m cap)))
  (E:A.cs.set i (.list sz cs m)=cs') (hS:R.set j {A with cs:=cs'}=S') (hne:isMap e=false:=by rfl):Wk ⟨n,l,S⟩ ⟨n,l,S'⟩:=by
 refine(Wk.perm hp).trans ?_;rcases ho with ⟨rfl,rfl,rfl,rfl,rfl⟩|⟨b,rfl,h1,h2,rfl⟩
 ·refine Wk.cells (B:=A) hj ?_ hS;subst E;have J:∀(I:List D) (i:Nat),I[i]?=some (.v (.slice none 0 0))->jF I (I.set i (.list sz [] 0)):=by
   have K:∀r:List D,jF r r:=by
    intro r;induction r with
    | nil=>trivial
    | cons d r ih=>exact⟨jq,ih⟩
   intro I;induction I with
   | nil=>intro i h;simp at h
   | cons d r ih =>
    intro i h;cases i with
    | zero=>simp only[getElem?_cons_zero,Option.some.injEq] at h;subst h;exact⟨sb,K r⟩
    | succ i=>simp only[getElem?_cons_succ] at h;exact⟨jq,ih i h⟩
  exact J _ _ hi
 exact Wk.BK (hne:=hne) (k:=0) rfl hj hi rfl hl h1 h2 E hS
theorem rf {c:Code} {i j m cap e:Nat} {R:List ay} {A:ay} {cs:List D} (ho:bQ e sz cs m ad cap Sq) (hl:cs.length=m*sz) (hp:x.S.Perm (Sq++R)) (hj:R[j]?=some A) (hi:A.cs[i]?=some (.v (.slice ad m cap)))
  (E:A.cs.set i (.list sz cs m)=cs') (hS:R.set j {A with cs:=cs'}=S') (K:CD P C c ⟨x.n,x.env,S'⟩ Q) (hne:isMap e=false:=by rfl):CD P C c x Q:=hU (Wk.AJ (hne:=hne) (n:=x.n) (l:=x.env) (S:=x.S) ho hl hp hj hi E hS) K
end
section
variable {P:Program} {C:cq} {G:List (Nat×List Value)} {Q:Exit->St->Prop} {x y:St} {R:Exit->Act->World->Prop}
variable {w:World} {L:Nat->Prop}
theorem Ao{vs us:List Value}(hl:us.length=(vs.map D.v).length)(h:∀i (h:i<(vs.map D.v).length) (h':i<us.length),bF w L (vs.map D.v)[i] us[i]):us=vs:=by
 rw[length_map] at hl;apply ext_getElem hl;intro i h1 h2;have:=h i (by simpa using h2) h1;simp only[getElem_map] at this;exact this.eK
theorem KD.sJ{c d:Code}{Q1:Exit->St->Prop}(I:∀a w,¬C.om a w)(h:CD P C c x Q1)(hn:∀y,Q1 .normal y->KD P C d y R)(ho:∀e a w y,e≠.normal->bP C y a w->Q1 e y->R e a w):KD P C (.seq c d) x R:=KD.seq (KD.of h fun e a w E=>by
 rcases E with ⟨y,hs,E⟩|⟨_,he⟩
 ·cases e with
  | normal=>exact hn y E a w hs
  | exit _=>exact ho _ a w y cJ hs E
  | goto _=>exact ho _ a w y cJ hs E
  | ret=>exact ho _ a w y cJ hs E
  | panic _=>exact ho _ a w y cJ hs E
  | outgrown=>exact ho _ a w y cJ hs E
 exact(I _ _ he).elim)
theorem vP{X:Nat->Prop}{w0:World}{S:List ay}{om:Act->World->Prop}{a:Act}{fn:Func}{post:D->List ay->Prop}(h:bP ⟨X,w0,au S,G,[],om⟩ y a w)(hb:∃r S',S'.Sublist y.S/\iq P fn y r/\post r S') :
  LeavesInM Fence.wide 0 P fn a.tmps (pV post X w0 S) a.defers .returning w:=by
 rw[h.defers];obtain⟨r,S',nQ,E,sw⟩:=hb;obtain⟨v,q1,q2⟩:=E _ a w h;have I:(au S').Sublist (au y.S):=Sublist.map _ nQ;exact⟨v,q2,v,r,S',rfl,sw,h.own.sub nQ,q1.mono fun b _ hn=>⟨rfl,fun hl=>hn (hl.imp id fun q=>I.subset q)⟩,
  ⟨h.fr.os,h.fr.tape,h.fr.output,h.fr.size,fun b J hn=>⟨(h.fr.block b J hn).1,fun q=>(h.fr.block b J hn).2 (I.subset q)⟩⟩⟩
def pW(g:FuncId)(vs:List Value):Deferred:={target:=.fn (.func g) vs.toArray,args:=#[]}
theorem KD.defer {id t:Nat} {g:FuncId} {N J:Oper} {vs:List Value} {I:Code} {k:Rd} {ts:Array TypeId} (hg1:N.guard=none) (hg2:J.guard=none) (h1:bG P C.G x N k (.dV (.func g) (vs.map .v))) (hd1:N.dst=some t) (U:J.op = .defer {callee:=.value (.tmp t),args:=#[],argTypes:=ts}) (hd2:J.dst=none) (ht:Nat.blt t x.n=true)
  (K:KD P ⟨C.X,C.w0,C.S0,C.G,pW g vs::C.df,C.om⟩ I ⟨x.n,(t,.dV (.func g) (vs.map .v))::x.env,x.S⟩ R):KD P C (.seq (.region id [N,J].toArray false) I) x R:=KD.seq fun a w hs=>wp_region_lit (by
 unfold wpList;rw[if_pos (kD hg1 C a w hs)];refine .inl (h1.eR hd1 _ _ _ _ _ rfl hs fun y O w' hy E _ _=>?_);subst hy;unfold wpList;rw[if_pos (kD hg2 C O w' E)];refine .inl ?_;have Y:O.eval (.tmp t) = .func (.func g) #[] vs.toArray:=by
  have:=E.eval (.tmp t);have ho:aL (x.put t (.dV (.func g) (vs.map .v))) (.tmp t) = .dV (.func g) (vs.map .v):=(by simp[aL,St.put,ht,jj])
  rw[ho] at this;generalize O.eval (.tmp t)=u at this;cases this with
  | dV _ _ us hl hr=>rw[Ao hl hr]
 have M:(execOp O.eval J).run P w' = .ok (.defer (pW g vs)) w':=by
  unfold execOp;simp only[U,resolve,Y,Deferred.ofValue,Sem.run_bind,Sem.run_pure,Result.andThen_ok];simp[pW]
 unfold Oper.wp;rw[M,Oper.upon_defer,hd2];exact K _ w' ⟨congrArg (pW g vs::·) E.defers,E.size,E.env,E.own,E.fr,E.ex,E.dI⟩)
theorem sj{a b:List D}(h:jF a b):Gv (.dU a) (.dU b):=fun w L v hr=>by
 obtain⟨h1,h2⟩:=h.spec;cases hr with
 | dU _ vs hl hq=>exact .dU b vs w8 fun i q E=>h2 i w8 q _ _ _ (hq i w8 E)
theorem iq.gv{fn:Func}{r E:D}(h:iq P fn y r)(g:Gv r E):iq P fn y E:=fun C a w hs=>let ⟨v,h1,h2⟩:=h C a w hs;⟨v,g _ _ _ h1,h2⟩
theorem vQ(vs:List Value):bY w L (vs.map D.v) vs:=⟨by simp,fun i h h'=>by rw[getElem_map];exact .v _⟩
theorem zx{G:List (Nat×List Value)}{o:Oper}{I E:TypeId}{y:Operand}{vs:List Value}{J:Array Field}(ho:o.op = .typeAssert y I E false)(hy:aL x y = .v (.iface E (.agg vs.toArray)))(K:P.underlying E=some (.struct J)):bG P G x o .none (.agg (vs.map .v)):=fun C a w _ h =>
 ⟨_,.agg _ vs cl (fun i h h'=>by rw[getElem_map];exact .v _),fun w' _=>by
  unfold execOp;simp[ho,h.flat hy,Instr.typeAssert,run_underlying K]⟩
theorem vA{ops:Array Oper}{o:Oper}(h:o.guard=none)(a:Act):Region.wanted o (yielded ops a.tmps)=true:=by simp[Region.wanted,h]
theorem mg.recover {g:FuncId} {fn:Func} {n id t0 t1:Nat} {J M:Oper} {E:Code} {da:List D} {S:List ay} {pc:List ay->Prop} {u u':FrameMode} {v:Value} {ts:Array TypeId} (hf:P.funcs[g]?=some fn) (hb:fn.body=some (.seq (.region id #[J,M] false) E)) (hn:fn.ntmps=n) (hr:fn.results = #[]) (hl:da.length<=n)
  (hg0:J.guard=none) (hg1:M.guard=none) (D8:J.op = .call {callee:=.builtin .recover,args:=#[],argTypes:=ts}) (hd0:J.dst=some t0) (ir:M.op = .assign (.tmp t0)) (hd1:M.dst=some t1) (ht0:t0<n)
  (Y:∀N cs,N.mode=u->(recoverD (N::cs)=some (v,{N with mode:=u'}::cs))\/(recoverD (N::cs)=none/\v = .nilIface/\u'=u))
  (K:∀X w0,CD P ⟨X,w0,au S,G,[],fun _ _=>False⟩ E ⟨n,(t1,.v v)::(t0,.v v)::ia 0 da,S⟩ (fun e y=>e = .normal/\pc y.S)):mg P G g da S u u' pc:=fun X w vs hp=>by
 have l8:vs.length=da.length:=hp.args.1;have I:bP ⟨X,w,au S,G,[],fun _ _=>False⟩ ⟨n,ia 0 da,S⟩ {tmps:=vs.toArray++Array.replicate (fn.ntmps-vs.toArray.size) undef,defers:=[]} w:=by
  refine⟨rfl,by simp[hn];omega,fun t ht=>?_,hp.own,Fr.refl _ _,hp.ex,hp.dI⟩;simp only[nj,Nat.zero_le,if_true,Nat.sub_zero];by_cases aH:t<da.length
  ·have Z:da.getD t .cU=da[t]:=(by simp[getD,aH])
   have e2:(vs.toArray++Array.replicate (fn.ntmps-vs.toArray.size) undef).getD t undef=vs[t]'w8:=by
    rw[Array.getD_eq_getD_getElem?,Array.getElem?_append_left fx];simp[show t<vs.length by omega]
   rw[Z,e2];exact hp.args.2 t aH w8
  have Z:da.getD t .cU = .cU:=(by simp[getD,getElem?_eq_none (show da.length<=t by omega)])
  rw[Z];exact .cU _
 generalize hA:({tmps:=vs.toArray++Array.replicate (fn.ntmps-vs.toArray.size) undef,defers:=[]}:Act)=A at I;refine callsDIn_of_wpSIn hf hb trivial fun N cs hu=>wpSIn_seq (wpSIn_region ?_);rw[hA];have O:(execOp A.eval J).run P w = .ok .recover w:=by
  unfold execOp;simp[D8,resolve,invoke,builtin]
 have uo:bP ⟨X,w,au S,G,[],fun _ _=>False⟩ ⟨n,(t1,.v v)::(t0,.v v)::ia 0 da,S⟩ ((A.put (some t0) v).put (some t1) v) w:=(I.put (t:=t0) (bF.v v)).put (t:=t1) (bF.v v);have D9:(A.put (some t0) v).eval (.tmp t0)=v:=by
  have:=(I.put (t:=t0) (bF.v v)).flat (o:=.tmp t0) (u:=v) (by
   have:Nat.blt t0 n=true:=(by simp[Nat.blt];omega)
   simp[aL,St.put,jj,this])
  exact this
 have U:(execOp (A.put (some t0) v).eval M).run P w = .ok (.value v) w:=by
  unfold execOp;simp[ir,D9]
 have key:∀cs',cs'={N with mode:=u'}::cs->wpOpsSIn Fence.wide 0 P #[J,M] (Exit.thenS (E.wpSIn Fence.wide 0 P (bodyPostS P fn N cs fun e u2 w'=>(∃v,e = .returned v)/\u2=u'/\∃S',pc S'/\Own w' (live X S') S'/\Fr w (au S) w' (au S'))) (bodyPostS P fn N cs fun e u2 w'=>(∃v,e = .returned v)/\u2=u'/\∃S',pc S'/\Own w' (live X S') S'/\Fr w (au S) w' (au S'))) [1] (A.put (some t0) v) cs' w:=fun cs' cB=>by
  have Z:(#[J,M]:Array Oper)[1]?=some M:=rfl;simp only[wpOpsSIn,Z];refine⟨fun _ _=>trivial,?_⟩;rw[if_pos (vA hg1 _),U,hd1];refine wpSIn_of_wpIn rfl (wpIn_wide.2 (wp_mono (K X w _ _ uo) fun e a3 w3 hq=>?_));rcases hq with ⟨y,hy,rfl,um⟩|⟨_,he⟩
  ·subst cB;refine⟨hy.defers,u',rfl,.tuple #[],by unfold results;simp[hr],⟨_,rfl⟩,rfl,y.S,um,hy.own,hy.fr⟩
  exact he.elim
 have e0:(#[J,M]:Array Oper)[0]?=some J:=rfl;show wpOpsSIn Fence.wide 0 P #[J,M] _ [0,1] A (N::cs) w;rw[wpOpsSIn];simp only[e0];refine⟨fun _ _=>trivial,?_⟩;rw[if_pos (vA hg0 _),O,hd0];rcases Y N cs hu with h|⟨h,rfl,rfl⟩
 ·rw[h];exact key _ rfl
 rw[h];exact key _ (by subst hu;rfl)
end
section
variable {P:Program} {C:cq} {G:List (Nat×List Value)} {Q:Exit->St->Prop} {x:St} {ops:Array Oper} {l:List Oper} {o:Oper}
variable {t e:TypeId} {cap sz n tt bytes:Nat} {k2 k3:IntKind} {y hi I s:Operand} {z:Value} {ad:Option Addr} {Sq:List ay}
theorem zP {b len:Nat} (ho:o.op = .slice t y none (some hi) (some I)) (hy:aL x y = .v (.slice (some ⟨b,0,none⟩) len cap)) (E:aL x hi = .v (.int k2 n)) (gg:aL x I = .v (.int k3 n))
  (J:∀w,(underlying t).run P w = .ok (.slice e) w) (hs:∀w,(sizeOf e).run P w = .ok sz w) (K:n<=cap):bG P G x o .none (.v (.slice (some ⟨b,0,none⟩) n n)):=fun C a w _ h =>
 ⟨_,.v _,fun w' _=>by
  have M:∀w,(Instr.sliceBounds true len cap none (some (.int k2 n)) (some (.int k3 n))).run P w = .ok (0,n,n) w:=fun w=>by
   unfold Instr.sliceBounds;simp[rj,K]
  unfold execOp;simp only[ho,h.flat hy,h.flat E,h.flat gg,Instr.sliceAt,Instr.slice,J,Sem.run_bind,Result.andThen_ok,Option.map_some,Option.map_none,M,hs,Sem.run_pure];by_cases hc:n=0
  ·rw[if_pos hc];simp
  rw[if_neg hc];simp[Addr.add]⟩
theorem Bf(len cap n:Nat)(E:n<=cap)(w:World):(Instr.sliceBounds true len cap none (some (.int k2 n)) (some (.int k3 n))).run P w = .ok (0,n,n) w:=by
 unfold Instr.sliceBounds;simp[rj,E]
theorem zy (ho:o.op = .slice t y none (some hi) (some I)) (hy:aL x y = .v (.slice none 0 0)) (E:aL x hi = .v (.int k2 n)) (gg:aL x I = .v (.int k3 n)) (hn:n=0)
  (J:∀w,(underlying t).run P w = .ok (.slice e) w) (hs:∀w,(sizeOf e).run P w = .ok sz w):bG P G x o .none (.v (.slice none 0 0)):=fun C a w _ h =>
 ⟨_,.v _,fun w' _=>by
  have K:=fun w=>Bf (P:=P) (k2:=k2) (k3:=k3) 0 0 n w8 w;unfold execOp;simp only[ho,h.flat hy,h.flat E,h.flat gg,Instr.sliceAt,Instr.slice,J,Sem.run_bind,Result.andThen_ok,Option.map_some,Option.map_none,K,hs,Sem.run_pure];subst hn;simp⟩
theorem zz {t e m b k:Nat} {B:ay} {cs:List D} (ho:o.op = .call {callee:=.builtin .append,args:=#[s,y],argTypes:=#[t,t]}) (hd:o.dst=some tt)
  (ht:P.underlying t=some (.slice e)) (hi:(P.info? e).map (fun i=>(i.zero,i.size,i.bytes))=some (some z,sz,bytes)) (cW:z.cells.size=sz) (l9:0<sz)
  (hs:aL x s = .v (.slice (some ⟨b,0,none⟩) n n)) (hk:x.S[k]?=some B) (hb:B.b=b) (hl:n*sz<=B.cs.length)
  (hy:aL x y = .list sz cs m) (ER:∀d∈cs,one d=true) (EP:∀d∈B.cs.take (n*sz),one d=true) (hm:0<m) (O:n+m<=maxLen) (EN:(n+m)*bytes<=140737488355328) (hne:isMap B.e=false:=by rfl) (lT:isMap e=false:=by rfl) :
  gh P G x o [] (fun y=>∃b' E,n+m<=E/\E<=maxLen/\y=⟨x.n,(tt,.v (.slice (some ⟨b',0,none⟩) (n+m) E))::x.env,⟨b',e,E*sz,B.cs.take (n*sz)++cs⟩::x.S⟩):=fun C a w K Q hG h hK=>by
 subst hb;obtain⟨i,mb,mc,U,me⟩:=pz hi;obtain⟨r0,cur,r1,r2,r3,r4⟩:=h.ec hk;rw[fS hne] at r1;have hr:=h.eval y;rw[hy] at hr;generalize hg:a.eval y=u at hr;cases hr with
 | gz=>omega
 | list _ _ _ b' o' E f jD q1 q2 tX hL hc Ea =>
  have Y:Builtin.nextslicecap (n+m) n*bytes<=281474976710656:=by
   have q1:=nextslicecap_le (need:=n+m) (old:=n) w8;have q2:=Nat.mul_le_mul_right bytes q1;rw[Nat.mul_assoc] at q2;omega
  have I:=Go.run_append_grow (P:=P) (w:=w) t o.type e i z ht mb mc ⟨B.b,0,none⟩ n n (cur.toList.take (n*sz)) (by rw[U];simp;omega) (fun j v hv=>by
    have hj:=(List.getElem?_eq_some_iff.1 hv).1;rw[length_take] at hj;rw[getElem?_take_of_lt w8,Array.getElem?_toList] at hv;rw[Addr.add_mid,Nat.zero_add];exact jk r1 hv) ⟨b',o',none⟩ m E ((range cs.length).map f) (by rw[U];simp[jD]) (fun j u hu=>by
    rw[Addr.add_mid];obtain⟨hj,he⟩:=List.getElem?_eq_some_iff.1 hu;simp only[length_map,length_range] at hj;rw[hc j hj,<-he];simp) w8 (by simp only[maxLen] at O;omega) (by rw[me];exact Y)
  have h1:=grownCap_ge w (n+m) n e;have h2:=grownCap_le_maxLen w (n+m) n e O;generalize grownCap w (n+m) n e=cp at I h1 h2;generalize J:(cur.toList.take (n*sz)).toArray++((range cs.length).map f).toArray++Builtin.zeroCells z.cells (cp-(n+m))=N at I;have Eb:∀q,(Builtin.zeroCells z.cells q).size=q*sz:=fun q=>by simp[Builtin.zeroCells,cW]
  have aH:(cur.toList.take (n*sz)).length=n*sz:=(by rw[length_take];simp;omega)
  have Z:N.size=cp*sz:=by
   rw[<-J,Array.size_append,Array.size_append,Eb];simp only[size_toArray,aH,length_map,length_range,jD,<-Nat.add_mul];congr 1;omega
  have yE:(B.cs.take (n*sz)++cs).length=(n+m)*sz:=(by rw[length_append,length_take,jD,Nat.add_mul];omega)
  obtain⟨s1,s2,s3⟩:=h.grown (w':=w.drew.alloc (.cells N e)) (t:=tt) (m:=n+m) (e:=e) (sz:=sz) (S:=x.S) (cs:=B.cs.take (n*sz)++cs) (row:=none) (g:=w.heap.size) (cap:=cp) (cur:=N) (hne:=lT) (Sublist.refl _) (fun k hk=>by cases hk)
   ⟨rfl,rfl,rfl,by show w.heap.size<=(w.heap.push _).size;simp,fun k hk _=>getElem?_push_lt (w:=w.drew) hk⟩ (.inr rfl) (by show w.heap.size<(w.heap.push _).size;simp) (by show(w.heap.push _)[w.heap.size]?=_;simp) Z (by rw[yE];exact Nat.mul_le_mul_right _ h1) (fun j hj=>by
    rw[yE,Nat.add_mul] at hj;by_cases ua:j<n*sz
    ·obtain⟨u,hu,hq⟩:=r4 j w8;refine⟨u,?_,?_⟩
     ·rw[<-J,Array.getElem?_append_left (by simp[aH];omega),Array.getElem?_append_left (by simp[aH];omega),getElem?_toArray,getElem?_take_of_lt ua,Array.getElem?_toList,hu]
     rw[getElem_append_left (by rw[length_take];omega),getElem_take];exact hq
    have M:j-n*sz<cs.length:=(by omega)
    refine⟨f (j-n*sz),?_,?_⟩
    ·rw[<-J,Array.getElem?_append_left (by simp[aH];omega),Array.getElem?_append_right (by simp[aH];omega)];simp[aH,M]
    rw[getElem_append_right (by rw[length_take];omega)];have:=Ea (j-n*sz) M;have e1:(B.cs.take (n*sz)).length=n*sz:=(by rw[length_take];omega)
    simp only[e1];exact this)
  unfold Oper.wp;rw[oS (P:=P) ho (h.flat hs) hg I,Oper.upon_value,hd];exact hK _ _ _ ⟨_,_,h1,h2,rfl⟩ s1 s2 s3
theorem zA {len:Nat} {cs:List D} (K:bQ e sz cs len ad cap Sq) (ho:o.op = .slice t y none (some hi) (some I)) (hy:aL x y = .v (.slice ad len cap)) (E:aL x hi = .v (.int k2 n)) (gg:aL x I = .v (.int k3 n))
  (J:∀w,(underlying t).run P w = .ok (.slice e) w) (hs:∀w,(sizeOf e).run P w = .ok sz w) (hn:n<=len):bG P G x o .none (.v (.slice ad n n)):=by
 rcases K with ⟨rfl,rfl,rfl,rfl,rfl⟩|⟨b,rfl,h1,h2,rfl⟩
 ·have h:=zy (P:=P) (G:=G) ho hy E gg w8 J hs;obtain rfl:n=0:=(by omega)
  exact h
 exact zP ho hy E gg J hs w8
theorem zB {α:Type} {g:α->List D} {ls new:List α} {t e:Nat} {R:List ay} (hg:∀a,(g a).length=sz) (hg1:∀a,(g a).all one=true) (hw:cg ops x o true) (ho:o.op = .call {callee:=.builtin .append,args:=#[s,y],argTypes:=#[t,t]}) (hd:o.dst=some tt)
  (ht:P.underlying t=some (.slice e)) (hi:(P.info? e).map (fun i=>(i.zero,i.size,i.bytes))=some (some z,sz,bytes)) (cW:z.cells.size=sz) (N:0<sz)
  (hs:aL x s = .v (.slice ad n n)) (Y:bQ e sz (ls.flatMap g) ls.length ad cap Sq) (hp:x.S.Perm (Sq++R)) (hn:n<=ls.length)
  (hy:aL x y = .list sz (new.flatMap g) new.length) (hm:0<new.length) (O:n+new.length<=maxLen) (I:(n+new.length)*bytes<=140737488355328)
  (K:∀M E,(ls.take n++new).length<=E->E<=maxLen->OD P C ops l ⟨x.n,(tt,.v (.slice (some ⟨M,0,none⟩) (ls.take n++new).length E))::x.env,⟨M,e,E*sz,(ls.take n++new).flatMap g⟩::R⟩ Q) (hne:isMap e=false:=by rfl):OD P C ops (o::l) x Q:=by
 have J:(ls.take n++new).length=n+new.length:=(by rw[length_append,length_take];omega)
 rcases Y with ⟨h1,h2,rfl,rfl,rfl⟩|⟨b,rfl,h1,h2,rfl⟩
 ·have U:ls=[]:=length_eq_zero_iff.1 h1;subst U;obtain rfl:n=0:=(by simpa using hn)
  refine fA (hne:=hne) (ls:=([]:List α)) (new:=new) (Sq:=[]) (R:=R) (ad:=none) (cap:=0) hg hg1 hw ho hd ht hi cW N hs (.inl ⟨rfl,rfl,rfl,rfl,rfl⟩) hp hy hm (by simpa using O) (by simpa using I) ?_;intro M E q1 q2;exact K M E (by simpa using q1) q2
 refine aS hp ?_;refine OD.eR (fun C a w h=>hw C a w (Wk.perm hp.symm C a w h)) (zz (hne:=hne) (lT:=hne) (k:=0) ho hd ht hi cW N hs rfl rfl (by rw[dg hg];exact Nat.mul_le_mul_right _ hn) hy (nD hg1 new) (by rw[nt hg];exact nD hg1 _) hm O I) ?_;rintro _ ⟨M,E,q1,q2,rfl⟩;have k:=K M E (by rw[J];exact q1) q2;rw[J,flatMap_append,<-nt hg] at k;exact aY (Wk.drop _ _ _ _ (Sublist.cons_cons _ (Sublist.cons _ (Sublist.refl _)))) k
variable {S1 T:List Nat} {aZ i:Nat} {ld:Array Bool}
theorem zq {α:Type} {g:α->List D} {ls new:List α} {t e:Nat} {R:List ay} (hg:∀a,(g a).length=sz) (hg1:∀a,(g a).all one=true) (M:ops[i]?=some o) (hw:cg ops x o true) (ho:o.op = .call {callee:=.builtin .append,args:=#[s,y],argTypes:=#[t,t]}) (hd:o.dst=some tt)
  (ht:P.underlying t=some (.slice e)) (hi:(P.info? e).map (fun i=>(i.zero,i.size,i.bytes))=some (some z,sz,bytes)) (cW:z.cells.size=sz) (O:0<sz) (Z:∀w,(underlying t).run P w = .ok (.slice e) w) (U:∀w,(sizeOf e).run P w = .ok sz w)
  (hs:aL x s = .v (.slice ad ls.length cap)) (J:bQ e sz (ls.flatMap g) ls.length ad cap Sq) (hp:x.S.Perm (Sq++R))
  (hy:aL x y = .list sz (new.flatMap g) new.length) (Y:ls.length+new.length<=maxLen) (I:(ls.length+new.length)*bytes<=140737488355328)
  (K:∀N E S',bQ e sz ((ls++new).flatMap g) (ls++new).length N E S'->AD P C ops S1 T aZ (ld.setIfInBounds i true) ⟨x.n,(tt,.v (.slice N (ls++new).length E))::x.env,S'++R⟩ Q) (hne:isMap e=false:=by rfl)
  (hT:∀b∈T,b∈au R:=by (intro b hb;simp[au] at hb |-;try first|exact hb|omega)):dr P C ops S1 T aZ ld x Q i:=by
 rcases Nat.eq_zero_or_pos new.length with h0|h0
 ·have hn:new=[]:=eq_nil_of_length_eq_zero h0;subst hn;refine lD M hw hd (vf ho Z U hs J.le hy) ?_;have:=K ad cap Sq (by rw[append_nil];exact J);rw[append_nil] at this;exact fB hp this
 exact lB (hne:=hne) (hT:=hT) hg hg1 M hw ho hd ht hi cW O hs J hp hy h0 Y I fun b' E h1 h2=>K _ E _ (cA h1 h2)
end
variable {P:Program} {C:cq} {G:List (Nat×List Value)} {Q:Exit->St->Prop} {x:St} {ops:Array Oper} {l:List Oper} {o:Oper}
variable {w:World} {L E X:Nat->Prop} {d:D} {v:Value} {S:List ay} {fo:Operand} {bN:Array Operand} {ts:Array TypeId} {args:List D}
def sk:D->D->Bool
 | .v (.int _ _),.v (.string _)=>true
 | .v (.string _),.v (.int _ _)=>true
 | _,_=>false
def uq:D->Bool
 | .v _=>true
 | _=>false
def xK(cs bs:List D)(o:Nat):Bool:=(range cs.length).any fun i=>match bs[o+i]? with
 | none=>true
 | some d=>sk (cs.getD i .cU) d
def xx(S:List ay)(cs:List D):Bool:=S.all fun B=>Nat.beq B.size B.cs.length && !(isMap B.e)&&(range B.cs.length).all (xK cs B.cs)
def qw(S:List ay):D->Bool
 | .v _=>true
 | .list _ [] 0=>true
 | .list _ (c::cs) _=>(c::cs).all uq&&xx S (c::cs)
 | _=>false
def qx(S:List ay):D->Bool
 | .agg cs=>cs.all (qw S)
 | d=>qw S d
def qy(S:List ay):D->Bool
 | .dU cs=>cs.all (qx S)
 | d=>qx S d
theorem Bg(h:bF w L d v)(hd:uq d=true):bF w E d v:=by
 cases d with
 | v x=>rw[h.eK];exact .v _
 | _=>cases hd
theorem AK{w':World}{a b:D}(h:sk a b=true)(ha:bF w L a v)(hb:bF w' E b v):False:=by
 unfold sk at h;split at h
 ·rw[ha.eK] at hb;have:=hb.eK;cases this
 ·rw[ha.eK] at hb;have:=hb.eK;cases this
 cases h
theorem AL{U:Nat->Prop}(ho:∀B∈S,mD w U B){sz len:Nat}{c:D}{cs:List D}(h:bF w X (.list sz (c::cs) len) v)(Y:(c::cs).all uq=true)(hb:xx S (c::cs)=true):bF w (live X S) (.list sz (c::cs) len) v:=by
 cases h with
 | list _ _ _ b o cap f hl h1 h2 J hL hc hr =>
  refine .list sz (c::cs) len b o cap f hl h1 h2 J ?_ hc fun i hi=>Bg (hr i hi) (all_eq_true.1 Y _ (getElem_mem hi));rintro(hx|hx)
  ·exact hL hx
  obtain⟨B,hB,rfl⟩:=mem_map.1 hx;have M:=all_eq_true.1 hb B hB;simp only[Bool.and_eq_true,Bool.not_eq_true'] at M;obtain⟨⟨q1,q2⟩,Z⟩:=M;obtain⟨r0,cur,r1,r2,r3,r4⟩:=ho B hB;rw[fS q2] at r1;have l9:cur.size=B.cs.length:=r2.trans (Nat.eq_of_beq_eq_true q1);have E:∀i,i<(c::cs).length->cur[o+i]?=some (f i):=fun i hi=>by
   have:=hc i hi;cases hu:cur[o+i]? with
   | some u=>rw[jk r1 hu] at this;exact this
   | none =>
    exfalso;unfold World.cell? at this;simp[r1,hu] at this
  have ho:o<B.cs.length:=by
   have:=E 0 cl;rw[Nat.add_zero] at this;obtain⟨h,_⟩:=Array.getElem?_eq_some_iff.1 this;omega
  have I:=all_eq_true.1 Z o (mem_range.2 ho);unfold xK at I;obtain⟨i,hi,hm⟩:=any_eq_true.1 I;have hi:=mem_range.1 hi;have N:=E i hi;obtain⟨h6,h7⟩:=Array.getElem?_eq_some_iff.1 N;have O:o+i<B.cs.length:=(by omega)
  rw[getElem?_eq_getElem O] at hm;obtain⟨u,hu,K⟩:=r4 (o+i) O;rw[N] at hu;obtain rfl:=Option.some.inj hu;have h9:(c::cs).getD i .cU=(c::cs)[i]:=(by rw[getD_eq_getElem?_getD,getElem?_eq_getElem hi];rfl)
  rw[h9] at hm;exact AK hm (hr i hi) K
theorem wQ(ho:∀B∈S,mD w E B)(h:bF w X d v)(ha:qw S d=true):bF w (live X S) d v:=by
 unfold qw at ha;split at ha
 ·rw[h.eK];exact .v _
 ·cases h with
  | gz=>exact .gz _ _ _
  | list _ _ _ b o cap f=>exact .gz _ _ _
 ·rw[Bool.and_eq_true] at ha;exact AL ho h ha.1 ha.2
 cases ha
theorem wR(ho:∀B∈S,mD w E B)(h:bF w X d v)(ha:qx S d=true):bF w (live X S) d v:=by
 unfold qx at ha;split at ha
 ·cases h with
  | agg _ vs hl hr=>exact .agg _ vs hl fun i h1 h2=>wQ ho (hr i h1 h2) (all_eq_true.1 ha _ (getElem_mem h1))
 exact wQ ho h ha
theorem Bh(ho:∀B∈S,mD w E B)(h:bF w X d v)(ha:qy S d=true):bF w (live X S) d v:=by
 unfold qy at ha;split at ha
 ·cases h with
  | dU _ vs hl hr=>exact .dU _ vs hl fun i h1 h2=>wR ho (hr i h1 h2) (all_eq_true.1 ha _ (getElem_mem h1))
 exact wR ho h ha
theorem Looks.xL{C:cq}{a:Act}{w:World}(h:bP C x a w):∀{os:List Operand} {ds:List D},Looks x os ds->bY w C.X ds (os.map a.eval)
 | [],[],_=>⟨rfl,fun i h=>by simp at h⟩
 | o::r,d::r',⟨⟨d0,h1,h2⟩,h3⟩=>bY.cons (h2 _ _ _ _ (fun _ hf=>hf) h.mX h.own (h1 ▸ h.eval o)) (Looks.xL h h3)
 | [],_::_,h=>h.elim
 | _::_,[],h=>h.elim
theorem Ap {f t:Nat} {r:D} (ho:o.op = .call {callee:=.value fo,args:=bN,argTypes:=ts}) (hd:o.dst=some t)
  (hf:fo = .func f) (J:∀args w,(callFunc f args).run P w = .ok (.enter f args) w) (hc:VP P G f args r) (hr:qy x.S r=true) (ha:Looks x bN.toList args) :
  gh P G x o [] (fun y=>y=x.put t r):=fun C a w K Q Z h hK=>by
 subst hf;have M:(execOp a.eval o).run P w = .ok (.enter f (bN.toList.map a.eval).toArray) w:=by
  unfold execOp;have e:bN.map a.eval=(bN.toList.map a.eval).toArray:=by
   rw[<-Array.toList_map,Array.toArray_toList]
  simp only[ho,resolve,Act.eval,Deferred.ofValue,Sem.run_bind,Sem.run_pure,Result.andThen_ok,invoke,e];simp[J]
 have N:ke G C.X w [] args (bN.toList.map a.eval):=by
  refine⟨fun b hx=>⟨Nat.lt_of_lt_of_le (h.ex b hx).1 h.fr.size,by simp[au]⟩,fun g hg=>?_,⟨fun B O=>by simp at O,by simp[au]⟩,(Looks.xL h ha).mono fun b _ hn=>⟨rfl,fun hl=>by rcases hl with hl|hl;exact hn hl;simp[au] at hl⟩⟩;rw[<-Z] at hg;exact⟨⟨Nat.lt_of_lt_of_le (h.dI g hg).1.1 h.fr.size,by simp[au],(h.dI g hg).1.2.2⟩,fun i v hi=>h.kO hg hi⟩
 unfold Oper.wp;rw[M,Oper.upon_enter,hd];refine(hc _ w _ N).mono fun e w' ⟨v,r',S',h1,⟨h2,U⟩,h3,h4,I⟩=>?_;subst h1 h2 U;have hb:∀b,b<w.heap.size->w'.heap[b]?=w.heap[b]?:=fun b hb=>(I.block b hb (by simp[au])).1;have base:bP C x a w':=by
  refine⟨h.defers,h.size,fun t ht=>(h.env t ht).mono fun b E hn=>⟨hb b E,hn⟩,⟨fun B O=>?_,h.own.apart⟩,?_,h.ex,h.dI⟩
  ·obtain⟨r0,cur,r1,r2,r3,r4⟩:=h.own.at_ B O;refine⟨kE r0 (hb _ r0),cur,(hb _ r0).trans r1,r2,r3,fun i hi=>?_⟩;obtain⟨u,hu,hq⟩:=r4 i hi;exact⟨u,hu,hq.mono fun b E hn=>⟨hb b E,hn⟩⟩
  exact⟨I.os.trans h.fr.os,I.tape.trans h.fr.tape,I.output.trans h.fr.output,Nat.le_trans h.fr.size I.size,fun b E hn=>⟨(hb b (Nat.lt_of_lt_of_le E h.fr.size)).trans (h.fr.block b E hn).1,(h.fr.block b E hn).2⟩⟩
 have Y:bF w' C.X r' v:=h4.mono fun b _ hn=>⟨rfl,fun hl=>hn (.inl hl)⟩
 exact hK _ _ _ rfl (base.put (Bh base.own.at_ Y hr)) ⟨I.size,fun b E _=>hb b E⟩ ⟨I.os,I.tape,I.output,I.size,fun b E hn=>⟨hb b E,hn⟩⟩
theorem wg {f t:Nat} {r:D} (hw:cg ops x o true) (ho:o.op = .call {callee:=.value fo,args:=bN,argTypes:=ts}) (hd:o.dst=some t)
  (hf:fo = .func f) (E:∀args w,(callFunc f args).run P w = .ok (.enter f args) w) (hc:VP P C.G f args r) (hr:qy x.S r=true) (ha:Looks x bN.toList args)
  (K:OD P C ops l (x.put t r) Q):OD P C ops (o::l) x Q:=OD.eR hw (Ap ho hd hf E hc hr ha) fun y hy=>hy ▸ K
end V
namespace V
open List
abbrev aj(x:Int):D:=.v (.int .i64 x)
abbrev bE(b:Nat):D:=.v (.pointer (some ⟨b,0,none⟩))
abbrev cX:D:=.v (.slice none 0 0)
abbrev cQ:D:=.v (.string ⟨#[]⟩)
abbrev aB(a:Option Addr)(n c:Nat):D:=.v (.slice a n c)
abbrev bH(s:ByteArray):D:=.v (.string s)
abbrev bI(b:Bool):D:=.v (.bool b)
abbrev ap{α:Type}(n:Nat)(g:α->List D)(l:List α):D:=.list n (l.flatMap g) l.length
theorem ju:maxLen=9223372036854775807:=rfl
end V
namespace Nm
open List
open Go.Proofs.Tryd
open Go.RowKit V
def wordsB:List (List UInt8):=[[67,82,69,65,84,69],[84,65,66,76,69],[68,82,79,80],[73,78,83,69,82,84],[73,78,84,79],[86,65,76,85,69,83],[83,69,76,69,67,84],[67,79,85,78,84],[70,82,79,77],[87,72,69,82,69],[79,82,68,69,82],[66,89],[68,69,83,67],[76,73,77,73,84],[85,80,68,65,84,69],[83,69,84],[68,69,76,69,84,69],[66,69,71,73,78],[67,79,77,77,73,84],[82,79,76,76,66,65,67,75],[65,78,68],[79,82],[78,79,84],[73,83],[78,85,76,76],[84,82,85,69],[70,65,76,83,69],[73,78,84],[84,69,88,84],[66,79,79,76]]
def marksB:List (List UInt8):=[[60,61],[62,61],[60,62],[40],[41],[44],[42],[43],[45],[61],[60],[62]]
def kN:List ByteArray:=wordsB.map fun b=>⟨b.toArray⟩
def pH:List ByteArray:=marksB.map fun b=>⟨b.toArray⟩
def wordsC:List Value:=kN.map .string
def marksC:List Value:=pH.map .string
def jn(c:UInt8):Bool:=decide ((97<=c.toNat/\c.toNat<=122)\/(65<=c.toNat/\c.toNat<=90)\/c.toNat=95)
def pI(c:UInt8):Bool:=decide (48<=c.toNat/\c.toNat<=57)
def lQ(c:UInt8):Bool:=jn c||pI c
def sx(p:UInt8->Bool)(s:ByteArray):Nat:=(s.data.toList.takeWhile p).length
theorem xm(p:UInt8->Bool):∀(l:List UInt8) (k:Nat),k<=l.length->(∀x∈l.take k,p x=true)->(∀h:k<l.length,p l[k]=false)->(l.takeWhile p).length=k
 | [],k,h,_,_=>by simp at h;subst h;rfl
 | a::r,0,_,_,h=>by
  have:p a=false:=h cl;rw[takeWhile_cons];simp[this]
 | a::r,k+1,h1,h2,h3=>by
  have ha:p a=true:=h2 a cl;rw[takeWhile_cons,if_pos ha,length_cons,xm p r k (by simpa using h1) (fun x hx=>h2 x (by rw[take_succ_cons];exact mem_cons_of_mem _ hx)) (fun h=>by have:=h3 (by simpa using h);simpa using this)]
theorem pE{p:UInt8->Bool}{s:ByteArray}{k:Nat}(hk:k<=s.size)(h0:∀x∈s.data.toList.take k,p x=true)(h1:k<s.size->p (jY s k)=false):sx p s=k :=
 xm p _ k (by rw[nx];exact hk) h0 fun h=>by rw[vy h];exact h1 (by rw[nx] at h;exact h)
structure Tk where
 k:Int
 s:ByteArray
 n:Int
def cT(t:Tk):List D:=[aj t.k,bH t.s,aj t.n]
theorem cZ(t:Tk):(cT t).length=3:=rfl
def dQ(s:ByteArray):Bool:=!decide (s.size=0)&&jn (jY s 0)&&((sx lQ s:Int)==(s.size:Int))
def cP(t:Tk):Int :=
 if t.k=1 then (if (decide (t.n=0)&&dQ t.s)=true then 0 else 6)
 else if t.k=2 then (if t.n<0 then 3 else if t.s.size=0 then 0 else 6)
 else if t.k=3 then (if t.n=0 then 0 else 6)
 else if t.k=4 then (if (decide (t.n=0)&&pH.any (cj t.s))=true then 0 else 6)
 else 2
def cH(s:ByteArray):Int:=if s.size>8 then 1 else if (!(dQ s)||kN.any (cj s))=true then 6 else 0
theorem oU(s:ByteArray):cP ⟨1,s,0⟩=if dQ s=true then 0 else 6:=by
 unfold cP;rw[if_pos rfl];simp
variable {G:List (Nat×List Value)}
theorem vR(c:UInt8):VP Tryd.prog G 15 [.v (.int .u8 ((c).toNat:Int))] (bI (jn c)):=by
 refine cL func15 rfl ntmps15 aV fun Y w0 U=>?_;refine ag ?_;refine ae ?_;refine ak [0] ?_;refine ag ?_;refine ae ?_;refine aa az ?_;refine ae ?_;refine cM (t:=5) lk (fun N=>?_) (fun N=>?_)
 ·have K:=N;(try simp only[V.ah,ne_eq] at K)
  refine ae ?_;refine aa az ?_;refine aa bZ ?_;refine ae ?_;refine cM (t:=9) lk (fun O=>?_) (fun O=>?_)
  ·have M:=O;(try simp only[V.ah,ne_eq] at M)
   refine an ?_;refine an ?_;refine an ?_;refine k8 ?_;refine k8 ?_;refine an ?_;refine aa bZ ?_;refine ae ?_;refine an ?_;refine an ?_;refine aa bZ ?_;refine ae ?_;refine ak [2] ?_;refine aD ?_;refine bf ?_;refine⟨vb ?_,rfl⟩;rw[Bool.eq_iff_iff];simp[jn];first|done|omega
  have M:=O;(try simp only[V.ah,ne_eq] at M)
  refine ae ?_;refine aa az ?_;refine ae ?_;refine cM (t:=12) lk (fun J=>?_) (fun J=>?_)
  ·have E:=J;(try simp only[V.ah,ne_eq] at E)
   refine ae ?_;refine aa az ?_;refine aa bZ ?_;refine aa bt ?_;refine ae ?_;refine cM (t:=17) lk (fun eZ=>?_) (fun eZ=>?_)
   ·have I:=eZ;(try simp only[V.ah,ne_eq] at I)
    refine an ?_;refine an ?_;refine aa bZ ?_;refine ae ?_;refine ak [2] ?_;refine aD ?_;refine bf ?_;refine⟨vb ?_,rfl⟩;rw[Bool.eq_iff_iff];simp[jn];first|done|omega
   have I:=eZ;(try simp only[V.ah,ne_eq] at I)
   refine ae ?_;refine aa az ?_;refine aa bt ?_;refine ae ?_;refine ak [2] ?_;refine aD ?_;refine bf ?_;refine⟨vb ?_,rfl⟩;rw[Bool.eq_iff_iff];simp[jn];first|done|omega
  have E:=J;(try simp only[V.ah,ne_eq] at E)
  refine an ?_;refine an ?_;refine aa bt ?_;refine aa bt ?_;refine ae ?_;refine ae ?_;refine aa az ?_;refine aa bt ?_;refine ae ?_;refine ak [2] ?_;refine aD ?_;refine bf ?_;refine⟨vb ?_,rfl⟩;rw[Bool.eq_iff_iff];simp[jn];first|done|omega
 have K:=N;(try simp only[V.ah,ne_eq] at K)
 refine an ?_;refine an ?_;refine aa bt ?_;refine ae ?_;refine ae ?_;refine aa az ?_;refine ae ?_;refine cM (t:=12) lk (fun J=>?_) (fun J=>?_)
 ·have E:=J;(try simp only[V.ah,ne_eq] at E)
  refine ae ?_;refine aa az ?_;refine aa bZ ?_;refine aa bt ?_;refine ae ?_;refine cM (t:=17) lk (fun eZ=>?_) (fun eZ=>?_)
  ·have I:=eZ;(try simp only[V.ah,ne_eq] at I)
   refine an ?_;refine an ?_;refine aa bZ ?_;refine ae ?_;refine ak [2] ?_;refine aD ?_;refine bf ?_;refine⟨vb ?_,rfl⟩;rw[Bool.eq_iff_iff];simp[jn];first|done|omega
  have I:=eZ;(try simp only[V.ah,ne_eq] at I)
  refine ae ?_;refine aa az ?_;refine aa bt ?_;refine ae ?_;refine ak [2] ?_;refine aD ?_;refine bf ?_;refine⟨vb ?_,rfl⟩;rw[Bool.eq_iff_iff];simp[jn];first|done|omega
 have E:=J;(try simp only[V.ah,ne_eq] at E)
 refine an ?_;refine an ?_;refine aa bt ?_;refine aa bt ?_;refine ae ?_;refine ae ?_;refine aa az ?_;refine aa bt ?_;refine ae ?_;refine ak [2] ?_;refine aD ?_;refine bf ?_;refine⟨vb ?_,rfl⟩;rw[Bool.eq_iff_iff];simp[jn];first|done|omega
theorem AM(c:UInt8):VP Tryd.prog G 18 [.v (.int .u8 ((c).toNat:Int))] (bI (pI c)):=by
 refine cL func18 rfl ntmps18 aV fun K w0 J=>?_;refine ag ?_;refine ae ?_;refine ak [0] ?_;refine ag ?_;refine ae ?_;refine aa az ?_;refine ae ?_;refine cM (t:=5) lk (fun I=>?_) (fun I=>?_)
 ·have E:=I;(try simp only[V.ah,ne_eq] at E)
  refine ae ?_;refine aa az ?_;refine aa bZ ?_;refine ae ?_;refine ak [2] ?_;refine aD ?_;refine bf ?_;refine⟨vb ?_,rfl⟩;rw[Bool.eq_iff_iff];simp[pI];first|done|omega
 have E:=I;(try simp only[V.ah,ne_eq] at E)
 refine an ?_;refine an ?_;refine aa bt ?_;refine ae ?_;refine ak [2] ?_;refine aD ?_;refine bf ?_;refine⟨vb ?_,rfl⟩;rw[Bool.eq_iff_iff];simp[pI];first|done|omega
theorem rT(c:UInt8):VP Tryd.prog G 17 [.v (.int .u8 ((c).toNat:Int))] (bI (lQ c)):=by
 refine cL func17 rfl ntmps17 aV fun K w0 J=>?_;refine ag ?_;refine ae ?_;refine ak [0] ?_;refine ag ?_;refine ae ?_;refine bK call15 (vR c) ?_;refine ae ?_;refine cM (t:=5) lk (fun I=>?_) (fun I=>?_)
 ·have E:=I;(try simp only[V.ah,ne_eq] at E)
  refine an ?_;refine an ?_;refine aa bZ ?_;refine ae ?_;refine aF [(2,_)] [] ?_;refine aD ?_;refine⟨.inr rfl,c6 results17 ?_⟩;exact⟨vb (by simp[lQ, *]),rfl⟩
 have E:=I;(try simp only[V.ah,ne_eq] at E)
 refine ae ?_;refine nn de rfl rfl rfl call18 (AM c) ⟨ot,trivial⟩ ?_;refine aa bt ?_;refine ae ?_;refine aF [(2,_)] [] ?_;refine aD ?_;refine⟨.inr rfl,c6 results17 ?_⟩;exact⟨vb (by simp[lQ, *]),rfl⟩
theorem r6(s:ByteArray)(g:Nat)(p:UInt8->Bool)(K:∀args w,(callFunc g args).run Tryd.prog w = .ok (.enter g args) w)(hp:∀c,VP Tryd.prog G g [.v (.int .u8 ((c).toNat:Int))] (bI (p c)))(hs:s.size<=maxLen):VP Tryd.prog G 16 [bH s,.dV (.func g) []] (aj (sx p s)):=by
 refine cL func16 rfl ntmps16 aV fun Y w0 O=>?_;simp only[maxLen] at hs;refine ag ?_;refine ae ?_;refine ak [0,1] ?_;refine ag ?_;refine ae ?_;refine ak [0,1,5] ?_;refine aA ?_;refine bO ?_;refine ed (fun (k:Nat) N=>(k<=s.size)/\(∀x∈s.data.toList.take k,p x=true)/\N=(⟨20,[(0,bH s),(1,.dV (.func g) []),(5,aj (k:Nat))],[]⟩:St)) (fun (k:Nat)=>s.size-k) 0 ⟨(Nat.zero_le _),cl,rfl⟩ (Wk.bz rfl c5 fw) ?_;rintro k _ ⟨hk,h0,rfl⟩;refine aA ?_;refine ag ?_;refine ae ?_;refine ae ?_;refine aa (kG rfl rfl ot runUnderlying9) ?_;refine aa az ?_;refine ae ?_;refine cM (t:=10) lk (fun I=>?_) (fun I=>?_)
 ·have E:=I;(try simp only[V.ah,ne_eq] at E)
  have M:k<s.size:=(by omega)
  have U:s[k]?=some (jY s k):=xk M;refine ae ?_;refine ae ?_;refine ae ?_;refine iT de rfl (vt rfl ot ot runUnderlying9 rfl (by first|assumption|rfl)) ?_;refine v8 (f:=g) (args:=[_]) (all:=[_]) de rfl rfl ot K (hp (jY s k)) rfl ⟨ot,trivial⟩ (kI _) ?_;rintro _ S2 ⟨rfl,rfl⟩;refine aa bZ ?_;refine aF [(0,_),(1,_),(5,_),(16,_)] [] ?_;refine aI ot (fun ax=>?_) (fun ax=>?_)
  ·have J:=ax
   (try simp only[V.ah,ne_eq] at J)
   refine aN ?_;refine bO ?_;refine aR ?_;refine ae ?_;refine aa az ?_;refine ae ?_;refine ak [0,1,5] ?_;refine⟨(k+1),_,?_,?_,w8,(wc (by rw[nx];exact M) h0 (by rw[vy];assumption)),rfl⟩
   ·first|omega|(simp only[];omega)
   exact Wk.bz (n:=20) rfl c5 fw
  have J:=ax
  (try simp only[V.ah,ne_eq] at J)
  refine dJ ?_;refine ag ?_;refine ae ?_;refine ae ?_;refine ak [4] ?_;refine aD ?_;refine bf ?_;refine⟨vi ?_,rfl⟩;first|(rw[pE hk h0 (fun h=>by omega)];done)|(rw[pE hk h0 (fun h=>by assumption)];done)
 have E:=I;(try simp only[V.ah,ne_eq] at E)
 refine an ?_;refine an ?_;refine an ?_;refine an ?_;refine an ?_;refine aa bt ?_;refine aF [(0,_),(1,_),(5,_),(16,_)] [] ?_;refine gm ot w5 ?_;refine dJ ?_;refine ag ?_;refine ae ?_;refine ae ?_;refine ak [4] ?_;refine aD ?_;refine bf ?_;refine⟨vi ?_,rfl⟩;first|(rw[pE hk h0 (fun h=>by omega)];done)|(rw[pE hk h0 (fun h=>by assumption)];done)
theorem AN(K:List ByteArray)(s:ByteArray)(M:K.length<=maxLen):VP Tryd.prog G 31 [ap 1 cS K,bH s] (aj (kQ (cj s) K)):=by
 refine cL func31 rfl ntmps31 aV fun U w0 O=>?_;simp only[maxLen] at M;refine ag ?_;refine ae ?_;refine ak [0,1] ?_;refine aA ?_;refine ag ?_;refine ae ?_;refine aa bV ?_;refine ae ?_;refine ak [0,1,7,8] ?_;refine bO ?_;refine ed (fun (k:Nat) N=>(k<=K.length)/\(∀x∈K.take k,cj s x=false)/\N=(⟨19,[(0,ap 1 cS K),(1,bH s),(7,aj K.length),(8,aj (k:Nat))],[]⟩:St)) (fun (k:Nat)=>K.length-k) 0 ⟨(Nat.zero_le _),cl,rfl⟩ (Wk.bz rfl c5 fw) ?_;rintro k _ ⟨hk,h0,rfl⟩;refine ag ?_;refine aa az ?_;refine ak [0,1,7,8,9] ?_;refine aA ?_;refine aI ot (fun ax=>?_) (fun ax=>?_)
 ·have I:=ax
  (try simp only[V.ah,ne_eq] at I)
  have aH:k<K.length:=(by omega)
  refine aN ?_;refine aA ?_;refine bO ?_;refine ag ?_;refine ae ?_;refine ae ?_;refine ak [0,1,5,7,8] ?_;refine ag ?_;refine ae ?_;refine ae ?_;refine ae ?_;refine aa (di 1) ?_;refine aa eA ?_;refine aa az ?_;refine ak [0,1,5,7,8,16] ?_;refine aI ot (fun E=>?_) (fun E=>?_)
  ·have J:=E
   (try simp only[V.ah,ne_eq] at J)
   refine ag ?_;refine ae ?_;refine ae ?_;refine ak [4] ?_;refine aD ?_;refine bf ?_;refine⟨vi ?_,rfl⟩;first|(rw[po w8 h0 E];done)|(rw[o8 w8 h0];done)
  have J:=E
  (try simp only[V.ah,ne_eq] at J)
  refine aN ?_;refine aR ?_;refine aa az ?_;refine ae ?_;refine ak [0,1,7,8] ?_;refine⟨(k+1),_,?_,?_,w8,(wc w8 h0 E),rfl⟩
  ·first|omega|(simp only[];omega)
  exact Wk.bz (n:=19) rfl c5 fw
 have I:=ax
 (try simp only[V.ah,ne_eq] at I)
 refine dJ ?_;refine ag ?_;refine ae ?_;refine ak [4] ?_;refine aD ?_;refine bf ?_;refine⟨vi ?_,rfl⟩;first|(rw[po w8 h0 E];done)|(rw[o8 w8 h0];done)
theorem vn(I:List ByteArray)(s:ByteArray)(E:I.length<=maxLen):VP Tryd.prog G 19 [ap 1 cS I,bH s] (bI (I.any (cj s))):=by
 refine cL func19 rfl ntmps19 aV fun K w0 J=>?_;refine ag ?_;refine ae ?_;refine ak [0,1] ?_;refine ag ?_;refine ae ?_;refine ae ?_;refine bK call31 (AN I s E) ?_;refine aa az ?_;refine ae ?_;refine aF [(4,_)] [] ?_;refine aD ?_;refine⟨.inr rfl,c6 results19 ?_⟩;exact⟨vb v9,rfl⟩
theorem nq(hm:(0,marksC)∈G)(t:Tk)(hs:t.s.size<=maxLen):VP Tryd.prog G 9 [.agg (cT t)] (aj (cP t)):=by
 refine cL func9 rfl ntmps9 aV fun X0 w0 dM=>?_;unfold cT;refine ag ?_;refine fi (ds:=[_,_,_]) av rfl rfl ot rfl rfl (fun I=>?_);refine ae ?_;refine aF [(1,_)] [⟨I,28,3,[_,_,_]⟩] ?_;refine ag ?_;refine aa (aq 2) ?_;refine aa (aC 0) ?_;refine aa az ?_;refine ae ?_;refine ak [1,3] ?_;refine aA ?_;refine ag ?_;refine aa (aq 0) ?_;refine aa (aC 0) ?_;refine ak [1,3,8] ?_;refine bO ?_;refine ag ?_;refine aa az ?_;refine ae ?_;refine ak [1,3,8,9] ?_;refine aI ot (fun ax=>?_) (fun ax=>?_)
 ·have O:=ax
  (try simp only[V.ah,ne_eq] at O)
  refine dB (au _) af (fun _ h=>h) ?_;refine bp.take (i:=0) rfl af af af w2 av rfl (jl rfl ot) cu ?_;refine bp.take (i:=1) rfl af af af w2 av rfl (jl rfl ot) cu ?_;refine bp.split (t:=12) lk (fun U=>?_) (fun U=>?_)
  ·have J:=U;(try simp only[V.ah,ne_eq] at J)
   refine bp.take (i:=2) rfl af af af w2 de rfl (cn (mk:=fun y=>Op.fieldAddr 28 y 1) rfl ot n8) cu ?_;refine bp.take (i:=3) rfl af af af w2 de rfl (cn (mk:=Op.load 9) rfl ot kY) tT ?_;refine bp.take (i:=4) rfl af af af w2 de rfl (fc rfl ot aJ v5) cu ?_;refine bp.take (i:=5) rfl af af af w2 av rfl (lE rfl ot w5 ot) cu ?_;refine bp.take (i:=6) rfl af af af w2 av rfl (jl rfl ot) cu ?_;refine bp.split (t:=17) lk (fun eZ=>?_) (fun eZ=>?_)
   ·have K:=eZ;(try simp only[V.ah,ne_eq] at K)
    refine bp.take (i:=7) rfl af af af w2 de rfl (cn (mk:=fun y=>Op.fieldAddr 28 y 1) rfl ot n8) cu ?_;refine bp.take (i:=8) rfl af af af w2 de rfl (cn (mk:=Op.load 9) rfl ot kY) tT ?_;refine bp.take (i:=9) rfl af af af w2 de rfl (vt (c:=jY t.s 0) rfl ot aJ runUnderlying9 rfl (xk (BQ dS))) cu ?_;refine bp.later rfl ?_;refine aG (i:=10) af ?_;refine lF rfl de rfl rfl rfl call15 (vR _) ⟨ot,trivial⟩ ?_;refine AD.take (i:=11) rfl af af af w2 av rfl (lE rfl ot w5 ot) cu cJ ?_;refine AD.take (i:=12) rfl af af af w2 av rfl (jl rfl ot) cu cJ ?_;refine rP (t:=23) lk (fun Y=>?_) (fun Y=>?_)
    ·have M:=Y;(try simp only[V.ah,ne_eq] at M)
     refine AD.take (i:=13) rfl af af af w2 de rfl (cn (mk:=fun y=>Op.fieldAddr 28 y 1) rfl ot n8) cu cJ ?_;refine AD.take (i:=16) rfl af af af w2 de rfl (cn (mk:=fun y=>Op.fieldAddr 28 y 1) rfl ot n8) cu cJ ?_;refine dn (i:=14) (j:=17) af ?_ ?_
     ·refine lD rfl de rfl (cn (mk:=Op.load 9) rfl ot kY) ?_;refine dn (i:=15) (j:=17) af ?_ ?_
      ·refine lF rfl de rfl rfl rfl call16 (r6 t.s 17 lQ call17 rT hs) ⟨ot,lH,trivial⟩ ?_;refine aG (i:=17) af ?_;refine lD rfl de rfl (cn (mk:=Op.load 9) rfl ot kY) ?_;refine AD.take (i:=18) rfl af af af w2 de rfl (kG rfl rfl ot runUnderlying9) cu cJ ?_;refine AD.take (i:=19) rfl af af af w2 de rfl (fc rfl ot ot pB) cu cJ ?_;refine AD.take (i:=20) rfl af af af w2 av rfl (lE rfl ot w5 ot) cu cJ ?_;refine AD.take (i:=21) rfl af af af w2 av rfl (gp rfl ot) cu cJ ?_;refine bL [(3,_)] [⟨I,28,3,[_,_,_]⟩] ?_;refine bC af ?_;refine aA ?_;refine ag ?_;refine ae ?_;refine aa en ?_;refine ak [52] ?_;refine aI ot (fun E=>?_) (fun E=>?_)
       ·have bA:=E
        (try simp only[V.ah,ne_eq] at bA)
        refine ag ?_;refine ae ?_;refine ak [2] ?_;refine aD ?_;refine bf ?_;refine⟨vi ?_,rfl⟩;try simp only[dx] at *
        simp only[cP,dQ];try simp_all
        try omega
       have bA:=E
       (try simp only[V.ah,ne_eq] at bA)
       refine aN ?_;refine ag ?_;refine ae ?_;refine ak [2] ?_;refine aD ?_;refine bf ?_;refine⟨vi ?_,rfl⟩;try simp only[dx] at *
       simp only[cP,dQ];try simp_all
       try omega
      refine lD rfl de rfl (cn (mk:=Op.load 9) rfl ot kY) ?_;refine AD.take (i:=18) rfl af af af w2 de rfl (kG rfl rfl ot runUnderlying9) cu cJ ?_;refine aG (i:=15) af ?_;refine lF rfl de rfl rfl rfl call16 (r6 t.s 17 lQ call17 rT hs) ⟨ot,lH,trivial⟩ ?_;refine AD.take (i:=19) rfl af af af w2 de rfl (fc rfl ot ot pB) cu cJ ?_;refine AD.take (i:=20) rfl af af af w2 av rfl (lE rfl ot w5 ot) cu cJ ?_;refine AD.take (i:=21) rfl af af af w2 av rfl (gp rfl ot) cu cJ ?_;refine bL [(3,_)] [⟨I,28,3,[_,_,_]⟩] ?_;refine bC af ?_;refine aA ?_;refine ag ?_;refine ae ?_;refine aa en ?_;refine ak [52] ?_;refine aI ot (fun E=>?_) (fun E=>?_)
      ·have bA:=E
       (try simp only[V.ah,ne_eq] at bA)
       refine ag ?_;refine ae ?_;refine ak [2] ?_;refine aD ?_;refine bf ?_;refine⟨vi ?_,rfl⟩;try simp only[dx] at *
       simp only[cP,dQ];try simp_all
       try omega
      have bA:=E
      (try simp only[V.ah,ne_eq] at bA)
      refine aN ?_;refine ag ?_;refine ae ?_;refine ak [2] ?_;refine aD ?_;refine bf ?_;refine⟨vi ?_,rfl⟩;try simp only[dx] at *
      simp only[cP,dQ];try simp_all
      try omega
     refine lD rfl de rfl (cn (mk:=Op.load 9) rfl ot kY) ?_;refine AD.take (i:=18) rfl af af af w2 de rfl (kG rfl rfl ot runUnderlying9) cu cJ ?_;refine aG (i:=14) af ?_;refine lD rfl de rfl (cn (mk:=Op.load 9) rfl ot kY) ?_;refine aG (i:=15) af ?_;refine lF rfl de rfl rfl rfl call16 (r6 t.s 17 lQ call17 rT hs) ⟨ot,lH,trivial⟩ ?_;refine AD.take (i:=19) rfl af af af w2 de rfl (fc rfl ot ot pB) cu cJ ?_;refine AD.take (i:=20) rfl af af af w2 av rfl (lE rfl ot w5 ot) cu cJ ?_;refine AD.take (i:=21) rfl af af af w2 av rfl (gp rfl ot) cu cJ ?_;refine bL [(3,_)] [⟨I,28,3,[_,_,_]⟩] ?_;refine bC af ?_;refine aA ?_;refine ag ?_;refine ae ?_;refine aa en ?_;refine ak [52] ?_;refine aI ot (fun E=>?_) (fun E=>?_)
     ·have bA:=E
      (try simp only[V.ah,ne_eq] at bA)
      refine ag ?_;refine ae ?_;refine ak [2] ?_;refine aD ?_;refine bf ?_;refine⟨vi ?_,rfl⟩;try simp only[dx] at *
      simp only[cP,dQ];try simp_all
      try omega
     have bA:=E
     (try simp only[V.ah,ne_eq] at bA)
     refine aN ?_;refine ag ?_;refine ae ?_;refine ak [2] ?_;refine aD ?_;refine bf ?_;refine⟨vi ?_,rfl⟩;try simp only[dx] at *
     simp only[cP,dQ];try simp_all
     try omega
    have M:=Y;(try simp only[V.ah,ne_eq] at M)
    refine eG (i:=13) rfl af af af w2 (bX rfl rfl rfl lk w5) rfl ?_;refine eG (i:=16) rfl af af af w2 (bX rfl rfl rfl lk w5) rfl ?_;refine dn (i:=14) (j:=17) af ?_ ?_
    ·refine eo rfl (bX rfl rfl rfl lk w5) rfl ?_;refine dn (i:=15) (j:=17) af ?_ ?_
     ·refine eo rfl (bX rfl rfl rfl lk w5) rfl ?_;refine aG (i:=17) af ?_;refine eo rfl (bX rfl rfl rfl lk w5) rfl ?_;refine eG (i:=18) rfl af af af w2 (bX rfl rfl rfl lk w5) rfl ?_;refine eG (i:=19) rfl af af af w2 (bX rfl rfl rfl lk w5) rfl ?_;refine AD.take (i:=20) rfl af af af w2 av rfl (gM rfl ot w5 aJ) cu cJ ?_;refine AD.take (i:=21) rfl af af af w2 av rfl (gp rfl ot) cu cJ ?_;refine bL [(3,_)] [⟨I,28,3,[_,_,_]⟩] ?_;refine bC af ?_;refine aA ?_;refine ag ?_;refine ae ?_;refine aa en ?_;refine ak [52] ?_;refine ei ot w5 ?_;refine ag ?_;refine ae ?_;refine ak [2] ?_;refine aD ?_;refine bf ?_;refine⟨vi ?_,rfl⟩;try simp only[dx] at *
      simp only[cP,dQ];try simp_all
      try omega
     refine eo rfl (bX rfl rfl rfl lk w5) rfl ?_;refine eG (i:=18) rfl af af af w2 (bX rfl rfl rfl lk w5) rfl ?_;refine aG (i:=15) af ?_;refine eo rfl (bX rfl rfl rfl lk w5) rfl ?_;refine eG (i:=19) rfl af af af w2 (bX rfl rfl rfl lk w5) rfl ?_;refine AD.take (i:=20) rfl af af af w2 av rfl (gM rfl ot w5 aJ) cu cJ ?_;refine AD.take (i:=21) rfl af af af w2 av rfl (gp rfl ot) cu cJ ?_;refine bL [(3,_)] [⟨I,28,3,[_,_,_]⟩] ?_;refine bC af ?_;refine aA ?_;refine ag ?_;refine ae ?_;refine aa en ?_;refine ak [52] ?_;refine ei ot w5 ?_;refine ag ?_;refine ae ?_;refine ak [2] ?_;refine aD ?_;refine bf ?_;refine⟨vi ?_,rfl⟩;try simp only[dx] at *
     simp only[cP,dQ];try simp_all
     try omega
    refine eo rfl (bX rfl rfl rfl lk w5) rfl ?_;refine eG (i:=18) rfl af af af w2 (bX rfl rfl rfl lk w5) rfl ?_;refine aG (i:=14) af ?_;refine eo rfl (bX rfl rfl rfl lk w5) rfl ?_;refine aG (i:=15) af ?_;refine eo rfl (bX rfl rfl rfl lk w5) rfl ?_;refine eG (i:=19) rfl af af af w2 (bX rfl rfl rfl lk w5) rfl ?_;refine AD.take (i:=20) rfl af af af w2 av rfl (gM rfl ot w5 aJ) cu cJ ?_;refine AD.take (i:=21) rfl af af af w2 av rfl (gp rfl ot) cu cJ ?_;refine bL [(3,_)] [⟨I,28,3,[_,_,_]⟩] ?_;refine bC af ?_;refine aA ?_;refine ag ?_;refine ae ?_;refine aa en ?_;refine ak [52] ?_;refine ei ot w5 ?_;refine ag ?_;refine ae ?_;refine ak [2] ?_;refine aD ?_;refine bf ?_;refine⟨vi ?_,rfl⟩;try simp only[dx] at *
    simp only[cP,dQ];try simp_all
    try omega
   have K:=eZ;(try simp only[V.ah,ne_eq] at K)
   refine bp.g8 (i:=7) rfl af af af w2 (bX rfl rfl rfl lk w5) rfl ?_;refine bp.g8 (i:=8) rfl af af af w2 (bX rfl rfl rfl lk w5) rfl ?_;refine bp.g8 (i:=9) rfl af af af w2 (bX rfl rfl rfl lk w5) rfl ?_;refine bp.later rfl ?_;refine aG (i:=10) af ?_;refine eo rfl (bX rfl rfl rfl lk w5) rfl ?_;refine AD.take (i:=11) rfl af af af w2 av rfl (gM rfl ot w5 aJ) cu cJ ?_;refine AD.take (i:=12) rfl af af af w2 av rfl (jl rfl ot) cu cJ ?_;refine eG (i:=13) rfl af af af w2 (bX rfl rfl rfl lk w5) rfl ?_;refine eG (i:=16) rfl af af af w2 (bX rfl rfl rfl lk w5) rfl ?_;refine dn (i:=14) (j:=17) af ?_ ?_
   ·refine eo rfl (bX rfl rfl rfl lk w5) rfl ?_;refine dn (i:=15) (j:=17) af ?_ ?_
    ·refine eo rfl (bX rfl rfl rfl lk w5) rfl ?_;refine aG (i:=17) af ?_;refine eo rfl (bX rfl rfl rfl lk w5) rfl ?_;refine eG (i:=18) rfl af af af w2 (bX rfl rfl rfl lk w5) rfl ?_;refine eG (i:=19) rfl af af af w2 (bX rfl rfl rfl lk w5) rfl ?_;refine AD.take (i:=20) rfl af af af w2 av rfl (gM rfl ot w5 aJ) cu cJ ?_;refine AD.take (i:=21) rfl af af af w2 av rfl (gp rfl ot) cu cJ ?_;refine bL [(3,_)] [⟨I,28,3,[_,_,_]⟩] ?_;refine bC af ?_;refine aA ?_;refine ag ?_;refine ae ?_;refine aa en ?_;refine ak [52] ?_;refine ei ot w5 ?_;refine ag ?_;refine ae ?_;refine ak [2] ?_;refine aD ?_;refine bf ?_;refine⟨vi ?_,rfl⟩;try simp only[dx] at *
     simp only[cP,dQ];try simp_all
     try omega
    refine eo rfl (bX rfl rfl rfl lk w5) rfl ?_;refine eG (i:=18) rfl af af af w2 (bX rfl rfl rfl lk w5) rfl ?_;refine aG (i:=15) af ?_;refine eo rfl (bX rfl rfl rfl lk w5) rfl ?_;refine eG (i:=19) rfl af af af w2 (bX rfl rfl rfl lk w5) rfl ?_;refine AD.take (i:=20) rfl af af af w2 av rfl (gM rfl ot w5 aJ) cu cJ ?_;refine AD.take (i:=21) rfl af af af w2 av rfl (gp rfl ot) cu cJ ?_;refine bL [(3,_)] [⟨I,28,3,[_,_,_]⟩] ?_;refine bC af ?_;refine aA ?_;refine ag ?_;refine ae ?_;refine aa en ?_;refine ak [52] ?_;refine ei ot w5 ?_;refine ag ?_;refine ae ?_;refine ak [2] ?_;refine aD ?_;refine bf ?_;refine⟨vi ?_,rfl⟩;try simp only[dx] at *
    simp only[cP,dQ];try simp_all
    try omega
   refine eo rfl (bX rfl rfl rfl lk w5) rfl ?_;refine eG (i:=18) rfl af af af w2 (bX rfl rfl rfl lk w5) rfl ?_;refine aG (i:=14) af ?_;refine eo rfl (bX rfl rfl rfl lk w5) rfl ?_;refine aG (i:=15) af ?_;refine eo rfl (bX rfl rfl rfl lk w5) rfl ?_;refine eG (i:=19) rfl af af af w2 (bX rfl rfl rfl lk w5) rfl ?_;refine AD.take (i:=20) rfl af af af w2 av rfl (gM rfl ot w5 aJ) cu cJ ?_;refine AD.take (i:=21) rfl af af af w2 av rfl (gp rfl ot) cu cJ ?_;refine bL [(3,_)] [⟨I,28,3,[_,_,_]⟩] ?_;refine bC af ?_;refine aA ?_;refine ag ?_;refine ae ?_;refine aa en ?_;refine ak [52] ?_;refine ei ot w5 ?_;refine ag ?_;refine ae ?_;refine ak [2] ?_;refine aD ?_;refine bf ?_;refine⟨vi ?_,rfl⟩;try simp only[dx] at *
   simp only[cP,dQ];try simp_all
   try omega
  have J:=U;(try simp only[V.ah,ne_eq] at J)
  refine bp.g8 (i:=2) rfl af af af w2 (bX rfl rfl rfl lk w5) rfl ?_;refine bp.g8 (i:=3) rfl af af af w2 (bX rfl rfl rfl lk w5) rfl ?_;refine bp.g8 (i:=4) rfl af af af w2 (bX rfl rfl rfl lk w5) rfl ?_;refine bp.take (i:=5) rfl af af af w2 av rfl (gM rfl ot w5 aJ) cu ?_;refine bp.take (i:=6) rfl af af af w2 av rfl (jl rfl ot) cu ?_;refine bp.g8 (i:=7) rfl af af af w2 (bX rfl rfl rfl lk w5) rfl ?_;refine bp.g8 (i:=8) rfl af af af w2 (bX rfl rfl rfl lk w5) rfl ?_;refine bp.g8 (i:=9) rfl af af af w2 (bX rfl rfl rfl lk w5) rfl ?_;refine bp.later rfl ?_;refine aG (i:=10) af ?_;refine eo rfl (bX rfl rfl rfl lk w5) rfl ?_;refine AD.take (i:=11) rfl af af af w2 av rfl (gM rfl ot w5 aJ) cu cJ ?_;refine AD.take (i:=12) rfl af af af w2 av rfl (jl rfl ot) cu cJ ?_;refine eG (i:=13) rfl af af af w2 (bX rfl rfl rfl lk w5) rfl ?_;refine eG (i:=16) rfl af af af w2 (bX rfl rfl rfl lk w5) rfl ?_;refine dn (i:=14) (j:=17) af ?_ ?_
  ·refine eo rfl (bX rfl rfl rfl lk w5) rfl ?_;refine dn (i:=15) (j:=17) af ?_ ?_
   ·refine eo rfl (bX rfl rfl rfl lk w5) rfl ?_;refine aG (i:=17) af ?_;refine eo rfl (bX rfl rfl rfl lk w5) rfl ?_;refine eG (i:=18) rfl af af af w2 (bX rfl rfl rfl lk w5) rfl ?_;refine eG (i:=19) rfl af af af w2 (bX rfl rfl rfl lk w5) rfl ?_;refine AD.take (i:=20) rfl af af af w2 av rfl (gM rfl ot w5 aJ) cu cJ ?_;refine AD.take (i:=21) rfl af af af w2 av rfl (gp rfl ot) cu cJ ?_;refine bL [(3,_)] [⟨I,28,3,[_,_,_]⟩] ?_;refine bC af ?_;refine aA ?_;refine ag ?_;refine ae ?_;refine aa en ?_;refine ak [52] ?_;refine ei ot w5 ?_;refine ag ?_;refine ae ?_;refine ak [2] ?_;refine aD ?_;refine bf ?_;refine⟨vi ?_,rfl⟩;try simp only[dx] at *
    simp only[cP,dQ];try simp_all
    try omega
   refine eo rfl (bX rfl rfl rfl lk w5) rfl ?_;refine eG (i:=18) rfl af af af w2 (bX rfl rfl rfl lk w5) rfl ?_;refine aG (i:=15) af ?_;refine eo rfl (bX rfl rfl rfl lk w5) rfl ?_;refine eG (i:=19) rfl af af af w2 (bX rfl rfl rfl lk w5) rfl ?_;refine AD.take (i:=20) rfl af af af w2 av rfl (gM rfl ot w5 aJ) cu cJ ?_;refine AD.take (i:=21) rfl af af af w2 av rfl (gp rfl ot) cu cJ ?_;refine bL [(3,_)] [⟨I,28,3,[_,_,_]⟩] ?_;refine bC af ?_;refine aA ?_;refine ag ?_;refine ae ?_;refine aa en ?_;refine ak [52] ?_;refine ei ot w5 ?_;refine ag ?_;refine ae ?_;refine ak [2] ?_;refine aD ?_;refine bf ?_;refine⟨vi ?_,rfl⟩;try simp only[dx] at *
   simp only[cP,dQ];try simp_all
   try omega
  refine eo rfl (bX rfl rfl rfl lk w5) rfl ?_;refine eG (i:=18) rfl af af af w2 (bX rfl rfl rfl lk w5) rfl ?_;refine aG (i:=14) af ?_;refine eo rfl (bX rfl rfl rfl lk w5) rfl ?_;refine aG (i:=15) af ?_;refine eo rfl (bX rfl rfl rfl lk w5) rfl ?_;refine eG (i:=19) rfl af af af w2 (bX rfl rfl rfl lk w5) rfl ?_;refine AD.take (i:=20) rfl af af af w2 av rfl (gM rfl ot w5 aJ) cu cJ ?_;refine AD.take (i:=21) rfl af af af w2 av rfl (gp rfl ot) cu cJ ?_;refine bL [(3,_)] [⟨I,28,3,[_,_,_]⟩] ?_;refine bC af ?_;refine aA ?_;refine ag ?_;refine ae ?_;refine aa en ?_;refine ak [52] ?_;refine ei ot w5 ?_;refine ag ?_;refine ae ?_;refine ak [2] ?_;refine aD ?_;refine bf ?_;refine⟨vi ?_,rfl⟩;try simp only[dx] at *
  simp only[cP,dQ];try simp_all
  try omega
 have O:=ax
 (try simp only[V.ah,ne_eq] at O)
 refine ag ?_;refine aa az ?_;refine ae ?_;refine ak [1,3,8,32] ?_;refine aI ot (fun bW=>?_) (fun bW=>?_)
 ·have Z:=bW
  (try simp only[V.ah,ne_eq] at Z)
  refine aA ?_;refine ag ?_;refine aa (aq 2) ?_;refine aa (aC 0) ?_;refine aa az ?_;refine ak [1,36] ?_;refine aI ot (fun ck=>?_) (fun ck=>?_)
  ·have aX:=ck
   (try simp only[V.ah,ne_eq] at aX)
   refine ag ?_;refine ae ?_;refine ak [2] ?_;refine aD ?_;refine bf ?_;refine⟨vi ?_,rfl⟩;try simp only[dx] at *
   simp only[cP,dQ];try simp_all
   try omega
  have aX:=ck
  (try simp only[V.ah,ne_eq] at aX)
  refine aN ?_;refine aR ?_;refine aa (aq 1) ?_;refine aa (aC 0) ?_;refine aa az ?_;refine ae ?_;refine ak [3] ?_;refine aA ?_;refine ag ?_;refine ae ?_;refine aa en ?_;refine ak [52] ?_;refine aI ot (fun E=>?_) (fun E=>?_)
  ·have bA:=E
   (try simp only[V.ah,ne_eq] at bA)
   refine ag ?_;refine ae ?_;refine ak [2] ?_;refine aD ?_;refine bf ?_;refine⟨vi ?_,rfl⟩;try simp only[dx] at *
   simp only[cP,dQ];try simp_all
   try omega
  have bA:=E
  (try simp only[V.ah,ne_eq] at bA)
  refine aN ?_;refine ag ?_;refine ae ?_;refine ak [2] ?_;refine aD ?_;refine bf ?_;refine⟨vi ?_,rfl⟩;try simp only[dx] at *
  simp only[cP,dQ];try simp_all
  try omega
 have Z:=bW
 (try simp only[V.ah,ne_eq] at Z)
 refine ag ?_;refine aa az ?_;refine ae ?_;refine ak [1,3,8,40] ?_;refine aI ot (fun cx=>?_) (fun cx=>?_)
 ·have bn:=cx
  (try simp only[V.ah,ne_eq] at bn)
  refine aN ?_;refine aA ?_;refine ag ?_;refine ae ?_;refine aa en ?_;refine ak [52] ?_;refine aI ot (fun E=>?_) (fun E=>?_)
  ·have bA:=E
   (try simp only[V.ah,ne_eq] at bA)
   refine ag ?_;refine ae ?_;refine ak [2] ?_;refine aD ?_;refine bf ?_;refine⟨vi ?_,rfl⟩;try simp only[dx] at *
   simp only[cP,dQ];try simp_all
   try omega
  have bA:=E
  (try simp only[V.ah,ne_eq] at bA)
  refine aN ?_;refine ag ?_;refine ae ?_;refine ak [2] ?_;refine aD ?_;refine bf ?_;refine⟨vi ?_,rfl⟩;try simp only[dx] at *
  simp only[cP,dQ];try simp_all
  try omega
 have bn:=cx
 (try simp only[V.ah,ne_eq] at bn)
 refine ag ?_;refine aa az ?_;refine ae ?_;refine ak [1,3,42] ?_;refine aI ot (fun cm=>?_) (fun cm=>?_)
 ·have bJ:=cm
  (try simp only[V.ah,ne_eq] at bJ)
  refine dB (au _) af (fun _ h=>h) ?_;refine bp.take (i:=0) rfl af af af w2 av rfl (jl rfl ot) cu ?_;refine bp.take (i:=1) rfl af af af w2 av rfl (jl rfl ot) cu ?_;refine bp.split (t:=45) lk (fun sK=>?_) (fun sK=>?_)
  ·have N:=sK;(try simp only[V.ah,ne_eq] at N)
   refine bp.take (i:=2) rfl af af af w2 de rfl (eU (l:=0) (h:=0) rfl kK trivial trivial (by first|exact wO (ls:=pH) (g:=cS) hm rfl rfl runUnderlying58 sizeOf9 rfl bR bR)) cu ?_;refine bp.take (i:=3) rfl af af af w2 de rfl (cn (mk:=fun y=>Op.fieldAddr 28 y 1) rfl ot n8) cu ?_;refine bp.take (i:=4) rfl af af af w2 de rfl (cn (mk:=Op.load 9) rfl ot kY) tT ?_;refine bp.later rfl ?_;refine aG (i:=5) af ?_;refine lF rfl de rfl rfl rfl call19 (vn pH t.s bR) ⟨ot,ot,trivial⟩ ?_;refine AD.take (i:=6) rfl af af af w2 av rfl (lE rfl ot w5 ot) cu cJ ?_;refine AD.take (i:=7) rfl af af af w2 av rfl (gp rfl ot) cu cJ ?_;refine bL [(3,_)] [⟨I,28,3,[_,_,_]⟩] ?_;refine bC af ?_;refine aA ?_;refine ag ?_;refine ae ?_;refine aa en ?_;refine ak [52] ?_;refine aI ot (fun E=>?_) (fun E=>?_)
   ·have bA:=E
    (try simp only[V.ah,ne_eq] at bA)
    refine ag ?_;refine ae ?_;refine ak [2] ?_;refine aD ?_;refine bf ?_;refine⟨vi ?_,rfl⟩;try simp only[dx] at *
    simp only[cP,dQ];try simp_all
    try omega
   have bA:=E
   (try simp only[V.ah,ne_eq] at bA)
   refine aN ?_;refine ag ?_;refine ae ?_;refine ak [2] ?_;refine aD ?_;refine bf ?_;refine⟨vi ?_,rfl⟩;try simp only[dx] at *
   simp only[cP,dQ];try simp_all
   try omega
  have N:=sK;(try simp only[V.ah,ne_eq] at N)
  refine bp.g8 (i:=2) rfl af af af w2 (bX rfl rfl rfl lk w5) rfl ?_;refine bp.g8 (i:=3) rfl af af af w2 (bX rfl rfl rfl lk w5) rfl ?_;refine bp.g8 (i:=4) rfl af af af w2 (bX rfl rfl rfl lk w5) rfl ?_;refine bp.later rfl ?_;refine aG (i:=5) af ?_;refine eo rfl (bX rfl rfl rfl lk w5) rfl ?_;refine AD.take (i:=6) rfl af af af w2 av rfl (gM rfl ot w5 aJ) cu cJ ?_;refine AD.take (i:=7) rfl af af af w2 av rfl (gp rfl ot) cu cJ ?_;refine bL [(3,_)] [⟨I,28,3,[_,_,_]⟩] ?_;refine bC af ?_;refine aA ?_;refine ag ?_;refine ae ?_;refine aa en ?_;refine ak [52] ?_;refine ei ot w5 ?_;refine ag ?_;refine ae ?_;refine ak [2] ?_;refine aD ?_;refine bf ?_;refine⟨vi ?_,rfl⟩;try simp only[dx] at *
  simp only[cP,dQ];try simp_all
  try omega
 have bJ:=cm
 (try simp only[V.ah,ne_eq] at bJ)
 refine ag ?_;refine ae ?_;refine ak [2] ?_;refine aD ?_;refine bf ?_;refine⟨vi ?_,rfl⟩;try simp only[dx] at *
 simp only[cP,dQ];try simp_all
 try omega
theorem zQ : ∀ w, ((#[{ name := "Kind", type := 3, offset := 0, embedded := false, tag := "", pkgPath := "", byteOffset := 0 }, { name := "Text", type := 9, offset := 1, embedded := false, tag := "", pkgPath := "", byteOffset := 8 }, { name := "Int", type := 3, offset := 2, embedded := false, tag := "", pkgPath := "", byteOffset := 24 }] : Array Field).mapM fun f => do pure (f.offset, ← sizeOf f.type) : Sem (Array (Nat × Nat))).run Tryd.prog w = .ok #[(0, 1), (1, 1), (2, 1)] w := fun w => by simp [sizeOf3, sizeOf9]
theorem jo(hm:(0,marksC)∈G)(hw:(2,wordsC)∈G)(s:ByteArray)(hs:s.size<=maxLen):VP Tryd.prog G 33 [bH s] (aj (cH s)):=by
 refine cL func33 rfl ntmps33 aV fun O w0 N=>?_;refine ag ?_;refine ae ?_;refine ak [0] ?_;refine aA ?_;refine ag ?_;refine ae ?_;refine aa (kG rfl rfl ot runUnderlying9) ?_;refine aa az ?_;refine aF [(0,_),(5,_)] [] ?_;refine aI ot (fun ax=>?_) (fun ax=>?_)
 ·have I:=ax
  (try simp only[V.ah,ne_eq] at I)
  refine ag ?_;refine ae ?_;refine ak [2] ?_;refine aD ?_;refine bf ?_;refine⟨vi ?_,rfl⟩;try simp only[oU] at *
  simp only[cH];first|(rw[if_pos w8];done)|(rw[if_neg w8];cases h1:dQ s<;>cases h2:kN.any (cj s)<;>simp_all)
 have I:=ax
 (try simp only[V.ah,ne_eq] at I)
 refine aN ?_;refine aA ?_;refine ag ?_;refine ae ?_;refine aa (ct (pl:=[(0,_),(1,_)]) (ds:=[_,_,_]) rfl zeroValue28 runUnderlying28 zQ ⟨rfl,aJ,rfl,ot,trivial⟩ rfl rfl) ?_;refine bK call9 (nq hm ⟨1,s,0⟩ hs) ?_;refine aa az ?_;refine ae ?_;refine cM (t:=10) lk (fun J=>?_) (fun J=>?_)
 ·have E:=J;(try simp only[V.ah,ne_eq] at E)
  refine an ?_;refine an ?_;refine an ?_;refine aa bZ ?_;refine aF [(14,_)] [] ?_;refine ei ot w5 ?_;refine ag ?_;refine ae ?_;refine ak [2] ?_;refine aD ?_;refine bf ?_;refine⟨vi ?_,rfl⟩;try simp only[oU] at *
  simp only[cH];first|(rw[if_pos w8];done)|(rw[if_neg w8];cases h1:dQ s<;>cases h2:kN.any (cj s)<;>simp_all)
 have E:=J;(try simp only[V.ah,ne_eq] at E)
 refine iT de rfl (eU (l:=0) (h:=0) rfl kK trivial trivial (by first|exact wO (ls:=kN) (g:=cS) hw rfl rfl runUnderlying86 sizeOf9 rfl bR bR)) ?_;refine ae ?_;refine nn de rfl rfl rfl call19 (vn kN s bR) ⟨ot,ot,trivial⟩ ?_;refine aa bt ?_;refine aF [(14,_)] [] ?_;refine aI ot (fun M=>?_) (fun M=>?_)
 ·have K:=M
  (try simp only[V.ah,ne_eq] at K)
  refine ag ?_;refine ae ?_;refine ak [2] ?_;refine aD ?_;refine bf ?_;refine⟨vi ?_,rfl⟩;try simp only[oU] at *
  simp only[cH];first|(rw[if_pos w8];done)|(rw[if_neg w8];cases h1:dQ s<;>cases h2:kN.any (cj s)<;>simp_all)
 have K:=M
 (try simp only[V.ah,ne_eq] at K)
 refine aN ?_;refine ag ?_;refine ae ?_;refine ak [2] ?_;refine aD ?_;refine bf ?_;refine⟨vi ?_,rfl⟩;try simp only[oU] at *
 simp only[cH];first|(rw[if_pos w8];done)|(rw[if_neg w8];cases h1:dQ s<;>cases h2:kN.any (cj s)<;>simp_all)
abbrev MarksTab(w:World):Prop:=Tab.nI w 0 marksC
end Nm
namespace Pk
open List
open Go.Proofs.Tryd
open Go.RowKit V
def gO(n m:Int):Int:=if n<0 then (-(n+1)).tmod m else n.tmod m
theorem vB(n:Int){m:Int}(h:1<=m):0<=gO n m/\gO n m<m:=by
 have E:∀k:Int,0<=k->0<=k.tmod m/\k.tmod m<m:=fun k hk=>⟨Int.tmod_nonneg _ hk,Int.tmod_lt_of_pos _ w8⟩
 unfold gO;split
 ·exact E _ w8
 exact E _ w8
variable (G:List (Nat×List Value))
theorem pe(n m:Int)(hn:-9223372036854775808<=n)(I:n<=9223372036854775807)(hm:1<=m):VP Tryd.prog G 5 [aj n,aj m] (aj (gO n m)):=by
 refine cL func5 rfl ntmps5 aV fun K w0 J=>?_;refine ag ?_;refine ae ?_;refine ak [0,1] ?_;refine aA ?_;refine ag ?_;refine ae ?_;refine aa az ?_;refine ak [0,1,6] ?_;refine aI ot (fun ax=>?_) (fun ax=>?_)
 ·have E:=ax
  (try simp only[V.ah,ne_eq] at E)
  refine aR ?_;refine ae ?_;refine aa az ?_;refine aa (rJ rfl ot (xh (r:=-(n+1)) (by rw[wrap_i64]<;>omega))) ?_;refine ae ?_;refine aF [(0,_),(1,_)] [] ?_;refine ag ?_;refine ae ?_;refine ae ?_;refine aa (fc rfl ot ot (wM w8)) ?_;refine ae ?_;refine aF [(4,_)] [] ?_;refine aD ?_;refine⟨.inr rfl,c6 results5 ?_⟩;exact⟨by unfold gO;split<;>first|rfl|omega,rfl⟩
 have E:=ax
 (try simp only[V.ah,ne_eq] at E)
 refine aN ?_;refine ag ?_;refine ae ?_;refine ae ?_;refine aa (fc rfl ot ot (wM w8)) ?_;refine ae ?_;refine aF [(4,_)] [] ?_;refine aD ?_;refine⟨.inr rfl,c6 results5 ?_⟩;exact⟨by unfold gO;split<;>first|rfl|omega,rfl⟩
end Pk
namespace Nm
open List
open Go.Proofs.Tryd
open Go.RowKit V Pk
variable {G:List (Nat×List Value)}
abbrev WordsTab(w:World):Prop:=Tab.nI w 2 wordsC
end Nm
namespace Vl
open List
open Go.Proofs.Tryd
open Go.RowKit V Pk
structure Vl where
 k:Int
 n:Int
 s:ByteArray
def cV(v:Vl):List D:=[aj v.k,aj v.n,bH v.s]
theorem fO(v:Vl):(cV v).length=3:=rfl
theorem BR(v:Vl):(cV v).all V.one=true:=rfl
structure Vl.Ok (v:Vl):Prop where
 k1:-9223372036854775808<=v.k
 k2:v.k<=9223372036854775807
 n1:-9223372036854775808<=v.n
 n2:v.n<=9223372036854775807
 s:v.s.size<=maxLen
def e7:Vl:=⟨0,0,⟨#[]⟩⟩
def fV(v:Vl):Int :=
 if v.k=0 then (if v.n≠0\/v.s.size≠0 then 6 else 0)
 else if v.k=1 then (if v.n<0\/v.n>1\/v.s.size≠0 then 6 else 0)
 else if v.k=2 then (if v.s.size≠0 then 6 else 0)
 else if v.k=3 then (if v.n≠0 then 6 else if v.s.size>20 then 1 else 0)
 else 2
theorem nJ(x y:Vl):∀w,(Op.equalIn 10000 23 (.agg [.int .i64 x.k,.int .i64 x.n,.string x.s].toArray) (.agg [.int .i64 y.k,.int .i64 y.n,.string y.s].toArray)).run Tryd.prog w = .ok (x.k==y.k&&(x.n==y.n&&x.s.toList==y.s.toList)) w:=fun w=>by
 have hS:Tryd.prog.underlying 23=some (.struct (Tryd.prog.fieldsOf 23)):=(by kernel_rfl)
 have hp:Tryd.prog.stoodInHeld 23=false:=(by kernel_rfl)
 rw[show(10000:Nat)=9999+1 from rfl,run_equalIn_agg w 9999 23 _ _ hS hp];have u:=underlying23;have I:=underlying3;have J:=underlying9;have K:=isAgg3;have M:=isAgg9;have N:=sizeOf3;have O:=sizeOf9;simp only[Program.fieldsOf,u];go_simp
 by_cases h1:x.k=y.k<;>by_cases h2:x.n=y.n<;>by_cases E:x.s.toList=y.s.toList<;>simp[h1,h2,E]
def xM(s:ByteArray)(m:Nat):ByteArray:=s.extract 0 (min s.size m)
def lN(r:Vl):Vl :=
 if gO r.k 4=1 then ⟨1,gO r.n 2,⟨#[]⟩⟩
 else if gO r.k 4=2 then ⟨2,r.n,⟨#[]⟩⟩
 else if gO r.k 4=3 then ⟨3,0,xM r.s 10⟩
 else e7
variable {G:List (Nat×List Value)}
theorem nq(v:Vl):VP Tryd.prog G 65 [.agg (cV v)] (aj (fV v)):=by
 refine cL func65 rfl ntmps65 aV fun X0 w0 dM=>?_;unfold cV;refine ag ?_;refine fi (ds:=[_,_,_]) av rfl rfl ot rfl rfl (fun b1=>?_);refine ae ?_;refine aF [(1,_)] [⟨b1,23,3,[_,_,_]⟩] ?_;refine aA ?_;refine ag ?_;refine aa (aq 0) ?_;refine aa (aC 0) ?_;refine ak [1,4] ?_;refine bO ?_;refine ag ?_;refine aa az ?_;refine ae ?_;refine ak [1,4,5] ?_;refine aI ot (fun ax=>?_) (fun ax=>?_)
 ·have K:=ax
  (try simp only[V.ah,ne_eq] at K)
  refine ag ?_;refine aa (aq 1) ?_;refine aa (aC 0) ?_;refine aa az ?_;refine ae ?_;refine cM (t:=10) lk (fun M=>?_) (fun M=>?_)
  ·have E:=M;(try simp only[V.ah,ne_eq] at E)
   refine an ?_;refine an ?_;refine an ?_;refine aa bZ ?_;refine ak [14] ?_;refine ei ot w5 ?_;refine ag ?_;refine ae ?_;refine ak [2] ?_;refine aD ?_;refine bf ?_;refine⟨vi ?_,rfl⟩;try simp only[dx] at *
   unfold fV;simp_all;try omega
  have E:=M;(try simp only[V.ah,ne_eq] at E)
  refine aa (aq 2) ?_;refine aa (aC 0) ?_;refine aa az ?_;refine aa bt ?_;refine ak [14] ?_;refine aI ot (fun bW=>?_) (fun bW=>?_)
  ·have N:=bW
   (try simp only[V.ah,ne_eq] at N)
   refine ag ?_;refine ae ?_;refine ak [2] ?_;refine aD ?_;refine bf ?_;refine⟨vi ?_,rfl⟩;try simp only[dx] at *
   unfold fV;simp_all;try omega
  have N:=bW
  (try simp only[V.ah,ne_eq] at N)
  refine aN ?_;refine ag ?_;refine ae ?_;refine ak [2] ?_;refine aD ?_;refine bf ?_;refine⟨vi ?_,rfl⟩;try simp only[dx] at *
  unfold fV;simp_all;try omega
 have K:=ax
 (try simp only[V.ah,ne_eq] at K)
 refine ag ?_;refine aa az ?_;refine ae ?_;refine ak [1,4,15] ?_;refine aI ot (fun ck=>?_) (fun ck=>?_)
 ·have aX:=ck
  (try simp only[V.ah,ne_eq] at aX)
  refine ag ?_;refine aa (aq 1) ?_;refine aa (aC 0) ?_;refine aa az ?_;refine ae ?_;refine cM (t:=20) lk (fun O=>?_) (fun O=>?_)
  ·have I:=O;(try simp only[V.ah,ne_eq] at I)
   refine an ?_;refine an ?_;refine an ?_;refine aa bZ ?_;refine ae ?_;refine an ?_;refine an ?_;refine an ?_;refine aa bZ ?_;refine ak [29] ?_;refine ei ot w5 ?_;refine ag ?_;refine ae ?_;refine ak [2] ?_;refine aD ?_;refine bf ?_;refine⟨vi ?_,rfl⟩;try simp only[dx] at *
   unfold fV;simp_all;try omega
  have I:=O;(try simp only[V.ah,ne_eq] at I)
  refine aa (aq 1) ?_;refine aa (aC 0) ?_;refine aa az ?_;refine aa bt ?_;refine ae ?_;refine cM (t:=25) lk (fun U=>?_) (fun U=>?_)
  ·have J:=U;(try simp only[V.ah,ne_eq] at J)
   refine an ?_;refine an ?_;refine an ?_;refine aa bZ ?_;refine ak [29] ?_;refine ei ot w5 ?_;refine ag ?_;refine ae ?_;refine ak [2] ?_;refine aD ?_;refine bf ?_;refine⟨vi ?_,rfl⟩;try simp only[dx] at *
   unfold fV;simp_all;try omega
  have J:=U;(try simp only[V.ah,ne_eq] at J)
  refine aa (aq 2) ?_;refine aa (aC 0) ?_;refine aa az ?_;refine aa bt ?_;refine ak [29] ?_;refine aI ot (fun cx=>?_) (fun cx=>?_)
  ·have bn:=cx
   (try simp only[V.ah,ne_eq] at bn)
   refine ag ?_;refine ae ?_;refine ak [2] ?_;refine aD ?_;refine bf ?_;refine⟨vi ?_,rfl⟩;try simp only[dx] at *
   unfold fV;simp_all;try omega
  have bn:=cx
  (try simp only[V.ah,ne_eq] at bn)
  refine aN ?_;refine ag ?_;refine ae ?_;refine ak [2] ?_;refine aD ?_;refine bf ?_;refine⟨vi ?_,rfl⟩;try simp only[dx] at *
  unfold fV;simp_all;try omega
 have aX:=ck
 (try simp only[V.ah,ne_eq] at aX)
 refine ag ?_;refine aa az ?_;refine ae ?_;refine ak [1,4,30] ?_;refine aI ot (fun cm=>?_) (fun cm=>?_)
 ·have bJ:=cm
  (try simp only[V.ah,ne_eq] at bJ)
  refine ag ?_;refine aa (aq 2) ?_;refine aa (aC 0) ?_;refine aa az ?_;refine ak [34] ?_;refine aI ot (fun c7=>?_) (fun c7=>?_)
  ·have bA:=c7
   (try simp only[V.ah,ne_eq] at bA)
   refine ag ?_;refine ae ?_;refine ak [2] ?_;refine aD ?_;refine bf ?_;refine⟨vi ?_,rfl⟩;try simp only[dx] at *
   unfold fV;simp_all;try omega
  have bA:=c7
  (try simp only[V.ah,ne_eq] at bA)
  refine aN ?_;refine ag ?_;refine ae ?_;refine ak [2] ?_;refine aD ?_;refine bf ?_;refine⟨vi ?_,rfl⟩;try simp only[dx] at *
  unfold fV;simp_all;try omega
 have bJ:=cm
 (try simp only[V.ah,ne_eq] at bJ)
 refine ag ?_;refine aa az ?_;refine ae ?_;refine ak [1,35] ?_;refine aI ot (fun dk=>?_) (fun dk=>?_)
 ·have Y:=dk
  (try simp only[V.ah,ne_eq] at Y)
  refine aA ?_;refine ag ?_;refine aa (aq 1) ?_;refine aa (aC 0) ?_;refine aa az ?_;refine ak [1,39] ?_;refine aI ot (fun fy=>?_) (fun fy=>?_)
  ·have Z:=fy
   (try simp only[V.ah,ne_eq] at Z)
   refine ag ?_;refine ae ?_;refine ak [2] ?_;refine aD ?_;refine bf ?_;refine⟨vi ?_,rfl⟩;try simp only[dx] at *
   unfold fV;simp_all;try omega
  have Z:=fy
  (try simp only[V.ah,ne_eq] at Z)
  refine aN ?_;refine ag ?_;refine aa (aq 2) ?_;refine aa (aC 0) ?_;refine aa (kG rfl rfl ot runUnderlying9) ?_;refine aa az ?_;refine aF [(43,_)] [⟨b1,23,3,[_,_,_]⟩] ?_;refine aI ot (fun fK=>?_) (fun fK=>?_)
  ·have iW:=fK
   (try simp only[V.ah,ne_eq] at iW)
   refine ag ?_;refine ae ?_;refine ak [2] ?_;refine aD ?_;refine bf ?_;refine⟨vi ?_,rfl⟩;try simp only[dx] at *
   unfold fV;simp_all;try omega
  have iW:=fK
  (try simp only[V.ah,ne_eq] at iW)
  refine aN ?_;refine ag ?_;refine ae ?_;refine ak [2] ?_;refine aD ?_;refine bf ?_;refine⟨vi ?_,rfl⟩;try simp only[dx] at *
  unfold fV;simp_all;try omega
 have Y:=dk
 (try simp only[V.ah,ne_eq] at Y)
 refine ag ?_;refine ae ?_;refine ak [2] ?_;refine aD ?_;refine bf ?_;refine⟨vi ?_,rfl⟩;try simp only[dx] at *
 unfold fV;simp_all;try omega
theorem BS(s:ByteArray)(m:Nat)(hs:s.size<=maxLen):VP Tryd.prog G 8 [bH s,aj (m:Int)] (bH (xM s m)):=by
 refine cL func8 rfl ntmps8 aV fun I w0 E=>?_;simp only[maxLen] at hs;refine ag ?_;refine ae ?_;refine ak [0,1] ?_;refine ag ?_;refine ae ?_;refine ae ?_;refine aa (kG rfl rfl ot runUnderlying9) ?_;refine ae ?_;refine aa (zG (r:=.int .i64 ((min s.size m:Nat):Int)) rfl ot ot (fun cs w=>(BM cs w).trans (by split<;>(congr 3;omega)))) ?_;refine aa (eU (l:=0) rfl ot trivial ⟨_,ot⟩ (by first|exact BO (fun _=>rfl) (fun h=>by cases h) runUnderlying9 w8 w8)) ?_;refine ae ?_;refine aF [(4,_)] [] ?_;refine aD ?_;refine⟨.inr rfl,c6 results8 ?_⟩;exact⟨by first|rfl|(simp[*];done),rfl⟩
theorem oO : ∀ w, ((#[{ name := "Kind", type := 3, offset := 0, embedded := false, tag := "", pkgPath := "", byteOffset := 0 }, { name := "Int", type := 3, offset := 1, embedded := false, tag := "", pkgPath := "", byteOffset := 8 }, { name := "Text", type := 9, offset := 2, embedded := false, tag := "", pkgPath := "", byteOffset := 16 }] : Array Field).mapM fun f => do pure (f.offset, ← sizeOf f.type) : Sem (Array (Nat × Nat))).run Tryd.prog w = .ok #[(0, 1), (1, 1), (2, 1)] w := fun w => by simp [sizeOf3, sizeOf9]
theorem AO(r:Vl)(h:r.Ok):VP Tryd.prog G 4 [.agg (cV r)] (.agg (cV (lN r))):=by
 refine cL func4 rfl ntmps4 aV fun U w0 O=>?_;unfold cV;refine ag ?_;refine fi (ds:=[_,_,_]) av rfl rfl ot rfl rfl (fun M=>?_);refine ep (ds:=[_,_,_]) av rfl rfl zeroValue23 rfl (fun N=>?_);refine aF [(1,_),(2,_)] [⟨N,23,3,[_,_,_]⟩,⟨M,26,3,[_,_,_]⟩] ?_;refine aA ?_;refine ag ?_;refine aa (aq 0) ?_;refine aa (aC 1) ?_;refine bK call5 (pe G r.k 4 h.k1 h.k2 bR) ?_;refine ae ?_;refine aF [(1,_),(2,_),(3,_)] [⟨N,23,3,[_,_,_]⟩,⟨M,26,3,[_,_,_]⟩] ?_;refine ag ?_;refine ae ?_;refine ak [1,2,3,7] ?_;refine bO ?_;refine ag ?_;refine aa az ?_;refine ae ?_;refine ak [1,2,3,7,8] ?_;refine aI ot (fun ax=>?_) (fun ax=>?_)
 ·have E:=ax
  (try simp only[V.ah,ne_eq] at E)
  refine ag ?_;refine ae ?_;refine aa (aq 1) ?_;refine aa (aC 1) ?_;refine bK call5 (pe G r.n 2 h.n1 h.n2 bR) ?_;refine aa (ct (pl:=[(0,_),(1,_)]) (ds:=[_,_,_]) rfl zeroValue23 runUnderlying23 oO ⟨rfl,ot,rfl,ot,trivial⟩ rfl rfl) ?_;refine bq 0 [_,_,_] sizeOf23 ?_;refine aF [(2,_)] [⟨N,23,3,[_,_,_]⟩,⟨M,26,3,[_,_,_]⟩] ?_;refine aD ?_;refine⟨.inr rfl,_,[],nil_sublist _,c8 results4 (dG (k:=0) (ds:=[_,_,_]) aV lk rfl rfl isAgg23 sizeOf23 rfl rfl),?_⟩;refine⟨?_,rfl⟩;unfold lN e7;simp_all
 have E:=ax
 (try simp only[V.ah,ne_eq] at E)
 refine ag ?_;refine aa az ?_;refine ae ?_;refine ak [1,2,3,7,15] ?_;refine aI ot (fun J=>?_) (fun J=>?_)
 ·have I:=J
  (try simp only[V.ah,ne_eq] at I)
  refine ag ?_;refine ae ?_;refine aa (aq 1) ?_;refine aa (aC 1) ?_;refine aa (ct (pl:=[(0,_),(1,_)]) (ds:=[_,_,_]) rfl zeroValue23 runUnderlying23 oO ⟨rfl,ot,rfl,ot,trivial⟩ rfl rfl) ?_;refine bq 0 [_,_,_] sizeOf23 ?_;refine aF [(2,_)] [⟨N,23,3,[_,_,_]⟩,⟨M,26,3,[_,_,_]⟩] ?_;refine aD ?_;refine⟨.inr rfl,_,[],nil_sublist _,c8 results4 (dG (k:=0) (ds:=[_,_,_]) aV lk rfl rfl isAgg23 sizeOf23 rfl rfl),?_⟩;refine⟨?_,rfl⟩;unfold lN e7;simp_all
 have I:=J
 (try simp only[V.ah,ne_eq] at I)
 refine ag ?_;refine aa az ?_;refine ae ?_;refine ak [1,2,3,21] ?_;refine aI ot (fun K=>?_) (fun K=>?_)
 ·have aX:=K
  (try simp only[V.ah,ne_eq] at aX)
  refine ag ?_;refine ae ?_;refine aa (aq 2) ?_;refine aa (aC 1) ?_;refine bK call8 (BS r.s 10 h.s) ?_;refine aa (ct (pl:=[(0,_),(2,_)]) (ds:=[_,_,_]) rfl zeroValue23 runUnderlying23 oO ⟨rfl,ot,rfl,ot,trivial⟩ rfl rfl) ?_;refine bq 0 [_,_,_] sizeOf23 ?_;refine aF [(2,_)] [⟨N,23,3,[_,_,_]⟩,⟨M,26,3,[_,_,_]⟩] ?_;refine aD ?_;refine⟨.inr rfl,_,[],nil_sublist _,c8 results4 (dG (k:=0) (ds:=[_,_,_]) aV lk rfl rfl isAgg23 sizeOf23 rfl rfl),?_⟩;refine⟨?_,rfl⟩;unfold lN e7;simp_all
 have aX:=K
 (try simp only[V.ah,ne_eq] at aX)
 refine aN ?_;refine ag ?_;refine aa (ct (pl:=[]) (ds:=[_,_,_]) rfl zeroValue23 runUnderlying23 oO trivial rfl rfl) ?_;refine bq 0 [_,_,_] sizeOf23 ?_;refine aF [(2,_)] [⟨N,23,3,[_,_,_]⟩,⟨M,26,3,[_,_,_]⟩] ?_;refine aD ?_;refine⟨.inr rfl,_,[],nil_sublist _,c8 results4 (dG (k:=0) (ds:=[_,_,_]) aV lk rfl rfl isAgg23 sizeOf23 rfl rfl),?_⟩;refine⟨?_,rfl⟩;unfold lN e7;simp_all
end Vl
namespace Nm
open List
open Go.Proofs.Tryd
open Go.RowKit V Pk Vl
variable {i:Nat} {h:Int}
theorem nJ(x y:Vl):∀w,(Op.equalIn 10000 23 (.agg [.int .i64 x.k,.int .i64 x.n,.string x.s].toArray) (.agg [.int .i64 y.k,.int .i64 y.n,.string y.s].toArray)).run Tryd.prog w = .ok (x.k==y.k&&(x.n==y.n&&x.s.toList==y.s.toList)) w:=fun w=>by
 have hS:Tryd.prog.underlying 23=some (.struct (Tryd.prog.fieldsOf 23)):=(by kernel_rfl)
 have hp:Tryd.prog.stoodInHeld 23=false:=(by kernel_rfl)
 rw[show(10000:Nat)=9999+1 from rfl,run_equalIn_agg w 9999 23 _ _ hS hp];have u:=underlying23;have I:=underlying3;have J:=underlying9;have K:=isAgg3;have M:=isAgg9;have N:=sizeOf3;have O:=sizeOf9;simp only[Program.fieldsOf,u];go_simp
 by_cases h1:x.k=y.k<;>by_cases h2:x.n=y.n<;>by_cases E:x.s.toList=y.s.toList<;>simp[h1,h2,E]
def fF(v:Vl):Int:=if v.k=2/\v.n = -9223372036854775808 then 3 else fV v
structure aT where
 k:Int
 v:Vl
 nm:ByteArray
variable {l:List aT}
def cO(o:aT):List D:=[aj o.k,aj o.v.k,aj o.v.n,bH o.v.s,bH o.nm]
theorem jW(o:aT):(cO o).length=5:=rfl
theorem sn(o:aT):(cO o).all V.one=true:=rfl
def eJ(k:Int):Int:=if k=1\/k=2 then 0 else if k=5\/k=11 then 1 else 2
theorem pF(k:Int):0<=eJ k/\eJ k<=2:=by unfold eJ;split<;>(try split)<;>omega
def zeroV(v:Vl):Bool:=v.k==0&&(v.n==0&&v.s.toList==(⟨#[]⟩:ByteArray).toList)
def eY(h:Int)(o:aT):Int :=
 if o.k<1\/o.k>11 then 2
 else if fF o.v≠0 then fF o.v
 else if ((o.k != 1 && !(zeroV o.v))||(o.k != 2 && !(o.nm.toList==(⟨#[]⟩:ByteArray).toList)))=true then 6
 else if o.k=2/\cH o.nm≠0 then cH o.nm
 else if h<eJ o.k then 7 else 0
def eN:Int->List aT->Int
 | h,[]=>if h=1 then 0 else 7
 | h,o::r=>if eY h o=0 then eN (h+(1-eJ o.k)) r else eY h o
def ic(l:List aT):Int:=if l.length>40 then 10 else eN 0 l
theorem wh(hi:i<l.length)(he:eY h l[i]=0):eN h (l.drop i)=eN (h+(1-eJ l[i].k)) (l.drop (i+1)):=by
 rw[drop_eq_getElem_cons hi,eN,if_pos he]
theorem jR{e:Int}(hi:i<l.length)(he:eY h l[i]=e)(h0:e≠0):eN h (l.drop i)=e:=by
 rw[drop_eq_getElem_cons hi,eN,if_neg (by rw[he];exact h0),he]
theorem vS(hi:l.length<=i):eN h (l.drop i)=if h=1 then 0 else 7:=by
 rw[drop_of_length_le hi,eN]
variable {G:List (Nat×List Value)}
theorem vC(v:Vl):VP Tryd.prog G 62 [.agg (cV v)] (aj (fF v)):=by
 refine cL func62 rfl ntmps62 aV fun N w0 M=>?_;unfold cV;refine ag ?_;refine fi (ds:=[_,_,_]) av rfl rfl ot rfl rfl (fun K=>?_);refine ae ?_;refine aF [(1,_)] [⟨K,23,3,[_,_,_]⟩] ?_;refine aA ?_;refine ag ?_;refine aa (aq 0) ?_;refine aa (aC 0) ?_;refine aa az ?_;refine ae ?_;refine cM (t:=6) lk (fun J=>?_) (fun J=>?_)
 ·have E:=J;(try simp only[V.ah,ne_eq] at E)
  refine aa (aq 1) ?_;refine aa (aC 0) ?_;refine aa az ?_;refine aa bZ ?_;refine ak [1,10] ?_;refine aI ot (fun ax=>?_) (fun ax=>?_)
  ·have I:=ax
   (try simp only[V.ah,ne_eq] at I)
   refine ag ?_;refine ae ?_;refine ak [2] ?_;refine aD ?_;refine bf ?_;refine⟨vi ?_,rfl⟩;unfold fF;simp_all
  have I:=ax
  (try simp only[V.ah,ne_eq] at I)
  refine aN ?_;refine ag ?_;refine aa (dF 0 [_,_,_]) ?_;refine bK call65 (Vl.nq v) ?_;refine ae ?_;refine aF [(2,_)] [⟨K,23,3,[_,_,_]⟩] ?_;refine aD ?_;refine⟨.inr rfl,c6 results62 ?_⟩;refine⟨vi ?_,rfl⟩;unfold fF;simp_all
 have E:=J;(try simp only[V.ah,ne_eq] at E)
 refine an ?_;refine an ?_;refine an ?_;refine aa bt ?_;refine ak [1,10] ?_;refine gm ot w5 ?_;refine aN ?_;refine ag ?_;refine aa (dF 0 [_,_,_]) ?_;refine bK call65 (Vl.nq v) ?_;refine ae ?_;refine aF [(2,_)] [⟨K,23,3,[_,_,_]⟩] ?_;refine aD ?_;refine⟨.inr rfl,c6 results62 ?_⟩;refine⟨vi ?_,rfl⟩;unfold fF;simp_all
theorem r7(k:Int):VP Tryd.prog G 58 [aj k] (aj (eJ k)):=by
 refine cL func58 rfl ntmps58 aV fun O w0 N=>?_;refine ag ?_;refine ae ?_;refine ak [0] ?_;refine aA ?_;refine ag ?_;refine ae ?_;refine ak [3] ?_;refine bO ?_;refine aA ?_;refine ag ?_;refine aa az ?_;refine ae ?_;refine ak [3,4] ?_;refine aI ot (fun ax=>?_) (fun ax=>?_)
 ·have E:=ax
  (try simp only[V.ah,ne_eq] at E)
  refine aN ?_;refine ei ot w5 ?_;refine ag ?_;refine ae ?_;refine ak [2] ?_;refine aD ?_;refine bf ?_;refine⟨vi ?_,rfl⟩;unfold eJ;simp_all
 have E:=ax
 (try simp only[V.ah,ne_eq] at E)
 refine aR ?_;refine aa az ?_;refine ae ?_;refine ak [3,4] ?_;refine aI ot (fun J=>?_) (fun J=>?_)
 ·have I:=J
  (try simp only[V.ah,ne_eq] at I)
  refine ag ?_;refine ae ?_;refine ak [2] ?_;refine aD ?_;refine bf ?_;refine⟨vi ?_,rfl⟩;unfold eJ;simp_all
 have I:=J
 (try simp only[V.ah,ne_eq] at I)
 refine aA ?_;refine ag ?_;refine aa az ?_;refine ae ?_;refine ak [3,7] ?_;refine aI ot (fun K=>?_) (fun K=>?_)
 ·have aX:=K
  (try simp only[V.ah,ne_eq] at aX)
  refine aN ?_;refine ei ot w5 ?_;refine ag ?_;refine ae ?_;refine ak [2] ?_;refine aD ?_;refine bf ?_;refine⟨vi ?_,rfl⟩;unfold eJ;simp_all
 have aX:=K
 (try simp only[V.ah,ne_eq] at aX)
 refine aR ?_;refine aa az ?_;refine ae ?_;refine ak [7] ?_;refine aI ot (fun M=>?_) (fun M=>?_)
 ·have bn:=M
  (try simp only[V.ah,ne_eq] at bn)
  refine ag ?_;refine ae ?_;refine ak [2] ?_;refine aD ?_;refine bf ?_;refine⟨vi ?_,rfl⟩;unfold eJ;simp_all
 have bn:=M
 (try simp only[V.ah,ne_eq] at bn)
 refine aN ?_;refine ag ?_;refine ae ?_;refine ak [2] ?_;refine aD ?_;refine bf ?_;refine⟨vi ?_,rfl⟩;unfold eJ;simp_all
theorem zR : ∀ w, ((#[{ name := "Kind", type := 3, offset := 0, embedded := false, tag := "", pkgPath := "", byteOffset := 0 }, { name := "Int", type := 3, offset := 1, embedded := false, tag := "", pkgPath := "", byteOffset := 8 }, { name := "Text", type := 9, offset := 2, embedded := false, tag := "", pkgPath := "", byteOffset := 16 }] : Array Field).mapM fun f => do pure (f.offset, ← sizeOf f.type) : Sem (Array (Nat × Nat))).run Tryd.prog w = .ok #[(0, 1), (1, 1), (2, 1)] w := fun w => by simp [sizeOf3, sizeOf9]
theorem wS(hm:(0,marksC)∈G)(hw:(2,wordsC)∈G)(l:List aT)(hs:∀o∈l,o.nm.size<=maxLen):VP Tryd.prog G 53 [ap 5 cO l] (aj (ic l)):=by
 refine cL func53 rfl ntmps53 aV fun X0 w0 dM=>?_;have Ec:l.length<=40\/40<l.length:=(by omega)
 refine ag ?_;refine ae ?_;refine ak [0] ?_;refine aA ?_;refine ag ?_;refine ae ?_;refine aa bV ?_;refine aa az ?_;refine ak [0,10] ?_;refine aI ot (fun ax=>?_) (fun ax=>?_)
 ·have ev:=ax
  (try simp only[V.ah,ne_eq] at ev)
  have hf:ic l=10:=if_pos w8;refine ag ?_;refine ae ?_;refine ak [2] ?_;refine aD ?_;refine bf ?_;refine⟨vi ?_,rfl⟩;first|exact hf.symm|(rw[hf,hx,jR aH I j7];done)|(rw[hf,E,if_pos fJ];done)|(rw[hf,E,if_neg fJ];done)
 have ev:=ax
 (try simp only[V.ah,ne_eq] at ev)
 have hf:ic l=eN 0 l:=if_neg w8;have eF:l.length<=40:=(by omega)
 refine aN ?_;refine ag ?_;refine ae ?_;refine ak [0,3] ?_;refine aA ?_;refine ag ?_;refine ae ?_;refine aa bV ?_;refine ae ?_;refine ak [3,11,12,13] ?_;refine bO ?_;refine ed (fun (gA:Nat×Int) cz=>match gA with|(i,h)=>(i<=l.length)/\(eN 0 l=eN h (l.drop i))/\(0<=h)/\(h<=i)/\cz=(⟨73,[(3,aj h),(11,ap 5 cO l),(12,aj l.length),(13,aj (i:Nat))],[]⟩:St)) (fun (gA:Nat×Int)=>match gA with|(i,h)=>l.length-i) (0,0) ⟨(Nat.zero_le _),rfl,(Int.le_refl _),(Int.le_refl _),rfl⟩ (Wk.bz rfl c5 fw) ?_;rintro⟨i,h⟩ _ ⟨hi,hx,h0,hh,rfl⟩;refine ag ?_;refine aa az ?_;refine ak [3,11,12,13,14] ?_;refine aA ?_;refine aI ot (fun bW=>?_) (fun bW=>?_)
 ·have dL:=bW
  (try simp only[V.ah,ne_eq] at dL)
  have aH:i<l.length:=(by omega)
  have Ed:=pF l[i].k;refine aN ?_;refine aA ?_;refine bO ?_;refine ag ?_;refine aa (di 5) ?_;refine aa (jc [_,_,_,_,_]) ?_;refine ep (ds:=[_,_,_,_,_]) av rfl rfl zeroValue41 rfl (fun M=>?_);refine bq 0 [_,_,_,_,_] sizeOf41 ?_;refine aF [(3,_),(5,_),(11,_),(12,_),(13,_)] [⟨M,41,5,[_,_,_,_,_]⟩] ?_;refine aA ?_;refine ag ?_;refine aa (aq 0) ?_;refine aa (aC 0) ?_;refine aa az ?_;refine ae ?_;refine cM (t:=20) lk (fun sL=>?_) (fun sL=>?_)
  ·have O:=sL;(try simp only[V.ah,ne_eq] at O)
   refine an ?_;refine an ?_;refine an ?_;refine aa bZ ?_;refine ak [3,5,11,12,13,24] ?_;refine ei ot w5 ?_;have I:eY h l[i]=2:=(by unfold eY;rw[if_pos w8])
   refine ag ?_;refine ae ?_;refine ak [2] ?_;refine aD ?_;refine bf ?_;refine⟨vi ?_,rfl⟩;first|exact hf.symm|(rw[hf,hx,jR aH I j7];done)|(rw[hf,E,if_pos fJ];done)|(rw[hf,E,if_neg fJ];done)
  have O:=sL;(try simp only[V.ah,ne_eq] at O)
  refine aa (aq 0) ?_;refine aa (aC 0) ?_;refine aa az ?_;refine aa bt ?_;refine ak [3,5,11,12,13,24] ?_;refine aI ot (fun ck=>?_) (fun ck=>?_)
  ·have aX:=ck
   (try simp only[V.ah,ne_eq] at aX)
   have I:eY h l[i]=2:=(by unfold eY;rw[if_pos w8])
   refine ag ?_;refine ae ?_;refine ak [2] ?_;refine aD ?_;refine bf ?_;refine⟨vi ?_,rfl⟩;first|exact hf.symm|(rw[hf,hx,jR aH I j7];done)|(rw[hf,E,if_pos fJ];done)|(rw[hf,E,if_neg fJ];done)
  have aX:=ck
  (try simp only[V.ah,ne_eq] at aX)
  have m3:¬(l[i].k<1\/l[i].k>11):=(by omega)
  refine aN ?_;refine aA ?_;refine ag ?_;refine aa (aq 1) ?_;refine aa (dF 0 [_,_,_]) ?_;refine bK call62 (vC l[i].v) ?_;refine ae ?_;refine aF [(3,_),(5,_),(6,_),(11,_),(12,_),(13,_)] [⟨M,41,5,[_,_,_,_,_]⟩] ?_;refine ag ?_;refine ae ?_;refine aa az ?_;refine ak [3,5,6,11,12,13,29] ?_;refine aI ot (fun cx=>?_) (fun cx=>?_)
  ·have bn:=cx
   (try simp only[V.ah,ne_eq] at bn)
   have N:fF l[i].v≠0:=(by simpa using cx)
   have I:eY h l[i]=fF l[i].v:=(by unfold eY;rw[if_neg m3,if_pos N])
   refine ag ?_;refine ae ?_;refine ae ?_;refine ak [2] ?_;refine aD ?_;refine bf ?_;refine⟨vi ?_,rfl⟩;first|exact hf.symm|(rw[hf,hx,jR aH I j7];done)|(rw[hf,E,if_pos fJ];done)|(rw[hf,E,if_neg fJ];done)
  have bn:=cx
  (try simp only[V.ah,ne_eq] at bn)
  have N:fF l[i].v=0:=(by simpa using cx)
  refine aN ?_;refine aA ?_;refine jX (fun cz=>∃(q:Bool),(q=((l[i].k != 1 && !(zeroV l[i].v))||(l[i].k != 2 && !(l[i].nm.toList==(⟨#[]⟩:ByteArray).toList))))/\cz=(⟨73,[(3,aj h),(5,bE M),(11,ap 5 cO l),(12,aj l.length),(13,aj (i:Nat)),(49,bI q)],[⟨M,41,5,[aj l[i].k,aj l[i].v.k,aj l[i].v.n,bH l[i].v.s,bH l[i].nm]⟩]⟩:St)) ?_ ?_
  ·refine aR ?_;refine aa (aq 0) ?_;refine aa (aC 0) ?_;refine aa az ?_;refine ae ?_;refine cM (t:=34) lk (fun sM=>?_) (fun sM=>?_)
   ·have U:=sM;(try simp only[V.ah,ne_eq] at U)
    refine aa (aq 1) ?_;refine aa (dF 0 [_,_,_]) ?_;refine iT de rfl (ct (pl:=[]) (ds:=[_,_,_]) rfl zeroValue23 runUnderlying23 zR trivial rfl rfl) ?_;refine iT de rfl (vN (us:=[_,_,_]) (jE:=[_,_,_]) rfl ot ot eqGuardType23 (nJ l[i].v ⟨0,0,⟨#[]⟩⟩)) ?_;refine aa bZ ?_;refine ae ?_;refine cM (t:=40) lk (fun sN=>?_) (fun sN=>?_)
    ·have Y:=sN;(try simp only[V.ah,ne_eq] at Y)
     refine an ?_;refine an ?_;refine an ?_;refine an ?_;refine k8 ?_;refine k8 ?_;refine k8 ?_;refine an ?_;refine aa bZ ?_;refine aF [(3,_),(5,_),(11,_),(12,_),(13,_),(49,_)] [⟨M,41,5,[_,_,_,_,_]⟩] ?_;refine⟨(⟨73,[(3,aj h),(5,bE M),(11,ap 5 cO l),(12,aj l.length),(13,aj (i:Nat)),(49,bI (_))],[⟨M,41,5,[aj l[i].k,aj l[i].v.k,aj l[i].v.n,bH l[i].v.s,bH l[i].nm]⟩]⟩:St),Wk.bz (n:=73) rfl c5 fw,_,oh,rfl⟩
    have Y:=sN;(try simp only[V.ah,ne_eq] at Y)
    refine aa (aq 0) ?_;refine aa (aC 0) ?_;refine aa az ?_;refine ae ?_;refine cM (t:=44) lk (fun K=>?_) (fun K=>?_)
    ·have J:=K;(try simp only[V.ah,ne_eq] at J)
     refine aa (aq 4) ?_;refine aa (aC 0) ?_;refine aa az ?_;refine aa bZ ?_;refine aa bt ?_;refine aF [(3,_),(5,_),(11,_),(12,_),(13,_),(49,_)] [⟨M,41,5,[_,_,_,_,_]⟩] ?_;refine⟨(⟨73,[(3,aj h),(5,bE M),(11,ap 5 cO l),(12,aj l.length),(13,aj (i:Nat)),(49,bI (_))],[⟨M,41,5,[aj l[i].k,aj l[i].v.k,aj l[i].v.n,bH l[i].v.s,bH l[i].nm]⟩]⟩:St),Wk.bz (n:=73) rfl c5 fw,_,oh,rfl⟩
    have J:=K;(try simp only[V.ah,ne_eq] at J)
    refine an ?_;refine an ?_;refine an ?_;refine aa bt ?_;refine aa bt ?_;refine aF [(3,_),(5,_),(11,_),(12,_),(13,_),(49,_)] [⟨M,41,5,[_,_,_,_,_]⟩] ?_;refine⟨(⟨73,[(3,aj h),(5,bE M),(11,ap 5 cO l),(12,aj l.length),(13,aj (i:Nat)),(49,bI (_))],[⟨M,41,5,[aj l[i].k,aj l[i].v.k,aj l[i].v.n,bH l[i].v.s,bH l[i].nm]⟩]⟩:St),Wk.bz (n:=73) rfl c5 fw,_,oh,rfl⟩
   have U:=sM;(try simp only[V.ah,ne_eq] at U)
   refine an ?_;refine an ?_;refine an ?_;refine an ?_;refine aa bt ?_;refine ae ?_;refine aa (aq 0) ?_;refine aa (aC 0) ?_;refine aa az ?_;refine ae ?_;refine cM (t:=44) lk (fun K=>?_) (fun K=>?_)
   ·have J:=K;(try simp only[V.ah,ne_eq] at J)
    refine aa (aq 4) ?_;refine aa (aC 0) ?_;refine aa az ?_;refine aa bZ ?_;refine aa bt ?_;refine ak [3,5,11,12,13,49] ?_;refine⟨(⟨73,[(3,aj h),(5,bE M),(11,ap 5 cO l),(12,aj l.length),(13,aj (i:Nat)),(49,bI (_))],[⟨M,41,5,[aj l[i].k,aj l[i].v.k,aj l[i].v.n,bH l[i].v.s,bH l[i].nm]⟩]⟩:St),Wk.bz (n:=73) rfl c5 fw,_,oh,rfl⟩
   have J:=K;(try simp only[V.ah,ne_eq] at J)
   refine an ?_;refine an ?_;refine an ?_;refine aa bt ?_;refine aa bt ?_;refine ak [3,5,11,12,13,49] ?_;refine⟨(⟨73,[(3,aj h),(5,bE M),(11,ap 5 cO l),(12,aj l.length),(13,aj (i:Nat)),(49,bI (_))],[⟨M,41,5,[aj l[i].k,aj l[i].v.k,aj l[i].v.n,bH l[i].v.s,bH l[i].nm]⟩]⟩:St),Wk.bz (n:=73) rfl c5 fw,_,oh,rfl⟩
  rintro _ ⟨q,hq,rfl⟩;refine aI ot (fun cm=>?_) (fun cm=>?_)
  ·have bJ:=cm
   (try simp only[V.ah,ne_eq] at bJ)
   have I:eY h l[i]=6:=(by unfold eY;rw[if_neg m3,if_neg (by rw[N];simp),if_pos (by rw[<-hq];exact cm)])
   refine ag ?_;refine ae ?_;refine ak [2] ?_;refine aD ?_;refine bf ?_;refine⟨vi ?_,rfl⟩;first|exact hf.symm|(rw[hf,hx,jR aH I j7];done)|(rw[hf,E,if_pos fJ];done)|(rw[hf,E,if_neg fJ];done)
  have bJ:=cm
  (try simp only[V.ah,ne_eq] at bJ)
  have Z:¬((l[i].k != 1 && !(zeroV l[i].v))||(l[i].k != 2 && !(l[i].nm.toList==(⟨#[]⟩:ByteArray).toList)))=true:=(by rw[<-hq,cm];simp)
  refine aN ?_;refine jX (fun cz=>(¬(l[i].k=2/\cH l[i].nm≠0))/\cz=(⟨73,[(3,aj h),(5,bE M),(11,ap 5 cO l),(12,aj l.length),(13,aj (i:Nat))],[⟨M,41,5,[aj l[i].k,aj l[i].v.k,aj l[i].v.n,bH l[i].v.s,bH l[i].nm]⟩]⟩:St)) ?_ ?_
  ·refine ag ?_;refine aa (aq 0) ?_;refine aa (aC 0) ?_;refine aa az ?_;refine ak [3,5,11,12,13,52] ?_;refine aI ot (fun c7=>?_) (fun c7=>?_)
   ·have bA:=c7
    (try simp only[V.ah,ne_eq] at bA)
    refine ag ?_;refine aa (aq 4) ?_;refine aa (aC 0) ?_;refine bK call33 (jo hm hw l[i].nm (hs _ (getElem_mem aH))) ?_;refine ae ?_;refine aF [(3,_),(5,_),(7,_),(11,_),(12,_),(13,_)] [⟨M,41,5,[_,_,_,_,_]⟩] ?_;refine ag ?_;refine ae ?_;refine aa az ?_;refine ak [3,5,7,11,12,13,57] ?_;refine aI ot (fun dk=>?_) (fun dk=>?_)
    ·have fu:=dk
     (try simp only[V.ah,ne_eq] at fu)
     have qz:cH l[i].nm≠0:=(by simpa using dk)
     have I:eY h l[i]=cH l[i].nm:=(by unfold eY;rw[if_neg m3,if_neg (by rw[N];simp),if_neg Z,if_pos ⟨by simpa using c7,qz⟩])
     refine ag ?_;refine ae ?_;refine ae ?_;refine ak [2] ?_;refine aD ?_;refine bf ?_;refine⟨vi ?_,rfl⟩;first|exact hf.symm|(rw[hf,hx,jR aH I j7];done)|(rw[hf,E,if_pos fJ];done)|(rw[hf,E,if_neg fJ];done)
    have fu:=dk
    (try simp only[V.ah,ne_eq] at fu)
    have jG:¬(l[i].k=2/\cH l[i].nm≠0):=(by simp at dk;simp[dk])
    refine aN ?_;refine⟨_,?_,jG,rfl⟩;exact Wk.bz (n:=73) rfl c5 fw
   have bA:=c7
   (try simp only[V.ah,ne_eq] at bA)
   have jG:¬(l[i].k=2/\cH l[i].nm≠0):=(by simp at c7;simp[c7])
   refine aN ?_;refine⟨_,?_,jG,rfl⟩;exact Wk.bz (n:=73) rfl c5 fw
  rintro _ ⟨jG,rfl⟩;refine aA ?_;refine ag ?_;refine ae ?_;refine aa (aq 0) ?_;refine aa (aC 0) ?_;refine bK call58 (r7 l[i].k) ?_;refine aa az ?_;refine aF [(3,_),(5,_),(11,_),(12,_),(13,_),(63,_)] [⟨M,41,5,[_,_,_,_,_]⟩] ?_;refine aI ot (fun fy=>?_) (fun fy=>?_)
  ·have lU:=fy
   (try simp only[V.ah,ne_eq] at lU)
   have ur:h<eJ l[i].k:=(by simpa using fy)
   have I:eY h l[i]=7:=(by unfold eY;rw[if_neg m3,if_neg (by rw[N];simp),if_neg Z,if_neg jG,if_pos ur])
   refine ag ?_;refine ae ?_;refine ak [2] ?_;refine aD ?_;refine bf ?_;refine⟨vi ?_,rfl⟩;first|exact hf.symm|(rw[hf,hx,jR aH I j7];done)|(rw[hf,E,if_pos fJ];done)|(rw[hf,E,if_neg fJ];done)
  have lU:=fy
  (try simp only[V.ah,ne_eq] at lU)
  have ur:¬h<eJ l[i].k:=(by simpa using fy)
  have gF:eY h l[i]=0:=(by unfold eY;rw[if_neg m3,if_neg (by rw[N];simp),if_neg Z,if_neg jG,if_neg ur])
  refine aN ?_;refine aR ?_;refine ae ?_;refine aa (aq 0) ?_;refine aa (aC 0) ?_;refine bK call58 (r7 l[i].k) ?_;refine aa az ?_;refine aa az ?_;refine ae ?_;refine aF [(3,_),(11,_),(12,_),(13,_)] [⟨M,41,5,[_,_,_,_,_]⟩] ?_;refine aR ?_;refine aa az ?_;refine ae ?_;refine ak [3,11,12,13] ?_;refine⟨((i+1),(h+(1-eJ l[i].k))),_,?_,?_,w8,(by rw[hx];exact wh aH gF),w8,(by have:=pF l[i].k;omega),rfl⟩
  ·first|omega|(simp only[];omega)
  exact Wk.bz (n:=73) rfl c5 fw
 have dL:=bW
 (try simp only[V.ah,ne_eq] at dL)
 have E:=hx.trans (vS (show l.length<=i by omega));refine dJ ?_;refine aA ?_;refine ag ?_;refine ae ?_;refine aa az ?_;refine ak [72] ?_;refine aI ot (fun fK=>?_) (fun fK=>?_)
 ·have iW:=fK
  (try simp only[V.ah,ne_eq] at iW)
  refine ag ?_;refine ae ?_;refine ak [2] ?_;refine aD ?_;refine bf ?_;refine⟨vi ?_,rfl⟩;first|exact hf.symm|(rw[hf,hx,jR aH I j7];done)|(rw[hf,E,if_pos fJ];done)|(rw[hf,E,if_neg fJ];done)
 have iW:=fK
 (try simp only[V.ah,ne_eq] at iW)
 refine aN ?_;refine ag ?_;refine ae ?_;refine ak [2] ?_;refine aD ?_;refine bf ?_;refine⟨vi ?_,rfl⟩;first|exact hf.symm|(rw[hf,hx,jR aH I j7];done)|(rw[hf,E,if_pos fJ];done)|(rw[hf,E,if_neg fJ];done)
end Nm
namespace Pa
open List
open Go.Proofs.Tryd
open Go.RowKit V Pk Vl Go.Proofs.YtmapbfkhggjgeaaDoor.Nm
variable {E:List ByteArray} {l:List Tk} {p:Nat} {k:Int} {s:ByteArray}
structure dc where
 n:ByteArray
 k:Int
def cC(c:dc):List D:=[bH c.n,aj c.k]
theorem fj(c:dc):(cC c).length=2:=rfl
theorem BU(c:dc):(cC c).all V.one=true:=rfl
inductive Rs (α:Type) where
 | ok (v:α) (p:Nat) (ops:List aT)
 | no (p:Nat) (e:Int)
 | stuck
def Rs.bind{α β:Type}(r:Rs α)(f:α->Nat->List aT->Rs β):Rs β:=match r with
 | .ok v p ops=>f v p ops
 | .no p e=>.no p e
 | .stuck=>.stuck
def aE(l:List Tk)(p:Nat)(k:Int)(s:ByteArray):Bool:=if h:p<l.length then (l[p].k==k)&&cj l[p].s s else false
def gv{α:Type}(l:List Tk)(p:Nat)(e:Int):Rs α:=.no p (if l.length<=p then 7 else e)
def dw(l:List Tk):List ByteArray->Nat->List aT->Rs Unit
 | [],p,ops=>.ok () p ops
 | s::r,p,ops=>if aE l p 1 s=true then dw l r (p+1) ops else gv l p 6
def cE(l:List Tk)(s:ByteArray)(p:Nat)(ops:List aT):Rs Unit:=if aE l p 4 s=true then .ok () (p+1) ops else gv l p 6
def cI(l:List Tk)(p:Nat)(ops:List aT):Rs ByteArray :=
 if h:p<l.length then (if l[p].k≠1 then gv l p 6 else if cH l[p].s≠0 then gv l p (cH l[p].s) else .ok l[p].s (p+1) ops) else gv l p 6
def js:ByteArray:=⟨#[78,85,76,76]⟩
def nK:ByteArray:=⟨#[84,82,85,69]⟩
def nE:ByteArray:=⟨#[70,65,76,83,69]⟩
def eb(l:List Tk)(p:Nat)(ops:List aT):Rs (Vl×Bool) :=
 if aE l p 1 js=true then .ok (e7,true) (p+1) ops
 else if aE l p 1 nK=true then .ok (⟨1,1,⟨#[]⟩⟩,true) (p+1) ops
 else if aE l p 1 nE=true then .ok (⟨1,0,⟨#[]⟩⟩,true) (p+1) ops
 else if h:p<l.length/\(l.getD p ⟨0,⟨#[]⟩,0⟩).k=3 then (if (l[p]'h.1).s.size>20 then gv l p 1 else .ok (⟨3,0,(l[p]'h.1).s⟩,true) (p+1) ops)
 else if aE l p 4 ⟨#[45]⟩=true then (if h:p+1<l.length/\(l.getD (p+1) ⟨0,⟨#[]⟩,0⟩).k=2 then .ok (⟨2,-(l[p+1]'h.1).n,⟨#[]⟩⟩,true) (p+2) ops else gv l (p+1) 6)
 else if h:p<l.length/\(l.getD p ⟨0,⟨#[]⟩,0⟩).k=2 then .ok (⟨2,(l[p]'h.1).n,⟨#[]⟩⟩,true) (p+1) ops
 else .ok (e7,false) p ops
def bM(l:List Tk)(o:aT)(p:Nat)(ops:List aT):Rs Unit:=if ops.length=40 then gv l (p-1) 10 else .ok () p (ops++[o])
def bU(k:Int):aT:=⟨k,e7,⟨#[]⟩⟩
inductive Lv where
 | fG|prod|fY|sum|eS|comp|not|and|ga|or|gi
def c9:List (ByteArray×Int×Bool×Bool):=[(⟨#[61]⟩,6,false,false),(⟨#[60,62]⟩,6,false,true),(⟨#[60]⟩,7,false,false),(⟨#[62]⟩,7,true,false),(⟨#[62,61]⟩,7,false,true),(⟨#[60,61]⟩,7,true,true)]
def eC(ops:List aT)(from_ mid:Nat):List aT:=ops.take from_++ops.drop mid++(ops.take mid).drop from_
def aQ(l:List Tk):Nat->Lv->Nat->List aT->Rs Unit
 | 0,_,_,_=>.stuck
 | n+1,.fG,p,ops=>(eb l p ops).bind fun v p ops=>if v.2=true then bM l ⟨1,v.1,⟨#[]⟩⟩ p ops
   else if aE l p 4 ⟨#[40]⟩=true then (aQ l n .or (p+1) ops).bind fun _ p ops=>cE l ⟨#[41]⟩ p ops
   else (cI l p ops).bind fun s p ops=>bM l ⟨2,e7,s⟩ p ops
 | n+1,.prod,p,ops=>(aQ l n .fG p ops).bind fun _ p ops=>aQ l n .fY p ops
 | n+1,.fY,p,ops=>if aE l p 4 ⟨#[42]⟩=true then (aQ l n .fG (p+1) ops).bind fun _ p ops=>(bM l (bU 10) p ops).bind fun _ p ops=>aQ l n .fY p ops else .ok () p ops
 | n+1,.sum,p,ops=>(aQ l n .prod p ops).bind fun _ p ops=>aQ l n .eS p ops
 | n+1,.eS,p,ops=>if aE l p 4 ⟨#[43]⟩=true then (aQ l n .prod (p+1) ops).bind fun _ p ops=>(bM l (bU 8) p ops).bind fun _ p ops=>aQ l n .eS p ops
   else if aE l p 4 ⟨#[45]⟩=true then (aQ l n .prod (p+1) ops).bind fun _ p ops=>(bM l (bU 9) p ops).bind fun _ p ops=>aQ l n .eS p ops
   else .ok () p ops
 | n+1,.comp,p,ops=>(aQ l n .sum p ops).bind fun _ p1 ew =>
   if aE l p1 1 ⟨#[73,83]⟩=true then (dw l [js] (if aE l (p1+1) 1 ⟨#[78,79,84]⟩=true then p1+2 else p1+1) ew).bind fun _ p2 j2 =>
    (bM l (bU 11) p2 j2).bind fun _ p3 gB=>if aE l (p1+1) 1 ⟨#[78,79,84]⟩=true then bM l (bU 5) p3 gB else .ok () p3 gB
   else match c9.find? fun m=>aE l p1 4 m.1 with
    | none=>.ok () p1 ew
    | some m=>(aQ l n .sum (p1+1) ew).bind fun _ p2 j2=>(bM l (bU m.2.1) p2 (if m.2.2.1=true then eC j2 ops.length ew.length else j2)).bind fun _ p3 gB=>if m.2.2.2=true then bM l (bU 5) p3 gB else .ok () p3 gB
 | n+1,.not,p,ops=>if aE l p 1 ⟨#[78,79,84]⟩=true then (aQ l n .not (p+1) ops).bind fun _ p ops=>bM l (bU 5) p ops else aQ l n .comp p ops
 | n+1,.and,p,ops=>(aQ l n .not p ops).bind fun _ p ops=>aQ l n .ga p ops
 | n+1,.ga,p,ops=>if aE l p 1 ⟨#[65,78,68]⟩=true then (aQ l n .not (p+1) ops).bind fun _ p ops=>(bM l (bU 3) p ops).bind fun _ p ops=>aQ l n .ga p ops else .ok () p ops
 | n+1,.or,p,ops=>(aQ l n .and p ops).bind fun _ p ops=>aQ l n .gi p ops
 | n+1,.gi,p,ops=>if aE l p 1 ⟨#[79,82]⟩=true then (aQ l n .and (p+1) ops).bind fun _ p ops=>(bM l (bU 4) p ops).bind fun _ p ops=>aQ l n .gi p ops else .ok () p ops
structure cc where
 kind:Int
 table:ByteArray
 b9:List dc
 row:List Vl
 names:List ByteArray
 count:Bool
 bw:List aT
 order:ByteArray
 down:Bool
 ea:Int
 set:ByteArray
 cN:List aT
def bT:cc:=⟨0,⟨#[]⟩,[],[],[],false,[],⟨#[]⟩,false,-1,⟨#[]⟩,[]⟩
def iH(l:List Tk)(p:Nat):Rs (List aT):=(aQ l (12*l.length+24) .or p []).bind fun _ p ops=>.ok ops p ops
def eM(l:List Tk)(p:Nat)(ops:List aT):Rs (List aT):=if aE l p 1 ⟨#[87,72,69,82,69]⟩=true then iH l (p+1) else .ok [] p ops
def dA(l:List Tk)(p:Nat):Int:=if aE l p 1 ⟨#[84,69,88,84]⟩=true then 3 else if aE l p 1 ⟨#[73,78,84]⟩=true then 2 else if aE l p 1 ⟨#[66,79,79,76]⟩=true then 1 else 0
def iI(l:List Tk):Nat->List dc->Nat->List aT->Rs (List dc)
 | 0,_,_,_=>.stuck
 | n+1,out,p,ops=>if out.length=6 then gv l p 10 else (cI l p ops).bind fun s p1 ew =>
   if (out.any fun c=>cj c.n s)=true then gv l (p1-1) 9 else if dA l p1=0 then gv l p1 6
   else if aE l (p1+1) 4 ⟨#[44]⟩=true then iI l n (out++[⟨s,dA l p1⟩]) (p1+2) ew
   else (cE l ⟨#[41]⟩ (p1+1) ew).bind fun _ p3 gB=>.ok (out++[⟨s,dA l p1⟩]) p3 gB
def iX(l:List Tk):Nat->List Vl->Nat->List aT->Rs (List Vl)
 | 0,_,_,_=>.stuck
 | n+1,out,p,ops=>if out.length=6 then gv l p 10 else (eb l p ops).bind fun v p1 ew =>
   if v.2=false then gv l p1 6
   else if aE l p1 4 ⟨#[44]⟩=true then iX l n (out++[v.1]) (p1+1) ew
   else (cE l ⟨#[41]⟩ p1 ew).bind fun _ p3 gB=>.ok (out++[v.1]) p3 gB
def fW(l:List Tk):Nat->List ByteArray->Nat->List aT->Rs (List ByteArray)
 | 0,_,_,_=>.stuck
 | n+1,out,p,ops=>if out.length=6 then gv l p 10 else (cI l p ops).bind fun s p1 ew =>
   if aE l p1 4 ⟨#[44]⟩=true then fW l n (out++[s]) (p1+1) ew else .ok (out++[s]) p1 ew
def lR(l:List Tk)(p:Nat)(ops:List aT):Rs (List ByteArray×Bool) :=
 if aE l p 4 ⟨#[42]⟩=true then .ok ([],false) (p+1) ops
 else if aE l p 1 ⟨#[67,79,85,78,84]⟩=true then (cE l ⟨#[40]⟩ (p+1) ops).bind fun _ p ops=>(cE l ⟨#[42]⟩ p ops).bind fun _ p ops=>(cE l ⟨#[41]⟩ p ops).bind fun _ p ops=>.ok ([],true) p ops
 else (fW l 8 [] p ops).bind fun ns p ops=>.ok (ns,false) p ops
def sO(l:List Tk)(s:cc)(p:Nat)(ops:List aT):Rs cc :=
 if aE l p 1 ⟨#[79,82,68,69,82]⟩=true then (dw l [⟨#[66,89]⟩] (p+1) ops).bind fun _ p ops=>(cI l p ops).bind fun n p ops=>.ok {s with order:=n,down:=aE l p 1 ⟨#[68,69,83,67]⟩} (if aE l p 1 ⟨#[68,69,83,67]⟩=true then p+1 else p) ops else .ok s p ops
def iK(l:List Tk)(s:cc)(p:Nat)(ops:List aT):Rs cc :=
 if aE l p 1 ⟨#[76,73,77,73,84]⟩=true then (if h:p+1<l.length/\(l.getD (p+1) ⟨0,⟨#[]⟩,0⟩).k=2 then .ok {s with ea:=(l[p+1]'h.1).n} (p+2) ops else gv l (p+1) 6) else .ok s p ops
def lS(l:List Tk)(s:cc)(p:Nat)(ops:List aT):Rs cc:=(sO l s p ops).bind (iK l)
def dN(l:List Tk)(h:List ByteArray×Bool)(p:Nat)(ops:List aT):Rs cc:=(dw l [⟨#[70,82,79,77]⟩] p ops).bind fun _ p ops=>(cI l p ops).bind fun t p ops=>(eM l p ops).bind fun w p ops =>
 lS l {bT with kind:=4,names:=h.1,count:=h.2,table:=t,bw:=w} p ops
def sy(l:List Tk)(p:Nat)(ops:List aT):Rs cc:=(lR l p ops).bind (dN l)
def nL(l:List Tk)(p:Nat)(ops:List aT):Rs (List dc):=(cE l ⟨#[40]⟩ p ops).bind fun _ p ops=>iI l 8 [] p ops
def mI(l:List Tk)(p:Nat)(ops:List aT):Rs (List Vl):=(cE l ⟨#[40]⟩ p ops).bind fun _ p ops=>iX l 8 [] p ops
def fR(l:List Tk)(p:Nat)(ops:List aT):Rs cc :=
 if aE l p 1 ⟨#[67,82,69,65,84,69]⟩=true then (dw l [⟨#[84,65,66,76,69]⟩] (p+1) ops).bind fun _ p ops=>(cI l p ops).bind fun t p ops=>(nL l p ops).bind fun c p ops=>.ok {bT with kind:=1,table:=t,b9:=c} p ops
 else if aE l p 1 ⟨#[68,82,79,80]⟩=true then (dw l [⟨#[84,65,66,76,69]⟩] (p+1) ops).bind fun _ p ops=>(cI l p ops).bind fun t p ops=>.ok {bT with kind:=2,table:=t} p ops
 else if aE l p 1 ⟨#[73,78,83,69,82,84]⟩=true then (dw l [⟨#[73,78,84,79]⟩] (p+1) ops).bind fun _ p ops=>(cI l p ops).bind fun t p ops=>(dw l [⟨#[86,65,76,85,69,83]⟩] p ops).bind fun _ p ops=>(mI l p ops).bind fun r p ops=>.ok {bT with kind:=3,table:=t,row:=r} p ops
 else if aE l p 1 ⟨#[83,69,76,69,67,84]⟩=true then sy l (p+1) ops
 else if aE l p 1 ⟨#[85,80,68,65,84,69]⟩=true then (cI l (p+1) ops).bind fun t p ops=>(dw l [⟨#[83,69,84]⟩] p ops).bind fun _ p ops=>(cI l p ops).bind fun c p ops=>(cE l ⟨#[61]⟩ p ops).bind fun _ p ops=>(iH l p).bind fun e p ops=>(eM l p ops).bind fun w p ops=>.ok {bT with kind:=5,table:=t,set:=c,cN:=e,bw:=w} p ops
 else if aE l p 1 ⟨#[68,69,76,69,84,69]⟩=true then (dw l [⟨#[70,82,79,77]⟩] (p+1) ops).bind fun _ p ops=>(cI l p ops).bind fun t p ops=>(eM l p ops).bind fun w p ops=>.ok {bT with kind:=6,table:=t,bw:=w} p ops
 else if aE l p 1 ⟨#[66,69,71,73,78]⟩=true then .ok {bT with kind:=7} (p+1) ops
 else if aE l p 1 ⟨#[67,79,77,77,73,84]⟩=true then .ok {bT with kind:=8} (p+1) ops
 else if aE l p 1 ⟨#[82,79,76,76,66,65,67,75]⟩=true then .ok {bT with kind:=9} (p+1) ops
 else gv l p 6
def iO:cc:={bT with ea:=0}
def dR:List Tk->Nat->Option (Nat×Int)
 | [],_=>none
 | t::r,i=>if cP t=0 then dR r (i+1) else some (i,cP t)
def fk(l:List Tk):cc×Nat×Int :=
 if l.length>100 then (iO,0,10)
 else match dR l 0 with
  | some (i,e)=>(iO,i,e)
  | none=>match (fR l 0 []).bind fun s p ops=>if p<l.length then gv l p 6 else .ok s p ops with
   | .ok s _ _=>(s,0,0)
   | .no p e=>(iO,p,e)
   | .stuck=>(iO,0,0)
variable {G:List (Nat×List Value)}
theorem cr(S:List ay):S.Perm (S++[]):=by rw[append_nil]
def jH(p:Nat)(e:Int):List PanicEntry:=[{v:=.iface 46 (.agg #[.int .i64 (p:Nat),.int .i64 e]),recovered:=false}]
theorem wi{w:World}{L:Nat->Prop}:∀{vs us:List Value},bY w L (vs.map D.v) us->us=vs
 | [],[],_=>rfl
 | [],u::us,h=>by have:=h.1;simp at this
 | v::vs,[],h=>by have:=h.1;simp at this
 | v::vs,u::us,h=>by
  obtain⟨h1,h2⟩:=bY.tail h;rw[h1.eK,wi h2]
theorem vo{P:Program}{x:St}{o:Oper}{t:TypeId}{y:Operand}{vs:List Value}{E:Array Field}(ho:o.op = .makeInterface t y)(hy:aL x y = .agg (vs.map D.v))(I:P.underlying t=some (.struct E)):bG P G x o .none (.v (.iface t (.agg vs.toArray))):=fun C a w _ h=>by
 have he:a.eval y = .agg vs.toArray:=by
  have:=h.eval y;rw[hy] at this;generalize a.eval y=u at this;cases this with
  | agg _ us hl hr=>rw[wi ⟨hl,hr⟩]
 refine⟨_,.v _,fun w' _=>?_⟩;unfold execOp;simp only[ho,Instr.makeInterface,Sem.run_bind,run_underlying I,Result.andThen_ok,Sem.run_pure,he]
theorem mE(h:¬p<l.length):aE l p k s=false:=by unfold aE;rw[dif_neg h]
theorem sA(h:p<l.length):aE l p k s=((l[p].k==k)&&cj l[p].s s):=by unfold aE;rw[dif_pos h]
theorem cf(h:aE l p k s=true):p<l.length:=by
 unfold aE at h;split at h
 ·assumption
 cases h
theorem xy(l:List Tk)(hl:l.length<=100)(p:Nat)(k:Int)(s:ByteArray)(ad:Option Addr)(n cap br:Nat):VC Tryd.prog G 32 [bE br,aj k,bH s] [⟨br,49,3,[ap 3 cT l,aj ((p:Nat):Int),aB ad n cap]⟩] (fun r S'=>r=bI (aE l p k s)/\S'=[⟨br,49,3,[ap 3 cT l,aj ((p:Nat):Int),aB ad n cap]⟩]):=by
 refine cL func32 rfl ntmps32 aV fun N w0 M=>?_;have E:p<l.length\/¬p<l.length:=(by omega)
 refine ag ?_;refine ae ?_;refine ak [0,1,2] ?_;refine aA ?_;refine dB (au _) af (fun _ h=>h) ?_;refine ai 0 rfl aU ?_;refine ai 1 rfl bu ?_;refine ai 2 rfl (aq 1) ?_;refine ai 3 rfl (aC 0) ?_;refine ai 4 rfl aU ?_;refine ai 5 rfl bu ?_;refine ai 6 rfl (aq 0) ?_;refine ai 7 rfl (aC 0) ?_;refine ai 8 rfl bV ?_;refine ai 9 rfl az ?_;refine ai 10 rfl aU ?_;refine bp.split (t:=17) lk (fun eZ=>?_) (fun eZ=>?_)
 ·have I:=eZ;(try simp only[V.ah,ne_eq] at I)
  refine ai 11 rfl aU ?_;refine ai 12 rfl bu ?_;refine ai 13 rfl (aq 0) ?_;refine ai 14 rfl (aC 0) ?_;refine ai 15 rfl aU ?_;refine ai 16 rfl bu ?_;refine ai 17 rfl (aq 1) ?_;refine ai 18 rfl (aC 0) ?_;refine ai 19 rfl (di 3 (h:=by first|exact .l (j:=p) rfl mT|exact .r (j:=p) rfl mT)) ?_;refine ai 20 rfl (aq 0) ?_;refine ai 21 rfl (cn (mk:=Op.load 3) rfl ot (by exact jr (i:=p) cZ isAgg3 mT rfl)) ?_;refine ai 22 rfl aU ?_;refine ai 23 rfl az ?_;refine ai 24 rfl bZ ?_;refine ai 25 rfl aU ?_;refine bp.split (t:=32) lk (fun K=>?_) (fun K=>?_)
  ·have J:=K;(try simp only[V.ah,ne_eq] at J)
   refine ai 26 rfl aU ?_;refine ai 27 rfl bu ?_;refine ai 28 rfl (aq 0) ?_;refine ai 29 rfl (aC 0) ?_;refine ai 30 rfl aU ?_;refine ai 31 rfl bu ?_;refine ai 32 rfl (aq 1) ?_;refine ai 33 rfl (aC 0) ?_;refine ai 34 rfl (di 3 (h:=by first|exact .l (j:=p) rfl mT|exact .r (j:=p) rfl mT)) ?_;refine ai 35 rfl (aq 1) ?_;refine ai 36 rfl (cn (mk:=Op.load 9) rfl ot (by exact jZ (i:=p) (j:=1) cZ isAgg9 mT rfl)) ?_;refine ai 37 rfl aU ?_;refine ai 38 rfl az ?_;refine ai 39 rfl bZ ?_;refine ai 40 rfl aU ?_;refine bp.later rfl ?_;refine bL [(6,_)] [⟨br,49,3,[_,_,_]⟩] ?_;refine bC af ?_;refine aD ?_;refine⟨.inr rfl,_,[_],Sublist.refl _,c8 results32 (dm aV lk),?_⟩;refine⟨vb ?_,rfl⟩;rcases E with E|E
   ·rw[sA E];unfold cj;simp_all
   first|(rw[mE E];done)|(rw[mE E];simp_all)
  have J:=K;(try simp only[V.ah,ne_eq] at J)
  refine bc 26 rfl ?_;refine bc 27 rfl ?_;refine bc 28 rfl ?_;refine bc 29 rfl ?_;refine bc 30 rfl ?_;refine bc 31 rfl ?_;refine bc 32 rfl ?_;refine bc 33 rfl ?_;refine bc 34 rfl ?_;refine bc 35 rfl ?_;refine bc 36 rfl ?_;refine bc 37 rfl ?_;refine bc 38 rfl ?_;refine ai 39 rfl bt ?_;refine ai 40 rfl aU ?_;refine bp.later rfl ?_;refine bL [(6,_)] [⟨br,49,3,[_,_,_]⟩] ?_;refine bC af ?_;refine aD ?_;refine⟨.inr rfl,_,[_],Sublist.refl _,c8 results32 (dm aV lk),?_⟩;refine⟨vb ?_,rfl⟩;rcases E with E|E
  ·rw[sA E];unfold cj;simp_all
  first|(rw[mE E];done)|(rw[mE E];simp_all)
 have I:=eZ;(try simp only[V.ah,ne_eq] at I)
 refine bc 11 rfl ?_;refine bc 12 rfl ?_;refine bc 13 rfl ?_;refine bc 14 rfl ?_;refine bc 15 rfl ?_;refine bc 16 rfl ?_;refine bc 17 rfl ?_;refine bc 18 rfl ?_;refine bc 19 rfl ?_;refine bc 20 rfl ?_;refine bc 21 rfl ?_;refine bc 22 rfl ?_;refine bc 23 rfl ?_;refine ai 24 rfl bt ?_;refine ai 25 rfl aU ?_;refine bc 26 rfl ?_;refine bc 27 rfl ?_;refine bc 28 rfl ?_;refine bc 29 rfl ?_;refine bc 30 rfl ?_;refine bc 31 rfl ?_;refine bc 32 rfl ?_;refine bc 33 rfl ?_;refine bc 34 rfl ?_;refine bc 35 rfl ?_;refine bc 36 rfl ?_;refine bc 37 rfl ?_;refine bc 38 rfl ?_;refine ai 39 rfl bt ?_;refine ai 40 rfl aU ?_;refine bp.later rfl ?_;refine bL [(6,_)] [⟨br,49,3,[_,_,_]⟩] ?_;refine bC af ?_;refine aD ?_;refine⟨.inr rfl,_,[_],Sublist.refl _,c8 results32 (dm aV lk),?_⟩;refine⟨vb ?_,rfl⟩;rcases E with E|E
 ·rw[sA E];unfold cj;simp_all
 first|(rw[mE E];done)|(rw[mE E];simp_all)
theorem dy(l:List Tk)(hl:l.length<=100)(p:Nat)(k:Int)(s:ByteArray)(ad:Option Addr)(n cap br:Nat):VC Tryd.prog G 20 [bE br,aj k,bH s] [⟨br,49,3,[ap 3 cT l,aj ((p:Nat):Int),aB ad n cap]⟩] (fun r S'=>r=bI (aE l p k s)/\S'=[⟨br,49,3,[ap 3 cT l,aj (((if aE l p k s=true then p+1 else p):Nat):Int),aB ad n cap]⟩]):=by
 refine cL func20 rfl ntmps20 aV fun J w0 I=>?_;refine ag ?_;refine ae ?_;refine ak [0,1,2] ?_;refine aA ?_;refine ag ?_;refine ae ?_;refine ae ?_;refine ae ?_;refine cG av rfl rfl rfl call32 (xy l hl p k s ad n cap br) ⟨ot,ot,ot,trivial⟩ (cr _) ?_;rintro _ _ ⟨rfl,rfl⟩;refine aS (S':=[⟨br,49,3,[ap 3 cT l,aj ((p:Nat):Int),aB ad n cap]⟩]) (Perm.refl _) ?_;refine aa en ?_;refine aF [(0,_),(11,_)] [⟨br,49,3,[_,_,_]⟩] ?_;refine aI ot (fun ax=>?_) (fun ax=>?_)
 ·have E:=ax
  (try simp only[V.ah,ne_eq] at E)
  have hf:aE l p k s=false:=(by simpa using ax)
  refine ag ?_;refine ae ?_;refine ak [6] ?_;refine aD ?_;refine⟨.inr rfl,_,[_],Sublist.refl _,c8 results20 (dm aV lk),?_⟩;first|(rw[hf];exact⟨rfl,rfl⟩)|(rw[ht];exact⟨rfl,rfl⟩)
 have E:=ax
 (try simp only[V.ah,ne_eq] at E)
 have ht:aE l p k s=true:=(by simpa using ax)
 have aH:=cf ht;refine aN ?_;refine ag ?_;refine ae ?_;refine aa bu ?_;refine aa (aq 1) ?_;refine aa (aC 0) ?_;refine aa az ?_;refine aa bu ?_;refine aa (aq 1) ?_;refine bq 0 [_,_,_] sizeOf3 ?_;refine aF [] [⟨br,49,3,[_,_,_]⟩] ?_;refine ag ?_;refine ae ?_;refine ak [6] ?_;refine aD ?_;refine⟨.inr rfl,_,[_],Sublist.refl _,c8 results20 (dm aV lk),?_⟩;first|(rw[hf];exact⟨rfl,rfl⟩)|(rw[ht];exact⟨rfl,rfl⟩)
theorem vh : ∀ w, ((#[{ name := "at", type := 3, offset := 0, embedded := false, tag := "", pkgPath := "padlock/parse", byteOffset := 0 }, { name := "e", type := 36, offset := 1, embedded := false, tag := "", pkgPath := "padlock/parse", byteOffset := 8 }] : Array Field).mapM fun f => do pure (f.offset, ← sizeOf f.type) : Sem (Array (Nat × Nat))).run Tryd.prog w = .ok #[(0, 1), (1, 1)] w := fun w => by simp [sizeOf3, sizeOf36]
theorem eV(l:List Tk)(hl:l.length<=100)(p:Nat)(e:Int)(ad:Option Addr)(n cap br:Nat):VX Tryd.prog G 12 [bE br,aj e] [⟨br,49,3,[ap 3 cT l,aj ((p:Nat):Int),aB ad n cap]⟩] (fun _ _=>False) (fun J=>J=jH p (if l.length<=p then 7 else e)):=by
 refine VX.body func12 rfl ntmps12 aV fun M w0 K=>?_;refine aA ?_;refine aA ?_;refine dB (au _) af (fun _ h=>h) ?_;refine ai 0 rfl aU ?_;refine ai 1 rfl bu ?_;refine ai 2 rfl (aq 1) ?_;refine ai 3 rfl (aC 0) ?_;refine ai 4 rfl aU ?_;refine ai 5 rfl bu ?_;refine ai 6 rfl (aq 0) ?_;refine ai 7 rfl (aC 0) ?_;refine ai 8 rfl bV ?_;refine ai 9 rfl az ?_;refine bp.later rfl ?_;refine bL [(0,_),(1,_),(13,_)] [⟨br,49,3,[_,_,_]⟩] ?_;refine bC af ?_;refine aI ot (fun ax=>?_) (fun ax=>?_)
 ·have E:=ax
  (try simp only[V.ah,ne_eq] at E)
  have I:l.length<=p:=(by simp at ax;omega)
  rw[if_pos I];refine aR ?_;refine ae ?_;refine ak [0,1] ?_;refine aR ?_;refine ae ?_;refine aa bu ?_;refine aa (aq 1) ?_;refine aa (aC 0) ?_;refine ae ?_;refine aa (ct (pl:=[(0,_),(1,_)]) (ds:=[_,_]) rfl zeroValue46 runUnderlying46 vh ⟨rfl,ot,rfl,ot,trivial⟩ rfl rfl) ?_;refine aa (vo (vs:=[.int .i64 (p:Nat),.int .i64 _]) rfl ot underlying46) ?_;refine we av rfl ot ?_;exact Or.inr ⟨_,rfl,rfl⟩
 have E:=ax
 (try simp only[V.ah,ne_eq] at E)
 have I:¬l.length<=p:=(by simp at ax;omega)
 rw[if_neg I];refine aN ?_;refine aR ?_;refine ae ?_;refine aa bu ?_;refine aa (aq 1) ?_;refine aa (aC 0) ?_;refine ae ?_;refine aa (ct (pl:=[(0,_),(1,_)]) (ds:=[_,_]) rfl zeroValue46 runUnderlying46 vh ⟨rfl,ot,rfl,ot,trivial⟩ rfl rfl) ?_;refine aa (vo (vs:=[.int .i64 (p:Nat),.int .i64 _]) rfl ot underlying46) ?_;refine we av rfl ot ?_;exact Or.inr ⟨_,rfl,rfl⟩
theorem Aq{i q:Nat}(hi:i<E.length)(ht:aE l q 1 E[i]=true)(ops:List aT):dw l (E.drop i) q ops=dw l (E.drop (i+1)) (q+1) ops:=by
 rw[drop_eq_getElem_cons hi,dw,if_pos ht]
theorem Bi{i q:Nat}(hi:i<E.length)(hf:aE l q 1 E[i]=false)(ops:List aT):dw l (E.drop i) q ops=gv l q 6:=by
 rw[drop_eq_getElem_cons hi,dw,if_neg (by rw[hf];decide)]
theorem jT(l:List Tk)(hl:l.length<=100)(p:Nat)(s:ByteArray)(ad:Option Addr)(n cap br:Nat):VX Tryd.prog G 26 [bE br,bH s] [⟨br,49,3,[ap 3 cT l,aj ((p:Nat):Int),aB ad n cap]⟩] (fun r S'=>aE l p 4 s=true/\S'=[⟨br,49,3,[ap 3 cT l,aj (((p+1):Nat):Int),aB ad n cap]⟩]) (fun I=>aE l p 4 s=false/\I=jH p (if l.length<=p then 7 else 6)):=by
 refine VX.body func26 rfl ntmps26 aV fun K w0 J=>?_;refine ag ?_;refine ae ?_;refine ae ?_;refine cG av rfl rfl rfl call20 (dy l hl p 4 s ad n cap br) ⟨ot,aJ,ot,trivial⟩ (cr _) ?_;rintro _ _ ⟨rfl,rfl⟩;refine aS (S':=[⟨br,49,3,[ap 3 cT l,aj (((if aE l p 4 s=true then p+1 else p):Nat):Int),aB ad n cap]⟩]) (Perm.refl _) ?_;refine aa en ?_;refine aF [(0,_),(7,_)] [⟨br,49,3,[_,_,_]⟩] ?_;refine aI ot (fun ax=>?_) (fun ax=>?_)
 ·have E:=ax
  (try simp only[V.ah,ne_eq] at E)
  have hf:aE l p 4 s=false:=(by simpa using ax)
  rw[hf];simp only[Bool.false_eq_true,if_false];refine aR ?_;refine ae ?_;exact OD.bB av rfl rfl rfl call12 (eV l hl p 6 ad n cap br) ⟨ot,aJ,trivial⟩ (cr _) (fun I aK=>(Or.inr ⟨I,rfl,⟨by first|exact hf|trivial,aK⟩⟩:bD _ _ _ _ _ _)) (fun r S' h=>h.elim)
 have E:=ax
 (try simp only[V.ah,ne_eq] at E)
 have ht:aE l p 4 s=true:=(by simpa using ax)
 rw[ht];simp only[if_true];refine aN ?_;refine Or.inl ?_;refine⟨.inl rfl,_,[_],Sublist.refl _,ej results26,?_⟩;exact⟨by first|exact ht|trivial,rfl⟩
theorem wj(h:l.length<=p)(ops:List aT):cI l p ops=gv l p 6:=by unfold cI;rw[dif_neg w8]
theorem wk(h:p<l.length)(hk:l[p].k≠1)(ops:List aT):cI l p ops=gv l p 6:=by unfold cI;rw[dif_pos h,if_pos hk]
theorem fp(h:p<l.length):l.getD p ⟨0,⟨#[]⟩,0⟩=l[p]:=by rw[getD_eq_getElem?_getD,getElem?_eq_getElem h];rfl
theorem jU(l:List Tk)(hl:l.length<=100)(E:List ByteArray)(Y:E.length<=100)(p:Nat)(ad:Option Addr)(n cap br:Nat):VX Tryd.prog G 21 [bE br,ap 1 cS E] [⟨br,49,3,[ap 3 cT l,aj ((p:Nat):Int),aB ad n cap]⟩] (fun r S'=>∃q,(∀ops,dw l E p ops = .ok () q ops)/\S'=[⟨br,49,3,[ap 3 cT l,aj ((q:Nat):Int),aB ad n cap]⟩]) (fun O=>∃q e,(∀ops,dw l E p ops = .no q e)/\O=jH q e):=by
 refine VX.body func21 rfl ntmps21 aV fun X0 w0 Z=>?_;refine ag ?_;refine ae ?_;refine aa bV ?_;refine ae ?_;refine ak [0,6,7,8] ?_;refine bO ?_;refine ed (fun (I:Nat×Nat) U=>match I with|(i,q)=>(i<=E.length)/\(∀ops,dw l E p ops=dw l (E.drop i) q ops)/\U=(⟨19,[(0,bE br),(6,ap 1 cS E),(7,aj E.length),(8,aj (i:Nat))],[⟨br,49,3,[ap 3 cT l,aj ((q:Nat):Int),aB ad n cap]⟩]⟩:St)) (fun (I:Nat×Nat)=>match I with|(i,q)=>E.length-i) (0,p) ⟨(Nat.zero_le _),(fun ops=>by rw[drop_zero]),rfl⟩ (Wk.bz rfl c5 cD) ?_;rintro⟨i,q⟩ _ ⟨hi,hq,rfl⟩;refine ag ?_;refine aa az ?_;refine ak [0,6,7,8,9] ?_;refine aA ?_;refine aI ot (fun ax=>?_) (fun ax=>?_)
 ·have J:=ax
  (try simp only[V.ah,ne_eq] at J)
  have aH:i<E.length:=(by simp at ax;omega)
  refine aN ?_;refine aA ?_;refine bO ?_;refine ag ?_;refine aa (di 1 (h:=kZ)) ?_;refine aa eA ?_;refine ae ?_;refine ak [0,5,6,7,8] ?_;refine ag ?_;refine ae ?_;refine ae ?_;refine cG av rfl rfl rfl call20 (dy l hl q 1 E[i] ad n cap br) ⟨ot,aJ,ot,trivial⟩ (cr _) ?_;rintro _ _ ⟨rfl,rfl⟩;refine aS (S':=[⟨br,49,3,[ap 3 cT l,aj (((if aE l q 1 E[i]=true then q+1 else q):Nat):Int),aB ad n cap]⟩]) (Perm.refl _) ?_;refine aa en ?_;refine aF [(0,_),(6,_),(7,_),(8,_),(15,_)] [⟨br,49,3,[_,_,_]⟩] ?_;refine aI ot (fun K=>?_) (fun K=>?_)
  ·have M:=K
   (try simp only[V.ah,ne_eq] at M)
   have N:aE l q 1 E[i]=false:=(by simpa using K)
   rw[N];simp only[Bool.false_eq_true,if_false];refine aR ?_;refine ae ?_;exact OD.bB av rfl rfl rfl call12 (eV l hl q 6 ad n cap br) ⟨ot,aJ,trivial⟩ (cr _) (fun O aK=>(Or.inr ⟨O,rfl,⟨q,_,fun ops=>by rw[hq,Bi aH N];rfl,aK⟩⟩:bD _ _ _ _ _ _)) (fun r S' h=>h.elim)
  have M:=K
  (try simp only[V.ah,ne_eq] at M)
  have ht1:aE l q 1 E[i]=true:=(by simpa using K)
  rw[ht1];simp only[if_true];refine aN ?_;refine aR ?_;refine aa az ?_;refine ae ?_;refine ak [0,6,7,8] ?_;refine⟨((i+1),(q+1)),_,?_,?_,w8,(fun ops=>by rw[hq,Aq aH ht1]),rfl⟩
  ·first|omega|(simp only[];omega)
  exact Wk.bz (n:=19) rfl c5 cD
 have J:=ax
 (try simp only[V.ah,ne_eq] at J)
 have iZ:E.length<=i:=(by simp at ax;omega)
 refine dJ ?_;refine Or.inl ?_;refine⟨.inl rfl,_,[_],Sublist.refl _,ej results21,?_⟩;exact⟨q,fun ops=>by rw[hq,drop_of_length_le iZ];rfl,rfl⟩
theorem iB(hm:(0,marksC)∈G)(hw:(2,wordsC)∈G)(l:List Tk)(hl:l.length<=100)(ht:∀t∈l,t.s.size<=maxLen/\(t.k=2->0<=t.n/\t.n<=9223372036854775807))(p:Nat)(ad:Option Addr)(n cap br:Nat):VX Tryd.prog G 22 [bE br] [⟨br,49,3,[ap 3 cT l,aj ((p:Nat):Int),aB ad n cap]⟩] (fun r S'=>∃s,(∀ops,cI l p ops = .ok s (p+1) ops)/\r=bH s/\S'=[⟨br,49,3,[ap 3 cT l,aj (((p+1):Nat):Int),aB ad n cap]⟩]) (fun M=>∃q e,(∀ops,cI l p ops = .no q e)/\M=jH q e):=by
 refine VX.body func22 rfl ntmps22 aV fun Y w0 U=>?_;refine ag ?_;refine ae ?_;refine ak [0] ?_;refine aA ?_;refine aA ?_;refine dB (au _) af (fun _ h=>h) ?_;refine ai 0 rfl aU ?_;refine ai 1 rfl bu ?_;refine ai 2 rfl (aq 1) ?_;refine ai 3 rfl (aC 0) ?_;refine ai 4 rfl aU ?_;refine ai 5 rfl bu ?_;refine ai 6 rfl (aq 0) ?_;refine ai 7 rfl (aC 0) ?_;refine ai 8 rfl bV ?_;refine ai 9 rfl az ?_;refine ai 10 rfl aU ?_;refine bp.split (t:=15) lk (fun j1=>?_) (fun j1=>?_)
 ·have E:=j1;(try simp only[V.ah,ne_eq] at E)
  refine bc 11 rfl ?_;refine bc 12 rfl ?_;refine bc 13 rfl ?_;refine bc 14 rfl ?_;refine bc 15 rfl ?_;refine bc 16 rfl ?_;refine bc 17 rfl ?_;refine bc 18 rfl ?_;refine bc 19 rfl ?_;refine bc 20 rfl ?_;refine bc 21 rfl ?_;refine bc 22 rfl ?_;refine ai 23 rfl bZ ?_;refine bp.later rfl ?_;refine bL [(0,_),(28,_)] [⟨br,49,3,[_,_,_]⟩] ?_;refine bC af ?_;refine ei ot w5 ?_;have N:∀ops,cI l p ops=gv l p 6:=(by first|exact wj (by simp at j1;omega)|exact wk og jC)
  refine aR ?_;refine ae ?_;exact OD.bB av rfl rfl rfl call12 (eV l hl p 6 ad n cap br) ⟨ot,aJ,trivial⟩ (cr _) (fun M aK=>(Or.inr ⟨M,rfl,⟨p,_,fun ops=>by rw[N];rfl,aK⟩⟩:bD _ _ _ _ _ _)) (fun r S' h=>h.elim)
 have E:=j1;(try simp only[V.ah,ne_eq] at E)
 refine ai 11 rfl aU ?_;refine ai 12 rfl bu ?_;refine ai 13 rfl (aq 0) ?_;refine ai 14 rfl (aC 0) ?_;refine ai 15 rfl aU ?_;refine ai 16 rfl bu ?_;refine ai 17 rfl (aq 1) ?_;refine ai 18 rfl (aC 0) ?_;refine ai 19 rfl (di 3 (h:=by first|exact .l (j:=p) rfl og|exact .r (j:=p) rfl og)) ?_;refine ai 20 rfl (aq 0) ?_;refine ai 21 rfl (cn (mk:=Op.load 3) rfl ot (by exact jr (i:=p) cZ isAgg3 og rfl)) ?_;refine ai 22 rfl az ?_;refine ai 23 rfl bt ?_;refine bp.later rfl ?_;refine bL [(0,_),(28,_)] [⟨br,49,3,[_,_,_]⟩] ?_;refine bC af ?_;refine aI ot (fun ax=>?_) (fun ax=>?_)
 ·have I:=ax
  (try simp only[V.ah,ne_eq] at I)
  have N:∀ops,cI l p ops=gv l p 6:=(by first|exact wj (by simp at j1;omega)|exact wk og jC)
  refine aR ?_;refine ae ?_;exact OD.bB av rfl rfl rfl call12 (eV l hl p 6 ad n cap br) ⟨ot,aJ,trivial⟩ (cr _) (fun M aK=>(Or.inr ⟨M,rfl,⟨p,_,fun ops=>by rw[N];rfl,aK⟩⟩:bD _ _ _ _ _ _)) (fun r S' h=>h.elim)
 have I:=ax
 (try simp only[V.ah,ne_eq] at I)
 have aH:p<l.length:=(by simp at j1;exact j1)
 have O:l[p].k=1:=(by simpa using ax)
 refine aN ?_;refine aA ?_;refine dB (au _) af (fun _ h=>h) ?_;refine ai 0 rfl aU ?_;refine ai 1 rfl bu ?_;refine ai 2 rfl (aq 0) ?_;refine ai 3 rfl (aC 0) ?_;refine ai 4 rfl aU ?_;refine ai 5 rfl bu ?_;refine ai 6 rfl (aq 1) ?_;refine ai 7 rfl (aC 0) ?_;refine ai 8 rfl (di 3 (h:=by first|exact .l (j:=p) rfl aH|exact .r (j:=p) rfl aH)) ?_;refine ai 9 rfl (aq 1) ?_;refine ai 10 rfl (cn (mk:=Op.load 9) rfl ot (by exact jZ (i:=p) (j:=1) cZ isAgg9 aH rfl)) ?_;refine ai 11 rfl aU ?_;refine bp.later rfl ?_;refine bL [(0,_),(3,_)] [⟨br,49,3,[_,_,_]⟩] ?_;refine bC af ?_;refine aA ?_;refine ag ?_;refine ae ?_;refine bK call33 (jo hm hw l[p].s (ht _ (getElem_mem aH)).1) ?_;refine ae ?_;refine aF [(0,_),(3,_),(4,_)] [⟨br,49,3,[_,_,_]⟩] ?_;refine ag ?_;refine ae ?_;refine aa az ?_;refine ak [0,3,4,45] ?_;refine aI ot (fun J=>?_) (fun J=>?_)
 ·have K:=J
  (try simp only[V.ah,ne_eq] at K)
  have dH:cH l[p].s≠0:=(by simpa using J)
  refine aR ?_;refine ae ?_;refine ae ?_;exact OD.bB av rfl rfl rfl call12 (eV l hl p (cH l[p].s) ad n cap br) ⟨ot,ot,trivial⟩ (cr _) (fun M aK=>(Or.inr ⟨M,rfl,⟨p,_,fun ops=>by unfold cI;rw[dif_pos aH,if_neg (by rw[O];decide),if_pos dH];rfl,aK⟩⟩:bD _ _ _ _ _ _)) (fun r S' h=>h.elim)
 have K:=J
 (try simp only[V.ah,ne_eq] at K)
 have dH:cH l[p].s=0:=(by simpa using J)
 refine aN ?_;refine ag ?_;refine ae ?_;refine aa bu ?_;refine aa (aq 1) ?_;refine aa (aC 0) ?_;refine aa az ?_;refine aa bu ?_;refine aa (aq 1) ?_;refine bq 0 [_,_,_] sizeOf3 ?_;refine aF [(3,_)] [⟨br,49,3,[_,_,_]⟩] ?_;refine ag ?_;refine ae ?_;refine ae ?_;refine ak [2] ?_;refine aD ?_;refine Or.inl ?_;refine⟨.inr rfl,_,[_],Sublist.refl _,c8 results22 (dm aV lk),?_⟩;exact⟨l[p].s,fun ops=>by unfold cI;rw[dif_pos aH,if_neg (by rw[O];decide),if_neg (by rw[dH];decide)],rfl,rfl⟩
abbrev gb(ops:List aT)(ad:Option Addr)(cap:Nat)(S:List ay):Prop:=bQ 41 5 (ops.flatMap cO) ops.length ad cap S
def PS(br:Nat)(l:List Tk)(p:Nat)(ops:List aT)(S:List ay):Prop:=∃ad cap So,gb ops ad cap So/\S=⟨br,49,3,[ap 3 cT l,aj ((p:Nat):Int),aB ad ops.length cap]⟩::So
theorem vD:(Tryd.prog.info? 41).map (fun i=>(i.zero,i.size,i.bytes))=some (some (.agg #[.int .i64 0,.int .i64 0,.int .i64 0,.string ⟨#[]⟩,.string ⟨#[]⟩]),5,56):=by kernel_rfl
theorem gR(l:List Tk)(hl:l.length<=100)(o:aT)(p:Nat)(hp:0<p)(ov:p<=200)(ops:List aT)(ES:ops.length<=40)(ad:Option Addr)(cap br:Nat)(U:List ay)(ho:gb ops ad cap U):VX Tryd.prog G 49 [bE br,.agg (cO o)] (⟨br,49,3,[ap 3 cT l,aj ((p:Nat):Int),aB ad ops.length cap]⟩::U) (fun r S'=>∃J,bM l o p ops = .ok () p J/\J.length<=40/\PS br l p J S') (fun Z=>∃q e,bM l o p ops = .no q e/\Z=jH q e):=by
 refine VX.body func49 rfl ntmps49 aV fun X0 w0 dM=>?_;unfold cO;refine aA ?_;refine aR ?_;refine fi (ds:=[_,_,_,_,_]) av rfl rfl ot rfl rfl (fun Y=>?_);refine aY (Wk.aO (n:=29) (l':=[(0,_),(3,_)]) (S':=(⟨Y,41,5,[_,_,_,_,_]⟩::⟨br,49,3,[_,_,_]⟩::U)) rfl rfl bi) ?_;refine bg ?_;refine aA ?_;refine ag ?_;refine ae ?_;refine aa bu ?_;refine aa (aq 2) ?_;refine aa (aC 1) ?_;refine aa bV ?_;refine aa az ?_;refine ak [0,3,9] ?_;refine aI ot (fun ax=>?_) (fun ax=>?_)
 ·have K:=ax
  (try simp only[V.ah,ne_eq] at K)
  have O:ops.length=40:=(by simp at ax;omega)
  refine ag ?_;refine ae ?_;refine aa bu ?_;refine aa (aq 1) ?_;refine aa (aC 1) ?_;refine aa (fc (r:=.int .i64 ((p-1:Nat):Int)) rfl ot aJ (nu (by rw[show((p:Nat):Int)-1=((p-1:Nat):Int) by omega];exact wrap_i64 w8 w8))) ?_;refine aa bu ?_;refine aa (aq 1) ?_;refine bq 1 [_,_,_] sizeOf3 ?_;refine aY (Wk.aO (n:=29) (l':=[(0,_),(3,_)]) (S':=(⟨Y,41,5,[_,_,_,_,_]⟩::⟨br,49,3,[_,_,_]⟩::U)) rfl rfl bi) ?_;refine bg ?_;refine aR ?_;refine ae ?_;exact OD.bB av rfl rfl rfl call12 (eV l hl (p-1) 10 ad ops.length cap br) ⟨ot,aJ,trivial⟩ (perm_middle (l₁:=[_])) (fun Z aK=>(Or.inr ⟨Z,rfl,⟨_,_,by unfold bM;rw[if_pos O];rfl,aK⟩⟩:bD _ _ _ _ _ _)) (fun r S' h=>h.elim)
 have K:=ax
 (try simp only[V.ah,ne_eq] at K)
 have O:¬ops.length=40:=(by simp at ax;omega)
 refine aN ?_;refine dB (au (take 1 _)) af (fun _ h=>(Sublist.map _ (take_sublist _ _)).subset h) ?_;refine ai 0 rfl aU ?_;refine ai 1 rfl aU ?_;refine ai 2 rfl bu ?_;refine ai 3 rfl (aq 2) ?_;refine ai 5 rfl (dF 0 [_,_,_,_,_]) ?_;refine bp.later rfl ?_;refine dn (i:=4) (j:=6) af ?_ ?_
 ·refine at_ rfl (aC 1) ?_;refine aG (i:=6) af ?_;refine bk (aP 0 [_]) [.int .i64 0,.int .i64 0,.int .i64 0,.string ⟨#[]⟩,.string ⟨#[]⟩] [_,_,_,_,_] zeroValue41 runUnderlying33 sizeOf41 (fun uu=>?_);refine bj 0 25 5 1 ?_;refine aG (i:=7) af ?_;refine lB (ls:=ops) (new:=[o]) (Sq:=U) jW sn rfl av rfl rfl underlying33 vD rfl bR ot ho (cy (A:=[_,_])) ot cl iN yu (fun I E M N=>?_);refine fB (cR (S1:=[⟨I,41,E*5,flatMap cO (ops++[o])⟩]) (A:=[_,_])) ?_;refine bx 8 rfl bu ?_;refine bx 9 rfl (aq 2) ?_;refine aG (i:=10) af ?_;refine aO 1 [_,_,_] sizeOf33 ?_;refine gw (y:=⟨29,[],(⟨Y,41,5,[_,_,_,_,_]⟩::⟨br,49,3,[_,_,_]⟩::[⟨I,41,E*5,flatMap cO (ops++[o])⟩])⟩) (Wk.aO rfl rfl trivial) rfl ?_;refine bC af ?_;refine Or.inl ?_;refine⟨.inl rfl,_,(⟨br,49,3,[ap 3 cT l,aj ((p:Nat):Int),aB (some ⟨I,0,none⟩) (ops++[o]).length E]⟩::[⟨I,41,E*5,flatMap cO (ops++[o])⟩]),cw,ej results49,?_⟩;exact⟨ops++[o],by unfold bM;rw[if_neg O],by simp;omega,(some ⟨I,0,none⟩),E,[⟨I,41,E*5,flatMap cO (ops++[o])⟩],(cA M N),rfl⟩
 refine bk (aP 0 [_]) [.int .i64 0,.int .i64 0,.int .i64 0,.string ⟨#[]⟩,.string ⟨#[]⟩] [_,_,_,_,_] zeroValue41 runUnderlying33 sizeOf41 (fun uu=>?_);refine bj 0 25 5 1 ?_;refine aG (i:=4) af ?_;refine at_ rfl (aC 1) ?_;refine aG (i:=7) af ?_;refine lB (ls:=ops) (new:=[o]) (Sq:=U) jW sn rfl av rfl rfl underlying33 vD rfl bR ot ho (cy (A:=[_,_])) ot cl iN yu (fun I E M N=>?_);refine fB (cR (S1:=[⟨I,41,E*5,flatMap cO (ops++[o])⟩]) (A:=[_,_])) ?_;refine bx 8 rfl bu ?_;refine bx 9 rfl (aq 2) ?_;refine aG (i:=10) af ?_;refine aO 1 [_,_,_] sizeOf33 ?_;refine gw (y:=⟨29,[],(⟨Y,41,5,[_,_,_,_,_]⟩::⟨br,49,3,[_,_,_]⟩::[⟨I,41,E*5,flatMap cO (ops++[o])⟩])⟩) (Wk.aO rfl rfl trivial) rfl ?_;refine bC af ?_;refine Or.inl ?_;refine⟨.inl rfl,_,(⟨br,49,3,[ap 3 cT l,aj ((p:Nat):Int),aB (some ⟨I,0,none⟩) (ops++[o]).length E]⟩::[⟨I,41,E*5,flatMap cO (ops++[o])⟩]),cw,ej results49,?_⟩;exact⟨ops++[o],by unfold bM;rw[if_neg O],by simp;omega,(some ⟨I,0,none⟩),E,[⟨I,41,E*5,flatMap cO (ops++[o])⟩],(cA M N),rfl⟩
end Pa
end Go.Proofs.YtmapbfkhggjgeaaDoor
