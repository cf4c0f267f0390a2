/-
  What the proof of GA leans on, part 3: walks of the program's functions at the level of values, and plain facts of what they compute.
-/
import Derived.Test.YtkgmonfgofobaaaGreatDoorPGA2
set_option linter.unusedVariables false
set_option linter.unusedSimpArgs false
set_option maxRecDepth 100000
set_option maxHeartbeats 4000000
namespace Go.Proofs.YtkgmonfgofobaaaGreatDoor.V
open List
open Go.RowKit
variable {P:Program} {C:dK} {G:List (Nat×List Value)} {Q:Exit→St→Prop} {x:St} {ops:Array Oper} {l:List Oper} {o:Oper} {n:Nat} {e:List (Nat×D)} {S:List ah} {S1 T:List Nat} {fuel i:Nat} {ld:Array Bool}
variable {b sz:Nat} {de:Array Operand} {t:TypeId} {fo:Operand} {ts:Array TypeId} {B:ah} {ps:List (Nat×Operand)}
theorem aC{α:Type}{a b:α}(h:a=b:=by kernel_rfl):a=b:=h
theorem aQ{a:Nat}(h:Nat.ble a b=true:=by exact rfl):a≤b:=Nat.le_of_ble_eq_true h
theorem ap(h:o.guard=none:=by exact rfl):cj ops x o true:=sF h
theorem iJ(h:cj ops x o true:=by exact uf rfl rfl rfl lk jC):cj ops x o true:=h
theorem YL{pd zs ds:List D}(ha:(pd.all fun d=>Nat.beq (cellsOf d).length sz)=true:=by exact rfl)(hl:Nat.beq zs.length (pd.length*sz)=true:=by exact rfl)(jV:pd.flatMap cellsOf=ds:=by exact rfl):mz (fun i=>some (i*sz,sz)) zs (cq 0 pd)=some ds:=QH ha hl jV
theorem H6(h:NP Q:=by repeat (first|exact NP.body|exact NP.Af|exact NP.GD|apply NP.tl|apply NP.GF|apply NP.then|apply NP.cut|apply NP.inBlock|apply NP.round)):NP Q:=h
theorem iP{a b:List Nat}(h:∀x∈a,x∈b:=by intro b hb;simp[ax,St.put] at hb ⊢;try first|exact hb|omega|simp[hb]|(rcases hb with hb|hb<;>simp[hb])|(rcases hb with hb|hb|hb<;>simp[hb])):∀x∈a,x∈b:=h
theorem fI{l':List (Nat×D)}(h:nV e l':=by repeat (first|exact trivial|refine⟨lk,?_⟩)):nV e l':=h
theorem DU{de:List Operand}{ds:List D}(h:nc x de ds:=by repeat (first|exact trivial|refine⟨ot,?_⟩|refine⟨bP,?_⟩|refine⟨tV,?_⟩)):nc x de ds:=h
theorem ec {f t:Nat} {args:List D} {r:D} (fG:∀args w,(callFunc f args).run P w = .ok (.enter f args) w) (hc:VP P C.G f args r) (K:OD P C ops l (x.put t r) Q)
  (ho:o.op = .call {callee:=.value fo,args:=de,argTypes:=ts}:=by exact rfl) (hw:cj ops x o true:=by exact ap) (hd:o.dst=some t:=by exact rfl) (hf:fo = .func f:=by exact rfl) (ha:nc x de.toList args:=by exact DU):OD P C ops (o::l) x Q:=OD.iC hw ho hd hf fG hc ha K
theorem qq {f t:Nat} {args:List D} {r:D} (fG:∀args w,(callFunc f args).run P w = .ok (.enter f args) w) (hc:VP P C.G f args r) (K:AD P C ops S1 T fuel (ld.setIfInBounds i true) (x.put t r) Q)
  (hi:ops[i]?=some o:=by exact rfl) (ho:o.op = .call {callee:=.value fo,args:=de,argTypes:=ts}:=by exact rfl) (hw:cj ops x o true:=by exact ap) (hd:o.dst=some t:=by exact rfl) (hf:fo = .func f:=by exact rfl) (ha:nc x de.toList args:=by exact DU):bD P C ops S1 T fuel ld x Q i:=bD.iC hi hw ho hd hf fG hc ha K
theorem fT (k t sz m:Nat) {cap:Nat} {cs:List D} (K:OD P C ops l ⟨x.n,(t,.list sz cs m)::x.env,x.S.eraseIdx k⟩ Q) (hk:x.S[k]?=some B:=by exact rfl) (ht:V.look t x.env = .v (.slice (some ⟨b,0,none⟩) m cap):=by exact lk) (hb:B.b=b:=by exact rfl) (dy:B.cs=cs:=by exact rfl) (hl:cs.length=m*sz:=by exact rfl) (h1:m≤cap:=by exact Nat.le_refl _) (h2:cap≤maxLen:=by decide)
  (hne:isMap B.e=false:=by exact rfl):OD P C ops l x Q:=OD.vR (hne:=hne) hk ht hb dy hl h1 h2 K
theorem nK (k t sz m:Nat) {cap:Nat} {cs:List D} (K:AD P C ops S1 T fuel ld ⟨x.n,(t,.list sz cs m)::x.env,x.S.eraseIdx k⟩ Q) (hk:x.S[k]?=some B:=by exact rfl) (ht:V.look t x.env = .v (.slice (some ⟨b,0,none⟩) m cap):=by exact lk) (hb:B.b=b:=by exact rfl) (dy:B.cs=cs:=by exact rfl) (hl:cs.length=m*sz:=by exact rfl) (h1:m≤cap:=by exact Nat.le_refl _) (h2:cap≤maxLen:=by decide)
  (hne:isMap B.e=false:=by exact rfl):AD P C ops S1 T fuel ld x Q:=AD.vR (hne:=hne) hk ht hb dy hl h1 h2 K
theorem YM{pl:List (Nat×D)}(h:jL x ps pl:=by repeat (first|exact trivial|refine⟨rfl,ot,?_⟩|refine⟨rfl,bP,?_⟩|refine⟨rfl,tV,?_⟩)):jL x ps pl:=h
theorem nq{c:Code}{ι:Type}{y:St}(I:ι→St→Prop)(μ:ι→Nat)(i:ι)(h0:I i y)(hw:Wk x y)(round:∀i y,I i y→CD P C c y (Cz I μ i Q)):CD P C (.loop c) x Q:=CD.wk hw (CD.loop I μ i h0 round)
theorem YN{p:Prop}{c:Code}{ι:Type}{y:St}(I:ι→St→Prop)(μ:ι→Nat)(i:ι)(h0:I i y)(round:∀i y,I i y→CD P C c y (Cz I μ i Q))(hp:CD P C (.loop c) x Q→p:=by exact nM)(hw:Wk x y:=by exact aJ):p:=hp (CD.wk hw (CD.loop I μ i h0 round))
theorem eD {e':TypeId} {tt len:Nat} {z:Value} (pl:List (Nat×D)) (oQ:List Value) (ds:List D) (hz:∀w,(zeroValue e').run P w = .ok z w) (E:∀w,(underlying t).run P w = .ok (.slice e') w) (hs:∀w,(sizeOf e').run P w = .ok sz w)
  (k:∀b,OD P C ops l ⟨x.n,(tt,.v (.slice (some ⟨b,0,none⟩) len len))::x.env,⟨b,e',ds.length,ds⟩::x.S⟩ Q) (ho:o.op = .buildSlice t len ps.toArray:=by exact rfl) (hw:cj ops x o true:=by exact ap) (jN:o.dst=some tt:=by exact rfl) (hl:Nat.ble 1 (len*sz)=true:=by exact rfl) (iu:Nat.ble (len*sz) (2 ^ 24)=true:=by exact rfl)
  (fb:(Array.range (len*sz)).map (fun i=>z.cells[i % z.cells.size]!)=oQ.toArray:=by kernel_rfl) (gL:jL x ps pl:=by exact YM) (hj:pl.all (fun p=>kY p.2)=true:=by exact rfl) (hd:mz (fun i=>some (i*sz,sz)) (oQ.map .v) pl=some ds:=by exact YL) (hne:isMap e'=false:=by exact rfl):OD P C ops (o::l) x Q:=OD.Mx (hne:=hne) hw ho jN hz E hs hl iu fb gL hj hd k
theorem nJ {e':TypeId} {tt len:Nat} {z:Value} (pl:List (Nat×D)) (oQ:List Value) (ds:List D) (hz:∀w,(zeroValue e').run P w = .ok z w) (E:∀w,(underlying t).run P w = .ok (.slice e') w) (hs:∀w,(sizeOf e').run P w = .ok sz w)
  (k:∀b,AD P C ops S1 T fuel (ld.setIfInBounds i true) ⟨x.n,(tt,.v (.slice (some ⟨b,0,none⟩) len len))::x.env,⟨b,e',ds.length,ds⟩::x.S⟩ Q) (hi:ops[i]?=some o:=by exact rfl) (ho:o.op = .buildSlice t len ps.toArray:=by exact rfl) (hw:cj ops x o true:=by exact ap) (jN:o.dst=some tt:=by exact rfl) (hl:Nat.ble 1 (len*sz)=true:=by exact rfl) (iu:Nat.ble (len*sz) (2 ^ 24)=true:=by exact rfl)
  (fb:(Array.range (len*sz)).map (fun i=>z.cells[i % z.cells.size]!)=oQ.toArray:=by kernel_rfl) (gL:jL x ps pl:=by exact YM) (hj:pl.all (fun p=>kY p.2)=true:=by exact rfl) (hd:mz (fun i=>some (i*sz,sz)) (oQ.map .v) pl=some ds:=by exact YL) (hne:isMap e'=false:=by exact rfl):bD P C ops S1 T fuel ld x Q i:=bD.Mx (hne:=hne) hi hw ho jN hz E hs hl iu fb gL hj hd k
theorem aO (k:Nat) (cs':List D) {o' m:Nat} {d:D} {y z:Operand} (hn:∀w,(sizeOf t).run P w = .ok m w) (K:OD P C ops l ⟨x.n,x.env,x.S.set k {B with cs:=cs'}⟩ Q) (ho:o.op = .store t y z:=by exact rfl) (hw:cj ops x o true:=by exact ap) (jN:o.dst=none:=by exact rfl) (hy:aF x y = .v (.pointer (some ⟨b,o',none⟩)):=by exact ot)
  (hk:x.S[k]?=some B:=by exact rfl) (hb:B.b=b:=by exact rfl) (hz:aF x z=d:=by first|exact ot|exact bP) (hj:kY d=true:=by exact rfl) (h1:(cellsOf d).all one=true:=by exact rfl) (gC:(cellsOf d).length=m:=by exact rfl) (hl:Nat.ble (o'+m) B.cs.length=true:=by exact rfl) (dy:dm B.cs o' (cellsOf d)=cs':=by exact rfl) (hne:isMap B.e=false:=by exact rfl):OD P C ops (o::l) x Q:=OD.store (hne:=hne) hw ho jN hy hk hb hz hj h1 hn gC hl dy K
theorem er (k:Nat) (cs':List D) {o' m:Nat} {d:D} {y z:Operand} (hn:∀w,(sizeOf t).run P w = .ok m w) (K:AD P C ops S1 T fuel (ld.setIfInBounds i true) ⟨x.n,x.env,x.S.set k {B with cs:=cs'}⟩ Q) (hi:ops[i]?=some o:=by exact rfl) (ho:o.op = .store t y z:=by exact rfl) (hw:cj ops x o true:=by exact ap) (jN:o.dst=none:=by exact rfl) (hy:aF x y = .v (.pointer (some ⟨b,o',none⟩)):=by exact ot)
  (hk:x.S[k]?=some B:=by exact rfl) (hb:B.b=b:=by exact rfl) (hz:aF x z=d:=by first|exact ot|exact bP) (hj:kY d=true:=by exact rfl) (h1:(cellsOf d).all one=true:=by exact rfl) (gC:(cellsOf d).length=m:=by exact rfl) (hl:Nat.ble (o'+m) B.cs.length=true:=by exact rfl) (dy:dm B.cs o' (cellsOf d)=cs':=by exact rfl) (hT:∀b∈T,b∈ax (x.S.eraseIdx k):=by exact iP) (hne:isMap B.e=false:=by exact rfl):bD P C ops S1 T fuel ld x Q i:=bD.store (hne:=hne) hi hw ho jN hy hk hb hz hj h1 hn gC hl dy hT K
theorem om_ {t:Nat} {d:D} {z:Operand} (K:OD P C ops l ⟨n,(t,d)::e,S⟩ Q) (ho:o.op = .move z∨o.op = .assign z:=by first|exact .inl rfl|exact .inr rfl) (hz:aF ⟨n,e,S⟩ z=d:=by first|exact ot|exact bP|exact tV|exact wT)
  (hw:cj ops ⟨n,e,S⟩ o true:=by first|exact sF rfl|exact uf rfl rfl rfl lk jC) (hd:o.dst=some t:=by exact rfl):OD P C ops (o::l) ⟨n,e,S⟩ Q:=OD.still hw hd (bI ho hz) K

end Go.Proofs.YtkgmonfgofobaaaGreatDoor.V
namespace Go.Proofs.YtkgmonfgofobaaaGreatDoor.V
open List
open Go.RowKit
variable {P:Program} {C:dK} {G:List (Nat×List Value)} {Q:Exit→St→Prop} {x:St} {ops:Array Oper} {l l2:List Oper} {o:Oper} {n t:Nat} {d:D} {e e' l':List (Nat×D)} {S:List ah} {ts:List Nat} {kd:Rd} {c:Bool}
variable {zs:List Value} {pl lr:List (Nat×D)} {k sz t' id:Nat} {ds:List D} {d0:D} {y fo:Operand} {ps:List (Nat×Operand)} {de:Array Operand} {tt:Array TypeId} {p q:Prop} {fn:Func} {post:D→List ah→Prop} {b:Bool} {S':List ah}
class Fo (P:Program) (s i:Nat) (off:outParam Nat):Prop where h:DM P s i off=true
class Sl (P:Program) (t:Nat) (sz:outParam Nat):Prop where h:DN P t sz=true
class Sz (P:Program) (t:Nat) (sz:outParam Nat):Prop where h:rp P t sz=true
def sV(P:Program)(t:Nat):Option (List Value):=(P.info? t).bind fun i=>i.zero.map fun z=>z.cells.toList
theorem Ca(h:sV P t=some zs):∃z,(∀w,(zeroValue t).run P w = .ok z w)∧z.cells.toList=zs:=by
 unfold sV at h;cases hi:P.info? t with
 | none=>rw[hi] at h;cases h
 | some i =>
  rw[hi,Option.bind_some] at h;cases hz:i.zero with
  | none=>rw[hz] at h;cases h
  | some z =>
   rw[hz,Option.map_some] at h;refine⟨z,fun w=>?_,Option.some.inj h⟩;unfold zeroValue typeInfo;simp[hi,hz]
def FU(P:Program)(t:Nat):Option (List (Nat×Option Nat)):=(P.underlying t).bind fun d=>match d with
 | .struct fs=>some (fs.toList.map fun f=>(f.offset,(P.info? f.type).map (·.size)))
 | _=>none
theorem abB{pl:List (Nat×Nat)}(h:FU P t=some (pl.map fun p=>(p.1,some p.2))):∃E,(∀w,(underlying t).run P w = .ok (.struct E) w)∧∀w,(E.mapM fun f=>do pure (f.offset,←sizeOf f.type):Sem (Array (Nat×Nat))).run P w = .ok pl.toArray w:=by
 unfold FU at h;cases hu:P.underlying t with
 | none=>rw[hu] at h;cases h
 | some d =>
  rw[hu,Option.bind_some] at h;split at h
  ·rename_i E;refine⟨E,run_underlying hu,fun w=>?_⟩;have h:=Option.some.inj h;rw[←Array.toArray_toList (xs:=E),mapM_toArray];have key:∀(l:List Field) (pl:List (Nat×Nat)),l.map (fun f=>(f.offset,(P.info? f.type).map (·.size)))=pl.map (fun p=>(p.1,some p.2))→(l.mapM fun f=>do pure (f.offset,←sizeOf f.type):Sem (List (Nat×Nat))).run P w = .ok pl w:=by
    intro l;induction l with
    | nil=>intro pl h;cases pl with
     | nil=>rfl
     | cons _ _=>cases h
    | cons f r ih =>
     intro pl h;cases pl with
     | nil=>cases h
     | cons p q =>
      rw[map_cons,map_cons,List.cons.injEq,Prod.mk.injEq] at h;obtain⟨⟨h1,h2⟩,h3⟩:=h;have h4:∀w,(sizeOf f.type).run P w = .ok p.2 w:=by
       cases hi:P.info? f.type with
       | none=>rw[hi] at h2;cases h2
       | some i=>exact lZ (by unfold rp;rw[hi] at h2 ⊢;simp at h2;simp[h2])
      rw[mapM_cons];simp only[Sem.run_bind,Sem.run_pure,h4,Result.andThen_ok,ih q h3,h1]
   have:=key E.toList pl h;simp only[map_eq_pure_bind,Sem.run_bind,this,Result.andThen_ok,Sem.run_pure]
  cases h
class Sb (P:Program) (t:Nat) (zs:outParam (List Value)) (pl:outParam (List (Nat×Nat))):Prop where
  hz:sV P t=some zs
  hp:FU P t=some (pl.map fun p=>(p.1,some p.2))
inductive mH:Nat→List D→List D→Prop
  | z {l:List D}:mH 0 l []
  | s {k:Nat} {a:D} {l l':List D} (h:mH k l l'):mH (k+1) (a::l) (a::l')
inductive qu:Nat→List D→List D→Prop
 | z {l:List D}:qu 0 l l
 | s {k:Nat} {a:D} {l l':List D} (h:qu k l l'):qu (k+1) (a::l) l'
theorem mH.eq{l l':List D}(h:mH k l l'):l.take k=l'∧l'.length=k:=by
 induction h with
 | z=>exact⟨rfl,rfl⟩
 | s h ih=>exact⟨by rw[take_succ_cons,ih.1],by rw[length_cons,ih.2]⟩
theorem mH.whole{l l':List D}(h:mH k l l')(hl:Nat.beq l.length k=true):l=l':=by
 have:=h.eq.1;rwa [take_of_length_le (Nat.le_of_eq (Nat.eq_of_beq_eq_true hl))] at this
theorem qu.eq{l l':List D}(h:qu k l l'):l.drop k=l':=by
 induction h with
 | z=>rfl
 | s h ih=>rw[drop_succ_cons,ih]
inductive LB (S:List ah) (sz:Nat):D→Rd→List D→Prop
 | b (k:Nat) {b o':Nat} {B:ah} {ds m:List D} (hk:S[k]?=some B) (hb:B.b=b) (hm:qu o' B.cs m) (hd:mH sz m ds) (hne:isMap B.e=false):LB S sz (.v (.pointer (some ⟨b,o',none⟩))) (.fN k) ds
 | m {α:Type} {g:α→List D} {i:Nat} {ls:List α} (hg:∀a,(g a).length=sz) (hi:i<ls.length):LB S sz (.fQ (ls.flatMap g) (i*sz)) .kj (g ls[i])
 | r (k:Nat) {α:Type} {g:α→List D} {b i:Nat} {B:ah} {ls:List α} (hg:∀a,(g a).length=sz) (hk:S[k]?=some B) (hb:B.b=b) (dy:B.cs=ls.flatMap g) (hi:i<ls.length) (hne:isMap B.e=false):LB S sz (.v (.pointer (some ⟨b,0+i*sz,none⟩))) (.fN k) (g ls[i])
 | i {o':Nat} {cs ds m:List D} (hm:qu o' cs m) (hd:mH sz m ds):LB S sz (.fQ cs o') .kj ds
theorem LB.still(h:LB x.S sz d0 kd ds)(ho:o.op = .load t y)(hy:aF x y=d0)(ha:rq P t true=true)(hn:rp P t sz=true):bW P G x o kd (.agg ds):=by
 cases h with
 | b k hk hb hm hd hne=>exact Bx (hne:=hne) ho hy hk hb (iY ha) (lZ hn) hd.eq.2 (by rw[hm.eq];exact hd.eq.1)
 | m hg hi=>exact II ho hy (iY ha) (lZ hn) (hg _) (GC hg hi)
 | r k hg hk hb dy hi hne=>exact dL (hne:=hne) hg hk hb dy (iY ha) (lZ hn) hi x o y ho hy rfl
 | i hm hd=>exact II ho hy (iY ha) (lZ hn) hd.eq.2 (by rw[hm.eq];exact hd.eq.1)
theorem nC{l l':List D}(h:mH k l l':=by repeat (first|exact mH.z|apply mH.s)):mH k l l':=h
theorem qS{l l':List D}(h:qu k l l':=by repeat (first|exact qu.z|apply qu.s)):qu k l l':=h
theorem fb_{s:TypeId}{i off:Nat}{d d':D}(ho:o.op = .fieldAddr s y i:=by exact rfl)(hy:aF x y=d:=by first|exact ot|exact wT)(hc:DM P s i off=true:=by exact Fo.h)(h:FA off d d':=by first|exact .p|exact .i):bW P G x o .none d':=dX off ho hy hc h
theorem lc_ (ho:o.op = .load t y:=by exact rfl) (hy:aF x y=d0:=by exact ot) (hn:rp P t sz=true:=by exact Sz.h) (ha:rq P t true=true:=by kernel_rfl)
  (h:LB x.S sz d0 kd ds:=by first|(apply LB.b 0;exact rfl;exact rfl;(focus exact qS);(focus exact nC);exact rfl)|(apply LB.b 1;exact rfl;exact rfl;(focus exact qS);(focus exact nC);exact rfl)|(apply LB.b 2;exact rfl;exact rfl;(focus exact qS);(focus exact nC);exact rfl)|(apply LB.b 3;exact rfl;exact rfl;(focus exact qS);(focus exact nC);exact rfl)|(apply LB.b 4;exact rfl;exact rfl;(focus exact qS);(focus exact nC);exact rfl)|(apply LB.b 5;exact rfl;exact rfl;(focus exact qS);(focus exact nC);exact rfl)|(apply LB.b 6;exact rfl;exact rfl;(focus exact qS);(focus exact nC);exact rfl)|(apply LB.b 7;exact rfl;exact rfl;(focus exact qS);(focus exact nC);exact rfl)|(apply LB.b 8;exact rfl;exact rfl;(focus exact qS);(focus exact nC);exact rfl)|(apply LB.b 9;exact rfl;exact rfl;(focus exact qS);(focus exact nC);exact rfl)|(apply LB.m;(focus exact fun _=>rfl);(focus first|assumption|omega|fail))|(apply LB.i;(focus exact qS);(focus exact nC))|(apply LB.r 0;(focus exact fun _=>rfl);exact rfl;exact rfl;exact rfl;exact rfl;(focus first|assumption|omega|fail))|(apply LB.r 1;(focus exact fun _=>rfl);exact rfl;exact rfl;exact rfl;exact rfl;(focus first|assumption|omega|fail))|(apply LB.r 2;(focus exact fun _=>rfl);exact rfl;exact rfl;exact rfl;exact rfl;(focus first|assumption|omega|fail))|(apply LB.r 3;(focus exact fun _=>rfl);exact rfl;exact rfl;exact rfl;exact rfl;(focus first|assumption|omega|fail))|fail):bW P G x o kd (.agg ds):=h.still ho hy ha hn
theorem ajX {d:D} (ho:o.op = .load t y:=by exact rfl) (hy:aF x y=d0:=by exact ot) (ha:rq P t false=true:=by kernel_rfl)
  (h:LD x.S d0 kd d:=by first|(apply LD.b 0;exact rfl;exact rfl;exact rfl;exact rfl)|(apply LD.b 1;exact rfl;exact rfl;exact rfl;exact rfl)|(apply LD.b 2;exact rfl;exact rfl;exact rfl;exact rfl)|(apply LD.b 3;exact rfl;exact rfl;exact rfl;exact rfl)|(apply LD.b 4;exact rfl;exact rfl;exact rfl;exact rfl)|(apply LD.b 5;exact rfl;exact rfl;exact rfl;exact rfl)|(apply LD.b 6;exact rfl;exact rfl;exact rfl;exact rfl)|(apply LD.b 7;exact rfl;exact rfl;exact rfl;exact rfl)|(apply LD.b 8;exact rfl;exact rfl;exact rfl;exact rfl)|(apply LD.b 9;exact rfl;exact rfl;exact rfl;exact rfl)|(apply LD.m;(focus exact fun _=>rfl);exact rfl;(focus first|assumption|omega|fail))|(apply LD.m0;(focus exact fun _=>rfl);exact rfl;(focus first|assumption|omega|fail))|(apply LD.i;exact rfl)|(apply LD.r 0;(focus exact fun _=>rfl);exact rfl;exact rfl;exact rfl;exact rfl;exact rfl;(focus first|assumption|omega|fail))|(apply LD.r0 0;(focus exact fun _=>rfl);exact rfl;exact rfl;exact rfl;exact rfl;exact rfl;(focus first|assumption|omega|fail))|(apply LD.r 1;(focus exact fun _=>rfl);exact rfl;exact rfl;exact rfl;exact rfl;exact rfl;(focus first|assumption|omega|fail))|(apply LD.r0 1;(focus exact fun _=>rfl);exact rfl;exact rfl;exact rfl;exact rfl;exact rfl;(focus first|assumption|omega|fail))|(apply LD.r 2;(focus exact fun _=>rfl);exact rfl;exact rfl;exact rfl;exact rfl;exact rfl;(focus first|assumption|omega|fail))|(apply LD.r0 2;(focus exact fun _=>rfl);exact rfl;exact rfl;exact rfl;exact rfl;exact rfl;(focus first|assumption|omega|fail))|(apply LD.r 3;(focus exact fun _=>rfl);exact rfl;exact rfl;exact rfl;exact rfl;exact rfl;(focus first|assumption|omega|fail))|(apply LD.r0 3;(focus exact fun _=>rfl);exact rfl;exact rfl;exact rfl;exact rfl;exact rfl;(focus first|assumption|omega|fail))|fail):bW P G x o kd d:=h.still ho hy (iY ha)
theorem ajY {op:BinOp} {t t':TypeId} {z:Operand} {u u' r:Value} (ho:o.op = .binOp op t y z t':=by exact rfl) (hy:aF x y = .v u:=by first|exact ot|exact bP|fail) (hz:aF x z = .v u':=by first|exact ot|exact bP|fail)
  (hb:kX P op t u u' r:=by first|exact TU|exact TQ|exact TV|exact TS|exact TR|exact TT|(apply kr;(focus exact wrap_i64 w4 w4))|(apply iy;(focus exact wrap_i64 w4 w4))|(apply Ku;(focus exact wrap_i64 w4 w4))|exact RR|exact RS|exact ac6|exact ac7|exact ac8|exact ac9|(apply Kw;(focus omega))|fail):bW P G x o .none (.v r):=dA ho hy hz hb
theorem iy_ {z:Operand} {k:IntKind} {i:Int} {d d':D} (ho:o.op = .indexAddr t y z:=by exact rfl) (hy:aF x y=d:=by exact ot) (hz:aF x z = .v (.int k i):=by first|exact ot|exact bP) (hs:DN P t sz=true:=by exact Sl.h)
  (h:IX sz i d d':=by first|(apply IX.l;exact rfl;(focus first|assumption|omega|(simp;omega)|fail))|(apply IX.r;exact rfl;(focus first|assumption|omega|(simp;omega)|fail))|(apply IX.l;(focus exact(Int.toNat_of_nonneg w4).symm);(focus omega))|(apply IX.r;(focus exact(Int.toNat_of_nonneg w4).symm);(focus omega))|fail):bW P G x o .none d':=dO sz ho hy hz hs h
def fvQ(P:Program)(s i:Nat):Bool:=match P.underlying s with
 | some (.struct fs)=>match fs[i]? with
  | some f=>rq P f.type false
  | none=>false
 | _=>false
theorem agX:jL x [] []:=trivial
theorem aff{d:D}(hy:aF x y=d)(h:jL x ps pl):jL x ((k,y)::ps) ((k,d)::pl):=⟨rfl,hy,h⟩
theorem pt_(h:jL x ps pl:=by repeat (first|exact agX|(apply aff;(focus first|exact ot|exact bP|exact tV|fail)))):jL x ps pl:=h
theorem bd_ {pq:List (Nat×Nat)} {m:List D} (ho:o.op = .build t ps.toArray:=by exact rfl) (hz:sV P t=some zs:=by exact Sb.hz) (hp:FU P t=some (pq.map fun p=>(p.1,some p.2)):=by exact Sb.hp)
  (gL:jL x ps pl:=by exact pt_) (hj:pl.all (fun p=>kY p.2)=true:=by exact rfl) (hs:rp P t sz=true:=by exact Sz.h) (hd:mz (pq.toArray[·]?) (zs.map .v) pl=some m:=by exact rfl) (hl:Nat.beq m.length sz=true:=by exact rfl) (hk:mH sz m ds:=by exact nC):bW P G x o .none (.agg ds):=by
 obtain⟨z,h1,h2⟩:=Ca hz;obtain⟨fs,h3,h4⟩:=abB hp;rw[hk.whole hl] at hd;exact oY ho h1 h3 h4 gL hj (by rw[h2];exact hd)
def Oq(P:Program)(t:Nat):Bool:=match P.underlying t with
 | some .string=>true
 | _=>false
theorem ait(h:Oq P t=true):∀w,(underlying t).run P w = .ok .string w:=by
 unfold Oq at h;split at h
 ·rename_i E;exact run_underlying E
 cases h
def DV(P:Program)(t:Nat)(k:IntKind):Bool:=match P.underlying t with
 | some (.int a)=>decide (a=k)
 | _=>false
class Ik (P:Program) (t:Nat) (k:outParam IntKind):Prop where h:DV P t k=true
theorem VW{k:IntKind}(h:DV P t k=true):∀w,(underlying t).run P w = .ok (.int k) w:=by
 unfold DV at h;split at h
 ·rename_i a h1;obtain rfl:=of_decide_eq_true h;exact run_underlying h1
 cases h
theorem cv_{s:TypeId}{k0 k k':IntKind}{a r:Int}(ho:o.op = .convert s t y:=by exact rfl)(hy:aF x y = .v (.int k a):=by exact ot)(hc:DV P s k0=true:=by exact Ik.h)(uW:DV P t k'=true:=by exact Ik.h)(h:k'.wrap a=r:=by first|exact wrap_i64 w4 w4|exact rfl):bW P G x o .none (.v (.int k' r)) :=
 oX ho hy (o8 (VW hc) (VW uW) h)
theorem lr_{s:ByteArray}{ts:Array TypeId}(ho:o.op = .call {callee:=.builtin .len,args:=#[y],argTypes:=ts}:=by exact rfl)(ht:ts = #[t]:=by exact rfl)(hy:aF x y = .v (.string s):=by exact ot)(hs:Oq P t=true:=by kernel_rfl):bW P G x o .none (.v (.int .i64 (s.size:Nat))):=EY ho ht hy (ait hs)
def tmpsOf:List Operand→List Nat
 | []=>[]
 | .tmp t::r=>t::tmpsOf r
 | _::r=>tmpsOf r
def opsOf:Op→List Operand
 | .move x|.assign x|.nilCheck x|.unOp _ _ x|.convert _ _ x|.fieldAddr _ x _|.field _ x _|.load _ x|.extract x _=>[x]
 | .pick c a b=>[c,a,b]
 | .binOp _ _ a b _|.indexAddr _ a b|.index _ a b|.lookup _ a b _=>[a,b]
 | .slice _ x lo hi mx=>x::(lo.toList++hi.toList++mx.toList)
 | .build _ ps|.buildSlice _ _ ps=>ps.toList.map (·.2)
 | .makeFunc _ _ c=>c.toList
 | .call c=>match c.callee with
  | .value f=>f::c.args.toList
  | _=>c.args.toList
 | _=>[]
def At(ops:Array Oper)(o:Oper):List Nat:=match o.guard with
 | some (g,_)=>(match ops[g]? with
  | some p=>p.dst.toList
  | none=>[])
 | none=>[]
def kL(ops:Array Oper)(o:Oper):List Nat:=At ops o++tmpsOf (opsOf o.op)
theorem jF{ts:List Nat}(h:fJ ts e l':=by repeat (first|exact fJ.nil|(apply fJ.cons;(focus exact lk)))):fJ ts e l':=h
theorem pI{x:St}(h:cj ops x o true:=by first|exact sF rfl|exact uf rfl rfl rfl lk jC|fail):cj ops x o true:=h
theorem H7{x:St}(h:cj ops x o false:=by first|exact mP rfl rfl rfl lk jC|exact Kr (b:=false) rfl rfl rfl lk|fail):cj ops x o false:=h
def PE(c:Bool)(P:Program)(G:List (Nat×List Value))(n:Nat)(S:List ah)(ops:Array Oper)(ts:List Nat)(l:List Oper)(e:List (Nat×D))(R:List (Nat×D)→Prop):Prop:=∃e' l',PD c P G n S ops l e [] e'∧fJ ts e' l'∧R l'
variable {R:List (Nat×D)→Prop}
theorem jP(K:R l')(h:fJ ts e l':=by exact jF):PE c P G n S ops ts [] e R:=⟨e,l',.nil,h,K⟩
theorem PE.cons{lr:List (Nat×D)}{E:List Nat}(hd:o.dst=some t)(hr:fJ E e lr)(hq:(!c||mC ops o E)=true)(hw:cj ops ⟨n,lr,S⟩ o true)(h:ga P G ⟨n,lr,S⟩ o [] (fun y=>y=⟨n,(t,d)::lr,S⟩))(K:PE c P G n S ops ts l ((t,d)::e) R):PE c P G n S ops ts (o::l) e R:=by
 obtain⟨e',l',h1,h2⟩:=K;exact⟨e',l',.cons hd hr hq hw h h1,h2⟩
theorem YO(hd:o.dst=some t:=by exact rfl)(hr:fJ (kL ops o) e lr:=by exact jF)(h:bW P G ⟨n,lr,S⟩ o kd d)(K:PE c P G n S ops ts l ((t,d)::e) R)(hq:(!c||mC ops o (kL ops o))=true:=by kernel_rfl)(hw:cj ops ⟨n,lr,S⟩ o true:=by exact pI):PE c P G n S ops ts (o::l) e R:=.cons hd hr hq hw (h.gk hd) K
theorem pf_(K:PE c P G n S ops ts l ((t,.v (.tuple #[]))::e) R)(hd:o.dst=some t:=by exact rfl)(hr:fJ (At ops o) e lr:=by exact jF)(hq:(!c||mC ops o (At ops o))=true:=by kernel_rfl)(hw:cj ops ⟨n,lr,S⟩ o false:=by exact H7):PE c P G n S ops ts (o::l) e R:=by
 obtain⟨e',l',h1,h2⟩:=K;exact⟨e',l',.skip hd hr hq hw h1,h2⟩
def xX(P:Program)(f:Nat):Bool:=match P.funcs[f]? with
 | some fn => !(fn.name == "runtime.NumGoroutine") && fn.body.isSome
 | none=>false
theorem Vj{f:Nat}(h:xX P f=true):∀args w,(callFunc f args).run P w = .ok (.enter f args) w:=by
 unfold xX at h;split at h
 ·rename_i fn hf;rw[Bool.and_eq_true] at h;obtain⟨h1,h2⟩:=h;obtain⟨c,hc⟩:=Option.isSome_iff_exists.1 h2;exact enters_of hf (by simpa using h1) hc
 cases h
theorem pc_ {f:Nat} {args:List D} {r:D} (hc:VP P G f args r) (K:PE c P G n S ops ts l ((t,r)::e) R) (ho:o.op = .call {callee:=.value fo,args:=de,argTypes:=tt}:=by exact rfl)
  (hd:o.dst=some t:=by exact rfl) (hr:fJ (kL ops o) e lr:=by exact jF) (hq:(!c||mC ops o (kL ops o))=true:=by kernel_rfl) (hw:cj ops ⟨n,lr,S⟩ o true:=by exact pI) (hf:fo = .func f:=by exact rfl) (fG:xX P f=true:=by kernel_rfl) (ha:nc ⟨n,lr,S⟩ de.toList args:=by exact DU):PE c P G n S ops ts (o::l) e R:=by
 refine .cons hd hr hq hw ?_ K;intro C a w K Q hG hs hK;refine BU ho hd hf (Vj fG) ha.eq (fg _) hc C a w K Q hG hs fun y a' w' hy E uW I=>?_;obtain⟨r',S',⟨rfl,rfl⟩,rfl⟩:=hy;exact hK _ a' w' rfl E uW I
theorem agY{x:St}:jL x [] (cq k []):=trivial
theorem afg{x:St}{d:D}{pd:List D}(hy:aF x y=d)(h:jL x ps (cq (k+1) pd)):jL x ((k,y)::ps) (cq k (d::pd)):=⟨rfl,hy,h⟩
theorem H8{x:St}{pd:List D}(h:jL x ps (cq k pd):=by repeat (first|exact agY|(apply afg;(focus first|exact ot|exact bP|exact tV|fail)))):jL x ps (cq k pd):=h
def xY(P:Program)(t sz:Nat):Bool:=match P.underlying t with
 | some (.slice e)=>rp P e sz&&(sV P e).isSome && !(isMap e)
 | _=>false
class sc (P:Program) (t:Nat) (sz:outParam Nat):Prop where h:xY P t sz=true
theorem agZ(h:xY P t sz=true):∃e z,(∀w,(underlying t).run P w = .ok (.slice e) w)∧(∀w,(sizeOf e).run P w = .ok sz w)∧(∀w,(zeroValue e).run P w = .ok z w)∧isMap e=false:=by
 unfold xY at h;split at h
 ·rename_i e E;simp only[Bool.and_eq_true,Bool.not_eq_true'] at h;obtain⟨⟨h1,h2⟩,h3⟩:=h;obtain⟨zs,h4⟩:=Option.isSome_iff_exists.1 h2;obtain⟨z,h5,_⟩:=Ca h4;exact⟨e,z,run_underlying E,lZ h1,h5,h3⟩
 cases h
theorem aam{pd:List D}(h:pd.all kY=true):∀k,(cq k pd).all (fun p=>kY p.2)=true:=by
 induction pd with
 | nil=>intro k;rfl
 | cons a r ih =>
  intro k;rw[all_cons,Bool.and_eq_true] at h;rw[cq,all_cons,Bool.and_eq_true];exact⟨h.1,ih h.2 _⟩
theorem adk {len:Nat} {pd:List D} (ho:o.op = .buildSlice t' len ps.toArray) (hd:o.dst=some t) (hs:xY P t' sz=true) (gL:jL x ps (cq 0 pd)) (hn:Nat.beq pd.length len=true) (hl:Nat.ble 1 (len*sz)=true) (iu:Nat.ble (len*sz) (2 ^ 24)=true)
  (hj:pd.all kY=true) (ha:(pd.all fun d=>Nat.beq (cellsOf d).length sz)=true) (jV:pd.flatMap cellsOf=ds):ga P G x o [] (fun y=>y=x.put t (.list sz ds len)):=by
 obtain⟨e,z,hu,iK,hz,hne⟩:=agZ hs;have hlen:pd.length=len:=Nat.eq_of_beq_eq_true hn;have DW:ds.length=len*sz:=by
  rw[←jV,←hlen];clear gL hn hlen jV hj;induction pd with
  | nil=>simp
  | cons a r ih =>
   rw[all_cons,Bool.and_eq_true] at ha;rw[flatMap_cons,length_append,ih ha.2,Nat.eq_of_beq_eq_true ha.1,length_cons,Nat.succ_mul,Nat.add_comm]
 intro C a w K Q hG h hK;refine IG (hne:=hne) (zs:=((Array.range (len*sz)).map (fun i=>z.cells[i % z.cells.size]!)).toList.map .v) (ds:=ds) ho hd hz hu iK (Nat.le_of_ble_eq_true hl) (Nat.le_of_ble_eq_true iu) ?_ ?_ ?_ ?_ C a w K Q hG h fun y a' w' hy O uW E=>?_
 ·rw[map_map,Array.toList_map,map_map];apply Array.ext';simp[Function.comp_def]
 ·intro d hd;obtain⟨u,_,rfl⟩:=mem_map.1 hd;exact⟨u,rfl⟩
 ·rw[gL.eq];exact By (aam hj 0)
 ·rw[gL.eq];exact QH ha (by rw[hlen];simp) jV
 obtain⟨b,rfl⟩:=hy;have I:len≤maxLen:=by
  have h1:=Nat.le_of_ble_eq_true hl;have h2:=Nat.le_of_ble_eq_true iu;have h3:1≤sz:=Nat.pos_of_ne_zero fun h0=>by rw[h0] at h1;omega
  have h4:len*1≤len*sz:=Nat.mul_le_mul_left _ h3;have:maxLen=9223372036854775807:=rfl;omega
 have hg:=Wk.vR (hne:=hne) (k:=0) (t:=t) (sz:=sz) (m:=len) (cap:=len) (B:=⟨b,e,ds.length,ds⟩) (n:=x.n) (l:=(t,.v (.slice (some ⟨b,0,none⟩) len len))::x.env) (S:=⟨b,e,ds.length,ds⟩::x.S) (cs:=ds) rfl fP rfl DW (Nat.le_refl _) I;refine hK (x.put t (.list sz ds len)) a' w' rfl ?_ uW ?_
 ·have h1:=hg C a' w' O;refine⟨h1.defers,h1.size,fun q hq=>?_,h1.own,h1.fr,h1.ex,h1.eV⟩;have h2:=h1.env q hq;simp only[gh] at h2;simp only[St.put,gh];by_cases e1:t=q
  ·rw[if_pos e1] at h2 ⊢;exact h2
  rw[if_neg e1] at h2 ⊢;rw[if_neg e1] at h2;exact h2
 exact⟨E.os,E.tape,E.output,E.size,fun U h1 h2=>⟨(E.block U h1 h2).1,fun h3=>(E.block U h1 h2).2 (mem_cons_of_mem _ h3)⟩⟩
theorem YP {len:Nat} {pd:List D} (K:PE c P G n S ops ts l ((t,.list sz ds len)::e) R) (ho:o.op = .buildSlice t' len ps.toArray:=by exact rfl)
  (hd:o.dst=some t:=by exact rfl) (hr:fJ (kL ops o) e lr:=by exact jF) (gL:jL ⟨n,lr,S⟩ ps (cq 0 pd):=by exact H8) (hs:xY P t' sz=true:=by exact sc.h) (hq:(!c||mC ops o (kL ops o))=true:=by kernel_rfl) (hw:cj ops ⟨n,lr,S⟩ o true:=by exact pI)
  (hn:Nat.beq pd.length len=true:=by exact rfl) (hl:Nat.ble 1 (len*sz)=true:=by exact rfl) (iu:Nat.ble (len*sz) (2 ^ 24)=true:=by exact rfl) (hj:pd.all kY=true:=by exact rfl) (ha:(pd.all fun d=>Nat.beq (cellsOf d).length sz)=true:=by exact rfl) (jV:pd.flatMap cellsOf=ds:=by exact rfl):PE c P G n S ops ts (o::l) e R:=.cons hd hr hq hw (adk ho hd hs gL hn hl iu hj ha jV) K
theorem Ot {α:Type} {g:α→List D} (ls:List α) {len:Nat} {pd:List D} (K:PE c P G n S ops ts l ((t,.list sz (ls.flatMap g) ls.length)::e) R) (ho:o.op = .buildSlice t' len ps.toArray:=by exact rfl)
  (hd:o.dst=some t:=by exact rfl) (hr:fJ (kL ops o) e lr:=by exact jF) (gL:jL ⟨n,lr,S⟩ ps (cq 0 pd):=by exact H8) (hs:xY P t' sz=true:=by exact sc.h) (hq:(!c||mC ops o (kL ops o))=true:=by kernel_rfl) (hw:cj ops ⟨n,lr,S⟩ o true:=by exact pI)
  (hn:Nat.beq pd.length len=true:=by exact rfl) (hl:Nat.ble 1 (len*sz)=true:=by exact rfl) (iu:Nat.ble (len*sz) (2 ^ 24)=true:=by exact rfl) (hj:pd.all kY=true:=by exact rfl) (ha:(pd.all fun d=>Nat.beq (cellsOf d).length sz)=true:=by exact rfl) (hlen:len=ls.length:=by exact rfl) (jV:pd.flatMap cellsOf=ls.flatMap g:=by exact rfl):PE c P G n S ops ts (o::l) e R:=by
 subst hlen;exact YP K ho hd hr gL hs hq hw hn hl iu hj ha jV
theorem Ou{x:St}(h:bW P G x o kd d:=by first|exact bI|exact fb_|exact lc_|exact ajX|exact ajY|exact iy_|exact N9|exact yy|exact qm|exact xU|exact vM|exact lB|exact bd_|exact cv_|exact lr_|exact fv_|exact DT|fail):bW P G x o kd d:=h
structure PK (k:Nat) (P:Program) (G:List (Nat×List Value)) (n:Nat) (S:List ah) (ops:Array Oper) (l:List Oper) (e:List (Nat×D)) (l2:List Oper) (e':List (Nat×D)):Prop where
 h:PD false P G n S ops l e l2 e'
theorem PK.z:PK 0 P G n S ops l e l e:=⟨.nil⟩
theorem PK.s(hd:o.dst=some t)(hr:fJ (kL ops o) e lr)(hw:cj ops ⟨n,lr,S⟩ o true)(h:bW P G ⟨n,lr,S⟩ o kd d)(K:PK k P G n S ops l ((t,d)::e) l2 e'):PK (k+1) P G n S ops (o::l) e l2 e':=⟨.cons hd hr rfl hw (h.gk hd) K.h⟩
theorem PK.f(hd:o.dst=some t)(hr:fJ (At ops o) e lr)(hw:cj ops ⟨n,lr,S⟩ o false)(K:PK k P G n S ops l ((t,.v (.tuple #[]))::e) l2 e'):PK (k+1) P G n S ops (o::l) e l2 e':=⟨.skip hd hr rfl hw K.h⟩
theorem DX(h:PK k P G n S ops l e l2 e':=by repeat (first|exact PK.z|(apply PK.s;exact rfl;(focus exact jF);(focus exact pI);(focus exact Ou))|(apply PK.f;exact rfl;(focus exact jF);(focus exact H7)))):PK k P G n S ops l e l2 e':=h
theorem aH(k:Nat)(K:OD P C ops l2 ⟨n,e',S⟩ Q)(h:PK k P C.G n S ops l e l2 e':=by exact DX):OD P C ops l ⟨n,e,S⟩ Q:=h.h.od K
theorem aB{d:Code}(k:Nat)(K:OD P C l.toArray l2 ⟨n,e',S⟩ (CV P C d Q))(h0:CD P C (.seq (.region id l.toArray false) d) ⟨n,e,S⟩ Q→p:=by exact nM)(h:PK k P C.G n S l.toArray l e l2 e':=by exact DX):p:=h0 (CD.seq (CD.region (h.h.od K)))
theorem dY(k:Nat)(K:OD P C l.toArray l2 ⟨n,e',S⟩ Q)(h0:CD P C (.region id l.toArray false) ⟨n,e,S⟩ Q→p:=by exact nM)(h:PK k P C.G n S l.toArray l e l2 e':=by exact DX):p:=h0 (CD.region (h.h.od K))
theorem yG(k:Nat)(K:OD P C ops l2 ⟨n,e',S⟩ Q)(h:PK k P C.G n S ops l e l2 e':=by repeat (first|exact PK.z|(apply PK.f;exact rfl;(focus exact jF);(focus exact mP rfl rfl rfl lk jC)))):OD P C ops l ⟨n,e,S⟩ Q:=h.h.od K
theorem bp(ts:List Nat)(K:Q .normal ⟨n,l',S⟩)(h:PK k P C.G n S ops l e [] e':=by exact DX)(hr:fJ ts e' l':=by exact jF):OD P C ops l ⟨n,e,S⟩ Q:=h.h.od (Yw ts K hr)
theorem cM{d:Code}(ts:List Nat)(h:PE c P C.G n S l.toArray ts l e fun l'=>CD P C d ⟨n,l',S⟩ Q)(h0:CD P C (.seq (.region id l.toArray c) d) ⟨n,e,S⟩ Q→p:=by exact nM)(hm:(!c||P.follows .mixedOrders)=true:=by kernel_rfl)(hp:(!c||mG l.toArray)=true:=by kernel_rfl):p:=by
 obtain⟨e',l',h1,h2,K⟩:=h;exact h0 (CD.seq (CD.pd (by intro hc;subst hc;simpa using hm) (by intro hc;subst hc;simpa using hp) h1 (CD.wk (Wk.kK h2.kK) K)))
def WC(Q:Exit→St→Prop):Prop:=∀n e l' S,nV e l'→Q .normal ⟨n,l',S⟩→Q .normal ⟨n,e,S⟩
theorem WC.then{d:Code}:WC (CV P C d Q):=fun n e l' S h k=>CD.wk (Wk.kK h) k
theorem WC.cut{E:St→Prop}:WC (N7 E Q):=fun n e l' S h ⟨z,h1,h2⟩=>⟨z,(Wk.kK h).trans h1,h2⟩
theorem WC.round{ι:Type}{I:ι→St→Prop}{μ:ι→Nat}{i:ι}:WC (Cz I μ i Q):=fun n e l' S h ⟨j,z,h1,h2,h3⟩=>⟨j,z,h1,(Wk.kK h).trans h2,h3⟩
theorem WC.inBlock(h:WC Q):WC (B7 id Q):=h
theorem WC.body:WC (Body P fn post):=fun n e l' S h ⟨h1,r,S',h2,h3,h4⟩=>⟨h1,r,S',h2,fun C a w hs=>h3 C a w (Wk.kK h C a w hs),h4⟩
theorem YQ(h:WC Q:=by repeat (first|exact WC.then|exact WC.cut|exact WC.round|exact WC.body|apply WC.inBlock)):WC Q:=h
theorem iU(ts:List Nat)(h:PE c P C.G n S l.toArray ts l e fun l'=>Q .normal ⟨n,l',S⟩)(h0:CD P C (.region id l.toArray c) ⟨n,e,S⟩ Q→p:=by exact nM)(hm:(!c||P.follows .mixedOrders)=true:=by kernel_rfl)(hp:(!c||mG l.toArray)=true:=by kernel_rfl)(hQ:WC Q:=by exact YQ):p:=by
 obtain⟨e',l',h1,h2,K⟩:=h;exact h0 (CD.pd (by intro hc;subst hc;simpa using hm) (by intro hc;subst hc;simpa using hp) h1 (hQ _ _ _ _ h2.kK K))
structure PL (k:Nat) (c:Bool) (P:Program) (G:List (Nat×List Value)) (n:Nat) (S:List ah) (ops:Array Oper) (ts:List Nat) (l:List Oper) (e:List (Nat×D)) (l2:List Oper) (e':List (Nat×D)):Prop where
 h:∀R,PE c P G n S ops ts l2 e' R→PE c P G n S ops ts l e R
theorem Ky{pd:List D}{len:Nat}(hn:Nat.beq pd.length len=true)(ha:(pd.all fun d=>Nat.beq (cellsOf d).length sz)=true):Nat.beq (pd.flatMap cellsOf).length (len*sz)=true:=by
 have:(pd.flatMap cellsOf).length=pd.length*sz:=by
  clear hn;induction pd with
  | nil=>simp
  | cons a r ih =>
   rw[all_cons,Bool.and_eq_true] at ha;rw[flatMap_cons,length_append,ih ha.2,Nat.eq_of_beq_eq_true ha.1,length_cons,Nat.succ_mul,Nat.add_comm]
 rw[this,Nat.eq_of_beq_eq_true hn];exact Nat.beq_refl _
theorem PL.z:PL 0 c P G n S ops ts l e l e:=⟨fun _ h=>h⟩
theorem PL.s(hd:o.dst=some t)(hr:fJ (kL ops o) e lr)(hw:cj ops ⟨n,lr,S⟩ o true)(h:bW P G ⟨n,lr,S⟩ o kd d)(hq:(!c||mC ops o (kL ops o))=true)(K:PL k c P G n S ops ts l ((t,d)::e) l2 e'):PL (k+1) c P G n S ops ts (o::l) e l2 e':=⟨fun R h1=>YO hd hr h (K.h R h1) hq hw⟩
theorem PL.f(hd:o.dst=some t)(hr:fJ (At ops o) e lr)(hw:cj ops ⟨n,lr,S⟩ o false)(hq:(!c||mC ops o (At ops o))=true)(K:PL k c P G n S ops ts l ((t,.v (.tuple #[]))::e) l2 e'):PL (k+1) c P G n S ops ts (o::l) e l2 e':=⟨fun R h1=>pf_ (K.h R h1) hd hr hq hw⟩
theorem PL.r {len:Nat} {pd:List D} (ho:o.op = .buildSlice t' len ps.toArray) (hd:o.dst=some t) (hr:fJ (kL ops o) e lr) (gL:jL ⟨n,lr,S⟩ ps (cq 0 pd)) (hs:xY P t' sz=true) (hw:cj ops ⟨n,lr,S⟩ o true)
  (hn:Nat.beq pd.length len=true) (hl:Nat.ble 1 (len*sz)=true) (iu:Nat.ble (len*sz) (2 ^ 24)=true) (hj:pd.all kY=true) (ha:(pd.all fun d=>Nat.beq (cellsOf d).length sz)=true) (hq:(!c||mC ops o (kL ops o))=true) (jV:mH (len*sz) (pd.flatMap cellsOf) ds) (K:PL k c P G n S ops ts l ((t,.list sz ds len)::e) l2 e'):PL (k+1) c P G n S ops ts (o::l) e l2 e' :=
 ⟨fun R h1=>YP (K.h R h1) ho hd hr gL hs hq hw hn hl iu hj ha (jV.whole (Ky hn ha))⟩
theorem Au(h:PL k c P G n S ops ts l e l2 e':=by repeat (first|exact PL.z|(apply PL.s;exact rfl;(focus exact jF);(focus exact pI);(focus exact Ou);(focus kernel_rfl))|(apply PL.f;exact rfl;(focus exact jF);(focus exact H7);(focus kernel_rfl))|(apply PL.r;exact rfl;exact rfl;(focus exact jF);(focus exact H8);(focus exact sc.h);(focus exact pI);(iterate 5 (focus exact rfl));(focus kernel_rfl);(focus exact nC)))):PL k c P G n S ops ts l e l2 e':=h
theorem mI(k:Nat)(K:PE c P G n S ops ts l2 e' R)(h:PL k c P G n S ops ts l e l2 e':=by exact Au):PE c P G n S ops ts l e R:=h.h R K
theorem aR(k:Nat)(K:PE c P G n S ops ts l2 ((t,d)::e') R)(h1:PL k c P G n S ops ts l e (o::l2) e':=by exact Au)(hd:o.dst=some t:=by exact rfl)(hr:fJ (kL ops o) e' lr:=by exact jF)(h:bW P G ⟨n,lr,S⟩ o kd d)(hq:(!c||mC ops o (kL ops o))=true:=by kernel_rfl)(hw:cj ops ⟨n,lr,S⟩ o true:=by exact pI):PE c P G n S ops ts l e R:=h1.h R (YO hd hr h K hq hw)
theorem YR(h:PL k c P G n S ops ts l e l2 e':=by (repeat (first|(apply PL.s;exact rfl;(focus exact jF);(focus exact pI);(focus exact Ou);(focus kernel_rfl))|(apply PL.f;exact rfl;(focus exact jF);(focus exact H7);(focus kernel_rfl))|(apply PL.r;exact rfl;exact rfl;(focus exact jF);(focus exact H8);(focus exact sc.h);(focus exact pI);(iterate 5 (focus exact rfl));(focus kernel_rfl);(focus exact nC))|fail));exact PL.z):PL k c P G n S ops ts l e l2 e':=h
theorem cN {f:Nat} {args:List D} {r:D} (hc:VP P G f args r) (K:PE c P G n S ops ts l2 ((t,r)::e') R) (h1:PL k c P G n S ops ts l e (o::l2) e':=by exact YR) (ho:o.op = .call {callee:=.value fo,args:=de,argTypes:=tt}:=by exact rfl)
  (hd:o.dst=some t:=by exact rfl) (hr:fJ (kL ops o) e' lr:=by exact jF) (hq:(!c||mC ops o (kL ops o))=true:=by kernel_rfl) (hw:cj ops ⟨n,lr,S⟩ o true:=by exact pI) (hf:fo = .func f:=by exact rfl) (fG:xX P f=true:=by kernel_rfl) (ha:nc ⟨n,lr,S⟩ de.toList args:=by exact DU):PE c P G n S ops ts l e R:=h1.h R (pc_ hc K ho hd hr hq hw hf fG ha)
theorem bH(K:R l')(h:PL k c P G n S ops ts l e [] e':=by exact Au)(hr:fJ ts e' l':=by exact jF):PE c P G n S ops ts l e R:=h.h R (jP K hr)
theorem af{d:Code}(ts:List Nat)(K:CD P C d ⟨n,l',S⟩ Q)(h0:CD P C (.seq (.region id l.toArray c) d) ⟨n,e,S⟩ Q→p:=by exact nM)(h:PL k c P C.G n S l.toArray ts l e [] e':=by exact Au)(hr:fJ ts e' l':=by exact jF)(hm:(!c||P.follows .mixedOrders)=true:=by kernel_rfl)(hp:(!c||mG l.toArray)=true:=by kernel_rfl):p:=cM ts (h.h _ (jP K hr)) h0 hm hp
theorem cL {k2 f:Nat} {d':Code} {args:List D} {r:D} {e2:List (Nat×D)} (ts:List Nat) (hc:VP P G f args r) (K:CD P C d' ⟨n,l',S⟩ Q) (h0:CD P C (.seq (.region id l.toArray c) d') ⟨n,e,S⟩ Q→p:=by exact nM) (hG:C.G=G:=by exact rfl) (h1:PL k c P G n S l.toArray ts l e (o::l2) e':=by exact YR) (ho:o.op = .call {callee:=.value fo,args:=de,argTypes:=tt}:=by exact rfl)
  (hd:o.dst=some t:=by exact rfl) (hr:fJ (kL l.toArray o) e' lr:=by exact jF) (hq:(!c||mC l.toArray o (kL l.toArray o))=true:=by kernel_rfl) (hw:cj l.toArray ⟨n,lr,S⟩ o true:=by exact pI) (hf:fo = .func f:=by exact rfl) (fG:xX P f=true:=by kernel_rfl) (ha:nc ⟨n,lr,S⟩ de.toList args:=by exact DU)
  (h2:PL k2 c P G n S l.toArray ts l2 ((t,r)::e') [] e2:=by exact Au) (hs:fJ ts e2 l':=by exact jF) (hm:(!c||P.follows .mixedOrders)=true:=by kernel_rfl) (hp:(!c||mG l.toArray)=true:=by kernel_rfl):p:=by
 subst hG;exact cM ts (cN hc (bH K h2 hs) h1 ho hd hr hq hw hf fG ha) h0 hm hp
theorem cc(ts:List Nat)(K:Q .normal ⟨n,l',S⟩)(h0:CD P C (.region id l.toArray c) ⟨n,e,S⟩ Q→p:=by exact nM)(h:PL k c P C.G n S l.toArray ts l e [] e':=by exact Au)(hr:fJ ts e' l':=by exact jF)(hm:(!c||P.follows .mixedOrders)=true:=by kernel_rfl)(hp:(!c||mG l.toArray)=true:=by kernel_rfl)(hQ:WC Q:=by exact YQ):p:=iU ts (h.h _ (jP K hr)) h0 hm hp hQ
inductive BP:Bool→Prop→Prop→Prop
 | lt {a b:Int}:BP (decide (a<b)) (a<b) (b≤a)
 | le {a b:Int}:BP (decide (a≤b)) (a≤b) (b<a)
 | gt {a b:Int}:BP (decide (a>b)) (a>b) (a≤b)
 | ge {a b:Int}:BP (decide (a≥b)) (a≥b) (a<b)
 | eq {a b:Int}:BP (a==b) (a=b) (¬a=b)
 | ne {a b:Int}:BP (a != b) (¬a=b) (a=b)
 | beq {a b:Bool}:BP (a==b) (a=b) (¬a=b)
 | bne {a b:Bool}:BP (a != b) (¬a=b) (a=b)
 | dec {p:Prop} [Decidable p]:BP (decide p) p (¬p)
 | nn {b:Bool} {p q:Prop} (h:BP b p q):BP (!!b) p q
 | no {b:Bool} {p q:Prop} (h:BP b p q):BP (!b) q p
 | any {b:Bool}:BP b (b=true) (b=false)
theorem BP.ok(h:BP b p q):(b=true→p)∧(b=false→q):=by
 induction h with
 | lt=>exact⟨of_decide_eq_true,fun h=>Int.not_lt.1 (of_decide_eq_false h)⟩
 | le=>exact⟨of_decide_eq_true,fun h=>Int.not_le.1 (of_decide_eq_false h)⟩
 | gt=>exact⟨of_decide_eq_true,fun h=>Int.not_lt.1 (of_decide_eq_false h)⟩
 | ge=>exact⟨of_decide_eq_true,fun h=>Int.not_le.1 (of_decide_eq_false h)⟩
 | eq=>exact⟨by simp,by simp⟩
 | ne=>exact⟨by simp,by simp⟩
 | beq=>exact⟨by simp,by simp⟩
 | bne=>exact⟨by simp,by simp⟩
 | dec=>exact⟨of_decide_eq_true,of_decide_eq_false⟩
 | nn h ih=>exact⟨fun e=>ih.1 (by simpa using e),fun e=>ih.2 (by simpa using e)⟩
 | no h ih=>exact⟨fun e=>ih.2 (by simpa using e),fun e=>ih.1 (by simpa using e)⟩
 | any=>exact⟨id,id⟩
theorem YS(h:BP b p q:=by first|exact .lt|exact .le|exact .eq|exact .ne|exact .gt|exact .ge|exact .beq|exact .bne|exact .dec|(apply BP.nn;focus (first|exact .lt|exact .le|exact .eq|exact .ne|exact .gt|exact .ge|exact .dec|exact .any))|(apply BP.no;focus (first|exact .lt|exact .le|exact .eq|exact .ne|exact .gt|exact .ge|exact .dec|exact .any))|exact .any):BP b p q:=h
theorem av{z:Operand}{d1 d2:Code}{r:Prop}(ht:b=true→p→CD P C d1 x Q)(hf:b=false→q→CD P C d2 x Q)(h0:CD P C (.cond z d1 d2) x Q→r:=by exact nM)(hc:aF x z = .v (.bool b):=by exact ot)(h:BP b p q:=by exact YS):r:=h0 (CD.cond hc (fun e=>ht e (h.ok.1 e)) (fun e=>hf e (h.ok.2 e)))
theorem bY(t:Nat)(h1:b=true→p→OD P C ops l x Q)(h2:b=false→q→OD P C ops l x Q)(hb:look t x.env = .v (.bool b):=by exact lk)(h:BP b p q:=by exact YS):OD P C ops l x Q:=OD.split hb (fun e=>h1 e (h.ok.1 e)) (fun e=>h2 e (h.ok.2 e))
inductive NS:List ah→List ah→Prop
 | r {S:List ah}:NS S S
 | c {b e sz:Nat} {cs cs':List D} {S S':List ah} (hl:Nat.beq cs.length sz=true) (h:mH sz cs cs') (k:NS S S'):NS (⟨b,e,sz,cs⟩::S) (⟨b,e,sz,cs'⟩::S')
 | k {B:ah} {S S':List ah} (k:NS S S'):NS (B::S) (B::S')
theorem NS.eq{S:List ah}(h:NS S S'):S=S':=by
 induction h with
 | r=>rfl
 | c hl h k ih=>rw[h.whole hl,ih]
 | k k ih=>rw[ih]
theorem ns_{S:List ah}(h:NS S S':=by repeat (first|(apply NS.c;exact rfl;(focus exact nC))|apply NS.k|exact NS.r)):NS S S':=h
theorem an(m:Nat)(ts:List Nat)(K:Q .normal ⟨m,l',S'⟩)(h:PK k P C.G n S ops l e [] e':=by exact DX)(hr:fJ ts e' l':=by exact jF)(hS:NS S S':=by exact ns_)(hn:n=m:=by exact rfl):OD P C ops l ⟨n,e,S⟩ Q:=h.h.od (OD.wk (Wk.er hn hS.eq hr.kK) (OD.nil K))
theorem YT{α:Type}{a b:List α}(h:a.Sublist b:=by repeat (first|exact Sublist.refl _|exact nil_sublist _|apply Sublist.cons_cons|apply Sublist.cons)):a.Sublist b:=h
theorem ajZ{l:List (Nat×D)}(h:look t l=d:=by (repeat (first|exact fP|(apply gi;focus (first|rfl|(simp;done)|(congr 2;omega)|(apply eP;first|rfl|assumption|(simp;done))))|(apply fU;focus rfl)));first|done|fail):look t l=d:=h
theorem aj0{l':List (Nat×D)}(h:nV e l':=by repeat (first|exact trivial|refine⟨ajZ,?_⟩)):nV e l':=h
theorem aJ{x:St}{n:Nat}(hn:x.n=n:=by exact rfl)(hS:S'.Sublist x.S:=by exact YT)(h:nV x.env l':=by exact aj0):Wk x ⟨n,l',S'⟩:=Wk.asS hn hS h
theorem cr{a b:Nat}(h:a<b:=by first|omega|(simp only[];omega)|(simp;omega)):a<b:=h
theorem eG{c:Code}{ι:Type}{y:St}(ts:List Nat)(I:List (Nat×D)→List ah→ι→St→Prop)(μ:ι→Nat)(i:ι)(h0:I l' S i y)(round:∀i y,I l' S i y→CD P C c y (Cz (I l' S) μ i Q))(hp:CD P C (.loop c) ⟨n,e,S⟩ Q→p:=by exact nM)(hr:fJ ts e l':=by exact jF)(hw:Wk ⟨n,e,S⟩ y:=by exact aJ):p:=hp (CD.wk hw (CD.loop (I l' S) μ i h0 round))
theorem iL{c d:Code}(ts:List Nat)(I:List (Nat×D)→List ah→St→Prop)(h1:CD P C c ⟨n,e,S⟩ (N7 (I l' S) Q))(h2:∀y,I l' S y→CD P C d y Q)(hr:fJ ts e l':=by exact jF):CD P C (.seq c d) ⟨n,e,S⟩ Q:=CD.cut (I l' S) h1 h2
theorem Bc{y:St}{rv:ResultVar}{d:D}(h:tL P y rv d:=by first|exact zy aQ lk|exact sJ (k:=0) aQ lk rfl rfl (iY aC) (lZ Sz.h) rfl rfl|exact sJ (k:=1) aQ lk rfl rfl (iY aC) (lZ Sz.h) rfl rfl|exact sJ (k:=2) aQ lk rfl rfl (iY aC) (lZ Sz.h) rfl rfl|exact sJ (k:=3) aQ lk rfl rfl (iY aC) (lZ Sz.h) rfl rfl|exact sJ (k:=4) aQ lk rfl rfl (iY aC) (lZ Sz.h) rfl rfl|exact sJ (k:=5) aQ lk rfl rfl (iY aC) (lZ Sz.h) rfl rfl|exact sJ (k:=6) aQ lk rfl rfl (iY aC) (lZ Sz.h) rfl rfl|exact sJ (k:=7) aQ lk rfl rfl (iY aC) (lZ Sz.h) rfl rfl|exact sJ (k:=8) aQ lk rfl rfl (iY aC) (lZ Sz.h) rfl rfl|exact sJ (k:=9) aQ lk rfl rfl (iY aC) (lZ Sz.h) rfl rfl|exact tX (k:=0) aQ lk rfl rfl (iY aC) rfl|exact tX (k:=1) aQ lk rfl rfl (iY aC) rfl|exact tX (k:=2) aQ lk rfl rfl (iY aC) rfl|exact tX (k:=3) aQ lk rfl rfl (iY aC) rfl|exact tX (k:=4) aQ lk rfl rfl (iY aC) rfl|exact tX (k:=5) aQ lk rfl rfl (iY aC) rfl|exact tX (k:=6) aQ lk rfl rfl (iY aC) rfl|exact tX (k:=7) aQ lk rfl rfl (iY aC) rfl|exact tX (k:=8) aQ lk rfl rfl (iY aC) rfl|exact tX (k:=9) aQ lk rfl rfl (iY aC) rfl|fail):tL P y rv d:=h
theorem rv_{y:St}{r:D}(h:tM P fn y r:=by first|exact qG rfl|exact TO rfl Bc|exact Ks rfl Bc Bc|exact abu rfl Bc Bc Bc|fail):tM P fn y r:=h
theorem aM{ex:Exit}{x:St}{r:D}(S':List ah)(hp:post r S')(h0:Body P fn post ex x→p:=by exact nM)(he:ex = .normal∨ex = .ret:=by first|exact .inr rfl|exact .inl rfl)(hS:S'.Sublist x.S:=by exact YT)(hr:tM P fn x r:=by exact rv_):p:=h0 ⟨he,r,S',hS,hr,hp⟩

end Go.Proofs.YtkgmonfgofobaaaGreatDoor.V
namespace Go.Proofs.YtkgmonfgofobaaaGreatDoor.V
open List
open Go.RowKit
variable {P:Program} {C:dK} {G:List (Nat×List Value)} {Q:Exit→St→Prop} {ops:Array Oper} {l l2:List Oper} {o:Oper} {n t:Nat} {d:D} {e e' l':List (Nat×D)} {S S':List ah} {ts:List Nat} {c:Bool} {x:St}
variable {a:Act} {R':Exit→Act→World→Prop} {m id ta:Nat} {ld:Array Bool} {B:List ah} {te:TypeId} {S1:List Nat} {oa:Oper} {zs:List Value}
theorem adm{w:World}{K E:Act→World→Prop}{R:Exit→Act→World→Prop}(h:o.wp P a w K R)(hK:∀a w,K a w→E a w)(hp:∀I a w,R (.panic I) a w→R' (.panic I) a w)(ho:∀a w,R .outgrown a w→R' .outgrown a w):o.wp P a w E R':=by
 unfold Oper.wp at *;generalize (execOp a.eval o).run P w=r at *;cases r with
 | ok z w' =>
  cases z<;>simp only[Oper.upon] at h ⊢ <;>
   first
    | exact hK _ _ h
    | exact Calls.mono h (fun e O he=>by cases e<;>first|exact hK _ _ he|exact hp _ _ _ he|exact(let ⟨a,w,q⟩:=he;⟨a,w,ho a w q⟩))
    | exact Rows.mono h (fun _ _ he=>hK _ _ he)
 | halt z w'=>cases z<;>simp only[Oper.upon] at h ⊢<;>first|exact hp _ _ _ h|exact h
def GG(o:Oper):Bool:=match o.op with
 | .extract _ _=>o.guard.isNone
 | .move _=>o.guard.isNone
 | _=>false
def Ag(ops:Array Oper)(j:Nat)(o:Oper):Bool:=GG o&&(range ops.size).all fun k=>Nat.beq k j||(match ops[k]? with
   | some p=>p.after.any (fun e=>Region.binds .any e&&Nat.beq e.on j)||o.after.any (fun e=>Region.binds .any e&&Nat.beq e.on k)||o.apart ops p
   | none=>true)
def DY(o:Oper):List Nat:=o.after.toList.filterMap fun e=>bif Region.binds .any e then some e.on else none
def C1(ops:Array Oper):Nat→List Nat→List Nat
 | 0,s=>s
 | i+1,s=>C1 ops i (bif s.elem i then (match ops[i]? with|some o=>DY o|none=>[])++s else s)
theorem T2{o:Oper}{k:Nat}(h:k∈DY o):∃e∈o.after,Region.binds .any e=true∧e.on=k:=by
 obtain⟨e,he,hk⟩:=mem_filterMap.1 h;cases hb:Region.binds .any e with
 | true=>rw[hb] at hk;exact⟨e,Array.mem_def.2 he,hb,Option.some.inj hk⟩
 | false=>rw[hb] at hk;cases hk
theorem QK{D:Nat→Prop}(E:∀k o,ops[k]?=some o→D k→∀e∈o.after,Region.binds .any e=true→D e.on):∀(i:Nat) (s:List Nat),(∀k∈s,D k)→∀k∈C1 ops i s,D k
 | 0,s,h=>h
 | i+1,s,h=>by
  unfold C1;refine QK E i _ fun k hk=>?_;cases he:s.elem i with
  | false=>rw[he] at hk;exact h k hk
  | true =>
   rw[he,cond_true] at hk;rcases mem_append.1 hk with hk|hk
   ·cases ho:ops[i]? with
    | none=>rw[ho] at hk;cases hk
    | some o =>
     rw[ho] at hk;obtain⟨e,h1,h2,h3⟩:=T2 hk;rw[←h3];exact E i o ho (h i (elem_iff.1 he)) e h1 h2
   exact h k hk
def qT(m:Nat)(ops:Array Oper):Bool:=(range ops.size).all fun j=>match ops[j]? with
 | some o=>o.after.all (fun e=>!Region.binds .any e||Nat.blt e.on j) &&
  (bif Nat.blt j m then (match o.guard with|some (g,_)=>Nat.blt g m|none=>true)
  else bif Nat.beq j m then (range m).all (fun k=>(C1 ops m (DY o)).elem k||(match ops[k]? with|some p=>Ag ops k p|none=>false)) else o.after.any (fun e=>Region.binds .any e&&Nat.beq e.on (j-1)))
 | none=>true
theorem Ln{o:Oper}{k:Nat}(h:o.after.any (fun e=>Region.binds .any e&&Nat.beq e.on k)=true):∃e∈o.after,Region.binds .any e=true∧e.on=k:=by
 obtain⟨e,he,hb⟩:=Array.any_eq_true'.1 h;rw[Bool.and_eq_true] at hb;exact⟨e,he,hb.1,Nat.eq_of_beq_eq_true hb.2⟩
theorem tY(h:qT m ops=true){j:Nat}{o:Oper}(hj:ops[j]?=some o):(∀e∈o.after,Region.binds .any e=true→e.on<j)∧(j<m→∀g b,o.guard=some (g,b)→g<m) ∧
  (m≤j→(j=m∧∀k,k<m→k∈C1 ops m (DY o)∨(∃p,ops[k]?=some p∧Ag ops k p=true))∨(m<j∧∃e∈o.after,Region.binds .any e=true∧e.on=j-1)) ∧
  (Ag ops j o=true→∀k p,ops[k]?=some p→k≠j→(∃e∈p.after,Region.binds .any e=true∧e.on=j)∨(∃e∈o.after,Region.binds .any e=true∧e.on=k)∨o.apart ops p=true):=by
 have aa:=(Array.getElem?_eq_some_iff.1 hj).1;have:=all_eq_true.1 h j (mem_range.2 aa);simp only[hj,Bool.and_eq_true] at this;obtain⟨h1,h2⟩:=this;have e9:j<m→(match o.guard with|some (g,_)=>Nat.blt g m|none=>true)=true:=fun hm=>by
  have I:Nat.blt j m=true:=Nat.ble_eq_true_of_le hm;rw[I,cond_true] at h2;exact h2
 refine⟨fun e he hb=>?_,fun hm g b hg=>?_,fun hm=>?_,fun hf k p hp O=>?_⟩
 ·have:=Array.all_eq_true'.1 h1 e he;simp only[hb,Bool.not_true,Bool.false_or] at this;exact Nat.le_of_ble_eq_true this
 ·have h3:=e9 hm;rw[hg] at h3;exact Nat.le_of_ble_eq_true h3
 ·have I:Nat.blt j m=false:=by
   cases hq:Nat.blt j m with
   | false=>rfl
   | true=>have:=Nat.le_of_ble_eq_true hq;omega
  rw[I,cond_false] at h2;cases E:Nat.beq j m with
  | false =>
   rw[E,cond_false] at h2;refine .inr ⟨?_,Ln h2⟩;rcases Nat.lt_or_eq_of_le hm with h|h
   ·exact h
   rw[←h,Nat.beq_refl] at E;cases E
  | true =>
   rw[E,cond_true] at h2;refine .inl ⟨Nat.eq_of_beq_eq_true E,fun k hk=>?_⟩;have:=all_eq_true.1 h2 k (mem_range.2 hk);rw[Bool.or_eq_true] at this;rcases this with h3|h3
   ·exact .inl (elem_iff.1 h3)
   refine .inr ?_;cases rm:ops[k]? with
   | none=>rw[rm] at h3;cases h3
   | some p=>rw[rm] at h3;exact⟨p,rfl,h3⟩
 have h3:=hf;unfold Ag at h3;rw[Bool.and_eq_true] at h3;have:=all_eq_true.1 h3.2 k (mem_range.2 (Array.getElem?_eq_some_iff.1 hp).1);have hb:Nat.beq k j=false:=by
  cases hq:Nat.beq k j with
  | false=>rfl
  | true=>exact absurd (Nat.eq_of_beq_eq_true hq) O
 simp only[hb,hp,Bool.false_or,Bool.or_eq_true] at this;rcases this with (h4|h4)|h4
 ·exact .inl (Ln h4)
 ·exact .inr (.inl (Ln h4))
 exact .inr (.inr h4)
theorem adn{R:Exit→Act→World→Prop}(hq:qT m ops=true):∀(k s fuel:Nat) (ld:Array Bool) (a:Act) (w:World),m≤s→s+k=ops.size→k≤fuel→ld.size=ops.size→(∀j,j<s→ld.getD j true=true)→(∀j,s≤j→j<ops.size→ld.getD j true=false)→wpOps P ops R (range' s k) a w→wpAny P .any ops R fuel ld a w:=by
 intro k;induction k with
 | zero =>
  intro s fuel ld a w hs hk hf I h1 h2 h;have hr:Region.ready .any ops ld=[]:=by
   rw[eq_nil_iff_forall_not_mem];intro j hj;obtain⟨q1,o,q2,_⟩:=mem_ready.1 hj;have aa:=(Array.getElem?_eq_some_iff.1 q2).1;rw[h1 j w4] at q1;cases q1
  have hn:R .normal a w:=h;cases fuel with
  | zero=>exact⟨hr,hn⟩
  | succ f=>exact⟨fun _=>hn,by rw[hr];simp⟩
 | succ k ih =>
  intro s fuel ld a w hs hk hf I h1 h2 h;obtain⟨f,rfl⟩:∃f,fuel=f+1:=⟨fuel-1,by omega⟩
  have U:∀e,e<s→ld.getD e false=true:=fun e he=>by
   have:=h1 e he;rw[Array.getD_eq_getD_getElem?] at this ⊢;rw[Array.getElem?_eq_getElem w4] at this ⊢;exact this
  have O:s∈Region.ready .any ops ld:=mem_ready.2 ⟨h2 s (Nat.le_refl _) w4,ops[s]'w4,Array.getElem?_eq_getElem w4,fun e he hb=>U _ ((tY hq (Array.getElem?_eq_getElem w4)).1 e he hb)⟩;refine⟨fun h0=>(by rw[h0] at O;cases O),fun i hi=>?_⟩;obtain⟨q1,o,q2,q3⟩:=mem_ready.1 hi;have fL:=(Array.getElem?_eq_some_iff.1 q2).1;have Z:i=s:=by
   rcases Nat.lt_trichotomy i s with q|q|q
   ·rw[h1 i q] at q1;cases q1
   ·exact q
   rcases(tY hq q2).2.2.1 w4 with h9|⟨_,e,he,hb,jU⟩
   ·omega
   have h5:=q3 e he hb;rw[jU] at h5;have h6:=h2 (i-1) w4 w4;rw[Array.getD_eq_getD_getElem?,Array.getElem?_eq_getElem w4] at h5 h6;simp only[Option.getD_some] at h5 h6;rw[h5] at h6;cases h6
  subst Z;rw[range'_succ,wpOps_cons] at h;have E:∀j,(ld.setIfInBounds i true).getD j true=if j=i then true else ld.getD j true:=fun j=>by
   by_cases hj:j=i
   ·subst hj;simp[Array.getD_eq_getD_getElem?,Array.getElem?_setIfInBounds,I,fL]
   simp[Array.getD_eq_getD_getElem?,Array.getElem?_setIfInBounds,hj,Ne.symm hj]
  refine wpOp_mono (fun a' w' h'=>ih (i+1) f _ a' w' w4 w4 w4 (by simpa using I) (fun j hj=>?_) (fun j hj jD=>?_) h') h
  ·rw[E];split
   ·rfl
   exact h1 j w4
  rw[E,if_neg w4];exact h2 j w4 jD
theorem adp{R:Exit→Act→World→Prop}(hq:qT m ops=true)(hm:m≤ops.size)(hn:∀a w,R' .normal a w→wpOps P ops R (range' m (ops.size-m)) a w)(hp:∀ch a w,R' (.panic ch) a w→R (.panic ch) a w)(ho:∀a w,R' .outgrown a w→R .outgrown a w)(mJ:Region.noSelect ops=true)(hQ:∀(d:Option Nat) v c a w,R (.panic c) (a.put d v) w→R (.panic c) a w) :
  ∀(fuel:Nat) (ld:Array Bool) (a:Act) (w:World),ld.size=m→(∀k o,ops[k]?=some o→ld.getD k false=true→∀e∈o.after,Region.binds .any e=true→ld.getD e.on false=true)→wpAny P .any (ops.toList.take m).toArray R' fuel ld a w→wpAny P .any ops R (fuel+(ops.size-m)) (ld++Array.replicate (ops.size-m) false) a w:=by
 have E:∀i,i<m→(ops.toList.take m).toArray[i]?=ops[i]?:=fun i hi=>by simp[getElem?_take,hi]
 have YU:(ops.toList.take m).toArray.size=m:=(by simp;omega)
 -- what may aj1 up apU the first aqp
 have O:∀(ld:Array Bool) (b:Bool),ld.size=m→∀j,j<m→(ld++Array.replicate (ops.size-m) false).getD j b=ld.getD j b:=fun ld b hs j hj=>by
  rw[Array.getD_eq_getD_getElem?,Array.getD_eq_getD_getElem?,Array.getElem?_append_left w4]
 have WT:∀(ld:Array Bool) (b:Bool),ld.size=m→∀j,m≤j→j<ops.size→(ld++Array.replicate (ops.size-m) false).getD j b=false:=fun ld b hs j hj jD=>by
  rw[Array.getD_eq_getD_getElem?,Array.getElem?_append_right w4,hs];simp[Array.getElem?_replicate,show j-m<ops.size-m by omega]
 have Be:∀(ld:Array Bool),ld.size=m→∀i,i<m→(i∈Region.ready .any ops (ld++Array.replicate (ops.size-m) false)↔i∈Region.ready .any (ops.toList.take m).toArray ld):=fun ld hs i hi=>by
  rw[mem_ready,mem_ready,E i hi,O ld true hs i hi];constructor
  ·rintro⟨q1,o,q2,q3⟩;exact⟨q1,o,q2,fun e he hb=>by have:=q3 e he hb;rwa [O ld false hs _ (Nat.lt_trans ((tY hq q2).1 e he hb) hi)] at this⟩
  rintro⟨q1,o,q2,q3⟩;exact⟨q1,o,q2,fun e he hb=>by rw[O ld false hs _ (Nat.lt_trans ((tY hq q2).1 e he hb) hi)];exact q3 e he hb⟩
 -- ao7 may aj1 up: all have
 have fw:∀(ld:Array Bool),ld.size=m→Region.ready .any (ops.toList.take m).toArray ld=[]→∀j,j<m→ld.getD j true=true:=fun ld hs hr j=>by
  induction j using Nat.strongRecOn with
  | _ j ih =>
   intro hj;cases hl:ld.getD j true with
   | true=>rfl
   | false =>
    have tN:ops[j]?=some (ops[j]'w4):=Array.getElem?_eq_getElem w4;have:j∈Region.ready .any (ops.toList.take m).toArray ld:=mem_ready.2 ⟨hl,ops[j]'w4,by rw[E j hj];exact tN,fun e he hb=>by
     have aa:=(tY hq tN).1 e he hb;have:=ih e.on aa w4;rw[Array.getD_eq_getD_getElem?] at this ⊢;rw[Array.getElem?_eq_getElem w4] at this ⊢;exact this⟩
    rw[hr] at this;cases this
 have nF:∀(fuel:Nat) (ld:Array Bool) (a:Act) (w:World),ld.size=m→ops.size-m≤fuel→Region.ready .any (ops.toList.take m).toArray ld=[]→R' .normal a w→wpAny P .any ops R fuel (ld++Array.replicate (ops.size-m) false) a w:=fun fuel ld a w hs hf hr h =>
  adn hq (ops.size-m) m fuel _ a w (Nat.le_refl _) w4 hf iB (fun j hj=>by rw[O ld true hs j hj];exact fw ld hs hr j hj) (fun j hj jD=>WT ld true hs j hj jD) (hn a w h)
 intro fuel;induction fuel with
 | zero=>intro ld a w hs _ h;rw[Nat.zero_add];exact nF _ ld a w hs (Nat.le_refl _) h.1 h.2
 | succ fuel ih =>
  intro ld a w hs kD h;obtain⟨h1,h2⟩:=h;have Ao:∀i,i∈Region.ready .any (ops.toList.take m).toArray ld→∀k o,ops[k]?=some o→(ld.setIfInBounds i true).getD k false=true→∀e∈o.after,Region.binds .any e=true→(ld.setIfInBounds i true).getD e.on false=true:=fun i hi k o hk hd e he hb=>by
   have GH:∀j,ld.getD j false=true→(ld.setIfInBounds i true).getD j false=true:=fun j hj=>by
    rw[Array.getD_eq_getD_getElem?] at hj ⊢;rw[Array.getElem?_setIfInBounds];split
    ·split
     ·rfl
     rename_i h1 h2;subst h1;rw[Array.getElem?_eq_none w4] at hj;cases hj
    exact hj
   refine GH _ ?_;by_cases YV:i=k
   ·subst YV;obtain⟨q1,o',q2,q3⟩:=mem_ready.1 hi;have I:i<m:=(by have:=(Array.getElem?_eq_some_iff.1 q2).1;omega)
    rw[E i I,hk] at q2;obtain rfl:=Option.some.inj q2;exact q3 e he hb
   refine kD k o hk ?_ e he hb;rw[Array.getD_eq_getD_getElem?,Array.getElem?_setIfInBounds,if_neg YV] at hd;rw[Array.getD_eq_getD_getElem?];exact hd
  by_cases hr:Region.ready .any (ops.toList.take m).toArray ld=[]
  ·exact nF _ ld a w hs w4 hr (h1 hr)
  rw[show fuel+1+(ops.size-m)=(fuel+(ops.size-m))+1 by omega];have s7:∀i,i<m→(ld++Array.replicate (ops.size-m) false).setIfInBounds i true=ld.setIfInBounds i true++Array.replicate (ops.size-m) false:=fun i I=>by
   rw[Array.setIfInBounds_append_left w4]
  by_cases jE:∃f o,f∈Region.ready .any (ops.toList.take m).toArray ld∧ops[f]?=some o∧Ag ops f o=true
  ·
   obtain⟨f,o,hf,wB,Z⟩:=jE;have U:GG o=true:=(by unfold Ag at Z;rw[Bool.and_eq_true] at Z;exact Z.1)
   have H9:f<m:=by
    obtain⟨_,o',q2,_⟩:=mem_ready.1 hf;have:=(Array.getElem?_eq_some_iff.1 q2).1;omega
   have h3:=h2 f hf;unfold wpOp at h3;rw[E f H9,wB] at h3;have hg:o.guard=none:=by
    unfold GG at U;split at U
    ·exact Option.isNone_iff_eq_none.1 U
    ·exact Option.isNone_iff_eq_none.1 U
    cases U
   have Dz:∀(YW:Array Oper),Region.wanted o (yielded YW a.tmps)=true:=fun YW=>by simp[Region.wanted,hg]
   simp only[Dz,if_true] at h3;obtain⟨v,hy,h4⟩:∃v,(∀w',(execOp a.eval o).run P w' = .ok (.value v) w')∧wpAny P .any (ops.toList.take m).toArray R' fuel (ld.setIfInBounds f true) (a.put o.dst v) w:=by
    have hc:(∃v,execOp a.eval o=Sem.pure (.value v))∨∃s,execOp a.eval o=Sem.halt (.stuck s):=by
     unfold GG at U;split at U
     ·rename_i y i Bf;unfold execOp;rw[Bf];show(∃v,(Instr.extract (a.eval y) i).bind _=_)∨∃s,(Instr.extract (a.eval y) i).bind _=_;unfold Instr.extract;split
      ·split
       ·exact .inl ⟨_,rfl⟩
       exact .inr ⟨_,rfl⟩
      exact .inr ⟨_,rfl⟩
     ·rename_i y Bf;unfold execOp;rw[Bf];exact .inl ⟨_,rfl⟩
     cases U
    have wC:¬o.asks P a w:=fun ha=>by
     unfold Oper.asks at ha;rcases hc with ⟨v,e⟩|⟨s,e⟩<;>rw[e] at ha<;>simp[Sem.runT] at ha
    rcases h3 with h3|⟨h3,_⟩
    rotate_left
    ·exact absurd h3 wC
    unfold Oper.wp at h3;rcases hc with ⟨v,e⟩|⟨s,e⟩
    ·refine⟨v,fun w'=>by rw[e];rfl,?_⟩;rw[e] at h3;exact h3
    rw[e] at h3;exact h3.elim
   refine wpAny_first (v:=v) wB (Region.noSelect_spec mJ) (hQ _ _) _ _ a w (fun j oj yH hji lD uQ=>?_) ((Be ld hs f H9).2 hf) (.inl ⟨Dz _,hy⟩) ?_
   ·rcases(tY hq wB).2.2.2 Z j oj yH hji with ⟨e,he,hb,jU⟩|⟨e,he,hb,jU⟩|h5
    ·exact absurd jU (uQ e he hb)
    ·obtain⟨_,o',p1,p2⟩:=mem_ready.1 ((Be ld hs f H9).2 hf);rw[wB] at p1;obtain rfl:=Option.some.inj p1;have h6:=p2 e he hb;rw[jU] at h6;rw[Array.getD_eq_getD_getElem?] at h6 lD;cases hx:(ld++Array.replicate (ops.size-m) false)[j]? with
     | none=>rw[hx] at h6;cases h6
     | some b=>rw[hx] at h6 lD;simp only[Option.getD_some] at h6 lD;rw[h6] at lD;cases lD
    exact h5
   rw[s7 f H9];exact ih _ _ _ (by simpa using hs) (Ao f hf) h4
  have ME:∀i,i∈Region.ready .any ops (ld++Array.replicate (ops.size-m) false)→i<m:=fun i hi=>by
   rcases Nat.lt_or_ge i m with q|q
   ·exact q
   obtain⟨q1,o,q2,q3⟩:=mem_ready.1 hi;refine absurd ?_ hr;rw[eq_nil_iff_forall_not_mem];intro j hj;obtain⟨p1,o',p2,_⟩:=mem_ready.1 hj;have Ov:j<m:=(by have:=(Array.getElem?_eq_some_iff.1 p2).1;omega)
   have aqq:=(Array.getElem?_eq_some_iff.1 q2).1;rcases(tY hq q2).2.2.1 q with ⟨rfl,hw⟩|⟨aa,e,he,hb,jU⟩
   ·rcases hw j Ov with hw|⟨p,h8,h9⟩
    ·have hd:=QK (ops:=ops) (D:=fun k=>ld.getD k false=true) kD i (DY o) (fun k hk=>by
      obtain⟨e,he,hb,jU⟩:=T2 hk;have h5:=q3 e he hb;have h6:=(tY hq q2).1 e he hb;rw[O ld false hs _ h6,jU] at h5;exact h5) j hw
     rw[Array.getD_eq_getD_getElem?,Array.getElem?_eq_getElem w4] at hd p1;simp only[Option.getD_some] at hd p1;rw[hd] at p1;cases p1
    exact jE ⟨j,p,hj,h8,h9⟩
   have h5:=q3 e he hb;rw[jU,WT ld false hs (i-1) w4 w4] at h5;cases h5
  refine⟨fun h0=>?_,fun i hi=>?_⟩
  ·obtain⟨i,hi⟩:=exists_mem_of_ne_nil _ hr;have fL:i<m:=by
    obtain⟨_,o,q2,_⟩:=mem_ready.1 hi;have:=(Array.getElem?_eq_some_iff.1 q2).1;omega
   have:=(Be ld hs i fL).2 hi;rw[h0] at this;cases this
  have I:=ME i hi;have h3:=h2 i ((Be ld hs i I).1 hi);rw[s7 i I];unfold wpOp at h3 ⊢;rw[E i I] at h3;have YX:ops[i]?=some (ops[i]'w4):=Array.getElem?_eq_getElem w4;rw[YX] at h3 ⊢;have hw:Region.wanted (ops[i]'w4) (yielded (ops.toList.take m).toArray a.tmps)=Region.wanted (ops[i]'w4) (yielded ops a.tmps):=by
   unfold Region.wanted;cases hg:(ops[i]'w4).guard with
   | none=>rfl
   | some p =>
    obtain⟨g,b⟩:=p;have:=(tY hq YX).2.1 I g b hg;simp only[yielded,E g this]
  simp only[hw] at h3 ⊢;split
  ·rename_i Ow;simp only[Ow,if_true] at h3;rcases h3 with h3|⟨h3,a0,w0,h4⟩
   ·exact .inl (adm h3 (fun a' w' h'=>ih _ a' w' (by simpa using hs) (Ao i ((Be ld hs i I).1 hi)) h') hp ho)
   exact .inr ⟨h3,a0,w0,ho _ _ h4⟩
  rename_i Ow;simp only[Ow] at h3;exact ih _ _ _ (by simpa using hs) (Ao i ((Be ld hs i I).1 hi)) h3
theorem ag0(mJ:Region.noSelect l.toArray=true)(nN:NP Q)(hq:qT m l.toArray=true)(hm:m≤l.length){fuel:Nat}{w:World}(hs:ld.size=m)(E:∀k,ld.getD k false=false)(h:wpAny P .any (l.take m).toArray (LQ C (Tl P C l.toArray (l.drop m) Q)) fuel ld a w):wpAny P .any l.toArray (LQ C Q) (fuel+(l.length-m)) (ld++Array.replicate (l.length-m) false) a w:=by
 have h1:=adp (P:=P) (ops:=l.toArray) (R:=LQ C Q) (R':=LQ C (Tl P C l.toArray (l.drop m) Q)) hq (by simpa using hm) (fun a w h=>by
  rcases h with ⟨y,h1,h2⟩|⟨h1,_⟩
  ·have:=wpOps_eq_wpList (P:=P) (ops:=l.toArray) (Q:=LQ C Q) (l.drop m) m (fun j=>by simp);rw[length_drop] at this;rw[show l.toArray.size-m=l.length-m by simp,this];exact h2 a w h1
  cases h1) (fun I a w h=>h) (fun a w h=>h) mJ (fun d v=>zZ nN d v) fuel ld a w hs (fun k o hk hd=>by rw[E k] at hd;cases hd)
 simpa using h1 pC
theorem CD.GI (m:Nat) (T:List Nat) (mJ:Region.noSelect l.toArray=true) (nN:NP Q) (hm:P.follows .mixedOrders=true) (hl:m≤l.length) (hq:qT m l.toArray=true) (hT:∀b∈T,b∈ax x.S)
  (h:dZ P C (l.take m).toArray (ax x.S) T m (Array.replicate m false) x (Tl P C l.toArray (l.drop m) Q)):CD P C (.region id l.toArray true) x Q:=fun a w hs =>
 wp_region_any hm (by
  have h1:=h a {w with drawn:=w.drawn+1} ⟨hs.defers,hs.size,fun t ht=>(hs.env t ht).mono fun b _ hn=>⟨rfl,hn⟩,⟨fun B E=>by
   obtain⟨r0,cur,r1,r2,I,O⟩:=hs.own.at_ B E;exact⟨r0,cur,r1,r2,I,fun i hi=>by
    obtain⟨u,hu,hq⟩:=O i hi;exact⟨u,hu,hq.mono fun b _ hn=>⟨rfl,hn⟩⟩⟩,hs.own.apart⟩,⟨hs.fr.os,hs.fr.tape,hs.fr.output,hs.fr.size,hs.fr.block⟩,hs.ex,hs.eV⟩ rfl hT
  have h2:=ag0 mJ nN hq hl bj (fun k=>by rw[Array.getD_eq_getD_getElem?,Array.getElem?_replicate];split<;>rfl) (wpAny_of_held _ _ _ _ h1);rw[Array.replicate_append_replicate,show m+(l.length-m)=l.length by omega] at h2;simpa using h2)
theorem CD.pdT(mJ:Region.noSelect l.toArray=true)(nN:NP Q)(hm:P.follows .mixedOrders=true)(hl:m≤l.length)(hq:qT m l.toArray=true)(hp:mG (l.take m).toArray=true)(h:PD true P C.G n S (l.take m).toArray (l.take m) e [] e')(K:OD P C l.toArray (l.drop m) ⟨n,e',S⟩ Q):CD P C (.region id l.toArray true) ⟨n,e,S⟩ Q :=
 CD.GI m [] mJ nN hm hl hq (fun _ hb=>by cases hb) (by
  have:=dZ.pd (C:=C) (Q:=Tl P C l.toArray (l.drop m) Q) hp pC K;have hz:(l.take m).toArray.size=m:=(by simp;omega)
  rw[hz] at this;exact this)

theorem bK.bare{w:World}(hs:bK C ⟨n,e,B++S⟩ a w):bK ⟨fun b=>C.X b∨b∈ax B,w,ax S,C.G,C.df,C.DH⟩ ⟨n,e,S⟩ a w∧live C.X (B++S)=live (fun b=>C.X b∨b∈ax B) S∧∀b∈ax B,b∉ax S:=by
 have hl:live C.X (B++S)=live (fun b=>C.X b∨b∈ax B) S:=by
  funext b;simp only[live,ax,map_append,mem_append,eq_iff_iff];constructor
  ·rintro(h1|h1|h1)
   ·exact .inl (.inl h1)
   ·exact .inl (.inr h1)
   exact .inr h1
  rintro((h1|h1)|h1)
  ·exact .inl h1
  ·exact .inr (.inl h1)
  exact .inr (.inr h1)
 have I:ax (B++S)=ax B++ax S:=(by simp[ax])
 have hnd:=hs.own.apart;simp only[I] at hnd;have E:∀b∈ax B,b∉ax S:=fun b h1 h2=>(nodup_append.1 hnd).2.2 b h1 b h2 rfl;refine⟨⟨hs.defers,hs.size,fun q hq=>?_,⟨fun A hA=>?_,(nodup_append.1 hnd).2.1⟩,Fr.refl _ _,fun b hb=>?_,fun g hg=>?_⟩,hl,E⟩
 ·have:=hs.env q hq;simp only[hl] at this;exact this
 ·have:=hs.own.at_ A (mem_append_right _ hA);simp only[hl] at this;exact this
 ·rcases hb with hb|hb
  ·obtain⟨h1,h2⟩:=hs.ex b hb;exact⟨Nat.lt_of_lt_of_le h1 hs.fr.size,fun hm=>(hs.fr.block b h1 h2).2 (by simp only[I];exact mem_append_right _ hm)⟩
  obtain⟨A,hA,rfl⟩:=mem_map.1 hb;exact⟨(hs.own.at_ A (mem_append_left _ hA)).1,E _ hb⟩
 obtain⟨⟨h1,h2,h3⟩,h4⟩:=hs.eV g hg;have h5:=hs.fr.block g.1 h1 h2;simp only[I] at h5;exact⟨⟨Nat.lt_of_lt_of_le h1 hs.fr.size,fun hm=>h5.2 (mem_append_right _ hm),fun hm=>hm.elim h3 fun hm=>h5.2 (mem_append_left _ hm)⟩,fun i v hi=>(h4 i v hi).on h5.1⟩
theorem ga.frame(h:ga P G ⟨n,e,S⟩ o [] (fun y=>y=⟨n,(t,d)::e,S⟩)):ga P G ⟨n,e,B++S⟩ o [] (fun y=>y=⟨n,(t,d)::e,B++S⟩):=fun C a w K Q hG hs hK=>by
 obtain⟨uT,hl,E⟩:=hs.bare;have O:ax (B++S)=ax B++ax S:=(by simp[ax])
 refine h ⟨fun b=>C.X b∨b∈ax B,w,ax S,C.G,C.df,C.DH⟩ a w K Q hG uT fun y a' w' hy k hc hf=>?_;subst hy;have I:Fr w (ax (B++S)) w' (ax (B++S)):=⟨hf.os,hf.tape,hf.output,hf.size,fun b h1 h2=>⟨(hf.block b h1 (fun hm=>h2 (by rw[O];exact mem_append_right _ hm))).1,h2⟩⟩
 refine hK _ a' w' rfl ⟨k.defers,k.size,fun q hq=>?_,⟨fun A hA=>?_,hs.own.apart⟩,hs.fr.trans I,hs.ex,hs.eV⟩ hc I
 ·have:=k.env q hq;simp only[hl];exact this
 simp only[hl];rcases mem_append.1 hA with hA|hA
 ·obtain⟨r0,cur,r1,r2,r3,r4⟩:=hs.own.at_ A (mem_append_left _ hA);have U:A.b∈ax B:=mem_map.2 ⟨A,hA,rfl⟩;have Z:=(hf.block A.b r0 (E _ U)).1;refine⟨rC r0 Z,cur,Z.trans r1,r2,r3,fun i hi=>?_⟩;obtain⟨u,hu,hr⟩:=r4 i hi;simp only[hl] at hr;exact⟨u,hu,hr.mono fun b h1 h2=>⟨(hf.block b h1 (fun hm=>h2 (.inr hm))).1,h2⟩⟩
 exact k.own.at_ A hA
theorem cj.frame{b:Bool}(h:cj ops ⟨n,e,S⟩ o b):cj ops ⟨n,e,B++S⟩ o b:=fun C a w hs=>h _ a w hs.bare.1
theorem bK.Vk{a':Act}{w w':World}{v:Value}(h:bK C ⟨n,e,S⟩ a w)(k:bK C ⟨n,(t,d)::l',S'⟩ a' w')(hf:Fr w (ax S) w' (ax S'))(hv:a'.tmps=(a.put (some t) v).tmps):bK C ⟨n,(t,d)::e,S'⟩ a' w':=by
 refine⟨k.defers,k.size,fun q hq=>?_,k.own,k.fr,k.ex,k.eV⟩;by_cases E:t=q
 ·subst E;have:=k.env t hq;simp only[gh,if_pos] at this ⊢;exact this
 have h1:=h.env q hq;have h2:a'.tmps.getD q undef=a.tmps.getD q undef:=(by rw[hv];simp[Act.put,Array.getD_eq_getD_getElem?,Array.getElem?_setIfInBounds,E])
 simp only[gh,if_neg E];rw[h2];exact h1.mono fun b hb hn=>⟨(hf.block b hb (fun hm=>hn (.inr hm))).1,fun hl=>hl.elim (fun hx=>hn (.inl hx)) fun hm=>(hf.block b hb (fun hm=>hn (.inr hm))).2 hm⟩
theorem aaJ{z:Value}(ho:o.op = .alloc te)(hd:o.dst=some t)(hz:∀w,(zeroValue te).run P w = .ok z w)(hne:isMap te=false:=by rfl):ga P G ⟨n,e,S⟩ o [] (fun y=>y=⟨n,(t,.bX)::e,S⟩):=fun C a w K Q hG h hK =>
 E9 (hne:=hne) ho hd hz rfl C a w K Q hG h fun y a' w' ⟨b,hy⟩ hs hc hf=>by
  subst hy;have h1:=Wk.drop n ((t,.v (.pointer (some ⟨b,0,none⟩)))::e) _ S (sublist_cons_self _ _) C a' w' hs;refine hK _ a' w' rfl ⟨h1.defers,h1.size,fun q hq=>?_,h1.own,h1.fr,h1.ex,h1.eV⟩ hc ⟨hf.os,hf.tape,hf.output,hf.size,fun b hb hn=>⟨(hf.block b hb hn).1,hn⟩⟩;have h2:=h1.env q hq;simp only[gh] at h2 ⊢;by_cases e1:t=q
  ·rw[if_pos e1];exact .bX _
  rw[if_neg e1] at h2 ⊢;exact h2
def bx(te:TypeId)(ds:List D):Option Nat→List ah
 | some b=>[⟨b,te,ds.length,ds⟩]
 | none=>[]
theorem afh {eF:List (Nat×D)} {w1:World} {ia:Nat} {ds:List D} (mo:ops[ia]?=some oa) (lS:oa.dst=some ta) (yI:oa.guard=none) (hE:∀S',ga P C.G ⟨n,[],S'⟩ oa [] (xy ⟨n,[],S'⟩ ta te ds))
  (hj:look ta eF = .bX) (hp:mG ops=true) (H:∀i,i<ops.size→Gd P C.G n S ops eF i) (hQ:∀b,Q .normal ⟨n,(ta,.v (.pointer (some ⟨b,0,none⟩)))::eF,⟨b,te,ds.length,ds⟩::S⟩):∀(fuel:Nat) (ld:Array Bool) (env:List (Nat×D)) (ob:Option Nat) (a:Act) (w:World),
  left ops.size ld≤fuel→bK C ⟨n,env,bx te ds ob++S⟩ a w→Fr w1 S1 w (ax (bx te ds ob++S))→(ld.getD ia true=true→∃b,ob=some b∧look ta env = .v (.pointer (some ⟨b,0,none⟩)))→(ld.getD ia true=false→ob=none) →
   (∀q,q≠ta→(∀j o,ops[j]?=some o→o.dst=some q→ld.getD j true=true)→look q env=look q eF)→wpAnyH P .any ops (LQ C Q) (lf w1 S1 []) fuel ld a w:=by
 have Ia:∀j o,ops[j]?=some o→o.dst=some ta→j=ia:=fun j o hj hd=>by
  rcases Nat.lt_trichotomy j ia with q|q|q
  ·obtain⟨t',h1,h2⟩:=(xx hp mo).2;rw[lS] at h1;obtain rfl:=Option.some.inj h1;exact absurd hd (h2 j o q hj)
  ·exact q
  obtain⟨t',h1,h2⟩:=(xx hp hj).2;rw[hd] at h1;obtain rfl:=Option.some.inj h1;exact absurd lS (h2 ia oa q mo)
 have fk:∀(ld:Array Bool) (env:List (Nat×D)) (ob:Option Nat) (a:Act) (w:World),bK C ⟨n,env,bx te ds ob++S⟩ a w→(ld.getD ia true=true→∃b,ob=some b∧look ta env = .v (.pointer (some ⟨b,0,none⟩)))→(∀q,q≠ta→(∀j o,ops[j]?=some o→o.dst=some q→ld.getD j true=true)→look q env=look q eF)→(∀j,j<ops.size→ld.getD j true=true)→LQ C Q .normal a w:=fun ld env ob a w hs hb he fw=>by
  obtain⟨b,rfl,Ox⟩:=hb (fw ia (Array.getElem?_eq_some_iff.1 mo).1);refine .inl ⟨⟨n,(ta,.v (.pointer (some ⟨b,0,none⟩)))::eF,⟨b,te,ds.length,ds⟩::S⟩,⟨hs.defers,hs.size,fun q hq=>?_,hs.own,hs.fr,hs.ex,hs.eV⟩,hQ b⟩;have:=hs.env q hq;simp only[gh];by_cases E:ta=q
  ·subst E;rw[if_pos rfl];rw[Ox] at this;exact this
  rw[if_neg E];rw[he q (fun e=>E e.symm) fun j o hj _=>fw j (Array.getElem?_eq_some_iff.1 hj).1] at this;exact this
 intro fuel;induction fuel with
 | zero =>
  intro ld env ob a w hl hs hf hb jW he;have fw:∀j,j<ops.size→ld.getD j true=true:=fun j hj=>by
   cases hq:ld.getD j true with
   | true=>rfl
   | false=>have:=zB hj hq;omega
  refine⟨?_,fk ld env ob a w hs hb he fw⟩;rw[eq_nil_iff_forall_not_mem];intro j hj;obtain⟨h1,o,h2,_⟩:=mem_ready.1 hj;have:=fw j (Array.getElem?_eq_some_iff.1 h2).1;rw[h1] at this;cases this
 | succ fuel ih =>
  intro ld env ob a w hl hs hf hb jW he;refine⟨fun h0=>fk ld env ob a w hs hb he (Ll hp h0),fun i hi=>?_⟩;obtain⟨lD,o,I,CY⟩:=mem_ready.1 hi;have aa:=(Array.getElem?_eq_some_iff.1 I).1;have WQ:=zB aa lD;have O:∀j,(ld.setIfInBounds i true).getD j true=true↔j=i∨ld.getD j true=true:=fun j=>by
   by_cases hj:j=i
   ·subst hj;have iK:j<ld.size:=by
     rcases Nat.lt_or_ge j ld.size with h|h
     ·exact h
     rw[Array.getD_eq_getD_getElem?,Array.getElem?_eq_none h] at lD;cases lD
    simp[Array.getD_eq_getD_getElem?,Array.getElem?_setIfInBounds,iK]
   simp[Array.getD_eq_getD_getElem?,Array.getElem?_setIfInBounds,hj,Ne.symm hj]
  by_cases sg:i=ia
  ·subst sg;rw[mo] at I;obtain rfl:=Option.some.inj I;obtain rfl:=jW lD;unfold wpOp;rw[mo];have hw:Region.wanted oa (yielded ops a.tmps)=true:=(by simp[Region.wanted,yI])
   simp only[hw,if_true];have lR:bK C ⟨n,[],bx te ds none++S⟩ a w:=⟨hs.defers,hs.size,fun q hq=>.bX _,hs.own,hs.fr,hs.ex,hs.eV⟩
   have h2:=hE (bx te ds none++S) C a w (fun a' w'=>∃b,bK C ⟨n,[(ta,.v (.pointer (some ⟨b,0,none⟩)))],⟨b,te,ds.length,ds⟩::S⟩ a' w'∧Fr w (ax S) w' (ax (⟨b,te,ds.length,ds⟩::S))) (LQ C Q) rfl lR (fun y a' w' ⟨b,hy⟩ U _ Z=>by subst hy;exact⟨b,U,Z⟩);refine .inl (Oper.wp_mono (fun a' w' h3=>?_) (zA h2));obtain⟨⟨b,h4,h5⟩,v,h6⟩:=h3;rw[lS] at h6;have jE:Fr w1 S1 w' (ax (bx te ds (some b)++S)):=hf.trans h5;refine⟨⟨fun b h2 h3=>(jE.block b h2 h3).1,fun b h2=>by cases h2⟩,ih _ ((ta,.v (.pointer (some ⟨b,0,none⟩)))::env) (some b) a' w' w4 (bK.Vk (S:=S) hs h4 h5 h6) jE (fun _=>⟨b,rfl,by rw[gh,if_pos rfl]⟩) (fun h=>by have:=(O i).2 (.inl rfl);rw[this] at h;cases h) fun q hq r9=>?_⟩;rw[gh,if_neg (fun e=>hq e.symm)];refine he q hq fun j oj hj ji=>?_;rcases(O j).1 (r9 j oj hj ji) with rfl|h2
   ·rw[mo] at hj;obtain rfl:=Option.some.inj hj;rw[lS] at ji;exact absurd (Option.some.inj ji).symm hq
   exact h2
  obtain⟨o',t,ts,l',h1,hd,hq,mi,hk,Oy⟩:=H i aa;rw[I] at h1;obtain rfl:=Option.some.inj h1;have MF:t≠ta:=fun e=>sg (Ia i o I (by rw[hd,e]))
  -- what it looks at is there,or nothing is said of it
  have jR:bK C ⟨n,l',bx te ds ob++S⟩ a w:=⟨hs.defers,hs.size,fun q DQ=>by
   by_cases hm:q∈ts
   ·have tP:=hm;rw[←hk] at tP;obtain⟨p,fD,rfl⟩:=mem_map.1 tP;obtain⟨h2,h3⟩:=mi p fD;have h9:=hs.env p.1 DQ;by_cases uO:p.1=ta
    ·rw[←h3,uO,hj];exact .bX _
    have:look p.1 env=look p.1 l':=by
     rw[←h3];refine he p.1 uO fun j oj hj ji=>?_;obtain⟨e1,tH,jd,jU⟩:=FQ hq hj ji h2;have:=CY e1 tH jd;rw[jU] at this;rw[Array.getD_eq_getD_getElem?] at this ⊢;cases hx:ld[j]? with
     | none=>rw[hx] at this;cases this
     | some b=>rw[hx] at this;exact this
    rw[this] at h9;exact h9
   have:look q l' = .bX:=by
    rw[←hk] at hm;exact Fz hm
   rw[this];exact .bX _,hs.own,hs.fr,hs.ex,hs.eV⟩
  have jv:∀(a':Act) (w':World),bK C ⟨n,(t,look t eF)::env,bx te ds ob++S⟩ a' w'→Fr w (ax (bx te ds ob++S)) w' (ax (bx te ds ob++S))→lf w1 S1 [] w'∧wpAnyH P .any ops (LQ C Q) (lf w1 S1 []) fuel (ld.setIfInBounds i true) a' w':=fun a' w' U Z=>by
   have jE:Fr w1 S1 w' (ax (bx te ds ob++S)):=hf.trans Z;have yJ:(ld.setIfInBounds i true).getD ia true=ld.getD ia true:=by
    simp[Array.getD_eq_getD_getElem?,Array.getElem?_setIfInBounds,sg]
   refine⟨⟨fun b h2 h3=>(jE.block b h2 h3).1,fun b h2=>by cases h2⟩,ih _ _ ob a' w' w4 U jE (fun h=>?_) (fun h=>jW (by rw[yJ] at h;exact h)) fun q Ib r9=>?_⟩
   ·rw[yJ] at h;obtain⟨b,h2,h3⟩:=hb h;exact⟨b,h2,by rw[gh,if_neg MF];exact h3⟩
   rw[gh];by_cases E:t=q
   ·rw[if_pos E,E]
   rw[if_neg E];refine he q Ib fun j oj hj ji=>?_;rcases(O j).1 (r9 j oj hj ji) with rfl|h2
   ·rw[I] at hj;obtain rfl:=Option.some.inj hj;rw[hd] at ji;exact absurd (Option.some.inj ji) E
   exact h2
  unfold wpOp;rw[I];rcases Oy with ⟨hw,Oz⟩|⟨hw,hv⟩
  ·simp only[hw.frame (B:=bx te ds ob) C a w jR,if_true];have h2:=Oz.frame (B:=bx te ds ob) C a w (fun a' w'=>bK C ⟨n,(t,look t eF)::l',bx te ds ob++S⟩ a' w'∧Fr w (ax (bx te ds ob++S)) w' (ax (bx te ds ob++S))) (LQ C Q) rfl jR (fun y a' w' hy U _ Z=>by subst hy;exact⟨U,Z⟩);refine .inl (Oper.wp_mono (fun a' w' h3=>?_) (zA h2));obtain⟨⟨h4,h5⟩,v,h6⟩:=h3;rw[hd] at h6;exact jv a' w' (hs.Ac h4 h5 h6) h5
  simp only[hw.frame (B:=bx te ds ob) C a w jR,hd];have:=hs.put (t:=t) (.v (w:=w) (L:=live C.X (bx te ds ob++S)) undef);rw[hv] at jv;exact jv _ w this (Fr.refl _ _)
theorem CD.pdA {ia:Nat} {z:Value} {ds:List D} (mJ:Region.noSelect l.toArray=true) (nN:NP Q) (hm:P.follows .mixedOrders=true) (hl:m≤l.length) (hq:qT m l.toArray=true) (hp:mG (l.take m).toArray=true) (mo:(l.take m)[ia]?=some oa) (ho:oa.op = .alloc te) (lS:oa.dst=some ta) (yI:oa.guard=none) (hz:∀w,(zeroValue te).run P w = .ok z w) (jV:z.cells.toList.map .v=ds)
  (h:PD true P C.G n S (l.take m).toArray (l.take m) e [] e') (hj:look ta e' = .bX) (K:∀b,OD P C l.toArray (l.drop m) ⟨n,(ta,.v (.pointer (some ⟨b,0,none⟩)))::e',⟨b,te,ds.length,ds⟩::S⟩ Q) (hne:isMap te=false:=by rfl):CD P C (.region id l.toArray true) ⟨n,e,S⟩ Q :=
 CD.GI m [] mJ nN hm hl hq (fun _ hb=>by cases hb) (fun a w hs _ _=>by
  have h':PD true P C.G n S (l.take m).toArray (l.take m).toArray.toList e [] e':=(by simpa using h)
  have hg:=h'.xV hp rfl 0 rfl;have E:(l.take m).toArray[ia]?=some oa:=(by simpa using mo)
  have I:(l.take m).toArray.size=m:=(by simp;omega)
  refine afh (Q:=Tl P C l.toArray (l.drop m) Q) E lS yI (fun S'=>E9 (hne:=hne) ho lS hz jV) hj hp (fun i hi=>hg i (Nat.zero_le _) hi) K _ _ e none a w ?_ hs (Fr.refl _ _) (fun h=>?_) (fun _=>rfl) fun q Z U=>?_
  ·rw[I];unfold left;exact Nat.le_trans (length_filter_le _ _) bj
  ·have aa:=(Array.getElem?_eq_some_iff.1 E).1;rw[I] at aa;simp[Array.getD_eq_getD_getElem?,aa] at h
  refine(h'.later fun o ho hd=>?_).symm;obtain⟨j,hj,rfl⟩:=mem_iff_getElem.1 ho;have O:j<(l.take m).toArray.size:=(by simpa using hj)
  have:=U j _ (by rw[←Array.getElem?_toList,getElem?_eq_getElem hj]) hd;rw[I] at O;simp[Array.getD_eq_getD_getElem?,O] at this)
variable {R:List (Nat×D)→Prop}
theorem Wk.ag1(h:nV e e'):Wk ⟨n,(t,d)::e,S⟩ ⟨n,(t,d)::e',S⟩:=fun C a w hs=>⟨hs.defers,hs.size,fun q hq=>by
 have h1:=hs.env q hq;simp only[gh] at h1 ⊢;by_cases e1:t=q
 ·rw[if_pos e1] at h1 ⊢;exact h1
 rw[if_neg e1] at h1 ⊢;rcases h.look q with h2|h2
 ·rw[h2];exact h1
 rw[h2];exact .bX _,hs.own,hs.fr,hs.ex,hs.eV⟩
theorem mE(m:Nat)(ts:List Nat)(h:PE true P C.G n S (l.take m).toArray ts (l.take m) e fun l'=>OD P C l.toArray (l.drop m) ⟨n,l',S⟩ Q)(hm:P.follows .mixedOrders=true:=by kernel_rfl)(hl:Nat.ble m l.length=true:=by kernel_rfl)(hq:qT m l.toArray=true:=by kernel_rfl)(hp:mG (l.take m).toArray=true:=by kernel_rfl)(mJ:Region.noSelect l.toArray=true:=by kernel_rfl)(nN:NP Q:=by exact H6):CD P C (.region id l.toArray true) ⟨n,e,S⟩ Q:=by
 obtain⟨e',l',h1,h2,K⟩:=h;exact CD.pdT mJ nN hm (Nat.le_of_ble_eq_true hl) hq hp h1 (OD.wk (Wk.kK h2.kK) K)
theorem iv(m:Nat)(T:List Nat)(h:dZ P C (l.take m).toArray (ax x.S) T m (Array.replicate m false) x (Tl P C l.toArray (l.drop m) Q))(hT:∀b∈T,b∈ax x.S)(hm:P.follows .mixedOrders=true:=by kernel_rfl)(hl:Nat.ble m l.length=true:=by kernel_rfl)(hq:qT m l.toArray=true:=by kernel_rfl)(mJ:Region.noSelect l.toArray=true:=by kernel_rfl)(nN:NP Q:=by exact H6):CD P C (.region id l.toArray true) x Q:=CD.GI m T mJ nN hm (Nat.le_of_ble_eq_true hl) hq hT h
theorem fB{T:List Nat}{fuel:Nat}{bq:Array Oper}{l2:List Oper}(K:OD P C bq l2 x Q)(hr:Region.ready .any ops ld=[]:=by kernel_rfl):AD P C ops S1 T fuel ld x (Tl P C bq l2 Q):=AD.done hr K
theorem tJ (m ia:Nat) (ts:List Nat) (h:PE true P C.G n S (l.take m).toArray ts (l.take m) e fun l'=>look ta l' = .bX∧∀b,OD P C l.toArray (l.drop m) ⟨n,(ta,.v (.pointer (some ⟨b,0,none⟩)))::l',⟨b,te,(zs.map D.v).length,zs.map .v⟩::S⟩ Q) (hm:P.follows .mixedOrders=true:=by kernel_rfl) (hl:Nat.ble m l.length=true:=by kernel_rfl) (hq:qT m l.toArray=true:=by kernel_rfl) (hp:mG (l.take m).toArray=true:=by kernel_rfl)
  (mo:(l.take m)[ia]?=some oa:=by exact rfl) (ho:oa.op = .alloc te:=by exact rfl) (lS:oa.dst=some ta:=by exact rfl) (yI:oa.guard=none:=by exact rfl) (hz:sV P te=some zs:=by exact Sb.hz) (ht:ts.elem ta=true:=by exact rfl) (hne:isMap te=false:=by rfl) (mJ:Region.noSelect l.toArray=true:=by kernel_rfl) (nN:NP Q:=by exact H6):CD P C (.region id l.toArray true) ⟨n,e,S⟩ Q:=by
 obtain⟨e',l',h1,h2,hj,K⟩:=h;obtain⟨z,h3,h4⟩:=Ca hz;exact CD.pdA (hne:=hne) mJ nN hm (Nat.le_of_ble_eq_true hl) hq hp mo ho lS yI h3 (by rw[h4]) h1 (by rw[←h2.at (mem_of_elem_eq_true ht)];exact hj) fun b=>OD.wk (Wk.ag1 h2.kK) (K b)
theorem pF{c:Bool}{ts:List Nat}(K:PE c P G n S ops ts l ((t,.bX)::e) R)(ho:o.op = .alloc te:=by exact rfl)(hd:o.dst=some t:=by exact rfl)(hg:o.guard=none:=by exact rfl)(hz:sV P te=some zs:=by exact Sb.hz)(hq:(!c||mC ops o [])=true:=by kernel_rfl)(hne:isMap te=false:=by rfl):PE c P G n S ops ts (o::l) e R:=by
 obtain⟨z,h3,_⟩:=Ca hz;exact PE.cons hd fJ.nil hq (sF hg) (aaJ (hne:=hne) ho hd h3) K

end Go.Proofs.YtkgmonfgofobaaaGreatDoor.V
namespace Go.Proofs.YtkgmonfgofobaaaGreatDoor.V
open List
open Go.RowKit
variable {P:Program} {C:dK} {G:List (Nat×List Value)} {Q:Exit→St→Prop} {x:St} {ops:Array Oper} {l:List Oper} {o:Oper} {S1 T:List Nat} {fuel i:Nat} {ld:Array Bool}
variable {t e:TypeId} {sz cap:Nat} {y:Operand} {lo hi:Option Operand} {ad:Option Addr} {Sq:List ah}
theorem IM {len j:Nat} {cs ds:List D} {k:IntKind} {i:Int} {z:Operand} (ho:o.op = .index t y z) (hy:aF x y = .agg cs) (hz:aF x z = .v (.int k i))
  (E:∀w,(underlying t).run P w = .ok (.array len e) w) (hs:∀w,(sizeOf e).run P w = .ok sz w) (ha:∀w,(isAgg e).run P w = .ok true w) (hi:i=j) (hj:j<len) (hd:(cs.drop (j*sz)).take sz=ds):bW P G x o .none (.agg ds):=fun C a w _ h=>by
 have hr:=h.eval y;rw[hy] at hr;generalize hg:a.eval y=u at hr;subst hi hd;cases hr with
 | agg _ vs hl hr =>
  refine⟨.agg ((vs.drop (j*sz)).take sz).toArray,.agg _ _ (by simp[hl]) (fun i h1 h2=>?_),fun w' _=>?_⟩
  ·simp only[getElem_take,getElem_drop];exact hr _ _ _
  unfold execOp;simp[ho,hg,h.flat hz,Instr.index,asIntOf,E,hj,part,ha,asAgg,hs]
theorem ET (ho:o.op = .slice t y lo hi none) (hy:aF x y = .v (.slice none 0 0)) (e9:mT x lo 0 0) (eK:mT x hi 0 0)
  (E:∀w,(underlying t).run P w = .ok (.slice e) w) (hs:∀w,(sizeOf e).run P w = .ok sz w):bW P G x o .none (.v (.slice none 0 0)):=fun C a w _ h =>
 ⟨_,.v _,fun w' _=>by
  have b1:=sI h e9;have b2:=sI h eK;unfold execOp;simp[ho,h.flat hy,Instr.sliceAt,Instr.slice,E,wK b1 b2 (Nat.zero_le _) (Nat.le_refl _),hs]⟩
theorem bn.pos{e n:Nat}{cs:List D}{S:List ah}(h:bn e sz cs n ad cap S)(hn:0<n):∃b,ad=some ⟨b,0,none⟩∧n≤cap∧cap≤maxLen∧S=[⟨b,e,cap*sz,cs⟩]:=by
 rcases h with ⟨h1,_,_,_,_⟩|h
 ·omega
 exact h
theorem EU {e':TypeId} {sz' n k:Nat} {cs:List D} (ho:o.op = .slice t y lo hi none) (hy:aF x y = .v (.slice ad n cap)) (e9:mT x lo 0 0) (eK:mT x hi k n)
  (I:∀w,(underlying t).run P w = .ok (.slice e) w) (hs:∀w,(sizeOf e).run P w = .ok sz w) (hk:k≤n) (E:bn e' sz' cs n ad cap Sq):bW P G x o .none (.v (.slice ad k cap)):=by
 rcases E with ⟨h1,h2,rfl,rfl,rfl⟩|⟨b,rfl,h1,h2,rfl⟩
 ·subst h1;obtain rfl:k=0:=(by omega)
  exact ET ho hy e9 eK I hs
 exact P0 ho hy e9 eK I hs (Nat.le_trans hk h1)
theorem CD.vQ {c:Code} {α:Type} {g:α→List D} {ls:List α} {e k:Nat} {R:List ah} (hg:∀a,(g a).length=sz) (hk:k≤ls.length)
  (E:bn e sz (ls.flatMap g) ls.length ad cap Sq) (hp:x.S.Perm (Sq++R))
  (K:∀S',bn e sz ((ls.take k).flatMap g) (ls.take k).length ad cap S'→CD P C c ⟨x.n,x.env,S'++R⟩ Q):CD P C c x Q:=by
 have dJ:(ls.take k).length=k:=(by rw[length_take];omega)
 refine CD.perm hp ?_;rcases E with ⟨h1,h2,rfl,rfl,rfl⟩|⟨b,rfl,h1,h2,rfl⟩
 ·have hl:ls=[]:=eq_nil_of_length_eq_zero h1;subst hl;exact K [] (.inl ⟨by simp,by simp,rfl,rfl,rfl⟩)
 refine CD.wk (Wk.shrink (n:=x.n) (l:=x.env) (k:=0) (cs':=(ls.take k).flatMap g) rfl ?_) ?_
 ·rw[←ug hg ls];exact take_prefix _ _
 exact K [⟨b,e,cap*sz,(ls.take k).flatMap g⟩] (.inr ⟨b,rfl,by rw[dJ];omega,h2,rfl⟩)
theorem bD.eL {α:Type} {g:α→List D} {ls new:List α} {s:Operand} {t e tt bytes:Nat} {z:Value} {R:List ah} (hg:∀a,(g a).length=sz) (hg1:∀a,(g a).all one=true) (U:ops[i]?=some o) (hw:cj ops x o true) (ho:o.op = .call {callee:=.builtin .append,args:=#[s,y],argTypes:=#[t,t]}) (hd:o.dst=some tt)
  (ht:P.underlying t=some (.slice e)) (hi:(P.info? e).map (fun i=>(i.zero,i.size,i.bytes))=some (some z,sz,bytes)) (fb:z.cells.size=sz) (Z:0<sz)
  (hs:aF x s = .v (.slice ad ls.length cap)) (tN:bn e sz (ls.flatMap g) ls.length ad cap Sq) (hp:x.S.Perm (Sq++R))
  (hy:aF x y = .list sz (new.flatMap g) new.length) (hm:0<new.length) (gK:ls.length+new.length≤maxLen) (I:(ls.length+new.length)*bytes≤140737488355328)
  (K:∀O E,(ls++new).length≤E→E≤maxLen→AD P C ops S1 T fuel (ld.setIfInBounds i true) ⟨x.n,(tt,.v (.slice (some ⟨O,0,none⟩) (ls++new).length E))::x.env,⟨O,e,E*sz,(ls++new).flatMap g⟩::R⟩ Q) (hne:isMap e=false:=by rfl)
  (hT:∀b∈T,b∈ax R:=by first|exact fun b hb=>hb|(intro b hb;simp[ax] at hb ⊢;first|exact hb|exact .inl hb|(rcases hb with hb|hb<;>simp[hb])|(rcases hb with hb|hb|hb<;>simp[hb])|(rcases hb with hb|hb|hb|hb<;>simp[hb])|(rcases hb with hb|hb|hb|hb|hb<;>simp[hb])|(rcases hb with hb|hb|hb|hb|hb|hb<;>simp[hb])|(rcases hb with hb|hb|hb|hb|hb|hb|hb<;>simp[hb])|(rcases hb with hb|hb|hb|hb|hb|hb|hb|hb<;>simp[hb]))):bD P C ops S1 T fuel ld x Q i :=
 bD.Fc (hne:=hne) U hw ho hd ht hi fb Z hs tN hp (cz hg ls) hy (uq hg1 new) hm gK I hT fun O E h1 h2=>by
  have:=K O E (by rw[length_append];exact h1) h2;rw[length_append,flatMap_append] at this;exact this

end Go.Proofs.YtkgmonfgofobaaaGreatDoor.V
namespace Go.Proofs.YtkgmonfgofobaaaGreatDoor.V



open List
open Go.RowKit
variable {P:Program} {C:dK} {G:List (Nat×List Value)} {Q:Exit→St→Prop} {x:St} {ops:Array Oper} {l:List Oper} {o:Oper}
variable {kq kn:IntKind}
theorem Z6 {s y:Operand} {t tn e tt m sz bytes:Nat} {z:Value} (ho:o.op = .call {callee:=.builtin .append,args:=#[s,y],argTypes:=#[t,tn]}) (hd:o.dst=some tt)
  (ht:P.underlying t=some (.slice e)) (OA:P.underlying tn=some (.int kn)) (hi:(P.info? e).map (fun i=>(i.zero,i.size,i.bytes))=some (some z,sz,bytes)) (fb:z.cells.size=sz) (Z:0<sz)
  (hs:aF x s = .v (.slice none 0 0)) (hy:aF x y = .v (.int kq m)) (h0:0<m) (gK:m≤maxLen) (ag2:m*bytes≤140737488355328) (j9:isMap e=false:=by rfl) :
  ga P G x o [] (fun y=>∃b' E,m≤E∧E≤maxLen∧y=⟨x.n,(tt,.v (.slice (some ⟨b',0,none⟩) m E))::x.env,⟨b',e,E*sz,[]⟩::x.S⟩):=fun C a w K Q hG h hK=>by
 obtain⟨i,kC,lQ,pG,qt⟩:=zx hi;have I:=Lib.run_append_nil_zeros (P:=P) w t tn o.type e i z kq kn ht OA kC lQ m h0 (by rw[pG];exact Z) (by simp only[maxLen] at gK;omega) (by rw[qt];omega);have h1:=grownCap_ge w m 0 e;have h2:=grownCap_le_maxLen w m 0 e gK;generalize grownCap w m 0 e=E at I h1 h2;generalize aj2:Builtin.zeroCells z.cells m++Builtin.zeroCells z.cells (E-m)=O at I;have yK:∀q,(Builtin.zeroCells z.cells q).size=q*sz:=fun q=>by simp[Builtin.zeroCells,fb]
 have iK:O.size=E*sz:=by
  rw[←aj2,Array.size_append,yK,yK,←Nat.add_mul];congr 1;omega
 have U:(execOp a.eval o).run P w = .ok (.value (.slice (some ⟨w.heap.size,0,none⟩) m E)) (w.drew.alloc (.cells O e)):=by
  unfold execOp;simp only[ho,resolve,invoke,builtin,Sem.run_bind,Sem.run_pure,Result.andThen_ok,map_toArray,map_cons,map_nil,h.flat hs,h.flat hy,I]
 obtain⟨s1,s2,s3⟩:=h.grown (w':=w.drew.alloc (.cells O e)) (t:=tt) (m:=m) (e:=e) (sz:=sz) (S:=x.S) (cs:=[]) (row:=none) (g:=w.heap.size) (cap:=E) (cur:=O) (hne:=j9) (Sublist.refl _) (fun k hk=>by cases hk)
  ⟨rfl,rfl,rfl,by show w.heap.size≤(w.heap.push _).size;simp,fun k hk _=>getElem?_push_lt (w:=w.drew) hk⟩ (.inr rfl) NN NQ iK (Nat.zero_le _) (fun j hj=>by cases hj)
 unfold Oper.wp;rw[U,Oper.upon_value,hd];exact hK _ _ _ ⟨_,_,h1,h2,rfl⟩ s1 s2 s3
theorem OD.adq {s y:Operand} {t tn e tt m sz bytes:Nat} {z:Value} (hw:cj ops x o true) (ho:o.op = .call {callee:=.builtin .append,args:=#[s,y],argTypes:=#[t,tn]}) (hd:o.dst=some tt)
  (ht:P.underlying t=some (.slice e)) (Z:P.underlying tn=some (.int kn)) (hi:(P.info? e).map (fun i=>(i.zero,i.size,i.bytes))=some (some z,sz,bytes)) (fb:z.cells.size=sz) (O:0<sz)
  (hs:aF x s = .v (.slice none 0 0)) (hy:aF x y = .v (.int kq m)) (h0:0<m) (gK:m≤maxLen) (I:m*bytes≤140737488355328)
  (K:∀U E,m≤E→E≤maxLen→OD P C ops l ⟨x.n,(tt,.v (.slice (some ⟨U,0,none⟩) m E))::x.env,⟨U,e,E*sz,[]⟩::x.S⟩ Q) (j9:isMap e=false:=by rfl):OD P C ops (o::l) x Q :=
 OD.gk hw (Z6 (j9:=j9) ho hd ht Z hi fb O hs hy h0 gK I) fun y ⟨U,E,h1,h2,hy⟩=>hy ▸ K U E h1 h2

end Go.Proofs.YtkgmonfgofobaaaGreatDoor.V
namespace Go.Proofs.YtkgmonfgofobaaaGreatDoor.V
open List
open Go.RowKit
variable {P:Program} {C:dK} {G:List (Nat×List Value)} {Q:Exit→St→Prop} {x:St}
variable {l:List (Nat×D)} {S':List ah} {cs':List D}
def Gv(d d':D):Prop:=∀w L v,cn w L d v→cn w L d' v
theorem bN{d:D}:Gv d d:=fun _ _ _ h=>h
theorem eu{sz:Nat}:Gv (.v (.slice none 0 0)) (.list sz [] 0):=fun _ _ _ h=>by rw[h.k8];exact .nil sz
def qv:List D→List D→Prop
 | [],[]=>True
 | d::r,d'::r'=>Gv d d'∧qv r r'
 | _,_=>False
theorem qv.spec:∀{a b:List D},qv a b→b.length=a.length∧∀i (h:i<a.length) (h':i<b.length),Gv a[i] b[i]
 | [],[],_=>⟨rfl,fun i h=>by simp at h⟩
 | d::r,d'::r',h=>by
  obtain⟨h1,h2⟩:=qv.spec h.2;refine⟨by simp[h1],fun i q E=>?_⟩;cases i with
  | zero=>exact h.1
  | succ i=>exact h2 i (by simpa using q) (by simpa using E)
 | [],_::_,h=>h.elim
 | _::_,[],h=>h.elim
theorem sO{a b:List D}(h:qv a b):Gv (.agg a) (.agg b):=fun w L v hr=>by
 obtain⟨h1,h2⟩:=h.spec;cases hr with
 | agg _ vs hl hq=>exact .agg b vs w4 fun i q E=>h2 i w4 q _ _ _ (hq i w4 E)
theorem Wk.cells{n:Nat}{S:List ah}{k:Nat}{B:ah}(hk:S[k]?=some B)(H:qv B.cs cs')(hS:S.set k {B with cs:=cs'}=S'):Wk ⟨n,l,S⟩ ⟨n,l,S'⟩:=fun C a w h=>by
 subst hS;obtain⟨H1,H2⟩:=H.spec;have dJ:=(List.getElem?_eq_some_iff.1 hk).1;have O:=(List.getElem?_eq_some_iff.1 hk).2;have E:ax (S.set k {B with cs:=cs'})=ax S:=by
  unfold ax;rw[map_set];apply ext_getElem bj;intro i q1 q2;rw[getElem_set];split
  ·rename_i e;subst e;simp[O]
  rfl
 have I:live C.X (S.set k {B with cs:=cs'})=live C.X S:=(by funext b;simp only[live,E])
 refine⟨h.defers,h.size,fun t ht=>?_,⟨fun B' U=>?_,?_⟩,?_,h.ex,h.eV⟩
 ·simp only[I];exact h.env t ht
 ·simp only[I];obtain⟨p,hp,ir⟩:=mem_iff_getElem.1 U;rw[length_set] at hp;rw[getElem_set] at ir;by_cases e:k=p
  ·rw[if_pos e] at ir;subst ir;obtain⟨r0,cur,r1,r2,r3,r4⟩:=h.own.at_ B (mem_of_getElem? hk);refine⟨r0,cur,r1,r2,by show cs'.length≤B.size;omega,fun q hq=>?_⟩;have Z:q<cs'.length:=hq;obtain⟨u,hu,hqr⟩:=r4 q w4;exact⟨u,hu,H2 q w4 Z _ _ _ hqr⟩
  rw[if_neg e] at ir;subst ir;exact h.own.at_ _ (getElem_mem hp)
 ·simp only[E];exact h.own.apart
 simp only[E];exact h.fr
theorem CD.cells{c:Code}{S':List ah}{k:Nat}{B:ah}{cs':List D}(hk:x.S[k]?=some B)(H:qv B.cs cs')(hS:x.S.set k {B with cs:=cs'}=S')(K:CD P C c ⟨x.n,x.env,S'⟩ Q):CD P C c x Q:=CD.wk (Wk.cells (n:=x.n) (l:=x.env) (S:=x.S) hk H hS) K
theorem Wk.JL {n i j m cap e sz:Nat} {S Sq R:List ah} {A:ah} {cs:List D} {ad:Option Addr} (ho:bn e sz cs m ad cap Sq) (hl:cs.length=m*sz) (hp:S.Perm (Sq++R)) (hj:R[j]?=some A) (hi:A.cs[i]?=some (.v (.slice ad m cap)))
  (E:A.cs.set i (.list sz cs m)=cs') (hS:R.set j {A with cs:=cs'}=S') (hne:isMap e=false:=by rfl):Wk ⟨n,l,S⟩ ⟨n,l,S'⟩:=by
 refine(Wk.perm hp).trans ?_;rcases ho with ⟨rfl,rfl,rfl,rfl,rfl⟩|⟨b,rfl,h1,h2,rfl⟩
 ·refine Wk.cells (B:=A) hj ?_ hS;subst E;have key:∀(I:List D) (i:Nat),I[i]?=some (.v (.slice none 0 0))→qv I (I.set i (.list sz [] 0)):=by
   have O:∀r:List D,qv r r:=by
    intro r;induction r with
    | nil=>trivial
    | cons d r ih=>exact⟨bN,ih⟩
   intro I;induction I with
   | nil=>intro i h;simp at h
   | cons d r ih =>
    intro i h;cases i with
    | zero=>simp only[getElem?_cons_zero,Option.some.injEq] at h;subst h;exact⟨eu,O r⟩
    | succ i=>simp only[getElem?_cons_succ] at h;exact⟨bN,ih i h⟩
  exact key _ _ hi
 exact Wk.agM (hne:=hne) (k:=0) rfl hj hi rfl hl h1 h2 E hS
theorem CD.JL {c:Code} {i j m cap e sz:Nat} {Sq R S':List ah} {A:ah} {cs cs':List D} {ad:Option Addr} (ho:bn e sz cs m ad cap Sq) (hl:cs.length=m*sz) (hp:x.S.Perm (Sq++R)) (hj:R[j]?=some A) (hi:A.cs[i]?=some (.v (.slice ad m cap)))
  (E:A.cs.set i (.list sz cs m)=cs') (hS:R.set j {A with cs:=cs'}=S') (K:CD P C c ⟨x.n,x.env,S'⟩ Q) (hne:isMap e=false:=by rfl):CD P C c x Q:=CD.wk (Wk.JL (hne:=hne) (n:=x.n) (l:=x.env) (S:=x.S) ho hl hp hj hi E hS) K

end Go.Proofs.YtkgmonfgofobaaaGreatDoor.V

namespace Go.Proofs.YtkgmonfgofobaaaGreatDoor.V
open List
open Go.RowKit
variable {P:Program} {C:dK} {G:List (Nat×List Value)} {Q:Exit→St→Prop} {x:St} {ops:Array Oper} {l:List Oper} {o:Oper} {S1 T:List Nat} {fuel i:Nat} {ld:Array Bool}
theorem bD.LY {f t:Nat} {fo:Operand} {de:Array Operand} {ts:Array TypeId} {args:List D} {post:D→List ah→Prop} (hi:ops[i]?=some o) (hw:cj ops x o true) (ho:o.op = .call {callee:=.value fo,args:=de,argTypes:=ts}) (hd:o.dst=some t)
  (hf:fo = .func f) (fG:∀args w,(callFunc f args).run P w = .ok (.enter f args) w) (hc:VC P C.G f args [] post) (hr:∀r S',post r S'→kZ r=true∧∀B∈S',∀d∈B.cs,kZ d=true) (ha:Looks x de.toList args)
  (K:∀r S',post r S'→AD P C ops S1 T fuel (ld.setIfInBounds i true) ⟨x.n,(t,r)::x.env,S'++x.S⟩ Q):bD P C ops S1 T fuel ld x Q i :=
 bD.gk hi hw (I9 ho hd hf fG hc hr ha) (fun _ _ _ _ b _ hb=>by simp at hb) (fun b hb=>by simp at hb) fun y ⟨r,S',hp,hy⟩=>hy ▸ K r S' hp
theorem T3:∀r:List D,qv r r
 | []=>trivial
 | _::r=>⟨bN,T3 r⟩
theorem T4{d d':D}(h:Gv d d'):∀(r:List D) (i:Nat),qv (r.set i d) (r.set i d')
 | [],_=>trivial
 | _::r,0=>⟨h,T3 r⟩
 | _::r,i+1=>⟨bN,T4 h r i⟩
theorem OD.cells{S':List ah}{k:Nat}{B:ah}{cs':List D}(hk:x.S[k]?=some B)(H:qv B.cs cs')(hS:x.S.set k {B with cs:=cs'}=S')(K:OD P C ops l ⟨x.n,x.env,S'⟩ Q):OD P C ops l x Q:=OD.wk (Wk.cells (n:=x.n) (l:=x.env) (S:=x.S) hk H hS) K

theorem Wk.ag3{n t:Nat}{r d':D}{l:List (Nat×D)}{S R Sd:List ah}(hp:S.Perm (R++Sd))(ht:View Sd r d'):Wk ⟨n,(t,r)::l,S⟩ ⟨n,(t,d')::l,R⟩:=fun C a w h0=>by
 have h:=Wk.perm (n:=n) (env:=(t,r)::l) hp C a w h0;have h1:bK C ⟨n,(t,r)::l,R⟩ a w:=Wk.drop n ((t,r)::l) _ R (sublist_append_left _ _) C a w h;refine⟨h1.defers,h1.size,fun q hq=>?_,h1.own,h1.fr,h1.ex,h1.eV⟩;rw[gh];by_cases e:t=q
 ·subst e;rw[if_pos rfl];have hL:live C.X (R++Sd)=live (fun b=>live C.X R b) Sd:=by
   funext b;simp only[live,ax,map_append,mem_append];exact propext or_assoc.symm
  have hnd:(ax R++ax Sd).Nodup:=(by have:=h.own.apart;simpa[ax] using this)
  have I:∀b,live C.X R b→b∉ax Sd:=fun b hb hm=>by
   rcases hb with hb|hb
   ·exact h.A6 b hb (by simp only[ax,map_append,mem_append] at hm ⊢;exact .inr hm)
   exact(nodup_append.1 hnd).2.2 b hb b hm rfl
  have E:Own w (live (fun b=>live C.X R b) Sd) Sd:=⟨fun B O=>by rw[←hL];exact h.own.at_ B (mem_append_right _ O),(nodup_append.1 hnd).2.1⟩
  have h3:=h.env t hq;rw[gh,if_pos rfl] at h3;simp only[hL] at h3;exact ht (fun b=>live C.X R b) _ w _ (fun b hb=>hb) I E h3
 rw[if_neg e];have h3:=h1.env q hq;rwa [gh,if_neg e] at h3
theorem abC {f t:Nat} {fo:Operand} {de:Array Operand} {ts:Array TypeId} {args:List D} {post:D→List ah→Prop} {d:D} (ho:o.op = .call {callee:=.value fo,args:=de,argTypes:=ts}) (hd:o.dst=some t)
  (hf:fo = .func f) (fG:∀args w,(callFunc f args).run P w = .ok (.enter f args) w) (hc:VC P G f args [] post) (hr:∀r S',post r S'→kZ r=true∧∀B∈S',∀d∈B.cs,kZ d=true) (hv:∀r S',post r S'→View S' r d) (ha:Looks x de.toList args) :
  ga P G x o [] (fun y=>y=⟨x.n,(t,d)::x.env,x.S⟩):=fun C a w K R hG h hK=>by
 refine I9 ho hd hf fG hc hr ha C a w K R hG h fun y a' w' ⟨r,S',hp,hy⟩ I uW E=>?_;subst hy;have h1:Wk ⟨x.n,(t,r)::x.env,S'++x.S⟩ ⟨x.n,(t,d)::x.env,x.S⟩:=Wk.ag3 perm_append_comm (hv r S' hp);refine hK _ a' w' rfl (h1 C a' w' I) uW ⟨E.os,E.tape,E.output,E.size,fun b hb hn=>⟨(E.block b hb hn).1,hn⟩⟩
section pe
variable {c:Bool} {n t f:Nat} {S:List ah} {ts:List Nat} {e lr:List (Nat×D)} {R:List (Nat×D)→Prop} {fo:Operand} {de:Array Operand} {tt:Array TypeId} {args:List D} {d:D} {post:D→List ah→Prop}
theorem Av (hc:VC P G f args [] post) (DW:∀r S',post r S'→kZ r=true∧∀B∈S',∀d∈B.cs,kZ d=true) (hv:∀r S',post r S'→View S' r d) (ho:o.op = .call {callee:=.value fo,args:=de,argTypes:=tt}:=by exact rfl)
  (hd:o.dst=some t:=by exact rfl) (hr:fJ (kL ops o) e lr:=by exact jF) (ha:Looks ⟨n,lr,S⟩ de.toList args) (K:PE c P G n S ops ts l ((t,d)::e) R) (hq:(!c||mC ops o (kL ops o))=true:=by kernel_rfl) (hw:cj ops ⟨n,lr,S⟩ o true:=by exact pI) (hf:fo = .func f:=by exact rfl) (fG:xX P f=true:=by kernel_rfl):PE c P G n S ops ts (o::l) e R :=
 .cons hd hr hq hw (abC ho hd hf (Vj fG) hc DW hv ha) K
theorem Aw (hc:VP P G f args d) (ho:o.op = .call {callee:=.value fo,args:=de,argTypes:=tt}:=by exact rfl)
  (hd:o.dst=some t:=by exact rfl) (hr:fJ (kL ops o) e lr:=by exact jF) (ha:Looks ⟨n,lr,S⟩ de.toList args) (K:PE c P G n S ops ts l ((t,d)::e) R) (DW:kZ d=true:=by exact rfl) (hq:(!c||mC ops o (kL ops o))=true:=by kernel_rfl) (hw:cj ops ⟨n,lr,S⟩ o true:=by exact pI) (hf:fo = .func f:=by exact rfl) (fG:xX P f=true:=by kernel_rfl):PE c P G n S ops ts (o::l) e R :=
 Av hc (fun r S' h=>by obtain⟨rfl,rfl⟩:=h;exact⟨DW,fun B E=>by cases E⟩) (fun r S' h=>by obtain⟨rfl,rfl⟩:=h;exact eW) ho hd hr ha K hq hw hf fG
end pe
end Go.Proofs.YtkgmonfgofobaaaGreatDoor.V

namespace Go.Proofs.YtkgmonfgofobaaaGreatDoor.V
open List
open Go.RowKit
variable {P:Program} {C:dK} {G:List (Nat×List Value)} {Q:Exit→St→Prop} {ops:Array Oper} {l l2:List Oper} {o:Oper} {n t:Nat} {d:D} {e e' l':List (Nat×D)} {S S':List ah} {ts:List Nat} {c:Bool} {x:St}
variable {S1:List Nat} {zs:List Value}
structure Al where
 ia:Nat
 ta:Nat
 te:TypeId
 ds:List D
variable {al:List Al}
def gv(al:List Al)(ob:Nat→Option Nat):List ah:=al.flatMap fun a=>bx a.te a.ds (ob a.ta)
def nO(ob:Nat→Option Nat)(t b:Nat):Nat→Option Nat:=fun q=>if q=t then some b else ob q
theorem R4{ob:Nat→Option Nat}{t b:Nat}:∀{al:List Al},(∀a∈al,a.ta≠t)→gv al (nO ob t b)=gv al ob
 | [],_=>rfl
 | a::al,h=>by
  unfold gv;rw[flatMap_cons,flatMap_cons];congr 1
  ·unfold nO;rw[if_neg (h a mem_cons_self)]
  exact R4 fun x hx=>h x (mem_cons_of_mem _ hx)
theorem T5{ob:Nat→Option Nat}{b:Nat}{a:Al}:∀{al:List Al},a∈al→(al.map Al.ta).Nodup→ob a.ta=none→(⟨b,a.te,a.ds.length,a.ds⟩::gv al ob).Perm (gv al (nO ob a.ta b))
 | [],h,_,_=>by cases h
 | y::al,h,hn,ho=>by
  rw[map_cons,nodup_cons] at hn;have e1:gv (y::al) ob=bx y.te y.ds (ob y.ta)++gv al ob:=rfl;have e2:gv (y::al) (nO ob a.ta b)=bx y.te y.ds (nO ob a.ta b y.ta)++gv al (nO ob a.ta b):=rfl;rw[e1,e2];by_cases hy:y=a
  ·subst hy;have h1:gv al (nO ob y.ta b)=gv al ob:=R4 fun x hx e=>hn.1 (e ▸ mem_map_of_mem hx);have h2:nO ob y.ta b y.ta=some b:=(by unfold nO;rw[if_pos rfl])
   rw[h1,h2,ho];exact Perm.refl _
  have hm:a∈al:=by
   rcases mem_cons.1 h with h|h
   ·exact absurd h.symm hy
   exact h
  have hne:y.ta≠a.ta:=fun e=>hn.1 (e ▸ mem_map_of_mem hm);have h2:nO ob a.ta b y.ta=ob y.ta:=(by unfold nO;rw[if_neg hne])
  rw[h2];exact(perm_middle (a:=(⟨b,a.te,a.ds.length,a.ds⟩:ah)) (l₁:=bx y.te y.ds (ob y.ta)) (l₂:=gv al ob)).symm.trans (Perm.append_left _ (T5 hm hn.2 ho))
theorem Fr.aiu{w1 w:World}{A B:List ah}(h:Fr w1 S1 w (ax A))(hp:A.Perm B):Fr w1 S1 w (ax B):=⟨h.os,h.tape,h.output,h.size,fun b h1 h2=>⟨(h.block b h1 h2).1,fun hm=>(h.block b h1 h2).2 ((hp.map ah.b).symm.subset hm)⟩⟩
def Ax(al:List Al)(f:Nat→Nat):List (Nat×D):=al.map fun a=>(a.ta,.v (.pointer (some ⟨f a.ta,0,none⟩)))
def made(al:List Al)(f:Nat→Nat):List ah:=al.map fun a=>⟨f a.ta,a.te,a.ds.length,a.ds⟩
theorem R5{ob:Nat→Option Nat}{f:Nat→Nat}:∀{al:List Al},(∀a∈al,ob a.ta=some (f a.ta))→gv al ob=made al f
 | [],_=>rfl
 | a::al,h=>by
  show bx a.te a.ds (ob a.ta)++gv al ob=_;rw[h a mem_cons_self,R5 fun x hx=>h x (mem_cons_of_mem _ hx)];rfl
theorem QL{f:Nat→Nat}{q:Nat}:∀{al:List Al},look q (Ax al f++e)=if q∈al.map Al.ta then .v (.pointer (some ⟨f q,0,none⟩)) else look q e
 | []=>by simp[Ax]
 | a::al=>by
  show look q ((a.ta,_)::(Ax al f++e))=_;rw[gh,QL (al:=al)];by_cases h:a.ta=q
  ·rw[if_pos h,if_pos (by rw[map_cons,h];exact mem_cons_self),h]
  rw[if_neg h,map_cons];by_cases h2:q∈al.map Al.ta
  ·rw[if_pos h2,if_pos (mem_cons_of_mem _ h2)]
  rw[if_neg h2,if_neg (fun hm=>by rcases mem_cons.1 hm with hm|hm;exact h hm.symm;exact h2 hm)]
theorem afi {eF:List (Nat×D)} {w1:World} (hA:∀a∈al,∃oa,ops[a.ia]?=some oa∧oa.dst=some a.ta∧oa.guard=none∧∀S',ga P C.G ⟨n,[],S'⟩ oa [] (xy ⟨n,[],S'⟩ a.ta a.te a.ds)) (hnd:(al.map Al.ta).Nodup)
  (hj:∀a∈al,look a.ta eF = .bX) (hp:mG ops=true) (H:∀i,i<ops.size→Gd P C.G n S ops eF i) (hQ:∀f,Q .normal ⟨n,Ax al f++eF,made al f++S⟩):∀(fuel:Nat) (ld:Array Bool) (env:List (Nat×D)) (ob:Nat→Option Nat) (a:Act) (w:World),
  left ops.size ld≤fuel→bK C ⟨n,env,gv al ob++S⟩ a w→Fr w1 S1 w (ax (gv al ob++S))→(∀x∈al,ld.getD x.ia true=true→∃b,ob x.ta=some b∧look x.ta env = .v (.pointer (some ⟨b,0,none⟩)))→(∀x∈al,ld.getD x.ia true=false→ob x.ta=none) →
   (∀q,q∉al.map Al.ta→(∀j o,ops[j]?=some o→o.dst=some q→ld.getD j true=true)→look q env=look q eF)→wpAnyH P .any ops (LQ C Q) (lf w1 S1 []) fuel ld a w:=by
 have Ia:∀x∈al,∀j o,ops[j]?=some o→o.dst=some x.ta→j=x.ia:=fun x hx j o hj hd=>by
  obtain⟨oa,mo,lS,_,_⟩:=hA x hx;rcases Nat.lt_trichotomy j x.ia with q|q|q
  ·obtain⟨t',h1,h2⟩:=(xx hp mo).2;rw[lS] at h1;obtain rfl:=Option.some.inj h1;exact absurd hd (h2 j o q hj)
  ·exact q
  obtain⟨t',h1,h2⟩:=(xx hp hj).2;rw[hd] at h1;obtain rfl:=Option.some.inj h1;exact absurd lS (h2 x.ia oa q mo)
 have fk:∀(ld:Array Bool) (env:List (Nat×D)) (ob:Nat→Option Nat) (a:Act) (w:World),bK C ⟨n,env,gv al ob++S⟩ a w→(∀x∈al,ld.getD x.ia true=true→∃b,ob x.ta=some b∧look x.ta env = .v (.pointer (some ⟨b,0,none⟩)))→(∀q,q∉al.map Al.ta→(∀j o,ops[j]?=some o→o.dst=some q→ld.getD j true=true)→look q env=look q eF)→(∀j,j<ops.size→ld.getD j true=true)→LQ C Q .normal a w:=fun ld env ob a w hs hb he fw=>by
  have pJ:∀x∈al,ob x.ta=some ((ob x.ta).getD 0)∧look x.ta env = .v (.pointer (some ⟨(ob x.ta).getD 0,0,none⟩)):=fun x hx=>by
   obtain⟨oa,mo,_⟩:=hA x hx;obtain⟨b,h1,h2⟩:=hb x hx (fw x.ia (Array.getElem?_eq_some_iff.1 mo).1);rw[h1];exact⟨rfl,h2⟩
  have yx:gv al ob=made al (fun q=>(ob q).getD 0):=R5 fun x hx=>(pJ x hx).1;rw[yx] at hs;refine .inl ⟨⟨n,Ax al (fun q=>(ob q).getD 0)++eF,made al (fun q=>(ob q).getD 0)++S⟩,⟨hs.defers,hs.size,fun q hq=>?_,hs.own,hs.fr,hs.ex,hs.eV⟩,hQ _⟩;have:=hs.env q hq;rw[QL];by_cases E:q∈al.map Al.ta
  ·rw[if_pos E];obtain⟨x,hx,rfl⟩:=mem_map.1 E;rw[(pJ x hx).2] at this;exact this
  rw[if_neg E];rw[he q E fun j o hj _=>fw j (Array.getElem?_eq_some_iff.1 hj).1] at this;exact this
 intro fuel;induction fuel with
 | zero =>
  intro ld env ob a w hl hs hf hb jW he;have fw:∀j,j<ops.size→ld.getD j true=true:=fun j hj=>by
   cases hq:ld.getD j true with
   | true=>rfl
   | false=>have:=zB hj hq;omega
  refine⟨?_,fk ld env ob a w hs hb he fw⟩;rw[eq_nil_iff_forall_not_mem];intro j hj;obtain⟨h1,o,h2,_⟩:=mem_ready.1 hj;have:=fw j (Array.getElem?_eq_some_iff.1 h2).1;rw[h1] at this;cases this
 | succ fuel ih =>
  intro ld env ob a w hl hs hf hb jW he;refine⟨fun h0=>fk ld env ob a w hs hb he (Ll hp h0),fun i hi=>?_⟩;obtain⟨lD,o,I,CY⟩:=mem_ready.1 hi;have aa:=(Array.getElem?_eq_some_iff.1 I).1;have WQ:=zB aa lD;have s7:∀j,(ld.setIfInBounds i true).getD j true=true↔j=i∨ld.getD j true=true:=fun j=>by
   by_cases hj:j=i
   ·subst hj;have iK:j<ld.size:=by
     rcases Nat.lt_or_ge j ld.size with h|h
     ·exact h
     rw[Array.getD_eq_getD_getElem?,Array.getElem?_eq_none h] at lD;cases lD
    simp[Array.getD_eq_getD_getElem?,Array.getElem?_setIfInBounds,iK]
   simp[Array.getD_eq_getD_getElem?,Array.getElem?_setIfInBounds,hj,Ne.symm hj]
  have O:∀j,j≠i→(ld.setIfInBounds i true).getD j true=ld.getD j true:=fun j hj=>by
   simp[Array.getD_eq_getD_getElem?,Array.getElem?_setIfInBounds,Ne.symm hj]
  by_cases sg:∃x∈al,x.ia=i
  ·obtain⟨x,hx,rfl⟩:=sg;obtain⟨oa,mo,lS,yI,hE⟩:=hA x hx;rw[mo] at I;obtain rfl:=Option.some.inj I;have pJ:=jW x hx lD;unfold wpOp;rw[mo];have hw:Region.wanted oa (yielded ops a.tmps)=true:=(by simp[Region.wanted,yI])
   simp only[hw,if_true];have lR:bK C ⟨n,[],gv al ob++S⟩ a w:=⟨hs.defers,hs.size,fun q hq=>.bX _,hs.own,hs.fr,hs.ex,hs.eV⟩
   have h2:=hE (gv al ob++S) C a w (fun a' w'=>∃b,bK C ⟨n,[(x.ta,.v (.pointer (some ⟨b,0,none⟩)))],⟨b,x.te,x.ds.length,x.ds⟩::(gv al ob++S)⟩ a' w'∧Fr w (ax (gv al ob++S)) w' (ax (⟨b,x.te,x.ds.length,x.ds⟩::(gv al ob++S)))) (LQ C Q) rfl lR (fun y a' w' ⟨b,hy⟩ uT _ uU=>by subst hy;exact⟨b,uT,uU⟩);refine .inl (Oper.wp_mono (fun a' w' h3=>?_) (zA h2));obtain⟨⟨b,h4,h5⟩,v,h6⟩:=h3;rw[lS] at h6;have wj:(⟨b,x.te,x.ds.length,x.ds⟩::(gv al ob++S)).Perm (gv al (nO ob x.ta b)++S):=Perm.append_right S (T5 hx hnd pJ);have jE:Fr w1 S1 w' (ax (gv al (nO ob x.ta b)++S)):=Fr.aiu (hf.trans h5) wj;have sb:=Wk.perm wj C a' w' (bK.Vk hs h4 h5 h6);refine⟨⟨fun b h2 h3=>(jE.block b h2 h3).1,fun b h2=>by cases h2⟩,ih _ ((x.ta,.v (.pointer (some ⟨b,0,none⟩)))::env) (nO ob x.ta b) a' w' w4 sb jE (fun y hy U=>?_) (fun y hy U=>?_) fun q hq r9=>?_⟩
   ·by_cases Z:y.ta=x.ta
    ·exact⟨b,by unfold nO;rw[if_pos Z],by rw[gh,if_pos Z.symm]⟩
    have DZ:y.ia≠x.ia:=fun e=>by
     obtain⟨oy,Ic,D0,_⟩:=hA y hy;rw[e,mo] at Ic;obtain rfl:=Option.some.inj Ic;rw[lS] at D0;exact Z (Option.some.inj D0).symm
    rw[O _ DZ] at U;obtain⟨b',h7,h8⟩:=hb y hy U;exact⟨b',by unfold nO;rw[if_neg Z];exact h7,by rw[gh,if_neg (fun e=>Z e.symm)];exact h8⟩
   ·by_cases DZ:y.ia=x.ia
    ·have:=(s7 y.ia).2 (.inl DZ);rw[this] at U;cases U
    rw[O _ DZ] at U;have Z:y.ta≠x.ta:=fun e=>by
     obtain⟨oy,Ic,D0,_⟩:=hA y hy;rw[e] at D0;exact DZ (Ia x hx _ _ Ic D0)
    unfold nO;rw[if_neg Z];exact jW y hy U
   rw[gh,if_neg (fun e:x.ta=q=>hq (e ▸ mem_map_of_mem hx))];refine he q hq fun j oj hj ji=>?_;rcases(s7 j).1 (r9 j oj hj ji) with rfl|h2
   ·rw[mo] at hj;obtain rfl:=Option.some.inj hj;rw[lS] at ji;exact absurd (Option.some.inj ji ▸ mem_map_of_mem hx) hq
   exact h2
  obtain⟨o',t,ts,l',h1,hd,hq,mi,hk,Oy⟩:=H i aa;rw[I] at h1;obtain rfl:=Option.some.inj h1;have MF:t∉al.map Al.ta:=fun hm=>by
   obtain⟨x,hx,e⟩:=mem_map.1 hm;exact sg ⟨x,hx,(Ia x hx i o I (by rw[hd,e])).symm⟩
  have jR:bK C ⟨n,l',gv al ob++S⟩ a w:=⟨hs.defers,hs.size,fun q DQ=>by
   by_cases hm:q∈ts
   ·have tP:=hm;rw[←hk] at tP;obtain⟨p,fD,rfl⟩:=mem_map.1 tP;obtain⟨h2,h3⟩:=mi p fD;have h9:=hs.env p.1 DQ;by_cases uO:p.1∈al.map Al.ta
    ·obtain⟨x,hx,e⟩:=mem_map.1 uO;rw[←h3,←e,hj x hx];exact .bX _
    have:look p.1 env=look p.1 l':=by
     rw[←h3];refine he p.1 uO fun j oj hj ji=>?_;obtain⟨e1,tH,jd,jU⟩:=FQ hq hj ji h2;have:=CY e1 tH jd;rw[jU] at this;rw[Array.getD_eq_getD_getElem?] at this ⊢;cases hx:ld[j]? with
     | none=>rw[hx] at this;cases this
     | some b=>rw[hx] at this;exact this
    rw[this] at h9;exact h9
   have:look q l' = .bX:=by
    rw[←hk] at hm;exact Fz hm
   rw[this];exact .bX _,hs.own,hs.fr,hs.ex,hs.eV⟩
  have jv:∀(a':Act) (w':World),bK C ⟨n,(t,look t eF)::env,gv al ob++S⟩ a' w'→Fr w (ax (gv al ob++S)) w' (ax (gv al ob++S))→lf w1 S1 [] w'∧wpAnyH P .any ops (LQ C Q) (lf w1 S1 []) fuel (ld.setIfInBounds i true) a' w':=fun a' w' uT uU=>by
   have jE:Fr w1 S1 w' (ax (gv al ob++S)):=hf.trans uU;have yJ:∀x∈al,(ld.setIfInBounds i true).getD x.ia true=ld.getD x.ia true:=fun x hx=>O _ fun e=>sg ⟨x,hx,e⟩;refine⟨⟨fun b h2 h3=>(jE.block b h2 h3).1,fun b h2=>by cases h2⟩,ih _ _ ob a' w' w4 uT jE (fun x hx h=>?_) (fun x hx h=>jW x hx (by rw[yJ x hx] at h;exact h)) fun q Ib r9=>?_⟩
   ·rw[yJ x hx] at h;obtain⟨b,h2,h3⟩:=hb x hx h;exact⟨b,h2,by rw[gh,if_neg (fun e:t=x.ta=>MF (by rw[e];exact mem_map_of_mem hx))];exact h3⟩
   rw[gh];by_cases E:t=q
   ·rw[if_pos E,E]
   rw[if_neg E];refine he q Ib fun j oj hj ji=>?_;rcases(s7 j).1 (r9 j oj hj ji) with rfl|h2
   ·rw[I] at hj;obtain rfl:=Option.some.inj hj;rw[hd] at ji;exact absurd (Option.some.inj ji) E
   exact h2
  unfold wpOp;rw[I];rcases Oy with ⟨hw,Oz⟩|⟨hw,hv⟩
  ·simp only[hw.frame (B:=gv al ob) C a w jR,if_true];have h2:=Oz.frame (B:=gv al ob) C a w (fun a' w'=>bK C ⟨n,(t,look t eF)::l',gv al ob++S⟩ a' w'∧Fr w (ax (gv al ob++S)) w' (ax (gv al ob++S))) (LQ C Q) rfl jR (fun y a' w' hy uT _ uU=>by subst hy;exact⟨uT,uU⟩);refine .inl (Oper.wp_mono (fun a' w' h3=>?_) (zA h2));obtain⟨⟨h4,h5⟩,v,h6⟩:=h3;rw[hd] at h6;exact jv a' w' (hs.Ac h4 h5 h6) h5
  simp only[hw.frame (B:=gv al ob) C a w jR,hd];have:=hs.put (t:=t) (.v (w:=w) (L:=live C.X (gv al ob++S)) undef);rw[hv] at jv;exact jv _ w this (Fr.refl _ _)
theorem CD.pdL {id m:Nat} (mJ:Region.noSelect l.toArray=true) (nN:NP Q) (hm:P.follows .mixedOrders=true) (hl:m≤l.length) (hq:qT m l.toArray=true) (hp:mG (l.take m).toArray=true) (hA:∀a∈al,∃oa,(l.take m)[a.ia]?=some oa∧oa.dst=some a.ta∧oa.guard=none∧∀S',ga P C.G ⟨n,[],S'⟩ oa [] (xy ⟨n,[],S'⟩ a.ta a.te a.ds)) (hnd:(al.map Al.ta).Nodup)
  (h:PD true P C.G n S (l.take m).toArray (l.take m) e [] e') (hj:∀a∈al,look a.ta e' = .bX) (K:∀f,OD P C l.toArray (l.drop m) ⟨n,Ax al f++e',made al f++S⟩ Q):CD P C (.region id l.toArray true) ⟨n,e,S⟩ Q :=
 CD.GI m [] mJ nN hm hl hq (fun _ hb=>by cases hb) (fun a w hs _ _=>by
  have h':PD true P C.G n S (l.take m).toArray (l.take m).toArray.toList e [] e':=(by simpa using h)
  have hg:=h'.xV hp rfl 0 rfl;have E:∀a∈al,∃oa,(l.take m).toArray[a.ia]?=some oa∧oa.dst=some a.ta∧oa.guard=none∧∀S',ga P C.G ⟨n,[],S'⟩ oa [] (xy ⟨n,[],S'⟩ a.ta a.te a.ds):=fun a ha=>by
   obtain⟨oa,h1,h2⟩:=hA a ha;exact⟨oa,by simpa using h1,h2⟩
  have I:(l.take m).toArray.size=m:=(by simp;omega)
  have O:gv al (fun _=>none)=[]:=by
   clear hA E hnd hj K;induction al with
   | nil=>rfl
   | cons a al ih=>show bx a.te a.ds none++gv al (fun _=>none)=[];rw[ih];rfl
  refine afi (Q:=Tl P C l.toArray (l.drop m) Q) E hnd hj hp (fun i hi=>hg i (Nat.zero_le _) hi) K _ _ e (fun _=>none) a w ?_ (by rw[O];exact hs) (by rw[O];exact Fr.refl _ _) (fun x hx h=>?_) (fun _ _ _=>rfl) fun q Ib r9=>?_
  ·rw[I];unfold left;exact Nat.le_trans (length_filter_le _ _) bj
  ·obtain⟨oa,U,_⟩:=E x hx;have aa:=(Array.getElem?_eq_some_iff.1 U).1;rw[I] at aa;simp[Array.getD_eq_getD_getElem?,aa] at h
  refine(h'.later fun o ho hd=>?_).symm;obtain⟨j,hj,rfl⟩:=mem_iff_getElem.1 ho;have Z:j<(l.take m).toArray.size:=(by simpa using hj)
  have:=r9 j _ (by rw[←Array.getElem?_toList,getElem?_eq_getElem hj]) hd;rw[I] at Z;simp[Array.getD_eq_getD_getElem?,Z] at this)
def Gf(P:Program)(l:List Oper)(ia ta te:Nat):Bool:=match l[ia]? with
 | some o=>(match o.op with|.alloc te'=>Nat.beq te' te|_=>false)&&(match o.dst with|some t=>Nat.beq t ta|none=>false)&&o.guard.isNone && !(isMap te)
 | none=>false
theorem R6{l:List Oper}{ia ta te:Nat}(h:Gf P l ia ta te=true)(hz:sV P te=some zs):∃oa,l[ia]?=some oa∧oa.dst=some ta∧oa.guard=none∧∀S',ga P G ⟨n,[],S'⟩ oa [] (xy ⟨n,[],S'⟩ ta te (zs.map .v)):=by
 unfold Gf at h;split at h
 ·rename_i o ho;simp only[Bool.and_eq_true,Bool.not_eq_true'] at h;obtain⟨⟨⟨h1,h2⟩,h3⟩,h4⟩:=h;obtain⟨z,mj,yF⟩:=Ca hz;split at h1
  ·rename_i I E;obtain rfl:=Nat.eq_of_beq_eq_true h1;split at h2
   ·rename_i t hd;obtain rfl:=Nat.eq_of_beq_eq_true h2;exact⟨o,ho,hd,Option.isNone_iff_eq_none.1 h3,fun S'=>E9 (hne:=h4) E hd mj (by rw[yF])⟩
   cases h2
  cases h1
 cases h
variable {R:List (Nat×D)→Prop}
theorem YY {id ta tb:Nat} {te tf:TypeId} {zt:List Value} (m ia ib:Nat) (ts:List Nat) (h:PE true P C.G n S (l.take m).toArray ts (l.take m) e fun l'=>look ta l' = .bX∧look tb l' = .bX∧∀b U,OD P C l.toArray (l.drop m) ⟨n,(ta,.v (.pointer (some ⟨b,0,none⟩)))::(tb,.v (.pointer (some ⟨U,0,none⟩)))::l',⟨b,te,(zs.map D.v).length,zs.map .v⟩::⟨U,tf,(zt.map D.v).length,zt.map .v⟩::S⟩ Q) (hm:P.follows .mixedOrders=true:=by kernel_rfl) (hl:Nat.ble m l.length=true:=by kernel_rfl) (hq:qT m l.toArray=true:=by kernel_rfl) (hp:mG (l.take m).toArray=true:=by kernel_rfl)
  (lS:((l.take m)[ia]?.bind (·.dst))=some ta:=by exact rfl) (hdb:((l.take m)[ib]?.bind (·.dst))=some tb:=by exact rfl) (hea:((l.take m)[ia]?.bind fun o=>match o.op with|.alloc te=>some te|_=>none)=some te:=by exact rfl) (NZ:((l.take m)[ib]?.bind fun o=>match o.op with|.alloc te=>some te|_=>none)=some tf:=by exact rfl)
  (hz:sV P te=some zs:=by exact Sb.hz) (yC:sV P tf=some zt:=by exact Sb.hz) (ha:Gf P (l.take m) ia ta te=true:=by kernel_rfl) (hb:Gf P (l.take m) ib tb tf=true:=by kernel_rfl) (ry:Nat.beq ta tb=false:=by kernel_rfl) (ht:ts.elem ta=true:=by exact rfl) (HX:ts.elem tb=true:=by exact rfl) (mJ:Region.noSelect l.toArray=true:=by kernel_rfl) (nN:NP Q:=by exact H6):CD P C (.region id l.toArray true) ⟨n,e,S⟩ Q:=by
 obtain⟨e',l',h1,h2,hj,jD,K⟩:=h;have hne:ta≠tb:=fun e=>by rw[e,Nat.beq_refl] at ry;cases ry
 refine CD.pdL (al:=[⟨ia,ta,te,zs.map .v⟩,⟨ib,tb,tf,zt.map .v⟩]) mJ nN hm (Nat.le_of_ble_eq_true hl) hq hp (fun a h=>?_) (by simp[hne]) h1 (fun a h=>?_) fun f=>OD.wk ?_ (K (f ta) (f tb))
 ·rcases mem_cons.1 h with rfl|h
  ·exact R6 ha hz
  rw[mem_singleton] at h;subst h;exact R6 hb yC
 ·rcases mem_cons.1 h with rfl|h
  ·show look ta e'=_;rw[←h2.at (mem_of_elem_eq_true ht)];exact hj
  rw[mem_singleton] at h;subst h;show look tb e'=_;rw[←h2.at (mem_of_elem_eq_true HX)];exact jD
 intro C a w hs;have E:bK C ⟨n,(ta,.v (.pointer (some ⟨f ta,0,none⟩)))::(tb,.v (.pointer (some ⟨f tb,0,none⟩)))::e',⟨f ta,te,(zs.map D.v).length,zs.map .v⟩::⟨f tb,tf,(zt.map D.v).length,zt.map .v⟩::S⟩ a w:=hs;refine⟨E.defers,E.size,fun q hq=>?_,E.own,E.fr,E.ex,E.eV⟩;have I:=E.env q hq;simp only[gh] at I ⊢;by_cases e1:ta=q
 ·rw[if_pos e1] at I ⊢;exact I
 rw[if_neg e1] at I ⊢;by_cases e2:tb=q
 ·rw[if_pos e2] at I ⊢;exact I
 rw[if_neg e2] at I ⊢;rcases h2.kK.look q with O|O
 ·rw[O];exact I
 rw[O];exact .bX _

end Go.Proofs.YtkgmonfgofobaaaGreatDoor.V
namespace Go.Proofs.YtkgmonfgofobaaaGreatDoor.V
open List
open Go.RowKit
variable {H:Type} {enc:TypeId×Value→H} {P:Program} {w:World} {base:Nat} {sp:Nat→Bool} {held:Bool}
variable {α:Type} {t:TypeId}
def l9(fuel:Nat)(enc:TypeId×Value→H)(P:Program)(w:World)(base:Nat)(sp:Nat→Bool)(held:Bool)(t:TypeId)(g:α→List D)(ok:α→Prop):Prop :=
 ∀cs x,DataW.trod enc P w base sp held fuel t cs=some x→∃a,cG w (fun _=>False) (g a) cs∧ok a
theorem pH.at{g:α→List D}{ok:α→Prop}(h:pH enc P w base sp held t g ok)(n:Nat):l9 n enc P w base sp held t g ok:=h n
theorem cG.one{w:World}{L:Nat→Prop}{d:D}{v:Value}(h:cn w L d v):cG w L [d] [v]:=⟨rfl,fun i h1 h2=>by
 have:i=0:=(by simpa using h1)
 subst this;exact h⟩
theorem QM{fuel:Nat}{e:TypeId}{sz:Nat}{g:α→List D}{ok:α→Prop}(ht:P.underlying t=some (.slice e))(Z:P.cellsOf e=sz)(iK:0<sz)(re:∀n,n+1=fuel→l9 n enc P w base sp held e g ok)(hg:∀a,(g a).length=sz) :
  l9 fuel enc P w base sp held t (fun l:List α=>[.list sz (l.flatMap g) l.length]) (fun l=>(∀x∈l,ok x)∧l.length≤maxLen):=fun cs x h=>by
 rcases DataW.trod_slice ht h with ⟨rfl,_⟩|⟨a,len,cap,apV,rest,n,hn,rfl,_,hb,hl,c8,hlen,wu,_,_⟩
 ·exact⟨[],cG.one (.nil sz),(fun x hx=>by cases hx),Nat.zero_le _⟩
 have re':=re n hn.symm;rcases Nat.eq_zero_or_pos len with h0|h0
 ·subst h0;exact⟨[],cG.one (.mB sz (some a) cap),(fun x hx=>by cases hx),Nat.zero_le _⟩
 have each:∀i:Fin len,∃y:α,(∃cs',w.cells? base (a.add (i.1*P.cellsOf e)) (P.cellsOf e)=some cs'∧cG w (fun _=>False) (g y) cs')∧ok y:=fun i=>by
  have h1:=wu i.1 i.2;rw[getElem?_eq_getElem (by rw[hlen];exact i.2)] at h1;cases hc:w.cells? base (a.add (i.1*P.cellsOf e)) (P.cellsOf e) with
  | none=>rw[hc] at h1;cases h1
  | some cs' =>
   rw[hc] at h1;obtain⟨y,h3,h4⟩:=re' _ _ h1;exact⟨y,⟨cs',rfl,h3⟩,h4⟩
 obtain⟨cs0,aL,_⟩:=(Classical.choose_spec (each ⟨0,h0⟩)).1;obtain⟨_,oN,h5⟩:=World.cells?_some aL;have h6:=h5 0 w4;rw[getElem?_eq_getElem w4,Nat.zero_mul,show(a.add 0).add 0=a from by simp[Addr.add]] at h6;have E:a.spot=none∧a.block<w.heap.size:=by
  unfold World.cell? at h6;cases hh:w.heap[a.block]? with
  | none=>rw[hh] at h6;cases h6
  | some o =>
   rw[hh] at h6;refine⟨?_,?_⟩
   ·cases o with
    | cells c t f =>
     cases hs:a.spot with
     | none=>rfl
     | some q=>simp[hs] at h6
    | _=>cases h6
   rcases Nat.lt_or_ge a.block w.heap.size with h2|h2
   ·exact h2
   rw[Array.getElem?_eq_none h2] at hh;cases hh
 obtain⟨b,o,s⟩:=a;obtain⟨rfl,aa⟩:=E;let l:List α:=ofFn fun i:Fin len=>Classical.choose (each i)
 have lC:l.length=len:=(by simp[l])
 have O:∀i (hi:i<l.length),(∃cs',w.cells? base ((⟨b,o,none⟩:Addr).add (i*P.cellsOf e)) (P.cellsOf e)=some cs'∧cG w (fun _=>False) (g l[i]) cs')∧ok l[i]:=fun i hi=>by
  have:=Classical.choose_spec (each ⟨i,by omega⟩);simpa[l] using this
 refine⟨l,cG.one ?_,fun x hx=>?_,by omega⟩
 ·have key:∀k,k<(l.flatMap g).length→∃u,w.cell? ⟨b,o+k,none⟩=some u∧∀h:k<(l.flatMap g).length,cn w (fun _=>False) (l.flatMap g)[k] u:=fun k hk=>by
   rw[cz hg] at hk;have hi:k/sz<l.length:=Nat.div_lt_of_lt_mul (by rw[Nat.mul_comm];exact hk);have hj:k % sz<sz:=Nat.mod_lt _ iK;have lO:k/sz*sz+k % sz=k:=(by rw[Nat.mul_comm];exact Nat.div_add_mod k sz)
   obtain⟨⟨cs',h1,h2⟩,_⟩:=O _ hi;obtain⟨_,h4,h5⟩:=World.cells?_some h1;have h6:=h5 (k % sz) w4;have U:k % sz<cs'.length:=(by omega)
   rw[getElem?_eq_getElem U,Go.Deep.add_add,Z,lO,Addr.add_mid] at h6;refine⟨_,h6,fun h=>?_⟩;have h7:=h2.2 (k % sz) (by rw[hg];exact hj) U;have h8:=zz hg hi (getElem?_eq_getElem (show k % sz<(g l[k/sz]).length by rw[hg];exact hj));rw[lO,getElem?_eq_getElem h] at h8;rw[Option.some.inj h8];exact h7
  have I:Value.slice (some ⟨b,o,none⟩) len cap=Value.slice (some ⟨b,o,none⟩) l.length cap:=(by rw[lC])
  rw[I];refine cn.list (L:=fun _=>False) sz (l.flatMap g) l.length b o cap (fun k=>(w.cell? ⟨b,o+k,none⟩).getD undef) (cz hg l) w4 c8 aa (fun h=>h.elim) (fun k hk=>?_) (fun k hk=>?_)
  ·obtain⟨u,h1,_⟩:=key k hk;rw[h1];rfl
  obtain⟨u,h1,h2⟩:=key k hk;simp only[h1,Option.getD_some];exact h2 hk
 obtain⟨i,hi,rfl⟩:=mem_iff_getElem.1 hx;exact(O i hi).2
theorem aaK {fuel:Nat} {f0 f1 f2 f3:Field} {E I O U:Type} {g0:E→List D} {g1:I→List D} {g2:O→List D} {g3:U→List D} {k0:E→Prop} {k1:I→Prop} {k2:O→Prop} {k3:U→Prop} {n0 n1 n2 n3:Nat}
  (ht:P.underlying t=some (.struct #[f0,f1,f2,f3])) (hc:P.cellsOf t=n0+n1+n2+n3) (o0:f0.offset=0) (o1:f1.offset=n0) (o2:f2.offset=n0+n1) (o3:f3.offset=n0+n1+n2) (c0:P.cellsOf f0.type=n0) (c1:P.cellsOf f1.type=n1) (c2:P.cellsOf f2.type=n2) (c3:P.cellsOf f3.type=n3)
  (r0:∀n,n+1=fuel→l9 n enc P w base sp held f0.type g0 k0) (r1:∀n,n+1=fuel→l9 n enc P w base sp held f1.type g1 k1) (r2:∀n,n+1=fuel→l9 n enc P w base sp held f2.type g2 k2) (r3:∀n,n+1=fuel→l9 n enc P w base sp held f3.type g3 k3) :
  l9 fuel enc P w base sp held t (fun a:E × I × O × U=>g0 a.1++(g1 a.2.1++(g2 a.2.2.1++g3 a.2.2.2))) (fun a=>k0 a.1∧k1 a.2.1∧k2 a.2.2.1∧k3 a.2.2.2):=fun cs x h=>by
 obtain⟨xs,n,hn,_,hl,gp,hf⟩:=DataW.trod_struct ht h;have Z:=hf 0 f0 rfl;have e1:=hf 1 f1 rfl;have e2:=hf 2 f2 rfl;have e3:=hf 3 f3 rfl;rw[o0,c0,drop_zero] at Z;rw[o1,c1] at e1;rw[o2,c2] at e2;rw[o3,c3] at e3;have Oa:xs.length=4:=gp;rw[getElem?_eq_getElem w4] at Z e1 e2 e3;obtain⟨a0,p0,q0⟩:=r0 n hn.symm _ _ Z;obtain⟨a1,p1,q1⟩:=r1 n hn.symm _ _ e1;obtain⟨a2,p2,q2⟩:=r2 n hn.symm _ _ e2;obtain⟨a3,p3,q3⟩:=r3 n hn.symm _ _ e3;refine⟨(a0,a1,a2,a3),?_,q0,q1,q2,q3⟩;have dy:cs=cs.take n0++((cs.drop n0).take n1++((cs.drop (n0+n1)).take n2++(cs.drop (n0+n1+n2)).take n3)):=by
  rw[take_of_length_le (l:=drop (n0+n1+n2) cs) Dy];have e1:cs.drop (n0+n1+n2)=(cs.drop (n0+n1)).drop n2:=(by rw[drop_drop])
  have e2:cs.drop (n0+n1)=(cs.drop n0).drop n1:=(by rw[drop_drop])
  rw[e1,take_append_drop,e2,take_append_drop,take_append_drop]
 rw[dy];exact p0.append (p1.append (p2.append p3))
theorem ag4 {E:Array Field} {I:Nat} {g:α→List D} {ok:α→Prop} (ht:P.underlying t=some (.struct E)) (O:∀n,l9 n enc P w base sp held t g ok) {v:Value} {d:DataW H} {p:List MemPlace}
  (hval:Value.okWide P w .any I t v) (h:DataW.Trod enc P w base sp held t v d p):∃a:α,cn w (fun _=>False) (.agg (g a)) v∧ok a∧True:=by
 unfold Value.okWide at hval;rw[ht] at hval;obtain⟨cs,rfl,_⟩:=hval;obtain⟨m,hm⟩:=h;obtain⟨a,h1,h2⟩:=O m _ _ hm;exact⟨a,by
  have:=cn.agg (w:=w) (L:=fun _=>False) (g a) cs.toList h1.1 (fun i q1 q2=>h1.2 i q1 q2);simpa using this,h2,trivial⟩

end Go.Proofs.YtkgmonfgofobaaaGreatDoor.V
namespace Go.Proofs.YtkgmonfgofobaaaGreatDoor.V
open List
open Go.RowKit
variable {P:Program} {C:dK} {G:List (Nat×List Value)} {Q:Exit→St→Prop} {x:St} {ops:Array Oper} {l:List Oper} {o:Oper} {S1 T:List Nat} {fuel i:Nat} {ld:Array Bool}
variable {y:Operand} {t e tt m b k cap:Nat} {B:ah} {kq kn:IntKind} {ts:Array TypeId}
def toEnd(B:ah):ah:={B with cs:=B.cs++replicate (B.size-B.cs.length) .bX}
theorem Wk.toEnd{n:Nat}{l:List (Nat×D)}{S:List ah}{k:Nat}{B:ah}(hk:S[k]?=some B):Wk ⟨n,l,S⟩ ⟨n,l,S.set k (V.toEnd B)⟩:=fun C a w h=>by
 have E:ax (S.set k (V.toEnd B))=ax S:=by
  unfold ax;rw[map_set];have aa:k<S.length:=(List.getElem?_eq_some_iff.1 hk).1;have:(S.map ah.b)[k]'(by simpa using aa)=B.b:=(by rw[getElem_map];rw[(List.getElem?_eq_some_iff.1 hk).2])
  show(S.map ah.b).set k B.b=_;rw[←this,set_getElem_self]
 have hl:live C.X (S.set k (V.toEnd B))=live C.X S:=(by funext b;unfold live;rw[E])
 refine⟨h.defers,h.size,by simpa only[hl] using h.env,⟨fun B' I=>?_,by rw[E];exact h.own.apart⟩,by simpa only[E] using h.fr,h.ex,h.eV⟩;rw[hl];rcases mem_or_eq_of_mem_set I with I|rfl
 ·exact h.own.at_ B' I
 obtain⟨r0,cur,r1,r2,Z,U⟩:=h.own.at_ B (mem_of_getElem? hk);have key:∀i (hi:i<(B.cs++replicate (B.size-B.cs.length) D.bX).length),∃u,cur[i]?=some u∧cn w (live C.X S) (B.cs++replicate (B.size-B.cs.length) D.bX)[i] u:=fun i hi=>by
  have O:=hi;rw[length_append,length_replicate] at O;rcases Nat.lt_or_ge i B.cs.length with q|q
  ·obtain⟨u,hu,hq⟩:=U i q;exact⟨u,hu,by rw[getElem_append_left q];exact hq⟩
  exact⟨cur[i]'w4,Array.getElem?_eq_getElem w4,by rw[getElem_append_right q,getElem_replicate];exact .bX _⟩
 refine⟨r0,cur,r1,r2,?_,key⟩;show(B.cs++replicate (B.size-B.cs.length) D.bX).length≤B.size;rw[length_append,length_replicate];omega
theorem adr {d:Operand} {t2 m2 c b2 k2 od oy c2:Nat} {B2:ah} {new cs':List D} (ho:o.op = .call {callee:=.builtin .copy,args:=#[d,y],argTypes:=#[t,t2]}) (hd:o.dst=some tt)
  (ht:P.underlying t=some (.slice e)) (hi:(P.info? e).map (fun i=>i.size)=some 1)
  (hs:aF x d = .v (.slice (some ⟨b,od,none⟩) m c)) (hk:x.S[k]?=some B) (hb:B.b=b) (hy:aF x y = .v (.slice (some ⟨b2,oy,none⟩) m2 c2)) (fF:x.S[k2]?=some B2) (oh:B2.b=b2)
  (O:(B2.cs.drop oy).take (Nat.min m2 m)=new) (hlen:new.length=Nat.min m2 m) (iq:∀d∈new,one d=true) (hl:od+new.length≤B.cs.length) (dy:dm B.cs od new=cs') (hne:isMap B.e=false:=by rfl) (j9:isMap B2.e=false:=by rfl) :
  ga P G x o [b] (fun y=>y=⟨x.n,(tt,.v (.int .i64 (new.length:Nat)))::x.env,x.S.set k {B with cs:=cs'}⟩):=fun C a w K Q hG h hK=>by
 subst dy hb oh;obtain⟨h0,cur,q1,q2,q3,q4⟩:=h.fN hk;rw[kI hne] at q1;obtain⟨h02,nZ,p1,p2,p3,p4⟩:=h.fN fF;rw[kI j9] at p1;have dc:∀j,(hj:j<new.length)→∃hj2:oy+j<B2.cs.length,new[j]=B2.cs[oy+j]:=fun j hj=>by
  have h2:oy+j<B2.cs.length:=by
   have:=congrArg length O;rw[length_take,length_drop] at this;omega
  refine⟨h2,?_⟩;have e2:new[j]?=some B2.cs[oy+j]:=(by rw[←O,getElem?_take,if_pos w4,getElem?_drop,getElem?_eq_getElem h2])
  rw[getElem?_eq_getElem hj] at e2;exact Option.some.inj e2
 let vs:List Value:=(range new.length).map fun j=>nZ.getD (oy+j) undef
 have E:vs.length=new.length:=(by simp[vs])
 have hv:∀j (hj:j<new.length),∃u,nZ[oy+j]?=some u∧vs[j]?=some u∧cn w (live C.X x.S) new[j] u:=fun j hj=>by
  obtain⟨h1,h3⟩:=dc j hj;obtain⟨u,I,hq⟩:=p4 (oy+j) h1;refine⟨u,I,?_,h3 ▸ hq⟩;simp[vs,hj,I]
 have hr:cG w (live C.X x.S) new vs:=⟨by rw[E],fun j h1 h2=>by
  obtain⟨u,_,I,hq⟩:=hv j h1;rw[getElem?_eq_getElem h2] at I;rw[Option.some.inj I];exact hq⟩
 obtain⟨s1,s2,s3⟩:=h.store (hne:=hne) hk hr (o':=od) hl;have Z:=run_copy_cells (P:=P) w t t2 o.type e B.b od m c ⟨B2.b,oy,none⟩ m2 c2 vs ht hi (by rw[E,hlen]) (fun j u I=>by
   rw[Addr.add_mid];have hj:j<new.length:=(by rw[←E];exact(List.getElem?_eq_some_iff.1 I).1)
   obtain⟨u',yz,yA,_⟩:=hv j hj;rw[yA] at I;rw[←I];exact ou p1 yz) (fun j hj=>by
   have:od+j<cur.size:=(by rw[E] at hj;omega)
   rw[ou q1 (u:=cur[od+j]) (by simp[this])];rfl) (fun j hj=>by unfold World.frozen?;simp[q1]) (fun u I=>by
   obtain⟨j,hj,rfl⟩:=mem_iff_getElem.1 I;have jD:j<new.length:=(by omega)
   exact(hr.2 j jD hj).BS (iq _ (getElem_mem jD)))
 have U:(execOp a.eval o).run P w = .ok (.value (goInt vs.length)) (w.setCells B.b od vs):=by
  unfold execOp;simp only[ho,resolve,invoke,builtin,Sem.run_bind,Sem.run_pure,Result.andThen_ok,map_toArray,map_cons,map_nil,h.flat hs,h.flat hy,Z]
 unfold Oper.wp;rw[U,Oper.upon_value,hd];exact hK _ _ _ rfl (s1.put (by rw[E];exact .v _)) s2 s3
theorem OD.copy {d y:Operand} {t t2 e tt m I c b b2 k k2 od oy U:Nat} {B B2:ah} {new cs':List D} (hw:cj ops x o true) (ho:o.op = .call {callee:=.builtin .copy,args:=#[d,y],argTypes:=#[t,t2]}) (hd:o.dst=some tt)
  (ht:P.underlying t=some (.slice e)) (hi:(P.info? e).map (fun i=>i.size)=some 1)
  (hs:aF x d = .v (.slice (some ⟨b,od,none⟩) m c)) (hk:x.S[k]?=some B) (hb:B.b=b) (hy:aF x y = .v (.slice (some ⟨b2,oy,none⟩) I U)) (fF:x.S[k2]?=some B2) (O:B2.b=b2)
  (E:(B2.cs.drop oy).take (Nat.min I m)=new) (hlen:new.length=Nat.min I m) (iq:∀d∈new,one d=true) (hl:od+new.length≤B.cs.length) (dy:dm B.cs od new=cs')
  (K:OD P C ops l ⟨x.n,(tt,.v (.int .i64 (new.length:Nat)))::x.env,x.S.set k {B with cs:=cs'}⟩ Q) (hne:isMap B.e=false:=by rfl) (j9:isMap B2.e=false:=by rfl):OD P C ops (o::l) x Q :=
 OD.gk hw (adr (hne:=hne) (j9:=j9) ho hd ht hi hs hk hb hy fF O E hlen iq hl dy) fun y hy=>hy ▸ K
theorem aan {s:Operand} {tn n bytes:Nat} {z:Value} (ho:o.op = .call {callee:=.builtin .append,args:=#[s,y],argTypes:=#[t,tn]}) (hd:o.dst=some tt)
  (ht:P.underlying t=some (.slice e)) (OA:P.underlying tn=some (.int kn)) (hi:(P.info? e).map (fun i=>(i.zero,i.size,i.bytes))=some (some z,1,bytes)) (fb:z.cells.size=1)
  (hs:aF x s = .v (.slice (some ⟨b,0,none⟩) n cap)) (hk:x.S[k]?=some B) (hb:B.b=b) (hl:n≤B.cs.length) (hy:aF x y = .v (.int kq m)) (hg:cap<n+m) (h0:0<m) (gK:n+m≤maxLen) (O:(n+m)*bytes≤140737488355328) (hne:isMap B.e=false:=by rfl) (j9:isMap e=false:=by rfl) :
  ga P G x o [] (fun y=>∃b' E,n+m≤E∧E≤maxLen∧y=⟨x.n,(tt,.v (.slice (some ⟨b',0,none⟩) (n+m) E))::x.env,⟨b',e,E*1,B.cs.take n⟩::x.S⟩):=fun C a w K Q hG h hK=>by
 subst hb;obtain⟨i,kC,lQ,pG,qt⟩:=zx hi;obtain⟨r0,cur,r1,r2,r3,r4⟩:=h.fN hk;rw[kI hne] at r1;have kD:n≤cur.size:=(by omega)
 have hold:(Builtin.firstCells i.size n (.slice (some ⟨B.b,0,none⟩) n cap)).run P w.drew = .ok (cur.toList.take n).toArray w.drew:=by
  rw[pG];exact run_firstCells_some w.drew 1 n ⟨B.b,0,none⟩ n cap (cur.toList.take n) iB (fun j v hj=>by
   rw[Addr.add_mid];rw[getElem?_take] at hj;split at hj
   ·rw[Array.getElem?_toList] at hj;have:w.drew.heap[B.b]?=some (.cells cur B.e (0,0)):=r1;exact ou this (by rw[Nat.zero_add];exact hj)
   cases hj)
 have I:=Lib.run_append_grow_zeros (P:=P) w t tn o.type e i z kq kn ht OA kC lQ (some ⟨B.b,0,none⟩) n cap _ hold m h0 w4 hg (by simp only[maxLen] at gK;omega) (by rw[qt];exact Nat.le_trans (Nat.mul_le_mul_right _ (Nat.le_add_left m n)) w4) (by rw[qt];exact growslice_fits hg O);have h1:=grownCap_ge w (n+m) cap e;have h2:=grownCap_le_maxLen w (n+m) cap e gK;generalize grownCap w (n+m) cap e=E at I h1 h2;generalize Z:(cur.toList.take n).toArray++Builtin.zeroCells z.cells m++Builtin.zeroCells z.cells (E-(n+m))=U at I;have yK:∀q,(Builtin.zeroCells z.cells q).size=q:=fun q=>by
  obtain⟨u,hu⟩:∃u,z.cells = #[u]:=by
   have:z.cells.toList.length=1:=(by simpa using fb)
   obtain⟨u,hu⟩:=length_eq_one_iff.1 this;exact⟨u,by rw[←Array.toArray_toList (xs:=z.cells),hu]⟩
  simp[Builtin.zeroCells,hu]
 have iK:U.size=E*1:=by
  rw[←Z,Array.size_append,Array.size_append,yK,yK];simp;omega
 have LX:(execOp a.eval o).run P w = .ok (.value (.slice (some ⟨w.heap.size,0,none⟩) (n+m) E)) (w.drew.alloc (.cells U e)):=by
  unfold execOp;simp only[ho,resolve,invoke,builtin,Sem.run_bind,Sem.run_pure,Result.andThen_ok,map_toArray,map_cons,map_nil,h.flat hs,h.flat hy,I]
 obtain⟨s1,s2,s3⟩:=h.grown (w':=w.drew.alloc (.cells U e)) (t:=tt) (m:=n+m) (e:=e) (sz:=1) (S:=x.S) (cs:=B.cs.take n) (row:=none) (g:=w.heap.size) (cap:=E) (cur:=U) (hne:=j9) (Sublist.refl _) (fun k hk=>by cases hk)
  ⟨rfl,rfl,rfl,by show w.heap.size≤(w.heap.push _).size;simp,fun k hk _=>getElem?_push_lt (w:=w.drew) hk⟩ (.inr rfl) NN NQ iK pA (fun j hj=>by
   have jD:j<n:=(by rw[length_take] at hj;omega)
   obtain⟨u,hu,hq⟩:=r4 j w4;refine⟨u,?_,by rw[getElem_take];exact hq⟩;rw[←Z,Array.append_assoc,Array.getElem?_append_left iB];simp[jD,hu])
 unfold Oper.wp;rw[LX,Oper.upon_value,hd];exact hK _ _ _ ⟨_,_,h1,h2,rfl⟩ s1 s2 s3
theorem OD.T6 {s:Operand} {tn n bytes:Nat} {z:Value} (hw:cj ops x o true) (ho:o.op = .call {callee:=.builtin .append,args:=#[s,y],argTypes:=#[t,tn]}) (hd:o.dst=some tt)
  (ht:P.underlying t=some (.slice e)) (U:P.underlying tn=some (.int kn)) (hi:(P.info? e).map (fun i=>(i.zero,i.size,i.bytes))=some (some z,1,bytes)) (fb:z.cells.size=1)
  (hs:aF x s = .v (.slice (some ⟨b,0,none⟩) n cap)) (hk:x.S[k]?=some B) (hb:B.b=b) (hl:n≤B.cs.length) (hy:aF x y = .v (.int kq m)) (hg:cap<n+m) (h0:0<m) (Z:n+m≤maxLen) (I:(n+m)*bytes≤140737488355328)
  (K:∀O E,n+m≤E→E≤maxLen→OD P C ops l ⟨x.n,(tt,.v (.slice (some ⟨O,0,none⟩) (n+m) E))::x.env,⟨O,e,E*1,B.cs.take n⟩::x.S⟩ Q) (hne:isMap B.e=false:=by rfl) (j9:isMap e=false:=by rfl):OD P C ops (o::l) x Q :=
 OD.gk hw (aan (hne:=hne) (j9:=j9) ho hd ht U hi fb hs hk hb hl hy hg h0 Z I) fun y ⟨O,E,h1,h2,hy⟩=>hy ▸ K O E h1 h2
theorem Z7 {f:FuncId} {fn:Func} {z:Operand} {r oy c b2 oz m2 c2 k2:Nat} {B2:ah} (ho:o.op = .call {callee:=.value (.func f),args:=#[y,z],argTypes:=ts}) (hd:o.dst=some tt)
  (hf : P.funcs[f]? = some fn) (CB : (fn.name == "runtime.NumGoroutine") = false) (Ie : fn.body.isNone = true) (hn : Extern.findNext fn = none) (he : Extern.find fn = some (Extern.SlicesOverlaps.overlaps #[t, t] #[r])) (ht : P.underlying t = some (.slice e)) (mj : ∀ w, (sizeOf e).run P w = .ok 1 w)
  (hy:aF x y = .v (.slice (some ⟨b,oy,none⟩) m c)) (hk:x.S[k]?=some B) (hb:B.b=b) (hz:aF x z = .v (.slice (some ⟨b2,oz,none⟩) m2 c2)) (fF:x.S[k2]?=some B2) (oh:B2.b=b2) (lO:k≠k2) (sb:B2.size≠0) (hne:isMap B.e=false:=by rfl) (j9:isMap B2.e=false:=by rfl) :
  ga P G x o [] (fun s=>s=x.put tt (.v (.bool false))):=fun C a w K Q hG h hK=>by
 subst hb oh;obtain⟨r0,cur,r1,r2,r3,r4⟩:=h.fN hk;rw[kI hne] at r1;obtain⟨p0,nZ,p1,p2,p3,p4⟩:=h.fN fF;rw[kI j9] at p1;have YZ:B.b≠B2.b:=fun e=>by
  have hnd:=h.own.apart;have l1:=(List.getElem?_eq_some_iff.1 hk).1;have l2:=(List.getElem?_eq_some_iff.1 fF).1;have e1:(ax x.S)[k]?=some B.b:=(by unfold ax;rw[getElem?_map,hk];rfl)
  have e2:(ax x.S)[k2]?=some B2.b:=(by unfold ax;rw[getElem?_map,fF];rfl)
  obtain⟨q1,e1⟩:=List.getElem?_eq_some_iff.1 e1;obtain⟨q2,e2⟩:=List.getElem?_eq_some_iff.1 e2;rcases Nat.lt_trichotomy k k2 with q|q|q
  ·exact pairwise_iff_getElem.1 hnd k k2 q1 q2 q (by rw[e1,e2,e])
  ·exact lO q
  exact pairwise_iff_getElem.1 hnd k2 k q2 q1 q (by rw[e1,e2,e])
 have hc:(callFunc f #[a.eval y,a.eval z]).run P w = .ok (.value (.bool false)) w:=by
  rw[h.flat hy,h.flat hz,run_callFunc_extern hf CB Ie hn he,Lib.run_overlaps_apart w t r e ht 1 mj ⟨B.b,oy,none⟩ ⟨B2.b,oz,none⟩ m c m2 c2 YZ B.e B2.e cur.size nZ.size (by simp[World.shape?,r1]) (by simp[World.shape?,p1]) w4 (by unfold World.frozen?;simp[r1]) (by unfold World.frozen?;simp[r1])];rfl
 unfold Oper.wp;have nY:(execOp a.eval o).run P w = .ok (.value (.bool false)) w:=by
  unfold execOp;have ef:a.eval (.func f) = .func (.func f) #[] #[]:=rfl;simp only[ho,resolve,ef,Deferred.ofValue,Sem.run_bind,Sem.run_pure,Result.andThen_ok,invoke];simp[hc]
 rw[nY,Oper.upon_value,hd];exact hK _ _ _ rfl (h.put (.v _)) (mh.refl _ _) (Fr.refl _ _)
theorem OD.overlaps {f:FuncId} {fn:Func} {y z:Operand} {ts:Array TypeId} {t r e tt b oy m c b2 oz m2 c2 k k2:Nat} {B B2:ah} (hw:cj ops x o true) (ho:o.op = .call {callee:=.value (.func f),args:=#[y,z],argTypes:=ts}) (hd:o.dst=some tt)
  (hf : P.funcs[f]? = some fn) (CB : (fn.name == "runtime.NumGoroutine") = false) (Ie : fn.body.isNone = true) (hn : Extern.findNext fn = none) (he : Extern.find fn = some (Extern.SlicesOverlaps.overlaps #[t, t] #[r])) (ht : P.underlying t = some (.slice e)) (mj : ∀ w, (sizeOf e).run P w = .ok 1 w)
  (hy:aF x y = .v (.slice (some ⟨b,oy,none⟩) m c)) (hk:x.S[k]?=some B) (hb:B.b=b) (hz:aF x z = .v (.slice (some ⟨b2,oz,none⟩) m2 c2)) (fF:x.S[k2]?=some B2) (oh:B2.b=b2) (lO:k≠k2) (sb:B2.size≠0)
  (K:OD P C ops l (x.put tt (.v (.bool false))) Q) (hne:isMap B.e=false:=by rfl) (j9:isMap B2.e=false:=by rfl):OD P C ops (o::l) x Q :=
 OD.gk hw (Z7 (hne:=hne) (j9:=j9) ho hd hf CB Ie hn he ht mj hy hk hb hz fF oh lO sb) fun y hy=>hy ▸ K
theorem Fe {t e:TypeId} {ad:Option Addr} {len:Nat} (ho:o.op = .call {callee:=.builtin .cap,args:=#[y],argTypes:=ts}) (ht:ts = #[t]) (hy:aF x y = .v (.slice ad len cap))
  (E:∀w,(underlying t).run P w = .ok (.slice e) w):bW P G x o .none (.v (.int .i64 cap)):=fun C a w _ h=>⟨_,.v _,fun w' _=>by
 subst ht;unfold execOp;simp[ho,resolve,invoke,builtin,Builtin.cap_,h.flat hy,E,goInt]⟩

end Go.Proofs.YtkgmonfgofobaaaGreatDoor.V
namespace Go.Proofs.YtkgmonfgofobaaaGreatDoor.V

open List
open Go.RowKit
variable {P:Program} {C:dK} {G:List (Nat×List Value)} {Q:Exit→St→Prop} {x:St} {ops:Array Oper} {l:List Oper} {o:Oper}
variable {t e:TypeId} {cap sz n tt bytes:Nat} {k2 k3:IntKind} {y hi E:Operand} {ad:Option Addr} {Sq:List ah}
theorem Z8 {b len:Nat} (ho:o.op = .slice t y none (some hi) (some E)) (hy:aF x y = .v (.slice (some ⟨b,0,none⟩) len cap)) (eK:aF x hi = .v (.int k2 n)) (c8:aF x E = .v (.int k3 n))
  (I:∀w,(underlying t).run P w = .ok (.slice e) w) (hs:∀w,(sizeOf e).run P w = .ok sz w) (h3:n≤cap):bW P G x o .none (.v (.slice (some ⟨b,0,none⟩) n n)):=fun C a w _ h =>
 ⟨_,.v _,fun w' _=>by
  have b3:∀w,(Instr.sliceBounds true len cap none (some (.int k2 n)) (some (.int k3 n))).run P w = .ok (0,n,n) w:=fun w=>by
   unfold Instr.sliceBounds;simp[EX,h3]
  unfold execOp;simp only[ho,h.flat hy,h.flat eK,h.flat c8,Instr.sliceAt,Instr.slice,I,Sem.run_bind,Result.andThen_ok,Option.map_some,Option.map_none,b3,hs,Sem.run_pure];by_cases hc:n=0
  ·rw[if_pos hc];simp
  rw[if_neg hc];simp[Addr.add]⟩
theorem afj(len cap n:Nat)(h3:n≤cap)(w:World):(Instr.sliceBounds true len cap none (some (.int k2 n)) (some (.int k3 n))).run P w = .ok (0,n,n) w:=by
 unfold Instr.sliceBounds;simp[EX,h3]
theorem ZT (ho:o.op = .slice t y none (some hi) (some E)) (hy:aF x y = .v (.slice none 0 0)) (eK:aF x hi = .v (.int k2 n)) (c8:aF x E = .v (.int k3 n)) (hn:n=0)
  (I:∀w,(underlying t).run P w = .ok (.slice e) w) (hs:∀w,(sizeOf e).run P w = .ok sz w):bW P G x o .none (.v (.slice none 0 0)):=fun C a w _ h =>
 ⟨_,.v _,fun w' _=>by
  have b3:=fun w=>afj (P:=P) (k2:=k2) (k3:=k3) 0 0 n w4 w;unfold execOp;simp only[ho,h.flat hy,h.flat eK,h.flat c8,Instr.sliceAt,Instr.slice,I,Sem.run_bind,Result.andThen_ok,Option.map_some,Option.map_none,b3,hs,Sem.run_pure];subst hn;simp⟩
theorem ZU {s:Operand} {t e m b k:Nat} {z:Value} {B:ah} {cs:List D} (ho:o.op = .call {callee:=.builtin .append,args:=#[s,y],argTypes:=#[t,t]}) (hd:o.dst=some tt)
  (ht:P.underlying t=some (.slice e)) (hi:(P.info? e).map (fun i=>(i.zero,i.size,i.bytes))=some (some z,sz,bytes)) (fb:z.cells.size=sz) (iK:0<sz)
  (hs:aF x s = .v (.slice (some ⟨b,0,none⟩) n n)) (hk:x.S[k]?=some B) (hb:B.b=b) (hl:n*sz≤B.cs.length)
  (hy:aF x y = .list sz cs m) (iq:∀d∈cs,one d=true) (apW:∀d∈B.cs.take (n*sz),one d=true) (hm:0<m) (gK:n+m≤maxLen) (ag2:(n+m)*bytes≤140737488355328) (hne:isMap B.e=false:=by rfl) (j9:isMap e=false:=by rfl) :
  ga P G x o [] (fun y=>∃b' E,n+m≤E∧E≤maxLen∧y=⟨x.n,(tt,.v (.slice (some ⟨b',0,none⟩) (n+m) E))::x.env,⟨b',e,E*sz,B.cs.take (n*sz)++cs⟩::x.S⟩):=fun C a w K Q hG h hK=>by
 subst hb;obtain⟨i,kC,lQ,pG,qt⟩:=zx hi;obtain⟨r0,cur,r1,r2,r3,r4⟩:=h.fN hk;rw[kI hne] at r1;have hr:=h.eval y;rw[hy] at hr;generalize hg:a.eval y=u at hr;cases hr with
 | mB=>omega
 | list _ _ _ b' o' E f mi q1 q2 jW hL hc A7 =>
  have aj3:Builtin.nextslicecap (n+m) n*bytes≤281474976710656:=by
   have q1:=nextslicecap_le (need:=n+m) (old:=n) w4;have q2:=Nat.mul_le_mul_right bytes q1;rw[Nat.mul_assoc] at q2;omega
  have I:=Go.run_append_grow (P:=P) (w:=w) t o.type e i z ht kC lQ ⟨B.b,0,none⟩ n n (cur.toList.take (n*sz)) (by rw[pG];simp;omega) (fun j v hv=>by
    have hj:=(List.getElem?_eq_some_iff.1 hv).1;rw[length_take] at hj;rw[getElem?_take_of_lt w4,Array.getElem?_toList] at hv;rw[Addr.add_mid,Nat.zero_add];exact ou r1 hv) ⟨b',o',none⟩ m E ((range cs.length).map f) (by rw[pG];simp[mi]) (fun j u hu=>by
    rw[Addr.add_mid];obtain⟨hj,he⟩:=List.getElem?_eq_some_iff.1 hu;simp only[length_map,length_range] at hj;rw[hc j hj,←he];simp) w4 (by simp only[maxLen] at gK;omega) (by rw[qt];exact aj3)
  have h1:=grownCap_ge w (n+m) n e;have h2:=grownCap_le_maxLen w (n+m) n e gK;generalize grownCap w (n+m) n e=cp at I h1 h2;generalize O:(cur.toList.take (n*sz)).toArray++((range cs.length).map f).toArray++Builtin.zeroCells z.cells (cp-(n+m))=Z at I;have yK:∀q,(Builtin.zeroCells z.cells q).size=q*sz:=fun q=>by simp[Builtin.zeroCells,fb]
  have aa:(cur.toList.take (n*sz)).length=n*sz:=(by rw[length_take];simp;omega)
  have C0:Z.size=cp*sz:=by
   rw[←O,Array.size_append,Array.size_append,yK];simp only[size_toArray,aa,length_map,length_range,mi,←Nat.add_mul];congr 1;omega
  have Y0:(B.cs.take (n*sz)++cs).length=(n+m)*sz:=(by rw[length_append,length_take,mi,Nat.add_mul];omega)
  obtain⟨s1,s2,s3⟩:=h.grown (w':=w.drew.alloc (.cells Z e)) (t:=tt) (m:=n+m) (e:=e) (sz:=sz) (S:=x.S) (cs:=B.cs.take (n*sz)++cs) (row:=none) (g:=w.heap.size) (cap:=cp) (cur:=Z) (hne:=j9) (Sublist.refl _) (fun k hk=>by cases hk)
   ⟨rfl,rfl,rfl,by show w.heap.size≤(w.heap.push _).size;simp,fun k hk _=>getElem?_push_lt (w:=w.drew) hk⟩ (.inr rfl) NN NQ C0 (by rw[Y0];exact Nat.mul_le_mul_right _ h1) (fun j hj=>by
    rw[Y0,Nat.add_mul] at hj;by_cases dc:j<n*sz
    ·obtain⟨u,hu,hq⟩:=r4 j w4;refine⟨u,?_,?_⟩
     ·rw[←O,Array.getElem?_append_left (by simp[aa];omega),Array.getElem?_append_left (by simp[aa];omega),getElem?_toArray,getElem?_take_of_lt dc,Array.getElem?_toList,hu]
     rw[getElem_append_left pA,getElem_take];exact hq
    have U:j-n*sz<cs.length:=(by omega)
    refine⟨f (j-n*sz),?_,?_⟩
    ·rw[←O,Array.getElem?_append_left (by simp[aa];omega),Array.getElem?_append_right (by simp[aa];omega)];simp[aa,U]
    rw[getElem_append_right pA];have:=A7 (j-n*sz) U;have e1:(B.cs.take (n*sz)).length=n*sz:=(by rw[length_take];omega)
    simp only[e1];exact this)
  unfold Oper.wp;rw[BA (P:=P) ho (h.flat hs) hg I,Oper.upon_value,hd];exact hK _ _ _ ⟨_,_,h1,h2,rfl⟩ s1 s2 s3
theorem ZV {len:Nat} {cs:List D} (O:bn e sz cs len ad cap Sq) (ho:o.op = .slice t y none (some hi) (some E)) (hy:aF x y = .v (.slice ad len cap)) (eK:aF x hi = .v (.int k2 n)) (c8:aF x E = .v (.int k3 n))
  (I:∀w,(underlying t).run P w = .ok (.slice e) w) (hs:∀w,(sizeOf e).run P w = .ok sz w) (hn:n≤len):bW P G x o .none (.v (.slice ad n n)):=by
 rcases O with ⟨rfl,rfl,rfl,rfl,rfl⟩|⟨b,rfl,h1,h2,rfl⟩
 ·have h:=ZT (P:=P) (G:=G) ho hy eK c8 w4 I hs;obtain rfl:n=0:=(by omega)
  exact h
 exact Z8 ho hy eK c8 I hs w4
theorem OD.aaL {α:Type} {g:α→List D} {ls new:List α} {s:Operand} {t e:Nat} {z:Value} {R:List ah} (hg:∀a,(g a).length=sz) (hg1:∀a,(g a).all one=true) (hw:cj ops x o true) (ho:o.op = .call {callee:=.builtin .append,args:=#[s,y],argTypes:=#[t,t]}) (hd:o.dst=some tt)
  (ht:P.underlying t=some (.slice e)) (hi:(P.info? e).map (fun i=>(i.zero,i.size,i.bytes))=some (some z,sz,bytes)) (fb:z.cells.size=sz) (U:0<sz)
  (hs:aF x s = .v (.slice ad n n)) (hO:bn e sz (ls.flatMap g) ls.length ad cap Sq) (hp:x.S.Perm (Sq++R)) (hn:n≤ls.length)
  (hy:aF x y = .list sz (new.flatMap g) new.length) (hm:0<new.length) (Z:n+new.length≤maxLen) (I:(n+new.length)*bytes≤140737488355328)
  (K:∀O E,(ls.take n++new).length≤E→E≤maxLen→OD P C ops l ⟨x.n,(tt,.v (.slice (some ⟨O,0,none⟩) (ls.take n++new).length E))::x.env,⟨O,e,E*sz,(ls.take n++new).flatMap g⟩::R⟩ Q) (hne:isMap e=false:=by rfl):OD P C ops (o::l) x Q:=by
 have hlen:(ls.take n++new).length=n+new.length:=(by rw[length_append,length_take];omega)
 rcases hO with ⟨h1,h2,rfl,rfl,rfl⟩|⟨b,rfl,h1,h2,rfl⟩
 ·have Y1:ls=[]:=length_eq_zero_iff.1 h1;subst Y1;obtain rfl:n=0:=(by simpa using hn)
  refine OD.eL (hne:=hne) (ls:=([]:List α)) (new:=new) (Sq:=[]) (R:=R) (ad:=none) (cap:=0) hg hg1 hw ho hd ht hi fb U hs (.inl ⟨rfl,rfl,rfl,rfl,rfl⟩) hp hy hm (by simpa using Z) (by simpa using I) ?_;intro O E q1 q2;exact K O E (by simpa using q1) q2
 refine OD.perm hp ?_;refine OD.gk (fun C a w h=>hw C a w (Wk.perm hp.symm C a w h)) (ZU (hne:=hne) (j9:=hne) (k:=0) ho hd ht hi fb U hs rfl rfl (by rw[cz hg];exact Nat.mul_le_mul_right _ hn) hy (uq hg1 new) (by rw[ug hg];exact uq hg1 _) hm Z I) ?_;rintro _ ⟨O,E,q1,q2,rfl⟩;have k:=K O E (by rw[hlen];exact q1) q2;rw[hlen,flatMap_append,←ug hg] at k;exact OD.wk (Wk.drop _ _ _ _ (Sublist.cons_cons _ (Sublist.cons _ (Sublist.refl _)))) k
variable {S1 T:List Nat} {fuel i:Nat} {ld:Array Bool}
theorem bD.pQ {α:Type} {g:α→List D} {ls new:List α} {s:Operand} {t e:Nat} {z:Value} {R:List ah} (hg:∀a,(g a).length=sz) (hg1:∀a,(g a).all one=true) (U:ops[i]?=some o) (hw:cj ops x o true) (ho:o.op = .call {callee:=.builtin .append,args:=#[s,y],argTypes:=#[t,t]}) (hd:o.dst=some tt)
  (ht:P.underlying t=some (.slice e)) (hi:(P.info? e).map (fun i=>(i.zero,i.size,i.bytes))=some (some z,sz,bytes)) (fb:z.cells.size=sz) (iK:0<sz) (hu:∀w,(underlying t).run P w = .ok (.slice e) w) (Of:∀w,(sizeOf e).run P w = .ok sz w)
  (hs:aF x s = .v (.slice ad ls.length cap)) (O:bn e sz (ls.flatMap g) ls.length ad cap Sq) (hp:x.S.Perm (Sq++R))
  (hy:aF x y = .list sz (new.flatMap g) new.length) (gK:ls.length+new.length≤maxLen) (I:(ls.length+new.length)*bytes≤140737488355328)
  (K:∀Z E S',bn e sz ((ls++new).flatMap g) (ls++new).length Z E S'→AD P C ops S1 T fuel (ld.setIfInBounds i true) ⟨x.n,(tt,.v (.slice Z (ls++new).length E))::x.env,S'++R⟩ Q) (hne:isMap e=false:=by rfl)
  (hT:∀b∈T,b∈ax R:=by (intro b hb;simp[ax] at hb ⊢;try first|exact hb|omega)):bD P C ops S1 T fuel ld x Q i:=by
 rcases Nat.eq_zero_or_pos new.length with h0|h0
 ·have hn:new=[]:=eq_nil_of_length_eq_zero h0;subst hn;refine bD.still U hw hd (PW ho hu Of hs O.le hy) ?_;have:=K ad cap Sq (by rw[append_nil];exact O);rw[append_nil] at this;exact AD.perm hp this
 exact bD.eL (hne:=hne) (hT:=hT) hg hg1 U hw ho hd ht hi fb iK hs O hp hy h0 gK I fun b' E h1 h2=>K _ E _ (bQ h1 h2)

end Go.Proofs.YtkgmonfgofobaaaGreatDoor.V
namespace Go.Proofs.YtkgmonfgofobaaaGreatDoor.V
open List
open Go.RowKit
variable {P:Program} {C:dK} {G:List (Nat×List Value)} {Q:Exit→St→Prop} {x:St} {ops:Array Oper} {l:List Oper} {o:Oper} {S1 T:List Nat} {fuel i:Nat} {ld:Array Bool}
variable {L:Nat→Prop} {bs:List UInt8} {n:Nat}
theorem P5{w w':World}{v:Value}(hr:cn w L (.list 1 (bs.flatMap cB) n) v)(hw:∀b,b<w.heap.size→¬L b→w'.heap[b]?=w.heap[b]?) :
  (Extern.Bytes.bytesOf v).run P w' = .ok ⟨bs.toArray⟩ w':=by
 rw[Li] at hr;generalize dy:bs.map vF=cs at hr;cases hr with
 | mB _ ad cap =>
  have:bs=[]:=(by simpa using dy)
  subst this;cases ad<;>rfl
 | list _ _ _ b I cap g hl q1 q2 hb hL hc U =>
  subst dy;simp only[length_map,Nat.mul_one] at hl hc;have E:=Lib.run_loadBytesX (P:=P) w' (bs.map fun c=>(c.toNat:Int)) ⟨b,I,none⟩ .empty (fun j x hj=>by
   rw[Addr.add_mid];have O:j<bs.length:=(by have:=(List.getElem?_eq_some_iff.1 hj).1;simpa using this)
   have Z:=World.cell?_of_block (w:=w) (a:=⟨b,I+j,none⟩) (hw b hb hL);rw[Z,hc j O];have h1:=U j (by simpa using O);simp only[getElem_map,vF] at h1;rw[h1.k8];rw[getElem?_map,getElem?_eq_getElem O] at hj;simp only[Option.map_some,Option.some.injEq] at hj;rw[hj])
  rw[length_map,hl] at E;have e:Lib.bytesOf (bs.map fun c=>(c.toNat:Int))=bs:=by
   unfold Lib.bytesOf;rw[map_map];have:∀c:UInt8,((fun n:Int=>UInt8.ofNat n.toNat) ∘ fun c:UInt8=>(c.toNat:Int)) c=c:=fun c=>by simp
   rw[map_congr_left (g:=id) (fun c _=>this c),map_id]
  rw[e] at E;show(Extern.Bytes.loadBytes ⟨b,I,none⟩ n .empty).run P w'=_;rw[E];congr 1;apply ByteArray.ext;show(#[]:Array UInt8)++bs.toArray=bs.toArray;simp
theorem ZO {f:FuncId} {fn:Func} {y z:Operand} {ts:Array TypeId} {ds:List UInt8} {m:Nat} (ho:o.op = .call {callee:=.value (.func f),args:=#[y,z],argTypes:=ts}) (hy:aF x y = .list 1 (ds.flatMap cB) n) (hz:aF x z = .list 1 (bs.flatMap cB) m)
  (hf : P.funcs[f]? = some fn) (CB : (fn.name == "runtime.NumGoroutine") = false) (hb : fn.body.isNone = true) (hn : Extern.findNext fn = none) (he : Extern.find fn = some Extern.BytealgCompare.compare) :
  bW P G x o .kj (.v (.int .i64 (Lib.compareBytes ds bs))):=fun C a w _ h=>by
 have h1:=h.eval y;have h2:=h.eval z;rw[hy] at h1;rw[hz] at h2;refine⟨_,.v _,fun w' hw=>?_⟩;have e1:=P5 (P:=P) h1 hw;have e2:=P5 (P:=P) h2 hw;have hc:(callFunc f #[a.eval y,a.eval z]).run P w' = .ok (.value (.int .i64 (Lib.compareBytes ds bs))) w':=by
  rw[run_callFunc_extern hf CB hb hn he];have:(Extern.BytealgCompare.compare #[a.eval y,a.eval z]).run P w' = .ok (.int .i64 (Lib.compareBytes ds bs)) w':=by
   change Sem.run P (do pure (goInt (Extern.BytealgCompare.cmp (←Extern.Bytes.bytesOf (a.eval y)) (←Extern.Bytes.bytesOf (a.eval z))))) w'=_;simp only[Sem.run_bind,e1,e2,Sem.run_pure,Result.andThen_ok,Lib.cmp_eq];rfl
  rw[this];rfl
 unfold execOp;have ef:a.eval (.func f) = .func (.func f) #[] #[]:=rfl;generalize Oe:a.eval y=u at *;generalize yC:a.eval z=v at *;simp only[ho,resolve,ef,Deferred.ofValue,Sem.run_bind,Sem.run_pure,Result.andThen_ok,invoke];simp[hc,Oe,yC]
theorem Wk.ag5{l:List (Nat×D)}{S:List ah}{k:Nat}{B:ah}{cs':List D}(hk:S[k]?=some B)(hl:cs'.length≤B.size)(hc:∀(i:Nat) (d:D),cs'[i]?=some d→∃d0,B.cs[i]?=some d0∧∀(w:World) (L:Nat→Prop) (v:Value),cn w L d0 v→cn w L d v):Wk ⟨n,l,S⟩ ⟨n,l,S.set k {B with cs:=cs'}⟩:=fun C a w h=>by
 have dJ:=(List.getElem?_eq_some_iff.1 hk).1;have U:=(List.getElem?_eq_some_iff.1 hk).2;have E:ax (S.set k {B with cs:=cs'})=ax S:=by
  unfold ax;rw[map_set];apply ext_getElem bj;intro i q1 q2;rw[getElem_set];split
  ·rename_i e;subst e;simp[U]
  rfl
 have I:live C.X (S.set k {B with cs:=cs'})=live C.X S:=(by funext b;simp only[live,E])
 refine⟨h.defers,h.size,fun t ht=>?_,⟨fun B' Z=>?_,?_⟩,?_,h.ex,h.eV⟩
 ·simp only[I];exact h.env t ht
 ·simp only[I];obtain⟨j,hj,O⟩:=mem_iff_getElem.1 Z;rw[length_set] at hj;rw[getElem_set] at O;by_cases e:k=j
  ·rw[if_pos e] at O;subst O;obtain⟨r0,cur,r1,r2,r3,r4⟩:=h.own.at_ B (mem_of_getElem? hk);refine⟨r0,cur,r1,r2,hl,fun i hi=>?_⟩;simp only at hi hl;obtain⟨d0,hd,A7⟩:=hc i _ (getElem?_eq_getElem hi);obtain⟨hd1,hd2⟩:=List.getElem?_eq_some_iff.1 hd;obtain⟨u,hu,hq⟩:=r4 i hd1;rw[hd2] at hq;exact⟨u,hu,A7 _ _ _ hq⟩
  rw[if_neg e] at O;subst O;exact h.own.at_ _ (getElem_mem hj)
 ·simp only[E];exact h.own.apart
 simp only[E];exact h.fr
theorem cn.ofNil{w:World}(sz:Nat){v:Value}(h:cn w L (.v (.slice none 0 0)) v):cn w L (.list sz [] 0) v:=by rw[h.k8];exact .nil sz
theorem Wk.WU{l:List (Nat×D)}{S:List ah}{k:Nat}{b e:Nat}{sz sz':Nat}(hk:S[k]?=some ⟨b,e,2,[.v (.slice none 0 0),.v (.slice none 0 0)]⟩):Wk ⟨n,l,S⟩ ⟨n,l,S.set k ⟨b,e,2,[.list sz [] 0,.list sz' [] 0]⟩⟩ :=
 Wk.ag5 hk bj fun i d hd=>by
  match i,hd with
  | 0,hd=>cases hd;exact⟨_,rfl,fun _ _ _ h=>h.ofNil sz⟩
  | 1,hd=>cases hd;exact⟨_,rfl,fun _ _ _ h=>h.ofNil sz'⟩
  | i+2,hd=>simp at hd
theorem ag6 {α:Type} {g:α→List D} {t e:TypeId} {sz l' h':Nat} {lo hi:Option Operand} (hg:∀a,(g a).length=sz) {ls:List α} (e9:lo=none→l'=0) (eK:hi=none→h'=ls.length)
  (E:∀w,(underlying t).run P w = .ok (.slice e) w) (hs:∀w,(sizeOf e).run P w = .ok sz w) (h1:l'≤h') (h2:h'≤ls.length):Rs P G t lo hi l' h' (.list sz (ls.flatMap g) ls.length) (.list sz (((ls.take h').drop l').flatMap g) ((ls.take h').drop l').length):=by
 have h:=mO (P:=P) (G:=G) (sz:=sz) (cs:=ls.flatMap g) e9 eK E hs h1 h2;rw[vp hg,ug hg,←drop_take] at h;rw[show((ls.take h').drop l').length=h'-l' by rw[length_drop,length_take];omega];exact h

theorem VC.args{f:FuncId}{cs bs:List D}{S:List ah}{post:D→List ah→Prop}(h:VC P G f cs S post)(hl:bs.length=cs.length)(hr:∀(w:World) (L:Nat→Prop) (i:Nat) (h1:i<cs.length) (h2:i<bs.length) (v:Value),cn w L bs[i] v→cn w L cs[i] v):VC P G f bs S post:=fun X w vs hp=>by
 refine h X w vs ⟨hp.ex,hp.eV,hp.own,?_,fun i h1 h2=>?_⟩
 ·rw[hp.args.1,hl]
 exact hr w _ i h1 w4 _ (hp.args.2 i w4 h2)

end Go.Proofs.YtkgmonfgofobaaaGreatDoor.V
namespace Go.Proofs.YtkgmonfgofobaaaGreatDoor.V

open List
abbrev ae(x:Int):D:=.v (.int .i64 x)
abbrev cZ(b:Nat):D:=.v (.pointer (some ⟨b,0,none⟩))
abbrev bF:D:=.v (.slice none 0 0)
abbrev fj:D:=.v (.string ⟨#[]⟩)
abbrev aP(a:Option Addr)(n c:Nat):D:=.v (.slice a n c)
abbrev aZ(s:ByteArray):D:=.v (.string s)
abbrev bG(b:Bool):D:=.v (.bool b)
abbrev au{α:Type}(n:Nat)(g:α→List D)(l:List α):D:=.list n (l.flatMap g) l.length
theorem dV:maxLen=9223372036854775807:=rfl

open Go.RowKit V
instance ik3:Ik Tryz.prog 3 .i64:=⟨by kernel_rfl⟩
instance aqr:Sl Tryz.prog 22 14:=⟨by kernel_rfl⟩
instance aqs:Sl Tryz.prog 23 5:=⟨by kernel_rfl⟩
instance apX:sc Tryz.prog 23 5:=⟨by kernel_rfl⟩
instance ao8:Fo Tryz.prog 25 0 0:=⟨by kernel_rfl⟩
instance aqt:Sz Tryz.prog 25 1:=⟨by kernel_rfl⟩
instance aqu:Sb Tryz.prog 25 [.slice none 0 0] [(0,1)]:=⟨by kernel_rfl,by kernel_rfl⟩
instance ao9:Fo Tryz.prog 28 0 0:=⟨by kernel_rfl⟩
instance apa:Fo Tryz.prog 28 1 1:=⟨by kernel_rfl⟩
instance aqv:Sz Tryz.prog 28 2:=⟨by kernel_rfl⟩
instance aqw:Sb Tryz.prog 28 [.string ⟨#[]⟩,.int .i64 0] [(0,1),(1,1)]:=⟨by kernel_rfl,by kernel_rfl⟩
instance aqx:Sl Tryz.prog 29 2:=⟨by kernel_rfl⟩
instance apb:Fo Tryz.prog 33 0 0:=⟨by kernel_rfl⟩
instance apc:Fo Tryz.prog 33 1 1:=⟨by kernel_rfl⟩
instance apd:Fo Tryz.prog 33 2 2:=⟨by kernel_rfl⟩
instance aqy:Sz Tryz.prog 33 3:=⟨by kernel_rfl⟩
instance aqz:Sb Tryz.prog 33 [.int .i64 0,.int .i64 0,.string ⟨#[]⟩] [(0,1),(1,1),(2,1)]:=⟨by kernel_rfl,by kernel_rfl⟩
instance ape:Fo Tryz.prog 35 0 0:=⟨by kernel_rfl⟩
instance apf:Fo Tryz.prog 35 1 1:=⟨by kernel_rfl⟩
instance apg:Fo Tryz.prog 35 2 4:=⟨by kernel_rfl⟩
instance aqA:Sz Tryz.prog 35 5:=⟨by kernel_rfl⟩
instance aqB:Sb Tryz.prog 35 [.int .i64 0,.int .i64 0,.int .i64 0,.string ⟨#[]⟩,.string ⟨#[]⟩] [(0,1),(1,3),(4,1)]:=⟨by kernel_rfl,by kernel_rfl⟩
instance aqC:Sl Tryz.prog 36 5:=⟨by kernel_rfl⟩
instance apY:sc Tryz.prog 36 5:=⟨by kernel_rfl⟩
instance aqD:Sl Tryz.prog 37 1:=⟨by kernel_rfl⟩
instance aph:Fo Tryz.prog 39 0 0:=⟨by kernel_rfl⟩
instance api:Fo Tryz.prog 39 1 1:=⟨by kernel_rfl⟩
instance aqE:Sz Tryz.prog 39 2:=⟨by kernel_rfl⟩
instance aqF:Sb Tryz.prog 39 [.slice none 0 0,.int .i64 0] [(0,1),(1,1)]:=⟨by kernel_rfl,by kernel_rfl⟩
instance aqG:Sl Tryz.prog 43 3:=⟨by kernel_rfl⟩
instance apZ:sc Tryz.prog 43 3:=⟨by kernel_rfl⟩
instance aqH:Sl Tryz.prog 44 1:=⟨by kernel_rfl⟩
instance ap0:sc Tryz.prog 44 1:=⟨by kernel_rfl⟩
instance apj:Fo Tryz.prog 46 0 0:=⟨by kernel_rfl⟩
instance apk:Fo Tryz.prog 46 1 1:=⟨by kernel_rfl⟩
instance apl:Fo Tryz.prog 46 2 2:=⟨by kernel_rfl⟩
instance apm:Fo Tryz.prog 46 3 3:=⟨by kernel_rfl⟩
instance apn:Fo Tryz.prog 46 4 4:=⟨by kernel_rfl⟩
instance apo:Fo Tryz.prog 46 5 5:=⟨by kernel_rfl⟩
instance apq:Fo Tryz.prog 46 6 6:=⟨by kernel_rfl⟩
instance apr:Fo Tryz.prog 46 7 7:=⟨by kernel_rfl⟩
instance aps:Fo Tryz.prog 46 8 8:=⟨by kernel_rfl⟩
instance apt:Fo Tryz.prog 46 9 9:=⟨by kernel_rfl⟩
instance aoO:Fo Tryz.prog 46 10 10:=⟨by kernel_rfl⟩
instance aoP:Fo Tryz.prog 46 11 11:=⟨by kernel_rfl⟩
instance aqI:Sz Tryz.prog 46 12:=⟨by kernel_rfl⟩
instance aqJ:Sb Tryz.prog 46 [.int .i64 0,.string ⟨#[]⟩,.slice none 0 0,.slice none 0 0,.slice none 0 0,.bool false,.slice none 0 0,.string ⟨#[]⟩,.bool false,.int .i64 0,.string ⟨#[]⟩,.slice none 0 0] [(0,1),(1,1),(2,1),(3,1),(4,1),(5,1),(6,1),(7,1),(8,1),(9,1),(10,1),(11,1)]:=⟨by kernel_rfl,by kernel_rfl⟩
instance apu:Fo Tryz.prog 54 0 0:=⟨by kernel_rfl⟩
instance apv:Fo Tryz.prog 54 1 1:=⟨by kernel_rfl⟩
instance apw:Fo Tryz.prog 54 2 2:=⟨by kernel_rfl⟩
instance apx:Fo Tryz.prog 54 3 3:=⟨by kernel_rfl⟩
instance aqK:Sz Tryz.prog 54 4:=⟨by kernel_rfl⟩
instance aqL:Sb Tryz.prog 54 [.int .i64 0,.int .i64 0,.string ⟨#[]⟩,.slice none 0 0] [(0,1),(1,1),(2,1),(3,1)]:=⟨by kernel_rfl,by kernel_rfl⟩
instance apy:Fo Tryz.prog 65 0 0:=⟨by kernel_rfl⟩
instance apz:Fo Tryz.prog 65 1 1:=⟨by kernel_rfl⟩
instance apA:Fo Tryz.prog 65 2 2:=⟨by kernel_rfl⟩
instance apB:Fo Tryz.prog 65 3 3:=⟨by kernel_rfl⟩
instance apC:Fo Tryz.prog 65 4 4:=⟨by kernel_rfl⟩
instance apD:Fo Tryz.prog 65 5 5:=⟨by kernel_rfl⟩
instance apE:Fo Tryz.prog 65 6 9:=⟨by kernel_rfl⟩
instance apF:Fo Tryz.prog 65 7 13:=⟨by kernel_rfl⟩
instance aqM:Sz Tryz.prog 65 14:=⟨by kernel_rfl⟩
instance aqN:Sb Tryz.prog 65 [.int .i64 0,.int .i64 0,.int .i64 0,.int .i64 0,.slice none 0 0,.int .i64 0,.int .i64 0,.string ⟨#[]⟩,.slice none 0 0,.int .i64 0,.int .i64 0,.string ⟨#[]⟩,.slice none 0 0,.bool false] [(0,1),(1,1),(2,1),(3,1),(4,1),(5,4),(9,4),(13,1)]:=⟨by kernel_rfl,by kernel_rfl⟩
instance aqO:Sl Tryz.prog 70 1:=⟨by kernel_rfl⟩
instance ap1:sc Tryz.prog 70 1:=⟨by kernel_rfl⟩
instance aqP:Sl Tryz.prog 73 5:=⟨by kernel_rfl⟩
instance apG:Fo Tryz.prog 75 0 0:=⟨by kernel_rfl⟩
instance apH:Fo Tryz.prog 75 1 1:=⟨by kernel_rfl⟩
instance aqQ:Sz Tryz.prog 75 2:=⟨by kernel_rfl⟩
instance aqR:Sb Tryz.prog 75 [.slice none 0 0,.int .i64 0] [(0,1),(1,1)]:=⟨by kernel_rfl,by kernel_rfl⟩
instance apI:Fo Tryz.prog 77 0 0:=⟨by kernel_rfl⟩
instance apJ:Fo Tryz.prog 77 1 1:=⟨by kernel_rfl⟩
instance apK:Fo Tryz.prog 77 2 2:=⟨by kernel_rfl⟩
instance apL:Fo Tryz.prog 77 3 3:=⟨by kernel_rfl⟩
instance aqS:Sz Tryz.prog 77 5:=⟨by kernel_rfl⟩
instance aqT:Sb Tryz.prog 77 [.string ⟨#[]⟩,.slice none 0 0,.slice none 0 0,.slice none 0 0,.int .i64 0] [(0,1),(1,1),(2,1),(3,2)]:=⟨by kernel_rfl,by kernel_rfl⟩
instance aqU:Sl Tryz.prog 87 2:=⟨by kernel_rfl⟩
instance apM:Fo Tryz.prog 92 1 1:=⟨by kernel_rfl⟩
instance aqV:Sz Tryz.prog 92 2:=⟨by kernel_rfl⟩
instance apN:sc Tryz.prog 110 3:=⟨by kernel_rfl⟩
instance aoQ:Fo Tryz.prog 125 0 0:=⟨by kernel_rfl⟩
instance aoR:Fo Tryz.prog 125 1 1:=⟨by kernel_rfl⟩
instance aoS:Fo Tryz.prog 125 2 2:=⟨by kernel_rfl⟩
instance ap2:Sz Tryz.prog 125 3:=⟨by kernel_rfl⟩
instance ap3:Sb Tryz.prog 125 [.int .i64 0,.int .i64 0,.string ⟨#[]⟩] [(0,1),(1,1),(2,1)]:=⟨by kernel_rfl,by kernel_rfl⟩
instance ap4:Sl Tryz.prog 144 1:=⟨by kernel_rfl⟩
instance aoT:Fo Tryz.prog 146 0 0:=⟨by kernel_rfl⟩
instance aoU:Fo Tryz.prog 146 1 1:=⟨by kernel_rfl⟩
instance aoV:Fo Tryz.prog 146 2 2:=⟨by kernel_rfl⟩
instance aoW:Fo Tryz.prog 146 3 3:=⟨by kernel_rfl⟩
instance aoX:Fo Tryz.prog 146 4 4:=⟨by kernel_rfl⟩
instance ap5:Sz Tryz.prog 146 5:=⟨by kernel_rfl⟩
instance ap6:Sb Tryz.prog 146 [.bool false,.slice none 0 0,.slice none 0 0,.slice none 0 0,.int .i64 0] [(0,1),(1,1),(2,1),(3,1),(4,1)]:=⟨by kernel_rfl,by kernel_rfl⟩
instance ap7:Sl Tryz.prog 163 1:=⟨by kernel_rfl⟩
instance apO:sc Tryz.prog 163 1:=⟨by kernel_rfl⟩
instance aoY:Fo Tryz.prog 170 0 0:=⟨by kernel_rfl⟩
instance aoZ:Fo Tryz.prog 170 1 1:=⟨by kernel_rfl⟩
instance ao0:Fo Tryz.prog 170 2 2:=⟨by kernel_rfl⟩
instance ap8:Sz Tryz.prog 170 3:=⟨by kernel_rfl⟩
instance ap9:Sb Tryz.prog 170 [.int .i64 0,.string ⟨#[]⟩,.int .i64 0] [(0,1),(1,1),(2,1)]:=⟨by kernel_rfl,by kernel_rfl⟩
instance aqa:Sl Tryz.prog 180 1:=⟨by kernel_rfl⟩
instance ao1:Fo Tryz.prog 182 0 0:=⟨by kernel_rfl⟩
instance ao2:Fo Tryz.prog 182 1 2:=⟨by kernel_rfl⟩
instance ao3:Fo Tryz.prog 182 2 3:=⟨by kernel_rfl⟩
instance aqb:Sz Tryz.prog 182 4:=⟨by kernel_rfl⟩
instance aqc:Sb Tryz.prog 182 [.slice none 0 0,.int .i64 0,.map none,.slice none 0 0] [(0,2),(2,1),(3,1)]:=⟨by kernel_rfl,by kernel_rfl⟩
instance aqd:Ik Tryz.prog 208 .u64:=⟨by kernel_rfl⟩
instance aqe:Sz Tryz.prog 219 0:=⟨by kernel_rfl⟩
instance aqf:Sb Tryz.prog 219 [] []:=⟨by kernel_rfl,by kernel_rfl⟩
instance ao4:Fo Tryz.prog 230 0 0:=⟨by kernel_rfl⟩
instance ao5:Fo Tryz.prog 230 1 1:=⟨by kernel_rfl⟩
instance aqg:Sz Tryz.prog 230 2:=⟨by kernel_rfl⟩
instance aqh:Sb Tryz.prog 230 [.slice none 0 0,.slice none 0 0] [(0,1),(1,1)]:=⟨by kernel_rfl,by kernel_rfl⟩

end Go.Proofs.YtkgmonfgofobaaaGreatDoor.V
namespace Go.Proofs.YtkgmonfgofobaaaGreatDoor.Nm
open List
open Go.Proofs.Tryz
open Go.RowKit V
variable {k:Nat}
def wordsB:List (List UInt8):=[[67,82,69,65,84,69],[84,65,66,76,69],[68,82,79,80],[73,78,83,69,82,84],[73,78,84,79],[86,65,76,85,69,83],[83,69,76,69,67,84],[67,79,85,78,84],[70,82,79,77],[87,72,69,82,69],[79,82,68,69,82],[66,89],[68,69,83,67],[76,73,77,73,84],[85,80,68,65,84,69],[83,69,84],[68,69,76,69,84,69],[66,69,71,73,78],[67,79,77,77,73,84],[82,79,76,76,66,65,67,75],[65,78,68],[79,82],[78,79,84],[73,83],[78,85,76,76],[84,82,85,69],[70,65,76,83,69],[73,78,84],[84,69,88,84],[66,79,79,76]]
def marksB:List (List UInt8):=[[60,61],[62,61],[60,62],[40],[41],[44],[42],[43],[45],[61],[60],[62]]
def vw:List ByteArray:=wordsB.map fun b=>⟨b.toArray⟩
def Gg:List ByteArray:=marksB.map fun b=>⟨b.toArray⟩
def wordsC:List Value:=vw.map .string
def marksC:List Value:=Gg.map .string
def xm(c:UInt8):Bool:=decide ((97≤c.toNat∧c.toNat≤122)∨(65≤c.toNat∧c.toNat≤90)∨c.toNat=95)
def Gh(c:UInt8):Bool:=decide (48≤c.toNat∧c.toNat≤57)
def xI(c:UInt8):Bool:=xm c||Gh c
def GJ(p:UInt8→Bool)(s:ByteArray):Nat:=(s.data.toList.takeWhile p).length
theorem Vm(p:UInt8→Bool):∀(l:List UInt8) (k:Nat),k≤l.length→(∀x∈l.take k,p x=true)→(∀h:k<l.length,p l[k]=false)→(l.takeWhile p).length=k
 | [],k,h,_,_=>by simp at h;subst h;rfl
 | a::r,0,_,_,h=>by
  have:p a=false:=h bj;rw[takeWhile_cons];simp[this]
 | a::r,k+1,h1,h2,h3=>by
  have ha:p a=true:=h2 a bj;rw[takeWhile_cons,if_pos ha,length_cons,Vm p r k (by simpa using h1) (fun x hx=>h2 x (by rw[take_succ_cons];exact mem_cons_of_mem _ hx)) (fun h=>by have:=h3 pC;simpa using this)]
theorem FV{p:UInt8→Bool}{s:ByteArray}(hk:k≤s.size)(h0:∀x∈s.data.toList.take k,p x=true)(h1:k<s.size→p (my s k)=false):GJ p s=k :=
 Vm p _ k (by rw[kJ];exact hk) h0 fun h=>by rw[IW h];exact h1 (by rw[kJ] at h;exact h)
structure Tk where
 k:Int
 s:ByteArray
 n:Int
def cT(t:Tk):List D:=[ae t.k,aZ t.s,ae t.n]
theorem iX(t:Tk):(cT t).length=3:=rfl
def oB(s:ByteArray):Bool:=!decide (s.size=0)&&xm (my s 0)&&((GJ xI s:Int)==(s.size:Int))
def um(t:Tk):Int :=
 if t.k=1 then (if (decide (t.n=0)&&oB t.s)=true then 0 else 6)
 else if t.k=2 then (if t.n<0 then 3 else if t.s.size=0 then 0 else 6)
 else if t.k=3 then (if t.n=0 then 0 else 6)
 else if t.k=4 then (if (decide (t.n=0)&&Gg.any (jt t.s))=true then 0 else 6)
 else 2
def cy(s:ByteArray):Int:=if s.size>8 then 1 else if (!(oB s)||vw.any (jt s))=true then 6 else 0
theorem Qe(s:ByteArray):um ⟨1,s,0⟩=if oB s=true then 0 else 6:=by
 unfold um;rw[if_pos rfl];simp
variable {G:List (Nat×List Value)}
theorem QN(c:UInt8):VP Tryz.prog G 154 [.v (.int .u8 ((c).toNat:Int))] (bG (xm c)):=by
 refine VC.body func154 rfl ntmps154 aQ fun X0 w0 bf=>?_;refine af [0] ?_;refine aB 3 ?_;refine bY 5 (fun Z O=>?_) (fun Z O=>?_)
 ·refine aH 4 ?_;refine bY 9 (fun OB U=>?_) (fun OB U=>?_)
  ·exact z51
  refine aH 3 ?_;refine bY 12 (fun I E=>?_) (fun I E=>?_)
  ·exact WL
  exact z51
 refine aH 7 ?_;refine bY 12 (fun I E=>?_) (fun I E=>?_)
 ·exact WL
 refine bp [2] ?_;refine eZ ?_;refine⟨vb ?_,rfl⟩;rw[Bool.eq_iff_iff];simp[xm];first|done|omega
theorem ads(c:UInt8):VP Tryz.prog G 157 [.v (.int .u8 ((c).toNat:Int))] (bG (Gh c)):=by
 refine VC.body func157 rfl ntmps157 aQ fun X0 w0 bf=>?_;refine af [0] ?_;refine aB 3 ?_;refine bY 5 (fun I E=>?_) (fun I E=>?_)
 ·refine bp [2] ?_;refine eZ ?_;refine⟨vb ?_,rfl⟩;rw[Bool.eq_iff_iff];simp[Gh];first|done|omega
 refine bp [2] ?_;refine eZ ?_;refine⟨vb ?_,rfl⟩;rw[Bool.eq_iff_iff];simp[Gh];first|done|omega
theorem RN(c:UInt8):VP Tryz.prog G 156 [.v (.int .u8 ((c).toNat:Int))] (bG (xI c)):=by
 refine VC.body func156 rfl ntmps156 aQ fun X0 w0 bf=>?_;refine af [0] ?_;refine aB 1 ?_;refine ec call154 (QN c) ?_;refine aH 1 ?_;refine bY 5 (fun I E=>?_) (fun I E=>?_)
 ·refine an 9 [2] ?_;refine aM [] ?_;exact⟨vb (by simp[xI, *]),rfl⟩
 refine aH 1 ?_;refine OD.iC iJ rfl rfl rfl call157 (ads c) ⟨ot,trivial⟩ ?_;refine an 9 [2] ?_;refine aM [] ?_;exact⟨vb (by simp[xI, *]),rfl⟩
theorem TK(s:ByteArray)(g:Nat)(p:UInt8→Bool)(fG:∀args w,(callFunc g args).run Tryz.prog w = .ok (.enter g args) w)(hp:∀c,VP Tryz.prog G g [.v (.int .u8 ((c).toNat:Int))] (bG (p c)))(hs:s.size≤maxLen):VP Tryz.prog G 155 [aZ s,.eH (.func g) []] (ae (GJ p s)):=by
 refine VC.body func155 rfl ntmps155 aQ fun X0 w0 bf=>?_;simp only[maxLen] at hs;refine af [0,1] ?_;refine af [0,1,5] ?_;refine eG [0,1] (fun aS _ (k:Nat) aE=>(k≤s.size)∧(∀x∈s.data.toList.take k,p x=true)∧aE=(⟨20,(5,ae (k:Nat))::aS,[]⟩:St)) (fun (k:Nat)=>s.size-k) 0 ⟨(Nat.zero_le _),bj,rfl⟩ ?_;rintro k _ ⟨hk,h0,rfl⟩;refine aB 5 ?_;refine bY 10 (fun I E=>?_) (fun I E=>?_)
 ·have O:k<s.size:=(by omega)
  have yn:s[k]?=some (my s k):=Lj O;refine aH 3 ?_;refine OD.still iJ rfl (IU rfl ot ot runUnderlying9 rfl (by first|assumption|rfl)) ?_;refine OD.lY (f:=g) (args:=[_]) (all:=[_]) iJ rfl rfl ot fG (hp (my s k)) rfl ⟨ot,trivial⟩ (fg _) ?_;rintro _ S2 ⟨rfl,rfl⟩;refine an 20 [0,1,5,16] ?_;refine av ?_ ?_<;>intro aL bB
  ·refine cc [0,1,5] ?_;refine⟨(k+1),_,cr,aJ,w4,(zm (by rw[kJ];exact O) h0 (by rw[IW];assumption)),rfl⟩
  refine af [4] ?_;refine aM [] ?_;refine⟨vi ?_,rfl⟩;first|(rw[FV hk h0 (fun h=>by omega)];done)|(rw[FV hk h0 (fun h=>by assumption)];done)
 refine bp [0,1,5,16] ?_;refine gq ?_;refine af [4] ?_;refine eZ ?_;refine⟨vi ?_,rfl⟩;first|(rw[FV hk h0 (fun h=>by omega)];done)|(rw[FV hk h0 (fun h=>by assumption)];done)
theorem adt(E:List ByteArray)(s:ByteArray)(hlen:E.length≤maxLen):VP Tryz.prog G 158 [au 1 cS E,aZ s] (ae (dP (jt s) E)):=by
 refine VC.body func158 rfl ntmps158 aQ fun X0 w0 bf=>?_;simp only[maxLen] at hlen;refine af [0,1] ?_;refine af [0,1,7,8] ?_;refine eG [0,1,7] (fun aS _ (k:Nat) aE=>(k≤E.length)∧(∀x∈E.take k,jt s x=false)∧aE=(⟨19,(8,ae (k:Nat))::aS,[]⟩:St)) (fun (k:Nat)=>E.length-k) 0 ⟨(Nat.zero_le _),bj,rfl⟩ ?_;rintro k _ ⟨hk,h0,rfl⟩;refine af [0,1,7,8,9] ?_;refine av ?_ ?_<;>intro aL bB
 ·have aa:k<E.length:=(by omega)
  refine af [0,1,5,7,8] ?_;refine af [0,1,5,7,8,16] ?_;refine av ?_ ?_<;>intro aY cD
  ·refine af [4] ?_;refine aM [] ?_;refine⟨vi ?_,rfl⟩;first|(rw[wQ w4 h0 aY];done)|(rw[vf w4 h0];done)
  refine cc [0,1,7,8] ?_;refine⟨(k+1),_,cr,aJ,w4,(zm w4 h0 aY),rfl⟩
 refine af [4] ?_;refine aM [] ?_;refine⟨vi ?_,rfl⟩;first|(rw[wQ w4 h0 aY];done)|(rw[vf w4 h0];done)
theorem P6(E:List ByteArray)(s:ByteArray)(hlen:E.length≤maxLen):VP Tryz.prog G 130 [au 1 cS E,aZ s] (bG (E.any (jt s))):=by
 refine VC.body func130 rfl ntmps130 aQ fun X0 w0 bf=>?_;refine af [0,1] ?_;refine cL [4] (adt E s hlen) ?_;refine aM [] ?_;exact⟨vb RV,rfl⟩
theorem pS(hm:(3,marksC)∈G)(t:Tk)(hs:t.s.size≤maxLen):VP Tryz.prog G 129 [.agg (cT t)] (ae (um t)):=by
 refine VC.body func129 rfl ntmps129 aQ fun X0 w0 bf=>?_;unfold cT;refine cf ?_;refine OD.box (ds:=[_,_,_]) ap rfl rfl ot rfl rfl (fun b1=>?_);refine an 53 [1] ?_;refine af [1,3] ?_;refine af [1,3,8] ?_;refine af [1,3,8,9] ?_;refine av ?_ ?_<;>intro aL bB
 ·refine iv 21 (ax _) ?_ (fun _ h=>h);refine aD 0 rfl bI ?_;refine aD 1 rfl bI ?_;refine dZ.split (t:=12) lk (fun U=>?_) (fun U=>?_)
  ·have E:=U;(try simp only[V.nL,ne_eq] at E)
   refine aD 2 rfl (dX 1) ?_;refine aD 3 rfl (ee 0) ?_;refine aD 4 rfl qs ?_;refine aD 5 rfl xU ?_;refine aD 6 rfl bI ?_;refine dZ.split (t:=17) lk (fun xT=>?_) (fun xT=>?_)
   ·have xH:=xT;(try simp only[V.nL,ne_eq] at xH)
    refine aD 7 rfl (dX 1) ?_;refine aD 8 rfl (ee 0) ?_;refine aD 9 rfl (IU (c:=my t.s 0) rfl ot bP runUnderlying9 rfl (Lj (agT uL))) ?_;refine dZ.later rfl ?_;refine AD.one (i:=10) aC ?_;refine bD.iC rfl iJ rfl rfl rfl call154 (QN _) ⟨ot,trivial⟩ ?_;refine dj 11 rfl xU ?_;refine dj 12 rfl bI ?_;refine AD.split (t:=23) lk (fun Z=>?_) (fun Z=>?_)
    ·have I:=Z;(try simp only[V.nL,ne_eq] at I)
     refine dj 13 rfl (dX 1) ?_;refine dj 16 rfl (dX 1) ?_;refine AD.two (i:=14) (j:=17) aC ?_ ?_
     ·refine at_ rfl (ee 0) ?_;refine AD.two (i:=15) (j:=17) aC ?_ ?_
      ·refine bD.iC rfl iJ rfl rfl rfl call155 (TK t.s 156 xI call156 RN hs) ⟨ot,tV,trivial⟩ ?_;refine AD.one (i:=17) aC ?_;refine at_ rfl (ee 0) ?_;refine dj 18 rfl (EY rfl rfl ot runUnderlying9) ?_;refine dj 19 rfl qs ?_;refine dj 20 rfl xU ?_;exact z124
      refine at_ rfl (ee 0) ?_;refine dj 18 rfl (EY rfl rfl ot runUnderlying9) ?_;exact z145
     refine at_ rfl (ee 0) ?_;refine dj 18 rfl (EY rfl rfl ot runUnderlying9) ?_;refine AD.one (i:=14) aC ?_;refine at_ rfl (ee 0) ?_;exact z145
    have I:=Z;(try simp only[V.nL,ne_eq] at I)
    exact z6
   have xH:=xT;(try simp only[V.nL,ne_eq] at xH)
   exact z127
  have E:=U;(try simp only[V.nL,ne_eq] at E)
  refine mF 2 rfl ?_;refine mF 3 rfl ?_;refine mF 4 rfl ?_;refine aD 5 rfl vM ?_;refine aD 6 rfl bI ?_;exact z127
 refine af [1,3,8,32] ?_;refine av ?_ ?_<;>intro aY cD
 ·refine af [1,36] ?_;refine av ?_ ?_<;>intro cm cR
  ·refine af [2] ?_;refine aM [] ?_;exact NU
  refine cc [3] ?_;exact WH
 refine af [1,3,8,40] ?_;refine av ?_ ?_<;>intro da eA
 ·exact WH
 refine af [1,3,42] ?_;refine av ?_ ?_<;>intro dR fH
 ·refine iv 7 (ax _) ?_ (fun _ h=>h);refine aD 0 rfl bI ?_;refine aD 1 rfl bI ?_;refine dZ.split (t:=45) lk (fun MG=>?_) (fun MG=>?_)
  ·have O:=MG;(try simp only[V.nL,ne_eq] at O)
   refine aD 2 rfl (eJ (l:=0) (h:=0) rfl wT trivial trivial (by first|exact TY (ls:=Gg) (g:=cS) hm rfl rfl runUnderlying223 sizeOf9 rfl w7 w7)) ?_;refine aD 3 rfl (dX 1) ?_;refine aD 4 rfl (ee 0) ?_;refine dZ.later rfl ?_;refine AD.one (i:=5) aC ?_;refine bD.iC rfl iJ rfl rfl rfl call130 (P6 Gg t.s w7) ⟨ot,ot,trivial⟩ ?_;refine dj 6 rfl xU ?_;exact z124
  have O:=MG;(try simp only[V.nL,ne_eq] at O)
  refine mF 2 rfl ?_;refine mF 3 rfl ?_;refine mF 4 rfl ?_;refine dZ.later rfl ?_;refine AD.one (i:=5) aC ?_;refine bD.skip rfl (mP rfl rfl rfl lk jC) rfl ?_;refine dj 6 rfl vM ?_;refine fB ?_;refine bp [3] ?_;refine af [52] ?_;refine eY ?_;exact z12
 refine af [2] ?_;refine aM [] ?_;refine⟨vi ?_,rfl⟩;try simp only[vn] at *
 simp only[um,oB];try simp_all
 try omega
theorem vo(hm:(3,marksC)∈G)(hw:(1,wordsC)∈G)(s:ByteArray)(hs:s.size≤maxLen):VP Tryz.prog G 82 [aZ s] (ae (cy s)):=by
 refine VC.body func82 rfl ntmps82 aQ fun X0 w0 bf=>?_;refine af [0] ?_;refine af [0,5] ?_;refine av ?_ ?_<;>intro aL bB
 ·exact N0
 refine aB 2 ?_;refine ec call129 (pS hm ⟨1,s,0⟩ hs) ?_;refine aH 2 ?_;refine bY 10 (fun I E=>?_) (fun I E=>?_)
 ·refine an 15 [14] ?_;refine eY ?_;exact N0
 refine OD.still iJ rfl (eJ (l:=0) (h:=0) rfl wT trivial trivial (by first|exact TY (ls:=vw) (g:=cS) hw rfl rfl runUnderlying197 sizeOf9 rfl w7 w7)) ?_;refine aH 1 ?_;refine OD.iC iJ rfl rfl rfl call130 (P6 vw s w7) ⟨ot,ot,trivial⟩ ?_;refine an 15 [14] ?_;refine av ?_ ?_<;>intro aY cD
 ·exact N0
 refine af [2] ?_;refine aM [] ?_;refine⟨vi ?_,rfl⟩;try simp only[Qe] at *
 simp only[cy];first|(rw[if_pos w4];done)|(rw[if_neg w4];cases h1:oB s<;>cases h2:vw.any (jt s)<;>simp_all)
def wb(c:UInt8):UInt8:=UInt8.ofNat (97+c.toNat % 26)
theorem ag7(c:UInt8):(wb c).toNat=97+c.toNat % 26:=by
 have:c.toNat % 26<26:=Nat.mod_lt _ w7;unfold wb;rw[UInt8.toNat_ofNat'];exact Nat.mod_eq_of_lt w4
theorem afk(c:UInt8):IntKind.u8.wrap (97+(c.toNat:Int).tmod 26)=((wb c).toNat:Int):=by
 rw[ag7];have h1:(c.toNat:Int).tmod 26=((c.toNat % 26:Nat):Int):=rfl;have:c.toNat % 26<26:=Nat.mod_lt _ w7;rw[h1];have e:(97+((c.toNat % 26:Nat):Int))=((97+c.toNat % 26:Nat):Int):=(by omega)
 rw[e];show((97+c.toNat % 26:Nat):Int) % 256=_;omega
def zV(s:ByteArray):List UInt8:=if s.size=0 then [120] else (s.data.toList.take 6).map wb
def xF(s:ByteArray):ByteArray:=⟨(zV s).toArray⟩
theorem JM{s:ByteArray}(h:k<s.size):(s.data.toList.take k).map wb++[wb (my s k)]=(s.data.toList.take (k+1)).map wb:=by
 have h':k<s.data.toList.length:=(by rw[kJ];exact h)
 rw[take_succ_eq_append_getElem h',map_append,IW h'];rfl
theorem RJ{s:ByteArray}(hk:k≤s.size)(h:k=s.size∨6≤k)(h6:k≤6):(s.data.toList.take k)=s.data.toList.take 6:=by
 rcases h with h|h
 ·rw[take_of_length_le (by rw[kJ];omega),take_of_length_le (by rw[kJ];omega)]
 rw[show k=6 by omega]
theorem abD:(Tryz.prog.info? 5).map (fun i=>(i.zero,i.size,i.bytes))=some (some (.int .u8 0),1,1):=by kernel_rfl
theorem rH(s:ByteArray)(hs:s.size≤maxLen):VP Tryz.prog G 39 [aZ s] (aZ (xF s)):=by
 refine VC.body func39 rfl ntmps39 aQ fun X0 w0 bf=>?_;simp only[maxLen] at hs;refine af [0] ?_;refine cf ?_;refine bp [0,3] ?_;refine af [0,3,4] ?_;refine CD.block ?_;refine nq (fun (E:Nat×Option Addr×Nat×List ah) aE=>match E with|(k,O,U,Sb)=>(k≤s.size)∧(k≤6)∧(bn 5 1 (((s.data.toList.take k).map wb).flatMap cB) ((s.data.toList.take k).map wb).length O U Sb)∧aE=(⟨28,[(0,aZ s),(3,aP O ((s.data.toList.take k).map wb).length U),(4,ae (k:Nat))],(Sb)⟩:St)) (fun (E:Nat×Option Addr×Nat×List ah)=>match E with|(k,O,U,Sb)=>s.size-k) (0,none,0,[]) ⟨(Nat.zero_le _),(Nat.zero_le _),(bn.cast iW lu),rfl⟩ (aJ (h:=by repeat (first|exact trivial|refine⟨(by (repeat (first|exact fP|(apply gi;focus (first|rfl|(simp;done)|(congr 2;omega)|(apply eP;exact JM Z)|(apply eP;simp;done)))|(apply fU;focus rfl)));done),?_⟩))) ?_;rintro⟨k,O,U,Sb⟩ _ ⟨hk,h6,pJ,rfl⟩;refine aB 5 ?_;refine bY 9 (fun OB aj4=>?_) (fun OB aj4=>?_)
 ·refine bp [0,3,4,12] ?_;refine av ?_ ?_<;>intro aL bB
  ·refine dY 2 ?_;have Z:k<s.size:=(by omega)
   have yn:s[k]?=some (my s k):=Lj Z;refine aH 1 ?_;refine bV (IU rfl ot ot runUnderlying9 rfl (by first|assumption|rfl)) ?_;refine bV (dA rfl ot bP (Kv w4)) ?_;refine bV (dA (r:=.int .u8 ((wb (my s k)).toNat:Int)) rfl bP ot (kr (afk _))) ?_;refine eD (cq 0 [_]) [.int .u8 0] [_] zeroValue5 runUnderlying90 sizeOf5 (fun D2=>?_);refine fT 0 21 1 1 ?_;refine OD.eL (ls:=((s.data.toList.take k).map wb)) (new:=[wb (my s k)]) (Sq:=Sb) pX xz ap rfl rfl underlying90 abD rfl w7 ot pJ (dI (A:=[])) ot bj wg iB (fun OC I aj5 aj6=>?_);refine OD.perm (ez (S1:=[⟨OC,5,I*1,flatMap cB (((s.data.toList.take k).map wb)++[wb (my s k)])⟩]) (A:=[])) ?_;refine an 28 [0,3,4] ?_;refine cc [0,3,4] ?_;refine⟨((k+1),(some ⟨OC,0,none⟩),I,[⟨OC,5,I*1,flatMap cB (((s.data.toList.take k).map wb)++[wb (my s k)])⟩]),_,cr,(aJ (h:=by repeat (first|exact trivial|refine⟨(by (repeat (first|exact fP|(apply gi;focus (first|rfl|(simp;done)|(congr 2;omega)|(apply eP;exact JM Z)|(apply eP;simp;done)))|(apply fU;focus rfl)));done),?_⟩))),w4,w4,(bn.cast (bQ aj5 aj6) (by exact JM Z)),rfl⟩
  refine af [3,25] ?_;refine av ?_ ?_<;>intro aY cD
  ·refine af [2] ?_;refine eZ ?_;exact z53
  refine aB 1 ?_;refine OD.iE (t:=26) (Sq:=Sb) lk pJ (cz pX _) (dI (A:=[])) ?_;refine bV DT ?_;refine an 28 [2] ?_;refine aM [] ?_;exact z53
 refine bp [0,3,4,12] ?_;refine gq ?_;refine af [3,25] ?_;refine av ?_ ?_<;>intro aY cD
 ·refine af [2] ?_;refine eZ ?_;exact z53
 refine aB 1 ?_;refine OD.iE (t:=26) (Sq:=Sb) lk pJ (cz pX _) (dI (A:=[])) ?_;refine bV DT ?_;refine an 28 [2] ?_;refine aM [] ?_;refine⟨vs ?_,rfl⟩;have A3:k=s.size∨6≤k:=(by omega)
 have Mn:min k s.size=k:=Nat.min_eq_left hk;simp only[length_map,length_take,kJ,Mn] at *;unfold xF zV;first|(rw[if_pos w4];done)|(rw[if_neg w4,RJ hk A3 h6])
abbrev MarksTab(w:World):Prop:=Tab.l5 w 3 marksC

end Go.Proofs.YtkgmonfgofobaaaGreatDoor.Nm
namespace Go.Proofs.YtkgmonfgofobaaaGreatDoor.Pk
open List
open Go.Proofs.Tryz
open Go.RowKit V
def ev(n m:Int):Int:=if n<0 then (-(n+1)).tmod m else n.tmod m
theorem jZ(n:Int){m:Int}(h:1≤m):0≤ev n m∧ev n m<m:=by
 have key:∀k:Int,0≤k→0≤k.tmod m∧k.tmod m<m:=fun k hk=>⟨Int.tmod_nonneg _ hk,Int.tmod_lt_of_pos _ w4⟩
 unfold ev;split
 ·exact key _ w4
 exact key _ w4
variable (G:List (Nat×List Value))
theorem kH(n m:Int)(hn:-9223372036854775808≤n)(gJ:n≤9223372036854775807)(hm:1≤m):VP Tryz.prog G 14 [ae n,ae m] (ae (ev n m)):=by
 refine VC.body func14 rfl ntmps14 aQ fun X0 w0 bf=>?_;refine af [0,1] ?_;refine af [0,1,6] ?_;refine av ?_ ?_<;>intro aL bB
 ·refine iU [0,1] ?_;refine aR 2 ?_ (h:=by exact(Fw rfl ot (Lh (r:=-(n+1)) (by rw[wrap_i64]<;>omega))));refine bH ?_;refine cM [4] ?_;refine aR 2 ?_ (h:=by exact(dA rfl ot ot (Kv w4)));refine bH ?_;refine aM [] ?_;exact⟨by unfold ev;split<;>first|rfl|omega,rfl⟩
 refine cM [4] ?_;refine aR 2 ?_ (h:=by exact(dA rfl ot ot (Kv w4)));refine bH ?_;refine aM [] ?_;exact⟨by unfold ev;split<;>first|rfl|omega,rfl⟩

end Go.Proofs.YtkgmonfgofobaaaGreatDoor.Pk
namespace Go.Proofs.YtkgmonfgofobaaaGreatDoor.Nm
open List
open Go.Proofs.Tryz
open Go.RowKit V Pk
variable {l:List UInt8}
theorem mk_data(l:List UInt8):(⟨l.toArray⟩:ByteArray).data.toList=l:=rfl
theorem Kz(l:List UInt8):(⟨l.toArray⟩:ByteArray).size=l.length:=by rw[←kJ]
theorem abE(s:ByteArray):1≤(zV s).length∧(zV s).length≤6:=by
 unfold zV;split
 ·exact⟨by decide,by decide⟩
 rw[length_map,length_take,kJ];omega
theorem PY{p:UInt8→Bool}:∀{l:List UInt8},(∀c∈l,p c=true)→l.takeWhile p=l
 | [],_=>rfl
 | a::l,h=>by rw[takeWhile_cons,if_pos (h a mem_cons_self),PY fun c hc=>h c (mem_cons_of_mem _ hc)]
theorem P1{c:UInt8}(h:97≤c.toNat∧c.toNat≤122):xm c=true:=by unfold xm;exact decide_eq_true (.inl h)
theorem adu(h1:1≤l.length)(h:∀c∈l,97≤c.toNat∧c.toNat≤122):oB ⟨l.toArray⟩=true:=by
 unfold oB GJ;rw[Kz,mk_data,PY fun c hc=>by unfold xI;rw[P1 (h c hc)];rfl];have h0:my ⟨l.toArray⟩ 0∈l:=by
  exact Ww
 rw[P1 (h _ h0)];have:l.length≠0:=(by omega)
 simp[this]
theorem aao:∀x∈vw,(my x 0).toNat≤90:=by decide
theorem aaM(h1:1≤l.length)(h:∀c∈l,97≤c.toNat∧c.toNat≤122):vw.any (jt ⟨l.toArray⟩)=false:=by
 rw[any_eq_false];intro x hx he;have he:=xn.1 he;have h0:my ⟨l.toArray⟩ 0∈l:=by
  exact Ww
 have:=h _ h0;have h2:=aao x hx;rw[←he] at h2;omega
theorem tT(h1:1≤l.length)(E:l.length≤8)(h:∀c∈l,97≤c.toNat∧c.toNat≤122):cy ⟨l.toArray⟩=0:=by
 unfold cy;rw[Kz,if_neg w4,adu h1 h,aaM h1 h];rfl
theorem aaN(s:ByteArray):1≤(xF s).size∧(xF s).size≤6:=by unfold xF;rw[Kz];exact abE s
variable {G:List (Nat×List Value)}
abbrev WordsTab(w:World):Prop:=Tab.l5 w 1 wordsC

end Go.Proofs.YtkgmonfgofobaaaGreatDoor.Nm
namespace Go.Proofs.YtkgmonfgofobaaaGreatDoor.Vl
open List
open Go.Proofs.Tryz
open Go.RowKit V Pk
structure Vl where
 k:Int
 n:Int
 s:ByteArray
def cV(v:Vl):List D:=[ae v.k,ae v.n,aZ v.s]
theorem fq(v:Vl):(cV v).length=3:=rfl
theorem Gi(v:Vl):(cV v).all V.one=true:=rfl
structure Vl.Ok (v:Vl):Prop where
 k1:-9223372036854775808≤v.k
 k2:v.k≤9223372036854775807
 n1:-9223372036854775808≤v.n
 n2:v.n≤9223372036854775807
 s:v.s.size≤maxLen
def bw:Vl:=⟨0,0,⟨#[]⟩⟩
def cg(v:Vl):Int :=
 if v.k=0 then (if v.n≠0∨v.s.size≠0 then 6 else 0)
 else if v.k=1 then (if v.n<0∨v.n>1∨v.s.size≠0 then 6 else 0)
 else if v.k=2 then (if v.s.size≠0 then 6 else 0)
 else if v.k=3 then (if v.n≠0 then 6 else if v.s.size>20 then 1 else 0)
 else 2
theorem GK(x y:Vl):∀w,(Op.equalIn 10000 33 (.agg [.int .i64 x.k,.int .i64 x.n,.string x.s].toArray) (.agg [.int .i64 y.k,.int .i64 y.n,.string y.s].toArray)).run Tryz.prog w = .ok (x.k==y.k&&(x.n==y.n&&x.s.toList==y.s.toList)) w:=fun w=>by
 have hS:Tryz.prog.underlying 33=some (.struct (Tryz.prog.fieldsOf 33)):=(by kernel_rfl)
 have hp:Tryz.prog.stoodInHeld 33=false:=(by kernel_rfl)
 rw[show(10000:Nat)=9999+1 from rfl,run_equalIn_agg w 9999 33 _ _ hS hp];have u:=underlying33;have E:=underlying3;have I:=underlying9;have O:=isAgg3;have U:=isAgg9;have Z:=sizeOf3;have z9:=sizeOf9;simp only[Program.fieldsOf,u];go_simp
 by_cases h1:x.k=y.k<;>by_cases h2:x.n=y.n<;>by_cases h3:x.s.toList=y.s.toList<;>simp[h1,h2,h3]
theorem Vl.ext'{x y:Vl}(h1:x.k=y.k)(h2:x.n=y.n)(h3:x.s=y.s):x=y:=by cases x;cases y;simp only at h1 h2 h3;subst h1 h2 h3;rfl
def yL(x y:Vl):Bool:=x.k==y.k&&(x.n==y.n&&x.s.toList==y.s.toList)
theorem KA{x y:Vl}:yL x y=true↔x=y:=by
 unfold yL;rw[Bool.and_eq_true,Bool.and_eq_true,beq_iff_eq,beq_iff_eq];constructor
 ·rintro⟨h1,h2,h3⟩;exact Vl.ext' h1 h2 (xn.1 h3)
 rintro rfl;exact⟨rfl,rfl,xn.2 rfl⟩
def n8(s:ByteArray)(m:Nat):ByteArray:=s.extract 0 (min s.size m)
def pW(r:Vl):Vl :=
 if ev r.k 4=1 then ⟨1,ev r.n 2,⟨#[]⟩⟩
 else if ev r.k 4=2 then ⟨2,r.n,⟨#[]⟩⟩
 else if ev r.k 4=3 then ⟨3,0,n8 r.s 10⟩
 else bw
theorem QO(s:ByteArray)(m:Nat):(n8 s m).data.toList=s.data.toList.take m:=by
 unfold n8;rw[ByteArray.data_extract,Array.toList_extract];simp only[extract_eq_take_drop,drop_zero,Nat.sub_zero];rw[←kJ];rcases Nat.le_total s.data.toList.length m with h|h
 ·rw[Nat.min_eq_left h,take_length,take_of_length_le h]
 rw[Nat.min_eq_right h]
theorem Ja(s:ByteArray)(m:Nat):(n8 s m).size=min s.size m:=by
 rw[←kJ,QO,length_take,kJ,Nat.min_comm]
variable {G:List (Nat×List Value)}
theorem pS(v:Vl):VP Tryz.prog G 72 [.agg (cV v)] (ae (cg v)):=by
 refine VC.body func72 rfl ntmps72 aQ fun X0 w0 bf=>?_;unfold cV;refine cf ?_;refine OD.box (ds:=[_,_,_]) ap rfl rfl ot rfl rfl (fun b1=>?_);refine an 44 [1] ?_;refine af [1,4] ?_;refine af [1,4,5] ?_;refine av ?_ ?_<;>intro aL bB
 ·refine aB 4 ?_;refine bY 10 (fun U E=>?_) (fun U E=>?_)
  ·refine bp [14] ?_;refine eY ?_;exact z130
  refine bp [14] ?_;refine av ?_ ?_<;>intro aY cD
  ·exact z130
  exact z130
 refine af [1,4,15] ?_;refine av ?_ ?_<;>intro cm cR
 ·refine aB 4 ?_;refine bY 20 (fun Z I=>?_) (fun Z I=>?_)
  ·refine bp [29] ?_;refine eY ?_;exact z130
  refine aH 5 ?_;refine bY 25 (fun aj7 O=>?_) (fun aj7 O=>?_)
  ·refine bp [29] ?_;refine eY ?_;exact z130
  refine bp [29] ?_;refine av ?_ ?_<;>intro da eA
  ·exact z130
  exact z130
 refine af [1,4,30] ?_;refine av ?_ ?_<;>intro dR fH
 ·refine af [34] ?_;refine av ?_ ?_<;>intro fM gW
  ·exact CT
  exact CT
 refine af [1,35] ?_;refine av ?_ ?_<;>intro jb px
 ·refine af [1,39] ?_;refine av ?_ ?_<;>intro iS mY
  ·exact CT
  refine af [43] ?_;refine av ?_ ?_<;>intro qo Ay
  ·exact CT
  exact CT
 refine af [2] ?_;refine aM [] ?_;refine⟨vi ?_,rfl⟩;try simp only[vn] at *
 unfold cg;simp_all;try omega
theorem Ge(s:ByteArray)(m:Nat)(hs:s.size≤maxLen):VP Tryz.prog G 40 [aZ s,ae (m:Int)] (aZ (n8 s m)):=by
 refine VC.body func40 rfl ntmps40 aQ fun X0 w0 bf=>?_;simp only[maxLen] at hs;refine af [0,1] ?_;refine cM [4] ?_;refine aR 4 ?_ (h:=by exact(Z2 (r:=.int .i64 ((min s.size m:Nat):Int)) rfl ot ot (fun cs w=>(agO cs w).trans (by split<;>(congr 3;omega)))));refine aR 0 ?_ (h:=by exact(eJ (l:=0) rfl ot trivial ⟨_,ot⟩ (by first|exact agR (fun _=>rfl) (fun h=>by cases h) runUnderlying9 w4 w4)));refine bH ?_;refine aM [] ?_;exact⟨by first|rfl|(simp[*];done),rfl⟩
theorem RM(r:Vl)(h:r.Ok):VP Tryz.prog G 66 [.agg (cV r)] (.agg (cV (pW r))):=by
 refine VC.body func66 rfl ntmps66 aQ fun X0 w0 bf=>?_;unfold cV;refine cf ?_;refine OD.box (ds:=[_,_,_]) ap rfl rfl ot rfl rfl (fun b1=>?_);refine OD.alloc (ds:=[_,_,_]) ap rfl rfl zeroValue33 rfl (fun b2=>?_);refine an 29 [1,2] ?_;refine cL [1,2,3] (kH G r.k 4 h.k1 h.k2 w7) ?_;refine af [1,2,3,7] ?_;refine af [1,2,3,7,8] ?_;refine av ?_ ?_<;>intro aL bB
 ·refine aB 3 ?_;refine ec call14 (kH G r.n 2 h.n1 h.n2 w7) ?_;refine aH 1 ?_;exact z80
 refine af [1,2,3,7,15] ?_;refine av ?_ ?_<;>intro aY cD
 ·refine aB 4 ?_;exact z80
 refine af [1,2,3,21] ?_;refine av ?_ ?_<;>intro cm cR
 ·refine aB 3 ?_;refine ec call40 (Ge r.s 10 h.s) ?_;refine aH 1 ?_;exact z80
 refine aB 1 ?_;refine aO 0 [_,_,_] sizeOf33 ?_;refine an 29 [2] ?_;refine aM [] ?_;refine⟨?_,rfl⟩;unfold pW bw;simp_all

end Go.Proofs.YtkgmonfgofobaaaGreatDoor.Vl
