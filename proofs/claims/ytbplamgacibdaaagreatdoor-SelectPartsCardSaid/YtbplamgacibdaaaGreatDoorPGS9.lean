/-
  GS: walks and plain facts, part 9.
-/
import Derived.Test.YtbplamgacibdaaaGreatDoorPGS8
set_option linter.unusedVariables false
set_option linter.unusedSimpArgs false
set_option maxRecDepth 100000
set_option maxHeartbeats 4000000
namespace Go.Proofs.YtbplamgacibdaaaGreatDoor
namespace Ex
open List
open Go.Proofs.Tryz
open Go.RowKit V Pk Vl Go.Proofs.YtbplamgacibdaaaGreatDoor.Nm Go.Proofs.YtbplamgacibdaaaGreatDoor.Pc Go.Proofs.YtbplamgacibdaaaGreatDoor.Cd
open Go.Lib (compareBytes)
variable {k x:List UInt8} {b:Vl} {o:aH} {ops:List aH}
def oJ(k:List UInt8)(b:jD):Prop:=compareBytes b.1 k<=0/\(b.2.length=0\/compareBytes k b.2<=0)
theorem akk{b:jD}(h:oJ k b)(hx:compareBytes x k<=0):oJ k (nL x b):=by
 unfold nL;split
 ·exact⟨hx,h.2⟩
 exact h
theorem aiP{b:jD}(h:oJ k b)(hx:compareBytes k x<=0):oJ k (qy x b):=by
 unfold qy;split
 ·exact⟨h.1,.inr hx⟩
 exact h
section
variable {l:List cm} {row:List Vl}
theorem FG{r:List aH}{st:List Vl}{w:Vl}(hp:bu o.k=0)(he:∀a b,cJ l row o a b=(w,0)):fk aU (cJ l row) (o::r) st=fk aU (cJ l row) r (st++[w]):=by
 rw[wz (by rw[he]),he,hp];simp
theorem Ux{r:List aH}{a:Vl}(hp:bu o.k=2)(h:(fk aU (cJ l row) (o::r) [a,b]).2=0):(fI o.k a b).2=0/\fk aU (cJ l row) (o::r) [a,b]=fk aU (cJ l row) r [(fI o.k a b).1]:=by
 have ha:dM aU o.k [a,b]=a:=(by unfold dM;rw[hp];rfl)
 have hb:dZ aU o.k [a,b]=b:=(by unfold dZ;rw[hp];rfl)
 have he:cJ l row o a b=fI o.k a b:=(by unfold cJ;rw[hp];rfl)
 by_cases hz:(fI o.k a b).2=0
 ·refine⟨hz,?_⟩;rw[wz (by rw[ha,hb,he];exact hz),ha,hb,he,hp];rfl
 rw[x5 (by rw[ha,hb,he];exact hz),ha,hb,he] at h;exact absurd h hz
theorem ag3{r:List aH}{a:Vl}(hp:bu o.k=1)(h:(fk aU (cJ l row) (o::r) [a]).2=0):(j3 o.k a).2=0/\fk aU (cJ l row) (o::r) [a]=fk aU (cJ l row) r [(j3 o.k a).1]:=by
 have ha:dM aU o.k [a]=a:=(by unfold dM;rw[hp];rfl)
 have he:∀b,cJ l row o a b=j3 o.k a:=fun b=>by unfold cJ;rw[hp];rfl
 by_cases hz:(j3 o.k a).2=0
 ·refine⟨hz,?_⟩;rw[wz (by rw[ha,he];exact hz),ha,he,hp];rfl
 rw[x5 (by rw[ha,he];exact hz),ha,he] at h;exact absurd h hz
theorem Jf{a b:List aH}:∀{st:List Vl},(ic aU (cJ l row) a st).2≠0->(ic aU (cJ l row) (a++b) st).2≠0:=by
 induction a with
 | nil=>intro st h;exact absurd rfl h
 | cons o r ih =>
  intro st h;by_cases he:(cJ l row o (dM aU o.k st) (dZ aU o.k st)).2=0
  ·rw[sJ he] at h;rw[cons_append,sJ he];exact ih h
  rw[cons_append,Ao he];exact he
theorem QB:∀(ops:List aH) (E st:List Vl) (h':Int),runs st.length ops=some h'->(ic aU (cJ l row) ops st).2≠0->(ic aU (cJ l row) ops (E++st)).2≠0
 | [],E,st,h',hr,h=>absurd rfl h
 | o::r,E,st,h',hr,h0=>by
  rw[runs] at hr;split at hr
  ·rename_i he;have hp:=(u9 he).1;obtain⟨a1,a2⟩:=RQ (z:=aU) o.k E st hp;by_cases hz:(cJ l row o (dM aU o.k st) (dZ aU o.k st)).2=0
   ·rw[sJ hz] at h0;rw[sJ (by rw[a1,a2];exact hz),a1,a2,Q7 o.k E st hp,append_assoc];exact QB r E _ h' (by rw[TV o.k st _ hp];exact hr) h0
   rw[Ao (by rw[a1,a2];exact hz),a1,a2];exact hz
  cases hr
theorem fold_zero{x:List aH}(h:(ic aU (cJ l row) x []).2=0):(gD l row x).2=0:=by unfold gD;rw[sB,if_neg (by simp[h])]
theorem ag4{x y:List aH}(hx:runs 0 x=some 1)(hy:runs 0 y=some 1)(hp:bu o.k=2)(h:(gD l row ((x++y)++[o])).2=0):(gD l row x).2=0/\(gD l row y).2=0/\(fI o.k (gD l row x).1 (gD l row y).1).2=0/\gD l row ((x++y)++[o])=fI o.k (gD l row x).1 (gD l row y).1:=by
 have hs:(ic aU (cJ l row) ((x++y)++[o]) []).2=0:=by
  by_cases hz:(ic aU (cJ l row) ((x++y)++[o]) []).2=0
  ·exact hz
  unfold gD at h;rw[sB,if_pos hz] at h;exact absurd h hz
 have h1:(ic aU (cJ l row) x []).2=0:=Classical.byContradiction fun c=>by rw[append_assoc] at hs;exact Jf c hs
 have f1:=fold_zero h1;have e1:=Lj hx f1 [];have h2:(ic aU (cJ l row) y []).2=0:=Classical.byContradiction fun c=>by
  rw[append_assoc,zP _ _ _ h1,e1] at hs;have:=QB y [(gD l row x).1] [] 1 hy c;rw[append_nil] at this;exact Jf (b:=[o]) this hs
 have f2:=fold_zero h2;have e2:=Lj hy f2 [(gD l row x).1];have E:ic aU (cJ l row) (x++y) []=([(gD l row x).1,(gD l row y).1],0):=(by rw[zP _ _ _ (by rw[e1]),e1];exact e2)
 have I:gD l row ((x++y)++[o])=fk aU (cJ l row) [o] [(gD l row x).1,(gD l row y).1]:=by
  unfold gD;rw[sB,zP _ _ _ (by rw[E]),E,<-sB];rfl
 rw[I] at h |-;obtain⟨q1,q2⟩:=Ux hp h;refine⟨f1,f2,q1,?_⟩;rw[q2];show((fI o.k _ _).1,(0:Int))=_;rw[<-q1]
end
theorem and_true{a:Vl}(h0:(fI 3 a b).2=0)(h1:(fI 3 a b).1.k=1)(h2:(fI 3 a b).1.n=1):(a.k=1/\a.n=1)/\b.k=1/\b.n=1:=by
 unfold fI at h0 h1 h2;split at h0
 ·rename_i c;exact absurd h0 c
 rename_i c;rw[if_neg c,if_pos rfl] at h1 h2;rw[if_pos rfl] at h0;have hb:bY a=0/\bY b=0:=by
  unfold mG at c;split at c
  ·rename_i E;exact absurd E c
  rename_i E;exact⟨Classical.not_not.1 E,Classical.not_not.1 c⟩
 unfold lN at h0 h1 h2;split at h0
 ·cases h0
 rename_i E;rw[if_neg E] at h1 h2;split at h1
 ·rename_i O;rw[if_pos O] at h2;simp only at h2;omega
 rename_i O;rw[if_neg O] at h2;split at h1
 ·rename_i U;rw[if_pos U] at h2;simp only at h2;omega
 rename_i U;rw[if_neg U] at h2;split at h1
 ·exact absurd h1 w8
 rename_i Z;rw[if_neg Z] at h2;simp only at h1 h2;have I:b.k=1:=(by omega)
 have:=JA hb.2 I;exact⟨⟨h1,h2⟩,I,by omega⟩
theorem ag5{k:Int}{a:Vl}(hk:k=6\/k=7)(h0:(fI k a b).2=0)(ha:a.k≠0)(hb:b.k≠0):bY a=0/\bY b=0/\a.k=b.k/\(fI k a b).1=nF ((eN a b==0&&k==6)||(decide (eN a b<0)&&k==7)):=by
 unfold fI at h0 |-;split at h0
 ·rename_i c;exact absurd h0 c
 rename_i c;have E:bY a=0/\bY b=0:=by
  unfold mG at c;split at c
  ·rename_i I;exact absurd I c
  rename_i I;exact⟨Classical.not_not.1 I,Classical.not_not.1 c⟩
 have hn:¬qA a b=true:=(by unfold qA;simp[ha,hb])
 rw[if_neg c];simp only[show ¬k=3 by omega,show ¬k=4 by omega,hk,hn,if_false,if_true] at h0;rw[if_neg (show ¬k=3 by omega),if_neg (show ¬k=4 by omega),if_pos hk,if_neg hn];by_cases nw:a.k=b.k
 ·exact⟨E.1,E.2,nw,by rw[if_neg (by simpa using nw)]⟩
 rw[if_pos nw] at h0;exact absurd h0 w8
theorem SK{b:Bool}(h:(nF b).n=1):b=true:=by
 cases b
 ·cases h
 rfl
theorem aiQ(b:Bool):(nF b).k=1:=by cases b<;>rfl
theorem not_true{a:Vl}(h0:(j3 5 a).2=0)(hk:a.k=1)(h:(j3 5 a).1.n=1):a.n=0:=by
 unfold j3 at h0 h;split at h0
 ·rename_i c;exact absurd h0 c
 rename_i c;rw[if_neg c,if_neg w8,if_pos rfl,if_neg w4,if_pos hk] at h;have:=SK h;simpa using this
theorem Gu{v:Vl}(h:bY v=0)(hk:v.k=2):gj [v]=(dL [v],0):=by
 unfold gj;rw[if_neg bp,Cv (fun x hx=>by rw[mem_singleton] at hx;rw[hx];exact h),if_neg bp,if_neg];show ¬(dL [v]).length>100;unfold dL p8 sX;simp[hk,mh]
theorem aiR{a:Vl}(ha:bY a=0)(oa:a.Ok)(hb:bY b=0)(ob:b.Ok)(h:eN a b<0):compareBytes (dL [a]) (dL [b]) = -1:=by
 have:=K9 ha oa hb ob [] [] w4;have h3:=Q2 a b;rw[append_nil,append_nil] at this;unfold dL;rw[flatMap_singleton,flatMap_singleton,this];omega
theorem WQ{a:Vl}(ha:bY a=0)(oa:a.Ok)(hb:bY b=0)(ob:b.Ok)(h:eN a b<=0):compareBytes (dL [a]) (dL [b])<=0:=by
 by_cases hz:eN a b=0
 ·rw[zS hz,La];decide
 rw[aiR ha oa hb ob w4];decide
theorem WR{rv lv:Vl}(hr:bY rv=0)(U:rv.Ok)(hl:bY lv=0)(ol:lv.Ok){E:Int}{eq not:Bool}{b:jD}(hb:oJ (dL [rv]) b)(he:eq=true->rv=lv)(O:eq=false->((E==0)==not)=true->eN lv rv<=0)(I:eq=false->((E==0)!=not)=true->eN rv lv<=0):oJ (dL [rv]) (uk E eq not (dL [lv]) b):=by
 unfold uk;have ff:(eq||(E==0)==not)=true->oJ (dL [rv]) (nL (dL [lv]) b):=fun h=>akk hb (by
  cases eq with
  | true=>rw[he rfl,La];decide
  | false=>exact WQ hl ol hr U (O rfl nS))
 have eJ:(eq||(E==0)!=not)=true->∀{c},oJ (dL [rv]) c->oJ (dL [rv]) (qy (dL [lv]) c):=fun h c hc=>aiP hc (by
  cases eq with
  | true=>rw[he rfl,La];decide
  | false=>exact WQ hr U hl ol (I rfl nS))
 cases e1:(eq||(E==0)!=not)<;>cases e2:(eq||(E==0)==not)
 ·exact hb
 ·exact ff e2
 ·exact eJ e1 hb
 exact eJ e1 (ff e2)
theorem KO{p:aH->Bool}{a b:aH}(h:¬c9 p [a,b]<0):(c9 p [a,b]=0/\p a=true)\/(c9 p [a,b]=1/\p a=false/\p b=true):=by
 cases ha:p a with
 | true=>exact .inl ⟨alU ha,rfl⟩
 | false =>
  cases hb:p b with
  | true=>exact .inr ⟨alV ha hb,rfl,rfl⟩
  | false=>exact absurd (by rw[aiO ha hb];decide) h
theorem alW{a b:ByteArray}(h:(a.toList==b.toList)=true):a=b:=by
 rw[beq_iff_eq,ByteArray.toList_eq,ByteArray.toList_eq] at h;exact ByteArray.ext (Array.ext' h)
section
variable {a:Int} {rest:List Vl}
theorem Xv(h:lu uY o=true)(x y:Vl):bu o.k=0/\cJ aL (kH a::rest) o x y=(kH a,0):=by
 unfold lu at h;rw[Bool.and_eq_true] at h;have hk:o.k=2:=(by simpa using h.1)
 have hn:o.nm=uY:=alW h.2;have hp:bu o.k=0:=(by rw[hk];rfl)
 refine⟨hp,?_⟩;unfold cJ;rw[if_neg (by rw[hp];decide),if_neg (by rw[hp];decide),if_pos hk,hn,show bE aL uY=0 from Xa];rfl
theorem WS{row:List Vl}(h:gv o=true)(x y:Vl):bu o.k=0/\o.v.k≠0/\cJ aL row o x y=(o.v,0):=by
 unfold gv at h;rw[Bool.and_eq_true] at h;have hk:o.k=1:=(by simpa using h.1)
 have hp:bu o.k=0:=(by rw[hk];rfl)
 refine⟨hp,by simpa using h.2,?_⟩;unfold cJ;rw[if_neg (by rw[hp];decide),if_neg (by rw[hp];decide),if_neg w4]
theorem apart(h:lu uY o=true):gv o=false:=by
 unfold lu at h;unfold gv;rw[Bool.and_eq_true] at h;have hk:o.k=2:=(by simpa using h.1)
 rw[hk];rfl
theorem V9{not:Bool}{v:Vl}{tl:List aH}{b:jD}(oa:(kH a).Ok)(aQ:∀o∈ops,o.v.Ok)(uG:tl=if not=true then [cY 5] else [])(hf:fk aU (cJ aL (kH a::rest)) (ops++tl) []=(v,0))(hv:v.k=1/\v.n=1)(hb:oJ (dL [kH a]) b):oJ (dL [kH a]) (mb uY ops not b):=by
 unfold mb;split
 ·exact hb
 rename_i U;split
 ·exact hb
 rename_i c2;have h3:ops.length=3:=(by omega)
 match ops,h3 with
 | [o0,o1,o2],_ =>
  simp only[take_succ_cons,List.take_zero,length_cons,length_nil,Nat.reduceAdd,Nat.reduceSub,cons_append,nil_append] at U c2 hf |-;have eR:l6 [o0,o1,o2] 2=o2.k:=rfl;rw[eR] at U |-;have It:o2.k=6\/o2.k=7:=(by omega)
  have Z:not=true->o2.k=7:=fun h=>by rcases It with h6|h7;exact absurd (.inr (.inl ⟨h,by omega⟩)) U;exact h7
  have mS:bu o2.k=2:=(by rcases It with h|h<;>rw[h]<;>rfl)
  obtain⟨c3,c4⟩:=not_or.1 c2;have E:∀x y:Vl,x.k≠0->y.k≠0->fk aU (cJ aL (kH a::rest)) (o0::o1::o2::tl) []=fk aU (cJ aL (kH a::rest)) (o2::tl) [x,y]->bY x=0/\bY y=0/\x.k=y.k/\(o2.k=6->eN x y=0)/\(o2.k=7->not=false->eN x y<0)/\(not=true->0<=eN x y):=fun x y hx hy he=>by
   rw[he] at hf;obtain⟨q1,q2⟩:=Ux mS (by rw[hf]);obtain⟨r1,r2,r3,r4⟩:=ag5 It q1 hx hy;rw[q2,r4,uG] at hf;refine⟨r1,r2,r3,?_⟩;cases vI:not with
   | false =>
    rw[vI,if_neg bp] at hf;have hv2:nF ((eN x y==0&&o2.k==6)||(decide (eN x y<0)&&o2.k==7))=v:=(by injection hf)
    rw[<-hv2] at hv;have:=SK hv.2;refine⟨fun h=>?_,fun h _=>?_,fun h=>(by cases h)⟩
    ·rw[h] at this;simpa using this
    rw[h] at this;simpa using this
   | true =>
    rw[vI,if_pos rfl] at hf;obtain⟨s1,s2⟩:=ag3 (o:=cY 5) (by rfl) (by rw[hf]);rw[s2] at hf;have hv2:(j3 5 (nF ((eN x y==0&&o2.k==6)||(decide (eN x y<0)&&o2.k==7)))).1=v:=(by injection hf)
    rw[<-hv2] at hv;have:=not_true s1 (aiQ _) hv.2;have h7:=Z vI;rw[h7] at this;refine⟨fun h=>w4,fun _ h=>(by cases h),fun _=>?_⟩;by_cases aa:eN x y<0
    ·simp[aa,nF] at this
    omega
  rcases KO c3 with ⟨k1,k2⟩|⟨k1,k2,k3⟩
  ·rcases KO c4 with ⟨l1,l2⟩|⟨l1,l2,l3⟩
   ·rw[apart k2] at l2;cases l2
   have O:=fun x y=>Xv (a:=a) (rest:=rest) k2 x y;have e1:=fun x y=>WS (row:=kH a::rest) l3 x y;obtain⟨m1,m2,m3,m4,m5,m6⟩:=E (kH a) o1.v (show(2:Int)≠0 by decide) (e1 aU aU).2.1 (by rw[FG (O aU aU).1 fun x y=>(O x y).2,FG (e1 aU aU).1 fun x y=>(e1 x y).2.2];rfl);have I:ux [o0,o1,o2]=dL [o1.v]:=(by unfold ux;rw[show c9 gv ([o0,o1,o2].take 2)=1 from l1];exact congrArg Prod.fst (Gu m2 m3.symm))
   rw[k1,I];refine WR m1 oa m2 (aQ o1 bp) hb (fun h=>zS (m4 nS)) (fun h h'=>?_) (fun h h'=>?_)
   ·have vI:not=true:=(by simpa using h')
    have:=m6 vI;rw[xS];omega
   exact z95
  rcases KO c4 with ⟨l1,l2⟩|⟨l1,l2,l3⟩
  ·have e1:=fun x y=>Xv (a:=a) (rest:=rest) k3 x y;have O:=fun x y=>WS (row:=kH a::rest) l2 x y;obtain⟨m1,m2,m3,m4,m5,m6⟩:=E o0.v (kH a) (O aU aU).2.1 (show(2:Int)≠0 by decide) (by rw[FG (O aU aU).1 fun x y=>(O x y).2.2,FG (e1 aU aU).1 fun x y=>(e1 x y).2];rfl);have I:ux [o0,o1,o2]=dL [o0.v]:=(by unfold ux;rw[show c9 gv ([o0,o1,o2].take 2)=0 from l1];exact congrArg Prod.fst (Gu m1 m3))
   rw[k1,I];refine WR m2 oa m1 (aQ o0 bp) hb (fun h=>(zS (m4 nS)).symm) (fun h h'=>?_) (fun h h'=>?_)
   ·exact z95
   have vI:not=true:=(by simpa using h')
   have:=m6 vI;rw[xS];omega
  rw[apart k3] at l3;cases l3
theorem Ri(h:0<ops.length):ops=ops.take (ops.length-1)++[ops[ops.length-1]]:=by
 rw[<-take_succ_eq_append_getElem w4,show ops.length-1+1=ops.length by omega,take_length]
theorem akl{l:List cm}{row:List Vl}{o':aH}(h:o.k=o'.k)(hp:bu o.k=1)(x y:Vl):cJ l row o x y=cJ l row o' x y:=by unfold cJ;rw[<-h,if_pos hp,if_pos hp]
theorem afi{l:List cm}{row:List Vl}{o':aH}(h:o.k=o'.k)(hp:bu o.k=1)(x:List aH):fk aU (cJ l row) (x++[o]) []=fk aU (cJ l row) (x++[o']) []:=by
 have:∀(x:List aH) (st:List Vl),fk aU (cJ l row) (x++[o]) st=fk aU (cJ l row) (x++[o']) st:=by
  intro x;induction x with
  | nil =>
   intro st;have he:cJ l row o=cJ l row o':=(by funext x y;exact akl h hp x y)
   show fk _ _ (o::[]) st=fk _ _ (o'::[]) st;unfold fk;rw[he,h]
  | cons c r ih=>intro st;rw[cons_append,cons_append,fk,fk,ih]
 exact this x []
theorem GO(oa:(kH a).Ok):∀(f:Nat) (ops:List aH) (v:Vl) (b:jD),ops.length<=f->runs 0 ops=some 1->(∀o∈ops,o.v.Ok)->gD aL (kH a::rest) ops=(v,0)->v.k=1/\v.n=1->oJ (dL [kH a]) b->oJ (dL [kH a]) (fM uY f ops b)
 | 0,ops,v,b,hl,hr,_,_,_,_=>by have:=vc hr;omega
 | f+1,ops,v,b,hl,hr,aQ,hv,h1,hb=>by
  have hp:=vc hr;rw[fM];split
  ·rename_i hk;obtain⟨q1,q2,Z,q4⟩:=Vq hr hk;obtain⟨hn,_⟩:=FW hr;have kf:ops[ops.length-1].k=3:=(by rw[<-sE hn];exact hk)
   have O:ops=(ops.take (iO ops (ops.length-1) 1)++(ops.take (ops.length-1)).drop (iO ops (ops.length-1) 1))++[ops[ops.length-1]]:=by
    conv=>lhs;rw[Ri hp]
    congr 1;conv=>lhs;rw[<-take_append_drop (iO ops (ops.length-1) 1) (ops.take (ops.length-1))]
    congr 1;rw[take_take];congr 1;omega
   have I:=hv;rw[O] at I;obtain⟨f1,f2,f3,f4⟩:=ag4 q2 Z (by rw[kf];rfl) (by rw[I]);rw[I,kf] at f4;rw[kf] at f3;obtain⟨t1,t2⟩:=and_true f3 (by rw[<-f4];exact h1.1) (by rw[<-f4];exact h1.2);refine GO oa f _ _ _ (by rw[length_drop,length_take];omega) Z (fun o ho=>aQ o (mem_of_mem_take (mem_of_mem_drop ho))) (Prod.ext rfl f2) t2 ?_;exact GO oa f _ _ _ pF q2 (fun o ho=>aQ o (mem_of_mem_take ho)) (Prod.ext rfl f1) t1 hb
  split
  ·rename_i hk U;obtain⟨hn,_⟩:=FW hr;have E:ops[ops.length-1].k=5:=(by rw[<-sE hn];exact U)
   refine V9 (rest:=rest) (tl:=[cY 5]) oa (fun o ho=>aQ o (mem_of_mem_take ho)) rfl ?_ h1 hb;rw[<-afi (o:=ops[ops.length-1]) (by rw[E];rfl) (by rw[E];rfl),<-Ri hp];exact hv
  exact V9 (rest:=rest) (tl:=[]) oa aQ rfl (by rw[append_nil];exact hv) h1 hb
end
end Ex
namespace Ba
open List
open Go.Proofs.Tryz
open Go.RowKit V Pk Tr Vl Go.Proofs.YtbplamgacibdaaaGreatDoor.Nm Pc Cd Ex Tw
open Pa (cn bK iZ fZ gU fL gW iM gi fm dQ Ph)
open Ex (oJ GO)
variable {row:List Vl}
def rM:Vl:=⟨1,1,⟨#[]⟩⟩
theorem MQ{s:ByteArray}(h:s.size=0):s=⟨#[]⟩:=ByteArray.ext (Array.eq_empty_of_size_eq_zero h)
theorem yc(hf:Pc.dR aL row=0){w:List aH}(hg:∀o∈w,kz aL o)(hx:fR w=0):((cu aL w).2=0\/(cu aL w).2=4)/\((cu aL w).2=4->c8 aL row w=(aU,4))/\((cu aL w).2=0->c8 aL row w=gD aL row w/\((c8 aL row w).2=5\/((c8 aL row w).2=0/\jL (cu aL w).1 (c8 aL row w).1))) :=
 (RO vg hf (VV hf) hg hx).2
theorem SL{w:List aH}(hp:1<=w.length)(h1:(fB aL w).2=0):(cu aL w).2=0/\((cu aL w).1=1\/(cu aL w).1=0)/\fB aL w=(fM uY w.length w ([],[]),0):=by
 unfold fB at h1 |-;rw[if_neg (by simp[vg]),if_neg w4] at h1 |-;by_cases hk:(cu aL w).2=0
 ·rw[if_neg (by simp[hk])] at h1 |-;by_cases hc:(cu aL w).1≠1/\(cu aL w).1≠0
  ·rw[if_pos hc] at h1;exact absurd h1 w8
  rw[if_neg hc];exact⟨hk,by omega,rfl⟩
 rw[if_pos hk] at h1;exact absurd h1 hk
theorem aiS(hf:Pc.dR aL row=0)(aQ:∀v∈row,v.Ok){w:List aH}(hg:∀o∈w,kz aL o)(hx:fR w=0)(h1:(fB aL w).2=0)(h:(c8 aL row w).1=rM)(h2:(c8 aL row w).2=0):oJ (cZ row) (fB aL w).1:=by
 have hr:=u0 hx;have hp:=vc hr;obtain⟨hk,_,hn⟩:=SL hp h1;obtain⟨_,_,q⟩:=yc hf hg hx;obtain⟨e1,_⟩:=q hk;rw[hn];rw[e1] at h h2;obtain⟨a1,a2,a3,a4,a5,a6⟩:=KN hf aQ;obtain⟨x,rest,rfl⟩:∃x rest,row=kH x::rest:=by
  match row,a6 with
  | v::rest,_ =>
   obtain⟨k,x,s⟩:=v;have e2:k=2:=a1;have E:s=⟨#[]⟩:=MQ a2;exact⟨x,rest,by rw[e2,E];rfl⟩
 rw[a5];have h0:oJ (dL [kH x]) ([],[]):=⟨by show Go.Lib.compareBytes [] (dL [kH x])<=0;cases dL [kH x]<;>simp[Go.Lib.compareBytes],.inl rfl⟩
 exact GO (a:=x) (rest:=rest) a3 _ w (gD aL (kH x::rest) w).1 ([],[]) (Nat.le_refl _) hr (fun o ho=>(hg o ho).ok) (Prod.ext rfl h2) ⟨by rw[h];rfl,by rw[h];rfl⟩ h0
noncomputable def zN(f u:K)(x:K×Int):Bool:=decide (¬bC x.1 f)&&(decide (u.length=0)||decide (¬bC u x.1))
theorem SM{t:aE}{n:Nat}(g:iN t n)(f u:K):mJ t f u=(eE t).filter (zN f u):=by
 by_cases h:u.length=0
 ·have e:=length_eq_zero_iff.1 h;subst e;rw[aeU];unfold mI eE;exact filter_congr fun x _=>by simp[zN]
 rw[aeV g f u w4];exact filter_congr fun x _=>by simp[zN,h]
theorem alX{x:K×Int}{b:jD}(h:oJ x.1 b):zN b.1 b.2 x=true:=by
 have h1:¬bC x.1 b.1:=fun q=>by
  have q1:Go.Lib.compareBytes x.1 b.1<0:=q;have:=Cw b.1 x.1;have:=h.1;omega
 unfold zN;rw[decide_eq_true h1,Bool.true_and,Bool.or_eq_true,decide_eq_true_eq,decide_eq_true_eq];refine h.2.imp id fun h3 q=>?_;have q1:Go.Lib.compareBytes b.2 x.1<0:=q;have:=Cw b.2 x.1;omega
theorem Gw{t:aK}{w:List aH}(hw:0<w.length):∀(l:List (K×Int)) (acc:List Int),(kJ t w acc l).2=0->(kJ t w acc l).1=acc++(l.filter fun x=>decide ((c8 t.au (rowAt t x.2) w).1.n=1)).map Prod.snd/\∀x∈l,(c8 t.au (rowAt t x.2) w).2=0
 | [],acc,_=>⟨by rw[kJ];simp,fun x hx=>by cases hx⟩
 | x::l,acc,h=>by
  rw[kJ,if_pos hw] at h |-;by_cases h1:(c8 t.au (rowAt t x.2) w).2≠0
  ·rw[if_pos h1] at h;exact absurd h h1
  rw[if_neg h1] at h |-;have hz:(c8 t.au (rowAt t x.2) w).2=0:=Decidable.not_not.1 h1;by_cases h2:(c8 t.au (rowAt t x.2) w).1.n≠1
  ·rw[if_pos h2] at h |-;obtain⟨e,a⟩:=Gw hw l acc h;refine⟨by rw[e,filter_cons,if_neg (by simpa using h2)],fun y hy=>?_⟩;rcases mem_cons.1 hy with rfl|hy
   ·exact hz
   exact a y hy
  rw[if_neg h2] at h |-;obtain⟨e,a⟩:=Gw hw l (acc++[x.2]) h;refine⟨by rw[e,filter_cons,if_pos (by simpa using h2),map_cons,append_assoc];rfl,fun y hy=>?_⟩;rcases mem_cons.1 hy with rfl|hy
  ·exact hz
  exact a y hy
theorem afj(hf:Pc.dR aL row=0){w:List aH}(hg:∀o∈w,kz aL o)(hx:fR w=0)(h:(c8 aL row w).2≠0):(c8 aL row w).1=aU:=by
 obtain⟨q1,q2,E⟩:=yc hf hg hx;rcases q1 with q1|q1
 ·obtain⟨e,_⟩:=E q1;rw[e] at h |-;unfold gD at h |-;rw[sB] at h |-;split
  ·rfl
  rename_i h2;rw[if_neg h2] at h;exact absurd rfl h
 rw[q2 q1]
theorem akm{k:Int}{v:Vl}(h:jL k v)(hk:k=1\/k=0)(hn:v.n=1):v=rM:=by
 obtain⟨c,hv⟩:=h;obtain⟨k1,x,s⟩:=v;have E:x=1:=hn;subst E;have cl:k1=1\/k1=0:=(by have I:k1=k\/k1=0:=hv;omega)
 unfold bY at c;rcases cl with rfl|rfl
 ·have hs:s.size=0:=by
   repeat' split at c
   all_goals first|(cases c;done)|(simp_all;done)|skip
  rw[MQ hs];rfl
 exfalso;repeat' split at c
 all_goals first|(cases c;done)|(simp_all;done)|skip
theorem ag6{t:aK}{n:Nat}(g:eV t n){w:List aH}(hg:∀o∈w,kz aL o)(hx:fR w=0)(h:(ap t w).2=0):(cu aL w).2=0/\(ap t w).1.map (rowAt t)=(ng t).filter fun r=>tG (c8 aL r w).1 rM:=by
 have hp:=vc (u0 hx);have hc:=g.au;unfold ap at h |-;rw[hc] at h |-;by_cases hb:(fB aL w).2≠0
 ·rw[if_pos hb] at h;exact absurd h hb
 rw[if_neg hb] at h |-;have O:(fB aL w).2=0:=Decidable.not_not.1 hb;obtain⟨hk,cl,_⟩:=SL hp O;refine⟨hk,?_⟩;obtain⟨e,a⟩:=Gw w4 _ _ h;rw[e,nil_append,SM g.ix,filter_filter,hc,map_map];unfold ng;rw[filter_map];have zm:((eE t.ix).filter fun x=>decide ((c8 aL (rowAt t x.2) w).1.n=1)&&zN (fB aL w).1.1 (fB aL w).1.2 x)=(eE t.ix).filter ((fun r=>tG (c8 aL r w).1 rM) ∘ fun x=>rowAt t x.2):=by
  refine filter_congr fun x I=>?_;have E:=g.js x I;obtain⟨x0,x1,x2,x3⟩:=E;have hf:=LM g x I;have aQ:∀v∈rowAt t x.2,v.Ok:=(by rw[jt x1];exact(g.row _ x1 x2).2.1)
  have U:x.1=cZ (rowAt t x.2):=(by rw[jt x1];exact x3)
  show _=tG (c8 aL (rowAt t x.2) w).1 rM;obtain⟨_,_,q3⟩:=yc hf hg hx;obtain⟨_,q⟩:=q3 hk;cases hy:tG (c8 aL (rowAt t x.2) w).1 rM with
  | true =>
   have hv:=U2.1 hy;have h2:(c8 aL (rowAt t x.2) w).2=0:=Classical.byContradiction fun hne=>by
    have:=afj hf hg hx hne;rw[hv] at this;cases this
   have E:=aiS hf aQ hg hx O hv h2;rw[<-U] at E;rw[alX E,hv];rfl
  | false =>
   rw[Bool.and_eq_false_iff];cases hs:zN (fB aL w).1.1 (fB aL w).1.2 x with
   | false=>exact .inr rfl
   | true =>
    refine .inl (decide_eq_false fun hn=>?_);have Z:x∈mJ t.ix (fB aL w).1.1 (fB aL w).1.2:=(by rw[SM g.ix];exact mem_filter.2 ⟨I,hs⟩)
    have hz:=a x Z;rw[hc] at hz;have hr:=(q.resolve_left w4).2;have:=akm hr cl hn;rw[U2.2 this] at hy;cases hy
 rw[zm];rfl
end Ba
namespace Ba
section
open List
open Go.Proofs.Tryz
open Go.RowKit V Pk Tr Vl Go.Proofs.YtbplamgacibdaaaGreatDoor.Nm Pc Cd Ex Tw
open Pa (cn bK iZ fZ gU fL gW iM gi fm dQ Ph)
theorem FH(w:List aH)(hw:Pa.uX w):gU (fV w):=(Pa.Rh (t:=⟨#[116]⟩) yC (N:=[]) ⟨Nat.zero_le _,fun _ h=>by cases h⟩ (c:=false) (fun h=>by cases h) (o:=⟨#[]⟩) (.inl rfl) (d:=false) (fun _=>rfl) (m:=-1) ⟨by decide,by decide⟩).2 w hw (.inl (by show(4:Int)<=4;decide))
end
section
open List
open Go.Proofs.Tryz
open Go.RowKit V Pk Tr Vl Go.Proofs.YtbplamgacibdaaaGreatDoor.Nm Pc Cd Ex Tw
open Pa (cn bK iZ fZ gU fL gW iM gi fm dQ Ph)
variable {j:Int}
def ao9:Vl:=⟨1,0,⟨#[]⟩⟩
theorem alY{k:Int}{v:Vl}(h:jL k v)(hk:k=1\/k=0):v=aU\/v=ao9\/v=rM:=by
 obtain⟨c,hv⟩:=h;obtain⟨k1,x,s⟩:=v;have cl:k1=1\/k1=0:=(by have E:k1=k\/k1=0:=hv;omega)
 have hs:s.size=0/\(k1=0->x=0)/\(k1=1->x=0\/x=1):=by
  unfold bY at c;rcases cl with rfl|rfl<;>repeat' split at c
  all_goals first|(cases c;done)|(refine⟨?_,?_,?_⟩<;>simp_all<;>omega)|skip
 obtain⟨h1,h2,h3⟩:=hs;rw[MQ h1];rcases cl with rfl|rfl
 ·rcases h3 rfl with rfl|rfl
  ·exact .inr (.inl rfl)
  exact .inr (.inr rfl)
 rw[h2 rfl];exact .inl rfl
theorem ag7{l:List cm}(hl:∀c∈l,0<=c.k){o:aH}(ho:kz l o)(a b:Int):0<=(gA l o a b).1:=by
 unfold gA vr um;have hc:=ho.ck;repeat' split
 all_goals first|(show(0:Int)<=_;decide)|skip
 ·unfold bY at hc;repeat' split at hc
  all_goals first|(cases hc;done)|omega
 rw[getD_eq_getElem?_getD];cases hx:l[(bE l o.nm).toNat]? with
 | none=>exact Int.le_refl _
 | some c=>exact hl c (mem_of_getElem? hx)
theorem SN{l:List cm}(hl:∀c∈l,0<=c.k):∀(ops:List aH) (st:List Int),(∀o∈ops,kz l o)->(∀k∈st,0<=k)->0<=(fk 0 (gA l) ops st).1
 | [],st,_,hs=>by
  show 0<=st.getD 0 0;rw[getD_eq_getElem?_getD];cases hx:st[0]? with
  | none=>exact Int.le_refl _
  | some c=>exact hs c (mem_of_getElem? hx)
 | o::r,st,hg,hs=>by
  by_cases hz:(gA l o (dM 0 o.k st) (dZ 0 o.k st)).2=0
  ·rw[wz hz];refine SN hl r _ (fun x hx=>hg x (mem_cons_of_mem _ hx)) fun k hk=>?_;rcases mem_append.1 hk with hk|hk
   ·exact hs k (mem_of_mem_take hk)
   rw[mem_singleton] at hk;rw[hk];exact ag7 hl (hg o mem_cons_self) _ _
  rw[x5 hz];exact Int.le_refl _
theorem ag8{w:List aH}(hg:∀o∈w,kz aL o):0<=(cu aL w).1:=by
 unfold cu sP;repeat' split
 all_goals first|exact Int.le_refl _|exact SN yC w [] hg (fun k h=>by cases h)
theorem F6{w:List aH}(hx:fR w=0)(hl:w.length<=15)(hk:(cu aL w).2=0)(cl:(cu aL w).1=1\/(cu aL w).1=0)(hj:j=5\/j=11):cu aL (w++[cY j])=(1,0):=by
 have hr:=u0 hx;have hp:bu j=1:=(by unfold bu;rw[if_neg w4,if_pos hj])
 have E:=Ck (k:=j) hr w4 w4 w4 hp;unfold cu at hk cl |-;rw[if_neg (by simp[vg]),if_neg (by simp[hx])] at hk cl;rw[if_neg (by simp[vg]),if_neg (by simp[E])];unfold sP at hk cl |-;rw[sB] at hk cl;have h0:(ic 0 (gA aL) w []).2=0:=Classical.byContradiction fun h=>by rw[if_pos h] at hk;exact h hk
 rw[if_neg (fun e=>e h0)] at cl;obtain⟨e1,e2⟩:=JW (z:=0) (f:=gA aL) w [] [] 1 hr h0;obtain⟨k,eR⟩:∃k,(ic 0 (gA aL) w []).1=[k]:=by
  match h:(ic 0 (gA aL) w []).1 with
  | [k]=>exact⟨k,rfl⟩
  | []=>rw[h] at e2;cases e2
  | _::_::_=>rw[h] at e2;simp at e2;omega
 rw[eR] at cl;have kf:k=1\/k=0:=cl;have hm:gA aL (cY j) (dM 0 (cY j).k [k]) (dZ 0 (cY j).k [k])=(1,0):=by
  have ha:dM 0 (cY j).k [k]=k:=(by show dM 0 j [k]=k;unfold dM;rw[hp,if_pos w8];rfl)
  rw[ha];have aQ:okF j k (dZ 0 (cY j).k [k])=true:=by
   unfold okF r9;rw[if_neg w4];by_cases h5:j=5
   ·rw[if_pos h5];rcases kf with rfl|rfl<;>rfl
   rw[if_neg h5,if_neg w4,if_neg w4]
  have:=afg (k:=j) (a:=k) (b:=dZ 0 (cY j).k [k]) w4 w4 aQ;rw[this];unfold um;rw[if_neg w4]
 rw[sB,zP _ _ _ h0,eR];have hs:ic 0 (gA aL) [cY j] [k]=([1],0):=by
  rw[sJ (by rw[hm]),hm];show(([k].take ([k].length-(bu j).toNat)++[1],0):List Int×Int)=_;rw[hp];rfl
 rw[hs,if_neg (fun e=>e rfl)];rfl
theorem Gx{w:List aH}(hw:Pa.uX w)(hx:fR w=0)(hl:w.length<=15)(hj:j=5\/j=11):Pa.uX (w++[cY j]):=by
 have hp:bu j=1:=(by unfold bu;rw[if_neg w4,if_pos hj])
 have E:=Ck (k:=j) (u0 hx) w4 w4 w4 hp;refine⟨by rw[length_append,length_singleton];omega,?_,fun o ho=>?_⟩
 ·unfold Pa.om;rw[if_neg bp];exact E
 rcases mem_append.1 ho with ho|ho
 ·exact hw.b o ho
 rw[mem_singleton] at ho;subst ho;exact⟨Nat.zero_le _,by show(-9223372036854775808:Int)<=0;decide,by show(0:Int)<=9223372036854775807;decide⟩
theorem Uy{row:List Vl}(hf:Pc.dR aL row=0){w:List aH}(hg:∀o∈w,kz aL o)(hx:fR w=0)(hl:w.length<=15)(hk:(cu aL w).2=0)(cl:(cu aL w).1=1\/(cu aL w).1=0)(hj:j=5\/j=11) :
  ((c8 aL row w).2=0->c8 aL row (w++[cY j])=j3 j (c8 aL row w).1)/\((c8 aL row w).2≠0->(c8 aL row (w++[cY j])).2≠0):=by
 have hp:bu j=1:=(by unfold bu;rw[if_neg w4,if_pos hj])
 have hr:=u0 hx;have I:=Ck (k:=j) hr w4 w4 w4 hp;have hg2:=Ks (k:=j) hg w4 w4;have eR:=F6 hx hl hk cl hj;obtain⟨_,_,q⟩:=yc hf hg hx;obtain⟨_,_,q2⟩:=yc hf hg2 I;obtain⟨e1,_⟩:=q hk;obtain⟨e2,_⟩:=q2 (by rw[eR]);rw[e1,e2];refine⟨fun h=>af6 hr h hp,fun h=>?_⟩;unfold gD at h |-;rw[sB] at h |-;have hb:(ic aU (cJ aL row) w []).2≠0:=fun e=>by rw[if_neg (fun q=>q e)] at h;exact h rfl
 have E:=Jf (b:=[cY j]) hb;rw[if_pos E];exact E
theorem adI{w:List aH}(hx:fR w=0)(hl:w.length<=15)(hk:(cu aL w).2=0)(cl:(cu aL w).1=1\/(cu aL w).1=0):fB aL (w++[cY 11])=(([],[]),0):=by
 have eR:=F6 hx hl hk cl (j:=11) (.inr rfl);unfold fB;rw[if_neg (by simp[vg]),if_neg bp,eR,if_neg (fun e=>e rfl),if_neg (fun e=>e.1 rfl)];have hlen:(w++[cY 11]).length=w.length+1:=(by simp)
 have hn:(w++[cY 11]).length-1<(w++[cY 11]).length:=(by omega)
 have E:l6 (w++[cY 11]) ((w++[cY 11]).length-1)=11:=by
  rw[sE hn];have:(w++[cY 11])[(w++[cY 11]).length-1]=cY 11:=by
   rw[getElem_append_right w4];simp
  rw[this];rfl
 have e:fM uY (w++[cY 11]).length (w++[cY 11]) ([],[])=([],[]):=by
  conv=>lhs;arg 2;rw[hlen]
  rw[fM,E,if_neg w8,if_neg w8];exact afh (.inr (.inr (by rw[E];exact⟨by decide,by decide⟩)))
 show((fM uY (w++[cY 11]).length (w++[cY 11]) ([],[]),(0:Int)))=_;rw[e]
theorem three{α:Type}{p q s:α->Bool}:∀l:List α,(∀x∈l,(p x=true/\q x=false/\s x=false)\/(p x=false/\q x=true/\s x=false)\/(p x=false/\q x=false/\s x=true))->(l.filter p).length+(l.filter q).length+(l.filter s).length=l.length
 | [],_=>rfl
 | a::l,h=>by
  have E:=three l fun x hx=>h x (mem_cons_of_mem _ hx);rcases h a mem_cons_self with ⟨h1,h2,h3⟩|⟨h1,h2,h3⟩|⟨h1,h2,h3⟩<;>simp[filter_cons,h1,h2,h3]<;>omega
theorem LN{t:aK}{w:List aH}:∀(l:List (K×Int)) (acc:List Int),(∀x∈l,(c8 t.au (rowAt t x.2) w).2=0\/(c8 t.au (rowAt t x.2) w).2=5)->(kJ t w acc l).2=0\/(kJ t w acc l).2=5
 | [],acc,_=>.inl rfl
 | x::l,acc,h=>by
  rw[kJ];by_cases hw:0<w.length
  ·rw[if_pos hw];rcases h x mem_cons_self with h1|h1
   ·rw[if_neg (fun q=>q h1)];split<;>exact LN l _ fun y hy=>h y (mem_cons_of_mem _ hy)
   rw[if_pos (by rw[h1];decide)];exact .inr h1
  rw[if_neg hw];exact LN l _ fun y hy=>h y (mem_cons_of_mem _ hy)
theorem ag9{w:List aH}(hw:Pa.uX w)(hl:w.length<=16):fZ (fV w)=0:=by
 have hg:=FH w hw;unfold fZ;rw[if_neg (by show ¬((4:Int)<1\/(4:Int)>9);decide),if_neg (fun e=>e hg.2.2.2.2),if_neg];have h1:=Pa.JQ w;have hs:Pa.qz (fV w)=((([⟨#[83,69,76,69,67,84]⟩].map Pa.bI++[Pa.dS ⟨#[42]⟩])++[⟨#[70,82,79,77]⟩,⟨#[116]⟩].map Pa.bI++Pa.kW w)++[])++[]:=by
  have hk:(fV w).kind=4:=rfl;unfold Pa.qz;rw[if_neg (by rw[hk];decide),if_neg (by rw[hk];decide),if_neg (by rw[hk];decide),if_pos hk];unfold Pa.AR Pa.yt Pa.Bh Pa.HE;rw[if_neg (show ¬(fV w).count=true from fun h=>by cases h),if_pos (show(fV w).names.length=0 from rfl),if_pos (show jf (fV w).order ⟨#[]⟩=true from(by decide +kernel:jf (⟨#[]⟩:ByteArray) ⟨#[]⟩=true)),if_neg (show ¬0<=(fV w).iz from by show ¬(0:Int)<=-1;decide)];rfl
 rw[hs];simp only[length_append,length_map,length_cons,length_nil];omega
theorem Mk{l:List aK}{a c:Nat}(I:qC l a c)(h:l.map aK.nm=dQ)(h0:0<l.length){w:List aH}(hw:Pa.uX w)(hl:w.length<=16)(hg:∀o∈w,kz aL o)(hx:fR w=0)(hk:(cu aL w).2=0)(cl:(cu aL w).1=1\/(cu aL w).1=0) :
  iq l (fV w)=([],(([],0),5))\/(iq l (fV w)=(l,(((ng l[0]).filter (fun r=>tG (c8 aL r w).1 rM),(((ng l[0]).filter (fun r=>tG (c8 aL r w).1 rM)).length:Int)),0))/\(ap l[0] w).2=0):=by
 have g:=I.g.tb _ (getElem_mem h0);have hb:(fB l[0].au w).2=0:=by
  rw[g.au];unfold fB;rw[if_neg (by simp[vg]),if_neg (by have:=vc (u0 hx);omega),if_neg (by simp[hk]),if_neg w4]
 have h5:(ap l[0] w).2=0\/(ap l[0] w).2=5:=by
  unfold ap;rw[if_neg (fun e=>e hb)];refine LN _ _ fun x E=>?_;have hf:=LM g x (Cq x E);obtain⟨_,_,q⟩:=yc hf hg hx;rw[g.au];rcases(q hk).2 with h|h
  ·exact .inr h
  exact .inl h.1
 rw[aiK h rfl rfl (ag9 hw hl) h0,ag2 g];rcases h5 with he|he
 ·right;obtain⟨_,e⟩:=ag6 g hg hx he;have xz:¬(ap l[0] w).2≠0:=fun q=>q he;rw[if_neg xz,if_neg (fun q=>q rfl),<-e,length_map];exact⟨rfl,he⟩
 left;have xz:(ap l[0] w).2≠0:=(by rw[he];decide)
 rw[if_pos xz,if_pos xz,he]
theorem afk{t:aK}{n:Nat}(g:eV t n){w:List aH}(hg:∀o∈w,kz aL o)(hx:fR w=0)(hl:w.length<=15)(hk:(cu aL w).2=0)(cl:(cu aL w).1=1\/(cu aL w).1=0)(hn:(ap t (w++[cY 11])).2=0) :
  ((ng t).filter fun r=>tG (c8 aL r w).1 rM).length+((ng t).filter fun r=>tG (c8 aL r (w++[cY 5])).1 rM).length+((ng t).filter fun r=>tG (c8 aL r (w++[cY 11])).1 rM).length=(ng t).length:=by
 refine three _ fun r hr=>?_;obtain⟨i,hi,rfl⟩:=mem_iff_getElem.1 hr;have E:i<(eE t.ix).length:=(by unfold ng at hi;rwa [length_map] at hi)
 have I:(ng t)[i]=rowAt t ((eE t.ix)[i]).2:=getElem_map _;have hf:Pc.dR aL (ng t)[i]=0:=(by rw[I];exact LM g _ (getElem_mem E))
 have eL:(c8 aL (ng t)[i] (w++[cY 11])).2=0:=by
  unfold ap at hn;have hb:=adI hx hl hk cl;rw[g.au,hb,if_neg (fun e=>e rfl)] at hn;obtain⟨_,ha⟩:=Gw bp _ _ hn;have:=ha (eE t.ix)[i] (by show _∈mJ t.ix [] [];rw[F2];exact getElem_mem E);rw[g.au] at this;rw[I];exact this
 obtain⟨n1,n2⟩:=Uy hf hg hx hl hk cl (j:=11) (.inr rfl);obtain⟨m1,_⟩:=Uy hf hg hx hl hk cl (j:=5) (.inl rfl);have hz:(c8 aL (ng t)[i] w).2=0:=Classical.byContradiction fun e=>n2 e eL;obtain⟨_,_,q⟩:=yc hf hg hx;have hv:=alY ((q hk).2.resolve_left w4).2 cl;rw[n1 hz,m1 hz];generalize (c8 aL (ng t)[i] w).1=v at hv;rcases hv with rfl|rfl|rfl
 ·exact .inr (.inr yC)
 ·exact .inr (.inl yC)
 exact .inl yC
end
open List
open Go.Proofs.Tryz
open Go.RowKit V Pk Tr Vl Go.Proofs.YtbplamgacibdaaaGreatDoor.Nm Pc Cd Ex Tw
open Pa (cn bK iZ fZ gU fL gW iM gi fm dQ Ph)
variable {G:List (Nat×List Value)} {m:Int}
theorem acJ{l:List aK}{a c:Nat}(U:qC l a c)(h:l.map aK.nm=dQ)(h0:0<l.length){w:List aH}(hw:Pa.uX w)(hl:w.length<=15)(hg:∀o∈w,kz aL o)(hx:fR w=0)(hk:(cu aL w).2=0)(cl:(cu aL w).1=1\/(cu aL w).1=0) :
  ((iq l (fV w)).2.2=5\/((iq l (fV w)).2.2=0/\(iq l (fV w)).2.1.2=((iq l (fV w)).2.1.1.length:Int)))/\((iq l (fV (w++[cY 5]))).2.2=5\/(iq l (fV (w++[cY 5]))).2.2=0)/\((iq l (fV (w++[cY 11]))).2.2=5\/(iq l (fV (w++[cY 11]))).2.2=0) /\
   ((iq l (fV w)).2.2=0->(iq l (fV (w++[cY 5]))).2.2=0->(iq l (fV (w++[cY 11]))).2.2=0->0<=(iq l (fV w)).2.1.2/\0<=(iq l (fV (w++[cY 5]))).2.1.2/\0<=(iq l (fV (w++[cY 11]))).2.1.2/\(iq l (fV w)).2.1.2+(iq l (fV (w++[cY 5]))).2.1.2+(iq l (fV (w++[cY 11]))).2.1.2=((ng l[0]).length:Int)):=by
 have g:=U.g.tb _ (getElem_mem h0);have hr:=u0 hx;have I4:=Ck (k:=5) hr w4 w8 w8 w8;have I:=Ck (k:=11) hr w4 w8 w8 w8;have k5:=F6 hx hl hk cl (j:=5) (.inl rfl);have O:=F6 hx hl hk cl (j:=11) (.inr rfl);have q1:=Mk U h h0 hw w4 hg hx hk cl;have Z:=Mk U h h0 (Gx hw hx hl (j:=5) (.inl rfl)) yX (Ks (k:=5) hg w8 w8) I4 (by rw[k5]) (.inl (by rw[k5]));have E:=Mk U h h0 (Gx hw hx hl (j:=11) (.inr rfl)) yX (Ks (k:=11) hg w8 w8) I (by rw[O]) (.inl (by rw[O]));refine⟨?_,?_,?_,fun e1 e2 e3=>?_⟩
 ·rcases q1 with q|⟨q,_⟩<;>rw[q]
  ·exact .inl rfl
  exact .inr ⟨rfl,rfl⟩
 ·rcases Z with q|⟨q,_⟩<;>rw[q]
  ·exact .inl rfl
  exact .inr rfl
 ·rcases E with q|⟨q,_⟩<;>rw[q]
  ·exact .inl rfl
  exact .inr rfl
 obtain⟨q1,_⟩:=q1.resolve_left fun q=>by rw[q] at e1;exact absurd e1 w8
 obtain⟨Z,_⟩:=Z.resolve_left fun q=>by rw[q] at e2;exact absurd e2 w8
 obtain⟨E,qm⟩:=E.resolve_left fun q=>by rw[q] at e3;exact absurd e3 w8
 rw[q1,Z,E];have hs:=afk g hg hx hl hk cl qm;exact⟨Int.natCast_nonneg _,Int.natCast_nonneg _,Int.natCast_nonneg _,by dsimp only;omega⟩
theorem aha{w:List aH}(hw:Pa.uX w)(hx:fR w=0)(hl:w.length<=15):gU (fV (w++[cY 5]))/\gU (fV (w++[cY 11])):=⟨FH _ (Gx hw hx hl (.inl rfl)),FH _ (Gx hw hx hl (.inr rfl))⟩
theorem Js:(Tryz.prog.info? 58).map (fun i=>(i.zero,i.size,i.bytes))=some (some (.agg #[.int .i64 0,.int .i64 0,.int .i64 0,.string ⟨#[]⟩,.string ⟨#[]⟩]),5,56):=by kernel_rfl
theorem abK(hm:(3,marksC)∈G)(hw:(1,wordsC)∈G)(ht:(0,typesC)∈G)(hG:(2,[Value.int .i64 m])∈G)(ps:List Ph)(iv:∀p∈ps,p.Ok)(eP:ps.length<=maxLen)(t:Tw)(Em:t.Ok):VP Tryz.prog G 4 [.list 14 (ps.flatMap Ph.cs) ps.length,.agg t.cs] (bP true):=by
 refine bn func4 rfl ntmps4 aP fun X0 w0 bj=>?_;have dH:=ey;obtain⟨tk,tn,ts,E⟩:=t;have hO:=L6 (G:=G) _ Em;have Qo:=TU 3 (Tw.mk tk tn ts E);have O:=JS (Tw.mk tk tn ts E);have Qp:=Pa.LL (Tw.mk tk tn ts E);have hlen:=(JR (Tw.mk tk tn ts E)).2;have nq:0<(gH 3 (Tw.mk tk tn ts E)).length:=(by generalize gH 3 (Tw.mk tk tn ts E)=w at O;rcases w with _|⟨a,b⟩;exact absurd (u0 O) w8;exact Nat.succ_pos _)
 generalize gH 3 (Tw.mk tk tn ts E)=w at *;unfold Tw.cs at hO |-;have U:=Gi (G:=G) hm hw ht aL w8 UA w (fun o ho=>(Qo o ho).nm);unfold qb at U;refine bX ?_;refine cW [_,_,_,_] (fun b3=>?_);refine aq 132 [0,3] ?_;refine az 1 ?_;refine fg av rfl rfl rfl call7 (aiJ hm hw ht hG ps iv eP) ⟨ot,trivial⟩ (fx _) ?_;rintro _ _ ⟨l,a,c,rfl,rfl,gn,Jc,I⟩;refine dF (ds:=[_]) av rfl rfl zeroValue31 rfl (fun b5=>?_);refine aR 0 [_] sizeOf31 ?_;refine aq 132 [3,5] ?_;refine cQ ?_;refine cQ ?_;have iu:=ao8 I;have Qq:0<l.length:=(by omega)
 have hg0:=gn.g.tb _ (getElem_mem Qq);have Z:=aiA hm hw ht hG l gn.g ⟨#[116]⟩;rw[akj (i:=0) (Zb I) Qq] at Z;dsimp only at Z;have hrf:=ag0 hg0;obtain⟨tw,hgb⟩:=aha Qp O hlen;have tv:=acJ gn I Qq Qp hlen Qo O;have sg:=VC.DQ (C1 hm hw ht hG gn Jc (s:=fV w) (gU.st (FH w Qp)) (by show ¬(4:Int)=2;decide) (fun _=>(show cR ⟨#[116]⟩=0 by decide +kernel)) (by show(4:Int)<=6;decide) (fun h=>by cases h)) (args':=[.agg [an 5 dw (l)],.agg [ae 4,bg ⟨#[116]⟩,bW,bW,bW,bP false,an 5 cO (w),fN,bP false,ae (-1),fN,bW]]) ⟨dG,As ⟨dG,dG,fG,fG,fG,dG,dG,dG,dG,dG,dG,fG,trivial⟩,trivial⟩;have nW:=VC.DQ (C1 hm hw ht hG gn Jc (s:=fV (w++[cY 5])) (gU.st tw) (by show ¬(4:Int)=2;decide) (fun _=>(show cR ⟨#[116]⟩=0 by decide +kernel)) (by show(4:Int)<=6;decide) (fun h=>by cases h)) (args':=[.agg [an 5 dw (l)],.agg [ae 4,bg ⟨#[116]⟩,bW,bW,bW,bP false,.list 5 (((w++[cY 5])).flatMap cO) ((w++[cY 5])).length,fN,bP false,ae (-1),fN,bW]]) ⟨dG,As ⟨dG,dG,fG,fG,fG,dG,dG,dG,dG,dG,dG,fG,trivial⟩,trivial⟩
 have Jd:=VC.DQ (C1 hm hw ht hG gn Jc (s:=fV (w++[cY 11])) (gU.st hgb) (by show ¬(4:Int)=2;decide) (fun _=>(show cR ⟨#[116]⟩=0 by decide +kernel)) (by show(4:Int)<=6;decide) (fun h=>by cases h)) (args':=[.agg [an 5 dw (l)],.agg [ae 4,bg ⟨#[116]⟩,bW,bW,bW,bP false,.list 5 (((w++[cY 11])).flatMap cO) ((w++[cY 11])).length,fN,bP false,ae (-1),fN,bW]]) ⟨dG,As ⟨dG,dG,fG,fG,fG,dG,dG,dG,dG,dG,dG,fG,trivial⟩,trivial⟩;unfold BS at sg nW Jd;generalize iq l (fV w)=R1 at sg tv;generalize iq l (fV (w++[cY 5]))=R2 at nW tv;generalize iq l (fV (w++[cY 11]))=R3 at Jd tv;obtain⟨X1,⟨rs1,k1⟩,E1⟩:=R1;obtain⟨X2,⟨rs2,k2⟩,E2⟩:=R2;obtain⟨X3,⟨rs3,k3⟩,E3⟩:=R3;dsimp only at sg nW Jd tv;generalize ng l[0]=was at Z hrf tv;have Qn:=ag8 Qo;generalize cu aL w=K at U tv Qn;obtain⟨K1,K2⟩:=K;dsimp only at U tv Qn;refine cc [3,5,25] ?_;refine cj ?_ ?_<;>intro aM bG
 ·exact absurd aM (by simp[iu] at aM)
 refine cX [5,6] (hO) ?_;refine cN [5,6,7,8] ?_;refine cL (JU) ?_;refine cL (U) ?_;refine bL ?_;refine cX [5,6,7,8,9,10] (Z) ?_;refine cQ ?_;refine cQ ?_;rcases Bool.eq_false_or_eq_true (K2 != 0) with hb|hb
 ·refine cc [5,6,7,8,9,10,48] ?_;refine e9 ?_;exact z127
 have hK2:K2=0:=(by simpa using hb)
 refine cc [5,6,7,8,9,10,48] ?_;refine cj ?_ ?_<;>intro bf cD
 ·exact z127
 have Iz:K1=1\/K1=0:=(by have:¬K1>1:=uh;omega)
 refine en ?_;refine cQ ?_;refine dv_ 10 9 8 [5,6,9,11,12,64,65,66] ?_;refine cL (KM ⟨#[116]⟩ w) ?_;refine cL (sg) ?_;refine mr 4 ?_;refine nV ?_;refine nV ?_;refine jR ?_;refine⟨rfl,rfl,fun vV mv=>?_⟩;refine aR 1 [_] sizeOf31 ?_;refine aR 0 [_,_] sizeOf35 ?_;refine aq 132 [5,6,9,12,13] ?_;refine cQ ?_;refine dw_ 14 13 12 2 5 [5,6,9,12,13,14,15,76,77,78] (ls:=w) (new:=[cY 5]) mY At underlying42 Js nq Nat.one_pos uD uD ?_;refine BG ?_;refine BG ?_;refine Yv (Rw:=Ei cO 58 5 w) ?_ ?_
 ·exact Z2
 refine BG ?_;refine Yu (g:=cO) [cY 5] ?_;refine Yt ?_;refine⟨_,_,gN,gN,lk,fun _=>by first|exact ot|exact cf,fun _=>ot,fun _ _=>ot,fun _ _=>ot,?_⟩;refine cL (KM ⟨#[116]⟩ (w++[cY 5])) ?_;refine cL (nW) ?_;refine mr 4 ?_;refine nV ?_;refine nV ?_;refine jR ?_;refine⟨rfl,rfl,fun b15 BM=>?_⟩;refine aR 1 [_] sizeOf31 ?_;refine aR 0 [_,_] sizeOf35 ?_;refine aq 132 [5,6,9,12,13,15,16] ?_;refine cQ ?_;refine dw_ 14 13 12 2 5 [9,12,13,15,16,17,18,88,89,90] (ls:=w) (new:=[cY 11]) mY At underlying42 Js nq Nat.one_pos uD uD ?_;refine BG ?_;refine BG ?_;refine Yv (Rw:=Ei cO 58 5 w) ?_ ?_
 ·exact Z2
 refine BG ?_;refine Yu (g:=cO) [cY 11] ?_;refine Yt ?_;refine⟨_,_,gN,gN,lk,fun _=>by first|exact ot|exact cf,fun _=>ot,fun _ _=>ot,fun _ _=>ot,?_⟩;refine cL (KM ⟨#[116]⟩ (w++[cY 11])) ?_;refine cL (Jd) ?_;refine mr 4 ?_;refine nV ?_;refine nV ?_;refine jR ?_;refine⟨rfl,rfl,fun b18 b17=>?_⟩;refine aR 1 [_] sizeOf31 ?_;refine aR 0 [_,_] sizeOf35 ?_;refine aq 132 [9,12,13,15,16,18,19] ?_;refine cQ ?_;refine cQ ?_;obtain⟨p1,p2,p3,p4⟩:=tv hK2 Iz;rcases p1 with e1|⟨e1,cl⟩
 ·have g1:(E1==5)=true:=(by rw[e1];rfl)
  refine cc [9,12,13,15,16,18,19,100] ?_;refine e9 ?_;exact Io
 have g1:(E1==5)=false:=(by rw[e1];rfl)
 rcases p2 with e2|e2
 ·have g2:(E2==5)=true:=(by rw[e2];rfl)
  refine cc [9,12,13,15,16,18,19,100] ?_;refine e9 ?_;exact Io
 have g2:(E2==5)=false:=(by rw[e2];rfl)
 rcases p3 with e3|e3
 ·have g3:(E3==5)=true:=(by rw[e3];rfl)
  refine cc [9,12,13,15,16,18,19,100] ?_;refine cj ?_ ?_<;>intro cr cU
  ·exact Io
  exact absurd cr (by first|(rw[g3];decide)|(simp at cr;done))
 have g3:(E3==5)=false:=(by rw[e3];rfl)
 obtain⟨n1,n2,n3,hs⟩:=p4 e1 e2 e3;have f1:(E1==0)=true:=(by rw[e1];rfl)
 have f2:(E2==0)=true:=(by rw[e2];rfl)
 have f3:(E3==0)=true:=(by rw[e3];rfl)
 have f4:(k1+k2+k3==((was.length:Nat):Int))=true:=(by rw[hs];exact beq_self_eq_true _)
 refine cc [9,12,13,15,16,18,19,100] ?_;refine cj ?_ ?_<;>intro cr cU
 ·exact absurd cr (by rw[g3];decide)
 refine cN [4] ?_;refine aT 15 ?_ (h:=by exact(dX (r:=.int .i64 (k1+k2)) rfl ot ot (lI (wrap_i64 w4 w4))));refine aT 2 ?_ (h:=by exact(dX (r:=.int .i64 (k1+k2+k3)) rfl ot ot (lI (wrap_i64 w4 w4))));refine bL ?_;refine eu [] ?_;refine⟨?_,rfl⟩;first|rfl|(rcases hd1 with h|h<;>simp[h];done)|(congr 3;done)|(rw[cl];simp;done)
theorem walkSelectParts(l:List Ph)(v:Value)(ok:(∀x∈l,x.Ok)/\l.length<=maxLen)(t:Tw)(E:Value)(I:t.Ok)(w:World)(h1:MarksTab w)(h2:WordsTab w)(h3:TypesTab w){m:Int}(hm:Tab.nH w 2 [Value.int .i64 m])(hv:cq w (fun _=>False) (.list 14 (l.flatMap Ph.cs) l.length) v)(O:cq w (fun _=>False) (.agg t.cs) E):Calls Tryz.prog 4 #[v,E] w fun e w'=>e = .returned (.bool true)/\Below w.heap.size w w' :=
 (abK (G:=BU m) tm1 tm2 tm3 tm4 l ok.1 ok.2 t I).amc (ao7 h1 h2 h3 hm) (vs:=[v,E]) (cM.cons hv (cM.cons O (cM.vs w _ [])))
end Ba
end Go.Proofs.YtbplamgacibdaaaGreatDoor
