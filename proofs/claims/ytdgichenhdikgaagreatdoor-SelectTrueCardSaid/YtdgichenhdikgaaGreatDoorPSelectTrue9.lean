/-
  What the proof of SelectTrue leans on, part 9 of 9: walks of the program's functions at the level of values, and plain facts of what they compute.
-/
import Derived.Test.YtdgichenhdikgaaGreatDoorPSelectTrue8
set_option linter.unusedVariables false
set_option linter.unusedSimpArgs false
set_option maxRecDepth 100000
set_option maxHeartbeats 4000000
namespace Go.Proofs.YtdgichenhdikgaaGreatDoor.Ex
open List
open Go.Proofs.Tryz
open Go.RowKit V Pk Vl Go.Proofs.YtdgichenhdikgaaGreatDoor.Nm Go.Proofs.YtdgichenhdikgaaGreatDoor.Pc Go.Proofs.YtdgichenhdikgaaGreatDoor.Cd
open Go.Lib (compareBytes)
variable {k x:List UInt8} {b:Vl} {o:aJ} {ops:List aJ}
def nN(k:List UInt8)(b:jd):Prop:=compareBytes b.1 k≤0∧(b.2.length=0∨compareBytes k b.2≤0)
theorem ahh{b:jd}(h:nN k b)(hx:compareBytes x k≤0):nN k (mQ x b):=by
 unfold mQ;split
 ·exact⟨hx,h.2⟩
 exact h
theorem afQ{b:jd}(h:nN k b)(hx:compareBytes k x≤0):nN k (pQ x b):=by
 unfold pQ;split
 ·exact⟨h.1,.inr hx⟩
 exact h
section
variable {l:List cj} {row:List Vl}
theorem Ev{r:List aJ}{st:List Vl}{w:Vl}(hp:bw o.k=0)(he:∀a b,cD l row o a b=(w,0)):eW aV (cD l row) (o::r) st=eW aV (cD l row) r (st++[w]):=by
 rw[wG (by rw[he]),he,hp];simp
theorem Su{r:List aJ}{a:Vl}(hp:bw o.k=2)(h:(eW aV (cD l row) (o::r) [a,b]).2=0):(fi o.k a b).2=0∧eW aV (cD l row) (o::r) [a,b]=eW aV (cD l row) r [(fi o.k a b).1]:=by
 have ha:dS aV o.k [a,b]=a:=(by unfold dS;rw[hp];rfl)
 have hb:dM aV o.k [a,b]=b:=(by unfold dM;rw[hp];rfl)
 have he:cD l row o a b=fi o.k a b:=(by unfold cD;rw[hp];rfl)
 by_cases hz:(fi o.k a b).2=0
 ·refine⟨hz,?_⟩;rw[wG (by rw[ha,hb,he];exact hz),ha,hb,he,hp];rfl
 rw[yQ (by rw[ha,hb,he];exact hz),ha,hb,he] at h;exact absurd h hz
theorem aec{r:List aJ}{a:Vl}(hp:bw o.k=1)(h:(eW aV (cD l row) (o::r) [a]).2=0):(nC o.k a).2=0∧eW aV (cD l row) (o::r) [a]=eW aV (cD l row) r [(nC o.k a).1]:=by
 have ha:dS aV o.k [a]=a:=(by unfold dS;rw[hp];rfl)
 have he:∀b,cD l row o a b=nC o.k a:=fun b=>by unfold cD;rw[hp];rfl
 by_cases hz:(nC o.k a).2=0
 ·refine⟨hz,?_⟩;rw[wG (by rw[ha,he];exact hz),ha,he,hp];rfl
 rw[yQ (by rw[ha,he];exact hz),ha,he] at h;exact absurd h hz
theorem Ow{a b:List aJ}:∀{st:List Vl},(iM aV (cD l row) a st).2≠0→(iM aV (cD l row) (a++b) st).2≠0:=by
 induction a with
 | nil=>intro st h;exact absurd rfl h
 | cons o r ih =>
  intro st h;by_cases he:(cD l row o (dS aV o.k st) (dM aV o.k st)).2=0
  ·rw[ug he] at h;rw[cons_append,ug he];exact ih h
  rw[cons_append,Bs he];exact he
theorem OG:∀(ops:List aJ) (E st:List Vl) (h':Int),runs st.length ops=some h'→(iM aV (cD l row) ops st).2≠0→(iM aV (cD l row) ops (E++st)).2≠0
 | [],E,st,h',hr,h=>absurd rfl h
 | o::r,E,st,h',hr,h0=>by
  rw[runs] at hr;split at hr
  ·rename_i he;have hp:=(tN he).1;obtain⟨a1,a2⟩:=P1 (z:=aV) o.k E st hp;by_cases hz:(cD l row o (dS aV o.k st) (dM aV o.k st)).2=0
   ·rw[ug hz] at h0;rw[ug (by rw[a1,a2];exact hz),a1,a2,O9 o.k E st hp,append_assoc];exact OG r E _ h' (by rw[Rx o.k st _ hp];exact hr) h0
   rw[Bs (by rw[a1,a2];exact hz),a1,a2];exact hz
  cases hr
theorem fold_zero{x:List aJ}(h:(iM aV (cD l row) x []).2=0):(gS l row x).2=0:=by unfold gS;rw[wA,if_neg (by simp[h])]
theorem aed{x y:List aJ}(hx:runs 0 x=some 1)(hy:runs 0 y=some 1)(hp:bw o.k=2)(h:(gS l row ((x++y)++[o])).2=0):(gS l row x).2=0∧(gS l row y).2=0∧(fi o.k (gS l row x).1 (gS l row y).1).2=0∧gS l row ((x++y)++[o])=fi o.k (gS l row x).1 (gS l row y).1:=by
 have hs:(iM aV (cD l row) ((x++y)++[o]) []).2=0:=by
  by_cases hz:(iM aV (cD l row) ((x++y)++[o]) []).2=0
  ·exact hz
  unfold gS at h;rw[wA,if_pos hz] at h;exact absurd h hz
 have h1:(iM aV (cD l row) x []).2=0:=Classical.byContradiction fun c=>by rw[append_assoc] at hs;exact Ow c hs
 have f1:=fold_zero h1;have e1:=TC hx f1 [];have h2:(iM aV (cD l row) y []).2=0:=Classical.byContradiction fun c=>by
  rw[append_assoc,Ea _ _ _ h1,e1] at hs;have:=OG y [(gS l row x).1] [] 1 hy c;rw[append_nil] at this;exact Ow (b:=[o]) this hs
 have f2:=fold_zero h2;have e2:=TC hy f2 [(gS l row x).1];have E:iM aV (cD l row) (x++y) []=([(gS l row x).1,(gS l row y).1],0):=(by rw[Ea _ _ _ (by rw[e1]),e1];exact e2)
 have I:gS l row ((x++y)++[o])=eW aV (cD l row) [o] [(gS l row x).1,(gS l row y).1]:=by
  unfold gS;rw[wA,Ea _ _ _ (by rw[E]),E,←wA];rfl
 rw[I] at h ⊢;obtain⟨q1,q2⟩:=Su hp h;refine⟨f1,f2,q1,?_⟩;rw[q2];show((fi o.k _ _).1,(0:Int))=_;rw[←q1]
end
theorem and_true{a:Vl}(h0:(fi 3 a b).2=0)(h1:(fi 3 a b).1.k=1)(h2:(fi 3 a b).1.n=1):(a.k=1∧a.n=1)∧b.k=1∧b.n=1:=by
 unfold fi at h0 h1 h2;split at h0
 ·rename_i c;exact absurd h0 c
 rename_i c;rw[if_neg c,if_pos rfl] at h1 h2;rw[if_pos rfl] at h0;have hb:bW a=0∧bW b=0:=by
  unfold lS at c;split at c
  ·rename_i E;exact absurd E c
  rename_i E;exact⟨Classical.not_not.1 E,Classical.not_not.1 c⟩
 unfold kP at h0 h1 h2;split at h0
 ·cases h0
 rename_i E;rw[if_neg E] at h1 h2;split at h1
 ·rename_i O;rw[if_pos O] at h2;simp only at h2;omega
 rename_i O;rw[if_neg O] at h2;split at h1
 ·rename_i U;rw[if_pos U] at h2;simp only at h2;omega
 rename_i U;rw[if_neg U] at h2;split at h1
 ·exact absurd h1 w8
 rename_i Z;rw[if_neg Z] at h2;simp only at h1 h2;have I:b.k=1:=(by omega)
 have:=Ic hb.2 I;exact⟨⟨h1,h2⟩,I,by omega⟩
theorem aee{k:Int}{a:Vl}(hk:k=6∨k=7)(h0:(fi k a b).2=0)(ha:a.k≠0)(hb:b.k≠0):bW a=0∧bW b=0∧a.k=b.k∧(fi k a b).1=mK ((dX a b==0&&k==6)||(decide (dX a b<0)&&k==7)):=by
 unfold fi at h0 ⊢;split at h0
 ·rename_i c;exact absurd h0 c
 rename_i c;have E:bW a=0∧bW b=0:=by
  unfold lS at c;split at c
  ·rename_i I;exact absurd I c
  rename_i I;exact⟨Classical.not_not.1 I,Classical.not_not.1 c⟩
 have hn:¬pS a b=true:=(by unfold pS;simp[ha,hb])
 rw[if_neg c];simp only[show ¬k=3 by omega,show ¬k=4 by omega,hk,hn,if_false,if_true] at h0;rw[if_neg (show ¬k=3 by omega),if_neg (show ¬k=4 by omega),if_pos hk,if_neg hn];by_cases om:a.k=b.k
 ·exact⟨E.1,E.2,om,by rw[if_neg (by simpa using om)]⟩
 rw[if_pos om] at h0;exact absurd h0 w8
theorem QA{b:Bool}(h:(mK b).n=1):b=true:=by
 cases b
 ·cases h
 rfl
theorem afR(b:Bool):(mK b).k=1:=by cases b<;>rfl
theorem not_true{a:Vl}(h0:(nC 5 a).2=0)(hk:a.k=1)(h:(nC 5 a).1.n=1):a.n=0:=by
 unfold nC at h0 h;split at h0
 ·rename_i c;exact absurd h0 c
 rename_i c;rw[if_neg c,if_neg w8,if_pos rfl,if_neg w4,if_pos hk] at h;have:=QA h;simpa using this
theorem Bz{v:Vl}(h:bW v=0)(hk:v.k=2):fP [v]=(dx [v],0):=by
 unfold fP;rw[if_neg bn,Bo (fun x hx=>by rw[mem_singleton] at hx;rw[hx];exact h),if_neg bn,if_neg];show ¬(dx [v]).length>100;unfold dx pi rF;simp[hk,lE]
theorem afS{a:Vl}(ha:bW a=0)(oa:a.Ok)(hb:bW b=0)(ob:b.Ok)(h:dX a b<0):compareBytes (dx [a]) (dx [b]) = -1:=by
 have:=JM ha oa hb ob [] [] w4;have h3:=O2 a b;rw[append_nil,append_nil] at this;unfold dx;rw[flatMap_singleton,flatMap_singleton,this];omega
theorem UZ{a:Vl}(ha:bW a=0)(oa:a.Ok)(hb:bW b=0)(ob:b.Ok)(h:dX a b≤0):compareBytes (dx [a]) (dx [b])≤0:=by
 by_cases hz:dX a b=0
 ·rw[yH hz,JN];decide
 rw[afS ha oa hb ob w4];decide
theorem U0{rv lv:Vl}(hr:bW rv=0)(U:rv.Ok)(hl:bW lv=0)(ol:lv.Ok){E:Int}{eq not:Bool}{b:jd}(hb:nN (dx [rv]) b)(he:eq=true→rv=lv)(O:eq=false→((E==0)==not)=true→dX lv rv≤0)(I:eq=false→((E==0)!=not)=true→dX rv lv≤0):nN (dx [rv]) (sH E eq not (dx [lv]) b):=by
 unfold sH;have eK:(eq||(E==0)==not)=true→nN (dx [rv]) (mQ (dx [lv]) b):=fun h=>ahh hb (by
  cases eq with
  | true=>rw[he rfl,JN];decide
  | false=>exact UZ hl ol hr U (O rfl nf))
 have er:(eq||(E==0)!=not)=true→∀{c},nN (dx [rv]) c→nN (dx [rv]) (pQ (dx [lv]) c):=fun h c hc=>afQ hc (by
  cases eq with
  | true=>rw[he rfl,JN];decide
  | false=>exact UZ hr U hl ol (I rfl nf))
 cases e1:(eq||(E==0)!=not)<;>cases e2:(eq||(E==0)==not)
 ·exact hb
 ·exact eK e2
 ·exact er e1 hb
 exact er e1 (eK e2)
theorem Ju{p:aJ→Bool}{a b:aJ}(h:¬cU p [a,b]<0):(cU p [a,b]=0∧p a=true)∨(cU p [a,b]=1∧p a=false∧p b=true):=by
 cases ha:p a with
 | true=>exact .inl ⟨aiQ ha,rfl⟩
 | false =>
  cases hb:p b with
  | true=>exact .inr ⟨aiR ha hb,rfl,rfl⟩
  | false=>exact absurd (by rw[afP ha hb];decide) h
theorem aiS{a b:ByteArray}(h:(a.toList==b.toList)=true):a=b:=by
 rw[beq_iff_eq,ByteArray.toList_eq,ByteArray.toList_eq] at h;exact ByteArray.ext (Array.ext' h)
section
variable {a:Int} {rest:List Vl}
theorem Vz(h:ku yC o=true)(x y:Vl):bw o.k=0∧cD bf (jP a::rest) o x y=(jP a,0):=by
 unfold ku at h;rw[Bool.and_eq_true] at h;have hk:o.k=2:=(by simpa using h.1)
 have hn:o.nm=yC:=aiS h.2;have hp:bw o.k=0:=(by rw[hk];rfl)
 refine⟨hp,?_⟩;unfold cD;rw[if_neg (by rw[hp];decide),if_neg (by rw[hp];decide),if_pos hk,hn,show bD bf yC=0 from Vd];rfl
theorem U1{row:List Vl}(h:fU o=true)(x y:Vl):bw o.k=0∧o.v.k≠0∧cD bf row o x y=(o.v,0):=by
 unfold fU at h;rw[Bool.and_eq_true] at h;have hk:o.k=1:=(by simpa using h.1)
 have hp:bw o.k=0:=(by rw[hk];rfl)
 refine⟨hp,by simpa using h.2,?_⟩;unfold cD;rw[if_neg (by rw[hp];decide),if_neg (by rw[hp];decide),if_neg w4]
theorem apart(h:ku yC o=true):fU o=false:=by
 unfold ku at h;unfold fU;rw[Bool.and_eq_true] at h;have hk:o.k=2:=(by simpa using h.1)
 rw[hk];rfl
theorem Ul{not:Bool}{v:Vl}{tl:List aJ}{b:jd}(oa:(jP a).Ok)(aQ:∀o∈ops,o.v.Ok)(Z:tl=if not=true then [oE 5] else [])(hf:eW aV (cD bf (jP a::rest)) (ops++tl) []=(v,0))(U:v.k=1∧v.n=1)(hb:nN (dx [jP a]) b):nN (dx [jP a]) (mr yC ops not b):=by
 unfold mr;split
 ·exact hb
 rename_i c1;split
 ·exact hb
 rename_i c2;have h3:ops.length=3:=(by omega)
 match ops,h3 with
 | [o0,o1,o2],_ =>
  simp only[take_succ_cons,List.take_zero,length_cons,length_nil,Nat.reduceAdd,Nat.reduceSub,cons_append,nil_append] at c1 c2 hf ⊢;have fb:nr [o0,o1,o2] 2=o2.k:=rfl;rw[fb] at c1 ⊢;have G9:o2.k=6∨o2.k=7:=(by omega)
  have Df:not=true→o2.k=7:=fun h=>by rcases G9 with h6|h7;exact absurd (.inr (.inl ⟨h,by omega⟩)) c1;exact h7
  have nI:bw o2.k=2:=(by rcases G9 with h|h<;>rw[h]<;>rfl)
  obtain⟨c3,c4⟩:=not_or.1 c2;have E:∀x y:Vl,x.k≠0→y.k≠0→eW aV (cD bf (jP a::rest)) (o0::o1::o2::tl) []=eW aV (cD bf (jP a::rest)) (o2::tl) [x,y]→bW x=0∧bW y=0∧x.k=y.k∧(o2.k=6→dX x y=0)∧(o2.k=7→not=false→dX x y<0)∧(not=true→0≤dX x y):=fun x y hx hy he=>by
   rw[he] at hf;obtain⟨q1,q2⟩:=Su nI (by rw[hf]);obtain⟨r1,r2,r3,r4⟩:=aee G9 q1 hx hy;rw[q2,r4,Z] at hf;refine⟨r1,r2,r3,?_⟩;cases uF:not with
   | false =>
    rw[uF,if_neg bn] at hf;have hv2:mK ((dX x y==0&&o2.k==6)||(decide (dX x y<0)&&o2.k==7))=v:=(by injection hf)
    rw[←hv2] at U;have:=QA U.2;refine⟨fun h=>?_,fun h _=>?_,fun h=>(by cases h)⟩
    ·rw[h] at this;simpa using this
    rw[h] at this;simpa using this
   | true =>
    rw[uF,if_pos rfl] at hf;obtain⟨s1,s2⟩:=aec (o:=oE 5) (by rfl) (by rw[hf]);rw[s2] at hf;have hv2:(nC 5 (mK ((dX x y==0&&o2.k==6)||(decide (dX x y<0)&&o2.k==7)))).1=v:=(by injection hf)
    rw[←hv2] at U;have:=not_true s1 (afR _) U.2;have h7:=Df uF;rw[h7] at this;refine⟨fun h=>w4,fun _ h=>(by cases h),fun _=>?_⟩;by_cases aa:dX x y<0
    ·simp[aa,mK] at this
    omega
  rcases Ju c3 with ⟨k1,k2⟩|⟨k1,k2,k3⟩
  ·rcases Ju c4 with ⟨l1,l2⟩|⟨l1,l2,l3⟩
   ·rw[apart k2] at l2;cases l2
   have O:=fun x y=>Vz (a:=a) (rest:=rest) k2 x y;have e1:=fun x y=>U1 (row:=jP a::rest) l3 x y;obtain⟨m1,m2,m3,m4,m5,m6⟩:=E (jP a) o1.v (show(2:Int)≠0 by decide) (e1 aV aV).2.1 (by rw[Ev (O aV aV).1 fun x y=>(O x y).2,Ev (e1 aV aV).1 fun x y=>(e1 x y).2.2];rfl);have I:sP [o0,o1,o2]=dx [o1.v]:=(by unfold sP;rw[show cU fU ([o0,o1,o2].take 2)=1 from l1];exact congrArg Prod.fst (Bz m2 m3.symm))
   rw[k1,I];refine U0 m1 oa m2 (aQ o1 bn) hb (fun h=>yH (m4 nf)) (fun h h'=>?_) (fun h h'=>?_)
   ·have uF:not=true:=(by simpa using h')
    have:=m6 uF;rw[wg];omega
   exact VK
  rcases Ju c4 with ⟨l1,l2⟩|⟨l1,l2,l3⟩
  ·have e1:=fun x y=>Vz (a:=a) (rest:=rest) k3 x y;have O:=fun x y=>U1 (row:=jP a::rest) l2 x y;obtain⟨m1,m2,m3,m4,m5,m6⟩:=E o0.v (jP a) (O aV aV).2.1 (show(2:Int)≠0 by decide) (by rw[Ev (O aV aV).1 fun x y=>(O x y).2.2,Ev (e1 aV aV).1 fun x y=>(e1 x y).2];rfl);have I:sP [o0,o1,o2]=dx [o0.v]:=(by unfold sP;rw[show cU fU ([o0,o1,o2].take 2)=0 from l1];exact congrArg Prod.fst (Bz m1 m3))
   rw[k1,I];refine U0 m2 oa m1 (aQ o0 bn) hb (fun h=>(yH (m4 nf)).symm) (fun h h'=>?_) (fun h h'=>?_)
   ·exact VK
   have uF:not=true:=(by simpa using h')
   have:=m6 uF;rw[wg];omega
  rw[apart k3] at l3;cases l3
theorem Po(h:0<ops.length):ops=ops.take (ops.length-1)++[ops[ops.length-1]]:=by
 rw[←take_succ_eq_append_getElem w4,show ops.length-1+1=ops.length by omega,take_length]
theorem ahi{l:List cj}{row:List Vl}{o':aJ}(h:o.k=o'.k)(hp:bw o.k=1)(x y:Vl):cD l row o x y=cD l row o' x y:=by unfold cD;rw[←h,if_pos hp,if_pos hp]
theorem acj{l:List cj}{row:List Vl}{o':aJ}(h:o.k=o'.k)(hp:bw o.k=1)(x:List aJ):eW aV (cD l row) (x++[o]) []=eW aV (cD l row) (x++[o']) []:=by
 have:∀(x:List aJ) (st:List Vl),eW aV (cD l row) (x++[o]) st=eW aV (cD l row) (x++[o']) st:=by
  intro x;induction x with
  | nil =>
   intro st;have he:cD l row o=cD l row o':=(by funext x y;exact ahi h hp x y)
   show eW _ _ (o::[]) st=eW _ _ (o'::[]) st;unfold eW;rw[he,h]
  | cons c r ih=>intro st;rw[cons_append,cons_append,eW,eW,ih]
 exact this x []
theorem FF(oa:(jP a).Ok):∀(f:Nat) (ops:List aJ) (v:Vl) (b:jd),ops.length≤f→runs 0 ops=some 1→(∀o∈ops,o.v.Ok)→gS bf (jP a::rest) ops=(v,0)→v.k=1∧v.n=1→nN (dx [jP a]) b→nN (dx [jP a]) (fO yC f ops b)
 | 0,ops,v,b,hl,hr,_,_,_,_=>by have:=uZ hr;omega
 | f+1,ops,v,b,hl,hr,aQ,hv,h1,hb=>by
  have hp:=uZ hr;rw[fO];split
  ·rename_i hk;obtain⟨q1,q2,Z,q4⟩:=TD hr hk;obtain⟨hn,_⟩:=EM hr;have j9:ops[ops.length-1].k=3:=(by rw[←sA hn];exact hk)
   have O:ops=(ops.take (ie ops (ops.length-1) 1)++(ops.take (ops.length-1)).drop (ie ops (ops.length-1) 1))++[ops[ops.length-1]]:=by
    conv=>lhs;rw[Po hp]
    congr 1;conv=>lhs;rw[←take_append_drop (ie ops (ops.length-1) 1) (ops.take (ops.length-1))]
    congr 1;rw[take_take];congr 1;omega
   have I:=hv;rw[O] at I;obtain⟨f1,f2,f3,f4⟩:=aed q2 Z (by rw[j9];rfl) (by rw[I]);rw[I,j9] at f4;rw[j9] at f3;obtain⟨t1,t2⟩:=and_true f3 (by rw[←f4];exact h1.1) (by rw[←f4];exact h1.2);refine FF oa f _ _ _ (by rw[length_drop,length_take];omega) Z (fun o ho=>aQ o (mem_of_mem_take (mem_of_mem_drop ho))) (Prod.ext rfl f2) t2 ?_;exact FF oa f _ _ _ oO q2 (fun o ho=>aQ o (mem_of_mem_take ho)) (Prod.ext rfl f1) t1 hb
  split
  ·rename_i hk U;obtain⟨hn,_⟩:=EM hr;have E:ops[ops.length-1].k=5:=(by rw[←sA hn];exact U)
   refine Ul (rest:=rest) (tl:=[oE 5]) oa (fun o ho=>aQ o (mem_of_mem_take ho)) rfl ?_ h1 hb;rw[←acj (o:=ops[ops.length-1]) (by rw[E];rfl) (by rw[E];rfl),←Po hp];exact hv
  exact Ul (rest:=rest) (tl:=[]) oa aQ rfl (by rw[append_nil];exact hv) h1 hb
end

end Go.Proofs.YtdgichenhdikgaaGreatDoor.Ex

namespace Go.Proofs.YtdgichenhdikgaaGreatDoor.Ba
open List
open Go.Proofs.Tryz
open Go.RowKit V Pk Tr Vl Go.Proofs.YtdgichenhdikgaaGreatDoor.Nm Pc Cd Ex Tw
open Pa (cm bK jA gg jk fY iC ji gp fW dZ Ph)
open Ex (nN FF)
variable {row:List Vl}
def vD:Vl:=⟨1,1,⟨#[]⟩⟩
theorem VA{s:ByteArray}(h:s.size=0):s=⟨#[]⟩:=ByteArray.ext (Array.eq_empty_of_size_eq_zero h)
theorem Fk(hf:Pc.dB bf row=0){w:List aJ}(hg:∀o∈w,mN bf o)(hx:gz w=0):((dr bf w).2=0∨(dr bf w).2=4)∧((dr bf w).2=4→dD bf row w=(aV,4))∧((dr bf w).2=0→dD bf row w=gS bf row w∧((dD bf row w).2=5∨((dD bf row w).2=0∧jy (dr bf w).1 (dD bf row w).1))) :=
 (PY Bj hf (T5 hf) hg hx).2
theorem QB{w:List aJ}(hp:1≤w.length)(h1:(fw bf w).2=0):(dr bf w).2=0∧((dr bf w).1=1∨(dr bf w).1=0)∧fw bf w=(fO yC w.length w ([],[]),0):=by
 unfold fw at h1 ⊢;rw[if_neg (by simp[Bj]),if_neg w4] at h1 ⊢;by_cases hk:(dr bf w).2=0
 ·rw[if_neg (by simp[hk])] at h1 ⊢;by_cases hc:(dr bf w).1≠1∧(dr bf w).1≠0
  ·rw[if_pos hc] at h1;exact absurd h1 w8
  rw[if_neg hc];exact⟨hk,by omega,rfl⟩
 rw[if_pos hk] at h1;exact absurd h1 hk
theorem afT(hf:Pc.dB bf row=0)(aQ:∀v∈row,v.Ok){w:List aJ}(hg:∀o∈w,mN bf o)(hx:gz w=0)(h1:(fw bf w).2=0)(h:(dD bf row w).1=vD)(h2:(dD bf row w).2=0):nN (cJ row) (fw bf w).1:=by
 have hr:=Ie hx;have hp:=uZ hr;obtain⟨hk,_,hn⟩:=QB hp h1;obtain⟨_,_,q⟩:=Fk hf hg hx;obtain⟨e1,_⟩:=q hk;rw[hn];rw[e1] at h h2;obtain⟨a1,a2,a3,a4,a5,a6⟩:=Js hf aQ;obtain⟨x,rest,rfl⟩:∃x rest,row=jP x::rest:=by
  match row,a6 with
  | v::rest,_ =>
   obtain⟨k,x,s⟩:=v;have e2:k=2:=a1;have E:s=⟨#[]⟩:=VA a2;exact⟨x,rest,by rw[e2,E];rfl⟩
 rw[a5];have h0:nN (dx [jP x]) ([],[]):=⟨by show Go.Lib.compareBytes [] (dx [jP x])≤0;cases dx [jP x]<;>simp[Go.Lib.compareBytes],.inl rfl⟩
 exact FF (a:=x) (rest:=rest) a3 _ w (gS bf (jP x::rest) w).1 ([],[]) (Nat.le_refl _) hr (fun o ho=>(hg o ho).ok) (Prod.ext rfl h2) ⟨by rw[h];rfl,by rw[h];rfl⟩ h0
noncomputable def yD(f u:K)(x:K×Int):Bool:=decide (¬bA x.1 f)&&(decide (u.length=0)||decide (¬bA u x.1))
theorem QC{t:aD}{n:Nat}(g:ic t n)(f u:K):lV t f u=(dQ t).filter (yD f u):=by
 by_cases h:u.length=0
 ·have e:=length_eq_zero_iff.1 h;subst e;rw[abS];unfold lU dQ;exact filter_congr fun x _=>by simp[yD]
 rw[abT g f u w4];exact filter_congr fun x _=>by simp[yD,h]
theorem aiT{x:K×Int}{b:jd}(h:nN x.1 b):yD b.1 b.2 x=true:=by
 have h1:¬bA x.1 b.1:=fun q=>by
  have q1:Go.Lib.compareBytes x.1 b.1<0:=q;have:=Bp b.1 x.1;have:=h.1;omega
 unfold yD;rw[decide_eq_true h1,Bool.true_and,Bool.or_eq_true,decide_eq_true_eq,decide_eq_true_eq];refine h.2.imp id fun h3 q=>?_;have q1:Go.Lib.compareBytes b.2 x.1<0:=q;have:=Bp b.2 x.1;omega
theorem Kj{t:aM}{w:List aJ}(hw:0<w.length):∀(l:List (K×Int)) (acc:List Int),(jR t w acc l).2=0→(jR t w acc l).1=acc++(l.filter fun x=>decide ((dD t.ay (rowAt t x.2) w).1.n=1)).map Prod.snd∧∀x∈l,(dD t.ay (rowAt t x.2) w).2=0
 | [],acc,_=>⟨by rw[jR];simp,fun x hx=>by cases hx⟩
 | x::l,acc,h=>by
  rw[jR,if_pos hw] at h ⊢;by_cases h1:(dD t.ay (rowAt t x.2) w).2≠0
  ·rw[if_pos h1] at h;exact absurd h h1
  rw[if_neg h1] at h ⊢;have hz:(dD t.ay (rowAt t x.2) w).2=0:=Decidable.not_not.1 h1;by_cases h2:(dD t.ay (rowAt t x.2) w).1.n≠1
  ·rw[if_pos h2] at h ⊢;obtain⟨e,a⟩:=Kj hw l acc h;refine⟨by rw[e,filter_cons,if_neg (by simpa using h2)],fun y hy=>?_⟩;rcases mem_cons.1 hy with rfl|hy
   ·exact hz
   exact a y hy
  rw[if_neg h2] at h ⊢;obtain⟨e,a⟩:=Kj hw l (acc++[x.2]) h;refine⟨by rw[e,filter_cons,if_pos (by simpa using h2),map_cons,append_assoc];rfl,fun y hy=>?_⟩;rcases mem_cons.1 hy with rfl|hy
  ·exact hz
  exact a y hy
theorem ack(hf:Pc.dB bf row=0){w:List aJ}(hg:∀o∈w,mN bf o)(hx:gz w=0)(h:(dD bf row w).2≠0):(dD bf row w).1=aV:=by
 obtain⟨q1,q2,E⟩:=Fk hf hg hx;rcases q1 with q1|q1
 ·obtain⟨e,_⟩:=E q1;rw[e] at h ⊢;unfold gS at h ⊢;rw[wA] at h ⊢;split
  ·rfl
  rename_i h2;rw[if_neg h2] at h;exact absurd rfl h
 rw[q2 q1]
theorem ahj{k:Int}{v:Vl}(h:jy k v)(hk:k=1∨k=0)(hn:v.n=1):v=vD:=by
 obtain⟨c,hv⟩:=h;obtain⟨k1,x,s⟩:=v;have E:x=1:=hn;subst E;have de:k1=1∨k1=0:=(by have I:k1=k∨k1=0:=hv;omega)
 unfold bW at c;rcases de with rfl|rfl
 ·have hs:s.size=0:=by
   repeat' split at c
   all_goals first|(cases c;done)|(simp_all;done)|skip
  rw[VA hs];rfl
 exfalso;repeat' split at c
 all_goals first|(cases c;done)|(simp_all;done)|skip
theorem aef{t:aM}{n:Nat}(g:eu t n){w:List aJ}(hg:∀o∈w,mN bf o)(hx:gz w=0)(h:(ax t w).2=0):(dr bf w).2=0∧(ax t w).1.map (rowAt t)=(mw t).filter fun r=>tD (dD bf r w).1 vD:=by
 have hp:=uZ (Ie hx);have hc:=g.ay;unfold ax at h ⊢;rw[hc] at h ⊢;by_cases hb:(fw bf w).2≠0
 ·rw[if_pos hb] at h;exact absurd h hb
 rw[if_neg hb] at h ⊢;have ng:(fw bf w).2=0:=Decidable.not_not.1 hb;obtain⟨hk,de,_⟩:=QB hp ng;refine⟨hk,?_⟩;obtain⟨e,a⟩:=Kj w4 _ _ h;rw[e,nil_append,QC g.ix,filter_filter,hc,map_map];unfold mw;rw[filter_map];have yf:((dQ t.ix).filter fun x=>decide ((dD bf (rowAt t x.2) w).1.n=1)&&yD (fw bf w).1.1 (fw bf w).1.2 x)=(dQ t.ix).filter ((fun r=>tD (dD bf r w).1 vD) ∘ fun x=>rowAt t x.2):=by
  refine filter_congr fun x I=>?_;have E:=g.iI x I;obtain⟨x0,x1,x2,x3⟩:=E;have hf:=afL g x I;have aQ:∀v∈rowAt t x.2,v.Ok:=(by rw[iz x1];exact(g.row _ x1 x2).2.1)
  have O:x.1=cJ (rowAt t x.2):=(by rw[iz x1];exact x3)
  show _=tD (dD bf (rowAt t x.2) w).1 vD;obtain⟨_,_,q3⟩:=Fk hf hg hx;obtain⟨_,q⟩:=q3 hk;cases hy:tD (dD bf (rowAt t x.2) w).1 vD with
  | true =>
   have Z:=JI.1 hy;have h2:(dD bf (rowAt t x.2) w).2=0:=Classical.byContradiction fun hne=>by
    have:=ack hf hg hx hne;rw[Z] at this;cases this
   have E:=afT hf aQ hg hx ng Z h2;rw[←O] at E;rw[aiT E,Z];rfl
  | false =>
   rw[Bool.and_eq_false_iff];cases hs:yD (fw bf w).1.1 (fw bf w).1.2 x with
   | false=>exact .inr rfl
   | true =>
    refine .inl (decide_eq_false fun hn=>?_);have U:x∈lV t.ix (fw bf w).1.1 (fw bf w).1.2:=(by rw[QC g.ix];exact mem_filter.2 ⟨I,hs⟩)
    have hz:=a x U;rw[hc] at hz;have hr:=(q.resolve_left w4).2;have:=ahj hr de hn;rw[JI.2 this] at hy;cases hy
 rw[yf];rfl

end Go.Proofs.YtdgichenhdikgaaGreatDoor.Ba
namespace Go.Proofs.YtdgichenhdikgaaGreatDoor.Ba
open List
open Go.Proofs.Tryz
open Go.RowKit V Pk Tr Vl Go.Proofs.YtdgichenhdikgaaGreatDoor.Nm Pc Cd Ex Tw
open Pa (cm bK jA gg jk fY iC ji gp fW dZ Ph)
variable {α:Type}
theorem U2{s:cm}(hg:jk s)(hk:s.kind=4)(hn:s.names.length≤6)(hw:s.aj.length≤15):gg s=0:=by
 unfold gg;rw[if_neg w4,if_neg (fun e=>e hg.2.2.2.2),if_neg];have h1:=Pa.Iw s.aj;have h2:=Pa.Ey s.names s.names.length;unfold Pa.qH;rw[if_neg w4,if_neg w4,if_neg w4,if_pos hk];have h3:(Pa.vm s).length≤12:=by
  unfold Pa.vm;split
  ·decide
  split
  ·decide
  omega
 have h4:(Pa.xC s).length≤4:=by
  unfold Pa.xC;split
  ·decide
  rw[length_append,length_map];split<;>simp
 have h5:(Pa.Ch s).length≤2:=by
  unfold Pa.Ch;split<;>simp
 unfold Pa.zB;simp only[length_append,length_map,length_cons,length_nil];omega
theorem Ew(w:List aJ)(hw:Pa.DX w):jk (n9 w):=(Pa.Pn (t:=⟨#[116]⟩) (by decide +kernel) (N:=[]) ⟨Nat.zero_le _,fun _ h=>by cases h⟩ (c:=false) (fun h=>by cases h) (o:=⟨#[]⟩) (.inl rfl) (d:=false) (fun _=>rfl) (m:=-1) ⟨by decide,by decide⟩).2 w hw (.inl (by show(4:Int)≤4;decide))

variable {G:List (Nat×List Value)} {m:Int}
open Classical in
noncomputable def pR(a b:α):Bool:=decide (a=b)
theorem EE{a b:α}(h:a=b):pR a b=true:=by unfold pR;simp[h]
theorem Jy{a b:α}(h:¬a=b):pR a b=false:=by unfold pR;simp[h]
theorem afU{a b:α}(h:pR a b=true):a=b:=by unfold pR at h;simpa using h
theorem aeg(a b:List Vl)(ha:a.length≤1000000)(hb:b.length≤1000000):VP Tryz.prog G 22 [av 3 cV a,av 3 cV b] (bJ (pR a b)):=by
 refine VC.body func22 rfl ntmps22 aO fun X0 w0 bg=>?_;have c8:=dR;refine af [0,1] ?_;refine af [0,1,10] ?_;refine aq ?_ ?_<;>intro aP bC
 ·exact V7
 have E:a.length=b.length:=(by simp at aP;omega)
 refine af [0,1,5] ?_;refine eA [0,1] (fun aX _ (i:Nat) aG=>(i≤a.length)∧(a.take i=b.take i)∧aG=(⟨26,(5,ae (i:Nat))::aX,[]⟩:St)) (fun (i:Nat)=>a.length-i) 0 ⟨(Nat.zero_le _),rfl,rfl⟩ ?_;rintro i _ ⟨hi,G8,rfl⟩;refine af [0,1,5,14] ?_;refine aq ?_ ?_<;>intro aZ cr
 ·have aa:i<a.length:=(by omega)
  have sK:i<b.length:=(by omega)
  refine cL [0,1,5,25] ?_;refine aS 8 ?_ (h:=by exact(Pv rfl ot ot eqGuardType41 (Go.Proofs.YtdgichenhdikgaaGreatDoor.Vl.FL _ _)));refine jb ?_;refine aq ?_ ?_<;>intro bX cA
  ·have hne:¬a[i]'aa=b[i]'sK:=fun e=>by rw[e] at bX;exact absurd bX bn
   have eS:pR a b=false:=Jy fun e=>hne (by subst e;rfl);refine af [4] ?_;exact z76
  have XP:a[i]'aa=b[i]'sK:=(by have h3:tD (a[i]'aa) (b[i]'sK)=true:=(by simpa[tD] using bX);exact JI.1 h3)
  exact XO
 exact z138
theorem SA(a b:List (List Vl))(ha:a.length≤1000000)(hb:b.length≤1000000)(E:∀r∈a,r.length≤1000000)(I:∀r∈b,r.length≤1000000):VP Tryz.prog G 15 [av 1 fG a,av 1 fG b] (bJ (pR a b)):=by
 refine VC.body func15 rfl ntmps15 aO fun X0 w0 bg=>?_;have c8:=dR;refine af [0,1] ?_;refine af [0,1,10] ?_;refine aq ?_ ?_<;>intro aP bC
 ·exact V7
 have O:a.length=b.length:=(by simp at aP;omega)
 refine af [0,1,5] ?_;refine eA [0,1] (fun aX _ (i:Nat) aG=>(i≤a.length)∧(a.take i=b.take i)∧aG=(⟨27,(5,ae (i:Nat))::aX,[]⟩:St)) (fun (i:Nat)=>a.length-i) 0 ⟨(Nat.zero_le _),rfl,rfl⟩ ?_;rintro i _ ⟨hi,G8,rfl⟩;refine af [0,1,5,14] ?_;refine aq ?_ ?_<;>intro aZ cr
 ·have aa:i<a.length:=(by omega)
  have sK:i<b.length:=(by omega)
  refine cz [0,1,5,26] (aeg (a[i]'aa) (b[i]'sK) (E _ (getElem_mem aa)) (I _ (getElem_mem sK))) ?_;refine aq ?_ ?_<;>intro bX cA
  ·have hne:¬a[i]'aa=b[i]'sK:=fun e=>by rw[EE e] at bX;cases bX
   have eS:pR a b=false:=Jy fun e=>hne (by subst e;rfl);refine af [4] ?_;exact z76
  have XP:a[i]'aa=b[i]'sK:=(by cases h3:pR (a[i]'aa) (b[i]'sK) with|false=>(rw[h3] at bX;cases bX)|true=>exact afU h3)
  exact XO
 exact z138

theorem aeh{t:aM}{n:Nat}(g:eu t n):∀r∈mw t,r.length≤1000000:=fun r hr=>by
 obtain⟨i,hi,rfl⟩:=mem_iff_getElem.1 hr;obtain⟨v,r,e,h,_⟩:=aaN g hi;rw[e,length_cons,h];decide

theorem Pr{p:α→Bool}{l:List α}{i:Nat}(hi:i<l.length):(l.take (i+1)).filter p=(l.take i).filter p++(if p l[i]=true then [l[i]] else []):=by
 rw[take_succ_eq_append_getElem hi,filter_append];congr 1;by_cases h:p l[i]=true
 ·rw[if_pos h];simp[h]
 rw[if_neg h];simp[h]
def vt(w:List aJ)(r:List Vl):Bool:=tD (dD bf r w).1 vD
theorem aei{t:aM}{n:Nat}(g:eu t n):∀r∈mw t,Pc.dB bf r=0∧∀v∈r,v.Ok:=fun r hr=>by
 obtain⟨i,hi,rfl⟩:=mem_iff_getElem.1 hr;obtain⟨_,e,h,_⟩:=Uj g hi;rw[e];exact Jt g h
theorem afV{l:List aM}{a c:Nat}(E:pU l a c)(h:l.map aM.nm=dZ)(h0:0<l.length){w:List aJ}(hw:Pa.DX w)(hl:w.length≤15)(hg:∀o∈w,mN bf o)(hx:gz w=0) :
  (∃e,mX l (n9 w)=([],(([],0),e))∧e≠0)∨(mX l (n9 w)=(l,(((mw l[0]).filter (vt w),(((mw l[0]).filter (vt w)).length:Int)),0))∧(dr bf w).2=0):=by
 have g:=E.g.tb _ (getElem_mem h0);rw[Uk h rfl rfl (U2 (Ew w hw) rfl (Nat.zero_le _) hl) h0,Ss g];by_cases he:(ax l[0] w).2≠0
 ·rw[if_pos he,if_pos he];exact .inl ⟨_,rfl,he⟩
 rw[if_neg he,if_neg (fun e=>e rfl)];obtain⟨k0,e⟩:=aef g hg hx (Decidable.not_not.1 he);have e2:(mw l[0]).filter (vt w)=(ax l[0] w).1.map (rowAt l[0]):=e.symm;rw[e2,length_map];exact .inr ⟨rfl,k0⟩
theorem acm{l:List aM}{a c:Nat}(E:pU l a c)(h:l.map aM.nm=dZ)(h0:0<l.length):mX l (n9 [])=(l,((mw l[0],((mw l[0]).length:Int)),0)):=by
 have g:=E.g.tb _ (getElem_mem h0);have hm:=Bv g;rw[Uk h rfl rfl (U2 (Ew [] Pa.Kh) rfl (Nat.zero_le _) (Nat.zero_le _)) h0,Ss g,hm,if_neg (fun e=>e rfl),if_neg (fun e=>e rfl),map_map,length_map];unfold mw;rw[length_map];rfl
theorem aiU{row:List Vl}(hf:Pc.dB bf row=0){w:List aJ}(hg:∀o∈w,mN bf o)(hx:gz w=0)(hk:(dr bf w).2=0):(dD bf row w).2=0∨(dD bf row w).2=5:=by
 obtain⟨_,_,q⟩:=Fk hf hg hx;rcases(q hk).2 with h|h
 ·exact .inr h
 exact .inl h.1
theorem ZY:(Tryz.prog.info? 28).map (fun i=>(i.zero,i.size,i.bytes))=some (some (.slice none 0 0),1,24):=by kernel_rfl
theorem Zo(hm:(3,marksC)∈G)(hw:(1,wordsC)∈G)(ht:(0,typesC)∈G)(hG:(2,[Value.int .i64 m])∈G)(ps:List Ph)(gX:∀p∈ps,p.Ok)(fK:ps.length≤maxLen)(t:Tw)(Db:t.Ok):VP Tryz.prog G 6 [.list 14 (ps.flatMap Ph.cs) ps.length,.agg t.cs] (bJ true):=by
 refine VC.body func6 rfl ntmps6 aO fun X0 w0 bg=>?_;have c8:=dR;obtain⟨tk,tn,ts,I⟩:=t;have hO:=Kx (G:=G) _ Db;have HN:=Rw 3 (Tw.mk tk tn ts I);have Y4:=Iz (Tw.mk tk tn ts I);have Y5:=Pa.Ki (Tw.mk tk tn ts I);have hlen:=(Iy (Tw.mk tk tn ts I)).2;generalize gQ 3 (Tw.mk tk tn ts I)=w at *;unfold Tw.cs at hO ⊢;refine bU ?_;refine OD.box (ds:=[_,_,_,_]) ap rfl rfl ot rfl rfl (fun b3=>?_);refine an 116 [0,3] ?_;refine aB 1 ?_;refine OD.call ap rfl rfl rfl call9 (afK hm hw ht hG ps gX fK) ⟨ot,trivial⟩ (eV _) ?_;rintro _ _ ⟨l,a,c,rfl,rfl,gn,Oq,O⟩;refine OD.alloc (ds:=[_]) ap rfl rfl zeroValue25 rfl (fun b5=>?_);refine aR 0 [_] sizeOf25 ?_;refine an 116 [3,5] ?_;refine cz [5,6] (hO) ?_;refine CD.seq ?_;have ir:=alV O;have HO:0<l.length:=(by omega)
 have hg0:=gn.g.tb _ (getElem_mem HO);have HP:=afC hm hw ht hG l gn.g ⟨#[116]⟩;rw[ahg (i:=0) (W0 O) HO] at HP;dsimp only at HP;have Ot:=ad9 hg0;have Gl:=aei hg0;have U:=aeh hg0;have Z:=afV gn O HO Y5 hlen HN Y4;have At:=acm gn O HO;have hr:=VC.GY (F7 hm hw ht hG gn Oq (s:=n9 w) (jk.st (Ew w Y5)) (by show ¬(4:Int)=2;decide) (fun _=>(show cG ⟨#[116]⟩=0 by decide +kernel)) (by show(4:Int)≤6;decide) (fun h=>by cases h)) (args':=[.agg [av 5 cY (l)],.agg [ae 4,bj ⟨#[116]⟩,bH,bH,bH,bJ false,av 5 cO w,fk,bJ false,ae (-1),fk,bH]]) ⟨dJ,BA ⟨dJ,dJ,eZ,eZ,eZ,dJ,dJ,dJ,dJ,dJ,dJ,eZ,trivial⟩,trivial⟩;have oS:=VC.GY (F7 hm hw ht hG gn Oq (s:=n9 []) (jk.st (Ew [] Pa.Kh)) (by show ¬(4:Int)=2;decide) (fun _=>(show cG ⟨#[116]⟩=0 by decide +kernel)) (by show(4:Int)≤6;decide) (fun h=>by cases h)) (args':=[.agg [av 5 cY (l)],.agg [ae 4,bj ⟨#[116]⟩,bH,bH,bH,bJ false,bH,fk,bJ false,ae (-1),fk,bH]]) ⟨dJ,BA ⟨dJ,dJ,eZ,eZ,eZ,dJ,eZ,dJ,dJ,dJ,dJ,eZ,trivial⟩,trivial⟩;rw[At] at oS;unfold AM at hr oS;dsimp only at oS;obtain⟨j7,W4⟩:∃j7,j7=mw l[0]:=⟨_,rfl⟩
 rw[←W4] at HP Ot Gl U oS Z;generalize mX l (n9 w)=RR at hr Z;obtain⟨X,⟨rs,k⟩,E⟩:=RR;dsimp only at hr;clear At W4;have vU:=SA (G:=G) j7 j7 (Nat.le_trans Ot w8) (Nat.le_trans Ot w8) U U;rw[EE rfl] at vU;refine ik [5,6,7,8] ?_;refine cH (HP) ?_;refine bI ?_;refine CD.seq ?_;refine NA 10 9 8 [5,6,7,8,9,10,33,34,35] ?_;refine cH (aea ⟨#[116]⟩ w) ?_;refine cH (hr) ?_;refine mg 4 ?_;refine og ?_;refine og ?_;refine jb ?_;refine⟨rfl,rfl,fun j8 b9=>?_⟩;refine aR 1 [_] sizeOf25 ?_;refine aR 0 [_,_] sizeOf36 ?_;refine an 116 [5,6,7,8,10,11] ?_;refine CD.seq ?_;refine NA 9 8 7 [5,6,7,8,10,11,12,13,40,41,42] ?_;refine cH (aci ⟨#[116]⟩) ?_;refine cH (oS) ?_;refine mg 4 ?_;refine og ?_;refine og ?_;refine jb ?_;refine⟨rfl,rfl,fun lJ tE=>?_⟩;refine aR 1 [_] sizeOf25 ?_;refine aR 0 [_,_] sizeOf36 ?_;refine an 116 [5,6,7,8,10,11,13,14] ?_;refine cz [5,6,7,10,11,62] (vU) ?_;refine aq ?_ ?_<;>intro aP bC
 ·exact zL
 refine af [5,6,7,10,64] ?_;refine aq ?_ ?_<;>intro aZ cr
 ·have hE:E≠0:=(by simpa using aZ)
  obtain⟨e,h1,_⟩:=Z.resolve_right (fun q=>by have:=congrArg (fun x=>x.2.2) q.1;exact hE this);simp only[Prod.mk.injEq] at h1;obtain⟨_,⟨rfl,rfl⟩,_⟩:=h1;refine af [4] ?_;refine aI [] ?_;refine⟨?_,rfl⟩;first|rfl|(rw[ir];rfl)|(simp;done)
 have hE:E=0:=(by simpa using aZ)
 obtain⟨h1,uC⟩:=Z.resolve_left (fun ⟨e,h1,h2⟩=>h2 ((congrArg (fun x=>x.2.2) h1).symm.trans hE));have Az:rs=j7.filter (vt w):=congrArg (fun x=>x.2.1.1) h1;clear Z h1;refine bU ?_;refine bq [5,6,7,10,15] ?_;refine af [5,6,7,10,15,16] ?_;refine eA [5,6,7,10] (fun aX _ (kK:Nat×List (List Vl)×Option Addr×Nat×List ah) aG=>match kK with|(i,acc,c9,cM,Sx)=>(i≤j7.length)∧(acc=((j7.take i).filter (vt w)))∧(bp 28 1 ((acc).flatMap fG) (acc).length c9 cM Sx)∧aG=(⟨116,(15,aN c9 (acc).length cM)::(16,ae (i:Nat))::aX,(⟨lJ,36,2,[av 1 fG j7,ae (j7.length:Nat)]⟩::⟨tE,25,1,[av 5 cY (l)]⟩::⟨j8,36,2,[av 1 fG rs,ae k]⟩::⟨b9,25,1,[av 5 cY (X)]⟩::⟨b5,25,1,[av 5 cY (l)]⟩::⟨b3,62,4,[ae tk,ae tn,bj ts,.list 4 (Tw.mi I) I.length]⟩::Sx)⟩:St)) (fun (kK:Nat×List (List Vl)×Option Addr×Nat×List ah)=>match kK with|(i,acc,c9,cM,Sx)=>j7.length-i) (0,([]:List (List Vl)),none,0,[]) ⟨(Nat.zero_le _),rfl,(bp.cast iy jS),rfl⟩ ?_;rintro⟨i,acc,c9,cM,Sx⟩ _ ⟨hi,nB,dN,rfl⟩;refine af [5,6,7,10,15,16,77] ?_;refine aq ?_ ?_<;>intro bX cA
 ·have aa:i<j7.length:=(by omega)
  have qh:acc.length≤i:=(by rw[nB];exact Nat.le_trans (length_filter_le _ _) (List.length_take_le _ _))
  have Ou:=Gl _ (getElem_mem aa);have ql:=JU (G:=G) hm hw ht bf w8 SB (j7[i]'aa) (by rw[oI Ou.1];decide) Ou.2 w (fun o ho=>(HN o ho).nm) (fun o ho=>(HN o ho).ok);unfold mE at ql;have Y6:=aiU Ou.1 HN Y4 uC;have GZ:vt w (j7[i]'aa)=tD (dD bf (j7[i]'aa) w).1 vD:=rfl;generalize dD bf (j7[i]'aa) w=EV at ql Y6 GZ;obtain⟨ev,ee⟩:=EV;simp only at ql Y6 GZ;unfold cV at ql;refine CD.skip ?_;refine CD.seq ?_;refine CD.block ?_;refine CD.seq ?_;refine td 11 10 [5,6,7,10,15,16,17,88,89] ?_;refine cH (IB) ?_;refine cH (ql) ?_;refine mg 3 ?_;refine og ?_;refine jb ?_;refine⟨rfl,fun b17=>?_⟩;refine aR 0 [_,_,_] sizeOf41 ?_;refine an 116 [5,6,7,10,15,16,17,18] ?_;refine aB 3 ?_;refine bP 92 (fun alW aiV=>?_) (fun alW aiV=>?_)
  ·refine bq [5,6,7,10,15,16,17,95] ?_;refine aq ?_ ?_<;>intro cN dW
   ·exact absurd cN (by first|(simp at cN;done)|(simp at *;omega))
   exact Xd
  refine bq [5,6,7,10,15,16,17,95] ?_;refine fJ ?_;exact Xd
 have sX:i=j7.length:=(by omega)
 rw[take_of_length_le w4,←Az] at nB;have Y7:∀r∈rs,r∈j7:=fun r h=>by rw[Az] at h;exact(mem_filter.1 h).1
 have aqV:rs.length≤j7.length:=(by rw[Az];exact length_filter_le _ _)
 subst nB;have Y8:=SA (G:=G) acc acc w4 w4 (fun r h=>U r (Y7 r h)) (fun r h=>U r (Y7 r h));rw[EE rfl] at Y8;refine aB 3 ?_;refine OD.gP (t:=108) (Sq:=Sx) lk dN (cn jJ _) (cZ (A:=[_,_,_,_,_,_])) ?_;refine dP call15 (Y8) ?_;refine an 116 [4] ?_;refine aI [] ?_;refine⟨?_,rfl⟩;first|rfl|(rw[ir];rfl)|(simp;done)
theorem walkSelectTrue(l:List Ph)(v:Value)(ok:(∀x∈l,x.Ok)∧l.length≤maxLen)(t:Tw)(E:Value)(I:t.Ok)(w:World)(h1:MarksTab w)(h2:WordsTab w)(h3:TypesTab w){m:Int}(hm:Tab.mM w 2 [Value.int .i64 m])(U:cg w (fun _=>False) (.list 14 (l.flatMap Ph.cs) l.length) v)(O:cg w (fun _=>False) (.agg t.cs) E):Calls Tryz.prog 6 #[v,E] w fun e w'=>e = .returned (.bool true)∧Below w.heap.size w w' :=
 (Zo (G:=AO m) tm1 tm2 tm3 tm4 l ok.1 ok.2 t I).ajc (alU h1 h2 h3 hm) (vs:=[v,E]) (cx.cons U (cx.cons O (cx.vs w _ [])))

end Go.Proofs.YtdgichenhdikgaaGreatDoor.Ba
