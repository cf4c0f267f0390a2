/-
  GN: walks and plain facts, part 3.
-/
import Derived.Test.YtomnenkeecbglaaGreatDoorPGN2
set_option linter.unusedVariables false
set_option linter.unusedSimpArgs false
set_option maxRecDepth 100000
set_option maxHeartbeats 4000000
namespace Go.Proofs.YtomnenkeecbglaaGreatDoor
open List
namespace V
open Go.RowKit
variable {P:Program} {C:cj} {G:List (Nat×List Value)} {Q:Exit->St->Prop} {x:St} {ops:Array Oper} {l:List Oper} {o:Oper}
variable {t e:TypeId} {cap sz n tt bytes:Nat} {k2 k3:IntKind} {y hi I:Operand} {ad:Option Addr} {Sq:List ak}
theorem GC {b len:Nat} (ho:o.op = .slice t y none (some hi) (some I)) (hy:aO x y = .v (.slice (some ⟨b,0,none⟩) len cap)) (E:aO x hi = .v (.int k2 n)) (eI:aO x I = .v (.int k3 n))
  (M:∀w,(underlying t).run P w = .ok (.slice e) w) (hs:∀w,(sizeOf e).run P w = .ok sz w) (O:n<=cap):bH P G x o .none (.v (.slice (some ⟨b,0,none⟩) n n)):=fun C a w _ h =>
 ⟨_,.v _,fun w' _=>by
  have U:∀w,(Instr.sliceBounds true len cap none (some (.int k2 n)) (some (.int k3 n))).run P w = .ok (0,n,n) w:=fun w=>by
   unfold Instr.sliceBounds;simp[xy,O]
  unfold execOp;simp only[ho,h.flat hy,h.flat E,h.flat eI,Instr.sliceAt,Instr.slice,M,Sem.run_bind,Result.andThen_ok,Option.map_some,Option.map_none,U,hs,Sem.run_pure];by_cases hc:n=0
  ·rw[if_pos hc];simp
  rw[if_neg hc];simp[Addr.add]⟩
theorem IZ(len cap n:Nat)(E:n<=cap)(w:World):(Instr.sliceBounds true len cap none (some (.int k2 n)) (some (.int k3 n))).run P w = .ok (0,n,n) w:=by
 unfold Instr.sliceBounds;simp[xy,E]
theorem Gf (ho:o.op = .slice t y none (some hi) (some I)) (hy:aO x y = .v (.slice none 0 0)) (E:aO x hi = .v (.int k2 n)) (eI:aO x I = .v (.int k3 n)) (hn:n=0)
  (M:∀w,(underlying t).run P w = .ok (.slice e) w) (hs:∀w,(sizeOf e).run P w = .ok sz w):bH P G x o .none (.v (.slice none 0 0)):=fun C a w _ h =>
 ⟨_,.v _,fun w' _=>by
  have O:=fun w=>IZ (P:=P) (k2:=k2) (k3:=k3) 0 0 n w7 w;unfold execOp;simp only[ho,h.flat hy,h.flat E,h.flat eI,Instr.sliceAt,Instr.slice,M,Sem.run_bind,Result.andThen_ok,Option.map_some,Option.map_none,O,hs,Sem.run_pure];subst hn;simp⟩
theorem Gg {s:Operand} {t e m b k:Nat} {z:Value} {B:ak} {cs:List D} (ho:o.op = .call {callee:=.builtin .append,args:=#[s,y],argTypes:=#[t,t]}) (hd:o.dst=some tt)
  (ht:P.underlying t=some (.slice e)) (hi:(P.info? e).map (fun i=>(i.zero,i.size,i.bytes))=some (some z,sz,bytes)) (dy:z.cells.size=sz) (jb:0<sz)
  (hs:aO x s = .v (.slice (some ⟨b,0,none⟩) n n)) (hk:x.S[k]?=some B) (hb:B.b=b) (hl:n*sz<=B.cs.length)
  (hy:aO x y = .list sz cs m) (Po:∀d∈cs,one d=true) (Pg:∀d∈B.cs.take (n*sz),one d=true) (hm:0<m) (Y:n+m<=maxLen) (JZ:(n+m)*bytes<=140737488355328) (hne:isMap B.e=false:=by rfl) (pI:isMap e=false:=by rfl) :
  e8 P G x o [] (fun y=>∃b' E,n+m<=E/\E<=maxLen/\y=⟨x.n,(tt,.v (.slice (some ⟨b',0,none⟩) (n+m) E))::x.env,⟨b',e,E*sz,B.cs.take (n*sz)++cs⟩::x.S⟩):=fun C a w K Q hG h hK=>by
 subst hb;obtain⟨i,lU,nI,Z,nJ⟩:=sw hi;obtain⟨r0,cur,r1,r2,r3,r4⟩:=h.eK hk;rw[jl hne] at r1;have hr:=h.eval y;rw[hy] at hr;generalize hg:a.eval y=u at hr;cases hr with
 | jv=>omega
 | list _ _ _ b' o' E f j5 q1 q2 jd hL hc N2 =>
  have LP:Builtin.nextslicecap (n+m) n*bytes<=281474976710656:=by
   have q1:=nextslicecap_le (need:=n+m) (old:=n) w7;have q2:=Nat.mul_le_mul_right bytes q1;rw[Nat.mul_assoc] at q2;omega
  have I:=Go.run_append_grow (P:=P) (w:=w) t o.type e i z ht lU nI ⟨B.b,0,none⟩ n n (cur.toList.take (n*sz)) (by rw[Z];simp;omega) (fun j v hv=>by
    have hj:=(List.getElem?_eq_some_iff.1 hv).1;rw[length_take] at hj;rw[getElem?_take_of_lt w7,Array.getElem?_toList] at hv;rw[Addr.add_mid,Nat.zero_add];exact ng r1 hv) ⟨b',o',none⟩ m E ((range cs.length).map f) (by rw[Z];simp[j5]) (fun j u hu=>by
    rw[Addr.add_mid];obtain⟨hj,he⟩:=List.getElem?_eq_some_iff.1 hu;simp only[length_map,length_range] at hj;rw[hc j hj,<-he];simp) w7 (by simp only[maxLen] at Y;omega) (by rw[nJ];exact LP)
  have h1:=grownCap_ge w (n+m) n e;have h2:=grownCap_le_maxLen w (n+m) n e Y;generalize grownCap w (n+m) n e=cp at I h1 h2;generalize M:(cur.toList.take (n*sz)).toArray++((range cs.length).map f).toArray++Builtin.zeroCells z.cells (cp-(n+m))=U at I;have wu:∀q,(Builtin.zeroCells z.cells q).size=q*sz:=fun q=>by simp[Builtin.zeroCells,dy]
  have aD:(cur.toList.take (n*sz)).length=n*sz:=(by rw[length_take];simp;omega)
  have sX:U.size=cp*sz:=by
   rw[<-M,Array.size_append,Array.size_append,wu];simp only[size_toArray,aD,length_map,length_range,j5,<-Nat.add_mul];congr 1;omega
  have Fk:(B.cs.take (n*sz)++cs).length=(n+m)*sz:=(by rw[length_append,length_take,j5,Nat.add_mul];omega)
  obtain⟨s1,s2,s3⟩:=h.grown (w':=w.drew.alloc (.cells U e)) (t:=tt) (m:=n+m) (e:=e) (sz:=sz) (S:=x.S) (cs:=B.cs.take (n*sz)++cs) (row:=none) (g:=w.heap.size) (cap:=cp) (cur:=U) (hne:=pI) (Sublist.refl _) (fun k hk=>by cases hk)
   ⟨rfl,rfl,rfl,by show w.heap.size<=(w.heap.push _).size;simp,fun k hk _=>getElem?_push_lt (w:=w.drew) hk⟩ (.inr rfl) (by show w.heap.size<(w.heap.push _).size;simp) (by show(w.heap.push _)[w.heap.size]?=_;simp) sX (by rw[Fk];exact Nat.mul_le_mul_right _ h1) (fun j hj=>by
    rw[Fk,Nat.add_mul] at hj;by_cases Aj:j<n*sz
    ·obtain⟨u,hu,hq⟩:=r4 j w7;refine⟨u,?_,?_⟩
     ·rw[<-M,Array.getElem?_append_left (by simp[aD];omega),Array.getElem?_append_left (by simp[aD];omega),getElem?_toArray,getElem?_take_of_lt Aj,Array.getElem?_toList,hu]
     rw[getElem_append_left (by rw[length_take];omega),getElem_take];exact hq
    have O:j-n*sz<cs.length:=(by omega)
    refine⟨f (j-n*sz),?_,?_⟩
    ·rw[<-M,Array.getElem?_append_left (by simp[aD];omega),Array.getElem?_append_right (by simp[aD];omega)];simp[aD,O]
    rw[getElem_append_right (by rw[length_take];omega)];have:=N2 (j-n*sz) O;have e1:(B.cs.take (n*sz)).length=n*sz:=(by rw[length_take];omega)
    simp only[e1];exact this)
  unfold Oper.wp;rw[uF (P:=P) ho (h.flat hs) hg I,Oper.upon_value,hd];exact hK _ _ _ ⟨_,_,h1,h2,rfl⟩ s1 s2 s3
theorem Gh {len:Nat} {cs:List D} (O:bV e sz cs len ad cap Sq) (ho:o.op = .slice t y none (some hi) (some I)) (hy:aO x y = .v (.slice ad len cap)) (E:aO x hi = .v (.int k2 n)) (eI:aO x I = .v (.int k3 n))
  (M:∀w,(underlying t).run P w = .ok (.slice e) w) (hs:∀w,(sizeOf e).run P w = .ok sz w) (hn:n<=len):bH P G x o .none (.v (.slice ad n n)):=by
 rcases O with ⟨rfl,rfl,rfl,rfl,rfl⟩|⟨b,rfl,h1,h2,rfl⟩
 ·have h:=Gf (P:=P) (G:=G) ho hy E eI w7 M hs;obtain rfl:n=0:=(by omega)
  exact h
 exact GC ho hy E eI M hs w7
theorem Gi {α:Type} {g:α->List D} {ls new:List α} {s:Operand} {t e:Nat} {z:Value} {R:List ak} (hg:∀a,(g a).length=sz) (hg1:∀a,(g a).all one=true) (hw:bS ops x o true) (ho:o.op = .call {callee:=.builtin .append,args:=#[s,y],argTypes:=#[t,t]}) (hd:o.dst=some tt)
  (ht:P.underlying t=some (.slice e)) (hi:(P.info? e).map (fun i=>(i.zero,i.size,i.bytes))=some (some z,sz,bytes)) (dy:z.cells.size=sz) (U:0<sz)
  (hs:aO x s = .v (.slice ad n n)) (hO:bV e sz (ls.flatMap g) ls.length ad cap Sq) (hp:x.S.Perm (Sq++R)) (hn:n<=ls.length)
  (hy:aO x y = .list sz (new.flatMap g) new.length) (hm:0<new.length) (Y:n+new.length<=maxLen) (I:(n+new.length)*bytes<=140737488355328)
  (K:∀O E,(ls.take n++new).length<=E->E<=maxLen->OD P C ops l ⟨x.n,(tt,.v (.slice (some ⟨O,0,none⟩) (ls.take n++new).length E))::x.env,⟨O,e,E*sz,(ls.take n++new).flatMap g⟩::R⟩ Q) (hne:isMap e=false:=by rfl):OD P C ops (o::l) x Q:=by
 have M:(ls.take n++new).length=n+new.length:=(by rw[length_append,length_take];omega)
 rcases hO with ⟨h1,h2,rfl,rfl,rfl⟩|⟨b,rfl,h1,h2,rfl⟩
 ·have Z:ls=[]:=length_eq_zero_iff.1 h1;subst Z;obtain rfl:n=0:=(by simpa using hn)
  refine fY (hne:=hne) (ls:=([]:List α)) (new:=new) (Sq:=[]) (R:=R) (ad:=none) (cap:=0) hg hg1 hw ho hd ht hi dy U hs (.inl ⟨rfl,rfl,rfl,rfl,rfl⟩) hp hy hm (by simpa using Y) (by simpa using I) ?_;intro O E q1 q2;exact K O E (by simpa using q1) q2
 refine aW hp ?_;refine OD.fh (fun C a w h=>hw C a w (Wk.perm hp.symm C a w h)) (Gg (hne:=hne) (pI:=hne) (k:=0) ho hd ht hi dy U hs rfl rfl (by rw[de hg];exact Nat.mul_le_mul_right _ hn) hy (sE hg1 new) (by rw[sn hg];exact sE hg1 _) hm Y I) ?_;rintro _ ⟨O,E,q1,q2,rfl⟩;have k:=K O E (by rw[M];exact q1) q2;rw[M,flatMap_append,<-sn hg] at k;exact bc (Wk.drop _ _ _ _ (Sublist.cons_cons _ (Sublist.cons _ (Sublist.refl _)))) k
variable {S1 T:List Nat} {aP i:Nat} {ld:Array Bool}
theorem F9 {α:Type} {g:α->List D} {ls new:List α} {s:Operand} {t e:Nat} {z:Value} {R:List ak} (hg:∀a,(g a).length=sz) (hg1:∀a,(g a).all one=true) (O:ops[i]?=some o) (hw:bS ops x o true) (ho:o.op = .call {callee:=.builtin .append,args:=#[s,y],argTypes:=#[t,t]}) (hd:o.dst=some tt)
  (ht:P.underlying t=some (.slice e)) (hi:(P.info? e).map (fun i=>(i.zero,i.size,i.bytes))=some (some z,sz,bytes)) (dy:z.cells.size=sz) (Y:0<sz) (hu:∀w,(underlying t).run P w = .ok (.slice e) w) (Z:∀w,(sizeOf e).run P w = .ok sz w)
  (hs:aO x s = .v (.slice ad ls.length cap)) (M:bV e sz (ls.flatMap g) ls.length ad cap Sq) (hp:x.S.Perm (Sq++R))
  (hy:aO x y = .list sz (new.flatMap g) new.length) (kH:ls.length+new.length<=maxLen) (I:(ls.length+new.length)*bytes<=140737488355328)
  (K:∀U E S',bV e sz ((ls++new).flatMap g) (ls++new).length U E S'->AD P C ops S1 T aP (ld.setIfInBounds i true) ⟨x.n,(tt,.v (.slice U (ls++new).length E))::x.env,S'++R⟩ Q) (hne:isMap e=false:=by rfl)
  (hT:∀b∈T,b∈aq R:=by (intro b hb;simp[aq] at hb |-;try first|exact hb|omega)):ea P C ops S1 T aP ld x Q i:=by
 rcases Nat.eq_zero_or_pos new.length with h0|h0
 ·have hn:new=[]:=eq_nil_of_length_eq_zero h0;subst hn;refine oW O hw hd (Bu ho hu Z hs M.le hy) ?_;have:=K ad cap Sq (by rw[append_nil];exact M);rw[append_nil] at this;exact gN hp this
 exact n6 (hne:=hne) (hT:=hT) hg hg1 O hw ho hd ht hi dy Y hs M hp hy h0 kH I fun b' E h1 h2=>K _ E _ (cU h1 h2)
end V
namespace V
abbrev ag(x:Int):D:=.v (.int .i64 x)
abbrev bD(b:Nat):D:=.v (.pointer (some ⟨b,0,none⟩))
abbrev ax:D:=.v (.slice none 0 0)
abbrev eu:D:=.v (.string ⟨#[]⟩)
abbrev az(a:Option Addr)(n c:Nat):D:=.v (.slice a n c)
abbrev bT(s:ByteArray):D:=.v (.string s)
abbrev bw(b:Bool):D:=.v (.bool b)
abbrev av{α:Type}(n:Nat)(g:α->List D)(l:List α):D:=.list n (l.flatMap g) l.length
theorem fU:maxLen=9223372036854775807:=rfl
open Go.RowKit V
instance Pp:Sl Tryz.prog 22 1:=⟨by kernel_rfl⟩
instance Pq:Sl Tryz.prog 24 1:=⟨by kernel_rfl⟩
instance Pr:Sl Tryz.prog 25 1:=⟨by kernel_rfl⟩
instance OS:Fo Tryz.prog 28 0 0:=⟨by kernel_rfl⟩
instance Ps:Sz Tryz.prog 28 1:=⟨by kernel_rfl⟩
instance OT:Fo Tryz.prog 30 0 0:=⟨by kernel_rfl⟩
instance OU:Fo Tryz.prog 30 1 1:=⟨by kernel_rfl⟩
instance OV:Fo Tryz.prog 30 2 2:=⟨by kernel_rfl⟩
instance Pt:Sz Tryz.prog 30 3:=⟨by kernel_rfl⟩
instance OW:Fo Tryz.prog 40 0 0:=⟨by kernel_rfl⟩
instance OX:Fo Tryz.prog 40 1 1:=⟨by kernel_rfl⟩
instance Pu:Sz Tryz.prog 40 4:=⟨by kernel_rfl⟩
instance Pv:Sb Tryz.prog 40 [.int .i64 0,.int .i64 0,.slice none 0 0,.int .i64 0] [(0,1),(1,1),(2,2)]:=⟨by kernel_rfl,by kernel_rfl⟩
instance OY:Fo Tryz.prog 49 0 0:=⟨by kernel_rfl⟩
instance OZ:Fo Tryz.prog 49 1 1:=⟨by kernel_rfl⟩
instance Pw:Sz Tryz.prog 49 2:=⟨by kernel_rfl⟩
instance Px:Sb Tryz.prog 49 [.slice none 0 0,.slice none 0 0] [(0,1),(1,1)]:=⟨by kernel_rfl,by kernel_rfl⟩
instance Py:Sl Tryz.prog 50 6:=⟨by kernel_rfl⟩
instance O0:Fo Tryz.prog 52 0 0:=⟨by kernel_rfl⟩
instance O1:Fo Tryz.prog 52 1 1:=⟨by kernel_rfl⟩
instance O2:Fo Tryz.prog 52 2 3:=⟨by kernel_rfl⟩
instance O3:Fo Tryz.prog 52 3 4:=⟨by kernel_rfl⟩
instance O4:Fo Tryz.prog 52 4 5:=⟨by kernel_rfl⟩
instance Pz:Sz Tryz.prog 52 8:=⟨by kernel_rfl⟩
instance PA:Sb Tryz.prog 52 [.slice none 0 0,.slice none 0 0,.slice none 0 0,.slice none 0 0,.int .i64 0,.slice none 0 0,.slice none 0 0,.slice none 0 0] [(0,1),(1,2),(3,1),(4,1),(5,3)]:=⟨by kernel_rfl,by kernel_rfl⟩
instance O5:Fo Tryz.prog 55 0 0:=⟨by kernel_rfl⟩
instance O6:Fo Tryz.prog 55 1 1:=⟨by kernel_rfl⟩
instance O7:Fo Tryz.prog 55 2 2:=⟨by kernel_rfl⟩
instance O8:Fo Tryz.prog 55 3 3:=⟨by kernel_rfl⟩
instance O9:Fo Tryz.prog 55 4 4:=⟨by kernel_rfl⟩
instance Pb:Fo Tryz.prog 55 5 5:=⟨by kernel_rfl⟩
instance PB:Sz Tryz.prog 55 6:=⟨by kernel_rfl⟩
instance PC:Sb Tryz.prog 55 [.slice none 0 0,.int .i64 0,.int .i64 0,.bool false,.bool false,.slice none 0 0] [(0,1),(1,1),(2,1),(3,1),(4,1),(5,1)]:=⟨by kernel_rfl,by kernel_rfl⟩
instance PF:Sl Tryz.prog 58 2:=⟨by kernel_rfl⟩
instance Pd:Fo Tryz.prog 70 0 0:=⟨by kernel_rfl⟩
instance PG:Sz Tryz.prog 70 12:=⟨by kernel_rfl⟩
instance PI:Sb Tryz.prog 70 [.int .i64 0,.string ⟨#[]⟩,.slice none 0 0,.slice none 0 0,.slice none 0 0,.bool false,.slice none 0 0,.string ⟨#[]⟩,.bool false,.int .i64 0,.string ⟨#[]⟩,.slice none 0 0] [(0,1),(1,1),(2,1),(3,1),(4,1),(5,1),(6,1),(7,1),(8,1),(9,1),(10,1),(11,1)]:=⟨by kernel_rfl,by kernel_rfl⟩
instance OP:Fo Tryz.prog 130 0 0:=⟨by kernel_rfl⟩
instance OQ:Fo Tryz.prog 130 1 1:=⟨by kernel_rfl⟩
instance Ph:Sz Tryz.prog 130 2:=⟨by kernel_rfl⟩
end V
namespace Pk
open Go.Proofs.Tryz
open Go.RowKit V
def jq(n m:Int):Int:=if n<0 then (-(n+1)).tmod m else n.tmod m
theorem BL(n:Int){m:Int}(h:1<=m):0<=jq n m/\jq n m<m:=by
 have E:∀k:Int,0<=k->0<=k.tmod m/\k.tmod m<m:=fun k hk=>⟨Int.tmod_nonneg _ hk,Int.tmod_lt_of_pos _ w7⟩
 unfold jq;split
 ·exact E _ w7
 exact E _ w7
variable (G:List (Nat×List Value))
theorem Hv(n m:Int)(hn:-9223372036854775808<=n)(I:n<=9223372036854775807)(hm:1<=m):VP Tryz.prog G 7 [ag n,ag m] (ag (jq n m)):=by
 refine cf func7 rfl ntmps7 aF fun O w0 M=>?_;refine bM [0,1] ?_;refine bM [0,1,6] ?_;refine c8 (fun aA E=>?_) (fun aA E=>?_)
 ·refine wm [0,1] ?_;refine fb 2 ?_ (h:=by exact(xP rfl ot (Df (r:=-(n+1)) (by rw[wrap_i64]<;>omega))));refine iC ?_;refine gY [4] ?_;refine fb 2 ?_ (h:=by exact(eX rfl ot ot (CQ w7)));refine iC ?_;refine ei [] ?_;exact⟨by unfold jq;split<;>first|rfl|omega,rfl⟩
 refine gY [4] ?_;refine fb 2 ?_ (h:=by exact(eX rfl ot ot (CQ w7)));refine iC ?_;refine ei [] ?_;exact⟨by unfold jq;split<;>first|rfl|omega,rfl⟩
end Pk
namespace Se
open Go.Proofs.Tryz
open Go.RowKit V Pk
section
variable {α:Type} {i j:Nat}
structure dP where
 sc:List ByteArray
 at_:Int
 fW:Int
 op:Bool
def cH(x:dP):List D:=[av 1 cS x.sc,ag x.at_,ag x.fW,bw x.op,bw false,ax]
theorem ko(x:dP):(cH x).length=6:=rfl
theorem I0(x:dP):(cH x).all V.one=true:=rfl
def eV:Option (Int×Int)->List D
 | none=>[.v (.slice none 0 0)]
 | some (t,e)=>[.list 4 [.v (.int .i64 t),.v (.int .i64 e),.v (.slice none 0 0),.v (.int .i64 0)] 1]
theorem qA(x:Option (Int×Int)):(eV x).length=1:=by cases x<;>rfl
theorem py{g:α->List D}(L:List α)(hi:i<L.length):L.flatMap g=(L.take i).flatMap g++(g L[i]++(L.drop (i+1)).flatMap g):=by
 conv=>lhs;rw[<-take_append_drop i L,drop_eq_getElem_cons hi]
 rw[flatMap_append,flatMap_cons]
theorem sy{g:α->List D}(L:List α)(hi:i<L.length)(a:α):(L.take i).flatMap g++(g a++(L.drop (i+1)).flatMap g)=(L.set i a).flatMap g:=by
 rw[set_eq_take_append_cons_drop,if_pos hi,flatMap_append,flatMap_cons]
theorem qI{g:α->List D}{sz:Nat}(hg:∀a,(g a).length=sz)(L:List α)(hi:i<L.length):((L.take i).flatMap g).length=0+i*sz:=by
 rw[de hg,length_take,Nat.min_eq_left (Nat.le_of_lt hi),Nat.zero_add]
section mid
variable {P:Program} {G:List (Nat×List Value)} {x:St} {o:Oper} {t b off:Nat} {y:Operand} {B:ak} {pre c post:List D} {d:D}
theorem J1(hp:pre.length=off)(hj:c[j]?=some d):(pre++(c++post))[off+j]?=some d:=by
 subst hp;rw[getElem?_append_right w7,Nat.add_sub_cancel_left,getElem?_append_left (List.getElem?_eq_some_iff.1 hj).1];exact hj
theorem oh{ds E:List D}(hp:pre.length=off)(hl:j+ds.length<=c.length)(hc:eR c j ds=E):eR (pre++(c++post)) (off+j) ds=pre++(E++post):=by
 subst hp hc;rw[xI _ _ _ hl,xI _ _ _ (by simp only[length_append];omega)];rw[take_append,take_of_length_le w7,Nat.add_sub_cancel_left,take_append_of_le_length w7,Nat.add_assoc,<-drop_drop (l:=pre++(c++post)),drop_left' rfl,drop_append_of_le_length w7];simp only[append_assoc]
theorem tX(k:Nat)(ho:o.op = .load t y:=by exact rfl)(hy:aO x y = .v (.pointer (some ⟨b,off+j,none⟩)):=by exact ot)(ha:mN P t false=true:=by kernel_rfl)(hk:x.S[k]?=some B:=by exact rfl)(hb:B.b=b:=by exact rfl)(cL:B.cs=pre++(c++post):=by exact rfl)(hp:pre.length=off:=by assumption)(hj:c[j]?=some d:=by exact rfl)(hne:isMap B.e=false:=by exact rfl):bH P G x o (.eK k) d :=
 uE (hne:=hne) ho hy hk hb (eE ha) (by rw[cL];exact J1 hp hj)
end mid
variable {G:List (Nat×List Value)}
def wz(x:Int×Int):List D:=[ag x.1,ag x.2,ax,ag 0]
theorem CX(x:Int×Int):(wz x).length=4:=rfl
theorem I1(x:Int×Int):(wz x).all V.one=true:=rfl
theorem G4:(Tryz.prog.info? 40).map (fun i=>(i.zero,i.size,i.bytes))=some (some (.agg #[.int .i64 0,.int .i64 0,.slice none 0 0,.int .i64 0]),4,48):=by kernel_rfl
theorem I2(g I br cs M i:Nat)(nx e:Int)(L:List dP)(R:List (Option (Int×Int)))(hi:i<L.length)(hr:i<R.length)(hn:R[i]=none)(ha:0<=L[i].at_/\L[i].at_<=20):VC Tryz.prog G 16 [bD g,ag i,.agg [ag 0,ag e,ax,ag 0]] [(⟨g,52,8,[ax,ax,ax,az (some ⟨I,0,none⟩) L.length cs,ag nx,az (some ⟨br,0,none⟩) R.length M,ax,ax]⟩:ak),(⟨I,55,cs*6,L.flatMap cH⟩:ak),(⟨br,41,M*1,R.flatMap eV⟩:ak)] (fun r S=>r = .dK []/\S=[(⟨g,52,8,[ax,ax,ax,az (some ⟨I,0,none⟩) L.length cs,ag nx,az (some ⟨br,0,none⟩) R.length M,ax,ax]⟩:ak),(⟨I,55,cs*6,(L.set i ⟨L[i].sc,L[i].at_+1,L[i].fW,L[i].op⟩).flatMap cH⟩:ak),(⟨br,41,M*1,(R.set i (some (L[i].fW,e))).flatMap eV⟩:ak)]):=by
 refine cf func16 rfl ntmps16 aF fun X0 w0 dm=>?_;have eI:=fU;have hp:=qI ko L hi;have O:=qI qA R hr;rw[py (g:=cH) L hi,py (g:=eV) R hr,hn];rw[show cH L[i]=([.list 1 (L[i].sc.flatMap cS) L[i].sc.length,ag L[i].at_,ag L[i].fW,bw L[i].op,bw false,ax]:List D) from rfl];rw[show eV none=([ax]:List D) from rfl];refine ah ?_;refine fI (ds:=[_,_,_,_]) ay rfl rfl ot rfl rfl (fun b5=>?_);refine da 43 [0,1,5] ?_;refine bM [0,1,5,6] ?_;refine dS 3 ?_;refine ae (tX 2) ?_;refine eU 1 ?_;refine bn 0 [_,_,_,_] sizeOf3 ?_;refine da 43 [0,1,5,6] ?_;refine aC ?_;refine AJ 17 (aq _) ?_ (fun _ h=>h);refine DT [0,1,2,3,4,5,6,7,8,9,10,11] ?_;refine aj 12 rfl (dW 1 (h:=by first|exact .l (j:=i) rfl hr|exact .r (j:=i) rfl hr)) ?_;refine aj 13 rfl (tX 3 (j:=0)) ?_;refine aj 14 rfl (cm (mk:=Op.load 40) rfl ot (by first|exact og (k:=0) (ds:=[_,_,_,_]) rfl rfl isAgg40 sizeOf40 rfl rfl|exact oq (ds:=[_,_,_,_]) isAgg40 sizeOf40 rfl rfl)) ?_;refine bt.later rfl ?_;refine aL (i:=15) af ?_;refine bA (aU 0 [_]) [.int .i64 0,.int .i64 0,.slice none 0 0,.int .i64 0] [_,_,_,_] zeroValue40 runUnderlying41 sizeOf40 (fun Ql=>?_);refine bz 0 33 4 1 ?_;refine aL (i:=16) af ?_;refine n6 (ls:=[]) (new:=[(L[i].fW,e)]) (Sq:=[]) CX I1 rfl ay rfl rfl underlying41 G4 rfl cc ot kT (cy (A:=[_,_,_,_])) ot cq iY iY (fun U E Y Z=>?_)
 refine gN (dj (S1:=[⟨U,40,E*4,flatMap wz ([]++[(L[i].fW,e)])⟩]) (A:=[_,_,_,_])) ?_;refine Ib (t:=34) (Sq:=[⟨U,40,E*4,flatMap wz ([]++[(L[i].fW,e)])⟩]) lk (cU Y Z) (de CX _) (cy (A:=[_,_,_,_])) ?_;refine tW ?_;refine eU 1 ?_;refine nf (k:=3) (cs':=_++(([.list 4 [ag L[i].fW,ag e,ax,ag 0] 1]:List D)++_)) ay rfl rfl ot rfl rfl pS rfl rfl sizeOf41 rfl (by show 0+i*1+0+1<=(_++(([ax]:List D)++_)).length;simp only[length_append,length_cons,length_nil,O];omega) (by exact oh (j:=0) O aF rfl) ?_;refine da 43 [6] ?_;refine lp 3 ?_;refine ae (tX 2) ?_;refine eU 3 ?_;refine nf (k:=2) (cs':=_++(([.list 1 (L[i].sc.flatMap cS) L[i].sc.length,ag (L[i].at_+1),ag L[i].fW,bw L[i].op,bw false,ax]:List D)++_)) ay rfl rfl ot rfl rfl pS rfl rfl sizeOf3 rfl (by show 0+i*6+1+1<=(_++(([.list 1 (L[i].sc.flatMap cS) L[i].sc.length,ag L[i].at_,ag L[i].fW,bw L[i].op,bw false,ax]:List D)++_)).length;simp only[length_append,length_cons,length_nil,hp];omega) (by exact oh (j:=1) hp aF rfl) ?_;refine da 43 [] ?_;refine ei [(⟨g,52,8,[ax,ax,ax,az (some ⟨I,0,none⟩) L.length cs,ag nx,az (some ⟨br,0,none⟩) R.length M,ax,ax]⟩:ak),(⟨I,55,cs*6,_⟩:ak),(⟨br,41,M*1,_⟩:ak)] ?_;refine⟨rfl,?_⟩;rw[<-sy (g:=cH) L hi,<-sy (g:=eV) R hr];rfl
theorem Ii(g E br cs M i O:Nat)(I:Int)(hx:0<=I/\I<=1000)(L:List dP)(hi:i<L.length):VC Tryz.prog G 18 [bD g,ag i] [(⟨g,52,8,[ax,ax,ax,az (some ⟨E,0,none⟩) L.length cs,ag I,az (some ⟨br,0,none⟩) O M,ax,ax]⟩:ak),(⟨E,55,cs*6,L.flatMap cH⟩:ak)] (fun r S=>r = .dK []/\S=[(⟨g,52,8,[ax,ax,ax,az (some ⟨E,0,none⟩) L.length cs,ag (I+1),az (some ⟨br,0,none⟩) O M,ax,ax]⟩:ak),(⟨E,55,cs*6,(L.set i ⟨L[i].sc,L[i].at_,I+1,L[i].op⟩).flatMap cH⟩:ak)]):=by
 refine cf func18 rfl ntmps18 aF fun Y w0 U=>?_;have eI:=fU;have hp:=qI ko L hi;rw[py (g:=cH) L hi];rw[show cH L[i]=([.list 1 (L[i].sc.flatMap cS) L[i].sc.length,ag L[i].at_,ag L[i].fW,bw L[i].op,bw false,ax]:List D) from rfl];refine dS 7 ?_;refine bn 0 [_,_,_,_,_,_,_,_] sizeOf3 ?_;refine da 22 [0,1] ?_;refine Fh 9 [14,15,19] ?_;refine iC ?_;refine eU 2 ?_;refine nf (k:=1) (cs':=_++(([.list 1 (L[i].sc.flatMap cS) L[i].sc.length,ag L[i].at_,ag (I+1),bw L[i].op,bw false,ax]:List D)++_)) ay rfl rfl ot rfl rfl pS rfl rfl sizeOf3 rfl Ex (by exact oh (j:=2) hp aF rfl) ?_;refine da 22 [] ?_;refine ei [(⟨g,52,8,[ax,ax,ax,az (some ⟨E,0,none⟩) L.length cs,ag _,az (some ⟨br,0,none⟩) O M,ax,ax]⟩:ak),(⟨E,55,cs*6,_⟩:ak)] ?_;refine⟨rfl,?_⟩;rw[<-sy (g:=cH) L hi];rfl
end
variable {G:List (Nat×List Value)}
theorem G5{P:Program}{t e:TypeId}(ht:P.underlying t=some (.slice e)):ij P .eql t (.slice none 0 0) (.slice none 0 0) (.bool true):=fun y z w=>by
 have E:binOp .eql t (.slice none 0 0) (.slice none 0 0)=(do pure (.bool (<-Op.equal t (.slice none 0 0) (.slice none 0 0)))):=rfl;simp only[eqGuard,E,Sem.run_bind];simp[run_equal_slice_nil w t e none 0 0 ht]
theorem uS(f:Fn)(cQ:List D):VP Tryz.prog G 156 [ax,.dQ f cQ] (ag (-1)):=by
 refine cf func156 rfl ntmps156 aF fun U w0 O=>?_;refine bM [0,1] ?_;refine bM [0,1,7,8] ?_;refine gK [0,1,7] (fun I _ (i:Nat) M=>(i=0)/\M=(⟨19,(8,ag (i:Nat))::I,[]⟩:St)) (fun (i:Nat)=>0) 0 ⟨rfl,rfl⟩ ?_;rintro i _ ⟨hi,rfl⟩;refine bM [0,1,7,8,9] ?_;refine c8 (fun aA E=>?_) (fun aA E=>?_)
 ·exact absurd aA (by subst hi;simp at aA)
 refine bM [4] ?_;refine ei [] ?_;exact⟨by first|rfl|(simp[*];done),rfl⟩
theorem uD(f:Fn)(cQ:List D):VP Tryz.prog G 148 [ax,.dQ f cQ] (bw false):=by
 refine cf func148 rfl ntmps148 aF fun I w0 E=>?_;refine bM [0,1] ?_;refine mQ [4] (uS f cQ) ?_;refine ei [] ?_;exact⟨by simp,rfl⟩
theorem pn:VP Tryz.prog G 104 [.agg [ax,ax]] (ag 0):=by
 refine cf func104 rfl ntmps104 aF fun X0 w0 dm=>?_;refine ah ?_;refine fI (ds:=[_,_]) ay rfl rfl ot rfl rfl (fun Z=>?_);refine da 104 [1] ?_;refine bM [1,15] ?_;refine c8 (fun aA U=>?_) (fun aA U=>?_)
 ·exact absurd aA (by simp at aA)
 refine mQ [1,18] (uD _ _) ?_;refine c8 (fun aG Y=>?_) (fun aG Y=>?_)
 ·exact absurd aG (by cases aG)
 refine bM [1,20,21,22] ?_;refine gK [1,20,21] (fun E _ (i:Nat) I=>(i=0)/\I=(⟨104,(22,ag (i:Nat))::E,[⟨Z,49,2,[ax,ax]⟩]⟩:St)) (fun (i:Nat)=>0) 0 ⟨rfl,rfl⟩ ?_;rintro i _ ⟨hi,rfl⟩;refine bM [1,20,21,22,23] ?_;refine c8 (fun M aX=>?_) (fun M aX=>?_)
 ·exact absurd M (by subst hi;simp at M)
 refine bM [1,46,47,48] ?_;refine gK [1,46,47] (fun E _ (j:Nat) I=>(j=0)/\I=(⟨104,(48,ag (j:Nat))::E,[⟨Z,49,2,[ax,ax]⟩]⟩:St)) (fun (j:Nat)=>0) 0 ⟨rfl,rfl⟩ ?_;rintro j _ ⟨hj,rfl⟩;refine bM [1,46,47,48,49] ?_;refine c8 (fun O bQ=>?_) (fun O bQ=>?_)
 ·exact absurd O (by subst hj;simp at O)
 refine bM [2] ?_;refine ei [] ?_;exact⟨by first|rfl|(simp[*];done),rfl⟩
theorem Ck:VP Tryz.prog G 176 [ax] (ax):=by
 refine cf func176 rfl ntmps176 aF fun M w0 I=>?_;refine bM [0] ?_;refine gY [0,4] ?_;refine fb 1 ?_ (h:=by exact(eX rfl ot aN (G5 underlying47)));refine mP ?_;refine c8 (fun aA E=>?_) (fun aA E=>?_)
 ·refine bM [2] ?_;refine ei [] ?_;exact⟨by first|rfl|(simp[*];done),rfl⟩
 exact absurd aA (by cases aA)
theorem vg:VP Tryz.prog G 106 [.agg [ax,ax]] (.agg [ax,ax]):=by
 refine cf func106 rfl ntmps106 aF fun I w0 E=>?_;refine ah ?_;refine fI (ds:=[_,_]) ay rfl rfl ot rfl rfl (fun M=>?_);refine eo (ds:=[_,_]) ay rfl rfl zeroValue49 rfl (fun O=>?_);refine da 10 [1,2] ?_;refine aC ?_;refine Fh 7 [2,9] ?_;refine qb (Ck) ?_;refine qb (Ck) ?_;refine iC ?_;refine bn 0 [_,_] sizeOf49 ?_;refine da 10 [2] ?_;refine ei [] ?_;exact⟨rfl,rfl⟩
theorem qm(f:Fn)(cQ:List D):VP Tryz.prog G 107 [ax,.dQ f cQ] (ax):=by
 refine cf func107 rfl ntmps107 aF fun M w0 I=>?_;refine bM [0,1] ?_;refine mQ [0,1,5] (uS f cQ) ?_;refine bM [0,1,5,12] ?_;refine c8 (fun aA E=>?_) (fun aA E=>?_)
 ·refine bM [4] ?_;refine ei [] ?_;exact⟨rfl,rfl⟩
 exact absurd aA (by simp at aA)
theorem Hw(t:Int)(h1:1<=t)(h2:t<=1000):VP Tryz.prog G 64 [.agg [ax,ax],ag t] (.dK [.agg [ax,ax],ax,ag 0]):=by
 refine cf func64 rfl ntmps64 aF fun X0 w0 dm=>?_;refine ah ?_;refine fI (ds:=[_,_]) ay rfl rfl ot rfl rfl (fun b2=>?_);refine fI (ds:=[_]) ay rfl rfl ot rfl rfl (fun b3=>?_);refine eo (ds:=[_,_]) ay rfl rfl zeroValue49 rfl (fun b4=>?_);refine da 72 [2,3,4] ?_;refine mQ [2,3,4,7] (pn) ?_;refine bM [2,3,4,7,16] ?_;refine c8 (fun aA Y=>?_) (fun aA Y=>?_)
 ·exact absurd aA (by simp at aA)
 refine dS 3 ?_;refine jg 21 (fun I U=>?_) (fun I U=>?_)
 ·exact absurd I (by simp at I;omega)
 refine kK [2,3,4,24] ?_;refine c8 (fun aG Z=>?_) (fun aG Z=>?_)
 ·exact absurd aG rA
 refine gY [2,4,8] ?_;refine fb 0 ?_ (h:=by exact(si (ds:=[_]) rfl ⟨ot,trivial⟩));refine iC ?_;refine dS 1 ?_;refine bU call106 (vg) ?_;refine eo (ds:=[_,_]) ay rfl rfl zeroValue49 rfl (fun b9=>?_);refine bn 0 [_,_] sizeOf49 ?_;refine da 72 [4,8,9] ?_;refine aC ?_;refine AJ 10 (aq (take 0 _)) ?_ (fun _ h=>(Sublist.map _ (take_sublist _ _)).subset h);refine DT [0,2,4,6] ?_;refine bt.later rfl ?_;refine dY (i:=1) (j:=5) af ?_ ?_
 ·refine at_ rfl (aH 0) ?_;refine dY (i:=3) (j:=5) af ?_ ?_
  ·refine bY call107 (qm _ _) ?_;refine aL (i:=5) af ?_;refine at_ rfl (aH 0) ?_;refine aL (i:=7) af ?_;refine bY call107 (qm _ _) ?_;refine bR 8 rfl (aB 0) ?_;refine aL (i:=9) af ?_;refine aR 0 [_,_] sizeOf47 ?_;refine tW ?_;refine eU 1 ?_;refine bn 0 [_,_] sizeOf47 ?_;refine da 72 [4,9] ?_;refine bM [4,9,10] ?_;refine bM [4,9,10,11] ?_;refine gK [4,9] (fun M _ (i:Nat) O=>(i=0)/\O=(⟨72,(10,ax)::(11,ag (i:Nat))::M,[⟨b9,49,2,[ax,ax]⟩,⟨b4,49,2,[ax,ax]⟩]⟩:St)) (fun (i:Nat)=>0) 0 ⟨rfl,rfl⟩ ?_;rintro i _ ⟨hi,rfl⟩;refine bM [4,9,10,11,43] ?_;refine c8 (fun E aX=>?_) (fun E aX=>?_)
   ·exact absurd E (by subst hi;simp at E)
   refine dS 1 ?_;refine bU call106 (vg) ?_;refine eU 1 ?_;refine bn 1 [_,_] sizeOf49 ?_;refine da 72 [4,5,6] ?_;refine ei [] ?_;exact⟨rfl,rfl⟩
  refine at_ rfl (aH 0) ?_;refine aL (i:=3) af ?_;refine bY call107 (qm _ _) ?_;refine aL (i:=7) af ?_;refine bY call107 (qm _ _) ?_;refine bR 8 rfl (aB 0) ?_;refine aL (i:=9) af ?_;refine aR 0 [_,_] sizeOf47 ?_;refine tW ?_;refine eU 1 ?_;refine bn 0 [_,_] sizeOf47 ?_;refine da 72 [4,9] ?_;refine bM [4,9,10] ?_;refine bM [4,9,10,11] ?_;refine gK [4,9] (fun M _ (i:Nat) O=>(i=0)/\O=(⟨72,(10,ax)::(11,ag (i:Nat))::M,[⟨b9,49,2,[ax,ax]⟩,⟨b4,49,2,[ax,ax]⟩]⟩:St)) (fun (i:Nat)=>0) 0 ⟨rfl,rfl⟩ ?_;rintro i _ ⟨hi,rfl⟩;refine bM [4,9,10,11,43] ?_;refine c8 (fun E aX=>?_) (fun E aX=>?_)
  ·exact absurd E (by subst hi;simp at E)
  refine dS 1 ?_;refine bU call106 (vg) ?_;refine eU 1 ?_;refine bn 1 [_,_] sizeOf49 ?_;refine da 72 [4,5,6] ?_;refine ei [] ?_;exact⟨rfl,rfl⟩
 refine at_ rfl (aH 0) ?_;refine aL (i:=1) af ?_;refine at_ rfl (aH 0) ?_;refine aL (i:=3) af ?_;refine bY call107 (qm _ _) ?_;refine aL (i:=7) af ?_;refine bY call107 (qm _ _) ?_;refine bR 8 rfl (aB 0) ?_;refine aL (i:=9) af ?_;refine aR 0 [_,_] sizeOf47 ?_;refine tW ?_;refine eU 1 ?_;refine bn 0 [_,_] sizeOf47 ?_;refine da 72 [4,9] ?_;refine bM [4,9,10] ?_;refine bM [4,9,10,11] ?_;refine gK [4,9] (fun M _ (i:Nat) O=>(i=0)/\O=(⟨72,(10,ax)::(11,ag (i:Nat))::M,[⟨b9,49,2,[ax,ax]⟩,⟨b4,49,2,[ax,ax]⟩]⟩:St)) (fun (i:Nat)=>0) 0 ⟨rfl,rfl⟩ ?_;rintro i _ ⟨hi,rfl⟩;refine bM [4,9,10,11,43] ?_;refine c8 (fun E aX=>?_) (fun E aX=>?_)
 ·exact absurd E (by subst hi;simp at E)
 refine dS 1 ?_;refine bU call106 (vg) ?_;refine eU 1 ?_;refine bn 1 [_,_] sizeOf49 ?_;refine da 72 [4,5,6] ?_;refine ei [] ?_;exact⟨rfl,rfl⟩
theorem Hx(t:Int):VP Tryz.prog G 111 [ax,ag t] (ag (-1)):=by
 refine cf func111 rfl ntmps111 aF fun U w0 O=>?_;refine bM [0,1] ?_;refine bM [0,1,7,8] ?_;refine gK [0,1,7] (fun I _ (i:Nat) M=>(i=0)/\M=(⟨19,(8,ag (i:Nat))::I,[]⟩:St)) (fun (i:Nat)=>0) 0 ⟨rfl,rfl⟩ ?_;rintro i _ ⟨hi,rfl⟩;refine bM [0,1,7,8,9] ?_;refine c8 (fun aA E=>?_) (fun aA E=>?_)
 ·exact absurd aA (by subst hi;simp at aA)
 refine bM [4] ?_;refine ei [] ?_;exact⟨by first|rfl|(simp[*];done),rfl⟩
theorem GD(t:Int):VP Tryz.prog G 65 [ax,ag t] (bw false):=by
 refine cf func65 rfl ntmps65 aF fun I w0 E=>?_;refine bM [0,1] ?_;refine mQ [4] (Hx t) ?_;refine ei [] ?_;exact⟨by simp,rfl⟩
theorem Ij(g E br cs U i Y:Nat)(Z:Int)(L:List dP)(hi:i<L.length)(ht:1<=L[i].fW/\L[i].fW<=1000)(Fl:L.length<=1000):VC Tryz.prog G 36 [bD g,ag i] [(⟨g,52,8,[ax,ax,ax,az (some ⟨E,0,none⟩) L.length cs,ag Z,az (some ⟨br,0,none⟩) Y U,ax,ax]⟩:ak),(⟨E,55,cs*6,L.flatMap cH⟩:ak)] (fun r S=>r = .dK []/\S=[(⟨g,52,8,[ax,ax,ax,az (some ⟨E,0,none⟩) L.length cs,ag Z,az (some ⟨br,0,none⟩) Y U,ax,ax]⟩:ak),(⟨E,55,cs*6,(L.set i (⟨L[i].sc,L[i].at_,0,false⟩:dP)).flatMap cH⟩:ak)]):=by
 refine cf func36 rfl ntmps36 aF fun X0 w0 dm=>?_;have eI:=fU;have hp:=qI ko L hi;rw[py (g:=cH) L hi];rw[show cH L[i]=([.list 1 (L[i].sc.flatMap cS) L[i].sc.length,ag L[i].at_,ag L[i].fW,bw L[i].op,bw false,ax]:List D) from rfl];refine bM [0,4] ?_;refine aC ?_;refine Fi 14 13 [0,4,5,25,26,27] ?_;refine fb 7 ?_ (h:=by exact(tX 1));refine qb (Hw L[i].fW ht.1 ht.2) ?_;refine AE 4 ?_;refine Fj ?_;refine mP ?_;refine⟨rfl,fun b5=>?_⟩;refine bn 0 [_,_] sizeOf49 ?_;refine da 70 [0,4,5,6] ?_;refine dS 4 ?_;refine bn 1 [_,_,_,_,_,_,_,_] sizeOf49 ?_;refine da 70 [0,4,6] ?_;refine dS 6 ?_;refine nf (k:=2) (cs':=_++(([.list 1 (L[i].sc.flatMap cS) L[i].sc.length,ag L[i].at_,ag 0,bw L[i].op,bw false,ax]:List D)++_)) ay rfl rfl ot rfl rfl pS rfl rfl sizeOf3 rfl Ex (by exact oh (j:=2) hp aF rfl) ?_;refine eU 2 ?_;refine nf (k:=2) (cs':=_++(([.list 1 (L[i].sc.flatMap cS) L[i].sc.length,ag L[i].at_,ag 0,bw false,bw false,ax]:List D)++_)) ay rfl rfl ot rfl rfl pS rfl rfl sizeOf4 rfl (by show 0+i*6+3+1<=(_++(([.list 1 (L[i].sc.flatMap cS) L[i].sc.length,ag L[i].at_,ag 0,bw L[i].op,bw false,ax]:List D)++_)).length;simp only[length_append,length_cons,length_nil,hp];omega) (by exact oh (j:=3) hp aF rfl) ?_;refine eU 2 ?_
 refine nf (k:=2) (cs':=_++(([.list 1 (L[i].sc.flatMap cS) L[i].sc.length,ag L[i].at_,ag 0,bw false,bw false,ax]:List D)++_)) ay rfl rfl ot rfl rfl pS rfl rfl sizeOf4 rfl (by show 0+i*6+4+1<=(_++(([.list 1 (L[i].sc.flatMap cS) L[i].sc.length,ag L[i].at_,ag 0,bw false,bw false,ax]:List D)++_)).length;simp only[length_append,length_cons,length_nil,hp];omega) (by exact oh (j:=4) hp aF rfl) ?_;refine eU 2 ?_;refine nf (k:=2) (cs':=_++(([.list 1 (L[i].sc.flatMap cS) L[i].sc.length,ag L[i].at_,ag 0,bw false,bw false,ax]:List D)++_)) ay rfl rfl ot rfl rfl pS rfl rfl sizeOf53 rfl (by show 0+i*6+5+1<=(_++(([.list 1 (L[i].sc.flatMap cS) L[i].sc.length,ag L[i].at_,ag 0,bw false,bw false,ax]:List D)++_)).length;simp only[length_append,length_cons,length_nil,hp];omega) (by exact oh (j:=5) hp aF rfl) ?_;refine da 70 [0,6] ?_;refine aC ?_;have gz:(L.set i (⟨L[i].sc,L[i].at_,0,false⟩:dP)).length=L.length:=length_set;rw[show((L.take i).flatMap cH++(([.list 1 (L[i].sc.flatMap cS) L[i].sc.length,ag L[i].at_,ag 0,bw false,bw false,ax]:List D)++(L.drop (i+1)).flatMap cH))=(L.set i (⟨L[i].sc,L[i].at_,0,false⟩:dP)).flatMap cH from sy (g:=cH) L hi ⟨L[i].sc,L[i].at_,0,false⟩];generalize (L.set i (⟨L[i].sc,L[i].at_,0,false⟩:dP))=M at gz |-;refine lq [0,6,48,49] ?_
 refine gK [0,6,48] (fun kN _ (k:Nat) cn=>(k<=M.length)/\cn=(⟨70,(49,ag (k:Nat))::kN,[(⟨g,52,8,[ax,ax,ax,az (some ⟨E,0,none⟩) L.length cs,ag Z,az (some ⟨br,0,none⟩) Y U,ax,ax]⟩:ak),(⟨E,55,cs*6,M.flatMap cH⟩:ak)]⟩:St)) (fun (k:Nat)=>M.length-k) 0 ⟨(Nat.zero_le _),rfl⟩ ?_;rintro k _ ⟨hk,rfl⟩;refine bM [0,6,48,49,50] ?_;refine c8 (fun aA I=>?_) (fun aA I=>?_)
 ·have tQ:k<M.length:=(by omega)
  have PJ:k<L.length:=(by omega)
  refine bM [0,6,8,48,49] ?_;refine gY [0,6,8,48,49,61] ?_;refine fb 8 ?_ (h:=by exact(cm (mk:=Op.load 3) rfl ot (lF (k:=1) ko rfl rfl rfl isAgg3 tQ rfl)));refine qb (GD _) ?_;refine mP ?_;refine c8 (fun aG O=>?_) (fun aG O=>?_)
  ·exact absurd aG (by cases aG)
  refine lq [0,6,48,49] ?_;refine⟨(k+1),_,lu,kL,w7,rfl⟩
 refine ei [(⟨g,52,8,[ax,ax,ax,az (some ⟨E,0,none⟩) L.length cs,ag Z,az (some ⟨br,0,none⟩) Y U,ax,ax]⟩:ak),(⟨E,55,cs*6,_⟩:ak)] ?_;exact⟨rfl,rfl⟩
def DV(_:Unit):List D:=[ag 0,ag 0]
theorem Ik(y:Unit):eT (DV y)=true:=rfl
def DA:D:=.dQ (.func 55) [.dG [ax] 0]
theorem Il:VI Tryz.prog G 55 [.dG [ax] 0] DV (fun xs=>xs=[]) (fun _=>False) 0:=by
 refine VI.body func55 rfl ntmps55 aF fun Y X0 w0 dm I Qm Qn Qo hY M=>?_;refine bM [0,1,3] ?_;refine gK [0,1] (fun O U (i:Int) Z=>(i = -1)/\Z=(⟨19,(3,ag i)::O,U⟩:St)) (fun (i:Int)=>0) (-1) ⟨rfl,rfl⟩ ?_;rintro i _ ⟨hi,rfl⟩;refine bM [0,1,3,8] ?_;refine c8 (fun aA E=>?_) (fun aA E=>?_)
 ·exact absurd aA (by subst hi;simp at aA)
 refine ep ?_;refine⟨.inl rfl,⟨_,eM results55⟩,(show 0<19 by decide),I,Sublist.refl _,?_⟩;exact .inl ⟨[],rfl,M,lk⟩
theorem KU:VC Tryz.prog G 31 [ax] [] (fun r S=>∃E,r = .dQ (.func 55) [bD E]/\S=[⟨E,53,1,[ax]⟩]):=by
 refine cf func31 rfl ntmps31 aF fun M w0 I=>?_;refine ah ?_;refine fI (ds:=[_]) ay rfl rfl ot rfl rfl (fun E=>?_);refine da 4 [1] ?_;refine gY [2] ?_;refine fb 0 ?_ (h:=by exact(si (ds:=[_]) rfl ⟨ot,trivial⟩));refine iC ?_;refine ei [_] ?_;exact⟨_,rfl,rfl⟩
theorem KV:VP Tryz.prog G 31 [ax] DA:=VC.cover KU fun r S ⟨E,hr,hS⟩=>by
 subst hr;subst hS;exact Ci ⟨Ch (e:=53) (size:=1) mem_cons_self kv.same,trivial⟩
theorem CY(x:dP):eT (cH x)=true:=by simp[cH,eT,jf,u5 (g:=cS) (fun _=>rfl)]
theorem N3{g I br M cs O U:Nat}{Y:Int}{L:List dP}{B:ak}(E:B∈[(⟨M,46,1,[bD g]⟩:ak),(⟨g,52,8,[ax,ax,ax,az (some ⟨I,0,none⟩) L.length cs,ag Y,az (some ⟨br,0,none⟩) U O,ax,ax]⟩:ak),(⟨I,55,cs*6,L.flatMap cH⟩:ak)]):eT B.cs=true:=by
 rcases mem_cons.1 E with rfl|E
 ·rfl
 rcases mem_cons.1 E with rfl|E
 ·rfl
 rw[mem_singleton] at E;subst E;exact u5 CY L
theorem LR{g I br M cs O U n:Nat}{Y:Int}{L:List dP}{B:ak}(E:B∈[(⟨g,52,8,[ax,ax,ax,az (some ⟨I,0,none⟩) n cs,ag Y,az (some ⟨br,0,none⟩) U O,ax,ax]⟩:ak),(⟨I,55,cs*6,L.flatMap cH⟩:ak),(⟨M,46,1,[bD g]⟩:ak)]):eT B.cs=true:=by
 rcases mem_cons.1 E with rfl|E
 ·rfl
 rcases mem_cons.1 E with rfl|E
 ·exact u5 CY L
 rw[mem_singleton] at E;subst E;rfl
theorem I3(g E br cs I i M:Nat)(O:Int)(L:List dP)(hi:i<L.length)(ht:1<=L[i].fW/\L[i].fW<=1000)(Fl:L.length<=1000):VC Tryz.prog G 14 [bD g,ag i] [(⟨g,52,8,[ax,ax,ax,az (some ⟨E,0,none⟩) L.length cs,ag O,az (some ⟨br,0,none⟩) M I,ax,ax]⟩:ak),(⟨E,55,cs*6,L.flatMap cH⟩:ak)] (fun r S=>r = .dK []/\S=[(⟨g,52,8,[ax,ax,ax,az (some ⟨E,0,none⟩) L.length cs,ag O,az (some ⟨br,0,none⟩) M I,ax,ax]⟩:ak),(⟨E,55,cs*6,(L.set i (⟨L[i].sc,L[i].at_,0,false⟩:dP)).flatMap cH⟩:ak)]):=by
 refine VC.JS func14 rfl ntmps14 aF fun X0 w0 dm=>?_;have eI:=fU;have hp:=qI ko L hi;rw[py (g:=cH) L hi];rw[show cH L[i]=([.list 1 (L[i].sc.flatMap cS) L[i].sc.length,ag L[i].at_,ag L[i].fW,bw L[i].op,bw false,ax]:List D) from rfl];have U:=KV (G:=G);unfold DA at U;refine oJ.seq ?_;refine Nb ?_;refine fI (ds:=[_]) ay rfl rfl ot rfl rfl (fun b2=>?_);refine da 83 [1,2] ?_;refine⟨rfl,?_⟩;refine oJ.Lt ?_;refine lp 7 ?_;refine ae (tX 2) ?_;refine bU call31 (U) ?_;refine da 83 [1,2,15] ?_;refine⟨rfl,?_⟩;rw[show((L.take i).flatMap cH++(([.list 1 (L[i].sc.flatMap cS) L[i].sc.length,ag L[i].at_,ag L[i].fW,bw L[i].op,bw false,ax]:List D)++(L.drop (i+1)).flatMap cH))=L.flatMap cH from(py (g:=cH) L hi).symm];refine wi.range (.inr rfl) ot call55 Il (fun _=>rfl) Ik (.exit 0) (.inr rfl) (fun pre Y=>pre=[]/\Y=[(⟨b2,46,1,[bD g]⟩:ak),(⟨g,52,8,[ax,ax,ax,az (some ⟨E,0,none⟩) L.length cs,ag O,az (some ⟨br,0,none⟩) M I,ax,ax]⟩:ak),(⟨E,55,cs*6,L.flatMap cH⟩:ak)]) (fun _ _=>False) (fun _ _ h B hB=>by obtain⟨_,rfl⟩:=h;exact N3 hB) (fun _ _ h=>h.elim) ⟨rfl,rfl⟩ (fun _ _ _ _=>False) (fun _ _ _ _ h=>h.elim) ?_ ?_ ?_ (fun h=>by cases h)
 ·intro X1 W1 S1 l1 pre y Y hJ hN;exact absurd hN (Nat.not_lt_zero _)
 ·intro X1 W1 S1 l1 pre y Y z hJ hN hz;exact absurd hN (Nat.not_lt_zero _)
 intro W1 S1 D1 Y Z;obtain⟨rfl⟩:Y=[(⟨b2,46,1,[bD g]⟩:ak),(⟨g,52,8,[ax,ax,ax,az (some ⟨E,0,none⟩) L.length cs,ag O,az (some ⟨br,0,none⟩) M I,ax,ax]⟩:ak),(⟨E,55,cs*6,L.flatMap cH⟩:ak)]:=(by (rcases Z with ⟨_,_,_,h⟩|⟨_,_,h,_⟩;exact h;exact h.elim))
 refine lp 2 ?_;refine cP (R:=[(⟨b2,46,1,[bD g]⟩:ak)]) ay rfl rfl rfl call36 (Ij g E br cs I i M O L hi ht Fl) ⟨ot,ot,trivial⟩ (perm_append_comm (l₁:=[_])) ?_;rintro _ _ ⟨rfl,rfl⟩;refine da 83 [] ?_;exact⟨.inl rfl,rfl,(fun B hB=>LR hB),_,[(⟨g,52,8,[ax,ax,ax,az (some ⟨E,0,none⟩) L.length cs,ag O,az (some ⟨br,0,none⟩) M I,ax,ax]⟩:ak),(⟨E,55,cs*6,(L.set i (⟨L[i].sc,L[i].at_,0,false⟩:dP)).flatMap cH⟩:ak)],cG,eM results14,rfl,rfl,rfl⟩
end Se
namespace Nm
open Go.Proofs.Tryz
open Go.RowKit V
def wordsB:List (List UInt8):=[[67,82,69,65,84,69],[84,65,66,76,69],[68,82,79,80],[73,78,83,69,82,84],[73,78,84,79],[86,65,76,85,69,83],[83,69,76,69,67,84],[67,79,85,78,84],[70,82,79,77],[87,72,69,82,69],[79,82,68,69,82],[66,89],[68,69,83,67],[76,73,77,73,84],[85,80,68,65,84,69],[83,69,84],[68,69,76,69,84,69],[66,69,71,73,78],[67,79,77,77,73,84],[82,79,76,76,66,65,67,75],[65,78,68],[79,82],[78,79,84],[73,83],[78,85,76,76],[84,82,85,69],[70,65,76,83,69],[73,78,84],[84,69,88,84],[66,79,79,76]]
def marksB:List (List UInt8):=[[60,61],[62,61],[60,62],[40],[41],[44],[42],[43],[45],[61],[60],[62]]
def om:List ByteArray:=wordsB.map fun b=>⟨b.toArray⟩
def sF:List ByteArray:=marksB.map fun b=>⟨b.toArray⟩
def wordsC:List Value:=om.map .string
def marksC:List Value:=sF.map .string
def fP(c:UInt8):Bool:=decide ((97<=c.toNat/\c.toNat<=122)\/(65<=c.toNat/\c.toNat<=90)\/c.toNat=95)
def dF(c:UInt8):Bool:=decide (48<=c.toNat/\c.toNat<=57)
def gI(c:UInt8):Bool:=fP c||dF c
def cE(p:UInt8->Bool)(s:ByteArray):Nat:=(s.data.toList.takeWhile p).length
theorem Dl(p:UInt8->Bool):∀(l:List UInt8) (k:Nat),k<=l.length->(∀x∈l.take k,p x=true)->(∀h:k<l.length,p l[k]=false)->(l.takeWhile p).length=k
 | [],k,h,_,_=>by simp at h;subst h;rfl
 | a::r,0,_,_,h=>by
  have:p a=false:=h cq;rw[takeWhile_cons];simp[this]
 | a::r,k+1,h1,h2,h3=>by
  have ha:p a=true:=h2 a cq;rw[takeWhile_cons,if_pos ha,length_cons,Dl p r k (by simpa using h1) (fun x hx=>h2 x (by rw[take_succ_cons];exact mem_cons_of_mem _ hx)) (fun h=>by have:=h3 pV;simpa using this)]
theorem u7{p:UInt8->Bool}{s:ByteArray}{k:Nat}(hk:k<=s.size)(h0:∀x∈s.data.toList.take k,p x=true)(h1:k<s.size->p (c6 s k)=false):cE p s=k :=
 Dl p _ k (by rw[ic];exact hk) h0 fun h=>by rw[qs h];exact h1 (by rw[ic] at h;exact h)
structure Tk where
 k:Int
 s:ByteArray
 n:Int
def cT(t:Tk):List D:=[ag t.k,bT t.s,ag t.n]
theorem dO(t:Tk):(cT t).length=3:=rfl
theorem gh(t:Tk):(cT t).all V.one=true:=rfl
def eO(s:ByteArray):Bool:=!decide (s.size=0)&&fP (c6 s 0)&&((cE gI s:Int)==(s.size:Int))
def dZ(t:Tk):Int :=
 if t.k=1 then (if (decide (t.n=0)&&eO t.s)=true then 0 else 6)
 else if t.k=2 then (if t.n<0 then 3 else if t.s.size=0 then 0 else 6)
 else if t.k=3 then (if t.n=0 then 0 else 6)
 else if t.k=4 then (if (decide (t.n=0)&&sF.any (cM t.s))=true then 0 else 6)
 else 2
def dA(s:ByteArray):Int:=if s.size>8 then 1 else if (!(eO s)||om.any (cM s))=true then 6 else 0
theorem uH(s:ByteArray):dZ ⟨1,s,0⟩=if eO s=true then 0 else 6:=by
 unfold dZ;rw[if_pos rfl];simp
variable {G:List (Nat×List Value)}
theorem r9(c:UInt8):VP Tryz.prog G 85 [.v (.int .u8 ((c).toNat:Int))] (bw (fP c)):=by
 refine cf func85 rfl ntmps85 aF fun Y w0 U=>?_;refine ah ?_;refine aa ?_;refine au [0] ?_;refine ah ?_;refine aa ?_;refine ae aE ?_;refine aa ?_;refine dN (t:=5) lk (fun hg5=>?_) (fun hg5=>?_)
 ·have M:=hg5;(try simp only[V.ai,ne_eq] at M)
  refine aa ?_;refine ae aE ?_;refine ae cW ?_;refine aa ?_;refine dN (t:=9) lk (fun hg9=>?_) (fun hg9=>?_)
  ·have O:=hg9;(try simp only[V.ai,ne_eq] at O)
   refine an ?_;refine an ?_;refine an ?_;refine oI ?_;refine oI ?_;refine an ?_;refine ae cW ?_;refine aa ?_;refine an ?_;refine an ?_;refine ae cW ?_;refine aa ?_;refine au [2] ?_;refine aI ?_;refine bl ?_;refine⟨vb ?_,rfl⟩;rw[Bool.eq_iff_iff];simp[fP];first|done|omega
  have O:=hg9;(try simp only[V.ai,ne_eq] at O)
  refine aa ?_;refine ae aE ?_;refine aa ?_;refine dN (t:=12) lk (fun hg12=>?_) (fun hg12=>?_)
  ·have E:=hg12;(try simp only[V.ai,ne_eq] at E)
   refine aa ?_;refine ae aE ?_;refine ae cW ?_;refine ae bC ?_;refine aa ?_;refine dN (t:=17) lk (fun fu=>?_) (fun fu=>?_)
   ·have I:=fu;(try simp only[V.ai,ne_eq] at I)
    refine an ?_;refine an ?_;refine ae cW ?_;refine aa ?_;refine au [2] ?_;refine aI ?_;refine bl ?_;refine⟨vb ?_,rfl⟩;rw[Bool.eq_iff_iff];simp[fP];first|done|omega
   have I:=fu;(try simp only[V.ai,ne_eq] at I)
   refine aa ?_;refine ae aE ?_;refine ae bC ?_;refine aa ?_;refine au [2] ?_;refine aI ?_;refine bl ?_;refine⟨vb ?_,rfl⟩;rw[Bool.eq_iff_iff];simp[fP];first|done|omega
  have E:=hg12;(try simp only[V.ai,ne_eq] at E)
  refine an ?_;refine an ?_;refine ae bC ?_;refine ae bC ?_;refine aa ?_;refine aa ?_;refine ae aE ?_;refine ae bC ?_;refine aa ?_;refine au [2] ?_;refine aI ?_;refine bl ?_;refine⟨vb ?_,rfl⟩;rw[Bool.eq_iff_iff];simp[fP];first|done|omega
 have M:=hg5;(try simp only[V.ai,ne_eq] at M)
 refine an ?_;refine an ?_;refine ae bC ?_;refine aa ?_;refine aa ?_;refine ae aE ?_;refine aa ?_;refine dN (t:=12) lk (fun hg12=>?_) (fun hg12=>?_)
 ·have E:=hg12;(try simp only[V.ai,ne_eq] at E)
  refine aa ?_;refine ae aE ?_;refine ae cW ?_;refine ae bC ?_;refine aa ?_;refine dN (t:=17) lk (fun fu=>?_) (fun fu=>?_)
  ·have I:=fu;(try simp only[V.ai,ne_eq] at I)
   refine an ?_;refine an ?_;refine ae cW ?_;refine aa ?_;refine au [2] ?_;refine aI ?_;refine bl ?_;refine⟨vb ?_,rfl⟩;rw[Bool.eq_iff_iff];simp[fP];first|done|omega
  have I:=fu;(try simp only[V.ai,ne_eq] at I)
  refine aa ?_;refine ae aE ?_;refine ae bC ?_;refine aa ?_;refine au [2] ?_;refine aI ?_;refine bl ?_;refine⟨vb ?_,rfl⟩;rw[Bool.eq_iff_iff];simp[fP];first|done|omega
 have E:=hg12;(try simp only[V.ai,ne_eq] at E)
 refine an ?_;refine an ?_;refine ae bC ?_;refine ae bC ?_;refine aa ?_;refine aa ?_;refine ae aE ?_;refine ae bC ?_;refine aa ?_;refine au [2] ?_;refine aI ?_;refine bl ?_;refine⟨vb ?_,rfl⟩;rw[Bool.eq_iff_iff];simp[fP];first|done|omega
theorem uT(c:UInt8):VP Tryz.prog G 87 [.v (.int .u8 ((c).toNat:Int))] (bw (dF c)):=by
 refine cf func87 rfl ntmps87 aF fun M w0 I=>?_;refine ah ?_;refine aa ?_;refine au [0] ?_;refine ah ?_;refine aa ?_;refine ae aE ?_;refine aa ?_;refine dN (t:=5) lk (fun hg5=>?_) (fun hg5=>?_)
 ·have E:=hg5;(try simp only[V.ai,ne_eq] at E)
  refine aa ?_;refine ae aE ?_;refine ae cW ?_;refine aa ?_;refine au [2] ?_;refine aI ?_;refine bl ?_;refine⟨vb ?_,rfl⟩;rw[Bool.eq_iff_iff];simp[dF];first|done|omega
 have E:=hg5;(try simp only[V.ai,ne_eq] at E)
 refine an ?_;refine an ?_;refine ae bC ?_;refine aa ?_;refine au [2] ?_;refine aI ?_;refine bl ?_;refine⟨vb ?_,rfl⟩;rw[Bool.eq_iff_iff];simp[dF];first|done|omega
theorem yb(c:UInt8):VP Tryz.prog G 86 [.v (.int .u8 ((c).toNat:Int))] (bw (gI c)):=by
 refine cf func86 rfl ntmps86 aF fun M w0 I=>?_;refine ah ?_;refine aa ?_;refine au [0] ?_;refine ah ?_;refine aa ?_;refine bU call85 (r9 c) ?_;refine aa ?_;refine dN (t:=5) lk (fun hg5=>?_) (fun hg5=>?_)
 ·have E:=hg5;(try simp only[V.ai,ne_eq] at E)
  refine an ?_;refine an ?_;refine ae cW ?_;refine aa ?_;refine aK [(2,_)] [] ?_;refine aI ?_;refine⟨.inr rfl,en results86 ?_⟩;exact⟨vb (by simp[gI, *]),rfl⟩
 have E:=hg5;(try simp only[V.ai,ne_eq] at E)
 refine aa ?_;refine qx dH rfl rfl rfl call87 (uT c) ⟨ot,trivial⟩ ?_;refine ae bC ?_;refine aa ?_;refine aK [(2,_)] [] ?_;refine aI ?_;refine⟨.inr rfl,en results86 ?_⟩;exact⟨vb (by simp[gI, *]),rfl⟩
theorem qF(s:ByteArray)(g:Nat)(p:UInt8->Bool)(dz:∀args w,(callFunc g args).run Tryz.prog w = .ok (.enter g args) w)(hp:∀c,VP Tryz.prog G g [.v (.int .u8 ((c).toNat:Int))] (bw (p c)))(hs:s.size<=maxLen):VP Tryz.prog G 66 [bT s,.dQ (.func g) []] (ag (cE p s)):=by
 refine cf func66 rfl ntmps66 aF fun Z w0 U=>?_;simp only[maxLen] at hs;refine ah ?_;refine aa ?_;refine au [0,1] ?_;refine ah ?_;refine aa ?_;refine au [0,1,5] ?_;refine aC ?_;refine bZ ?_;refine fa (fun (k:Nat) O=>(k<=s.size)/\(∀x∈s.data.toList.take k,p x=true)/\O=(⟨20,[(0,bT s),(1,.dQ (.func g) []),(5,ag (k:Nat))],[]⟩:St)) (fun (k:Nat)=>s.size-k) 0 ⟨(Nat.zero_le _),cq,rfl⟩ (Wk.bI rfl eB gx) ?_;rintro k _ ⟨hk,h0,rfl⟩;refine aC ?_;refine ah ?_;refine aa ?_;refine aa ?_;refine ae (kg rfl rfl ot runUnderlying9) ?_;refine ae aE ?_;refine aa ?_;refine dN (t:=10) lk (fun hg10=>?_) (fun hg10=>?_)
 ·have E:=hg10;(try simp only[V.ai,ne_eq] at E)
  have M:k<s.size:=(by omega)
  have Y:s[k]?=some (c6 s k):=lH M;refine aa ?_;refine aa ?_;refine aa ?_;refine gE dH rfl (mg rfl ot ot runUnderlying9 rfl (by first|assumption|rfl)) ?_;refine xT (f:=g) (args:=[_]) (all:=[_]) dH rfl rfl ot dz (hp (c6 s k)) rfl ⟨ot,trivial⟩ (jP _) ?_;rintro _ S2 ⟨rfl,rfl⟩;refine ae cW ?_;refine aK [(0,_),(1,_),(5,_),(16,_)] [] ?_;refine aM ot (fun aA=>?_) (fun aA=>?_)
  ·have I:=aA
   (try simp only[V.ai,ne_eq] at I)
   refine aS ?_;refine bZ ?_;refine aV ?_;refine aa ?_;refine ae aE ?_;refine aa ?_;refine au [0,1,5] ?_;refine⟨(k+1),_,?_,?_,w7,(xY (by rw[ic];exact M) h0 (by rw[qs];assumption)),rfl⟩
   ·first|omega|(simp only[];omega)
   exact Wk.bI (n:=20) rfl eB gx
  have I:=aA
  (try simp only[V.ai,ne_eq] at I)
  refine ep ?_;refine ah ?_;refine aa ?_;refine aa ?_;refine au [4] ?_;refine aI ?_;refine bl ?_;refine⟨vi ?_,rfl⟩;first|(rw[u7 hk h0 (fun h=>by omega)];done)|(rw[u7 hk h0 (fun h=>by assumption)];done)
 have E:=hg10;(try simp only[V.ai,ne_eq] at E)
 refine an ?_;refine an ?_;refine an ?_;refine an ?_;refine an ?_;refine ae bC ?_;refine aK [(0,_),(1,_),(5,_),(16,_)] [] ?_;refine iG ot w6 ?_;refine ep ?_;refine ah ?_;refine aa ?_;refine aa ?_;refine au [4] ?_;refine aI ?_;refine bl ?_;refine⟨vi ?_,rfl⟩;first|(rw[u7 hk h0 (fun h=>by omega)];done)|(rw[u7 hk h0 (fun h=>by assumption)];done)
theorem uS(M:List ByteArray)(s:ByteArray)(O:M.length<=maxLen):VP Tryz.prog G 88 [av 1 cS M,bT s] (ag (lK (cM s) M)):=by
 refine cf func88 rfl ntmps88 aF fun Z w0 Y=>?_;simp only[maxLen] at O;refine ah ?_;refine aa ?_;refine au [0,1] ?_;refine aC ?_;refine ah ?_;refine aa ?_;refine ae cZ ?_;refine aa ?_;refine au [0,1,7,8] ?_;refine bZ ?_;refine fa (fun (k:Nat) U=>(k<=M.length)/\(∀x∈M.take k,cM s x=false)/\U=(⟨19,[(0,av 1 cS M),(1,bT s),(7,ag M.length),(8,ag (k:Nat))],[]⟩:St)) (fun (k:Nat)=>M.length-k) 0 ⟨(Nat.zero_le _),cq,rfl⟩ (Wk.bI rfl eB gx) ?_;rintro k _ ⟨hk,h0,rfl⟩;refine ah ?_;refine ae aE ?_;refine au [0,1,7,8,9] ?_;refine aC ?_;refine aM ot (fun aA=>?_) (fun aA=>?_)
 ·have E:=aA
  (try simp only[V.ai,ne_eq] at E)
  have aD:k<M.length:=(by omega)
  refine aS ?_;refine aC ?_;refine bZ ?_;refine ah ?_;refine aa ?_;refine aa ?_;refine au [0,1,5,7,8] ?_;refine ah ?_;refine aa ?_;refine aa ?_;refine aa ?_;refine ae (dW 1) ?_;refine ae fE ?_;refine ae aE ?_;refine au [0,1,5,7,8,16] ?_;refine aM ot (fun aG=>?_) (fun aG=>?_)
  ·have I:=aG
   (try simp only[V.ai,ne_eq] at I)
   refine ah ?_;refine aa ?_;refine aa ?_;refine au [4] ?_;refine aI ?_;refine bl ?_;refine⟨vi ?_,rfl⟩;first|(rw[qz w7 h0 aG];done)|(rw[qu w7 h0];done)
  have I:=aG
  (try simp only[V.ai,ne_eq] at I)
  refine aS ?_;refine aV ?_;refine ae aE ?_;refine aa ?_;refine au [0,1,7,8] ?_;refine⟨(k+1),_,?_,?_,w7,(xY w7 h0 aG),rfl⟩
  ·first|omega|(simp only[];omega)
  exact Wk.bI (n:=19) rfl eB gx
 have E:=aA
 (try simp only[V.ai,ne_eq] at E)
 refine ep ?_;refine ah ?_;refine aa ?_;refine au [4] ?_;refine aI ?_;refine bl ?_;refine⟨vi ?_,rfl⟩;first|(rw[qz w7 h0 aG];done)|(rw[qu w7 h0];done)
theorem uD(I:List ByteArray)(s:ByteArray)(E:I.length<=maxLen):VP Tryz.prog G 46 [av 1 cS I,bT s] (bw (I.any (cM s))):=by
 refine cf func46 rfl ntmps46 aF fun O w0 M=>?_;refine ah ?_;refine aa ?_;refine au [0,1] ?_;refine ah ?_;refine aa ?_;refine aa ?_;refine bU call88 (uS I s E) ?_;refine ae aE ?_;refine aa ?_;refine aK [(4,_)] [] ?_;refine aI ?_;refine⟨.inr rfl,en results46 ?_⟩;exact⟨vb Ce,rfl⟩
theorem pn(hm:(1,marksC)∈G)(t:Tk)(hs:t.s.size<=maxLen):VP Tryz.prog G 45 [.agg (cT t)] (ag (dZ t)):=by
 refine cf func45 rfl ntmps45 aF fun X0 w0 dm=>?_;unfold cT;refine ah ?_;refine fI (ds:=[_,_,_]) ay rfl rfl ot rfl rfl (fun I=>?_);refine aa ?_;refine aK [(1,_)] [⟨I,113,3,[_,_,_]⟩] ?_;refine ah ?_;refine ae (aB 2) ?_;refine ae (aH 0) ?_;refine ae aE ?_;refine aa ?_;refine au [1,3] ?_;refine aC ?_;refine ah ?_;refine ae (aB 0) ?_;refine ae (aH 0) ?_;refine au [1,3,8] ?_;refine bZ ?_;refine ah ?_;refine ae aE ?_;refine aa ?_;refine au [1,3,8,9] ?_;refine aM ot (fun aA=>?_) (fun aA=>?_)
 ·have Z:=aA
  (try simp only[V.ai,ne_eq] at Z)
  refine ez (aq _) af (fun _ h=>h) ?_;refine bt.take (i:=0) rfl af af af w4 ay rfl (mi rfl ot) c7 ?_;refine bt.take (i:=1) rfl af af af w4 ay rfl (mi rfl ot) c7 ?_;refine bt.split (t:=12) lk (fun hg12=>?_) (fun hg12=>?_)
  ·have M:=hg12;(try simp only[V.ai,ne_eq] at M)
   refine bt.take (i:=2) rfl af af af w4 dH rfl (cm (mk:=fun y=>Op.fieldAddr 113 y 1) rfl ot tr) c7 ?_;refine bt.take (i:=3) rfl af af af w4 dH rfl (cm (mk:=Op.load 9) rfl ot oC) Ah ?_;refine bt.take (i:=4) rfl af af af w4 dH rfl (eX rfl ot aN xR) c7 ?_;refine bt.take (i:=5) rfl af af af w4 ay rfl (oX rfl ot w6 ot) c7 ?_;refine bt.take (i:=6) rfl af af af w4 ay rfl (mi rfl ot) c7 ?_;refine bt.split (t:=17) lk (fun fu=>?_) (fun fu=>?_)
   ·have O:=fu;(try simp only[V.ai,ne_eq] at O)
    refine bt.take (i:=7) rfl af af af w4 dH rfl (cm (mk:=fun y=>Op.fieldAddr 113 y 1) rfl ot tr) c7 ?_;refine bt.take (i:=8) rfl af af af w4 dH rfl (cm (mk:=Op.load 9) rfl ot oC) Ah ?_;refine bt.take (i:=9) rfl af af af w4 dH rfl (mg (c:=c6 t.s 0) rfl ot aN runUnderlying9 rfl (lH (JP eG))) c7 ?_;refine bt.later rfl ?_;refine aL (i:=10) af ?_;refine qq rfl dH rfl rfl rfl call85 (r9 _) ⟨ot,trivial⟩ ?_;refine AD.take (i:=11) rfl af af af w4 ay rfl (oX rfl ot w6 ot) c7 dD ?_;refine AD.take (i:=12) rfl af af af w4 ay rfl (mi rfl ot) c7 dD ?_;refine HS (t:=23) lk (fun pJ=>?_) (fun pJ=>?_)
    ·have U:=pJ;(try simp only[V.ai,ne_eq] at U)
     refine AD.take (i:=13) rfl af af af w4 dH rfl (cm (mk:=fun y=>Op.fieldAddr 113 y 1) rfl ot tr) c7 dD ?_;refine AD.take (i:=16) rfl af af af w4 dH rfl (cm (mk:=fun y=>Op.fieldAddr 113 y 1) rfl ot tr) c7 dD ?_;refine dY (i:=14) (j:=17) af ?_ ?_
     ·refine oW rfl dH rfl (cm (mk:=Op.load 9) rfl ot oC) ?_;refine dY (i:=15) (j:=17) af ?_ ?_
      ·refine qq rfl dH rfl rfl rfl call66 (qF t.s 86 gI call86 yb hs) ⟨ot,nh,trivial⟩ ?_;refine aL (i:=17) af ?_;refine oW rfl dH rfl (cm (mk:=Op.load 9) rfl ot oC) ?_;refine AD.take (i:=18) rfl af af af w4 dH rfl (kg rfl rfl ot runUnderlying9) c7 dD ?_;refine AD.take (i:=19) rfl af af af w4 dH rfl (eX rfl ot ot sx) c7 dD ?_;refine AD.take (i:=20) rfl af af af w4 ay rfl (oX rfl ot w6 ot) c7 dD ?_;refine AD.take (i:=21) rfl af af af w4 ay rfl (jm rfl ot) c7 dD ?_;refine cg [(3,_)] [⟨I,113,3,[_,_,_]⟩] ?_;refine bO af ?_;refine aC ?_;refine ah ?_;refine aa ?_;refine ae e9 ?_;refine au [52] ?_;refine aM ot (fun E=>?_) (fun E=>?_)
       ·have bE:=E
        (try simp only[V.ai,ne_eq] at bE)
        refine ah ?_;refine aa ?_;refine au [2] ?_;refine aI ?_;refine bl ?_;refine⟨vi ?_,rfl⟩;try simp only[ec] at *
        simp only[dZ,eO];try simp_all
        try omega
       have bE:=E
       (try simp only[V.ai,ne_eq] at bE)
       refine aS ?_;refine ah ?_;refine aa ?_;refine au [2] ?_;refine aI ?_;refine bl ?_;refine⟨vi ?_,rfl⟩;try simp only[ec] at *
       simp only[dZ,eO];try simp_all
       try omega
      refine oW rfl dH rfl (cm (mk:=Op.load 9) rfl ot oC) ?_;refine AD.take (i:=18) rfl af af af w4 dH rfl (kg rfl rfl ot runUnderlying9) c7 dD ?_;refine aL (i:=15) af ?_;refine qq rfl dH rfl rfl rfl call66 (qF t.s 86 gI call86 yb hs) ⟨ot,nh,trivial⟩ ?_;refine AD.take (i:=19) rfl af af af w4 dH rfl (eX rfl ot ot sx) c7 dD ?_;refine AD.take (i:=20) rfl af af af w4 ay rfl (oX rfl ot w6 ot) c7 dD ?_;refine AD.take (i:=21) rfl af af af w4 ay rfl (jm rfl ot) c7 dD ?_;refine cg [(3,_)] [⟨I,113,3,[_,_,_]⟩] ?_;refine bO af ?_;refine aC ?_;refine ah ?_;refine aa ?_;refine ae e9 ?_;refine au [52] ?_;refine aM ot (fun E=>?_) (fun E=>?_)
      ·have bE:=E
       (try simp only[V.ai,ne_eq] at bE)
       refine ah ?_;refine aa ?_;refine au [2] ?_;refine aI ?_;refine bl ?_;refine⟨vi ?_,rfl⟩;try simp only[ec] at *
       simp only[dZ,eO];try simp_all
       try omega
      have bE:=E
      (try simp only[V.ai,ne_eq] at bE)
      refine aS ?_;refine ah ?_;refine aa ?_;refine au [2] ?_;refine aI ?_;refine bl ?_;refine⟨vi ?_,rfl⟩;try simp only[ec] at *
      simp only[dZ,eO];try simp_all
      try omega
     refine oW rfl dH rfl (cm (mk:=Op.load 9) rfl ot oC) ?_;refine AD.take (i:=18) rfl af af af w4 dH rfl (kg rfl rfl ot runUnderlying9) c7 dD ?_;refine aL (i:=14) af ?_;refine oW rfl dH rfl (cm (mk:=Op.load 9) rfl ot oC) ?_;refine aL (i:=15) af ?_;refine qq rfl dH rfl rfl rfl call66 (qF t.s 86 gI call86 yb hs) ⟨ot,nh,trivial⟩ ?_;refine AD.take (i:=19) rfl af af af w4 dH rfl (eX rfl ot ot sx) c7 dD ?_;refine AD.take (i:=20) rfl af af af w4 ay rfl (oX rfl ot w6 ot) c7 dD ?_;refine AD.take (i:=21) rfl af af af w4 ay rfl (jm rfl ot) c7 dD ?_;refine cg [(3,_)] [⟨I,113,3,[_,_,_]⟩] ?_;refine bO af ?_;refine aC ?_;refine ah ?_;refine aa ?_;refine ae e9 ?_;refine au [52] ?_;refine aM ot (fun E=>?_) (fun E=>?_)
     ·have bE:=E
      (try simp only[V.ai,ne_eq] at bE)
      refine ah ?_;refine aa ?_;refine au [2] ?_;refine aI ?_;refine bl ?_;refine⟨vi ?_,rfl⟩;try simp only[ec] at *
      simp only[dZ,eO];try simp_all
      try omega
     have bE:=E
     (try simp only[V.ai,ne_eq] at bE)
     refine aS ?_;refine ah ?_;refine aa ?_;refine au [2] ?_;refine aI ?_;refine bl ?_;refine⟨vi ?_,rfl⟩;try simp only[ec] at *
     simp only[dZ,eO];try simp_all
     try omega
    have U:=pJ;(try simp only[V.ai,ne_eq] at U)
    refine fO (i:=13) rfl af af af w4 (cz rfl rfl rfl lk w6) rfl ?_;refine fO (i:=16) rfl af af af w4 (cz rfl rfl rfl lk w6) rfl ?_;refine dY (i:=14) (j:=17) af ?_ ?_
    ·refine fm rfl (cz rfl rfl rfl lk w6) rfl ?_;refine dY (i:=15) (j:=17) af ?_ ?_
     ·refine fm rfl (cz rfl rfl rfl lk w6) rfl ?_;refine aL (i:=17) af ?_;refine fm rfl (cz rfl rfl rfl lk w6) rfl ?_;refine fO (i:=18) rfl af af af w4 (cz rfl rfl rfl lk w6) rfl ?_;refine fO (i:=19) rfl af af af w4 (cz rfl rfl rfl lk w6) rfl ?_;refine AD.take (i:=20) rfl af af af w4 ay rfl (jN rfl ot w6 aN) c7 dD ?_;refine AD.take (i:=21) rfl af af af w4 ay rfl (jm rfl ot) c7 dD ?_;refine cg [(3,_)] [⟨I,113,3,[_,_,_]⟩] ?_;refine bO af ?_;refine aC ?_;refine ah ?_;refine aa ?_;refine ae e9 ?_;refine au [52] ?_;refine fe ot w6 ?_;refine ah ?_;refine aa ?_;refine au [2] ?_;refine aI ?_;refine bl ?_;refine⟨vi ?_,rfl⟩;try simp only[ec] at *
      simp only[dZ,eO];try simp_all
      try omega
     refine fm rfl (cz rfl rfl rfl lk w6) rfl ?_;refine fO (i:=18) rfl af af af w4 (cz rfl rfl rfl lk w6) rfl ?_;refine aL (i:=15) af ?_;refine fm rfl (cz rfl rfl rfl lk w6) rfl ?_;refine fO (i:=19) rfl af af af w4 (cz rfl rfl rfl lk w6) rfl ?_;refine AD.take (i:=20) rfl af af af w4 ay rfl (jN rfl ot w6 aN) c7 dD ?_;refine AD.take (i:=21) rfl af af af w4 ay rfl (jm rfl ot) c7 dD ?_;refine cg [(3,_)] [⟨I,113,3,[_,_,_]⟩] ?_;refine bO af ?_;refine aC ?_;refine ah ?_;refine aa ?_;refine ae e9 ?_;refine au [52] ?_;refine fe ot w6 ?_;refine ah ?_;refine aa ?_;refine au [2] ?_;refine aI ?_;refine bl ?_;refine⟨vi ?_,rfl⟩;try simp only[ec] at *
     simp only[dZ,eO];try simp_all
     try omega
    refine fm rfl (cz rfl rfl rfl lk w6) rfl ?_;refine fO (i:=18) rfl af af af w4 (cz rfl rfl rfl lk w6) rfl ?_;refine aL (i:=14) af ?_;refine fm rfl (cz rfl rfl rfl lk w6) rfl ?_;refine aL (i:=15) af ?_;refine fm rfl (cz rfl rfl rfl lk w6) rfl ?_;refine fO (i:=19) rfl af af af w4 (cz rfl rfl rfl lk w6) rfl ?_;refine AD.take (i:=20) rfl af af af w4 ay rfl (jN rfl ot w6 aN) c7 dD ?_;refine AD.take (i:=21) rfl af af af w4 ay rfl (jm rfl ot) c7 dD ?_;refine cg [(3,_)] [⟨I,113,3,[_,_,_]⟩] ?_;refine bO af ?_;refine aC ?_;refine ah ?_;refine aa ?_;refine ae e9 ?_;refine au [52] ?_;refine fe ot w6 ?_;refine ah ?_;refine aa ?_;refine au [2] ?_;refine aI ?_;refine bl ?_;refine⟨vi ?_,rfl⟩;try simp only[ec] at *
    simp only[dZ,eO];try simp_all
    try omega
   have O:=fu;(try simp only[V.ai,ne_eq] at O)
   refine bt.ki (i:=7) rfl af af af w4 (cz rfl rfl rfl lk w6) rfl ?_;refine bt.ki (i:=8) rfl af af af w4 (cz rfl rfl rfl lk w6) rfl ?_;refine bt.ki (i:=9) rfl af af af w4 (cz rfl rfl rfl lk w6) rfl ?_;refine bt.later rfl ?_;refine aL (i:=10) af ?_;refine fm rfl (cz rfl rfl rfl lk w6) rfl ?_;refine AD.take (i:=11) rfl af af af w4 ay rfl (jN rfl ot w6 aN) c7 dD ?_;refine AD.take (i:=12) rfl af af af w4 ay rfl (mi rfl ot) c7 dD ?_;refine fO (i:=13) rfl af af af w4 (cz rfl rfl rfl lk w6) rfl ?_;refine fO (i:=16) rfl af af af w4 (cz rfl rfl rfl lk w6) rfl ?_;refine dY (i:=14) (j:=17) af ?_ ?_
   ·refine fm rfl (cz rfl rfl rfl lk w6) rfl ?_;refine dY (i:=15) (j:=17) af ?_ ?_
    ·refine fm rfl (cz rfl rfl rfl lk w6) rfl ?_;refine aL (i:=17) af ?_;refine fm rfl (cz rfl rfl rfl lk w6) rfl ?_;refine fO (i:=18) rfl af af af w4 (cz rfl rfl rfl lk w6) rfl ?_;refine fO (i:=19) rfl af af af w4 (cz rfl rfl rfl lk w6) rfl ?_;refine AD.take (i:=20) rfl af af af w4 ay rfl (jN rfl ot w6 aN) c7 dD ?_;refine AD.take (i:=21) rfl af af af w4 ay rfl (jm rfl ot) c7 dD ?_;refine cg [(3,_)] [⟨I,113,3,[_,_,_]⟩] ?_;refine bO af ?_;refine aC ?_;refine ah ?_;refine aa ?_;refine ae e9 ?_;refine au [52] ?_;refine fe ot w6 ?_;refine ah ?_;refine aa ?_;refine au [2] ?_;refine aI ?_;refine bl ?_;refine⟨vi ?_,rfl⟩;try simp only[ec] at *
     simp only[dZ,eO];try simp_all
     try omega
    refine fm rfl (cz rfl rfl rfl lk w6) rfl ?_;refine fO (i:=18) rfl af af af w4 (cz rfl rfl rfl lk w6) rfl ?_;refine aL (i:=15) af ?_;refine fm rfl (cz rfl rfl rfl lk w6) rfl ?_;refine fO (i:=19) rfl af af af w4 (cz rfl rfl rfl lk w6) rfl ?_;refine AD.take (i:=20) rfl af af af w4 ay rfl (jN rfl ot w6 aN) c7 dD ?_;refine AD.take (i:=21) rfl af af af w4 ay rfl (jm rfl ot) c7 dD ?_;refine cg [(3,_)] [⟨I,113,3,[_,_,_]⟩] ?_;refine bO af ?_;refine aC ?_;refine ah ?_;refine aa ?_;refine ae e9 ?_;refine au [52] ?_;refine fe ot w6 ?_;refine ah ?_;refine aa ?_;refine au [2] ?_;refine aI ?_;refine bl ?_;refine⟨vi ?_,rfl⟩;try simp only[ec] at *
    simp only[dZ,eO];try simp_all
    try omega
   refine fm rfl (cz rfl rfl rfl lk w6) rfl ?_;refine fO (i:=18) rfl af af af w4 (cz rfl rfl rfl lk w6) rfl ?_;refine aL (i:=14) af ?_;refine fm rfl (cz rfl rfl rfl lk w6) rfl ?_;refine aL (i:=15) af ?_;refine fm rfl (cz rfl rfl rfl lk w6) rfl ?_;refine fO (i:=19) rfl af af af w4 (cz rfl rfl rfl lk w6) rfl ?_;refine AD.take (i:=20) rfl af af af w4 ay rfl (jN rfl ot w6 aN) c7 dD ?_;refine AD.take (i:=21) rfl af af af w4 ay rfl (jm rfl ot) c7 dD ?_;refine cg [(3,_)] [⟨I,113,3,[_,_,_]⟩] ?_;refine bO af ?_;refine aC ?_;refine ah ?_;refine aa ?_;refine ae e9 ?_;refine au [52] ?_;refine fe ot w6 ?_;refine ah ?_;refine aa ?_;refine au [2] ?_;refine aI ?_;refine bl ?_;refine⟨vi ?_,rfl⟩;try simp only[ec] at *
   simp only[dZ,eO];try simp_all
   try omega
  have M:=hg12;(try simp only[V.ai,ne_eq] at M)
  refine bt.ki (i:=2) rfl af af af w4 (cz rfl rfl rfl lk w6) rfl ?_;refine bt.ki (i:=3) rfl af af af w4 (cz rfl rfl rfl lk w6) rfl ?_;refine bt.ki (i:=4) rfl af af af w4 (cz rfl rfl rfl lk w6) rfl ?_;refine bt.take (i:=5) rfl af af af w4 ay rfl (jN rfl ot w6 aN) c7 ?_;refine bt.take (i:=6) rfl af af af w4 ay rfl (mi rfl ot) c7 ?_;refine bt.ki (i:=7) rfl af af af w4 (cz rfl rfl rfl lk w6) rfl ?_;refine bt.ki (i:=8) rfl af af af w4 (cz rfl rfl rfl lk w6) rfl ?_;refine bt.ki (i:=9) rfl af af af w4 (cz rfl rfl rfl lk w6) rfl ?_;refine bt.later rfl ?_;refine aL (i:=10) af ?_;refine fm rfl (cz rfl rfl rfl lk w6) rfl ?_;refine AD.take (i:=11) rfl af af af w4 ay rfl (jN rfl ot w6 aN) c7 dD ?_;refine AD.take (i:=12) rfl af af af w4 ay rfl (mi rfl ot) c7 dD ?_;refine fO (i:=13) rfl af af af w4 (cz rfl rfl rfl lk w6) rfl ?_;refine fO (i:=16) rfl af af af w4 (cz rfl rfl rfl lk w6) rfl ?_;refine dY (i:=14) (j:=17) af ?_ ?_
  ·refine fm rfl (cz rfl rfl rfl lk w6) rfl ?_;refine dY (i:=15) (j:=17) af ?_ ?_
   ·refine fm rfl (cz rfl rfl rfl lk w6) rfl ?_;refine aL (i:=17) af ?_;refine fm rfl (cz rfl rfl rfl lk w6) rfl ?_;refine fO (i:=18) rfl af af af w4 (cz rfl rfl rfl lk w6) rfl ?_;refine fO (i:=19) rfl af af af w4 (cz rfl rfl rfl lk w6) rfl ?_;refine AD.take (i:=20) rfl af af af w4 ay rfl (jN rfl ot w6 aN) c7 dD ?_;refine AD.take (i:=21) rfl af af af w4 ay rfl (jm rfl ot) c7 dD ?_;refine cg [(3,_)] [⟨I,113,3,[_,_,_]⟩] ?_;refine bO af ?_;refine aC ?_;refine ah ?_;refine aa ?_;refine ae e9 ?_;refine au [52] ?_;refine fe ot w6 ?_;refine ah ?_;refine aa ?_;refine au [2] ?_;refine aI ?_;refine bl ?_;refine⟨vi ?_,rfl⟩;try simp only[ec] at *
    simp only[dZ,eO];try simp_all
    try omega
   refine fm rfl (cz rfl rfl rfl lk w6) rfl ?_;refine fO (i:=18) rfl af af af w4 (cz rfl rfl rfl lk w6) rfl ?_;refine aL (i:=15) af ?_;refine fm rfl (cz rfl rfl rfl lk w6) rfl ?_;refine fO (i:=19) rfl af af af w4 (cz rfl rfl rfl lk w6) rfl ?_;refine AD.take (i:=20) rfl af af af w4 ay rfl (jN rfl ot w6 aN) c7 dD ?_;refine AD.take (i:=21) rfl af af af w4 ay rfl (jm rfl ot) c7 dD ?_;refine cg [(3,_)] [⟨I,113,3,[_,_,_]⟩] ?_;refine bO af ?_;refine aC ?_;refine ah ?_;refine aa ?_;refine ae e9 ?_;refine au [52] ?_;refine fe ot w6 ?_;refine ah ?_;refine aa ?_;refine au [2] ?_;refine aI ?_;refine bl ?_;refine⟨vi ?_,rfl⟩;try simp only[ec] at *
   simp only[dZ,eO];try simp_all
   try omega
  refine fm rfl (cz rfl rfl rfl lk w6) rfl ?_;refine fO (i:=18) rfl af af af w4 (cz rfl rfl rfl lk w6) rfl ?_;refine aL (i:=14) af ?_;refine fm rfl (cz rfl rfl rfl lk w6) rfl ?_;refine aL (i:=15) af ?_;refine fm rfl (cz rfl rfl rfl lk w6) rfl ?_;refine fO (i:=19) rfl af af af w4 (cz rfl rfl rfl lk w6) rfl ?_;refine AD.take (i:=20) rfl af af af w4 ay rfl (jN rfl ot w6 aN) c7 dD ?_;refine AD.take (i:=21) rfl af af af w4 ay rfl (jm rfl ot) c7 dD ?_;refine cg [(3,_)] [⟨I,113,3,[_,_,_]⟩] ?_;refine bO af ?_;refine aC ?_;refine ah ?_;refine aa ?_;refine ae e9 ?_;refine au [52] ?_;refine fe ot w6 ?_;refine ah ?_;refine aa ?_;refine au [2] ?_;refine aI ?_;refine bl ?_;refine⟨vi ?_,rfl⟩;try simp only[ec] at *
  simp only[dZ,eO];try simp_all
  try omega
 have Z:=aA
 (try simp only[V.ai,ne_eq] at Z)
 refine ah ?_;refine ae aE ?_;refine aa ?_;refine au [1,3,8,32] ?_;refine aM ot (fun aG=>?_) (fun aG=>?_)
 ·have cA:=aG
  (try simp only[V.ai,ne_eq] at cA)
  refine aC ?_;refine ah ?_;refine ae (aB 2) ?_;refine ae (aH 0) ?_;refine ae aE ?_;refine au [1,36] ?_;refine aM ot (fun bJ=>?_) (fun bJ=>?_)
  ·have aX:=bJ
   (try simp only[V.ai,ne_eq] at aX)
   refine ah ?_;refine aa ?_;refine au [2] ?_;refine aI ?_;refine bl ?_;refine⟨vi ?_,rfl⟩;try simp only[ec] at *
   simp only[dZ,eO];try simp_all
   try omega
  have aX:=bJ
  (try simp only[V.ai,ne_eq] at aX)
  refine aS ?_;refine aV ?_;refine ae (aB 1) ?_;refine ae (aH 0) ?_;refine ae aE ?_;refine aa ?_;refine au [3] ?_;refine aC ?_;refine ah ?_;refine aa ?_;refine ae e9 ?_;refine au [52] ?_;refine aM ot (fun E=>?_) (fun E=>?_)
  ·have bE:=E
   (try simp only[V.ai,ne_eq] at bE)
   refine ah ?_;refine aa ?_;refine au [2] ?_;refine aI ?_;refine bl ?_;refine⟨vi ?_,rfl⟩;try simp only[ec] at *
   simp only[dZ,eO];try simp_all
   try omega
  have bE:=E
  (try simp only[V.ai,ne_eq] at bE)
  refine aS ?_;refine ah ?_;refine aa ?_;refine au [2] ?_;refine aI ?_;refine bl ?_;refine⟨vi ?_,rfl⟩;try simp only[ec] at *
  simp only[dZ,eO];try simp_all
  try omega
 have cA:=aG
 (try simp only[V.ai,ne_eq] at cA)
 refine ah ?_;refine ae aE ?_;refine aa ?_;refine au [1,3,8,40] ?_;refine aM ot (fun ct=>?_) (fun ct=>?_)
 ·have bu:=ct
  (try simp only[V.ai,ne_eq] at bu)
  refine aS ?_;refine aC ?_;refine ah ?_;refine aa ?_;refine ae e9 ?_;refine au [52] ?_;refine aM ot (fun E=>?_) (fun E=>?_)
  ·have bE:=E
   (try simp only[V.ai,ne_eq] at bE)
   refine ah ?_;refine aa ?_;refine au [2] ?_;refine aI ?_;refine bl ?_;refine⟨vi ?_,rfl⟩;try simp only[ec] at *
   simp only[dZ,eO];try simp_all
   try omega
  have bE:=E
  (try simp only[V.ai,ne_eq] at bE)
  refine aS ?_;refine ah ?_;refine aa ?_;refine au [2] ?_;refine aI ?_;refine bl ?_;refine⟨vi ?_,rfl⟩;try simp only[ec] at *
  simp only[dZ,eO];try simp_all
  try omega
 have bu:=ct
 (try simp only[V.ai,ne_eq] at bu)
 refine ah ?_;refine ae aE ?_;refine aa ?_;refine au [1,3,42] ?_;refine aM ot (fun ck=>?_) (fun ck=>?_)
 ·have bQ:=ck
  (try simp only[V.ai,ne_eq] at bQ)
  refine ez (aq _) af (fun _ h=>h) ?_;refine bt.take (i:=0) rfl af af af w4 ay rfl (mi rfl ot) c7 ?_;refine bt.take (i:=1) rfl af af af w4 ay rfl (mi rfl ot) c7 ?_;refine bt.split (t:=45) lk (fun y9=>?_) (fun y9=>?_)
  ·have Y:=y9;(try simp only[V.ai,ne_eq] at Y)
   refine bt.take (i:=2) rfl af af af w4 dH rfl (fH (l:=0) (h:=0) rfl mh trivial trivial (by first|exact CU (ls:=sF) (g:=cS) hm rfl rfl runUnderlying185 sizeOf9 rfl cc cc)) c7 ?_;refine bt.take (i:=3) rfl af af af w4 dH rfl (cm (mk:=fun y=>Op.fieldAddr 113 y 1) rfl ot tr) c7 ?_;refine bt.take (i:=4) rfl af af af w4 dH rfl (cm (mk:=Op.load 9) rfl ot oC) Ah ?_;refine bt.later rfl ?_;refine aL (i:=5) af ?_;refine qq rfl dH rfl rfl rfl call46 (uD sF t.s cc) ⟨ot,ot,trivial⟩ ?_;refine AD.take (i:=6) rfl af af af w4 ay rfl (oX rfl ot w6 ot) c7 dD ?_;refine AD.take (i:=7) rfl af af af w4 ay rfl (jm rfl ot) c7 dD ?_;refine cg [(3,_)] [⟨I,113,3,[_,_,_]⟩] ?_;refine bO af ?_;refine aC ?_;refine ah ?_;refine aa ?_;refine ae e9 ?_;refine au [52] ?_;refine aM ot (fun E=>?_) (fun E=>?_)
   ·have bE:=E
    (try simp only[V.ai,ne_eq] at bE)
    refine ah ?_;refine aa ?_;refine au [2] ?_;refine aI ?_;refine bl ?_;refine⟨vi ?_,rfl⟩;try simp only[ec] at *
    simp only[dZ,eO];try simp_all
    try omega
   have bE:=E
   (try simp only[V.ai,ne_eq] at bE)
   refine aS ?_;refine ah ?_;refine aa ?_;refine au [2] ?_;refine aI ?_;refine bl ?_;refine⟨vi ?_,rfl⟩;try simp only[ec] at *
   simp only[dZ,eO];try simp_all
   try omega
  have Y:=y9;(try simp only[V.ai,ne_eq] at Y)
  refine bt.ki (i:=2) rfl af af af w4 (cz rfl rfl rfl lk w6) rfl ?_;refine bt.ki (i:=3) rfl af af af w4 (cz rfl rfl rfl lk w6) rfl ?_;refine bt.ki (i:=4) rfl af af af w4 (cz rfl rfl rfl lk w6) rfl ?_;refine bt.later rfl ?_;refine aL (i:=5) af ?_;refine fm rfl (cz rfl rfl rfl lk w6) rfl ?_;refine AD.take (i:=6) rfl af af af w4 ay rfl (jN rfl ot w6 aN) c7 dD ?_;refine AD.take (i:=7) rfl af af af w4 ay rfl (jm rfl ot) c7 dD ?_;refine cg [(3,_)] [⟨I,113,3,[_,_,_]⟩] ?_;refine bO af ?_;refine aC ?_;refine ah ?_;refine aa ?_;refine ae e9 ?_;refine au [52] ?_;refine fe ot w6 ?_;refine ah ?_;refine aa ?_;refine au [2] ?_;refine aI ?_;refine bl ?_;refine⟨vi ?_,rfl⟩;try simp only[ec] at *
  simp only[dZ,eO];try simp_all
  try omega
 have bQ:=ck
 (try simp only[V.ai,ne_eq] at bQ)
 refine ah ?_;refine aa ?_;refine au [2] ?_;refine aI ?_;refine bl ?_;refine⟨vi ?_,rfl⟩;try simp only[ec] at *
 simp only[dZ,eO];try simp_all
 try omega
theorem Gj : ∀ w, ((#[{ name := "Kind", type := 3, offset := 0, embedded := false, tag := "", pkgPath := "", byteOffset := 0 }, { name := "Text", type := 9, offset := 1, embedded := false, tag := "", pkgPath := "", byteOffset := 8 }, { name := "Int", type := 3, offset := 2, embedded := false, tag := "", pkgPath := "", byteOffset := 24 }] : Array Field).mapM fun f => do pure (f.offset, ← sizeOf f.type) : Sem (Array (Nat × Nat))).run Tryz.prog w = .ok #[(0, 1), (1, 1), (2, 1)] w := fun w => by simp [sizeOf3, sizeOf9]
theorem mj(hm:(1,marksC)∈G)(hw:(0,wordsC)∈G)(s:ByteArray)(hs:s.size<=maxLen):VP Tryz.prog G 22 [bT s] (ag (dA s)):=by
 refine cf func22 rfl ntmps22 aF fun U w0 O=>?_;refine ah ?_;refine aa ?_;refine au [0] ?_;refine aC ?_;refine ah ?_;refine aa ?_;refine ae (kg rfl rfl ot runUnderlying9) ?_;refine ae aE ?_;refine aK [(0,_),(5,_)] [] ?_;refine aM ot (fun aA=>?_) (fun aA=>?_)
 ·have I:=aA
  (try simp only[V.ai,ne_eq] at I)
  refine ah ?_;refine aa ?_;refine au [2] ?_;refine aI ?_;refine bl ?_;refine⟨vi ?_,rfl⟩;try simp only[uH] at *
  simp only[dA];first|(rw[if_pos w7];done)|(rw[if_neg w7];cases h1:eO s<;>cases h2:om.any (cM s)<;>simp_all)
 have I:=aA
 (try simp only[V.ai,ne_eq] at I)
 refine aS ?_;refine aC ?_;refine ah ?_;refine aa ?_;refine ae (dc (pl:=[(0,_),(1,_)]) (ds:=[_,_,_]) rfl zeroValue113 runUnderlying113 Gj ⟨rfl,aN,rfl,ot,trivial⟩ rfl rfl) ?_;refine bU call45 (pn hm ⟨1,s,0⟩ hs) ?_;refine ae aE ?_;refine aa ?_;refine dN (t:=10) lk (fun hg10=>?_) (fun hg10=>?_)
 ·have E:=hg10;(try simp only[V.ai,ne_eq] at E)
  refine an ?_;refine an ?_;refine an ?_;refine ae cW ?_;refine aK [(14,_)] [] ?_;refine fe ot w6 ?_;refine ah ?_;refine aa ?_;refine au [2] ?_;refine aI ?_;refine bl ?_;refine⟨vi ?_,rfl⟩;try simp only[uH] at *
  simp only[dA];first|(rw[if_pos w7];done)|(rw[if_neg w7];cases h1:eO s<;>cases h2:om.any (cM s)<;>simp_all)
 have E:=hg10;(try simp only[V.ai,ne_eq] at E)
 refine gE dH rfl (fH (l:=0) (h:=0) rfl mh trivial trivial (by first|exact CU (ls:=om) (g:=cS) hw rfl rfl runUnderlying115 sizeOf9 rfl cc cc)) ?_;refine aa ?_;refine qx dH rfl rfl rfl call46 (uD om s cc) ⟨ot,ot,trivial⟩ ?_;refine ae bC ?_;refine aK [(14,_)] [] ?_;refine aM ot (fun aG=>?_) (fun aG=>?_)
 ·have M:=aG
  (try simp only[V.ai,ne_eq] at M)
  refine ah ?_;refine aa ?_;refine au [2] ?_;refine aI ?_;refine bl ?_;refine⟨vi ?_,rfl⟩;try simp only[uH] at *
  simp only[dA];first|(rw[if_pos w7];done)|(rw[if_neg w7];cases h1:eO s<;>cases h2:om.any (cM s)<;>simp_all)
 have M:=aG
 (try simp only[V.ai,ne_eq] at M)
 refine aS ?_;refine ah ?_;refine aa ?_;refine au [2] ?_;refine aI ?_;refine bl ?_;refine⟨vi ?_,rfl⟩;try simp only[uH] at *
 simp only[dA];first|(rw[if_pos w7];done)|(rw[if_neg w7];cases h1:eO s<;>cases h2:om.any (cM s)<;>simp_all)
abbrev MarksTab(w:World):Prop:=Tab.iM w 1 marksC
open Pk
abbrev WordsTab(w:World):Prop:=Tab.iM w 0 wordsC
end Nm
namespace Vl
open Go.Proofs.Tryz
open Go.RowKit V Pk
structure Vl where
 k:Int
 n:Int
 s:ByteArray
def cV(v:Vl):List D:=[ag v.k,ag v.n,bT v.s]
theorem iJ(v:Vl):(cV v).length=3:=rfl
theorem J2(v:Vl):(cV v).all V.one=true:=rfl
def jw:Vl:=⟨0,0,⟨#[]⟩⟩
def iS(v:Vl):Int :=
 if v.k=0 then (if v.n≠0\/v.s.size≠0 then 6 else 0)
 else if v.k=1 then (if v.n<0\/v.n>1\/v.s.size≠0 then 6 else 0)
 else if v.k=2 then (if v.s.size≠0 then 6 else 0)
 else if v.k=3 then (if v.n≠0 then 6 else if v.s.size>20 then 1 else 0)
 else 2
variable {G:List (Nat×List Value)}
theorem pn(v:Vl):VP Tryz.prog G 49 [.agg (cV v)] (ag (iS v)):=by
 refine cf func49 rfl ntmps49 aF fun X0 w0 dm=>?_;unfold cV;refine ah ?_;refine fI (ds:=[_,_,_]) ay rfl rfl ot rfl rfl (fun b1=>?_);refine aa ?_;refine aK [(1,_)] [⟨b1,127,3,[_,_,_]⟩] ?_;refine aC ?_;refine ah ?_;refine ae (aB 0) ?_;refine ae (aH 0) ?_;refine au [1,4] ?_;refine bZ ?_;refine ah ?_;refine ae aE ?_;refine aa ?_;refine au [1,4,5] ?_;refine aM ot (fun aA=>?_) (fun aA=>?_)
 ·have O:=aA
  (try simp only[V.ai,ne_eq] at O)
  refine ah ?_;refine ae (aB 1) ?_;refine ae (aH 0) ?_;refine ae aE ?_;refine aa ?_;refine dN (t:=10) lk (fun hg10=>?_) (fun hg10=>?_)
  ·have E:=hg10;(try simp only[V.ai,ne_eq] at E)
   refine an ?_;refine an ?_;refine an ?_;refine ae cW ?_;refine au [14] ?_;refine fe ot w6 ?_;refine ah ?_;refine aa ?_;refine au [2] ?_;refine aI ?_;refine bl ?_;refine⟨vi ?_,rfl⟩;try simp only[ec] at *
   unfold iS;simp_all;try omega
  have E:=hg10;(try simp only[V.ai,ne_eq] at E)
  refine ae (aB 2) ?_;refine ae (aH 0) ?_;refine ae aE ?_;refine ae bC ?_;refine au [14] ?_;refine aM ot (fun aG=>?_) (fun aG=>?_)
  ·have U:=aG
   (try simp only[V.ai,ne_eq] at U)
   refine ah ?_;refine aa ?_;refine au [2] ?_;refine aI ?_;refine bl ?_;refine⟨vi ?_,rfl⟩;try simp only[ec] at *
   unfold iS;simp_all;try omega
  have U:=aG
  (try simp only[V.ai,ne_eq] at U)
  refine aS ?_;refine ah ?_;refine aa ?_;refine au [2] ?_;refine aI ?_;refine bl ?_;refine⟨vi ?_,rfl⟩;try simp only[ec] at *
  unfold iS;simp_all;try omega
 have O:=aA
 (try simp only[V.ai,ne_eq] at O)
 refine ah ?_;refine ae aE ?_;refine aa ?_;refine au [1,4,15] ?_;refine aM ot (fun bJ=>?_) (fun bJ=>?_)
 ·have aX:=bJ
  (try simp only[V.ai,ne_eq] at aX)
  refine ah ?_;refine ae (aB 1) ?_;refine ae (aH 0) ?_;refine ae aE ?_;refine aa ?_;refine dN (t:=20) lk (fun Y=>?_) (fun Y=>?_)
  ·have I:=Y;(try simp only[V.ai,ne_eq] at I)
   refine an ?_;refine an ?_;refine an ?_;refine ae cW ?_;refine aa ?_;refine an ?_;refine an ?_;refine an ?_;refine ae cW ?_;refine au [29] ?_;refine fe ot w6 ?_;refine ah ?_;refine aa ?_;refine au [2] ?_;refine aI ?_;refine bl ?_;refine⟨vi ?_,rfl⟩;try simp only[ec] at *
   unfold iS;simp_all;try omega
  have I:=Y;(try simp only[V.ai,ne_eq] at I)
  refine ae (aB 1) ?_;refine ae (aH 0) ?_;refine ae aE ?_;refine ae bC ?_;refine aa ?_;refine dN (t:=25) lk (fun Z=>?_) (fun Z=>?_)
  ·have M:=Z;(try simp only[V.ai,ne_eq] at M)
   refine an ?_;refine an ?_;refine an ?_;refine ae cW ?_;refine au [29] ?_;refine fe ot w6 ?_;refine ah ?_;refine aa ?_;refine au [2] ?_;refine aI ?_;refine bl ?_;refine⟨vi ?_,rfl⟩;try simp only[ec] at *
   unfold iS;simp_all;try omega
  have M:=Z;(try simp only[V.ai,ne_eq] at M)
  refine ae (aB 2) ?_;refine ae (aH 0) ?_;refine ae aE ?_;refine ae bC ?_;refine au [29] ?_;refine aM ot (fun ct=>?_) (fun ct=>?_)
  ·have bu:=ct
   (try simp only[V.ai,ne_eq] at bu)
   refine ah ?_;refine aa ?_;refine au [2] ?_;refine aI ?_;refine bl ?_;refine⟨vi ?_,rfl⟩;try simp only[ec] at *
   unfold iS;simp_all;try omega
  have bu:=ct
  (try simp only[V.ai,ne_eq] at bu)
  refine aS ?_;refine ah ?_;refine aa ?_;refine au [2] ?_;refine aI ?_;refine bl ?_;refine⟨vi ?_,rfl⟩;try simp only[ec] at *
  unfold iS;simp_all;try omega
 have aX:=bJ
 (try simp only[V.ai,ne_eq] at aX)
 refine ah ?_;refine ae aE ?_;refine aa ?_;refine au [1,4,30] ?_;refine aM ot (fun ck=>?_) (fun ck=>?_)
 ·have bQ:=ck
  (try simp only[V.ai,ne_eq] at bQ)
  refine ah ?_;refine ae (aB 2) ?_;refine ae (aH 0) ?_;refine ae aE ?_;refine au [34] ?_;refine aM ot (fun cl=>?_) (fun cl=>?_)
  ·have bE:=cl
   (try simp only[V.ai,ne_eq] at bE)
   refine ah ?_;refine aa ?_;refine au [2] ?_;refine aI ?_;refine bl ?_;refine⟨vi ?_,rfl⟩;try simp only[ec] at *
   unfold iS;simp_all;try omega
  have bE:=cl
  (try simp only[V.ai,ne_eq] at bE)
  refine aS ?_;refine ah ?_;refine aa ?_;refine au [2] ?_;refine aI ?_;refine bl ?_;refine⟨vi ?_,rfl⟩;try simp only[ec] at *
  unfold iS;simp_all;try omega
 have bQ:=ck
 (try simp only[V.ai,ne_eq] at bQ)
 refine ah ?_;refine ae aE ?_;refine aa ?_;refine au [1,35] ?_;refine aM ot (fun dn=>?_) (fun dn=>?_)
 ·have eZ:=dn
  (try simp only[V.ai,ne_eq] at eZ)
  refine aC ?_;refine ah ?_;refine ae (aB 1) ?_;refine ae (aH 0) ?_;refine ae aE ?_;refine au [1,39] ?_;refine aM ot (fun gA=>?_) (fun gA=>?_)
  ·have kC:=gA
   (try simp only[V.ai,ne_eq] at kC)
   refine ah ?_;refine aa ?_;refine au [2] ?_;refine aI ?_;refine bl ?_;refine⟨vi ?_,rfl⟩;try simp only[ec] at *
   unfold iS;simp_all;try omega
  have kC:=gA
  (try simp only[V.ai,ne_eq] at kC)
  refine aS ?_;refine ah ?_;refine ae (aB 2) ?_;refine ae (aH 0) ?_;refine ae (kg rfl rfl ot runUnderlying9) ?_;refine ae aE ?_;refine aK [(43,_)] [⟨b1,127,3,[_,_,_]⟩] ?_;refine aM ot (fun iz=>?_) (fun iz=>?_)
  ·have lM:=iz
   (try simp only[V.ai,ne_eq] at lM)
   refine ah ?_;refine aa ?_;refine au [2] ?_;refine aI ?_;refine bl ?_;refine⟨vi ?_,rfl⟩;try simp only[ec] at *
   unfold iS;simp_all;try omega
  have lM:=iz
  (try simp only[V.ai,ne_eq] at lM)
  refine aS ?_;refine ah ?_;refine aa ?_;refine au [2] ?_;refine aI ?_;refine bl ?_;refine⟨vi ?_,rfl⟩;try simp only[ec] at *
  unfold iS;simp_all;try omega
 have eZ:=dn
 (try simp only[V.ai,ne_eq] at eZ)
 refine ah ?_;refine aa ?_;refine au [2] ?_;refine aI ?_;refine bl ?_;refine⟨vi ?_,rfl⟩;try simp only[ec] at *
 unfold iS;simp_all;try omega
end Vl
namespace Nm
open Go.Proofs.Tryz
open Go.RowKit V Pk Vl
variable {i:Nat} {h:Int}
theorem J3(x y:Vl):∀w,(Op.equalIn 10000 127 (.agg [.int .i64 x.k,.int .i64 x.n,.string x.s].toArray) (.agg [.int .i64 y.k,.int .i64 y.n,.string y.s].toArray)).run Tryz.prog w = .ok (x.k==y.k&&(x.n==y.n&&x.s.toList==y.s.toList)) w:=fun w=>by
 have hS:Tryz.prog.underlying 127=some (.struct (Tryz.prog.fieldsOf 127)):=(by kernel_rfl)
 have hp:Tryz.prog.stoodInHeld 127=false:=(by kernel_rfl)
 rw[show(10000:Nat)=9999+1 from rfl,run_equalIn_agg w 9999 127 _ _ hS hp];have u:=underlying127;have I:=underlying3;have M:=underlying9;have O:=isAgg3;have U:=isAgg9;have Y:=sizeOf3;have Z:=sizeOf9;simp only[Program.fieldsOf,u];go_simp
 by_cases h1:x.k=y.k<;>by_cases h2:x.n=y.n<;>by_cases E:x.s.toList=y.s.toList<;>simp[h1,h2,E]
def iv(v:Vl):Int:=if v.k=2/\v.n = -9223372036854775808 then 3 else iS v
structure aZ where
 k:Int
 v:Vl
 nm:ByteArray
variable {l:List aZ}
def cO(o:aZ):List D:=[ag o.k,ag o.v.k,ag o.v.n,bT o.v.s,bT o.nm]
theorem nu(o:aZ):(cO o).length=5:=rfl
theorem yE(o:aZ):(cO o).all V.one=true:=rfl
def fS(k:Int):Int:=if k=1\/k=2 then 0 else if k=5\/k=11 then 1 else 2
theorem u9(k:Int):0<=fS k/\fS k<=2:=by unfold fS;split<;>(try split)<;>omega
def zeroV(v:Vl):Bool:=v.k==0&&(v.n==0&&v.s.toList==(⟨#[]⟩:ByteArray).toList)
def gr(h:Int)(o:aZ):Int :=
 if o.k<1\/o.k>11 then 2
 else if iv o.v≠0 then iv o.v
 else if ((o.k != 1 && !(zeroV o.v))||(o.k != 2 && !(o.nm.toList==(⟨#[]⟩:ByteArray).toList)))=true then 6
 else if o.k=2/\dA o.nm≠0 then dA o.nm
 else if h<fS o.k then 7 else 0
def gb:Int->List aZ->Int
 | h,[]=>if h=1 then 0 else 7
 | h,o::r=>if gr h o=0 then gb (h+(1-fS o.k)) r else gr h o
def kx(l:List aZ):Int:=if l.length>40 then 10 else gb 0 l
theorem Cl(hi:i<l.length)(he:gr h l[i]=0):gb h (l.drop i)=gb (h+(1-fS l[i].k)) (l.drop (i+1)):=by
 rw[drop_eq_getElem_cons hi,gb,if_pos he]
theorem nk{e:Int}(hi:i<l.length)(he:gr h l[i]=e)(h0:e≠0):gb h (l.drop i)=e:=by
 rw[drop_eq_getElem_cons hi,gb,if_neg (by rw[he];exact h0),he]
theorem B1(hi:l.length<=i):gb h (l.drop i)=if h=1 then 0 else 7:=by
 rw[drop_of_length_le hi,gb]
variable {G:List (Nat×List Value)}
theorem BM(v:Vl):VP Tryz.prog G 187 [.agg (cV v)] (ag (iv v)):=by
 refine cf func187 rfl ntmps187 aF fun U w0 O=>?_;unfold cV;refine ah ?_;refine fI (ds:=[_,_,_]) ay rfl rfl ot rfl rfl (fun M=>?_);refine aa ?_;refine aK [(1,_)] [⟨M,127,3,[_,_,_]⟩] ?_;refine aC ?_;refine ah ?_;refine ae (aB 0) ?_;refine ae (aH 0) ?_;refine ae aE ?_;refine aa ?_;refine dN (t:=6) lk (fun hg6=>?_) (fun hg6=>?_)
 ·have E:=hg6;(try simp only[V.ai,ne_eq] at E)
  refine ae (aB 1) ?_;refine ae (aH 0) ?_;refine ae aE ?_;refine ae cW ?_;refine au [1,10] ?_;refine aM ot (fun aA=>?_) (fun aA=>?_)
  ·have I:=aA
   (try simp only[V.ai,ne_eq] at I)
   refine ah ?_;refine aa ?_;refine au [2] ?_;refine aI ?_;refine bl ?_;refine⟨vi ?_,rfl⟩;unfold iv;simp_all
  have I:=aA
  (try simp only[V.ai,ne_eq] at I)
  refine aS ?_;refine ah ?_;refine ae (fw 0 [_,_,_]) ?_;refine bU call49 (Vl.pn v) ?_;refine aa ?_;refine aK [(2,_)] [⟨M,127,3,[_,_,_]⟩] ?_;refine aI ?_;refine⟨.inr rfl,en results187 ?_⟩;refine⟨vi ?_,rfl⟩;unfold iv;simp_all
 have E:=hg6;(try simp only[V.ai,ne_eq] at E)
 refine an ?_;refine an ?_;refine an ?_;refine ae bC ?_;refine au [1,10] ?_;refine iG ot w6 ?_;refine aS ?_;refine ah ?_;refine ae (fw 0 [_,_,_]) ?_;refine bU call49 (Vl.pn v) ?_;refine aa ?_;refine aK [(2,_)] [⟨M,127,3,[_,_,_]⟩] ?_;refine aI ?_;refine⟨.inr rfl,en results187 ?_⟩;refine⟨vi ?_,rfl⟩;unfold iv;simp_all
theorem yt(k:Int):VP Tryz.prog G 189 [ag k] (ag (fS k)):=by
 refine cf func189 rfl ntmps189 aF fun Y w0 U=>?_;refine ah ?_;refine aa ?_;refine au [0] ?_;refine aC ?_;refine ah ?_;refine aa ?_;refine au [3] ?_;refine bZ ?_;refine aC ?_;refine ah ?_;refine ae aE ?_;refine aa ?_;refine au [3,4] ?_;refine aM ot (fun aA=>?_) (fun aA=>?_)
 ·have E:=aA
  (try simp only[V.ai,ne_eq] at E)
  refine aS ?_;refine fe ot w6 ?_;refine ah ?_;refine aa ?_;refine au [2] ?_;refine aI ?_;refine bl ?_;refine⟨vi ?_,rfl⟩;unfold fS;simp_all
 have E:=aA
 (try simp only[V.ai,ne_eq] at E)
 refine aV ?_;refine ae aE ?_;refine aa ?_;refine au [3,4] ?_;refine aM ot (fun aG=>?_) (fun aG=>?_)
 ·have I:=aG
  (try simp only[V.ai,ne_eq] at I)
  refine ah ?_;refine aa ?_;refine au [2] ?_;refine aI ?_;refine bl ?_;refine⟨vi ?_,rfl⟩;unfold fS;simp_all
 have I:=aG
 (try simp only[V.ai,ne_eq] at I)
 refine aC ?_;refine ah ?_;refine ae aE ?_;refine aa ?_;refine au [3,7] ?_;refine aM ot (fun M=>?_) (fun M=>?_)
 ·have aX:=M
  (try simp only[V.ai,ne_eq] at aX)
  refine aS ?_;refine fe ot w6 ?_;refine ah ?_;refine aa ?_;refine au [2] ?_;refine aI ?_;refine bl ?_;refine⟨vi ?_,rfl⟩;unfold fS;simp_all
 have aX:=M
 (try simp only[V.ai,ne_eq] at aX)
 refine aV ?_;refine ae aE ?_;refine aa ?_;refine au [7] ?_;refine aM ot (fun O=>?_) (fun O=>?_)
 ·have bu:=O
  (try simp only[V.ai,ne_eq] at bu)
  refine ah ?_;refine aa ?_;refine au [2] ?_;refine aI ?_;refine bl ?_;refine⟨vi ?_,rfl⟩;unfold fS;simp_all
 have bu:=O
 (try simp only[V.ai,ne_eq] at bu)
 refine aS ?_;refine ah ?_;refine aa ?_;refine au [2] ?_;refine aI ?_;refine bl ?_;refine⟨vi ?_,rfl⟩;unfold fS;simp_all
theorem Gk : ∀ w, ((#[{ name := "Kind", type := 3, offset := 0, embedded := false, tag := "", pkgPath := "", byteOffset := 0 }, { name := "Int", type := 3, offset := 1, embedded := false, tag := "", pkgPath := "", byteOffset := 8 }, { name := "Text", type := 9, offset := 2, embedded := false, tag := "", pkgPath := "", byteOffset := 16 }] : Array Field).mapM fun f => do pure (f.offset, ← sizeOf f.type) : Sem (Array (Nat × Nat))).run Tryz.prog w = .ok #[(0, 1), (1, 1), (2, 1)] w := fun w => by simp [sizeOf3, sizeOf9]
theorem CZ(hm:(1,marksC)∈G)(hw:(0,wordsC)∈G)(l:List aZ)(hs:∀o∈l,o.nm.size<=maxLen):VP Tryz.prog G 128 [av 5 cO l] (ag (kx l)):=by
 refine cf func128 rfl ntmps128 aF fun X0 w0 dm=>?_;have N4:l.length<=40\/40<l.length:=(by omega)
 refine ah ?_;refine aa ?_;refine au [0] ?_;refine aC ?_;refine ah ?_;refine aa ?_;refine ae cZ ?_;refine ae aE ?_;refine au [0,10] ?_;refine aM ot (fun aA=>?_) (fun aA=>?_)
 ·have dJ:=aA
  (try simp only[V.ai,ne_eq] at dJ)
  have hf:kx l=10:=if_pos w7;refine ah ?_;refine aa ?_;refine au [2] ?_;refine aI ?_;refine bl ?_;refine⟨vi ?_,rfl⟩;first|exact hf.symm|(rw[hf,hx,nk aD I nH];done)|(rw[hf,E,if_pos iy];done)|(rw[hf,E,if_neg iy];done)
 have dJ:=aA
 (try simp only[V.ai,ne_eq] at dJ)
 have hf:kx l=gb 0 l:=if_neg w7;have fN:l.length<=40:=(by omega)
 refine aS ?_;refine ah ?_;refine aa ?_;refine au [0,3] ?_;refine aC ?_;refine ah ?_;refine aa ?_;refine ae cZ ?_;refine aa ?_;refine au [3,11,12,13] ?_;refine bZ ?_;refine fa (fun (gU:Nat×Int) cn=>match gU with|(i,h)=>(i<=l.length)/\(gb 0 l=gb h (l.drop i))/\(0<=h)/\(h<=i)/\cn=(⟨73,[(3,ag h),(11,av 5 cO l),(12,ag l.length),(13,ag (i:Nat))],[]⟩:St)) (fun (gU:Nat×Int)=>match gU with|(i,h)=>l.length-i) (0,0) ⟨(Nat.zero_le _),rfl,(Int.le_refl _),(Int.le_refl _),rfl⟩ (Wk.bI rfl eB gx) ?_;rintro⟨i,h⟩ _ ⟨hi,hx,h0,hh,rfl⟩;refine ah ?_;refine ae aE ?_;refine au [3,11,12,13,14] ?_;refine aC ?_;refine aM ot (fun aG=>?_) (fun aG=>?_)
 ·have cA:=aG
  (try simp only[V.ai,ne_eq] at cA)
  have aD:i<l.length:=(by omega)
  have Fm:=u9 l[i].k;refine aS ?_;refine aC ?_;refine bZ ?_;refine ah ?_;refine ae (dW 5) ?_;refine ae (we [_,_,_,_,_]) ?_;refine eo (ds:=[_,_,_,_,_]) ay rfl rfl zeroValue287 rfl (fun U=>?_);refine bn 0 [_,_,_,_,_] sizeOf287 ?_;refine aK [(3,_),(5,_),(11,_),(12,_),(13,_)] [⟨U,287,5,[_,_,_,_,_]⟩] ?_;refine aC ?_;refine ah ?_;refine ae (aB 0) ?_;refine ae (aH 0) ?_;refine ae aE ?_;refine aa ?_;refine dN (t:=20) lk (fun za=>?_) (fun za=>?_)
  ·have Z:=za;(try simp only[V.ai,ne_eq] at Z)
   refine an ?_;refine an ?_;refine an ?_;refine ae cW ?_;refine au [3,5,11,12,13,24] ?_;refine fe ot w6 ?_;have I:gr h l[i]=2:=(by unfold gr;rw[if_pos w7])
   refine ah ?_;refine aa ?_;refine au [2] ?_;refine aI ?_;refine bl ?_;refine⟨vi ?_,rfl⟩;first|exact hf.symm|(rw[hf,hx,nk aD I nH];done)|(rw[hf,E,if_pos iy];done)|(rw[hf,E,if_neg iy];done)
  have Z:=za;(try simp only[V.ai,ne_eq] at Z)
  refine ae (aB 0) ?_;refine ae (aH 0) ?_;refine ae aE ?_;refine ae bC ?_;refine au [3,5,11,12,13,24] ?_;refine aM ot (fun bJ=>?_) (fun bJ=>?_)
  ·have aX:=bJ
   (try simp only[V.ai,ne_eq] at aX)
   have I:gr h l[i]=2:=(by unfold gr;rw[if_pos w7])
   refine ah ?_;refine aa ?_;refine au [2] ?_;refine aI ?_;refine bl ?_;refine⟨vi ?_,rfl⟩;first|exact hf.symm|(rw[hf,hx,nk aD I nH];done)|(rw[hf,E,if_pos iy];done)|(rw[hf,E,if_neg iy];done)
  have aX:=bJ
  (try simp only[V.ai,ne_eq] at aX)
  have rM:¬(l[i].k<1\/l[i].k>11):=(by omega)
  refine aS ?_;refine aC ?_;refine ah ?_;refine ae (aB 1) ?_;refine ae (fw 0 [_,_,_]) ?_;refine bU call187 (BM l[i].v) ?_;refine aa ?_;refine aK [(3,_),(5,_),(6,_),(11,_),(12,_),(13,_)] [⟨U,287,5,[_,_,_,_,_]⟩] ?_;refine ah ?_;refine aa ?_;refine ae aE ?_;refine au [3,5,6,11,12,13,29] ?_;refine aM ot (fun ct=>?_) (fun ct=>?_)
  ·have bu:=ct
   (try simp only[V.ai,ne_eq] at bu)
   have Y:iv l[i].v≠0:=(by simpa using ct)
   have I:gr h l[i]=iv l[i].v:=(by unfold gr;rw[if_neg rM,if_pos Y])
   refine ah ?_;refine aa ?_;refine aa ?_;refine au [2] ?_;refine aI ?_;refine bl ?_;refine⟨vi ?_,rfl⟩;first|exact hf.symm|(rw[hf,hx,nk aD I nH];done)|(rw[hf,E,if_pos iy];done)|(rw[hf,E,if_neg iy];done)
  have bu:=ct
  (try simp only[V.ai,ne_eq] at bu)
  have Y:iv l[i].v=0:=(by simpa using ct)
  refine aS ?_;refine aC ?_;refine nv (fun cn=>∃(q:Bool),(q=((l[i].k != 1 && !(zeroV l[i].v))||(l[i].k != 2 && !(l[i].nm.toList==(⟨#[]⟩:ByteArray).toList))))/\cn=(⟨73,[(3,ag h),(5,bD U),(11,av 5 cO l),(12,ag l.length),(13,ag (i:Nat)),(49,bw q)],[⟨U,287,5,[ag l[i].k,ag l[i].v.k,ag l[i].v.n,bT l[i].v.s,bT l[i].nm]⟩]⟩:St)) ?_ ?_
  ·refine aV ?_;refine ae (aB 0) ?_;refine ae (aH 0) ?_;refine ae aE ?_;refine aa ?_;refine dN (t:=34) lk (fun zb=>?_) (fun zb=>?_)
   ·have yK:=zb;(try simp only[V.ai,ne_eq] at yK)
    refine ae (aB 1) ?_;refine ae (fw 0 [_,_,_]) ?_;refine gE dH rfl (dc (pl:=[]) (ds:=[_,_,_]) rfl zeroValue127 runUnderlying127 Gk trivial rfl rfl) ?_;refine gE dH rfl (Hq (us:=[_,_,_]) (Al:=[_,_,_]) rfl ot ot eqGuardType127 (J3 l[i].v ⟨0,0,⟨#[]⟩⟩)) ?_;refine ae cW ?_;refine aa ?_;refine dN (t:=40) lk (fun zc=>?_) (fun zc=>?_)
    ·have yL:=zc;(try simp only[V.ai,ne_eq] at yL)
     refine an ?_;refine an ?_;refine an ?_;refine an ?_;refine oI ?_;refine oI ?_;refine oI ?_;refine an ?_;refine ae cW ?_;refine aK [(3,_),(5,_),(11,_),(12,_),(13,_),(49,_)] [⟨U,287,5,[_,_,_,_,_]⟩] ?_;refine⟨(⟨73,[(3,ag h),(5,bD U),(11,av 5 cO l),(12,ag l.length),(13,ag (i:Nat)),(49,bw (_))],[⟨U,287,5,[ag l[i].k,ag l[i].v.k,ag l[i].v.n,bT l[i].v.s,bT l[i].nm]⟩]⟩:St),Wk.bI (n:=73) rfl eB gx,_,tE,rfl⟩
    have yL:=zc;(try simp only[V.ai,ne_eq] at yL)
    refine ae (aB 0) ?_;refine ae (aH 0) ?_;refine ae aE ?_;refine aa ?_;refine dN (t:=44) lk (fun O=>?_) (fun O=>?_)
    ·have M:=O;(try simp only[V.ai,ne_eq] at M)
     refine ae (aB 4) ?_;refine ae (aH 0) ?_;refine ae aE ?_;refine ae cW ?_;refine ae bC ?_;refine aK [(3,_),(5,_),(11,_),(12,_),(13,_),(49,_)] [⟨U,287,5,[_,_,_,_,_]⟩] ?_;refine⟨(⟨73,[(3,ag h),(5,bD U),(11,av 5 cO l),(12,ag l.length),(13,ag (i:Nat)),(49,bw (_))],[⟨U,287,5,[ag l[i].k,ag l[i].v.k,ag l[i].v.n,bT l[i].v.s,bT l[i].nm]⟩]⟩:St),Wk.bI (n:=73) rfl eB gx,_,tE,rfl⟩
    have M:=O;(try simp only[V.ai,ne_eq] at M)
    refine an ?_;refine an ?_;refine an ?_;refine ae bC ?_;refine ae bC ?_;refine aK [(3,_),(5,_),(11,_),(12,_),(13,_),(49,_)] [⟨U,287,5,[_,_,_,_,_]⟩] ?_;refine⟨(⟨73,[(3,ag h),(5,bD U),(11,av 5 cO l),(12,ag l.length),(13,ag (i:Nat)),(49,bw (_))],[⟨U,287,5,[ag l[i].k,ag l[i].v.k,ag l[i].v.n,bT l[i].v.s,bT l[i].nm]⟩]⟩:St),Wk.bI (n:=73) rfl eB gx,_,tE,rfl⟩
   have yK:=zb;(try simp only[V.ai,ne_eq] at yK)
   refine an ?_;refine an ?_;refine an ?_;refine an ?_;refine ae bC ?_;refine aa ?_;refine ae (aB 0) ?_;refine ae (aH 0) ?_;refine ae aE ?_;refine aa ?_;refine dN (t:=44) lk (fun O=>?_) (fun O=>?_)
   ·have M:=O;(try simp only[V.ai,ne_eq] at M)
    refine ae (aB 4) ?_;refine ae (aH 0) ?_;refine ae aE ?_;refine ae cW ?_;refine ae bC ?_;refine au [3,5,11,12,13,49] ?_;refine⟨(⟨73,[(3,ag h),(5,bD U),(11,av 5 cO l),(12,ag l.length),(13,ag (i:Nat)),(49,bw (_))],[⟨U,287,5,[ag l[i].k,ag l[i].v.k,ag l[i].v.n,bT l[i].v.s,bT l[i].nm]⟩]⟩:St),Wk.bI (n:=73) rfl eB gx,_,tE,rfl⟩
   have M:=O;(try simp only[V.ai,ne_eq] at M)
   refine an ?_;refine an ?_;refine an ?_;refine ae bC ?_;refine ae bC ?_;refine au [3,5,11,12,13,49] ?_;refine⟨(⟨73,[(3,ag h),(5,bD U),(11,av 5 cO l),(12,ag l.length),(13,ag (i:Nat)),(49,bw (_))],[⟨U,287,5,[ag l[i].k,ag l[i].v.k,ag l[i].v.n,bT l[i].v.s,bT l[i].nm]⟩]⟩:St),Wk.bI (n:=73) rfl eB gx,_,tE,rfl⟩
  rintro _ ⟨q,hq,rfl⟩;refine aM ot (fun ck=>?_) (fun ck=>?_)
  ·have bQ:=ck
   (try simp only[V.ai,ne_eq] at bQ)
   have I:gr h l[i]=6:=(by unfold gr;rw[if_neg rM,if_neg (by rw[Y];simp),if_pos (by rw[<-hq];exact ck)])
   refine ah ?_;refine aa ?_;refine au [2] ?_;refine aI ?_;refine bl ?_;refine⟨vi ?_,rfl⟩;first|exact hf.symm|(rw[hf,hx,nk aD I nH];done)|(rw[hf,E,if_pos iy];done)|(rw[hf,E,if_neg iy];done)
  have bQ:=ck
  (try simp only[V.ai,ne_eq] at bQ)
  have yM:¬((l[i].k != 1 && !(zeroV l[i].v))||(l[i].k != 2 && !(l[i].nm.toList==(⟨#[]⟩:ByteArray).toList)))=true:=(by rw[<-hq,ck];simp)
  refine aS ?_;refine nv (fun cn=>(¬(l[i].k=2/\dA l[i].nm≠0))/\cn=(⟨73,[(3,ag h),(5,bD U),(11,av 5 cO l),(12,ag l.length),(13,ag (i:Nat))],[⟨U,287,5,[ag l[i].k,ag l[i].v.k,ag l[i].v.n,bT l[i].v.s,bT l[i].nm]⟩]⟩:St)) ?_ ?_
  ·refine ah ?_;refine ae (aB 0) ?_;refine ae (aH 0) ?_;refine ae aE ?_;refine au [3,5,11,12,13,52] ?_;refine aM ot (fun cl=>?_) (fun cl=>?_)
   ·have bE:=cl
    (try simp only[V.ai,ne_eq] at bE)
    refine ah ?_;refine ae (aB 4) ?_;refine ae (aH 0) ?_;refine bU call22 (mj hm hw l[i].nm (hs _ (getElem_mem aD))) ?_;refine aa ?_;refine aK [(3,_),(5,_),(7,_),(11,_),(12,_),(13,_)] [⟨U,287,5,[_,_,_,_,_]⟩] ?_;refine ah ?_;refine aa ?_;refine ae aE ?_;refine au [3,5,7,11,12,13,57] ?_;refine aM ot (fun dn=>?_) (fun dn=>?_)
    ·have eZ:=dn
     (try simp only[V.ai,ne_eq] at eZ)
     have wA:dA l[i].nm≠0:=(by simpa using dn)
     have I:gr h l[i]=dA l[i].nm:=(by unfold gr;rw[if_neg rM,if_neg (by rw[Y];simp),if_neg yM,if_pos ⟨by simpa using cl,wA⟩])
     refine ah ?_;refine aa ?_;refine aa ?_;refine au [2] ?_;refine aI ?_;refine bl ?_;refine⟨vi ?_,rfl⟩;first|exact hf.symm|(rw[hf,hx,nk aD I nH];done)|(rw[hf,E,if_pos iy];done)|(rw[hf,E,if_neg iy];done)
    have eZ:=dn
    (try simp only[V.ai,ne_eq] at eZ)
    have mS:¬(l[i].k=2/\dA l[i].nm≠0):=(by simp at dn;simp[dn])
    refine aS ?_;refine⟨_,?_,mS,rfl⟩;exact Wk.bI (n:=73) rfl eB gx
   have bE:=cl
   (try simp only[V.ai,ne_eq] at bE)
   have mS:¬(l[i].k=2/\dA l[i].nm≠0):=(by simp at cl;simp[cl])
   refine aS ?_;refine⟨_,?_,mS,rfl⟩;exact Wk.bI (n:=73) rfl eB gx
  rintro _ ⟨mS,rfl⟩;refine aC ?_;refine ah ?_;refine aa ?_;refine ae (aB 0) ?_;refine ae (aH 0) ?_;refine bU call189 (yt l[i].k) ?_;refine ae aE ?_;refine aK [(3,_),(5,_),(11,_),(12,_),(13,_),(63,_)] [⟨U,287,5,[_,_,_,_,_]⟩] ?_;refine aM ot (fun gA=>?_) (fun gA=>?_)
  ·have kC:=gA
   (try simp only[V.ai,ne_eq] at kC)
   have tK:h<fS l[i].k:=(by simpa using gA)
   have I:gr h l[i]=7:=(by unfold gr;rw[if_neg rM,if_neg (by rw[Y];simp),if_neg yM,if_neg mS,if_pos tK])
   refine ah ?_;refine aa ?_;refine au [2] ?_;refine aI ?_;refine bl ?_;refine⟨vi ?_,rfl⟩;first|exact hf.symm|(rw[hf,hx,nk aD I nH];done)|(rw[hf,E,if_pos iy];done)|(rw[hf,E,if_neg iy];done)
  have kC:=gA
  (try simp only[V.ai,ne_eq] at kC)
  have tK:¬h<fS l[i].k:=(by simpa using gA)
  have gX:gr h l[i]=0:=(by unfold gr;rw[if_neg rM,if_neg (by rw[Y];simp),if_neg yM,if_neg mS,if_neg tK])
  refine aS ?_;refine aV ?_;refine aa ?_;refine ae (aB 0) ?_;refine ae (aH 0) ?_;refine bU call189 (yt l[i].k) ?_;refine ae aE ?_;refine ae aE ?_;refine aa ?_;refine aK [(3,_),(11,_),(12,_),(13,_)] [⟨U,287,5,[_,_,_,_,_]⟩] ?_;refine aV ?_;refine ae aE ?_;refine aa ?_;refine au [3,11,12,13] ?_;refine⟨((i+1),(h+(1-fS l[i].k))),_,?_,?_,w7,(by rw[hx];exact Cl aD gX),w7,(by have:=u9 l[i].k;omega),rfl⟩
  ·first|omega|(simp only[];omega)
  exact Wk.bI (n:=73) rfl eB gx
 have cA:=aG
 (try simp only[V.ai,ne_eq] at cA)
 have E:=hx.trans (B1 (show l.length<=i by omega));refine ep ?_;refine aC ?_;refine ah ?_;refine aa ?_;refine ae aE ?_;refine au [72] ?_;refine aM ot (fun iz=>?_) (fun iz=>?_)
 ·have lM:=iz
  (try simp only[V.ai,ne_eq] at lM)
  refine ah ?_;refine aa ?_;refine au [2] ?_;refine aI ?_;refine bl ?_;refine⟨vi ?_,rfl⟩;first|exact hf.symm|(rw[hf,hx,nk aD I nH];done)|(rw[hf,E,if_pos iy];done)|(rw[hf,E,if_neg iy];done)
 have lM:=iz
 (try simp only[V.ai,ne_eq] at lM)
 refine aS ?_;refine ah ?_;refine aa ?_;refine au [2] ?_;refine aI ?_;refine bl ?_;refine⟨vi ?_,rfl⟩;first|exact hf.symm|(rw[hf,hx,nk aD I nH];done)|(rw[hf,E,if_pos iy];done)|(rw[hf,E,if_neg iy];done)
end Nm
end Go.Proofs.YtomnenkeecbglaaGreatDoor
namespace Go.Proofs
open Go.Shelf
def Tryz.GF:Go.Shelf.Ren:=⟨fun|172=>113|244=>178|245=>179|247=>220|279=>221|280=>222|281=>223|282=>224|287=>250|316=>251|171=>253|205=>252|321=>286|322=>287|243=>288|246=>306|283=>312|284=>313|285=>314|286=>315|129=>269|317=>318|318=>319|319=>320|320=>321|337=>324|338=>325|n=>n,fun|9=>9|3=>3|75=>215|76=>216|4=>4|5=>5|167=>317|37=>83|0=>0|85=>318|2=>2|168=>320|53=>193|175=>339|46=>308|210=>342|127=>337|145=>378|143=>376|21=>21|171=>399|173=>401|212=>405|51=>357|20=>20|213=>406|232=>409|233=>410|80=>221|n=>n,fun|15=>6|16=>7|17=>11|18=>12|19=>13|n=>n⟩
theorem Tryz.Cm:Go.Proofs.LaysC.n172 Tryz.prog Tryz.GF:={
 mixed:=by kernel_rfl
 f129:=Tryz.func269.trans (congrArg some (by kernel_rfl))
 f171:=Tryz.func253.trans (congrArg some (by kernel_rfl))
 f172:=Tryz.func113.trans (congrArg some (by kernel_rfl))
 f205:=Tryz.func252.trans (congrArg some (by kernel_rfl))
 f243:=Tryz.func288.trans (congrArg some (by kernel_rfl))
 f244:=Tryz.func178.trans (congrArg some (by kernel_rfl))
 f245:=Tryz.func179.trans (congrArg some (by kernel_rfl))
 f246:=Tryz.func306.trans (congrArg some (by kernel_rfl))
 f247:=Tryz.func220.trans (congrArg some (by kernel_rfl))
 f279:=Tryz.func221.trans (congrArg some (by kernel_rfl))
 f280:=Tryz.func222.trans (congrArg some (by kernel_rfl))
 f281:=Tryz.func223.trans (congrArg some (by kernel_rfl))
 f282:=Tryz.func224.trans (congrArg some (by kernel_rfl))
 f283:=Tryz.func312.trans (congrArg some (by kernel_rfl))
 f284:=Tryz.func313.trans (congrArg some (by kernel_rfl))
 f285:=Tryz.func314.trans (congrArg some (by kernel_rfl))
 f286:=Tryz.func315.trans (congrArg some (by kernel_rfl))
 f287:=Tryz.func250.trans (congrArg some (by kernel_rfl))
 f316:=Tryz.func251.trans (congrArg some (by kernel_rfl))
 f317:=Tryz.func318.trans (congrArg some (by kernel_rfl))
 f318:=Tryz.func319.trans (congrArg some (by kernel_rfl))
 f319:=Tryz.func320.trans (congrArg some (by kernel_rfl))
 f320:=Tryz.func321.trans (congrArg some (by kernel_rfl))
 f321:=Tryz.func286.trans (congrArg some (by kernel_rfl))
 f322:=Tryz.func287.trans (congrArg some (by kernel_rfl))
 f337:=Tryz.func324.trans (congrArg some (by kernel_rfl))
 f338:=Tryz.func325.trans (congrArg some (by kernel_rfl))
 t0:=Tryz.underlying0
 a0:=Tryz.isAgg0
 z0:=Tryz.sizeOf0
 v0:=Tryz.zeroValue0
 t2:=Tryz.underlying2
 a2:=Tryz.isAgg2
 z2:=Tryz.sizeOf2
 v2:=Tryz.zeroValue2
 t3:=Tryz.underlying3
 a3:=Tryz.isAgg3
 z3:=Tryz.sizeOf3
 v3:=Tryz.zeroValue3
 t4:=Tryz.underlying4
 a4:=Tryz.isAgg4
 z4:=Tryz.sizeOf4
 v4:=Tryz.zeroValue4
 t5:=Tryz.underlying5
 a5:=Tryz.isAgg5
 z5:=Tryz.sizeOf5
 v5:=Tryz.zeroValue5
 t9:=Tryz.underlying9
 a9:=Tryz.isAgg9
 z9:=Tryz.sizeOf9
 v9:=Tryz.zeroValue9
 t20:=Tryz.underlying20
 a20:=Tryz.isAgg20
 z20:=Tryz.sizeOf20
 v20:=Tryz.zeroValue20
 t21:=Tryz.underlying21
 a21:=Tryz.isAgg21
 z21:=Tryz.sizeOf21
 v21:=Tryz.zeroValue21
 t37:=Tryz.underlying83
 a37:=Tryz.isAgg83
 z37:=Tryz.sizeOf83
 v37:=Tryz.zeroValue83
 t46:=Tryz.underlying308
 a46:=Tryz.isAgg308
 z46:=Tryz.sizeOf308
 v46:=Tryz.zeroValue308
 t51:=Tryz.underlying357
 a51:=Tryz.isAgg357
 z51:=Tryz.sizeOf357
 v51:=Tryz.zeroValue357
 t53:=Tryz.underlying193
 a53:=Tryz.isAgg193
 z53:=Tryz.sizeOf193
 v53:=Tryz.zeroValue193
 t75:=Tryz.underlying215
 a75:=Tryz.isAgg215
 z75:=Tryz.sizeOf215
 v75:=Tryz.zeroValue215
 t76:=Tryz.underlying216
 a76:=Tryz.isAgg216
 z76:=Tryz.sizeOf216
 v76:=Tryz.zeroValue216
 t85:=Tryz.underlying318
 a85:=Tryz.isAgg318
 z85:=Tryz.sizeOf318
 v85:=Tryz.zeroValue318
 t127:=Tryz.underlying337
 a127:=Tryz.isAgg337
 z127:=Tryz.sizeOf337
 v127:=Tryz.zeroValue337
 t143:=Tryz.underlying376
 a143:=Tryz.isAgg376
 z143:=Tryz.sizeOf376
 v143:=Tryz.zeroValue376
 t145:=Tryz.underlying378
 a145:=Tryz.isAgg378
 z145:=Tryz.sizeOf378
 v145:=Tryz.zeroValue378
 t167:=Tryz.underlying317
 a167:=Tryz.isAgg317
 z167:=Tryz.sizeOf317
 v167:=Tryz.zeroValue317
 t168:=Tryz.underlying320
 a168:=Tryz.isAgg320
 z168:=Tryz.sizeOf320
 v168:=Tryz.zeroValue320
 t171:=Tryz.underlying399
 a171:=Tryz.isAgg399
 z171:=Tryz.sizeOf399
 v171:=Tryz.zeroValue399
 t173:=Tryz.underlying401
 a173:=Tryz.isAgg401
 z173:=Tryz.sizeOf401
 v173:=Tryz.zeroValue401
 t175:=Tryz.underlying339
 a175:=Tryz.isAgg339
 z175:=Tryz.sizeOf339
 v175:=Tryz.zeroValue339
 t210:=Tryz.underlying342
 a210:=Tryz.isAgg342
 z210:=Tryz.sizeOf342
 v210:=Tryz.zeroValue342
 t212:=Tryz.underlying405
 a212:=Tryz.isAgg405
 z212:=Tryz.sizeOf405
 v212:=Tryz.zeroValue405
 t213:=Tryz.underlying406
 a213:=Tryz.isAgg406
 z213:=Tryz.sizeOf406
 t232:=Tryz.underlying409
 a232:=Tryz.isAgg409
 z232:=Tryz.sizeOf409
 v232:=Tryz.zeroValue409
 t233:=Tryz.underlying410
 a233:=Tryz.isAgg410
 z233:=Tryz.sizeOf410
 v233:=Tryz.zeroValue410
 g15:=by kernel_rfl
 g16:=by kernel_rfl
 g17:=by kernel_rfl
 g18:=by kernel_rfl
 g19:=by kernel_rfl
 t80:=Tryz.underlying221
 a80:=Tryz.isAgg221
 z80:=Tryz.sizeOf221
 v80:=Tryz.zeroValue221
 i0:=by kernel_rfl
 i2:=by kernel_rfl
 i3:=by kernel_rfl
 i4:=by kernel_rfl
 i5:=by kernel_rfl
 i9:=by kernel_rfl
 i20:=by kernel_rfl
 i21:=by kernel_rfl
 i37:=by kernel_rfl
 i46:=by kernel_rfl
 i51:=by kernel_rfl
 i53:=by kernel_rfl
 i75:=by kernel_rfl
 i76:=by kernel_rfl
 i80:=by kernel_rfl
 i85:=by kernel_rfl
 i127:=by kernel_rfl
 i143:=by kernel_rfl
 i145:=by kernel_rfl
 i167:=by kernel_rfl
 i168:=by kernel_rfl
 i171:=by kernel_rfl
 i173:=by kernel_rfl
 i175:=by kernel_rfl
 i210:=by kernel_rfl
 i212:=by kernel_rfl
 i232:=by kernel_rfl
 i233:=by kernel_rfl
 m15:=by kernel_rfl
 m16:=by kernel_rfl
 m17:=by kernel_rfl
 m18:=by kernel_rfl
 m19:=by kernel_rfl
 c0:=by kernel_rfl
 c2:=by kernel_rfl
 c3:=by kernel_rfl
 c4:=by kernel_rfl
 c5:=by kernel_rfl
 c9:=by kernel_rfl
 c20:=by kernel_rfl
 c21:=by kernel_rfl
 c37:=by kernel_rfl
 c46:=by kernel_rfl
 c51:=by kernel_rfl
 c53:=by kernel_rfl
 c75:=by kernel_rfl
 c76:=by kernel_rfl
 c80:=by kernel_rfl
 c85:=by kernel_rfl
 c127:=by kernel_rfl
 c143:=by kernel_rfl
 c145:=by kernel_rfl
 c167:=by kernel_rfl
 c168:=by kernel_rfl
 c171:=by kernel_rfl
 c173:=by kernel_rfl
 c175:=by kernel_rfl
 c210:=by kernel_rfl
 c212:=by kernel_rfl
 c213:=by kernel_rfl
 c232:=by kernel_rfl
 c233:=by kernel_rfl}
open Go.RowKit in
theorem Tryz.strconv_Atoi_ok(s:ByteArray)(E:s.size<=9223372036854775806)(v:Int)(h:Lib.atoiAll s.data.toList = .ok v)(w:World) :
  Calls Tryz.prog 113 #[.string s] w fun e w'=>e = .returned (.tuple #[.int .i64 v,.nilIface])/\(w'=w\/∃t,w'=Lib.bytesWorld w 5 t):=Any.strconv_Atoi_ok Tryz.Cm s E v h w
open Go.RowKit in
theorem Tryz.strconv_Atoi_range(s:ByteArray)(E:s.size<=281474976710656)(h:Lib.atoiAll s.data.toList = .range)(I:Value)(w:World)(O:w.cell? ⟨7,0,none⟩=some I)(M:I = .nilIface\/∃te pe,I = .iface te pe) :
  Calls Tryz.prog 113 #[.string s] w fun e w'=>∃N,e = .returned (.tuple #[.int .i64 (Lib.atoiSat s.data.toList),.iface 320 (.pointer (some ⟨N,0,none⟩))])/\w.heap.size<=N/\w'.heap[N]?=some (.cells #[.string ⟨#[65,116,111,105]⟩,.string s,I] 342 (0,0))/\Below w.heap.size w w':=Any.strconv_Atoi_range Tryz.Cm s E h I w O M
def Tryz.G6:Go.Shelf.Ren:=⟨fun|99=>115|206=>180|n=>n,fun|9=>9|4=>4|3=>3|n=>n,fun|n=>n⟩
theorem Tryz.J4:Go.Proofs.Lays.n99 Tryz.prog Tryz.G6:={
 mixed:=by kernel_rfl
 f99:=Tryz.func115.trans (congrArg some (by kernel_rfl))
 f206:=Tryz.func180.trans (congrArg some (by kernel_rfl))
 t3:=Tryz.underlying3
 a3:=Tryz.isAgg3
 z3:=Tryz.sizeOf3
 v3:=Tryz.zeroValue3
 t4:=Tryz.underlying4
 a4:=Tryz.isAgg4
 z4:=Tryz.sizeOf4
 v4:=Tryz.zeroValue4
 t9:=Tryz.underlying9
 a9:=Tryz.isAgg9
 z9:=Tryz.sizeOf9
 v9:=Tryz.zeroValue9}
open Go.RowKit Go.Lib in
theorem Tryz.strings_HasPrefix(s p:ByteArray)(w:World) :
  Calls Tryz.prog 115 #[.string s,.string p] w fun e w'=>e = .returned (.bool (Lib.hasPrefix s.data.toList p.data.toList))/\w'=w:=Any.strings_HasPrefix Tryz.J4 s p w
end Go.Proofs
namespace Go.Proofs.YtomnenkeecbglaaGreatDoor
namespace Cd
open List
open Go.Proofs.Tryz
open Go.RowKit V Pk Vl
open Go.Lib (compareBytes)
variable {G:List (Nat×List Value)} {m:Int}
theorem take_zero{l:List Int}{i:Nat}(hi:i<l.length)(h:∀x∈l.take i,x=0)(h1:l[i]=0):∀x∈l.take (i+1),x=0:=fun x hx=>by
 rw[take_succ_eq_append_getElem hi] at hx;rcases mem_append.1 hx with hx|hx
 ·exact h x hx
 simp only[mem_singleton] at hx;rw[hx];exact h1
end Cd
namespace Pc
open List
open Go.Proofs.Tryz
open Go.RowKit V Pk Vl Go.Proofs.YtomnenkeecbglaaGreatDoor.Nm
variable {i:Nat}
def typesC:List Value:=[.string ⟨#[]⟩,.string ⟨#[66,79,79,76]⟩,.string ⟨#[73,78,84]⟩,.string ⟨#[84,69,88,84]⟩]
structure dV where
 n:ByteArray
 k:Int
variable {l:List dV}
def cC(c:dV):List D:=[bT c.n,ag c.k]
theorem gO(c:dV):(cC c).length=2:=rfl
theorem J5(c:dV):(cC c).all V.one=true:=rfl
def iw(pre:List dV)(c:dV):Int :=
 if dA c.n≠0 then dA c.n else if c.k<1\/c.k>3 then 2 else if (pre.any fun d=>d.n.toList==c.n.toList)=true then 9 else 0
def mv:List dV->List dV->Int
 | _,[]=>0
 | pre,c::r=>if iw pre c≠0 then iw pre c else mv (pre++[c]) r
def jX(l:List dV):Int:=if l.length<1\/l.length>6 then 1 else mv [] l
theorem Hy(hi:i<l.length)(h:iw (l.take i) l[i]=0):mv (l.take i) (l.drop i)=mv (l.take (i+1)) (l.drop (i+1)):=by
 rw[drop_eq_getElem_cons hi,take_succ_eq_append_getElem hi];exact if_neg (by simp[h])
theorem uU(hi:i<l.length)(h:iw (l.take i) l[i]≠0):mv (l.take i) (l.drop i)=iw (l.take i) l[i]:=by
 rw[drop_eq_getElem_cons hi];exact if_pos h
theorem Im(hi:¬i<l.length):mv (l.take i) (l.drop i)=0:=by
 rw[drop_of_length_le w7];rfl
theorem cY(S:List ak):S.Perm (S++[]):=by rw[append_nil]
variable {G:List (Nat×List Value)}
theorem Io(ls:List dV)(g:Nat)(cQ:List D)(S:List ak)(p:dV->Bool)(dz:∀args w,(callFunc g args).run Tryz.prog w = .ok (.enter g args) w)(hp:∀x∈ls,VC Tryz.prog G g (.agg (cC x)::cQ) S (fun r S'=>r=bw (p x)/\S'=S))(Y:ls.length<=1000000):VC Tryz.prog G 195 [av 2 cC ls,.dQ (.func g) cQ] S (fun r S'=>r=ag (lK p ls)/\S'=S):=by
 refine cf func195 rfl ntmps195 aF fun X0 w0 Z=>?_;unfold cC at hp;refine dS 1 ?_;refine bc (Wk.aR (n:=19) (l':=[(0,_),(1,_)]) (S':=S) rfl mG bj) ?_;refine bi ?_;refine dS 3 ?_;refine bc (Wk.aR (n:=19) (l':=[(0,_),(1,_),(7,_),(8,_)]) (S':=S) rfl mG bj) ?_;refine bi ?_;refine gK [0,1,7] (fun O _ (k:Nat) U=>(k<=ls.length)/\(∀x∈ls.take k,p x=false)/\U=(⟨19,(8,ag (k:Nat))::O,S⟩:St)) (fun (k:Nat)=>ls.length-k) 0 ⟨Nat.zero_le _,cq,rfl⟩ ?_;rintro k _ ⟨hk,h0,rfl⟩;refine dS 1 ?_;refine bc (Wk.aR (n:=19) (l':=[(0,_),(1,_),(7,_),(8,_),(9,_)]) (S':=S) rfl mG bj) ?_;refine bi ?_;refine c8 (fun aA E=>?_) (fun aA E=>?_)
 ·refine dS 2 ?_;refine bc (Wk.aR (n:=19) (l':=[(0,_),(1,_),(5,_),(7,_),(8,_)]) (S':=S) rfl mG bj) ?_;refine bi ?_;refine dS 5 ?_;refine xT (f:=g) (args:=[_]) ay rfl rfl (po rfl lk) dz (hp (ls[k]'w7) (getElem_mem _)) rfl ⟨po rfl lk,trivial⟩ (cY _) ?_;rintro _ S2 ⟨rfl,I⟩;rw[I];clear I;refine bc (Wk.aR (n:=19) (l':=[(0,_),(1,_),(5,_),(7,_),(8,_),(16,_)]) (S':=S) rfl mG bj) ?_;refine bi ?_;refine c8 (fun aG M=>?_) (fun aG M=>?_)
  ·refine dS 2 ?_;refine bc (Wk.aR (n:=19) (l':=[(4,_)]) (S':=S) rfl mG bj) ?_;refine bi ?_;refine ei S ?_;refine⟨?_,rfl⟩;first|(rw[qz w7 h0 eG])|(rw[qu w7 h0])
  refine lp 2 ?_;refine bc (Wk.aR (n:=19) (l':=[(0,_),(1,_),(7,_),(8,_)]) (S':=S) rfl mG bj) ?_;refine bi ?_;refine⟨k+1,_,lu,kL,w7,(by rw[take_succ_eq_append_getElem w7];intro x hx;rcases mem_append.1 hx with hx|hx;exact h0 x hx;simp only[mem_singleton] at hx;subst hx;assumption),rfl⟩
 refine dS 1 ?_;refine bc (Wk.aR (n:=19) (l':=[(4,_)]) (S':=S) rfl mG bj) ?_;refine bi ?_;refine ei S ?_;refine⟨?_,rfl⟩;first|(rw[qz w7 h0 eG])|(rw[qu w7 h0])
theorem BA(ls:List dV)(g:Nat)(cQ:List D)(S:List ak)(p:dV->Bool)(dz:∀args w,(callFunc g args).run Tryz.prog w = .ok (.enter g args) w)(hp:∀x∈ls,VC Tryz.prog G g (.agg (cC x)::cQ) S (fun r S'=>r=bw (p x)/\S'=S))(E:ls.length<=1000000):VC Tryz.prog G 182 [av 2 cC ls,.dQ (.func g) cQ] S (fun r S'=>r=bw (ls.any p)/\S'=S):=by
 refine cf func182 rfl ntmps182 aF fun O w0 M=>?_;refine dS 1 ?_;refine bc (Wk.aR (n:=9) (l':=[(0,_),(1,_)]) (S':=S) rfl mG bj) ?_;refine bi ?_;refine dS 2 ?_;refine cP ay rfl rfl rfl call195 (Io ls g cQ S p dz hp E) ⟨po rfl lk,po rfl lk,trivial⟩ (cY _) ?_;rintro _ S2 ⟨rfl,I⟩;rw[I];clear I;refine eU 2 ?_;refine bc (Wk.aR (n:=9) (l':=[(4,_)]) (S':=S) rfl mG bj) ?_;refine bi ?_;refine ei S ?_;refine⟨?_,rfl⟩;rw[Ce]
theorem I4(h x:dV)(b:Nat):VC Tryz.prog G 186 [.agg (cC h),bD b] [⟨b,130,2,cC x⟩] (fun r S=>r=bw (h.n.toList==x.n.toList)/\S=[⟨b,130,2,cC x⟩]):=by
 refine cf func186 rfl ntmps186 aF fun I w0 E=>?_;unfold cC;refine ah ?_;refine fI (ds:=[_,_]) ay rfl rfl ot rfl rfl (fun M=>?_);refine da 9 [1,2] ?_;refine bM [3] ?_;refine ei [⟨b,130,2,cC x⟩] ?_;exact⟨rfl,rfl⟩
theorem I5(hm:(1,marksC)∈G)(hw:(0,wordsC)∈G)(l:List dV)(hl:l.length<=maxLen)(gX:∀c∈l,c.n.size<=maxLen):VP Tryz.prog G 125 [av 2 cC l] (ag (jX l)):=by
 refine cf func125 rfl ntmps125 aF fun X0 w0 dm=>?_;have eI:=fU;refine bM [0] ?_;refine dS 4 ?_;refine jg 9 (fun hg9 LS=>?_) (fun hg9 LS=>?_)
 ·refine kK [0,13] ?_;refine EM ?_;have E:jX l=1:=if_pos w7;refine bM [2] ?_;refine bl ?_;rw[E];exact⟨rfl,rfl⟩
 refine kK [0,13] ?_;refine c8 (fun aA dJ=>?_) (fun aA dJ=>?_)
 ·have E:jX l=1:=if_pos w7;refine bM [2] ?_;refine bl ?_;rw[E];exact⟨rfl,rfl⟩
 have N5:¬(l.length<1\/l.length>6):=(by omega)
 have M:jX l=mv (l.take 0) (l.drop 0):=if_neg N5;refine bM [0,14,15,16] ?_;refine gK [0,14,15] (fun kN _ (i:Nat) cn=>(i<=l.length)/\(jX l=mv (l.take i) (l.drop i))/\cn=(⟨41,(16,ag (i:Nat))::kN,[]⟩:St)) (fun (i:Nat)=>l.length-i) 0 ⟨(Nat.zero_le _),M,rfl⟩ ?_;rintro i _ ⟨hi,I,rfl⟩;refine bM [0,14,15,16,17] ?_;refine c8 (fun aG cA=>?_) (fun aG cA=>?_)
 ·have aD:i<l.length:=(by omega)
  refine dS 3 ?_;refine eo (ds:=[_,_]) ay rfl rfl zeroValue130 rfl (fun b4=>?_);refine eU 1 ?_;refine bn 0 [_,_] sizeOf130 ?_;refine da 41 [0,3,4,14,15,16] ?_;refine mQ [0,3,4,5,14,15,16] (mj hm hw l[i].n (gX _ (getElem_mem aD))) ?_;refine bM [0,3,4,5,14,15,16,25] ?_;refine c8 (fun O aX=>?_) (fun O aX=>?_)
  ·have hne:dA l[i].n≠0:=(by simpa using O)
   have hf:iw (l.take i) l[i]=dA l[i].n:=if_pos hne;have E:jX l=dA l[i].n:=(by rw[I,uU aD (by rw[hf];exact hne),hf])
   refine bM [2] ?_;refine ei [] ?_;rw[E];exact⟨rfl,rfl⟩
  have eA:¬dA l[i].n≠0:=(by simpa using O)
  refine dS 4 ?_;refine jg 30 (fun LU U=>?_) (fun LU U=>?_)
  ·refine kK [0,3,4,14,15,16,34] ?_;refine EM ?_;have hf:iw (l.take i) l[i]=2:=(by unfold iw;rw[if_neg eA,if_pos w7])
   have E:jX l=2:=(by rw[I,uU aD (by rw[hf];decide),hf])
   refine bM [2] ?_;refine bl ?_;rw[E];exact⟨rfl,rfl⟩
  refine kK [0,3,4,14,15,16,34] ?_;refine c8 (fun ct bu=>?_) (fun ct bu=>?_)
  ·have hf:iw (l.take i) l[i]=2:=(by unfold iw;rw[if_neg eA,if_pos w7])
   have E:jX l=2:=(by rw[I,uU aD (by rw[hf];decide),hf])
   refine bM [2] ?_;refine bl ?_;rw[E];exact⟨rfl,rfl⟩
  have hk:¬(l[i].k<1\/l[i].k>3):=(by omega)
  refine dS 2 ?_;refine ae (fH (l:=0) rfl ot trivial ⟨_,ot⟩ (by first|exact CB gO (fun h=>by cases h) runUnderlying58 sizeOf130 w7|exact yz (fun h=>by cases h) runUnderlying58 sizeOf130 w7|exact uY (fun _=>rfl) (fun h=>by cases h) runUnderlying58 sizeOf130 w7 w7)) ?_;refine ae (si (ds:=[_]) rfl ⟨ot,trivial⟩) ?_;refine cP ay rfl rfl rfl call182 (BA (l.take i) 186 [bD b4] _ (fun d=>d.n.toList==l[i].n.toList) call186 (fun h _=>I4 h l[i] b4) (by rw[length_take];omega)) ⟨po rfl lk,po rfl lk,trivial⟩ (HR (k:=0) rfl) ?_;rintro _ S2 ⟨rfl,Fp⟩;rw[Fp];clear Fp;refine da 41 [0,14,15,16,39] ?_;refine c8 (fun Y bQ=>?_) (fun Y bQ=>?_)
  ·have hf:iw (l.take i) l[i]=9:=(by unfold iw;rw[if_neg eA,if_neg hk,if_pos Y])
   have E:jX l=9:=(by rw[I,uU aD (by rw[hf];decide),hf])
   refine bM [2] ?_;refine ei [] ?_;rw[E];exact⟨rfl,rfl⟩
  have hf:iw (l.take i) l[i]=0:=(by unfold iw;rw[if_neg eA,if_neg hk,if_neg (by rw[Y];simp)])
  have Z:=I.trans (Hy aD hf);refine lq [0,14,15,16] ?_;refine⟨(i+1),_,lu,kL,w7,Z,rfl⟩
 have E:jX l=0:=(by rw[I];exact Im w7)
 refine bM [2] ?_;refine ei [] ?_;rw[E];exact⟨rfl,rfl⟩
end Pc
namespace Pa
open List
open Go.Proofs.Tryz
open Go.RowKit V Pk Vl Go.Proofs.YtomnenkeecbglaaGreatDoor.Nm Pc
variable {E:List ByteArray} {l:List Tk} {p:Nat} {k:Int}
inductive Rs (α:Type) where
 | ok (v:α) (p:Nat) (ops:List aZ)
 | no (p:Nat) (e:Int)
 | stuck
def Rs.bind{α β:Type}(r:Rs α)(f:α->Nat->List aZ->Rs β):Rs β:=match r with
 | .ok v p ops=>f v p ops
 | .no p e=>.no p e
 | .stuck=>.stuck
def aJ(l:List Tk)(p:Nat)(k:Int)(s:ByteArray):Bool:=if h:p<l.length then (l[p].k==k)&&cM l[p].s s else false
def gv{α:Type}(l:List Tk)(p:Nat)(e:Int):Rs α:=.no p (if l.length<=p then 7 else e)
def eb(l:List Tk):List ByteArray->Nat->List aZ->Rs Unit
 | [],p,ops=>.ok () p ops
 | s::r,p,ops=>if aJ l p 1 s=true then eb l r (p+1) ops else gv l p 6
def dr(l:List Tk)(s:ByteArray)(p:Nat)(ops:List aZ):Rs Unit:=if aJ l p 4 s=true then .ok () (p+1) ops else gv l p 6
def dB(l:List Tk)(p:Nat)(ops:List aZ):Rs ByteArray :=
 if h:p<l.length then (if l[p].k≠1 then gv l p 6 else if dA l[p].s≠0 then gv l p (dA l[p].s) else .ok l[p].s (p+1) ops) else gv l p 6
def mw:ByteArray:=⟨#[78,85,76,76]⟩
def sP:ByteArray:=⟨#[84,82,85,69]⟩
def sG:ByteArray:=⟨#[70,65,76,83,69]⟩
def e7(l:List Tk)(p:Nat)(ops:List aZ):Rs (Vl×Bool) :=
 if aJ l p 1 mw=true then .ok (jw,true) (p+1) ops
 else if aJ l p 1 sP=true then .ok (⟨1,1,⟨#[]⟩⟩,true) (p+1) ops
 else if aJ l p 1 sG=true then .ok (⟨1,0,⟨#[]⟩⟩,true) (p+1) ops
 else if h:p<l.length/\(l.getD p ⟨0,⟨#[]⟩,0⟩).k=3 then (if (l[p]'h.1).s.size>20 then gv l p 1 else .ok (⟨3,0,(l[p]'h.1).s⟩,true) (p+1) ops)
 else if aJ l p 4 ⟨#[45]⟩=true then (if h:p+1<l.length/\(l.getD (p+1) ⟨0,⟨#[]⟩,0⟩).k=2 then .ok (⟨2,-(l[p+1]'h.1).n,⟨#[]⟩⟩,true) (p+2) ops else gv l (p+1) 6)
 else if h:p<l.length/\(l.getD p ⟨0,⟨#[]⟩,0⟩).k=2 then .ok (⟨2,(l[p]'h.1).n,⟨#[]⟩⟩,true) (p+1) ops
 else .ok (jw,false) p ops
def bW(l:List Tk)(o:aZ)(p:Nat)(ops:List aZ):Rs Unit:=if ops.length=40 then gv l (p-1) 10 else .ok () p (ops++[o])
def cu(k:Int):aZ:=⟨k,jw,⟨#[]⟩⟩
inductive Lv where
 | ix|prod|iU|sum|gj|comp|not|and|iV|or|jh
def dU:List (ByteArray×Int×Bool×Bool):=[(⟨#[61]⟩,6,false,false),(⟨#[60,62]⟩,6,false,true),(⟨#[60]⟩,7,false,false),(⟨#[62]⟩,7,true,false),(⟨#[62,61]⟩,7,false,true),(⟨#[60,61]⟩,7,true,true)]
def fJ(ops:List aZ)(from_ mid:Nat):List aZ:=ops.take from_++ops.drop mid++(ops.take mid).drop from_
def aY(l:List Tk):Nat->Lv->Nat->List aZ->Rs Unit
 | 0,_,_,_=>.stuck
 | n+1,.ix,p,ops=>(e7 l p ops).bind fun v p ops=>if v.2=true then bW l ⟨1,v.1,⟨#[]⟩⟩ p ops
   else if aJ l p 4 ⟨#[40]⟩=true then (aY l n .or (p+1) ops).bind fun _ p ops=>dr l ⟨#[41]⟩ p ops
   else (dB l p ops).bind fun s p ops=>bW l ⟨2,jw,s⟩ p ops
 | n+1,.prod,p,ops=>(aY l n .ix p ops).bind fun _ p ops=>aY l n .iU p ops
 | n+1,.iU,p,ops=>if aJ l p 4 ⟨#[42]⟩=true then (aY l n .ix (p+1) ops).bind fun _ p ops=>(bW l (cu 10) p ops).bind fun _ p ops=>aY l n .iU p ops else .ok () p ops
 | n+1,.sum,p,ops=>(aY l n .prod p ops).bind fun _ p ops=>aY l n .gj p ops
 | n+1,.gj,p,ops=>if aJ l p 4 ⟨#[43]⟩=true then (aY l n .prod (p+1) ops).bind fun _ p ops=>(bW l (cu 8) p ops).bind fun _ p ops=>aY l n .gj p ops
   else if aJ l p 4 ⟨#[45]⟩=true then (aY l n .prod (p+1) ops).bind fun _ p ops=>(bW l (cu 9) p ops).bind fun _ p ops=>aY l n .gj p ops
   else .ok () p ops
 | n+1,.comp,p,ops=>(aY l n .sum p ops).bind fun _ p1 fx =>
   if aJ l p1 1 ⟨#[73,83]⟩=true then (eb l [mw] (if aJ l (p1+1) 1 ⟨#[78,79,84]⟩=true then p1+2 else p1+1) fx).bind fun _ p2 iO =>
    (bW l (cu 11) p2 iO).bind fun _ p3 jx=>if aJ l (p1+1) 1 ⟨#[78,79,84]⟩=true then bW l (cu 5) p3 jx else .ok () p3 jx
   else match dU.find? fun m=>aJ l p1 4 m.1 with
    | none=>.ok () p1 fx
    | some m=>(aY l n .sum (p1+1) fx).bind fun _ p2 iO=>(bW l (cu m.2.1) p2 (if m.2.2.1=true then fJ iO ops.length fx.length else iO)).bind fun _ p3 jx=>if m.2.2.2=true then bW l (cu 5) p3 jx else .ok () p3 jx
 | n+1,.not,p,ops=>if aJ l p 1 ⟨#[78,79,84]⟩=true then (aY l n .not (p+1) ops).bind fun _ p ops=>bW l (cu 5) p ops else aY l n .comp p ops
 | n+1,.and,p,ops=>(aY l n .not p ops).bind fun _ p ops=>aY l n .iV p ops
 | n+1,.iV,p,ops=>if aJ l p 1 ⟨#[65,78,68]⟩=true then (aY l n .not (p+1) ops).bind fun _ p ops=>(bW l (cu 3) p ops).bind fun _ p ops=>aY l n .iV p ops else .ok () p ops
 | n+1,.or,p,ops=>(aY l n .and p ops).bind fun _ p ops=>aY l n .jh p ops
 | n+1,.jh,p,ops=>if aJ l p 1 ⟨#[79,82]⟩=true then (aY l n .and (p+1) ops).bind fun _ p ops=>(bW l (cu 4) p ops).bind fun _ p ops=>aY l n .jh p ops else .ok () p ops
structure dh where
 kind:Int
 table:ByteArray
 cF:List dV
 row:List Vl
 names:List ByteArray
 count:Bool
 bG:List aZ
 order:ByteArray
 down:Bool
 eY:Int
 set:ByteArray
 dI:List aZ
def cr:dh:=⟨0,⟨#[]⟩,[],[],[],false,[],⟨#[]⟩,false,-1,⟨#[]⟩,[]⟩
def kZ(l:List Tk)(p:Nat):Rs (List aZ):=(aY l (12*l.length+24) .or p []).bind fun _ p ops=>.ok ops p ops
def ga(l:List Tk)(p:Nat)(ops:List aZ):Rs (List aZ):=if aJ l p 1 ⟨#[87,72,69,82,69]⟩=true then kZ l (p+1) else .ok [] p ops
def ek(l:List Tk)(p:Nat):Int:=if aJ l p 1 ⟨#[84,69,88,84]⟩=true then 3 else if aJ l p 1 ⟨#[73,78,84]⟩=true then 2 else if aJ l p 1 ⟨#[66,79,79,76]⟩=true then 1 else 0
def k5(l:List Tk):Nat->List dV->Nat->List aZ->Rs (List dV)
 | 0,_,_,_=>.stuck
 | n+1,out,p,ops=>if out.length=6 then gv l p 10 else (dB l p ops).bind fun s p1 fx =>
   if (out.any fun c=>cM c.n s)=true then gv l (p1-1) 9 else if ek l p1=0 then gv l p1 6
   else if aJ l (p1+1) 4 ⟨#[44]⟩=true then k5 l n (out++[⟨s,ek l p1⟩]) (p1+2) fx
   else (dr l ⟨#[41]⟩ (p1+1) fx).bind fun _ p3 jx=>.ok (out++[⟨s,ek l p1⟩]) p3 jx
def lN(l:List Tk):Nat->List Vl->Nat->List aZ->Rs (List Vl)
 | 0,_,_,_=>.stuck
 | n+1,out,p,ops=>if out.length=6 then gv l p 10 else (e7 l p ops).bind fun v p1 fx =>
   if v.2=false then gv l p1 6
   else if aJ l p1 4 ⟨#[44]⟩=true then lN l n (out++[v.1]) (p1+1) fx
   else (dr l ⟨#[41]⟩ p1 fx).bind fun _ p3 jx=>.ok (out++[v.1]) p3 jx
def iT(l:List Tk):Nat->List ByteArray->Nat->List aZ->Rs (List ByteArray)
 | 0,_,_,_=>.stuck
 | n+1,out,p,ops=>if out.length=6 then gv l p 10 else (dB l p ops).bind fun s p1 fx =>
   if aJ l p1 4 ⟨#[44]⟩=true then iT l n (out++[s]) (p1+1) fx else .ok (out++[s]) p1 fx
def pC(l:List Tk)(p:Nat)(ops:List aZ):Rs (List ByteArray×Bool) :=
 if aJ l p 4 ⟨#[42]⟩=true then .ok ([],false) (p+1) ops
 else if aJ l p 1 ⟨#[67,79,85,78,84]⟩=true then (dr l ⟨#[40]⟩ (p+1) ops).bind fun _ p ops=>(dr l ⟨#[42]⟩ p ops).bind fun _ p ops=>(dr l ⟨#[41]⟩ p ops).bind fun _ p ops=>.ok ([],true) p ops
 else (iT l 8 [] p ops).bind fun ns p ops=>.ok (ns,false) p ops
def ze(l:List Tk)(s:dh)(p:Nat)(ops:List aZ):Rs dh :=
 if aJ l p 1 ⟨#[79,82,68,69,82]⟩=true then (eb l [⟨#[66,89]⟩] (p+1) ops).bind fun _ p ops=>(dB l p ops).bind fun n p ops=>.ok {s with order:=n,down:=aJ l p 1 ⟨#[68,69,83,67]⟩} (if aJ l p 1 ⟨#[68,69,83,67]⟩=true then p+1 else p) ops else .ok s p ops
def lf(l:List Tk)(s:dh)(p:Nat)(ops:List aZ):Rs dh :=
 if aJ l p 1 ⟨#[76,73,77,73,84]⟩=true then (if h:p+1<l.length/\(l.getD (p+1) ⟨0,⟨#[]⟩,0⟩).k=2 then .ok {s with eY:=(l[p+1]'h.1).n} (p+2) ops else gv l (p+1) 6) else .ok s p ops
def pD(l:List Tk)(s:dh)(p:Nat)(ops:List aZ):Rs dh:=(ze l s p ops).bind (lf l)
def eH(l:List Tk)(h:List ByteArray×Bool)(p:Nat)(ops:List aZ):Rs dh:=(eb l [⟨#[70,82,79,77]⟩] p ops).bind fun _ p ops=>(dB l p ops).bind fun t p ops=>(ga l p ops).bind fun w p ops =>
 pD l {cr with kind:=4,names:=h.1,count:=h.2,table:=t,bG:=w} p ops
def yN(l:List Tk)(p:Nat)(ops:List aZ):Rs dh:=(pC l p ops).bind (eH l)
def sQ(l:List Tk)(p:Nat)(ops:List aZ):Rs (List dV):=(dr l ⟨#[40]⟩ p ops).bind fun _ p ops=>k5 l 8 [] p ops
def qW(l:List Tk)(p:Nat)(ops:List aZ):Rs (List Vl):=(dr l ⟨#[40]⟩ p ops).bind fun _ p ops=>lN l 8 [] p ops
def jE(l:List Tk)(p:Nat)(ops:List aZ):Rs dh :=
 if aJ l p 1 ⟨#[67,82,69,65,84,69]⟩=true then (eb l [⟨#[84,65,66,76,69]⟩] (p+1) ops).bind fun _ p ops=>(dB l p ops).bind fun t p ops=>(sQ l p ops).bind fun c p ops=>.ok {cr with kind:=1,table:=t,cF:=c} p ops
 else if aJ l p 1 ⟨#[68,82,79,80]⟩=true then (eb l [⟨#[84,65,66,76,69]⟩] (p+1) ops).bind fun _ p ops=>(dB l p ops).bind fun t p ops=>.ok {cr with kind:=2,table:=t} p ops
 else if aJ l p 1 ⟨#[73,78,83,69,82,84]⟩=true then (eb l [⟨#[73,78,84,79]⟩] (p+1) ops).bind fun _ p ops=>(dB l p ops).bind fun t p ops=>(eb l [⟨#[86,65,76,85,69,83]⟩] p ops).bind fun _ p ops=>(qW l p ops).bind fun r p ops=>.ok {cr with kind:=3,table:=t,row:=r} p ops
 else if aJ l p 1 ⟨#[83,69,76,69,67,84]⟩=true then yN l (p+1) ops
 else if aJ l p 1 ⟨#[85,80,68,65,84,69]⟩=true then (dB l (p+1) ops).bind fun t p ops=>(eb l [⟨#[83,69,84]⟩] p ops).bind fun _ p ops=>(dB l p ops).bind fun c p ops=>(dr l ⟨#[61]⟩ p ops).bind fun _ p ops=>(kZ l p).bind fun e p ops=>(ga l p ops).bind fun w p ops=>.ok {cr with kind:=5,table:=t,set:=c,dI:=e,bG:=w} p ops
 else if aJ l p 1 ⟨#[68,69,76,69,84,69]⟩=true then (eb l [⟨#[70,82,79,77]⟩] (p+1) ops).bind fun _ p ops=>(dB l p ops).bind fun t p ops=>(ga l p ops).bind fun w p ops=>.ok {cr with kind:=6,table:=t,bG:=w} p ops
 else if aJ l p 1 ⟨#[66,69,71,73,78]⟩=true then .ok {cr with kind:=7} (p+1) ops
 else if aJ l p 1 ⟨#[67,79,77,77,73,84]⟩=true then .ok {cr with kind:=8} (p+1) ops
 else if aJ l p 1 ⟨#[82,79,76,76,66,65,67,75]⟩=true then .ok {cr with kind:=9} (p+1) ops
 else gv l p 6
def lz:dh:={cr with eY:=0}
def gi:List Tk->Nat->Option (Nat×Int)
 | [],_=>none
 | t::r,i=>if dZ t=0 then gi r (i+1) else some (i,dZ t)
def ie(l:List Tk):dh×Nat×Int :=
 if l.length>100 then (lz,0,10)
 else match gi l 0 with
  | some (i,e)=>(lz,i,e)
  | none=>match (jE l 0 []).bind fun s p ops=>if p<l.length then gv l p 6 else .ok s p ops with
   | .ok s _ _=>(s,0,0)
   | .no p e=>(lz,p,e)
   | .stuck=>(lz,0,0)
variable {G:List (Nat×List Value)}
def mT(p:Nat)(e:Int):List PanicEntry:=[{v:=.iface 158 (.agg #[.int .i64 (p:Nat),.int .i64 e]),recovered:=false}]
theorem Cn{w:World}{L:Nat->Prop}:∀{vs us:List Value},bX w L (vs.map D.v) us->us=vs
 | [],[],_=>rfl
 | [],u::us,h=>by have:=h.1;simp at this
 | v::vs,[],h=>by have:=h.1;simp at this
 | v::vs,u::us,h=>by
  obtain⟨h1,h2⟩:=bX.tail h;rw[h1.gu,Cn h2]
theorem BB{P:Program}{x:St}{o:Oper}{t:TypeId}{y:Operand}{vs:List Value}{E:Array Field}(ho:o.op = .makeInterface t y)(hy:aO x y = .agg (vs.map D.v))(I:P.underlying t=some (.struct E)):bH P G x o .none (.v (.iface t (.agg vs.toArray))):=fun C a w _ h=>by
 have he:a.eval y = .agg vs.toArray:=by
  have:=h.eval y;rw[hy] at this;generalize a.eval y=u at this;cases this with
  | agg _ us hl hr=>rw[Cn ⟨hl,hr⟩]
 refine⟨_,.v _,fun w' _=>?_⟩;unfold execOp;simp only[ho,Instr.makeInterface,Sem.run_bind,run_underlying I,Result.andThen_ok,Sem.run_pure,he]
theorem qQ{s:ByteArray}(h:¬p<l.length):aJ l p k s=false:=by unfold aJ;rw[dif_neg h]
theorem yO{s:ByteArray}(h:p<l.length):aJ l p k s=((l[p].k==k)&&cM l[p].s s):=by unfold aJ;rw[dif_pos h]
theorem cJ{s:ByteArray}(h:aJ l p k s=true):p<l.length:=by
 unfold aJ at h;split at h
 ·assumption
 cases h
theorem DB(l:List Tk)(hl:l.length<=100)(p:Nat)(k:Int)(s:ByteArray)(ad:Option Addr)(n cap br:Nat):VC Tryz.prog G 181 [bD br,ag k,bT s] [⟨br,161,3,[av 3 cT l,ag ((p:Nat):Int),az ad n cap]⟩] (fun r S'=>r=bw (aJ l p k s)/\S'=[⟨br,161,3,[av 3 cT l,ag ((p:Nat):Int),az ad n cap]⟩]):=by
 refine cf func181 rfl ntmps181 aF fun Y w0 U=>?_;have E:p<l.length\/¬p<l.length:=(by omega)
 refine ah ?_;refine aa ?_;refine au [0,1,2] ?_;refine aC ?_;refine ez (aq _) af (fun _ h=>h) ?_;refine aj 0 rfl bg ?_;refine aj 1 rfl bF ?_;refine aj 2 rfl (aB 1) ?_;refine aj 3 rfl (aH 0) ?_;refine aj 4 rfl bg ?_;refine aj 5 rfl bF ?_;refine aj 6 rfl (aB 0) ?_;refine aj 7 rfl (aH 0) ?_;refine aj 8 rfl cZ ?_;refine aj 9 rfl aE ?_;refine aj 10 rfl bg ?_;refine bt.split (t:=17) lk (fun fu=>?_) (fun fu=>?_)
 ·have I:=fu;(try simp only[V.ai,ne_eq] at I)
  refine aj 11 rfl bg ?_;refine aj 12 rfl bF ?_;refine aj 13 rfl (aB 0) ?_;refine aj 14 rfl (aH 0) ?_;refine aj 15 rfl bg ?_;refine aj 16 rfl bF ?_;refine aj 17 rfl (aB 1) ?_;refine aj 18 rfl (aH 0) ?_;refine aj 19 rfl (dW 3 (h:=by first|exact .l (j:=p) rfl ry|exact .r (j:=p) rfl ry)) ?_;refine aj 20 rfl (aB 0) ?_;refine aj 21 rfl (cm (mk:=Op.load 3) rfl ot (by exact lG (i:=p) dO isAgg3 ry rfl)) ?_;refine aj 22 rfl bg ?_;refine aj 23 rfl aE ?_;refine aj 24 rfl cW ?_;refine aj 25 rfl bg ?_;refine bt.split (t:=32) lk (fun O=>?_) (fun O=>?_)
  ·have M:=O;(try simp only[V.ai,ne_eq] at M)
   refine aj 26 rfl bg ?_;refine aj 27 rfl bF ?_;refine aj 28 rfl (aB 0) ?_;refine aj 29 rfl (aH 0) ?_;refine aj 30 rfl bg ?_;refine aj 31 rfl bF ?_;refine aj 32 rfl (aB 1) ?_;refine aj 33 rfl (aH 0) ?_;refine aj 34 rfl (dW 3 (h:=by first|exact .l (j:=p) rfl ry|exact .r (j:=p) rfl ry)) ?_;refine aj 35 rfl (aB 1) ?_;refine aj 36 rfl (cm (mk:=Op.load 9) rfl ot (by exact ny (i:=p) (j:=1) dO isAgg9 ry rfl)) ?_;refine aj 37 rfl bg ?_;refine aj 38 rfl aE ?_;refine aj 39 rfl cW ?_;refine aj 40 rfl bg ?_;refine bt.later rfl ?_;refine cg [(6,_)] [⟨br,161,3,[_,_,_]⟩] ?_;refine bO af ?_;refine aI ?_;refine⟨.inr rfl,_,[_],Sublist.refl _,eC results181 (cw aF lk),?_⟩;refine⟨vb ?_,rfl⟩;rcases E with E|E
   ·rw[yO E];unfold cM;simp_all
   first|(rw[qQ E];done)|(rw[qQ E];simp_all)
  have M:=O;(try simp only[V.ai,ne_eq] at M)
  refine bk 26 rfl ?_;refine bk 27 rfl ?_;refine bk 28 rfl ?_;refine bk 29 rfl ?_;refine bk 30 rfl ?_;refine bk 31 rfl ?_;refine bk 32 rfl ?_;refine bk 33 rfl ?_;refine bk 34 rfl ?_;refine bk 35 rfl ?_;refine bk 36 rfl ?_;refine bk 37 rfl ?_;refine bk 38 rfl ?_;refine aj 39 rfl bC ?_;refine aj 40 rfl bg ?_;refine bt.later rfl ?_;refine cg [(6,_)] [⟨br,161,3,[_,_,_]⟩] ?_;refine bO af ?_;refine aI ?_;refine⟨.inr rfl,_,[_],Sublist.refl _,eC results181 (cw aF lk),?_⟩;refine⟨vb ?_,rfl⟩;rcases E with E|E
  ·rw[yO E];unfold cM;simp_all
  first|(rw[qQ E];done)|(rw[qQ E];simp_all)
 have I:=fu;(try simp only[V.ai,ne_eq] at I)
 refine bk 11 rfl ?_;refine bk 12 rfl ?_;refine bk 13 rfl ?_;refine bk 14 rfl ?_;refine bk 15 rfl ?_;refine bk 16 rfl ?_;refine bk 17 rfl ?_;refine bk 18 rfl ?_;refine bk 19 rfl ?_;refine bk 20 rfl ?_;refine bk 21 rfl ?_;refine bk 22 rfl ?_;refine bk 23 rfl ?_;refine aj 24 rfl bC ?_;refine aj 25 rfl bg ?_;refine bk 26 rfl ?_;refine bk 27 rfl ?_;refine bk 28 rfl ?_;refine bk 29 rfl ?_;refine bk 30 rfl ?_;refine bk 31 rfl ?_;refine bk 32 rfl ?_;refine bk 33 rfl ?_;refine bk 34 rfl ?_;refine bk 35 rfl ?_;refine bk 36 rfl ?_;refine bk 37 rfl ?_;refine bk 38 rfl ?_;refine aj 39 rfl bC ?_;refine aj 40 rfl bg ?_;refine bt.later rfl ?_;refine cg [(6,_)] [⟨br,161,3,[_,_,_]⟩] ?_;refine bO af ?_;refine aI ?_;refine⟨.inr rfl,_,[_],Sublist.refl _,eC results181 (cw aF lk),?_⟩;refine⟨vb ?_,rfl⟩;rcases E with E|E
 ·rw[yO E];unfold cM;simp_all
 first|(rw[qQ E];done)|(rw[qQ E];simp_all)
theorem ed(l:List Tk)(hl:l.length<=100)(p:Nat)(k:Int)(s:ByteArray)(ad:Option Addr)(n cap br:Nat):VC Tryz.prog G 116 [bD br,ag k,bT s] [⟨br,161,3,[av 3 cT l,ag ((p:Nat):Int),az ad n cap]⟩] (fun r S'=>r=bw (aJ l p k s)/\S'=[⟨br,161,3,[av 3 cT l,ag (((if aJ l p k s=true then p+1 else p):Nat):Int),az ad n cap]⟩]):=by
 refine cf func116 rfl ntmps116 aF fun M w0 I=>?_;refine ah ?_;refine aa ?_;refine au [0,1,2] ?_;refine aC ?_;refine ah ?_;refine aa ?_;refine aa ?_;refine aa ?_;refine cP ay rfl rfl rfl call181 (DB l hl p k s ad n cap br) ⟨ot,ot,ot,trivial⟩ (cY _) ?_;rintro _ _ ⟨rfl,rfl⟩;refine aW (S':=[⟨br,161,3,[av 3 cT l,ag ((p:Nat):Int),az ad n cap]⟩]) (Perm.refl _) ?_;refine ae e9 ?_;refine aK [(0,_),(11,_)] [⟨br,161,3,[_,_,_]⟩] ?_;refine aM ot (fun aA=>?_) (fun aA=>?_)
 ·have E:=aA
  (try simp only[V.ai,ne_eq] at E)
  have hf:aJ l p k s=false:=(by simpa using aA)
  refine ah ?_;refine aa ?_;refine au [6] ?_;refine aI ?_;refine⟨.inr rfl,_,[_],Sublist.refl _,eC results116 (cw aF lk),?_⟩;first|(rw[hf];exact⟨rfl,rfl⟩)|(rw[ht];exact⟨rfl,rfl⟩)
 have E:=aA
 (try simp only[V.ai,ne_eq] at E)
 have ht:aJ l p k s=true:=(by simpa using aA)
 have aD:=cJ ht;refine aS ?_;refine ah ?_;refine aa ?_;refine ae bF ?_;refine ae (aB 1) ?_;refine ae (aH 0) ?_;refine ae aE ?_;refine ae bF ?_;refine ae (aB 1) ?_;refine bn 0 [_,_,_] sizeOf3 ?_;refine aK [] [⟨br,161,3,[_,_,_]⟩] ?_;refine ah ?_;refine aa ?_;refine au [6] ?_;refine aI ?_;refine⟨.inr rfl,_,[_],Sublist.refl _,eC results116 (cw aF lk),?_⟩;first|(rw[hf];exact⟨rfl,rfl⟩)|(rw[ht];exact⟨rfl,rfl⟩)
theorem Bv : ∀ w, ((#[{ name := "at", type := 3, offset := 0, embedded := false, tag := "", pkgPath := "padlock/parse", byteOffset := 0 }, { name := "e", type := 35, offset := 1, embedded := false, tag := "", pkgPath := "padlock/parse", byteOffset := 8 }] : Array Field).mapM fun f => do pure (f.offset, ← sizeOf f.type) : Sem (Array (Nat × Nat))).run Tryz.prog w = .ok #[(0, 1), (1, 1)] w := fun w => by simp [sizeOf3, sizeOf35]
theorem gq(l:List Tk)(hl:l.length<=100)(p:Nat)(e:Int)(ad:Option Addr)(n cap br:Nat):VX Tryz.prog G 71 [bD br,ag e] [⟨br,161,3,[av 3 cT l,ag ((p:Nat):Int),az ad n cap]⟩] (fun _ _=>False) (fun M=>M=mT p (if l.length<=p then 7 else e)):=by
 refine VX.body func71 rfl ntmps71 aF fun U w0 O=>?_;refine aC ?_;refine aC ?_;refine ez (aq _) af (fun _ h=>h) ?_;refine aj 0 rfl bg ?_;refine aj 1 rfl bF ?_;refine aj 2 rfl (aB 1) ?_;refine aj 3 rfl (aH 0) ?_;refine aj 4 rfl bg ?_;refine aj 5 rfl bF ?_;refine aj 6 rfl (aB 0) ?_;refine aj 7 rfl (aH 0) ?_;refine aj 8 rfl cZ ?_;refine aj 9 rfl aE ?_;refine bt.later rfl ?_;refine cg [(0,_),(1,_),(13,_)] [⟨br,161,3,[_,_,_]⟩] ?_;refine bO af ?_;refine aM ot (fun aA=>?_) (fun aA=>?_)
 ·have E:=aA
  (try simp only[V.ai,ne_eq] at E)
  have I:l.length<=p:=(by simp at aA;omega)
  rw[if_pos I];refine aV ?_;refine aa ?_;refine au [0,1] ?_;refine aV ?_;refine aa ?_;refine ae bF ?_;refine ae (aB 1) ?_;refine ae (aH 0) ?_;refine aa ?_;refine ae (dc (pl:=[(0,_),(1,_)]) (ds:=[_,_]) rfl zeroValue158 runUnderlying158 Bv ⟨rfl,ot,rfl,ot,trivial⟩ rfl rfl) ?_;refine ae (BB (vs:=[.int .i64 (p:Nat),.int .i64 _]) rfl ot underlying158) ?_;refine Cj ay rfl ot ?_;exact Or.inr ⟨_,rfl,rfl⟩
 have E:=aA
 (try simp only[V.ai,ne_eq] at E)
 have I:¬l.length<=p:=(by simp at aA;omega)
 rw[if_neg I];refine aS ?_;refine aV ?_;refine aa ?_;refine ae bF ?_;refine ae (aB 1) ?_;refine ae (aH 0) ?_;refine aa ?_;refine ae (dc (pl:=[(0,_),(1,_)]) (ds:=[_,_]) rfl zeroValue158 runUnderlying158 Bv ⟨rfl,ot,rfl,ot,trivial⟩ rfl rfl) ?_;refine ae (BB (vs:=[.int .i64 (p:Nat),.int .i64 _]) rfl ot underlying158) ?_;refine Cj ay rfl ot ?_;exact Or.inr ⟨_,rfl,rfl⟩
theorem Hz{i q:Nat}(hi:i<E.length)(ht:aJ l q 1 E[i]=true)(ops:List aZ):eb l (E.drop i) q ops=eb l (E.drop (i+1)) (q+1) ops:=by
 rw[drop_eq_getElem_cons hi,eb,if_pos ht]
theorem I6{i q:Nat}(hi:i<E.length)(hf:aJ l q 1 E[i]=false)(ops:List aZ):eb l (E.drop i) q ops=gv l q 6:=by
 rw[drop_eq_getElem_cons hi,eb,if_neg (by rw[hf];decide)]
theorem nq(l:List Tk)(hl:l.length<=100)(p:Nat)(s:ByteArray)(ad:Option Addr)(n cap br:Nat):VX Tryz.prog G 122 [bD br,bT s] [⟨br,161,3,[av 3 cT l,ag ((p:Nat):Int),az ad n cap]⟩] (fun r S'=>aJ l p 4 s=true/\S'=[⟨br,161,3,[av 3 cT l,ag (((p+1):Nat):Int),az ad n cap]⟩]) (fun I=>aJ l p 4 s=false/\I=mT p (if l.length<=p then 7 else 6)):=by
 refine VX.body func122 rfl ntmps122 aF fun O w0 M=>?_;refine ah ?_;refine aa ?_;refine aa ?_;refine cP ay rfl rfl rfl call116 (ed l hl p 4 s ad n cap br) ⟨ot,aN,ot,trivial⟩ (cY _) ?_;rintro _ _ ⟨rfl,rfl⟩;refine aW (S':=[⟨br,161,3,[av 3 cT l,ag (((if aJ l p 4 s=true then p+1 else p):Nat):Int),az ad n cap]⟩]) (Perm.refl _) ?_;refine ae e9 ?_;refine aK [(0,_),(7,_)] [⟨br,161,3,[_,_,_]⟩] ?_;refine aM ot (fun aA=>?_) (fun aA=>?_)
 ·have E:=aA
  (try simp only[V.ai,ne_eq] at E)
  have hf:aJ l p 4 s=false:=(by simpa using aA)
  rw[hf];simp only[Bool.false_eq_true,if_false];refine aV ?_;refine aa ?_;exact OD.bK ay rfl rfl rfl call71 (gq l hl p 6 ad n cap br) ⟨ot,aN,trivial⟩ (cY _) (fun I aQ=>(Or.inr ⟨I,rfl,⟨by first|exact hf|trivial,aQ⟩⟩:bN _ _ _ _ _ _)) (fun r S' h=>h.elim)
 have E:=aA
 (try simp only[V.ai,ne_eq] at E)
 have ht:aJ l p 4 s=true:=(by simpa using aA)
 rw[ht];simp only[if_true];refine aS ?_;refine Or.inl ?_;refine⟨.inl rfl,_,[_],Sublist.refl _,eM results122,?_⟩;exact⟨by first|exact ht|trivial,rfl⟩
theorem Co(h:l.length<=p)(ops:List aZ):dB l p ops=gv l p 6:=by unfold dB;rw[dif_neg w7]
theorem Cp(h:p<l.length)(hk:l[p].k≠1)(ops:List aZ):dB l p ops=gv l p 6:=by unfold dB;rw[dif_pos h,if_pos hk]
theorem gQ(h:p<l.length):l.getD p ⟨0,⟨#[]⟩,0⟩=l[p]:=by rw[getD_eq_getElem?_getD,getElem?_eq_getElem h];rfl
theorem nr(l:List Tk)(hl:l.length<=100)(E:List ByteArray)(Qp:E.length<=100)(p:Nat)(ad:Option Addr)(n cap br:Nat):VX Tryz.prog G 117 [bD br,av 1 cS E] [⟨br,161,3,[av 3 cT l,ag ((p:Nat):Int),az ad n cap]⟩] (fun r S'=>∃q,(∀ops,eb l E p ops = .ok () q ops)/\S'=[⟨br,161,3,[av 3 cT l,ag ((q:Nat):Int),az ad n cap]⟩]) (fun Y=>∃q e,(∀ops,eb l E p ops = .no q e)/\Y=mT q e):=by
 refine VX.body func117 rfl ntmps117 aF fun X0 w0 dm=>?_;refine ah ?_;refine aa ?_;refine ae cZ ?_;refine aa ?_;refine au [0,6,7,8] ?_;refine bZ ?_;refine fa (fun (I:Nat×Nat) Z=>match I with|(i,q)=>(i<=E.length)/\(∀ops,eb l E p ops=eb l (E.drop i) q ops)/\Z=(⟨19,[(0,bD br),(6,av 1 cS E),(7,ag E.length),(8,ag (i:Nat))],[⟨br,161,3,[av 3 cT l,ag ((q:Nat):Int),az ad n cap]⟩]⟩:St)) (fun (I:Nat×Nat)=>match I with|(i,q)=>E.length-i) (0,p) ⟨(Nat.zero_le _),(fun ops=>by rw[drop_zero]),rfl⟩ (Wk.bI rfl eB dL) ?_;rintro⟨i,q⟩ _ ⟨hi,hq,rfl⟩;refine ah ?_;refine ae aE ?_;refine au [0,6,7,8,9] ?_;refine aC ?_;refine aM ot (fun aA=>?_) (fun aA=>?_)
 ·have M:=aA
  (try simp only[V.ai,ne_eq] at M)
  have aD:i<E.length:=(by simp at aA;omega)
  refine aS ?_;refine aC ?_;refine bZ ?_;refine ah ?_;refine ae (dW 1 (h:=oD)) ?_;refine ae fE ?_;refine aa ?_;refine au [0,5,6,7,8] ?_;refine ah ?_;refine aa ?_;refine aa ?_;refine cP ay rfl rfl rfl call116 (ed l hl q 1 E[i] ad n cap br) ⟨ot,aN,ot,trivial⟩ (cY _) ?_;rintro _ _ ⟨rfl,rfl⟩;refine aW (S':=[⟨br,161,3,[av 3 cT l,ag (((if aJ l q 1 E[i]=true then q+1 else q):Nat):Int),az ad n cap]⟩]) (Perm.refl _) ?_;refine ae e9 ?_;refine aK [(0,_),(6,_),(7,_),(8,_),(15,_)] [⟨br,161,3,[_,_,_]⟩] ?_;refine aM ot (fun aG=>?_) (fun aG=>?_)
  ·have O:=aG
   (try simp only[V.ai,ne_eq] at O)
   have U:aJ l q 1 E[i]=false:=(by simpa using aG)
   rw[U];simp only[Bool.false_eq_true,if_false];refine aV ?_;refine aa ?_;exact OD.bK ay rfl rfl rfl call71 (gq l hl q 6 ad n cap br) ⟨ot,aN,trivial⟩ (cY _) (fun Y aQ=>(Or.inr ⟨Y,rfl,⟨q,_,fun ops=>by rw[hq,I6 aD U];rfl,aQ⟩⟩:bN _ _ _ _ _ _)) (fun r S' h=>h.elim)
  have O:=aG
  (try simp only[V.ai,ne_eq] at O)
  have ht1:aJ l q 1 E[i]=true:=(by simpa using aG)
  rw[ht1];simp only[if_true];refine aS ?_;refine aV ?_;refine ae aE ?_;refine aa ?_;refine au [0,6,7,8] ?_;refine⟨((i+1),(q+1)),_,?_,?_,w7,(fun ops=>by rw[hq,Hz aD ht1]),rfl⟩
  ·first|omega|(simp only[];omega)
  exact Wk.bI (n:=19) rfl eB dL
 have M:=aA
 (try simp only[V.ai,ne_eq] at M)
 have lS:E.length<=i:=(by simp at aA;omega)
 refine ep ?_;refine Or.inl ?_;refine⟨.inl rfl,_,[_],Sublist.refl _,eM results117,?_⟩;exact⟨q,fun ops=>by rw[hq,drop_of_length_le lS];rfl,rfl⟩
theorem kW(hm:(1,marksC)∈G)(hw:(0,wordsC)∈G)(l:List Tk)(hl:l.length<=100)(ht:∀t∈l,t.s.size<=maxLen/\(t.k=2->0<=t.n/\t.n<=9223372036854775807))(p:Nat)(ad:Option Addr)(n cap br:Nat):VX Tryz.prog G 118 [bD br] [⟨br,161,3,[av 3 cT l,ag ((p:Nat):Int),az ad n cap]⟩] (fun r S'=>∃s,(∀ops,dB l p ops = .ok s (p+1) ops)/\r=bT s/\S'=[⟨br,161,3,[av 3 cT l,ag (((p+1):Nat):Int),az ad n cap]⟩]) (fun O=>∃q e,(∀ops,dB l p ops = .no q e)/\O=mT q e):=by
 refine VX.body func118 rfl ntmps118 aF fun X0 w0 Z=>?_;refine ah ?_;refine aa ?_;refine au [0] ?_;refine aC ?_;refine aC ?_;refine ez (aq _) af (fun _ h=>h) ?_;refine aj 0 rfl bg ?_;refine aj 1 rfl bF ?_;refine aj 2 rfl (aB 1) ?_;refine aj 3 rfl (aH 0) ?_;refine aj 4 rfl bg ?_;refine aj 5 rfl bF ?_;refine aj 6 rfl (aB 0) ?_;refine aj 7 rfl (aH 0) ?_;refine aj 8 rfl cZ ?_;refine aj 9 rfl aE ?_;refine aj 10 rfl bg ?_;refine bt.split (t:=15) lk (fun nB=>?_) (fun nB=>?_)
 ·have E:=nB;(try simp only[V.ai,ne_eq] at E)
  refine bk 11 rfl ?_;refine bk 12 rfl ?_;refine bk 13 rfl ?_;refine bk 14 rfl ?_;refine bk 15 rfl ?_;refine bk 16 rfl ?_;refine bk 17 rfl ?_;refine bk 18 rfl ?_;refine bk 19 rfl ?_;refine bk 20 rfl ?_;refine bk 21 rfl ?_;refine bk 22 rfl ?_;refine aj 23 rfl cW ?_;refine bt.later rfl ?_;refine cg [(0,_),(28,_)] [⟨br,161,3,[_,_,_]⟩] ?_;refine bO af ?_;refine fe ot w6 ?_;have U:∀ops,dB l p ops=gv l p 6:=(by first|exact Co (by simp at nB;omega)|exact Cp tD mJ)
  refine aV ?_;refine aa ?_;exact OD.bK ay rfl rfl rfl call71 (gq l hl p 6 ad n cap br) ⟨ot,aN,trivial⟩ (cY _) (fun O aQ=>(Or.inr ⟨O,rfl,⟨p,_,fun ops=>by rw[U];rfl,aQ⟩⟩:bN _ _ _ _ _ _)) (fun r S' h=>h.elim)
 have E:=nB;(try simp only[V.ai,ne_eq] at E)
 refine aj 11 rfl bg ?_;refine aj 12 rfl bF ?_;refine aj 13 rfl (aB 0) ?_;refine aj 14 rfl (aH 0) ?_;refine aj 15 rfl bg ?_;refine aj 16 rfl bF ?_;refine aj 17 rfl (aB 1) ?_;refine aj 18 rfl (aH 0) ?_;refine aj 19 rfl (dW 3 (h:=by first|exact .l (j:=p) rfl tD|exact .r (j:=p) rfl tD)) ?_;refine aj 20 rfl (aB 0) ?_;refine aj 21 rfl (cm (mk:=Op.load 3) rfl ot (by exact lG (i:=p) dO isAgg3 tD rfl)) ?_;refine aj 22 rfl aE ?_;refine aj 23 rfl bC ?_;refine bt.later rfl ?_;refine cg [(0,_),(28,_)] [⟨br,161,3,[_,_,_]⟩] ?_;refine bO af ?_;refine aM ot (fun aA=>?_) (fun aA=>?_)
 ·have I:=aA
  (try simp only[V.ai,ne_eq] at I)
  have U:∀ops,dB l p ops=gv l p 6:=(by first|exact Co (by simp at nB;omega)|exact Cp tD mJ)
  refine aV ?_;refine aa ?_;exact OD.bK ay rfl rfl rfl call71 (gq l hl p 6 ad n cap br) ⟨ot,aN,trivial⟩ (cY _) (fun O aQ=>(Or.inr ⟨O,rfl,⟨p,_,fun ops=>by rw[U];rfl,aQ⟩⟩:bN _ _ _ _ _ _)) (fun r S' h=>h.elim)
 have I:=aA
 (try simp only[V.ai,ne_eq] at I)
 have aD:p<l.length:=(by simp at nB;exact nB)
 have Y:l[p].k=1:=(by simpa using aA)
 refine aS ?_;refine aC ?_;refine ez (aq _) af (fun _ h=>h) ?_;refine aj 0 rfl bg ?_;refine aj 1 rfl bF ?_;refine aj 2 rfl (aB 0) ?_;refine aj 3 rfl (aH 0) ?_;refine aj 4 rfl bg ?_;refine aj 5 rfl bF ?_;refine aj 6 rfl (aB 1) ?_;refine aj 7 rfl (aH 0) ?_;refine aj 8 rfl (dW 3 (h:=by first|exact .l (j:=p) rfl aD|exact .r (j:=p) rfl aD)) ?_;refine aj 9 rfl (aB 1) ?_;refine aj 10 rfl (cm (mk:=Op.load 9) rfl ot (by exact ny (i:=p) (j:=1) dO isAgg9 aD rfl)) ?_;refine aj 11 rfl bg ?_;refine bt.later rfl ?_;refine cg [(0,_),(3,_)] [⟨br,161,3,[_,_,_]⟩] ?_;refine bO af ?_;refine aC ?_;refine ah ?_;refine aa ?_;refine bU call22 (mj hm hw l[p].s (ht _ (getElem_mem aD)).1) ?_;refine aa ?_;refine aK [(0,_),(3,_),(4,_)] [⟨br,161,3,[_,_,_]⟩] ?_;refine ah ?_;refine aa ?_;refine ae aE ?_;refine au [0,3,4,45] ?_;refine aM ot (fun aG=>?_) (fun aG=>?_)
 ·have M:=aG
  (try simp only[V.ai,ne_eq] at M)
  have eA:dA l[p].s≠0:=(by simpa using aG)
  refine aV ?_;refine aa ?_;refine aa ?_;exact OD.bK ay rfl rfl rfl call71 (gq l hl p (dA l[p].s) ad n cap br) ⟨ot,ot,trivial⟩ (cY _) (fun O aQ=>(Or.inr ⟨O,rfl,⟨p,_,fun ops=>by unfold dB;rw[dif_pos aD,if_neg (by rw[Y];decide),if_pos eA];rfl,aQ⟩⟩:bN _ _ _ _ _ _)) (fun r S' h=>h.elim)
 have M:=aG
 (try simp only[V.ai,ne_eq] at M)
 have eA:dA l[p].s=0:=(by simpa using aG)
 refine aS ?_;refine ah ?_;refine aa ?_;refine ae bF ?_;refine ae (aB 1) ?_;refine ae (aH 0) ?_;refine ae aE ?_;refine ae bF ?_;refine ae (aB 1) ?_;refine bn 0 [_,_,_] sizeOf3 ?_;refine aK [(3,_)] [⟨br,161,3,[_,_,_]⟩] ?_;refine ah ?_;refine aa ?_;refine aa ?_;refine au [2] ?_;refine aI ?_;refine Or.inl ?_;refine⟨.inr rfl,_,[_],Sublist.refl _,eC results118 (cw aF lk),?_⟩;exact⟨l[p].s,fun ops=>by unfold dB;rw[dif_pos aD,if_neg (by rw[Y];decide),if_neg (by rw[eA];decide)],rfl,rfl⟩
abbrev iW(ops:List aZ)(ad:Option Addr)(cap:Nat)(S:List ak):Prop:=bV 287 5 (ops.flatMap cO) ops.length ad cap S
def PS(br:Nat)(l:List Tk)(p:Nat)(ops:List aZ)(S:List ak):Prop:=∃ad cap So,iW ops ad cap So/\S=⟨br,161,3,[av 3 cT l,ag ((p:Nat):Int),az ad ops.length cap]⟩::So
theorem BC:(Tryz.prog.info? 287).map (fun i=>(i.zero,i.size,i.bytes))=some (some (.agg #[.int .i64 0,.int .i64 0,.int .i64 0,.string ⟨#[]⟩,.string ⟨#[]⟩]),5,56):=by kernel_rfl
theorem jT(l:List Tk)(hl:l.length<=100)(o:aZ)(p:Nat)(hp:0<p)(qf:p<=200)(ops:List aZ)(PM:ops.length<=40)(ad:Option Addr)(cap br:Nat)(So:List ak)(ho:iW ops ad cap So):VX Tryz.prog G 226 [bD br,.agg (cO o)] (⟨br,161,3,[av 3 cT l,ag ((p:Nat):Int),az ad ops.length cap]⟩::So) (fun r S'=>∃M,bW l o p ops = .ok () p M/\M.length<=40/\PS br l p M S') (fun ch=>∃q e,bW l o p ops = .no q e/\ch=mT q e):=by
 refine VX.body func226 rfl ntmps226 aF fun X0 w0 dm=>?_;unfold cO;refine aC ?_;refine aV ?_;refine fI (ds:=[_,_,_,_,_]) ay rfl rfl ot rfl rfl (fun b3=>?_);refine bc (Wk.aR (n:=29) (l':=[(0,_),(3,_)]) (S':=(⟨b3,287,5,[_,_,_,_,_]⟩::⟨br,161,3,[_,_,_]⟩::So)) rfl rfl bj) ?_;refine bi ?_;refine aC ?_;refine ah ?_;refine aa ?_;refine ae bF ?_;refine ae (aB 2) ?_;refine ae (aH 1) ?_;refine ae cZ ?_;refine ae aE ?_;refine au [0,3,9] ?_;refine aM ot (fun aA=>?_) (fun aA=>?_)
 ·have O:=aA
  (try simp only[V.ai,ne_eq] at O)
  have Z:ops.length=40:=(by simp at aA;omega)
  refine ah ?_;refine aa ?_;refine ae bF ?_;refine ae (aB 1) ?_;refine ae (aH 1) ?_;refine ae (eX (r:=.int .i64 ((p-1:Nat):Int)) rfl ot aN (qC (by rw[show((p:Nat):Int)-1=((p-1:Nat):Int) by omega];exact wrap_i64 w7 w7))) ?_;refine ae bF ?_;refine ae (aB 1) ?_;refine bn 1 [_,_,_] sizeOf3 ?_;refine bc (Wk.aR (n:=29) (l':=[(0,_),(3,_)]) (S':=(⟨b3,287,5,[_,_,_,_,_]⟩::⟨br,161,3,[_,_,_]⟩::So)) rfl rfl bj) ?_;refine bi ?_;refine aV ?_;refine aa ?_;exact OD.bK ay rfl rfl rfl call71 (gq l hl (p-1) 10 ad ops.length cap br) ⟨ot,aN,trivial⟩ (perm_middle (l₁:=[_])) (fun ch aQ=>(Or.inr ⟨ch,rfl,⟨_,_,by unfold bW;rw[if_pos Z];rfl,aQ⟩⟩:bN _ _ _ _ _ _)) (fun r S' h=>h.elim)
 have O:=aA
 (try simp only[V.ai,ne_eq] at O)
 have Z:¬ops.length=40:=(by simp at aA;omega)
 refine aS ?_;refine ez (aq (take 1 _)) af (fun _ h=>(Sublist.map _ (take_sublist _ _)).subset h) ?_;refine aj 0 rfl bg ?_;refine aj 1 rfl bg ?_;refine aj 2 rfl bF ?_;refine aj 3 rfl (aB 2) ?_;refine aj 5 rfl (fw 0 [_,_,_,_,_]) ?_;refine bt.later rfl ?_;refine dY (i:=4) (j:=6) af ?_ ?_
 ·refine at_ rfl (aH 1) ?_;refine aL (i:=6) af ?_;refine bA (aU 0 [_]) [.int .i64 0,.int .i64 0,.int .i64 0,.string ⟨#[]⟩,.string ⟨#[]⟩] [_,_,_,_,_] zeroValue287 runUnderlying68 sizeOf287 (fun wB=>?_);refine bz 0 25 5 1 ?_;refine aL (i:=7) af ?_;refine n6 (ls:=ops) (new:=[o]) (Sq:=So) nu yE rfl ay rfl rfl underlying68 BC rfl cc ot ho (cy (A:=[_,_])) ot cq iY EI (fun I E U Y=>?_);refine gN (dj (S1:=[⟨I,287,E*5,flatMap cO (ops++[o])⟩]) (A:=[_,_])) ?_;refine bR 8 rfl bF ?_;refine bR 9 rfl (aB 2) ?_;refine aL (i:=10) af ?_;refine aR 1 [_,_,_] sizeOf68 ?_;refine jr (y:=⟨29,[],(⟨b3,287,5,[_,_,_,_,_]⟩::⟨br,161,3,[_,_,_]⟩::[⟨I,287,E*5,flatMap cO (ops++[o])⟩])⟩) (Wk.aR rfl rfl trivial) rfl ?_;refine bO af ?_;refine Or.inl ?_;refine⟨.inl rfl,_,(⟨br,161,3,[av 3 cT l,ag ((p:Nat):Int),az (some ⟨I,0,none⟩) (ops++[o]).length E]⟩::[⟨I,287,E*5,flatMap cO (ops++[o])⟩]),cG,eM results226,?_⟩;exact⟨ops++[o],by unfold bW;rw[if_neg Z],by simp;omega,(some ⟨I,0,none⟩),E,[⟨I,287,E*5,flatMap cO (ops++[o])⟩],(cU U Y),rfl⟩
 refine bA (aU 0 [_]) [.int .i64 0,.int .i64 0,.int .i64 0,.string ⟨#[]⟩,.string ⟨#[]⟩] [_,_,_,_,_] zeroValue287 runUnderlying68 sizeOf287 (fun wB=>?_);refine bz 0 25 5 1 ?_;refine aL (i:=4) af ?_;refine at_ rfl (aH 1) ?_;refine aL (i:=7) af ?_;refine n6 (ls:=ops) (new:=[o]) (Sq:=So) nu yE rfl ay rfl rfl underlying68 BC rfl cc ot ho (cy (A:=[_,_])) ot cq iY EI (fun I E U Y=>?_);refine gN (dj (S1:=[⟨I,287,E*5,flatMap cO (ops++[o])⟩]) (A:=[_,_])) ?_;refine bR 8 rfl bF ?_;refine bR 9 rfl (aB 2) ?_;refine aL (i:=10) af ?_;refine aR 1 [_,_,_] sizeOf68 ?_;refine jr (y:=⟨29,[],(⟨b3,287,5,[_,_,_,_,_]⟩::⟨br,161,3,[_,_,_]⟩::[⟨I,287,E*5,flatMap cO (ops++[o])⟩])⟩) (Wk.aR rfl rfl trivial) rfl ?_;refine bO af ?_;refine Or.inl ?_;refine⟨.inl rfl,_,(⟨br,161,3,[av 3 cT l,ag ((p:Nat):Int),az (some ⟨I,0,none⟩) (ops++[o]).length E]⟩::[⟨I,287,E*5,flatMap cO (ops++[o])⟩]),cG,eM results226,?_⟩;exact⟨ops++[o],by unfold bW;rw[if_neg Z],by simp;omega,(some ⟨I,0,none⟩),E,[⟨I,287,E*5,flatMap cO (ops++[o])⟩],(cU U Y),rfl⟩
theorem F_{b:Bool}(h:b=false):¬b=true:=by rw[h];decide
theorem kR : ∀ w, ((#[{ name := "Kind", type := 3, offset := 0, embedded := false, tag := "", pkgPath := "", byteOffset := 0 }, { name := "Int", type := 3, offset := 1, embedded := false, tag := "", pkgPath := "", byteOffset := 8 }, { name := "Text", type := 9, offset := 2, embedded := false, tag := "", pkgPath := "", byteOffset := 16 }] : Array Field).mapM fun f => do pure (f.offset, ← sizeOf f.type) : Sem (Array (Nat × Nat))).run Tryz.prog w = .ok #[(0, 1), (1, 1), (2, 1)] w := fun w => by simp [sizeOf3, sizeOf9]
theorem BN(l:List Tk)(hl:l.length<=100)(ht:∀t∈l,t.s.size<=maxLen/\(t.k=2->0<=t.n/\t.n<=9223372036854775807))(p:Nat)(ad:Option Addr)(n cap br:Nat):VX Tryz.prog G 184 [bD br] [⟨br,161,3,[av 3 cT l,ag ((p:Nat):Int),az ad n cap]⟩] (fun r S'=>∃v ok q,(∀ops,e7 l p ops = .ok (v,ok) q ops)/\r = .dK [.agg (cV v),bw ok]/\S'=[⟨br,161,3,[av 3 cT l,ag ((q:Nat):Int),az ad n cap]⟩]) (fun ch=>∃q e,(∀ops,e7 l p ops = .no q e)/\ch=mT q e):=by
 refine VX.body func184 rfl ntmps184 aF fun X0 w0 dm=>?_;refine ah ?_;refine eo (ds:=[_,_,_]) ay rfl rfl zeroValue127 rfl (fun U=>?_);refine aa ?_;refine aK [(0,_),(2,_)] [⟨U,127,3,[_,_,_]⟩,⟨br,161,3,[_,_,_]⟩] ?_;refine aC ?_;refine bZ ?_;refine ah ?_;refine aa ?_;refine cP ay rfl rfl rfl call116 (ed l hl p 1 mw ad n cap br) ⟨ot,aN,aN,trivial⟩ (Perm.swap _ _ _) ?_;rintro _ _ ⟨rfl,rfl⟩;refine aW (S':=[⟨U,127,3,[_,_,_]⟩,⟨br,161,3,[av 3 cT l,ag (((if aJ l p 1 mw=true then p+1 else p):Nat):Int),az ad n cap]⟩]) (Perm.swap _ _ _) ?_;refine aa ?_;refine aK [(0,_),(2,_),(5,_)] [⟨U,127,3,[_,_,_]⟩,⟨br,161,3,[_,_,_]⟩] ?_;refine aM ot (fun aA=>?_) (fun aA=>?_)
 ·have dJ:=aA
  (try simp only[V.ai,ne_eq] at dJ)
  have nat:aJ l p 1 mw=true:=aA;rw[nat];simp only[if_true];refine ah ?_;refine ae (dc (pl:=[]) (ds:=[_,_,_]) rfl zeroValue127 runUnderlying127 kR trivial rfl rfl) ?_;refine bn 0 [_,_,_] sizeOf127 ?_;refine aa ?_;refine aK [(2,_),(3,_)] [⟨U,127,3,[_,_,_]⟩,⟨br,161,3,[_,_,_]⟩] ?_;refine aI ?_;refine Or.inl ?_;refine⟨.inr rfl,_,[⟨br,161,3,[av 3 cT l,ag (((p+1):Nat):Int),az ad n cap]⟩],cG,kp results184 (di (k:=0) (ds:=[_,_,_]) aF lk rfl rfl isAgg127 sizeOf127 rfl rfl) (cw aF lk),?_⟩;exact⟨jw,true,(p+1),fun ops=>by unfold e7;rw[if_pos nat],rfl,rfl⟩
 have dJ:=aA
 (try simp only[V.ai,ne_eq] at dJ)
 have Y:aJ l p 1 mw=false:=aA;rw[Y];simp only[Bool.false_eq_true,if_false];refine ah ?_;refine aa ?_;refine cP ay rfl rfl rfl call116 (ed l hl p 1 sP ad n cap br) ⟨ot,aN,aN,trivial⟩ (Perm.swap _ _ _) ?_;rintro _ _ ⟨rfl,rfl⟩;refine aW (S':=[⟨U,127,3,[_,_,_]⟩,⟨br,161,3,[av 3 cT l,ag (((if aJ l p 1 sP=true then p+1 else p):Nat):Int),az ad n cap]⟩]) (Perm.swap _ _ _) ?_;refine aa ?_;refine aK [(0,_),(2,_),(9,_)] [⟨U,127,3,[_,_,_]⟩,⟨br,161,3,[_,_,_]⟩] ?_;refine aM ot (fun aG=>?_) (fun aG=>?_)
 ·have cA:=aG
  (try simp only[V.ai,ne_eq] at cA)
  have Fq:aJ l p 1 sP=true:=aG;rw[Fq];simp only[if_true];refine ah ?_;refine ae (dc (pl:=[(0,_),(1,_)]) (ds:=[_,_,_]) rfl zeroValue127 runUnderlying127 kR ⟨rfl,aN,rfl,aN,trivial⟩ rfl rfl) ?_;refine bn 0 [_,_,_] sizeOf127 ?_;refine aa ?_;refine aK [(2,_),(3,_)] [⟨U,127,3,[_,_,_]⟩,⟨br,161,3,[_,_,_]⟩] ?_;refine aI ?_;refine Or.inl ?_;refine⟨.inr rfl,_,[⟨br,161,3,[av 3 cT l,ag (((p+1):Nat):Int),az ad n cap]⟩],cG,kp results184 (di (k:=0) (ds:=[_,_,_]) aF lk rfl rfl isAgg127 sizeOf127 rfl rfl) (cw aF lk),?_⟩;exact⟨⟨1,1,⟨#[]⟩⟩,true,(p+1),fun ops=>by unfold e7;rw[if_neg (F_ Y),if_pos Fq],rfl,rfl⟩
 have cA:=aG
 (try simp only[V.ai,ne_eq] at cA)
 have Z:aJ l p 1 sP=false:=aG;rw[Z];simp only[Bool.false_eq_true,if_false];refine ah ?_;refine aa ?_;refine cP ay rfl rfl rfl call116 (ed l hl p 1 sG ad n cap br) ⟨ot,aN,aN,trivial⟩ (Perm.swap _ _ _) ?_;rintro _ _ ⟨rfl,rfl⟩;refine aW (S':=[⟨U,127,3,[_,_,_]⟩,⟨br,161,3,[av 3 cT l,ag (((if aJ l p 1 sG=true then p+1 else p):Nat):Int),az ad n cap]⟩]) (Perm.swap _ _ _) ?_;refine aa ?_;refine aK [(0,_),(2,_),(13,_)] [⟨U,127,3,[_,_,_]⟩,⟨br,161,3,[_,_,_]⟩] ?_;refine aM ot (fun bJ=>?_) (fun bJ=>?_)
 ·have aX:=bJ
  (try simp only[V.ai,ne_eq] at aX)
  have Fs:aJ l p 1 sG=true:=bJ;rw[Fs];simp only[if_true];refine ah ?_;refine ae (dc (pl:=[(0,_)]) (ds:=[_,_,_]) rfl zeroValue127 runUnderlying127 kR ⟨rfl,aN,trivial⟩ rfl rfl) ?_;refine bn 0 [_,_,_] sizeOf127 ?_;refine aa ?_;refine aK [(2,_),(3,_)] [⟨U,127,3,[_,_,_]⟩,⟨br,161,3,[_,_,_]⟩] ?_;refine aI ?_;refine Or.inl ?_;refine⟨.inr rfl,_,[⟨br,161,3,[av 3 cT l,ag (((p+1):Nat):Int),az ad n cap]⟩],cG,kp results184 (di (k:=0) (ds:=[_,_,_]) aF lk rfl rfl isAgg127 sizeOf127 rfl rfl) (cw aF lk),?_⟩;exact⟨⟨1,0,⟨#[]⟩⟩,true,(p+1),fun ops=>by unfold e7;rw[if_neg (F_ Y),if_neg (F_ Z),if_pos Fs],rfl,rfl⟩
 have aX:=bJ
 (try simp only[V.ai,ne_eq] at aX)
 have jF:aJ l p 1 sG=false:=bJ;rw[jF];simp only[Bool.false_eq_true,if_false];refine aC ?_;refine ez (aq _) af (fun _ h=>h) ?_;refine aj 0 rfl bg ?_;refine aj 1 rfl bF ?_;refine aj 2 rfl (aB 1) ?_;refine aj 3 rfl (aH 1) ?_;refine aj 4 rfl bg ?_;refine aj 5 rfl bF ?_;refine aj 6 rfl (aB 0) ?_;refine aj 7 rfl (aH 1) ?_;refine aj 8 rfl cZ ?_;refine aj 9 rfl aE ?_;refine aj 10 rfl bg ?_;refine bt.split (t:=28) lk (fun O=>?_) (fun O=>?_)
 ·have yP:=O;(try simp only[V.ai,ne_eq] at yP)
  refine aj 11 rfl bg ?_;refine aj 12 rfl bF ?_;refine aj 13 rfl (aB 0) ?_;refine aj 14 rfl (aH 1) ?_;refine aj 15 rfl bg ?_;refine aj 16 rfl bF ?_;refine aj 17 rfl (aB 1) ?_;refine aj 18 rfl (aH 1) ?_;refine aj 19 rfl (dW 3 (h:=by first|exact .l (j:=p) rfl (by simp at O;exact O)|exact .r (j:=p) rfl (by simp at O;exact O))) ?_;refine aj 20 rfl (aB 0) ?_;refine aj 21 rfl (cm (mk:=Op.load 3) rfl ot (by exact lG dO isAgg3 (by simp at O;exact O) rfl)) ?_;refine aj 22 rfl aE ?_;refine aj 23 rfl cW ?_;refine aj 24 rfl bg ?_;refine bt.later rfl ?_;refine cg [(0,_),(2,_),(17,_)] [⟨U,127,3,[_,_,_]⟩,⟨br,161,3,[_,_,_]⟩] ?_;refine bO af ?_;refine aM ot (fun ct=>?_) (fun ct=>?_)
  ·have bu:=ct
   (try simp only[V.ai,ne_eq] at bu)
   have aD:p<l.length:=(by simp at O;exact O)
   have ji:(l.getD p ⟨0,⟨#[]⟩,0⟩).k=3:=(by rw[gQ aD];simpa using ct)
   refine aC ?_;refine aC ?_;refine ez (aq _) af (fun _ h=>h) ?_;refine aj 0 rfl bg ?_;refine aj 1 rfl bF ?_;refine aj 2 rfl (aB 0) ?_;refine aj 3 rfl (aH 1) ?_;refine aj 4 rfl bg ?_;refine aj 5 rfl bF ?_;refine aj 6 rfl (aB 1) ?_;refine aj 7 rfl (aH 1) ?_;refine aj 8 rfl (dW 3 (h:=by first|exact .l (j:=p) rfl aD|exact .r (j:=p) rfl aD)) ?_;refine aj 9 rfl (aB 1) ?_;refine aj 10 rfl (cm (mk:=Op.load 9) rfl ot (by exact ny (j:=1) dO isAgg9 aD rfl)) ?_;refine aj 11 rfl (kg rfl rfl ot runUnderlying9) ?_;refine aj 12 rfl aE ?_;refine bt.later rfl ?_;refine cg [(0,_),(2,_),(54,_)] [⟨U,127,3,[_,_,_]⟩,⟨br,161,3,[_,_,_]⟩] ?_;refine bO af ?_;refine aM ot (fun ck=>?_) (fun ck=>?_)
   ·have bQ:=ck
    (try simp only[V.ai,ne_eq] at bQ)
    have s0:l[p].s.size>20:=(by simp at ck;omega)
    refine aV ?_;refine aa ?_;exact OD.bK ay rfl rfl rfl call71 (gq l hl p 1 ad n cap br) ⟨ot,aN,trivial⟩ (Perm.swap _ _ _) (fun ch aQ=>(Or.inr ⟨ch,rfl,⟨_,_,fun ops=>by unfold e7;rw[if_neg (F_ Y),if_neg (F_ Z),if_neg (F_ jF),dif_pos ⟨aD,ji⟩,if_pos s0];rfl,aQ⟩⟩:bN _ _ _ _ _ _)) (fun r S' h=>h.elim)
   have bQ:=ck
   (try simp only[V.ai,ne_eq] at bQ)
   have s0:¬l[p].s.size>20:=(by simp at ck;omega)
   refine aS ?_;refine ah ?_;refine aa ?_;refine ae bF ?_;refine ae (aB 1) ?_;refine ae (aH 1) ?_;refine ae aE ?_;refine ae bF ?_;refine ae (aB 1) ?_;refine bn 1 [_,_,_] sizeOf3 ?_;refine aK [(0,_),(2,_)] [⟨U,127,3,[_,_,_]⟩,⟨br,161,3,[_,_,_]⟩] ?_;refine aC ?_;refine ez (aq (eraseIdx _ 0)) af (fun _ h=>(Sublist.map _ (eraseIdx_sublist _ 0)).subset h) ?_;refine aj 0 rfl bg ?_;refine aj 1 rfl bF ?_;refine aj 2 rfl (aB 0) ?_;refine aj 3 rfl (aH 1) ?_;refine aj 4 rfl bg ?_;refine aj 5 rfl bF ?_;refine aj 6 rfl (aB 1) ?_;refine aj 7 rfl (aH 1) ?_;refine aj 8 rfl aE ?_;refine aj 9 rfl (dW 3 (h:=by first|exact .l (j:=p) w7 aD|exact .r (j:=p) w7 aD)) ?_;refine aj 10 rfl (aB 1) ?_;refine aj 11 rfl (cm (mk:=Op.load 9) rfl ot (by exact ny (j:=1) dO isAgg9 aD rfl)) ?_;refine aj 12 rfl (dc (pl:=[(0,_),(2,_)]) (ds:=[_,_,_]) rfl zeroValue127 runUnderlying127 kR ⟨rfl,aN,rfl,ot,trivial⟩ rfl rfl) ?_;refine bt.later rfl ?_;refine aL (i:=13) af ?_;refine aR 0 [_,_,_] sizeOf127 ?_;refine bR 14 rfl bg ?_;refine cg [(2,_),(3,_)] [⟨U,127,3,[_,_,_]⟩,⟨br,161,3,[_,_,_]⟩] ?_;refine bO af ?_;refine aI ?_;refine Or.inl ?_;refine⟨.inr rfl,_,[⟨br,161,3,[av 3 cT l,ag (((p+1):Nat):Int),az ad n cap]⟩],cG,kp results184 (di (k:=0) (ds:=[_,_,_]) aF lk rfl rfl isAgg127 sizeOf127 rfl rfl) (cw aF lk),?_⟩
   exact⟨⟨3,0,l[p].s⟩,true,(p+1),fun ops=>by unfold e7;rw[if_neg (F_ Y),if_neg (F_ Z),if_neg (F_ jF),dif_pos ⟨aD,ji⟩,if_neg s0],rfl,rfl⟩
  have bu:=ct
  (try simp only[V.ai,ne_eq] at bu)
  have ji:¬(p<l.length/\(l.getD p ⟨0,⟨#[]⟩,0⟩).k=3):=(by first|exact(fun h=>by simp at O;omega)|exact(fun h=>by rw[gQ h.1] at h;have:=h.2;simp at ct;exact ct this))
  refine aS ?_;refine ah ?_;refine aa ?_;refine au [0,2,4] ?_;refine aC ?_;refine ah ?_;refine aa ?_;refine cP ay rfl rfl rfl call116 (ed l hl p 4 ⟨#[45]⟩ ad n cap br) ⟨ot,aN,aN,trivial⟩ (Perm.swap _ _ _) ?_;rintro _ _ ⟨rfl,rfl⟩;refine aW (S':=[⟨U,127,3,[_,_,_]⟩,⟨br,161,3,[av 3 cT l,ag (((if aJ l p 4 ⟨#[45]⟩=true then p+1 else p):Nat):Int),az ad n cap]⟩]) (Perm.swap _ _ _) ?_;refine aK [(0,_),(2,_),(4,_),(78,_)] [⟨U,127,3,[_,_,_]⟩,⟨br,161,3,[_,_,_]⟩] ?_;refine aM ot (fun cl=>?_) (fun cl=>?_)
  ·have bE:=cl
   (try simp only[V.ai,ne_eq] at bE)
   have nN:aJ l p 4 ⟨#[45]⟩=true:=cl;rw[nN];simp only[if_true];refine aV ?_;refine aa ?_;refine au [0,2,4] ?_;refine aC ?_;refine aC ?_;refine ez (aq _) af (fun _ h=>h) ?_;refine aj 0 rfl bg ?_;refine aj 1 rfl bF ?_;refine aj 2 rfl (aB 1) ?_;refine aj 3 rfl (aH 1) ?_;refine aj 4 rfl bg ?_;refine aj 5 rfl bF ?_;refine aj 6 rfl (aB 0) ?_;refine aj 7 rfl (aH 1) ?_;refine aj 8 rfl cZ ?_;refine aj 9 rfl aE ?_;refine aj 10 rfl bg ?_;refine bt.split (t:=89) lk (fun eS=>?_) (fun eS=>?_)
   ·have I:=eS;(try simp only[V.ai,ne_eq] at I)
    refine aj 11 rfl bg ?_;refine aj 12 rfl bF ?_;refine aj 13 rfl (aB 0) ?_;refine aj 14 rfl (aH 1) ?_;refine aj 15 rfl bg ?_;refine aj 16 rfl bF ?_;refine aj 17 rfl (aB 1) ?_;refine aj 18 rfl (aH 1) ?_;refine aj 19 rfl (dW 3 (h:=vQ)) ?_;refine aj 20 rfl (aB 0) ?_;refine aj 21 rfl (cm (mk:=Op.load 3) rfl ot vT) ?_;refine aj 22 rfl aE ?_;refine aj 23 rfl cW ?_;refine bt.later rfl ?_;refine cg [(0,_),(2,_),(4,_),(102,_)] [⟨U,127,3,[_,_,_]⟩,⟨br,161,3,[_,_,_]⟩] ?_;refine bO af ?_;refine aM ot (fun E=>?_) (fun E=>?_)
    ·have M:=E
     (try simp only[V.ai,ne_eq] at M)
     have jG:True:=trivial;refine aC ?_;have fL:p+1<l.length:=(by simp at eS;omega)
     have fg:(l.getD (p+1) ⟨0,⟨#[]⟩,0⟩).k=2:=(by rw[gQ fL];simpa using E)
     have AM:=(ht l[p+1] (getElem_mem fL)).2 vW;refine aV ?_;refine aa ?_;refine ae bF ?_;refine ae (aB 1) ?_;refine ae (aH 1) ?_;refine ae aE ?_;refine ae bF ?_;refine ae (aB 1) ?_;refine bn 1 [_,_,_] sizeOf3 ?_;refine aK [(0,_),(2,_),(4,_)] [⟨U,127,3,[_,_,_]⟩,⟨br,161,3,[_,_,_]⟩] ?_;refine aC ?_;refine ez (aq (eraseIdx _ 0)) af (fun _ h=>(Sublist.map _ (eraseIdx_sublist _ 0)).subset h) ?_;refine aj 0 rfl bg ?_;refine aj 1 rfl bg ?_;refine aj 2 rfl bF ?_;refine aj 3 rfl (aB 0) ?_;refine aj 4 rfl (aH 1) ?_;refine aj 5 rfl bg ?_;refine aj 6 rfl bF ?_;refine aj 7 rfl (aB 1) ?_;refine aj 8 rfl (aH 1) ?_;refine aj 9 rfl aE ?_;first|refine aj 10 rfl (kj (mk:=Op.indexAddr 99) rfl ot ot vS) ?_|refine aj 10 rfl (kj (mk:=Op.indexAddr 99) rfl ot ot vU) ?_
     refine aj 11 rfl (aB 2) ?_;refine aj 12 rfl (cm (mk:=Op.load 3) rfl ot vV) ?_;refine aj 13 rfl (eX rfl ot ot (qD (wrap_i64 w7 w7))) ?_;refine aj 14 rfl (dc (pl:=[(0,_),(1,_)]) (ds:=[_,_,_]) rfl zeroValue127 runUnderlying127 kR ⟨rfl,aN,rfl,ot,trivial⟩ rfl rfl) ?_;refine bt.later rfl ?_;refine aL (i:=15) af ?_;refine aR 0 [_,_,_] sizeOf127 ?_;refine bR 16 rfl bg ?_;refine cg [(2,_),(3,_)] [⟨U,127,3,[_,_,_]⟩,⟨br,161,3,[_,_,_]⟩] ?_;refine bO af ?_;refine aI ?_;refine Or.inl ?_;refine⟨.inr rfl,_,[⟨br,161,3,[av 3 cT l,ag (((p+2):Nat):Int),az ad n cap]⟩],cG,kp results184 (di (k:=0) (ds:=[_,_,_]) aF lk rfl rfl isAgg127 sizeOf127 rfl rfl) (cw aF lk),?_⟩;exact⟨⟨2,-l[p+1].n,⟨#[]⟩⟩,true,(p+2),fun ops=>by unfold e7;rw[if_neg (F_ Y),if_neg (F_ Z),if_neg (F_ jF),dif_neg ji,if_pos nN,dif_pos ⟨fL,fg⟩],(by rw[show(-1:Int)*l[p+1].n = -l[p+1].n by omega];rfl),rfl⟩
    have M:=E
    (try simp only[V.ai,ne_eq] at M)
    have jG:True:=trivial;refine aS ?_;refine aC ?_;refine aC ?_;have fg:¬(p+1<l.length/\(l.getD (p+1) ⟨0,⟨#[]⟩,0⟩).k=2):=(by first|exact(fun h=>by simp at eS;omega)|exact(fun h=>by rw[gQ h.1] at h;have:=h.2;simp at E;exact E this))
    refine aV ?_;refine aa ?_;refine ae aE ?_;refine au [0,2,126] ?_;refine fe ot w6 ?_;refine aV ?_;refine aa ?_;exact OD.bK ay rfl rfl rfl call71 (gq l hl (p+1) 6 ad n cap br) ⟨ot,aN,trivial⟩ (Perm.swap _ _ _) (fun ch aQ=>(Or.inr ⟨ch,rfl,⟨_,_,fun ops=>by unfold e7;rw[if_neg (F_ Y),if_neg (F_ Z),if_neg (F_ jF),dif_neg ji,if_pos nN,dif_neg fg];rfl,aQ⟩⟩:bN _ _ _ _ _ _)) (fun r S' h=>h.elim)
   have I:=eS;(try simp only[V.ai,ne_eq] at I)
   refine bk 11 rfl ?_;refine bk 12 rfl ?_;refine bk 13 rfl ?_;refine bk 14 rfl ?_;refine bk 15 rfl ?_;refine bk 16 rfl ?_;refine bk 17 rfl ?_;refine bk 18 rfl ?_;refine bk 19 rfl ?_;refine bk 20 rfl ?_;refine bk 21 rfl ?_;refine bk 22 rfl ?_;refine aj 23 rfl bC ?_;refine bt.later rfl ?_;refine cg [(0,_),(2,_),(4,_),(102,_)] [⟨U,127,3,[_,_,_]⟩,⟨br,161,3,[_,_,_]⟩] ?_;refine bO af ?_;refine iG ot w6 ?_;have jG:True:=trivial;refine aS ?_;refine aC ?_;refine aC ?_;have fg:¬(p+1<l.length/\(l.getD (p+1) ⟨0,⟨#[]⟩,0⟩).k=2):=(by first|exact(fun h=>by simp at eS;omega)|exact(fun h=>by rw[gQ h.1] at h;have:=h.2;simp at E;exact E this))
   refine aV ?_;refine aa ?_;refine ae aE ?_;refine au [0,2,126] ?_;refine fe ot w6 ?_;refine aV ?_;refine aa ?_;exact OD.bK ay rfl rfl rfl call71 (gq l hl (p+1) 6 ad n cap br) ⟨ot,aN,trivial⟩ (Perm.swap _ _ _) (fun ch aQ=>(Or.inr ⟨ch,rfl,⟨_,_,fun ops=>by unfold e7;rw[if_neg (F_ Y),if_neg (F_ Z),if_neg (F_ jF),dif_neg ji,if_pos nN,dif_neg fg];rfl,aQ⟩⟩:bN _ _ _ _ _ _)) (fun r S' h=>h.elim)
  have bE:=cl
  (try simp only[V.ai,ne_eq] at bE)
  have nO:aJ l p 4 ⟨#[45]⟩=false:=cl;rw[nO];simp only[Bool.false_eq_true,if_false];refine aS ?_;refine aC ?_;refine aC ?_;refine ez (aq _) af (fun _ h=>h) ?_;refine aj 0 rfl bg ?_;refine aj 1 rfl bF ?_;refine aj 2 rfl (aB 1) ?_;refine aj 3 rfl (aH 1) ?_;refine aj 4 rfl bg ?_;refine aj 5 rfl bF ?_;refine aj 6 rfl (aB 0) ?_;refine aj 7 rfl (aH 1) ?_;refine aj 8 rfl cZ ?_;refine aj 9 rfl aE ?_;refine aj 10 rfl bg ?_;refine bt.split (t:=89) lk (fun eS=>?_) (fun eS=>?_)
  ·have I:=eS;(try simp only[V.ai,ne_eq] at I)
   refine aj 11 rfl bg ?_;refine aj 12 rfl bF ?_;refine aj 13 rfl (aB 0) ?_;refine aj 14 rfl (aH 1) ?_;refine aj 15 rfl bg ?_;refine aj 16 rfl bF ?_;refine aj 17 rfl (aB 1) ?_;refine aj 18 rfl (aH 1) ?_;refine aj 19 rfl (dW 3 (h:=vQ)) ?_;refine aj 20 rfl (aB 0) ?_;refine aj 21 rfl (cm (mk:=Op.load 3) rfl ot vT) ?_;refine aj 22 rfl aE ?_;refine aj 23 rfl cW ?_;refine bt.later rfl ?_;refine cg [(0,_),(2,_),(4,_),(102,_)] [⟨U,127,3,[_,_,_]⟩,⟨br,161,3,[_,_,_]⟩] ?_;refine bO af ?_;refine aM ot (fun E=>?_) (fun E=>?_)
   ·have M:=E
    (try simp only[V.ai,ne_eq] at M)
    have jG:True:=trivial;refine aC ?_;have fL:p<l.length:=(by simp at eS;omega)
    have fg:(l.getD (p) ⟨0,⟨#[]⟩,0⟩).k=2:=(by rw[gQ fL];simpa using E)
    have AM:=(ht l[p] (getElem_mem fL)).2 vW;refine aV ?_;refine aa ?_;refine ae bF ?_;refine ae (aB 1) ?_;refine ae (aH 1) ?_;refine ae aE ?_;refine ae bF ?_;refine ae (aB 1) ?_;refine bn 1 [_,_,_] sizeOf3 ?_;refine aK [(0,_),(2,_),(4,_)] [⟨U,127,3,[_,_,_]⟩,⟨br,161,3,[_,_,_]⟩] ?_;refine aC ?_;refine ez (aq (eraseIdx _ 0)) af (fun _ h=>(Sublist.map _ (eraseIdx_sublist _ 0)).subset h) ?_;refine aj 0 rfl bg ?_;refine aj 1 rfl bg ?_;refine aj 2 rfl bF ?_;refine aj 3 rfl (aB 0) ?_;refine aj 4 rfl (aH 1) ?_;refine aj 5 rfl bg ?_;refine aj 6 rfl bF ?_;refine aj 7 rfl (aB 1) ?_;refine aj 8 rfl (aH 1) ?_;refine aj 9 rfl aE ?_;first|refine aj 10 rfl (kj (mk:=Op.indexAddr 99) rfl ot ot vS) ?_|refine aj 10 rfl (kj (mk:=Op.indexAddr 99) rfl ot ot vU) ?_
    refine aj 11 rfl (aB 2) ?_;refine aj 12 rfl (cm (mk:=Op.load 3) rfl ot vV) ?_;refine aj 13 rfl (eX rfl ot ot (qD (wrap_i64 w7 w7))) ?_;refine aj 14 rfl (dc (pl:=[(0,_),(1,_)]) (ds:=[_,_,_]) rfl zeroValue127 runUnderlying127 kR ⟨rfl,aN,rfl,ot,trivial⟩ rfl rfl) ?_;refine bt.later rfl ?_;refine aL (i:=15) af ?_;refine aR 0 [_,_,_] sizeOf127 ?_;refine bR 16 rfl bg ?_;refine cg [(2,_),(3,_)] [⟨U,127,3,[_,_,_]⟩,⟨br,161,3,[_,_,_]⟩] ?_;refine bO af ?_;refine aI ?_;refine Or.inl ?_;refine⟨.inr rfl,_,[⟨br,161,3,[av 3 cT l,ag (((p+1):Nat):Int),az ad n cap]⟩],cG,kp results184 (di (k:=0) (ds:=[_,_,_]) aF lk rfl rfl isAgg127 sizeOf127 rfl rfl) (cw aF lk),?_⟩;exact⟨⟨2,l[p].n,⟨#[]⟩⟩,true,(p+1),fun ops=>by unfold e7;rw[if_neg (F_ Y),if_neg (F_ Z),if_neg (F_ jF),dif_neg ji,if_neg (F_ nO),dif_pos ⟨fL,fg⟩],(by rw[show(1:Int)*l[p].n=l[p].n by omega];rfl),rfl⟩
   have M:=E
   (try simp only[V.ai,ne_eq] at M)
   have jG:True:=trivial;refine aS ?_;refine aC ?_;refine aC ?_;have fg:¬(p<l.length/\(l.getD (p) ⟨0,⟨#[]⟩,0⟩).k=2):=(by first|exact(fun h=>by simp at eS;omega)|exact(fun h=>by rw[gQ h.1] at h;have:=h.2;simp at E;exact E this))
   refine aV ?_;refine aa ?_;refine ae aE ?_;refine au [0,2,126] ?_;refine iG ot w6 ?_;refine aS ?_;refine ah ?_;refine ae (dc (pl:=[]) (ds:=[_,_,_]) rfl zeroValue127 runUnderlying127 kR trivial rfl rfl) ?_;refine bn 0 [_,_,_] sizeOf127 ?_;refine aa ?_;refine aK [(2,_),(3,_)] [⟨U,127,3,[_,_,_]⟩,⟨br,161,3,[_,_,_]⟩] ?_;refine aI ?_;refine Or.inl ?_;refine⟨.inr rfl,_,[⟨br,161,3,[av 3 cT l,ag ((p:Nat):Int),az ad n cap]⟩],cG,kp results184 (di (k:=0) (ds:=[_,_,_]) aF lk rfl rfl isAgg127 sizeOf127 rfl rfl) (cw aF lk),?_⟩;exact⟨jw,false,p,fun ops=>by unfold e7;rw[if_neg (F_ Y),if_neg (F_ Z),if_neg (F_ jF),dif_neg ji,if_neg (F_ nO),dif_neg fg],rfl,rfl⟩
  have I:=eS;(try simp only[V.ai,ne_eq] at I)
  refine bk 11 rfl ?_;refine bk 12 rfl ?_;refine bk 13 rfl ?_;refine bk 14 rfl ?_;refine bk 15 rfl ?_;refine bk 16 rfl ?_;refine bk 17 rfl ?_;refine bk 18 rfl ?_;refine bk 19 rfl ?_;refine bk 20 rfl ?_;refine bk 21 rfl ?_;refine bk 22 rfl ?_;refine aj 23 rfl bC ?_;refine bt.later rfl ?_;refine cg [(0,_),(2,_),(4,_),(102,_)] [⟨U,127,3,[_,_,_]⟩,⟨br,161,3,[_,_,_]⟩] ?_;refine bO af ?_;refine iG ot w6 ?_;have jG:True:=trivial;refine aS ?_;refine aC ?_;refine aC ?_;have fg:¬(p<l.length/\(l.getD (p) ⟨0,⟨#[]⟩,0⟩).k=2):=(by first|exact(fun h=>by simp at eS;omega)|exact(fun h=>by rw[gQ h.1] at h;have:=h.2;simp at E;exact E this))
  refine aV ?_;refine aa ?_;refine ae aE ?_;refine au [0,2,126] ?_;refine iG ot w6 ?_;refine aS ?_;refine ah ?_;refine ae (dc (pl:=[]) (ds:=[_,_,_]) rfl zeroValue127 runUnderlying127 kR trivial rfl rfl) ?_;refine bn 0 [_,_,_] sizeOf127 ?_;refine aa ?_;refine aK [(2,_),(3,_)] [⟨U,127,3,[_,_,_]⟩,⟨br,161,3,[_,_,_]⟩] ?_;refine aI ?_;refine Or.inl ?_;refine⟨.inr rfl,_,[⟨br,161,3,[av 3 cT l,ag ((p:Nat):Int),az ad n cap]⟩],cG,kp results184 (di (k:=0) (ds:=[_,_,_]) aF lk rfl rfl isAgg127 sizeOf127 rfl rfl) (cw aF lk),?_⟩;exact⟨jw,false,p,fun ops=>by unfold e7;rw[if_neg (F_ Y),if_neg (F_ Z),if_neg (F_ jF),dif_neg ji,if_neg (F_ nO),dif_neg fg],rfl,rfl⟩
 have yP:=O;(try simp only[V.ai,ne_eq] at yP)
 refine bk 11 rfl ?_;refine bk 12 rfl ?_;refine bk 13 rfl ?_;refine bk 14 rfl ?_;refine bk 15 rfl ?_;refine bk 16 rfl ?_;refine bk 17 rfl ?_;refine bk 18 rfl ?_;refine bk 19 rfl ?_;refine bk 20 rfl ?_;refine bk 21 rfl ?_;refine bk 22 rfl ?_;refine aj 23 rfl bC ?_;refine aj 24 rfl bg ?_;refine bt.later rfl ?_;refine cg [(0,_),(2,_),(17,_)] [⟨U,127,3,[_,_,_]⟩,⟨br,161,3,[_,_,_]⟩] ?_;refine bO af ?_;refine iG ot w6 ?_;have ji:¬(p<l.length/\(l.getD p ⟨0,⟨#[]⟩,0⟩).k=3):=(by first|exact(fun h=>by simp at O;omega)|exact(fun h=>by rw[gQ h.1] at h;have:=h.2;simp at ct;exact ct this))
 refine aS ?_;refine ah ?_;refine aa ?_;refine au [0,2,4] ?_;refine aC ?_;refine ah ?_;refine aa ?_;refine cP ay rfl rfl rfl call116 (ed l hl p 4 ⟨#[45]⟩ ad n cap br) ⟨ot,aN,aN,trivial⟩ (Perm.swap _ _ _) ?_;rintro _ _ ⟨rfl,rfl⟩;refine aW (S':=[⟨U,127,3,[_,_,_]⟩,⟨br,161,3,[av 3 cT l,ag (((if aJ l p 4 ⟨#[45]⟩=true then p+1 else p):Nat):Int),az ad n cap]⟩]) (Perm.swap _ _ _) ?_;refine aK [(0,_),(2,_),(4,_),(78,_)] [⟨U,127,3,[_,_,_]⟩,⟨br,161,3,[_,_,_]⟩] ?_;refine aM ot (fun cl=>?_) (fun cl=>?_)
 ·have bE:=cl
  (try simp only[V.ai,ne_eq] at bE)
  have nN:aJ l p 4 ⟨#[45]⟩=true:=cl;rw[nN];simp only[if_true];refine aV ?_;refine aa ?_;refine au [0,2,4] ?_;refine aC ?_;refine aC ?_;refine ez (aq _) af (fun _ h=>h) ?_;refine aj 0 rfl bg ?_;refine aj 1 rfl bF ?_;refine aj 2 rfl (aB 1) ?_;refine aj 3 rfl (aH 1) ?_;refine aj 4 rfl bg ?_;refine aj 5 rfl bF ?_;refine aj 6 rfl (aB 0) ?_;refine aj 7 rfl (aH 1) ?_;refine aj 8 rfl cZ ?_;refine aj 9 rfl aE ?_;refine aj 10 rfl bg ?_;refine bt.split (t:=89) lk (fun eS=>?_) (fun eS=>?_)
  ·have I:=eS;(try simp only[V.ai,ne_eq] at I)
   refine aj 11 rfl bg ?_;refine aj 12 rfl bF ?_;refine aj 13 rfl (aB 0) ?_;refine aj 14 rfl (aH 1) ?_;refine aj 15 rfl bg ?_;refine aj 16 rfl bF ?_;refine aj 17 rfl (aB 1) ?_;refine aj 18 rfl (aH 1) ?_;refine aj 19 rfl (dW 3 (h:=vQ)) ?_;refine aj 20 rfl (aB 0) ?_;refine aj 21 rfl (cm (mk:=Op.load 3) rfl ot vT) ?_;refine aj 22 rfl aE ?_;refine aj 23 rfl cW ?_;refine bt.later rfl ?_;refine cg [(0,_),(2,_),(4,_),(102,_)] [⟨U,127,3,[_,_,_]⟩,⟨br,161,3,[_,_,_]⟩] ?_;refine bO af ?_;refine aM ot (fun E=>?_) (fun E=>?_)
   ·have M:=E
    (try simp only[V.ai,ne_eq] at M)
    have jG:True:=trivial;refine aC ?_;have fL:p+1<l.length:=(by simp at eS;omega)
    have fg:(l.getD (p+1) ⟨0,⟨#[]⟩,0⟩).k=2:=(by rw[gQ fL];simpa using E)
    have AM:=(ht l[p+1] (getElem_mem fL)).2 vW;refine aV ?_;refine aa ?_;refine ae bF ?_;refine ae (aB 1) ?_;refine ae (aH 1) ?_;refine ae aE ?_;refine ae bF ?_;refine ae (aB 1) ?_;refine bn 1 [_,_,_] sizeOf3 ?_;refine aK [(0,_),(2,_),(4,_)] [⟨U,127,3,[_,_,_]⟩,⟨br,161,3,[_,_,_]⟩] ?_;refine aC ?_;refine ez (aq (eraseIdx _ 0)) af (fun _ h=>(Sublist.map _ (eraseIdx_sublist _ 0)).subset h) ?_;refine aj 0 rfl bg ?_;refine aj 1 rfl bg ?_;refine aj 2 rfl bF ?_;refine aj 3 rfl (aB 0) ?_;refine aj 4 rfl (aH 1) ?_;refine aj 5 rfl bg ?_;refine aj 6 rfl bF ?_;refine aj 7 rfl (aB 1) ?_;refine aj 8 rfl (aH 1) ?_;refine aj 9 rfl aE ?_;first|refine aj 10 rfl (kj (mk:=Op.indexAddr 99) rfl ot ot vS) ?_|refine aj 10 rfl (kj (mk:=Op.indexAddr 99) rfl ot ot vU) ?_
    refine aj 11 rfl (aB 2) ?_;refine aj 12 rfl (cm (mk:=Op.load 3) rfl ot vV) ?_;refine aj 13 rfl (eX rfl ot ot (qD (wrap_i64 w7 w7))) ?_;refine aj 14 rfl (dc (pl:=[(0,_),(1,_)]) (ds:=[_,_,_]) rfl zeroValue127 runUnderlying127 kR ⟨rfl,aN,rfl,ot,trivial⟩ rfl rfl) ?_;refine bt.later rfl ?_;refine aL (i:=15) af ?_;refine aR 0 [_,_,_] sizeOf127 ?_;refine bR 16 rfl bg ?_;refine cg [(2,_),(3,_)] [⟨U,127,3,[_,_,_]⟩,⟨br,161,3,[_,_,_]⟩] ?_;refine bO af ?_;refine aI ?_;refine Or.inl ?_;refine⟨.inr rfl,_,[⟨br,161,3,[av 3 cT l,ag (((p+2):Nat):Int),az ad n cap]⟩],cG,kp results184 (di (k:=0) (ds:=[_,_,_]) aF lk rfl rfl isAgg127 sizeOf127 rfl rfl) (cw aF lk),?_⟩;exact⟨⟨2,-l[p+1].n,⟨#[]⟩⟩,true,(p+2),fun ops=>by unfold e7;rw[if_neg (F_ Y),if_neg (F_ Z),if_neg (F_ jF),dif_neg ji,if_pos nN,dif_pos ⟨fL,fg⟩],(by rw[show(-1:Int)*l[p+1].n = -l[p+1].n by omega];rfl),rfl⟩
   have M:=E
   (try simp only[V.ai,ne_eq] at M)
   have jG:True:=trivial;refine aS ?_;refine aC ?_;refine aC ?_;have fg:¬(p+1<l.length/\(l.getD (p+1) ⟨0,⟨#[]⟩,0⟩).k=2):=(by first|exact(fun h=>by simp at eS;omega)|exact(fun h=>by rw[gQ h.1] at h;have:=h.2;simp at E;exact E this))
   refine aV ?_;refine aa ?_;refine ae aE ?_;refine au [0,2,126] ?_;refine fe ot w6 ?_;refine aV ?_;refine aa ?_;exact OD.bK ay rfl rfl rfl call71 (gq l hl (p+1) 6 ad n cap br) ⟨ot,aN,trivial⟩ (Perm.swap _ _ _) (fun ch aQ=>(Or.inr ⟨ch,rfl,⟨_,_,fun ops=>by unfold e7;rw[if_neg (F_ Y),if_neg (F_ Z),if_neg (F_ jF),dif_neg ji,if_pos nN,dif_neg fg];rfl,aQ⟩⟩:bN _ _ _ _ _ _)) (fun r S' h=>h.elim)
  have I:=eS;(try simp only[V.ai,ne_eq] at I)
  refine bk 11 rfl ?_;refine bk 12 rfl ?_;refine bk 13 rfl ?_;refine bk 14 rfl ?_;refine bk 15 rfl ?_;refine bk 16 rfl ?_;refine bk 17 rfl ?_;refine bk 18 rfl ?_;refine bk 19 rfl ?_;refine bk 20 rfl ?_;refine bk 21 rfl ?_;refine bk 22 rfl ?_;refine aj 23 rfl bC ?_;refine bt.later rfl ?_;refine cg [(0,_),(2,_),(4,_),(102,_)] [⟨U,127,3,[_,_,_]⟩,⟨br,161,3,[_,_,_]⟩] ?_;refine bO af ?_;refine iG ot w6 ?_;have jG:True:=trivial;refine aS ?_;refine aC ?_;refine aC ?_;have fg:¬(p+1<l.length/\(l.getD (p+1) ⟨0,⟨#[]⟩,0⟩).k=2):=(by first|exact(fun h=>by simp at eS;omega)|exact(fun h=>by rw[gQ h.1] at h;have:=h.2;simp at E;exact E this))
  refine aV ?_;refine aa ?_;refine ae aE ?_;refine au [0,2,126] ?_;refine fe ot w6 ?_;refine aV ?_;refine aa ?_;exact OD.bK ay rfl rfl rfl call71 (gq l hl (p+1) 6 ad n cap br) ⟨ot,aN,trivial⟩ (Perm.swap _ _ _) (fun ch aQ=>(Or.inr ⟨ch,rfl,⟨_,_,fun ops=>by unfold e7;rw[if_neg (F_ Y),if_neg (F_ Z),if_neg (F_ jF),dif_neg ji,if_pos nN,dif_neg fg];rfl,aQ⟩⟩:bN _ _ _ _ _ _)) (fun r S' h=>h.elim)
 have bE:=cl
 (try simp only[V.ai,ne_eq] at bE)
 have nO:aJ l p 4 ⟨#[45]⟩=false:=cl;rw[nO];simp only[Bool.false_eq_true,if_false];refine aS ?_;refine aC ?_;refine aC ?_;refine ez (aq _) af (fun _ h=>h) ?_;refine aj 0 rfl bg ?_;refine aj 1 rfl bF ?_;refine aj 2 rfl (aB 1) ?_;refine aj 3 rfl (aH 1) ?_;refine aj 4 rfl bg ?_;refine aj 5 rfl bF ?_;refine aj 6 rfl (aB 0) ?_;refine aj 7 rfl (aH 1) ?_;refine aj 8 rfl cZ ?_;refine aj 9 rfl aE ?_;refine aj 10 rfl bg ?_;refine bt.split (t:=89) lk (fun eS=>?_) (fun eS=>?_)
 ·have I:=eS;(try simp only[V.ai,ne_eq] at I)
  refine aj 11 rfl bg ?_;refine aj 12 rfl bF ?_;refine aj 13 rfl (aB 0) ?_;refine aj 14 rfl (aH 1) ?_;refine aj 15 rfl bg ?_;refine aj 16 rfl bF ?_;refine aj 17 rfl (aB 1) ?_;refine aj 18 rfl (aH 1) ?_;refine aj 19 rfl (dW 3 (h:=vQ)) ?_;refine aj 20 rfl (aB 0) ?_;refine aj 21 rfl (cm (mk:=Op.load 3) rfl ot vT) ?_;refine aj 22 rfl aE ?_;refine aj 23 rfl cW ?_;refine bt.later rfl ?_;refine cg [(0,_),(2,_),(4,_),(102,_)] [⟨U,127,3,[_,_,_]⟩,⟨br,161,3,[_,_,_]⟩] ?_;refine bO af ?_;refine aM ot (fun E=>?_) (fun E=>?_)
  ·have M:=E
   (try simp only[V.ai,ne_eq] at M)
   have jG:True:=trivial;refine aC ?_;have fL:p<l.length:=(by simp at eS;omega)
   have fg:(l.getD (p) ⟨0,⟨#[]⟩,0⟩).k=2:=(by rw[gQ fL];simpa using E)
   have AM:=(ht l[p] (getElem_mem fL)).2 vW;refine aV ?_;refine aa ?_;refine ae bF ?_;refine ae (aB 1) ?_;refine ae (aH 1) ?_;refine ae aE ?_;refine ae bF ?_;refine ae (aB 1) ?_;refine bn 1 [_,_,_] sizeOf3 ?_;refine aK [(0,_),(2,_),(4,_)] [⟨U,127,3,[_,_,_]⟩,⟨br,161,3,[_,_,_]⟩] ?_;refine aC ?_;refine ez (aq (eraseIdx _ 0)) af (fun _ h=>(Sublist.map _ (eraseIdx_sublist _ 0)).subset h) ?_;refine aj 0 rfl bg ?_;refine aj 1 rfl bg ?_;refine aj 2 rfl bF ?_;refine aj 3 rfl (aB 0) ?_;refine aj 4 rfl (aH 1) ?_;refine aj 5 rfl bg ?_;refine aj 6 rfl bF ?_;refine aj 7 rfl (aB 1) ?_;refine aj 8 rfl (aH 1) ?_;refine aj 9 rfl aE ?_;first|refine aj 10 rfl (kj (mk:=Op.indexAddr 99) rfl ot ot vS) ?_|refine aj 10 rfl (kj (mk:=Op.indexAddr 99) rfl ot ot vU) ?_
   refine aj 11 rfl (aB 2) ?_;refine aj 12 rfl (cm (mk:=Op.load 3) rfl ot vV) ?_;refine aj 13 rfl (eX rfl ot ot (qD (wrap_i64 w7 w7))) ?_;refine aj 14 rfl (dc (pl:=[(0,_),(1,_)]) (ds:=[_,_,_]) rfl zeroValue127 runUnderlying127 kR ⟨rfl,aN,rfl,ot,trivial⟩ rfl rfl) ?_;refine bt.later rfl ?_;refine aL (i:=15) af ?_;refine aR 0 [_,_,_] sizeOf127 ?_;refine bR 16 rfl bg ?_;refine cg [(2,_),(3,_)] [⟨U,127,3,[_,_,_]⟩,⟨br,161,3,[_,_,_]⟩] ?_;refine bO af ?_;refine aI ?_;refine Or.inl ?_;refine⟨.inr rfl,_,[⟨br,161,3,[av 3 cT l,ag (((p+1):Nat):Int),az ad n cap]⟩],cG,kp results184 (di (k:=0) (ds:=[_,_,_]) aF lk rfl rfl isAgg127 sizeOf127 rfl rfl) (cw aF lk),?_⟩;exact⟨⟨2,l[p].n,⟨#[]⟩⟩,true,(p+1),fun ops=>by unfold e7;rw[if_neg (F_ Y),if_neg (F_ Z),if_neg (F_ jF),dif_neg ji,if_neg (F_ nO),dif_pos ⟨fL,fg⟩],(by rw[show(1:Int)*l[p].n=l[p].n by omega];rfl),rfl⟩
  have M:=E
  (try simp only[V.ai,ne_eq] at M)
  have jG:True:=trivial;refine aS ?_;refine aC ?_;refine aC ?_;have fg:¬(p<l.length/\(l.getD (p) ⟨0,⟨#[]⟩,0⟩).k=2):=(by first|exact(fun h=>by simp at eS;omega)|exact(fun h=>by rw[gQ h.1] at h;have:=h.2;simp at E;exact E this))
  refine aV ?_;refine aa ?_;refine ae aE ?_;refine au [0,2,126] ?_;refine iG ot w6 ?_;refine aS ?_;refine ah ?_;refine ae (dc (pl:=[]) (ds:=[_,_,_]) rfl zeroValue127 runUnderlying127 kR trivial rfl rfl) ?_;refine bn 0 [_,_,_] sizeOf127 ?_;refine aa ?_;refine aK [(2,_),(3,_)] [⟨U,127,3,[_,_,_]⟩,⟨br,161,3,[_,_,_]⟩] ?_;refine aI ?_;refine Or.inl ?_;refine⟨.inr rfl,_,[⟨br,161,3,[av 3 cT l,ag ((p:Nat):Int),az ad n cap]⟩],cG,kp results184 (di (k:=0) (ds:=[_,_,_]) aF lk rfl rfl isAgg127 sizeOf127 rfl rfl) (cw aF lk),?_⟩;exact⟨jw,false,p,fun ops=>by unfold e7;rw[if_neg (F_ Y),if_neg (F_ Z),if_neg (F_ jF),dif_neg ji,if_neg (F_ nO),dif_neg fg],rfl,rfl⟩
 have I:=eS;(try simp only[V.ai,ne_eq] at I)
 refine bk 11 rfl ?_;refine bk 12 rfl ?_;refine bk 13 rfl ?_;refine bk 14 rfl ?_;refine bk 15 rfl ?_;refine bk 16 rfl ?_;refine bk 17 rfl ?_;refine bk 18 rfl ?_;refine bk 19 rfl ?_;refine bk 20 rfl ?_;refine bk 21 rfl ?_;refine bk 22 rfl ?_;refine aj 23 rfl bC ?_;refine bt.later rfl ?_;refine cg [(0,_),(2,_),(4,_),(102,_)] [⟨U,127,3,[_,_,_]⟩,⟨br,161,3,[_,_,_]⟩] ?_;refine bO af ?_;refine iG ot w6 ?_;have jG:True:=trivial;refine aS ?_;refine aC ?_;refine aC ?_;have fg:¬(p<l.length/\(l.getD (p) ⟨0,⟨#[]⟩,0⟩).k=2):=(by first|exact(fun h=>by simp at eS;omega)|exact(fun h=>by rw[gQ h.1] at h;have:=h.2;simp at E;exact E this))
 refine aV ?_;refine aa ?_;refine ae aE ?_;refine au [0,2,126] ?_;refine iG ot w6 ?_;refine aS ?_;refine ah ?_;refine ae (dc (pl:=[]) (ds:=[_,_,_]) rfl zeroValue127 runUnderlying127 kR trivial rfl rfl) ?_;refine bn 0 [_,_,_] sizeOf127 ?_;refine aa ?_;refine aK [(2,_),(3,_)] [⟨U,127,3,[_,_,_]⟩,⟨br,161,3,[_,_,_]⟩] ?_;refine aI ?_;refine Or.inl ?_;refine⟨.inr rfl,_,[⟨br,161,3,[av 3 cT l,ag ((p:Nat):Int),az ad n cap]⟩],cG,kp results184 (di (k:=0) (ds:=[_,_,_]) aF lk rfl rfl isAgg127 sizeOf127 rfl rfl) (cw aF lk),?_⟩;exact⟨jw,false,p,fun ops=>by unfold e7;rw[if_neg (F_ Y),if_neg (F_ Z),if_neg (F_ jF),dif_neg ji,if_neg (F_ nO),dif_neg fg],rfl,rfl⟩
end Pa
end Go.Proofs.YtomnenkeecbglaaGreatDoor
