/-
  What the proof of SelectTrue leans on, part 3 of 9: walks of the program's functions at the level of values, and plain facts of what they compute.
-/
import Derived.Test.YtdgichenhdikgaaGreatDoorPSelectTrue2
set_option linter.unusedVariables false
set_option linter.unusedSimpArgs false
set_option maxRecDepth 100000
set_option maxHeartbeats 4000000
namespace Go.Proofs.YtdgichenhdikgaaGreatDoor.V
open List
open Go.RowKit
variable {P:Program} {C:dy} {G:List (Nat×List Value)} {Q:Exit→St→Prop} {x y:St} {ops:Array Oper} {o:Oper} {ro:Nat} {α:Type}
variable {c:Code} {S:List ah} {post:D→List ah→Prop}
def CI(P:Program)(C:dy)(ro:Nat)(c:Code)(x:St)(Q:Exit→St→Prop):Prop:=∀a w,bG C x a w→c.wpIn (Fence.wide.inRound ro) 0 P (LQ C Q) a w
def ahF(P:Program)(C:dy)(ro:Nat)(c:Code)(Q:Exit→St→Prop):Exit→St→Prop
 | .normal,y=>CI P C ro c y Q
 | e,y=>Q e y
def NO(Q:Exit→St→Prop):Prop:=∀y,¬Q .outgrown y
theorem CI.skip(h:Q .normal x):CI P C ro .skip x Q:=fun a w hs=>wpIn_skip (.inl ⟨x,hs,h⟩)
theorem CI.exit{id:Nat}(h:Q (.exit id) x):CI P C ro (.exit id) x Q:=fun a w hs=>wpIn_exit (.inl ⟨x,hs,h⟩)
theorem CI.seq{c d:Code}(h:CI P C ro c x (ahF P C ro d Q)):CI P C ro (.seq c d) x Q:=fun a w hs =>
 wpIn_seq (wpIn_mono (h a w hs) fun e a' w' h=>by
  rcases h with ⟨y,h1,h2⟩|⟨rfl,h⟩
  ·cases e<;>first|exact h2 a' w' h1|exact .inl ⟨y,h1,h2⟩
  exact .inr ⟨rfl,h⟩)
theorem CI.cond{c:Operand}{d e:Code}{b:Bool}(hc:aE x c = .v (.bool b))(ht:b=true→CI P C ro d x Q)(hf:b=false→CI P C ro e x Q):CI P C ro (.cond c d e) x Q:=fun a w hs =>
 wpIn_cond_split (hs.flat hc) (fun h=>ht h a w hs) (fun h=>hf h a w hs)
theorem CI.KV{c:Operand}{d e:Code}{b:Bool}(hc:aE x c = .v (.bool b))(hb:b=false)(hf:CI P C ro e x Q):CI P C ro (.cond c d e) x Q:=fun a w hs =>
 wpIn_cond_false (by rw[hs.flat hc,hb]) (hf a w hs)
theorem CI.block{id:Nat}{c:Code}(h:CI P C ro c x (Bk id Q)):CI P C ro (.block id c) x Q:=fun a w hs =>
 wpIn_block (wpIn_mono (h a w hs) fun e a' w' h=>by
  rcases h with ⟨y,h1,h2⟩|⟨rfl,h⟩
  case inr=>exact .inr ⟨rfl,h⟩
  cases e with
  | exit tg =>
   simp only[Bk] at h2;simp only[Exit.inBlock];by_cases he:tg=id
   ·subst he;rw[if_pos rfl];simp at h2;exact .inl ⟨y,h1,h2⟩
   rw[if_neg he];have:Nat.beq tg id=false:=by
    cases h:Nat.beq tg id with
    | false=>rfl
    | true=>exact absurd (Nat.eq_of_beq_eq_true h) he
   rw[this] at h2;exact .inl ⟨y,h1,h2⟩
  | _=>exact .inl ⟨y,h1,h2⟩)
def Ly(l:List Oper):Bool:=l.all fun o=>match o.op with|.defer _=>false|_=>true
theorem JF{Q:Exit→Act→World→Prop}(lg:¬LetsOut Q):∀(l:List Oper),Ly l=true→∀a w,wpList P ops Q l a w→wpListIn (Fence.wide.inRound ro) 0 P ops Q l a w
 | [],_,a,w,h=>h
 | o::l,hd,a,w,h=>by
  unfold Ly at hd;rw[all_cons,Bool.and_eq_true] at hd;obtain⟨hd1,hd2⟩:=hd;unfold wpList at h;unfold wpListIn;split at h
  ·rename_i hw;rw[if_pos hw];rcases h with h|⟨_,h⟩
   ·exact Oper.wpIn_mono (fun a w h=>JF lg l hd2 a w h) (SZ (some ro) (fun c hc=>by rw[hc] at hd1;cases hd1) h)
   exact absurd h lg
  rename_i hw;rw[if_neg hw];exact⟨fun _ _=>trivial,JF lg l hd2 _ _ h⟩
theorem CI.region{id:Nat}{l:List Oper}(lg:NO Q)(hd:Ly l=true)(h:OD P C l.toArray l x Q):CI P C ro (.region id l.toArray false) x Q:=fun a w hs =>
 wpIn_region_lit (JF (fun ⟨a,w,hq⟩=>by
  rcases hq with ⟨y,_,hq⟩|⟨hq,_⟩
  ·exact lg y hq
  cases hq) l hd a w (h a w hs))
def Lz:List Tmp→List D→List (Nat×D)→List (Nat×D)
 | t::ts,d::ds,env=>Lz ts ds ((t,d)::env)
 | _,_,env=>env
theorem bG.params{n:Nat}{S:List ah}:∀{ts:List Tmp} {ds:List D} {vs:List Value} {env:List (Nat×D)} {tm:Array Value} {w:World},bG C ⟨n,env,S⟩ {tmps:=tm,defers:=[]} w→cx w (live C.X S) ds vs→ds.length=ts.length→bG C ⟨n,Lz ts ds env,S⟩ {tmps:=(ts.zip vs).foldl (fun tm (t,v)=>tm.setIfInBounds t v) tm,defers:=[]} w
 | [],ds,vs,env,tm,w,h,_,hl=>by
  have:ds=[]:=length_eq_zero_iff.1 hl;subst this;exact h
 | t::ts,[],_,_,_,_,_,_,hl=>by cases hl
 | t::ts,d::ds,[],_,_,_,_,hr,_=>by simp[cx] at hr
 | t::ts,d::ds,v::vs,env,tm,w,h,hr,hl=>by
  obtain⟨h0,h1⟩:=hr.tail;exact bG.params (env:=(t,d)::env) (tm:=tm.setIfInBounds t v) (h.put h0) h1 xR
def agb(J Jx:List α→List ah→Prop)(jc:Code)(xs:List α):Exit→St→Prop
 | .normal,z=>∃S',S'.Sublist z.S∧J xs S'
 | .ret,z=>jc = .ret∧∃S',S'.Sublist z.S∧Jx xs S'
 | .exit i,z=>jc = .exit i∧∃S',S'.Sublist z.S∧Jx xs S'
 | _,_=>False
def zy(P:Program)(fn:Func)(post:D→List ah→Prop)(y:St):Prop :=
 (y.env.all fun p=>iH p.2)=true∧(∀B∈y.S,fH B.cs=true)∧∃r S',S'.Sublist y.S∧tq P fn y r∧iH r=true∧post r S'
def ahG(P:Program)(fn:Func)(post:D→List ah→Prop)(e:Exit)(y:St):Prop:=e = .ret∧zy P fn post y
def mark(D:Nat):Deferred:={target:=.collected D,args:=#[]}
def wW(P:Program)(fn:Func)(post:D→List ah→Prop)(X:Nat→Prop)(w0:World)(S0:List Nat):Act→World→Prop:=fun a w =>
 ∃(Dd:Nat) (C':dy) (y:St),C'.X=X∧a.defers=[mark Dd]∧Fr w0 S0 C'.w0 C'.S0∧w0.heap.size≤Dd∧Dd<C'.w0.heap.size∧Dd∉C'.S0∧C'.w0.heap[Dd]?=some (.deferred (some []))∧bG C' y a w∧zy P fn post y
theorem bG.Uu {a:Act} {w:World} (h:bG C y a w) {l:Nat} {o1 o2:Obj} (hl:w.heap[l]?=some o1) (ho:o1.isCells=false) (O:l∉au y.S) (hlX:¬C.X l) (hn:(y.env.all fun p=>iH p.2)=true) (hS:∀B∈y.S,fH B.cs=true)
  (I:mM G (w.putObj l o2) (au y.S) C.X) (CO:Act→World→Prop):bG ⟨C.X,w.putObj l o2,au y.S,G,a.defers,CO⟩ y a (w.putObj l o2):=by
 have aa:l<w.heap.size:=(Array.getElem?_eq_some_iff.1 hl).1;have E:(w.putObj l o2).heap.size=w.heap.size:=World.putObj_size;have H:∀b,b≠l→(w.putObj l o2).heap[b]?=w.heap[b]?:=fun b hb=>World.putObj_heap_other hb;refine⟨rfl,h.size,fun t ht=>(h.env t ht).zx (Z:=fun b=>b=l) (acF hn t) (fun b _ hb hz=>⟨H b hz,hb⟩) (fun b i hz=>by subst hz;exact EJ hl ho i) (by rw[E];exact Nat.le_refl _) (fun b _ hb _=>hb),
  h.own.zx (Z:=fun b=>b=l) (fun B U=>.inr (mem_map.2 ⟨B,U,rfl⟩)) hS (fun b _ hz=>H b hz) (fun b i hz=>by subst hz;exact EJ hl ho i) (by rw[E];exact Nat.le_refl _) (fun B U e=>O (e ▸ mem_map.2 ⟨B,U,rfl⟩)),
  Fr.refl _ _,fun b hb=>?_,I⟩
 show b<(w.putObj l o2).heap.size∧b∉au y.S;rw[E];exact⟨Nat.lt_of_lt_of_le (h.ex b hb).1 h.fr.size,(h.fr.block b (h.ex b hb).1 (h.ex b hb).2).2⟩
theorem VC.zz {f:FuncId} {fn:Func} {n:Nat} {args:List D} (hf:P.funcs[f]?=some fn) (hb:fn.body=some c) (hn:fn.ntmps=n) (hl:args.length≤n)
  (h:∀X w0 S0,CD P ⟨X,w0,S0,G,[],wW P fn post X w0 S0⟩ c ⟨n,sD 0 args,S⟩ (Body P fn post)):VC P G f args S post:=fun X w vs hp=>by
 have rR:vs.length=args.length:=hp.args.1;let C:dy:=⟨X,w,au S,G,[],wW P fn post X w (au S)⟩
 have U:bG C ⟨n,sD 0 args,S⟩ {tmps:=vs.toArray++Array.replicate (fn.ntmps-vs.toArray.size) undef,defers:=[]} w:=by
  refine⟨rfl,by simp[hn];omega,fun t ht=>?_,hp.own,Fr.refl _ _,hp.ex,hp.eL⟩;simp only[D8,Nat.zero_le,if_true,Nat.sub_zero];by_cases aa:t<args.length
  ·have e1:args.getD t .bS=args[t]:=(by simp[getD,aa])
   have e2:(vs.toArray++Array.replicate (fn.ntmps-vs.toArray.size) undef).getD t undef=vs[t]'w4:=by
    rw[Array.getD_eq_getD_getElem?,Array.getElem?_append_left ij];simp[show t<vs.length by omega]
   rw[e1,e2];exact hp.args.2 t aa w4
  have e1:args.getD t .bS = .bS:=(by simp[getD,getElem?_eq_none (show args.length≤t by omega)])
  rw[e1];exact .bS _
 refine callsIn_wide.1 (callsIn_of_wp_marks (F:=Fence.wide) (n:=0) hf hb trivial (wpIn_wide.2 (wp_mono (h X w (au S) _ _ U) fun e a w' hq=>?_)) rfl);rcases hq with ⟨y,h1,h2,r,S',h3,h4,h5⟩|⟨rfl,O,C',y,hX,yd,Z,hD0,hD1,hD2,hD3,h1,Nj,Au,r,S',h3,h4,hnr,h5⟩
 ·obtain⟨v,q1,q2⟩:=h4 C a w' h1;have E:(au S').Sublist (au y.S):=Sublist.map _ h3;have key:LeavesInM Fence.wide 0 P fn a.tmps (fun e w'=>∃v r S',e = .returned v∧post r S'∧Own w' (live X S') S'∧cg w' (live X S') r v∧Fr w (au S) w' (au S')) a.defers .returning w':=by
   rw[show a.defers=[] from h1.defers];exact⟨v,q2,v,r,S',rfl,h5,h1.own.sub h3,q1.mono fun b _ hn=>⟨rfl,fun hl=>hn (hl.imp id fun q=>E.subset q)⟩,
    ⟨h1.fr.os,h1.fr.tape,h1.fr.output,h1.fr.size,fun b I hn=>⟨(h1.fr.block b I hn).1,fun q=>(h1.fr.block b I hn).2 (E.subset q)⟩⟩⟩
  rcases h2 with rfl|rfl<;>exact key
 show LeavesInM Fence.wide 0 P fn a.tmps _ a.defers .returning w';rw[yd];obtain⟨f1,f2⟩:=h1.fr.block O hD1 hD2;have hD:w'.heap[O]?=some (.deferred (some [])):=f1.trans hD3;have hXD:¬C'.X O:=fun hx=>by rw[hX] at hx;have:=(hp.ex O hx).1;omega
 have uK:=h1.Uu (G:=[]) (o2:=.deferred none) hD rfl f2 hXD Nj Au (fun g hg=>by cases hg) (fun _ _=>False);obtain⟨v,q1,q2⟩:=h4 _ a _ uK;have E:(au S').Sublist (au y.S):=Sublist.map _ h3;refine⟨by simp,.inl ⟨O,_,rfl,run_takeDeferred hD,v,q2,v,r,S',rfl,h5,?_,?_,?_⟩⟩
 ·have:=uK.own.sub h3;rw[show(⟨C'.X,w'.putObj O (.deferred none),au y.S,[],a.defers,fun _ _=>False⟩:dy).X=X from hX] at this;exact this
 ·rw[←hX];exact q1.mono fun b _ hn=>⟨rfl,fun hl=>hn (hl.imp id fun q=>E.subset q)⟩
 have k:=Z.trans h1.fr;exact⟨k.os,k.tape,k.output,by rw[World.putObj_size];exact k.size,fun b I hn=>by
  obtain⟨k1,k2⟩:=k.block b I hn;exact⟨(World.putObj_heap_other w4).trans k1,fun q=>k2 (E.subset q)⟩⟩
theorem Q0(w:World)(o:Obj)(S:List Nat)(hS:∀b∈S,b<w.heap.size):Fr w S (w.alloc o) S:=⟨rfl,rfl,rfl,by rw[World.size_alloc];omega,fun b hb hn=>⟨Below.heap_alloc w o b hb,hn⟩⟩
theorem mM.on{w w':World}{S S':List Nat}{X E:Nat→Prop}(h:mM G w S X)(hf:∀b,b<w.heap.size→b∉S→¬X b→w'.heap[b]?=w.heap[b]?∧b∉S'∧¬E b):mM G w' S' E:=fun g hg=>by
 obtain⟨⟨h1,h2,h3⟩,h4⟩:=h g hg;obtain⟨f1,f2,f3⟩:=hf g.1 h1 h2 h3;exact⟨⟨q8 h1 f1,f2,f3⟩,fun i v hi=>(h4 i v hi).on f1⟩
def vR(P:Program)(C:dy)(b rest:Code)(x:St)(Q:Exit→St→Prop):Prop:=∀a w,bG C x a w→b.wp P (Exit.then (rest.wp P (LQ C Q)) (LQ C Q)) a w
def ahH(P:Program)(C:dy)(b rest:Code)(Q:Exit→St→Prop):Exit→St→Prop
 | .normal,y=>vR P C b rest y Q
 | e,y=>Q e y
theorem CD.ajj{b d:Code}(h:CD P C d x (ahH P C b c Q)):CD P C (.seq (.seq d b) c) x Q:=fun a w hs =>
 wp_seq (wp_seq (wp_mono (h a w hs) fun e a' w' h=>by
  rcases h with ⟨y,h1,h2⟩|⟨rfl,h⟩
  ·cases e<;>first|exact h2 a' w' h1|exact .inl ⟨y,h1,h2⟩
  exact .inr ⟨rfl,h⟩))
theorem vR.wk{b:Code}(h:Wk x y)(k:vR P C b c y Q):vR P C b c x Q:=fun a w hs=>k a w (h C a w hs)
theorem vR.range {X:Nat→Prop} {w0:World} {S0:List Nat} {fn:Func} {g:Operand} {ps:Array Tmp} {assign body:Code} {gf:FuncId} {Cc:List D} {enc:α→List D} {Sa Sp:List α→Prop} {N id:Nat} {rest:Code}
  (hg:aE x g = .ew (.func gf) Cc) (eg:∀args w,(callFunc gf args).run P w = .ok (.enter gf args) w) (hvi:VI P G gf Cc enc Sa Sp N) (gX:∀y,(enc y).length=ps.toList.length) (hne:∀y,fH (enc y)=true)
  (jc:Code) (ye:jc = .ret∨jc = .exit id) (J Jx:List α→List ah→Prop) (XY:∀pre Sc,J pre Sc→∀B∈Sc,fH B.cs=true) (LA:∀pre Sc,Jx pre Sc→∀B∈Sc,fH B.cs=true) (h0:J [] x.S)
  (AQ:List α→α→List ah→St→Prop) (hAQ:∀pre y Sc z,AQ pre y Sc z→(z.env.all fun p=>iH p.2)=true∧∀B∈z.S,fH B.cs=true)
  (aev:∀X' W' S' l pre y Sc,J pre Sc→pre.length<N→CI P ⟨X',W',S',G,[],fun _ _=>False⟩ l assign ⟨x.n,Lz ps.toList (enc y) x.env,Sc⟩ (fun e z=>e = .normal∧AQ pre y Sc z))
  (ahI:∀X' W' S' l pre y Sc z,J pre Sc→pre.length<N→AQ pre y Sc z→CI P ⟨X',W',S',G,[],fun _ _=>False⟩ l body z (agb J Jx jc (pre++[y])))
  (ahJ:∀W' S' D Sc,((∃xs,Sa xs∧J xs Sc)∨(jc = .exit id∧∃pre,Sp pre∧Jx pre Sc))→CD P ⟨X,W',S',G,[mark D],fun _ _=>False⟩ rest ⟨x.n,x.env,Sc⟩ (ahG P fn post))
  (mR:jc = .ret→∀pre Sc,Sp pre→Jx pre Sc→zy P fn post ⟨x.n,x.env,Sc⟩):vR P ⟨X,w0,S0,G,[],wW P fn post X w0 S0⟩ (.block id (.rangeFunc g ps assign body)) rest x Q:=fun a w hs=>by
 have hex:∀b,X b→b<w.heap.size∧b∉au x.S:=fun b hb=>⟨Nat.lt_of_lt_of_le (hs.ex b hb).1 hs.fr.size,(hs.fr.block b (hs.ex b hb).1 (hs.ex b hb).2).2⟩
 have Gk:mM G w (au x.S) X:=mM.on (w:=w0) (S:=S0) (X:=X) hs.eL fun b h1 h2 h3=>⟨(hs.fr.block b h1 h2).1,(hs.fr.block b h1 h2).2,h3⟩
 have LC:∀b∈au x.S,b<w.heap.size:=fun b hb=>by
  obtain⟨B,hB,rfl⟩:=mem_map.1 hb;exact(hs.own.at_ B hB).1
 -- the aoa value
 obtain⟨lb,hgv,hlb⟩:∃lb:List Value,a.eval g = .func (.func gf) #[] lb.toArray∧cx w (live X x.S) Cc lb:=by
  have hv:=hs.eval g;rw[hg] at hv;generalize a.eval g=u at hv;cases hv with
  | ew _ _ vs hl hr=>exact⟨vs,rfl,hl,hr⟩
 refine(wp_block (wpIn_wide.1 (wpIn_rangeFunc (F:=Fence.wide) (n:=0) fun XZ _=>?_)));obtain⟨rec,xx⟩:∃rec:LoopState→Option Code→Loop,rec=fun st pe=>{state:=st,pending:=pe,fn:=XZ,tmps:=a.tmps,params:=ps,assign,body,defers:=w.heap.size}:=⟨_,rfl⟩
 obtain⟨W1,CY⟩:∃W1,(w.alloc (.deferred (some []))).alloc (.loop (rec .ready none))=W1:=⟨_,rfl⟩
 have X2:W1.heap[w.heap.size+1]?=some (.loop (rec .ready none)):=by
  rw[←CY];have:=World.alloc_heap_new (w.alloc (.deferred (some []))) (.loop (rec .ready none));rwa [World.size_alloc] at this
 have X3:W1.heap[w.heap.size]?=some (.deferred (some [])):=by
  rw[←CY];exact(Below.heap_alloc _ _ _ bn).trans (World.alloc_heap_new w _)
 have X4:Fr w (au x.S) W1 (au x.S):=by
  rw[←CY];exact(Q0 w _ _ LC).trans (Q0 _ _ _ fun b hb=>by rw[World.size_alloc];have:=LC b hb;omega)
 have Nk:∀b,b<w.heap.size→W1.heap[b]?=w.heap[b]?:=fun b hb=>by
  rw[←CY,Below.heap_alloc _ _ _ (by rw[World.size_alloc];omega),Below.heap_alloc _ _ _ hb]
 have ahK:Own W1 (live X x.S) x.S:=⟨fun B hB=>by
  obtain⟨r0,cur,r1,r2,r3,r4⟩:=hs.own.at_ B hB;exact⟨Nat.lt_of_lt_of_le r0 X4.size,cur,(Nk _ r0).trans r1,r2,r3,fun i hi=>by
   obtain⟨u,hu,hq⟩:=r4 i hi;exact⟨u,hu,hq.mono fun b hb hn=>⟨Nk b hb,hn⟩⟩⟩,hs.own.apart⟩
 have X5:∀b,w.heap.size≤b→¬live X x.S b:=fun b hb hl=>by
  rcases hl with hl|hl
  ·have:=(hex b hl).1;omega
  have:=LC b hl;omega
 let Y:ya α:=⟨w.heap.size+1,[(w.heap.size+1,.loop (rec .ready none)),(w.heap.size,.deferred (some []))],[(w.heap.size+1,.loop (rec .done (some jc))),(w.heap.size,.deferred (some []))],enc,J,Jx,N⟩
 have ahL:rq W1 (live X x.S) Y.os:=fun z hz=>by
  rcases mem_cons.1 hz with rfl|hz
  ·exact⟨(Array.getElem?_eq_some_iff.1 X2).1,X5 _ bn,X2⟩
  rw[mem_singleton] at hz;subst hz;exact⟨(Array.getElem?_eq_some_iff.1 X3).1,X5 _ (Nat.le_refl _),X3⟩
 -- the aod kz,later
 have Wd:∀(W:World) (Xr:Nat→Prop) (Sc:List ah),Fr w (au x.S) W (au Sc)→(∀b,Xr b→X b∨w.heap.size≤b∨b∈au x.S)→∀t,t<x.n→cg W (live Xr Sc) (look t x.env) (a.tmps.getD t undef):=fun W Xr Sc hf hx t ht =>
  (hs.env t ht).mono fun b hb hn=>by
   have Au:b∉au x.S:=fun h=>hn (.inr h);obtain⟨k1,k2⟩:=hf.block b hb Au;refine⟨k1,fun hl=>?_⟩;rcases hl with hl|hl
   ·rcases hx b hl with h|h|h
    ·exact hn (.inl h)
    ·omega
    exact Au h
   exact k2 hl
 -- what follows
 have after:∀(E:World) (Sc:List ah),Fr w (au x.S) E (au Sc)→Own E (live X Sc) Sc→E.heap[w.heap.size]?=some (.deferred (some []))→w.heap.size∉au Sc →
   bG ⟨X,E,au Sc,G,[mark w.heap.size],fun _ _=>False⟩ ⟨x.n,x.env,Sc⟩ {a with defers:=[mark w.heap.size]++a.defers} E∧∀a' w' y,bG ⟨X,E,au Sc,G,[mark w.heap.size],fun _ _=>False⟩ y a' w'→zy P fn post y→wW P fn post X w0 S0 a' w':=fun E Sc hf ho hk hkS=>by
  refine⟨⟨by show[mark w.heap.size]++a.defers=_;rw[show a.defers=[] from hs.defers];rfl,hs.size,fun t ht=>Wd E X Sc hf (fun b hb=>.inl hb) t ht,ho,Fr.refl _ _,fun b hb=>⟨Nat.lt_of_lt_of_le (hex b hb).1 hf.size,(hf.block b (hex b hb).1 (hex b hb).2).2⟩,mM.on Gk fun b h1 h2 h3=>⟨(hf.block b h1 h2).1,(hf.block b h1 h2).2,h3⟩⟩,fun a' w' y h1 h2=>?_⟩;exact⟨w.heap.size,_,y,rfl,h1.defers,hs.fr.trans hf,hs.fr.size,(Array.getElem?_eq_some_iff.1 hk).1,hkS,hk,h1,h2⟩
 refine⟨w.heap.size+1,[mark w.heap.size],W1,{target:=.fn (.func gf) lb.toArray,args:=#[.func (.yield (w.heap.size+1)) #[] #[]]},W1,gf,#[.func (.yield (w.heap.size+1)) #[] #[]]++lb.toArray,W1,?_,?_,fun _ _=>trivial,?_,fun hc=>(by cases hc),?_⟩
 ·rw[←CY,xx];exact run_enterLoop_outer _ _ _ _ _
 ·simp only[resolve,hgv];simp[go_sem]
 ·simp[invoke,go_sem,eg]
 refine callsIn_wide.2 ((hvi Y X w W1 (au x.S) x.S lb rfl rfl hex Gk (by simp[Y]) ahK (hlb.mono fun b hb hn=>⟨Nk b hb,hn⟩) X4 ahL h0 ?_).mono ?_)
 ·
  intro pre y Sc Xr W vs hJ hN ajk hX1 Nl kI Gj js I;have hl:W.heap[w.heap.size+1]?=some (.loop (rec .ready none)):=(I _ mem_cons_self).2.2;have hk:W.heap[w.heap.size]?=some (.deferred (some [])):=(I _ (mem_cons_of_mem _ mem_cons_self)).2.2;have X6:¬live Xr Sc (w.heap.size+1):=(I _ mem_cons_self).2.1;have X7:¬live Xr Sc w.heap.size:=(I _ (mem_cons_of_mem _ mem_cons_self)).2.1;have dU:w.heap.size<W.heap.size:=(Array.getElem?_eq_some_iff.1 hk).1;have mc:w.heap.size+1<W.heap.size:=(Array.getElem?_eq_some_iff.1 hl).1;have rR:vs.length=ps.toList.length:=(by rw[Gj.1];exact gX y)
  have hy:=run_yield (P:=P) (args:=vs.toArray) hl (by rw[xx];simp at rR ⊢;exact rR);rw[xx] at hy;refine⟨XZ,_,assign,body,hy,roundIn_of_wpIn trivial ?_⟩;have ahM:mM G W (au Sc) Xr:=mM.on Gk fun b h1 h2 h3=>⟨(js.block b h1 h2).1,(js.block b h1 h2).2,fun hx=>by
   rcases Nl b hx with h|h|h
   ·exact h3 h
   ·omega
   exact h2 h⟩
  have ahN:bG ⟨Xr,W,au Sc,G,[],fun _ _=>False⟩ ⟨x.n,x.env,Sc⟩ {tmps:=a.tmps,defers:=[]} W:=⟨rfl,hs.size,fun t ht=>Wd W Xr Sc js Nl t ht,kI,Fr.refl _ _,ajk,ahM⟩
  have ajl:(ps.zip vs.toArray).foldl (fun t (p,v)=>t.setIfInBounds p v) a.tmps=(ps.toList.zip vs).foldl (fun t (p,v)=>t.setIfInBounds p v) a.tmps:=by
   rw[←Array.foldl_toList];simp
  refine wpIn_mono (aev Xr W (au Sc) _ pre y Sc hJ hN _ _ (by
   have:=ahN.params Gj (gX y);rw[←ajl] at this;exact this)) fun e a1 w1 hq=>?_
  rcases hq with ⟨z,me,rfl,CZ⟩|⟨_,hq⟩
  case inr=>exact hq.elim
  obtain⟨Nj,Au⟩:=hAQ _ _ _ _ CZ;obtain⟨f1,f2⟩:=me.fr.block (w.heap.size+1) mc (fun h=>X6 (.inr h));have j5:w1.heap[w.heap.size+1]?=some (.loop (rec .ready none)):=f1.trans hl;have ir:w1.heap.size=(w1.putObj (w.heap.size+1) (.loop {rec .ready none with state:=.busy})).heap.size:=(by rw[World.putObj_size])
  have X8:¬Xr (w.heap.size+1):=fun h=>X6 (.inl h);have O:∀(u:World) (ob:Obj) b,b≠w.heap.size+1→(u.putObj (w.heap.size+1) ob).heap[b]?=u.heap[b]?:=fun u ob b hb=>World.putObj_heap_other hb;obtain⟨W2,uL⟩:∃W2,w1.putObj (w.heap.size+1) (.loop {rec .ready none with state:=.busy})=W2:=⟨_,rfl⟩
  have U8:=me.Uu (G:=G) (o2:=.loop {rec .ready none with state:=.busy}) j5 rfl f2 X8 Nj Au (mM.on Gk fun b h1 h2 h3=>by
   obtain⟨k1,k2⟩:=js.block b h1 h2;obtain⟨k3,k4⟩:=me.fr.block b (Nat.lt_of_lt_of_le h1 js.size) k2;refine⟨(O _ _ _ w4).trans (k3.trans k1),k4,fun hx=>?_⟩;rcases Nl b hx with h|h|h
   ·exact h3 h
   ·omega
   exact h2 h) (fun _ _=>False)
  rw[me.defers,uL] at U8;have ir:W2.heap[w.heap.size+1]?=some (.loop {rec .ready none with state:=.busy}):=(by rw[←uL];exact World.putObj_heap_same (Array.getElem?_eq_some_iff.1 j5).1)
  have nF:∀(a3:Act) (W3:World) (y3:St) (S':List ah) (jump:Option Code),bG ⟨Xr,W2,au z.S,G,[],fun _ _=>False⟩ y3 a3 W3→S'.Sublist y3.S→(∀B∈S',fH B.cs=true) →
    ∃E,(Instr.endRound (w.heap.size+1) jump).run P W3 = .ok (.bool jump.isNone) E∧E.heap[w.heap.size+1]?=some (.loop (rec (if jump.isNone then .ready else .done) jump))∧E.heap[w.heap.size]?=some (.deferred (some [])) ∧
     Own E (live Xr S') S'∧XV (w.heap.size+1) W (au Sc) E (au S')∧¬live Xr S' (w.heap.size+1)∧¬live Xr S' w.heap.size:=fun a3 W3 y3 S' jump h3 U Nn=>by
   have No:(au S').Sublist (au y3.S):=Sublist.map _ U;have Ce:W2.heap.size=w1.heap.size:=(by rw[←uL,World.putObj_size])
   obtain⟨g1,g2⟩:=h3.fr.block (w.heap.size+1) (Array.getElem?_eq_some_iff.1 ir).1 f2;have Hi:W3.heap[w.heap.size+1]?=some (.loop {rec .ready none with state:=.busy}):=g1.trans ir;have ajm:=(Array.getElem?_eq_some_iff.1 Hi).1;have nW:=run_endRound (P:=P) jump Hi;obtain⟨k1,k2⟩:=me.fr.block w.heap.size dU (fun h=>X7 (.inr h));obtain⟨k3,k4⟩:=h3.fr.block w.heap.size (by rw[Ce];exact Nat.lt_of_lt_of_le dU me.fr.size) k2;have fb:W2.heap[w.heap.size]?=some (.deferred (some [])):=(by rw[←uL];exact(O _ _ _ w4).trans (k1.trans hk))
   have X9:w.heap.size+1∉au S':=fun h=>g2 (No.subset h);refine⟨_,nW,?_,(O _ _ _ w4).trans (k3.trans fb),?_,?_,?_,?_⟩
   ·rw[xx];exact World.putObj_heap_same ajm
   ·exact(h3.own.sub U).zx (Z:=fun b=>b=w.heap.size+1) (fun B hB=>.inr (mem_map.2 ⟨B,hB,rfl⟩)) Nn (fun b _ hb=>O _ _ _ hb) (fun b i hz=>by subst hz;exact EJ Hi rfl i) (by rw[World.putObj_size];exact Nat.le_refl _) (fun B hB e=>X9 (e ▸ mem_map.2 ⟨B,hB,rfl⟩))
   ·refine⟨h3.fr.os.trans ?_,h3.fr.tape.trans ?_,h3.fr.output.trans ?_,?_,fun b hb hn=>?_⟩
    ·rw[←uL];exact me.fr.os
    ·rw[←uL];exact me.fr.tape
    ·rw[←uL];exact me.fr.output
    ·rw[World.putObj_size];exact Nat.le_trans me.fr.size (by rw[←Ce];exact h3.fr.size)
    obtain⟨m1,m2⟩:=me.fr.block b hb hn;obtain⟨m3,m4⟩:=h3.fr.block b (by rw[Ce];exact Nat.lt_of_lt_of_le hb me.fr.size) m2;refine⟨fun We=>(O _ _ _ We).trans (m3.trans ?_),fun h=>m4 (No.subset h)⟩;rw[←uL];exact(O _ _ _ We).trans m1
   ·rintro(h|h)
    ·exact X8 h
    exact X9 h
   rintro(h|h)
   ·exact X7 (.inl h)
   exact k4 (No.subset h)
  refine⟨W2,by rw[←uL];exact run_beginRound j5 (by rw[xx]),wpIn_mono (ahI Xr W2 (au z.S) _ pre y Sc z hJ hN CZ _ _ U8) fun e a3 W3 hq=>?_⟩;rcases hq with ⟨y3,h3,hq⟩|⟨_,hq⟩
  case inr=>exact hq.elim
  cases e with
  | normal =>
   obtain⟨S',U,hj⟩:=hq;obtain⟨E,r1,r2,r3,r4,r5,r6,r7⟩:=nF a3 W3 y3 S' none h3 U (XY _ _ hj);exact⟨_,E,r1,true,S',rfl,r4,r5,fun _=>⟨hj,r2.trans hl.symm⟩,(fun h=>by cases h)⟩
  | ret =>
   obtain⟨hc,S',U,hj⟩:=hq;obtain⟨E,r1,r2,r3,r4,r5,r6,r7⟩:=nF a3 W3 y3 S' (some .ret) h3 U (LA _ _ hj);refine⟨_,E,r1,false,S',rfl,r4,r5,(fun h=>by cases h),fun _=>⟨hj,fun z hz=>?_⟩⟩;rcases mem_cons.1 hz with rfl|hz
   ·exact⟨(Array.getElem?_eq_some_iff.1 r2).1,r6,by rw[hc];exact r2⟩
   rw[mem_singleton] at hz;subst hz;exact⟨(Array.getElem?_eq_some_iff.1 r3).1,r7,r3⟩
  | exit i =>
   obtain⟨hc,S',U,hj⟩:=hq;obtain⟨E,r1,r2,r3,r4,r5,r6,r7⟩:=nF a3 W3 y3 S' (some (.exit i)) h3 U (LA _ _ hj);refine⟨_,E,r1,false,S',rfl,r4,r5,(fun h=>by cases h),fun _=>⟨hj,fun z hz=>?_⟩⟩;rcases mem_cons.1 hz with rfl|hz
   ·exact⟨(Array.getElem?_eq_some_iff.1 r2).1,r6,by rw[hc];exact r2⟩
   rw[mem_singleton] at hz;subst hz;exact⟨(Array.getElem?_eq_some_iff.1 r3).1,r7,r3⟩
  | goto t=>exact hq.elim
  | panic ch=>exact hq.elim
  | outgrown=>exact hq.elim
 -- behind the iterator
 have eS:∀(W':World) (Sc:List ah) (st:LoopState) (pe:Option Code),Own W' (live X Sc) Sc→Fr w (au x.S) W' (au Sc)→(∀B∈Sc,fH B.cs=true)→st≠.busy →
   rq W' (live X Sc) [(w.heap.size+1,.loop (rec st pe)),(w.heap.size,.deferred (some []))] →
   ∃E,(Instr.endLoop (w.heap.size+1)).run P W' = .ok pe E∧bG ⟨X,E,au Sc,G,[mark w.heap.size],fun _ _=>False⟩ ⟨x.n,x.env,Sc⟩ {a with defers:=[mark w.heap.size]++a.defers} E ∧
    ∀a' w' y,bG ⟨X,E,au Sc,G,[mark w.heap.size],fun _ _=>False⟩ y a' w'→zy P fn post y→wW P fn post X w0 S0 a' w':=fun W' Sc st pe ho hf Nn fB I=>by
  obtain⟨r1,r2,r3⟩:=I _ mem_cons_self;obtain⟨k1,k2,k3⟩:=I _ (mem_cons_of_mem _ mem_cons_self);have r1:w.heap.size+1<W'.heap.size:=r1;have r3:W'.heap[w.heap.size+1]?=some (.loop (rec st pe)):=r3;have nW:=run_endLoop (P:=P) r3 (by rw[xx];exact fB);have gK:(rec st pe).pending=pe:=(by rw[xx])
  rw[gK] at nW;refine⟨_,nW,after _ Sc ⟨hf.os,hf.tape,hf.output,by rw[World.putObj_size];exact hf.size,fun b hb hn=>⟨(World.putObj_heap_other w4).trans (hf.block b hb hn).1,(hf.block b hb hn).2⟩⟩ ?_ ((World.putObj_heap_other w4).trans k3) (fun h=>k2 (.inr h))⟩;exact ho.zx (Z:=fun b=>b=w.heap.size+1) (fun B hB=>.inr (mem_map.2 ⟨B,hB,rfl⟩)) Nn (fun b _ hb=>World.putObj_heap_other hb) (fun b i hz=>by subst hz;exact EJ r3 rfl i) (by rw[World.putObj_size];exact Nat.le_refl _) (fun B hB e=>r2 (.inr (by rw[←e];exact mem_map.2 ⟨B,hB,rfl⟩)))
 have hR:∀(a':Act) (E:World) (Sc:List ah),bG ⟨X,E,au Sc,G,[mark w.heap.size],fun _ _=>False⟩ ⟨x.n,x.env,Sc⟩ a' E→(∀a' w' y,bG ⟨X,E,au Sc,G,[mark w.heap.size],fun _ _=>False⟩ y a' w'→zy P fn post y→wW P fn post X w0 S0 a' w') →
   ((∃xs,Sa xs∧J xs Sc)∨(jc = .exit id∧∃pre,Sp pre∧Jx pre Sc))→rest.wp P (LQ ⟨X,w0,S0,G,[],wW P fn post X w0 S0⟩ Q) a' E:=fun a' E Sc h1 h2 h3 =>
  wp_mono (ahJ E (au Sc) w.heap.size Sc h3 _ _ h1) fun e a2 w2 hq=>by
   rcases hq with ⟨y,q1,rfl,q2⟩|⟨_,hq⟩
   ·exact .inr ⟨rfl,h2 _ _ _ q1 q2⟩
   exact hq.elim
 rintro e W' ⟨v,Sc,rfl,kI,js,h⟩;rcases h with ⟨xs,hsa,hj,I⟩|⟨pre,Av,hj,I⟩
 ·obtain⟨E,q1,q2,q3⟩:=eS W' Sc .ready none kI js (XY _ _ hj) bn I;refine⟨none,E,q1,?_⟩;exact hR _ E Sc q2 q3 (.inl ⟨xs,hsa,hj⟩)
 obtain⟨E,q1,q2,q3⟩:=eS W' Sc .done (some jc) kI js (LA _ _ hj) bn I;refine⟨some jc,E,q1,?_⟩;rcases ye with ye|ye
 ·rw[ye];refine wpIn_ret ?_;exact .inr ⟨rfl,q3 _ _ _ q2 (mR ye pre Sc Av hj)⟩
 rw[ye];refine wpIn_exit ?_;have:=hR _ E Sc q2 q3 (.inr ⟨ye,pre,Av,hj⟩);simpa[Exit.inBlock,Exit.then] using this
theorem Q1{b e size:Nat}{cs cs':List D}(E:(⟨b,e,size,cs⟩:ah)∈S)(Z:gw S cs cs')(hne:isMap e=false:=by rfl):View S (.v (.pointer (some ⟨b,0,none⟩))) (.fx cs' 0):=fun X Y w v I O ho h=>by
 rw[h.kV];obtain⟨v1,v2⟩:=Z.spec;obtain⟨r0,cur,r1,r2,r3,U⟩:=ho.at_ _ E;rw[kp hne] at r1;refine .fx cs' 0 b 0 (fun i=>cur.getD i undef) r0 (fun hy=>O _ (I _ hy) (mem_map.2 ⟨_,E,rfl⟩)) (fun i hi=>?_) (fun i hi=>?_)
 ·obtain⟨u,hu,_⟩:=U i GS;rw[Nat.zero_add,ow r1 hu];simp[hu]
 obtain⟨u,hu,hq⟩:=U i GS;simp only[Array.getD_eq_getD_getElem?,hu,Option.getD_some];exact v2 i w4 hi X Y w u I O ho hq
theorem acG{f:Fn}{ds E:List D}(h:gw S ds E):View S (.ew f ds) (.ew f E):=fun X Y w v O U ho hr=>by
 obtain⟨h1,h2⟩:=h.spec;cases hr with
 | ew _ _ vs hl I=>exact .ew f E vs w4 fun i q1 q2=>h2 i w4 q1 X Y w _ O U ho (I i w4 q2)
variable {S1 T:List Nat} {fuel i:Nat} {ld:Array Bool}

end Go.Proofs.YtdgichenhdikgaaGreatDoor.V
namespace Go.Proofs.YtdgichenhdikgaaGreatDoor.V
open List
open Go.RowKit
variable {P:Program} {C:dy} {G:List (Nat×List Value)} {Q:Exit→St→Prop} {x:St} {ops:Array Oper} {o:Oper} {n fuel t:Nat} {e:List (Nat×D)} {S:List ah} {S1 T:List Nat} {ld:Array Bool} {d:D} {kd:Rd}
theorem aC (i:Nat) (hi:ops[i]?=some o) (h:bQ P C.G ⟨n,e,S⟩ o kd d) (K:dH P C ops S1 T fuel (ld.setIfInBounds i true) ⟨n,(t,d)::e,S⟩ Q) (hs:Region.noSelect ops=true:=by kernel_rfl) (hf:Region.free .any ops ld i=true:=by kernel_rfl) (hr:(Region.ready .any ops ld).contains i=true:=by kernel_rfl)
  (hp:NP Q:=by repeat (first|exact NP.norm|exact NP.body|exact NP.zz|exact NP.FQ|apply NP.tl|apply NP.FR|apply NP.then|apply NP.cut|apply NP.inBlock|apply NP.round)) (hw:bY ops ⟨n,e,S⟩ o true:=by first|exact sc rfl|exact tV rfl rfl rfl lk jn) (hd:o.dst=some t:=by exact rfl)
  (hk:Safe ⟨n,e,S⟩ T kd:=by first|exact trivial|exact qw (k0:=0) rfl rfl|exact qw (k0:=1) rfl rfl|exact qw (k0:=2) rfl rfl|exact qw (k0:=3) rfl rfl|exact qw (k0:=4) rfl rfl|exact qw (k0:=5) rfl rfl):dH P C ops S1 T (fuel+1) ld ⟨n,e,S⟩ Q :=
 dH.take hi hs hf hr hp hw hd h hk K
theorem cy (i:Nat) (hi:ops[i]?=some o) (h:bQ P C.G ⟨n,e,S⟩ o kd d) (K:AD P C ops S1 T fuel (ld.setIfInBounds i true) ⟨n,(t,d)::e,S⟩ Q) (hs:Region.noSelect ops=true:=by kernel_rfl) (hf:Region.free .any ops ld i=true:=by kernel_rfl) (hr:(Region.ready .any ops ld).contains i=true:=by kernel_rfl)
  (hp:NP Q:=by repeat (first|exact NP.norm|exact NP.body|exact NP.zz|exact NP.FQ|apply NP.tl|apply NP.FR|apply NP.then|apply NP.cut|apply NP.inBlock|apply NP.round)) (hw:bY ops ⟨n,e,S⟩ o true:=by first|exact sc rfl|exact tV rfl rfl rfl lk jn) (hd:o.dst=some t:=by exact rfl)
  (hk:Safe ⟨n,e,S⟩ T kd:=by first|exact trivial|exact qw (k0:=0) rfl rfl|exact qw (k0:=1) rfl rfl|exact qw (k0:=2) rfl rfl|exact qw (k0:=3) rfl rfl|exact qw (k0:=4) rfl rfl|exact qw (k0:=5) rfl rfl) (qg:kd≠.jU:=by intro h;cases h):AD P C ops S1 T (fuel+1) ld ⟨n,e,S⟩ Q :=
 AD.take hi hs hf hr hp hw hd h hk qg K
theorem at_{i:Nat}(hi:ops[i]?=some o)(h:bQ P C.G ⟨n,e,S⟩ o kd d)(K:AD P C ops S1 T fuel (ld.setIfInBounds i true) ⟨n,(t,d)::e,S⟩ Q)(hw:bY ops ⟨n,e,S⟩ o true:=by first|exact sc rfl|exact tV rfl rfl rfl lk jn)(hd:o.dst=some t:=by exact rfl):bz P C ops S1 T fuel ld ⟨n,e,S⟩ Q i :=
 bz.still hi hw hd h K
theorem mA (i:Nat) (hi:ops[i]?=some o) (K:dH P C ops S1 T fuel (ld.setIfInBounds i true) ⟨n,(t,.v (.tuple #[]))::e,S⟩ Q) (hw:bY ops ⟨n,e,S⟩ o false:=by first|exact mH rfl rfl rfl lk jn|exact Jz (b:=false) rfl rfl rfl lk) (hs:Region.noSelect ops=true:=by kernel_rfl) (hf:Region.free .any ops ld i=true:=by kernel_rfl) (hr:(Region.ready .any ops ld).contains i=true:=by kernel_rfl)
  (hp:NP Q:=by repeat (first|exact NP.norm|exact NP.body|exact NP.zz|exact NP.FQ|apply NP.tl|apply NP.FR|apply NP.then|apply NP.cut|apply NP.inBlock|apply NP.round)) (hd:o.dst=some t:=by exact rfl):dH P C ops S1 T (fuel+1) ld ⟨n,e,S⟩ Q :=
 dH.I0 hi hs hf hr hp hw hd K
theorem qc (i:Nat) (hi:ops[i]?=some o) (K:AD P C ops S1 T fuel (ld.setIfInBounds i true) ⟨n,(t,.v (.tuple #[]))::e,S⟩ Q) (hw:bY ops ⟨n,e,S⟩ o false:=by first|exact mH rfl rfl rfl lk jn|exact Jz (b:=false) rfl rfl rfl lk) (hs:Region.noSelect ops=true:=by kernel_rfl) (hf:Region.free .any ops ld i=true:=by kernel_rfl) (hr:(Region.ready .any ops ld).contains i=true:=by kernel_rfl)
  (hp:NP Q:=by repeat (first|exact NP.norm|exact NP.body|exact NP.zz|exact NP.FQ|apply NP.tl|apply NP.FR|apply NP.then|apply NP.cut|apply NP.inBlock|apply NP.round)) (hd:o.dst=some t:=by exact rfl):AD P C ops S1 T (fuel+1) ld ⟨n,e,S⟩ Q :=
 AD.I0 hi hs hf hr hp hw hd K
theorem fR (i:Nat) (hi:ops[i]?=some o) (h:bQ P C.G ⟨n,e,S⟩ o .none d) (K:AI P C ops fuel (ld.setIfInBounds i true) ⟨n,(t,d)::e,S⟩ Q) (om:∀w a,o.about P w a=none:=by exact fun _ _=>rfl) (hs:Region.noSelect ops=true:=by kernel_rfl) (hf:Region.free .any ops ld i=true:=by kernel_rfl) (hr:(Region.ready .any ops ld).contains i=true:=by kernel_rfl)
  (hp:NP Q:=by repeat (first|exact NP.norm|exact NP.ahD|apply NP.then|apply NP.cut|apply NP.inBlock|apply NP.round)) (hw:bY ops ⟨n,e,S⟩ o true:=by first|exact sc rfl|exact tV rfl rfl rfl lk jn) (hd:o.dst=some t:=by exact rfl):AI P C ops (fuel+1) ld ⟨n,e,S⟩ Q :=
 AI.take hi hs hf hr hp hw om hd h K
theorem kM{i:Nat}(hi:ops[i]?=some o)(h:bQ P C.G ⟨n,e,S⟩ o kd d)(K:AI P C ops fuel (ld.setIfInBounds i true) ⟨n,(t,d)::e,S⟩ Q)(yd:∀c,o.op≠.defer c:=by exact fun _ h=>by cases h)(hw:bY ops ⟨n,e,S⟩ o true:=by first|exact sc rfl|exact tV rfl rfl rfl lk jn)(hd:o.dst=some t:=by exact rfl):gF P C ops fuel ld ⟨n,e,S⟩ Q i :=
 gF.still hi hw yd hd h K
def Np(P:Program)(s u:Nat):Bool:=match P.underlying s with
 | some (.slice b)=>(match P.underlying b with
  | some (.int .u8)=>(match P.underlying u with
   | some .string=>true
   | _=>false)
  | _=>false)
 | _=>false
theorem ahO{s u:Nat}(h:Np P s u=true):∃b,P.underlying s=some (.slice b)∧P.underlying b=some (.int .u8)∧P.underlying u=some .string:=by
 unfold Np at h;split at h
 ·rename_i b hb;split at h
  ·rename_i E;split at h
   ·rename_i I;exact⟨b,hb,E,I⟩
   cases h
  cases h
 cases h
theorem C0{s u:TypeId}{y:Operand}{bs:List UInt8}{m:Nat}(ho:o.op = .convert s u y:=by exact rfl)(hy:aE x y = .list 1 (bs.flatMap cB) m:=by exact ot)(hs:Np P s u=true:=by kernel_rfl):bQ P G x o .jU (.v (.string ⟨bs.toArray⟩)):=by
 obtain⟨b,h1,h2,h3⟩:=ahO hs;exact Zc ho hy h1 h2 h3

end Go.Proofs.YtdgichenhdikgaaGreatDoor.V
namespace Go.Proofs.YtdgichenhdikgaaGreatDoor.V
open List
open Go.RowKit
variable {P:Program} {C:dy} {G:List (Nat×List Value)} {Q:Exit→St→Prop} {x:St} {ops:Array Oper} {l:List Oper} {o:Oper} {n:Nat} {e:List (Nat×D)} {S:List ah} {S1 T:List Nat} {fuel i:Nat} {ld:Array Bool}
variable {b sz:Nat} {cX:Array Operand} {t:TypeId} {fo:Operand} {ts:Array TypeId} {B:ah} {ps:List (Nat×Operand)}
theorem az{α:Type}{a b:α}(h:a=b:=by kernel_rfl):a=b:=h
theorem aO{a:Nat}(h:Nat.ble a b=true:=by exact rfl):a≤b:=Nat.le_of_ble_eq_true h
theorem ap(h:o.guard=none:=by exact rfl):bY ops x o true:=sc h
theorem iq(h:bY ops x o true:=by exact tV rfl rfl rfl lk jn):bY ops x o true:=h
theorem Ya{pd zs ds:List D}(ha:(pd.all fun d=>Nat.beq (cellsOf d).length sz)=true:=by exact rfl)(hl:Nat.beq zs.length (pd.length*sz)=true:=by exact rfl)(jq:pd.flatMap cellsOf=ds:=by exact rfl):mu (fun i=>some (i*sz,sz)) zs (cf 0 pd)=some ds:=Px ha hl jq
theorem Hj(h:NP Q:=by repeat (first|exact NP.body|exact NP.zz|exact NP.FQ|apply NP.tl|apply NP.FR|apply NP.then|apply NP.cut|apply NP.inBlock|apply NP.round)):NP Q:=h
theorem iD{a b:List Nat}(h:∀x∈a,x∈b:=by intro b hb;simp[au,St.put] at hb ⊢;try first|exact hb|omega|simp[hb]|(rcases hb with hb|hb<;>simp[hb])|(rcases hb with hb|hb|hb<;>simp[hb])):∀x∈a,x∈b:=h
theorem fa{l':List (Nat×D)}(h:ny e l':=by repeat (first|exact trivial|refine⟨lk,?_⟩)):ny e l':=h
theorem C1{cX:List Operand}{ds:List D}(h:mS x cX ds:=by repeat (first|exact trivial|refine⟨ot,?_⟩|refine⟨bV,?_⟩|refine⟨tI,?_⟩)):mS x cX ds:=h
theorem W5(l':List (Nat×D))(S':List ah)(K:AD P C ops S1 T fuel ld ⟨n,l',S'⟩ Q)(hS:S=S':=by exact rfl)(h:ny e l':=by exact fa)(hb:au S'=au S:=by exact rfl):AD P C ops S1 T fuel ld ⟨n,e,S⟩ Q:=AD.wk (Wk.dG rfl hS h) hb K
theorem dP {f t:Nat} {args:List D} {r:D} (fg:∀args w,(callFunc f args).run P w = .ok (.enter f args) w) (hc:VP P C.G f args r) (K:OD P C ops l (x.put t r) Q)
  (ho:o.op = .call {callee:=.value fo,args:=cX,argTypes:=ts}:=by exact rfl) (hw:bY ops x o true:=by exact ap) (hd:o.dst=some t:=by exact rfl) (hf:fo = .func f:=by exact rfl) (ha:mS x cX.toList args:=by exact C1):OD P C ops (o::l) x Q:=OD.gZ hw ho hd hf fg hc ha K
theorem lj {f t:Nat} {args:List D} {r:D} (fg:∀args w,(callFunc f args).run P w = .ok (.enter f args) w) (hc:VP P C.G f args r) (K:AD P C ops S1 T fuel (ld.setIfInBounds i true) (x.put t r) Q)
  (hi:ops[i]?=some o:=by exact rfl) (ho:o.op = .call {callee:=.value fo,args:=cX,argTypes:=ts}:=by exact rfl) (hw:bY ops x o true:=by exact ap) (hd:o.dst=some t:=by exact rfl) (hf:fo = .func f:=by exact rfl) (ha:mS x cX.toList args:=by exact C1):bz P C ops S1 T fuel ld x Q i:=bz.gZ hi hw ho hd hf fg hc ha K
theorem fA (k t sz m:Nat) {cap:Nat} {cs:List D} (K:OD P C ops l ⟨x.n,(t,.list sz cs m)::x.env,x.S.eraseIdx k⟩ Q) (hk:x.S[k]?=some B:=by exact rfl) (ht:V.look t x.env = .v (.slice (some ⟨b,0,none⟩) m cap):=by exact lk) (hb:B.b=b:=by exact rfl) (dh:B.cs=cs:=by exact rfl) (hl:cs.length=m*sz:=by exact rfl) (h1:m≤cap:=by exact Nat.le_refl _) (h2:cap≤maxLen:=by decide)
  (hne:isMap B.e=false:=by exact rfl):OD P C ops l x Q:=OD.vv (hne:=hne) hk ht hb dh hl h1 h2 K
theorem j4 (k t sz m:Nat) {cap:Nat} {cs:List D} (K:AD P C ops S1 T fuel ld ⟨x.n,(t,.list sz cs m)::x.env,x.S.eraseIdx k⟩ Q) (hk:x.S[k]?=some B:=by exact rfl) (ht:V.look t x.env = .v (.slice (some ⟨b,0,none⟩) m cap):=by exact lk) (hb:B.b=b:=by exact rfl) (dh:B.cs=cs:=by exact rfl) (hl:cs.length=m*sz:=by exact rfl) (h1:m≤cap:=by exact Nat.le_refl _) (h2:cap≤maxLen:=by decide)
  (hne:isMap B.e=false:=by exact rfl):AD P C ops S1 T fuel ld x Q:=AD.vv (hne:=hne) hk ht hb dh hl h1 h2 K
theorem Yb{pl:List (Nat×D)}(h:jx x ps pl:=by repeat (first|exact trivial|refine⟨rfl,ot,?_⟩|refine⟨rfl,bV,?_⟩|refine⟨rfl,tI,?_⟩)):jx x ps pl:=h
theorem nl{c:Code}{ι:Type}{y:St}(I:ι→St→Prop)(μ:ι→Nat)(i:ι)(h0:I i y)(hw:Wk x y)(round:∀i y,I i y→CD P C c y (BL I μ i Q)):CD P C (.loop c) x Q:=CD.wk hw (CD.loop I μ i h0 round)
theorem Yc{p:Prop}{c:Code}{ι:Type}{y:St}(I:ι→St→Prop)(μ:ι→Nat)(i:ι)(h0:I i y)(round:∀i y,I i y→CD P C c y (BL I μ i Q))(hp:CD P C (.loop c) x Q→p:=by exact nK)(hw:Wk x y:=by exact aK):p:=hp (CD.wk hw (CD.loop I μ i h0 round))
theorem en {e':TypeId} {tt len:Nat} {z:Value} (pl:List (Nat×D)) (oR:List Value) (ds:List D) (hz:∀w,(zeroValue e').run P w = .ok z w) (E:∀w,(underlying t).run P w = .ok (.slice e') w) (hs:∀w,(sizeOf e').run P w = .ok sz w)
  (k:∀b,OD P C ops l ⟨x.n,(tt,.v (.slice (some ⟨b,0,none⟩) len len))::x.env,⟨b,e',ds.length,ds⟩::x.S⟩ Q) (ho:o.op = .buildSlice t len ps.toArray:=by exact rfl) (hw:bY ops x o true:=by exact ap) (jz:o.dst=some tt:=by exact rfl) (hl:Nat.ble 1 (len*sz)=true:=by exact rfl) (ir:Nat.ble (len*sz) (2 ^ 24)=true:=by exact rfl)
  (eO:(Array.range (len*sz)).map (fun i=>z.cells[i % z.cells.size]!)=oR.toArray:=by kernel_rfl) (gX:jx x ps pl:=by exact Yb) (hj:pl.all (fun p=>kR p.2)=true:=by exact rfl) (hd:mu (fun i=>some (i*sz,sz)) (oR.map .v) pl=some ds:=by exact Ya) (hne:isMap e'=false:=by exact rfl):OD P C ops (o::l) x Q:=OD.Lx (hne:=hne) hw ho jz hz E hs hl ir eO gX hj hd k
theorem j3 {e':TypeId} {tt len:Nat} {z:Value} (pl:List (Nat×D)) (oR:List Value) (ds:List D) (hz:∀w,(zeroValue e').run P w = .ok z w) (E:∀w,(underlying t).run P w = .ok (.slice e') w) (hs:∀w,(sizeOf e').run P w = .ok sz w)
  (k:∀b,AD P C ops S1 T fuel (ld.setIfInBounds i true) ⟨x.n,(tt,.v (.slice (some ⟨b,0,none⟩) len len))::x.env,⟨b,e',ds.length,ds⟩::x.S⟩ Q) (hi:ops[i]?=some o:=by exact rfl) (ho:o.op = .buildSlice t len ps.toArray:=by exact rfl) (hw:bY ops x o true:=by exact ap) (jz:o.dst=some tt:=by exact rfl) (hl:Nat.ble 1 (len*sz)=true:=by exact rfl) (ir:Nat.ble (len*sz) (2 ^ 24)=true:=by exact rfl)
  (eO:(Array.range (len*sz)).map (fun i=>z.cells[i % z.cells.size]!)=oR.toArray:=by kernel_rfl) (gX:jx x ps pl:=by exact Yb) (hj:pl.all (fun p=>kR p.2)=true:=by exact rfl) (hd:mu (fun i=>some (i*sz,sz)) (oR.map .v) pl=some ds:=by exact Ya) (hne:isMap e'=false:=by exact rfl):bz P C ops S1 T fuel ld x Q i:=bz.Lx (hne:=hne) hi hw ho jz hz E hs hl ir eO gX hj hd k
theorem aR (k:Nat) (cs':List D) {o' m:Nat} {d:D} {y z:Operand} (hn:∀w,(sizeOf t).run P w = .ok m w) (K:OD P C ops l ⟨x.n,x.env,x.S.set k {B with cs:=cs'}⟩ Q) (ho:o.op = .store t y z:=by exact rfl) (hw:bY ops x o true:=by exact ap) (jz:o.dst=none:=by exact rfl) (hy:aE x y = .v (.pointer (some ⟨b,o',none⟩)):=by exact ot)
  (hk:x.S[k]?=some B:=by exact rfl) (hb:B.b=b:=by exact rfl) (hz:aE x z=d:=by first|exact ot|exact bV) (hj:kR d=true:=by exact rfl) (h1:(cellsOf d).all one=true:=by exact rfl) (gd:(cellsOf d).length=m:=by exact rfl) (hl:Nat.ble (o'+m) B.cs.length=true:=by exact rfl) (dh:da B.cs o' (cellsOf d)=cs':=by exact rfl) (hne:isMap B.e=false:=by exact rfl):OD P C ops (o::l) x Q:=OD.store (hne:=hne) hw ho jz hy hk hb hz hj h1 hn gd hl dh K
theorem dG (k:Nat) (cs':List D) {o' m:Nat} {d:D} {y z:Operand} (hn:∀w,(sizeOf t).run P w = .ok m w) (K:AD P C ops S1 T fuel (ld.setIfInBounds i true) ⟨x.n,x.env,x.S.set k {B with cs:=cs'}⟩ Q) (hi:ops[i]?=some o:=by exact rfl) (ho:o.op = .store t y z:=by exact rfl) (hw:bY ops x o true:=by exact ap) (jz:o.dst=none:=by exact rfl) (hy:aE x y = .v (.pointer (some ⟨b,o',none⟩)):=by exact ot)
  (hk:x.S[k]?=some B:=by exact rfl) (hb:B.b=b:=by exact rfl) (hz:aE x z=d:=by first|exact ot|exact bV) (hj:kR d=true:=by exact rfl) (h1:(cellsOf d).all one=true:=by exact rfl) (gd:(cellsOf d).length=m:=by exact rfl) (hl:Nat.ble (o'+m) B.cs.length=true:=by exact rfl) (dh:da B.cs o' (cellsOf d)=cs':=by exact rfl) (hT:∀b∈T,b∈au (x.S.eraseIdx k):=by exact iD) (hne:isMap B.e=false:=by exact rfl):bz P C ops S1 T fuel ld x Q i:=bz.store (hne:=hne) hi hw ho jz hy hk hb hz hj h1 hn gd hl dh hT K
theorem om_ {t:Nat} {d:D} {z:Operand} (K:OD P C ops l ⟨n,(t,d)::e,S⟩ Q) (ho:o.op = .move z∨o.op = .assign z:=by first|exact .inl rfl|exact .inr rfl) (hz:aE ⟨n,e,S⟩ z=d:=by first|exact ot|exact bV|exact tI|exact wq)
  (hw:bY ops ⟨n,e,S⟩ o true:=by first|exact sc rfl|exact tV rfl rfl rfl lk jn) (hd:o.dst=some t:=by exact rfl):OD P C ops (o::l) ⟨n,e,S⟩ Q:=OD.still hw hd (bF ho hz) K

end Go.Proofs.YtdgichenhdikgaaGreatDoor.V
namespace Go.Proofs.YtdgichenhdikgaaGreatDoor.V
open List
open Go.RowKit
variable {P:Program} {C:dy} {G:List (Nat×List Value)} {Q:Exit→St→Prop} {x:St} {ops:Array Oper} {l l2:List Oper} {o:Oper} {n t:Nat} {d:D} {e e' l':List (Nat×D)} {S:List ah} {ts:List Nat} {kd:Rd} {c:Bool}
variable {zs:List Value} {pl lr:List (Nat×D)} {k sz t' id:Nat} {ds:List D} {d0:D} {y fo:Operand} {ps:List (Nat×Operand)} {cX:Array Operand} {tt:Array TypeId} {p q:Prop} {fn:Func} {post:D→List ah→Prop} {b:Bool} {S':List ah}
class Fo (P:Program) (s i:Nat) (off:outParam Nat):Prop where h:CT P s i off=true
class Sl (P:Program) (t:Nat) (sz:outParam Nat):Prop where h:CU P t sz=true
class Sz (P:Program) (t:Nat) (sz:outParam Nat):Prop where h:qV P t sz=true
def sE(P:Program)(t:Nat):Option (List Value):=(P.info? t).bind fun i=>i.zero.map fun z=>z.cells.toList
theorem Bn(h:sE P t=some zs):∃z,(∀w,(zeroValue t).run P w = .ok z w)∧z.cells.toList=zs:=by
 unfold sE at h;cases hi:P.info? t with
 | none=>rw[hi] at h;cases h
 | some i =>
  rw[hi,Option.bind_some] at h;cases hz:i.zero with
  | none=>rw[hz] at h;cases h
  | some z =>
   rw[hz,Option.map_some] at h;refine⟨z,fun w=>?_,Option.some.inj h⟩;unfold zeroValue typeInfo;simp[hi,hz]
def E2(P:Program)(t:Nat):Option (List (Nat×Option Nat)):=(P.underlying t).bind fun d=>match d with
 | .struct fs=>some (fs.toList.map fun f=>(f.offset,(P.info? f.type).map (·.size)))
 | _=>none
theorem aa0{pl:List (Nat×Nat)}(h:E2 P t=some (pl.map fun p=>(p.1,some p.2))):∃E,(∀w,(underlying t).run P w = .ok (.struct E) w)∧∀w,(E.mapM fun f=>do pure (f.offset,←sizeOf f.type):Sem (Array (Nat×Nat))).run P w = .ok pl.toArray w:=by
 unfold E2 at h;cases hu:P.underlying t with
 | none=>rw[hu] at h;cases h
 | some d =>
  rw[hu,Option.bind_some] at h;split at h
  ·rename_i E;refine⟨E,run_underlying hu,fun w=>?_⟩;have h:=Option.some.inj h;rw[←Array.toArray_toList (xs:=E),mapM_toArray];have key:∀(l:List Field) (pl:List (Nat×Nat)),l.map (fun f=>(f.offset,(P.info? f.type).map (·.size)))=pl.map (fun p=>(p.1,some p.2))→(l.mapM fun f=>do pure (f.offset,←sizeOf f.type):Sem (List (Nat×Nat))).run P w = .ok pl w:=by
    intro l;induction l with
    | nil=>intro pl h;cases pl with
     | nil=>rfl
     | cons _ _=>cases h
    | cons f r ih =>
     intro pl h;cases pl with
     | nil=>cases h
     | cons p q =>
      rw[map_cons,map_cons,List.cons.injEq,Prod.mk.injEq] at h;obtain⟨⟨h1,h2⟩,h3⟩:=h;have h4:∀w,(sizeOf f.type).run P w = .ok p.2 w:=by
       cases hi:P.info? f.type with
       | none=>rw[hi] at h2;cases h2
       | some i=>exact lR (by unfold qV;rw[hi] at h2 ⊢;simp at h2;simp[h2])
      rw[mapM_cons];simp only[Sem.run_bind,Sem.run_pure,h4,Result.andThen_ok,ih q h3,h1]
   have:=key E.toList pl h;simp only[map_eq_pure_bind,Sem.run_bind,this,Result.andThen_ok,Sem.run_pure]
  cases h
class Sb (P:Program) (t:Nat) (zs:outParam (List Value)) (pl:outParam (List (Nat×Nat))):Prop where
  hz:sE P t=some zs
  hp:E2 P t=some (pl.map fun p=>(p.1,some p.2))
inductive mC:Nat→List D→List D→Prop
  | z {l:List D}:mC 0 l []
  | s {k:Nat} {a:D} {l l':List D} (h:mC k l l'):mC (k+1) (a::l) (a::l')
inductive qi:Nat→List D→List D→Prop
 | z {l:List D}:qi 0 l l
 | s {k:Nat} {a:D} {l l':List D} (h:qi k l l'):qi (k+1) (a::l) l'
theorem mC.eq{l l':List D}(h:mC k l l'):l.take k=l'∧l'.length=k:=by
 induction h with
 | z=>exact⟨rfl,rfl⟩
 | s h ih=>exact⟨by rw[take_succ_cons,ih.1],by rw[length_cons,ih.2]⟩
theorem mC.whole{l l':List D}(h:mC k l l')(hl:Nat.beq l.length k=true):l=l':=by
 have:=h.eq.1;rwa [take_of_length_le (Nat.le_of_eq (Nat.eq_of_beq_eq_true hl))] at this
theorem qi.eq{l l':List D}(h:qi k l l'):l.drop k=l':=by
 induction h with
 | z=>rfl
 | s h ih=>rw[drop_succ_cons,ih]
inductive LB (S:List ah) (sz:Nat):D→Rd→List D→Prop
 | b (k:Nat) {b o':Nat} {B:ah} {ds m:List D} (hk:S[k]?=some B) (hb:B.b=b) (hm:qi o' B.cs m) (hd:mC sz m ds) (hne:isMap B.e=false):LB S sz (.v (.pointer (some ⟨b,o',none⟩))) (.fp k) ds
 | m {α:Type} {g:α→List D} {i:Nat} {ls:List α} (hg:∀a,(g a).length=sz) (hi:i<ls.length):LB S sz (.fx (ls.flatMap g) (i*sz)) .jU (g ls[i])
 | r (k:Nat) {α:Type} {g:α→List D} {b i:Nat} {B:ah} {ls:List α} (hg:∀a,(g a).length=sz) (hk:S[k]?=some B) (hb:B.b=b) (dh:B.cs=ls.flatMap g) (hi:i<ls.length) (hne:isMap B.e=false):LB S sz (.v (.pointer (some ⟨b,0+i*sz,none⟩))) (.fp k) (g ls[i])
 | i {o':Nat} {cs ds m:List D} (hm:qi o' cs m) (hd:mC sz m ds):LB S sz (.fx cs o') .jU ds
theorem LB.still(h:LB x.S sz d0 kd ds)(ho:o.op = .load t y)(hy:aE x y=d0)(ha:qW P t true=true)(hn:qV P t sz=true):bQ P G x o kd (.agg ds):=by
 cases h with
 | b k hk hb hm hd hne=>exact AR (hne:=hne) ho hy hk hb (iK ha) (lR hn) hd.eq.2 (by rw[hm.eq];exact hd.eq.1)
 | m hg hi=>exact HR ho hy (iK ha) (lR hn) (hg _) (FP hg hi)
 | r k hg hk hb dh hi hne=>exact dA (hne:=hne) hg hk hb dh (iK ha) (lR hn) hi x o y ho hy rfl
 | i hm hd=>exact HR ho hy (iK ha) (lR hn) hd.eq.2 (by rw[hm.eq];exact hd.eq.1)
theorem nA{l l':List D}(h:mC k l l':=by repeat (first|exact mC.z|apply mC.s)):mC k l l':=h
theorem qF{l l':List D}(h:qi k l l':=by repeat (first|exact qi.z|apply qi.s)):qi k l l':=h
theorem fb_{s:TypeId}{i off:Nat}{d d':D}(ho:o.op = .fieldAddr s y i:=by exact rfl)(hy:aE x y=d:=by first|exact ot|exact wq)(hc:CT P s i off=true:=by exact Fo.h)(h:FA off d d':=by first|exact .p|exact .i):bQ P G x o .none d':=dF off ho hy hc h
theorem lc_ (ho:o.op = .load t y:=by exact rfl) (hy:aE x y=d0:=by exact ot) (hn:qV P t sz=true:=by exact Sz.h) (ha:qW P t true=true:=by kernel_rfl)
  (h:LB x.S sz d0 kd ds:=by first|(apply LB.b 0;exact rfl;exact rfl;(focus exact qF);(focus exact nA);exact rfl)|(apply LB.b 1;exact rfl;exact rfl;(focus exact qF);(focus exact nA);exact rfl)|(apply LB.b 2;exact rfl;exact rfl;(focus exact qF);(focus exact nA);exact rfl)|(apply LB.b 3;exact rfl;exact rfl;(focus exact qF);(focus exact nA);exact rfl)|(apply LB.b 4;exact rfl;exact rfl;(focus exact qF);(focus exact nA);exact rfl)|(apply LB.b 5;exact rfl;exact rfl;(focus exact qF);(focus exact nA);exact rfl)|(apply LB.b 6;exact rfl;exact rfl;(focus exact qF);(focus exact nA);exact rfl)|(apply LB.b 7;exact rfl;exact rfl;(focus exact qF);(focus exact nA);exact rfl)|(apply LB.b 8;exact rfl;exact rfl;(focus exact qF);(focus exact nA);exact rfl)|(apply LB.b 9;exact rfl;exact rfl;(focus exact qF);(focus exact nA);exact rfl)|(apply LB.m;(focus exact fun _=>rfl);(focus first|assumption|omega|fail))|(apply LB.i;(focus exact qF);(focus exact nA))|(apply LB.r 0;(focus exact fun _=>rfl);exact rfl;exact rfl;exact rfl;exact rfl;(focus first|assumption|omega|fail))|(apply LB.r 1;(focus exact fun _=>rfl);exact rfl;exact rfl;exact rfl;exact rfl;(focus first|assumption|omega|fail))|(apply LB.r 2;(focus exact fun _=>rfl);exact rfl;exact rfl;exact rfl;exact rfl;(focus first|assumption|omega|fail))|(apply LB.r 3;(focus exact fun _=>rfl);exact rfl;exact rfl;exact rfl;exact rfl;(focus first|assumption|omega|fail))|fail):bQ P G x o kd (.agg ds):=h.still ho hy ha hn
theorem ajn {d:D} (ho:o.op = .load t y:=by exact rfl) (hy:aE x y=d0:=by exact ot) (ha:qW P t false=true:=by kernel_rfl)
  (h:LD x.S d0 kd d:=by first|(apply LD.b 0;exact rfl;exact rfl;exact rfl;exact rfl)|(apply LD.b 1;exact rfl;exact rfl;exact rfl;exact rfl)|(apply LD.b 2;exact rfl;exact rfl;exact rfl;exact rfl)|(apply LD.b 3;exact rfl;exact rfl;exact rfl;exact rfl)|(apply LD.b 4;exact rfl;exact rfl;exact rfl;exact rfl)|(apply LD.b 5;exact rfl;exact rfl;exact rfl;exact rfl)|(apply LD.b 6;exact rfl;exact rfl;exact rfl;exact rfl)|(apply LD.b 7;exact rfl;exact rfl;exact rfl;exact rfl)|(apply LD.b 8;exact rfl;exact rfl;exact rfl;exact rfl)|(apply LD.b 9;exact rfl;exact rfl;exact rfl;exact rfl)|(apply LD.m;(focus exact fun _=>rfl);exact rfl;(focus first|assumption|omega|fail))|(apply LD.m0;(focus exact fun _=>rfl);exact rfl;(focus first|assumption|omega|fail))|(apply LD.i;exact rfl)|(apply LD.r 0;(focus exact fun _=>rfl);exact rfl;exact rfl;exact rfl;exact rfl;exact rfl;(focus first|assumption|omega|fail))|(apply LD.r0 0;(focus exact fun _=>rfl);exact rfl;exact rfl;exact rfl;exact rfl;exact rfl;(focus first|assumption|omega|fail))|(apply LD.r 1;(focus exact fun _=>rfl);exact rfl;exact rfl;exact rfl;exact rfl;exact rfl;(focus first|assumption|omega|fail))|(apply LD.r0 1;(focus exact fun _=>rfl);exact rfl;exact rfl;exact rfl;exact rfl;exact rfl;(focus first|assumption|omega|fail))|(apply LD.r 2;(focus exact fun _=>rfl);exact rfl;exact rfl;exact rfl;exact rfl;exact rfl;(focus first|assumption|omega|fail))|(apply LD.r0 2;(focus exact fun _=>rfl);exact rfl;exact rfl;exact rfl;exact rfl;exact rfl;(focus first|assumption|omega|fail))|(apply LD.r 3;(focus exact fun _=>rfl);exact rfl;exact rfl;exact rfl;exact rfl;exact rfl;(focus first|assumption|omega|fail))|(apply LD.r0 3;(focus exact fun _=>rfl);exact rfl;exact rfl;exact rfl;exact rfl;exact rfl;(focus first|assumption|omega|fail))|fail):bQ P G x o kd d:=h.still ho hy (iK ha)
theorem ajo {op:BinOp} {t t':TypeId} {z:Operand} {u u' r:Value} (ho:o.op = .binOp op t y z t':=by exact rfl) (hy:aE x y = .v u:=by first|exact ot|exact bV|fail) (hz:aE x z = .v u':=by first|exact ot|exact bV|fail)
  (hb:kQ P op t u u' r:=by first|exact SR|exact SN|exact SS|exact SP|exact SO|exact SQ|(apply kr;(focus exact wrap_i64 w4 w4))|(apply gY;(focus exact wrap_i64 w4 w4))|(apply JC;(focus exact wrap_i64 w4 w4))|exact QR|exact QS|exact acv|exact acw|exact acy|exact acz|(apply JE;(focus omega))|fail):bQ P G x o .none (.v r):=dz ho hy hz hb
theorem iy_ {z:Operand} {k:IntKind} {i:Int} {d d':D} (ho:o.op = .indexAddr t y z:=by exact rfl) (hy:aE x y=d:=by exact ot) (hz:aE x z = .v (.int k i):=by first|exact ot|exact bV) (hs:CU P t sz=true:=by exact Sl.h)
  (h:IX sz i d d':=by first|(apply IX.l;exact rfl;(focus first|assumption|omega|(simp;omega)|fail))|(apply IX.r;exact rfl;(focus first|assumption|omega|(simp;omega)|fail))|(apply IX.l;(focus exact(Int.toNat_of_nonneg w4).symm);(focus omega))|(apply IX.r;(focus exact(Int.toNat_of_nonneg w4).symm);(focus omega))|fail):bQ P G x o .none d':=dw sz ho hy hz hs h
def fvQ(P:Program)(s i:Nat):Bool:=match P.underlying s with
 | some (.struct fs)=>match fs[i]? with
  | some f=>qW P f.type false
  | none=>false
 | _=>false
theorem agc:jx x [] []:=trivial
theorem aew{d:D}(hy:aE x y=d)(h:jx x ps pl):jx x ((k,y)::ps) ((k,d)::pl):=⟨rfl,hy,h⟩
theorem pt_(h:jx x ps pl:=by repeat (first|exact agc|(apply aew;(focus first|exact ot|exact bV|exact tI|fail)))):jx x ps pl:=h
theorem bd_ {pq:List (Nat×Nat)} {m:List D} (ho:o.op = .build t ps.toArray:=by exact rfl) (hz:sE P t=some zs:=by exact Sb.hz) (hp:E2 P t=some (pq.map fun p=>(p.1,some p.2)):=by exact Sb.hp)
  (gX:jx x ps pl:=by exact pt_) (hj:pl.all (fun p=>kR p.2)=true:=by exact rfl) (hs:qV P t sz=true:=by exact Sz.h) (hd:mu (pq.toArray[·]?) (zs.map .v) pl=some m:=by exact rfl) (hl:Nat.beq m.length sz=true:=by exact rfl) (hk:mC sz m ds:=by exact nA):bQ P G x o .none (.agg ds):=by
 obtain⟨z,h1,h2⟩:=Bn hz;obtain⟨fs,h3,h4⟩:=aa0 hp;rw[hk.whole hl] at hd;exact nO ho h1 h3 h4 gX hj (by rw[h2];exact hd)
def Nq(P:Program)(t:Nat):Bool:=match P.underlying t with
 | some .string=>true
 | _=>false
theorem ahP(h:Nq P t=true):∀w,(underlying t).run P w = .ok .string w:=by
 unfold Nq at h;split at h
 ·rename_i E;exact run_underlying E
 cases h
def C2(P:Program)(t:Nat)(k:IntKind):Bool:=match P.underlying t with
 | some (.int a)=>decide (a=k)
 | _=>false
class Ik (P:Program) (t:Nat) (k:outParam IntKind):Prop where h:C2 P t k=true
theorem U9{k:IntKind}(h:C2 P t k=true):∀w,(underlying t).run P w = .ok (.int k) w:=by
 unfold C2 at h;split at h
 ·rename_i a h1;obtain rfl:=of_decide_eq_true h;exact run_underlying h1
 cases h
theorem cv_{s:TypeId}{k0 k k':IntKind}{a r:Int}(ho:o.op = .convert s t y:=by exact rfl)(hy:aE x y = .v (.int k a):=by exact ot)(hc:C2 P s k0=true:=by exact Ik.h)(uM:C2 P t k'=true:=by exact Ik.h)(h:k'.wrap a=r:=by first|exact wrap_i64 w4 w4|exact rfl):bQ P G x o .none (.v (.int k' r)) :=
 oX ho hy (oY (U9 hc) (U9 uM) h)
theorem lr_{s:ByteArray}{ts:Array TypeId}(ho:o.op = .call {callee:=.builtin .len,args:=#[y],argTypes:=ts}:=by exact rfl)(ht:ts = #[t]:=by exact rfl)(hy:aE x y = .v (.string s):=by exact ot)(hs:Nq P t=true:=by kernel_rfl):bQ P G x o .none (.v (.int .i64 (s.size:Nat))):=D7 ho ht hy (ahP hs)
def tmpsOf:List Operand→List Nat
 | []=>[]
 | .tmp t::r=>t::tmpsOf r
 | _::r=>tmpsOf r
def opsOf:Op→List Operand
 | .move x|.assign x|.nilCheck x|.unOp _ _ x|.convert _ _ x|.fieldAddr _ x _|.field _ x _|.load _ x|.extract x _=>[x]
 | .pick c a b=>[c,a,b]
 | .binOp _ _ a b _|.indexAddr _ a b|.index _ a b|.lookup _ a b _=>[a,b]
 | .slice _ x lo hi mx=>x::(lo.toList++hi.toList++mx.toList)
 | .build _ ps|.buildSlice _ _ ps=>ps.toList.map (·.2)
 | .makeFunc _ _ c=>c.toList
 | .call c=>match c.callee with
  | .value f=>f::c.args.toList
  | _=>c.args.toList
 | _=>[]
def Wf(ops:Array Oper)(o:Oper):List Nat:=match o.guard with
 | some (g,_)=>(match ops[g]? with
  | some p=>p.dst.toList
  | none=>[])
 | none=>[]
def kC(ops:Array Oper)(o:Oper):List Nat:=Wf ops o++tmpsOf (opsOf o.op)
theorem jB{ts:List Nat}(h:fE ts e l':=by repeat (first|exact fE.nil|(apply fE.cons;(focus exact lk)))):fE ts e l':=h
theorem pB{x:St}(h:bY ops x o true:=by first|exact sc rfl|exact tV rfl rfl rfl lk jn|fail):bY ops x o true:=h
theorem Nr{x:St}(h:bY ops x o false:=by first|exact mH rfl rfl rfl lk jn|exact Jz (b:=false) rfl rfl rfl lk|fail):bY ops x o false:=h
def PE(c:Bool)(P:Program)(G:List (Nat×List Value))(n:Nat)(S:List ah)(ops:Array Oper)(ts:List Nat)(l:List Oper)(e:List (Nat×D))(R:List (Nat×D)→Prop):Prop:=∃e' l',PD c P G n S ops l e [] e'∧fE ts e' l'∧R l'
variable {R:List (Nat×D)→Prop}
theorem jb(K:R l')(h:fE ts e l':=by exact jB):PE c P G n S ops ts [] e R:=⟨e,l',.nil,h,K⟩
theorem PE.cons{lr:List (Nat×D)}{E:List Nat}(hd:o.dst=some t)(hr:fE E e lr)(hq:(!c||nE ops o E)=true)(hw:bY ops ⟨n,lr,S⟩ o true)(h:fN P G ⟨n,lr,S⟩ o [] (fun y=>y=⟨n,(t,d)::lr,S⟩))(K:PE c P G n S ops ts l ((t,d)::e) R):PE c P G n S ops ts (o::l) e R:=by
 obtain⟨e',l',h1,h2⟩:=K;exact⟨e',l',.cons hd hr hq hw h h1,h2⟩
theorem Yd(hd:o.dst=some t:=by exact rfl)(hr:fE (kC ops o) e lr:=by exact jB)(h:bQ P G ⟨n,lr,S⟩ o kd d)(K:PE c P G n S ops ts l ((t,d)::e) R)(hq:(!c||nE ops o (kC ops o))=true:=by kernel_rfl)(hw:bY ops ⟨n,lr,S⟩ o true:=by exact pB):PE c P G n S ops ts (o::l) e R:=.cons hd hr hq hw (h.fV hd) K
def xy(P:Program)(f:Nat):Bool:=match P.funcs[f]? with
 | some fn => !(fn.name == "runtime.NumGoroutine") && fn.body.isSome
 | none=>false
theorem Uv{f:Nat}(h:xy P f=true):∀args w,(callFunc f args).run P w = .ok (.enter f args) w:=by
 unfold xy at h;split at h
 ·rename_i fn hf;rw[Bool.and_eq_true] at h;obtain⟨h1,h2⟩:=h;obtain⟨c,hc⟩:=Option.isSome_iff_exists.1 h2;exact enters_of hf (by simpa using h1) hc
 cases h
theorem pc_ {f:Nat} {args:List D} {r:D} (hc:VP P G f args r) (K:PE c P G n S ops ts l ((t,r)::e) R) (ho:o.op = .call {callee:=.value fo,args:=cX,argTypes:=tt}:=by exact rfl)
  (hd:o.dst=some t:=by exact rfl) (hr:fE (kC ops o) e lr:=by exact jB) (hq:(!c||nE ops o (kC ops o))=true:=by kernel_rfl) (hw:bY ops ⟨n,lr,S⟩ o true:=by exact pB) (hf:fo = .func f:=by exact rfl) (fg:xy P f=true:=by kernel_rfl) (ha:mS ⟨n,lr,S⟩ cX.toList args:=by exact C1):PE c P G n S ops ts (o::l) e R:=by
 refine .cons hd hr hq hw ?_ K;intro C a w K Q hG hs hK;refine A9 ho hd hf (Uv fg) ha.eq (eV _) hc C a w K Q hG hs fun y a' w' hy E uM I=>?_;obtain⟨r',S',⟨rfl,rfl⟩,rfl⟩:=hy;exact hK _ a' w' rfl E uM I
theorem agd{x:St}:jx x [] (cf k []):=trivial
theorem aex{x:St}{d:D}{pd:List D}(hy:aE x y=d)(h:jx x ps (cf (k+1) pd)):jx x ((k,y)::ps) (cf k (d::pd)):=⟨rfl,hy,h⟩
theorem Hl{x:St}{pd:List D}(h:jx x ps (cf k pd):=by repeat (first|exact agd|(apply aex;(focus first|exact ot|exact bV|exact tI|fail)))):jx x ps (cf k pd):=h
def xz(P:Program)(t sz:Nat):Bool:=match P.underlying t with
 | some (.slice e)=>qV P e sz&&(sE P e).isSome && !(isMap e)
 | _=>false
class tv (P:Program) (t:Nat) (sz:outParam Nat):Prop where h:xz P t sz=true
theorem age(h:xz P t sz=true):∃e z,(∀w,(underlying t).run P w = .ok (.slice e) w)∧(∀w,(sizeOf e).run P w = .ok sz w)∧(∀w,(zeroValue e).run P w = .ok z w)∧isMap e=false:=by
 unfold xz at h;split at h
 ·rename_i e E;simp only[Bool.and_eq_true,Bool.not_eq_true'] at h;obtain⟨⟨h1,h2⟩,h3⟩:=h;obtain⟨zs,h4⟩:=Option.isSome_iff_exists.1 h2;obtain⟨z,h5,_⟩:=Bn h4;exact⟨e,z,run_underlying E,lR h1,h5,h3⟩
 cases h
theorem ZK{pd:List D}(h:pd.all kR=true):∀k,(cf k pd).all (fun p=>kR p.2)=true:=by
 induction pd with
 | nil=>intro k;rfl
 | cons a r ih =>
  intro k;rw[all_cons,Bool.and_eq_true] at h;rw[cf,all_cons,Bool.and_eq_true];exact⟨h.1,ih h.2 _⟩
theorem acH {len:Nat} {pd:List D} (ho:o.op = .buildSlice t' len ps.toArray) (hd:o.dst=some t) (hs:xz P t' sz=true) (gX:jx x ps (cf 0 pd)) (hn:Nat.beq pd.length len=true) (hl:Nat.ble 1 (len*sz)=true) (ir:Nat.ble (len*sz) (2 ^ 24)=true)
  (hj:pd.all kR=true) (ha:(pd.all fun d=>Nat.beq (cellsOf d).length sz)=true) (jq:pd.flatMap cellsOf=ds):fN P G x o [] (fun y=>y=x.put t (.list sz ds len)):=by
 obtain⟨e,z,hu,iu,hz,hne⟩:=age hs;have hlen:pd.length=len:=Nat.eq_of_beq_eq_true hn;have yf:ds.length=len*sz:=by
  rw[←jq,←hlen];clear gX hn hlen jq hj;induction pd with
  | nil=>simp
  | cons a r ih =>
   rw[all_cons,Bool.and_eq_true] at ha;rw[flatMap_cons,length_append,ih ha.2,Nat.eq_of_beq_eq_true ha.1,length_cons,Nat.succ_mul,Nat.add_comm]
 intro C a w K Q hG h hK;refine HQ (hne:=hne) (zs:=((Array.range (len*sz)).map (fun i=>z.cells[i % z.cells.size]!)).toList.map .v) (ds:=ds) ho hd hz hu iu (Nat.le_of_ble_eq_true hl) (Nat.le_of_ble_eq_true ir) ?_ ?_ ?_ ?_ C a w K Q hG h fun y a' w' hy O uM E=>?_
 ·rw[map_map,Array.toList_map,map_map];apply Array.ext';simp[Function.comp_def]
 ·intro d hd;obtain⟨u,_,rfl⟩:=mem_map.1 hd;exact⟨u,rfl⟩
 ·rw[gX.eq];exact AS (ZK hj 0)
 ·rw[gX.eq];exact Px ha (by rw[hlen];simp) jq
 obtain⟨b,rfl⟩:=hy;have I:len≤maxLen:=by
  have h1:=Nat.le_of_ble_eq_true hl;have h2:=Nat.le_of_ble_eq_true ir;have h3:1≤sz:=Nat.pos_of_ne_zero fun h0=>by rw[h0] at h1;omega
  have h4:len*1≤len*sz:=Nat.mul_le_mul_left _ h3;have:maxLen=9223372036854775807:=rfl;omega
 have hg:=Wk.vv (hne:=hne) (k:=0) (t:=t) (sz:=sz) (m:=len) (cap:=len) (B:=⟨b,e,ds.length,ds⟩) (n:=x.n) (l:=(t,.v (.slice (some ⟨b,0,none⟩) len len))::x.env) (S:=⟨b,e,ds.length,ds⟩::x.S) (cs:=ds) rfl fu rfl yf (Nat.le_refl _) I;refine hK (x.put t (.list sz ds len)) a' w' rfl ?_ uM ?_
 ·have h1:=hg C a' w' O;refine⟨h1.defers,h1.size,fun q hq=>?_,h1.own,h1.fr,h1.ex,h1.eL⟩;have h2:=h1.env q hq;simp only[fS] at h2;simp only[St.put,fS];by_cases e1:t=q
  ·rw[if_pos e1] at h2 ⊢;exact h2
  rw[if_neg e1] at h2 ⊢;rw[if_neg e1] at h2;exact h2
 exact⟨E.os,E.tape,E.output,E.size,fun U h1 h2=>⟨(E.block U h1 h2).1,fun h3=>(E.block U h1 h2).2 (mem_cons_of_mem _ h3)⟩⟩
theorem Ye {len:Nat} {pd:List D} (K:PE c P G n S ops ts l ((t,.list sz ds len)::e) R) (ho:o.op = .buildSlice t' len ps.toArray:=by exact rfl)
  (hd:o.dst=some t:=by exact rfl) (hr:fE (kC ops o) e lr:=by exact jB) (gX:jx ⟨n,lr,S⟩ ps (cf 0 pd):=by exact Hl) (hs:xz P t' sz=true:=by exact tv.h) (hq:(!c||nE ops o (kC ops o))=true:=by kernel_rfl) (hw:bY ops ⟨n,lr,S⟩ o true:=by exact pB)
  (hn:Nat.beq pd.length len=true:=by exact rfl) (hl:Nat.ble 1 (len*sz)=true:=by exact rfl) (ir:Nat.ble (len*sz) (2 ^ 24)=true:=by exact rfl) (hj:pd.all kR=true:=by exact rfl) (ha:(pd.all fun d=>Nat.beq (cellsOf d).length sz)=true:=by exact rfl) (jq:pd.flatMap cellsOf=ds:=by exact rfl):PE c P G n S ops ts (o::l) e R:=.cons hd hr hq hw (acH ho hd hs gX hn hl ir hj ha jq) K
theorem Ns {α:Type} {g:α→List D} (ls:List α) {len:Nat} {pd:List D} (K:PE c P G n S ops ts l ((t,.list sz (ls.flatMap g) ls.length)::e) R) (ho:o.op = .buildSlice t' len ps.toArray:=by exact rfl)
  (hd:o.dst=some t:=by exact rfl) (hr:fE (kC ops o) e lr:=by exact jB) (gX:jx ⟨n,lr,S⟩ ps (cf 0 pd):=by exact Hl) (hs:xz P t' sz=true:=by exact tv.h) (hq:(!c||nE ops o (kC ops o))=true:=by kernel_rfl) (hw:bY ops ⟨n,lr,S⟩ o true:=by exact pB)
  (hn:Nat.beq pd.length len=true:=by exact rfl) (hl:Nat.ble 1 (len*sz)=true:=by exact rfl) (ir:Nat.ble (len*sz) (2 ^ 24)=true:=by exact rfl) (hj:pd.all kR=true:=by exact rfl) (ha:(pd.all fun d=>Nat.beq (cellsOf d).length sz)=true:=by exact rfl) (hlen:len=ls.length:=by exact rfl) (jq:pd.flatMap cellsOf=ls.flatMap g:=by exact rfl):PE c P G n S ops ts (o::l) e R:=by
 subst hlen;exact Ye K ho hd hr gX hs hq hw hn hl ir hj ha jq
theorem Nt{x:St}(h:bQ P G x o kd d:=by first|exact bF|exact fb_|exact lc_|exact ajn|exact ajo|exact iy_|exact Na|exact x7|exact qb|exact xu|exact vr|exact lm|exact bd_|exact cv_|exact lr_|exact fv_|exact C0|fail):bQ P G x o kd d:=h
structure PK (k:Nat) (P:Program) (G:List (Nat×List Value)) (n:Nat) (S:List ah) (ops:Array Oper) (l:List Oper) (e:List (Nat×D)) (l2:List Oper) (e':List (Nat×D)):Prop where
 h:PD false P G n S ops l e l2 e'
theorem PK.z:PK 0 P G n S ops l e l e:=⟨.nil⟩
theorem PK.s(hd:o.dst=some t)(hr:fE (kC ops o) e lr)(hw:bY ops ⟨n,lr,S⟩ o true)(h:bQ P G ⟨n,lr,S⟩ o kd d)(K:PK k P G n S ops l ((t,d)::e) l2 e'):PK (k+1) P G n S ops (o::l) e l2 e':=⟨.cons hd hr rfl hw (h.fV hd) K.h⟩
theorem PK.f(hd:o.dst=some t)(hr:fE (Wf ops o) e lr)(hw:bY ops ⟨n,lr,S⟩ o false)(K:PK k P G n S ops l ((t,.v (.tuple #[]))::e) l2 e'):PK (k+1) P G n S ops (o::l) e l2 e':=⟨.skip hd hr rfl hw K.h⟩
theorem C3(h:PK k P G n S ops l e l2 e':=by repeat (first|exact PK.z|(apply PK.s;exact rfl;(focus exact jB);(focus exact pB);(focus exact Nt))|(apply PK.f;exact rfl;(focus exact jB);(focus exact Nr)))):PK k P G n S ops l e l2 e':=h
theorem aF(k:Nat)(K:OD P C ops l2 ⟨n,e',S⟩ Q)(h:PK k P C.G n S ops l e l2 e':=by exact C3):OD P C ops l ⟨n,e,S⟩ Q:=h.h.od K
theorem aB{d:Code}(k:Nat)(K:OD P C l.toArray l2 ⟨n,e',S⟩ (B8 P C d Q))(h0:CD P C (.seq (.region id l.toArray false) d) ⟨n,e,S⟩ Q→p:=by exact nK)(h:PK k P C.G n S l.toArray l e l2 e':=by exact C3):p:=h0 (CD.seq (CD.region (h.h.od K)))
theorem dK(k:Nat)(K:OD P C l.toArray l2 ⟨n,e',S⟩ Q)(h0:CD P C (.region id l.toArray false) ⟨n,e,S⟩ Q→p:=by exact nK)(h:PK k P C.G n S l.toArray l e l2 e':=by exact C3):p:=h0 (CD.region (h.h.od K))
theorem x5(k:Nat)(K:OD P C ops l2 ⟨n,e',S⟩ Q)(h:PK k P C.G n S ops l e l2 e':=by repeat (first|exact PK.z|(apply PK.f;exact rfl;(focus exact jB);(focus exact mH rfl rfl rfl lk jn)))):OD P C ops l ⟨n,e,S⟩ Q:=h.h.od K
theorem bq(ts:List Nat)(K:Q .normal ⟨n,l',S⟩)(h:PK k P C.G n S ops l e [] e':=by exact C3)(hr:fE ts e' l':=by exact jB):OD P C ops l ⟨n,e,S⟩ Q:=h.h.od (XS ts K hr)
theorem cL{d:Code}(ts:List Nat)(h:PE c P C.G n S l.toArray ts l e fun l'=>CD P C d ⟨n,l',S⟩ Q)(h0:CD P C (.seq (.region id l.toArray c) d) ⟨n,e,S⟩ Q→p:=by exact nK)(hm:(!c||P.follows .mixedOrders)=true:=by kernel_rfl)(hp:(!c||mB l.toArray)=true:=by kernel_rfl):p:=by
 obtain⟨e',l',h1,h2,K⟩:=h;exact h0 (CD.seq (CD.pd (by intro hc;subst hc;simpa using hm) (by intro hc;subst hc;simpa using hp) h1 (CD.wk (Wk.kz h2.kz) K)))
def WC(Q:Exit→St→Prop):Prop:=∀n e l' S,ny e l'→Q .normal ⟨n,l',S⟩→Q .normal ⟨n,e,S⟩
theorem WC.then{d:Code}:WC (B8 P C d Q):=fun n e l' S h k=>CD.wk (Wk.kz h) k
theorem WC.cut{E:St→Prop}:WC (M8 E Q):=fun n e l' S h ⟨z,h1,h2⟩=>⟨z,(Wk.kz h).trans h1,h2⟩
theorem WC.round{ι:Type}{I:ι→St→Prop}{μ:ι→Nat}{i:ι}:WC (BL I μ i Q):=fun n e l' S h ⟨j,z,h1,h2,h3⟩=>⟨j,z,h1,(Wk.kz h).trans h2,h3⟩
theorem WC.inBlock(h:WC Q):WC (Bk id Q):=h
theorem WC.body:WC (Body P fn post):=fun n e l' S h ⟨h1,r,S',h2,h3,h4⟩=>⟨h1,r,S',h2,fun C a w hs=>h3 C a w (Wk.kz h C a w hs),h4⟩
theorem Yf(h:WC Q:=by repeat (first|exact WC.then|exact WC.cut|exact WC.round|exact WC.body|apply WC.inBlock)):WC Q:=h
theorem ik(ts:List Nat)(h:PE c P C.G n S l.toArray ts l e fun l'=>Q .normal ⟨n,l',S⟩)(h0:CD P C (.region id l.toArray c) ⟨n,e,S⟩ Q→p:=by exact nK)(hm:(!c||P.follows .mixedOrders)=true:=by kernel_rfl)(hp:(!c||mB l.toArray)=true:=by kernel_rfl)(hQ:WC Q:=by exact Yf):p:=by
 obtain⟨e',l',h1,h2,K⟩:=h;exact h0 (CD.pd (by intro hc;subst hc;simpa using hm) (by intro hc;subst hc;simpa using hp) h1 (hQ _ _ _ _ h2.kz K))
structure PL (k:Nat) (c:Bool) (P:Program) (G:List (Nat×List Value)) (n:Nat) (S:List ah) (ops:Array Oper) (ts:List Nat) (l:List Oper) (e:List (Nat×D)) (l2:List Oper) (e':List (Nat×D)):Prop where
 h:∀R,PE c P G n S ops ts l2 e' R→PE c P G n S ops ts l e R
theorem JG{pd:List D}{len:Nat}(hn:Nat.beq pd.length len=true)(ha:(pd.all fun d=>Nat.beq (cellsOf d).length sz)=true):Nat.beq (pd.flatMap cellsOf).length (len*sz)=true:=by
 have:(pd.flatMap cellsOf).length=pd.length*sz:=by
  clear hn;induction pd with
  | nil=>simp
  | cons a r ih =>
   rw[all_cons,Bool.and_eq_true] at ha;rw[flatMap_cons,length_append,ih ha.2,Nat.eq_of_beq_eq_true ha.1,length_cons,Nat.succ_mul,Nat.add_comm]
 rw[this,Nat.eq_of_beq_eq_true hn];exact Nat.beq_refl _
theorem PL.z:PL 0 c P G n S ops ts l e l e:=⟨fun _ h=>h⟩
theorem PL.s(hd:o.dst=some t)(hr:fE (kC ops o) e lr)(hw:bY ops ⟨n,lr,S⟩ o true)(h:bQ P G ⟨n,lr,S⟩ o kd d)(hq:(!c||nE ops o (kC ops o))=true)(K:PL k c P G n S ops ts l ((t,d)::e) l2 e'):PL (k+1) c P G n S ops ts (o::l) e l2 e':=⟨fun R h1=>Yd hd hr h (K.h R h1) hq hw⟩
theorem PL.r {len:Nat} {pd:List D} (ho:o.op = .buildSlice t' len ps.toArray) (hd:o.dst=some t) (hr:fE (kC ops o) e lr) (gX:jx ⟨n,lr,S⟩ ps (cf 0 pd)) (hs:xz P t' sz=true) (hw:bY ops ⟨n,lr,S⟩ o true)
  (hn:Nat.beq pd.length len=true) (hl:Nat.ble 1 (len*sz)=true) (ir:Nat.ble (len*sz) (2 ^ 24)=true) (hj:pd.all kR=true) (ha:(pd.all fun d=>Nat.beq (cellsOf d).length sz)=true) (hq:(!c||nE ops o (kC ops o))=true) (jq:mC (len*sz) (pd.flatMap cellsOf) ds) (K:PL k c P G n S ops ts l ((t,.list sz ds len)::e) l2 e'):PL (k+1) c P G n S ops ts (o::l) e l2 e' :=
 ⟨fun R h1=>Ye (K.h R h1) ho hd hr gX hs hq hw hn hl ir hj ha (jq.whole (JG hn ha))⟩
theorem zN(h:PL k c P G n S ops ts l e l2 e':=by repeat (first|exact PL.z|(apply PL.s;exact rfl;(focus exact jB);(focus exact pB);(focus exact Nt);(focus kernel_rfl))|(apply PL.f;exact rfl;(focus exact jB);(focus exact Nr);(focus kernel_rfl))|(apply PL.r;exact rfl;exact rfl;(focus exact jB);(focus exact Hl);(focus exact tv.h);(focus exact pB);(iterate 5 (focus exact rfl));(focus kernel_rfl);(focus exact nA)))):PL k c P G n S ops ts l e l2 e':=h
theorem mg(k:Nat)(K:PE c P G n S ops ts l2 e' R)(h:PL k c P G n S ops ts l e l2 e':=by exact zN):PE c P G n S ops ts l e R:=h.h R K
theorem aS(k:Nat)(K:PE c P G n S ops ts l2 ((t,d)::e') R)(h1:PL k c P G n S ops ts l e (o::l2) e':=by exact zN)(hd:o.dst=some t:=by exact rfl)(hr:fE (kC ops o) e' lr:=by exact jB)(h:bQ P G ⟨n,lr,S⟩ o kd d)(hq:(!c||nE ops o (kC ops o))=true:=by kernel_rfl)(hw:bY ops ⟨n,lr,S⟩ o true:=by exact pB):PE c P G n S ops ts l e R:=h1.h R (Yd hd hr h K hq hw)
theorem Yg(h:PL k c P G n S ops ts l e l2 e':=by (repeat (first|(apply PL.s;exact rfl;(focus exact jB);(focus exact pB);(focus exact Nt);(focus kernel_rfl))|(apply PL.f;exact rfl;(focus exact jB);(focus exact Nr);(focus kernel_rfl))|(apply PL.r;exact rfl;exact rfl;(focus exact jB);(focus exact Hl);(focus exact tv.h);(focus exact pB);(iterate 5 (focus exact rfl));(focus kernel_rfl);(focus exact nA))|fail));exact PL.z):PL k c P G n S ops ts l e l2 e':=h
theorem cH {f:Nat} {args:List D} {r:D} (hc:VP P G f args r) (K:PE c P G n S ops ts l2 ((t,r)::e') R) (h1:PL k c P G n S ops ts l e (o::l2) e':=by exact Yg) (ho:o.op = .call {callee:=.value fo,args:=cX,argTypes:=tt}:=by exact rfl)
  (hd:o.dst=some t:=by exact rfl) (hr:fE (kC ops o) e' lr:=by exact jB) (hq:(!c||nE ops o (kC ops o))=true:=by kernel_rfl) (hw:bY ops ⟨n,lr,S⟩ o true:=by exact pB) (hf:fo = .func f:=by exact rfl) (fg:xy P f=true:=by kernel_rfl) (ha:mS ⟨n,lr,S⟩ cX.toList args:=by exact C1):PE c P G n S ops ts l e R:=h1.h R (pc_ hc K ho hd hr hq hw hf fg ha)
theorem bI(K:R l')(h:PL k c P G n S ops ts l e [] e':=by exact zN)(hr:fE ts e' l':=by exact jB):PE c P G n S ops ts l e R:=h.h R (jb K hr)
theorem af{d:Code}(ts:List Nat)(K:CD P C d ⟨n,l',S⟩ Q)(h0:CD P C (.seq (.region id l.toArray c) d) ⟨n,e,S⟩ Q→p:=by exact nK)(h:PL k c P C.G n S l.toArray ts l e [] e':=by exact zN)(hr:fE ts e' l':=by exact jB)(hm:(!c||P.follows .mixedOrders)=true:=by kernel_rfl)(hp:(!c||mB l.toArray)=true:=by kernel_rfl):p:=cL ts (h.h _ (jb K hr)) h0 hm hp
theorem cz {k2 f:Nat} {d':Code} {args:List D} {r:D} {e2:List (Nat×D)} (ts:List Nat) (hc:VP P G f args r) (K:CD P C d' ⟨n,l',S⟩ Q) (h0:CD P C (.seq (.region id l.toArray c) d') ⟨n,e,S⟩ Q→p:=by exact nK) (hG:C.G=G:=by exact rfl) (h1:PL k c P G n S l.toArray ts l e (o::l2) e':=by exact Yg) (ho:o.op = .call {callee:=.value fo,args:=cX,argTypes:=tt}:=by exact rfl)
  (hd:o.dst=some t:=by exact rfl) (hr:fE (kC l.toArray o) e' lr:=by exact jB) (hq:(!c||nE l.toArray o (kC l.toArray o))=true:=by kernel_rfl) (hw:bY l.toArray ⟨n,lr,S⟩ o true:=by exact pB) (hf:fo = .func f:=by exact rfl) (fg:xy P f=true:=by kernel_rfl) (ha:mS ⟨n,lr,S⟩ cX.toList args:=by exact C1)
  (h2:PL k2 c P G n S l.toArray ts l2 ((t,r)::e') [] e2:=by exact zN) (hs:fE ts e2 l':=by exact jB) (hm:(!c||P.follows .mixedOrders)=true:=by kernel_rfl) (hp:(!c||mB l.toArray)=true:=by kernel_rfl):p:=by
 subst hG;exact cL ts (cH hc (bI K h2 hs) h1 ho hd hr hq hw hf fg ha) h0 hm hp
theorem cc(ts:List Nat)(K:Q .normal ⟨n,l',S⟩)(h0:CD P C (.region id l.toArray c) ⟨n,e,S⟩ Q→p:=by exact nK)(h:PL k c P C.G n S l.toArray ts l e [] e':=by exact zN)(hr:fE ts e' l':=by exact jB)(hm:(!c||P.follows .mixedOrders)=true:=by kernel_rfl)(hp:(!c||mB l.toArray)=true:=by kernel_rfl)(hQ:WC Q:=by exact Yf):p:=ik ts (h.h _ (jb K hr)) h0 hm hp hQ
inductive BP:Bool→Prop→Prop→Prop
 | lt {a b:Int}:BP (decide (a<b)) (a<b) (b≤a)
 | le {a b:Int}:BP (decide (a≤b)) (a≤b) (b<a)
 | gt {a b:Int}:BP (decide (a>b)) (a>b) (a≤b)
 | ge {a b:Int}:BP (decide (a≥b)) (a≥b) (a<b)
 | eq {a b:Int}:BP (a==b) (a=b) (¬a=b)
 | ne {a b:Int}:BP (a != b) (¬a=b) (a=b)
 | beq {a b:Bool}:BP (a==b) (a=b) (¬a=b)
 | bne {a b:Bool}:BP (a != b) (¬a=b) (a=b)
 | dec {p:Prop} [Decidable p]:BP (decide p) p (¬p)
 | nn {b:Bool} {p q:Prop} (h:BP b p q):BP (!!b) p q
 | no {b:Bool} {p q:Prop} (h:BP b p q):BP (!b) q p
 | any {b:Bool}:BP b (b=true) (b=false)
theorem BP.ok(h:BP b p q):(b=true→p)∧(b=false→q):=by
 induction h with
 | lt=>exact⟨of_decide_eq_true,fun h=>Int.not_lt.1 (of_decide_eq_false h)⟩
 | le=>exact⟨of_decide_eq_true,fun h=>Int.not_le.1 (of_decide_eq_false h)⟩
 | gt=>exact⟨of_decide_eq_true,fun h=>Int.not_lt.1 (of_decide_eq_false h)⟩
 | ge=>exact⟨of_decide_eq_true,fun h=>Int.not_le.1 (of_decide_eq_false h)⟩
 | eq=>exact⟨by simp,by simp⟩
 | ne=>exact⟨by simp,by simp⟩
 | beq=>exact⟨by simp,by simp⟩
 | bne=>exact⟨by simp,by simp⟩
 | dec=>exact⟨of_decide_eq_true,of_decide_eq_false⟩
 | nn h ih=>exact⟨fun e=>ih.1 (by simpa using e),fun e=>ih.2 (by simpa using e)⟩
 | no h ih=>exact⟨fun e=>ih.2 (by simpa using e),fun e=>ih.1 (by simpa using e)⟩
 | any=>exact⟨id,id⟩
theorem Yh(h:BP b p q:=by first|exact .lt|exact .le|exact .eq|exact .ne|exact .gt|exact .ge|exact .beq|exact .bne|exact .dec|(apply BP.nn;focus (first|exact .lt|exact .le|exact .eq|exact .ne|exact .gt|exact .ge|exact .dec|exact .any))|(apply BP.no;focus (first|exact .lt|exact .le|exact .eq|exact .ne|exact .gt|exact .ge|exact .dec|exact .any))|exact .any):BP b p q:=h
theorem aq{z:Operand}{d1 d2:Code}{r:Prop}(ht:b=true→p→CD P C d1 x Q)(hf:b=false→q→CD P C d2 x Q)(h0:CD P C (.cond z d1 d2) x Q→r:=by exact nK)(hc:aE x z = .v (.bool b):=by exact ot)(h:BP b p q:=by exact Yh):r:=h0 (CD.cond hc (fun e=>ht e (h.ok.1 e)) (fun e=>hf e (h.ok.2 e)))
theorem bP(t:Nat)(h1:b=true→p→OD P C ops l x Q)(h2:b=false→q→OD P C ops l x Q)(hb:look t x.env = .v (.bool b):=by exact lk)(h:BP b p q:=by exact Yh):OD P C ops l x Q:=OD.split hb (fun e=>h1 e (h.ok.1 e)) (fun e=>h2 e (h.ok.2 e))
inductive NS:List ah→List ah→Prop
 | r {S:List ah}:NS S S
 | c {b e sz:Nat} {cs cs':List D} {S S':List ah} (hl:Nat.beq cs.length sz=true) (h:mC sz cs cs') (k:NS S S'):NS (⟨b,e,sz,cs⟩::S) (⟨b,e,sz,cs'⟩::S')
 | k {B:ah} {S S':List ah} (k:NS S S'):NS (B::S) (B::S')
theorem NS.eq{S:List ah}(h:NS S S'):S=S':=by
 induction h with
 | r=>rfl
 | c hl h k ih=>rw[h.whole hl,ih]
 | k k ih=>rw[ih]
theorem ns_{S:List ah}(h:NS S S':=by repeat (first|(apply NS.c;exact rfl;(focus exact nA))|apply NS.k|exact NS.r)):NS S S':=h
theorem an(m:Nat)(ts:List Nat)(K:Q .normal ⟨m,l',S'⟩)(h:PK k P C.G n S ops l e [] e':=by exact C3)(hr:fE ts e' l':=by exact jB)(hS:NS S S':=by exact ns_)(hn:n=m:=by exact rfl):OD P C ops l ⟨n,e,S⟩ Q:=h.h.od (OD.wk (Wk.dG hn hS.eq hr.kz) (OD.nil K))
theorem Yi{α:Type}{a b:List α}(h:a.Sublist b:=by repeat (first|exact Sublist.refl _|exact nil_sublist _|apply Sublist.cons_cons|apply Sublist.cons)):a.Sublist b:=h
theorem ajp{l:List (Nat×D)}(h:look t l=d:=by (repeat (first|exact fu|(apply fT;focus (first|rfl|(simp;done)|(congr 2;omega)|(apply eG;first|rfl|assumption|(simp;done))))|(apply fC;focus rfl)));first|done|fail):look t l=d:=h
theorem ajq{l':List (Nat×D)}(h:ny e l':=by repeat (first|exact trivial|refine⟨ajp,?_⟩)):ny e l':=h
theorem aK{x:St}{n:Nat}(hn:x.n=n:=by exact rfl)(hS:S'.Sublist x.S:=by exact Yi)(h:ny x.env l':=by exact ajq):Wk x ⟨n,l',S'⟩:=Wk.asS hn hS h
theorem cq{a b:Nat}(h:a<b:=by first|omega|(simp only[];omega)|(simp;omega)):a<b:=h
theorem eA{c:Code}{ι:Type}{y:St}(ts:List Nat)(I:List (Nat×D)→List ah→ι→St→Prop)(μ:ι→Nat)(i:ι)(h0:I l' S i y)(round:∀i y,I l' S i y→CD P C c y (BL (I l' S) μ i Q))(hp:CD P C (.loop c) ⟨n,e,S⟩ Q→p:=by exact nK)(hr:fE ts e l':=by exact jB)(hw:Wk ⟨n,e,S⟩ y:=by exact aK):p:=hp (CD.wk hw (CD.loop (I l' S) μ i h0 round))
theorem jV{c d:Code}(ts:List Nat)(I:List (Nat×D)→List ah→St→Prop)(h1:CD P C c ⟨n,e,S⟩ (M8 (I l' S) Q))(h2:∀y,I l' S y→CD P C d y Q)(hr:fE ts e l':=by exact jB):CD P C (.seq c d) ⟨n,e,S⟩ Q:=CD.cut (I l' S) h1 h2
theorem Aw{y:St}{rv:ResultVar}{d:D}(h:th P y rv d:=by first|exact yY aO lk|exact so (k:=0) aO lk rfl rfl (iK az) (lR Sz.h) rfl rfl|exact so (k:=1) aO lk rfl rfl (iK az) (lR Sz.h) rfl rfl|exact so (k:=2) aO lk rfl rfl (iK az) (lR Sz.h) rfl rfl|exact so (k:=3) aO lk rfl rfl (iK az) (lR Sz.h) rfl rfl|exact so (k:=4) aO lk rfl rfl (iK az) (lR Sz.h) rfl rfl|exact so (k:=5) aO lk rfl rfl (iK az) (lR Sz.h) rfl rfl|exact so (k:=6) aO lk rfl rfl (iK az) (lR Sz.h) rfl rfl|exact so (k:=7) aO lk rfl rfl (iK az) (lR Sz.h) rfl rfl|exact so (k:=8) aO lk rfl rfl (iK az) (lR Sz.h) rfl rfl|exact so (k:=9) aO lk rfl rfl (iK az) (lR Sz.h) rfl rfl|exact tK (k:=0) aO lk rfl rfl (iK az) rfl|exact tK (k:=1) aO lk rfl rfl (iK az) rfl|exact tK (k:=2) aO lk rfl rfl (iK az) rfl|exact tK (k:=3) aO lk rfl rfl (iK az) rfl|exact tK (k:=4) aO lk rfl rfl (iK az) rfl|exact tK (k:=5) aO lk rfl rfl (iK az) rfl|exact tK (k:=6) aO lk rfl rfl (iK az) rfl|exact tK (k:=7) aO lk rfl rfl (iK az) rfl|exact tK (k:=8) aO lk rfl rfl (iK az) rfl|exact tK (k:=9) aO lk rfl rfl (iK az) rfl|fail):th P y rv d:=h
theorem rv_{y:St}{r:D}(h:tq P fn y r:=by first|exact qv rfl|exact SL rfl Aw|exact JA rfl Aw Aw|exact aaU rfl Aw Aw Aw|fail):tq P fn y r:=h
theorem aI{ex:Exit}{x:St}{r:D}(S':List ah)(hp:post r S')(h0:Body P fn post ex x→p:=by exact nK)(he:ex = .normal∨ex = .ret:=by first|exact .inr rfl|exact .inl rfl)(hS:S'.Sublist x.S:=by exact Yi)(hr:tq P fn x r:=by exact rv_):p:=h0 ⟨he,r,S',hS,hr,hp⟩

end Go.Proofs.YtdgichenhdikgaaGreatDoor.V
namespace Go.Proofs.YtdgichenhdikgaaGreatDoor.V
open List
open Go.RowKit
variable {P:Program} {C:dy} {G:List (Nat×List Value)} {Q:Exit→St→Prop} {ops:Array Oper} {l l2:List Oper} {o:Oper} {n t:Nat} {d:D} {e e' l':List (Nat×D)} {S S':List ah} {ts:List Nat} {c:Bool} {x:St}
variable {a:Act} {R':Exit→Act→World→Prop} {m id ta:Nat} {ld:Array Bool} {B:List ah} {te:TypeId} {S1:List Nat} {oa:Oper} {zs:List Value}
theorem acI{w:World}{K E:Act→World→Prop}{R:Exit→Act→World→Prop}(h:o.wp P a w K R)(hK:∀a w,K a w→E a w)(hp:∀I a w,R (.panic I) a w→R' (.panic I) a w)(ho:∀a w,R .outgrown a w→R' .outgrown a w):o.wp P a w E R':=by
 unfold Oper.wp at *;generalize (execOp a.eval o).run P w=r at *;cases r with
 | ok z w' =>
  cases z<;>simp only[Oper.upon] at h ⊢ <;>
   first
    | exact hK _ _ h
    | exact Calls.mono h (fun e O he=>by cases e<;>first|exact hK _ _ he|exact hp _ _ _ he|exact(let ⟨a,w,q⟩:=he;⟨a,w,ho a w q⟩))
    | exact Rows.mono h (fun _ _ he=>hK _ _ he)
 | halt z w'=>cases z<;>simp only[Oper.upon] at h ⊢<;>first|exact hp _ _ _ h|exact h
def FT(o:Oper):Bool:=match o.op with
 | .extract _ _=>o.guard.isNone
 | .move _=>o.guard.isNone
 | _=>false
def zA(ops:Array Oper)(j:Nat)(o:Oper):Bool:=FT o&&(range ops.size).all fun k=>Nat.beq k j||(match ops[k]? with
   | some p=>p.after.any (fun e=>Region.binds .any e&&Nat.beq e.on j)||o.after.any (fun e=>Region.binds .any e&&Nat.beq e.on k)||o.apart ops p
   | none=>true)
def C4(o:Oper):List Nat:=o.after.toList.filterMap fun e=>bif Region.binds .any e then some e.on else none
def Cf(ops:Array Oper):Nat→List Nat→List Nat
 | 0,s=>s
 | i+1,s=>Cf ops i (bif s.elem i then (match ops[i]? with|some o=>C4 o|none=>[])++s else s)
theorem S5{o:Oper}{k:Nat}(h:k∈C4 o):∃e∈o.after,Region.binds .any e=true∧e.on=k:=by
 obtain⟨e,he,hk⟩:=mem_filterMap.1 h;cases hb:Region.binds .any e with
 | true=>rw[hb] at hk;exact⟨e,Array.mem_def.2 he,hb,Option.some.inj hk⟩
 | false=>rw[hb] at hk;cases hk
theorem PA{D:Nat→Prop}(E:∀k o,ops[k]?=some o→D k→∀e∈o.after,Region.binds .any e=true→D e.on):∀(i:Nat) (s:List Nat),(∀k∈s,D k)→∀k∈Cf ops i s,D k
 | 0,s,h=>h
 | i+1,s,h=>by
  unfold Cf;refine PA E i _ fun k hk=>?_;cases he:s.elem i with
  | false=>rw[he] at hk;exact h k hk
  | true =>
   rw[he,cond_true] at hk;rcases mem_append.1 hk with hk|hk
   ·cases ho:ops[i]? with
    | none=>rw[ho] at hk;cases hk
    | some o =>
     rw[ho] at hk;obtain⟨e,h1,h2,h3⟩:=S5 hk;rw[←h3];exact E i o ho (h i (elem_iff.1 he)) e h1 h2
   exact h k hk
def qG(m:Nat)(ops:Array Oper):Bool:=(range ops.size).all fun j=>match ops[j]? with
 | some o=>o.after.all (fun e=>!Region.binds .any e||Nat.blt e.on j) &&
  (bif Nat.blt j m then (match o.guard with|some (g,_)=>Nat.blt g m|none=>true)
  else bif Nat.beq j m then (range m).all (fun k=>(Cf ops m (C4 o)).elem k||(match ops[k]? with|some p=>zA ops k p|none=>false)) else o.after.any (fun e=>Region.binds .any e&&Nat.beq e.on (j-1)))
 | none=>true
theorem Kr{o:Oper}{k:Nat}(h:o.after.any (fun e=>Region.binds .any e&&Nat.beq e.on k)=true):∃e∈o.after,Region.binds .any e=true∧e.on=k:=by
 obtain⟨e,he,hb⟩:=Array.any_eq_true'.1 h;rw[Bool.and_eq_true] at hb;exact⟨e,he,hb.1,Nat.eq_of_beq_eq_true hb.2⟩
theorem tL(h:qG m ops=true){j:Nat}{o:Oper}(hj:ops[j]?=some o):(∀e∈o.after,Region.binds .any e=true→e.on<j)∧(j<m→∀g b,o.guard=some (g,b)→g<m) ∧
  (m≤j→(j=m∧∀k,k<m→k∈Cf ops m (C4 o)∨(∃p,ops[k]?=some p∧zA ops k p=true))∨(m<j∧∃e∈o.after,Region.binds .any e=true∧e.on=j-1)) ∧
  (zA ops j o=true→∀k p,ops[k]?=some p→k≠j→(∃e∈p.after,Region.binds .any e=true∧e.on=j)∨(∃e∈o.after,Region.binds .any e=true∧e.on=k)∨o.apart ops p=true):=by
 have aa:=(Array.getElem?_eq_some_iff.1 hj).1;have:=all_eq_true.1 h j (mem_range.2 aa);simp only[hj,Bool.and_eq_true] at this;obtain⟨h1,h2⟩:=this;have eK:j<m→(match o.guard with|some (g,_)=>Nat.blt g m|none=>true)=true:=fun hm=>by
  have I:Nat.blt j m=true:=Nat.ble_eq_true_of_le hm;rw[I,cond_true] at h2;exact h2
 refine⟨fun e he hb=>?_,fun hm g b hg=>?_,fun hm=>?_,fun hf k p hp O=>?_⟩
 ·have:=Array.all_eq_true'.1 h1 e he;simp only[hb,Bool.not_true,Bool.false_or] at this;exact Nat.le_of_ble_eq_true this
 ·have h3:=eK hm;rw[hg] at h3;exact Nat.le_of_ble_eq_true h3
 ·have I:Nat.blt j m=false:=by
   cases hq:Nat.blt j m with
   | false=>rfl
   | true=>have:=Nat.le_of_ble_eq_true hq;omega
  rw[I,cond_false] at h2;cases E:Nat.beq j m with
  | false =>
   rw[E,cond_false] at h2;refine .inr ⟨?_,Kr h2⟩;rcases Nat.lt_or_eq_of_le hm with h|h
   ·exact h
   rw[←h,Nat.beq_refl] at E;cases E
  | true =>
   rw[E,cond_true] at h2;refine .inl ⟨Nat.eq_of_beq_eq_true E,fun k hk=>?_⟩;have:=all_eq_true.1 h2 k (mem_range.2 hk);rw[Bool.or_eq_true] at this;rcases this with h3|h3
   ·exact .inl (elem_iff.1 h3)
   refine .inr ?_;cases qU:ops[k]? with
   | none=>rw[qU] at h3;cases h3
   | some p=>rw[qU] at h3;exact⟨p,rfl,h3⟩
 have h3:=hf;unfold zA at h3;rw[Bool.and_eq_true] at h3;have:=all_eq_true.1 h3.2 k (mem_range.2 (Array.getElem?_eq_some_iff.1 hp).1);have hb:Nat.beq k j=false:=by
  cases hq:Nat.beq k j with
  | false=>rfl
  | true=>exact absurd (Nat.eq_of_beq_eq_true hq) O
 simp only[hb,hp,Bool.false_or,Bool.or_eq_true] at this;rcases this with (h4|h4)|h4
 ·exact .inl (Kr h4)
 ·exact .inr (.inl (Kr h4))
 exact .inr (.inr h4)
theorem acJ{R:Exit→Act→World→Prop}(hq:qG m ops=true):∀(k s fuel:Nat) (ld:Array Bool) (a:Act) (w:World),m≤s→s+k=ops.size→k≤fuel→ld.size=ops.size→(∀j,j<s→ld.getD j true=true)→(∀j,s≤j→j<ops.size→ld.getD j true=false)→wpOps P ops R (range' s k) a w→wpAny P .any ops R fuel ld a w:=by
 intro k;induction k with
 | zero =>
  intro s fuel ld a w hs hk hf I h1 h2 h;have hr:Region.ready .any ops ld=[]:=by
   rw[eq_nil_iff_forall_not_mem];intro j hj;obtain⟨q1,o,q2,_⟩:=mem_ready.1 hj;have aa:=(Array.getElem?_eq_some_iff.1 q2).1;rw[h1 j w4] at q1;cases q1
  have hn:R .normal a w:=h;cases fuel with
  | zero=>exact⟨hr,hn⟩
  | succ f=>exact⟨fun _=>hn,by rw[hr];simp⟩
 | succ k ih =>
  intro s fuel ld a w hs hk hf I h1 h2 h;obtain⟨f,rfl⟩:∃f,fuel=f+1:=⟨fuel-1,by omega⟩
  have U:∀e,e<s→ld.getD e false=true:=fun e he=>by
   have:=h1 e he;rw[Array.getD_eq_getD_getElem?] at this ⊢;rw[Array.getElem?_eq_getElem w4] at this ⊢;exact this
  have O:s∈Region.ready .any ops ld:=mem_ready.2 ⟨h2 s (Nat.le_refl _) w4,ops[s]'w4,Array.getElem?_eq_getElem w4,fun e he hb=>U _ ((tL hq (Array.getElem?_eq_getElem w4)).1 e he hb)⟩;refine⟨fun h0=>(by rw[h0] at O;cases O),fun i hi=>?_⟩;obtain⟨q1,o,q2,q3⟩:=mem_ready.1 hi;have fm:=(Array.getElem?_eq_some_iff.1 q2).1;have Z:i=s:=by
   rcases Nat.lt_trichotomy i s with q|q|q
   ·rw[h1 i q] at q1;cases q1
   ·exact q
   rcases(tL hq q2).2.2.1 w4 with h9|⟨_,e,he,hb,jF⟩
   ·omega
   have h5:=q3 e he hb;rw[jF] at h5;have h6:=h2 (i-1) w4 w4;rw[Array.getD_eq_getD_getElem?,Array.getElem?_eq_getElem w4] at h5 h6;simp only[Option.getD_some] at h5 h6;rw[h5] at h6;cases h6
  subst Z;rw[range'_succ,wpOps_cons] at h;have E:∀j,(ld.setIfInBounds i true).getD j true=if j=i then true else ld.getD j true:=fun j=>by
   by_cases hj:j=i
   ·subst hj;simp[Array.getD_eq_getD_getElem?,Array.getElem?_setIfInBounds,I,fm]
   simp[Array.getD_eq_getD_getElem?,Array.getElem?_setIfInBounds,hj,Ne.symm hj]
  refine wpOp_mono (fun a' w' h'=>ih (i+1) f _ a' w' w4 w4 w4 (by simpa using I) (fun j hj=>?_) (fun j hj jr=>?_) h') h
  ·rw[E];split
   ·rfl
   exact h1 j w4
  rw[E,if_neg w4];exact h2 j w4 jr
theorem acK{R:Exit→Act→World→Prop}(hq:qG m ops=true)(hm:m≤ops.size)(hn:∀a w,R' .normal a w→wpOps P ops R (range' m (ops.size-m)) a w)(hp:∀ch a w,R' (.panic ch) a w→R (.panic ch) a w)(ho:∀a w,R' .outgrown a w→R .outgrown a w)(mD:Region.noSelect ops=true)(hQ:∀(d:Option Nat) v c a w,R (.panic c) (a.put d v) w→R (.panic c) a w) :
  ∀(fuel:Nat) (ld:Array Bool) (a:Act) (w:World),ld.size=m→(∀k o,ops[k]?=some o→ld.getD k false=true→∀e∈o.after,Region.binds .any e=true→ld.getD e.on false=true)→wpAny P .any (ops.toList.take m).toArray R' fuel ld a w→wpAny P .any ops R (fuel+(ops.size-m)) (ld++Array.replicate (ops.size-m) false) a w:=by
 have E:∀i,i<m→(ops.toList.take m).toArray[i]?=ops[i]?:=fun i hi=>by simp[getElem?_take,hi]
 have Yj:(ops.toList.take m).toArray.size=m:=(by simp;omega)
 -- what may ajr up api the first apP
 have O:∀(ld:Array Bool) (b:Bool),ld.size=m→∀j,j<m→(ld++Array.replicate (ops.size-m) false).getD j b=ld.getD j b:=fun ld b hs j hj=>by
  rw[Array.getD_eq_getD_getElem?,Array.getD_eq_getD_getElem?,Array.getElem?_append_left w4]
 have Wg:∀(ld:Array Bool) (b:Bool),ld.size=m→∀j,m≤j→j<ops.size→(ld++Array.replicate (ops.size-m) false).getD j b=false:=fun ld b hs j hj jr=>by
  rw[Array.getD_eq_getD_getElem?,Array.getElem?_append_right w4,hs];simp[Array.getElem?_replicate,show j-m<ops.size-m by omega]
 have Ax:∀(ld:Array Bool),ld.size=m→∀i,i<m→(i∈Region.ready .any ops (ld++Array.replicate (ops.size-m) false)↔i∈Region.ready .any (ops.toList.take m).toArray ld):=fun ld hs i hi=>by
  rw[mem_ready,mem_ready,E i hi,O ld true hs i hi];constructor
  ·rintro⟨q1,o,q2,q3⟩;exact⟨q1,o,q2,fun e he hb=>by have:=q3 e he hb;rwa [O ld false hs _ (Nat.lt_trans ((tL hq q2).1 e he hb) hi)] at this⟩
  rintro⟨q1,o,q2,q3⟩;exact⟨q1,o,q2,fun e he hb=>by rw[O ld false hs _ (Nat.lt_trans ((tL hq q2).1 e he hb) hi)];exact q3 e he hb⟩
 -- aoy may ajr up: all have
 have eY:∀(ld:Array Bool),ld.size=m→Region.ready .any (ops.toList.take m).toArray ld=[]→∀j,j<m→ld.getD j true=true:=fun ld hs hr j=>by
  induction j using Nat.strongRecOn with
  | _ j ih =>
   intro hj;cases hl:ld.getD j true with
   | true=>rfl
   | false =>
    have tr:ops[j]?=some (ops[j]'w4):=Array.getElem?_eq_getElem w4;have:j∈Region.ready .any (ops.toList.take m).toArray ld:=mem_ready.2 ⟨hl,ops[j]'w4,by rw[E j hj];exact tr,fun e he hb=>by
     have aa:=(tL hq tr).1 e he hb;have:=ih e.on aa w4;rw[Array.getD_eq_getD_getElem?] at this ⊢;rw[Array.getElem?_eq_getElem w4] at this ⊢;exact this⟩
    rw[hr] at this;cases this
 have nF:∀(fuel:Nat) (ld:Array Bool) (a:Act) (w:World),ld.size=m→ops.size-m≤fuel→Region.ready .any (ops.toList.take m).toArray ld=[]→R' .normal a w→wpAny P .any ops R fuel (ld++Array.replicate (ops.size-m) false) a w:=fun fuel ld a w hs hf hr h =>
  acJ hq (ops.size-m) m fuel _ a w (Nat.le_refl _) w4 hf ij (fun j hj=>by rw[O ld true hs j hj];exact eY ld hs hr j hj) (fun j hj jr=>Wg ld true hs j hj jr) (hn a w h)
 intro fuel;induction fuel with
 | zero=>intro ld a w hs _ h;rw[Nat.zero_add];exact nF _ ld a w hs (Nat.le_refl _) h.1 h.2
 | succ fuel ih =>
  intro ld a w hs lp h;obtain⟨h1,h2⟩:=h;have zH:∀i,i∈Region.ready .any (ops.toList.take m).toArray ld→∀k o,ops[k]?=some o→(ld.setIfInBounds i true).getD k false=true→∀e∈o.after,Region.binds .any e=true→(ld.setIfInBounds i true).getD e.on false=true:=fun i hi k o hk hd e he hb=>by
   have FU:∀j,ld.getD j false=true→(ld.setIfInBounds i true).getD j false=true:=fun j hj=>by
    rw[Array.getD_eq_getD_getElem?] at hj ⊢;rw[Array.getElem?_setIfInBounds];split
    ·split
     ·rfl
     rename_i h1 h2;subst h1;rw[Array.getElem?_eq_none w4] at hj;cases hj
    exact hj
   refine FU _ ?_;by_cases Yk:i=k
   ·subst Yk;obtain⟨q1,o',q2,q3⟩:=mem_ready.1 hi;have I:i<m:=(by have:=(Array.getElem?_eq_some_iff.1 q2).1;omega)
    rw[E i I,hk] at q2;obtain rfl:=Option.some.inj q2;exact q3 e he hb
   refine lp k o hk ?_ e he hb;rw[Array.getD_eq_getD_getElem?,Array.getElem?_setIfInBounds,if_neg Yk] at hd;rw[Array.getD_eq_getD_getElem?];exact hd
  by_cases hr:Region.ready .any (ops.toList.take m).toArray ld=[]
  ·exact nF _ ld a w hs w4 hr (h1 hr)
  rw[show fuel+1+(ops.size-m)=(fuel+(ops.size-m))+1 by omega];have sM:∀i,i<m→(ld++Array.replicate (ops.size-m) false).setIfInBounds i true=ld.setIfInBounds i true++Array.replicate (ops.size-m) false:=fun i I=>by
   rw[Array.setIfInBounds_append_left w4]
  by_cases js:∃f o,f∈Region.ready .any (ops.toList.take m).toArray ld∧ops[f]?=some o∧zA ops f o=true
  ·
   obtain⟨f,o,hf,vS,Z⟩:=js;have U:FT o=true:=(by unfold zA at Z;rw[Bool.and_eq_true] at Z;exact Z.1)
   have Ho:f<m:=by
    obtain⟨_,o',q2,_⟩:=mem_ready.1 hf;have:=(Array.getElem?_eq_some_iff.1 q2).1;omega
   have h3:=h2 f hf;unfold wpOp at h3;rw[E f Ho,vS] at h3;have hg:o.guard=none:=by
    unfold FT at U;split at U
    ·exact Option.isNone_iff_eq_none.1 U
    ·exact Option.isNone_iff_eq_none.1 U
    cases U
   have CH:∀(Yl:Array Oper),Region.wanted o (yielded Yl a.tmps)=true:=fun Yl=>by simp[Region.wanted,hg]
   simp only[CH,if_true] at h3;obtain⟨v,hy,h4⟩:∃v,(∀w',(execOp a.eval o).run P w' = .ok (.value v) w')∧wpAny P .any (ops.toList.take m).toArray R' fuel (ld.setIfInBounds f true) (a.put o.dst v) w:=by
    have hc:(∃v,execOp a.eval o=Sem.pure (.value v))∨∃s,execOp a.eval o=Sem.halt (.stuck s):=by
     unfold FT at U;split at U
     ·rename_i y i Ay;unfold execOp;rw[Ay];show(∃v,(Instr.extract (a.eval y) i).bind _=_)∨∃s,(Instr.extract (a.eval y) i).bind _=_;unfold Instr.extract;split
      ·split
       ·exact .inl ⟨_,rfl⟩
       exact .inr ⟨_,rfl⟩
      exact .inr ⟨_,rfl⟩
     ·rename_i y Ay;unfold execOp;rw[Ay];exact .inl ⟨_,rfl⟩
     cases U
    have vT:¬o.asks P a w:=fun ha=>by
     unfold Oper.asks at ha;rcases hc with ⟨v,e⟩|⟨s,e⟩<;>rw[e] at ha<;>simp[Sem.runT] at ha
    rcases h3 with h3|⟨h3,_⟩
    rotate_left
    ·exact absurd h3 vT
    unfold Oper.wp at h3;rcases hc with ⟨v,e⟩|⟨s,e⟩
    ·refine⟨v,fun w'=>by rw[e];rfl,?_⟩;rw[e] at h3;exact h3
    rw[e] at h3;exact h3.elim
   refine wpAny_first (v:=v) vS (Region.noSelect_spec mD) (hQ _ _) _ _ a w (fun j oj yg hji lq An=>?_) ((Ax ld hs f Ho).2 hf) (.inl ⟨CH _,hy⟩) ?_
   ·rcases(tL hq vS).2.2.2 Z j oj yg hji with ⟨e,he,hb,jF⟩|⟨e,he,hb,jF⟩|h5
    ·exact absurd jF (An e he hb)
    ·obtain⟨_,o',p1,p2⟩:=mem_ready.1 ((Ax ld hs f Ho).2 hf);rw[vS] at p1;obtain rfl:=Option.some.inj p1;have h6:=p2 e he hb;rw[jF] at h6;rw[Array.getD_eq_getD_getElem?] at h6 lq;cases hx:(ld++Array.replicate (ops.size-m) false)[j]? with
     | none=>rw[hx] at h6;cases h6
     | some b=>rw[hx] at h6 lq;simp only[Option.getD_some] at h6 lq;rw[h6] at lq;cases lq
    exact h5
   rw[sM f Ho];exact ih _ _ _ (by simpa using hs) (zH f hf) h4
  have LF:∀i,i∈Region.ready .any ops (ld++Array.replicate (ops.size-m) false)→i<m:=fun i hi=>by
   rcases Nat.lt_or_ge i m with q|q
   ·exact q
   obtain⟨q1,o,q2,q3⟩:=mem_ready.1 hi;refine absurd ?_ hr;rw[eq_nil_iff_forall_not_mem];intro j hj;obtain⟨p1,o',p2,_⟩:=mem_ready.1 hj;have Nu:j<m:=(by have:=(Array.getElem?_eq_some_iff.1 p2).1;omega)
   have apQ:=(Array.getElem?_eq_some_iff.1 q2).1;rcases(tL hq q2).2.2.1 q with ⟨rfl,hw⟩|⟨aa,e,he,hb,jF⟩
   ·rcases hw j Nu with hw|⟨p,h8,h9⟩
    ·have hd:=PA (ops:=ops) (D:=fun k=>ld.getD k false=true) lp i (C4 o) (fun k hk=>by
      obtain⟨e,he,hb,jF⟩:=S5 hk;have h5:=q3 e he hb;have h6:=(tL hq q2).1 e he hb;rw[O ld false hs _ h6,jF] at h5;exact h5) j hw
     rw[Array.getD_eq_getD_getElem?,Array.getElem?_eq_getElem w4] at hd p1;simp only[Option.getD_some] at hd p1;rw[hd] at p1;cases p1
    exact js ⟨j,p,hj,h8,h9⟩
   have h5:=q3 e he hb;rw[jF,Wg ld false hs (i-1) w4 w4] at h5;cases h5
  refine⟨fun h0=>?_,fun i hi=>?_⟩
  ·obtain⟨i,hi⟩:=exists_mem_of_ne_nil _ hr;have fm:i<m:=by
    obtain⟨_,o,q2,_⟩:=mem_ready.1 hi;have:=(Array.getElem?_eq_some_iff.1 q2).1;omega
   have:=(Ax ld hs i fm).2 hi;rw[h0] at this;cases this
  have I:=LF i hi;have h3:=h2 i ((Ax ld hs i I).1 hi);rw[sM i I];unfold wpOp at h3 ⊢;rw[E i I] at h3;have Ym:ops[i]?=some (ops[i]'w4):=Array.getElem?_eq_getElem w4;rw[Ym] at h3 ⊢;have hw:Region.wanted (ops[i]'w4) (yielded (ops.toList.take m).toArray a.tmps)=Region.wanted (ops[i]'w4) (yielded ops a.tmps):=by
   unfold Region.wanted;cases hg:(ops[i]'w4).guard with
   | none=>rfl
   | some p =>
    obtain⟨g,b⟩:=p;have:=(tL hq Ym).2.1 I g b hg;simp only[yielded,E g this]
  simp only[hw] at h3 ⊢;split
  ·rename_i Nv;simp only[Nv,if_true] at h3;rcases h3 with h3|⟨h3,a0,w0,h4⟩
   ·exact .inl (acI h3 (fun a' w' h'=>ih _ a' w' (by simpa using hs) (zH i ((Ax ld hs i I).1 hi)) h') hp ho)
   exact .inr ⟨h3,a0,w0,ho _ _ h4⟩
  rename_i Nv;simp only[Nv] at h3;exact ih _ _ _ (by simpa using hs) (zH i ((Ax ld hs i I).1 hi)) h3
theorem agf(mD:Region.noSelect l.toArray=true)(nL:NP Q)(hq:qG m l.toArray=true)(hm:m≤l.length){fuel:Nat}{w:World}(hs:ld.size=m)(E:∀k,ld.getD k false=false)(h:wpAny P .any (l.take m).toArray (LQ C (Tl P C l.toArray (l.drop m) Q)) fuel ld a w):wpAny P .any l.toArray (LQ C Q) (fuel+(l.length-m)) (ld++Array.replicate (l.length-m) false) a w:=by
 have h1:=acK (P:=P) (ops:=l.toArray) (R:=LQ C Q) (R':=LQ C (Tl P C l.toArray (l.drop m) Q)) hq (by simpa using hm) (fun a w h=>by
  rcases h with ⟨y,h1,h2⟩|⟨h1,_⟩
  ·have:=wpOps_eq_wpList (P:=P) (ops:=l.toArray) (Q:=LQ C Q) (l.drop m) m (fun j=>by simp);rw[length_drop] at this;rw[show l.toArray.size-m=l.length-m by simp,this];exact h2 a w h1
  cases h1) (fun I a w h=>h) (fun a w h=>h) mD (fun d v=>zq nL d v) fuel ld a w hs (fun k o hk hd=>by rw[E k] at hd;cases hd)
 simpa using h1 nf
theorem CD.FV (m:Nat) (T:List Nat) (mD:Region.noSelect l.toArray=true) (nL:NP Q) (hm:P.follows .mixedOrders=true) (hl:m≤l.length) (hq:qG m l.toArray=true) (hT:∀b∈T,b∈au x.S)
  (h:dH P C (l.take m).toArray (au x.S) T m (Array.replicate m false) x (Tl P C l.toArray (l.drop m) Q)):CD P C (.region id l.toArray true) x Q:=fun a w hs =>
 wp_region_any hm (by
  have h1:=h a {w with drawn:=w.drawn+1} ⟨hs.defers,hs.size,fun t ht=>(hs.env t ht).mono fun b _ hn=>⟨rfl,hn⟩,⟨fun B E=>by
   obtain⟨r0,cur,r1,r2,I,O⟩:=hs.own.at_ B E;exact⟨r0,cur,r1,r2,I,fun i hi=>by
    obtain⟨u,hu,hq⟩:=O i hi;exact⟨u,hu,hq.mono fun b _ hn=>⟨rfl,hn⟩⟩⟩,hs.own.apart⟩,⟨hs.fr.os,hs.fr.tape,hs.fr.output,hs.fr.size,hs.fr.block⟩,hs.ex,hs.eL⟩ rfl hT
  have h2:=agf mD nL hq hl bn (fun k=>by rw[Array.getD_eq_getD_getElem?,Array.getElem?_replicate];split<;>rfl) (wpAny_of_held _ _ _ _ h1);rw[Array.replicate_append_replicate,show m+(l.length-m)=l.length by omega] at h2;simpa using h2)
theorem CD.pdT(mD:Region.noSelect l.toArray=true)(nL:NP Q)(hm:P.follows .mixedOrders=true)(hl:m≤l.length)(hq:qG m l.toArray=true)(hp:mB (l.take m).toArray=true)(h:PD true P C.G n S (l.take m).toArray (l.take m) e [] e')(K:OD P C l.toArray (l.drop m) ⟨n,e',S⟩ Q):CD P C (.region id l.toArray true) ⟨n,e,S⟩ Q :=
 CD.FV m [] mD nL hm hl hq (fun _ hb=>by cases hb) (by
  have:=dH.pd (C:=C) (Q:=Tl P C l.toArray (l.drop m) Q) hp nf K;have hz:(l.take m).toArray.size=m:=(by simp;omega)
  rw[hz] at this;exact this)

theorem bG.bare{w:World}(hs:bG C ⟨n,e,B++S⟩ a w):bG ⟨fun b=>C.X b∨b∈au B,w,au S,C.G,C.df,C.CO⟩ ⟨n,e,S⟩ a w∧live C.X (B++S)=live (fun b=>C.X b∨b∈au B) S∧∀b∈au B,b∉au S:=by
 have hl:live C.X (B++S)=live (fun b=>C.X b∨b∈au B) S:=by
  funext b;simp only[live,au,map_append,mem_append,eq_iff_iff];constructor
  ·rintro(h1|h1|h1)
   ·exact .inl (.inl h1)
   ·exact .inl (.inr h1)
   exact .inr h1
  rintro((h1|h1)|h1)
  ·exact .inl h1
  ·exact .inr (.inl h1)
  exact .inr (.inr h1)
 have I:au (B++S)=au B++au S:=(by simp[au])
 have hnd:=hs.own.apart;simp only[I] at hnd;have E:∀b∈au B,b∉au S:=fun b h1 h2=>(nodup_append.1 hnd).2.2 b h1 b h2 rfl;refine⟨⟨hs.defers,hs.size,fun q hq=>?_,⟨fun A hA=>?_,(nodup_append.1 hnd).2.1⟩,Fr.refl _ _,fun b hb=>?_,fun g hg=>?_⟩,hl,E⟩
 ·have:=hs.env q hq;simp only[hl] at this;exact this
 ·have:=hs.own.at_ A (mem_append_right _ hA);simp only[hl] at this;exact this
 ·rcases hb with hb|hb
  ·obtain⟨h1,h2⟩:=hs.ex b hb;exact⟨Nat.lt_of_lt_of_le h1 hs.fr.size,fun hm=>(hs.fr.block b h1 h2).2 (by simp only[I];exact mem_append_right _ hm)⟩
  obtain⟨A,hA,rfl⟩:=mem_map.1 hb;exact⟨(hs.own.at_ A (mem_append_left _ hA)).1,E _ hb⟩
 obtain⟨⟨h1,h2,h3⟩,h4⟩:=hs.eL g hg;have h5:=hs.fr.block g.1 h1 h2;simp only[I] at h5;exact⟨⟨Nat.lt_of_lt_of_le h1 hs.fr.size,fun hm=>h5.2 (mem_append_right _ hm),fun hm=>hm.elim h3 fun hm=>h5.2 (mem_append_left _ hm)⟩,fun i v hi=>(h4 i v hi).on h5.1⟩
theorem fN.frame(h:fN P G ⟨n,e,S⟩ o [] (fun y=>y=⟨n,(t,d)::e,S⟩)):fN P G ⟨n,e,B++S⟩ o [] (fun y=>y=⟨n,(t,d)::e,B++S⟩):=fun C a w K Q hG hs hK=>by
 obtain⟨rS,hl,E⟩:=hs.bare;have O:au (B++S)=au B++au S:=(by simp[au])
 refine h ⟨fun b=>C.X b∨b∈au B,w,au S,C.G,C.df,C.CO⟩ a w K Q hG rS fun y a' w' hy k hc hf=>?_;subst hy;have I:Fr w (au (B++S)) w' (au (B++S)):=⟨hf.os,hf.tape,hf.output,hf.size,fun b h1 h2=>⟨(hf.block b h1 (fun hm=>h2 (by rw[O];exact mem_append_right _ hm))).1,h2⟩⟩
 refine hK _ a' w' rfl ⟨k.defers,k.size,fun q hq=>?_,⟨fun A hA=>?_,hs.own.apart⟩,hs.fr.trans I,hs.ex,hs.eL⟩ hc I
 ·have:=k.env q hq;simp only[hl];exact this
 simp only[hl];rcases mem_append.1 hA with hA|hA
 ·obtain⟨r0,cur,r1,r2,r3,r4⟩:=hs.own.at_ A (mem_append_left _ hA);have U:A.b∈au B:=mem_map.2 ⟨A,hA,rfl⟩;have Z:=(hf.block A.b r0 (E _ U)).1;refine⟨q8 r0 Z,cur,Z.trans r1,r2,r3,fun i hi=>?_⟩;obtain⟨u,hu,hr⟩:=r4 i hi;simp only[hl] at hr;exact⟨u,hu,hr.mono fun b h1 h2=>⟨(hf.block b h1 (fun hm=>h2 (.inr hm))).1,h2⟩⟩
 exact k.own.at_ A hA
theorem bY.frame{b:Bool}(h:bY ops ⟨n,e,S⟩ o b):bY ops ⟨n,e,B++S⟩ o b:=fun C a w hs=>h _ a w hs.bare.1
theorem bG.Uw{a':Act}{w w':World}{v:Value}(h:bG C ⟨n,e,S⟩ a w)(k:bG C ⟨n,(t,d)::l',S'⟩ a' w')(hf:Fr w (au S) w' (au S'))(I:a'.tmps=(a.put (some t) v).tmps):bG C ⟨n,(t,d)::e,S'⟩ a' w':=by
 refine⟨k.defers,k.size,fun q hq=>?_,k.own,k.fr,k.ex,k.eL⟩;by_cases E:t=q
 ·subst E;have:=k.env t hq;simp only[fS,if_pos] at this ⊢;exact this
 have h1:=h.env q hq;have h2:a'.tmps.getD q undef=a.tmps.getD q undef:=(by rw[I];simp[Act.put,Array.getD_eq_getD_getElem?,Array.getElem?_setIfInBounds,E])
 simp only[fS,if_neg E];rw[h2];exact h1.mono fun b hb hn=>⟨(hf.block b hb (fun hm=>hn (.inr hm))).1,fun hl=>hl.elim (fun hx=>hn (.inl hx)) fun hm=>(hf.block b hb (fun hm=>hn (.inr hm))).2 hm⟩
theorem Z8{z:Value}(ho:o.op = .alloc te)(hd:o.dst=some t)(hz:∀w,(zeroValue te).run P w = .ok z w)(hne:isMap te=false:=by rfl):fN P G ⟨n,e,S⟩ o [] (fun y=>y=⟨n,(t,.bS)::e,S⟩):=fun C a w K Q hG h hK =>
 AW (hne:=hne) ho hd hz rfl C a w K Q hG h fun y a' w' ⟨b,hy⟩ hs hc hf=>by
  subst hy;have h1:=Wk.drop n ((t,.v (.pointer (some ⟨b,0,none⟩)))::e) _ S (sublist_cons_self _ _) C a' w' hs;refine hK _ a' w' rfl ⟨h1.defers,h1.size,fun q hq=>?_,h1.own,h1.fr,h1.ex,h1.eL⟩ hc ⟨hf.os,hf.tape,hf.output,hf.size,fun b hb hn=>⟨(hf.block b hb hn).1,hn⟩⟩;have h2:=h1.env q hq;simp only[fS] at h2 ⊢;by_cases e1:t=q
  ·rw[if_pos e1];exact .bS _
  rw[if_neg e1] at h2 ⊢;exact h2
def bx(te:TypeId)(ds:List D):Option Nat→List ah
 | some b=>[⟨b,te,ds.length,ds⟩]
 | none=>[]
theorem aey {eF:List (Nat×D)} {w1:World} {ia:Nat} {ds:List D} (mh:ops[ia]?=some oa) (lH:oa.dst=some ta) (yh:oa.guard=none) (hE:∀S',fN P C.G ⟨n,[],S'⟩ oa [] (wL ⟨n,[],S'⟩ ta te ds))
  (hj:look ta eF = .bS) (hp:mB ops=true) (H:∀i,i<ops.size→Gd P C.G n S ops eF i) (hQ:∀b,Q .normal ⟨n,(ta,.v (.pointer (some ⟨b,0,none⟩)))::eF,⟨b,te,ds.length,ds⟩::S⟩):∀(fuel:Nat) (ld:Array Bool) (env:List (Nat×D)) (ob:Option Nat) (a:Act) (w:World),
  left ops.size ld≤fuel→bG C ⟨n,env,bx te ds ob++S⟩ a w→Fr w1 S1 w (au (bx te ds ob++S))→(ld.getD ia true=true→∃b,ob=some b∧look ta env = .v (.pointer (some ⟨b,0,none⟩)))→(ld.getD ia true=false→ob=none) →
   (∀q,q≠ta→(∀j o,ops[j]?=some o→o.dst=some q→ld.getD j true=true)→look q env=look q eF)→wpAnyH P .any ops (LQ C Q) (kW w1 S1 []) fuel ld a w:=by
 have Hp:∀j o,ops[j]?=some o→o.dst=some ta→j=ia:=fun j o hj hd=>by
  rcases Nat.lt_trichotomy j ia with q|q|q
  ·obtain⟨t',h1,h2⟩:=(wK hp mh).2;rw[lH] at h1;obtain rfl:=Option.some.inj h1;exact absurd hd (h2 j o q hj)
  ·exact q
  obtain⟨t',h1,h2⟩:=(wK hp hj).2;rw[hd] at h1;obtain rfl:=Option.some.inj h1;exact absurd lH (h2 ia oa q mh)
 have eS:∀(ld:Array Bool) (env:List (Nat×D)) (ob:Option Nat) (a:Act) (w:World),bG C ⟨n,env,bx te ds ob++S⟩ a w→(ld.getD ia true=true→∃b,ob=some b∧look ta env = .v (.pointer (some ⟨b,0,none⟩)))→(∀q,q≠ta→(∀j o,ops[j]?=some o→o.dst=some q→ld.getD j true=true)→look q env=look q eF)→(∀j,j<ops.size→ld.getD j true=true)→LQ C Q .normal a w:=fun ld env ob a w hs hb he eY=>by
  obtain⟨b,rfl,Nw⟩:=hb (eY ia (Array.getElem?_eq_some_iff.1 mh).1);refine .inl ⟨⟨n,(ta,.v (.pointer (some ⟨b,0,none⟩)))::eF,⟨b,te,ds.length,ds⟩::S⟩,⟨hs.defers,hs.size,fun q hq=>?_,hs.own,hs.fr,hs.ex,hs.eL⟩,hQ b⟩;have:=hs.env q hq;simp only[fS];by_cases E:ta=q
  ·subst E;rw[if_pos rfl];rw[Nw] at this;exact this
  rw[if_neg E];rw[he q (fun e=>E e.symm) fun j o hj _=>eY j (Array.getElem?_eq_some_iff.1 hj).1] at this;exact this
 intro fuel;induction fuel with
 | zero =>
  intro ld env ob a w hl hs hf hb jG he;have eY:∀j,j<ops.size→ld.getD j true=true:=fun j hj=>by
   cases hq:ld.getD j true with
   | true=>rfl
   | false=>have:=y5 hj hq;omega
  refine⟨?_,eS ld env ob a w hs hb he eY⟩;rw[eq_nil_iff_forall_not_mem];intro j hj;obtain⟨h1,o,h2,_⟩:=mem_ready.1 hj;have:=eY j (Array.getElem?_eq_some_iff.1 h2).1;rw[h1] at this;cases this
 | succ fuel ih =>
  intro ld env ob a w hl hs hf hb jG he;refine⟨fun h0=>eS ld env ob a w hs hb he (Kp hp h0),fun i hi=>?_⟩;obtain⟨lq,o,I,Cb⟩:=mem_ready.1 hi;have aa:=(Array.getElem?_eq_some_iff.1 I).1;have Wc:=y5 aa lq;have O:∀j,(ld.setIfInBounds i true).getD j true=true↔j=i∨ld.getD j true=true:=fun j=>by
   by_cases hj:j=i
   ·subst hj;have iu:j<ld.size:=by
     rcases Nat.lt_or_ge j ld.size with h|h
     ·exact h
     rw[Array.getD_eq_getD_getElem?,Array.getElem?_eq_none h] at lq;cases lq
    simp[Array.getD_eq_getD_getElem?,Array.getElem?_setIfInBounds,iu]
   simp[Array.getD_eq_getD_getElem?,Array.getElem?_setIfInBounds,hj,Ne.symm hj]
  by_cases rT:i=ia
  ·subst rT;rw[mh] at I;obtain rfl:=Option.some.inj I;obtain rfl:=jG lq;unfold wpOp;rw[mh];have hw:Region.wanted oa (yielded ops a.tmps)=true:=(by simp[Region.wanted,yh])
   simp only[hw,if_true];have pA:bG C ⟨n,[],bx te ds none++S⟩ a w:=⟨hs.defers,hs.size,fun q hq=>.bS _,hs.own,hs.fr,hs.ex,hs.eL⟩
   have h2:=hE (bx te ds none++S) C a w (fun a' w'=>∃b,bG C ⟨n,[(ta,.v (.pointer (some ⟨b,0,none⟩)))],⟨b,te,ds.length,ds⟩::S⟩ a' w'∧Fr w (au S) w' (au (⟨b,te,ds.length,ds⟩::S))) (LQ C Q) rfl pA (fun y a' w' ⟨b,hy⟩ U _ Z=>by subst hy;exact⟨b,U,Z⟩);refine .inl (Oper.wp_mono (fun a' w' h3=>?_) (y4 h2));obtain⟨⟨b,h4,h5⟩,v,h6⟩:=h3;rw[lH] at h6;have js:Fr w1 S1 w' (au (bx te ds (some b)++S)):=hf.trans h5;refine⟨⟨fun b h2 h3=>(js.block b h2 h3).1,fun b h2=>by cases h2⟩,ih _ ((ta,.v (.pointer (some ⟨b,0,none⟩)))::env) (some b) a' w' w4 (bG.Uw (S:=S) hs h4 h5 h6) js (fun _=>⟨b,rfl,by rw[fS,if_pos rfl]⟩) (fun h=>by have:=(O i).2 (.inl rfl);rw[this] at h;cases h) fun q hq uI=>?_⟩;rw[fS,if_neg (fun e=>hq e.symm)];refine he q hq fun j oj hj iS=>?_;rcases(O j).1 (uI j oj hj iS) with rfl|h2
   ·rw[mh] at hj;obtain rfl:=Option.some.inj hj;rw[lH] at iS;exact absurd (Option.some.inj iS).symm hq
   exact h2
  obtain⟨o',t,ts,l',h1,hd,hq,mb,hk,Nx⟩:=H i aa;rw[I] at h1;obtain rfl:=Option.some.inj h1;have LG:t≠ta:=fun e=>rT (Hp i o I (by rw[hd,e]))
  -- what it looks at is there,or nothing is said of it
  have jC:bG C ⟨n,l',bx te ds ob++S⟩ a w:=⟨hs.defers,hs.size,fun q CW=>by
   by_cases hm:q∈ts
   ·have tw:=hm;rw[←hk] at tw;obtain⟨p,fK,rfl⟩:=mem_map.1 tw;obtain⟨h2,h3⟩:=mb p fK;have h9:=hs.env p.1 CW;by_cases uD:p.1=ta
    ·rw[←h3,uD,hj];exact .bS _
    have:look p.1 env=look p.1 l':=by
     rw[←h3];refine he p.1 uD fun j oj hj iS=>?_;obtain⟨e1,tc,iZ,jF⟩:=E0 hq hj iS h2;have:=Cb e1 tc iZ;rw[jF] at this;rw[Array.getD_eq_getD_getElem?] at this ⊢;cases hx:ld[j]? with
     | none=>rw[hx] at this;cases this
     | some b=>rw[hx] at this;exact this
    rw[this] at h9;exact h9
   have:look q l' = .bS:=by
    rw[←hk] at hm;exact EI hm
   rw[this];exact .bS _,hs.own,hs.fr,hs.ex,hs.eL⟩
  have jg:∀(a':Act) (w':World),bG C ⟨n,(t,look t eF)::env,bx te ds ob++S⟩ a' w'→Fr w (au (bx te ds ob++S)) w' (au (bx te ds ob++S))→kW w1 S1 [] w'∧wpAnyH P .any ops (LQ C Q) (kW w1 S1 []) fuel (ld.setIfInBounds i true) a' w':=fun a' w' U Z=>by
   have js:Fr w1 S1 w' (au (bx te ds ob++S)):=hf.trans Z;have yj:(ld.setIfInBounds i true).getD ia true=ld.getD ia true:=by
    simp[Array.getD_eq_getD_getElem?,Array.getElem?_setIfInBounds,rT]
   refine⟨⟨fun b h2 h3=>(js.block b h2 h3).1,fun b h2=>by cases h2⟩,ih _ _ ob a' w' w4 U js (fun h=>?_) (fun h=>jG (by rw[yj] at h;exact h)) fun q Hq uI=>?_⟩
   ·rw[yj] at h;obtain⟨b,h2,h3⟩:=hb h;exact⟨b,h2,by rw[fS,if_neg LG];exact h3⟩
   rw[fS];by_cases E:t=q
   ·rw[if_pos E,E]
   rw[if_neg E];refine he q Hq fun j oj hj iS=>?_;rcases(O j).1 (uI j oj hj iS) with rfl|h2
   ·rw[I] at hj;obtain rfl:=Option.some.inj hj;rw[hd] at iS;exact absurd (Option.some.inj iS) E
   exact h2
  unfold wpOp;rw[I];rcases Nx with ⟨hw,Ny⟩|⟨hw,hv⟩
  ·simp only[hw.frame (B:=bx te ds ob) C a w jC,if_true];have h2:=Ny.frame (B:=bx te ds ob) C a w (fun a' w'=>bG C ⟨n,(t,look t eF)::l',bx te ds ob++S⟩ a' w'∧Fr w (au (bx te ds ob++S)) w' (au (bx te ds ob++S))) (LQ C Q) rfl jC (fun y a' w' hy U _ Z=>by subst hy;exact⟨U,Z⟩);refine .inl (Oper.wp_mono (fun a' w' h3=>?_) (y4 h2));obtain⟨⟨h4,h5⟩,v,h6⟩:=h3;rw[hd] at h6;exact jg a' w' (hs.zw h4 h5 h6) h5
  simp only[hw.frame (B:=bx te ds ob) C a w jC,hd];have:=hs.put (t:=t) (.v (w:=w) (L:=live C.X (bx te ds ob++S)) undef);rw[hv] at jg;exact jg _ w this (Fr.refl _ _)
theorem CD.pdA {ia:Nat} {z:Value} {ds:List D} (mD:Region.noSelect l.toArray=true) (nL:NP Q) (hm:P.follows .mixedOrders=true) (hl:m≤l.length) (hq:qG m l.toArray=true) (hp:mB (l.take m).toArray=true) (mh:(l.take m)[ia]?=some oa) (ho:oa.op = .alloc te) (lH:oa.dst=some ta) (yh:oa.guard=none) (hz:∀w,(zeroValue te).run P w = .ok z w) (jq:z.cells.toList.map .v=ds)
  (h:PD true P C.G n S (l.take m).toArray (l.take m) e [] e') (hj:look ta e' = .bS) (K:∀b,OD P C l.toArray (l.drop m) ⟨n,(ta,.v (.pointer (some ⟨b,0,none⟩)))::e',⟨b,te,ds.length,ds⟩::S⟩ Q) (hne:isMap te=false:=by rfl):CD P C (.region id l.toArray true) ⟨n,e,S⟩ Q :=
 CD.FV m [] mD nL hm hl hq (fun _ hb=>by cases hb) (fun a w hs _ _=>by
  have h':PD true P C.G n S (l.take m).toArray (l.take m).toArray.toList e [] e':=(by simpa using h)
  have hg:=h'.xw hp rfl 0 rfl;have E:(l.take m).toArray[ia]?=some oa:=(by simpa using mh)
  have I:(l.take m).toArray.size=m:=(by simp;omega)
  refine aey (Q:=Tl P C l.toArray (l.drop m) Q) E lH yh (fun S'=>AW (hne:=hne) ho lH hz jq) hj hp (fun i hi=>hg i (Nat.zero_le _) hi) K _ _ e none a w ?_ hs (Fr.refl _ _) (fun h=>?_) (fun _=>rfl) fun q Z U=>?_
  ·rw[I];unfold left;exact Nat.le_trans (length_filter_le _ _) bn
  ·have aa:=(Array.getElem?_eq_some_iff.1 E).1;rw[I] at aa;simp[Array.getD_eq_getD_getElem?,aa] at h
  refine(h'.later fun o ho hd=>?_).symm;obtain⟨j,hj,rfl⟩:=mem_iff_getElem.1 ho;have O:j<(l.take m).toArray.size:=(by simpa using hj)
  have:=U j _ (by rw[←Array.getElem?_toList,getElem?_eq_getElem hj]) hd;rw[I] at O;simp[Array.getD_eq_getD_getElem?,O] at this)
variable {R:List (Nat×D)→Prop}
theorem Wk.agh(h:ny e e'):Wk ⟨n,(t,d)::e,S⟩ ⟨n,(t,d)::e',S⟩:=fun C a w hs=>⟨hs.defers,hs.size,fun q hq=>by
 have h1:=hs.env q hq;simp only[fS] at h1 ⊢;by_cases e1:t=q
 ·rw[if_pos e1] at h1 ⊢;exact h1
 rw[if_neg e1] at h1 ⊢;rcases h.look q with h2|h2
 ·rw[h2];exact h1
 rw[h2];exact .bS _,hs.own,hs.fr,hs.ex,hs.eL⟩
theorem nH(m:Nat)(ts:List Nat)(h:PE true P C.G n S (l.take m).toArray ts (l.take m) e fun l'=>OD P C l.toArray (l.drop m) ⟨n,l',S⟩ Q)(hm:P.follows .mixedOrders=true:=by kernel_rfl)(hl:Nat.ble m l.length=true:=by kernel_rfl)(hq:qG m l.toArray=true:=by kernel_rfl)(hp:mB (l.take m).toArray=true:=by kernel_rfl)(mD:Region.noSelect l.toArray=true:=by kernel_rfl)(nL:NP Q:=by exact Hj):CD P C (.region id l.toArray true) ⟨n,e,S⟩ Q:=by
 obtain⟨e',l',h1,h2,K⟩:=h;exact CD.pdT mD nL hm (Nat.le_of_ble_eq_true hl) hq hp h1 (OD.wk (Wk.kz h2.kz) K)
theorem gJ(m:Nat)(T:List Nat)(h:dH P C (l.take m).toArray (au x.S) T m (Array.replicate m false) x (Tl P C l.toArray (l.drop m) Q))(hT:∀b∈T,b∈au x.S)(hm:P.follows .mixedOrders=true:=by kernel_rfl)(hl:Nat.ble m l.length=true:=by kernel_rfl)(hq:qG m l.toArray=true:=by kernel_rfl)(mD:Region.noSelect l.toArray=true:=by kernel_rfl)(nL:NP Q:=by exact Hj):CD P C (.region id l.toArray true) x Q:=CD.FV m T mD nL hm (Nat.le_of_ble_eq_true hl) hq hT h
theorem e9{T:List Nat}{fuel:Nat}{bu:Array Oper}{l2:List Oper}(K:OD P C bu l2 x Q)(hr:Region.ready .any ops ld=[]:=by kernel_rfl):AD P C ops S1 T fuel ld x (Tl P C bu l2 Q):=AD.done hr K
theorem td (m ia:Nat) (ts:List Nat) (h:PE true P C.G n S (l.take m).toArray ts (l.take m) e fun l'=>look ta l' = .bS∧∀b,OD P C l.toArray (l.drop m) ⟨n,(ta,.v (.pointer (some ⟨b,0,none⟩)))::l',⟨b,te,(zs.map D.v).length,zs.map .v⟩::S⟩ Q) (hm:P.follows .mixedOrders=true:=by kernel_rfl) (hl:Nat.ble m l.length=true:=by kernel_rfl) (hq:qG m l.toArray=true:=by kernel_rfl) (hp:mB (l.take m).toArray=true:=by kernel_rfl)
  (mh:(l.take m)[ia]?=some oa:=by exact rfl) (ho:oa.op = .alloc te:=by exact rfl) (lH:oa.dst=some ta:=by exact rfl) (yh:oa.guard=none:=by exact rfl) (hz:sE P te=some zs:=by exact Sb.hz) (ht:ts.elem ta=true:=by exact rfl) (hne:isMap te=false:=by rfl) (mD:Region.noSelect l.toArray=true:=by kernel_rfl) (nL:NP Q:=by exact Hj):CD P C (.region id l.toArray true) ⟨n,e,S⟩ Q:=by
 obtain⟨e',l',h1,h2,hj,K⟩:=h;obtain⟨z,h3,h4⟩:=Bn hz;exact CD.pdA (hne:=hne) mD nL hm (Nat.le_of_ble_eq_true hl) hq hp mh ho lH yh h3 (by rw[h4]) h1 (by rw[←h2.at (mem_of_elem_eq_true ht)];exact hj) fun b=>OD.wk (Wk.agh h2.kz) (K b)
theorem og{c:Bool}{ts:List Nat}(K:PE c P G n S ops ts l ((t,.bS)::e) R)(ho:o.op = .alloc te:=by exact rfl)(hd:o.dst=some t:=by exact rfl)(hg:o.guard=none:=by exact rfl)(hz:sE P te=some zs:=by exact Sb.hz)(hq:(!c||nE ops o [])=true:=by kernel_rfl)(hne:isMap te=false:=by rfl):PE c P G n S ops ts (o::l) e R:=by
 obtain⟨z,h3,_⟩:=Bn hz;exact PE.cons hd fE.nil hq (sc hg) (Z8 (hne:=hne) ho hd h3) K

end Go.Proofs.YtdgichenhdikgaaGreatDoor.V
namespace Go.Proofs.YtdgichenhdikgaaGreatDoor.V
open List
open Go.RowKit
variable {P:Program} {C:dy} {G:List (Nat×List Value)} {Q:Exit→St→Prop} {x:St} {ops:Array Oper} {l:List Oper} {o:Oper} {S1 T:List Nat} {fuel i:Nat} {ld:Array Bool}
variable {t e:TypeId} {sz cap:Nat} {y:Operand} {lo hi:Option Operand} {ad:Option Addr} {Sq:List ah}
theorem HT {len j:Nat} {cs ds:List D} {k:IntKind} {i:Int} {z:Operand} (ho:o.op = .index t y z) (hy:aE x y = .agg cs) (hz:aE x z = .v (.int k i))
  (E:∀w,(underlying t).run P w = .ok (.array len e) w) (hs:∀w,(sizeOf e).run P w = .ok sz w) (ha:∀w,(isAgg e).run P w = .ok true w) (hi:i=j) (hj:j<len) (hd:(cs.drop (j*sz)).take sz=ds):bQ P G x o .none (.agg ds):=fun C a w _ h=>by
 have hr:=h.eval y;rw[hy] at hr;generalize hg:a.eval y=u at hr;subst hi hd;cases hr with
 | agg _ vs hl hr =>
  refine⟨.agg ((vs.drop (j*sz)).take sz).toArray,.agg _ _ (by simp[hl]) (fun i h1 h2=>?_),fun w' _=>?_⟩
  ·simp only[getElem_take,getElem_drop];exact hr _ _ _
  unfold execOp;simp[ho,hg,h.flat hz,Instr.index,asIntOf,E,hj,part,ha,asAgg,hs]
theorem D2 (ho:o.op = .slice t y lo hi none) (hy:aE x y = .v (.slice none 0 0)) (eK:mL x lo 0 0) (er:mL x hi 0 0)
  (E:∀w,(underlying t).run P w = .ok (.slice e) w) (hs:∀w,(sizeOf e).run P w = .ok sz w):bQ P G x o .none (.v (.slice none 0 0)):=fun C a w _ h =>
 ⟨_,.v _,fun w' _=>by
  have b1:=sj h eK;have b2:=sj h er;unfold execOp;simp[ho,h.flat hy,Instr.sliceAt,Instr.slice,E,v7 b1 b2 (Nat.zero_le _) (Nat.le_refl _),hs]⟩
theorem bp.pos{e n:Nat}{cs:List D}{S:List ah}(h:bp e sz cs n ad cap S)(hn:0<n):∃b,ad=some ⟨b,0,none⟩∧n≤cap∧cap≤maxLen∧S=[⟨b,e,cap*sz,cs⟩]:=by
 rcases h with ⟨h1,_,_,_,_⟩|h
 ·omega
 exact h
theorem D0 {e':TypeId} {sz' n k:Nat} {cs:List D} (ho:o.op = .slice t y lo hi none) (hy:aE x y = .v (.slice ad n cap)) (eK:mL x lo 0 0) (er:mL x hi k n)
  (I:∀w,(underlying t).run P w = .ok (.slice e) w) (hs:∀w,(sizeOf e).run P w = .ok sz w) (hk:k≤n) (E:bp e' sz' cs n ad cap Sq):bQ P G x o .none (.v (.slice ad k cap)):=by
 rcases E with ⟨h1,h2,rfl,rfl,rfl⟩|⟨b,rfl,h1,h2,rfl⟩
 ·subst h1;obtain rfl:k=0:=(by omega)
  exact D2 ho hy eK er I hs
 exact OI ho hy eK er I hs (Nat.le_trans hk h1)
theorem CD.sJ {c:Code} {α:Type} {g:α→List D} {ls:List α} {e k:Nat} {R:List ah} (hg:∀a,(g a).length=sz) (hk:k≤ls.length)
  (E:bp e sz (ls.flatMap g) ls.length ad cap Sq) (hp:x.S.Perm (Sq++R))
  (K:∀S',bp e sz ((ls.take k).flatMap g) (ls.take k).length ad cap S'→CD P C c ⟨x.n,x.env,S'++R⟩ Q):CD P C c x Q:=by
 have dU:(ls.take k).length=k:=(by rw[length_take];omega)
 refine CD.perm hp ?_;rcases E with ⟨h1,h2,rfl,rfl,rfl⟩|⟨b,rfl,h1,h2,rfl⟩
 ·have hl:ls=[]:=eq_nil_of_length_eq_zero h1;subst hl;exact K [] (.inl ⟨by simp,by simp,rfl,rfl,rfl⟩)
 refine CD.wk (Wk.shrink (n:=x.n) (l:=x.env) (k:=0) (cs':=(ls.take k).flatMap g) rfl ?_) ?_
 ·rw[←tW hg ls];exact take_prefix _ _
 exact K [⟨b,e,cap*sz,(ls.take k).flatMap g⟩] (.inr ⟨b,rfl,by rw[dU];omega,h2,rfl⟩)
theorem bz.ey {α:Type} {g:α→List D} {ls new:List α} {s:Operand} {t e tt bytes:Nat} {z:Value} {R:List ah} (hg:∀a,(g a).length=sz) (hg1:∀a,(g a).all one=true) (U:ops[i]?=some o) (hw:bY ops x o true) (ho:o.op = .call {callee:=.builtin .append,args:=#[s,y],argTypes:=#[t,t]}) (hd:o.dst=some tt)
  (ht:P.underlying t=some (.slice e)) (hi:(P.info? e).map (fun i=>(i.zero,i.size,i.bytes))=some (some z,sz,bytes)) (eO:z.cells.size=sz) (Z:0<sz)
  (hs:aE x s = .v (.slice ad ls.length cap)) (tr:bp e sz (ls.flatMap g) ls.length ad cap Sq) (hp:x.S.Perm (Sq++R))
  (hy:aE x y = .list sz (new.flatMap g) new.length) (hm:0<new.length) (gl:ls.length+new.length≤maxLen) (I:(ls.length+new.length)*bytes≤140737488355328)
  (K:∀O E,(ls++new).length≤E→E≤maxLen→AD P C ops S1 T fuel (ld.setIfInBounds i true) ⟨x.n,(tt,.v (.slice (some ⟨O,0,none⟩) (ls++new).length E))::x.env,⟨O,e,E*sz,(ls++new).flatMap g⟩::R⟩ Q) (hne:isMap e=false:=by rfl)
  (hT:∀b∈T,b∈au R:=by first|exact fun b hb=>hb|(intro b hb;simp[au] at hb ⊢;first|exact hb|exact .inl hb|(rcases hb with hb|hb<;>simp[hb])|(rcases hb with hb|hb|hb<;>simp[hb])|(rcases hb with hb|hb|hb|hb<;>simp[hb])|(rcases hb with hb|hb|hb|hb|hb<;>simp[hb])|(rcases hb with hb|hb|hb|hb|hb|hb<;>simp[hb])|(rcases hb with hb|hb|hb|hb|hb|hb|hb<;>simp[hb])|(rcases hb with hb|hb|hb|hb|hb|hb|hb|hb<;>simp[hb]))):bz P C ops S1 T fuel ld x Q i :=
 bz.Ei (hne:=hne) U hw ho hd ht hi eO Z hs tr hp (cn hg ls) hy (ue hg1 new) hm gl I hT fun O E h1 h2=>by
  have:=K O E (by rw[length_append];exact h1) h2;rw[length_append,flatMap_append] at this;exact this

end Go.Proofs.YtdgichenhdikgaaGreatDoor.V
namespace Go.Proofs.YtdgichenhdikgaaGreatDoor.V



open List
open Go.RowKit
variable {P:Program} {C:dy} {G:List (Nat×List Value)} {Q:Exit→St→Prop} {x:St} {ops:Array Oper} {l:List Oper} {o:Oper}
variable {kq kn:IntKind}
theorem Zw {s y:Operand} {t tn e tt m sz bytes:Nat} {z:Value} (ho:o.op = .call {callee:=.builtin .append,args:=#[s,y],argTypes:=#[t,tn]}) (hd:o.dst=some tt)
  (ht:P.underlying t=some (.slice e)) (Nz:P.underlying tn=some (.int kn)) (hi:(P.info? e).map (fun i=>(i.zero,i.size,i.bytes))=some (some z,sz,bytes)) (eO:z.cells.size=sz) (Z:0<sz)
  (hs:aE x s = .v (.slice none 0 0)) (hy:aE x y = .v (.int kq m)) (h0:0<m) (gl:m≤maxLen) (agi:m*bytes≤140737488355328) (jO:isMap e=false:=by rfl) :
  fN P G x o [] (fun y=>∃b' E,m≤E∧E≤maxLen∧y=⟨x.n,(tt,.v (.slice (some ⟨b',0,none⟩) m E))::x.env,⟨b',e,E*sz,[]⟩::x.S⟩):=fun C a w K Q hG h hK=>by
 obtain⟨i,kj,l9,py,qf⟩:=yX hi;have I:=Lib.run_append_nil_zeros (P:=P) w t tn o.type e i z kq kn ht Nz kj l9 m h0 (by rw[py];exact Z) (by simp only[maxLen] at gl;omega) (by rw[qf];omega);have h1:=grownCap_ge w m 0 e;have h2:=grownCap_le_maxLen w m 0 e gl;generalize grownCap w m 0 e=E at I h1 h2;generalize ajs:Builtin.zeroCells z.cells m++Builtin.zeroCells z.cells (E-m)=O at I;have yl:∀q,(Builtin.zeroCells z.cells q).size=q*sz:=fun q=>by simp[Builtin.zeroCells,eO]
 have iu:O.size=E*sz:=by
  rw[←ajs,Array.size_append,yl,yl,←Nat.add_mul];congr 1;omega
 have U:(execOp a.eval o).run P w = .ok (.value (.slice (some ⟨w.heap.size,0,none⟩) m E)) (w.drew.alloc (.cells O e)):=by
  unfold execOp;simp only[ho,resolve,invoke,builtin,Sem.run_bind,Sem.run_pure,Result.andThen_ok,map_toArray,map_cons,map_nil,h.flat hs,h.flat hy,I]
 obtain⟨s1,s2,s3⟩:=h.grown (w':=w.drew.alloc (.cells O e)) (t:=tt) (m:=m) (e:=e) (sz:=sz) (S:=x.S) (cs:=[]) (row:=none) (g:=w.heap.size) (cap:=E) (cur:=O) (hne:=jO) (Sublist.refl _) (fun k hk=>by cases hk)
  ⟨rfl,rfl,rfl,by show w.heap.size≤(w.heap.push _).size;simp,fun k hk _=>getElem?_push_lt (w:=w.drew) hk⟩ (.inr rfl) ML MM iu (Nat.zero_le _) (fun j hj=>by cases hj)
 unfold Oper.wp;rw[U,Oper.upon_value,hd];exact hK _ _ _ ⟨_,_,h1,h2,rfl⟩ s1 s2 s3
theorem OD.acL {s y:Operand} {t tn e tt m sz bytes:Nat} {z:Value} (hw:bY ops x o true) (ho:o.op = .call {callee:=.builtin .append,args:=#[s,y],argTypes:=#[t,tn]}) (hd:o.dst=some tt)
  (ht:P.underlying t=some (.slice e)) (Z:P.underlying tn=some (.int kn)) (hi:(P.info? e).map (fun i=>(i.zero,i.size,i.bytes))=some (some z,sz,bytes)) (eO:z.cells.size=sz) (O:0<sz)
  (hs:aE x s = .v (.slice none 0 0)) (hy:aE x y = .v (.int kq m)) (h0:0<m) (gl:m≤maxLen) (I:m*bytes≤140737488355328)
  (K:∀U E,m≤E→E≤maxLen→OD P C ops l ⟨x.n,(tt,.v (.slice (some ⟨U,0,none⟩) m E))::x.env,⟨U,e,E*sz,[]⟩::x.S⟩ Q) (jO:isMap e=false:=by rfl):OD P C ops (o::l) x Q :=
 OD.fV hw (Zw (jO:=jO) ho hd ht Z hi eO O hs hy h0 gl I) fun y ⟨U,E,h1,h2,hy⟩=>hy ▸ K U E h1 h2

end Go.Proofs.YtdgichenhdikgaaGreatDoor.V
namespace Go.Proofs.YtdgichenhdikgaaGreatDoor.V
open List
open Go.RowKit
variable {P:Program} {C:dy} {G:List (Nat×List Value)} {Q:Exit→St→Prop} {x:St}
variable {l:List (Nat×D)} {S':List ah} {cs':List D}
def Gv(d d':D):Prop:=∀w L v,cg w L d v→cg w L d' v
theorem dJ{d:D}:Gv d d:=fun _ _ _ h=>h
theorem eZ{sz:Nat}:Gv (.v (.slice none 0 0)) (.list sz [] 0):=fun _ _ _ h=>by rw[h.kV];exact .nil sz
def qj:List D→List D→Prop
 | [],[]=>True
 | d::r,d'::r'=>Gv d d'∧qj r r'
 | _,_=>False
theorem qj.spec:∀{a b:List D},qj a b→b.length=a.length∧∀i (h:i<a.length) (h':i<b.length),Gv a[i] b[i]
 | [],[],_=>⟨rfl,fun i h=>by simp at h⟩
 | d::r,d'::r',h=>by
  obtain⟨h1,h2⟩:=qj.spec h.2;refine⟨by simp[h1],fun i q E=>?_⟩;cases i with
  | zero=>exact h.1
  | succ i=>exact h2 i (by simpa using q) (by simpa using E)
 | [],_::_,h=>h.elim
 | _::_,[],h=>h.elim
theorem BA{a b:List D}(h:qj a b):Gv (.agg a) (.agg b):=fun w L v hr=>by
 obtain⟨h1,h2⟩:=h.spec;cases hr with
 | agg _ vs hl hq=>exact .agg b vs w4 fun i q E=>h2 i w4 q _ _ _ (hq i w4 E)
theorem Wk.cells{n:Nat}{S:List ah}{k:Nat}{B:ah}(hk:S[k]?=some B)(H:qj B.cs cs')(hS:S.set k {B with cs:=cs'}=S'):Wk ⟨n,l,S⟩ ⟨n,l,S'⟩:=fun C a w h=>by
 subst hS;obtain⟨H1,H2⟩:=H.spec;have dU:=(List.getElem?_eq_some_iff.1 hk).1;have O:=(List.getElem?_eq_some_iff.1 hk).2;have E:au (S.set k {B with cs:=cs'})=au S:=by
  unfold au;rw[map_set];apply ext_getElem bn;intro i q1 q2;rw[getElem_set];split
  ·rename_i e;subst e;simp[O]
  rfl
 have I:live C.X (S.set k {B with cs:=cs'})=live C.X S:=(by funext b;simp only[live,E])
 refine⟨h.defers,h.size,fun t ht=>?_,⟨fun B' U=>?_,?_⟩,?_,h.ex,h.eL⟩
 ·simp only[I];exact h.env t ht
 ·simp only[I];obtain⟨p,hp,gK⟩:=mem_iff_getElem.1 U;rw[length_set] at hp;rw[getElem_set] at gK;by_cases e:k=p
  ·rw[if_pos e] at gK;subst gK;obtain⟨r0,cur,r1,r2,r3,r4⟩:=h.own.at_ B (mem_of_getElem? hk);refine⟨r0,cur,r1,r2,by show cs'.length≤B.size;omega,fun q hq=>?_⟩;have Z:q<cs'.length:=hq;obtain⟨u,hu,hqr⟩:=r4 q w4;exact⟨u,hu,H2 q w4 Z _ _ _ hqr⟩
  rw[if_neg e] at gK;subst gK;exact h.own.at_ _ (getElem_mem hp)
 ·simp only[E];exact h.own.apart
 simp only[E];exact h.fr
theorem CD.cells{c:Code}{S':List ah}{k:Nat}{B:ah}{cs':List D}(hk:x.S[k]?=some B)(H:qj B.cs cs')(hS:x.S.set k {B with cs:=cs'}=S')(K:CD P C c ⟨x.n,x.env,S'⟩ Q):CD P C c x Q:=CD.wk (Wk.cells (n:=x.n) (l:=x.env) (S:=x.S) hk H hS) K
theorem Wk.I3 {n i j m cap e sz:Nat} {S Sq R:List ah} {A:ah} {cs:List D} {ad:Option Addr} (ho:bp e sz cs m ad cap Sq) (hl:cs.length=m*sz) (hp:S.Perm (Sq++R)) (hj:R[j]?=some A) (hi:A.cs[i]?=some (.v (.slice ad m cap)))
  (E:A.cs.set i (.list sz cs m)=cs') (hS:R.set j {A with cs:=cs'}=S') (hne:isMap e=false:=by rfl):Wk ⟨n,l,S⟩ ⟨n,l,S'⟩:=by
 refine(Wk.perm hp).trans ?_;rcases ho with ⟨rfl,rfl,rfl,rfl,rfl⟩|⟨b,rfl,h1,h2,rfl⟩
 ·refine Wk.cells (B:=A) hj ?_ hS;subst E;have key:∀(I:List D) (i:Nat),I[i]?=some (.v (.slice none 0 0))→qj I (I.set i (.list sz [] 0)):=by
   have O:∀r:List D,qj r r:=by
    intro r;induction r with
    | nil=>trivial
    | cons d r ih=>exact⟨dJ,ih⟩
   intro I;induction I with
   | nil=>intro i h;simp at h
   | cons d r ih =>
    intro i h;cases i with
    | zero=>simp only[getElem?_cons_zero,Option.some.injEq] at h;subst h;exact⟨eZ,O r⟩
    | succ i=>simp only[getElem?_cons_succ] at h;exact⟨dJ,ih i h⟩
  exact key _ _ hi
 exact Wk.af2 (hne:=hne) (k:=0) rfl hj hi rfl hl h1 h2 E hS
theorem CD.I3 {c:Code} {i j m cap e sz:Nat} {Sq R S':List ah} {A:ah} {cs cs':List D} {ad:Option Addr} (ho:bp e sz cs m ad cap Sq) (hl:cs.length=m*sz) (hp:x.S.Perm (Sq++R)) (hj:R[j]?=some A) (hi:A.cs[i]?=some (.v (.slice ad m cap)))
  (E:A.cs.set i (.list sz cs m)=cs') (hS:R.set j {A with cs:=cs'}=S') (K:CD P C c ⟨x.n,x.env,S'⟩ Q) (hne:isMap e=false:=by rfl):CD P C c x Q:=CD.wk (Wk.I3 (hne:=hne) (n:=x.n) (l:=x.env) (S:=x.S) ho hl hp hj hi E hS) K

end Go.Proofs.YtdgichenhdikgaaGreatDoor.V

namespace Go.Proofs.YtdgichenhdikgaaGreatDoor.V
open List
open Go.RowKit
variable {P:Program} {C:dy} {G:List (Nat×List Value)} {Q:Exit→St→Prop} {x:St} {ops:Array Oper} {l:List Oper} {o:Oper} {S1 T:List Nat} {fuel i:Nat} {ld:Array Bool}
theorem bz.KX {f t:Nat} {fo:Operand} {cX:Array Operand} {ts:Array TypeId} {args:List D} {post:D→List ah→Prop} (hi:ops[i]?=some o) (hw:bY ops x o true) (ho:o.op = .call {callee:=.value fo,args:=cX,argTypes:=ts}) (hd:o.dst=some t)
  (hf:fo = .func f) (fg:∀args w,(callFunc f args).run P w = .ok (.enter f args) w) (hc:VC P C.G f args [] post) (hr:∀r S',post r S'→kS r=true∧∀B∈S',∀d∈B.cs,kS d=true) (ha:Looks x cX.toList args)
  (K:∀r S',post r S'→AD P C ops S1 T fuel (ld.setIfInBounds i true) ⟨x.n,(t,r)::x.env,S'++x.S⟩ Q):bz P C ops S1 T fuel ld x Q i :=
 bz.fV hi hw (It ho hd hf fg hc hr ha) (fun _ _ _ _ b _ hb=>by simp at hb) (fun b hb=>by simp at hb) fun y ⟨r,S',hp,hy⟩=>hy ▸ K r S' hp
theorem S6:∀r:List D,qj r r
 | []=>trivial
 | _::r=>⟨dJ,S6 r⟩
theorem S8{d d':D}(h:Gv d d'):∀(r:List D) (i:Nat),qj (r.set i d) (r.set i d')
 | [],_=>trivial
 | _::r,0=>⟨h,S6 r⟩
 | _::r,i+1=>⟨dJ,S8 h r i⟩
theorem OD.cells{S':List ah}{k:Nat}{B:ah}{cs':List D}(hk:x.S[k]?=some B)(H:qj B.cs cs')(hS:x.S.set k {B with cs:=cs'}=S')(K:OD P C ops l ⟨x.n,x.env,S'⟩ Q):OD P C ops l x Q:=OD.wk (Wk.cells (n:=x.n) (l:=x.env) (S:=x.S) hk H hS) K

theorem Wk.agj{n t:Nat}{r d':D}{l:List (Nat×D)}{S R Sd:List ah}(hp:S.Perm (R++Sd))(ht:View Sd r d'):Wk ⟨n,(t,r)::l,S⟩ ⟨n,(t,d')::l,R⟩:=fun C a w h0=>by
 have h:=Wk.perm (n:=n) (env:=(t,r)::l) hp C a w h0;have h1:bG C ⟨n,(t,r)::l,R⟩ a w:=Wk.drop n ((t,r)::l) _ R (sublist_append_left _ _) C a w h;refine⟨h1.defers,h1.size,fun q hq=>?_,h1.own,h1.fr,h1.ex,h1.eL⟩;rw[fS];by_cases e:t=q
 ·subst e;rw[if_pos rfl];have hL:live C.X (R++Sd)=live (fun b=>live C.X R b) Sd:=by
   funext b;simp only[live,au,map_append,mem_append];exact propext or_assoc.symm
  have hnd:(au R++au Sd).Nodup:=(by have:=h.own.apart;simpa[au] using this)
  have I:∀b,live C.X R b→b∉au Sd:=fun b hb hm=>by
   rcases hb with hb|hb
   ·exact h.Ar b hb (by simp only[au,map_append,mem_append] at hm ⊢;exact .inr hm)
   exact(nodup_append.1 hnd).2.2 b hb b hm rfl
  have E:Own w (live (fun b=>live C.X R b) Sd) Sd:=⟨fun B O=>by rw[←hL];exact h.own.at_ B (mem_append_right _ O),(nodup_append.1 hnd).2.1⟩
  have h3:=h.env t hq;rw[fS,if_pos rfl] at h3;simp only[hL] at h3;exact ht (fun b=>live C.X R b) _ w _ (fun b hb=>hb) I E h3
 rw[if_neg e];have h3:=h1.env q hq;rwa [fS,if_neg e] at h3
theorem aa1 {f t:Nat} {fo:Operand} {cX:Array Operand} {ts:Array TypeId} {args:List D} {post:D→List ah→Prop} {d:D} (ho:o.op = .call {callee:=.value fo,args:=cX,argTypes:=ts}) (hd:o.dst=some t)
  (hf:fo = .func f) (fg:∀args w,(callFunc f args).run P w = .ok (.enter f args) w) (hc:VC P G f args [] post) (hr:∀r S',post r S'→kS r=true∧∀B∈S',∀d∈B.cs,kS d=true) (O:∀r S',post r S'→View S' r d) (ha:Looks x cX.toList args) :
  fN P G x o [] (fun y=>y=⟨x.n,(t,d)::x.env,x.S⟩):=fun C a w K R hG h hK=>by
 refine It ho hd hf fg hc hr ha C a w K R hG h fun y a' w' ⟨r,S',hp,hy⟩ I uM E=>?_;subst hy;have h1:Wk ⟨x.n,(t,r)::x.env,S'++x.S⟩ ⟨x.n,(t,d)::x.env,x.S⟩:=Wk.agj perm_append_comm (O r S' hp);refine hK _ a' w' rfl (h1 C a' w' I) uM ⟨E.os,E.tape,E.output,E.size,fun b hb hn=>⟨(E.block b hb hn).1,hn⟩⟩
section pe
variable {c:Bool} {n t f:Nat} {S:List ah} {ts:List Nat} {e lr:List (Nat×D)} {R:List (Nat×D)→Prop} {fo:Operand} {cX:Array Operand} {tt:Array TypeId} {args:List D} {d:D} {post:D→List ah→Prop}
theorem zO (hc:VC P G f args [] post) (yf:∀r S',post r S'→kS r=true∧∀B∈S',∀d∈B.cs,kS d=true) (E:∀r S',post r S'→View S' r d) (ho:o.op = .call {callee:=.value fo,args:=cX,argTypes:=tt}:=by exact rfl)
  (hd:o.dst=some t:=by exact rfl) (hr:fE (kC ops o) e lr:=by exact jB) (ha:Looks ⟨n,lr,S⟩ cX.toList args) (K:PE c P G n S ops ts l ((t,d)::e) R) (hq:(!c||nE ops o (kC ops o))=true:=by kernel_rfl) (hw:bY ops ⟨n,lr,S⟩ o true:=by exact pB) (hf:fo = .func f:=by exact rfl) (fg:xy P f=true:=by kernel_rfl):PE c P G n S ops ts (o::l) e R :=
 .cons hd hr hq hw (aa1 ho hd hf (Uv fg) hc yf E ha) K
theorem zP (hc:VP P G f args d) (ho:o.op = .call {callee:=.value fo,args:=cX,argTypes:=tt}:=by exact rfl)
  (hd:o.dst=some t:=by exact rfl) (hr:fE (kC ops o) e lr:=by exact jB) (ha:Looks ⟨n,lr,S⟩ cX.toList args) (K:PE c P G n S ops ts l ((t,d)::e) R) (yf:kS d=true:=by exact rfl) (hq:(!c||nE ops o (kC ops o))=true:=by kernel_rfl) (hw:bY ops ⟨n,lr,S⟩ o true:=by exact pB) (hf:fo = .func f:=by exact rfl) (fg:xy P f=true:=by kernel_rfl):PE c P G n S ops ts (o::l) e R :=
 zO hc (fun r S' h=>by obtain⟨rfl,rfl⟩:=h;exact⟨yf,fun B E=>by cases E⟩) (fun r S' h=>by obtain⟨rfl,rfl⟩:=h;exact eM) ho hd hr ha K hq hw hf fg
end pe
end Go.Proofs.YtdgichenhdikgaaGreatDoor.V

namespace Go.Proofs.YtdgichenhdikgaaGreatDoor.V
open List
open Go.RowKit
variable {P:Program} {C:dy} {G:List (Nat×List Value)} {Q:Exit→St→Prop} {ops:Array Oper} {l l2:List Oper} {o:Oper} {n t:Nat} {d:D} {e e' l':List (Nat×D)} {S S':List ah} {ts:List Nat} {c:Bool} {x:St}
variable {S1:List Nat} {zs:List Value}
structure Al where
 ia:Nat
 ta:Nat
 te:TypeId
 ds:List D
variable {al:List Al}
def ga(al:List Al)(ob:Nat→Option Nat):List ah:=al.flatMap fun a=>bx a.te a.ds (ob a.ta)
def nM(ob:Nat→Option Nat)(t b:Nat):Nat→Option Nat:=fun q=>if q=t then some b else ob q
theorem Q2{ob:Nat→Option Nat}{t b:Nat}:∀{al:List Al},(∀a∈al,a.ta≠t)→ga al (nM ob t b)=ga al ob
 | [],_=>rfl
 | a::al,h=>by
  unfold ga;rw[flatMap_cons,flatMap_cons];congr 1
  ·unfold nM;rw[if_neg (h a mem_cons_self)]
  exact Q2 fun x hx=>h x (mem_cons_of_mem _ hx)
theorem Ta{ob:Nat→Option Nat}{b:Nat}{a:Al}:∀{al:List Al},a∈al→(al.map Al.ta).Nodup→ob a.ta=none→(⟨b,a.te,a.ds.length,a.ds⟩::ga al ob).Perm (ga al (nM ob a.ta b))
 | [],h,_,_=>by cases h
 | y::al,h,hn,ho=>by
  rw[map_cons,nodup_cons] at hn;have e1:ga (y::al) ob=bx y.te y.ds (ob y.ta)++ga al ob:=rfl;have e2:ga (y::al) (nM ob a.ta b)=bx y.te y.ds (nM ob a.ta b y.ta)++ga al (nM ob a.ta b):=rfl;rw[e1,e2];by_cases hy:y=a
  ·subst hy;have h1:ga al (nM ob y.ta b)=ga al ob:=Q2 fun x hx e=>hn.1 (e ▸ mem_map_of_mem hx);have h2:nM ob y.ta b y.ta=some b:=(by unfold nM;rw[if_pos rfl])
   rw[h1,h2,ho];exact Perm.refl _
  have hm:a∈al:=by
   rcases mem_cons.1 h with h|h
   ·exact absurd h.symm hy
   exact h
  have hne:y.ta≠a.ta:=fun e=>hn.1 (e ▸ mem_map_of_mem hm);have h2:nM ob a.ta b y.ta=ob y.ta:=(by unfold nM;rw[if_neg hne])
  rw[h2];exact(perm_middle (a:=(⟨b,a.te,a.ds.length,a.ds⟩:ah)) (l₁:=bx y.te y.ds (ob y.ta)) (l₂:=ga al ob)).symm.trans (Perm.append_left _ (Ta hm hn.2 ho))
theorem Fr.ahQ{E w:World}{A B:List ah}(h:Fr E S1 w (au A))(hp:A.Perm B):Fr E S1 w (au B):=⟨h.os,h.tape,h.output,h.size,fun b h1 h2=>⟨(h.block b h1 h2).1,fun hm=>(h.block b h1 h2).2 ((hp.map ah.b).symm.subset hm)⟩⟩
def zQ(al:List Al)(f:Nat→Nat):List (Nat×D):=al.map fun a=>(a.ta,.v (.pointer (some ⟨f a.ta,0,none⟩)))
def made(al:List Al)(f:Nat→Nat):List ah:=al.map fun a=>⟨f a.ta,a.te,a.ds.length,a.ds⟩
theorem Q3{ob:Nat→Option Nat}{f:Nat→Nat}:∀{al:List Al},(∀a∈al,ob a.ta=some (f a.ta))→ga al ob=made al f
 | [],_=>rfl
 | a::al,h=>by
  show bx a.te a.ds (ob a.ta)++ga al ob=_;rw[h a mem_cons_self,Q3 fun x hx=>h x (mem_cons_of_mem _ hx)];rfl
theorem PB{f:Nat→Nat}{q:Nat}:∀{al:List Al},look q (zQ al f++e)=if q∈al.map Al.ta then .v (.pointer (some ⟨f q,0,none⟩)) else look q e
 | []=>by simp[zQ]
 | a::al=>by
  show look q ((a.ta,_)::(zQ al f++e))=_;rw[fS,PB (al:=al)];by_cases h:a.ta=q
  ·rw[if_pos h,if_pos (by rw[map_cons,h];exact mem_cons_self),h]
  rw[if_neg h,map_cons];by_cases h2:q∈al.map Al.ta
  ·rw[if_pos h2,if_pos (mem_cons_of_mem _ h2)]
  rw[if_neg h2,if_neg (fun hm=>by rcases mem_cons.1 hm with hm|hm;exact h hm.symm;exact h2 hm)]
theorem aez {eF:List (Nat×D)} {w1:World} (hA:∀a∈al,∃oa,ops[a.ia]?=some oa∧oa.dst=some a.ta∧oa.guard=none∧∀S',fN P C.G ⟨n,[],S'⟩ oa [] (wL ⟨n,[],S'⟩ a.ta a.te a.ds)) (hnd:(al.map Al.ta).Nodup)
  (hj:∀a∈al,look a.ta eF = .bS) (hp:mB ops=true) (H:∀i,i<ops.size→Gd P C.G n S ops eF i) (hQ:∀f,Q .normal ⟨n,zQ al f++eF,made al f++S⟩):∀(fuel:Nat) (ld:Array Bool) (env:List (Nat×D)) (ob:Nat→Option Nat) (a:Act) (w:World),
  left ops.size ld≤fuel→bG C ⟨n,env,ga al ob++S⟩ a w→Fr w1 S1 w (au (ga al ob++S))→(∀x∈al,ld.getD x.ia true=true→∃b,ob x.ta=some b∧look x.ta env = .v (.pointer (some ⟨b,0,none⟩)))→(∀x∈al,ld.getD x.ia true=false→ob x.ta=none) →
   (∀q,q∉al.map Al.ta→(∀j o,ops[j]?=some o→o.dst=some q→ld.getD j true=true)→look q env=look q eF)→wpAnyH P .any ops (LQ C Q) (kW w1 S1 []) fuel ld a w:=by
 have Hp:∀x∈al,∀j o,ops[j]?=some o→o.dst=some x.ta→j=x.ia:=fun x hx j o hj hd=>by
  obtain⟨oa,mh,lH,_,_⟩:=hA x hx;rcases Nat.lt_trichotomy j x.ia with q|q|q
  ·obtain⟨t',h1,h2⟩:=(wK hp mh).2;rw[lH] at h1;obtain rfl:=Option.some.inj h1;exact absurd hd (h2 j o q hj)
  ·exact q
  obtain⟨t',h1,h2⟩:=(wK hp hj).2;rw[hd] at h1;obtain rfl:=Option.some.inj h1;exact absurd lH (h2 x.ia oa q mh)
 have eS:∀(ld:Array Bool) (env:List (Nat×D)) (ob:Nat→Option Nat) (a:Act) (w:World),bG C ⟨n,env,ga al ob++S⟩ a w→(∀x∈al,ld.getD x.ia true=true→∃b,ob x.ta=some b∧look x.ta env = .v (.pointer (some ⟨b,0,none⟩)))→(∀q,q∉al.map Al.ta→(∀j o,ops[j]?=some o→o.dst=some q→ld.getD j true=true)→look q env=look q eF)→(∀j,j<ops.size→ld.getD j true=true)→LQ C Q .normal a w:=fun ld env ob a w hs hb he eY=>by
  have pC:∀x∈al,ob x.ta=some ((ob x.ta).getD 0)∧look x.ta env = .v (.pointer (some ⟨(ob x.ta).getD 0,0,none⟩)):=fun x hx=>by
   obtain⟨oa,mh,_⟩:=hA x hx;obtain⟨b,h1,h2⟩:=hb x hx (eY x.ia (Array.getElem?_eq_some_iff.1 mh).1);rw[h1];exact⟨rfl,h2⟩
  have x6:ga al ob=made al (fun q=>(ob q).getD 0):=Q3 fun x hx=>(pC x hx).1;rw[x6] at hs;refine .inl ⟨⟨n,zQ al (fun q=>(ob q).getD 0)++eF,made al (fun q=>(ob q).getD 0)++S⟩,⟨hs.defers,hs.size,fun q hq=>?_,hs.own,hs.fr,hs.ex,hs.eL⟩,hQ _⟩;have:=hs.env q hq;rw[PB];by_cases E:q∈al.map Al.ta
  ·rw[if_pos E];obtain⟨x,hx,rfl⟩:=mem_map.1 E;rw[(pC x hx).2] at this;exact this
  rw[if_neg E];rw[he q E fun j o hj _=>eY j (Array.getElem?_eq_some_iff.1 hj).1] at this;exact this
 intro fuel;induction fuel with
 | zero =>
  intro ld env ob a w hl hs hf hb jG he;have eY:∀j,j<ops.size→ld.getD j true=true:=fun j hj=>by
   cases hq:ld.getD j true with
   | true=>rfl
   | false=>have:=y5 hj hq;omega
  refine⟨?_,eS ld env ob a w hs hb he eY⟩;rw[eq_nil_iff_forall_not_mem];intro j hj;obtain⟨h1,o,h2,_⟩:=mem_ready.1 hj;have:=eY j (Array.getElem?_eq_some_iff.1 h2).1;rw[h1] at this;cases this
 | succ fuel ih =>
  intro ld env ob a w hl hs hf hb jG he;refine⟨fun h0=>eS ld env ob a w hs hb he (Kp hp h0),fun i hi=>?_⟩;obtain⟨lq,o,I,Cb⟩:=mem_ready.1 hi;have aa:=(Array.getElem?_eq_some_iff.1 I).1;have Wc:=y5 aa lq;have sM:∀j,(ld.setIfInBounds i true).getD j true=true↔j=i∨ld.getD j true=true:=fun j=>by
   by_cases hj:j=i
   ·subst hj;have iu:j<ld.size:=by
     rcases Nat.lt_or_ge j ld.size with h|h
     ·exact h
     rw[Array.getD_eq_getD_getElem?,Array.getElem?_eq_none h] at lq;cases lq
    simp[Array.getD_eq_getD_getElem?,Array.getElem?_setIfInBounds,iu]
   simp[Array.getD_eq_getD_getElem?,Array.getElem?_setIfInBounds,hj,Ne.symm hj]
  have O:∀j,j≠i→(ld.setIfInBounds i true).getD j true=ld.getD j true:=fun j hj=>by
   simp[Array.getD_eq_getD_getElem?,Array.getElem?_setIfInBounds,Ne.symm hj]
  by_cases rT:∃x∈al,x.ia=i
  ·obtain⟨x,hx,rfl⟩:=rT;obtain⟨oa,mh,lH,yh,hE⟩:=hA x hx;rw[mh] at I;obtain rfl:=Option.some.inj I;have pC:=jG x hx lq;unfold wpOp;rw[mh];have hw:Region.wanted oa (yielded ops a.tmps)=true:=(by simp[Region.wanted,yh])
   simp only[hw,if_true];have pA:bG C ⟨n,[],ga al ob++S⟩ a w:=⟨hs.defers,hs.size,fun q hq=>.bS _,hs.own,hs.fr,hs.ex,hs.eL⟩
   have h2:=hE (ga al ob++S) C a w (fun a' w'=>∃b,bG C ⟨n,[(x.ta,.v (.pointer (some ⟨b,0,none⟩)))],⟨b,x.te,x.ds.length,x.ds⟩::(ga al ob++S)⟩ a' w'∧Fr w (au (ga al ob++S)) w' (au (⟨b,x.te,x.ds.length,x.ds⟩::(ga al ob++S)))) (LQ C Q) rfl pA (fun y a' w' ⟨b,hy⟩ rS _ uH=>by subst hy;exact⟨b,rS,uH⟩);refine .inl (Oper.wp_mono (fun a' w' h3=>?_) (y4 h2));obtain⟨⟨b,h4,h5⟩,v,h6⟩:=h3;rw[lH] at h6;have vM:(⟨b,x.te,x.ds.length,x.ds⟩::(ga al ob++S)).Perm (ga al (nM ob x.ta b)++S):=Perm.append_right S (Ta hx hnd pC);have js:Fr w1 S1 w' (au (ga al (nM ob x.ta b)++S)):=Fr.ahQ (hf.trans h5) vM;have uK:=Wk.perm vM C a' w' (bG.Uw hs h4 h5 h6);refine⟨⟨fun b h2 h3=>(js.block b h2 h3).1,fun b h2=>by cases h2⟩,ih _ ((x.ta,.v (.pointer (some ⟨b,0,none⟩)))::env) (nM ob x.ta b) a' w' w4 uK js (fun y hy U=>?_) (fun y hy U=>?_) fun q hq uI=>?_⟩
   ·by_cases Z:y.ta=x.ta
    ·exact⟨b,by unfold nM;rw[if_pos Z],by rw[fS,if_pos Z.symm]⟩
    have C5:y.ia≠x.ia:=fun e=>by
     obtain⟨oy,Hr,C6,_⟩:=hA y hy;rw[e,mh] at Hr;obtain rfl:=Option.some.inj Hr;rw[lH] at C6;exact Z (Option.some.inj C6).symm
    rw[O _ C5] at U;obtain⟨b',h7,h8⟩:=hb y hy U;exact⟨b',by unfold nM;rw[if_neg Z];exact h7,by rw[fS,if_neg (fun e=>Z e.symm)];exact h8⟩
   ·by_cases C5:y.ia=x.ia
    ·have:=(sM y.ia).2 (.inl C5);rw[this] at U;cases U
    rw[O _ C5] at U;have Z:y.ta≠x.ta:=fun e=>by
     obtain⟨oy,Hr,C6,_⟩:=hA y hy;rw[e] at C6;exact C5 (Hp x hx _ _ Hr C6)
    unfold nM;rw[if_neg Z];exact jG y hy U
   rw[fS,if_neg (fun e:x.ta=q=>hq (e ▸ mem_map_of_mem hx))];refine he q hq fun j oj hj iS=>?_;rcases(sM j).1 (uI j oj hj iS) with rfl|h2
   ·rw[mh] at hj;obtain rfl:=Option.some.inj hj;rw[lH] at iS;exact absurd (Option.some.inj iS ▸ mem_map_of_mem hx) hq
   exact h2
  obtain⟨o',t,ts,l',h1,hd,hq,mb,hk,Nx⟩:=H i aa;rw[I] at h1;obtain rfl:=Option.some.inj h1;have LG:t∉al.map Al.ta:=fun hm=>by
   obtain⟨x,hx,e⟩:=mem_map.1 hm;exact rT ⟨x,hx,(Hp x hx i o I (by rw[hd,e])).symm⟩
  have jC:bG C ⟨n,l',ga al ob++S⟩ a w:=⟨hs.defers,hs.size,fun q CW=>by
   by_cases hm:q∈ts
   ·have tw:=hm;rw[←hk] at tw;obtain⟨p,fK,rfl⟩:=mem_map.1 tw;obtain⟨h2,h3⟩:=mb p fK;have h9:=hs.env p.1 CW;by_cases uD:p.1∈al.map Al.ta
    ·obtain⟨x,hx,e⟩:=mem_map.1 uD;rw[←h3,←e,hj x hx];exact .bS _
    have:look p.1 env=look p.1 l':=by
     rw[←h3];refine he p.1 uD fun j oj hj iS=>?_;obtain⟨e1,tc,iZ,jF⟩:=E0 hq hj iS h2;have:=Cb e1 tc iZ;rw[jF] at this;rw[Array.getD_eq_getD_getElem?] at this ⊢;cases hx:ld[j]? with
     | none=>rw[hx] at this;cases this
     | some b=>rw[hx] at this;exact this
    rw[this] at h9;exact h9
   have:look q l' = .bS:=by
    rw[←hk] at hm;exact EI hm
   rw[this];exact .bS _,hs.own,hs.fr,hs.ex,hs.eL⟩
  have jg:∀(a':Act) (w':World),bG C ⟨n,(t,look t eF)::env,ga al ob++S⟩ a' w'→Fr w (au (ga al ob++S)) w' (au (ga al ob++S))→kW w1 S1 [] w'∧wpAnyH P .any ops (LQ C Q) (kW w1 S1 []) fuel (ld.setIfInBounds i true) a' w':=fun a' w' rS uH=>by
   have js:Fr w1 S1 w' (au (ga al ob++S)):=hf.trans uH;have yj:∀x∈al,(ld.setIfInBounds i true).getD x.ia true=ld.getD x.ia true:=fun x hx=>O _ fun e=>rT ⟨x,hx,e⟩;refine⟨⟨fun b h2 h3=>(js.block b h2 h3).1,fun b h2=>by cases h2⟩,ih _ _ ob a' w' w4 rS js (fun x hx h=>?_) (fun x hx h=>jG x hx (by rw[yj x hx] at h;exact h)) fun q Hq uI=>?_⟩
   ·rw[yj x hx] at h;obtain⟨b,h2,h3⟩:=hb x hx h;exact⟨b,h2,by rw[fS,if_neg (fun e:t=x.ta=>LG (by rw[e];exact mem_map_of_mem hx))];exact h3⟩
   rw[fS];by_cases E:t=q
   ·rw[if_pos E,E]
   rw[if_neg E];refine he q Hq fun j oj hj iS=>?_;rcases(sM j).1 (uI j oj hj iS) with rfl|h2
   ·rw[I] at hj;obtain rfl:=Option.some.inj hj;rw[hd] at iS;exact absurd (Option.some.inj iS) E
   exact h2
  unfold wpOp;rw[I];rcases Nx with ⟨hw,Ny⟩|⟨hw,hv⟩
  ·simp only[hw.frame (B:=ga al ob) C a w jC,if_true];have h2:=Ny.frame (B:=ga al ob) C a w (fun a' w'=>bG C ⟨n,(t,look t eF)::l',ga al ob++S⟩ a' w'∧Fr w (au (ga al ob++S)) w' (au (ga al ob++S))) (LQ C Q) rfl jC (fun y a' w' hy rS _ uH=>by subst hy;exact⟨rS,uH⟩);refine .inl (Oper.wp_mono (fun a' w' h3=>?_) (y4 h2));obtain⟨⟨h4,h5⟩,v,h6⟩:=h3;rw[hd] at h6;exact jg a' w' (hs.zw h4 h5 h6) h5
  simp only[hw.frame (B:=ga al ob) C a w jC,hd];have:=hs.put (t:=t) (.v (w:=w) (L:=live C.X (ga al ob++S)) undef);rw[hv] at jg;exact jg _ w this (Fr.refl _ _)
theorem CD.pdL {id m:Nat} (mD:Region.noSelect l.toArray=true) (nL:NP Q) (hm:P.follows .mixedOrders=true) (hl:m≤l.length) (hq:qG m l.toArray=true) (hp:mB (l.take m).toArray=true) (hA:∀a∈al,∃oa,(l.take m)[a.ia]?=some oa∧oa.dst=some a.ta∧oa.guard=none∧∀S',fN P C.G ⟨n,[],S'⟩ oa [] (wL ⟨n,[],S'⟩ a.ta a.te a.ds)) (hnd:(al.map Al.ta).Nodup)
  (h:PD true P C.G n S (l.take m).toArray (l.take m) e [] e') (hj:∀a∈al,look a.ta e' = .bS) (K:∀f,OD P C l.toArray (l.drop m) ⟨n,zQ al f++e',made al f++S⟩ Q):CD P C (.region id l.toArray true) ⟨n,e,S⟩ Q :=
 CD.FV m [] mD nL hm hl hq (fun _ hb=>by cases hb) (fun a w hs _ _=>by
  have h':PD true P C.G n S (l.take m).toArray (l.take m).toArray.toList e [] e':=(by simpa using h)
  have hg:=h'.xw hp rfl 0 rfl;have E:∀a∈al,∃oa,(l.take m).toArray[a.ia]?=some oa∧oa.dst=some a.ta∧oa.guard=none∧∀S',fN P C.G ⟨n,[],S'⟩ oa [] (wL ⟨n,[],S'⟩ a.ta a.te a.ds):=fun a ha=>by
   obtain⟨oa,h1,h2⟩:=hA a ha;exact⟨oa,by simpa using h1,h2⟩
  have I:(l.take m).toArray.size=m:=(by simp;omega)
  have ng:ga al (fun _=>none)=[]:=by
   clear hA E hnd hj K;induction al with
   | nil=>rfl
   | cons a al ih=>show bx a.te a.ds none++ga al (fun _=>none)=[];rw[ih];rfl
  refine aez (Q:=Tl P C l.toArray (l.drop m) Q) E hnd hj hp (fun i hi=>hg i (Nat.zero_le _) hi) K _ _ e (fun _=>none) a w ?_ (by rw[ng];exact hs) (by rw[ng];exact Fr.refl _ _) (fun x hx h=>?_) (fun _ _ _=>rfl) fun q Hq Z=>?_
  ·rw[I];unfold left;exact Nat.le_trans (length_filter_le _ _) bn
  ·obtain⟨oa,O,_⟩:=E x hx;have aa:=(Array.getElem?_eq_some_iff.1 O).1;rw[I] at aa;simp[Array.getD_eq_getD_getElem?,aa] at h
  refine(h'.later fun o ho hd=>?_).symm;obtain⟨j,hj,rfl⟩:=mem_iff_getElem.1 ho;have U:j<(l.take m).toArray.size:=(by simpa using hj)
  have:=Z j _ (by rw[←Array.getElem?_toList,getElem?_eq_getElem hj]) hd;rw[I] at U;simp[Array.getD_eq_getD_getElem?,U] at this)
def Fs(P:Program)(l:List Oper)(ia ta te:Nat):Bool:=match l[ia]? with
 | some o=>(match o.op with|.alloc te'=>Nat.beq te' te|_=>false)&&(match o.dst with|some t=>Nat.beq t ta|none=>false)&&o.guard.isNone && !(isMap te)
 | none=>false
theorem Q4{l:List Oper}{ia ta te:Nat}(h:Fs P l ia ta te=true)(hz:sE P te=some zs):∃oa,l[ia]?=some oa∧oa.dst=some ta∧oa.guard=none∧∀S',fN P G ⟨n,[],S'⟩ oa [] (wL ⟨n,[],S'⟩ ta te (zs.map .v)):=by
 unfold Fs at h;split at h
 ·rename_i o ho;simp only[Bool.and_eq_true,Bool.not_eq_true'] at h;obtain⟨⟨⟨h1,h2⟩,h3⟩,h4⟩:=h;obtain⟨z,me,E⟩:=Bn hz;split at h1
  ·rename_i O I;obtain rfl:=Nat.eq_of_beq_eq_true h1;split at h2
   ·rename_i t hd;obtain rfl:=Nat.eq_of_beq_eq_true h2;exact⟨o,ho,hd,Option.isNone_iff_eq_none.1 h3,fun S'=>AW (hne:=h4) I hd me (by rw[E])⟩
   cases h2
  cases h1
 cases h
variable {R:List (Nat×D)→Prop}
theorem NA {id ta tb:Nat} {te tf:TypeId} {zt:List Value} (m ia ib:Nat) (ts:List Nat) (h:PE true P C.G n S (l.take m).toArray ts (l.take m) e fun l'=>look ta l' = .bS∧look tb l' = .bS∧∀b U,OD P C l.toArray (l.drop m) ⟨n,(ta,.v (.pointer (some ⟨b,0,none⟩)))::(tb,.v (.pointer (some ⟨U,0,none⟩)))::l',⟨b,te,(zs.map D.v).length,zs.map .v⟩::⟨U,tf,(zt.map D.v).length,zt.map .v⟩::S⟩ Q) (hm:P.follows .mixedOrders=true:=by kernel_rfl) (hl:Nat.ble m l.length=true:=by kernel_rfl) (hq:qG m l.toArray=true:=by kernel_rfl) (hp:mB (l.take m).toArray=true:=by kernel_rfl)
  (lH:((l.take m)[ia]?.bind (·.dst))=some ta:=by exact rfl) (hdb:((l.take m)[ib]?.bind (·.dst))=some tb:=by exact rfl) (hea:((l.take m)[ia]?.bind fun o=>match o.op with|.alloc te=>some te|_=>none)=some te:=by exact rfl) (heb:((l.take m)[ib]?.bind fun o=>match o.op with|.alloc te=>some te|_=>none)=some tf:=by exact rfl)
  (hz:sE P te=some zs:=by exact Sb.hz) (yc:sE P tf=some zt:=by exact Sb.hz) (ha:Fs P (l.take m) ia ta te=true:=by kernel_rfl) (hb:Fs P (l.take m) ib tb tf=true:=by kernel_rfl) (om:Nat.beq ta tb=false:=by kernel_rfl) (ht:ts.elem ta=true:=by exact rfl) (Hg:ts.elem tb=true:=by exact rfl) (mD:Region.noSelect l.toArray=true:=by kernel_rfl) (nL:NP Q:=by exact Hj):CD P C (.region id l.toArray true) ⟨n,e,S⟩ Q:=by
 obtain⟨e',l',h1,h2,hj,jr,K⟩:=h;have hne:ta≠tb:=fun e=>by rw[e,Nat.beq_refl] at om;cases om
 refine CD.pdL (al:=[⟨ia,ta,te,zs.map .v⟩,⟨ib,tb,tf,zt.map .v⟩]) mD nL hm (Nat.le_of_ble_eq_true hl) hq hp (fun a h=>?_) (by simp[hne]) h1 (fun a h=>?_) fun f=>OD.wk ?_ (K (f ta) (f tb))
 ·rcases mem_cons.1 h with rfl|h
  ·exact Q4 ha hz
  rw[mem_singleton] at h;subst h;exact Q4 hb yc
 ·rcases mem_cons.1 h with rfl|h
  ·show look ta e'=_;rw[←h2.at (mem_of_elem_eq_true ht)];exact hj
  rw[mem_singleton] at h;subst h;show look tb e'=_;rw[←h2.at (mem_of_elem_eq_true Hg)];exact jr
 intro C a w hs;have E:bG C ⟨n,(ta,.v (.pointer (some ⟨f ta,0,none⟩)))::(tb,.v (.pointer (some ⟨f tb,0,none⟩)))::e',⟨f ta,te,(zs.map D.v).length,zs.map .v⟩::⟨f tb,tf,(zt.map D.v).length,zt.map .v⟩::S⟩ a w:=hs;refine⟨E.defers,E.size,fun q hq=>?_,E.own,E.fr,E.ex,E.eL⟩;have I:=E.env q hq;simp only[fS] at I ⊢;by_cases e1:ta=q
 ·rw[if_pos e1] at I ⊢;exact I
 rw[if_neg e1] at I ⊢;by_cases e2:tb=q
 ·rw[if_pos e2] at I ⊢;exact I
 rw[if_neg e2] at I ⊢;rcases h2.kz.look q with O|O
 ·rw[O];exact I
 rw[O];exact .bS _

end Go.Proofs.YtdgichenhdikgaaGreatDoor.V
namespace Go.Proofs.YtdgichenhdikgaaGreatDoor.V
open List
open Go.RowKit
variable {H:Type} {enc:TypeId×Value→H} {P:Program} {w:World} {base:Nat} {sp:Nat→Bool} {held:Bool}
variable {α:Type} {t:TypeId}
def lY(fuel:Nat)(enc:TypeId×Value→H)(P:Program)(w:World)(base:Nat)(sp:Nat→Bool)(held:Bool)(t:TypeId)(g:α→List D)(ok:α→Prop):Prop :=
 ∀cs x,DataW.trod enc P w base sp held fuel t cs=some x→∃a,cx w (fun _=>False) (g a) cs∧ok a
theorem pz.at{g:α→List D}{ok:α→Prop}(h:pz enc P w base sp held t g ok)(n:Nat):lY n enc P w base sp held t g ok:=h n
theorem cx.one{w:World}{L:Nat→Prop}{d:D}{v:Value}(h:cg w L d v):cx w L [d] [v]:=⟨rfl,fun i h1 h2=>by
 have:i=0:=(by simpa using h1)
 subst this;exact h⟩
theorem PC{fuel:Nat}{e:TypeId}{sz:Nat}{g:α→List D}{ok:α→Prop}(ht:P.underlying t=some (.slice e))(Z:P.cellsOf e=sz)(iu:0<sz)(re:∀n,n+1=fuel→lY n enc P w base sp held e g ok)(hg:∀a,(g a).length=sz) :
  lY fuel enc P w base sp held t (fun l:List α=>[.list sz (l.flatMap g) l.length]) (fun l=>(∀x∈l,ok x)∧l.length≤maxLen):=fun cs x h=>by
 rcases DataW.trod_slice ht h with ⟨rfl,_⟩|⟨a,len,cap,apj,rest,n,hn,rfl,_,hb,hl,c8,hlen,C7,_,_⟩
 ·exact⟨[],cx.one (.nil sz),(fun x hx=>by cases hx),Nat.zero_le _⟩
 have re':=re n hn.symm;rcases Nat.eq_zero_or_pos len with h0|h0
 ·subst h0;exact⟨[],cx.one (.my sz (some a) cap),(fun x hx=>by cases hx),Nat.zero_le _⟩
 have each:∀i:Fin len,∃y:α,(∃cs',w.cells? base (a.add (i.1*P.cellsOf e)) (P.cellsOf e)=some cs'∧cx w (fun _=>False) (g y) cs')∧ok y:=fun i=>by
  have h1:=C7 i.1 i.2;rw[getElem?_eq_getElem (by rw[hlen];exact i.2)] at h1;cases hc:w.cells? base (a.add (i.1*P.cellsOf e)) (P.cellsOf e) with
  | none=>rw[hc] at h1;cases h1
  | some cs' =>
   rw[hc] at h1;obtain⟨y,h3,h4⟩:=re' _ _ h1;exact⟨y,⟨cs',rfl,h3⟩,h4⟩
 obtain⟨cs0,aP,_⟩:=(Classical.choose_spec (each ⟨0,h0⟩)).1;obtain⟨_,nh,h5⟩:=World.cells?_some aP;have h6:=h5 0 w4;rw[getElem?_eq_getElem w4,Nat.zero_mul,show(a.add 0).add 0=a from by simp[Addr.add]] at h6;have E:a.spot=none∧a.block<w.heap.size:=by
  unfold World.cell? at h6;cases hh:w.heap[a.block]? with
  | none=>rw[hh] at h6;cases h6
  | some o =>
   rw[hh] at h6;refine⟨?_,?_⟩
   ·cases o with
    | cells c t f =>
     cases hs:a.spot with
     | none=>rfl
     | some q=>simp[hs] at h6
    | _=>cases h6
   rcases Nat.lt_or_ge a.block w.heap.size with h2|h2
   ·exact h2
   rw[Array.getElem?_eq_none h2] at hh;cases hh
 obtain⟨b,o,s⟩:=a;obtain⟨rfl,aa⟩:=E;let l:List α:=ofFn fun i:Fin len=>Classical.choose (each i)
 have mc:l.length=len:=(by simp[l])
 have O:∀i (hi:i<l.length),(∃cs',w.cells? base ((⟨b,o,none⟩:Addr).add (i*P.cellsOf e)) (P.cellsOf e)=some cs'∧cx w (fun _=>False) (g l[i]) cs')∧ok l[i]:=fun i hi=>by
  have:=Classical.choose_spec (each ⟨i,by omega⟩);simpa[l] using this
 refine⟨l,cx.one ?_,fun x hx=>?_,by omega⟩
 ·have key:∀k,k<(l.flatMap g).length→∃u,w.cell? ⟨b,o+k,none⟩=some u∧∀h:k<(l.flatMap g).length,cg w (fun _=>False) (l.flatMap g)[k] u:=fun k hk=>by
   rw[cn hg] at hk;have hi:k/sz<l.length:=Nat.div_lt_of_lt_mul (by rw[Nat.mul_comm];exact hk);have hj:k % sz<sz:=Nat.mod_lt _ iu;have lF:k/sz*sz+k % sz=k:=(by rw[Nat.mul_comm];exact Nat.div_add_mod k sz)
   obtain⟨⟨cs',h1,h2⟩,_⟩:=O _ hi;obtain⟨_,h4,h5⟩:=World.cells?_some h1;have h6:=h5 (k % sz) w4;have U:k % sz<cs'.length:=(by omega)
   rw[getElem?_eq_getElem U,Go.Deep.add_add,Z,lF,Addr.add_mid] at h6;refine⟨_,h6,fun h=>?_⟩;have h7:=h2.2 (k % sz) (by rw[hg];exact hj) U;have h8:=yZ hg hi (getElem?_eq_getElem (show k % sz<(g l[k/sz]).length by rw[hg];exact hj));rw[lF,getElem?_eq_getElem h] at h8;rw[Option.some.inj h8];exact h7
  have I:Value.slice (some ⟨b,o,none⟩) len cap=Value.slice (some ⟨b,o,none⟩) l.length cap:=(by rw[mc])
  rw[I];refine cg.list (L:=fun _=>False) sz (l.flatMap g) l.length b o cap (fun k=>(w.cell? ⟨b,o+k,none⟩).getD undef) (cn hg l) w4 c8 aa (fun h=>h.elim) (fun k hk=>?_) (fun k hk=>?_)
  ·obtain⟨u,h1,_⟩:=key k hk;rw[h1];rfl
  obtain⟨u,h1,h2⟩:=key k hk;simp only[h1,Option.getD_some];exact h2 hk
 obtain⟨i,hi,rfl⟩:=mem_iff_getElem.1 hx;exact(O i hi).2
theorem Z9 {fuel:Nat} {f0 f1 f2 f3:Field} {E I O U:Type} {g0:E→List D} {g1:I→List D} {g2:O→List D} {g3:U→List D} {k0:E→Prop} {k1:I→Prop} {k2:O→Prop} {k3:U→Prop} {n0 n1 n2 n3:Nat}
  (ht:P.underlying t=some (.struct #[f0,f1,f2,f3])) (hc:P.cellsOf t=n0+n1+n2+n3) (o0:f0.offset=0) (o1:f1.offset=n0) (o2:f2.offset=n0+n1) (o3:f3.offset=n0+n1+n2) (c0:P.cellsOf f0.type=n0) (c1:P.cellsOf f1.type=n1) (c2:P.cellsOf f2.type=n2) (c3:P.cellsOf f3.type=n3)
  (r0:∀n,n+1=fuel→lY n enc P w base sp held f0.type g0 k0) (r1:∀n,n+1=fuel→lY n enc P w base sp held f1.type g1 k1) (r2:∀n,n+1=fuel→lY n enc P w base sp held f2.type g2 k2) (r3:∀n,n+1=fuel→lY n enc P w base sp held f3.type g3 k3) :
  lY fuel enc P w base sp held t (fun a:E × I × O × U=>g0 a.1++(g1 a.2.1++(g2 a.2.2.1++g3 a.2.2.2))) (fun a=>k0 a.1∧k1 a.2.1∧k2 a.2.2.1∧k3 a.2.2.2):=fun cs x h=>by
 obtain⟨xs,n,hn,_,hl,fZ,hf⟩:=DataW.trod_struct ht h;have Z:=hf 0 f0 rfl;have e1:=hf 1 f1 rfl;have e2:=hf 2 f2 rfl;have e3:=hf 3 f3 rfl;rw[o0,c0,drop_zero] at Z;rw[o1,c1] at e1;rw[o2,c2] at e2;rw[o3,c3] at e3;have Nb:xs.length=4:=fZ;rw[getElem?_eq_getElem w4] at Z e1 e2 e3;obtain⟨a0,p0,q0⟩:=r0 n hn.symm _ _ Z;obtain⟨a1,p1,q1⟩:=r1 n hn.symm _ _ e1;obtain⟨a2,p2,q2⟩:=r2 n hn.symm _ _ e2;obtain⟨a3,p3,q3⟩:=r3 n hn.symm _ _ e3;refine⟨(a0,a1,a2,a3),?_,q0,q1,q2,q3⟩;have dh:cs=cs.take n0++((cs.drop n0).take n1++((cs.drop (n0+n1)).take n2++(cs.drop (n0+n1+n2)).take n3)):=by
  rw[take_of_length_le (l:=drop (n0+n1+n2) cs) (by rw[length_drop];omega)];have e1:cs.drop (n0+n1+n2)=(cs.drop (n0+n1)).drop n2:=(by rw[drop_drop])
  have e2:cs.drop (n0+n1)=(cs.drop n0).drop n1:=(by rw[drop_drop])
  rw[e1,take_append_drop,e2,take_append_drop,take_append_drop]
 rw[dh];exact p0.append (p1.append (p2.append p3))
theorem agk {E:Array Field} {I:Nat} {g:α→List D} {ok:α→Prop} (ht:P.underlying t=some (.struct E)) (O:∀n,lY n enc P w base sp held t g ok) {v:Value} {d:DataW H} {p:List MemPlace}
  (hval:Value.okWide P w .any I t v) (h:DataW.Trod enc P w base sp held t v d p):∃a:α,cg w (fun _=>False) (.agg (g a)) v∧ok a∧True:=by
 unfold Value.okWide at hval;rw[ht] at hval;obtain⟨cs,rfl,_⟩:=hval;obtain⟨m,hm⟩:=h;obtain⟨a,h1,h2⟩:=O m _ _ hm;exact⟨a,by
  have:=cg.agg (w:=w) (L:=fun _=>False) (g a) cs.toList h1.1 (fun i q1 q2=>h1.2 i q1 q2);simpa using this,h2,trivial⟩

end Go.Proofs.YtdgichenhdikgaaGreatDoor.V
namespace Go.Proofs.YtdgichenhdikgaaGreatDoor.V
open List
open Go.RowKit
variable {P:Program} {C:dy} {G:List (Nat×List Value)} {Q:Exit→St→Prop} {x:St} {ops:Array Oper} {l:List Oper} {o:Oper} {S1 T:List Nat} {fuel i:Nat} {ld:Array Bool}
variable {y:Operand} {t e tt m b k cap:Nat} {B:ah} {kq kn:IntKind} {ts:Array TypeId}
def toEnd(B:ah):ah:={B with cs:=B.cs++replicate (B.size-B.cs.length) .bS}
theorem Wk.toEnd{n:Nat}{l:List (Nat×D)}{S:List ah}{k:Nat}{B:ah}(hk:S[k]?=some B):Wk ⟨n,l,S⟩ ⟨n,l,S.set k (V.toEnd B)⟩:=fun C a w h=>by
 have E:au (S.set k (V.toEnd B))=au S:=by
  unfold au;rw[map_set];have aa:k<S.length:=(List.getElem?_eq_some_iff.1 hk).1;have:(S.map ah.b)[k]'(by simpa using aa)=B.b:=(by rw[getElem_map];rw[(List.getElem?_eq_some_iff.1 hk).2])
  show(S.map ah.b).set k B.b=_;rw[←this,set_getElem_self]
 have hl:live C.X (S.set k (V.toEnd B))=live C.X S:=(by funext b;unfold live;rw[E])
 refine⟨h.defers,h.size,by simpa only[hl] using h.env,⟨fun B' I=>?_,by rw[E];exact h.own.apart⟩,by simpa only[E] using h.fr,h.ex,h.eL⟩;rw[hl];rcases mem_or_eq_of_mem_set I with I|rfl
 ·exact h.own.at_ B' I
 obtain⟨r0,cur,r1,r2,Z,U⟩:=h.own.at_ B (mem_of_getElem? hk);have key:∀i (hi:i<(B.cs++replicate (B.size-B.cs.length) D.bS).length),∃u,cur[i]?=some u∧cg w (live C.X S) (B.cs++replicate (B.size-B.cs.length) D.bS)[i] u:=fun i hi=>by
  have O:=hi;rw[length_append,length_replicate] at O;rcases Nat.lt_or_ge i B.cs.length with q|q
  ·obtain⟨u,hu,hq⟩:=U i q;exact⟨u,hu,by rw[getElem_append_left q];exact hq⟩
  exact⟨cur[i]'w4,Array.getElem?_eq_getElem w4,by rw[getElem_append_right q,getElem_replicate];exact .bS _⟩
 refine⟨r0,cur,r1,r2,?_,key⟩;show(B.cs++replicate (B.size-B.cs.length) D.bS).length≤B.size;rw[length_append,length_replicate];omega
theorem acM {d:Operand} {t2 m2 c b2 k2 od oy c2:Nat} {B2:ah} {new cs':List D} (ho:o.op = .call {callee:=.builtin .copy,args:=#[d,y],argTypes:=#[t,t2]}) (hd:o.dst=some tt)
  (ht:P.underlying t=some (.slice e)) (hi:(P.info? e).map (fun i=>i.size)=some 1)
  (hs:aE x d = .v (.slice (some ⟨b,od,none⟩) m c)) (hk:x.S[k]?=some B) (hb:B.b=b) (hy:aE x y = .v (.slice (some ⟨b2,oy,none⟩) m2 c2)) (fb:x.S[k2]?=some B2) (pD:B2.b=b2)
  (O:(B2.cs.drop oy).take (Nat.min m2 m)=new) (hlen:new.length=Nat.min m2 m) (iB:∀d∈new,one d=true) (hl:od+new.length≤B.cs.length) (dh:da B.cs od new=cs') (hne:isMap B.e=false:=by rfl) (jO:isMap B2.e=false:=by rfl) :
  fN P G x o [b] (fun y=>y=⟨x.n,(tt,.v (.int .i64 (new.length:Nat)))::x.env,x.S.set k {B with cs:=cs'}⟩):=fun C a w K Q hG h hK=>by
 subst dh hb pD;obtain⟨h0,cur,q1,q2,q3,q4⟩:=h.fp hk;rw[kp hne] at q1;obtain⟨h02,nX,p1,p2,p3,p4⟩:=h.fp fb;rw[kp jO] at p1;have ko:∀j,(hj:j<new.length)→∃hj2:oy+j<B2.cs.length,new[j]=B2.cs[oy+j]:=fun j hj=>by
  have h2:oy+j<B2.cs.length:=by
   have:=congrArg length O;rw[length_take,length_drop] at this;omega
  refine⟨h2,?_⟩;have e2:new[j]?=some B2.cs[oy+j]:=(by rw[←O,getElem?_take,if_pos w4,getElem?_drop,getElem?_eq_getElem h2])
  rw[getElem?_eq_getElem hj] at e2;exact Option.some.inj e2
 let vs:List Value:=(range new.length).map fun j=>nX.getD (oy+j) undef
 have E:vs.length=new.length:=(by simp[vs])
 have hv:∀j (hj:j<new.length),∃u,nX[oy+j]?=some u∧vs[j]?=some u∧cg w (live C.X x.S) new[j] u:=fun j hj=>by
  obtain⟨h1,h3⟩:=ko j hj;obtain⟨u,I,hq⟩:=p4 (oy+j) h1;refine⟨u,I,?_,h3 ▸ hq⟩;simp[vs,hj,I]
 have hr:cx w (live C.X x.S) new vs:=⟨by rw[E],fun j h1 h2=>by
  obtain⟨u,_,I,hq⟩:=hv j h1;rw[getElem?_eq_getElem h2] at I;rw[Option.some.inj I];exact hq⟩
 obtain⟨s1,s2,s3⟩:=h.store (hne:=hne) hk hr (o':=od) hl;have Z:=run_copy_cells (P:=P) w t t2 o.type e B.b od m c ⟨B2.b,oy,none⟩ m2 c2 vs ht hi (by rw[E,hlen]) (fun j u I=>by
   rw[Addr.add_mid];have hj:j<new.length:=(by rw[←E];exact(List.getElem?_eq_some_iff.1 I).1)
   obtain⟨u',x8,x9,_⟩:=hv j hj;rw[x9] at I;rw[←I];exact ow p1 x8) (fun j hj=>by
   have:od+j<cur.size:=(by rw[E] at hj;omega)
   rw[ow q1 (u:=cur[od+j]) (by simp[this])];rfl) (fun j hj=>by unfold World.frozen?;simp[q1]) (fun u I=>by
   obtain⟨j,hj,rfl⟩:=mem_iff_getElem.1 I;have jr:j<new.length:=(by omega)
   exact(hr.2 j jr hj).A8 (iB _ (getElem_mem jr)))
 have U:(execOp a.eval o).run P w = .ok (.value (goInt vs.length)) (w.setCells B.b od vs):=by
  unfold execOp;simp only[ho,resolve,invoke,builtin,Sem.run_bind,Sem.run_pure,Result.andThen_ok,map_toArray,map_cons,map_nil,h.flat hs,h.flat hy,Z]
 unfold Oper.wp;rw[U,Oper.upon_value,hd];exact hK _ _ _ rfl (s1.put (by rw[E];exact .v _)) s2 s3
theorem OD.copy {d y:Operand} {t t2 e tt m I c b b2 k k2 od oy U:Nat} {B B2:ah} {new cs':List D} (hw:bY ops x o true) (ho:o.op = .call {callee:=.builtin .copy,args:=#[d,y],argTypes:=#[t,t2]}) (hd:o.dst=some tt)
  (ht:P.underlying t=some (.slice e)) (hi:(P.info? e).map (fun i=>i.size)=some 1)
  (hs:aE x d = .v (.slice (some ⟨b,od,none⟩) m c)) (hk:x.S[k]?=some B) (hb:B.b=b) (hy:aE x y = .v (.slice (some ⟨b2,oy,none⟩) I U)) (fb:x.S[k2]?=some B2) (O:B2.b=b2)
  (E:(B2.cs.drop oy).take (Nat.min I m)=new) (hlen:new.length=Nat.min I m) (iB:∀d∈new,one d=true) (hl:od+new.length≤B.cs.length) (dh:da B.cs od new=cs')
  (K:OD P C ops l ⟨x.n,(tt,.v (.int .i64 (new.length:Nat)))::x.env,x.S.set k {B with cs:=cs'}⟩ Q) (hne:isMap B.e=false:=by rfl) (jO:isMap B2.e=false:=by rfl):OD P C ops (o::l) x Q :=
 OD.fV hw (acM (hne:=hne) (jO:=jO) ho hd ht hi hs hk hb hy fb O E hlen iB hl dh) fun y hy=>hy ▸ K
theorem ZL {s:Operand} {tn n bytes:Nat} {z:Value} (ho:o.op = .call {callee:=.builtin .append,args:=#[s,y],argTypes:=#[t,tn]}) (hd:o.dst=some tt)
  (ht:P.underlying t=some (.slice e)) (Nz:P.underlying tn=some (.int kn)) (hi:(P.info? e).map (fun i=>(i.zero,i.size,i.bytes))=some (some z,1,bytes)) (eO:z.cells.size=1)
  (hs:aE x s = .v (.slice (some ⟨b,0,none⟩) n cap)) (hk:x.S[k]?=some B) (hb:B.b=b) (hl:n≤B.cs.length) (hy:aE x y = .v (.int kq m)) (hg:cap<n+m) (h0:0<m) (gl:n+m≤maxLen) (O:(n+m)*bytes≤140737488355328) (hne:isMap B.e=false:=by rfl) (jO:isMap e=false:=by rfl) :
  fN P G x o [] (fun y=>∃b' E,n+m≤E∧E≤maxLen∧y=⟨x.n,(tt,.v (.slice (some ⟨b',0,none⟩) (n+m) E))::x.env,⟨b',e,E*1,B.cs.take n⟩::x.S⟩):=fun C a w K Q hG h hK=>by
 subst hb;obtain⟨i,kj,l9,py,qf⟩:=yX hi;obtain⟨r0,cur,r1,r2,r3,r4⟩:=h.fp hk;rw[kp hne] at r1;have lp:n≤cur.size:=(by omega)
 have hold:(Builtin.firstCells i.size n (.slice (some ⟨B.b,0,none⟩) n cap)).run P w.drew = .ok (cur.toList.take n).toArray w.drew:=by
  rw[py];exact run_firstCells_some w.drew 1 n ⟨B.b,0,none⟩ n cap (cur.toList.take n) ij (fun j v hj=>by
   rw[Addr.add_mid];rw[getElem?_take] at hj;split at hj
   ·rw[Array.getElem?_toList] at hj;have:w.drew.heap[B.b]?=some (.cells cur B.e (0,0)):=r1;exact ow this (by rw[Nat.zero_add];exact hj)
   cases hj)
 have I:=Lib.run_append_grow_zeros (P:=P) w t tn o.type e i z kq kn ht Nz kj l9 (some ⟨B.b,0,none⟩) n cap _ hold m h0 w4 hg (by simp only[maxLen] at gl;omega) (by rw[qf];exact Nat.le_trans (Nat.mul_le_mul_right _ (Nat.le_add_left m n)) w4) (by rw[qf];exact growslice_fits hg O);have h1:=grownCap_ge w (n+m) cap e;have h2:=grownCap_le_maxLen w (n+m) cap e gl;generalize grownCap w (n+m) cap e=E at I h1 h2;generalize Z:(cur.toList.take n).toArray++Builtin.zeroCells z.cells m++Builtin.zeroCells z.cells (E-(n+m))=U at I;have yl:∀q,(Builtin.zeroCells z.cells q).size=q:=fun q=>by
  obtain⟨u,hu⟩:∃u,z.cells = #[u]:=by
   have:z.cells.toList.length=1:=(by simpa using eO)
   obtain⟨u,hu⟩:=length_eq_one_iff.1 this;exact⟨u,by rw[←Array.toArray_toList (xs:=z.cells),hu]⟩
  simp[Builtin.zeroCells,hu]
 have iu:U.size=E*1:=by
  rw[←Z,Array.size_append,Array.size_append,yl,yl];simp;omega
 have KW:(execOp a.eval o).run P w = .ok (.value (.slice (some ⟨w.heap.size,0,none⟩) (n+m) E)) (w.drew.alloc (.cells U e)):=by
  unfold execOp;simp only[ho,resolve,invoke,builtin,Sem.run_bind,Sem.run_pure,Result.andThen_ok,map_toArray,map_cons,map_nil,h.flat hs,h.flat hy,I]
 obtain⟨s1,s2,s3⟩:=h.grown (w':=w.drew.alloc (.cells U e)) (t:=tt) (m:=n+m) (e:=e) (sz:=1) (S:=x.S) (cs:=B.cs.take n) (row:=none) (g:=w.heap.size) (cap:=E) (cur:=U) (hne:=jO) (Sublist.refl _) (fun k hk=>by cases hk)
  ⟨rfl,rfl,rfl,by show w.heap.size≤(w.heap.push _).size;simp,fun k hk _=>getElem?_push_lt (w:=w.drew) hk⟩ (.inr rfl) ML MM iu oO (fun j hj=>by
   have jr:j<n:=(by rw[length_take] at hj;omega)
   obtain⟨u,hu,hq⟩:=r4 j w4;refine⟨u,?_,by rw[getElem_take];exact hq⟩;rw[←Z,Array.append_assoc,Array.getElem?_append_left ij];simp[jr,hu])
 unfold Oper.wp;rw[KW,Oper.upon_value,hd];exact hK _ _ _ ⟨_,_,h1,h2,rfl⟩ s1 s2 s3
theorem OD.Tb {s:Operand} {tn n bytes:Nat} {z:Value} (hw:bY ops x o true) (ho:o.op = .call {callee:=.builtin .append,args:=#[s,y],argTypes:=#[t,tn]}) (hd:o.dst=some tt)
  (ht:P.underlying t=some (.slice e)) (U:P.underlying tn=some (.int kn)) (hi:(P.info? e).map (fun i=>(i.zero,i.size,i.bytes))=some (some z,1,bytes)) (eO:z.cells.size=1)
  (hs:aE x s = .v (.slice (some ⟨b,0,none⟩) n cap)) (hk:x.S[k]?=some B) (hb:B.b=b) (hl:n≤B.cs.length) (hy:aE x y = .v (.int kq m)) (hg:cap<n+m) (h0:0<m) (Z:n+m≤maxLen) (I:(n+m)*bytes≤140737488355328)
  (K:∀O E,n+m≤E→E≤maxLen→OD P C ops l ⟨x.n,(tt,.v (.slice (some ⟨O,0,none⟩) (n+m) E))::x.env,⟨O,e,E*1,B.cs.take n⟩::x.S⟩ Q) (hne:isMap B.e=false:=by rfl) (jO:isMap e=false:=by rfl):OD P C ops (o::l) x Q :=
 OD.fV hw (ZL (hne:=hne) (jO:=jO) ho hd ht U hi eO hs hk hb hl hy hg h0 Z I) fun y ⟨O,E,h1,h2,hy⟩=>hy ▸ K O E h1 h2
theorem Zx {f:FuncId} {fn:Func} {z:Operand} {r oy c b2 oz m2 c2 k2:Nat} {B2:ah} (ho:o.op = .call {callee:=.value (.func f),args:=#[y,z],argTypes:=ts}) (hd:o.dst=some tt)
  (hf : P.funcs[f]? = some fn) (BM : (fn.name == "runtime.NumGoroutine") = false) (Hs : fn.body.isNone = true) (hn : Extern.findNext fn = none) (he : Extern.find fn = some (Extern.SlicesOverlaps.overlaps #[t, t] #[r])) (ht : P.underlying t = some (.slice e)) (me : ∀ w, (sizeOf e).run P w = .ok 1 w)
  (hy:aE x y = .v (.slice (some ⟨b,oy,none⟩) m c)) (hk:x.S[k]?=some B) (hb:B.b=b) (hz:aE x z = .v (.slice (some ⟨b2,oz,none⟩) m2 c2)) (fb:x.S[k2]?=some B2) (pD:B2.b=b2) (lF:k≠k2) (uK:B2.size≠0) (hne:isMap B.e=false:=by rfl) (jO:isMap B2.e=false:=by rfl) :
  fN P G x o [] (fun s=>s=x.put tt (.v (.bool false))):=fun C a w K Q hG h hK=>by
 subst hb pD;obtain⟨r0,cur,r1,r2,r3,r4⟩:=h.fp hk;rw[kp hne] at r1;obtain⟨p0,nX,p1,p2,p3,p4⟩:=h.fp fb;rw[kp jO] at p1;have Yn:B.b≠B2.b:=fun e=>by
  have hnd:=h.own.apart;have l1:=(List.getElem?_eq_some_iff.1 hk).1;have l2:=(List.getElem?_eq_some_iff.1 fb).1;have e1:(au x.S)[k]?=some B.b:=(by unfold au;rw[getElem?_map,hk];rfl)
  have e2:(au x.S)[k2]?=some B2.b:=(by unfold au;rw[getElem?_map,fb];rfl)
  obtain⟨q1,e1⟩:=List.getElem?_eq_some_iff.1 e1;obtain⟨q2,e2⟩:=List.getElem?_eq_some_iff.1 e2;rcases Nat.lt_trichotomy k k2 with q|q|q
  ·exact pairwise_iff_getElem.1 hnd k k2 q1 q2 q (by rw[e1,e2,e])
  ·exact lF q
  exact pairwise_iff_getElem.1 hnd k2 k q2 q1 q (by rw[e1,e2,e])
 have hc:(callFunc f #[a.eval y,a.eval z]).run P w = .ok (.value (.bool false)) w:=by
  rw[h.flat hy,h.flat hz,run_callFunc_extern hf BM Hs hn he,Lib.run_overlaps_apart w t r e ht 1 me ⟨B.b,oy,none⟩ ⟨B2.b,oz,none⟩ m c m2 c2 Yn B.e B2.e cur.size nX.size (by simp[World.shape?,r1]) (by simp[World.shape?,p1]) w4 (by unfold World.frozen?;simp[r1]) (by unfold World.frozen?;simp[r1])];rfl
 unfold Oper.wp;have nW:(execOp a.eval o).run P w = .ok (.value (.bool false)) w:=by
  unfold execOp;have ef:a.eval (.func f) = .func (.func f) #[] #[]:=rfl;simp only[ho,resolve,ef,Deferred.ofValue,Sem.run_bind,Sem.run_pure,Result.andThen_ok,invoke];simp[hc]
 rw[nW,Oper.upon_value,hd];exact hK _ _ _ rfl (h.put (.v _)) (l7.refl _ _) (Fr.refl _ _)
theorem OD.overlaps {f:FuncId} {fn:Func} {y z:Operand} {ts:Array TypeId} {t r e tt b oy m c b2 oz m2 c2 k k2:Nat} {B B2:ah} (hw:bY ops x o true) (ho:o.op = .call {callee:=.value (.func f),args:=#[y,z],argTypes:=ts}) (hd:o.dst=some tt)
  (hf : P.funcs[f]? = some fn) (BM : (fn.name == "runtime.NumGoroutine") = false) (Hs : fn.body.isNone = true) (hn : Extern.findNext fn = none) (he : Extern.find fn = some (Extern.SlicesOverlaps.overlaps #[t, t] #[r])) (ht : P.underlying t = some (.slice e)) (me : ∀ w, (sizeOf e).run P w = .ok 1 w)
  (hy:aE x y = .v (.slice (some ⟨b,oy,none⟩) m c)) (hk:x.S[k]?=some B) (hb:B.b=b) (hz:aE x z = .v (.slice (some ⟨b2,oz,none⟩) m2 c2)) (fb:x.S[k2]?=some B2) (pD:B2.b=b2) (lF:k≠k2) (uK:B2.size≠0)
  (K:OD P C ops l (x.put tt (.v (.bool false))) Q) (hne:isMap B.e=false:=by rfl) (jO:isMap B2.e=false:=by rfl):OD P C ops (o::l) x Q :=
 OD.fV hw (Zx (hne:=hne) (jO:=jO) ho hd hf BM Hs hn he ht me hy hk hb hz fb pD lF uK) fun y hy=>hy ▸ K
theorem Ej {t e:TypeId} {ad:Option Addr} {len:Nat} (ho:o.op = .call {callee:=.builtin .cap,args:=#[y],argTypes:=ts}) (ht:ts = #[t]) (hy:aE x y = .v (.slice ad len cap))
  (E:∀w,(underlying t).run P w = .ok (.slice e) w):bQ P G x o .none (.v (.int .i64 cap)):=fun C a w _ h=>⟨_,.v _,fun w' _=>by
 subst ht;unfold execOp;simp[ho,resolve,invoke,builtin,Builtin.cap_,h.flat hy,E,goInt]⟩

end Go.Proofs.YtdgichenhdikgaaGreatDoor.V
namespace Go.Proofs.YtdgichenhdikgaaGreatDoor.V

open List
open Go.RowKit
variable {P:Program} {C:dy} {G:List (Nat×List Value)} {Q:Exit→St→Prop} {x:St} {ops:Array Oper} {l:List Oper} {o:Oper}
variable {t e:TypeId} {cap sz n tt bytes:Nat} {k2 k3:IntKind} {y hi E:Operand} {ad:Option Addr} {Sq:List ah}
theorem Zy {b len:Nat} (ho:o.op = .slice t y none (some hi) (some E)) (hy:aE x y = .v (.slice (some ⟨b,0,none⟩) len cap)) (er:aE x hi = .v (.int k2 n)) (c8:aE x E = .v (.int k3 n))
  (I:∀w,(underlying t).run P w = .ok (.slice e) w) (hs:∀w,(sizeOf e).run P w = .ok sz w) (h3:n≤cap):bQ P G x o .none (.v (.slice (some ⟨b,0,none⟩) n n)):=fun C a w _ h =>
 ⟨_,.v _,fun w' _=>by
  have b3:∀w,(Instr.sliceBounds true len cap none (some (.int k2 n)) (some (.int k3 n))).run P w = .ok (0,n,n) w:=fun w=>by
   unfold Instr.sliceBounds;simp[D6,h3]
  unfold execOp;simp only[ho,h.flat hy,h.flat er,h.flat c8,Instr.sliceAt,Instr.slice,I,Sem.run_bind,Result.andThen_ok,Option.map_some,Option.map_none,b3,hs,Sem.run_pure];by_cases hc:n=0
  ·rw[if_pos hc];simp
  rw[if_neg hc];simp[Addr.add]⟩
theorem aeA(len cap n:Nat)(h3:n≤cap)(w:World):(Instr.sliceBounds true len cap none (some (.int k2 n)) (some (.int k3 n))).run P w = .ok (0,n,n) w:=by
 unfold Instr.sliceBounds;simp[D6,h3]
theorem Zk (ho:o.op = .slice t y none (some hi) (some E)) (hy:aE x y = .v (.slice none 0 0)) (er:aE x hi = .v (.int k2 n)) (c8:aE x E = .v (.int k3 n)) (hn:n=0)
  (I:∀w,(underlying t).run P w = .ok (.slice e) w) (hs:∀w,(sizeOf e).run P w = .ok sz w):bQ P G x o .none (.v (.slice none 0 0)):=fun C a w _ h =>
 ⟨_,.v _,fun w' _=>by
  have b3:=fun w=>aeA (P:=P) (k2:=k2) (k3:=k3) 0 0 n w4 w;unfold execOp;simp only[ho,h.flat hy,h.flat er,h.flat c8,Instr.sliceAt,Instr.slice,I,Sem.run_bind,Result.andThen_ok,Option.map_some,Option.map_none,b3,hs,Sem.run_pure];subst hn;simp⟩
theorem Zl {s:Operand} {t e m b k:Nat} {z:Value} {B:ah} {cs:List D} (ho:o.op = .call {callee:=.builtin .append,args:=#[s,y],argTypes:=#[t,t]}) (hd:o.dst=some tt)
  (ht:P.underlying t=some (.slice e)) (hi:(P.info? e).map (fun i=>(i.zero,i.size,i.bytes))=some (some z,sz,bytes)) (eO:z.cells.size=sz) (iu:0<sz)
  (hs:aE x s = .v (.slice (some ⟨b,0,none⟩) n n)) (hk:x.S[k]?=some B) (hb:B.b=b) (hl:n*sz≤B.cs.length)
  (hy:aE x y = .list sz cs m) (iB:∀d∈cs,one d=true) (apk:∀d∈B.cs.take (n*sz),one d=true) (hm:0<m) (gl:n+m≤maxLen) (agi:(n+m)*bytes≤140737488355328) (hne:isMap B.e=false:=by rfl) (jO:isMap e=false:=by rfl) :
  fN P G x o [] (fun y=>∃b' E,n+m≤E∧E≤maxLen∧y=⟨x.n,(tt,.v (.slice (some ⟨b',0,none⟩) (n+m) E))::x.env,⟨b',e,E*sz,B.cs.take (n*sz)++cs⟩::x.S⟩):=fun C a w K Q hG h hK=>by
 subst hb;obtain⟨i,kj,l9,py,qf⟩:=yX hi;obtain⟨r0,cur,r1,r2,r3,r4⟩:=h.fp hk;rw[kp hne] at r1;have hr:=h.eval y;rw[hy] at hr;generalize hg:a.eval y=u at hr;cases hr with
 | my=>omega
 | list _ _ _ b' o' E f mb q1 q2 jG hL hc As =>
  have Gl:Builtin.nextslicecap (n+m) n*bytes≤281474976710656:=by
   have q1:=nextslicecap_le (need:=n+m) (old:=n) w4;have q2:=Nat.mul_le_mul_right bytes q1;rw[Nat.mul_assoc] at q2;omega
  have I:=Go.run_append_grow (P:=P) (w:=w) t o.type e i z ht kj l9 ⟨B.b,0,none⟩ n n (cur.toList.take (n*sz)) (by rw[py];simp;omega) (fun j v hv=>by
    have hj:=(List.getElem?_eq_some_iff.1 hv).1;rw[length_take] at hj;rw[getElem?_take_of_lt w4,Array.getElem?_toList] at hv;rw[Addr.add_mid,Nat.zero_add];exact ow r1 hv) ⟨b',o',none⟩ m E ((range cs.length).map f) (by rw[py];simp[mb]) (fun j u hu=>by
    rw[Addr.add_mid];obtain⟨hj,he⟩:=List.getElem?_eq_some_iff.1 hu;simp only[length_map,length_range] at hj;rw[hc j hj,←he];simp) w4 (by simp only[maxLen] at gl;omega) (by rw[qf];exact Gl)
  have h1:=grownCap_ge w (n+m) n e;have h2:=grownCap_le_maxLen w (n+m) n e gl;generalize grownCap w (n+m) n e=cp at I h1 h2;generalize O:(cur.toList.take (n*sz)).toArray++((range cs.length).map f).toArray++Builtin.zeroCells z.cells (cp-(n+m))=Z at I;have yl:∀q,(Builtin.zeroCells z.cells q).size=q*sz:=fun q=>by simp[Builtin.zeroCells,eO]
  have aa:(cur.toList.take (n*sz)).length=n*sz:=(by rw[length_take];simp;omega)
  have Ce:Z.size=cp*sz:=by
   rw[←O,Array.size_append,Array.size_append,yl];simp only[size_toArray,aa,length_map,length_range,mb,←Nat.add_mul];congr 1;omega
  have Yo:(B.cs.take (n*sz)++cs).length=(n+m)*sz:=(by rw[length_append,length_take,mb,Nat.add_mul];omega)
  obtain⟨s1,s2,s3⟩:=h.grown (w':=w.drew.alloc (.cells Z e)) (t:=tt) (m:=n+m) (e:=e) (sz:=sz) (S:=x.S) (cs:=B.cs.take (n*sz)++cs) (row:=none) (g:=w.heap.size) (cap:=cp) (cur:=Z) (hne:=jO) (Sublist.refl _) (fun k hk=>by cases hk)
   ⟨rfl,rfl,rfl,by show w.heap.size≤(w.heap.push _).size;simp,fun k hk _=>getElem?_push_lt (w:=w.drew) hk⟩ (.inr rfl) ML MM Ce (by rw[Yo];exact Nat.mul_le_mul_right _ h1) (fun j hj=>by
    rw[Yo,Nat.add_mul] at hj;by_cases ko:j<n*sz
    ·obtain⟨u,hu,hq⟩:=r4 j w4;refine⟨u,?_,?_⟩
     ·rw[←O,Array.getElem?_append_left (by simp[aa];omega),Array.getElem?_append_left (by simp[aa];omega),getElem?_toArray,getElem?_take_of_lt ko,Array.getElem?_toList,hu]
     rw[getElem_append_left oO,getElem_take];exact hq
    have U:j-n*sz<cs.length:=(by omega)
    refine⟨f (j-n*sz),?_,?_⟩
    ·rw[←O,Array.getElem?_append_left (by simp[aa];omega),Array.getElem?_append_right (by simp[aa];omega)];simp[aa,U]
    rw[getElem_append_right oO];have:=As (j-n*sz) U;have e1:(B.cs.take (n*sz)).length=n*sz:=(by rw[length_take];omega)
    simp only[e1];exact this)
  unfold Oper.wp;rw[AU (P:=P) ho (h.flat hs) hg I,Oper.upon_value,hd];exact hK _ _ _ ⟨_,_,h1,h2,rfl⟩ s1 s2 s3
theorem Zm {len:Nat} {cs:List D} (O:bp e sz cs len ad cap Sq) (ho:o.op = .slice t y none (some hi) (some E)) (hy:aE x y = .v (.slice ad len cap)) (er:aE x hi = .v (.int k2 n)) (c8:aE x E = .v (.int k3 n))
  (I:∀w,(underlying t).run P w = .ok (.slice e) w) (hs:∀w,(sizeOf e).run P w = .ok sz w) (hn:n≤len):bQ P G x o .none (.v (.slice ad n n)):=by
 rcases O with ⟨rfl,rfl,rfl,rfl,rfl⟩|⟨b,rfl,h1,h2,rfl⟩
 ·have h:=Zk (P:=P) (G:=G) ho hy er c8 w4 I hs;obtain rfl:n=0:=(by omega)
  exact h
 exact Zy ho hy er c8 I hs w4
theorem OD.aaa {α:Type} {g:α→List D} {ls new:List α} {s:Operand} {t e:Nat} {z:Value} {R:List ah} (hg:∀a,(g a).length=sz) (hg1:∀a,(g a).all one=true) (hw:bY ops x o true) (ho:o.op = .call {callee:=.builtin .append,args:=#[s,y],argTypes:=#[t,t]}) (hd:o.dst=some tt)
  (ht:P.underlying t=some (.slice e)) (hi:(P.info? e).map (fun i=>(i.zero,i.size,i.bytes))=some (some z,sz,bytes)) (eO:z.cells.size=sz) (U:0<sz)
  (hs:aE x s = .v (.slice ad n n)) (hO:bp e sz (ls.flatMap g) ls.length ad cap Sq) (hp:x.S.Perm (Sq++R)) (hn:n≤ls.length)
  (hy:aE x y = .list sz (new.flatMap g) new.length) (hm:0<new.length) (Z:n+new.length≤maxLen) (I:(n+new.length)*bytes≤140737488355328)
  (K:∀O E,(ls.take n++new).length≤E→E≤maxLen→OD P C ops l ⟨x.n,(tt,.v (.slice (some ⟨O,0,none⟩) (ls.take n++new).length E))::x.env,⟨O,e,E*sz,(ls.take n++new).flatMap g⟩::R⟩ Q) (hne:isMap e=false:=by rfl):OD P C ops (o::l) x Q:=by
 have hlen:(ls.take n++new).length=n+new.length:=(by rw[length_append,length_take];omega)
 rcases hO with ⟨h1,h2,rfl,rfl,rfl⟩|⟨b,rfl,h1,h2,rfl⟩
 ·have Yp:ls=[]:=length_eq_zero_iff.1 h1;subst Yp;obtain rfl:n=0:=(by simpa using hn)
  refine OD.ey (hne:=hne) (ls:=([]:List α)) (new:=new) (Sq:=[]) (R:=R) (ad:=none) (cap:=0) hg hg1 hw ho hd ht hi eO U hs (.inl ⟨rfl,rfl,rfl,rfl,rfl⟩) hp hy hm (by simpa using Z) (by simpa using I) ?_;intro O E q1 q2;exact K O E (by simpa using q1) q2
 refine OD.perm hp ?_;refine OD.fV (fun C a w h=>hw C a w (Wk.perm hp.symm C a w h)) (Zl (hne:=hne) (jO:=hne) (k:=0) ho hd ht hi eO U hs rfl rfl (by rw[cn hg];exact Nat.mul_le_mul_right _ hn) hy (ue hg1 new) (by rw[tW hg];exact ue hg1 _) hm Z I) ?_;rintro _ ⟨O,E,q1,q2,rfl⟩;have k:=K O E (by rw[hlen];exact q1) q2;rw[hlen,flatMap_append,←tW hg] at k;exact OD.wk (Wk.drop _ _ _ _ (Sublist.cons_cons _ (Sublist.cons _ (Sublist.refl _)))) k
variable {S1 T:List Nat} {fuel i:Nat} {ld:Array Bool}
theorem bz.pJ {α:Type} {g:α→List D} {ls new:List α} {s:Operand} {t e:Nat} {z:Value} {R:List ah} (hg:∀a,(g a).length=sz) (hg1:∀a,(g a).all one=true) (U:ops[i]?=some o) (hw:bY ops x o true) (ho:o.op = .call {callee:=.builtin .append,args:=#[s,y],argTypes:=#[t,t]}) (hd:o.dst=some tt)
  (ht:P.underlying t=some (.slice e)) (hi:(P.info? e).map (fun i=>(i.zero,i.size,i.bytes))=some (some z,sz,bytes)) (eO:z.cells.size=sz) (iu:0<sz) (hu:∀w,(underlying t).run P w = .ok (.slice e) w) (At:∀w,(sizeOf e).run P w = .ok sz w)
  (hs:aE x s = .v (.slice ad ls.length cap)) (O:bp e sz (ls.flatMap g) ls.length ad cap Sq) (hp:x.S.Perm (Sq++R))
  (hy:aE x y = .list sz (new.flatMap g) new.length) (gl:ls.length+new.length≤maxLen) (I:(ls.length+new.length)*bytes≤140737488355328)
  (K:∀Z E S',bp e sz ((ls++new).flatMap g) (ls++new).length Z E S'→AD P C ops S1 T fuel (ld.setIfInBounds i true) ⟨x.n,(tt,.v (.slice Z (ls++new).length E))::x.env,S'++R⟩ Q) (hne:isMap e=false:=by rfl)
  (hT:∀b∈T,b∈au R:=by (intro b hb;simp[au] at hb ⊢;try first|exact hb|omega)):bz P C ops S1 T fuel ld x Q i:=by
 rcases Nat.eq_zero_or_pos new.length with h0|h0
 ·have hn:new=[]:=eq_nil_of_length_eq_zero h0;subst hn;refine bz.still U hw hd (OB ho hu At hs O.le hy) ?_;have:=K ad cap Sq (by rw[append_nil];exact O);rw[append_nil] at this;exact AD.perm hp this
 exact bz.ey (hne:=hne) (hT:=hT) hg hg1 U hw ho hd ht hi eO iu hs O hp hy h0 gl I fun b' E h1 h2=>K _ E _ (bM h1 h2)

end Go.Proofs.YtdgichenhdikgaaGreatDoor.V
namespace Go.Proofs.YtdgichenhdikgaaGreatDoor.V
open List
open Go.RowKit
variable {P:Program} {C:dy} {G:List (Nat×List Value)} {Q:Exit→St→Prop} {x:St} {ops:Array Oper} {l:List Oper} {o:Oper} {S1 T:List Nat} {fuel i:Nat} {ld:Array Bool}
variable {L:Nat→Prop} {bs:List UInt8} {n:Nat}
theorem ON{w w':World}{v:Value}(hr:cg w L (.list 1 (bs.flatMap cB) n) v)(hw:∀b,b<w.heap.size→¬L b→w'.heap[b]?=w.heap[b]?) :
  (Extern.Bytes.bytesOf v).run P w' = .ok ⟨bs.toArray⟩ w':=by
 rw[Kn] at hr;generalize dh:bs.map vk=cs at hr;cases hr with
 | my _ ad cap =>
  have:bs=[]:=(by simpa using dh)
  subst this;cases ad<;>rfl
 | list _ _ _ b I cap g hl q1 q2 hb hL hc U =>
  subst dh;simp only[length_map,Nat.mul_one] at hl hc;have E:=Lib.run_loadBytesX (P:=P) w' (bs.map fun c=>(c.toNat:Int)) ⟨b,I,none⟩ .empty (fun j x hj=>by
   rw[Addr.add_mid];have O:j<bs.length:=(by have:=(List.getElem?_eq_some_iff.1 hj).1;simpa using this)
   have Z:=World.cell?_of_block (w:=w) (a:=⟨b,I+j,none⟩) (hw b hb hL);rw[Z,hc j O];have h1:=U j (by simpa using O);simp only[getElem_map,vk] at h1;rw[h1.kV];rw[getElem?_map,getElem?_eq_getElem O] at hj;simp only[Option.map_some,Option.some.injEq] at hj;rw[hj])
  rw[length_map,hl] at E;have e:Lib.bytesOf (bs.map fun c=>(c.toNat:Int))=bs:=by
   unfold Lib.bytesOf;rw[map_map];have:∀c:UInt8,((fun n:Int=>UInt8.ofNat n.toNat) ∘ fun c:UInt8=>(c.toNat:Int)) c=c:=fun c=>by simp
   rw[map_congr_left (g:=id) (fun c _=>this c),map_id]
  rw[e] at E;show(Extern.Bytes.loadBytes ⟨b,I,none⟩ n .empty).run P w'=_;rw[E];congr 1;apply ByteArray.ext;show(#[]:Array UInt8)++bs.toArray=bs.toArray;simp
theorem Zf {f:FuncId} {fn:Func} {y z:Operand} {ts:Array TypeId} {ds:List UInt8} {m:Nat} (ho:o.op = .call {callee:=.value (.func f),args:=#[y,z],argTypes:=ts}) (hy:aE x y = .list 1 (ds.flatMap cB) n) (hz:aE x z = .list 1 (bs.flatMap cB) m)
  (hf : P.funcs[f]? = some fn) (BM : (fn.name == "runtime.NumGoroutine") = false) (hb : fn.body.isNone = true) (hn : Extern.findNext fn = none) (he : Extern.find fn = some Extern.BytealgCompare.compare) :
  bQ P G x o .jU (.v (.int .i64 (Lib.compareBytes ds bs))):=fun C a w _ h=>by
 have h1:=h.eval y;have h2:=h.eval z;rw[hy] at h1;rw[hz] at h2;refine⟨_,.v _,fun w' hw=>?_⟩;have e1:=ON (P:=P) h1 hw;have e2:=ON (P:=P) h2 hw;have hc:(callFunc f #[a.eval y,a.eval z]).run P w' = .ok (.value (.int .i64 (Lib.compareBytes ds bs))) w':=by
  rw[run_callFunc_extern hf BM hb hn he];have:(Extern.BytealgCompare.compare #[a.eval y,a.eval z]).run P w' = .ok (.int .i64 (Lib.compareBytes ds bs)) w':=by
   change Sem.run P (do pure (goInt (Extern.BytealgCompare.cmp (←Extern.Bytes.bytesOf (a.eval y)) (←Extern.Bytes.bytesOf (a.eval z))))) w'=_;simp only[Sem.run_bind,e1,e2,Sem.run_pure,Result.andThen_ok,Lib.cmp_eq];rfl
  rw[this];rfl
 unfold execOp;have ef:a.eval (.func f) = .func (.func f) #[] #[]:=rfl;generalize Nf:a.eval y=u at *;generalize yc:a.eval z=v at *;simp only[ho,resolve,ef,Deferred.ofValue,Sem.run_bind,Sem.run_pure,Result.andThen_ok,invoke];simp[hc,Nf,yc]
theorem Wk.agl{l:List (Nat×D)}{S:List ah}{k:Nat}{B:ah}{cs':List D}(hk:S[k]?=some B)(hl:cs'.length≤B.size)(hc:∀(i:Nat) (d:D),cs'[i]?=some d→∃d0,B.cs[i]?=some d0∧∀(w:World) (L:Nat→Prop) (v:Value),cg w L d0 v→cg w L d v):Wk ⟨n,l,S⟩ ⟨n,l,S.set k {B with cs:=cs'}⟩:=fun C a w h=>by
 have dU:=(List.getElem?_eq_some_iff.1 hk).1;have U:=(List.getElem?_eq_some_iff.1 hk).2;have E:au (S.set k {B with cs:=cs'})=au S:=by
  unfold au;rw[map_set];apply ext_getElem bn;intro i q1 q2;rw[getElem_set];split
  ·rename_i e;subst e;simp[U]
  rfl
 have I:live C.X (S.set k {B with cs:=cs'})=live C.X S:=(by funext b;simp only[live,E])
 refine⟨h.defers,h.size,fun t ht=>?_,⟨fun B' Z=>?_,?_⟩,?_,h.ex,h.eL⟩
 ·simp only[I];exact h.env t ht
 ·simp only[I];obtain⟨j,hj,O⟩:=mem_iff_getElem.1 Z;rw[length_set] at hj;rw[getElem_set] at O;by_cases e:k=j
  ·rw[if_pos e] at O;subst O;obtain⟨r0,cur,r1,r2,r3,r4⟩:=h.own.at_ B (mem_of_getElem? hk);refine⟨r0,cur,r1,r2,hl,fun i hi=>?_⟩;simp only at hi hl;obtain⟨d0,hd,As⟩:=hc i _ (getElem?_eq_getElem hi);obtain⟨hd1,hd2⟩:=List.getElem?_eq_some_iff.1 hd;obtain⟨u,hu,hq⟩:=r4 i hd1;rw[hd2] at hq;exact⟨u,hu,As _ _ _ hq⟩
  rw[if_neg e] at O;subst O;exact h.own.at_ _ (getElem_mem hj)
 ·simp only[E];exact h.own.apart
 simp only[E];exact h.fr
theorem cg.ofNil{w:World}(sz:Nat){v:Value}(h:cg w L (.v (.slice none 0 0)) v):cg w L (.list sz [] 0) v:=by rw[h.kV];exact .nil sz
theorem Wk.Wh{l:List (Nat×D)}{S:List ah}{k:Nat}{b e:Nat}{sz sz':Nat}(hk:S[k]?=some ⟨b,e,2,[.v (.slice none 0 0),.v (.slice none 0 0)]⟩):Wk ⟨n,l,S⟩ ⟨n,l,S.set k ⟨b,e,2,[.list sz [] 0,.list sz' [] 0]⟩⟩ :=
 Wk.agl hk bn fun i d hd=>by
  match i,hd with
  | 0,hd=>cases hd;exact⟨_,rfl,fun _ _ _ h=>h.ofNil sz⟩
  | 1,hd=>cases hd;exact⟨_,rfl,fun _ _ _ h=>h.ofNil sz'⟩
  | i+2,hd=>simp at hd
theorem agm {α:Type} {g:α→List D} {t e:TypeId} {sz l' h':Nat} {lo hi:Option Operand} (hg:∀a,(g a).length=sz) {ls:List α} (eK:lo=none→l'=0) (er:hi=none→h'=ls.length)
  (E:∀w,(underlying t).run P w = .ok (.slice e) w) (hs:∀w,(sizeOf e).run P w = .ok sz w) (h1:l'≤h') (h2:h'≤ls.length):Rs P G t lo hi l' h' (.list sz (ls.flatMap g) ls.length) (.list sz (((ls.take h').drop l').flatMap g) ((ls.take h').drop l').length):=by
 have h:=nP (P:=P) (G:=G) (sz:=sz) (cs:=ls.flatMap g) eK er E hs h1 h2;rw[u4 hg,tW hg,←drop_take] at h;rw[show((ls.take h').drop l').length=h'-l' by rw[length_drop,length_take];omega];exact h

theorem VC.args{f:FuncId}{cs bs:List D}{S:List ah}{post:D→List ah→Prop}(h:VC P G f cs S post)(hl:bs.length=cs.length)(hr:∀(w:World) (L:Nat→Prop) (i:Nat) (h1:i<cs.length) (h2:i<bs.length) (v:Value),cg w L bs[i] v→cg w L cs[i] v):VC P G f bs S post:=fun X w vs hp=>by
 refine h X w vs ⟨hp.ex,hp.eL,hp.own,?_,fun i h1 h2=>?_⟩
 ·rw[hp.args.1,hl]
 exact hr w _ i h1 w4 _ (hp.args.2 i w4 h2)

end Go.Proofs.YtdgichenhdikgaaGreatDoor.V
namespace Go.Proofs.YtdgichenhdikgaaGreatDoor.V

open List
abbrev ae(x:Int):D:=.v (.int .i64 x)
abbrev cQ(b:Nat):D:=.v (.pointer (some ⟨b,0,none⟩))
abbrev bH:D:=.v (.slice none 0 0)
abbrev fk:D:=.v (.string ⟨#[]⟩)
abbrev aN(a:Option Addr)(n c:Nat):D:=.v (.slice a n c)
abbrev bj(s:ByteArray):D:=.v (.string s)
abbrev bJ(b:Bool):D:=.v (.bool b)
abbrev av{α:Type}(n:Nat)(g:α→List D)(l:List α):D:=.list n (l.flatMap g) l.length
theorem dR:maxLen=9223372036854775807:=rfl

end Go.Proofs.YtdgichenhdikgaaGreatDoor.V
