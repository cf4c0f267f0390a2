/-
  GC: walks and plain facts, part 3.
-/
import Derived.Test.YtbplamgacibdaaaGreatDoorPGC2
set_option linter.unusedVariables false
set_option linter.unusedSimpArgs false
set_option maxRecDepth 100000
set_option maxHeartbeats 4000000
namespace Go.Proofs.YtbplamgacibdaaaGreatDoor.V
open List
open Go.RowKit
variable {P:Program} {C:dG} {G:List (Nat×List Value)} {Q:Exit->St->Prop} {x y:St} {ops:Array Oper} {o:Oper} {ro:Nat} {α:Type}
variable {c:Code} {S:List ah} {post:D->List ah->Prop}
def CI(P:Program)(C:dG)(ro:Nat)(c:Code)(x:St)(Q:Exit->St->Prop):Prop:=∀a w,bI C x a w->c.wpIn (Fence.wide.inRound ro) 0 P (LQ C Q) a w
def ah7(P:Program)(C:dG)(ro:Nat)(c:Code)(Q:Exit->St->Prop):Exit->St->Prop
 | .normal,y=>CI P C ro c y Q
 | e,y=>Q e y
def NO(Q:Exit->St->Prop):Prop:=∀y,¬Q .outgrown y
theorem CI.skip(h:Q .normal x):CI P C ro .skip x Q:=fun a w hs=>wpIn_skip (.inl ⟨x,hs,h⟩)
theorem CI.exit{id:Nat}(h:Q (.exit id) x):CI P C ro (.exit id) x Q:=fun a w hs=>wpIn_exit (.inl ⟨x,hs,h⟩)
theorem CI.seq{c d:Code}(h:CI P C ro c x (ah7 P C ro d Q)):CI P C ro (.seq c d) x Q:=fun a w hs =>
 wpIn_seq (wpIn_mono (h a w hs) fun e a' w' h=>by
  rcases h with ⟨y,h1,h2⟩|⟨rfl,h⟩
  ·cases e<;>first|exact h2 a' w' h1|exact .inl ⟨y,h1,h2⟩
  exact .inr ⟨rfl,h⟩)
theorem CI.cond{c:Operand}{d e:Code}{b:Bool}(hc:aG x c = .v (.bool b))(ht:b=true->CI P C ro d x Q)(hf:b=false->CI P C ro e x Q):CI P C ro (.cond c d e) x Q:=fun a w hs =>
 wpIn_cond_split (hs.flat hc) (fun h=>ht h a w hs) (fun h=>hf h a w hs)
theorem CI.LG{c:Operand}{d e:Code}{b:Bool}(hc:aG x c = .v (.bool b))(hb:b=false)(hf:CI P C ro e x Q):CI P C ro (.cond c d e) x Q:=fun a w hs =>
 wpIn_cond_false (by rw[hs.flat hc,hb]) (hf a w hs)
theorem CI.block{id:Nat}{c:Code}(h:CI P C ro c x (BO id Q)):CI P C ro (.block id c) x Q:=fun a w hs =>
 wpIn_block (wpIn_mono (h a w hs) fun e a' w' h=>by
  rcases h with ⟨y,h1,h2⟩|⟨rfl,h⟩
  case inr=>exact .inr ⟨rfl,h⟩
  cases e with
  | exit tu =>
   simp only[BO] at h2;simp only[Exit.inBlock];by_cases he:tu=id
   ·subst he;rw[if_pos rfl];simp at h2;exact .inl ⟨y,h1,h2⟩
   rw[if_neg he];have:Nat.beq tu id=false:=by
    cases h:Nat.beq tu id with
    | false=>rfl
    | true=>exact absurd (Nat.eq_of_beq_eq_true h) he
   rw[this] at h2;exact .inl ⟨y,h1,h2⟩
  | _=>exact .inl ⟨y,h1,h2⟩)
def Mr(l:List Oper):Bool:=l.all fun o=>match o.op with|.defer _=>false|_=>true
theorem Kh{Q:Exit->Act->World->Prop}(lB:¬LetsOut Q):∀(l:List Oper),Mr l=true->∀a w,wpList P ops Q l a w->wpListIn (Fence.wide.inRound ro) 0 P ops Q l a w
 | [],_,a,w,h=>h
 | o::l,hd,a,w,h=>by
  unfold Mr at hd;rw[all_cons,Bool.and_eq_true] at hd;obtain⟨hd1,hd2⟩:=hd;unfold wpList at h;unfold wpListIn;split at h
  ·rename_i hw;rw[if_pos hw];rcases h with h|⟨_,h⟩
   ·exact Oper.wpIn_mono (fun a w h=>Kh lB l hd2 a w h) (T0 (some ro) (fun c hc=>by rw[hc] at hd1;cases hd1) h)
   exact absurd h lB
  rename_i hw;rw[if_neg hw];exact⟨fun _ _=>trivial,Kh lB l hd2 _ _ h⟩
theorem CI.region{id:Nat}{l:List Oper}(lB:NO Q)(hd:Mr l=true)(h:OD P C l.toArray l x Q):CI P C ro (.region id l.toArray false) x Q:=fun a w hs =>
 wpIn_region_lit (Kh (fun ⟨a,w,hq⟩=>by
  rcases hq with ⟨y,_,hq⟩|⟨hq,_⟩
  ·exact lB y hq
  cases hq) l hd a w (h a w hs))
def Ms:List Tmp->List D->List (Nat×D)->List (Nat×D)
 | t::ts,d::ds,env=>Ms ts ds ((t,d)::env)
 | _,_,env=>env
theorem bI.params{n:Nat}{S:List ah}:∀{ts:List Tmp} {ds:List D} {vs:List Value} {env:List (Nat×D)} {tm:Array Value} {w:World},bI C ⟨n,env,S⟩ {tmps:=tm,defers:=[]} w->cD w (live C.X S) ds vs->ds.length=ts.length->bI C ⟨n,Ms ts ds env,S⟩ {tmps:=(ts.zip vs).foldl (fun tm (t,v)=>tm.setIfInBounds t v) tm,defers:=[]} w
 | [],ds,vs,env,tm,w,h,_,hl=>by
  have:ds=[]:=length_eq_zero_iff.1 hl;subst this;exact h
 | t::ts,[],_,_,_,_,_,_,hl=>by cases hl
 | t::ts,d::ds,[],_,_,_,_,hr,_=>by simp[cD] at hr
 | t::ts,d::ds,v::vs,env,tm,w,h,hr,hl=>by
  obtain⟨h0,h1⟩:=hr.tail;exact bI.params (env:=(t,d)::env) (tm:=tm.setIfInBounds t v) (h.put h0) h1 uI
def agL(J Jx:List α->List ah->Prop)(jc:Code)(xs:List α):Exit->St->Prop
 | .normal,z=>∃S',S'.Sublist z.S/\J xs S'
 | .ret,z=>jc = .ret/\∃S',S'.Sublist z.S/\Jx xs S'
 | .exit i,z=>jc = .exit i/\∃S',S'.Sublist z.S/\Jx xs S'
 | _,_=>False
def zQ(P:Program)(fn:Func)(post:D->List ah->Prop)(y:St):Prop :=
 (y.env.all fun p=>jb p.2)=true/\(∀B∈y.S,fS B.cs=true)/\∃r S',S'.Sublist y.S/\tw P fn y r/\jb r=true/\post r S'
def ah8(P:Program)(fn:Func)(post:D->List ah->Prop)(e:Exit)(y:St):Prop:=e = .ret/\zQ P fn post y
def mark(D:Nat):Deferred:={target:=.collected D,args:=#[]}
def xH(P:Program)(fn:Func)(post:D->List ah->Prop)(X:Nat->Prop)(w0:World)(S0:List Nat):Act->World->Prop:=fun a w =>
 ∃(Dd:Nat) (C':dG) (y:St),C'.X=X/\a.defers=[mark Dd]/\Fr w0 S0 C'.w0 C'.S0/\w0.heap.size<=Dd/\Dd<C'.w0.heap.size/\Dd∉C'.S0/\C'.w0.heap[Dd]?=some (.deferred (some []))/\bI C' y a w/\zQ P fn post y
theorem bI.Vh {a:Act} {w:World} (h:bI C y a w) {l:Nat} {U o2:Obj} (hl:w.heap[l]?=some U) (ho:U.isCells=false) (O:l∉av y.S) (hlX:¬C.X l) (hn:(y.env.all fun p=>jb p.2)=true) (hS:∀B∈y.S,fS B.cs=true)
  (I:l5 G (w.putObj l o2) (av y.S) C.X) (Dp:Act->World->Prop):bI ⟨C.X,w.putObj l o2,av y.S,G,a.defers,Dp⟩ y a (w.putObj l o2):=by
 have aa:l<w.heap.size:=(Array.getElem?_eq_some_iff.1 hl).1;have E:(w.putObj l o2).heap.size=w.heap.size:=World.putObj_size;have H:∀b,b≠l->(w.putObj l o2).heap[b]?=w.heap[b]?:=fun b hb=>World.putObj_heap_other hb;refine⟨rfl,h.size,fun t ht=>(h.env t ht).zP (Z:=fun b=>b=l) (adA hn t) (fun b _ hb hz=>⟨H b hz,hb⟩) (fun b i hz=>by subst hz;exact Fi hl ho i) (by rw[E];exact Nat.le_refl _) (fun b _ hb _=>hb),
  h.own.zP (Z:=fun b=>b=l) (fun B hB=>.inr (mem_map.2 ⟨B,hB,rfl⟩)) hS (fun b _ hz=>H b hz) (fun b i hz=>by subst hz;exact Fi hl ho i) (by rw[E];exact Nat.le_refl _) (fun B hB e=>O (e ▸ mem_map.2 ⟨B,hB,rfl⟩)),
  Fr.refl _ _,fun b hb=>?_,I⟩
 show b<(w.putObj l o2).heap.size/\b∉av y.S;rw[E];exact⟨Nat.lt_of_lt_of_le (h.ex b hb).1 h.fr.size,(h.fr.block b (h.ex b hb).1 (h.ex b hb).2).2⟩
theorem VC.zR {f:FuncId} {fn:Func} {n:Nat} {args:List D} (hf:P.funcs[f]?=some fn) (hb:fn.body=some c) (hn:fn.ntmps=n) (hl:args.length<=n)
  (h:∀X w0 S0,CD P ⟨X,w0,S0,G,[],xH P fn post X w0 S0⟩ c ⟨n,sK 0 args,S⟩ (Body P fn post)):VC P G f args S post:=fun X w vs hp=>by
 have qT:vs.length=args.length:=hp.args.1;let C:dG:=⟨X,w,av S,G,[],xH P fn post X w (av S)⟩
 have U:bI C ⟨n,sK 0 args,S⟩ {tmps:=vs.toArray++Array.replicate (fn.ntmps-vs.toArray.size) undef,defers:=[]} w:=by
  refine⟨rfl,by simp[hn];omega,fun t ht=>?_,hp.own,Fr.refl _ _,hp.ex,hp.eV⟩;simp only[EI,Nat.zero_le,if_true,Nat.sub_zero];by_cases aa:t<args.length
  ·have e1:args.getD t .bY=args[t]:=(by simp[getD,aa])
   have e2:(vs.toArray++Array.replicate (fn.ntmps-vs.toArray.size) undef).getD t undef=vs[t]'w4:=by
    rw[Array.getD_eq_getD_getElem?,Array.getElem?_append_left iF];simp[show t<vs.length by omega]
   rw[e1,e2];exact hp.args.2 t aa w4
  have e1:args.getD t .bY = .bY:=(by simp[getD,getElem?_eq_none (show args.length<=t by omega)])
  rw[e1];exact .bY _
 refine callsIn_wide.1 (callsIn_of_wp_marks (F:=Fence.wide) (n:=0) hf hb trivial (wpIn_wide.2 (wp_mono (h X w (av S) _ _ U) fun e a w' hq=>?_)) rfl);rcases hq with ⟨y,h1,h2,r,S',h3,h4,h5⟩|⟨rfl,O,C',y,hX,yA,Z,hD0,hD1,hD2,hD3,h1,Og,A3,r,S',h3,h4,hnr,h5⟩
 ·obtain⟨v,q1,q2⟩:=h4 C a w' h1;have E:(av S').Sublist (av y.S):=Sublist.map _ h3;have key:LeavesInM Fence.wide 0 P fn a.tmps (fun e w'=>∃v r S',e = .returned v/\post r S'/\Own w' (live X S') S'/\cq w' (live X S') r v/\Fr w (av S) w' (av S')) a.defers .returning w':=by
   rw[show a.defers=[] from h1.defers];exact⟨v,q2,v,r,S',rfl,h5,h1.own.sub h3,q1.mono fun b _ hn=>⟨rfl,fun hl=>hn (hl.imp id fun q=>E.subset q)⟩,
    ⟨h1.fr.os,h1.fr.tape,h1.fr.output,h1.fr.size,fun b I hn=>⟨(h1.fr.block b I hn).1,fun q=>(h1.fr.block b I hn).2 (E.subset q)⟩⟩⟩
  rcases h2 with rfl|rfl<;>exact key
 show LeavesInM Fence.wide 0 P fn a.tmps _ a.defers .returning w';rw[yA];obtain⟨f1,f2⟩:=h1.fr.block O hD1 hD2;have hD:w'.heap[O]?=some (.deferred (some [])):=f1.trans hD3;have hXD:¬C'.X O:=fun hx=>by rw[hX] at hx;have:=(hp.ex O hx).1;omega
 have uP:=h1.Vh (G:=[]) (o2:=.deferred none) hD rfl f2 hXD Og A3 (fun g hg=>by cases hg) (fun _ _=>False);obtain⟨v,q1,q2⟩:=h4 _ a _ uP;have E:(av S').Sublist (av y.S):=Sublist.map _ h3;refine⟨by simp,.inl ⟨O,_,rfl,run_takeDeferred hD,v,q2,v,r,S',rfl,h5,?_,?_,?_⟩⟩
 ·have:=uP.own.sub h3;rw[show(⟨C'.X,w'.putObj O (.deferred none),av y.S,[],a.defers,fun _ _=>False⟩:dG).X=X from hX] at this;exact this
 ·rw[<-hX];exact q1.mono fun b _ hn=>⟨rfl,fun hl=>hn (hl.imp id fun q=>E.subset q)⟩
 have k:=Z.trans h1.fr;exact⟨k.os,k.tape,k.output,by rw[World.putObj_size];exact k.size,fun b I hn=>by
  obtain⟨k1,k2⟩:=k.block b I hn;exact⟨(World.putObj_heap_other w4).trans k1,fun q=>k2 (E.subset q)⟩⟩
theorem RV(w:World)(o:Obj)(S:List Nat)(hS:∀b∈S,b<w.heap.size):Fr w S (w.alloc o) S:=⟨rfl,rfl,rfl,by rw[World.size_alloc];omega,fun b hb hn=>⟨Below.heap_alloc w o b hb,hn⟩⟩
theorem l5.on{w w':World}{S S':List Nat}{X E:Nat->Prop}(h:l5 G w S X)(hf:∀b,b<w.heap.size->b∉S->¬X b->w'.heap[b]?=w.heap[b]?/\b∉S'/\¬E b):l5 G w' S' E:=fun g hg=>by
 obtain⟨⟨h1,h2,h3⟩,h4⟩:=h g hg;obtain⟨f1,f2,f3⟩:=hf g.1 h1 h2 h3;exact⟨⟨rh h1 f1,f2,f3⟩,fun i v hi=>(h4 i v hi).on f1⟩
def wo(P:Program)(C:dG)(b rest:Code)(x:St)(Q:Exit->St->Prop):Prop:=∀a w,bI C x a w->b.wp P (Exit.then (rest.wp P (LQ C Q)) (LQ C Q)) a w
def ah9(P:Program)(C:dG)(b rest:Code)(Q:Exit->St->Prop):Exit->St->Prop
 | .normal,y=>wo P C b rest y Q
 | e,y=>Q e y
theorem CD.ajG{b d:Code}(h:CD P C d x (ah9 P C b c Q)):CD P C (.seq (.seq d b) c) x Q:=fun a w hs =>
 wp_seq (wp_seq (wp_mono (h a w hs) fun e a' w' h=>by
  rcases h with ⟨y,h1,h2⟩|⟨rfl,h⟩
  ·cases e<;>first|exact h2 a' w' h1|exact .inl ⟨y,h1,h2⟩
  exact .inr ⟨rfl,h⟩))
theorem wo.wk{b:Code}(h:Wk x y)(k:wo P C b c y Q):wo P C b c x Q:=fun a w hs=>k a w (h C a w hs)
theorem wo.range {X:Nat->Prop} {w0:World} {S0:List Nat} {fn:Func} {g:Operand} {ps:Array Tmp} {assign body:Code} {gf:FuncId} {CK:List D} {enc:α->List D} {Sa Sp:List α->Prop} {N id:Nat} {rest:Code}
  (hg:aG x g = .eI (.func gf) CK) (eg:∀args w,(callFunc gf args).run P w = .ok (.enter gf args) w) (hvi:VI P G gf CK enc Sa Sp N) (gJ:∀y,(enc y).length=ps.toList.length) (hne:∀y,fS (enc y)=true)
  (jc:Code) (yB:jc = .ret\/jc = .exit id) (J Jx:List α->List ah->Prop) (YP:∀pre Sc,J pre Sc->∀B∈Sc,fS B.cs=true) (Mt:∀pre Sc,Jx pre Sc->∀B∈Sc,fS B.cs=true) (h0:J [] x.S)
  (AQ:List α->α->List ah->St->Prop) (hAQ:∀pre y Sc z,AQ pre y Sc z->(z.env.all fun p=>jb p.2)=true/\∀B∈z.S,fS B.cs=true)
  (ae8:∀X' W' S' l pre y Sc,J pre Sc->pre.length<N->CI P ⟨X',W',S',G,[],fun _ _=>False⟩ l assign ⟨x.n,Ms ps.toList (enc y) x.env,Sc⟩ (fun e z=>e = .normal/\AQ pre y Sc z))
  (aia:∀X' W' S' l pre y Sc z,J pre Sc->pre.length<N->AQ pre y Sc z->CI P ⟨X',W',S',G,[],fun _ _=>False⟩ l body z (agL J Jx jc (pre++[y])))
  (aib:∀W' S' D Sc,((∃xs,Sa xs/\J xs Sc)\/(jc = .exit id/\∃pre,Sp pre/\Jx pre Sc))->CD P ⟨X,W',S',G,[mark D],fun _ _=>False⟩ rest ⟨x.n,x.env,Sc⟩ (ah8 P fn post))
  (nf:jc = .ret->∀pre Sc,Sp pre->Jx pre Sc->zQ P fn post ⟨x.n,x.env,Sc⟩):wo P ⟨X,w0,S0,G,[],xH P fn post X w0 S0⟩ (.block id (.rangeFunc g ps assign body)) rest x Q:=fun a w hs=>by
 have hex:∀b,X b->b<w.heap.size/\b∉av x.S:=fun b hb=>⟨Nat.lt_of_lt_of_le (hs.ex b hb).1 hs.fr.size,(hs.fr.block b (hs.ex b hb).1 (hs.ex b hb).2).2⟩
 have sU:l5 G w (av x.S) X:=l5.on (w:=w0) (S:=S0) (X:=X) hs.eV fun b h1 h2 h3=>⟨(hs.fr.block b h1 h2).1,(hs.fr.block b h1 h2).2,h3⟩
 have Mu:∀b∈av x.S,b<w.heap.size:=fun b hb=>by
  obtain⟨B,hB,rfl⟩:=mem_map.1 hb;exact(hs.own.at_ B hB).1
 -- the aov value
 obtain⟨lb,hgv,hlb⟩:∃lb:List Value,a.eval g = .func (.func gf) #[] lb.toArray/\cD w (live X x.S) CK lb:=by
  have hv:=hs.eval g;rw[hg] at hv;generalize a.eval g=u at hv;cases hv with
  | eI _ _ vs hl hr=>exact⟨vs,rfl,hl,hr⟩
 refine(wp_block (wpIn_wide.1 (wpIn_rangeFunc (F:=Fence.wide) (n:=0) fun YQ _=>?_)));obtain⟨rec,xW⟩:∃rec:LoopState->Option Code->Loop,rec=fun st pe=>{state:=st,pending:=pe,fn:=YQ,tmps:=a.tmps,params:=ps,assign,body,defers:=w.heap.size}:=⟨_,rfl⟩
 obtain⟨W1,DC⟩:∃W1,(w.alloc (.deferred (some []))).alloc (.loop (rec .ready none))=W1:=⟨_,rfl⟩
 have YR:W1.heap[w.heap.size+1]?=some (.loop (rec .ready none)):=by
  rw[<-DC];have:=World.alloc_heap_new (w.alloc (.deferred (some []))) (.loop (rec .ready none));rwa [World.size_alloc] at this
 have YS:W1.heap[w.heap.size]?=some (.deferred (some [])):=by
  rw[<-DC];exact(Below.heap_alloc _ _ _ bq).trans (World.alloc_heap_new w _)
 have YT:Fr w (av x.S) W1 (av x.S):=by
  rw[<-DC];exact(RV w _ _ Mu).trans (RV _ _ _ fun b hb=>by rw[World.size_alloc];have:=Mu b hb;omega)
 have Oh:∀b,b<w.heap.size->W1.heap[b]?=w.heap[b]?:=fun b hb=>by
  rw[<-DC,Below.heap_alloc _ _ _ (by rw[World.size_alloc];omega),Below.heap_alloc _ _ _ hb]
 have aic:Own W1 (live X x.S) x.S:=⟨fun B hB=>by
  obtain⟨r0,cur,r1,r2,r3,r4⟩:=hs.own.at_ B hB;exact⟨Nat.lt_of_lt_of_le r0 YT.size,cur,(Oh _ r0).trans r1,r2,r3,fun i hi=>by
   obtain⟨u,hu,hq⟩:=r4 i hi;exact⟨u,hu,hq.mono fun b hb hn=>⟨Oh b hb,hn⟩⟩⟩,hs.own.apart⟩
 have YU:∀b,w.heap.size<=b->¬live X x.S b:=fun b hb hl=>by
  rcases hl with hl|hl
  ·have:=(hex b hl).1;omega
  have:=Mu b hl;omega
 let Y:yy α:=⟨w.heap.size+1,[(w.heap.size+1,.loop (rec .ready none)),(w.heap.size,.deferred (some []))],[(w.heap.size+1,.loop (rec .done (some jc))),(w.heap.size,.deferred (some []))],enc,J,Jx,N⟩
 have aid:rA W1 (live X x.S) Y.os:=fun z hz=>by
  rcases mem_cons.1 hz with rfl|hz
  ·exact⟨(Array.getElem?_eq_some_iff.1 YR).1,YU _ bq,YR⟩
  rw[mem_singleton] at hz;subst hz;exact⟨(Array.getElem?_eq_some_iff.1 YS).1,YU _ (Nat.le_refl _),YS⟩
 -- the aow kO,later
 have W5:∀(W:World) (Xr:Nat->Prop) (Sc:List ah),Fr w (av x.S) W (av Sc)->(∀b,Xr b->X b\/w.heap.size<=b\/b∈av x.S)->∀t,t<x.n->cq W (live Xr Sc) (look t x.env) (a.tmps.getD t undef):=fun W Xr Sc hf hx t ht =>
  (hs.env t ht).mono fun b hb hn=>by
   have A3:b∉av x.S:=fun h=>hn (.inr h);obtain⟨k1,k2⟩:=hf.block b hb A3;refine⟨k1,fun hl=>?_⟩;rcases hl with hl|hl
   ·rcases hx b hl with h|h|h
    ·exact hn (.inl h)
    ·omega
    exact A3 h
   exact k2 hl
 -- what follows
 have after:∀(E:World) (Sc:List ah),Fr w (av x.S) E (av Sc)->Own E (live X Sc) Sc->E.heap[w.heap.size]?=some (.deferred (some []))->w.heap.size∉av Sc ->
   bI ⟨X,E,av Sc,G,[mark w.heap.size],fun _ _=>False⟩ ⟨x.n,x.env,Sc⟩ {a with defers:=[mark w.heap.size]++a.defers} E/\∀a' w' y,bI ⟨X,E,av Sc,G,[mark w.heap.size],fun _ _=>False⟩ y a' w'->zQ P fn post y->xH P fn post X w0 S0 a' w':=fun E Sc hf ho hk hkS=>by
  refine⟨⟨by show[mark w.heap.size]++a.defers=_;rw[show a.defers=[] from hs.defers];rfl,hs.size,fun t ht=>W5 E X Sc hf (fun b hb=>.inl hb) t ht,ho,Fr.refl _ _,fun b hb=>⟨Nat.lt_of_lt_of_le (hex b hb).1 hf.size,(hf.block b (hex b hb).1 (hex b hb).2).2⟩,l5.on sU fun b h1 h2 h3=>⟨(hf.block b h1 h2).1,(hf.block b h1 h2).2,h3⟩⟩,fun a' w' y h1 h2=>?_⟩;exact⟨w.heap.size,_,y,rfl,h1.defers,hs.fr.trans hf,hs.fr.size,(Array.getElem?_eq_some_iff.1 hk).1,hkS,hk,h1,h2⟩
 refine⟨w.heap.size+1,[mark w.heap.size],W1,{target:=.fn (.func gf) lb.toArray,args:=#[.func (.yield (w.heap.size+1)) #[] #[]]},W1,gf,#[.func (.yield (w.heap.size+1)) #[] #[]]++lb.toArray,W1,?_,?_,fun _ _=>trivial,?_,fun hc=>(by cases hc),?_⟩
 ·rw[<-DC,xW];exact run_enterLoop_outer _ _ _ _ _
 ·simp only[resolve,hgv];simp[go_sem]
 ·simp[invoke,go_sem,eg]
 refine callsIn_wide.2 ((hvi Y X w W1 (av x.S) x.S lb rfl rfl hex sU (by simp[Y]) aic (hlb.mono fun b hb hn=>⟨Oh b hb,hn⟩) YT aid h0 ?_).mono ?_)
 ·
  intro pre y Sc Xr W vs hJ hN ajH hX1 Oi eW GL jN I;have hl:W.heap[w.heap.size+1]?=some (.loop (rec .ready none)):=(I _ mem_cons_self).2.2;have hk:W.heap[w.heap.size]?=some (.deferred (some [])):=(I _ (mem_cons_of_mem _ mem_cons_self)).2.2;have YV:¬live Xr Sc (w.heap.size+1):=(I _ mem_cons_self).2.1;have YW:¬live Xr Sc w.heap.size:=(I _ (mem_cons_of_mem _ mem_cons_self)).2.1;have eo:w.heap.size<W.heap.size:=(Array.getElem?_eq_some_iff.1 hk).1;have iG:w.heap.size+1<W.heap.size:=(Array.getElem?_eq_some_iff.1 hl).1;have qT:vs.length=ps.toList.length:=(by rw[GL.1];exact gJ y)
  have hy:=run_yield (P:=P) (args:=vs.toArray) hl (by rw[xW];simp at qT |-;exact qT);rw[xW] at hy;refine⟨YQ,_,assign,body,hy,roundIn_of_wpIn trivial ?_⟩;have aie:l5 G W (av Sc) Xr:=l5.on sU fun b h1 h2 h3=>⟨(jN.block b h1 h2).1,(jN.block b h1 h2).2,fun hx=>by
   rcases Oi b hx with h|h|h
   ·exact h3 h
   ·omega
   exact h2 h⟩
  have aif:bI ⟨Xr,W,av Sc,G,[],fun _ _=>False⟩ ⟨x.n,x.env,Sc⟩ {tmps:=a.tmps,defers:=[]} W:=⟨rfl,hs.size,fun t ht=>W5 W Xr Sc jN Oi t ht,eW,Fr.refl _ _,ajH,aie⟩
  have ajI:(ps.zip vs.toArray).foldl (fun t (p,v)=>t.setIfInBounds p v) a.tmps=(ps.toList.zip vs).foldl (fun t (p,v)=>t.setIfInBounds p v) a.tmps:=by
   rw[<-Array.foldl_toList];simp
  refine wpIn_mono (ae8 Xr W (av Sc) _ pre y Sc hJ hN _ _ (by
   have:=aif.params GL (gJ y);rw[<-ajI] at this;exact this)) fun e a1 w1 hq=>?_
  rcases hq with ⟨z,mv,rfl,DD⟩|⟨_,hq⟩
  case inr=>exact hq.elim
  obtain⟨Og,A3⟩:=hAQ _ _ _ _ DD;obtain⟨f1,f2⟩:=mv.fr.block (w.heap.size+1) iG (fun h=>YV (.inr h));have lN:w1.heap[w.heap.size+1]?=some (.loop (rec .ready none)):=f1.trans hl;have gp:w1.heap.size=(w1.putObj (w.heap.size+1) (.loop {rec .ready none with state:=.busy})).heap.size:=(by rw[World.putObj_size])
  have YX:¬Xr (w.heap.size+1):=fun h=>YV (.inl h);have O:∀(u:World) (ob:Obj) b,b≠w.heap.size+1->(u.putObj (w.heap.size+1) ob).heap[b]?=u.heap[b]?:=fun u ob b hb=>World.putObj_heap_other hb;obtain⟨W2,uQ⟩:∃W2,w1.putObj (w.heap.size+1) (.loop {rec .ready none with state:=.busy})=W2:=⟨_,rfl⟩
  have V1:=mv.Vh (G:=G) (o2:=.loop {rec .ready none with state:=.busy}) lN rfl f2 YX Og A3 (l5.on sU fun b h1 h2 h3=>by
   obtain⟨k1,k2⟩:=jN.block b h1 h2;obtain⟨k3,k4⟩:=mv.fr.block b (Nat.lt_of_lt_of_le h1 jN.size) k2;refine⟨(O _ _ _ w4).trans (k3.trans k1),k4,fun hx=>?_⟩;rcases Oi b hx with h|h|h
   ·exact h3 h
   ·omega
   exact h2 h) (fun _ _=>False)
  rw[mv.defers,uQ] at V1;have gp:W2.heap[w.heap.size+1]?=some (.loop {rec .ready none with state:=.busy}):=(by rw[<-uQ];exact World.putObj_heap_same (Array.getElem?_eq_some_iff.1 lN).1)
  have j6:∀(a3:Act) (W3:World) (y3:St) (S':List ah) (jump:Option Code),bI ⟨Xr,W2,av z.S,G,[],fun _ _=>False⟩ y3 a3 W3->S'.Sublist y3.S->(∀B∈S',fS B.cs=true) ->
    ∃E,(Instr.endRound (w.heap.size+1) jump).run P W3 = .ok (.bool jump.isNone) E/\E.heap[w.heap.size+1]?=some (.loop (rec (if jump.isNone then .ready else .done) jump))/\E.heap[w.heap.size]?=some (.deferred (some [])) /\
     Own E (live Xr S') S'/\YN (w.heap.size+1) W (av Sc) E (av S')/\¬live Xr S' (w.heap.size+1)/\¬live Xr S' w.heap.size:=fun a3 W3 y3 S' jump h3 U Oj=>by
   have Ol:(av S').Sublist (av y3.S):=Sublist.map _ U;have CL:W2.heap.size=w1.heap.size:=(by rw[<-uQ,World.putObj_size])
   obtain⟨g1,g2⟩:=h3.fr.block (w.heap.size+1) (Array.getElem?_eq_some_iff.1 gp).1 f2;have HN:W3.heap[w.heap.size+1]?=some (.loop {rec .ready none with state:=.busy}):=g1.trans gp;have ajJ:=(Array.getElem?_eq_some_iff.1 HN).1;have oh:=run_endRound (P:=P) jump HN;obtain⟨k1,k2⟩:=mv.fr.block w.heap.size eo (fun h=>YW (.inr h));obtain⟨k3,k4⟩:=h3.fr.block w.heap.size (by rw[CL];exact Nat.lt_of_lt_of_le eo mv.fr.size) k2;have eD:W2.heap[w.heap.size]?=some (.deferred (some [])):=(by rw[<-uQ];exact(O _ _ _ w4).trans (k1.trans hk))
   have YY:w.heap.size+1∉av S':=fun h=>g2 (Ol.subset h);refine⟨_,oh,?_,(O _ _ _ w4).trans (k3.trans eD),?_,?_,?_,?_⟩
   ·rw[xW];exact World.putObj_heap_same ajJ
   ·exact(h3.own.sub U).zP (Z:=fun b=>b=w.heap.size+1) (fun B hB=>.inr (mem_map.2 ⟨B,hB,rfl⟩)) Oj (fun b _ hb=>O _ _ _ hb) (fun b i hz=>by subst hz;exact Fi HN rfl i) (by rw[World.putObj_size];exact Nat.le_refl _) (fun B hB e=>YY (e ▸ mem_map.2 ⟨B,hB,rfl⟩))
   ·refine⟨h3.fr.os.trans ?_,h3.fr.tape.trans ?_,h3.fr.output.trans ?_,?_,fun b hb hn=>?_⟩
    ·rw[<-uQ];exact mv.fr.os
    ·rw[<-uQ];exact mv.fr.tape
    ·rw[<-uQ];exact mv.fr.output
    ·rw[World.putObj_size];exact Nat.le_trans mv.fr.size (by rw[<-CL];exact h3.fr.size)
    obtain⟨m1,m2⟩:=mv.fr.block b hb hn;obtain⟨m3,m4⟩:=h3.fr.block b (by rw[CL];exact Nat.lt_of_lt_of_le hb mv.fr.size) m2;refine⟨fun W6=>(O _ _ _ W6).trans (m3.trans ?_),fun h=>m4 (Ol.subset h)⟩;rw[<-uQ];exact(O _ _ _ W6).trans m1
   ·rintro(h|h)
    ·exact YX h
    exact YY h
   rintro(h|h)
   ·exact YW (.inl h)
   exact k4 (Ol.subset h)
  refine⟨W2,by rw[<-uQ];exact run_beginRound lN (by rw[xW]),wpIn_mono (aia Xr W2 (av z.S) _ pre y Sc z hJ hN DD _ _ V1) fun e a3 W3 hq=>?_⟩;rcases hq with ⟨y3,h3,hq⟩|⟨_,hq⟩
  case inr=>exact hq.elim
  cases e with
  | normal =>
   obtain⟨S',U,hj⟩:=hq;obtain⟨E,r1,r2,r3,r4,r5,r6,r7⟩:=j6 a3 W3 y3 S' none h3 U (YP _ _ hj);exact⟨_,E,r1,true,S',rfl,r4,r5,fun _=>⟨hj,r2.trans hl.symm⟩,(fun h=>by cases h)⟩
  | ret =>
   obtain⟨hc,S',U,hj⟩:=hq;obtain⟨E,r1,r2,r3,r4,r5,r6,r7⟩:=j6 a3 W3 y3 S' (some .ret) h3 U (Mt _ _ hj);refine⟨_,E,r1,false,S',rfl,r4,r5,(fun h=>by cases h),fun _=>⟨hj,fun z hz=>?_⟩⟩;rcases mem_cons.1 hz with rfl|hz
   ·exact⟨(Array.getElem?_eq_some_iff.1 r2).1,r6,by rw[hc];exact r2⟩
   rw[mem_singleton] at hz;subst hz;exact⟨(Array.getElem?_eq_some_iff.1 r3).1,r7,r3⟩
  | exit i =>
   obtain⟨hc,S',U,hj⟩:=hq;obtain⟨E,r1,r2,r3,r4,r5,r6,r7⟩:=j6 a3 W3 y3 S' (some (.exit i)) h3 U (Mt _ _ hj);refine⟨_,E,r1,false,S',rfl,r4,r5,(fun h=>by cases h),fun _=>⟨hj,fun z hz=>?_⟩⟩;rcases mem_cons.1 hz with rfl|hz
   ·exact⟨(Array.getElem?_eq_some_iff.1 r2).1,r6,by rw[hc];exact r2⟩
   rw[mem_singleton] at hz;subst hz;exact⟨(Array.getElem?_eq_some_iff.1 r3).1,r7,r3⟩
  | goto t=>exact hq.elim
  | panic ch=>exact hq.elim
  | outgrown=>exact hq.elim
 -- behind the iterator
 have dN:∀(W':World) (Sc:List ah) (st:LoopState) (pe:Option Code),Own W' (live X Sc) Sc->Fr w (av x.S) W' (av Sc)->(∀B∈Sc,fS B.cs=true)->st≠.busy ->
   rA W' (live X Sc) [(w.heap.size+1,.loop (rec st pe)),(w.heap.size,.deferred (some []))] ->
   ∃E,(Instr.endLoop (w.heap.size+1)).run P W' = .ok pe E/\bI ⟨X,E,av Sc,G,[mark w.heap.size],fun _ _=>False⟩ ⟨x.n,x.env,Sc⟩ {a with defers:=[mark w.heap.size]++a.defers} E /\
    ∀a' w' y,bI ⟨X,E,av Sc,G,[mark w.heap.size],fun _ _=>False⟩ y a' w'->zQ P fn post y->xH P fn post X w0 S0 a' w':=fun W' Sc st pe ho hf Oj eU I=>by
  obtain⟨r1,r2,r3⟩:=I _ mem_cons_self;obtain⟨k1,k2,k3⟩:=I _ (mem_cons_of_mem _ mem_cons_self);have r1:w.heap.size+1<W'.heap.size:=r1;have r3:W'.heap[w.heap.size+1]?=some (.loop (rec st pe)):=r3;have oh:=run_endLoop (P:=P) r3 (by rw[xW];exact eU);have iv:(rec st pe).pending=pe:=(by rw[xW])
  rw[iv] at oh;refine⟨_,oh,after _ Sc ⟨hf.os,hf.tape,hf.output,by rw[World.putObj_size];exact hf.size,fun b hb hn=>⟨(World.putObj_heap_other w4).trans (hf.block b hb hn).1,(hf.block b hb hn).2⟩⟩ ?_ ((World.putObj_heap_other w4).trans k3) (fun h=>k2 (.inr h))⟩;exact ho.zP (Z:=fun b=>b=w.heap.size+1) (fun B hB=>.inr (mem_map.2 ⟨B,hB,rfl⟩)) Oj (fun b _ hb=>World.putObj_heap_other hb) (fun b i hz=>by subst hz;exact Fi r3 rfl i) (by rw[World.putObj_size];exact Nat.le_refl _) (fun B hB e=>r2 (.inr (by rw[<-e];exact mem_map.2 ⟨B,hB,rfl⟩)))
 have hR:∀(a':Act) (E:World) (Sc:List ah),bI ⟨X,E,av Sc,G,[mark w.heap.size],fun _ _=>False⟩ ⟨x.n,x.env,Sc⟩ a' E->(∀a' w' y,bI ⟨X,E,av Sc,G,[mark w.heap.size],fun _ _=>False⟩ y a' w'->zQ P fn post y->xH P fn post X w0 S0 a' w') ->
   ((∃xs,Sa xs/\J xs Sc)\/(jc = .exit id/\∃pre,Sp pre/\Jx pre Sc))->rest.wp P (LQ ⟨X,w0,S0,G,[],xH P fn post X w0 S0⟩ Q) a' E:=fun a' E Sc h1 h2 h3 =>
  wp_mono (aib E (av Sc) w.heap.size Sc h3 _ _ h1) fun e a2 w2 hq=>by
   rcases hq with ⟨y,q1,rfl,q2⟩|⟨_,hq⟩
   ·exact .inr ⟨rfl,h2 _ _ _ q1 q2⟩
   exact hq.elim
 rintro e W' ⟨v,Sc,rfl,eW,jN,h⟩;rcases h with ⟨xs,hsa,hj,I⟩|⟨pre,tF,hj,I⟩
 ·obtain⟨E,q1,q2,q3⟩:=dN W' Sc .ready none eW jN (YP _ _ hj) bq I;refine⟨none,E,q1,?_⟩;exact hR _ E Sc q2 q3 (.inl ⟨xs,hsa,hj⟩)
 obtain⟨E,q1,q2,q3⟩:=dN W' Sc .done (some jc) eW jN (Mt _ _ hj) bq I;refine⟨some jc,E,q1,?_⟩;rcases yB with yB|yB
 ·rw[yB];refine wpIn_ret ?_;exact .inr ⟨rfl,q3 _ _ _ q2 (nf yB pre Sc tF hj)⟩
 rw[yB];refine wpIn_exit ?_;have:=hR _ E Sc q2 q3 (.inr ⟨yB,pre,tF,hj⟩);simpa[Exit.inBlock,Exit.then] using this
theorem RW{b e size:Nat}{cs cs':List D}(hB:(⟨b,e,size,cs⟩:ah)∈S)(U:gU S cs cs')(hne:isMap e=false:=by rfl):View S (.v (.pointer (some ⟨b,0,none⟩))) (.fL cs' 0):=fun X Y w v E I ho h=>by
 rw[h.lj];obtain⟨v1,v2⟩:=U.spec;obtain⟨r0,cur,r1,r2,Z,O⟩:=ho.at_ _ hB;rw[kM hne] at r1;refine .fL cs' 0 b 0 (fun i=>cur.getD i undef) r0 (fun hy=>I _ (E _ hy) (mem_map.2 ⟨_,hB,rfl⟩)) (fun i hi=>?_) (fun i hi=>?_)
 ·obtain⟨u,hu,_⟩:=O i GB;rw[Nat.zero_add,oE r1 hu];simp[hu]
 obtain⟨u,hu,hq⟩:=O i GB;simp only[Array.getD_eq_getD_getElem?,hu,Option.getD_some];exact v2 i w4 hi X Y w u E I ho hq
theorem adB{f:Fn}{ds E:List D}(h:gU S ds E):View S (.eI f ds) (.eI f E):=fun X Y w v O U ho hr=>by
 obtain⟨h1,h2⟩:=h.spec;cases hr with
 | eI _ _ vs hl I=>exact .eI f E vs w4 fun i q1 q2=>h2 i w4 q1 X Y w _ O U ho (I i w4 q2)
variable {S1 T:List Nat} {fuel i:Nat} {ld:Array Bool}
theorem AD.gK {t m cap e sz:Nat} {Sq R:List ah} {cs:List D} {ad:Option Addr} (ht:V.look t x.env = .v (.slice ad m cap)) (ho:bn e sz cs m ad cap Sq) (hl:cs.length=m*sz) (hp:x.S.Perm (Sq++R))
  (k:AD P C ops S1 T fuel ld ⟨x.n,(t,.list sz cs m)::x.env,R⟩ Q) (hne:isMap e=false:=by rfl):AD P C ops S1 T fuel ld x Q :=
 AD.Cg (Wk.gK (hne:=hne) ht ho hl hp) (fun b hb=>by
  obtain⟨B,hB,rfl⟩:=mem_map.1 hb;exact mem_map.2 ⟨B,hp.symm.subset (mem_append_right _ hB),rfl⟩) k

end Go.Proofs.YtbplamgacibdaaaGreatDoor.V
namespace Go.Proofs.YtbplamgacibdaaaGreatDoor.V
open List
open Go.RowKit
variable {P:Program} {C:dG} {G:List (Nat×List Value)} {Q:Exit->St->Prop} {x:St} {ops:Array Oper} {o:Oper} {n fuel t:Nat} {e:List (Nat×D)} {S:List ah} {S1 T:List Nat} {ld:Array Bool} {d:D} {kd:Rd}
theorem aD (i:Nat) (hi:ops[i]?=some o) (h:bX P C.G ⟨n,e,S⟩ o kd d) (K:dM P C ops S1 T fuel (ld.setIfInBounds i true) ⟨n,(t,d)::e,S⟩ Q) (hs:Region.noSelect ops=true:=by kernel_rfl) (hf:Region.free .any ops ld i=true:=by kernel_rfl) (hr:(Region.ready .any ops ld).contains i=true:=by kernel_rfl)
  (hp:NP Q:=by repeat (first|exact NP.norm|exact NP.body|exact NP.zR|exact NP.Gf|apply NP.tl|apply NP.Gg|apply NP.then|apply NP.cut|apply NP.inBlock|apply NP.round)) (hw:cj ops ⟨n,e,S⟩ o true:=by first|exact sb rfl|exact uh rfl rfl rfl lk jJ) (hd:o.dst=some t:=by exact rfl)
  (hk:Safe ⟨n,e,S⟩ T kd:=by first|exact trivial|exact qA (k0:=0) rfl rfl|exact qA (k0:=1) rfl rfl|exact qA (k0:=2) rfl rfl|exact qA (k0:=3) rfl rfl|exact qA (k0:=4) rfl rfl|exact qA (k0:=5) rfl rfl):dM P C ops S1 T (fuel+1) ld ⟨n,e,S⟩ Q :=
 dM.take hi hs hf hr hp hw hd h hk K
theorem dm (i:Nat) (hi:ops[i]?=some o) (h:bX P C.G ⟨n,e,S⟩ o kd d) (K:AD P C ops S1 T fuel (ld.setIfInBounds i true) ⟨n,(t,d)::e,S⟩ Q) (hs:Region.noSelect ops=true:=by kernel_rfl) (hf:Region.free .any ops ld i=true:=by kernel_rfl) (hr:(Region.ready .any ops ld).contains i=true:=by kernel_rfl)
  (hp:NP Q:=by repeat (first|exact NP.norm|exact NP.body|exact NP.zR|exact NP.Gf|apply NP.tl|apply NP.Gg|apply NP.then|apply NP.cut|apply NP.inBlock|apply NP.round)) (hw:cj ops ⟨n,e,S⟩ o true:=by first|exact sb rfl|exact uh rfl rfl rfl lk jJ) (hd:o.dst=some t:=by exact rfl)
  (hk:Safe ⟨n,e,S⟩ T kd:=by first|exact trivial|exact qA (k0:=0) rfl rfl|exact qA (k0:=1) rfl rfl|exact qA (k0:=2) rfl rfl|exact qA (k0:=3) rfl rfl|exact qA (k0:=4) rfl rfl|exact qA (k0:=5) rfl rfl) (qp:kd≠.kC:=by intro h;cases h):AD P C ops S1 T (fuel+1) ld ⟨n,e,S⟩ Q :=
 AD.take hi hs hf hr hp hw hd h hk qp K
theorem at_{i:Nat}(hi:ops[i]?=some o)(h:bX P C.G ⟨n,e,S⟩ o kd d)(K:AD P C ops S1 T fuel (ld.setIfInBounds i true) ⟨n,(t,d)::e,S⟩ Q)(hw:cj ops ⟨n,e,S⟩ o true:=by first|exact sb rfl|exact uh rfl rfl rfl lk jJ)(hd:o.dst=some t:=by exact rfl):bC P C ops S1 T fuel ld ⟨n,e,S⟩ Q i :=
 bC.still hi hw hd h K
theorem mL (i:Nat) (hi:ops[i]?=some o) (K:dM P C ops S1 T fuel (ld.setIfInBounds i true) ⟨n,(t,.v (.tuple #[]))::e,S⟩ Q) (hw:cj ops ⟨n,e,S⟩ o false:=by first|exact mT rfl rfl rfl lk jJ|exact J9 (b:=false) rfl rfl rfl lk) (hs:Region.noSelect ops=true:=by kernel_rfl) (hf:Region.free .any ops ld i=true:=by kernel_rfl) (hr:(Region.ready .any ops ld).contains i=true:=by kernel_rfl)
  (hp:NP Q:=by repeat (first|exact NP.norm|exact NP.body|exact NP.zR|exact NP.Gf|apply NP.tl|apply NP.Gg|apply NP.then|apply NP.cut|apply NP.inBlock|apply NP.round)) (hd:o.dst=some t:=by exact rfl):dM P C ops S1 T (fuel+1) ld ⟨n,e,S⟩ Q :=
 dM.Jz hi hs hf hr hp hw hd K
theorem qj (i:Nat) (hi:ops[i]?=some o) (K:AD P C ops S1 T fuel (ld.setIfInBounds i true) ⟨n,(t,.v (.tuple #[]))::e,S⟩ Q) (hw:cj ops ⟨n,e,S⟩ o false:=by first|exact mT rfl rfl rfl lk jJ|exact J9 (b:=false) rfl rfl rfl lk) (hs:Region.noSelect ops=true:=by kernel_rfl) (hf:Region.free .any ops ld i=true:=by kernel_rfl) (hr:(Region.ready .any ops ld).contains i=true:=by kernel_rfl)
  (hp:NP Q:=by repeat (first|exact NP.norm|exact NP.body|exact NP.zR|exact NP.Gf|apply NP.tl|apply NP.Gg|apply NP.then|apply NP.cut|apply NP.inBlock|apply NP.round)) (hd:o.dst=some t:=by exact rfl):AD P C ops S1 T (fuel+1) ld ⟨n,e,S⟩ Q :=
 AD.Jz hi hs hf hr hp hw hd K
theorem fZ (i:Nat) (hi:ops[i]?=some o) (h:bX P C.G ⟨n,e,S⟩ o .none d) (K:AI P C ops fuel (ld.setIfInBounds i true) ⟨n,(t,d)::e,S⟩ Q) (qX:∀w a,o.about P w a=none:=by exact fun _ _=>rfl) (hs:Region.noSelect ops=true:=by kernel_rfl) (hf:Region.free .any ops ld i=true:=by kernel_rfl) (hr:(Region.ready .any ops ld).contains i=true:=by kernel_rfl)
  (hp:NP Q:=by repeat (first|exact NP.norm|exact NP.ah5|apply NP.then|apply NP.cut|apply NP.inBlock|apply NP.round)) (hw:cj ops ⟨n,e,S⟩ o true:=by first|exact sb rfl|exact uh rfl rfl rfl lk jJ) (hd:o.dst=some t:=by exact rfl):AI P C ops (fuel+1) ld ⟨n,e,S⟩ Q :=
 AI.take hi hs hf hr hp hw qX hd h K
theorem kX{i:Nat}(hi:ops[i]?=some o)(h:bX P C.G ⟨n,e,S⟩ o kd d)(K:AI P C ops fuel (ld.setIfInBounds i true) ⟨n,(t,d)::e,S⟩ Q)(yA:∀c,o.op≠.defer c:=by exact fun _ h=>by cases h)(hw:cj ops ⟨n,e,S⟩ o true:=by first|exact sb rfl|exact uh rfl rfl rfl lk jJ)(hd:o.dst=some t:=by exact rfl):ig P C ops fuel ld ⟨n,e,S⟩ Q i :=
 ig.still hi hw yA hd h K
def Om(P:Program)(s u:Nat):Bool:=match P.underlying s with
 | some (.slice b)=>(match P.underlying b with
  | some (.int .u8)=>(match P.underlying u with
   | some .string=>true
   | _=>false)
  | _=>false)
 | _=>false
theorem aih{s u:Nat}(h:Om P s u=true):∃b,P.underlying s=some (.slice b)/\P.underlying b=some (.int .u8)/\P.underlying u=some .string:=by
 unfold Om at h;split at h
 ·rename_i b hb;split at h
  ·rename_i E;split at h
   ·rename_i I;exact⟨b,hb,E,I⟩
   cases h
  cases h
 cases h
theorem DE{s u:TypeId}{y:Operand}{bs:List UInt8}{m:Nat}(ho:o.op = .convert s u y:=by exact rfl)(hy:aG x y = .list 1 (bs.flatMap cB) m:=by exact ot)(hs:Om P s u=true:=by kernel_rfl):bX P G x o .kC (.v (.string ⟨bs.toArray⟩)):=by
 obtain⟨b,h1,h2,h3⟩:=aih hs;exact ZY ho hy h1 h2 h3

end Go.Proofs.YtbplamgacibdaaaGreatDoor.V
namespace Go.Proofs.YtbplamgacibdaaaGreatDoor.V
open List
open Go.RowKit
variable {P:Program} {C:dG} {G:List (Nat×List Value)} {Q:Exit->St->Prop} {x:St} {ops:Array Oper} {l:List Oper} {o:Oper} {n:Nat} {e:List (Nat×D)} {S:List ah} {S1 T:List Nat} {fuel i:Nat} {ld:Array Bool}
variable {b sz:Nat} {dc:Array Operand} {t:TypeId} {fo:Operand} {ts:Array TypeId} {B:ah} {ps:List (Nat×Operand)}
theorem aC{α:Type}{a b:α}(h:a=b:=by kernel_rfl):a=b:=h
theorem aU{a:Nat}(h:Nat.ble a b=true:=by exact rfl):a<=b:=Nat.le_of_ble_eq_true h
theorem aq(h:o.guard=none:=by exact rfl):cj ops x o true:=sb h
theorem iN(h:cj ops x o true:=by exact uh rfl rfl rfl lk jJ):cj ops x o true:=h
theorem YZ{pd zs ds:List D}(ha:(pd.all fun d=>Nat.beq (cellsOf d).length sz)=true:=by exact rfl)(hl:Nat.beq zs.length (pd.length*sz)=true:=by exact rfl)(j9:pd.flatMap cellsOf=ds:=by exact rfl):mD (fun i=>some (i*sz,sz)) zs (cu 0 pd)=some ds:=QC ha hl j9
theorem HO(h:NP Q:=by repeat (first|exact NP.body|exact NP.zR|exact NP.Gf|apply NP.tl|apply NP.Gg|apply NP.then|apply NP.cut|apply NP.inBlock|apply NP.round)):NP Q:=h
theorem iL{a b:List Nat}(h:∀x∈a,x∈b:=by intro b hb;simp[av,St.put] at hb |-;try first|exact hb|omega|simp[hb]|(rcases hb with hb|hb<;>simp[hb])|(rcases hb with hb|hb|hb<;>simp[hb])):∀x∈a,x∈b:=h
theorem fE{l':List (Nat×D)}(h:nZ e l':=by repeat (first|exact trivial|refine⟨lk,?_⟩)):nZ e l':=h
theorem DF{dc:List Operand}{ds:List D}(h:ng x dc ds:=by repeat (first|exact trivial|refine⟨ot,?_⟩|refine⟨bV,?_⟩|refine⟨tW,?_⟩)):ng x dc ds:=h
theorem ez {f t:Nat} {args:List D} {r:D} (fy:∀args w,(callFunc f args).run P w = .ok (.enter f args) w) (hc:VP P C.G f args r) (K:OD P C ops l (x.put t r) Q)
  (ho:o.op = .call {callee:=.value fo,args:=dc,argTypes:=ts}:=by exact rfl) (hw:cj ops x o true:=by exact aq) (hd:o.dst=some t:=by exact rfl) (hf:fo = .func f:=by exact rfl) (ha:ng x dc.toList args:=by exact DF):OD P C ops (o::l) x Q:=OD.iD hw ho hd hf fy hc ha K
theorem qm {f t:Nat} {args:List D} {r:D} (fy:∀args w,(callFunc f args).run P w = .ok (.enter f args) w) (hc:VP P C.G f args r) (K:AD P C ops S1 T fuel (ld.setIfInBounds i true) (x.put t r) Q)
  (hi:ops[i]?=some o:=by exact rfl) (ho:o.op = .call {callee:=.value fo,args:=dc,argTypes:=ts}:=by exact rfl) (hw:cj ops x o true:=by exact aq) (hd:o.dst=some t:=by exact rfl) (hf:fo = .func f:=by exact rfl) (ha:ng x dc.toList args:=by exact DF):bC P C ops S1 T fuel ld x Q i:=bC.iD hi hw ho hd hf fy hc ha K
theorem fD (k t sz m:Nat) {cap:Nat} {cs:List D} (K:OD P C ops l ⟨x.n,(t,.list sz cs m)::x.env,x.S.eraseIdx k⟩ Q) (hk:x.S[k]?=some B:=by exact rfl) (ht:V.look t x.env = .v (.slice (some ⟨b,0,none⟩) m cap):=by exact lk) (hb:B.b=b:=by exact rfl) (dy:B.cs=cs:=by exact rfl) (hl:cs.length=m*sz:=by exact rfl) (h1:m<=cap:=by exact Nat.le_refl _) (h2:cap<=maxLen:=by decide)
  (hne:isMap B.e=false:=by exact rfl):OD P C ops l x Q:=OD.vJ (hne:=hne) hk ht hb dy hl h1 h2 K
theorem nQ (k t sz m:Nat) {cap:Nat} {cs:List D} (K:AD P C ops S1 T fuel ld ⟨x.n,(t,.list sz cs m)::x.env,x.S.eraseIdx k⟩ Q) (hk:x.S[k]?=some B:=by exact rfl) (ht:V.look t x.env = .v (.slice (some ⟨b,0,none⟩) m cap):=by exact lk) (hb:B.b=b:=by exact rfl) (dy:B.cs=cs:=by exact rfl) (hl:cs.length=m*sz:=by exact rfl) (h1:m<=cap:=by exact Nat.le_refl _) (h2:cap<=maxLen:=by decide)
  (hne:isMap B.e=false:=by exact rfl):AD P C ops S1 T fuel ld x Q:=AD.vJ (hne:=hne) hk ht hb dy hl h1 h2 K
theorem Y0{pl:List (Nat×D)}(h:jW x ps pl:=by repeat (first|exact trivial|refine⟨rfl,ot,?_⟩|refine⟨rfl,bV,?_⟩|refine⟨rfl,tW,?_⟩)):jW x ps pl:=h
theorem nu{c:Code}{ι:Type}{y:St}(I:ι->St->Prop)(μ:ι->Nat)(i:ι)(h0:I i y)(hw:Wk x y)(round:∀i y,I i y->CD P C c y (Cf I μ i Q)):CD P C (.loop c) x Q:=CD.wk hw (CD.loop I μ i h0 round)
theorem Y1{p:Prop}{c:Code}{ι:Type}{y:St}(I:ι->St->Prop)(μ:ι->Nat)(i:ι)(h0:I i y)(round:∀i y,I i y->CD P C c y (Cf I μ i Q))(hp:CD P C (.loop c) x Q->p:=by exact nS)(hw:Wk x y:=by exact aI):p:=hp (CD.wk hw (CD.loop I μ i h0 round))
theorem ey {e':TypeId} {tt len:Nat} {z:Value} (pl:List (Nat×D)) (oZ:List Value) (ds:List D) (hz:∀w,(zeroValue e').run P w = .ok z w) (E:∀w,(underlying t).run P w = .ok (.slice e') w) (hs:∀w,(sizeOf e').run P w = .ok sz w)
  (k:∀b,OD P C ops l ⟨x.n,(tt,.v (.slice (some ⟨b,0,none⟩) len len))::x.env,⟨b,e',ds.length,ds⟩::x.S⟩ Q) (ho:o.op = .buildSlice t len ps.toArray:=by exact rfl) (hw:cj ops x o true:=by exact aq) (jY:o.dst=some tt:=by exact rfl) (hl:Nat.ble 1 (len*sz)=true:=by exact rfl) (gp:Nat.ble (len*sz) (2 ^ 24)=true:=by exact rfl)
  (fa:(Array.range (len*sz)).map (fun i=>z.cells[i % z.cells.size]!)=oZ.toArray:=by kernel_rfl) (gJ:jW x ps pl:=by exact Y0) (hj:pl.all (fun p=>k8 p.2)=true:=by exact rfl) (hd:mD (fun i=>some (i*sz,sz)) (oZ.map .v) pl=some ds:=by exact YZ) (hne:isMap e'=false:=by exact rfl):OD P C ops (o::l) x Q:=OD.Mo (hne:=hne) hw ho jY hz E hs hl gp fa gJ hj hd k
theorem nq {e':TypeId} {tt len:Nat} {z:Value} (pl:List (Nat×D)) (oZ:List Value) (ds:List D) (hz:∀w,(zeroValue e').run P w = .ok z w) (E:∀w,(underlying t).run P w = .ok (.slice e') w) (hs:∀w,(sizeOf e').run P w = .ok sz w)
  (k:∀b,AD P C ops S1 T fuel (ld.setIfInBounds i true) ⟨x.n,(tt,.v (.slice (some ⟨b,0,none⟩) len len))::x.env,⟨b,e',ds.length,ds⟩::x.S⟩ Q) (hi:ops[i]?=some o:=by exact rfl) (ho:o.op = .buildSlice t len ps.toArray:=by exact rfl) (hw:cj ops x o true:=by exact aq) (jY:o.dst=some tt:=by exact rfl) (hl:Nat.ble 1 (len*sz)=true:=by exact rfl) (gp:Nat.ble (len*sz) (2 ^ 24)=true:=by exact rfl)
  (fa:(Array.range (len*sz)).map (fun i=>z.cells[i % z.cells.size]!)=oZ.toArray:=by kernel_rfl) (gJ:jW x ps pl:=by exact Y0) (hj:pl.all (fun p=>k8 p.2)=true:=by exact rfl) (hd:mD (fun i=>some (i*sz,sz)) (oZ.map .v) pl=some ds:=by exact YZ) (hne:isMap e'=false:=by exact rfl):bC P C ops S1 T fuel ld x Q i:=bC.Mo (hne:=hne) hi hw ho jY hz E hs hl gp fa gJ hj hd k
theorem aP (k:Nat) (cs':List D) {o' m:Nat} {d:D} {y z:Operand} (hn:∀w,(sizeOf t).run P w = .ok m w) (K:OD P C ops l ⟨x.n,x.env,x.S.set k {B with cs:=cs'}⟩ Q) (ho:o.op = .store t y z:=by exact rfl) (hw:cj ops x o true:=by exact aq) (jY:o.dst=none:=by exact rfl) (hy:aG x y = .v (.pointer (some ⟨b,o',none⟩)):=by exact ot)
  (hk:x.S[k]?=some B:=by exact rfl) (hb:B.b=b:=by exact rfl) (hz:aG x z=d:=by first|exact ot|exact bV) (hj:k8 d=true:=by exact rfl) (h1:(cellsOf d).all one=true:=by exact rfl) (gC:(cellsOf d).length=m:=by exact rfl) (hl:Nat.ble (o'+m) B.cs.length=true:=by exact rfl) (dy:dh B.cs o' (cellsOf d)=cs':=by exact rfl) (hne:isMap B.e=false:=by exact rfl):OD P C ops (o::l) x Q:=OD.store (hne:=hne) hw ho jY hy hk hb hz hj h1 hn gC hl dy K
theorem ee (k:Nat) (cs':List D) {o' m:Nat} {d:D} {y z:Operand} (hn:∀w,(sizeOf t).run P w = .ok m w) (K:AD P C ops S1 T fuel (ld.setIfInBounds i true) ⟨x.n,x.env,x.S.set k {B with cs:=cs'}⟩ Q) (hi:ops[i]?=some o:=by exact rfl) (ho:o.op = .store t y z:=by exact rfl) (hw:cj ops x o true:=by exact aq) (jY:o.dst=none:=by exact rfl) (hy:aG x y = .v (.pointer (some ⟨b,o',none⟩)):=by exact ot)
  (hk:x.S[k]?=some B:=by exact rfl) (hb:B.b=b:=by exact rfl) (hz:aG x z=d:=by first|exact ot|exact bV) (hj:k8 d=true:=by exact rfl) (h1:(cellsOf d).all one=true:=by exact rfl) (gC:(cellsOf d).length=m:=by exact rfl) (hl:Nat.ble (o'+m) B.cs.length=true:=by exact rfl) (dy:dh B.cs o' (cellsOf d)=cs':=by exact rfl) (hT:∀b∈T,b∈av (x.S.eraseIdx k):=by exact iL) (hne:isMap B.e=false:=by exact rfl):bC P C ops S1 T fuel ld x Q i:=bC.store (hne:=hne) hi hw ho jY hy hk hb hz hj h1 hn gC hl dy hT K
theorem om_ {t:Nat} {d:D} {z:Operand} (K:OD P C ops l ⟨n,(t,d)::e,S⟩ Q) (ho:o.op = .move z\/o.op = .assign z:=by first|exact .inl rfl|exact .inr rfl) (hz:aG ⟨n,e,S⟩ z=d:=by first|exact ot|exact bV|exact tW|exact wT)
  (hw:cj ops ⟨n,e,S⟩ o true:=by first|exact sb rfl|exact uh rfl rfl rfl lk jJ) (hd:o.dst=some t:=by exact rfl):OD P C ops (o::l) ⟨n,e,S⟩ Q:=OD.still hw hd (bD ho hz) K

end Go.Proofs.YtbplamgacibdaaaGreatDoor.V
namespace Go.Proofs.YtbplamgacibdaaaGreatDoor.V
open List
open Go.RowKit
variable {P:Program} {C:dG} {G:List (Nat×List Value)} {Q:Exit->St->Prop} {x:St} {ops:Array Oper} {l l2:List Oper} {o:Oper} {n t:Nat} {d:D} {e e' l':List (Nat×D)} {S:List ah} {ts:List Nat} {kd:Rd} {c:Bool}
variable {zs:List Value} {pl lr:List (Nat×D)} {k sz t' id:Nat} {ds:List D} {d0:D} {y fo:Operand} {ps:List (Nat×Operand)} {dc:Array Operand} {tt:Array TypeId} {p q:Prop} {fn:Func} {post:D->List ah->Prop} {b:Bool} {S':List ah}
class Fo (P:Program) (s i:Nat) (off:outParam Nat):Prop where h:AZ P s i off=true
class Sl (P:Program) (t:Nat) (sz:outParam Nat):Prop where h:Dv P t sz=true
class Sz (P:Program) (t:Nat) (sz:outParam Nat):Prop where h:qV P t sz=true
def sL(P:Program)(t:Nat):Option (List Value):=(P.info? t).bind fun i=>i.zero.map fun z=>z.cells.toList
theorem BR(h:sL P t=some zs):∃z,(∀w,(zeroValue t).run P w = .ok z w)/\z.cells.toList=zs:=by
 unfold sL at h;cases hi:P.info? t with
 | none=>rw[hi] at h;cases h
 | some i =>
  rw[hi,Option.bind_some] at h;cases hz:i.zero with
  | none=>rw[hz] at h;cases h
  | some z =>
   rw[hz,Option.map_some] at h;refine⟨z,fun w=>?_,Option.some.inj h⟩;unfold zeroValue typeInfo;simp[hi,hz]
def FE(P:Program)(t:Nat):Option (List (Nat×Option Nat)):=(P.underlying t).bind fun d=>match d with
 | .struct fs=>some (fs.toList.map fun f=>(f.offset,(P.info? f.type).map (·.size)))
 | _=>none
theorem abK{pl:List (Nat×Nat)}(h:FE P t=some (pl.map fun p=>(p.1,some p.2))):∃E,(∀w,(underlying t).run P w = .ok (.struct E) w)/\∀w,(E.mapM fun f=>do pure (f.offset,<-sizeOf f.type):Sem (Array (Nat×Nat))).run P w = .ok pl.toArray w:=by
 unfold FE at h;cases hu:P.underlying t with
 | none=>rw[hu] at h;cases h
 | some d =>
  rw[hu,Option.bind_some] at h;split at h
  ·rename_i E;refine⟨E,run_underlying hu,fun w=>?_⟩;have h:=Option.some.inj h;rw[<-Array.toArray_toList (xs:=E),mapM_toArray];have key:∀(l:List Field) (pl:List (Nat×Nat)),l.map (fun f=>(f.offset,(P.info? f.type).map (·.size)))=pl.map (fun p=>(p.1,some p.2))->(l.mapM fun f=>do pure (f.offset,<-sizeOf f.type):Sem (List (Nat×Nat))).run P w = .ok pl w:=by
    intro l;induction l with
    | nil=>intro pl h;cases pl with
     | nil=>rfl
     | cons _ _=>cases h
    | cons f r ih =>
     intro pl h;cases pl with
     | nil=>cases h
     | cons p q =>
      rw[map_cons,map_cons,List.cons.injEq,Prod.mk.injEq] at h;obtain⟨⟨h1,h2⟩,h3⟩:=h;have h4:∀w,(sizeOf f.type).run P w = .ok p.2 w:=by
       cases hi:P.info? f.type with
       | none=>rw[hi] at h2;cases h2
       | some i=>exact lZ (by unfold qV;rw[hi] at h2 |-;simp at h2;simp[h2])
      rw[mapM_cons];simp only[Sem.run_bind,Sem.run_pure,h4,Result.andThen_ok,ih q h3,h1]
   have:=key E.toList pl h;simp only[map_eq_pure_bind,Sem.run_bind,this,Result.andThen_ok,Sem.run_pure]
  cases h
class Sb (P:Program) (t:Nat) (zs:outParam (List Value)) (pl:outParam (List (Nat×Nat))):Prop where
  hz:sL P t=some zs
  hp:FE P t=some (pl.map fun p=>(p.1,some p.2))
inductive mN:Nat->List D->List D->Prop
  | z {l:List D}:mN 0 l []
  | s {k:Nat} {a:D} {l l':List D} (h:mN k l l'):mN (k+1) (a::l) (a::l')
inductive qt:Nat->List D->List D->Prop
 | z {l:List D}:qt 0 l l
 | s {k:Nat} {a:D} {l l':List D} (h:qt k l l'):qt (k+1) (a::l) l'
theorem mN.eq{l l':List D}(h:mN k l l'):l.take k=l'/\l'.length=k:=by
 induction h with
 | z=>exact⟨rfl,rfl⟩
 | s h ih=>exact⟨by rw[take_succ_cons,ih.1],by rw[length_cons,ih.2]⟩
theorem mN.whole{l l':List D}(h:mN k l l')(hl:Nat.beq l.length k=true):l=l':=by
 have:=h.eq.1;rwa [take_of_length_le (Nat.le_of_eq (Nat.eq_of_beq_eq_true hl))] at this
theorem qt.eq{l l':List D}(h:qt k l l'):l.drop k=l':=by
 induction h with
 | z=>rfl
 | s h ih=>rw[drop_succ_cons,ih]
inductive LB (S:List ah) (sz:Nat):D->Rd->List D->Prop
 | b (k:Nat) {b o':Nat} {B:ah} {ds m:List D} (hk:S[k]?=some B) (hb:B.b=b) (hm:qt o' B.cs m) (hd:mN sz m ds) (hne:isMap B.e=false):LB S sz (.v (.pointer (some ⟨b,o',none⟩))) (.fJ k) ds
 | m {α:Type} {g:α->List D} {i:Nat} {ls:List α} (hg:∀a,(g a).length=sz) (hi:i<ls.length):LB S sz (.fL (ls.flatMap g) (i*sz)) .kC (g ls[i])
 | r (k:Nat) {α:Type} {g:α->List D} {b i:Nat} {B:ah} {ls:List α} (hg:∀a,(g a).length=sz) (hk:S[k]?=some B) (hb:B.b=b) (dy:B.cs=ls.flatMap g) (hi:i<ls.length) (hne:isMap B.e=false):LB S sz (.v (.pointer (some ⟨b,0+i*sz,none⟩))) (.fJ k) (g ls[i])
 | i {o':Nat} {cs ds m:List D} (hm:qt o' cs m) (hd:mN sz m ds):LB S sz (.fL cs o') .kC ds
theorem LB.still(h:LB x.S sz d0 kd ds)(ho:o.op = .load t y)(hy:aG x y=d0)(ha:qW P t true=true)(hn:qV P t sz=true):bX P G x o kd (.agg ds):=by
 cases h with
 | b k hk hb hm hd hne=>exact Bi (hne:=hne) ho hy hk hb (iU ha) (lZ hn) hd.eq.2 (by rw[hm.eq];exact hd.eq.1)
 | m hg hi=>exact Iy ho hy (iU ha) (lZ hn) (hg _) (Ge hg hi)
 | r k hg hk hb dy hi hne=>exact dJ (hne:=hne) hg hk hb dy (iU ha) (lZ hn) hi x o y ho hy rfl
 | i hm hd=>exact Iy ho hy (iU ha) (lZ hn) hd.eq.2 (by rw[hm.eq];exact hd.eq.1)
theorem nF{l l':List D}(h:mN k l l':=by repeat (first|exact mN.z|apply mN.s)):mN k l l':=h
theorem qH{l l':List D}(h:qt k l l':=by repeat (first|exact qt.z|apply qt.s)):qt k l l':=h
theorem fb_{s:TypeId}{i off:Nat}{d d':D}(ho:o.op = .fieldAddr s y i:=by exact rfl)(hy:aG x y=d:=by first|exact ot|exact wT)(hc:AZ P s i off=true:=by exact Fo.h)(h:FA off d d':=by first|exact .p|exact .i):bX P G x o .none d':=dQ off ho hy hc h
theorem lc_ (ho:o.op = .load t y:=by exact rfl) (hy:aG x y=d0:=by exact ot) (hn:qV P t sz=true:=by exact Sz.h) (ha:qW P t true=true:=by kernel_rfl)
  (h:LB x.S sz d0 kd ds:=by first|(apply LB.b 0;exact rfl;exact rfl;(focus exact qH);(focus exact nF);exact rfl)|(apply LB.b 1;exact rfl;exact rfl;(focus exact qH);(focus exact nF);exact rfl)|(apply LB.b 2;exact rfl;exact rfl;(focus exact qH);(focus exact nF);exact rfl)|(apply LB.b 3;exact rfl;exact rfl;(focus exact qH);(focus exact nF);exact rfl)|(apply LB.b 4;exact rfl;exact rfl;(focus exact qH);(focus exact nF);exact rfl)|(apply LB.b 5;exact rfl;exact rfl;(focus exact qH);(focus exact nF);exact rfl)|(apply LB.b 6;exact rfl;exact rfl;(focus exact qH);(focus exact nF);exact rfl)|(apply LB.b 7;exact rfl;exact rfl;(focus exact qH);(focus exact nF);exact rfl)|(apply LB.b 8;exact rfl;exact rfl;(focus exact qH);(focus exact nF);exact rfl)|(apply LB.b 9;exact rfl;exact rfl;(focus exact qH);(focus exact nF);exact rfl)|(apply LB.m;(focus exact fun _=>rfl);(focus first|assumption|omega|fail))|(apply LB.i;(focus exact qH);(focus exact nF))|(apply LB.r 0;(focus exact fun _=>rfl);exact rfl;exact rfl;exact rfl;exact rfl;(focus first|assumption|omega|fail))|(apply LB.r 1;(focus exact fun _=>rfl);exact rfl;exact rfl;exact rfl;exact rfl;(focus first|assumption|omega|fail))|(apply LB.r 2;(focus exact fun _=>rfl);exact rfl;exact rfl;exact rfl;exact rfl;(focus first|assumption|omega|fail))|(apply LB.r 3;(focus exact fun _=>rfl);exact rfl;exact rfl;exact rfl;exact rfl;(focus first|assumption|omega|fail))|fail):bX P G x o kd (.agg ds):=h.still ho hy ha hn
theorem ajK {d:D} (ho:o.op = .load t y:=by exact rfl) (hy:aG x y=d0:=by exact ot) (ha:qW P t false=true:=by kernel_rfl)
  (h:LD x.S d0 kd d:=by first|(apply LD.b 0;exact rfl;exact rfl;exact rfl;exact rfl)|(apply LD.b 1;exact rfl;exact rfl;exact rfl;exact rfl)|(apply LD.b 2;exact rfl;exact rfl;exact rfl;exact rfl)|(apply LD.b 3;exact rfl;exact rfl;exact rfl;exact rfl)|(apply LD.b 4;exact rfl;exact rfl;exact rfl;exact rfl)|(apply LD.b 5;exact rfl;exact rfl;exact rfl;exact rfl)|(apply LD.b 6;exact rfl;exact rfl;exact rfl;exact rfl)|(apply LD.b 7;exact rfl;exact rfl;exact rfl;exact rfl)|(apply LD.b 8;exact rfl;exact rfl;exact rfl;exact rfl)|(apply LD.b 9;exact rfl;exact rfl;exact rfl;exact rfl)|(apply LD.m;(focus exact fun _=>rfl);exact rfl;(focus first|assumption|omega|fail))|(apply LD.m0;(focus exact fun _=>rfl);exact rfl;(focus first|assumption|omega|fail))|(apply LD.i;exact rfl)|(apply LD.r 0;(focus exact fun _=>rfl);exact rfl;exact rfl;exact rfl;exact rfl;exact rfl;(focus first|assumption|omega|fail))|(apply LD.r0 0;(focus exact fun _=>rfl);exact rfl;exact rfl;exact rfl;exact rfl;exact rfl;(focus first|assumption|omega|fail))|(apply LD.r 1;(focus exact fun _=>rfl);exact rfl;exact rfl;exact rfl;exact rfl;exact rfl;(focus first|assumption|omega|fail))|(apply LD.r0 1;(focus exact fun _=>rfl);exact rfl;exact rfl;exact rfl;exact rfl;exact rfl;(focus first|assumption|omega|fail))|(apply LD.r 2;(focus exact fun _=>rfl);exact rfl;exact rfl;exact rfl;exact rfl;exact rfl;(focus first|assumption|omega|fail))|(apply LD.r0 2;(focus exact fun _=>rfl);exact rfl;exact rfl;exact rfl;exact rfl;exact rfl;(focus first|assumption|omega|fail))|(apply LD.r 3;(focus exact fun _=>rfl);exact rfl;exact rfl;exact rfl;exact rfl;exact rfl;(focus first|assumption|omega|fail))|(apply LD.r0 3;(focus exact fun _=>rfl);exact rfl;exact rfl;exact rfl;exact rfl;exact rfl;(focus first|assumption|omega|fail))|fail):bX P G x o kd d:=h.still ho hy (iU ha)
theorem ajL {op:BinOp} {t t':TypeId} {z:Operand} {u u' r:Value} (ho:o.op = .binOp op t y z t':=by exact rfl) (hy:aG x y = .v u:=by first|exact ot|exact bV|fail) (hz:aG x z = .v u':=by first|exact ot|exact bV|fail)
  (hb:kZ P op t u u' r:=by first|exact TU|exact TQ|exact TV|exact TS|exact TR|exact TT|(apply kN;(focus exact wrap_i64 w4 w4))|(apply iI;(focus exact wrap_i64 w4 w4))|(apply Kc;(focus exact wrap_i64 w4 w4))|exact RN|exact RO|exact adm|exact adn|exact adp|exact adq|(apply Kf;(focus omega))|fail):bX P G x o .none (.v r):=dR ho hy hz hb
theorem iy_ {z:Operand} {k:IntKind} {i:Int} {d d':D} (ho:o.op = .indexAddr t y z:=by exact rfl) (hy:aG x y=d:=by exact ot) (hz:aG x z = .v (.int k i):=by first|exact ot|exact bV) (hs:Dv P t sz=true:=by exact Sl.h)
  (h:IX sz i d d':=by first|(apply IX.l;exact rfl;(focus first|assumption|omega|(simp;omega)|fail))|(apply IX.r;exact rfl;(focus first|assumption|omega|(simp;omega)|fail))|(apply IX.l;(focus exact(Int.toNat_of_nonneg w4).symm);(focus omega))|(apply IX.r;(focus exact(Int.toNat_of_nonneg w4).symm);(focus omega))|fail):bX P G x o .none d':=dL sz ho hy hz hs h
def Y2(P:Program)(s i:Nat):Bool:=match P.underlying s with
 | some (.struct fs)=>match fs[i]? with
  | some f=>qW P f.type false
  | none=>false
 | _=>false
theorem fv_{s:TypeId}{i off:Nat}{cs:List D}{d:D}(ho:o.op = .field s y i:=by exact rfl)(hy:aG x y = .agg cs:=by exact ot)(hc:AZ P s i off=true:=by exact Fo.h)(ha:Y2 P s i=true:=by kernel_rfl)(hd:cs[off]?=some d:=by exact rfl):bX P G x o .none d:=by
 obtain⟨fs,f,m,h1,h2,h3,h4⟩:=VZ hc;refine aaP ho hy h1 h2 ?_ h4 hd;unfold Y2 at ha;split at ha
 ·rename_i E I;have:E=fs:=(by have:=h1 default;rw[run_underlying I] at this;simpa using this)
  subst this;rw[h2] at ha;exact iU ha
 cases ha
theorem agM:jW x [] []:=trivial
theorem ae9{d:D}(hy:aG x y=d)(h:jW x ps pl):jW x ((k,y)::ps) ((k,d)::pl):=⟨rfl,hy,h⟩
theorem pt_(h:jW x ps pl:=by repeat (first|exact agM|(apply ae9;(focus first|exact ot|exact bV|exact tW|fail)))):jW x ps pl:=h
theorem bd_ {pq:List (Nat×Nat)} {m:List D} (ho:o.op = .build t ps.toArray:=by exact rfl) (hz:sL P t=some zs:=by exact Sb.hz) (hp:FE P t=some (pq.map fun p=>(p.1,some p.2)):=by exact Sb.hp)
  (gJ:jW x ps pl:=by exact pt_) (hj:pl.all (fun p=>k8 p.2)=true:=by exact rfl) (hs:qV P t sz=true:=by exact Sz.h) (hd:mD (pq.toArray[·]?) (zs.map .v) pl=some m:=by exact rfl) (hl:Nat.beq m.length sz=true:=by exact rfl) (hk:mN sz m ds:=by exact nF):bX P G x o .none (.agg ds):=by
 obtain⟨z,h1,h2⟩:=BR hz;obtain⟨fs,h3,h4⟩:=abK hp;rw[hk.whole hl] at hd;exact pi ho h1 h3 h4 gJ hj (by rw[h2];exact hd)
def On(P:Program)(t:Nat):Bool:=match P.underlying t with
 | some .string=>true
 | _=>false
theorem aii(h:On P t=true):∀w,(underlying t).run P w = .ok .string w:=by
 unfold On at h;split at h
 ·rename_i E;exact run_underlying E
 cases h
def DG(P:Program)(t:Nat)(k:IntKind):Bool:=match P.underlying t with
 | some (.int a)=>decide (a=k)
 | _=>false
class Ik (P:Program) (t:Nat) (k:outParam IntKind):Prop where h:DG P t k=true
theorem V2{k:IntKind}(h:DG P t k=true):∀w,(underlying t).run P w = .ok (.int k) w:=by
 unfold DG at h;split at h
 ·rename_i a h1;obtain rfl:=of_decide_eq_true h;exact run_underlying h1
 cases h
theorem cv_{s:TypeId}{k0 k k':IntKind}{a r:Int}(ho:o.op = .convert s t y:=by exact rfl)(hy:aG x y = .v (.int k a):=by exact ot)(hc:DG P s k0=true:=by exact Ik.h)(uR:DG P t k'=true:=by exact Ik.h)(h:k'.wrap a=r:=by first|exact wrap_i64 w4 w4|exact rfl):bX P G x o .none (.v (.int k' r)) :=
 sg ho hy (su (V2 hc) (V2 uR) h)
theorem lr_{s:ByteArray}{ts:Array TypeId}(ho:o.op = .call {callee:=.builtin .len,args:=#[y],argTypes:=ts}:=by exact rfl)(ht:ts = #[t]:=by exact rfl)(hy:aG x y = .v (.string s):=by exact ot)(hs:On P t=true:=by kernel_rfl):bX P G x o .none (.v (.int .i64 (s.size:Nat))):=EH ho ht hy (aii hs)
def tmpsOf:List Operand->List Nat
 | []=>[]
 | .tmp t::r=>t::tmpsOf r
 | _::r=>tmpsOf r
def opsOf:Op->List Operand
 | .move x|.assign x|.nilCheck x|.unOp _ _ x|.convert _ _ x|.fieldAddr _ x _|.field _ x _|.load _ x|.extract x _=>[x]
 | .pick c a b=>[c,a,b]
 | .binOp _ _ a b _|.indexAddr _ a b|.index _ a b|.lookup _ a b _=>[a,b]
 | .slice _ x lo hi mx=>x::(lo.toList++hi.toList++mx.toList)
 | .build _ ps|.buildSlice _ _ ps=>ps.toList.map (·.2)
 | .makeFunc _ _ c=>c.toList
 | .call c=>match c.callee with
  | .value f=>f::c.args.toList
  | _=>c.args.toList
 | _=>[]
def Aj(ops:Array Oper)(o:Oper):List Nat:=match o.guard with
 | some (g,_)=>(match ops[g]? with
  | some p=>p.dst.toList
  | none=>[])
 | none=>[]
def kP(ops:Array Oper)(o:Oper):List Nat:=Aj ops o++tmpsOf (opsOf o.op)
theorem jO{ts:List Nat}(h:fH ts e l':=by repeat (first|exact fH.nil|(apply fH.cons;(focus exact lk)))):fH ts e l':=h
theorem pK{x:St}(h:cj ops x o true:=by first|exact sb rfl|exact uh rfl rfl rfl lk jJ|fail):cj ops x o true:=h
theorem HP{x:St}(h:cj ops x o false:=by first|exact mT rfl rfl rfl lk jJ|exact J9 (b:=false) rfl rfl rfl lk|fail):cj ops x o false:=h
def PE(c:Bool)(P:Program)(G:List (Nat×List Value))(n:Nat)(S:List ah)(ops:Array Oper)(ts:List Nat)(l:List Oper)(e:List (Nat×D))(R:List (Nat×D)->Prop):Prop:=∃e' l',PD c P G n S ops l e [] e'/\fH ts e' l'/\R l'
variable {R:List (Nat×D)->Prop}
theorem iz(K:R l')(h:fH ts e l':=by exact jO):PE c P G n S ops ts [] e R:=⟨e,l',.nil,h,K⟩
theorem PE.cons{lr:List (Nat×D)}{E:List Nat}(hd:o.dst=some t)(hr:fH E e lr)(hq:(!c||mH ops o E)=true)(hw:cj ops ⟨n,lr,S⟩ o true)(h:fU P G ⟨n,lr,S⟩ o [] (fun y=>y=⟨n,(t,d)::lr,S⟩))(K:PE c P G n S ops ts l ((t,d)::e) R):PE c P G n S ops ts (o::l) e R:=by
 obtain⟨e',l',h1,h2⟩:=K;exact⟨e',l',.cons hd hr hq hw h h1,h2⟩
theorem Y3(hd:o.dst=some t:=by exact rfl)(hr:fH (kP ops o) e lr:=by exact jO)(h:bX P G ⟨n,lr,S⟩ o kd d)(K:PE c P G n S ops ts l ((t,d)::e) R)(hq:(!c||mH ops o (kP ops o))=true:=by kernel_rfl)(hw:cj ops ⟨n,lr,S⟩ o true:=by exact pK):PE c P G n S ops ts (o::l) e R:=.cons hd hr hq hw (h.gj hd) K
theorem pf_(K:PE c P G n S ops ts l ((t,.v (.tuple #[]))::e) R)(hd:o.dst=some t:=by exact rfl)(hr:fH (Aj ops o) e lr:=by exact jO)(hq:(!c||mH ops o (Aj ops o))=true:=by kernel_rfl)(hw:cj ops ⟨n,lr,S⟩ o false:=by exact HP):PE c P G n S ops ts (o::l) e R:=by
 obtain⟨e',l',h1,h2⟩:=K;exact⟨e',l',.skip hd hr hq hw h1,h2⟩
def xX(P:Program)(f:Nat):Bool:=match P.funcs[f]? with
 | some fn => !(fn.name == "runtime.NumGoroutine") && fn.body.isSome
 | none=>false
theorem Vi{f:Nat}(h:xX P f=true):∀args w,(callFunc f args).run P w = .ok (.enter f args) w:=by
 unfold xX at h;split at h
 ·rename_i fn hf;rw[Bool.and_eq_true] at h;obtain⟨h1,h2⟩:=h;obtain⟨c,hc⟩:=Option.isSome_iff_exists.1 h2;exact enters_of hf (by simpa using h1) hc
 cases h
theorem pc_ {f:Nat} {args:List D} {r:D} (hc:VP P G f args r) (K:PE c P G n S ops ts l ((t,r)::e) R) (ho:o.op = .call {callee:=.value fo,args:=dc,argTypes:=tt}:=by exact rfl)
  (hd:o.dst=some t:=by exact rfl) (hr:fH (kP ops o) e lr:=by exact jO) (hq:(!c||mH ops o (kP ops o))=true:=by kernel_rfl) (hw:cj ops ⟨n,lr,S⟩ o true:=by exact pK) (hf:fo = .func f:=by exact rfl) (fy:xX P f=true:=by kernel_rfl) (ha:ng ⟨n,lr,S⟩ dc.toList args:=by exact DF):PE c P G n S ops ts (o::l) e R:=by
 refine .cons hd hr hq hw ?_ K;intro C a w K Q hG hs hK;refine BB ho hd hf (Vi fy) ha.eq (eX _) hc C a w K Q hG hs fun y a' w' hy E uR I=>?_;obtain⟨r',S',⟨rfl,rfl⟩,rfl⟩:=hy;exact hK _ a' w' rfl E uR I
theorem agN{x:St}:jW x [] (cu k []):=trivial
theorem afa{x:St}{d:D}{pd:List D}(hy:aG x y=d)(h:jW x ps (cu (k+1) pd)):jW x ((k,y)::ps) (cu k (d::pd)):=⟨rfl,hy,h⟩
theorem HQ{x:St}{pd:List D}(h:jW x ps (cu k pd):=by repeat (first|exact agN|(apply afa;(focus first|exact ot|exact bV|exact tW|fail)))):jW x ps (cu k pd):=h
def xY(P:Program)(t sz:Nat):Bool:=match P.underlying t with
 | some (.slice e)=>qV P e sz&&(sL P e).isSome && !(isMap e)
 | _=>false
class tG (P:Program) (t:Nat) (sz:outParam Nat):Prop where h:xY P t sz=true
theorem agO(h:xY P t sz=true):∃e z,(∀w,(underlying t).run P w = .ok (.slice e) w)/\(∀w,(sizeOf e).run P w = .ok sz w)/\(∀w,(zeroValue e).run P w = .ok z w)/\isMap e=false:=by
 unfold xY at h;split at h
 ·rename_i e E;simp only[Bool.and_eq_true,Bool.not_eq_true'] at h;obtain⟨⟨h1,h2⟩,h3⟩:=h;obtain⟨zs,h4⟩:=Option.isSome_iff_exists.1 h2;obtain⟨z,h5,_⟩:=BR h4;exact⟨e,z,run_underlying E,lZ h1,h5,h3⟩
 cases h
theorem aay{pd:List D}(h:pd.all k8=true):∀k,(cu k pd).all (fun p=>k8 p.2)=true:=by
 induction pd with
 | nil=>intro k;rfl
 | cons a r ih =>
  intro k;rw[all_cons,Bool.and_eq_true] at h;rw[cu,all_cons,Bool.and_eq_true];exact⟨h.1,ih h.2 _⟩
theorem adC {len:Nat} {pd:List D} (ho:o.op = .buildSlice t' len ps.toArray) (hd:o.dst=some t) (hs:xY P t' sz=true) (gJ:jW x ps (cu 0 pd)) (hn:Nat.beq pd.length len=true) (hl:Nat.ble 1 (len*sz)=true) (gp:Nat.ble (len*sz) (2 ^ 24)=true)
  (hj:pd.all k8=true) (ha:(pd.all fun d=>Nat.beq (cellsOf d).length sz)=true) (j9:pd.flatMap cellsOf=ds):fU P G x o [] (fun y=>y=x.put t (.list sz ds len)):=by
 obtain⟨e,z,hu,jh,hz,hne⟩:=agO hs;have hlen:pd.length=len:=Nat.eq_of_beq_eq_true hn;have DH:ds.length=len*sz:=by
  rw[<-j9,<-hlen];clear gJ hn hlen j9 hj;induction pd with
  | nil=>simp
  | cons a r ih =>
   rw[all_cons,Bool.and_eq_true] at ha;rw[flatMap_cons,length_append,ih ha.2,Nat.eq_of_beq_eq_true ha.1,length_cons,Nat.succ_mul,Nat.add_comm]
 intro C a w K Q hG h hK;refine Iv (hne:=hne) (zs:=((Array.range (len*sz)).map (fun i=>z.cells[i % z.cells.size]!)).toList.map .v) (ds:=ds) ho hd hz hu jh (Nat.le_of_ble_eq_true hl) (Nat.le_of_ble_eq_true gp) ?_ ?_ ?_ ?_ C a w K Q hG h fun y a' w' hy O uR E=>?_
 ·rw[map_map,Array.toList_map,map_map];apply Array.ext';simp[Function.comp_def]
 ·intro d hd;obtain⟨u,_,rfl⟩:=mem_map.1 hd;exact⟨u,rfl⟩
 ·rw[gJ.eq];exact Bj (aay hj 0)
 ·rw[gJ.eq];exact QC ha (by rw[hlen];simp) j9
 obtain⟨b,rfl⟩:=hy;have I:len<=maxLen:=by
  have h1:=Nat.le_of_ble_eq_true hl;have h2:=Nat.le_of_ble_eq_true gp;have h3:1<=sz:=Nat.pos_of_ne_zero fun h0=>by rw[h0] at h1;omega
  have h4:len*1<=len*sz:=Nat.mul_le_mul_left _ h3;have:maxLen=9223372036854775807:=rfl;omega
 have hg:=Wk.vJ (hne:=hne) (k:=0) (t:=t) (sz:=sz) (m:=len) (cap:=len) (B:=⟨b,e,ds.length,ds⟩) (n:=x.n) (l:=(t,.v (.slice (some ⟨b,0,none⟩) len len))::x.env) (S:=⟨b,e,ds.length,ds⟩::x.S) (cs:=ds) rfl fK rfl DH (Nat.le_refl _) I;refine hK (x.put t (.list sz ds len)) a' w' rfl ?_ uR ?_
 ·have h1:=hg C a' w' O;refine⟨h1.defers,h1.size,fun q hq=>?_,h1.own,h1.fr,h1.ex,h1.eV⟩;have h2:=h1.env q hq;simp only[ga] at h2;simp only[St.put,ga];by_cases e1:t=q
  ·rw[if_pos e1] at h2 |-;exact h2
  rw[if_neg e1] at h2 |-;rw[if_neg e1] at h2;exact h2
 exact⟨E.os,E.tape,E.output,E.size,fun U h1 h2=>⟨(E.block U h1 h2).1,fun h3=>(E.block U h1 h2).2 (mem_cons_of_mem _ h3)⟩⟩
theorem Y4 {len:Nat} {pd:List D} (K:PE c P G n S ops ts l ((t,.list sz ds len)::e) R) (ho:o.op = .buildSlice t' len ps.toArray:=by exact rfl)
  (hd:o.dst=some t:=by exact rfl) (hr:fH (kP ops o) e lr:=by exact jO) (gJ:jW ⟨n,lr,S⟩ ps (cu 0 pd):=by exact HQ) (hs:xY P t' sz=true:=by exact tG.h) (hq:(!c||mH ops o (kP ops o))=true:=by kernel_rfl) (hw:cj ops ⟨n,lr,S⟩ o true:=by exact pK)
  (hn:Nat.beq pd.length len=true:=by exact rfl) (hl:Nat.ble 1 (len*sz)=true:=by exact rfl) (gp:Nat.ble (len*sz) (2 ^ 24)=true:=by exact rfl) (hj:pd.all k8=true:=by exact rfl) (ha:(pd.all fun d=>Nat.beq (cellsOf d).length sz)=true:=by exact rfl) (j9:pd.flatMap cellsOf=ds:=by exact rfl):PE c P G n S ops ts (o::l) e R:=.cons hd hr hq hw (adC ho hd hs gJ hn hl gp hj ha j9) K
theorem Oo {α:Type} {g:α->List D} (ls:List α) {len:Nat} {pd:List D} (K:PE c P G n S ops ts l ((t,.list sz (ls.flatMap g) ls.length)::e) R) (ho:o.op = .buildSlice t' len ps.toArray:=by exact rfl)
  (hd:o.dst=some t:=by exact rfl) (hr:fH (kP ops o) e lr:=by exact jO) (gJ:jW ⟨n,lr,S⟩ ps (cu 0 pd):=by exact HQ) (hs:xY P t' sz=true:=by exact tG.h) (hq:(!c||mH ops o (kP ops o))=true:=by kernel_rfl) (hw:cj ops ⟨n,lr,S⟩ o true:=by exact pK)
  (hn:Nat.beq pd.length len=true:=by exact rfl) (hl:Nat.ble 1 (len*sz)=true:=by exact rfl) (gp:Nat.ble (len*sz) (2 ^ 24)=true:=by exact rfl) (hj:pd.all k8=true:=by exact rfl) (ha:(pd.all fun d=>Nat.beq (cellsOf d).length sz)=true:=by exact rfl) (hlen:len=ls.length:=by exact rfl) (j9:pd.flatMap cellsOf=ls.flatMap g:=by exact rfl):PE c P G n S ops ts (o::l) e R:=by
 subst hlen;exact Y4 K ho hd hr gJ hs hq hw hn hl gp hj ha j9
theorem Oq{x:St}(h:bX P G x o kd d:=by first|exact bD|exact fb_|exact lc_|exact ajK|exact ajL|exact iy_|exact Oa|exact yu|exact qg|exact xV|exact vF|exact lD|exact bd_|exact cv_|exact lr_|exact fv_|exact DE|fail):bX P G x o kd d:=h
structure PK (k:Nat) (P:Program) (G:List (Nat×List Value)) (n:Nat) (S:List ah) (ops:Array Oper) (l:List Oper) (e:List (Nat×D)) (l2:List Oper) (e':List (Nat×D)):Prop where
 h:PD false P G n S ops l e l2 e'
theorem PK.z:PK 0 P G n S ops l e l e:=⟨.nil⟩
theorem PK.s(hd:o.dst=some t)(hr:fH (kP ops o) e lr)(hw:cj ops ⟨n,lr,S⟩ o true)(h:bX P G ⟨n,lr,S⟩ o kd d)(K:PK k P G n S ops l ((t,d)::e) l2 e'):PK (k+1) P G n S ops (o::l) e l2 e':=⟨.cons hd hr rfl hw (h.gj hd) K.h⟩
theorem PK.f(hd:o.dst=some t)(hr:fH (Aj ops o) e lr)(hw:cj ops ⟨n,lr,S⟩ o false)(K:PK k P G n S ops l ((t,.v (.tuple #[]))::e) l2 e'):PK (k+1) P G n S ops (o::l) e l2 e':=⟨.skip hd hr rfl hw K.h⟩
theorem DI(h:PK k P G n S ops l e l2 e':=by repeat (first|exact PK.z|(apply PK.s;exact rfl;(focus exact jO);(focus exact pK);(focus exact Oq))|(apply PK.f;exact rfl;(focus exact jO);(focus exact HP)))):PK k P G n S ops l e l2 e':=h
theorem aH(k:Nat)(K:OD P C ops l2 ⟨n,e',S⟩ Q)(h:PK k P C.G n S ops l e l2 e':=by exact DI):OD P C ops l ⟨n,e,S⟩ Q:=h.h.od K
theorem aB{d:Code}(k:Nat)(K:OD P C l.toArray l2 ⟨n,e',S⟩ (CF P C d Q))(h0:CD P C (.seq (.region id l.toArray false) d) ⟨n,e,S⟩ Q->p:=by exact nS)(h:PK k P C.G n S l.toArray l e l2 e':=by exact DI):p:=h0 (CD.seq (CD.region (h.h.od K)))
theorem dw(k:Nat)(K:OD P C l.toArray l2 ⟨n,e',S⟩ Q)(h0:CD P C (.region id l.toArray false) ⟨n,e,S⟩ Q->p:=by exact nS)(h:PK k P C.G n S l.toArray l e l2 e':=by exact DI):p:=h0 (CD.region (h.h.od K))
theorem yC(k:Nat)(K:OD P C ops l2 ⟨n,e',S⟩ Q)(h:PK k P C.G n S ops l e l2 e':=by repeat (first|exact PK.z|(apply PK.f;exact rfl;(focus exact jO);(focus exact mT rfl rfl rfl lk jJ)))):OD P C ops l ⟨n,e,S⟩ Q:=h.h.od K
theorem bu(ts:List Nat)(K:Q .normal ⟨n,l',S⟩)(h:PK k P C.G n S ops l e [] e':=by exact DI)(hr:fH ts e' l':=by exact jO):OD P C ops l ⟨n,e,S⟩ Q:=h.h.od (YJ ts K hr)
theorem cz{d:Code}(ts:List Nat)(h:PE c P C.G n S l.toArray ts l e fun l'=>CD P C d ⟨n,l',S⟩ Q)(h0:CD P C (.seq (.region id l.toArray c) d) ⟨n,e,S⟩ Q->p:=by exact nS)(hm:(!c||P.follows .mixedOrders)=true:=by kernel_rfl)(hp:(!c||mM l.toArray)=true:=by kernel_rfl):p:=by
 obtain⟨e',l',h1,h2,K⟩:=h;exact h0 (CD.seq (CD.pd (by intro hc;subst hc;simpa using hm) (by intro hc;subst hc;simpa using hp) h1 (CD.wk (Wk.kO h2.kO) K)))
def WC(Q:Exit->St->Prop):Prop:=∀n e l' S,nZ e l'->Q .normal ⟨n,l',S⟩->Q .normal ⟨n,e,S⟩
theorem WC.then{d:Code}:WC (CF P C d Q):=fun n e l' S h k=>CD.wk (Wk.kO h) k
theorem WC.cut{E:St->Prop}:WC (N7 E Q):=fun n e l' S h ⟨z,h1,h2⟩=>⟨z,(Wk.kO h).trans h1,h2⟩
theorem WC.round{ι:Type}{I:ι->St->Prop}{μ:ι->Nat}{i:ι}:WC (Cf I μ i Q):=fun n e l' S h ⟨j,z,h1,h2,h3⟩=>⟨j,z,h1,(Wk.kO h).trans h2,h3⟩
theorem WC.inBlock(h:WC Q):WC (BO id Q):=h
theorem WC.body:WC (Body P fn post):=fun n e l' S h ⟨h1,r,S',h2,h3,h4⟩=>⟨h1,r,S',h2,fun C a w hs=>h3 C a w (Wk.kO h C a w hs),h4⟩
theorem Y5(h:WC Q:=by repeat (first|exact WC.then|exact WC.cut|exact WC.round|exact WC.body|apply WC.inBlock)):WC Q:=h
theorem gl(ts:List Nat)(h:PE c P C.G n S l.toArray ts l e fun l'=>Q .normal ⟨n,l',S⟩)(h0:CD P C (.region id l.toArray c) ⟨n,e,S⟩ Q->p:=by exact nS)(hm:(!c||P.follows .mixedOrders)=true:=by kernel_rfl)(hp:(!c||mM l.toArray)=true:=by kernel_rfl)(hQ:WC Q:=by exact Y5):p:=by
 obtain⟨e',l',h1,h2,K⟩:=h;exact h0 (CD.pd (by intro hc;subst hc;simpa using hm) (by intro hc;subst hc;simpa using hp) h1 (hQ _ _ _ _ h2.kO K))
structure PL (k:Nat) (c:Bool) (P:Program) (G:List (Nat×List Value)) (n:Nat) (S:List ah) (ops:Array Oper) (ts:List Nat) (l:List Oper) (e:List (Nat×D)) (l2:List Oper) (e':List (Nat×D)):Prop where
 h:∀R,PE c P G n S ops ts l2 e' R->PE c P G n S ops ts l e R
theorem Ki{pd:List D}{len:Nat}(hn:Nat.beq pd.length len=true)(ha:(pd.all fun d=>Nat.beq (cellsOf d).length sz)=true):Nat.beq (pd.flatMap cellsOf).length (len*sz)=true:=by
 have:(pd.flatMap cellsOf).length=pd.length*sz:=by
  clear hn;induction pd with
  | nil=>simp
  | cons a r ih =>
   rw[all_cons,Bool.and_eq_true] at ha;rw[flatMap_cons,length_append,ih ha.2,Nat.eq_of_beq_eq_true ha.1,length_cons,Nat.succ_mul,Nat.add_comm]
 rw[this,Nat.eq_of_beq_eq_true hn];exact Nat.beq_refl _
theorem PL.z:PL 0 c P G n S ops ts l e l e:=⟨fun _ h=>h⟩
theorem PL.s(hd:o.dst=some t)(hr:fH (kP ops o) e lr)(hw:cj ops ⟨n,lr,S⟩ o true)(h:bX P G ⟨n,lr,S⟩ o kd d)(hq:(!c||mH ops o (kP ops o))=true)(K:PL k c P G n S ops ts l ((t,d)::e) l2 e'):PL (k+1) c P G n S ops ts (o::l) e l2 e':=⟨fun R h1=>Y3 hd hr h (K.h R h1) hq hw⟩
theorem PL.f(hd:o.dst=some t)(hr:fH (Aj ops o) e lr)(hw:cj ops ⟨n,lr,S⟩ o false)(hq:(!c||mH ops o (Aj ops o))=true)(K:PL k c P G n S ops ts l ((t,.v (.tuple #[]))::e) l2 e'):PL (k+1) c P G n S ops ts (o::l) e l2 e':=⟨fun R h1=>pf_ (K.h R h1) hd hr hq hw⟩
theorem PL.r {len:Nat} {pd:List D} (ho:o.op = .buildSlice t' len ps.toArray) (hd:o.dst=some t) (hr:fH (kP ops o) e lr) (gJ:jW ⟨n,lr,S⟩ ps (cu 0 pd)) (hs:xY P t' sz=true) (hw:cj ops ⟨n,lr,S⟩ o true)
  (hn:Nat.beq pd.length len=true) (hl:Nat.ble 1 (len*sz)=true) (gp:Nat.ble (len*sz) (2 ^ 24)=true) (hj:pd.all k8=true) (ha:(pd.all fun d=>Nat.beq (cellsOf d).length sz)=true) (hq:(!c||mH ops o (kP ops o))=true) (j9:mN (len*sz) (pd.flatMap cellsOf) ds) (K:PL k c P G n S ops ts l ((t,.list sz ds len)::e) l2 e'):PL (k+1) c P G n S ops ts (o::l) e l2 e' :=
 ⟨fun R h1=>Y4 (K.h R h1) ho hd hr gJ hs hq hw hn hl gp hj ha (j9.whole (Ki hn ha))⟩
theorem Ak(h:PL k c P G n S ops ts l e l2 e':=by repeat (first|exact PL.z|(apply PL.s;exact rfl;(focus exact jO);(focus exact pK);(focus exact Oq);(focus kernel_rfl))|(apply PL.f;exact rfl;(focus exact jO);(focus exact HP);(focus kernel_rfl))|(apply PL.r;exact rfl;exact rfl;(focus exact jO);(focus exact HQ);(focus exact tG.h);(focus exact pK);(iterate 5 (focus exact rfl));(focus kernel_rfl);(focus exact nF)))):PL k c P G n S ops ts l e l2 e':=h
theorem kK(k:Nat)(K:PE c P G n S ops ts l2 e' R)(h:PL k c P G n S ops ts l e l2 e':=by exact Ak):PE c P G n S ops ts l e R:=h.h R K
theorem aR(k:Nat)(K:PE c P G n S ops ts l2 ((t,d)::e') R)(h1:PL k c P G n S ops ts l e (o::l2) e':=by exact Ak)(hd:o.dst=some t:=by exact rfl)(hr:fH (kP ops o) e' lr:=by exact jO)(h:bX P G ⟨n,lr,S⟩ o kd d)(hq:(!c||mH ops o (kP ops o))=true:=by kernel_rfl)(hw:cj ops ⟨n,lr,S⟩ o true:=by exact pK):PE c P G n S ops ts l e R:=h1.h R (Y3 hd hr h K hq hw)
theorem Y6(h:PL k c P G n S ops ts l e l2 e':=by (repeat (first|(apply PL.s;exact rfl;(focus exact jO);(focus exact pK);(focus exact Oq);(focus kernel_rfl))|(apply PL.f;exact rfl;(focus exact jO);(focus exact HP);(focus kernel_rfl))|(apply PL.r;exact rfl;exact rfl;(focus exact jO);(focus exact HQ);(focus exact tG.h);(focus exact pK);(iterate 5 (focus exact rfl));(focus kernel_rfl);(focus exact nF))|fail));exact PL.z):PL k c P G n S ops ts l e l2 e':=h
theorem cf {f:Nat} {args:List D} {r:D} (hc:VP P G f args r) (K:PE c P G n S ops ts l2 ((t,r)::e') R) (h1:PL k c P G n S ops ts l e (o::l2) e':=by exact Y6) (ho:o.op = .call {callee:=.value fo,args:=dc,argTypes:=tt}:=by exact rfl)
  (hd:o.dst=some t:=by exact rfl) (hr:fH (kP ops o) e' lr:=by exact jO) (hq:(!c||mH ops o (kP ops o))=true:=by kernel_rfl) (hw:cj ops ⟨n,lr,S⟩ o true:=by exact pK) (hf:fo = .func f:=by exact rfl) (fy:xX P f=true:=by kernel_rfl) (ha:ng ⟨n,lr,S⟩ dc.toList args:=by exact DF):PE c P G n S ops ts l e R:=h1.h R (pc_ hc K ho hd hr hq hw hf fy ha)
theorem bA(K:R l')(h:PL k c P G n S ops ts l e [] e':=by exact Ak)(hr:fH ts e' l':=by exact jO):PE c P G n S ops ts l e R:=h.h R (iz K hr)
theorem af{d:Code}(ts:List Nat)(K:CD P C d ⟨n,l',S⟩ Q)(h0:CD P C (.seq (.region id l.toArray c) d) ⟨n,e,S⟩ Q->p:=by exact nS)(h:PL k c P C.G n S l.toArray ts l e [] e':=by exact Ak)(hr:fH ts e' l':=by exact jO)(hm:(!c||P.follows .mixedOrders)=true:=by kernel_rfl)(hp:(!c||mM l.toArray)=true:=by kernel_rfl):p:=cz ts (h.h _ (iz K hr)) h0 hm hp
theorem cL {k2 f:Nat} {d':Code} {args:List D} {r:D} {e2:List (Nat×D)} (ts:List Nat) (hc:VP P G f args r) (K:CD P C d' ⟨n,l',S⟩ Q) (h0:CD P C (.seq (.region id l.toArray c) d') ⟨n,e,S⟩ Q->p:=by exact nS) (hG:C.G=G:=by exact rfl) (h1:PL k c P G n S l.toArray ts l e (o::l2) e':=by exact Y6) (ho:o.op = .call {callee:=.value fo,args:=dc,argTypes:=tt}:=by exact rfl)
  (hd:o.dst=some t:=by exact rfl) (hr:fH (kP l.toArray o) e' lr:=by exact jO) (hq:(!c||mH l.toArray o (kP l.toArray o))=true:=by kernel_rfl) (hw:cj l.toArray ⟨n,lr,S⟩ o true:=by exact pK) (hf:fo = .func f:=by exact rfl) (fy:xX P f=true:=by kernel_rfl) (ha:ng ⟨n,lr,S⟩ dc.toList args:=by exact DF)
  (h2:PL k2 c P G n S l.toArray ts l2 ((t,r)::e') [] e2:=by exact Ak) (hs:fH ts e2 l':=by exact jO) (hm:(!c||P.follows .mixedOrders)=true:=by kernel_rfl) (hp:(!c||mM l.toArray)=true:=by kernel_rfl):p:=by
 subst hG;exact cz ts (cf hc (bA K h2 hs) h1 ho hd hr hq hw hf fy ha) h0 hm hp
theorem bM(ts:List Nat)(K:Q .normal ⟨n,l',S⟩)(h0:CD P C (.region id l.toArray c) ⟨n,e,S⟩ Q->p:=by exact nS)(h:PL k c P C.G n S l.toArray ts l e [] e':=by exact Ak)(hr:fH ts e' l':=by exact jO)(hm:(!c||P.follows .mixedOrders)=true:=by kernel_rfl)(hp:(!c||mM l.toArray)=true:=by kernel_rfl)(hQ:WC Q:=by exact Y5):p:=gl ts (h.h _ (iz K hr)) h0 hm hp hQ
inductive BP:Bool->Prop->Prop->Prop
 | lt {a b:Int}:BP (decide (a<b)) (a<b) (b<=a)
 | le {a b:Int}:BP (decide (a<=b)) (a<=b) (b<a)
 | gt {a b:Int}:BP (decide (a>b)) (a>b) (a<=b)
 | ge {a b:Int}:BP (decide (a>=b)) (a>=b) (a<b)
 | eq {a b:Int}:BP (a==b) (a=b) (¬a=b)
 | ne {a b:Int}:BP (a != b) (¬a=b) (a=b)
 | beq {a b:Bool}:BP (a==b) (a=b) (¬a=b)
 | bne {a b:Bool}:BP (a != b) (¬a=b) (a=b)
 | dec {p:Prop} [Decidable p]:BP (decide p) p (¬p)
 | nn {b:Bool} {p q:Prop} (h:BP b p q):BP (!!b) p q
 | no {b:Bool} {p q:Prop} (h:BP b p q):BP (!b) q p
 | any {b:Bool}:BP b (b=true) (b=false)
theorem BP.ok(h:BP b p q):(b=true->p)/\(b=false->q):=by
 induction h with
 | lt=>exact⟨of_decide_eq_true,fun h=>Int.not_lt.1 (of_decide_eq_false h)⟩
 | le=>exact⟨of_decide_eq_true,fun h=>Int.not_le.1 (of_decide_eq_false h)⟩
 | gt=>exact⟨of_decide_eq_true,fun h=>Int.not_lt.1 (of_decide_eq_false h)⟩
 | ge=>exact⟨of_decide_eq_true,fun h=>Int.not_le.1 (of_decide_eq_false h)⟩
 | eq=>exact⟨by simp,by simp⟩
 | ne=>exact⟨by simp,by simp⟩
 | beq=>exact⟨by simp,by simp⟩
 | bne=>exact⟨by simp,by simp⟩
 | dec=>exact⟨of_decide_eq_true,of_decide_eq_false⟩
 | nn h ih=>exact⟨fun e=>ih.1 (by simpa using e),fun e=>ih.2 (by simpa using e)⟩
 | no h ih=>exact⟨fun e=>ih.2 (by simpa using e),fun e=>ih.1 (by simpa using e)⟩
 | any=>exact⟨id,id⟩
theorem Y7(h:BP b p q:=by first|exact .lt|exact .le|exact .eq|exact .ne|exact .gt|exact .ge|exact .beq|exact .bne|exact .dec|(apply BP.nn;focus (first|exact .lt|exact .le|exact .eq|exact .ne|exact .gt|exact .ge|exact .dec|exact .any))|(apply BP.no;focus (first|exact .lt|exact .le|exact .eq|exact .ne|exact .gt|exact .ge|exact .dec|exact .any))|exact .any):BP b p q:=h
theorem au{z:Operand}{d1 d2:Code}{r:Prop}(ht:b=true->p->CD P C d1 x Q)(hf:b=false->q->CD P C d2 x Q)(h0:CD P C (.cond z d1 d2) x Q->r:=by exact nS)(hc:aG x z = .v (.bool b):=by exact ot)(h:BP b p q:=by exact Y7):r:=h0 (CD.cond hc (fun e=>ht e (h.ok.1 e)) (fun e=>hf e (h.ok.2 e)))
theorem bZ(t:Nat)(h1:b=true->p->OD P C ops l x Q)(h2:b=false->q->OD P C ops l x Q)(hb:look t x.env = .v (.bool b):=by exact lk)(h:BP b p q:=by exact Y7):OD P C ops l x Q:=OD.split hb (fun e=>h1 e (h.ok.1 e)) (fun e=>h2 e (h.ok.2 e))
inductive NS:List ah->List ah->Prop
 | r {S:List ah}:NS S S
 | c {b e sz:Nat} {cs cs':List D} {S S':List ah} (hl:Nat.beq cs.length sz=true) (h:mN sz cs cs') (k:NS S S'):NS (⟨b,e,sz,cs⟩::S) (⟨b,e,sz,cs'⟩::S')
 | k {B:ah} {S S':List ah} (k:NS S S'):NS (B::S) (B::S')
theorem NS.eq{S:List ah}(h:NS S S'):S=S':=by
 induction h with
 | r=>rfl
 | c hl h k ih=>rw[h.whole hl,ih]
 | k k ih=>rw[ih]
theorem ns_{S:List ah}(h:NS S S':=by repeat (first|(apply NS.c;exact rfl;(focus exact nF))|apply NS.k|exact NS.r)):NS S S':=h
theorem an(m:Nat)(ts:List Nat)(K:Q .normal ⟨m,l',S'⟩)(h:PK k P C.G n S ops l e [] e':=by exact DI)(hr:fH ts e' l':=by exact jO)(hS:NS S S':=by exact ns_)(hn:n=m:=by exact rfl):OD P C ops l ⟨n,e,S⟩ Q:=h.h.od (OD.wk (Wk.ee hn hS.eq hr.kO) (OD.nil K))
theorem Y8{α:Type}{a b:List α}(h:a.Sublist b:=by repeat (first|exact Sublist.refl _|exact nil_sublist _|apply Sublist.cons_cons|apply Sublist.cons)):a.Sublist b:=h
theorem ajM{l:List (Nat×D)}(h:look t l=d:=by (repeat (first|exact fK|(apply gb;focus (first|rfl|(simp;done)|(congr 2;omega)|(apply eP;first|rfl|assumption|(simp;done))))|(apply fO;focus rfl)));first|done|fail):look t l=d:=h
theorem ajN{l':List (Nat×D)}(h:nZ e l':=by repeat (first|exact trivial|refine⟨ajM,?_⟩)):nZ e l':=h
theorem aI{x:St}{n:Nat}(hn:x.n=n:=by exact rfl)(hS:S'.Sublist x.S:=by exact Y8)(h:nZ x.env l':=by exact ajN):Wk x ⟨n,l',S'⟩:=Wk.asS hn hS h
theorem cn{a b:Nat}(h:a<b:=by first|omega|(simp only[];omega)|(simp;omega)):a<b:=h
theorem ew{c:Code}{ι:Type}{y:St}(ts:List Nat)(I:List (Nat×D)->List ah->ι->St->Prop)(μ:ι->Nat)(i:ι)(h0:I l' S i y)(round:∀i y,I l' S i y->CD P C c y (Cf (I l' S) μ i Q))(hp:CD P C (.loop c) ⟨n,e,S⟩ Q->p:=by exact nS)(hr:fH ts e l':=by exact jO)(hw:Wk ⟨n,e,S⟩ y:=by exact aI):p:=hp (CD.wk hw (CD.loop (I l' S) μ i h0 round))
theorem iH{c d:Code}(ts:List Nat)(I:List (Nat×D)->List ah->St->Prop)(h1:CD P C c ⟨n,e,S⟩ (N7 (I l' S) Q))(h2:∀y,I l' S y->CD P C d y Q)(hr:fH ts e l':=by exact jO):CD P C (.seq c d) ⟨n,e,S⟩ Q:=CD.cut (I l' S) h1 h2
theorem A4{y:St}{rv:ResultVar}{d:D}(h:tv P y rv d:=by first|exact zn aU lk|exact so (k:=0) aU lk rfl rfl (iU aC) (lZ Sz.h) rfl rfl|exact so (k:=1) aU lk rfl rfl (iU aC) (lZ Sz.h) rfl rfl|exact so (k:=2) aU lk rfl rfl (iU aC) (lZ Sz.h) rfl rfl|exact so (k:=3) aU lk rfl rfl (iU aC) (lZ Sz.h) rfl rfl|exact so (k:=4) aU lk rfl rfl (iU aC) (lZ Sz.h) rfl rfl|exact so (k:=5) aU lk rfl rfl (iU aC) (lZ Sz.h) rfl rfl|exact so (k:=6) aU lk rfl rfl (iU aC) (lZ Sz.h) rfl rfl|exact so (k:=7) aU lk rfl rfl (iU aC) (lZ Sz.h) rfl rfl|exact so (k:=8) aU lk rfl rfl (iU aC) (lZ Sz.h) rfl rfl|exact so (k:=9) aU lk rfl rfl (iU aC) (lZ Sz.h) rfl rfl|exact tY (k:=0) aU lk rfl rfl (iU aC) rfl|exact tY (k:=1) aU lk rfl rfl (iU aC) rfl|exact tY (k:=2) aU lk rfl rfl (iU aC) rfl|exact tY (k:=3) aU lk rfl rfl (iU aC) rfl|exact tY (k:=4) aU lk rfl rfl (iU aC) rfl|exact tY (k:=5) aU lk rfl rfl (iU aC) rfl|exact tY (k:=6) aU lk rfl rfl (iU aC) rfl|exact tY (k:=7) aU lk rfl rfl (iU aC) rfl|exact tY (k:=8) aU lk rfl rfl (iU aC) rfl|exact tY (k:=9) aU lk rfl rfl (iU aC) rfl|fail):tv P y rv d:=h
theorem rv_{y:St}{r:D}(h:tw P fn y r:=by first|exact qz rfl|exact TO rfl A4|exact Ka rfl A4 A4|exact abE rfl A4 A4 A4|fail):tw P fn y r:=h
theorem aK{ex:Exit}{x:St}{r:D}(S':List ah)(hp:post r S')(h0:Body P fn post ex x->p:=by exact nS)(he:ex = .normal\/ex = .ret:=by first|exact .inr rfl|exact .inl rfl)(hS:S'.Sublist x.S:=by exact Y8)(hr:tw P fn x r:=by exact rv_):p:=h0 ⟨he,r,S',hS,hr,hp⟩

end Go.Proofs.YtbplamgacibdaaaGreatDoor.V
namespace Go.Proofs.YtbplamgacibdaaaGreatDoor.V
open List
open Go.RowKit
variable {P:Program} {C:dG} {G:List (Nat×List Value)} {Q:Exit->St->Prop} {ops:Array Oper} {l l2:List Oper} {o:Oper} {n t:Nat} {d:D} {e e' l':List (Nat×D)} {S S':List ah} {ts:List Nat} {c:Bool} {x:St}
variable {a:Act} {R':Exit->Act->World->Prop} {m id ta:Nat} {ld:Array Bool} {B:List ah} {te:TypeId} {S1:List Nat} {oa:Oper} {zs:List Value}
theorem adD{w:World}{K E:Act->World->Prop}{R:Exit->Act->World->Prop}(h:o.wp P a w K R)(hK:∀a w,K a w->E a w)(hp:∀I a w,R (.panic I) a w->R' (.panic I) a w)(ho:∀a w,R .outgrown a w->R' .outgrown a w):o.wp P a w E R':=by
 unfold Oper.wp at *;generalize (execOp a.eval o).run P w=r at *;cases r with
 | ok z w' =>
  cases z<;>simp only[Oper.upon] at h |- <;>
   first
    | exact hK _ _ h
    | exact Calls.mono h (fun e O he=>by cases e<;>first|exact hK _ _ he|exact hp _ _ _ he|exact(let ⟨a,w,q⟩:=he;⟨a,w,ho a w q⟩))
    | exact Rows.mono h (fun _ _ he=>hK _ _ he)
 | halt z w'=>cases z<;>simp only[Oper.upon] at h |-<;>first|exact hp _ _ _ h|exact h
def Gh(o:Oper):Bool:=match o.op with
 | .extract _ _=>o.guard.isNone
 | .move _=>o.guard.isNone
 | _=>false
def zS(ops:Array Oper)(j:Nat)(o:Oper):Bool:=Gh o&&(range ops.size).all fun k=>Nat.beq k j||(match ops[k]? with
   | some p=>p.after.any (fun e=>Region.binds .any e&&Nat.beq e.on j)||o.after.any (fun e=>Region.binds .any e&&Nat.beq e.on k)||o.apart ops p
   | none=>true)
def DJ(o:Oper):List Nat:=o.after.toList.filterMap fun e=>bif Region.binds .any e then some e.on else none
def CM(ops:Array Oper):Nat->List Nat->List Nat
 | 0,s=>s
 | i+1,s=>CM ops i (bif s.elem i then (match ops[i]? with|some o=>DJ o|none=>[])++s else s)
theorem T2{o:Oper}{k:Nat}(h:k∈DJ o):∃e∈o.after,Region.binds .any e=true/\e.on=k:=by
 obtain⟨e,he,hk⟩:=mem_filterMap.1 h;cases hb:Region.binds .any e with
 | true=>rw[hb] at hk;exact⟨e,Array.mem_def.2 he,hb,Option.some.inj hk⟩
 | false=>rw[hb] at hk;cases hk
theorem QF{D:Nat->Prop}(hD:∀k o,ops[k]?=some o->D k->∀e∈o.after,Region.binds .any e=true->D e.on):∀(i:Nat) (s:List Nat),(∀k∈s,D k)->∀k∈CM ops i s,D k
 | 0,s,h=>h
 | i+1,s,h=>by
  unfold CM;refine QF hD i _ fun k hk=>?_;cases he:s.elem i with
  | false=>rw[he] at hk;exact h k hk
  | true =>
   rw[he,cond_true] at hk;rcases mem_append.1 hk with hk|hk
   ·cases ho:ops[i]? with
    | none=>rw[ho] at hk;cases hk
    | some o =>
     rw[ho] at hk;obtain⟨e,h1,h2,h3⟩:=T2 hk;rw[<-h3];exact hD i o ho (h i (elem_iff.1 he)) e h1 h2
   exact h k hk
def qI(m:Nat)(ops:Array Oper):Bool:=(range ops.size).all fun j=>match ops[j]? with
 | some o=>o.after.all (fun e=>!Region.binds .any e||Nat.blt e.on j) &&
  (bif Nat.blt j m then (match o.guard with|some (g,_)=>Nat.blt g m|none=>true)
  else bif Nat.beq j m then (range m).all (fun k=>(CM ops m (DJ o)).elem k||(match ops[k]? with|some p=>zS ops k p|none=>false)) else o.after.any (fun e=>Region.binds .any e&&Nat.beq e.on (j-1)))
 | none=>true
theorem K7{o:Oper}{k:Nat}(h:o.after.any (fun e=>Region.binds .any e&&Nat.beq e.on k)=true):∃e∈o.after,Region.binds .any e=true/\e.on=k:=by
 obtain⟨e,he,hb⟩:=Array.any_eq_true'.1 h;rw[Bool.and_eq_true] at hb;exact⟨e,he,hb.1,Nat.eq_of_beq_eq_true hb.2⟩
theorem tZ(h:qI m ops=true){j:Nat}{o:Oper}(hj:ops[j]?=some o):(∀e∈o.after,Region.binds .any e=true->e.on<j)/\(j<m->∀g b,o.guard=some (g,b)->g<m) /\
  (m<=j->(j=m/\∀k,k<m->k∈CM ops m (DJ o)\/(∃p,ops[k]?=some p/\zS ops k p=true))\/(m<j/\∃e∈o.after,Region.binds .any e=true/\e.on=j-1)) /\
  (zS ops j o=true->∀k p,ops[k]?=some p->k≠j->(∃e∈p.after,Region.binds .any e=true/\e.on=j)\/(∃e∈o.after,Region.binds .any e=true/\e.on=k)\/o.apart ops p=true):=by
 have aa:=(Array.getElem?_eq_some_iff.1 hj).1;have:=all_eq_true.1 h j (mem_range.2 aa);simp only[hj,Bool.and_eq_true] at this;obtain⟨h1,h2⟩:=this;have e9:j<m->(match o.guard with|some (g,_)=>Nat.blt g m|none=>true)=true:=fun hm=>by
  have I:Nat.blt j m=true:=Nat.ble_eq_true_of_le hm;rw[I,cond_true] at h2;exact h2
 refine⟨fun e he hb=>?_,fun hm g b hg=>?_,fun hm=>?_,fun hf k p hp O=>?_⟩
 ·have:=Array.all_eq_true'.1 h1 e he;simp only[hb,Bool.not_true,Bool.false_or] at this;exact Nat.le_of_ble_eq_true this
 ·have h3:=e9 hm;rw[hg] at h3;exact Nat.le_of_ble_eq_true h3
 ·have I:Nat.blt j m=false:=by
   cases hq:Nat.blt j m with
   | false=>rfl
   | true=>have:=Nat.le_of_ble_eq_true hq;omega
  rw[I,cond_false] at h2;cases E:Nat.beq j m with
  | false =>
   rw[E,cond_false] at h2;refine .inr ⟨?_,K7 h2⟩;rcases Nat.lt_or_eq_of_le hm with h|h
   ·exact h
   rw[<-h,Nat.beq_refl] at E;cases E
  | true =>
   rw[E,cond_true] at h2;refine .inl ⟨Nat.eq_of_beq_eq_true E,fun k hk=>?_⟩;have:=all_eq_true.1 h2 k (mem_range.2 hk);rw[Bool.or_eq_true] at this;rcases this with h3|h3
   ·exact .inl (elem_iff.1 h3)
   refine .inr ?_;cases qU:ops[k]? with
   | none=>rw[qU] at h3;cases h3
   | some p=>rw[qU] at h3;exact⟨p,rfl,h3⟩
 have h3:=hf;unfold zS at h3;rw[Bool.and_eq_true] at h3;have:=all_eq_true.1 h3.2 k (mem_range.2 (Array.getElem?_eq_some_iff.1 hp).1);have hb:Nat.beq k j=false:=by
  cases hq:Nat.beq k j with
  | false=>rfl
  | true=>exact absurd (Nat.eq_of_beq_eq_true hq) O
 simp only[hb,hp,Bool.false_or,Bool.or_eq_true] at this;rcases this with (h4|h4)|h4
 ·exact .inl (K7 h4)
 ·exact .inr (.inl (K7 h4))
 exact .inr (.inr h4)
theorem adE{R:Exit->Act->World->Prop}(hq:qI m ops=true):∀(k s fuel:Nat) (ld:Array Bool) (a:Act) (w:World),m<=s->s+k=ops.size->k<=fuel->ld.size=ops.size->(∀j,j<s->ld.getD j true=true)->(∀j,s<=j->j<ops.size->ld.getD j true=false)->wpOps P ops R (range' s k) a w->wpAny P .any ops R fuel ld a w:=by
 intro k;induction k with
 | zero =>
  intro s fuel ld a w hs hk hf I h1 h2 h;have hr:Region.ready .any ops ld=[]:=by
   rw[eq_nil_iff_forall_not_mem];intro j hj;obtain⟨q1,o,q2,_⟩:=mem_ready.1 hj;have aa:=(Array.getElem?_eq_some_iff.1 q2).1;rw[h1 j w4] at q1;cases q1
  have hn:R .normal a w:=h;cases fuel with
  | zero=>exact⟨hr,hn⟩
  | succ f=>exact⟨fun _=>hn,by rw[hr];simp⟩
 | succ k ih =>
  intro s fuel ld a w hs hk hf I h1 h2 h;obtain⟨f,rfl⟩:∃f,fuel=f+1:=⟨fuel-1,by omega⟩
  have U:∀e,e<s->ld.getD e false=true:=fun e he=>by
   have:=h1 e he;rw[Array.getD_eq_getD_getElem?] at this |-;rw[Array.getElem?_eq_getElem w4] at this |-;exact this
  have O:s∈Region.ready .any ops ld:=mem_ready.2 ⟨h2 s (Nat.le_refl _) w4,ops[s]'w4,Array.getElem?_eq_getElem w4,fun e he hb=>U _ ((tZ hq (Array.getElem?_eq_getElem w4)).1 e he hb)⟩;refine⟨fun h0=>(by rw[h0] at O;cases O),fun i hi=>?_⟩;obtain⟨q1,o,q2,q3⟩:=mem_ready.1 hi;have fI:=(Array.getElem?_eq_some_iff.1 q2).1;have Z:i=s:=by
   rcases Nat.lt_trichotomy i s with q|q|q
   ·rw[h1 i q] at q1;cases q1
   ·exact q
   rcases(tZ hq q2).2.2.1 w4 with h9|⟨_,e,he,hb,j7⟩
   ·omega
   have h5:=q3 e he hb;rw[j7] at h5;have h6:=h2 (i-1) w4 w4;rw[Array.getD_eq_getD_getElem?,Array.getElem?_eq_getElem w4] at h5 h6;simp only[Option.getD_some] at h5 h6;rw[h5] at h6;cases h6
  subst Z;rw[range'_succ,wpOps_cons] at h;have E:∀j,(ld.setIfInBounds i true).getD j true=if j=i then true else ld.getD j true:=fun j=>by
   by_cases hj:j=i
   ·subst hj;simp[Array.getD_eq_getD_getElem?,Array.getElem?_setIfInBounds,I,fI]
   simp[Array.getD_eq_getD_getElem?,Array.getElem?_setIfInBounds,hj,Ne.symm hj]
  refine wpOp_mono (fun a' w' h'=>ih (i+1) f _ a' w' w4 w4 w4 (by simpa using I) (fun j hj=>?_) (fun j hj kD=>?_) h') h
  ·rw[E];split
   ·rfl
   exact h1 j w4
  rw[E,if_neg w4];exact h2 j w4 kD
theorem adF{R:Exit->Act->World->Prop}(hq:qI m ops=true)(hm:m<=ops.size)(hn:∀a w,R' .normal a w->wpOps P ops R (range' m (ops.size-m)) a w)(hp:∀ch a w,R' (.panic ch) a w->R (.panic ch) a w)(ho:∀a w,R' .outgrown a w->R .outgrown a w)(mO:Region.noSelect ops=true)(hQ:∀(d:Option Nat) v c a w,R (.panic c) (a.put d v) w->R (.panic c) a w) :
  ∀(fuel:Nat) (ld:Array Bool) (a:Act) (w:World),ld.size=m->(∀k o,ops[k]?=some o->ld.getD k false=true->∀e∈o.after,Region.binds .any e=true->ld.getD e.on false=true)->wpAny P .any (ops.toList.take m).toArray R' fuel ld a w->wpAny P .any ops R (fuel+(ops.size-m)) (ld++Array.replicate (ops.size-m) false) a w:=by
 have E:∀i,i<m->(ops.toList.take m).toArray[i]?=ops[i]?:=fun i hi=>by simp[getElem?_take,hi]
 have Y9:(ops.toList.take m).toArray.size=m:=(by simp;omega)
 -- what may ajO up apE the first aqa
 have O:∀(ld:Array Bool) (b:Bool),ld.size=m->∀j,j<m->(ld++Array.replicate (ops.size-m) false).getD j b=ld.getD j b:=fun ld b hs j hj=>by
  rw[Array.getD_eq_getD_getElem?,Array.getD_eq_getD_getElem?,Array.getElem?_append_left w4]
 have W7:∀(ld:Array Bool) (b:Bool),ld.size=m->∀j,m<=j->j<ops.size->(ld++Array.replicate (ops.size-m) false).getD j b=false:=fun ld b hs j hj kD=>by
  rw[Array.getD_eq_getD_getElem?,Array.getElem?_append_right w4,hs];simp[Array.getElem?_replicate,show j-m<ops.size-m by omega]
 have A5:∀(ld:Array Bool),ld.size=m->∀i,i<m->(i∈Region.ready .any ops (ld++Array.replicate (ops.size-m) false)↔i∈Region.ready .any (ops.toList.take m).toArray ld):=fun ld hs i hi=>by
  rw[mem_ready,mem_ready,E i hi,O ld true hs i hi];constructor
  ·rintro⟨q1,o,q2,q3⟩;exact⟨q1,o,q2,fun e he hb=>by have:=q3 e he hb;rwa [O ld false hs _ (Nat.lt_trans ((tZ hq q2).1 e he hb) hi)] at this⟩
  rintro⟨q1,o,q2,q3⟩;exact⟨q1,o,q2,fun e he hb=>by rw[O ld false hs _ (Nat.lt_trans ((tZ hq q2).1 e he hb) hi)];exact q3 e he hb⟩
 -- aoR may ajO up: all have
 have ek:∀(ld:Array Bool),ld.size=m->Region.ready .any (ops.toList.take m).toArray ld=[]->∀j,j<m->ld.getD j true=true:=fun ld hs hr j=>by
  induction j using Nat.strongRecOn with
  | _ j ih =>
   intro hj;cases hl:ld.getD j true with
   | true=>rfl
   | false =>
    have tD:ops[j]?=some (ops[j]'w4):=Array.getElem?_eq_getElem w4;have:j∈Region.ready .any (ops.toList.take m).toArray ld:=mem_ready.2 ⟨hl,ops[j]'w4,by rw[E j hj];exact tD,fun e he hb=>by
     have aa:=(tZ hq tD).1 e he hb;have:=ih e.on aa w4;rw[Array.getD_eq_getD_getElem?] at this |-;rw[Array.getElem?_eq_getElem w4] at this |-;exact this⟩
    rw[hr] at this;cases this
 have j6:∀(fuel:Nat) (ld:Array Bool) (a:Act) (w:World),ld.size=m->ops.size-m<=fuel->Region.ready .any (ops.toList.take m).toArray ld=[]->R' .normal a w->wpAny P .any ops R fuel (ld++Array.replicate (ops.size-m) false) a w:=fun fuel ld a w hs hf hr h =>
  adE hq (ops.size-m) m fuel _ a w (Nat.le_refl _) w4 hf iF (fun j hj=>by rw[O ld true hs j hj];exact ek ld hs hr j hj) (fun j hj kD=>W7 ld true hs j hj kD) (hn a w h)
 intro fuel;induction fuel with
 | zero=>intro ld a w hs _ h;rw[Nat.zero_add];exact j6 _ ld a w hs (Nat.le_refl _) h.1 h.2
 | succ fuel ih =>
  intro ld a w hs fj h;obtain⟨h1,h2⟩:=h;have Ad:∀i,i∈Region.ready .any (ops.toList.take m).toArray ld->∀k o,ops[k]?=some o->(ld.setIfInBounds i true).getD k false=true->∀e∈o.after,Region.binds .any e=true->(ld.setIfInBounds i true).getD e.on false=true:=fun i hi k o hk hd e he hb=>by
   have Gi:∀j,ld.getD j false=true->(ld.setIfInBounds i true).getD j false=true:=fun j hj=>by
    rw[Array.getD_eq_getD_getElem?] at hj |-;rw[Array.getElem?_setIfInBounds];split
    ·split
     ·rfl
     rename_i h1 h2;subst h1;rw[Array.getElem?_eq_none w4] at hj;cases hj
    exact hj
   refine Gi _ ?_;by_cases Za:i=k
   ·subst Za;obtain⟨q1,o',q2,q3⟩:=mem_ready.1 hi;have I:i<m:=(by have:=(Array.getElem?_eq_some_iff.1 q2).1;omega)
    rw[E i I,hk] at q2;obtain rfl:=Option.some.inj q2;exact q3 e he hb
   refine fj k o hk ?_ e he hb;rw[Array.getD_eq_getD_getElem?,Array.getElem?_setIfInBounds,if_neg Za] at hd;rw[Array.getD_eq_getD_getElem?];exact hd
  by_cases hr:Region.ready .any (ops.toList.take m).toArray ld=[]
  ·exact j6 _ ld a w hs w4 hr (h1 hr)
  rw[show fuel+1+(ops.size-m)=(fuel+(ops.size-m))+1 by omega];have sS:∀i,i<m->(ld++Array.replicate (ops.size-m) false).setIfInBounds i true=ld.setIfInBounds i true++Array.replicate (ops.size-m) false:=fun i I=>by
   rw[Array.setIfInBounds_append_left w4]
  by_cases jN:∃f o,f∈Region.ready .any (ops.toList.take m).toArray ld/\ops[f]?=some o/\zS ops f o=true
  ·
   obtain⟨f,o,hf,wq,Z⟩:=jN;have U:Gh o=true:=(by unfold zS at Z;rw[Bool.and_eq_true] at Z;exact Z.1)
   have HR:f<m:=by
    obtain⟨_,o',q2,_⟩:=mem_ready.1 hf;have:=(Array.getElem?_eq_some_iff.1 q2).1;omega
   have h3:=h2 f hf;unfold wpOp at h3;rw[E f HR,wq] at h3;have hg:o.guard=none:=by
    unfold Gh at U;split at U
    ·exact Option.isNone_iff_eq_none.1 U
    ·exact Option.isNone_iff_eq_none.1 U
    cases U
   have Dk:∀(Zb:Array Oper),Region.wanted o (yielded Zb a.tmps)=true:=fun Zb=>by simp[Region.wanted,hg]
   simp only[Dk,if_true] at h3;obtain⟨v,hy,h4⟩:∃v,(∀w',(execOp a.eval o).run P w' = .ok (.value v) w')/\wpAny P .any (ops.toList.take m).toArray R' fuel (ld.setIfInBounds f true) (a.put o.dst v) w:=by
    have hc:(∃v,execOp a.eval o=Sem.pure (.value v))\/∃s,execOp a.eval o=Sem.halt (.stuck s):=by
     unfold Gh at U;split at U
     ·rename_i y i A6;unfold execOp;rw[A6];show(∃v,(Instr.extract (a.eval y) i).bind _=_)\/∃s,(Instr.extract (a.eval y) i).bind _=_;unfold Instr.extract;split
      ·split
       ·exact .inl ⟨_,rfl⟩
       exact .inr ⟨_,rfl⟩
      exact .inr ⟨_,rfl⟩
     ·rename_i y A6;unfold execOp;rw[A6];exact .inl ⟨_,rfl⟩
     cases U
    have wu:¬o.asks P a w:=fun ha=>by
     unfold Oper.asks at ha;rcases hc with ⟨v,e⟩|⟨s,e⟩<;>rw[e] at ha<;>simp[Sem.runT] at ha
    rcases h3 with h3|⟨h3,_⟩
    rotate_left
    ·exact absurd h3 wu
    unfold Oper.wp at h3;rcases hc with ⟨v,e⟩|⟨s,e⟩
    ·refine⟨v,fun w'=>by rw[e];rfl,?_⟩;rw[e] at h3;exact h3
    rw[e] at h3;exact h3.elim
   refine wpAny_first (v:=v) wq (Region.noSelect_spec mO) (hQ _ _) _ _ a w (fun j oj yD hji j4 AT=>?_) ((A5 ld hs f HR).2 hf) (.inl ⟨Dk _,hy⟩) ?_
   ·rcases(tZ hq wq).2.2.2 Z j oj yD hji with ⟨e,he,hb,j7⟩|⟨e,he,hb,j7⟩|h5
    ·exact absurd j7 (AT e he hb)
    ·obtain⟨_,o',p1,p2⟩:=mem_ready.1 ((A5 ld hs f HR).2 hf);rw[wq] at p1;obtain rfl:=Option.some.inj p1;have h6:=p2 e he hb;rw[j7] at h6;rw[Array.getD_eq_getD_getElem?] at h6 j4;cases hx:(ld++Array.replicate (ops.size-m) false)[j]? with
     | none=>rw[hx] at h6;cases h6
     | some b=>rw[hx] at h6 j4;simp only[Option.getD_some] at h6 j4;rw[h6] at j4;cases j4
    exact h5
   rw[sS f HR];exact ih _ _ _ (by simpa using hs) (Ad f hf) h4
  have ajP:∀i,i∈Region.ready .any ops (ld++Array.replicate (ops.size-m) false)->i<m:=fun i hi=>by
   rcases Nat.lt_or_ge i m with q|q
   ·exact q
   obtain⟨q1,o,q2,q3⟩:=mem_ready.1 hi;refine absurd ?_ hr;rw[eq_nil_iff_forall_not_mem];intro j hj;obtain⟨p1,o',p2,_⟩:=mem_ready.1 hj;have Ot:j<m:=(by have:=(Array.getElem?_eq_some_iff.1 p2).1;omega)
   have aqb:=(Array.getElem?_eq_some_iff.1 q2).1;rcases(tZ hq q2).2.2.1 q with ⟨rfl,hw⟩|⟨aa,e,he,hb,j7⟩
   ·rcases hw j Ot with hw|⟨p,h8,h9⟩
    ·have hd:=QF (ops:=ops) (D:=fun k=>ld.getD k false=true) fj i (DJ o) (fun k hk=>by
      obtain⟨e,he,hb,j7⟩:=T2 hk;have h5:=q3 e he hb;have h6:=(tZ hq q2).1 e he hb;rw[O ld false hs _ h6,j7] at h5;exact h5) j hw
     rw[Array.getD_eq_getD_getElem?,Array.getElem?_eq_getElem w4] at hd p1;simp only[Option.getD_some] at hd p1;rw[hd] at p1;cases p1
    exact jN ⟨j,p,hj,h8,h9⟩
   have h5:=q3 e he hb;rw[j7,W7 ld false hs (i-1) w4 w4] at h5;cases h5
  refine⟨fun h0=>?_,fun i hi=>?_⟩
  ·obtain⟨i,hi⟩:=exists_mem_of_ne_nil _ hr;have fI:i<m:=by
    obtain⟨_,o,q2,_⟩:=mem_ready.1 hi;have:=(Array.getElem?_eq_some_iff.1 q2).1;omega
   have:=(A5 ld hs i fI).2 hi;rw[h0] at this;cases this
  have I:=ajP i hi;have h3:=h2 i ((A5 ld hs i I).1 hi);rw[sS i I];unfold wpOp at h3 |-;rw[E i I] at h3;have Zc:ops[i]?=some (ops[i]'w4):=Array.getElem?_eq_getElem w4;rw[Zc] at h3 |-;have hw:Region.wanted (ops[i]'w4) (yielded (ops.toList.take m).toArray a.tmps)=Region.wanted (ops[i]'w4) (yielded ops a.tmps):=by
   unfold Region.wanted;cases hg:(ops[i]'w4).guard with
   | none=>rfl
   | some p =>
    obtain⟨g,b⟩:=p;have:=(tZ hq Zc).2.1 I g b hg;simp only[yielded,E g this]
  simp only[hw] at h3 |-;split
  ·rename_i Ou;simp only[Ou,if_true] at h3;rcases h3 with h3|⟨h3,a0,w0,h4⟩
   ·exact .inl (adD h3 (fun a' w' h'=>ih _ a' w' (by simpa using hs) (Ad i ((A5 ld hs i I).1 hi)) h') hp ho)
   exact .inr ⟨h3,a0,w0,ho _ _ h4⟩
  rename_i Ou;simp only[Ou] at h3;exact ih _ _ _ (by simpa using hs) (Ad i ((A5 ld hs i I).1 hi)) h3
theorem agP(mO:Region.noSelect l.toArray=true)(mP:NP Q)(hq:qI m l.toArray=true)(hm:m<=l.length){fuel:Nat}{w:World}(hs:ld.size=m)(fj:∀k,ld.getD k false=false)(h:wpAny P .any (l.take m).toArray (LQ C (Tl P C l.toArray (l.drop m) Q)) fuel ld a w):wpAny P .any l.toArray (LQ C Q) (fuel+(l.length-m)) (ld++Array.replicate (l.length-m) false) a w:=by
 have h1:=adF (P:=P) (ops:=l.toArray) (R:=LQ C Q) (R':=LQ C (Tl P C l.toArray (l.drop m) Q)) hq (by simpa using hm) (fun a w h=>by
  rcases h with ⟨y,h1,h2⟩|⟨h1,_⟩
  ·have:=wpOps_eq_wpList (P:=P) (ops:=l.toArray) (Q:=LQ C Q) (l.drop m) m (fun j=>by simp);rw[length_drop] at this;rw[show l.toArray.size-m=l.length-m by simp,this];exact h2 a w h1
  cases h1) (fun E a w h=>h) (fun a w h=>h) mO (fun d v=>zL mP d v) fuel ld a w hs (fun k o hk hd=>by rw[fj k] at hd;cases hd)
 simpa using h1 oV
theorem CD.Gj (m:Nat) (T:List Nat) (mO:Region.noSelect l.toArray=true) (mP:NP Q) (hm:P.follows .mixedOrders=true) (hl:m<=l.length) (hq:qI m l.toArray=true) (hT:∀b∈T,b∈av x.S)
  (h:dM P C (l.take m).toArray (av x.S) T m (Array.replicate m false) x (Tl P C l.toArray (l.drop m) Q)):CD P C (.region id l.toArray true) x Q:=fun a w hs =>
 wp_region_any hm (by
  have h1:=h a {w with drawn:=w.drawn+1} ⟨hs.defers,hs.size,fun t ht=>(hs.env t ht).mono fun b _ hn=>⟨rfl,hn⟩,⟨fun B hB=>by
   obtain⟨r0,cur,r1,r2,E,I⟩:=hs.own.at_ B hB;exact⟨r0,cur,r1,r2,E,fun i hi=>by
    obtain⟨u,hu,hq⟩:=I i hi;exact⟨u,hu,hq.mono fun b _ hn=>⟨rfl,hn⟩⟩⟩,hs.own.apart⟩,⟨hs.fr.os,hs.fr.tape,hs.fr.output,hs.fr.size,hs.fr.block⟩,hs.ex,hs.eV⟩ rfl hT
  have h2:=agP mO mP hq hl bq (fun k=>by rw[Array.getD_eq_getD_getElem?,Array.getElem?_replicate];split<;>rfl) (wpAny_of_held _ _ _ _ h1);rw[Array.replicate_append_replicate,show m+(l.length-m)=l.length by omega] at h2;simpa using h2)
theorem CD.pdT(mO:Region.noSelect l.toArray=true)(mP:NP Q)(hm:P.follows .mixedOrders=true)(hl:m<=l.length)(hq:qI m l.toArray=true)(hp:mM (l.take m).toArray=true)(h:PD true P C.G n S (l.take m).toArray (l.take m) e [] e')(K:OD P C l.toArray (l.drop m) ⟨n,e',S⟩ Q):CD P C (.region id l.toArray true) ⟨n,e,S⟩ Q :=
 CD.Gj m [] mO mP hm hl hq (fun _ hb=>by cases hb) (by
  have:=dM.pd (C:=C) (Q:=Tl P C l.toArray (l.drop m) Q) hp oV K;have hz:(l.take m).toArray.size=m:=(by simp;omega)
  rw[hz] at this;exact this)

theorem bI.bare{w:World}(hs:bI C ⟨n,e,B++S⟩ a w):bI ⟨fun b=>C.X b\/b∈av B,w,av S,C.G,C.df,C.Dp⟩ ⟨n,e,S⟩ a w/\live C.X (B++S)=live (fun b=>C.X b\/b∈av B) S/\∀b∈av B,b∉av S:=by
 have hl:live C.X (B++S)=live (fun b=>C.X b\/b∈av B) S:=by
  funext b;simp only[live,av,map_append,mem_append,eq_iff_iff];constructor
  ·rintro(h1|h1|h1)
   ·exact .inl (.inl h1)
   ·exact .inl (.inr h1)
   exact .inr h1
  rintro((h1|h1)|h1)
  ·exact .inl h1
  ·exact .inr (.inl h1)
  exact .inr (.inr h1)
 have I:av (B++S)=av B++av S:=(by simp[av])
 have hnd:=hs.own.apart;simp only[I] at hnd;have E:∀b∈av B,b∉av S:=fun b h1 h2=>(nodup_append.1 hnd).2.2 b h1 b h2 rfl;refine⟨⟨hs.defers,hs.size,fun q hq=>?_,⟨fun A hA=>?_,(nodup_append.1 hnd).2.1⟩,Fr.refl _ _,fun b hb=>?_,fun g hg=>?_⟩,hl,E⟩
 ·have:=hs.env q hq;simp only[hl] at this;exact this
 ·have:=hs.own.at_ A (mem_append_right _ hA);simp only[hl] at this;exact this
 ·rcases hb with hb|hb
  ·obtain⟨h1,h2⟩:=hs.ex b hb;exact⟨Nat.lt_of_lt_of_le h1 hs.fr.size,fun hm=>(hs.fr.block b h1 h2).2 (by simp only[I];exact mem_append_right _ hm)⟩
  obtain⟨A,hA,rfl⟩:=mem_map.1 hb;exact⟨(hs.own.at_ A (mem_append_left _ hA)).1,E _ hb⟩
 obtain⟨⟨h1,h2,h3⟩,h4⟩:=hs.eV g hg;have h5:=hs.fr.block g.1 h1 h2;simp only[I] at h5;exact⟨⟨Nat.lt_of_lt_of_le h1 hs.fr.size,fun hm=>h5.2 (mem_append_right _ hm),fun hm=>hm.elim h3 fun hm=>h5.2 (mem_append_left _ hm)⟩,fun i v hi=>(h4 i v hi).on h5.1⟩
theorem fU.frame(h:fU P G ⟨n,e,S⟩ o [] (fun y=>y=⟨n,(t,d)::e,S⟩)):fU P G ⟨n,e,B++S⟩ o [] (fun y=>y=⟨n,(t,d)::e,B++S⟩):=fun C a w K Q hG hs hK=>by
 obtain⟨rT,hl,E⟩:=hs.bare;have O:av (B++S)=av B++av S:=(by simp[av])
 refine h ⟨fun b=>C.X b\/b∈av B,w,av S,C.G,C.df,C.Dp⟩ a w K Q hG rT fun y a' w' hy k hc hf=>?_;subst hy;have I:Fr w (av (B++S)) w' (av (B++S)):=⟨hf.os,hf.tape,hf.output,hf.size,fun b h1 h2=>⟨(hf.block b h1 (fun hm=>h2 (by rw[O];exact mem_append_right _ hm))).1,h2⟩⟩
 refine hK _ a' w' rfl ⟨k.defers,k.size,fun q hq=>?_,⟨fun A hA=>?_,hs.own.apart⟩,hs.fr.trans I,hs.ex,hs.eV⟩ hc I
 ·have:=k.env q hq;simp only[hl];exact this
 simp only[hl];rcases mem_append.1 hA with hA|hA
 ·obtain⟨r0,cur,r1,r2,r3,r4⟩:=hs.own.at_ A (mem_append_left _ hA);have U:A.b∈av B:=mem_map.2 ⟨A,hA,rfl⟩;have Z:=(hf.block A.b r0 (E _ U)).1;refine⟨rh r0 Z,cur,Z.trans r1,r2,r3,fun i hi=>?_⟩;obtain⟨u,hu,hr⟩:=r4 i hi;simp only[hl] at hr;exact⟨u,hu,hr.mono fun b h1 h2=>⟨(hf.block b h1 (fun hm=>h2 (.inr hm))).1,h2⟩⟩
 exact k.own.at_ A hA
theorem cj.frame{b:Bool}(h:cj ops ⟨n,e,S⟩ o b):cj ops ⟨n,e,B++S⟩ o b:=fun C a w hs=>h _ a w hs.bare.1
theorem bI.Vj{a':Act}{w w':World}{v:Value}(h:bI C ⟨n,e,S⟩ a w)(k:bI C ⟨n,(t,d)::l',S'⟩ a' w')(hf:Fr w (av S) w' (av S'))(I:a'.tmps=(a.put (some t) v).tmps):bI C ⟨n,(t,d)::e,S'⟩ a' w':=by
 refine⟨k.defers,k.size,fun q hq=>?_,k.own,k.fr,k.ex,k.eV⟩;by_cases E:t=q
 ·subst E;have:=k.env t hq;simp only[ga,if_pos] at this |-;exact this
 have h1:=h.env q hq;have h2:a'.tmps.getD q undef=a.tmps.getD q undef:=(by rw[I];simp[Act.put,Array.getD_eq_getD_getElem?,Array.getElem?_setIfInBounds,E])
 simp only[ga,if_neg E];rw[h2];exact h1.mono fun b hb hn=>⟨(hf.block b hb (fun hm=>hn (.inr hm))).1,fun hl=>hl.elim (fun hx=>hn (.inl hx)) fun hm=>(hf.block b hb (fun hm=>hn (.inr hm))).2 hm⟩
theorem aaX{z:Value}(ho:o.op = .alloc te)(hd:o.dst=some t)(hz:∀w,(zeroValue te).run P w = .ok z w)(hne:isMap te=false:=by rfl):fU P G ⟨n,e,S⟩ o [] (fun y=>y=⟨n,(t,.bY)::e,S⟩):=fun C a w K Q hG h hK =>
 ES (hne:=hne) ho hd hz rfl C a w K Q hG h fun y a' w' ⟨b,hy⟩ hs hc hf=>by
  subst hy;have h1:=Wk.drop n ((t,.v (.pointer (some ⟨b,0,none⟩)))::e) _ S (sublist_cons_self _ _) C a' w' hs;refine hK _ a' w' rfl ⟨h1.defers,h1.size,fun q hq=>?_,h1.own,h1.fr,h1.ex,h1.eV⟩ hc ⟨hf.os,hf.tape,hf.output,hf.size,fun b hb hn=>⟨(hf.block b hb hn).1,hn⟩⟩;have h2:=h1.env q hq;simp only[ga] at h2 |-;by_cases e1:t=q
  ·rw[if_pos e1];exact .bY _
  rw[if_neg e1] at h2 |-;exact h2
def bx(te:TypeId)(ds:List D):Option Nat->List ah
 | some b=>[⟨b,te,ds.length,ds⟩]
 | none=>[]
theorem afb {eF:List (Nat×D)} {w1:World} {ia:Nat} {ds:List D} (mw:ops[ia]?=some oa) (lQ:oa.dst=some ta) (yE:oa.guard=none) (hE:∀S',fU P C.G ⟨n,[],S'⟩ oa [] (xw ⟨n,[],S'⟩ ta te ds))
  (hj:look ta eF = .bY) (hp:mM ops=true) (H:∀i,i<ops.size->Gd P C.G n S ops eF i) (hQ:∀b,Q .normal ⟨n,(ta,.v (.pointer (some ⟨b,0,none⟩)))::eF,⟨b,te,ds.length,ds⟩::S⟩):∀(fuel:Nat) (ld:Array Bool) (env:List (Nat×D)) (ob:Option Nat) (a:Act) (w:World),
  left ops.size ld<=fuel->bI C ⟨n,env,bx te ds ob++S⟩ a w->Fr w1 S1 w (av (bx te ds ob++S))->(ld.getD ia true=true->∃b,ob=some b/\look ta env = .v (.pointer (some ⟨b,0,none⟩)))->(ld.getD ia true=false->ob=none) ->
   (∀q,q≠ta->(∀j o,ops[j]?=some o->o.dst=some q->ld.getD j true=true)->look q env=look q eF)->wpAnyH P .any ops (LQ C Q) (lm w1 S1 []) fuel ld a w:=by
 have HS:∀j o,ops[j]?=some o->o.dst=some ta->j=ia:=fun j o hj hd=>by
  rcases Nat.lt_trichotomy j ia with q|q|q
  ·obtain⟨t',h1,h2⟩:=(xq hp mw).2;rw[lQ] at h1;obtain rfl:=Option.some.inj h1;exact absurd hd (h2 j o q hj)
  ·exact q
  obtain⟨t',h1,h2⟩:=(xq hp hj).2;rw[hd] at h1;obtain rfl:=Option.some.inj h1;exact absurd lQ (h2 ia oa q mw)
 have dN:∀(ld:Array Bool) (env:List (Nat×D)) (ob:Option Nat) (a:Act) (w:World),bI C ⟨n,env,bx te ds ob++S⟩ a w->(ld.getD ia true=true->∃b,ob=some b/\look ta env = .v (.pointer (some ⟨b,0,none⟩)))->(∀q,q≠ta->(∀j o,ops[j]?=some o->o.dst=some q->ld.getD j true=true)->look q env=look q eF)->(∀j,j<ops.size->ld.getD j true=true)->LQ C Q .normal a w:=fun ld env ob a w hs hb he ek=>by
  obtain⟨b,rfl,Ov⟩:=hb (ek ia (Array.getElem?_eq_some_iff.1 mw).1);refine .inl ⟨⟨n,(ta,.v (.pointer (some ⟨b,0,none⟩)))::eF,⟨b,te,ds.length,ds⟩::S⟩,⟨hs.defers,hs.size,fun q hq=>?_,hs.own,hs.fr,hs.ex,hs.eV⟩,hQ b⟩;have:=hs.env q hq;simp only[ga];by_cases E:ta=q
  ·subst E;rw[if_pos rfl];rw[Ov] at this;exact this
  rw[if_neg E];rw[he q (fun e=>E e.symm) fun j o hj _=>ek j (Array.getElem?_eq_some_iff.1 hj).1] at this;exact this
 intro fuel;induction fuel with
 | zero =>
  intro ld env ob a w hl hs hf hb ke he;have ek:∀j,j<ops.size->ld.getD j true=true:=fun j hj=>by
   cases hq:ld.getD j true with
   | true=>rfl
   | false=>have:=zu hj hq;omega
  refine⟨?_,dN ld env ob a w hs hb he ek⟩;rw[eq_nil_iff_forall_not_mem];intro j hj;obtain⟨h1,o,h2,_⟩:=mem_ready.1 hj;have:=ek j (Array.getElem?_eq_some_iff.1 h2).1;rw[h1] at this;cases this
 | succ fuel ih =>
  intro ld env ob a w hl hs hf hb ke he;refine⟨fun h0=>dN ld env ob a w hs hb he (K5 hp h0),fun i hi=>?_⟩;obtain⟨j4,o,I,CJ⟩:=mem_ready.1 hi;have aa:=(Array.getElem?_eq_some_iff.1 I).1;have W4:=zu aa j4;have O:∀j,(ld.setIfInBounds i true).getD j true=true↔j=i\/ld.getD j true=true:=fun j=>by
   by_cases hj:j=i
   ·subst hj;have jh:j<ld.size:=by
     rcases Nat.lt_or_ge j ld.size with h|h
     ·exact h
     rw[Array.getD_eq_getD_getElem?,Array.getElem?_eq_none h] at j4;cases j4
    simp[Array.getD_eq_getD_getElem?,Array.getElem?_setIfInBounds,jh]
   simp[Array.getD_eq_getD_getElem?,Array.getElem?_setIfInBounds,hj,Ne.symm hj]
  by_cases yF:i=ia
  ·subst yF;rw[mw] at I;obtain rfl:=Option.some.inj I;obtain rfl:=ke j4;unfold wpOp;rw[mw];have hw:Region.wanted oa (yielded ops a.tmps)=true:=(by simp[Region.wanted,yE])
   simp only[hw,if_true];have hU:bI C ⟨n,[],bx te ds none++S⟩ a w:=⟨hs.defers,hs.size,fun q hq=>.bY _,hs.own,hs.fr,hs.ex,hs.eV⟩
   have h2:=hE (bx te ds none++S) C a w (fun a' w'=>∃b,bI C ⟨n,[(ta,.v (.pointer (some ⟨b,0,none⟩)))],⟨b,te,ds.length,ds⟩::S⟩ a' w'/\Fr w (av S) w' (av (⟨b,te,ds.length,ds⟩::S))) (LQ C Q) rfl hU (fun y a' w' ⟨b,hy⟩ U _ Z=>by subst hy;exact⟨b,U,Z⟩);refine .inl (Oper.wp_mono (fun a' w' h3=>?_) (zq h2));obtain⟨⟨b,h4,h5⟩,v,h6⟩:=h3;rw[lQ] at h6;have jN:Fr w1 S1 w' (av (bx te ds (some b)++S)):=hf.trans h5;refine⟨⟨fun b h2 h3=>(jN.block b h2 h3).1,fun b h2=>by cases h2⟩,ih _ ((ta,.v (.pointer (some ⟨b,0,none⟩)))::env) (some b) a' w' w4 (bI.Vj (S:=S) hs h4 h5 h6) jN (fun _=>⟨b,rfl,by rw[ga,if_pos rfl]⟩) (fun h=>by have:=(O i).2 (.inl rfl);rw[this] at h;cases h) fun q hq rU=>?_⟩;rw[ga,if_neg (fun e=>hq e.symm)];refine he q hq fun j oj hj jq=>?_;rcases(O j).1 (rU j oj hj jq) with rfl|h2
   ·rw[mw] at hj;obtain rfl:=Option.some.inj hj;rw[lQ] at jq;exact absurd (Option.some.inj jq).symm hq
   exact h2
  obtain⟨o',t,ts,l',h1,hd,hq,mu,hk,Ow⟩:=H i aa;rw[I] at h1;obtain rfl:=Option.some.inj h1;have Mw:t≠ta:=fun e=>yF (HS i o I (by rw[hd,e]))
  -- what it looks at is there,or nothing is said of it
  have jr:bI C ⟨n,l',bx te ds ob++S⟩ a w:=⟨hs.defers,hs.size,fun q DA=>by
   by_cases hm:q∈ts
   ·have tH:=hm;rw[<-hk] at tH;obtain⟨p,fx,rfl⟩:=mem_map.1 tH;obtain⟨h2,h3⟩:=mu p fx;have h9:=hs.env p.1 DA;by_cases uK:p.1=ta
    ·rw[<-h3,uK,hj];exact .bY _
    have:look p.1 env=look p.1 l':=by
     rw[<-h3];refine he p.1 uK fun j oj hj jq=>?_;obtain⟨e1,tq,iM,j7⟩:=FB hq hj jq h2;have:=CJ e1 tq iM;rw[j7] at this;rw[Array.getD_eq_getD_getElem?] at this |-;cases hx:ld[j]? with
     | none=>rw[hx] at this;cases this
     | some b=>rw[hx] at this;exact this
    rw[this] at h9;exact h9
   have:look q l' = .bY:=by
    rw[<-hk] at hm;exact Fh hm
   rw[this];exact .bY _,hs.own,hs.fr,hs.ex,hs.eV⟩
  have jC:∀(a':Act) (w':World),bI C ⟨n,(t,look t eF)::env,bx te ds ob++S⟩ a' w'->Fr w (av (bx te ds ob++S)) w' (av (bx te ds ob++S))->lm w1 S1 [] w'/\wpAnyH P .any ops (LQ C Q) (lm w1 S1 []) fuel (ld.setIfInBounds i true) a' w':=fun a' w' U Z=>by
   have jN:Fr w1 S1 w' (av (bx te ds ob++S)):=hf.trans Z;have yG:(ld.setIfInBounds i true).getD ia true=ld.getD ia true:=by
    simp[Array.getD_eq_getD_getElem?,Array.getElem?_setIfInBounds,yF]
   refine⟨⟨fun b h2 h3=>(jN.block b h2 h3).1,fun b h2=>by cases h2⟩,ih _ _ ob a' w' w4 U jN (fun h=>?_) (fun h=>ke (by rw[yG] at h;exact h)) fun q HT rU=>?_⟩
   ·rw[yG] at h;obtain⟨b,h2,h3⟩:=hb h;exact⟨b,h2,by rw[ga,if_neg Mw];exact h3⟩
   rw[ga];by_cases E:t=q
   ·rw[if_pos E,E]
   rw[if_neg E];refine he q HT fun j oj hj jq=>?_;rcases(O j).1 (rU j oj hj jq) with rfl|h2
   ·rw[I] at hj;obtain rfl:=Option.some.inj hj;rw[hd] at jq;exact absurd (Option.some.inj jq) E
   exact h2
  unfold wpOp;rw[I];rcases Ow with ⟨hw,Ox⟩|⟨hw,hv⟩
  ·simp only[hw.frame (B:=bx te ds ob) C a w jr,if_true];have h2:=Ox.frame (B:=bx te ds ob) C a w (fun a' w'=>bI C ⟨n,(t,look t eF)::l',bx te ds ob++S⟩ a' w'/\Fr w (av (bx te ds ob++S)) w' (av (bx te ds ob++S))) (LQ C Q) rfl jr (fun y a' w' hy U _ Z=>by subst hy;exact⟨U,Z⟩);refine .inl (Oper.wp_mono (fun a' w' h3=>?_) (zq h2));obtain⟨⟨h4,h5⟩,v,h6⟩:=h3;rw[hd] at h6;exact jC a' w' (hs.zO h4 h5 h6) h5
  simp only[hw.frame (B:=bx te ds ob) C a w jr,hd];have:=hs.put (t:=t) (.v (w:=w) (L:=live C.X (bx te ds ob++S)) undef);rw[hv] at jC;exact jC _ w this (Fr.refl _ _)
theorem CD.pdA {ia:Nat} {z:Value} {ds:List D} (mO:Region.noSelect l.toArray=true) (mP:NP Q) (hm:P.follows .mixedOrders=true) (hl:m<=l.length) (hq:qI m l.toArray=true) (hp:mM (l.take m).toArray=true) (mw:(l.take m)[ia]?=some oa) (ho:oa.op = .alloc te) (lQ:oa.dst=some ta) (yE:oa.guard=none) (hz:∀w,(zeroValue te).run P w = .ok z w) (j9:z.cells.toList.map .v=ds)
  (h:PD true P C.G n S (l.take m).toArray (l.take m) e [] e') (hj:look ta e' = .bY) (K:∀b,OD P C l.toArray (l.drop m) ⟨n,(ta,.v (.pointer (some ⟨b,0,none⟩)))::e',⟨b,te,ds.length,ds⟩::S⟩ Q) (hne:isMap te=false:=by rfl):CD P C (.region id l.toArray true) ⟨n,e,S⟩ Q :=
 CD.Gj m [] mO mP hm hl hq (fun _ hb=>by cases hb) (fun a w hs _ _=>by
  have h':PD true P C.G n S (l.take m).toArray (l.take m).toArray.toList e [] e':=(by simpa using h)
  have hg:=h'.vK hp rfl 0 rfl;have E:(l.take m).toArray[ia]?=some oa:=(by simpa using mw)
  have I:(l.take m).toArray.size=m:=(by simp;omega)
  refine afb (Q:=Tl P C l.toArray (l.drop m) Q) E lQ yE (fun S'=>ES (hne:=hne) ho lQ hz j9) hj hp (fun i hi=>hg i (Nat.zero_le _) hi) K _ _ e none a w ?_ hs (Fr.refl _ _) (fun h=>?_) (fun _=>rfl) fun q Z U=>?_
  ·rw[I];unfold left;exact Nat.le_trans (length_filter_le _ _) bq
  ·have aa:=(Array.getElem?_eq_some_iff.1 E).1;rw[I] at aa;simp[Array.getD_eq_getD_getElem?,aa] at h
  refine(h'.later fun o ho hd=>?_).symm;obtain⟨j,hj,rfl⟩:=mem_iff_getElem.1 ho;have O:j<(l.take m).toArray.size:=(by simpa using hj)
  have:=U j _ (by rw[<-Array.getElem?_toList,getElem?_eq_getElem hj]) hd;rw[I] at O;simp[Array.getD_eq_getD_getElem?,O] at this)
variable {R:List (Nat×D)->Prop}
theorem Wk.agR(h:nZ e e'):Wk ⟨n,(t,d)::e,S⟩ ⟨n,(t,d)::e',S⟩:=fun C a w hs=>⟨hs.defers,hs.size,fun q hq=>by
 have h1:=hs.env q hq;simp only[ga] at h1 |-;by_cases e1:t=q
 ·rw[if_pos e1] at h1 |-;exact h1
 rw[if_neg e1] at h1 |-;rcases h.look q with h2|h2
 ·rw[h2];exact h1
 rw[h2];exact .bY _,hs.own,hs.fr,hs.ex,hs.eV⟩
theorem nk(m:Nat)(ts:List Nat)(h:PE true P C.G n S (l.take m).toArray ts (l.take m) e fun l'=>OD P C l.toArray (l.drop m) ⟨n,l',S⟩ Q)(hm:P.follows .mixedOrders=true:=by kernel_rfl)(hl:Nat.ble m l.length=true:=by kernel_rfl)(hq:qI m l.toArray=true:=by kernel_rfl)(hp:mM (l.take m).toArray=true:=by kernel_rfl)(mO:Region.noSelect l.toArray=true:=by kernel_rfl)(mP:NP Q:=by exact HO):CD P C (.region id l.toArray true) ⟨n,e,S⟩ Q:=by
 obtain⟨e',l',h1,h2,K⟩:=h;exact CD.pdT mO mP hm (Nat.le_of_ble_eq_true hl) hq hp h1 (OD.wk (Wk.kO h2.kO) K)
theorem gP(m:Nat)(T:List Nat)(h:dM P C (l.take m).toArray (av x.S) T m (Array.replicate m false) x (Tl P C l.toArray (l.drop m) Q))(hT:∀b∈T,b∈av x.S)(hm:P.follows .mixedOrders=true:=by kernel_rfl)(hl:Nat.ble m l.length=true:=by kernel_rfl)(hq:qI m l.toArray=true:=by kernel_rfl)(mO:Region.noSelect l.toArray=true:=by kernel_rfl)(mP:NP Q:=by exact HO):CD P C (.region id l.toArray true) x Q:=CD.Gj m T mO mP hm (Nat.le_of_ble_eq_true hl) hq hT h
theorem fm{T:List Nat}{fuel:Nat}{bw:Array Oper}{l2:List Oper}(K:OD P C bw l2 x Q)(hr:Region.ready .any ops ld=[]:=by kernel_rfl):AD P C ops S1 T fuel ld x (Tl P C bw l2 Q):=AD.done hr K
theorem qR (m ia:Nat) (ts:List Nat) (h:PE true P C.G n S (l.take m).toArray ts (l.take m) e fun l'=>look ta l' = .bY/\∀b,OD P C l.toArray (l.drop m) ⟨n,(ta,.v (.pointer (some ⟨b,0,none⟩)))::l',⟨b,te,(zs.map D.v).length,zs.map .v⟩::S⟩ Q) (hm:P.follows .mixedOrders=true:=by kernel_rfl) (hl:Nat.ble m l.length=true:=by kernel_rfl) (hq:qI m l.toArray=true:=by kernel_rfl) (hp:mM (l.take m).toArray=true:=by kernel_rfl)
  (mw:(l.take m)[ia]?=some oa:=by exact rfl) (ho:oa.op = .alloc te:=by exact rfl) (lQ:oa.dst=some ta:=by exact rfl) (yE:oa.guard=none:=by exact rfl) (hz:sL P te=some zs:=by exact Sb.hz) (ht:ts.elem ta=true:=by exact rfl) (hne:isMap te=false:=by rfl) (mO:Region.noSelect l.toArray=true:=by kernel_rfl) (mP:NP Q:=by exact HO):CD P C (.region id l.toArray true) ⟨n,e,S⟩ Q:=by
 obtain⟨e',l',h1,h2,hj,K⟩:=h;obtain⟨z,h3,h4⟩:=BR hz;exact CD.pdA (hne:=hne) mO mP hm (Nat.le_of_ble_eq_true hl) hq hp mw ho lQ yE h3 (by rw[h4]) h1 (by rw[<-h2.at (mem_of_elem_eq_true ht)];exact hj) fun b=>OD.wk (Wk.agR h2.kO) (K b)
theorem mo{c:Bool}{ts:List Nat}(K:PE c P G n S ops ts l ((t,.bY)::e) R)(ho:o.op = .alloc te:=by exact rfl)(hd:o.dst=some t:=by exact rfl)(hg:o.guard=none:=by exact rfl)(hz:sL P te=some zs:=by exact Sb.hz)(hq:(!c||mH ops o [])=true:=by kernel_rfl)(hne:isMap te=false:=by rfl):PE c P G n S ops ts (o::l) e R:=by
 obtain⟨z,h3,_⟩:=BR hz;exact PE.cons hd fH.nil hq (sb hg) (aaX (hne:=hne) ho hd h3) K

end Go.Proofs.YtbplamgacibdaaaGreatDoor.V
namespace Go.Proofs.YtbplamgacibdaaaGreatDoor.V
open List
open Go.RowKit
variable {P:Program} {C:dG} {G:List (Nat×List Value)} {Q:Exit->St->Prop} {x:St} {ops:Array Oper} {l:List Oper} {o:Oper} {S1 T:List Nat} {fuel i:Nat} {ld:Array Bool}
variable {t e:TypeId} {sz cap:Nat} {y:Operand} {lo hi:Option Operand} {ad:Option Addr} {Sq:List ah}
theorem IC {len j:Nat} {cs ds:List D} {k:IntKind} {i:Int} {z:Operand} (ho:o.op = .index t y z) (hy:aG x y = .agg cs) (hz:aG x z = .v (.int k i))
  (E:∀w,(underlying t).run P w = .ok (.array len e) w) (hs:∀w,(sizeOf e).run P w = .ok sz w) (ha:∀w,(isAgg e).run P w = .ok true w) (hi:i=j) (hj:j<len) (hd:(cs.drop (j*sz)).take sz=ds):bX P G x o .none (.agg ds):=fun C a w _ h=>by
 have hr:=h.eval y;rw[hy] at hr;generalize hg:a.eval y=u at hr;subst hi hd;cases hr with
 | agg _ vs hl hr =>
  refine⟨.agg ((vs.drop (j*sz)).take sz).toArray,.agg _ _ (by simp[hl]) (fun i h1 h2=>?_),fun w' _=>?_⟩
  ·simp only[getElem_take,getElem_drop];exact hr _ _ _
  unfold execOp;simp[ho,hg,h.flat hz,Instr.index,asIntOf,E,hj,part,ha,asAgg,hs]
theorem EC (ho:o.op = .slice t y lo hi none) (hy:aG x y = .v (.slice none 0 0)) (e9:mY x lo 0 0) (eL:mY x hi 0 0)
  (E:∀w,(underlying t).run P w = .ok (.slice e) w) (hs:∀w,(sizeOf e).run P w = .ok sz w):bX P G x o .none (.v (.slice none 0 0)):=fun C a w _ h =>
 ⟨_,.v _,fun w' _=>by
  have b1:=sj h e9;have b2:=sj h eL;unfold execOp;simp[ho,h.flat hy,Instr.sliceAt,Instr.slice,E,wL b1 b2 (Nat.zero_le _) (Nat.le_refl _),hs]⟩
theorem bn.pos{e n:Nat}{cs:List D}{S:List ah}(h:bn e sz cs n ad cap S)(hn:0<n):∃b,ad=some ⟨b,0,none⟩/\n<=cap/\cap<=maxLen/\S=[⟨b,e,cap*sz,cs⟩]:=by
 rcases h with ⟨h1,_,_,_,_⟩|h
 ·omega
 exact h
theorem ED {e':TypeId} {sz' n k:Nat} {cs:List D} (ho:o.op = .slice t y lo hi none) (hy:aG x y = .v (.slice ad n cap)) (e9:mY x lo 0 0) (eL:mY x hi k n)
  (E:∀w,(underlying t).run P w = .ok (.slice e) w) (hs:∀w,(sizeOf e).run P w = .ok sz w) (hk:k<=n) (eW:bn e' sz' cs n ad cap Sq):bX P G x o .none (.v (.slice ad k cap)):=by
 rcases eW with ⟨h1,h2,rfl,rfl,rfl⟩|⟨b,rfl,h1,h2,rfl⟩
 ·subst h1;obtain rfl:k=0:=(by omega)
  exact EC ho hy e9 eL E hs
 exact PP ho hy e9 eL E hs (Nat.le_trans hk h1)
theorem CD.Ah {c:Code} {α:Type} {g:α->List D} {ls:List α} {e k:Nat} {R:List ah} (hg:∀a,(g a).length=sz) (hk:k<=ls.length)
  (eW:bn e sz (ls.flatMap g) ls.length ad cap Sq) (hp:x.S.Perm (Sq++R))
  (K:∀S',bn e sz ((ls.take k).flatMap g) (ls.take k).length ad cap S'->CD P C c ⟨x.n,x.env,S'++R⟩ Q):CD P C c x Q:=by
 have eo:(ls.take k).length=k:=(by rw[length_take];omega)
 refine CD.perm hp ?_;rcases eW with ⟨h1,h2,rfl,rfl,rfl⟩|⟨b,rfl,h1,h2,rfl⟩
 ·have hl:ls=[]:=eq_nil_of_length_eq_zero h1;subst hl;exact K [] (.inl ⟨by simp,by simp,rfl,rfl,rfl⟩)
 refine CD.wk (Wk.shrink (n:=x.n) (l:=x.env) (k:=0) (cs':=(ls.take k).flatMap g) rfl ?_) ?_
 ·rw[<-sC hg ls];exact take_prefix _ _
 exact K [⟨b,e,cap*sz,(ls.take k).flatMap g⟩] (.inr ⟨b,rfl,by rw[eo];omega,h2,rfl⟩)
theorem bC.eG {α:Type} {g:α->List D} {ls new:List α} {s:Operand} {t e tt bytes:Nat} {z:Value} {R:List ah} (hg:∀a,(g a).length=sz) (hg1:∀a,(g a).all one=true) (U:ops[i]?=some o) (hw:cj ops x o true) (ho:o.op = .call {callee:=.builtin .append,args:=#[s,y],argTypes:=#[t,t]}) (hd:o.dst=some tt)
  (ht:P.underlying t=some (.slice e)) (hi:(P.info? e).map (fun i=>(i.zero,i.size,i.bytes))=some (some z,sz,bytes)) (fa:z.cells.size=sz) (Z:0<sz)
  (hs:aG x s = .v (.slice ad ls.length cap)) (tD:bn e sz (ls.flatMap g) ls.length ad cap Sq) (hp:x.S.Perm (Sq++R))
  (hy:aG x y = .list sz (new.flatMap g) new.length) (hm:0<new.length) (ie:ls.length+new.length<=maxLen) (I:(ls.length+new.length)*bytes<=140737488355328)
  (K:∀O E,(ls++new).length<=E->E<=maxLen->AD P C ops S1 T fuel (ld.setIfInBounds i true) ⟨x.n,(tt,.v (.slice (some ⟨O,0,none⟩) (ls++new).length E))::x.env,⟨O,e,E*sz,(ls++new).flatMap g⟩::R⟩ Q) (hne:isMap e=false:=by rfl)
  (hT:∀b∈T,b∈av R:=by first|exact fun b hb=>hb|(intro b hb;simp[av] at hb |-;first|exact hb|exact .inl hb|(rcases hb with hb|hb<;>simp[hb])|(rcases hb with hb|hb|hb<;>simp[hb])|(rcases hb with hb|hb|hb|hb<;>simp[hb])|(rcases hb with hb|hb|hb|hb|hb<;>simp[hb])|(rcases hb with hb|hb|hb|hb|hb|hb<;>simp[hb])|(rcases hb with hb|hb|hb|hb|hb|hb|hb<;>simp[hb])|(rcases hb with hb|hb|hb|hb|hb|hb|hb|hb<;>simp[hb]))):bC P C ops S1 T fuel ld x Q i :=
 bC.EV (hne:=hne) U hw ho hd ht hi fa Z hs tD hp (cm hg ls) hy (sF hg1 new) hm ie I hT fun O E h1 h2=>by
  have:=K O E (by rw[length_append];exact h1) h2;rw[length_append,flatMap_append] at this;exact this

end Go.Proofs.YtbplamgacibdaaaGreatDoor.V
namespace Go.Proofs.YtbplamgacibdaaaGreatDoor.V



open List
open Go.RowKit
variable {P:Program} {C:dG} {G:List (Nat×List Value)} {Q:Exit->St->Prop} {x:St} {ops:Array Oper} {l:List Oper} {o:Oper}
variable {kq kn:IntKind}
theorem aak {s y:Operand} {t tn e tt m sz bytes:Nat} {z:Value} (ho:o.op = .call {callee:=.builtin .append,args:=#[s,y],argTypes:=#[t,tn]}) (hd:o.dst=some tt)
  (ht:P.underlying t=some (.slice e)) (jK:P.underlying tn=some (.int kn)) (hi:(P.info? e).map (fun i=>(i.zero,i.size,i.bytes))=some (some z,sz,bytes)) (fa:z.cells.size=sz) (Z:0<sz)
  (hs:aG x s = .v (.slice none 0 0)) (hy:aG x y = .v (.int kq m)) (h0:0<m) (ie:m<=maxLen) (agS:m*bytes<=140737488355328) (ku:isMap e=false:=by rfl) :
  fU P G x o [] (fun y=>∃b' E,m<=E/\E<=maxLen/\y=⟨x.n,(tt,.v (.slice (some ⟨b',0,none⟩) m E))::x.env,⟨b',e,E*sz,[]⟩::x.S⟩):=fun C a w K Q hG h hK=>by
 obtain⟨i,lC,lP,pI,qo⟩:=zm hi;have I:=Lib.run_append_nil_zeros (P:=P) w t tn o.type e i z kq kn ht jK lC lP m h0 (by rw[pI];exact Z) (by simp only[maxLen] at ie;omega) (by rw[qo];omega);have h1:=grownCap_ge w m 0 e;have h2:=grownCap_le_maxLen w m 0 e ie;generalize grownCap w m 0 e=E at I h1 h2;generalize ajQ:Builtin.zeroCells z.cells m++Builtin.zeroCells z.cells (E-m)=O at I;have yH:∀q,(Builtin.zeroCells z.cells q).size=q*sz:=fun q=>by simp[Builtin.zeroCells,fa]
 have jh:O.size=E*sz:=by
  rw[<-ajQ,Array.size_append,yH,yH,<-Nat.add_mul];congr 1;omega
 have U:(execOp a.eval o).run P w = .ok (.value (.slice (some ⟨w.heap.size,0,none⟩) m E)) (w.drew.alloc (.cells O e)):=by
  unfold execOp;simp only[ho,resolve,invoke,builtin,Sem.run_bind,Sem.run_pure,Result.andThen_ok,map_toArray,map_cons,map_nil,h.flat hs,h.flat hy,I]
 obtain⟨s1,s2,s3⟩:=h.grown (w':=w.drew.alloc (.cells O e)) (t:=tt) (m:=m) (e:=e) (sz:=sz) (S:=x.S) (cs:=[]) (row:=none) (g:=w.heap.size) (cap:=E) (cur:=O) (hne:=ku) (Sublist.refl _) (fun k hk=>by cases hk)
  ⟨rfl,rfl,rfl,by show w.heap.size<=(w.heap.push _).size;simp,fun k hk _=>getElem?_push_lt (w:=w.drew) hk⟩ (.inr rfl) L9 Ma jh (Nat.zero_le _) (fun j hj=>by cases hj)
 unfold Oper.wp;rw[U,Oper.upon_value,hd];exact hK _ _ _ ⟨_,_,h1,h2,rfl⟩ s1 s2 s3
theorem OD.adG {s y:Operand} {t tn e tt m sz bytes:Nat} {z:Value} (hw:cj ops x o true) (ho:o.op = .call {callee:=.builtin .append,args:=#[s,y],argTypes:=#[t,tn]}) (hd:o.dst=some tt)
  (ht:P.underlying t=some (.slice e)) (jK:P.underlying tn=some (.int kn)) (hi:(P.info? e).map (fun i=>(i.zero,i.size,i.bytes))=some (some z,sz,bytes)) (fa:z.cells.size=sz) (O:0<sz)
  (hs:aG x s = .v (.slice none 0 0)) (hy:aG x y = .v (.int kq m)) (h0:0<m) (Z:m<=maxLen) (I:m*bytes<=140737488355328)
  (K:∀U E,m<=E->E<=maxLen->OD P C ops l ⟨x.n,(tt,.v (.slice (some ⟨U,0,none⟩) m E))::x.env,⟨U,e,E*sz,[]⟩::x.S⟩ Q) (ku:isMap e=false:=by rfl):OD P C ops (o::l) x Q :=
 OD.gj hw (aak (ku:=ku) ho hd ht jK hi fa O hs hy h0 Z I) fun y ⟨U,E,h1,h2,hy⟩=>hy ▸ K U E h1 h2

end Go.Proofs.YtbplamgacibdaaaGreatDoor.V
namespace Go.Proofs.YtbplamgacibdaaaGreatDoor.V
open List
open Go.RowKit
variable {P:Program} {C:dG} {G:List (Nat×List Value)} {Q:Exit->St->Prop} {x:St}
variable {l:List (Nat×D)} {S':List ah} {cs':List D}
def Gv(d d':D):Prop:=∀w L v,cq w L d v->cq w L d' v
theorem eM{d:D}:Gv d d:=fun _ _ _ h=>h
theorem fP{sz:Nat}:Gv (.v (.slice none 0 0)) (.list sz [] 0):=fun _ _ _ h=>by rw[h.lj];exact .nil sz
def qu:List D->List D->Prop
 | [],[]=>True
 | d::r,d'::r'=>Gv d d'/\qu r r'
 | _,_=>False
theorem qu.spec:∀{a b:List D},qu a b->b.length=a.length/\∀i (h:i<a.length) (h':i<b.length),Gv a[i] b[i]
 | [],[],_=>⟨rfl,fun i h=>by simp at h⟩
 | d::r,d'::r',h=>by
  obtain⟨h1,h2⟩:=qu.spec h.2;refine⟨by simp[h1],fun i q E=>?_⟩;cases i with
  | zero=>exact h.1
  | succ i=>exact h2 i (by simpa using q) (by simpa using E)
 | [],_::_,h=>h.elim
 | _::_,[],h=>h.elim
theorem KZ{a b:List D}(h:qu a b):Gv (.agg a) (.agg b):=fun w L v hr=>by
 obtain⟨h1,h2⟩:=h.spec;cases hr with
 | agg _ vs hl hq=>exact .agg b vs w4 fun i q E=>h2 i w4 q _ _ _ (hq i w4 E)
theorem Wk.cells{n:Nat}{S:List ah}{k:Nat}{B:ah}(hk:S[k]?=some B)(H:qu B.cs cs')(hS:S.set k {B with cs:=cs'}=S'):Wk ⟨n,l,S⟩ ⟨n,l,S'⟩:=fun C a w h=>by
 subst hS;obtain⟨H1,H2⟩:=H.spec;have eo:=(List.getElem?_eq_some_iff.1 hk).1;have O:=(List.getElem?_eq_some_iff.1 hk).2;have E:av (S.set k {B with cs:=cs'})=av S:=by
  unfold av;rw[map_set];apply ext_getElem bq;intro i q1 q2;rw[getElem_set];split
  ·rename_i e;subst e;simp[O]
  rfl
 have I:live C.X (S.set k {B with cs:=cs'})=live C.X S:=(by funext b;simp only[live,E])
 refine⟨h.defers,h.size,fun t ht=>?_,⟨fun B' U=>?_,?_⟩,?_,h.ex,h.eV⟩
 ·simp only[I];exact h.env t ht
 ·simp only[I];obtain⟨p,hp,iv⟩:=mem_iff_getElem.1 U;rw[length_set] at hp;rw[getElem_set] at iv;by_cases e:k=p
  ·rw[if_pos e] at iv;subst iv;obtain⟨r0,cur,r1,r2,r3,r4⟩:=h.own.at_ B (mem_of_getElem? hk);refine⟨r0,cur,r1,r2,by show cs'.length<=B.size;omega,fun q hq=>?_⟩;have Z:q<cs'.length:=hq;obtain⟨u,hu,hqr⟩:=r4 q w4;exact⟨u,hu,H2 q w4 Z _ _ _ hqr⟩
  rw[if_neg e] at iv;subst iv;exact h.own.at_ _ (getElem_mem hp)
 ·simp only[E];exact h.own.apart
 simp only[E];exact h.fr
theorem CD.cells{c:Code}{S':List ah}{k:Nat}{B:ah}{cs':List D}(hk:x.S[k]?=some B)(H:qu B.cs cs')(hS:x.S.set k {B with cs:=cs'}=S')(K:CD P C c ⟨x.n,x.env,S'⟩ Q):CD P C c x Q:=CD.wk (Wk.cells (n:=x.n) (l:=x.env) (S:=x.S) hk H hS) K
theorem Wk.Fj {n i j m cap e sz:Nat} {S Sq R:List ah} {A:ah} {cs:List D} {ad:Option Addr} (ho:bn e sz cs m ad cap Sq) (hl:cs.length=m*sz) (hp:S.Perm (Sq++R)) (hj:R[j]?=some A) (hi:A.cs[i]?=some (.v (.slice ad m cap)))
  (E:A.cs.set i (.list sz cs m)=cs') (hS:R.set j {A with cs:=cs'}=S') (hne:isMap e=false:=by rfl):Wk ⟨n,l,S⟩ ⟨n,l,S'⟩:=by
 refine(Wk.perm hp).trans ?_;rcases ho with ⟨rfl,rfl,rfl,rfl,rfl⟩|⟨b,rfl,h1,h2,rfl⟩
 ·refine Wk.cells (B:=A) hj ?_ hS;subst E;have key:∀(I:List D) (i:Nat),I[i]?=some (.v (.slice none 0 0))->qu I (I.set i (.list sz [] 0)):=by
   have O:∀r:List D,qu r r:=by
    intro r;induction r with
    | nil=>trivial
    | cons d r ih=>exact⟨eM,ih⟩
   intro I;induction I with
   | nil=>intro i h;simp at h
   | cons d r ih =>
    intro i h;cases i with
    | zero=>simp only[getElem?_cons_zero,Option.some.injEq] at h;subst h;exact⟨fP,O r⟩
    | succ i=>simp only[getElem?_cons_succ] at h;exact⟨eM,ih i h⟩
  exact key _ _ hi
 exact Wk.agC (hne:=hne) (k:=0) rfl hj hi rfl hl h1 h2 E hS
theorem CD.Fj {c:Code} {i j m cap e sz:Nat} {Sq R S':List ah} {A:ah} {cs cs':List D} {ad:Option Addr} (ho:bn e sz cs m ad cap Sq) (hl:cs.length=m*sz) (hp:x.S.Perm (Sq++R)) (hj:R[j]?=some A) (hi:A.cs[i]?=some (.v (.slice ad m cap)))
  (E:A.cs.set i (.list sz cs m)=cs') (hS:R.set j {A with cs:=cs'}=S') (K:CD P C c ⟨x.n,x.env,S'⟩ Q) (hne:isMap e=false:=by rfl):CD P C c x Q:=CD.wk (Wk.Fj (hne:=hne) (n:=x.n) (l:=x.env) (S:=x.S) ho hl hp hj hi E hS) K

end Go.Proofs.YtbplamgacibdaaaGreatDoor.V

namespace Go.Proofs.YtbplamgacibdaaaGreatDoor.V
open List
open Go.RowKit
variable {P:Program} {C:dG} {G:List (Nat×List Value)} {Q:Exit->St->Prop} {x:St} {ops:Array Oper} {l:List Oper} {o:Oper} {S1 T:List Nat} {fuel i:Nat} {ld:Array Bool}
theorem bC.LI {f t:Nat} {fo:Operand} {dc:Array Operand} {ts:Array TypeId} {args:List D} {post:D->List ah->Prop} (hi:ops[i]?=some o) (hw:cj ops x o true) (ho:o.op = .call {callee:=.value fo,args:=dc,argTypes:=ts}) (hd:o.dst=some t)
  (hf:fo = .func f) (fy:∀args w,(callFunc f args).run P w = .ok (.enter f args) w) (hc:VC P C.G f args [] post) (hr:∀r S',post r S'->lf r=true/\∀B∈S',∀d∈B.cs,lf d=true) (ha:Looks x dc.toList args)
  (K:∀r S',post r S'->AD P C ops S1 T fuel (ld.setIfInBounds i true) ⟨x.n,(t,r)::x.env,S'++x.S⟩ Q):bC P C ops S1 T fuel ld x Q i :=
 bC.gj hi hw (I5 ho hd hf fy hc hr ha) (fun _ _ _ _ b _ hb=>by simp at hb) (fun b hb=>by simp at hb) fun y ⟨r,S',hp,hy⟩=>hy ▸ K r S' hp
theorem T3:∀r:List D,qu r r
 | []=>trivial
 | _::r=>⟨eM,T3 r⟩
theorem Kj{d d':D}(h:Gv d d'):∀(r:List D) (i:Nat),qu (r.set i d) (r.set i d')
 | [],_=>trivial
 | _::r,0=>⟨h,T3 r⟩
 | _::r,i+1=>⟨eM,Kj h r i⟩
theorem OD.cells{S':List ah}{k:Nat}{B:ah}{cs':List D}(hk:x.S[k]?=some B)(H:qu B.cs cs')(hS:x.S.set k {B with cs:=cs'}=S')(K:OD P C ops l ⟨x.n,x.env,S'⟩ Q):OD P C ops l x Q:=OD.wk (Wk.cells (n:=x.n) (l:=x.env) (S:=x.S) hk H hS) K

theorem Wk.agT{n t:Nat}{r d':D}{l:List (Nat×D)}{S R Sd:List ah}(hp:S.Perm (R++Sd))(ht:View Sd r d'):Wk ⟨n,(t,r)::l,S⟩ ⟨n,(t,d')::l,R⟩:=fun C a w h0=>by
 have h:=Wk.perm (n:=n) (env:=(t,r)::l) hp C a w h0;have h1:bI C ⟨n,(t,r)::l,R⟩ a w:=Wk.drop n ((t,r)::l) _ R (sublist_append_left _ _) C a w h;refine⟨h1.defers,h1.size,fun q hq=>?_,h1.own,h1.fr,h1.ex,h1.eV⟩;rw[ga];by_cases e:t=q
 ·subst e;rw[if_pos rfl];have hL:live C.X (R++Sd)=live (fun b=>live C.X R b) Sd:=by
   funext b;simp only[live,av,map_append,mem_append];exact propext or_assoc.symm
  have hnd:(av R++av Sd).Nodup:=(by have:=h.own.apart;simpa[av] using this)
  have I:∀b,live C.X R b->b∉av Sd:=fun b hb hm=>by
   rcases hb with hb|hb
   ·exact h.AW b hb (by simp only[av,map_append,mem_append] at hm |-;exact .inr hm)
   exact(nodup_append.1 hnd).2.2 b hb b hm rfl
  have E:Own w (live (fun b=>live C.X R b) Sd) Sd:=⟨fun B hB=>by rw[<-hL];exact h.own.at_ B (mem_append_right _ hB),(nodup_append.1 hnd).2.1⟩
  have h3:=h.env t hq;rw[ga,if_pos rfl] at h3;simp only[hL] at h3;exact ht (fun b=>live C.X R b) _ w _ (fun b hb=>hb) I E h3
 rw[if_neg e];have h3:=h1.env q hq;rwa [ga,if_neg e] at h3
theorem abL {f t:Nat} {fo:Operand} {dc:Array Operand} {ts:Array TypeId} {args:List D} {post:D->List ah->Prop} {d:D} (ho:o.op = .call {callee:=.value fo,args:=dc,argTypes:=ts}) (hd:o.dst=some t)
  (hf:fo = .func f) (fy:∀args w,(callFunc f args).run P w = .ok (.enter f args) w) (hc:VC P G f args [] post) (hr:∀r S',post r S'->lf r=true/\∀B∈S',∀d∈B.cs,lf d=true) (O:∀r S',post r S'->View S' r d) (ha:Looks x dc.toList args) :
  fU P G x o [] (fun y=>y=⟨x.n,(t,d)::x.env,x.S⟩):=fun C a w K R hG h hK=>by
 refine I5 ho hd hf fy hc hr ha C a w K R hG h fun y a' w' ⟨r,S',hp,hy⟩ I uR E=>?_;subst hy;have h1:Wk ⟨x.n,(t,r)::x.env,S'++x.S⟩ ⟨x.n,(t,d)::x.env,x.S⟩:=Wk.agT perm_append_comm (O r S' hp);refine hK _ a' w' rfl (h1 C a' w' I) uR ⟨E.os,E.tape,E.output,E.size,fun b hb hn=>⟨(E.block b hb hn).1,hn⟩⟩
section pe
variable {c:Bool} {n t f:Nat} {S:List ah} {ts:List Nat} {e lr:List (Nat×D)} {R:List (Nat×D)->Prop} {fo:Operand} {dc:Array Operand} {tt:Array TypeId} {args:List D} {d:D} {post:D->List ah->Prop}
theorem Am (hc:VC P G f args [] post) (DH:∀r S',post r S'->lf r=true/\∀B∈S',∀d∈B.cs,lf d=true) (E:∀r S',post r S'->View S' r d) (ho:o.op = .call {callee:=.value fo,args:=dc,argTypes:=tt}:=by exact rfl)
  (hd:o.dst=some t:=by exact rfl) (hr:fH (kP ops o) e lr:=by exact jO) (ha:Looks ⟨n,lr,S⟩ dc.toList args) (K:PE c P G n S ops ts l ((t,d)::e) R) (hq:(!c||mH ops o (kP ops o))=true:=by kernel_rfl) (hw:cj ops ⟨n,lr,S⟩ o true:=by exact pK) (hf:fo = .func f:=by exact rfl) (fy:xX P f=true:=by kernel_rfl):PE c P G n S ops ts (o::l) e R :=
 .cons hd hr hq hw (abL ho hd hf (Vi fy) hc DH E ha) K
theorem xZ (hc:VP P G f args d) (ho:o.op = .call {callee:=.value fo,args:=dc,argTypes:=tt}:=by exact rfl)
  (hd:o.dst=some t:=by exact rfl) (hr:fH (kP ops o) e lr:=by exact jO) (ha:Looks ⟨n,lr,S⟩ dc.toList args) (K:PE c P G n S ops ts l ((t,d)::e) R) (DH:lf d=true:=by exact rfl) (hq:(!c||mH ops o (kP ops o))=true:=by kernel_rfl) (hw:cj ops ⟨n,lr,S⟩ o true:=by exact pK) (hf:fo = .func f:=by exact rfl) (fy:xX P f=true:=by kernel_rfl):PE c P G n S ops ts (o::l) e R :=
 Am hc (fun r S' h=>by obtain⟨rfl,rfl⟩:=h;exact⟨DH,fun B hB=>by cases hB⟩) (fun r S' h=>by obtain⟨rfl,rfl⟩:=h;exact ff) ho hd hr ha K hq hw hf fy
end pe
end Go.Proofs.YtbplamgacibdaaaGreatDoor.V

namespace Go.Proofs.YtbplamgacibdaaaGreatDoor.V
open List
open Go.RowKit
variable {P:Program} {C:dG} {G:List (Nat×List Value)} {Q:Exit->St->Prop} {ops:Array Oper} {l l2:List Oper} {o:Oper} {n t:Nat} {d:D} {e e' l':List (Nat×D)} {S S':List ah} {ts:List Nat} {c:Bool} {x:St}
variable {S1:List Nat} {zs:List Value}
structure Al where
 ia:Nat
 ta:Nat
 te:TypeId
 ds:List D
variable {al:List Al}
def gq(al:List Al)(ob:Nat->Option Nat):List ah:=al.flatMap fun a=>bx a.te a.ds (ob a.ta)
def nT(ob:Nat->Option Nat)(t b:Nat):Nat->Option Nat:=fun q=>if q=t then some b else ob q
theorem RX{ob:Nat->Option Nat}{t b:Nat}:∀{al:List Al},(∀a∈al,a.ta≠t)->gq al (nT ob t b)=gq al ob
 | [],_=>rfl
 | a::al,h=>by
  unfold gq;rw[flatMap_cons,flatMap_cons];congr 1
  ·unfold nT;rw[if_neg (h a mem_cons_self)]
  exact RX fun x hx=>h x (mem_cons_of_mem _ hx)
theorem T4{ob:Nat->Option Nat}{b:Nat}{a:Al}:∀{al:List Al},a∈al->(al.map Al.ta).Nodup->ob a.ta=none->(⟨b,a.te,a.ds.length,a.ds⟩::gq al ob).Perm (gq al (nT ob a.ta b))
 | [],h,_,_=>by cases h
 | y::al,h,hn,ho=>by
  rw[map_cons,nodup_cons] at hn;have e1:gq (y::al) ob=bx y.te y.ds (ob y.ta)++gq al ob:=rfl;have e2:gq (y::al) (nT ob a.ta b)=bx y.te y.ds (nT ob a.ta b y.ta)++gq al (nT ob a.ta b):=rfl;rw[e1,e2];by_cases hy:y=a
  ·subst hy;have h1:gq al (nT ob y.ta b)=gq al ob:=RX fun x hx e=>hn.1 (e ▸ mem_map_of_mem hx);have h2:nT ob y.ta b y.ta=some b:=(by unfold nT;rw[if_pos rfl])
   rw[h1,h2,ho];exact Perm.refl _
  have hm:a∈al:=by
   rcases mem_cons.1 h with h|h
   ·exact absurd h.symm hy
   exact h
  have hne:y.ta≠a.ta:=fun e=>hn.1 (e ▸ mem_map_of_mem hm);have h2:nT ob a.ta b y.ta=ob y.ta:=(by unfold nT;rw[if_neg hne])
  rw[h2];exact(perm_middle (a:=(⟨b,a.te,a.ds.length,a.ds⟩:ah)) (l₁:=bx y.te y.ds (ob y.ta)) (l₂:=gq al ob)).symm.trans (Perm.append_left _ (T4 hm hn.2 ho))
theorem Fr.aij{E w:World}{A B:List ah}(h:Fr E S1 w (av A))(hp:A.Perm B):Fr E S1 w (av B):=⟨h.os,h.tape,h.output,h.size,fun b h1 h2=>⟨(h.block b h1 h2).1,fun hm=>(h.block b h1 h2).2 ((hp.map ah.b).symm.subset hm)⟩⟩
def An(al:List Al)(f:Nat->Nat):List (Nat×D):=al.map fun a=>(a.ta,.v (.pointer (some ⟨f a.ta,0,none⟩)))
def made(al:List Al)(f:Nat->Nat):List ah:=al.map fun a=>⟨f a.ta,a.te,a.ds.length,a.ds⟩
theorem RY{ob:Nat->Option Nat}{f:Nat->Nat}:∀{al:List Al},(∀a∈al,ob a.ta=some (f a.ta))->gq al ob=made al f
 | [],_=>rfl
 | a::al,h=>by
  show bx a.te a.ds (ob a.ta)++gq al ob=_;rw[h a mem_cons_self,RY fun x hx=>h x (mem_cons_of_mem _ hx)];rfl
theorem QG{f:Nat->Nat}{q:Nat}:∀{al:List Al},look q (An al f++e)=if q∈al.map Al.ta then .v (.pointer (some ⟨f q,0,none⟩)) else look q e
 | []=>by simp[An]
 | a::al=>by
  show look q ((a.ta,_)::(An al f++e))=_;rw[ga,QG (al:=al)];by_cases h:a.ta=q
  ·rw[if_pos h,if_pos (by rw[map_cons,h];exact mem_cons_self),h]
  rw[if_neg h,map_cons];by_cases h2:q∈al.map Al.ta
  ·rw[if_pos h2,if_pos (mem_cons_of_mem _ h2)]
  rw[if_neg h2,if_neg (fun hm=>by rcases mem_cons.1 hm with hm|hm;exact h hm.symm;exact h2 hm)]
theorem afc {eF:List (Nat×D)} {w1:World} (hA:∀a∈al,∃oa,ops[a.ia]?=some oa/\oa.dst=some a.ta/\oa.guard=none/\∀S',fU P C.G ⟨n,[],S'⟩ oa [] (xw ⟨n,[],S'⟩ a.ta a.te a.ds)) (hnd:(al.map Al.ta).Nodup)
  (hj:∀a∈al,look a.ta eF = .bY) (hp:mM ops=true) (H:∀i,i<ops.size->Gd P C.G n S ops eF i) (hQ:∀f,Q .normal ⟨n,An al f++eF,made al f++S⟩):∀(fuel:Nat) (ld:Array Bool) (env:List (Nat×D)) (ob:Nat->Option Nat) (a:Act) (w:World),
  left ops.size ld<=fuel->bI C ⟨n,env,gq al ob++S⟩ a w->Fr w1 S1 w (av (gq al ob++S))->(∀x∈al,ld.getD x.ia true=true->∃b,ob x.ta=some b/\look x.ta env = .v (.pointer (some ⟨b,0,none⟩)))->(∀x∈al,ld.getD x.ia true=false->ob x.ta=none) ->
   (∀q,q∉al.map Al.ta->(∀j o,ops[j]?=some o->o.dst=some q->ld.getD j true=true)->look q env=look q eF)->wpAnyH P .any ops (LQ C Q) (lm w1 S1 []) fuel ld a w:=by
 have HS:∀x∈al,∀j o,ops[j]?=some o->o.dst=some x.ta->j=x.ia:=fun x hx j o hj hd=>by
  obtain⟨oa,mw,lQ,_,_⟩:=hA x hx;rcases Nat.lt_trichotomy j x.ia with q|q|q
  ·obtain⟨t',h1,h2⟩:=(xq hp mw).2;rw[lQ] at h1;obtain rfl:=Option.some.inj h1;exact absurd hd (h2 j o q hj)
  ·exact q
  obtain⟨t',h1,h2⟩:=(xq hp hj).2;rw[hd] at h1;obtain rfl:=Option.some.inj h1;exact absurd lQ (h2 x.ia oa q mw)
 have dN:∀(ld:Array Bool) (env:List (Nat×D)) (ob:Nat->Option Nat) (a:Act) (w:World),bI C ⟨n,env,gq al ob++S⟩ a w->(∀x∈al,ld.getD x.ia true=true->∃b,ob x.ta=some b/\look x.ta env = .v (.pointer (some ⟨b,0,none⟩)))->(∀q,q∉al.map Al.ta->(∀j o,ops[j]?=some o->o.dst=some q->ld.getD j true=true)->look q env=look q eF)->(∀j,j<ops.size->ld.getD j true=true)->LQ C Q .normal a w:=fun ld env ob a w hs hb he ek=>by
  have tI:∀x∈al,ob x.ta=some ((ob x.ta).getD 0)/\look x.ta env = .v (.pointer (some ⟨(ob x.ta).getD 0,0,none⟩)):=fun x hx=>by
   obtain⟨oa,mw,_⟩:=hA x hx;obtain⟨b,h1,h2⟩:=hb x hx (ek x.ia (Array.getElem?_eq_some_iff.1 mw).1);rw[h1];exact⟨rfl,h2⟩
  have Dr:gq al ob=made al (fun q=>(ob q).getD 0):=RY fun x hx=>(tI x hx).1;rw[Dr] at hs;refine .inl ⟨⟨n,An al (fun q=>(ob q).getD 0)++eF,made al (fun q=>(ob q).getD 0)++S⟩,⟨hs.defers,hs.size,fun q hq=>?_,hs.own,hs.fr,hs.ex,hs.eV⟩,hQ _⟩;have:=hs.env q hq;rw[QG];by_cases E:q∈al.map Al.ta
  ·rw[if_pos E];obtain⟨x,hx,rfl⟩:=mem_map.1 E;rw[(tI x hx).2] at this;exact this
  rw[if_neg E];rw[he q E fun j o hj _=>ek j (Array.getElem?_eq_some_iff.1 hj).1] at this;exact this
 intro fuel;induction fuel with
 | zero =>
  intro ld env ob a w hl hs hf hb ke he;have ek:∀j,j<ops.size->ld.getD j true=true:=fun j hj=>by
   cases hq:ld.getD j true with
   | true=>rfl
   | false=>have:=zu hj hq;omega
  refine⟨?_,dN ld env ob a w hs hb he ek⟩;rw[eq_nil_iff_forall_not_mem];intro j hj;obtain⟨h1,o,h2,_⟩:=mem_ready.1 hj;have:=ek j (Array.getElem?_eq_some_iff.1 h2).1;rw[h1] at this;cases this
 | succ fuel ih =>
  intro ld env ob a w hl hs hf hb ke he;refine⟨fun h0=>dN ld env ob a w hs hb he (K5 hp h0),fun i hi=>?_⟩;obtain⟨j4,o,I,CJ⟩:=mem_ready.1 hi;have aa:=(Array.getElem?_eq_some_iff.1 I).1;have W4:=zu aa j4;have sS:∀j,(ld.setIfInBounds i true).getD j true=true↔j=i\/ld.getD j true=true:=fun j=>by
   by_cases hj:j=i
   ·subst hj;have jh:j<ld.size:=by
     rcases Nat.lt_or_ge j ld.size with h|h
     ·exact h
     rw[Array.getD_eq_getD_getElem?,Array.getElem?_eq_none h] at j4;cases j4
    simp[Array.getD_eq_getD_getElem?,Array.getElem?_setIfInBounds,jh]
   simp[Array.getD_eq_getD_getElem?,Array.getElem?_setIfInBounds,hj,Ne.symm hj]
  have O:∀j,j≠i->(ld.setIfInBounds i true).getD j true=ld.getD j true:=fun j hj=>by
   simp[Array.getD_eq_getD_getElem?,Array.getElem?_setIfInBounds,Ne.symm hj]
  by_cases yF:∃x∈al,x.ia=i
  ·obtain⟨x,hx,rfl⟩:=yF;obtain⟨oa,mw,lQ,yE,hE⟩:=hA x hx;rw[mw] at I;obtain rfl:=Option.some.inj I;have tI:=ke x hx j4;unfold wpOp;rw[mw];have hw:Region.wanted oa (yielded ops a.tmps)=true:=(by simp[Region.wanted,yE])
   simp only[hw,if_true];have hU:bI C ⟨n,[],gq al ob++S⟩ a w:=⟨hs.defers,hs.size,fun q hq=>.bY _,hs.own,hs.fr,hs.ex,hs.eV⟩
   have h2:=hE (gq al ob++S) C a w (fun a' w'=>∃b,bI C ⟨n,[(x.ta,.v (.pointer (some ⟨b,0,none⟩)))],⟨b,x.te,x.ds.length,x.ds⟩::(gq al ob++S)⟩ a' w'/\Fr w (av (gq al ob++S)) w' (av (⟨b,x.te,x.ds.length,x.ds⟩::(gq al ob++S)))) (LQ C Q) rfl hU (fun y a' w' ⟨b,hy⟩ rT _ uO=>by subst hy;exact⟨b,rT,uO⟩);refine .inl (Oper.wp_mono (fun a' w' h3=>?_) (zq h2));obtain⟨⟨b,h4,h5⟩,v,h6⟩:=h3;rw[lQ] at h6;have wc:(⟨b,x.te,x.ds.length,x.ds⟩::(gq al ob++S)).Perm (gq al (nT ob x.ta b)++S):=Perm.append_right S (T4 hx hnd tI);have jN:Fr w1 S1 w' (av (gq al (nT ob x.ta b)++S)):=Fr.aij (hf.trans h5) wc;have uP:=Wk.perm wc C a' w' (bI.Vj hs h4 h5 h6);refine⟨⟨fun b h2 h3=>(jN.block b h2 h3).1,fun b h2=>by cases h2⟩,ih _ ((x.ta,.v (.pointer (some ⟨b,0,none⟩)))::env) (nT ob x.ta b) a' w' w4 uP jN (fun y hy U=>?_) (fun y hy U=>?_) fun q hq rU=>?_⟩
   ·by_cases Z:y.ta=x.ta
    ·exact⟨b,by unfold nT;rw[if_pos Z],by rw[ga,if_pos Z.symm]⟩
    have DK:y.ia≠x.ia:=fun e=>by
     obtain⟨oy,HU,DL,_⟩:=hA y hy;rw[e,mw] at HU;obtain rfl:=Option.some.inj HU;rw[lQ] at DL;exact Z (Option.some.inj DL).symm
    rw[O _ DK] at U;obtain⟨b',h7,h8⟩:=hb y hy U;exact⟨b',by unfold nT;rw[if_neg Z];exact h7,by rw[ga,if_neg (fun e=>Z e.symm)];exact h8⟩
   ·by_cases DK:y.ia=x.ia
    ·have:=(sS y.ia).2 (.inl DK);rw[this] at U;cases U
    rw[O _ DK] at U;have Z:y.ta≠x.ta:=fun e=>by
     obtain⟨oy,HU,DL,_⟩:=hA y hy;rw[e] at DL;exact DK (HS x hx _ _ HU DL)
    unfold nT;rw[if_neg Z];exact ke y hy U
   rw[ga,if_neg (fun e:x.ta=q=>hq (e ▸ mem_map_of_mem hx))];refine he q hq fun j oj hj jq=>?_;rcases(sS j).1 (rU j oj hj jq) with rfl|h2
   ·rw[mw] at hj;obtain rfl:=Option.some.inj hj;rw[lQ] at jq;exact absurd (Option.some.inj jq ▸ mem_map_of_mem hx) hq
   exact h2
  obtain⟨o',t,ts,l',h1,hd,hq,mu,hk,Ow⟩:=H i aa;rw[I] at h1;obtain rfl:=Option.some.inj h1;have Mw:t∉al.map Al.ta:=fun hm=>by
   obtain⟨x,hx,e⟩:=mem_map.1 hm;exact yF ⟨x,hx,(HS x hx i o I (by rw[hd,e])).symm⟩
  have jr:bI C ⟨n,l',gq al ob++S⟩ a w:=⟨hs.defers,hs.size,fun q DA=>by
   by_cases hm:q∈ts
   ·have tH:=hm;rw[<-hk] at tH;obtain⟨p,fx,rfl⟩:=mem_map.1 tH;obtain⟨h2,h3⟩:=mu p fx;have h9:=hs.env p.1 DA;by_cases uK:p.1∈al.map Al.ta
    ·obtain⟨x,hx,e⟩:=mem_map.1 uK;rw[<-h3,<-e,hj x hx];exact .bY _
    have:look p.1 env=look p.1 l':=by
     rw[<-h3];refine he p.1 uK fun j oj hj jq=>?_;obtain⟨e1,tq,iM,j7⟩:=FB hq hj jq h2;have:=CJ e1 tq iM;rw[j7] at this;rw[Array.getD_eq_getD_getElem?] at this |-;cases hx:ld[j]? with
     | none=>rw[hx] at this;cases this
     | some b=>rw[hx] at this;exact this
    rw[this] at h9;exact h9
   have:look q l' = .bY:=by
    rw[<-hk] at hm;exact Fh hm
   rw[this];exact .bY _,hs.own,hs.fr,hs.ex,hs.eV⟩
  have jC:∀(a':Act) (w':World),bI C ⟨n,(t,look t eF)::env,gq al ob++S⟩ a' w'->Fr w (av (gq al ob++S)) w' (av (gq al ob++S))->lm w1 S1 [] w'/\wpAnyH P .any ops (LQ C Q) (lm w1 S1 []) fuel (ld.setIfInBounds i true) a' w':=fun a' w' rT uO=>by
   have jN:Fr w1 S1 w' (av (gq al ob++S)):=hf.trans uO;have yG:∀x∈al,(ld.setIfInBounds i true).getD x.ia true=ld.getD x.ia true:=fun x hx=>O _ fun e=>yF ⟨x,hx,e⟩;refine⟨⟨fun b h2 h3=>(jN.block b h2 h3).1,fun b h2=>by cases h2⟩,ih _ _ ob a' w' w4 rT jN (fun x hx h=>?_) (fun x hx h=>ke x hx (by rw[yG x hx] at h;exact h)) fun q HT rU=>?_⟩
   ·rw[yG x hx] at h;obtain⟨b,h2,h3⟩:=hb x hx h;exact⟨b,h2,by rw[ga,if_neg (fun e:t=x.ta=>Mw (by rw[e];exact mem_map_of_mem hx))];exact h3⟩
   rw[ga];by_cases E:t=q
   ·rw[if_pos E,E]
   rw[if_neg E];refine he q HT fun j oj hj jq=>?_;rcases(sS j).1 (rU j oj hj jq) with rfl|h2
   ·rw[I] at hj;obtain rfl:=Option.some.inj hj;rw[hd] at jq;exact absurd (Option.some.inj jq) E
   exact h2
  unfold wpOp;rw[I];rcases Ow with ⟨hw,Ox⟩|⟨hw,hv⟩
  ·simp only[hw.frame (B:=gq al ob) C a w jr,if_true];have h2:=Ox.frame (B:=gq al ob) C a w (fun a' w'=>bI C ⟨n,(t,look t eF)::l',gq al ob++S⟩ a' w'/\Fr w (av (gq al ob++S)) w' (av (gq al ob++S))) (LQ C Q) rfl jr (fun y a' w' hy rT _ uO=>by subst hy;exact⟨rT,uO⟩);refine .inl (Oper.wp_mono (fun a' w' h3=>?_) (zq h2));obtain⟨⟨h4,h5⟩,v,h6⟩:=h3;rw[hd] at h6;exact jC a' w' (hs.zO h4 h5 h6) h5
  simp only[hw.frame (B:=gq al ob) C a w jr,hd];have:=hs.put (t:=t) (.v (w:=w) (L:=live C.X (gq al ob++S)) undef);rw[hv] at jC;exact jC _ w this (Fr.refl _ _)
theorem CD.pdL {id m:Nat} (mO:Region.noSelect l.toArray=true) (mP:NP Q) (hm:P.follows .mixedOrders=true) (hl:m<=l.length) (hq:qI m l.toArray=true) (hp:mM (l.take m).toArray=true) (hA:∀a∈al,∃oa,(l.take m)[a.ia]?=some oa/\oa.dst=some a.ta/\oa.guard=none/\∀S',fU P C.G ⟨n,[],S'⟩ oa [] (xw ⟨n,[],S'⟩ a.ta a.te a.ds)) (hnd:(al.map Al.ta).Nodup)
  (h:PD true P C.G n S (l.take m).toArray (l.take m) e [] e') (hj:∀a∈al,look a.ta e' = .bY) (K:∀f,OD P C l.toArray (l.drop m) ⟨n,An al f++e',made al f++S⟩ Q):CD P C (.region id l.toArray true) ⟨n,e,S⟩ Q :=
 CD.Gj m [] mO mP hm hl hq (fun _ hb=>by cases hb) (fun a w hs _ _=>by
  have h':PD true P C.G n S (l.take m).toArray (l.take m).toArray.toList e [] e':=(by simpa using h)
  have hg:=h'.vK hp rfl 0 rfl;have E:∀a∈al,∃oa,(l.take m).toArray[a.ia]?=some oa/\oa.dst=some a.ta/\oa.guard=none/\∀S',fU P C.G ⟨n,[],S'⟩ oa [] (xw ⟨n,[],S'⟩ a.ta a.te a.ds):=fun a ha=>by
   obtain⟨oa,h1,h2⟩:=hA a ha;exact⟨oa,by simpa using h1,h2⟩
  have I:(l.take m).toArray.size=m:=(by simp;omega)
  have O:gq al (fun _=>none)=[]:=by
   clear hA E hnd hj K;induction al with
   | nil=>rfl
   | cons a al ih=>show bx a.te a.ds none++gq al (fun _=>none)=[];rw[ih];rfl
  refine afc (Q:=Tl P C l.toArray (l.drop m) Q) E hnd hj hp (fun i hi=>hg i (Nat.zero_le _) hi) K _ _ e (fun _=>none) a w ?_ (by rw[O];exact hs) (by rw[O];exact Fr.refl _ _) (fun x hx h=>?_) (fun _ _ _=>rfl) fun q HT rU=>?_
  ·rw[I];unfold left;exact Nat.le_trans (length_filter_le _ _) bq
  ·obtain⟨oa,U,_⟩:=E x hx;have aa:=(Array.getElem?_eq_some_iff.1 U).1;rw[I] at aa;simp[Array.getD_eq_getD_getElem?,aa] at h
  refine(h'.later fun o ho hd=>?_).symm;obtain⟨j,hj,rfl⟩:=mem_iff_getElem.1 ho;have Z:j<(l.take m).toArray.size:=(by simpa using hj)
  have:=rU j _ (by rw[<-Array.getElem?_toList,getElem?_eq_getElem hj]) hd;rw[I] at Z;simp[Array.getD_eq_getD_getElem?,Z] at this)
def FZ(P:Program)(l:List Oper)(ia ta te:Nat):Bool:=match l[ia]? with
 | some o=>(match o.op with|.alloc te'=>Nat.beq te' te|_=>false)&&(match o.dst with|some t=>Nat.beq t ta|none=>false)&&o.guard.isNone && !(isMap te)
 | none=>false
theorem RZ{l:List Oper}{ia ta te:Nat}(h:FZ P l ia ta te=true)(hz:sL P te=some zs):∃oa,l[ia]?=some oa/\oa.dst=some ta/\oa.guard=none/\∀S',fU P G ⟨n,[],S'⟩ oa [] (xw ⟨n,[],S'⟩ ta te (zs.map .v)):=by
 unfold FZ at h;split at h
 ·rename_i o ho;simp only[Bool.and_eq_true,Bool.not_eq_true'] at h;obtain⟨⟨⟨h1,h2⟩,h3⟩,h4⟩:=h;obtain⟨z,mv,E⟩:=BR hz;split at h1
  ·rename_i O I;obtain rfl:=Nat.eq_of_beq_eq_true h1;split at h2
   ·rename_i t hd;obtain rfl:=Nat.eq_of_beq_eq_true h2;exact⟨o,ho,hd,Option.isNone_iff_eq_none.1 h3,fun S'=>ES (hne:=h4) I hd mv (by rw[E])⟩
   cases h2
  cases h1
 cases h
variable {R:List (Nat×D)->Prop}
theorem HV {id ta tb:Nat} {te tf:TypeId} {zt:List Value} (m ia ib:Nat) (ts:List Nat) (h:PE true P C.G n S (l.take m).toArray ts (l.take m) e fun l'=>look ta l' = .bY/\look tb l' = .bY/\∀b U,OD P C l.toArray (l.drop m) ⟨n,(ta,.v (.pointer (some ⟨b,0,none⟩)))::(tb,.v (.pointer (some ⟨U,0,none⟩)))::l',⟨b,te,(zs.map D.v).length,zs.map .v⟩::⟨U,tf,(zt.map D.v).length,zt.map .v⟩::S⟩ Q) (hm:P.follows .mixedOrders=true:=by kernel_rfl) (hl:Nat.ble m l.length=true:=by kernel_rfl) (hq:qI m l.toArray=true:=by kernel_rfl) (hp:mM (l.take m).toArray=true:=by kernel_rfl)
  (lQ:((l.take m)[ia]?.bind (·.dst))=some ta:=by exact rfl) (hdb:((l.take m)[ib]?.bind (·.dst))=some tb:=by exact rfl) (hea:((l.take m)[ia]?.bind fun o=>match o.op with|.alloc te=>some te|_=>none)=some te:=by exact rfl) (heb:((l.take m)[ib]?.bind fun o=>match o.op with|.alloc te=>some te|_=>none)=some tf:=by exact rfl)
  (hz:sL P te=some zs:=by exact Sb.hz) (yz:sL P tf=some zt:=by exact Sb.hz) (ha:FZ P (l.take m) ia ta te=true:=by kernel_rfl) (hb:FZ P (l.take m) ib tb tf=true:=by kernel_rfl) (qX:Nat.beq ta tb=false:=by kernel_rfl) (ht:ts.elem ta=true:=by exact rfl) (AY:ts.elem tb=true:=by exact rfl) (mO:Region.noSelect l.toArray=true:=by kernel_rfl) (mP:NP Q:=by exact HO):CD P C (.region id l.toArray true) ⟨n,e,S⟩ Q:=by
 obtain⟨e',l',h1,h2,hj,kD,K⟩:=h;have hne:ta≠tb:=fun e=>by rw[e,Nat.beq_refl] at qX;cases qX
 refine CD.pdL (al:=[⟨ia,ta,te,zs.map .v⟩,⟨ib,tb,tf,zt.map .v⟩]) mO mP hm (Nat.le_of_ble_eq_true hl) hq hp (fun a h=>?_) (by simp[hne]) h1 (fun a h=>?_) fun f=>OD.wk ?_ (K (f ta) (f tb))
 ·rcases mem_cons.1 h with rfl|h
  ·exact RZ ha hz
  rw[mem_singleton] at h;subst h;exact RZ hb yz
 ·rcases mem_cons.1 h with rfl|h
  ·show look ta e'=_;rw[<-h2.at (mem_of_elem_eq_true ht)];exact hj
  rw[mem_singleton] at h;subst h;show look tb e'=_;rw[<-h2.at (mem_of_elem_eq_true AY)];exact kD
 intro C a w hs;have E:bI C ⟨n,(ta,.v (.pointer (some ⟨f ta,0,none⟩)))::(tb,.v (.pointer (some ⟨f tb,0,none⟩)))::e',⟨f ta,te,(zs.map D.v).length,zs.map .v⟩::⟨f tb,tf,(zt.map D.v).length,zt.map .v⟩::S⟩ a w:=hs;refine⟨E.defers,E.size,fun q hq=>?_,E.own,E.fr,E.ex,E.eV⟩;have I:=E.env q hq;simp only[ga] at I |-;by_cases e1:ta=q
 ·rw[if_pos e1] at I |-;exact I
 rw[if_neg e1] at I |-;by_cases e2:tb=q
 ·rw[if_pos e2] at I |-;exact I
 rw[if_neg e2] at I |-;rcases h2.kO.look q with O|O
 ·rw[O];exact I
 rw[O];exact .bY _

end Go.Proofs.YtbplamgacibdaaaGreatDoor.V
namespace Go.Proofs.YtbplamgacibdaaaGreatDoor.V
open List
open Go.RowKit
variable {H:Type} {enc:TypeId×Value->H} {P:Program} {w:World} {base:Nat} {sp:Nat->Bool} {held:Bool}
variable {α:Type} {t:TypeId}
def mI(fuel:Nat)(enc:TypeId×Value->H)(P:Program)(w:World)(base:Nat)(sp:Nat->Bool)(held:Bool)(t:TypeId)(g:α->List D)(ok:α->Prop):Prop :=
 ∀cs x,DataW.trod enc P w base sp held fuel t cs=some x->∃a,cD w (fun _=>False) (g a) cs/\ok a
theorem pJ.at{g:α->List D}{ok:α->Prop}(h:pJ enc P w base sp held t g ok)(n:Nat):mI n enc P w base sp held t g ok:=h n
theorem cD.one{w:World}{L:Nat->Prop}{d:D}{v:Value}(h:cq w L d v):cD w L [d] [v]:=⟨rfl,fun i h1 h2=>by
 have:i=0:=(by simpa using h1)
 subst this;exact h⟩
theorem QH{fuel:Nat}{e:TypeId}{sz:Nat}{g:α->List D}{ok:α->Prop}(ht:P.underlying t=some (.slice e))(rQ:P.cellsOf e=sz)(Z:0<sz)(re:∀n,n+1=fuel->mI n enc P w base sp held e g ok)(hg:∀a,(g a).length=sz) :
  mI fuel enc P w base sp held t (fun l:List α=>[.list sz (l.flatMap g) l.length]) (fun l=>(∀x∈l,ok x)/\l.length<=maxLen):=fun cs x h=>by
 rcases DataW.trod_slice ht h with ⟨rfl,_⟩|⟨a,len,cap,apF,rest,n,hn,rfl,_,hb,hl,cR,hlen,DM,_,_⟩
 ·exact⟨[],cD.one (.nil sz),(fun x hx=>by cases hx),Nat.zero_le _⟩
 have re':=re n hn.symm;rcases Nat.eq_zero_or_pos len with h0|h0
 ·subst h0;exact⟨[],cD.one (.mG sz (some a) cap),(fun x hx=>by cases hx),Nat.zero_le _⟩
 have each:∀i:Fin len,∃y:α,(∃cs',w.cells? base (a.add (i.1*P.cellsOf e)) (P.cellsOf e)=some cs'/\cD w (fun _=>False) (g y) cs')/\ok y:=fun i=>by
  have h1:=DM i.1 i.2;rw[getElem?_eq_getElem (by rw[hlen];exact i.2)] at h1;cases hc:w.cells? base (a.add (i.1*P.cellsOf e)) (P.cellsOf e) with
  | none=>rw[hc] at h1;cases h1
  | some cs' =>
   rw[hc] at h1;obtain⟨y,h3,h4⟩:=re' _ _ h1;exact⟨y,⟨cs',rfl,h3⟩,h4⟩
 obtain⟨cs0,aJ,_⟩:=(Classical.choose_spec (each ⟨0,h0⟩)).1;obtain⟨_,oX,h5⟩:=World.cells?_some aJ;have h6:=h5 0 w4;rw[getElem?_eq_getElem w4,Nat.zero_mul,show(a.add 0).add 0=a from by simp[Addr.add]] at h6;have E:a.spot=none/\a.block<w.heap.size:=by
  unfold World.cell? at h6;cases hh:w.heap[a.block]? with
  | none=>rw[hh] at h6;cases h6
  | some o =>
   rw[hh] at h6;refine⟨?_,?_⟩
   ·cases o with
    | cells c t f =>
     cases hs:a.spot with
     | none=>rfl
     | some q=>simp[hs] at h6
    | _=>cases h6
   rcases Nat.lt_or_ge a.block w.heap.size with h2|h2
   ·exact h2
   rw[Array.getElem?_eq_none h2] at hh;cases hh
 obtain⟨b,o,s⟩:=a;obtain⟨rfl,aa⟩:=E;let l:List α:=ofFn fun i:Fin len=>Classical.choose (each i)
 have iG:l.length=len:=(by simp[l])
 have O:∀i (hi:i<l.length),(∃cs',w.cells? base ((⟨b,o,none⟩:Addr).add (i*P.cellsOf e)) (P.cellsOf e)=some cs'/\cD w (fun _=>False) (g l[i]) cs')/\ok l[i]:=fun i hi=>by
  have:=Classical.choose_spec (each ⟨i,by omega⟩);simpa[l] using this
 refine⟨l,cD.one ?_,fun x hx=>?_,by omega⟩
 ·have key:∀k,k<(l.flatMap g).length->∃u,w.cell? ⟨b,o+k,none⟩=some u/\∀h:k<(l.flatMap g).length,cq w (fun _=>False) (l.flatMap g)[k] u:=fun k hk=>by
   rw[cm hg] at hk;have hi:k/sz<l.length:=Nat.div_lt_of_lt_mul (by rw[Nat.mul_comm];exact hk);have hj:k % sz<sz:=Nat.mod_lt _ Z;have kW:k/sz*sz+k % sz=k:=(by rw[Nat.mul_comm];exact Nat.div_add_mod k sz)
   obtain⟨⟨cs',h1,h2⟩,_⟩:=O _ hi;obtain⟨_,h4,h5⟩:=World.cells?_some h1;have h6:=h5 (k % sz) w4;have U:k % sz<cs'.length:=(by omega)
   rw[getElem?_eq_getElem U,Go.Deep.add_add,rQ,kW,Addr.add_mid] at h6;refine⟨_,h6,fun h=>?_⟩;have h7:=h2.2 (k % sz) (by rw[hg];exact hj) U;have h8:=zo hg hi (getElem?_eq_getElem (show k % sz<(g l[k/sz]).length by rw[hg];exact hj));rw[kW,getElem?_eq_getElem h] at h8;rw[Option.some.inj h8];exact h7
  have I:Value.slice (some ⟨b,o,none⟩) len cap=Value.slice (some ⟨b,o,none⟩) l.length cap:=(by rw[iG])
  rw[I];refine cq.list (L:=fun _=>False) sz (l.flatMap g) l.length b o cap (fun k=>(w.cell? ⟨b,o+k,none⟩).getD undef) (cm hg l) w4 cR aa (fun h=>h.elim) (fun k hk=>?_) (fun k hk=>?_)
  ·obtain⟨u,h1,_⟩:=key k hk;rw[h1];rfl
  obtain⟨u,h1,h2⟩:=key k hk;simp only[h1,Option.getD_some];exact h2 hk
 obtain⟨i,hi,rfl⟩:=mem_iff_getElem.1 hx;exact(O i hi).2
theorem aaY {fuel:Nat} {f0 f1 f2 f3:Field} {E I O U:Type} {g0:E->List D} {g1:I->List D} {g2:O->List D} {g3:U->List D} {k0:E->Prop} {k1:I->Prop} {k2:O->Prop} {k3:U->Prop} {n0 n1 n2 n3:Nat}
  (ht:P.underlying t=some (.struct #[f0,f1,f2,f3])) (hc:P.cellsOf t=n0+n1+n2+n3) (o0:f0.offset=0) (o1:f1.offset=n0) (o2:f2.offset=n0+n1) (o3:f3.offset=n0+n1+n2) (c0:P.cellsOf f0.type=n0) (c1:P.cellsOf f1.type=n1) (c2:P.cellsOf f2.type=n2) (c3:P.cellsOf f3.type=n3)
  (r0:∀n,n+1=fuel->mI n enc P w base sp held f0.type g0 k0) (r1:∀n,n+1=fuel->mI n enc P w base sp held f1.type g1 k1) (r2:∀n,n+1=fuel->mI n enc P w base sp held f2.type g2 k2) (r3:∀n,n+1=fuel->mI n enc P w base sp held f3.type g3 k3) :
  mI fuel enc P w base sp held t (fun a:E × I × O × U=>g0 a.1++(g1 a.2.1++(g2 a.2.2.1++g3 a.2.2.2))) (fun a=>k0 a.1/\k1 a.2.1/\k2 a.2.2.1/\k3 a.2.2.2):=fun cs x h=>by
 obtain⟨xs,n,hn,_,hl,gi,hf⟩:=DataW.trod_struct ht h;have Z:=hf 0 f0 rfl;have e1:=hf 1 f1 rfl;have e2:=hf 2 f2 rfl;have e3:=hf 3 f3 rfl;rw[o0,c0,drop_zero] at Z;rw[o1,c1] at e1;rw[o2,c2] at e2;rw[o3,c3] at e3;have NN:xs.length=4:=gi;rw[getElem?_eq_getElem w4] at Z e1 e2 e3;obtain⟨a0,p0,q0⟩:=r0 n hn.symm _ _ Z;obtain⟨a1,p1,q1⟩:=r1 n hn.symm _ _ e1;obtain⟨a2,p2,q2⟩:=r2 n hn.symm _ _ e2;obtain⟨a3,p3,q3⟩:=r3 n hn.symm _ _ e3;refine⟨(a0,a1,a2,a3),?_,q0,q1,q2,q3⟩;have dy:cs=cs.take n0++((cs.drop n0).take n1++((cs.drop (n0+n1)).take n2++(cs.drop (n0+n1+n2)).take n3)):=by
  rw[take_of_length_le (l:=drop (n0+n1+n2) cs) (by rw[length_drop];omega)];have e1:cs.drop (n0+n1+n2)=(cs.drop (n0+n1)).drop n2:=(by rw[drop_drop])
  have e2:cs.drop (n0+n1)=(cs.drop n0).drop n1:=(by rw[drop_drop])
  rw[e1,take_append_drop,e2,take_append_drop,take_append_drop]
 rw[dy];exact p0.append (p1.append (p2.append p3))

end Go.Proofs.YtbplamgacibdaaaGreatDoor.V
namespace Go.Proofs.YtbplamgacibdaaaGreatDoor.V
open List
open Go.RowKit
variable {P:Program} {C:dG} {G:List (Nat×List Value)} {Q:Exit->St->Prop} {x:St} {ops:Array Oper} {l:List Oper} {o:Oper} {S1 T:List Nat} {fuel i:Nat} {ld:Array Bool}
variable {y:Operand} {t e tt m b k cap:Nat} {B:ah} {kq kn:IntKind} {ts:Array TypeId}
def toEnd(B:ah):ah:={B with cs:=B.cs++replicate (B.size-B.cs.length) .bY}
theorem Wk.toEnd{n:Nat}{l:List (Nat×D)}{S:List ah}{k:Nat}{B:ah}(hk:S[k]?=some B):Wk ⟨n,l,S⟩ ⟨n,l,S.set k (V.toEnd B)⟩:=fun C a w h=>by
 have E:av (S.set k (V.toEnd B))=av S:=by
  unfold av;rw[map_set];have aa:k<S.length:=(List.getElem?_eq_some_iff.1 hk).1;have:(S.map ah.b)[k]'(by simpa using aa)=B.b:=(by rw[getElem_map];rw[(List.getElem?_eq_some_iff.1 hk).2])
  show(S.map ah.b).set k B.b=_;rw[<-this,set_getElem_self]
 have hl:live C.X (S.set k (V.toEnd B))=live C.X S:=(by funext b;unfold live;rw[E])
 refine⟨h.defers,h.size,by simpa only[hl] using h.env,⟨fun B' I=>?_,by rw[E];exact h.own.apart⟩,by simpa only[E] using h.fr,h.ex,h.eV⟩;rw[hl];rcases mem_or_eq_of_mem_set I with I|rfl
 ·exact h.own.at_ B' I
 obtain⟨r0,cur,r1,r2,Z,U⟩:=h.own.at_ B (mem_of_getElem? hk);have key:∀i (hi:i<(B.cs++replicate (B.size-B.cs.length) D.bY).length),∃u,cur[i]?=some u/\cq w (live C.X S) (B.cs++replicate (B.size-B.cs.length) D.bY)[i] u:=fun i hi=>by
  have O:=hi;rw[length_append,length_replicate] at O;rcases Nat.lt_or_ge i B.cs.length with q|q
  ·obtain⟨u,hu,hq⟩:=U i q;exact⟨u,hu,by rw[getElem_append_left q];exact hq⟩
  exact⟨cur[i]'w4,Array.getElem?_eq_getElem w4,by rw[getElem_append_right q,getElem_replicate];exact .bY _⟩
 refine⟨r0,cur,r1,r2,?_,key⟩;show(B.cs++replicate (B.size-B.cs.length) D.bY).length<=B.size;rw[length_append,length_replicate];omega
theorem adH {d:Operand} {t2 m2 c b2 k2 od oy c2:Nat} {B2:ah} {new cs':List D} (ho:o.op = .call {callee:=.builtin .copy,args:=#[d,y],argTypes:=#[t,t2]}) (hd:o.dst=some tt)
  (ht:P.underlying t=some (.slice e)) (hi:(P.info? e).map (fun i=>i.size)=some 1)
  (hs:aG x d = .v (.slice (some ⟨b,od,none⟩) m c)) (hk:x.S[k]?=some B) (hb:B.b=b) (hy:aG x y = .v (.slice (some ⟨b2,oy,none⟩) m2 c2)) (eD:x.S[k2]?=some B2) (jz:B2.b=b2)
  (O:(B2.cs.drop oy).take (Nat.min m2 m)=new) (hlen:new.length=Nat.min m2 m) (jm:∀d∈new,one d=true) (hl:od+new.length<=B.cs.length) (dy:dh B.cs od new=cs') (hne:isMap B.e=false:=by rfl) (ku:isMap B2.e=false:=by rfl) :
  fU P G x o [b] (fun y=>y=⟨x.n,(tt,.v (.int .i64 (new.length:Nat)))::x.env,x.S.set k {B with cs:=cs'}⟩):=fun C a w K Q hG h hK=>by
 subst dy hb jz;obtain⟨h0,cur,q1,q2,q3,q4⟩:=h.fJ hk;rw[kM hne] at q1;obtain⟨h02,om,p1,p2,p3,p4⟩:=h.fJ eD;rw[kM ku] at p1;have fX:∀j,(hj:j<new.length)->∃oC:oy+j<B2.cs.length,new[j]=B2.cs[oy+j]:=fun j hj=>by
  have h2:oy+j<B2.cs.length:=by
   have:=congrArg length O;rw[length_take,length_drop] at this;omega
  refine⟨h2,?_⟩;have e2:new[j]?=some B2.cs[oy+j]:=(by rw[<-O,getElem?_take,if_pos w4,getElem?_drop,getElem?_eq_getElem h2])
  rw[getElem?_eq_getElem hj] at e2;exact Option.some.inj e2
 let vs:List Value:=(range new.length).map fun j=>om.getD (oy+j) undef
 have E:vs.length=new.length:=(by simp[vs])
 have hv:∀j (hj:j<new.length),∃u,om[oy+j]?=some u/\vs[j]?=some u/\cq w (live C.X x.S) new[j] u:=fun j hj=>by
  obtain⟨h1,h3⟩:=fX j hj;obtain⟨u,I,hq⟩:=p4 (oy+j) h1;refine⟨u,I,?_,h3 ▸ hq⟩;simp[vs,hj,I]
 have hr:cD w (live C.X x.S) new vs:=⟨by rw[E],fun j h1 h2=>by
  obtain⟨u,_,I,hq⟩:=hv j h1;rw[getElem?_eq_getElem h2] at I;rw[Option.some.inj I];exact hq⟩
 obtain⟨s1,s2,s3⟩:=h.store (hne:=hne) hk hr (o':=od) hl;have Z:=run_copy_cells (P:=P) w t t2 o.type e B.b od m c ⟨B2.b,oy,none⟩ m2 c2 vs ht hi (by rw[E,hlen]) (fun j u I=>by
   rw[Addr.add_mid];have hj:j<new.length:=(by rw[<-E];exact(List.getElem?_eq_some_iff.1 I).1)
   obtain⟨u',yw,yx,_⟩:=hv j hj;rw[yx] at I;rw[<-I];exact oE p1 yw) (fun j hj=>by
   have:od+j<cur.size:=(by rw[E] at hj;omega)
   rw[oE q1 (u:=cur[od+j]) (by simp[this])];rfl) (fun j hj=>by unfold World.frozen?;simp[q1]) (fun u I=>by
   obtain⟨j,hj,rfl⟩:=mem_iff_getElem.1 I;have kD:j<new.length:=(by omega)
   exact(hr.2 j kD hj).BA (jm _ (getElem_mem kD)))
 have U:(execOp a.eval o).run P w = .ok (.value (goInt vs.length)) (w.setCells B.b od vs):=by
  unfold execOp;simp only[ho,resolve,invoke,builtin,Sem.run_bind,Sem.run_pure,Result.andThen_ok,map_toArray,map_cons,map_nil,h.flat hs,h.flat hy,Z]
 unfold Oper.wp;rw[U,Oper.upon_value,hd];exact hK _ _ _ rfl (s1.put (by rw[E];exact .v _)) s2 s3
theorem OD.copy {d y:Operand} {t t2 e tt m I c b b2 k k2 od oy O:Nat} {B B2:ah} {new cs':List D} (hw:cj ops x o true) (ho:o.op = .call {callee:=.builtin .copy,args:=#[d,y],argTypes:=#[t,t2]}) (hd:o.dst=some tt)
  (ht:P.underlying t=some (.slice e)) (hi:(P.info? e).map (fun i=>i.size)=some 1)
  (hs:aG x d = .v (.slice (some ⟨b,od,none⟩) m c)) (hk:x.S[k]?=some B) (hb:B.b=b) (hy:aG x y = .v (.slice (some ⟨b2,oy,none⟩) I O)) (eD:x.S[k2]?=some B2) (jz:B2.b=b2)
  (E:(B2.cs.drop oy).take (Nat.min I m)=new) (hlen:new.length=Nat.min I m) (jm:∀d∈new,one d=true) (hl:od+new.length<=B.cs.length) (dy:dh B.cs od new=cs')
  (K:OD P C ops l ⟨x.n,(tt,.v (.int .i64 (new.length:Nat)))::x.env,x.S.set k {B with cs:=cs'}⟩ Q) (hne:isMap B.e=false:=by rfl) (ku:isMap B2.e=false:=by rfl):OD P C ops (o::l) x Q :=
 OD.gj hw (adH (hne:=hne) (ku:=ku) ho hd ht hi hs hk hb hy eD jz E hlen jm hl dy) fun y hy=>hy ▸ K
theorem aaz {s:Operand} {tn n bytes:Nat} {z:Value} (ho:o.op = .call {callee:=.builtin .append,args:=#[s,y],argTypes:=#[t,tn]}) (hd:o.dst=some tt)
  (ht:P.underlying t=some (.slice e)) (jK:P.underlying tn=some (.int kn)) (hi:(P.info? e).map (fun i=>(i.zero,i.size,i.bytes))=some (some z,1,bytes)) (fa:z.cells.size=1)
  (hs:aG x s = .v (.slice (some ⟨b,0,none⟩) n cap)) (hk:x.S[k]?=some B) (hb:B.b=b) (hl:n<=B.cs.length) (hy:aG x y = .v (.int kq m)) (hg:cap<n+m) (h0:0<m) (ie:n+m<=maxLen) (O:(n+m)*bytes<=140737488355328) (hne:isMap B.e=false:=by rfl) (ku:isMap e=false:=by rfl) :
  fU P G x o [] (fun y=>∃b' E,n+m<=E/\E<=maxLen/\y=⟨x.n,(tt,.v (.slice (some ⟨b',0,none⟩) (n+m) E))::x.env,⟨b',e,E*1,B.cs.take n⟩::x.S⟩):=fun C a w K Q hG h hK=>by
 subst hb;obtain⟨i,lC,lP,pI,qo⟩:=zm hi;obtain⟨r0,cur,r1,r2,r3,r4⟩:=h.fJ hk;rw[kM hne] at r1;have fj:n<=cur.size:=(by omega)
 have hold:(Builtin.firstCells i.size n (.slice (some ⟨B.b,0,none⟩) n cap)).run P w.drew = .ok (cur.toList.take n).toArray w.drew:=by
  rw[pI];exact run_firstCells_some w.drew 1 n ⟨B.b,0,none⟩ n cap (cur.toList.take n) iF (fun j v hj=>by
   rw[Addr.add_mid];rw[getElem?_take] at hj;split at hj
   ·rw[Array.getElem?_toList] at hj;have:w.drew.heap[B.b]?=some (.cells cur B.e (0,0)):=r1;exact oE this (by rw[Nat.zero_add];exact hj)
   cases hj)
 have I:=Lib.run_append_grow_zeros (P:=P) w t tn o.type e i z kq kn ht jK lC lP (some ⟨B.b,0,none⟩) n cap _ hold m h0 w4 hg (by simp only[maxLen] at ie;omega) (by rw[qo];exact Nat.le_trans (Nat.mul_le_mul_right _ (Nat.le_add_left m n)) w4) (by rw[qo];exact growslice_fits hg O);have h1:=grownCap_ge w (n+m) cap e;have h2:=grownCap_le_maxLen w (n+m) cap e ie;generalize grownCap w (n+m) cap e=E at I h1 h2;generalize Z:(cur.toList.take n).toArray++Builtin.zeroCells z.cells m++Builtin.zeroCells z.cells (E-(n+m))=U at I;have yH:∀q,(Builtin.zeroCells z.cells q).size=q:=fun q=>by
  obtain⟨u,hu⟩:∃u,z.cells = #[u]:=by
   have:z.cells.toList.length=1:=(by simpa using fa)
   obtain⟨u,hu⟩:=length_eq_one_iff.1 this;exact⟨u,by rw[<-Array.toArray_toList (xs:=z.cells),hu]⟩
  simp[Builtin.zeroCells,hu]
 have jh:U.size=E*1:=by
  rw[<-Z,Array.size_append,Array.size_append,yH,yH];simp;omega
 have LH:(execOp a.eval o).run P w = .ok (.value (.slice (some ⟨w.heap.size,0,none⟩) (n+m) E)) (w.drew.alloc (.cells U e)):=by
  unfold execOp;simp only[ho,resolve,invoke,builtin,Sem.run_bind,Sem.run_pure,Result.andThen_ok,map_toArray,map_cons,map_nil,h.flat hs,h.flat hy,I]
 obtain⟨s1,s2,s3⟩:=h.grown (w':=w.drew.alloc (.cells U e)) (t:=tt) (m:=n+m) (e:=e) (sz:=1) (S:=x.S) (cs:=B.cs.take n) (row:=none) (g:=w.heap.size) (cap:=E) (cur:=U) (hne:=ku) (Sublist.refl _) (fun k hk=>by cases hk)
  ⟨rfl,rfl,rfl,by show w.heap.size<=(w.heap.push _).size;simp,fun k hk _=>getElem?_push_lt (w:=w.drew) hk⟩ (.inr rfl) L9 Ma jh pC (fun j hj=>by
   have kD:j<n:=(by rw[length_take] at hj;omega)
   obtain⟨u,hu,hq⟩:=r4 j w4;refine⟨u,?_,by rw[getElem_take];exact hq⟩;rw[<-Z,Array.append_assoc,Array.getElem?_append_left iF];simp[kD,hu])
 unfold Oper.wp;rw[LH,Oper.upon_value,hd];exact hK _ _ _ ⟨_,_,h1,h2,rfl⟩ s1 s2 s3
theorem OD.T5 {s:Operand} {Z n bytes:Nat} {z:Value} (hw:cj ops x o true) (ho:o.op = .call {callee:=.builtin .append,args:=#[s,y],argTypes:=#[t,Z]}) (hd:o.dst=some tt)
  (ht:P.underlying t=some (.slice e)) (jK:P.underlying Z=some (.int kn)) (hi:(P.info? e).map (fun i=>(i.zero,i.size,i.bytes))=some (some z,1,bytes)) (fa:z.cells.size=1)
  (hs:aG x s = .v (.slice (some ⟨b,0,none⟩) n cap)) (hk:x.S[k]?=some B) (hb:B.b=b) (hl:n<=B.cs.length) (hy:aG x y = .v (.int kq m)) (hg:cap<n+m) (h0:0<m) (U:n+m<=maxLen) (I:(n+m)*bytes<=140737488355328)
  (K:∀O E,n+m<=E->E<=maxLen->OD P C ops l ⟨x.n,(tt,.v (.slice (some ⟨O,0,none⟩) (n+m) E))::x.env,⟨O,e,E*1,B.cs.take n⟩::x.S⟩ Q) (hne:isMap B.e=false:=by rfl) (ku:isMap e=false:=by rfl):OD P C ops (o::l) x Q :=
 OD.gj hw (aaz (hne:=hne) (ku:=ku) ho hd ht jK hi fa hs hk hb hl hy hg h0 U I) fun y ⟨O,E,h1,h2,hy⟩=>hy ▸ K O E h1 h2
theorem aal {f:FuncId} {fn:Func} {z:Operand} {r oy c b2 oz m2 c2 k2:Nat} {B2:ah} (ho:o.op = .call {callee:=.value (.func f),args:=#[y,z],argTypes:=ts}) (hd:o.dst=some tt)
  (hf : P.funcs[f]? = some fn) (Ch : (fn.name == "runtime.NumGoroutine") = false) (HW : fn.body.isNone = true) (hn : Extern.findNext fn = none) (he : Extern.find fn = some (Extern.SlicesOverlaps.overlaps #[t, t] #[r])) (ht : P.underlying t = some (.slice e)) (mv : ∀ w, (sizeOf e).run P w = .ok 1 w)
  (hy:aG x y = .v (.slice (some ⟨b,oy,none⟩) m c)) (hk:x.S[k]?=some B) (hb:B.b=b) (hz:aG x z = .v (.slice (some ⟨b2,oz,none⟩) m2 c2)) (eD:x.S[k2]?=some B2) (jz:B2.b=b2) (kW:k≠k2) (uP:B2.size≠0) (hne:isMap B.e=false:=by rfl) (ku:isMap B2.e=false:=by rfl) :
  fU P G x o [] (fun s=>s=x.put tt (.v (.bool false))):=fun C a w K Q hG h hK=>by
 subst hb jz;obtain⟨r0,cur,r1,r2,r3,r4⟩:=h.fJ hk;rw[kM hne] at r1;obtain⟨p0,om,p1,p2,p3,p4⟩:=h.fJ eD;rw[kM ku] at p1;have Zd:B.b≠B2.b:=fun e=>by
  have hnd:=h.own.apart;have l1:=(List.getElem?_eq_some_iff.1 hk).1;have l2:=(List.getElem?_eq_some_iff.1 eD).1;have e1:(av x.S)[k]?=some B.b:=(by unfold av;rw[getElem?_map,hk];rfl)
  have e2:(av x.S)[k2]?=some B2.b:=(by unfold av;rw[getElem?_map,eD];rfl)
  obtain⟨q1,e1⟩:=List.getElem?_eq_some_iff.1 e1;obtain⟨q2,e2⟩:=List.getElem?_eq_some_iff.1 e2;rcases Nat.lt_trichotomy k k2 with q|q|q
  ·exact pairwise_iff_getElem.1 hnd k k2 q1 q2 q (by rw[e1,e2,e])
  ·exact kW q
  exact pairwise_iff_getElem.1 hnd k2 k q2 q1 q (by rw[e1,e2,e])
 have hc:(callFunc f #[a.eval y,a.eval z]).run P w = .ok (.value (.bool false)) w:=by
  rw[h.flat hy,h.flat hz,run_callFunc_extern hf Ch HW hn he,Lib.run_overlaps_apart w t r e ht 1 mv ⟨B.b,oy,none⟩ ⟨B2.b,oz,none⟩ m c m2 c2 Zd B.e B2.e cur.size om.size (by simp[World.shape?,r1]) (by simp[World.shape?,p1]) w4 (by unfold World.frozen?;simp[r1]) (by unfold World.frozen?;simp[r1])];rfl
 unfold Oper.wp;have oh:(execOp a.eval o).run P w = .ok (.value (.bool false)) w:=by
  unfold execOp;have ef:a.eval (.func f) = .func (.func f) #[] #[]:=rfl;simp only[ho,resolve,ef,Deferred.ofValue,Sem.run_bind,Sem.run_pure,Result.andThen_ok,invoke];simp[hc]
 rw[oh,Oper.upon_value,hd];exact hK _ _ _ rfl (h.put (.v _)) (mq.refl _ _) (Fr.refl _ _)
theorem OD.overlaps {f:FuncId} {fn:Func} {y z:Operand} {ts:Array TypeId} {t r e tt b oy m c b2 oz m2 c2 k k2:Nat} {B B2:ah} (hw:cj ops x o true) (ho:o.op = .call {callee:=.value (.func f),args:=#[y,z],argTypes:=ts}) (hd:o.dst=some tt)
  (hf : P.funcs[f]? = some fn) (Ch : (fn.name == "runtime.NumGoroutine") = false) (HW : fn.body.isNone = true) (hn : Extern.findNext fn = none) (he : Extern.find fn = some (Extern.SlicesOverlaps.overlaps #[t, t] #[r])) (ht : P.underlying t = some (.slice e)) (mv : ∀ w, (sizeOf e).run P w = .ok 1 w)
  (hy:aG x y = .v (.slice (some ⟨b,oy,none⟩) m c)) (hk:x.S[k]?=some B) (hb:B.b=b) (hz:aG x z = .v (.slice (some ⟨b2,oz,none⟩) m2 c2)) (eD:x.S[k2]?=some B2) (jz:B2.b=b2) (kW:k≠k2) (uP:B2.size≠0)
  (K:OD P C ops l (x.put tt (.v (.bool false))) Q) (hne:isMap B.e=false:=by rfl) (ku:isMap B2.e=false:=by rfl):OD P C ops (o::l) x Q :=
 OD.gj hw (aal (hne:=hne) (ku:=ku) ho hd hf Ch HW hn he ht mv hy hk hb hz eD jz kW uP) fun y hy=>hy ▸ K
theorem EW {t e:TypeId} {ad:Option Addr} {len:Nat} (ho:o.op = .call {callee:=.builtin .cap,args:=#[y],argTypes:=ts}) (ht:ts = #[t]) (hy:aG x y = .v (.slice ad len cap))
  (E:∀w,(underlying t).run P w = .ok (.slice e) w):bX P G x o .none (.v (.int .i64 cap)):=fun C a w _ h=>⟨_,.v _,fun w' _=>by
 subst ht;unfold execOp;simp[ho,resolve,invoke,builtin,Builtin.cap_,h.flat hy,E,goInt]⟩

end Go.Proofs.YtbplamgacibdaaaGreatDoor.V
namespace Go.Proofs.YtbplamgacibdaaaGreatDoor.V

open List
open Go.RowKit
variable {P:Program} {C:dG} {G:List (Nat×List Value)} {Q:Exit->St->Prop} {x:St} {ops:Array Oper} {l:List Oper} {o:Oper}
variable {t e:TypeId} {cap sz n tt bytes:Nat} {k2 k3:IntKind} {y hi E:Operand} {ad:Option Addr} {Sq:List ah}
theorem aam {b len:Nat} (ho:o.op = .slice t y none (some hi) (some E)) (hy:aG x y = .v (.slice (some ⟨b,0,none⟩) len cap)) (eL:aG x hi = .v (.int k2 n)) (cR:aG x E = .v (.int k3 n))
  (I:∀w,(underlying t).run P w = .ok (.slice e) w) (hs:∀w,(sizeOf e).run P w = .ok sz w) (h3:n<=cap):bX P G x o .none (.v (.slice (some ⟨b,0,none⟩) n n)):=fun C a w _ h =>
 ⟨_,.v _,fun w' _=>by
  have b3:∀w,(Instr.sliceBounds true len cap none (some (.int k2 n)) (some (.int k3 n))).run P w = .ok (0,n,n) w:=fun w=>by
   unfold Instr.sliceBounds;simp[EG,h3]
  unfold execOp;simp only[ho,h.flat hy,h.flat eL,h.flat cR,Instr.sliceAt,Instr.slice,I,Sem.run_bind,Result.andThen_ok,Option.map_some,Option.map_none,b3,hs,Sem.run_pure];by_cases hc:n=0
  ·rw[if_pos hc];simp
  rw[if_neg hc];simp[Addr.add]⟩
theorem afd(len cap n:Nat)(h3:n<=cap)(w:World):(Instr.sliceBounds true len cap none (some (.int k2 n)) (some (.int k3 n))).run P w = .ok (0,n,n) w:=by
 unfold Instr.sliceBounds;simp[EG,h3]
theorem Z8 (ho:o.op = .slice t y none (some hi) (some E)) (hy:aG x y = .v (.slice none 0 0)) (eL:aG x hi = .v (.int k2 n)) (cR:aG x E = .v (.int k3 n)) (hn:n=0)
  (I:∀w,(underlying t).run P w = .ok (.slice e) w) (hs:∀w,(sizeOf e).run P w = .ok sz w):bX P G x o .none (.v (.slice none 0 0)):=fun C a w _ h =>
 ⟨_,.v _,fun w' _=>by
  have b3:=fun w=>afd (P:=P) (k2:=k2) (k3:=k3) 0 0 n w4 w;unfold execOp;simp only[ho,h.flat hy,h.flat eL,h.flat cR,Instr.sliceAt,Instr.slice,I,Sem.run_bind,Result.andThen_ok,Option.map_some,Option.map_none,b3,hs,Sem.run_pure];subst hn;simp⟩
theorem Z9 {s:Operand} {t e m b k:Nat} {z:Value} {B:ah} {cs:List D} (ho:o.op = .call {callee:=.builtin .append,args:=#[s,y],argTypes:=#[t,t]}) (hd:o.dst=some tt)
  (ht:P.underlying t=some (.slice e)) (hi:(P.info? e).map (fun i=>(i.zero,i.size,i.bytes))=some (some z,sz,bytes)) (fa:z.cells.size=sz) (jh:0<sz)
  (hs:aG x s = .v (.slice (some ⟨b,0,none⟩) n n)) (hk:x.S[k]?=some B) (hb:B.b=b) (hl:n*sz<=B.cs.length)
  (hy:aG x y = .list sz cs m) (jm:∀d∈cs,one d=true) (apG:∀d∈B.cs.take (n*sz),one d=true) (hm:0<m) (ie:n+m<=maxLen) (agS:(n+m)*bytes<=140737488355328) (hne:isMap B.e=false:=by rfl) (ku:isMap e=false:=by rfl) :
  fU P G x o [] (fun y=>∃b' E,n+m<=E/\E<=maxLen/\y=⟨x.n,(tt,.v (.slice (some ⟨b',0,none⟩) (n+m) E))::x.env,⟨b',e,E*sz,B.cs.take (n*sz)++cs⟩::x.S⟩):=fun C a w K Q hG h hK=>by
 subst hb;obtain⟨i,lC,lP,pI,qo⟩:=zm hi;obtain⟨r0,cur,r1,r2,r3,r4⟩:=h.fJ hk;rw[kM hne] at r1;have hr:=h.eval y;rw[hy] at hr;generalize hg:a.eval y=u at hr;cases hr with
 | mG=>omega
 | list _ _ _ b' o' E f mu q1 q2 ke hL hc AX =>
  have ajR:Builtin.nextslicecap (n+m) n*bytes<=281474976710656:=by
   have q1:=nextslicecap_le (need:=n+m) (old:=n) w4;have q2:=Nat.mul_le_mul_right bytes q1;rw[Nat.mul_assoc] at q2;omega
  have I:=Go.run_append_grow (P:=P) (w:=w) t o.type e i z ht lC lP ⟨B.b,0,none⟩ n n (cur.toList.take (n*sz)) (by rw[pI];simp;omega) (fun j v hv=>by
    have hj:=(List.getElem?_eq_some_iff.1 hv).1;rw[length_take] at hj;rw[getElem?_take_of_lt w4,Array.getElem?_toList] at hv;rw[Addr.add_mid,Nat.zero_add];exact oE r1 hv) ⟨b',o',none⟩ m E ((range cs.length).map f) (by rw[pI];simp[mu]) (fun j u hu=>by
    rw[Addr.add_mid];obtain⟨hj,he⟩:=List.getElem?_eq_some_iff.1 hu;simp only[length_map,length_range] at hj;rw[hc j hj,<-he];simp) w4 (by simp only[maxLen] at ie;omega) (by rw[qo];exact ajR)
  have h1:=grownCap_ge w (n+m) n e;have h2:=grownCap_le_maxLen w (n+m) n e ie;generalize grownCap w (n+m) n e=cp at I h1 h2;generalize O:(cur.toList.take (n*sz)).toArray++((range cs.length).map f).toArray++Builtin.zeroCells z.cells (cp-(n+m))=Z at I;have yH:∀q,(Builtin.zeroCells z.cells q).size=q*sz:=fun q=>by simp[Builtin.zeroCells,fa]
  have aa:(cur.toList.take (n*sz)).length=n*sz:=(by rw[length_take];simp;omega)
  have CL:Z.size=cp*sz:=by
   rw[<-O,Array.size_append,Array.size_append,yH];simp only[size_toArray,aa,length_map,length_range,mu,<-Nat.add_mul];congr 1;omega
  have Ze:(B.cs.take (n*sz)++cs).length=(n+m)*sz:=(by rw[length_append,length_take,mu,Nat.add_mul];omega)
  obtain⟨s1,s2,s3⟩:=h.grown (w':=w.drew.alloc (.cells Z e)) (t:=tt) (m:=n+m) (e:=e) (sz:=sz) (S:=x.S) (cs:=B.cs.take (n*sz)++cs) (row:=none) (g:=w.heap.size) (cap:=cp) (cur:=Z) (hne:=ku) (Sublist.refl _) (fun k hk=>by cases hk)
   ⟨rfl,rfl,rfl,by show w.heap.size<=(w.heap.push _).size;simp,fun k hk _=>getElem?_push_lt (w:=w.drew) hk⟩ (.inr rfl) L9 Ma CL (by rw[Ze];exact Nat.mul_le_mul_right _ h1) (fun j hj=>by
    rw[Ze,Nat.add_mul] at hj;by_cases fX:j<n*sz
    ·obtain⟨u,hu,hq⟩:=r4 j w4;refine⟨u,?_,?_⟩
     ·rw[<-O,Array.getElem?_append_left (by simp[aa];omega),Array.getElem?_append_left (by simp[aa];omega),getElem?_toArray,getElem?_take_of_lt fX,Array.getElem?_toList,hu]
     rw[getElem_append_left pC,getElem_take];exact hq
    have U:j-n*sz<cs.length:=(by omega)
    refine⟨f (j-n*sz),?_,?_⟩
    ·rw[<-O,Array.getElem?_append_left (by simp[aa];omega),Array.getElem?_append_right (by simp[aa];omega)];simp[aa,U]
    rw[getElem_append_right pC];have:=AX (j-n*sz) U;have e1:(B.cs.take (n*sz)).length=n*sz:=(by rw[length_take];omega)
    simp only[e1];exact this)
  unfold Oper.wp;rw[Bl (P:=P) ho (h.flat hs) hg I,Oper.upon_value,hd];exact hK _ _ _ ⟨_,_,h1,h2,rfl⟩ s1 s2 s3
theorem aaa {len:Nat} {cs:List D} (O:bn e sz cs len ad cap Sq) (ho:o.op = .slice t y none (some hi) (some E)) (hy:aG x y = .v (.slice ad len cap)) (eL:aG x hi = .v (.int k2 n)) (cR:aG x E = .v (.int k3 n))
  (I:∀w,(underlying t).run P w = .ok (.slice e) w) (hs:∀w,(sizeOf e).run P w = .ok sz w) (hn:n<=len):bX P G x o .none (.v (.slice ad n n)):=by
 rcases O with ⟨rfl,rfl,rfl,rfl,rfl⟩|⟨b,rfl,h1,h2,rfl⟩
 ·have h:=Z8 (P:=P) (G:=G) ho hy eL cR w4 I hs;obtain rfl:n=0:=(by omega)
  exact h
 exact aam ho hy eL cR I hs w4
theorem OD.aaZ {α:Type} {g:α->List D} {ls new:List α} {s:Operand} {t e:Nat} {z:Value} {R:List ah} (hg:∀a,(g a).length=sz) (hg1:∀a,(g a).all one=true) (hw:cj ops x o true) (ho:o.op = .call {callee:=.builtin .append,args:=#[s,y],argTypes:=#[t,t]}) (hd:o.dst=some tt)
  (ht:P.underlying t=some (.slice e)) (hi:(P.info? e).map (fun i=>(i.zero,i.size,i.bytes))=some (some z,sz,bytes)) (fa:z.cells.size=sz) (U:0<sz)
  (hs:aG x s = .v (.slice ad n n)) (hO:bn e sz (ls.flatMap g) ls.length ad cap Sq) (hp:x.S.Perm (Sq++R)) (hn:n<=ls.length)
  (hy:aG x y = .list sz (new.flatMap g) new.length) (hm:0<new.length) (Z:n+new.length<=maxLen) (I:(n+new.length)*bytes<=140737488355328)
  (K:∀O E,(ls.take n++new).length<=E->E<=maxLen->OD P C ops l ⟨x.n,(tt,.v (.slice (some ⟨O,0,none⟩) (ls.take n++new).length E))::x.env,⟨O,e,E*sz,(ls.take n++new).flatMap g⟩::R⟩ Q) (hne:isMap e=false:=by rfl):OD P C ops (o::l) x Q:=by
 have hlen:(ls.take n++new).length=n+new.length:=(by rw[length_append,length_take];omega)
 rcases hO with ⟨h1,h2,rfl,rfl,rfl⟩|⟨b,rfl,h1,h2,rfl⟩
 ·have Zf:ls=[]:=length_eq_zero_iff.1 h1;subst Zf;obtain rfl:n=0:=(by simpa using hn)
  refine OD.eG (hne:=hne) (ls:=([]:List α)) (new:=new) (Sq:=[]) (R:=R) (ad:=none) (cap:=0) hg hg1 hw ho hd ht hi fa U hs (.inl ⟨rfl,rfl,rfl,rfl,rfl⟩) hp hy hm (by simpa using Z) (by simpa using I) ?_;intro O E q1 q2;exact K O E (by simpa using q1) q2
 refine OD.perm hp ?_;refine OD.gj (fun C a w h=>hw C a w (Wk.perm hp.symm C a w h)) (Z9 (hne:=hne) (ku:=hne) (k:=0) ho hd ht hi fa U hs rfl rfl (by rw[cm hg];exact Nat.mul_le_mul_right _ hn) hy (sF hg1 new) (by rw[sC hg];exact sF hg1 _) hm Z I) ?_;rintro _ ⟨O,E,q1,q2,rfl⟩;have k:=K O E (by rw[hlen];exact q1) q2;rw[hlen,flatMap_append,<-sC hg] at k;exact OD.wk (Wk.drop _ _ _ _ (Sublist.cons_cons _ (Sublist.cons _ (Sublist.refl _)))) k
variable {S1 T:List Nat} {fuel i:Nat} {ld:Array Bool}
theorem bC.pn {α:Type} {g:α->List D} {ls new:List α} {s:Operand} {t e:Nat} {z:Value} {R:List ah} (hg:∀a,(g a).length=sz) (hg1:∀a,(g a).all one=true) (U:ops[i]?=some o) (hw:cj ops x o true) (ho:o.op = .call {callee:=.builtin .append,args:=#[s,y],argTypes:=#[t,t]}) (hd:o.dst=some tt)
  (ht:P.underlying t=some (.slice e)) (hi:(P.info? e).map (fun i=>(i.zero,i.size,i.bytes))=some (some z,sz,bytes)) (fa:z.cells.size=sz) (jh:0<sz) (hu:∀w,(underlying t).run P w = .ok (.slice e) w) (Dz:∀w,(sizeOf e).run P w = .ok sz w)
  (hs:aG x s = .v (.slice ad ls.length cap)) (O:bn e sz (ls.flatMap g) ls.length ad cap Sq) (hp:x.S.Perm (Sq++R))
  (hy:aG x y = .list sz (new.flatMap g) new.length) (ie:ls.length+new.length<=maxLen) (I:(ls.length+new.length)*bytes<=140737488355328)
  (K:∀Z E S',bn e sz ((ls++new).flatMap g) (ls++new).length Z E S'->AD P C ops S1 T fuel (ld.setIfInBounds i true) ⟨x.n,(tt,.v (.slice Z (ls++new).length E))::x.env,S'++R⟩ Q) (hne:isMap e=false:=by rfl)
  (hT:∀b∈T,b∈av R:=by (intro b hb;simp[av] at hb |-;try first|exact hb|omega)):bC P C ops S1 T fuel ld x Q i:=by
 rcases Nat.eq_zero_or_pos new.length with h0|h0
 ·have hn:new=[]:=eq_nil_of_length_eq_zero h0;subst hn;refine bC.still U hw hd (PM ho hu Dz hs O.le hy) ?_;have:=K ad cap Sq (by rw[append_nil];exact O);rw[append_nil] at this;exact AD.perm hp this
 exact bC.eG (hne:=hne) (hT:=hT) hg hg1 U hw ho hd ht hi fa jh hs O hp hy h0 ie I fun b' E h1 h2=>K _ E _ (bJ h1 h2)

end Go.Proofs.YtbplamgacibdaaaGreatDoor.V
namespace Go.Proofs.YtbplamgacibdaaaGreatDoor.V
open List
open Go.RowKit
variable {P:Program} {C:dG} {G:List (Nat×List Value)} {Q:Exit->St->Prop} {x:St} {ops:Array Oper} {l:List Oper} {o:Oper} {S1 T:List Nat} {fuel i:Nat} {ld:Array Bool}
variable {L:Nat->Prop} {bs:List UInt8} {n:Nat}
theorem PW{w w':World}{v:Value}(hr:cq w L (.list 1 (bs.flatMap cB) n) v)(hw:∀b,b<w.heap.size->¬L b->w'.heap[b]?=w.heap[b]?) :
  (Extern.Bytes.bytesOf v).run P w' = .ok ⟨bs.toArray⟩ w':=by
 rw[K3] at hr;generalize dy:bs.map vA=cs at hr;cases hr with
 | mG _ ad cap =>
  have:bs=[]:=(by simpa using dy)
  subst this;cases ad<;>rfl
 | list _ _ _ b I cap g hl q1 q2 hb hL hc U =>
  subst dy;simp only[length_map,Nat.mul_one] at hl hc;have E:=Lib.run_loadBytesX (P:=P) w' (bs.map fun c=>(c.toNat:Int)) ⟨b,I,none⟩ .empty (fun j x hj=>by
   rw[Addr.add_mid];have O:j<bs.length:=(by have:=(List.getElem?_eq_some_iff.1 hj).1;simpa using this)
   have Z:=World.cell?_of_block (w:=w) (a:=⟨b,I+j,none⟩) (hw b hb hL);rw[Z,hc j O];have h1:=U j (by simpa using O);simp only[getElem_map,vA] at h1;rw[h1.lj];rw[getElem?_map,getElem?_eq_getElem O] at hj;simp only[Option.map_some,Option.some.injEq] at hj;rw[hj])
  rw[length_map,hl] at E;have e:Lib.bytesOf (bs.map fun c=>(c.toNat:Int))=bs:=by
   unfold Lib.bytesOf;rw[map_map];have:∀c:UInt8,((fun n:Int=>UInt8.ofNat n.toNat) ∘ fun c:UInt8=>(c.toNat:Int)) c=c:=fun c=>by simp
   rw[map_congr_left (g:=id) (fun c _=>this c),map_id]
  rw[e] at E;show(Extern.Bytes.loadBytes ⟨b,I,none⟩ n .empty).run P w'=_;rw[E];congr 1;apply ByteArray.ext;show(#[]:Array UInt8)++bs.toArray=bs.toArray;simp
theorem Z3 {f:FuncId} {fn:Func} {y z:Operand} {ts:Array TypeId} {ds:List UInt8} {m:Nat} (ho:o.op = .call {callee:=.value (.func f),args:=#[y,z],argTypes:=ts}) (hy:aG x y = .list 1 (ds.flatMap cB) n) (hz:aG x z = .list 1 (bs.flatMap cB) m)
  (hf : P.funcs[f]? = some fn) (Ch : (fn.name == "runtime.NumGoroutine") = false) (hb : fn.body.isNone = true) (hn : Extern.findNext fn = none) (he : Extern.find fn = some Extern.BytealgCompare.compare) :
  bX P G x o .kC (.v (.int .i64 (Lib.compareBytes ds bs))):=fun C a w _ h=>by
 have h1:=h.eval y;have h2:=h.eval z;rw[hy] at h1;rw[hz] at h2;refine⟨_,.v _,fun w' hw=>?_⟩;have e1:=PW (P:=P) h1 hw;have e2:=PW (P:=P) h2 hw;have hc:(callFunc f #[a.eval y,a.eval z]).run P w' = .ok (.value (.int .i64 (Lib.compareBytes ds bs))) w':=by
  rw[run_callFunc_extern hf Ch hb hn he];have:(Extern.BytealgCompare.compare #[a.eval y,a.eval z]).run P w' = .ok (.int .i64 (Lib.compareBytes ds bs)) w':=by
   change Sem.run P (do pure (goInt (Extern.BytealgCompare.cmp (<-Extern.Bytes.bytesOf (a.eval y)) (<-Extern.Bytes.bytesOf (a.eval z))))) w'=_;simp only[Sem.run_bind,e1,e2,Sem.run_pure,Result.andThen_ok,Lib.cmp_eq];rfl
  rw[this];rfl
 unfold execOp;have ef:a.eval (.func f) = .func (.func f) #[] #[]:=rfl;generalize Oc:a.eval y=u at *;generalize yz:a.eval z=v at *;simp only[ho,resolve,ef,Deferred.ofValue,Sem.run_bind,Sem.run_pure,Result.andThen_ok,invoke];simp[hc,Oc,yz]
theorem Wk.agU{l:List (Nat×D)}{S:List ah}{k:Nat}{B:ah}{cs':List D}(hk:S[k]?=some B)(hl:cs'.length<=B.size)(hc:∀(i:Nat) (d:D),cs'[i]?=some d->∃d0,B.cs[i]?=some d0/\∀(w:World) (L:Nat->Prop) (v:Value),cq w L d0 v->cq w L d v):Wk ⟨n,l,S⟩ ⟨n,l,S.set k {B with cs:=cs'}⟩:=fun C a w h=>by
 have eo:=(List.getElem?_eq_some_iff.1 hk).1;have U:=(List.getElem?_eq_some_iff.1 hk).2;have E:av (S.set k {B with cs:=cs'})=av S:=by
  unfold av;rw[map_set];apply ext_getElem bq;intro i q1 q2;rw[getElem_set];split
  ·rename_i e;subst e;simp[U]
  rfl
 have I:live C.X (S.set k {B with cs:=cs'})=live C.X S:=(by funext b;simp only[live,E])
 refine⟨h.defers,h.size,fun t ht=>?_,⟨fun B' Z=>?_,?_⟩,?_,h.ex,h.eV⟩
 ·simp only[I];exact h.env t ht
 ·simp only[I];obtain⟨j,hj,O⟩:=mem_iff_getElem.1 Z;rw[length_set] at hj;rw[getElem_set] at O;by_cases e:k=j
  ·rw[if_pos e] at O;subst O;obtain⟨r0,cur,r1,r2,r3,r4⟩:=h.own.at_ B (mem_of_getElem? hk);refine⟨r0,cur,r1,r2,hl,fun i hi=>?_⟩;simp only at hi hl;obtain⟨d0,hd,AX⟩:=hc i _ (getElem?_eq_getElem hi);obtain⟨hd1,hd2⟩:=List.getElem?_eq_some_iff.1 hd;obtain⟨u,hu,hq⟩:=r4 i hd1;rw[hd2] at hq;exact⟨u,hu,AX _ _ _ hq⟩
  rw[if_neg e] at O;subst O;exact h.own.at_ _ (getElem_mem hj)
 ·simp only[E];exact h.own.apart
 simp only[E];exact h.fr
theorem cq.ofNil{w:World}(sz:Nat){v:Value}(h:cq w L (.v (.slice none 0 0)) v):cq w L (.list sz [] 0) v:=by rw[h.lj];exact .nil sz
theorem Wk.W8{l:List (Nat×D)}{S:List ah}{k:Nat}{b e:Nat}{sz sz':Nat}(hk:S[k]?=some ⟨b,e,2,[.v (.slice none 0 0),.v (.slice none 0 0)]⟩):Wk ⟨n,l,S⟩ ⟨n,l,S.set k ⟨b,e,2,[.list sz [] 0,.list sz' [] 0]⟩⟩ :=
 Wk.agU hk bq fun i d hd=>by
  match i,hd with
  | 0,hd=>cases hd;exact⟨_,rfl,fun _ _ _ h=>h.ofNil sz⟩
  | 1,hd=>cases hd;exact⟨_,rfl,fun _ _ _ h=>h.ofNil sz'⟩
  | i+2,hd=>simp at hd
theorem agV {α:Type} {g:α->List D} {t e:TypeId} {sz l' h':Nat} {lo hi:Option Operand} (hg:∀a,(g a).length=sz) {ls:List α} (e9:lo=none->l'=0) (eL:hi=none->h'=ls.length)
  (E:∀w,(underlying t).run P w = .ok (.slice e) w) (hs:∀w,(sizeOf e).run P w = .ok sz w) (h1:l'<=h') (h2:h'<=ls.length):Rs P G t lo hi l' h' (.list sz (ls.flatMap g) ls.length) (.list sz (((ls.take h').drop l').flatMap g) ((ls.take h').drop l').length):=by
 have h:=mz (P:=P) (G:=G) (sz:=sz) (cs:=ls.flatMap g) e9 eL E hs h1 h2;rw[vk hg,sC hg,<-drop_take] at h;rw[show((ls.take h').drop l').length=h'-l' by rw[length_drop,length_take];omega];exact h

theorem VC.args{f:FuncId}{cs bs:List D}{S:List ah}{post:D->List ah->Prop}(h:VC P G f cs S post)(hl:bs.length=cs.length)(hr:∀(w:World) (L:Nat->Prop) (i:Nat) (h1:i<cs.length) (h2:i<bs.length) (v:Value),cq w L bs[i] v->cq w L cs[i] v):VC P G f bs S post:=fun X w vs hp=>by
 refine h X w vs ⟨hp.ex,hp.eV,hp.own,?_,fun i h1 h2=>?_⟩
 ·rw[hp.args.1,hl]
 exact hr w _ i h1 w4 _ (hp.args.2 i w4 h2)

end Go.Proofs.YtbplamgacibdaaaGreatDoor.V
namespace Go.Proofs.YtbplamgacibdaaaGreatDoor.V

open List
abbrev ae(x:Int):D:=.v (.int .i64 x)
abbrev cY(b:Nat):D:=.v (.pointer (some ⟨b,0,none⟩))
abbrev cc:D:=.v (.slice none 0 0)
abbrev gh:D:=.v (.string ⟨#[]⟩)
abbrev aT(a:Option Addr)(n c:Nat):D:=.v (.slice a n c)
abbrev bg(s:ByteArray):D:=.v (.string s)
abbrev bP(b:Bool):D:=.v (.bool b)
abbrev ap{α:Type}(n:Nat)(g:α->List D)(l:List α):D:=.list n (l.flatMap g) l.length
theorem dI:maxLen=9223372036854775807:=rfl

end Go.Proofs.YtbplamgacibdaaaGreatDoor.V
