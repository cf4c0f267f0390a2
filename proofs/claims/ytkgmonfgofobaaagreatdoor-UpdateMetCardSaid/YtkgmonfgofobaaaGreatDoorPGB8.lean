/-
  GB: walks and plain facts, part 8.
-/
import Derived.Test.YtkgmonfgofobaaaGreatDoorPGB7
set_option linter.unusedVariables false
set_option linter.unusedSimpArgs false
set_option maxRecDepth 100000
set_option maxHeartbeats 4000000
namespace Go.Proofs.YtkgmonfgofobaaaGreatDoor.Ba
open List
open Go.Proofs.Tryz
open Go.RowKit V Pk Tr Vl Go.Proofs.YtkgmonfgofobaaaGreatDoor.Nm Pc Cd Ex Tw Go.Proofs.YtkgmonfgofobaaaGreatDoor.So
open Pa (bJ bj)
variable {G:List (Nat×List Value)} {m:Int}
variable {i cap:Nat} {ad:Option Addr}
abbrev ie(bo:Nat)(ad:Option Addr)(n cap:Nat):ah:=⟨bo,25,1,[aN ad n cap]⟩
def gF(s:bJ):aH:=⟨s.table,s.ay,[],qc⟩
def xG(s:bJ):aU:=⟨gF s,[],none,0,[],[]⟩
theorem afO(s:bJ):qt (xG s):=⟨[],rfl,rfl,(fun o h=>by cases h),rfl,iz⟩
def qy(l:List aH)(s:bJ):List aH×Int:=if 0≤aT l s.table then (l,9) else if l.length=4 then (l,10) else (l++[gF s],0)
def Gj(l:List aH)(bo:Nat)(S:List ah):Prop:=∃(L:List aU) (ad:Option Addr) (cap:Nat) (Sx:List ah),xE L ad cap Sx∧(∀o∈L,okW o)∧L.map aU.t=l∧S.Perm (ie bo ad L.length cap::(Sx++L.flatMap bT))
theorem aaN:(Tryz.prog.info? 77).map (fun i=>(i.zero,i.size,i.bytes))=some (some (.agg #[.string ⟨#[]⟩,.slice none 0 0,.slice none 0 0,.slice none 0 0,.int .i64 0]),5,96):=by kernel_rfl
theorem acj(L:List aU)(aV:∀o∈L,qt o)(hL:L.length≤4)(s:bJ)(ku:s.ay.length≤1000)(bo:Nat)(ad:Option Addr)(cap:Nat)(Sx:List ah)(O:xE L ad cap Sx):VC Tryz.prog G 54 [cU bo,.agg (bj s)] (ie bo ad L.length cap::(Sx++L.flatMap bT)) (fun r S=>r=ae (qy (L.map aU.t) s).2∧((qy (L.map aU.t) s).2=0→Gj (qy (L.map aU.t) s).1 bo S)):=by
 refine VC.body func54 rfl ntmps54 aQ fun X0 w0 bf=>?_;have cY:=dN;have U:=fun o ho=>(aV o ho).w;have fx:=qF (G:=G) (L.map aU.t) Ae s.table
 (first|rw[length_map] at fx|(unfold au at fx;rw[length_map] at fx))
 unfold bj;refine bS ?_;refine OD.box (ds:=[_,_,_,_,_,_,_,_,_,_,_,_]) ap rfl rfl ot rfl rfl (fun b3=>?_);refine an 37 [0,3] ?_;refine cM [0,3,5] ?_;refine mG 6 ?_;refine zN (fx) (ha:=by exact⟨⟨_,ot,(FQ O U (fun B hB=>by repeat (first|exact hB|apply mem_append_right|apply mem_cons_of_mem)))⟩,⟨_,ot,eO⟩,trivial⟩) (K:=?_);refine bD ?_;refine ax ?_ ?_<;>intro aO bA
 ·have h0:0≤aT (L.map aU.t) s.table:=(by simpa using aO)
  have aW:qy (L.map aU.t) s=(L.map aU.t,9):=if_pos h0;refine af [4] ?_;exact Hf
 have h0:¬0≤aT (L.map aU.t) s.table:=(by simpa using aO)
 refine af [0,3,14] ?_;refine ax ?_ ?_<;>intro aY cz
 ·have h4:L.length=4:=(by have:=aY;simp at this;omega)
  have aW:qy (L.map aU.t) s=(L.map aU.t,10):=(by unfold qy;rw[if_neg h0,if_pos (by rw[length_map];exact h4)])
  refine af [4] ?_;exact Hf
 have h4:¬L.length=4:=(by have:=aY;simp at this;omega)
 have aW:qy (L.map aU.t) s=(L.map aU.t++[gF s],0):=(by unfold qy;rw[if_neg h0,if_neg (by rw[length_map];exact h4)])
 have py:=agY (G:=G);refine CD.skip ?_;refine CD.seq ?_;refine nD 13 [21,25,33] ?_;refine cJ (Qg s.ay w4) ?_;refine cJ (py) ?_;refine bD ?_;refine OD.eB (ls:=L) (new:=[xG s]) (Sq:=Sx) uZ UY ap rfl rfl underlying23 aaN rfl w8 ot O (oT (A:=[_,_])) ot bq nB nC (fun I E Z alA=>?_);refine OD.perm (kf (S1:=[⟨I,77,E*5,flatMap gT (L++[xG s])⟩]) (A:=[_,_])) ?_;refine aG 2 ?_;refine aM 1 [_] sizeOf23 ?_;refine an 37 [] ?_;refine af [4] ?_;refine aK (⟨bo,25,1,[_]⟩::([⟨I,77,E*5,flatMap gT (L++[xG s])⟩]++L.flatMap bT)) ?_;rw[aW];exact⟨rfl,fun _=>⟨L++[xG s],some ⟨I,0,none⟩,E,[⟨I,77,E*5,flatMap gT (L++[xG s])⟩],bM Z alA,(fun o ho=>by rcases mem_append.1 ho with ho|ho;exact U o ho;rw[mem_singleton] at ho;subst ho;exact(afO s).w),by rw[map_append];rfl,by rw[TV,show bT (xG s)=[] from rfl,append_nil]⟩⟩

noncomputable def gd(l:List aH)(s:bJ):List aH×((List (List Vl)×Int)×Int) :=
 if s.kind=1 then ((qy l s).1,(([],0),(qy l s).2))
 else if aT l s.table<0 then (l,(([],0),8))
 else if s.kind=3 then (l.set (aT l s.table).toNat (gB (l.getD (aT l s.table).toNat (gF s)) s.row).1,(([],1),(gB (l.getD (aT l s.table).toNat (gF s)) s.row).2))
 else if s.kind=4 then (l,lW (l.getD (aT l s.table).toNat (gF s)) s)
 else if s.kind=5 then (l.set (aT l s.table).toNat (eN (l.getD (aT l s.table).toNat (gF s)) s).1,(([],(eN (l.getD (aT l s.table).toNat (gF s)) s).2.1),(eN (l.getD (aT l s.table).toNat (gF s)) s).2.2))
 else (l.set (aT l s.table).toNat (mP (l.getD (aT l s.table).toNat (gF s)) s.aj).1,(([],(mP (l.getD (aT l s.table).toNat (gF s)) s.aj).2.1),(mP (l.getD (aT l s.table).toNat (gF s)) s.aj).2.2))
theorem Pn:∀(c:List D) {S:List ah},gE S c c
 | [],_=>trivial
 | _::c,_=>⟨eO,Pn c⟩
theorem aea(L:List aU)(h:i<L.length):L.flatMap gT=(L.take i).flatMap gT++(gT L[i]++(L.drop (i+1)).flatMap gT):=by
 conv=>lhs;rw[←take_append_drop i L,drop_eq_getElem_cons h]
 rw[flatMap_append,flatMap_cons]
theorem ahk(L:List aU)(h:i<L.length)(o:aU):(L.set i o).flatMap gT=(L.take i).flatMap gT++(gT o++(L.drop (i+1)).flatMap gT):=by
 rw[set_eq_take_append_cons_drop,if_pos h,flatMap_append,flatMap_cons]
theorem KQ(f:ah→Nat):∀(L:List aU) (i:Nat) (o:aU) (h:i<L.length),(((L.set i o).flatMap bT).map f).sum=((bT o).map f).sum+(((L.eraseIdx i).flatMap bT).map f).sum
 | [],_,_,h=>absurd h (Nat.not_lt_zero _)
 | x::L,0,o,_=>by simp
 | x::L,i+1,o,h=>by
  have:=KQ f L i o (Nat.lt_of_succ_lt_succ h);simp only[set_cons_succ,flatMap_cons,map_append,sum_append,eraseIdx_cons_succ,this];omega
theorem I1{A:List ah}{L:List aU}{bx z:Nat}(h:i<L.length):(A++([(⟨bx,77,z,L.flatMap gT⟩:ah)]++L.flatMap bT)).Perm (A++((⟨bx,77,z,(L.take i).flatMap gT++(gT L[i]++(L.drop (i+1)).flatMap gT)⟩:ah)::(bT L[i]++(L.eraseIdx i).flatMap bT))):=by
 rw[←aea L h];exact jK fun f=>by
  have:=KQ f L i L[i] h;rw[set_getElem_self] at this;simp only[map_cons,sum_cons,map_append,sum_append,map_nil,sum_nil,this];omega
theorem Ko{L:List aU}{bx E:Nat}(h:i<L.length)(h1:L.length≤cap)(h2:cap≤maxLen)(aV:∀o∈L,okW o){o:aU}(ho:okW o){S:List ah}(hS:S.Perm (ie E (some ⟨bx,0,none⟩) L.length cap::((⟨bx,77,cap*5,(L.take i).flatMap gT++(gT o++(L.drop (i+1)).flatMap gT)⟩::bT o)++(L.eraseIdx i).flatMap bT))):Gj ((L.map aU.t).set i o.t) E S:=by
 refine⟨L.set i o,some ⟨bx,0,none⟩,cap,[⟨bx,77,cap*5,(L.set i o).flatMap gT⟩],bM (by rw[length_set];exact h1) h2,fun x hx=>?_,by rw[map_set],?_⟩
 ·rcases mem_or_eq_of_mem_set hx with hx|hx
  ·exact aV x hx
  rw[hx];exact ho
 rw[length_set,ahk L h];refine hS.trans (jK fun f=>?_);have:=KQ f L i o h;simp only[map_cons,sum_cons,map_append,sum_append,map_nil,sum_nil,this];omega
theorem T9{t:aH}{E:List ah}(h:vy t ad cap E):okW ⟨t,t.rows.flatMap gl,ad,cap,E,[]⟩:=⟨h,fun S _=>Pn _⟩
theorem aeb{t:aH}{L:List cf}{E:List ah}(h:GM t L ad cap E):okW ⟨t,L.flatMap gR,ad,cap,E,L.flatMap bR⟩:=qt.w ⟨L,rfl,rfl,h.2.1,h.1,h.2.2⟩
theorem Po{o:aU}(h:qt o):∃U,vy o.t o.ad o.cap U∧∀(n:Nat) (env:List (Nat×D)) (A R:List ah),Wk ⟨n,env,A++(bT o++R)⟩ ⟨n,env,A++(U++R)⟩:=by
 obtain⟨L,h1,h2,h3,h4,h5⟩:=h;have Z:=Fu (S:=L.flatMap bR) h3 (fun B h=>h);have E:L.length=o.t.rows.length:=(by rw[←h4];(first|rw[length_map]|(unfold au;rw[length_map])))
 rcases h5 with ⟨e1,e2,I,O,e5⟩|⟨b,e1,e2,I,O⟩
 ·have hL:L=[]:=length_eq_zero_iff.1 e1;subst hL;have hr:o.t.rows=[]:=(by rw[←h4];rfl)
  refine⟨[],.inl ⟨by rw[hr];rfl,by rw[hr];rfl,I,O,rfl⟩,fun n env A R=>?_⟩;have hb:bT o=[]:=(by unfold bT;rw[e5,h2];rfl)
  rw[hb];exact Wk.refl _
 refine⟨[⟨b,43,o.cap*1,o.t.rows.flatMap gl⟩],.inr ⟨b,e1,by rw[←E];exact e2,I,rfl⟩,fun n env A R=>?_⟩;have hb:bT o=⟨b,43,o.cap*1,L.flatMap gR⟩::L.flatMap bR:=(by unfold bT;rw[O,h2];rfl)
 rw[hb,←h4];have hc:=Wk.cover (n:=n) (l:=env) (S:=A++((⟨b,43,o.cap*1,L.flatMap gR⟩::L.flatMap bR)++R)) (A:=⟨b,43,o.cap*1,L.flatMap gR⟩) (R:=A++R) (Sd:=L.flatMap bR) (cs':=(L.map cf.r).flatMap gl) (jK fun f=>by simp only[map_cons,sum_cons,map_append,sum_append,map_nil,sum_nil];omega) Z;refine hc.trans (Wk.perm (jK fun f=>by simp only[map_cons,sum_cons,map_append,sum_append,map_nil,sum_nil];omega))
theorem ahl(hm:(3,marksC)∈G)(hw:(1,wordsC)∈G)(ht:(0,typesC)∈G)(hG:(2,[Value.int .i64 m])∈G)(L:List aU)(aV:∀o∈L,qt o)(hL:L.length≤4)(hg:∀o∈L,∃n,n≤260∧dB o.t n)(s:bJ)(fF:¬s.kind=2)(ku:s.ay.length≤1000)(rm:s.row.length≤1000)(L9:∀v∈s.row,v.Ok)(pI:s.names.length≤1000)(ho:∀o∈s.aj,o.nm.size≤maxLen)(fT:∀o∈s.aj,o.v.Ok)(rq:∀o∈s.bN,o.nm.size≤maxLen)(GO:∀o∈s.bN,o.v.Ok)(I:Nat)(ad:Option Addr)(cap:Nat)(Sx:List ah)(Z:xE L ad cap Sx):VC Tryz.prog G 30 [cU I,.agg (bj s)] (ie I ad L.length cap::(Sx++L.flatMap bT)) (fun r S=>r=AU (gd (L.map aU.t) s).2∧((gd (L.map aU.t) s).2.2=0→Gj (gd (L.map aU.t) s).1 I S)):=by
 refine VC.body func30 rfl ntmps30 aQ fun X0 w0 bf=>?_;have cY:=dN;have O:=fun o ho=>(aV o ho).w;have fx:=qF (G:=G) (L.map aU.t) Ae s.table
 (first|rw[length_map] at fx|(unfold au at fx;rw[length_map] at fx))
 have qU:=wz (fun t:aH=>t.nm.toList==s.table.toList) (L.map aU.t);rw[show dA (fun t:aH=>t.nm.toList==s.table.toList) (L.map aU.t)=(aT (L.map aU.t) s.table) from rfl,length_map] at qU;refine bS ?_;refine OD.box (ds:=[_,_,_,_,_,_,_,_,_,_,_,_]) ap rfl rfl ot rfl rfl (fun b3=>?_);refine OD.alloc (ds:=[_,_]) ap rfl rfl zeroValue39 rfl (fun b4=>?_);refine aG 1 ?_;first|refine OD.cells (k:=0) (cs':=[.list 1 [] 0,_]) rfl ⟨ey,cq,trivial⟩ rfl ?_|skip
 refine an 87 [0,3,4] ?_;refine af [0,3,4,14] ?_;refine ax ?_ ?_<;>intro aO bA
 ·have dL:s.kind=1:=(by simpa using aO)
  have aW:gd (L.map aU.t) s=((qy (L.map aU.t) s).1,(([],0),(qy (L.map aU.t) s).2)):=(by unfold gd;rw[if_pos dL])
  refine aA 3 ?_;refine OD.call (Sf:=ie I ad L.length cap::(Sx++L.flatMap bT)) (R:=[⟨b4,39,2,[.list 1 [] 0,ae 0]⟩,⟨b3,46,12,bj s⟩]) ap rfl rfl rfl call54 (acj L aV hL s ku I ad cap Sx Z) ⟨ot,ot,trivial⟩ (show(⟨b4,39,2,[.list 1 [] 0,ae 0]⟩::⟨b3,46,12,bj s⟩::ie I ad L.length cap::(Sx++L.flatMap bT):List ah).Perm (ie I ad L.length cap::(Sx++L.flatMap bT)++[⟨b4,39,2,[.list 1 [] 0,ae 0]⟩,⟨b3,46,12,bj s⟩]) from(jK fun mC=>by simp only[map_append,map_cons,map_nil,sum_append,sum_cons,sum_nil];omega)) ?_;rintro _ U ⟨rfl,h9⟩;refine OD.perm (S':=⟨b4,39,2,[.list 1 [] 0,ae 0]⟩::⟨b3,46,12,bj s⟩::U) (show(U++[⟨b4,39,2,[.list 1 [] 0,ae 0]⟩,⟨b3,46,12,bj s⟩]:List ah).Perm _ from(jK fun mC=>by simp only[map_append,map_cons,map_nil,sum_append,sum_cons,sum_nil];omega)) ?_;refine aM 0 [_,_] sizeOf39 ?_;refine aG 1 ?_;first|refine OD.cells (k:=0) (cs':=[.list 1 [] 0,_]) rfl ⟨ey,cq,trivial⟩ rfl ?_|skip
  refine an 87 [4,5] ?_;refine aK U ?_;rw[aW];exact⟨rfl,fun h=>h9 h⟩
 have dL:¬s.kind=1:=(by simpa using aO)
 refine cM [0,3,4,6] ?_;refine mG 6 ?_;refine zN (fx) (ha:=by exact⟨⟨_,ot,(FQ Z O (fun B hB=>by repeat (first|exact hB|apply mem_append_right|apply mem_cons_of_mem)))⟩,⟨_,ot,eO⟩,trivial⟩) (K:=?_);refine bD ?_;refine af [0,3,4,6,27] ?_;refine ax ?_ ?_<;>intro aY cz
 ·have h0:(aT (L.map aU.t) s.table)<0:=(by simpa using aY)
  have aW:gd (L.map aU.t) s=(L.map aU.t,(([],0),8)):=(by unfold gd;rw[if_neg dL,if_pos h0])
  refine aA 1 ?_;refine aM 0 [_,_] sizeOf39 ?_;refine aG 1 ?_;first|refine OD.cells (k:=0) (cs':=[.list 1 [] 0,_]) rfl ⟨ey,cq,trivial⟩ rfl ?_|skip
  refine an 87 [4,5] ?_;exact Hf
 have h0:¬(aT (L.map aU.t) s.table)<0:=(by simpa using aY)
 have E:(aT (L.map aU.t) s.table).toNat<L.length:=(by omega)
 obtain⟨bx,rfl,ji,pF,rfl⟩:=Z.pos w4;have jt:(L.map aU.t).getD (aT (L.map aU.t) s.table).toNat (gF s)=(L[(aT (L.map aU.t) s.table).toNat]'E).t:=(by rw[getD_eq_getElem?_getD,getElem?_map,getElem?_eq_getElem E];rfl)
 refine cM [0,3,4,6,7] ?_;refine aP 5 ?_ (h:=by exact(dw 5 (h:=by first|exact .l (j:=(aT (L.map aU.t) s.table).toNat) (Int.toNat_of_nonneg w4).symm E|exact .r (j:=(aT (L.map aU.t) s.table).toNat) (Int.toNat_of_nonneg w4).symm E)));refine bD ?_;refine af [0,3,4,6,7,36] ?_;refine af [0,3,4,6,7,36,37] ?_;refine ax ?_ ?_<;>intro cc cN
 ·exact absurd cc (by exact absurd (by simpa using cc) fF)
 refine af [3,4,7,36,51] ?_;refine ax ?_ ?_<;>intro cQ ek
 ·have mb:s.kind=3:=(by simpa using cQ)
  have aW:gd (L.map aU.t) s=((L.map aU.t).set (aT (L.map aU.t) s.table).toNat (gB (L[(aT (L.map aU.t) s.table).toNat]'E).t s.row).1,(([],1),(gB (L[(aT (L.map aU.t) s.table).toNat]'E).t s.row).2)):=(by unfold gd;rw[jt,if_neg dL,if_neg h0,if_pos mb])
  obtain⟨n,hn,g⟩:=hg (L[(aT (L.map aU.t) s.table).toNat]'E) (getElem_mem E);obtain⟨Sg,Oo,jJ⟩:=Po (aV (L[(aT (L.map aU.t) s.table).toNat]'E) (getElem_mem E));refine CD.perm (I1 (A:=[_,_,_]) E) ?_;refine CD.wk (jJ _ _ [_,_,_,_] _) ?_;refine aA 4 ?_
  refine OD.call (Sf:=(⟨bx,77,cap*5,(L.take (aT (L.map aU.t) s.table).toNat).flatMap gT++(gT (L[(aT (L.map aU.t) s.table).toNat]'E)++(L.drop ((aT (L.map aU.t) s.table).toNat+1)).flatMap gT)⟩:ah)::Sg) (R:=⟨b4,39,2,[.list 1 [] 0,ae 0]⟩::⟨b3,46,12,bj s⟩::ie I (some ⟨bx,0,none⟩) L.length cap::((L.eraseIdx (aT (L.map aU.t) s.table).toNat).flatMap bT)) ap rfl rfl rfl call56 (IW hm hw ht hG (L[(aT (L.map aU.t) s.table).toNat]'E).t g w4 s.row rm L9 bx (0+(aT (L.map aU.t) s.table).toNat*5) (cap*5) ((L.take (aT (L.map aU.t) s.table).toNat).flatMap gT) ((L.drop ((aT (L.map aU.t) s.table).toNat+1)).flatMap gT) MV (L[(aT (L.map aU.t) s.table).toNat]'E).ad (L[(aT (L.map aU.t) s.table).toNat]'E).cap Sg Oo) ⟨ot,ot,trivial⟩ (show(⟨b4,39,2,[.list 1 [] 0,ae 0]⟩::⟨b3,46,12,bj s⟩::ie I (some ⟨bx,0,none⟩) L.length cap::(⟨bx,77,cap*5,(L.take (aT (L.map aU.t) s.table).toNat).flatMap gT++(gT (L[(aT (L.map aU.t) s.table).toNat]'E)++(L.drop ((aT (L.map aU.t) s.table).toNat+1)).flatMap gT)⟩:ah)::(Sg++(L.eraseIdx (aT (L.map aU.t) s.table).toNat).flatMap bT):List ah).Perm (((⟨bx,77,cap*5,(L.take (aT (L.map aU.t) s.table).toNat).flatMap gT++(gT (L[(aT (L.map aU.t) s.table).toNat]'E)++(L.drop ((aT (L.map aU.t) s.table).toNat+1)).flatMap gT)⟩:ah)::Sg)++(⟨b4,39,2,[.list 1 [] 0,ae 0]⟩::⟨b3,46,12,bj s⟩::ie I (some ⟨bx,0,none⟩) L.length cap::((L.eraseIdx (aT (L.map aU.t) s.table).toNat).flatMap bT))) from(jK fun mC=>by simp only[map_append,map_cons,map_nil,sum_append,sum_cons,sum_nil];omega)) ?_
  rintro _ U ⟨rfl,h9⟩;refine OD.perm (S':=⟨b4,39,2,[.list 1 [] 0,ae 0]⟩::⟨b3,46,12,bj s⟩::ie I (some ⟨bx,0,none⟩) L.length cap::(U++(L.eraseIdx (aT (L.map aU.t) s.table).toNat).flatMap bT)) (show(U++(⟨b4,39,2,[.list 1 [] 0,ae 0]⟩::⟨b3,46,12,bj s⟩::ie I (some ⟨bx,0,none⟩) L.length cap::((L.eraseIdx (aT (L.map aU.t) s.table).toNat).flatMap bT)):List ah).Perm _ from(jK fun mC=>by simp only[map_append,map_cons,map_nil,sum_append,sum_cons,sum_nil];omega)) ?_;refine aM 0 [_,_] sizeOf39 ?_;refine aG 1 ?_;first|refine OD.cells (k:=0) (cs':=[.list 1 [] 0,_]) rfl ⟨ey,cq,trivial⟩ rfl ?_|skip
  refine an 87 [4,5] ?_;refine aK (ie I (some ⟨bx,0,none⟩) L.length cap::(U++(L.eraseIdx (aT (L.map aU.t) s.table).toNat).flatMap bT)) ?_;rw[aW];refine⟨rfl,fun h=>?_⟩;obtain⟨nZ,kJ,oP,Mu,rfl⟩:=h9 h;exact Ko E ji pF O (T9 Mu) (by rw[show bT (⟨_,_,nZ,kJ,oP,[]⟩:aU)=oP from append_nil _];exact Perm.refl _)
 have mb:¬s.kind=3:=(by simpa using cQ)
 refine af [3,4,7,36,58] ?_;refine ax ?_ ?_<;>intro dV fB
 ·have xW:s.kind=4:=(by simpa using dV)
  have aW:gd (L.map aU.t) s=(L.map aU.t,(lW (L[(aT (L.map aU.t) s.table).toNat]'E).t s)):=(by unfold gd;rw[jt,if_neg dL,if_neg h0,if_neg mb,if_pos xW])
  obtain⟨n,hn,g⟩:=hg (L[(aT (L.map aU.t) s.table).toNat]'E) (getElem_mem E);refine CD.seq ?_;refine nD 7 [4,65,66] ?_;refine aP 2 ?_ (h:=by exact(cR (mk:=Op.load 77) rfl ot (dy (k:=3) (i:=(aT (L.map aU.t) s.table).toNat) (ls:=L) uZ rfl rfl rfl isAgg77 sizeOf77 E)));refine mG 1 ?_;refine zM (afN hm hw ht hG (L[(aT (L.map aU.t) s.table).toNat]'E).t g s pI ho fT) (fun r S h=>h.flat) (fun r S h=>(by have h9:=h.view;unfold AU at h9;exact h9)) (ha:=by exact⟨⟨_,ot,(TS (O _ (getElem_mem E)) (fun B hB=>by have h9:=mem_flatMap.2 ⟨_,getElem_mem E,hB⟩;repeat (first|exact h9|apply mem_append_right|apply mem_cons_of_mem)):View _ (.agg (gT (L[(aT (L.map aU.t) s.table).toNat]'E))) _)⟩,⟨_,ot,eO⟩,trivial⟩) (K:=?_);refine bD ?_;refine aM 0 [_,_] sizeOf39 ?_;refine aG 1 ?_;first|refine OD.cells (k:=0) (cs':=[.list 1 [] 0,_]) rfl ⟨ey,cq,trivial⟩ rfl ?_|skip
  refine an 87 [4,5] ?_;refine aK (ie I (some ⟨bx,0,none⟩) L.length cap::([⟨bx,77,cap*5,L.flatMap gT⟩]++L.flatMap bT)) ?_;rw[aW];exact⟨rfl,fun _=>⟨L,_,cap,_,Z,O,rfl,Perm.refl _⟩⟩
 have xW:¬s.kind=4:=(by simpa using dV)
 refine af [3,4,7,67] ?_;refine ax ?_ ?_<;>intro fD gG
 ·have Dm:s.kind=5:=(by simpa using fD)
  have aW:gd (L.map aU.t) s=((L.map aU.t).set (aT (L.map aU.t) s.table).toNat (eN (L[(aT (L.map aU.t) s.table).toNat]'E).t s).1,(([],(eN (L[(aT (L.map aU.t) s.table).toNat]'E).t s).2.1),(eN (L[(aT (L.map aU.t) s.table).toNat]'E).t s).2.2)):=(by unfold gd;rw[jt,if_neg dL,if_neg h0,if_neg mb,if_neg xW,if_pos Dm])
  obtain⟨n,hn,g⟩:=hg (L[(aT (L.map aU.t) s.table).toNat]'E) (getElem_mem E);obtain⟨LR,q1,q2,q3,q4,q5⟩:=aV (L[(aT (L.map aU.t) s.table).toNat]'E) (getElem_mem E);refine CD.perm (I1 (A:=[_,_,_]) E) ?_;refine aA 2 ?_
  refine OD.call (Sf:=(⟨bx,77,cap*5,(L.take (aT (L.map aU.t) s.table).toNat).flatMap gT++(gT (L[(aT (L.map aU.t) s.table).toNat]'E)++(L.drop ((aT (L.map aU.t) s.table).toNat+1)).flatMap gT)⟩:ah)::((L[(aT (L.map aU.t) s.table).toNat]'E).sr++LR.flatMap bR)) (R:=⟨b4,39,2,[.list 1 [] 0,ae 0]⟩::⟨b3,46,12,bj s⟩::ie I (some ⟨bx,0,none⟩) L.length cap::((L.eraseIdx (aT (L.map aU.t) s.table).toNat).flatMap bT)) ap rfl rfl rfl call58 (aci hm hw ht hG (L[(aT (L.map aU.t) s.table).toNat]'E).t g s ho fT rq GO hn bx (0+(aT (L.map aU.t) s.table).toNat*5) (cap*5) ((L.take (aT (L.map aU.t) s.table).toNat).flatMap gT) ((L.drop ((aT (L.map aU.t) s.table).toNat+1)).flatMap gT) MV LR (L[(aT (L.map aU.t) s.table).toNat]'E).ad (L[(aT (L.map aU.t) s.table).toNat]'E).cap (L[(aT (L.map aU.t) s.table).toNat]'E).sr q4 q3 q5) ⟨ot,ot,trivial⟩ (show(⟨b4,39,2,[.list 1 [] 0,ae 0]⟩::⟨b3,46,12,bj s⟩::ie I (some ⟨bx,0,none⟩) L.length cap::(⟨bx,77,cap*5,(L.take (aT (L.map aU.t) s.table).toNat).flatMap gT++(gT (L[(aT (L.map aU.t) s.table).toNat]'E)++(L.drop ((aT (L.map aU.t) s.table).toNat+1)).flatMap gT)⟩:ah)::((bT (L[(aT (L.map aU.t) s.table).toNat]'E))++(L.eraseIdx (aT (L.map aU.t) s.table).toNat).flatMap bT):List ah).Perm (((⟨bx,77,cap*5,(L.take (aT (L.map aU.t) s.table).toNat).flatMap gT++(gT (L[(aT (L.map aU.t) s.table).toNat]'E)++(L.drop ((aT (L.map aU.t) s.table).toNat+1)).flatMap gT)⟩:ah)::((L[(aT (L.map aU.t) s.table).toNat]'E).sr++LR.flatMap bR))++(⟨b4,39,2,[.list 1 [] 0,ae 0]⟩::⟨b3,46,12,bj s⟩::ie I (some ⟨bx,0,none⟩) L.length cap::((L.eraseIdx (aT (L.map aU.t) s.table).toNat).flatMap bT))) from by rw[show bT (L[(aT (L.map aU.t) s.table).toNat]'E)=((L[(aT (L.map aU.t) s.table).toNat]'E).sr++LR.flatMap bR) from by unfold bT;rw[q2]];exact(jK fun mC=>by simp only[map_append,map_cons,map_nil,sum_append,sum_cons,sum_nil];omega)) ?_
  rintro _ U ⟨rfl,h9⟩;refine OD.perm (S':=⟨b4,39,2,[.list 1 [] 0,ae 0]⟩::⟨b3,46,12,bj s⟩::ie I (some ⟨bx,0,none⟩) L.length cap::(U++(L.eraseIdx (aT (L.map aU.t) s.table).toNat).flatMap bT)) (show(U++(⟨b4,39,2,[.list 1 [] 0,ae 0]⟩::⟨b3,46,12,bj s⟩::ie I (some ⟨bx,0,none⟩) L.length cap::((L.eraseIdx (aT (L.map aU.t) s.table).toNat).flatMap bT)):List ah).Perm _ from(jK fun mC=>by simp only[map_append,map_cons,map_nil,sum_append,sum_cons,sum_nil];omega)) ?_;refine an 87 [4,8,9] ?_;refine aA 3 ?_;refine aM 0 [_,_] sizeOf39 ?_;refine aG 1 ?_;first|refine OD.cells (k:=0) (cs':=[.list 1 [] 0,_]) rfl ⟨ey,cq,trivial⟩ rfl ?_|skip
  refine an 87 [4,5] ?_;refine aK (ie I (some ⟨bx,0,none⟩) L.length cap::(U++(L.eraseIdx (aT (L.map aU.t) s.table).toNat).flatMap bT)) ?_;rw[aW];refine⟨rfl,fun h=>?_⟩;obtain⟨L',nZ,kJ,oP,alB,rfl⟩:=h9 h;exact Ko E ji pF O (aeb alB) (Perm.refl _)
 have Dm:¬s.kind=5:=(by simpa using fD)
 have aW:gd (L.map aU.t) s=((L.map aU.t).set (aT (L.map aU.t) s.table).toNat (mP (L[(aT (L.map aU.t) s.table).toNat]'E).t s.aj).1,(([],(mP (L[(aT (L.map aU.t) s.table).toNat]'E).t s.aj).2.1),(mP (L[(aT (L.map aU.t) s.table).toNat]'E).t s.aj).2.2)):=(by unfold gd;rw[jt,if_neg dL,if_neg h0,if_neg mb,if_neg xW,if_neg Dm])
 obtain⟨n,hn,g⟩:=hg (L[(aT (L.map aU.t) s.table).toNat]'E) (getElem_mem E);obtain⟨Sg,Oo,jJ⟩:=Po (aV (L[(aT (L.map aU.t) s.table).toNat]'E) (getElem_mem E));refine CD.perm (I1 (A:=[_,_,_]) E) ?_;refine CD.wk (jJ _ _ [_,_,_,_] _) ?_;refine aA 2 ?_
 refine OD.call (Sf:=(⟨bx,77,cap*5,(L.take (aT (L.map aU.t) s.table).toNat).flatMap gT++(gT (L[(aT (L.map aU.t) s.table).toNat]'E)++(L.drop ((aT (L.map aU.t) s.table).toNat+1)).flatMap gT)⟩:ah)::Sg) (R:=⟨b4,39,2,[.list 1 [] 0,ae 0]⟩::⟨b3,46,12,bj s⟩::ie I (some ⟨bx,0,none⟩) L.length cap::((L.eraseIdx (aT (L.map aU.t) s.table).toNat).flatMap bT)) ap rfl rfl rfl call59 (acf hm hw ht hG (L[(aT (L.map aU.t) s.table).toNat]'E).t g s ho fT bx (0+(aT (L.map aU.t) s.table).toNat*5) (cap*5) ((L.take (aT (L.map aU.t) s.table).toNat).flatMap gT) ((L.drop ((aT (L.map aU.t) s.table).toNat+1)).flatMap gT) MV (L[(aT (L.map aU.t) s.table).toNat]'E).ad (L[(aT (L.map aU.t) s.table).toNat]'E).cap Sg Oo) ⟨ot,ot,trivial⟩ (show(⟨b4,39,2,[.list 1 [] 0,ae 0]⟩::⟨b3,46,12,bj s⟩::ie I (some ⟨bx,0,none⟩) L.length cap::(⟨bx,77,cap*5,(L.take (aT (L.map aU.t) s.table).toNat).flatMap gT++(gT (L[(aT (L.map aU.t) s.table).toNat]'E)++(L.drop ((aT (L.map aU.t) s.table).toNat+1)).flatMap gT)⟩:ah)::(Sg++(L.eraseIdx (aT (L.map aU.t) s.table).toNat).flatMap bT):List ah).Perm (((⟨bx,77,cap*5,(L.take (aT (L.map aU.t) s.table).toNat).flatMap gT++(gT (L[(aT (L.map aU.t) s.table).toNat]'E)++(L.drop ((aT (L.map aU.t) s.table).toNat+1)).flatMap gT)⟩:ah)::Sg)++(⟨b4,39,2,[.list 1 [] 0,ae 0]⟩::⟨b3,46,12,bj s⟩::ie I (some ⟨bx,0,none⟩) L.length cap::((L.eraseIdx (aT (L.map aU.t) s.table).toNat).flatMap bT))) from(jK fun mC=>by simp only[map_append,map_cons,map_nil,sum_append,sum_cons,sum_nil];omega)) ?_
 rintro _ U ⟨rfl,h9⟩;refine OD.perm (S':=⟨b4,39,2,[.list 1 [] 0,ae 0]⟩::⟨b3,46,12,bj s⟩::ie I (some ⟨bx,0,none⟩) L.length cap::(U++(L.eraseIdx (aT (L.map aU.t) s.table).toNat).flatMap bT)) (show(U++(⟨b4,39,2,[.list 1 [] 0,ae 0]⟩::⟨b3,46,12,bj s⟩::ie I (some ⟨bx,0,none⟩) L.length cap::((L.eraseIdx (aT (L.map aU.t) s.table).toNat).flatMap bT)):List ah).Perm _ from(jK fun mC=>by simp only[map_append,map_cons,map_nil,sum_append,sum_cons,sum_nil];omega)) ?_;refine an 87 [4,10,11] ?_;refine aA 3 ?_;refine aM 0 [_,_] sizeOf39 ?_;refine aG 1 ?_;first|refine OD.cells (k:=0) (cs':=[.list 1 [] 0,_]) rfl ⟨ey,cq,trivial⟩ rfl ?_|skip
 refine an 87 [4,5] ?_;refine aK (ie I (some ⟨bx,0,none⟩) L.length cap::(U++(L.eraseIdx (aT (L.map aU.t) s.table).toNat).flatMap bT)) ?_;rw[aW];refine⟨rfl,fun h=>?_⟩;obtain⟨nZ,kJ,oP,Mu,rfl⟩:=h9 h;exact Ko E ji pF O (T9 Mu) (by rw[show bT (⟨_,_,nZ,kJ,oP,[]⟩:aU)=oP from append_nil _];exact Perm.refl _)

end Go.Proofs.YtkgmonfgofobaaaGreatDoor.Ba
namespace Go.Proofs.YtkgmonfgofobaaaGreatDoor.Ba
open List
open Go.Proofs.Tryz
open Go.RowKit V Pk Tr Vl Go.Proofs.YtkgmonfgofobaaaGreatDoor.Nm Pc Cd Ex Tw
open Pa (bJ bj)
variable {G:List (Nat×List Value)} {m:Int}
variable {n:Nat}
def vz(t:aH)(i:Nat):Nat:=((range i).filter fun j=>decide ((t.rows.getD j []).length≠0)).length
theorem EF(t:aH)(i:Nat):vz t (i+1)=vz t i+if (t.rows.getD i []).length≠0 then 1 else 0:=by
 unfold vz;rw[range_succ,filter_append,length_append];congr 1;by_cases h:(t.rows.getD i []).length≠0
 ·rw[if_pos h,filter_cons_of_pos px];rfl
 rw[if_neg h,filter_cons_of_neg px];rfl
theorem U1(t:aH)(i:Nat):vz t i≤i:=by
 unfold vz;exact Nat.le_trans (length_filter_le _ _) (by rw[length_range];exact Nat.le_refl _)
theorem Jy{t:aH}{i:Nat}(h:i<t.rows.length):t.rows.getD i []=t.rows[i]:=by rw[getD_eq_getElem?_getD,getElem?_eq_getElem h];rfl
theorem Ua{t:aH}(g:dB t n):vz t t.rows.length=(eu t.ix).length:=by
 unfold vz;have hA:((eu t.ix).map fun x=>x.2.toNat).Nodup:=by
  have hr:(eu t.ix).Pairwise (fun a b=>bC a.1 b.1):=IT g.ix.val;rw[Nodup,pairwise_map];refine hr.imp_of_mem fun {a b} ha hb h e=>?_;obtain⟨a0,a1,a2,a3⟩:=g.gZ a ha;obtain⟨b0,b1,b2,b3⟩:=g.gZ b hb;refine jV a.1 ?_;have:a.1=b.1:=(by rw[a3,b3];simp only[e])
  rw[←this] at h;exact h
 have Z:((range t.rows.length).filter fun j=>decide ((t.rows.getD j []).length≠0)).Nodup:=List.nodup_range.filter _;have h1:=hA.length_le_of_subset (l₂:=(range t.rows.length).filter fun j=>decide ((t.rows.getD j []).length≠0)) fun i hi=>by
  obtain⟨x,hx,rfl⟩:=mem_map.1 hi;obtain⟨x0,x1,x2,x3⟩:=g.gZ x hx;refine mem_filter.2 ⟨mem_range.2 x1,decide_eq_true ?_⟩;rw[Jy x1];exact fun h=>x2 (length_eq_zero_iff.1 h)
 have h2:=Z.length_le_of_subset (l₂:=(eu t.ix).map fun x=>x.2.toNat) fun i hi=>by
  obtain⟨O,U⟩:=mem_filter.1 hi;have E:=mem_range.1 O;have I:=of_decide_eq_true U;rw[Jy E] at I;exact mem_map.2 ⟨_,(g.row i E (fun h=>I (by rw[h];rfl))).2.2,by simp⟩
 (first|rw[length_map] at h1|(unfold au at h1;rw[length_map] at h1));(first|rw[length_map] at h2|(unfold au at h2;rw[length_map] at h2))
 omega
theorem aec(hm:(3,marksC)∈G)(hw:(1,wordsC)∈G)(ht:(0,typesC)∈G)(hG:(2,[Value.int .i64 m])∈G)(t:aH)(g:dB t n)(pI:t.nm.size≤maxLen):VP Tryz.prog G 45 [.agg (cX t)] (bI true):=by
 refine VC.body func45 rfl ntmps45 aQ fun X0 w0 bf=>?_;have cY:=dN;have mY:=g.eI;have py:=uV (G:=G) hm hw t.nm pI;rw[g.nm] at py;have eV:=Pc.Fl (G:=G) hm hw ht t.ay xL xK;have hco:Pc.fO t.ay=0:=(by rw[g.ay];exact E8)
 rw[hco] at eV;have qw:=afB (G:=G) g.ix;have Z:=TR (G:=G) g.ix;rw[EW] at Z;unfold Tw.cT at qw Z;have Y1:=Ua g;unfold cX;refine bS ?_;refine OD.box (ds:=[_,_,_,_,_]) ap rfl rfl ot rfl rfl (fun b1=>?_);refine an 76 [1] ?_;refine aA 2 ?_;refine dO call82 (py) ?_;refine aG 2 ?_;refine bW 14 (fun E aiR=>?_) (fun E aiR=>?_)
 ·exact absurd E (by simp at E)
 refine aG 2 ?_;refine OD.gQ iq rfl rfl rfl call67 (eV) ⟨ot,trivial⟩ ?_;refine aG 3 ?_;refine bW 20 (fun I K7=>?_) (fun I K7=>?_)
 ·exact absurd I (by simp at I)
 refine aG 6 ?_;refine bW 26 (fun O Lf=>?_) (fun O Lf=>?_)
 ·exact absurd O (by (simp at O;omega))
 refine aG 2 ?_;refine OD.gQ iq rfl rfl rfl call62 (qw) ⟨ot,trivial⟩ ?_;refine an 76 [1,31] ?_;refine ax ?_ ?_<;>intro aO bA
 ·exact zI
 refine af [1,3] ?_;refine af [1,3,33,34,35] ?_;refine CD.block ?_;refine ni (fun (i:Nat) aD=>(i≤t.rows.length)∧aD=(⟨76,[(1,cU b1),(3,ae (vz t i:Nat)),(33,au 1 gl t.rows),(34,ae (t.rows.length:Nat)),(35,ae (i:Nat))],[⟨b1,77,5,cX t⟩]⟩:St)) (fun (i:Nat)=>t.rows.length-i) 0 ⟨(Nat.zero_le _),rfl⟩ (aJ (h:=by repeat (first|exact trivial|refine⟨(by (repeat (first|exact fI|(apply fX;focus (first|rfl|(rw[EF,if_neg zH];rfl)|(rw[EF,if_pos zH];rfl)|(simp;done)|(congr 2;omega)))|(apply fN;focus rfl)));done),?_⟩))) ?_;rintro i _ ⟨hi,rfl⟩;refine af [1,3,33,34,35,36] ?_;refine ax ?_ ?_<;>intro aY cz
 ·have aa:i<t.rows.length:=(by omega)
  have jt:t.rows.getD i []=(t.rows[i]'aa):=Jy aa;have ku:=U1 t i;refine af [1,3,4,5,33,34,35] ?_;refine af [1,3,4,5,33,34,35,42] ?_;refine ax ?_ ?_<;>intro cc cN
  ·have zH:¬(t.rows.getD i []).length≠0:=(by rw[jt];simpa using cc)
   exact Xt
  have zH:(t.rows.getD i []).length≠0:=(by rw[jt];simpa using cc)
  have hne:(t.rows[i]'aa)≠[]:=fun h=>zH (by rw[jt,h];rfl);obtain⟨p1,p2,p3⟩:=g.row i aa hne;have p4:=o8 p1;have yy:=KD (G:=G) hm hw ht t.ay xL xK (t.rows[i]'aa) w4;have YT:Pc.dR t.ay (t.rows[i]'aa)=0:=(by rw[g.ay];exact p1)
  rw[YT] at yy;have hyv:=zf (G:=G) hG (t.rows[i]'aa) w4 w4 p2;have fx:=KL (G:=G) g.ix (cH (t.rows[i]'aa));rw[RN g.ix (wC p1) p3] at fx;unfold Tw.cT at fx;refine af [1,3,4,5,33,34,35] ?_;refine cL [1,3,4,5,33,34,35,49] (yy) ?_;refine ax ?_ ?_<;>intro cQ ek
  ·exact absurd cQ (by simp at cQ)
  refine cM [1,3,4,6,7,33,34,35] ?_;refine cJ (hyv) ?_;refine cJ (fx) ?_;refine bD ?_;refine aA 3 ?_;refine bW 60 (fun U K9=>?_) (fun U K9=>?_)
  ·exact absurd U (by simp at U)
  refine bp [1,3,33,34,35,64] ?_;refine ax ?_ ?_<;>intro dV fB
  ·exact absurd dV (by simp at dV)
  exact Xt
 have um:i=t.rows.length:=(by omega)
 subst um;refine cL [3,8] (Z) ?_;refine af [2] ?_;refine aK [] ?_;refine⟨?_,rfl⟩;first|rfl|(rw[Y1];simp)

structure pX (l:List aH) (n:Nat):Prop where
 eI:l.length≤4
 tb:∀t∈l,dB t n
 sz:∀t∈l,t.nm.size≤maxLen
 HW:l.Pairwise fun a b=>a.nm.toList≠b.nm.toList
theorem pX.no{l:List aH}(g:pX l n){i:Nat}(h:i<l.length):aT (l.take i) l[i].nm<0:=by
 unfold aT;rw[vY (k:=(l.take i).length) w4 (fun x hx=>?_)]
 ·decide
 rw[take_of_length_le (Nat.le_refl _)] at hx;obtain⟨j,hj,rfl⟩:=mem_iff_getElem.1 hx;rw[length_take] at hj;rw[getElem_take];have:=pairwise_iff_getElem.1 g.HW j i w4 h w4;simpa using this
noncomputable def vn(l:List aH)(nm:ByteArray):List (List Vl)×Int:=if aT l nm<0 then ([],8) else ((eu (l.getD (aT l nm).toNat ⟨nm,[],[],qc⟩).ix).map fun x=>rowAt (l.getD (aT l nm).toNat ⟨nm,[],[],qc⟩) x.2,0)
theorem Qq(hm:(3,marksC)∈G)(hw:(1,wordsC)∈G)(ht:(0,typesC)∈G)(hG:(2,[Value.int .i64 m])∈G)(l:List aH)(g:pX l n):VP Tryz.prog G 27 [.agg [au 5 cX (l)]] (ae 0):=by
 refine VC.body func27 rfl ntmps27 aQ fun X0 w0 bf=>?_;have cY:=dN;have U:=g.eI;refine bS ?_;refine OD.box (ds:=[_]) ap rfl rfl ot rfl rfl (fun b1=>?_);refine an 31 [1] ?_;refine af [1,8] ?_;refine ax ?_ ?_<;>intro aO bA
 ·exact absurd aO (by (simp at aO;omega))
 refine af [1,10,11,12] ?_;refine ez [1,10,11] (fun aR _ (i:Nat) aD=>(i≤l.length)∧aD=(⟨31,(12,ae (i:Nat))::aR,[⟨b1,25,1,[au 5 cX (l)]⟩]⟩:St)) (fun (i:Nat)=>l.length-i) 0 ⟨(Nat.zero_le _),rfl⟩ ?_;rintro i _ ⟨hi,rfl⟩;refine af [1,10,11,12,13] ?_;refine ax ?_ ?_<;>intro aY cz
 ·have aa:i<l.length:=(by omega)
  have O:=aec hm hw ht hG (l[i]'aa) (g.tb _ (getElem_mem aa)) (g.sz _ (getElem_mem aa));have fx:=qF (G:=G) (l.take i) pp (l[i]'aa).nm;have lf:=g.no aa;unfold cX at O;refine aA 3 ?_;refine OD.alloc (ds:=[_,_,_,_,_]) ap rfl rfl zeroValue77 rfl (fun b4=>?_);refine aG 1 ?_;refine aM 0 [_,_,_,_,_] sizeOf77 ?_;refine an 31 [1,3,4,10,11,12] ?_;refine CD.seq ?_;refine gX 10 (av _) ?_ (fun _ h=>h);refine aC 0 rfl (cR (mk:=Op.load 77) rfl ot (by first|exact qE (k:=0) (ds:=[_,_,_,_,_]) rfl rfl isAgg77 sizeOf77 rfl rfl|exact kj jW isAgg77 sizeOf77 w5|exact dy (k:=0) jW rfl rfl rfl isAgg77 sizeOf77 w5|exact dy (k:=1) jW rfl rfl rfl isAgg77 sizeOf77 w5|exact qJ (ds:=[_,_,_,_,_]) isAgg77 sizeOf77 rfl rfl)) ?_;refine dH.later rfl ?_;refine AD.one (i:=1) aB ?_;refine qk call45 (O) ?_;refine c9 2 rfl lg ?_;refine c9 3 rfl bG ?_;refine AD.split (t:=20) lk (fun E=>?_) (fun E=>?_)
  ·exact absurd E (by simp at E)
  have I:=E;(try simp only[V.nH,ne_eq] at I)
  refine c9 4 rfl (dF 0) ?_;refine c9 6 rfl bG ?_;refine c9 8 rfl (dF 0) ?_;refine AD.two (i:=5) (j:=9) aB ?_ ?_
  ·refine at_ rfl (dK 1) ?_;refine c9 7 rfl (eE (l:=0) (h:=i) rfl ot trivial ⟨_,ot⟩ (by exact kO jW (fun h=>by cases h) runUnderlying23 sizeOf77 w4)) ?_;refine AD.one (i:=9) aB ?_;refine at_ rfl (dK 0) ?_;exact Xu
  refine at_ rfl (dK 0) ?_;refine AD.one (i:=5) aB ?_;refine at_ rfl (dK 1) ?_;refine c9 7 rfl (eE (l:=0) (h:=i) rfl ot trivial ⟨_,ot⟩ (by exact kO jW (fun h=>by cases h) runUnderlying23 sizeOf77 w4)) ?_;exact Xu
 refine af [2] ?_;exact nE
theorem aaO:(Tryz.prog.info? 43).map (fun i=>(i.zero,i.size,i.bytes))=some (some (.slice none 0 0),1,24):=by kernel_rfl
theorem Kp(hm:(3,marksC)∈G)(hw:(1,wordsC)∈G)(ht:(0,typesC)∈G)(hG:(2,[Value.int .i64 m])∈G)(l:List aH)(g:pX l n)(nm:ByteArray):VP Tryz.prog G 16 [.agg [au 5 cX (l)],aZ nm] (.dh [.list 1 ((vn l nm).1.flatMap gl) (vn l nm).1.length,ae (vn l nm).2]):=by
 refine VC.body func16 rfl ntmps16 aQ fun X0 w0 bf=>?_;have cY:=dN;have mY:=g.eI;have qV:=Qq hm hw ht hG l g;have fx:=qF (G:=G) l w4 nm;have qU:=wz (fun t:aH=>t.nm.toList==nm.toList) l;rw[show dA (fun t:aH=>t.nm.toList==nm.toList) l=aT l nm from rfl] at qU;refine bS ?_;refine OD.box (ds:=[_]) ap rfl rfl ot rfl rfl (fun b2=>?_);refine an 54 [1,2] ?_;refine cL [1,2,6] (qV) ?_;refine af [1,2,6,17] ?_;refine ax ?_ ?_<;>intro aO bA
 ·exact zI
 refine cL [2,7] (fx) ?_;refine af [2,7,24] ?_;refine ax ?_ ?_<;>intro aY cz
 ·have h0:aT l nm<0:=(by simpa using aY)
  have aW:vn l nm=([],8):=if_pos h0;refine af [4,5] ?_;refine CD.wk (Wk.tM (t:=4) (sz:=1) lk) ?_;exact oJ
 have h0:¬aT l nm<0:=(by simpa using aY)
 have E:(aT l nm).toNat<l.length:=(by omega)
 have O:=g.tb (l[(aT l nm).toNat]'E) (getElem_mem E);have jt:l.getD (aT l nm).toNat ⟨nm,[],[],qc⟩=(l[(aT l nm).toNat]'E):=(by rw[getD_eq_getElem?_getD,getElem?_eq_getElem E];rfl)
 have aW:vn l nm=((eu (l[(aT l nm).toNat]'E).ix).map fun x=>rowAt (l[(aT l nm).toNat]'E) x.2,0):=(by unfold vn;rw[if_neg h0,jt])
 have AT:=TR (G:=G) O.ix;rw[EW] at AT;unfold Tw.cT at AT;have Y1:=Ua O;have ku:=U1 (l[(aT l nm).toNat]'E) (l[(aT l nm).toNat]'E).rows.length;have N3:=O.eI;refine aA 3 ?_;refine bQ (dw 5 (h:=by first|exact .l (j:=(aT l nm).toNat) (Int.toNat_of_nonneg w4).symm E|exact .r (j:=(aT l nm).toNat) (Int.toNat_of_nonneg w4).symm E)) ?_;refine aG 1 ?_;refine OD.alloc (ds:=[_,_,_,_,_]) ap rfl rfl zeroValue77 rfl (fun b8=>?_);refine aM 0 [_,_,_,_,_] sizeOf77 ?_;refine an 54 [8] ?_;refine cL [8,9] (AT) ?_;refine bS ?_;refine bp [8,9,11] ?_;refine af [8,11,36,37,38] ?_;refine ez [8,36,37] (fun aR _ (U:Nat×List (List Vl)×Option Addr×Nat×List ah) aD=>match U with|(i,acc,dz,cZ,Sx)=>(i≤(eu (l[(aT l nm).toNat]'E).ix).length)∧(acc=((eu (l[(aT l nm).toNat]'E).ix).take i).map fun x=>rowAt (l[(aT l nm).toNat]'E) x.2)∧(bg 43 1 ((acc).flatMap gl) (acc).length dz cZ Sx)∧aD=(⟨54,(11,aN dz (acc).length cZ)::(38,ae (i:Nat))::aR,(⟨b8,77,5,cX (l[(aT l nm).toNat]'E)⟩::⟨b2,25,1,[au 5 cX (l)]⟩::Sx)⟩:St)) (fun (U:Nat×List (List Vl)×Option Addr×Nat×List ah)=>match U with|(i,acc,dz,cZ,Sx)=>(eu (l[(aT l nm).toNat]'E).ix).length-i) (0,([]:List (List Vl)),none,0,[]) ⟨(Nat.zero_le _),rfl,(bg.cast iz k8),rfl⟩ ?_;rintro⟨i,acc,dz,cZ,Sx⟩ _ ⟨hi,rR,dX,rfl⟩;refine af [8,11,36,37,38,39] ?_;refine ax ?_ ?_<;>intro cc cN
 ·have aa:i<(eu (l[(aT l nm).toNat]'E).ix).length:=(by omega)
  obtain⟨fH,I,mo,Nd⟩:=O.gZ _ (getElem_mem aa);have HX:rowAt (l[(aT l nm).toNat]'E) ((eu (l[(aT l nm).toNat]'E).ix)[i]'aa).2=((l[(aT l nm).toNat]'E).rows[((eu (l[(aT l nm).toNat]'E).ix)[i]'aa).2.toNat]'I):=iY I;have h4:=o8 (O.row _ I mo).1;have eV:=Qf (G:=G) ((l[(aT l nm).toNat]'E).rows[((eu (l[(aT l nm).toNat]'E).ix)[i]'aa).2.toNat]'I) w4;have rh:acc.length=i:=(by rw[rR,length_map,length_take];omega)
  refine aA 2 ?_;refine OD.alloc (ds:=[_,_]) ap rfl rfl zeroValue92 rfl (fun lN=>?_);refine aM 0 [_,_] sizeOf92 ?_;refine an 54 [8,11,13,36,37,38] ?_;refine dG 5 ?_;refine bQ (dw 1 (h:=by first|exact .l (j:=((eu (l[(aT l nm).toNat]'E).ix)[i]'aa).2.toNat) (Int.toNat_of_nonneg fH).symm I|exact .r (j:=((eu (l[(aT l nm).toNat]'E).ix)[i]'aa).2.toNat) (Int.toNat_of_nonneg fH).symm I)) ?_;refine aG 1 ?_;refine dO call33 (eV) ?_;refine ew (cu 0 [_]) [.slice none 0 0] [_] zeroValue43 runUnderlying37 sizeOf43 (fun AN=>?_);refine fS 0 50 1 1 ?_;refine OD.eB (ls:=(acc)) (new:=[((l[(aT l nm).toNat]'E).rows[((eu (l[(aT l nm).toNat]'E).ix)[i]'aa).2.toNat]'I)]) (Sq:=Sx) kg RQ ap rfl rfl underlying37 aaO rfl w8 ot dX (dg (A:=[_,_,_])) ot bq nB nC (fun yC Z Mr Ms=>?_);refine OD.perm (dW (S1:=[⟨yC,43,Z*1,flatMap gl ((acc)++[((l[(aT l nm).toNat]'E).rows[((eu (l[(aT l nm).toNat]'E).ix)[i]'aa).2.toNat]'I)])⟩]) (A:=[_,_,_])) ?_;refine an 54 [8,11,36,37,38] ?_;refine bX [8,11,36,37,38] ?_
  refine⟨((i+1),(acc++[((l[(aT l nm).toNat]'E).rows[((eu (l[(aT l nm).toNat]'E).ix)[i]'aa).2.toNat]'I)]),(some ⟨yC,0,none⟩),Z,[⟨yC,43,Z*1,flatMap gl ((acc)++[((l[(aT l nm).toNat]'E).rows[((eu (l[(aT l nm).toNat]'E).ix)[i]'aa).2.toNat]'I)])⟩]),_,cn,aJ,w4,(by rw[rR,←HX,←pN aa,map_append];rfl),(bg.cast (bM Mr Ms) k8),rfl⟩
 have ny:acc=(eu (l[(aT l nm).toNat]'E).ix).map fun x=>rowAt (l[(aT l nm).toNat]'E) x.2:=(by rw[rR,take_of_length_le w4])
 refine af [4,5] ?_;refine CD.ic (t:=4) (Sq:=Sx) lk dX (cm kg _) (dg (A:=[_,_])) ?_;refine aK [] ?_;rw[aW,←ny];exact⟨rfl,rfl⟩

end Go.Proofs.YtkgmonfgofobaaaGreatDoor.Ba
namespace Go.Proofs.YtkgmonfgofobaaaGreatDoor.Ba
open List
open Go.Proofs.Tryz
open Go.RowKit V Pk Tr Vl Go.Proofs.YtkgmonfgofobaaaGreatDoor.Nm Pc Cd Ex Tw
open Pa (bJ bj eS dJ)
variable {G:List (Nat×List Value)} {m:Int}
noncomputable def iC(l:List aH)(s:bJ):List aH×((List (List Vl)×Int)×Int) :=
 if dJ s≠0 then ([],(([],0),dJ s)) else if 7≤s.kind then ([],(([],0),2)) else if (gd l s).2.2≠0 then ([],(([],0),(gd l s).2.2)) else ((gd l s).1,((gd l s).2.1,0))
noncomputable def vA(rr:List aH×((List (List Vl)×Int)×Int))(s:bJ):List aH×((List (List Vl)×Int)×Int) :=
 if dJ s≠0 then ([],(([],0),dJ s)) else if 7≤s.kind then ([],(([],0),2)) else if rr.2.2≠0 then ([],(([],0),rr.2.2)) else (rr.1,(rr.2.1,0))
def uK(p:List aH×((List (List Vl)×Int)×Int)):D:=.dh [.agg [au 5 cX p.1],.agg [au 1 gl p.2.1.1,ae p.2.1.2],ae p.2.2]
theorem afP(hm:(3,marksC)∈G)(hw:(1,wordsC)∈G)(ht:(0,typesC)∈G)(hG:(2,[Value.int .i64 m])∈G)(l:List aH){n:Nat}(g:pX l n)(s:bJ)(hf:eS s)(E:List aH×((List (List Vl)×Int)×Int))(nU:∀(L:List aU),L.map aU.t=l→(∀o∈L,qt o)→∀(bo:Nat) (ad:Option Addr) (cap:Nat) (Sx:List ah),xE L ad cap Sx→VC Tryz.prog G 30 [cU bo,.agg (bj s)] (ie bo ad L.length cap::(Sx++L.flatMap bT)) (fun r S=>r=AU E.2∧(E.2.2=0→Gj E.1 bo S)))(AS:E.2.2=0→E.1.length≤1000∧∀t∈E.1,zi t):VP Tryz.prog G 15 [.agg [au 5 cX (l)],.agg (bj s)] (uK (vA E s)):=by
 refine VC.body func15 rfl ntmps15 aQ fun X0 w0 bf=>?_;have cY:=dN;have mY:=g.eI;have qV:=Qq hm hw ht hG l g;have eV:=Pa.Q9 (G:=G) hm hw ht s hf;refine bS ?_;refine OD.box (ds:=[_]) ap rfl rfl ot rfl rfl (fun b2=>?_);refine OD.box (ds:=[_,_,_,_,_,_,_,_,_,_,_,_]) ap rfl rfl ot rfl rfl (fun b3=>?_);refine OD.alloc (ds:=[_]) ap rfl rfl zeroValue25 rfl (fun b4=>?_);refine OD.alloc (ds:=[_,_]) ap rfl rfl zeroValue39 rfl (fun b5=>?_);refine aG 1 ?_;first|refine OD.cells (k:=0) (cs':=[.list 1 [] 0,_]) rfl ⟨ey,cq,trivial⟩ rfl ?_|skip
 first|refine OD.cells (k:=1) (cs':=[.list 1 [] 0,_]) rfl ⟨ey,cq,trivial⟩ rfl ?_|skip
 first|refine OD.cells (k:=1) (cs':=[.list 5 [] 0]) rfl ⟨ey,trivial⟩ rfl ?_|skip
 first|refine OD.cells (k:=2) (cs':=[.list 5 [] 0]) rfl ⟨ey,trivial⟩ rfl ?_|skip
 refine an 46 [2,3,4,5] ?_;refine cL [2,3,4,5,7] (qV) ?_;refine af [2,3,4,5,7,15] ?_;refine ax ?_ ?_<;>intro aO bA
 ·exact zI
 refine cL [2,3,4,5,8] (eV) ?_;refine af [2,3,4,5,8,22] ?_;refine ax ?_ ?_<;>intro aY cz
 ·have h1:dJ s≠0:=(by simpa using aY)
  have aW:vA E s=([],(([],0),dJ s)):=if_pos h1;refine aA 3 ?_;refine aM 1 [_] sizeOf25 ?_;refine aM 0 [_,_] sizeOf39 ?_;exact M1
 have h1:¬dJ s≠0:=(by simpa using aY)
 refine af [2,3,4,5,28] ?_;refine ax ?_ ?_<;>intro cc cN
 ·have h2:7≤s.kind:=(by simpa using cc)
  have aW:vA E s=([],(([],0),2)):=(by unfold vA;rw[if_neg h1,if_pos h2])
  refine aA 2 ?_;refine aM 1 [_] sizeOf25 ?_;refine aM 0 [_,_] sizeOf39 ?_;exact M1
 have h2:¬7≤s.kind:=(by simpa using cc)
 refine aA 1 ?_;refine OD.call ap rfl rfl rfl call29 (Qi l w4 (fun t h=>(g.tb t h).small)) ⟨ot,trivial⟩ (fa _) ?_;rintro _ _ ⟨L,ad,cap,Sx,rfl,kI,aV,pL,rfl⟩;refine OD.perm (S':=⟨b5,39,2,[.list 1 [] 0,ae 0]⟩::⟨b4,25,1,[.list 5 [] 0]⟩::⟨b3,46,12,bj s⟩::⟨b2,25,1,[au 5 cX (l)]⟩::(Sx++L.flatMap bT)) (show((Sx++L.flatMap bT)++(⟨b5,39,2,[.list 1 [] 0,ae 0]⟩::⟨b4,25,1,[.list 5 [] 0]⟩::⟨b3,46,12,bj s⟩::[⟨b2,25,1,[au 5 cX (l)]⟩]):List ah).Perm _ from(jK fun mC=>by simp only[map_append,map_cons,map_nil,sum_append,sum_cons,sum_nil];omega)) ?_;refine OD.alloc (ds:=[_]) ap rfl rfl zeroValue25 rfl (fun b9=>?_);refine aM 0 [_] sizeOf25 ?_;refine an 46 [3,4,5,9] ?_;refine aA 1 ?_;have rZ:L.length=l.length:=(by rw[←pL];(first|rw[length_map]|(unfold au;rw[length_map])))
 refine OD.call (Sf:=ie b9 ad L.length cap::(Sx++L.flatMap bT)) (R:=⟨b5,39,2,[.list 1 [] 0,ae 0]⟩::⟨b4,25,1,[.list 5 [] 0]⟩::⟨b3,46,12,bj s⟩::[⟨b2,25,1,[au 5 cX (l)]⟩]) ap rfl rfl rfl call30 (nU L pL aV b9 ad cap Sx kI) ⟨ot,ot,trivial⟩ (show(ie b9 ad L.length cap::⟨b5,39,2,[.list 1 [] 0,ae 0]⟩::⟨b4,25,1,[.list 5 [] 0]⟩::⟨b3,46,12,bj s⟩::⟨b2,25,1,[au 5 cX (l)]⟩::(Sx++L.flatMap bT):List ah).Perm ((ie b9 ad L.length cap::(Sx++L.flatMap bT))++(⟨b5,39,2,[.list 1 [] 0,ae 0]⟩::⟨b4,25,1,[.list 5 [] 0]⟩::⟨b3,46,12,bj s⟩::[⟨b2,25,1,[au 5 cX (l)]⟩])) from(jK fun mC=>by simp only[map_append,map_cons,map_nil,sum_append,sum_cons,sum_nil];omega)) ?_;rintro _ S9 ⟨rfl,h9⟩;refine OD.perm (S':=⟨b5,39,2,[.list 1 [] 0,ae 0]⟩::⟨b4,25,1,[.list 5 [] 0]⟩::⟨b3,46,12,bj s⟩::⟨b2,25,1,[au 5 cX (l)]⟩::S9) (show(S9++(⟨b5,39,2,[.list 1 [] 0,ae 0]⟩::⟨b4,25,1,[.list 5 [] 0]⟩::⟨b3,46,12,bj s⟩::[⟨b2,25,1,[au 5 cX (l)]⟩]):List ah).Perm _ from(jK fun mC=>by simp only[map_append,map_cons,map_nil,sum_append,sum_cons,sum_nil];omega)) ?_;unfold AU;refine aG 3 ?_;refine OD.alloc (ds:=[_,_]) ap rfl rfl zeroValue39 rfl (fun j6=>?_);refine aM 0 [_,_] sizeOf39 ?_;refine an 46 [4,5,9,10,11] ?_;refine af [4,5,9,10,11,39] ?_;refine ax ?_ ?_<;>intro cQ ek
 ·have h3:E.2.2≠0:=(by simpa using cQ)
  have aW:vA E s=([],(([],0),E.2.2)):=(by unfold vA;rw[if_neg h1,if_neg h2,if_pos h3])
  refine aA 3 ?_;refine aM 2 [_] sizeOf25 ?_;refine aM 1 [_,_] sizeOf39 ?_;exact M1
 have h3:¬E.2.2≠0:=(by simpa using cQ)
 have aW:vA E s=(E.1,(E.2.1,0)):=(by unfold vA;rw[if_neg h1,if_neg h2,if_neg h3])
 obtain⟨L',I,kJ,O,U,Z,alC,hS⟩:=h9 (Classical.not_not.1 h3);obtain⟨HP,uz⟩:=AS (Classical.not_not.1 h3);have xS:=ab7 (G:=G) E.1 HP uz;refine CD.perm (S':=⟨j6,39,2,[au 1 gl E.2.1.1,ae E.2.1.2]⟩::⟨b5,39,2,[.list 1 [] 0,ae 0]⟩::⟨b4,25,1,[.list 5 [] 0]⟩::⟨b3,46,12,bj s⟩::⟨b2,25,1,[au 5 cX (l)]⟩::(ie b9 I L'.length kJ::(O++L'.flatMap bT))) (show((⟨j6,39,2,[au 1 gl E.2.1.1,ae E.2.1.2]⟩::⟨b5,39,2,[.list 1 [] 0,ae 0]⟩::⟨b4,25,1,[.list 5 [] 0]⟩::⟨b3,46,12,bj s⟩::[⟨b2,25,1,[au 5 cX (l)]⟩])++S9:List ah).Perm ((⟨j6,39,2,[au 1 gl E.2.1.1,ae E.2.1.2]⟩::⟨b5,39,2,[.list 1 [] 0,ae 0]⟩::⟨b4,25,1,[.list 5 [] 0]⟩::⟨b3,46,12,bj s⟩::[⟨b2,25,1,[au 5 cX (l)]⟩])++(ie b9 I L'.length kJ::(O++L'.flatMap bT))) from Perm.append_left ((⟨j6,39,2,[au 1 gl E.2.1.1,ae E.2.1.2]⟩::⟨b5,39,2,[.list 1 [] 0,ae 0]⟩::⟨b4,25,1,[.list 5 [] 0]⟩::⟨b3,46,12,bj s⟩::[⟨b2,25,1,[au 5 cX (l)]⟩]):List ah) hS) ?_
 refine CD.wk (Wk.cover (A:=ie b9 I L'.length kJ) (R:=⟨j6,39,2,[au 1 gl E.2.1.1,ae E.2.1.2]⟩::⟨b5,39,2,[.list 1 [] 0,ae 0]⟩::⟨b4,25,1,[.list 5 [] 0]⟩::⟨b3,46,12,bj s⟩::[⟨b2,25,1,[au 5 cX (l)]⟩]) (Sd:=O++L'.flatMap bT) (cs':=[au 5 cX (E.1)]) (show(⟨j6,39,2,[au 1 gl E.2.1.1,ae E.2.1.2]⟩::⟨b5,39,2,[.list 1 [] 0,ae 0]⟩::⟨b4,25,1,[.list 5 [] 0]⟩::⟨b3,46,12,bj s⟩::⟨b2,25,1,[au 5 cX (l)]⟩::(ie b9 I L'.length kJ::(O++L'.flatMap bT)):List ah).Perm _ from(jK fun mC=>by simp only[map_append,map_cons,map_nil,sum_append,sum_cons,sum_nil];omega)) ⟨by rw[←alC];(first|rw[length_map]|(unfold au;rw[length_map]));exact FQ U Z (fun B h=>h),trivial⟩) ?_;refine CD.skip ?_;refine CD.seq ?_;refine gX 4 (av (eraseIdx _ 3)) ?_ (fun _ h=>(Sublist.map _ (eraseIdx_sublist _ 3)).subset h)
 refine aC 0 rfl (cR (mk:=Op.load 25) rfl ot (by first|exact qE (k:=0) (ds:=[_]) rfl rfl isAgg25 sizeOf25 rfl rfl|exact kj jW isAgg25 sizeOf25 w5|exact kj kg isAgg25 sizeOf25 w5|exact dy (k:=0) jW rfl rfl rfl isAgg25 sizeOf25 w5|exact dy (k:=1) jW rfl rfl rfl isAgg25 sizeOf25 w5|exact dy (k:=2) jW rfl rfl rfl isAgg25 sizeOf25 w5|exact dy (k:=3) jW rfl rfl rfl isAgg25 sizeOf25 w5|exact dy (k:=4) jW rfl rfl rfl isAgg25 sizeOf25 w5|exact dy (k:=5) jW rfl rfl rfl isAgg25 sizeOf25 w5|exact dy (k:=0) kg rfl rfl rfl isAgg25 sizeOf25 w5|exact dy (k:=1) kg rfl rfl rfl isAgg25 sizeOf25 w5|exact dy (k:=2) kg rfl rfl rfl isAgg25 sizeOf25 w5|exact dy (k:=3) kg rfl rfl rfl isAgg25 sizeOf25 w5|exact dy (k:=4) kg rfl rfl rfl isAgg25 sizeOf25 w5|exact dy (k:=5) kg rfl rfl rfl isAgg25 sizeOf25 w5|exact qJ (ds:=[_]) isAgg25 sizeOf25 rfl rfl)) ?_
 refine aC 2 rfl (cR (mk:=Op.load 39) rfl ot (by first|exact qE (k:=1) (ds:=[_,_]) rfl rfl isAgg39 sizeOf39 rfl rfl|exact kj jW isAgg39 sizeOf39 w5|exact kj kg isAgg39 sizeOf39 w5|exact dy (k:=0) jW rfl rfl rfl isAgg39 sizeOf39 w5|exact dy (k:=1) jW rfl rfl rfl isAgg39 sizeOf39 w5|exact dy (k:=2) jW rfl rfl rfl isAgg39 sizeOf39 w5|exact dy (k:=3) jW rfl rfl rfl isAgg39 sizeOf39 w5|exact dy (k:=4) jW rfl rfl rfl isAgg39 sizeOf39 w5|exact dy (k:=5) jW rfl rfl rfl isAgg39 sizeOf39 w5|exact dy (k:=0) kg rfl rfl rfl isAgg39 sizeOf39 w5|exact dy (k:=1) kg rfl rfl rfl isAgg39 sizeOf39 w5|exact dy (k:=2) kg rfl rfl rfl isAgg39 sizeOf39 w5|exact dy (k:=3) kg rfl rfl rfl isAgg39 sizeOf39 w5|exact dy (k:=4) kg rfl rfl rfl isAgg39 sizeOf39 w5|exact dy (k:=5) kg rfl rfl rfl isAgg39 sizeOf39 w5|exact qJ (ds:=[_,_]) isAgg39 sizeOf39 rfl rfl)) ?_;refine dH.later rfl ?_;refine AD.one (i:=1) aB ?_;refine qk call29 (xS) ?_;refine AD.one (i:=3) aB ?_;refine dP 3 [_] sizeOf25 ?_;refine fw ?_;refine aM 2 [_,_] sizeOf39 ?_;refine aG 1 ?_;first|refine OD.cells (k:=0) (cs':=[.list 1 [] 0,_]) rfl ⟨ey,cq,trivial⟩ rfl ?_|skip
 first|refine OD.cells (k:=1) (cs':=[.list 1 [] 0,_]) rfl ⟨ey,cq,trivial⟩ rfl ?_|skip
 first|refine OD.cells (k:=1) (cs':=[.list 5 [] 0]) rfl ⟨ey,trivial⟩ rfl ?_|skip
 first|refine OD.cells (k:=2) (cs':=[.list 5 [] 0]) rfl ⟨ey,trivial⟩ rfl ?_|skip
 refine an 46 [4,5,6] ?_;exact z59
theorem ahm(hm:(3,marksC)∈G)(hw:(1,wordsC)∈G)(ht:(0,typesC)∈G)(hG:(2,[Value.int .i64 m])∈G)(l:List aH){n:Nat}(hn:n≤260)(g:pX l n)(s:bJ)(hf:eS s)(fF:¬s.kind=2)(I:∀v∈s.row,v.Ok)(ho:∀o∈s.aj,o.nm.size≤maxLen)(fT:∀o∈s.aj,o.v.Ok)(Z:∀o∈s.bN,o.nm.size≤maxLen)(O:∀o∈s.bN,o.v.Ok)(AS:(gd l s).2.2=0→(gd l s).1.length≤1000∧∀t∈(gd l s).1,zi t):VP Tryz.prog G 15 [.agg [au 5 cX (l)],.agg (bj s)] (uK (iC l s)) :=
 afP hm hw ht hG l g s hf (gd l s) (fun L pL aV bo ad cap Sx U=>by
  subst pL;have E:=g.eI
  (first|rw[length_map] at E|(unfold au at E;rw[length_map] at E))
  exact ahl hm hw ht hG L aV w4 (fun o ho=>⟨n,hn,g.tb _ (mem_map_of_mem ho)⟩) s fF (by have:=hf.ok.1;omega) (by have:=hf.ok.2.1;omega) I (by have:=hf.ok.2.2.1;omega) ho fT Z O bo ad cap Sx U) AS

end Go.Proofs.YtkgmonfgofobaaaGreatDoor.Ba
namespace Go.Proofs.YtkgmonfgofobaaaGreatDoor.Ba
open List
open Go.Proofs.Tryz
open Go.RowKit V Pk Tr Vl Go.Proofs.YtkgmonfgofobaaaGreatDoor.Nm Pc Cd Ex Tw
open Pa (bJ bj)
variable {t:aH} {n:Nat} {i:Int}
theorem dB.mono{t:aH}{a b:Nat}(g:dB t a)(h:a≤b):dB t b:=⟨g.nm,g.ay,g.eI,g.ix.mono h,g.row,g.gZ⟩
structure nT (t:aH) (n:Nat) (D:List Int):Prop where
 nm:cy t.nm=0
 ay:t.ay=bY
 eI:t.rows.length≤40
 ix:iN t.ix n
 row:∀i (h:i<t.rows.length),t.rows[i]≠[]→Pc.dR bY t.rows[i]=0∧(∀v∈t.rows[i],v.Ok)∧((i:Int)∉D→(cH t.rows[i],(i:Int))∈eu t.ix)
 gZ:∀x∈eu t.ix,0≤x.2∧x.2∉D∧∃h:x.2.toNat<t.rows.length,t.rows[x.2.toNat]≠[]∧x.1=cH t.rows[x.2.toNat]
theorem dB.d(g:dB t n):nT t n []:=⟨g.nm,g.ay,g.eI,g.ix,fun i h hn=>⟨(g.row i h hn).1,(g.row i h hn).2.1,fun _=>(g.row i h hn).2.2⟩,fun x hx=>⟨(g.gZ x hx).1,not_mem_nil,(g.gZ x hx).2⟩⟩
theorem nT.tb(g:nT t n []):dB t n:=⟨g.nm,g.ay,g.eI,g.ix,fun i h hn=>⟨(g.row i h hn).1,(g.row i h hn).2.1,(g.row i h hn).2.2 not_mem_nil⟩,fun x hx=>⟨(g.gZ x hx).1,(g.gZ x hx).2.2⟩⟩
theorem ack(g:dB t n)(hn:n≤300){row:List Vl}(aV:∀v∈row,v.Ok)(h:(gB t row).2=0):dB (gB t row).1 (n+1)∧(gB t row).1.rows.length=t.rows.length+1:=by
 unfold gB at h ⊢;by_cases h1:Pc.dR t.ay row=0
 ·rw[if_neg (fun e=>e h1)] at h ⊢;cases h2:iA t.ix (cH row) (dr t.ix) with
  | true=>rw[h2,if_pos rfl] at h;cases h
  | false =>
   rw[h2,if_neg w8] at h;rw[if_neg w8];by_cases h3:t.rows.length=40
   ·rw[if_pos h3] at h;cases h
   rw[if_neg h3];have h4:Pc.dR bY row=0:=(by rw[←g.ay];exact h1)
   obtain⟨g1,g2,g3⟩:=ET g.ix hn ((EU g.ix).1 h2) (wC h4) (Int.natCast_nonneg t.rows.length);have I:=g.eI;refine⟨⟨g.nm,g.ay,by show(t.rows++[row]).length≤40;rw[length_append,length_singleton];omega,g1,fun i hi hne=>?_,fun x hx=>?_⟩,by show(t.rows++[row]).length=_;rw[length_append,length_singleton]⟩
   ·simp only at hi hne ⊢;rw[length_append,length_singleton] at hi;by_cases hl:i<t.rows.length
    ·have e:(t.rows++[row])[i]'CN=t.rows[i]:=getElem_append_left hl;rw[e] at hne ⊢;obtain⟨p1,p2,p3⟩:=g.row i hl hne;exact⟨p1,p2,(g3 _).2 (.inr p3)⟩
    have E:i=t.rows.length:=(by omega)
    subst E;have e:(t.rows++[row])[t.rows.length]'CN=row:=(by rw[getElem_append_right (Nat.le_refl _)];simp)
    rw[e] at hne ⊢;exact⟨h4,aV,(g3 _).2 (.inl rfl)⟩
   rcases(g3 x).1 hx with rfl|hx
   ·refine⟨Int.natCast_nonneg _,by show t.rows.length<(t.rows++[row]).length;rw[length_append,length_singleton];omega,?_⟩;have e:(t.rows++[row])[t.rows.length]'CN=row:=(by rw[getElem_append_right (Nat.le_refl _)];simp)
    show(t.rows++[row])[t.rows.length]'_≠[]∧cH row=cH ((t.rows++[row])[t.rows.length]'_);rw[e];exact⟨fun e=>(by have:=o8 h4;rw[e] at this;cases this),rfl⟩
   obtain⟨x0,x1,O,U⟩:=g.gZ x hx;have e:(t.rows++[row])[x.2.toNat]'CN=t.rows[x.2.toNat]:=getElem_append_left x1;refine⟨x0,by show _<(t.rows++[row]).length;rw[length_append,length_singleton];omega,?_⟩;show(t.rows++[row])[x.2.toNat]'_≠[]∧x.1=cH ((t.rows++[row])[x.2.toNat]'_);rw[e];exact⟨O,U⟩
 rw[if_pos h1] at h;exact absurd h h1
theorem Qr{n:Nat}:∀{l:List Int} {t:aH},dB t n→l.Nodup→(∀i∈l,eR t i)→dB (rS t l) n∧(rS t l).rows.length=t.rows.length
 | [],_,g,_,_=>⟨g,rfl⟩
 | i::r,t,g,hn,hi=>by
  rw[nodup_cons] at hn;have h1:=Qr (Qn g (hi i mem_cons_self)) hn.2 fun j hj=>T4 (hi j (mem_cons_of_mem _ hj)) (fun e=>hn.1 (e ▸ hj)) (hi i mem_cons_self).1;refine⟨h1.1,h1.2.trans ?_⟩;show(t.rows.set _ _).length=_;rw[length_set]
theorem ZG(g:dB t n)(w:List aS):dB (mP t w).1 n∧(mP t w).1.rows.length=t.rows.length:=by
 unfold mP;split
 ·exact⟨g,rfl⟩
 exact Qr g (yK g w) (pV g w)
theorem Ub{r:List Vl}{c:Nat}(hc:c≠0)(v:Vl):cH (r.set c v)=cH r:=by
 unfold cH;cases r with
 | nil=>rfl
 | cons a r=>cases c with
  | zero=>exact absurd rfl hc
  | succ c=>rfl
theorem VD{D:List Int}(g:nT t n D)(hi:eR t i){c:Nat}(hc:c<bY.length){v:Vl}(hv:jX (bY[c]'hc).k v)(fT:v.Ok)(h0:c=0→v.k≠0∧i∈D):nT (pn t i c v) n D∧(∀j,eR t j→eR (pn t i c v) j):=by
 obtain⟨q0,q1,q2⟩:=hi;obtain⟨p1,p2,p3⟩:=g.row _ q1 q2;have U:=iY (t:=t) q1;have Z:Pc.dR bY ((rowAt t i).set c v)=0:=(by rw[U];exact T6 p1 hc hv fun h=>(h0 h).1)
 have j3:(rowAt t i).set c v≠[]:=fun e=>by have:=o8 Z;rw[e] at this;cases this
 have hlen:(pn t i c v).rows.length=t.rows.length:=length_set;have I:∀j (h:j<t.rows.length),(pn t i c v).rows[j]'(by rw[hlen];exact h)=if i.toNat=j then (rowAt t i).set c v else t.rows[j]:=fun j h=>getElem_set ..
 refine⟨⟨g.nm,g.ay,by rw[hlen];exact g.eI,g.ix,fun j hj hne=>?_,fun x hx=>?_⟩,fun j ⟨j0,j1,j2⟩=>⟨j0,by rw[hlen];exact j1,?_⟩⟩
 ·rw[hlen] at hj;rw[I j hj] at hne ⊢;by_cases E:i.toNat=j
  ·rw[if_pos E];refine⟨Z,fun w hw=>?_,fun hd=>?_⟩
   ·rcases mem_or_eq_of_mem_set hw with hw|hw
    ·rw[U] at hw;exact p2 w hw
    rw[hw];exact fT
   have rX:(j:Int)=i:=(by omega)
   by_cases O:c=0
   ·exact absurd (rX ▸ (h0 O).2) hd
   rw[Ub O,U];subst E;exact p3 hd
  rw[if_neg E] at hne ⊢;exact g.row j hj hne
 ·obtain⟨x0,xd,x1,x2,x3⟩:=g.gZ x hx;refine⟨x0,xd,by rw[hlen];exact x1,?_⟩;rw[I _ x1];by_cases E:i.toNat=x.2.toNat
  ·rw[if_pos E];refine⟨j3,?_⟩;have rX:x.2=i:=(by omega)
   by_cases O:c=0
   ·exact absurd (rX ▸ (h0 O).2) xd
   rw[Ub O,U,x3];simp only[E]
  rw[if_neg E];exact⟨x2,x3⟩
 rw[I _ j1];split
 ·exact j3
 exact j2
theorem aiS{x:aF}{D:List Int}(g:nT {t with ix:=x} n D)(hi:eR t i)(hd:i∉D):nT {t with ix:=gI x (dr x) (cH (rowAt t i))} n (i::D):=by
 obtain⟨q0,q1,q2⟩:=hi;obtain⟨p1,p2,p3⟩:=g.row _ q1 q2;have E:=iY (t:=t) q1;have I:(cH (rowAt t i),i)∈eu x:=by
  have:=p3 (by rw[Int.toNat_of_nonneg q0];exact hd);rw[Int.toNat_of_nonneg q0] at this;rw[E];exact this
 obtain⟨d1,d2⟩:=Js g.ix ((Bh g.ix.val _).2 ⟨i,I⟩);refine⟨g.nm,g.ay,g.eI,d1,fun j hj hne=>?_,fun y hy=>?_⟩
 ·obtain⟨r1,r2,r3⟩:=g.row j hj hne;refine⟨r1,r2,fun hd2=>?_⟩;have O:(j:Int)≠i:=fun e=>hd2 (e ▸ mem_cons_self);refine(d2 _).2 ⟨r3 fun e=>hd2 (mem_cons_of_mem _ e),fun e=>O ?_⟩;have:=Fz g.ix (r3 fun e=>hd2 (mem_cons_of_mem _ e)) I e;simp only[Prod.mk.injEq] at this;exact this.2
 obtain⟨y1,y2⟩:=(d2 y).1 hy;obtain⟨z0,zd,z1,z2,z3⟩:=g.gZ y y1;refine⟨z0,fun hm=>?_,z1,z2,z3⟩;rcases mem_cons.1 hm with e|hm
 ·refine y2 ?_;rw[z3,E];simp only[e]
 exact zd hm
theorem Uc{t:aH}{n:Nat}:∀(l:List Int) (x:aF) (D:List Int),nT {t with ix:=x} n D→l.Nodup→(∀i∈l,eR t i∧i∉D)→∃D',nT {t with ix:=oC t x l} n D'∧∀i,i∈D'↔i∈l∨i∈D
 | [],x,D,g,_,_=>⟨D,g,fun i=>by simp⟩
 | i::r,x,D,g,hn,hi=>by
  rw[nodup_cons] at hn;obtain⟨D',h1,h2⟩:=Uc r _ (i::D) (aiS g (hi i mem_cons_self).1 (hi i mem_cons_self).2) hn.2 fun j hj=>⟨(hi j (mem_cons_of_mem _ hj)).1,fun e=>by
   rcases mem_cons.1 e with e|e
   ·exact hn.1 (e ▸ hj)
   exact(hi j (mem_cons_of_mem _ hj)).2 e⟩
  refine⟨D',h1,fun j=>(h2 j).trans ?_⟩;simp only[mem_cons];constructor
  ·rintro(h|h|h)
   ·exact .inl (.inr h)
   ·exact .inl (.inl h)
   exact .inr h
  rintro((h|h)|h)
  ·exact .inr (.inl h)
  ·exact .inl h
  exact .inr (.inr h)
theorem nT.alD{D D':List Int}(g:nT t n D)(h:∀i,i∈D↔i∈D'):nT t n D':=⟨g.nm,g.ay,g.eI,g.ix,fun i hi hne=>⟨(g.row i hi hne).1,(g.row i hi hne).2.1,fun hd=>(g.row i hi hne).2.2 fun e=>hd ((h _).1 e)⟩,fun x hx=>⟨(g.gZ x hx).1,fun e=>(g.gZ x hx).2.1 ((h _).2 e),(g.gZ x hx).2.2⟩⟩
theorem alE{D:List Int}(g:nT t n D)(hn:n≤300)(hi:eR t i)(hd:i∈D)(lf:iA t.ix (cH (rowAt t i)) (dr t.ix)=false):nT {t with ix:=gH t.ix (dr t.ix) (cH (rowAt t i)) i} (n+1) (D.filter (·≠i)):=by
 obtain⟨q0,q1,q2⟩:=hi;obtain⟨p1,p2,p3⟩:=g.row _ q1 q2;have E:=iY (t:=t) q1;obtain⟨g1,_,g3⟩:=ET g.ix hn ((EU g.ix).1 lf) (by rw[E];exact wC p1) q0;have hf:∀j,j∈D.filter (·≠i)↔j∈D∧j≠i:=fun j=>by rw[mem_filter];simp
 refine⟨g.nm,g.ay,g.eI,g1,fun j hj hne=>?_,fun y hy=>?_⟩
 ·obtain⟨r1,r2,r3⟩:=g.row j hj hne;refine⟨r1,r2,fun hd2=>(g3 _).2 ?_⟩;by_cases e:(j:Int)=i
  ·left;have I:i.toNat=j:=(by omega)
   subst I;rw[E,Int.toNat_of_nonneg q0]
  right;exact r3 fun hm=>hd2 ((hf _).2 ⟨hm,e⟩)
 rcases(g3 y).1 hy with rfl|hy
 ·exact⟨q0,fun hm=>((hf _).1 hm).2 rfl,q1,q2,by rw[E]⟩
 obtain⟨z0,zd,z1,z2,z3⟩:=g.gZ y hy;exact⟨z0,fun hm=>zd ((hf _).1 hm).1,z1,z2,z3⟩
theorem U2:∀(l:List Int) (vs:List Vl) (t:aH) (n:Nat) (D:List Int),nT t n D→n+l.length≤300→l.Nodup→vs.length=l.length→(∀i∈l,eR t i∧i∈D)→(∀v∈vs,v.Ok∧jX (bY[0]'w8).k v∧v.k≠0)→(kG t l vs).2=0 →
  ∃D',nT (kG t l vs).1 (n+l.length) D'∧(kG t l vs).1.rows.length=t.rows.length∧∀i,i∈D'↔i∈D∧i∉l
 | [],[],t,n,D,g,_,_,_,_,_,_=>⟨D,g,rfl,fun i=>by simp⟩
 | [],_::_,_,_,_,_,_,_,h,_,_,_=>by cases h
 | _::_,[],_,_,_,_,_,_,h,_,_,_=>by cases h
 | i::r,v::s,t,n,D,g,hn,hnd,hl,hi,hv,h=>by
  rw[nodup_cons] at hnd;rw[length_cons] at hn hl;rw[length_cons] at hl;obtain⟨E,hid⟩:=hi i mem_cons_self;obtain⟨v1,v2,v3⟩:=hv v mem_cons_self;obtain⟨g1,jv⟩:=VD g E (c:=0) w8 v2 v1 fun _=>⟨v3,hid⟩
  rw[kG] at h ⊢;cases iV:iA t.ix (cH (rowAt (pn t i 0 v) i)) (dr t.ix) with
  | true=>rw[iV,if_pos rfl] at h;cases h
  | false =>
   rw[iV,if_neg w8] at h;rw[if_neg w8];have g2:=alE g1 w4 (jv i E) hid iV;obtain⟨D',h1,h2,h3⟩:=U2 r s _ (n+1) _ g2 w4 hnd.2 w4 (fun j hj=>⟨jv j (hi j (mem_cons_of_mem _ hj)).1,by rw[mem_filter];exact⟨(hi j (mem_cons_of_mem _ hj)).2,by simp;exact fun e=>hnd.1 (e ▸ hj)⟩⟩) (fun w hw=>hv w (mem_cons_of_mem _ hw)) h;refine⟨D',by rw[length_cons,show n+(r.length+1)=n+1+r.length by omega];exact h1,h2.trans (by show(t.rows.set _ _).length=_;rw[length_set]),fun j=>(h3 j).trans ?_⟩;rw[mem_filter,mem_cons];simp only[decide_eq_true_eq,ne_eq,not_or,and_assoc]
theorem Ud{n:Nat}{c:Nat}(hc:c<bY.length)(aO:c≠0):∀(l:List Int) (vs:List Vl) (t:aH),dB t n→(∀i∈l,eR t i)→(∀v∈vs,v.Ok∧jX (bY[c]'hc).k v)→dB (jH c t l vs) n∧(jH c t l vs).rows.length=t.rows.length
 | [],_,t,g,_,_=>by unfold jH;exact⟨g,rfl⟩
 | _::_,[],t,g,_,_=>by unfold jH;exact⟨g,rfl⟩
 | i::r,v::s,t,g,hi,hv=>by
  rw[jH];obtain⟨v1,v2⟩:=hv v mem_cons_self;obtain⟨g1,jv⟩:=VD g.d (hi i mem_cons_self) hc v2 v1 fun e=>absurd e aO;have h1:=Ud hc aO r s _ g1.tb (fun j hj=>jv j (hi j (mem_cons_of_mem _ hj))) fun w hw=>hv w (mem_cons_of_mem _ hw);exact⟨h1.1,h1.2.trans (by show(t.rows.set _ _).length=_;rw[length_set])⟩
theorem afQ{k:Int}{c:Int}{v:Vl}(h:jX k v)(hk:¬(k≠c∧k≠0)):jX c v:=by
 refine⟨h.1,?_⟩;have:=h.2;omega
theorem acm(g:dB t n)(s:bJ)(lf:∀o∈s.bN,o.nm.size≤maxLen)(fT:∀o∈s.bN,o.v.Ok)(hn:n≤260):dB (eN t s).1 (n+t.rows.length)∧(eN t s).1.rows.length=t.rows.length:=by
 have hz:dB t (n+t.rows.length)∧t.rows.length=t.rows.length:=⟨g.mono w4,rfl⟩
 unfold eN;by_cases hA:bz t.ay s.set<0
 ·rw[if_pos hA];exact hz
 rw[if_neg hA];by_cases hB:(dm t.ay s.bN).2≠0
 ·rw[if_pos hB];exact hz
 rw[if_neg hB];by_cases hC:(dm t.ay s.bN).1≠(t.ay.getD (bz t.ay s.set).toNat ⟨⟨#[]⟩,0⟩).k∧(dm t.ay s.bN).1≠0
 ·rw[if_pos hC];exact hz
 rw[if_neg hC];by_cases hD:(aq t s.aj).2≠0
 ·rw[if_pos hD];exact hz
 rw[if_neg hD];by_cases hN:(fZ t (bz t.ay s.set) s.bN [] (aq t s.aj).1).2≠0
 ·rw[if_pos hN];exact hz
 rw[if_neg hN];have Z:=Classical.not_not.1 hN;have hkz:(dm bY s.bN).2=0:=(by rw[←g.ay];exact Classical.not_not.1 hB)
 have E:=Jw g lf fT hkz (aq t s.aj).1 [] (pV g s.aj) Z (fun v O=>by cases O);have hlen:=R6 (t:=t) (c:=bz t.ay s.set) (e:=s.bN) (aq t s.aj).1 [] Z;have YV:=(KP (l:=t.ay) (nm:=s.set)).2;have Y2:t.ay.length=bY.length:=(by rw[g.ay])
 have U:(bz t.ay s.set).toNat<bY.length:=(by omega)
 have HU:∀v,jX (dm bY s.bN).1 v→jX (bY[(bz t.ay s.set).toNat]'U).k v:=fun v O=>by
  refine afQ O ?_;rw[g.ay] at hC;have e:bY.getD (bz bY s.set).toNat ⟨⟨#[]⟩,0⟩=bY[(bz t.ay s.set).toNat]'U:=by
   rw[getD_eq_getElem?_getD];rw[show(bz bY s.set).toNat=(bz t.ay s.set).toNat by rw[g.ay]];rw[getElem?_eq_getElem U];rfl
  rw[e] at hC;exact hC
 by_cases hP:0<bz t.ay s.set
 ·rw[if_pos hP];have h1:=Ud (c:=(bz t.ay s.set).toNat) U w4 (aq t s.aj).1 (fZ t (bz t.ay s.set) s.bN [] (aq t s.aj).1).1 t g (pV g s.aj) fun v O=>⟨(E v O).1,HU v (E v O).2.1⟩
  exact⟨h1.1.mono w4,h1.2⟩
 rw[if_neg hP];have yB:bz t.ay s.set=0:=(by omega)
 by_cases hM:(kG {t with ix:=oC t t.ix (aq t s.aj).1} (aq t s.aj).1 (fZ t (bz t.ay s.set) s.bN [] (aq t s.aj).1).1).2≠0
 ·rw[if_pos hM];exact hz
 rw[if_neg hM];have hnd:=yK g s.aj;have I:=pV g s.aj;have mY:=y8 g s.aj;obtain⟨D,d1,d2⟩:=Uc (aq t s.aj).1 t.ix [] g.d hnd fun i hi=>⟨I i hi,not_mem_nil⟩
 obtain⟨D',e1,e2,e3⟩:=U2 (aq t s.aj).1 (fZ t (bz t.ay s.set) s.bN [] (aq t s.aj).1).1 _ n D d1 w4 hnd (by rw[hlen];simp) (fun i hi=>⟨I i hi,(d2 i).2 (.inl hi)⟩) (fun v O=>⟨(E v O).1,by have:=HU v (E v O).2.1;simp only[yB] at this;exact this,(E v O).2.2 yB⟩) (Classical.not_not.1 hM);have hD':dB _ _:=(e1.alD (D':=[]) fun i=>by rw[e3,d2];simp).tb;have hle:(aq t s.aj).1.length≤t.rows.length:=by
  have h1:((aq t s.aj).1.map Int.toNat).Nodup:=by
   rw[Nodup,pairwise_map];refine(Pairwise.and_mem.1 hnd).imp fun {a b} h e=>h.2.2 ?_;have:=(I a h.1).1;have:=(I b h.2.1).1;omega
  have h2:=h1.length_le_of_subset (l₂:=range t.rows.length) fun x hx=>by
   obtain⟨y,hy,rfl⟩:=mem_map.1 hx;exact mem_range.2 (I y hy).2.1
  rwa [length_map,length_range] at h2
 exact⟨hD'.mono w4,e2⟩

end Go.Proofs.YtkgmonfgofobaaaGreatDoor.Ba
namespace Go.Proofs.YtkgmonfgofobaaaGreatDoor.Pa
open List
open Go.Proofs.Tryz
open Go.RowKit V Pk Vl Go.Proofs.YtkgmonfgofobaaaGreatDoor.Nm Pc
variable {t:ByteArray}
theorem afR{s:ByteArray}(h:cy s=0):oo s=true∧s.size≤8:=by
 unfold cy at h;split at h
 ·cases h
 split at h
 ·cases h
 rename_i h1 h2;rw[Bool.or_eq_true,Bool.not_eq_true'] at h2;refine⟨?_,by omega⟩;cases hw:oo s with
 | true=>rfl
 | false=>exact absurd (.inl hw) h2
variable {G:List (Nat×List Value)}
def tT:List Vl→ByteArray
 | []=>⟨#[120]⟩
 | v::_=>v.s
def ec(s:bJ):Prop:=eS s∧1≤s.kind∧s.kind≤6∧s.gS≤9223372036854775807∧dS s=0
structure AX (w:List aS):Prop where
 l:w.length≤40
 f:mR w=0
 b:∀o∈w,o.nm.size≤maxLen∧-9223372036854775808≤o.v.n∧o.v.n≤9223372036854775807
theorem afS:AX []:=⟨Nat.zero_le _,rfl,fun _ h=>by cases h⟩
theorem acn(t:Tw):∀o∈bL 3 t,-20≤o.v.n∧o.v.n≤40:=by
 have hz:∀j nm,-20≤(⟨j,bu,nm⟩:aS).v.n∧(⟨j,bu,nm⟩:aS).v.n≤40:=fun _ _=>⟨by show(-20:Int)≤0;decide,by show(0:Int)≤40;decide⟩
 have O:∀n s,-20≤(pW n s).v.n∧(pW n s).v.n≤40:=fun n s=>by
  show -20≤(ou ⟨n,dI n 40-20,s⟩).n∧(ou ⟨n,dI n 40-20,s⟩).n≤40;have U:=iX n (show(1:Int)≤40 by decide);have h2:=iX (dI n 40-20) (show(1:Int)≤2 by decide);unfold ou;split
  ·dsimp only;omega
  split
  ·dsimp only;omega
  split
  ·dsimp only;omega
  exact⟨by show(-20:Int)≤0;decide,by show(0:Int)≤40;decide⟩
 have E:∀k n s,∀o∈kP k n s,-20≤o.v.n∧o.v.n≤40:=fun k n s o ho=>by
  unfold kP at ho;split at ho<;>(simp only[mem_singleton] at ho;subst ho)
  ·exact hz _ _
  exact O _ _
 have key:∀(r:Nat) (t:Tw),∀o∈bL r t,-20≤o.v.n∧o.v.n≤40:=by
  intro r;induction r with
  | zero=>intro t;obtain⟨k,n,s,ts⟩:=t;exact E k n s
  | succ r ih =>
   intro t o ho;obtain⟨k,n,s,ts⟩:=t;have I:∀i:Nat,∀o∈gb r ts n s i,-20≤o.v.n∧o.v.n≤40:=fun i o ho=>by
    unfold gb at ho;split at ho
    ·exact ih _ o ho
    exact E _ _ _ o ho
   rw[tw] at ho;split at ho
   ·simp only[mem_singleton] at ho;subst ho;exact O _ _
   split at ho
   ·simp only[mem_singleton] at ho;subst ho;exact hz _ _
   split at ho
   ·rcases mem_append.1 ho with ho|ho
    ·exact I 0 o ho
    simp only[mem_singleton] at ho;subst ho;exact hz _ _
   rcases mem_append.1 ho with ho|ho
   ·rcases mem_append.1 ho with ho|ho
    ·exact I 0 o ho
    exact I 1 o ho
   simp only[mem_singleton] at ho;subst ho;exact hz _ _
 exact key 3 t
theorem wD(t:Tw):AX (bL 3 t):=by
 have h:=II t;refine⟨by omega,?_,fun o ho=>⟨ac7 (ac6 t) o ho,?_⟩⟩
 ·unfold mR;rw[if_neg w4];exact Ew t
 have:=acn t o ho;omega
theorem aco(s:bJ):eP s s=true:=by
 unfold eP;simp only[Bool.and_eq_true,beq_iff_eq,wv,and_self]
theorem uS{s:bJ}(ht:cy s.table=0)(he:eC s=0)(hb:en s=s):dS s=0:=by
 unfold dS;rw[if_neg (fun h=>h.2 ht),hb,if_neg (fun h=>by rw[aco] at h;cases h.2),he]
theorem small{x:ByteArray}(h:cy x=0):x.size≤maxLen:=Nat.le_trans (afR h).2 w8
def sU(s:bJ):Prop:=s.aj=[]∧∀w,AX w→(4≤s.kind∨w=[])→ec {s with aj:=w}
theorem sU.xu{s:bJ}(h:sU s):ec s:=by
 have:=h.2 [] afS (.inr rfl);rw[←h.1] at this;exact this
theorem Pp(ht:cy t=0):sU {dQ with kind:=1,table:=t,ay:=bY}:=⟨rfl,fun w hw h=>by
 have E:w=[]:=h.resolve_left (by show ¬(4:Int)≤1;decide);subst E;exact⟨⟨⟨by show 4≤6;decide,Nat.zero_le _,Nat.zero_le _,Nat.zero_le _,Nat.zero_le _⟩,small ht,by show ∀c∈bY,c.n.size≤maxLen;decide,(fun _ h=>by cases h),Nat.zero_le _,Nat.zero_le _,(fun _ h=>by cases h),(fun _ h=>by cases h),(fun _ h=>by cases h)⟩,by show(1:Int)≤1;decide,by show(1:Int)≤6;decide,Ab,
  uS ht (show fO bY=0 by decide +kernel) aB⟩⟩
theorem aed(ht:cy t=0):sU {dQ with kind:=2,table:=t}:=⟨rfl,fun w hw h=>by
 have E:w=[]:=h.resolve_left (by show ¬(4:Int)≤2;decide);subst E;exact⟨⟨⟨Nat.zero_le _,Nat.zero_le _,Nat.zero_le _,Nat.zero_le _,Nat.zero_le _⟩,small ht,(fun _ h=>by cases h),(fun _ h=>by cases h),Nat.zero_le _,Nat.zero_le _,(fun _ h=>by cases h),(fun _ h=>by cases h),(fun _ h=>by cases h)⟩,by show(1:Int)≤2;decide,by show(2:Int)≤6;decide,Ab,
  uS ht aB aB⟩⟩
theorem Ue{x:Int}(h0:0≤x):iT ⟨2,x,⟨#[]⟩⟩=0:=by
 unfold iT;rw[if_neg (by intro h;have:=h.2;dsimp only at this;omega)];kernel_rfl
theorem afT{s:ByteArray}(h:s.size≤20):iT ⟨3,0,s⟩=0:=by
 unfold iT;rw[if_neg (by intro h;exact absurd h.1 (by show ¬(3:Int)=2;decide))];unfold cl;rw[if_neg (by show ¬(3:Int)=0;decide),if_neg (by show ¬(3:Int)=1;decide),if_neg (by show ¬(3:Int)=2;decide),if_pos rfl,if_neg (fun h=>h rfl),if_neg (by show ¬s.size>20;omega)]
theorem acp(n:Int):iT (qH n)=0∧-9223372036854775808≤(qH n).n∧(qH n).n≤9223372036854775807:=by
 have h:=iX n (show(1:Int)≤3 by decide);unfold qH;split
 ·exact⟨by decide,by decide,by decide⟩
 have h2:dI n 3=0∨dI n 3=1:=(by omega)
 rcases h2 with h2|h2<;>rw[h2]<;>exact⟨by decide,by decide,by decide⟩
theorem aaP(ht:cy t=0){x y b:Int}(hx:0≤x∧x<12)(hy:0≤y∧y<9){u:ByteArray}(Z:u.size≤6):sU {dQ with kind:=3,table:=t,row:=[⟨2,x,⟨#[]⟩⟩,⟨2,y,⟨#[]⟩⟩,⟨3,0,u⟩,qH b]}:=⟨rfl,fun w hw h=>by
 have E:w=[]:=h.resolve_left (by show ¬(4:Int)≤3;decide);subst E;have l1:=Ue hx.1;have l2:=Ue hy.1;have l3:iT ⟨3,0,u⟩=0:=afT w4;obtain⟨l4,O,U⟩:=acp b;refine⟨⟨⟨Nat.zero_le _,by show 4≤6;decide,Nat.zero_le _,Nat.zero_le _,Nat.zero_le _⟩,small ht,(fun _ h=>by cases h),(fun _ h=>by cases h),Nat.zero_le _,Nat.zero_le _,fun v I=>?_,(fun _ h=>by cases h),(fun _ h=>by cases h)⟩,by show(1:Int)≤3;decide,by show(3:Int)≤6;decide,Ab,uS ht ?_ aB⟩
 ·simp only[mem_cons,not_mem_nil,or_false] at I;rcases I with rfl|rfl|rfl|rfl
  ·dsimp only;omega
  ·dsimp only;omega
  ·dsimp only;omega
  exact⟨O,U⟩
 show dR [⟨2,x,⟨#[]⟩⟩,⟨2,y,⟨#[]⟩⟩,⟨3,0,u⟩,qH b]=0;unfold dR;rw[if_neg bq];simp[jL,l1,l2,l3,l4]⟩
theorem Pq(ht:cy t=0){N:List ByteArray}(E:N.length≤6∧∀x∈N,cy x=0){c:Bool}(hc:c=true→N=[]){o:ByteArray}(ho:o=⟨#[]⟩∨cy o=0){d:Bool}(hd:o=⟨#[]⟩→d=false){m:Int}(hm:-1≤m∧m≤7):sU {dQ with kind:=4,table:=t,names:=N,count:=c,order:=o,down:=d,gS:=m}:=⟨rfl,fun w hw h=>by
 have I:o.size≤maxLen:=(by rcases ho with rfl|h;exact Nat.zero_le _;exact small h)
 refine⟨⟨⟨Nat.zero_le _,Nat.zero_le _,E.1,hw.l,Nat.zero_le _⟩,small ht,(fun _ h=>by cases h),fun x hx=>small (E.2 x hx),I,Nat.zero_le _,(fun _ h=>by cases h),hw.b,(fun _ h=>by cases h)⟩,by show(1:Int)≤4;decide,by show(4:Int)≤6;decide,(by show _≤(9223372036854775807:Int);dsimp only;omega),uS ht ?_ aB⟩;show ox {dQ with kind:=4,table:=t,names:=N,count:=c,aj:=w,order:=o,down:=d,gS:=m}=0;have gJ:jL cy N=0:=by
  have key:∀l:List ByteArray,(∀x∈l,cy x=0)→jL cy l=0:=by
   intro l;induction l with
   | nil=>intro _;rfl
   | cons a r ih=>intro h;rw[jL,if_neg (by rw[h a mem_cons_self];decide)];exact ih fun x hx=>h x (mem_cons_of_mem _ hx)
  exact key N E.2
 unfold ox;dsimp only;rw[if_neg w4,if_neg w4,if_neg (by
  rintro(⟨h1,h2⟩|⟨h1,h2⟩)
  ·rw[hc h1] at h2;simp at h2
  rw[hd (wv.1 h2)] at h1;cases h1),if_neg (by rw[gJ];decide),if_neg (by rw[hw.f];decide)]
 split
 ·rfl
 rename_i h2;exact ho.resolve_left fun h=>h2 (wv.2 h)⟩
theorem aaQ(ht:cy t=0){c:ByteArray}(hc:cy c=0)(E:Tw):sU {dQ with kind:=5,table:=t,set:=c,bN:=bL 3 E}:=⟨rfl,fun w hw h=>by
 have ho:=wD E;refine⟨⟨⟨Nat.zero_le _,Nat.zero_le _,Nat.zero_le _,hw.l,ho.l⟩,small ht,(fun _ h=>by cases h),(fun _ h=>by cases h),Nat.zero_le _,small hc,(fun _ h=>by cases h),hw.b,ho.b⟩,by show(1:Int)≤5;decide,by show(5:Int)≤6;decide,Ab,uS ht ?_ aB⟩;show(if cy c=0 then (if ij (bL 3 E)=0 then mR w else ij (bL 3 E)) else cy c)=0;rw[if_pos hc,if_pos (Ew E),hw.f]⟩
theorem aaR(ht:cy t=0):sU {dQ with kind:=6,table:=t}:=⟨rfl,fun w hw h=>by
 refine⟨⟨⟨Nat.zero_le _,Nat.zero_le _,Nat.zero_le _,hw.l,Nat.zero_le _⟩,small ht,(fun _ h=>by cases h),(fun _ h=>by cases h),Nat.zero_le _,Nat.zero_le _,(fun _ h=>by cases h),hw.b,(fun _ h=>by cases h)⟩,by show(1:Int)≤6;decide,by show(6:Int)≤6;decide,Ab,uS ht hw.f aB⟩⟩
def cj:List ByteArray:=[⟨#[116]⟩,⟨#[117]⟩]
def gm:List ByteArray:=[⟨#[]⟩,⟨#[110]⟩,⟨#[115]⟩,⟨#[105,100]⟩]
def AY:List ByteArray:=[⟨#[110]⟩,⟨#[110]⟩,⟨#[115]⟩,⟨#[98]⟩,⟨#[105,100]⟩]
theorem Gk:∀x∈cj,cy x=0:=by decide +kernel
theorem aiT:∀x∈gm,x.size=0∨cy x=0:=by decide +kernel
theorem Lq:∀x∈AY,cy x=0:=by decide +kernel
theorem Bl(n:Int)(h1:-9223372036854775808≤n)(h2:n≤9223372036854775807):VP Tryz.prog G 42 [ae n] (.agg [ae (qH n).k,ae (qH n).n,aZ (qH n).s]):=by
 refine VC.body func42 rfl ntmps42 aQ fun X0 w0 bf=>?_;refine bS ?_;refine OD.alloc (ds:=[_,_,_]) ap rfl rfl zeroValue33 rfl (fun b2=>?_);refine an 10 [0,2] ?_;refine cL [0,2,5] (kv G n 3 h1 h2 w8) ?_;refine ax ?_ ?_<;>intro aO bA
 ·refine aA 1 ?_;refine aM 0 [_,_,_] sizeOf33 ?_;refine an 10 [2] ?_;refine aK [] ?_;refine⟨?_,rfl⟩;unfold qH bu;simp_all
 refine aA 1 ?_;refine dO call14 (kv G n 3 h1 h2 w8) ?_;refine aG 1 ?_;refine aM 0 [_,_,_] sizeOf33 ?_;refine an 10 [2] ?_;refine aK [] ?_;refine⟨?_,rfl⟩;unfold qH bu;simp_all

theorem ahn{s:ByteArray}(h:s.size=0):s=⟨#[]⟩:=by
 obtain⟨d⟩:=s;have:d = #[]:=Array.eq_empty_of_size_eq_zero h;rw[this]
theorem acq(k t a b:Int)(row:List Vl)(O U:Int)(Z:ByteArray)(E:List Tw)(y1 y2:Int)(y3:ByteArray)(I:List Tw)(bare:Bool):VP Tryz.prog G 41 [.agg [ae k,ae t,ae a,ae b,au 3 cV row,ae O,ae U,aZ Z,.list 4 (Tw.nM E) E.length,ae y1,ae y2,aZ y3,.list 4 (Tw.nM I) I.length,bI bare]] (aZ (tT row)):=by
 refine VC.body func41 rfl ntmps41 aQ fun X0 w0 bf=>?_;refine bS ?_;refine OD.box (ds:=[_,_,_,_,_,_,_,_,_,_,_,_,_,_]) ap rfl rfl ot rfl rfl (fun b1=>?_);refine an 12 [1] ?_;refine af [1,6] ?_;refine ax ?_ ?_<;>intro aO bA
 ·obtain⟨v,r,rfl⟩:∃v r,row=v::r:=(by (cases row;simp at aO;exact⟨_,_,rfl⟩))
  refine cM [2] ?_;refine aP 2 ?_ (h:=by exact(oe (mk:=Op.indexAddr 63) rfl ot bP (by first|exact oU runUnderlying63 sizeOf125 (j:=0) rfl bq|exact oV runUnderlying63 sizeOf125 (j:=0) rfl bq)));refine aP 1 ?_ (h:=by exact(cR (mk:=Op.load 9) rfl ot (by exact vc (i:=0) (j:=2) eZ isAgg9 bq rfl)));refine bD ?_;refine aK [] ?_;exact⟨rfl,rfl⟩
 obtain rfl:row=[]:=eq_nil_of_length_eq_zero (by simp at aO;simp[aO]);refine af [2] ?_;exact nE
theorem ZH(k t a b:Int)(row:List Vl)(x1 x2:Int)(x3:ByteArray)(E:List Tw)(y1 y2:Int)(y3:ByteArray)(I:List Tw)(bare:Bool)(dL:-9223372036854775808≤k)(fF:k≤9223372036854775807)(ht1:-9223372036854775808≤t)(ht2:t≤9223372036854775807)(O:-9223372036854775808≤a)(qf:a≤9223372036854775807)(ji:-9223372036854775808≤b)(pF:b≤9223372036854775807)(rQ:∀v∈row,v.s.size≤maxLen)(hto:(Tw.mk x1 x2 x3 E).Ok)(NJ:(Tw.mk y1 y2 y3 I).Ok):VC Tryz.prog G 23 [.agg [ae k,ae t,ae a,ae b,au 3 cV row,ae x1,ae x2,aZ x3,.list 4 (Tw.nM E) E.length,ae y1,ae y2,aZ y3,.list 4 (Tw.nM I) I.length,bI bare]] [] (fun r S'=>∃s,r = .agg (bj s)∧S'=[]∧ec s∧s.kind=1+dI k 6∧s.table=cj.getD (dI t 2).toNat ⟨#[]⟩):=by
 refine VC.body func23 rfl ntmps23 aQ fun X0 w0 bf=>?_;have aq4:=iX k (show(1:Int)≤6 by decide);have alF:=kv G k 6 dL fF w8;generalize dI k 6=ki at *;have alG:=iX t (show(1:Int)≤2 by decide);have alH:=kv G t 2 ht1 ht2 w8;generalize dI t 2=ti at *;obtain⟨tj,rfl⟩:=Int.eq_ofNat_of_zero_le alG.1;have HY:tj<cj.length:=(by show tj<2;omega)
 have U:=Gk cj[tj] (getElem_mem HY);have Oq:cj[tj]=cj.getD ((tj:Nat):Int).toNat ⟨#[]⟩:=(by rw[Int.toNat_natCast,getD_eq_getElem?_getD,getElem?_eq_getElem HY];rfl)
 generalize alI:cj[tj]=tn at *;refine bS ?_;refine OD.box (ds:=[_,_,_,_,_,_,_,_,_,_,_,_,_,_]) ap rfl rfl ot rfl rfl (fun b1=>?_);refine OD.alloc (ds:=[_,_,_,_,_,_,_,_,_,_,_,_]) ap rfl rfl zeroValue46 rfl (fun b2=>?_);refine an 111 [1,2] ?_;refine CD.seq ?_;refine s8 12 11 [1,2,3,14] ?_;refine cJ (alF) ?_;refine cJ (alH) ?_;refine aP 1 ?_ (h:=by exact(cR (mk:=Op.load 9) rfl ot (by exact rD (g:=cS) (ls:=cj) (i:=tj) (d:=aZ tn) jB isAgg9 HY (by show some (D.v (.string (cj[tj]'HY)))=some (D.v (.string tn));rw[alI]))));refine mG 1 ?_;refine pA ?_;refine jI ?_;refine⟨rfl,fun b3=>?_⟩;refine aM 0 [_,_,_,_,_,_,_,_,_,_,_,_] sizeOf46 ?_;refine an 111 [1,2,3] ?_;refine iv [1,2,3] (fun aR _ aD=>∃(s:bJ),(sU s)∧(s.kind=1+ki)∧(s.table=tn)∧aD=(⟨111,aR,[⟨b3,46,12,[ae s.kind,aZ s.table,au 2 cC s.ay,au 3 cV s.row,au 1 cS s.names,bI s.count,au 5 cO s.aj,aZ s.order,bI s.down,ae s.gS,aZ s.set,au 5 cO s.bN]⟩,⟨b2,46,12,[ae 0,fk,bF,bF,bF,bI false,bF,fk,bI false,ae 0,fk,bF]⟩,⟨b1,65,14,[ae k,ae t,ae a,ae b,au 3 cV row,ae x1,ae x2,aZ x3,.list 4 (Tw.nM E) E.length,ae y1,ae y2,aZ y3,.list 4 (Tw.nM I) I.length,bI bare]⟩]⟩:St)) ?_ ?_
 ·refine CD.seq ?_;refine CD.cells (k:=0) (cs':=[_,_,.list 2 [] 0,.list 3 [] 0,.list 1 [] 0,_,.list 5 [] 0,_,_,_,_,.list 5 [] 0]) (S':=[_,_,_]) rfl (by repeat (first|exact trivial|exact⟨cq,trivial⟩|exact⟨ey,trivial⟩|refine⟨cq,?_⟩|refine⟨ey,?_⟩)) rfl ?_;refine bX [1,2,3,16] ?_;refine af [1,2,3,16,17] ?_;refine ax ?_ ?_<;>intro aO bA
  ·obtain rfl:ki=0:=(by simp at aO;omega)
   refine th ?_;refine OD.gQ ap rfl rfl rfl call13 (Bc) trivial ?_;refine aG 1 ?_;refine aM 0 [_,_,_,_,_,_,_,_,_,_,_,_] sizeOf29 ?_;refine an 111 [1,2,3] ?_;refine⟨_,aJ,{dQ with kind:=1+0,table:=tn,ay:=bY},(Pp U),CM,rfl,rfl⟩
  refine af [1,2,3,16,21] ?_;refine ax ?_ ?_<;>intro aY cz
  ·obtain rfl:ki=2:=(by simp at aY;omega)
   have alJ:=iX a (show(1:Int)≤12 by decide);have alK:=kv G a 12 O qf w8;generalize dI a 12=xa at *;have alL:=iX b (show(1:Int)≤9 by decide);have alM:=kv G b 9 ji pF w8;generalize dI b 9=xb at *;have ym:(tT row).size≤maxLen:=(by (cases row;decide;exact rQ _ mem_cons_self))
   have yB:(mX (tT row) 2).size≤maxLen:=(by rw[Es];exact Nat.le_trans (Nat.min_le_left _ _) ym)
   have de:((⟨#[]⟩:ByteArray)++mX (tT row) 2).size≤maxLen:=(by rw[ByteArray.size_append];show 0+_≤_;omega)
   have sZ:(⟨#[]⟩:ByteArray).size+(mX (tT row) 2).size≤9223372036854775807:=(by (have:=yB;unfold maxLen at this;show 0+_≤_;omega))
   have hu6:=(aaj ((⟨#[]⟩:ByteArray)++mX (tT row) 2)).2;refine nD 18 [1,2,3,40] ?_;refine cJ (alK) ?_;refine cJ (alM) ?_;refine cJ (acq k t a b row x1 x2 x3 E y1 y2 y3 I bare) ?_;refine cJ (FD (tT row) 2 ym) ?_;refine aP 0 ?_ (h:=by exact(dj rfl bP ot (JL sZ)));refine cJ (Nm.rA ((⟨#[]⟩:ByteArray)++mX (tT row) 2) de) ?_;refine cJ (Bl b ji pF) ?_;refine bD ?_;refine aG 1 ?_;refine aM 0 [_,_,_,_,_,_,_,_,_,_,_,_] sizeOf43 ?_;refine an 111 [1,2,3] ?_;refine⟨_,aJ,{dQ with kind:=1+2,table:=tn,row:=[⟨2,xa,⟨#[]⟩⟩,⟨2,xb,⟨#[]⟩⟩,⟨3,0,wN ((⟨#[]⟩:ByteArray)++mX (tT row) 2)⟩,qH b]},(aaP U alJ alL hu6),CM,rfl,rfl⟩
  refine af [1,2,3,16,42] ?_;refine ax ?_ ?_<;>intro cc cN
  ·obtain rfl:ki=3:=(by simp at cc;omega)
   refine iv [1,2,3] (fun aR _ aD=>∃(N:List ByteArray),((N.length≤6∧∀x∈N,cy x=0))∧aD=(⟨111,aR,[⟨b3,46,12,[ae (1+3),aZ tn,.list 2 [] 0,.list 3 [] 0,au 1 cS N,bI false,.list 5 [] 0,fk,bI false,ae (-1),fk,.list 5 [] 0]⟩,⟨b2,46,12,[ae 0,fk,bF,bF,bF,bI false,bF,fk,bI false,ae 0,fk,bF]⟩,⟨b1,65,14,[ae k,ae t,ae a,ae b,au 3 cV row,ae x1,ae x2,aZ x3,.list 4 (Tw.nM E) E.length,ae y1,ae y2,aZ y3,.list 4 (Tw.nM I) I.length,bI bare]⟩]⟩:St)) ?_ ?_
   ·refine CD.seq ?_;have aq5:=iX a (show(1:Int)≤3 by decide);have alN:=kv G a 3 O qf w8;generalize dI a 3=xc at *;refine gC [1,2,3,47] ?_;refine cJ (alN) ?_;refine bD ?_;refine ax ?_ ?_<;>intro cQ ek
    ·have pyb:=iX b (show(1:Int)≤3 by decide);have Ot:=kv G b 3 ji pF w8;generalize dI b 3=yb at *;have hyb:yb=0∨yb=1∨yb=2:=(by omega)
     rcases hyb with rfl|rfl|rfl
     ·refine th ?_;refine ew (cu 0 [_,_,_]) [.string ⟨#[]⟩,.string ⟨#[]⟩,.string ⟨#[]⟩] [_,_,_] zeroValue9 runUnderlying44 sizeOf9 (fun Of=>?_);refine fS 0 48 1 3 ?_;refine aG 2 ?_;refine dO call14 (Ot) ?_;refine aG 1 ?_;refine bQ (eE (l:=0) (h:=1) rfl ot trivial ⟨_,ot⟩ ME) ?_;refine aG 1 ?_;refine aM 0 [_,_,_,_,_,_,_,_,_,_,_,_] sizeOf44 ?_;refine an 111 [1,2,3] ?_;refine⟨_,aJ,[⟨#[115]⟩],⟨by decide,by decide +kernel⟩,rfl⟩
     ·refine th ?_;refine ew (cu 0 [_,_,_]) [.string ⟨#[]⟩,.string ⟨#[]⟩,.string ⟨#[]⟩] [_,_,_] zeroValue9 runUnderlying44 sizeOf9 (fun Of=>?_);refine fS 0 48 1 3 ?_;refine aG 2 ?_;refine dO call14 (Ot) ?_;refine aG 1 ?_;refine bQ (eE (l:=0) (h:=2) rfl ot trivial ⟨_,ot⟩ ME) ?_;refine aG 1 ?_;refine aM 0 [_,_,_,_,_,_,_,_,_,_,_,_] sizeOf44 ?_;refine an 111 [1,2,3] ?_;refine⟨_,aJ,[⟨#[115]⟩,⟨#[105,100]⟩],⟨by decide,by decide +kernel⟩,rfl⟩
     refine th ?_;refine ew (cu 0 [_,_,_]) [.string ⟨#[]⟩,.string ⟨#[]⟩,.string ⟨#[]⟩] [_,_,_] zeroValue9 runUnderlying44 sizeOf9 (fun Of=>?_);refine fS 0 48 1 3 ?_;refine aG 2 ?_;refine dO call14 (Ot) ?_;refine aG 1 ?_;refine bQ (eE (l:=0) (h:=3) rfl ot trivial ⟨_,ot⟩ ME) ?_;refine aG 1 ?_;refine aM 0 [_,_,_,_,_,_,_,_,_,_,_,_] sizeOf44 ?_;refine an 111 [1,2,3] ?_;refine⟨_,aJ,[⟨#[115]⟩,⟨#[105,100]⟩,⟨#[110]⟩],⟨by decide,by decide +kernel⟩,rfl⟩
    refine CD.skip ?_;refine⟨_,aJ,[],⟨by simp,fun _ h=>by cases h⟩,rfl⟩
   rintro _ ⟨N,hN,rfl⟩;refine CD.seq ?_;have aq6:=iX a (show(1:Int)≤5 by decide);have alO:=kv G a 5 O qf w8;generalize dI a 5=xd at *;refine dG 2 ?_;refine dO call14 (alO) ?_;refine aG 2 ?_;refine aM 0 [_,_,_,_,_,_,_,_,_,_,_,_] sizeOf4 ?_;refine an 111 [1,2,3] ?_;refine iv [1,2,3] (fun aR _ aD=>∃(N:List ByteArray),∃(ct:Bool),((N.length≤6∧∀x∈N,cy x=0))∧(ct=true→N=[])∧aD=(⟨111,aR,[⟨b3,46,12,[ae (1+3),aZ tn,.list 2 [] 0,.list 3 [] 0,au 1 cS N,bI ct,.list 5 [] 0,fk,bI false,ae (-1),fk,.list 5 [] 0]⟩,⟨b2,46,12,[ae 0,fk,bF,bF,bF,bI false,bF,fk,bI false,ae 0,fk,bF]⟩,⟨b1,65,14,[ae k,ae t,ae a,ae b,au 3 cV row,ae x1,ae x2,aZ x3,.list 4 (Tw.nM E) E.length,ae y1,ae y2,aZ y3,.list 4 (Tw.nM I) I.length,bI bare]⟩]⟩:St)) ?_ ?_
   ·refine af [1,2,3,61] ?_;refine ax ?_ ?_<;>intro dV fB
    ·refine dG 1 ?_;refine aM 0 [_,_,_,_,_,_,_,_,_,_,_,_] sizeOf44 ?_;refine an 111 [1,2,3] ?_;refine⟨_,(Wk.cells (k:=0) (cs':=[_,_,_,_,.list 1 [] 0,_,_,_,_,_,_,_]) rfl (by repeat (first|exact trivial|exact⟨cq,trivial⟩|exact⟨ey,trivial⟩|refine⟨cq,?_⟩|refine⟨ey,?_⟩)) rfl).trans (aJ),[],(xd==3),⟨Nat.zero_le _,fun _ h=>by cases h⟩,(fun _=>rfl),rfl⟩
    refine CD.skip ?_;refine⟨_,aJ,N,(xd==3),hN,(fun h=>absurd h (by rw[dV];decide)),rfl⟩
   rintro _ ⟨N,ct,hN,hcn,rfl⟩;refine CD.seq ?_;have alP:=iX b (show(1:Int)≤4 by decide);have alQ:=kv G b 4 ji pF w8;generalize dI b 4=xe at *;obtain⟨ej,rfl⟩:=Int.eq_ofNat_of_zero_le alP.1;have Ou:ej<gm.length:=(by show ej<4;omega)
   have jP:=aiT gm[ej] (getElem_mem Ou);generalize alR:gm[ej]=od at *;refine th ?_;refine ew (cu 0 [_,_,_,_]) [.string ⟨#[]⟩,.string ⟨#[]⟩,.string ⟨#[]⟩,.string ⟨#[]⟩] [_,_,_,_] zeroValue9 runUnderlying44 sizeOf9 (fun DS=>?_);refine fS 0 63 1 4 ?_;refine aG 2 ?_;refine dO call14 (alQ) ?_;refine aG 1 ?_;refine bQ (cR (mk:=Op.load 9) rfl ot (by exact rD (g:=cS) (ls:=gm) (i:=ej) (d:=aZ od) jB isAgg9 Ou (by show some (D.v (.string (gm[ej]'Ou)))=some (D.v (.string od));rw[alR]))) ?_;refine aG 1 ?_;refine aM 0 [_,_,_,_,_,_,_,_,_,_,_,_] sizeOf9 ?_;refine an 111 [1,2,3] ?_;refine iv [1,2,3] (fun aR _ aD=>∃(dn:Bool),(od=⟨#[]⟩→dn=false)∧aD=(⟨111,aR,[⟨b3,46,12,[ae (1+3),aZ tn,.list 2 [] 0,.list 3 [] 0,au 1 cS N,bI ct,.list 5 [] 0,aZ od,bI dn,ae (-1),fk,.list 5 [] 0]⟩,⟨b2,46,12,[ae 0,fk,bF,bF,bF,bI false,bF,fk,bI false,ae 0,fk,bF]⟩,⟨b1,65,14,[ae k,ae t,ae a,ae b,au 3 cV row,ae x1,ae x2,aZ x3,.list 4 (Tw.nM E) E.length,ae y1,ae y2,aZ y3,.list 4 (Tw.nM I) I.length,bI bare]⟩]⟩:St)) ?_ ?_
   ·have aq7:=iX a (show(1:Int)≤2 by decide);have alS:=kv G a 2 O qf w8;generalize dI a 2=xf at *;refine dG 4 ?_;refine bW 73 (fun Z aiU=>?_) (fun Z aiU=>?_)
    ·refine aG 2 ?_;refine OD.gQ iq rfl rfl rfl call14 (alS) ⟨ot,bP,trivial⟩ ?_;refine aG 3 ?_;refine aM 0 [_,_,_,_,_,_,_,_,_,_,_,_] sizeOf4 ?_;refine an 111 [1,2,3] ?_;refine⟨_,aJ,(xf==1),(fun h=>by rw[h] at Z;exact absurd Z (by decide +kernel)),rfl⟩
    refine yd 4 ?_;refine aG 2 ?_;refine aM 0 [_,_,_,_,_,_,_,_,_,_,_,_] sizeOf4 ?_;refine an 111 [1,2,3] ?_;refine⟨_,aJ,false,(fun _=>rfl),rfl⟩
   rintro _ ⟨dn,Av,rfl⟩;have aq8:=iX a (show(1:Int)≤9 by decide);have alT:=kv G a 9 O qf w8;generalize dI a 9=xg at *;refine dG 2 ?_;refine dO call14 (alT) ?_;refine aG 2 ?_;refine aM 0 [_,_,_,_,_,_,_,_,_,_,_,_] sizeOf3 ?_;refine an 111 [1,2,3] ?_;refine⟨_,aJ,{dQ with kind:=1+3,table:=tn,names:=N,count:=ct,order:=od,down:=dn,gS:=xg-1},(Pq U hN hcn (jP.imp (fun h=>ahn h) id) Av w4),CM,rfl,rfl⟩
  refine af [1,2,3,85] ?_;refine ax ?_ ?_<;>intro fD gG
  ·obtain rfl:ki=4:=(by simp at fD;omega)
   refine CD.seq ?_;have alU:=iX a (show(1:Int)≤5 by decide);have alV:=kv G a 5 O qf w8;generalize dI a 5=xh at *;obtain⟨hj,rfl⟩:=Int.eq_ofNat_of_zero_le alU.1;have Ov:hj<AY.length:=(by show hj<5;omega)
   have hsn:=Lq AY[hj] (getElem_mem Ov);generalize alW:AY[hj]=sn at *;refine th ?_;refine ew (cu 0 [_,_,_,_,_]) [.string ⟨#[]⟩,.string ⟨#[]⟩,.string ⟨#[]⟩,.string ⟨#[]⟩,.string ⟨#[]⟩] [_,_,_,_,_] zeroValue9 runUnderlying44 sizeOf9 (fun pK=>?_);refine fS 0 87 1 5 ?_;refine aG 2 ?_;refine dO call14 (alV) ?_;refine aG 1 ?_;refine bQ (cR (mk:=Op.load 9) rfl ot (by exact rD (g:=cS) (ls:=AY) (i:=hj) (d:=aZ sn) jB isAgg9 Ov (by show some (D.v (.string (AY[hj]'Ov)))=some (D.v (.string sn));rw[alW]))) ?_;refine aG 1 ?_;refine aM 0 [_,_,_,_,_,_,_,_,_,_,_,_] sizeOf9 ?_;refine an 111 [1,2,3] ?_;refine dG 2 ?_;refine dO call19 (FK (.mk x1 x2 x3 E) hto) ?_;refine aG 1 ?_;refine aM 0 [_,_,_,_,_,_,_,_,_,_,_,_] sizeOf36 ?_;refine an 111 [1,2,3] ?_;refine⟨_,aJ,{dQ with kind:=1+4,table:=tn,set:=sn,bN:=bL 3 (.mk x1 x2 x3 E)},(aaQ U hsn (.mk x1 x2 x3 E)),CM,rfl,rfl⟩
  have alX:ki=1∨ki=5:=(by simp at aO aY cc fD;omega)
  refine CD.skip ?_;refine⟨_,aJ,{dQ with kind:=1+ki,table:=tn},(by (rcases alX with rfl|rfl;exact aed U;exact aaR U)),CM,rfl,rfl⟩
 rintro _ ⟨s,Mw,Mx,My,rfl⟩;refine aA 4 ?_;refine bW 101 (fun VE aho=>?_) (fun VE aho=>?_)
 ·refine bp [1,2,3,105] ?_;refine ax ?_ ?_<;>intro iP o9
  ·have hg4:4≤s.kind∧bare=false:=(by (have q1:=iP;simp at q1;first|exact⟨by simpa using VE,by simpa using q1⟩|simp_all))
   have oA:=Mw.2 (bL 3 (.mk y1 y2 y3 I)) (wD _) (.inl hg4.1);refine dG 2 ?_;refine dO call19 (FK (.mk y1 y2 y3 I) NJ) ?_;refine aG 1 ?_;refine aM 0 [_,_,_,_,_,_,_,_,_,_,_,_] sizeOf36 ?_;refine an 111 [2,3] ?_;refine aA 1 ?_;refine aM 1 [_,_,_,_,_,_,_,_,_,_,_,_] sizeOf46 ?_;refine an 111 [2] ?_;refine aK [] ?_;exact⟨{s with aj:=bL 3 (.mk y1 y2 y3 I)},rfl,rfl,oA,Mx,My.trans Oq⟩
  have oA:=Mw.xu;refine aA 1 ?_;refine aM 1 [_,_,_,_,_,_,_,_,_,_,_,_] sizeOf46 ?_;refine an 111 [2] ?_;refine aK [] ?_;exact⟨s,rfl,rfl,oA,Mx,My.trans Oq⟩
 refine bp [1,2,3,105] ?_;refine fY ?_;have oA:=Mw.xu;refine aA 1 ?_;refine aM 1 [_,_,_,_,_,_,_,_,_,_,_,_] sizeOf46 ?_;refine an 111 [2] ?_;refine aK [] ?_;exact⟨s,rfl,rfl,oA,Mx,My.trans Oq⟩

end Go.Proofs.YtkgmonfgofobaaaGreatDoor.Pa
namespace Go.Proofs.YtkgmonfgofobaaaGreatDoor.Ba
open List
open Go.Proofs.Tryz
open Go.RowKit V Pk Tr Vl Go.Proofs.YtkgmonfgofobaaaGreatDoor.Nm Pc Cd Ex Tw
open Pa (bJ bj eS dJ ec dS eC eP en)
variable {l:List aH} {a c:Nat}
theorem Lr{v:Vl}(h:cl v=0)(h1:-9223372036854775808≤v.n)(h2:v.n≤9223372036854775807):v.Ok:=by
 unfold cl at h;have hk:(0≤v.k∧v.k≤3)∧v.s.size≤20:=by
  repeat' split at h
  all_goals first|(cases h;done)|omega
 exact⟨by omega,by omega,h1,h2,Nat.le_trans hk.2 w8⟩
theorem Qs{α:Type}{f:α→Int}:∀{l:List α},Pa.jL f l=0→∀a∈l,f a=0
 | [],_,a,ha=>by cases ha
 | x::r,h,a,ha=>by
  rw[Pa.jL] at h;split at h
  ·rename_i hx;exact absurd h hx
  rename_i hx;rcases mem_cons.1 ha with rfl|ha
  ·exact Classical.not_not.1 hx
  exact Qs h a ha
theorem Jz{w:List aS}(h:Pa.mR w=0):∀o∈w,cl o.v=0:=fun o ho=>by
 unfold Pa.mR at h;split at h
 ·rename_i h0;rw[length_eq_zero_iff.1 h0] at ho;cases ho
 obtain⟨h',h1⟩:=E0 w 0 (wA h).2 o ho;exact Be (wo h1).2.2.1
theorem afU{w:List aS}(h:ij w=0):∀o∈w,cl o.v=0:=fun o ho=>by
 obtain⟨h',h1⟩:=E0 w 0 (wA h).2 o ho;exact Be (wo h1).2.2.1
structure CK (s:bJ):Prop where
 fin:eS s
 row:∀v∈s.row,v.Ok
 wnm:∀o∈s.aj,o.nm.size≤maxLen
 wok:∀o∈s.aj,o.v.Ok
 Y3:∀o∈s.bN,o.nm.size≤maxLen
 Y4:∀o∈s.bN,o.v.Ok
theorem Lq{s:bJ}(hf:eS s)(dL:1≤s.kind)(At:s.kind≤6)(hc:dS s=0):CK s:=by
 unfold dS at hc;split at hc
 ·rename_i h1;exact absurd hc h1.2
 split at hc
 ·cases hc
 rename_i h1 h2;have hb:eP s (en s)=true:=by
  cases h:eP s (en s) with
  | true=>rfl
  | false=>exact absurd ⟨hc,h⟩ h2
 unfold eP at hb;simp only[Bool.and_eq_true,beq_iff_eq] at hb;have hr:∀v∈s.row,cl v=0:=by
  by_cases h3:s.kind=3
  ·unfold eC at hc;rw[if_neg w4,if_pos h3] at hc;unfold Pa.dR at hc;split at hc
   ·cases hc
   exact fun v O=>Be (Qs hc v O)
  have E:(s.row.length:Int)=((en s).row.length:Int):=hb.2.2.1;have h0:(en s).row=[]:=(by unfold en;split;rfl;split;rfl;split;rfl;split;rfl;rfl)
  rw[h0] at E;have:s.row=[]:=length_eq_zero_iff.1 (by simpa using E);rw[this];intro v O;cases O
 have hw:∀o∈s.aj,cl o.v=0:=by
  by_cases h3:4≤s.kind
  ·unfold eC at hc;rw[if_neg w4,if_neg w4] at hc;by_cases h4:s.kind=4
   ·rw[if_pos h4] at hc;unfold Pa.ox at hc;split at hc
    ·cases hc
    split at hc
    ·cases hc
    split at hc
    ·cases hc
    split at hc
    ·rename_i I;exact absurd hc I
    split at hc
    ·rename_i I;exact absurd hc I
    rename_i I;exact Jz (Classical.not_not.1 I)
   rw[if_neg h4] at hc;by_cases h5:s.kind=5
   ·rw[if_pos h5] at hc;split at hc
    ·split at hc
     ·exact Jz hc
     rename_i I;exact absurd hc I
    rename_i I;exact absurd hc I
   rw[if_neg h5,if_pos w4] at hc;exact Jz hc
  have E:(s.aj.length:Int)=((en s).aj.length:Int):=hb.2.2.2.2.2.1;have h0:(en s).aj=[]:=(by unfold en;split;rfl;split;rfl;rw[if_neg w4,if_neg w4,if_neg w4];rfl)
  rw[h0] at E;have:s.aj=[]:=length_eq_zero_iff.1 (by simpa using E);rw[this];intro v O;cases O
 have hx:∀o∈s.bN,cl o.v=0:=by
  by_cases h5:s.kind=5
  ·unfold eC at hc;rw[if_neg w4,if_neg w4,if_neg w4,if_pos h5] at hc;split at hc
   ·split at hc
    ·rename_i I;exact afU I
    rename_i I;exact absurd hc I
   rename_i I;exact absurd hc I
  have E:(s.bN.length:Int)=((en s).bN.length:Int):=(by simpa using hb.2.2.2.2.2.2.2.2.2.2)
  have h0:(en s).bN=[]:=(by unfold en;split;rfl;split;rfl;split;rfl;split;rfl;rfl)
  rw[h0] at E;have:s.bN=[]:=length_eq_zero_iff.1 (by simpa using E);rw[this];intro v O;cases O
 exact⟨hf,fun v O=>Lr (hr v O) (hf.r v O).1 (hf.r v O).2,fun o ho=>(hf.w o ho).1,fun o ho=>Lr (hw o ho) (hf.w o ho).2.1 (hf.w o ho).2.2,fun o ho=>(hf.x o ho).1,fun o ho=>Lr (hx o ho) (hf.x o ho).2.1 (hf.x o ho).2.2⟩
theorem ec.st{s:bJ}(h:ec s):CK s:=Lq h.1 h.2.1 h.2.2.1 h.2.2.2.2
structure lX (l:List aH) (a c:Nat):Prop where
 g:pX l (a*(1+c))
 r:∀t∈l,t.rows.length≤a
theorem aee(s:bJ)(h:cy s.table=0)(hc:s.ay=bY):dB (gF s) 0:=⟨h,hc,Nat.zero_le _,adO,fun i h=>absurd h (Nat.not_lt_zero _),fun x hx=>by
 have:eu qc=[]:=adP;rw[show(gF s).ix=qc from rfl,this] at hx;cases hx⟩
theorem pX.mono{l:List aH}{n m:Nat}(g:pX l n)(h:n≤m):pX l m:=⟨g.eI,fun t ht=>(g.tb t ht).mono h,g.sz,g.HW⟩
theorem pX.put{n:Nat}(g:pX l n){i:Nat}(hi:i<l.length){t:aH}(ht:dB t n)(hn:t.nm=l[i].nm):pX (l.set i t) n:=by
 refine⟨by rw[length_set];exact g.eI,fun x hx=>?_,fun x hx=>?_,?_⟩
 ·rcases mem_or_eq_of_mem_set hx with h|h
  ·exact g.tb x h
  rw[h];exact ht
 ·rcases mem_or_eq_of_mem_set hx with h|h
  ·exact g.sz x h
  rw[h,hn];exact g.sz _ (getElem_mem hi)
 have hm:(l.set i t).map aH.nm=l.map aH.nm:=by
  exact XJ
 have h1:∀l:List aH,(l.Pairwise fun a b=>a.nm.toList≠b.nm.toList)↔(l.map aH.nm).Pairwise fun a b=>a.toList≠b.toList:=fun l=>by rw[pairwise_map]
 rw[h1,hm,←h1];exact g.HW

theorem U3(t:aH)(row:List Vl):(gB t row).1.nm=t.nm:=by
 unfold gB;by_cases h1:Pc.dR t.ay row≠0
 ·rw[if_pos h1]
 rw[if_neg h1];cases iA t.ix (cH row) (dr t.ix) with
 | true=>rw[if_pos rfl]
 | false =>
  rw[if_neg w8];by_cases h3:t.rows.length=40
  ·rw[if_pos h3]
  rw[if_neg h3]
theorem Uf:∀(l:List Int) (t:aH),(rS t l).nm=t.nm
 | [],_=>rfl
 | _::l,t=>(Uf l _).trans rfl
theorem U4(t:aH)(w:List aS):(mP t w).1.nm=t.nm:=by unfold mP;split;rfl;exact Uf _ _
theorem Ug{c:Nat}:∀(l:List Int) (vs:List Vl) (t:aH),(jH c t l vs).nm=t.nm
 | [],_,t=>by unfold jH;rfl
 | _::_,[],t=>by unfold jH;rfl
 | _::l,_::vs,t=>(Ug l vs _).trans rfl
theorem R7:∀(l:List Int) (vs:List Vl) (t:aH),(kG t l vs).1.nm=t.nm
 | [],_,t=>by unfold kG;rfl
 | _::_,[],t=>by unfold kG;rfl
 | _::l,_::vs,t=>by
  rw[kG];split
  ·rfl
  exact(R7 l vs _).trans rfl
theorem U5(t:aH)(s:bJ):(eN t s).1.nm=t.nm:=by
 unfold eN;repeat' split
 all_goals first|rfl|exact Ug _ _ _|exact(R7 _ _ _).trans rfl
theorem ahp{nm:ByteArray}(h:aT l nm<0):∀t∈l,t.nm.toList≠nm.toList:=fun t ht e=>by
 unfold aT dA at h;split at h
 ·omega
 rename_i h1;have:=findIdx?_eq_none_iff.1 h1 t ht;rw[e] at this;simp at this
theorem R8(h:a+c≤30):a*(1+c)≤260:=by
 have key:∀a<31,∀c<31,a+c≤30→a*(1+c)≤260:=(by decide +kernel)
 exact key a w4 c w4 h
theorem VF:a*(1+c)+1≤(a+1)*(1+c):=by rw[Nat.add_mul];omega
theorem VG:a*(1+c)+a=a*(1+(c+1)):=by rw[←Nat.add_assoc,Nat.mul_add a (1+c) 1,Nat.mul_one]
theorem lX.put{l:List aH}{a c a' E:Nat}(g:lX l a c)(h:a*(1+c)≤a'*(1+E))(ha:a≤a'){i:Nat}(hi:i<l.length){t:aH}(ht:dB t (a'*(1+E)))(hr:t.rows.length≤a')(hn:t.nm=l[i].nm):lX (l.set i t) a' E:=by
 refine⟨(g.g.mono h).put hi ht hn,fun x hx=>?_⟩;rcases mem_or_eq_of_mem_set hx with hx|hx
 ·exact Nat.le_trans (g.r x hx) ha
 rw[hx];exact hr
theorem KR{i:Nat}(hi:i<l.length){t:aH}(hn:t.nm=l[i].nm):(l.set i t).map aH.nm=l.map aH.nm:=by
 exact XJ
theorem E3(g:lX l a c)(O:a+c≤30){s:bJ}(hs:CK s)(fF:¬s.kind=2)(U:cy s.table=0)(I:s.kind=1→s.ay=bY)(h0:(gd l s).2.2=0) :
  ∃a' Z,a'+Z≤a+c+1∧lX (gd l s).1 a' Z∧(s.kind=1→(gd l s).1=l++[gF s]∧a'=a∧Z=c)∧(¬s.kind=1→(gd l s).1.map aH.nm=l.map aH.nm):=by
 have hb:=R8 O;have ji:=wz (fun t:aH=>t.nm.toList==s.table.toList) l;rw[show dA (fun t:aH=>t.nm.toList==s.table.toList) l=aT l s.table from rfl] at ji;unfold gd at h0 ⊢;by_cases dL:s.kind=1
 ·rw[if_pos dL] at h0 ⊢;dsimp only at h0;unfold qy at h0 ⊢;by_cases h1:0≤aT l s.table
  ·rw[if_pos h1] at h0;cases h0
  rw[if_neg h1] at h0 ⊢;by_cases h2:l.length=4
  ·rw[if_pos h2] at h0;cases h0
  rw[if_neg h2] at h0 ⊢;have hgn:=aee s U (I dL);have hf:=g.g.eI;refine⟨a,c,by omega,⟨⟨by rw[length_append,length_singleton];omega,fun t ht=>?_,fun t ht=>?_,?_⟩,fun t ht=>?_⟩,fun _=>⟨rfl,rfl,rfl⟩,fun h=>absurd dL h⟩
  ·rcases mem_append.1 ht with ht|ht
   ·exact g.g.tb t ht
   rw[mem_singleton] at ht;rw[ht];exact hgn.mono (Nat.zero_le _)
  ·rcases mem_append.1 ht with ht|ht
   ·exact g.g.sz t ht
   rw[mem_singleton] at ht;rw[ht];exact hs.fin.t
  ·refine pairwise_append.2 ⟨g.g.HW,pairwise_singleton _ _,fun x hx y hy=>?_⟩;rw[mem_singleton] at hy;subst hy;exact ahp (show aT l s.table<0 by omega) x hx
  rcases mem_append.1 ht with ht|ht
  ·exact g.r t ht
  rw[mem_singleton] at ht;rw[ht];exact Nat.zero_le _
 rw[if_neg dL] at h0 ⊢;by_cases h1:aT l s.table<0
 ·rw[if_pos h1] at h0;cases h0
 rw[if_neg h1] at h0 ⊢;have E:(aT l s.table).toNat<l.length:=(by omega)
 have jt:l.getD (aT l s.table).toNat (gF s)=l[(aT l s.table).toNat]:=(by rw[getD_eq_getElem?_getD,getElem?_eq_getElem E];rfl)
 rw[jt] at h0 ⊢;have gt:=g.g.tb _ (getElem_mem E);have gr:=g.r _ (getElem_mem E);by_cases h3:s.kind=3
 ·rw[if_pos h3] at h0 ⊢;obtain⟨q1,q2⟩:=ack gt w4 hs.row h0;exact⟨a+1,c,by omega,g.put (Nat.le_trans (Nat.le_succ _) VF) (Nat.le_succ _) E (q1.mono VF) w4 (U3 _ _),fun h=>absurd h dL,fun _=>KR E (U3 _ _)⟩
 rw[if_neg h3] at h0 ⊢;by_cases h4:s.kind=4
 ·rw[if_pos h4];exact⟨a,c,by omega,g,fun h=>absurd h dL,fun _=>rfl⟩
 rw[if_neg h4] at h0 ⊢;by_cases h5:s.kind=5
 ·rw[if_pos h5];obtain⟨q1,q2⟩:=acm gt s hs.Y3 hs.Y4 hb;exact⟨a,c+1,by omega,g.put (by rw[←VG];omega) (Nat.le_refl _) E (q1.mono (by rw[←VG];omega)) w4 (U5 _ _),fun h=>absurd h dL,fun _=>KR E (U5 _ _)⟩
 rw[if_neg h5];obtain⟨q1,q2⟩:=ZG gt s.aj;exact⟨a,c,by omega,g.put (Nat.le_refl _) (Nat.le_refl _) E q1 w4 (U4 _ _),fun h=>absurd h dL,fun _=>KR E (U4 _ _)⟩

end Go.Proofs.YtkgmonfgofobaaaGreatDoor.Ba

namespace Go.Proofs.YtkgmonfgofobaaaGreatDoor.Pa
open List
open Go.Proofs.Tryz
open Go.RowKit V Pk Go.Proofs.YtkgmonfgofobaaaGreatDoor.Vl Go.Proofs.YtkgmonfgofobaaaGreatDoor.Nm Go.Proofs.YtkgmonfgofobaaaGreatDoor.Pc
section
variable {H:Type} {enc:TypeId×Value→H} {P:Program} {w:World} {base:Nat} {sp:Nat→Bool} {held:Bool}
theorem aaS {fuel:Nat} {t:TypeId} {f0 f1 f2 f3 f4 f5 f6 f7:Field} {E I O U Z α5 α6 α7:Type} {g0:E→List D} {k0:E→Prop} {g1:I→List D} {k1:I→Prop} {g2:O→List D} {k2:O→Prop} {g3:U→List D} {k3:U→Prop} {g4:Z→List D} {k4:Z→Prop} {g5:α5→List D} {k5:α5→Prop} {g6:α6→List D} {k6:α6→Prop} {g7:α7→List D} {k7:α7→Prop} {n0 n1 n2 n3 n4 n5 n6 n7:Nat}
  (ht:P.underlying t=some (.struct #[f0,f1,f2,f3,f4,f5,f6,f7])) (hc:P.cellsOf t=n0+n1+n2+n3+n4+n5+n6+n7) (o0:f0.offset=0) (c0:P.cellsOf f0.type=n0) (o1:f1.offset=n0) (c1:P.cellsOf f1.type=n1) (o2:f2.offset=n0+n1) (c2:P.cellsOf f2.type=n2) (o3:f3.offset=n0+n1+n2) (c3:P.cellsOf f3.type=n3) (o4:f4.offset=n0+n1+n2+n3) (c4:P.cellsOf f4.type=n4) (o5:f5.offset=n0+n1+n2+n3+n4) (c5:P.cellsOf f5.type=n5) (o6:f6.offset=n0+n1+n2+n3+n4+n5) (c6:P.cellsOf f6.type=n6) (o7:f7.offset=n0+n1+n2+n3+n4+n5+n6) (c7:P.cellsOf f7.type=n7)
  (r0:∀n,n+1=fuel→l5 n enc P w base sp held f0.type g0 k0) (r1:∀n,n+1=fuel→l5 n enc P w base sp held f1.type g1 k1) (r2:∀n,n+1=fuel→l5 n enc P w base sp held f2.type g2 k2) (r3:∀n,n+1=fuel→l5 n enc P w base sp held f3.type g3 k3) (r4:∀n,n+1=fuel→l5 n enc P w base sp held f4.type g4 k4) (r5:∀n,n+1=fuel→l5 n enc P w base sp held f5.type g5 k5) (r6:∀n,n+1=fuel→l5 n enc P w base sp held f6.type g6 k6) (r7:∀n,n+1=fuel→l5 n enc P w base sp held f7.type g7 k7) :
  l5 fuel enc P w base sp held t (fun a:E × I × O × U × Z × α5 × α6 × α7=>(g0 (a.1)++(g1 (a.2.1)++(g2 (a.2.2.1)++(g3 (a.2.2.2.1)++(g4 (a.2.2.2.2.1)++(g5 (a.2.2.2.2.2.1)++(g6 (a.2.2.2.2.2.2.1)++g7 (a.2.2.2.2.2.2.2))))))))) (fun a=>k0 (a.1)∧k1 (a.2.1)∧k2 (a.2.2.1)∧k3 (a.2.2.2.1)∧k4 (a.2.2.2.2.1)∧k5 (a.2.2.2.2.2.1)∧k6 (a.2.2.2.2.2.2.1)∧k7 (a.2.2.2.2.2.2.2)):=fun cs x h=>by
 obtain⟨xs,n,hn,_,hl,gg,hf⟩:=DataW.trod_struct ht h;have e0:=hf 0 f0 rfl;have e1:=hf 1 f1 rfl;have e2:=hf 2 f2 rfl;have e3:=hf 3 f3 rfl;have e4:=hf 4 f4 rfl;have e5:=hf 5 f5 rfl;have e6:=hf 6 f6 rfl;have e7:=hf 7 f7 rfl;rw[o0,c0,drop_zero] at e0;rw[o1,c1] at e1;rw[o2,c2] at e2;rw[o3,c3] at e3;rw[o4,c4] at e4;rw[o5,c5] at e5;rw[o6,c6] at e6;rw[o7,c7] at e7;have hx8:xs.length=8:=gg;rw[getElem?_eq_getElem w4] at e0 e1 e2 e3 e4 e5 e6 e7;obtain⟨a0,p0,q0⟩:=r0 n hn.symm _ _ e0;obtain⟨a1,p1,q1⟩:=r1 n hn.symm _ _ e1;obtain⟨a2,p2,q2⟩:=r2 n hn.symm _ _ e2;obtain⟨a3,p3,q3⟩:=r3 n hn.symm _ _ e3;obtain⟨a4,p4,q4⟩:=r4 n hn.symm _ _ e4;obtain⟨a5,p5,q5⟩:=r5 n hn.symm _ _ e5;obtain⟨a6,p6,q6⟩:=r6 n hn.symm _ _ e6;obtain⟨a7,p7,q7⟩:=r7 n hn.symm _ _ e7;refine⟨(a0,a1,a2,a3,a4,a5,a6,a7),?_,q0,q1,q2,q3,q4,q5,q6,q7⟩;have de:cs=(cs.take n0++((cs.drop (n0)).take n1++((cs.drop (n0+n1)).take n2++((cs.drop (n0+n1+n2)).take n3++((cs.drop (n0+n1+n2+n3)).take n4++((cs.drop (n0+n1+n2+n3+n4)).take n5++((cs.drop (n0+n1+n2+n3+n4+n5)).take n6++((cs.drop (n0+n1+n2+n3+n4+n5+n6)).take n7)))))))):=by
  rw[take_of_length_le (l:=drop (n0+n1+n2+n3+n4+n5+n6) cs) (by rw[length_drop];omega)];have d2:cs.drop (n0+n1)=(cs.drop (n0)).drop n1:=(by rw[drop_drop])
  have d3:cs.drop (n0+n1+n2)=(cs.drop (n0+n1)).drop n2:=(by rw[drop_drop])
  have d4:cs.drop (n0+n1+n2+n3)=(cs.drop (n0+n1+n2)).drop n3:=(by rw[drop_drop])
  have d5:cs.drop (n0+n1+n2+n3+n4)=(cs.drop (n0+n1+n2+n3)).drop n4:=(by rw[drop_drop])
  have d6:cs.drop (n0+n1+n2+n3+n4+n5)=(cs.drop (n0+n1+n2+n3+n4)).drop n5:=(by rw[drop_drop])
  have d7:cs.drop (n0+n1+n2+n3+n4+n5+n6)=(cs.drop (n0+n1+n2+n3+n4+n5)).drop n6:=(by rw[drop_drop])
  rw[d7,take_append_drop,d6,take_append_drop,d5,take_append_drop,d4,take_append_drop,d3,take_append_drop,d2,take_append_drop,take_append_drop]
 rw[de];exact(p0.append (p1.append (p2.append (p3.append (p4.append (p5.append (p6.append p7)))))))
end


structure Ph where
 k:Int
 t:Int
 a:Int
 b:Int
 row:List Vl
 bN:Tw
 wh:Tw
 bare:Bool
def Ph.cs(p:Ph):List D:=[ae p.k]++([ae p.t]++([ae p.a]++([ae p.b]++([au 3 cV p.row]++(p.bN.cs++(p.wh.cs++[bI p.bare]))))))
structure Ph.Ok (p:Ph):Prop where
 k:-9223372036854775808≤p.k∧p.k≤9223372036854775807
 t:-9223372036854775808≤p.t∧p.t≤9223372036854775807
 a:-9223372036854775808≤p.a∧p.a≤9223372036854775807
 b:-9223372036854775808≤p.b∧p.b≤9223372036854775807
 row:∀v∈p.row,v.s.size≤maxLen
 bN:p.bN.Ok
 wh:p.wh.Ok
theorem afV{H:Type}{enc:TypeId×Value→H}{w:World}{base:Nat}{sp:Nat→Bool}{held:Bool}:pC enc Tryz.prog w base sp held 125 cV (fun v:Vl=>v.s.size≤maxLen) :=
 (aab (n0:=1) (n1:=1) (n2:=1) underlying125 aB rfl rfl rfl aB aB aB (u5 underlying3) (u5 underlying3) (Px underlying9)).map (fun a=>(⟨a.1,a.2.1,a.2.2⟩:Vl)) (fun _=>rfl) (fun _ h=>h.2.2)
theorem aaT{H:Type}{enc:TypeId×Value→H}{w:World}{base:Nat}{sp:Nat→Bool}{held:Bool}(n:Nat):l5 n enc Tryz.prog w base sp held 65 Ph.cs Ph.Ok:=fun cs x h=>by
 obtain⟨⟨a0,a1,a2,a3,a4,a5,a6,a7⟩,h1,q0,q1,q2,q3,E,I,O,_⟩:=aaS (fuel:=n) (n0:=1) (n1:=1) (n2:=1) (n3:=1) (n4:=1) (n5:=4) (n6:=4) (n7:=1) underlying65 aB rfl aB rfl aB rfl aB rfl aB rfl aB rfl aB rfl aB rfl aB
  (fun q _=>(u5 underlying3).at q) (fun q _=>(u5 underlying3).at q) (fun q _=>(u5 underlying3).at q) (fun q _=>(u5 underlying3).at q) (fun q _=>PB (sz:=3) underlying63 aB w8 (fun z _=>afV.at z) eZ) (fun q _=>Je q) (fun q _=>Je q) (fun q _=>(aeD underlying4).at q) cs x h
 exact⟨⟨a0,a1,a2,a3,a4,a5,a6,a7⟩,h1,⟨q0,q1,q2,q3,E.1,I,O⟩⟩
end Go.Proofs.YtkgmonfgofobaaaGreatDoor.Pa

namespace Go.Proofs.YtkgmonfgofobaaaGreatDoor.Ba
open List
open Go.Proofs.Tryz
open Go.RowKit V Pk Tr Vl Go.Proofs.YtkgmonfgofobaaaGreatDoor.Nm Pc Cd Ex Tw
open Pa (bJ bj eS dJ ec dS eC eP en dQ cj Ph)
variable {G:List (Nat×List Value)} {m:Int}
variable {l:List aH}
theorem VC.xQ{P:Program}{f:FuncId}{args args':List D}{S:List ah}{post:D→List ah→Prop}(h:VC P G f args S post)(k:qq args' args):VC P G f args' S post:=by
 obtain⟨h1,h2⟩:=k.spec;exact h.args h1.symm fun w L i q1 q2 v hr=>h2 i q2 q1 _ _ _ hr
theorem ahq(hm:(3,marksC)∈G)(hw:(1,wordsC)∈G)(ht:(0,typesC)∈G)(hG:(2,[Value.int .i64 m])∈G)(p:Ph)(h:p.Ok):VC Tryz.prog G 23 [.agg p.cs] [] (fun r S'=>∃s,r = .agg (bj s)∧S'=[]∧ec s∧s.kind=1+dI p.k 6∧s.table=cj.getD (dI p.t 2).toNat ⟨#[]⟩):=by
 obtain⟨k,t,a,b,row,⟨x1,O,U,E⟩,⟨y1,y2,y3,I⟩,bare⟩:=p;exact Pa.ZH k t a b row x1 O U E y1 y2 y3 I bare h.k.1 h.k.2 h.t.1 h.t.2 h.a.1 h.a.2 h.b.1 h.b.2 h.row h.bN h.wh
theorem Ut(hm:(3,marksC)∈G)(hw:(1,wordsC)∈G)(ht:(0,typesC)∈G)(hG:(2,[Value.int .i64 m])∈G)(p:Ph)(h:p.Ok):VC Tryz.prog G 23 [.agg p.cs] [] (fun r S'=>∃s,r = .agg (bj s)∧S'=[]∧ec s∧s.kind=1+dI p.k 6):=(ahq hm hw ht hG p h).mono fun r S' ⟨s,h1,h2,h3,h4,_⟩=>⟨s,h1,h2,h3,h4⟩
theorem wX(hm:(3,marksC)∈G)(hw:(1,wordsC)∈G)(ht:(0,typesC)∈G)(hG:(2,[Value.int .i64 m])∈G){a c:Nat}(g:lX l a c)(E:a+c≤30){s:bJ}(hs:CK s)(fF:¬s.kind=2)(O:s.kind≤6→cy s.table=0)(At:s.kind≤6)(I:s.kind=1→s.ay=bY):VP Tryz.prog G 15 [.agg [au 5 cX (l)],.agg (bj s)] (uK (iC l s)):=by
 refine ahm hm hw ht hG l (R8 E) g.g s hs.fin fF hs.row hs.wnm hs.wok hs.Y3 hs.Y4 fun h0=>?_;obtain⟨a',c',_,g',_⟩:=E3 g E hs fF (O At) I h0;exact⟨Nat.le_trans g'.g.eI w8,fun t ht=>(g'.g.tb t ht).small⟩
theorem Uh{s:bJ}(h:(iC l s).2.2=0):(gd l s).2.2=0∧(iC l s).1=(gd l s).1:=by
 unfold iC at h ⊢;by_cases h1:dJ s≠0
 ·rw[if_pos h1] at h;exact absurd h h1
 rw[if_neg h1] at h ⊢;by_cases h2:7≤s.kind
 ·rw[if_pos h2] at h;cases h
 rw[if_neg h2] at h ⊢;by_cases h3:(gd l s).2.2≠0
 ·rw[if_pos h3] at h;exact absurd h h3
 rw[if_neg h3];exact⟨Classical.not_not.1 h3,rfl⟩
def ke(x:ByteArray):bJ:={dQ with kind:=1,table:=x,ay:=bY}
theorem aef:∀x∈cj,dJ (ke x)=0:=by decide +kernel
theorem Ui{x:ByteArray}(hx:x∈cj):CK (ke x):=ec.st (Pa.sU.xu (Pa.Pp (Pa.Gk x hx)))
def WR:List aH:=cj.map fun x=>gF (ke x)
theorem U6:∀i (h:i<cj.length),iC ((cj.take i).map fun x=>gF (ke x)) (ke cj[i])=((cj.take (i+1)).map (fun x=>gF (ke x)),(([],0),0)):=by
 intro i h;have hx:cj[i]∈cj:=getElem_mem h;unfold iC;rw[if_neg (by rw[aef _ hx];decide),if_neg (by show ¬(7:Int)≤1;decide)];have h1:gd ((cj.take i).map fun x=>gF (ke x)) (ke cj[i])=((cj.take (i+1)).map (fun x=>gF (ke x)),(([],0),0)):=by
  have h2:i=0∨i=1:=(by have:cj.length=2:=rfl;omega)
  rcases h2 with rfl|rfl
  ·exact(show gd ((cj.take 0).map fun x=>gF (ke x)) (ke (cj[0]'w8))=((cj.take 1).map (fun x=>gF (ke x)),(([],0),0)) by kernel_rfl)
  exact(show gd ((cj.take 1).map fun x=>gF (ke x)) (ke (cj[1]'w8))=((cj.take 2).map (fun x=>gF (ke x)),(([],0),0)) by kernel_rfl)
 rw[h1];rfl
theorem wF(p:Ph):p.cs.length=14:=by
 obtain⟨k,t,a,b,row,⟨x1,O,U,E⟩,⟨y1,y2,y3,I⟩,bare⟩:=p;rfl
theorem acr:lX [] 0 0:=⟨⟨by decide,(fun t h=>by cases h),(fun t h=>by cases h),Pairwise.nil⟩,(fun t h=>by cases h)⟩
theorem Uu:(Nm.Tw.mk 0 0 ⟨#[]⟩ []).Ok:=by constructor<;>first|decide|(simp;done)|trivial
theorem Uj{s:bJ}(h:ec s):cy s.table=0:=by
 have hc:=h.2.2.2.2;have h6:=h.2.2.1;unfold dS at hc;split at hc
 ·rename_i h1;exact absurd hc h1.2
 rename_i h1;exact Classical.not_not.1 fun e=>h1 ⟨by omega,e⟩
theorem WS:∀i,i≤2→lX ((cj.take i).map fun x=>gF (ke x)) 0 0:=by
 intro i;induction i with
 | zero=>intro _;exact acr
 | succ i ih =>
  intro hi;have aa:i<cj.length:=(by have:cj.length=2:=rfl;omega)
  have hr:=U6 i aa;have h0:(iC ((cj.take i).map fun x=>gF (ke x)) (ke cj[i])).2.2=0:=(by rw[hr])
  obtain⟨h1,h2⟩:=Uh h0;obtain⟨a',c',_,g',h4,_⟩:=E3 (ih w4) w8 (Ui (getElem_mem aa)) (show ¬(1:Int)=2 by decide) (Pa.Gk _ (getElem_mem aa)) (fun _=>rfl) h1;obtain⟨_,rfl,rfl⟩:=h4 rfl;rw[←h2,hr] at g';exact g'
theorem Uk(hm:(3,marksC)∈G)(hw:(1,wordsC)∈G)(ht:(0,typesC)∈G)(hG:(2,[Value.int .i64 m])∈G)(ps:List Ph)(gK:∀p∈ps,p.Ok)(fE:ps.length≤maxLen):VC Tryz.prog G 12 [.list 14 (ps.flatMap Ph.cs) ps.length] [] (fun r S=>∃l a c,r = .agg [au 5 cX (l)]∧S=[]∧lX l a c∧a+c≤30∧l.map aH.nm=cj):=by
 refine VC.body func12 rfl ntmps12 aQ fun X0 w0 bf=>?_;have cY:=dN;have tq:cj.length=2:=rfl;skip;refine bS ?_;refine OD.alloc (ds:=[_]) ap rfl rfl zeroValue25 rfl (fun b2=>?_);refine an 88 [0,2] ?_;refine bS ?_;refine OD.alloc (ds:=[_]) ap rfl rfl zeroValue25 rfl (fun b3=>?_);refine OD.cells (k:=0) (cs':=[.list 5 [] 0]) rfl ⟨ey,trivial⟩ rfl ?_;refine an 88 [0,2,3] ?_;refine af [0,2,3,4] ?_;refine ez [0,2,3] (fun aR _ (i:Nat) aD=>(i≤2)∧aD=(⟨88,(4,ae (i:Nat))::aR,[⟨b3,25,1,[.list 5 ((((cj.take i).map fun x=>gF (ke x))).flatMap cX) (((cj.take i).map fun x=>gF (ke x))).length]⟩,⟨b2,25,1,[bF]⟩]⟩:St)) (fun (i:Nat)=>2-i) 0 ⟨(Nat.zero_le _),rfl⟩ ?_;rintro i _ ⟨hi,rfl⟩;refine af [0,2,3,4,14] ?_;refine ax ?_ ?_<;>intro aO bA
 ·have aa:i<cj.length:=(by omega)
  have O:=VC.xQ (wX hm hw ht hG (l:=((cj.take i).map fun x=>gF (ke x))) (a:=0) (c:=0) (s:=ke (cj[i]'aa)) (WS i w4) w8 (Ui (getElem_mem aa)) (show ¬(1:Int)=2 by decide) (fun _=>Pa.Gk _ (getElem_mem aa)) (show(1:Int)≤6 by decide) (fun _=>rfl)) (args':=[.agg [.list 5 ((((cj.take i).map fun x=>gF (ke x))).flatMap cX) (((cj.take i).map fun x=>gF (ke x))).length],.agg [ae 1,aZ (cj[i]'aa),au 2 cC bY,bF,bF,bI false,bF,fk,bI false,ae (-1),fk,bF]]) ⟨cq,u0 ⟨cq,cq,cq,ey,ey,cq,ey,cq,cq,cq,cq,ey,trivial⟩,trivial⟩;rw[U6 i aa] at O;unfold uK at O;refine CD.skip ?_;refine CD.seq ?_;refine CD.block ?_;refine CD.seq ?_;refine Yj 14 13 12 [0,2,3,4,5,6,26,27,28] ?_;refine mG 1 ?_;refine Nu (g:=cS) (cj) ?_;refine cJ (Bc) ?_;refine cJ (O) ?_;refine mG 4 ?_;refine pA ?_;refine pA ?_;refine jI ?_;refine⟨rfl,rfl,fun b6 b5=>?_⟩;refine aM 1 [_] sizeOf25 ?_;refine aM 0 [_,_] sizeOf39 ?_;refine an 88 [0,2,3,4,5,7] ?_;refine af [0,2,3,4,5,30] ?_;refine ax ?_ ?_<;>intro aY cz
  ·refine dG 1 ?_;refine aM 2 [_] sizeOf25 ?_;refine an 88 [0,2,3,4] ?_;refine bX [0,2,3,4] ?_;refine⟨(i+1),_,cn,aJ,w4,rfl⟩
  exact absurd aY (by simp at aY)
 have lI:i=2:=(by omega)
 subst lI;have htw:((cj.take 2).map fun x=>gF (ke x))=WR:=rfl;refine af [0,2,3,8] ?_;refine ez [0,2,3] (fun aR _ (U:Nat×List aH×Nat×Nat) aD=>match U with|(k,l,a,c)=>(k≤30)∧(k≤ps.length)∧(a+c≤k)∧(lX l a c)∧((l).map aH.nm=cj)∧aD=(⟨88,(8,ae (k:Nat))::aR,[⟨b3,25,1,[au 5 cX (l)]⟩,⟨b2,25,1,[bF]⟩]⟩:St)) (fun (U:Nat×List aH×Nat×Nat)=>match U with|(k,l,a,c)=>30-k) (0,WR,0,0) ⟨(Nat.zero_le _),(Nat.zero_le _),(Nat.le_refl _),(WS 2 (Nat.le_refl _)),rfl,rfl⟩ ?_;rintro⟨k,l,a,c⟩ _ ⟨mb,hkp,vU,gn,I,rfl⟩;refine aA 5 ?_;refine bW 36 (fun alY aiV=>?_) (fun alY aiV=>?_)
 ·refine bp [0,2,3,8,39] ?_;refine ax ?_ ?_<;>intro cc cN
  ·have aa:k<ps.length:=(by first|omega|(simp at *;omega))
   have aq9:k<30:=(by first|omega|(simp at *;omega))
   have rV:=gK (ps[k]'aa) (getElem_mem aa);refine aA 3 ?_;refine bQ (cR (mk:=Op.load 65) rfl ot (kj (g:=Ph.cs) (ls:=ps) (i:=k) wF isAgg65 sizeOf65 aa)) ?_;refine OD.call ap rfl rfl rfl call23 (Ut hm hw ht hG (ps[k]'aa) rV) ⟨ot,trivial⟩ (fa _) ?_;rintro _ _ ⟨s,rfl,rfl,Z,HQ⟩;refine OD.alloc (ds:=[_,_,_,_,_,_,_,_,_,_,_,_]) ap rfl rfl zeroValue46 rfl (fun b9=>?_);refine aM 0 [_,_,_,_,_,_,_,_,_,_,_,_] sizeOf46 ?_;refine an 88 [0,2,3,8,9] ?_;refine iv [0,2,3,8,9] (fun aR _ aD=>∃(s:bJ),(ec s)∧(¬s.kind=1∧¬s.kind=2)∧aD=(⟨88,aR,[⟨b9,46,12,bj s⟩,⟨b3,25,1,[au 5 cX (l)]⟩,⟨b2,25,1,[bF]⟩]⟩:St)) ?_ ?_
   ·refine aA 4 ?_;refine bW 50 (fun WT aiW=>?_) (fun WT aiW=>?_)
    ·refine bp [0,2,3,8,9,54] ?_;refine eT ?_;exact W6
    refine bp [0,2,3,8,9,54] ?_;refine ax ?_ ?_<;>intro cQ ek
    ·exact W6
    have E:¬s.kind=1∧¬s.kind=2:=(by first|exact⟨by simpa using WT,by simpa using cQ⟩|(simp at *;omega))
    refine CD.skip ?_;refine⟨_,aJ,s,Z,E,rfl⟩
   rintro _ ⟨s,Z,E,rfl⟩;refine CD.seq ?_;have AW:=ec.st Z;have AK:=Uj Z;have O:=wX hm hw ht hG gn w4 AW E.2 (fun _=>AK) Z.2.2.1 (fun h=>absurd h E.1);unfold uK at O;refine dG 2 ?_;refine dO call15 (O) ?_;refine aG 4 ?_;refine OD.alloc (ds:=[_]) ap rfl rfl zeroValue25 rfl (fun j6=>?_);refine OD.alloc (ds:=[_,_]) ap rfl rfl zeroValue39 rfl (fun kN=>?_);refine aM 1 [_] sizeOf25 ?_;refine aM 0 [_,_] sizeOf39 ?_;refine an 88 [0,2,3,8,10,12] ?_;refine af [0,2,3,8,10,85] ?_;refine ax ?_ ?_<;>intro dV fB
   ·have h0:(iC l s).2.2=0:=(by simpa using dV)
    obtain⟨h1,h2⟩:=Uh h0;obtain⟨a',c',ara,gn1,_,gw⟩:=E3 gn w4 AW E.2 AK (fun h=>absurd h E.1) h1;have HZ:lX (iC l s).1 a' c':=(by rw[h2];exact gn1)
    have aiX:(iC l s).1.map aH.nm=cj:=(by rw[h2,gw E.1];exact I)
    refine dG 1 ?_;refine aM 3 [_] sizeOf25 ?_;refine an 88 [0,2,3,8] ?_;refine bX [0,2,3,8] ?_;refine⟨((k+1),(iC l s).1,a',c'),_,cn,aJ,w4,w4,w4,HZ,aiX,rfl⟩
   refine bX [0,2,3,8] ?_;refine⟨((k+1),l,a,c),_,cn,aJ,w4,w4,w4,gn,I,rfl⟩
  refine aA 1 ?_;refine aM 1 [_] sizeOf25 ?_;refine an 88 [2] ?_;refine aK [] ?_;exact⟨l,a,c,rfl,rfl,gn,by omega,I⟩
 refine bp [0,2,3,8,39] ?_;refine fY ?_;refine aA 1 ?_;refine aM 1 [_] sizeOf25 ?_;refine an 88 [2] ?_;refine aK [] ?_;exact⟨l,a,c,rfl,rfl,gn,by omega,I⟩

theorem CL(h:l.map aH.nm=cj):aT l ⟨#[116]⟩=0:=by
 match l,h with
 | a::r,h =>
  rw[map_cons] at h;have ha:a.nm=⟨#[116]⟩:=(by injection h)
  unfold aT;rw[we (ls:=a::r) (k:=0) bq (fun x hx=>by cases hx) (by show(a.nm.toList==_)=true;rw[ha];exact BEq.rfl)];rfl

end Go.Proofs.YtkgmonfgofobaaaGreatDoor.Ba
namespace Go.Proofs.YtkgmonfgofobaaaGreatDoor.Ba
open List
open Go.Proofs.Tryz
open Go.RowKit V Pk Tr Vl Go.Proofs.YtkgmonfgofobaaaGreatDoor.Nm Pc Cd Ex Tw
open Pa (Ph)
variable {m:Int}
def yD(m:Int):List (Nat×List Value):=[(3,marksC),(1,wordsC),(0,typesC),(2,[Value.int .i64 m])]
theorem Y5:(3,marksC)∈yD m:=mem_cons_self
theorem Y6:(1,wordsC)∈yD m:=mem_cons_of_mem _ mem_cons_self
theorem Y7:(0,typesC)∈yD m:=mem_cons_of_mem _ (mem_cons_of_mem _ mem_cons_self)
theorem Y8:(2,[Value.int .i64 m])∈yD m:=mem_cons_of_mem _ (mem_cons_of_mem _ (mem_cons_of_mem _ mem_cons_self))
theorem WU{w:World}(h1:MarksTab w)(h2:WordsTab w)(h3:TypesTab w)(h4:Tab.mw w 2 [Value.int .i64 m]):∀g∈yD m,g.2≠[]∧Cc w g.1 g.2:=fun g hg=>by
 rcases mem_cons.1 hg with rfl|hg
 ·exact⟨by decide,.of h1 rfl⟩
 rcases mem_cons.1 hg with rfl|hg
 ·exact⟨by decide,.of h2 rfl⟩
 rcases mem_cons.1 hg with rfl|hg
 ·exact⟨by decide,.of h3 rfl⟩
 rw[mem_singleton] at hg;subst hg;exact⟨by simp,.of h4 rfl⟩
theorem rd_phrases{H:Type}{enc:TypeId×Value→H}{w:World}{base E:Nat}{sp:Nat→Bool}{held:Bool}{v:Value}{d:DataW H}{p:List MemPlace}(hval:Value.okWide Tryz.prog w .any E 22 v)(h:DataW.Trod enc Tryz.prog w base sp held 22 v d p) :
  ∃l:List Ph,cg w (fun _=>False) (.list 14 (l.flatMap Ph.cs) l.length) v∧((∀x∈l,x.Ok)∧l.length≤maxLen)∧True:=by
 obtain⟨l,h1,h2,h3⟩:=acK (g:=Ph.cs) (ok:=Ph.Ok) (sz:=14) underlying22 aB w8 (fun n cs x hn=>Pa.aaT n cs x hn) wF hval h;exact⟨l,h1,⟨h2,h3⟩,trivial⟩

end Go.Proofs.YtkgmonfgofobaaaGreatDoor.Ba
namespace Go.Proofs.YtkgmonfgofobaaaGreatDoor.Ba
open List
open Go.Proofs.Tryz
open Go.RowKit V Pk Tr Vl Go.Proofs.YtkgmonfgofobaaaGreatDoor.Nm Pc Cd Ex Tw
open Pa (bJ bj eS dJ ec dS eC eP en dQ cj Ph)
variable {G:List (Nat×List Value)} {m:Int}
variable {l:List aH}
theorem Ul{v:Vl}(h:cl v=0)(hk:v.k=2):ga [v]=(fj [v],0):=by
 unfold ga;rw[if_neg bq,Fg (fun x hx=>by rw[mem_singleton] at hx;rw[hx];exact h),if_neg bq,if_neg];show ¬(fj [v]).length>100;unfold fj Cd.pY sN;simp[hk,l7]
theorem int_lt{v w:Vl}(E:cl v=0)(I:v.Ok)(Z:v.k=2)(O:v.s.size=0)(hw:cl w=0)(U:w.Ok)(kw:w.k=2)(sw:w.s.size=0)(h:bC (fj [v]) (fj [w])):v.n<w.n:=by
 rcases Int.lt_trichotomy v.n w.n with q|q|q
 ·exact q
 ·have hs:v.s=w.s:=by
   have a1:v.s.data.size=0:=O;have a2:w.s.data.size=0:=sw;have e1:v.s=⟨v.s.data⟩:=rfl;have e2:w.s=⟨w.s.data⟩:=rfl;rw[e1,e2,Array.eq_empty_of_size_eq_zero a1,Array.eq_empty_of_size_eq_zero a2]
  have:v=w:=(by cases v;cases w;simp_all)
  rw[this] at h;exact absurd h (jV _)
 have hl:fg w v<0:=(Fy w v).2 (.inr ⟨by omega,.inl q⟩);have h3:=Tg hw U E I [] [] w4;rw[append_nil,append_nil] at h3;have h4:bC (fj [w]) (fj [v]):=by
  unfold bC fj;rw[flatMap_singleton,flatMap_singleton,h3];exact hl
 exact absurd (lR h h4) (jV _)
noncomputable def jf(t:aH):List (List Vl):=(eu t.ix).map fun x=>rowAt t x.2
theorem KS{nm:ByteArray}{i:Nat}(h:aT l nm=(i:Int))(hi:i<l.length):vn l nm=(jf l[i],0):=by
 unfold vn;rw[h,if_neg w4,Int.toNat_natCast,getD_eq_getElem?_getD,getElem?_eq_getElem hi];rfl
theorem WV(h:l.map aH.nm=cj):l.length=2:=by have:=congrArg length h;(first|rw[length_map] at this|(unfold au at this;rw[length_map] at this));rw[this];decide

def nA(w:List aS):bJ:={dQ with kind:=4,table:=⟨#[116]⟩,aj:=w}
theorem Um(h:l.map aH.nm=cj){s:bJ}(hk:s.kind=4)(ht:s.table=⟨#[116]⟩)(hc:dJ s=0)(h0:0<l.length):iC l s=(if (lW l[0] s).2≠0 then ([],(([],0),(lW l[0] s).2)) else (l,((lW l[0] s).1,0)):List aH×((List (List Vl)×Int)×Int)):=by
 have hr:gd l s=(l,lW l[0] s):=by
  unfold gd;have ha:aT l s.table=0:=(by rw[ht];exact CL h)
  have jt:l.getD (0:Int).toNat (gF s)=l[0]:=(by show l.getD 0 _=_;rw[getD_eq_getElem?_getD,getElem?_eq_getElem h0];rfl)
  rw[ha,if_neg w4,if_neg w8,if_neg w4,if_pos hk,jt]
 unfold iC;rw[if_neg (fun e=>e hc),if_neg w4,hr]

end Go.Proofs.YtkgmonfgofobaaaGreatDoor.Ba
namespace Go.Proofs.YtkgmonfgofobaaaGreatDoor.Ba

open List
open Go.Proofs.Tryz
open Go.RowKit V Pk Tr Vl Go.Proofs.YtkgmonfgofobaaaGreatDoor.Nm Pc Cd Ex Tw
open Pa (bJ bj eS dJ ec dS eC eP en dQ cj Ph)
def fst(r:List Vl):Vl:=r.getD 0 bu
theorem Un{v w:Vl}(E:cl v=0)(I:v.Ok)(U:v.k=2)(Z:v.s.size=0)(hw:cl w=0)(O:w.Ok)(kw:w.k=2)(sw:w.s.size=0):bC (fj [v]) (fj [w])↔v.n<w.n:=by
 refine⟨int_lt E I U Z hw O kw sw,fun h=>?_⟩;have hl:fg v w<0:=(Fy v w).2 (.inr ⟨by omega,.inl h⟩);have h3:=Tg E I hw O [] [] w4;rw[append_nil,append_nil] at h3;unfold bC fj;rw[flatMap_singleton,flatMap_singleton,h3];exact hl
theorem E4{r:List Vl}(hf:Pc.dR bY r=0)(aV:∀v∈r,v.Ok):(fst r).k=2∧(fst r).s.size=0∧(fst r).Ok∧cl (fst r)=0∧cH r=fj [fst r]∧r.length=4:=by
 have h4:=o8 hf;have hz:=Ju hf;match r,h4 with
 | v::r,h4 =>
  have E:=aV v mem_cons_self;have hc:=hz v mem_cons_self;have hk:v.k=2:=by
   unfold Pc.dR at hf;rw[if_neg Aj,if_neg sX] at hf;unfold bY Pc.pc at hf;split at hf
   ·rename_i h1;exact absurd hf h1
   rename_i h1;have h1:=Decidable.not_not.1 h1;unfold Pc.lY at h1;rw[if_neg (by rw[hc];decide)] at h1;split at h1
   ·cases h1
   rename_i h3;exact Decidable.not_not.1 fun e=>h3 ⟨e,.inl rfl⟩
  refine⟨hk,?_,E,hc,?_,h4⟩
  ·show v.s.size=0;unfold cl at hc;rw[if_neg w4,if_neg w4,if_pos hk] at hc;split at hc
   ·cases hc
   rename_i h3;exact Decidable.not_not.1 h3
  unfold cH;rw[show(v::r).take 1=[v] from rfl,Ul hc hk];rfl

theorem uT{t:aH}{n:Nat}(g:dB t n){i:Int}(h:eR t i):Pc.dR bY (rowAt t i)=0∧∀v∈rowAt t i,v.Ok:=by
 obtain⟨h0,h1,h2⟩:=h;rw[iY h1];exact⟨(g.row _ h1 h2).1,(g.row _ h1 h2).2.1⟩
theorem Uo{r:List Vl}(h:r.length=4):(([0,1,2,3]:List Int).map fun c=>r.getD c.toNat bu)=r:=by
 match r,h with
 | [a,b,c,d],_=>rfl

end Go.Proofs.YtkgmonfgofobaaaGreatDoor.Ba
namespace Go.Proofs.YtkgmonfgofobaaaGreatDoor.Ba









open List
open Go.Proofs.Tryz
open Go.RowKit V Pk Tr Vl Go.Proofs.YtkgmonfgofobaaaGreatDoor.Nm Pc Cd Ex Tw
open Pa (bJ bj eS dJ ec dS eC eP en dQ cj Ph)
theorem U7{s:bJ}(hg:ec s)(hk:s.kind=4)(hn:s.names.length≤6)(hw:s.aj.length≤15):dJ s=0:=by
 unfold dJ;rw[if_neg w4,if_neg (fun e=>e hg.2.2.2.2),if_neg];have h1:=Pa.IG s.aj;have h2:=Pa.ED s.names s.names.length;unfold Pa.oY;rw[if_neg w4,if_neg w4,if_neg w4,if_pos hk];have h3:(Pa.vj s).length≤12:=by
  unfold Pa.vj;split
  ·decide
  split
  ·decide
  omega
 have h4:(Pa.xB s).length≤4:=by
  unfold Pa.xB;split
  ·decide
  rw[length_append,length_map];split<;>simp
 have h5:(Pa.Cl s).length≤2:=by
  unfold Pa.Cl;split<;>simp
 unfold Pa.zy;simp only[length_append,length_map,length_cons,length_nil];omega

end Go.Proofs.YtkgmonfgofobaaaGreatDoor.Ba
namespace Go.Proofs.YtkgmonfgofobaaaGreatDoor.Ba



open List
open Go.Proofs.Tryz
open Go.RowKit V Pk Tr Vl Go.Proofs.YtkgmonfgofobaaaGreatDoor.Nm Pc Cd Ex Tw
open Pa (bJ bj eS dJ ec dS eC eP en dQ cj Ph)
variable {G:List (Nat×List Value)} {m:Int}
variable {α:Type}
open Classical in
noncomputable def oB(a b:α):Bool:=decide (a=b)
theorem EI{a b:α}(h:a=b):oB a b=true:=by unfold oB;simp[h]
theorem JF{a b:α}(h:¬a=b):oB a b=false:=by unfold oB;simp[h]
theorem R9(a b:List Vl)(ha:a.length≤1000000)(hb:b.length≤1000000):VP Tryz.prog G 18 [au 3 cV a,au 3 cV b] (bI (oB a b)):=by
 refine VC.body func18 rfl ntmps18 aQ fun X0 w0 bf=>?_;have cY:=dN;refine af [0,1] ?_;refine af [0,1,10] ?_;refine ax ?_ ?_<;>intro aO bA
 ·exact z130
 have E:a.length=b.length:=(by simp at aO;omega)
 refine af [0,1,5] ?_;refine ez [0,1] (fun aR _ (i:Nat) aD=>(i≤a.length)∧(a.take i=b.take i)∧aD=(⟨26,(5,ae (i:Nat))::aR,[]⟩:St)) (fun (i:Nat)=>a.length-i) 0 ⟨(Nat.zero_le _),rfl,rfl⟩ ?_;rintro i _ ⟨hi,Hj,rfl⟩;refine af [0,1,5,14] ?_;refine ax ?_ ?_<;>intro aY cz
 ·have aa:i<a.length:=(by omega)
  have sK:i<b.length:=(by omega)
  refine cM [0,1,5,25] ?_;refine aP 8 ?_ (h:=by exact(Pu rfl ot ot eqGuardType33 (Go.Proofs.YtkgmonfgofobaaaGreatDoor.Vl.F7 _ _)));refine jI ?_;refine ax ?_ ?_<;>intro cc cN
  ·have hne:¬a[i]'aa=b[i]'sK:=fun e=>by rw[e] at cc;exact absurd cc bq
   have fh:oB a b=false:=JF fun e=>hne (by subst e;rfl);refine af [4] ?_;exact xX
  have XI:a[i]'aa=b[i]'sK:=(by have h3:Hz (a[i]'aa) (b[i]'sK)=true:=(by simpa[Hz] using cc);exact aeQ.1 h3)
  exact XH
 exact V1

end Go.Proofs.YtkgmonfgofobaaaGreatDoor.Ba
namespace Go.Proofs.YtkgmonfgofobaaaGreatDoor.Ba







end Go.Proofs.YtkgmonfgofobaaaGreatDoor.Ba
