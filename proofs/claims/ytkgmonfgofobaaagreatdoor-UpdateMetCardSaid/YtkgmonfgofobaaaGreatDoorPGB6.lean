/-
  GB: walks and plain facts, part 6.
-/
import Derived.Test.YtkgmonfgofobaaaGreatDoorPGB5
set_option linter.unusedVariables false
set_option linter.unusedSimpArgs false
set_option maxRecDepth 100000
set_option maxHeartbeats 4000000
namespace Go.Proofs.YtkgmonfgofobaaaGreatDoor.Tw
open List
open Go.Proofs.Tryz
open Go.RowKit V Go.Proofs.YtkgmonfgofobaaaGreatDoor.Tr Pk
open Go.Lib (compareBytes)
variable {t:aF} {lv:List (List Int)} {level:Nat} {i:Int}
structure nS (t:aF) (s:jz):Prop where
 nd:s.1.Nodup
 rg:∀x∈s.1,0≤x∧x<t.ag.length
 eI:s.2.length≤s.1.length
 each:∀l∈s.2,l.length≤s.1.length
 el:∀l∈s.2,∀x∈l,0≤x∧x<t.ag.length
theorem adu{n:Nat}{l:List Int}(h:l.Nodup)(hr:∀x∈l,0≤x∧x<n):l.length≤n:=by
 induction n generalizing l with
 | zero =>
  cases l with
  | nil=>simp
  | cons a l=>have:=hr a mem_cons_self;omega
 | succ n ih =>
  have h1:=ih (l:=l.erase (n:Int)) (h.erase _) fun x hx=>by
   have h2:=(h.mem_erase_iff).1 hx;have h3:=hr x h2.2;have:=h2.1;omega
  rw[length_erase] at h1;split at h1<;>omega
theorem nS.nW{s:jz}(h:nS t s):s.1.length≤t.ag.length:=adu h.nd h.rg
theorem abN{n:Nat}(h:∀l∈lv,l.length≤n):∀l∈kK lv level i,l.length≤n+1:=fun l hl=>by
 obtain⟨j,hj,rfl⟩:=mem_iff_getElem.1 hl;have e:(kK lv level i)[j]=(kK lv level i).getD j []:=(by rw[getD_eq_getElem?_getD,getElem?_eq_getElem hj];rfl)
 rw[e,Ft,length_append];have h1:(lv.getD j []).length≤n:=by
  rw[getD_eq_getElem?_getD];rcases Nat.lt_or_ge j lv.length with q|q
  ·rw[getElem?_eq_getElem q];exact h _ (getElem_mem q)
  rw[getElem?_eq_none q];simp
 split
 ·simp only[length_cons,length_nil];omega
 simp only[length_nil];omega
theorem afm{Q:Int→Prop}(h:∀l∈lv,∀x∈l,Q x)(hi:Q i):∀l∈kK lv level i,∀x∈l,Q x:=fun l hl x hx=>by
 obtain⟨j,hj,rfl⟩:=mem_iff_getElem.1 hl;have e:(kK lv level i)[j]=(kK lv level i).getD j []:=(by rw[getD_eq_getElem?_getD,getElem?_eq_getElem hj];rfl)
 rw[e,Ft,mem_append] at hx;rcases hx with hx|hx
 ·rw[getD_eq_getElem?_getD] at hx;rcases Nat.lt_or_ge j lv.length with q|q
  ·rw[getElem?_eq_getElem q] at hx;exact h _ (getElem_mem q) x hx
  rw[getElem?_eq_none q] at hx;cases hx
 split at hx
 ·rw[mem_singleton] at hx;subst hx;exact hi
 cases hx
theorem nS.add{s:jz}(h:nS t s)(hi:0≤i∧i<t.ag.length)(hn:i∉s.1)(hl:level≤s.1.length):nS t (s.1++[i],kK s.2 level i):=by
 refine⟨?_,fun x hx=>?_,?_,?_,afm h.el hi⟩
 ·exact nodup_append.2 ⟨h.nd,by simp,fun a ha b hb e=>by rw[mem_singleton] at hb;subst hb;subst e;exact hn ha⟩
 ·rcases mem_append.1 hx with hx|hx
  ·exact h.rg x hx
  rw[mem_singleton] at hx;subst hx;exact hi
 ·show(kK s.2 level i).length≤(s.1++[i]).length;rw[Jo,length_append];have:=h.eI;simp;omega
 show ∀l∈kK s.2 level i,l.length≤(s.1++[i]).length;rw[length_append];exact abN h.each
theorem RD{t:aF}{go:Int→K→K→jz→Option (Nat×jz)}{low:K}{p:cW}{n:Nat}(E:∀(c:Int) lo hi s d s',(0≤c∧c<t.ag.length)→nS t s→n≤s.1.length→go c lo hi s=some (d,s')→nS t s'∧s.1.length≤s'.1.length) :
  ∀(cs:List Int) (k:Nat) (deep:Option Nat) (s:jz) (d:Nat) (s':jz),(∀c∈cs,0≤c∧c<t.ag.length)→nS t s→n≤s.1.length→lV go low p cs k deep s=some (d,s')→nS t s'∧s.1.length≤s'.1.length
 | [],k,deep,s,d,s',_,hs,_,h=>by
  rw[lV] at h;cases deep with
  | none=>cases h
  | some e=>simp at h;rw[←h.2];exact⟨hs,Nat.le_refl _⟩
 | c::cs,k,deep,s,d,s',hc,hs,hn,h=>by
  rw[lV] at h;cases hg:go c (iw low p k) (gY p k) s with
  | none=>rw[hg] at h;cases h
  | some q =>
   obtain⟨d1,s1⟩:=q;rw[hg] at h;obtain⟨h1,h2⟩:=E _ _ _ _ _ _ (hc c mem_cons_self) hs hn hg;change (if deep=none∨deep=some d1 then lV go low p cs (k+1) (some d1) s1 else none)=_ at h;split at h
   ·obtain⟨h3,h4⟩:=RD E cs _ _ _ _ _ (fun c uB=>hc c (mem_cons_of_mem _ uB)) h1 w4 h;exact⟨h3,by omega⟩
   cases h
theorem P3{p:cW}(hp:eH p t.ag.length)(hl:p.leaf=false):∀c∈p.kids,0≤c∧c<t.ag.length:=fun c hc=>⟨hp.az c hc,hp.vu hl c hc⟩
theorem Kb{t:aF}(hp:uY t):∀(f:Nat) (i:Int) (lo hi:K) (level:Nat) (s:jz) (d:Nat) (s':jz),(0≤i∧i<t.ag.length)→nS t s→level≤s.1.length→jq t f i lo hi level s=some (d,s')→nS t s'∧s.1.length≤s'.1.length
 | 0,i,lo,hi,level,s,d,s',_,_,_,h=>by rw[jq] at h;cases h
 | f+1,i,lo,hi,level,s,d,s',hr,hs,hl,h=>by
  rw[jq] at h;split at h
  ·cases h
  rename_i hn;split at h
  ·cases h
  have ha:=hs.add hr hn hl;have hlen:s.1.length+1=(s.1++[i]).length:=(by simp)
  split at h
  ·simp at h;rw[←h.2];exact⟨ha,by show s.1.length≤(s.1++[i]).length;omega⟩
  rename_i fR;have fR:(t.pg i).leaf=false:=(by simpa using fR)
  obtain⟨h1,h2⟩:=RD (n:=level+1) (fun c lo hi s d s' hc hs hn h=>Kb hp f c lo hi (level+1) s d s' hc hs hn h) _ _ _ _ _ _ (P3 (hp _ (jC hr)) fR) ha (by show level+1≤(s.1++[i]).length;omega) h;have h3:(s.1++[i]).length≤s'.1.length:=h2;exact⟨h1,by omega⟩
structure di where
 l:List Int
 ad:Option Addr
 cp:Nat
 s:List ah
variable {L:List di}
def gV(o:di):List D:=[aN o.ad o.l.length o.cp]
theorem wL(o:di):(gV o).length=1:=rfl
theorem agS(o:di):(gV o).all V.one=true:=rfl
def nj(o:di):Prop:=mZ o.l o.ad o.cp o.s
def rO:di:=⟨[],none,0,[]⟩
theorem afn:nj rO:=.inl ⟨rfl,rfl,rfl,rfl,rfl⟩
abbrev zW(L:List di)(ad:Option Addr)(cap:Nat)(S:List ah):Prop:=bg 70 1 (L.flatMap gV) L.length ad cap S
def Wp(t:aF)(b bm:Nat)(n:Nat)(ad:Option Addr)(cap:Nat):ah:=⟨b,182,4,[au 5 cP t.ag,ae t.root,.v (.map (some bm)),aN ad n cap]⟩
def SW(t:aF)(b bm:Nat)(m:List Int)(L:List di)(ad:Option Addr)(cap:Nat)(Sx:List ah):List ah:=Wp t b bm L.length ad cap::kW bm m::(Sx++L.flatMap di.s)
def Wq(t:aF)(b bm:Nat):Option (Nat×jz)→D→List ah→Prop
 | none,r,S=>r = .v (.int .i64 (-1))∧S=[]
 | some (d,s),r,S=>r = .v (.int .i64 (d:Nat))∧∃L ad cap Sx,zW L ad cap Sx∧(∀o∈L,nj o)∧L.map di.l=s.2∧S=SW t b bm s.1 L ad cap Sx
theorem y6{α:Type}(g:α→List ah):∀{L:List α} {j:Nat} (h:j<L.length),(L.flatMap g).Perm (g L[j]++(L.eraseIdx j).flatMap g)
 | a::L,0,_=>by simp
 | a::L,j+1,h=>by
  have E:=y6 g (L:=L) (j:=j) px;simp only[flatMap_cons,getElem_cons_succ,eraseIdx_cons_succ];refine(E.append_left (g a)).trans ?_;rw[←append_assoc,←append_assoc];exact List.perm_append_comm.append_right _
theorem yL{α:Type}(g:α→List ah){L:List α}{j:Nat}(h:j<L.length)(a:α):((L.set j a).flatMap g).Perm (g a++(L.eraseIdx j).flatMap g):=by
 have:=y6 g (L:=L.set j a) (j:=j) (by rw[length_set];exact h);rw[getElem_set_self,eraseIdx_set_eq] at this;exact this
def sH:Option Nat→Int
 | none=>-2
 | some d=>d
variable {G:List (Nat×List Value)}

theorem agT{f:Nat}{low high:K}{s:jz}(h:i∈s.1):jq t (f+1) i low high level s=none:=by rw[jq,if_pos h]
theorem TL{f:Nat}{low high:K}{s:jz}(h:((t.pg i).high≠high∨∃k,(t.pg i).keys.head?=some k∧bC k low)):jq t (f+1) i low high level s=none:=by
 rw[jq];by_cases hi:i∈s.1
 ·rw[if_pos hi]
 rw[if_neg hi,if_pos h]
theorem adw{f:Nat}{low high:K}{s:jz}(h:i∉s.1)(h2:¬((t.pg i).high≠high∨∃k,(t.pg i).keys.head?=some k∧bC k low))(h3:(t.pg i).leaf=true):jq t (f+1) i low high level s=some (level,(s.1++[i],kK s.2 level i)):=by rw[jq,if_neg h,if_neg h2,if_pos h3]
theorem adA{f:Nat}{low high:K}{s:jz}(h:i∉s.1)(h2:¬((t.pg i).high≠high∨∃k,(t.pg i).keys.head?=some k∧bC k low))(h3:(t.pg i).leaf=false):jq t (f+1) i low high level s=lV (fun c lo hi s=>jq t f c lo hi (level+1) s) low (t.pg i) (t.pg i).kids 0 none (s.1++[i],kK s.2 level i):=by rw[jq,if_neg h,if_neg h2,if_neg (by rw[h3];decide)]
section
variable {go:Int→K→K→jz→Option (Nat×jz)} {low:K} {p:cW} {k:Nat} {deep:Option Nat} {s s':jz} {d:Nat}
theorem abO(hk:k<p.kids.length)(h:go p.kids[k] (iw low p k) (gY p k) s=none):lV go low p (p.kids.drop k) k deep s=none:=by rw[drop_eq_getElem_cons hk,lV,h]
theorem P4(hk:k<p.kids.length)(h:go p.kids[k] (iw low p k) (gY p k) s=some (d,s'))(hd:deep=none∨deep=some d):lV go low p (p.kids.drop k) k deep s=lV go low p (p.kids.drop (k+1)) (k+1) (some d) s':=by
 rw[drop_eq_getElem_cons hk,lV,h];show(if deep=none∨deep=some d then _ else _)=_;rw[if_pos hd]
theorem adB(hk:k<p.kids.length)(h:go p.kids[k] (iw low p k) (gY p k) s=some (d,s'))(hd:¬(deep=none∨deep=some d)):lV go low p (p.kids.drop k) k deep s=none:=by
 rw[drop_eq_getElem_cons hk,lV,h];show(if deep=none∨deep=some d then _ else _)=_;rw[if_neg hd]
theorem adC(hk:p.kids.length≤k):lV go low p (p.kids.drop k) k deep s=deep.map fun d=>(d,s):=by rw[drop_of_length_le hk,lV]
end
theorem abP:(L++[rO]).flatMap di.s=L.flatMap di.s:=by simp[rO]
theorem afo{E:List di}(h:E.map di.l=L.map di.l++replicate (E.length-L.length) [])(h1:L.length≤E.length)(h2:E.length≤max L.length (level+1))(h3:level<E.length):E.map di.l=sQ (L.map di.l) (level+1):=by
 rw[h];unfold sQ;rw[length_map,show E.length-L.length=level+1-L.length from by omega]
theorem Kc{E:List di}{o:di}(h:E.map di.l=sQ (L.map di.l) (level+1))(h3:level<E.length)(ho:o.l=E[level].l++[i]):(E.set level o).map di.l=kK (L.map di.l) level i:=by
 rw[map_set,ho];unfold kK;rw[←h,getD_eq_getElem?_getD,getElem?_eq_getElem (by rw[length_map];exact h3),getElem_map];rfl
theorem TM{j:Nat}{o:di}(h:∀o∈L,nj o)(ho:nj o):∀x∈L.set j o,nj x:=fun x hx=>by
 rcases mem_or_eq_of_mem_set hx with hx|rfl
 ·exact h x hx
 exact ho
theorem RE{deep:Option Nat}{d:Nat}(h:sH deep≠-2)(h2:(d:Int)=sH deep):deep=some d:=by
 cases deep with
 | none=>exact absurd rfl h
 | some e=>unfold sH at h2;simp only at h2;rw[show d=e from by omega]
theorem adD{deep:Option Nat}{d:Nat}(h:sH deep≠-2)(h2:¬(d:Int)=sH deep):¬(deep=none∨deep=some d):=by
 rintro(rfl|rfl)
 ·exact h rfl
 exact h2 rfl
theorem P5{deep:Option Nat}(h:sH deep = -2):deep=none:=by
 cases deep with
 | none=>rfl
 | some e=>unfold sH at h;simp only at h;omega
def Vw(G:List (Nat×List Value))(t:aF)(b bm f:Nat):Prop:=∀(i:Int) (low high:K) (level:Nat) (m:List Int) (L:List di) (ad:Option Addr) (cap:Nat) (Sx:List ah),(0≤i∧i<t.ag.length)→nS t (m,(L.map di.l))→level≤m.length→t.ag.length+1≤f+m.length→high.length≤100→zW L ad cap Sx→(∀o∈L,nj o) →
 VC Tryz.prog G 115 [cU b,ae i,au 1 cB low,au 1 cB high,ae (level:Nat)] (SW t b bm m L ad cap Sx) (Wq t b bm (jq t f i low high level (m,(L.map di.l))))

theorem P6:(Tryz.prog.info? 3).map (fun i=>(i.zero,i.size,i.bytes))=some (some (.int .i64 0),1,8):=by kernel_rfl

theorem aas:(Tryz.prog.info? 70).map (fun i=>(i.zero,i.size,i.bytes))=some (some (.slice none 0 0),1,24):=by kernel_rfl

theorem abQ(t:aF)(hp:uY t)(rP:t.ag.length≤4000)(b bm f:Nat)(ih:Vw G t b bm f)(i:Int)(low high:K)(level:Nat)(m:List Int)(L:List di)(ad:Option Addr)(cap:Nat)(Sx:List ah)(hr:0≤i∧i<t.ag.length)(GH:nS t (m,(L.map di.l)))(hlm:level≤m.length)(hfu:t.ag.length+1≤(f+1)+m.length)(YK:high.length≤100)(ng:zW L ad cap Sx)(aV:∀o∈L,nj o) :
 VC Tryz.prog G 115 [cU b,ae i,au 1 cB low,au 1 cB high,ae (level:Nat)] (SW t b bm m L ad cap Sx) (Wq t b bm (jq t (f+1) i low high level (m,(L.map di.l)))):=by
 refine VC.body func115 rfl ntmps115 aQ fun X0 w0 bf=>?_;unfold SW Wp;have cY:=dN;have aa:i.toNat<t.ag.length:=(by omega)
 have qs:t.pg i=(t.ag[i.toNat]'aa):=vl hr;have po:eH (t.ag[i.toNat]'aa) t.ag.length:=hp _ (getElem_mem aa);have YJ:=po.hlen;have Nf:=GH.nW;have Dt:m.length≤t.ag.length:=Nf;refine af [0,1,2,3,4] ?_;refine aA 5 ?_;refine bQ (aa7 (i:=1) rfl ot ot rfl underlying179 underlying3 zeroValue219) ?_;refine aG 3 ?_;refine OD.alloc (ds:=[]) ap rfl rfl zeroValue219 rfl (fun kN=>?_);refine aM 0 [] sizeOf219 ?_;refine an 148 [0,1,2,3,4,12] ?_;refine af [0,1,2,3,4,29] ?_;refine ax ?_ ?_<;>intro aO bA
 ·have jv:i∈m:=(by simpa using aO)
  refine af [10] ?_;refine aK [] ?_;rw[agT (by exact jv)];exact⟨rfl,rfl⟩
 have qo:i∉m:=(by simpa using aO)
 refine aA 6 ?_;refine OD.addKey (i:=2) ap rfl rfl ot ot ot rfl qo underlying179 underlying3 ?_;refine an 148 [0,1,2,3,4] ?_;refine aA 6 ?_;refine bQ (dw 5 (h:=by first|exact .l (j:=i.toNat) (Int.toNat_of_nonneg hr.1).symm aa|exact .r (j:=i.toNat) (Int.toNat_of_nonneg hr.1).symm aa)) ?_;refine aG 1 ?_;refine OD.alloc (ds:=[_,_,_,_,_]) ap rfl rfl zeroValue146 rfl (fun lN=>?_);refine aM 0 [_,_,_,_,_] sizeOf146 ?_;refine an 148 [0,1,2,3,4,13] ?_;refine iv [0,1,2,3,4] (fun aR _ aD=>∃(lN:Nat),(¬((t.pg i).high≠high∨∃k,(t.pg i).keys.head?=some k∧bC k low))∧aD=(⟨148,(13,cU lN)::aR,(⟨lN,146,5,cP (t.ag[i.toNat]'aa)⟩::⟨b,182,4,[au 5 cP t.ag,ae t.root,.v (.map (some bm)),aN ad L.length cap]⟩::kW bm (m++[i])::(Sx++L.flatMap di.s))⟩:St)) ?_ ?_
 ·refine aA 3 ?_;refine dO call133 (Vt (t.ag[i.toNat]'aa).high high w4 w4) ?_;refine aG 2 ?_;refine bW 49 (fun Cr aio=>?_) (fun Cr aio=>?_)
  ·refine an 148 [0,1,2,3,4,13,63] ?_;refine eT ?_;have mz:((t.pg i).high≠high∨∃k,(t.pg i).keys.head?=some k∧bC k low):=(by rw[qs];first|exact .inl (by simpa using Cr)|exact .inr ⟨_,head?_eq_getElem? .. ▸ getElem?_eq_getElem w4,of_decide_eq_true aY⟩)
   refine af [10] ?_;refine aK [] ?_;rw[TL mz];exact⟨rfl,rfl⟩
  refine aG 5 ?_;refine bW 54 (fun zT zk=>?_) (fun zT zk=>?_)
  ·refine aG 2 ?_;refine OD.still iq rfl (oe (mk:=Op.indexAddr 144) rfl ot bP (by first|exact oU (j:=0) runUnderlying144 sizeOf90 rfl Af|exact oV (j:=0) runUnderlying144 sizeOf90 rfl Af)) ?_;refine aG 2 ?_;refine OD.gQ iq rfl rfl rfl call64 (wG ((t.ag[i.toNat]'aa).keys[0]'w4) low) ⟨ot,ot,trivial⟩ ?_;refine an 148 [0,1,2,3,4,13,63] ?_;refine ax ?_ ?_<;>intro aY cz
   ·have mz:((t.pg i).high≠high∨∃k,(t.pg i).keys.head?=some k∧bC k low):=(by rw[qs];first|exact .inl (by simpa using Cr)|exact .inr ⟨_,head?_eq_getElem? .. ▸ getElem?_eq_getElem w4,of_decide_eq_true aY⟩)
    refine af [10] ?_;refine aK [] ?_;rw[TL mz];exact⟨rfl,rfl⟩
   have oA:¬((t.pg i).high≠high∨∃k,(t.pg i).keys.head?=some k∧bC k low):=(by rw[qs];rintro(h|⟨k,hk,vr⟩);exact h (by simpa using Cr);first|(rw[head?_eq_getElem?,getElem?_eq_none w4] at hk;cases hk;done)|(rw[head?_eq_getElem?,getElem?_eq_getElem w4] at hk;cases hk;exact of_decide_eq_false aY vr))
   refine CD.skip ?_;refine⟨_,aJ,lN,oA,rfl⟩
  refine an 148 [0,1,2,3,4,13,63] ?_;refine fY ?_;have oA:¬((t.pg i).high≠high∨∃k,(t.pg i).keys.head?=some k∧bC k low):=(by rw[qs];rintro(h|⟨k,hk,vr⟩);exact h (by simpa using Cr);first|(rw[head?_eq_getElem?,getElem?_eq_none w4] at hk;cases hk;done)|(rw[head?_eq_getElem?,getElem?_eq_getElem w4] at hk;cases hk;exact of_decide_eq_false aY vr))
  refine CD.skip ?_;refine⟨_,aJ,lN,oA,rfl⟩
 rintro _ ⟨lN,oA,rfl⟩;refine ez [0,1,2,3,4,13] (fun aR _ (iO:List di×Option Addr×Nat×List ah) aD=>match iO with|(I,HM,Z,Dx)=>(zW I HM Z Dx)∧(∀o∈I,nj o)∧(I.map di.l=L.map di.l++replicate (I.length-L.length) [])∧(L.length≤I.length)∧(I.length≤max L.length (level+1))∧aD=(⟨148,aR,(⟨lN,146,5,cP (t.ag[i.toNat]'aa)⟩::⟨b,182,4,[au 5 cP t.ag,ae t.root,.v (.map (some bm)),aN HM I.length Z]⟩::kW bm (m++[i])::(Dx++I.flatMap di.s))⟩:St)) (fun (iO:List di×Option Addr×Nat×List ah)=>match iO with|(I,HM,Z,Dx)=>level+1-I.length) (L,ad,cap,Sx) ⟨ng,aV,bq,(Nat.le_refl _),w4,rfl⟩ ?_;rintro⟨I,HM,Z,Dx⟩ _ ⟨Wr,qR,Ws,akP,akQ,rfl⟩;refine af [0,1,2,3,4,13,70] ?_;refine ax ?_ ?_<;>intro cc cN
 ·have mY:=GH.eI;have mY:L.length≤m.length:=(by simpa using mY)
  have E:I.length≤level:=(by omega)
  refine dG 5 ?_;refine ew (cu 0 [_]) [.slice none 0 0] [_] zeroValue70 runUnderlying180 sizeOf70 (fun b76=>?_);refine fS 0 76 1 1 ?_;refine OD.eB (ls:=I) (new:=[rO]) (Sq:=Dx) wL agS ap rfl rfl underlying180 aas rfl w8 ot Wr (oT (A:=[_,_,_])) ot bq GU GU (fun N1 Me akR akS=>?_);refine OD.perm (kf (S1:=[⟨N1,70,Me*1,flatMap gV (I++[rO])⟩]) (A:=[_,_,_])) ?_;rw[←abP (L:=I)];refine aG 2 ?_;refine aM 1 [_,_,_,_] sizeOf180 ?_;refine an 148 [0,1,2,3,4,13] ?_;refine⟨((I++[rO]),(some ⟨N1,0,none⟩),Me,[⟨N1,70,Me*1,flatMap gV (I++[rO])⟩]),_,(by (show level+1-(I++[rO]).length<level+1-I.length;rw[length_append,show[rO].length=1 from rfl];omega)),aJ,(bM akR akS),(fun o ho=>by rcases mem_append.1 ho with ho|ho;exact qR o ho;rw[mem_singleton] at ho;subst ho;exact afn),(by rw[map_append,Ws,append_assoc,length_append,show[rO].length=1 from rfl,show I.length+1-L.length=I.length-L.length+1 from by omega,replicate_succ'];rfl),vE,(by rw[length_append,show[rO].length=1 from rfl];omega),rfl⟩
 have E:level<I.length:=(by omega)
 have zX:=afo Ws akP akQ E;obtain⟨bv,rfl,Cq,BV,rfl⟩:=Wr.pos w4;have dX:nj (I[level]'E):=qR _ (getElem_mem E);have lj:(I[level]'E).l.length≤m.length:=by
    have hz:(I[level]'E).l=(sQ (L.map di.l) (level+1)).getD level []:=(by rw[←zX,getD_eq_getElem?_getD,getElem?_eq_getElem (by rw[length_map];exact E),getElem_map];rfl)
    rw[hz,Ka,getD_eq_getElem?_getD];rcases Nat.lt_or_ge level (L.map di.l).length with q|q
    ·rw[getElem?_eq_getElem q];exact GH.each _ (getElem_mem q)
    rw[getElem?_eq_none q];simp
 refine CD.perm (Perm.cons _ (Perm.cons _ (Perm.cons _ ((y6 di.s E).append_left _)))) ?_;refine CD.exit ?_;refine CD.seq ?_;refine CD.mono (Q:=fun aR aD=>aR=Exit.normal∧∃(o2:di),(nj o2)∧(o2.l=(I[level]'E).l++[i])∧Wk aD (⟨148,[(0,cU b),(2,au 1 cB low),(3,au 1 cB high),(4,ae (level:Nat)),(13,cU lN)],(⟨lN,146,5,cP (t.ag[i.toNat]'aa)⟩::⟨b,182,4,[au 5 cP t.ag,ae t.root,.v (.map (some bm)),aN (some ⟨bv,0,none⟩) (I.set level o2).length Z]⟩::kW bm (m++[i])::([⟨bv,70,Z*1,flatMap gV (I.set level o2)⟩]++(I.set level o2).flatMap di.s))⟩:St)) ?_ ?_
 ·refine CD.draw (av (take 3 _)) aB (fun _ h=>(Sublist.map _ (take_sublist _ _)).subset h) ?_;refine aC 0 rfl bG ?_;refine aC 1 rfl qg ?_;refine aC 2 rfl (dF 3) ?_;refine aC 3 rfl (dK 1) ?_;refine aC 4 rfl bG ?_;refine aC 5 rfl bG ?_;refine aC 6 rfl qg ?_;refine aC 7 rfl (dF 3) ?_;refine aC 8 rfl (dK 1) ?_;refine aC 9 rfl bG ?_;refine aC 10 rfl (dw 1) ?_;refine aC 12 rfl bG ?_;refine dH.later rfl ?_;refine AD.two (i:=11) (j:=13) aB ?_ ?_
  ·refine at_ rfl (cR (mk:=Op.load 70) rfl ot (iZ (k:=3) (d:=aN (I[level]'E).ad (I[level]'E).l.length (I[level]'E).cp) (i:=level) wL rfl rfl rfl isAgg70 E rfl)) ?_;refine AD.one (i:=13) aB ?_;refine nF (cu 0 [_]) [.int .i64 0] [_] zeroValue3 runUnderlying70 sizeOf3 (fun Yx=>?_);refine nG 0 93 1 1 ?_;refine AD.one (i:=14) aB ?_;refine bB.eB (ls:=(I[level]'E).l) (new:=[i]) (Sq:=(I[level]'E).s) eG nP rfl ap rfl rfl underlying70 P6 rfl w8 ot dX (tF (A:=[_,_,_]) (S1:=[⟨bv,70,Z*1,flatMap gV I⟩])) ot bq nB nC (fun U O Mf Mg=>?_);refine AD.perm (wi (S2:=[⟨U,3,O*1,flatMap cI ((I[level]'E).l++[i])⟩]) (A:=[_,_,_])) ?_;refine c9 15 rfl (dw 1) ?_;refine AD.one (i:=16) aB ?_;refine bB.storeAt (k:=3) (cs':=flatMap gV (I.set level (⟨(I[level]'E).l++[i],some ⟨U,0,none⟩,O,[⟨U,3,O*1,flatMap cI ((I[level]'E).l++[i])⟩]⟩:di))) rfl ap rfl rfl ot rfl rfl ot rfl rfl sizeOf70 rfl (by show 0+level*1+1≤(flatMap gV I).length;rw[cm wL];omega) (by rw[Nat.zero_add];exact oq wL I (⟨(I[level]'E).l++[i],some ⟨U,0,none⟩,O,[⟨U,3,O*1,flatMap cI ((I[level]'E).l++[i])⟩]⟩:di) E) iD ?_
   refine AD.wk (y:=⟨148,[(0,_),(2,_),(3,_),(4,_),(13,_)],(⟨lN,146,5,[_,_,_,_,_]⟩::⟨b,182,4,[_,_,_,_]⟩::_::([⟨bv,70,Z*1,flatMap gV (I.set level (⟨(I[level]'E).l++[i],some ⟨U,0,none⟩,O,[⟨U,3,O*1,flatMap cI ((I[level]'E).l++[i])⟩]⟩:di))⟩]++([⟨U,3,O*1,flatMap cI ((I[level]'E).l++[i])⟩]++((I.eraseIdx level).flatMap di.s))))⟩) (Wk.dP rfl rfl fy) rfl ?_;refine AD.done aB ?_;exact⟨rfl,(⟨(I[level]'E).l++[i],some ⟨U,0,none⟩,O,[⟨U,3,O*1,flatMap cI ((I[level]'E).l++[i])⟩]⟩:di),bM Mf Mg,rfl,by rw[length_set];exact Wk.perm (Perm.cons _ (Perm.cons _ (Perm.cons _ ((yL di.s E (⟨(I[level]'E).l++[i],some ⟨U,0,none⟩,O,[⟨U,3,O*1,flatMap cI ((I[level]'E).l++[i])⟩]⟩:di)).symm.append_left _))))⟩
  refine nF (cu 0 [_]) [.int .i64 0] [_] zeroValue3 runUnderlying70 sizeOf3 (fun Yx=>?_);refine nG 0 93 1 1 ?_;refine AD.one (i:=11) aB ?_;refine at_ rfl (cR (mk:=Op.load 70) rfl ot (iZ (k:=3) (d:=aN (I[level]'E).ad (I[level]'E).l.length (I[level]'E).cp) (i:=level) wL rfl rfl rfl isAgg70 E rfl)) ?_;refine AD.one (i:=14) aB ?_;refine bB.eB (ls:=(I[level]'E).l) (new:=[i]) (Sq:=(I[level]'E).s) eG nP rfl ap rfl rfl underlying70 P6 rfl w8 ot dX (tF (A:=[_,_,_]) (S1:=[⟨bv,70,Z*1,flatMap gV I⟩])) ot bq nB nC (fun U O Mf Mg=>?_);refine AD.perm (wi (S2:=[⟨U,3,O*1,flatMap cI ((I[level]'E).l++[i])⟩]) (A:=[_,_,_])) ?_;refine c9 15 rfl (dw 1) ?_;refine AD.one (i:=16) aB ?_;refine bB.storeAt (k:=3) (cs':=flatMap gV (I.set level (⟨(I[level]'E).l++[i],some ⟨U,0,none⟩,O,[⟨U,3,O*1,flatMap cI ((I[level]'E).l++[i])⟩]⟩:di))) rfl ap rfl rfl ot rfl rfl ot rfl rfl sizeOf70 rfl (by show 0+level*1+1≤(flatMap gV I).length;rw[cm wL];omega) (by rw[Nat.zero_add];exact oq wL I (⟨(I[level]'E).l++[i],some ⟨U,0,none⟩,O,[⟨U,3,O*1,flatMap cI ((I[level]'E).l++[i])⟩]⟩:di) E) iD ?_
  refine AD.wk (y:=⟨148,[(0,_),(2,_),(3,_),(4,_),(13,_)],(⟨lN,146,5,[_,_,_,_,_]⟩::⟨b,182,4,[_,_,_,_]⟩::_::([⟨bv,70,Z*1,flatMap gV (I.set level (⟨(I[level]'E).l++[i],some ⟨U,0,none⟩,O,[⟨U,3,O*1,flatMap cI ((I[level]'E).l++[i])⟩]⟩:di))⟩]++([⟨U,3,O*1,flatMap cI ((I[level]'E).l++[i])⟩]++((I.eraseIdx level).flatMap di.s))))⟩) (Wk.dP rfl rfl fy) rfl ?_;refine AD.done aB ?_;exact⟨rfl,(⟨(I[level]'E).l++[i],some ⟨U,0,none⟩,O,[⟨U,3,O*1,flatMap cI ((I[level]'E).l++[i])⟩]⟩:di),bM Mf Mg,rfl,by rw[length_set];exact Wk.perm (Perm.cons _ (Perm.cons _ (Perm.cons _ ((yL di.s E (⟨(I[level]'E).l++[i],some ⟨U,0,none⟩,O,[⟨U,3,O*1,flatMap cI ((I[level]'E).l++[i])⟩]⟩:di)).symm.append_left _))))⟩
 rintro _ _ ⟨rfl,o2,rq,GC,aip⟩;refine CD.wk aip ?_;refine af [0,2,3,4,13,97] ?_;refine ax ?_ ?_<;>intro cQ ek
 ·refine af [10] ?_;refine aK (SW t b bm (m++[i]) (I.set level o2) (some ⟨bv,0,none⟩) Z _) ?_;rw[adw qo oA (by rw[qs];exact cQ)];exact⟨rfl,_,_,_,_,bM (by rw[length_set];exact Cq) BV,TM qR rq,Kc zX E GC,rfl⟩
 have fR:(t.pg i).leaf=false:=(by rw[qs];exact cQ)
 have Gg:nS t (m++[i],(I.set level o2).map di.l):=(by rw[Kc zX E GC];exact GH.add hr qo hlm)
 have akT:=P3 po (by rw[←qs];exact fR);have apR:=(po.node (by rw[←qs];exact fR)).1;have apS:=po.eI;have BW:(t.ag[i.toNat]'aa).high=high:=(by rw[←qs];exact Classical.byContradiction fun h=>oA (.inl h))
 refine af [0,2,3,4,13,14] ?_;refine af [0,2,3,4,13,14,100,101,102] ?_;refine ez [0,2,3,4,13,100,101] (fun aR _ (iO:Nat×Option Nat×List Int×List di×Option Addr×Nat×List ah) aD=>match iO with|(k,deep,m2,L2,uG,uf,uH)=>(k≤(t.ag[i.toNat]'aa).kids.length)∧(lV (fun c lo hi s=>jq t f c lo hi (level+1) s) low (t.ag[i.toNat]'aa) ((t.ag[i.toNat]'aa).kids.drop k) k deep (m2,(L2.map di.l))=(jq t (f+1) i low high level (m,(L.map di.l))))∧(zW L2 uG uf uH)∧(∀o∈L2,nj o)∧(nS t (m2,(L2.map di.l)))∧(level+1≤m2.length)∧(t.ag.length+1≤f+m2.length)∧((k=0∨deep≠none))∧aD=(⟨148,(14,ae (sH deep))::(102,ae (k:Nat))::aR,(⟨lN,146,5,cP (t.ag[i.toNat]'aa)⟩::⟨b,182,4,[au 5 cP t.ag,ae t.root,.v (.map (some bm)),aN uG L2.length uf]⟩::kW bm m2::(uH++L2.flatMap di.s))⟩:St)) (fun (iO:Nat×Option Nat×List Int×List di×Option Addr×Nat×List ah)=>match iO with|(k,deep,m2,L2,uG,uf,uH)=>(t.ag[i.toNat]'aa).kids.length-k) (0,none,(m++[i]),(I.set level o2),(some ⟨bv,0,none⟩),Z,[⟨bv,70,Z*1,flatMap gV (I.set level o2)⟩]) ⟨(Nat.zero_le _),(by rw[adA qo oA fR,Kc zX E GC,qs];rfl),(bM (by rw[length_set];exact Cq) BV),(TM qR rq),Gg,G0,G0,(.inl rfl),rfl⟩ ?_;rintro⟨k,deep,m2,L2,uG,uf,uH⟩ _ ⟨hk,Dy,Wt,jZ,Gg,Wu,akU,hdp,rfl⟩;refine af [0,2,3,4,13,14,100,101,102,103] ?_;refine ax ?_ ?_<;>intro dV fB
 ·have dU:k<(t.ag[i.toNat]'aa).kids.length:=(by omega)
  have YL:=akT _ (getElem_mem dU);have hhk:(gY (t.ag[i.toNat]'aa) k).length≤100:=(by unfold gY;rw[getD_eq_getElem?_getD];rcases Nat.lt_or_ge k (t.ag[i.toNat]'aa).keys.length with q|q;(rw[getElem?_eq_getElem q];exact(po.lC _ (getElem_mem q)).2);(rw[getElem?_eq_none q];exact po.hlen))
  refine af [0,2,3,4,13,14,15,16,100,101,102] ?_;refine af [0,2,3,4,13,14,15,16,17,18,100,101,102] ?_;refine CD.cut (fun aD=>aD=(⟨148,[(0,cU b),(2,au 1 cB low),(3,au 1 cB high),(4,ae (level:Nat)),(13,cU lN),(14,ae (sH deep)),(15,ae (k:Nat)),(16,ae ((t.ag[i.toNat]'aa).kids[k]'dU)),(17,.list 1 ((iw low (t.ag[i.toNat]'aa) k).flatMap cB) (iw low (t.ag[i.toNat]'aa) k).length),(18,au 1 cB high),(100,.list 1 ((t.ag[i.toNat]'aa).kids.flatMap cI) (t.ag[i.toNat]'aa).kids.length),(101,ae ((t.ag[i.toNat]'aa).kids.length:Nat)),(102,ae (k:Nat))],(⟨lN,146,5,cP (t.ag[i.toNat]'aa)⟩::⟨b,182,4,[au 5 cP t.ag,ae t.root,.v (.map (some bm)),aN uG L2.length uf]⟩::kW bm m2::(uH++L2.flatMap di.s))⟩:St)) ?_ ?_
  ·refine af [0,2,3,4,13,14,15,16,17,18,100,101,102,110] ?_;refine ax ?_ ?_<;>intro fD gG
   ·have eJ:iw low (t.ag[i.toNat]'aa) k=(t.ag[i.toNat]'aa).keys[k-1]'w4:=(by unfold iw;rw[if_neg w4,getD_eq_getElem?_getD,getElem?_eq_getElem w4];rfl)
    refine gC [0,2,3,4,13,14,15,16,17,18,100,101,102] ?_;refine aP 4 ?_ (h:=by exact(dw 1 (h:=by first|exact .l (j:=k-1) w4 w4|exact .r (j:=k-1) w4 w4)));refine bD ?_;refine⟨_,(aJ (h:=by repeat (first|exact trivial|refine⟨(by (repeat (first|exact fI|(apply fX;focus (first|rfl|(rw[eJ];done)|(simp;done)))|(apply fN;focus rfl)));done),?_⟩))),rfl⟩
   have eJ:iw low (t.ag[i.toNat]'aa) k=low:=(by unfold iw;rw[if_pos w4])
   refine CD.skip ?_;refine⟨_,(aJ (h:=by repeat (first|exact trivial|refine⟨(by (repeat (first|exact fI|(apply fX;focus (first|rfl|(rw[eJ];done)|(simp;done)))|(apply fN;focus rfl)));done),?_⟩))),rfl⟩
  rintro _ ⟨rfl⟩;refine CD.cut (fun aD=>aD=(⟨148,[(0,cU b),(2,au 1 cB low),(3,au 1 cB high),(4,ae (level:Nat)),(13,cU lN),(14,ae (sH deep)),(16,ae ((t.ag[i.toNat]'aa).kids[k]'dU)),(17,.list 1 ((iw low (t.ag[i.toNat]'aa) k).flatMap cB) (iw low (t.ag[i.toNat]'aa) k).length),(18,.list 1 ((gY (t.ag[i.toNat]'aa) k).flatMap cB) (gY (t.ag[i.toNat]'aa) k).length),(100,.list 1 ((t.ag[i.toNat]'aa).kids.flatMap cI) (t.ag[i.toNat]'aa).kids.length),(101,ae ((t.ag[i.toNat]'aa).kids.length:Nat)),(102,ae (k:Nat))],(⟨lN,146,5,cP (t.ag[i.toNat]'aa)⟩::⟨b,182,4,[au 5 cP t.ag,ae t.root,.v (.map (some bm)),aN uG L2.length uf]⟩::kW bm m2::(uH++L2.flatMap di.s))⟩:St)) ?_ ?_
  ·refine af [0,2,3,4,13,14,15,16,17,18,100,101,102,121] ?_;refine ax ?_ ?_<;>intro iP o9
   ·have eD:gY (t.ag[i.toNat]'aa) k=(t.ag[i.toNat]'aa).keys[k]'w4:=(by unfold gY;rw[getD_eq_getElem?_getD,getElem?_eq_getElem w4];rfl)
    refine bX [0,2,3,4,13,14,16,17,18,100,101,102] ?_;refine⟨_,(aJ (h:=by repeat (first|exact trivial|refine⟨(by (repeat (first|exact fI|(apply fX;focus (first|rfl|(rw[eD];done)|(simp;done)))|(apply fN;focus rfl)));done),?_⟩))),rfl⟩
   have eD:gY (t.ag[i.toNat]'aa) k=high:=(by unfold gY;rw[getD_eq_getElem?_getD,getElem?_eq_none w4];exact BW)
   refine CD.skip ?_;refine⟨_,(aJ (h:=by repeat (first|exact trivial|refine⟨(by (repeat (first|exact fI|(apply fX;focus (first|rfl|(rw[eD];done)|(simp;done)))|(apply fN;focus rfl)));done),?_⟩))),rfl⟩
  rintro _ ⟨rfl⟩;refine aA 5 ?_;refine bQ (dj (r:=.int .i64 ((level+1:Nat):Int)) rfl ot bP (kz (by rw[show((level:Nat):Int)+1=((level+1:Nat):Int) from rfl];exact wrap_i64 w4 w4))) ?_;refine OD.call ap rfl rfl rfl call115 (ih ((t.ag[i.toNat]'aa).kids[k]'dU) (iw low (t.ag[i.toNat]'aa) k) (gY (t.ag[i.toNat]'aa) k) (level+1) m2 L2 uG uf uH YL Gg Wu akU hhk Wt jZ) ⟨ot,ot,ot,ot,ot,trivial⟩ (perm_append_singleton _ _).symm ?_;rintro r19 S19 mV;rcases jJ:jq t f ((t.ag[i.toNat]'aa).kids[k]'dU) (iw low (t.ag[i.toNat]'aa) k) (gY (t.ag[i.toNat]'aa) k) (level+1) (m2,(L2.map di.l)) with _|⟨d,m3,lv3⟩
  ·rw[jJ] at mV;obtain⟨rfl,rfl⟩:=mV;have aiq:=Dy.symm.trans (abO dU jJ);refine an 148 [0,2,3,4,13,14,19,100,101,102] ?_;refine aA 3 ?_;refine bW 136 (fun BX KJ=>?_) (fun BX KJ=>?_)
   ·refine bp [0,2,3,4,13,19,100,101,102,144] ?_;refine eT ?_;refine af [10] ?_;refine aK [] ?_;rw[aiq];exact⟨rfl,rfl⟩
   exact absurd BX w8
  rw[jJ] at mV;obtain⟨rfl,L3,HN,GI,HO,Wv,xD,rfl,rfl⟩:=mV;obtain⟨Vx,F4⟩:=Kb hp _ _ _ _ _ _ _ _ YL Gg Wu jJ;have F4:m2.length≤m3.length:=F4;refine OD.perm (perm_append_singleton _ _) ?_;refine an 148 [0,2,3,4,13,14,19,100,101,102] ?_;refine aA 3 ?_;refine bW 136 (fun BX KJ=>?_) (fun BX KJ=>?_)
  ·exact absurd BX (by intro e;have e:=of_decide_eq_true e;omega)
  refine aG 3 ?_;refine bW 139 (fun zB agU=>?_) (fun zB agU=>?_)
  ·refine bp [0,2,3,4,13,19,100,101,102,144] ?_;refine ax ?_ ?_<;>intro iG mU
   ·refine af [10] ?_;refine aK [] ?_;rw[Dy.symm.trans (adB dU jJ (adD (by simpa using zB) (by simpa using iG)))];exact⟨rfl,rfl⟩
   refine bX [0,2,3,4,13,14,100,101,102] ?_;refine bX [0,2,3,4,13,14,100,101,102] ?_;refine⟨((k+1),(some d),m3,L3,HN,GI,HO),_,cn,aJ,w4,((P4 dU jJ (by first|exact .inl (P5 (by simpa using zB))|exact .inr (RE (by simpa using zB) (by simpa using iG)))).symm.trans Dy),Wv,xD,Vx,w4,w4,(.inr (fun e=>by cases e)),rfl⟩
  refine bp [0,2,3,4,13,19,100,101,102,144] ?_;refine fY ?_;refine bX [0,2,3,4,13,14,100,101,102] ?_;refine bX [0,2,3,4,13,14,100,101,102] ?_;refine⟨((k+1),(some d),m3,L3,HN,GI,HO),_,cn,aJ,w4,((P4 dU jJ (by first|exact .inl (P5 (by simpa using zB))|exact .inr (RE (by simpa using zB) (by simpa using iG)))).symm.trans Dy),Wv,xD,Vx,w4,w4,(.inr (fun e=>by cases e)),rfl⟩
 obtain rfl:k=(t.ag[i.toNat]'aa).kids.length:=(by omega)
 obtain⟨d,rfl⟩:∃d,deep=some d:=(by rcases hdp with h|h;omega;exact Option.ne_none_iff_exists'.1 h)
 refine af [10] ?_;refine aK (SW t b bm m2 L2 uG uf uH) ?_;rw[←Dy,adC (Nat.le_refl _)];exact⟨rfl,L2,uG,uf,uH,Wt,jZ,rfl,rfl⟩

end Go.Proofs.YtkgmonfgofobaaaGreatDoor.Tw

namespace Go.Proofs.YtkgmonfgofobaaaGreatDoor.Tw
open List
open Go.Proofs.Tryz
open Go.RowKit V Go.Proofs.YtkgmonfgofobaaaGreatDoor.Tr Pk
theorem Ke{G:List (Nat×List Value)}(t:aF)(hp:uY t)(I:t.ag.length≤4000)(b Z:Nat):∀f,Vw G t b Z f
 | 0=>fun i low high level m L ad cap Sx hr E O U _ _ _=>by have h:m.length≤t.ag.length:=E.nW;exfalso;omega
 | f+1=>fun i low high level m L ad cap Sx hr E O U YK ng aV=>abQ t hp I b Z f (Ke t hp I b Z f) i low high level m L ad cap Sx hr E O U YK ng aV
theorem wB(t:aF):nS t ([],[]):=⟨nodup_nil,(fun x h=>by cases h),Nat.le_refl _,(fun l h=>by cases h),(fun l h=>by cases h)⟩
theorem Kf{t:aF}{e:Int}:∀{l:List Int},fi t l e↔∀k (h:k<l.length),(t.pg l[k]).next=l.getD (k+1) e
  | []=>⟨(fun _ k h=>by cases h),fun _=>trivial⟩
  | [i] => ⟨fun h k hk => by obtain rfl : k=0 := by (simp at hk; exact hk)
                             exact h,fun h=>h 0 bq⟩
  | i::j::r=>by
    show(t.pg i).next=j∧fi t (j::r) e↔_;rw[Kf (l:=j::r)];constructor
    · rintro⟨h1,h2⟩ k hk;cases k with
      | zero=>exact h1
      | succ k=>exact h2 k (by simpa using hk)
    intro h;exact⟨h 0 bq,fun k hk=>h (k+1) (by simpa using hk)⟩
theorem P7{p:cW}{n:Int}:BS p n=true↔eH p n:=by unfold BS;simp
section
variable {t:aF}
theorem OP(h:t.ag.length<1∨t.ag.length>4000∨t.root<0∨t.root≥t.ag.length):gD t=11:=by unfold gD;rw[if_pos h]
theorem aat(h:¬uY t):gD t=11:=by
 unfold gD;split
 ·rfl
 first|rfl|rw[if_pos h]
variable {d:Nat} {m:List Int} {lv:List (List Int)}
theorem aau(hw:jq t (t.ag.length+1) t.root [] [] 0 ([],[])=none):gD t=11:=by
 unfold gD;split
 ·rfl
 split
 ·rfl
 rw[hw]
theorem abR(hw:jq t (t.ag.length+1) t.root [] [] 0 ([],[])=some (d,m,lv))(h:m.length≠t.ag.length):gD t=11:=by
 unfold gD;split
 ·rfl
 split
 ·rfl
 rw[hw];exact if_pos h
open Classical in
theorem abS(hw:jq t (t.ag.length+1) t.root [] [] 0 ([],[])=some (d,m,lv))(h:¬∀l∈lv,fi t l (-1)):gD t=11:=by
 unfold gD;split
 ·rfl
 split
 ·rfl
 rw[hw];show(if m.length≠t.ag.length then (11:Int) else if ∀l∈lv,fi t l (-1) then 0 else 11)=11;split
 ·rfl
 first|rfl|rw[if_neg h]
open Classical in
theorem abT(h1:¬(t.ag.length<1∨t.ag.length>4000∨t.root<0∨t.root≥t.ag.length))(h2:uY t)(hw:jq t (t.ag.length+1) t.root [] [] 0 ([],[])=some (d,m,lv))(h3:m.length=t.ag.length)(h:∀l∈lv,fi t l (-1)):gD t=0:=by
 unfold gD;rw[if_neg h1,if_neg (fun hn=>hn h2),hw];show(if m.length≠t.ag.length then (11:Int) else if ∀l∈lv,fi t l (-1) then 0 else 11)=0;rw[if_neg (fun hn=>hn h3),if_pos h]
end
def yu(l:List Int):List D:=[au 1 cI l]
theorem afp(l:List Int):(yu l).length=1:=rfl
theorem TN{S:List ah}:∀{L:List di},(∀o∈L,nj o)→(∀B∈L.flatMap di.s,B∈S)→gE S (L.flatMap gV) ((L.map di.l).flatMap yu)
 | [],_,_=>trivial
 | o::L,h,hs=>by
  rw[map_cons,flatMap_cons,flatMap_cons];refine gE.append ⟨lq (h o mem_cons_self) (cm eG _) (fun B E=>hs B ?_),trivial⟩ (TN (fun o ho=>h o (mem_cons_of_mem _ ho)) fun B E=>hs B ?_)
  ·rw[flatMap_cons];exact mem_append_left _ E
  rw[flatMap_cons];exact mem_append_right _ E
theorem agV{Sx:List ah}{L:List di}{ad:Option Addr}{cap:Nat}{lv:List (List Int)}(ho:zW L ad cap Sx)(h:∀o∈L,nj o)(hm:L.map di.l=lv):View (Sx++L.flatMap di.s) (aN ad L.length cap) (au 1 yu lv):=by
 subst hm;have:=A8 ho (TN (S:=Sx++L.flatMap di.s) h fun B E=>mem_append_right _ E) (cm afp _ |>.trans bq) (fun B E=>mem_append_left _ E);first|rw[length_map]|(show View _ _ (.list _ _ (length _));rw[length_map])|(show View _ _ (.agg [.list _ _ (length _)]);rw[length_map])
 exact this
variable {G:List (Nat×List Value)}

theorem pQ(t:aF)(hb:∀p∈t.ag,p.keys.length≤maxLen∧p.kids.length≤maxLen):VP Tryz.prog G 62 [.agg (cT t)] (ae (gD t)):=by
 refine VC.body func62 rfl ntmps62 aQ fun X0 w0 bf=>?_;unfold cT;have cY:=dN;refine bS ?_;refine OD.box (ds:=[_,_]) ap rfl rfl ot rfl rfl (fun b1=>?_);refine an 104 [1] ?_;refine aA 5 ?_;refine bW 15 (fun B7 air=>?_) (fun B7 air=>?_)
 ·exact z70
 refine aG 6 ?_;refine bW 21 (fun qQ ais=>?_) (fun qQ ais=>?_)
 ·exact z70
 refine aG 5 ?_;refine bW 26 (fun akV Lf=>?_) (fun akV Lf=>?_)
 ·exact z70
 refine bp [1,33] ?_;refine ax ?_ ?_<;>intro aO bA
 ·refine af [2] ?_;refine eU ?_;exact⟨vi (OP w4).symm,rfl⟩
 refine af [1,35,36,37] ?_;refine ez [1,35,36] (fun aR _ (i:Nat) aD=>(i≤t.ag.length)∧(∀j (h:j<t.ag.length),j<i→eH t.ag[j] t.ag.length)∧aD=(⟨104,(37,ae (i:Nat))::aR,[⟨b1,75,2,[au 5 cP t.ag,ae t.root]⟩]⟩:St)) (fun (i:Nat)=>t.ag.length-i) 0 ⟨(Nat.zero_le _),(fun j h h0=>by omega),rfl⟩ ?_;rintro i _ ⟨hi,qs,rfl⟩;refine af [1,35,36,37,38] ?_;refine ax ?_ ?_<;>intro aY cz
 ·have aa:i<t.ag.length:=(by omega)
  obtain⟨dU,fC⟩:=hb (t.ag[i]'aa) (getElem_mem aa);refine aA 2 ?_;refine OD.alloc (ds:=[_,_,_,_,_]) ap rfl rfl zeroValue146 rfl (fun b4=>?_);refine aM 0 [_,_,_,_,_] sizeOf146 ?_;refine an 104 [1,4,35,36,37] ?_;refine cL [1,35,36,37,46] (afj (t.ag[i]'aa) (t.ag.length:Nat) dU fC) ?_;refine ax ?_ ?_<;>intro cc cN
  ·have mz:¬uY t:=fun h=>by have:=P7.2 (h (t.ag[i]'aa) (getElem_mem aa));rw[this] at cc;cases cc
   refine af [2] ?_;refine aK [] ?_;exact⟨vi (aat mz).symm,rfl⟩
  have akW:eH (t.ag[i]'aa) t.ag.length:=P7.1 (by simpa using cc);refine bX [1,35,36,37] ?_;refine⟨(i+1),_,cn,aJ,w4,(fun j h h0=>by rcases Nat.lt_or_ge j i with q|q;exact qs j h q;obtain rfl:j=i:=w4;exact akW),rfl⟩
 have fm:uY t:=fun p h=>by obtain⟨j,hj,rfl⟩:=mem_iff_getElem.1 h;exact qs j hj w4
 have h4:t.ag.length≤4000:=(by omega)
 have E:0≤t.root∧t.root<t.ag.length:=(by omega)
 refine aA 1 ?_;refine OD.aeE ap rfl rfl (fun O=>?_);refine aG 1 ?_;refine OD.box (ds:=[_,_,_,_]) ap rfl rfl ot rfl rfl (fun U=>?_);refine an 104 [1,5] ?_;refine CD.seq ?_;refine CD.seq ?_;rcases jJ:jq t (t.ag.length+1) t.root [] [] 0 ([],[]) with _|⟨d,m,lv⟩
 ·refine gX 14 (av (drop 2 _)) ?_ (fun _ h=>(Sublist.map _ (drop_sublist _ _)).subset h);refine aC 0 rfl bG ?_;refine aC 1 rfl (dF 1) ?_;refine aC 2 rfl (dK 2) ?_;refine dH.later rfl ?_;refine AD.one (i:=3) aB ?_;refine bB.call rfl ap rfl rfl rfl call115 (VC.eY (args':=[cU U,ae t.root,bF,bF,ae 0]) (Ke t fm h4 U O (t.ag.length+1) t.root [] [] 0 [] [] none 0 [] E (wB t) (Nat.le_refl _) (Nat.le_refl _) w8 iz (fun o h=>by cases h)) ⟨.inl rfl,.inl rfl,.inr ⟨1,rfl,rfl⟩,.inr ⟨1,rfl,rfl⟩,.inl rfl,trivial⟩) ⟨ot,ot,bP,bP,bP,trivial⟩ (Perm.refl _) iD ?_;rintro r55 MY mV;rw[show map di.l []=[] from rfl,jJ] at mV;obtain⟨rfl,rfl⟩:=mV;refine c9 4 rfl ql ?_;refine c9 5 rfl bG ?_;refine AD.split (t:=57) lk (fun ud=>?_) (fun ud=>?_)
  ·have BM:=ud;(try simp only[V.nH,ne_eq] at BM)
   refine qh 6 rfl ?_;refine qh 7 rfl ?_;refine qh 11 rfl ?_;refine qh 12 rfl ?_;refine qh 13 rfl ?_;refine AD.one (i:=8) aB ?_;refine bB.skip rfl (mN rfl rfl rfl lk jr) rfl ?_;refine AD.one (i:=9) aB ?_;refine bB.skip rfl (mN rfl rfl rfl lk jr) rfl ?_;refine AD.one (i:=10) aB ?_;refine bB.skip rfl (mN rfl rfl rfl lk jr) rfl ?_;refine fw ?_;refine bp [1,5,67] ?_;refine eT ?_;try have I:m.length≠t.ag.length:=by intro e;rw[e] at cQ;simp at cQ
   refine af [2] ?_;refine eU ?_;exact⟨vi (aau jJ).symm,rfl⟩
  exact absurd ud w8
 refine gX 14 (av (drop 2 _)) ?_ (fun _ h=>(Sublist.map _ (drop_sublist _ _)).subset h);refine aC 0 rfl bG ?_;refine aC 1 rfl (dF 1) ?_;refine aC 2 rfl (dK 2) ?_;refine dH.later rfl ?_;refine AD.one (i:=3) aB ?_;refine bB.call rfl ap rfl rfl rfl call115 (VC.eY (args':=[cU U,ae t.root,bF,bF,ae 0]) (Ke t fm h4 U O (t.ag.length+1) t.root [] [] 0 [] [] none 0 [] E (wB t) (Nat.le_refl _) (Nat.le_refl _) w8 iz (fun o h=>by cases h)) ⟨.inl rfl,.inl rfl,.inr ⟨1,rfl,rfl⟩,.inr ⟨1,rfl,rfl⟩,.inl rfl,trivial⟩) ⟨ot,ot,bP,bP,bP,trivial⟩ (Perm.refl _) iD ?_;rintro r55 MY mV;rw[show map di.l []=[] from rfl,jJ] at mV;obtain⟨rfl,L,ad,cap,Sx,ng,aV,zX,rfl⟩:=mV;refine AD.perm (Perm.cons _ (Perm.cons _ (perm_append_singleton _ _))) ?_;refine c9 4 rfl ql ?_;refine c9 5 rfl bG ?_;refine AD.split (t:=57) lk (fun ud=>?_) (fun ud=>?_)
 ·exact absurd ud (by intro e;have e:=of_decide_eq_true e;omega)
 have BM:=ud;(try simp only[V.nH,ne_eq] at BM)
 refine c9 6 rfl bG ?_;refine c9 7 rfl qg ?_;refine c9 11 rfl (dF 0) ?_;refine c9 12 rfl (dK 2) ?_;refine c9 13 rfl x4 ?_;refine AD.one (i:=8) aB ?_;refine at_ rfl (dF 2) ?_;refine AD.one (i:=9) aB ?_;refine at_ rfl (dK 0) ?_;refine AD.one (i:=10) aB ?_;refine at_ rfl (aae (i:=1) rfl rfl ot rfl underlying179) ?_;refine fw ?_;refine bp [1,5,67] ?_;refine ax ?_ ?_<;>intro cQ ek
 ·try have I:m.length≠t.ag.length:=by intro e;rw[e] at cQ;simp at cQ
  refine af [2] ?_;refine eU ?_;exact⟨vi (abR jJ I).symm,rfl⟩
 have I:m.length=t.ag.length:=(by have:=cQ;simp at this;omega)
 refine CD.wk (Wk.cover (A:=⟨U,182,4,[au 5 cP t.ag,ae t.root,.v (.map (some O)),aN ad L.length cap]⟩) (R:=[kW O m,⟨b1,75,2,[au 5 cP t.ag,ae t.root]⟩]) (Sd:=Sx++L.flatMap di.s) (cs':=[au 5 cP t.ag,ae t.root,.v (.map (some O)),au 1 yu lv]) (Perm.refl _) ⟨eO,eO,eO,agV ng aV zX,trivial⟩) ?_;obtain⟨Z,_⟩:=Kb fm _ _ _ _ _ _ _ _ E (wB t) (Nat.le_refl _) jJ;refine af [1,71,72,73] ?_;refine X8 (fun (i:Nat) aD=>(i≤lv.length)∧(∀j (_:j<i) (h:j<lv.length),fi t lv[j] (-1))∧aD=(⟨104,[(1,cU b1),(71,au 1 yu lv),(72,ae (lv.length:Nat)),(73,ae (i:Nat))],[⟨b1,75,2,[au 5 cP t.ag,ae t.root]⟩]⟩:St)) (fun (i:Nat)=>lv.length-i) 0 ⟨(Nat.zero_le _),(fun j h _=>by omega),rfl⟩ ?_;rintro i _ ⟨j9,HP,rfl⟩;refine af [1,71,72,73,74] ?_;refine ax ?_ ?_<;>intro dV fB
 ·have fC:i<lv.length:=(by omega)
  have Di:∀x∈(lv[i]'fC),0≤x∧x<t.ag.length:=Z.el _ (getElem_mem fC);have lj:(lv[i]'fC).length≤m.length:=Z.each _ (getElem_mem fC);have YM:lv.length≤m.length:=Z.eI;refine af [1,7,71,72,73] ?_;refine af [1,7,71,72,73,77,78,79] ?_;refine X8 (fun (k:Nat) aD=>(k≤(lv[i]'fC).length)∧(∀j (_:j<k) (h:j<(lv[i]'fC).length),(t.pg (lv[i]'fC)[j]).next=(lv[i]'fC).getD (j+1) (-1))∧aD=(⟨104,[(1,cU b1),(7,.list 1 ((lv[i]'fC).flatMap cI) (lv[i]'fC).length),(71,au 1 yu lv),(72,ae (lv.length:Nat)),(73,ae (i:Nat)),(77,.list 1 ((lv[i]'fC).flatMap cI) (lv[i]'fC).length),(78,ae ((lv[i]'fC).length:Nat)),(79,ae (k:Nat))],[⟨b1,75,2,[au 5 cP t.ag,ae t.root]⟩]⟩:St)) (fun (k:Nat)=>(lv[i]'fC).length-k) 0 ⟨(Nat.zero_le _),(fun j h _=>by omega),rfl⟩ ?_;rintro k _ ⟨hk,hn,rfl⟩;refine af [1,7,71,72,73,77,78,79,80] ?_;refine ax ?_ ?_<;>intro fD gG
  ·have dU:k<(lv[i]'fC).length:=(by omega)
   have N2:=Di _ (getElem_mem dU);have gg:((lv[i]'fC)[k]'dU).toNat<t.ag.length:=(by omega)
   have YN:t.pg ((lv[i]'fC)[k]'dU)=t.ag[((lv[i]'fC)[k]'dU).toNat]'gg:=vl N2;refine af [1,7,8,9,71,72,73,77,78,79] ?_;refine af [1,7,8,9,10,71,72,73,77,78,79] ?_;refine CD.cut (fun aD=>aD=(⟨104,[(1,cU b1),(7,.list 1 ((lv[i]'fC).flatMap cI) (lv[i]'fC).length),(9,ae ((lv[i]'fC)[k]'dU)),(10,ae ((lv[i]'fC).getD (k+1) (-1))),(71,au 1 yu lv),(72,ae (lv.length:Nat)),(73,ae (i:Nat)),(77,.list 1 ((lv[i]'fC).flatMap cI) (lv[i]'fC).length),(78,ae ((lv[i]'fC).length:Nat)),(79,ae (k:Nat))],[⟨b1,75,2,[au 5 cP t.ag,ae t.root]⟩]⟩:St)) ?_ ?_
   ·refine af [1,7,8,9,10,71,72,73,77,78,79,88] ?_;refine ax ?_ ?_<;>intro iP o9
    ·have jt:(lv[i]'fC).getD (k+1) (-1)=(lv[i]'fC)[k+1]'w4:=(by rw[getD_eq_getElem?_getD,getElem?_eq_getElem w4];rfl)
     refine gC [1,7,9,10,71,72,73,77,78,79] ?_;refine aP 3 ?_ (h:=by exact(dw 1 (h:=by first|exact .l (j:=k+1) w4 w4|exact .r (j:=k+1) w4 w4)));refine bD ?_;exact XC
    have jt:(lv[i]'fC).getD (k+1) (-1) = -1:=(by rw[getD_eq_getElem?_getD,getElem?_eq_none w4];rfl)
    refine CD.skip ?_;exact XC
   rintro _ ⟨rfl⟩;refine cM [1,7,71,72,73,77,78,79,101] ?_;refine aP 3 ?_ (h:=by exact(dw 5 (h:=by first|exact .l (j:=((lv[i]'fC)[k]'dU).toNat) (Int.toNat_of_nonneg N2.1).symm gg|exact .r (j:=((lv[i]'fC)[k]'dU).toNat) (Int.toNat_of_nonneg N2.1).symm gg)));refine bD ?_;refine ax ?_ ?_<;>intro iG mU
   ·have mz:¬∀l∈lv,fi t l (-1):=fun h=>by have:=Kf.1 (h (lv[i]'fC) (getElem_mem fC)) k dU;rw[YN] at this;simp[this] at iG
    refine af [2] ?_;refine aK [] ?_;exact⟨vi (abS jJ mz).symm,rfl⟩
   have nf:(t.pg ((lv[i]'fC)[k]'dU)).next=(lv[i]'fC).getD (k+1) (-1):=(by rw[YN];simpa using iG)
   refine bX [1,7,71,72,73,77,78,79] ?_;refine⟨(k+1),_,cn,aJ,w4,(fun j h0 h=>by rcases Nat.lt_or_ge j k with q|q;exact hn j q h;obtain rfl:j=k:=w4;exact nf),rfl⟩
  have akX:fi t (lv[i]'fC) (-1):=Kf.2 fun j hj=>hn j w4 hj;refine bX [1,71,72,73] ?_;refine⟨(i+1),_,cn,aJ,w4,(fun j h0 h=>by rcases Nat.lt_or_ge j i with q|q;exact HP j q h;obtain rfl:j=i:=w4;exact akX),rfl⟩
 have ny:i=lv.length:=(by omega)
 refine af [2] ?_;refine aK [] ?_;exact⟨vi (abT w4 fm jJ I fun l hl=>by obtain⟨j,hj,rfl⟩:=mem_iff_getElem.1 hl;exact HP j w4 hj).symm,rfl⟩

end Go.Proofs.YtkgmonfgofobaaaGreatDoor.Tw

namespace Go.Proofs.YtkgmonfgofobaaaGreatDoor.Tw
open List
open Go.Proofs.Tryz
open Go.RowKit V Tr Pk
variable {t:aF} {k:K}
noncomputable def lD(t:aF)(k:K):Int:=if gD t=0 then (if oG k=true then 0 else 1) else gD t
theorem EH(h:¬gD t=0):lD t k=gD t:=by unfold lD;rw[if_neg h]
theorem El(h:gD t=0)(hk:oG k=false):lD t k=1:=by unfold lD;rw[if_pos h,hk];rfl
theorem JE(h:gD t=0)(hk:oG k=true):lD t k=0:=by unfold lD;rw[if_pos h,hk];rfl
def dR(t:aF)(k:K)(h:Nat):Int:=(t.pg (aI t k h t.root)).kids.getD (aL (t.pg (aI t k h t.root)) k) 0
noncomputable def findF(t:aF)(k:K)(h:Nat):Int×Int:=if lD t k=0 then (if iA t k h=true then (dR t k h,0) else (0,8)) else (0,lD t k)
theorem adE{h:Nat}(v:Valid t h):∀p∈t.ag,p.keys.length≤maxLen∧p.kids.length≤maxLen:=fun p hp=>by
 have po:=v.fK p hp;have cY:=dN;have h1:=po.eI;cases hl:p.leaf with
 | true=>have:=po.leaf hl;omega
 | false=>have:=(po.node hl).1;omega
theorem Ei{h:Nat}(v:Valid t h)(k:K):(je t k h t.root).length≤1000000:=by
 rw[ER];have:=v.high;have:=v.nW;omega
theorem Jr(h:oG k=true):0<k.length∧k.length≤100:=of_decide_eq_true h
variable {G:List (Nat×List Value)}
theorem Iq(t:aF)(k:K)(hb:∀p∈t.ag,p.keys.length≤maxLen∧p.kids.length≤maxLen):VP Tryz.prog G 86 [.agg (cT t),au 1 cB k] (ae (lD t k)):=by
 refine VC.body func86 rfl ntmps86 aQ fun X0 w0 bf=>?_;have eV:=pQ (G:=G) t hb;unfold cT at eV;unfold cT;refine bS ?_;refine OD.box (ds:=[_,_]) ap rfl rfl ot rfl rfl (fun b2=>?_);refine an 14 [1,2] ?_;refine cL [1,5] (eV) ?_;refine af [1,5,9] ?_;refine ax ?_ ?_<;>intro aO bA
 ·have hn:¬gD t=0:=(by simpa using aO)
  exact XD
 have hz:gD t=0:=(by simpa using aO)
 refine cL [13] (zf k) ?_;refine ax ?_ ?_<;>intro aY cz
 ·exact XD
 refine af [4] ?_;refine aK [] ?_;first|exact⟨vi (EH hn).symm,rfl⟩|exact⟨vi (El hz vI).symm,rfl⟩|exact⟨vi (JE hz vI).symm,rfl⟩
theorem agW(t:aF)(h:Nat)(k:K)(hb:∀p∈t.ag,p.keys.length≤maxLen∧p.kids.length≤maxLen)(hv:gD t=0→Valid t h):VP Tryz.prog G 83 [.agg (cT t),au 1 cB k] (.dh [ae (findF t k h).1,ae (findF t k h).2]):=by
 refine VC.body func83 rfl ntmps83 aQ fun X0 w0 bf=>?_;have eV:=Iq (G:=G) t k hb;unfold cT at eV;unfold cT;have cY:=dN;refine bS ?_;refine OD.box (ds:=[_,_]) ap rfl rfl ot rfl rfl (fun b2=>?_);refine an 34 [1,2] ?_;refine cL [1,2,6] (eV) ?_;refine af [1,2,6,14] ?_;refine ax ?_ ?_<;>intro aO bA
 ·have hn:¬lD t k=0:=(by simpa using aO)
  refine af [4,5] ?_;refine aK [] ?_;exact⟨by unfold findF;rw[if_neg hn],rfl⟩
 have hz:lD t k=0:=(by simpa using aO)
 have hc:gD t=0:=Classical.byContradiction fun e=>by rw[EH e] at hz;exact e hz
 have U:oG k=true:=(by cases hq:oG k with|true=>rfl|false=>rw[El hc hq] at hz;cases hz)
 have v:=hv hc;have dU:=Jr U;have fx:=qF (G:=G) t h v k w4 (Ei v k);unfold cT at fx;obtain⟨q1,E⟩:=v.leaf k;have aa:(aI t k h t.root).toNat<t.ag.length:=(by omega)
 have I:t.pg (aI t k h t.root)=(t.ag[(aI t k h t.root).toNat]'aa):=vl q1;refine cL [2,7,8,9] (fx) ?_;refine af [2,7,8,24] ?_;refine ax ?_ ?_<;>intro aY cz
 ·have iV:iA t k h=false:=(by simpa using aY)
  refine af [4,5] ?_;refine aK [] ?_;exact⟨by unfold findF;rw[if_pos hz,if_neg xM],rfl⟩
 have iV:iA t k h=true:=(by simpa using aY)
 obtain⟨ha,NG⟩:=(Eh v k).1 iV;have po:=v.fK _ (jC q1);have hle:=po.leaf E;have O:aL (t.pg (aI t k h t.root)) k<(t.pg (aI t k h t.root)).kids.length:=(by omega)
 have Z:aL (t.ag[(aI t k h t.root).toNat]'aa) k<(t.ag[(aI t k h t.root).toNat]'aa).kids.length:=(by rw[←I];exact O)
 rw[I];refine cM [4,5] ?_;refine aP 3 ?_ (h:=by exact(dw 5 (h:=by first|exact .l (j:=(aI t k h t.root).toNat) (Int.toNat_of_nonneg q1.1).symm aa|exact .r (j:=(aI t k h t.root).toNat) (Int.toNat_of_nonneg q1.1).symm aa)));refine bD ?_;refine aK [] ?_;exact⟨by unfold findF dR;rw[if_pos hz,if_pos iV,I,tJ Z],rfl⟩
theorem abU{S:List ah}:gE S [bI true,bF,bF,bF,ae (-1)] (cP (⟨true,[],[],[],-1⟩:cW)):=⟨eO,yM,yM,yM,eO,trivial⟩
theorem agX(E:True):VC Tryz.prog G 49 [] [] (fun r S=>∃b,r = .agg [aN (some ⟨b,0,none⟩) 1 1,ae 0]∧S=[⟨b,146,5,[bI true,bF,bF,bF,ae (-1)]⟩]):=by
 refine VC.body func49 rfl ntmps49 aQ fun X0 w0 bf=>?_;refine bS ?_;refine OD.alloc (ds:=[_,_]) ap rfl rfl zeroValue75 rfl (fun b0=>?_);refine an 4 [0] ?_;refine aA 1 ?_;refine ew (cu 0 [_]) [.bool false,.slice none 0 0,.slice none 0 0,.slice none 0 0,.int .i64 0] [_,_,_,_,_] zeroValue146 runUnderlying73 sizeOf146 (fun b2=>?_);refine aG 1 ?_;refine aM 1 [_,_] sizeOf75 ?_;refine an 4 [0] ?_;refine aK [_] ?_;exact⟨_,rfl,rfl⟩
theorem agY:VP Tryz.prog G 49 [] (.agg (cT qc)):=VC.cover (agX trivial) fun r S ⟨b,hr,hS⟩=>by
 subst hr;subst hS;exact uQ ⟨Py (cs:=[bI true,bF,bF,bF,ae (-1)]) (e:=146) (size:=5) mem_cons_self abU rfl (Nat.le_refl _) w8,eO,trivial⟩

end Go.Proofs.YtkgmonfgofobaaaGreatDoor.Tw
namespace Go.Proofs.YtkgmonfgofobaaaGreatDoor.Tr
open List
open Go.Proofs.Tryz
open Go.Lib (compareBytes)
variable {t:aF} {k:K} {row:Int}
variable {h m:Nat} {u:aF} {up:K}
def da(t:aF)(k:K):Nat→Int→Nat→Int
 | 0,i,_=>i
 | h+1,i,m=>if m=h+1 then i else da t k h ((t.pg i).kids.getD (aL (t.pg i) k) 0) m
theorem IR:∀(h:Nat) (i:Int),da t k h i h=i
 | 0,_=>rfl
 | h+1,i=>by rw[da,if_pos rfl]
theorem A7:∀{h:Nat} {i:Int} {m:Nat},m<h→da t k h i m=(t.pg (da t k h i (m+1))).kids.getD (aL (t.pg (da t k h i (m+1))) k) 0
 | 0,_,_,hm=>by omega
 | h+1,i,m,hm=>by
  rw[da,if_neg w4,da];by_cases e:m=h
  ·subst e;rw[IR,if_pos rfl]
  rw[if_neg w4];exact A7 w4
theorem P8:∀{h:Nat} {i:Int} {m:Nat},m≤h→(je t k h i)[h-m]?=some (da t k h i m)
 | 0,i,m,_=>by
  obtain rfl:m=0:=(by omega)
  rfl
 | h+1,i,m,hm=>by
  rw[je,da];by_cases e:m=h+1
  ·subst e;rw[if_pos rfl,Nat.sub_self];rfl
  rw[if_neg e,show h+1-m=(h-m)+1 from by omega,getElem?_cons_succ];exact P8 w4
theorem ES{n:Int}(hp:∀p∈t.ag,eH p n):∀{h:Nat} {i:Int} {low high:K},dM t h i low high→(ids t h i).Nodup→lM low high k→(∀x∈eo t h i,x.1≠k)→∀m,m≤h →
  ∃lo hi,dM t m (da t k h i m) lo hi∧(ids t m (da t k h i m)).Nodup∧lM lo hi k∧∀x∈eo t m (da t k h i m),x.1≠k
 | 0,i,low,high,ok,nd,hk,hn,m,hm=>by
  obtain rfl:m=0:=(by omega)
  exact⟨low,high,ok,nd,hk,hn⟩
 | h+1,i,low,high,ok,nd,hk,hn,m,hm=>by
  by_cases e:m=h+1
  ·subst e;rw[IR];exact⟨low,high,ok,nd,hk,hn⟩
  obtain⟨q1,q2,q3,I,E⟩:=id ok;have po:=hp _ (jC q1);obtain⟨d1,d2⟩:=down po q2 q3 hk;have:=ES hp (E _ d1) (v8 d1 nd).1 d2 (fun x hx=>hn x MQ) m w4;rw[←tJ d1] at this;rw[da,if_neg e];exact this
structure agZ (u:aF) (i:Int) (up:K) (az:Int):Prop where
 fK:∀p∈u.ag,eH p u.ag.length
 rg:0≤i∧i<u.ag.length
 out:up∉(u.pg i).keys
 len:1≤up.length∧up.length≤100
 high:(u.pg i).high≠[]→bC up (u.pg i).high
 nn:0≤az
 nnl:(u.pg i).leaf=false→az<u.ag.length
def kE(t:aF)(k:K)(row:Int)(h m:Nat):aF×Option (K×Int):=if m=0 then (t,some (k,row)) else gB t k row (m-1) (da t k h t.root (m-1))
theorem RF(h:Nat):kE t k row h (h+1)=gB t k row h t.root:=by unfold kE;rw[if_neg w4,Nat.add_sub_cancel,IR]
theorem P9(hm:m≤h){az:Int}(e:kE t k row h m=(u,some (up,az))):kE t k row h (m+1)=rN u (da t k h t.root m) up az:=by
 unfold kE at e ⊢;rw[if_neg w4,Nat.add_sub_cancel];cases m with
 | zero=>rw[if_pos rfl] at e;injection e with e1 e2;injection e2 with e2;injection e2 with e2 E;subst e1 e2 E;rw[gB]
 | succ m=>rw[if_neg w4,Nat.add_sub_cancel,A7 w4] at e;rw[gB,e]
theorem abV(h0:0<m)(hm:m≤h)(e:kE t k row h m=(u,none)):kE t k row h (m+1)=(u,none):=by
 unfold kE at e ⊢;rw[if_neg w4,Nat.add_sub_cancel];cases m with
 | zero=>omega
 | succ m=>rw[if_neg w4,Nat.add_sub_cancel,A7 w4] at e;rw[gB,e]
theorem Qa{h:Nat}{u:aF}:∀(d m:Nat),m+d=h+1→0<m→kE t k row h m=(u,none)→gB t k row h t.root=(u,none)
 | 0,m,hm,_,e=>by
  obtain rfl:m=h+1:=(by omega)
  rw[←RF];exact e
 | d+1,m,hm,h0,e=>Qa d (m+1) w4 w4 (abV h0 w4 e)
theorem RG(v:Valid t h)(hn:∀x∈kY t h,x.1≠k)(hl:1≤k.length∧k.length≤100)(hr:0≤row)(hm:m≤h):∃lo hi,dM t m (da t k h t.root m) lo hi∧lM lo hi k∧oN t (gB t k row m (da t k h t.root m)).1 m (da t k h t.root m) lo hi k row (gB t k row m (da t k h t.root m)).2:=by
 obtain⟨lo,hi,ok,nd,hk,hne⟩:=ES v.fK v.ok v.zV (tQ k) hn m hm;exact⟨lo,hi,ok,hk,FN v.fK ok nd hk hne hl hr⟩
theorem IS(v:Valid t h)(hn:∀x∈kY t h,x.1≠k)(hl:1≤k.length∧k.length≤100)(hr:0≤row)(hm:m≤h+1){r:Option (K×Int)}(e:kE t k row h m=(u,r)):u.root=t.root∧u.ag.length≤t.ag.length+m∧t.ag.length≤u.ag.length∧∀p∈u.ag,eH p u.ag.length:=by
 unfold kE at e;cases m with
 | zero=>rw[if_pos rfl] at e;injection e with e1 e2;subst e1;exact⟨rfl,Nat.le_refl _,Nat.le_refl _,v.fK⟩
 | succ m =>
  rw[if_neg w4,Nat.add_sub_cancel] at e;obtain⟨lo,hi,_,_,I⟩:=RG v hn hl hr (m:=m) w4;rw[e] at I;exact⟨I.root,I.more,I.le,I.fK⟩
theorem afq(v:Valid t h)(hn:∀x∈kY t h,x.1≠k)(hl:1≤k.length∧k.length≤100)(hr:0≤row)(hm:m≤h+1){az:Int}(e:kE t k row h m=(u,some (up,az))):up.length≤100:=by
 unfold kE at e;cases m with
 | zero=>rw[if_pos rfl] at e;injection e with e1 e2;injection e2 with e2;injection e2 with e2 E;subst e2;exact hl.2
 | succ m =>
  rw[if_neg w4,Nat.add_sub_cancel] at e;obtain⟨lo,hi,_,_,I⟩:=RG v hn hl hr (m:=m) w4;rw[e] at I;exact I.ok.1.2
theorem afr(v:Valid t h)(hn:∀x∈kY t h,x.1≠k)(hl:1≤k.length∧k.length≤100)(hr:0≤row)(hm:m≤h){az:Int}(e:kE t k row h m=(u,some (up,az))):agZ u (da t k h t.root m) up az:=by
 cases m with
 | zero =>
  unfold kE at e;rw[if_pos rfl] at e;injection e with e1 e2;injection e2 with e2;injection e2 with e2 Z;subst e1 e2 Z
  obtain⟨lo,hi,⟨q1,q2,q3,q4⟩,nd,hk,hne⟩:=ES v.fK v.ok v.zV (tQ k) hn 0 hm;refine⟨v.fK,q1,fun hm=>?_,hl,fun E=>?_,hr,fun h=>by rw[q2] at h;cases h⟩
  ·have po:=v.fK _ (jC q1);have hlen:=po.leaf q2;obtain⟨a,ha,he⟩:=mem_iff_getElem.1 hm;exact hne (k,(t.pg (da t k h t.root 0)).kids[a]'w4) ((Bg hlen).2 ⟨a,ha,by rw[he]⟩) rfl
  rw[q3] at E ⊢;exact hk.2 E
 | succ m =>
  obtain⟨s1,s2,s3,s4⟩:=IS v hn hl hr w4 e;unfold kE at e;rw[if_neg w4,Nat.add_sub_cancel] at e;obtain⟨lo,hi,ok,nd,hk,hne⟩:=ES v.fK v.ok v.zV (tQ k) hn (m+1) hm;obtain⟨q1,q2,q3,q4,q5⟩:=id ok;have po:=v.fK _ (jC q1);obtain⟨d1,d2⟩:=down po q2 q3 hk;have O:=FN (row:=row) v.fK (q5 _ d1) (v8 d1 nd).1 d2 (fun x hx=>hne x MQ) hl hr;rw[←tJ d1,←A7 w4,e,A7 w4] at O;have M:jy t u m (da t k h t.root (m+1)) lo hi (aL (t.pg (da t k h t.root (m+1))) k) k row (some (up,az)):=⟨v.fK,ok,nd,d1,d2,O⟩
  obtain⟨m1,m2,m3,m4⟩:=M.place;have U:=M.same;obtain⟨o1,o2,o3,o4,o5⟩:(1≤up.length∧up.length≤100)∧_∧_∧_∧dM u m az up _:=O.ok;have I:=o5.idx;refine⟨s4,⟨q1.1,by omega⟩,by rw[U];exact m2,o1,fun E=>?_,I.1,fun _=>I.2⟩;rw[U,q3] at E ⊢;exact m3.2 E

end Go.Proofs.YtkgmonfgofobaaaGreatDoor.Tr
namespace Go.Proofs.YtkgmonfgofobaaaGreatDoor.Tr
open List
open Go.Proofs.Tryz
open Go.Lib (compareBytes)
variable {t:aF} {h:Nat} {k:K}
variable {i:Int}
noncomputable def nw(t:aF)(h:Nat)(k:K):List (K×Int):=(kY t h).filter fun x=>decide (¬bC x.1 k)
def jb(t:aF)(ls:List Int):List (K×Int):=ls.flatMap fun l=>ff (t.pg l)
theorem fi.tail{r:List Int}{e:Int}(h:fi t (i::r) e):fi t r e:=by
 cases r with
 | nil=>trivial
 | cons j r=>exact h.2
theorem fi.next{i:Int}{r:List Int}{e:Int}(h:fi t (i::r) e):(t.pg i).next=r.headD e:=by
 cases r with
 | nil=>exact h
 | cons j r=>exact h.1
theorem fi.drop{e:Int}:∀{a b:List Int},fi t (a++b) e→fi t b e
 | [],_,h=>h
 | i::a,b,h=>fi.drop (a:=a) (fi.tail h)
theorem RH:∀{h:Nat} {i:Int} {low high:K},dM t h i low high→∀l∈cA t h i,(0≤l∧l<t.ag.length)∧(t.pg l).leaf=true
 | 0,i,low,high,ok,l,hl=>by
  rw[cA,mem_singleton] at hl;subst hl;exact⟨ok.1,ok.2.1⟩
 | h+1,i,low,high,ok,l,hl=>by
  obtain⟨q1,q2,q3,I,E⟩:=ok;rw[cA] at hl;obtain⟨c,hc,hl⟩:=mem_flatMap.1 hl;obtain⟨j,hj,rfl⟩:=mem_iff_getElem.1 hc;exact RH (E j hj) l hl
structure rI (t:aF) (ls:List Int):Prop where
 pJ:fi t ls (-1)
 at_:∀l∈ls,(0≤l∧l<t.ag.length)∧(t.pg l).leaf=true
theorem rI.tail{i:Int}{r:List Int}(h:rI t (i::r)):rI t r:=⟨fi.tail h.pJ,fun l hl=>h.at_ l (mem_cons_of_mem _ hl)⟩
theorem rI.head{ls:List Int}(h:rI t ls):(0≤ls.headD (-1)→∃r,ls=ls.headD (-1)::r)∧(ls.headD (-1)<0→ls=[]):=by
 cases ls with
 | nil=>exact⟨fun h=>by simp at h,fun _=>rfl⟩
 | cons i r=>exact⟨fun _=>⟨r,rfl⟩,fun h0=>by have:=(h.at_ i mem_cons_self).1;simp at h0;omega⟩
theorem Pm(v:Valid t h):rI t (cA t h t.root):=⟨v.pJ h (Nat.le_refl _),RH v.ok⟩
theorem Ez(v:Valid t h){l:Int}(hl:(0≤l∧l<t.ag.length)∧(t.pg l).leaf=true):(ff (t.pg l)).length=(t.pg l).keys.length:=by
 have:=(v.fK _ (jC hl.1)).leaf hl.2;unfold ff;rw[length_zip];omega
theorem aav(v:Valid t h)(k:K):∃r,rI t (aI t k h t.root::r)∧nw t h k=(jb t (aI t k h t.root::r)).drop (aL (t.pg (aI t k h t.root)) k)∧aL (t.pg (aI t k h t.root)) k≤(t.pg (aI t k h t.root)).keys.length:=by
 obtain⟨pre,post,e,he⟩:=abz v.fK v.ok (tQ k);have hL:=Pm v;have hl:=v.leaf k;have fE:aL (t.pg (aI t k h t.root)) k≤(t.pg (aI t k h t.root)).keys.length:=by
  unfold aL;split
  ·exact yR _ _
  exact Br _ _
 rw[e] at hL;refine⟨post,⟨fi.drop hL.pJ,fun l hl=>hL.at_ l (mem_append_right _ hl)⟩,?_,fE⟩;unfold nw kY;rw[he];unfold jb;rw[flatMap_cons,drop_append_of_le_length (by rw[Ez v hl];exact fE)]
theorem abW(v:Valid t h){r:List Int}(hL:rI t (i::r)){a:Nat}(ha:a<(t.pg i).keys.length)(hk:a<(t.pg i).kids.length) :
  (jb t (i::r)).drop a=((t.pg i).keys[a],(t.pg i).kids[a])::(jb t (i::r)).drop (a+1):=by
 have hi:=hL.at_ i mem_cons_self;have hlen:=Ez v hi;have h1:a<(jb t (i::r)).length:=(by unfold jb;rw[flatMap_cons,length_append];omega)
 rw[drop_eq_getElem_cons h1];congr 1;unfold jb;simp only[flatMap_cons];rw[getElem_append_left w4];unfold ff;rw[getElem_zip]
theorem aaw(v:Valid t h){r:List Int}(hL:rI t (i::r)){a:Nat}(ha:a=(t.pg i).keys.length):(jb t (i::r)).drop a=(jb t r).drop 0:=by
 have hi:=hL.at_ i mem_cons_self;have hlen:=Ez v hi;unfold jb;rw[flatMap_cons,drop_zero,drop_append_of_le_length w4,drop_eq_nil_of_le w4];rfl
theorem adF(v:Valid t h):kY t h=jb t (cA t h t.root):=wq t h t.root
theorem IT(v:Valid t h):(kY t h).Pairwise fun x y=>bC x.1 y.1:=(J7 v.fK v.ok).1
theorem abX(v:Valid t h)(k:K):(nw t h k).Pairwise fun x y=>bC x.1 y.1:=(IT v).filter _
theorem adG(t:aF)(h:Nat):nw t h []=kY t h:=by
 unfold nw;rw[filter_eq_self.2];intro x _;simpa using KF x.1
theorem adH(v:Valid t h):(kY t h).length≤4*t.ag.length:=by
 have key:∀(ls:List Int),(∀l∈ls,(0≤l∧l<t.ag.length)∧(t.pg l).leaf=true)→(jb t ls).length≤4*ls.length:=by
  intro ls;induction ls with
  | nil=>intro _;simp[jb]
  | cons i r ih =>
   intro hl;have h1:=Ez v (hl i mem_cons_self);have h2:=(v.fK _ (jC (hl i mem_cons_self).1)).eI;have h3:=ih fun l E=>hl l (mem_cons_of_mem _ E);unfold jb at h3 ⊢;rw[flatMap_cons,length_append,length_cons];omega
 have I:(cA t h t.root).length≤(ids t h t.root).length:=by
  have:∀(h:Nat) (i:Int),(cA t h i).length≤(ids t h i).length:=by
   intro h;induction h with
   | zero=>intro i;simp[cA,ids]
   | succ h ih =>
    intro i;rw[cA,ids,length_cons,length_flatMap,length_flatMap];have:∀(l:List Int),(l.map fun a=>(cA t h a).length).sum≤(l.map fun a=>(ids t h a).length).sum:=by
     intro l;induction l with
     | nil=>simp
     | cons a l O=>simp only[map_cons,sum_cons];have:=ih a;omega
    have:=this (t.pg i).kids;omega
  exact this h t.root
 rw[adF v];have:=key _ (Pm v).at_;rw[v.all] at I;omega
theorem RI(v:Valid t h)(k:K):(nw t h k).length≤16000:=by
 have:=adH v;have h1:=v.nW;have:(nw t h k).length≤(kY t h).length:=(filter_sublist).length_le;omega

end Go.Proofs.YtkgmonfgofobaaaGreatDoor.Tr
namespace Go.Proofs.YtkgmonfgofobaaaGreatDoor.Tw
open List
open Go.Proofs.Tryz
open Go.RowKit V Tr Pk
def cE(e:K×Int):List D:=[au 1 cB e.1,ae e.2]
theorem Uw(e:K×Int):(cE e).length=2:=rfl
def GJ(e:K×Int):List D:=[.agg (cE e)]
theorem ag0(b:UInt8):fQ (cB b)=true:=rfl
theorem zg(k:K):fQ (k.flatMap cB)=true:=uX ag0 k
theorem zh(e:K×Int):fQ (cE e)=true:=by simp[cE,fQ,iJ,zg]
theorem adI(e:K×Int):fQ (GJ e)=true:=by simp[GJ,fQ,iJ,zh]
def Lg(t:aF)(k:K):List D:=[.fJ [au 5 cP t.ag,ae t.root] 0,.fJ [au 1 cB k] 0]
variable {G:List (Nat×List Value)}
theorem sg : ∀ w, ((#[{ name := "Key", type := 90, offset := 0, embedded := false, tag := "", pkgPath := "", byteOffset := 0 }, { name := "Row", type := 3, offset := 1, embedded := false, tag := "", pkgPath := "", byteOffset := 24 }] : Array Field).mapM fun f => do pure (f.offset, ← sizeOf f.type) : Sem (Array (Nat × Nat))).run Tryz.prog w = .ok #[(0, 1), (1, 1)] w := fun w => by simp [sizeOf3, sizeOf90]
theorem adJ(t:aF)(h:Nat)(v:Valid t h)(k:K)(dU:k.length≤maxLen):VI Tryz.prog G 116 (Lg t k) GJ (fun xs=>xs=nw t h k) (fun pre=>pre <+: nw t h k) (nw t h k).length:=by
 refine VI.body func116 rfl ntmps116 aQ fun Y X0 w0 bf Sc0 hYe hYN O hY hJ0=>?_;have cY:=dN;have fx:=qF (G:=G) t h v k w4 (Ei v k);unfold cT at fx;obtain⟨r0,hL0,akY,Wo⟩:=aav v k;obtain⟨y1,y2,y3⟩:=(by exact⟨hYe,hYN,O⟩:Y.enc=GJ∧Y.N=(nw t h k).length∧w0.heap.size≤Y.l)
 refine cL [0,1,4,5] (fx) ?_;refine CD.block ?_;refine ni (fun (U:List Int×Nat×List (K×Int)×List ah) aD=>match U with|(ls,a,pre,Sc)=>(rI t ls)∧(nw t h k=pre++(jb t ls).drop a)∧((∀x∈head? ls,a≤(t.pg x).keys.length))∧(Y.J pre Sc)∧aD=(⟨46,[(0,.kr Y.l Y.os),(1,.fJ [au 5 cP t.ag,ae t.root] 0),(4,ae (headD ls (-1))),(5,ae (a:Nat))],Sc⟩:St)) (fun (U:List Int×Nat×List (K×Int)×List ah)=>match U with|(ls,a,pre,Sc)=>length ls) ((aI t k h t.root::r0),(aL (t.pg (aI t k h t.root)) k),[],Sc0) ⟨hL0,(by rw[nil_append];exact akY),(fun x hx=>by simp at hx;subst hx;exact Wo),hJ0,rfl⟩ (aJ (h:=by repeat (first|exact trivial|refine⟨(by (repeat (first|exact fI|(apply fX;focus (first|rfl|(simp;done)|(rw[←gW,fi.next hL.pJ])))|(apply fN;focus rfl)));done),?_⟩))) ?_;rintro⟨ls,a,pre,Sc⟩ _ ⟨hL,N3,fE,hj,rfl⟩;refine af [0,1,4,5,16] ?_;refine ax ?_ ?_<;>intro aO bA
 ·have NV:0≤headD ls (-1):=(by simpa using aO)
  obtain⟨r,hr⟩:=(rI.head hL).1 NV;obtain⟨i,hi⟩:∃i,i=headD ls (-1):=⟨_,rfl⟩
  rw[←hi] at hr NV;subst hr;obtain⟨AR,Le⟩:=hL.at_ i mem_cons_self;have aa:i.toNat<t.ag.length:=(by omega)
  have gW:t.pg i=t.ag[i.toNat]:=vl AR;have po:=v.fK _ (jC AR);have Md:=po.leaf Le;have mY:=po.eI;have Ww:=fE i rfl;have Vy:=v.nW;rw[gW] at po Md mY Ww;refine aA 3 ?_;refine bQ (dw 5 (h:=by first|exact .l (j:=i.toNat) (by show headD (i::r) (-1)=_;simp;omega) aa|exact .r (j:=i.toNat) (by show headD (i::r) (-1)=_;simp;omega) aa)) ?_;refine bQ (cR (mk:=Op.load 146) rfl ot (by exact kj (i:=i.toNat) FO isAgg146 sizeOf146 aa)) ?_;refine OD.alloc (ds:=[_,_,_,_,_]) ap rfl rfl zeroValue146 rfl (fun b7=>?_);refine aM 0 [_,_,_,_,_] sizeOf146 ?_;refine an 46 [0,1,5,7] ?_;refine ez [0,1,7] (fun aR _ (U:Nat×List (K×Int)×List ah) aD=>match U with|(a,E,I)=>(nw t h k=E++(jb t (i::r)).drop a)∧(a≤((t.ag[i.toNat]'aa)).keys.length)∧(Y.J E I)∧aD=(⟨46,(5,ae (a:Nat))::aR,(⟨b7,146,5,cP (t.ag[i.toNat]'aa)⟩::I)⟩:St)) (fun (U:Nat×List (K×Int)×List ah)=>match U with|(a,E,I)=>((t.ag[i.toNat]'aa)).keys.length-a) (a,pre,Sc) ⟨N3,Ww,hj,rfl⟩ ?_;rintro⟨a,E,I⟩ _ ⟨pZ,aqQ,Z,rfl⟩;refine af [0,1,5,7,26] ?_;refine ax ?_ ?_<;>intro aY cz
  ·have rh:a<((t.ag[i.toNat]'aa)).keys.length:=(by have:=aY;simp at this;omega)
   have uI:a<((t.ag[i.toNat]'aa)).kids.length:=(by omega)
   have jl:(jb t (i::r)).drop a=(((t.ag[i.toNat]'aa)).keys[a],((t.ag[i.toNat]'aa)).kids[a])::(jb t (i::r)).drop (a+1):=(by have:=abW v hL (a:=a) (by rw[gW];exact rh) (by rw[gW];exact uI);simp only[gW] at this;exact this)
   have ku:((t.ag[i.toNat]'aa)).keys[a].length≤100:=(by have:=(po.lC _ (getElem_mem rh)).2;omega)
   refine CD.skip ?_;refine CD.seq ?_;refine CD.block ?_;refine CD.seq ?_;refine CD.aeF aB ?_;refine fV 0 rfl bG ?_;refine fV 1 rfl (dF 1) ?_;refine fV 3 rfl bG ?_;refine fV 7 rfl (dF 2) ?_;refine fV 9 rfl bG ?_;refine AI.two (i:=2) (j:=8) aB ?_ ?_
   ·refine kL rfl (dK 0) ?_;refine fV 4 rfl (dw 1 (h:=by first|exact .l (j:=a) rfl rh|exact .r (j:=a) rfl rh)) ?_;refine AI.two (i:=5) (j:=8) aB ?_ ?_
    ·refine kL rfl eW ?_;refine AI.two (i:=6) (j:=8) aB ?_ ?_
     ·refine gL.gQ rfl ap rfl rfl rfl call90 (mq (((t.ag[i.toNat]'aa)).keys[a]) w4) ⟨ot,trivial⟩ ?_;refine AI.one (i:=8) aB ?_;refine kL rfl (dK 0) ?_;refine fV 10 rfl (dw 1 (h:=by first|exact .l (j:=a) rfl uI|exact .r (j:=a) rfl uI)) ?_;refine AI.one (i:=11) aB ?_;refine kL rfl eW ?_;refine fV 12 rfl (oR (pl:=[(0,_),(1,_)]) (ds:=[_,_]) rfl zeroValue92 runUnderlying92 sg ⟨rfl,ot,rfl,ot,trivial⟩ rfl rfl) ?_;refine AI.one (i:=13) aB ?_;refine gL.yield (Y:=Y) (pre:=E) (y:=(((t.ag[i.toNat]'aa)).keys[a],((t.ag[i.toNat]'aa)).kids[a])) (Sc:=I) (R:=[⟨b7,146,5,cP (t.ag[i.toNat]'aa)⟩]) rfl ap rfl rfl ot aQ lk sY (perm_append_singleton _ _).symm Z sW hY O w8 (fun Dz N4=>?_) (fun Dz N4=>?_)
      ·refine AI.perm (perm_append_singleton _ _) ?_;refine fV 14 rfl lg ?_;refine AI.wk (y:=⟨46,[(0,_),(1,_),(5,_),(7,_),(43,_)],(⟨b7,146,5,[_,_,_,_,_]⟩::Dz)⟩) (Wk.dP rfl rfl fy) ?_;refine AI.done aB ?_;refine fY ?_;refine bX [0,1,5,7] ?_;refine⟨((a+1),(E++[(((t.ag[i.toNat]'aa)).keys[a],((t.ag[i.toNat]'aa)).kids[a])]),Dz),_,cn,aJ,sV,w4,N4,rfl⟩
      refine fV 14 rfl lg ?_;refine AI.wk (y:=⟨46,[(0,_),(43,_)],(Dz)⟩) (Wk.dP rfl rfl fy) ?_;refine AI.done aB ?_;refine eT ?_;refine CD.ret ?_;refine⟨.inr rfl,⟨_,qB results116⟩,(show 0<46 by decide),Dz,Sublist.refl _,?_⟩;exact .inr ⟨E++[(((t.ag[i.toNat]'aa)).keys[a],((t.ag[i.toNat]'aa)).kids[a])],⟨(jb t (i::r)).drop (a+1),by rw[pZ,jl,append_assoc];rfl⟩,N4,lk⟩
     refine kL rfl (dK 0) ?_;refine fV 10 rfl (dw 1 (h:=by first|exact .l (j:=a) rfl uI|exact .r (j:=a) rfl uI)) ?_;refine AI.two (i:=6) (j:=11) aB ?_ ?_
     ·refine gL.gQ rfl ap rfl rfl rfl call90 (mq (((t.ag[i.toNat]'aa)).keys[a]) w4) ⟨ot,trivial⟩ ?_;refine AI.one (i:=11) aB ?_;refine kL rfl eW ?_;refine fV 12 rfl (oR (pl:=[(0,_),(1,_)]) (ds:=[_,_]) rfl zeroValue92 runUnderlying92 sg ⟨rfl,ot,rfl,ot,trivial⟩ rfl rfl) ?_;refine AI.one (i:=13) aB ?_;refine gL.yield (Y:=Y) (pre:=E) (y:=(((t.ag[i.toNat]'aa)).keys[a],((t.ag[i.toNat]'aa)).kids[a])) (Sc:=I) (R:=[⟨b7,146,5,cP (t.ag[i.toNat]'aa)⟩]) rfl ap rfl rfl ot aQ lk sY (perm_append_singleton _ _).symm Z sW hY O w8 (fun I N5=>?_) (fun I N5=>?_)
      ·refine AI.perm (perm_append_singleton _ _) ?_;refine fV 14 rfl lg ?_;refine AI.wk (y:=⟨46,[(0,_),(1,_),(5,_),(7,_),(43,_)],(⟨b7,146,5,[_,_,_,_,_]⟩::I)⟩) (Wk.dP rfl rfl fy) ?_;refine AI.done aB ?_;refine fY ?_;refine bX [0,1,5,7] ?_;refine⟨((a+1),(E++[(((t.ag[i.toNat]'aa)).keys[a],((t.ag[i.toNat]'aa)).kids[a])]),I),_,cn,aJ,sV,w4,N5,rfl⟩
      refine fV 14 rfl lg ?_;refine AI.wk (y:=⟨46,[(0,_),(43,_)],(I)⟩) (Wk.dP rfl rfl fy) ?_;refine AI.done aB ?_;refine eT ?_;refine CD.ret ?_;refine⟨.inr rfl,⟨_,qB results116⟩,(show 0<46 by decide),I,Sublist.refl _,?_⟩;exact .inr ⟨E++[(((t.ag[i.toNat]'aa)).keys[a],((t.ag[i.toNat]'aa)).kids[a])],⟨(jb t (i::r)).drop (a+1),by rw[pZ,jl,append_assoc];rfl⟩,N5,lk⟩
     refine kL rfl eW ?_;refine AI.one (i:=6) aB ?_;refine gL.gQ rfl ap rfl rfl rfl call90 (mq (((t.ag[i.toNat]'aa)).keys[a]) w4) ⟨ot,trivial⟩ ?_;refine fV 12 rfl (oR (pl:=[(0,_),(1,_)]) (ds:=[_,_]) rfl zeroValue92 runUnderlying92 sg ⟨rfl,ot,rfl,ot,trivial⟩ rfl rfl) ?_;refine AI.one (i:=13) aB ?_;refine gL.yield (Y:=Y) (pre:=E) (y:=(((t.ag[i.toNat]'aa)).keys[a],((t.ag[i.toNat]'aa)).kids[a])) (Sc:=I) (R:=[⟨b7,146,5,cP (t.ag[i.toNat]'aa)⟩]) rfl ap rfl rfl ot aQ lk sY (perm_append_singleton _ _).symm Z sW hY O w8 (fun DA N6=>?_) (fun DA N6=>?_)
     ·refine AI.perm (perm_append_singleton _ _) ?_;refine fV 14 rfl lg ?_;refine AI.wk (y:=⟨46,[(0,_),(1,_),(5,_),(7,_),(43,_)],(⟨b7,146,5,[_,_,_,_,_]⟩::DA)⟩) (Wk.dP rfl rfl fy) ?_;refine AI.done aB ?_;refine fY ?_;refine bX [0,1,5,7] ?_;refine⟨((a+1),(E++[(((t.ag[i.toNat]'aa)).keys[a],((t.ag[i.toNat]'aa)).kids[a])]),DA),_,cn,aJ,sV,w4,N6,rfl⟩
     refine fV 14 rfl lg ?_;refine AI.wk (y:=⟨46,[(0,_),(43,_)],(DA)⟩) (Wk.dP rfl rfl fy) ?_;refine AI.done aB ?_;refine eT ?_;refine CD.ret ?_;refine⟨.inr rfl,⟨_,qB results116⟩,(show 0<46 by decide),DA,Sublist.refl _,?_⟩;exact .inr ⟨E++[(((t.ag[i.toNat]'aa)).keys[a],((t.ag[i.toNat]'aa)).kids[a])],⟨(jb t (i::r)).drop (a+1),by rw[pZ,jl,append_assoc];rfl⟩,N6,lk⟩
    refine kL rfl (dK 0) ?_;refine fV 10 rfl (dw 1 (h:=by first|exact .l (j:=a) rfl uI|exact .r (j:=a) rfl uI)) ?_;refine AI.two (i:=5) (j:=11) aB ?_ ?_
    ·refine kL rfl eW ?_;refine AI.two (i:=6) (j:=11) aB ?_ ?_
     ·refine gL.gQ rfl ap rfl rfl rfl call90 (mq (((t.ag[i.toNat]'aa)).keys[a]) w4) ⟨ot,trivial⟩ ?_;refine AI.one (i:=11) aB ?_;refine kL rfl eW ?_;refine fV 12 rfl (oR (pl:=[(0,_),(1,_)]) (ds:=[_,_]) rfl zeroValue92 runUnderlying92 sg ⟨rfl,ot,rfl,ot,trivial⟩ rfl rfl) ?_;refine AI.one (i:=13) aB ?_;refine gL.yield (Y:=Y) (pre:=E) (y:=(((t.ag[i.toNat]'aa)).keys[a],((t.ag[i.toNat]'aa)).kids[a])) (Sc:=I) (R:=[⟨b7,146,5,cP (t.ag[i.toNat]'aa)⟩]) rfl ap rfl rfl ot aQ lk sY (perm_append_singleton _ _).symm Z sW hY O w8 (fun DB N7=>?_) (fun DB N7=>?_)
      ·refine AI.perm (perm_append_singleton _ _) ?_;refine fV 14 rfl lg ?_;refine AI.wk (y:=⟨46,[(0,_),(1,_),(5,_),(7,_),(43,_)],(⟨b7,146,5,[_,_,_,_,_]⟩::DB)⟩) (Wk.dP rfl rfl fy) ?_;refine AI.done aB ?_;refine fY ?_;refine bX [0,1,5,7] ?_;refine⟨((a+1),(E++[(((t.ag[i.toNat]'aa)).keys[a],((t.ag[i.toNat]'aa)).kids[a])]),DB),_,cn,aJ,sV,w4,N7,rfl⟩
      refine fV 14 rfl lg ?_;refine AI.wk (y:=⟨46,[(0,_),(43,_)],(DB)⟩) (Wk.dP rfl rfl fy) ?_;refine AI.done aB ?_;refine eT ?_;refine CD.ret ?_;refine⟨.inr rfl,⟨_,qB results116⟩,(show 0<46 by decide),DB,Sublist.refl _,?_⟩;exact .inr ⟨E++[(((t.ag[i.toNat]'aa)).keys[a],((t.ag[i.toNat]'aa)).kids[a])],⟨(jb t (i::r)).drop (a+1),by rw[pZ,jl,append_assoc];rfl⟩,N7,lk⟩
     refine kL rfl eW ?_;refine AI.one (i:=6) aB ?_;refine gL.gQ rfl ap rfl rfl rfl call90 (mq (((t.ag[i.toNat]'aa)).keys[a]) w4) ⟨ot,trivial⟩ ?_;refine fV 12 rfl (oR (pl:=[(0,_),(1,_)]) (ds:=[_,_]) rfl zeroValue92 runUnderlying92 sg ⟨rfl,ot,rfl,ot,trivial⟩ rfl rfl) ?_;refine AI.one (i:=13) aB ?_;refine gL.yield (Y:=Y) (pre:=E) (y:=(((t.ag[i.toNat]'aa)).keys[a],((t.ag[i.toNat]'aa)).kids[a])) (Sc:=I) (R:=[⟨b7,146,5,cP (t.ag[i.toNat]'aa)⟩]) rfl ap rfl rfl ot aQ lk sY (perm_append_singleton _ _).symm Z sW hY O w8 (fun DC N8=>?_) (fun DC N8=>?_)
     ·refine AI.perm (perm_append_singleton _ _) ?_;refine fV 14 rfl lg ?_;refine AI.wk (y:=⟨46,[(0,_),(1,_),(5,_),(7,_),(43,_)],(⟨b7,146,5,[_,_,_,_,_]⟩::DC)⟩) (Wk.dP rfl rfl fy) ?_;refine AI.done aB ?_;refine fY ?_;refine bX [0,1,5,7] ?_;refine⟨((a+1),(E++[(((t.ag[i.toNat]'aa)).keys[a],((t.ag[i.toNat]'aa)).kids[a])]),DC),_,cn,aJ,sV,w4,N8,rfl⟩
     refine fV 14 rfl lg ?_;refine AI.wk (y:=⟨46,[(0,_),(43,_)],(DC)⟩) (Wk.dP rfl rfl fy) ?_;refine AI.done aB ?_;refine eT ?_;refine CD.ret ?_;refine⟨.inr rfl,⟨_,qB results116⟩,(show 0<46 by decide),DC,Sublist.refl _,?_⟩;exact .inr ⟨E++[(((t.ag[i.toNat]'aa)).keys[a],((t.ag[i.toNat]'aa)).kids[a])],⟨(jb t (i::r)).drop (a+1),by rw[pZ,jl,append_assoc];rfl⟩,N8,lk⟩
    refine kL rfl eW ?_;refine AI.one (i:=5) aB ?_;refine kL rfl eW ?_;refine AI.one (i:=6) aB ?_;refine gL.gQ rfl ap rfl rfl rfl call90 (mq (((t.ag[i.toNat]'aa)).keys[a]) w4) ⟨ot,trivial⟩ ?_;refine fV 12 rfl (oR (pl:=[(0,_),(1,_)]) (ds:=[_,_]) rfl zeroValue92 runUnderlying92 sg ⟨rfl,ot,rfl,ot,trivial⟩ rfl rfl) ?_;refine AI.one (i:=13) aB ?_;refine gL.yield (Y:=Y) (pre:=E) (y:=(((t.ag[i.toNat]'aa)).keys[a],((t.ag[i.toNat]'aa)).kids[a])) (Sc:=I) (R:=[⟨b7,146,5,cP (t.ag[i.toNat]'aa)⟩]) rfl ap rfl rfl ot aQ lk sY (perm_append_singleton _ _).symm Z sW hY O w8 (fun DD N9=>?_) (fun DD N9=>?_)
    ·refine AI.perm (perm_append_singleton _ _) ?_;refine fV 14 rfl lg ?_;refine AI.wk (y:=⟨46,[(0,_),(1,_),(5,_),(7,_),(43,_)],(⟨b7,146,5,[_,_,_,_,_]⟩::DD)⟩) (Wk.dP rfl rfl fy) ?_;refine AI.done aB ?_;refine fY ?_;refine bX [0,1,5,7] ?_;refine⟨((a+1),(E++[(((t.ag[i.toNat]'aa)).keys[a],((t.ag[i.toNat]'aa)).kids[a])]),DD),_,cn,aJ,sV,w4,N9,rfl⟩
    refine fV 14 rfl lg ?_;refine AI.wk (y:=⟨46,[(0,_),(43,_)],(DD)⟩) (Wk.dP rfl rfl fy) ?_;refine AI.done aB ?_;refine eT ?_;refine CD.ret ?_;refine⟨.inr rfl,⟨_,qB results116⟩,(show 0<46 by decide),DD,Sublist.refl _,?_⟩;exact .inr ⟨E++[(((t.ag[i.toNat]'aa)).keys[a],((t.ag[i.toNat]'aa)).kids[a])],⟨(jb t (i::r)).drop (a+1),by rw[pZ,jl,append_assoc];rfl⟩,N9,lk⟩
   refine kL rfl (dK 0) ?_;refine fV 10 rfl (dw 1 (h:=by first|exact .l (j:=a) rfl uI|exact .r (j:=a) rfl uI)) ?_;refine AI.two (i:=2) (j:=11) aB ?_ ?_
   ·refine kL rfl (dK 0) ?_;refine fV 4 rfl (dw 1 (h:=by first|exact .l (j:=a) rfl rh|exact .r (j:=a) rfl rh)) ?_;refine AI.two (i:=5) (j:=11) aB ?_ ?_
    ·refine kL rfl eW ?_;refine AI.two (i:=6) (j:=11) aB ?_ ?_
     ·refine gL.gQ rfl ap rfl rfl rfl call90 (mq (((t.ag[i.toNat]'aa)).keys[a]) w4) ⟨ot,trivial⟩ ?_;refine AI.one (i:=11) aB ?_;refine kL rfl eW ?_;refine fV 12 rfl (oR (pl:=[(0,_),(1,_)]) (ds:=[_,_]) rfl zeroValue92 runUnderlying92 sg ⟨rfl,ot,rfl,ot,trivial⟩ rfl rfl) ?_;refine AI.one (i:=13) aB ?_;refine gL.yield (Y:=Y) (pre:=E) (y:=(((t.ag[i.toNat]'aa)).keys[a],((t.ag[i.toNat]'aa)).kids[a])) (Sc:=I) (R:=[⟨b7,146,5,cP (t.ag[i.toNat]'aa)⟩]) rfl ap rfl rfl ot aQ lk sY (perm_append_singleton _ _).symm Z sW hY O w8 (fun DE Oa=>?_) (fun DE Oa=>?_)
      ·refine AI.perm (perm_append_singleton _ _) ?_;refine fV 14 rfl lg ?_;refine AI.wk (y:=⟨46,[(0,_),(1,_),(5,_),(7,_),(43,_)],(⟨b7,146,5,[_,_,_,_,_]⟩::DE)⟩) (Wk.dP rfl rfl fy) ?_;refine AI.done aB ?_;refine fY ?_;refine bX [0,1,5,7] ?_;refine⟨((a+1),(E++[(((t.ag[i.toNat]'aa)).keys[a],((t.ag[i.toNat]'aa)).kids[a])]),DE),_,cn,aJ,sV,w4,Oa,rfl⟩
      refine fV 14 rfl lg ?_;refine AI.wk (y:=⟨46,[(0,_),(43,_)],(DE)⟩) (Wk.dP rfl rfl fy) ?_;refine AI.done aB ?_;refine eT ?_;refine CD.ret ?_;refine⟨.inr rfl,⟨_,qB results116⟩,(show 0<46 by decide),DE,Sublist.refl _,?_⟩;exact .inr ⟨E++[(((t.ag[i.toNat]'aa)).keys[a],((t.ag[i.toNat]'aa)).kids[a])],⟨(jb t (i::r)).drop (a+1),by rw[pZ,jl,append_assoc];rfl⟩,Oa,lk⟩
     refine kL rfl eW ?_;refine AI.one (i:=6) aB ?_;refine gL.gQ rfl ap rfl rfl rfl call90 (mq (((t.ag[i.toNat]'aa)).keys[a]) w4) ⟨ot,trivial⟩ ?_;refine fV 12 rfl (oR (pl:=[(0,_),(1,_)]) (ds:=[_,_]) rfl zeroValue92 runUnderlying92 sg ⟨rfl,ot,rfl,ot,trivial⟩ rfl rfl) ?_;refine AI.one (i:=13) aB ?_;refine gL.yield (Y:=Y) (pre:=E) (y:=(((t.ag[i.toNat]'aa)).keys[a],((t.ag[i.toNat]'aa)).kids[a])) (Sc:=I) (R:=[⟨b7,146,5,cP (t.ag[i.toNat]'aa)⟩]) rfl ap rfl rfl ot aQ lk sY (perm_append_singleton _ _).symm Z sW hY O w8 (fun DF Ob=>?_) (fun DF Ob=>?_)
     ·refine AI.perm (perm_append_singleton _ _) ?_;refine fV 14 rfl lg ?_;refine AI.wk (y:=⟨46,[(0,_),(1,_),(5,_),(7,_),(43,_)],(⟨b7,146,5,[_,_,_,_,_]⟩::DF)⟩) (Wk.dP rfl rfl fy) ?_;refine AI.done aB ?_;refine fY ?_;refine bX [0,1,5,7] ?_;refine⟨((a+1),(E++[(((t.ag[i.toNat]'aa)).keys[a],((t.ag[i.toNat]'aa)).kids[a])]),DF),_,cn,aJ,sV,w4,Ob,rfl⟩
     refine fV 14 rfl lg ?_;refine AI.wk (y:=⟨46,[(0,_),(43,_)],(DF)⟩) (Wk.dP rfl rfl fy) ?_;refine AI.done aB ?_;refine eT ?_;refine CD.ret ?_;refine⟨.inr rfl,⟨_,qB results116⟩,(show 0<46 by decide),DF,Sublist.refl _,?_⟩;exact .inr ⟨E++[(((t.ag[i.toNat]'aa)).keys[a],((t.ag[i.toNat]'aa)).kids[a])],⟨(jb t (i::r)).drop (a+1),by rw[pZ,jl,append_assoc];rfl⟩,Ob,lk⟩
    refine kL rfl eW ?_;refine AI.one (i:=5) aB ?_;refine kL rfl eW ?_;refine AI.one (i:=6) aB ?_;refine gL.gQ rfl ap rfl rfl rfl call90 (mq (((t.ag[i.toNat]'aa)).keys[a]) w4) ⟨ot,trivial⟩ ?_;refine fV 12 rfl (oR (pl:=[(0,_),(1,_)]) (ds:=[_,_]) rfl zeroValue92 runUnderlying92 sg ⟨rfl,ot,rfl,ot,trivial⟩ rfl rfl) ?_;refine AI.one (i:=13) aB ?_;refine gL.yield (Y:=Y) (pre:=E) (y:=(((t.ag[i.toNat]'aa)).keys[a],((t.ag[i.toNat]'aa)).kids[a])) (Sc:=I) (R:=[⟨b7,146,5,cP (t.ag[i.toNat]'aa)⟩]) rfl ap rfl rfl ot aQ lk sY (perm_append_singleton _ _).symm Z sW hY O w8 (fun DG Oc=>?_) (fun DG Oc=>?_)
    ·refine AI.perm (perm_append_singleton _ _) ?_;refine fV 14 rfl lg ?_;refine AI.wk (y:=⟨46,[(0,_),(1,_),(5,_),(7,_),(43,_)],(⟨b7,146,5,[_,_,_,_,_]⟩::DG)⟩) (Wk.dP rfl rfl fy) ?_;refine AI.done aB ?_;refine fY ?_;refine bX [0,1,5,7] ?_;refine⟨((a+1),(E++[(((t.ag[i.toNat]'aa)).keys[a],((t.ag[i.toNat]'aa)).kids[a])]),DG),_,cn,aJ,sV,w4,Oc,rfl⟩
    refine fV 14 rfl lg ?_;refine AI.wk (y:=⟨46,[(0,_),(43,_)],(DG)⟩) (Wk.dP rfl rfl fy) ?_;refine AI.done aB ?_;refine eT ?_;refine CD.ret ?_;refine⟨.inr rfl,⟨_,qB results116⟩,(show 0<46 by decide),DG,Sublist.refl _,?_⟩;exact .inr ⟨E++[(((t.ag[i.toNat]'aa)).keys[a],((t.ag[i.toNat]'aa)).kids[a])],⟨(jb t (i::r)).drop (a+1),by rw[pZ,jl,append_assoc];rfl⟩,Oc,lk⟩
   refine kL rfl eW ?_;refine AI.one (i:=2) aB ?_;refine kL rfl (dK 0) ?_;refine fV 4 rfl (dw 1 (h:=by first|exact .l (j:=a) rfl rh|exact .r (j:=a) rfl rh)) ?_;refine AI.one (i:=5) aB ?_;refine kL rfl eW ?_;refine AI.one (i:=6) aB ?_;refine gL.gQ rfl ap rfl rfl rfl call90 (mq (((t.ag[i.toNat]'aa)).keys[a]) w4) ⟨ot,trivial⟩ ?_;refine fV 12 rfl (oR (pl:=[(0,_),(1,_)]) (ds:=[_,_]) rfl zeroValue92 runUnderlying92 sg ⟨rfl,ot,rfl,ot,trivial⟩ rfl rfl) ?_;refine AI.one (i:=13) aB ?_;refine gL.yield (Y:=Y) (pre:=E) (y:=(((t.ag[i.toNat]'aa)).keys[a],((t.ag[i.toNat]'aa)).kids[a])) (Sc:=I) (R:=[⟨b7,146,5,cP (t.ag[i.toNat]'aa)⟩]) rfl ap rfl rfl ot aQ lk sY (perm_append_singleton _ _).symm Z sW hY O w8 (fun Cs Mh=>?_) (fun Cs Mh=>?_)
   ·refine AI.perm (perm_append_singleton _ _) ?_;refine fV 14 rfl lg ?_;refine AI.wk (y:=⟨46,[(0,_),(1,_),(5,_),(7,_),(43,_)],(⟨b7,146,5,[_,_,_,_,_]⟩::Cs)⟩) (Wk.dP rfl rfl fy) ?_;refine AI.done aB ?_;refine fY ?_;refine bX [0,1,5,7] ?_;refine⟨((a+1),(E++[(((t.ag[i.toNat]'aa)).keys[a],((t.ag[i.toNat]'aa)).kids[a])]),Cs),_,cn,aJ,sV,w4,Mh,rfl⟩
   refine fV 14 rfl lg ?_;refine AI.wk (y:=⟨46,[(0,_),(43,_)],(Cs)⟩) (Wk.dP rfl rfl fy) ?_;refine AI.done aB ?_;refine eT ?_;refine CD.ret ?_;refine⟨.inr rfl,⟨_,qB results116⟩,(show 0<46 by decide),Cs,Sublist.refl _,?_⟩;exact .inr ⟨E++[(((t.ag[i.toNat]'aa)).keys[a],((t.ag[i.toNat]'aa)).kids[a])],⟨(jb t (i::r)).drop (a+1),by rw[pZ,jl,append_assoc];rfl⟩,Mh,lk⟩
  have fh:a=(t.pg i).keys.length:=(by rw[gW];have:=aY;simp at this;omega)
  refine bX [0,1,4,5] ?_;refine⟨(r,0,E,I),_,(by (show length r<length (i::r);simp)),(aJ (h:=by repeat (first|exact trivial|refine⟨(by (repeat (first|exact fI|(apply fX;focus (first|rfl|(simp;done)|(rw[←gW,fi.next hL.pJ])))|(apply fN;focus rfl)));done),?_⟩))),hL.tail,(by rw[pZ,aaw v hL fh]),(fun x hx=>Nat.zero_le _),Z,rfl⟩
 have akZ:ls=[]:=hL.head.2 xN;refine CD.exit ?_;refine⟨.inl rfl,⟨_,qB results116⟩,(show 0<46 by decide),Sc,Sublist.refl _,?_⟩;exact .inl ⟨pre,by rw[N3,akZ];simp[jb],hj,lk⟩

open Go.Lib (compareBytes)
theorem af9(e:K×Int):(cE e).all V.one=true:=rfl
theorem ag1(k:K):fQ (cK k)=true:=by simp[cK,fQ,iJ,zg]
theorem ag2(n:Int):fQ (cI n)=true:=rfl
theorem ag3(p:cW):fQ (cP p)=true:=by simp[cP,fQ,iJ,zg,uX ag1,uX ag2]
def Vz(t:aF)(k:K):D:=.eA (.func 116) (Lg t k)
noncomputable def vf(eY:K)(x:K×Int):Bool:=decide (0<eY.length∧bC eY x.1)
noncomputable def wV(t:aF)(h:Nat)(f eY:K):List (K×Int):=(nw t h f).takeWhile fun x=>!vf eY x
noncomputable def wO(t:aF)(h:Nat)(f eY:K):List (K×Int)×Int:=if gD t=0 then (if f.length≤100∧eY.length≤100 then (wV t h f eY,0) else ([],1)) else ([],gD t)
theorem IU{α:Type}{p:α→Bool}:∀{l:List α},(∀x∈l,p x=true)→l.takeWhile p=l
 | [],_=>rfl
 | x::l,h=>by rw[takeWhile_cons,if_pos (h x mem_cons_self),IU fun y hy=>h y (mem_cons_of_mem _ hy)]
theorem Qb{α:Type}{p:α→Bool}{y:α}{r:List α}(hy:p y=false):∀{l:List α},(∀x∈l,p x=true)→(l++y::r).takeWhile p=l
 | [],_=>by rw[nil_append,takeWhile_cons,if_neg (by rw[hy];decide)]
 | x::l,h=>by rw[cons_append,takeWhile_cons,if_pos (h x mem_cons_self),Qb hy fun y hy=>h y (mem_cons_of_mem _ hy)]
def wW(b9 b5:Nat)(eY:K)(pre:List (K×Int))(Sc:List ah):Prop:=(∀x∈pre,vf eY x=false)∧∃ad cap So,bg 92 2 (pre.flatMap cE) pre.length ad cap So∧Sc=⟨b9,87,1,[aN ad pre.length cap]⟩::⟨b5,90,1,[au 1 cB eY]⟩::So
def Gh(b9 b5:Nat)(eY:K)(pre:List (K×Int))(Sc:List ah):Prop:=∃init y,pre=init++[y]∧vf eY y=true∧wW b9 b5 eY init Sc
theorem wW.iJ{b9 b5:Nat}{eY:K}{pre:List (K×Int)}{Sc:List ah}(h:wW b9 b5 eY pre Sc):∀B∈Sc,fQ B.cs=true:=by
 obtain⟨_,ad,cap,So,ho,rfl⟩:=h;intro B E;rcases mem_cons.1 E with rfl|E
 ·rfl
 rcases mem_cons.1 E with rfl|E
 ·simp[fQ,V.iJ,zg]
 rcases ho with ⟨_,_,_,_,rfl⟩|⟨b,_,_,_,rfl⟩
 ·cases E
 rw[mem_singleton] at E;subst E;exact uX zh pre
theorem Gh.iJ{b9 b5:Nat}{eY:K}{pre:List (K×Int)}{Sc:List ah}(h:Gh b9 b5 eY pre Sc):∀B∈Sc,fQ B.cs=true:=by
 obtain⟨init,y,_,_,h⟩:=h;exact h.iJ
def Lh(b9 b5:Nat)(eY:K)(pre:List (K×Int))(y:K×Int)(Sc:List ah)(z:St):Prop:=wW b9 b5 eY pre Sc∧∃j6,z=⟨43,[(5,cU b5),(9,cU b9),(10,cU j6)],⟨j6,92,2,cE y⟩::Sc⟩
theorem Lh.iJ{b9 b5:Nat}{eY:K}{pre:List (K×Int)}{y:K×Int}{Sc:List ah}{z:St}(h:Lh b9 b5 eY pre y Sc z):(z.env.all fun p=>V.iJ p.2)=true∧∀B∈z.S,fQ B.cs=true:=by
 obtain⟨hj,j6,rfl⟩:=h;refine⟨rfl,fun B E=>?_⟩;rcases mem_cons.1 E with rfl|E
 ·exact zh y
 exact hj.iJ B E
theorem adK{b9 b5:Nat}{t:aF}{h:Nat}{f eY:K}{Sc:List ah}{c d:Code}(he:(∃xs,xs=nw t h f∧wW b9 b5 eY xs Sc)∨(c=d∧∃pre,pre <+: nw t h f∧Gh b9 b5 eY pre Sc)):∃I,I=wV t h f eY∧wW b9 b5 eY I Sc:=by
 rcases he with ⟨xs,rfl,hj⟩|⟨_,pre,⟨r,hr⟩,E,y,rfl,hy,hj⟩
 ·exact⟨_,(IU fun x hx=>by rw[hj.1 x hx];rfl).symm,hj⟩
 refine⟨E,?_,hj⟩;unfold wV;rw[←hr,append_assoc,singleton_append];exact(Qb (by rw[hy];rfl) fun x hx=>by rw[hj.1 x hx];rfl).symm
theorem afs(t:aF)(k:K):VC Tryz.prog G 63 [.agg (cT t),au 1 cB k] [] (fun r S=>∃b2 b3,r = .eA (.func 116) [cU b2,cU b3]∧S=[⟨b3,90,1,[au 1 cB k]⟩,⟨b2,75,2,cT t⟩]):=by
 refine VC.body func63 rfl ntmps63 aQ fun X0 w0 bf=>?_;unfold cT;refine bS ?_;refine OD.box (ds:=[_,_]) ap rfl rfl ot rfl rfl (fun b2=>?_);refine OD.box (ds:=[_]) ap rfl rfl ot rfl rfl (fun b3=>?_);refine an 6 [2,3] ?_;refine cM [4] ?_;refine aP 0 ?_ (h:=by exact(pP (ds:=[_,_]) rfl ⟨ot,ot,trivial⟩));refine bD ?_;refine aK [_,_] ?_;exact⟨_,_,rfl,rfl⟩
theorem aft(t:aF)(k:K):VP Tryz.prog G 63 [.agg (cT t),au 1 cB k] (Vz t k):=VC.cover (afs t k) fun r S ⟨b2,b3,hr,hS⟩=>by
 subst hr;subst hS;exact acQ ⟨QU (e:=75) (size:=2) (cs:=cT t) (mem_cons_of_mem _ mem_cons_self) gE.same,QU (e:=90) (size:=1) mem_cons_self gE.same,trivial⟩
theorem Z6:(Tryz.prog.info? 92).map (fun i=>(i.zero,i.size,i.bytes))=some (some (.agg #[.slice none 0 0,.int .i64 0]),2,32):=by kernel_rfl
theorem afu(t:aF)(h:Nat)(hb:∀p∈t.ag,p.keys.length≤maxLen∧p.kids.length≤maxLen)(hv:gD t=0→Valid t h)(f eY:K):VP Tryz.prog G 32 [.agg (cT t),au 1 cB f,au 1 cB eY] (.dh [.list 2 ((wO t h f eY).1.flatMap cE) (wO t h f eY).1.length,ae (wO t h f eY).2]):=by
 refine VC.zw func32 rfl ntmps32 aQ fun X0 w0 bf=>?_;have cY:=dN;have eV:=pQ (G:=G) t hb;have U:=aft (G:=G) t f;unfold cT at eV U;unfold cT;refine bS ?_;refine OD.box (ds:=[_,_]) ap rfl rfl ot rfl rfl (fun b3=>?_);refine OD.box (ds:=[_]) ap rfl rfl ot rfl rfl (fun b5=>?_);refine an 43 [1,3,5] ?_;refine cL [1,3,5,8] (eV) ?_;refine af [1,3,5,8,14] ?_;refine ax ?_ ?_<;>intro aO bA
 ·have hn:¬gD t=0:=(by simpa using aO)
  refine af [6,7] ?_;refine CD.wk (Wk.tM (t:=6) (sz:=2) lk) ?_;refine aK [] ?_;exact⟨by unfold wO;rw[if_neg hn];rfl,rfl⟩
 have hz:gD t=0:=(by simpa using aO)
 have v:=hv hz;have Vy:=RI v f;refine aA 4 ?_;refine bW 19 (fun Z O=>?_) (fun Z O=>?_)
 ·refine bp [1,3,5,23] ?_;refine eT ?_;exact z75
 refine bp [1,3,5,23] ?_;refine ax ?_ ?_<;>intro aY cz
 ·exact z75
 have apq:f.length≤100∧eY.length≤100:=(by simp_all;omega)
 have hf1:f.length≤maxLen:=(by omega)
 refine bS ?_;refine OD.alloc (ds:=[_]) ap rfl rfl zeroValue87 rfl (fun b9=>?_);refine an 43 [1,3,5,9] ?_;refine CD.ajk ?_;refine dG 2 ?_;refine dO call63 (U) ?_;refine an 43 [5,9,26] ?_;refine vO.wk (Wk.drop _ _ _ [⟨b9,87,1,[bF]⟩,⟨b5,90,1,[au 1 cB eY]⟩] (Sublist.cons_cons _ (Sublist.cons_cons _ (Sublist.cons _ (Sublist.refl _))))) ?_;refine vO.range ot call116 (adJ t h v f hf1) (fun _=>rfl) adI (.exit 0) (.inr rfl) (wW b9 b5 eY) (Gh b9 b5 eY) (fun _ _ h=>h.iJ) (fun _ _ h=>h.iJ) ⟨(fun _ h=>by cases h),none,0,[],iz,rfl⟩ (Lh b9 b5 eY) (fun _ _ _ _ h=>h.iJ) ?_ ?_ ?_ (fun h=>by cases h)
 ·intro X1 W1 S1 l1 pre y Sc hJ hN;refine CI.region MR rfl ?_;refine OD.alloc (ds:=[_,_]) ap rfl rfl zeroValue92 rfl (fun j6=>?_);refine aM 0 [_,_] sizeOf92 ?_;refine OD.wk (Wk.dP (n:=43) (l':=[(5,_),(9,_),(10,_)]) (S':=(⟨j6,92,2,[_,_]⟩::Sc)) rfl rfl fy) ?_;refine OD.nil ?_;exact⟨rfl,hJ,j6,rfl⟩
 ·intro X1 W1 S1 l1 pre y Sc z hJ hN hz;obtain⟨⟨aV,ad,cap,So,ho,rfl⟩,j6,rfl⟩:=hz;unfold cE;refine CI.block ?_;refine CI.seq ?_;refine CI.seq ?_;refine CI.region MR rfl ?_;refine bQ (dK 2) ?_;refine bQ x4 ?_;refine bQ ql ?_;refine om_ ?_;refine OD.split (t:=31) lk (fun I=>?_) (fun I=>?_)
  ·have E:=I;(try simp only[V.nH,ne_eq] at E)
   refine bQ (dF 0) ?_;refine bQ (dK 0) ?_;refine bQ (dK 2) ?_;refine OD.gQ iq rfl rfl rfl call64 (wG y.1 eY) ⟨ot,ot,trivial⟩ ?_;refine bQ ql ?_;refine bQ xq ?_;refine OD.wk (Wk.dP (n:=43) (l':=[(9,_),(10,_),(37,_)]) (S':=(⟨j6,92,2,[_,_]⟩::⟨b9,87,1,[_]⟩::⟨b5,90,1,[_]⟩::So)) rfl rfl fy) ?_;refine OD.nil ?_;refine CI.cond ot (fun cc=>?_) (fun cc=>?_)
   ·have cN:=cc
    (try simp only[V.nH,ne_eq] at cN)
    have fL:vf eY y=true:=(by unfold vf;simp_all[Uv])
    refine CI.exit ?_;exact⟨rfl,_,Sublist.cons _ (Sublist.refl _),pre,y,rfl,fL,aV,ad,cap,So,ho,rfl⟩
   have cN:=cc
   (try simp only[V.nH,ne_eq] at cN)
   exact z24
  have E:=I;(try simp only[V.nH,ne_eq] at E)
  refine C4 ?_;refine C4 ?_;refine C4 ?_;refine C4 ?_;refine C4 ?_;refine bQ vo ?_;refine XO [9,10,37] ?_;refine CI.K4 ot jr ?_;exact z24
 intro W1 S1 D1 Sc fh;obtain⟨es,hes,aV,ad,cap,So,ho,rfl⟩:=adK fh;refine af [6,7] ?_;refine CD.ic (t:=6) (Sq:=So) lk ho (cm Uw _) (dg (A:=[_,_])) ?_;refine CD.ret ?_;refine⟨rfl,(by simp[iJ,fQ,uX zh,zg,zh,uX ag3,Vz,Lg]),(by intro B hB;simp only[mem_cons,not_mem_nil,or_false] at hB;rcases hB with rfl|rfl<;>simp[iJ,fQ,zg]),_,[],nil_sublist _,JH results32 (yW aQ lk) (yW aQ lk),(by simp[iJ,fQ,uX zh]),?_⟩;rw[hes];exact⟨by unfold wO;rw[if_pos hz,if_pos ⟨by omega,by omega⟩],rfl⟩

end Go.Proofs.YtkgmonfgofobaaaGreatDoor.Tw
namespace Go.Proofs.YtkgmonfgofobaaaGreatDoor.Tw

open List
open Go.Proofs.Tryz
open Go.RowKit V Tr Pk
variable {α:Type} {i h:Nat} {t u:aF} {k up:K} {J:List D} {row:Int}
theorem TO{g:α→List D}(hg:∀a,(g a).length=1){q:List α}{cap:Nat}(hi:i<q.length)(hc:q.length≤cap):((q.flatMap g).drop (eM cap (i+1) 1 0)).take ((q.length-(i+1))*1)=(q.drop (i+1)).flatMap g:=by
 unfold eM;by_cases h:cap=i+1
 ·have e:q.length=i+1:=(by omega)
  have e2:q.drop (i+1)=[]:=drop_of_length_le w4;rw[if_pos h,show q.length-(i+1)=0 from by omega,e2];simp
 rw[if_neg h,Nat.zero_add,uW hg,take_of_length_le];rw[cm hg,length_drop];exact Nat.le_refl _
theorem US{g:α→List D}(hg:∀a,(g a).length=1){q:List α}(hi:i<q.length):c8 (q.flatMap g) (i*1) ((q.drop (i+1)).flatMap g)=(q.eraseIdx i).flatMap g++(q.flatMap g).drop (i*1+((q.drop (i+1)).flatMap g).length):=by
 rw[vZ _ _ _ (by rw[cm hg,cm hg,length_drop];omega),tO hg,eraseIdx_eq_take_drop_succ,flatMap_append]
variable {G:List (Nat×List Value)}
theorem Zl:(Tryz.prog.info? 90).map (fun i=>i.size)=some 1:=by kernel_rfl
theorem Ir(q:List K)(i cap b:Nat)(hi:i<q.length)(hc:q.length≤cap)(hm:cap≤maxLen)(hs:q.length≤1000):VC Tryz.prog G 151 [aN (some ⟨b,0,none⟩) q.length cap,ae (i:Nat),ae ((i+1:Nat):Int)] [⟨b,90,cap*1,q.flatMap cK⟩] (fun r S=>r=aN (some ⟨b,0,none⟩) (q.length-1) cap∧S=[⟨b,90,cap*1,(q.eraseIdx i).flatMap cK⟩]):=by
 refine VC.body func151 rfl ntmps151 aQ fun X0 w0 bf=>?_;refine af [0,1,2] ?_;refine cM [0,1,2] ?_;refine aP 5 ?_ (h:=by exact(OH rfl ot ot ot ot runUnderlying144 sizeOf90 w4 w4 hc));refine jI ?_;refine af [0,1,2,16] ?_;refine ax ?_ ?_<;>intro aO bA
 ·exact absurd aO ur
 refine af [0,1,2,7] ?_;refine CD.seq ?_;refine gX 7 (av (eraseIdx _ 0)) ?_ (fun _ h=>(Sublist.map _ (eraseIdx_sublist _ 0)).subset h);refine aC 0 rfl bG ?_;refine aC 1 rfl bG ?_;refine aC 2 rfl (eE (l:=0) (h:=i) rfl ot trivial ⟨_,ot⟩ MC) ?_;refine aC 3 rfl bG ?_;refine aC 4 rfl bG ?_;refine aC 5 rfl (eE (l:=i+1) rfl ot ⟨_,ot⟩ trivial uo) ?_;refine dH.later rfl ?_;refine AD.one (i:=6) aB ?_;refine bB.QL (n:=i) (m:=q.length-(i+1)) (k:=0) (new:=(q.drop (i+1)).flatMap cK) (cs':=(q.eraseIdx i).flatMap cK++(q.flatMap cK).drop (i*1+((q.drop (i+1)).flatMap cK).length)) rfl ap rfl rfl underlying144 Zl ot rfl rfl ot (TO gi hi hc) (by rw[cm gi,length_drop]) (tW pU _) w4 (by show _≤(q.flatMap cK).length;rw[cm gi];omega) (US gi hi) iD ?_;rw[show i+(q.length-(i+1))=q.length-1 from by omega];refine fw ?_;refine bp [0,7] ?_;refine aA 4 ?_;refine bQ (eE (l:=q.length-1) (h:=q.length) rfl ot ⟨_,ot⟩ ⟨_,ot⟩ (by first|exact nO (fun h=>by cases h) runUnderlying144 sizeOf90 w4|exact yU (fun h=>by cases h) (fun h=>by cases h) runUnderlying144 sizeOf90 w4 w4|exact nk (fun h=>by cases h) (fun h=>by cases h) runUnderlying144 sizeOf90 w4 w4)) ?_;refine OD.shrink (k:=0) (cs':=(q.eraseIdx i).flatMap cK) rfl (prefix_append _ _) ?_;refine OD.clear (k:=0) (sz:=1) ap rfl rfl underlying144 zeroValue90 rfl aB ot rfl rfl (fun h0=>?_) ?_
 ·have h3:eM cap (q.length-1) 1 0=(q.length-1)*1:=(by unfold eM;rw[if_neg w4];omega)
  rw[h3];refine⟨?_,?_⟩
  ·show((q.eraseIdx i).flatMap cK).length≤_;rw[cm gi,length_eraseIdx_of_lt hi];exact Nat.le_refl _
  show _≤cap*1;omega
 refine an 33 [0] ?_;refine af [6] ?_;refine aK [_] ?_;exact⟨rfl,rfl⟩
theorem Zm:(Tryz.prog.info? 3).map (fun i=>i.size)=some 1:=by kernel_rfl
theorem OY(q:List Int)(i cap b:Nat)(hi:i<q.length)(hc:q.length≤cap)(hm:cap≤maxLen)(hs:q.length≤1000):VC Tryz.prog G 152 [aN (some ⟨b,0,none⟩) q.length cap,ae (i:Nat),ae ((i+1:Nat):Int)] [⟨b,3,cap*1,q.flatMap cI⟩] (fun r S=>r=aN (some ⟨b,0,none⟩) (q.length-1) cap∧S=[⟨b,3,cap*1,(q.eraseIdx i).flatMap cI⟩]):=by
 refine VC.body func152 rfl ntmps152 aQ fun X0 w0 bf=>?_;refine af [0,1,2] ?_;refine cM [0,1,2] ?_;refine aP 5 ?_ (h:=by exact(OH rfl ot ot ot ot runUnderlying70 sizeOf3 w4 w4 hc));refine jI ?_;refine af [0,1,2,16] ?_;refine ax ?_ ?_<;>intro aO bA
 ·exact absurd aO ur
 refine af [0,1,2,7] ?_;refine CD.seq ?_;refine gX 7 (av (eraseIdx _ 0)) ?_ (fun _ h=>(Sublist.map _ (eraseIdx_sublist _ 0)).subset h);refine aC 0 rfl bG ?_;refine aC 1 rfl bG ?_;refine aC 2 rfl (eE (l:=0) (h:=i) rfl ot trivial ⟨_,ot⟩ MD) ?_;refine aC 3 rfl bG ?_;refine aC 4 rfl bG ?_;refine aC 5 rfl (eE (l:=i+1) rfl ot ⟨_,ot⟩ trivial uq) ?_;refine dH.later rfl ?_;refine AD.one (i:=6) aB ?_;refine bB.QL (n:=i) (m:=q.length-(i+1)) (k:=0) (new:=(q.drop (i+1)).flatMap cI) (cs':=(q.eraseIdx i).flatMap cI++(q.flatMap cI).drop (i*1+((q.drop (i+1)).flatMap cI).length)) rfl ap rfl rfl underlying70 Zm ot rfl rfl ot (TO eG hi hc) (by rw[cm eG,length_drop]) (tW nP _) w4 (by show _≤(q.flatMap cI).length;rw[cm eG];omega) (US eG hi) iD ?_;rw[show i+(q.length-(i+1))=q.length-1 from by omega];refine fw ?_;refine bp [0,7] ?_;refine aA 4 ?_;refine bQ (eE (l:=q.length-1) (h:=q.length) rfl ot ⟨_,ot⟩ ⟨_,ot⟩ (by first|exact nO (fun h=>by cases h) runUnderlying70 sizeOf3 w4|exact yU (fun h=>by cases h) (fun h=>by cases h) runUnderlying70 sizeOf3 w4 w4|exact nk (fun h=>by cases h) (fun h=>by cases h) runUnderlying70 sizeOf3 w4 w4)) ?_;refine OD.shrink (k:=0) (cs':=(q.eraseIdx i).flatMap cI) rfl (prefix_append _ _) ?_;refine OD.clear (k:=0) (sz:=1) ap rfl rfl underlying70 zeroValue3 rfl aB ot rfl rfl (fun h0=>?_) ?_
 ·have h3:eM cap (q.length-1) 1 0=(q.length-1)*1:=(by unfold eM;rw[if_neg w4];omega)
  rw[h3];refine⟨?_,?_⟩
  ·show((q.eraseIdx i).flatMap cI).length≤_;rw[cm eG,length_eraseIdx_of_lt hi];exact Nat.le_refl _
  show _≤cap*1;omega
 refine an 33 [0] ?_;refine af [6] ?_;refine aK [_] ?_;exact⟨rfl,rfl⟩

theorem vX{α:Type}{g:α→List D}{sz:Nat}(hg:∀a,(g a).length=sz){a':α}{c:Nat}{d:D}(hc:c<sz):∀{L:List α} {j:Nat} (hj:j<L.length),g a'=(g L[j]).set c d→(L.flatMap g).set (j*sz+c) d=(L.set j a').flatMap g
 | a::L,0,_,h=>by
  simp only[getElem_cons_zero] at h;rw[flatMap_cons,set_cons_zero,flatMap_cons,h,set_append_left _ _ (by rw[hg];omega),Nat.zero_mul,Nat.zero_add]
 | a::L,j+1,hj,h=>by
  have E:=vX hg hc (L:=L) (j:=j) (by simpa using hj) px;have e:(j+1)*sz+c=sz+(j*sz+c):=(by rw[Nat.succ_mul];omega)
  rw[flatMap_cons,set_cons_succ,flatMap_cons,←E,set_append_right _ _ (by rw[hg];omega),hg,e,show sz+(j*sz+c)-sz=j*sz+c from by omega]
theorem UT{L:List aX}(hL:L.map aX.p=t.ag){i:Int}(hi:0≤i∧i<t.ag.length)(hj:i.toNat<L.length):L[i.toNat].p=t.pg i:=by
 rw[vl hi];have h:(L.map aX.p)[i.toNat]?=some L[i.toNat].p:=(by rw[getElem?_map,getElem?_eq_getElem hj];rfl)
 rw[hL,getElem?_eq_getElem w4] at h;exact(Option.some.inj h).symm
def vR:aF:=⟨[],0⟩
def Ct(te:aF×Int)(r:D)(S:List ah):Prop:=∃r',r = .dh [r',ae te.2]∧GG te.1 r' S
theorem y7(e:Int):Ct (vR,e) (.dh [.agg [bF,ae 0],ae e]) []:=⟨_,rfl,[],none,0,[],rfl,iz,(fun o h=>by cases h),rfl,rfl⟩
theorem GG.view{r:D}{S:List ah}(h:GG t r S):View S r (.agg (cT t)):=by
 obtain⟨L,ad,cap,Sx,rfl,ho,aV,hL,rfl⟩:=h;have:=KI (root:=t.root) ho aV (fun B E=>E);rw[hL] at this;exact this
theorem Ct.view{te:aF×Int}{r:D}{S:List ah}(h:Ct te r S):View S r (.dh [.agg (cT te.1),ae te.2]):=by
 obtain⟨r',rfl,h⟩:=h;exact EK ⟨h.view,eO,trivial⟩
noncomputable def rJ(t:aF)(k:K)(h:Nat):aF×Int:=if lD t k=0 then (if iA t k h=true then (gI t h k,0) else (vR,8)) else (vR,lD t k)
theorem Qc(h:lD t k=0):gD t=0∧oG k=true:=by
 have hc:gD t=0:=Classical.byContradiction fun e=>by rw[EH e] at h;exact e h
 refine⟨hc,?_⟩;cases hq:oG k with
 | true=>rfl
 | false=>rw[El hc hq] at h;cases h
theorem abY(t:aF)(h:Nat)(k:K)(hb:∀p∈t.ag,p.keys.length≤maxLen∧p.kids.length≤maxLen)(hv:gD t=0→Valid t h):VC Tryz.prog G 113 [.agg [au 5 cP t.ag,ae t.root],au 1 cB k] [] (Ct (rJ t k h)):=by
 refine VC.body func113 rfl ntmps113 aQ fun X0 w0 bf=>?_;have eV:=Iq (G:=G) t k hb;unfold cT at eV;have hcT:cT t=[au 5 cP t.ag,ae t.root]:=rfl;have cY:=dN;refine bS ?_;refine OD.box (ds:=[_,_]) ap rfl rfl ot rfl rfl (fun b2=>?_);refine OD.alloc (ds:=[_,_]) ap rfl rfl zeroValue75 rfl (fun b4=>?_);refine an 58 [1,2,4] ?_;refine cL [1,2,4,6] (eV) ?_;refine af [1,2,4,6,16] ?_;refine ax ?_ ?_<;>intro aO bA
 ·have hn:¬lD t k=0:=(by simpa using aO)
  refine aA 2 ?_;refine aM 0 [_,_] sizeOf75 ?_;refine an 58 [4,5] ?_;refine aK [] ?_;unfold rJ;rw[if_neg hn];exact y7 _
 have hz:lD t k=0:=(by simpa using aO)
 obtain⟨hc,Od⟩:=Qc hz;have v:=hv hc;have Cu:=Jr Od;have fx:=qF (G:=G) t h v k w4 (Ei v k);obtain⟨q1,E⟩:=v.leaf k;refine aA 1 ?_;refine OD.call ap rfl rfl rfl call88 (FP t h v) ⟨ot,trivial⟩ (fa _) ?_;rintro _ _ ⟨L,ad,cap,Sx,rfl,dX,aV,hL,rfl⟩;refine OD.perm (dW (A:=[_,_])) ?_;refine OD.alloc (ds:=[_,_]) ap rfl rfl zeroValue75 rfl (fun b7=>?_);refine aM 0 [_,_] sizeOf75 ?_;refine an 58 [1,4,7] ?_;refine cM [4,7,8,9,10] ?_;refine mG 2 ?_;refine zN (fx) (ha:=by exact⟨⟨_,ot,by have:=KI (root:=t.root) dX aV (fun B hB=>mem_cons_of_mem ⟨b7,75,2,[aN ad L.length cap,ae t.root]⟩ (mem_cons_of_mem ⟨b4,75,2,[bF,ae 0]⟩ (mem_cons_of_mem ⟨b2,75,2,[au 5 cP t.ag,ae t.root]⟩ hB)));rw[hL] at this;exact this⟩,⟨_,ot,eO⟩,trivial⟩) (K:=?_);refine bD ?_;refine af [4,7,8,9,29] ?_;refine ax ?_ ?_<;>intro aY cz
 ·have iV:iA t k h=false:=(by simpa using aY)
  refine aA 1 ?_;refine aM 1 [_,_] sizeOf75 ?_;refine an 58 [4,5] ?_;refine aK [] ?_;unfold rJ;rw[if_pos hz,if_neg xM];exact y7 _
 have iV:iA t k h=true:=(by simpa using aY)
 obtain⟨ha,NG⟩:=(Eh v k).1 iV;have po:=v.fK _ (jC q1);have hle:=po.leaf E;have YM:=po.eI;have rZ:L.length=t.ag.length:=(by rw[←hL];(first|rw[length_map]|(unfold au;rw[length_map])))
 have hj:(aI t k h t.root).toNat<L.length:=(by omega)
 have O:=UT hL q1 hj;obtain⟨bx,rfl,gg,xO,rfl⟩:=dX.pos w4;have U:=aV _ (getElem_mem hj);obtain⟨o,ho⟩:∃o,o=L[(aI t k h t.root).toNat]:=⟨_,rfl⟩
 rw[←ho] at U O;rcases o with ⟨p,ak,ck,sk,ai,ci,si⟩
 have gW:p=t.pg (aI t k h t.root):=O;obtain⟨dL,Z⟩:nR p.keys ak ck sk∧mZ p.kids ai ci si:=U;rw[←gW] at ha hle YM;obtain⟨bk,rfl,dU,xP,rfl⟩:=dL.pos w4;obtain⟨bi,rfl,fC,G6,rfl⟩:=Z.pos w4;have I:(L.flatMap bO).Perm (⟨bk,90,ck*1,flatMap cK p.keys⟩::⟨bi,3,ci*1,flatMap cI p.kids⟩::((L.eraseIdx (aI t k h t.root).toNat).flatMap bO)):=(by have:=y6 bO hj;rw[←ho] at this;exact this)
 refine CD.perm (Perm.cons _ (Perm.cons _ (Perm.cons _ (Perm.cons _ I)))) ?_;rw[gW] at ha;have ha:(aL (t.pg (aI t k h t.root)) k)<p.keys.length:=(by rw[gW];exact ha)
 have qf:(aL (t.pg (aI t k h t.root)) k)<p.kids.length:=(by omega)
 have hid:=dU;clear dL Z;refine cM [4,7,9,11] ?_;refine aP 3 ?_ (h:=by exact(dw 5 (h:=by first|exact .l (j:=(aI t k h t.root).toNat) (Int.toNat_of_nonneg q1.1).symm hj|exact .r (j:=(aI t k h t.root).toNat) (Int.toNat_of_nonneg q1.1).symm hj)));refine bD ?_;refine CD.seq ?_;refine gX 21 (av (take 3 _)) ?_ (fun _ h=>(Sublist.map _ (take_sublist _ _)).subset h);refine aC 0 rfl bG ?_;refine aC 1 rfl bG ?_;refine aC 2 rfl bG ?_;refine aC 3 rfl qg ?_;refine aC 4 rfl (dF 1) ?_;refine aC 6 rfl bG ?_;refine aC 7 rfl bG ?_;refine aC 8 rfl (dj (r:=.int .i64 (((aL (t.pg (aI t k h t.root)) k)+1:Nat):Int)) rfl ot bP (kz (by rw[show(((aL (t.pg (aI t k h t.root)) k):Nat):Int)+1=(((aL (t.pg (aI t k h t.root)) k)+1:Nat):Int) from rfl];exact wrap_i64 w4 w4))) ?_;refine aC 10 rfl bG ?_;refine aC 11 rfl qg ?_;refine aC 12 rfl (dF 2) ?_;refine aC 14 rfl bG ?_;refine aC 15 rfl bG ?_;refine aC 16 rfl (dj (r:=.int .i64 (((aL (t.pg (aI t k h t.root)) k)+1:Nat):Int)) rfl ot bP (kz (by rw[show(((aL (t.pg (aI t k h t.root)) k):Nat):Int)+1=(((aL (t.pg (aI t k h t.root)) k)+1:Nat):Int) from rfl];exact wrap_i64 w4 w4))) ?_;refine dH.later rfl ?_;refine AD.two (i:=5) (j:=13) aB ?_ ?_
 ·first|refine at_ rfl (cR (mk:=Op.load 144) rfl ot (lA (k:=3) (j:=1) (d:=aN (some ⟨bk,0,none⟩) p.keys.length ck) (ls:=L) hU rfl rfl rfl isAgg144 hj rU)) ?_|refine at_ rfl (cR (mk:=Op.load 144) rfl ot (lA (k:=4) (j:=1) (d:=aN (some ⟨bk,0,none⟩) p.keys.length ck) (ls:=L) hU rfl rfl rfl isAgg144 hj rU)) ?_
  refine AD.two (i:=9) (j:=13) aB ?_ ?_
  ·refine bB.call rfl ap rfl rfl rfl call151 (Ir p.keys (aL (t.pg (aI t k h t.root)) k) ck bk ha dU xP w4) ⟨ot,ot,ot,trivial⟩ (mM (k:=4) rfl) iD ?_;rintro _ _ ⟨rfl,rfl⟩;refine AD.perm (perm_middle (l₁:=[_,_,_,_])).symm ?_;refine AD.one (i:=13) aB ?_;first|refine at_ rfl (cR (mk:=Op.load 70) rfl ot (lA (k:=3) (j:=2) (d:=aN (some ⟨bi,0,none⟩) p.kids.length ci) (ls:=L) hU rfl rfl rfl isAgg70 hj rU)) ?_|refine at_ rfl (cR (mk:=Op.load 70) rfl ot (lA (k:=4) (j:=2) (d:=aN (some ⟨bi,0,none⟩) p.kids.length ci) (ls:=L) hU rfl rfl rfl isAgg70 hj rU)) ?_
   exact z4
  first|refine at_ rfl (cR (mk:=Op.load 70) rfl ot (lA (k:=3) (j:=2) (d:=aN (some ⟨bi,0,none⟩) p.kids.length ci) (ls:=L) hU rfl rfl rfl isAgg70 hj rU)) ?_|refine at_ rfl (cR (mk:=Op.load 70) rfl ot (lA (k:=4) (j:=2) (d:=aN (some ⟨bi,0,none⟩) p.kids.length ci) (ls:=L) hU rfl rfl rfl isAgg70 hj rU)) ?_
  refine AD.one (i:=9) aB ?_;refine bB.call rfl ap rfl rfl rfl call151 (Ir p.keys (aL (t.pg (aI t k h t.root)) k) ck bk ha dU xP w4) ⟨ot,ot,ot,trivial⟩ (mM (k:=4) rfl) iD ?_;rintro _ _ ⟨rfl,rfl⟩;refine AD.perm (perm_middle (l₁:=[_,_,_,_])).symm ?_;exact z4
 first|refine at_ rfl (cR (mk:=Op.load 70) rfl ot (lA (k:=3) (j:=2) (d:=aN (some ⟨bi,0,none⟩) p.kids.length ci) (ls:=L) hU rfl rfl rfl isAgg70 hj rU)) ?_|refine at_ rfl (cR (mk:=Op.load 70) rfl ot (lA (k:=4) (j:=2) (d:=aN (some ⟨bi,0,none⟩) p.kids.length ci) (ls:=L) hU rfl rfl rfl isAgg70 hj rU)) ?_
 refine AD.one (i:=5) aB ?_;first|refine at_ rfl (cR (mk:=Op.load 144) rfl ot (lA (k:=3) (j:=1) (d:=aN (some ⟨bk,0,none⟩) p.keys.length ck) (ls:=L) hU rfl rfl rfl isAgg144 hj rU)) ?_|refine at_ rfl (cR (mk:=Op.load 144) rfl ot (lA (k:=4) (j:=1) (d:=aN (some ⟨bk,0,none⟩) p.keys.length ck) (ls:=L) hU rfl rfl rfl isAgg144 hj rU)) ?_
 refine AD.one (i:=9) aB ?_;refine bB.call rfl ap rfl rfl rfl call151 (Ir p.keys (aL (t.pg (aI t k h t.root)) k) ck bk ha dU xP w4) ⟨ot,ot,ot,trivial⟩ (mM (k:=4) rfl) iD ?_;rintro _ _ ⟨rfl,rfl⟩;refine AD.perm (perm_middle (l₁:=[_,_,_,_])).symm ?_;refine AD.one (i:=17) aB ?_;refine bB.call rfl ap rfl rfl rfl call152 (OY p.kids (aL (t.pg (aI t k h t.root)) k) ci bi qf fC G6 w4) ⟨ot,ot,ot,trivial⟩ (mM (k:=5) rfl) iD ?_;rintro _ _ ⟨rfl,rfl⟩;refine AD.perm (perm_middle (l₁:=[_,_,_,_,_])).symm ?_;refine c9 18 rfl qg ?_;refine c9 19 rfl (dF 1) ?_;refine AD.one (i:=20) aB ?_
 refine bB.storeAt (k:=3) (cs':=flatMap gO (L.set (aI t k h t.root).toNat (⟨{p with keys:=(p.keys.eraseIdx (aL (t.pg (aI t k h t.root)) k))},some ⟨bk,0,none⟩,ck,[⟨bk,90,ck*1,flatMap cK (p.keys.eraseIdx (aL (t.pg (aI t k h t.root)) k))⟩],some ⟨bi,0,none⟩,ci,[⟨bi,3,ci*1,flatMap cI p.kids⟩]⟩:aX))) rfl ap rfl rfl ot rfl rfl ot rfl rfl sizeOf144 rfl (by show 0+(aI t k h t.root).toNat*5+1+1≤(flatMap gO L).length;rw[cm hU];omega) (by show(L.flatMap gO).set (0+(aI t k h t.root).toNat*5+1) _=_;rw[Nat.zero_add];exact vX hU w8 hj (by rw[←ho];show gO (⟨{p with keys:=(p.keys.eraseIdx (aL (t.pg (aI t k h t.root)) k))},some ⟨bk,0,none⟩,ck,[⟨bk,90,ck*1,flatMap cK (p.keys.eraseIdx (aL (t.pg (aI t k h t.root)) k))⟩],some ⟨bi,0,none⟩,ci,[⟨bi,3,ci*1,flatMap cI p.kids⟩]⟩:aX)=(gO (⟨p,some ⟨bk,0,none⟩,ck,[⟨bk,90,ck*1,flatMap cK p.keys⟩],some ⟨bi,0,none⟩,ci,[⟨bi,3,ci*1,flatMap cI p.kids⟩]⟩:aX)).set 1 _;unfold gO;rw[length_eraseIdx_of_lt ha];rfl)) iD ?_;refine fw ?_;refine aG 2 ?_
 refine OD.storeAt (k:=3) (cs':=flatMap gO (L.set (aI t k h t.root).toNat (⟨(kH p (aL (t.pg (aI t k h t.root)) k)),some ⟨bk,0,none⟩,ck,[⟨bk,90,ck*1,flatMap cK (p.keys.eraseIdx (aL (t.pg (aI t k h t.root)) k))⟩],some ⟨bi,0,none⟩,ci,[⟨bi,3,ci*1,flatMap cI (p.kids.eraseIdx (aL (t.pg (aI t k h t.root)) k))⟩]⟩:aX))) ap rfl rfl ot rfl rfl ot rfl rfl sizeOf70 rfl (by show 0+(aI t k h t.root).toNat*5+2+1≤(flatMap gO (L.set (aI t k h t.root).toNat (⟨{p with keys:=(p.keys.eraseIdx (aL (t.pg (aI t k h t.root)) k))},some ⟨bk,0,none⟩,ck,[⟨bk,90,ck*1,flatMap cK (p.keys.eraseIdx (aL (t.pg (aI t k h t.root)) k))⟩],some ⟨bi,0,none⟩,ci,[⟨bi,3,ci*1,flatMap cI p.kids⟩]⟩:aX))).length;rw[cm hU,length_set];omega) (by show(flatMap gO (L.set (aI t k h t.root).toNat (⟨{p with keys:=(p.keys.eraseIdx (aL (t.pg (aI t k h t.root)) k))},some ⟨bk,0,none⟩,ck,[⟨bk,90,ck*1,flatMap cK (p.keys.eraseIdx (aL (t.pg (aI t k h t.root)) k))⟩],some ⟨bi,0,none⟩,ci,[⟨bi,3,ci*1,flatMap cI p.kids⟩]⟩:aX))).set (0+(aI t k h t.root).toNat*5+2) _=_;rw[Nat.zero_add,vX hU (a':=(⟨(kH p (aL (t.pg (aI t k h t.root)) k)),some ⟨bk,0,none⟩,ck,[⟨bk,90,ck*1,flatMap cK (p.keys.eraseIdx (aL (t.pg (aI t k h t.root)) k))⟩],some ⟨bi,0,none⟩,ci,[⟨bi,3,ci*1,flatMap cI (p.kids.eraseIdx (aL (t.pg (aI t k h t.root)) k))⟩]⟩:aX)) w8 xI (by rw[getElem_set_self];show gO (⟨(kH p (aL (t.pg (aI t k h t.root)) k)),some ⟨bk,0,none⟩,ck,[⟨bk,90,ck*1,flatMap cK (p.keys.eraseIdx (aL (t.pg (aI t k h t.root)) k))⟩],some ⟨bi,0,none⟩,ci,[⟨bi,3,ci*1,flatMap cI (p.kids.eraseIdx (aL (t.pg (aI t k h t.root)) k))⟩]⟩:aX)=(gO (⟨{p with keys:=(p.keys.eraseIdx (aL (t.pg (aI t k h t.root)) k))},some ⟨bk,0,none⟩,ck,[⟨bk,90,ck*1,flatMap cK (p.keys.eraseIdx (aL (t.pg (aI t k h t.root)) k))⟩],some ⟨bi,0,none⟩,ci,[⟨bi,3,ci*1,flatMap cI p.kids⟩]⟩:aX)).set 2 _;unfold gO kH;simp only[];rw[length_eraseIdx_of_lt qf];rfl),set_set]) ?_
 have vK:(⟨bk,90,ck*1,flatMap cK (p.keys.eraseIdx (aL (t.pg (aI t k h t.root)) k))⟩::⟨bi,3,ci*1,flatMap cI (p.kids.eraseIdx (aL (t.pg (aI t k h t.root)) k))⟩::((L.eraseIdx (aI t k h t.root).toNat).flatMap bO)).Perm ((L.set (aI t k h t.root).toNat (⟨(kH p (aL (t.pg (aI t k h t.root)) k)),some ⟨bk,0,none⟩,ck,[⟨bk,90,ck*1,flatMap cK (p.keys.eraseIdx (aL (t.pg (aI t k h t.root)) k))⟩],some ⟨bi,0,none⟩,ci,[⟨bi,3,ci*1,flatMap cI (p.kids.eraseIdx (aL (t.pg (aI t k h t.root)) k))⟩]⟩:aX)).flatMap bO):=(yL bO hj (⟨(kH p (aL (t.pg (aI t k h t.root)) k)),some ⟨bk,0,none⟩,ck,[⟨bk,90,ck*1,flatMap cK (p.keys.eraseIdx (aL (t.pg (aI t k h t.root)) k))⟩],some ⟨bi,0,none⟩,ci,[⟨bi,3,ci*1,flatMap cI (p.kids.eraseIdx (aL (t.pg (aI t k h t.root)) k))⟩]⟩:aX)).symm;refine OD.perm (Perm.cons _ (Perm.cons _ (Perm.cons _ (Perm.cons _ vK)))) ?_;refine an 58 [4,7] ?_;refine aA 1 ?_;refine aM 1 [_,_] sizeOf75 ?_;refine an 58 [4,5] ?_
 refine aK ([⟨bx,146,cap*5,flatMap gO (L.set (aI t k h t.root).toNat (⟨(kH p (aL (t.pg (aI t k h t.root)) k)),some ⟨bk,0,none⟩,ck,[⟨bk,90,ck*1,flatMap cK (p.keys.eraseIdx (aL (t.pg (aI t k h t.root)) k))⟩],some ⟨bi,0,none⟩,ci,[⟨bi,3,ci*1,flatMap cI (p.kids.eraseIdx (aL (t.pg (aI t k h t.root)) k))⟩]⟩:aX))⟩]++(L.set (aI t k h t.root).toNat (⟨(kH p (aL (t.pg (aI t k h t.root)) k)),some ⟨bk,0,none⟩,ck,[⟨bk,90,ck*1,flatMap cK (p.keys.eraseIdx (aL (t.pg (aI t k h t.root)) k))⟩],some ⟨bi,0,none⟩,ci,[⟨bi,3,ci*1,flatMap cI (p.kids.eraseIdx (aL (t.pg (aI t k h t.root)) k))⟩]⟩:aX)).flatMap bO) ?_;unfold rJ;rw[if_pos hz,if_pos iV];refine⟨_,rfl,L.set (aI t k h t.root).toNat (⟨(kH p (aL (t.pg (aI t k h t.root)) k)),some ⟨bk,0,none⟩,ck,[⟨bk,90,ck*1,flatMap cK (p.keys.eraseIdx (aL (t.pg (aI t k h t.root)) k))⟩],some ⟨bi,0,none⟩,ci,[⟨bi,3,ci*1,flatMap cI (p.kids.eraseIdx (aL (t.pg (aI t k h t.root)) k))⟩]⟩:aX),some ⟨bx,0,none⟩,cap,_,by rw[length_set];rfl,bM xH xO,fun x hx=>?_,?_,rfl⟩
 ·rcases mem_or_eq_of_mem_set hx with hx|rfl
  ·exact aV x hx
  exact⟨bM (by show(p.keys.eraseIdx (aL (t.pg (aI t k h t.root)) k)).length≤ck;rw[length_eraseIdx_of_lt ha];omega) xP,bM (by show(p.kids.eraseIdx (aL (t.pg (aI t k h t.root)) k)).length≤ci;rw[length_eraseIdx_of_lt qf];omega) G6⟩
 rw[map_set,hL];show _=t.ag.set (aI t k h t.root).toNat (kH (t.pg (aI t k h t.root)) (aL (t.pg (aI t k h t.root)) k));rw[←gW]
theorem abZ(t:aF)(h:Nat)(k:K)(hb:∀p∈t.ag,p.keys.length≤maxLen∧p.kids.length≤maxLen)(E:gD t=0→Valid t h):VP Tryz.prog G 113 [.agg (cT t),au 1 cB k] (.dh [.agg (cT (rJ t k h).1),ae (rJ t k h).2]):=(abY t h k hb E).cover fun r S hr=>hr.view

def Wx(L:List aX)(b:Nat)(root:Int)(j:Nat)(p:cW)(r:D)(S:List ah):Prop:=r = .dh [.list 1 ((gM p).flatMap cB) (gM p).length,ae (L.length:Nat)]∧∃L' ad cap Sx,ue L' ad cap Sx∧(∀o∈L',rp o)∧L'.map aX.p=(L.map aX.p).set j (er p L.length)++[cr p]∧S=⟨b,75,2,[aN ad (length L') cap,ae root]⟩::(Sx++L'.flatMap bO)
theorem OX:(Tryz.prog.info? 146).map (fun i=>(i.zero,i.size,i.bytes))=some (some (.agg #[.bool false,.slice none 0 0,.slice none 0 0,.slice none 0 0,.int .i64 0]),5,88):=by kernel_rfl
theorem adL(L:List aX)(b:Nat)(root i:Int)(ad:Option Addr)(cap:Nat)(Sx:List ah)(hi:0≤i∧i<L.length)(hn:L.length≤10000)(dX:ue L ad cap Sx)(aV:∀o∈L,rp o)(h5:(L[i.toNat]'w4).p.keys.length=5)(dU:(L[i.toNat]'w4).p.leaf=true→(L[i.toNat]'w4).p.kids.length=5)(yw:(L[i.toNat]'w4).p.leaf=false→(L[i.toNat]'w4).p.kids.length=6)(HQ:∀k∈(L[i.toNat]'w4).p.keys,k.length≤100)(hh:(L[i.toNat]'w4).p.high.length≤100) :
 VC Tryz.prog G 94 [cU b,ae i] (⟨b,75,2,[aN ad L.length cap,ae root]⟩::(Sx++L.flatMap bO)) (Wx L b root i.toNat (L[i.toNat]'w4).p):=by
 refine VC.body func94 rfl ntmps94 aQ fun X0 w0 bf=>?_;have cY:=dN;have hj:i.toNat<L.length:=(by omega)
 obtain⟨bx,rfl,gg,xO,rfl⟩:=dX.pos w4;have ye:=aV _ (getElem_mem hj);obtain⟨o,ho⟩:∃o,o=L[i.toNat]:=⟨_,rfl⟩
 rw[←ho] at ye h5 dU yw HQ hh ⊢;rcases o with ⟨p,ak,ck,sk,ai,ci,si⟩
 obtain⟨dL,j9⟩:nR p.keys ak ck sk∧mZ p.kids ai ci si:=ye;change p.keys.length=5 at h5;change p.leaf=true→p.kids.length=5 at dU;change p.leaf=false→p.kids.length=6 at yw;change ∀k∈p.keys,k.length≤100 at HQ;change p.high.length≤100 at hh;have Li:(L.flatMap bO).Perm (sk++(si++((L.eraseIdx i.toNat).flatMap bO))):=(by have:=y6 bO hj;rw[←ho] at this;exact this.trans (by rw[show bO ⟨p,ak,ck,sk,ai,ci,si⟩=sk++si from rfl,append_assoc]))
 refine CD.perm (Perm.cons _ (Perm.cons _ Li)) ?_;have uj:gM p=p.keys[2]'w4:=ze h5;have YO:(p.keys[2]'w4).length≤100:=HQ _ (getElem_mem _);refine af [0,1] ?_;refine aA 5 ?_;refine bQ (dw 5 (h:=by first|exact .l (j:=i.toNat) (Int.toNat_of_nonneg hi.1).symm hj|exact .r (j:=i.toNat) (Int.toNat_of_nonneg hi.1).symm hj)) ?_;refine bQ (cR (mk:=Op.load 146) rfl ot (dy (k:=1) (ls:=L) (i:=i.toNat) hU rfl rfl rfl isAgg146 sizeOf146 hj)) ?_;refine OD.alloc (ds:=[_,_,_,_,_]) ap rfl rfl zeroValue146 rfl (fun b6=>?_);refine aM 0 [_,_,_,_,_] sizeOf146 ?_;refine an 98 [0,1,6] ?_;refine CD.seq ?_;refine CD.wk (Wk.cover (A:=⟨b6,146,5,gO L[i.toNat]⟩) (R:=⟨b,75,2,[aN (some ⟨bx,0,none⟩) L.length cap,ae root]⟩::⟨bx,146,cap*5,flatMap gO L⟩::((L.eraseIdx i.toNat).flatMap bO)) (Sd:=sk++si) (cs':=cP p) (Perm.cons _ (Perm.cons _ (Perm.cons _ (by rw[←append_assoc];exact perm_append_comm)))) (by show gE _ (gO L[i.toNat]) _;rw[←ho];exact⟨eO,lq dL (cm gi _) (fun B hB=>mem_append_left _ hB),lq j9 (cm eG _) (fun B hB=>mem_append_right _ hB),eO,eO,trivial⟩)) ?_;refine dG 7 ?_;refine OD.alloc (ds:=[_,_,_,_,_]) ap rfl rfl zeroValue146 rfl (fun b7=>?_);refine aM 0 [_,_,_,_,_] sizeOf146 ?_;refine an 98 [0,1,6,7] ?_;refine cM [0,1,6,7,8] ?_
 refine aP 2 ?_ (h:=by exact(oe (mk:=Op.indexAddr 144) rfl ot bP (by first|exact oU runUnderlying144 sizeOf90 (j:=2) rfl w4|exact oV runUnderlying144 sizeOf90 (j:=2) rfl w4)));refine bD ?_;refine CD.cut (fun aD=>∃(b7:Nat),∃(O:Option Addr),∃(U:Nat),∃(E:List ah),∃(Z:Option Addr),∃(iy:Nat),∃(I:List ah),∃(jk:Option Addr),∃(e9:Nat),∃(iR:List ah),(nR (cr p).keys O U E)∧(mZ (cr p).kids Z iy I)∧(mZ (er p L.length).kids jk e9 iR)∧aD=(⟨98,[(0,cU b),(1,ae i),(6,cU b6),(7,cU b7),(8,.list 1 ((gM p).flatMap cB) (gM p).length)],(⟨b7,146,5,[bI p.leaf,aN O (cr p).keys.length U,aN Z (cr p).kids.length iy,au 1 cB p.high,ae p.next]⟩::⟨b6,146,5,[bI p.leaf,au 1 cK p.keys,aN jk (er p L.length).kids.length e9,au 1 cB p.high,ae p.next]⟩::⟨b,75,2,[aN (some ⟨bx,0,none⟩) L.length cap,ae root]⟩::⟨bx,146,cap*5,flatMap gO L⟩::(iR++(I++(E++((L.eraseIdx i.toNat).flatMap bO)))))⟩:St)) ?_ ?_
 ·refine af [0,1,6,7,8,28] ?_;refine ax ?_ ?_<;>intro aO bA
  ·have fR:p.leaf=true:=aO;have dU:=dU fR;refine CD.cut (fun aD=>∃(O:Option Addr),∃(U:Nat),∃(E:List ah),∃(Z:Option Addr),∃(iy:Nat),∃(I:List ah),(nR (cr p).keys O U E)∧(mZ (cr p).kids Z iy I)∧aD=(⟨98,[(0,cU b),(1,ae i),(6,cU b6),(7,cU b7),(8,.list 1 ((gM p).flatMap cB) (gM p).length)],(⟨b7,146,5,[bI p.leaf,aN O (cr p).keys.length U,aN Z (cr p).kids.length iy,au 1 cB p.high,ae p.next]⟩::⟨b6,146,5,[bI p.leaf,au 1 cK p.keys,au 1 cI p.kids,au 1 cB p.high,ae p.next]⟩::⟨b,75,2,[aN (some ⟨bx,0,none⟩) L.length cap,ae root]⟩::⟨bx,146,cap*5,flatMap gO L⟩::(I++(E++((L.eraseIdx i.toNat).flatMap bO))))⟩:St)) ?_ ?_
   ·refine gX 10 (av (take 2 (drop 1 _))) ?_ (fun _ h=>(Sublist.map _ ((take_sublist _ _).trans (drop_sublist _ _))).subset h);refine aC 0 rfl (dF 1) ?_;refine aC 4 rfl (dF 2) ?_;refine dH.later rfl ?_;refine AD.two (i:=1) (j:=5) aB ?_ ?_
    ·refine at_ rfl (dK 1) ?_;refine c9 2 rfl (eE (l:=2) rfl ot ⟨_,bP⟩ trivial GX) ?_;refine AD.two (i:=3) (j:=5) aB ?_ ?_
     ·have BY:VC Tryz.prog G 140 [.list 1 ((p.keys.drop 2).flatMap cK) (p.keys.drop 2).length] [] (fun r S=>∃ad cap,r=aN ad (cr p).keys.length cap∧nR (cr p).keys ad cap S):=(by rw[show(p.keys.drop 2)=(cr p).keys from vD];exact wc _ MJ)
      refine bB.call rfl ap rfl rfl rfl call140 BY ⟨ot,trivial⟩ (fa _) iD ?_;rintro _ DH ⟨DI,DJ,rfl,Cv⟩;refine AD.perm (kf (A:=[_,_,_,_])) ?_;refine c9 8 rfl (dF 1) ?_;refine AD.one (i:=5) aB ?_;refine at_ rfl (dK 1) ?_;refine c9 6 rfl (eE (l:=2) rfl ot ⟨_,bP⟩ trivial Ac) ?_;refine AD.one (i:=7) aB ?_;have BZ:VC Tryz.prog G 131 [.list 1 ((p.kids.drop 2).flatMap cI) (p.kids.drop 2).length] [] (fun r S=>∃ad cap,r=aN ad (cr p).kids.length cap∧mZ (cr p).kids ad cap S):=(by rw[show(p.kids.drop 2)=(cr p).kids from vC];exact ru _ MH)
      refine bB.call rfl ap rfl rfl rfl call131 BZ ⟨ot,trivial⟩ (fa _) iD ?_;rintro _ DK ⟨DL,DM,rfl,Cw⟩;refine AD.perm (kf (A:=[_,_,_,_])) ?_;refine AD.one (i:=9) aB ?_;refine dP 0 [_,_,_,_,_] sizeOf144 ?_;refine fw ?_;refine aG 1 ?_;refine aM 0 [_,_,_,_,_] sizeOf70 ?_;refine an 98 [0,1,6,7,8] ?_;refine⟨_,(aJ (h:=by repeat (first|exact trivial|refine⟨w7,?_⟩))),DI,DJ,DH,DL,DM,DK,Cv,Cw,rfl⟩
     refine at_ rfl (dK 1) ?_;refine c9 6 rfl (eE (l:=2) rfl ot ⟨_,bP⟩ trivial Ac) ?_;refine AD.one (i:=3) aB ?_;have BY:VC Tryz.prog G 140 [.list 1 ((p.keys.drop 2).flatMap cK) (p.keys.drop 2).length] [] (fun r S=>∃ad cap,r=aN ad (cr p).keys.length cap∧nR (cr p).keys ad cap S):=(by rw[show(p.keys.drop 2)=(cr p).keys from vD];exact wc _ MJ)
     refine bB.call rfl ap rfl rfl rfl call140 BY ⟨ot,trivial⟩ (fa _) iD ?_;rintro _ DH ⟨DI,DJ,rfl,Cv⟩;refine AD.perm (kf (A:=[_,_,_,_])) ?_;refine c9 8 rfl (dF 1) ?_;refine AD.one (i:=7) aB ?_;have BZ:VC Tryz.prog G 131 [.list 1 ((p.kids.drop 2).flatMap cI) (p.kids.drop 2).length] [] (fun r S=>∃ad cap,r=aN ad (cr p).kids.length cap∧mZ (cr p).kids ad cap S):=(by rw[show(p.kids.drop 2)=(cr p).kids from vC];exact ru _ MH)
     refine bB.call rfl ap rfl rfl rfl call131 BZ ⟨ot,trivial⟩ (fa _) iD ?_;rintro _ DK ⟨DL,DM,rfl,Cw⟩;refine AD.perm (kf (A:=[_,_,_,_])) ?_;refine AD.one (i:=9) aB ?_;refine dP 0 [_,_,_,_,_] sizeOf144 ?_;refine fw ?_;refine aG 1 ?_;refine aM 0 [_,_,_,_,_] sizeOf70 ?_;refine an 98 [0,1,6,7,8] ?_;refine⟨_,(aJ (h:=by repeat (first|exact trivial|refine⟨w7,?_⟩))),DI,DJ,DH,DL,DM,DK,Cv,Cw,rfl⟩
    refine at_ rfl (dK 1) ?_;refine c9 6 rfl (eE (l:=2) rfl ot ⟨_,bP⟩ trivial Ac) ?_;refine AD.one (i:=1) aB ?_;refine at_ rfl (dK 1) ?_;refine c9 2 rfl (eE (l:=2) rfl ot ⟨_,bP⟩ trivial GX) ?_;refine AD.one (i:=3) aB ?_;have BY:VC Tryz.prog G 140 [.list 1 ((p.keys.drop 2).flatMap cK) (p.keys.drop 2).length] [] (fun r S=>∃ad cap,r=aN ad (cr p).keys.length cap∧nR (cr p).keys ad cap S):=(by rw[show(p.keys.drop 2)=(cr p).keys from vD];exact wc _ MJ)
    refine bB.call rfl ap rfl rfl rfl call140 BY ⟨ot,trivial⟩ (fa _) iD ?_;rintro _ DH ⟨DI,DJ,rfl,Cv⟩;refine AD.perm (kf (A:=[_,_,_,_])) ?_;refine c9 8 rfl (dF 1) ?_;refine AD.one (i:=7) aB ?_;have BZ:VC Tryz.prog G 131 [.list 1 ((p.kids.drop 2).flatMap cI) (p.kids.drop 2).length] [] (fun r S=>∃ad cap,r=aN ad (cr p).kids.length cap∧mZ (cr p).kids ad cap S):=(by rw[show(p.kids.drop 2)=(cr p).kids from vC];exact ru _ MH)
    refine bB.call rfl ap rfl rfl rfl call131 BZ ⟨ot,trivial⟩ (fa _) iD ?_;rintro _ DK ⟨DL,DM,rfl,Cw⟩;refine AD.perm (kf (A:=[_,_,_,_])) ?_;refine AD.one (i:=9) aB ?_;refine dP 0 [_,_,_,_,_] sizeOf144 ?_;refine fw ?_;refine aG 1 ?_;refine aM 0 [_,_,_,_,_] sizeOf70 ?_;refine an 98 [0,1,6,7,8] ?_;refine⟨_,(aJ (h:=by repeat (first|exact trivial|refine⟨w7,?_⟩))),DI,DJ,DH,DL,DM,DK,Cv,Cw,rfl⟩
   rintro _ ⟨O,U,E,Z,iy,I,qR,Cx,rfl⟩;refine dG 2 ?_;refine bQ (eE (l:=0) (h:=2) rfl ot trivial ⟨_,bP⟩ (by first|exact kO gi (fun h=>by cases h) runUnderlying70 sizeOf3 w4|exact kO eG (fun h=>by cases h) runUnderlying70 sizeOf3 w4|exact nO (fun h=>by cases h) runUnderlying70 sizeOf3 w4|exact nk (fun _=>rfl) (fun h=>by cases h) runUnderlying70 sizeOf3 w4 w4)) ?_;have ait:VC Tryz.prog G 131 [.list 1 ((p.kids.take 2).flatMap cI) (p.kids.take 2).length] [] (fun r S=>∃ad cap,r=aN ad (er p L.length).kids.length cap∧mZ (er p L.length).kids ad cap S):=(by rw[show(p.kids.take 2)=(er p L.length).kids from GV];exact ru _ (by rw[←show(p.kids.take 2)=(er p L.length).kids from GV];simp only[length_take,length_drop];omega))
   refine OD.call ap rfl rfl rfl call131 ait ⟨ot,trivial⟩ (fa _) ?_;rintro _ S42 ⟨a42,c42,rfl,ak0⟩;refine OD.perm (kf (A:=[_,_,_,_])) ?_;refine aG 1 ?_;refine aM 1 [_,_,_,_,_] sizeOf70 ?_;refine an 98 [0,1,6,7,8] ?_;refine⟨_,(aJ (h:=by repeat (first|exact trivial|refine⟨w7,?_⟩))),b7,O,U,E,Z,iy,I,a42,c42,S42,qR,Cx,ak0,rfl⟩
  have fR:p.leaf=false:=aO;have yw:=yw fR;refine CD.cut (fun aD=>∃(O:Option Addr),∃(U:Nat),∃(E:List ah),∃(Z:Option Addr),∃(iy:Nat),∃(I:List ah),(nR (cr p).keys O U E)∧(mZ (cr p).kids Z iy I)∧aD=(⟨98,[(0,cU b),(1,ae i),(6,cU b6),(7,cU b7),(8,.list 1 ((gM p).flatMap cB) (gM p).length)],(⟨b7,146,5,[bI p.leaf,aN O (cr p).keys.length U,aN Z (cr p).kids.length iy,au 1 cB p.high,ae p.next]⟩::⟨b6,146,5,[bI p.leaf,au 1 cK p.keys,au 1 cI p.kids,au 1 cB p.high,ae p.next]⟩::⟨b,75,2,[aN (some ⟨bx,0,none⟩) L.length cap,ae root]⟩::⟨bx,146,cap*5,flatMap gO L⟩::(I++(E++((L.eraseIdx i.toNat).flatMap bO))))⟩:St)) ?_ ?_
  ·refine gX 10 (av (take 2 (drop 1 _))) ?_ (fun _ h=>(Sublist.map _ ((take_sublist _ _).trans (drop_sublist _ _))).subset h);refine aC 0 rfl (dF 1) ?_;refine aC 4 rfl (dF 2) ?_;refine dH.later rfl ?_;refine AD.two (i:=1) (j:=5) aB ?_ ?_
   ·refine at_ rfl (dK 1) ?_;refine c9 2 rfl (eE (l:=3) rfl ot ⟨_,bP⟩ trivial GX) ?_;refine AD.two (i:=3) (j:=5) aB ?_ ?_
    ·have B0:VC Tryz.prog G 140 [.list 1 ((p.keys.drop 3).flatMap cK) (p.keys.drop 3).length] [] (fun r S=>∃ad cap,r=aN ad (cr p).keys.length cap∧nR (cr p).keys ad cap S):=(by rw[show(p.keys.drop 3)=(cr p).keys from vD];exact wc _ MI)
     refine bB.call rfl ap rfl rfl rfl call140 B0 ⟨ot,trivial⟩ (fa _) iD ?_;rintro _ DN ⟨DO,DP,rfl,Cy⟩;refine AD.perm (kf (A:=[_,_,_,_])) ?_;refine c9 8 rfl (dF 1) ?_;refine AD.one (i:=5) aB ?_;refine at_ rfl (dK 1) ?_;refine c9 6 rfl (eE (l:=3) rfl ot ⟨_,bP⟩ trivial Ac) ?_;refine AD.one (i:=7) aB ?_;have B3:VC Tryz.prog G 131 [.list 1 ((p.kids.drop 3).flatMap cI) (p.kids.drop 3).length] [] (fun r S=>∃ad cap,r=aN ad (cr p).kids.length cap∧mZ (cr p).kids ad cap S):=(by rw[show(p.kids.drop 3)=(cr p).kids from vC];exact ru _ MG)
     refine bB.call rfl ap rfl rfl rfl call131 B3 ⟨ot,trivial⟩ (fa _) iD ?_;rintro _ DQ ⟨a51,DR,rfl,Cz⟩;refine AD.perm (kf (A:=[_,_,_,_])) ?_;refine AD.one (i:=9) aB ?_;refine dP 0 [_,_,_,_,_] sizeOf144 ?_;refine fw ?_;refine aG 1 ?_;refine aM 0 [_,_,_,_,_] sizeOf70 ?_;refine an 98 [0,1,6,7,8] ?_;refine⟨_,(aJ (h:=by repeat (first|exact trivial|refine⟨w7,?_⟩))),DO,DP,DN,a51,DR,DQ,Cy,Cz,rfl⟩
    refine at_ rfl (dK 1) ?_;refine c9 6 rfl (eE (l:=3) rfl ot ⟨_,bP⟩ trivial Ac) ?_;refine AD.one (i:=3) aB ?_;have B0:VC Tryz.prog G 140 [.list 1 ((p.keys.drop 3).flatMap cK) (p.keys.drop 3).length] [] (fun r S=>∃ad cap,r=aN ad (cr p).keys.length cap∧nR (cr p).keys ad cap S):=(by rw[show(p.keys.drop 3)=(cr p).keys from vD];exact wc _ MI)
    refine bB.call rfl ap rfl rfl rfl call140 B0 ⟨ot,trivial⟩ (fa _) iD ?_;rintro _ DN ⟨DO,DP,rfl,Cy⟩;refine AD.perm (kf (A:=[_,_,_,_])) ?_;refine c9 8 rfl (dF 1) ?_;refine AD.one (i:=7) aB ?_;have B3:VC Tryz.prog G 131 [.list 1 ((p.kids.drop 3).flatMap cI) (p.kids.drop 3).length] [] (fun r S=>∃ad cap,r=aN ad (cr p).kids.length cap∧mZ (cr p).kids ad cap S):=(by rw[show(p.kids.drop 3)=(cr p).kids from vC];exact ru _ MG)
    refine bB.call rfl ap rfl rfl rfl call131 B3 ⟨ot,trivial⟩ (fa _) iD ?_;rintro _ DQ ⟨a51,DR,rfl,Cz⟩;refine AD.perm (kf (A:=[_,_,_,_])) ?_;refine AD.one (i:=9) aB ?_;refine dP 0 [_,_,_,_,_] sizeOf144 ?_;refine fw ?_;refine aG 1 ?_;refine aM 0 [_,_,_,_,_] sizeOf70 ?_;refine an 98 [0,1,6,7,8] ?_;refine⟨_,(aJ (h:=by repeat (first|exact trivial|refine⟨w7,?_⟩))),DO,DP,DN,a51,DR,DQ,Cy,Cz,rfl⟩
   refine at_ rfl (dK 1) ?_;refine c9 6 rfl (eE (l:=3) rfl ot ⟨_,bP⟩ trivial Ac) ?_;refine AD.one (i:=1) aB ?_;refine at_ rfl (dK 1) ?_;refine c9 2 rfl (eE (l:=3) rfl ot ⟨_,bP⟩ trivial GX) ?_;refine AD.one (i:=3) aB ?_;have B0:VC Tryz.prog G 140 [.list 1 ((p.keys.drop 3).flatMap cK) (p.keys.drop 3).length] [] (fun r S=>∃ad cap,r=aN ad (cr p).keys.length cap∧nR (cr p).keys ad cap S):=(by rw[show(p.keys.drop 3)=(cr p).keys from vD];exact wc _ MI)
   refine bB.call rfl ap rfl rfl rfl call140 B0 ⟨ot,trivial⟩ (fa _) iD ?_;rintro _ DN ⟨DO,DP,rfl,Cy⟩;refine AD.perm (kf (A:=[_,_,_,_])) ?_;refine c9 8 rfl (dF 1) ?_;refine AD.one (i:=7) aB ?_;have B3:VC Tryz.prog G 131 [.list 1 ((p.kids.drop 3).flatMap cI) (p.kids.drop 3).length] [] (fun r S=>∃ad cap,r=aN ad (cr p).kids.length cap∧mZ (cr p).kids ad cap S):=(by rw[show(p.kids.drop 3)=(cr p).kids from vC];exact ru _ MG)
   refine bB.call rfl ap rfl rfl rfl call131 B3 ⟨ot,trivial⟩ (fa _) iD ?_;rintro _ DQ ⟨a51,DR,rfl,Cz⟩;refine AD.perm (kf (A:=[_,_,_,_])) ?_;refine AD.one (i:=9) aB ?_;refine dP 0 [_,_,_,_,_] sizeOf144 ?_;refine fw ?_;refine aG 1 ?_;refine aM 0 [_,_,_,_,_] sizeOf70 ?_;refine an 98 [0,1,6,7,8] ?_;refine⟨_,(aJ (h:=by repeat (first|exact trivial|refine⟨w7,?_⟩))),DO,DP,DN,a51,DR,DQ,Cy,Cz,rfl⟩
  rintro _ ⟨O,U,E,Z,iy,I,qR,Cx,rfl⟩;refine dG 2 ?_;refine bQ (eE (l:=0) (h:=3) rfl ot trivial ⟨_,bP⟩ (by first|exact kO gi (fun h=>by cases h) runUnderlying70 sizeOf3 w4|exact kO eG (fun h=>by cases h) runUnderlying70 sizeOf3 w4|exact nO (fun h=>by cases h) runUnderlying70 sizeOf3 w4|exact nk (fun _=>rfl) (fun h=>by cases h) runUnderlying70 sizeOf3 w4 w4)) ?_;have aiu:VC Tryz.prog G 131 [.list 1 ((p.kids.take 3).flatMap cI) (p.kids.take 3).length] [] (fun r S=>∃ad cap,r=aN ad (er p L.length).kids.length cap∧mZ (er p L.length).kids ad cap S):=(by rw[show(p.kids.take 3)=(er p L.length).kids from GV];exact ru _ (by rw[←show(p.kids.take 3)=(er p L.length).kids from GV];simp only[length_take,length_drop];omega))
  refine OD.call ap rfl rfl rfl call131 aiu ⟨ot,trivial⟩ (fa _) ?_;rintro _ HD ⟨a57,c57,rfl,GA⟩;refine OD.perm (kf (A:=[_,_,_,_])) ?_;refine aG 1 ?_;refine aM 1 [_,_,_,_,_] sizeOf70 ?_;refine an 98 [0,1,6,7,8] ?_;refine⟨_,(aJ (h:=by repeat (first|exact trivial|refine⟨w7,?_⟩))),b7,O,U,E,Z,iy,I,a57,c57,HD,qR,Cx,GA,rfl⟩
 rintro _ ⟨b7,O,U,E,Z,iy,I,jk,e9,iR,qR,Cx,ak1,rfl⟩;refine aA 2 ?_;refine bQ (eE (l:=0) (h:=2) rfl ot trivial ⟨_,bP⟩ (by first|exact kO gi (fun h=>by cases h) runUnderlying144 sizeOf90 w4|exact kO eG (fun h=>by cases h) runUnderlying144 sizeOf90 w4|exact nO (fun h=>by cases h) runUnderlying144 sizeOf90 w4|exact nk (fun _=>rfl) (fun h=>by cases h) runUnderlying144 sizeOf90 w4 w4)) ?_;have aiv:VC Tryz.prog G 140 [.list 1 ((p.keys.take 2).flatMap cK) (p.keys.take 2).length] [] (fun r S=>∃ad cap,r=aN ad (er p L.length).keys.length cap∧nR (er p L.length).keys ad cap S):=(by rw[show(p.keys.take 2)=(er p L.length).keys from rfl];exact wc _ (by rw[←show(p.keys.take 2)=(er p L.length).keys from rfl];simp only[length_take,length_drop];omega))
 refine OD.call ap rfl rfl rfl call140 aiv ⟨ot,trivial⟩ (fa _) ?_;rintro _ jA ⟨jT,jU,rfl,ak2⟩;refine OD.perm (kf (A:=[_,_,_,_])) ?_;refine aG 1 ?_;refine aM 1 [_,_,_,_,_] sizeOf144 ?_;refine an 98 [0,1,6,7,8] ?_;refine CD.cut (fun aD=>(True)∧aD=(⟨98,[(0,cU b),(1,ae i),(6,cU b6),(7,cU b7),(8,.list 1 ((gM p).flatMap cB) (gM p).length)],(⟨b7,146,5,[bI p.leaf,aN O (cr p).keys.length U,aN Z (cr p).kids.length iy,au 1 cB p.high,ae p.next]⟩::⟨b6,146,5,[bI p.leaf,aN jT (er p L.length).keys.length jU,aN jk (er p L.length).kids.length e9,.list 1 ((gM p).flatMap cB) (gM p).length,ae (L.length:Nat)]⟩::⟨b,75,2,[aN (some ⟨bx,0,none⟩) L.length cap,ae root]⟩::⟨bx,146,cap*5,flatMap gO L⟩::(jA++(iR++(I++(E++((L.eraseIdx i.toNat).flatMap bO))))))⟩:St)) ?_ ?_
 ·refine gX 9 (av (take 1 (drop 0 _))) ?_ (fun _ h=>(Sublist.map _ ((take_sublist _ _).trans (drop_sublist _ _))).subset h);refine aC 0 rfl bG ?_;refine aC 2 rfl bG ?_;refine aC 3 rfl qg ?_;refine aC 4 rfl (dF 0) ?_;refine dH.later rfl ?_;refine AD.two (i:=1) (j:=5) aB ?_ ?_
  ·refine qk call90 (mq (gM p) (by rw[uj];omega)) ?_;refine c9 7 rfl (dF 3) ?_;refine AD.two (i:=5) (j:=8) aB ?_ ?_
   ·refine at_ rfl (dK 2) ?_;refine c9 6 rfl x4 ?_;refine AD.one (i:=8) aB ?_;refine dP 1 [_,_,_,_,_] sizeOf90 ?_;refine fw ?_;refine aG 1 ?_;refine aM 1 [_,_,_,_,_] sizeOf3 ?_;refine an 98 [0,1,6,7,8] ?_;refine⟨_,(aJ (h:=by repeat (first|exact trivial|refine⟨w7,?_⟩))),trivial,rfl⟩
   refine dP 1 [_,_,_,_,_] sizeOf90 ?_;refine AD.one (i:=5) aB ?_;refine at_ rfl (dK 2) ?_;refine c9 6 rfl x4 ?_;refine fw ?_;refine aG 1 ?_;refine aM 1 [_,_,_,_,_] sizeOf3 ?_;refine an 98 [0,1,6,7,8] ?_;refine⟨_,(aJ (h:=by repeat (first|exact trivial|refine⟨w7,?_⟩))),trivial,rfl⟩
  refine at_ rfl (dK 2) ?_;refine c9 6 rfl x4 ?_;refine AD.one (i:=1) aB ?_;refine qk call90 (mq (gM p) (by rw[uj];omega)) ?_;refine c9 7 rfl (dF 3) ?_;refine AD.one (i:=8) aB ?_;refine dP 1 [_,_,_,_,_] sizeOf90 ?_;refine fw ?_;refine aG 1 ?_;refine aM 1 [_,_,_,_,_] sizeOf3 ?_;refine an 98 [0,1,6,7,8] ?_;refine⟨_,(aJ (h:=by repeat (first|exact trivial|refine⟨w7,?_⟩))),trivial,rfl⟩
 rintro _ ⟨_,rfl⟩;refine CD.seq ?_;refine nD 6 [0,7,8,76,77,78] ?_;refine bD ?_;refine bQ (dw 5 (h:=by first|exact .l (j:=i.toNat) (Int.toNat_of_nonneg hi.1).symm hj|exact .r (j:=i.toNat) (Int.toNat_of_nonneg hi.1).symm hj)) ?_;refine OD.storeAt (k:=3) (cs':=flatMap gO (L.set i.toNat (⟨er p L.length,jT,jU,jA,jk,e9,iR⟩:aX))) ap rfl rfl ot rfl rfl ot rfl rfl sizeOf146 rfl (by show 0+i.toNat*5+5≤(flatMap gO L).length;rw[cm hU];omega) (by show c8 (L.flatMap gO) (0+i.toNat*5) (gO (⟨er p L.length,jT,jU,jA,jk,e9,iR⟩:aX))=_;rw[Nat.zero_add];exact oq hU L (⟨er p L.length,jT,jU,jA,jk,e9,iR⟩:aX) hj) ?_;refine an 98 [0,7,8] ?_
 refine CD.cut (fun aD=>∃(pK:Nat),∃(oH:Nat),(((L.set i.toNat (⟨er p L.length,jT,jU,jA,jk,e9,iR⟩:aX))++[(⟨cr p,O,U,E,Z,iy,I⟩:aX)]).length≤oH)∧(oH≤maxLen)∧aD=(⟨98,[(0,cU b),(8,.list 1 ((gM p).flatMap cB) (gM p).length)],(⟨pK,146,oH*5,flatMap gO ((L.set i.toNat (⟨er p L.length,jT,jU,jA,jk,e9,iR⟩:aX))++[(⟨cr p,O,U,E,Z,iy,I⟩:aX)])⟩::⟨b7,146,5,[bI p.leaf,aN O (cr p).keys.length U,aN Z (cr p).kids.length iy,au 1 cB p.high,ae p.next]⟩::⟨b6,146,5,[bI p.leaf,aN jT (er p L.length).keys.length jU,aN jk (er p L.length).kids.length e9,.list 1 ((gM p).flatMap cB) (gM p).length,ae (L.length:Nat)]⟩::⟨b,75,2,[aN (some ⟨pK,0,none⟩) ((L.set i.toNat (⟨er p L.length,jT,jU,jA,jk,e9,iR⟩:aX))++[(⟨cr p,O,U,E,Z,iy,I⟩:aX)]).length oH,ae root]⟩::(jA++(iR++(I++(E++((L.eraseIdx i.toNat).flatMap bO))))))⟩:St)) ?_ ?_
 ·refine gX 8 (av (take 2 _)) ?_ (fun _ h=>(Sublist.map _ (take_sublist _ _)).subset h);refine aC 0 rfl bG ?_;refine aC 1 rfl bG ?_;refine aC 2 rfl qg ?_;refine aC 3 rfl (dF 0) ?_;refine aC 5 rfl (Lu 0 [_,_,_,_,_]) ?_;refine dH.later rfl ?_;refine AD.two (i:=4) (j:=6) aB ?_ ?_
  ·refine at_ rfl (cR (mk:=Op.load 73) rfl ot (za (k:=2) (d:=aN (some ⟨bx,0,none⟩) (L.set i.toNat (⟨er p L.length,jT,jU,jA,jk,e9,iR⟩:aX)).length cap) rfl rfl isAgg73 (by rw[length_set];rfl))) ?_;refine AD.one (i:=6) aB ?_;refine nF (cu 0 [_]) [.bool false,.slice none 0 0,.slice none 0 0,.slice none 0 0,.int .i64 0] [_,_,_,_,_] zeroValue146 runUnderlying73 sizeOf146 (fun b86=>?_);refine nG 0 86 5 1 ?_;refine AD.one (i:=7) aB ?_;refine bB.eB (ls:=(L.set i.toNat (⟨er p L.length,jT,jU,jA,jk,e9,iR⟩:aX))) (new:=[(⟨cr p,O,U,E,Z,iy,I⟩:aX)]) (Sq:=[⟨bx,146,cap*5,flatMap gO (L.set i.toNat (⟨er p L.length,jT,jU,jA,jk,e9,iR⟩:aX))⟩]) hU FB rfl ap rfl rfl underlying73 OX rfl w8 ot (bM xH xO) (mM (k:=3) rfl) ot bq (by simp only[maxLen,length_set,length_cons,length_nil] at *;omega) (by simp only[length_set,length_cons,length_nil] at *;omega) (hT:=by intro x0 fH;have fH:x0∈[b7,b6]:=fH;show x0∈(b7::b6::_:List Nat);simp only[mem_cons,not_mem_nil,or_false] at fH ⊢;omega) (fun pK oH CA CB=>?_);refine fw ?_;refine aG 2 ?_;refine aM 3 [_,_] sizeOf73 ?_;refine an 98 [0,8] ?_;refine⟨_,(aJ (h:=by repeat (first|exact trivial|refine⟨w7,?_⟩))),pK,oH,CA,CB,rfl⟩
  refine nF (cu 0 [_]) [.bool false,.slice none 0 0,.slice none 0 0,.slice none 0 0,.int .i64 0] [_,_,_,_,_] zeroValue146 runUnderlying73 sizeOf146 (fun b86=>?_);refine nG 0 86 5 1 ?_;refine AD.one (i:=4) aB ?_;refine at_ rfl (cR (mk:=Op.load 73) rfl ot (za (k:=2) (d:=aN (some ⟨bx,0,none⟩) (L.set i.toNat (⟨er p L.length,jT,jU,jA,jk,e9,iR⟩:aX)).length cap) rfl rfl isAgg73 (by rw[length_set];rfl))) ?_;refine AD.one (i:=7) aB ?_;refine bB.eB (ls:=(L.set i.toNat (⟨er p L.length,jT,jU,jA,jk,e9,iR⟩:aX))) (new:=[(⟨cr p,O,U,E,Z,iy,I⟩:aX)]) (Sq:=[⟨bx,146,cap*5,flatMap gO (L.set i.toNat (⟨er p L.length,jT,jU,jA,jk,e9,iR⟩:aX))⟩]) hU FB rfl ap rfl rfl underlying73 OX rfl w8 ot (bM xH xO) (mM (k:=3) rfl) ot bq (by simp only[maxLen,length_set,length_cons,length_nil] at *;omega) (by simp only[length_set,length_cons,length_nil] at *;omega) (hT:=by intro x0 fH;have fH:x0∈[b7,b6]:=fH;show x0∈(b7::b6::_:List Nat);simp only[mem_cons,not_mem_nil,or_false] at fH ⊢;omega) (fun pK oH CA CB=>?_);refine fw ?_;refine aG 2 ?_;refine aM 3 [_,_] sizeOf73 ?_;refine an 98 [0,8] ?_;refine⟨_,(aJ (h:=by repeat (first|exact trivial|refine⟨w7,?_⟩))),pK,oH,CA,CB,rfl⟩
 rintro _ ⟨pK,oH,CA,CB,rfl⟩;refine CD.seq ?_;refine gX 9 (av _) ?_ (fun _ h=>h);refine aC 0 rfl bG ?_;refine aC 2 rfl bG ?_;refine aC 3 rfl qg ?_;refine aC 4 rfl (dF 0) ?_;refine aC 5 rfl (dK 3) ?_;refine aC 6 rfl x4 ?_;refine aC 7 rfl (dj (r:=.int .i64 (L.length:Nat)) rfl ot bP (gN (by rw[length_append,length_set];exact(show IntKind.wrap .i64 (((L.length+[(⟨cr p,O,U,E,Z,iy,I⟩:aX)].length:Nat):Int)-1)=_ from by rw[show(((L.length+[(⟨cr p,O,U,E,Z,iy,I⟩:aX)].length:Nat):Int)-1)=(L.length:Int) from by simp];exact wrap_i64 w4 w4)))) ?_;refine dH.later rfl ?_;refine AD.one (i:=1) aB ?_;refine qk call90 (mq (gM p) (by rw[uj];omega)) ?_;have tq:(jA++(iR++(I++(E++((L.eraseIdx i.toNat).flatMap bO))))).Perm (((L.set i.toNat (⟨er p L.length,jT,jU,jA,jk,e9,iR⟩:aX))++[(⟨cr p,O,U,E,Z,iy,I⟩:aX)]).flatMap bO):=jK fun mC=>by have hq:=acL (yL bO hj (⟨er p L.length,jT,jU,jA,jk,e9,iR⟩:aX)) mC;rw[flatMap_append,show[(⟨cr p,O,U,E,Z,iy,I⟩:aX)].flatMap bO=E++(I++[]) from by simp[bO]];simp only[show bO (⟨er p L.length,jT,jU,jA,jk,e9,iR⟩:aX)=jA++iR from rfl,map_append,map_cons,map_nil,sum_append,sum_cons,sum_nil] at *;omega
 refine AD.perm (S':=⟨b7,146,5,gO (⟨cr p,O,U,E,Z,iy,I⟩:aX)⟩::⟨b6,146,5,gO (⟨er p L.length,jT,jU,jA,jk,e9,iR⟩:aX)⟩::⟨b,75,2,[aN (some ⟨pK,0,none⟩) ((L.set i.toNat (⟨er p L.length,jT,jU,jA,jk,e9,iR⟩:aX))++[(⟨cr p,O,U,E,Z,iy,I⟩:aX)]).length oH,ae root]⟩::(([⟨pK,146,oH*5,flatMap gO ((L.set i.toNat (⟨er p L.length,jT,jU,jA,jk,e9,iR⟩:aX))++[(⟨cr p,O,U,E,Z,iy,I⟩:aX)])⟩]:List ah)++((L.set i.toNat (⟨er p L.length,jT,jU,jA,jk,e9,iR⟩:aX))++[(⟨cr p,O,U,E,Z,iy,I⟩:aX)]).flatMap bO)) (by exact(perm_middle (l₁:=[_,_,_])).symm.trans (Perm.cons _ (Perm.cons _ (Perm.cons _ (Perm.cons _ tq))))) ?_;refine c9 8 rfl bG ?_;refine fw ?_;refine bp [4,5] ?_;refine aK (⟨b,75,2,[aN (some ⟨pK,0,none⟩) ((L.set i.toNat (⟨er p L.length,jT,jU,jA,jk,e9,iR⟩:aX))++[(⟨cr p,O,U,E,Z,iy,I⟩:aX)]).length oH,ae root]⟩::([⟨pK,146,oH*5,flatMap gO ((L.set i.toNat (⟨er p L.length,jT,jU,jA,jk,e9,iR⟩:aX))++[(⟨cr p,O,U,E,Z,iy,I⟩:aX)])⟩]++((L.set i.toNat (⟨er p L.length,jT,jU,jA,jk,e9,iR⟩:aX))++[(⟨cr p,O,U,E,Z,iy,I⟩:aX)]).flatMap bO)) ?_
 refine⟨rfl,((L.set i.toNat (⟨er p L.length,jT,jU,jA,jk,e9,iR⟩:aX))++[(⟨cr p,O,U,E,Z,iy,I⟩:aX)]),some ⟨pK,0,none⟩,oH,[⟨pK,146,oH*5,flatMap gO ((L.set i.toNat (⟨er p L.length,jT,jU,jA,jk,e9,iR⟩:aX))++[(⟨cr p,O,U,E,Z,iy,I⟩:aX)])⟩],bM CA CB,fun x hx=>?_,?_,rfl⟩
 ·rcases mem_append.1 hx with hx|hx
  ·rcases mem_or_eq_of_mem_set hx with hx|rfl
   ·exact aV x hx
   exact⟨ak2,ak1⟩
  rw[mem_singleton] at hx;subst hx;exact⟨qR,Cx⟩
 rw[map_append,map_set];rfl

def ik(q:List α)(i:Nat)(a:α):List α:=q.take i++a::q.drop i
theorem yS{q:List α}{a:α}(hi:i≤q.length):(ik q i a).length=q.length+1:=by unfold ik;rw[length_append,length_take,length_cons,length_drop];omega
theorem RJ{q:List α}{a:α}:ik q q.length a=q++[a]:=by unfold ik;rw[take_length,drop_length]
theorem EA{g:α→List D}(hg:∀a,(g a).length=1){q:List α}{a:α}:(ik q i a).flatMap g=(q.flatMap g).take i++(g a++(q.flatMap g).drop i):=by
 have h1:=tO hg q i;have h2:=uW hg q i;rw[Nat.mul_one] at h1 h2;unfold ik;rw[flatMap_append,flatMap_cons,h1,h2]
theorem Ej{A ds:List D}{off:Nat}(hA:A.length=off)(hl:ds.length≤J.length):c8 (A++J) off ds=A++(ds++J.drop ds.length):=by
 rw[vZ _ _ _ vE,take_left' hA,append_assoc,←drop_drop,drop_left' hA]
theorem RL{T R c:List D}(hT:T.length=i)(hc:c.length=1)(E:R.length+1≤J.length):T++(c++R) <+: c8 (c8 (T++J) i c) (i+1) R:=by
 rw[Ej hT w4,show T++(c++J.drop c.length)=(T++c)++J.drop c.length from(append_assoc _ _ _).symm,Ej (A:=T++c) vE (by rw[length_drop];omega)];exact⟨_,by simp only[append_assoc];rfl⟩
theorem TP{T R c:List D}(hT:T.length=i)(hc:c.length=1)(O:1≤J.length):T++(c++R) <+: c8 (c8 ((T++R)++J) (i+1) R) i c:=by
 obtain⟨E,I,hX,h1⟩:∃E I,R++J=E++I∧E.length=1:=⟨(R++J).take 1,(R++J).drop 1,(take_append_drop 1 _).symm,by rw[length_take,length_append];omega⟩
 have h2:R.length≤I.length:=(by have:=congrArg length hX;rw[length_append,length_append] at this;omega)
 have e1:(T++R)++J=(T++E)++I:=(by rw[append_assoc,hX,←append_assoc])
 have e2:(T++E)++(R++I.drop R.length)=T++(E++(R++I.drop R.length)):=append_assoc _ _ _;rw[e1,Ej (A:=T++E) vE h2,e2,Ej hT vE,drop_left' w4];exact⟨I.drop R.length,by simp only[append_assoc]⟩
theorem qD(n:Nat)(x:α):(replicate n x).length=n:=length_replicate
theorem D6:(Tryz.prog.info? 90).map (fun i=>i.size)=some 1:=by kernel_rfl
theorem Is:(Tryz.prog.info? 90).map (fun i=>(i.zero,i.size,i.bytes))=some (some (.slice none 0 0),1,24):=by kernel_rfl
theorem aax(q:List K)(i:Nat)(a:K)(cap b bv:Nat)(hi:i≤q.length)(hc:q.length≤cap)(hm:cap≤maxLen)(hs:q.length≤1000):VC Tryz.prog G 92 [aN (some ⟨b,0,none⟩) q.length cap,ae (i:Nat),aN (some ⟨bv,0,none⟩) 1 1] [⟨bv,90,1*1,cK a⟩,⟨b,90,cap*1,q.flatMap cK⟩] (fun r S=>∃ad kJ,r=aN ad (q.length+1) kJ∧bg 90 1 ((ik q i a).flatMap cK) (ik q i a).length ad kJ S):=by
 refine VC.body func92 rfl ntmps92 aQ fun X0 w0 bf=>?_;refine af [0,1,2] ?_;refine aA 2 ?_;refine bQ (eE (l:=i) rfl ot ⟨_,ot⟩ trivial uo) ?_;refine an 95 [0,1,2] ?_;refine af [0,1,2,7] ?_;refine af [0,1,2,7,16] ?_;refine ax ?_ ?_<;>intro aO bA
 ·exact absurd aO (by simp at *)
 refine af [0,1,2,7,8] ?_;refine af [0,1,2,7,8,22] ?_;refine ax ?_ ?_<;>intro aY cz
 ·obtain rfl:i=q.length:=(by simp at *;omega)
  refine aA 2 ?_;refine fS 0 24 1 1 ?_;refine OD.eB (ls:=q) (new:=[a]) (Sq:=[⟨b,90,cap*1,q.flatMap cK⟩]) gi pU ap rfl rfl underlying144 Is rfl w8 ot (bM hc hm) (dg (A:=[])) ot bq vH ig (fun yn CC Mi Mj=>?_);refine OD.perm (dW (S1:=[⟨yn,90,CC*1,flatMap cK (q++[a])⟩]) (A:=[])) ?_;refine an 95 [6] ?_;refine aK [⟨yn,90,CC*1,flatMap cK (q++[a])⟩] ?_;exact⟨_,_,by rw[length_append];rfl,by rw[RJ];exact bM Mi Mj⟩
 have aa:i<q.length:=(by omega)
 have hQ:(q.flatMap cK).length=q.length:=(by rw[cm gi];omega)
 have Z:((q.flatMap cK).take i).length=i:=(by rw[length_take];omega)
 have U:((q.flatMap cK).drop i).length=q.length-i:=(by rw[length_drop];omega)
 have jP:∀d∈(q.flatMap cK),V.one d=true:=tW pU _;refine cM [0,1,2,7,8,31] ?_;refine aP 4 ?_ (h:=by exact(Er rfl rfl ot runUnderlying144));refine bD ?_;refine ax ?_ ?_<;>intro cc cN
 ·have I:eM cap (i) 1 0=i:=(by unfold eM;rw[if_neg w4];omega)
  have r8:Nat.min (q.length-i) (q.length+1-(i+1))=q.length-i:=Nat.min_eq_left w4;refine aA 2 ?_;refine bQ (eE (l:=0) (h:=i) rfl ot trivial ⟨_,ot⟩ MC) ?_;refine aG 5 ?_;refine OD.S8 (n:=i) (m:=q.length+1-i) (k:=1) ap rfl rfl underlying144 underlying3 Is rfl ot rfl rfl (by show i≤(q.flatMap cK).length;omega) (Eq.trans ot (congrArg (fun z=>D.v (.int .i64 z)) (show((q.length:Int)+(1:Nat)-(i:Int))=((q.length+1-i:Nat):Int) by omega))) w4 w4 G4 w4 (fun He E CE Mk=>?_);have n8:i+(q.length+1-i)=q.length+1:=(by omega)
  rw[n8] at CE ⊢;refine an 95 [0,1,2,7,9] ?_;refine aA 2 ?_;refine bQ (eE (l:=i) (h:=q.length+1) rfl ot ⟨_,ot⟩ trivial uo) ?_;have vP:eM E (i) 1 0=i:=(by unfold eM;rw[if_neg w4];omega)
  rw[vP];refine aG 1 ?_;have O:eM E (i+1) 1 0=i+1:=(by unfold eM;rw[if_neg w4];omega)
  refine OD.wk (Wk.toEnd (k:=0) rfl) ?_;refine OD.copy (k:=0) (k2:=1) (od:=i) (new:=cK a) (cs':=c8 ((q.flatMap cK).take i++replicate (E*1-((q.flatMap cK).take i).length) D.bV) i (cK a)) ap rfl rfl underlying144 D6 ot rfl rfl ot rfl rfl (by show take (Nat.min 1 (q.length+1-i)) (cK a)=_;rw[show Nat.min 1 (q.length+1-i)=1 from Nat.min_eq_left w4];rfl) (Nat.min_eq_left (by omega:1≤q.length+1-i)).symm (fun d hd=>all_eq_true.1 (pU a) d hd) (by show i+1≤((q.flatMap cK).take i++replicate (E*1-((q.flatMap cK).take i).length) D.bV).length;rw[length_append,qD,Z];omega) rfl ?_;refine an 95 [0,1,7,9] ?_;refine CD.seq ?_;refine nD 8 [9,50,53] ?_;refine aP 4 ?_ (h:=by exact(eE (l:=i+1) (h:=q.length+1) rfl ot ⟨_,ot⟩ trivial uo));refine aP 2 ?_ (h:=by exact(eE (l:=i) (h:=q.length) rfl ot ⟨_,ot⟩ trivial uo));refine jI ?_
  refine OD.copy (k:=0) (k2:=2) (od:=eM E (i+1) 1 0) (oy:=eM cap i 1 0) (new:=(q.flatMap cK).drop i) (cs':=c8 (c8 ((q.flatMap cK).take i++replicate (E*1-((q.flatMap cK).take i).length) D.bV) i (cK a)) (i+1) ((q.flatMap cK).drop i)) ap rfl rfl underlying144 D6 ot rfl rfl ot rfl rfl (by show take (Nat.min (q.length-i) (q.length+1-(i+1))) (drop (eM cap i 1 0) (q.flatMap cK))=_;rw[I,r8,take_of_length_le w4]) (by show _=Nat.min (q.length-i) (q.length+1-(i+1));rw[r8,U]) (fun d hd=>jP d (mem_of_mem_drop hd)) (by show eM E (i+1) 1 0+_≤(c8 ((q.flatMap cK).take i++replicate (E*1-((q.flatMap cK).take i).length) D.bV) i (cK a)).length;rw[O,U,yF,length_append,qD,Z];omega) (by show c8 (c8 ((q.flatMap cK).take i++replicate (E*1-((q.flatMap cK).take i).length) D.bV) i (cK a)) (eM E (i+1) 1 0) _=_;rw[O]) ?_;refine an 95 [9] ?_;refine aA 1 ?_;refine OD.shrink (k:=0) (cs':=(ik q i a).flatMap cK) rfl (by rw[EA gi];exact RL Z rfl (by rw[qD,U,Z];omega)) ?_;refine an 95 [6] ?_;refine aK [⟨He,90,E*1,(ik q i a).flatMap cK⟩] ?_;exact⟨_,_,rfl,bM (by rw[yS hi];exact CE) Mk⟩
 have I:eM cap (i) 1 0=i:=(by unfold eM;rw[if_neg w4];omega)
 have O:eM cap (i+1) 1 0=i+1:=(by unfold eM;rw[if_neg w4];omega)
 have r8:Nat.min (q.length+1-i) (q.length+1-(i+1))=q.length-i:=(by rw[show q.length+1-(i+1)=q.length-i from by omega];exact Nat.min_eq_right w4)
 refine cM [0,1,2,7,8] ?_;refine aP 4 ?_ (h:=by exact(eE (l:=0) (h:=q.length+1) rfl ot trivial ⟨_,ot⟩ MC));refine bD ?_;refine aA 5 ?_;refine bQ (eE (l:=i+1) (h:=q.length+1) rfl ot ⟨_,ot⟩ trivial uo) ?_;refine OD.wk (Wk.toEnd (k:=1) rfl) ?_;refine OD.overlaps (r:=4) (k:=0) (k2:=1) ap rfl rfl func136 aB aB aB aB underlying144 sizeOf90 ot rfl rfl ot rfl rfl w8 (by show cap*1≠0;omega) ?_;refine an 95 [0,1,2,7,8,68] ?_;refine ax ?_ ?_<;>intro cQ ek
 ·refine CD.seq ?_;refine nD 8 [0,1,2,73,76] ?_;refine aP 4 ?_ (h:=by exact(eE (l:=i+1) (h:=q.length+1) rfl ot ⟨_,ot⟩ trivial uo));refine aP 2 ?_ (h:=by exact(eE (l:=i) (h:=q.length+1) rfl ot ⟨_,ot⟩ trivial uo));refine jI ?_;refine OD.copy (k:=1) (k2:=1) (od:=eM cap (i+1) 1 0) (oy:=eM cap i 1 0) (new:=(q.flatMap cK).drop i) (cs':=c8 ((q.flatMap cK)++replicate (cap*1-(q.flatMap cK).length) D.bV) (i+1) ((q.flatMap cK).drop i)) ap rfl rfl underlying144 D6 ot rfl rfl ot rfl rfl (by show take (Nat.min (q.length+1-i) (q.length+1-(i+1))) (drop (eM cap i 1 0) ((q.flatMap cK)++replicate (cap*1-(q.flatMap cK).length) D.bV))=_;rw[I,r8,drop_append_of_le_length w4,take_left' U]) (by show _=Nat.min (q.length+1-i) (q.length+1-(i+1));rw[r8,U]) (fun d hd=>jP d (mem_of_mem_drop hd)) (by show eM cap (i+1) 1 0+_≤((q.flatMap cK)++replicate (cap*1-(q.flatMap cK).length) D.bV).length;rw[O,U,length_append,qD,hQ];omega) (by show c8 ((q.flatMap cK)++replicate (cap*1-(q.flatMap cK).length) D.bV) (eM cap (i+1) 1 0) _=_;rw[O]) ?_;refine an 95 [0,1,2] ?_;refine aA 2 ?_;refine bQ (eE (l:=i) (h:=q.length+1) rfl ot ⟨_,ot⟩ trivial uo) ?_;refine aG 1 ?_
  refine OD.copy (k:=1) (k2:=0) (od:=eM cap i 1 0) (new:=cK a) (cs':=c8 (c8 ((q.flatMap cK)++replicate (cap*1-(q.flatMap cK).length) D.bV) (i+1) ((q.flatMap cK).drop i)) i (cK a)) ap rfl rfl underlying144 D6 ot rfl rfl ot rfl rfl (by show take (Nat.min 1 (q.length+1-i)) (cK a)=_;rw[show Nat.min 1 (q.length+1-i)=1 from Nat.min_eq_left w4];rfl) (Nat.min_eq_left (by omega:1≤q.length+1-i)).symm (fun d hd=>all_eq_true.1 (pU a) d hd) (by show eM cap i 1 0+1≤(c8 ((q.flatMap cK)++replicate (cap*1-(q.flatMap cK).length) D.bV) (i+1) ((q.flatMap cK).drop i)).length;rw[I,yF,length_append,qD,hQ];omega) (by show c8 (c8 ((q.flatMap cK)++replicate (cap*1-(q.flatMap cK).length) D.bV) (i+1) ((q.flatMap cK).drop i)) (eM cap i 1 0) _=_;rw[I]) ?_;refine an 95 [0] ?_;refine aA 1 ?_;refine OD.shrink (k:=1) (cs':=(ik q i a).flatMap cK) rfl (by rw[EA gi];show _ <+: c8 (c8 ((q.flatMap cK)++_) (i+1) ((q.flatMap cK).drop i)) i (cK a);rw[show(q.flatMap cK)++replicate (cap*1-(q.flatMap cK).length) D.bV=((q.flatMap cK).take i++(q.flatMap cK).drop i)++replicate (cap*1-(q.flatMap cK).length) D.bV from by rw[take_append_drop]];exact TP Z rfl (by rw[qD,hQ];omega)) ?_;refine an 95 [6] ?_;refine aK [⟨b,90,cap*1,(ik q i a).flatMap cK⟩] ?_;exact⟨_,_,rfl,bM (by rw[yS hi];omega) hm⟩
 exact absurd cQ (by simp at *)
theorem D7:(Tryz.prog.info? 3).map (fun i=>i.size)=some 1:=by kernel_rfl
theorem IV:(Tryz.prog.info? 3).map (fun i=>(i.zero,i.size,i.bytes))=some (some (.int .i64 0),1,8):=by kernel_rfl
theorem aay(q:List Int)(i:Nat)(a:Int)(cap b bv:Nat)(hi:i≤q.length)(hc:q.length≤cap)(hm:cap≤maxLen)(hs:q.length≤1000):VC Tryz.prog G 93 [aN (some ⟨b,0,none⟩) q.length cap,ae (i:Nat),aN (some ⟨bv,0,none⟩) 1 1] [⟨bv,3,1*1,cI a⟩,⟨b,3,cap*1,q.flatMap cI⟩] (fun r S=>∃ad kJ,r=aN ad (q.length+1) kJ∧bg 3 1 ((ik q i a).flatMap cI) (ik q i a).length ad kJ S):=by
 refine VC.body func93 rfl ntmps93 aQ fun X0 w0 bf=>?_;refine af [0,1,2] ?_;refine aA 2 ?_;refine bQ (eE (l:=i) rfl ot ⟨_,ot⟩ trivial uq) ?_;refine an 95 [0,1,2] ?_;refine af [0,1,2,7] ?_;refine af [0,1,2,7,16] ?_;refine ax ?_ ?_<;>intro aO bA
 ·exact absurd aO (by simp at *)
 refine af [0,1,2,7,8] ?_;refine af [0,1,2,7,8,22] ?_;refine ax ?_ ?_<;>intro aY cz
 ·obtain rfl:i=q.length:=(by simp at *;omega)
  refine aA 2 ?_;refine fS 0 24 1 1 ?_;refine OD.eB (ls:=q) (new:=[a]) (Sq:=[⟨b,3,cap*1,q.flatMap cI⟩]) eG nP ap rfl rfl underlying70 IV rfl w8 ot (bM hc hm) (dg (A:=[])) ot bq vH ig (fun yn CC Mi Mj=>?_);refine OD.perm (dW (S1:=[⟨yn,3,CC*1,flatMap cI (q++[a])⟩]) (A:=[])) ?_;refine an 95 [6] ?_;refine aK [⟨yn,3,CC*1,flatMap cI (q++[a])⟩] ?_;exact⟨_,_,by rw[length_append];rfl,by rw[RJ];exact bM Mi Mj⟩
 have aa:i<q.length:=(by omega)
 have hQ:(q.flatMap cI).length=q.length:=(by rw[cm eG];omega)
 have Z:((q.flatMap cI).take i).length=i:=(by rw[length_take];omega)
 have U:((q.flatMap cI).drop i).length=q.length-i:=(by rw[length_drop];omega)
 have jP:∀d∈(q.flatMap cI),V.one d=true:=tW nP _;refine cM [0,1,2,7,8,31] ?_;refine aP 4 ?_ (h:=by exact(Er rfl rfl ot runUnderlying70));refine bD ?_;refine ax ?_ ?_<;>intro cc cN
 ·have I:eM cap (i) 1 0=i:=(by unfold eM;rw[if_neg w4];omega)
  have r8:Nat.min (q.length-i) (q.length+1-(i+1))=q.length-i:=Nat.min_eq_left w4;refine aA 2 ?_;refine bQ (eE (l:=0) (h:=i) rfl ot trivial ⟨_,ot⟩ MD) ?_;refine aG 5 ?_;refine OD.S8 (n:=i) (m:=q.length+1-i) (k:=1) ap rfl rfl underlying70 underlying3 IV rfl ot rfl rfl (by show i≤(q.flatMap cI).length;omega) (Eq.trans ot (congrArg (fun z=>D.v (.int .i64 z)) (show((q.length:Int)+(1:Nat)-(i:Int))=((q.length+1-i:Nat):Int) by omega))) w4 w4 G4 w4 (fun He E CE Mk=>?_);have n8:i+(q.length+1-i)=q.length+1:=(by omega)
  rw[n8] at CE ⊢;refine an 95 [0,1,2,7,9] ?_;refine aA 2 ?_;refine bQ (eE (l:=i) (h:=q.length+1) rfl ot ⟨_,ot⟩ trivial uq) ?_;have vP:eM E (i) 1 0=i:=(by unfold eM;rw[if_neg w4];omega)
  rw[vP];refine aG 1 ?_;have O:eM E (i+1) 1 0=i+1:=(by unfold eM;rw[if_neg w4];omega)
  refine OD.wk (Wk.toEnd (k:=0) rfl) ?_;refine OD.copy (k:=0) (k2:=1) (od:=i) (new:=cI a) (cs':=c8 ((q.flatMap cI).take i++replicate (E*1-((q.flatMap cI).take i).length) D.bV) i (cI a)) ap rfl rfl underlying70 D7 ot rfl rfl ot rfl rfl (by show take (Nat.min 1 (q.length+1-i)) (cI a)=_;rw[show Nat.min 1 (q.length+1-i)=1 from Nat.min_eq_left w4];rfl) (Nat.min_eq_left (by omega:1≤q.length+1-i)).symm (fun d hd=>all_eq_true.1 (nP a) d hd) (by show i+1≤((q.flatMap cI).take i++replicate (E*1-((q.flatMap cI).take i).length) D.bV).length;rw[length_append,qD,Z];omega) rfl ?_;refine an 95 [0,1,7,9] ?_;refine CD.seq ?_;refine nD 8 [9,50,53] ?_;refine aP 4 ?_ (h:=by exact(eE (l:=i+1) (h:=q.length+1) rfl ot ⟨_,ot⟩ trivial uq));refine aP 2 ?_ (h:=by exact(eE (l:=i) (h:=q.length) rfl ot ⟨_,ot⟩ trivial uq));refine jI ?_
  refine OD.copy (k:=0) (k2:=2) (od:=eM E (i+1) 1 0) (oy:=eM cap i 1 0) (new:=(q.flatMap cI).drop i) (cs':=c8 (c8 ((q.flatMap cI).take i++replicate (E*1-((q.flatMap cI).take i).length) D.bV) i (cI a)) (i+1) ((q.flatMap cI).drop i)) ap rfl rfl underlying70 D7 ot rfl rfl ot rfl rfl (by show take (Nat.min (q.length-i) (q.length+1-(i+1))) (drop (eM cap i 1 0) (q.flatMap cI))=_;rw[I,r8,take_of_length_le w4]) (by show _=Nat.min (q.length-i) (q.length+1-(i+1));rw[r8,U]) (fun d hd=>jP d (mem_of_mem_drop hd)) (by show eM E (i+1) 1 0+_≤(c8 ((q.flatMap cI).take i++replicate (E*1-((q.flatMap cI).take i).length) D.bV) i (cI a)).length;rw[O,U,yF,length_append,qD,Z];omega) (by show c8 (c8 ((q.flatMap cI).take i++replicate (E*1-((q.flatMap cI).take i).length) D.bV) i (cI a)) (eM E (i+1) 1 0) _=_;rw[O]) ?_;refine an 95 [9] ?_;refine aA 1 ?_;refine OD.shrink (k:=0) (cs':=(ik q i a).flatMap cI) rfl (by rw[EA eG];exact RL Z rfl (by rw[qD,U,Z];omega)) ?_;refine an 95 [6] ?_;refine aK [⟨He,3,E*1,(ik q i a).flatMap cI⟩] ?_;exact⟨_,_,rfl,bM (by rw[yS hi];exact CE) Mk⟩
 have I:eM cap (i) 1 0=i:=(by unfold eM;rw[if_neg w4];omega)
 have O:eM cap (i+1) 1 0=i+1:=(by unfold eM;rw[if_neg w4];omega)
 have r8:Nat.min (q.length+1-i) (q.length+1-(i+1))=q.length-i:=(by rw[show q.length+1-(i+1)=q.length-i from by omega];exact Nat.min_eq_right w4)
 refine cM [0,1,2,7,8] ?_;refine aP 4 ?_ (h:=by exact(eE (l:=0) (h:=q.length+1) rfl ot trivial ⟨_,ot⟩ MD));refine bD ?_;refine aA 5 ?_;refine bQ (eE (l:=i+1) (h:=q.length+1) rfl ot ⟨_,ot⟩ trivial uq) ?_;refine OD.wk (Wk.toEnd (k:=1) rfl) ?_;refine OD.overlaps (r:=4) (k:=0) (k2:=1) ap rfl rfl func138 aB aB aB aB underlying70 sizeOf3 ot rfl rfl ot rfl rfl w8 (by show cap*1≠0;omega) ?_;refine an 95 [0,1,2,7,8,68] ?_;refine ax ?_ ?_<;>intro cQ ek
 ·refine CD.seq ?_;refine nD 8 [0,1,2,73,76] ?_;refine aP 4 ?_ (h:=by exact(eE (l:=i+1) (h:=q.length+1) rfl ot ⟨_,ot⟩ trivial uq));refine aP 2 ?_ (h:=by exact(eE (l:=i) (h:=q.length+1) rfl ot ⟨_,ot⟩ trivial uq));refine jI ?_;refine OD.copy (k:=1) (k2:=1) (od:=eM cap (i+1) 1 0) (oy:=eM cap i 1 0) (new:=(q.flatMap cI).drop i) (cs':=c8 ((q.flatMap cI)++replicate (cap*1-(q.flatMap cI).length) D.bV) (i+1) ((q.flatMap cI).drop i)) ap rfl rfl underlying70 D7 ot rfl rfl ot rfl rfl (by show take (Nat.min (q.length+1-i) (q.length+1-(i+1))) (drop (eM cap i 1 0) ((q.flatMap cI)++replicate (cap*1-(q.flatMap cI).length) D.bV))=_;rw[I,r8,drop_append_of_le_length w4,take_left' U]) (by show _=Nat.min (q.length+1-i) (q.length+1-(i+1));rw[r8,U]) (fun d hd=>jP d (mem_of_mem_drop hd)) (by show eM cap (i+1) 1 0+_≤((q.flatMap cI)++replicate (cap*1-(q.flatMap cI).length) D.bV).length;rw[O,U,length_append,qD,hQ];omega) (by show c8 ((q.flatMap cI)++replicate (cap*1-(q.flatMap cI).length) D.bV) (eM cap (i+1) 1 0) _=_;rw[O]) ?_;refine an 95 [0,1,2] ?_;refine aA 2 ?_;refine bQ (eE (l:=i) (h:=q.length+1) rfl ot ⟨_,ot⟩ trivial uq) ?_;refine aG 1 ?_
  refine OD.copy (k:=1) (k2:=0) (od:=eM cap i 1 0) (new:=cI a) (cs':=c8 (c8 ((q.flatMap cI)++replicate (cap*1-(q.flatMap cI).length) D.bV) (i+1) ((q.flatMap cI).drop i)) i (cI a)) ap rfl rfl underlying70 D7 ot rfl rfl ot rfl rfl (by show take (Nat.min 1 (q.length+1-i)) (cI a)=_;rw[show Nat.min 1 (q.length+1-i)=1 from Nat.min_eq_left w4];rfl) (Nat.min_eq_left (by omega:1≤q.length+1-i)).symm (fun d hd=>all_eq_true.1 (nP a) d hd) (by show eM cap i 1 0+1≤(c8 ((q.flatMap cI)++replicate (cap*1-(q.flatMap cI).length) D.bV) (i+1) ((q.flatMap cI).drop i)).length;rw[I,yF,length_append,qD,hQ];omega) (by show c8 (c8 ((q.flatMap cI)++replicate (cap*1-(q.flatMap cI).length) D.bV) (i+1) ((q.flatMap cI).drop i)) (eM cap i 1 0) _=_;rw[I]) ?_;refine an 95 [0] ?_;refine aA 1 ?_;refine OD.shrink (k:=1) (cs':=(ik q i a).flatMap cI) rfl (by rw[EA eG];show _ <+: c8 (c8 ((q.flatMap cI)++_) (i+1) ((q.flatMap cI).drop i)) i (cI a);rw[show(q.flatMap cI)++replicate (cap*1-(q.flatMap cI).length) D.bV=((q.flatMap cI).take i++(q.flatMap cI).drop i)++replicate (cap*1-(q.flatMap cI).length) D.bV from by rw[take_append_drop]];exact TP Z rfl (by rw[qD,hQ];omega)) ?_;refine an 95 [6] ?_;refine aK [⟨b,3,cap*1,(ik q i a).flatMap cI⟩] ?_;exact⟨_,_,rfl,bM (by rw[yS hi];omega) hm⟩
 exact absurd cQ (by simp at *)
theorem ab0(a:K)(bv:Nat):VC Tryz.prog G 92 [bF,ae (0:Nat),aN (some ⟨bv,0,none⟩) 1 1] [⟨bv,90,1*1,cK a⟩] (fun r S=>∃ad E,r=aN ad 1 E∧bg 90 1 ((ik ([]:List K) 0 a).flatMap cK) (ik ([]:List K) 0 a).length ad E S):=by
 refine VC.body func92 rfl ntmps92 aQ fun X0 w0 bf=>?_;refine af [0,1,2] ?_;refine aA 2 ?_;refine bQ (D8 rfl ot ⟨_,_,ot,rfl⟩ rfl runUnderlying144 sizeOf90) ?_;refine an 95 [0,1,2] ?_;refine af [0,1,2,7] ?_;refine af [0,1,2,7,16] ?_;refine ax ?_ ?_<;>intro aO bA
 ·exact absurd aO (by simp at *)
 refine af [0,1,2,7,8] ?_;refine af [0,1,2,7,8,22] ?_;refine ax ?_ ?_<;>intro aY cz
 ·refine aA 2 ?_;refine fS 0 24 1 1 ?_;refine OD.eB (ls:=([]:List K)) (new:=[a]) (Sq:=[]) gi pU ap rfl rfl underlying144 Is rfl w8 ot iz (dg (A:=[])) ot bq (by simp[maxLen]) bq (fun O I U Z=>?_);refine OD.perm (dW (S1:=[⟨O,90,I*1,flatMap cK (([]:List K)++[a])⟩]) (A:=[])) ?_;refine an 95 [6] ?_;refine aK [⟨O,90,I*1,flatMap cK (([]:List K)++[a])⟩] ?_;exact⟨_,_,rfl,bM U Z⟩
 exact absurd aY (by simp at *)
theorem aaz(q:List K)(i:Nat)(a:K)(ad:Option Addr)(cap:Nat)(Sq:List ah)(I:Nat)(hi:i≤q.length)(hs:q.length≤1000)(ho:bg 90 1 (q.flatMap cK) q.length ad cap Sq):VC Tryz.prog G 92 [aN ad q.length cap,ae (i:Nat),aN (some ⟨I,0,none⟩) 1 1] (⟨I,90,1*1,cK a⟩::Sq) (fun r S=>∃ad E,r=aN ad (q.length+1) E∧bg 90 1 ((ik q i a).flatMap cK) (ik q i a).length ad E S):=by
 rcases ho with ⟨h1,h2,rfl,rfl,rfl⟩|⟨b,rfl,h1,h2,rfl⟩
 ·obtain rfl:=length_eq_zero_iff.1 h1;obtain rfl:i=0:=Nat.le_zero.1 hi;exact ab0 a I
 exact aax q i a cap b I hi h1 h2 hs
theorem ab1(a:Int)(bv:Nat):VC Tryz.prog G 93 [bF,ae (0:Nat),aN (some ⟨bv,0,none⟩) 1 1] [⟨bv,3,1*1,cI a⟩] (fun r S=>∃ad E,r=aN ad 1 E∧bg 3 1 ((ik ([]:List Int) 0 a).flatMap cI) (ik ([]:List Int) 0 a).length ad E S):=by
 refine VC.body func93 rfl ntmps93 aQ fun X0 w0 bf=>?_;refine af [0,1,2] ?_;refine aA 2 ?_;refine bQ (D8 rfl ot ⟨_,_,ot,rfl⟩ rfl runUnderlying70 sizeOf3) ?_;refine an 95 [0,1,2] ?_;refine af [0,1,2,7] ?_;refine af [0,1,2,7,16] ?_;refine ax ?_ ?_<;>intro aO bA
 ·exact absurd aO (by simp at *)
 refine af [0,1,2,7,8] ?_;refine af [0,1,2,7,8,22] ?_;refine ax ?_ ?_<;>intro aY cz
 ·refine aA 2 ?_;refine fS 0 24 1 1 ?_;refine OD.eB (ls:=([]:List Int)) (new:=[a]) (Sq:=[]) eG nP ap rfl rfl underlying70 IV rfl w8 ot iz (dg (A:=[])) ot bq (by simp[maxLen]) bq (fun O I U Z=>?_);refine OD.perm (dW (S1:=[⟨O,3,I*1,flatMap cI (([]:List Int)++[a])⟩]) (A:=[])) ?_;refine an 95 [6] ?_;refine aK [⟨O,3,I*1,flatMap cI (([]:List Int)++[a])⟩] ?_;exact⟨_,_,rfl,bM U Z⟩
 exact absurd aY (by simp at *)
theorem aaA(q:List Int)(i:Nat)(a:Int)(ad:Option Addr)(cap:Nat)(Sq:List ah)(I:Nat)(hi:i≤q.length)(hs:q.length≤1000)(ho:bg 3 1 (q.flatMap cI) q.length ad cap Sq):VC Tryz.prog G 93 [aN ad q.length cap,ae (i:Nat),aN (some ⟨I,0,none⟩) 1 1] (⟨I,3,1*1,cI a⟩::Sq) (fun r S=>∃ad E,r=aN ad (q.length+1) E∧bg 3 1 ((ik q i a).flatMap cI) (ik q i a).length ad E S):=by
 rcases ho with ⟨h1,h2,rfl,rfl,rfl⟩|⟨b,rfl,h1,h2,rfl⟩
 ·obtain rfl:=length_eq_zero_iff.1 h1;obtain rfl:i=0:=Nat.le_zero.1 hi;exact ab1 a I
 exact aay q i a cap b I hi h1 h2 hs

noncomputable def pi(t:aF)(k:K)(row:Int)(h:Nat):aF×Int:=if lD t k=0 then (if row<0 then (vR,3) else if iA t k h=true then (vR,9) else if 4000<(gH t h k row).ag.length then (vR,10) else (gH t h k row,0)) else (vR,lD t k)
theorem afv{ls:List Int}{r:D}{S:List ah}(h:gv cI 3 1 ls r S):kp r=true∧∀B∈S,∀d∈B.cs,kp d=true:=by
 obtain⟨ad,cap,rfl,ho⟩:=h;refine⟨rfl,fun B E d hd=>?_⟩;rcases ho with ⟨_,_,_,_,rfl⟩|⟨b,_,_,_,rfl⟩
 ·cases E
 rw[mem_singleton] at E;subst E;obtain⟨n,_,hn⟩:=mem_flatMap.1 hd;rw[cI,mem_singleton] at hn;subst hn;rfl
theorem Qd(v:Valid t h)(hf:iA t k h=false):∀x∈kY t h,x.1≠k:=fun x hx e=>by
 have:iA t k h=true:=(Eh v k).2 ((Bh v k).2 ⟨x.2,by rw[←e];exact hx⟩);rw[hf] at this;cases this
theorem ab2{G:List (Nat×List Value)}(L:List aX)(b:Nat)(root i:Int)(ad:Option Addr)(cap:Nat)(Sx:List ah)(hi:0≤i∧i<L.length)(p:cW)(E:(L[i.toNat]'w4).p=p)(hn:L.length≤10000)(dX:ue L ad cap Sx)(aV:∀o∈L,rp o)(h5:p.keys.length=5)(dU:p.leaf=true→p.kids.length=5)(I:p.leaf=false→p.kids.length=6)(O:∀k∈p.keys,k.length≤100)(U:p.high.length≤100) :
 VC Tryz.prog G 94 [cU b,ae i] (⟨b,75,2,[aN ad L.length cap,ae root]⟩::(Sx++L.flatMap bO)) (Wx L b root i.toNat p):=by
 subst E;exact adL L b root i ad cap Sx hi hn dX aV h5 dU I O U
theorem adM{az:Int}(e:kE t k row h (h+1)=(u,some (up,az)))(hr:u.root=t.root):gH t h k row=⟨u.ag++[⟨false,[up],[t.root,az],[],-1⟩],u.ag.length⟩:=by
 unfold gH;rw[←RF,e];show(⟨u.ag++[⟨false,[up],[u.root,az],[],-1⟩],u.ag.length⟩:aF)=_;rw[hr]
theorem afw{az:Int}{m:Nat}(hm:m≤h)(e:kE t k row h m=(u,some (up,az)))(h4:(bw (u.pg (da t k h t.root m)) up az).keys.length≤4):gH t h k row=u.set (da t k h t.root m) (bw (u.pg (da t k h t.root m)) up az):=by
 have:=P9 hm e;rw[Jl h4] at this;unfold gH;rw[Qa (h-m) (m+1) w4 w4 this];rfl
theorem adN{az:Int}{m:Nat}(hm:m≤h)(e:kE t k row h m=(u,some (up,az)))(h4:¬(bw (u.pg (da t k h t.root m)) up az).keys.length≤4) :
  kE t k row h (m+1)=(jo u (da t k h t.root m) (er (bw (u.pg (da t k h t.root m)) up az) u.ag.length) (cr (bw (u.pg (da t k h t.root m)) up az)),some (gM (bw (u.pg (da t k h t.root m)) up az),(u.ag.length:Int))):=by
 rw[P9 hm e,IP h4]
theorem Z4:(Tryz.prog.info? 146).map (fun i=>(i.zero,i.size,i.bytes))=some (some (.agg #[.bool false,.slice none 0 0,.slice none 0 0,.slice none 0 0,.int .i64 0]),5,88):=by kernel_rfl
theorem IW(t:aF)(h:Nat)(k:K)(row:Int)(hb:∀p∈t.ag,p.keys.length≤maxLen∧p.kids.length≤maxLen)(hv:gD t=0→Valid t h):VC Tryz.prog G 50 [.agg [au 5 cP t.ag,ae t.root],au 1 cB k,ae row] [] (Ct (pi t k row h)):=by
 refine VC.body func50 rfl ntmps50 aQ fun X0 w0 bf=>?_;have eV:=Iq (G:=G) t k hb;unfold cT at eV;have cY:=dN;refine bS ?_;refine OD.box (ds:=[_,_]) ap rfl rfl ot rfl rfl (fun b3=>?_);refine OD.alloc (ds:=[_,_]) ap rfl rfl zeroValue75 rfl (fun b6=>?_);refine an 131 [1,2,3,6] ?_;refine cL [1,2,3,6,8] (eV) ?_;refine af [1,2,3,6,8,23] ?_;refine ax ?_ ?_<;>intro aO bA
 ·have hn:¬lD t k=0:=(by simpa using aO)
  refine aA 2 ?_;refine aM 0 [_,_] sizeOf75 ?_;refine an 131 [6,7] ?_;refine aK [] ?_;unfold pi;rw[if_neg hn];exact y7 _
 have hz:lD t k=0:=(by simpa using aO)
 obtain⟨hc,Od⟩:=Qc hz;have v:=hv hc;have Cu:=Jr Od;have fx:=qF (G:=G) t h v k w4 (Ei v k);unfold cT at fx;have apr:=v.high;have aps:=v.nW;refine af [1,2,3,6,27] ?_;refine ax ?_ ?_<;>intro aY cz
 ·have rQ:row<0:=(by omega)
  refine aA 1 ?_;refine aM 0 [_,_] sizeOf75 ?_;refine an 131 [6,7] ?_;refine aK [] ?_;unfold pi;rw[if_pos hz,if_pos rQ];exact y7 _
 have rQ:0≤row:=(by omega)
 refine cL [1,2,3,6,11] (fx) ?_;refine af [1,2,3,6,36] ?_;refine ax ?_ ?_<;>intro cc cN
 ·have iV:iA t k h=true:=cc;refine aA 1 ?_;refine aM 0 [_,_] sizeOf75 ?_;refine an 131 [6,7] ?_;refine aK [] ?_;unfold pi;rw[if_pos hz,if_neg w4,if_pos iV];exact y7 _
 have iV:iA t k h=false:=cc;have hne:=Qd v iV;refine aA 1 ?_;refine OD.call ap rfl rfl rfl call88 (FP t h v) ⟨ot,trivial⟩ (fa _) ?_;rintro _ _ ⟨L,ad,cap,Sx,rfl,dX,aV,hL,rfl⟩;refine OD.perm (dW (A:=[_,_])) ?_;refine OD.alloc (ds:=[_,_]) ap rfl rfl zeroValue75 rfl (fun uJ=>?_);refine aM 0 [_,_] sizeOf75 ?_;refine an 131 [1,2,6,12] ?_;refine aA 2 ?_;refine OD.K6 ap rfl rfl rfl call89 (TH t h v k) (fun r S=>afv) ⟨⟨_,ot,(by have:=KI (root:=t.root) dX aV (fun B hB=>mem_cons_of_mem ⟨uJ,75,2,[aN ad L.length cap,ae t.root]⟩ (mem_cons_of_mem ⟨b6,75,2,[bF,ae 0]⟩ (mem_cons_of_mem ⟨b3,75,2,[au 5 cP t.ag,ae t.root]⟩ hB)));rw[hL] at this;exact this)⟩,⟨_,ot,eO⟩,trivial⟩ ?_;rintro _ Sw ⟨aw,cw,rfl,how⟩;refine OD.ic (t:=42) (Sq:=Sw) lk how (cm eG _) (Perm.refl _) ?_;refine an 131 [1,2,6,12,13] ?_;refine cL [6,12,13,14,15] (mq k w4) ?_;refine iv [6,12] (fun aR _ aD=>∃(L:List aX),∃(ad:Option Addr),∃(cap:Nat),∃(Sx:List ah),∃(root:Int),(ue L ad cap Sx)∧(∀o∈L,rp o)∧(gH t h k row=⟨L.map aX.p,root⟩)∧(L.length≤10000)∧aD=(⟨131,aR,(⟨uJ,75,2,[aN ad L.length cap,ae root]⟩::⟨b6,75,2,[bF,ae 0]⟩::(Sx++L.flatMap bO))⟩:St)) ?_ ?_
 ·refine cM [6,12,13,14,15,16] ?_;refine aP 2 ?_ (h:=by exact(dj (r:=.int .i64 ((h:Nat):Int)) rfl ot bP (gN (by rw[ER,show(((h+1:Nat):Int)-1)=(h:Int) from by omega];exact wrap_i64 w4 w4))));refine bD ?_;refine ez [6,12,13] (fun aR _ (iO:Nat×K×Int×List aX×Option Addr×Nat×List ah) aD=>match iO with|(m,up,az,L,ad,cap,Sx)=>(m≤h+1)∧(kE t k row h m=(⟨L.map aX.p,t.root⟩,some (up,az)))∧(ue L ad cap Sx)∧(∀o∈L,rp o)∧aD=(⟨131,(14,au 1 cB up)::(15,ae az)::(16,ae ((h:Int)-(m:Nat)))::aR,(⟨uJ,75,2,[aN ad L.length cap,ae t.root]⟩::⟨b6,75,2,[bF,ae 0]⟩::(Sx++L.flatMap bO))⟩:St)) (fun (iO:Nat×K×Int×List aX×Option Addr×Nat×List ah)=>match iO with|(m,up,az,L,ad,cap,Sx)=>h+1-m) (0,k,row,L,ad,cap,Sx) ⟨(Nat.zero_le _),(by unfold kE;rw[if_pos rfl,hL]),dX,aV,rfl⟩ ?_;rintro⟨m,up,az,L,ad,cap,Sx⟩ _ ⟨hm0,he,dX,aV,rfl⟩;refine af [6,12,13,14,15,16,52] ?_;refine ax ?_ ?_<;>intro cQ ek
  ·obtain rfl:m=h+1:=(by omega)
   obtain⟨s1,s2,s3,s4⟩:=IS v hne Cu rQ w4 he;have pL:L.length≤t.ag.length+(h+1):=(by rw[←length_map (f:=aX.p)];exact s2)
   have YO:=afq v hne Cu rQ w4 he;refine aA 3 ?_;refine ew (cu 0 [_]) [.slice none 0 0] [_] zeroValue90 runUnderlying144 sizeOf90 (fun kM=>?_);refine aG 3 ?_;refine ew (cu 0 [_,_]) [.int .i64 0,.int .i64 0] [_,_] zeroValue3 runUnderlying70 sizeOf3 (fun mJ=>?_);refine aG 1 ?_;refine ew (cu 0 [_]) [.bool false,.slice none 0 0,.slice none 0 0,.slice none 0 0,.int .i64 0] [_,_,_,_,_] zeroValue146 runUnderlying73 sizeOf146 (fun NQ=>?_);refine OD.agl (cs':=gO (⟨⟨false,[up],[t.root,az],[],-1⟩,some ⟨kM,0,none⟩,1,[⟨kM,90,1*1,flatMap cK [up]⟩],some ⟨mJ,0,none⟩,2,[⟨mJ,3,2*1,flatMap cI [t.root,az]⟩]⟩:aX)) rfl ⟨eO,eO,eO,yM,eO,trivial⟩ ?_;refine fS 0 62 5 1 ?_;refine OD.eB (ls:=L) (new:=[(⟨⟨false,[up],[t.root,az],[],-1⟩,some ⟨kM,0,none⟩,1,[⟨kM,90,1*1,flatMap cK [up]⟩],some ⟨mJ,0,none⟩,2,[⟨mJ,3,2*1,flatMap cI [t.root,az]⟩]⟩:aX)]) (Sq:=Sx) hU FB ap rfl rfl underlying73 Z4 rfl w8 ot dX (oT (A:=[_,_,_,_])) ot bq nB nC (fun DS xA ak3 ak4=>?_);refine aG 1 ?_;refine aM 3 [_,_] sizeOf73 ?_;refine an 131 [6,12] ?_;refine aA 3 ?_
   refine bQ (dj (r:=.int .i64 (L.length:Nat)) rfl ot bP (gN (by rw[length_append,show(((L.length+[(⟨⟨false,[up],[t.root,az],[],-1⟩,some ⟨kM,0,none⟩,1,[⟨kM,90,1*1,flatMap cK [up]⟩],some ⟨mJ,0,none⟩,2,[⟨mJ,3,2*1,flatMap cI [t.root,az]⟩]⟩:aX)].length:Nat):Int)-1)=(L.length:Int) from by simp];exact wrap_i64 w4 w4))) ?_;refine aG 1 ?_;refine aM 3 [_,_] sizeOf3 ?_;have hX:((⟨mJ,3,2*1,flatMap cI [t.root,az]⟩:ah)::⟨kM,90,1*1,flatMap cK [up]⟩::L.flatMap bO).Perm ((L++[(⟨⟨false,[up],[t.root,az],[],-1⟩,some ⟨kM,0,none⟩,1,[⟨kM,90,1*1,flatMap cK [up]⟩],some ⟨mJ,0,none⟩,2,[⟨mJ,3,2*1,flatMap cI [t.root,az]⟩]⟩:aX)]).flatMap bO):=(by rw[SC];exact(Perm.swap _ _ _).trans (perm_append_comm (l₁:=[_,_])))
   refine OD.perm (S':=⟨uJ,75,2,[aN (some ⟨DS,0,none⟩) (L++[(⟨⟨false,[up],[t.root,az],[],-1⟩,some ⟨kM,0,none⟩,1,[⟨kM,90,1*1,flatMap cK [up]⟩],some ⟨mJ,0,none⟩,2,[⟨mJ,3,2*1,flatMap cI [t.root,az]⟩]⟩:aX)]).length xA,ae (L.length:Nat)]⟩::⟨b6,75,2,[bF,ae 0]⟩::(([⟨DS,146,xA*5,flatMap gO (L++[(⟨⟨false,[up],[t.root,az],[],-1⟩,some ⟨kM,0,none⟩,1,[⟨kM,90,1*1,flatMap cK [up]⟩],some ⟨mJ,0,none⟩,2,[⟨mJ,3,2*1,flatMap cI [t.root,az]⟩]⟩:aX)])⟩]:List ah)++(L++[(⟨⟨false,[up],[t.root,az],[],-1⟩,some ⟨kM,0,none⟩,1,[⟨kM,90,1*1,flatMap cK [up]⟩],some ⟨mJ,0,none⟩,2,[⟨mJ,3,2*1,flatMap cI [t.root,az]⟩]⟩:aX)]).flatMap bO)) (by exact(perm_middle (l₁:=[_,_,_])).trans (Perm.cons _ ((perm_middle (l₁:=[_,_,_])).trans (Perm.cons _ (Perm.cons _ hX))))) ?_;refine an 131 [6,12] ?_;refine CD.exit ?_
   refine⟨_,aJ,(L++[(⟨⟨false,[up],[t.root,az],[],-1⟩,some ⟨kM,0,none⟩,1,[⟨kM,90,1*1,flatMap cK [up]⟩],some ⟨mJ,0,none⟩,2,[⟨mJ,3,2*1,flatMap cI [t.root,az]⟩]⟩:aX)]),(some ⟨DS,0,none⟩),xA,[⟨DS,146,xA*5,flatMap gO (L++[(⟨⟨false,[up],[t.root,az],[],-1⟩,some ⟨kM,0,none⟩,1,[⟨kM,90,1*1,flatMap cK [up]⟩],some ⟨mJ,0,none⟩,2,[⟨mJ,3,2*1,flatMap cI [t.root,az]⟩]⟩:aX)])⟩],(L.length:Nat),(bM ak3 ak4),(fun o ho=>by rcases mem_append.1 ho with ho|ho;exact aV o ho;rw[mem_singleton] at ho;subst ho;exact⟨bM (Nat.le_refl _) (show 1≤maxLen by decide),bM (Nat.le_refl _) (show 2≤maxLen by decide)⟩),(by rw[adM he rfl];show(⟨map aX.p L++[_],((map aX.p L).length:Int)⟩:aF)=_;rw[map_append,length_map];rfl),G0,rfl⟩
  have hm:m≤h:=(by omega)
  have hP:=afr v hne Cu rQ hm he;obtain⟨s1,s2,s3,s4⟩:=IS v hne Cu rQ w4 he;have pL:L.length≤t.ag.length+m:=(by rw[←length_map (f:=aX.p)];exact s2)
  have Oe:0≤(da t k h t.root m)∧(da t k h t.root m)<L.length:=(by have:=hP.rg;rw[←length_map (f:=aX.p)];exact this)
  have hj:(da t k h t.root m).toNat<L.length:=(by omega)
  have YP:L[(da t k h t.root m).toNat].p=(⟨L.map aX.p,t.root⟩:aF).pg (da t k h t.root m):=UT (t:=(⟨L.map aX.p,t.root⟩:aF)) rfl hP.rg hj;have po:eH ((⟨L.map aX.p,t.root⟩:aF).pg (da t k h t.root m)) (⟨L.map aX.p,t.root⟩:aF).ag.length:=s4 _ (jC hP.rg);have full:=Jj po hP.out hP.len hP.high hP.nn hP.nnl;obtain⟨bx,rfl,gg,xO,rfl⟩:=dX.pos w4;have ye:=aV _ (getElem_mem hj);obtain⟨o,ho⟩:∃o,o=L[(da t k h t.root m).toNat]:=⟨_,rfl⟩
  rw[←ho] at ye YP;rcases o with ⟨p,ak,ck,sk,ai,ci,si⟩
  have gW:p=(⟨L.map aX.p,t.root⟩:aF).pg (da t k h t.root m):=YP;obtain⟨dL,j9⟩:nR p.keys ak ck sk∧mZ p.kids ai ci si:=ye;rw[←gW] at po full;have mY:=po.eI;have fE:=RC po up;have YO:=hP.len.2;have Gf:(if p.leaf=true then aL p up else aL p up+1)≤p.kids.length∧p.kids.length≤5:=(by cases fR:p.leaf;(have:=(po.node fR).1;rw[if_neg w8];omega);(have:=po.leaf fR;rw[if_pos rfl];omega))
  have hW:h-m<(je t k h t.root).length:=(by rw[ER];omega)
  have YQ:(je t k h t.root)[h-m]=(da t k h t.root m):=(by have:=P8 (t:=t) (k:=k) (h:=h) (i:=t.root) hm;exact(List.getElem?_eq_some_iff.1 this).2)
  have BW:=v.high;have Vy:=v.nW;have Li:(L.flatMap bO).Perm (sk++(si++((L.eraseIdx (da t k h t.root m).toNat).flatMap bO))):=(by have:=y6 bO hj;rw[←ho] at this;exact this.trans (by rw[show bO ⟨p,ak,ck,sk,ai,ci,si⟩=sk++si from rfl,append_assoc]))
  refine CD.perm (Perm.cons _ (Perm.cons _ (Perm.cons _ Li))) ?_;refine cM [6,12,13,14,15,16,17] ?_;refine aP 4 ?_ (h:=by exact(dw 1 (h:=by first|exact .l (j:=h-m) w4 hW|exact .r (j:=h-m) w4 hW)));refine aP 0 ?_ (h:=by exact(cR (mk:=Op.load 3) rfl ot (rD (d:=ae (da t k h t.root m)) (i:=h-m) eG isAgg3 hW (by rw[YQ];rfl))));refine aP 0 ?_ (h:=by exact(dw 5 (h:=by first|exact .l (j:=(da t k h t.root m).toNat) (Int.toNat_of_nonneg Oe.1).symm hj|exact .r (j:=(da t k h t.root m).toNat) (Int.toNat_of_nonneg Oe.1).symm hj)));refine bD ?_;refine cM [6,12,13,14,15,16,17,18] ?_;refine aP 2 ?_ (h:=by exact(cR (mk:=Op.load 146) rfl ot (dy (k:=2) (ls:=L) (i:=(da t k h t.root m).toNat) hU rfl rfl rfl isAgg146 sizeOf146 hj)));refine mG 1 ?_;refine zN (Jq p up po.j4 w4) (ha:=by exact⟨⟨_,ot,(by rw[←ho];exact uQ ⟨eO,lq dL (cm gi _) (fun B hB=>.tail _ (.tail _ (.tail _ (mem_append_left _ hB)))),lq j9 (cm eG _) (fun B hB=>.tail _ (.tail _ (.tail _ (mem_append_right _ (mem_append_left _ hB))))),eO,eO,trivial⟩)⟩,⟨_,ot,eO⟩,trivial⟩) (K:=?_);refine bD ?_;refine aA 4 ?_;refine bQ (cR (mk:=Op.load 144) rfl ot (lA (k:=2) (j:=1) (d:=aN ak p.keys.length ck) (ls:=L) hU rfl rfl rfl isAgg144 hj rU)) ?_;refine aG 2 ?_;refine ew (cu 0 [_]) [.slice none 0 0] [_] zeroValue90 runUnderlying144 sizeOf90 (fun b89=>?_)
  refine OD.call ap rfl rfl rfl call92 (aaz p.keys (aL p up) up ak ck sk b89 fE w4 dL) ⟨ot,ot,ot,trivial⟩ (Perm.cons _ (oT (A:=[_,_,_]))) ?_;rintro _ E ⟨I,O,rfl,fF⟩;refine OD.perm (kf (A:=[_,_,_])) ?_;refine aG 2 ?_;refine OD.storeAt (k:=2) (cs':=flatMap gO (L.set (da t k h t.root m).toNat (⟨{p with keys:=ik p.keys (aL p up) up},I,O,E,ai,ci,si⟩:aX))) ap rfl rfl ot rfl rfl ot rfl rfl sizeOf144 rfl (by show 0+(da t k h t.root m).toNat*5+1+1≤(flatMap gO L).length;rw[cm hU];omega) (by show(L.flatMap gO).set (0+(da t k h t.root m).toNat*5+1) _=_;rw[Nat.zero_add];exact vX hU w8 hj (by rw[←ho];unfold gO;rw[yS fE];rfl)) ?_;refine an 131 [6,12,13,15,16,17,18] ?_;refine CD.cut (fun aD=>aD=(⟨131,[(6,cU b6),(12,cU uJ),(13,.list 1 ((je t k h t.root).flatMap cI) (je t k h t.root).length),(15,ae az),(16,ae ((h:Int)-(m:Nat))),(17,.v (.pointer (some ⟨bx,0+(da t k h t.root m).toNat*5,none⟩))),(18,ae (((if p.leaf=true then aL p up else aL p up+1):Nat):Int))],(⟨uJ,75,2,[aN (some ⟨bx,0,none⟩) L.length cap,ae t.root]⟩::⟨b6,75,2,[bF,ae 0]⟩::⟨bx,146,cap*5,flatMap gO (L.set (da t k h t.root m).toNat (⟨{p with keys:=ik p.keys (aL p up) up},I,O,E,ai,ci,si⟩:aX))⟩::(E++(si++((L.eraseIdx (da t k h t.root m).toNat).flatMap bO))))⟩:St)) ?_ ?_
  ·refine cM [6,12,13,15,16,17,18,97] ?_;refine aP 3 ?_ (h:=by exact(cR (mk:=Op.load 4) rfl ot (lA (k:=2) (j:=0) (d:=bI p.leaf) (ls:=(L.set (da t k h t.root m).toNat (⟨{p with keys:=ik p.keys (aL p up) up},I,O,E,ai,ci,si⟩:aX))) hU rfl rfl rfl isAgg4 xI (by rw[getElem_set_self];rfl))));refine bD ?_;refine ax ?_ ?_<;>intro dV fB
   ·have dc:(((if p.leaf=true then aL p up else aL p up+1):Nat):Int)=(((aL p up):Nat):Int)+1:=(by rw[if_neg (by simpa using dV)];rfl)
    refine bX [6,12,13,15,16,17,18] ?_;exact XB
   have dc:(((if p.leaf=true then aL p up else aL p up+1):Nat):Int)=(((aL p up):Nat):Int):=(by rw[if_pos (by simpa using dV)])
   refine CD.skip ?_;exact XB
  rintro _ ⟨rfl⟩;refine aA 4 ?_;refine bQ (cR (mk:=Op.load 70) rfl ot (lA (k:=2) (j:=2) (d:=aN ai p.kids.length ci) (ls:=(L.set (da t k h t.root m).toNat (⟨{p with keys:=ik p.keys (aL p up) up},I,O,E,ai,ci,si⟩:aX))) hU rfl rfl rfl isAgg70 xI (by rw[getElem_set_self];rfl))) ?_;refine aG 2 ?_;refine ew (cu 0 [_]) [.int .i64 0] [_] zeroValue3 runUnderlying70 sizeOf3 (fun ak5=>?_);refine OD.call ap rfl rfl rfl call93 (aaA p.kids (if p.leaf=true then aL p up else aL p up+1) az ai ci si ak5 Gf.1 w4 j9) ⟨ot,ot,ot,trivial⟩ (Perm.cons _ (tF (A:=[_,_,_]))) ?_;rintro _ U ⟨Z,e9,rfl,lI⟩;refine OD.perm (wi (A:=[_,_,_])) ?_;refine aG 2 ?_
  refine OD.storeAt (k:=2) (cs':=flatMap gO (L.set (da t k h t.root m).toNat (⟨(bw p up az),I,O,E,Z,e9,U⟩:aX))) ap rfl rfl ot rfl rfl ot rfl rfl sizeOf70 rfl (by show 0+(da t k h t.root m).toNat*5+2+1≤(flatMap gO (L.set (da t k h t.root m).toNat (⟨{p with keys:=ik p.keys (aL p up) up},I,O,E,ai,ci,si⟩:aX))).length;rw[cm hU,length_set];omega) (by show(flatMap gO (L.set (da t k h t.root m).toNat (⟨{p with keys:=ik p.keys (aL p up) up},I,O,E,ai,ci,si⟩:aX))).set (0+(da t k h t.root m).toNat*5+2) _=_;rw[Nat.zero_add,vX hU (a':=(⟨(bw p up az),I,O,E,Z,e9,U⟩:aX)) w8 xI (by rw[getElem_set_self];show gO (⟨(bw p up az),I,O,E,Z,e9,U⟩:aX)=(gO (⟨{p with keys:=ik p.keys (aL p up) up},I,O,E,ai,ci,si⟩:aX)).set 2 _;unfold gO;rw[show((⟨(bw p up az),I,O,E,Z,e9,U⟩:aX)).p.kids.length=p.kids.length+1 from yS Gf.1];rfl),set_set]) ?_;have vK:(E++(U++((L.eraseIdx (da t k h t.root m).toNat).flatMap bO))).Perm ((L.set (da t k h t.root m).toNat (⟨(bw p up az),I,O,E,Z,e9,U⟩:aX)).flatMap bO):=(by have:=(yL bO hj (⟨(bw p up az),I,O,E,Z,e9,U⟩:aX)).symm;rw[show bO (⟨(bw p up az),I,O,E,Z,e9,U⟩:aX)=E++U from rfl,append_assoc] at this;exact this)
  refine OD.perm (S':=⟨uJ,75,2,[aN (some ⟨bx,0,none⟩) (L.set (da t k h t.root m).toNat (⟨(bw p up az),I,O,E,Z,e9,U⟩:aX)).length cap,ae t.root]⟩::⟨b6,75,2,[bF,ae 0]⟩::(([⟨bx,146,cap*5,flatMap gO (L.set (da t k h t.root m).toNat (⟨(bw p up az),I,O,E,Z,e9,U⟩:aX))⟩]:List ah)++(L.set (da t k h t.root m).toNat (⟨(bw p up az),I,O,E,Z,e9,U⟩:aX)).flatMap bO)) (by rw[length_set];exact Perm.cons _ (Perm.cons _ (Perm.cons _ vK))) ?_;have Wy:ue (L.set (da t k h t.root m).toNat (⟨(bw p up az),I,O,E,Z,e9,U⟩:aX)) (some ⟨bx,0,none⟩) cap [⟨bx,146,cap*5,flatMap gO (L.set (da t k h t.root m).toNat (⟨(bw p up az),I,O,E,Z,e9,U⟩:aX))⟩]:=bM xH xO;have jZ:∀o∈(L.set (da t k h t.root m).toNat (⟨(bw p up az),I,O,E,Z,e9,U⟩:aX)),rp o:=fun x hx=>by rcases mem_or_eq_of_mem_set hx with hx|rfl;exact aV x hx;exact⟨fF,lI⟩
  refine an 131 [6,12,13,16,17] ?_;refine cM [6,12,13,16,116] ?_;refine aP 3 ?_ (h:=by exact(cR (mk:=Op.load 144) rfl ot (lA (k:=2) (j:=1) (d:=aN I (bw p up az).keys.length O) (ls:=(L.set (da t k h t.root m).toNat (⟨(bw p up az),I,O,E,Z,e9,U⟩:aX))) hU rfl rfl rfl isAgg144 xI (by rw[getElem_set_self];rfl))));refine bD ?_;refine ax ?_ ?_<;>intro fD gG
  ·have h4:(bw p up az).keys.length≤4:=(by have:=of_decide_eq_true fD;omega)
   refine CD.exit ?_;refine⟨_,aJ,(L.set (da t k h t.root m).toNat (⟨(bw p up az),I,O,E,Z,e9,U⟩:aX)),(some ⟨bx,0,none⟩),cap,[⟨bx,146,cap*5,flatMap gO (L.set (da t k h t.root m).toNat (⟨(bw p up az),I,O,E,Z,e9,U⟩:aX))⟩],t.root,Wy,jZ,(by rw[afw hm he (by rw[←gW];exact h4),←gW,map_set];rfl),vF,rfl⟩
  have h4:¬(bw p up az).keys.length≤4:=(by have:=of_decide_eq_false fD;omega)
  have h5:(bw p up az).keys.length=5:=(by have:=full.eI;omega)
  refine dG 2 ?_;refine bQ (dw 1 (h:=by first|exact .l (j:=h-m) w4 hW|exact .r (j:=h-m) w4 hW)) ?_;refine bQ (cR (mk:=Op.load 3) rfl ot (rD (d:=ae (da t k h t.root m)) (i:=h-m) eG isAgg3 hW (by rw[YQ];rfl))) ?_;have lj:(L.set (da t k h t.root m).toNat (⟨(bw p up az),I,O,E,Z,e9,U⟩:aX)).length=L.length:=length_set ..;refine OD.call ap rfl rfl rfl call94 (ab2 (L.set (da t k h t.root m).toNat (⟨(bw p up az),I,O,E,Z,e9,U⟩:aX)) uJ t.root (da t k h t.root m) (some ⟨bx,0,none⟩) cap [⟨bx,146,cap*5,flatMap gO (L.set (da t k h t.root m).toNat (⟨(bw p up az),I,O,E,Z,e9,U⟩:aX))⟩] (by rw[lj];exact Oe) (bw p up az) (by rw[getElem_set_self]) (by rw[lj];omega) Wy jZ h5 (fun hl=>by have:=full.leaf hl;omega) (fun hl=>by have:=(full.node hl).1;omega) (fun x hx=>(full.lC x hx).2) full.hlen) ⟨ot,ot,trivial⟩ (Perm.cons _ (perm_append_singleton _ _).symm) ?_;rintro _ _ ⟨rfl,L3,HN,GI,HO,ak6,xD,hL3,rfl⟩;refine OD.perm (Perm.cons _ (perm_append_singleton _ _)) ?_;have CP:kE t k row h (m+1)=(⟨L3.map aX.p,t.root⟩,some (gM (bw p up az),((L.set (da t k h t.root m).toNat (⟨(bw p up az),I,O,E,Z,e9,U⟩:aX)).length:Int))):=(by rw[adN hm he (by rw[←gW];exact h4),←gW,hL3,lj];unfold jo;show(({ag:=(map aX.p L).set _ _++_,root:=t.root}:aF),_)=_;rw[map_set,set_set,length_map])
  refine an 131 [6,12,13,14,15,16] ?_;refine bX [6,12,13,14,15,16] ?_;refine⟨((m+1),(gM (bw p up az)),((L.set (da t k h t.root m).toNat (⟨(bw p up az),I,O,E,Z,e9,U⟩:aX)).length:Int),L3,HN,GI,HO),_,cn,aJ,w4,CP,ak6,xD,rfl⟩
 rintro _ ⟨L,ad,cap,Sx,root,dX,aV,GK,pL,rfl⟩;refine af [6,12,128] ?_;refine ax ?_ ?_<;>intro iP o9
 ·refine aA 1 ?_;refine aM 1 [_,_] sizeOf75 ?_;refine an 131 [6,7] ?_;refine aK [] ?_;unfold pi;rw[if_pos hz,if_neg w4,if_neg xM,if_pos (by rw[GK];show 4000<(L.map aX.p).length;rw[length_map];omega)];exact y7 _
 refine aA 1 ?_;refine aM 1 [_,_] sizeOf75 ?_;refine an 131 [6,7] ?_;refine aK (Sx++L.flatMap bO) ?_;unfold pi;rw[if_pos hz,if_neg w4,if_neg xM,if_neg (by rw[GK];show ¬4000<(L.map aX.p).length;rw[length_map];omega)];exact⟨_,rfl,L,ad,cap,Sx,by rw[GK],dX,aV,by rw[GK],rfl⟩
theorem ab3(t:aF)(h:Nat)(k:K)(row:Int)(hb:∀p∈t.ag,p.keys.length≤maxLen∧p.kids.length≤maxLen)(E:gD t=0→Valid t h):VP Tryz.prog G 50 [.agg (cT t),au 1 cB k,ae row] (.dh [.agg (cT (pi t k row h).1),ae (pi t k row h).2]):=(IW t h k row hb E).cover fun r S hr=>hr.view

end Go.Proofs.YtkgmonfgofobaaaGreatDoor.Tw
namespace Go.Proofs.YtkgmonfgofobaaaGreatDoor.Tr
open List
open Go.Proofs.Tryz
open Go.Lib (compareBytes)
variable {t:aF} {h:Nat} {k:K}
variable {n:Nat}
theorem RM(hp:∀p∈t.ag,eH p t.ag.length):∀{h h':Nat} {i:Int} {a b c d:K},dM t h i a b→dM t h' i c d→h=h'
 | 0,0,_,_,_,_,_,_,_=>rfl
 | 0,h'+1,i,_,_,_,_,h1,h2=>by have:=h1.2.1;rw[h2.2.1] at this;cases this
 | h+1,0,i,_,_,_,_,h1,h2=>by have:=h1.2.1;rw[h2.2.1] at this;cases this
 | h+1,h'+1,i,_,_,_,_,h1,h2=>by
  obtain⟨p1,p2,p3,O,E⟩:=h1;obtain⟨q1,q2,q3,U,I⟩:=h2;have hn:=((hp _ (jC p1)).node p2).1;have:=RM hp (E 0 w4) (I 0 w4);rw[this]
noncomputable def dr(t:aF):Nat:=Classical.epsilon fun h=>Valid t h
theorem EB(v:Valid t h):Valid t (dr t):=Classical.epsilon_spec (p:=fun h=>Valid t h) ⟨h,v⟩
theorem KK(v:Valid t h):dr t=h:=RM v.fK (EB v).ok v.ok
noncomputable def eu(t:aF):List (K×Int):=kY t (dr t)
theorem Kg(hp:∀p∈t.ag,eH p t.ag.length):∀{h:Nat} {i:Int} {a b:K},dM t h i a b→2 ^ h≤(ids t h i).length
 | 0,i,_,_,_=>by simp[ids]
 | h+1,i,_,_,ok=>by
  obtain⟨p1,p2,p3,O,E⟩:=ok;have hn:=(hp _ (jC p1)).node p2;have hk:1≤(t.pg i).keys.length:=by
   have:=hn.2;cases lG:(t.pg i).keys with
   | nil=>exact absurd lG this
   | cons _ _=>simp
  have h0:=Kg hp (E 0 w4);have h1:=Kg hp (E 1 w4);have key:∀(l:List Int) (h2:2≤l.length),2 ^ h≤(ids t h (l[0]'w4)).length→2 ^ h≤(ids t h (l[1]'w4)).length→2 ^ h+2 ^ h≤(l.flatMap (ids t h)).length:=by
   intro l h2 I a1;match l,h2 with
   | x::y::r,_ =>
    simp only[flatMap_cons,length_append];simp only[getElem_cons_zero,getElem_cons_succ] at I a1;omega
  have:=key _ w4 h0 h1;rw[ids,length_cons,Nat.pow_succ];omega
theorem afx(v:Valid t h):h≤11:=by
 have h1:=Kg v.fK v.ok;rw[v.all] at h1;have h2:=v.nW;refine Nat.le_of_not_lt fun h3=>?_;have:2 ^ 12≤2 ^ h:=Nat.pow_le_pow_right w8 h3;omega
structure iN (t:aF) (n:Nat):Prop where
 val:Valid t (dr t)
 eI:t.ag.length≤1+13*n
theorem iN.mono{m:Nat}(g:iN t n)(h:n≤m):iN t m:=⟨g.val,by have:=g.eI;omega⟩
theorem adO:iN qc 0:=⟨EB P1,by decide⟩
theorem adP:eu qc=[]:=by unfold eu;rw[KK P1];exact adq
theorem ET{row:Int}(g:iN t n)(hn:n≤300)(lf:∀x∈eu t,x.1≠k)(hk:1≤k.length∧k.length≤100)(hr:0≤row) :
  iN (gH t (dr t) k row) (n+1)∧(gH t (dr t) k row).ag.length≤4000∧∀x,x∈eu (gH t (dr t) k row)↔x=(k,row)∨x∈eu t:=by
 have E:=afx g.val;have hf:=g.eI;obtain⟨h',_,v,⟨_,hm⟩,he⟩:=abC g.val lf hk hr w4;refine⟨⟨EB v,by omega⟩,v.nW,fun x=>?_⟩;unfold eu;rw[KK v];exact he x
theorem Js(g:iN t n)(ht:BI t k (dr t)):iN (gI t (dr t) k) n∧∀x,x∈eu (gI t (dr t) k)↔x∈eu t∧x.1≠k:=by
 obtain⟨v,hl,he⟩:=abD g.val ht;refine⟨⟨EB v,by have:=g.eI;omega⟩,fun x=>?_⟩;unfold eu;rw[KK v];exact he x

end Go.Proofs.YtkgmonfgofobaaaGreatDoor.Tr
namespace Go.Proofs.YtkgmonfgofobaaaGreatDoor.Tw
open List
open Go.Proofs.Tryz
open Go.RowKit V Tr Pk
open Go.Lib (compareBytes)
variable {k:K} {t:aF} {n:Nat} {row:Int}
theorem afy(h:1≤k.length∧k.length≤100):oG k=true:=decide_eq_true h
theorem BJ(g:iN t n)(hk:1≤k.length∧k.length≤100):lD t k=0:=JE (Jp g.val) (afy hk)
theorem Bi(g:iN t n)(k:K):iA t k (dr t)=true↔∃row,(k,row)∈eu t:=(Eh g.val k).trans (Bh g.val k)
theorem EU(g:iN t n):iA t k (dr t)=false↔∀x∈eu t,x.1≠k:=by
 constructor
 ·exact fun h=>Qd g.val h
 intro h;cases hq:iA t k (dr t) with
 | false=>rfl
 | true=>obtain⟨row,hr⟩:=(Bi g k).1 hq;exact absurd rfl (h _ hr)
theorem afz(g:iN t n)(hk:1≤k.length∧k.length≤100)(hr:0≤row)(h:iA t k (dr t)=true):pi t k row (dr t)=(vR,9):=by
 unfold pi;rw[if_pos (BJ g hk),if_neg w4,if_pos h]
theorem UU(g:iN t n)(hn:n≤300)(hk:1≤k.length∧k.length≤100)(hr:0≤row)(h:iA t k (dr t)=false):pi t k row (dr t)=(gH t (dr t) k row,0):=by
 have:=(ET g hn ((EU g).1 h) hk hr).2.1;unfold pi;rw[if_pos (BJ g hk),if_neg w4,if_neg (by rw[h];decide),if_neg w4]
theorem TQ(g:iN t n)(hk:1≤k.length∧k.length≤100)(h:iA t k (dr t)=true):rJ t k (dr t)=(gI t (dr t) k,0):=by
 unfold rJ;rw[if_pos (BJ g hk),if_pos h]
theorem afA(g:iN t n)(hk:1≤k.length∧k.length≤100)(h:iA t k (dr t)=false):findF t k (dr t)=(0,8):=by
 unfold findF;rw[if_pos (BJ g hk),if_neg (by rw[h];decide)]
theorem RN(g:iN t n)(hk:1≤k.length∧k.length≤100)(h:(k,row)∈eu t):findF t k (dr t)=(row,0):=by
 unfold findF dR;rw[if_pos (BJ g hk),if_pos ((Bi g k).2 ⟨row,h⟩)];obtain⟨_,_,e⟩:=(found g.val k row).1 h;rw[e]
theorem BA(g:iN t n):∀p∈t.ag,p.keys.length≤maxLen∧p.kids.length≤maxLen:=adE g.val
variable {G:List (Nat×List Value)}
theorem RO(g:iN t n)(k:K)(row:Int):VP Tryz.prog G 50 [.agg (cT t),au 1 cB k,ae row] (.dh [.agg (cT (pi t k row (dr t)).1),ae (pi t k row (dr t)).2]):=ab3 t (dr t) k row (BA g) fun _=>g.val
theorem RP(g:iN t n)(k:K):VP Tryz.prog G 113 [.agg (cT t),au 1 cB k] (.dh [.agg (cT (rJ t k (dr t)).1),ae (rJ t k (dr t)).2]):=abZ t (dr t) k (BA g) fun _=>g.val
theorem KL(g:iN t n)(k:K):VP Tryz.prog G 83 [.agg (cT t),au 1 cB k] (.dh [ae (findF t k (dr t)).1,ae (findF t k (dr t)).2]):=agW t (dr t) k (BA g) fun _=>g.val
theorem afB(g:iN t n):VP Tryz.prog G 62 [.agg (cT t)] (ae 0):=by have:=pQ (G:=G) t (BA g);rwa [Jp g.val] at this
noncomputable def oZ(t:aF)(f eY:K):List (K×Int):=wV t (dr t) f eY
theorem UW(g:iN t n)(f eY:K)(hf:f.length≤100)(ht:eY.length≤100):VP Tryz.prog G 32 [.agg (cT t),au 1 cB f,au 1 cB eY] (.dh [.list 2 ((oZ t f eY).flatMap cE) (oZ t f eY).length,ae 0]):=by
 have:=afu (G:=G) t (dr t) (BA g) (fun _=>g.val) f eY;unfold wO at this;rwa [if_pos (Jp g.val),if_pos ⟨hf,ht⟩] at this
theorem EW(t:aF):oZ t [] []=eu t:=by
 unfold oZ wV eu;rw[adG,IU fun x _=>by simp[vf]]
theorem TR(g:iN t n):VP Tryz.prog G 32 [.agg (cT t),bF,bF] (.dh [.list 2 ((oZ t [] []).flatMap cE) (oZ t [] []).length,ae 0]):=VC.eY (args':=[.agg (cT t),bF,bF]) (UW g [] [] w8 w8) ⟨.inl rfl,.inr ⟨1,rfl,rfl⟩,.inr ⟨1,rfl,rfl⟩,trivial⟩

end Go.Proofs.YtkgmonfgofobaaaGreatDoor.Tw
namespace Go.Proofs.YtkgmonfgofobaaaGreatDoor.Ba
open List
open Go.Proofs.Tryz
open Go.RowKit V Pk Tr Vl Go.Proofs.YtkgmonfgofobaaaGreatDoor.Nm Pc Cd Ex Tw
structure aH where
 nm:ByteArray
 ay:List cx
 rows:List (List Vl)
 ix:aF
def gl(r:List Vl):List D:=[au 3 cV r]
theorem kg(r:List Vl):(gl r).length=1:=rfl
theorem RQ(r:List Vl):(gl r).all V.one=true:=rfl
def cX(t:aH):List D:=[aZ t.nm,au 2 cC t.ay,au 1 gl t.rows,au 5 cP t.ix.ag,ae t.ix.root]
theorem jW(t:aH):(cX t).length=5:=rfl
def aT(b:List aH)(nm:ByteArray):Int:=dA (fun t=>t.nm.toList==nm.toList) b
def cH(r:List Vl):K:=(ga (r.take 1)).1
variable {G:List (Nat×List Value)}
theorem adQ(t:aH)(nm:ByteArray)(b:Nat):VC Tryz.prog G 61 [.agg (cX t),cU b] [⟨b,9,1,[aZ nm]⟩] (fun r S=>r=bI (t.nm.toList==nm.toList)∧S=[⟨b,9,1,[aZ nm]⟩]):=by
 refine VC.body func61 rfl ntmps61 aQ fun X0 w0 bf=>?_;unfold cX;refine bS ?_;refine OD.box (ds:=[_,_,_,_,_]) ap rfl rfl ot rfl rfl (fun b2=>?_);refine an 8 [1,2] ?_;refine af [3] ?_;refine aK [⟨b,9,1,[aZ nm]⟩] ?_;exact⟨rfl,rfl⟩
theorem ab4(ls:List aH)(I:Nat)(E:List D)(S:List ah)(p:aH→Bool)(fb:∀args w,(callFunc I args).run Tryz.prog w = .ok (.enter I args) w)(hp:∀x∈ls,VC Tryz.prog G I (.agg (cX x)::E) S (fun r S'=>r=bI (p x)∧S'=S))(hlen:ls.length≤1000000):VC Tryz.prog G 60 [au 5 cX ls,.eA (.func I) E] S (fun r S'=>r=ae (dA p ls)∧S'=S):=by
 refine VC.body func60 rfl ntmps60 aQ fun X0 w0 bf=>?_;refine aA 1 ?_;refine OD.wk (Wk.dP (n:=19) (l':=[(0,_),(1,_)]) (S':=S) rfl nc fy) ?_;refine OD.nil ?_;refine aA 3 ?_;refine OD.wk (Wk.dP (n:=19) (l':=[(0,_),(1,_),(7,_),(8,_)]) (S':=S) rfl nc fy) ?_;refine OD.nil ?_;refine ez [0,1,7] (fun aR _ (k:Nat) aD=>(k≤ls.length)∧(∀x∈ls.take k,p x=false)∧aD=(⟨19,(8,ae (k:Nat))::aR,S⟩:St)) (fun (k:Nat)=>ls.length-k) 0 ⟨Nat.zero_le _,bq,rfl⟩ ?_;rintro k _ ⟨hk,h0,rfl⟩;refine aA 1 ?_;refine OD.wk (Wk.dP (n:=19) (l':=[(0,_),(1,_),(7,_),(8,_),(9,_)]) (S':=S) rfl nc fy) ?_;refine OD.nil ?_;refine ax ?_ ?_<;>intro aO bA
 ·refine aA 2 ?_;refine OD.wk (Wk.dP (n:=19) (l':=[(0,_),(1,_),(5,_),(7,_),(8,_)]) (S':=S) rfl nc fy) ?_;refine OD.nil ?_;refine aA 5 ?_;refine OD.lS (f:=I) (args:=[_]) ap rfl rfl (tL rfl lk) fb (hp (ls[k]'w4) (getElem_mem _)) rfl ⟨tL rfl lk,trivial⟩ (I3 _) ?_;rintro _ S2 ⟨rfl,iH⟩;rw[iH];clear iH;refine OD.wk (Wk.dP (n:=19) (l':=[(0,_),(1,_),(5,_),(7,_),(8,_),(16,_)]) (S':=S) rfl nc fy) ?_;refine OD.nil ?_;refine ax ?_ ?_<;>intro aY cz
  ·refine aA 2 ?_;refine OD.wk (Wk.dP (n:=19) (l':=[(4,_)]) (S':=S) rfl nc fy) ?_;refine OD.nil ?_;refine aK S ?_;refine⟨?_,rfl⟩;first|(rw[we w4 h0 uu])|(rw[vY w4 h0])
  refine dG 2 ?_;refine OD.wk (Wk.dP (n:=19) (l':=[(0,_),(1,_),(7,_),(8,_)]) (S':=S) rfl nc fy) ?_;refine OD.nil ?_;refine⟨k+1,_,cn,aJ,w4,(by rw[take_succ_eq_append_getElem w4];intro x hx;rcases mem_append.1 hx with hx|hx;exact h0 x hx;simp only[mem_singleton] at hx;subst hx;assumption),rfl⟩
 refine aA 1 ?_;refine OD.wk (Wk.dP (n:=19) (l':=[(4,_)]) (S':=S) rfl nc fy) ?_;refine OD.nil ?_;refine aK S ?_;refine⟨?_,rfl⟩;first|(rw[we w4 h0 uu])|(rw[vY w4 h0])
theorem qF(l:List aH)(hl:l.length≤1000)(nm:ByteArray):VP Tryz.prog G 31 [au 5 cX (l),aZ nm] (ae (aT l nm)):=by
 refine VC.body func31 rfl ntmps31 aQ fun X0 w0 bf=>?_;refine bS ?_;refine OD.box (ds:=[_]) ap rfl rfl ot rfl rfl (fun b3=>?_);refine an 8 [0,3] ?_;refine aA 1 ?_;refine bQ (pP (ds:=[_]) rfl ⟨ot,trivial⟩) ?_;refine OD.call ap rfl rfl rfl call60 (ab4 l 61 [cU b3] _ (fun t=>t.nm.toList==nm.toList) call61 (fun h _=>adQ h nm b3) w4) ⟨ot,ot,trivial⟩ (mM (k:=0) rfl) ?_;rintro _ S2 ⟨rfl,iH⟩;rw[iH];clear iH;refine an 8 [4] ?_;exact nE
theorem adR(c:cx)(nm:ByteArray)(b:Nat):VC Tryz.prog G 148 [.agg (cC c),cU b] [⟨b,9,1,[aZ nm]⟩] (fun r S=>r=bI (c.n.toList==nm.toList)∧S=[⟨b,9,1,[aZ nm]⟩]):=by
 refine VC.body func148 rfl ntmps148 aQ fun X0 w0 bf=>?_;exact Xw
theorem IY(t:aH)(hl:t.ay.length≤1000)(nm:ByteArray):VP Tryz.prog G 109 [.agg (cX t),aZ nm] (ae (bz t.ay nm)):=by
 refine VC.body func109 rfl ntmps109 aQ fun X0 w0 bf=>?_;unfold cX;refine bS ?_;refine OD.box (ds:=[_,_,_,_,_]) ap rfl rfl ot rfl rfl (fun b2=>?_);refine OD.box (ds:=[_]) ap rfl rfl ot rfl rfl (fun b3=>?_);refine an 9 [2,3] ?_;refine aA 2 ?_;refine bQ (pP (ds:=[_]) rfl ⟨ot,trivial⟩) ?_;refine OD.call ap rfl rfl rfl call125 (Pc.Jd t.ay 148 [cU b3] _ (fun c=>c.n.toList==nm.toList) call148 (fun h _=>adR h nm b3) w4) ⟨ot,ot,trivial⟩ (mM (k:=0) rfl) ?_;rintro _ S2 ⟨rfl,iH⟩;rw[iH];clear iH;refine an 9 [4] ?_;exact nE

end Go.Proofs.YtkgmonfgofobaaaGreatDoor.Ba
namespace Go.Proofs.YtkgmonfgofobaaaGreatDoor.Ba
open List
open Go.Proofs.Tryz
open Go.RowKit V Pk Tr Vl Go.Proofs.YtkgmonfgofobaaaGreatDoor.Nm Pc Cd Ex Tw
variable {G:List (Nat×List Value)} {m:Int}
def CF(k:K)(r:D)(S:List ah):Prop:=∃ad cap,r=aN ad k.length cap∧bg 5 1 (k.flatMap cB) k.length ad cap S
theorem CF.view{k:K}{r:D}{S:List ah}(h:CF k r S):View S r (au 1 cB k):=by
 obtain⟨ad,cap,rfl,ho⟩:=h;exact lq ho (cm pT _) (fun B h=>h)
theorem CF.flat{k:K}{r:D}{S:List ah}(h:CF k r S):kp r=true∧∀B∈S,∀d∈B.cs,kp d=true:=by
 obtain⟨ad,cap,rfl,ho⟩:=h;refine⟨rfl,fun B E d hd=>?_⟩;rcases ho with ⟨_,_,_,_,rfl⟩|⟨b,_,_,_,rfl⟩
 ·cases E
 rw[mem_singleton] at E;subst E;obtain⟨n,_,hn⟩:=mem_flatMap.1 hd;rw[cB,mem_singleton] at hn;subst hn;rfl
theorem KM(hG:(2,[Value.int .i64 m])∈G)(r:List Vl)(h1:1≤r.length)(h2:r.length≤1000000)(aV:∀v∈r,v.Ok):VC Tryz.prog G 51 [au 3 cV r] [] (CF (cH r)):=by
 refine VC.body func51 rfl ntmps51 aQ fun X0 w0 bf=>?_;have cY:=dN;refine af [0] ?_;refine aA 1 ?_;refine bQ (eE (h:=1) rfl ot trivial ⟨_,bP⟩ (by exact kO eZ (fun h=>by cases h) runUnderlying43 sizeOf33 w4)) ?_;refine OD.call ap rfl rfl rfl call95 (UG hG (r.take 1) pp (fun v U=>aV v (mem_of_mem_take U))) ⟨ot,trivial⟩ (fa _) ?_;rintro _ O ⟨E,I,rfl,jZ⟩;refine OD.perm (Perm.of_eq (append_nil O)) ?_;refine an 12 [3] ?_;refine af [2] ?_;refine aK O ?_;exact⟨E,I,rfl,jZ⟩
theorem zf(hG:(2,[Value.int .i64 m])∈G)(r:List Vl)(h1:1≤r.length)(h2:r.length≤1000000)(aV:∀v∈r,v.Ok):VP Tryz.prog G 51 [au 3 cV r] (.list 1 ((cH r).flatMap cB) (cH r).length):=(KM hG r h1 h2 aV).cover fun r S hr=>hr.view
theorem aaB:(Tryz.prog.info? 33).map (fun i=>(i.zero,i.size,i.bytes))=some (some (.agg #[.int .i64 0,.int .i64 0,.string ⟨#[]⟩]),3,32):=by kernel_rfl
theorem Qe(a:List Vl)(ha:a.length≤1000000):VC Tryz.prog G 33 [au 3 cV a] [] (fun r S=>∃ad cap,r=aN ad a.length cap∧bg 33 3 (a.flatMap cV) a.length ad cap S):=by
 refine VC.body func33 rfl ntmps33 aQ fun X0 w0 bf=>?_;have cY:=dN;refine af [0] ?_;refine aA 1 ?_;refine OD.zn ap rfl rfl ot bP underlying43 (fun O xU=>?_);refine an 8 [0,4] ?_;refine ax ?_ ?_<;>intro aO bA
 ·exact z51
 refine bS ?_;refine OD.zo ap rfl rfl runUnderlying43 sizeOf33 (fun b5=>?_);refine aG 1 ?_;refine OD.pO (ls:=([]:List Vl)) (new:=a) (Sq:=[⟨b5,33,0*3,[]⟩]) eZ BF ap rfl rfl underlying43 aaB rfl w8 runUnderlying43 sizeOf33 ot (.inr ⟨b5,rfl,Nat.le_refl _,Nat.zero_le _,rfl⟩) (dg (A:=[])) ot ig ig (fun E I S7 qj=>?_);exact Hi
theorem Qf(a:List Vl)(ha:a.length≤1000000):VP Tryz.prog G 33 [au 3 cV a] (au 3 cV a):=(Qe a ha).cover fun r S ⟨ad,cap,h,ho⟩=>by subst h;exact lq ho (cm eZ _) (fun B h=>h)
theorem aaC:(Tryz.prog.info? 28).map (fun i=>(i.zero,i.size,i.bytes))=some (some (.agg #[.string ⟨#[]⟩,.int .i64 0]),2,24):=by kernel_rfl
theorem ab5(a:List cx)(ha:a.length≤1000000):VC Tryz.prog G 84 [au 2 cC a] [] (fun r S=>∃ad cap,r=aN ad a.length cap∧bg 28 2 (a.flatMap cC) a.length ad cap S):=by
 refine VC.body func84 rfl ntmps84 aQ fun X0 w0 bf=>?_;have cY:=dN;refine af [0] ?_;refine aA 1 ?_;refine OD.zn ap rfl rfl ot bP underlying29 (fun O xU=>?_);refine an 8 [0,4] ?_;refine ax ?_ ?_<;>intro aO bA
 ·exact z51
 refine bS ?_;refine OD.zo ap rfl rfl runUnderlying29 sizeOf28 (fun b5=>?_);refine aG 1 ?_;refine OD.pO (ls:=([]:List cx)) (new:=a) (Sq:=[⟨b5,28,0*2,[]⟩]) lu agC ap rfl rfl underlying29 aaC rfl w8 runUnderlying29 sizeOf28 ot (.inr ⟨b5,rfl,Nat.le_refl _,Nat.zero_le _,rfl⟩) (dg (A:=[])) ot ig ig (fun E I S7 qj=>?_);exact Hi
theorem Qg(a:List cx)(ha:a.length≤1000000):VP Tryz.prog G 84 [au 2 cC a] (au 2 cC a):=(ab5 a ha).cover fun r S ⟨ad,cap,h,ho⟩=>by subst h;exact lq ho (cm lu _) (fun B h=>h)
theorem ab6(a:List Int)(ha:a.length≤1000000):VP Tryz.prog G 131 [au 1 Tw.cI a] (au 1 Tw.cI a):=(Tw.ru a ha).cover fun r S ⟨ad,cap,h,ho⟩=>by subst h;exact lq ho (cm Tw.eG _) (fun B h=>h)

end Go.Proofs.YtkgmonfgofobaaaGreatDoor.Ba
