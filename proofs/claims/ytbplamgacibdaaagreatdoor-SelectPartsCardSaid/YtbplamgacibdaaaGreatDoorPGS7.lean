/-
  GS: walks and plain facts, part 7.
-/
import Derived.Test.YtbplamgacibdaaaGreatDoorPGS6
set_option linter.unusedVariables false
set_option linter.unusedSimpArgs false
set_option maxRecDepth 100000
set_option maxHeartbeats 4000000
namespace Go.Proofs.YtbplamgacibdaaaGreatDoor
open List
namespace Tw
open Go.Proofs.Tryz
open Go.RowKit V Tr Pk
variable {t u:aE} {h:Nat} {k up:K} {row:Int}
noncomputable def qc(t:aE)(k:K)(row:Int)(h:Nat):aE×Int:=if mg t k=0 then (if row<0 then (xG,3) else if iX t k h=true then (xG,9) else if 4000<(ie t h k row).af.length then (xG,10) else (ie t h k row,0)) else (xG,mg t k)
theorem aid{ls:List Int}{r:D}{S:List ag}(h:gI cI 3 1 ls r S):lP r=true/\∀B∈S,∀d∈B.cs,lP d=true:=by
 obtain⟨ad,cap,rfl,ho⟩:=h;refine⟨rfl,fun B hB d hd=>?_⟩;rcases ho with ⟨_,_,_,_,rfl⟩|⟨b,_,_,_,rfl⟩
 ·cases hB
 rw[mem_singleton] at hB;subst hB;obtain⟨n,_,hn⟩:=mem_flatMap.1 hd;rw[cI,mem_singleton] at hn;subst hn;rfl
theorem Se(v:Valid t h)(hf:iX t k h=false):∀x∈lU t h,x.1≠k:=fun x hx e=>by
 have:iX t k h=true:=(Fk v k).2 ((Cb v k).2 ⟨x.2,by rw[<-e];exact hx⟩);rw[hf] at this;cases this
theorem aeS{G:List (Nat×List Value)}(L:List aZ)(b:Nat)(root i:Int)(ad:Option Addr)(cap:Nat)(Sx:List ag)(hi:0<=i/\i<L.length)(p:dc)(E:(L[i.toNat]'w4).p=p)(hn:L.length<=10000)(ev:vC L ad cap Sx)(aQ:∀o∈L,sb o)(h5:p.keys.length=5)(er:p.leaf=true->p.kids.length=5)(I:p.leaf=false->p.kids.length=6)(oW:∀k∈p.keys,k.length<=100)(O:p.high.length<=100) :
 VC Tryz.prog G 74 [da b,ae i] (⟨b,66,2,[aN ad L.length cap,ae root]⟩::(Sx++L.flatMap bO)) (YP L b root i.toNat p):=by
 subst E;exact agw L b root i ad cap Sx hi hn ev aQ h5 er I oW O
theorem agx{ay:Int}(e:lA t k row h (h+1)=(u,some (up,ay)))(hr:u.root=t.root):ie t h k row=⟨u.af++[⟨false,[up],[t.root,ay],[],-1⟩],u.af.length⟩:=by
 unfold ie;rw[<-T9,e];show(⟨u.af++[⟨false,[up],[u.root,ay],[],-1⟩],u.af.length⟩:aE)=_;rw[hr]
theorem aie{ay:Int}{m:Nat}(hm:m<=h)(e:lA t k row h m=(u,some (up,ay)))(h4:(bD (u.pg (dy t k h t.root m)) up ay).keys.length<=4):ie t h k row=u.set (dy t k h t.root m) (bD (u.pg (dy t k h t.root m)) up ay):=by
 have:=R5 hm e;rw[Kx h4] at this;unfold ie;rw[R6 (h-m) (m+1) w4 w4 this];rfl
theorem agy{ay:Int}{m:Nat}(hm:m<=h)(e:lA t k row h m=(u,some (up,ay)))(h4:¬(bD (u.pg (dy t k h t.root m)) up ay).keys.length<=4) :
  lA t k row h (m+1)=(jO u (dy t k h t.root m) (eA (bD (u.pg (dy t k h t.root m)) up ay) u.af.length) (cy (bD (u.pg (dy t k h t.root m)) up ay)),some (iy (bD (u.pg (dy t k h t.root m)) up ay),(u.af.length:Int))):=by
 rw[R5 hm e,J1 h4]
variable {G:List (Nat×List Value)}
theorem acH:(Tryz.prog.info? 129).map (fun i=>(i.zero,i.size,i.bytes))=some (some (.agg #[.bool false,.slice none 0 0,.slice none 0 0,.slice none 0 0,.int .i64 0]),5,88):=by kernel_rfl
theorem J7(t:aE)(h:Nat)(k:K)(row:Int)(hb:∀p∈t.af,p.keys.length<=maxLen/\p.kids.length<=maxLen)(hv:gZ t=0->Valid t h):VC Tryz.prog G 39 [.agg [an 5 cP t.af,ae t.root],an 1 cB k,ae row] [] (Du (qc t k row h)):=by
 refine bn func39 rfl ntmps39 aP fun X0 w0 bj=>?_;have fE:=JC (G:=G) t k hb;unfold cT at fE;have dH:=ey;refine bX ?_;refine cW [_,_] (fun b3=>?_);refine dF (ds:=[_,_]) av rfl rfl zeroValue66 rfl (fun b6=>?_);refine aq 131 [1,2,3,6] ?_;refine cX [1,2,3,6,8] (fE) ?_;refine ax [1,2,3,6,8,23] ?_ ?_<;>intro aM bG
 ·have hn:¬mg t k=0:=(by simpa using aM)
  refine az 2 ?_;refine aR 0 [_,_] sizeOf66 ?_;refine dY 131 [6,7] [] ?_;unfold qc;rw[if_neg hn];exact Aq _
 have hz:mg t k=0:=(by simpa using aM)
 obtain⟨hc,P8⟩:=R9 hz;have v:=hv hc;have Dv:=KD P8;have fF:=rA (G:=G) t h v k w4 (Fl v k);unfold cT at fF;have asH:=v.high;have asI:=v.oT;refine ax [1,2,3,6,27] ?_ ?_<;>intro bf cD
 ·have wX:row<0:=(by omega)
  refine az 1 ?_;refine aR 0 [_,_] sizeOf66 ?_;refine dY 131 [6,7] [] ?_;unfold qc;rw[if_pos hz,if_pos wX];exact Aq _
 have wX:0<=row:=(by omega)
 refine cX [1,2,3,6,11] (fF) ?_;refine ax [1,2,3,6,36] ?_ ?_<;>intro cr cU
 ·have jz:iX t k h=true:=cr;refine az 1 ?_;refine aR 0 [_,_] sizeOf66 ?_;refine dY 131 [6,7] [] ?_;unfold qc;rw[if_pos hz,if_neg w4,if_pos jz];exact Aq _
 have jz:iX t k h=false:=cr;have hne:=Se v jz;refine az 1 ?_;refine fg av rfl rfl rfl call68 (GM t h v) ⟨ot,trivial⟩ (fx _) ?_;rintro _ _ ⟨L,ad,cap,Sx,rfl,ev,aQ,hL,rfl⟩;refine bZ (ew (A:=[_,_])) ?_;refine dF (ds:=[_,_]) av rfl rfl zeroValue66 rfl (fun vV=>?_);refine aR 0 [_,_] sizeOf66 ?_;refine aq 131 [1,2,6,12] ?_;refine az 2 ?_;refine afG av rfl rfl rfl call69 (Vv t h v k) (fun r S=>aid) ⟨⟨_,ot,(by have:=Ma (root:=t.root) ev aQ (fun B hB=>mem_cons_of_mem ⟨vV,66,2,[aN ad L.length cap,ae t.root]⟩ (mem_cons_of_mem ⟨b6,66,2,[bW,ae 0]⟩ (mem_cons_of_mem ⟨b3,66,2,[an 5 cP t.af,ae t.root]⟩ hB)));rw[hL] at this;exact this)⟩,⟨_,ot,fq⟩,trivial⟩ ?_;rintro _ Sw ⟨aw,cw,rfl,how⟩;refine qn (t:=42) (Sq:=Sw) lk how (cz eS _) (Perm.refl _) ?_;refine aq 131 [1,2,6,12,13] ?_;refine cX [6,12,13,14,15] (mW k w4) ?_;refine iT [6,12] (fun aV _ aF=>∃(L:List aZ),∃(ad:Option Addr),∃(cap:Nat),∃(Sx:List ag),∃(root:Int),(vC L ad cap Sx)/\(∀o∈L,sb o)/\(ie t h k row=⟨L.map aZ.p,root⟩)/\(L.length<=10000)/\aF=(⟨131,aV,(⟨vV,66,2,[aN ad L.length cap,ae root]⟩::⟨b6,66,2,[bW,ae 0]⟩::(Sx++L.flatMap bO))⟩:St)) ?_ ?_
 ·refine cN [6,12,13,14,15,16] ?_;refine aT 2 ?_ (h:=by exact(dX (r:=.int .i64 ((h:Nat):Int)) rfl ot cf (iL (by rw[FY,show(((h+1:Nat):Int)-1)=(h:Int) from by omega];exact wrap_i64 w4 w4))));refine bL ?_;refine fa [6,12,13] (fun aV _ (nk:Nat×K×Int×List aZ×Option Addr×Nat×List ag) aF=>match nk with|(m,up,ay,L,ad,cap,Sx)=>(m<=h+1)/\(lA t k row h m=(⟨L.map aZ.p,t.root⟩,some (up,ay)))/\(vC L ad cap Sx)/\(∀o∈L,sb o)/\aF=(⟨131,(14,an 1 cB up)::(15,ae ay)::(16,ae ((h:Int)-(m:Nat)))::aV,(⟨vV,66,2,[aN ad L.length cap,ae t.root]⟩::⟨b6,66,2,[bW,ae 0]⟩::(Sx++L.flatMap bO))⟩:St)) (fun (nk:Nat×K×Int×List aZ×Option Addr×Nat×List ag)=>match nk with|(m,up,ay,L,ad,cap,Sx)=>h+1-m) (0,k,row,L,ad,cap,Sx) ⟨(Nat.zero_le _),(by unfold lA;rw[if_pos rfl,hL]),ev,aQ,rfl⟩ ?_;rintro⟨m,up,ay,L,ad,cap,Sx⟩ _ ⟨hm0,he,ev,aQ,rfl⟩;refine ax [6,12,13,14,15,16,52] ?_ ?_<;>intro de eG
  ·obtain rfl:m=h+1:=(by omega)
   obtain⟨s1,s2,s3,s4⟩:=J4 v hne Dv wX w4 he;have sc:L.length<=t.af.length+(h+1):=(by rw[<-length_map (f:=aZ.p)];exact s2)
   have hul:=ah8 v hne Dv wX w4 he;refine az 3 ?_;refine eH (cx 0 [_]) [.slice none 0 0] [_] zeroValue86 runUnderlying127 sizeOf86 (fun lH=>?_);refine aG 3 ?_;refine eH (cx 0 [_,_]) [.int .i64 0,.int .i64 0] [_,_] zeroValue3 runUnderlying61 sizeOf3 (fun nA=>?_);refine aG 1 ?_;refine eH (cx 0 [_]) [.bool false,.slice none 0 0,.slice none 0 0,.slice none 0 0,.int .i64 0] [_,_,_,_,_] zeroValue129 runUnderlying64 sizeOf129 (fun PG=>?_);refine adV (cs':=gO (⟨⟨false,[up],[t.root,ay],[],-1⟩,some ⟨lH,0,none⟩,1,[⟨lH,86,1*1,flatMap cK [up]⟩],some ⟨nA,0,none⟩,2,[⟨nA,3,2*1,flatMap cI [t.root,ay]⟩]⟩:aZ)) rfl ⟨fq,fq,fq,zX,fq,trivial⟩ ?_;refine gh 0 62 5 1 ?_;refine fY (ls:=L) (new:=[(⟨⟨false,[up],[t.root,ay],[],-1⟩,some ⟨lH,0,none⟩,1,[⟨lH,86,1*1,flatMap cK [up]⟩],some ⟨nA,0,none⟩,2,[⟨nA,3,2*1,flatMap cI [t.root,ay]⟩]⟩:aZ)]) (Sq:=Sx) ju Gy av rfl rfl underlying64 acH rfl w8 ot ev (pS (A:=[_,_,_,_])) ot bp oA oB (fun EV yP aoa aob=>?_);refine aG 1 ?_;refine aR 3 [_,_] sizeOf64 ?_;refine aq 131 [6,12] ?_;refine az 3 ?_
   refine bQ (dX (r:=.int .i64 (L.length:Nat)) rfl ot cf (iL (by rw[length_append,show(((L.length+[(⟨⟨false,[up],[t.root,ay],[],-1⟩,some ⟨lH,0,none⟩,1,[⟨lH,86,1*1,flatMap cK [up]⟩],some ⟨nA,0,none⟩,2,[⟨nA,3,2*1,flatMap cI [t.root,ay]⟩]⟩:aZ)].length:Nat):Int)-1)=(L.length:Int) from by simp];exact wrap_i64 w4 w4))) ?_;refine aG 1 ?_;refine aR 3 [_,_] sizeOf3 ?_;have hX:((⟨nA,3,2*1,flatMap cI [t.root,ay]⟩:ag)::⟨lH,86,1*1,flatMap cK [up]⟩::L.flatMap bO).Perm ((L++[(⟨⟨false,[up],[t.root,ay],[],-1⟩,some ⟨lH,0,none⟩,1,[⟨lH,86,1*1,flatMap cK [up]⟩],some ⟨nA,0,none⟩,2,[⟨nA,3,2*1,flatMap cI [t.root,ay]⟩]⟩:aZ)]).flatMap bO):=(by rw[UB];exact(Perm.swap _ _ _).trans (perm_append_comm (l₁:=[_,_])))
   refine bZ (S':=⟨vV,66,2,[aN (some ⟨EV,0,none⟩) (L++[(⟨⟨false,[up],[t.root,ay],[],-1⟩,some ⟨lH,0,none⟩,1,[⟨lH,86,1*1,flatMap cK [up]⟩],some ⟨nA,0,none⟩,2,[⟨nA,3,2*1,flatMap cI [t.root,ay]⟩]⟩:aZ)]).length yP,ae (L.length:Nat)]⟩::⟨b6,66,2,[bW,ae 0]⟩::(([⟨EV,129,yP*5,flatMap gO (L++[(⟨⟨false,[up],[t.root,ay],[],-1⟩,some ⟨lH,0,none⟩,1,[⟨lH,86,1*1,flatMap cK [up]⟩],some ⟨nA,0,none⟩,2,[⟨nA,3,2*1,flatMap cI [t.root,ay]⟩]⟩:aZ)])⟩]:List ag)++(L++[(⟨⟨false,[up],[t.root,ay],[],-1⟩,some ⟨lH,0,none⟩,1,[⟨lH,86,1*1,flatMap cK [up]⟩],some ⟨nA,0,none⟩,2,[⟨nA,3,2*1,flatMap cI [t.root,ay]⟩]⟩:aZ)]).flatMap bO)) (by exact(perm_middle (l₁:=[_,_,_])).trans (Perm.cons _ ((perm_middle (l₁:=[_,_,_])).trans (Perm.cons _ (Perm.cons _ hX))))) ?_;refine aq 131 [6,12] ?_;refine qq ?_
   refine⟨_,aI,(L++[(⟨⟨false,[up],[t.root,ay],[],-1⟩,some ⟨lH,0,none⟩,1,[⟨lH,86,1*1,flatMap cK [up]⟩],some ⟨nA,0,none⟩,2,[⟨nA,3,2*1,flatMap cI [t.root,ay]⟩]⟩:aZ)]),(some ⟨EV,0,none⟩),yP,[⟨EV,129,yP*5,flatMap gO (L++[(⟨⟨false,[up],[t.root,ay],[],-1⟩,some ⟨lH,0,none⟩,1,[⟨lH,86,1*1,flatMap cK [up]⟩],some ⟨nA,0,none⟩,2,[⟨nA,3,2*1,flatMap cI [t.root,ay]⟩]⟩:aZ)])⟩],(L.length:Nat),(bN aoa aob),(fun o ho=>by rcases mem_append.1 ho with ho|ho;exact aQ o ho;rw[mem_singleton] at ho;subst ho;exact⟨bN (Nat.le_refl _) (show 1<=maxLen by decide),bN (Nat.le_refl _) (show 2<=maxLen by decide)⟩),(by rw[agx he rfl];show(⟨map aZ.p L++[_],((map aZ.p L).length:Int)⟩:aE)=_;rw[map_append,length_map];rfl),Hq,rfl⟩
  have hm:m<=h:=(by omega)
  have hP:=ah9 v hne Dv wX hm he;obtain⟨s1,s2,s3,s4⟩:=J4 v hne Dv wX w4 he;have sc:L.length<=t.af.length+m:=(by rw[<-length_map (f:=aZ.p)];exact s2)
  have P9:0<=(dy t k h t.root m)/\(dy t k h t.root m)<L.length:=(by have:=hP.rg;rw[<-length_map (f:=aZ.p)];exact this)
  have hj:(dy t k h t.root m).toNat<L.length:=(by omega)
  have hpj:L[(dy t k h t.root m).toNat].p=(⟨L.map aZ.p,t.root⟩:aE).pg (dy t k h t.root m):=WA (t:=(⟨L.map aZ.p,t.root⟩:aE)) rfl hP.rg hj;have po:eT ((⟨L.map aZ.p,t.root⟩:aE).pg (dy t k h t.root m)) (⟨L.map aZ.p,t.root⟩:aE).af.length:=s4 _ (jY hP.rg);have full:=Kv po hP.out hP.len hP.high hP.nn hP.nnl;obtain⟨bx,rfl,gK,y4,rfl⟩:=ev.pos w4;have zo:=aQ _ (getElem_mem hj);obtain⟨o,ho⟩:∃o,o=L[(dy t k h t.root m).toNat]:=⟨_,rfl⟩
  rw[<-ho] at zo hpj;rcases o with ⟨p,ak,ck,sk,ai,ci,si⟩
  have iJ:p=(⟨L.map aZ.p,t.root⟩:aE).pg (dy t k h t.root m):=hpj;obtain⟨cl,lg⟩:oO p.keys ak ck sk/\nP p.kids ai ci si:=zo;rw[<-iJ] at po full;have nO:=po.eU;have eP:=T7 po up;have hul:=hP.len.2;have He:(if p.leaf=true then aS p up else aS p up+1)<=p.kids.length/\p.kids.length<=5:=(by cases gg:p.leaf;(have:=(po.node gg).1;rw[if_neg w8];omega);(have:=po.leaf gg;rw[if_pos rfl];omega))
  have hW:h-m<(jG t k h t.root).length:=(by rw[FY];omega)
  have hWn:(jG t k h t.root)[h-m]=(dy t k h t.root m):=(by have:=R4 (t:=t) (k:=k) (h:=h) (i:=t.root) hm;exact(List.getElem?_eq_some_iff.1 this).2)
  have CU:=v.high;have Xm:=v.oT;have MH:(L.flatMap bO).Perm (sk++(si++((L.eraseIdx (dy t k h t.root m).toNat).flatMap bO))):=(by have:=Ap bO hj;rw[<-ho] at this;exact this.trans XV)
  refine qs (Perm.cons _ (Perm.cons _ (Perm.cons _ MH))) ?_;refine cN [6,12,13,14,15,16,17] ?_;refine aT 4 ?_ (h:=by exact(ei 1 (h:=by first|exact .l (j:=h-m) w4 hW|exact .r (j:=h-m) w4 hW)));refine aT 0 ?_ (h:=by exact(dN (mk:=Op.load 3) rfl ot (sI (d:=ae (dy t k h t.root m)) (i:=h-m) eS isAgg3 hW (by rw[hWn];rfl))));refine aT 0 ?_ (h:=by exact(ei 5 (h:=by first|exact .l (j:=(dy t k h t.root m).toNat) (Int.toNat_of_nonneg P9.1).symm hj|exact .r (j:=(dy t k h t.root m).toNat) (Int.toNat_of_nonneg P9.1).symm hj)));refine bL ?_;refine cN [6,12,13,14,15,16,17,18] ?_;refine aT 2 ?_ (h:=by exact(dN (mk:=Op.load 129) rfl ot (dO (k:=2) (ls:=L) (i:=(dy t k h t.root m).toNat) ju rfl rfl rfl isAgg129 sizeOf129 hj)));refine mr 1 ?_;refine Bb (KC p up po.kI w4) (ha:=by exact⟨⟨_,ot,(by rw[<-ho];exact v8 ⟨fq,mX cl (cz gF _) (fun B hB=>.tail _ (.tail _ (.tail _ (mem_append_left _ hB)))),mX lg (cz eS _) (fun B hB=>.tail _ (.tail _ (.tail _ (mem_append_right _ (mem_append_left _ hB))))),fq,fq,trivial⟩)⟩,⟨_,ot,fq⟩,trivial⟩) (K:=?_);refine bL ?_;refine az 4 ?_;refine bQ (dN (mk:=Op.load 127) rfl ot (l9 (k:=2) (j:=1) (d:=aN ak p.keys.length ck) (ls:=L) ju rfl rfl rfl isAgg127 hj th)) ?_;refine aG 2 ?_;refine eH (cx 0 [_]) [.slice none 0 0] [_] zeroValue86 runUnderlying127 sizeOf86 (fun b89=>?_)
  refine fg av rfl rfl rfl call72 (adg p.keys (aS p up) up ak ck sk b89 eP w4 cl) ⟨ot,ot,ot,trivial⟩ (Perm.cons _ (pS (A:=[_,_,_]))) ?_;rintro _ E ⟨I,O,rfl,eR⟩;refine bZ (kO (A:=[_,_,_])) ?_;refine aG 2 ?_;refine oe (k:=2) (cs':=flatMap gO (L.set (dy t k h t.root m).toNat (⟨{p with keys:=iP p.keys (aS p up) up},I,O,E,ai,ci,si⟩:aZ))) av rfl rfl ot rfl rfl ot rfl rfl sizeOf127 rfl (by show 0+(dy t k h t.root m).toNat*5+1+1<=(flatMap gO L).length;rw[cz ju];omega) (by show(L.flatMap gO).set (0+(dy t k h t.root m).toNat*5+1) _=_;rw[Nat.zero_add];exact B0 ju w8 hj (by rw[<-ho];unfold gO;rw[Af eP];rfl)) ?_;refine aq 131 [6,12,13,15,16,17,18] ?_;refine sG (fun aF=>aF=(⟨131,[(6,da b6),(12,da vV),(13,.list 1 ((jG t k h t.root).flatMap cI) (jG t k h t.root).length),(15,ae ay),(16,ae ((h:Int)-(m:Nat))),(17,.v (.pointer (some ⟨bx,0+(dy t k h t.root m).toNat*5,none⟩))),(18,ae (((if p.leaf=true then aS p up else aS p up+1):Nat):Int))],(⟨vV,66,2,[aN (some ⟨bx,0,none⟩) L.length cap,ae t.root]⟩::⟨b6,66,2,[bW,ae 0]⟩::⟨bx,129,cap*5,flatMap gO (L.set (dy t k h t.root m).toNat (⟨{p with keys:=iP p.keys (aS p up) up},I,O,E,ai,ci,si⟩:aZ))⟩::(E++(si++((L.eraseIdx (dy t k h t.root m).toNat).flatMap bO))))⟩:St)) ?_ ?_
  ·refine cN [6,12,13,15,16,17,18,97] ?_;refine aT 3 ?_ (h:=by exact(dN (mk:=Op.load 4) rfl ot (l9 (k:=2) (j:=0) (d:=bP p.leaf) (ls:=(L.set (dy t k h t.root m).toNat (⟨{p with keys:=iP p.keys (aS p up) up},I,O,E,ai,ci,si⟩:aZ))) ju rfl rfl rfl isAgg4 C2 (by rw[getElem_set_self];rfl))));refine bL ?_;refine cj ?_ ?_<;>intro eo fS
   ·have dA:(((if p.leaf=true then aS p up else aS p up+1):Nat):Int)=(((aS p up):Nat):Int)+1:=(by rw[if_neg (by simpa using eo)];rfl)
    refine cc [6,12,13,15,16,17,18] ?_;exact z84
   have dA:(((if p.leaf=true then aS p up else aS p up+1):Nat):Int)=(((aS p up):Nat):Int):=(by rw[if_pos (by simpa using eo)])
   refine en ?_;exact z84
  rintro _ ⟨rfl⟩;refine az 4 ?_;refine bQ (dN (mk:=Op.load 61) rfl ot (l9 (k:=2) (j:=2) (d:=aN ai p.kids.length ci) (ls:=(L.set (dy t k h t.root m).toNat (⟨{p with keys:=iP p.keys (aS p up) up},I,O,E,ai,ci,si⟩:aZ))) ju rfl rfl rfl isAgg61 C2 (by rw[getElem_set_self];rfl))) ?_;refine aG 2 ?_;refine eH (cx 0 [_]) [.int .i64 0] [_] zeroValue3 runUnderlying61 sizeOf3 (fun aoc=>?_);refine fg av rfl rfl rfl call73 (adi p.kids (if p.leaf=true then aS p up else aS p up+1) ay ai ci si aoc He.1 w4 lg) ⟨ot,ot,ot,trivial⟩ (Perm.cons _ (u5 (A:=[_,_,_]))) ?_;rintro _ U ⟨Z,fp,rfl,gE⟩;refine bZ (xY (A:=[_,_,_])) ?_;refine aG 2 ?_
  refine oe (k:=2) (cs':=flatMap gO (L.set (dy t k h t.root m).toNat (⟨(bD p up ay),I,O,E,Z,fp,U⟩:aZ))) av rfl rfl ot rfl rfl ot rfl rfl sizeOf61 rfl (by show 0+(dy t k h t.root m).toNat*5+2+1<=(flatMap gO (L.set (dy t k h t.root m).toNat (⟨{p with keys:=iP p.keys (aS p up) up},I,O,E,ai,ci,si⟩:aZ))).length;rw[cz ju,length_set];omega) (by show(flatMap gO (L.set (dy t k h t.root m).toNat (⟨{p with keys:=iP p.keys (aS p up) up},I,O,E,ai,ci,si⟩:aZ))).set (0+(dy t k h t.root m).toNat*5+2) _=_;rw[Nat.zero_add,B0 ju (a':=(⟨(bD p up ay),I,O,E,Z,fp,U⟩:aZ)) w8 C2 (by rw[getElem_set_self];show gO (⟨(bD p up ay),I,O,E,Z,fp,U⟩:aZ)=(gO (⟨{p with keys:=iP p.keys (aS p up) up},I,O,E,ai,ci,si⟩:aZ)).set 2 _;unfold gO;rw[show((⟨(bD p up ay),I,O,E,Z,fp,U⟩:aZ)).p.kids.length=p.kids.length+1 from Af He.1];rfl),List.set_set]) ?_;have nT:(E++(U++((L.eraseIdx (dy t k h t.root m).toNat).flatMap bO))).Perm ((L.set (dy t k h t.root m).toNat (⟨(bD p up ay),I,O,E,Z,fp,U⟩:aZ)).flatMap bO):=(by have:=(zW bO hj (⟨(bD p up ay),I,O,E,Z,fp,U⟩:aZ)).symm;rw[show bO (⟨(bD p up ay),I,O,E,Z,fp,U⟩:aZ)=E++U from rfl,append_assoc] at this;exact this)
  refine bZ (S':=⟨vV,66,2,[aN (some ⟨bx,0,none⟩) (L.set (dy t k h t.root m).toNat (⟨(bD p up ay),I,O,E,Z,fp,U⟩:aZ)).length cap,ae t.root]⟩::⟨b6,66,2,[bW,ae 0]⟩::(([⟨bx,129,cap*5,flatMap gO (L.set (dy t k h t.root m).toNat (⟨(bD p up ay),I,O,E,Z,fp,U⟩:aZ))⟩]:List ag)++(L.set (dy t k h t.root m).toNat (⟨(bD p up ay),I,O,E,Z,fp,U⟩:aZ)).flatMap bO)) (by rw[length_set];exact Perm.cons _ (Perm.cons _ (Perm.cons _ nT))) ?_;have YQ:vC (L.set (dy t k h t.root m).toNat (⟨(bD p up ay),I,O,E,Z,fp,U⟩:aZ)) (some ⟨bx,0,none⟩) cap [⟨bx,129,cap*5,flatMap gO (L.set (dy t k h t.root m).toNat (⟨(bD p up ay),I,O,E,Z,fp,U⟩:aZ))⟩]:=bN yZ y4;have kD:∀o∈(L.set (dy t k h t.root m).toNat (⟨(bD p up ay),I,O,E,Z,fp,U⟩:aZ)),sb o:=fun x hx=>by rcases mem_or_eq_of_mem_set hx with hx|rfl;exact aQ x hx;exact⟨eR,gE⟩
  refine aq 131 [6,12,13,16,17] ?_;refine cN [6,12,13,16,116] ?_;refine aT 3 ?_ (h:=by exact(dN (mk:=Op.load 127) rfl ot (l9 (k:=2) (j:=1) (d:=aN I (bD p up ay).keys.length O) (ls:=(L.set (dy t k h t.root m).toNat (⟨(bD p up ay),I,O,E,Z,fp,U⟩:aZ))) ju rfl rfl rfl isAgg127 C2 (by rw[getElem_set_self];rfl))));refine bL ?_;refine cj ?_ ?_<;>intro gk iC
  ·have h4:(bD p up ay).keys.length<=4:=(by have:=of_decide_eq_true gk;omega)
   refine qq ?_;refine⟨_,aI,(L.set (dy t k h t.root m).toNat (⟨(bD p up ay),I,O,E,Z,fp,U⟩:aZ)),(some ⟨bx,0,none⟩),cap,[⟨bx,129,cap*5,flatMap gO (L.set (dy t k h t.root m).toNat (⟨(bD p up ay),I,O,E,Z,fp,U⟩:aZ))⟩],t.root,YQ,kD,(by rw[aie hm he (by rw[<-iJ];exact h4),<-iJ,map_set];rfl),xx,rfl⟩
  have h4:¬(bD p up ay).keys.length<=4:=(by have:=of_decide_eq_false gk;omega)
  have h5:(bD p up ay).keys.length=5:=(by have:=full.eU;omega)
  refine dV 2 ?_;refine bQ (ei 1 (h:=by first|exact .l (j:=h-m) w4 hW|exact .r (j:=h-m) w4 hW)) ?_;refine bQ (dN (mk:=Op.load 3) rfl ot (sI (d:=ae (dy t k h t.root m)) (i:=h-m) eS isAgg3 hW (by rw[hWn];rfl))) ?_;have mU:(L.set (dy t k h t.root m).toNat (⟨(bD p up ay),I,O,E,Z,fp,U⟩:aZ)).length=L.length:=length_set ..;refine fg av rfl rfl rfl call74 (aeS (L.set (dy t k h t.root m).toNat (⟨(bD p up ay),I,O,E,Z,fp,U⟩:aZ)) vV t.root (dy t k h t.root m) (some ⟨bx,0,none⟩) cap [⟨bx,129,cap*5,flatMap gO (L.set (dy t k h t.root m).toNat (⟨(bD p up ay),I,O,E,Z,fp,U⟩:aZ))⟩] (by rw[mU];exact P9) (bD p up ay) (by rw[getElem_set_self]) (by rw[mU];omega) YQ kD h5 (fun hl=>by have:=full.leaf hl;omega) (fun hl=>by have:=(full.node hl).1;omega) (fun x hx=>(full.me x hx).2) full.hlen) ⟨ot,ot,trivial⟩ (Perm.cons _ (perm_append_singleton _ _).symm) ?_;rintro _ _ ⟨rfl,L3,I0,HL,I1,aod,yR,hL3,rfl⟩;refine bZ (Perm.cons _ (perm_append_singleton _ _)) ?_;have DO:lA t k row h (m+1)=(⟨L3.map aZ.p,t.root⟩,some (iy (bD p up ay),((L.set (dy t k h t.root m).toNat (⟨(bD p up ay),I,O,E,Z,fp,U⟩:aZ)).length:Int))):=(by rw[agy hm he (by rw[<-iJ];exact h4),<-iJ,hL3,mU];unfold jO;show(({af:=(map aZ.p L).set _ _++_,root:=t.root}:aE),_)=_;rw[map_set,List.set_set,length_map])
  refine aq 131 [6,12,13,14,15,16] ?_;refine cc [6,12,13,14,15,16] ?_;refine⟨((m+1),(iy (bD p up ay)),((L.set (dy t k h t.root m).toNat (⟨(bD p up ay),I,O,E,Z,fp,U⟩:aZ)).length:Int),L3,I0,HL,I1),_,cG,aI,w4,DO,aod,yR,rfl⟩
 rintro _ ⟨L,ad,cap,Sx,root,ev,aQ,HN,sc,rfl⟩;refine ax [6,12,128] ?_ ?_<;>intro iQ qa
 ·refine az 1 ?_;refine aR 1 [_,_] sizeOf66 ?_;refine dY 131 [6,7] [] ?_;unfold qc;rw[if_pos hz,if_neg w4,if_neg yz,if_pos (by rw[HN];show 4000<(L.map aZ.p).length;rw[length_map];omega)];exact Aq _
 refine az 1 ?_;refine aR 1 [_,_] sizeOf66 ?_;refine dY 131 [6,7] (Sx++L.flatMap bO) ?_;unfold qc;rw[if_pos hz,if_neg w4,if_neg yz,if_neg (by rw[HN];show ¬4000<(L.map aZ.p).length;rw[length_map];omega)];exact⟨_,rfl,L,ad,cap,Sx,by rw[HN],ev,aQ,by rw[HN],rfl⟩
theorem aeT(t:aE)(h:Nat)(k:K)(row:Int)(hb:∀p∈t.af,p.keys.length<=maxLen/\p.kids.length<=maxLen)(hv:gZ t=0->Valid t h):VP Tryz.prog G 39 [.agg (cT t),an 1 cB k,ae row] (.dB [.agg (cT (qc t k row h).1),ae (qc t k row h).2]):=(J7 t h k row hb hv).cover fun r S hr=>hr.view
end Tw
namespace Tr
open Go.Proofs.Tryz
open Go.Lib (compareBytes)
variable {t:aE} {h:Nat} {k:K}
variable {n:Nat}
theorem Uf(hp:∀p∈t.af,eT p t.af.length):∀{h h':Nat} {i:Int} {a b c d:K},ee t h i a b->ee t h' i c d->h=h'
 | 0,0,_,_,_,_,_,_,_=>rfl
 | 0,h'+1,i,_,_,_,_,h1,h2=>by have:=h1.2.1;rw[h2.2.1] at this;cases this
 | h+1,0,i,_,_,_,_,h1,h2=>by have:=h1.2.1;rw[h2.2.1] at this;cases this
 | h+1,h'+1,i,_,_,_,_,h1,h2=>by
  obtain⟨p1,p2,p3,O,E⟩:=h1;obtain⟨q1,q2,U,Z,I⟩:=h2;have hn:=((hp _ (jY p1)).node p2).1;have:=Uf hp (E 0 w4) (I 0 w4);rw[this]
noncomputable def dD(t:aE):Nat:=Classical.epsilon fun h=>Valid t h
theorem FE(v:Valid t h):Valid t (dD t):=Classical.epsilon_spec (p:=fun h=>Valid t h) ⟨h,v⟩
theorem Mc(v:Valid t h):dD t=h:=Uf v.fU (FE v).ok v.ok
noncomputable def eE(t:aE):List (K×Int):=lU t (dD t)
theorem Ly(hp:∀p∈t.af,eT p t.af.length):∀{h:Nat} {i:Int} {a b:K},ee t h i a b->2 ^ h<=(ids t h i).length
 | 0,i,_,_,_=>by simp[ids]
 | h+1,i,_,_,ok=>by
  obtain⟨p1,p2,p3,U,E⟩:=ok;have hn:=(hp _ (jY p1)).node p2;have hk:1<=(t.pg i).keys.length:=by
   have:=hn.2;cases mO:(t.pg i).keys with
   | nil=>exact absurd mO this
   | cons _ _=>simp
  have h0:=Ly hp (E 0 w4);have h1:=Ly hp (E 1 w4);have key:∀(l:List Int) (h2:2<=l.length),2 ^ h<=(ids t h (l[0]'w4)).length->2 ^ h<=(ids t h (l[1]'w4)).length->2 ^ h+2 ^ h<=(l.flatMap (ids t h)).length:=by
   intro l h2 I O;match l,h2 with
   | x::y::r,_ =>
    simp only[flatMap_cons,length_append];simp only[getElem_cons_zero,getElem_cons_succ] at I O;omega
  have:=key _ w4 h0 h1;rw[ids,length_cons,Nat.pow_succ];omega
theorem aif(v:Valid t h):h<=11:=by
 have h1:=Ly v.fU v.ok;rw[v.all] at h1;have h2:=v.oT;refine Nat.le_of_not_lt fun h3=>?_;have:2 ^ 12<=2 ^ h:=Nat.pow_le_pow_right w8 h3;omega
structure iN (t:aE) (n:Nat):Prop where
 val:Valid t (dD t)
 eU:t.af.length<=1+13*n
theorem iN.mono{m:Nat}(g:iN t n)(h:n<=m):iN t m:=⟨g.val,by have:=g.eU;omega⟩
theorem agz:iN qH 0:=⟨FE RU,by decide⟩
theorem agA:eE qH=[]:=by unfold eE;rw[Mc RU];exact age
theorem F0{row:Int}(g:iN t n)(hn:n<=300)(j5:∀x∈eE t,x.1≠k)(hk:1<=k.length/\k.length<=100)(hr:0<=row) :
  iN (ie t (dD t) k row) (n+1)/\(ie t (dD t) k row).af.length<=4000/\∀x,x∈eE (ie t (dD t) k row)↔x=(k,row)\/x∈eE t:=by
 have E:=aif g.val;have hf:=g.eU;obtain⟨h',_,v,⟨_,hm⟩,he⟩:=aet g.val j5 hk hr w4;refine⟨⟨FE v,by omega⟩,v.oT,fun x=>?_⟩;unfold eE;rw[Mc v];exact he x
theorem KE(g:iN t n)(ht:CL t k (dD t)):iN (ig t (dD t) k) n/\∀x,x∈eE (ig t (dD t) k)↔x∈eE t/\x.1≠k:=by
 obtain⟨v,hl,he⟩:=aeu g.val ht;refine⟨⟨FE v,by have:=g.eU;omega⟩,fun x=>?_⟩;unfold eE;rw[Mc v];exact he x
theorem Si{eC:K}:∀{l:List (K×Int)},l.Pairwise (fun x y=>bC x.1 y.1)->l.takeWhile (fun x=>decide (¬bC eC x.1))=l.filter fun x=>decide (¬bC eC x.1)
 | [],_=>rfl
 | x::l,h=>by
  obtain⟨h1,h2⟩:=pairwise_cons.1 h;rw[takeWhile_cons,filter_cons];by_cases hx:bC eC x.1
  ·rw[if_neg (by simpa using hx),if_neg (by simpa using hx)];exact(filter_eq_nil_iff.2 fun y hy=>by simpa using mE hx (h1 y hy)).symm
  rw[if_pos (by simpa using hx),if_pos (by simpa using hx),Si h2]
end Tr
namespace Tw
open Go.Proofs.Tryz
open Go.RowKit V Tr Pk
open Go.Lib (compareBytes)
variable {k:K} {t:aE} {n:Nat} {row:Int}
theorem aih(h:1<=k.length/\k.length<=100):pD k=true:=decide_eq_true h
theorem CM(g:iN t n)(hk:1<=k.length/\k.length<=100):mg t k=0:=KQ (KB g.val) (aih hk)
theorem Cc(g:iN t n)(k:K):iX t k (dD t)=true↔∃row,(k,row)∈eE t:=(Fk g.val k).trans (Cb g.val k)
theorem F1(g:iN t n):iX t k (dD t)=false↔∀x∈eE t,x.1≠k:=by
 constructor
 ·exact fun h=>Se g.val h
 intro h;cases hq:iX t k (dD t) with
 | false=>rfl
 | true=>obtain⟨row,hr⟩:=(Cc g k).1 hq;exact absurd rfl (h _ hr)
theorem aii(g:iN t n)(hk:1<=k.length/\k.length<=100)(hr:0<=row)(h:iX t k (dD t)=true):qc t k row (dD t)=(xG,9):=by
 unfold qc;rw[if_pos (CM g hk),if_neg w4,if_pos h]
theorem WB(g:iN t n)(hn:n<=300)(hk:1<=k.length/\k.length<=100)(hr:0<=row)(h:iX t k (dD t)=false):qc t k row (dD t)=(ie t (dD t) k row,0):=by
 have:=(F0 g hn ((F1 g).1 h) hk hr).2.1;unfold qc;rw[if_pos (CM g hk),if_neg w4,if_neg (by rw[h];decide),if_neg w4]
theorem VF(g:iN t n)(hk:1<=k.length/\k.length<=100)(h:iX t k (dD t)=true):sS t k (dD t)=(ig t (dD t) k,0):=by
 unfold sS;rw[if_pos (CM g hk),if_pos h]
theorem aij(g:iN t n)(hk:1<=k.length/\k.length<=100)(h:iX t k (dD t)=false):findF t k (dD t)=(0,8):=by
 unfold findF;rw[if_pos (CM g hk),if_neg (by rw[h];decide)]
theorem Ug(g:iN t n)(hk:1<=k.length/\k.length<=100)(h:(k,row)∈eE t):findF t k (dD t)=(row,0):=by
 unfold findF dR;rw[if_pos (CM g hk),if_pos ((Cc g k).2 ⟨row,h⟩)];obtain⟨_,_,e⟩:=(found g.val k row).1 h;rw[e]
theorem Cz(g:iN t n):∀p∈t.af,p.keys.length<=maxLen/\p.kids.length<=maxLen:=agp g.val
variable {G:List (Nat×List Value)}
theorem Uh(g:iN t n)(k:K)(row:Int):VP Tryz.prog G 39 [.agg (cT t),an 1 cB k,ae row] (.dB [.agg (cT (qc t k row (dD t)).1),ae (qc t k row (dD t)).2]):=aeT t (dD t) k row (Cz g) fun _=>g.val
theorem Ui(g:iN t n)(k:K):VP Tryz.prog G 95 [.agg (cT t),an 1 cB k] (.dB [.agg (cT (sS t k (dD t)).1),ae (sS t k (dD t)).2]):=aeP t (dD t) k (Cz g) fun _=>g.val
theorem Md(g:iN t n)(k:K):VP Tryz.prog G 63 [.agg (cT t),an 1 cB k] (.dB [ae (findF t k (dD t)).1,ae (findF t k (dD t)).2]):=ajN t (dD t) k (Cz g) fun _=>g.val
theorem aik(g:iN t n):VP Tryz.prog G 51 [.agg (cT t)] (ae 0):=by have:=qo (G:=G) t (Cz g);rwa [KB g.val] at this
noncomputable def mJ(t:aE)(f eC:K):List (K×Int):=vu t (dD t) f eC
theorem WD(g:iN t n)(f eC:K)(hf:f.length<=100)(ht:eC.length<=100):VP Tryz.prog G 29 [.agg (cT t),an 1 cB f,an 1 cB eC] (.dB [.list 2 ((mJ t f eC).flatMap cE) (mJ t f eC).length,ae 0]):=by
 have:=aic (G:=G) t (dD t) (Cz g) (fun _=>g.val) f eC;unfold yj at this;rwa [if_pos (KB g.val),if_pos ⟨hf,ht⟩] at this
theorem F2(t:aE):mJ t [] []=eE t:=by
 unfold mJ vu eE;rw[agr,FC fun x _=>by simp[sL]]
theorem aeU(t:aE)(k:K):mJ t k []=mI t (dD t) k:=by
 unfold mJ vu;rw[FC fun x _=>by simp[sL]]
theorem aeV(g:iN t n)(f eC:K)(h0:0<eC.length):mJ t f eC=(eE t).filter fun x=>decide (¬bC x.1 f)&&decide (¬bC eC x.1):=by
 unfold mJ vu;have:(fun x:K×Int=>!sL eC x)=fun x=>decide (¬bC eC x.1):=(by funext x;simp[sL,h0])
 rw[this,Si (R7 g.val f)];unfold mI eE;rw[filter_filter];congr 1;funext x;rw[Bool.and_comm]
theorem VG(g:iN t n):VP Tryz.prog G 29 [.agg (cT t),bW,bW] (.dB [.list 2 ((mJ t [] []).flatMap cE) (mJ t [] []).length,ae 0]):=VC.eC (args':=[.agg (cT t),bW,bW]) (WD g [] [] w8 w8) ⟨.inl rfl,.inr ⟨1,rfl,rfl⟩,.inr ⟨1,rfl,rfl⟩,trivial⟩
end Tw
namespace Ba
open Go.Proofs.Tryz
open Go.RowKit V Pk Tr Vl Go.Proofs.YtbplamgacibdaaaGreatDoor.Nm Pc Cd Ex Tw
section
structure aK where
 nm:ByteArray
 au:List cm
 rows:List (List Vl)
 ix:aE
def ij(r:List Vl):List D:=[an 3 cV r]
theorem lq(r:List Vl):(ij r).length=1:=rfl
theorem Uj(r:List Vl):(ij r).all V.one=true:=rfl
def dw(t:aK):List D:=[bg t.nm,an 2 cC t.au,an 1 ij t.rows,an 5 cP t.ix.af,ae t.ix.root]
theorem kQ(t:aK):(dw t).length=5:=rfl
def aW(b:List aK)(nm:ByteArray):Int:=c9 (fun t=>t.nm.toList==nm.toList) b
def cZ(r:List Vl):K:=(gj (r.take 1)).1
variable {G:List (Nat×List Value)}
theorem agB(t:aK)(nm:ByteArray)(b:Nat):VC Tryz.prog G 50 [.agg (dw t),da b] [⟨b,9,1,[bg nm]⟩] (fun r S=>r=bP (t.nm.toList==nm.toList)/\S=[⟨b,9,1,[bg nm]⟩]):=by
 refine bn func50 rfl ntmps50 aP fun X0 w0 bj=>?_;unfold dw;refine bX ?_;refine cW [_,_,_,_,_] (fun b2=>?_);refine aq 8 [1,2] ?_;refine dj [3] [⟨b,9,1,[bg nm]⟩] ?_;exact⟨rfl,rfl⟩
theorem aeW(ls:List aK)(I:Nat)(E:List D)(S:List ag)(p:aK->Bool)(fH:∀args w,(callFunc I args).run Tryz.prog w = .ok (.enter I args) w)(hp:∀x∈ls,VC Tryz.prog G I (.agg (dw x)::E) S (fun r S'=>r=bP (p x)/\S'=S))(hlen:ls.length<=1000000):VC Tryz.prog G 49 [an 5 dw ls,.eK (.func I) E] S (fun r S'=>r=ae (c9 p ls)/\S'=S):=by
 refine bn func49 rfl ntmps49 aP fun X0 w0 bj=>?_;refine az 1 ?_;refine fC (Wk.ek (n:=19) (l':=[(0,_),(1,_)]) (S':=S) rfl nR fJ) ?_;refine jX ?_;refine az 3 ?_;refine fC (Wk.ek (n:=19) (l':=[(0,_),(1,_),(7,_),(8,_)]) (S':=S) rfl nR fJ) ?_;refine jX ?_;refine fa [0,1,7] (fun aV _ (k:Nat) aF=>(k<=ls.length)/\(∀x∈ls.take k,p x=false)/\aF=(⟨19,(8,ae (k:Nat))::aV,S⟩:St)) (fun (k:Nat)=>ls.length-k) 0 ⟨Nat.zero_le _,bp,rfl⟩ ?_;rintro k _ ⟨hk,h0,rfl⟩;refine az 1 ?_;refine fC (Wk.ek (n:=19) (l':=[(0,_),(1,_),(7,_),(8,_),(9,_)]) (S':=S) rfl nR fJ) ?_;refine jX ?_;refine cj ?_ ?_<;>intro aM bG
 ·refine az 2 ?_;refine fC (Wk.ek (n:=19) (l':=[(0,_),(1,_),(5,_),(7,_),(8,_)]) (S':=S) rfl nR fJ) ?_;refine jX ?_;refine az 5 ?_;refine my (f:=I) (args:=[_]) av rfl rfl (vh rfl lk) fH (hp (ls[k]'w4) (getElem_mem _)) rfl ⟨vh rfl lk,trivial⟩ (Kg _) ?_;rintro _ S2 ⟨rfl,iK⟩;rw[iK];clear iK;refine fC (Wk.ek (n:=19) (l':=[(0,_),(1,_),(5,_),(7,_),(8,_),(16,_)]) (S':=S) rfl nR fJ) ?_;refine jX ?_;refine cj ?_ ?_<;>intro bf cD
  ·refine az 2 ?_;refine fC (Wk.ek (n:=19) (l':=[(4,_)]) (S':=S) rfl nR fJ) ?_;refine jX ?_;refine eu S ?_;refine⟨?_,rfl⟩;first|(rw[xW w4 h0 vy])|(rw[xQ w4 h0])
  refine dV 2 ?_;refine fC (Wk.ek (n:=19) (l':=[(0,_),(1,_),(7,_),(8,_)]) (S':=S) rfl nR fJ) ?_;refine jX ?_;refine⟨k+1,_,cG,aI,w4,ZD,rfl⟩
 refine az 1 ?_;refine fC (Wk.ek (n:=19) (l':=[(4,_)]) (S':=S) rfl nR fJ) ?_;refine jX ?_;refine eu S ?_;refine⟨?_,rfl⟩;first|(rw[xW w4 h0 vy])|(rw[xQ w4 h0])
theorem rA(l:List aK)(hl:l.length<=1000)(nm:ByteArray):VP Tryz.prog G 28 [an 5 dw (l),bg nm] (ae (aW l nm)):=by
 refine bn func28 rfl ntmps28 aP fun X0 w0 bj=>?_;refine bX ?_;refine cW [_] (fun b3=>?_);refine aq 8 [0,3] ?_;refine az 1 ?_;refine bQ (tU (ds:=[_]) rfl ⟨ot,trivial⟩) ?_;refine fg av rfl rfl rfl call49 (aeW l 50 [da b3] _ (fun t=>t.nm.toList==nm.toList) call50 (fun h _=>agB h nm b3) w4) ⟨ot,ot,trivial⟩ (nB (k:=0) rfl) ?_;rintro _ S2 ⟨rfl,iK⟩;rw[iK];clear iK;refine aq 8 [4] ?_;exact oD
theorem agC(c:cm)(nm:ByteArray)(b:Nat):VC Tryz.prog G 126 [.agg (cC c),da b] [⟨b,9,1,[bg nm]⟩] (fun r S=>r=bP (c.n.toList==nm.toList)/\S=[⟨b,9,1,[bg nm]⟩]):=by
 refine bn func126 rfl ntmps126 aP fun X0 w0 bj=>?_;exact Z5
theorem J8(t:aK)(hl:t.au.length<=1000)(nm:ByteArray):VP Tryz.prog G 89 [.agg (dw t),bg nm] (ae (bE t.au nm)):=by
 refine bn func89 rfl ntmps89 aP fun X0 w0 bj=>?_;unfold dw;refine bX ?_;refine cW [_,_,_,_,_] (fun b2=>?_);refine cW [_] (fun b3=>?_);refine aq 9 [2,3] ?_;refine az 2 ?_;refine bQ (tU (ds:=[_]) rfl ⟨ot,trivial⟩) ?_;refine fg av rfl rfl rfl call125 (Pc.Ko t.au 126 [da b3] _ (fun c=>c.n.toList==nm.toList) call126 (fun h _=>agC h nm b3) w4) ⟨ot,ot,trivial⟩ (nB (k:=0) rfl) ?_;rintro _ S2 ⟨rfl,iK⟩;rw[iK];clear iK;refine aq 9 [4] ?_;exact oD
end
variable {G:List (Nat×List Value)} {m:Int}
variable {S:List ag} {t:aK} {n:Nat} {p:List Int×Int}
def DF(k:K)(r:D)(S:List ag):Prop:=∃ad cap,r=aN ad k.length cap/\bq 5 1 (k.flatMap cB) k.length ad cap S
theorem DF.view{k:K}{r:D}(h:DF k r S):View S r (an 1 cB k):=by
 obtain⟨ad,cap,rfl,ho⟩:=h;exact mX ho (cz qv _) (fun B h=>h)
theorem DF.flat{k:K}{r:D}(h:DF k r S):lP r=true/\∀B∈S,∀d∈B.cs,lP d=true:=by
 obtain⟨ad,cap,rfl,ho⟩:=h;refine⟨rfl,fun B hB d hd=>?_⟩;rcases ho with ⟨_,_,_,_,rfl⟩|⟨b,_,_,_,rfl⟩
 ·cases hB
 rw[mem_singleton] at hB;subst hB;obtain⟨n,_,hn⟩:=mem_flatMap.1 hd;rw[cB,mem_singleton] at hn;subst hn;rfl
theorem Me(hG:(2,[Value.int .i64 m])∈G)(r:List Vl)(h1:1<=r.length)(h2:r.length<=1000000)(aQ:∀v∈r,v.Ok):VC Tryz.prog G 40 [an 3 cV r] [] (DF (cZ r)):=by
 refine bn func40 rfl ntmps40 aP fun X0 w0 bj=>?_;have dH:=ey;refine aA [0] ?_;refine az 1 ?_;refine bQ (fb (h:=1) rfl ot trivial ⟨_,cf⟩ (by exact pT fQ (fun h=>by cases h) runUnderlying40 sizeOf56 w4)) ?_;refine fg av rfl rfl rfl call75 (Wn hG (r.take 1) pF (fun v hv=>aQ v (mem_of_mem_take hv))) ⟨ot,trivial⟩ (fx _) ?_;rintro _ O ⟨E,I,rfl,kD⟩;refine bZ (Perm.of_eq (append_nil O)) ?_;refine aq 12 [3] ?_;refine dj [2] O ?_;exact⟨E,I,rfl,kD⟩
theorem AB(hG:(2,[Value.int .i64 m])∈G)(r:List Vl)(h1:1<=r.length)(h2:r.length<=1000000)(aQ:∀v∈r,v.Ok):VP Tryz.prog G 40 [an 3 cV r] (.list 1 ((cZ r).flatMap cB) (cZ r).length):=(Me hG r h1 h2 aQ).cover fun r S hr=>hr.view
theorem adj:(Tryz.prog.info? 56).map (fun i=>(i.zero,i.size,i.bytes))=some (some (.agg #[.int .i64 0,.int .i64 0,.string ⟨#[]⟩]),3,32):=by kernel_rfl
theorem Sj(a:List Vl)(ha:a.length<=1000000):VC Tryz.prog G 30 [an 3 cV a] [] (fun r S=>∃ad cap,r=aN ad a.length cap/\bq 56 3 (a.flatMap cV) a.length ad cap S):=by
 refine bn func30 rfl ntmps30 aP fun X0 w0 bj=>?_;have dH:=ey;refine aA [0] ?_;refine az 1 ?_;refine zY av rfl rfl ot cf underlying40 (fun O za=>?_);refine aq 8 [0,4] ?_;refine cj ?_ ?_<;>intro aM bG
 ·exact z53
 refine bX ?_;refine zZ av rfl rfl runUnderlying40 sizeOf56 (fun b5=>?_);refine aG 1 ?_;refine sj (ls:=([]:List Vl)) (new:=a) (Sq:=[⟨b5,56,0*3,[]⟩]) fQ GF av rfl rfl underlying40 adj rfl w8 runUnderlying40 sizeOf56 ot (.inr ⟨b5,rfl,Nat.le_refl _,Nat.zero_le _,rfl⟩) (dK (A:=[])) ot iI iI (fun E I S7 qQ=>?_);exact Is
theorem Sk(a:List Vl)(ha:a.length<=1000000):VP Tryz.prog G 30 [an 3 cV a] (an 3 cV a):=(Sj a ha).cover fun r S ⟨ad,cap,h,ho⟩=>by subst h;exact mX ho (cz fQ _) (fun B h=>h)
theorem adk:(Tryz.prog.info? 93).map (fun i=>(i.zero,i.size,i.bytes))=some (some (.agg #[.string ⟨#[]⟩,.int .i64 0]),2,24):=by kernel_rfl
theorem aeX(a:List cm)(ha:a.length<=1000000):VC Tryz.prog G 64 [an 2 cC a] [] (fun r S=>∃ad cap,r=aN ad a.length cap/\bq 93 2 (a.flatMap cC) a.length ad cap S):=by
 refine bn func64 rfl ntmps64 aP fun X0 w0 bj=>?_;have dH:=ey;refine aA [0] ?_;refine az 1 ?_;refine zY av rfl rfl ot cf underlying39 (fun O za=>?_);refine aq 8 [0,4] ?_;refine cj ?_ ?_<;>intro aM bG
 ·exact z53
 refine bX ?_;refine zZ av rfl rfl runUnderlying39 sizeOf93 (fun b5=>?_);refine aG 1 ?_;refine sj (ls:=([]:List cm)) (new:=a) (Sq:=[⟨b5,93,0*2,[]⟩]) mB aju av rfl rfl underlying39 adk rfl w8 runUnderlying39 sizeOf93 ot (.inr ⟨b5,rfl,Nat.le_refl _,Nat.zero_le _,rfl⟩) (dK (A:=[])) ot iI iI (fun E I S7 qQ=>?_);exact Is
theorem Sn(a:List cm)(ha:a.length<=1000000):VP Tryz.prog G 64 [an 2 cC a] (an 2 cC a):=(aeX a ha).cover fun r S ⟨ad,cap,h,ho⟩=>by subst h;exact mX ho (cz mB _) (fun B h=>h)
theorem aeY(a:List Int)(ha:a.length<=1000000):VP Tryz.prog G 108 [an 1 Tw.cI a] (an 1 Tw.cI a):=(Tw.sy a ha).cover fun r S ⟨ad,cap,h,ho⟩=>by subst h;exact mX ho (cz Tw.eS _) (fun B h=>h)
structure cg where
 r:List Vl
 ad:Option Addr
 cap:Nat
 S:List ag
def gR(o:cg):List D:=[aN o.ad o.r.length o.cap]
theorem CC(o:cg):(gR o).length=1:=rfl
theorem WE(o:cg):(gR o).all V.one=true:=rfl
def bR(o:cg):List ag:=o.S
def o8(o:cg):Prop:=bq 56 3 (o.r.flatMap cV) o.r.length o.ad o.cap o.S
theorem Gn{S:List ag}:∀{L:List cg},(∀o∈L,o8 o)->(∀B∈L.flatMap bR,B∈S)->hU S (L.flatMap gR) ((L.map cg.r).flatMap ij)
 | [],_,_=>trivial
 | o::L,h,hs=>by
  rw[map_cons,flatMap_cons,flatMap_cons];refine hU.append ⟨mX (h o mem_cons_self) (cz fQ _) (fun B hB=>hs B ?_),trivial⟩ (Gn (fun o ho=>h o (mem_cons_of_mem _ ho)) fun B hB=>hs B ?_)
  ·rw[flatMap_cons];exact mem_append_left _ hB
  rw[flatMap_cons];exact mem_append_right _ hB
abbrev uA(L:List cg)(ad:Option Addr)(cap:Nat)(S:List ag):Prop:=bq 40 1 (L.flatMap gR) L.length ad cap S
structure aX where
 t:aK
 cs:List D
 ad:Option Addr
 cap:Nat
 sr:List ag
 sx:List ag
variable {o:aX}
def gT(o:aX):List D:=[bg o.t.nm,an 2 cC o.t.au,aN o.ad o.t.rows.length o.cap,an 5 cP o.t.ix.af,ae o.t.ix.root]
theorem wC(o:aX):(gT o).length=5:=rfl
theorem WG(o:aX):(gT o).all V.one=true:=rfl
def bT(o:aX):List ag:=o.sr++o.sx
structure okW (o:aX):Prop where
 own:bq 40 1 o.cs o.t.rows.length o.ad o.cap o.sr
 als:∀S:List ag,(∀B∈o.sx,B∈S)->hU S o.cs (o.t.rows.flatMap ij)
def q9(o:aX):Prop:=∃L:List cg,o.cs=L.flatMap gR/\o.sx=L.flatMap bR/\(∀x∈L,o8 x)/\L.map cg.r=o.t.rows/\uA L o.ad o.cap o.sr
theorem q9.w(h:q9 o):okW o:=by
 obtain⟨L,h1,h2,h3,h4,h5⟩:=h;refine⟨?_,fun S hS=>?_⟩
 ·rw[h1,<-h4,length_map];exact h5
 rw[h1,<-h4];exact Gn h3 (by rw[<-h2];exact hS)
theorem Ss(h:okW o)(hs:∀B∈bT o,B∈S):View S (aN o.ad o.t.rows.length o.cap) (an 1 ij o.t.rows) :=
 B6 h.own (h.als S fun B hB=>hs B (mem_append_right _ hB)) (cz lq _) (fun B hB=>hs B (mem_append_left _ hB))
theorem VH(h:okW o)(hs:∀B∈bT o,B∈S):View S (.agg (gT o)) (.agg (dw o.t)):=v8 ⟨fq,fq,Ss h hs,fq,fq,trivial⟩
theorem VJ{S:List ag}:∀{L:List aX},(∀o∈L,okW o)->(∀B∈L.flatMap bT,B∈S)->hU S (L.flatMap gT) ((L.map aX.t).flatMap dw)
 | [],_,_=>trivial
 | o::L,h,hs=>by
  rw[map_cons,flatMap_cons,flatMap_cons];refine hU.append ⟨fq,fq,Ss (h o mem_cons_self) (fun B hB=>hs B ?_),fq,fq,trivial⟩ (VJ (fun o ho=>h o (mem_cons_of_mem _ ho)) fun B hB=>hs B ?_)
  ·rw[flatMap_cons];exact mem_append_left _ hB
  rw[flatMap_cons];exact mem_append_right _ hB
abbrev yS(L:List aX)(ad:Option Addr)(cap:Nat)(S:List ag):Prop:=bq 68 5 (L.flatMap gT) L.length ad cap S
theorem LO{Sx:List ag}{L:List aX}{ad:Option Addr}{cap:Nat}(ho:yS L ad cap Sx)(h:∀o∈L,okW o)(hs:∀B∈Sx++L.flatMap bT,B∈S):View S (aN ad L.length cap) (.list 5 ((L.map aX.t).flatMap dw) L.length) :=
 B6 ho (VJ h fun B hB=>hs B (mem_append_right _ hB)) (by rw[cz kQ,length_map]) (fun B hB=>hs B (mem_append_left _ hB))
def alu(t:aK)(r:D)(S:List ag):Prop:=∃o:aX,o.t=t/\r = .agg (gT o)/\q9 o/\S=bT o
def MI(l:List aK)(r:D)(S:List ag):Prop:=∃(L:List aX) (ad:Option Addr) (cap:Nat) (Sx:List ag),r = .agg [aN ad L.length cap]/\yS L ad cap Sx/\(∀o∈L,q9 o)/\L.map aX.t=l/\S=Sx++L.flatMap bT
theorem MI.view{l:List aK}{r:D}(h:MI l r S):View S r (.agg [an 5 dw l]):=by
 obtain⟨L,ad,cap,Sx,rfl,ho,aQ,rfl,rfl⟩:=h;first|rw[length_map]|(show View _ _ (.list _ _ (length _));rw[length_map])|(show View _ _ (.agg [.list _ _ (length _)]);rw[length_map])
 exact v8 ⟨LO ho (fun o h=>(aQ o h).w) (fun B h=>h),trivial⟩
theorem VK(L:List cg)(o:cg):(L++[o]).flatMap bR=L.flatMap bR++bR o:=by simp
theorem VL(L:List aX)(o:aX):(L++[o]).flatMap bT=L.flatMap bT++bT o:=by simp
theorem adm:(Tryz.prog.info? 86).map (fun i=>(i.zero,i.size,i.bytes))=some (some (.slice none 0 0),1,24):=by kernel_rfl
theorem acI:(Tryz.prog.info? 129).map (fun i=>(i.zero,i.size,i.bytes))=some (some (.agg #[.bool false,.slice none 0 0,.slice none 0 0,.slice none 0 0,.int .i64 0]),5,88):=by kernel_rfl
theorem adn(t:aE)(h:Nat)(v:Valid t h):VC Tryz.prog G 65 [.agg (cT t)] [] (fun r S=>∃ad cap,r = .agg [aN ad t.af.length cap,ae t.root]/\bq 129 5 (t.af.flatMap cP) t.af.length ad cap S):=by
 refine bn func65 rfl ntmps65 aP fun X0 w0 bj=>?_;unfold Tw.cT;have dH:=ey;have PU:=v.oT;refine bX ?_;refine cW [_,_] (fun b1=>?_);refine dF (ds:=[_,_]) av rfl rfl zeroValue66 rfl (fun b2=>?_);refine aq 53 [1,2] ?_;refine az 3 ?_;refine dF (ds:=[_,_]) av rfl rfl zeroValue66 rfl (fun b3=>?_);refine aR 0 [_,_] sizeOf66 ?_;refine aq 53 [1,2,3] ?_;refine bX ?_;refine bA [2,3,13,14,15] ?_;refine fa [2,3,13,14] (fun aV _ (E:Nat×List dc×Option Addr×Nat×List ag) aF=>match E with|(i,L,dP,dm,Sx)=>(i<=t.af.length)/\(L=t.af.take i)/\(bq 129 5 ((L).flatMap cP) (L).length dP dm Sx)/\aF=(⟨53,(15,ae (i:Nat))::aV,(⟨b3,66,2,[aN dP (L).length dm,ae t.root]⟩::⟨b2,66,2,[bW,ae 0]⟩::Sx)⟩:St)) (fun (E:Nat×List dc×Option Addr×Nat×List ag)=>match E with|(i,L,dP,dm,Sx)=>t.af.length-i) (0,([]:List dc),none,0,[]) ⟨(Nat.zero_le _),rfl,(bq.cast jj lW),rfl⟩ ?_;rintro⟨i,L,dP,dm,Sx⟩ _ ⟨hi,hL,ev,rfl⟩;refine ax [2,3,13,14,15,16] ?_ ?_<;>intro aM bG
 ·have aa:i<t.af.length:=(by omega)
  have tH:L.length=i:=(by rw[hL,length_take];omega)
  have po:=v.fU _ (getElem_mem aa);have nO:=po.eU;have hhl:=po.hlen;have He:(t.af[i]'aa).kids.length<=6:=by
      exact z92
  refine az 2 ?_;refine dF (ds:=[_,_,_,_,_]) av rfl rfl zeroValue129 rfl (fun b5=>?_);refine aR 0 [_,_,_,_,_] sizeOf129 ?_;refine aq 53 [2,3,5,13,14,15] ?_;refine cQ ?_;refine uL 12 11 [2,3,5,6,13,14,15,29] ?_;refine cL (aeY (t.af[i]'aa).kids w4) ?_;refine cL (mW (t.af[i]'aa).high w4) ?_;refine mr 3 ?_;refine nV ?_;refine jR ?_;refine⟨rfl,fun b6=>?_⟩;refine aR 0 [_,_,_,_,_] sizeOf129 ?_;refine aq 53 [2,3,5,6,13,14,15] ?_;refine bX ?_;refine bA [2,3,6,13,14,15,31,32,33] ?_
  refine fa [2,3,6,13,14,15,31,32] (fun aV _ (E:Nat×List K×Option Addr×Nat×List ag×Option Addr×Nat×List ag) aF=>match E with|(j,M,jd,je,Sy,dP,dm,Sx)=>(j<=(t.af[i]'aa).keys.length)/\(M=(t.af[i]'aa).keys.take j)/\(bq 86 1 ((M).flatMap Tw.cK) (M).length jd je Sy)/\(bq 129 5 ((L).flatMap cP) (L).length dP dm Sx)/\aF=(⟨53,(33,ae (j:Nat))::aV,(⟨b6,129,5,[bP (t.af[i]'aa).leaf,aN jd (M).length je,.list 1 ((t.af[i]'aa).kids.flatMap Tw.cI) (t.af[i]'aa).kids.length,.list 1 ((t.af[i]'aa).high.flatMap cB) (t.af[i]'aa).high.length,ae (t.af[i]'aa).next]⟩::⟨b3,66,2,[aN dP L.length dm,ae t.root]⟩::⟨b2,66,2,[bW,ae 0]⟩::(Sy++Sx))⟩:St)) (fun (E:Nat×List K×Option Addr×Nat×List ag×Option Addr×Nat×List ag)=>match E with|(j,M,jd,je,Sy,dP,dm,Sx)=>(t.af[i]'aa).keys.length-j) (0,([]:List K),none,0,[],dP,dm,Sx) ⟨(Nat.zero_le _),rfl,(bq.cast jj lW),(bq.cast ev lW),rfl⟩ ?_;rintro⟨j,M,jd,je,Sy,dP,dm,Sx⟩ _ ⟨hj,hM,EW,ev,rfl⟩;refine ax [2,3,6,13,14,15,31,32,33,34] ?_ ?_<;>intro bf cD
  ·have ja:j<(t.af[i]'aa).keys.length:=(by omega)
   have NJ:=(po.me _ (getElem_mem ja)).2;have xn:M.length=j:=(by rw[hM,length_take];omega)
   refine aA [2,3,6,8,13,14,15,31,32,33] ?_;refine iD 6 (aj (take 3 _)) ?_ (fun _ h=>(Sublist.map _ (take_sublist _ _)).subset h);refine aC 0 rfl (dU 1) ?_;refine aC 1 rfl (ec 0) ?_;refine aC 2 rfl bJ ?_;refine dW.later rfl ?_;refine bH (i:=3) aB ?_;refine qR call70 (mW (t.af[i]'aa).keys[j] w4) ?_;refine bH (i:=4) aB ?_;refine oE (cx 0 [_]) [.slice none 0 0] [_] zeroValue86 runUnderlying127 sizeOf86 (fun xA=>?_);refine oF 0 41 1 1 ?_;refine bH (i:=5) aB ?_;refine qk (ls:=(M)) (new:=[(t.af[i]'aa).keys[j]]) (Sq:=Sy) Tw.gF Tw.qw rfl av rfl rfl underlying127 adm rfl w8 ot EW (pS (A:=[_,_,_])) ot bp wP iI (fun U I aoe aof=>?_);refine gq (kO (S1:=[⟨U,86,I*1,flatMap Tw.cK ((M)++[(t.af[i]'aa).keys[j]])⟩]) (A:=[_,_,_])) ?_;refine fD ?_;refine aG 1 ?_;refine aR 0 [_,_,_,_,_] sizeOf127 ?_;refine aq 53 [2,3,6,13,14,15,31,32,33] ?_;refine uP ?_;refine bA [2,3,6,13,14,15,31,32,33] ?_;refine⟨((j+1),(M++[(t.af[i]'aa).keys[j]]),(some ⟨U,0,none⟩),I,[⟨U,86,I*1,flatMap Tw.cK ((M)++[(t.af[i]'aa).keys[j]])⟩],dP,dm,Sx),_,cG,aI,w4,(by rw[hM];exact ri ja),(bq.cast (bN aoe aof) lW),(bq.cast ev lW),rfl⟩
  refine qq ?_;have hMk:M=(t.af[i]'aa).keys:=(by rw[hM,take_of_length_le w4])
  subst hMk;refine acs (i:=1) (j:=0) (Sq:=Sy) (S':=⟨b6,129,5,[bP (t.af[i]'aa).leaf,.list 1 ((t.af[i]'aa).keys.flatMap Tw.cK) (t.af[i]'aa).keys.length,.list 1 ((t.af[i]'aa).kids.flatMap Tw.cI) (t.af[i]'aa).kids.length,.list 1 ((t.af[i]'aa).high.flatMap cB) (t.af[i]'aa).high.length,ae (t.af[i]'aa).next]⟩::⟨b3,66,2,[aN dP L.length dm,ae t.root]⟩::⟨b2,66,2,[bW,ae 0]⟩::Sx) EW (cz Tw.gF _) (pS (A:=[_,_,_])) rfl rfl rfl rfl ?_;refine dV 3 ?_;refine eH (cx 0 [_]) [.bool false,.slice none 0 0,.slice none 0 0,.slice none 0 0,.int .i64 0] [_,_,_,_,_] zeroValue129 runUnderlying64 sizeOf129 (fun Qa=>?_);refine gh 0 48 5 1 ?_;refine fY (ls:=(L)) (new:=[(t.af[i]'aa)]) (Sq:=Sx) GL ajH av rfl rfl underlying64 acI rfl w8 ot ev (dK (A:=[_,_,_])) ot bp oA oB (fun Z O aog aoh=>?_);refine bZ (ew (S1:=[⟨Z,129,O*5,flatMap cP ((L)++[(t.af[i]'aa)])⟩]) (A:=[_,_,_])) ?_;refine aG 1 ?_;refine aR 1 [_,_] sizeOf64 ?_;refine aq 53 [2,3,13,14,15] ?_;refine cc [2,3,13,14,15] ?_;refine⟨((i+1),(L++[(t.af[i]'aa)]),(some ⟨Z,0,none⟩),O,[⟨Z,129,O*5,flatMap cP ((L)++[(t.af[i]'aa)])⟩]),_,cG,aI,w4,(by rw[hL];exact ri aa),(bq.cast (bN aog aoh) lW),rfl⟩
 refine az 1 ?_;refine aR 1 [_,_] sizeOf66 ?_;refine dY 53 [2] Sx ?_;have hLe:L=t.af:=(by rw[hL,take_of_length_le w4])
 subst hLe;exact⟨dP,dm,rfl,ev⟩
theorem adp(t:aE)(h:Nat)(v:Valid t h):VP Tryz.prog G 65 [.agg (cT t)] (.agg (cT t)):=(adn t h v).cover fun r S ⟨ad,cap,h,ho⟩=>by subst h;exact v8 ⟨mX ho (cz GL _) (fun B h=>h),fq,trivial⟩
structure AG (t:aK):Prop where
 au:t.au.length<=1000
 rows:t.rows.length<=1000
 row:∀r∈t.rows,r.length<=1000
 ix:∃h,Valid t.ix h
theorem adq:(Tryz.prog.info? 40).map (fun i=>(i.zero,i.size,i.bytes))=some (some (.slice none 0 0),1,24):=by kernel_rfl
theorem GM(t:aK)(hs:AG t):VC Tryz.prog G 37 [.agg (dw t)] [] (alu t):=by
 refine bn func37 rfl ntmps37 aP fun X0 w0 bj=>?_;unfold dw;have dH:=ey;have hc:=hs.au;have hn:=hs.rows;obtain⟨h,v⟩:=hs.ix;have U:=adp (G:=G) t.ix h v;unfold Tw.cT at U;refine bX ?_;refine cW [_,_,_,_,_] (fun b1=>?_);refine dF (ds:=[_,_,_,_,_]) av rfl rfl zeroValue68 rfl (fun b2=>?_);refine aq 31 [1,2] ?_;refine cQ ?_;refine uL 10 9 [1,2,3,14] ?_;refine cL (Sn t.au w4) ?_;refine cL (U) ?_;refine mr 1 ?_;refine nV ?_;refine jR ?_;refine⟨rfl,fun b3=>?_⟩;refine aR 0 [_,_,_,_,_] sizeOf68 ?_;refine aq 31 [1,2,3] ?_;refine aA [2,3,16,17,18] ?_;refine fa [2,3,16,17] (fun aV _ (I:Nat×List cg×Option Addr×Nat×List ag) aF=>match I with|(i,L,dP,dm,Sx)=>(i<=t.rows.length)/\(L.map cg.r=t.rows.take i)/\(∀o∈L,o8 o)/\(uA L dP dm Sx)/\aF=(⟨31,(18,ae (i:Nat))::aV,(⟨b3,68,5,[bg t.nm,an 2 cC t.au,aN dP L.length dm,an 5 cP t.ix.af,ae t.ix.root]⟩::⟨b2,68,5,[fN,bW,bW,bW,ae 0]⟩::(Sx++L.flatMap bR))⟩:St)) (fun (I:Nat×List cg×Option Addr×Nat×List ag)=>match I with|(i,L,dP,dm,Sx)=>t.rows.length-i) (0,([]:List cg),none,0,[]) ⟨(Nat.zero_le _),rfl,(fun o h=>by cases h),jj,rfl⟩ ?_;rintro⟨i,L,dP,dm,Sx⟩ _ ⟨hi,hL,aQ,ev,rfl⟩;refine ax [2,3,16,17,18,19] ?_ ?_<;>intro aM bG
 ·have aa:i<t.rows.length:=(by omega)
  have tH:L.length=i:=(by have:=congrArg length hL;rw[length_map,length_take] at this;omega)
  have vS:=hs.row _ (getElem_mem aa);refine aA [2,3,5,16,17,18] ?_;refine iD 6 (aj (take 2 _)) ?_ (fun _ h=>(Sublist.map _ (take_sublist _ _)).subset h);refine aC 0 rfl (dU 2) ?_;refine aC 1 rfl (ec 0) ?_;refine aC 2 rfl bJ ?_;refine dW.later rfl ?_;refine bH (i:=3) aB ?_;refine ko rfl av rfl rfl rfl call30 (Sj (t.rows[i]'aa) w4) ⟨ot,trivial⟩ (fx _) (fun b hb=>by simp[aj,St.put] at hb |-;first|(simp[hb];done)|(rcases hb with hb|hb<;>simp[hb])|(rcases hb with hb|hb|hb<;>simp[hb])) ?_;rintro _ Sz ⟨mP,mQ,rfl,Qb⟩;refine gq (kO (A:=[_,_])) ?_;have xy:(L++[(⟨(t.rows[i]'aa),mP,mQ,Sz⟩:cg)]).map cg.r=t.rows.take (i+1):=(by rw[map_append,hL];exact ri aa)
  have kD:∀o∈L++[(⟨(t.rows[i]'aa),mP,mQ,Sz⟩:cg)],o8 o:=fun o ho=>by rcases mem_append.1 ho with ho|ho;exact aQ o ho;rw[mem_singleton] at ho;subst ho;exact Qb
  refine bH (i:=4) aB ?_;refine oE (cx 0 [_]) [.slice none 0 0] [_] zeroValue40 runUnderlying33 sizeOf40 (fun b26=>?_);refine oF 0 26 1 1 ?_;refine bH (i:=5) aB ?_;refine qk (ls:=L) (new:=[(⟨(t.rows[i]'aa),mP,mQ,Sz⟩:cg)]) (Sq:=Sx) CC WE rfl av rfl rfl underlying33 adq rfl w8 ot ev (u5 (A:=[_,_])) ot bp oA oB (fun O E Z aoi=>?_);refine gq (xY (S2:=[⟨O,40,E*1,flatMap gR (L++[(⟨(t.rows[i]'aa),mP,mQ,Sz⟩:cg)])⟩]) (A:=[_,_])) ?_;refine gq (S':=⟨b3,68,5,[bg t.nm,an 2 cC t.au,aN dP L.length dm,an 5 cP t.ix.af,ae t.ix.root]⟩::⟨b2,68,5,[fN,bW,bW,bW,ae 0]⟩::([⟨O,40,E*1,flatMap gR (L++[(⟨(t.rows[i]'aa),mP,mQ,Sz⟩:cg)])⟩]++(L++[(⟨(t.rows[i]'aa),mP,mQ,Sz⟩:cg)]).flatMap bR)) (j9 fun nl=>by rw[VK];simp only[bR,map_append,map_cons,map_nil,sum_append,sum_cons,sum_nil];omega) ?_;refine fD ?_;refine aG 1 ?_;refine aR 0 [_,_,_,_,_] sizeOf33 ?_;refine aq 31 [2,3,16,17,18] ?_;refine cc [2,3,16,17,18] ?_;refine⟨((i+1),(L++[(⟨(t.rows[i]'aa),mP,mQ,Sz⟩:cg)]),(some ⟨O,0,none⟩),E,[⟨O,40,E*1,flatMap gR (L++[(⟨(t.rows[i]'aa),mP,mQ,Sz⟩:cg)])⟩]),_,cG,aI,w4,xy,kD,(bN Z aoi),rfl⟩
 refine az 1 ?_;refine aR 1 [_,_,_,_,_] sizeOf68 ?_;refine dY 31 [2] (Sx++L.flatMap bR) ?_;have sc:L.map cg.r=t.rows:=(by rw[hL,take_of_length_le w4])
 have hLn:t.rows.length=L.length:=(by rw[<-sc];(first|rw[length_map]|(unfold an;rw[length_map])))
 exact⟨⟨t,L.flatMap gR,dP,dm,Sx,L.flatMap bR⟩,rfl,(by unfold gT;rw[hLn]),⟨L,rfl,rfl,aQ,sc,ev⟩,rfl⟩
theorem adr:(Tryz.prog.info? 68).map (fun i=>(i.zero,i.size,i.bytes))=some (some (.agg #[.string ⟨#[]⟩,.slice none 0 0,.slice none 0 0,.slice none 0 0,.int .i64 0]),5,96):=by kernel_rfl
theorem Su(l:List aK)(hl:l.length<=1000)(H:∀t∈l,AG t):VC Tryz.prog G 22 [.agg [an 5 dw l]] [] (MI l):=by
 refine bn func22 rfl ntmps22 aP fun X0 w0 bj=>?_;have dH:=ey;refine bX ?_;refine cW [_] (fun b1=>?_);refine dF (ds:=[_]) av rfl rfl zeroValue31 rfl (fun b2=>?_);refine aq 22 [1,2] ?_;refine bX ?_;refine dF (ds:=[_]) av rfl rfl zeroValue31 rfl (fun b3=>?_);refine aq 22 [1,2,3] ?_;refine aA [2,3,7,8,9] ?_;refine fa [2,3,7,8] (fun aV _ (I:Nat×List aX×Option Addr×Nat×List ag) aF=>match I with|(i,L,dP,dm,Sx)=>(i<=l.length)/\(L.map aX.t=l.take i)/\(∀o∈L,q9 o)/\(yS L dP dm Sx)/\aF=(⟨22,(9,ae (i:Nat))::aV,(⟨b3,31,1,[aN dP L.length dm]⟩::⟨b2,31,1,[bW]⟩::(Sx++L.flatMap bT))⟩:St)) (fun (I:Nat×List aX×Option Addr×Nat×List ag)=>match I with|(i,L,dP,dm,Sx)=>l.length-i) (0,([]:List aX),none,0,[]) ⟨(Nat.zero_le _),rfl,(fun o h=>by cases h),jj,rfl⟩ ?_;rintro⟨i,L,dP,dm,Sx⟩ _ ⟨hi,hL,aQ,ev,rfl⟩;refine ax [2,3,7,8,9,10] ?_ ?_<;>intro aM bG
 ·have aa:i<l.length:=(by omega)
  have tH:L.length=i:=(by have:=congrArg length hL;rw[length_map,length_take] at this;omega)
  refine az 2 ?_;refine dF (ds:=[_,_,_,_,_]) av rfl rfl zeroValue68 rfl (fun b5=>?_);refine aR 0 [_,_,_,_,_] sizeOf68 ?_;refine aq 22 [2,3,5,7,8,9] ?_;refine iD 6 (aj (take 3 _)) ?_ (fun _ h=>(Sublist.map _ (take_sublist _ _)).subset h);refine aC 0 rfl (dU 0) ?_;refine aC 1 rfl (ec 1) ?_;refine aC 2 rfl (dN (mk:=Op.load 68) rfl ot (by first|exact ry (k:=0) (ds:=[_,_,_,_,_]) rfl rfl isAgg68 sizeOf68 rfl rfl|exact kR kQ isAgg68 sizeOf68 w5|exact kR wC isAgg68 sizeOf68 w5|exact dO (k:=0) kQ rfl rfl rfl isAgg68 sizeOf68 w5|exact dO (k:=1) kQ rfl rfl rfl isAgg68 sizeOf68 w5|exact dO (k:=2) kQ rfl rfl rfl isAgg68 sizeOf68 w5|exact dO (k:=0) wC rfl rfl rfl isAgg68 sizeOf68 w5|exact dO (k:=1) wC rfl rfl rfl isAgg68 sizeOf68 w5|exact dO (k:=2) wC rfl rfl rfl isAgg68 sizeOf68 w5|exact rE (ds:=[_,_,_,_,_]) isAgg68 sizeOf68 rfl rfl)) ?_;refine dW.later rfl ?_;refine bH (i:=3) aB ?_;refine ko rfl av rfl rfl rfl call37 (GM (l[i]'aa) (H _ (getElem_mem aa))) ⟨ot,trivial⟩ (fx _) (fun b hb=>by simp[aj,St.put] at hb |-;first|(simp[hb];done)|(rcases hb with hb|hb<;>simp[hb])|(rcases hb with hb|hb|hb<;>simp[hb])) ?_;rintro _ _ ⟨o,Oq,rfl,Et,rfl⟩;refine gq (kO (A:=[_,_,_])) ?_;have xy:(L++[o]).map aX.t=l.take (i+1):=(by rw[map_append,hL,map_cons,map_nil,Oq];exact ri aa)
  have kD:∀x∈L++[o],q9 x:=fun x hx=>by rcases mem_append.1 hx with hx|hx;exact aQ x hx;rw[mem_singleton] at hx;subst hx;exact Et
  refine bH (i:=4) aB ?_;refine oE (cx 0 [_]) [.string ⟨#[]⟩,.slice none 0 0,.slice none 0 0,.slice none 0 0,.int .i64 0] [_,_,_,_,_] zeroValue68 runUnderlying29 sizeOf68 (fun b17=>?_);refine oF 0 17 5 1 ?_;refine bH (i:=5) aB ?_;refine qk (ls:=L) (new:=[o]) (Sq:=Sx) wC WG rfl av rfl rfl underlying29 adr rfl w8 ot ev (u5 (A:=[_,_,_])) ot bp oA oB (fun O E U Z=>?_);refine gq (xY (S2:=[⟨O,68,E*5,flatMap gT (L++[o])⟩]) (A:=[_,_,_])) ?_;have hpz:(bT o++(([⟨O,68,E*5,flatMap gT (L++[o])⟩]:List ag)++L.flatMap bT)).Perm (([⟨O,68,E*5,flatMap gT (L++[o])⟩]:List ag)++(L++[o]).flatMap bT):=(j9 fun nl=>by rw[VL];simp only[map_append,map_cons,map_nil,sum_append,sum_cons,sum_nil];omega)
  refine gq (Perm.cons _ (Perm.cons _ (Perm.cons _ hpz))) ?_;refine fD ?_;refine aG 1 ?_;refine aR 1 [_] sizeOf29 ?_;refine aq 22 [2,3,7,8,9] ?_;refine cc [2,3,7,8,9] ?_;refine⟨((i+1),(L++[o]),(some ⟨O,0,none⟩),E,[⟨O,68,E*5,flatMap gT (L++[o])⟩]),_,cG,aI,w4,xy,kD,(bN U Z),rfl⟩
 refine az 1 ?_;refine aR 1 [_] sizeOf31 ?_;refine dY 22 [2] (Sx++L.flatMap bT) ?_;have sc:L.map aX.t=l:=(by rw[hL,take_of_length_le w4])
 exact⟨L,dP,dm,Sx,rfl,ev,aQ,sc,rfl⟩
theorem aeZ(l:List aK)(hl:l.length<=1000)(H:∀t∈l,AG t):VP Tryz.prog G 22 [.agg [an 5 dw l]] (.agg [an 5 dw l]):=(Su l hl H).cover fun r S hr=>hr.view
structure eV (t:aK) (n:Nat):Prop where
 nm:cR t.nm=0
 au:t.au=aL
 eU:t.rows.length<=40
 ix:iN t.ix n
 row:∀i (h:i<t.rows.length),t.rows[i]≠[]->Pc.dR aL t.rows[i]=0/\(∀v∈t.rows[i],v.Ok)/\(cZ t.rows[i],(i:Int))∈eE t.ix
 js:∀x∈eE t.ix,0<=x.2/\∃h:x.2.toNat<t.rows.length,t.rows[x.2.toNat]≠[]/\x.1=cZ t.rows[x.2.toNat]
theorem pZ{r:List Vl}(h:Pc.dR aL r=0):r.length=4:=by
 unfold Pc.dR at h;rw[if_neg C4] at h;split at h
 ·cases h
 rename_i h2;exact Decidable.not_not.1 h2
theorem eV.len(g:eV t n){r:List Vl}(hr:r∈t.rows):r=[]\/(r.length=4/\∀v∈r,v.Ok):=by
 obtain⟨i,hi,rfl⟩:=mem_iff_getElem.1 hr;rcases Classical.em (t.rows[i]=[]) with h|h
 ·exact .inl h
 exact .inr ⟨pZ (g.row i hi h).1,(g.row i hi h).2.1⟩
theorem eV.small(g:eV t n):AG t :=
 ⟨by rw[g.au];decide,Nat.le_trans g.eU w8,fun r hr=>by rcases g.len hr with h|h;rw[h];exact Nat.zero_le _;omega,_,g.ix.val⟩
def rowAt(t:aK)(i:Int):List Vl:=t.rows.getD i.toNat []
theorem jt{i:Int}(h:i.toNat<t.rows.length):rowAt t i=t.rows[i.toNat]:=by unfold rowAt;rw[getD_eq_getElem?_getD,getElem?_eq_getElem h];rfl
def kJ(t:aK)(w:List aH):List Int->List (K×Int)->List Int×Int
 | acc,[]=>(acc,0)
 | acc,x::r=>if 0<w.length then (if (c8 t.au (rowAt t x.2) w).2≠0 then ([],(c8 t.au (rowAt t x.2) w).2) else if (c8 t.au (rowAt t x.2) w).1.n≠1 then kJ t w acc r else kJ t w (acc++[x.2]) r) else kJ t w (acc++[x.2]) r
noncomputable def ap(t:aK)(w:List aH):List Int×Int:=if (fB t.au w).2≠0 then ([],(fB t.au w).2) else kJ t w [] (mJ t.ix (fB t.au w).1.1 (fB t.au w).1.2)
def DG(p:List Int×Int)(r:D)(S:List ag):Prop:=∃ad cap,r = .dB [aN ad p.1.length cap,ae p.2]/\bq 3 1 (p.1.flatMap Tw.cI) p.1.length ad cap S
theorem DG.view{r:D}(h:DG p r S):View S r (.dB [an 1 Tw.cI p.1,ae p.2]):=by
 obtain⟨ad,cap,rfl,ho⟩:=h;exact FQ ⟨mX ho (cz Tw.eS _) (fun B h=>h),fq,trivial⟩
theorem DG.flat{r:D}(h:DG p r S):lP r=true/\∀B∈S,∀d∈B.cs,lP d=true:=by
 obtain⟨ad,cap,rfl,ho⟩:=h;refine⟨rfl,fun B hB d hd=>?_⟩;rcases ho with ⟨_,_,_,_,rfl⟩|⟨b,_,_,_,rfl⟩
 ·cases hB
 rw[mem_singleton] at hB;subst hB;obtain⟨n,_,hn⟩:=mem_flatMap.1 hd;rw[Tw.cI,mem_singleton] at hn;subst hn;rfl
theorem Cq{t:aE}{f u:K}:∀x∈mJ t f u,x∈eE t:=fun x hx=>by
 unfold mJ vu at hx;have h1:=(takeWhile_sublist _).subset hx;unfold mI at h1;exact(mem_filter.1 h1).1
theorem Uk{t:aE}(g:iN t n)(f u:K):(mJ t f u).length<=16000:=by
 unfold mJ vu;exact Nat.le_trans (takeWhile_sublist _).length_le (Uc g.val f)
theorem VM(l:List Vl):(gj l).1.length<=100:=by
 unfold gj;repeat' split
 all_goals first|exact Nat.zero_le _|(simp only;omega)
def Sm(b:jD):Prop:=b.1.length<=100/\b.2.length<=100
theorem VN{key:ByteArray}{ops:List aH}{no:Bool}{b:jD}(h:Sm b):Sm (mb key ops no b):=by
 have hk:(ux ops).length<=100:=VM _;have hl:∀b,Sm b->Sm (nL (ux ops) b):=fun b h=>by unfold nL;split;exact⟨hk,h.2⟩;exact h
 have E:∀b,Sm b->Sm (qy (ux ops) b):=fun b h=>by unfold qy;split;exact⟨h.1,hk⟩;exact h
 unfold mb;split
 ·exact h
 split
 ·exact h
 unfold uk;cases(l6 ops (ops.length-1)==6||(c9 (lu key) (ops.take 2)==0)!=no)<;>cases(l6 ops (ops.length-1)==6||(c9 (lu key) (ops.take 2)==0)==no)<;>first|exact h|exact hl _ h|exact E _ h|exact E _ (hl _ h)
theorem Mf{key:ByteArray}:∀(f:Nat) (ops:List aH) (b:jD),Sm b->Sm (fM key f ops b)
 | 0,_,_,h=>h
 | f+1,ops,b,h=>by
  unfold fM;split
  ·exact Mf f _ _ (Mf f _ _ h)
  split
  ·exact VN h
  exact VN h
theorem ajV(l:List cm)(ops:List aH):Sm (fB l ops).1:=by
 have h0:Sm (([],[]):jD):=⟨Nat.zero_le _,Nat.zero_le _⟩
 unfold fB;repeat' split
 all_goals first|exact h0|exact Mf _ _ _ h0
theorem SA:(Tryz.prog.info? 3).map (fun i=>(i.zero,i.size,i.bytes))=some (some (.int .i64 0),1,8):=by kernel_rfl
theorem Mg(hm:(3,marksC)∈G)(hw:(1,wordsC)∈G)(ht:(0,typesC)∈G)(hG:(2,[Value.int .i64 m])∈G)(t:aK)(g:eV t n)(w:List aH)(ho:∀o∈w,o.nm.size<=maxLen)(gl:∀o∈w,o.v.Ok):VC Tryz.prog G 90 [.agg (dw t),an 5 cO w] [] (DG (ap t w)):=by
 refine bn func90 rfl ntmps90 aP fun X0 w0 bj=>?_;have I2:=ajV t.au w;have rP:=aep (G:=G) hm hw ht hG t.au yy yx w ho gl;unfold PP at rP;have dH:=ey;have hsv:=WD (G:=G) g.ix (fB t.au w).1.1 (fB t.au w).1.2 I2.1 I2.2;unfold Tw.cT at hsv;have nO:=Uk g.ix (fB t.au w).1.1 (fB t.au w).1.2;generalize hL:(mJ t.ix (fB t.au w).1.1 (fB t.au w).1.2)=L at *;unfold dw;have Nl:∀x∈L,x∈eE t.ix:=fun x hx=>Cq x (hL ▸ hx);refine bX ?_;refine cW [_,_,_,_,_] (fun b2=>?_);refine aq 70 [1,2] ?_;refine cX [1,2,6,7,8] (rP) ?_;refine ax [1,2,6,7,8,25] ?_ ?_<;>intro aM bG
 ·have hne:(fB t.au w).2≠0:=(by simpa using aM)
  have aY:ap t w=([],(fB t.au w).2):=if_pos hne;refine dj [4,5] [] ?_;rw[aY];exact⟨none,0,rfl,jj⟩
 have hz:(fB t.au w).2=0:=(by simpa using aM)
 have Z:ap t w=kJ t w [] (L.drop 0):=(by unfold ap;rw[if_neg (by simp[hz]),hL,drop_zero])
 refine cX [1,2,9] (hsv) ?_;refine bX ?_;refine bA [1,2,9,11] ?_;refine aA [1,2,11,35,36,37] ?_;refine fa [1,2,35,36] (fun aV _ (O:Nat×List Int×Option Addr×Nat×List ag) aF=>match O with|(k,acc,dP,dm,Sx)=>(k<=L.length)/\((acc).length<=k)/\(ap t w=kJ t w acc (L.drop k))/\(bq 3 1 ((acc).flatMap Tw.cI) (acc).length dP dm Sx)/\aF=(⟨70,(11,aN dP (acc).length dm)::(37,ae (k:Nat))::aV,(⟨b2,68,5,[bg t.nm,an 2 cC t.au,an 1 ij t.rows,an 5 cP t.ix.af,ae t.ix.root]⟩::Sx)⟩:St)) (fun (O:Nat×List Int×Option Addr×Nat×List ag)=>match O with|(k,acc,dP,dm,Sx)=>L.length-k) (0,([]:List Int),none,0,[]) ⟨(Nat.zero_le _),(Nat.zero_le _),Z,(bq.cast jj lW),rfl⟩ ?_;rintro⟨k,acc,dP,dm,Sx⟩ _ ⟨hk,s8,aY,ev,rfl⟩;refine ax [1,2,11,35,36,37,38] ?_ ?_<;>intro bf cD
 ·have aa:k<L.length:=(by omega)
  obtain⟨jm,eZ,nZ,OP⟩:=g.js _ (Nl _ (getElem_mem aa));have E:=jt (t:=t) eZ;have gY:L.drop k=(L[k]'aa)::L.drop (k+1):=drop_eq_getElem_cons aa;have zA:=(g.row _ eZ nZ).2.1;have hr4:=pZ (g.row _ eZ nZ).1;refine az 2 ?_;refine dF (ds:=[_,_]) av rfl rfl zeroValue88 rfl (fun b13=>?_);refine aR 0 [_,_] sizeOf88 ?_;refine aq 70 [1,2,11,13,35,36,37] ?_;refine ax [1,2,11,13,35,36,37,43] ?_ ?_<;>intro cr cU
  ·have nq:0<w.length:=(by omega)
   have U:=Vp (G:=G) hm hw ht t.au yy yx (t.rows[(L[k]'aa).2.toNat]) w4 zA w ho gl;rw[<-E] at U;unfold oc at U;rw[E] at U;refine cQ ?_;refine uL 14 13 [1,2,11,13,14,35,36,37,55,56] ?_;refine aT 6 ?_ (h:=by exact(ei 1 (h:=by first|exact .l (j:=(L[k]'aa).2.toNat) (Int.toNat_of_nonneg jm).symm eZ|exact .r (j:=(L[k]'aa).2.toNat) (Int.toNat_of_nonneg jm).symm eZ)));refine cL (U) ?_;refine mr 3 ?_;refine nV ?_;refine jR ?_;refine⟨rfl,fun BM=>?_⟩;refine aR 0 [_,_,_] sizeOf56 ?_;refine aq 70 [1,2,11,13,14,15,35,36,37] ?_;refine ax [1,2,11,13,14,15,35,36,37,58] ?_ ?_<;>intro de eG
   ·have hne:(c8 t.au (rowAt t (L[k]'aa).2) w).2≠0:=(by rw[E];simpa using de)
    have I:ap t w=([],(c8 t.au (rowAt t (L[k]'aa).2) w).2):=(by rw[aY,gY,kJ,if_pos nq,if_pos hne])
    rw[E] at I;refine dj [4,5] [] ?_;rw[I];exact⟨none,0,rfl,jj⟩
   have hne:¬(c8 t.au (rowAt t (L[k]'aa).2) w).2≠0:=(by rw[E];simpa using de)
   refine ax [1,2,11,13,35,36,37,62] ?_ ?_<;>intro eo fS
   ·have gM:(c8 t.au (rowAt t (L[k]'aa).2) w).1.n≠1:=(by rw[E];simpa using eo)
    have oX:ap t w=kJ t w acc (L.drop (k+1)):=(by rw[aY,gY,kJ,if_pos nq,if_neg hne,if_pos gM])
    refine cc [1,2,11,35,36,37] ?_;refine⟨((k+1),acc,dP,dm,Sx),_,cG,aI,w4,w4,oX,(bq.cast ev lW),rfl⟩
   have gM:¬(c8 t.au (rowAt t (L[k]'aa).2) w).1.n≠1:=(by rw[E];simpa using eo)
   have oX:ap t w=kJ t w (acc++[(L[k]'aa).2]) (L.drop (k+1)):=(by rw[aY,gY,kJ,if_pos nq,if_neg hne,if_neg gM])
   refine dV 3 ?_;refine eH (cx 0 [_]) [.int .i64 0] [_] zeroValue3 runUnderlying61 sizeOf3 (fun qi=>?_);refine gh 0 66 1 1 ?_;refine fY (ls:=(acc)) (new:=[(L[k]'aa).2]) (Sq:=Sx) Tw.eS Tw.oM av rfl rfl underlying61 SA rfl w8 ot ev (dK (A:=[_,_,_])) ot bp oA oB (fun rT sW Hw Hx=>?_);refine bZ (ew (S1:=[⟨rT,3,sW*1,flatMap Tw.cI ((acc)++[(L[k]'aa).2])⟩]) (A:=[_,_,_])) ?_;exact ZZ
  have nq:¬0<w.length:=(by omega)
  have oX:ap t w=kJ t w (acc++[(L[k]'aa).2]) (L.drop (k+1)):=(by rw[aY,gY,kJ,if_neg nq])
  refine dV 3 ?_;refine eH (cx 0 [_]) [.int .i64 0] [_] zeroValue3 runUnderlying61 sizeOf3 (fun qi=>?_);refine gh 0 66 1 1 ?_;refine fY (ls:=(acc)) (new:=[(L[k]'aa).2]) (Sq:=Sx) Tw.eS Tw.oM av rfl rfl underlying61 SA rfl w8 ot ev (dK (A:=[_,_])) ot bp oA oB (fun rT sW Hw Hx=>?_);refine bZ (ew (S1:=[⟨rT,3,sW*1,flatMap Tw.cI ((acc)++[(L[k]'aa).2])⟩]) (A:=[_,_])) ?_;exact ZZ
 have I:ap t w=(acc,0):=(by rw[aY,drop_of_length_le w4];rfl)
 refine dj [4,5] Sx ?_;rw[I];exact⟨dP,dm,rfl,ev⟩
end Ba
namespace So
open Go.Proofs.Tryz
variable {α:Type} {R:α->α->Prop} {l L M X Y:List α} {x y:α} {k:Nat}
theorem JF(ht:∀{x y z:α},R x y->R y z->R x z)(hs:L.Pairwise R)(hk:k<=L.length)(h:k=0\/∃h:k-1<L.length,R (L[k-1]) x):∀z∈L.take k,R z x:=by
 intro z hz;obtain⟨i,hi,rfl⟩:=mem_iff_getElem.1 hz;rw[length_take] at hi;rw[getElem_take];rcases h with rfl|⟨h1,h2⟩
 ·omega
 rcases Nat.lt_or_ge i (k-1) with h3|h3
 ·exact ht (pairwise_iff_getElem.1 hs i (k-1) w4 h1 h3) h2
 have:i=k-1:=(by omega)
 subst this;exact h2
theorem Jp(ht:∀{x y z:α},R x y->R y z->R x z)(hs:L.Pairwise R)(h:k=L.length\/∃h:k<L.length,R x (L[k])):∀z∈L.drop k,R x z:=by
 intro z hz;obtain⟨i,hi,rfl⟩:=mem_iff_getElem.1 hz;rw[length_drop] at hi;rw[getElem_drop];rcases h with rfl|⟨h1,h2⟩
 ·omega
 rcases Nat.eq_zero_or_pos i with rfl|h3
 ·simpa using h2
 exact ht h2 (pairwise_iff_getElem.1 hs k (k+i) h1 w4 w4)
theorem agD(hs:(X++Y).Pairwise R)(h1:∀z∈X,R z x)(h2:∀z∈Y,R x z):(X++x::Y).Pairwise R:=by
 rw[pairwise_append] at hs |-;obtain⟨p1,p2,p3⟩:=hs;refine⟨p1,pairwise_cons.2 ⟨h2,p2⟩,fun a ha b hb=>?_⟩;rcases mem_cons.1 hb with rfl|hb
 ·exact h1 a ha
 exact p3 a ha b hb
theorem VO(ht:∀{x y z:α},R x y->R y z->R x z)(hs:L.Pairwise R)(hk:k<=L.length)(h1:k=0\/∃h:k-1<L.length,R (L[k-1]) x)(h2:k=L.length\/∃h:k<L.length,R x (L[k])):(L.take k++x::L.drop k).Pairwise R :=
 agD (by rw[take_append_drop];exact hs) (JF ht hs hk h1) (Jp ht hs h2)
theorem ae0 (ht:∀{x y z:α},R x y->R y z->R x z) {A B:List α} {i j:Nat} (ha:A.Pairwise R) (hb:B.Pairwise R) (hi:i<=A.length) (hj:j<=B.length)
  (h1:i=0\/j=B.length\/∃(p:i-1<A.length) (q:j<B.length),R A[i-1] B[j]) (h2:j=0\/i=A.length\/∃(p:j-1<B.length) (q:i<A.length),R B[j-1] A[i]) :
  ∀a∈A.take i++B.take j,∀b∈A.drop i++B.drop j,R a b:=by
 have E:∀a∈A.take i,∀b∈A.drop i,R a b:=(by rw[<-take_append_drop i A] at ha;exact(pairwise_append.1 ha).2.2)
 have I:∀a∈B.take j,∀b∈B.drop j,R a b:=(by rw[<-take_append_drop j B] at hb;exact(pairwise_append.1 hb).2.2)
 intro a hm b hn;rcases mem_append.1 hm with hm|hm<;>rcases mem_append.1 hn with hn|hn
 ·exact E a hm b hn
 ·rcases h1 with rfl|rfl|⟨p,q,hr⟩
  ·simp at hm
  ·simp at hn
  exact JF (R:=R) ht ha hi (.inr ⟨p,by
   rcases Jp (R:=R) ht hb (k:=j) (x:=A[i-1]) (.inr ⟨q,hr⟩) b hn with h
   exact h⟩) a hm
 ·rcases h2 with rfl|rfl|⟨p,q,hr⟩
  ·simp at hm
  ·simp at hn
  exact JF (R:=R) ht hb hj (.inr ⟨p,Jp (R:=R) ht ha (k:=i) (x:=B[j-1]) (.inr ⟨q,hr⟩) b hn⟩) a hm
 exact I a hm b hn
theorem J9{l1 l2:List α}:((l1++x::y::l2).set l1.length y).set (l1.length+1) x=l1++y::x::l2:=by
 rw[set_append_right _ _ (Nat.le_refl _),Nat.sub_self,set_cons_zero,set_append_right _ _ w4,show l1.length+1-l1.length=1 by omega,set_cons_succ,set_cons_zero]
def sw(l:List Int)(i j:Nat):List Int:=(l.set i (l.getD j 0)).set j (l.getD i 0)
theorem ajW{l:List Int}{i j:Nat}:(sw l i j).length=l.length:=by unfold sw;simp
theorem nD{l:List Int}{i:Nat}(h:i<l.length):l.getD i 0=l[i]:=by simp[h]
def kK(l:List Int)(a b:Nat):Nat->List Int
 | 0=>l
 | k+1=>sw (kK l a b k) (a+k) (b+k)
theorem CA{l:List Int}{a b:Nat}:∀{k:Nat},(kK l a b k).length=l.length
 | 0=>rfl
 | k+1=>by rw[kK,ajW,CA]
theorem VQ{l:List Int}{a b:Nat}:∀{k:Nat},a+k<=b->b+k<=l.length->∀j,(kK l a b k)[j]?=if a<=j/\j<a+k then l[b+(j-a)]? else if b<=j/\j<b+k then l[a+(j-b)]? else l[j]?
 | 0,_,_,j=>by rw[if_neg w4,if_neg w4];try rfl
 | k+1,h1,h2,j=>by
  have E:=VQ (l:=l) (a:=a) (b:=b) (k:=k) w4 w4;have e1:(kK l a b k).getD (b+k) 0=l.getD (b+k) 0:=(by rw[getD_eq_getElem?_getD,E,if_neg w4,if_neg w4,getD_eq_getElem?_getD])
  have e2:(kK l a b k).getD (a+k) 0=l.getD (a+k) 0:=(by rw[getD_eq_getElem?_getD,E,if_neg w4,if_neg w4,getD_eq_getElem?_getD])
  rw[kK,sw,e1,e2,getElem?_set,getElem?_set,length_set,CA,E];by_cases q1:b+k=j
  ·subst q1;rw[if_pos rfl,if_pos w4,if_neg w4,if_pos w4,nD w4,show a+(b+k-b)=a+k by omega,getElem?_eq_getElem w4]
  rw[if_neg q1];by_cases q2:a+k=j
  ·subst q2;rw[if_pos rfl,if_pos w4,if_pos w4,nD w4,show b+(a+k-a)=b+k by omega,getElem?_eq_getElem w4]
  rw[if_neg q2];simp only[show(a<=j/\j<a+(k+1))↔(a<=j/\j<a+k) by omega,show(b<=j/\j<b+(k+1))↔(b<=j/\j<b+k) by omega]
theorem Lz{P U M W Q:List Int}(h:U.length=W.length):kK (P++(U++(M++(W++Q)))) P.length (P.length+U.length+M.length) U.length=P++(W++(M++(U++Q))):=by
 refine ext_getElem? fun j=>?_;rw[VQ w4 (by simp only[length_append];omega)];simp only[getElem?_append];repeat' split
 all_goals first|omega|(congr 1<;>omega)
def tJ(T cur:List Int)(m i j:Nat):Prop:=∃P X Y Q,cur=P++(X++(Y++Q))/\X.length=i/\Y.length=j/\P.length+i=m/\T=P++(Y++(X++Q))
variable {T cur:List Int} {m i j:Nat}
theorem tJ.len(h:tJ T cur m i j):i<=m/\m+j<=cur.length/\T.length=cur.length:=by
 obtain⟨P,X,Y,Q,rfl,rfl,rfl,hm,rfl⟩:=h;simp only[length_append];omega
theorem ajX(h:tJ T cur m i j)(E:j<i):tJ T (kK cur (m-i) m j) m (i-j) j:=by
 obtain⟨P,X,Y,Q,rfl,rfl,rfl,hm,rfl⟩:=h;have l1:(X.take Y.length).length=Y.length:=(by rw[length_take];omega)
 have l2:(X.drop Y.length).length=X.length-Y.length:=length_drop;have e:=Lz (P:=P) (U:=X.take Y.length) (M:=X.drop Y.length) (W:=Y) (Q:=Q) l1;rw[l1,l2,<-append_assoc (X.take _) (X.drop _),take_append_drop,show P.length+Y.length+(X.length-Y.length)=m by omega,show P.length=m-X.length by omega] at e;exact⟨P++Y,X.drop Y.length,X.take Y.length,Q,by rw[e];simp,l2,l1,by rw[length_append];omega,by rw[<-append_assoc (X.take _) (X.drop _),take_append_drop];simp⟩
theorem ajY(h:tJ T cur m i j)(E:i<j):tJ T (kK cur (m-i) (m+j-i) i) m i (j-i):=by
 obtain⟨P,X,Y,Q,rfl,rfl,rfl,hm,rfl⟩:=h;have l1:(Y.take (Y.length-X.length)).length=Y.length-X.length:=(by rw[length_take];omega)
 have l2:(Y.drop (Y.length-X.length)).length=X.length:=(by rw[length_drop];omega)
 have e:=Lz (P:=P) (U:=X) (M:=Y.take (Y.length-X.length)) (W:=Y.drop (Y.length-X.length)) (Q:=Q) l2.symm;rw[l1,<-append_assoc (Y.take _) (Y.drop _),take_append_drop,show P.length+X.length+(Y.length-X.length)=m+Y.length-X.length by omega,show P.length=m-X.length by omega] at e;exact⟨P,Y.drop (Y.length-X.length),Y.take (Y.length-X.length),X++Q,e,l2,l1,hm,by rw[<-append_assoc (Y.take _) (Y.drop _),take_append_drop]⟩
theorem ajZ(h:tJ T cur m i i):kK cur (m-i) m i=T:=by
 obtain⟨P,X,Y,Q,rfl,rfl,hl,hm,rfl⟩:=h;have e:=Lz (P:=P) (U:=X) (M:=[]) (W:=Y) (Q:=Q) hl.symm;rw[length_nil,Nat.add_zero,show P.length+X.length=m by omega,show P.length=m-X.length by omega] at e;simpa using e
end So
namespace So
open Go.Proofs.Tryz
open Go.RowKit V Tw
variable {G:List (Nat×List Value)}
theorem LA(l:List Int)(E la lb k cap I:Nat)(eK:D)(Sc:List ag)(gz:l.length=E)(h1:la+k<=lb)(h2:lb+k<=E)(h3:E<=cap)(h4:cap<=maxLen):VC Tryz.prog G 178 [aN (some ⟨I,0,none⟩) E cap,ae (la:Nat),ae (lb:Nat),ae (k:Nat),eK] (⟨I,3,cap*1,(l).flatMap cI⟩::Sc) (fun r S'=>r = .dB []/\S'=⟨I,3,cap*1,(kK l la lb k).flatMap cI⟩::Sc):=by
 refine bn func178 rfl ntmps178 aP fun X0 w0 bj=>?_;have dH:=ey;refine aA [0,1,2,3,10] ?_;refine fa [0,1,2,3] (fun aV _ (i:Nat) aF=>(i<=k)/\aF=(⟨38,(10,ae (i:Nat))::aV,(⟨I,3,cap*1,(kK l la lb i).flatMap cI⟩::Sc)⟩:St)) (fun (i:Nat)=>k-i) 0 ⟨(Nat.zero_le _),rfl⟩ ?_;rintro i _ ⟨hi,rfl⟩;refine ax [0,1,2,3,10,13] ?_ ?_<;>intro aM bG
 ·have O:i<k:=(by omega)
  have hlen:(kK l la lb i).length=E:=(by rw[CA,gz])
  have ha:la+i<(kK l la lb i).length:=(by omega)
  have hb:lb+i<(kK l la lb i).length:=(by omega)
  refine en ?_;refine cQ ?_;refine kp ?_;refine iD 22 (aj (eraseIdx _ 0)) ?_ (fun _ h=>(Sublist.map _ (eraseIdx_sublist _ 0)).subset h);refine aC 0 rfl bJ ?_;refine aC 1 rfl bJ ?_;refine aC 2 rfl bJ ?_;refine aC 3 rfl qS ?_;refine aC 4 rfl bJ ?_;refine aC 5 rfl bJ ?_;refine aC 6 rfl bJ ?_;refine aC 7 rfl qS ?_;refine aC 8 rfl bJ ?_;refine aC 9 rfl bJ ?_;refine aC 10 rfl bJ ?_;refine aC 11 rfl qS ?_;refine aC 12 rfl (ei 1) ?_;refine aC 14 rfl bJ ?_;refine aC 15 rfl bJ ?_;refine aC 16 rfl bJ ?_;refine aC 17 rfl qS ?_;refine aC 18 rfl (ei 1) ?_;refine dW.later rfl ?_;refine lK (i:=13) (j:=19) aB ?_ ?_
  ·refine at_ rfl fW ?_;refine bH (i:=19) aB ?_;exact z37
  refine at_ rfl fW ?_;refine bH (i:=13) aB ?_;exact z37
 obtain rfl:i=k:=(by omega)
 refine eu _ ?_;exact⟨by first|rfl|(simp[*];done),rfl⟩
theorem aj0(l Tt:List Int)(Z a m b cap bd:Nat)(eK:D)(Sc:List ag)(h:tJ Tt l m (m-a) (b-m))(h1:a<m)(h2:m<b)(gz:l.length=Z)(E:Z<=cap)(I:cap<=maxLen):VC Tryz.prog G 165 [aN (some ⟨bd,0,none⟩) Z cap,ae (a:Nat),ae (m:Nat),ae (b:Nat),eK] (⟨bd,3,cap*1,(l).flatMap cI⟩::Sc) (fun r S'=>r = .dB []/\S'=⟨bd,3,cap*1,(Tt).flatMap cI⟩::Sc):=by
 refine bn func165 rfl ntmps165 aP fun X0 w0 bj=>?_;have dH:=ey;have hlen:=h.len;refine cN [0,2,3,4,10] ?_;refine aT 2 ?_ (h:=by exact(dX rfl ot ot (iL (r:=((m-a:Nat):Int)) rN)));refine bL ?_;refine cN [0,2,4,10,11] ?_;refine aT 2 ?_ (h:=by exact(dX rfl ot ot (iL (r:=((b-m:Nat):Int)) rN)));refine bL ?_;refine fa [0,2,4] (fun aV _ (O:Nat×Nat×List Int) aF=>match O with|(i,j,cur)=>(tJ Tt cur m i j)/\(0<i)/\(0<j)/\((cur).length=Z)/\aF=(⟨58,(10,ae (i:Nat))::(11,ae (j:Nat))::aV,(⟨bd,3,cap*1,(cur).flatMap cI⟩::Sc)⟩:St)) (fun (O:Nat×Nat×List Int)=>match O with|(i,j,cur)=>i+j) ((m-a),(b-m),l) ⟨h,w4,w4,gz,rfl⟩ ?_;rintro⟨i,j,cur⟩ _ ⟨hr,hi,hj,U,rfl⟩;refine ax [0,2,4,10,11,20] ?_ ?_<;>intro aM bG
 ·have vS:=hr.len;have hne:i≠j:=(by omega)
  refine ax [0,2,4,10,11,23] ?_ ?_<;>intro bf cD
  ·have hgt:j<i:=(by omega)
   refine az 3 ?_;refine bQ (dX rfl ot ot (iL (r:=((m-i:Nat):Int)) rN)) ?_;refine aG 3 ?_;refine fg (R:=Sc) av rfl rfl rfl call178 (LA cur Z (m-i) m j cap bd eK [] U w4 w4 E I) ⟨ot,ot,ot,ot,ot,trivial⟩ (Perm.refl _) ?_;rintro _ _ ⟨rfl,rfl⟩;refine aq 58 [0,2,4,10,11] ?_;refine jg [0,2,4,10,11] ?_;refine aT 2 ?_ (h:=by exact(dX rfl ot ot (iL (r:=((i-j:Nat):Int)) rN)));refine bL ?_;refine⟨((i-j),j,(kK cur (m-i) m j)),_,cG,aI,(ajX hr hgt),w4,hj,(by rw[CA];exact U),rfl⟩
  have aa:i<j:=(by omega)
  refine az 3 ?_;refine bQ (dX rfl ot ot (iL (r:=((m-i:Nat):Int)) rN)) ?_;refine aG 4 ?_;refine bQ (dX rfl ot ot (iL (r:=((m+j-i:Nat):Int)) (by rw[show((m:Int)+j-i)=((m+j-i:Nat):Int) by omega];exact wrap_i64 w4 w4))) ?_;refine aG 2 ?_;refine fg (R:=Sc) av rfl rfl rfl call178 (LA cur Z (m-i) (m+j-i) i cap bd eK [] U w4 w4 E I) ⟨ot,ot,ot,ot,ot,trivial⟩ (Perm.refl _) ?_;rintro _ _ ⟨rfl,rfl⟩;refine aq 58 [0,2,4,10,11] ?_;refine jg [0,2,4,10,11] ?_;refine aT 2 ?_ (h:=by exact(dX rfl ot ot (iL (r:=((j-i:Nat):Int)) rN)));refine bL ?_;refine⟨(i,(j-i),(kK cur (m-i) (m+j-i) i)),_,cG,aI,(ajY hr aa),hi,w4,(by rw[CA];exact U),rfl⟩
 have vS:=hr.len;obtain rfl:i=j:=(by omega)
 have he:=ajZ hr;refine dV 3 ?_;refine bQ (dX rfl ot ot (iL (r:=((m-i:Nat):Int)) rN)) ?_;refine aG 3 ?_;refine fg (R:=Sc) av rfl rfl rfl call178 (LA cur Z (m-i) m i cap bd eK [] U w4 w4 E I) ⟨ot,ot,ot,ot,ot,trivial⟩ (Perm.refl _) ?_;rintro _ _ ⟨rfl,rfl⟩;refine aq 58 [] ?_;refine eu _ ?_;exact⟨rfl,by rw[he];rfl⟩
end So
namespace So
open Go.Proofs.Tryz
variable {x y:Int} {Z S:List Int} {cF:Int->Int->Int}
def pO(R:Int->Int->Prop)(l0 l:List Int)(a i:Nat):Prop :=
 ∃(P A B A0:List Int),l=P++(A++B)/\P.length=a/\a+A.length=i/\A.Pairwise R/\A.Perm A0/\l0=P++(A0++B)
def uB(R:Int->Int->Prop)(l0 l:List Int)(a i j:Nat):Prop :=
 ∃(P A:List Int) (x:Int) (B A0:List Int) (k:Nat),l=P++(A.take k++x::(A.drop k++B))/\P.length=a/\k<=A.length/\a+k=j/\a+A.length=i/\A.Pairwise R/\(k=A.length\/∃h:k<A.length,R x A[k])/\A.Perm A0/\l0=P++(A0++x::B)
variable {R Lt:Int->Int->Prop} {l0 l:List Int} {a i j:Nat}
theorem uB.len(h:uB R l0 l a i j):a<=j/\j<=i/\i<l.length/\l.length=l0.length:=by
 obtain⟨P,A,x,B,E,k,rfl,rfl,hk,rfl,rfl,hs,hx,hp,rfl⟩:=h;have:=hp.length_eq;simp only[length_append,length_cons,length_take,length_drop];omega
theorem Kz(h:a<=l.length):pO R l l a a :=
 ⟨l.take a,[],l.drop a,[],by simp,by rw[length_take];omega,by simp,Pairwise.nil,.refl _,by simp⟩
theorem ail(h:a<l.length):pO R l l a (a+1) :=
 ⟨l.take a,[l[a]],l.drop (a+1),[l[a]],by simp,by rw[length_take];omega,by simp,pairwise_singleton _ _,.refl _,by simp⟩
theorem ae1(h:pO R l0 l a i)(hi:i<l.length):uB R l0 l a i i:=by
 obtain⟨P,A,B,E,rfl,rfl,rfl,hs,hp,rfl⟩:=h;cases B with
 | nil=>simp at hi
 | cons x B=>exact⟨P,A,x,B,E,A.length,by simp,rfl,Nat.le_refl _,rfl,rfl,hs,.inl rfl,hp,rfl⟩
theorem Gp{P A B:List Int}{k:Nat}(hk:k<A.length):P++(A.take (k+1)++x::(A.drop (k+1)++B))=(P++A.take k)++A[k]::x::(A.drop (k+1)++B):=by
 rw[take_succ_eq_append_getElem hk];simp only[append_assoc,singleton_append]
theorem EX(n:Nat)(hn:n=Z.length)(h:n<(Z++y::S).length):(Z++y::S)[n]'h=y:=by subst hn;simp
theorem EY(n:Nat)(hn:n=Z.length+1)(h:n<(Z++y::x::S).length):(Z++y::x::S)[n]'h=x:=by subst hn;simp[getElem_append_right]
theorem adK(h:uB R l0 l a i j)(hj:a<j)(h1:j<l.length)(h0:j-1<l.length)(hr:R l[j] l[j-1]):uB R l0 ((l.set j l[j-1]).set (j-1) l[j]) a i (j-1):=by
 obtain⟨P,A,x,B,E,k,rfl,rfl,hk,rfl,rfl,hs,hx,hp,rfl⟩:=h;obtain⟨k,rfl⟩:∃m,k=m+1:=⟨k-1,by omega⟩
 have e:=Gp (P:=P) (B:=B) (x:=x) hk;have hl:(P++A.take k).length=P.length+k:=(by rw[length_append,length_take];omega)
 simp only[e] at hr |-;rw[EX (P.length+(k+1)-1) w4,EY (P.length+(k+1)) w4] at hr |-;refine⟨P,A,x,B,E,k,?_,rfl,by omega,by omega,rfl,hs,.inr ⟨hk,hr⟩,hp,rfl⟩;rw[set_comm _ _ w4,show P.length+(k+1)-1=(P++A.take k).length by omega,show P.length+(k+1)=(P++A.take k).length+1 by omega,J9];rw[show A.drop k=A[k]::A.drop (k+1) from drop_eq_getElem_cons hk];simp only[append_assoc,cons_append]
theorem afo(ht:∀{x y z:Int},R x y->R y z->R x z)(h:uB R l0 l a i j)(h1:j<l.length)(h0:j-1<l.length)(hr:j=a\/R l[j-1] l[j]):pO R l0 l a (i+1):=by
 obtain⟨P,A,x,B,E,k,rfl,rfl,hk,rfl,rfl,hs,hx,hp,rfl⟩:=h;refine⟨P,A.take k++x::A.drop k,B,E++[x],by simp,rfl,by simp;omega,VO ht hs hk ?_ hx,?_,by simp⟩
 ·rcases Nat.eq_zero_or_pos k with rfl|hp
  ·exact .inl rfl
  right;obtain⟨k,rfl⟩:∃m,k=m+1:=⟨k-1,by omega⟩
  refine⟨by omega,?_⟩;rcases hr with hr|hr
  ·omega
  have e:=Gp (P:=P) (B:=B) (x:=x) hk;have hl:(P++A.take k).length=P.length+k:=(by rw[length_append,length_take];omega)
  simp only[e] at hr;rw[EX (P.length+(k+1)-1) w4,EY (P.length+(k+1)) w4] at hr;exact hr
 refine List.perm_middle.trans ?_;rw[take_append_drop];exact(Perm.cons x hp).trans (perm_append_singleton x E).symm
theorem ahb(h:uB R l0 l a i j)(hj:a<j)(h1:j<l.length)(h0:j-1<l.length)(hq:(l0.drop a).Pairwise Lt):Lt l[j-1] l[j]:=by
 obtain⟨P,A,x,B,E,k,rfl,rfl,hk,rfl,rfl,hs,hx,hp,rfl⟩:=h;obtain⟨k,rfl⟩:∃m,k=m+1:=⟨k-1,by omega⟩
 have e:=Gp (P:=P) (B:=B) (x:=x) hk;have hl:(P++A.take k).length=P.length+k:=(by rw[length_append,length_take];omega)
 simp only[e];rw[EX (P.length+(k+1)-1) w4,EY (P.length+(k+1)) w4];rw[drop_left' rfl,pairwise_append] at hq;exact hq.2.2 _ (hp.subset (getElem_mem hk)) x (mem_cons_self)
theorem uB.perm(h:uB R l0 l a i j):l.Perm l0:=by
 obtain⟨P,A,x,B,E,k,rfl,rfl,hk,rfl,rfl,hs,hx,hp,rfl⟩:=h;refine(perm_append_left_iff P).2 (List.perm_middle.trans ?_);rw[<-append_assoc,take_append_drop];exact(Perm.cons x ((perm_append_right_iff B).2 hp)).trans List.perm_middle.symm
def Rc(cF:Int->Int->Int)(Lt:Int->Int->Prop)(x y:Int):Prop:=cF x y<0\/cF x y=0/\Lt x y
theorem F8(h:cF y x<0):Rc cF Lt y x:=.inl h
theorem Gz(ha:∀x y,0<=cF y x->cF x y<=0)(E:Lt x y)(h:¬cF y x<0):Rc cF Lt x y:=by
 have:=ha x y w4;unfold Rc;rcases Int.lt_or_eq_of_le this with q|q
 ·exact .inl q
 exact .inr ⟨q,E⟩
def Part(R:Int->Int->Prop)(l0 l:List Int)(a b:Nat):Prop:=∃(P M M0 Q:List Int),l=P++(M++Q)/\l0=P++(M0++Q)/\P.length=a/\a+M.length=b/\M.Perm M0/\M.Pairwise R
theorem pO.part{b:Nat}(h:pO R l0 l a b):Part R l0 l a b:=by
 obtain⟨P,A,B,E,h1,h2,h3,hs,hp,h4⟩:=h;exact⟨P,A,E,B,h1,h4,h2,h3,hp,hs⟩
end So
namespace So
open Go.Proofs.Tryz
open Go.RowKit V Tw
variable {G:List (Nat×List Value)}
theorem WH(l:List Int)(U a b cap bd fc:Nat)(O:List D)(Z:List ag)(cF:Int->Int->Int)(V:Int->Prop)(Lt:Int->Int->Prop)(hV:∀x∈l,V x)(hc:∀x y,V x->V y->VC Tryz.prog G fc ([ae x,ae y]++O) Z (fun r S'=>r=ae (cF x y)/\S'=Z))(wY:∀args w,(callFunc fc args).run Tryz.prog w = .ok (.enter fc args) w)(ht:∀{x y z:Int},Rc cF Lt x y->Rc cF Lt y z->Rc cF Lt x z)(ha:∀x y,0<=cF y x->cF x y<=0)(hq:(l.drop a).Pairwise Lt)(h1:a<=b)(h2:b<=U)(gz:l.length=U)(s9:U<=cap)(s7:cap<=maxLen)(aue:U<maxLen):VC Tryz.prog G 144 [aN (some ⟨bd,0,none⟩) U cap,ae (a:Nat),ae (b:Nat),.eK (.func fc) O] (⟨bd,3,cap*1,(l).flatMap cI⟩::Z) (fun r S'=>r = .dB []/\∃lz,Part (Rc cF Lt) l lz a b/\S'=⟨bd,3,cap*1,(lz).flatMap cI⟩::Z):=by
 refine bn func144 rfl ntmps144 aP fun X0 w0 bj=>?_;have dH:=ey;refine aA [0,1,2,3,8] ?_;refine fa [0,1,2,3] (fun aV _ (E:Nat×List Int) aF=>match E with|(i,cur)=>((i<=b->pO (Rc cF Lt) l cur a i))/\(a<i)/\((a<b->i<=b))/\((a=b->cur=l))/\((cur).length=U)/\aF=(⟨53,(8,ae (i:Nat))::aV,(⟨bd,3,cap*1,(cur).flatMap cI⟩::Z)⟩:St)) (fun (E:Nat×List Int)=>match E with|(i,cur)=>b-i) ((a+1),l) ⟨(fun q=>ail w4),(Nat.lt_succ_self _),(fun q=>q),(fun _=>rfl),gz,rfl⟩ ?_;rintro⟨i,cur⟩ _ ⟨hs,hai,hib,nw,lm,rfl⟩;refine ax [0,1,2,3,8,14] ?_ ?_<;>intro aM bG
 ·have aa:i<b:=(by omega)
  refine aA [0,1,2,3,8,9] ?_;refine fa [0,1,2,3,8] (fun aV _ (E:Nat×List Int) aF=>match E with|(j,mj)=>(uB (Rc cF Lt) l mj a i j)/\((mj).length=U)/\aF=(⟨53,(9,ae (j:Nat))::aV,(⟨bd,3,cap*1,(mj).flatMap cI⟩::Z)⟩:St)) (fun (E:Nat×List Int)=>match E with|(j,mj)=>j) (i,cur) ⟨(ae1 (hs w4) w4),lm,rfl⟩ ?_;rintro⟨j,mj⟩ _ ⟨hj,A5,rfl⟩;have ja:=hj.len;have rR:j<mj.length:=(by omega)
  have rQ:j-1<mj.length:=(by omega)
  refine cQ ?_;refine cQ ?_;refine iD 14 (aj (take 1 _)) ?_ (fun _ h=>(Sublist.map _ (take_sublist _ _)).subset h);refine aC 0 rfl bJ ?_;refine aC 1 rfl bJ ?_;refine aC 2 rfl qS ?_;refine aC 3 rfl bJ ?_;refine dW.split (t:=21) lk (fun rK=>?_) (fun rK=>?_)
  ·have I:=rK;(try simp only[V.oG,ne_eq] at I)
   refine aC 4 rfl bJ ?_;refine aC 5 rfl bJ ?_;refine aC 6 rfl bJ ?_;refine aC 7 rfl (ei 1 (h:=MX)) ?_;refine aC 8 rfl fW ?_;refine aC 9 rfl bJ ?_;refine aC 10 rfl bJ ?_;refine aC 11 rfl (dX rfl ot cf (iL (r:=((j-1:Nat):Int)) (by rw[show((j:Int)-1)=((j-1:Nat):Int) by have Ew:=of_decide_eq_true rK;omega];exact wrap_i64 (by have Ew:=of_decide_eq_true rK;omega) w4))) ?_;refine aC 12 rfl (ei 1 (h:=by first|exact .l (j:=j-1) rfl w4|exact .r (j:=j-1) rfl w4)) ?_;refine aC 13 rfl fW ?_;refine dW.later rfl ?_;refine fD ?_;have hvj:∀x∈mj,V x:=fun x hx=>hV x (hj.perm.subset hx);refine my (f:=fc) (args:=[_,_]) (Sf:=Z) iR rfl rfl ot wY (hc _ _ (hvj _ (getElem_mem rR)) (hvj _ (getElem_mem rQ))) rfl ⟨ot,ot,trivial⟩ (perm_append_singleton _ _).symm ?_;rintro _ S2 ⟨rfl,iK⟩;rw[iK];clear iK;refine bZ (perm_append_singleton _ _) ?_;refine aq 53 [0,1,2,3,8,9,34] ?_;refine cj ?_ ?_<;>intro bf cD
   ·have hja:a<j:=(by have q:=of_decide_eq_true rK;omega)
    have akq:cF (mj[j]'rR) (mj[j-1]'rQ)<0:=cD;refine en ?_;refine cQ ?_;refine kp ?_;refine iD 16 (aj (eraseIdx _ 0)) ?_ (fun _ h=>(Sublist.map _ (eraseIdx_sublist _ 0)).subset h);refine aC 0 rfl bJ ?_;refine aC 1 rfl bJ ?_;refine aC 2 rfl bJ ?_;refine aC 3 rfl bJ ?_;refine aC 4 rfl (dX rfl ot cf (iL (r:=((j-1:Nat):Int)) MS)) ?_;refine aC 5 rfl bJ ?_;refine aC 6 rfl bJ ?_;refine aC 7 rfl (dX rfl ot cf (iL (r:=((j-1:Nat):Int)) MS)) ?_;refine aC 8 rfl (ei 1 (h:=by first|exact .l (j:=j-1) rfl w4|exact .r (j:=j-1) rfl w4)) ?_;refine aC 10 rfl bJ ?_;refine aC 11 rfl bJ ?_;refine aC 12 rfl (ei 1 (h:=MX)) ?_;refine dW.later rfl ?_;refine lK (i:=9) (j:=13) aB ?_ ?_
    ·refine at_ rfl fW ?_;refine bH (i:=13) aB ?_;exact ZM
    refine at_ rfl fW ?_;refine bH (i:=9) aB ?_;exact ZM
   exact z59
  have I:=rK;(try simp only[V.oG,ne_eq] at I)
  refine nr 4 rfl ?_;refine nr 5 rfl ?_;refine nr 6 rfl ?_;refine nr 7 rfl ?_;refine nr 8 rfl ?_;refine nr 9 rfl ?_;refine nr 10 rfl ?_;refine nr 11 rfl ?_;refine nr 12 rfl ?_;refine nr 13 rfl ?_;refine dW.later rfl ?_;refine fD ?_;refine bA [0,1,2,3,8,9,34] ?_;refine gB ?_;exact z59
 have ox:pO (Rc cF Lt) l cur a b:=(Nat.eq_or_lt_of_le h1).elim (fun q=>by subst q;rw[nw rfl];exact Kz w4) (fun q=>(show i=b by omega) ▸ hs w4);refine eu _ ?_;exact⟨rfl,_,ox.part,rfl⟩
end So
namespace So
open Go.Proofs.Tryz
variable {i:Nat}
def Mv(P B Q:List Int)(x:Int)(t:Nat):List Int:=P++(B.take t++x::(B.drop t++Q))
variable {P B Q:List Int} {x:Int} {t:Nat}
theorem GN(h:t<=B.length):(Mv P B Q x t).length=P.length+(B.length+1+Q.length):=by
 unfold Mv;simp only[length_append,length_cons,length_take,length_drop];omega
theorem Gq(h:t<B.length):Mv P B Q x t=(P++B.take t)++x::B[t]::(B.drop (t+1)++Q):=by
 unfold Mv;rw[drop_eq_getElem_cons h];simp only[append_assoc,cons_append]
theorem Gr(h:t<B.length):Mv P B Q x (t+1)=(P++B.take t)++B[t]::x::(B.drop (t+1)++Q):=Gp h
theorem AU(h:t<B.length):(P++B.take t).length=P.length+t:=by rw[length_append,length_take];omega
theorem aj1(h:t<B.length)(h0:P.length+t<(Mv P B Q x t).length):(Mv P B Q x t)[P.length+t]=x:=by
 simp only[Gq h];rw[EX _ (AU h).symm]
theorem aim(h:t<B.length)(h0:P.length+t+1<(Mv P B Q x t).length):(Mv P B Q x t)[P.length+t+1]=B[t]:=by
 simp only[Gq h];rw[EY _ (by rw[AU h])]
theorem agE(h:t<B.length):((Mv P B Q x t).set (P.length+t) B[t]).set (P.length+t+1) x=Mv P B Q x (t+1):=by
 rw[Gq h,Gr h,<-AU (P:=P) h,J9]
theorem ain(h:t<B.length):((Mv P B Q x (t+1)).set (P.length+t+1) B[t]).set (P.length+t) x=Mv P B Q x t:=by
 rw[Gq h,Gr h,<-AU (P:=P) h,set_comm _ _ w4,J9]
variable {R Lt:Int->Int->Prop} {l l1 l2 l3:List Int} {a s m e b mid:Nat}
theorem VR(ht:∀{x y z:Int},R x y->R y z->R x z){P B Q:List Int}{x:Int}{s t:Nat}(hB:B.Pairwise R)(hs:s<=B.length)(hk:t<=B.length)(h1:t=0\/∃h:t-1<B.length,R B[t-1] x)(h2:t=B.length\/∃h:t<B.length,R x B[t]) :
  Part R (Mv P B Q x s) (Mv P B Q x t) P.length (P.length+(B.length+1)):=by
 have hp:∀t,(B.take t++x::B.drop t).Perm (x::B):=fun t=>List.perm_middle.trans (by rw[take_append_drop]);refine⟨P,B.take t++x::B.drop t,B.take s++x::B.drop s,Q,by unfold Mv;simp,by unfold Mv;simp,rfl,?_,(hp t).trans (hp s).symm,VO ht hB hk h1 h2⟩;have:=(hp t).length_eq;simp only[length_cons] at this;rw[this]
def rf(R Lt:Int->Int->Prop)(l:List Int)(a m b:Nat):Prop:=∃(P A B Q:List Int),l=P++(A++(B++Q))/\P.length=a/\a+A.length=m/\m+B.length=b/\A.Pairwise R/\B.Pairwise R/\∀x∈A,∀y∈B,Lt x y
theorem rf.len(h:rf R Lt l a m b):a<=m/\m<=b/\b<=l.length:=by
 obtain⟨P,A,B,Q,rfl,rfl,rfl,rfl,_⟩:=h;simp only[length_append];omega
theorem rf.lt(h:rf R Lt l a m b){j:Nat}(h1:a<=i)(h2:i<m)(h3:m<=j)(h4:j<b)(hi:i<l.length)(hj:j<l.length):Lt l[i] l[j]:=by
 obtain⟨P,A,B,Q,rfl,rfl,rfl,rfl,_,_,h⟩:=h;refine h _ ?_ _ ?_
 ·rw[getElem_append_right h1,getElem_append_left w4];exact getElem_mem _
 rw[getElem_append_right w4,getElem_append_right w4,getElem_append_left w4];exact getElem_mem _
theorem SB{P M Q:List Int}(h:M.Pairwise R):Part R (P++(M++Q)) (P++(M++Q)) P.length (P.length+M.length):=⟨P,M,M,Q,rfl,rfl,rfl,rfl,.refl _,h⟩
theorem Ul{P E Q:List Int}{x y:Nat}(h:Part R (P++(E++Q)) l x y)(hx:x=P.length)(hy:y=P.length+E.length):∃M,l=P++(M++Q)/\M.Perm E/\M.Pairwise R:=by
 obtain⟨P',M,U,Q',h1,h2,h3,h4,h5,h6⟩:=h;have hl:=h5.length_eq;obtain⟨e1,e2⟩:=append_inj h2 w4;obtain⟨I,O⟩:=append_inj e2 w4;subst e1 I O;exact⟨M,h1,h5,h6⟩
def vD(R Lt:Int->Int->Prop)(l l1:List Int)(a s m e b mid:Nat):Prop:=∃(P A1 A2 B1 B2 Q:List Int),l=P++(A1++(A2++(B1++(B2++Q))))/\l1=P++(A1++(B1++(A2++(B2++Q))))/\P.length=a/\a+A1.length=s/\s+A2.length=m/\m+B1.length=e/\e+B2.length=b/\s+B1.length=mid /\
 A1.Pairwise R/\A2.Pairwise R/\B1.Pairwise R/\B2.Pairwise R/\(∀x∈A1,∀y∈B1,Lt x y)/\(∀x∈A2,∀y∈B2,Lt x y)/\∀x∈A1++B1,∀y∈A2++B2,R x y
theorem aio (ht:∀{x y z:Int},R x y->R y z->R x z) (h:rf R Lt l a m b) (h1:a<=s) (h2:s<=m) (h3:m<=e) (h4:e<=b) (hm:s+(e-m)=mid)
  (k1:s=a\/e=b\/∃(p:s-1<l.length) (q:e<l.length),R l[s-1] l[e]) (k2:e=m\/s=m\/∃(p:e-1<l.length) (q:s<l.length),R l[e-1] l[s]):∃l1,vD R Lt l l1 a s m e b mid/\tJ l1 l m (m-s) (e-m):=by
 obtain⟨P,A,B,Q,rfl,rfl,rfl,rfl,hA,hB,aa⟩:=h;obtain⟨i,rfl⟩:∃i,s=P.length+i:=⟨s-P.length,by omega⟩
 obtain⟨j,rfl⟩:∃j,e=P.length+A.length+j:=⟨e-(P.length+A.length),by omega⟩
 have E:∀k (h:k<A.length) (q:P.length+k<(P++(A++(B++Q))).length),(P++(A++(B++Q)))[P.length+k]=A[k]:=fun k h q=>by
  rw[getElem_append_right w4,getElem_append_left w4];simp
 have I:∀k (h:k<B.length) (q:P.length+A.length+k<(P++(A++(B++Q))).length),(P++(A++(B++Q)))[P.length+A.length+k]=B[k]:=fun k h q=>by
  rw[getElem_append_right w4,getElem_append_right w4,getElem_append_left w4];congr 1;omega
 have hc:=ae0 (R:=R) ht hA hB (i:=i) (j:=j) w4 w4 (by
  rcases Nat.eq_zero_or_pos i with q|q
  ·exact .inl q
  rcases k1 with k1|k1|⟨p1,p2,k1⟩
  ·omega
  ·exact .inr (.inl w4)
  ·rcases Nat.lt_or_ge j B.length with q2|q2
   ·refine .inr (.inr ⟨by omega,q2,?_⟩);have e1:=E (i-1) w4 w4;simp only[show P.length+i-1=P.length+(i-1) by omega] at k1;rw[e1,I j q2] at k1;exact k1
   exact .inr (.inl w4)) (by
  rcases Nat.eq_zero_or_pos j with q|q
  ·exact .inl q
  rcases k2 with k2|k2|⟨p1,p2,k2⟩
  ·omega
  ·exact .inr (.inl w4)
  rcases Nat.lt_or_ge i A.length with q2|q2
  ·refine .inr (.inr ⟨by omega,q2,?_⟩);have e1:=I (j-1) w4 w4;simp only[show P.length+A.length+j-1=P.length+A.length+(j-1) by omega] at k2;rw[e1,E i q2] at k2;exact k2
  exact .inr (.inl w4))
 have la1:(A.take i).length=i:=(by rw[length_take];omega)
 have lb1:(B.take j).length=j:=(by rw[length_take];omega)
 have la2:(A.drop i).length=A.length-i:=length_drop;have lb2:(B.drop j).length=B.length-j:=length_drop;have O:A.take i++A.drop i=A:=take_append_drop ..;have U:B.take j++B.drop j=B:=take_append_drop ..;have Z:(A.take i++A.drop i).Pairwise R:=(by rw[O];exact hA)
 have pb:(B.take j++B.drop j).Pairwise R:=(by rw[U];exact hB)
 have ea:A++(B++Q)=A.take i++(A.drop i++(B.take j++(B.drop j++Q))):=(by rw[<-append_assoc (A.take i),O,<-append_assoc (B.take j),U])
 refine⟨P++(A.take i++(B.take j++(A.drop i++(B.drop j++Q)))),⟨P,A.take i,A.drop i,B.take j,B.drop j,Q,by rw[ea],rfl,rfl,by omega,by omega,by omega,by omega,by omega,(pairwise_append.1 Z).1,(pairwise_append.1 Z).2.1,(pairwise_append.1 pb).1,(pairwise_append.1 pb).2.1,fun x hx y hy=>aa x (mem_of_mem_take hx) y (mem_of_mem_take hy),fun x hx y hy=>aa x (mem_of_mem_drop hx) y (mem_of_mem_drop hy),hc⟩,
  P++A.take i,A.drop i,B.take j,B.drop j++Q,by rw[ea];simp,by omega,by omega,by rw[length_append];omega,by simp⟩
theorem vD.perm(h:vD R Lt l l1 a s m e b mid):l1.Perm l:=by
 obtain⟨P,E,I,O,B2,Q,rfl,rfl,_⟩:=h;refine Perm.append_left P (Perm.append_left E ?_);rw[<-append_assoc O,<-append_assoc I];exact List.perm_append_comm.append_right _
theorem aip(h:vD R Lt l l1 a s m e b mid):rf R Lt l1 a s mid:=by
 obtain⟨P,E,I,O,B2,Q,rfl,rfl,e1,e2,Z,e4,e5,U,p1,p2,p3,p4,q1,q2,q3⟩:=h;exact⟨P,E,O,I++(B2++Q),rfl,e1,e2,U,p1,p3,q1⟩
theorem Um(h:vD R Lt l l1 a s m e b mid)(hn:¬(a<s/\s<mid)):Part R l1 l1 a mid:=by
 obtain⟨P,E,O,I,B2,Q,rfl,rfl,rfl,e2,U,Z,e5,e6,p1,p2,p3,p4,q1,q2,q3⟩:=h;have:(E++I).Pairwise R:=by
  rcases Nat.eq_zero_or_pos E.length with h|h
  ·rw[length_eq_zero_iff.1 h];exact p3
  rw[length_eq_zero_iff.1 (show I.length=0 by omega),append_nil];exact p1
 have:=SB (P:=P) (Q:=O++(B2++Q)) this;rw[append_assoc,length_append] at this;rwa [show P.length+(E.length+I.length)=mid by omega] at this
theorem LC(h:vD R Lt l l1 a s m e b mid)(k:Part R l1 l2 a mid):∃(P I E O B2 Q M:List Int),l=P++(I++(E++(O++(B2++Q))))/\l2=P++(M++(E++(B2++Q)))/\P.length=a/\M.length+a=mid/\M.Perm (I++O)/\mid+E.length=e/\e+B2.length=b/\M.Pairwise R/\E.Pairwise R/\B2.Pairwise R/\(∀x∈E,∀y∈B2,Lt x y)/\∀x∈M,∀y∈E++B2,R x y:=by
 obtain⟨P,I,E,O,B2,Q,rfl,rfl,rfl,e2,e3,e4,e5,e6,p1,p2,p3,U,q1,q2,Z⟩:=h;rw[<-append_assoc I] at k;obtain⟨M,h1,h2,h3⟩:=Ul k rfl xw;have:=h2.length_eq;rw[length_append] at this;exact⟨P,I,E,O,B2,Q,M,rfl,h1,rfl,by omega,h2,by omega,by omega,h3,p2,U,q2,fun x hx=>Z x (h2.subset hx)⟩
theorem agF(h:vD R Lt l l1 a s m e b mid)(k:Part R l1 l2 a mid):rf R Lt l2 mid e b:=by
 obtain⟨P,I,E,O,B2,Q,M,rfl,rfl,rfl,e1,e2,U,Z,p1,p2,p3,q1,q2⟩:=LC h k;exact⟨P++M,E,B2,Q,by simp,by rw[length_append];omega,by omega,by omega,p2,p3,q1⟩
theorem Rl(h:vD R Lt l l1 a s m e b mid)(k:Part R l1 l2 a mid)(hn:¬(mid<e/\e<b)):Part R l2 l2 mid b:=by
 obtain⟨P,I,E,O,B2,Q,M,rfl,rfl,rfl,e1,e2,U,Z,p1,p2,p3,q1,q2⟩:=LC h k;have:(E++B2).Pairwise R:=by
  rcases Nat.eq_zero_or_pos E.length with h|h
  ·rw[length_eq_zero_iff.1 h];exact p3
  rw[length_eq_zero_iff.1 (show B2.length=0 by omega),append_nil];exact p2
 have:=SB (P:=P++M) (Q:=Q) this;rw[append_assoc,length_append,length_append,append_assoc] at this;rwa [show P.length+M.length+(E.length+B2.length)=b by omega,show P.length+M.length=mid by omega] at this
theorem F9(h:vD R Lt l l1 a s m e b mid)(k:Part R l1 l2 a mid)(j:Part R l2 l3 mid b):Part R l l3 a b:=by
 obtain⟨P,E,I,O,B2,Q,M,rfl,rfl,rfl,e1,e2,Z,e4,p1,p2,p3,q1,q2⟩:=LC h k;rw[<-append_assoc I,<-append_assoc P] at j;obtain⟨U,h1,h2,h3⟩:=Ul j xw (by rw[length_append,length_append];omega);have hl:=e2.length_eq;have iu:=h2.length_eq;rw[length_append] at hl iu;refine⟨P,M++U,E++(I++(O++B2)),Q,by rw[h1];simp,by simp,rfl,by rw[length_append];omega,?_,pairwise_append.2 ⟨p1,h3,fun x hx y hy=>q2 x hx y (h2.subset hy)⟩⟩;refine(e2.append h2).trans ?_;rw[append_assoc E];refine Perm.append_left E ?_;rw[<-append_assoc O,<-append_assoc I];exact List.perm_append_comm.append_right B2
theorem Part.perm(h:Part R l l1 a b):l1.Perm l:=by
 obtain⟨P,M,E,Q,rfl,rfl,_,_,hp,_⟩:=h;exact(hp.append_right Q).append_left P
theorem Part.len(h:Part R l l1 a b):l1.length=l.length:=h.perm.length_eq
theorem afp{T cur:List Int}{j:Nat}(h:tJ T cur m i j)(hz:i=0\/j=0):T=cur:=by
 obtain⟨P,X,Y,Q,rfl,rfl,rfl,hm,rfl⟩:=h;rcases hz with h|h
 ·rw[length_eq_zero_iff.1 h];rfl
 rw[length_eq_zero_iff.1 h];rfl
theorem agG(ht:∀{x y z:Int},R x y->R y z->R x z)(h:rf R Lt l a m b)(hm:m=a+1)(h1:m<=i)(h2:i<=b)(k1:i=m\/∃(p:i-1<l.length) (q:a<l.length),R l[i-1] l[a])(k2:i=b\/∃(p:a<l.length) (q:i<l.length),R l[a] l[i]) :
  ∃(P B Q:List Int) (x:Int),P.length=a/\l=Mv P B Q x 0/\i-m<=B.length/\m+B.length=b/\Part R l (Mv P B Q x (i-m)) a b:=by
 obtain⟨P,A,B,Q,rfl,rfl,rfl,rfl,hA,hB,aa⟩:=h;obtain⟨x,rfl⟩:=length_eq_one_iff.1 (show A.length=1 by omega);have E:∀(q:P.length<(P++([x]++(B++Q))).length),(P++([x]++(B++Q)))[P.length]=x:=fun q=>by rw[getElem_append_right w4];simp
 have I:∀k (h:k<B.length) (q:P.length+1+k<(P++([x]++(B++Q))).length),(P++([x]++(B++Q)))[P.length+1+k]=B[k]:=fun k h q=>by
  rw[getElem_append_right w4,getElem_append_right iI,getElem_append_left iI];simp only[length_singleton];congr 1;omega
 have mi:([x]:List Int).length=1:=rfl;rw[mi] at *;obtain⟨t,rfl⟩:∃t,i=P.length+1+t:=⟨i-(P.length+1),by omega⟩
 rw[show P.length+1+t-(P.length+1)=t by omega];have hp:=VR (R:=R) (P:=P) (B:=B) (Q:=Q) (x:=x) (s:=0) (t:=t) ht hB (Nat.zero_le _) w4 (by
  rcases Nat.eq_zero_or_pos t with q|q
  ·exact .inl q
  rcases k1 with k1|⟨p1,O,k1⟩
  ·omega
  ·refine .inr ⟨by omega,?_⟩;have e1:=I (t-1) w4 w4;simp only[show P.length+1+t-1=P.length+1+(t-1) by omega] at k1;rw[E,e1] at k1;exact k1) (by
  rcases k2 with k2|⟨p1,O,k2⟩
  ·exact .inl w4
  rcases Nat.lt_or_ge t B.length with q|q
  ·exact .inr ⟨q,by rw[E,I t q] at k2;exact k2⟩
  exact .inl w4)
 refine⟨P,B,Q,x,rfl,rfl,by omega,rfl,?_⟩;rw[show P.length+(B.length+1)=P.length+1+B.length by omega] at hp;exact hp
theorem ae2(ht:∀{x y z:Int},R x y->R y z->R x z)(h:rf R Lt l a m b)(hm:b=m+1)(h1:a<=i)(h2:i<=m)(k1:i=a\/∃(p:i-1<l.length) (q:m<l.length),R l[i-1] l[m])(k2:i=m\/∃(p:m<l.length) (q:i<l.length),R l[m] l[i]) :
  ∃(P B Q:List Int) (x:Int),P.length=a/\l=Mv P B Q x (m-a)/\i-a<=B.length/\a+B.length=m/\Part R l (Mv P B Q x (i-a)) a b:=by
 obtain⟨P,A,B,Q,rfl,rfl,rfl,rfl,hA,hB,aa⟩:=h;obtain⟨x,rfl⟩:=length_eq_one_iff.1 (show B.length=1 by omega);have E:∀(q:P.length+A.length<(P++(A++([x]++Q))).length),(P++(A++([x]++Q)))[P.length+A.length]=x:=fun q=>by
  rw[getElem_append_right w4,getElem_append_right w4];simp
 have I:∀k (h:k<A.length) (q:P.length+k<(P++(A++([x]++Q))).length),(P++(A++([x]++Q)))[P.length+k]=A[k]:=fun k h q=>by
  rw[getElem_append_right w4,getElem_append_left w4];simp
 have mi:([x]:List Int).length=1:=rfl;rw[mi] at *;obtain⟨t,rfl⟩:∃t,i=P.length+t:=⟨i-P.length,by omega⟩
 rw[show P.length+t-P.length=t by omega,show P.length+A.length-P.length=A.length by omega];have he:P++(A++([x]++Q))=Mv P A Q x A.length:=(by unfold Mv;simp)
 have hp:=VR (R:=R) (P:=P) (B:=A) (Q:=Q) (x:=x) (s:=A.length) (t:=t) ht hA (Nat.le_refl _) w4 (by
  rcases Nat.eq_zero_or_pos t with q|q
  ·exact .inl q
  rcases k1 with k1|⟨p1,O,k1⟩
  ·omega
  ·refine .inr ⟨by omega,?_⟩;have e1:=I (t-1) w4 w4;simp only[show P.length+t-1=P.length+(t-1) by omega] at k1;rw[E,e1] at k1;exact k1) (by
  rcases k2 with k2|⟨p1,O,k2⟩
  ·exact .inl w4
  rcases Nat.lt_or_ge t A.length with q|q
  ·exact .inr ⟨q,by rw[E,I t q] at k2;exact k2⟩
  exact .inl w4)
 refine⟨P,A,Q,x,rfl,he,by omega,rfl,?_⟩;rw[he,show P.length+A.length+1=P.length+(A.length+1) by omega];exact hp
theorem agH(h:t<B.length)(h0:P.length+t<(Mv P B Q x (t+1)).length):(Mv P B Q x (t+1))[P.length+t]=B[t]:=by
 simp only[Gr h];rw[EX _ (AU h).symm]
theorem agI(h:t<B.length)(h0:P.length+t+1<(Mv P B Q x (t+1)).length):(Mv P B Q x (t+1))[P.length+t+1]=x:=by
 simp only[Gr h];rw[EY _ (by rw[AU h])]
theorem aiX(h:t<B.length)(ha:P.length=a)(h0:a+t<(Mv P B Q x t).length)(h1:a+t+1<(Mv P B Q x t).length):((Mv P B Q x t).set (a+t) (Mv P B Q x t)[a+t+1]).set (a+t+1) (Mv P B Q x t)[a+t]=Mv P B Q x (t+1):=by
 subst ha;rw[aim h,aj1 h,agE h]
theorem aiW(h:t<B.length)(ha:P.length=a)(h0:a+t<(Mv P B Q x (t+1)).length)(h1:a+t+1<(Mv P B Q x (t+1)).length):((Mv P B Q x (t+1)).set (a+t+1) (Mv P B Q x (t+1))[a+t]).set (a+t) (Mv P B Q x (t+1))[a+t+1]=Mv P B Q x t:=by
 subst ha;rw[agH h,agI h,ain h]
end So
namespace So
open Go.Proofs.Tryz
open Go.RowKit V Tw
variable {G:List (Nat×List Value)}
theorem agJ(ln cap O fc:Nat)(U:List D)(I:List ag)(cF:Int->Int->Int)(V:Int->Prop)(Lt:Int->Int->Prop)(hc:∀x y,V x->V y->VC Tryz.prog G fc ([ae x,ae y]++U) I (fun r S'=>r=ae (cF x y)/\S'=I))(Z:∀args w,(callFunc fc args).run Tryz.prog w = .ok (.enter fc args) w)(ht:∀{x y z:Int},Rc cF Lt x y->Rc cF Lt y z->Rc cF Lt x z)(ha:∀x y,0<=cF y x->cF x y<=0)(s9:ln<=cap)(s7:cap<=maxLen)(mq:ln<=1000000)(n:Nat)(ih:∀k,k<n->∀(l:List Int) (a m b:Nat),b-a=k->rf (Rc cF Lt) Lt l a m b->a<m->m<b->l.length=ln->(∀x∈l,V x)->VC Tryz.prog G 145 [aN (some ⟨O,0,none⟩) ln cap,ae (a:Nat),ae (m:Nat),ae (b:Nat),.eK (.func fc) U] (⟨O,3,cap*1,(l).flatMap cI⟩::I) (fun r S'=>r = .dB []/\∃lz,Part (Rc cF Lt) l lz a b/\S'=⟨O,3,cap*1,(lz).flatMap cI⟩::I))(l:List Int)(a m b:Nat)(hn:b-a=n)(h:rf (Rc cF Lt) Lt l a m b)(h1:a<m)(h2:m<b)(gz:l.length=ln)(hV:∀x∈l,V x):VC Tryz.prog G 145 [aN (some ⟨O,0,none⟩) ln cap,ae (a:Nat),ae (m:Nat),ae (b:Nat),.eK (.func fc) U] (⟨O,3,cap*1,(l).flatMap cI⟩::I) (fun r S'=>r = .dB []/\∃lz,Part (Rc cF Lt) l lz a b/\S'=⟨O,3,cap*1,(lz).flatMap cI⟩::I):=by
 refine bn func145 rfl ntmps145 aP fun X0 w0 bj=>?_;have dH:=ey;have hlen:=h.len;refine cN [0,1,2,3,4,28] ?_;refine aT 2 ?_ (h:=by exact(dX rfl ot ot (iL (r:=((m-a:Nat):Int)) rN)));refine bL ?_;refine cj ?_ ?_<;>intro aM bG
 ·have Ev:m=a+1:=(by omega)
  refine aA [0,1,3,4,10] ?_;refine aA [0,1,4,10,11] ?_;refine fa [0,1,4] (fun aV _ (E:Nat×Nat) aF=>match E with|(i,j)=>(m<=i)/\(i<=j)/\(j<=b)/\((i=m\/∃(p:i-1<l.length) (q:a<l.length),(Rc cF Lt) l[i-1] l[a]))/\((j=b\/∃(p:a<l.length) (q:j<l.length),(Rc cF Lt) l[a] l[j]))/\aF=(⟨220,(10,ae (i:Nat))::(11,ae (j:Nat))::aV,(⟨O,3,cap*1,(l).flatMap cI⟩::I)⟩:St)) (fun (E:Nat×Nat)=>match E with|(i,j)=>j-i) (m,b) ⟨(Nat.le_refl _),w4,(Nat.le_refl _),(.inl rfl),(.inl rfl),rfl⟩ ?_;rintro⟨i,j⟩ _ ⟨xH,hij,hjb,cl,eR,rfl⟩;refine ax [0,1,4,10,11,33] ?_ ?_<;>intro bf cD
  ·have hh:i<j:=(by omega)
   have hH:((i+j)/2)<l.length:=(by omega)
   have hA:a<l.length:=(by omega)
   refine cN [0,1,4,10,11,12] ?_;refine aT 2 ?_ (h:=Oj);refine aT 0 ?_ (h:=Oi);refine aT 0 ?_ (h:=DL);refine aT 0 ?_ (h:=Oh);refine bL ?_;refine cQ ?_;refine iD 9 (aj (take 1 _)) ?_ (fun _ h=>(Sublist.map _ (take_sublist _ _)).subset h);refine aC 0 rfl bJ ?_;refine aC 1 rfl bJ ?_;refine aC 2 rfl bJ ?_;refine aC 3 rfl (ei 1 (h:=XR)) ?_;refine aC 4 rfl fW ?_;refine aC 5 rfl bJ ?_;refine aC 6 rfl bJ ?_;refine aC 7 rfl (ei 1 (h:=by first|exact .l (j:=a) rfl w4|exact .r (j:=a) rfl w4)) ?_;refine aC 8 rfl fW ?_;refine dW.later rfl ?_;refine fD ?_;refine my (f:=fc) (args:=[_,_]) (Sf:=I) av rfl rfl ot Z (hc _ _ (hV _ (getElem_mem hH)) (hV _ (getElem_mem hA))) rfl ⟨ot,ot,trivial⟩ (perm_append_singleton _ _).symm ?_;rintro _ S2 ⟨rfl,iK⟩;rw[iK];clear iK;refine bZ (perm_append_singleton _ _) ?_;refine aq 220 [0,1,4,10,11,12,50] ?_;refine cj ?_ ?_<;>intro cr cU
   ·have vF:(Rc cF Lt) (l[((i+j)/2)]'hH) (l[a]'hA):=F8 cU;refine cc [0,1,4,10,11] ?_;exact z99
   have Bu:(Rc cF Lt) (l[a]'hA) (l[((i+j)/2)]'hH):=Gz ha (h.lt (Nat.le_refl _) w4 w4 w4 hA hH) w4;refine cc [0,1,4,10,11] ?_;exact Yb
  obtain rfl:i=j:=(by omega)
  obtain⟨P,B,Q,x,hP,hl,hiB,hB,Mo⟩:=agG (R:=Rc cF Lt) (l:=l) (a:=a) (m:=m) (b:=b) (i:=i) ht h Ev xH hjb cl eR;subst hl;have mU:∀t,t<=B.length->(Mv P B Q x (t)).length=ln:=fun t ht=>by rw[GN ht,<-gz,GN (Nat.zero_le _)]
  refine aA [0,10,13] ?_;refine fa [0,10] (fun aV _ (t:Nat) aF=>(t<=i-m)/\aF=(⟨220,(13,ae (a+t:Nat))::aV,(⟨O,3,cap*1,(Mv P B Q x (t)).flatMap cI⟩::I)⟩:St)) (fun (t:Nat)=>i-m-t) 0 ⟨(Nat.zero_le _),rfl⟩ ?_;rintro t _ ⟨hti,rfl⟩;refine cN [0,10,13,58] ?_;refine aT 2 ?_ (h:=by exact(dX rfl ot cf (iL (r:=((i-1:Nat):Int)) (by rw[show(((i:Nat):Int)-1)=((i-1:Nat):Int) by omega];exact wrap_i64 w4 w4))));refine bL ?_;refine cj ?_ ?_<;>intro de eG
  ·have Oy:t<B.length:=(by omega)
   have uG:=mU t w4;refine en ?_;refine cQ ?_;refine kp ?_;refine iD 16 (aj (eraseIdx _ 0)) ?_ (fun _ h=>(Sublist.map _ (eraseIdx_sublist _ 0)).subset h);refine aC 0 rfl bJ ?_;refine aC 1 rfl bJ ?_;refine aC 2 rfl bJ ?_;refine aC 3 rfl bJ ?_;refine aC 4 rfl (dX rfl ot cf (lI (r:=((a+t+1:Nat):Int)) XQ)) ?_;refine aC 5 rfl bJ ?_;refine aC 6 rfl bJ ?_;refine aC 7 rfl (dX rfl ot cf (lI (r:=((a+t+1:Nat):Int)) XQ)) ?_;refine aC 8 rfl (ei 1 (h:=MR)) ?_;refine aC 10 rfl bJ ?_;refine aC 11 rfl bJ ?_;refine aC 12 rfl (ei 1 (h:=MU)) ?_;refine dW.later rfl ?_;refine lK (i:=9) (j:=13) aB ?_ ?_
   ·refine at_ rfl fW ?_;refine bH (i:=13) aB ?_;exact z28
   refine at_ rfl fW ?_;refine bH (i:=9) aB ?_;exact z28
  obtain rfl:t=i-m:=(by omega)
  exact Iq
 refine cN [0,1,2,3,4,80] ?_;refine aT 2 ?_ (h:=by exact(dX rfl ot ot (iL (r:=((b-m:Nat):Int)) rN)));refine bL ?_;refine cj ?_ ?_<;>intro eo fS
 ·have Ev:b=m+1:=(by omega)
  refine aA [0,2,4,14] ?_;refine aA [0,2,4,14,15] ?_;refine fa [0,2,4] (fun aV _ (E:Nat×Nat) aF=>match E with|(i,j)=>(a<=i)/\(i<=j)/\(j<=m)/\((i=a\/∃(p:i-1<l.length) (q:m<l.length),(Rc cF Lt) l[i-1] l[m]))/\((j=m\/∃(p:m<l.length) (q:j<l.length),(Rc cF Lt) l[m] l[j]))/\aF=(⟨220,(14,ae (i:Nat))::(15,ae (j:Nat))::aV,(⟨O,3,cap*1,(l).flatMap cI⟩::I)⟩:St)) (fun (E:Nat×Nat)=>match E with|(i,j)=>j-i) (a,m) ⟨(Nat.le_refl _),w4,(Nat.le_refl _),(.inl rfl),(.inl rfl),rfl⟩ ?_;rintro⟨i,j⟩ _ ⟨hai,hij,O6,cl,eR,rfl⟩;refine ax [0,2,4,14,15,85] ?_ ?_<;>intro gk iC
  ·have hh:i<j:=(by omega)
   have hH:((i+j)/2)<l.length:=(by omega)
   have hM:m<l.length:=(by omega)
   refine cN [0,2,4,14,15,16] ?_;refine aT 2 ?_ (h:=Oj);refine aT 0 ?_ (h:=Oi);refine aT 0 ?_ (h:=DL);refine aT 0 ?_ (h:=Oh);refine bL ?_;refine cQ ?_;refine iD 9 (aj (take 1 _)) ?_ (fun _ h=>(Sublist.map _ (take_sublist _ _)).subset h);refine aC 0 rfl bJ ?_;refine aC 1 rfl bJ ?_;refine aC 2 rfl bJ ?_;refine aC 3 rfl (ei 1 (h:=by first|exact .l (j:=m) rfl w4|exact .r (j:=m) rfl w4)) ?_;refine aC 4 rfl fW ?_;refine aC 5 rfl bJ ?_;refine aC 6 rfl bJ ?_;refine aC 7 rfl (ei 1 (h:=XR)) ?_;refine aC 8 rfl fW ?_;refine dW.later rfl ?_;refine fD ?_;refine my (f:=fc) (args:=[_,_]) (Sf:=I) av rfl rfl ot Z (hc _ _ (hV _ (getElem_mem hM)) (hV _ (getElem_mem hH))) rfl ⟨ot,ot,trivial⟩ (perm_append_singleton _ _).symm ?_;rintro _ S2 ⟨rfl,iK⟩;rw[iK];clear iK;refine bZ (perm_append_singleton _ _) ?_;refine aq 220 [0,2,4,14,15,16,103] ?_;refine cj ?_ ?_<;>intro iQ qa
   ·have vF:(Rc cF Lt) (l[((i+j)/2)]'hH) (l[m]'hM):=Gz ha (h.lt w4 w4 (Nat.le_refl _) w4 hH hM) w4;refine cc [0,2,4,14,15] ?_;exact z99
   have Bu:(Rc cF Lt) (l[m]'hM) (l[((i+j)/2)]'hH):=F8 qa;refine cc [0,2,4,14,15] ?_;exact Yb
  obtain rfl:i=j:=(by omega)
  obtain⟨P,B,Q,x,hP,hl,hiB,hB,Mo⟩:=ae2 (R:=Rc cF Lt) (l:=l) (a:=a) (m:=m) (b:=b) (i:=i) ht h Ev hai O6 cl eR;subst hl;have mU:∀t,t<=B.length->(Mv P B Q x (t)).length=ln:=fun t ht=>by rw[GN ht,<-gz,GN w4]
  refine aA [0,14,17] ?_;refine fa [0,14] (fun aV _ (t:Nat) aF=>(i-a<=t)/\(t<=m-a)/\aF=(⟨220,(17,ae (a+t:Nat))::aV,(⟨O,3,cap*1,(Mv P B Q x (t)).flatMap cI⟩::I)⟩:St)) (fun (t:Nat)=>t) (m-a) ⟨w4,(Nat.le_refl _),rfl⟩ ?_;rintro t _ ⟨hti,htm,rfl⟩;refine ax [0,14,17,110] ?_ ?_<;>intro jn nK
  ·obtain⟨t,rfl⟩:∃k,t=k+1:=⟨t-1,by omega⟩
   have Oy:t<B.length:=(by omega)
   have uG:=mU (t+1) w4;refine en ?_;refine cQ ?_;refine kp ?_;refine iD 16 (aj (eraseIdx _ 0)) ?_ (fun _ h=>(Sublist.map _ (eraseIdx_sublist _ 0)).subset h);refine aC 0 rfl bJ ?_;refine aC 1 rfl bJ ?_;refine aC 2 rfl bJ ?_;refine aC 3 rfl bJ ?_;refine aC 4 rfl (dX rfl ot cf (iL (r:=((a+t:Nat):Int)) Ou)) ?_;refine aC 5 rfl bJ ?_;refine aC 6 rfl bJ ?_;refine aC 7 rfl (dX rfl ot cf (iL (r:=((a+t:Nat):Int)) Ou)) ?_;refine aC 8 rfl (ei 1 (h:=MU)) ?_;refine aC 10 rfl bJ ?_;refine aC 11 rfl bJ ?_;refine aC 12 rfl (ei 1 (h:=MR)) ?_;refine dW.later rfl ?_;refine lK (i:=9) (j:=13) aB ?_ ?_
   ·refine at_ rfl fW ?_;refine bH (i:=13) aB ?_;exact ZL
   refine at_ rfl fW ?_;refine bH (i:=9) aB ?_;exact ZL
  obtain rfl:t=i-a:=(by omega)
  exact Iq
 obtain⟨mid,aoj⟩:∃q,q=(a+b)/2:=⟨_,rfl⟩
 refine cN [0,1,2,3,4,18] ?_;refine aT 2 ?_ (h:=by exact(dX rfl ot ot (lI (r:=((a+b:Nat):Int)) M2)));refine aT 0 ?_ (h:=by exact(tO rfl ot (tT (r:=((a+b:Nat):Int)) runUnderlying3 runUnderlying210 (IntWalk.u64_in _ w4))));refine aT 0 ?_ (h:=DL);refine aT 0 ?_ (h:=by exact(tO rfl ot (tT (r:=((mid:Nat):Int)) runUnderlying210 runUnderlying3 (by rw[show(((a+b)/2:Nat):Int)=((mid:Nat):Int) by rw[aoj]];exact wrap_i64 w4 w4))));refine bL ?_;refine cN [0,1,2,3,4,18,19] ?_;refine aT 2 ?_ (h:=by exact(dX rfl ot ot (lI (r:=((mid+m:Nat):Int)) M2)));refine bL ?_;refine aA [0,1,2,3,4,18,19] ?_;refine iT [0,1,2,3,4,18,19] (fun aV oI aF=>∃(s0:Nat),∃(r0:Nat),((mid<m/\s0=mid+m-b/\r0=mid)\/(m<=mid/\s0=a/\r0=m))/\aF=(⟨220,(20,ae (s0:Nat))::(21,ae (r0:Nat))::aV,oI⟩:St)) ?_ ?_
 ·refine ax [0,1,2,3,4,18,19,140] ?_ ?_<;>intro qP Bc
  ·refine cN [0,1,2,3,4,18,19,20] ?_;refine aT 2 ?_ (h:=by exact(dX rfl ot ot (iL (r:=(((mid+m)-b:Nat):Int)) rN)));refine bL ?_;refine cc [0,1,2,3,4,18,19,20,21] ?_;refine⟨_,aI,(mid+m-b),mid,(.inl ⟨by omega,rfl,rfl⟩),rfl⟩
  refine aA [0,1,2,3,4,18,19,20] ?_;refine cc [0,1,2,3,4,18,19,20,21] ?_;refine⟨_,aI,a,m,(.inr ⟨by omega,rfl,rfl⟩),rfl⟩
 rintro _ ⟨s0,r0,I3,rfl⟩;refine cN [0,1,2,3,4,18,19,20,21,22] ?_;refine aT 1 ?_ (h:=by exact(dX rfl ot cf (iL (r:=(((mid+m)-1:Nat):Int)) (by rw[show((((mid+m):Nat):Int)-1)=(((mid+m)-1:Nat):Int) by omega];exact wrap_i64 w4 w4))));refine bL ?_;refine fa [0,1,2,3,4,18,19,22] (fun aV _ (E:Nat×Nat) aF=>match E with|(s,r)=>(s0<=s)/\(s<=r)/\(r<=r0)/\((s=s0\/∃(p:s-1<l.length) (q:mid+m-s<l.length),(Rc cF Lt) l[s-1] l[mid+m-s]))/\((r=r0\/∃(p:mid+m-r-1<l.length) (q:r<l.length),(Rc cF Lt) l[mid+m-r-1] l[r]))/\aF=(⟨220,(20,ae (s:Nat))::(21,ae (r:Nat))::aV,(⟨O,3,cap*1,(l).flatMap cI⟩::I)⟩:St)) (fun (E:Nat×Nat)=>match E with|(s,r)=>r-s) (s0,r0) ⟨(Nat.le_refl _),w4,(Nat.le_refl _),(.inl rfl),(.inl rfl),rfl⟩ ?_;rintro⟨s,r⟩ _ ⟨mq,auf,hr0,cl,eR,rfl⟩;refine ax [0,1,2,3,4,18,19,20,21,22,151] ?_ ?_<;>intro vQ Dl
 ·have hh:s<r:=(by omega)
  have hC:((s+r)/2)<l.length:=(by omega)
  have hQ:(mid+m-1-((s+r)/2))<l.length:=(by omega)
  refine cN [0,1,2,3,4,18,19,20,21,22,23] ?_;refine aT 2 ?_ (h:=by exact(dX rfl ot ot (lI (r:=((s+r:Nat):Int)) M2)));refine aT 0 ?_ (h:=by exact(tO rfl ot (tT (r:=((s+r:Nat):Int)) runUnderlying3 runUnderlying210 (IntWalk.u64_in _ w4))));refine aT 0 ?_ (h:=DL);refine aT 0 ?_ (h:=by exact(tO rfl ot (tT (r:=((((s+r)/2):Nat):Int)) runUnderlying210 runUnderlying3 (wrap_i64 w4 w4))));refine bL ?_;refine cQ ?_;refine iD 11 (aj (take 1 _)) ?_ (fun _ h=>(Sublist.map _ (take_sublist _ _)).subset h);refine aC 0 rfl bJ ?_;refine aC 1 rfl bJ ?_;refine aC 2 rfl bJ ?_;refine aC 3 rfl bJ ?_;refine aC 4 rfl (dX rfl ot ot (iL (r:=(((mid+m-1)-((s+r)/2):Nat):Int)) rN)) ?_;refine aC 5 rfl (ei 1 (h:=by first|exact .l (j:=(mid+m-1-((s+r)/2))) rfl w4|exact .r (j:=(mid+m-1-((s+r)/2))) rfl w4)) ?_;refine aC 6 rfl fW ?_;refine aC 7 rfl bJ ?_;refine aC 8 rfl bJ ?_;refine aC 9 rfl (ei 1 (h:=by first|exact .l (j:=((s+r)/2)) rfl w4|exact .r (j:=((s+r)/2)) rfl w4)) ?_;refine aC 10 rfl fW ?_;refine dW.later rfl ?_;refine fD ?_;refine my (f:=fc) (args:=[_,_]) (Sf:=I) av rfl rfl ot Z (hc _ _ (hV _ (getElem_mem hQ)) (hV _ (getElem_mem hC))) rfl ⟨ot,ot,trivial⟩ (perm_append_singleton _ _).symm ?_;rintro _ S2 ⟨rfl,iK⟩;rw[iK];clear iK;refine bZ (perm_append_singleton _ _) ?_;refine aq 220 [0,1,2,3,4,18,19,20,21,22,23,171] ?_
  refine cj ?_ ?_<;>intro HI G5
  ·have aok:(Rc cF Lt) (l[((s+r)/2)]'hC) (l[(mid+m-1-((s+r)/2))]'hQ):=Gz ha (h.lt w4 w4 w4 w4 hC hQ) w4;have vF:(Rc cF Lt) (l[((s+r)/2)+1-1]'w4) (l[mid+m-(((s+r)/2)+1)]'w4):=(by simpa only[show((s+r)/2)+1-1=((s+r)/2) by omega,show mid+m-(((s+r)/2)+1)=(mid+m-1-((s+r)/2)) by omega] using aok)
   refine cc [0,1,2,3,4,18,19,20,21,22] ?_;refine⟨((((s+r)/2)+1),r),_,cG,aI,w4,w4,w4,(.inr ⟨by omega,by omega,vF⟩),eR,rfl⟩
  have aol:(Rc cF Lt) (l[(mid+m-1-((s+r)/2))]'hQ) (l[((s+r)/2)]'hC):=F8 G5;have Bu:(Rc cF Lt) (l[mid+m-((s+r)/2)-1]'w4) (l[((s+r)/2)]'w4):=(by simpa only[show mid+m-((s+r)/2)-1=(mid+m-1-((s+r)/2)) by omega] using aol)
  refine cc [0,1,2,3,4,18,19,20,21,22] ?_;refine⟨(s,((s+r)/2)),_,cG,aI,w4,w4,w4,cl,(.inr ⟨by omega,by omega,Bu⟩),rfl⟩
 obtain rfl:s=r:=(by omega)
 obtain⟨l1,rJ,M9⟩:=aio (R:=Rc cF Lt) (l:=l) (a:=a) (m:=m) (b:=b) (s:=s) (e:=mid+m-s) (mid:=mid) ht h w4 w4 w4 w4 w4 (by rcases cl with q|q;(rcases I3 with q2|q2;exact .inr (.inl w4);exact .inl w4);exact .inr (.inr q)) (by rcases eR with q|q;(rcases I3 with q2|q2;exact .inl w4;exact .inr (.inl w4));exact .inr (.inr q));have mi:=M9.len.2.2;refine cN [0,1,2,3,4,18,20,24] ?_;refine aT 2 ?_ (h:=by exact(dX rfl ot ot (iL (r:=(((mid+m)-s:Nat):Int)) rN)));refine bL ?_;refine iT [0,1,3,4,18,20,24] (fun aV _ aF=>aF=(⟨220,aV,(⟨O,3,cap*1,(l1).flatMap cI⟩::I)⟩:St)) ?_ ?_
 ·refine az 4 ?_;refine bU 181 (fun alv aj2=>?_) (fun alv aj2=>?_)
  ·refine bA [0,1,2,3,4,18,20,24,185] ?_;refine cj ?_ ?_<;>intro wR GU
   ·refine dV 5 ?_;refine fg (R:=I) av rfl rfl rfl call165 (aj0 l l1 ln s m (mid+m-s) cap O (.eK (.func fc) U) [] M9 w4 w4 gz s9 w4) ⟨ot,ot,ot,ot,ot,trivial⟩ (Perm.refl _) ?_;rintro _ _ ⟨rfl,rfl⟩;refine aq 220 [0,1,3,4,18,20,24] ?_;refine⟨_,aI,rfl⟩
   exact z105
  refine bA [0,1,2,3,4,18,20,24,185] ?_;refine gB ?_;exact z105
 rintro _ ⟨rfl⟩;refine iT [0,3,4,18,24] (fun aV _ aF=>∃(l2:List Int),(Part (Rc cF Lt) l1 l2 a mid)/\aF=(⟨220,aV,(⟨O,3,cap*1,(l2).flatMap cI⟩::I)⟩:St)) ?_ ?_
 ·refine az 4 ?_;refine bU 195 (fun alw aj3=>?_) (fun alw aj3=>?_)
  ·refine bA [0,1,3,4,18,20,24,199] ?_;refine cj ?_ ?_<;>intro aug ak3
   ·refine dV 5 ?_;refine fg (R:=[]) av rfl rfl rfl call145 (ih (mid-a) w4 l1 a s mid rfl (aip rJ) w4 w4 (mi.trans gz) (fun z hz=>hV z (rJ.perm.subset hz))) ⟨ot,ot,ot,ot,ot,trivial⟩ qd ?_;rintro _ _ ⟨rfl,l2,mS,rfl⟩;refine bZ (S':=⟨O,3,cap*1,(l2).flatMap cI⟩::I) qd ?_;refine aq 220 [0,3,4,18,24] ?_;refine⟨_,aI,l2,mS,rfl⟩
   refine en ?_;refine⟨_,aI,l1,(Um rJ w4),rfl⟩
  refine bA [0,1,3,4,18,20,24,199] ?_;refine gB ?_;refine en ?_;refine⟨_,aI,l1,(Um rJ w4),rfl⟩
 rintro _ ⟨l2,mS,rfl⟩;refine az 4 ?_;refine bU 209 (fun alx aj4=>?_) (fun alx aj4=>?_)
 ·refine bA [0,3,4,18,24,213] ?_;refine cj ?_ ?_<;>intro auh ak4
  ·refine dV 5 ?_;refine fg (R:=[]) av rfl rfl rfl call145 (ih (b-mid) w4 l2 mid (mid+m-s) b rfl (agF rJ mS) w4 w4 (mS.len.trans (mi.trans gz)) (fun z hz=>hV z (rJ.perm.subset (mS.perm.subset hz)))) ⟨ot,ot,ot,ot,ot,trivial⟩ qd ?_;rintro _ _ ⟨rfl,l3,tv,rfl⟩;refine bZ (S':=⟨O,3,cap*1,(l3).flatMap cI⟩::I) qd ?_;refine aq 220 [] ?_;exact Iq
  exact Iq
 refine bA [0,3,4,18,24,213] ?_;refine gB ?_;refine eu _ ?_;first|exact⟨rfl,_,Mo,rfl⟩|exact⟨rfl,_,F9 rJ mS tv,rfl⟩|exact⟨rfl,_,F9 rJ mS (Rl rJ mS w4),rfl⟩
theorem WI(I cap bd O:Nat)(E:List D)(U:List ag)(cF:Int->Int->Int)(V:Int->Prop)(Lt:Int->Int->Prop)(hc:∀x y,V x->V y->VC Tryz.prog G O ([ae x,ae y]++E) U (fun r S'=>r=ae (cF x y)/\S'=U))(Z:∀args w,(callFunc O args).run Tryz.prog w = .ok (.enter O args) w)(ht:∀{x y z:Int},Rc cF Lt x y->Rc cF Lt y z->Rc cF Lt x z)(ha:∀x y,0<=cF y x->cF x y<=0)(s9:I<=cap)(s7:cap<=maxLen)(mq:I<=1000000):∀(n:Nat) (l:List Int) (a m b:Nat),b-a=n->rf (Rc cF Lt) Lt l a m b->a<m->m<b->l.length=I->(∀x∈l,V x)->VC Tryz.prog G 145 [aN (some ⟨bd,0,none⟩) I cap,ae (a:Nat),ae (m:Nat),ae (b:Nat),.eK (.func O) E] (⟨bd,3,cap*1,(l).flatMap cI⟩::U) (fun r S'=>r = .dB []/\∃lz,Part (Rc cF Lt) l lz a b/\S'=⟨bd,3,cap*1,(lz).flatMap cI⟩::U):=fun n=>Nat.strongRecOn n (agJ I cap bd O E U cF V Lt hc Z ht ha s9 s7 mq)
end So
namespace So
open Go.Proofs.Tryz
variable {R Lt:Int->Int->Prop} {l l1 cur oS:List Int} {a b m n k:Nat}
theorem Ka(h:Part R l l1 a b):l1.drop b=l.drop b:=by
 obtain⟨P,M,E,Q,rfl,rfl,rfl,rfl,hp,_⟩:=h;rw[<-append_assoc,drop_left' (by rw[length_append]),<-append_assoc,drop_left' (by rw[length_append,hp.length_eq])]
theorem Un(h:Part R l l1 a a):l1=l:=by
 obtain⟨P,M,E,Q,rfl,rfl,rfl,h1,hp,_⟩:=h;have hl:=hp.length_eq;rw[length_eq_zero_iff.1 (show M.length=0 by omega),length_eq_zero_iff.1 (show E.length=0 by omega)]
theorem KF(h:Part R l l1 0 n)(hn:l.length=n):l1.Perm l/\l1.Pairwise R:=by
 refine⟨h.perm,?_⟩;obtain⟨P,M,E,Q,rfl,rfl,h1,h2,hp,hs⟩:=h;have hl:=hp.length_eq;simp only[length_append] at hn;rw[length_eq_zero_iff.1 h1,length_eq_zero_iff.1 (show Q.length=0 by omega)];simpa using hs
def zI(R:Int->Int->Prop)(l cur:List Int)(k:Nat):Prop:=(k=0/\cur=l)\/(k=1/\Part R l cur 0 20)\/(k=2/\∃l1,Part R l l1 0 20/\Part R l1 cur 20 40)
def HO(R:Int->Int->Prop)(l cur:List Int)(n:Nat):Prop:=∃l1,Part R l l1 0 20/\Part R l1 cur 20 n
theorem zI.perm(h:zI R l cur k):cur.Perm l:=by
 rcases h with ⟨_,rfl⟩|⟨_,h⟩|⟨_,l1,h1,h2⟩
 ·exact .refl _
 ·exact h.perm
 exact h2.perm.trans h1.perm
theorem agK(h:zI R l cur k)(hk:k<=1)(hp:Part R cur oS (20*k) (20*(k+1))):zI R l oS (k+1):=by
 rcases h with ⟨rfl,rfl⟩|⟨rfl,h⟩|⟨rfl,_⟩
 ·exact .inr (.inl ⟨rfl,hp⟩)
 ·exact .inr (.inr ⟨rfl,_,h,hp⟩)
 omega
theorem agL(h:zI R l cur k):cur.drop (20*k)=l.drop (20*k):=by
 rcases h with ⟨rfl,rfl⟩|⟨rfl,h⟩|⟨rfl,l1,h1,h2⟩
 ·rfl
 ·exact Ka h
 rw[Ka h2];have:=congrArg (drop 20) (Ka h1);rw[drop_drop,drop_drop] at this;exact this
theorem aiq(h:zI R l cur k)(h1:20*k<=n)(h2:n<20*(k+1))(h3:n<=40)(hl:l.length=n)(hp:Part R cur oS (20*k) n):(n<=20/\oS.Perm l/\oS.Pairwise R)\/(20<n/\HO R l oS n):=by
 rcases h with ⟨rfl,rfl⟩|⟨rfl,h⟩|⟨rfl,l1,p1,E⟩
 ·exact .inl ⟨by omega,KF hp hl⟩
 ·rcases Nat.lt_or_ge 20 n with q|q
  ·exact .inr ⟨q,_,h,hp⟩
  obtain rfl:n=20:=(by omega)
  rw[Un hp];exact .inl ⟨q,KF h hl⟩
 obtain rfl:n=40:=(by omega)
 rw[Un hp];exact .inr ⟨by omega,_,p1,E⟩
theorem agM(h:HO R l cur n)(hq:l.Pairwise Lt):rf R Lt cur 0 20 n:=by
 obtain⟨l1,⟨P,M,M0,Q,rfl,rfl,h1,h2,hp,hs⟩,p2⟩:=h;obtain rfl:=length_eq_zero_iff.1 h1;obtain⟨O,U,Z,I,rfl,h4,h5,h6,mS,E⟩:=p2;obtain⟨e1,e2⟩:=append_inj (show M++Q=O++(Z++I) from h4) w4;subst e1 e2;rw[nil_append,pairwise_append] at hq;exact⟨[],M,U,I,by simp,rfl,by omega,by omega,hs,E,fun x hx y hy=>hq.2.2 x (hp.subset hx) y (mem_append_left _ (mS.subset hy))⟩
theorem Uo(h:HO R l cur n)(hp:Part R cur oS 0 n)(hl:l.length=n):oS.Perm l/\oS.Pairwise R:=by
 obtain⟨l1,p1,p2⟩:=h;have:=KF hp (by rw[p2.len,p1.len,hl]);exact⟨this.1.trans (p2.perm.trans p1.perm),this.2⟩
end So
namespace So
open Go.Proofs.Tryz
open Go.RowKit V Tw
variable {G:List (Nat×List Value)}
theorem ae3(I cap U fc:Nat)(O:List D)(Z:List ag)(cF:Int->Int->Int)(V:Int->Prop)(Lt:Int->Int->Prop)(hc:∀x y,V x->V y->VC Tryz.prog G fc ([ae x,ae y]++O) Z (fun r S'=>r=ae (cF x y)/\S'=Z))(wY:∀args w,(callFunc fc args).run Tryz.prog w = .ok (.enter fc args) w)(ht:∀{x y z:Int},Rc cF Lt x y->Rc cF Lt y z->Rc cF Lt x z)(ha:∀x y,0<=cF y x->cF x y<=0)(s9:I<=cap)(s7:cap<=maxLen)(mq:I<=40)(l:List Int)(hq:l.Pairwise Lt)(gz:l.length=I)(hV:∀x∈l,V x):VC Tryz.prog G 128 [aN (some ⟨U,0,none⟩) I cap,ae (I:Nat),.eK (.func fc) O] (⟨U,3,cap*1,(l).flatMap cI⟩::Z) (fun r S'=>r = .dB []/\∃(lz:List Int),(lz.Perm l/\lz.Pairwise (Rc cF Lt))/\S'=⟨U,3,cap*1,(lz).flatMap cI⟩::Z):=by
 refine bn func128 rfl ntmps128 aP fun X0 w0 bj=>?_;have dH:=ey;refine aA [0,1,2,6] ?_;refine aA [0,1,2,6,7,8] ?_;refine cQ ?_;refine kp ?_;refine nY (fun (E:Nat×List Int) aF=>match E with|(k,cur)=>(20*k<=I)/\(zI (Rc cF Lt) l cur k)/\aF=(⟨63,[(0,aN (some ⟨U,0,none⟩) I cap),(1,ae (I:Nat)),(2,.eK (.func fc) O),(6,ae 20),(7,ae (20*k:Nat)),(8,ae (20*(k+1):Nat))],(⟨U,3,cap*1,(cur).flatMap cI⟩::Z)⟩:St)) (fun (E:Nat×List Int)=>match E with|(k,cur)=>3-k) (0,l) ⟨(Nat.zero_le _),(.inl ⟨rfl,rfl⟩),rfl⟩ (aI (h:=Zq)) ?_;rintro⟨k,cur⟩ _ ⟨hk,fX,rfl⟩;have lm:=fX.perm.length_eq;have uI:(cur.drop (20*k)).Pairwise Lt:=(by rw[agL fX];exact hq.drop)
 have EZ:∀x∈cur,V x:=fun x hx=>hV x (fX.perm.subset hx);refine ax [0,1,2,6,7,8,13] ?_ ?_<;>intro aM bG
 ·have zH:20*(k+1)<=I:=(by omega)
  refine az 4 ?_;refine fg (R:=[]) av rfl rfl rfl call144 (WH cur I (20*k) (20*(k+1)) cap U fc O Z cF V Lt EZ hc wY ht ha uI w4 w4 w4 s9 s7 w4) ⟨ot,ot,ot,ot,trivial⟩ qd ?_;rintro _ _ ⟨rfl,c1,aom,rfl⟩;refine bZ (S':=⟨U,3,cap*1,(c1).flatMap cI⟩::Z) qd ?_;refine aq 63 [0,1,2,6,8] ?_;refine aA [0,1,2,6,7,8] ?_;refine jg [0,1,2,6,7,8] ?_;refine aT 2 ?_ (h:=by exact(dX rfl ot ot (lI (r:=((20*(k+1+1):Nat):Int)) (by rw[show(((20*(k+1):Nat):Int)+20)=((20*(k+1+1):Nat):Int) by omega];exact wrap_i64 w4 w4))));refine bL ?_;refine⟨((k+1),c1),_,cG,(aI (h:=Zq)),w4,(agK fX w4 aom),rfl⟩
 have zH:I<20*(k+1):=(by omega)
 refine az 4 ?_;refine fg (R:=[]) av rfl rfl rfl call144 (WH cur I (20*k) I cap U fc O Z cF V Lt EZ hc wY ht ha uI w4 w4 w4 s9 s7 w4) ⟨ot,ot,ot,ot,trivial⟩ qd ?_;rintro _ _ ⟨rfl,c2,YR,rfl⟩;refine bZ (S':=⟨U,3,cap*1,(c2).flatMap cI⟩::Z) qd ?_;have fw:=aiq fX hk zH mq gz YR;have YS:c2.Perm l:=YR.perm.trans fX.perm;refine aq 63 [0,1,2,6] ?_;refine fa [0,1,2] (fun aV _ (E:Nat×List Int) aF=>match E with|(q,cur)=>((q=20/\cur=c2)\/(q=40/\(cur.Perm l/\cur.Pairwise (Rc cF Lt))))/\aF=(⟨63,(6,ae (q:Nat))::aV,(⟨U,3,cap*1,(cur).flatMap cI⟩::Z)⟩:St)) (fun (E:Nat×List Int)=>match E with|(q,cur)=>40-q) (20,c2) ⟨(.inl ⟨rfl,rfl⟩),rfl⟩ ?_;rintro⟨q,cur⟩ _ ⟨Ew,rfl⟩;refine ax [0,1,2,6,30] ?_ ?_<;>intro bf cD
 ·obtain⟨rfl,rfl⟩:q=20/\cur=c2:=(by (rcases Ew with h|h;exact h;omega))
  have MJ:HO (Rc cF Lt) l cur I:=(by (rcases fw with h|h;omega;exact h.2))
  have YT:=agM MJ hq;have lm:=YS.length_eq;have EZ:∀x∈cur,V x:=fun x hx=>hV x (YS.subset hx);refine aA [0,1,2,6,7,8] ?_;refine fa [0,1,2,6] (fun aV _ (E:Nat×List Int) aF=>match E with|(j,c3)=>((j=0/\c3=cur)\/(j=1/\I=40/\(c3.Perm l/\c3.Pairwise (Rc cF Lt))))/\aF=(⟨63,(7,ae (40*j:Nat))::(8,ae (40*(j+1):Nat))::aV,(⟨U,3,cap*1,(c3).flatMap cI⟩::Z)⟩:St)) (fun (E:Nat×List Int)=>match E with|(j,c3)=>1-j) (0,cur) ⟨(.inl ⟨rfl,rfl⟩),rfl⟩ ?_;rintro⟨j,c3⟩ _ ⟨rR,rfl⟩;refine ax [0,1,2,6,7,8,35] ?_ ?_<;>intro cr cU
  ·obtain⟨rQ,rfl⟩:j=0/\c3=cur:=(by (rcases rR with h|h;exact h;omega))
   have Nu:I=40:=(by omega)
   refine az 4 ?_;refine bQ (dX rfl ot ot (lI (r:=((20:Nat):Int)) (by rw[rQ];rfl))) ?_;refine aG 2 ?_;have ata:=Nu;refine fg (R:=[]) av rfl rfl rfl call145 (WI I cap U fc O Z cF V Lt hc wY ht ha s9 s7 w4 _ c3 (40*j) 20 (40*(j+1)) rfl (by rw[show 40*j=0 by omega,show 40*(j+1)=I by omega];exact YT) w4 w4 w4 EZ) ⟨ot,ot,ot,ot,ot,trivial⟩ qd ?_;rintro _ _ ⟨rfl,c5,aon,rfl⟩;refine bZ (S':=⟨U,3,cap*1,(c5).flatMap cI⟩::Z) qd ?_;have aoo:Part (Rc cF Lt) c3 c5 0 I:=(by have:=aon;rwa [show 40*j=0 by omega,show 40*(j+1)=I by omega] at this)
   refine aq 63 [0,1,2,6,8] ?_;refine aA [0,1,2,6,7,8] ?_;refine cc [0,1,2,6,7,8] ?_;refine⟨(1,c5),_,cG,aI,(.inr ⟨rfl,Nu,Uo MJ aoo gz⟩),rfl⟩
  refine qq ?_;refine iT [0,1,2,6] (fun aV _ aF=>∃(c4:List Int),((c4.Perm l/\c4.Pairwise (Rc cF Lt)))/\aF=(⟨63,aV,(⟨U,3,cap*1,(c4).flatMap cI⟩::Z)⟩:St)) ?_ ?_
  ·refine cN [0,1,2,6,7,9] ?_;refine aT 2 ?_ (h:=by exact(dX rfl ot ot (lI (r:=((40*j+20:Nat):Int)) (by rw[show(((40*j:Nat):Int)+((20:Nat):Int))=((40*j+20:Nat):Int) by omega];exact wrap_i64 w4 w4))));refine bL ?_;refine ax [0,1,2,6,7,9,54] ?_ ?_<;>intro de eG
   ·obtain⟨rQ,rfl⟩:j=0/\c3=cur:=(by (rcases rR with h|h;exact h;omega))
    refine dV 5 ?_;refine fg (R:=[]) av rfl rfl rfl call145 (WI I cap U fc O Z cF V Lt hc wY ht ha s9 s7 w4 _ c3 (40*j) (40*j+20) I rfl (by rw[show 40*j=0 by omega];exact YT) w4 w4 w4 EZ) ⟨ot,ot,ot,ot,ot,trivial⟩ qd ?_;rintro _ _ ⟨rfl,c6,aop,rfl⟩;refine bZ (S':=⟨U,3,cap*1,(c6).flatMap cI⟩::Z) qd ?_;have aoq:Part (Rc cF Lt) c3 c6 0 I:=(by have:=aop;rwa [show 40*j=0 by omega] at this)
    refine aq 63 [0,1,2,6] ?_;refine⟨_,aI,c6,(Uo MJ aoq gz),rfl⟩
   have I3:(c3.Perm l/\c3.Pairwise (Rc cF Lt)):=(by (rcases rR with h|h;omega;exact h.2.2))
   refine en ?_;refine⟨_,aI,c3,I3,rfl⟩
  rintro _ ⟨c4,eo,rfl⟩;refine cc [0,1,2,6] ?_;refine⟨(40,c4),_,cG,aI,(.inr ⟨rfl,eo⟩),rfl⟩
 have ox:(cur.Perm l/\cur.Pairwise (Rc cF Lt)):=(by (rcases Ew with ⟨rfl,rfl⟩|h;(rcases fw with h|h;exact h.2;omega);exact h.2))
 refine eu _ ?_;exact⟨rfl,_,ox,rfl⟩
theorem air(O cap U Z:Nat)(E:List D)(I:List ag)(cF:Int->Int->Int)(V:Int->Prop)(Lt:Int->Int->Prop)(hc:∀x y,V x->V y->VC Tryz.prog G Z ([ae x,ae y]++E) I (fun r S'=>r=ae (cF x y)/\S'=I))(wY:∀args w,(callFunc Z args).run Tryz.prog w = .ok (.enter Z args) w)(ht:∀{x y z:Int},Rc cF Lt x y->Rc cF Lt y z->Rc cF Lt x z)(ha:∀x y,0<=cF y x->cF x y<=0)(s9:O<=cap)(s7:cap<=maxLen)(mq:O<=40)(l:List Int)(hq:l.Pairwise Lt)(gz:l.length=O)(hV:∀x∈l,V x):VC Tryz.prog G 91 [aN (some ⟨U,0,none⟩) O cap,.eK (.func Z) E] (⟨U,3,cap*1,(l).flatMap cI⟩::I) (fun r S'=>r = .dB []/\∃(lz:List Int),(lz.Perm l/\lz.Pairwise (Rc cF Lt))/\S'=⟨U,3,cap*1,(lz).flatMap cI⟩::I):=by
 refine bn func91 rfl ntmps91 aP fun X0 w0 bj=>?_;have dH:=ey;refine dV 4 ?_;refine fg (R:=[]) av rfl rfl rfl call128 (ae3 O cap U Z E I cF V Lt hc wY ht ha s9 s7 mq l hq gz hV) ⟨ot,ot,ot,trivial⟩ qd ?_;rintro _ _ ⟨rfl,lz,zE,rfl⟩;refine bZ (S':=⟨U,3,cap*1,(lz).flatMap cI⟩::I) qd ?_;refine aq 9 [] ?_;refine eu _ ?_;exact⟨rfl,_,zE,rfl⟩
end So
namespace Ba
open Go.Proofs.Tryz
open Go.RowKit V Pk Tr Vl Go.Proofs.YtbplamgacibdaaaGreatDoor.Nm Pc Cd Ex Tw Go.Proofs.YtbplamgacibdaaaGreatDoor.So
variable {t:aK} {o n:Nat} {i k:Int}
theorem Gs(a b:Vl):eN a b<0↔a.k<b.k\/(a.k=b.k/\(a.n<b.n\/(a.n=b.n/\Go.Lib.compareBytes a.s.data.toList b.s.data.toList<0))):=by
 exact Z7
theorem zS{a b:Vl}(h:eN a b=0):a=b:=by
 unfold eN cmpL fK fK fK fK at h;have hs:a.k=b.k/\a.n=b.n/\Go.Lib.compareBytes a.s.data.toList b.s.data.toList=0:=by
  rcases rj a.k b.k with ⟨h1,h2⟩|⟨h1,h2⟩|⟨h1,h2⟩<;>rcases rj a.n b.n with ⟨k1,k2⟩|⟨k1,k2⟩|⟨k1,k2⟩<;>simp only[h1,k1] at h<;>(repeat' split at h)<;>first|omega|(refine⟨h2,k2,?_⟩;omega)
 obtain⟨e1,e2,E⟩:=hs;obtain⟨k,n,s⟩:=a;obtain⟨k',n',s'⟩:=b;simp only at e1 e2 E;subst e1 e2;rw[Ct (vt.1 E)]
theorem VS{a b c:Vl}(h1:eN a b<0)(h2:eN b c<0):eN a c<0:=by
 rw[Gs] at h1 h2 |-;rcases h1 with h1|⟨h1,h1|⟨E,h1⟩⟩<;>rcases h2 with h2|⟨h2,h2|⟨I,h2⟩⟩<;>first|omega|(refine .inr ⟨by omega,.inr ⟨by omega,?_⟩⟩;exact mE h1 h2)
def cellAt(t:aK)(o:Nat)(i:Int):Vl:=(rowAt t i).getD o aU
def lV(t:aK)(down:Bool)(o:Nat)(i k:Int):Int:=if down=true then -(eN (cellAt t o i) (cellAt t o k)) else eN (cellAt t o i) (cellAt t o k)
def E0(t:aK)(i k:Int):Prop:=bC (cZ (rowAt t i)) (cZ (rowAt t k))
theorem SC(t:aK)(down:Bool)(o:Nat)(i k:Int):lV t down o k i = -(lV t down o i k):=by
 unfold lV;rw[xS (cellAt t o i) (cellAt t o k)];split<;>omega
theorem ais{down:Bool}{l:Int}(h1:lV t down o i k<0)(h2:lV t down o k l<0):lV t down o i l<0:=by
 unfold lV at *;split at h1
 ·rename_i hd;rw[if_pos hd] at h2 |-;have e1:=xS (cellAt t o i) (cellAt t o k);have e2:=xS (cellAt t o k) (cellAt t o l);have E:=xS (cellAt t o i) (cellAt t o l);have:=VS (a:=cellAt t o l) (b:=cellAt t o k) (c:=cellAt t o i) w4 w4;omega
 rename_i hd;rw[if_neg hd] at h2 |-;exact VS h1 h2
theorem Kb{down:Bool}(h:lV t down o i k=0):cellAt t o i=cellAt t o k:=by
 unfold lV at h;split at h
 ·exact zS w4
 exact zS h
theorem VT{down:Bool}(h:cellAt t o i=cellAt t o k)(l:Int):lV t down o i l=lV t down o k l:=by unfold lV;rw[h]
theorem agN{down:Bool}(h:cellAt t o i=cellAt t o k)(l:Int):lV t down o l i=lV t down o l k:=by unfold lV;rw[h]
abbrev xI(t:aK)(down:Bool)(o:Nat):Int->Int->Prop:=Rc (lV t down o) (E0 t)
theorem aj5(t:aK)(down:Bool)(o:Nat){x y z:Int}(h1:xI t down o x y)(h2:xI t down o y z):xI t down o x z:=by
 rcases h1 with h1|⟨h1,E⟩<;>rcases h2 with h2|⟨h2,I⟩
 ·exact .inl (ais h1 h2)
 ·exact .inl (by rw[<-agN (Kb h2)];exact h1)
 ·exact .inl (by rw[VT (Kb h1)];exact h2)
 exact .inr ⟨by rw[VT (Kb h1)];exact h2,mE E I⟩
theorem agO{down:Bool}{x y:Int}(h1:xI t down o x y)(h2:xI t down o y x):False:=by
 have e:=SC t down o x y;rcases h1 with h1|⟨h1,E⟩<;>rcases h2 with h2|⟨h2,I⟩
 ·omega
 ·omega
 ·omega
 exact kr _ (mE E I)
noncomputable def CZ(t:aK)(down:Bool)(o:Nat)(l:List Int):List Int:=Classical.epsilon fun lz=>lz.Perm l/\lz.Pairwise (xI t down o)
theorem LF{down:Bool}{l lz:List Int}(h:lz.Perm l/\lz.Pairwise (xI t down o)):lz=CZ t down o l:=by
 have hs:=Classical.epsilon_spec (p:=fun lz=>lz.Perm l/\lz.Pairwise (xI t down o)) ⟨lz,h⟩;exact Perm.eq_of_pairwise (fun a b _ _ h1 h2=>(agO h1 h2).elim) h.2 hs.2 (h.1.trans hs.1.symm)
theorem F3(t:aK)(w:List aH):∀(l:List (K×Int)) (acc:List Int),(kJ t w acc l).1.Sublist (acc++l.map Prod.snd)
 | [],acc=>by unfold kJ;simp
 | x::r,acc=>by
  have h1:(kJ t w acc r).1.Sublist (acc++(x::r).map Prod.snd):=(F3 t w r acc).trans (Sublist.append_left (sublist_cons_self _ _) acc);have h2:(kJ t w (acc++[x.2]) r).1.Sublist (acc++(x::r).map Prod.snd):=(by have:=F3 t w r (acc++[x.2]);rwa [append_assoc] at this)
  unfold kJ;split
  ·split
   ·exact nil_sublist _
   split
   ·exact h1
   exact h2
  exact h2
def gP(t:aK)(i:Int):Prop:=0<=i/\∃h:i.toNat<t.rows.length,t.rows[i.toNat]≠[]
theorem agP{i:Nat}{c:Pc.cm}{v:Vl}(h:Pc.nh i c v=0):bY v=0:=by
 unfold Pc.nh at h;split at h
 ·exact h
 rename_i h1;exact Decidable.not_not.1 h1
theorem SD:∀(i:Nat) (cs:List Pc.cm) (vs:List Vl),Pc.qG i cs vs=0->vs.length<=cs.length->∀v∈vs,bY v=0
 | i,c::cs,v::vs,h,hl,w,hw=>by
  unfold Pc.qG at h;split at h
  ·rename_i h1;exact absurd h h1
  rename_i h1;rcases mem_cons.1 hw with rfl|hw
  ·exact agP (Decidable.not_not.1 h1)
  exact SD (i+1) cs vs h yB w hw
 | _,_,[],_,_,_,hw=>by cases hw
 | _,[],_::_,_,hl,_,_=>by simp at hl
theorem KG{r:List Vl}(h:Pc.dR aL r=0):∀v∈r,bY v=0:=by
 have h4:=pZ h;unfold Pc.dR at h;rw[if_neg C4,if_neg A3] at h;exact SD 0 aL r h A3
theorem gP.ok(g:eV t n)(h:gP t i):(rowAt t i).length=4/\(∀v∈rowAt t i,v.Ok/\bY v=0):=by
 obtain⟨h0,h1,h2⟩:=h;rw[jt h1];obtain⟨g1,g2,_⟩:=g.row _ h1 h2;exact⟨pZ g1,fun v hv=>⟨g2 v hv,KG g1 v hv⟩⟩
theorem ud(g:eV t n)(w:List aH):∀i∈(ap t w).1,gP t i:=fun i hi=>by
 unfold ap at hi;split at hi
 ·cases hi
 have h1:=(F3 t w _ []).subset hi;rw[nil_append] at h1;obtain⟨x,hx,rfl⟩:=mem_map.1 h1;obtain⟨h2,h3,h4,_⟩:=g.js x (Cq x hx);exact⟨h2,h3,h4⟩
theorem F4(g:eV t n)(w:List aH):(ap t w).1.Pairwise (E0 t):=by
 unfold ap;split
 ·exact Pairwise.nil
 refine Pairwise.sublist (F3 t w _ []) ?_;rw[nil_append,pairwise_map];have hr:(mJ t.ix (fB t.au w).1.1 (fB t.au w).1.2).Pairwise fun x y=>bC x.1 y.1:=(R7 g.ix.val _).sublist (takeWhile_sublist _);refine hr.imp_of_mem fun {x y} hx hy h=>?_;obtain⟨_,p1,_,p2⟩:=g.js x (Cq x hx);obtain⟨_,q1,_,q2⟩:=g.js y (Cq y hy);unfold E0;rw[jt p1,jt q1,<-p2,<-q2];exact h
theorem Gt(g:eV t n)(w:List aH):(ap t w).1.length<=40:=by
 have hp:=F4 g w;have E:=ud g w;have hnd:((ap t w).1.map Int.toNat).Nodup:=by
  rw[Nodup,pairwise_map];refine hp.imp_of_mem fun {x y} hx hy h e=>?_;obtain⟨x0,_⟩:=E x hx;obtain⟨y0,_⟩:=E y hy;have:x=y:=(by omega)
  subst this;exact kr _ h
 have I:∀j∈(ap t w).1.map Int.toNat,j∈range t.rows.length:=fun j hj=>by
  obtain⟨x,hx,rfl⟩:=mem_map.1 hj;obtain⟨_,h1,_⟩:=E x hx;exact mem_range.2 h1
 have:=hnd.length_le_of_subset I;rw[length_map,length_range] at this;exact Nat.le_trans this g.eU
variable {G:List (Nat×List Value)} {m:Int}
open Pa (cn bK)
theorem Xo:∀x y:K,-1<=Go.Lib.compareBytes x y/\Go.Lib.compareBytes x y<=1
 | [],[]=>⟨by decide,by decide⟩
 | [],_::_=>⟨(by show(-1:Int)<=-1;decide),(by show(-1:Int)<=1;decide)⟩
 | _::_,[]=>⟨(by show(-1:Int)<=1;decide),(by show(1:Int)<=1;decide)⟩
 | a::x,b::y=>by
  have:=Xo x y;rw[IU];repeat' split
  all_goals first|exact this|omega
theorem ait(a b:Vl):-1<=eN a b/\eN a b<=1:=by
 have:=Xo a.s.data.toList b.s.data.toList;exact Z7
def tK(t:aK)(names:List ByteArray):List Int:=if names.length=0 then (range t.au.length).map Int.ofNat else names.map (bE t.au)
def tc(t:aK)(s:cn):Int:=if (s.order.toList==(⟨#[]⟩:ByteArray).toList)=true then 0 else bE t.au s.order
def C7(Qc:Int)(l:List Int):List Int:=if 0<=Qc/\Qc<l.length then l.take Qc.toNat else l
def yT(t:aK)(ats:List Int)(i:Int):List Vl:=ats.map fun c=>(rowAt t i).getD c.toNat aU
noncomputable def vp(t:aK)(s:cn):List Int:=C7 s.iz (CZ t s.down (tc t s).toNat (ap t s.ah).1)
noncomputable def nJ(t:aK)(s:cn):(List (List Vl)×Int)×Int :=
 if (s.names.any fun n=>decide (bE t.au n<0))=true then (([],0),8)
 else if tc t s<0 then (([],0),8)
 else if (ap t s.ah).2≠0 then (([],0),(ap t s.ah).2)
 else if s.count=true then (([[⟨2,(vp t s).length,⟨#[]⟩⟩]],(vp t s).length),0)
 else (((vp t s).map (yT t (tK t s.names)),(vp t s).length),0)
def BO(p:(List (List Vl)×Int)×Int):D:=.dB [.agg [an 1 ij p.1.1,ae p.1.2],ae p.2]
theorem Mh{l:List cm}{nm:ByteArray}:-1<=bE l nm/\bE l nm<l.length:=by
 unfold bE c9;split
 ·rename_i i h;have:=(findIdx?_eq_some_iff_getElem.1 h).1;omega
 omega
theorem aiu(t:aK)(g:eV t n)(s:cn)(o:Nat)(ho:o<4)(b2 I b3:Nat)(i k:Int)(hi:gP t i)(hk:gP t k):VC Tryz.prog G 92 ([ae i,ae k]++[da b2,da I,da b3]) [⟨b2,68,5,dw t⟩,⟨I,3,1,[ae (o:Nat)]⟩,⟨b3,44,12,bK s⟩] (fun r S=>r=ae (lV t s.down o i k)/\S=[⟨b2,68,5,dw t⟩,⟨I,3,1,[ae (o:Nat)]⟩,⟨b3,44,12,bK s⟩]):=by
 refine bn func92 rfl ntmps92 aP fun X0 w0 bj=>?_;obtain⟨O,E,gE⟩:=hi;obtain⟨y7,cl,eR⟩:=hk;obtain⟨gi1,U⟩:=gP.ok g ⟨O,E,gE⟩;obtain⟨gk1,Z⟩:=gP.ok g ⟨y7,cl,eR⟩;rw[jt E] at gi1 U;rw[jt cl] at gk1 Z;have Qd:o<(t.rows[i.toNat]'E).length:=(by omega)
 have n8:o<(t.rows[k.toNat]'cl).length:=(by omega)
 have hci:cellAt t o i=(t.rows[i.toNat]'E)[o]:=(by unfold cellAt;rw[jt E,getD_eq_getElem?_getD,getElem?_eq_getElem Qd];rfl)
 have hck:cellAt t o k=(t.rows[k.toNat]'cl)[o]:=(by unfold cellAt;rw[jt cl,getD_eq_getElem?_getD,getElem?_eq_getElem n8];rfl)
 have fE:=acZ (G:=G) (t.rows[i.toNat]'E)[o] (t.rows[k.toNat]'cl)[o] (U _ (getElem_mem Qd)).1 (Z _ (getElem_mem n8)).1;have IK:mG (t.rows[i.toNat]'E)[o] (t.rows[k.toNat]'cl)[o]=0:=(by unfold mG;rw[if_neg (by simp[(U _ (getElem_mem Qd)).2]),(Z _ (getElem_mem n8)).2])
 unfold Nt at fE;rw[IK,if_neg w8] at fE;have IG:=ait (t.rows[i.toNat]'E)[o] (t.rows[k.toNat]'cl)[o];unfold dw bK;have aY:lV t s.down o i k=if s.down=true then -(eN (t.rows[i.toNat]'E)[o] (t.rows[k.toNat]'cl)[o]) else eN (t.rows[i.toNat]'E)[o] (t.rows[k.toNat]'cl)[o]:=by unfold lV;rw[hci,hck]
 refine aA [0,1,2,3,4] ?_;refine cN [4,8] ?_;refine aT 3 ?_ (h:=by exact(ei 1 (h:=by first|exact .l (j:=i.toNat) (Int.toNat_of_nonneg O).symm E|exact .r (j:=i.toNat) (Int.toNat_of_nonneg O).symm E)));refine aT 7 ?_ (h:=by exact(ei 1 (h:=by first|exact .l (j:=k.toNat) (Int.toNat_of_nonneg y7).symm cl|exact .r (j:=k.toNat) (Int.toNat_of_nonneg y7).symm cl)));refine cL (fE) ?_;refine bL ?_;refine ax [8,31] ?_ ?_<;>intro aM bG
 ·have hd:s.down=true:=aM;refine cN [7] ?_;refine aT 1 ?_ (h:=by exact(FM rfl ot (LS (wrap_i64 w4 w4))));refine bL ?_;refine eu [_,_,_] ?_;first|(rw[aY,hd,if_pos rfl,<-Int.zero_sub];exact⟨rfl,rfl⟩)|(rw[aY,hd,if_neg w8];exact⟨rfl,rfl⟩)
 have hd:s.down=false:=aM;refine dj [7] [_,_,_] ?_;first|(rw[aY,hd,if_pos rfl,<-Int.zero_sub];exact⟨rfl,rfl⟩)|(rw[aY,hd,if_neg w8];exact⟨rfl,rfl⟩)
theorem aiv(eK:D):VP Tryz.prog G 144 [bW,ae 0,ae 0,eK] (.dB []):=by
 refine bn func144 rfl ntmps144 aP fun X0 w0 bj=>?_;refine aA [0,1,2,3,8] ?_;refine fa [0,1,2,3] (fun aV _ (z:Nat) aF=>(True)/\aF=(⟨53,(8,ae (0+1))::aV,[]⟩:St)) (fun (z:Nat)=>0) 0 ⟨trivial,rfl⟩ ?_;rintro z _ ⟨_,rfl⟩;refine ax [0,1,2,3,8,14] ?_ ?_<;>intro aM bG
 ·exact absurd aM (by simp at aM)
 exact oD
theorem ads(eK:D):VP Tryz.prog G 128 [bW,ae 0,eK] (.dB []):=by
 refine bn func128 rfl ntmps128 aP fun X0 w0 bj=>?_;refine aA [0,1,2,6] ?_;refine aA [0,1,2,6,7,8] ?_;refine fa [0,1,2,6] (fun aV _ (z:Nat) aF=>(True)/\aF=(⟨63,(7,ae 0)::(8,ae 20)::aV,[]⟩:St)) (fun (z:Nat)=>0) 0 ⟨trivial,rfl⟩ ?_;rintro z _ ⟨_,rfl⟩;refine ax [0,1,2,6,7,8,13] ?_ ?_<;>intro aM bG
 ·exact absurd aM (by simp at aM)
 refine cX [0,1,2,6] (aiv eK) ?_;refine fa [0,1,2] (fun aV _ (z:Nat) aF=>(True)/\aF=(⟨63,(6,ae 20)::aV,[]⟩:St)) (fun (z:Nat)=>0) 0 ⟨trivial,rfl⟩ ?_;rintro z _ ⟨_,rfl⟩;refine ax [0,1,2,6,30] ?_ ?_<;>intro bf cD
 ·exact absurd bf (by simp at bf)
 exact oD
theorem agR(eK:D):VP Tryz.prog G 91 [bW,eK] (.dB []):=by
 refine bn func91 rfl ntmps91 aP fun X0 w0 bj=>?_;refine jg [] ?_;refine cL (ads eK) ?_;refine jR ?_;exact oD
end Ba
namespace Ba
open Go.Proofs.Tryz
open Go.RowKit V Pk Go.Proofs.YtbplamgacibdaaaGreatDoor.Tr Go.Proofs.YtbplamgacibdaaaGreatDoor.Vl Go.Proofs.YtbplamgacibdaaaGreatDoor.Nm Go.Proofs.YtbplamgacibdaaaGreatDoor.Pc Go.Proofs.YtbplamgacibdaaaGreatDoor.Cd Go.Proofs.YtbplamgacibdaaaGreatDoor.Ex Go.Proofs.YtbplamgacibdaaaGreatDoor.Tw
open Pa (cn bK)
variable {j sz:Nat} {ds:List D}
section mid
variable {P:Program} {G:List (Nat×List Value)} {x:St} {o:Oper} {t b off:Nat} {y:Operand} {B:ag} {pre c post:List D} {d:D}
theorem aj6(hp:pre.length=off)(hj:c[j]?=some d):(pre++(c++post))[off+j]?=some d:=by
 subst hp;rw[getElem?_append_right w4,Nat.add_sub_cancel_left,getElem?_append_left (List.getElem?_eq_some_iff.1 hj).1];exact hj
theorem Up{m:List D}(hp:pre.length=off)(hm:qW j c m)(hd:nx sz m ds):((pre++(c++post)).drop (off+j)).take sz=ds:=by
 subst hp;obtain⟨h1,h2⟩:=hd.eq;have h3:=hm.eq;have hl:j+sz<=c.length\/sz=0:=by
  have:=congrArg length h1;rw[length_take,h2,<-h3,length_drop] at this;omega
 rw[<-drop_drop,drop_left' rfl];rcases hl with hl|rfl
 ·rw[drop_append_of_le_length w4,h3,take_append_of_le_length (by rw[<-h3,length_drop];omega)];exact h1
 rw[List.take_zero];rw[List.take_zero] at h1;exact h1
theorem CB{E:List D}(hp:pre.length=off)(hl:j+ds.length<=c.length)(hc:dx c j ds=E):dx (pre++(c++post)) (off+j) ds=pre++(E++post):=by
 subst hp hc;rw[xR _ _ _ hl,xR _ _ _ (by simp only[length_append];omega)];rw[take_append,take_of_length_le w4,Nat.add_sub_cancel_left,take_append_of_le_length w4,Nat.add_assoc,<-drop_drop (l:=pre++(c++post)),drop_left' rfl,drop_append_of_le_length w4];simp only[append_assoc]
theorem pP(k:Nat)(ho:o.op = .load t y:=by exact rfl)(hy:aD x y = .v (.pointer (some ⟨b,off+j,none⟩)):=by exact ot)(ha:rY P t false=true:=by kernel_rfl)(hk:x.S[k]?=some B:=by exact rfl)(hb:B.b=b:=by exact rfl)(dz:B.cs=pre++(c++post):=by exact rfl)(hp:pre.length=off:=by assumption)(hj:c[j]?=some d:=by exact rfl)(hne:isMap B.e=false:=by exact rfl):bS P G x o (.fP k) d :=
 Ff (hne:=hne) ho hy hk hb (jl ha) (by rw[dz];exact aj6 hp hj)
theorem yU(k:Nat){m:List D}(ho:o.op = .load t y:=by exact rfl)(hy:aD x y = .v (.pointer (some ⟨b,off+j,none⟩)):=by exact ot)(hn:rX P t sz=true:=by exact Sz.h)(ha:rY P t true=true:=by kernel_rfl)(hk:x.S[k]?=some B:=by exact rfl)(hb:B.b=b:=by exact rfl)(dz:B.cs=pre++(c++post):=by exact rfl)(hp:pre.length=off:=by assumption)(hm:qW j c m:=by exact rG)(hd:nx sz m ds:=by exact oq)(hne:isMap B.e=false:=by exact rfl):bS P G x o (.fP k) (.agg ds) :=
 BX (hne:=hne) ho hy hk hb (jl ha) (mF hn) hd.eq.2 (by rw[dz];exact Up hp hm hd)
theorem NU(k:Nat)(ho:o.op = .load t y:=by exact rfl)(hy:aD x y = .v (.pointer (some ⟨b,off,none⟩)):=by exact ot)(hn:rX P t sz=true:=by exact Sz.h)(ha:rY P t true=true:=by kernel_rfl)(hk:x.S[k]?=some B:=by exact rfl)(hb:B.b=b:=by exact rfl)(dz:B.cs=pre++(c++post):=by exact rfl)(hp:pre.length=off:=by assumption)(hd:nx sz c ds:=by exact oq)(hne:isMap B.e=false:=by exact rfl):bS P G x o (.fP k) (.agg ds) :=
 BX (hne:=hne) ho hy hk hb (jl ha) (mF hn) hd.eq.2 (by rw[dz];exact Up (j:=0) hp .z hd)
end mid
variable {G:List (Nat×List Value)} {m:Int}
noncomputable def gX(t:aK)(row:List Vl):aK×Int :=
 if Pc.dR t.au row≠0 then (t,Pc.dR t.au row) else if iX t.ix (cZ row) (dD t.ix)=true then (t,9) else if t.rows.length=40 then (t,10)
 else ({t with rows:=t.rows++[row],ix:=ie t.ix (dD t.ix) (cZ row) t.rows.length},0)
def tC(t:aK)(ad:Option Addr)(cap:Nat):List D:=[bg t.nm,an 2 cC t.au,aN ad t.rows.length cap,an 5 cP t.ix.af,ae t.ix.root]
abbrev wZ(t:aK)(ad:Option Addr)(cap:Nat)(S:List ag):Prop:=bq 40 1 (t.rows.flatMap ij) t.rows.length ad cap S
theorem ya{r:List Vl}(h:Pc.dR aL r=0):1<=(cZ r).length/\(cZ r).length<=100:=by
 refine⟨?_,VM _⟩;have h4:=pZ h;have hz:=KG h;match r,h4 with
 | [a,b,c,d],_ =>
  have ha:bY a=0:=hz a mem_cons_self;unfold cZ gj;rw[if_neg bp,if_neg (by simp[uv,ha])];have hl:(dL [a]).length<=43:=(by have:=FU (l:=[a]) (fun v hv=>by rw[mem_singleton] at hv;rw[hv];exact ha);simpa using this)
  rw[if_neg (by show ¬(dL [a]).length>100;omega)];show 1<=(dL [a]).length;unfold dL Cd.p8;simp
theorem adt:(Tryz.prog.info? 40).map (fun i=>(i.zero,i.size,i.bytes))=some (some (.slice none 0 0),1,24):=by kernel_rfl
theorem J7(hm:(3,marksC)∈G)(hw:(1,wordsC)∈G)(ht:(0,typesC)∈G)(hG:(2,[Value.int .i64 m])∈G)(t:aK){n:Nat}(g:eV t n)(hn:n<=300)(row:List Vl)(vS:row.length<=1000)(aQ:∀v∈row,v.Ok)(bt off E:Nat)(pre post:List D)(hp:pre.length=off)(ad:Option Addr)(cap:Nat)(Sr:List ag)(fy:wZ t ad cap Sr):VC Tryz.prog G 45 [.v (.pointer (some ⟨bt,off,none⟩)),an 3 cV row] (⟨bt,68,E,pre++(tC t ad cap++post)⟩::Sr) (fun r S=>r=ae (gX t row).2/\((gX t row).2=0->∃gL aO qM,wZ (gX t row).1 gL aO qM/\S=⟨bt,68,E,pre++(tC (gX t row).1 gL aO++post)⟩::qM)):=by
 refine bn func45 rfl ntmps45 aP fun X0 w0 bj=>?_;have hko:=fun h=>ya (r:=row) h;have zJ:=L4 (G:=G) hm hw ht t.au yy yx row (Nat.le_trans vS w8);have dH:=ey;have nO:=g.eU;unfold tC;refine aA [0,1] ?_;refine cN [0,1,5] ?_;refine aT 3 ?_ (h:=by exact(pP 0));refine cL (zJ) ?_;refine bL ?_;refine ax [0,1,5,17] ?_ ?_<;>intro aM bG
 ·have hne:Pc.dR t.au row≠0:=(by simpa using aM)
  have aY:gX t row=(t,Pc.dR t.au row):=if_pos hne;refine dj [4] [] ?_;rw[aY];exact⟨rfl,fun h=>absurd h hne⟩
 have hz:Pc.dR t.au row=0:=(by simpa using aM)
 have U:Pc.dR aL row=0:=(by rw[<-g.au];exact hz)
 have er:=hko U;have hr4:=pZ U;have I:=AB (G:=G) hG row w4 w4 aQ;refine en ?_;refine cQ ?_;refine cQ ?_;rcases jz:iX t.ix (cZ row) (dD t.ix) with _|_
 ·have fF:=Md (G:=G) g.ix (cZ row);rw[aij g.ix er jz] at fF;unfold Tw.cT at fF;have O:=Uh (G:=G) g.ix (cZ row) (t.rows.length:Int);rw[WB g.ix hn er w4 jz] at O;unfold Tw.cT at O;refine jg [0,1,7] ?_;refine aT 3 ?_ (h:=by exact(yU 0));refine cL (I) ?_;refine cL (fF) ?_;refine bL ?_;refine ax [0,1,30] ?_ ?_<;>intro bf cD
  ·exact absurd bf (by simp at bf)
  refine cN [0,1,36] ?_;refine aT 3 ?_ (h:=by exact(pP 0));refine bL ?_;refine cj ?_ ?_<;>intro cr cU
  ·have aY:gX t row=(t,10):=(by unfold gX;rw[if_neg (by simp[hz]),if_neg yz,if_pos w4])
   refine dj [4] [] ?_;rw[aY];exact⟨rfl,fun h=>absurd (show(10:Int)=0 from h) w8⟩
  have aY:gX t row=({t with rows:=t.rows++[row],ix:=ie t.ix (dD t.ix) (cZ row) t.rows.length},0):=(by unfold gX;rw[if_neg (by simp[hz]),if_neg yz,if_neg w4])
  refine en ?_;refine cQ ?_;refine uL 16 15 [0,1,8,50,51] ?_;refine aT 3 ?_ (h:=by exact(yU 0));refine cL (I) ?_;refine aT 3 ?_ (h:=by exact(pP 0));refine cL (O) ?_;refine mr 3 ?_;refine nV ?_;refine jR ?_;refine⟨rfl,fun b8=>?_⟩;refine aR 0 [_,_] sizeOf66 ?_;refine aq 70 [0,1,8,9] ?_;refine ax [0,1,8,9,53] ?_ ?_<;>intro de eG
  ·exact absurd de (by simp at de)
  refine az 4 ?_;refine oe (k:=1) (cs':=pre++([bg t.nm,an 2 cC t.au,aN ad t.rows.length cap,.list 5 ((ie t.ix (dD t.ix) (cZ row) t.rows.length).af.flatMap cP) (ie t.ix (dD t.ix) (cZ row) t.rows.length).af.length,ae (ie t.ix (dD t.ix) (cZ row) t.rows.length).root]++post)) av rfl rfl ot rfl rfl ot rfl rfl sizeOf66 rfl (by show off+3+2<=(pre++(([bg t.nm,an 2 cC t.au,aN ad t.rows.length cap,an 5 cP t.ix.af,ae t.ix.root]:List D)++post)).length;simp only[length_append,length_cons,length_nil];omega) (by exact CB (j:=3) hp aP rfl) ?_;refine aq 70 [0,1] ?_;refine cQ ?_;refine iD 9 (aj (take 2 _)) ?_ (fun _ h=>(Sublist.map _ (take_sublist _ _)).subset h);refine aC 0 rfl bJ ?_;refine aC 1 rfl bJ ?_;refine aC 2 rfl qN ?_;refine aC 3 rfl (dU 2) ?_;refine aC 4 rfl (pP 1) ?_;refine aC 5 rfl bJ ?_;refine dW.later rfl ?_;refine bH (i:=6) aB ?_;refine qR call30 (Sk row w4) ?_;refine bH (i:=7) aB ?_;refine oE (cx 0 [_]) [.slice none 0 0] [_] zeroValue40 runUnderlying33 sizeOf40 (fun qi=>?_);refine oF 0 66 1 1 ?_;refine bH (i:=8) aB ?_;refine qk (ls:=t.rows) (new:=[row]) (Sq:=Sr) lq Uj rfl av rfl rfl underlying33 adt rfl w8 ot fy (dK (A:=[_,_])) ot bp oA oB (fun rT sW Hw Hx=>?_);refine gq (ew (S1:=[⟨rT,40,sW*1,flatMap ij (t.rows++[row])⟩]) (A:=[_,_])) ?_;refine fD ?_;refine aG 2 ?_
  refine oe (k:=1) (cs':=pre++((([bg t.nm,an 2 cC t.au,aN ad t.rows.length cap,.list 5 ((ie t.ix (dD t.ix) (cZ row) t.rows.length).af.flatMap cP) (ie t.ix (dD t.ix) (cZ row) t.rows.length).af.length,ae (ie t.ix (dD t.ix) (cZ row) t.rows.length).root]:List D)).set 2 (aN (some ⟨rT,0,none⟩) ((t.rows++[row])).length sW)++post)) av rfl rfl ot rfl rfl ot rfl rfl sizeOf33 rfl (by show off+2+1<=(pre++(([bg t.nm,an 2 cC t.au,aN ad t.rows.length cap,.list 5 ((ie t.ix (dD t.ix) (cZ row) t.rows.length).af.flatMap cP) (ie t.ix (dD t.ix) (cZ row) t.rows.length).af.length,ae (ie t.ix (dD t.ix) (cZ row) t.rows.length).root]:List D)++post)).length;simp only[length_append,length_cons,length_nil];omega) (by exact CB (j:=2) hp aP rfl) ?_;refine aq 70 [] ?_;refine dj [4] (⟨bt,68,E,pre++(_++post)⟩::[⟨rT,40,sW*1,flatMap ij (t.rows++[row])⟩]) ?_;rw[aY];exact⟨rfl,fun _=>⟨(some ⟨rT,0,none⟩),sW,[⟨rT,40,sW*1,flatMap ij (t.rows++[row])⟩],(bN Hw Hx),rfl⟩⟩
 obtain⟨rw0,Z⟩:=(Cc g.ix (cZ row)).1 jz;have fF:=Md (G:=G) g.ix (cZ row);rw[Ug g.ix er Z] at fF;unfold Tw.cT at fF;have aY:gX t row=(t,9):=(by unfold gX;rw[if_neg (by simp[hz]),if_pos jz])
 refine jg [0,1,7] ?_;refine aT 3 ?_ (h:=by exact(yU 0));refine cL (I) ?_;refine cL (fF) ?_;refine bL ?_;refine ax [0,1,30] ?_ ?_<;>intro bf cD
 ·refine dj [4] [] ?_;rw[aY];exact⟨rfl,fun h=>absurd (show(9:Int)=0 from h) w8⟩
 exact absurd bf (by simp at bf)
end Ba
namespace Ba
open Go.Proofs.Tryz
open Go.RowKit V Pk Tr Vl Go.Proofs.YtbplamgacibdaaaGreatDoor.Nm Pc Cd Ex Tw
open Pa (cn bK)
section
variable {G:List (Nat×List Value)} {m:Int}
variable {t:aK} {n:Nat} {i:Int}
theorem LG{t:aE}(g:iN t n){x y:K×Int}(hx:x∈eE t)(hy:y∈eE t)(h:x.1=y.1):x=y:=by
 have hr:(eE t).Pairwise (fun a b=>bC a.1 b.1):=J5 g.val;obtain⟨i,hi,rfl⟩:=mem_iff_getElem.1 hx;obtain⟨j,hj,rfl⟩:=mem_iff_getElem.1 hy;have hp:=pairwise_iff_getElem.1 hr;rcases Nat.lt_trichotomy i j with q|q|q
 ·have:=hp i j hi hj q;rw[h] at this;exact absurd this (kr _)
 ·subst q;rfl
 have:=hp j i hj hi q;rw[h] at this;exact absurd this (kr _)
theorem gP.js(g:eV t n)(h:gP t i):(cZ (rowAt t i),i)∈eE t.ix:=by
 obtain⟨h0,h1,h2⟩:=h;have:=(g.row _ h1 h2).2.2;rw[jt h1];rwa [Int.toNat_of_nonneg h0] at this
noncomputable def oV(t:aK)(i:Int):aK:={t with rows:=t.rows.set i.toNat [],ix:=ig t.ix (dD t.ix) (cZ (rowAt t i))}
noncomputable def td:aK->List Int->aK
 | t,[]=>t
 | t,i::r=>td (oV t i) r
noncomputable def nE(t:aK)(w:List aH):aK×Int×Int:=if (ap t w).2≠0 then (t,0,(ap t w).2) else (td t (ap t w).1,(ap t w).1.length,0)
theorem aj7(g:eV t n)(h:gP t i):iN (ig t.ix (dD t.ix) (cZ (rowAt t i))) n/\∀x,x∈eE (ig t.ix (dD t.ix) (cZ (rowAt t i)))↔x∈eE t.ix/\x.1≠cZ (rowAt t i) :=
 KE g.ix ((Cb g.ix.val _).2 ⟨i,h.js g⟩)
theorem SE(g:eV t n)(h:gP t i):eV (oV t i) n:=by
 obtain⟨d1,d2⟩:=aj7 g h;have I:=h.js g;obtain⟨h0,h1,h2⟩:=h;refine⟨g.nm,g.au,by show(t.rows.set _ _).length<=40;rw[length_set];exact g.eU,d1,fun j hj hne=>?_,fun x hx=>?_⟩
 ·simp only[oV] at hj hne |-
  (first|rw[length_set] at hj|(unfold an at hj;rw[length_set] at hj))
  rw[getElem_set] at hne;split at hne
  ·exact absurd rfl hne
  rename_i E;have he:(t.rows.set i.toNat [])[j]'C2=t.rows[j]:=getElem_set_ne E _;rw[he];obtain⟨p1,p2,p3⟩:=g.row j hj hne;refine⟨p1,p2,(d2 _).2 ⟨p3,fun e=>?_⟩⟩;have:=LG g.ix p3 I e;simp only[Prod.mk.injEq] at this;omega
 obtain⟨x1,O⟩:=(d2 x).1 hx;obtain⟨p0,p1,p2,p3⟩:=g.js x x1;have E:i.toNat≠x.2.toNat:=fun e=>by
  refine O ?_;rw[p3,jt h1];congr 1;simp only[e]
 refine⟨p0,by show _<(t.rows.set _ _).length;rw[length_set];exact p1,?_⟩;have he:(t.rows.set i.toNat [])[x.2.toNat]'(by rw[length_set];exact p1)=t.rows[x.2.toNat]:=getElem_set_ne E _;show(t.rows.set i.toNat [])[x.2.toNat]'(by rw[length_set];exact p1)≠[]/\x.1=cZ ((t.rows.set i.toNat [])[x.2.toNat]'(by rw[length_set];exact p1));rw[he];exact⟨p2,p3⟩
theorem VU{j:Int}(h:gP t j)(E:j≠i)(hi:0<=i):gP (oV t i) j:=by
 obtain⟨h0,h1,h2⟩:=h;refine⟨h0,by show _<(t.rows.set _ _).length;rw[length_set];exact h1,?_⟩;show(t.rows.set i.toNat [])[j.toNat]'(by rw[length_set];exact h1)≠[];have e:=getElem_set_ne (l:=t.rows) (i:=i.toNat) (j:=j.toNat) (a:=[]) w4 (by rw[length_set];exact h1);rw[e];exact h2
theorem FF(g:eV t n)(w:List aH):(ap t w).1.Nodup:=(F4 g w).imp fun h e=>by rw[e] at h;exact kr _ h
theorem ae4(hm:(3,marksC)∈G)(hw:(1,wordsC)∈G)(ht:(0,typesC)∈G)(hG:(2,[Value.int .i64 m])∈G)(t:aK)(g:eV t n)(s:cn)(ho:∀o∈s.ah,o.nm.size<=maxLen)(gl:∀o∈s.ah,o.v.Ok)(bt off Z:Nat)(pre post:List D)(hp:pre.length=off)(ad:Option Addr)(cap:Nat)(Sr:List ag)(fy:wZ t ad cap Sr):VC Tryz.prog G 48 [.v (.pointer (some ⟨bt,off,none⟩)),.agg (bK s)] (⟨bt,68,Z,pre++(tC t ad cap++post)⟩::Sr) (fun r S=>r = .dB [ae (nE t s.ah).2.1,ae (nE t s.ah).2.2]/\((nE t s.ah).2.2=0->∃gL aO qM,wZ (nE t s.ah).1 gL aO qM/\S=⟨bt,68,Z,pre++(tC (nE t s.ah).1 gL aO++post)⟩::qM)):=by
 refine bn func48 rfl ntmps48 aP fun X0 w0 bj=>?_;have dH:=ey;have nO:=g.eU;have E4:=Gt g s.ah;have xH:=ud g s.ah;have hnd:=FF g s.ah;unfold tC;unfold bK;refine bX ?_;refine cW [_,_,_,_,_,_,_,_,_,_,_,_] (fun b3=>?_);refine aq 56 [0,3] ?_;refine cQ ?_;refine iD 9 (aj (take 2 _)) ?_ (fun _ h=>(Sublist.map _ (take_sublist _ _)).subset h);refine aC 0 rfl bJ ?_;refine aC 1 rfl qN ?_;refine aC 2 rfl (NU 1) ?_;refine aC 3 rfl (dU 6) ?_;refine aC 4 rfl (ec 0) ?_;refine dW.later rfl ?_;refine bH (i:=5) aB ?_;refine acu rfl av rfl rfl rfl call90 (Mg hm hw ht hG t g s.ah ho gl) (fun r S h=>h.flat) ⟨⟨_,ot,(v8 ⟨fq,fq,mX fy (cz lq _) (fun B hB=>by simp[hB]),fq,fq,trivial⟩:View _ (.agg [bg t.nm,an 2 cC t.au,aN ad t.rows.length cap,an 5 cP t.ix.af,ae t.ix.root]) (.agg (dw t)))⟩,⟨_,ot,fq⟩,trivial⟩ ?_;rintro _ Sx ⟨dP,dm,rfl,ev⟩;refine gq (kO (A:=[_,_])) ?_;refine dr 6 rfl bJ ?_;refine dr 7 rfl OO ?_;refine dr 8 rfl OO ?_;refine fD ?_;refine bA [0,6,7] ?_;refine ax [0,6,7,20] ?_ ?_<;>intro aM bG
 ·have hne:(ap t s.ah).2≠0:=(by simpa using aM)
  have aY:nE t s.ah=(t,0,(ap t s.ah).2):=if_pos hne;refine dj [4,5] [] ?_;rw[aY];exact⟨rfl,fun h=>absurd h hne⟩
 have hz:(ap t s.ah).2=0:=(by simpa using aM)
 have aY:nE t s.ah=(td t (ap t s.ah).1,((ap t s.ah).1.length:Int),0):=if_neg (fun h=>h hz);refine en ?_;refine cQ ?_;refine cQ ?_;refine oL (t:=6) (Sq:=Sx) lk ev (cz Tw.eS _) (pS (A:=[_,_])) ?_;refine uP ?_;refine bA [0,6,22,23,24] ?_;refine fa [0,6,22,23] (fun aV _ (O:Nat×aK×Option Addr×Nat×List ag) aF=>match O with|(k,u,U,E,I)=>(k<=(ap t s.ah).1.length)/\(td u ((ap t s.ah).1.drop k)=td t (ap t s.ah).1)/\(eV u n)/\(∀i∈(ap t s.ah).1.drop k,gP u i)/\(wZ u U E I)/\aF=(⟨56,(24,ae (k:Nat))::aV,(⟨b3,44,12,bK s⟩::⟨bt,68,Z,pre++([bg u.nm,an 2 cC u.au,aN U u.rows.length E,an 5 cP u.ix.af,ae u.ix.root]++post)⟩::I)⟩:St)) (fun (O:Nat×aK×Option Addr×Nat×List ag)=>match O with|(k,u,U,E,I)=>(ap t s.ah).1.length-k) (0,t,ad,cap,Sr) ⟨(Nat.zero_le _),rfl,g,xH,fy,rfl⟩ ?_;rintro⟨k,u,U,E,I⟩ _ ⟨hk,YU,gu,lX,xJ,rfl⟩;refine ax [0,6,22,23,24,25] ?_ ?_<;>intro bf cD
 ·have aa:k<(ap t s.ah).1.length:=(by omega)
  have gY:(ap t s.ah).1.drop k=((ap t s.ah).1[k]'aa)::(ap t s.ah).1.drop (k+1):=drop_eq_getElem_cons aa;have tL:gP u ((ap t s.ah).1[k]'aa):=lX _ (by rw[gY];exact mem_cons_self);obtain⟨jm,eZ,nZ⟩:=id tL;obtain⟨br,rfl,sg,nW,rfl⟩:=xJ.pos w4;have gu2:=SE gu tL;have gz:(oV u ((ap t s.ah).1[k]'aa)).rows.length=u.rows.length:=length_set;have aly:td (oV u ((ap t s.ah).1[k]'aa)) ((ap t s.ah).1.drop (k+1))=td t (ap t s.ah).1:=(by rw[<-YU,gY];rfl)
  have NH:∀i∈(ap t s.ah).1.drop (k+1),gP (oV u ((ap t s.ah).1[k]'aa)) i:=fun i hi=>VU (lX i (by rw[gY];exact mem_cons_of_mem _ hi)) (fun e=>by subst e;have h9:=hnd.sublist (drop_sublist k _);rw[gY,nodup_cons] at h9;exact h9.1 hi) jm;have DH:wZ (oV u ((ap t s.ah).1[k]'aa)) (some ⟨br,0,none⟩) E [⟨br,40,E*1,(oV u ((ap t s.ah).1[k]'aa)).rows.flatMap ij⟩]:=bN (by show(u.rows.set _ _).length<=_;rw[length_set];exact sg) nW;obtain⟨go1,E5⟩:=gP.ok gu tL;have xK:=AB (G:=G) hG (u.rows[((ap t s.ah).1[k]'aa).toNat]) (by rw[<-jt eZ];omega) (by rw[<-jt eZ];omega) (fun v hv=>(E5 v (by rw[jt eZ];exact hv)).1);rw[show cZ (u.rows[((ap t s.ah).1[k]'aa).toNat])=cZ (rowAt u ((ap t s.ah).1[k]'aa)) from by rw[jt eZ]] at xK;have zK:=Ui (G:=G) gu.ix (cZ (rowAt u ((ap t s.ah).1[k]'aa)));rw[VF gu.ix (ya (by rw[jt eZ];exact(gu.row _ eZ nZ).1)) ((Cc gu.ix _).2 ⟨_,tL.js gu⟩)] at zK;unfold Tw.cT at zK;have atb:=gu.eU;refine aA [0,6,9,22,23,24] ?_;refine cQ ?_;refine oC 17 [0,6,9,22,23,24,29,43] ?_;refine aT 4 ?_ (h:=by exact(yU 1));refine aT 3 ?_ (h:=by exact(pP 1));refine aT 1 ?_ (h:=N9);refine aT 0 ?_ (h:=by exact(dN (mk:=Op.load 40) rfl ot (ke (k:=2) (i:=((ap t s.ah).1[k]'aa).toNat) (ls:=u.rows) lq rfl rfl rfl isAgg40 eZ rfl)));refine cL (xK) ?_;refine cL (zK) ?_
  refine bL ?_;refine aG 2 ?_;refine oe (k:=1) (cs':=pre++([bg u.nm,an 2 cC u.au,aN (some ⟨br,0,none⟩) (oV u ((ap t s.ah).1[k]'aa)).rows.length E,.list 5 ((oV u ((ap t s.ah).1[k]'aa)).ix.af.flatMap cP) (oV u ((ap t s.ah).1[k]'aa)).ix.af.length,ae (oV u ((ap t s.ah).1[k]'aa)).ix.root]++post)) av rfl rfl ot rfl rfl ot rfl rfl sizeOf66 rfl (by show off+3+2<=(pre++(([bg u.nm,an 2 cC u.au,aN (some ⟨br,0,none⟩) u.rows.length E,an 5 cP u.ix.af,ae u.ix.root]:List D)++post)).length;simp only[length_append,length_cons,length_nil];omega) (by exact CB (j:=3) hp aP (by rw[gz];rfl)) ?_;refine aq 56 [0,6,9,22,23,24] ?_;refine dV 3 ?_;refine bQ (pP 1) ?_;refine aG 1 ?_;refine bQ (ei 1 (h:=by first|exact .l (j:=((ap t s.ah).1[k]'aa).toNat) (Int.toNat_of_nonneg jm).symm (by rw[gz];exact eZ)|exact .r (j:=((ap t s.ah).1[k]'aa).toNat) (Int.toNat_of_nonneg jm).symm (by rw[gz];exact eZ))) ?_;refine oe (k:=2) (cs':=(u.rows.flatMap ij).set ((ap t s.ah).1[k]'aa).toNat (bW)) av rfl rfl ot rfl rfl cf rfl rfl sizeOf40 rfl (by show 0+((ap t s.ah).1[k]'aa).toNat*1+1<=(u.rows.flatMap ij).length;rw[cz lq];omega) (by show(u.rows.flatMap ij).set (0+((ap t s.ah).1[k]'aa).toNat*1) _=_;rw[Nat.zero_add,Nat.mul_one]) ?_
  refine l8 (k:=2) (cs':=(oV u ((ap t s.ah).1[k]'aa)).rows.flatMap ij) (S':=[_,_,_]) rfl (by have:=U1 (fG (sz:=3)) (u.rows.flatMap ij) ((ap t s.ah).1[k]'aa).toNat;rw[show(u.rows.flatMap ij).set ((ap t s.ah).1[k]'aa).toNat (.list 3 [] 0)=(u.rows.set ((ap t s.ah).1[k]'aa).toNat []).flatMap ij from by have:=qt lq u.rows [] eZ;rw[Nat.mul_one] at this;exact this] at this;exact this) rfl ?_;refine aq 56 [0,6,22,23,24] ?_;refine cc [0,6,22,23,24] ?_;refine⟨((k+1),(oV u ((ap t s.ah).1[k]'aa)),(some ⟨br,0,none⟩),E,[⟨br,40,E*1,(oV u ((ap t s.ah).1[k]'aa)).rows.flatMap ij⟩]),_,cG,aI,w4,aly,gu2,NH,DH,rfl⟩
 have ox:u=td t (ap t s.ah).1:=(by rw[<-YU,drop_of_length_le w4];rfl)
 subst ox;refine dj [4,5] (⟨bt,68,Z,pre++(_++post)⟩::I) ?_;rw[aY];exact⟨rfl,fun _=>⟨U,E,I,xJ,rfl⟩⟩
end
variable {ops:List aH} {row:List Vl}
theorem KH:∀(i:Nat) (cs:List cm) (vs:List Vl),cs.length=vs.length->(Pc.qG i cs vs=0↔∀j (h1:j<cs.length) (h2:j<vs.length),Pc.nh (i+j) cs[j] vs[j]=0)
 | _,[],[],_=>⟨fun _ j h1=>absurd h1 (Nat.not_lt_zero j),fun _=>rfl⟩
 | _,[],_::_,h=>by cases h
 | _,_::_,[],h=>by cases h
 | i,c::cs,v::vs,h=>by
  rw[Pc.qG];have E:=KH (i+1) cs vs (Nat.succ.inj h);by_cases he:Pc.nh i c v=0
  ·rw[if_neg (fun h=>h he),E];constructor
   ·intro k j h1 h2;cases j with
    | zero=>exact he
    | succ j=>have:=k j (Nat.lt_of_succ_lt_succ h1) (Nat.lt_of_succ_lt_succ h2);rw[show i+(j+1)=i+1+j by omega];exact this
   intro k j h1 h2;have:=k (j+1) (Nat.succ_lt_succ h1) (Nat.succ_lt_succ h2);rw[show i+(j+1)=i+1+j by omega] at this;exact this
  rw[if_pos he];exact⟨fun h=>absurd h he,fun k=>absurd (k 0 (Nat.succ_pos _) (Nat.succ_pos _)) he⟩
theorem LH{r:List Vl}:Pc.dR aL r=0↔r.length=4/\∀j (h1:j<aL.length) (h2:j<r.length),Pc.nh j aL[j] r[j]=0:=by
 constructor
 ·intro h;have h4:=pZ h;unfold Pc.dR at h;rw[if_neg C4,if_neg A3,KH 0 aL r (by rw[h4];rfl)] at h;refine⟨h4,fun j h1 h2=>?_⟩;have:=h j h1 h2;rwa [Nat.zero_add] at this
 intro ⟨h4,h⟩;unfold Pc.dR;rw[if_neg C4,if_neg A3,KH 0 aL r (by rw[h4];rfl)];intro j h1 h2;rw[Nat.zero_add];exact h j h1 h2
theorem aiw{i:Nat}{c:cm}{v:Vl}(h:Pc.nh i c v=0):jL c.k v:=by
 unfold Pc.nh at h;by_cases h1:bY v=0
 ·rw[if_neg (fun e=>e h1)] at h;by_cases h2:v.k≠c.k/\(i=0\/v.k≠0)
  ·rw[if_pos h2] at h;cases h
  exact⟨h1,by omega⟩
 rw[if_pos h1] at h;exact absurd h h1
theorem VV{r:List Vl}(h:Pc.dR aL r=0):G7 aL r:=fun i=>by
 obtain⟨h4,hf⟩:=LH.1 h;have hc:aL.length=4:=rfl;rw[getD_eq_getElem?_getD,getD_eq_getElem?_getD];by_cases hi:i<4
 ·rw[getElem?_eq_getElem w4,getElem?_eq_getElem w4];exact aiw (hf i w4 w4)
 rw[getElem?_eq_none w4,getElem?_eq_none w4];exact CK
theorem VW{r:List Vl}(h:Pc.dR aL r=0){c:Nat}(hc:c<aL.length){v:Vl}(hv:jL aL[c].k v)(h0:c=0->v.k≠0):Pc.dR aL (r.set c v)=0:=by
 obtain⟨h4,hf⟩:=LH.1 h;refine LH.2 ⟨by rw[length_set];exact h4,fun j h1 h2=>?_⟩
 (first|rw[length_set] at h2|(unfold an at h2;rw[length_set] at h2))
 rw[getElem_set];split
 ·rename_i e;subst e;unfold Pc.nh;rw[if_neg (fun e=>e hv.1),if_neg (fun e=>?_)];have:=hv.2;have:=e.2;have:=e.1;by_cases E:c=0
  ·have:=h0 E;omega
  omega
 exact hf j h1 h2
theorem F5:∀(ops:List aH) (h:Int),gb h ops=0->∀o∈ops,∃h',gG h' o=0
 | [],_,_,o,ho=>by cases ho
 | x::r,h,hx,o,ho=>by
  rw[gb] at hx;by_cases he:gG h x=0
  ·rw[if_pos he] at hx;rcases mem_cons.1 ho with rfl|ho
   ·exact⟨_,he⟩
   exact F5 r _ hx o ho
  rw[if_neg he] at hx;exact absurd hx he
theorem ae5{l:List cm}(j5:∀o∈ops,o.nm.size<=maxLen)(gl:∀o∈ops,o.v.Ok)(hk:(cu l ops).2=0):∀o∈ops,kz l o:=fun o ho=>by
 obtain⟨_,hx,he⟩:=Gj hk;obtain⟨h',h1⟩:=F5 ops 0 (x9 hx).2 o ho;obtain⟨_,h2,h3,_⟩:=u9 h1;exact⟨j5 o ho,gl o ho,B8 h3,h2.1,h2.2,RM (by rw[he] at hk;exact hk) o ho⟩
theorem Uq{l:List cm}{row:List Vl}(hr:∀v∈row,v.Ok):∀(ops:List aH),(∀o∈ops,o.v.Ok)->∀st:List Vl,(∀v∈st,v.Ok)->(fk aU (cJ l row) ops st).1.Ok
 | [],_,st,fX=>Lg fX 0
 | o::r,hg,st,fX=>by
  have E:(cJ l row o (dM aU o.k st) (dZ aU o.k st)).1.Ok:=Vo hr (hg o mem_cons_self) (Lh fX _) (Li fX _);by_cases hz:(cJ l row o (dM aU o.k st) (dZ aU o.k st)).2=0
  ·rw[wz hz];refine Uq hr r (fun x hx=>hg x (mem_cons_of_mem _ hx)) _ fun v hv=>?_;rcases mem_append.1 hv with hv|hv
   ·exact fX v (mem_of_mem_take hv)
   rw[mem_singleton] at hv;rw[hv];exact E
  rw[x5 hz];exact sQ
theorem aix{l:List cm}(hr:∀v∈row,v.Ok)(gl:∀o∈ops,o.v.Ok):(c8 l row ops).1.Ok:=by
 unfold c8;repeat' split
 all_goals first|exact sQ|exact Uq hr ops gl [] (fun v hv=>by cases hv)
theorem agS(j5:∀o∈ops,o.nm.size<=maxLen)(gl:∀o∈ops,o.v.Ok)(hw:Pc.dR aL row=0)(hk:(cu aL ops).2=0)(he:(c8 aL row ops).2=0):jL (cu aL ops).1 (c8 aL row ops).1:=by
 obtain⟨_,_,_,h4⟩:=RO vg hw (VV hw) (ae5 j5 gl hk) (Gj hk).2.1;obtain⟨_,h5|h5⟩:=h4 hk
 ·rw[h5] at he;cases he
 exact h5.2
def jv(t:aK)(c:Int)(e:List aH):List Vl->List Int->List Vl×Int
 | acc,[]=>(acc,0)
 | acc,i::r=>if (c8 t.au (rowAt t i) e).2≠0 then ([],(c8 t.au (rowAt t i) e).2) else if c=0/\(c8 t.au (rowAt t i) e).1.k=0 then ([],4) else jv t c e (acc++[(c8 t.au (rowAt t i) e).1]) r
def tg(t:aK)(i:Int)(c:Nat)(v:Vl):aK:={t with rows:=t.rows.set i.toNat ((rowAt t i).set c v)}
def nQ(c:Nat):aK->List Int->List Vl->aK
 | t,i::r,v::s=>nQ c (tg t i c v) r s
 | t,_,_=>t
noncomputable def pB(t:aK):aE->List Int->aE
 | x,[]=>x
 | x,i::r=>pB t (ig x (dD x) (cZ (rowAt t i))) r
noncomputable def lB:aK->List Int->List Vl->aK×Int
 | t,i::r,v::s=>if iX t.ix (cZ (rowAt (tg t i 0 v) i)) (dD t.ix)=true then (t,9) else lB {tg t i 0 v with ix:=ie t.ix (dD t.ix) (cZ (rowAt (tg t i 0 v) i)) i} r s
 | t,_,_=>(t,0)
noncomputable def iH(t:aK)(s:cn):aK×Int×Int :=
 if bE t.au s.set<0 then (t,0,8) else if (cu t.au s.bM).2≠0 then (t,0,(cu t.au s.bM).2)
 else if (cu t.au s.bM).1≠(t.au.getD (bE t.au s.set).toNat ⟨⟨#[]⟩,0⟩).k/\(cu t.au s.bM).1≠0 then (t,0,4)
 else if (ap t s.ah).2≠0 then (t,0,(ap t s.ah).2)
 else if (jv t (bE t.au s.set) s.bM [] (ap t s.ah).1).2≠0 then (t,0,(jv t (bE t.au s.set) s.bM [] (ap t s.ah).1).2)
 else if 0<bE t.au s.set then (nQ (bE t.au s.set).toNat t (ap t s.ah).1 (jv t (bE t.au s.set) s.bM [] (ap t s.ah).1).1,(ap t s.ah).1.length,0)
 else if (lB {t with ix:=pB t t.ix (ap t s.ah).1} (ap t s.ah).1 (jv t (bE t.au s.set) s.bM [] (ap t s.ah).1).1).2≠0 then (t,0,(lB {t with ix:=pB t t.ix (ap t s.ah).1} (ap t s.ah).1 (jv t (bE t.au s.set) s.bM [] (ap t s.ah).1).1).2)
 else ((lB {t with ix:=pB t t.ix (ap t s.ah).1} (ap t s.ah).1 (jv t (bE t.au s.set) s.bM [] (ap t s.ah).1).1).1,(ap t s.ah).1.length,0)
end Ba
end Go.Proofs.YtbplamgacibdaaaGreatDoor
