/-
  What the proof of InsertBad leans on, part 7 of 8: walks of the program's functions at the level of values, and plain facts of what they compute.
-/
import Derived.Test.YtbcmjoaggammcaaGreatDoorPInsertBad6
set_option linter.unusedVariables false
set_option linter.unusedSimpArgs false
set_option maxRecDepth 100000
set_option maxHeartbeats 4000000
namespace Go.Proofs.YtbcmjoaggammcaaGreatDoor.Tw
open List
open Go.Proofs.Tryz
open Go.RowKit V Tr Pk
variable {t u:aE} {h:Nat} {k up:K} {row:Int}
noncomputable def ou(t:aE)(k:K)(row:Int)(h:Nat):aE×Int:=if kQ t k=0 then (if row<0 then (vn,3) else if gS t k h=true then (vn,9) else if 4000<(gm t h k row).af.length then (vn,10) else (gm t h k row,0)) else (vn,kQ t k)
theorem acZ{ls:List Int}{r:D}{S:List ag}(h:fZ cI 3 1 ls r S):kr r=true∧∀B∈S,∀d∈B.cs,kr d=true:=by
 obtain⟨ad,cap,rfl,ho⟩:=h;refine⟨rfl,fun B E d hd=>?_⟩;rcases ho with ⟨_,_,_,_,rfl⟩|⟨b,_,_,_,rfl⟩
 ·cases E
 rw[mem_singleton] at E;subst E;obtain⟨n,_,hn⟩:=mem_flatMap.1 hd;rw[cI,mem_singleton] at hn;subst hn;rfl
theorem OH(v:Valid t h)(hf:gS t k h=false):∀x∈kC t h,x.1≠k:=fun x hx e=>by
 have:gS t k h=true:=(DE v k).2 ((Ar v k).2 ⟨x.2,by rw[←e];exact hx⟩);rw[hf] at this;cases this
theorem ZU{G:List (Nat×List Value)}(L:List aA)(b:Nat)(root i:Int)(ad:Option Addr)(cap:Nat)(Sx:List ag)(hi:0≤i∧i<L.length)(p:cQ)(E:(L[i.toNat]'w4).p=p)(hn:L.length≤10000)(ee:tq L ad cap Sx)(aR:∀o∈L,qp o)(h5:p.keys.length=5)(dU:p.leaf=true→p.kids.length=5)(I:p.leaf=false→p.kids.length=6)(O:∀k∈p.keys,k.length≤100)(U:p.high.length≤100) :
 VC Tryz.prog G 118 [.v (.pointer (some ⟨b,0,none⟩)),.v (.int .i64 i)] (⟨b,46,2,[.v (.slice ad L.length cap),.v (.int .i64 root)]⟩::(Sx++L.flatMap bO)) (UE L b root i.toNat p):=by
 subst E;exact abm L b root i ad cap Sx hi hn ee aR h5 dU I O U
theorem abn{aB:Int}(e:j5 t k row h (h+1)=(u,some (up,aB)))(hr:u.root=t.root):gm t h k row=⟨u.af++[⟨false,[up],[t.root,aB],[],-1⟩],u.af.length⟩:=by
 unfold gm;rw[←P8,e];show(⟨u.af++[⟨false,[up],[u.root,aB],[],-1⟩],u.af.length⟩:aE)=_;rw[hr]
theorem ac0{aB:Int}{m:Nat}(hm:m≤h)(e:j5 t k row h m=(u,some (up,aB)))(h4:(bB (u.pg (cZ t k h t.root m)) up aB).keys.length≤4):gm t h k row=u.set (cZ t k h t.root m) (bB (u.pg (cZ t k h t.root m)) up aB):=by
 have:=OC hm e;rw[HU h4] at this;unfold gm;rw[OE (h-m) (m+1) w4 w4 this];rfl
theorem abo{aB:Int}{m:Nat}(hm:m≤h)(e:j5 t k row h m=(u,some (up,aB)))(h4:¬(bB (u.pg (cZ t k h t.root m)) up aB).keys.length≤4) :
  j5 t k row h (m+1)=(ja u (cZ t k h t.root m) (bn (bB (u.pg (cZ t k h t.root m)) up aB) u.af.length) (bp (bB (u.pg (cZ t k h t.root m)) up aB)),some (iT (bB (u.pg (cZ t k h t.root m)) up aB),(u.af.length:Int))):=by
 rw[OC hm e,Hq h4]
variable {G:List (Nat×List Value)}
theorem Yx:(Tryz.prog.info? 93).map (fun i=>(i.zero,i.size,i.bytes))=some (some (.agg #[.bool false,.slice none 0 0,.slice none 0 0,.slice none 0 0,.int .i64 0]),5,88):=by kernel_rfl
theorem Hx(t:aE)(h:Nat)(k:K)(row:Int)(hb:∀p∈t.af,p.keys.length≤maxLen∧p.kids.length≤maxLen)(hv:gh t=0→Valid t h):VC Tryz.prog G 85 [.agg [.list 5 (t.af.flatMap cP) t.af.length,.v (.int .i64 t.root)],.list 1 (k.flatMap cB) k.length,.v (.int .i64 row)] [] (BL (ou t k row h)):=by
 refine VC.body func85 rfl ntmps85 aO fun X0 w0 aX=>?_;have eZ:=G1 (G:=G) t k hb;unfold cT at eZ;have dr:maxLen=9223372036854775807:=rfl;refine bX ?_;refine OD.box (ds:=[_,_]) an rfl rfl ot rfl rfl (fun b3=>?_);refine OD.alloc (ds:=[_,_]) an rfl rfl zeroValue46 rfl (fun b6=>?_);refine aj 131 [1,2,3,6] ?_;refine cL [1,2,3,6,8] (eZ) ?_;refine ae [1,2,3,6,8,23] ?_;refine aq (fun az aG=>?_) (fun az aG=>?_)
 ·have hn:¬kQ t k=0:=(by simpa using az)
  refine aC 2 ?_;refine aN 0 [_,_] sizeOf46 ?_;refine aj 131 [6,7] ?_;refine aJ [] ?_;unfold ou;rw[if_neg hn];exact ym _
 have hz:kQ t k=0:=(by simpa using az)
 obtain⟨hc,MQ⟩:=OG hz;have v:=hv hc;have BM:=H6 MQ;have fL:=qx (G:=G) t h v k w4 (DF v k);unfold cT at fL;have amI:=v.high;have amJ:=v.mQ;refine ae [1,2,3,6,27] ?_;refine aq (fun aH aU=>?_) (fun aH aU=>?_)
 ·have uU:row<0:=(by omega)
  refine aC 1 ?_;refine aN 0 [_,_] sizeOf46 ?_;refine aj 131 [6,7] ?_;refine aJ [] ?_;unfold ou;rw[if_pos hz,if_pos uU];exact ym _
 have uU:0≤row:=(by omega)
 refine cL [1,2,3,6,11] (fL) ?_;refine ae [1,2,3,6,36] ?_;refine aq (fun aY bz=>?_) (fun aY bz=>?_)
 ·have iG:gS t k h=true:=aY;refine aC 1 ?_;refine aN 0 [_,_] sizeOf46 ?_;refine aj 131 [6,7] ?_;refine aJ [] ?_;unfold ou;rw[if_pos hz,if_neg w4,if_pos iG];exact ym _
 have iG:gS t k h=false:=aY;have hne:=OH v iG;refine aC 1 ?_;refine OD.call an rfl rfl rfl call115 (EP t h v) ⟨ot,trivial⟩ (eH _) ?_;rintro _ _ ⟨L,ad,cap,Sx,rfl,ee,aR,hL,rfl⟩;refine OD.perm (dY (A:=[_,_])) ?_;refine OD.alloc (ds:=[_,_]) an rfl rfl zeroValue46 rfl (fun ua=>?_);refine aN 0 [_,_] sizeOf46 ?_;refine aj 131 [1,2,6,12] ?_;refine aC 2 ?_;refine OD.JH an rfl rfl rfl call55 (Ro t h v k) (fun r S=>acZ) ⟨⟨_,ot,(by have:=Jh (root:=t.root) ee aR (fun B hB=>mem_cons_of_mem ⟨ua,46,2,[.v (.slice ad L.length cap),.v (.int .i64 t.root)]⟩ (mem_cons_of_mem ⟨b6,46,2,[.v (.slice none 0 0),.v (.int .i64 0)]⟩ (mem_cons_of_mem ⟨b3,46,2,[.list 5 (t.af.flatMap cP) t.af.length,.v (.int .i64 t.root)]⟩ hB)));rw[hL] at this;exact this)⟩,⟨_,ot,eM⟩,trivial⟩ ?_;rintro _ Sw ⟨aw,cw,rfl,how⟩;refine OD.gd (t:=42) (Sq:=Sw) lk how (cl ev _) (Perm.refl _) ?_;refine aj 131 [1,2,6,12,13] ?_;refine cL [6,12,13,14,15] (jK k w4) ?_;refine jz [6,12] (fun aV _ aK=>∃(L:List aA),∃(ad:Option Addr),∃(cap:Nat),∃(Sx:List ag),∃(root:Int),(tq L ad cap Sx)∧(∀o∈L,qp o)∧(gm t h k row=⟨L.map aA.p,root⟩)∧(L.length≤10000)∧aK=(⟨131,aV,(⟨ua,46,2,[.v (.slice ad L.length cap),.v (.int .i64 root)]⟩::⟨b6,46,2,[.v (.slice none 0 0),.v (.int .i64 0)]⟩::(Sx++L.flatMap bO))⟩:St)) ?_ ?_
 ·refine cM [6,12,13,14,15,16] ?_;refine aP 2 ?_ (h:=by exact(cW (r:=.int .i64 ((h:Nat):Int)) rfl ot bC (fU (by rw[Ed,show(((h+1:Nat):Int)-1)=(h:Int) from by omega];exact wrap_i64 w4 w4))));refine bM ?_;refine eI [6,12,13] (fun aV _ (lS:Nat×K×Int×List aA×Option Addr×Nat×List ag) aK=>match lS with|(m,up,aB,L,ad,cap,Sx)=>(m≤h+1)∧(j5 t k row h m=(⟨L.map aA.p,t.root⟩,some (up,aB)))∧(tq L ad cap Sx)∧(∀o∈L,qp o)∧aK=(⟨131,(14,.list 1 (up.flatMap cB) up.length)::(15,.v (.int .i64 aB))::(16,.v (.int .i64 ((h:Int)-(m:Nat))))::aV,(⟨ua,46,2,[.v (.slice ad L.length cap),.v (.int .i64 t.root)]⟩::⟨b6,46,2,[.v (.slice none 0 0),.v (.int .i64 0)]⟩::(Sx++L.flatMap bO))⟩:St)) (fun (lS:Nat×K×Int×List aA×Option Addr×Nat×List ag)=>match lS with|(m,up,aB,L,ad,cap,Sx)=>h+1-m) (0,k,row,L,ad,cap,Sx) ⟨(Nat.zero_le _),(by unfold j5;rw[if_pos rfl,hL]),ee,aR,rfl⟩ ?_;rintro⟨m,up,aB,L,ad,cap,Sx⟩ _ ⟨hm0,he,ee,aR,rfl⟩;refine ae [6,12,13,14,15,16,52] ?_;refine aq (fun bF bY=>?_) (fun bF bY=>?_)
  ·obtain rfl:m=h+1:=(by omega)
   obtain⟨s1,s2,s3,s4⟩:=Ht v hne BM uU w4 he;have uc:L.length≤t.af.length+(h+1):=(by rw[←length_map (f:=aA.p)];exact s2)
   have WQ:=acU v hne BM uU w4 he;refine aC 3 ?_;refine ei (bZ 0 [_]) [.slice none 0 0] [_] zeroValue49 runUnderlying90 sizeOf49 (fun U=>?_);refine aD 3 ?_;refine ei (bZ 0 [_,_]) [.int .i64 0,.int .i64 0] [_,_] zeroValue3 runUnderlying91 sizeOf3 (fun Z=>?_);refine aD 1 ?_;refine ei (bZ 0 [_]) [.bool false,.slice none 0 0,.slice none 0 0,.slice none 0 0,.int .i64 0] [_,_,_,_,_] zeroValue93 runUnderlying44 sizeOf93 (fun Mw=>?_);refine OD.adX (cs':=gO (⟨⟨false,[up],[t.root,aB],[],-1⟩,some ⟨U,0,none⟩,1,[⟨U,49,1*1,flatMap cK [up]⟩],some ⟨Z,0,none⟩,2,[⟨Z,3,2*1,flatMap cI [t.root,aB]⟩]⟩:aA)) rfl ⟨eM,eM,eM,xU,eM,trivial⟩ ?_;refine fG 0 62 5 1 ?_;refine OD.en (ls:=L) (new:=[(⟨⟨false,[up],[t.root,aB],[],-1⟩,some ⟨U,0,none⟩,1,[⟨U,49,1*1,flatMap cK [up]⟩],some ⟨Z,0,none⟩,2,[⟨Z,3,2*1,flatMap cI [t.root,aB]⟩]⟩:aA)]) (Sq:=Sx) fV uv an rfl rfl underlying44 Yx rfl w7 ot ee (n8 (A:=[_,_,_,_])) ot bw nu nv (fun Dh wE aix aiy=>?_);refine aD 1 ?_;refine aN 3 [_,_] sizeOf44 ?_;refine aj 131 [6,12] ?_;refine aC 3 ?_
   refine bJ (cW (r:=.int .i64 (L.length:Nat)) rfl ot bC (fU (by rw[length_append,show(((L.length+[(⟨⟨false,[up],[t.root,aB],[],-1⟩,some ⟨U,0,none⟩,1,[⟨U,49,1*1,flatMap cK [up]⟩],some ⟨Z,0,none⟩,2,[⟨Z,3,2*1,flatMap cI [t.root,aB]⟩]⟩:aA)].length:Nat):Int)-1)=(L.length:Int) from by simp];exact wrap_i64 w4 w4))) ?_;refine aD 1 ?_;refine aN 3 [_,_] sizeOf3 ?_;have hX:((⟨Z,3,2*1,flatMap cI [t.root,aB]⟩:ag)::⟨U,49,1*1,flatMap cK [up]⟩::L.flatMap bO).Perm ((L++[(⟨⟨false,[up],[t.root,aB],[],-1⟩,some ⟨U,0,none⟩,1,[⟨U,49,1*1,flatMap cK [up]⟩],some ⟨Z,0,none⟩,2,[⟨Z,3,2*1,flatMap cI [t.root,aB]⟩]⟩:aA)]).flatMap bO):=(by rw[Qw];exact(Perm.swap _ _ _).trans (perm_append_comm (l₁:=[_,_])))
   refine OD.perm (S':=⟨ua,46,2,[.v (.slice (some ⟨Dh,0,none⟩) (L++[(⟨⟨false,[up],[t.root,aB],[],-1⟩,some ⟨U,0,none⟩,1,[⟨U,49,1*1,flatMap cK [up]⟩],some ⟨Z,0,none⟩,2,[⟨Z,3,2*1,flatMap cI [t.root,aB]⟩]⟩:aA)]).length wE),.v (.int .i64 (L.length:Nat))]⟩::⟨b6,46,2,[.v (.slice none 0 0),.v (.int .i64 0)]⟩::(([⟨Dh,93,wE*5,flatMap gO (L++[(⟨⟨false,[up],[t.root,aB],[],-1⟩,some ⟨U,0,none⟩,1,[⟨U,49,1*1,flatMap cK [up]⟩],some ⟨Z,0,none⟩,2,[⟨Z,3,2*1,flatMap cI [t.root,aB]⟩]⟩:aA)])⟩]:List ag)++(L++[(⟨⟨false,[up],[t.root,aB],[],-1⟩,some ⟨U,0,none⟩,1,[⟨U,49,1*1,flatMap cK [up]⟩],some ⟨Z,0,none⟩,2,[⟨Z,3,2*1,flatMap cI [t.root,aB]⟩]⟩:aA)]).flatMap bO)) (by exact(perm_middle (l₁:=[_,_,_])).trans (Perm.cons _ ((perm_middle (l₁:=[_,_,_])).trans (Perm.cons _ (Perm.cons _ hX))))) ?_;refine aj 131 [6,12] ?_;refine CD.exit ?_
   refine⟨_,aM,(L++[(⟨⟨false,[up],[t.root,aB],[],-1⟩,some ⟨U,0,none⟩,1,[⟨U,49,1*1,flatMap cK [up]⟩],some ⟨Z,0,none⟩,2,[⟨Z,3,2*1,flatMap cI [t.root,aB]⟩]⟩:aA)]),(some ⟨Dh,0,none⟩),wE,[⟨Dh,93,wE*5,flatMap gO (L++[(⟨⟨false,[up],[t.root,aB],[],-1⟩,some ⟨U,0,none⟩,1,[⟨U,49,1*1,flatMap cK [up]⟩],some ⟨Z,0,none⟩,2,[⟨Z,3,2*1,flatMap cI [t.root,aB]⟩]⟩:aA)])⟩],(L.length:Nat),(bD aix aiy),(fun o ho=>by rcases mem_append.1 ho with ho|ho;exact aR o ho;rw[mem_singleton] at ho;subst ho;exact⟨bD (Nat.le_refl _) (show 1≤maxLen by decide),bD (Nat.le_refl _) (show 2≤maxLen by decide)⟩),(by rw[abn he rfl];show(⟨map aA.p L++[_],((map aA.p L).length:Int)⟩:aE)=_;rw[map_append,length_map];rfl),FU,rfl⟩
  have hm:m≤h:=(by omega)
  have hP:=acV v hne BM uU hm he;obtain⟨s1,s2,s3,s4⟩:=Ht v hne BM uU w4 he;have uc:L.length≤t.af.length+m:=(by rw[←length_map (f:=aA.p)];exact s2)
  have MR:0≤(cZ t k h t.root m)∧(cZ t k h t.root m)<L.length:=(by have:=hP.rg;rw[←length_map (f:=aA.p)];exact this)
  have hj:(cZ t k h t.root m).toNat<L.length:=(by omega)
  have WR:L[(cZ t k h t.root m).toNat].p=(⟨L.map aA.p,t.root⟩:aE).pg (cZ t k h t.root m):=SK (t:=(⟨L.map aA.p,t.root⟩:aE)) rfl hP.rg hj;have po:ew ((⟨L.map aA.p,t.root⟩:aE).pg (cZ t k h t.root m)) (⟨L.map aA.p,t.root⟩:aE).af.length:=s4 _ (jn hP.rg);have full:=HS po hP.out hP.len hP.high hP.nn hP.nnl;obtain⟨bx,rfl,fO,qS,rfl⟩:=ee.pos w4;have xw:=aR _ (getElem_mem hj);obtain⟨o,ho⟩:∃o,o=L[(cZ t k h t.root m).toNat]:=⟨_,rfl⟩
  rw[←ho] at xw WR;rcases o with ⟨p,ak,ck,sk,ai,ci,si⟩
  have gB:p=(⟨L.map aA.p,t.root⟩:aE).pg (cZ t k h t.root m):=WR;obtain⟨dI,jS⟩:om p.keys ak ck sk∧lp p.kids ai ci si:=xw;rw[←gB] at po full;have mR:=po.eL;have fC:=P5 po up;have WQ:=hP.len.2;have E7:(if p.leaf=true then aL p up else aL p up+1)≤p.kids.length∧p.kids.length≤5:=(by cases fB:p.leaf;(have:=(po.node fB).1;rw[if_neg w7];omega);(have:=po.leaf fB;rw[if_pos rfl];omega))
  have hW:h-m<(iO t k h t.root).length:=(by rw[Ed];omega)
  have WS:(iO t k h t.root)[h-m]=(cZ t k h t.root m):=(by have:=OB (t:=t) (k:=k) (h:=h) (i:=t.root) hm;exact(List.getElem?_eq_some_iff.1 this).2)
  have Bf:=v.high;have TB:=v.mQ;have JT:(L.flatMap bO).Perm (sk++(si++((L.eraseIdx (cZ t k h t.root m).toNat).flatMap bO))):=(by have:=yl bO hj;rw[←ho] at this;exact this.trans (by rw[show bO ⟨p,ak,ck,sk,ai,ci,si⟩=sk++si from rfl,append_assoc]))
  refine CD.perm (Perm.cons _ (Perm.cons _ (Perm.cons _ JT))) ?_;refine cM [6,12,13,14,15,16,17] ?_;refine aP 4 ?_ (h:=by exact(dy 1 (h:=by first|exact .l (j:=h-m) w4 hW|exact .r (j:=h-m) w4 hW)));refine aP 0 ?_ (h:=by exact(cH (mk:=Op.load 3) rfl ot (pQ (d:=.v (.int .i64 (cZ t k h t.root m))) (i:=h-m) ev isAgg3 hW (by rw[WS];rfl))));refine aP 0 ?_ (h:=by exact(dy 5 (h:=by first|exact .l (j:=(cZ t k h t.root m).toNat) (Int.toNat_of_nonneg MR.1).symm hj|exact .r (j:=(cZ t k h t.root m).toNat) (Int.toNat_of_nonneg MR.1).symm hj)));refine bM ?_;refine cM [6,12,13,14,15,16,17,18] ?_;refine aP 2 ?_ (h:=by exact(cH (mk:=Op.load 93) rfl ot (dK (k:=2) (ls:=L) (i:=(cZ t k h t.root m).toNat) fV rfl rfl rfl isAgg93 sizeOf93 hj)));refine mW 1 ?_;refine yY (HZ p up po.jG w4) (ha:=by exact⟨⟨_,ot,(by rw[←ho];exact uh ⟨eM,kY dI (cl fW _) (fun B hB=>.tail _ (.tail _ (.tail _ (mem_append_left _ hB)))),kY jS (cl ev _) (fun B hB=>.tail _ (.tail _ (.tail _ (mem_append_right _ (mem_append_left _ hB))))),eM,eM,trivial⟩)⟩,⟨_,ot,eM⟩,trivial⟩) (K:=?_);refine bM ?_;refine aC 4 ?_;refine bJ (cH (mk:=Op.load 90) rfl ot (kN (k:=2) (j:=1) (d:=.v (.slice ak p.keys.length ck)) (ls:=L) fV rfl rfl rfl isAgg90 hj qQ)) ?_;refine aD 2 ?_
  refine ei (bZ 0 [_]) [.slice none 0 0] [_] zeroValue49 runUnderlying90 sizeOf49 (fun b89=>?_);refine OD.call an rfl rfl rfl call116 (Yv p.keys (aL p up) up ak ck sk b89 fC w4 dI) ⟨ot,ot,ot,trivial⟩ (Perm.cons _ (n8 (A:=[_,_,_]))) ?_;rintro _ E ⟨I,O,rfl,fj⟩;refine OD.perm (iU (A:=[_,_,_])) ?_;refine aD 2 ?_;refine OD.storeAt (k:=2) (cs':=flatMap gO (L.set (cZ t k h t.root m).toNat (⟨{p with keys:=gL p.keys (aL p up) up},I,O,E,ai,ci,si⟩:aA))) an rfl rfl ot rfl rfl ot rfl rfl sizeOf90 rfl (by show 0+(cZ t k h t.root m).toNat*5+1+1≤(flatMap gO L).length;rw[cl fV];omega) (by show(L.flatMap gO).set (0+(cZ t k h t.root m).toNat*5+1) _=_;rw[Nat.zero_add];exact vv fV w7 hj (by rw[←ho];unfold gO;rw[x5 fC];rfl)) ?_;refine aj 131 [6,12,13,15,16,17,18] ?_
  refine CD.cut (fun aK=>aK=(⟨131,[(6,.v (.pointer (some ⟨b6,0,none⟩))),(12,.v (.pointer (some ⟨ua,0,none⟩))),(13,.list 1 ((iO t k h t.root).flatMap cI) (iO t k h t.root).length),(15,.v (.int .i64 aB)),(16,.v (.int .i64 ((h:Int)-(m:Nat)))),(17,.v (.pointer (some ⟨bx,0+(cZ t k h t.root m).toNat*5,none⟩))),(18,.v (.int .i64 (((if p.leaf=true then aL p up else aL p up+1):Nat):Int)))],(⟨ua,46,2,[.v (.slice (some ⟨bx,0,none⟩) L.length cap),.v (.int .i64 t.root)]⟩::⟨b6,46,2,[.v (.slice none 0 0),.v (.int .i64 0)]⟩::⟨bx,93,cap*5,flatMap gO (L.set (cZ t k h t.root m).toNat (⟨{p with keys:=gL p.keys (aL p up) up},I,O,E,ai,ci,si⟩:aA))⟩::(E++(si++((L.eraseIdx (cZ t k h t.root m).toNat).flatMap bO))))⟩:St)) ?_ ?_
  ·refine cM [6,12,13,15,16,17,18,97] ?_;refine aP 3 ?_ (h:=by exact(cH (mk:=Op.load 4) rfl ot (kN (k:=2) (j:=0) (d:=.v (.bool p.leaf)) (ls:=(L.set (cZ t k h t.root m).toNat (⟨{p with keys:=gL p.keys (aL p up) up},I,O,E,ai,ci,si⟩:aA))) fV rfl rfl rfl isAgg4 wM (by rw[getElem_set_self];rfl))));refine bM ?_;refine aq (fun cx c8=>?_) (fun cx c8=>?_)
   ·have dh:(((if p.leaf=true then aL p up else aL p up+1):Nat):Int)=(((aL p up):Nat):Int)+1:=(by rw[if_neg (by simpa using cx)];rfl)
    refine cj [6,12,13,15,16,17,18] ?_;exact VE
   have dh:(((if p.leaf=true then aL p up else aL p up+1):Nat):Int)=(((aL p up):Nat):Int):=(by rw[if_pos (by simpa using cx)])
   refine CD.skip ?_;exact VE
  rintro _ ⟨rfl⟩;refine aC 4 ?_;refine bJ (cH (mk:=Op.load 91) rfl ot (kN (k:=2) (j:=2) (d:=.v (.slice ai p.kids.length ci)) (ls:=(L.set (cZ t k h t.root m).toNat (⟨{p with keys:=gL p.keys (aL p up) up},I,O,E,ai,ci,si⟩:aA))) fV rfl rfl rfl isAgg91 wM (by rw[getElem_set_self];rfl))) ?_;refine aD 2 ?_;refine ei (bZ 0 [_]) [.int .i64 0] [_] zeroValue3 runUnderlying91 sizeOf3 (fun aiz=>?_);refine OD.call an rfl rfl rfl call117 (Yw p.kids (if p.leaf=true then aL p up else aL p up+1) aB ai ci si aiz E7.1 w4 jS) ⟨ot,ot,ot,trivial⟩ (Perm.cons _ (sG (A:=[_,_,_]))) ?_;rintro _ bA ⟨bK,bL,rfl,lG⟩;refine OD.perm (vE (A:=[_,_,_])) ?_;refine aD 2 ?_
  refine OD.storeAt (k:=2) (cs':=flatMap gO (L.set (cZ t k h t.root m).toNat (⟨(bB p up aB),I,O,E,bK,bL,bA⟩:aA))) an rfl rfl ot rfl rfl ot rfl rfl sizeOf91 rfl (by show 0+(cZ t k h t.root m).toNat*5+2+1≤(flatMap gO (L.set (cZ t k h t.root m).toNat (⟨{p with keys:=gL p.keys (aL p up) up},I,O,E,ai,ci,si⟩:aA))).length;rw[cl fV,length_set];omega) (by show(flatMap gO (L.set (cZ t k h t.root m).toNat (⟨{p with keys:=gL p.keys (aL p up) up},I,O,E,ai,ci,si⟩:aA))).set (0+(cZ t k h t.root m).toNat*5+2) _=_;rw[Nat.zero_add,vv fV (a':=(⟨(bB p up aB),I,O,E,bK,bL,bA⟩:aA)) w7 wM (by rw[getElem_set_self];show gO (⟨(bB p up aB),I,O,E,bK,bL,bA⟩:aA)=(gO (⟨{p with keys:=gL p.keys (aL p up) up},I,O,E,ai,ci,si⟩:aA)).set 2 _;unfold gO;rw[show((⟨(bB p up aB),I,O,E,bK,bL,bA⟩:aA)).p.kids.length=p.kids.length+1 from x5 E7.1];rfl),set_set]) ?_;have vc:(E++(bA++((L.eraseIdx (cZ t k h t.root m).toNat).flatMap bO))).Perm ((L.set (cZ t k h t.root m).toNat (⟨(bB p up aB),I,O,E,bK,bL,bA⟩:aA)).flatMap bO):=(by have:=(qt bO hj (⟨(bB p up aB),I,O,E,bK,bL,bA⟩:aA)).symm;rw[show bO (⟨(bB p up aB),I,O,E,bK,bL,bA⟩:aA)=E++bA from rfl,append_assoc] at this;exact this)
  refine OD.perm (S':=⟨ua,46,2,[.v (.slice (some ⟨bx,0,none⟩) (L.set (cZ t k h t.root m).toNat (⟨(bB p up aB),I,O,E,bK,bL,bA⟩:aA)).length cap),.v (.int .i64 t.root)]⟩::⟨b6,46,2,[.v (.slice none 0 0),.v (.int .i64 0)]⟩::(([⟨bx,93,cap*5,flatMap gO (L.set (cZ t k h t.root m).toNat (⟨(bB p up aB),I,O,E,bK,bL,bA⟩:aA))⟩]:List ag)++(L.set (cZ t k h t.root m).toNat (⟨(bB p up aB),I,O,E,bK,bL,bA⟩:aA)).flatMap bO)) (by rw[length_set];exact Perm.cons _ (Perm.cons _ (Perm.cons _ vc))) ?_;have UF:tq (L.set (cZ t k h t.root m).toNat (⟨(bB p up aB),I,O,E,bK,bL,bA⟩:aA)) (some ⟨bx,0,none⟩) cap [⟨bx,93,cap*5,flatMap gO (L.set (cZ t k h t.root m).toNat (⟨(bB p up aB),I,O,E,bK,bL,bA⟩:aA))⟩]:=bD qP qS;have jE:∀o∈(L.set (cZ t k h t.root m).toNat (⟨(bB p up aB),I,O,E,bK,bL,bA⟩:aA)),qp o:=fun x hx=>by rcases mem_or_eq_of_mem_set hx with hx|rfl;exact aR x hx;exact⟨fj,lG⟩
  refine aj 131 [6,12,13,16,17] ?_;refine cM [6,12,13,16,116] ?_;refine aP 3 ?_ (h:=by exact(cH (mk:=Op.load 90) rfl ot (kN (k:=2) (j:=1) (d:=.v (.slice I (bB p up aB).keys.length O)) (ls:=(L.set (cZ t k h t.root m).toNat (⟨(bB p up aB),I,O,E,bK,bL,bA⟩:aA))) fV rfl rfl rfl isAgg90 wM (by rw[getElem_set_self];rfl))));refine bM ?_;refine aq (fun dP er=>?_) (fun dP er=>?_)
  ·have h4:(bB p up aB).keys.length≤4:=(by have:=of_decide_eq_true dP;omega)
   refine CD.exit ?_;refine⟨_,aM,(L.set (cZ t k h t.root m).toNat (⟨(bB p up aB),I,O,E,bK,bL,bA⟩:aA)),(some ⟨bx,0,none⟩),cap,[⟨bx,93,cap*5,flatMap gO (L.set (cZ t k h t.root m).toNat (⟨(bB p up aB),I,O,E,bK,bL,bA⟩:aA))⟩],t.root,UF,jE,(by rw[ac0 hm he (by rw[←gB];exact h4),←gB,map_set];rfl),u4,rfl⟩
  have h4:¬(bB p up aB).keys.length≤4:=(by have:=of_decide_eq_false dP;omega)
  have h5:(bB p up aB).keys.length=5:=(by have:=full.eL;omega)
  refine dw 2 ?_;refine bJ (dy 1 (h:=by first|exact .l (j:=h-m) w4 hW|exact .r (j:=h-m) w4 hW)) ?_;refine bJ (cH (mk:=Op.load 3) rfl ot (pQ (d:=.v (.int .i64 (cZ t k h t.root m))) (i:=h-m) ev isAgg3 hW (by rw[WS];rfl))) ?_;have lI:(L.set (cZ t k h t.root m).toNat (⟨(bB p up aB),I,O,E,bK,bL,bA⟩:aA)).length=L.length:=length_set ..;refine OD.call an rfl rfl rfl call118 (ZU (L.set (cZ t k h t.root m).toNat (⟨(bB p up aB),I,O,E,bK,bL,bA⟩:aA)) ua t.root (cZ t k h t.root m) (some ⟨bx,0,none⟩) cap [⟨bx,93,cap*5,flatMap gO (L.set (cZ t k h t.root m).toNat (⟨(bB p up aB),I,O,E,bK,bL,bA⟩:aA))⟩] (by rw[lI];exact MR) (bB p up aB) (by rw[getElem_set_self]) (by rw[lI];omega) UF jE h5 (fun hl=>by have:=full.leaf hl;omega) (fun hl=>by have:=(full.node hl).1;omega) (fun x hx=>(full.kP x hx).2) full.hlen) ⟨ot,ot,trivial⟩ (Perm.cons _ (perm_append_singleton _ _).symm) ?_;rintro _ _ ⟨rfl,L3,GA,FD,GB,aiA,wH,hL3,rfl⟩;refine OD.perm (Perm.cons _ (perm_append_singleton _ _)) ?_;have B7:j5 t k row h (m+1)=(⟨L3.map aA.p,t.root⟩,some (iT (bB p up aB),((L.set (cZ t k h t.root m).toNat (⟨(bB p up aB),I,O,E,bK,bL,bA⟩:aA)).length:Int))):=(by rw[abo hm he (by rw[←gB];exact h4),←gB,hL3,lI];unfold ja;show(({af:=(map aA.p L).set _ _++_,root:=t.root}:aE),_)=_;rw[map_set,set_set,length_map])
  refine aj 131 [6,12,13,14,15,16] ?_;refine cj [6,12,13,14,15,16] ?_;refine⟨((m+1),(iT (bB p up aB)),((L.set (cZ t k h t.root m).toNat (⟨(bB p up aB),I,O,E,bK,bL,bA⟩:aA)).length:Int),L3,GA,FD,GB),_,cz,aM,w4,B7,aiA,wH,rfl⟩
 rintro _ ⟨L,ad,cap,Sx,root,ee,aR,FF,uc,rfl⟩;refine ae [6,12,128] ?_;refine aq (fun eN fR=>?_) (fun eN fR=>?_)
 ·refine aC 1 ?_;refine aN 1 [_,_] sizeOf46 ?_;refine aj 131 [6,7] ?_;refine aJ [] ?_;unfold ou;rw[if_pos hz,if_neg w4,if_neg wQ,if_pos (by rw[FF];show 4000<(L.map aA.p).length;rw[length_map];omega)];exact ym _
 refine aC 1 ?_;refine aN 1 [_,_] sizeOf46 ?_;refine aj 131 [6,7] ?_;refine aJ (Sx++L.flatMap bO) ?_;unfold ou;rw[if_pos hz,if_neg w4,if_neg wQ,if_neg (by rw[FF];show ¬4000<(L.map aA.p).length;rw[length_map];omega)];exact⟨_,rfl,L,ad,cap,Sx,by rw[FF],ee,aR,by rw[FF],rfl⟩
theorem ZV(t:aE)(h:Nat)(k:K)(row:Int)(hb:∀p∈t.af,p.keys.length≤maxLen∧p.kids.length≤maxLen)(E:gh t=0→Valid t h):VP Tryz.prog G 85 [.agg (cT t),.list 1 (k.flatMap cB) k.length,.v (.int .i64 row)] (.dz [.agg (cT (ou t k row h).1),.v (.int .i64 (ou t k row h).2)]):=(Hx t h k row hb E).cover fun r S hr=>hr.view

end Go.Proofs.YtbcmjoaggammcaaGreatDoor.Tw
namespace Go.Proofs.YtbcmjoaggammcaaGreatDoor.Tr
open List
open Go.Proofs.Tryz
open Go.Lib (compareBytes)
variable {t:aE} {h:Nat} {k:K}
variable {n:Nat}
theorem Qe(hp:∀p∈t.af,ew p t.af.length):∀{h h':Nat} {i:Int} {a b c d:K},dR t h i a b→dR t h' i c d→h=h'
 | 0,0,_,_,_,_,_,_,_=>rfl
 | 0,h'+1,i,_,_,_,_,h1,h2=>by have:=h1.2.1;rw[h2.2.1] at this;cases this
 | h+1,0,i,_,_,_,_,h1,h2=>by have:=h1.2.1;rw[h2.2.1] at this;cases this
 | h+1,h'+1,i,_,_,_,_,h1,h2=>by
  obtain⟨p1,p2,p3,O,E⟩:=h1;obtain⟨q1,q2,U,Z,I⟩:=h2;have hn:=((hp _ (jn p1)).node p2).1;have:=Qe hp (E 0 w4) (I 0 w4);rw[this]
noncomputable def dA(t:aE):Nat:=Classical.epsilon fun h=>Valid t h
theorem DW(v:Valid t h):Valid t (dA t):=Classical.epsilon_spec (p:=fun h=>Valid t h) ⟨h,v⟩
theorem Jj(v:Valid t h):dA t=h:=Qe v.page (DW v).ok v.ok
noncomputable def gE(t:aE):List (K×Int):=kC t (dA t)
theorem IT(hp:∀p∈t.af,ew p t.af.length):∀{h:Nat} {i:Int} {a b:K},dR t h i a b→2 ^ h≤(ids t h i).length
 | 0,i,_,_,_=>by simp[ids]
 | h+1,i,_,_,ok=>by
  obtain⟨p1,p2,p3,O,E⟩:=ok;have hn:=(hp _ (jn p1)).node p2;have hk:1≤(t.pg i).keys.length:=by
   have:=hn.2;cases kS:(t.pg i).keys with
   | nil=>exact absurd kS this
   | cons _ _=>simp
  have h0:=IT hp (E 0 w4);have h1:=IT hp (E 1 w4);have key:∀(l:List Int) (h2:2≤l.length),2 ^ h≤(ids t h (l[0]'w4)).length→2 ^ h≤(ids t h (l[1]'w4)).length→2 ^ h+2 ^ h≤(l.flatMap (ids t h)).length:=by
   intro l h2 I a1;match l,h2 with
   | x::y::r,_ =>
    simp only[flatMap_cons,length_append];simp only[getElem_cons_zero,getElem_cons_succ] at I a1;omega
  have:=key _ w4 h0 h1;rw[ids,length_cons,Nat.pow_succ];omega
theorem ac1(v:Valid t h):h≤11:=by
 have h1:=IT v.page v.ok;rw[v.all] at h1;have h2:=v.mQ;refine Nat.le_of_not_lt fun h3=>?_;have:2 ^ 12≤2 ^ h:=Nat.pow_le_pow_right w7 h3;omega
structure iv (t:aE) (n:Nat):Prop where
 val:Valid t (dA t)
 eL:t.af.length≤1+13*n
theorem iv.mono{m:Nat}(g:iv t n)(h:n≤m):iv t m:=⟨g.val,by have:=g.eL;omega⟩
theorem abp:iv rP 0:=⟨DW Ou,by decide⟩
theorem abq:gE rP=[]:=by unfold gE;rw[Jj Ou];exact aa5
theorem Ef{row:Int}(g:iv t n)(hn:n≤300)(kG:∀x∈gE t,x.1≠k)(hk:1≤k.length∧k.length≤100)(hr:0≤row) :
  iv (gm t (dA t) k row) (n+1)∧(gm t (dA t) k row).af.length≤4000∧∀x,x∈gE (gm t (dA t) k row)↔x=(k,row)∨x∈gE t:=by
 have E:=ac1 g.val;have hf:=g.eL;obtain⟨h',_,v,⟨_,hm⟩,he⟩:=Zu g.val kG hk hr w4;refine⟨⟨DW v,by omega⟩,v.mQ,fun x=>?_⟩;unfold gE;rw[Jj v];exact he x
theorem H7(g:iv t n)(ht:AX t k (dA t)):iv (gp t (dA t) k) n∧∀x,x∈gE (gp t (dA t) k)↔x∈gE t∧x.1≠k:=by
 obtain⟨v,hl,he⟩:=Zv g.val ht;refine⟨⟨DW v,by have:=g.eL;omega⟩,fun x=>?_⟩;unfold gE;rw[Jj v];exact he x

end Go.Proofs.YtbcmjoaggammcaaGreatDoor.Tr
namespace Go.Proofs.YtbcmjoaggammcaaGreatDoor.Tw
open List
open Go.Proofs.Tryz
open Go.RowKit V Tr Pk
open Go.Lib (compareBytes)
variable {k:K} {t:aE} {n:Nat} {row:Int}
theorem ac2(h:1≤k.length∧k.length≤100):nP k=true:=decide_eq_true h
theorem AY(g:iv t n)(hk:1≤k.length∧k.length≤100):kQ t k=0:=Ih (HY g.val) (ac2 hk)
theorem As(g:iv t n)(k:K):gS t k (dA t)=true↔∃row,(k,row)∈gE t:=(DE g.val k).trans (Ar g.val k)
theorem Eg(g:iv t n):gS t k (dA t)=false↔∀x∈gE t,x.1≠k:=by
 constructor
 ·exact fun h=>OH g.val h
 intro h;cases hq:gS t k (dA t) with
 | false=>rfl
 | true=>obtain⟨row,hr⟩:=(As g k).1 hq;exact absurd rfl (h _ hr)
theorem ac3(g:iv t n)(hk:1≤k.length∧k.length≤100)(hr:0≤row)(h:gS t k (dA t)=true):ou t k row (dA t)=(vn,9):=by
 unfold ou;rw[if_pos (AY g hk),if_neg w4,if_pos h]
theorem SL(g:iv t n)(hn:n≤300)(hk:1≤k.length∧k.length≤100)(hr:0≤row)(h:gS t k (dA t)=false):ou t k row (dA t)=(gm t (dA t) k row,0):=by
 have:=(Ef g hn ((Eg g).1 h) hk hr).2.1;unfold ou;rw[if_pos (AY g hk),if_neg w4,if_neg (by rw[h];decide),if_neg w4]
theorem Ry(g:iv t n)(hk:1≤k.length∧k.length≤100)(h:gS t k (dA t)=true):qG t k (dA t)=(gp t (dA t) k,0):=by
 unfold qG;rw[if_pos (AY g hk),if_pos h]
theorem ac4(g:iv t n)(hk:1≤k.length∧k.length≤100)(h:gS t k (dA t)=false):findF t k (dA t)=(0,8):=by
 unfold findF;rw[if_pos (AY g hk),if_neg (by rw[h];decide)]
theorem Qf(g:iv t n)(hk:1≤k.length∧k.length≤100)(h:(k,row)∈gE t):findF t k (dA t)=(row,0):=by
 unfold findF dW;rw[if_pos (AY g hk),if_pos ((As g k).2 ⟨row,h⟩)];obtain⟨_,_,e⟩:=(found g.val k row).1 h;rw[e]
theorem AN(g:iv t n):∀p∈t.af,p.keys.length≤maxLen∧p.kids.length≤maxLen:=abf g.val
variable {G:List (Nat×List Value)}
theorem Qg(g:iv t n)(k:K)(row:Int):VP Tryz.prog G 85 [.agg (cT t),.list 1 (k.flatMap cB) k.length,.v (.int .i64 row)] (.dz [.agg (cT (ou t k row (dA t)).1),.v (.int .i64 (ou t k row (dA t)).2)]):=ZV t (dA t) k row (AN g) fun _=>g.val
theorem Qh(g:iv t n)(k:K):VP Tryz.prog G 93 [.agg (cT t),.list 1 (k.flatMap cB) k.length] (.dz [.agg (cT (qG t k (dA t)).1),.v (.int .i64 (qG t k (dA t)).2)]):=ZR t (dA t) k (AN g) fun _=>g.val
theorem Jk(g:iv t n)(k:K):VP Tryz.prog G 14 [.agg (cT t),.list 1 (k.flatMap cB) k.length] (.dz [.v (.int .i64 (findF t k (dA t)).1),.v (.int .i64 (findF t k (dA t)).2)]):=aeC t (dA t) k (AN g) fun _=>g.val
theorem ac5(g:iv t n):VP Tryz.prog G 16 [.agg (cT t)] (.v (.int .i64 0)):=by have:=oP (G:=G) t (AN g);rwa [HY g.val] at this
noncomputable def oX(t:aE)(f eB:K):List (K×Int):=v8 t (dA t) f eB
theorem SM(g:iv t n)(f eB:K)(hf:f.length≤100)(ht:eB.length≤100):VP Tryz.prog G 15 [.agg (cT t),.list 1 (f.flatMap cB) f.length,.list 1 (eB.flatMap cB) eB.length] (.dz [.list 2 ((oX t f eB).flatMap cE) (oX t f eB).length,.v (.int .i64 0)]):=by
 have:=acY (G:=G) t (dA t) (AN g) (fun _=>g.val) f eB;unfold vW at this;rwa [if_pos (HY g.val),if_pos ⟨hf,ht⟩] at this
theorem abr(t:aE):oX t [] []=gE t:=by
 unfold oX v8 gE;rw[abh,Hv fun x _=>by simp[uF]]
theorem ac6(g:iv t n):VP Tryz.prog G 15 [.agg (cT t),.v (.slice none 0 0),.v (.slice none 0 0)] (.dz [.list 2 ((oX t [] []).flatMap cE) (oX t [] []).length,.v (.int .i64 0)]):=VC.eB (args':=[.agg (cT t),.v (.slice none 0 0),.v (.slice none 0 0)]) (SM g [] [] w7 w7) ⟨.inl rfl,.inr ⟨1,rfl,rfl⟩,.inr ⟨1,rfl,rfl⟩,trivial⟩

end Go.Proofs.YtbcmjoaggammcaaGreatDoor.Tw
namespace Go.Proofs.YtbcmjoaggammcaaGreatDoor.Ba
open List
open Go.Proofs.Tryz
open Go.RowKit V Pk Tr Vl Go.Proofs.YtbcmjoaggammcaaGreatDoor.Nm Pc Cd Ex Tw
structure aT where
 nm:ByteArray
 av:List cu
 rows:List (List Vl)
 ix:aE
def gY(r:List Vl):List D:=[.list 3 (r.flatMap cV) r.length]
theorem kL(r:List Vl):(gY r).length=1:=rfl
theorem abt(r:List Vl):(gY r).all V.one=true:=rfl
def dG(t:aT):List D:=[.v (.string t.nm),.list 2 (t.av.flatMap cC) t.av.length,.list 1 (t.rows.flatMap gY) t.rows.length,.list 5 (t.ix.af.flatMap cP) t.ix.af.length,.v (.int .i64 t.ix.root)]
theorem jL(t:aT):(dG t).length=5:=rfl
def bq(b:List aT)(nm:ByteArray):Int:=dO (fun t=>t.nm.toList==nm.toList) b
def dj(r:List Vl):K:=(fX (r.take 1)).1
variable {G:List (Nat×List Value)}
theorem abu(t:aT)(nm:ByteArray)(b:Nat):VC Tryz.prog G 62 [.agg (dG t),.v (.pointer (some ⟨b,0,none⟩))] [⟨b,9,1,[.v (.string nm)]⟩] (fun r S=>r = .v (.bool (t.nm.toList==nm.toList))∧S=[⟨b,9,1,[.v (.string nm)]⟩]):=by
 refine VC.body func62 rfl ntmps62 aO fun X0 w0 aX=>?_;unfold dG;refine bX ?_;refine OD.box (ds:=[_,_,_,_,_]) an rfl rfl ot rfl rfl (fun b2=>?_);exact Vz
theorem ZW(ls:List aT)(I:Nat)(E:List D)(S:List ag)(p:aT→Bool)(fg:∀args w,(callFunc I args).run Tryz.prog w = .ok (.enter I args) w)(hp:∀x∈ls,VC Tryz.prog G I (.agg (dG x)::E) S (fun r S'=>r = .v (.bool (p x))∧S'=S))(hlen:ls.length≤1000000):VC Tryz.prog G 61 [.list 5 (ls.flatMap dG) ls.length,.eo (.func I) E] S (fun r S'=>r = .v (.int .i64 (dO p ls))∧S'=S):=by
 refine VC.body func61 rfl ntmps61 aO fun X0 w0 aX=>?_;refine aC 1 ?_;refine OD.wk (Wk.dN (n:=19) (l':=[(0,_),(1,_)]) (S':=S) rfl mv fb) ?_;refine OD.nil ?_;refine aC 3 ?_;refine OD.wk (Wk.dN (n:=19) (l':=[(0,_),(1,_),(7,_),(8,_)]) (S':=S) rfl mv fb) ?_;refine OD.nil ?_;refine eI [0,1,7] (fun aV _ (k:Nat) aK=>(k≤ls.length)∧(∀x∈ls.take k,p x=false)∧aK=(⟨19,(8,.v (.int .i64 (k:Nat)))::aV,S⟩:St)) (fun (k:Nat)=>ls.length-k) 0 ⟨Nat.zero_le _,bw,rfl⟩ ?_;rintro k _ ⟨hk,h0,rfl⟩;refine aC 1 ?_;refine OD.wk (Wk.dN (n:=19) (l':=[(0,_),(1,_),(7,_),(8,_),(9,_)]) (S':=S) rfl mv fb) ?_;refine OD.nil ?_;refine aq (fun az aG=>?_) (fun az aG=>?_)
 ·refine aC 2 ?_;refine OD.wk (Wk.dN (n:=19) (l':=[(0,_),(1,_),(5,_),(7,_),(8,_)]) (S':=S) rfl mv fb) ?_;refine OD.nil ?_;refine aC 5 ?_;refine OD.jY (f:=I) (args:=[_]) an rfl rfl (sN rfl lk) fg (hp (ls[k]'w4) (getElem_mem _)) rfl ⟨sN rfl lk,trivial⟩ (HF _) ?_;rintro _ S2 ⟨rfl,ig⟩;rw[ig];clear ig;refine OD.wk (Wk.dN (n:=19) (l':=[(0,_),(1,_),(5,_),(7,_),(8,_),(16,_)]) (S':=S) rfl mv fb) ?_;refine OD.nil ?_;refine aq (fun aH aU=>?_) (fun aH aU=>?_)
  ·refine aC 2 ?_;refine OD.wk (Wk.dN (n:=19) (l':=[(4,_)]) (S':=S) rfl mv fb) ?_;refine OD.nil ?_;refine aJ S ?_;refine⟨?_,rfl⟩;first|(rw[vB w4 h0 s5])|(rw[ud w4 h0])
  refine dw 2 ?_;refine OD.wk (Wk.dN (n:=19) (l':=[(0,_),(1,_),(7,_),(8,_)]) (S':=S) rfl mv fb) ?_;refine OD.nil ?_;refine⟨k+1,_,cz,aM,w4,(by rw[take_succ_eq_append_getElem w4];intro x hx;rcases mem_append.1 hx with hx|hx;exact h0 x hx;simp only[mem_singleton] at hx;subst hx;assumption),rfl⟩
 refine aC 1 ?_;refine OD.wk (Wk.dN (n:=19) (l':=[(4,_)]) (S':=S) rfl mv fb) ?_;refine OD.nil ?_;refine aJ S ?_;refine⟨?_,rfl⟩;first|(rw[vB w4 h0 s5])|(rw[ud w4 h0])
theorem qx(l:List aT)(hl:l.length≤1000)(nm:ByteArray):VP Tryz.prog G 38 [.list 5 ((l).flatMap dG) (l).length,.v (.string nm)] (.v (.int .i64 (bq l nm))):=by
 refine VC.body func38 rfl ntmps38 aO fun X0 w0 aX=>?_;refine bX ?_;refine OD.box (ds:=[_]) an rfl rfl ot rfl rfl (fun b3=>?_);refine aj 8 [0,3] ?_;refine aC 1 ?_;refine bJ (oO (ds:=[_]) rfl ⟨ot,trivial⟩) ?_;refine OD.call an rfl rfl rfl call61 (ZW l 62 [.v (.pointer (some ⟨b3,0,none⟩))] _ (fun t=>t.nm.toList==nm.toList) call62 (fun h _=>abu h nm b3) w4) ⟨ot,ot,trivial⟩ (jU (k:=0) rfl) ?_;rintro _ S2 ⟨rfl,ig⟩;rw[ig];clear ig;refine aj 8 [4] ?_;exact z51
theorem abv(c:cu)(nm:ByteArray)(b:Nat):VC Tryz.prog G 120 [.agg (cC c),.v (.pointer (some ⟨b,0,none⟩))] [⟨b,9,1,[.v (.string nm)]⟩] (fun r S=>r = .v (.bool (c.n.toList==nm.toList))∧S=[⟨b,9,1,[.v (.string nm)]⟩]):=by
 refine VC.body func120 rfl ntmps120 aO fun X0 w0 aX=>?_;exact z138
theorem Hy(t:aT)(hl:t.av.length≤1000)(nm:ByteArray):VP Tryz.prog G 86 [.agg (dG t),.v (.string nm)] (.v (.int .i64 (bN t.av nm))):=by
 refine VC.body func86 rfl ntmps86 aO fun X0 w0 aX=>?_;unfold dG;refine bX ?_;refine OD.box (ds:=[_,_,_,_,_]) an rfl rfl ot rfl rfl (fun b2=>?_);refine OD.box (ds:=[_]) an rfl rfl ot rfl rfl (fun b3=>?_);refine aj 9 [2,3] ?_;refine aC 2 ?_;refine bJ (oO (ds:=[_]) rfl ⟨ot,trivial⟩) ?_;refine OD.call an rfl rfl rfl call119 (Pc.HN t.av 120 [.v (.pointer (some ⟨b3,0,none⟩))] _ (fun c=>c.n.toList==nm.toList) call120 (fun h _=>abv h nm b3) w4) ⟨ot,ot,trivial⟩ (jU (k:=0) rfl) ?_;rintro _ S2 ⟨rfl,ig⟩;rw[ig];clear ig;refine aj 9 [4] ?_;exact z51

end Go.Proofs.YtbcmjoaggammcaaGreatDoor.Ba
namespace Go.Proofs.YtbcmjoaggammcaaGreatDoor.Ba
open List
open Go.Proofs.Tryz
open Go.RowKit V Pk Tr Vl Go.Proofs.YtbcmjoaggammcaaGreatDoor.Nm Pc Cd Ex Tw
variable {G:List (Nat×List Value)} {m:Int}
variable {S:List ag} {t:aT} {n:Nat} {p:List Int×Int}
def BW(k:K)(r:D)(S:List ag):Prop:=∃ad cap,r = .v (.slice ad k.length cap)∧bu 5 1 (k.flatMap cB) k.length ad cap S
theorem BW.view{k:K}{r:D}(h:BW k r S):View S r (.list 1 (k.flatMap cB) k.length):=by
 obtain⟨ad,cap,rfl,ho⟩:=h;exact kY ho (cl oU _) (fun B h=>h)
theorem BW.flat{k:K}{r:D}(h:BW k r S):kr r=true∧∀B∈S,∀d∈B.cs,kr d=true:=by
 obtain⟨ad,cap,rfl,ho⟩:=h;refine⟨rfl,fun B E d hd=>?_⟩;rcases ho with ⟨_,_,_,_,rfl⟩|⟨b,_,_,_,rfl⟩
 ·cases E
 rw[mem_singleton] at E;subst E;obtain⟨n,_,hn⟩:=mem_flatMap.1 hd;rw[cB,mem_singleton] at hn;subst hn;rfl
theorem Jl(hG:(1,[Value.int .i64 m])∈G)(r:List Vl)(h1:1≤r.length)(h2:r.length≤1000000)(aR:∀v∈r,v.Ok):VC Tryz.prog G 66 [.list 3 (r.flatMap cV) r.length] [] (BW (dj r)):=by
 refine VC.body func66 rfl ntmps66 aO fun X0 w0 aX=>?_;have dr:maxLen=9223372036854775807:=rfl;refine ae [0] ?_;refine aC 1 ?_;refine bJ (ek (h:=1) rfl ot trivial ⟨_,bC⟩ (by exact n9 eS (fun h=>by cases h) runUnderlying27 sizeOf30 w4)) ?_;refine OD.call an rfl rfl rfl call13 (Ss hG (r.take 1) ox (fun v U=>aR v (mem_of_mem_take U))) ⟨ot,trivial⟩ (eH _) ?_;rintro _ O ⟨E,I,rfl,jE⟩;refine OD.perm (Perm.of_eq (append_nil O)) ?_;refine aj 12 [3] ?_;refine ae [2] ?_;refine aJ O ?_;exact⟨E,I,rfl,jE⟩
theorem yw(hG:(1,[Value.int .i64 m])∈G)(r:List Vl)(h1:1≤r.length)(h2:r.length≤1000000)(aR:∀v∈r,v.Ok):VP Tryz.prog G 66 [.list 3 (r.flatMap cV) r.length] (.list 1 ((dj r).flatMap cB) (dj r).length):=(Jl hG r h1 h2 aR).cover fun r S hr=>hr.view
theorem Yy:(Tryz.prog.info? 30).map (fun i=>(i.zero,i.size,i.bytes))=some (some (.agg #[.int .i64 0,.int .i64 0,.string ⟨#[]⟩]),3,32):=by kernel_rfl
theorem OI(a:List Vl)(ha:a.length≤1000000):VC Tryz.prog G 39 [.list 3 (a.flatMap cV) a.length] [] (fun r S=>∃ad cap,r = .v (.slice ad a.length cap)∧bu 30 3 (a.flatMap cV) a.length ad cap S):=by
 refine VC.body func39 rfl ntmps39 aO fun X0 w0 aX=>?_;have dr:maxLen=9223372036854775807:=rfl;refine ae [0] ?_;refine aC 1 ?_;refine OD.yD an rfl rfl ot bC underlying27 (fun O wX=>?_);refine aj 8 [0,4] ?_;refine aq (fun az aG=>?_) (fun az aG=>?_)
 ·exact F7
 refine bX ?_;refine OD.yE an rfl rfl runUnderlying27 sizeOf30 (fun b5=>?_);refine aD 1 ?_;refine OD.oN (ls:=([]:List Vl)) (new:=a) (Sq:=[⟨b5,30,0*3,[]⟩]) eS EF an rfl rfl underlying27 Yy rfl w7 runUnderlying27 sizeOf30 ot (.inr ⟨b5,rfl,Nat.le_refl _,Nat.zero_le _,rfl⟩) (dB (A:=[])) ot gM gM (fun E I S7 py=>?_);exact F9
theorem ZX(a:List Vl)(ha:a.length≤1000000):VP Tryz.prog G 39 [.list 3 (a.flatMap cV) a.length] (.list 3 (a.flatMap cV) a.length):=(OI a ha).cover fun r S ⟨ad,cap,h,ho⟩=>by subst h;exact kY ho (cl eS _) (fun B h=>h)
theorem XX:(Tryz.prog.info? 111).map (fun i=>(i.zero,i.size,i.bytes))=some (some (.agg #[.string ⟨#[]⟩,.int .i64 0]),2,24):=by kernel_rfl
theorem ZY(a:List cu)(ha:a.length≤1000000):VC Tryz.prog G 82 [.list 2 (a.flatMap cC) a.length] [] (fun r S=>∃ad cap,r = .v (.slice ad a.length cap)∧bu 111 2 (a.flatMap cC) a.length ad cap S):=by
 refine VC.body func82 rfl ntmps82 aO fun X0 w0 aX=>?_;have dr:maxLen=9223372036854775807:=rfl;refine ae [0] ?_;refine aC 1 ?_;refine OD.yD an rfl rfl ot bC underlying38 (fun O wX=>?_);refine aj 8 [0,4] ?_;refine aq (fun az aG=>?_) (fun az aG=>?_)
 ·exact F7
 refine bX ?_;refine OD.yE an rfl rfl runUnderlying38 sizeOf111 (fun b5=>?_);refine aD 1 ?_;refine OD.oN (ls:=([]:List cu)) (new:=a) (Sq:=[⟨b5,111,0*2,[]⟩]) kZ aej an rfl rfl underlying38 XX rfl w7 runUnderlying38 sizeOf111 ot (.inr ⟨b5,rfl,Nat.le_refl _,Nat.zero_le _,rfl⟩) (dB (A:=[])) ot gM gM (fun E I S7 py=>?_);exact F9
theorem OJ(a:List cu)(ha:a.length≤1000000):VP Tryz.prog G 82 [.list 2 (a.flatMap cC) a.length] (.list 2 (a.flatMap cC) a.length):=(ZY a ha).cover fun r S ⟨ad,cap,h,ho⟩=>by subst h;exact kY ho (cl kZ _) (fun B h=>h)
theorem ZZ(a:List Int)(ha:a.length≤1000000):VP Tryz.prog G 114 [.list 1 (a.flatMap Tw.cI) a.length] (.list 1 (a.flatMap Tw.cI) a.length):=(Tw.nC a ha).cover fun r S ⟨ad,cap,h,ho⟩=>by subst h;exact kY ho (cl Tw.ev _) (fun B h=>h)

structure cf where
 r:List Vl
 ad:Option Addr
 cap:Nat
 S:List ag
def gR(o:cf):List D:=[.v (.slice o.ad o.r.length o.cap)]
theorem uA(o:cf):(gR o).length=1:=rfl
theorem SN(o:cf):(gR o).all V.one=true:=rfl
def bR(o:cf):List ag:=o.S
def nA(o:cf):Prop:=bu 30 3 (o.r.flatMap cV) o.r.length o.ad o.cap o.S
theorem Ez{S:List ag}:∀{L:List cf},(∀o∈L,nA o)→(∀B∈L.flatMap bR,B∈S)→gi S (L.flatMap gR) ((L.map cf.r).flatMap gY)
 | [],_,_=>trivial
 | o::L,h,hs=>by
  rw[map_cons,flatMap_cons,flatMap_cons];refine gi.append ⟨kY (h o mem_cons_self) (cl eS _) (fun B E=>hs B ?_),trivial⟩ (Ez (fun o ho=>h o (mem_cons_of_mem _ ho)) fun B E=>hs B ?_)
  ·rw[flatMap_cons];exact mem_append_left _ E
  rw[flatMap_cons];exact mem_append_right _ E
abbrev rS(L:List cf)(ad:Option Addr)(cap:Nat)(S:List ag):Prop:=bu 27 1 (L.flatMap gR) L.length ad cap S
structure aQ where
 t:aT
 cs:List D
 ad:Option Addr
 cap:Nat
 sr:List ag
 sx:List ag
variable {o:aQ}
def gT(o:aQ):List D:=[.v (.string o.t.nm),.list 2 (o.t.av.flatMap cC) o.t.av.length,.v (.slice o.ad o.t.rows.length o.cap),.list 5 (o.t.ix.af.flatMap cP) o.t.ix.af.length,.v (.int .i64 o.t.ix.root)]
theorem uu(o:aQ):(gT o).length=5:=rfl
theorem SO(o:aQ):(gT o).all V.one=true:=rfl
def bT(o:aQ):List ag:=o.sr++o.sx
structure okW (o:aQ):Prop where
 own:bu 27 1 o.cs o.t.rows.length o.ad o.cap o.sr
 af2:∀S:List ag,(∀B∈o.sx,B∈S)→gi S o.cs (o.t.rows.flatMap gY)
def qq(o:aQ):Prop:=∃L:List cf,o.cs=L.flatMap gR∧o.sx=L.flatMap bR∧(∀x∈L,nA x)∧L.map cf.r=o.t.rows∧rS L o.ad o.cap o.sr
theorem qq.w(h:qq o):okW o:=by
 obtain⟨L,h1,h2,h3,h4,h5⟩:=h;refine⟨?_,fun S hS=>?_⟩
 ·rw[h1,←h4,length_map];exact h5
 rw[h1,←h4];exact Ez h3 (by rw[←h2];exact hS)
theorem OK(h:okW o)(hs:∀B∈bT o,B∈S):View S (.v (.slice o.ad o.t.rows.length o.cap)) (.list 1 (o.t.rows.flatMap gY) o.t.rows.length) :=
 An h.own (h.af2 S fun B E=>hs B (mem_append_right _ E)) (cl kL _) (fun B E=>hs B (mem_append_left _ E))
theorem Rz(h:okW o)(hs:∀B∈bT o,B∈S):View S (.agg (gT o)) (.agg (dG o.t)):=uh ⟨eM,eM,OK h hs,eM,eM,trivial⟩
theorem RA{S:List ag}:∀{L:List aQ},(∀o∈L,okW o)→(∀B∈L.flatMap bT,B∈S)→gi S (L.flatMap gT) ((L.map aQ.t).flatMap dG)
 | [],_,_=>trivial
 | o::L,h,hs=>by
  rw[map_cons,flatMap_cons,flatMap_cons];refine gi.append ⟨eM,eM,OK (h o mem_cons_self) (fun B E=>hs B ?_),eM,eM,trivial⟩ (RA (fun o ho=>h o (mem_cons_of_mem _ ho)) fun B E=>hs B ?_)
  ·rw[flatMap_cons];exact mem_append_left _ E
  rw[flatMap_cons];exact mem_append_right _ E
abbrev zh(L:List aQ)(ad:Option Addr)(cap:Nat)(S:List ag):Prop:=bu 48 5 (L.flatMap gT) L.length ad cap S
theorem EQ{Sx:List ag}{L:List aQ}{ad:Option Addr}{cap:Nat}(ho:zh L ad cap Sx)(h:∀o∈L,okW o)(hs:∀B∈Sx++L.flatMap bT,B∈S):View S (.v (.slice ad L.length cap)) (.list 5 ((L.map aQ.t).flatMap dG) L.length) :=
 An ho (RA h fun B E=>hs B (mem_append_right _ E)) (by rw[cl jL,length_map]) (fun B E=>hs B (mem_append_left _ E))
def af3(t:aT)(r:D)(S:List ag):Prop:=∃o:aQ,o.t=t∧r = .agg (gT o)∧qq o∧S=bT o
def JU(l:List aT)(r:D)(S:List ag):Prop:=∃(L:List aQ) (ad:Option Addr) (cap:Nat) (Sx:List ag),r = .agg [.v (.slice ad L.length cap)]∧zh L ad cap Sx∧(∀o∈L,qq o)∧L.map aQ.t=l∧S=Sx++L.flatMap bT
theorem JU.view{l:List aT}{r:D}(h:JU l r S):View S r (.agg [.list 5 (l.flatMap dG) l.length]):=by
 obtain⟨L,ad,cap,Sx,rfl,ho,aR,rfl,rfl⟩:=h;rw[length_map];exact uh ⟨EQ ho (fun o h=>(aR o h).w) (fun B h=>h),trivial⟩
theorem RB(L:List cf)(o:cf):(L++[o]).flatMap bR=L.flatMap bR++bR o:=by simp
theorem RC(L:List aQ)(o:aQ):(L++[o]).flatMap bT=L.flatMap bT++bT o:=by simp
theorem Yz:(Tryz.prog.info? 49).map (fun i=>(i.zero,i.size,i.bytes))=some (some (.slice none 0 0),1,24):=by kernel_rfl
theorem YA:(Tryz.prog.info? 93).map (fun i=>(i.zero,i.size,i.bytes))=some (some (.agg #[.bool false,.slice none 0 0,.slice none 0 0,.slice none 0 0,.int .i64 0]),5,88):=by kernel_rfl
theorem YB(t:aE)(h:Nat)(v:Valid t h):VC Tryz.prog G 83 [.agg (cT t)] [] (fun r S=>∃ad cap,r = .agg [.v (.slice ad t.af.length cap),.v (.int .i64 t.root)]∧bu 93 5 (t.af.flatMap cP) t.af.length ad cap S):=by
 refine VC.body func83 rfl ntmps83 aO fun X0 w0 aX=>?_;unfold Tw.cT;have dr:maxLen=9223372036854775807:=rfl;have MD:=v.mQ;refine bX ?_;refine OD.box (ds:=[_,_]) an rfl rfl ot rfl rfl (fun b1=>?_);refine OD.alloc (ds:=[_,_]) an rfl rfl zeroValue46 rfl (fun b2=>?_);refine aj 53 [1,2] ?_;refine aC 3 ?_;refine OD.alloc (ds:=[_,_]) an rfl rfl zeroValue46 rfl (fun b3=>?_);refine aN 0 [_,_] sizeOf46 ?_;refine aj 53 [1,2,3] ?_;refine bX ?_;refine aZ [2,3,13,14,15] ?_;refine eI [2,3,13,14] (fun aV _ (E:Nat×List cQ×Option Addr×Nat×List ag) aK=>match E with|(i,L,dS,dD,Sx)=>(i≤t.af.length)∧(L=t.af.take i)∧(bu 93 5 ((L).flatMap cP) (L).length dS dD Sx)∧aK=(⟨53,(15,.v (.int .i64 (i:Nat)))::aV,(⟨b3,46,2,[.v (.slice dS (L).length dD),.v (.int .i64 t.root)]⟩::⟨b2,46,2,[.v (.slice none 0 0),.v (.int .i64 0)]⟩::Sx)⟩:St)) (fun (E:Nat×List cQ×Option Addr×Nat×List ag)=>match E with|(i,L,dS,dD,Sx)=>t.af.length-i) (0,([]:List cQ),none,0,[]) ⟨(Nat.zero_le _),rfl,(bu.cast iA lu),rfl⟩ ?_;rintro⟨i,L,dS,dD,Sx⟩ _ ⟨hi,hL,ee,rfl⟩;refine ae [2,3,13,14,15,16] ?_;refine aq (fun az aG=>?_) (fun az aG=>?_)
 ·have aa:i<t.af.length:=(by omega)
  have q9:L.length=i:=(by rw[hL,length_take];omega)
  have po:=v.page _ (getElem_mem aa);have mR:=po.eL;have WJ:=po.hlen;have E7:(t.af[i]'aa).kids.length≤6:=by
      exact VK
  refine aC 2 ?_;refine OD.alloc (ds:=[_,_,_,_,_]) an rfl rfl zeroValue93 rfl (fun b5=>?_);refine aN 0 [_,_,_,_,_] sizeOf93 ?_;refine aj 53 [2,3,5,13,14,15] ?_;refine CD.seq ?_;refine tJ 12 11 [2,3,5,6,13,14,15,29] ?_;refine cU (ZZ (t.af[i]'aa).kids w4) ?_;refine cU (jK (t.af[i]'aa).high w4) ?_;refine mW 3 ?_;refine qV ?_;refine jP ?_;refine⟨rfl,fun b6=>?_⟩;refine aN 0 [_,_,_,_,_] sizeOf93 ?_;refine aj 53 [2,3,5,6,13,14,15] ?_;refine bX ?_;refine aZ [2,3,6,13,14,15,31,32,33] ?_
  refine eI [2,3,6,13,14,15,31,32] (fun aV _ (E:Nat×List K×Option Addr×Nat×List ag×Option Addr×Nat×List ag) aK=>match E with|(j,M,hU,ic,Sy,dS,dD,Sx)=>(j≤(t.af[i]'aa).keys.length)∧(M=(t.af[i]'aa).keys.take j)∧(bu 49 1 ((M).flatMap Tw.cK) (M).length hU ic Sy)∧(bu 93 5 ((L).flatMap cP) (L).length dS dD Sx)∧aK=(⟨53,(33,.v (.int .i64 (j:Nat)))::aV,(⟨b6,93,5,[.v (.bool (t.af[i]'aa).leaf),.v (.slice hU (M).length ic),.list 1 ((t.af[i]'aa).kids.flatMap Tw.cI) (t.af[i]'aa).kids.length,.list 1 ((t.af[i]'aa).high.flatMap cB) (t.af[i]'aa).high.length,.v (.int .i64 (t.af[i]'aa).next)]⟩::⟨b3,46,2,[.v (.slice dS L.length dD),.v (.int .i64 t.root)]⟩::⟨b2,46,2,[.v (.slice none 0 0),.v (.int .i64 0)]⟩::(Sy++Sx))⟩:St)) (fun (E:Nat×List K×Option Addr×Nat×List ag×Option Addr×Nat×List ag)=>match E with|(j,M,hU,ic,Sy,dS,dD,Sx)=>(t.af[i]'aa).keys.length-j) (0,([]:List K),none,0,[],dS,dD,Sx) ⟨(Nat.zero_le _),rfl,(bu.cast iA lu),(bu.cast ee lu),rfl⟩ ?_;rintro⟨j,M,hU,ic,Sy,dS,dD,Sx⟩ _ ⟨hj,hM,Di,ee,rfl⟩;refine ae [2,3,6,13,14,15,31,32,33,34] ?_;refine aq (fun aH aU=>?_) (fun aH aU=>?_)
  ·have lF:j<(t.af[i]'aa).keys.length:=(by omega)
   have KH:=(po.kP _ (getElem_mem lF)).2;have wN:M.length=j:=(by rw[hM,length_take];omega)
   refine ae [2,3,6,8,13,14,15,31,32,33] ?_;refine fE 6 (ap (take 3 _)) ?_ (fun _ h=>(Sublist.map _ (take_sublist _ _)).subset h);refine ax 0 rfl (cX 1) ?_;refine ax 1 rfl (dx 0) ?_;refine ax 2 rfl bg ?_;refine dg.later rfl ?_;refine AD.one (i:=3) ay ?_;refine jt call59 (jK (t.af[i]'aa).keys[j] w4) ?_;refine AD.one (i:=4) ay ?_;refine je (bZ 0 [_]) [.slice none 0 0] [_] zeroValue49 runUnderlying90 sizeOf49 (fun vg=>?_);refine jf 0 41 1 1 ?_;refine AD.one (i:=5) ay ?_;refine bf.en (ls:=(M)) (new:=[(t.af[i]'aa).keys[j]]) (Sq:=Sy) Tw.fW Tw.oW rfl an rfl rfl underlying90 Yz rfl w7 ot Di (n8 (A:=[_,_,_])) ot bw u7 gM (fun U I aiB aiC=>?_);refine AD.perm (iU (S1:=[⟨U,49,I*1,flatMap Tw.cK ((M)++[(t.af[i]'aa).keys[j]])⟩]) (A:=[_,_,_])) ?_;refine ey ?_;refine aD 1 ?_;refine aN 0 [_,_,_,_,_] sizeOf90 ?_;refine aj 53 [2,3,6,13,14,15,31,32,33] ?_;refine sy ?_;refine aZ [2,3,6,13,14,15,31,32,33] ?_;refine⟨((j+1),(M++[(t.af[i]'aa).keys[j]]),(some ⟨U,0,none⟩),I,[⟨U,49,I*1,flatMap Tw.cK ((M)++[(t.af[i]'aa).keys[j]])⟩],dS,dD,Sx),_,cz,aM,w4,(by rw[hM];exact pJ lF),(bu.cast (bD aiB aiC) lu),(bu.cast ee lu),rfl⟩
  refine CD.exit ?_;have hMk:M=(t.af[i]'aa).keys:=(by rw[hM,take_of_length_le w4])
  subst hMk;refine CD.HL (i:=1) (j:=0) (Sq:=Sy) (S':=⟨b6,93,5,[.v (.bool (t.af[i]'aa).leaf),.list 1 ((t.af[i]'aa).keys.flatMap Tw.cK) (t.af[i]'aa).keys.length,.list 1 ((t.af[i]'aa).kids.flatMap Tw.cI) (t.af[i]'aa).kids.length,.list 1 ((t.af[i]'aa).high.flatMap cB) (t.af[i]'aa).high.length,.v (.int .i64 (t.af[i]'aa).next)]⟩::⟨b3,46,2,[.v (.slice dS L.length dD),.v (.int .i64 t.root)]⟩::⟨b2,46,2,[.v (.slice none 0 0),.v (.int .i64 0)]⟩::Sx) Di (cl Tw.fW _) (n8 (A:=[_,_,_])) rfl rfl rfl rfl ?_;refine dw 3 ?_;refine ei (bZ 0 [_]) [.bool false,.slice none 0 0,.slice none 0 0,.slice none 0 0,.int .i64 0] [_,_,_,_,_] zeroValue93 runUnderlying44 sizeOf93 (fun MS=>?_);refine fG 0 48 5 1 ?_;refine OD.en (ls:=(L)) (new:=[(t.af[i]'aa)]) (Sq:=Sx) EO aew an rfl rfl underlying44 YA rfl w7 ot ee (dB (A:=[_,_,_])) ot bw nu nv (fun Z O aiD aiE=>?_);refine OD.perm (dY (S1:=[⟨Z,93,O*5,flatMap cP ((L)++[(t.af[i]'aa)])⟩]) (A:=[_,_,_])) ?_;refine aD 1 ?_;refine aN 1 [_,_] sizeOf44 ?_;refine aj 53 [2,3,13,14,15] ?_;refine cj [2,3,13,14,15] ?_;refine⟨((i+1),(L++[(t.af[i]'aa)]),(some ⟨Z,0,none⟩),O,[⟨Z,93,O*5,flatMap cP ((L)++[(t.af[i]'aa)])⟩]),_,cz,aM,w4,(by rw[hL];exact pJ aa),(bu.cast (bD aiD aiE) lu),rfl⟩
 refine aC 1 ?_;refine aN 1 [_,_] sizeOf46 ?_;refine aj 53 [2] ?_;refine aJ Sx ?_;have hLe:L=t.af:=(by rw[hL,take_of_length_le w4])
 subst hLe;exact⟨dS,dD,rfl,ee⟩
theorem YC(t:aE)(h:Nat)(v:Valid t h):VP Tryz.prog G 83 [.agg (cT t)] (.agg (cT t)):=(YB t h v).cover fun r S ⟨ad,cap,h,ho⟩=>by subst h;exact uh ⟨kY ho (cl EO _) (fun B h=>h),eM,trivial⟩
structure AZ (t:aT):Prop where
 av:t.av.length≤1000
 rows:t.rows.length≤1000
 row:∀r∈t.rows,r.length≤1000
 ix:∃h,Valid t.ix h
theorem YD:(Tryz.prog.info? 27).map (fun i=>(i.zero,i.size,i.bytes))=some (some (.slice none 0 0),1,24):=by kernel_rfl
theorem EP(t:aT)(hs:AZ t):VC Tryz.prog G 46 [.agg (dG t)] [] (af3 t):=by
 refine VC.body func46 rfl ntmps46 aO fun X0 w0 aX=>?_;unfold dG;have dr:maxLen=9223372036854775807:=rfl;have hc:=hs.av;have hn:=hs.rows;obtain⟨h,v⟩:=hs.ix;have U:=YC (G:=G) t.ix h v;unfold Tw.cT at U;refine bX ?_;refine OD.box (ds:=[_,_,_,_,_]) an rfl rfl ot rfl rfl (fun b1=>?_);refine OD.alloc (ds:=[_,_,_,_,_]) an rfl rfl zeroValue48 rfl (fun b2=>?_);refine aj 31 [1,2] ?_;refine CD.seq ?_;refine tJ 10 9 [1,2,3,14] ?_;refine cU (OJ t.av w4) ?_;refine cU (U) ?_;refine mW 1 ?_;refine qV ?_;refine jP ?_;refine⟨rfl,fun b3=>?_⟩;refine aN 0 [_,_,_,_,_] sizeOf48 ?_;refine aj 31 [1,2,3] ?_;refine ae [2,3,16,17,18] ?_;refine eI [2,3,16,17] (fun aV _ (I:Nat×List cf×Option Addr×Nat×List ag) aK=>match I with|(i,L,dS,dD,Sx)=>(i≤t.rows.length)∧(L.map cf.r=t.rows.take i)∧(∀o∈L,nA o)∧(rS L dS dD Sx)∧aK=(⟨31,(18,.v (.int .i64 (i:Nat)))::aV,(⟨b3,48,5,[.v (.string t.nm),.list 2 (t.av.flatMap cC) t.av.length,.v (.slice dS L.length dD),.list 5 (t.ix.af.flatMap cP) t.ix.af.length,.v (.int .i64 t.ix.root)]⟩::⟨b2,48,5,[.v (.string ⟨#[]⟩),.v (.slice none 0 0),.v (.slice none 0 0),.v (.slice none 0 0),.v (.int .i64 0)]⟩::(Sx++L.flatMap bR))⟩:St)) (fun (I:Nat×List cf×Option Addr×Nat×List ag)=>match I with|(i,L,dS,dD,Sx)=>t.rows.length-i) (0,([]:List cf),none,0,[]) ⟨(Nat.zero_le _),rfl,(fun o h=>by cases h),iA,rfl⟩ ?_;rintro⟨i,L,dS,dD,Sx⟩ _ ⟨hi,hL,aR,ee,rfl⟩
 refine ae [2,3,16,17,18,19] ?_;refine aq (fun az aG=>?_) (fun az aG=>?_)
 ·have aa:i<t.rows.length:=(by omega)
  have q9:L.length=i:=(by have:=congrArg length hL;rw[length_map,length_take] at this;omega)
  have q8:=hs.row _ (getElem_mem aa);refine ae [2,3,5,16,17,18] ?_;refine fE 6 (ap (take 2 _)) ?_ (fun _ h=>(Sublist.map _ (take_sublist _ _)).subset h);refine ax 0 rfl (cX 2) ?_;refine ax 1 rfl (dx 0) ?_;refine ax 2 rfl bg ?_;refine dg.later rfl ?_;refine AD.one (i:=3) ay ?_;refine bf.call rfl an rfl rfl rfl call39 (OI (t.rows[i]'aa) w4) ⟨ot,trivial⟩ (eH _) (fun b hb=>by simp[ap,St.put] at hb ⊢;first|(simp[hb];done)|(rcases hb with hb|hb<;>simp[hb])|(rcases hb with hb|hb|hb<;>simp[hb])) ?_;rintro _ Sz ⟨lB,lC,rfl,xF⟩;refine AD.perm (iU (A:=[_,_])) ?_;have ve:(L++[(⟨(t.rows[i]'aa),lB,lC,Sz⟩:cf)]).map cf.r=t.rows.take (i+1):=(by rw[map_append,hL];exact pJ aa)
  have jE:∀o∈L++[(⟨(t.rows[i]'aa),lB,lC,Sz⟩:cf)],nA o:=fun o ho=>by rcases mem_append.1 ho with ho|ho;exact aR o ho;rw[mem_singleton] at ho;subst ho;exact xF
  refine AD.one (i:=4) ay ?_;refine je (bZ 0 [_]) [.slice none 0 0] [_] zeroValue27 runUnderlying33 sizeOf27 (fun b26=>?_);refine jf 0 26 1 1 ?_;refine AD.one (i:=5) ay ?_;refine bf.en (ls:=L) (new:=[(⟨(t.rows[i]'aa),lB,lC,Sz⟩:cf)]) (Sq:=Sx) uA SN rfl an rfl rfl underlying33 YD rfl w7 ot ee (sG (A:=[_,_])) ot bw nu nv (fun O E Z aiF=>?_);refine AD.perm (vE (S2:=[⟨O,27,E*1,flatMap gR (L++[(⟨(t.rows[i]'aa),lB,lC,Sz⟩:cf)])⟩]) (A:=[_,_])) ?_;refine AD.perm (S':=⟨b3,48,5,[.v (.string t.nm),.list 2 (t.av.flatMap cC) t.av.length,.v (.slice dS L.length dD),.list 5 (t.ix.af.flatMap cP) t.ix.af.length,.v (.int .i64 t.ix.root)]⟩::⟨b2,48,5,[.v (.string ⟨#[]⟩),.v (.slice none 0 0),.v (.slice none 0 0),.v (.slice none 0 0),.v (.int .i64 0)]⟩::([⟨O,27,E*1,flatMap gR (L++[(⟨(t.rows[i]'aa),lB,lC,Sz⟩:cf)])⟩]++(L++[(⟨(t.rows[i]'aa),lB,lC,Sz⟩:cf)]).flatMap bR)) (ik fun iQ=>by rw[RB];simp only[bR,map_append,map_cons,map_nil,sum_append,sum_cons,sum_nil];omega) ?_;refine ey ?_;refine aD 1 ?_;refine aN 0 [_,_,_,_,_] sizeOf33 ?_;refine aj 31 [2,3,16,17,18] ?_;refine cj [2,3,16,17,18] ?_;refine⟨((i+1),(L++[(⟨(t.rows[i]'aa),lB,lC,Sz⟩:cf)]),(some ⟨O,0,none⟩),E,[⟨O,27,E*1,flatMap gR (L++[(⟨(t.rows[i]'aa),lB,lC,Sz⟩:cf)])⟩]),_,cz,aM,w4,ve,jE,(bD Z aiF),rfl⟩
 refine aC 1 ?_;refine aN 1 [_,_,_,_,_] sizeOf48 ?_;refine aj 31 [2] ?_;refine aJ (Sx++L.flatMap bR) ?_;have uc:L.map cf.r=t.rows:=(by rw[hL,take_of_length_le w4])
 have hLn:t.rows.length=L.length:=(by rw[←uc,length_map])
 exact⟨⟨t,L.flatMap gR,dS,dD,Sx,L.flatMap bR⟩,rfl,(by unfold gT;rw[hLn]),⟨L,rfl,rfl,aR,uc,ee⟩,rfl⟩
theorem YE:(Tryz.prog.info? 48).map (fun i=>(i.zero,i.size,i.bytes))=some (some (.agg #[.string ⟨#[]⟩,.slice none 0 0,.slice none 0 0,.slice none 0 0,.int .i64 0]),5,96):=by kernel_rfl
theorem OL(l:List aT)(hl:l.length≤1000)(H:∀t∈l,AZ t):VC Tryz.prog G 28 [.agg [.list 5 (l.flatMap dG) l.length]] [] (JU l):=by
 refine VC.body func28 rfl ntmps28 aO fun X0 w0 aX=>?_;have dr:maxLen=9223372036854775807:=rfl;refine bX ?_;refine OD.box (ds:=[_]) an rfl rfl ot rfl rfl (fun b1=>?_);refine OD.alloc (ds:=[_]) an rfl rfl zeroValue25 rfl (fun b2=>?_);refine aj 22 [1,2] ?_;refine bX ?_;refine OD.alloc (ds:=[_]) an rfl rfl zeroValue25 rfl (fun b3=>?_);refine aj 22 [1,2,3] ?_;refine ae [2,3,7,8,9] ?_;refine eI [2,3,7,8] (fun aV _ (I:Nat×List aQ×Option Addr×Nat×List ag) aK=>match I with|(i,L,dS,dD,Sx)=>(i≤l.length)∧(L.map aQ.t=l.take i)∧(∀o∈L,qq o)∧(zh L dS dD Sx)∧aK=(⟨22,(9,.v (.int .i64 (i:Nat)))::aV,(⟨b3,25,1,[.v (.slice dS L.length dD)]⟩::⟨b2,25,1,[.v (.slice none 0 0)]⟩::(Sx++L.flatMap bT))⟩:St)) (fun (I:Nat×List aQ×Option Addr×Nat×List ag)=>match I with|(i,L,dS,dD,Sx)=>l.length-i) (0,([]:List aQ),none,0,[]) ⟨(Nat.zero_le _),rfl,(fun o h=>by cases h),iA,rfl⟩ ?_;rintro⟨i,L,dS,dD,Sx⟩ _ ⟨hi,hL,aR,ee,rfl⟩;refine ae [2,3,7,8,9,10] ?_;refine aq (fun az aG=>?_) (fun az aG=>?_)
 ·have aa:i<l.length:=(by omega)
  have q9:L.length=i:=(by have:=congrArg length hL;rw[length_map,length_take] at this;omega)
  refine aC 2 ?_;refine OD.alloc (ds:=[_,_,_,_,_]) an rfl rfl zeroValue48 rfl (fun b5=>?_);refine aN 0 [_,_,_,_,_] sizeOf48 ?_;refine aj 22 [2,3,5,7,8,9] ?_;refine fE 6 (ap (take 3 _)) ?_ (fun _ h=>(Sublist.map _ (take_sublist _ _)).subset h);refine ax 0 rfl (cX 0) ?_;refine ax 1 rfl (dx 1) ?_;refine ax 2 rfl (cH (mk:=Op.load 48) rfl ot (by first|exact pO (k:=0) (ds:=[_,_,_,_,_]) rfl rfl isAgg48 sizeOf48 rfl rfl|exact jM jL isAgg48 sizeOf48 w5|exact jM uu isAgg48 sizeOf48 w5|exact dK (k:=0) jL rfl rfl rfl isAgg48 sizeOf48 w5|exact dK (k:=1) jL rfl rfl rfl isAgg48 sizeOf48 w5|exact dK (k:=2) jL rfl rfl rfl isAgg48 sizeOf48 w5|exact dK (k:=0) uu rfl rfl rfl isAgg48 sizeOf48 w5|exact dK (k:=1) uu rfl rfl rfl isAgg48 sizeOf48 w5|exact dK (k:=2) uu rfl rfl rfl isAgg48 sizeOf48 w5|exact pT (ds:=[_,_,_,_,_]) isAgg48 sizeOf48 rfl rfl)) ?_;refine dg.later rfl ?_;refine AD.one (i:=3) ay ?_;refine bf.call rfl an rfl rfl rfl call46 (EP (l[i]'aa) (H _ (getElem_mem aa))) ⟨ot,trivial⟩ (eH _) (fun b hb=>by simp[ap,St.put] at hb ⊢;first|(simp[hb];done)|(rcases hb with hb|hb<;>simp[hb])|(rcases hb with hb|hb|hb<;>simp[hb])) ?_;rintro _ _ ⟨o,GF,rfl,CH,rfl⟩;refine AD.perm (iU (A:=[_,_,_])) ?_;have ve:(L++[o]).map aQ.t=l.take (i+1):=(by rw[map_append,hL,map_cons,map_nil,GF];exact pJ aa)
  have jE:∀x∈L++[o],qq x:=fun x hx=>by rcases mem_append.1 hx with hx|hx;exact aR x hx;rw[mem_singleton] at hx;subst hx;exact CH
  refine AD.one (i:=4) ay ?_;refine je (bZ 0 [_]) [.string ⟨#[]⟩,.slice none 0 0,.slice none 0 0,.slice none 0 0,.int .i64 0] [_,_,_,_,_] zeroValue48 runUnderlying23 sizeOf48 (fun b17=>?_);refine jf 0 17 5 1 ?_;refine AD.one (i:=5) ay ?_;refine bf.en (ls:=L) (new:=[o]) (Sq:=Sx) uu SO rfl an rfl rfl underlying23 YE rfl w7 ot ee (sG (A:=[_,_,_])) ot bw nu nv (fun O E U Z=>?_);refine AD.perm (vE (S2:=[⟨O,48,E*5,flatMap gT (L++[o])⟩]) (A:=[_,_,_])) ?_;have Wg:(bT o++(([⟨O,48,E*5,flatMap gT (L++[o])⟩]:List ag)++L.flatMap bT)).Perm (([⟨O,48,E*5,flatMap gT (L++[o])⟩]:List ag)++(L++[o]).flatMap bT):=(ik fun iQ=>by rw[RC];simp only[map_append,map_cons,map_nil,sum_append,sum_cons,sum_nil];omega)
  refine AD.perm (Perm.cons _ (Perm.cons _ (Perm.cons _ Wg))) ?_;refine ey ?_;refine aD 1 ?_;refine aN 1 [_] sizeOf23 ?_;refine aj 22 [2,3,7,8,9] ?_;refine cj [2,3,7,8,9] ?_;refine⟨((i+1),(L++[o]),(some ⟨O,0,none⟩),E,[⟨O,48,E*5,flatMap gT (L++[o])⟩]),_,cz,aM,w4,ve,jE,(bD U Z),rfl⟩
 refine aC 1 ?_;refine aN 1 [_] sizeOf25 ?_;refine aj 22 [2] ?_;refine aJ (Sx++L.flatMap bT) ?_;have uc:L.map aQ.t=l:=(by rw[hL,take_of_length_le w4])
 exact⟨L,dS,dD,Sx,rfl,ee,aR,uc,rfl⟩
theorem Z0(l:List aT)(hl:l.length≤1000)(H:∀t∈l,AZ t):VP Tryz.prog G 28 [.agg [.list 5 (l.flatMap dG) l.length]] (.agg [.list 5 (l.flatMap dG) l.length]):=(OL l hl H).cover fun r S hr=>hr.view

structure eW (t:aT) (n:Nat):Prop where
 nm:cJ t.nm=0
 av:t.av=dH
 eL:t.rows.length≤40
 ix:iv t.ix n
 row:∀i (h:i<t.rows.length),t.rows[i]≠[]→Pc.dW dH t.rows[i]=0∧(∀v∈t.rows[i],v.Ok)∧(dj t.rows[i],(i:Int))∈gE t.ix
 jm:∀x∈gE t.ix,0≤x.2∧∃h:x.2.toNat<t.rows.length,t.rows[x.2.toNat]≠[]∧x.1=dj t.rows[x.2.toNat]
theorem pY{r:List Vl}(h:Pc.dW dH r=0):r.length=4:=by
 unfold Pc.dW at h;rw[if_neg (by rw[yj];decide)] at h;split at h
 ·cases h
 rename_i h2;exact Decidable.not_not.1 h2
theorem eW.len(g:eW t n){r:List Vl}(hr:r∈t.rows):r=[]∨(r.length=4∧∀v∈r,v.Ok):=by
 obtain⟨i,hi,rfl⟩:=mem_iff_getElem.1 hr;rcases Classical.em (t.rows[i]=[]) with h|h
 ·exact .inl h
 exact .inr ⟨pY (g.row i hi h).1,(g.row i hi h).2.1⟩
theorem eW.small(g:eW t n):AZ t :=
 ⟨by rw[g.av];decide,Nat.le_trans g.eL w7,fun r hr=>by rcases g.len hr with h|h;rw[h];exact Nat.zero_le _;omega,_,g.ix.val⟩
def rowAt(t:aT)(i:Int):List Vl:=t.rows.getD i.toNat []
theorem jA{i:Int}(h:i.toNat<t.rows.length):rowAt t i=t.rows[i.toNat]:=by unfold rowAt;rw[getD_eq_getElem?_getD,getElem?_eq_getElem h];rfl
def mr(t:aT)(w:List aW):List Int→List (K×Int)→List Int×Int
 | acc,[]=>(acc,0)
 | acc,x::r=>if 0<w.length then (if (fh t.av (rowAt t x.2) w).2≠0 then ([],(fh t.av (rowAt t x.2) w).2) else if (fh t.av (rowAt t x.2) w).1.n≠1 then mr t w acc r else mr t w (acc++[x.2]) r) else mr t w (acc++[x.2]) r
noncomputable def au(t:aT)(w:List aW):List Int×Int:=if (iB t.av w).2≠0 then ([],(iB t.av w).2) else mr t w [] (oX t.ix (iB t.av w).1.1 (iB t.av w).1.2)
def BX(p:List Int×Int)(r:D)(S:List ag):Prop:=∃ad cap,r = .dz [.v (.slice ad p.1.length cap),.v (.int .i64 p.2)]∧bu 3 1 (p.1.flatMap Tw.cI) p.1.length ad cap S
theorem BX.view{r:D}(h:BX p r S):View S r (.dz [.list 1 (p.1.flatMap Tw.cI) p.1.length,.v (.int .i64 p.2)]):=by
 obtain⟨ad,cap,rfl,ho⟩:=h;exact D6 ⟨kY ho (cl Tw.ev _) (fun B h=>h),eM,trivial⟩
theorem BX.flat{r:D}(h:BX p r S):kr r=true∧∀B∈S,∀d∈B.cs,kr d=true:=by
 obtain⟨ad,cap,rfl,ho⟩:=h;refine⟨rfl,fun B E d hd=>?_⟩;rcases ho with ⟨_,_,_,_,rfl⟩|⟨b,_,_,_,rfl⟩
 ·cases E
 rw[mem_singleton] at E;subst E;obtain⟨n,_,hn⟩:=mem_flatMap.1 hd;rw[Tw.cI,mem_singleton] at hn;subst hn;rfl
theorem Eh{t:aE}{f u:K}:∀x∈oX t f u,x∈gE t:=fun x hx=>by
 unfold oX v8 at hx;have h1:=(takeWhile_sublist _).subset hx;unfold mN at h1;exact(mem_filter.1 h1).1
theorem abw{t:aE}(g:iv t n)(f u:K):(oX t f u).length≤16000:=by
 unfold oX v8;exact Nat.le_trans (takeWhile_sublist _).length_le (Qb g.val f)
theorem RD(l:List Vl):(fX l).1.length≤100:=by
 unfold fX;repeat' split
 all_goals first|exact Nat.zero_le _|(simp only;omega)
def Sm(b:kK):Prop:=b.1.length≤100∧b.2.length≤100
theorem RE{key:ByteArray}{ops:List aW}{no:Bool}{b:kK}(h:Sm b):Sm (mK key ops no b):=by
 have hk:(y9 ops).length≤100:=RD _;have hl:∀b,Sm b→Sm (nN (y9 ops) b):=fun b h=>by unfold nN;split;exact⟨hk,h.2⟩;exact h
 have E:∀b,Sm b→Sm (rD (y9 ops) b):=fun b h=>by unfold rD;split;exact⟨h.1,hk⟩;exact h
 unfold mK;split
 ·exact h
 split
 ·exact h
 unfold uO;cases(mZ ops (ops.length-1)==6||(dO (lM key) (ops.take 2)==0)!=no)<;>cases(mZ ops (ops.length-1)==6||(dO (lM key) (ops.take 2)==0)==no)<;>first|exact h|exact hl _ h|exact E _ h|exact E _ (hl _ h)
theorem Jm{key:ByteArray}:∀(f:Nat) (ops:List aW) (b:kK),Sm b→Sm (fQ key f ops b)
 | 0,_,_,h=>h
 | f+1,ops,b,h=>by
  unfold fQ;split
  ·exact Jm f _ _ (Jm f _ _ h)
  split
  ·exact RE h
  exact RE h
theorem aeK(l:List cu)(ops:List aW):Sm (iB l ops).1:=by
 have h0:Sm (([],[]):kK):=⟨Nat.zero_le _,Nat.zero_le _⟩
 unfold iB;repeat' split
 all_goals first|exact h0|exact Jm _ _ _ h0
theorem OM:(Tryz.prog.info? 3).map (fun i=>(i.zero,i.size,i.bytes))=some (some (.int .i64 0),1,8):=by kernel_rfl
theorem Jn(hm:(3,marksC)∈G)(hw:(2,wordsC)∈G)(ht:(0,typesC)∈G)(hG:(1,[Value.int .i64 m])∈G)(t:aT)(g:eW t n)(w:List aW)(ho:∀o∈w,o.nm.size≤maxLen)(fH:∀o∈w,o.v.Ok):VC Tryz.prog G 87 [.agg (dG t),.list 5 (w.flatMap cO) w.length] [] (BX (au t w)):=by
 refine VC.body func87 rfl ntmps87 aO fun X0 w0 aX=>?_;have GG:=aeK t.av w;have pp:=Zq (G:=G) hm hw ht hG t.av wP wO w ho fH;unfold MA at pp;have dr:maxLen=9223372036854775807:=rfl;have WT:=SM (G:=G) g.ix (iB t.av w).1.1 (iB t.av w).1.2 GG.1 GG.2;unfold Tw.cT at WT;have mR:=abw g.ix (iB t.av w).1.1 (iB t.av w).1.2;generalize hL:(oX t.ix (iB t.av w).1.1 (iB t.av w).1.2)=L at *;unfold dG;have Km:∀x∈L,x∈gE t.ix:=fun x hx=>Eh x (hL ▸ hx);refine bX ?_;refine OD.box (ds:=[_,_,_,_,_]) an rfl rfl ot rfl rfl (fun b2=>?_);refine aj 70 [1,2] ?_;refine cL [1,2,6,7,8] (pp) ?_;refine ae [1,2,6,7,8,25] ?_;refine aq (fun az aG=>?_) (fun az aG=>?_)
 ·have hne:(iB t.av w).2≠0:=(by simpa using az)
  have aS:au t w=([],(iB t.av w).2):=if_pos hne;refine ae [4,5] ?_;refine aJ [] ?_;rw[aS];exact⟨none,0,rfl,iA⟩
 have hz:(iB t.av w).2=0:=(by simpa using az)
 have af4:au t w=mr t w [] (L.drop 0):=(by unfold au;rw[if_neg (by simp[hz]),hL,drop_zero])
 refine cL [1,2,9] (WT) ?_;refine bX ?_;refine aZ [1,2,9,11] ?_;refine ae [1,2,11,35,36,37] ?_;refine eI [1,2,35,36] (fun aV _ (O:Nat×List Int×Option Addr×Nat×List ag) aK=>match O with|(k,acc,dS,dD,Sx)=>(k≤L.length)∧((acc).length≤k)∧(au t w=mr t w acc (L.drop k))∧(bu 3 1 ((acc).flatMap Tw.cI) (acc).length dS dD Sx)∧aK=(⟨70,(11,.v (.slice dS (acc).length dD))::(37,.v (.int .i64 (k:Nat)))::aV,(⟨b2,48,5,[.v (.string t.nm),.list 2 (t.av.flatMap cC) t.av.length,.list 1 (t.rows.flatMap gY) t.rows.length,.list 5 (t.ix.af.flatMap cP) t.ix.af.length,.v (.int .i64 t.ix.root)]⟩::Sx)⟩:St)) (fun (O:Nat×List Int×Option Addr×Nat×List ag)=>match O with|(k,acc,dS,dD,Sx)=>L.length-k) (0,([]:List Int),none,0,[]) ⟨(Nat.zero_le _),(Nat.zero_le _),af4,(bu.cast iA lu),rfl⟩ ?_;rintro⟨k,acc,dS,dD,Sx⟩ _ ⟨hk,wI,aS,ee,rfl⟩;refine ae [1,2,11,35,36,37,38] ?_;refine aq (fun aH aU=>?_) (fun aH aU=>?_)
 ·have aa:k<L.length:=(by omega)
  obtain⟨gH,U,oM,VR⟩:=g.jm _ (Km _ (getElem_mem aa));have E:=jA (t:=t) U;have jg:L.drop k=(L[k]'aa)::L.drop (k+1):=drop_eq_getElem_cons aa;have hrw:=(g.row _ U oM).2.1;have hr4:=pY (g.row _ U oM).1;refine aC 2 ?_;refine OD.alloc (ds:=[_,_]) an rfl rfl zeroValue97 rfl (fun mE=>?_);refine aN 0 [_,_] sizeOf97 ?_;refine aj 70 [1,2,11,13,35,36,37] ?_;refine ae [1,2,11,13,35,36,37,43] ?_;refine aq (fun aY bz=>?_) (fun aY bz=>?_)
  ·have Z:0<w.length:=(by omega)
   have xD:=Rj (G:=G) hm hw ht t.av wP wO (t.rows[(L[k]'aa).2.toNat]) w4 hrw w ho fH;rw[←E] at xD;unfold mD at xD;rw[E] at xD;refine CD.seq ?_;refine tJ 14 13 [1,2,11,13,14,35,36,37,55,56] ?_;refine aP 6 ?_ (h:=by exact(dy 1 (h:=by first|exact .l (j:=(L[k]'aa).2.toNat) (Int.toNat_of_nonneg gH).symm U|exact .r (j:=(L[k]'aa).2.toNat) (Int.toNat_of_nonneg gH).symm U)));refine cU (xD) ?_;refine mW 3 ?_;refine qV ?_;refine jP ?_;refine⟨rfl,fun zN=>?_⟩;refine aN 0 [_,_,_] sizeOf30 ?_;refine aj 70 [1,2,11,13,14,15,35,36,37] ?_;refine ae [1,2,11,13,14,15,35,36,37,58] ?_;refine aq (fun bF bY=>?_) (fun bF bY=>?_)
   ·have hne:(fh t.av (rowAt t (L[k]'aa).2) w).2≠0:=(by rw[E];simpa using bF)
    have I:au t w=([],(fh t.av (rowAt t (L[k]'aa).2) w).2):=(by rw[aS,jg,mr,if_pos Z,if_pos hne])
    rw[E] at I;refine ae [4,5] ?_;refine aJ [] ?_;rw[I];exact⟨none,0,rfl,iA⟩
   have hne:¬(fh t.av (rowAt t (L[k]'aa).2) w).2≠0:=(by rw[E];simpa using bF)
   refine ae [1,2,11,13,35,36,37,62] ?_;refine aq (fun cx c8=>?_) (fun cx c8=>?_)
   ·have ga:(fh t.av (rowAt t (L[k]'aa).2) w).1.n≠1:=(by rw[E];simpa using cx)
    have nx:au t w=mr t w acc (L.drop (k+1)):=(by rw[aS,jg,mr,if_pos Z,if_neg hne,if_pos ga])
    refine cj [1,2,11,35,36,37] ?_;refine⟨((k+1),acc,dS,dD,Sx),_,cz,aM,w4,w4,nx,(bu.cast ee lu),rfl⟩
   have ga:¬(fh t.av (rowAt t (L[k]'aa).2) w).1.n≠1:=(by rw[E];simpa using cx)
   have nx:au t w=mr t w (acc++[(L[k]'aa).2]) (L.drop (k+1)):=(by rw[aS,jg,mr,if_pos Z,if_neg hne,if_neg ga])
   refine dw 3 ?_;refine ei (bZ 0 [_]) [.int .i64 0] [_] zeroValue3 runUnderlying91 sizeOf3 (fun oJ=>?_);refine fG 0 66 1 1 ?_;refine OD.en (ls:=(acc)) (new:=[(L[k]'aa).2]) (Sq:=Sx) Tw.ev Tw.nf an rfl rfl underlying91 OM rfl w7 ot ee (dB (A:=[_,_,_])) ot bw nu nv (fun qg qI Fk Fl=>?_);refine OD.perm (dY (S1:=[⟨qg,3,qI*1,flatMap Tw.cI ((acc)++[(L[k]'aa).2])⟩]) (A:=[_,_,_])) ?_;exact z70
  have Z:¬0<w.length:=(by omega)
  have nx:au t w=mr t w (acc++[(L[k]'aa).2]) (L.drop (k+1)):=(by rw[aS,jg,mr,if_neg Z])
  refine dw 3 ?_;refine ei (bZ 0 [_]) [.int .i64 0] [_] zeroValue3 runUnderlying91 sizeOf3 (fun oJ=>?_);refine fG 0 66 1 1 ?_;refine OD.en (ls:=(acc)) (new:=[(L[k]'aa).2]) (Sq:=Sx) Tw.ev Tw.nf an rfl rfl underlying91 OM rfl w7 ot ee (dB (A:=[_,_])) ot bw nu nv (fun qg qI Fk Fl=>?_);refine OD.perm (dY (S1:=[⟨qg,3,qI*1,flatMap Tw.cI ((acc)++[(L[k]'aa).2])⟩]) (A:=[_,_])) ?_;exact z70
 have I:au t w=(acc,0):=(by rw[aS,drop_of_length_le w4];rfl)
 refine ae [4,5] ?_;refine aJ Sx ?_;rw[I];exact⟨dS,dD,rfl,ee⟩

end Go.Proofs.YtbcmjoaggammcaaGreatDoor.Ba
namespace Go.Proofs.YtbcmjoaggammcaaGreatDoor.So
open List
open Go.Proofs.Tryz
variable {α:Type} {R:α→α→Prop} {l L M X Y:List α} {x y:α} {k:Nat}
theorem G4(ht:∀{x y z:α},R x y→R y z→R x z)(hs:L.Pairwise R)(hk:k≤L.length)(h:k=0∨∃h:k-1<L.length,R (L[k-1]) x):∀z∈L.take k,R z x:=by
 intro z hz;obtain⟨i,hi,rfl⟩:=mem_iff_getElem.1 hz;rw[length_take] at hi;rw[getElem_take];rcases h with rfl|⟨h1,h2⟩
 ·omega
 rcases Nat.lt_or_ge i (k-1) with h3|h3
 ·exact ht (pairwise_iff_getElem.1 hs i (k-1) w4 h1 h3) h2
 have:i=k-1:=(by omega)
 subst this;exact h2
theorem GV(ht:∀{x y z:α},R x y→R y z→R x z)(hs:L.Pairwise R)(h:k=L.length∨∃h:k<L.length,R x (L[k])):∀z∈L.drop k,R x z:=by
 intro z hz;obtain⟨i,hi,rfl⟩:=mem_iff_getElem.1 hz;rw[length_drop] at hi;rw[getElem_drop];rcases h with rfl|⟨h1,h2⟩
 ·omega
 rcases Nat.eq_zero_or_pos i with rfl|h3
 ·simpa using h2
 exact ht h2 (pairwise_iff_getElem.1 hs k (k+i) h1 w4 w4)
theorem abx(hs:(X++Y).Pairwise R)(h1:∀z∈X,R z x)(h2:∀z∈Y,R x z):(X++x::Y).Pairwise R:=by
 rw[pairwise_append] at hs ⊢;obtain⟨p1,p2,p3⟩:=hs;refine⟨p1,pairwise_cons.2 ⟨h2,p2⟩,fun a ha b hb=>?_⟩;rcases mem_cons.1 hb with rfl|hb
 ·exact h1 a ha
 exact p3 a ha b hb
theorem RF(ht:∀{x y z:α},R x y→R y z→R x z)(hs:L.Pairwise R)(hk:k≤L.length)(h1:k=0∨∃h:k-1<L.length,R (L[k-1]) x)(h2:k=L.length∨∃h:k<L.length,R x (L[k])):(L.take k++x::L.drop k).Pairwise R :=
 abx (by rw[take_append_drop];exact hs) (G4 ht hs hk h1) (GV ht hs h2)
theorem Z1 (ht:∀{x y z:α},R x y→R y z→R x z) {A B:List α} {i j:Nat} (ha:A.Pairwise R) (hb:B.Pairwise R) (hi:i≤A.length) (hj:j≤B.length)
  (h1:i=0∨j=B.length∨∃(p:i-1<A.length) (q:j<B.length),R A[i-1] B[j]) (h2:j=0∨i=A.length∨∃(p:j-1<B.length) (q:i<A.length),R B[j-1] A[i]) :
  ∀a∈A.take i++B.take j,∀b∈A.drop i++B.drop j,R a b:=by
 have E:∀a∈A.take i,∀b∈A.drop i,R a b:=(by rw[←take_append_drop i A] at ha;exact(pairwise_append.1 ha).2.2)
 have I:∀a∈B.take j,∀b∈B.drop j,R a b:=(by rw[←take_append_drop j B] at hb;exact(pairwise_append.1 hb).2.2)
 intro a hm b hn;rcases mem_append.1 hm with hm|hm<;>rcases mem_append.1 hn with hn|hn
 ·exact E a hm b hn
 ·rcases h1 with rfl|rfl|⟨p,q,hr⟩
  ·simp at hm
  ·simp at hn
  exact G4 (R:=R) ht ha hi (.inr ⟨p,by
   rcases GV (R:=R) ht hb (k:=j) (x:=A[i-1]) (.inr ⟨q,hr⟩) b hn with h
   exact h⟩) a hm
 ·rcases h2 with rfl|rfl|⟨p,q,hr⟩
  ·simp at hm
  ·simp at hn
  exact G4 (R:=R) ht hb hj (.inr ⟨p,GV (R:=R) ht ha (k:=i) (x:=B[j-1]) (.inr ⟨q,hr⟩) b hn⟩) a hm
 exact I a hm b hn
theorem Hz{l1 l2:List α}:((l1++x::y::l2).set l1.length y).set (l1.length+1) x=l1++y::x::l2:=by
 rw[set_append_right _ _ (Nat.le_refl _),Nat.sub_self,set_cons_zero,set_append_right _ _ w4,show l1.length+1-l1.length=1 by omega,set_cons_succ,set_cons_zero]
def sw(l:List Int)(i j:Nat):List Int:=(l.set i (l.getD j 0)).set j (l.getD i 0)
theorem aeL{l:List Int}{i j:Nat}:(sw l i j).length=l.length:=by unfold sw;simp
theorem l7{l:List Int}{i:Nat}(h:i<l.length):l.getD i 0=l[i]:=by simp[h]
def jH(l:List Int)(a b:Nat):Nat→List Int
 | 0=>l
 | k+1=>sw (jH l a b k) (a+k) (b+k)
theorem AO{l:List Int}{a b:Nat}:∀{k:Nat},(jH l a b k).length=l.length
 | 0=>rfl
 | k+1=>by rw[jH,aeL,AO]
theorem RG{l:List Int}{a b:Nat}:∀{k:Nat},a+k≤b→b+k≤l.length→∀j,(jH l a b k)[j]?=if a≤j∧j<a+k then l[b+(j-a)]? else if b≤j∧j<b+k then l[a+(j-b)]? else l[j]?
 | 0,_,_,j=>by rw[if_neg w4,if_neg w4];try rfl
 | k+1,h1,h2,j=>by
  have E:=RG (l:=l) (a:=a) (b:=b) (k:=k) w4 w4;have e1:(jH l a b k).getD (b+k) 0=l.getD (b+k) 0:=(by rw[getD_eq_getElem?_getD,E,if_neg w4,if_neg w4,getD_eq_getElem?_getD])
  have e2:(jH l a b k).getD (a+k) 0=l.getD (a+k) 0:=(by rw[getD_eq_getElem?_getD,E,if_neg w4,if_neg w4,getD_eq_getElem?_getD])
  rw[jH,sw,e1,e2,getElem?_set,getElem?_set,length_set,AO,E];by_cases q1:b+k=j
  ·subst q1;rw[if_pos rfl,if_pos w4,if_neg w4,if_pos w4,l7 w4,show a+(b+k-b)=a+k by omega,getElem?_eq_getElem w4]
  rw[if_neg q1];by_cases q2:a+k=j
  ·subst q2;rw[if_pos rfl,if_pos w4,if_pos w4,l7 w4,show b+(a+k-a)=b+k by omega,getElem?_eq_getElem w4]
  rw[if_neg q2];simp only[show(a≤j∧j<a+(k+1))↔(a≤j∧j<a+k) by omega,show(b≤j∧j<b+(k+1))↔(b≤j∧j<b+k) by omega]
theorem IU{P U M W Q:List Int}(h:U.length=W.length):jH (P++(U++(M++(W++Q)))) P.length (P.length+U.length+M.length) U.length=P++(W++(M++(U++Q))):=by
 refine ext_getElem? fun j=>?_;rw[RG w4 (by simp only[length_append];omega)];simp only[getElem?_append];repeat' split
 all_goals first|omega|(congr 1<;>omega)
def rh(T cur:List Int)(m i j:Nat):Prop:=∃P X Y Q,cur=P++(X++(Y++Q))∧X.length=i∧Y.length=j∧P.length+i=m∧T=P++(Y++(X++Q))
variable {T cur:List Int} {m i j:Nat}
theorem rh.len(h:rh T cur m i j):i≤m∧m+j≤cur.length∧T.length=cur.length:=by
 obtain⟨P,X,Y,Q,rfl,rfl,rfl,hm,rfl⟩:=h;simp only[length_append];omega
theorem aeM(h:rh T cur m i j)(E:j<i):rh T (jH cur (m-i) m j) m (i-j) j:=by
 obtain⟨P,X,Y,Q,rfl,rfl,rfl,hm,rfl⟩:=h;have l1:(X.take Y.length).length=Y.length:=(by rw[length_take];omega)
 have l2:(X.drop Y.length).length=X.length-Y.length:=length_drop;have e:=IU (P:=P) (U:=X.take Y.length) (M:=X.drop Y.length) (W:=Y) (Q:=Q) l1;rw[l1,l2,←append_assoc (X.take _) (X.drop _),take_append_drop,show P.length+Y.length+(X.length-Y.length)=m by omega,show P.length=m-X.length by omega] at e;exact⟨P++Y,X.drop Y.length,X.take Y.length,Q,by rw[e];simp,l2,l1,by rw[length_append];omega,by rw[←append_assoc (X.take _) (X.drop _),take_append_drop];simp⟩
theorem aeN(h:rh T cur m i j)(E:i<j):rh T (jH cur (m-i) (m+j-i) i) m i (j-i):=by
 obtain⟨P,X,Y,Q,rfl,rfl,rfl,hm,rfl⟩:=h;have l1:(Y.take (Y.length-X.length)).length=Y.length-X.length:=(by rw[length_take];omega)
 have l2:(Y.drop (Y.length-X.length)).length=X.length:=(by rw[length_drop];omega)
 have e:=IU (P:=P) (U:=X) (M:=Y.take (Y.length-X.length)) (W:=Y.drop (Y.length-X.length)) (Q:=Q) l2.symm;rw[l1,←append_assoc (Y.take _) (Y.drop _),take_append_drop,show P.length+X.length+(Y.length-X.length)=m+Y.length-X.length by omega,show P.length=m-X.length by omega] at e;exact⟨P,Y.drop (Y.length-X.length),Y.take (Y.length-X.length),X++Q,e,l2,l1,hm,by rw[←append_assoc (Y.take _) (Y.drop _),take_append_drop]⟩
theorem aeO(h:rh T cur m i i):jH cur (m-i) m i=T:=by
 obtain⟨P,X,Y,Q,rfl,rfl,hl,hm,rfl⟩:=h;have e:=IU (P:=P) (U:=X) (M:=[]) (W:=Y) (Q:=Q) hl.symm;rw[length_nil,Nat.add_zero,show P.length+X.length=m by omega,show P.length=m-X.length by omega] at e;simpa using e

end Go.Proofs.YtbcmjoaggammcaaGreatDoor.So
namespace Go.Proofs.YtbcmjoaggammcaaGreatDoor.So
open List
open Go.Proofs.Tryz
open Go.RowKit V Tw
variable {G:List (Nat×List Value)}
theorem IV(l:List Int)(E la lb k cap I:Nat)(eo:D)(Sc:List ag)(fT:l.length=E)(h1:la+k≤lb)(h2:lb+k≤E)(h3:E≤cap)(h4:cap≤maxLen):VC Tryz.prog G 186 [.v (.slice (some ⟨I,0,none⟩) E cap),.v (.int .i64 (la:Nat)),.v (.int .i64 (lb:Nat)),.v (.int .i64 (k:Nat)),eo] (⟨I,3,cap*1,(l).flatMap cI⟩::Sc) (fun r S'=>r = .dz []∧S'=⟨I,3,cap*1,(jH l la lb k).flatMap cI⟩::Sc):=by
 refine VC.body func186 rfl ntmps186 aO fun X0 w0 aX=>?_;have dr:maxLen=9223372036854775807:=rfl;refine ae [0,1,2,3,10] ?_;refine eI [0,1,2,3] (fun aV _ (i:Nat) aK=>(i≤k)∧aK=(⟨38,(10,.v (.int .i64 (i:Nat)))::aV,(⟨I,3,cap*1,(jH l la lb i).flatMap cI⟩::Sc)⟩:St)) (fun (i:Nat)=>k-i) 0 ⟨(Nat.zero_le _),rfl⟩ ?_;rintro i _ ⟨hi,rfl⟩;refine ae [0,1,2,3,10,13] ?_;refine aq (fun az aG=>?_) (fun az aG=>?_)
 ·have O:i<k:=(by omega)
  have hlen:(jH l la lb i).length=E:=(by rw[AO,fT])
  have ha:la+i<(jH l la lb i).length:=(by omega)
  have hb:lb+i<(jH l la lb i).length:=(by omega)
  refine CD.skip ?_;refine CD.seq ?_;refine CD.block ?_;refine fE 22 (ap (eraseIdx _ 0)) ?_ (fun _ h=>(Sublist.map _ (eraseIdx_sublist _ 0)).subset h);refine ax 0 rfl bg ?_;refine ax 1 rfl bg ?_;refine ax 2 rfl bg ?_;refine ax 3 rfl mz ?_;refine ax 4 rfl bg ?_;refine ax 5 rfl bg ?_;refine ax 6 rfl bg ?_;refine ax 7 rfl mz ?_;refine ax 8 rfl bg ?_;refine ax 9 rfl bg ?_;refine ax 10 rfl bg ?_;refine ax 11 rfl mz ?_;refine ax 12 rfl (dy 1) ?_;refine ax 14 rfl bg ?_;refine ax 15 rfl bg ?_;refine ax 16 rfl bg ?_;refine ax 17 rfl mz ?_;refine ax 18 rfl (dy 1) ?_;refine dg.later rfl ?_;refine AD.two (i:=13) (j:=19) ay ?_ ?_
  ·refine at_ rfl eP ?_;refine AD.one (i:=19) ay ?_;exact Vi
  refine at_ rfl eP ?_;refine AD.one (i:=13) ay ?_;exact Vi
 obtain rfl:i=k:=(by omega)
 refine aJ _ ?_;exact⟨by first|rfl|(simp[*];done),rfl⟩

theorem aeP(l Tt:List Int)(Z a m b cap bd:Nat)(eo:D)(Sc:List ag)(h:rh Tt l m (m-a) (b-m))(h1:a<m)(h2:m<b)(fT:l.length=Z)(E:Z≤cap)(I:cap≤maxLen):VC Tryz.prog G 173 [.v (.slice (some ⟨bd,0,none⟩) Z cap),.v (.int .i64 (a:Nat)),.v (.int .i64 (m:Nat)),.v (.int .i64 (b:Nat)),eo] (⟨bd,3,cap*1,(l).flatMap cI⟩::Sc) (fun r S'=>r = .dz []∧S'=⟨bd,3,cap*1,(Tt).flatMap cI⟩::Sc):=by
 refine VC.body func173 rfl ntmps173 aO fun X0 w0 aX=>?_;have dr:maxLen=9223372036854775807:=rfl;have hlen:=h.len;refine cM [0,2,3,4,10] ?_;refine aP 2 ?_ (h:=by exact(cW rfl ot ot (fU (r:=((m-a:Nat):Int)) qd)));refine bM ?_;refine cM [0,2,4,10,11] ?_;refine aP 2 ?_ (h:=by exact(cW rfl ot ot (fU (r:=((b-m:Nat):Int)) qd)));refine bM ?_;refine eI [0,2,4] (fun aV _ (O:Nat×Nat×List Int) aK=>match O with|(i,j,cur)=>(rh Tt cur m i j)∧(0<i)∧(0<j)∧((cur).length=Z)∧aK=(⟨58,(10,.v (.int .i64 (i:Nat)))::(11,.v (.int .i64 (j:Nat)))::aV,(⟨bd,3,cap*1,(cur).flatMap cI⟩::Sc)⟩:St)) (fun (O:Nat×Nat×List Int)=>match O with|(i,j,cur)=>i+j) ((m-a),(b-m),l) ⟨h,w4,w4,fT,rfl⟩ ?_;rintro⟨i,j,cur⟩ _ ⟨hr,hi,hj,U,rfl⟩;refine ae [0,2,4,10,11,20] ?_;refine aq (fun az aG=>?_) (fun az aG=>?_)
 ·have q8:=hr.len;have hne:i≠j:=(by omega)
  refine ae [0,2,4,10,11,23] ?_;refine aq (fun aH aU=>?_) (fun aH aU=>?_)
  ·have hgt:j<i:=(by omega)
   refine aC 3 ?_;refine bJ (cW rfl ot ot (fU (r:=((m-i:Nat):Int)) qd)) ?_;refine aD 3 ?_;refine OD.call (R:=Sc) an rfl rfl rfl call186 (IV cur Z (m-i) m j cap bd eo [] U w4 w4 E I) ⟨ot,ot,ot,ot,ot,trivial⟩ (Perm.refl _) ?_;rintro _ _ ⟨rfl,rfl⟩;refine aj 58 [0,2,4,10,11] ?_;refine ie [0,2,4,10,11] ?_;refine aP 2 ?_ (h:=by exact(cW rfl ot ot (fU (r:=((i-j:Nat):Int)) qd)));refine bM ?_;refine⟨((i-j),j,(jH cur (m-i) m j)),_,cz,aM,(aeM hr hgt),w4,hj,(by rw[AO];exact U),rfl⟩
  have aa:i<j:=(by omega)
  refine aC 3 ?_;refine bJ (cW rfl ot ot (fU (r:=((m-i:Nat):Int)) qd)) ?_;refine aD 4 ?_;refine bJ (cW rfl ot ot (fU (r:=((m+j-i:Nat):Int)) (by rw[show((m:Int)+j-i)=((m+j-i:Nat):Int) by omega];exact wrap_i64 w4 w4))) ?_;refine aD 2 ?_;refine OD.call (R:=Sc) an rfl rfl rfl call186 (IV cur Z (m-i) (m+j-i) i cap bd eo [] U w4 w4 E I) ⟨ot,ot,ot,ot,ot,trivial⟩ (Perm.refl _) ?_;rintro _ _ ⟨rfl,rfl⟩;refine aj 58 [0,2,4,10,11] ?_;refine ie [0,2,4,10,11] ?_;refine aP 2 ?_ (h:=by exact(cW rfl ot ot (fU (r:=((j-i:Nat):Int)) qd)));refine bM ?_;refine⟨(i,(j-i),(jH cur (m-i) (m+j-i) i)),_,cz,aM,(aeN hr aa),hi,w4,(by rw[AO];exact U),rfl⟩
 have q8:=hr.len;obtain rfl:i=j:=(by omega)
 have he:=aeO hr;refine dw 3 ?_;refine bJ (cW rfl ot ot (fU (r:=((m-i:Nat):Int)) qd)) ?_;refine aD 3 ?_;refine OD.call (R:=Sc) an rfl rfl rfl call186 (IV cur Z (m-i) m i cap bd eo [] U w4 w4 E I) ⟨ot,ot,ot,ot,ot,trivial⟩ (Perm.refl _) ?_;rintro _ _ ⟨rfl,rfl⟩;refine aj 58 [] ?_;refine aJ _ ?_;exact⟨rfl,by rw[he];rfl⟩

end Go.Proofs.YtbcmjoaggammcaaGreatDoor.So
namespace Go.Proofs.YtbcmjoaggammcaaGreatDoor.So
/-
  IW,plainly,part 2: the alE sort,one step behind the other.
-/
variable {x y:Int} {Z S:List Int} {cF:Int→Int→Int}
open List
open Go.Proofs.Tryz
def nU(R:Int→Int→Prop)(l0 l:List Int)(a i:Nat):Prop :=
 ∃(P A B A0:List Int),l=P++(A++B)∧P.length=a∧a+A.length=i∧A.Pairwise R∧A.Perm A0∧l0=P++(A0++B)
def rT(R:Int→Int→Prop)(l0 l:List Int)(a i j:Nat):Prop :=
 ∃(P A:List Int) (x:Int) (B A0:List Int) (k:Nat),l=P++(A.take k++x::(A.drop k++B))∧P.length=a∧k≤A.length∧a+k=j∧a+A.length=i∧A.Pairwise R∧(k=A.length∨∃h:k<A.length,R x A[k])∧A.Perm A0∧l0=P++(A0++x::B)
variable {R Lt:Int→Int→Prop} {l0 l:List Int} {a i j:Nat}
theorem rT.len(h:rT R l0 l a i j):a≤j∧j≤i∧i<l.length∧l.length=l0.length:=by
 obtain⟨P,A,x,B,E,k,rfl,rfl,hk,rfl,rfl,hs,hx,hp,rfl⟩:=h;have:=hp.length_eq;simp only[length_append,length_cons,length_take,length_drop];omega
theorem HW(h:a≤l.length):nU R l l a a :=
 ⟨l.take a,[],l.drop a,[],by simp,by rw[length_take];omega,by simp,Pairwise.nil,.refl _,by simp⟩
theorem ac7(h:a<l.length):nU R l l a (a+1) :=
 ⟨l.take a,[l[a]],l.drop (a+1),[l[a]],by simp,by rw[length_take];omega,by simp,pairwise_singleton _ _,.refl _,by simp⟩
theorem Z2(h:nU R l0 l a i)(hi:i<l.length):rT R l0 l a i i:=by
 obtain⟨P,A,B,E,rfl,rfl,rfl,hs,hp,rfl⟩:=h;cases B with
 | nil=>simp at hi
 | cons x B=>exact⟨P,A,x,B,E,A.length,by simp,rfl,Nat.le_refl _,rfl,rfl,hs,.inl rfl,hp,rfl⟩
theorem EA{P A B:List Int}{k:Nat}(hk:k<A.length):P++(A.take (k+1)++x::(A.drop (k+1)++B))=(P++A.take k)++A[k]::x::(A.drop (k+1)++B):=by
 rw[take_succ_eq_append_getElem hk];simp only[append_assoc,singleton_append]
theorem Dj(n:Nat)(hn:n=Z.length)(h:n<(Z++y::S).length):(Z++y::S)[n]'h=y:=by subst hn;simp
theorem Dk(n:Nat)(hn:n=Z.length+1)(h:n<(Z++y::x::S).length):(Z++y::x::S)[n]'h=x:=by subst hn;simp[getElem_append_right]
theorem YS(h:rT R l0 l a i j)(hj:a<j)(h1:j<l.length)(h0:j-1<l.length)(hr:R l[j] l[j-1]):rT R l0 ((l.set j l[j-1]).set (j-1) l[j]) a i (j-1):=by
 obtain⟨P,A,x,B,E,k,rfl,rfl,hk,rfl,rfl,hs,hx,hp,rfl⟩:=h;obtain⟨k,rfl⟩:∃m,k=m+1:=⟨k-1,by omega⟩
 have e:=EA (P:=P) (B:=B) (x:=x) hk;have hl:(P++A.take k).length=P.length+k:=(by rw[length_append,length_take];omega)
 simp only[e] at hr ⊢;rw[Dj (P.length+(k+1)-1) w4,Dk (P.length+(k+1)) w4] at hr ⊢;refine⟨P,A,x,B,E,k,?_,rfl,by omega,by omega,rfl,hs,.inr ⟨hk,hr⟩,hp,rfl⟩;rw[set_comm _ _ w4,show P.length+(k+1)-1=(P++A.take k).length by omega,show P.length+(k+1)=(P++A.take k).length+1 by omega,Hz];rw[show A.drop k=A[k]::A.drop (k+1) from drop_eq_getElem_cons hk];simp only[append_assoc,cons_append]
theorem aaj(ht:∀{x y z:Int},R x y→R y z→R x z)(h:rT R l0 l a i j)(h1:j<l.length)(h0:j-1<l.length)(hr:j=a∨R l[j-1] l[j]):nU R l0 l a (i+1):=by
 obtain⟨P,A,x,B,E,k,rfl,rfl,hk,rfl,rfl,hs,hx,hp,rfl⟩:=h;refine⟨P,A.take k++x::A.drop k,B,E++[x],by simp,rfl,by simp;omega,RF ht hs hk ?_ hx,?_,by simp⟩
 ·rcases Nat.eq_zero_or_pos k with rfl|hp
  ·exact .inl rfl
  right;obtain⟨k,rfl⟩:∃m,k=m+1:=⟨k-1,by omega⟩
  refine⟨by omega,?_⟩;rcases hr with hr|hr
  ·omega
  have e:=EA (P:=P) (B:=B) (x:=x) hk;have hl:(P++A.take k).length=P.length+k:=(by rw[length_append,length_take];omega)
  simp only[e] at hr;rw[Dj (P.length+(k+1)-1) w4,Dk (P.length+(k+1)) w4] at hr;exact hr
 refine List.perm_middle.trans ?_;rw[take_append_drop];exact(Perm.cons x hp).trans (perm_append_singleton x E).symm
theorem abW(h:rT R l0 l a i j)(hj:a<j)(h1:j<l.length)(h0:j-1<l.length)(hq:(l0.drop a).Pairwise Lt):Lt l[j-1] l[j]:=by
 obtain⟨P,A,x,B,E,k,rfl,rfl,hk,rfl,rfl,hs,hx,hp,rfl⟩:=h;obtain⟨k,rfl⟩:∃m,k=m+1:=⟨k-1,by omega⟩
 have e:=EA (P:=P) (B:=B) (x:=x) hk;have hl:(P++A.take k).length=P.length+k:=(by rw[length_append,length_take];omega)
 simp only[e];rw[Dj (P.length+(k+1)-1) w4,Dk (P.length+(k+1)) w4];rw[drop_left' rfl,pairwise_append] at hq;exact hq.2.2 _ (hp.subset (getElem_mem hk)) x (mem_cons_self)
theorem rT.perm(h:rT R l0 l a i j):l.Perm l0:=by
 obtain⟨P,A,x,B,E,k,rfl,rfl,hk,rfl,rfl,hs,hx,hp,rfl⟩:=h;refine(perm_append_left_iff P).2 (List.perm_middle.trans ?_);rw[←append_assoc,take_append_drop];exact(Perm.cons x ((perm_append_right_iff B).2 hp)).trans List.perm_middle.symm
def Rc(cF:Int→Int→Int)(Lt:Int→Int→Prop)(x y:Int):Prop:=cF x y<0∨cF x y=0∧Lt x y
theorem El(h:cF y x<0):Rc cF Lt y x:=.inl h
theorem EG(ha:∀x y,0≤cF y x→cF x y≤0)(E:Lt x y)(h:¬cF y x<0):Rc cF Lt x y:=by
 have:=ha x y w4;unfold Rc;rcases Int.lt_or_eq_of_le this with q|q
 ·exact .inl q
 exact .inr ⟨q,E⟩
def Part(R:Int→Int→Prop)(l0 l:List Int)(a b:Nat):Prop:=∃(P M M0 Q:List Int),l=P++(M++Q)∧l0=P++(M0++Q)∧P.length=a∧a+M.length=b∧M.Perm M0∧M.Pairwise R
theorem nU.part{b:Nat}(h:nU R l0 l a b):Part R l0 l a b:=by
 obtain⟨P,A,B,E,h1,h2,h3,hs,hp,h4⟩:=h;exact⟨P,A,E,B,h1,h4,h2,h3,hp,hs⟩

end Go.Proofs.YtbcmjoaggammcaaGreatDoor.So
namespace Go.Proofs.YtbcmjoaggammcaaGreatDoor.So
open List
open Go.Proofs.Tryz
open Go.RowKit V Tw
variable {G:List (Nat×List Value)}
theorem SP(l:List Int)(U a b cap bd fc:Nat)(O:List D)(Z:List ag)(cF:Int→Int→Int)(V:Int→Prop)(Lt:Int→Int→Prop)(hV:∀x∈l,V x)(hc:∀x y,V x→V y→VC Tryz.prog G fc ([.v (.int .i64 x),.v (.int .i64 y)]++O) Z (fun r S'=>r = .v (.int .i64 (cF x y))∧S'=Z))(uV:∀args w,(callFunc fc args).run Tryz.prog w = .ok (.enter fc args) w)(ht:∀{x y z:Int},Rc cF Lt x y→Rc cF Lt y z→Rc cF Lt x z)(ha:∀x y,0≤cF y x→cF x y≤0)(hq:(l.drop a).Pairwise Lt)(h1:a≤b)(h2:b≤U)(fT:l.length=U)(pc:U≤cap)(qM:cap≤maxLen)(an7:U<maxLen):VC Tryz.prog G 147 [.v (.slice (some ⟨bd,0,none⟩) U cap),.v (.int .i64 (a:Nat)),.v (.int .i64 (b:Nat)),.eo (.func fc) O] (⟨bd,3,cap*1,(l).flatMap cI⟩::Z) (fun r S'=>r = .dz []∧∃lz,Part (Rc cF Lt) l lz a b∧S'=⟨bd,3,cap*1,(lz).flatMap cI⟩::Z):=by
 refine VC.body func147 rfl ntmps147 aO fun X0 w0 aX=>?_;have dr:maxLen=9223372036854775807:=rfl;refine ae [0,1,2,3,8] ?_;refine eI [0,1,2,3] (fun aV _ (E:Nat×List Int) aK=>match E with|(i,cur)=>((i≤b→nU (Rc cF Lt) l cur a i))∧(a<i)∧((a<b→i≤b))∧((a=b→cur=l))∧((cur).length=U)∧aK=(⟨53,(8,.v (.int .i64 (i:Nat)))::aV,(⟨bd,3,cap*1,(cur).flatMap cI⟩::Z)⟩:St)) (fun (E:Nat×List Int)=>match E with|(i,cur)=>b-i) ((a+1),l) ⟨(fun q=>ac7 w4),(Nat.lt_succ_self _),(fun q=>q),(fun _=>rfl),fT,rfl⟩ ?_;rintro⟨i,cur⟩ _ ⟨hs,WU,hib,qn,kV,rfl⟩;refine ae [0,1,2,3,8,14] ?_;refine aq (fun az aG=>?_) (fun az aG=>?_)
 ·have aa:i<b:=(by omega)
  refine ae [0,1,2,3,8,9] ?_;refine eI [0,1,2,3,8] (fun aV _ (E:Nat×List Int) aK=>match E with|(j,kU)=>(rT (Rc cF Lt) l kU a i j)∧((kU).length=U)∧aK=(⟨53,(9,.v (.int .i64 (j:Nat)))::aV,(⟨bd,3,cap*1,(kU).flatMap cI⟩::Z)⟩:St)) (fun (E:Nat×List Int)=>match E with|(j,kU)=>j) (i,cur) ⟨(Z2 (hs w4) w4),kV,rfl⟩ ?_;rintro⟨j,kU⟩ _ ⟨hj,yR,rfl⟩;have lF:=hj.len;have qf:j<kU.length:=(by omega)
  have qe:j-1<kU.length:=(by omega)
  refine CD.seq ?_;refine CD.seq ?_;refine fE 14 (ap (take 1 _)) ?_ (fun _ h=>(Sublist.map _ (take_sublist _ _)).subset h);refine ax 0 rfl bg ?_;refine ax 1 rfl bg ?_;refine ax 2 rfl mz ?_;refine ax 3 rfl bg ?_;refine dg.split (t:=21) lk (fun qb=>?_) (fun qb=>?_)
  ·have I:=qb;(try simp only[V.mU,ne_eq] at I)
   refine ax 4 rfl bg ?_;refine ax 5 rfl bg ?_;refine ax 6 rfl bg ?_;refine ax 7 rfl (dy 1 (h:=by first|exact .l (j:=j) rfl w4|exact .r (j:=j) rfl w4)) ?_;refine ax 8 rfl eP ?_;refine ax 9 rfl bg ?_;refine ax 10 rfl bg ?_;refine ax 11 rfl (cW rfl ot bC (fU (r:=((j-1:Nat):Int)) (by rw[show((j:Int)-1)=((j-1:Nat):Int) by have CM:=of_decide_eq_true qb;omega];exact wrap_i64 (by have CM:=of_decide_eq_true qb;omega) w4))) ?_;refine ax 12 rfl (dy 1 (h:=by first|exact .l (j:=j-1) rfl w4|exact .r (j:=j-1) rfl w4)) ?_;refine ax 13 rfl eP ?_;refine dg.later rfl ?_;refine ey ?_;have WV:∀x∈kU,V x:=fun x hx=>hV x (hj.perm.subset hx);refine OD.jY (f:=fc) (args:=[_,_]) (Sf:=Z) gN rfl rfl ot uV (hc _ _ (WV _ (getElem_mem qf)) (WV _ (getElem_mem qe))) rfl ⟨ot,ot,trivial⟩ (perm_append_singleton _ _).symm ?_;rintro _ S2 ⟨rfl,ig⟩;rw[ig];clear ig;refine OD.perm (perm_append_singleton _ _) ?_;refine aj 53 [0,1,2,3,8,9,34] ?_;refine aq (fun aH aU=>?_) (fun aH aU=>?_)
   ·have hja:a<j:=(by have q:=of_decide_eq_true qb;omega)
    have ae9:cF (kU[j]'qf) (kU[j-1]'qe)<0:=aU;refine CD.skip ?_;refine CD.seq ?_;refine CD.block ?_;refine fE 16 (ap (eraseIdx _ 0)) ?_ (fun _ h=>(Sublist.map _ (eraseIdx_sublist _ 0)).subset h);refine ax 0 rfl bg ?_;refine ax 1 rfl bg ?_;refine ax 2 rfl bg ?_;refine ax 3 rfl bg ?_;refine ax 4 rfl (cW rfl ot bC (fU (r:=((j-1:Nat):Int)) Lf)) ?_;refine ax 5 rfl bg ?_;refine ax 6 rfl bg ?_;refine ax 7 rfl (cW rfl ot bC (fU (r:=((j-1:Nat):Int)) Lf)) ?_;refine ax 8 rfl (dy 1 (h:=by first|exact .l (j:=j-1) rfl w4|exact .r (j:=j-1) rfl w4)) ?_;refine ax 10 rfl bg ?_;refine ax 11 rfl bg ?_;refine ax 12 rfl (dy 1 (h:=by first|exact .l (j:=j) rfl w4|exact .r (j:=j) rfl w4)) ?_;refine dg.later rfl ?_;refine AD.two (i:=9) (j:=13) ay ?_ ?_
    ·refine at_ rfl eP ?_;refine AD.one (i:=13) ay ?_;exact Vc
    refine at_ rfl eP ?_;refine AD.one (i:=9) ay ?_;exact Vc
   exact Vr
  have I:=qb;(try simp only[V.mU,ne_eq] at I)
  refine lU 4 rfl ?_;refine lU 5 rfl ?_;refine lU 6 rfl ?_;refine lU 7 rfl ?_;refine lU 8 rfl ?_;refine lU 9 rfl ?_;refine lU 10 rfl ?_;refine lU 11 rfl ?_;refine lU 12 rfl ?_;refine lU 13 rfl ?_;refine dg.later rfl ?_;refine ey ?_;refine aZ [0,1,2,3,8,9,34] ?_;refine fF ?_;exact Vr
 have nO:nU (Rc cF Lt) l cur a b:=(Nat.eq_or_lt_of_le h1).elim (fun q=>by subst q;rw[qn rfl];exact HW w4) (fun q=>(show i=b by omega) ▸ hs w4);refine aJ _ ?_;exact⟨rfl,_,nO.part,rfl⟩

end Go.Proofs.YtbcmjoaggammcaaGreatDoor.So
namespace Go.Proofs.YtbcmjoaggammcaaGreatDoor.So
/-
  IW,plainly,part 3: one that goes through a list,place by place.
-/
variable {i:Nat}
open List
open Go.Proofs.Tryz
def Mv(P B Q:List Int)(x:Int)(t:Nat):List Int:=P++(B.take t++x::(B.drop t++Q))
variable {P B Q:List Int} {x:Int} {t:Nat}
theorem ER(h:t≤B.length):(Mv P B Q x t).length=P.length+(B.length+1+Q.length):=by
 unfold Mv;simp only[length_append,length_cons,length_take,length_drop];omega
theorem EB(h:t<B.length):Mv P B Q x t=(P++B.take t)++x::B[t]::(B.drop (t+1)++Q):=by
 unfold Mv;rw[drop_eq_getElem_cons h];simp only[append_assoc,cons_append]
theorem EC(h:t<B.length):Mv P B Q x (t+1)=(P++B.take t)++B[t]::x::(B.drop (t+1)++Q):=EA h
theorem yO(h:t<B.length):(P++B.take t).length=P.length+t:=by rw[length_append,length_take];omega
theorem aeQ(h:t<B.length)(h0:P.length+t<(Mv P B Q x t).length):(Mv P B Q x t)[P.length+t]=x:=by
 simp only[EB h];rw[Dj _ (yO h).symm]
theorem ac8(h:t<B.length)(h0:P.length+t+1<(Mv P B Q x t).length):(Mv P B Q x t)[P.length+t+1]=B[t]:=by
 simp only[EB h];rw[Dk _ (by rw[yO h])]
theorem aby(h:t<B.length):((Mv P B Q x t).set (P.length+t) B[t]).set (P.length+t+1) x=Mv P B Q x (t+1):=by
 rw[EB h,EC h,←yO (P:=P) h,Hz]
theorem ac9(h:t<B.length):((Mv P B Q x (t+1)).set (P.length+t+1) B[t]).set (P.length+t) x=Mv P B Q x t:=by
 rw[EB h,EC h,←yO (P:=P) h,set_comm _ _ w4,Hz]

/-
  IW,plainly,part 4: two parts,each in order,amK one.
-/
variable {R Lt:Int→Int→Prop} {l l1 l2 l3:List Int} {a s m e b mid:Nat}
theorem RH(ht:∀{x y z:Int},R x y→R y z→R x z){P B Q:List Int}{x:Int}{s t:Nat}(E:B.Pairwise R)(hs:s≤B.length)(hk:t≤B.length)(h1:t=0∨∃h:t-1<B.length,R B[t-1] x)(h2:t=B.length∨∃h:t<B.length,R x B[t]) :
  Part R (Mv P B Q x s) (Mv P B Q x t) P.length (P.length+(B.length+1)):=by
 have hp:∀t,(B.take t++x::B.drop t).Perm (x::B):=fun t=>List.perm_middle.trans (by rw[take_append_drop]);refine⟨P,B.take t++x::B.drop t,B.take s++x::B.drop s,Q,by unfold Mv;simp,by unfold Mv;simp,rfl,?_,(hp t).trans (hp s).symm,RF ht E hk h1 h2⟩;have:=(hp t).length_eq;simp only[length_cons] at this;rw[this]
def pF(R Lt:Int→Int→Prop)(l:List Int)(a m b:Nat):Prop:=∃(P A B Q:List Int),l=P++(A++(B++Q))∧P.length=a∧a+A.length=m∧m+B.length=b∧A.Pairwise R∧B.Pairwise R∧∀x∈A,∀y∈B,Lt x y
theorem pF.len(h:pF R Lt l a m b):a≤m∧m≤b∧b≤l.length:=by
 obtain⟨P,A,B,Q,rfl,rfl,rfl,rfl,_⟩:=h;simp only[length_append];omega
theorem pF.lt(h:pF R Lt l a m b){j:Nat}(h1:a≤i)(h2:i<m)(h3:m≤j)(h4:j<b)(hi:i<l.length)(hj:j<l.length):Lt l[i] l[j]:=by
 obtain⟨P,A,B,Q,rfl,rfl,rfl,rfl,_,_,h⟩:=h;refine h _ ?_ _ ?_
 ·rw[getElem_append_right h1,getElem_append_left w4];exact getElem_mem _
 rw[getElem_append_right w4,getElem_append_right w4,getElem_append_left w4];exact getElem_mem _
theorem ON{P M Q:List Int}(h:M.Pairwise R):Part R (P++(M++Q)) (P++(M++Q)) P.length (P.length+M.length):=⟨P,M,M,Q,rfl,rfl,rfl,rfl,.refl _,h⟩
theorem Qi{P E Q:List Int}{x y:Nat}(h:Part R (P++(E++Q)) l x y)(hx:x=P.length)(hy:y=P.length+E.length):∃M,l=P++(M++Q)∧M.Perm E∧M.Pairwise R:=by
 obtain⟨P',M,U,Q',h1,h2,h3,h4,h5,h6⟩:=h;have hl:=h5.length_eq;obtain⟨e1,e2⟩:=append_inj h2 w4;obtain⟨I,O⟩:=append_inj e2 w4;subst e1 I O;exact⟨M,h1,h5,h6⟩
def tu(R Lt:Int→Int→Prop)(l l1:List Int)(a s m e b mid:Nat):Prop:=∃(P A1 A2 B1 B2 Q:List Int),l=P++(A1++(A2++(B1++(B2++Q))))∧l1=P++(A1++(B1++(A2++(B2++Q))))∧P.length=a∧a+A1.length=s∧s+A2.length=m∧m+B1.length=e∧e+B2.length=b∧s+B1.length=mid ∧
 A1.Pairwise R∧A2.Pairwise R∧B1.Pairwise R∧B2.Pairwise R∧(∀x∈A1,∀y∈B1,Lt x y)∧(∀x∈A2,∀y∈B2,Lt x y)∧∀x∈A1++B1,∀y∈A2++B2,R x y
theorem ada (ht:∀{x y z:Int},R x y→R y z→R x z) (h:pF R Lt l a m b) (h1:a≤s) (h2:s≤m) (h3:m≤e) (h4:e≤b) (hm:s+(e-m)=mid)
  (k1:s=a∨e=b∨∃(p:s-1<l.length) (q:e<l.length),R l[s-1] l[e]) (k2:e=m∨s=m∨∃(p:e-1<l.length) (q:s<l.length),R l[e-1] l[s]):∃l1,tu R Lt l l1 a s m e b mid∧rh l1 l m (m-s) (e-m):=by
 obtain⟨P,A,B,Q,rfl,rfl,rfl,rfl,hA,hB,aa⟩:=h;obtain⟨i,rfl⟩:∃i,s=P.length+i:=⟨s-P.length,by omega⟩
 obtain⟨j,rfl⟩:∃j,e=P.length+A.length+j:=⟨e-(P.length+A.length),by omega⟩
 have E:∀k (h:k<A.length) (q:P.length+k<(P++(A++(B++Q))).length),(P++(A++(B++Q)))[P.length+k]=A[k]:=fun k h q=>by
  rw[getElem_append_right w4,getElem_append_left w4];simp
 have I:∀k (h:k<B.length) (q:P.length+A.length+k<(P++(A++(B++Q))).length),(P++(A++(B++Q)))[P.length+A.length+k]=B[k]:=fun k h q=>by
  rw[getElem_append_right w4,getElem_append_right w4,getElem_append_left w4];congr 1;omega
 have hc:=Z1 (R:=R) ht hA hB (i:=i) (j:=j) w4 w4 (by
  rcases Nat.eq_zero_or_pos i with q|q
  ·exact .inl q
  rcases k1 with k1|k1|⟨p1,p2,k1⟩
  ·omega
  ·exact .inr (.inl w4)
  ·rcases Nat.lt_or_ge j B.length with q2|q2
   ·refine .inr (.inr ⟨by omega,q2,?_⟩);have e1:=E (i-1) w4 w4;simp only[show P.length+i-1=P.length+(i-1) by omega] at k1;rw[e1,I j q2] at k1;exact k1
   exact .inr (.inl w4)) (by
  rcases Nat.eq_zero_or_pos j with q|q
  ·exact .inl q
  rcases k2 with k2|k2|⟨p1,p2,k2⟩
  ·omega
  ·exact .inr (.inl w4)
  rcases Nat.lt_or_ge i A.length with q2|q2
  ·refine .inr (.inr ⟨by omega,q2,?_⟩);have e1:=I (j-1) w4 w4;simp only[show P.length+A.length+j-1=P.length+A.length+(j-1) by omega] at k2;rw[e1,E i q2] at k2;exact k2
  exact .inr (.inl w4))
 have la1:(A.take i).length=i:=(by rw[length_take];omega)
 have lb1:(B.take j).length=j:=(by rw[length_take];omega)
 have la2:(A.drop i).length=A.length-i:=length_drop;have lb2:(B.drop j).length=B.length-j:=length_drop;have O:A.take i++A.drop i=A:=take_append_drop ..;have U:B.take j++B.drop j=B:=take_append_drop ..;have Z:(A.take i++A.drop i).Pairwise R:=(by rw[O];exact hA)
 have pb:(B.take j++B.drop j).Pairwise R:=(by rw[U];exact hB)
 have ea:A++(B++Q)=A.take i++(A.drop i++(B.take j++(B.drop j++Q))):=(by rw[←append_assoc (A.take i),O,←append_assoc (B.take j),U])
 refine⟨P++(A.take i++(B.take j++(A.drop i++(B.drop j++Q)))),⟨P,A.take i,A.drop i,B.take j,B.drop j,Q,by rw[ea],rfl,rfl,by omega,by omega,by omega,by omega,by omega,(pairwise_append.1 Z).1,(pairwise_append.1 Z).2.1,(pairwise_append.1 pb).1,(pairwise_append.1 pb).2.1,fun x hx y hy=>aa x (mem_of_mem_take hx) y (mem_of_mem_take hy),fun x hx y hy=>aa x (mem_of_mem_drop hx) y (mem_of_mem_drop hy),hc⟩,
  P++A.take i,A.drop i,B.take j,B.drop j++Q,by rw[ea];simp,by omega,by omega,by rw[length_append];omega,by simp⟩
theorem tu.perm(h:tu R Lt l l1 a s m e b mid):l1.Perm l:=by
 obtain⟨P,E,I,O,B2,Q,rfl,rfl,_⟩:=h;refine Perm.append_left P (Perm.append_left E ?_);rw[←append_assoc O,←append_assoc I];exact List.perm_append_comm.append_right _
theorem adb(h:tu R Lt l l1 a s m e b mid):pF R Lt l1 a s mid:=by
 obtain⟨P,E,I,O,B2,Q,rfl,rfl,e1,e2,Z,e4,e5,U,p1,p2,p3,p4,q1,q2,q3⟩:=h;exact⟨P,E,O,I++(B2++Q),rfl,e1,e2,U,p1,p3,q1⟩
theorem Qj(h:tu R Lt l l1 a s m e b mid)(hn:¬(a<s∧s<mid)):Part R l1 l1 a mid:=by
 obtain⟨P,E,O,I,B2,Q,rfl,rfl,rfl,e2,U,Z,e5,e6,p1,p2,p3,p4,q1,q2,q3⟩:=h;have:(E++I).Pairwise R:=by
  rcases Nat.eq_zero_or_pos E.length with h|h
  ·rw[length_eq_zero_iff.1 h];exact p3
  rw[length_eq_zero_iff.1 (show I.length=0 by omega),append_nil];exact p1
 have:=ON (P:=P) (Q:=O++(B2++Q)) this;rw[append_assoc,length_append] at this;rwa [show P.length+(E.length+I.length)=mid by omega] at this
theorem IY(h:tu R Lt l l1 a s m e b mid)(k:Part R l1 l2 a mid):∃(P I E O B2 Q M:List Int),l=P++(I++(E++(O++(B2++Q))))∧l2=P++(M++(E++(B2++Q)))∧P.length=a∧M.length+a=mid∧M.Perm (I++O)∧mid+E.length=e∧e+B2.length=b∧M.Pairwise R∧E.Pairwise R∧B2.Pairwise R∧(∀x∈E,∀y∈B2,Lt x y)∧∀x∈M,∀y∈E++B2,R x y:=by
 obtain⟨P,I,E,O,B2,Q,rfl,rfl,rfl,e2,e3,e4,e5,e6,p1,p2,p3,U,q1,q2,Z⟩:=h;rw[←append_assoc I] at k;obtain⟨M,h1,h2,h3⟩:=Qi k rfl u3;have:=h2.length_eq;rw[length_append] at this;exact⟨P,I,E,O,B2,Q,M,rfl,h1,rfl,by omega,h2,by omega,by omega,h3,p2,U,q2,fun x hx=>Z x (h2.subset hx)⟩
theorem abz(h:tu R Lt l l1 a s m e b mid)(k:Part R l1 l2 a mid):pF R Lt l2 mid e b:=by
 obtain⟨P,I,E,O,B2,Q,M,rfl,rfl,rfl,e1,e2,U,Z,p1,p2,p3,q1,q2⟩:=IY h k;exact⟨P++M,E,B2,Q,by simp,by rw[length_append];omega,by omega,by omega,p2,p3,q1⟩
theorem NV(h:tu R Lt l l1 a s m e b mid)(k:Part R l1 l2 a mid)(hn:¬(mid<e∧e<b)):Part R l2 l2 mid b:=by
 obtain⟨P,I,E,O,B2,Q,M,rfl,rfl,rfl,e1,e2,U,Z,p1,p2,p3,q1,q2⟩:=IY h k;have:(E++B2).Pairwise R:=by
  rcases Nat.eq_zero_or_pos E.length with h|h
  ·rw[length_eq_zero_iff.1 h];exact p3
  rw[length_eq_zero_iff.1 (show B2.length=0 by omega),append_nil];exact p2
 have:=ON (P:=P++M) (Q:=Q) this;rw[append_assoc,length_append,length_append,append_assoc] at this;rwa [show P.length+M.length+(E.length+B2.length)=b by omega,show P.length+M.length=mid by omega] at this
theorem En(h:tu R Lt l l1 a s m e b mid)(k:Part R l1 l2 a mid)(j:Part R l2 l3 mid b):Part R l l3 a b:=by
 obtain⟨P,E,I,O,B2,Q,M,rfl,rfl,rfl,e1,e2,Z,e4,p1,p2,p3,q1,q2⟩:=IY h k;rw[←append_assoc I,←append_assoc P] at j;obtain⟨U,h1,h2,h3⟩:=Qi j u3 (by rw[length_append,length_append];omega);have hl:=e2.length_eq;have iJ:=h2.length_eq;rw[length_append] at hl iJ;refine⟨P,M++U,E++(I++(O++B2)),Q,by rw[h1];simp,by simp,rfl,by rw[length_append];omega,?_,pairwise_append.2 ⟨p1,h3,fun x hx y hy=>q2 x hx y (h2.subset hy)⟩⟩;refine(e2.append h2).trans ?_;rw[append_assoc E];refine Perm.append_left E ?_;rw[←append_assoc O,←append_assoc I];exact List.perm_append_comm.append_right B2
theorem Part.perm(h:Part R l l1 a b):l1.Perm l:=by
 obtain⟨P,M,E,Q,rfl,rfl,_,_,hp,_⟩:=h;exact(hp.append_right Q).append_left P
theorem Part.len(h:Part R l l1 a b):l1.length=l.length:=h.perm.length_eq
theorem aak{T cur:List Int}{j:Nat}(h:rh T cur m i j)(hz:i=0∨j=0):T=cur:=by
 obtain⟨P,X,Y,Q,rfl,rfl,rfl,hm,rfl⟩:=h;rcases hz with h|h
 ·rw[length_eq_zero_iff.1 h];rfl
 rw[length_eq_zero_iff.1 h];rfl
theorem abA(ht:∀{x y z:Int},R x y→R y z→R x z)(h:pF R Lt l a m b)(hm:m=a+1)(h1:m≤i)(h2:i≤b)(k1:i=m∨∃(p:i-1<l.length) (q:a<l.length),R l[i-1] l[a])(k2:i=b∨∃(p:a<l.length) (q:i<l.length),R l[a] l[i]) :
  ∃(P B Q:List Int) (x:Int),P.length=a∧l=Mv P B Q x 0∧i-m≤B.length∧m+B.length=b∧Part R l (Mv P B Q x (i-m)) a b:=by
 obtain⟨P,A,B,Q,rfl,rfl,rfl,rfl,hA,hB,aa⟩:=h;obtain⟨x,rfl⟩:=length_eq_one_iff.1 (show A.length=1 by omega);have E:∀(q:P.length<(P++([x]++(B++Q))).length),(P++([x]++(B++Q)))[P.length]=x:=fun q=>by rw[getElem_append_right w4];simp
 have I:∀k (h:k<B.length) (q:P.length+1+k<(P++([x]++(B++Q))).length),(P++([x]++(B++Q)))[P.length+1+k]=B[k]:=fun k h q=>by
  rw[getElem_append_right w4,getElem_append_right gM,getElem_append_left gM];simp only[length_singleton];congr 1;omega
 have jN:([x]:List Int).length=1:=rfl;rw[jN] at *;obtain⟨t,rfl⟩:∃t,i=P.length+1+t:=⟨i-(P.length+1),by omega⟩
 rw[show P.length+1+t-(P.length+1)=t by omega];have hp:=RH (R:=R) (P:=P) (B:=B) (Q:=Q) (x:=x) (s:=0) (t:=t) ht hB (Nat.zero_le _) w4 (by
  rcases Nat.eq_zero_or_pos t with q|q
  ·exact .inl q
  rcases k1 with k1|⟨p1,O,k1⟩
  ·omega
  ·refine .inr ⟨by omega,?_⟩;have e1:=I (t-1) w4 w4;simp only[show P.length+1+t-1=P.length+1+(t-1) by omega] at k1;rw[E,e1] at k1;exact k1) (by
  rcases k2 with k2|⟨p1,O,k2⟩
  ·exact .inl w4
  rcases Nat.lt_or_ge t B.length with q|q
  ·exact .inr ⟨q,by rw[E,I t q] at k2;exact k2⟩
  exact .inl w4)
 refine⟨P,B,Q,x,rfl,rfl,by omega,rfl,?_⟩;rw[show P.length+(B.length+1)=P.length+1+B.length by omega] at hp;exact hp
theorem Z3(ht:∀{x y z:Int},R x y→R y z→R x z)(h:pF R Lt l a m b)(hm:b=m+1)(h1:a≤i)(h2:i≤m)(k1:i=a∨∃(p:i-1<l.length) (q:m<l.length),R l[i-1] l[m])(k2:i=m∨∃(p:m<l.length) (q:i<l.length),R l[m] l[i]) :
  ∃(P B Q:List Int) (x:Int),P.length=a∧l=Mv P B Q x (m-a)∧i-a≤B.length∧a+B.length=m∧Part R l (Mv P B Q x (i-a)) a b:=by
 obtain⟨P,A,B,Q,rfl,rfl,rfl,rfl,hA,hB,aa⟩:=h;obtain⟨x,rfl⟩:=length_eq_one_iff.1 (show B.length=1 by omega);have E:∀(q:P.length+A.length<(P++(A++([x]++Q))).length),(P++(A++([x]++Q)))[P.length+A.length]=x:=fun q=>by
  rw[getElem_append_right w4,getElem_append_right w4];simp
 have I:∀k (h:k<A.length) (q:P.length+k<(P++(A++([x]++Q))).length),(P++(A++([x]++Q)))[P.length+k]=A[k]:=fun k h q=>by
  rw[getElem_append_right w4,getElem_append_left w4];simp
 have jN:([x]:List Int).length=1:=rfl;rw[jN] at *;obtain⟨t,rfl⟩:∃t,i=P.length+t:=⟨i-P.length,by omega⟩
 rw[show P.length+t-P.length=t by omega,show P.length+A.length-P.length=A.length by omega];have he:P++(A++([x]++Q))=Mv P A Q x A.length:=(by unfold Mv;simp)
 have hp:=RH (R:=R) (P:=P) (B:=A) (Q:=Q) (x:=x) (s:=A.length) (t:=t) ht hA (Nat.le_refl _) w4 (by
  rcases Nat.eq_zero_or_pos t with q|q
  ·exact .inl q
  rcases k1 with k1|⟨p1,O,k1⟩
  ·omega
  ·refine .inr ⟨by omega,?_⟩;have e1:=I (t-1) w4 w4;simp only[show P.length+t-1=P.length+(t-1) by omega] at k1;rw[E,e1] at k1;exact k1) (by
  rcases k2 with k2|⟨p1,O,k2⟩
  ·exact .inl w4
  rcases Nat.lt_or_ge t A.length with q|q
  ·exact .inr ⟨q,by rw[E,I t q] at k2;exact k2⟩
  exact .inl w4)
 refine⟨P,A,Q,x,rfl,he,by omega,rfl,?_⟩;rw[he,show P.length+A.length+1=P.length+(A.length+1) by omega];exact hp
theorem abB(h:t<B.length)(h0:P.length+t<(Mv P B Q x (t+1)).length):(Mv P B Q x (t+1))[P.length+t]=B[t]:=by
 simp only[EC h];rw[Dj _ (yO h).symm]
theorem abC(h:t<B.length)(h0:P.length+t+1<(Mv P B Q x (t+1)).length):(Mv P B Q x (t+1))[P.length+t+1]=x:=by
 simp only[EC h];rw[Dk _ (by rw[yO h])]
theorem adN(h:t<B.length)(ha:P.length=a)(h0:a+t<(Mv P B Q x t).length)(h1:a+t+1<(Mv P B Q x t).length):((Mv P B Q x t).set (a+t) (Mv P B Q x t)[a+t+1]).set (a+t+1) (Mv P B Q x t)[a+t]=Mv P B Q x (t+1):=by
 subst ha;rw[ac8 h,aeQ h,aby h]
theorem adM(h:t<B.length)(ha:P.length=a)(h0:a+t<(Mv P B Q x (t+1)).length)(h1:a+t+1<(Mv P B Q x (t+1)).length):((Mv P B Q x (t+1)).set (a+t+1) (Mv P B Q x (t+1))[a+t]).set (a+t) (Mv P B Q x (t+1))[a+t+1]=Mv P B Q x t:=by
 subst ha;rw[abB h,abC h,ac9 h]

end Go.Proofs.YtbcmjoaggammcaaGreatDoor.So
namespace Go.Proofs.YtbcmjoaggammcaaGreatDoor.So
open List
open Go.Proofs.Tryz
open Go.RowKit V Tw
variable {G:List (Nat×List Value)}
theorem abD(ln cap O fc:Nat)(U:List D)(I:List ag)(cF:Int→Int→Int)(V:Int→Prop)(Lt:Int→Int→Prop)(hc:∀x y,V x→V y→VC Tryz.prog G fc ([.v (.int .i64 x),.v (.int .i64 y)]++U) I (fun r S'=>r = .v (.int .i64 (cF x y))∧S'=I))(Z:∀args w,(callFunc fc args).run Tryz.prog w = .ok (.enter fc args) w)(ht:∀{x y z:Int},Rc cF Lt x y→Rc cF Lt y z→Rc cF Lt x z)(ha:∀x y,0≤cF y x→cF x y≤0)(pc:ln≤cap)(qM:cap≤maxLen)(oF:ln≤1000000)(n:Nat)(ih:∀k,k<n→∀(l:List Int) (a m b:Nat),b-a=k→pF (Rc cF Lt) Lt l a m b→a<m→m<b→l.length=ln→(∀x∈l,V x)→VC Tryz.prog G 148 [.v (.slice (some ⟨O,0,none⟩) ln cap),.v (.int .i64 (a:Nat)),.v (.int .i64 (m:Nat)),.v (.int .i64 (b:Nat)),.eo (.func fc) U] (⟨O,3,cap*1,(l).flatMap cI⟩::I) (fun r S'=>r = .dz []∧∃lz,Part (Rc cF Lt) l lz a b∧S'=⟨O,3,cap*1,(lz).flatMap cI⟩::I))(l:List Int)(a m b:Nat)(hn:b-a=n)(h:pF (Rc cF Lt) Lt l a m b)(h1:a<m)(h2:m<b)(fT:l.length=ln)(hV:∀x∈l,V x):VC Tryz.prog G 148 [.v (.slice (some ⟨O,0,none⟩) ln cap),.v (.int .i64 (a:Nat)),.v (.int .i64 (m:Nat)),.v (.int .i64 (b:Nat)),.eo (.func fc) U] (⟨O,3,cap*1,(l).flatMap cI⟩::I) (fun r S'=>r = .dz []∧∃lz,Part (Rc cF Lt) l lz a b∧S'=⟨O,3,cap*1,(lz).flatMap cI⟩::I):=by
 refine VC.body func148 rfl ntmps148 aO fun X0 w0 aX=>?_;have dr:maxLen=9223372036854775807:=rfl;have hlen:=h.len;refine cM [0,1,2,3,4,28] ?_;refine aP 2 ?_ (h:=by exact(cW rfl ot ot (fU (r:=((m-a:Nat):Int)) qd)));refine bM ?_;refine aq (fun az aG=>?_) (fun az aG=>?_)
 ·have CL:m=a+1:=(by omega)
  refine ae [0,1,3,4,10] ?_;refine ae [0,1,4,10,11] ?_;refine eI [0,1,4] (fun aV _ (E:Nat×Nat) aK=>match E with|(i,j)=>(m≤i)∧(i≤j)∧(j≤b)∧((i=m∨∃(p:i-1<l.length) (q:a<l.length),(Rc cF Lt) l[i-1] l[a]))∧((j=b∨∃(p:a<l.length) (q:j<l.length),(Rc cF Lt) l[a] l[j]))∧aK=(⟨220,(10,.v (.int .i64 (i:Nat)))::(11,.v (.int .i64 (j:Nat)))::aV,(⟨O,3,cap*1,(l).flatMap cI⟩::I)⟩:St)) (fun (E:Nat×Nat)=>match E with|(i,j)=>j-i) (m,b) ⟨(Nat.le_refl _),w4,(Nat.le_refl _),(.inl rfl),(.inl rfl),rfl⟩ ?_;rintro⟨i,j⟩ _ ⟨lZ,WI,hjb,dI,fj,rfl⟩;refine ae [0,1,4,10,11,33] ?_;refine aq (fun aH aU=>?_) (fun aH aU=>?_)
  ·have hh:i<j:=(by omega)
   have hH:((i+j)/2)<l.length:=(by omega)
   have hA:a<l.length:=(by omega)
   refine cM [0,1,4,10,11,12] ?_;refine aP 2 ?_ (h:=by exact(cW rfl ot ot (jW (r:=((i+j:Nat):Int)) zz)));refine aP 0 ?_ (h:=by exact(nX rfl ot (nY (r:=((i+j:Nat):Int)) runUnderlying3 runUnderlying211 (IntWalk.u64_in _ w4))));refine aP 0 ?_ (h:=by exact(cW rfl ot bC (yg w7 Bc)));refine aP 0 ?_ (h:=by exact(nX rfl ot (nY (r:=((((i+j)/2):Nat):Int)) runUnderlying211 runUnderlying3 (wrap_i64 w4 w4))));refine bM ?_;refine CD.seq ?_;refine fE 9 (ap (take 1 _)) ?_ (fun _ h=>(Sublist.map _ (take_sublist _ _)).subset h);refine ax 0 rfl bg ?_;refine ax 1 rfl bg ?_;refine ax 2 rfl bg ?_;refine ax 3 rfl (dy 1 (h:=by first|exact .l (j:=((i+j)/2)) rfl w4|exact .r (j:=((i+j)/2)) rfl w4)) ?_;refine ax 4 rfl eP ?_;refine ax 5 rfl bg ?_;refine ax 6 rfl bg ?_;refine ax 7 rfl (dy 1 (h:=by first|exact .l (j:=a) rfl w4|exact .r (j:=a) rfl w4)) ?_;refine ax 8 rfl eP ?_;refine dg.later rfl ?_;refine ey ?_;refine OD.jY (f:=fc) (args:=[_,_]) (Sf:=I) an rfl rfl ot Z (hc _ _ (hV _ (getElem_mem hH)) (hV _ (getElem_mem hA))) rfl ⟨ot,ot,trivial⟩ (perm_append_singleton _ _).symm ?_;rintro _ S2 ⟨rfl,ig⟩;rw[ig];clear ig;refine OD.perm (perm_append_singleton _ _) ?_;refine aj 220 [0,1,4,10,11,12,50] ?_;refine aq (fun aY bz=>?_) (fun aY bz=>?_)
   ·have wL:(Rc cF Lt) (l[((i+j)/2)]'hH) (l[a]'hA):=El bz;refine cj [0,1,4,10,11] ?_;exact VN
   have zM:(Rc cF Lt) (l[a]'hA) (l[((i+j)/2)]'hH):=EG ha (h.lt (Nat.le_refl _) w4 w4 w4 hA hH) w4;refine cj [0,1,4,10,11] ?_;exact TT
  obtain rfl:i=j:=(by omega)
  obtain⟨P,B,Q,x,hP,hl,hiB,hB,Jw⟩:=abA (R:=Rc cF Lt) (l:=l) (a:=a) (m:=m) (b:=b) (i:=i) ht h CL lZ hjb dI fj;subst hl;have lI:∀t,t≤B.length→(Mv P B Q x (t)).length=ln:=fun t ht=>by rw[ER ht,←fT,ER (Nat.zero_le _)]
  refine ae [0,10,13] ?_;refine eI [0,10] (fun aV _ (t:Nat) aK=>(t≤i-m)∧aK=(⟨220,(13,.v (.int .i64 (a+t:Nat)))::aV,(⟨O,3,cap*1,(Mv P B Q x (t)).flatMap cI⟩::I)⟩:St)) (fun (t:Nat)=>i-m-t) 0 ⟨(Nat.zero_le _),rfl⟩ ?_;rintro t _ ⟨hti,rfl⟩;refine cM [0,10,13,58] ?_;refine aP 2 ?_ (h:=by exact(cW rfl ot bC (fU (r:=((i-1:Nat):Int)) (by rw[show(((i:Nat):Int)-1)=((i-1:Nat):Int) by omega];exact wrap_i64 w4 w4))));refine bM ?_;refine aq (fun bF bY=>?_) (fun bF bY=>?_)
  ·have Ly:t<B.length:=(by omega)
   have ow:=lI t w4;refine CD.skip ?_;refine CD.seq ?_;refine CD.block ?_;refine fE 16 (ap (eraseIdx _ 0)) ?_ (fun _ h=>(Sublist.map _ (eraseIdx_sublist _ 0)).subset h);refine ax 0 rfl bg ?_;refine ax 1 rfl bg ?_;refine ax 2 rfl bg ?_;refine ax 3 rfl bg ?_;refine ax 4 rfl (cW rfl ot bC (jW (r:=((a+t+1:Nat):Int)) (by rw[show(((a+t:Nat):Int)+1)=((a+t+1:Nat):Int) by omega];exact wrap_i64 w4 w4))) ?_;refine ax 5 rfl bg ?_;refine ax 6 rfl bg ?_;refine ax 7 rfl (cW rfl ot bC (jW (r:=((a+t+1:Nat):Int)) (by rw[show(((a+t:Nat):Int)+1)=((a+t+1:Nat):Int) by omega];exact wrap_i64 w4 w4))) ?_;refine ax 8 rfl (dy 1 (h:=by first|exact .l (j:=a+t+1) rfl w4|exact .r (j:=a+t+1) rfl w4)) ?_;refine ax 10 rfl bg ?_;refine ax 11 rfl bg ?_;refine ax 12 rfl (dy 1 (h:=by first|exact .l (j:=a+t) rfl w4|exact .r (j:=a+t) rfl w4)) ?_;refine dg.later rfl ?_;refine AD.two (i:=9) (j:=13) ay ?_ ?_
   ·refine at_ rfl eP ?_;refine AD.one (i:=13) ay ?_;exact Vb
   refine at_ rfl eP ?_;refine AD.one (i:=9) ay ?_;exact Vb
  obtain rfl:t=i-m:=(by omega)
  exact F8
 refine cM [0,1,2,3,4,80] ?_;refine aP 2 ?_ (h:=by exact(cW rfl ot ot (fU (r:=((b-m:Nat):Int)) qd)));refine bM ?_;refine aq (fun cx c8=>?_) (fun cx c8=>?_)
 ·have CL:b=m+1:=(by omega)
  refine ae [0,2,4,14] ?_;refine ae [0,2,4,14,15] ?_;refine eI [0,2,4] (fun aV _ (E:Nat×Nat) aK=>match E with|(i,j)=>(a≤i)∧(i≤j)∧(j≤m)∧((i=a∨∃(p:i-1<l.length) (q:m<l.length),(Rc cF Lt) l[i-1] l[m]))∧((j=m∨∃(p:m<l.length) (q:j<l.length),(Rc cF Lt) l[m] l[j]))∧aK=(⟨220,(14,.v (.int .i64 (i:Nat)))::(15,.v (.int .i64 (j:Nat)))::aV,(⟨O,3,cap*1,(l).flatMap cI⟩::I)⟩:St)) (fun (E:Nat×Nat)=>match E with|(i,j)=>j-i) (a,m) ⟨(Nat.le_refl _),w4,(Nat.le_refl _),(.inl rfl),(.inl rfl),rfl⟩ ?_;rintro⟨i,j⟩ _ ⟨WU,WI,Ma,dI,fj,rfl⟩;refine ae [0,2,4,14,15,85] ?_;refine aq (fun dP er=>?_) (fun dP er=>?_)
  ·have hh:i<j:=(by omega)
   have hH:((i+j)/2)<l.length:=(by omega)
   have hM:m<l.length:=(by omega)
   refine cM [0,2,4,14,15,16] ?_;refine aP 2 ?_ (h:=by exact(cW rfl ot ot (jW (r:=((i+j:Nat):Int)) zz)));refine aP 0 ?_ (h:=by exact(nX rfl ot (nY (r:=((i+j:Nat):Int)) runUnderlying3 runUnderlying211 (IntWalk.u64_in _ w4))));refine aP 0 ?_ (h:=by exact(cW rfl ot bC (yg w7 Bc)));refine aP 0 ?_ (h:=by exact(nX rfl ot (nY (r:=((((i+j)/2):Nat):Int)) runUnderlying211 runUnderlying3 (wrap_i64 w4 w4))));refine bM ?_;refine CD.seq ?_;refine fE 9 (ap (take 1 _)) ?_ (fun _ h=>(Sublist.map _ (take_sublist _ _)).subset h);refine ax 0 rfl bg ?_;refine ax 1 rfl bg ?_;refine ax 2 rfl bg ?_;refine ax 3 rfl (dy 1 (h:=by first|exact .l (j:=m) rfl w4|exact .r (j:=m) rfl w4)) ?_;refine ax 4 rfl eP ?_;refine ax 5 rfl bg ?_;refine ax 6 rfl bg ?_;refine ax 7 rfl (dy 1 (h:=by first|exact .l (j:=((i+j)/2)) rfl w4|exact .r (j:=((i+j)/2)) rfl w4)) ?_;refine ax 8 rfl eP ?_;refine dg.later rfl ?_;refine ey ?_;refine OD.jY (f:=fc) (args:=[_,_]) (Sf:=I) an rfl rfl ot Z (hc _ _ (hV _ (getElem_mem hM)) (hV _ (getElem_mem hH))) rfl ⟨ot,ot,trivial⟩ (perm_append_singleton _ _).symm ?_;rintro _ S2 ⟨rfl,ig⟩;rw[ig];clear ig;refine OD.perm (perm_append_singleton _ _) ?_;refine aj 220 [0,2,4,14,15,16,103] ?_;refine aq (fun eN fR=>?_) (fun eN fR=>?_)
   ·have wL:(Rc cF Lt) (l[((i+j)/2)]'hH) (l[m]'hM):=EG ha (h.lt w4 w4 (Nat.le_refl _) w4 hH hM) w4;refine cj [0,2,4,14,15] ?_;exact VN
   have zM:(Rc cF Lt) (l[m]'hM) (l[((i+j)/2)]'hH):=El fR;refine cj [0,2,4,14,15] ?_;exact TT
  obtain rfl:i=j:=(by omega)
  obtain⟨P,B,Q,x,hP,hl,hiB,hB,Jw⟩:=Z3 (R:=Rc cF Lt) (l:=l) (a:=a) (m:=m) (b:=b) (i:=i) ht h CL WU Ma dI fj;subst hl;have lI:∀t,t≤B.length→(Mv P B Q x (t)).length=ln:=fun t ht=>by rw[ER ht,←fT,ER w4]
  refine ae [0,14,17] ?_;refine eI [0,14] (fun aV _ (t:Nat) aK=>(i-a≤t)∧(t≤m-a)∧aK=(⟨220,(17,.v (.int .i64 (a+t:Nat)))::aV,(⟨O,3,cap*1,(Mv P B Q x (t)).flatMap cI⟩::I)⟩:St)) (fun (t:Nat)=>t) (m-a) ⟨w4,(Nat.le_refl _),rfl⟩ ?_;rintro t _ ⟨hti,htm,rfl⟩;refine ae [0,14,17,110] ?_;refine aq (fun eG fY=>?_) (fun eG fY=>?_)
  ·obtain⟨t,rfl⟩:∃k,t=k+1:=⟨t-1,by omega⟩
   have Ly:t<B.length:=(by omega)
   have ow:=lI (t+1) w4;refine CD.skip ?_;refine CD.seq ?_;refine CD.block ?_;refine fE 16 (ap (eraseIdx _ 0)) ?_ (fun _ h=>(Sublist.map _ (eraseIdx_sublist _ 0)).subset h);refine ax 0 rfl bg ?_;refine ax 1 rfl bg ?_;refine ax 2 rfl bg ?_;refine ax 3 rfl bg ?_;refine ax 4 rfl (cW rfl ot bC (fU (r:=((a+t:Nat):Int)) Ld)) ?_;refine ax 5 rfl bg ?_;refine ax 6 rfl bg ?_;refine ax 7 rfl (cW rfl ot bC (fU (r:=((a+t:Nat):Int)) Ld)) ?_;refine ax 8 rfl (dy 1 (h:=by first|exact .l (j:=a+t) rfl w4|exact .r (j:=a+t) rfl w4)) ?_;refine ax 10 rfl bg ?_;refine ax 11 rfl bg ?_;refine ax 12 rfl (dy 1 (h:=by first|exact .l (j:=a+t+1) rfl w4|exact .r (j:=a+t+1) rfl w4)) ?_;refine dg.later rfl ?_;refine AD.two (i:=9) (j:=13) ay ?_ ?_
   ·refine at_ rfl eP ?_;refine AD.one (i:=13) ay ?_;exact Va
   refine at_ rfl eP ?_;refine AD.one (i:=9) ay ?_;exact Va
  obtain rfl:t=i-a:=(by omega)
  exact F8
 obtain⟨mid,aiG⟩:∃q,q=(a+b)/2:=⟨_,rfl⟩
 refine cM [0,1,2,3,4,18] ?_;refine aP 2 ?_ (h:=by exact(cW rfl ot ot (jW (r:=((a+b:Nat):Int)) zz)));refine aP 0 ?_ (h:=by exact(nX rfl ot (nY (r:=((a+b:Nat):Int)) runUnderlying3 runUnderlying211 (IntWalk.u64_in _ w4))));refine aP 0 ?_ (h:=by exact(cW rfl ot bC (yg w7 Bc)));refine aP 0 ?_ (h:=by exact(nX rfl ot (nY (r:=((mid:Nat):Int)) runUnderlying211 runUnderlying3 (by rw[show(((a+b)/2:Nat):Int)=((mid:Nat):Int) by rw[aiG]];exact wrap_i64 w4 w4))));refine bM ?_;refine cM [0,1,2,3,4,18,19] ?_;refine aP 2 ?_ (h:=by exact(cW rfl ot ot (jW (r:=((mid+m:Nat):Int)) zz)));refine bM ?_;refine ae [0,1,2,3,4,18,19] ?_;refine jz [0,1,2,3,4,18,19] (fun aV tW aK=>∃(s0:Nat),∃(r0:Nat),((mid<m∧s0=mid+m-b∧r0=mid)∨(m≤mid∧s0=a∧r0=m))∧aK=(⟨220,(20,.v (.int .i64 (s0:Nat)))::(21,.v (.int .i64 (r0:Nat)))::aV,tW⟩:St)) ?_ ?_
 ·refine ae [0,1,2,3,4,18,19,140] ?_;refine aq (fun kR td=>?_) (fun kR td=>?_)
  ·refine cM [0,1,2,3,4,18,19,20] ?_;refine aP 2 ?_ (h:=by exact(cW rfl ot ot (fU (r:=(((mid+m)-b:Nat):Int)) qd)));refine bM ?_;refine cj [0,1,2,3,4,18,19,20,21] ?_;refine⟨_,aM,(mid+m-b),mid,(.inl ⟨by omega,rfl,rfl⟩),rfl⟩
  refine ae [0,1,2,3,4,18,19,20] ?_;refine cj [0,1,2,3,4,18,19,20,21] ?_;refine⟨_,aM,a,m,(.inr ⟨by omega,rfl,rfl⟩),rfl⟩
 rintro _ ⟨s0,r0,GH,rfl⟩;refine cM [0,1,2,3,4,18,19,20,21,22] ?_;refine aP 1 ?_ (h:=by exact(cW rfl ot bC (fU (r:=(((mid+m)-1:Nat):Int)) (by rw[show((((mid+m):Nat):Int)-1)=(((mid+m)-1:Nat):Int) by omega];exact wrap_i64 w4 w4))));refine bM ?_;refine eI [0,1,2,3,4,18,19,22] (fun aV _ (E:Nat×Nat) aK=>match E with|(s,r)=>(s0≤s)∧(s≤r)∧(r≤r0)∧((s=s0∨∃(p:s-1<l.length) (q:mid+m-s<l.length),(Rc cF Lt) l[s-1] l[mid+m-s]))∧((r=r0∨∃(p:mid+m-r-1<l.length) (q:r<l.length),(Rc cF Lt) l[mid+m-r-1] l[r]))∧aK=(⟨220,(20,.v (.int .i64 (s:Nat)))::(21,.v (.int .i64 (r:Nat)))::aV,(⟨O,3,cap*1,(l).flatMap cI⟩::I)⟩:St)) (fun (E:Nat×Nat)=>match E with|(s,r)=>r-s) (s0,r0) ⟨(Nat.le_refl _),w4,(Nat.le_refl _),(.inl rfl),(.inl rfl),rfl⟩ ?_;rintro⟨s,r⟩ _ ⟨oF,an8,WW,dI,fj,rfl⟩;refine ae [0,1,2,3,4,18,19,20,21,22,151] ?_;refine aq (fun sC wF=>?_) (fun sC wF=>?_)
 ·have hh:s<r:=(by omega)
  have hC:((s+r)/2)<l.length:=(by omega)
  have hQ:(mid+m-1-((s+r)/2))<l.length:=(by omega)
  refine cM [0,1,2,3,4,18,19,20,21,22,23] ?_;refine aP 2 ?_ (h:=by exact(cW rfl ot ot (jW (r:=((s+r:Nat):Int)) zz)));refine aP 0 ?_ (h:=by exact(nX rfl ot (nY (r:=((s+r:Nat):Int)) runUnderlying3 runUnderlying211 (IntWalk.u64_in _ w4))));refine aP 0 ?_ (h:=by exact(cW rfl ot bC (yg w7 Bc)));refine aP 0 ?_ (h:=by exact(nX rfl ot (nY (r:=((((s+r)/2):Nat):Int)) runUnderlying211 runUnderlying3 (wrap_i64 w4 w4))));refine bM ?_;refine CD.seq ?_;refine fE 11 (ap (take 1 _)) ?_ (fun _ h=>(Sublist.map _ (take_sublist _ _)).subset h);refine ax 0 rfl bg ?_;refine ax 1 rfl bg ?_;refine ax 2 rfl bg ?_;refine ax 3 rfl bg ?_;refine ax 4 rfl (cW rfl ot ot (fU (r:=(((mid+m-1)-((s+r)/2):Nat):Int)) qd)) ?_;refine ax 5 rfl (dy 1 (h:=by first|exact .l (j:=(mid+m-1-((s+r)/2))) rfl w4|exact .r (j:=(mid+m-1-((s+r)/2))) rfl w4)) ?_;refine ax 6 rfl eP ?_;refine ax 7 rfl bg ?_;refine ax 8 rfl bg ?_;refine ax 9 rfl (dy 1 (h:=by first|exact .l (j:=((s+r)/2)) rfl w4|exact .r (j:=((s+r)/2)) rfl w4)) ?_;refine ax 10 rfl eP ?_;refine dg.later rfl ?_;refine ey ?_;refine OD.jY (f:=fc) (args:=[_,_]) (Sf:=I) an rfl rfl ot Z (hc _ _ (hV _ (getElem_mem hQ)) (hV _ (getElem_mem hC))) rfl ⟨ot,ot,trivial⟩ (perm_append_singleton _ _).symm ?_;rintro _ S2 ⟨rfl,ig⟩;rw[ig];clear ig;refine OD.perm (perm_append_singleton _ _) ?_
  refine aj 220 [0,1,2,3,4,18,19,20,21,22,23,171] ?_;refine aq (fun s6 rC=>?_) (fun s6 rC=>?_)
  ·have aiH:(Rc cF Lt) (l[((s+r)/2)]'hC) (l[(mid+m-1-((s+r)/2))]'hQ):=EG ha (h.lt w4 w4 w4 w4 hC hQ) w4;have wL:(Rc cF Lt) (l[((s+r)/2)+1-1]'w4) (l[mid+m-(((s+r)/2)+1)]'w4):=(by simpa only[show((s+r)/2)+1-1=((s+r)/2) by omega,show mid+m-(((s+r)/2)+1)=(mid+m-1-((s+r)/2)) by omega] using aiH)
   refine cj [0,1,2,3,4,18,19,20,21,22] ?_;refine⟨((((s+r)/2)+1),r),_,cz,aM,w4,w4,w4,(.inr ⟨by omega,by omega,wL⟩),fj,rfl⟩
  have aiI:(Rc cF Lt) (l[(mid+m-1-((s+r)/2))]'hQ) (l[((s+r)/2)]'hC):=El rC;have zM:(Rc cF Lt) (l[mid+m-((s+r)/2)-1]'w4) (l[((s+r)/2)]'w4):=(by simpa only[show mid+m-((s+r)/2)-1=(mid+m-1-((s+r)/2)) by omega] using aiI)
  refine cj [0,1,2,3,4,18,19,20,21,22] ?_;refine⟨(s,((s+r)/2)),_,cz,aM,w4,w4,w4,dI,(.inr ⟨by omega,by omega,zM⟩),rfl⟩
 obtain rfl:s=r:=(by omega)
 obtain⟨l1,qa,J7⟩:=ada (R:=Rc cF Lt) (l:=l) (a:=a) (m:=m) (b:=b) (s:=s) (e:=mid+m-s) (mid:=mid) ht h w4 w4 w4 w4 w4 (by rcases dI with q|q;(rcases GH with q2|q2;exact .inr (.inl w4);exact .inl w4);exact .inr (.inr q)) (by rcases fj with q|q;(rcases GH with q2|q2;exact .inl w4;exact .inr (.inl w4));exact .inr (.inr q));have jN:=J7.len.2.2;refine cM [0,1,2,3,4,18,20,24] ?_;refine aP 2 ?_ (h:=by exact(cW rfl ot ot (fU (r:=(((mid+m)-s:Nat):Int)) qd)));refine bM ?_;refine jz [0,1,3,4,18,20,24] (fun aV _ aK=>aK=(⟨220,aV,(⟨O,3,cap*1,(l1).flatMap cI⟩::I)⟩:St)) ?_ ?_
 ·refine aC 4 ?_;refine bS 181 (fun af5 aeR=>?_) (fun af5 aeR=>?_)
  ·refine aZ [0,1,2,3,4,18,20,24,185] ?_;refine aq (fun oZ sW=>?_) (fun oZ sW=>?_)
   ·refine dw 5 ?_;refine OD.call (R:=I) an rfl rfl rfl call173 (aeP l l1 ln s m (mid+m-s) cap O (.eo (.func fc) U) [] J7 w4 w4 fT pc w4) ⟨ot,ot,ot,ot,ot,trivial⟩ (Perm.refl _) ?_;rintro _ _ ⟨rfl,rfl⟩;refine aj 220 [0,1,3,4,18,20,24] ?_;refine⟨_,aM,rfl⟩
   exact z105
  refine aZ [0,1,2,3,4,18,20,24,185] ?_;refine fF ?_;exact z105
 rintro _ ⟨rfl⟩;refine jz [0,3,4,18,24] (fun aV _ aK=>∃(l2:List Int),(Part (Rc cF Lt) l1 l2 a mid)∧aK=(⟨220,aV,(⟨O,3,cap*1,(l2).flatMap cI⟩::I)⟩:St)) ?_ ?_
 ·refine aC 4 ?_;refine bS 195 (fun af6 aeS=>?_) (fun af6 aeS=>?_)
  ·refine aZ [0,1,3,4,18,20,24,199] ?_;refine aq (fun yP Jr=>?_) (fun yP Jr=>?_)
   ·refine dw 5 ?_;refine OD.call (R:=[]) an rfl rfl rfl call148 (ih (mid-a) w4 l1 a s mid rfl (adb qa) w4 w4 (jN.trans fT) (fun z hz=>hV z (qa.perm.subset hz))) ⟨ot,ot,ot,ot,ot,trivial⟩ oA ?_;rintro _ _ ⟨rfl,l2,nR,rfl⟩;refine OD.perm (S':=⟨O,3,cap*1,(l2).flatMap cI⟩::I) oA ?_;refine aj 220 [0,3,4,18,24] ?_;refine⟨_,aM,l2,nR,rfl⟩
   refine CD.skip ?_;refine⟨_,aM,l1,(Qj qa w4),rfl⟩
  refine aZ [0,1,3,4,18,20,24,199] ?_;refine fF ?_;refine CD.skip ?_;refine⟨_,aM,l1,(Qj qa w4),rfl⟩
 rintro _ ⟨l2,nR,rfl⟩;refine aC 4 ?_;refine bS 209 (fun af7 aeT=>?_) (fun af7 aeT=>?_)
 ·refine aZ [0,3,4,18,24,213] ?_;refine aq (fun Br Js=>?_) (fun Br Js=>?_)
  ·refine dw 5 ?_;refine OD.call (R:=[]) an rfl rfl rfl call148 (ih (b-mid) w4 l2 mid (mid+m-s) b rfl (abz qa nR) w4 w4 (nR.len.trans (jN.trans fT)) (fun z hz=>hV z (qa.perm.subset (nR.perm.subset hz)))) ⟨ot,ot,ot,ot,ot,trivial⟩ oA ?_;rintro _ _ ⟨rfl,l3,Vp,rfl⟩;refine OD.perm (S':=⟨O,3,cap*1,(l3).flatMap cI⟩::I) oA ?_;refine aj 220 [] ?_;exact F8
  exact F8
 refine aZ [0,3,4,18,24,213] ?_;refine fF ?_;refine aJ _ ?_;first|exact⟨rfl,_,Jw,rfl⟩|exact⟨rfl,_,En qa nR Vp,rfl⟩|exact⟨rfl,_,En qa nR (NV qa nR w4),rfl⟩
theorem SQ(I cap bd O:Nat)(E:List D)(U:List ag)(cF:Int→Int→Int)(V:Int→Prop)(Lt:Int→Int→Prop)(hc:∀x y,V x→V y→VC Tryz.prog G O ([.v (.int .i64 x),.v (.int .i64 y)]++E) U (fun r S'=>r = .v (.int .i64 (cF x y))∧S'=U))(Z:∀args w,(callFunc O args).run Tryz.prog w = .ok (.enter O args) w)(ht:∀{x y z:Int},Rc cF Lt x y→Rc cF Lt y z→Rc cF Lt x z)(ha:∀x y,0≤cF y x→cF x y≤0)(pc:I≤cap)(qM:cap≤maxLen)(oF:I≤1000000):∀(n:Nat) (l:List Int) (a m b:Nat),b-a=n→pF (Rc cF Lt) Lt l a m b→a<m→m<b→l.length=I→(∀x∈l,V x)→VC Tryz.prog G 148 [.v (.slice (some ⟨bd,0,none⟩) I cap),.v (.int .i64 (a:Nat)),.v (.int .i64 (m:Nat)),.v (.int .i64 (b:Nat)),.eo (.func O) E] (⟨bd,3,cap*1,(l).flatMap cI⟩::U) (fun r S'=>r = .dz []∧∃lz,Part (Rc cF Lt) l lz a b∧S'=⟨bd,3,cap*1,(lz).flatMap cI⟩::U):=fun n=>Nat.strongRecOn n (abD I cap bd O E U cF V Lt hc Z ht ha pc qM oF)

end Go.Proofs.YtbcmjoaggammcaaGreatDoor.So
namespace Go.Proofs.YtbcmjoaggammcaaGreatDoor.So
/-
  IW,plainly,part 5: at mQ am9,in parts of amL.
-/
open List
open Go.Proofs.Tryz
variable {R Lt:Int→Int→Prop} {l l1 cur nk:List Int} {a b m n k:Nat}
theorem HA(h:Part R l l1 a b):l1.drop b=l.drop b:=by
 obtain⟨P,M,E,Q,rfl,rfl,rfl,rfl,hp,_⟩:=h;rw[←append_assoc,drop_left' (by rw[length_append]),←append_assoc,drop_left' (by rw[length_append,hp.length_eq])]
theorem Qk(h:Part R l l1 a a):l1=l:=by
 obtain⟨P,M,E,Q,rfl,rfl,rfl,h1,hp,_⟩:=h;have hl:=hp.length_eq;rw[length_eq_zero_iff.1 (show M.length=0 by omega),length_eq_zero_iff.1 (show E.length=0 by omega)]
theorem H8(h:Part R l l1 0 n)(hn:l.length=n):l1.Perm l∧l1.Pairwise R:=by
 refine⟨h.perm,?_⟩;obtain⟨P,M,E,Q,rfl,rfl,h1,h2,hp,hs⟩:=h;have hl:=hp.length_eq;simp only[length_append] at hn;rw[length_eq_zero_iff.1 h1,length_eq_zero_iff.1 (show Q.length=0 by omega)];simpa using hs
def xI(R:Int→Int→Prop)(l cur:List Int)(k:Nat):Prop:=(k=0∧cur=l)∨(k=1∧Part R l cur 0 20)∨(k=2∧∃l1,Part R l l1 0 20∧Part R l1 cur 20 40)
def FG(R:Int→Int→Prop)(l cur:List Int)(n:Nat):Prop:=∃l1,Part R l l1 0 20∧Part R l1 cur 20 n
theorem xI.perm(h:xI R l cur k):cur.Perm l:=by
 rcases h with ⟨_,rfl⟩|⟨_,h⟩|⟨_,l1,h1,h2⟩
 ·exact .refl _
 ·exact h.perm
 exact h2.perm.trans h1.perm
theorem abE(h:xI R l cur k)(hk:k≤1)(hp:Part R cur nk (20*k) (20*(k+1))):xI R l nk (k+1):=by
 rcases h with ⟨rfl,rfl⟩|⟨rfl,h⟩|⟨rfl,_⟩
 ·exact .inr (.inl ⟨rfl,hp⟩)
 ·exact .inr (.inr ⟨rfl,_,h,hp⟩)
 omega
theorem abF(h:xI R l cur k):cur.drop (20*k)=l.drop (20*k):=by
 rcases h with ⟨rfl,rfl⟩|⟨rfl,h⟩|⟨rfl,l1,h1,h2⟩
 ·rfl
 ·exact HA h
 rw[HA h2];have:=congrArg (drop 20) (HA h1);rw[drop_drop,drop_drop] at this;exact this
theorem ade(h:xI R l cur k)(h1:20*k≤n)(h2:n<20*(k+1))(h3:n≤40)(hl:l.length=n)(hp:Part R cur nk (20*k) n):(n≤20∧nk.Perm l∧nk.Pairwise R)∨(20<n∧FG R l nk n):=by
 rcases h with ⟨rfl,rfl⟩|⟨rfl,h⟩|⟨rfl,l1,p1,E⟩
 ·exact .inl ⟨by omega,H8 hp hl⟩
 ·rcases Nat.lt_or_ge 20 n with q|q
  ·exact .inr ⟨q,_,h,hp⟩
  obtain rfl:n=20:=(by omega)
  rw[Qk hp];exact .inl ⟨q,H8 h hl⟩
 obtain rfl:n=40:=(by omega)
 rw[Qk hp];exact .inr ⟨by omega,_,p1,E⟩
theorem abG(h:FG R l cur n)(hq:l.Pairwise Lt):pF R Lt cur 0 20 n:=by
 obtain⟨l1,⟨P,M,M0,Q,rfl,rfl,h1,h2,hp,hs⟩,p2⟩:=h;obtain rfl:=length_eq_zero_iff.1 h1;obtain⟨O,U,Z,I,rfl,h4,h5,h6,nR,E⟩:=p2;obtain⟨e1,e2⟩:=append_inj (show M++Q=O++(Z++I) from h4) w4;subst e1 e2;rw[nil_append,pairwise_append] at hq;exact⟨[],M,U,I,by simp,rfl,by omega,by omega,hs,E,fun x hx y hy=>hq.2.2 x (hp.subset hx) y (mem_append_left _ (nR.subset hy))⟩
theorem Ql(h:FG R l cur n)(hp:Part R cur nk 0 n)(hl:l.length=n):nk.Perm l∧nk.Pairwise R:=by
 obtain⟨l1,p1,p2⟩:=h;have:=H8 hp (by rw[p2.len,p1.len,hl]);exact⟨this.1.trans (p2.perm.trans p1.perm),this.2⟩

end Go.Proofs.YtbcmjoaggammcaaGreatDoor.So
namespace Go.Proofs.YtbcmjoaggammcaaGreatDoor.So
open List
open Go.Proofs.Tryz
open Go.RowKit V Tw
variable {G:List (Nat×List Value)}
theorem Z4(I cap U fc:Nat)(O:List D)(Z:List ag)(cF:Int→Int→Int)(V:Int→Prop)(Lt:Int→Int→Prop)(hc:∀x y,V x→V y→VC Tryz.prog G fc ([.v (.int .i64 x),.v (.int .i64 y)]++O) Z (fun r S'=>r = .v (.int .i64 (cF x y))∧S'=Z))(uV:∀args w,(callFunc fc args).run Tryz.prog w = .ok (.enter fc args) w)(ht:∀{x y z:Int},Rc cF Lt x y→Rc cF Lt y z→Rc cF Lt x z)(ha:∀x y,0≤cF y x→cF x y≤0)(pc:I≤cap)(qM:cap≤maxLen)(oF:I≤40)(l:List Int)(hq:l.Pairwise Lt)(fT:l.length=I)(hV:∀x∈l,V x):VC Tryz.prog G 122 [.v (.slice (some ⟨U,0,none⟩) I cap),.v (.int .i64 (I:Nat)),.eo (.func fc) O] (⟨U,3,cap*1,(l).flatMap cI⟩::Z) (fun r S'=>r = .dz []∧∃(lz:List Int),(lz.Perm l∧lz.Pairwise (Rc cF Lt))∧S'=⟨U,3,cap*1,(lz).flatMap cI⟩::Z):=by
 refine VC.body func122 rfl ntmps122 aO fun X0 w0 aX=>?_;have dr:maxLen=9223372036854775807:=rfl;refine ae [0,1,2,6] ?_;refine ae [0,1,2,6,7,8] ?_;refine CD.seq ?_;refine CD.block ?_;refine mB (fun (E:Nat×List Int) aK=>match E with|(k,cur)=>(20*k≤I)∧(xI (Rc cF Lt) l cur k)∧aK=(⟨63,[(0,.v (.slice (some ⟨U,0,none⟩) I cap)),(1,.v (.int .i64 (I:Nat))),(2,.eo (.func fc) O),(6,.v (.int .i64 20)),(7,.v (.int .i64 (20*k:Nat))),(8,.v (.int .i64 (20*(k+1):Nat)))],(⟨U,3,cap*1,(cur).flatMap cI⟩::Z)⟩:St)) (fun (E:Nat×List Int)=>match E with|(k,cur)=>3-k) (0,l) ⟨(Nat.zero_le _),(.inl ⟨rfl,rfl⟩),rfl⟩ (aM (h:=by repeat (first|exact trivial|refine⟨(by (repeat (first|exact fm|(apply fK;focus (first|rfl|(rw[show(20*(k+1):Nat)=20*k+20 by omega];rfl)|(simp;done)|(congr 3;omega)))|(apply fu;focus rfl)));done),?_⟩))) ?_;rintro⟨k,cur⟩ _ ⟨hk,fq,rfl⟩;have kV:=fq.perm.length_eq;have r9:(cur.drop (20*k)).Pairwise Lt:=(by rw[abF fq];exact hq.drop)
 have Dl:∀x∈cur,V x:=fun x hx=>hV x (fq.perm.subset hx);refine ae [0,1,2,6,7,8,13] ?_;refine aq (fun az aG=>?_) (fun az aG=>?_)
 ·have xH:20*(k+1)≤I:=(by omega)
  refine aC 4 ?_;refine OD.call (R:=[]) an rfl rfl rfl call147 (SP cur I (20*k) (20*(k+1)) cap U fc O Z cF V Lt Dl hc uV ht ha r9 w4 w4 w4 pc qM w4) ⟨ot,ot,ot,ot,trivial⟩ oA ?_;rintro _ _ ⟨rfl,c1,aiJ,rfl⟩;refine OD.perm (S':=⟨U,3,cap*1,(c1).flatMap cI⟩::Z) oA ?_;refine aj 63 [0,1,2,6,8] ?_;refine ae [0,1,2,6,7,8] ?_;refine ie [0,1,2,6,7,8] ?_;refine aP 2 ?_ (h:=by exact(cW rfl ot ot (jW (r:=((20*(k+1+1):Nat):Int)) (by rw[show(((20*(k+1):Nat):Int)+20)=((20*(k+1+1):Nat):Int) by omega];exact wrap_i64 w4 w4))));refine bM ?_;refine⟨((k+1),c1),_,cz,(aM (h:=by repeat (first|exact trivial|refine⟨(by (repeat (first|exact fm|(apply fK;focus (first|rfl|(rw[show(20*(k+1):Nat)=20*k+20 by omega];rfl)|(simp;done)|(congr 3;omega)))|(apply fu;focus rfl)));done),?_⟩))),w4,(abE fq w4 aiJ),rfl⟩
 have xH:I<20*(k+1):=(by omega)
 refine aC 4 ?_;refine OD.call (R:=[]) an rfl rfl rfl call147 (SP cur I (20*k) I cap U fc O Z cF V Lt Dl hc uV ht ha r9 w4 w4 w4 pc qM w4) ⟨ot,ot,ot,ot,trivial⟩ oA ?_;rintro _ _ ⟨rfl,c2,UG,rfl⟩;refine OD.perm (S':=⟨U,3,cap*1,(c2).flatMap cI⟩::Z) oA ?_;have fa:=ade fq hk xH oF fT UG;have UH:c2.Perm l:=UG.perm.trans fq.perm;refine aj 63 [0,1,2,6] ?_;refine eI [0,1,2] (fun aV _ (E:Nat×List Int) aK=>match E with|(q,cur)=>((q=20∧cur=c2)∨(q=40∧(cur.Perm l∧cur.Pairwise (Rc cF Lt))))∧aK=(⟨63,(6,.v (.int .i64 (q:Nat)))::aV,(⟨U,3,cap*1,(cur).flatMap cI⟩::Z)⟩:St)) (fun (E:Nat×List Int)=>match E with|(q,cur)=>40-q) (20,c2) ⟨(.inl ⟨rfl,rfl⟩),rfl⟩ ?_;rintro⟨q,cur⟩ _ ⟨CM,rfl⟩;refine ae [0,1,2,6,30] ?_;refine aq (fun aH aU=>?_) (fun aH aU=>?_)
 ·obtain⟨rfl,rfl⟩:q=20∧cur=c2:=(by (rcases CM with h|h;exact h;omega))
  have JV:FG (Rc cF Lt) l cur I:=(by (rcases fa with h|h;omega;exact h.2))
  have UI:=abG JV hq;have kV:=UH.length_eq;have Dl:∀x∈cur,V x:=fun x hx=>hV x (UH.subset hx);refine ae [0,1,2,6,7,8] ?_;refine eI [0,1,2,6] (fun aV _ (E:Nat×List Int) aK=>match E with|(j,c3)=>((j=0∧c3=cur)∨(j=1∧I=40∧(c3.Perm l∧c3.Pairwise (Rc cF Lt))))∧aK=(⟨63,(7,.v (.int .i64 (40*j:Nat)))::(8,.v (.int .i64 (40*(j+1):Nat)))::aV,(⟨U,3,cap*1,(c3).flatMap cI⟩::Z)⟩:St)) (fun (E:Nat×List Int)=>match E with|(j,c3)=>1-j) (0,cur) ⟨(.inl ⟨rfl,rfl⟩),rfl⟩ ?_;rintro⟨j,c3⟩ _ ⟨qf,rfl⟩;refine ae [0,1,2,6,7,8,35] ?_;refine aq (fun aY bz=>?_) (fun aY bz=>?_)
  ·obtain⟨qe,rfl⟩:j=0∧c3=cur:=(by (rcases qf with h|h;exact h;omega))
   have Ku:I=40:=(by omega)
   refine aC 4 ?_;refine bJ (cW rfl ot ot (jW (r:=((20:Nat):Int)) (by rw[qe];rfl))) ?_;refine aD 2 ?_;have ana:=Ku;refine OD.call (R:=[]) an rfl rfl rfl call148 (SQ I cap U fc O Z cF V Lt hc uV ht ha pc qM w4 _ c3 (40*j) 20 (40*(j+1)) rfl (by rw[show 40*j=0 by omega,show 40*(j+1)=I by omega];exact UI) w4 w4 w4 Dl) ⟨ot,ot,ot,ot,ot,trivial⟩ oA ?_;rintro _ _ ⟨rfl,c5,aiK,rfl⟩;refine OD.perm (S':=⟨U,3,cap*1,(c5).flatMap cI⟩::Z) oA ?_;have aiL:Part (Rc cF Lt) c3 c5 0 I:=(by have:=aiK;rwa [show 40*j=0 by omega,show 40*(j+1)=I by omega] at this)
   refine aj 63 [0,1,2,6,8] ?_;refine ae [0,1,2,6,7,8] ?_;refine cj [0,1,2,6,7,8] ?_;refine⟨(1,c5),_,cz,aM,(.inr ⟨rfl,Ku,Ql JV aiL fT⟩),rfl⟩
  refine CD.exit ?_;refine jz [0,1,2,6] (fun aV _ aK=>∃(c4:List Int),((c4.Perm l∧c4.Pairwise (Rc cF Lt)))∧aK=(⟨63,aV,(⟨U,3,cap*1,(c4).flatMap cI⟩::Z)⟩:St)) ?_ ?_
  ·refine cM [0,1,2,6,7,9] ?_;refine aP 2 ?_ (h:=by exact(cW rfl ot ot (jW (r:=((40*j+20:Nat):Int)) (by rw[show(((40*j:Nat):Int)+((20:Nat):Int))=((40*j+20:Nat):Int) by omega];exact wrap_i64 w4 w4))));refine bM ?_;refine ae [0,1,2,6,7,9,54] ?_;refine aq (fun bF bY=>?_) (fun bF bY=>?_)
   ·obtain⟨qe,rfl⟩:j=0∧c3=cur:=(by (rcases qf with h|h;exact h;omega))
    refine dw 5 ?_;refine OD.call (R:=[]) an rfl rfl rfl call148 (SQ I cap U fc O Z cF V Lt hc uV ht ha pc qM w4 _ c3 (40*j) (40*j+20) I rfl (by rw[show 40*j=0 by omega];exact UI) w4 w4 w4 Dl) ⟨ot,ot,ot,ot,ot,trivial⟩ oA ?_;rintro _ _ ⟨rfl,c6,aiM,rfl⟩;refine OD.perm (S':=⟨U,3,cap*1,(c6).flatMap cI⟩::Z) oA ?_;have aiN:Part (Rc cF Lt) c3 c6 0 I:=(by have:=aiM;rwa [show 40*j=0 by omega] at this)
    refine aj 63 [0,1,2,6] ?_;refine⟨_,aM,c6,(Ql JV aiN fT),rfl⟩
   have GH:(c3.Perm l∧c3.Pairwise (Rc cF Lt)):=(by (rcases qf with h|h;omega;exact h.2.2))
   refine CD.skip ?_;refine⟨_,aM,c3,GH,rfl⟩
  rintro _ ⟨c4,cx,rfl⟩;refine cj [0,1,2,6] ?_;refine⟨(40,c4),_,cz,aM,(.inr ⟨rfl,cx⟩),rfl⟩
 have nO:(cur.Perm l∧cur.Pairwise (Rc cF Lt)):=(by (rcases CM with ⟨rfl,rfl⟩|h;(rcases fa with h|h;exact h.2;omega);exact h.2))
 refine aJ _ ?_;exact⟨rfl,_,nO,rfl⟩
theorem adf(O cap U Z:Nat)(E:List D)(I:List ag)(cF:Int→Int→Int)(V:Int→Prop)(Lt:Int→Int→Prop)(hc:∀x y,V x→V y→VC Tryz.prog G Z ([.v (.int .i64 x),.v (.int .i64 y)]++E) I (fun r S'=>r = .v (.int .i64 (cF x y))∧S'=I))(uV:∀args w,(callFunc Z args).run Tryz.prog w = .ok (.enter Z args) w)(ht:∀{x y z:Int},Rc cF Lt x y→Rc cF Lt y z→Rc cF Lt x z)(ha:∀x y,0≤cF y x→cF x y≤0)(pc:O≤cap)(qM:cap≤maxLen)(oF:O≤40)(l:List Int)(hq:l.Pairwise Lt)(fT:l.length=O)(hV:∀x∈l,V x):VC Tryz.prog G 88 [.v (.slice (some ⟨U,0,none⟩) O cap),.eo (.func Z) E] (⟨U,3,cap*1,(l).flatMap cI⟩::I) (fun r S'=>r = .dz []∧∃(lz:List Int),(lz.Perm l∧lz.Pairwise (Rc cF Lt))∧S'=⟨U,3,cap*1,(lz).flatMap cI⟩::I):=by
 refine VC.body func88 rfl ntmps88 aO fun X0 w0 aX=>?_;have dr:maxLen=9223372036854775807:=rfl;refine dw 4 ?_;refine OD.call (R:=[]) an rfl rfl rfl call122 (Z4 O cap U Z E I cF V Lt hc uV ht ha pc qM oF l hq fT hV) ⟨ot,ot,ot,trivial⟩ oA ?_;rintro _ _ ⟨rfl,lz,xC,rfl⟩;refine OD.perm (S':=⟨U,3,cap*1,(lz).flatMap cI⟩::I) oA ?_;refine aj 9 [] ?_;refine aJ _ ?_;exact⟨rfl,_,xC,rfl⟩

end Go.Proofs.YtbcmjoaggammcaaGreatDoor.So
namespace Go.Proofs.YtbcmjoaggammcaaGreatDoor.Ba
open List
open Go.Proofs.Tryz
open Go.RowKit V Pk Tr Vl Go.Proofs.YtbcmjoaggammcaaGreatDoor.Nm Pc Cd Ex Tw Go.Proofs.YtbcmjoaggammcaaGreatDoor.So
/-! ### The order of values -/
variable {t:aT} {o n:Nat} {i k:Int}
theorem adg(a b:Vl):gj a b<0↔a.k<b.k∨(a.k=b.k∧(a.n<b.n∨(a.n=b.n∧Go.Lib.compareBytes a.s.data.toList b.s.data.toList<0))):=by
 exact VB
theorem OO{a b:Vl}(h:gj a b=0):a=b:=by
 unfold gj cmpL iy iy iy iy at h;have hs:a.k=b.k∧a.n=b.n∧Go.Lib.compareBytes a.s.data.toList b.s.data.toList=0:=by
  rcases xP a.k b.k with ⟨h1,h2⟩|⟨h1,h2⟩|⟨h1,h2⟩<;>rcases xP a.n b.n with ⟨k1,k2⟩|⟨k1,k2⟩|⟨k1,k2⟩<;>simp only[h1,k1] at h<;>(repeat' split at h)<;>first|omega|(refine⟨h2,k2,?_⟩;omega)
 obtain⟨e1,e2,E⟩:=hs;obtain⟨k,n,s⟩:=a;obtain⟨k',n',s'⟩:=b;simp only at e1 e2 E;subst e1 e2;rw[Iq (JM.1 E)]
theorem RI{a b c:Vl}(h1:gj a b<0)(h2:gj b c<0):gj a c<0:=by
 rw[adg] at h1 h2 ⊢;rcases h1 with h1|⟨h1,h1|⟨E,h1⟩⟩<;>rcases h2 with h2|⟨h2,h2|⟨I,h2⟩⟩<;>first|omega|(refine .inr ⟨by omega,.inr ⟨by omega,?_⟩⟩;exact l9 h1 h2)
def cellAt(t:aT)(o:Nat)(i:Int):Vl:=(rowAt t i).getD o bE
def lq(t:aT)(down:Bool)(o:Nat)(i k:Int):Int:=if down=true then -(gj (cellAt t o i) (cellAt t o k)) else gj (cellAt t o i) (cellAt t o k)
def GI(t:aT)(i k:Int):Prop:=bP (dj (rowAt t i)) (dj (rowAt t k))
theorem OP(t:aT)(down:Bool)(o:Nat)(i k:Int):lq t down o k i = -(lq t down o i k):=by
 unfold lq;rw[DO (cellAt t o i) (cellAt t o k)];split<;>omega
theorem adi{down:Bool}{l:Int}(h1:lq t down o i k<0)(h2:lq t down o k l<0):lq t down o i l<0:=by
 unfold lq at *;split at h1
 ·rename_i hd;rw[if_pos hd] at h2 ⊢;have e1:=DO (cellAt t o i) (cellAt t o k);have e2:=DO (cellAt t o k) (cellAt t o l);have E:=DO (cellAt t o i) (cellAt t o l);have:=RI (a:=cellAt t o l) (b:=cellAt t o k) (c:=cellAt t o i) w4 w4;omega
 rename_i hd;rw[if_neg hd] at h2 ⊢;exact RI h1 h2
theorem HB{down:Bool}(h:lq t down o i k=0):cellAt t o i=cellAt t o k:=by
 unfold lq at h;split at h
 ·exact OO w4
 exact OO h
theorem RJ{down:Bool}(h:cellAt t o i=cellAt t o k)(l:Int):lq t down o i l=lq t down o k l:=by unfold lq;rw[h]
theorem abH{down:Bool}(h:cellAt t o i=cellAt t o k)(l:Int):lq t down o l i=lq t down o l k:=by unfold lq;rw[h]
abbrev vo(t:aT)(down:Bool)(o:Nat):Int→Int→Prop:=Rc (lq t down o) (GI t)
theorem aeU(t:aT)(down:Bool)(o:Nat){x y z:Int}(h1:vo t down o x y)(h2:vo t down o y z):vo t down o x z:=by
 rcases h1 with h1|⟨h1,E⟩<;>rcases h2 with h2|⟨h2,I⟩
 ·exact .inl (adi h1 h2)
 ·exact .inl (by rw[←abH (HB h2)];exact h1)
 ·exact .inl (by rw[RJ (HB h1)];exact h2)
 exact .inr ⟨by rw[RJ (HB h1)];exact h2,l9 E I⟩
theorem abI{down:Bool}{x y:Int}(h1:vo t down o x y)(h2:vo t down o y x):False:=by
 have e:=OP t down o x y;rcases h1 with h1|⟨h1,E⟩<;>rcases h2 with h2|⟨h2,I⟩
 ·omega
 ·omega
 ·omega
 exact jX _ (l9 E I)
noncomputable def JW(t:aT)(down:Bool)(o:Nat)(l:List Int):List Int:=Classical.epsilon fun lz=>lz.Perm l∧lz.Pairwise (vo t down o)
theorem RL{down:Bool}{l lz:List Int}(h:lz.Perm l∧lz.Pairwise (vo t down o)):lz=JW t down o l:=by
 have hs:=Classical.epsilon_spec (p:=fun lz=>lz.Perm l∧lz.Pairwise (vo t down o)) ⟨lz,h⟩;exact Perm.eq_of_pairwise (fun a b _ _ h1 h2=>(abI h1 h2).elim) h.2 hs.2 (h.1.trans hs.1.symm)
/-! ### What met tells -/
theorem Ei(t:aT)(w:List aW):∀(l:List (K×Int)) (acc:List Int),(mr t w acc l).1.Sublist (acc++l.map Prod.snd)
 | [],acc=>by unfold mr;simp
 | x::r,acc=>by
  have h1:(mr t w acc r).1.Sublist (acc++(x::r).map Prod.snd):=(Ei t w r acc).trans (Sublist.append_left (sublist_cons_self _ _) acc);have h2:(mr t w (acc++[x.2]) r).1.Sublist (acc++(x::r).map Prod.snd):=(by have:=Ei t w r (acc++[x.2]);rwa [append_assoc] at this)
  unfold mr;split
  ·split
   ·exact nil_sublist _
   split
   ·exact h1
   exact h2
  exact h2
def gD(t:aT)(i:Int):Prop:=0≤i∧∃h:i.toNat<t.rows.length,t.rows[i.toNat]≠[]
theorem abJ{i:Nat}{c:Pc.cu}{v:Vl}(h:Pc.mj i c v=0):dL v=0:=by
 unfold Pc.mj at h;split at h
 ·exact h
 rename_i h1;exact Decidable.not_not.1 h1
theorem OQ:∀(i:Nat) (cs:List Pc.cu) (vs:List Vl),Pc.qc i cs vs=0→vs.length≤cs.length→∀v∈vs,dL v=0
 | i,c::cs,v::vs,h,hl,w,hw=>by
  unfold Pc.qc at h;split at h
  ·rename_i h1;exact absurd h h1
  rename_i h1;rcases mem_cons.1 hw with rfl|hw
  ·exact abJ (Decidable.not_not.1 h1)
  exact OQ (i+1) cs vs h (by simpa using hl) w hw
 | _,_,[],_,_,_,hw=>by cases hw
 | _,[],_::_,_,hl,_,_=>by simp at hl
theorem Qm{r:List Vl}(h:Pc.dW dH r=0):∀v∈r,dL v=0:=by
 have h4:=pY h;unfold Pc.dW at h;rw[if_neg (by rw[yj];decide),if_neg (by rw[h4];decide)] at h;exact OQ 0 dH r h (by rw[h4];decide)
theorem gD.ok(g:eW t n)(h:gD t i):(rowAt t i).length=4∧(∀v∈rowAt t i,v.Ok∧dL v=0):=by
 obtain⟨h0,h1,h2⟩:=h;rw[jA h1];obtain⟨g1,g2,_⟩:=g.row _ h1 h2;exact⟨pY g1,fun v E=>⟨g2 v E,Qm g1 v E⟩⟩
theorem uB(g:eW t n)(w:List aW):∀i∈(au t w).1,gD t i:=fun i hi=>by
 unfold au at hi;split at hi
 ·cases hi
 have h1:=(Ei t w _ []).subset hi;rw[nil_append] at h1;obtain⟨x,hx,rfl⟩:=mem_map.1 h1;obtain⟨h2,h3,h4,_⟩:=g.jm x (Eh x hx);exact⟨h2,h3,h4⟩
theorem H9(g:eW t n)(w:List aW):(au t w).1.Pairwise (GI t):=by
 unfold au;split
 ·exact Pairwise.nil
 refine Pairwise.sublist (Ei t w _ []) ?_;rw[nil_append,pairwise_map];have hr:(oX t.ix (iB t.av w).1.1 (iB t.av w).1.2).Pairwise fun x y=>bP x.1 y.1:=(ZP g.ix.val _).sublist (takeWhile_sublist _);refine hr.imp_of_mem fun {x y} hx hy h=>?_;obtain⟨_,p1,_,p2⟩:=g.jm x (Eh x hx);obtain⟨_,q1,_,q2⟩:=g.jm y (Eh y hy);unfold GI;rw[jA p1,jA q1,←p2,←q2];exact h
theorem ED(g:eW t n)(w:List aW):(au t w).1.length≤40:=by
 have hp:=H9 g w;have E:=uB g w;have hnd:((au t w).1.map Int.toNat).Nodup:=by
  rw[Nodup,pairwise_map];refine hp.imp_of_mem fun {x y} hx hy h e=>?_;obtain⟨x0,_⟩:=E x hx;obtain⟨y0,_⟩:=E y hy;have:x=y:=(by omega)
  subst this;exact jX _ h
 have I:∀j∈(au t w).1.map Int.toNat,j∈range t.rows.length:=fun j hj=>by
  obtain⟨x,hx,rfl⟩:=mem_map.1 hj;obtain⟨_,h1,_⟩:=E x hx;exact mem_range.2 h1
 have:=hnd.length_le_of_subset I;rw[length_map,length_range] at this;exact Nat.le_trans this g.eL
variable {G:List (Nat×List Value)} {m:Int}

open Pa (cN cg)
theorem TD:∀x y:K,-1≤Go.Lib.compareBytes x y∧Go.Lib.compareBytes x y≤1
 | [],[]=>⟨by decide,by decide⟩
 | [],_::_=>⟨(by show(-1:Int)≤-1;decide),(by show(-1:Int)≤1;decide)⟩
 | _::_,[]=>⟨(by show(-1:Int)≤1;decide),(by show(1:Int)≤1;decide)⟩
 | a::x,b::y=>by
  have:=TD x y;rw[Gu];repeat' split
  all_goals first|exact this|omega
theorem adj(a b:Vl):-1≤gj a b∧gj a b≤1:=by
 have:=TD a.s.data.toList b.s.data.toList;exact VB
def vp(t:aT)(names:List ByteArray):List Int:=if names.length=0 then (range t.av.length).map Int.ofNat else names.map (bN t.av)
def rU(t:aT)(s:cN):Int:=if (s.order.toList==(⟨#[]⟩:ByteArray).toList)=true then 0 else bN t.av s.order
def uQ(MT:Int)(l:List Int):List Int:=if 0≤MT∧MT<l.length then l.take MT.toNat else l
def zi(t:aT)(ats:List Int)(i:Int):List Vl:=ats.map fun c=>(rowAt t i).getD c.toNat bE
noncomputable def vO(t:aT)(s:cN):List Int:=uQ s.gJ (JW t s.down (rU t s).toNat (au t s.ah).1)
noncomputable def pZ(t:aT)(s:cN):(List (List Vl)×Int)×Int :=
 if (s.names.any fun n=>decide (bN t.av n<0))=true then (([],0),8)
 else if rU t s<0 then (([],0),8)
 else if (au t s.ah).2≠0 then (([],0),(au t s.ah).2)
 else if s.count=true then (([[⟨2,(vO t s).length,⟨#[]⟩⟩]],(vO t s).length),0)
 else (((vO t s).map (zi t (vp t s.names)),(vO t s).length),0)
def Dm(p:(List (List Vl)×Int)×Int):D:=.dz [.agg [.list 1 (p.1.1.flatMap gY) p.1.1.length,.v (.int .i64 p.1.2)],.v (.int .i64 p.2)]
theorem Jo{l:List cu}{nm:ByteArray}:-1≤bN l nm∧bN l nm<l.length:=by
 unfold bN dO;split
 ·rename_i i h;have:=(findIdx?_eq_some_iff_getElem.1 h).1;omega
 omega
theorem adk(t:aT)(g:eW t n)(s:cN)(o:Nat)(ho:o<4)(b2 kg b3:Nat)(i k:Int)(hi:gD t i)(hk:gD t k):VC Tryz.prog G 89 ([.v (.int .i64 i),.v (.int .i64 k)]++[.v (.pointer (some ⟨b2,0,none⟩)),.v (.pointer (some ⟨kg,0,none⟩)),.v (.pointer (some ⟨b3,0,none⟩))]) [⟨b2,48,5,dG t⟩,⟨kg,3,1,[.v (.int .i64 (o:Nat))]⟩,⟨b3,42,12,cg s⟩] (fun r S=>r = .v (.int .i64 (lq t s.down o i k))∧S=[⟨b2,48,5,dG t⟩,⟨kg,3,1,[.v (.int .i64 (o:Nat))]⟩,⟨b3,42,12,cg s⟩]):=by
 refine VC.body func89 rfl ntmps89 aO fun X0 w0 aX=>?_;obtain⟨I,E,lG⟩:=hi;obtain⟨wU,dI,fj⟩:=hk;obtain⟨gi1,O⟩:=gD.ok g ⟨I,E,lG⟩;obtain⟨gk1,U⟩:=gD.ok g ⟨wU,dI,fj⟩;rw[jA E] at gi1 O;rw[jA dI] at gk1 U;have Z:o<(t.rows[i.toNat]'E).length:=(by omega)
 have oL:o<(t.rows[k.toNat]'dI).length:=(by omega)
 have hci:cellAt t o i=(t.rows[i.toNat]'E)[o]:=(by unfold cellAt;rw[jA E,getD_eq_getElem?_getD,getElem?_eq_getElem Z];rfl)
 have GJ:cellAt t o k=(t.rows[k.toNat]'dI)[o]:=(by unfold cellAt;rw[jA dI,getD_eq_getElem?_getD,getElem?_eq_getElem oL];rfl)
 have eZ:=Yg (G:=G) (t.rows[i.toNat]'E)[o] (t.rows[k.toNat]'dI)[o] (O _ (getElem_mem Z)).1 (U _ (getElem_mem oL)).1;have nQ:mg (t.rows[i.toNat]'E)[o] (t.rows[k.toNat]'dI)[o]=0:=(by unfold mg;rw[if_neg (by simp[(O _ (getElem_mem Z)).2]),(U _ (getElem_mem oL)).2])
 unfold Kt at eZ;rw[nQ,if_neg w7] at eZ;have Gn:=adj (t.rows[i.toNat]'E)[o] (t.rows[k.toNat]'dI)[o];unfold dG cg;have aS:lq t s.down o i k=if s.down=true then -(gj (t.rows[i.toNat]'E)[o] (t.rows[k.toNat]'dI)[o]) else gj (t.rows[i.toNat]'E)[o] (t.rows[k.toNat]'dI)[o]:=by unfold lq;rw[hci,GJ]
 refine ae [0,1,2,3,4] ?_;refine cM [4,8] ?_;refine aP 3 ?_ (h:=by exact(dy 1 (h:=by first|exact .l (j:=i.toNat) (Int.toNat_of_nonneg I).symm E|exact .r (j:=i.toNat) (Int.toNat_of_nonneg I).symm E)));refine aP 7 ?_ (h:=by exact(dy 1 (h:=by first|exact .l (j:=k.toNat) (Int.toNat_of_nonneg wU).symm dI|exact .r (j:=k.toNat) (Int.toNat_of_nonneg wU).symm dI)));refine cU (eZ) ?_;refine bM ?_;refine ae [8,31] ?_;refine aq (fun az aG=>?_) (fun az aG=>?_)
 ·have hd:s.down=true:=az;refine cM [7] ?_;refine aP 1 ?_ (h:=by exact(D4 rfl ot (I6 (wrap_i64 w4 w4))));refine bM ?_;refine aJ [_,_,_] ?_;first|(rw[aS,hd,if_pos rfl,←Int.zero_sub];exact⟨rfl,rfl⟩)|(rw[aS,hd,if_neg w7];exact⟨rfl,rfl⟩)
 have hd:s.down=false:=az;refine ae [7] ?_;refine aJ [_,_,_] ?_;first|(rw[aS,hd,if_pos rfl,←Int.zero_sub];exact⟨rfl,rfl⟩)|(rw[aS,hd,if_neg w7];exact⟨rfl,rfl⟩)
theorem adm(eo:D):VP Tryz.prog G 147 [.v (.slice none 0 0),.v (.int .i64 0),.v (.int .i64 0),eo] (.dz []):=by
 refine VC.body func147 rfl ntmps147 aO fun X0 w0 aX=>?_;refine ae [0,1,2,3,8] ?_;refine eI [0,1,2,3] (fun aV _ (z:Nat) aK=>(True)∧aK=(⟨53,(8,.v (.int .i64 (0+1)))::aV,[]⟩:St)) (fun (z:Nat)=>0) 0 ⟨trivial,rfl⟩ ?_;rintro z _ ⟨_,rfl⟩;refine ae [0,1,2,3,8,14] ?_;refine aq (fun az aG=>?_) (fun az aG=>?_)
 ·exact absurd az (by simp at az)
 exact z51
theorem YF(eo:D):VP Tryz.prog G 122 [.v (.slice none 0 0),.v (.int .i64 0),eo] (.dz []):=by
 refine VC.body func122 rfl ntmps122 aO fun X0 w0 aX=>?_;refine ae [0,1,2,6] ?_;refine ae [0,1,2,6,7,8] ?_;refine eI [0,1,2,6] (fun aV _ (z:Nat) aK=>(True)∧aK=(⟨63,(7,.v (.int .i64 0))::(8,.v (.int .i64 20))::aV,[]⟩:St)) (fun (z:Nat)=>0) 0 ⟨trivial,rfl⟩ ?_;rintro z _ ⟨_,rfl⟩;refine ae [0,1,2,6,7,8,13] ?_;refine aq (fun az aG=>?_) (fun az aG=>?_)
 ·exact absurd az (by simp at az)
 refine cL [0,1,2,6] (adm eo) ?_;refine eI [0,1,2] (fun aV _ (z:Nat) aK=>(True)∧aK=(⟨63,(6,.v (.int .i64 20))::aV,[]⟩:St)) (fun (z:Nat)=>0) 0 ⟨trivial,rfl⟩ ?_;rintro z _ ⟨_,rfl⟩;refine ae [0,1,2,6,30] ?_;refine aq (fun aH aU=>?_) (fun aH aU=>?_)
 ·exact absurd aH (by simp at aH)
 exact z51
theorem abK(eo:D):VP Tryz.prog G 88 [.v (.slice none 0 0),eo] (.dz []):=by
 refine VC.body func88 rfl ntmps88 aO fun X0 w0 aX=>?_;refine ie [] ?_;refine cU (YF eo) ?_;refine jP ?_;exact z51

end Go.Proofs.YtbcmjoaggammcaaGreatDoor.Ba

namespace Go.Proofs.YtbcmjoaggammcaaGreatDoor.Ba
open List
open Go.Proofs.Tryz
open Go.RowKit V Pk Go.Proofs.YtbcmjoaggammcaaGreatDoor.Tr Go.Proofs.YtbcmjoaggammcaaGreatDoor.Vl Go.Proofs.YtbcmjoaggammcaaGreatDoor.Nm Go.Proofs.YtbcmjoaggammcaaGreatDoor.Pc Go.Proofs.YtbcmjoaggammcaaGreatDoor.Cd Go.Proofs.YtbcmjoaggammcaaGreatDoor.Ex Go.Proofs.YtbcmjoaggammcaaGreatDoor.Tw
open Pa (cN cg)
variable {j sz:Nat} {ds:List D}
section mid
variable {P:Program} {G:List (Nat×List Value)} {x:St} {o:Oper} {t b off:Nat} {y:Operand} {B:ag} {pre c post:List D} {d:D}
theorem aeV(hp:pre.length=off)(hj:c[j]?=some d):(pre++(c++post))[off+j]?=some d:=by
 subst hp;rw[getElem?_append_right w4,Nat.add_sub_cancel_left,getElem?_append_left (List.getElem?_eq_some_iff.1 hj).1];exact hj
theorem Qn{m:List D}(hp:pre.length=off)(hm:pB j c m)(hd:lW sz m ds):((pre++(c++post)).drop (off+j)).take sz=ds:=by
 subst hp;obtain⟨h1,h2⟩:=hd.eq;have h3:=hm.eq;have hl:j+sz≤c.length∨sz=0:=by
  have:=congrArg length h1;rw[length_take,h2,←h3,length_drop] at this;omega
 rw[←drop_drop,drop_left' rfl];rcases hl with hl|rfl
 ·rw[drop_append_of_le_length w4,h3,take_append_of_le_length (by rw[←h3,length_drop];omega)];exact h1
 rw[List.take_zero];rw[List.take_zero] at h1;exact h1
theorem AP{E:List D}(hp:pre.length=off)(hl:j+ds.length≤c.length)(hc:cY c j ds=E):cY (pre++(c++post)) (off+j) ds=pre++(E++post):=by
 subst hp hc;rw[vw _ _ _ hl,vw _ _ _ (by simp only[length_append];omega)];rw[take_append,take_of_length_le w4,Nat.add_sub_cancel_left,take_append_of_le_length w4,Nat.add_assoc,←drop_drop (l:=pre++(c++post)),drop_left' rfl,drop_append_of_le_length w4];simp only[append_assoc]
theorem nV(k:Nat)(ho:o.op = .load t y:=by exact rfl)(hy:aF x y = .v (.pointer (some ⟨b,off+j,none⟩)):=by exact ot)(ha:ql P t false=true:=by kernel_rfl)(hk:x.S[k]?=some B:=by exact rfl)(hb:B.b=b:=by exact rfl)(di:B.cs=pre++(c++post):=by exact rfl)(hp:pre.length=off:=by assumption)(hj:c[j]?=some d:=by exact rfl)(hne:isMap B.e=false:=by exact rfl):bV P G x o (.fk k) d :=
 Dz (hne:=hne) ho hy hk hb (iu ha) (by rw[di];exact aeV hp hj)
theorem wJ(k:Nat){m:List D}(ho:o.op = .load t y:=by exact rfl)(hy:aF x y = .v (.pointer (some ⟨b,off+j,none⟩)):=by exact ot)(hn:qk P t sz=true:=by exact Sz.h)(ha:ql P t true=true:=by kernel_rfl)(hk:x.S[k]?=some B:=by exact rfl)(hb:B.b=b:=by exact rfl)(di:B.cs=pre++(c++post):=by exact rfl)(hp:pre.length=off:=by assumption)(hm:pB j c m:=by exact pU)(hd:lW sz m ds:=by exact mM)(hne:isMap B.e=false:=by exact rfl):bV P G x o (.fk k) (.agg ds) :=
 Ag (hne:=hne) ho hy hk hb (iu ha) (lg hn) hd.eq.2 (by rw[di];exact Qn hp hm hd)
theorem KP(k:Nat)(ho:o.op = .load t y:=by exact rfl)(hy:aF x y = .v (.pointer (some ⟨b,off,none⟩)):=by exact ot)(hn:qk P t sz=true:=by exact Sz.h)(ha:ql P t true=true:=by kernel_rfl)(hk:x.S[k]?=some B:=by exact rfl)(hb:B.b=b:=by exact rfl)(di:B.cs=pre++(c++post):=by exact rfl)(hp:pre.length=off:=by assumption)(hd:lW sz c ds:=by exact mM)(hne:isMap B.e=false:=by exact rfl):bV P G x o (.fk k) (.agg ds) :=
 Ag (hne:=hne) ho hy hk hb (iu ha) (lg hn) hd.eq.2 (by rw[di];exact Qn (j:=0) hp .z hd)
end mid
variable {G:List (Nat×List Value)} {m:Int}
noncomputable def fS(t:aT)(row:List Vl):aT×Int :=
 if Pc.dW t.av row≠0 then (t,Pc.dW t.av row) else if gS t.ix (dj row) (dA t.ix)=true then (t,9) else if t.rows.length=40 then (t,10)
 else ({t with rows:=t.rows++[row],ix:=gm t.ix (dA t.ix) (dj row) t.rows.length},0)
def tC(t:aT)(ad:Option Addr)(cap:Nat):List D:=[.v (.string t.nm),.list 2 (t.av.flatMap cC) t.av.length,.v (.slice ad t.rows.length cap),.list 5 (t.ix.af.flatMap cP) t.ix.af.length,.v (.int .i64 t.ix.root)]
abbrev uW(t:aT)(ad:Option Addr)(cap:Nat)(S:List ag):Prop:=bu 27 1 (t.rows.flatMap gY) t.rows.length ad cap S
theorem vL{r:List Vl}(h:Pc.dW dH r=0):1≤(dj r).length∧(dj r).length≤100:=by
 refine⟨?_,RD _⟩;have h4:=pY h;have hz:=Qm h;match r,h4 with
 | [a,b,c,d],_ =>
  have ha:dL a=0:=hz a mem_cons_self;unfold dj fX;rw[if_neg bw,if_neg (by simp[rN,ha])];have hl:(gl [a]).length≤43:=(by have:=D9 (l:=[a]) (fun v E=>by rw[mem_singleton] at E;rw[E];exact ha);simpa using this)
  rw[if_neg (by show ¬(gl [a]).length>100;omega)];show 1≤(gl [a]).length;unfold gl Cd.we;simp

theorem YG:(Tryz.prog.info? 27).map (fun i=>(i.zero,i.size,i.bytes))=some (some (.slice none 0 0),1,24):=by kernel_rfl

theorem Hx(hm:(3,marksC)∈G)(hw:(2,wordsC)∈G)(ht:(0,typesC)∈G)(hG:(1,[Value.int .i64 m])∈G)(t:aT){n:Nat}(g:eW t n)(hn:n≤300)(row:List Vl)(q8:row.length≤1000)(aR:∀v∈row,v.Ok)(bt off I:Nat)(pre post:List D)(hp:pre.length=off)(ad:Option Addr)(cap:Nat)(Sr:List ag)(Z:uW t ad cap Sr):VC Tryz.prog G 49 [.v (.pointer (some ⟨bt,off,none⟩)),.list 3 (row.flatMap cV) row.length] (⟨bt,48,I,pre++(tC t ad cap++post)⟩::Sr) (fun r S=>r = .v (.int .i64 (fS t row).2)∧((fS t row).2=0→∃ny E nW,uW (fS t row).1 ny E nW∧S=⟨bt,48,I,pre++(tC (fS t row).1 ny E++post)⟩::nW)):=by
 refine VC.body func49 rfl ntmps49 aO fun X0 w0 aX=>?_;have hko:=fun h=>vL (r:=row) h;have xJ:=Jc (G:=G) hm hw ht t.av wP wO row (Nat.le_trans q8 w7);have dr:maxLen=9223372036854775807:=rfl;have mR:=g.eL;unfold tC;refine ae [0,1] ?_;refine cM [0,1,5] ?_;refine aP 3 ?_ (h:=by exact(nV 0));refine cU (xJ) ?_;refine bM ?_;refine ae [0,1,5,17] ?_;refine aq (fun az aG=>?_) (fun az aG=>?_)
 ·have hne:Pc.dW t.av row≠0:=(by simpa using az)
  have aS:fS t row=(t,Pc.dW t.av row):=if_pos hne;refine ae [4] ?_;refine aJ [] ?_;rw[aS];exact⟨rfl,fun h=>absurd h hne⟩
 have hz:Pc.dW t.av row=0:=(by simpa using az)
 have Co:Pc.dW dH row=0:=(by rw[←g.av];exact hz)
 have dU:=hko Co;have hr4:=pY Co;have O:=yw (G:=G) hG row w4 w4 aR;refine CD.skip ?_;refine CD.seq ?_;refine CD.seq ?_;rcases iG:gS t.ix (dj row) (dA t.ix) with _|_
 ·have fL:=Jk (G:=G) g.ix (dj row);rw[ac4 g.ix dU iG] at fL;unfold Tw.cT at fL;have U:=Qg (G:=G) g.ix (dj row) (t.rows.length:Int);rw[SL g.ix hn dU w4 iG] at U;unfold Tw.cT at U;refine ie [0,1,7] ?_;refine aP 3 ?_ (h:=by exact(wJ 0));refine cU (O) ?_;refine cU (fL) ?_;refine bM ?_;refine ae [0,1,30] ?_;refine aq (fun aH aU=>?_) (fun aH aU=>?_)
  ·exact absurd aH (by simp at aH)
  refine cM [0,1,36] ?_;refine aP 3 ?_ (h:=by exact(nV 0));refine bM ?_;refine aq (fun aY bz=>?_) (fun aY bz=>?_)
  ·have aS:fS t row=(t,10):=(by unfold fS;rw[if_neg (by simp[hz]),if_neg wQ,if_pos w4])
   refine ae [4] ?_;refine aJ [] ?_;rw[aS];exact⟨rfl,fun h=>absurd (show(10:Int)=0 from h) w7⟩
  have aS:fS t row=({t with rows:=t.rows++[row],ix:=gm t.ix (dA t.ix) (dj row) t.rows.length},0):=(by unfold fS;rw[if_neg (by simp[hz]),if_neg wQ,if_neg w4])
  refine CD.skip ?_;refine CD.seq ?_;refine tJ 16 15 [0,1,8,50,51] ?_;refine aP 3 ?_ (h:=by exact(wJ 0));refine cU (O) ?_;refine aP 3 ?_ (h:=by exact(nV 0));refine cU (U) ?_;refine mW 3 ?_;refine qV ?_;refine jP ?_;refine⟨rfl,fun b8=>?_⟩;refine aN 0 [_,_] sizeOf46 ?_;refine aj 70 [0,1,8,9] ?_;refine ae [0,1,8,9,53] ?_;refine aq (fun bF bY=>?_) (fun bF bY=>?_)
  ·exact absurd bF (by simp at bF)
  refine aC 4 ?_;refine OD.storeAt (k:=1) (cs':=pre++([.v (.string t.nm),.list 2 (t.av.flatMap cC) t.av.length,.v (.slice ad t.rows.length cap),.list 5 ((gm t.ix (dA t.ix) (dj row) t.rows.length).af.flatMap cP) (gm t.ix (dA t.ix) (dj row) t.rows.length).af.length,.v (.int .i64 (gm t.ix (dA t.ix) (dj row) t.rows.length).root)]++post)) an rfl rfl ot rfl rfl ot rfl rfl sizeOf46 rfl (by show off+3+2≤(pre++(([.v (.string t.nm),.list 2 (t.av.flatMap cC) t.av.length,.v (.slice ad t.rows.length cap),.list 5 (t.ix.af.flatMap cP) t.ix.af.length,.v (.int .i64 t.ix.root)]:List D)++post)).length;simp only[length_append,length_cons,length_nil];omega) (by exact AP (j:=3) hp aO rfl) ?_;refine aj 70 [0,1] ?_;refine CD.seq ?_;refine fE 9 (ap (take 2 _)) ?_ (fun _ h=>(Sublist.map _ (take_sublist _ _)).subset h);refine ax 0 rfl bg ?_;refine ax 1 rfl bg ?_;refine ax 2 rfl lA ?_;refine ax 3 rfl (cX 2) ?_;refine ax 4 rfl (nV 1) ?_;refine ax 5 rfl bg ?_;refine dg.later rfl ?_;refine AD.one (i:=6) ay ?_;refine jt call39 (ZX row w4) ?_;refine AD.one (i:=7) ay ?_;refine je (bZ 0 [_]) [.slice none 0 0] [_] zeroValue27 runUnderlying33 sizeOf27 (fun oJ=>?_);refine jf 0 66 1 1 ?_;refine AD.one (i:=8) ay ?_;refine bf.en (ls:=t.rows) (new:=[row]) (Sq:=Sr) kL abt rfl an rfl rfl underlying33 YG rfl w7 ot Z (dB (A:=[_,_])) ot bw nu nv (fun qg qI Fk Fl=>?_)
  refine AD.perm (dY (S1:=[⟨qg,27,qI*1,flatMap gY (t.rows++[row])⟩]) (A:=[_,_])) ?_;refine ey ?_;refine aD 2 ?_;refine OD.storeAt (k:=1) (cs':=pre++((([.v (.string t.nm),.list 2 (t.av.flatMap cC) t.av.length,.v (.slice ad t.rows.length cap),.list 5 ((gm t.ix (dA t.ix) (dj row) t.rows.length).af.flatMap cP) (gm t.ix (dA t.ix) (dj row) t.rows.length).af.length,.v (.int .i64 (gm t.ix (dA t.ix) (dj row) t.rows.length).root)]:List D)).set 2 (.v (.slice (some ⟨qg,0,none⟩) ((t.rows++[row])).length qI))++post)) an rfl rfl ot rfl rfl ot rfl rfl sizeOf33 rfl (by show off+2+1≤(pre++(([.v (.string t.nm),.list 2 (t.av.flatMap cC) t.av.length,.v (.slice ad t.rows.length cap),.list 5 ((gm t.ix (dA t.ix) (dj row) t.rows.length).af.flatMap cP) (gm t.ix (dA t.ix) (dj row) t.rows.length).af.length,.v (.int .i64 (gm t.ix (dA t.ix) (dj row) t.rows.length).root)]:List D)++post)).length;simp only[length_append,length_cons,length_nil];omega) (by exact AP (j:=2) hp aO rfl) ?_;refine aj 70 [] ?_;refine ae [4] ?_;refine aJ (⟨bt,48,I,pre++(_++post)⟩::[⟨qg,27,qI*1,flatMap gY (t.rows++[row])⟩]) ?_;rw[aS];exact⟨rfl,fun _=>⟨(some ⟨qg,0,none⟩),qI,[⟨qg,27,qI*1,flatMap gY (t.rows++[row])⟩],(bD Fk Fl),rfl⟩⟩
 obtain⟨rw0,aiO⟩:=(As g.ix (dj row)).1 iG;have fL:=Jk (G:=G) g.ix (dj row);rw[Qf g.ix dU aiO] at fL;unfold Tw.cT at fL;have aS:fS t row=(t,9):=(by unfold fS;rw[if_neg (by simp[hz]),if_pos iG])
 refine ie [0,1,7] ?_;refine aP 3 ?_ (h:=by exact(wJ 0));refine cU (O) ?_;refine cU (fL) ?_;refine bM ?_;refine ae [0,1,30] ?_;refine aq (fun aH aU=>?_) (fun aH aU=>?_)
 ·refine ae [4] ?_;refine aJ [] ?_;rw[aS];exact⟨rfl,fun h=>absurd (show(9:Int)=0 from h) w7⟩
 exact absurd aH (by simp at aH)

end Go.Proofs.YtbcmjoaggammcaaGreatDoor.Ba

namespace Go.Proofs.YtbcmjoaggammcaaGreatDoor.Ba
open List
open Go.Proofs.Tryz
open Go.RowKit V Pk Tr Vl Go.Proofs.YtbcmjoaggammcaaGreatDoor.Nm Pc Cd Ex Tw
open Pa (cN cg)
variable {G:List (Nat×List Value)} {m:Int}
variable {t:aT} {n:Nat} {i:Int}
theorem IZ{t:aE}(g:iv t n){x y:K×Int}(hx:x∈gE t)(hy:y∈gE t)(h:x.1=y.1):x=y:=by
 have hr:(gE t).Pairwise (fun a b=>bP a.1 b.1):=Hu g.val;obtain⟨i,hi,rfl⟩:=mem_iff_getElem.1 hx;obtain⟨j,hj,rfl⟩:=mem_iff_getElem.1 hy;have hp:=pairwise_iff_getElem.1 hr;rcases Nat.lt_trichotomy i j with q|q|q
 ·have:=hp i j hi hj q;rw[h] at this;exact absurd this (jX _)
 ·subst q;rfl
 have:=hp j i hj hi q;rw[h] at this;exact absurd this (jX _)
theorem gD.jm(g:eW t n)(h:gD t i):(dj (rowAt t i),i)∈gE t.ix:=by
 obtain⟨h0,h1,h2⟩:=h;have:=(g.row _ h1 h2).2.2;rw[jA h1];rwa [Int.toNat_of_nonneg h0] at this
noncomputable def nr(t:aT)(i:Int):aT:={t with rows:=t.rows.set i.toNat [],ix:=gp t.ix (dA t.ix) (dj (rowAt t i))}
noncomputable def qN:aT→List Int→aT
 | t,[]=>t
 | t,i::r=>qN (nr t i) r
noncomputable def l8(t:aT)(w:List aW):aT×Int×Int:=if (au t w).2≠0 then (t,0,(au t w).2) else (qN t (au t w).1,(au t w).1.length,0)
theorem aeW(g:eW t n)(h:gD t i):iv (gp t.ix (dA t.ix) (dj (rowAt t i))) n∧∀x,x∈gE (gp t.ix (dA t.ix) (dj (rowAt t i)))↔x∈gE t.ix∧x.1≠dj (rowAt t i) :=
 H7 g.ix ((Ar g.ix.val _).2 ⟨i,h.jm g⟩)
theorem OR(g:eW t n)(h:gD t i):eW (nr t i) n:=by
 obtain⟨d1,d2⟩:=aeW g h;have I:=h.jm g;obtain⟨h0,h1,h2⟩:=h;refine⟨g.nm,g.av,by show(t.rows.set _ _).length≤40;rw[length_set];exact g.eL,d1,fun j hj hne=>?_,fun x hx=>?_⟩
 ·simp only[nr] at hj hne ⊢;rw[length_set] at hj;rw[getElem_set] at hne;split at hne
  ·exact absurd rfl hne
  rename_i E;have he:(t.rows.set i.toNat [])[j]'wM=t.rows[j]:=getElem_set_ne E _;rw[he];obtain⟨p1,p2,p3⟩:=g.row j hj hne;refine⟨p1,p2,(d2 _).2 ⟨p3,fun e=>?_⟩⟩;have:=IZ g.ix p3 I e;simp only[Prod.mk.injEq] at this;omega
 obtain⟨x1,O⟩:=(d2 x).1 hx;obtain⟨p0,p1,p2,p3⟩:=g.jm x x1;have E:i.toNat≠x.2.toNat:=fun e=>by
  refine O ?_;rw[p3,jA h1];congr 1;simp only[e]
 refine⟨p0,by show _<(t.rows.set _ _).length;rw[length_set];exact p1,?_⟩;have he:(t.rows.set i.toNat [])[x.2.toNat]'(by rw[length_set];exact p1)=t.rows[x.2.toNat]:=getElem_set_ne E _;show(t.rows.set i.toNat [])[x.2.toNat]'(by rw[length_set];exact p1)≠[]∧x.1=dj ((t.rows.set i.toNat [])[x.2.toNat]'(by rw[length_set];exact p1));rw[he];exact⟨p2,p3⟩
theorem RM{j:Int}(h:gD t j)(E:j≠i)(hi:0≤i):gD (nr t i) j:=by
 obtain⟨h0,h1,h2⟩:=h;refine⟨h0,by show _<(t.rows.set _ _).length;rw[length_set];exact h1,?_⟩;show(t.rows.set i.toNat [])[j.toNat]'(by rw[length_set];exact h1)≠[];have e:=getElem_set_ne (l:=t.rows) (i:=i.toNat) (j:=j.toNat) (a:=[]) w4 (by rw[length_set];exact h1);rw[e];exact h2
theorem DX(g:eW t n)(w:List aW):(au t w).1.Nodup:=(H9 g w).imp fun h e=>by rw[e] at h;exact jX _ h
theorem Z5(hm:(3,marksC)∈G)(hw:(2,wordsC)∈G)(ht:(0,typesC)∈G)(hG:(1,[Value.int .i64 m])∈G)(t:aT)(g:eW t n)(s:cN)(ho:∀o∈s.ah,o.nm.size≤maxLen)(fH:∀o∈s.ah,o.v.Ok)(bt off pG:Nat)(pre post:List D)(hp:pre.length=off)(ad:Option Addr)(cap:Nat)(Sr:List ag)(j8:uW t ad cap Sr):VC Tryz.prog G 52 [.v (.pointer (some ⟨bt,off,none⟩)),.agg (cg s)] (⟨bt,48,pG,pre++(tC t ad cap++post)⟩::Sr) (fun r S=>r = .dz [.v (.int .i64 (l8 t s.ah).2.1),.v (.int .i64 (l8 t s.ah).2.2)]∧((l8 t s.ah).2.2=0→∃ny j9 nW,uW (l8 t s.ah).1 ny j9 nW∧S=⟨bt,48,pG,pre++(tC (l8 t s.ah).1 ny j9++post)⟩::nW)):=by
 refine VC.body func52 rfl ntmps52 aO fun X0 w0 aX=>?_;have dr:maxLen=9223372036854775807:=rfl;have mR:=g.eL;have Dn:=ED g s.ah;have lZ:=uB g s.ah;have hnd:=DX g s.ah;unfold tC;unfold cg;refine bX ?_;refine OD.box (ds:=[_,_,_,_,_,_,_,_,_,_,_,_]) an rfl rfl ot rfl rfl (fun b3=>?_);refine aj 56 [0,3] ?_;refine CD.seq ?_;refine fE 9 (ap (take 2 _)) ?_ (fun _ h=>(Sublist.map _ (take_sublist _ _)).subset h);refine ax 0 rfl bg ?_;refine ax 1 rfl lA ?_;refine ax 2 rfl (KP 1) ?_;refine ax 3 rfl (cX 6) ?_;refine ax 4 rfl (dx 0) ?_;refine dg.later rfl ?_;refine AD.one (i:=5) ay ?_;refine bf.JH rfl an rfl rfl rfl call87 (Jn hm hw ht hG t g s.ah ho fH) (fun r S h=>h.flat) ⟨⟨_,ot,(uh ⟨eM,eM,kY j8 (cl kL _) (fun B hB=>by simp[hB]),eM,eM,trivial⟩:View _ (.agg [.v (.string t.nm),.list 2 (t.av.flatMap cC) t.av.length,.v (.slice ad t.rows.length cap),.list 5 (t.ix.af.flatMap cP) t.ix.af.length,.v (.int .i64 t.ix.root)]) (.agg (dG t)))⟩,⟨_,ot,eM⟩,trivial⟩ ?_;rintro _ Sx ⟨dS,dD,rfl,ee⟩;refine AD.perm (iU (A:=[_,_])) ?_;refine cr 6 rfl bg ?_;refine cr 7 rfl LN ?_;refine cr 8 rfl LN ?_;refine ey ?_;refine aZ [0,6,7] ?_;refine ae [0,6,7,20] ?_;refine aq (fun az aG=>?_) (fun az aG=>?_)
 ·have hne:(au t s.ah).2≠0:=(by simpa using az)
  have aS:l8 t s.ah=(t,0,(au t s.ah).2):=if_pos hne;refine ae [4,5] ?_;refine aJ [] ?_;rw[aS];exact⟨rfl,fun h=>absurd h hne⟩
 have hz:(au t s.ah).2=0:=(by simpa using az)
 have aS:l8 t s.ah=(qN t (au t s.ah).1,((au t s.ah).1.length:Int),0):=if_neg (fun h=>h hz);refine CD.skip ?_;refine CD.seq ?_;refine CD.seq ?_;refine CD.gd (t:=6) (Sq:=Sx) lk ee (cl Tw.ev _) (n8 (A:=[_,_])) ?_;refine sy ?_;refine aZ [0,6,22,23,24] ?_;refine eI [0,6,22,23] (fun aV _ (U:Nat×aT×Option Addr×Nat×List ag) aK=>match U with|(k,u,Z,E,O)=>(k≤(au t s.ah).1.length)∧(qN u ((au t s.ah).1.drop k)=qN t (au t s.ah).1)∧(eW u n)∧(∀i∈(au t s.ah).1.drop k,gD u i)∧(uW u Z E O)∧aK=(⟨56,(24,.v (.int .i64 (k:Nat)))::aV,(⟨b3,42,12,cg s⟩::⟨bt,48,pG,pre++([.v (.string u.nm),.list 2 (u.av.flatMap cC) u.av.length,.v (.slice Z u.rows.length E),.list 5 (u.ix.af.flatMap cP) u.ix.af.length,.v (.int .i64 u.ix.root)]++post)⟩::O)⟩:St)) (fun (U:Nat×aT×Option Addr×Nat×List ag)=>match U with|(k,u,Z,E,O)=>(au t s.ah).1.length-k) (0,t,ad,cap,Sr) ⟨(Nat.zero_le _),rfl,g,lZ,j8,rfl⟩ ?_;rintro⟨k,u,Z,E,O⟩ _ ⟨hk,UJ,gu,kH,vq,rfl⟩;refine ae [0,6,22,23,24,25] ?_;refine aq (fun aH aU=>?_) (fun aH aU=>?_)
 ·have aa:k<(au t s.ah).1.length:=(by omega)
  have jg:(au t s.ah).1.drop k=((au t s.ah).1[k]'aa)::(au t s.ah).1.drop (k+1):=drop_eq_getElem_cons aa;have ri:gD u ((au t s.ah).1[k]'aa):=kH _ (by rw[jg];exact mem_cons_self);obtain⟨gH,I,oM⟩:=id ri;obtain⟨br,rfl,tN,tO,rfl⟩:=vq.pos w4;have gu2:=OR gu ri;have fT:(nr u ((au t s.ah).1[k]'aa)).rows.length=u.rows.length:=length_set;have af8:qN (nr u ((au t s.ah).1[k]'aa)) ((au t s.ah).1.drop (k+1))=qN t (au t s.ah).1:=(by rw[←UJ,jg];rfl)
  have KF:∀i∈(au t s.ah).1.drop (k+1),gD (nr u ((au t s.ah).1[k]'aa)) i:=fun i hi=>RM (kH i (by rw[jg];exact mem_cons_of_mem _ hi)) (fun e=>by subst e;have h9:=hnd.sublist (drop_sublist k _);rw[jg,nodup_cons] at h9;exact h9.1 hi) gH;have BY:uW (nr u ((au t s.ah).1[k]'aa)) (some ⟨br,0,none⟩) E [⟨br,27,E*1,(nr u ((au t s.ah).1[k]'aa)).rows.flatMap gY⟩]:=bD (by show(u.rows.set _ _).length≤_;rw[length_set];exact tN) tO;obtain⟨WX,Dp⟩:=gD.ok gu ri;have vr:=yw (G:=G) hG (u.rows[((au t s.ah).1[k]'aa).toNat]) (by rw[←jA I];omega) (by rw[←jA I];omega) (fun v hv=>(Dp v (by rw[jA I];exact hv)).1);rw[show dj (u.rows[((au t s.ah).1[k]'aa).toNat])=dj (rowAt u ((au t s.ah).1[k]'aa)) from by rw[jA I]] at vr;have xK:=Qh (G:=G) gu.ix (dj (rowAt u ((au t s.ah).1[k]'aa)));rw[Ry gu.ix (vL (by rw[jA I];exact(gu.row _ I oM).1)) ((As gu.ix _).2 ⟨_,ri.jm gu⟩)] at xK;unfold Tw.cT at xK;have anb:=gu.eL;refine ae [0,6,9,22,23,24] ?_;refine CD.seq ?_;refine lT 17 [0,6,9,22,23,24,29,43] ?_;refine aP 4 ?_ (h:=by exact(wJ 1));refine aP 3 ?_ (h:=by exact(nV 1));refine aP 1 ?_ (h:=by exact(dy 1 (h:=by first|exact .l (j:=((au t s.ah).1[k]'aa).toNat) (Int.toNat_of_nonneg gH).symm I|exact .r (j:=((au t s.ah).1[k]'aa).toNat) (Int.toNat_of_nonneg gH).symm I)))
  refine aP 0 ?_ (h:=by exact(cH (mk:=Op.load 27) rfl ot (iK (k:=2) (i:=((au t s.ah).1[k]'aa).toNat) (ls:=u.rows) kL rfl rfl rfl isAgg27 I rfl)));refine cU (vr) ?_;refine cU (xK) ?_;refine bM ?_;refine aD 2 ?_;refine OD.storeAt (k:=1) (cs':=pre++([.v (.string u.nm),.list 2 (u.av.flatMap cC) u.av.length,.v (.slice (some ⟨br,0,none⟩) (nr u ((au t s.ah).1[k]'aa)).rows.length E),.list 5 ((nr u ((au t s.ah).1[k]'aa)).ix.af.flatMap cP) (nr u ((au t s.ah).1[k]'aa)).ix.af.length,.v (.int .i64 (nr u ((au t s.ah).1[k]'aa)).ix.root)]++post)) an rfl rfl ot rfl rfl ot rfl rfl sizeOf46 rfl (by show off+3+2≤(pre++(([.v (.string u.nm),.list 2 (u.av.flatMap cC) u.av.length,.v (.slice (some ⟨br,0,none⟩) u.rows.length E),.list 5 (u.ix.af.flatMap cP) u.ix.af.length,.v (.int .i64 u.ix.root)]:List D)++post)).length;simp only[length_append,length_cons,length_nil];omega) (by exact AP (j:=3) hp aO (by rw[fT];rfl)) ?_;refine aj 56 [0,6,9,22,23,24] ?_;refine dw 3 ?_;refine bJ (nV 1) ?_;refine aD 1 ?_;refine bJ (dy 1 (h:=by first|exact .l (j:=((au t s.ah).1[k]'aa).toNat) (Int.toNat_of_nonneg gH).symm (by rw[fT];exact I)|exact .r (j:=((au t s.ah).1[k]'aa).toNat) (Int.toNat_of_nonneg gH).symm (by rw[fT];exact I))) ?_
  refine OD.storeAt (k:=2) (cs':=(u.rows.flatMap gY).set ((au t s.ah).1[k]'aa).toNat (.v (.slice none 0 0))) an rfl rfl ot rfl rfl bC rfl rfl sizeOf27 rfl (by show 0+((au t s.ah).1[k]'aa).toNat*1+1≤(u.rows.flatMap gY).length;rw[cl kL];omega) (by show(u.rows.flatMap gY).set (0+((au t s.ah).1[k]'aa).toNat*1) _=_;rw[Nat.zero_add,Nat.mul_one]) ?_;refine OD.cells (k:=2) (cs':=(nr u ((au t s.ah).1[k]'aa)).rows.flatMap gY) (S':=[_,_,_]) rfl (by have:=QW (ff (sz:=3)) (u.rows.flatMap gY) ((au t s.ah).1[k]'aa).toNat;rw[show(u.rows.flatMap gY).set ((au t s.ah).1[k]'aa).toNat (.list 3 [] 0)=(u.rows.set ((au t s.ah).1[k]'aa).toNat []).flatMap gY from by have:=oc kL u.rows [] I;rw[Nat.mul_one] at this;exact this] at this;exact this) rfl ?_;refine aj 56 [0,6,22,23,24] ?_;refine cj [0,6,22,23,24] ?_;refine⟨((k+1),(nr u ((au t s.ah).1[k]'aa)),(some ⟨br,0,none⟩),E,[⟨br,27,E*1,(nr u ((au t s.ah).1[k]'aa)).rows.flatMap gY⟩]),_,cz,aM,w4,af8,gu2,KF,BY,rfl⟩
 have nO:u=qN t (au t s.ah).1:=(by rw[←UJ,drop_of_length_le w4];rfl)
 subst nO;refine ae [4,5] ?_;refine aJ (⟨bt,48,pG,pre++(_++post)⟩::O) ?_;rw[aS];exact⟨rfl,fun _=>⟨Z,E,O,vq,rfl⟩⟩

end Go.Proofs.YtbcmjoaggammcaaGreatDoor.Ba
namespace Go.Proofs.YtbcmjoaggammcaaGreatDoor.Ba
open List
open Go.Proofs.Tryz
open Go.RowKit V Pk Tr Vl Go.Proofs.YtbcmjoaggammcaaGreatDoor.Nm Pc Cd Ex Tw
open Pa (cN cg)
variable {ops:List aW} {row:List Vl}
theorem Ia:∀(i:Nat) (cs:List cu) (vs:List Vl),cs.length=vs.length→(Pc.qc i cs vs=0↔∀j (h1:j<cs.length) (h2:j<vs.length),Pc.mj (i+j) cs[j] vs[j]=0)
 | _,[],[],_=>⟨fun _ j h1=>absurd h1 (Nat.not_lt_zero j),fun _=>rfl⟩
 | _,[],_::_,h=>by cases h
 | _,_::_,[],h=>by cases h
 | i,c::cs,v::vs,h=>by
  rw[Pc.qc];have E:=Ia (i+1) cs vs (Nat.succ.inj h);by_cases he:Pc.mj i c v=0
  ·rw[if_neg (fun h=>h he),E];constructor
   ·intro k j h1 h2;cases j with
    | zero=>exact he
    | succ j=>have:=k j (Nat.lt_of_succ_lt_succ h1) (Nat.lt_of_succ_lt_succ h2);rw[show i+(j+1)=i+1+j by omega];exact this
   intro k j h1 h2;have:=k (j+1) (Nat.succ_lt_succ h1) (Nat.succ_lt_succ h2);rw[show i+(j+1)=i+1+j by omega] at this;exact this
  rw[if_pos he];exact⟨fun h=>absurd h he,fun k=>absurd (k 0 (Nat.succ_pos _) (Nat.succ_pos _)) he⟩
theorem I0{r:List Vl}:Pc.dW dH r=0↔r.length=4∧∀j (h1:j<dH.length) (h2:j<r.length),Pc.mj j dH[j] r[j]=0:=by
 constructor
 ·intro h;have h4:=pY h;unfold Pc.dW at h;rw[if_neg (by rw[yj];decide),if_neg (by rw[h4];decide),Ia 0 dH r (by rw[h4];rfl)] at h;refine⟨h4,fun j h1 h2=>?_⟩;have:=h j h1 h2;rwa [Nat.zero_add] at this
 intro ⟨h4,h⟩;unfold Pc.dW;rw[if_neg (by rw[yj];decide),if_neg (by rw[h4];decide),Ia 0 dH r (by rw[h4];rfl)];intro j h1 h2;rw[Nat.zero_add];exact h j h1 h2
theorem adn{i:Nat}{c:cu}{v:Vl}(h:Pc.mj i c v=0):jC c.k v:=by
 unfold Pc.mj at h;by_cases h1:dL v=0
 ·rw[if_neg (fun e=>e h1)] at h;by_cases h2:v.k≠c.k∧(i=0∨v.k≠0)
  ·rw[if_pos h2] at h;cases h
  exact⟨h1,by omega⟩
 rw[if_pos h1] at h;exact absurd h h1
theorem adp{r:List Vl}(h:Pc.dW dH r=0):E4 dH r:=fun i=>by
 obtain⟨h4,hf⟩:=I0.1 h;have hc:dH.length=4:=rfl;rw[getD_eq_getElem?_getD,getD_eq_getElem?_getD];by_cases hi:i<4
 ·rw[getElem?_eq_getElem w4,getElem?_eq_getElem w4];exact adn (hf i w4 w4)
 rw[getElem?_eq_none w4,getElem?_eq_none w4];exact AW
theorem RN{r:List Vl}(h:Pc.dW dH r=0){c:Nat}(hc:c<dH.length){v:Vl}(E:jC dH[c].k v)(h0:c=0→v.k≠0):Pc.dW dH (r.set c v)=0:=by
 obtain⟨h4,hf⟩:=I0.1 h;refine I0.2 ⟨by rw[length_set];exact h4,fun j h1 h2=>?_⟩;rw[length_set] at h2;rw[getElem_set];split
 ·rename_i e;subst e;unfold Pc.mj;rw[if_neg (fun e=>e E.1),if_neg (fun e=>?_)];have:=E.2;have:=e.2;have:=e.1;by_cases I:c=0
  ·have:=h0 I;omega
  omega
 exact hf j h1 h2
theorem Ej:∀(ops:List aW) (h:Int),fy h ops=0→∀o∈ops,∃h',eX h' o=0
 | [],_,_,o,ho=>by cases ho
 | x::r,h,hx,o,ho=>by
  rw[fy] at hx;by_cases he:eX h x=0
  ·rw[if_pos he] at hx;rcases mem_cons.1 ho with rfl|ho
   ·exact⟨_,he⟩
   exact Ej r _ hx o ho
  rw[if_neg he] at hx;exact absurd hx he
theorem Z6{l:List cu}(kG:∀o∈ops,o.nm.size≤maxLen)(fH:∀o∈ops,o.v.Ok)(hk:(ec l ops).2=0):∀o∈ops,yL l o:=fun o ho=>by
 obtain⟨_,hx,he⟩:=Eu hk;obtain⟨h',h1⟩:=Ej ops 0 (vK hx).2 o ho;obtain⟨_,h2,h3,_⟩:=vH h1;exact⟨kG o ho,fH o ho,DS h3,h2.1,h2.2,Ol (by rw[he] at hk;exact hk) o ho⟩
theorem Qo{l:List cu}{row:List Vl}(hr:∀v∈row,v.Ok):∀(ops:List aW),(∀o∈ops,o.v.Ok)→∀st:List Vl,(∀v∈st,v.Ok)→(jq bE (fN l row) ops st).1.Ok
 | [],_,st,fq=>ID fq 0
 | o::r,hg,st,fq=>by
  have I:(fN l row o (e9 bE o.k st) (eT bE o.k st)).1.Ok:=Ri hr (hg o mem_cons_self) (AJ fq _) (AK fq _);by_cases hz:(fN l row o (e9 bE o.k st) (eT bE o.k st)).2=0
  ·rw[IE hz];refine Qo hr r (fun x hx=>hg x (mem_cons_of_mem _ hx)) _ fun v E=>?_;rcases mem_append.1 E with E|E
   ·exact fq v (mem_of_mem_take E)
   rw[mem_singleton] at E;rw[E];exact I
  rw[HP hz];exact sZ
theorem adq{l:List cu}(hr:∀v∈row,v.Ok)(fH:∀o∈ops,o.v.Ok):(fh l row ops).1.Ok:=by
 unfold fh;repeat' split
 all_goals first|exact sZ|exact Qo hr ops fH [] (fun v E=>by cases E)
theorem abL(kG:∀o∈ops,o.nm.size≤maxLen)(fH:∀o∈ops,o.v.Ok)(hw:Pc.dW dH row=0)(hk:(ec dH ops).2=0)(he:(fh dH row ops).2=0):jC (ec dH ops).1 (fh dH row ops).1:=by
 obtain⟨_,_,_,h4⟩:=Zl yj hw (adp hw) (Z6 kG fH hk) (Eu hk).2.1;obtain⟨_,h5|h5⟩:=h4 hk
 ·rw[h5] at he;cases he
 exact h5.2
def iC(t:aT)(c:Int)(e:List aW):List Vl→List Int→List Vl×Int
 | acc,[]=>(acc,0)
 | acc,i::r=>if (fh t.av (rowAt t i) e).2≠0 then ([],(fh t.av (rowAt t i) e).2) else if c=0∧(fh t.av (rowAt t i) e).1.k=0 then ([],4) else iC t c e (acc++[(fh t.av (rowAt t i) e).1]) r
def qO(t:aT)(i:Int)(c:Nat)(v:Vl):aT:={t with rows:=t.rows.set i.toNat ((rowAt t i).set c v)}
def mu(c:Nat):aT→List Int→List Vl→aT
 | t,i::r,v::s=>mu c (qO t i c v) r s
 | t,_,_=>t
noncomputable def nL(t:aT):aE→List Int→aE
 | x,[]=>x
 | x,i::r=>nL t (gp x (dA x) (dj (rowAt t i))) r
noncomputable def j6:aT→List Int→List Vl→aT×Int
 | t,i::r,v::s=>if gS t.ix (dj (rowAt (qO t i 0 v) i)) (dA t.ix)=true then (t,9) else j6 {qO t i 0 v with ix:=gm t.ix (dA t.ix) (dj (rowAt (qO t i 0 v) i)) i} r s
 | t,_,_=>(t,0)
noncomputable def gF(t:aT)(s:cN):aT×Int×Int :=
 if bN t.av s.set<0 then (t,0,8) else if (ec t.av s.bH).2≠0 then (t,0,(ec t.av s.bH).2)
 else if (ec t.av s.bH).1≠(t.av.getD (bN t.av s.set).toNat ⟨⟨#[]⟩,0⟩).k∧(ec t.av s.bH).1≠0 then (t,0,4)
 else if (au t s.ah).2≠0 then (t,0,(au t s.ah).2)
 else if (iC t (bN t.av s.set) s.bH [] (au t s.ah).1).2≠0 then (t,0,(iC t (bN t.av s.set) s.bH [] (au t s.ah).1).2)
 else if 0<bN t.av s.set then (mu (bN t.av s.set).toNat t (au t s.ah).1 (iC t (bN t.av s.set) s.bH [] (au t s.ah).1).1,(au t s.ah).1.length,0)
 else if (j6 {t with ix:=nL t t.ix (au t s.ah).1} (au t s.ah).1 (iC t (bN t.av s.set) s.bH [] (au t s.ah).1).1).2≠0 then (t,0,(j6 {t with ix:=nL t t.ix (au t s.ah).1} (au t s.ah).1 (iC t (bN t.av s.set) s.bH [] (au t s.ah).1).1).2)
 else ((j6 {t with ix:=nL t t.ix (au t s.ah).1} (au t s.ah).1 (iC t (bN t.av s.set) s.bH [] (au t s.ah).1).1).1,(au t s.ah).1.length,0)

end Go.Proofs.YtbcmjoaggammcaaGreatDoor.Ba
