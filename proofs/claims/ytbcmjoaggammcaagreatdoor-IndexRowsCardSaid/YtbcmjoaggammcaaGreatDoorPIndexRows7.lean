/-
  What the proof of IndexRows leans on, part 7 of 8: walks of the program's functions at the level of values, and plain facts of what they compute.
-/
import Derived.Test.YtbcmjoaggammcaaGreatDoorPIndexRows6
set_option linter.unusedVariables false
set_option linter.unusedSimpArgs false
set_option maxRecDepth 100000
set_option maxHeartbeats 4000000
namespace Go.Proofs.YtbcmjoaggammcaaGreatDoor.Tw
open List
open Go.Proofs.Tryz
open Go.RowKit V Tr Pk
variable {t u:aE} {h:Nat} {k up:K} {row:Int}
noncomputable def ow(t:aE)(k:K)(row:Int)(h:Nat):aE×Int:=if kS t k=0 then (if row<0 then (vq,3) else if gU t k h=true then (vq,9) else if 4000<(gp t h k row).af.length then (vq,10) else (gp t h k row,0)) else (vq,kS t k)
theorem ac3{ls:List Int}{r:D}{S:List ag}(h:ga cI 3 1 ls r S):ku r=true∧∀B∈S,∀d∈B.cs,ku d=true:=by
 obtain⟨ad,cap,rfl,ho⟩:=h;refine⟨rfl,fun B E d hd=>?_⟩;rcases ho with ⟨_,_,_,_,rfl⟩|⟨b,_,_,_,rfl⟩
 ·cases E
 rw[mem_singleton] at E;subst E;obtain⟨n,_,hn⟩:=mem_flatMap.1 hd;rw[cI,mem_singleton] at hn;subst hn;rfl
theorem OJ(v:Valid t h)(hf:gU t k h=false):∀x∈kD t h,x.1≠k:=fun x hx e=>by
 have:gU t k h=true:=(DD v k).2 ((Aq v k).2 ⟨x.2,by rw[←e];exact hx⟩);rw[hf] at this;cases this
theorem Z0{G:List (Nat×List Value)}(L:List aA)(b:Nat)(root i:Int)(ad:Option Addr)(cap:Nat)(Sx:List ag)(hi:0≤i∧i<L.length)(p:cR)(E:(L[i.toNat]'w4).p=p)(hn:L.length≤10000)(ec:tE L ad cap Sx)(aQ:∀o∈L,qm o)(h5:p.keys.length=5)(dR:p.leaf=true→p.kids.length=5)(I:p.leaf=false→p.kids.length=6)(O:∀k∈p.keys,k.length≤100)(U:p.high.length≤100) :
 VC Tryz.prog G 118 [.v (.pointer (some ⟨b,0,none⟩)),.v (.int .i64 i)] (⟨b,46,2,[.v (.slice ad L.length cap),.v (.int .i64 root)]⟩::(Sx++L.flatMap bO)) (UL L b root i.toNat p):=by
 subst E;exact abu L b root i ad cap Sx hi hn ec aQ h5 dR I O U
theorem abv{aB:Int}(e:j8 t k row h (h+1)=(u,some (up,aB)))(hr:u.root=t.root):gp t h k row=⟨u.af++[⟨false,[up],[t.root,aB],[],-1⟩],u.af.length⟩:=by
 unfold gp;rw[←Qb,e];show(⟨u.af++[⟨false,[up],[u.root,aB],[],-1⟩],u.af.length⟩:aE)=_;rw[hr]
theorem ac4{aB:Int}{m:Nat}(hm:m≤h)(e:j8 t k row h m=(u,some (up,aB)))(h4:(bB (u.pg (c8 t k h t.root m)) up aB).keys.length≤4):gp t h k row=u.set (c8 t k h t.root m) (bB (u.pg (c8 t k h t.root m)) up aB):=by
 have:=OF hm e;rw[HU h4] at this;unfold gp;rw[OG (h-m) (m+1) w4 w4 this];rfl
theorem abw{aB:Int}{m:Nat}(hm:m≤h)(e:j8 t k row h m=(u,some (up,aB)))(h4:¬(bB (u.pg (c8 t k h t.root m)) up aB).keys.length≤4) :
  j8 t k row h (m+1)=(jb u (c8 t k h t.root m) (bn (bB (u.pg (c8 t k h t.root m)) up aB) u.af.length) (bp (bB (u.pg (c8 t k h t.root m)) up aB)),some (iV (bB (u.pg (c8 t k h t.root m)) up aB),(u.af.length:Int))):=by
 rw[OF hm e,Hq h4]
variable {G:List (Nat×List Value)}
theorem YD:(Tryz.prog.info? 93).map (fun i=>(i.zero,i.size,i.bytes))=some (some (.agg #[.bool false,.slice none 0 0,.slice none 0 0,.slice none 0 0,.int .i64 0]),5,88):=by kernel_rfl
theorem Hx(t:aE)(h:Nat)(k:K)(row:Int)(hb:∀p∈t.af,p.keys.length≤maxLen∧p.kids.length≤maxLen)(hv:gj t=0→Valid t h):VC Tryz.prog G 85 [.agg [.list 5 (t.af.flatMap cP) t.af.length,.v (.int .i64 t.root)],.list 1 (k.flatMap cB) k.length,.v (.int .i64 row)] [] (BJ (ow t k row h)):=by
 refine VC.body func85 rfl ntmps85 aO fun X0 w0 aZ=>?_;have eZ:=G0 (G:=G) t k hb;unfold cT at eZ;have dr:maxLen=9223372036854775807:=rfl;refine cj ?_;refine OD.box (ds:=[_,_]) an rfl rfl ot rfl rfl (fun b3=>?_);refine OD.alloc (ds:=[_,_]) an rfl rfl zeroValue46 rfl (fun b6=>?_);refine aj 131 [1,2,3,6] ?_;refine cM [1,2,3,6,8] (eZ) ?_;refine ae [1,2,3,6,8,23] ?_;refine aq (fun az aG=>?_) (fun az aG=>?_)
 ·have hn:¬kS t k=0:=(by simpa using az)
  refine aC 2 ?_;refine aN 0 [_,_] sizeOf46 ?_;refine aj 131 [6,7] ?_;refine aJ [] ?_;unfold ow;rw[if_neg hn];exact yo _
 have hz:kS t k=0:=(by simpa using az)
 obtain⟨hc,MQ⟩:=OI hz;have v:=hv hc;have BK:=H6 MQ;have fj:=qv (G:=G) t h v k w4 (DE v k);unfold cT at fj;have amE:=v.high;have amF:=v.mT;refine ae [1,2,3,6,27] ?_;refine aq (fun aH aT=>?_) (fun aH aT=>?_)
 ·have uY:row<0:=(by omega)
  refine aC 1 ?_;refine aN 0 [_,_] sizeOf46 ?_;refine aj 131 [6,7] ?_;refine aJ [] ?_;unfold ow;rw[if_pos hz,if_pos uY];exact yo _
 have uY:0≤row:=(by omega)
 refine cM [1,2,3,6,11] (fj) ?_;refine ae [1,2,3,6,36] ?_;refine aq (fun aX bw=>?_) (fun aX bw=>?_)
 ·have iI:gU t k h=true:=aX;refine aC 1 ?_;refine aN 0 [_,_] sizeOf46 ?_;refine aj 131 [6,7] ?_;refine aJ [] ?_;unfold ow;rw[if_pos hz,if_neg w4,if_pos iI];exact yo _
 have iI:gU t k h=false:=aX;have hne:=OJ v iI;refine aC 1 ?_;refine OD.call an rfl rfl rfl call115 (EP t h v) ⟨ot,trivial⟩ (eK _) ?_;rintro _ _ ⟨L,ad,cap,Sx,rfl,ec,aQ,hL,rfl⟩;refine OD.perm (dV (A:=[_,_])) ?_;refine OD.alloc (ds:=[_,_]) an rfl rfl zeroValue46 rfl (fun vr=>?_);refine aN 0 [_,_] sizeOf46 ?_;refine aj 131 [1,2,6,12] ?_;refine aC 2 ?_;refine OD.JF an rfl rfl rfl call55 (Rr t h v k) (fun r S=>ac3) ⟨⟨_,ot,(by have:=Ji (root:=t.root) ec aQ (fun B hB=>mem_cons_of_mem ⟨vr,46,2,[.v (.slice ad L.length cap),.v (.int .i64 t.root)]⟩ (mem_cons_of_mem ⟨b6,46,2,[.v (.slice none 0 0),.v (.int .i64 0)]⟩ (mem_cons_of_mem ⟨b3,46,2,[.list 5 (t.af.flatMap cP) t.af.length,.v (.int .i64 t.root)]⟩ hB)));rw[hL] at this;exact this)⟩,⟨_,ot,eL⟩,trivial⟩ ?_;rintro _ Sw ⟨aw,cw,rfl,how⟩;refine OD.gW (t:=42) (Sq:=Sw) lk how (cr eu _) (Perm.refl _) ?_;refine aj 131 [1,2,6,12,13] ?_;refine cM [6,12,13,14,15] (jK k w4) ?_;refine jI [6,12] (fun aW _ aK=>∃(L:List aA),∃(ad:Option Addr),∃(cap:Nat),∃(Sx:List ag),∃(root:Int),(tE L ad cap Sx)∧(∀o∈L,qm o)∧(gp t h k row=⟨L.map aA.p,root⟩)∧(L.length≤10000)∧aK=(⟨131,aW,(⟨vr,46,2,[.v (.slice ad L.length cap),.v (.int .i64 root)]⟩::⟨b6,46,2,[.v (.slice none 0 0),.v (.int .i64 0)]⟩::(Sx++L.flatMap bO))⟩:St)) ?_ ?_
 ·refine cL [6,12,13,14,15,16] ?_;refine aP 2 ?_ (h:=by exact(cX (r:=.int .i64 ((h:Nat):Int)) rfl ot bH (fV (by rw[Ea,show(((h+1:Nat):Int)-1)=(h:Int) from by omega];exact wrap_i64 w4 w4))));refine bG ?_;refine eH [6,12,13] (fun aW _ (lV:Nat×K×Int×List aA×Option Addr×Nat×List ag) aK=>match lV with|(m,up,aB,L,ad,cap,Sx)=>(m≤h+1)∧(j8 t k row h m=(⟨L.map aA.p,t.root⟩,some (up,aB)))∧(tE L ad cap Sx)∧(∀o∈L,qm o)∧aK=(⟨131,(14,.list 1 (up.flatMap cB) up.length)::(15,.v (.int .i64 aB))::(16,.v (.int .i64 ((h:Int)-(m:Nat))))::aW,(⟨vr,46,2,[.v (.slice ad L.length cap),.v (.int .i64 t.root)]⟩::⟨b6,46,2,[.v (.slice none 0 0),.v (.int .i64 0)]⟩::(Sx++L.flatMap bO))⟩:St)) (fun (lV:Nat×K×Int×List aA×Option Addr×Nat×List ag)=>match lV with|(m,up,aB,L,ad,cap,Sx)=>h+1-m) (0,k,row,L,ad,cap,Sx) ⟨(Nat.zero_le _),(by unfold j8;rw[if_pos rfl,hL]),ec,aQ,rfl⟩ ?_;rintro⟨m,up,aB,L,ad,cap,Sx⟩ _ ⟨hm0,he,ec,aQ,rfl⟩;refine ae [6,12,13,14,15,16,52] ?_;refine aq (fun bC bW=>?_) (fun bC bW=>?_)
  ·obtain rfl:m=h+1:=(by omega)
   obtain⟨s1,s2,s3,s4⟩:=Ht v hne BK uY w4 he;have ug:L.length≤t.af.length+(h+1):=(by rw[←length_map (f:=aA.p)];exact s2)
   have WX:=acY v hne BK uY w4 he;refine aC 3 ?_;refine ei (cc 0 [_]) [.slice none 0 0] [_] zeroValue49 runUnderlying90 sizeOf49 (fun U=>?_);refine aD 3 ?_;refine ei (cc 0 [_,_]) [.int .i64 0,.int .i64 0] [_,_] zeroValue3 runUnderlying91 sizeOf3 (fun Z=>?_);refine aD 1 ?_;refine ei (cc 0 [_]) [.bool false,.slice none 0 0,.slice none 0 0,.slice none 0 0,.int .i64 0] [_,_,_,_,_] zeroValue93 runUnderlying44 sizeOf93 (fun Mw=>?_);refine OD.adV (cs':=gO (⟨⟨false,[up],[t.root,aB],[],-1⟩,some ⟨U,0,none⟩,1,[⟨U,49,1*1,flatMap cK [up]⟩],some ⟨Z,0,none⟩,2,[⟨Z,3,2*1,flatMap cI [t.root,aB]⟩]⟩:aA)) rfl ⟨eL,eL,eL,xX,eL,trivial⟩ ?_;refine fH 0 62 5 1 ?_;refine OD.ee (ls:=L) (new:=[(⟨⟨false,[up],[t.root,aB],[],-1⟩,some ⟨U,0,none⟩,1,[⟨U,49,1*1,flatMap cK [up]⟩],some ⟨Z,0,none⟩,2,[⟨Z,3,2*1,flatMap cI [t.root,aB]⟩]⟩:aA)]) (Sq:=Sx) fW uz an rfl rfl underlying44 YD rfl w7 ot ec (oe (A:=[_,_,_,_])) ot bu nv nw (fun Df wH aiw aix=>?_);refine aD 1 ?_;refine aN 3 [_,_] sizeOf44 ?_;refine aj 131 [6,12] ?_;refine aC 3 ?_
   refine bQ (cX (r:=.int .i64 (L.length:Nat)) rfl ot bH (fV (by rw[length_append,show(((L.length+[(⟨⟨false,[up],[t.root,aB],[],-1⟩,some ⟨U,0,none⟩,1,[⟨U,49,1*1,flatMap cK [up]⟩],some ⟨Z,0,none⟩,2,[⟨Z,3,2*1,flatMap cI [t.root,aB]⟩]⟩:aA)].length:Nat):Int)-1)=(L.length:Int) from by simp];exact wrap_i64 w4 w4))) ?_;refine aD 1 ?_;refine aN 3 [_,_] sizeOf3 ?_;have hX:((⟨Z,3,2*1,flatMap cI [t.root,aB]⟩:ag)::⟨U,49,1*1,flatMap cK [up]⟩::L.flatMap bO).Perm ((L++[(⟨⟨false,[up],[t.root,aB],[],-1⟩,some ⟨U,0,none⟩,1,[⟨U,49,1*1,flatMap cK [up]⟩],some ⟨Z,0,none⟩,2,[⟨Z,3,2*1,flatMap cI [t.root,aB]⟩]⟩:aA)]).flatMap bO):=(by rw[Qz];exact(Perm.swap _ _ _).trans (perm_append_comm (l₁:=[_,_])))
   refine OD.perm (S':=⟨vr,46,2,[.v (.slice (some ⟨Df,0,none⟩) (L++[(⟨⟨false,[up],[t.root,aB],[],-1⟩,some ⟨U,0,none⟩,1,[⟨U,49,1*1,flatMap cK [up]⟩],some ⟨Z,0,none⟩,2,[⟨Z,3,2*1,flatMap cI [t.root,aB]⟩]⟩:aA)]).length wH),.v (.int .i64 (L.length:Nat))]⟩::⟨b6,46,2,[.v (.slice none 0 0),.v (.int .i64 0)]⟩::(([⟨Df,93,wH*5,flatMap gO (L++[(⟨⟨false,[up],[t.root,aB],[],-1⟩,some ⟨U,0,none⟩,1,[⟨U,49,1*1,flatMap cK [up]⟩],some ⟨Z,0,none⟩,2,[⟨Z,3,2*1,flatMap cI [t.root,aB]⟩]⟩:aA)])⟩]:List ag)++(L++[(⟨⟨false,[up],[t.root,aB],[],-1⟩,some ⟨U,0,none⟩,1,[⟨U,49,1*1,flatMap cK [up]⟩],some ⟨Z,0,none⟩,2,[⟨Z,3,2*1,flatMap cI [t.root,aB]⟩]⟩:aA)]).flatMap bO)) (by exact(perm_middle (l₁:=[_,_,_])).trans (Perm.cons _ ((perm_middle (l₁:=[_,_,_])).trans (Perm.cons _ (Perm.cons _ hX))))) ?_;refine aj 131 [6,12] ?_;refine CD.exit ?_
   refine⟨_,aM,(L++[(⟨⟨false,[up],[t.root,aB],[],-1⟩,some ⟨U,0,none⟩,1,[⟨U,49,1*1,flatMap cK [up]⟩],some ⟨Z,0,none⟩,2,[⟨Z,3,2*1,flatMap cI [t.root,aB]⟩]⟩:aA)]),(some ⟨Df,0,none⟩),wH,[⟨Df,93,wH*5,flatMap gO (L++[(⟨⟨false,[up],[t.root,aB],[],-1⟩,some ⟨U,0,none⟩,1,[⟨U,49,1*1,flatMap cK [up]⟩],some ⟨Z,0,none⟩,2,[⟨Z,3,2*1,flatMap cI [t.root,aB]⟩]⟩:aA)])⟩],(L.length:Nat),(bI aiw aix),(fun o ho=>by rcases mem_append.1 ho with ho|ho;exact aQ o ho;rw[mem_singleton] at ho;subst ho;exact⟨bI (Nat.le_refl _) (show 1≤maxLen by decide),bI (Nat.le_refl _) (show 2≤maxLen by decide)⟩),(by rw[abv he rfl];show(⟨map aA.p L++[_],((map aA.p L).length:Int)⟩:aE)=_;rw[map_append,length_map];rfl),FU,rfl⟩
  have hm:m≤h:=(by omega)
  have hP:=acZ v hne BK uY hm he;obtain⟨s1,s2,s3,s4⟩:=Ht v hne BK uY w4 he;have ug:L.length≤t.af.length+m:=(by rw[←length_map (f:=aA.p)];exact s2)
  have MR:0≤(c8 t k h t.root m)∧(c8 t k h t.root m)<L.length:=(by have:=hP.rg;rw[←length_map (f:=aA.p)];exact this)
  have hj:(c8 t k h t.root m).toNat<L.length:=(by omega)
  have WY:L[(c8 t k h t.root m).toNat].p=(⟨L.map aA.p,t.root⟩:aE).pg (c8 t k h t.root m):=SS (t:=(⟨L.map aA.p,t.root⟩:aE)) rfl hP.rg hj;have po:ew ((⟨L.map aA.p,t.root⟩:aE).pg (c8 t k h t.root m)) (⟨L.map aA.p,t.root⟩:aE).af.length:=s4 _ (jq hP.rg);have full:=HS po hP.out hP.len hP.high hP.nn hP.nnl;obtain⟨bx,rfl,fQ,qT,rfl⟩:=ec.pos w4;have xz:=aQ _ (getElem_mem hj);obtain⟨o,ho⟩:∃o,o=L[(c8 t k h t.root m).toNat]:=⟨_,rfl⟩
  rw[←ho] at xz WY;rcases o with ⟨p,ak,ck,sk,ai,ci,si⟩
  have gB:p=(⟨L.map aA.p,t.root⟩:aE).pg (c8 t k h t.root m):=WY;obtain⟨dH,jU⟩:oq p.keys ak ck sk∧lu p.kids ai ci si:=xz;rw[←gB] at po full;have mw:=po.eI;have fC:=P8 po up;have WX:=hP.len.2;have E8:(if p.leaf=true then aL p up else aL p up+1)≤p.kids.length∧p.kids.length≤5:=(by cases fB:p.leaf;(have:=(po.node fB).1;rw[if_neg w7];omega);(have:=po.leaf fB;rw[if_pos rfl];omega))
  have hW:h-m<(iP t k h t.root).length:=(by rw[Ea];omega)
  have WZ:(iP t k h t.root)[h-m]=(c8 t k h t.root m):=(by have:=OE (t:=t) (k:=k) (h:=h) (i:=t.root) hm;exact(List.getElem?_eq_some_iff.1 this).2)
  have Bc:=v.high;have TI:=v.mT;have JR:(L.flatMap bO).Perm (sk++(si++((L.eraseIdx (c8 t k h t.root m).toNat).flatMap bO))):=(by have:=yn bO hj;rw[←ho] at this;exact this.trans (by rw[show bO ⟨p,ak,ck,sk,ai,ci,si⟩=sk++si from rfl,append_assoc]))
  refine CD.perm (Perm.cons _ (Perm.cons _ (Perm.cons _ JR))) ?_;refine cL [6,12,13,14,15,16,17] ?_;refine aP 4 ?_ (h:=by exact(dx 1 (h:=by first|exact .l (j:=h-m) w4 hW|exact .r (j:=h-m) w4 hW)));refine aP 0 ?_ (h:=by exact(cH (mk:=Op.load 3) rfl ot (pQ (d:=.v (.int .i64 (c8 t k h t.root m))) (i:=h-m) eu isAgg3 hW (by rw[WZ];rfl))));refine aP 0 ?_ (h:=by exact(dx 5 (h:=by first|exact .l (j:=(c8 t k h t.root m).toNat) (Int.toNat_of_nonneg MR.1).symm hj|exact .r (j:=(c8 t k h t.root m).toNat) (Int.toNat_of_nonneg MR.1).symm hj)));refine bG ?_;refine cL [6,12,13,14,15,16,17,18] ?_;refine aP 2 ?_ (h:=by exact(cH (mk:=Op.load 93) rfl ot (dI (k:=2) (ls:=L) (i:=(c8 t k h t.root m).toNat) fW rfl rfl rfl isAgg93 sizeOf93 hj)));refine mX 1 ?_;refine y4 (HZ p up po.jF w4) (ha:=by exact⟨⟨_,ot,(by rw[←ho];exact um ⟨eL,kZ dH (cr fX _) (fun B hB=>.tail _ (.tail _ (.tail _ (mem_append_left _ hB)))),kZ jU (cr eu _) (fun B hB=>.tail _ (.tail _ (.tail _ (mem_append_right _ (mem_append_left _ hB))))),eL,eL,trivial⟩)⟩,⟨_,ot,eL⟩,trivial⟩) (K:=?_);refine bG ?_;refine aC 4 ?_;refine bQ (cH (mk:=Op.load 90) rfl ot (kP (k:=2) (j:=1) (d:=.v (.slice ak p.keys.length ck)) (ls:=L) fW rfl rfl rfl isAgg90 hj qR)) ?_;refine aD 2 ?_
  refine ei (cc 0 [_]) [.slice none 0 0] [_] zeroValue49 runUnderlying90 sizeOf49 (fun b89=>?_);refine OD.call an rfl rfl rfl call116 (YB p.keys (aL p up) up ak ck sk b89 fC w4 dH) ⟨ot,ot,ot,trivial⟩ (Perm.cons _ (oe (A:=[_,_,_]))) ?_;rintro _ E ⟨I,O,rfl,fk⟩;refine OD.perm (iW (A:=[_,_,_])) ?_;refine aD 2 ?_;refine OD.storeAt (k:=2) (cs':=flatMap gO (L.set (c8 t k h t.root m).toNat (⟨{p with keys:=gM p.keys (aL p up) up},I,O,E,ai,ci,si⟩:aA))) an rfl rfl ot rfl rfl ot rfl rfl sizeOf90 rfl (by show 0+(c8 t k h t.root m).toNat*5+1+1≤(flatMap gO L).length;rw[cr fW];omega) (by show(L.flatMap gO).set (0+(c8 t k h t.root m).toNat*5+1) _=_;rw[Nat.zero_add];exact vz fW w7 hj (by rw[←ho];unfold gO;rw[x8 fC];rfl)) ?_;refine aj 131 [6,12,13,15,16,17,18] ?_
  refine CD.cut (fun aK=>aK=(⟨131,[(6,.v (.pointer (some ⟨b6,0,none⟩))),(12,.v (.pointer (some ⟨vr,0,none⟩))),(13,.list 1 ((iP t k h t.root).flatMap cI) (iP t k h t.root).length),(15,.v (.int .i64 aB)),(16,.v (.int .i64 ((h:Int)-(m:Nat)))),(17,.v (.pointer (some ⟨bx,0+(c8 t k h t.root m).toNat*5,none⟩))),(18,.v (.int .i64 (((if p.leaf=true then aL p up else aL p up+1):Nat):Int)))],(⟨vr,46,2,[.v (.slice (some ⟨bx,0,none⟩) L.length cap),.v (.int .i64 t.root)]⟩::⟨b6,46,2,[.v (.slice none 0 0),.v (.int .i64 0)]⟩::⟨bx,93,cap*5,flatMap gO (L.set (c8 t k h t.root m).toNat (⟨{p with keys:=gM p.keys (aL p up) up},I,O,E,ai,ci,si⟩:aA))⟩::(E++(si++((L.eraseIdx (c8 t k h t.root m).toNat).flatMap bO))))⟩:St)) ?_ ?_
  ·refine cL [6,12,13,15,16,17,18,97] ?_;refine aP 3 ?_ (h:=by exact(cH (mk:=Op.load 4) rfl ot (kP (k:=2) (j:=0) (d:=.v (.bool p.leaf)) (ls:=(L.set (c8 t k h t.root m).toNat (⟨{p with keys:=gM p.keys (aL p up) up},I,O,E,ai,ci,si⟩:aA))) fW rfl rfl rfl isAgg4 wP (by rw[getElem_set_self];rfl))));refine bG ?_;refine aq (fun cx c9=>?_) (fun cx c9=>?_)
   ·have di:(((if p.leaf=true then aL p up else aL p up+1):Nat):Int)=(((aL p up):Nat):Int)+1:=(by rw[if_neg (by simpa using cx)];rfl)
    refine cg [6,12,13,15,16,17,18] ?_;exact VM
   have di:(((if p.leaf=true then aL p up else aL p up+1):Nat):Int)=(((aL p up):Nat):Int):=(by rw[if_pos (by simpa using cx)])
   refine CD.skip ?_;exact VM
  rintro _ ⟨rfl⟩;refine aC 4 ?_;refine bQ (cH (mk:=Op.load 91) rfl ot (kP (k:=2) (j:=2) (d:=.v (.slice ai p.kids.length ci)) (ls:=(L.set (c8 t k h t.root m).toNat (⟨{p with keys:=gM p.keys (aL p up) up},I,O,E,ai,ci,si⟩:aA))) fW rfl rfl rfl isAgg91 wP (by rw[getElem_set_self];rfl))) ?_;refine aD 2 ?_;refine ei (cc 0 [_]) [.int .i64 0] [_] zeroValue3 runUnderlying91 sizeOf3 (fun aiy=>?_);refine OD.call an rfl rfl rfl call117 (YC p.kids (if p.leaf=true then aL p up else aL p up+1) aB ai ci si aiy E8.1 w4 jU) ⟨ot,ot,ot,trivial⟩ (Perm.cons _ (sN (A:=[_,_,_]))) ?_;rintro _ bz ⟨bJ,bK,rfl,lI⟩;refine OD.perm (vH (A:=[_,_,_])) ?_;refine aD 2 ?_
  refine OD.storeAt (k:=2) (cs':=flatMap gO (L.set (c8 t k h t.root m).toNat (⟨(bB p up aB),I,O,E,bJ,bK,bz⟩:aA))) an rfl rfl ot rfl rfl ot rfl rfl sizeOf91 rfl (by show 0+(c8 t k h t.root m).toNat*5+2+1≤(flatMap gO (L.set (c8 t k h t.root m).toNat (⟨{p with keys:=gM p.keys (aL p up) up},I,O,E,ai,ci,si⟩:aA))).length;rw[cr fW,length_set];omega) (by show(flatMap gO (L.set (c8 t k h t.root m).toNat (⟨{p with keys:=gM p.keys (aL p up) up},I,O,E,ai,ci,si⟩:aA))).set (0+(c8 t k h t.root m).toNat*5+2) _=_;rw[Nat.zero_add,vz fW (a':=(⟨(bB p up aB),I,O,E,bJ,bK,bz⟩:aA)) w7 wP (by rw[getElem_set_self];show gO (⟨(bB p up aB),I,O,E,bJ,bK,bz⟩:aA)=(gO (⟨{p with keys:=gM p.keys (aL p up) up},I,O,E,ai,ci,si⟩:aA)).set 2 _;unfold gO;rw[show((⟨(bB p up aB),I,O,E,bJ,bK,bz⟩:aA)).p.kids.length=p.kids.length+1 from x8 E8.1];rfl),set_set]) ?_;have vg:(E++(bz++((L.eraseIdx (c8 t k h t.root m).toNat).flatMap bO))).Perm ((L.set (c8 t k h t.root m).toNat (⟨(bB p up aB),I,O,E,bJ,bK,bz⟩:aA)).flatMap bO):=(by have:=(qp bO hj (⟨(bB p up aB),I,O,E,bJ,bK,bz⟩:aA)).symm;rw[show bO (⟨(bB p up aB),I,O,E,bJ,bK,bz⟩:aA)=E++bz from rfl,append_assoc] at this;exact this)
  refine OD.perm (S':=⟨vr,46,2,[.v (.slice (some ⟨bx,0,none⟩) (L.set (c8 t k h t.root m).toNat (⟨(bB p up aB),I,O,E,bJ,bK,bz⟩:aA)).length cap),.v (.int .i64 t.root)]⟩::⟨b6,46,2,[.v (.slice none 0 0),.v (.int .i64 0)]⟩::(([⟨bx,93,cap*5,flatMap gO (L.set (c8 t k h t.root m).toNat (⟨(bB p up aB),I,O,E,bJ,bK,bz⟩:aA))⟩]:List ag)++(L.set (c8 t k h t.root m).toNat (⟨(bB p up aB),I,O,E,bJ,bK,bz⟩:aA)).flatMap bO)) (by rw[length_set];exact Perm.cons _ (Perm.cons _ (Perm.cons _ vg))) ?_;have UM:tE (L.set (c8 t k h t.root m).toNat (⟨(bB p up aB),I,O,E,bJ,bK,bz⟩:aA)) (some ⟨bx,0,none⟩) cap [⟨bx,93,cap*5,flatMap gO (L.set (c8 t k h t.root m).toNat (⟨(bB p up aB),I,O,E,bJ,bK,bz⟩:aA))⟩]:=bI qP qT;have jD:∀o∈(L.set (c8 t k h t.root m).toNat (⟨(bB p up aB),I,O,E,bJ,bK,bz⟩:aA)),qm o:=fun x hx=>by rcases mem_or_eq_of_mem_set hx with hx|rfl;exact aQ x hx;exact⟨fk,lI⟩
  refine aj 131 [6,12,13,16,17] ?_;refine cL [6,12,13,16,116] ?_;refine aP 3 ?_ (h:=by exact(cH (mk:=Op.load 90) rfl ot (kP (k:=2) (j:=1) (d:=.v (.slice I (bB p up aB).keys.length O)) (ls:=(L.set (c8 t k h t.root m).toNat (⟨(bB p up aB),I,O,E,bJ,bK,bz⟩:aA))) fW rfl rfl rfl isAgg90 wP (by rw[getElem_set_self];rfl))));refine bG ?_;refine aq (fun dN en=>?_) (fun dN en=>?_)
  ·have h4:(bB p up aB).keys.length≤4:=(by have:=of_decide_eq_true dN;omega)
   refine CD.exit ?_;refine⟨_,aM,(L.set (c8 t k h t.root m).toNat (⟨(bB p up aB),I,O,E,bJ,bK,bz⟩:aA)),(some ⟨bx,0,none⟩),cap,[⟨bx,93,cap*5,flatMap gO (L.set (c8 t k h t.root m).toNat (⟨(bB p up aB),I,O,E,bJ,bK,bz⟩:aA))⟩],t.root,UM,jD,(by rw[ac4 hm he (by rw[←gB];exact h4),←gB,map_set];rfl),u7,rfl⟩
  have h4:¬(bB p up aB).keys.length≤4:=(by have:=of_decide_eq_false dN;omega)
  have h5:(bB p up aB).keys.length=5:=(by have:=full.eI;omega)
  refine dK 2 ?_;refine bQ (dx 1 (h:=by first|exact .l (j:=h-m) w4 hW|exact .r (j:=h-m) w4 hW)) ?_;refine bQ (cH (mk:=Op.load 3) rfl ot (pQ (d:=.v (.int .i64 (c8 t k h t.root m))) (i:=h-m) eu isAgg3 hW (by rw[WZ];rfl))) ?_;have lK:(L.set (c8 t k h t.root m).toNat (⟨(bB p up aB),I,O,E,bJ,bK,bz⟩:aA)).length=L.length:=length_set ..;refine OD.call an rfl rfl rfl call118 (Z0 (L.set (c8 t k h t.root m).toNat (⟨(bB p up aB),I,O,E,bJ,bK,bz⟩:aA)) vr t.root (c8 t k h t.root m) (some ⟨bx,0,none⟩) cap [⟨bx,93,cap*5,flatMap gO (L.set (c8 t k h t.root m).toNat (⟨(bB p up aB),I,O,E,bJ,bK,bz⟩:aA))⟩] (by rw[lK];exact MR) (bB p up aB) (by rw[getElem_set_self]) (by rw[lK];omega) UM jD h5 (fun hl=>by have:=full.leaf hl;omega) (fun hl=>by have:=(full.node hl).1;omega) (fun x hx=>(full.kR x hx).2) full.hlen) ⟨ot,ot,trivial⟩ (Perm.cons _ (perm_append_singleton _ _).symm) ?_;rintro _ _ ⟨rfl,L3,Gx,FE,Gy,aiz,wK,hL3,rfl⟩;refine OD.perm (Perm.cons _ (perm_append_singleton _ _)) ?_;have B6:j8 t k row h (m+1)=(⟨L3.map aA.p,t.root⟩,some (iV (bB p up aB),((L.set (c8 t k h t.root m).toNat (⟨(bB p up aB),I,O,E,bJ,bK,bz⟩:aA)).length:Int))):=(by rw[abw hm he (by rw[←gB];exact h4),←gB,hL3,lK];unfold jb;show(({af:=(map aA.p L).set _ _++_,root:=t.root}:aE),_)=_;rw[map_set,set_set,length_map])
  refine aj 131 [6,12,13,14,15,16] ?_;refine cg [6,12,13,14,15,16] ?_;refine⟨((m+1),(iV (bB p up aB)),((L.set (c8 t k h t.root m).toNat (⟨(bB p up aB),I,O,E,bJ,bK,bz⟩:aA)).length:Int),L3,Gx,FE,Gy),_,cz,aM,w4,B6,aiz,wK,rfl⟩
 rintro _ ⟨L,ad,cap,Sx,root,ec,aQ,FG,ug,rfl⟩;refine ae [6,12,128] ?_;refine aq (fun eN fT=>?_) (fun eN fT=>?_)
 ·refine aC 1 ?_;refine aN 1 [_,_] sizeOf46 ?_;refine aj 131 [6,7] ?_;refine aJ [] ?_;unfold ow;rw[if_pos hz,if_neg w4,if_neg wT,if_pos (by rw[FG];show 4000<(L.map aA.p).length;rw[length_map];omega)];exact yo _
 refine aC 1 ?_;refine aN 1 [_,_] sizeOf46 ?_;refine aj 131 [6,7] ?_;refine aJ (Sx++L.flatMap bO) ?_;unfold ow;rw[if_pos hz,if_neg w4,if_neg wT,if_neg (by rw[FG];show ¬4000<(L.map aA.p).length;rw[length_map];omega)];exact⟨_,rfl,L,ad,cap,Sx,by rw[FG],ec,aQ,by rw[FG],rfl⟩
theorem Z1(t:aE)(h:Nat)(k:K)(row:Int)(hb:∀p∈t.af,p.keys.length≤maxLen∧p.kids.length≤maxLen)(E:gj t=0→Valid t h):VP Tryz.prog G 85 [.agg (cT t),.list 1 (k.flatMap cB) k.length,.v (.int .i64 row)] (.dy [.agg (cT (ow t k row h).1),.v (.int .i64 (ow t k row h).2)]):=(Hx t h k row hb E).cover fun r S hr=>hr.view

end Go.Proofs.YtbcmjoaggammcaaGreatDoor.Tw
namespace Go.Proofs.YtbcmjoaggammcaaGreatDoor.Tr
open List
open Go.Proofs.Tryz
open Go.Lib (compareBytes)
variable {t:aE} {h:Nat} {k:K}
variable {n:Nat}
theorem Qh(hp:∀p∈t.af,ew p t.af.length):∀{h h':Nat} {i:Int} {a b c d:K},dP t h i a b→dP t h' i c d→h=h'
 | 0,0,_,_,_,_,_,_,_=>rfl
 | 0,h'+1,i,_,_,_,_,h1,h2=>by have:=h1.2.1;rw[h2.2.1] at this;cases this
 | h+1,0,i,_,_,_,_,h1,h2=>by have:=h1.2.1;rw[h2.2.1] at this;cases this
 | h+1,h'+1,i,_,_,_,_,h1,h2=>by
  obtain⟨p1,p2,p3,O,E⟩:=h1;obtain⟨q1,q2,U,Z,I⟩:=h2;have hn:=((hp _ (jq p1)).node p2).1;have:=Qh hp (E 0 w4) (I 0 w4);rw[this]
noncomputable def dz(t:aE):Nat:=Classical.epsilon fun h=>Valid t h
theorem DU(v:Valid t h):Valid t (dz t):=Classical.epsilon_spec (p:=fun h=>Valid t h) ⟨h,v⟩
theorem Jk(v:Valid t h):dz t=h:=Qh v.page (DU v).ok v.ok
noncomputable def gD(t:aE):List (K×Int):=kD t (dz t)
theorem IT(hp:∀p∈t.af,ew p t.af.length):∀{h:Nat} {i:Int} {a b:K},dP t h i a b→2 ^ h≤(ids t h i).length
 | 0,i,_,_,_=>by simp[ids]
 | h+1,i,_,_,ok=>by
  obtain⟨p1,p2,p3,U,E⟩:=ok;have hn:=(hp _ (jq p1)).node p2;have hk:1≤(t.pg i).keys.length:=by
   have:=hn.2;cases kV:(t.pg i).keys with
   | nil=>exact absurd kV this
   | cons _ _=>simp
  have h0:=IT hp (E 0 w4);have h1:=IT hp (E 1 w4);have key:∀(l:List Int) (h2:2≤l.length),2 ^ h≤(ids t h (l[0]'w4)).length→2 ^ h≤(ids t h (l[1]'w4)).length→2 ^ h+2 ^ h≤(l.flatMap (ids t h)).length:=by
   intro l h2 I O;match l,h2 with
   | x::y::r,_ =>
    simp only[flatMap_cons,length_append];simp only[getElem_cons_zero,getElem_cons_succ] at I O;omega
  have:=key _ w4 h0 h1;rw[ids,length_cons,Nat.pow_succ];omega
theorem ac5(v:Valid t h):h≤11:=by
 have h1:=IT v.page v.ok;rw[v.all] at h1;have h2:=v.mT;refine Nat.le_of_not_lt fun h3=>?_;have:2 ^ 12≤2 ^ h:=Nat.pow_le_pow_right w7 h3;omega
structure iy (t:aE) (n:Nat):Prop where
 val:Valid t (dz t)
 eI:t.af.length≤1+13*n
theorem iy.mono{m:Nat}(g:iy t n)(h:n≤m):iy t m:=⟨g.val,by have:=g.eI;omega⟩
theorem abx:iy rV 0:=⟨DU Ow,by decide⟩
theorem aby:gD rV=[]:=by unfold gD;rw[Jk Ow];exact abc
theorem Ec{row:Int}(g:iy t n)(hn:n≤300)(kH:∀x∈gD t,x.1≠k)(hk:1≤k.length∧k.length≤100)(hr:0≤row) :
  iy (gp t (dz t) k row) (n+1)∧(gp t (dz t) k row).af.length≤4000∧∀x,x∈gD (gp t (dz t) k row)↔x=(k,row)∨x∈gD t:=by
 have E:=ac5 g.val;have hf:=g.eI;obtain⟨h',_,v,⟨_,hm⟩,he⟩:=ZA g.val kH hk hr w4;refine⟨⟨DU v,by omega⟩,v.mT,fun x=>?_⟩;unfold gD;rw[Jk v];exact he x
theorem H7(g:iy t n)(ht:AU t k (dz t)):iy (gq t (dz t) k) n∧∀x,x∈gD (gq t (dz t) k)↔x∈gD t∧x.1≠k:=by
 obtain⟨v,hl,he⟩:=ZB g.val ht;refine⟨⟨DU v,by have:=g.eI;omega⟩,fun x=>?_⟩;unfold gD;rw[Jk v];exact he x

end Go.Proofs.YtbcmjoaggammcaaGreatDoor.Tr
namespace Go.Proofs.YtbcmjoaggammcaaGreatDoor.Tw
open List
open Go.Proofs.Tryz
open Go.RowKit V Tr Pk
open Go.Lib (compareBytes)
variable {k:K} {t:aE} {n:Nat} {row:Int}
theorem ac6(h:1≤k.length∧k.length≤100):nS k=true:=decide_eq_true h
theorem AV(g:iy t n)(hk:1≤k.length∧k.length≤100):kS t k=0:=Ii (HY g.val) (ac6 hk)
theorem Ar(g:iy t n)(k:K):gU t k (dz t)=true↔∃row,(k,row)∈gD t:=(DD g.val k).trans (Aq g.val k)
theorem Ed(g:iy t n):gU t k (dz t)=false↔∀x∈gD t,x.1≠k:=by
 constructor
 ·exact fun h=>OJ g.val h
 intro h;cases hq:gU t k (dz t) with
 | false=>rfl
 | true=>obtain⟨row,hr⟩:=(Ar g k).1 hq;exact absurd rfl (h _ hr)
theorem ac7(g:iy t n)(hk:1≤k.length∧k.length≤100)(hr:0≤row)(h:gU t k (dz t)=true):ow t k row (dz t)=(vq,9):=by
 unfold ow;rw[if_pos (AV g hk),if_neg w4,if_pos h]
theorem SU(g:iy t n)(hn:n≤300)(hk:1≤k.length∧k.length≤100)(hr:0≤row)(h:gU t k (dz t)=false):ow t k row (dz t)=(gp t (dz t) k row,0):=by
 have:=(Ec g hn ((Ed g).1 h) hk hr).2.1;unfold ow;rw[if_pos (AV g hk),if_neg w4,if_neg (by rw[h];decide),if_neg w4]
theorem RB(g:iy t n)(hk:1≤k.length∧k.length≤100)(h:gU t k (dz t)=true):qG t k (dz t)=(gq t (dz t) k,0):=by
 unfold qG;rw[if_pos (AV g hk),if_pos h]
theorem ac8(g:iy t n)(hk:1≤k.length∧k.length≤100)(h:gU t k (dz t)=false):findF t k (dz t)=(0,8):=by
 unfold findF;rw[if_pos (AV g hk),if_neg (by rw[h];decide)]
theorem H8(g:iy t n)(hk:1≤k.length∧k.length≤100)(h:(k,row)∈gD t):findF t k (dz t)=(row,0):=by
 unfold findF dU;rw[if_pos (AV g hk),if_pos ((Ar g k).2 ⟨row,h⟩)];obtain⟨_,_,e⟩:=(found g.val k row).1 h;rw[e]
theorem AM(g:iy t n):∀p∈t.af,p.keys.length≤maxLen∧p.kids.length≤maxLen:=abm g.val
variable {G:List (Nat×List Value)}
theorem Qi(g:iy t n)(k:K)(row:Int):VP Tryz.prog G 85 [.agg (cT t),.list 1 (k.flatMap cB) k.length,.v (.int .i64 row)] (.dy [.agg (cT (ow t k row (dz t)).1),.v (.int .i64 (ow t k row (dz t)).2)]):=Z1 t (dz t) k row (AM g) fun _=>g.val
theorem Qj(g:iy t n)(k:K):VP Tryz.prog G 93 [.agg (cT t),.list 1 (k.flatMap cB) k.length] (.dy [.agg (cT (qG t k (dz t)).1),.v (.int .i64 (qG t k (dz t)).2)]):=ZX t (dz t) k (AM g) fun _=>g.val
theorem EQ(g:iy t n)(k:K):VP Tryz.prog G 14 [.agg (cT t),.list 1 (k.flatMap cB) k.length] (.dy [.v (.int .i64 (findF t k (dz t)).1),.v (.int .i64 (findF t k (dz t)).2)]):=aez t (dz t) k (AM g) fun _=>g.val
theorem RC(g:iy t n):VP Tryz.prog G 16 [.agg (cT t)] (.v (.int .i64 0)):=by have:=oQ (G:=G) t (AM g);rwa [HY g.val] at this
noncomputable def oW(t:aE)(f eA:K):List (K×Int):=wg t (dz t) f eA
theorem SV(g:iy t n)(f eA:K)(hf:f.length≤100)(ht:eA.length≤100):VP Tryz.prog G 15 [.agg (cT t),.list 1 (f.flatMap cB) f.length,.list 1 (eA.flatMap cB) eA.length] (.dy [.list 2 ((oW t f eA).flatMap cE) (oW t f eA).length,.v (.int .i64 0)]):=by
 have:=ac2 (G:=G) t (dz t) (AM g) (fun _=>g.val) f eA;unfold vZ at this;rwa [if_pos (HY g.val),if_pos ⟨hf,ht⟩] at this
theorem Qk(t:aE):oW t [] []=gD t:=by
 unfold oW wg gD;rw[abo,Hv fun x _=>by simp[uJ]]
theorem RD(g:iy t n):VP Tryz.prog G 15 [.agg (cT t),.v (.slice none 0 0),.v (.slice none 0 0)] (.dy [.list 2 ((oW t [] []).flatMap cE) (oW t [] []).length,.v (.int .i64 0)]):=VC.eA (args':=[.agg (cT t),.v (.slice none 0 0),.v (.slice none 0 0)]) (SV g [] [] w7 w7) ⟨.inl rfl,.inr ⟨1,rfl,rfl⟩,.inr ⟨1,rfl,rfl⟩,trivial⟩

end Go.Proofs.YtbcmjoaggammcaaGreatDoor.Tw
namespace Go.Proofs.YtbcmjoaggammcaaGreatDoor.Ba
open List
open Go.Proofs.Tryz
open Go.RowKit V Pk Tr Vl Go.Proofs.YtbcmjoaggammcaaGreatDoor.Nm Pc Cd Ex Tw
structure aU where
 nm:ByteArray
 av:List cu
 rows:List (List Vl)
 ix:aE
def hU(r:List Vl):List D:=[.list 3 (r.flatMap cV) r.length]
theorem kN(r:List Vl):(hU r).length=1:=rfl
theorem abz(r:List Vl):(hU r).all V.one=true:=rfl
def dJ(t:aU):List D:=[.v (.string t.nm),.list 2 (t.av.flatMap cC) t.av.length,.list 1 (t.rows.flatMap hU) t.rows.length,.list 5 (t.ix.af.flatMap cP) t.ix.af.length,.v (.int .i64 t.ix.root)]
theorem jL(t:aU):(dJ t).length=5:=rfl
def bA(b:List aU)(nm:ByteArray):Int:=dM (fun t=>t.nm.toList==nm.toList) b
def cQ(r:List Vl):K:=(fL (r.take 1)).1
variable {G:List (Nat×List Value)}
theorem abA(t:aU)(nm:ByteArray)(b:Nat):VC Tryz.prog G 62 [.agg (dJ t),.v (.pointer (some ⟨b,0,none⟩))] [⟨b,9,1,[.v (.string nm)]⟩] (fun r S=>r = .v (.bool (t.nm.toList==nm.toList))∧S=[⟨b,9,1,[.v (.string nm)]⟩]):=by
 refine VC.body func62 rfl ntmps62 aO fun X0 w0 aZ=>?_;unfold dJ;refine cj ?_;refine OD.box (ds:=[_,_,_,_,_]) an rfl rfl ot rfl rfl (fun b2=>?_);exact VH
theorem Z2(ls:List aU)(I:Nat)(E:List D)(S:List ag)(p:aU→Bool)(fg:∀args w,(callFunc I args).run Tryz.prog w = .ok (.enter I args) w)(hp:∀x∈ls,VC Tryz.prog G I (.agg (dJ x)::E) S (fun r S'=>r = .v (.bool (p x))∧S'=S))(hlen:ls.length≤1000000):VC Tryz.prog G 61 [.list 5 (ls.flatMap dJ) ls.length,.ek (.func I) E] S (fun r S'=>r = .v (.int .i64 (dM p ls))∧S'=S):=by
 refine VC.body func61 rfl ntmps61 aO fun X0 w0 aZ=>?_;refine aC 1 ?_;refine OD.wk (Wk.dL (n:=19) (l':=[(0,_),(1,_)]) (S':=S) rfl mB ff) ?_;refine OD.nil ?_;refine aC 3 ?_;refine OD.wk (Wk.dL (n:=19) (l':=[(0,_),(1,_),(7,_),(8,_)]) (S':=S) rfl mB ff) ?_;refine OD.nil ?_;refine eH [0,1,7] (fun aW _ (k:Nat) aK=>(k≤ls.length)∧(∀x∈ls.take k,p x=false)∧aK=(⟨19,(8,.v (.int .i64 (k:Nat)))::aW,S⟩:St)) (fun (k:Nat)=>ls.length-k) 0 ⟨Nat.zero_le _,bu,rfl⟩ ?_;rintro k _ ⟨hk,h0,rfl⟩;refine aC 1 ?_;refine OD.wk (Wk.dL (n:=19) (l':=[(0,_),(1,_),(7,_),(8,_),(9,_)]) (S':=S) rfl mB ff) ?_;refine OD.nil ?_;refine aq (fun az aG=>?_) (fun az aG=>?_)
 ·refine aC 2 ?_;refine OD.wk (Wk.dL (n:=19) (l':=[(0,_),(1,_),(5,_),(7,_),(8,_)]) (S':=S) rfl mB ff) ?_;refine OD.nil ?_;refine aC 5 ?_;refine OD.j4 (f:=I) (args:=[_]) an rfl rfl (sV rfl lk) fg (hp (ls[k]'w4) (getElem_mem _)) rfl ⟨sV rfl lk,trivial⟩ (HF _) ?_;rintro _ S2 ⟨rfl,ik⟩;rw[ik];clear ik;refine OD.wk (Wk.dL (n:=19) (l':=[(0,_),(1,_),(5,_),(7,_),(8,_),(16,_)]) (S':=S) rfl mB ff) ?_;refine OD.nil ?_;refine aq (fun aH aT=>?_) (fun aH aT=>?_)
  ·refine aC 2 ?_;refine OD.wk (Wk.dL (n:=19) (l':=[(4,_)]) (S':=S) rfl mB ff) ?_;refine OD.nil ?_;refine aJ S ?_;refine⟨?_,rfl⟩;first|(rw[xW w4 h0 tg])|(rw[vA w4 h0])
  refine dK 2 ?_;refine OD.wk (Wk.dL (n:=19) (l':=[(0,_),(1,_),(7,_),(8,_)]) (S':=S) rfl mB ff) ?_;refine OD.nil ?_;refine⟨k+1,_,cz,aM,w4,(by rw[take_succ_eq_append_getElem w4];intro x hx;rcases mem_append.1 hx with hx|hx;exact h0 x hx;simp only[mem_singleton] at hx;subst hx;assumption),rfl⟩
 refine aC 1 ?_;refine OD.wk (Wk.dL (n:=19) (l':=[(4,_)]) (S':=S) rfl mB ff) ?_;refine OD.nil ?_;refine aJ S ?_;refine⟨?_,rfl⟩;first|(rw[xW w4 h0 tg])|(rw[vA w4 h0])
theorem qv(l:List aU)(hl:l.length≤1000)(nm:ByteArray):VP Tryz.prog G 38 [.list 5 ((l).flatMap dJ) (l).length,.v (.string nm)] (.v (.int .i64 (bA l nm))):=by
 refine VC.body func38 rfl ntmps38 aO fun X0 w0 aZ=>?_;refine cj ?_;refine OD.box (ds:=[_]) an rfl rfl ot rfl rfl (fun b3=>?_);refine aj 8 [0,3] ?_;refine aC 1 ?_;refine bQ (oP (ds:=[_]) rfl ⟨ot,trivial⟩) ?_;refine OD.call an rfl rfl rfl call61 (Z2 l 62 [.v (.pointer (some ⟨b3,0,none⟩))] _ (fun t=>t.nm.toList==nm.toList) call62 (fun h _=>abA h nm b3) w4) ⟨ot,ot,trivial⟩ (jX (k:=0) rfl) ?_;rintro _ S2 ⟨rfl,ik⟩;rw[ik];clear ik;refine aj 8 [4] ?_;exact nA
theorem abB(c:cu)(nm:ByteArray)(b:Nat):VC Tryz.prog G 120 [.agg (cC c),.v (.pointer (some ⟨b,0,none⟩))] [⟨b,9,1,[.v (.string nm)]⟩] (fun r S=>r = .v (.bool (c.n.toList==nm.toList))∧S=[⟨b,9,1,[.v (.string nm)]⟩]):=by
 refine VC.body func120 rfl ntmps120 aO fun X0 w0 aZ=>?_;exact z138
theorem Hy(t:aU)(hl:t.av.length≤1000)(nm:ByteArray):VP Tryz.prog G 86 [.agg (dJ t),.v (.string nm)] (.v (.int .i64 (bL t.av nm))):=by
 refine VC.body func86 rfl ntmps86 aO fun X0 w0 aZ=>?_;unfold dJ;refine cj ?_;refine OD.box (ds:=[_,_,_,_,_]) an rfl rfl ot rfl rfl (fun b2=>?_);refine OD.box (ds:=[_]) an rfl rfl ot rfl rfl (fun b3=>?_);refine aj 9 [2,3] ?_;refine aC 2 ?_;refine bQ (oP (ds:=[_]) rfl ⟨ot,trivial⟩) ?_;refine OD.call an rfl rfl rfl call119 (Pc.HN t.av 120 [.v (.pointer (some ⟨b3,0,none⟩))] _ (fun c=>c.n.toList==nm.toList) call120 (fun h _=>abB h nm b3) w4) ⟨ot,ot,trivial⟩ (jX (k:=0) rfl) ?_;rintro _ S2 ⟨rfl,ik⟩;rw[ik];clear ik;refine aj 9 [4] ?_;exact nA

end Go.Proofs.YtbcmjoaggammcaaGreatDoor.Ba
namespace Go.Proofs.YtbcmjoaggammcaaGreatDoor.Ba
open List
open Go.Proofs.Tryz
open Go.RowKit V Pk Tr Vl Go.Proofs.YtbcmjoaggammcaaGreatDoor.Nm Pc Cd Ex Tw
variable {G:List (Nat×List Value)} {m:Int}
variable {S:List ag} {t:aU} {n:Nat} {p:List Int×Int}
def BU(k:K)(r:D)(S:List ag):Prop:=∃ad cap,r = .v (.slice ad k.length cap)∧bq 5 1 (k.flatMap cB) k.length ad cap S
theorem BU.view{k:K}{r:D}(h:BU k r S):View S r (.list 1 (k.flatMap cB) k.length):=by
 obtain⟨ad,cap,rfl,ho⟩:=h;exact kZ ho (cr oU _) (fun B h=>h)
theorem BU.flat{k:K}{r:D}(h:BU k r S):ku r=true∧∀B∈S,∀d∈B.cs,ku d=true:=by
 obtain⟨ad,cap,rfl,ho⟩:=h;refine⟨rfl,fun B E d hd=>?_⟩;rcases ho with ⟨_,_,_,_,rfl⟩|⟨b,_,_,_,rfl⟩
 ·cases E
 rw[mem_singleton] at E;subst E;obtain⟨n,_,hn⟩:=mem_flatMap.1 hd;rw[cB,mem_singleton] at hn;subst hn;rfl
theorem Jl(hG:(1,[Value.int .i64 m])∈G)(r:List Vl)(h1:1≤r.length)(h2:r.length≤1000000)(aQ:∀v∈r,v.Ok):VC Tryz.prog G 66 [.list 3 (r.flatMap cV) r.length] [] (BU (cQ r)):=by
 refine VC.body func66 rfl ntmps66 aO fun X0 w0 aZ=>?_;have dr:maxLen=9223372036854775807:=rfl;refine ae [0] ?_;refine aC 1 ?_;refine bQ (dY (h:=1) rfl ot trivial ⟨_,bH⟩ (by exact nH e9 (fun h=>by cases h) runUnderlying27 sizeOf30 w4)) ?_;refine OD.call an rfl rfl rfl call13 (SF hG (r.take 1) nT (fun v U=>aQ v (mem_of_mem_take U))) ⟨ot,trivial⟩ (eK _) ?_;rintro _ O ⟨E,I,rfl,jD⟩;refine OD.perm (Perm.of_eq (append_nil O)) ?_;refine aj 12 [3] ?_;refine ae [2] ?_;refine aJ O ?_;exact⟨E,I,rfl,jD⟩
theorem yy(hG:(1,[Value.int .i64 m])∈G)(r:List Vl)(h1:1≤r.length)(h2:r.length≤1000000)(aQ:∀v∈r,v.Ok):VP Tryz.prog G 66 [.list 3 (r.flatMap cV) r.length] (.list 1 ((cQ r).flatMap cB) (cQ r).length):=(Jl hG r h1 h2 aQ).cover fun r S hr=>hr.view
theorem YE:(Tryz.prog.info? 30).map (fun i=>(i.zero,i.size,i.bytes))=some (some (.agg #[.int .i64 0,.int .i64 0,.string ⟨#[]⟩]),3,32):=by kernel_rfl
theorem OK(a:List Vl)(ha:a.length≤1000000):VC Tryz.prog G 39 [.list 3 (a.flatMap cV) a.length] [] (fun r S=>∃ad cap,r = .v (.slice ad a.length cap)∧bq 30 3 (a.flatMap cV) a.length ad cap S):=by
 refine VC.body func39 rfl ntmps39 aO fun X0 w0 aZ=>?_;have dr:maxLen=9223372036854775807:=rfl;refine ae [0] ?_;refine aC 1 ?_;refine OD.yF an rfl rfl ot bH underlying27 (fun O xj=>?_);refine aj 8 [0,4] ?_;refine aq (fun az aG=>?_) (fun az aG=>?_)
 ·exact z59
 refine cj ?_;refine OD.yG an rfl rfl runUnderlying27 sizeOf30 (fun b5=>?_);refine aD 1 ?_;refine OD.oO (ls:=([]:List Vl)) (new:=a) (Sq:=[⟨b5,30,0*3,[]⟩]) e9 EE an rfl rfl underlying27 YE rfl w7 runUnderlying27 sizeOf30 ot (.inr ⟨b5,rfl,Nat.le_refl _,Nat.zero_le _,rfl⟩) (dA (A:=[])) ot gN gN (fun E I S7 pz=>?_);exact F6
theorem Z3(a:List Vl)(ha:a.length≤1000000):VP Tryz.prog G 39 [.list 3 (a.flatMap cV) a.length] (.list 3 (a.flatMap cV) a.length):=(OK a ha).cover fun r S ⟨ad,cap,h,ho⟩=>by subst h;exact kZ ho (cr e9 _) (fun B h=>h)
theorem X5:(Tryz.prog.info? 111).map (fun i=>(i.zero,i.size,i.bytes))=some (some (.agg #[.string ⟨#[]⟩,.int .i64 0]),2,24):=by kernel_rfl
theorem Z4(a:List cu)(ha:a.length≤1000000):VC Tryz.prog G 82 [.list 2 (a.flatMap cC) a.length] [] (fun r S=>∃ad cap,r = .v (.slice ad a.length cap)∧bq 111 2 (a.flatMap cC) a.length ad cap S):=by
 refine VC.body func82 rfl ntmps82 aO fun X0 w0 aZ=>?_;have dr:maxLen=9223372036854775807:=rfl;refine ae [0] ?_;refine aC 1 ?_;refine OD.yF an rfl rfl ot bH underlying38 (fun O xj=>?_);refine aj 8 [0,4] ?_;refine aq (fun az aG=>?_) (fun az aG=>?_)
 ·exact z59
 refine cj ?_;refine OD.yG an rfl rfl runUnderlying38 sizeOf111 (fun b5=>?_);refine aD 1 ?_;refine OD.oO (ls:=([]:List cu)) (new:=a) (Sq:=[⟨b5,111,0*2,[]⟩]) k8 aeg an rfl rfl underlying38 X5 rfl w7 runUnderlying38 sizeOf111 ot (.inr ⟨b5,rfl,Nat.le_refl _,Nat.zero_le _,rfl⟩) (dA (A:=[])) ot gN gN (fun E I S7 pz=>?_);exact F6
theorem OL(a:List cu)(ha:a.length≤1000000):VP Tryz.prog G 82 [.list 2 (a.flatMap cC) a.length] (.list 2 (a.flatMap cC) a.length):=(Z4 a ha).cover fun r S ⟨ad,cap,h,ho⟩=>by subst h;exact kZ ho (cr k8 _) (fun B h=>h)
theorem Z5(a:List Int)(ha:a.length≤1000000):VP Tryz.prog G 114 [.list 1 (a.flatMap Tw.cI) a.length] (.list 1 (a.flatMap Tw.cI) a.length):=(Tw.nE a ha).cover fun r S ⟨ad,cap,h,ho⟩=>by subst h;exact kZ ho (cr Tw.eu _) (fun B h=>h)

structure cf where
 r:List Vl
 ad:Option Addr
 cap:Nat
 S:List ag
def gR(o:cf):List D:=[.v (.slice o.ad o.r.length o.cap)]
theorem uE(o:cf):(gR o).length=1:=rfl
theorem SX(o:cf):(gR o).all V.one=true:=rfl
def bR(o:cf):List ag:=o.S
def nC(o:cf):Prop:=bq 30 3 (o.r.flatMap cV) o.r.length o.ad o.cap o.S
theorem Ey{S:List ag}:∀{L:List cf},(∀o∈L,nC o)→(∀B∈L.flatMap bR,B∈S)→gk S (L.flatMap gR) ((L.map cf.r).flatMap hU)
 | [],_,_=>trivial
 | o::L,h,hs=>by
  rw[map_cons,flatMap_cons,flatMap_cons];refine gk.append ⟨kZ (h o mem_cons_self) (cr e9 _) (fun B E=>hs B ?_),trivial⟩ (Ey (fun o ho=>h o (mem_cons_of_mem _ ho)) fun B E=>hs B ?_)
  ·rw[flatMap_cons];exact mem_append_left _ E
  rw[flatMap_cons];exact mem_append_right _ E
abbrev rY(L:List cf)(ad:Option Addr)(cap:Nat)(S:List ag):Prop:=bq 27 1 (L.flatMap gR) L.length ad cap S
structure aR where
 t:aU
 cs:List D
 ad:Option Addr
 cap:Nat
 sr:List ag
 sx:List ag
variable {o:aR}
def gT(o:aR):List D:=[.v (.string o.t.nm),.list 2 (o.t.av.flatMap cC) o.t.av.length,.v (.slice o.ad o.t.rows.length o.cap),.list 5 (o.t.ix.af.flatMap cP) o.t.ix.af.length,.v (.int .i64 o.t.ix.root)]
theorem uy(o:aR):(gT o).length=5:=rfl
theorem SY(o:aR):(gT o).all V.one=true:=rfl
def bT(o:aR):List ag:=o.sr++o.sx
structure okW (o:aR):Prop where
 own:bq 27 1 o.cs o.t.rows.length o.ad o.cap o.sr
 afZ:∀S:List ag,(∀B∈o.sx,B∈S)→gk S o.cs (o.t.rows.flatMap hU)
def qn(o:aR):Prop:=∃L:List cf,o.cs=L.flatMap gR∧o.sx=L.flatMap bR∧(∀x∈L,nC x)∧L.map cf.r=o.t.rows∧rY L o.ad o.cap o.sr
theorem qn.w(h:qn o):okW o:=by
 obtain⟨L,h1,h2,h3,h4,h5⟩:=h;refine⟨?_,fun S hS=>?_⟩
 ·rw[h1,←h4,length_map];exact h5
 rw[h1,←h4];exact Ey h3 (by rw[←h2];exact hS)
theorem OM(h:okW o)(hs:∀B∈bT o,B∈S):View S (.v (.slice o.ad o.t.rows.length o.cap)) (.list 1 (o.t.rows.flatMap hU) o.t.rows.length) :=
 Am h.own (h.afZ S fun B E=>hs B (mem_append_right _ E)) (cr kN _) (fun B E=>hs B (mem_append_left _ E))
theorem RE(h:okW o)(hs:∀B∈bT o,B∈S):View S (.agg (gT o)) (.agg (dJ o.t)):=um ⟨eL,eL,OM h hs,eL,eL,trivial⟩
theorem RF{S:List ag}:∀{L:List aR},(∀o∈L,okW o)→(∀B∈L.flatMap bT,B∈S)→gk S (L.flatMap gT) ((L.map aR.t).flatMap dJ)
 | [],_,_=>trivial
 | o::L,h,hs=>by
  rw[map_cons,flatMap_cons,flatMap_cons];refine gk.append ⟨eL,eL,OM (h o mem_cons_self) (fun B E=>hs B ?_),eL,eL,trivial⟩ (RF (fun o ho=>h o (mem_cons_of_mem _ ho)) fun B E=>hs B ?_)
  ·rw[flatMap_cons];exact mem_append_left _ E
  rw[flatMap_cons];exact mem_append_right _ E
abbrev zi(L:List aR)(ad:Option Addr)(cap:Nat)(S:List ag):Prop:=bq 48 5 (L.flatMap gT) L.length ad cap S
theorem ER{Sx:List ag}{L:List aR}{ad:Option Addr}{cap:Nat}(ho:zi L ad cap Sx)(h:∀o∈L,okW o)(hs:∀B∈Sx++L.flatMap bT,B∈S):View S (.v (.slice ad L.length cap)) (.list 5 ((L.map aR.t).flatMap dJ) L.length) :=
 Am ho (RF h fun B E=>hs B (mem_append_right _ E)) (by rw[cr jL,length_map]) (fun B E=>hs B (mem_append_left _ E))
def af0(t:aU)(r:D)(S:List ag):Prop:=∃o:aR,o.t=t∧r = .agg (gT o)∧qn o∧S=bT o
def JS(l:List aU)(r:D)(S:List ag):Prop:=∃(L:List aR) (ad:Option Addr) (cap:Nat) (Sx:List ag),r = .agg [.v (.slice ad L.length cap)]∧zi L ad cap Sx∧(∀o∈L,qn o)∧L.map aR.t=l∧S=Sx++L.flatMap bT
theorem JS.view{l:List aU}{r:D}(h:JS l r S):View S r (.agg [.list 5 (l.flatMap dJ) l.length]):=by
 obtain⟨L,ad,cap,Sx,rfl,ho,aQ,rfl,rfl⟩:=h;rw[length_map];exact um ⟨ER ho (fun o h=>(aQ o h).w) (fun B h=>h),trivial⟩
theorem RG(L:List cf)(o:cf):(L++[o]).flatMap bR=L.flatMap bR++bR o:=by simp
theorem RH(L:List aR)(o:aR):(L++[o]).flatMap bT=L.flatMap bT++bT o:=by simp
theorem YF:(Tryz.prog.info? 49).map (fun i=>(i.zero,i.size,i.bytes))=some (some (.slice none 0 0),1,24):=by kernel_rfl
theorem YG:(Tryz.prog.info? 93).map (fun i=>(i.zero,i.size,i.bytes))=some (some (.agg #[.bool false,.slice none 0 0,.slice none 0 0,.slice none 0 0,.int .i64 0]),5,88):=by kernel_rfl
theorem YH(t:aE)(h:Nat)(v:Valid t h):VC Tryz.prog G 83 [.agg (cT t)] [] (fun r S=>∃ad cap,r = .agg [.v (.slice ad t.af.length cap),.v (.int .i64 t.root)]∧bq 93 5 (t.af.flatMap cP) t.af.length ad cap S):=by
 refine VC.body func83 rfl ntmps83 aO fun X0 w0 aZ=>?_;unfold Tw.cT;have dr:maxLen=9223372036854775807:=rfl;have MD:=v.mT;refine cj ?_;refine OD.box (ds:=[_,_]) an rfl rfl ot rfl rfl (fun b1=>?_);refine OD.alloc (ds:=[_,_]) an rfl rfl zeroValue46 rfl (fun b2=>?_);refine aj 53 [1,2] ?_;refine aC 3 ?_;refine OD.alloc (ds:=[_,_]) an rfl rfl zeroValue46 rfl (fun b3=>?_);refine aN 0 [_,_] sizeOf46 ?_;refine aj 53 [1,2,3] ?_;refine cj ?_;refine aY [2,3,13,14,15] ?_;refine eH [2,3,13,14] (fun aW _ (E:Nat×List cR×Option Addr×Nat×List ag) aK=>match E with|(i,L,dQ,dD,Sx)=>(i≤t.af.length)∧(L=t.af.take i)∧(bq 93 5 ((L).flatMap cP) (L).length dQ dD Sx)∧aK=(⟨53,(15,.v (.int .i64 (i:Nat)))::aW,(⟨b3,46,2,[.v (.slice dQ (L).length dD),.v (.int .i64 t.root)]⟩::⟨b2,46,2,[.v (.slice none 0 0),.v (.int .i64 0)]⟩::Sx)⟩:St)) (fun (E:Nat×List cR×Option Addr×Nat×List ag)=>match E with|(i,L,dQ,dD,Sx)=>t.af.length-i) (0,([]:List cR),none,0,[]) ⟨(Nat.zero_le _),rfl,(bq.cast iC lB),rfl⟩ ?_;rintro⟨i,L,dQ,dD,Sx⟩ _ ⟨hi,hL,ec,rfl⟩;refine ae [2,3,13,14,15,16] ?_;refine aq (fun az aG=>?_) (fun az aG=>?_)
 ·have aa:i<t.af.length:=(by omega)
  have rh:L.length=i:=(by rw[hL,length_take];omega)
  have po:=v.page _ (getElem_mem aa);have mw:=po.eI;have WR:=po.hlen;have E8:(t.af[i]'aa).kids.length≤6:=by
      exact VS
  refine aC 2 ?_;refine OD.alloc (ds:=[_,_,_,_,_]) an rfl rfl zeroValue93 rfl (fun b5=>?_);refine aN 0 [_,_,_,_,_] sizeOf93 ?_;refine aj 53 [2,3,5,13,14,15] ?_;refine CD.seq ?_;refine tO 12 11 [2,3,5,6,13,14,15,29] ?_;refine cU (Z5 (t.af[i]'aa).kids w4) ?_;refine cU (jK (t.af[i]'aa).high w4) ?_;refine mX 3 ?_;refine qW ?_;refine jQ ?_;refine⟨rfl,fun b6=>?_⟩;refine aN 0 [_,_,_,_,_] sizeOf93 ?_;refine aj 53 [2,3,5,6,13,14,15] ?_;refine cj ?_;refine aY [2,3,6,13,14,15,31,32,33] ?_
  refine eH [2,3,6,13,14,15,31,32] (fun aW _ (E:Nat×List K×Option Addr×Nat×List ag×Option Addr×Nat×List ag) aK=>match E with|(j,M,ie,ig,Sy,dQ,dD,Sx)=>(j≤(t.af[i]'aa).keys.length)∧(M=(t.af[i]'aa).keys.take j)∧(bq 49 1 ((M).flatMap Tw.cK) (M).length ie ig Sy)∧(bq 93 5 ((L).flatMap cP) (L).length dQ dD Sx)∧aK=(⟨53,(33,.v (.int .i64 (j:Nat)))::aW,(⟨b6,93,5,[.v (.bool (t.af[i]'aa).leaf),.v (.slice ie (M).length ig),.list 1 ((t.af[i]'aa).kids.flatMap Tw.cI) (t.af[i]'aa).kids.length,.list 1 ((t.af[i]'aa).high.flatMap cB) (t.af[i]'aa).high.length,.v (.int .i64 (t.af[i]'aa).next)]⟩::⟨b3,46,2,[.v (.slice dQ L.length dD),.v (.int .i64 t.root)]⟩::⟨b2,46,2,[.v (.slice none 0 0),.v (.int .i64 0)]⟩::(Sy++Sx))⟩:St)) (fun (E:Nat×List K×Option Addr×Nat×List ag×Option Addr×Nat×List ag)=>match E with|(j,M,ie,ig,Sy,dQ,dD,Sx)=>(t.af[i]'aa).keys.length-j) (0,([]:List K),none,0,[],dQ,dD,Sx) ⟨(Nat.zero_le _),rfl,(bq.cast iC lB),(bq.cast ec lB),rfl⟩ ?_;rintro⟨j,M,ie,ig,Sy,dQ,dD,Sx⟩ _ ⟨hj,hM,Dg,ec,rfl⟩;refine ae [2,3,6,13,14,15,31,32,33,34] ?_;refine aq (fun aH aT=>?_) (fun aH aT=>?_)
  ·have lH:j<(t.af[i]'aa).keys.length:=(by omega)
   have KF:=(po.kR _ (getElem_mem lH)).2;have wQ:M.length=j:=(by rw[hM,length_take];omega)
   refine ae [2,3,6,8,13,14,15,31,32,33] ?_;refine fF 6 (ap (take 3 _)) ?_ (fun _ h=>(Sublist.map _ (take_sublist _ _)).subset h);refine ax 0 rfl (cY 1) ?_;refine ax 1 rfl (dw 0) ?_;refine ax 2 rfl bg ?_;refine dh.later rfl ?_;refine AD.one (i:=3) ay ?_;refine ju call59 (jK (t.af[i]'aa).keys[j] w4) ?_;refine AD.one (i:=4) ay ?_;refine jf (cc 0 [_]) [.slice none 0 0] [_] zeroValue49 runUnderlying90 sizeOf49 (fun vk=>?_);refine jg 0 41 1 1 ?_;refine AD.one (i:=5) ay ?_;refine bf.ee (ls:=(M)) (new:=[(t.af[i]'aa).keys[j]]) (Sq:=Sy) Tw.fX Tw.oV rfl an rfl rfl underlying90 YF rfl w7 ot Dg (oe (A:=[_,_,_])) ot bu vc gN (fun U I aiA aiB=>?_);refine AD.perm (iW (S1:=[⟨U,49,I*1,flatMap Tw.cK ((M)++[(t.af[i]'aa).keys[j]])⟩]) (A:=[_,_,_])) ?_;refine ey ?_;refine aD 1 ?_;refine aN 0 [_,_,_,_,_] sizeOf90 ?_;refine aj 53 [2,3,6,13,14,15,31,32,33] ?_;refine sF ?_;refine aY [2,3,6,13,14,15,31,32,33] ?_;refine⟨((j+1),(M++[(t.af[i]'aa).keys[j]]),(some ⟨U,0,none⟩),I,[⟨U,49,I*1,flatMap Tw.cK ((M)++[(t.af[i]'aa).keys[j]])⟩],dQ,dD,Sx),_,cz,aM,w4,(by rw[hM];exact pK lH),(bq.cast (bI aiA aiB) lB),(bq.cast ec lB),rfl⟩
  refine CD.exit ?_;have hMk:M=(t.af[i]'aa).keys:=(by rw[hM,take_of_length_le w4])
  subst hMk;refine CD.HL (i:=1) (j:=0) (Sq:=Sy) (S':=⟨b6,93,5,[.v (.bool (t.af[i]'aa).leaf),.list 1 ((t.af[i]'aa).keys.flatMap Tw.cK) (t.af[i]'aa).keys.length,.list 1 ((t.af[i]'aa).kids.flatMap Tw.cI) (t.af[i]'aa).kids.length,.list 1 ((t.af[i]'aa).high.flatMap cB) (t.af[i]'aa).high.length,.v (.int .i64 (t.af[i]'aa).next)]⟩::⟨b3,46,2,[.v (.slice dQ L.length dD),.v (.int .i64 t.root)]⟩::⟨b2,46,2,[.v (.slice none 0 0),.v (.int .i64 0)]⟩::Sx) Dg (cr Tw.fX _) (oe (A:=[_,_,_])) rfl rfl rfl rfl ?_;refine dK 3 ?_;refine ei (cc 0 [_]) [.bool false,.slice none 0 0,.slice none 0 0,.slice none 0 0,.int .i64 0] [_,_,_,_,_] zeroValue93 runUnderlying44 sizeOf93 (fun MS=>?_);refine fH 0 48 5 1 ?_;refine OD.ee (ls:=(L)) (new:=[(t.af[i]'aa)]) (Sq:=Sx) EO aet an rfl rfl underlying44 YG rfl w7 ot ec (dA (A:=[_,_,_])) ot bu nv nw (fun Z O aiC aiD=>?_);refine OD.perm (dV (S1:=[⟨Z,93,O*5,flatMap cP ((L)++[(t.af[i]'aa)])⟩]) (A:=[_,_,_])) ?_;refine aD 1 ?_;refine aN 1 [_,_] sizeOf44 ?_;refine aj 53 [2,3,13,14,15] ?_;refine cg [2,3,13,14,15] ?_;refine⟨((i+1),(L++[(t.af[i]'aa)]),(some ⟨Z,0,none⟩),O,[⟨Z,93,O*5,flatMap cP ((L)++[(t.af[i]'aa)])⟩]),_,cz,aM,w4,(by rw[hL];exact pK aa),(bq.cast (bI aiC aiD) lB),rfl⟩
 refine aC 1 ?_;refine aN 1 [_,_] sizeOf46 ?_;refine aj 53 [2] ?_;refine aJ Sx ?_;have hLe:L=t.af:=(by rw[hL,take_of_length_le w4])
 subst hLe;exact⟨dQ,dD,rfl,ec⟩
theorem YI(t:aE)(h:Nat)(v:Valid t h):VP Tryz.prog G 83 [.agg (cT t)] (.agg (cT t)):=(YH t h v).cover fun r S ⟨ad,cap,h,ho⟩=>by subst h;exact um ⟨kZ ho (cr EO _) (fun B h=>h),eL,trivial⟩
structure AW (t:aU):Prop where
 av:t.av.length≤1000
 rows:t.rows.length≤1000
 row:∀r∈t.rows,r.length≤1000
 ix:∃h,Valid t.ix h
theorem YJ:(Tryz.prog.info? 27).map (fun i=>(i.zero,i.size,i.bytes))=some (some (.slice none 0 0),1,24):=by kernel_rfl
theorem EP(t:aU)(hs:AW t):VC Tryz.prog G 46 [.agg (dJ t)] [] (af0 t):=by
 refine VC.body func46 rfl ntmps46 aO fun X0 w0 aZ=>?_;unfold dJ;have dr:maxLen=9223372036854775807:=rfl;have hc:=hs.av;have hn:=hs.rows;obtain⟨h,v⟩:=hs.ix;have U:=YI (G:=G) t.ix h v;unfold Tw.cT at U;refine cj ?_;refine OD.box (ds:=[_,_,_,_,_]) an rfl rfl ot rfl rfl (fun b1=>?_);refine OD.alloc (ds:=[_,_,_,_,_]) an rfl rfl zeroValue48 rfl (fun b2=>?_);refine aj 31 [1,2] ?_;refine CD.seq ?_;refine tO 10 9 [1,2,3,14] ?_;refine cU (OL t.av w4) ?_;refine cU (U) ?_;refine mX 1 ?_;refine qW ?_;refine jQ ?_;refine⟨rfl,fun b3=>?_⟩;refine aN 0 [_,_,_,_,_] sizeOf48 ?_;refine aj 31 [1,2,3] ?_;refine ae [2,3,16,17,18] ?_;refine eH [2,3,16,17] (fun aW _ (I:Nat×List cf×Option Addr×Nat×List ag) aK=>match I with|(i,L,dQ,dD,Sx)=>(i≤t.rows.length)∧(L.map cf.r=t.rows.take i)∧(∀o∈L,nC o)∧(rY L dQ dD Sx)∧aK=(⟨31,(18,.v (.int .i64 (i:Nat)))::aW,(⟨b3,48,5,[.v (.string t.nm),.list 2 (t.av.flatMap cC) t.av.length,.v (.slice dQ L.length dD),.list 5 (t.ix.af.flatMap cP) t.ix.af.length,.v (.int .i64 t.ix.root)]⟩::⟨b2,48,5,[.v (.string ⟨#[]⟩),.v (.slice none 0 0),.v (.slice none 0 0),.v (.slice none 0 0),.v (.int .i64 0)]⟩::(Sx++L.flatMap bR))⟩:St)) (fun (I:Nat×List cf×Option Addr×Nat×List ag)=>match I with|(i,L,dQ,dD,Sx)=>t.rows.length-i) (0,([]:List cf),none,0,[]) ⟨(Nat.zero_le _),rfl,(fun o h=>by cases h),iC,rfl⟩ ?_;rintro⟨i,L,dQ,dD,Sx⟩ _ ⟨hi,hL,aQ,ec,rfl⟩
 refine ae [2,3,16,17,18,19] ?_;refine aq (fun az aG=>?_) (fun az aG=>?_)
 ·have aa:i<t.rows.length:=(by omega)
  have rh:L.length=i:=(by have:=congrArg length hL;rw[length_map,length_take] at this;omega)
  have rf:=hs.row _ (getElem_mem aa);refine ae [2,3,5,16,17,18] ?_;refine fF 6 (ap (take 2 _)) ?_ (fun _ h=>(Sublist.map _ (take_sublist _ _)).subset h);refine ax 0 rfl (cY 2) ?_;refine ax 1 rfl (dw 0) ?_;refine ax 2 rfl bg ?_;refine dh.later rfl ?_;refine AD.one (i:=3) ay ?_;refine bf.call rfl an rfl rfl rfl call39 (OK (t.rows[i]'aa) w4) ⟨ot,trivial⟩ (eK _) (fun b hb=>by simp[ap,St.put] at hb ⊢;first|(simp[hb];done)|(rcases hb with hb|hb<;>simp[hb])|(rcases hb with hb|hb|hb<;>simp[hb])) ?_;rintro _ Sz ⟨lD,lE,rfl,xH⟩;refine AD.perm (iW (A:=[_,_])) ?_;have vh:(L++[(⟨(t.rows[i]'aa),lD,lE,Sz⟩:cf)]).map cf.r=t.rows.take (i+1):=(by rw[map_append,hL];exact pK aa)
  have jD:∀o∈L++[(⟨(t.rows[i]'aa),lD,lE,Sz⟩:cf)],nC o:=fun o ho=>by rcases mem_append.1 ho with ho|ho;exact aQ o ho;rw[mem_singleton] at ho;subst ho;exact xH
  refine AD.one (i:=4) ay ?_;refine jf (cc 0 [_]) [.slice none 0 0] [_] zeroValue27 runUnderlying33 sizeOf27 (fun b26=>?_);refine jg 0 26 1 1 ?_;refine AD.one (i:=5) ay ?_;refine bf.ee (ls:=L) (new:=[(⟨(t.rows[i]'aa),lD,lE,Sz⟩:cf)]) (Sq:=Sx) uE SX rfl an rfl rfl underlying33 YJ rfl w7 ot ec (sN (A:=[_,_])) ot bu nv nw (fun O E Z aiE=>?_);refine AD.perm (vH (S2:=[⟨O,27,E*1,flatMap gR (L++[(⟨(t.rows[i]'aa),lD,lE,Sz⟩:cf)])⟩]) (A:=[_,_])) ?_;refine AD.perm (S':=⟨b3,48,5,[.v (.string t.nm),.list 2 (t.av.flatMap cC) t.av.length,.v (.slice dQ L.length dD),.list 5 (t.ix.af.flatMap cP) t.ix.af.length,.v (.int .i64 t.ix.root)]⟩::⟨b2,48,5,[.v (.string ⟨#[]⟩),.v (.slice none 0 0),.v (.slice none 0 0),.v (.slice none 0 0),.v (.int .i64 0)]⟩::([⟨O,27,E*1,flatMap gR (L++[(⟨(t.rows[i]'aa),lD,lE,Sz⟩:cf)])⟩]++(L++[(⟨(t.rows[i]'aa),lD,lE,Sz⟩:cf)]).flatMap bR)) (iu fun iS=>by rw[RG];simp only[bR,map_append,map_cons,map_nil,sum_append,sum_cons,sum_nil];omega) ?_;refine ey ?_;refine aD 1 ?_;refine aN 0 [_,_,_,_,_] sizeOf33 ?_;refine aj 31 [2,3,16,17,18] ?_;refine cg [2,3,16,17,18] ?_;refine⟨((i+1),(L++[(⟨(t.rows[i]'aa),lD,lE,Sz⟩:cf)]),(some ⟨O,0,none⟩),E,[⟨O,27,E*1,flatMap gR (L++[(⟨(t.rows[i]'aa),lD,lE,Sz⟩:cf)])⟩]),_,cz,aM,w4,vh,jD,(bI Z aiE),rfl⟩
 refine aC 1 ?_;refine aN 1 [_,_,_,_,_] sizeOf48 ?_;refine aj 31 [2] ?_;refine aJ (Sx++L.flatMap bR) ?_;have ug:L.map cf.r=t.rows:=(by rw[hL,take_of_length_le w4])
 have hLn:t.rows.length=L.length:=(by rw[←ug,length_map])
 exact⟨⟨t,L.flatMap gR,dQ,dD,Sx,L.flatMap bR⟩,rfl,(by unfold gT;rw[hLn]),⟨L,rfl,rfl,aQ,ug,ec⟩,rfl⟩
theorem YK:(Tryz.prog.info? 48).map (fun i=>(i.zero,i.size,i.bytes))=some (some (.agg #[.string ⟨#[]⟩,.slice none 0 0,.slice none 0 0,.slice none 0 0,.int .i64 0]),5,96):=by kernel_rfl
theorem ON(l:List aU)(hl:l.length≤1000)(H:∀t∈l,AW t):VC Tryz.prog G 28 [.agg [.list 5 (l.flatMap dJ) l.length]] [] (JS l):=by
 refine VC.body func28 rfl ntmps28 aO fun X0 w0 aZ=>?_;have dr:maxLen=9223372036854775807:=rfl;refine cj ?_;refine OD.box (ds:=[_]) an rfl rfl ot rfl rfl (fun b1=>?_);refine OD.alloc (ds:=[_]) an rfl rfl zeroValue25 rfl (fun b2=>?_);refine aj 22 [1,2] ?_;refine cj ?_;refine OD.alloc (ds:=[_]) an rfl rfl zeroValue25 rfl (fun b3=>?_);refine aj 22 [1,2,3] ?_;refine ae [2,3,7,8,9] ?_;refine eH [2,3,7,8] (fun aW _ (I:Nat×List aR×Option Addr×Nat×List ag) aK=>match I with|(i,L,dQ,dD,Sx)=>(i≤l.length)∧(L.map aR.t=l.take i)∧(∀o∈L,qn o)∧(zi L dQ dD Sx)∧aK=(⟨22,(9,.v (.int .i64 (i:Nat)))::aW,(⟨b3,25,1,[.v (.slice dQ L.length dD)]⟩::⟨b2,25,1,[.v (.slice none 0 0)]⟩::(Sx++L.flatMap bT))⟩:St)) (fun (I:Nat×List aR×Option Addr×Nat×List ag)=>match I with|(i,L,dQ,dD,Sx)=>l.length-i) (0,([]:List aR),none,0,[]) ⟨(Nat.zero_le _),rfl,(fun o h=>by cases h),iC,rfl⟩ ?_;rintro⟨i,L,dQ,dD,Sx⟩ _ ⟨hi,hL,aQ,ec,rfl⟩;refine ae [2,3,7,8,9,10] ?_;refine aq (fun az aG=>?_) (fun az aG=>?_)
 ·have aa:i<l.length:=(by omega)
  have rh:L.length=i:=(by have:=congrArg length hL;rw[length_map,length_take] at this;omega)
  refine aC 2 ?_;refine OD.alloc (ds:=[_,_,_,_,_]) an rfl rfl zeroValue48 rfl (fun b5=>?_);refine aN 0 [_,_,_,_,_] sizeOf48 ?_;refine aj 22 [2,3,5,7,8,9] ?_;refine fF 6 (ap (take 3 _)) ?_ (fun _ h=>(Sublist.map _ (take_sublist _ _)).subset h);refine ax 0 rfl (cY 0) ?_;refine ax 1 rfl (dw 1) ?_;refine ax 2 rfl (cH (mk:=Op.load 48) rfl ot (by first|exact pP (k:=0) (ds:=[_,_,_,_,_]) rfl rfl isAgg48 sizeOf48 rfl rfl|exact jM jL isAgg48 sizeOf48 w5|exact jM uy isAgg48 sizeOf48 w5|exact dI (k:=0) jL rfl rfl rfl isAgg48 sizeOf48 w5|exact dI (k:=1) jL rfl rfl rfl isAgg48 sizeOf48 w5|exact dI (k:=2) jL rfl rfl rfl isAgg48 sizeOf48 w5|exact dI (k:=0) uy rfl rfl rfl isAgg48 sizeOf48 w5|exact dI (k:=1) uy rfl rfl rfl isAgg48 sizeOf48 w5|exact dI (k:=2) uy rfl rfl rfl isAgg48 sizeOf48 w5|exact pU (ds:=[_,_,_,_,_]) isAgg48 sizeOf48 rfl rfl)) ?_;refine dh.later rfl ?_;refine AD.one (i:=3) ay ?_;refine bf.call rfl an rfl rfl rfl call46 (EP (l[i]'aa) (H _ (getElem_mem aa))) ⟨ot,trivial⟩ (eK _) (fun b hb=>by simp[ap,St.put] at hb ⊢;first|(simp[hb];done)|(rcases hb with hb|hb<;>simp[hb])|(rcases hb with hb|hb|hb<;>simp[hb])) ?_;rintro _ _ ⟨o,GB,rfl,CF,rfl⟩;refine AD.perm (iW (A:=[_,_,_])) ?_;have vh:(L++[o]).map aR.t=l.take (i+1):=(by rw[map_append,hL,map_cons,map_nil,GB];exact pK aa)
  have jD:∀x∈L++[o],qn x:=fun x hx=>by rcases mem_append.1 hx with hx|hx;exact aQ x hx;rw[mem_singleton] at hx;subst hx;exact CF
  refine AD.one (i:=4) ay ?_;refine jf (cc 0 [_]) [.string ⟨#[]⟩,.slice none 0 0,.slice none 0 0,.slice none 0 0,.int .i64 0] [_,_,_,_,_] zeroValue48 runUnderlying23 sizeOf48 (fun b17=>?_);refine jg 0 17 5 1 ?_;refine AD.one (i:=5) ay ?_;refine bf.ee (ls:=L) (new:=[o]) (Sq:=Sx) uy SY rfl an rfl rfl underlying23 YK rfl w7 ot ec (sN (A:=[_,_,_])) ot bu nv nw (fun O E U Z=>?_);refine AD.perm (vH (S2:=[⟨O,48,E*5,flatMap gT (L++[o])⟩]) (A:=[_,_,_])) ?_;have Wo:(bT o++(([⟨O,48,E*5,flatMap gT (L++[o])⟩]:List ag)++L.flatMap bT)).Perm (([⟨O,48,E*5,flatMap gT (L++[o])⟩]:List ag)++(L++[o]).flatMap bT):=(iu fun iS=>by rw[RH];simp only[map_append,map_cons,map_nil,sum_append,sum_cons,sum_nil];omega)
  refine AD.perm (Perm.cons _ (Perm.cons _ (Perm.cons _ Wo))) ?_;refine ey ?_;refine aD 1 ?_;refine aN 1 [_] sizeOf23 ?_;refine aj 22 [2,3,7,8,9] ?_;refine cg [2,3,7,8,9] ?_;refine⟨((i+1),(L++[o]),(some ⟨O,0,none⟩),E,[⟨O,48,E*5,flatMap gT (L++[o])⟩]),_,cz,aM,w4,vh,jD,(bI U Z),rfl⟩
 refine aC 1 ?_;refine aN 1 [_] sizeOf25 ?_;refine aj 22 [2] ?_;refine aJ (Sx++L.flatMap bT) ?_;have ug:L.map aR.t=l:=(by rw[hL,take_of_length_le w4])
 exact⟨L,dQ,dD,Sx,rfl,ec,aQ,ug,rfl⟩
theorem Z6(l:List aU)(hl:l.length≤1000)(H:∀t∈l,AW t):VP Tryz.prog G 28 [.agg [.list 5 (l.flatMap dJ) l.length]] (.agg [.list 5 (l.flatMap dJ) l.length]):=(ON l hl H).cover fun r S hr=>hr.view

structure eW (t:aU) (n:Nat):Prop where
 nm:cJ t.nm=0
 av:t.av=dG
 eI:t.rows.length≤40
 ix:iy t.ix n
 row:∀i (h:i<t.rows.length),t.rows[i]≠[]→Pc.dU dG t.rows[i]=0∧(∀v∈t.rows[i],v.Ok)∧(cQ t.rows[i],(i:Int))∈gD t.ix
 jn:∀x∈gD t.ix,0≤x.2∧∃h:x.2.toNat<t.rows.length,t.rows[x.2.toNat]≠[]∧x.1=cQ t.rows[x.2.toNat]
theorem oX{r:List Vl}(h:Pc.dU dG r=0):r.length=4:=by
 unfold Pc.dU at h;rw[if_neg Bm] at h;split at h
 ·cases h
 rename_i h2;exact Decidable.not_not.1 h2
theorem eW.len(g:eW t n){r:List Vl}(hr:r∈t.rows):r=[]∨(r.length=4∧∀v∈r,v.Ok):=by
 obtain⟨i,hi,rfl⟩:=mem_iff_getElem.1 hr;rcases Classical.em (t.rows[i]=[]) with h|h
 ·exact .inl h
 exact .inr ⟨oX (g.row i hi h).1,(g.row i hi h).2.1⟩
theorem eW.small(g:eW t n):AW t :=
 ⟨by rw[g.av];decide,Nat.le_trans g.eI w7,fun r hr=>by rcases g.len hr with h|h;rw[h];exact Nat.zero_le _;omega,_,g.ix.val⟩
def rowAt(t:aU)(i:Int):List Vl:=t.rows.getD i.toNat []
theorem jo{i:Int}(h:i.toNat<t.rows.length):rowAt t i=t.rows[i.toNat]:=by unfold rowAt;rw[getD_eq_getElem?_getD,getElem?_eq_getElem h];rfl
def my(t:aU)(w:List aV):List Int→List (K×Int)→List Int×Int
 | acc,[]=>(acc,0)
 | acc,x::r=>if 0<w.length then (if (fh t.av (rowAt t x.2) w).2≠0 then ([],(fh t.av (rowAt t x.2) w).2) else if (fh t.av (rowAt t x.2) w).1.n≠1 then my t w acc r else my t w (acc++[x.2]) r) else my t w (acc++[x.2]) r
noncomputable def au(t:aU)(w:List aV):List Int×Int:=if (iD t.av w).2≠0 then ([],(iD t.av w).2) else my t w [] (oW t.ix (iD t.av w).1.1 (iD t.av w).1.2)
def BV(p:List Int×Int)(r:D)(S:List ag):Prop:=∃ad cap,r = .dy [.v (.slice ad p.1.length cap),.v (.int .i64 p.2)]∧bq 3 1 (p.1.flatMap Tw.cI) p.1.length ad cap S
theorem BV.view{r:D}(h:BV p r S):View S r (.dy [.list 1 (p.1.flatMap Tw.cI) p.1.length,.v (.int .i64 p.2)]):=by
 obtain⟨ad,cap,rfl,ho⟩:=h;exact D3 ⟨kZ ho (cr Tw.eu _) (fun B h=>h),eL,trivial⟩
theorem BV.flat{r:D}(h:BV p r S):ku r=true∧∀B∈S,∀d∈B.cs,ku d=true:=by
 obtain⟨ad,cap,rfl,ho⟩:=h;refine⟨rfl,fun B E d hd=>?_⟩;rcases ho with ⟨_,_,_,_,rfl⟩|⟨b,_,_,_,rfl⟩
 ·cases E
 rw[mem_singleton] at E;subst E;obtain⟨n,_,hn⟩:=mem_flatMap.1 hd;rw[Tw.cI,mem_singleton] at hn;subst hn;rfl
theorem Ee{t:aE}{f u:K}:∀x∈oW t f u,x∈gD t:=fun x hx=>by
 unfold oW wg at hx;have h1:=(takeWhile_sublist _).subset hx;unfold mQ at h1;exact(mem_filter.1 h1).1
theorem abC{t:aE}(g:iy t n)(f u:K):(oW t f u).length≤16000:=by
 unfold oW wg;exact Nat.le_trans (takeWhile_sublist _).length_le (Qe g.val f)
theorem RI(l:List Vl):(fL l).1.length≤100:=by
 unfold fL;repeat' split
 all_goals first|exact Nat.zero_le _|(simp only;omega)
def Sm(b:kL):Prop:=b.1.length≤100∧b.2.length≤100
theorem RJ{key:ByteArray}{ops:List aV}{no:Bool}{b:kL}(h:Sm b):Sm (mN key ops no b):=by
 have hk:(za ops).length≤100:=RI _;have hl:∀b,Sm b→Sm (nQ (za ops) b):=fun b h=>by unfold nQ;split;exact⟨hk,h.2⟩;exact h
 have E:∀b,Sm b→Sm (rI (za ops) b):=fun b h=>by unfold rI;split;exact⟨h.1,hk⟩;exact h
 unfold mN;split
 ·exact h
 split
 ·exact h
 unfold uS;cases(nc ops (ops.length-1)==6||(dM (lO key) (ops.take 2)==0)!=no)<;>cases(nc ops (ops.length-1)==6||(dM (lO key) (ops.take 2)==0)==no)<;>first|exact h|exact hl _ h|exact E _ h|exact E _ (hl _ h)
theorem Jm{key:ByteArray}:∀(f:Nat) (ops:List aV) (b:kL),Sm b→Sm (fS key f ops b)
 | 0,_,_,h=>h
 | f+1,ops,b,h=>by
  unfold fS;split
  ·exact Jm f _ _ (Jm f _ _ h)
  split
  ·exact RJ h
  exact RJ h
theorem aeH(l:List cu)(ops:List aV):Sm (iD l ops).1:=by
 have h0:Sm (([],[]):kL):=⟨Nat.zero_le _,Nat.zero_le _⟩
 unfold iD;repeat' split
 all_goals first|exact h0|exact Jm _ _ _ h0
theorem OO:(Tryz.prog.info? 3).map (fun i=>(i.zero,i.size,i.bytes))=some (some (.int .i64 0),1,8):=by kernel_rfl
theorem Jn(hm:(3,marksC)∈G)(hw:(2,wordsC)∈G)(ht:(0,typesC)∈G)(hG:(1,[Value.int .i64 m])∈G)(t:aU)(g:eW t n)(w:List aV)(ho:∀o∈w,o.nm.size≤maxLen)(fI:∀o∈w,o.v.Ok):VC Tryz.prog G 87 [.agg (dJ t),.list 5 (w.flatMap cO) w.length] [] (BV (au t w)):=by
 refine VC.body func87 rfl ntmps87 aO fun X0 w0 aZ=>?_;have GC:=aeH t.av w;have pu:=Zw (G:=G) hm hw ht hG t.av wS wR w ho fI;unfold MA at pu;have dr:maxLen=9223372036854775807:=rfl;have zZ:=SV (G:=G) g.ix (iD t.av w).1.1 (iD t.av w).1.2 GC.1 GC.2;unfold Tw.cT at zZ;have mw:=abC g.ix (iD t.av w).1.1 (iD t.av w).1.2;generalize hL:(oW t.ix (iD t.av w).1.1 (iD t.av w).1.2)=L at *;unfold dJ;have Kl:∀x∈L,x∈gD t.ix:=fun x hx=>Ee x (hL ▸ hx);refine cj ?_;refine OD.box (ds:=[_,_,_,_,_]) an rfl rfl ot rfl rfl (fun b2=>?_);refine aj 70 [1,2] ?_;refine cM [1,2,6,7,8] (pu) ?_;refine ae [1,2,6,7,8,25] ?_;refine aq (fun az aG=>?_) (fun az aG=>?_)
 ·have hne:(iD t.av w).2≠0:=(by simpa using az)
  have aS:au t w=([],(iD t.av w).2):=if_pos hne;refine ae [4,5] ?_;refine aJ [] ?_;rw[aS];exact⟨none,0,rfl,iC⟩
 have hz:(iD t.av w).2=0:=(by simpa using az)
 have af1:au t w=my t w [] (L.drop 0):=(by unfold au;rw[if_neg (by simp[hz]),hL,drop_zero])
 refine cM [1,2,9] (zZ) ?_;refine cj ?_;refine aY [1,2,9,11] ?_;refine ae [1,2,11,35,36,37] ?_;refine eH [1,2,35,36] (fun aW _ (O:Nat×List Int×Option Addr×Nat×List ag) aK=>match O with|(k,acc,dQ,dD,Sx)=>(k≤L.length)∧((acc).length≤k)∧(au t w=my t w acc (L.drop k))∧(bq 3 1 ((acc).flatMap Tw.cI) (acc).length dQ dD Sx)∧aK=(⟨70,(11,.v (.slice dQ (acc).length dD))::(37,.v (.int .i64 (k:Nat)))::aW,(⟨b2,48,5,[.v (.string t.nm),.list 2 (t.av.flatMap cC) t.av.length,.list 1 (t.rows.flatMap hU) t.rows.length,.list 5 (t.ix.af.flatMap cP) t.ix.af.length,.v (.int .i64 t.ix.root)]⟩::Sx)⟩:St)) (fun (O:Nat×List Int×Option Addr×Nat×List ag)=>match O with|(k,acc,dQ,dD,Sx)=>L.length-k) (0,([]:List Int),none,0,[]) ⟨(Nat.zero_le _),(Nat.zero_le _),af1,(bq.cast iC lB),rfl⟩ ?_;rintro⟨k,acc,dQ,dD,Sx⟩ _ ⟨hk,wL,aS,ec,rfl⟩;refine ae [1,2,11,35,36,37,38] ?_;refine aq (fun aH aT=>?_) (fun aH aT=>?_)
 ·have aa:k<L.length:=(by omega)
  obtain⟨gJ,U,oN,VY⟩:=g.jn _ (Kl _ (getElem_mem aa));have E:=jo (t:=t) U;have jh:L.drop k=(L[k]'aa)::L.drop (k+1):=drop_eq_getElem_cons aa;have MT:=(g.row _ U oN).2.1;have hr4:=oX (g.row _ U oN).1;refine aC 2 ?_;refine OD.alloc (ds:=[_,_]) an rfl rfl zeroValue97 rfl (fun mI=>?_);refine aN 0 [_,_] sizeOf97 ?_;refine aj 70 [1,2,11,13,35,36,37] ?_;refine ae [1,2,11,13,35,36,37,43] ?_;refine aq (fun aX bw=>?_) (fun aX bw=>?_)
  ·have Z:0<w.length:=(by omega)
   have xF:=Rm (G:=G) hm hw ht t.av wS wR (t.rows[(L[k]'aa).2.toNat]) w4 MT w ho fI;rw[←E] at xF;unfold mH at xF;rw[E] at xF;refine CD.seq ?_;refine tO 14 13 [1,2,11,13,14,35,36,37,55,56] ?_;refine aP 6 ?_ (h:=by exact(dx 1 (h:=by first|exact .l (j:=(L[k]'aa).2.toNat) (Int.toNat_of_nonneg gJ).symm U|exact .r (j:=(L[k]'aa).2.toNat) (Int.toNat_of_nonneg gJ).symm U)));refine cU (xF) ?_;refine mX 3 ?_;refine qW ?_;refine jQ ?_;refine⟨rfl,fun zN=>?_⟩;refine aN 0 [_,_,_] sizeOf30 ?_;refine aj 70 [1,2,11,13,14,15,35,36,37] ?_;refine ae [1,2,11,13,14,15,35,36,37,58] ?_;refine aq (fun bC bW=>?_) (fun bC bW=>?_)
   ·have hne:(fh t.av (rowAt t (L[k]'aa).2) w).2≠0:=(by rw[E];simpa using bC)
    have I:au t w=([],(fh t.av (rowAt t (L[k]'aa).2) w).2):=(by rw[aS,jh,my,if_pos Z,if_pos hne])
    rw[E] at I;refine ae [4,5] ?_;refine aJ [] ?_;rw[I];exact⟨none,0,rfl,iC⟩
   have hne:¬(fh t.av (rowAt t (L[k]'aa).2) w).2≠0:=(by rw[E];simpa using bC)
   refine ae [1,2,11,13,35,36,37,62] ?_;refine aq (fun cx c9=>?_) (fun cx c9=>?_)
   ·have gb:(fh t.av (rowAt t (L[k]'aa).2) w).1.n≠1:=(by rw[E];simpa using cx)
    have ny:au t w=my t w acc (L.drop (k+1)):=(by rw[aS,jh,my,if_pos Z,if_neg hne,if_pos gb])
    refine cg [1,2,11,35,36,37] ?_;refine⟨((k+1),acc,dQ,dD,Sx),_,cz,aM,w4,w4,ny,(bq.cast ec lB),rfl⟩
   have gb:¬(fh t.av (rowAt t (L[k]'aa).2) w).1.n≠1:=(by rw[E];simpa using cx)
   have ny:au t w=my t w (acc++[(L[k]'aa).2]) (L.drop (k+1)):=(by rw[aS,jh,my,if_pos Z,if_neg hne,if_neg gb])
   refine dK 3 ?_;refine ei (cc 0 [_]) [.int .i64 0] [_] zeroValue3 runUnderlying91 sizeOf3 (fun oK=>?_);refine fH 0 66 1 1 ?_;refine OD.ee (ls:=(acc)) (new:=[(L[k]'aa).2]) (Sq:=Sx) Tw.eu Tw.ng an rfl rfl underlying91 OO rfl w7 ot ec (dA (A:=[_,_,_])) ot bu nv nw (fun qd qI Fj Fk=>?_);refine OD.perm (dV (S1:=[⟨qd,3,qI*1,flatMap Tw.cI ((acc)++[(L[k]'aa).2])⟩]) (A:=[_,_,_])) ?_;exact VD
  have Z:¬0<w.length:=(by omega)
  have ny:au t w=my t w (acc++[(L[k]'aa).2]) (L.drop (k+1)):=(by rw[aS,jh,my,if_neg Z])
  refine dK 3 ?_;refine ei (cc 0 [_]) [.int .i64 0] [_] zeroValue3 runUnderlying91 sizeOf3 (fun oK=>?_);refine fH 0 66 1 1 ?_;refine OD.ee (ls:=(acc)) (new:=[(L[k]'aa).2]) (Sq:=Sx) Tw.eu Tw.ng an rfl rfl underlying91 OO rfl w7 ot ec (dA (A:=[_,_])) ot bu nv nw (fun qd qI Fj Fk=>?_);refine OD.perm (dV (S1:=[⟨qd,3,qI*1,flatMap Tw.cI ((acc)++[(L[k]'aa).2])⟩]) (A:=[_,_])) ?_;exact VD
 have I:au t w=(acc,0):=(by rw[aS,drop_of_length_le w4];rfl)
 refine ae [4,5] ?_;refine aJ Sx ?_;rw[I];exact⟨dQ,dD,rfl,ec⟩

end Go.Proofs.YtbcmjoaggammcaaGreatDoor.Ba
namespace Go.Proofs.YtbcmjoaggammcaaGreatDoor.So
open List
open Go.Proofs.Tryz
variable {α:Type} {R:α→α→Prop} {l L M X Y:List α} {x y:α} {k:Nat}
theorem G3(ht:∀{x y z:α},R x y→R y z→R x z)(hs:L.Pairwise R)(hk:k≤L.length)(h:k=0∨∃h:k-1<L.length,R (L[k-1]) x):∀z∈L.take k,R z x:=by
 intro z hz;obtain⟨i,hi,rfl⟩:=mem_iff_getElem.1 hz;rw[length_take] at hi;rw[getElem_take];rcases h with rfl|⟨h1,h2⟩
 ·omega
 rcases Nat.lt_or_ge i (k-1) with h3|h3
 ·exact ht (pairwise_iff_getElem.1 hs i (k-1) w4 h1 h3) h2
 have:i=k-1:=(by omega)
 subst this;exact h2
theorem GU(ht:∀{x y z:α},R x y→R y z→R x z)(hs:L.Pairwise R)(h:k=L.length∨∃h:k<L.length,R x (L[k])):∀z∈L.drop k,R x z:=by
 intro z hz;obtain⟨i,hi,rfl⟩:=mem_iff_getElem.1 hz;rw[length_drop] at hi;rw[getElem_drop];rcases h with rfl|⟨h1,h2⟩
 ·omega
 rcases Nat.eq_zero_or_pos i with rfl|h3
 ·simpa using h2
 exact ht h2 (pairwise_iff_getElem.1 hs k (k+i) h1 w4 w4)
theorem abD(hs:(X++Y).Pairwise R)(h1:∀z∈X,R z x)(h2:∀z∈Y,R x z):(X++x::Y).Pairwise R:=by
 rw[pairwise_append] at hs ⊢;obtain⟨p1,p2,p3⟩:=hs;refine⟨p1,pairwise_cons.2 ⟨h2,p2⟩,fun a ha b hb=>?_⟩;rcases mem_cons.1 hb with rfl|hb
 ·exact h1 a ha
 exact p3 a ha b hb
theorem RL(ht:∀{x y z:α},R x y→R y z→R x z)(hs:L.Pairwise R)(hk:k≤L.length)(h1:k=0∨∃h:k-1<L.length,R (L[k-1]) x)(h2:k=L.length∨∃h:k<L.length,R x (L[k])):(L.take k++x::L.drop k).Pairwise R :=
 abD (by rw[take_append_drop];exact hs) (G3 ht hs hk h1) (GU ht hs h2)
theorem Z7 (ht:∀{x y z:α},R x y→R y z→R x z) {A B:List α} {i j:Nat} (ha:A.Pairwise R) (hb:B.Pairwise R) (hi:i≤A.length) (hj:j≤B.length)
  (h1:i=0∨j=B.length∨∃(p:i-1<A.length) (q:j<B.length),R A[i-1] B[j]) (h2:j=0∨i=A.length∨∃(p:j-1<B.length) (q:i<A.length),R B[j-1] A[i]) :
  ∀a∈A.take i++B.take j,∀b∈A.drop i++B.drop j,R a b:=by
 have E:∀a∈A.take i,∀b∈A.drop i,R a b:=(by rw[←take_append_drop i A] at ha;exact(pairwise_append.1 ha).2.2)
 have I:∀a∈B.take j,∀b∈B.drop j,R a b:=(by rw[←take_append_drop j B] at hb;exact(pairwise_append.1 hb).2.2)
 intro a hm b hn;rcases mem_append.1 hm with hm|hm<;>rcases mem_append.1 hn with hn|hn
 ·exact E a hm b hn
 ·rcases h1 with rfl|rfl|⟨p,q,hr⟩
  ·simp at hm
  ·simp at hn
  exact G3 (R:=R) ht ha hi (.inr ⟨p,by
   rcases GU (R:=R) ht hb (k:=j) (x:=A[i-1]) (.inr ⟨q,hr⟩) b hn with h
   exact h⟩) a hm
 ·rcases h2 with rfl|rfl|⟨p,q,hr⟩
  ·simp at hm
  ·simp at hn
  exact G3 (R:=R) ht hb hj (.inr ⟨p,GU (R:=R) ht ha (k:=i) (x:=B[j-1]) (.inr ⟨q,hr⟩) b hn⟩) a hm
 exact I a hm b hn
theorem Hz{l1 l2:List α}:((l1++x::y::l2).set l1.length y).set (l1.length+1) x=l1++y::x::l2:=by
 rw[set_append_right _ _ (Nat.le_refl _),Nat.sub_self,set_cons_zero,set_append_right _ _ w4,show l1.length+1-l1.length=1 by omega,set_cons_succ,set_cons_zero]
def sw(l:List Int)(i j:Nat):List Int:=(l.set i (l.getD j 0)).set j (l.getD i 0)
theorem aeI{l:List Int}{i j:Nat}:(sw l i j).length=l.length:=by unfold sw;simp
theorem me{l:List Int}{i:Nat}(h:i<l.length):l.getD i 0=l[i]:=by simp[h]
def jG(l:List Int)(a b:Nat):Nat→List Int
 | 0=>l
 | k+1=>sw (jG l a b k) (a+k) (b+k)
theorem AN{l:List Int}{a b:Nat}:∀{k:Nat},(jG l a b k).length=l.length
 | 0=>rfl
 | k+1=>by rw[jG,aeI,AN]
theorem RM{l:List Int}{a b:Nat}:∀{k:Nat},a+k≤b→b+k≤l.length→∀j,(jG l a b k)[j]?=if a≤j∧j<a+k then l[b+(j-a)]? else if b≤j∧j<b+k then l[a+(j-b)]? else l[j]?
 | 0,_,_,j=>by rw[if_neg w4,if_neg w4];try rfl
 | k+1,h1,h2,j=>by
  have E:=RM (l:=l) (a:=a) (b:=b) (k:=k) w4 w4;have e1:(jG l a b k).getD (b+k) 0=l.getD (b+k) 0:=(by rw[getD_eq_getElem?_getD,E,if_neg w4,if_neg w4,getD_eq_getElem?_getD])
  have e2:(jG l a b k).getD (a+k) 0=l.getD (a+k) 0:=(by rw[getD_eq_getElem?_getD,E,if_neg w4,if_neg w4,getD_eq_getElem?_getD])
  rw[jG,sw,e1,e2,getElem?_set,getElem?_set,length_set,AN,E];by_cases q1:b+k=j
  ·subst q1;rw[if_pos rfl,if_pos w4,if_neg w4,if_pos w4,me w4,show a+(b+k-b)=a+k by omega,getElem?_eq_getElem w4]
  rw[if_neg q1];by_cases q2:a+k=j
  ·subst q2;rw[if_pos rfl,if_pos w4,if_pos w4,me w4,show b+(a+k-a)=b+k by omega,getElem?_eq_getElem w4]
  rw[if_neg q2];simp only[show(a≤j∧j<a+(k+1))↔(a≤j∧j<a+k) by omega,show(b≤j∧j<b+(k+1))↔(b≤j∧j<b+k) by omega]
theorem IU{P U M W Q:List Int}(h:U.length=W.length):jG (P++(U++(M++(W++Q)))) P.length (P.length+U.length+M.length) U.length=P++(W++(M++(U++Q))):=by
 refine ext_getElem? fun j=>?_;rw[RM w4 (by simp only[length_append];omega)];simp only[getElem?_append];repeat' split
 all_goals first|omega|(congr 1<;>omega)
def rj(T cur:List Int)(m i j:Nat):Prop:=∃P X Y Q,cur=P++(X++(Y++Q))∧X.length=i∧Y.length=j∧P.length+i=m∧T=P++(Y++(X++Q))
variable {T cur:List Int} {m i j:Nat}
theorem rj.len(h:rj T cur m i j):i≤m∧m+j≤cur.length∧T.length=cur.length:=by
 obtain⟨P,X,Y,Q,rfl,rfl,rfl,hm,rfl⟩:=h;simp only[length_append];omega
theorem aeJ(h:rj T cur m i j)(E:j<i):rj T (jG cur (m-i) m j) m (i-j) j:=by
 obtain⟨P,X,Y,Q,rfl,rfl,rfl,hm,rfl⟩:=h;have l1:(X.take Y.length).length=Y.length:=(by rw[length_take];omega)
 have l2:(X.drop Y.length).length=X.length-Y.length:=length_drop;have e:=IU (P:=P) (U:=X.take Y.length) (M:=X.drop Y.length) (W:=Y) (Q:=Q) l1;rw[l1,l2,←append_assoc (X.take _) (X.drop _),take_append_drop,show P.length+Y.length+(X.length-Y.length)=m by omega,show P.length=m-X.length by omega] at e;exact⟨P++Y,X.drop Y.length,X.take Y.length,Q,by rw[e];simp,l2,l1,by rw[length_append];omega,by rw[←append_assoc (X.take _) (X.drop _),take_append_drop];simp⟩
theorem aeK(h:rj T cur m i j)(E:i<j):rj T (jG cur (m-i) (m+j-i) i) m i (j-i):=by
 obtain⟨P,X,Y,Q,rfl,rfl,rfl,hm,rfl⟩:=h;have l1:(Y.take (Y.length-X.length)).length=Y.length-X.length:=(by rw[length_take];omega)
 have l2:(Y.drop (Y.length-X.length)).length=X.length:=(by rw[length_drop];omega)
 have e:=IU (P:=P) (U:=X) (M:=Y.take (Y.length-X.length)) (W:=Y.drop (Y.length-X.length)) (Q:=Q) l2.symm;rw[l1,←append_assoc (Y.take _) (Y.drop _),take_append_drop,show P.length+X.length+(Y.length-X.length)=m+Y.length-X.length by omega,show P.length=m-X.length by omega] at e;exact⟨P,Y.drop (Y.length-X.length),Y.take (Y.length-X.length),X++Q,e,l2,l1,hm,by rw[←append_assoc (Y.take _) (Y.drop _),take_append_drop]⟩
theorem aeL(h:rj T cur m i i):jG cur (m-i) m i=T:=by
 obtain⟨P,X,Y,Q,rfl,rfl,hl,hm,rfl⟩:=h;have e:=IU (P:=P) (U:=X) (M:=[]) (W:=Y) (Q:=Q) hl.symm;rw[length_nil,Nat.add_zero,show P.length+X.length=m by omega,show P.length=m-X.length by omega] at e;simpa using e

end Go.Proofs.YtbcmjoaggammcaaGreatDoor.So
namespace Go.Proofs.YtbcmjoaggammcaaGreatDoor.So
open List
open Go.Proofs.Tryz
open Go.RowKit V Tw
variable {G:List (Nat×List Value)}
theorem IV(l:List Int)(E la lb k cap I:Nat)(ek:D)(Sc:List ag)(fU:l.length=E)(h1:la+k≤lb)(h2:lb+k≤E)(h3:E≤cap)(h4:cap≤maxLen):VC Tryz.prog G 186 [.v (.slice (some ⟨I,0,none⟩) E cap),.v (.int .i64 (la:Nat)),.v (.int .i64 (lb:Nat)),.v (.int .i64 (k:Nat)),ek] (⟨I,3,cap*1,(l).flatMap cI⟩::Sc) (fun r S'=>r = .dy []∧S'=⟨I,3,cap*1,(jG l la lb k).flatMap cI⟩::Sc):=by
 refine VC.body func186 rfl ntmps186 aO fun X0 w0 aZ=>?_;have dr:maxLen=9223372036854775807:=rfl;refine ae [0,1,2,3,10] ?_;refine eH [0,1,2,3] (fun aW _ (i:Nat) aK=>(i≤k)∧aK=(⟨38,(10,.v (.int .i64 (i:Nat)))::aW,(⟨I,3,cap*1,(jG l la lb i).flatMap cI⟩::Sc)⟩:St)) (fun (i:Nat)=>k-i) 0 ⟨(Nat.zero_le _),rfl⟩ ?_;rintro i _ ⟨hi,rfl⟩;refine ae [0,1,2,3,10,13] ?_;refine aq (fun az aG=>?_) (fun az aG=>?_)
 ·have O:i<k:=(by omega)
  have hlen:(jG l la lb i).length=E:=(by rw[AN,fU])
  have ha:la+i<(jG l la lb i).length:=(by omega)
  have hb:lb+i<(jG l la lb i).length:=(by omega)
  refine CD.skip ?_;refine CD.seq ?_;refine CD.block ?_;refine fF 22 (ap (eraseIdx _ 0)) ?_ (fun _ h=>(Sublist.map _ (eraseIdx_sublist _ 0)).subset h);refine ax 0 rfl bg ?_;refine ax 1 rfl bg ?_;refine ax 2 rfl bg ?_;refine ax 3 rfl mE ?_;refine ax 4 rfl bg ?_;refine ax 5 rfl bg ?_;refine ax 6 rfl bg ?_;refine ax 7 rfl mE ?_;refine ax 8 rfl bg ?_;refine ax 9 rfl bg ?_;refine ax 10 rfl bg ?_;refine ax 11 rfl mE ?_;refine ax 12 rfl (dx 1) ?_;refine ax 14 rfl bg ?_;refine ax 15 rfl bg ?_;refine ax 16 rfl bg ?_;refine ax 17 rfl mE ?_;refine ax 18 rfl (dx 1) ?_;refine dh.later rfl ?_;refine AD.two (i:=13) (j:=19) ay ?_ ?_
  ·refine at_ rfl eP ?_;refine AD.one (i:=19) ay ?_;exact Vq
  refine at_ rfl eP ?_;refine AD.one (i:=13) ay ?_;exact Vq
 obtain rfl:i=k:=(by omega)
 refine aJ _ ?_;exact⟨by first|rfl|(simp[*];done),rfl⟩

theorem aeM(l Tt:List Int)(Z a m b cap bd:Nat)(ek:D)(Sc:List ag)(h:rj Tt l m (m-a) (b-m))(h1:a<m)(h2:m<b)(fU:l.length=Z)(E:Z≤cap)(I:cap≤maxLen):VC Tryz.prog G 173 [.v (.slice (some ⟨bd,0,none⟩) Z cap),.v (.int .i64 (a:Nat)),.v (.int .i64 (m:Nat)),.v (.int .i64 (b:Nat)),ek] (⟨bd,3,cap*1,(l).flatMap cI⟩::Sc) (fun r S'=>r = .dy []∧S'=⟨bd,3,cap*1,(Tt).flatMap cI⟩::Sc):=by
 refine VC.body func173 rfl ntmps173 aO fun X0 w0 aZ=>?_;have dr:maxLen=9223372036854775807:=rfl;have hlen:=h.len;refine cL [0,2,3,4,10] ?_;refine aP 2 ?_ (h:=by exact(cX rfl ot ot (fV (r:=((m-a:Nat):Int)) qa)));refine bG ?_;refine cL [0,2,4,10,11] ?_;refine aP 2 ?_ (h:=by exact(cX rfl ot ot (fV (r:=((b-m:Nat):Int)) qa)));refine bG ?_;refine eH [0,2,4] (fun aW _ (O:Nat×Nat×List Int) aK=>match O with|(i,j,cur)=>(rj Tt cur m i j)∧(0<i)∧(0<j)∧((cur).length=Z)∧aK=(⟨58,(10,.v (.int .i64 (i:Nat)))::(11,.v (.int .i64 (j:Nat)))::aW,(⟨bd,3,cap*1,(cur).flatMap cI⟩::Sc)⟩:St)) (fun (O:Nat×Nat×List Int)=>match O with|(i,j,cur)=>i+j) ((m-a),(b-m),l) ⟨h,w4,w4,fU,rfl⟩ ?_;rintro⟨i,j,cur⟩ _ ⟨hr,hi,hj,U,rfl⟩;refine ae [0,2,4,10,11,20] ?_;refine aq (fun az aG=>?_) (fun az aG=>?_)
 ·have rf:=hr.len;have hne:i≠j:=(by omega)
  refine ae [0,2,4,10,11,23] ?_;refine aq (fun aH aT=>?_) (fun aH aT=>?_)
  ·have hgt:j<i:=(by omega)
   refine aC 3 ?_;refine bQ (cX rfl ot ot (fV (r:=((m-i:Nat):Int)) qa)) ?_;refine aD 3 ?_;refine OD.call (R:=Sc) an rfl rfl rfl call186 (IV cur Z (m-i) m j cap bd ek [] U w4 w4 E I) ⟨ot,ot,ot,ot,ot,trivial⟩ (Perm.refl _) ?_;rintro _ _ ⟨rfl,rfl⟩;refine aj 58 [0,2,4,10,11] ?_;refine ij [0,2,4,10,11] ?_;refine aP 2 ?_ (h:=by exact(cX rfl ot ot (fV (r:=((i-j:Nat):Int)) qa)));refine bG ?_;refine⟨((i-j),j,(jG cur (m-i) m j)),_,cz,aM,(aeJ hr hgt),w4,hj,(by rw[AN];exact U),rfl⟩
  have aa:i<j:=(by omega)
  refine aC 3 ?_;refine bQ (cX rfl ot ot (fV (r:=((m-i:Nat):Int)) qa)) ?_;refine aD 4 ?_;refine bQ (cX rfl ot ot (fV (r:=((m+j-i:Nat):Int)) (by rw[show((m:Int)+j-i)=((m+j-i:Nat):Int) by omega];exact wrap_i64 w4 w4))) ?_;refine aD 2 ?_;refine OD.call (R:=Sc) an rfl rfl rfl call186 (IV cur Z (m-i) (m+j-i) i cap bd ek [] U w4 w4 E I) ⟨ot,ot,ot,ot,ot,trivial⟩ (Perm.refl _) ?_;rintro _ _ ⟨rfl,rfl⟩;refine aj 58 [0,2,4,10,11] ?_;refine ij [0,2,4,10,11] ?_;refine aP 2 ?_ (h:=by exact(cX rfl ot ot (fV (r:=((j-i:Nat):Int)) qa)));refine bG ?_;refine⟨(i,(j-i),(jG cur (m-i) (m+j-i) i)),_,cz,aM,(aeK hr aa),hi,w4,(by rw[AN];exact U),rfl⟩
 have rf:=hr.len;obtain rfl:i=j:=(by omega)
 have he:=aeL hr;refine dK 3 ?_;refine bQ (cX rfl ot ot (fV (r:=((m-i:Nat):Int)) qa)) ?_;refine aD 3 ?_;refine OD.call (R:=Sc) an rfl rfl rfl call186 (IV cur Z (m-i) m i cap bd ek [] U w4 w4 E I) ⟨ot,ot,ot,ot,ot,trivial⟩ (Perm.refl _) ?_;rintro _ _ ⟨rfl,rfl⟩;refine aj 58 [] ?_;refine aJ _ ?_;exact⟨rfl,by rw[he];rfl⟩

end Go.Proofs.YtbcmjoaggammcaaGreatDoor.So
namespace Go.Proofs.YtbcmjoaggammcaaGreatDoor.So
/-
  IW,plainly,part 2: the alA sort,one step behind the other.
-/
variable {x y:Int} {Z S:List Int} {cF:Int→Int→Int}
open List
open Go.Proofs.Tryz
def nY(R:Int→Int→Prop)(l0 l:List Int)(a i:Nat):Prop :=
 ∃(P A B A0:List Int),l=P++(A++B)∧P.length=a∧a+A.length=i∧A.Pairwise R∧A.Perm A0∧l0=P++(A0++B)
def rZ(R:Int→Int→Prop)(l0 l:List Int)(a i j:Nat):Prop :=
 ∃(P A:List Int) (x:Int) (B A0:List Int) (k:Nat),l=P++(A.take k++x::(A.drop k++B))∧P.length=a∧k≤A.length∧a+k=j∧a+A.length=i∧A.Pairwise R∧(k=A.length∨∃h:k<A.length,R x A[k])∧A.Perm A0∧l0=P++(A0++x::B)
variable {R Lt:Int→Int→Prop} {l0 l:List Int} {a i j:Nat}
theorem rZ.len(h:rZ R l0 l a i j):a≤j∧j≤i∧i<l.length∧l.length=l0.length:=by
 obtain⟨P,A,x,B,E,k,rfl,rfl,hk,rfl,rfl,hs,hx,hp,rfl⟩:=h;have:=hp.length_eq;simp only[length_append,length_cons,length_take,length_drop];omega
theorem HW(h:a≤l.length):nY R l l a a :=
 ⟨l.take a,[],l.drop a,[],by simp,by rw[length_take];omega,by simp,Pairwise.nil,.refl _,by simp⟩
theorem ac9(h:a<l.length):nY R l l a (a+1) :=
 ⟨l.take a,[l[a]],l.drop (a+1),[l[a]],by simp,by rw[length_take];omega,by simp,pairwise_singleton _ _,.refl _,by simp⟩
theorem Z8(h:nY R l0 l a i)(hi:i<l.length):rZ R l0 l a i i:=by
 obtain⟨P,A,B,E,rfl,rfl,rfl,hs,hp,rfl⟩:=h;cases B with
 | nil=>simp at hi
 | cons x B=>exact⟨P,A,x,B,E,A.length,by simp,rfl,Nat.le_refl _,rfl,rfl,hs,.inl rfl,hp,rfl⟩
theorem Ez{P A B:List Int}{k:Nat}(hk:k<A.length):P++(A.take (k+1)++x::(A.drop (k+1)++B))=(P++A.take k)++A[k]::x::(A.drop (k+1)++B):=by
 rw[take_succ_eq_append_getElem hk];simp only[append_assoc,singleton_append]
theorem Dh(n:Nat)(hn:n=Z.length)(h:n<(Z++y::S).length):(Z++y::S)[n]'h=y:=by subst hn;simp
theorem Di(n:Nat)(hn:n=Z.length+1)(h:n<(Z++y::x::S).length):(Z++y::x::S)[n]'h=x:=by subst hn;simp[getElem_append_right]
theorem YY(h:rZ R l0 l a i j)(hj:a<j)(h1:j<l.length)(h0:j-1<l.length)(hr:R l[j] l[j-1]):rZ R l0 ((l.set j l[j-1]).set (j-1) l[j]) a i (j-1):=by
 obtain⟨P,A,x,B,E,k,rfl,rfl,hk,rfl,rfl,hs,hx,hp,rfl⟩:=h;obtain⟨k,rfl⟩:∃m,k=m+1:=⟨k-1,by omega⟩
 have e:=Ez (P:=P) (B:=B) (x:=x) hk;have hl:(P++A.take k).length=P.length+k:=(by rw[length_append,length_take];omega)
 simp only[e] at hr ⊢;rw[Dh (P.length+(k+1)-1) w4,Di (P.length+(k+1)) w4] at hr ⊢;refine⟨P,A,x,B,E,k,?_,rfl,by omega,by omega,rfl,hs,.inr ⟨hk,hr⟩,hp,rfl⟩;rw[set_comm _ _ w4,show P.length+(k+1)-1=(P++A.take k).length by omega,show P.length+(k+1)=(P++A.take k).length+1 by omega,Hz];rw[show A.drop k=A[k]::A.drop (k+1) from drop_eq_getElem_cons hk];simp only[append_assoc,cons_append]
theorem aaq(ht:∀{x y z:Int},R x y→R y z→R x z)(h:rZ R l0 l a i j)(h1:j<l.length)(h0:j-1<l.length)(hr:j=a∨R l[j-1] l[j]):nY R l0 l a (i+1):=by
 obtain⟨P,A,x,B,E,k,rfl,rfl,hk,rfl,rfl,hs,hx,hp,rfl⟩:=h;refine⟨P,A.take k++x::A.drop k,B,E++[x],by simp,rfl,by simp;omega,RL ht hs hk ?_ hx,?_,by simp⟩
 ·rcases Nat.eq_zero_or_pos k with rfl|hp
  ·exact .inl rfl
  right;obtain⟨k,rfl⟩:∃m,k=m+1:=⟨k-1,by omega⟩
  refine⟨by omega,?_⟩;rcases hr with hr|hr
  ·omega
  have e:=Ez (P:=P) (B:=B) (x:=x) hk;have hl:(P++A.take k).length=P.length+k:=(by rw[length_append,length_take];omega)
  simp only[e] at hr;rw[Dh (P.length+(k+1)-1) w4,Di (P.length+(k+1)) w4] at hr;exact hr
 refine List.perm_middle.trans ?_;rw[take_append_drop];exact(Perm.cons x hp).trans (perm_append_singleton x E).symm
theorem ab1(h:rZ R l0 l a i j)(hj:a<j)(h1:j<l.length)(h0:j-1<l.length)(hq:(l0.drop a).Pairwise Lt):Lt l[j-1] l[j]:=by
 obtain⟨P,A,x,B,E,k,rfl,rfl,hk,rfl,rfl,hs,hx,hp,rfl⟩:=h;obtain⟨k,rfl⟩:∃m,k=m+1:=⟨k-1,by omega⟩
 have e:=Ez (P:=P) (B:=B) (x:=x) hk;have hl:(P++A.take k).length=P.length+k:=(by rw[length_append,length_take];omega)
 simp only[e];rw[Dh (P.length+(k+1)-1) w4,Di (P.length+(k+1)) w4];rw[drop_left' rfl,pairwise_append] at hq;exact hq.2.2 _ (hp.subset (getElem_mem hk)) x (mem_cons_self)
theorem rZ.perm(h:rZ R l0 l a i j):l.Perm l0:=by
 obtain⟨P,A,x,B,E,k,rfl,rfl,hk,rfl,rfl,hs,hx,hp,rfl⟩:=h;refine(perm_append_left_iff P).2 (List.perm_middle.trans ?_);rw[←append_assoc,take_append_drop];exact(Perm.cons x ((perm_append_right_iff B).2 hp)).trans List.perm_middle.symm
def Rc(cF:Int→Int→Int)(Lt:Int→Int→Prop)(x y:Int):Prop:=cF x y<0∨cF x y=0∧Lt x y
theorem Ej(h:cF y x<0):Rc cF Lt y x:=.inl h
theorem EF(ha:∀x y,0≤cF y x→cF x y≤0)(E:Lt x y)(h:¬cF y x<0):Rc cF Lt x y:=by
 have:=ha x y w4;unfold Rc;rcases Int.lt_or_eq_of_le this with q|q
 ·exact .inl q
 exact .inr ⟨q,E⟩
def Part(R:Int→Int→Prop)(l0 l:List Int)(a b:Nat):Prop:=∃(P M M0 Q:List Int),l=P++(M++Q)∧l0=P++(M0++Q)∧P.length=a∧a+M.length=b∧M.Perm M0∧M.Pairwise R
theorem nY.part{b:Nat}(h:nY R l0 l a b):Part R l0 l a b:=by
 obtain⟨P,A,B,E,h1,h2,h3,hs,hp,h4⟩:=h;exact⟨P,A,E,B,h1,h4,h2,h3,hp,hs⟩

end Go.Proofs.YtbcmjoaggammcaaGreatDoor.So
namespace Go.Proofs.YtbcmjoaggammcaaGreatDoor.So
open List
open Go.Proofs.Tryz
open Go.RowKit V Tw
variable {G:List (Nat×List Value)}
theorem SZ(l:List Int)(U a b cap bd fc:Nat)(O:List D)(Z:List ag)(cF:Int→Int→Int)(V:Int→Prop)(Lt:Int→Int→Prop)(hV:∀x∈l,V x)(hc:∀x y,V x→V y→VC Tryz.prog G fc ([.v (.int .i64 x),.v (.int .i64 y)]++O) Z (fun r S'=>r = .v (.int .i64 (cF x y))∧S'=Z))(uZ:∀args w,(callFunc fc args).run Tryz.prog w = .ok (.enter fc args) w)(ht:∀{x y z:Int},Rc cF Lt x y→Rc cF Lt y z→Rc cF Lt x z)(ha:∀x y,0≤cF y x→cF x y≤0)(hq:(l.drop a).Pairwise Lt)(h1:a≤b)(h2:b≤U)(fU:l.length=U)(pc:U≤cap)(qM:cap≤maxLen)(an3:U<maxLen):VC Tryz.prog G 147 [.v (.slice (some ⟨bd,0,none⟩) U cap),.v (.int .i64 (a:Nat)),.v (.int .i64 (b:Nat)),.ek (.func fc) O] (⟨bd,3,cap*1,(l).flatMap cI⟩::Z) (fun r S'=>r = .dy []∧∃lz,Part (Rc cF Lt) l lz a b∧S'=⟨bd,3,cap*1,(lz).flatMap cI⟩::Z):=by
 refine VC.body func147 rfl ntmps147 aO fun X0 w0 aZ=>?_;have dr:maxLen=9223372036854775807:=rfl;refine ae [0,1,2,3,8] ?_;refine eH [0,1,2,3] (fun aW _ (E:Nat×List Int) aK=>match E with|(i,cur)=>((i≤b→nY (Rc cF Lt) l cur a i))∧(a<i)∧((a<b→i≤b))∧((a=b→cur=l))∧((cur).length=U)∧aK=(⟨53,(8,.v (.int .i64 (i:Nat)))::aW,(⟨bd,3,cap*1,(cur).flatMap cI⟩::Z)⟩:St)) (fun (E:Nat×List Int)=>match E with|(i,cur)=>b-i) ((a+1),l) ⟨(fun q=>ac9 w4),(Nat.lt_succ_self _),(fun q=>q),(fun _=>rfl),fU,rfl⟩ ?_;rintro⟨i,cur⟩ _ ⟨hs,W0,hib,qk,kJ,rfl⟩;refine ae [0,1,2,3,8,14] ?_;refine aq (fun az aG=>?_) (fun az aG=>?_)
 ·have aa:i<b:=(by omega)
  refine ae [0,1,2,3,8,9] ?_;refine eH [0,1,2,3,8] (fun aW _ (E:Nat×List Int) aK=>match E with|(j,kW)=>(rZ (Rc cF Lt) l kW a i j)∧((kW).length=U)∧aK=(⟨53,(9,.v (.int .i64 (j:Nat)))::aW,(⟨bd,3,cap*1,(kW).flatMap cI⟩::Z)⟩:St)) (fun (E:Nat×List Int)=>match E with|(j,kW)=>j) (i,cur) ⟨(Z8 (hs w4) w4),kJ,rfl⟩ ?_;rintro⟨j,kW⟩ _ ⟨hj,yU,rfl⟩;have lH:=hj.len;have qc:j<kW.length:=(by omega)
  have qb:j-1<kW.length:=(by omega)
  refine CD.seq ?_;refine CD.seq ?_;refine fF 14 (ap (take 1 _)) ?_ (fun _ h=>(Sublist.map _ (take_sublist _ _)).subset h);refine ax 0 rfl bg ?_;refine ax 1 rfl bg ?_;refine ax 2 rfl mE ?_;refine ax 3 rfl bg ?_;refine dh.split (t:=21) lk (fun p9=>?_) (fun p9=>?_)
  ·have I:=p9;(try simp only[V.mV,ne_eq] at I)
   refine ax 4 rfl bg ?_;refine ax 5 rfl bg ?_;refine ax 6 rfl bg ?_;refine ax 7 rfl (dx 1 (h:=by first|exact .l (j:=j) rfl w4|exact .r (j:=j) rfl w4)) ?_;refine ax 8 rfl eP ?_;refine ax 9 rfl bg ?_;refine ax 10 rfl bg ?_;refine ax 11 rfl (cX rfl ot bH (fV (r:=((j-1:Nat):Int)) (by rw[show((j:Int)-1)=((j-1:Nat):Int) by have CK:=of_decide_eq_true p9;omega];exact wrap_i64 (by have CK:=of_decide_eq_true p9;omega) w4))) ?_;refine ax 12 rfl (dx 1 (h:=by first|exact .l (j:=j-1) rfl w4|exact .r (j:=j-1) rfl w4)) ?_;refine ax 13 rfl eP ?_;refine dh.later rfl ?_;refine ey ?_;have W4:∀x∈kW,V x:=fun x hx=>hV x (hj.perm.subset hx);refine OD.j4 (f:=fc) (args:=[_,_]) (Sf:=Z) gH rfl rfl ot uZ (hc _ _ (W4 _ (getElem_mem qc)) (W4 _ (getElem_mem qb))) rfl ⟨ot,ot,trivial⟩ (perm_append_singleton _ _).symm ?_;rintro _ S2 ⟨rfl,ik⟩;rw[ik];clear ik;refine OD.perm (perm_append_singleton _ _) ?_;refine aj 53 [0,1,2,3,8,9,34] ?_;refine aq (fun aH aT=>?_) (fun aH aT=>?_)
   ·have hja:a<j:=(by have q:=of_decide_eq_true p9;omega)
    have ae5:cF (kW[j]'qc) (kW[j-1]'qb)<0:=aT;refine CD.skip ?_;refine CD.seq ?_;refine CD.block ?_;refine fF 16 (ap (eraseIdx _ 0)) ?_ (fun _ h=>(Sublist.map _ (eraseIdx_sublist _ 0)).subset h);refine ax 0 rfl bg ?_;refine ax 1 rfl bg ?_;refine ax 2 rfl bg ?_;refine ax 3 rfl bg ?_;refine ax 4 rfl (cX rfl ot bH (fV (r:=((j-1:Nat):Int)) Le)) ?_;refine ax 5 rfl bg ?_;refine ax 6 rfl bg ?_;refine ax 7 rfl (cX rfl ot bH (fV (r:=((j-1:Nat):Int)) Le)) ?_;refine ax 8 rfl (dx 1 (h:=by first|exact .l (j:=j-1) rfl w4|exact .r (j:=j-1) rfl w4)) ?_;refine ax 10 rfl bg ?_;refine ax 11 rfl bg ?_;refine ax 12 rfl (dx 1 (h:=by first|exact .l (j:=j) rfl w4|exact .r (j:=j) rfl w4)) ?_;refine dh.later rfl ?_;refine AD.two (i:=9) (j:=13) ay ?_ ?_
    ·refine at_ rfl eP ?_;refine AD.one (i:=13) ay ?_;exact Vj
    refine at_ rfl eP ?_;refine AD.one (i:=9) ay ?_;exact Vj
   exact Vz
  have I:=p9;(try simp only[V.mV,ne_eq] at I)
  refine lY 4 rfl ?_;refine lY 5 rfl ?_;refine lY 6 rfl ?_;refine lY 7 rfl ?_;refine lY 8 rfl ?_;refine lY 9 rfl ?_;refine lY 10 rfl ?_;refine lY 11 rfl ?_;refine lY 12 rfl ?_;refine lY 13 rfl ?_;refine dh.later rfl ?_;refine ey ?_;refine aY [0,1,2,3,8,9,34] ?_;refine fG ?_;exact Vz
 have nR:nY (Rc cF Lt) l cur a b:=(Nat.eq_or_lt_of_le h1).elim (fun q=>by subst q;rw[qk rfl];exact HW w4) (fun q=>(show i=b by omega) ▸ hs w4);refine aJ _ ?_;exact⟨rfl,_,nR.part,rfl⟩

end Go.Proofs.YtbcmjoaggammcaaGreatDoor.So
namespace Go.Proofs.YtbcmjoaggammcaaGreatDoor.So
/-
  IW,plainly,part 3: one that goes through a list,place by place.
-/
variable {i:Nat}
open List
open Go.Proofs.Tryz
def Mv(P B Q:List Int)(x:Int)(t:Nat):List Int:=P++(B.take t++x::(B.drop t++Q))
variable {P B Q:List Int} {x:Int} {t:Nat}
theorem ES(h:t≤B.length):(Mv P B Q x t).length=P.length+(B.length+1+Q.length):=by
 unfold Mv;simp only[length_append,length_cons,length_take,length_drop];omega
theorem EA(h:t<B.length):Mv P B Q x t=(P++B.take t)++x::B[t]::(B.drop (t+1)++Q):=by
 unfold Mv;rw[drop_eq_getElem_cons h];simp only[append_assoc,cons_append]
theorem EB(h:t<B.length):Mv P B Q x (t+1)=(P++B.take t)++B[t]::x::(B.drop (t+1)++Q):=Ez h
theorem yQ(h:t<B.length):(P++B.take t).length=P.length+t:=by rw[length_append,length_take];omega
theorem aeN(h:t<B.length)(h0:P.length+t<(Mv P B Q x t).length):(Mv P B Q x t)[P.length+t]=x:=by
 simp only[EA h];rw[Dh _ (yQ h).symm]
theorem ada(h:t<B.length)(h0:P.length+t+1<(Mv P B Q x t).length):(Mv P B Q x t)[P.length+t+1]=B[t]:=by
 simp only[EA h];rw[Di _ (by rw[yQ h])]
theorem abE(h:t<B.length):((Mv P B Q x t).set (P.length+t) B[t]).set (P.length+t+1) x=Mv P B Q x (t+1):=by
 rw[EA h,EB h,←yQ (P:=P) h,Hz]
theorem adb(h:t<B.length):((Mv P B Q x (t+1)).set (P.length+t+1) B[t]).set (P.length+t) x=Mv P B Q x t:=by
 rw[EA h,EB h,←yQ (P:=P) h,set_comm _ _ w4,Hz]

/-
  IW,plainly,part 4: two parts,each in order,amG one.
-/
variable {R Lt:Int→Int→Prop} {l l1 l2 l3:List Int} {a s m e b mid:Nat}
theorem RN(ht:∀{x y z:Int},R x y→R y z→R x z){P B Q:List Int}{x:Int}{s t:Nat}(E:B.Pairwise R)(hs:s≤B.length)(hk:t≤B.length)(h1:t=0∨∃h:t-1<B.length,R B[t-1] x)(h2:t=B.length∨∃h:t<B.length,R x B[t]) :
  Part R (Mv P B Q x s) (Mv P B Q x t) P.length (P.length+(B.length+1)):=by
 have hp:∀t,(B.take t++x::B.drop t).Perm (x::B):=fun t=>List.perm_middle.trans (by rw[take_append_drop]);refine⟨P,B.take t++x::B.drop t,B.take s++x::B.drop s,Q,by unfold Mv;simp,by unfold Mv;simp,rfl,?_,(hp t).trans (hp s).symm,RL ht E hk h1 h2⟩;have:=(hp t).length_eq;simp only[length_cons] at this;rw[this]
def pG(R Lt:Int→Int→Prop)(l:List Int)(a m b:Nat):Prop:=∃(P A B Q:List Int),l=P++(A++(B++Q))∧P.length=a∧a+A.length=m∧m+B.length=b∧A.Pairwise R∧B.Pairwise R∧∀x∈A,∀y∈B,Lt x y
theorem pG.len(h:pG R Lt l a m b):a≤m∧m≤b∧b≤l.length:=by
 obtain⟨P,A,B,Q,rfl,rfl,rfl,rfl,_⟩:=h;simp only[length_append];omega
theorem pG.lt(h:pG R Lt l a m b){j:Nat}(h1:a≤i)(h2:i<m)(h3:m≤j)(h4:j<b)(hi:i<l.length)(hj:j<l.length):Lt l[i] l[j]:=by
 obtain⟨P,A,B,Q,rfl,rfl,rfl,rfl,_,_,h⟩:=h;refine h _ ?_ _ ?_
 ·rw[getElem_append_right h1,getElem_append_left w4];exact getElem_mem _
 rw[getElem_append_right w4,getElem_append_right w4,getElem_append_left w4];exact getElem_mem _
theorem OP{P M Q:List Int}(h:M.Pairwise R):Part R (P++(M++Q)) (P++(M++Q)) P.length (P.length+M.length):=⟨P,M,M,Q,rfl,rfl,rfl,rfl,.refl _,h⟩
theorem Ql{P E Q:List Int}{x y:Nat}(h:Part R (P++(E++Q)) l x y)(hx:x=P.length)(hy:y=P.length+E.length):∃M,l=P++(M++Q)∧M.Perm E∧M.Pairwise R:=by
 obtain⟨P',M,U,Q',h1,h2,h3,h4,h5,h6⟩:=h;have hl:=h5.length_eq;obtain⟨e1,e2⟩:=append_inj h2 w4;obtain⟨I,O⟩:=append_inj e2 w4;subst e1 I O;exact⟨M,h1,h5,h6⟩
def tG(R Lt:Int→Int→Prop)(l l1:List Int)(a s m e b mid:Nat):Prop:=∃(P A1 A2 B1 B2 Q:List Int),l=P++(A1++(A2++(B1++(B2++Q))))∧l1=P++(A1++(B1++(A2++(B2++Q))))∧P.length=a∧a+A1.length=s∧s+A2.length=m∧m+B1.length=e∧e+B2.length=b∧s+B1.length=mid ∧
 A1.Pairwise R∧A2.Pairwise R∧B1.Pairwise R∧B2.Pairwise R∧(∀x∈A1,∀y∈B1,Lt x y)∧(∀x∈A2,∀y∈B2,Lt x y)∧∀x∈A1++B1,∀y∈A2++B2,R x y
theorem ade (ht:∀{x y z:Int},R x y→R y z→R x z) (h:pG R Lt l a m b) (h1:a≤s) (h2:s≤m) (h3:m≤e) (h4:e≤b) (hm:s+(e-m)=mid)
  (k1:s=a∨e=b∨∃(p:s-1<l.length) (q:e<l.length),R l[s-1] l[e]) (k2:e=m∨s=m∨∃(p:e-1<l.length) (q:s<l.length),R l[e-1] l[s]):∃l1,tG R Lt l l1 a s m e b mid∧rj l1 l m (m-s) (e-m):=by
 obtain⟨P,A,B,Q,rfl,rfl,rfl,rfl,hA,hB,aa⟩:=h;obtain⟨i,rfl⟩:∃i,s=P.length+i:=⟨s-P.length,by omega⟩
 obtain⟨j,rfl⟩:∃j,e=P.length+A.length+j:=⟨e-(P.length+A.length),by omega⟩
 have E:∀k (h:k<A.length) (q:P.length+k<(P++(A++(B++Q))).length),(P++(A++(B++Q)))[P.length+k]=A[k]:=fun k h q=>by
  rw[getElem_append_right w4,getElem_append_left w4];simp
 have I:∀k (h:k<B.length) (q:P.length+A.length+k<(P++(A++(B++Q))).length),(P++(A++(B++Q)))[P.length+A.length+k]=B[k]:=fun k h q=>by
  rw[getElem_append_right w4,getElem_append_right w4,getElem_append_left w4];congr 1;omega
 have hc:=Z7 (R:=R) ht hA hB (i:=i) (j:=j) w4 w4 (by
  rcases Nat.eq_zero_or_pos i with q|q
  ·exact .inl q
  rcases k1 with k1|k1|⟨p1,p2,k1⟩
  ·omega
  ·exact .inr (.inl w4)
  ·rcases Nat.lt_or_ge j B.length with q2|q2
   ·refine .inr (.inr ⟨by omega,q2,?_⟩);have e1:=E (i-1) w4 w4;simp only[show P.length+i-1=P.length+(i-1) by omega] at k1;rw[e1,I j q2] at k1;exact k1
   exact .inr (.inl w4)) (by
  rcases Nat.eq_zero_or_pos j with q|q
  ·exact .inl q
  rcases k2 with k2|k2|⟨p1,p2,k2⟩
  ·omega
  ·exact .inr (.inl w4)
  rcases Nat.lt_or_ge i A.length with q2|q2
  ·refine .inr (.inr ⟨by omega,q2,?_⟩);have e1:=I (j-1) w4 w4;simp only[show P.length+A.length+j-1=P.length+A.length+(j-1) by omega] at k2;rw[e1,E i q2] at k2;exact k2
  exact .inr (.inl w4))
 have la1:(A.take i).length=i:=(by rw[length_take];omega)
 have lb1:(B.take j).length=j:=(by rw[length_take];omega)
 have la2:(A.drop i).length=A.length-i:=length_drop;have lb2:(B.drop j).length=B.length-j:=length_drop;have O:A.take i++A.drop i=A:=take_append_drop ..;have U:B.take j++B.drop j=B:=take_append_drop ..;have Z:(A.take i++A.drop i).Pairwise R:=(by rw[O];exact hA)
 have pb:(B.take j++B.drop j).Pairwise R:=(by rw[U];exact hB)
 have ea:A++(B++Q)=A.take i++(A.drop i++(B.take j++(B.drop j++Q))):=(by rw[←append_assoc (A.take i),O,←append_assoc (B.take j),U])
 refine⟨P++(A.take i++(B.take j++(A.drop i++(B.drop j++Q)))),⟨P,A.take i,A.drop i,B.take j,B.drop j,Q,by rw[ea],rfl,rfl,by omega,by omega,by omega,by omega,by omega,(pairwise_append.1 Z).1,(pairwise_append.1 Z).2.1,(pairwise_append.1 pb).1,(pairwise_append.1 pb).2.1,fun x hx y hy=>aa x (mem_of_mem_take hx) y (mem_of_mem_take hy),fun x hx y hy=>aa x (mem_of_mem_drop hx) y (mem_of_mem_drop hy),hc⟩,
  P++A.take i,A.drop i,B.take j,B.drop j++Q,by rw[ea];simp,by omega,by omega,by rw[length_append];omega,by simp⟩
theorem tG.perm(h:tG R Lt l l1 a s m e b mid):l1.Perm l:=by
 obtain⟨P,E,I,O,B2,Q,rfl,rfl,_⟩:=h;refine Perm.append_left P (Perm.append_left E ?_);rw[←append_assoc O,←append_assoc I];exact List.perm_append_comm.append_right _
theorem adf(h:tG R Lt l l1 a s m e b mid):pG R Lt l1 a s mid:=by
 obtain⟨P,E,I,O,B2,Q,rfl,rfl,e1,e2,Z,e4,e5,U,p1,p2,p3,p4,q1,q2,q3⟩:=h;exact⟨P,E,O,I++(B2++Q),rfl,e1,e2,U,p1,p3,q1⟩
theorem Qm(h:tG R Lt l l1 a s m e b mid)(hn:¬(a<s∧s<mid)):Part R l1 l1 a mid:=by
 obtain⟨P,E,O,I,B2,Q,rfl,rfl,rfl,e2,U,Z,e5,e6,p1,p2,p3,p4,q1,q2,q3⟩:=h;have:(E++I).Pairwise R:=by
  rcases Nat.eq_zero_or_pos E.length with h|h
  ·rw[length_eq_zero_iff.1 h];exact p3
  rw[length_eq_zero_iff.1 (show I.length=0 by omega),append_nil];exact p1
 have:=OP (P:=P) (Q:=O++(B2++Q)) this;rw[append_assoc,length_append] at this;rwa [show P.length+(E.length+I.length)=mid by omega] at this
theorem IY(h:tG R Lt l l1 a s m e b mid)(k:Part R l1 l2 a mid):∃(P I E O B2 Q M:List Int),l=P++(I++(E++(O++(B2++Q))))∧l2=P++(M++(E++(B2++Q)))∧P.length=a∧M.length+a=mid∧M.Perm (I++O)∧mid+E.length=e∧e+B2.length=b∧M.Pairwise R∧E.Pairwise R∧B2.Pairwise R∧(∀x∈E,∀y∈B2,Lt x y)∧∀x∈M,∀y∈E++B2,R x y:=by
 obtain⟨P,I,E,O,B2,Q,rfl,rfl,rfl,e2,e3,e4,e5,e6,p1,p2,p3,U,q1,q2,Z⟩:=h;rw[←append_assoc I] at k;obtain⟨M,h1,h2,h3⟩:=Ql k rfl u6;have:=h2.length_eq;rw[length_append] at this;exact⟨P,I,E,O,B2,Q,M,rfl,h1,rfl,by omega,h2,by omega,by omega,h3,p2,U,q2,fun x hx=>Z x (h2.subset hx)⟩
theorem abF(h:tG R Lt l l1 a s m e b mid)(k:Part R l1 l2 a mid):pG R Lt l2 mid e b:=by
 obtain⟨P,I,E,O,B2,Q,M,rfl,rfl,rfl,e1,e2,U,Z,p1,p2,p3,q1,q2⟩:=IY h k;exact⟨P++M,E,B2,Q,by simp,by rw[length_append];omega,by omega,by omega,p2,p3,q1⟩
theorem NX(h:tG R Lt l l1 a s m e b mid)(k:Part R l1 l2 a mid)(hn:¬(mid<e∧e<b)):Part R l2 l2 mid b:=by
 obtain⟨P,I,E,O,B2,Q,M,rfl,rfl,rfl,e1,e2,U,Z,p1,p2,p3,q1,q2⟩:=IY h k;have:(E++B2).Pairwise R:=by
  rcases Nat.eq_zero_or_pos E.length with h|h
  ·rw[length_eq_zero_iff.1 h];exact p3
  rw[length_eq_zero_iff.1 (show B2.length=0 by omega),append_nil];exact p2
 have:=OP (P:=P++M) (Q:=Q) this;rw[append_assoc,length_append,length_append,append_assoc] at this;rwa [show P.length+M.length+(E.length+B2.length)=b by omega,show P.length+M.length=mid by omega] at this
theorem El(h:tG R Lt l l1 a s m e b mid)(k:Part R l1 l2 a mid)(j:Part R l2 l3 mid b):Part R l l3 a b:=by
 obtain⟨P,E,I,O,B2,Q,M,rfl,rfl,rfl,e1,e2,Z,e4,p1,p2,p3,q1,q2⟩:=IY h k;rw[←append_assoc I,←append_assoc P] at j;obtain⟨U,h1,h2,h3⟩:=Ql j u6 (by rw[length_append,length_append];omega);have hl:=e2.length_eq;have iB:=h2.length_eq;rw[length_append] at hl iB;refine⟨P,M++U,E++(I++(O++B2)),Q,by rw[h1];simp,by simp,rfl,by rw[length_append];omega,?_,pairwise_append.2 ⟨p1,h3,fun x hx y hy=>q2 x hx y (h2.subset hy)⟩⟩;refine(e2.append h2).trans ?_;rw[append_assoc E];refine Perm.append_left E ?_;rw[←append_assoc O,←append_assoc I];exact List.perm_append_comm.append_right B2
theorem Part.perm(h:Part R l l1 a b):l1.Perm l:=by
 obtain⟨P,M,E,Q,rfl,rfl,_,_,hp,_⟩:=h;exact(hp.append_right Q).append_left P
theorem Part.len(h:Part R l l1 a b):l1.length=l.length:=h.perm.length_eq
theorem aar{T cur:List Int}{j:Nat}(h:rj T cur m i j)(hz:i=0∨j=0):T=cur:=by
 obtain⟨P,X,Y,Q,rfl,rfl,rfl,hm,rfl⟩:=h;rcases hz with h|h
 ·rw[length_eq_zero_iff.1 h];rfl
 rw[length_eq_zero_iff.1 h];rfl
theorem abG(ht:∀{x y z:Int},R x y→R y z→R x z)(h:pG R Lt l a m b)(hm:m=a+1)(h1:m≤i)(h2:i≤b)(k1:i=m∨∃(p:i-1<l.length) (q:a<l.length),R l[i-1] l[a])(k2:i=b∨∃(p:a<l.length) (q:i<l.length),R l[a] l[i]) :
  ∃(P B Q:List Int) (x:Int),P.length=a∧l=Mv P B Q x 0∧i-m≤B.length∧m+B.length=b∧Part R l (Mv P B Q x (i-m)) a b:=by
 obtain⟨P,A,B,Q,rfl,rfl,rfl,rfl,hA,hB,aa⟩:=h;obtain⟨x,rfl⟩:=length_eq_one_iff.1 (show A.length=1 by omega);have E:∀(q:P.length<(P++([x]++(B++Q))).length),(P++([x]++(B++Q)))[P.length]=x:=fun q=>by rw[getElem_append_right w4];simp
 have I:∀k (h:k<B.length) (q:P.length+1+k<(P++([x]++(B++Q))).length),(P++([x]++(B++Q)))[P.length+1+k]=B[k]:=fun k h q=>by
  rw[getElem_append_right w4,getElem_append_right gN,getElem_append_left gN];simp only[length_singleton];congr 1;omega
 have jO:([x]:List Int).length=1:=rfl;rw[jO] at *;obtain⟨t,rfl⟩:∃t,i=P.length+1+t:=⟨i-(P.length+1),by omega⟩
 rw[show P.length+1+t-(P.length+1)=t by omega];have hp:=RN (R:=R) (P:=P) (B:=B) (Q:=Q) (x:=x) (s:=0) (t:=t) ht hB (Nat.zero_le _) w4 (by
  rcases Nat.eq_zero_or_pos t with q|q
  ·exact .inl q
  rcases k1 with k1|⟨O,U,k1⟩
  ·omega
  ·refine .inr ⟨by omega,?_⟩;have e1:=I (t-1) w4 w4;simp only[show P.length+1+t-1=P.length+1+(t-1) by omega] at k1;rw[E,e1] at k1;exact k1) (by
  rcases k2 with k2|⟨O,U,k2⟩
  ·exact .inl w4
  rcases Nat.lt_or_ge t B.length with q|q
  ·exact .inr ⟨q,by rw[E,I t q] at k2;exact k2⟩
  exact .inl w4)
 refine⟨P,B,Q,x,rfl,rfl,by omega,rfl,?_⟩;rw[show P.length+(B.length+1)=P.length+1+B.length by omega] at hp;exact hp
theorem Z9(ht:∀{x y z:Int},R x y→R y z→R x z)(h:pG R Lt l a m b)(hm:b=m+1)(h1:a≤i)(h2:i≤m)(k1:i=a∨∃(p:i-1<l.length) (q:m<l.length),R l[i-1] l[m])(k2:i=m∨∃(p:m<l.length) (q:i<l.length),R l[m] l[i]) :
  ∃(P B Q:List Int) (x:Int),P.length=a∧l=Mv P B Q x (m-a)∧i-a≤B.length∧a+B.length=m∧Part R l (Mv P B Q x (i-a)) a b:=by
 obtain⟨P,A,B,Q,rfl,rfl,rfl,rfl,hA,hB,aa⟩:=h;obtain⟨x,rfl⟩:=length_eq_one_iff.1 (show B.length=1 by omega);have E:∀(q:P.length+A.length<(P++(A++([x]++Q))).length),(P++(A++([x]++Q)))[P.length+A.length]=x:=fun q=>by
  rw[getElem_append_right w4,getElem_append_right w4];simp
 have I:∀k (h:k<A.length) (q:P.length+k<(P++(A++([x]++Q))).length),(P++(A++([x]++Q)))[P.length+k]=A[k]:=fun k h q=>by
  rw[getElem_append_right w4,getElem_append_left w4];simp
 have jO:([x]:List Int).length=1:=rfl;rw[jO] at *;obtain⟨t,rfl⟩:∃t,i=P.length+t:=⟨i-P.length,by omega⟩
 rw[show P.length+t-P.length=t by omega,show P.length+A.length-P.length=A.length by omega];have he:P++(A++([x]++Q))=Mv P A Q x A.length:=(by unfold Mv;simp)
 have hp:=RN (R:=R) (P:=P) (B:=A) (Q:=Q) (x:=x) (s:=A.length) (t:=t) ht hA (Nat.le_refl _) w4 (by
  rcases Nat.eq_zero_or_pos t with q|q
  ·exact .inl q
  rcases k1 with k1|⟨O,U,k1⟩
  ·omega
  ·refine .inr ⟨by omega,?_⟩;have e1:=I (t-1) w4 w4;simp only[show P.length+t-1=P.length+(t-1) by omega] at k1;rw[E,e1] at k1;exact k1) (by
  rcases k2 with k2|⟨O,U,k2⟩
  ·exact .inl w4
  rcases Nat.lt_or_ge t A.length with q|q
  ·exact .inr ⟨q,by rw[E,I t q] at k2;exact k2⟩
  exact .inl w4)
 refine⟨P,A,Q,x,rfl,he,by omega,rfl,?_⟩;rw[he,show P.length+A.length+1=P.length+(A.length+1) by omega];exact hp
theorem abH(h:t<B.length)(h0:P.length+t<(Mv P B Q x (t+1)).length):(Mv P B Q x (t+1))[P.length+t]=B[t]:=by
 simp only[EB h];rw[Dh _ (yQ h).symm]
theorem abI(h:t<B.length)(h0:P.length+t+1<(Mv P B Q x (t+1)).length):(Mv P B Q x (t+1))[P.length+t+1]=x:=by
 simp only[EB h];rw[Di _ (by rw[yQ h])]
theorem adL(h:t<B.length)(ha:P.length=a)(h0:a+t<(Mv P B Q x t).length)(h1:a+t+1<(Mv P B Q x t).length):((Mv P B Q x t).set (a+t) (Mv P B Q x t)[a+t+1]).set (a+t+1) (Mv P B Q x t)[a+t]=Mv P B Q x (t+1):=by
 subst ha;rw[ada h,aeN h,abE h]
theorem adK(h:t<B.length)(ha:P.length=a)(h0:a+t<(Mv P B Q x (t+1)).length)(h1:a+t+1<(Mv P B Q x (t+1)).length):((Mv P B Q x (t+1)).set (a+t+1) (Mv P B Q x (t+1))[a+t]).set (a+t) (Mv P B Q x (t+1))[a+t+1]=Mv P B Q x t:=by
 subst ha;rw[abH h,abI h,adb h]

end Go.Proofs.YtbcmjoaggammcaaGreatDoor.So
namespace Go.Proofs.YtbcmjoaggammcaaGreatDoor.So
open List
open Go.Proofs.Tryz
open Go.RowKit V Tw
variable {G:List (Nat×List Value)}
theorem abJ(ln cap O fc:Nat)(U:List D)(I:List ag)(cF:Int→Int→Int)(V:Int→Prop)(Lt:Int→Int→Prop)(hc:∀x y,V x→V y→VC Tryz.prog G fc ([.v (.int .i64 x),.v (.int .i64 y)]++U) I (fun r S'=>r = .v (.int .i64 (cF x y))∧S'=I))(Z:∀args w,(callFunc fc args).run Tryz.prog w = .ok (.enter fc args) w)(ht:∀{x y z:Int},Rc cF Lt x y→Rc cF Lt y z→Rc cF Lt x z)(ha:∀x y,0≤cF y x→cF x y≤0)(pc:ln≤cap)(qM:cap≤maxLen)(oG:ln≤1000000)(n:Nat)(ih:∀k,k<n→∀(l:List Int) (a m b:Nat),b-a=k→pG (Rc cF Lt) Lt l a m b→a<m→m<b→l.length=ln→(∀x∈l,V x)→VC Tryz.prog G 148 [.v (.slice (some ⟨O,0,none⟩) ln cap),.v (.int .i64 (a:Nat)),.v (.int .i64 (m:Nat)),.v (.int .i64 (b:Nat)),.ek (.func fc) U] (⟨O,3,cap*1,(l).flatMap cI⟩::I) (fun r S'=>r = .dy []∧∃lz,Part (Rc cF Lt) l lz a b∧S'=⟨O,3,cap*1,(lz).flatMap cI⟩::I))(l:List Int)(a m b:Nat)(hn:b-a=n)(h:pG (Rc cF Lt) Lt l a m b)(h1:a<m)(h2:m<b)(fU:l.length=ln)(hV:∀x∈l,V x):VC Tryz.prog G 148 [.v (.slice (some ⟨O,0,none⟩) ln cap),.v (.int .i64 (a:Nat)),.v (.int .i64 (m:Nat)),.v (.int .i64 (b:Nat)),.ek (.func fc) U] (⟨O,3,cap*1,(l).flatMap cI⟩::I) (fun r S'=>r = .dy []∧∃lz,Part (Rc cF Lt) l lz a b∧S'=⟨O,3,cap*1,(lz).flatMap cI⟩::I):=by
 refine VC.body func148 rfl ntmps148 aO fun X0 w0 aZ=>?_;have dr:maxLen=9223372036854775807:=rfl;have hlen:=h.len;refine cL [0,1,2,3,4,28] ?_;refine aP 2 ?_ (h:=by exact(cX rfl ot ot (fV (r:=((m-a:Nat):Int)) qa)));refine bG ?_;refine aq (fun az aG=>?_) (fun az aG=>?_)
 ·have CJ:m=a+1:=(by omega)
  refine ae [0,1,3,4,10] ?_;refine ae [0,1,4,10,11] ?_;refine eH [0,1,4] (fun aW _ (E:Nat×Nat) aK=>match E with|(i,j)=>(m≤i)∧(i≤j)∧(j≤b)∧((i=m∨∃(p:i-1<l.length) (q:a<l.length),(Rc cF Lt) l[i-1] l[a]))∧((j=b∨∃(p:a<l.length) (q:j<l.length),(Rc cF Lt) l[a] l[j]))∧aK=(⟨220,(10,.v (.int .i64 (i:Nat)))::(11,.v (.int .i64 (j:Nat)))::aW,(⟨O,3,cap*1,(l).flatMap cI⟩::I)⟩:St)) (fun (E:Nat×Nat)=>match E with|(i,j)=>j-i) (m,b) ⟨(Nat.le_refl _),w4,(Nat.le_refl _),(.inl rfl),(.inl rfl),rfl⟩ ?_;rintro⟨i,j⟩ _ ⟨l9,WQ,hjb,dH,fk,rfl⟩;refine ae [0,1,4,10,11,33] ?_;refine aq (fun aH aT=>?_) (fun aH aT=>?_)
  ·have hh:i<j:=(by omega)
   have hH:((i+j)/2)<l.length:=(by omega)
   have hA:a<l.length:=(by omega)
   refine cL [0,1,4,10,11,12] ?_;refine aP 2 ?_ (h:=by exact(cX rfl ot ot (jZ (r:=((i+j:Nat):Int)) zz)));refine aP 0 ?_ (h:=by exact(n9 rfl ot (oc (r:=((i+j:Nat):Int)) runUnderlying3 runUnderlying211 (IntWalk.u64_in _ w4))));refine aP 0 ?_ (h:=by exact(cX rfl ot bH (yl w7 A9)));refine aP 0 ?_ (h:=by exact(n9 rfl ot (oc (r:=((((i+j)/2):Nat):Int)) runUnderlying211 runUnderlying3 (wrap_i64 w4 w4))));refine bG ?_;refine CD.seq ?_;refine fF 9 (ap (take 1 _)) ?_ (fun _ h=>(Sublist.map _ (take_sublist _ _)).subset h);refine ax 0 rfl bg ?_;refine ax 1 rfl bg ?_;refine ax 2 rfl bg ?_;refine ax 3 rfl (dx 1 (h:=by first|exact .l (j:=((i+j)/2)) rfl w4|exact .r (j:=((i+j)/2)) rfl w4)) ?_;refine ax 4 rfl eP ?_;refine ax 5 rfl bg ?_;refine ax 6 rfl bg ?_;refine ax 7 rfl (dx 1 (h:=by first|exact .l (j:=a) rfl w4|exact .r (j:=a) rfl w4)) ?_;refine ax 8 rfl eP ?_;refine dh.later rfl ?_;refine ey ?_;refine OD.j4 (f:=fc) (args:=[_,_]) (Sf:=I) an rfl rfl ot Z (hc _ _ (hV _ (getElem_mem hH)) (hV _ (getElem_mem hA))) rfl ⟨ot,ot,trivial⟩ (perm_append_singleton _ _).symm ?_;rintro _ S2 ⟨rfl,ik⟩;rw[ik];clear ik;refine OD.perm (perm_append_singleton _ _) ?_;refine aj 220 [0,1,4,10,11,12,50] ?_;refine aq (fun aX bw=>?_) (fun aX bw=>?_)
   ·have wO:(Rc cF Lt) (l[((i+j)/2)]'hH) (l[a]'hA):=Ej bw;refine cg [0,1,4,10,11] ?_;exact VV
   have zM:(Rc cF Lt) (l[a]'hA) (l[((i+j)/2)]'hH):=EF ha (h.lt (Nat.le_refl _) w4 w4 w4 hA hH) w4;refine cg [0,1,4,10,11] ?_;exact T1
  obtain rfl:i=j:=(by omega)
  obtain⟨P,B,Q,x,hP,hl,hiB,hB,Jw⟩:=abG (R:=Rc cF Lt) (l:=l) (a:=a) (m:=m) (b:=b) (i:=i) ht h CJ l9 hjb dH fk;subst hl;have lK:∀t,t≤B.length→(Mv P B Q x (t)).length=ln:=fun t ht=>by rw[ES ht,←fU,ES (Nat.zero_le _)]
  refine ae [0,10,13] ?_;refine eH [0,10] (fun aW _ (t:Nat) aK=>(t≤i-m)∧aK=(⟨220,(13,.v (.int .i64 (a+t:Nat)))::aW,(⟨O,3,cap*1,(Mv P B Q x (t)).flatMap cI⟩::I)⟩:St)) (fun (t:Nat)=>i-m-t) 0 ⟨(Nat.zero_le _),rfl⟩ ?_;rintro t _ ⟨hti,rfl⟩;refine cL [0,10,13,58] ?_;refine aP 2 ?_ (h:=by exact(cX rfl ot bH (fV (r:=((i-1:Nat):Int)) (by rw[show(((i:Nat):Int)-1)=((i-1:Nat):Int) by omega];exact wrap_i64 w4 w4))));refine bG ?_;refine aq (fun bC bW=>?_) (fun bC bW=>?_)
  ·have Lx:t<B.length:=(by omega)
   have ox:=lK t w4;refine CD.skip ?_;refine CD.seq ?_;refine CD.block ?_;refine fF 16 (ap (eraseIdx _ 0)) ?_ (fun _ h=>(Sublist.map _ (eraseIdx_sublist _ 0)).subset h);refine ax 0 rfl bg ?_;refine ax 1 rfl bg ?_;refine ax 2 rfl bg ?_;refine ax 3 rfl bg ?_;refine ax 4 rfl (cX rfl ot bH (jZ (r:=((a+t+1:Nat):Int)) (by rw[show(((a+t:Nat):Int)+1)=((a+t+1:Nat):Int) by omega];exact wrap_i64 w4 w4))) ?_;refine ax 5 rfl bg ?_;refine ax 6 rfl bg ?_;refine ax 7 rfl (cX rfl ot bH (jZ (r:=((a+t+1:Nat):Int)) (by rw[show(((a+t:Nat):Int)+1)=((a+t+1:Nat):Int) by omega];exact wrap_i64 w4 w4))) ?_;refine ax 8 rfl (dx 1 (h:=by first|exact .l (j:=a+t+1) rfl w4|exact .r (j:=a+t+1) rfl w4)) ?_;refine ax 10 rfl bg ?_;refine ax 11 rfl bg ?_;refine ax 12 rfl (dx 1 (h:=by first|exact .l (j:=a+t) rfl w4|exact .r (j:=a+t) rfl w4)) ?_;refine dh.later rfl ?_;refine AD.two (i:=9) (j:=13) ay ?_ ?_
   ·refine at_ rfl eP ?_;refine AD.one (i:=13) ay ?_;exact Vi
   refine at_ rfl eP ?_;refine AD.one (i:=9) ay ?_;exact Vi
  obtain rfl:t=i-m:=(by omega)
  exact F5
 refine cL [0,1,2,3,4,80] ?_;refine aP 2 ?_ (h:=by exact(cX rfl ot ot (fV (r:=((b-m:Nat):Int)) qa)));refine bG ?_;refine aq (fun cx c9=>?_) (fun cx c9=>?_)
 ·have CJ:b=m+1:=(by omega)
  refine ae [0,2,4,14] ?_;refine ae [0,2,4,14,15] ?_;refine eH [0,2,4] (fun aW _ (E:Nat×Nat) aK=>match E with|(i,j)=>(a≤i)∧(i≤j)∧(j≤m)∧((i=a∨∃(p:i-1<l.length) (q:m<l.length),(Rc cF Lt) l[i-1] l[m]))∧((j=m∨∃(p:m<l.length) (q:j<l.length),(Rc cF Lt) l[m] l[j]))∧aK=(⟨220,(14,.v (.int .i64 (i:Nat)))::(15,.v (.int .i64 (j:Nat)))::aW,(⟨O,3,cap*1,(l).flatMap cI⟩::I)⟩:St)) (fun (E:Nat×Nat)=>match E with|(i,j)=>j-i) (a,m) ⟨(Nat.le_refl _),w4,(Nat.le_refl _),(.inl rfl),(.inl rfl),rfl⟩ ?_;rintro⟨i,j⟩ _ ⟨W0,WQ,Ma,dH,fk,rfl⟩;refine ae [0,2,4,14,15,85] ?_;refine aq (fun dN en=>?_) (fun dN en=>?_)
  ·have hh:i<j:=(by omega)
   have hH:((i+j)/2)<l.length:=(by omega)
   have hM:m<l.length:=(by omega)
   refine cL [0,2,4,14,15,16] ?_;refine aP 2 ?_ (h:=by exact(cX rfl ot ot (jZ (r:=((i+j:Nat):Int)) zz)));refine aP 0 ?_ (h:=by exact(n9 rfl ot (oc (r:=((i+j:Nat):Int)) runUnderlying3 runUnderlying211 (IntWalk.u64_in _ w4))));refine aP 0 ?_ (h:=by exact(cX rfl ot bH (yl w7 A9)));refine aP 0 ?_ (h:=by exact(n9 rfl ot (oc (r:=((((i+j)/2):Nat):Int)) runUnderlying211 runUnderlying3 (wrap_i64 w4 w4))));refine bG ?_;refine CD.seq ?_;refine fF 9 (ap (take 1 _)) ?_ (fun _ h=>(Sublist.map _ (take_sublist _ _)).subset h);refine ax 0 rfl bg ?_;refine ax 1 rfl bg ?_;refine ax 2 rfl bg ?_;refine ax 3 rfl (dx 1 (h:=by first|exact .l (j:=m) rfl w4|exact .r (j:=m) rfl w4)) ?_;refine ax 4 rfl eP ?_;refine ax 5 rfl bg ?_;refine ax 6 rfl bg ?_;refine ax 7 rfl (dx 1 (h:=by first|exact .l (j:=((i+j)/2)) rfl w4|exact .r (j:=((i+j)/2)) rfl w4)) ?_;refine ax 8 rfl eP ?_;refine dh.later rfl ?_;refine ey ?_;refine OD.j4 (f:=fc) (args:=[_,_]) (Sf:=I) an rfl rfl ot Z (hc _ _ (hV _ (getElem_mem hM)) (hV _ (getElem_mem hH))) rfl ⟨ot,ot,trivial⟩ (perm_append_singleton _ _).symm ?_;rintro _ S2 ⟨rfl,ik⟩;rw[ik];clear ik;refine OD.perm (perm_append_singleton _ _) ?_;refine aj 220 [0,2,4,14,15,16,103] ?_;refine aq (fun eN fT=>?_) (fun eN fT=>?_)
   ·have wO:(Rc cF Lt) (l[((i+j)/2)]'hH) (l[m]'hM):=EF ha (h.lt w4 w4 (Nat.le_refl _) w4 hH hM) w4;refine cg [0,2,4,14,15] ?_;exact VV
   have zM:(Rc cF Lt) (l[m]'hM) (l[((i+j)/2)]'hH):=Ej fT;refine cg [0,2,4,14,15] ?_;exact T1
  obtain rfl:i=j:=(by omega)
  obtain⟨P,B,Q,x,hP,hl,hiB,hB,Jw⟩:=Z9 (R:=Rc cF Lt) (l:=l) (a:=a) (m:=m) (b:=b) (i:=i) ht h CJ W0 Ma dH fk;subst hl;have lK:∀t,t≤B.length→(Mv P B Q x (t)).length=ln:=fun t ht=>by rw[ES ht,←fU,ES w4]
  refine ae [0,14,17] ?_;refine eH [0,14] (fun aW _ (t:Nat) aK=>(i-a≤t)∧(t≤m-a)∧aK=(⟨220,(17,.v (.int .i64 (a+t:Nat)))::aW,(⟨O,3,cap*1,(Mv P B Q x (t)).flatMap cI⟩::I)⟩:St)) (fun (t:Nat)=>t) (m-a) ⟨w4,(Nat.le_refl _),rfl⟩ ?_;rintro t _ ⟨hti,htm,rfl⟩;refine ae [0,14,17,110] ?_;refine aq (fun eG fZ=>?_) (fun eG fZ=>?_)
  ·obtain⟨t,rfl⟩:∃k,t=k+1:=⟨t-1,by omega⟩
   have Lx:t<B.length:=(by omega)
   have ox:=lK (t+1) w4;refine CD.skip ?_;refine CD.seq ?_;refine CD.block ?_;refine fF 16 (ap (eraseIdx _ 0)) ?_ (fun _ h=>(Sublist.map _ (eraseIdx_sublist _ 0)).subset h);refine ax 0 rfl bg ?_;refine ax 1 rfl bg ?_;refine ax 2 rfl bg ?_;refine ax 3 rfl bg ?_;refine ax 4 rfl (cX rfl ot bH (fV (r:=((a+t:Nat):Int)) Lc)) ?_;refine ax 5 rfl bg ?_;refine ax 6 rfl bg ?_;refine ax 7 rfl (cX rfl ot bH (fV (r:=((a+t:Nat):Int)) Lc)) ?_;refine ax 8 rfl (dx 1 (h:=by first|exact .l (j:=a+t) rfl w4|exact .r (j:=a+t) rfl w4)) ?_;refine ax 10 rfl bg ?_;refine ax 11 rfl bg ?_;refine ax 12 rfl (dx 1 (h:=by first|exact .l (j:=a+t+1) rfl w4|exact .r (j:=a+t+1) rfl w4)) ?_;refine dh.later rfl ?_;refine AD.two (i:=9) (j:=13) ay ?_ ?_
   ·refine at_ rfl eP ?_;refine AD.one (i:=13) ay ?_;exact Vh
   refine at_ rfl eP ?_;refine AD.one (i:=9) ay ?_;exact Vh
  obtain rfl:t=i-a:=(by omega)
  exact F5
 obtain⟨mid,aiF⟩:∃q,q=(a+b)/2:=⟨_,rfl⟩
 refine cL [0,1,2,3,4,18] ?_;refine aP 2 ?_ (h:=by exact(cX rfl ot ot (jZ (r:=((a+b:Nat):Int)) zz)));refine aP 0 ?_ (h:=by exact(n9 rfl ot (oc (r:=((a+b:Nat):Int)) runUnderlying3 runUnderlying211 (IntWalk.u64_in _ w4))));refine aP 0 ?_ (h:=by exact(cX rfl ot bH (yl w7 A9)));refine aP 0 ?_ (h:=by exact(n9 rfl ot (oc (r:=((mid:Nat):Int)) runUnderlying211 runUnderlying3 (by rw[show(((a+b)/2:Nat):Int)=((mid:Nat):Int) by rw[aiF]];exact wrap_i64 w4 w4))));refine bG ?_;refine cL [0,1,2,3,4,18,19] ?_;refine aP 2 ?_ (h:=by exact(cX rfl ot ot (jZ (r:=((mid+m:Nat):Int)) zz)));refine bG ?_;refine ae [0,1,2,3,4,18,19] ?_;refine jI [0,1,2,3,4,18,19] (fun aW uc aK=>∃(s0:Nat),∃(r0:Nat),((mid<m∧s0=mid+m-b∧r0=mid)∨(m≤mid∧s0=a∧r0=m))∧aK=(⟨220,(20,.v (.int .i64 (s0:Nat)))::(21,.v (.int .i64 (r0:Nat)))::aW,uc⟩:St)) ?_ ?_
 ·refine ae [0,1,2,3,4,18,19,140] ?_;refine aq (fun kU tw=>?_) (fun kU tw=>?_)
  ·refine cL [0,1,2,3,4,18,19,20] ?_;refine aP 2 ?_ (h:=by exact(cX rfl ot ot (fV (r:=(((mid+m)-b:Nat):Int)) qa)));refine bG ?_;refine cg [0,1,2,3,4,18,19,20,21] ?_;refine⟨_,aM,(mid+m-b),mid,(.inl ⟨by omega,rfl,rfl⟩),rfl⟩
  refine ae [0,1,2,3,4,18,19,20] ?_;refine cg [0,1,2,3,4,18,19,20,21] ?_;refine⟨_,aM,a,m,(.inr ⟨by omega,rfl,rfl⟩),rfl⟩
 rintro _ ⟨s0,r0,GD,rfl⟩;refine cL [0,1,2,3,4,18,19,20,21,22] ?_;refine aP 1 ?_ (h:=by exact(cX rfl ot bH (fV (r:=(((mid+m)-1:Nat):Int)) (by rw[show((((mid+m):Nat):Int)-1)=(((mid+m)-1:Nat):Int) by omega];exact wrap_i64 w4 w4))));refine bG ?_;refine eH [0,1,2,3,4,18,19,22] (fun aW _ (E:Nat×Nat) aK=>match E with|(s,r)=>(s0≤s)∧(s≤r)∧(r≤r0)∧((s=s0∨∃(p:s-1<l.length) (q:mid+m-s<l.length),(Rc cF Lt) l[s-1] l[mid+m-s]))∧((r=r0∨∃(p:mid+m-r-1<l.length) (q:r<l.length),(Rc cF Lt) l[mid+m-r-1] l[r]))∧aK=(⟨220,(20,.v (.int .i64 (s:Nat)))::(21,.v (.int .i64 (r:Nat)))::aW,(⟨O,3,cap*1,(l).flatMap cI⟩::I)⟩:St)) (fun (E:Nat×Nat)=>match E with|(s,r)=>r-s) (s0,r0) ⟨(Nat.le_refl _),w4,(Nat.le_refl _),(.inl rfl),(.inl rfl),rfl⟩ ?_;rintro⟨s,r⟩ _ ⟨oG,an4,W5,dH,fk,rfl⟩;refine ae [0,1,2,3,4,18,19,20,21,22,151] ?_;refine aq (fun sI wI=>?_) (fun sI wI=>?_)
 ·have hh:s<r:=(by omega)
  have hC:((s+r)/2)<l.length:=(by omega)
  have hQ:(mid+m-1-((s+r)/2))<l.length:=(by omega)
  refine cL [0,1,2,3,4,18,19,20,21,22,23] ?_;refine aP 2 ?_ (h:=by exact(cX rfl ot ot (jZ (r:=((s+r:Nat):Int)) zz)));refine aP 0 ?_ (h:=by exact(n9 rfl ot (oc (r:=((s+r:Nat):Int)) runUnderlying3 runUnderlying211 (IntWalk.u64_in _ w4))));refine aP 0 ?_ (h:=by exact(cX rfl ot bH (yl w7 A9)));refine aP 0 ?_ (h:=by exact(n9 rfl ot (oc (r:=((((s+r)/2):Nat):Int)) runUnderlying211 runUnderlying3 (wrap_i64 w4 w4))));refine bG ?_;refine CD.seq ?_;refine fF 11 (ap (take 1 _)) ?_ (fun _ h=>(Sublist.map _ (take_sublist _ _)).subset h);refine ax 0 rfl bg ?_;refine ax 1 rfl bg ?_;refine ax 2 rfl bg ?_;refine ax 3 rfl bg ?_;refine ax 4 rfl (cX rfl ot ot (fV (r:=(((mid+m-1)-((s+r)/2):Nat):Int)) qa)) ?_;refine ax 5 rfl (dx 1 (h:=by first|exact .l (j:=(mid+m-1-((s+r)/2))) rfl w4|exact .r (j:=(mid+m-1-((s+r)/2))) rfl w4)) ?_;refine ax 6 rfl eP ?_;refine ax 7 rfl bg ?_;refine ax 8 rfl bg ?_;refine ax 9 rfl (dx 1 (h:=by first|exact .l (j:=((s+r)/2)) rfl w4|exact .r (j:=((s+r)/2)) rfl w4)) ?_;refine ax 10 rfl eP ?_;refine dh.later rfl ?_;refine ey ?_;refine OD.j4 (f:=fc) (args:=[_,_]) (Sf:=I) an rfl rfl ot Z (hc _ _ (hV _ (getElem_mem hQ)) (hV _ (getElem_mem hC))) rfl ⟨ot,ot,trivial⟩ (perm_append_singleton _ _).symm ?_;rintro _ S2 ⟨rfl,ik⟩;rw[ik];clear ik;refine OD.perm (perm_append_singleton _ _) ?_
  refine aj 220 [0,1,2,3,4,18,19,20,21,22,23,171] ?_;refine aq (fun th rH=>?_) (fun th rH=>?_)
  ·have aiG:(Rc cF Lt) (l[((s+r)/2)]'hC) (l[(mid+m-1-((s+r)/2))]'hQ):=EF ha (h.lt w4 w4 w4 w4 hC hQ) w4;have wO:(Rc cF Lt) (l[((s+r)/2)+1-1]'w4) (l[mid+m-(((s+r)/2)+1)]'w4):=(by simpa only[show((s+r)/2)+1-1=((s+r)/2) by omega,show mid+m-(((s+r)/2)+1)=(mid+m-1-((s+r)/2)) by omega] using aiG)
   refine cg [0,1,2,3,4,18,19,20,21,22] ?_;refine⟨((((s+r)/2)+1),r),_,cz,aM,w4,w4,w4,(.inr ⟨by omega,by omega,wO⟩),fk,rfl⟩
  have aiH:(Rc cF Lt) (l[(mid+m-1-((s+r)/2))]'hQ) (l[((s+r)/2)]'hC):=Ej rH;have zM:(Rc cF Lt) (l[mid+m-((s+r)/2)-1]'w4) (l[((s+r)/2)]'w4):=(by simpa only[show mid+m-((s+r)/2)-1=(mid+m-1-((s+r)/2)) by omega] using aiH)
  refine cg [0,1,2,3,4,18,19,20,21,22] ?_;refine⟨(s,((s+r)/2)),_,cz,aM,w4,w4,w4,dH,(.inr ⟨by omega,by omega,zM⟩),rfl⟩
 obtain rfl:s=r:=(by omega)
 obtain⟨l1,p8,J6⟩:=ade (R:=Rc cF Lt) (l:=l) (a:=a) (m:=m) (b:=b) (s:=s) (e:=mid+m-s) (mid:=mid) ht h w4 w4 w4 w4 w4 (by rcases dH with q|q;(rcases GD with q2|q2;exact .inr (.inl w4);exact .inl w4);exact .inr (.inr q)) (by rcases fk with q|q;(rcases GD with q2|q2;exact .inl w4;exact .inr (.inl w4));exact .inr (.inr q));have jO:=J6.len.2.2;refine cL [0,1,2,3,4,18,20,24] ?_;refine aP 2 ?_ (h:=by exact(cX rfl ot ot (fV (r:=(((mid+m)-s:Nat):Int)) qa)));refine bG ?_;refine jI [0,1,3,4,18,20,24] (fun aW _ aK=>aK=(⟨220,aW,(⟨O,3,cap*1,(l1).flatMap cI⟩::I)⟩:St)) ?_ ?_
 ·refine aC 4 ?_;refine bS 181 (fun af2 aeO=>?_) (fun af2 aeO=>?_)
  ·refine aY [0,1,2,3,4,18,20,24,185] ?_;refine aq (fun oZ s8=>?_) (fun oZ s8=>?_)
   ·refine dK 5 ?_;refine OD.call (R:=I) an rfl rfl rfl call173 (aeM l l1 ln s m (mid+m-s) cap O (.ek (.func fc) U) [] J6 w4 w4 fU pc w4) ⟨ot,ot,ot,ot,ot,trivial⟩ (Perm.refl _) ?_;rintro _ _ ⟨rfl,rfl⟩;refine aj 220 [0,1,3,4,18,20,24] ?_;refine⟨_,aM,rfl⟩
   exact z105
  refine aY [0,1,2,3,4,18,20,24,185] ?_;refine fG ?_;exact z105
 rintro _ ⟨rfl⟩;refine jI [0,3,4,18,24] (fun aW _ aK=>∃(l2:List Int),(Part (Rc cF Lt) l1 l2 a mid)∧aK=(⟨220,aW,(⟨O,3,cap*1,(l2).flatMap cI⟩::I)⟩:St)) ?_ ?_
 ·refine aC 4 ?_;refine bS 195 (fun af3 aeP=>?_) (fun af3 aeP=>?_)
  ·refine aY [0,1,3,4,18,20,24,199] ?_;refine aq (fun yS Jr=>?_) (fun yS Jr=>?_)
   ·refine dK 5 ?_;refine OD.call (R:=[]) an rfl rfl rfl call148 (ih (mid-a) w4 l1 a s mid rfl (adf p8) w4 w4 (jO.trans fU) (fun z hz=>hV z (p8.perm.subset hz))) ⟨ot,ot,ot,ot,ot,trivial⟩ oA ?_;rintro _ _ ⟨rfl,l2,nV,rfl⟩;refine OD.perm (S':=⟨O,3,cap*1,(l2).flatMap cI⟩::I) oA ?_;refine aj 220 [0,3,4,18,24] ?_;refine⟨_,aM,l2,nV,rfl⟩
   refine CD.skip ?_;refine⟨_,aM,l1,(Qm p8 w4),rfl⟩
  refine aY [0,1,3,4,18,20,24,199] ?_;refine fG ?_;refine CD.skip ?_;refine⟨_,aM,l1,(Qm p8 w4),rfl⟩
 rintro _ ⟨l2,nV,rfl⟩;refine aC 4 ?_;refine bS 209 (fun af4 aeQ=>?_) (fun af4 aeQ=>?_)
 ·refine aY [0,3,4,18,24,213] ?_;refine aq (fun Bq Js=>?_) (fun Bq Js=>?_)
  ·refine dK 5 ?_;refine OD.call (R:=[]) an rfl rfl rfl call148 (ih (b-mid) w4 l2 mid (mid+m-s) b rfl (abF p8 nV) w4 w4 (nV.len.trans (jO.trans fU)) (fun z hz=>hV z (p8.perm.subset (nV.perm.subset hz)))) ⟨ot,ot,ot,ot,ot,trivial⟩ oA ?_;rintro _ _ ⟨rfl,l3,Vx,rfl⟩;refine OD.perm (S':=⟨O,3,cap*1,(l3).flatMap cI⟩::I) oA ?_;refine aj 220 [] ?_;exact F5
  exact F5
 refine aY [0,3,4,18,24,213] ?_;refine fG ?_;refine aJ _ ?_;first|exact⟨rfl,_,Jw,rfl⟩|exact⟨rfl,_,El p8 nV Vx,rfl⟩|exact⟨rfl,_,El p8 nV (NX p8 nV w4),rfl⟩
theorem S4(I cap bd O:Nat)(E:List D)(U:List ag)(cF:Int→Int→Int)(V:Int→Prop)(Lt:Int→Int→Prop)(hc:∀x y,V x→V y→VC Tryz.prog G O ([.v (.int .i64 x),.v (.int .i64 y)]++E) U (fun r S'=>r = .v (.int .i64 (cF x y))∧S'=U))(Z:∀args w,(callFunc O args).run Tryz.prog w = .ok (.enter O args) w)(ht:∀{x y z:Int},Rc cF Lt x y→Rc cF Lt y z→Rc cF Lt x z)(ha:∀x y,0≤cF y x→cF x y≤0)(pc:I≤cap)(qM:cap≤maxLen)(oG:I≤1000000):∀(n:Nat) (l:List Int) (a m b:Nat),b-a=n→pG (Rc cF Lt) Lt l a m b→a<m→m<b→l.length=I→(∀x∈l,V x)→VC Tryz.prog G 148 [.v (.slice (some ⟨bd,0,none⟩) I cap),.v (.int .i64 (a:Nat)),.v (.int .i64 (m:Nat)),.v (.int .i64 (b:Nat)),.ek (.func O) E] (⟨bd,3,cap*1,(l).flatMap cI⟩::U) (fun r S'=>r = .dy []∧∃lz,Part (Rc cF Lt) l lz a b∧S'=⟨bd,3,cap*1,(lz).flatMap cI⟩::U):=fun n=>Nat.strongRecOn n (abJ I cap bd O E U cF V Lt hc Z ht ha pc qM oG)

end Go.Proofs.YtbcmjoaggammcaaGreatDoor.So
namespace Go.Proofs.YtbcmjoaggammcaaGreatDoor.So
/-
  IW,plainly,part 5: at mT am5,in parts of amH.
-/
open List
open Go.Proofs.Tryz
variable {R Lt:Int→Int→Prop} {l l1 cur nl:List Int} {a b m n k:Nat}
theorem HA(h:Part R l l1 a b):l1.drop b=l.drop b:=by
 obtain⟨P,M,E,Q,rfl,rfl,rfl,rfl,hp,_⟩:=h;rw[←append_assoc,drop_left' (by rw[length_append]),←append_assoc,drop_left' (by rw[length_append,hp.length_eq])]
theorem Qn(h:Part R l l1 a a):l1=l:=by
 obtain⟨P,M,E,Q,rfl,rfl,rfl,h1,hp,_⟩:=h;have hl:=hp.length_eq;rw[length_eq_zero_iff.1 (show M.length=0 by omega),length_eq_zero_iff.1 (show E.length=0 by omega)]
theorem H9(h:Part R l l1 0 n)(hn:l.length=n):l1.Perm l∧l1.Pairwise R:=by
 refine⟨h.perm,?_⟩;obtain⟨P,M,E,Q,rfl,rfl,h1,h2,hp,hs⟩:=h;have hl:=hp.length_eq;simp only[length_append] at hn;rw[length_eq_zero_iff.1 h1,length_eq_zero_iff.1 (show Q.length=0 by omega)];simpa using hs
def xK(R:Int→Int→Prop)(l cur:List Int)(k:Nat):Prop:=(k=0∧cur=l)∨(k=1∧Part R l cur 0 20)∨(k=2∧∃l1,Part R l l1 0 20∧Part R l1 cur 20 40)
def FH(R:Int→Int→Prop)(l cur:List Int)(n:Nat):Prop:=∃l1,Part R l l1 0 20∧Part R l1 cur 20 n
theorem xK.perm(h:xK R l cur k):cur.Perm l:=by
 rcases h with ⟨_,rfl⟩|⟨_,h⟩|⟨_,l1,h1,h2⟩
 ·exact .refl _
 ·exact h.perm
 exact h2.perm.trans h1.perm
theorem abK(h:xK R l cur k)(hk:k≤1)(hp:Part R cur nl (20*k) (20*(k+1))):xK R l nl (k+1):=by
 rcases h with ⟨rfl,rfl⟩|⟨rfl,h⟩|⟨rfl,_⟩
 ·exact .inr (.inl ⟨rfl,hp⟩)
 ·exact .inr (.inr ⟨rfl,_,h,hp⟩)
 omega
theorem abL(h:xK R l cur k):cur.drop (20*k)=l.drop (20*k):=by
 rcases h with ⟨rfl,rfl⟩|⟨rfl,h⟩|⟨rfl,l1,h1,h2⟩
 ·rfl
 ·exact HA h
 rw[HA h2];have:=congrArg (drop 20) (HA h1);rw[drop_drop,drop_drop] at this;exact this
theorem adg(h:xK R l cur k)(h1:20*k≤n)(h2:n<20*(k+1))(h3:n≤40)(hl:l.length=n)(hp:Part R cur nl (20*k) n):(n≤20∧nl.Perm l∧nl.Pairwise R)∨(20<n∧FH R l nl n):=by
 rcases h with ⟨rfl,rfl⟩|⟨rfl,h⟩|⟨rfl,l1,E,I⟩
 ·exact .inl ⟨by omega,H9 hp hl⟩
 ·rcases Nat.lt_or_ge 20 n with q|q
  ·exact .inr ⟨q,_,h,hp⟩
  obtain rfl:n=20:=(by omega)
  rw[Qn hp];exact .inl ⟨q,H9 h hl⟩
 obtain rfl:n=40:=(by omega)
 rw[Qn hp];exact .inr ⟨by omega,_,E,I⟩
theorem abM(h:FH R l cur n)(hq:l.Pairwise Lt):pG R Lt cur 0 20 n:=by
 obtain⟨l1,⟨P,M,M0,Q,rfl,rfl,h1,h2,hp,hs⟩,p2⟩:=h;obtain rfl:=length_eq_zero_iff.1 h1;obtain⟨O,U,Z,I,rfl,h4,h5,h6,nV,E⟩:=p2;obtain⟨e1,e2⟩:=append_inj (show M++Q=O++(Z++I) from h4) w4;subst e1 e2;rw[nil_append,pairwise_append] at hq;exact⟨[],M,U,I,by simp,rfl,by omega,by omega,hs,E,fun x hx y hy=>hq.2.2 x (hp.subset hx) y (mem_append_left _ (nV.subset hy))⟩
theorem Qo(h:FH R l cur n)(hp:Part R cur nl 0 n)(hl:l.length=n):nl.Perm l∧nl.Pairwise R:=by
 obtain⟨l1,p1,p2⟩:=h;have:=H9 hp (by rw[p2.len,p1.len,hl]);exact⟨this.1.trans (p2.perm.trans p1.perm),this.2⟩

end Go.Proofs.YtbcmjoaggammcaaGreatDoor.So
namespace Go.Proofs.YtbcmjoaggammcaaGreatDoor.So
open List
open Go.Proofs.Tryz
open Go.RowKit V Tw
variable {G:List (Nat×List Value)}
theorem aaa(I cap U fc:Nat)(O:List D)(Z:List ag)(cF:Int→Int→Int)(V:Int→Prop)(Lt:Int→Int→Prop)(hc:∀x y,V x→V y→VC Tryz.prog G fc ([.v (.int .i64 x),.v (.int .i64 y)]++O) Z (fun r S'=>r = .v (.int .i64 (cF x y))∧S'=Z))(uZ:∀args w,(callFunc fc args).run Tryz.prog w = .ok (.enter fc args) w)(ht:∀{x y z:Int},Rc cF Lt x y→Rc cF Lt y z→Rc cF Lt x z)(ha:∀x y,0≤cF y x→cF x y≤0)(pc:I≤cap)(qM:cap≤maxLen)(oG:I≤40)(l:List Int)(hq:l.Pairwise Lt)(fU:l.length=I)(hV:∀x∈l,V x):VC Tryz.prog G 122 [.v (.slice (some ⟨U,0,none⟩) I cap),.v (.int .i64 (I:Nat)),.ek (.func fc) O] (⟨U,3,cap*1,(l).flatMap cI⟩::Z) (fun r S'=>r = .dy []∧∃(lz:List Int),(lz.Perm l∧lz.Pairwise (Rc cF Lt))∧S'=⟨U,3,cap*1,(lz).flatMap cI⟩::Z):=by
 refine VC.body func122 rfl ntmps122 aO fun X0 w0 aZ=>?_;have dr:maxLen=9223372036854775807:=rfl;refine ae [0,1,2,6] ?_;refine ae [0,1,2,6,7,8] ?_;refine CD.seq ?_;refine CD.block ?_;refine l5 (fun (E:Nat×List Int) aK=>match E with|(k,cur)=>(20*k≤I)∧(xK (Rc cF Lt) l cur k)∧aK=(⟨63,[(0,.v (.slice (some ⟨U,0,none⟩) I cap)),(1,.v (.int .i64 (I:Nat))),(2,.ek (.func fc) O),(6,.v (.int .i64 20)),(7,.v (.int .i64 (20*k:Nat))),(8,.v (.int .i64 (20*(k+1):Nat)))],(⟨U,3,cap*1,(cur).flatMap cI⟩::Z)⟩:St)) (fun (E:Nat×List Int)=>match E with|(k,cur)=>3-k) (0,l) ⟨(Nat.zero_le _),(.inl ⟨rfl,rfl⟩),rfl⟩ (aM (h:=by repeat (first|exact trivial|refine⟨(by (repeat (first|exact fu|(apply fN;focus (first|rfl|(rw[show(20*(k+1):Nat)=20*k+20 by omega];rfl)|(simp;done)|(congr 3;omega)))|(apply fE;focus rfl)));done),?_⟩))) ?_;rintro⟨k,cur⟩ _ ⟨hk,fq,rfl⟩;have kJ:=fq.perm.length_eq;have su:(cur.drop (20*k)).Pairwise Lt:=(by rw[abL fq];exact hq.drop)
 have Dj:∀x∈cur,V x:=fun x hx=>hV x (fq.perm.subset hx);refine ae [0,1,2,6,7,8,13] ?_;refine aq (fun az aG=>?_) (fun az aG=>?_)
 ·have xJ:20*(k+1)≤I:=(by omega)
  refine aC 4 ?_;refine OD.call (R:=[]) an rfl rfl rfl call147 (SZ cur I (20*k) (20*(k+1)) cap U fc O Z cF V Lt Dj hc uZ ht ha su w4 w4 w4 pc qM w4) ⟨ot,ot,ot,ot,trivial⟩ oA ?_;rintro _ _ ⟨rfl,c1,aiI,rfl⟩;refine OD.perm (S':=⟨U,3,cap*1,(c1).flatMap cI⟩::Z) oA ?_;refine aj 63 [0,1,2,6,8] ?_;refine ae [0,1,2,6,7,8] ?_;refine ij [0,1,2,6,7,8] ?_;refine aP 2 ?_ (h:=by exact(cX rfl ot ot (jZ (r:=((20*(k+1+1):Nat):Int)) (by rw[show(((20*(k+1):Nat):Int)+20)=((20*(k+1+1):Nat):Int) by omega];exact wrap_i64 w4 w4))));refine bG ?_;refine⟨((k+1),c1),_,cz,(aM (h:=by repeat (first|exact trivial|refine⟨(by (repeat (first|exact fu|(apply fN;focus (first|rfl|(rw[show(20*(k+1):Nat)=20*k+20 by omega];rfl)|(simp;done)|(congr 3;omega)))|(apply fE;focus rfl)));done),?_⟩))),w4,(abK fq w4 aiI),rfl⟩
 have xJ:I<20*(k+1):=(by omega)
 refine aC 4 ?_;refine OD.call (R:=[]) an rfl rfl rfl call147 (SZ cur I (20*k) I cap U fc O Z cF V Lt Dj hc uZ ht ha su w4 w4 w4 pc qM w4) ⟨ot,ot,ot,ot,trivial⟩ oA ?_;rintro _ _ ⟨rfl,c2,UN,rfl⟩;refine OD.perm (S':=⟨U,3,cap*1,(c2).flatMap cI⟩::Z) oA ?_;have fb:=adg fq hk xJ oG fU UN;have UO:c2.Perm l:=UN.perm.trans fq.perm;refine aj 63 [0,1,2,6] ?_;refine eH [0,1,2] (fun aW _ (E:Nat×List Int) aK=>match E with|(q,cur)=>((q=20∧cur=c2)∨(q=40∧(cur.Perm l∧cur.Pairwise (Rc cF Lt))))∧aK=(⟨63,(6,.v (.int .i64 (q:Nat)))::aW,(⟨U,3,cap*1,(cur).flatMap cI⟩::Z)⟩:St)) (fun (E:Nat×List Int)=>match E with|(q,cur)=>40-q) (20,c2) ⟨(.inl ⟨rfl,rfl⟩),rfl⟩ ?_;rintro⟨q,cur⟩ _ ⟨CK,rfl⟩;refine ae [0,1,2,6,30] ?_;refine aq (fun aH aT=>?_) (fun aH aT=>?_)
 ·obtain⟨rfl,rfl⟩:q=20∧cur=c2:=(by (rcases CK with h|h;exact h;omega))
  have JT:FH (Rc cF Lt) l cur I:=(by (rcases fb with h|h;omega;exact h.2))
  have UP:=abM JT hq;have kJ:=UO.length_eq;have Dj:∀x∈cur,V x:=fun x hx=>hV x (UO.subset hx);refine ae [0,1,2,6,7,8] ?_;refine eH [0,1,2,6] (fun aW _ (E:Nat×List Int) aK=>match E with|(j,c3)=>((j=0∧c3=cur)∨(j=1∧I=40∧(c3.Perm l∧c3.Pairwise (Rc cF Lt))))∧aK=(⟨63,(7,.v (.int .i64 (40*j:Nat)))::(8,.v (.int .i64 (40*(j+1):Nat)))::aW,(⟨U,3,cap*1,(c3).flatMap cI⟩::Z)⟩:St)) (fun (E:Nat×List Int)=>match E with|(j,c3)=>1-j) (0,cur) ⟨(.inl ⟨rfl,rfl⟩),rfl⟩ ?_;rintro⟨j,c3⟩ _ ⟨qc,rfl⟩;refine ae [0,1,2,6,7,8,35] ?_;refine aq (fun aX bw=>?_) (fun aX bw=>?_)
  ·obtain⟨qb,rfl⟩:j=0∧c3=cur:=(by (rcases qc with h|h;exact h;omega))
   have Ks:I=40:=(by omega)
   refine aC 4 ?_;refine bQ (cX rfl ot ot (jZ (r:=((20:Nat):Int)) (by rw[qb];rfl))) ?_;refine aD 2 ?_;have am6:=Ks;refine OD.call (R:=[]) an rfl rfl rfl call148 (S4 I cap U fc O Z cF V Lt hc uZ ht ha pc qM w4 _ c3 (40*j) 20 (40*(j+1)) rfl (by rw[show 40*j=0 by omega,show 40*(j+1)=I by omega];exact UP) w4 w4 w4 Dj) ⟨ot,ot,ot,ot,ot,trivial⟩ oA ?_;rintro _ _ ⟨rfl,c5,aiJ,rfl⟩;refine OD.perm (S':=⟨U,3,cap*1,(c5).flatMap cI⟩::Z) oA ?_;have aiK:Part (Rc cF Lt) c3 c5 0 I:=(by have:=aiJ;rwa [show 40*j=0 by omega,show 40*(j+1)=I by omega] at this)
   refine aj 63 [0,1,2,6,8] ?_;refine ae [0,1,2,6,7,8] ?_;refine cg [0,1,2,6,7,8] ?_;refine⟨(1,c5),_,cz,aM,(.inr ⟨rfl,Ks,Qo JT aiK fU⟩),rfl⟩
  refine CD.exit ?_;refine jI [0,1,2,6] (fun aW _ aK=>∃(c4:List Int),((c4.Perm l∧c4.Pairwise (Rc cF Lt)))∧aK=(⟨63,aW,(⟨U,3,cap*1,(c4).flatMap cI⟩::Z)⟩:St)) ?_ ?_
  ·refine cL [0,1,2,6,7,9] ?_;refine aP 2 ?_ (h:=by exact(cX rfl ot ot (jZ (r:=((40*j+20:Nat):Int)) (by rw[show(((40*j:Nat):Int)+((20:Nat):Int))=((40*j+20:Nat):Int) by omega];exact wrap_i64 w4 w4))));refine bG ?_;refine ae [0,1,2,6,7,9,54] ?_;refine aq (fun bC bW=>?_) (fun bC bW=>?_)
   ·obtain⟨qb,rfl⟩:j=0∧c3=cur:=(by (rcases qc with h|h;exact h;omega))
    refine dK 5 ?_;refine OD.call (R:=[]) an rfl rfl rfl call148 (S4 I cap U fc O Z cF V Lt hc uZ ht ha pc qM w4 _ c3 (40*j) (40*j+20) I rfl (by rw[show 40*j=0 by omega];exact UP) w4 w4 w4 Dj) ⟨ot,ot,ot,ot,ot,trivial⟩ oA ?_;rintro _ _ ⟨rfl,c6,aiL,rfl⟩;refine OD.perm (S':=⟨U,3,cap*1,(c6).flatMap cI⟩::Z) oA ?_;have aiM:Part (Rc cF Lt) c3 c6 0 I:=(by have:=aiL;rwa [show 40*j=0 by omega] at this)
    refine aj 63 [0,1,2,6] ?_;refine⟨_,aM,c6,(Qo JT aiM fU),rfl⟩
   have GD:(c3.Perm l∧c3.Pairwise (Rc cF Lt)):=(by (rcases qc with h|h;omega;exact h.2.2))
   refine CD.skip ?_;refine⟨_,aM,c3,GD,rfl⟩
  rintro _ ⟨c4,cx,rfl⟩;refine cg [0,1,2,6] ?_;refine⟨(40,c4),_,cz,aM,(.inr ⟨rfl,cx⟩),rfl⟩
 have nR:(cur.Perm l∧cur.Pairwise (Rc cF Lt)):=(by (rcases CK with ⟨rfl,rfl⟩|h;(rcases fb with h|h;exact h.2;omega);exact h.2))
 refine aJ _ ?_;exact⟨rfl,_,nR,rfl⟩
theorem adi(O cap U Z:Nat)(E:List D)(I:List ag)(cF:Int→Int→Int)(V:Int→Prop)(Lt:Int→Int→Prop)(hc:∀x y,V x→V y→VC Tryz.prog G Z ([.v (.int .i64 x),.v (.int .i64 y)]++E) I (fun r S'=>r = .v (.int .i64 (cF x y))∧S'=I))(uZ:∀args w,(callFunc Z args).run Tryz.prog w = .ok (.enter Z args) w)(ht:∀{x y z:Int},Rc cF Lt x y→Rc cF Lt y z→Rc cF Lt x z)(ha:∀x y,0≤cF y x→cF x y≤0)(pc:O≤cap)(qM:cap≤maxLen)(oG:O≤40)(l:List Int)(hq:l.Pairwise Lt)(fU:l.length=O)(hV:∀x∈l,V x):VC Tryz.prog G 88 [.v (.slice (some ⟨U,0,none⟩) O cap),.ek (.func Z) E] (⟨U,3,cap*1,(l).flatMap cI⟩::I) (fun r S'=>r = .dy []∧∃(lz:List Int),(lz.Perm l∧lz.Pairwise (Rc cF Lt))∧S'=⟨U,3,cap*1,(lz).flatMap cI⟩::I):=by
 refine VC.body func88 rfl ntmps88 aO fun X0 w0 aZ=>?_;have dr:maxLen=9223372036854775807:=rfl;refine dK 4 ?_;refine OD.call (R:=[]) an rfl rfl rfl call122 (aaa O cap U Z E I cF V Lt hc uZ ht ha pc qM oG l hq fU hV) ⟨ot,ot,ot,trivial⟩ oA ?_;rintro _ _ ⟨rfl,lz,xE,rfl⟩;refine OD.perm (S':=⟨U,3,cap*1,(lz).flatMap cI⟩::I) oA ?_;refine aj 9 [] ?_;refine aJ _ ?_;exact⟨rfl,_,xE,rfl⟩

end Go.Proofs.YtbcmjoaggammcaaGreatDoor.So
namespace Go.Proofs.YtbcmjoaggammcaaGreatDoor.Ba
open List
open Go.Proofs.Tryz
open Go.RowKit V Pk Tr Vl Go.Proofs.YtbcmjoaggammcaaGreatDoor.Nm Pc Cd Ex Tw Go.Proofs.YtbcmjoaggammcaaGreatDoor.So
/-! ### The order of values -/
variable {t:aU} {o n:Nat} {i k:Int}
theorem adj(a b:Vl):gl a b<0↔a.k<b.k∨(a.k=b.k∧(a.n<b.n∨(a.n=b.n∧Go.Lib.compareBytes a.s.data.toList b.s.data.toList<0))):=by
 exact VK
theorem OQ{a b:Vl}(h:gl a b=0):a=b:=by
 unfold gl cmpL iA iA iA iA at h;have hs:a.k=b.k∧a.n=b.n∧Go.Lib.compareBytes a.s.data.toList b.s.data.toList=0:=by
  rcases xR a.k b.k with ⟨h1,h2⟩|⟨h1,h2⟩|⟨h1,h2⟩<;>rcases xR a.n b.n with ⟨k1,k2⟩|⟨k1,k2⟩|⟨k1,k2⟩<;>simp only[h1,k1] at h<;>(repeat' split at h)<;>first|omega|(refine⟨h2,k2,?_⟩;omega)
 obtain⟨e1,e2,E⟩:=hs;obtain⟨k,n,s⟩:=a;obtain⟨k',n',s'⟩:=b;simp only at e1 e2 E;subst e1 e2;rw[Ir (JK.1 E)]
theorem RO{a b c:Vl}(h1:gl a b<0)(h2:gl b c<0):gl a c<0:=by
 rw[adj] at h1 h2 ⊢;rcases h1 with h1|⟨h1,h1|⟨E,h1⟩⟩<;>rcases h2 with h2|⟨h2,h2|⟨I,h2⟩⟩<;>first|omega|(refine .inr ⟨by omega,.inr ⟨by omega,?_⟩⟩;exact mh h1 h2)
def cellAt(t:aU)(o:Nat)(i:Int):Vl:=(rowAt t i).getD o bP
def lA(t:aU)(down:Bool)(o:Nat)(i k:Int):Int:=if down=true then -(gl (cellAt t o i) (cellAt t o k)) else gl (cellAt t o i) (cellAt t o k)
def GF(t:aU)(i k:Int):Prop:=bM (cQ (rowAt t i)) (cQ (rowAt t k))
theorem OR(t:aU)(down:Bool)(o:Nat)(i k:Int):lA t down o k i = -(lA t down o i k):=by
 unfold lA;rw[DM (cellAt t o i) (cellAt t o k)];split<;>omega
theorem adk{down:Bool}{l:Int}(h1:lA t down o i k<0)(h2:lA t down o k l<0):lA t down o i l<0:=by
 unfold lA at *;split at h1
 ·rename_i hd;rw[if_pos hd] at h2 ⊢;have e1:=DM (cellAt t o i) (cellAt t o k);have e2:=DM (cellAt t o k) (cellAt t o l);have E:=DM (cellAt t o i) (cellAt t o l);have:=RO (a:=cellAt t o l) (b:=cellAt t o k) (c:=cellAt t o i) w4 w4;omega
 rename_i hd;rw[if_neg hd] at h2 ⊢;exact RO h1 h2
theorem HB{down:Bool}(h:lA t down o i k=0):cellAt t o i=cellAt t o k:=by
 unfold lA at h;split at h
 ·exact OQ w4
 exact OQ h
theorem RP{down:Bool}(h:cellAt t o i=cellAt t o k)(l:Int):lA t down o i l=lA t down o k l:=by unfold lA;rw[h]
theorem abN{down:Bool}(h:cellAt t o i=cellAt t o k)(l:Int):lA t down o l i=lA t down o l k:=by unfold lA;rw[h]
abbrev vt(t:aU)(down:Bool)(o:Nat):Int→Int→Prop:=Rc (lA t down o) (GF t)
theorem aeR(t:aU)(down:Bool)(o:Nat){x y z:Int}(h1:vt t down o x y)(h2:vt t down o y z):vt t down o x z:=by
 rcases h1 with h1|⟨h1,E⟩<;>rcases h2 with h2|⟨h2,I⟩
 ·exact .inl (adk h1 h2)
 ·exact .inl (by rw[←abN (HB h2)];exact h1)
 ·exact .inl (by rw[RP (HB h1)];exact h2)
 exact .inr ⟨by rw[RP (HB h1)];exact h2,mh E I⟩
theorem abO{down:Bool}{x y:Int}(h1:vt t down o x y)(h2:vt t down o y x):False:=by
 have e:=OR t down o x y;rcases h1 with h1|⟨h1,E⟩<;>rcases h2 with h2|⟨h2,I⟩
 ·omega
 ·omega
 ·omega
 exact j3 _ (mh E I)
noncomputable def JU(t:aU)(down:Bool)(o:Nat)(l:List Int):List Int:=Classical.epsilon fun lz=>lz.Perm l∧lz.Pairwise (vt t down o)
theorem RQ{down:Bool}{l lz:List Int}(h:lz.Perm l∧lz.Pairwise (vt t down o)):lz=JU t down o l:=by
 have hs:=Classical.epsilon_spec (p:=fun lz=>lz.Perm l∧lz.Pairwise (vt t down o)) ⟨lz,h⟩;exact Perm.eq_of_pairwise (fun a b _ _ h1 h2=>(abO h1 h2).elim) h.2 hs.2 (h.1.trans hs.1.symm)
/-! ### What met tells -/
theorem Ef(t:aU)(w:List aV):∀(l:List (K×Int)) (acc:List Int),(my t w acc l).1.Sublist (acc++l.map Prod.snd)
 | [],acc=>by unfold my;simp
 | x::r,acc=>by
  have h1:(my t w acc r).1.Sublist (acc++(x::r).map Prod.snd):=(Ef t w r acc).trans (Sublist.append_left (sublist_cons_self _ _) acc);have h2:(my t w (acc++[x.2]) r).1.Sublist (acc++(x::r).map Prod.snd):=(by have:=Ef t w r (acc++[x.2]);rwa [append_assoc] at this)
  unfold my;split
  ·split
   ·exact nil_sublist _
   split
   ·exact h1
   exact h2
  exact h2
def gg(t:aU)(i:Int):Prop:=0≤i∧∃h:i.toNat<t.rows.length,t.rows[i.toNat]≠[]
theorem abP{i:Nat}{c:Pc.cu}{v:Vl}(h:Pc.lS i c v=0):dB v=0:=by
 unfold Pc.lS at h;split at h
 ·exact h
 rename_i h1;exact Decidable.not_not.1 h1
theorem OS:∀(i:Nat) (cs:List Pc.cu) (vs:List Vl),Pc.ph i cs vs=0→vs.length≤cs.length→∀v∈vs,dB v=0
 | i,c::cs,v::vs,h,hl,w,hw=>by
  unfold Pc.ph at h;split at h
  ·rename_i h1;exact absurd h h1
  rename_i h1;rcases mem_cons.1 hw with rfl|hw
  ·exact abP (Decidable.not_not.1 h1)
  exact OS (i+1) cs vs h (by simpa using hl) w hw
 | _,_,[],_,_,_,hw=>by cases hw
 | _,[],_::_,_,hl,_,_=>by simp at hl
theorem Qp{r:List Vl}(h:Pc.dU dG r=0):∀v∈r,dB v=0:=by
 have h4:=oX h;unfold Pc.dU at h;rw[if_neg Bm,if_neg yR] at h;exact OS 0 dG r h yR
theorem gg.ok(g:eW t n)(h:gg t i):(rowAt t i).length=4∧(∀v∈rowAt t i,v.Ok∧dB v=0):=by
 obtain⟨h0,h1,h2⟩:=h;rw[jo h1];obtain⟨g1,g2,_⟩:=g.row _ h1 h2;exact⟨oX g1,fun v E=>⟨g2 v E,Qp g1 v E⟩⟩
theorem uF(g:eW t n)(w:List aV):∀i∈(au t w).1,gg t i:=fun i hi=>by
 unfold au at hi;split at hi
 ·cases hi
 have h1:=(Ef t w _ []).subset hi;rw[nil_append] at h1;obtain⟨x,hx,rfl⟩:=mem_map.1 h1;obtain⟨h2,h3,h4,_⟩:=g.jn x (Ee x hx);exact⟨h2,h3,h4⟩
theorem Ia(g:eW t n)(w:List aV):(au t w).1.Pairwise (GF t):=by
 unfold au;split
 ·exact Pairwise.nil
 refine Pairwise.sublist (Ef t w _ []) ?_;rw[nil_append,pairwise_map];have hr:(oW t.ix (iD t.av w).1.1 (iD t.av w).1.2).Pairwise fun x y=>bM x.1 y.1:=(ZV g.ix.val _).sublist (takeWhile_sublist _);refine hr.imp_of_mem fun {x y} hx hy h=>?_;obtain⟨_,p1,_,p2⟩:=g.jn x (Ee x hx);obtain⟨_,q1,_,q2⟩:=g.jn y (Ee y hy);unfold GF;rw[jo p1,jo q1,←p2,←q2];exact h
theorem EC(g:eW t n)(w:List aV):(au t w).1.length≤40:=by
 have hp:=Ia g w;have E:=uF g w;have hnd:((au t w).1.map Int.toNat).Nodup:=by
  rw[Nodup,pairwise_map];refine hp.imp_of_mem fun {x y} hx hy h e=>?_;obtain⟨x0,_⟩:=E x hx;obtain⟨y0,_⟩:=E y hy;have:x=y:=(by omega)
  subst this;exact j3 _ h
 have I:∀j∈(au t w).1.map Int.toNat,j∈range t.rows.length:=fun j hj=>by
  obtain⟨x,hx,rfl⟩:=mem_map.1 hj;obtain⟨_,h1,_⟩:=E x hx;exact mem_range.2 h1
 have:=hnd.length_le_of_subset I;rw[length_map,length_range] at this;exact Nat.le_trans this g.eI
variable {G:List (Nat×List Value)} {m:Int}

open Pa (cN bY)
theorem TK:∀x y:K,-1≤Go.Lib.compareBytes x y∧Go.Lib.compareBytes x y≤1
 | [],[]=>⟨by decide,by decide⟩
 | [],_::_=>⟨(by show(-1:Int)≤-1;decide),(by show(-1:Int)≤1;decide)⟩
 | _::_,[]=>⟨(by show(-1:Int)≤1;decide),(by show(1:Int)≤1;decide)⟩
 | a::x,b::y=>by
  have:=TK x y;rw[Gr];repeat' split
  all_goals first|exact this|omega
theorem adm(a b:Vl):-1≤gl a b∧gl a b≤1:=by
 have:=TK a.s.data.toList b.s.data.toList;exact VK
def vu(t:aU)(names:List ByteArray):List Int:=if names.length=0 then (range t.av.length).map Int.ofNat else names.map (bL t.av)
def r8(t:aU)(s:cN):Int:=if (s.order.toList==(⟨#[]⟩:ByteArray).toList)=true then 0 else bL t.av s.order
def uU(MU:Int)(l:List Int):List Int:=if 0≤MU∧MU<l.length then l.take MU.toNat else l
def zj(t:aU)(ats:List Int)(i:Int):List Vl:=ats.map fun c=>(rowAt t i).getD c.toNat bP
noncomputable def vQ(t:aU)(s:cN):List Int:=uU s.gK (JU t s.down (r8 t s).toNat (au t s.ah).1)
noncomputable def pY(t:aU)(s:cN):(List (List Vl)×Int)×Int :=
 if (s.names.any fun n=>decide (bL t.av n<0))=true then (([],0),8)
 else if r8 t s<0 then (([],0),8)
 else if (au t s.ah).2≠0 then (([],0),(au t s.ah).2)
 else if s.count=true then (([[⟨2,(vQ t s).length,⟨#[]⟩⟩]],(vQ t s).length),0)
 else (((vQ t s).map (zj t (vu t s.names)),(vQ t s).length),0)
def Dk(p:(List (List Vl)×Int)×Int):D:=.dy [.agg [.list 1 (p.1.1.flatMap hU) p.1.1.length,.v (.int .i64 p.1.2)],.v (.int .i64 p.2)]
theorem Jo{l:List cu}{nm:ByteArray}:-1≤bL l nm∧bL l nm<l.length:=by
 unfold bL dM;split
 ·rename_i i h;have:=(findIdx?_eq_some_iff_getElem.1 h).1;omega
 omega
theorem adn(t:aU)(g:eW t n)(s:cN)(o:Nat)(ho:o<4)(b2 kE b3:Nat)(i k:Int)(hi:gg t i)(hk:gg t k):VC Tryz.prog G 89 ([.v (.int .i64 i),.v (.int .i64 k)]++[.v (.pointer (some ⟨b2,0,none⟩)),.v (.pointer (some ⟨kE,0,none⟩)),.v (.pointer (some ⟨b3,0,none⟩))]) [⟨b2,48,5,dJ t⟩,⟨kE,3,1,[.v (.int .i64 (o:Nat))]⟩,⟨b3,42,12,bY s⟩] (fun r S=>r = .v (.int .i64 (lA t s.down o i k))∧S=[⟨b2,48,5,dJ t⟩,⟨kE,3,1,[.v (.int .i64 (o:Nat))]⟩,⟨b3,42,12,bY s⟩]):=by
 refine VC.body func89 rfl ntmps89 aO fun X0 w0 aZ=>?_;obtain⟨I,E,lI⟩:=hi;obtain⟨wX,dH,fk⟩:=hk;obtain⟨gi1,O⟩:=gg.ok g ⟨I,E,lI⟩;obtain⟨gk1,U⟩:=gg.ok g ⟨wX,dH,fk⟩;rw[jo E] at gi1 O;rw[jo dH] at gk1 U;have Z:o<(t.rows[i.toNat]'E).length:=(by omega)
 have oM:o<(t.rows[k.toNat]'dH).length:=(by omega)
 have hci:cellAt t o i=(t.rows[i.toNat]'E)[o]:=(by unfold cellAt;rw[jo E,getD_eq_getElem?_getD,getElem?_eq_getElem Z];rfl)
 have GG:cellAt t o k=(t.rows[k.toNat]'dH)[o]:=(by unfold cellAt;rw[jo dH,getD_eq_getElem?_getD,getElem?_eq_getElem oM];rfl)
 have eZ:=Ym (G:=G) (t.rows[i.toNat]'E)[o] (t.rows[k.toNat]'dH)[o] (O _ (getElem_mem Z)).1 (U _ (getElem_mem oM)).1;have nU:mo (t.rows[i.toNat]'E)[o] (t.rows[k.toNat]'dH)[o]=0:=(by unfold mo;rw[if_neg (by simp[(O _ (getElem_mem Z)).2]),(U _ (getElem_mem oM)).2])
 unfold Kr at eZ;rw[nU,if_neg w7] at eZ;have Gk:=adm (t.rows[i.toNat]'E)[o] (t.rows[k.toNat]'dH)[o];unfold dJ bY;have aS:lA t s.down o i k=if s.down=true then -(gl (t.rows[i.toNat]'E)[o] (t.rows[k.toNat]'dH)[o]) else gl (t.rows[i.toNat]'E)[o] (t.rows[k.toNat]'dH)[o]:=by unfold lA;rw[hci,GG]
 refine ae [0,1,2,3,4] ?_;refine cL [4,8] ?_;refine aP 3 ?_ (h:=by exact(dx 1 (h:=by first|exact .l (j:=i.toNat) (Int.toNat_of_nonneg I).symm E|exact .r (j:=i.toNat) (Int.toNat_of_nonneg I).symm E)));refine aP 7 ?_ (h:=by exact(dx 1 (h:=by first|exact .l (j:=k.toNat) (Int.toNat_of_nonneg wX).symm dH|exact .r (j:=k.toNat) (Int.toNat_of_nonneg wX).symm dH)));refine cU (eZ) ?_;refine bG ?_;refine ae [8,31] ?_;refine aq (fun az aG=>?_) (fun az aG=>?_)
 ·have hd:s.down=true:=az;refine cL [7] ?_;refine aP 1 ?_ (h:=by exact(D0 rfl ot (I7 (wrap_i64 w4 w4))));refine bG ?_;refine aJ [_,_,_] ?_;first|(rw[aS,hd,if_pos rfl,←Int.zero_sub];exact⟨rfl,rfl⟩)|(rw[aS,hd,if_neg w7];exact⟨rfl,rfl⟩)
 have hd:s.down=false:=az;refine ae [7] ?_;refine aJ [_,_,_] ?_;first|(rw[aS,hd,if_pos rfl,←Int.zero_sub];exact⟨rfl,rfl⟩)|(rw[aS,hd,if_neg w7];exact⟨rfl,rfl⟩)
theorem adp(ek:D):VP Tryz.prog G 147 [.v (.slice none 0 0),.v (.int .i64 0),.v (.int .i64 0),ek] (.dy []):=by
 refine VC.body func147 rfl ntmps147 aO fun X0 w0 aZ=>?_;refine ae [0,1,2,3,8] ?_;refine eH [0,1,2,3] (fun aW _ (z:Nat) aK=>(True)∧aK=(⟨53,(8,.v (.int .i64 (0+1)))::aW,[]⟩:St)) (fun (z:Nat)=>0) 0 ⟨trivial,rfl⟩ ?_;rintro z _ ⟨_,rfl⟩;refine ae [0,1,2,3,8,14] ?_;refine aq (fun az aG=>?_) (fun az aG=>?_)
 ·exact absurd az (by simp at az)
 exact nA
theorem YL(ek:D):VP Tryz.prog G 122 [.v (.slice none 0 0),.v (.int .i64 0),ek] (.dy []):=by
 refine VC.body func122 rfl ntmps122 aO fun X0 w0 aZ=>?_;refine ae [0,1,2,6] ?_;refine ae [0,1,2,6,7,8] ?_;refine eH [0,1,2,6] (fun aW _ (z:Nat) aK=>(True)∧aK=(⟨63,(7,.v (.int .i64 0))::(8,.v (.int .i64 20))::aW,[]⟩:St)) (fun (z:Nat)=>0) 0 ⟨trivial,rfl⟩ ?_;rintro z _ ⟨_,rfl⟩;refine ae [0,1,2,6,7,8,13] ?_;refine aq (fun az aG=>?_) (fun az aG=>?_)
 ·exact absurd az (by simp at az)
 refine cM [0,1,2,6] (adp ek) ?_;refine eH [0,1,2] (fun aW _ (z:Nat) aK=>(True)∧aK=(⟨63,(6,.v (.int .i64 20))::aW,[]⟩:St)) (fun (z:Nat)=>0) 0 ⟨trivial,rfl⟩ ?_;rintro z _ ⟨_,rfl⟩;refine ae [0,1,2,6,30] ?_;refine aq (fun aH aT=>?_) (fun aH aT=>?_)
 ·exact absurd aH (by simp at aH)
 exact nA
theorem abQ(ek:D):VP Tryz.prog G 88 [.v (.slice none 0 0),ek] (.dy []):=by
 refine VC.body func88 rfl ntmps88 aO fun X0 w0 aZ=>?_;refine ij [] ?_;refine cU (YL ek) ?_;refine jQ ?_;exact nA

end Go.Proofs.YtbcmjoaggammcaaGreatDoor.Ba

namespace Go.Proofs.YtbcmjoaggammcaaGreatDoor.Ba
open List
open Go.Proofs.Tryz
open Go.RowKit V Pk Go.Proofs.YtbcmjoaggammcaaGreatDoor.Tr Go.Proofs.YtbcmjoaggammcaaGreatDoor.Vl Go.Proofs.YtbcmjoaggammcaaGreatDoor.Nm Go.Proofs.YtbcmjoaggammcaaGreatDoor.Pc Go.Proofs.YtbcmjoaggammcaaGreatDoor.Cd Go.Proofs.YtbcmjoaggammcaaGreatDoor.Ex Go.Proofs.YtbcmjoaggammcaaGreatDoor.Tw
open Pa (cN bY)
variable {j sz:Nat} {ds:List D}
section mid
variable {P:Program} {G:List (Nat×List Value)} {x:St} {o:Oper} {t b off:Nat} {y:Operand} {B:ag} {pre c post:List D} {d:D}
theorem aeS(hp:pre.length=off)(hj:c[j]?=some d):(pre++(c++post))[off+j]?=some d:=by
 subst hp;rw[getElem?_append_right w4,Nat.add_sub_cancel_left,getElem?_append_left (List.getElem?_eq_some_iff.1 hj).1];exact hj
theorem Qq{m:List D}(hp:pre.length=off)(hm:pC j c m)(hd:l6 sz m ds):((pre++(c++post)).drop (off+j)).take sz=ds:=by
 subst hp;obtain⟨h1,h2⟩:=hd.eq;have h3:=hm.eq;have hl:j+sz≤c.length∨sz=0:=by
  have:=congrArg length h1;rw[length_take,h2,←h3,length_drop] at this;omega
 rw[←drop_drop,drop_left' rfl];rcases hl with hl|rfl
 ·rw[drop_append_of_le_length w4,h3,take_append_of_le_length (by rw[←h3,length_drop];omega)];exact h1
 rw[List.take_zero];rw[List.take_zero] at h1;exact h1
theorem AO{E:List D}(hp:pre.length=off)(hl:j+ds.length≤c.length)(hc:cZ c j ds=E):cZ (pre++(c++post)) (off+j) ds=pre++(E++post):=by
 subst hp hc;rw[vB _ _ _ hl,vB _ _ _ (by simp only[length_append];omega)];rw[take_append,take_of_length_le w4,Nat.add_sub_cancel_left,take_append_of_le_length w4,Nat.add_assoc,←drop_drop (l:=pre++(c++post)),drop_left' rfl,drop_append_of_le_length w4];simp only[append_assoc]
theorem nZ(k:Nat)(ho:o.op = .load t y:=by exact rfl)(hy:aF x y = .v (.pointer (some ⟨b,off+j,none⟩)):=by exact ot)(ha:qi P t false=true:=by kernel_rfl)(hk:x.S[k]?=some B:=by exact rfl)(hb:B.b=b:=by exact rfl)(dj:B.cs=pre++(c++post):=by exact rfl)(hp:pre.length=off:=by assumption)(hj:c[j]?=some d:=by exact rfl)(hne:isMap B.e=false:=by exact rfl):bV P G x o (.fm k) d :=
 Dy (hne:=hne) ho hy hk hb (iw ha) (by rw[dj];exact aeS hp hj)
theorem wM(k:Nat){m:List D}(ho:o.op = .load t y:=by exact rfl)(hy:aF x y = .v (.pointer (some ⟨b,off+j,none⟩)):=by exact ot)(hn:qh P t sz=true:=by exact Sz.h)(ha:qi P t true=true:=by kernel_rfl)(hk:x.S[k]?=some B:=by exact rfl)(hb:B.b=b:=by exact rfl)(dj:B.cs=pre++(c++post):=by exact rfl)(hp:pre.length=off:=by assumption)(hm:pC j c m:=by exact pV)(hd:l6 sz m ds:=by exact mP)(hne:isMap B.e=false:=by exact rfl):bV P G x o (.fm k) (.agg ds) :=
 Af (hne:=hne) ho hy hk hb (iw ha) (lm hn) hd.eq.2 (by rw[dj];exact Qq hp hm hd)
theorem KN(k:Nat)(ho:o.op = .load t y:=by exact rfl)(hy:aF x y = .v (.pointer (some ⟨b,off,none⟩)):=by exact ot)(hn:qh P t sz=true:=by exact Sz.h)(ha:qi P t true=true:=by kernel_rfl)(hk:x.S[k]?=some B:=by exact rfl)(hb:B.b=b:=by exact rfl)(dj:B.cs=pre++(c++post):=by exact rfl)(hp:pre.length=off:=by assumption)(hd:l6 sz c ds:=by exact mP)(hne:isMap B.e=false:=by exact rfl):bV P G x o (.fm k) (.agg ds) :=
 Af (hne:=hne) ho hy hk hb (iw ha) (lm hn) hd.eq.2 (by rw[dj];exact Qq (j:=0) hp .z hd)
end mid
variable {G:List (Nat×List Value)} {m:Int}
noncomputable def gi(t:aU)(row:List Vl):aU×Int :=
 if Pc.dU t.av row≠0 then (t,Pc.dU t.av row) else if gU t.ix (cQ row) (dz t.ix)=true then (t,9) else if t.rows.length=40 then (t,10)
 else ({t with rows:=t.rows++[row],ix:=gp t.ix (dz t.ix) (cQ row) t.rows.length},0)
def tC(t:aU)(ad:Option Addr)(cap:Nat):List D:=[.v (.string t.nm),.list 2 (t.av.flatMap cC) t.av.length,.v (.slice ad t.rows.length cap),.list 5 (t.ix.af.flatMap cP) t.ix.af.length,.v (.int .i64 t.ix.root)]
abbrev u0(t:aU)(ad:Option Addr)(cap:Nat)(S:List ag):Prop:=bq 27 1 (t.rows.flatMap hU) t.rows.length ad cap S
theorem ux{r:List Vl}(h:Pc.dU dG r=0):1≤(cQ r).length∧(cQ r).length≤100:=by
 refine⟨?_,RI _⟩;have h4:=oX h;have hz:=Qp h;match r,h4 with
 | [a,b,c,d],_ =>
  have ha:dB a=0:=hz a mem_cons_self;unfold cQ fL;rw[if_neg bu,if_neg (by simp[rT,ha])];have hl:(fP [a]).length≤43:=(by have:=D6 (l:=[a]) (fun v E=>by rw[mem_singleton] at E;rw[E];exact ha);simpa using this)
  rw[if_neg (by show ¬(fP [a]).length>100;omega)];show 1≤(fP [a]).length;unfold fP Cd.uP;simp

theorem YM:(Tryz.prog.info? 27).map (fun i=>(i.zero,i.size,i.bytes))=some (some (.slice none 0 0),1,24):=by kernel_rfl

theorem Hx(hm:(3,marksC)∈G)(hw:(2,wordsC)∈G)(ht:(0,typesC)∈G)(hG:(1,[Value.int .i64 m])∈G)(t:aU){n:Nat}(g:eW t n)(hn:n≤300)(row:List Vl)(rf:row.length≤1000)(aQ:∀v∈row,v.Ok)(bt off I:Nat)(pre post:List D)(hp:pre.length=off)(ad:Option Addr)(cap:Nat)(Sr:List ag)(Z:u0 t ad cap Sr):VC Tryz.prog G 49 [.v (.pointer (some ⟨bt,off,none⟩)),.list 3 (row.flatMap cV) row.length] (⟨bt,48,I,pre++(tC t ad cap++post)⟩::Sr) (fun r S=>r = .v (.int .i64 (gi t row).2)∧((gi t row).2=0→∃nB E n8,u0 (gi t row).1 nB E n8∧S=⟨bt,48,I,pre++(tC (gi t row).1 nB E++post)⟩::n8)):=by
 refine VC.body func49 rfl ntmps49 aO fun X0 w0 aZ=>?_;have hko:=fun h=>ux (r:=row) h;have xL:=Jd (G:=G) hm hw ht t.av wS wR row (Nat.le_trans rf w7);have dr:maxLen=9223372036854775807:=rfl;have mw:=g.eI;unfold tC;refine ae [0,1] ?_;refine cL [0,1,5] ?_;refine aP 3 ?_ (h:=by exact(nZ 0));refine cU (xL) ?_;refine bG ?_;refine ae [0,1,5,17] ?_;refine aq (fun az aG=>?_) (fun az aG=>?_)
 ·have hne:Pc.dU t.av row≠0:=(by simpa using az)
  have aS:gi t row=(t,Pc.dU t.av row):=if_pos hne;refine ae [4] ?_;refine aJ [] ?_;rw[aS];exact⟨rfl,fun h=>absurd h hne⟩
 have hz:Pc.dU t.av row=0:=(by simpa using az)
 have Cm:Pc.dU dG row=0:=(by rw[←g.av];exact hz)
 have dR:=hko Cm;have hr4:=oX Cm;have O:=yy (G:=G) hG row w4 w4 aQ;refine CD.skip ?_;refine CD.seq ?_;refine CD.seq ?_;rcases iI:gU t.ix (cQ row) (dz t.ix) with _|_
 ·have fj:=EQ (G:=G) g.ix (cQ row);rw[ac8 g.ix dR iI] at fj;unfold Tw.cT at fj;have U:=Qi (G:=G) g.ix (cQ row) (t.rows.length:Int);rw[SU g.ix hn dR w4 iI] at U;unfold Tw.cT at U;refine ij [0,1,7] ?_;refine aP 3 ?_ (h:=by exact(wM 0));refine cU (O) ?_;refine cU (fj) ?_;refine bG ?_;refine ae [0,1,30] ?_;refine aq (fun aH aT=>?_) (fun aH aT=>?_)
  ·exact absurd aH (by simp at aH)
  refine cL [0,1,36] ?_;refine aP 3 ?_ (h:=by exact(nZ 0));refine bG ?_;refine aq (fun aX bw=>?_) (fun aX bw=>?_)
  ·have aS:gi t row=(t,10):=(by unfold gi;rw[if_neg (by simp[hz]),if_neg wT,if_pos w4])
   refine ae [4] ?_;refine aJ [] ?_;rw[aS];exact⟨rfl,fun h=>absurd (show(10:Int)=0 from h) w7⟩
  have aS:gi t row=({t with rows:=t.rows++[row],ix:=gp t.ix (dz t.ix) (cQ row) t.rows.length},0):=(by unfold gi;rw[if_neg (by simp[hz]),if_neg wT,if_neg w4])
  refine CD.skip ?_;refine CD.seq ?_;refine tO 16 15 [0,1,8,50,51] ?_;refine aP 3 ?_ (h:=by exact(wM 0));refine cU (O) ?_;refine aP 3 ?_ (h:=by exact(nZ 0));refine cU (U) ?_;refine mX 3 ?_;refine qW ?_;refine jQ ?_;refine⟨rfl,fun b8=>?_⟩;refine aN 0 [_,_] sizeOf46 ?_;refine aj 70 [0,1,8,9] ?_;refine ae [0,1,8,9,53] ?_;refine aq (fun bC bW=>?_) (fun bC bW=>?_)
  ·exact absurd bC (by simp at bC)
  refine aC 4 ?_;refine OD.storeAt (k:=1) (cs':=pre++([.v (.string t.nm),.list 2 (t.av.flatMap cC) t.av.length,.v (.slice ad t.rows.length cap),.list 5 ((gp t.ix (dz t.ix) (cQ row) t.rows.length).af.flatMap cP) (gp t.ix (dz t.ix) (cQ row) t.rows.length).af.length,.v (.int .i64 (gp t.ix (dz t.ix) (cQ row) t.rows.length).root)]++post)) an rfl rfl ot rfl rfl ot rfl rfl sizeOf46 rfl (by show off+3+2≤(pre++(([.v (.string t.nm),.list 2 (t.av.flatMap cC) t.av.length,.v (.slice ad t.rows.length cap),.list 5 (t.ix.af.flatMap cP) t.ix.af.length,.v (.int .i64 t.ix.root)]:List D)++post)).length;simp only[length_append,length_cons,length_nil];omega) (by exact AO (j:=3) hp aO rfl) ?_;refine aj 70 [0,1] ?_;refine CD.seq ?_;refine fF 9 (ap (take 2 _)) ?_ (fun _ h=>(Sublist.map _ (take_sublist _ _)).subset h);refine ax 0 rfl bg ?_;refine ax 1 rfl bg ?_;refine ax 2 rfl lC ?_;refine ax 3 rfl (cY 2) ?_;refine ax 4 rfl (nZ 1) ?_;refine ax 5 rfl bg ?_;refine dh.later rfl ?_;refine AD.one (i:=6) ay ?_;refine ju call39 (Z3 row w4) ?_;refine AD.one (i:=7) ay ?_;refine jf (cc 0 [_]) [.slice none 0 0] [_] zeroValue27 runUnderlying33 sizeOf27 (fun oK=>?_);refine jg 0 66 1 1 ?_;refine AD.one (i:=8) ay ?_;refine bf.ee (ls:=t.rows) (new:=[row]) (Sq:=Sr) kN abz rfl an rfl rfl underlying33 YM rfl w7 ot Z (dA (A:=[_,_])) ot bu nv nw (fun qd qI Fj Fk=>?_)
  refine AD.perm (dV (S1:=[⟨qd,27,qI*1,flatMap hU (t.rows++[row])⟩]) (A:=[_,_])) ?_;refine ey ?_;refine aD 2 ?_;refine OD.storeAt (k:=1) (cs':=pre++((([.v (.string t.nm),.list 2 (t.av.flatMap cC) t.av.length,.v (.slice ad t.rows.length cap),.list 5 ((gp t.ix (dz t.ix) (cQ row) t.rows.length).af.flatMap cP) (gp t.ix (dz t.ix) (cQ row) t.rows.length).af.length,.v (.int .i64 (gp t.ix (dz t.ix) (cQ row) t.rows.length).root)]:List D)).set 2 (.v (.slice (some ⟨qd,0,none⟩) ((t.rows++[row])).length qI))++post)) an rfl rfl ot rfl rfl ot rfl rfl sizeOf33 rfl (by show off+2+1≤(pre++(([.v (.string t.nm),.list 2 (t.av.flatMap cC) t.av.length,.v (.slice ad t.rows.length cap),.list 5 ((gp t.ix (dz t.ix) (cQ row) t.rows.length).af.flatMap cP) (gp t.ix (dz t.ix) (cQ row) t.rows.length).af.length,.v (.int .i64 (gp t.ix (dz t.ix) (cQ row) t.rows.length).root)]:List D)++post)).length;simp only[length_append,length_cons,length_nil];omega) (by exact AO (j:=2) hp aO rfl) ?_;refine aj 70 [] ?_;refine ae [4] ?_;refine aJ (⟨bt,48,I,pre++(_++post)⟩::[⟨qd,27,qI*1,flatMap hU (t.rows++[row])⟩]) ?_;rw[aS];exact⟨rfl,fun _=>⟨(some ⟨qd,0,none⟩),qI,[⟨qd,27,qI*1,flatMap hU (t.rows++[row])⟩],(bI Fj Fk),rfl⟩⟩
 obtain⟨rw0,aiN⟩:=(Ar g.ix (cQ row)).1 iI;have fj:=EQ (G:=G) g.ix (cQ row);rw[H8 g.ix dR aiN] at fj;unfold Tw.cT at fj;have aS:gi t row=(t,9):=(by unfold gi;rw[if_neg (by simp[hz]),if_pos iI])
 refine ij [0,1,7] ?_;refine aP 3 ?_ (h:=by exact(wM 0));refine cU (O) ?_;refine cU (fj) ?_;refine bG ?_;refine ae [0,1,30] ?_;refine aq (fun aH aT=>?_) (fun aH aT=>?_)
 ·refine ae [4] ?_;refine aJ [] ?_;rw[aS];exact⟨rfl,fun h=>absurd (show(9:Int)=0 from h) w7⟩
 exact absurd aH (by simp at aH)

end Go.Proofs.YtbcmjoaggammcaaGreatDoor.Ba

namespace Go.Proofs.YtbcmjoaggammcaaGreatDoor.Ba
open List
open Go.Proofs.Tryz
open Go.RowKit V Pk Tr Vl Go.Proofs.YtbcmjoaggammcaaGreatDoor.Nm Pc Cd Ex Tw
open Pa (cN bY)
variable {G:List (Nat×List Value)} {m:Int}
variable {t:aU} {n:Nat} {i:Int}
theorem IZ{t:aE}(g:iy t n){x y:K×Int}(hx:x∈gD t)(hy:y∈gD t)(h:x.1=y.1):x=y:=by
 have hr:(gD t).Pairwise (fun a b=>bM a.1 b.1):=Hu g.val;obtain⟨i,hi,rfl⟩:=mem_iff_getElem.1 hx;obtain⟨j,hj,rfl⟩:=mem_iff_getElem.1 hy;have hp:=pairwise_iff_getElem.1 hr;rcases Nat.lt_trichotomy i j with q|q|q
 ·have:=hp i j hi hj q;rw[h] at this;exact absurd this (j3 _)
 ·subst q;rfl
 have:=hp j i hj hi q;rw[h] at this;exact absurd this (j3 _)
theorem gg.jn(g:eW t n)(h:gg t i):(cQ (rowAt t i),i)∈gD t.ix:=by
 obtain⟨h0,h1,h2⟩:=h;have:=(g.row _ h1 h2).2.2;rw[jo h1];rwa [Int.toNat_of_nonneg h0] at this
noncomputable def nu(t:aU)(i:Int):aU:={t with rows:=t.rows.set i.toNat [],ix:=gq t.ix (dz t.ix) (cQ (rowAt t i))}
noncomputable def qN:aU→List Int→aU
 | t,[]=>t
 | t,i::r=>qN (nu t i) r
noncomputable def mg(t:aU)(w:List aV):aU×Int×Int:=if (au t w).2≠0 then (t,0,(au t w).2) else (qN t (au t w).1,(au t w).1.length,0)
theorem aeT(g:eW t n)(h:gg t i):iy (gq t.ix (dz t.ix) (cQ (rowAt t i))) n∧∀x,x∈gD (gq t.ix (dz t.ix) (cQ (rowAt t i)))↔x∈gD t.ix∧x.1≠cQ (rowAt t i) :=
 H7 g.ix ((Aq g.ix.val _).2 ⟨i,h.jn g⟩)
theorem OT(g:eW t n)(h:gg t i):eW (nu t i) n:=by
 obtain⟨d1,d2⟩:=aeT g h;have I:=h.jn g;obtain⟨h0,h1,h2⟩:=h;refine⟨g.nm,g.av,by show(t.rows.set _ _).length≤40;rw[length_set];exact g.eI,d1,fun j hj hne=>?_,fun x hx=>?_⟩
 ·simp only[nu] at hj hne ⊢;rw[length_set] at hj;rw[getElem_set] at hne;split at hne
  ·exact absurd rfl hne
  rename_i E;have he:(t.rows.set i.toNat [])[j]'wP=t.rows[j]:=getElem_set_ne E _;rw[he];obtain⟨p1,p2,p3⟩:=g.row j hj hne;refine⟨p1,p2,(d2 _).2 ⟨p3,fun e=>?_⟩⟩;have:=IZ g.ix p3 I e;simp only[Prod.mk.injEq] at this;omega
 obtain⟨x1,O⟩:=(d2 x).1 hx;obtain⟨p0,p1,p2,p3⟩:=g.jn x x1;have E:i.toNat≠x.2.toNat:=fun e=>by
  refine O ?_;rw[p3,jo h1];congr 1;simp only[e]
 refine⟨p0,by show _<(t.rows.set _ _).length;rw[length_set];exact p1,?_⟩;have he:(t.rows.set i.toNat [])[x.2.toNat]'(by rw[length_set];exact p1)=t.rows[x.2.toNat]:=getElem_set_ne E _;show(t.rows.set i.toNat [])[x.2.toNat]'(by rw[length_set];exact p1)≠[]∧x.1=cQ ((t.rows.set i.toNat [])[x.2.toNat]'(by rw[length_set];exact p1));rw[he];exact⟨p2,p3⟩
theorem RR{j:Int}(h:gg t j)(E:j≠i)(hi:0≤i):gg (nu t i) j:=by
 obtain⟨h0,h1,h2⟩:=h;refine⟨h0,by show _<(t.rows.set _ _).length;rw[length_set];exact h1,?_⟩;show(t.rows.set i.toNat [])[j.toNat]'(by rw[length_set];exact h1)≠[];have e:=getElem_set_ne (l:=t.rows) (i:=i.toNat) (j:=j.toNat) (a:=[]) w4 (by rw[length_set];exact h1);rw[e];exact h2
theorem DV(g:eW t n)(w:List aV):(au t w).1.Nodup:=(Ia g w).imp fun h e=>by rw[e] at h;exact j3 _ h
theorem aab(hm:(3,marksC)∈G)(hw:(2,wordsC)∈G)(ht:(0,typesC)∈G)(hG:(1,[Value.int .i64 m])∈G)(t:aU)(g:eW t n)(s:cN)(ho:∀o∈s.ah,o.nm.size≤maxLen)(fI:∀o∈s.ah,o.v.Ok)(bt off pH:Nat)(pre post:List D)(hp:pre.length=off)(ad:Option Addr)(cap:Nat)(Sr:List ag)(kf:u0 t ad cap Sr):VC Tryz.prog G 52 [.v (.pointer (some ⟨bt,off,none⟩)),.agg (bY s)] (⟨bt,48,pH,pre++(tC t ad cap++post)⟩::Sr) (fun r S=>r = .dy [.v (.int .i64 (mg t s.ah).2.1),.v (.int .i64 (mg t s.ah).2.2)]∧((mg t s.ah).2.2=0→∃nB kg n8,u0 (mg t s.ah).1 nB kg n8∧S=⟨bt,48,pH,pre++(tC (mg t s.ah).1 nB kg++post)⟩::n8)):=by
 refine VC.body func52 rfl ntmps52 aO fun X0 w0 aZ=>?_;have dr:maxLen=9223372036854775807:=rfl;have mw:=g.eI;have Dl:=EC g s.ah;have l9:=uF g s.ah;have hnd:=DV g s.ah;unfold tC;unfold bY;refine cj ?_;refine OD.box (ds:=[_,_,_,_,_,_,_,_,_,_,_,_]) an rfl rfl ot rfl rfl (fun b3=>?_);refine aj 56 [0,3] ?_;refine CD.seq ?_;refine fF 9 (ap (take 2 _)) ?_ (fun _ h=>(Sublist.map _ (take_sublist _ _)).subset h);refine ax 0 rfl bg ?_;refine ax 1 rfl lC ?_;refine ax 2 rfl (KN 1) ?_;refine ax 3 rfl (cY 6) ?_;refine ax 4 rfl (dw 0) ?_;refine dh.later rfl ?_;refine AD.one (i:=5) ay ?_;refine bf.JF rfl an rfl rfl rfl call87 (Jn hm hw ht hG t g s.ah ho fI) (fun r S h=>h.flat) ⟨⟨_,ot,(um ⟨eL,eL,kZ kf (cr kN _) (fun B hB=>by simp[hB]),eL,eL,trivial⟩:View _ (.agg [.v (.string t.nm),.list 2 (t.av.flatMap cC) t.av.length,.v (.slice ad t.rows.length cap),.list 5 (t.ix.af.flatMap cP) t.ix.af.length,.v (.int .i64 t.ix.root)]) (.agg (dJ t)))⟩,⟨_,ot,eL⟩,trivial⟩ ?_;rintro _ Sx ⟨dQ,dD,rfl,ec⟩;refine AD.perm (iW (A:=[_,_])) ?_;refine cq 6 rfl bg ?_;refine cq 7 rfl LN ?_;refine cq 8 rfl LN ?_;refine ey ?_;refine aY [0,6,7] ?_;refine ae [0,6,7,20] ?_;refine aq (fun az aG=>?_) (fun az aG=>?_)
 ·have hne:(au t s.ah).2≠0:=(by simpa using az)
  have aS:mg t s.ah=(t,0,(au t s.ah).2):=if_pos hne;refine ae [4,5] ?_;refine aJ [] ?_;rw[aS];exact⟨rfl,fun h=>absurd h hne⟩
 have hz:(au t s.ah).2=0:=(by simpa using az)
 have aS:mg t s.ah=(qN t (au t s.ah).1,((au t s.ah).1.length:Int),0):=if_neg (fun h=>h hz);refine CD.skip ?_;refine CD.seq ?_;refine CD.seq ?_;refine CD.gW (t:=6) (Sq:=Sx) lk ec (cr Tw.eu _) (oe (A:=[_,_])) ?_;refine sF ?_;refine aY [0,6,22,23,24] ?_;refine eH [0,6,22,23] (fun aW _ (U:Nat×aU×Option Addr×Nat×List ag) aK=>match U with|(k,u,Z,E,O)=>(k≤(au t s.ah).1.length)∧(qN u ((au t s.ah).1.drop k)=qN t (au t s.ah).1)∧(eW u n)∧(∀i∈(au t s.ah).1.drop k,gg u i)∧(u0 u Z E O)∧aK=(⟨56,(24,.v (.int .i64 (k:Nat)))::aW,(⟨b3,42,12,bY s⟩::⟨bt,48,pH,pre++([.v (.string u.nm),.list 2 (u.av.flatMap cC) u.av.length,.v (.slice Z u.rows.length E),.list 5 (u.ix.af.flatMap cP) u.ix.af.length,.v (.int .i64 u.ix.root)]++post)⟩::O)⟩:St)) (fun (U:Nat×aU×Option Addr×Nat×List ag)=>match U with|(k,u,Z,E,O)=>(au t s.ah).1.length-k) (0,t,ad,cap,Sr) ⟨(Nat.zero_le _),rfl,g,l9,kf,rfl⟩ ?_;rintro⟨k,u,Z,E,O⟩ _ ⟨hk,UQ,gu,jV,vv,rfl⟩;refine ae [0,6,22,23,24,25] ?_;refine aq (fun aH aT=>?_) (fun aH aT=>?_)
 ·have aa:k<(au t s.ah).1.length:=(by omega)
  have jh:(au t s.ah).1.drop k=((au t s.ah).1[k]'aa)::(au t s.ah).1.drop (k+1):=drop_eq_getElem_cons aa;have rm:gg u ((au t s.ah).1[k]'aa):=jV _ (by rw[jh];exact mem_cons_self);obtain⟨gJ,I,oN⟩:=id rm;obtain⟨br,rfl,tT,tU,rfl⟩:=vv.pos w4;have gu2:=OT gu rm;have fU:(nu u ((au t s.ah).1[k]'aa)).rows.length=u.rows.length:=length_set;have af5:qN (nu u ((au t s.ah).1[k]'aa)) ((au t s.ah).1.drop (k+1))=qN t (au t s.ah).1:=(by rw[←UQ,jh];rfl)
  have KD:∀i∈(au t s.ah).1.drop (k+1),gg (nu u ((au t s.ah).1[k]'aa)) i:=fun i hi=>RR (jV i (by rw[jh];exact mem_cons_of_mem _ hi)) (fun e=>by subst e;have h9:=hnd.sublist (drop_sublist k _);rw[jh,nodup_cons] at h9;exact h9.1 hi) gJ;have BW:u0 (nu u ((au t s.ah).1[k]'aa)) (some ⟨br,0,none⟩) E [⟨br,27,E*1,(nu u ((au t s.ah).1[k]'aa)).rows.flatMap hU⟩]:=bI (by show(u.rows.set _ _).length≤_;rw[length_set];exact tT) tU;obtain⟨W6,Dm⟩:=gg.ok gu rm;have rp:=yy (G:=G) hG (u.rows[((au t s.ah).1[k]'aa).toNat]) (by rw[←jo I];omega) (by rw[←jo I];omega) (fun v hv=>(Dm v (by rw[jo I];exact hv)).1);rw[show cQ (u.rows[((au t s.ah).1[k]'aa).toNat])=cQ (rowAt u ((au t s.ah).1[k]'aa)) from by rw[jo I]] at rp;have xM:=Qj (G:=G) gu.ix (cQ (rowAt u ((au t s.ah).1[k]'aa)));rw[RB gu.ix (ux (by rw[jo I];exact(gu.row _ I oN).1)) ((Ar gu.ix _).2 ⟨_,rm.jn gu⟩)] at xM;unfold Tw.cT at xM;have am7:=gu.eI;refine ae [0,6,9,22,23,24] ?_;refine CD.seq ?_;refine lX 17 [0,6,9,22,23,24,29,43] ?_;refine aP 4 ?_ (h:=by exact(wM 1));refine aP 3 ?_ (h:=by exact(nZ 1));refine aP 1 ?_ (h:=by exact(dx 1 (h:=by first|exact .l (j:=((au t s.ah).1[k]'aa).toNat) (Int.toNat_of_nonneg gJ).symm I|exact .r (j:=((au t s.ah).1[k]'aa).toNat) (Int.toNat_of_nonneg gJ).symm I)))
  refine aP 0 ?_ (h:=by exact(cH (mk:=Op.load 27) rfl ot (iL (k:=2) (i:=((au t s.ah).1[k]'aa).toNat) (ls:=u.rows) kN rfl rfl rfl isAgg27 I rfl)));refine cU (rp) ?_;refine cU (xM) ?_;refine bG ?_;refine aD 2 ?_;refine OD.storeAt (k:=1) (cs':=pre++([.v (.string u.nm),.list 2 (u.av.flatMap cC) u.av.length,.v (.slice (some ⟨br,0,none⟩) (nu u ((au t s.ah).1[k]'aa)).rows.length E),.list 5 ((nu u ((au t s.ah).1[k]'aa)).ix.af.flatMap cP) (nu u ((au t s.ah).1[k]'aa)).ix.af.length,.v (.int .i64 (nu u ((au t s.ah).1[k]'aa)).ix.root)]++post)) an rfl rfl ot rfl rfl ot rfl rfl sizeOf46 rfl (by show off+3+2≤(pre++(([.v (.string u.nm),.list 2 (u.av.flatMap cC) u.av.length,.v (.slice (some ⟨br,0,none⟩) u.rows.length E),.list 5 (u.ix.af.flatMap cP) u.ix.af.length,.v (.int .i64 u.ix.root)]:List D)++post)).length;simp only[length_append,length_cons,length_nil];omega) (by exact AO (j:=3) hp aO (by rw[fU];rfl)) ?_;refine aj 56 [0,6,9,22,23,24] ?_;refine dK 3 ?_;refine bQ (nZ 1) ?_;refine aD 1 ?_;refine bQ (dx 1 (h:=by first|exact .l (j:=((au t s.ah).1[k]'aa).toNat) (Int.toNat_of_nonneg gJ).symm (by rw[fU];exact I)|exact .r (j:=((au t s.ah).1[k]'aa).toNat) (Int.toNat_of_nonneg gJ).symm (by rw[fU];exact I))) ?_
  refine OD.storeAt (k:=2) (cs':=(u.rows.flatMap hU).set ((au t s.ah).1[k]'aa).toNat (.v (.slice none 0 0))) an rfl rfl ot rfl rfl bH rfl rfl sizeOf27 rfl (by show 0+((au t s.ah).1[k]'aa).toNat*1+1≤(u.rows.flatMap hU).length;rw[cr kN];omega) (by show(u.rows.flatMap hU).set (0+((au t s.ah).1[k]'aa).toNat*1) _=_;rw[Nat.zero_add,Nat.mul_one]) ?_;refine OD.cells (k:=2) (cs':=(nu u ((au t s.ah).1[k]'aa)).rows.flatMap hU) (S':=[_,_,_]) rfl (by have:=QZ (fY (sz:=3)) (u.rows.flatMap hU) ((au t s.ah).1[k]'aa).toNat;rw[show(u.rows.flatMap hU).set ((au t s.ah).1[k]'aa).toNat (.list 3 [] 0)=(u.rows.set ((au t s.ah).1[k]'aa).toNat []).flatMap hU from by have:=og kN u.rows [] I;rw[Nat.mul_one] at this;exact this] at this;exact this) rfl ?_;refine aj 56 [0,6,22,23,24] ?_;refine cg [0,6,22,23,24] ?_;refine⟨((k+1),(nu u ((au t s.ah).1[k]'aa)),(some ⟨br,0,none⟩),E,[⟨br,27,E*1,(nu u ((au t s.ah).1[k]'aa)).rows.flatMap hU⟩]),_,cz,aM,w4,af5,gu2,KD,BW,rfl⟩
 have nR:u=qN t (au t s.ah).1:=(by rw[←UQ,drop_of_length_le w4];rfl)
 subst nR;refine ae [4,5] ?_;refine aJ (⟨bt,48,pH,pre++(_++post)⟩::O) ?_;rw[aS];exact⟨rfl,fun _=>⟨Z,E,O,vv,rfl⟩⟩

end Go.Proofs.YtbcmjoaggammcaaGreatDoor.Ba
namespace Go.Proofs.YtbcmjoaggammcaaGreatDoor.Ba
open List
open Go.Proofs.Tryz
open Go.RowKit V Pk Tr Vl Go.Proofs.YtbcmjoaggammcaaGreatDoor.Nm Pc Cd Ex Tw
open Pa (cN bY)
variable {ops:List aV} {row:List Vl}
theorem Ib:∀(i:Nat) (cs:List cu) (vs:List Vl),cs.length=vs.length→(Pc.ph i cs vs=0↔∀j (h1:j<cs.length) (h2:j<vs.length),Pc.lS (i+j) cs[j] vs[j]=0)
 | _,[],[],_=>⟨fun _ j h1=>absurd h1 (Nat.not_lt_zero j),fun _=>rfl⟩
 | _,[],_::_,h=>by cases h
 | _,_::_,[],h=>by cases h
 | i,c::cs,v::vs,h=>by
  rw[Pc.ph];have E:=Ib (i+1) cs vs (Nat.succ.inj h);by_cases he:Pc.lS i c v=0
  ·rw[if_neg (fun h=>h he),E];constructor
   ·intro k j h1 h2;cases j with
    | zero=>exact he
    | succ j=>have:=k j (Nat.lt_of_succ_lt_succ h1) (Nat.lt_of_succ_lt_succ h2);rw[show i+(j+1)=i+1+j by omega];exact this
   intro k j h1 h2;have:=k (j+1) (Nat.succ_lt_succ h1) (Nat.succ_lt_succ h2);rw[show i+(j+1)=i+1+j by omega] at this;exact this
  rw[if_pos he];exact⟨fun h=>absurd h he,fun k=>absurd (k 0 (Nat.succ_pos _) (Nat.succ_pos _)) he⟩
theorem I0{r:List Vl}:Pc.dU dG r=0↔r.length=4∧∀j (h1:j<dG.length) (h2:j<r.length),Pc.lS j dG[j] r[j]=0:=by
 constructor
 ·intro h;have h4:=oX h;unfold Pc.dU at h;rw[if_neg Bm,if_neg yR,Ib 0 dG r (by rw[h4];rfl)] at h;refine⟨h4,fun j h1 h2=>?_⟩;have:=h j h1 h2;rwa [Nat.zero_add] at this
 intro ⟨h4,h⟩;unfold Pc.dU;rw[if_neg Bm,if_neg yR,Ib 0 dG r (by rw[h4];rfl)];intro j h1 h2;rw[Nat.zero_add];exact h j h1 h2
theorem adq{i:Nat}{c:cu}{v:Vl}(h:Pc.lS i c v=0):jB c.k v:=by
 unfold Pc.lS at h;by_cases h1:dB v=0
 ·rw[if_neg (fun e=>e h1)] at h;by_cases h2:v.k≠c.k∧(i=0∨v.k≠0)
  ·rw[if_pos h2] at h;cases h
  exact⟨h1,by omega⟩
 rw[if_pos h1] at h;exact absurd h h1
theorem adr{r:List Vl}(h:Pc.dU dG r=0):E5 dG r:=fun i=>by
 obtain⟨h4,hf⟩:=I0.1 h;have hc:dG.length=4:=rfl;rw[getD_eq_getElem?_getD,getD_eq_getElem?_getD];by_cases hi:i<4
 ·rw[getElem?_eq_getElem w4,getElem?_eq_getElem w4];exact adq (hf i w4 w4)
 rw[getElem?_eq_none w4,getElem?_eq_none w4];exact AT
theorem RS{r:List Vl}(h:Pc.dU dG r=0){c:Nat}(hc:c<dG.length){v:Vl}(E:jB dG[c].k v)(h0:c=0→v.k≠0):Pc.dU dG (r.set c v)=0:=by
 obtain⟨h4,hf⟩:=I0.1 h;refine I0.2 ⟨by rw[length_set];exact h4,fun j h1 h2=>?_⟩;rw[length_set] at h2;rw[getElem_set];split
 ·rename_i e;subst e;unfold Pc.lS;rw[if_neg (fun e=>e E.1),if_neg (fun e=>?_)];have:=E.2;have:=e.2;have:=e.1;by_cases I:c=0
  ·have:=h0 I;omega
  omega
 exact hf j h1 h2
theorem Eg:∀(ops:List aV) (h:Int),fy h ops=0→∀o∈ops,∃h',eX h' o=0
 | [],_,_,o,ho=>by cases ho
 | x::r,h,hx,o,ho=>by
  rw[fy] at hx;by_cases he:eX h x=0
  ·rw[if_pos he] at hx;rcases mem_cons.1 ho with rfl|ho
   ·exact⟨_,he⟩
   exact Eg r _ hx o ho
  rw[if_neg he] at hx;exact absurd hx he
theorem aac{l:List cu}(kH:∀o∈ops,o.nm.size≤maxLen)(fI:∀o∈ops,o.v.Ok)(hk:(dZ l ops).2=0):∀o∈ops,yN l o:=fun o ho=>by
 obtain⟨_,hx,he⟩:=Et hk;obtain⟨h',h1⟩:=Eg ops 0 (vN hx).2 o ho;obtain⟨_,h2,h3,_⟩:=vK h1;exact⟨kH o ho,fI o ho,DQ h3,h2.1,h2.2,On (by rw[he] at hk;exact hk) o ho⟩
theorem Qr{l:List cu}{row:List Vl}(hr:∀v∈row,v.Ok):∀(ops:List aV),(∀o∈ops,o.v.Ok)→∀st:List Vl,(∀v∈st,v.Ok)→(js bP (fO l row) ops st).1.Ok
 | [],_,st,fq=>ID fq 0
 | o::r,hg,st,fq=>by
  have I:(fO l row o (fa bP o.k st) (eS bP o.k st)).1.Ok:=Rl hr (hg o mem_cons_self) (AH fq _) (AJ fq _);by_cases hz:(fO l row o (fa bP o.k st) (eS bP o.k st)).2=0
  ·rw[IE hz];refine Qr hr r (fun x hx=>hg x (mem_cons_of_mem _ hx)) _ fun v E=>?_;rcases mem_append.1 E with E|E
   ·exact fq v (mem_of_mem_take E)
   rw[mem_singleton] at E;rw[E];exact I
  rw[HP hz];exact td
theorem ads{l:List cu}(hr:∀v∈row,v.Ok)(fI:∀o∈ops,o.v.Ok):(fh l row ops).1.Ok:=by
 unfold fh;repeat' split
 all_goals first|exact td|exact Qr hr ops fI [] (fun v E=>by cases E)
theorem abR(kH:∀o∈ops,o.nm.size≤maxLen)(fI:∀o∈ops,o.v.Ok)(hw:Pc.dU dG row=0)(hk:(dZ dG ops).2=0)(he:(fh dG row ops).2=0):jB (dZ dG ops).1 (fh dG row ops).1:=by
 obtain⟨_,_,_,h4⟩:=Zr Ig hw (adr hw) (aac kH fI hk) (Et hk).2.1;obtain⟨_,h5|h5⟩:=h4 hk
 ·rw[h5] at he;cases he
 exact h5.2
def iE(t:aU)(c:Int)(e:List aV):List Vl→List Int→List Vl×Int
 | acc,[]=>(acc,0)
 | acc,i::r=>if (fh t.av (rowAt t i) e).2≠0 then ([],(fh t.av (rowAt t i) e).2) else if c=0∧(fh t.av (rowAt t i) e).1.k=0 then ([],4) else iE t c e (acc++[(fh t.av (rowAt t i) e).1]) r
def qO(t:aU)(i:Int)(c:Nat)(v:Vl):aU:={t with rows:=t.rows.set i.toNat ((rowAt t i).set c v)}
def mz(c:Nat):aU→List Int→List Vl→aU
 | t,i::r,v::s=>mz c (qO t i c v) r s
 | t,_,_=>t
noncomputable def nO(t:aU):aE→List Int→aE
 | x,[]=>x
 | x,i::r=>nO t (gq x (dz x) (cQ (rowAt t i))) r
noncomputable def j9:aU→List Int→List Vl→aU×Int
 | t,i::r,v::s=>if gU t.ix (cQ (rowAt (qO t i 0 v) i)) (dz t.ix)=true then (t,9) else j9 {qO t i 0 v with ix:=gp t.ix (dz t.ix) (cQ (rowAt (qO t i 0 v) i)) i} r s
 | t,_,_=>(t,0)
noncomputable def gG(t:aU)(s:cN):aU×Int×Int :=
 if bL t.av s.set<0 then (t,0,8) else if (dZ t.av s.bE).2≠0 then (t,0,(dZ t.av s.bE).2)
 else if (dZ t.av s.bE).1≠(t.av.getD (bL t.av s.set).toNat ⟨⟨#[]⟩,0⟩).k∧(dZ t.av s.bE).1≠0 then (t,0,4)
 else if (au t s.ah).2≠0 then (t,0,(au t s.ah).2)
 else if (iE t (bL t.av s.set) s.bE [] (au t s.ah).1).2≠0 then (t,0,(iE t (bL t.av s.set) s.bE [] (au t s.ah).1).2)
 else if 0<bL t.av s.set then (mz (bL t.av s.set).toNat t (au t s.ah).1 (iE t (bL t.av s.set) s.bE [] (au t s.ah).1).1,(au t s.ah).1.length,0)
 else if (j9 {t with ix:=nO t t.ix (au t s.ah).1} (au t s.ah).1 (iE t (bL t.av s.set) s.bE [] (au t s.ah).1).1).2≠0 then (t,0,(j9 {t with ix:=nO t t.ix (au t s.ah).1} (au t s.ah).1 (iE t (bL t.av s.set) s.bE [] (au t s.ah).1).1).2)
 else ((j9 {t with ix:=nO t t.ix (au t s.ah).1} (au t s.ah).1 (iE t (bL t.av s.set) s.bE [] (au t s.ah).1).1).1,(au t s.ah).1.length,0)

end Go.Proofs.YtbcmjoaggammcaaGreatDoor.Ba
