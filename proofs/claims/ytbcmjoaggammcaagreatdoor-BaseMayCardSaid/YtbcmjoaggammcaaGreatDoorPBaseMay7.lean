/-
  What the proof of BaseMay leans on, part 7 of 8: walks of the program's functions at the level of values, and plain facts of what they compute.
-/
import Derived.Test.YtbcmjoaggammcaaGreatDoorPBaseMay6
set_option linter.unusedVariables false
set_option linter.unusedSimpArgs false
set_option maxRecDepth 100000
set_option maxHeartbeats 4000000
namespace Go.Proofs.YtbcmjoaggammcaaGreatDoor.Tw
open List
open Go.Proofs.Tryz
open Go.RowKit V Tr Pk
variable {t u:aE} {h:Nat} {k up:K} {row:Int}
noncomputable def oF(t:aE)(k:K)(row:Int)(h:Nat):aE×Int:=if kX t k=0 then (if row<0 then (vD,3) else if gZ t k h=true then (vD,9) else if 4000<(gz t h k row).af.length then (vD,10) else (gz t h k row,0)) else (vD,kX t k)
theorem adJ{ls:List Int}{r:D}{S:List ag}(h:gh cI 3 1 ls r S):kC r=true∧∀B∈S,∀d∈B.cs,kC d=true:=by
 obtain⟨ad,cap,rfl,ho⟩:=h;refine⟨rfl,fun B E d hd=>?_⟩;rcases ho with ⟨_,_,_,_,rfl⟩|⟨b,_,_,_,rfl⟩
 ·cases E
 rw[mem_singleton] at E;subst E;obtain⟨n,_,hn⟩:=mem_flatMap.1 hd;rw[cI,mem_singleton] at hn;subst hn;rfl
theorem O9(v:Valid t h)(hf:gZ t k h=false):∀x∈kI t h,x.1≠k:=fun x hx e=>by
 have:gZ t k h=true:=(DO v k).2 ((AF v k).2 ⟨x.2,by rw[←e];exact hx⟩);rw[hf] at this;cases this
theorem aay{G:List (Nat×List Value)}(L:List aA)(b:Nat)(root i:Int)(ad:Option Addr)(cap:Nat)(Sx:List ag)(hi:0≤i∧i<L.length)(p:cR)(E:(L[i.toNat]'w4).p=p)(hn:L.length≤10000)(dU:tU L ad cap Sx)(aS:∀o∈L,qz o)(h5:p.keys.length=5)(dS:p.leaf=true→p.kids.length=5)(I:p.leaf=false→p.kids.length=6)(O:∀k∈p.keys,k.length≤100)(U:p.high.length≤100) :
 VC Tryz.prog G 118 [.v (.pointer (some ⟨b,0,none⟩)),.v (.int .i64 i)] (⟨b,46,2,[.v (.slice ad L.length cap),.v (.int .i64 root)]⟩::(Sx++L.flatMap bO)) (Vi L b root i.toNat p):=by
 subst E;exact ab1 L b root i ad cap Sx hi hn dU aS h5 dS I O U
theorem ab2{aB:Int}(e:j8 t k row h (h+1)=(u,some (up,aB)))(hr:u.root=t.root):gz t h k row=⟨u.af++[⟨false,[up],[t.root,aB],[],-1⟩],u.af.length⟩:=by
 unfold gz;rw[←QD,e];show(⟨u.af++[⟨false,[up],[u.root,aB],[],-1⟩],u.af.length⟩:aE)=_;rw[hr]
theorem adK{aB:Int}{m:Nat}(hm:m≤h)(e:j8 t k row h m=(u,some (up,aB)))(h4:(bB (u.pg (dc t k h t.root m)) up aB).keys.length≤4):gz t h k row=u.set (dc t k h t.root m) (bB (u.pg (dc t k h t.root m)) up aB):=by
 have:=O5 hm e;rw[Ij h4] at this;unfold gz;rw[O6 (h-m) (m+1) w4 w4 this];rfl
theorem ab3{aB:Int}{m:Nat}(hm:m≤h)(e:j8 t k row h m=(u,some (up,aB)))(h4:¬(bB (u.pg (dc t k h t.root m)) up aB).keys.length≤4) :
  j8 t k row h (m+1)=(jg u (dc t k h t.root m) (bp (bB (u.pg (dc t k h t.root m)) up aB) u.af.length) (bu (bB (u.pg (dc t k h t.root m)) up aB)),some (iX (bB (u.pg (dc t k h t.root m)) up aB),(u.af.length:Int))):=by
 rw[O5 hm e,HH h4]
variable {G:List (Nat×List Value)}
theorem Y9:(Tryz.prog.info? 93).map (fun i=>(i.zero,i.size,i.bytes))=some (some (.agg #[.bool false,.slice none 0 0,.slice none 0 0,.slice none 0 0,.int .i64 0]),5,88):=by kernel_rfl
theorem HN(t:aE)(h:Nat)(k:K)(row:Int)(hb:∀p∈t.af,p.keys.length≤maxLen∧p.kids.length≤maxLen)(hv:gq t=0→Valid t h):VC Tryz.prog G 85 [.agg [.list 5 (t.af.flatMap cP) t.af.length,.v (.int .i64 t.root)],.list 1 (k.flatMap cB) k.length,.v (.int .i64 row)] [] (BX (oF t k row h)):=by
 refine VC.body func85 rfl ntmps85 aO fun X0 w0 aZ=>?_;have eY:=Hj (G:=G) t k hb;unfold cT at eY;have dy:maxLen=9223372036854775807:=rfl;refine bX ?_;refine OD.box (ds:=[_,_]) an rfl rfl ot rfl rfl (fun b3=>?_);refine OD.alloc (ds:=[_,_]) an rfl rfl zeroValue46 rfl (fun b6=>?_);refine aj 131 [1,2,3,6] ?_;refine cL [1,2,3,6,8] (eY) ?_;refine ae [1,2,3,6,8,23] ?_;refine aq (fun az aH=>?_) (fun az aH=>?_)
 ·have hn:¬kX t k=0:=(by simpa using az)
  refine aC 2 ?_;refine aN 0 [_,_] sizeOf46 ?_;refine aj 131 [6,7] ?_;refine aJ [] ?_;unfold oF;rw[if_neg hn];exact yG _
 have hz:kX t k=0:=(by simpa using az)
 obtain⟨hc,Nk⟩:=O8 hz;have v:=hv hc;have BY:=Ir Nk;have fI:=pY (G:=G) t h v k w4 (DP v k);unfold cT at fI;have ang:=v.high;have anh:=v.mY;refine ae [1,2,3,6,27] ?_;refine aq (fun aG aV=>?_) (fun aG aV=>?_)
 ·have ve:row<0:=(by omega)
  refine aC 1 ?_;refine aN 0 [_,_] sizeOf46 ?_;refine aj 131 [6,7] ?_;refine aJ [] ?_;unfold oF;rw[if_pos hz,if_pos ve];exact yG _
 have ve:0≤row:=(by omega)
 refine cL [1,2,3,6,11] (fI) ?_;refine ae [1,2,3,6,36] ?_;refine aq (fun aY bz=>?_) (fun aY bz=>?_)
 ·have iJ:gZ t k h=true:=aY;refine aC 1 ?_;refine aN 0 [_,_] sizeOf46 ?_;refine aj 131 [6,7] ?_;refine aJ [] ?_;unfold oF;rw[if_pos hz,if_neg w4,if_pos iJ];exact yG _
 have iJ:gZ t k h=false:=aY;have hne:=O9 v iJ;refine aC 1 ?_;refine OD.call an rfl rfl rfl call115 (E2 t h v) ⟨ot,trivial⟩ (eN _) ?_;rintro _ _ ⟨L,ad,cap,Sx,rfl,dU,aS,hL,rfl⟩;refine OD.perm (dV (A:=[_,_])) ?_;refine OD.alloc (ds:=[_,_]) an rfl rfl zeroValue46 rfl (fun vE=>?_);refine aN 0 [_,_] sizeOf46 ?_;refine aj 131 [1,2,6,12] ?_;refine aC 2 ?_;refine OD.J3 an rfl rfl rfl call55 (RZ t h v k) (fun r S=>adJ) ⟨⟨_,ot,(by have:=JG (root:=t.root) dU aS (fun B hB=>mem_cons_of_mem ⟨vE,46,2,[.v (.slice ad L.length cap),.v (.int .i64 t.root)]⟩ (mem_cons_of_mem ⟨b6,46,2,[.v (.slice none 0 0),.v (.int .i64 0)]⟩ (mem_cons_of_mem ⟨b3,46,2,[.list 5 (t.af.flatMap cP) t.af.length,.v (.int .i64 t.root)]⟩ hB)));rw[hL] at this;exact this)⟩,⟨_,ot,eP⟩,trivial⟩ ?_;rintro _ Sw ⟨aw,cw,rfl,how⟩;refine OD.gP (t:=42) (Sq:=Sw) lk how (cq ey _) (Perm.refl _) ?_;refine aj 131 [1,2,6,12,13] ?_;refine cL [6,12,13,14,15] (jL k w4) ?_;refine jJ [6,12] (fun aW _ aK=>∃(L:List aA),∃(ad:Option Addr),∃(cap:Nat),∃(Sx:List ag),∃(root:Int),(tU L ad cap Sx)∧(∀o∈L,qz o)∧(gz t h k row=⟨L.map aA.p,root⟩)∧(L.length≤10000)∧aK=(⟨131,aW,(⟨vE,46,2,[.v (.slice ad L.length cap),.v (.int .i64 root)]⟩::⟨b6,46,2,[.v (.slice none 0 0),.v (.int .i64 0)]⟩::(Sx++L.flatMap bO))⟩:St)) ?_ ?_
 ·refine cN [6,12,13,14,15,16] ?_;refine aQ 2 ?_ (h:=by exact(cZ (r:=.int .i64 ((h:Nat):Int)) rfl ot bJ (fZ (by rw[Em,show(((h+1:Nat):Int)-1)=(h:Int) from by omega];exact wrap_i64 w4 w4))));refine bH ?_;refine eB [6,12,13] (fun aW _ (l6:Nat×K×Int×List aA×Option Addr×Nat×List ag) aK=>match l6 with|(m,up,aB,L,ad,cap,Sx)=>(m≤h+1)∧(j8 t k row h m=(⟨L.map aA.p,t.root⟩,some (up,aB)))∧(tU L ad cap Sx)∧(∀o∈L,qz o)∧aK=(⟨131,(14,.list 1 (up.flatMap cB) up.length)::(15,.v (.int .i64 aB))::(16,.v (.int .i64 ((h:Int)-(m:Nat))))::aW,(⟨vE,46,2,[.v (.slice ad L.length cap),.v (.int .i64 t.root)]⟩::⟨b6,46,2,[.v (.slice none 0 0),.v (.int .i64 0)]⟩::(Sx++L.flatMap bO))⟩:St)) (fun (l6:Nat×K×Int×List aA×Option Addr×Nat×List ag)=>match l6 with|(m,up,aB,L,ad,cap,Sx)=>h+1-m) (0,k,row,L,ad,cap,Sx) ⟨(Nat.zero_le _),(by unfold j8;rw[if_pos rfl,hL]),dU,aS,rfl⟩ ?_;rintro⟨m,up,aB,L,ad,cap,Sx⟩ _ ⟨hm0,he,dU,aS,rfl⟩;refine ae [6,12,13,14,15,16,52] ?_;refine aq (fun bC bY=>?_) (fun bC bY=>?_)
  ·obtain rfl:m=h+1:=(by omega)
   obtain⟨s1,s2,s3,s4⟩:=HK v hne BY ve w4 he;have uy:L.length≤t.af.length+(h+1):=(by rw[←length_map (f:=aA.p)];exact s2)
   have Xw:=adE v hne BY ve w4 he;refine aC 3 ?_;refine ee (bZ 0 [_]) [.slice none 0 0] [_] zeroValue49 runUnderlying90 sizeOf49 (fun U=>?_);refine aD 3 ?_;refine ee (bZ 0 [_,_]) [.int .i64 0,.int .i64 0] [_,_] zeroValue3 runUnderlying91 sizeOf3 (fun Z=>?_);refine aD 1 ?_;refine ee (bZ 0 [_]) [.bool false,.slice none 0 0,.slice none 0 0,.slice none 0 0,.int .i64 0] [_,_,_,_,_] zeroValue93 runUnderlying44 sizeOf93 (fun MX=>?_);refine OD.aey (cs':=gO (⟨⟨false,[up],[t.root,aB],[],-1⟩,some ⟨U,0,none⟩,1,[⟨U,49,1*1,flatMap cK [up]⟩],some ⟨Z,0,none⟩,2,[⟨Z,3,2*1,flatMap cI [t.root,aB]⟩]⟩:aA)) rfl ⟨eP,eP,eP,yh,eP,trivial⟩ ?_;refine fG 0 62 5 1 ?_;refine OD.dZ (ls:=L) (new:=[(⟨⟨false,[up],[t.root,aB],[],-1⟩,some ⟨U,0,none⟩,1,[⟨U,49,1*1,flatMap cK [up]⟩],some ⟨Z,0,none⟩,2,[⟨Z,3,2*1,flatMap cI [t.root,aB]⟩]⟩:aA)]) (Sq:=Sx) ga uK an rfl rfl underlying44 Y9 rfl w7 ot dU (ou (A:=[_,_,_,_])) ot bq mZ nc (fun Dr wX ai6 ai7=>?_);refine aD 1 ?_;refine aN 3 [_,_] sizeOf44 ?_;refine aj 131 [6,12] ?_;refine aC 3 ?_
   refine bN (cZ (r:=.int .i64 (L.length:Nat)) rfl ot bJ (fZ (by rw[length_append,show(((L.length+[(⟨⟨false,[up],[t.root,aB],[],-1⟩,some ⟨U,0,none⟩,1,[⟨U,49,1*1,flatMap cK [up]⟩],some ⟨Z,0,none⟩,2,[⟨Z,3,2*1,flatMap cI [t.root,aB]⟩]⟩:aA)].length:Nat):Int)-1)=(L.length:Int) from by simp];exact wrap_i64 w4 w4))) ?_;refine aD 1 ?_;refine aN 3 [_,_] sizeOf3 ?_;have hX:((⟨Z,3,2*1,flatMap cI [t.root,aB]⟩:ag)::⟨U,49,1*1,flatMap cK [up]⟩::L.flatMap bO).Perm ((L++[(⟨⟨false,[up],[t.root,aB],[],-1⟩,some ⟨U,0,none⟩,1,[⟨U,49,1*1,flatMap cK [up]⟩],some ⟨Z,0,none⟩,2,[⟨Z,3,2*1,flatMap cI [t.root,aB]⟩]⟩:aA)]).flatMap bO):=(by rw[Q5];exact(Perm.swap _ _ _).trans (perm_append_comm (l₁:=[_,_])))
   refine OD.perm (S':=⟨vE,46,2,[.v (.slice (some ⟨Dr,0,none⟩) (L++[(⟨⟨false,[up],[t.root,aB],[],-1⟩,some ⟨U,0,none⟩,1,[⟨U,49,1*1,flatMap cK [up]⟩],some ⟨Z,0,none⟩,2,[⟨Z,3,2*1,flatMap cI [t.root,aB]⟩]⟩:aA)]).length wX),.v (.int .i64 (L.length:Nat))]⟩::⟨b6,46,2,[.v (.slice none 0 0),.v (.int .i64 0)]⟩::(([⟨Dr,93,wX*5,flatMap gO (L++[(⟨⟨false,[up],[t.root,aB],[],-1⟩,some ⟨U,0,none⟩,1,[⟨U,49,1*1,flatMap cK [up]⟩],some ⟨Z,0,none⟩,2,[⟨Z,3,2*1,flatMap cI [t.root,aB]⟩]⟩:aA)])⟩]:List ag)++(L++[(⟨⟨false,[up],[t.root,aB],[],-1⟩,some ⟨U,0,none⟩,1,[⟨U,49,1*1,flatMap cK [up]⟩],some ⟨Z,0,none⟩,2,[⟨Z,3,2*1,flatMap cI [t.root,aB]⟩]⟩:aA)]).flatMap bO)) (by exact(perm_middle (l₁:=[_,_,_])).trans (Perm.cons _ ((perm_middle (l₁:=[_,_,_])).trans (Perm.cons _ (Perm.cons _ hX))))) ?_;refine aj 131 [6,12] ?_;refine CD.exit ?_
   refine⟨_,aM,(L++[(⟨⟨false,[up],[t.root,aB],[],-1⟩,some ⟨U,0,none⟩,1,[⟨U,49,1*1,flatMap cK [up]⟩],some ⟨Z,0,none⟩,2,[⟨Z,3,2*1,flatMap cI [t.root,aB]⟩]⟩:aA)]),(some ⟨Dr,0,none⟩),wX,[⟨Dr,93,wX*5,flatMap gO (L++[(⟨⟨false,[up],[t.root,aB],[],-1⟩,some ⟨U,0,none⟩,1,[⟨U,49,1*1,flatMap cK [up]⟩],some ⟨Z,0,none⟩,2,[⟨Z,3,2*1,flatMap cI [t.root,aB]⟩]⟩:aA)])⟩],(L.length:Nat),(bI ai6 ai7),(fun o ho=>by rcases mem_append.1 ho with ho|ho;exact aS o ho;rw[mem_singleton] at ho;subst ho;exact⟨bI (Nat.le_refl _) (show 1≤maxLen by decide),bI (Nat.le_refl _) (show 2≤maxLen by decide)⟩),(by rw[ab2 he rfl];show(⟨map aA.p L++[_],((map aA.p L).length:Int)⟩:aE)=_;rw[map_append,length_map];rfl),F8,rfl⟩
  have hm:m≤h:=(by omega)
  have hP:=adF v hne BY ve hm he;obtain⟨s1,s2,s3,s4⟩:=HK v hne BY ve w4 he;have uy:L.length≤t.af.length+m:=(by rw[←length_map (f:=aA.p)];exact s2)
  have Nl:0≤(dc t k h t.root m)∧(dc t k h t.root m)<L.length:=(by have:=hP.rg;rw[←length_map (f:=aA.p)];exact this)
  have hj:(dc t k h t.root m).toNat<L.length:=(by omega)
  have Xx:L[(dc t k h t.root m).toNat].p=(⟨L.map aA.p,t.root⟩:aE).pg (dc t k h t.root m):=TF (t:=(⟨L.map aA.p,t.root⟩:aE)) rfl hP.rg hj;have po:ez ((⟨L.map aA.p,t.root⟩:aE).pg (dc t k h t.root m)) (⟨L.map aA.p,t.root⟩:aE).af.length:=s4 _ (jr hP.rg);have full:=Ih po hP.out hP.len hP.high hP.nn hP.nnl;obtain⟨bx,rfl,fT,rf,rfl⟩:=dU.pos w4;have xO:=aS _ (getElem_mem hj);obtain⟨o,ho⟩:∃o,o=L[(dc t k h t.root m).toNat]:=⟨_,rfl⟩
  rw[←ho] at xO Xx;rcases o with ⟨p,ak,ck,sk,ai,ci,si⟩
  have gG:p=(⟨L.map aA.p,t.root⟩:aE).pg (dc t k h t.root m):=Xx;obtain⟨dI,jU⟩:oD p.keys ak ck sk∧lD p.kids ai ci si:=xO;rw[←gG] at po full;have mB:=po.eK;have fH:=QA po up;have Xw:=hP.len.2;have Fq:(if p.leaf=true then aL p up else aL p up+1)≤p.kids.length∧p.kids.length≤5:=(by cases fF:p.leaf;(have:=(po.node fF).1;rw[if_neg w7];omega);(have:=po.leaf fF;rw[if_pos rfl];omega))
  have hW:h-m<(iS t k h t.root).length:=(by rw[Em];omega)
  have Xy:(iS t k h t.root)[h-m]=(dc t k h t.root m):=(by have:=O4 (t:=t) (k:=k) (h:=h) (i:=t.root) hm;exact(List.getElem?_eq_some_iff.1 this).2)
  have Bp:=v.high;have Ue:=v.mY;have Kg:(L.flatMap bO).Perm (sk++(si++((L.eraseIdx (dc t k h t.root m).toNat).flatMap bO))):=(by have:=yF bO hj;rw[←ho] at this;exact this.trans (by rw[show bO ⟨p,ak,ck,sk,ai,ci,si⟩=sk++si from rfl,append_assoc]))
  refine CD.perm (Perm.cons _ (Perm.cons _ (Perm.cons _ Kg))) ?_;refine cN [6,12,13,14,15,16,17] ?_;refine aQ 4 ?_ (h:=by exact(c9 1 (h:=by first|exact .l (j:=h-m) w4 hW|exact .r (j:=h-m) w4 hW)));refine aQ 0 ?_ (h:=by exact(cJ (mk:=Op.load 3) rfl ot (pZ (d:=.v (.int .i64 (dc t k h t.root m))) (i:=h-m) ey isAgg3 hW (by rw[Xy];rfl))));refine aQ 0 ?_ (h:=by exact(c9 5 (h:=by first|exact .l (j:=(dc t k h t.root m).toNat) (Int.toNat_of_nonneg Nl.1).symm hj|exact .r (j:=(dc t k h t.root m).toNat) (Int.toNat_of_nonneg Nl.1).symm hj)));refine bH ?_;refine cN [6,12,13,14,15,16,17,18] ?_;refine aQ 2 ?_ (h:=by exact(cJ (mk:=Op.load 93) rfl ot (dJ (k:=2) (ls:=L) (i:=(dc t k h t.root m).toNat) ga rfl rfl rfl isAgg93 sizeOf93 hj)));refine ni 1 ?_;refine zj (Iq p up po.jG w4) (ha:=by exact⟨⟨_,ot,(by rw[←ho];exact uD ⟨eP,lj dI (cq gb _) (fun B hB=>.tail _ (.tail _ (.tail _ (mem_append_left _ hB)))),lj jU (cq ey _) (fun B hB=>.tail _ (.tail _ (.tail _ (mem_append_right _ (mem_append_left _ hB))))),eP,eP,trivial⟩)⟩,⟨_,ot,eP⟩,trivial⟩) (K:=?_);refine bH ?_;refine aC 4 ?_;refine bN (cJ (mk:=Op.load 90) rfl ot (kU (k:=2) (j:=1) (d:=.v (.slice ak p.keys.length ck)) (ls:=L) ga rfl rfl rfl isAgg90 hj q8)) ?_;refine aD 2 ?_
  refine ee (bZ 0 [_]) [.slice none 0 0] [_] zeroValue49 runUnderlying90 sizeOf49 (fun b89=>?_);refine OD.call an rfl rfl rfl call116 (Y7 p.keys (aL p up) up ak ck sk b89 fH w4 dI) ⟨ot,ot,ot,trivial⟩ (Perm.cons _ (ou (A:=[_,_,_]))) ?_;rintro _ E ⟨I,O,rfl,fq⟩;refine OD.perm (iY (A:=[_,_,_])) ?_;refine aD 2 ?_;refine OD.storeAt (k:=2) (cs':=flatMap gO (L.set (dc t k h t.root m).toNat (⟨{p with keys:=gS p.keys (aL p up) up},I,O,E,ai,ci,si⟩:aA))) an rfl rfl ot rfl rfl ot rfl rfl sizeOf90 rfl (by show 0+(dc t k h t.root m).toNat*5+1+1≤(flatMap gO L).length;rw[cq ga];omega) (by show(L.flatMap gO).set (0+(dc t k h t.root m).toNat*5+1) _=_;rw[Nat.zero_add];exact vL ga w7 hj (by rw[←ho];unfold gO;rw[yq fH];rfl)) ?_;refine aj 131 [6,12,13,15,16,17,18] ?_
  refine CD.cut (fun aK=>aK=(⟨131,[(6,.v (.pointer (some ⟨b6,0,none⟩))),(12,.v (.pointer (some ⟨vE,0,none⟩))),(13,.list 1 ((iS t k h t.root).flatMap cI) (iS t k h t.root).length),(15,.v (.int .i64 aB)),(16,.v (.int .i64 ((h:Int)-(m:Nat)))),(17,.v (.pointer (some ⟨bx,0+(dc t k h t.root m).toNat*5,none⟩))),(18,.v (.int .i64 (((if p.leaf=true then aL p up else aL p up+1):Nat):Int)))],(⟨vE,46,2,[.v (.slice (some ⟨bx,0,none⟩) L.length cap),.v (.int .i64 t.root)]⟩::⟨b6,46,2,[.v (.slice none 0 0),.v (.int .i64 0)]⟩::⟨bx,93,cap*5,flatMap gO (L.set (dc t k h t.root m).toNat (⟨{p with keys:=gS p.keys (aL p up) up},I,O,E,ai,ci,si⟩:aA))⟩::(E++(si++((L.eraseIdx (dc t k h t.root m).toNat).flatMap bO))))⟩:St)) ?_ ?_
  ·refine cN [6,12,13,15,16,17,18,97] ?_;refine aQ 3 ?_ (h:=by exact(cJ (mk:=Op.load 4) rfl ot (kU (k:=2) (j:=0) (d:=.v (.bool p.leaf)) (ls:=(L.set (dc t k h t.root m).toNat (⟨{p with keys:=gS p.keys (aL p up) up},I,O,E,ai,ci,si⟩:aA))) ga rfl rfl rfl isAgg4 xo (by rw[getElem_set_self];rfl))));refine bH ?_;refine aq (fun cy de=>?_) (fun cy de=>?_)
   ·have dr:(((if p.leaf=true then aL p up else aL p up+1):Nat):Int)=(((aL p up):Nat):Int)+1:=(by rw[if_neg (by simpa using cy)];rfl)
    refine cj [6,12,13,15,16,17,18] ?_;exact Wj
   have dr:(((if p.leaf=true then aL p up else aL p up+1):Nat):Int)=(((aL p up):Nat):Int):=(by rw[if_pos (by simpa using cy)])
   refine CD.skip ?_;exact Wj
  rintro _ ⟨rfl⟩;refine aC 4 ?_;refine bN (cJ (mk:=Op.load 91) rfl ot (kU (k:=2) (j:=2) (d:=.v (.slice ai p.kids.length ci)) (ls:=(L.set (dc t k h t.root m).toNat (⟨{p with keys:=gS p.keys (aL p up) up},I,O,E,ai,ci,si⟩:aA))) ga rfl rfl rfl isAgg91 xo (by rw[getElem_set_self];rfl))) ?_;refine aD 2 ?_;refine ee (bZ 0 [_]) [.int .i64 0] [_] zeroValue3 runUnderlying91 sizeOf3 (fun ai8=>?_);refine OD.call an rfl rfl rfl call117 (Y8 p.kids (if p.leaf=true then aL p up else aL p up+1) aB ai ci si ai8 Fq.1 w4 jU) ⟨ot,ot,ot,trivial⟩ (Perm.cons _ (sX (A:=[_,_,_]))) ?_;rintro _ bA ⟨bK,bL,rfl,lN⟩;refine OD.perm (vT (A:=[_,_,_])) ?_;refine aD 2 ?_
  refine OD.storeAt (k:=2) (cs':=flatMap gO (L.set (dc t k h t.root m).toNat (⟨(bB p up aB),I,O,E,bK,bL,bA⟩:aA))) an rfl rfl ot rfl rfl ot rfl rfl sizeOf91 rfl (by show 0+(dc t k h t.root m).toNat*5+2+1≤(flatMap gO (L.set (dc t k h t.root m).toNat (⟨{p with keys:=gS p.keys (aL p up) up},I,O,E,ai,ci,si⟩:aA))).length;rw[cq ga,length_set];omega) (by show(flatMap gO (L.set (dc t k h t.root m).toNat (⟨{p with keys:=gS p.keys (aL p up) up},I,O,E,ai,ci,si⟩:aA))).set (0+(dc t k h t.root m).toNat*5+2) _=_;rw[Nat.zero_add,vL ga (a':=(⟨(bB p up aB),I,O,E,bK,bL,bA⟩:aA)) w7 xo (by rw[getElem_set_self];show gO (⟨(bB p up aB),I,O,E,bK,bL,bA⟩:aA)=(gO (⟨{p with keys:=gS p.keys (aL p up) up},I,O,E,ai,ci,si⟩:aA)).set 2 _;unfold gO;rw[show((⟨(bB p up aB),I,O,E,bK,bL,bA⟩:aA)).p.kids.length=p.kids.length+1 from yq Fq.1];rfl),set_set]) ?_;have vt:(E++(bA++((L.eraseIdx (dc t k h t.root m).toNat).flatMap bO))).Perm ((L.set (dc t k h t.root m).toNat (⟨(bB p up aB),I,O,E,bK,bL,bA⟩:aA)).flatMap bO):=(by have:=(qC bO hj (⟨(bB p up aB),I,O,E,bK,bL,bA⟩:aA)).symm;rw[show bO (⟨(bB p up aB),I,O,E,bK,bL,bA⟩:aA)=E++bA from rfl,append_assoc] at this;exact this)
  refine OD.perm (S':=⟨vE,46,2,[.v (.slice (some ⟨bx,0,none⟩) (L.set (dc t k h t.root m).toNat (⟨(bB p up aB),I,O,E,bK,bL,bA⟩:aA)).length cap),.v (.int .i64 t.root)]⟩::⟨b6,46,2,[.v (.slice none 0 0),.v (.int .i64 0)]⟩::(([⟨bx,93,cap*5,flatMap gO (L.set (dc t k h t.root m).toNat (⟨(bB p up aB),I,O,E,bK,bL,bA⟩:aA))⟩]:List ag)++(L.set (dc t k h t.root m).toNat (⟨(bB p up aB),I,O,E,bK,bL,bA⟩:aA)).flatMap bO)) (by rw[length_set];exact Perm.cons _ (Perm.cons _ (Perm.cons _ vt))) ?_;have Vj:tU (L.set (dc t k h t.root m).toNat (⟨(bB p up aB),I,O,E,bK,bL,bA⟩:aA)) (some ⟨bx,0,none⟩) cap [⟨bx,93,cap*5,flatMap gO (L.set (dc t k h t.root m).toNat (⟨(bB p up aB),I,O,E,bK,bL,bA⟩:aA))⟩]:=bI qZ rf;have jE:∀o∈(L.set (dc t k h t.root m).toNat (⟨(bB p up aB),I,O,E,bK,bL,bA⟩:aA)),qz o:=fun x hx=>by rcases mem_or_eq_of_mem_set hx with hx|rfl;exact aS x hx;exact⟨fq,lN⟩
  refine aj 131 [6,12,13,16,17] ?_;refine cN [6,12,13,16,116] ?_;refine aQ 3 ?_ (h:=by exact(cJ (mk:=Op.load 90) rfl ot (kU (k:=2) (j:=1) (d:=.v (.slice I (bB p up aB).keys.length O)) (ls:=(L.set (dc t k h t.root m).toNat (⟨(bB p up aB),I,O,E,bK,bL,bA⟩:aA))) ga rfl rfl rfl isAgg90 xo (by rw[getElem_set_self];rfl))));refine bH ?_;refine aq (fun dO eo=>?_) (fun dO eo=>?_)
  ·have h4:(bB p up aB).keys.length≤4:=(by have:=of_decide_eq_true dO;omega)
   refine CD.exit ?_;refine⟨_,aM,(L.set (dc t k h t.root m).toNat (⟨(bB p up aB),I,O,E,bK,bL,bA⟩:aA)),(some ⟨bx,0,none⟩),cap,[⟨bx,93,cap*5,flatMap gO (L.set (dc t k h t.root m).toNat (⟨(bB p up aB),I,O,E,bK,bL,bA⟩:aA))⟩],t.root,Vj,jE,(by rw[adK hm he (by rw[←gG];exact h4),←gG,map_set];rfl),vn,rfl⟩
  have h4:¬(bB p up aB).keys.length≤4:=(by have:=of_decide_eq_false dO;omega)
  have h5:(bB p up aB).keys.length=5:=(by have:=full.eK;omega)
  refine dL 2 ?_;refine bN (c9 1 (h:=by first|exact .l (j:=h-m) w4 hW|exact .r (j:=h-m) w4 hW)) ?_;refine bN (cJ (mk:=Op.load 3) rfl ot (pZ (d:=.v (.int .i64 (dc t k h t.root m))) (i:=h-m) ey isAgg3 hW (by rw[Xy];rfl))) ?_;have lP:(L.set (dc t k h t.root m).toNat (⟨(bB p up aB),I,O,E,bK,bL,bA⟩:aA)).length=L.length:=length_set ..;refine OD.call an rfl rfl rfl call118 (aay (L.set (dc t k h t.root m).toNat (⟨(bB p up aB),I,O,E,bK,bL,bA⟩:aA)) vE t.root (dc t k h t.root m) (some ⟨bx,0,none⟩) cap [⟨bx,93,cap*5,flatMap gO (L.set (dc t k h t.root m).toNat (⟨(bB p up aB),I,O,E,bK,bL,bA⟩:aA))⟩] (by rw[lP];exact Nl) (bB p up aB) (by rw[getElem_set_self]) (by rw[lP];omega) Vj jE h5 (fun hl=>by have:=full.leaf hl;omega) (fun hl=>by have:=(full.node hl).1;omega) (fun x hx=>(full.kW x hx).2) full.hlen) ⟨ot,ot,trivial⟩ (Perm.cons _ (perm_append_singleton _ _).symm) ?_;rintro _ _ ⟨rfl,L3,GM,FT,GN,ai9,xj,hL3,rfl⟩;refine OD.perm (Perm.cons _ (perm_append_singleton _ _)) ?_;have Cj:j8 t k row h (m+1)=(⟨L3.map aA.p,t.root⟩,some (iX (bB p up aB),((L.set (dc t k h t.root m).toNat (⟨(bB p up aB),I,O,E,bK,bL,bA⟩:aA)).length:Int))):=(by rw[ab3 hm he (by rw[←gG];exact h4),←gG,hL3,lP];unfold jg;show(({af:=(map aA.p L).set _ _++_,root:=t.root}:aE),_)=_;rw[map_set,set_set,length_map])
  refine aj 131 [6,12,13,14,15,16] ?_;refine cj [6,12,13,14,15,16] ?_;refine⟨((m+1),(iX (bB p up aB)),((L.set (dc t k h t.root m).toNat (⟨(bB p up aB),I,O,E,bK,bL,bA⟩:aA)).length:Int),L3,GM,FT,GN),_,cx,aM,w4,Cj,ai9,xj,rfl⟩
 rintro _ ⟨L,ad,cap,Sx,root,dU,aS,FV,uy,rfl⟩;refine ae [6,12,128] ?_;refine aq (fun eS fW=>?_) (fun eS fW=>?_)
 ·refine aC 1 ?_;refine aN 1 [_,_] sizeOf46 ?_;refine aj 131 [6,7] ?_;refine aJ [] ?_;unfold oF;rw[if_pos hz,if_neg w4,if_neg xw,if_pos (by rw[FV];show 4000<(L.map aA.p).length;rw[length_map];omega)];exact yG _
 refine aC 1 ?_;refine aN 1 [_,_] sizeOf46 ?_;refine aj 131 [6,7] ?_;refine aJ (Sx++L.flatMap bO) ?_;unfold oF;rw[if_pos hz,if_neg w4,if_neg xw,if_neg (by rw[FV];show ¬4000<(L.map aA.p).length;rw[length_map];omega)];exact⟨_,rfl,L,ad,cap,Sx,by rw[FV],dU,aS,by rw[FV],rfl⟩
theorem aaz(t:aE)(h:Nat)(k:K)(row:Int)(hb:∀p∈t.af,p.keys.length≤maxLen∧p.kids.length≤maxLen)(E:gq t=0→Valid t h):VP Tryz.prog G 85 [.agg (cT t),.list 1 (k.flatMap cB) k.length,.v (.int .i64 row)] (.dz [.agg (cT (oF t k row h).1),.v (.int .i64 (oF t k row h).2)]):=(HN t h k row hb E).cover fun r S hr=>hr.view

end Go.Proofs.YtbcmjoaggammcaaGreatDoor.Tw
namespace Go.Proofs.YtbcmjoaggammcaaGreatDoor.Tr
open List
open Go.Proofs.Tryz
open Go.Lib (compareBytes)
variable {t:aE} {h:Nat} {k:K}
variable {n:Nat}
theorem QJ(hp:∀p∈t.af,ez p t.af.length):∀{h h':Nat} {i:Int} {a b c d:K},dQ t h i a b→dQ t h' i c d→h=h'
 | 0,0,_,_,_,_,_,_,_=>rfl
 | 0,h'+1,i,_,_,_,_,h1,h2=>by have:=h1.2.1;rw[h2.2.1] at this;cases this
 | h+1,0,i,_,_,_,_,h1,h2=>by have:=h1.2.1;rw[h2.2.1] at this;cases this
 | h+1,h'+1,i,_,_,_,_,h1,h2=>by
  obtain⟨p1,p2,p3,O,E⟩:=h1;obtain⟨q1,q2,U,Z,I⟩:=h2;have hn:=((hp _ (jr p1)).node p2).1;have:=QJ hp (E 0 w4) (I 0 w4);rw[this]
noncomputable def dD(t:aE):Nat:=Classical.epsilon fun h=>Valid t h
theorem D6(v:Valid t h):Valid t (dD t):=Classical.epsilon_spec (p:=fun h=>Valid t h) ⟨h,v⟩
theorem JI(v:Valid t h):dD t=h:=QJ v.page (D6 v).ok v.ok
noncomputable def en(t:aE):List (K×Int):=kI t (dD t)
theorem Jd(hp:∀p∈t.af,ez p t.af.length):∀{h:Nat} {i:Int} {a b:K},dQ t h i a b→2 ^ h≤(ids t h i).length
 | 0,i,_,_,_=>by simp[ids]
 | h+1,i,_,_,ok=>by
  obtain⟨p1,p2,p3,U,E⟩:=ok;have hn:=(hp _ (jr p1)).node p2;have hk:1≤(t.pg i).keys.length:=by
   have:=hn.2;cases kZ:(t.pg i).keys with
   | nil=>exact absurd kZ this
   | cons _ _=>simp
  have h0:=Jd hp (E 0 w4);have h1:=Jd hp (E 1 w4);have key:∀(l:List Int) (h2:2≤l.length),2 ^ h≤(ids t h (l[0]'w4)).length→2 ^ h≤(ids t h (l[1]'w4)).length→2 ^ h+2 ^ h≤(l.flatMap (ids t h)).length:=by
   intro l h2 I O;match l,h2 with
   | x::y::r,_ =>
    simp only[flatMap_cons,length_append];simp only[getElem_cons_zero,getElem_cons_succ] at I O;omega
  have:=key _ w4 h0 h1;rw[ids,length_cons,Nat.pow_succ];omega
theorem adL(v:Valid t h):h≤11:=by
 have h1:=Jd v.page v.ok;rw[v.all] at h1;have h2:=v.mY;refine Nat.le_of_not_lt fun h3=>?_;have:2 ^ 12≤2 ^ h:=Nat.pow_le_pow_right w7 h3;omega
structure iB (t:aE) (n:Nat):Prop where
 val:Valid t (dD t)
 eK:t.af.length≤1+13*n
theorem iB.mono{m:Nat}(g:iB t n)(h:n≤m):iB t m:=⟨g.val,by have:=g.eK;omega⟩
theorem ab4:iB pC 0:=⟨D6 OX,by decide⟩
theorem ab5:en pC=[]:=by unfold en;rw[JI OX];exact abK
theorem Eo{row:Int}(g:iB t n)(hn:n≤300)(kN:∀x∈en t,x.1≠k)(hk:1≤k.length∧k.length≤100)(hr:0≤row) :
  iB (gz t (dD t) k row) (n+1)∧(gz t (dD t) k row).af.length≤4000∧∀x,x∈en (gz t (dD t) k row)↔x=(k,row)∨x∈en t:=by
 have E:=adL g.val;have hf:=g.eK;obtain⟨h',_,v,⟨_,hm⟩,he⟩:=Z8 g.val kN hk hr w4;refine⟨⟨D6 v,by omega⟩,v.mY,fun x=>?_⟩;unfold en;rw[JI v];exact he x
theorem Is(g:iB t n)(ht:Bb t k (dD t)):iB (gA t (dD t) k) n∧∀x,x∈en (gA t (dD t) k)↔x∈en t∧x.1≠k:=by
 obtain⟨v,hl,he⟩:=Z9 g.val ht;refine⟨⟨D6 v,by have:=g.eK;omega⟩,fun x=>?_⟩;unfold en;rw[JI v];exact he x

end Go.Proofs.YtbcmjoaggammcaaGreatDoor.Tr
namespace Go.Proofs.YtbcmjoaggammcaaGreatDoor.Tw
open List
open Go.Proofs.Tryz
open Go.RowKit V Tr Pk
open Go.Lib (compareBytes)
variable {k:K} {t:aE} {n:Nat} {row:Int}
theorem adM(h:1≤k.length∧k.length≤100):nX k=true:=decide_eq_true h
theorem Bc(g:iB t n)(hk:1≤k.length∧k.length≤100):kX t k=0:=IE (Ip g.val) (adM hk)
theorem AG(g:iB t n)(k:K):gZ t k (dD t)=true↔∃row,(k,row)∈en t:=(DO g.val k).trans (AF g.val k)
theorem Ep(g:iB t n):gZ t k (dD t)=false↔∀x∈en t,x.1≠k:=by
 constructor
 ·exact fun h=>O9 g.val h
 intro h;cases hq:gZ t k (dD t) with
 | false=>rfl
 | true=>obtain⟨row,hr⟩:=(AG g k).1 hq;exact absurd rfl (h _ hr)
theorem adN(g:iB t n)(hk:1≤k.length∧k.length≤100)(hr:0≤row)(h:gZ t k (dD t)=true):oF t k row (dD t)=(vD,9):=by
 unfold oF;rw[if_pos (Bc g hk),if_neg w4,if_pos h]
theorem TG(g:iB t n)(hn:n≤300)(hk:1≤k.length∧k.length≤100)(hr:0≤row)(h:gZ t k (dD t)=false):oF t k row (dD t)=(gz t (dD t) k row,0):=by
 have:=(Eo g hn ((Ep g).1 h) hk hr).2.1;unfold oF;rw[if_pos (Bc g hk),if_neg w4,if_neg (by rw[h];decide),if_neg w4]
theorem Si(g:iB t n)(hk:1≤k.length∧k.length≤100)(h:gZ t k (dD t)=true):qP t k (dD t)=(gA t (dD t) k,0):=by
 unfold qP;rw[if_pos (Bc g hk),if_pos h]
theorem adO(g:iB t n)(hk:1≤k.length∧k.length≤100)(h:gZ t k (dD t)=false):findF t k (dD t)=(0,8):=by
 unfold findF;rw[if_pos (Bc g hk),if_neg (by rw[h];decide)]
theorem QK(g:iB t n)(hk:1≤k.length∧k.length≤100)(h:(k,row)∈en t):findF t k (dD t)=(row,0):=by
 unfold findF dW;rw[if_pos (Bc g hk),if_pos ((AG g k).2 ⟨row,h⟩)];obtain⟨_,_,e⟩:=(found g.val k row).1 h;rw[e]
theorem A4(g:iB t n):∀p∈t.af,p.keys.length≤maxLen∧p.kids.length≤maxLen:=abU g.val
variable {G:List (Nat×List Value)}
theorem QL(g:iB t n)(k:K)(row:Int):VP Tryz.prog G 85 [.agg (cT t),.list 1 (k.flatMap cB) k.length,.v (.int .i64 row)] (.dz [.agg (cT (oF t k row (dD t)).1),.v (.int .i64 (oF t k row (dD t)).2)]):=aaz t (dD t) k row (A4 g) fun _=>g.val
theorem QM(g:iB t n)(k:K):VP Tryz.prog G 93 [.agg (cT t),.list 1 (k.flatMap cB) k.length] (.dz [.agg (cT (qP t k (dD t)).1),.v (.int .i64 (qP t k (dD t)).2)]):=aav t (dD t) k (A4 g) fun _=>g.val
theorem JJ(g:iB t n)(k:K):VP Tryz.prog G 14 [.agg (cT t),.list 1 (k.flatMap cB) k.length] (.dz [.v (.int .i64 (findF t k (dD t)).1),.v (.int .i64 (findF t k (dD t)).2)]):=ae7 t (dD t) k (A4 g) fun _=>g.val
theorem adP(g:iB t n):VP Tryz.prog G 16 [.agg (cT t)] (.v (.int .i64 0)):=by have:=oX (G:=G) t (A4 g);rwa [Ip g.val] at this
noncomputable def ph(t:aE)(f eD:K):List (K×Int):=wH t (dD t) f eD
theorem TH(g:iB t n)(f eD:K)(hf:f.length≤100)(ht:eD.length≤100):VP Tryz.prog G 15 [.agg (cT t),.list 1 (f.flatMap cB) f.length,.list 1 (eD.flatMap cB) eD.length] (.dz [.list 2 ((ph t f eD).flatMap cE) (ph t f eD).length,.v (.int .i64 0)]):=by
 have:=adI (G:=G) t (dD t) (A4 g) (fun _=>g.val) f eD;unfold wB at this;rwa [if_pos (Ip g.val),if_pos ⟨hf,ht⟩] at this
theorem It(t:aE):ph t [] []=en t:=by
 unfold ph wH en;rw[abW,HL fun x _=>by simp[uV]]
theorem Sj(g:iB t n):VP Tryz.prog G 15 [.agg (cT t),.v (.slice none 0 0),.v (.slice none 0 0)] (.dz [.list 2 ((ph t [] []).flatMap cE) (ph t [] []).length,.v (.int .i64 0)]):=VC.eD (args':=[.agg (cT t),.v (.slice none 0 0),.v (.slice none 0 0)]) (TH g [] [] w7 w7) ⟨.inl rfl,.inr ⟨1,rfl,rfl⟩,.inr ⟨1,rfl,rfl⟩,trivial⟩

end Go.Proofs.YtbcmjoaggammcaaGreatDoor.Tw
namespace Go.Proofs.YtbcmjoaggammcaaGreatDoor.Ba
open List
open Go.Proofs.Tryz
open Go.RowKit V Pk Tr Vl Go.Proofs.YtbcmjoaggammcaaGreatDoor.Nm Pc Cd Ex Tw
structure aP where
 nm:ByteArray
 av:List cu
 rows:List (List Vl)
 ix:aE
def gB(r:List Vl):List D:=[.list 3 (r.flatMap cV) r.length]
theorem jZ(r:List Vl):(gB r).length=1:=rfl
theorem QN(r:List Vl):(gB r).all V.one=true:=rfl
def dG(t:aP):List D:=[.v (.string t.nm),.list 2 (t.av.flatMap cC) t.av.length,.list 1 (t.rows.flatMap gB) t.rows.length,.list 5 (t.ix.af.flatMap cP) t.ix.af.length,.v (.int .i64 t.ix.root)]
theorem jM(t:aP):(dG t).length=5:=rfl
def aR(b:List aP)(nm:ByteArray):Int:=dM (fun t=>t.nm.toList==nm.toList) b
def cX(r:List Vl):K:=(fS (r.take 1)).1
variable {G:List (Nat×List Value)}
theorem ab6(t:aP)(nm:ByteArray)(b:Nat):VC Tryz.prog G 62 [.agg (dG t),.v (.pointer (some ⟨b,0,none⟩))] [⟨b,9,1,[.v (.string nm)]⟩] (fun r S=>r = .v (.bool (t.nm.toList==nm.toList))∧S=[⟨b,9,1,[.v (.string nm)]⟩]):=by
 refine VC.body func62 rfl ntmps62 aO fun X0 w0 aZ=>?_;unfold dG;refine bX ?_;refine OD.box (ds:=[_,_,_,_,_]) an rfl rfl ot rfl rfl (fun b2=>?_);exact Wf
theorem aaA(ls:List aP)(I:Nat)(E:List D)(S:List ag)(p:aP→Bool)(fi:∀args w,(callFunc I args).run Tryz.prog w = .ok (.enter I args) w)(hp:∀x∈ls,VC Tryz.prog G I (.agg (dG x)::E) S (fun r S'=>r = .v (.bool (p x))∧S'=S))(hlen:ls.length≤1000000):VC Tryz.prog G 61 [.list 5 (ls.flatMap dG) ls.length,.ek (.func I) E] S (fun r S'=>r = .v (.int .i64 (dM p ls))∧S'=S):=by
 refine VC.body func61 rfl ntmps61 aO fun X0 w0 aZ=>?_;refine aC 1 ?_;refine OD.wk (Wk.dN (n:=19) (l':=[(0,_),(1,_)]) (S':=S) rfl mE fg) ?_;refine OD.nil ?_;refine aC 3 ?_;refine OD.wk (Wk.dN (n:=19) (l':=[(0,_),(1,_),(7,_),(8,_)]) (S':=S) rfl mE fg) ?_;refine OD.nil ?_;refine eB [0,1,7] (fun aW _ (k:Nat) aK=>(k≤ls.length)∧(∀x∈ls.take k,p x=false)∧aK=(⟨19,(8,.v (.int .i64 (k:Nat)))::aW,S⟩:St)) (fun (k:Nat)=>ls.length-k) 0 ⟨Nat.zero_le _,bq,rfl⟩ ?_;rintro k _ ⟨hk,h0,rfl⟩;refine aC 1 ?_;refine OD.wk (Wk.dN (n:=19) (l':=[(0,_),(1,_),(7,_),(8,_),(9,_)]) (S':=S) rfl mE fg) ?_;refine OD.nil ?_;refine aq (fun az aH=>?_) (fun az aH=>?_)
 ·refine aC 2 ?_;refine OD.wk (Wk.dN (n:=19) (l':=[(0,_),(1,_),(5,_),(7,_),(8,_)]) (S':=S) rfl mE fg) ?_;refine OD.nil ?_;refine aC 5 ?_;refine OD.j4 (f:=I) (args:=[_]) an rfl rfl (tc rfl lk) fi (hp (ls[k]'w4) (getElem_mem _)) rfl ⟨tc rfl lk,trivial⟩ (HX _) ?_;rintro _ S2 ⟨rfl,iq⟩;rw[iq];clear iq;refine OD.wk (Wk.dN (n:=19) (l':=[(0,_),(1,_),(5,_),(7,_),(8,_),(16,_)]) (S':=S) rfl mE fg) ?_;refine OD.nil ?_;refine aq (fun aG aV=>?_) (fun aG aV=>?_)
  ·refine aC 2 ?_;refine OD.wk (Wk.dN (n:=19) (l':=[(4,_)]) (S':=S) rfl mE fg) ?_;refine OD.nil ?_;refine aJ S ?_;refine⟨?_,rfl⟩;first|(rw[vQ w4 h0 tL])|(rw[uz w4 h0])
  refine dL 2 ?_;refine OD.wk (Wk.dN (n:=19) (l':=[(0,_),(1,_),(7,_),(8,_)]) (S':=S) rfl mE fg) ?_;refine OD.nil ?_;refine⟨k+1,_,cx,aM,w4,(by rw[take_succ_eq_append_getElem w4];intro x hx;rcases mem_append.1 hx with hx|hx;exact h0 x hx;simp only[mem_singleton] at hx;subst hx;assumption),rfl⟩
 refine aC 1 ?_;refine OD.wk (Wk.dN (n:=19) (l':=[(4,_)]) (S':=S) rfl mE fg) ?_;refine OD.nil ?_;refine aJ S ?_;refine⟨?_,rfl⟩;first|(rw[vQ w4 h0 tL])|(rw[uz w4 h0])
theorem pY(l:List aP)(hl:l.length≤1000)(nm:ByteArray):VP Tryz.prog G 38 [.list 5 ((l).flatMap dG) (l).length,.v (.string nm)] (.v (.int .i64 (aR l nm))):=by
 refine VC.body func38 rfl ntmps38 aO fun X0 w0 aZ=>?_;refine bX ?_;refine OD.box (ds:=[_]) an rfl rfl ot rfl rfl (fun b3=>?_);refine aj 8 [0,3] ?_;refine aC 1 ?_;refine bN (oW (ds:=[_]) rfl ⟨ot,trivial⟩) ?_;refine OD.call an rfl rfl rfl call61 (aaA l 62 [.v (.pointer (some ⟨b3,0,none⟩))] _ (fun t=>t.nm.toList==nm.toList) call62 (fun h _=>ab6 h nm b3) w4) ⟨ot,ot,trivial⟩ (jX (k:=0) rfl) ?_;rintro _ S2 ⟨rfl,iq⟩;rw[iq];clear iq;refine aj 8 [4] ?_;exact z51
theorem ab7(c:cu)(nm:ByteArray)(b:Nat):VC Tryz.prog G 120 [.agg (cC c),.v (.pointer (some ⟨b,0,none⟩))] [⟨b,9,1,[.v (.string nm)]⟩] (fun r S=>r = .v (.bool (c.n.toList==nm.toList))∧S=[⟨b,9,1,[.v (.string nm)]⟩]):=by
 refine VC.body func120 rfl ntmps120 aO fun X0 w0 aZ=>?_;exact z138
theorem HO(t:aP)(hl:t.av.length≤1000)(nm:ByteArray):VP Tryz.prog G 86 [.agg (dG t),.v (.string nm)] (.v (.int .i64 (bM t.av nm))):=by
 refine VC.body func86 rfl ntmps86 aO fun X0 w0 aZ=>?_;unfold dG;refine bX ?_;refine OD.box (ds:=[_,_,_,_,_]) an rfl rfl ot rfl rfl (fun b2=>?_);refine OD.box (ds:=[_]) an rfl rfl ot rfl rfl (fun b3=>?_);refine aj 9 [2,3] ?_;refine aC 2 ?_;refine bN (oW (ds:=[_]) rfl ⟨ot,trivial⟩) ?_;refine OD.call an rfl rfl rfl call119 (Pc.Ib t.av 120 [.v (.pointer (some ⟨b3,0,none⟩))] _ (fun c=>c.n.toList==nm.toList) call120 (fun h _=>ab7 h nm b3) w4) ⟨ot,ot,trivial⟩ (jX (k:=0) rfl) ?_;rintro _ S2 ⟨rfl,iq⟩;rw[iq];clear iq;refine aj 9 [4] ?_;exact z51

end Go.Proofs.YtbcmjoaggammcaaGreatDoor.Ba
namespace Go.Proofs.YtbcmjoaggammcaaGreatDoor.Ba
open List
open Go.Proofs.Tryz
open Go.RowKit V Pk Tr Vl Go.Proofs.YtbcmjoaggammcaaGreatDoor.Nm Pc Cd Ex Tw
variable {G:List (Nat×List Value)} {m:Int}
variable {S:List ag} {t:aP} {n:Nat} {p:List Int×Int}
def B8(k:K)(r:D)(S:List ag):Prop:=∃ad cap,r = .v (.slice ad k.length cap)∧bw 5 1 (k.flatMap cB) k.length ad cap S
theorem B8.view{k:K}{r:D}(h:B8 k r S):View S r (.list 1 (k.flatMap cB) k.length):=by
 obtain⟨ad,cap,rfl,ho⟩:=h;exact lj ho (cq o9 _) (fun B h=>h)
theorem B8.flat{k:K}{r:D}(h:B8 k r S):kC r=true∧∀B∈S,∀d∈B.cs,kC d=true:=by
 obtain⟨ad,cap,rfl,ho⟩:=h;refine⟨rfl,fun B E d hd=>?_⟩;rcases ho with ⟨_,_,_,_,rfl⟩|⟨b,_,_,_,rfl⟩
 ·cases E
 rw[mem_singleton] at E;subst E;obtain⟨n,_,hn⟩:=mem_flatMap.1 hd;rw[cB,mem_singleton] at hn;subst hn;rfl
theorem JK(hG:(1,[Value.int .i64 m])∈G)(r:List Vl)(h1:1≤r.length)(h2:r.length≤1000000)(aS:∀v∈r,v.Ok):VC Tryz.prog G 66 [.list 3 (r.flatMap cV) r.length] [] (B8 (cX r)):=by
 refine VC.body func66 rfl ntmps66 aO fun X0 w0 aZ=>?_;have dy:maxLen=9223372036854775807:=rfl;refine ae [0] ?_;refine aC 1 ?_;refine bN (ei (h:=1) rfl ot trivial ⟨_,bJ⟩ (by exact ow fh (fun h=>by cases h) runUnderlying27 sizeOf30 w4)) ?_;refine OD.call an rfl rfl rfl call13 (Tj hG (r.take 1) oH (fun v U=>aS v (mem_of_mem_take U))) ⟨ot,trivial⟩ (eN _) ?_;rintro _ O ⟨E,I,rfl,jE⟩;refine OD.perm (Perm.of_eq (append_nil O)) ?_;refine aj 12 [3] ?_;refine ae [2] ?_;refine aJ O ?_;exact⟨E,I,rfl,jE⟩
theorem yN(hG:(1,[Value.int .i64 m])∈G)(r:List Vl)(h1:1≤r.length)(h2:r.length≤1000000)(aS:∀v∈r,v.Ok):VP Tryz.prog G 66 [.list 3 (r.flatMap cV) r.length] (.list 1 ((cX r).flatMap cB) (cX r).length):=(JK hG r h1 h2 aS).cover fun r S hr=>hr.view
theorem Za:(Tryz.prog.info? 30).map (fun i=>(i.zero,i.size,i.bytes))=some (some (.agg #[.int .i64 0,.int .i64 0,.string ⟨#[]⟩]),3,32):=by kernel_rfl
theorem Pb(a:List Vl)(ha:a.length≤1000000):VC Tryz.prog G 39 [.list 3 (a.flatMap cV) a.length] [] (fun r S=>∃ad cap,r = .v (.slice ad a.length cap)∧bw 30 3 (a.flatMap cV) a.length ad cap S):=by
 refine VC.body func39 rfl ntmps39 aO fun X0 w0 aZ=>?_;have dy:maxLen=9223372036854775807:=rfl;refine ae [0] ?_;refine aC 1 ?_;refine OD.yT an rfl rfl ot bJ underlying27 (fun O xD=>?_);refine aj 8 [0,4] ?_;refine aq (fun az aH=>?_) (fun az aH=>?_)
 ·exact Gk
 refine bX ?_;refine OD.yU an rfl rfl runUnderlying27 sizeOf30 (fun b5=>?_);refine aD 1 ?_;refine OD.oV (ls:=([]:List Vl)) (new:=a) (Sq:=[⟨b5,30,0*3,[]⟩]) fh ER an rfl rfl underlying27 Za rfl w7 runUnderlying27 sizeOf30 ot (.inr ⟨b5,rfl,Nat.le_refl _,Nat.zero_le _,rfl⟩) (dx (A:=[])) ot gU gU (fun E I S7 pH=>?_);exact Gm
theorem Pd(a:List Vl)(ha:a.length≤1000000):VP Tryz.prog G 39 [.list 3 (a.flatMap cV) a.length] (.list 3 (a.flatMap cV) a.length):=(Pb a ha).cover fun r S ⟨ad,cap,h,ho⟩=>by subst h;exact lj ho (cq fh _) (fun B h=>h)
theorem YB:(Tryz.prog.info? 111).map (fun i=>(i.zero,i.size,i.bytes))=some (some (.agg #[.string ⟨#[]⟩,.int .i64 0]),2,24):=by kernel_rfl
theorem aaB(a:List cu)(ha:a.length≤1000000):VC Tryz.prog G 82 [.list 2 (a.flatMap cC) a.length] [] (fun r S=>∃ad cap,r = .v (.slice ad a.length cap)∧bw 111 2 (a.flatMap cC) a.length ad cap S):=by
 refine VC.body func82 rfl ntmps82 aO fun X0 w0 aZ=>?_;have dy:maxLen=9223372036854775807:=rfl;refine ae [0] ?_;refine aC 1 ?_;refine OD.yT an rfl rfl ot bJ underlying38 (fun O xD=>?_);refine aj 8 [0,4] ?_;refine aq (fun az aH=>?_) (fun az aH=>?_)
 ·exact Gk
 refine bX ?_;refine OD.yU an rfl rfl runUnderlying38 sizeOf111 (fun b5=>?_);refine aD 1 ?_;refine OD.oV (ls:=([]:List cu)) (new:=a) (Sq:=[⟨b5,111,0*2,[]⟩]) lm aeO an rfl rfl underlying38 YB rfl w7 runUnderlying38 sizeOf111 ot (.inr ⟨b5,rfl,Nat.le_refl _,Nat.zero_le _,rfl⟩) (dx (A:=[])) ot gU gU (fun E I S7 pH=>?_);exact Gm
theorem Pe(a:List cu)(ha:a.length≤1000000):VP Tryz.prog G 82 [.list 2 (a.flatMap cC) a.length] (.list 2 (a.flatMap cC) a.length):=(aaB a ha).cover fun r S ⟨ad,cap,h,ho⟩=>by subst h;exact lj ho (cq lm _) (fun B h=>h)
theorem aaC(a:List Int)(ha:a.length≤1000000):VP Tryz.prog G 114 [.list 1 (a.flatMap Tw.cI) a.length] (.list 1 (a.flatMap Tw.cI) a.length):=(Tw.nJ a ha).cover fun r S ⟨ad,cap,h,ho⟩=>by subst h;exact lj ho (cq Tw.ey _) (fun B h=>h)

structure cf where
 r:List Vl
 ad:Option Addr
 cap:Nat
 S:List ag
def gR(o:cf):List D:=[.v (.slice o.ad o.r.length o.cap)]
theorem uQ(o:cf):(gR o).length=1:=rfl
theorem TI(o:cf):(gR o).all V.one=true:=rfl
def bR(o:cf):List ag:=o.S
def nG(o:cf):Prop:=bw 30 3 (o.r.flatMap cV) o.r.length o.ad o.cap o.S
theorem EM{S:List ag}:∀{L:List cf},(∀o∈L,nG o)→(∀B∈L.flatMap bR,B∈S)→gv S (L.flatMap gR) ((L.map cf.r).flatMap gB)
 | [],_,_=>trivial
 | o::L,h,hs=>by
  rw[map_cons,flatMap_cons,flatMap_cons];refine gv.append ⟨lj (h o mem_cons_self) (cq fh _) (fun B E=>hs B ?_),trivial⟩ (EM (fun o ho=>h o (mem_cons_of_mem _ ho)) fun B E=>hs B ?_)
  ·rw[flatMap_cons];exact mem_append_left _ E
  rw[flatMap_cons];exact mem_append_right _ E
abbrev sj(L:List cf)(ad:Option Addr)(cap:Nat)(S:List ag):Prop:=bw 27 1 (L.flatMap gR) L.length ad cap S
structure aU where
 t:aP
 cs:List D
 ad:Option Addr
 cap:Nat
 sr:List ag
 sx:List ag
variable {o:aU}
def gT(o:aU):List D:=[.v (.string o.t.nm),.list 2 (o.t.av.flatMap cC) o.t.av.length,.v (.slice o.ad o.t.rows.length o.cap),.list 5 (o.t.ix.af.flatMap cP) o.t.ix.af.length,.v (.int .i64 o.t.ix.root)]
theorem uJ(o:aU):(gT o).length=5:=rfl
theorem TJ(o:aU):(gT o).all V.one=true:=rfl
def bT(o:aU):List ag:=o.sr++o.sx
structure okW (o:aU):Prop where
 own:bw 27 1 o.cs o.t.rows.length o.ad o.cap o.sr
 agz:∀S:List ag,(∀B∈o.sx,B∈S)→gv S o.cs (o.t.rows.flatMap gB)
def qA(o:aU):Prop:=∃L:List cf,o.cs=L.flatMap gR∧o.sx=L.flatMap bR∧(∀x∈L,nG x)∧L.map cf.r=o.t.rows∧sj L o.ad o.cap o.sr
theorem qA.w(h:qA o):okW o:=by
 obtain⟨L,h1,h2,h3,h4,h5⟩:=h;refine⟨?_,fun S hS=>?_⟩
 ·rw[h1,←h4,length_map];exact h5
 rw[h1,←h4];exact EM h3 (by rw[←h2];exact hS)
theorem Pf(h:okW o)(hs:∀B∈bT o,B∈S):View S (.v (.slice o.ad o.t.rows.length o.cap)) (.list 1 (o.t.rows.flatMap gB) o.t.rows.length) :=
 Ay h.own (h.agz S fun B E=>hs B (mem_append_right _ E)) (cq jZ _) (fun B E=>hs B (mem_append_left _ E))
theorem Sk(h:okW o)(hs:∀B∈bT o,B∈S):View S (.agg (gT o)) (.agg (dG o.t)):=uD ⟨eP,eP,Pf h hs,eP,eP,trivial⟩
theorem Sn{S:List ag}:∀{L:List aU},(∀o∈L,okW o)→(∀B∈L.flatMap bT,B∈S)→gv S (L.flatMap gT) ((L.map aU.t).flatMap dG)
 | [],_,_=>trivial
 | o::L,h,hs=>by
  rw[map_cons,flatMap_cons,flatMap_cons];refine gv.append ⟨eP,eP,Pf (h o mem_cons_self) (fun B E=>hs B ?_),eP,eP,trivial⟩ (Sn (fun o ho=>h o (mem_cons_of_mem _ ho)) fun B E=>hs B ?_)
  ·rw[flatMap_cons];exact mem_append_left _ E
  rw[flatMap_cons];exact mem_append_right _ E
abbrev zz(L:List aU)(ad:Option Addr)(cap:Nat)(S:List ag):Prop:=bw 48 5 (L.flatMap gT) L.length ad cap S
theorem E3{Sx:List ag}{L:List aU}{ad:Option Addr}{cap:Nat}(ho:zz L ad cap Sx)(h:∀o∈L,okW o)(hs:∀B∈Sx++L.flatMap bT,B∈S):View S (.v (.slice ad L.length cap)) (.list 5 ((L.map aU.t).flatMap dG) L.length) :=
 Ay ho (Sn h fun B E=>hs B (mem_append_right _ E)) (by rw[cq jM,length_map]) (fun B E=>hs B (mem_append_left _ E))
def agA(t:aP)(r:D)(S:List ag):Prop:=∃o:aU,o.t=t∧r = .agg (gT o)∧qA o∧S=bT o
def Kh(l:List aP)(r:D)(S:List ag):Prop:=∃(L:List aU) (ad:Option Addr) (cap:Nat) (Sx:List ag),r = .agg [.v (.slice ad L.length cap)]∧zz L ad cap Sx∧(∀o∈L,qA o)∧L.map aU.t=l∧S=Sx++L.flatMap bT
theorem Kh.view{l:List aP}{r:D}(h:Kh l r S):View S r (.agg [.list 5 (l.flatMap dG) l.length]):=by
 obtain⟨L,ad,cap,Sx,rfl,ho,aS,rfl,rfl⟩:=h;rw[length_map];exact uD ⟨E3 ho (fun o h=>(aS o h).w) (fun B h=>h),trivial⟩
theorem Ss(L:List cf)(o:cf):(L++[o]).flatMap bR=L.flatMap bR++bR o:=by simp
theorem Su(L:List aU)(o:aU):(L++[o]).flatMap bT=L.flatMap bT++bT o:=by simp
theorem Zb:(Tryz.prog.info? 49).map (fun i=>(i.zero,i.size,i.bytes))=some (some (.slice none 0 0),1,24):=by kernel_rfl
theorem Zc:(Tryz.prog.info? 93).map (fun i=>(i.zero,i.size,i.bytes))=some (some (.agg #[.bool false,.slice none 0 0,.slice none 0 0,.slice none 0 0,.int .i64 0]),5,88):=by kernel_rfl
theorem Zd(t:aE)(h:Nat)(v:Valid t h):VC Tryz.prog G 83 [.agg (cT t)] [] (fun r S=>∃ad cap,r = .agg [.v (.slice ad t.af.length cap),.v (.int .i64 t.root)]∧bw 93 5 (t.af.flatMap cP) t.af.length ad cap S):=by
 refine VC.body func83 rfl ntmps83 aO fun X0 w0 aZ=>?_;unfold Tw.cT;have dy:maxLen=9223372036854775807:=rfl;have M5:=v.mY;refine bX ?_;refine OD.box (ds:=[_,_]) an rfl rfl ot rfl rfl (fun b1=>?_);refine OD.alloc (ds:=[_,_]) an rfl rfl zeroValue46 rfl (fun b2=>?_);refine aj 53 [1,2] ?_;refine aC 3 ?_;refine OD.alloc (ds:=[_,_]) an rfl rfl zeroValue46 rfl (fun b3=>?_);refine aN 0 [_,_] sizeOf46 ?_;refine aj 53 [1,2,3] ?_;refine bX ?_;refine bf [2,3,13,14,15] ?_;refine eB [2,3,13,14] (fun aW _ (E:Nat×List cR×Option Addr×Nat×List ag) aK=>match E with|(i,L,dK,cY,Sx)=>(i≤t.af.length)∧(L=t.af.take i)∧(bw 93 5 ((L).flatMap cP) (L).length dK cY Sx)∧aK=(⟨53,(15,.v (.int .i64 (i:Nat)))::aW,(⟨b3,46,2,[.v (.slice dK (L).length cY),.v (.int .i64 t.root)]⟩::⟨b2,46,2,[.v (.slice none 0 0),.v (.int .i64 0)]⟩::Sx)⟩:St)) (fun (E:Nat×List cR×Option Addr×Nat×List ag)=>match E with|(i,L,dK,cY,Sx)=>t.af.length-i) (0,([]:List cR),none,0,[]) ⟨(Nat.zero_le _),rfl,(bw.cast iw kJ),rfl⟩ ?_;rintro⟨i,L,dK,cY,Sx⟩ _ ⟨hi,hL,dU,rfl⟩;refine ae [2,3,13,14,15,16] ?_;refine aq (fun az aH=>?_) (fun az aH=>?_)
 ·have aa:i<t.af.length:=(by omega)
  have rA:L.length=i:=(by rw[hL,length_take];omega)
  have po:=v.page _ (getElem_mem aa);have mB:=po.eK;have Xp:=po.hlen;have Fq:(t.af[i]'aa).kids.length≤6:=by
      exact Wp
  refine aC 2 ?_;refine OD.alloc (ds:=[_,_,_,_,_]) an rfl rfl zeroValue93 rfl (fun b5=>?_);refine aN 0 [_,_,_,_,_] sizeOf93 ?_;refine aj 53 [2,3,5,13,14,15] ?_;refine CD.seq ?_;refine uf 12 11 [2,3,5,6,13,14,15,29] ?_;refine cU (aaC (t.af[i]'aa).kids w4) ?_;refine cU (jL (t.af[i]'aa).high w4) ?_;refine ni 3 ?_;refine rj ?_;refine jR ?_;refine⟨rfl,fun b6=>?_⟩;refine aN 0 [_,_,_,_,_] sizeOf93 ?_;refine aj 53 [2,3,5,6,13,14,15] ?_;refine bX ?_;refine bf [2,3,6,13,14,15,31,32,33] ?_
  refine eB [2,3,6,13,14,15,31,32] (fun aW _ (E:Nat×List K×Option Addr×Nat×List ag×Option Addr×Nat×List ag) aK=>match E with|(j,M,ij,ik,Sy,dK,cY,Sx)=>(j≤(t.af[i]'aa).keys.length)∧(M=(t.af[i]'aa).keys.take j)∧(bw 49 1 ((M).flatMap Tw.cK) (M).length ij ik Sy)∧(bw 93 5 ((L).flatMap cP) (L).length dK cY Sx)∧aK=(⟨53,(33,.v (.int .i64 (j:Nat)))::aW,(⟨b6,93,5,[.v (.bool (t.af[i]'aa).leaf),.v (.slice ij (M).length ik),.list 1 ((t.af[i]'aa).kids.flatMap Tw.cI) (t.af[i]'aa).kids.length,.list 1 ((t.af[i]'aa).high.flatMap cB) (t.af[i]'aa).high.length,.v (.int .i64 (t.af[i]'aa).next)]⟩::⟨b3,46,2,[.v (.slice dK L.length cY),.v (.int .i64 t.root)]⟩::⟨b2,46,2,[.v (.slice none 0 0),.v (.int .i64 0)]⟩::(Sy++Sx))⟩:St)) (fun (E:Nat×List K×Option Addr×Nat×List ag×Option Addr×Nat×List ag)=>match E with|(j,M,ij,ik,Sy,dK,cY,Sx)=>(t.af[i]'aa).keys.length-j) (0,([]:List K),none,0,[],dK,cY,Sx) ⟨(Nat.zero_le _),rfl,(bw.cast iw kJ),(bw.cast dU kJ),rfl⟩ ?_;rintro⟨j,M,ij,ik,Sy,dK,cY,Sx⟩ _ ⟨hj,hM,Ds,dU,rfl⟩;refine ae [2,3,6,13,14,15,31,32,33,34] ?_;refine aq (fun aG aV=>?_) (fun aG aV=>?_)
  ·have lM:j<(t.af[i]'aa).keys.length:=(by omega)
   have K3:=(po.kW _ (getElem_mem lM)).2;have xp:M.length=j:=(by rw[hM,length_take];omega)
   refine ae [2,3,6,8,13,14,15,31,32,33] ?_;refine fK 6 (ap (take 3 _)) ?_ (fun _ h=>(Sublist.map _ (take_sublist _ _)).subset h);refine ax 0 rfl (c8 1) ?_;refine ax 1 rfl (dB 0) ?_;refine ax 2 rfl bj ?_;refine dm.later rfl ?_;refine AD.one (i:=3) ay ?_;refine jv call59 (jL (t.af[i]'aa).keys[j] w4) ?_;refine AD.one (i:=4) ay ?_;refine jj (bZ 0 [_]) [.slice none 0 0] [_] zeroValue49 runUnderlying90 sizeOf49 (fun vw=>?_);refine jk 0 41 1 1 ?_;refine AD.one (i:=5) ay ?_;refine bg.dZ (ls:=(M)) (new:=[(t.af[i]'aa).keys[j]]) (Sq:=Sy) Tw.gb Tw.pc rfl an rfl rfl underlying90 Zb rfl w7 ot Ds (ou (A:=[_,_,_])) ot bq vp gU (fun U I aja ajb=>?_);refine AD.perm (iY (S1:=[⟨U,49,I*1,flatMap Tw.cK ((M)++[(t.af[i]'aa).keys[j]])⟩]) (A:=[_,_,_])) ?_;refine eA ?_;refine aD 1 ?_;refine aN 0 [_,_,_,_,_] sizeOf90 ?_;refine aj 53 [2,3,6,13,14,15,31,32,33] ?_;refine sN ?_;refine bf [2,3,6,13,14,15,31,32,33] ?_;refine⟨((j+1),(M++[(t.af[i]'aa).keys[j]]),(some ⟨U,0,none⟩),I,[⟨U,49,I*1,flatMap Tw.cK ((M)++[(t.af[i]'aa).keys[j]])⟩],dK,cY,Sx),_,cx,aM,w4,(by rw[hM];exact oU lM),(bw.cast (bI aja ajb) kJ),(bw.cast dU kJ),rfl⟩
  refine CD.exit ?_;have hMk:M=(t.af[i]'aa).keys:=(by rw[hM,take_of_length_le w4])
  subst hMk;refine CD.H9 (i:=1) (j:=0) (Sq:=Sy) (S':=⟨b6,93,5,[.v (.bool (t.af[i]'aa).leaf),.list 1 ((t.af[i]'aa).keys.flatMap Tw.cK) (t.af[i]'aa).keys.length,.list 1 ((t.af[i]'aa).kids.flatMap Tw.cI) (t.af[i]'aa).kids.length,.list 1 ((t.af[i]'aa).high.flatMap cB) (t.af[i]'aa).high.length,.v (.int .i64 (t.af[i]'aa).next)]⟩::⟨b3,46,2,[.v (.slice dK L.length cY),.v (.int .i64 t.root)]⟩::⟨b2,46,2,[.v (.slice none 0 0),.v (.int .i64 0)]⟩::Sx) Ds (cq Tw.gb _) (ou (A:=[_,_,_])) rfl rfl rfl rfl ?_;refine dL 3 ?_;refine ee (bZ 0 [_]) [.bool false,.slice none 0 0,.slice none 0 0,.slice none 0 0,.int .i64 0] [_,_,_,_,_] zeroValue93 runUnderlying44 sizeOf93 (fun Nn=>?_);refine fG 0 48 5 1 ?_;refine OD.dZ (ls:=(L)) (new:=[(t.af[i]'aa)]) (Sq:=Sx) E1 ae1 an rfl rfl underlying44 Zc rfl w7 ot dU (dx (A:=[_,_,_])) ot bq mZ nc (fun Z O ajc ajd=>?_);refine OD.perm (dV (S1:=[⟨Z,93,O*5,flatMap cP ((L)++[(t.af[i]'aa)])⟩]) (A:=[_,_,_])) ?_;refine aD 1 ?_;refine aN 1 [_,_] sizeOf44 ?_;refine aj 53 [2,3,13,14,15] ?_;refine cj [2,3,13,14,15] ?_;refine⟨((i+1),(L++[(t.af[i]'aa)]),(some ⟨Z,0,none⟩),O,[⟨Z,93,O*5,flatMap cP ((L)++[(t.af[i]'aa)])⟩]),_,cx,aM,w4,(by rw[hL];exact oU aa),(bw.cast (bI ajc ajd) kJ),rfl⟩
 refine aC 1 ?_;refine aN 1 [_,_] sizeOf46 ?_;refine aj 53 [2] ?_;refine aJ Sx ?_;have hLe:L=t.af:=(by rw[hL,take_of_length_le w4])
 subst hLe;exact⟨dK,cY,rfl,dU⟩
theorem Ze(t:aE)(h:Nat)(v:Valid t h):VP Tryz.prog G 83 [.agg (cT t)] (.agg (cT t)):=(Zd t h v).cover fun r S ⟨ad,cap,h,ho⟩=>by subst h;exact uD ⟨lj ho (cq E1 _) (fun B h=>h),eP,trivial⟩
structure Be (t:aP):Prop where
 av:t.av.length≤1000
 rows:t.rows.length≤1000
 row:∀r∈t.rows,r.length≤1000
 ix:∃h,Valid t.ix h
theorem Zf:(Tryz.prog.info? 27).map (fun i=>(i.zero,i.size,i.bytes))=some (some (.slice none 0 0),1,24):=by kernel_rfl
theorem E2(t:aP)(hs:Be t):VC Tryz.prog G 46 [.agg (dG t)] [] (agA t):=by
 refine VC.body func46 rfl ntmps46 aO fun X0 w0 aZ=>?_;unfold dG;have dy:maxLen=9223372036854775807:=rfl;have hc:=hs.av;have hn:=hs.rows;obtain⟨h,v⟩:=hs.ix;have U:=Ze (G:=G) t.ix h v;unfold Tw.cT at U;refine bX ?_;refine OD.box (ds:=[_,_,_,_,_]) an rfl rfl ot rfl rfl (fun b1=>?_);refine OD.alloc (ds:=[_,_,_,_,_]) an rfl rfl zeroValue48 rfl (fun b2=>?_);refine aj 31 [1,2] ?_;refine CD.seq ?_;refine uf 10 9 [1,2,3,14] ?_;refine cU (Pe t.av w4) ?_;refine cU (U) ?_;refine ni 1 ?_;refine rj ?_;refine jR ?_;refine⟨rfl,fun b3=>?_⟩;refine aN 0 [_,_,_,_,_] sizeOf48 ?_;refine aj 31 [1,2,3] ?_;refine ae [2,3,16,17,18] ?_;refine eB [2,3,16,17] (fun aW _ (I:Nat×List cf×Option Addr×Nat×List ag) aK=>match I with|(i,L,dK,cY,Sx)=>(i≤t.rows.length)∧(L.map cf.r=t.rows.take i)∧(∀o∈L,nG o)∧(sj L dK cY Sx)∧aK=(⟨31,(18,.v (.int .i64 (i:Nat)))::aW,(⟨b3,48,5,[.v (.string t.nm),.list 2 (t.av.flatMap cC) t.av.length,.v (.slice dK L.length cY),.list 5 (t.ix.af.flatMap cP) t.ix.af.length,.v (.int .i64 t.ix.root)]⟩::⟨b2,48,5,[.v (.string ⟨#[]⟩),.v (.slice none 0 0),.v (.slice none 0 0),.v (.slice none 0 0),.v (.int .i64 0)]⟩::(Sx++L.flatMap bR))⟩:St)) (fun (I:Nat×List cf×Option Addr×Nat×List ag)=>match I with|(i,L,dK,cY,Sx)=>t.rows.length-i) (0,([]:List cf),none,0,[]) ⟨(Nat.zero_le _),rfl,(fun o h=>by cases h),iw,rfl⟩ ?_;rintro⟨i,L,dK,cY,Sx⟩ _ ⟨hi,hL,aS,dU,rfl⟩
 refine ae [2,3,16,17,18,19] ?_;refine aq (fun az aH=>?_) (fun az aH=>?_)
 ·have aa:i<t.rows.length:=(by omega)
  have rA:L.length=i:=(by have:=congrArg length hL;rw[length_map,length_take] at this;omega)
  have ry:=hs.row _ (getElem_mem aa);refine ae [2,3,5,16,17,18] ?_;refine fK 6 (ap (take 2 _)) ?_ (fun _ h=>(Sublist.map _ (take_sublist _ _)).subset h);refine ax 0 rfl (c8 2) ?_;refine ax 1 rfl (dB 0) ?_;refine ax 2 rfl bj ?_;refine dm.later rfl ?_;refine AD.one (i:=3) ay ?_;refine bg.call rfl an rfl rfl rfl call39 (Pb (t.rows[i]'aa) w4) ⟨ot,trivial⟩ (eN _) (fun b hb=>by simp[ap,St.put] at hb ⊢;first|(simp[hb];done)|(rcases hb with hb|hb<;>simp[hb])|(rcases hb with hb|hb|hb<;>simp[hb])) ?_;rintro _ Sz ⟨lH,lI,rfl,xX⟩;refine AD.perm (iY (A:=[_,_])) ?_;have vu:(L++[(⟨(t.rows[i]'aa),lH,lI,Sz⟩:cf)]).map cf.r=t.rows.take (i+1):=(by rw[map_append,hL];exact oU aa)
  have jE:∀o∈L++[(⟨(t.rows[i]'aa),lH,lI,Sz⟩:cf)],nG o:=fun o ho=>by rcases mem_append.1 ho with ho|ho;exact aS o ho;rw[mem_singleton] at ho;subst ho;exact xX
  refine AD.one (i:=4) ay ?_;refine jj (bZ 0 [_]) [.slice none 0 0] [_] zeroValue27 runUnderlying33 sizeOf27 (fun b26=>?_);refine jk 0 26 1 1 ?_;refine AD.one (i:=5) ay ?_;refine bg.dZ (ls:=L) (new:=[(⟨(t.rows[i]'aa),lH,lI,Sz⟩:cf)]) (Sq:=Sx) uQ TI rfl an rfl rfl underlying33 Zf rfl w7 ot dU (sX (A:=[_,_])) ot bq mZ nc (fun O E Z aje=>?_);refine AD.perm (vT (S2:=[⟨O,27,E*1,flatMap gR (L++[(⟨(t.rows[i]'aa),lH,lI,Sz⟩:cf)])⟩]) (A:=[_,_])) ?_;refine AD.perm (S':=⟨b3,48,5,[.v (.string t.nm),.list 2 (t.av.flatMap cC) t.av.length,.v (.slice dK L.length cY),.list 5 (t.ix.af.flatMap cP) t.ix.af.length,.v (.int .i64 t.ix.root)]⟩::⟨b2,48,5,[.v (.string ⟨#[]⟩),.v (.slice none 0 0),.v (.slice none 0 0),.v (.slice none 0 0),.v (.int .i64 0)]⟩::([⟨O,27,E*1,flatMap gR (L++[(⟨(t.rows[i]'aa),lH,lI,Sz⟩:cf)])⟩]++(L++[(⟨(t.rows[i]'aa),lH,lI,Sz⟩:cf)]).flatMap bR)) (iv fun iU=>by rw[Ss];simp only[bR,map_append,map_cons,map_nil,sum_append,sum_cons,sum_nil];omega) ?_;refine eA ?_;refine aD 1 ?_;refine aN 0 [_,_,_,_,_] sizeOf33 ?_;refine aj 31 [2,3,16,17,18] ?_;refine cj [2,3,16,17,18] ?_;refine⟨((i+1),(L++[(⟨(t.rows[i]'aa),lH,lI,Sz⟩:cf)]),(some ⟨O,0,none⟩),E,[⟨O,27,E*1,flatMap gR (L++[(⟨(t.rows[i]'aa),lH,lI,Sz⟩:cf)])⟩]),_,cx,aM,w4,vu,jE,(bI Z aje),rfl⟩
 refine aC 1 ?_;refine aN 1 [_,_,_,_,_] sizeOf48 ?_;refine aj 31 [2] ?_;refine aJ (Sx++L.flatMap bR) ?_;have uy:L.map cf.r=t.rows:=(by rw[hL,take_of_length_le w4])
 have hLn:t.rows.length=L.length:=(by rw[←uy,length_map])
 exact⟨⟨t,L.flatMap gR,dK,cY,Sx,L.flatMap bR⟩,rfl,(by unfold gT;rw[hLn]),⟨L,rfl,rfl,aS,uy,dU⟩,rfl⟩
theorem Zg:(Tryz.prog.info? 48).map (fun i=>(i.zero,i.size,i.bytes))=some (some (.agg #[.string ⟨#[]⟩,.slice none 0 0,.slice none 0 0,.slice none 0 0,.int .i64 0]),5,96):=by kernel_rfl
theorem Pg(l:List aP)(hl:l.length≤1000)(H:∀t∈l,Be t):VC Tryz.prog G 28 [.agg [.list 5 (l.flatMap dG) l.length]] [] (Kh l):=by
 refine VC.body func28 rfl ntmps28 aO fun X0 w0 aZ=>?_;have dy:maxLen=9223372036854775807:=rfl;refine bX ?_;refine OD.box (ds:=[_]) an rfl rfl ot rfl rfl (fun b1=>?_);refine OD.alloc (ds:=[_]) an rfl rfl zeroValue25 rfl (fun b2=>?_);refine aj 22 [1,2] ?_;refine bX ?_;refine OD.alloc (ds:=[_]) an rfl rfl zeroValue25 rfl (fun b3=>?_);refine aj 22 [1,2,3] ?_;refine ae [2,3,7,8,9] ?_;refine eB [2,3,7,8] (fun aW _ (I:Nat×List aU×Option Addr×Nat×List ag) aK=>match I with|(i,L,dK,cY,Sx)=>(i≤l.length)∧(L.map aU.t=l.take i)∧(∀o∈L,qA o)∧(zz L dK cY Sx)∧aK=(⟨22,(9,.v (.int .i64 (i:Nat)))::aW,(⟨b3,25,1,[.v (.slice dK L.length cY)]⟩::⟨b2,25,1,[.v (.slice none 0 0)]⟩::(Sx++L.flatMap bT))⟩:St)) (fun (I:Nat×List aU×Option Addr×Nat×List ag)=>match I with|(i,L,dK,cY,Sx)=>l.length-i) (0,([]:List aU),none,0,[]) ⟨(Nat.zero_le _),rfl,(fun o h=>by cases h),iw,rfl⟩ ?_;rintro⟨i,L,dK,cY,Sx⟩ _ ⟨hi,hL,aS,dU,rfl⟩;refine ae [2,3,7,8,9,10] ?_;refine aq (fun az aH=>?_) (fun az aH=>?_)
 ·have aa:i<l.length:=(by omega)
  have rA:L.length=i:=(by have:=congrArg length hL;rw[length_map,length_take] at this;omega)
  refine aC 2 ?_;refine OD.alloc (ds:=[_,_,_,_,_]) an rfl rfl zeroValue48 rfl (fun b5=>?_);refine aN 0 [_,_,_,_,_] sizeOf48 ?_;refine aj 22 [2,3,5,7,8,9] ?_;refine fK 6 (ap (take 3 _)) ?_ (fun _ h=>(Sublist.map _ (take_sublist _ _)).subset h);refine ax 0 rfl (c8 0) ?_;refine ax 1 rfl (dB 1) ?_;refine ax 2 rfl (cJ (mk:=Op.load 48) rfl ot (by first|exact pX (k:=0) (ds:=[_,_,_,_,_]) rfl rfl isAgg48 sizeOf48 rfl rfl|exact jN jM isAgg48 sizeOf48 w5|exact jN uJ isAgg48 sizeOf48 w5|exact dJ (k:=0) jM rfl rfl rfl isAgg48 sizeOf48 w5|exact dJ (k:=1) jM rfl rfl rfl isAgg48 sizeOf48 w5|exact dJ (k:=2) jM rfl rfl rfl isAgg48 sizeOf48 w5|exact dJ (k:=0) uJ rfl rfl rfl isAgg48 sizeOf48 w5|exact dJ (k:=1) uJ rfl rfl rfl isAgg48 sizeOf48 w5|exact dJ (k:=2) uJ rfl rfl rfl isAgg48 sizeOf48 w5|exact qb (ds:=[_,_,_,_,_]) isAgg48 sizeOf48 rfl rfl)) ?_;refine dm.later rfl ?_;refine AD.one (i:=3) ay ?_;refine bg.call rfl an rfl rfl rfl call46 (E2 (l[i]'aa) (H _ (getElem_mem aa))) ⟨ot,trivial⟩ (eN _) (fun b hb=>by simp[ap,St.put] at hb ⊢;first|(simp[hb];done)|(rcases hb with hb|hb<;>simp[hb])|(rcases hb with hb|hb|hb<;>simp[hb])) ?_;rintro _ _ ⟨o,GQ,rfl,CS,rfl⟩;refine AD.perm (iY (A:=[_,_,_])) ?_;have vu:(L++[o]).map aU.t=l.take (i+1):=(by rw[map_append,hL,map_cons,map_nil,GQ];exact oU aa)
  have jE:∀x∈L++[o],qA x:=fun x hx=>by rcases mem_append.1 hx with hx|hx;exact aS x hx;rw[mem_singleton] at hx;subst hx;exact CS
  refine AD.one (i:=4) ay ?_;refine jj (bZ 0 [_]) [.string ⟨#[]⟩,.slice none 0 0,.slice none 0 0,.slice none 0 0,.int .i64 0] [_,_,_,_,_] zeroValue48 runUnderlying23 sizeOf48 (fun b17=>?_);refine jk 0 17 5 1 ?_;refine AD.one (i:=5) ay ?_;refine bg.dZ (ls:=L) (new:=[o]) (Sq:=Sx) uJ TJ rfl an rfl rfl underlying23 Zg rfl w7 ot dU (sX (A:=[_,_,_])) ot bq mZ nc (fun O E U Z=>?_);refine AD.perm (vT (S2:=[⟨O,48,E*5,flatMap gT (L++[o])⟩]) (A:=[_,_,_])) ?_;have WW:(bT o++(([⟨O,48,E*5,flatMap gT (L++[o])⟩]:List ag)++L.flatMap bT)).Perm (([⟨O,48,E*5,flatMap gT (L++[o])⟩]:List ag)++(L++[o]).flatMap bT):=(iv fun iU=>by rw[Su];simp only[map_append,map_cons,map_nil,sum_append,sum_cons,sum_nil];omega)
  refine AD.perm (Perm.cons _ (Perm.cons _ (Perm.cons _ WW))) ?_;refine eA ?_;refine aD 1 ?_;refine aN 1 [_] sizeOf23 ?_;refine aj 22 [2,3,7,8,9] ?_;refine cj [2,3,7,8,9] ?_;refine⟨((i+1),(L++[o]),(some ⟨O,0,none⟩),E,[⟨O,48,E*5,flatMap gT (L++[o])⟩]),_,cx,aM,w4,vu,jE,(bI U Z),rfl⟩
 refine aC 1 ?_;refine aN 1 [_] sizeOf25 ?_;refine aj 22 [2] ?_;refine aJ (Sx++L.flatMap bT) ?_;have uy:L.map aU.t=l:=(by rw[hL,take_of_length_le w4])
 exact⟨L,dK,cY,Sx,rfl,dU,aS,uy,rfl⟩
theorem aaD(l:List aP)(hl:l.length≤1000)(H:∀t∈l,Be t):VP Tryz.prog G 28 [.agg [.list 5 (l.flatMap dG) l.length]] (.agg [.list 5 (l.flatMap dG) l.length]):=(Pg l hl H).cover fun r S hr=>hr.view

structure eO (t:aP) (n:Nat):Prop where
 nm:cM t.nm=0
 av:t.av=dH
 eK:t.rows.length≤40
 ix:iB t.ix n
 row:∀i (h:i<t.rows.length),t.rows[i]≠[]→Pc.dW dH t.rows[i]=0∧(∀v∈t.rows[i],v.Ok)∧(cX t.rows[i],(i:Int))∈en t.ix
 iN:∀x∈en t.ix,0≤x.2∧∃h:x.2.toNat<t.rows.length,t.rows[x.2.toNat]≠[]∧x.1=cX t.rows[x.2.toNat]
theorem pi{r:List Vl}(h:Pc.dW dH r=0):r.length=4:=by
 unfold Pc.dW at h;rw[if_neg By] at h;split at h
 ·cases h
 rename_i h2;exact Decidable.not_not.1 h2
theorem eO.len(g:eO t n){r:List Vl}(hr:r∈t.rows):r=[]∨(r.length=4∧∀v∈r,v.Ok):=by
 obtain⟨i,hi,rfl⟩:=mem_iff_getElem.1 hr;rcases Classical.em (t.rows[i]=[]) with h|h
 ·exact .inl h
 exact .inr ⟨pi (g.row i hi h).1,(g.row i hi h).2.1⟩
theorem eO.small(g:eO t n):Be t :=
 ⟨by rw[g.av];decide,Nat.le_trans g.eK w7,fun r hr=>by rcases g.len hr with h|h;rw[h];exact Nat.zero_le _;omega,_,g.ix.val⟩
def rowAt(t:aP)(i:Int):List Vl:=t.rows.getD i.toNat []
theorem iZ{i:Int}(h:i.toNat<t.rows.length):rowAt t i=t.rows[i.toNat]:=by unfold rowAt;rw[getD_eq_getElem?_getD,getElem?_eq_getElem h];rfl
def mC(t:aP)(w:List aX):List Int→List (K×Int)→List Int×Int
 | acc,[]=>(acc,0)
 | acc,x::r=>if 0<w.length then (if (fj t.av (rowAt t x.2) w).2≠0 then ([],(fj t.av (rowAt t x.2) w).2) else if (fj t.av (rowAt t x.2) w).1.n≠1 then mC t w acc r else mC t w (acc++[x.2]) r) else mC t w (acc++[x.2]) r
noncomputable def au(t:aP)(w:List aX):List Int×Int:=if (iE t.av w).2≠0 then ([],(iE t.av w).2) else mC t w [] (ph t.ix (iE t.av w).1.1 (iE t.av w).1.2)
def B9(p:List Int×Int)(r:D)(S:List ag):Prop:=∃ad cap,r = .dz [.v (.slice ad p.1.length cap),.v (.int .i64 p.2)]∧bw 3 1 (p.1.flatMap Tw.cI) p.1.length ad cap S
theorem B9.view{r:D}(h:B9 p r S):View S r (.dz [.list 1 (p.1.flatMap Tw.cI) p.1.length,.v (.int .i64 p.2)]):=by
 obtain⟨ad,cap,rfl,ho⟩:=h;exact Ef ⟨lj ho (cq Tw.ey _) (fun B h=>h),eP,trivial⟩
theorem B9.flat{r:D}(h:B9 p r S):kC r=true∧∀B∈S,∀d∈B.cs,kC d=true:=by
 obtain⟨ad,cap,rfl,ho⟩:=h;refine⟨rfl,fun B E d hd=>?_⟩;rcases ho with ⟨_,_,_,_,rfl⟩|⟨b,_,_,_,rfl⟩
 ·cases E
 rw[mem_singleton] at E;subst E;obtain⟨n,_,hn⟩:=mem_flatMap.1 hd;rw[Tw.cI,mem_singleton] at hn;subst hn;rfl
theorem Er{t:aE}{f u:K}:∀x∈ph t f u,x∈en t:=fun x hx=>by
 unfold ph wH at hx;have h1:=(takeWhile_sublist _).subset hx;unfold mT at h1;exact(mem_filter.1 h1).1
theorem QO{t:aE}(g:iB t n)(f u:K):(ph t f u).length≤16000:=by
 unfold ph wH;exact Nat.le_trans (takeWhile_sublist _).length_le (QG g.val f)
theorem SA(l:List Vl):(fS l).1.length≤100:=by
 unfold fS;repeat' split
 all_goals first|exact Nat.zero_le _|(simp only;omega)
def Sm(b:kR):Prop:=b.1.length≤100∧b.2.length≤100
theorem SB{key:ByteArray}{ops:List aX}{no:Bool}{b:kR}(h:Sm b):Sm (mQ key ops no b):=by
 have hk:(zo ops).length≤100:=SA _;have hl:∀b,Sm b→Sm (nV (zo ops) b):=fun b h=>by unfold nV;split;exact⟨hk,h.2⟩;exact h
 have E:∀b,Sm b→Sm (rP (zo ops) b):=fun b h=>by unfold rP;split;exact⟨h.1,hk⟩;exact h
 unfold mQ;split
 ·exact h
 split
 ·exact h
 unfold u5;cases(nl ops (ops.length-1)==6||(dM (lS key) (ops.take 2)==0)!=no)<;>cases(nl ops (ops.length-1)==6||(dM (lS key) (ops.take 2)==0)==no)<;>first|exact h|exact hl _ h|exact E _ h|exact E _ (hl _ h)
theorem JL{key:ByteArray}:∀(f:Nat) (ops:List aX) (b:kR),Sm b→Sm (fV key f ops b)
 | 0,_,_,h=>h
 | f+1,ops,b,h=>by
  unfold fV;split
  ·exact JL f _ _ (JL f _ _ h)
  split
  ·exact SB h
  exact SB h
theorem aff(l:List cu)(ops:List aX):Sm (iE l ops).1:=by
 have h0:Sm (([],[]):kR):=⟨Nat.zero_le _,Nat.zero_le _⟩
 unfold iE;repeat' split
 all_goals first|exact h0|exact JL _ _ _ h0
theorem Pj:(Tryz.prog.info? 3).map (fun i=>(i.zero,i.size,i.bytes))=some (some (.int .i64 0),1,8):=by kernel_rfl
theorem JM(hm:(3,marksC)∈G)(hw:(2,wordsC)∈G)(ht:(0,typesC)∈G)(hG:(1,[Value.int .i64 m])∈G)(t:aP)(g:eO t n)(w:List aX)(ho:∀o∈w,o.nm.size≤maxLen)(fM:∀o∈w,o.v.Ok):VC Tryz.prog G 87 [.agg (dG t),.list 5 (w.flatMap cO) w.length] [] (B9 (au t w)):=by
 refine VC.body func87 rfl ntmps87 aO fun X0 w0 aZ=>?_;have GR:=aff t.av w;have nZ:=Z4 (G:=G) hm hw ht hG t.av xu xq w ho fM;unfold M2 at nZ;have dy:maxLen=9223372036854775807:=rfl;have Am:=TH (G:=G) g.ix (iE t.av w).1.1 (iE t.av w).1.2 GR.1 GR.2;unfold Tw.cT at Am;have mB:=QO g.ix (iE t.av w).1.1 (iE t.av w).1.2;generalize hL:(ph t.ix (iE t.av w).1.1 (iE t.av w).1.2)=L at *;unfold dG;have KI:∀x∈L,x∈en t.ix:=fun x hx=>Er x (hL ▸ hx);refine bX ?_;refine OD.box (ds:=[_,_,_,_,_]) an rfl rfl ot rfl rfl (fun b2=>?_);refine aj 70 [1,2] ?_;refine cL [1,2,6,7,8] (nZ) ?_;refine ae [1,2,6,7,8,25] ?_;refine aq (fun az aH=>?_) (fun az aH=>?_)
 ·have hne:(iE t.av w).2≠0:=(by simpa using az)
  have aT:au t w=([],(iE t.av w).2):=if_pos hne;refine ae [4,5] ?_;refine aJ [] ?_;rw[aT];exact⟨none,0,rfl,iw⟩
 have hz:(iE t.av w).2=0:=(by simpa using az)
 have agB:au t w=mC t w [] (L.drop 0):=(by unfold au;rw[if_neg (by simp[hz]),hL,drop_zero])
 refine cL [1,2,9] (Am) ?_;refine bX ?_;refine bf [1,2,9,11] ?_;refine ae [1,2,11,35,36,37] ?_;refine eB [1,2,35,36] (fun aW _ (O:Nat×List Int×Option Addr×Nat×List ag) aK=>match O with|(k,acc,dK,cY,Sx)=>(k≤L.length)∧((acc).length≤k)∧(au t w=mC t w acc (L.drop k))∧(bw 3 1 ((acc).flatMap Tw.cI) (acc).length dK cY Sx)∧aK=(⟨70,(11,.v (.slice dK (acc).length cY))::(37,.v (.int .i64 (k:Nat)))::aW,(⟨b2,48,5,[.v (.string t.nm),.list 2 (t.av.flatMap cC) t.av.length,.list 1 (t.rows.flatMap gB) t.rows.length,.list 5 (t.ix.af.flatMap cP) t.ix.af.length,.v (.int .i64 t.ix.root)]⟩::Sx)⟩:St)) (fun (O:Nat×List Int×Option Addr×Nat×List ag)=>match O with|(k,acc,dK,cY,Sx)=>L.length-k) (0,([]:List Int),none,0,[]) ⟨(Nat.zero_le _),(Nat.zero_le _),agB,(bw.cast iw kJ),rfl⟩ ?_;rintro⟨k,acc,dK,cY,Sx⟩ _ ⟨hk,qW,aT,dU,rfl⟩;refine ae [1,2,11,35,36,37,38] ?_;refine aq (fun aG aV=>?_) (fun aG aV=>?_)
 ·have aa:k<L.length:=(by omega)
  obtain⟨gp,U,nH,Mj⟩:=g.iN _ (KI _ (getElem_mem aa));have E:=iZ (t:=t) U;have jl:L.drop k=(L[k]'aa)::L.drop (k+1):=drop_eq_getElem_cons aa;have hrw:=(g.row _ U nH).2.1;have hr4:=pi (g.row _ U nH).1;refine aC 2 ?_;refine OD.alloc (ds:=[_,_]) an rfl rfl zeroValue97 rfl (fun mh=>?_);refine aN 0 [_,_] sizeOf97 ?_;refine aj 70 [1,2,11,13,35,36,37] ?_;refine ae [1,2,11,13,35,36,37,43] ?_;refine aq (fun aY bz=>?_) (fun aY bz=>?_)
  ·have Z:0<w.length:=(by omega)
   have xV:=RU (G:=G) hm hw ht t.av xu xq (t.rows[(L[k]'aa).2.toNat]) w4 hrw w ho fM;rw[←E] at xV;unfold mL at xV;rw[E] at xV;refine CD.seq ?_;refine uf 14 13 [1,2,11,13,14,35,36,37,55,56] ?_;refine aQ 6 ?_ (h:=by exact(c9 1 (h:=by first|exact .l (j:=(L[k]'aa).2.toNat) (Int.toNat_of_nonneg gp).symm U|exact .r (j:=(L[k]'aa).2.toNat) (Int.toNat_of_nonneg gp).symm U)));refine cU (xV) ?_;refine ni 3 ?_;refine rj ?_;refine jR ?_;refine⟨rfl,fun zY=>?_⟩;refine aN 0 [_,_,_] sizeOf30 ?_;refine aj 70 [1,2,11,13,14,15,35,36,37] ?_;refine ae [1,2,11,13,14,15,35,36,37,58] ?_;refine aq (fun bC bY=>?_) (fun bC bY=>?_)
   ·have hne:(fj t.av (rowAt t (L[k]'aa).2) w).2≠0:=(by rw[E];simpa using bC)
    have I:au t w=([],(fj t.av (rowAt t (L[k]'aa).2) w).2):=(by rw[aT,jl,mC,if_pos Z,if_pos hne])
    rw[E] at I;refine ae [4,5] ?_;refine aJ [] ?_;rw[I];exact⟨none,0,rfl,iw⟩
   have hne:¬(fj t.av (rowAt t (L[k]'aa).2) w).2≠0:=(by rw[E];simpa using bC)
   refine ae [1,2,11,13,35,36,37,62] ?_;refine aq (fun cy de=>?_) (fun cy de=>?_)
   ·have gi:(fj t.av (rowAt t (L[k]'aa).2) w).1.n≠1:=(by rw[E];simpa using cy)
    have nE:au t w=mC t w acc (L.drop (k+1)):=(by rw[aT,jl,mC,if_pos Z,if_neg hne,if_pos gi])
    refine cj [1,2,11,35,36,37] ?_;refine⟨((k+1),acc,dK,cY,Sx),_,cx,aM,w4,w4,nE,(bw.cast dU kJ),rfl⟩
   have gi:¬(fj t.av (rowAt t (L[k]'aa).2) w).1.n≠1:=(by rw[E];simpa using cy)
   have nE:au t w=mC t w (acc++[(L[k]'aa).2]) (L.drop (k+1)):=(by rw[aT,jl,mC,if_pos Z,if_neg hne,if_neg gi])
   refine dL 3 ?_;refine ee (bZ 0 [_]) [.int .i64 0] [_] zeroValue3 runUnderlying91 sizeOf3 (fun oR=>?_);refine fG 0 66 1 1 ?_;refine OD.dZ (ls:=(acc)) (new:=[(L[k]'aa).2]) (Sq:=Sx) Tw.ey Tw.nr an rfl rfl underlying91 Pj rfl w7 ot dU (dx (A:=[_,_,_])) ot bq mZ nc (fun qo qR FC FD=>?_);refine OD.perm (dV (S1:=[⟨qo,3,qR*1,flatMap Tw.cI ((acc)++[(L[k]'aa).2])⟩]) (A:=[_,_,_])) ?_;exact z70
  have Z:¬0<w.length:=(by omega)
  have nE:au t w=mC t w (acc++[(L[k]'aa).2]) (L.drop (k+1)):=(by rw[aT,jl,mC,if_neg Z])
  refine dL 3 ?_;refine ee (bZ 0 [_]) [.int .i64 0] [_] zeroValue3 runUnderlying91 sizeOf3 (fun oR=>?_);refine fG 0 66 1 1 ?_;refine OD.dZ (ls:=(acc)) (new:=[(L[k]'aa).2]) (Sq:=Sx) Tw.ey Tw.nr an rfl rfl underlying91 Pj rfl w7 ot dU (dx (A:=[_,_])) ot bq mZ nc (fun qo qR FC FD=>?_);refine OD.perm (dV (S1:=[⟨qo,3,qR*1,flatMap Tw.cI ((acc)++[(L[k]'aa).2])⟩]) (A:=[_,_])) ?_;exact z70
 have I:au t w=(acc,0):=(by rw[aT,drop_of_length_le w4];rfl)
 refine ae [4,5] ?_;refine aJ Sx ?_;rw[I];exact⟨dK,cY,rfl,dU⟩

end Go.Proofs.YtbcmjoaggammcaaGreatDoor.Ba
namespace Go.Proofs.YtbcmjoaggammcaaGreatDoor.So
open List
open Go.Proofs.Tryz
variable {α:Type} {R:α→α→Prop} {l L M X Y:List α} {x y:α} {k:Nat}
theorem Hp(ht:∀{x y z:α},R x y→R y z→R x z)(hs:L.Pairwise R)(hk:k≤L.length)(h:k=0∨∃h:k-1<L.length,R (L[k-1]) x):∀z∈L.take k,R z x:=by
 intro z hz;obtain⟨i,hi,rfl⟩:=mem_iff_getElem.1 hz;rw[length_take] at hi;rw[getElem_take];rcases h with rfl|⟨h1,h2⟩
 ·omega
 rcases Nat.lt_or_ge i (k-1) with h3|h3
 ·exact ht (pairwise_iff_getElem.1 hs i (k-1) w4 h1 h3) h2
 have:i=k-1:=(by omega)
 subst this;exact h2
theorem G8(ht:∀{x y z:α},R x y→R y z→R x z)(hs:L.Pairwise R)(h:k=L.length∨∃h:k<L.length,R x (L[k])):∀z∈L.drop k,R x z:=by
 intro z hz;obtain⟨i,hi,rfl⟩:=mem_iff_getElem.1 hz;rw[length_drop] at hi;rw[getElem_drop];rcases h with rfl|⟨h1,h2⟩
 ·omega
 rcases Nat.eq_zero_or_pos i with rfl|h3
 ·simpa using h2
 exact ht h2 (pairwise_iff_getElem.1 hs k (k+i) h1 w4 w4)
theorem ab8(hs:(X++Y).Pairwise R)(h1:∀z∈X,R z x)(h2:∀z∈Y,R x z):(X++x::Y).Pairwise R:=by
 rw[pairwise_append] at hs ⊢;obtain⟨p1,p2,p3⟩:=hs;refine⟨p1,pairwise_cons.2 ⟨h2,p2⟩,fun a ha b hb=>?_⟩;rcases mem_cons.1 hb with rfl|hb
 ·exact h1 a ha
 exact p3 a ha b hb
theorem SC(ht:∀{x y z:α},R x y→R y z→R x z)(hs:L.Pairwise R)(hk:k≤L.length)(h1:k=0∨∃h:k-1<L.length,R (L[k-1]) x)(h2:k=L.length∨∃h:k<L.length,R x (L[k])):(L.take k++x::L.drop k).Pairwise R :=
 ab8 (by rw[take_append_drop];exact hs) (Hp ht hs hk h1) (G8 ht hs h2)
theorem aaE (ht:∀{x y z:α},R x y→R y z→R x z) {A B:List α} {i j:Nat} (ha:A.Pairwise R) (hb:B.Pairwise R) (hi:i≤A.length) (hj:j≤B.length)
  (h1:i=0∨j=B.length∨∃(p:i-1<A.length) (q:j<B.length),R A[i-1] B[j]) (h2:j=0∨i=A.length∨∃(p:j-1<B.length) (q:i<A.length),R B[j-1] A[i]) :
  ∀a∈A.take i++B.take j,∀b∈A.drop i++B.drop j,R a b:=by
 have E:∀a∈A.take i,∀b∈A.drop i,R a b:=(by rw[←take_append_drop i A] at ha;exact(pairwise_append.1 ha).2.2)
 have I:∀a∈B.take j,∀b∈B.drop j,R a b:=(by rw[←take_append_drop j B] at hb;exact(pairwise_append.1 hb).2.2)
 intro a hm b hn;rcases mem_append.1 hm with hm|hm<;>rcases mem_append.1 hn with hn|hn
 ·exact E a hm b hn
 ·rcases h1 with rfl|rfl|⟨p,q,hr⟩
  ·simp at hm
  ·simp at hn
  exact Hp (R:=R) ht ha hi (.inr ⟨p,by
   rcases G8 (R:=R) ht hb (k:=j) (x:=A[i-1]) (.inr ⟨q,hr⟩) b hn with h
   exact h⟩) a hm
 ·rcases h2 with rfl|rfl|⟨p,q,hr⟩
  ·simp at hm
  ·simp at hn
  exact Hp (R:=R) ht hb hj (.inr ⟨p,G8 (R:=R) ht ha (k:=i) (x:=B[j-1]) (.inr ⟨q,hr⟩) b hn⟩) a hm
 exact I a hm b hn
theorem HP{l1 l2:List α}:((l1++x::y::l2).set l1.length y).set (l1.length+1) x=l1++y::x::l2:=by
 rw[set_append_right _ _ (Nat.le_refl _),Nat.sub_self,set_cons_zero,set_append_right _ _ w4,show l1.length+1-l1.length=1 by omega,set_cons_succ,set_cons_zero]
def sw(l:List Int)(i j:Nat):List Int:=(l.set i (l.getD j 0)).set j (l.getD i 0)
theorem afg{l:List Int}{i j:Nat}:(sw l i j).length=l.length:=by unfold sw;simp
theorem mq{l:List Int}{i:Nat}(h:i<l.length):l.getD i 0=l[i]:=by simp[h]
def jH(l:List Int)(a b:Nat):Nat→List Int
 | 0=>l
 | k+1=>sw (jH l a b k) (a+k) (b+k)
theorem A5{l:List Int}{a b:Nat}:∀{k:Nat},(jH l a b k).length=l.length
 | 0=>rfl
 | k+1=>by rw[jH,afg,A5]
theorem SD{l:List Int}{a b:Nat}:∀{k:Nat},a+k≤b→b+k≤l.length→∀j,(jH l a b k)[j]?=if a≤j∧j<a+k then l[b+(j-a)]? else if b≤j∧j<b+k then l[a+(j-b)]? else l[j]?
 | 0,_,_,j=>by rw[if_neg w4,if_neg w4];try rfl
 | k+1,h1,h2,j=>by
  have E:=SD (l:=l) (a:=a) (b:=b) (k:=k) w4 w4;have e1:(jH l a b k).getD (b+k) 0=l.getD (b+k) 0:=(by rw[getD_eq_getElem?_getD,E,if_neg w4,if_neg w4,getD_eq_getElem?_getD])
  have e2:(jH l a b k).getD (a+k) 0=l.getD (a+k) 0:=(by rw[getD_eq_getElem?_getD,E,if_neg w4,if_neg w4,getD_eq_getElem?_getD])
  rw[jH,sw,e1,e2,getElem?_set,getElem?_set,length_set,A5,E];by_cases q1:b+k=j
  ·subst q1;rw[if_pos rfl,if_pos w4,if_neg w4,if_pos w4,mq w4,show a+(b+k-b)=a+k by omega,getElem?_eq_getElem w4]
  rw[if_neg q1];by_cases q2:a+k=j
  ·subst q2;rw[if_pos rfl,if_pos w4,if_pos w4,mq w4,show b+(a+k-a)=b+k by omega,getElem?_eq_getElem w4]
  rw[if_neg q2];simp only[show(a≤j∧j<a+(k+1))↔(a≤j∧j<a+k) by omega,show(b≤j∧j<b+(k+1))↔(b≤j∧j<b+k) by omega]
theorem Je{P U M W Q:List Int}(h:U.length=W.length):jH (P++(U++(M++(W++Q)))) P.length (P.length+U.length+M.length) U.length=P++(W++(M++(U++Q))):=by
 refine ext_getElem? fun j=>?_;rw[SD w4 (by simp only[length_append];omega)];simp only[getElem?_append];repeat' split
 all_goals first|omega|(congr 1<;>omega)
def rC(T cur:List Int)(m i j:Nat):Prop:=∃P X Y Q,cur=P++(X++(Y++Q))∧X.length=i∧Y.length=j∧P.length+i=m∧T=P++(Y++(X++Q))
variable {T cur:List Int} {m i j:Nat}
theorem rC.len(h:rC T cur m i j):i≤m∧m+j≤cur.length∧T.length=cur.length:=by
 obtain⟨P,X,Y,Q,rfl,rfl,rfl,hm,rfl⟩:=h;simp only[length_append];omega
theorem afh(h:rC T cur m i j)(E:j<i):rC T (jH cur (m-i) m j) m (i-j) j:=by
 obtain⟨P,X,Y,Q,rfl,rfl,rfl,hm,rfl⟩:=h;have l1:(X.take Y.length).length=Y.length:=(by rw[length_take];omega)
 have l2:(X.drop Y.length).length=X.length-Y.length:=length_drop;have e:=Je (P:=P) (U:=X.take Y.length) (M:=X.drop Y.length) (W:=Y) (Q:=Q) l1;rw[l1,l2,←append_assoc (X.take _) (X.drop _),take_append_drop,show P.length+Y.length+(X.length-Y.length)=m by omega,show P.length=m-X.length by omega] at e;exact⟨P++Y,X.drop Y.length,X.take Y.length,Q,by rw[e];simp,l2,l1,by rw[length_append];omega,by rw[←append_assoc (X.take _) (X.drop _),take_append_drop];simp⟩
theorem afi(h:rC T cur m i j)(E:i<j):rC T (jH cur (m-i) (m+j-i) i) m i (j-i):=by
 obtain⟨P,X,Y,Q,rfl,rfl,rfl,hm,rfl⟩:=h;have l1:(Y.take (Y.length-X.length)).length=Y.length-X.length:=(by rw[length_take];omega)
 have l2:(Y.drop (Y.length-X.length)).length=X.length:=(by rw[length_drop];omega)
 have e:=Je (P:=P) (U:=X) (M:=Y.take (Y.length-X.length)) (W:=Y.drop (Y.length-X.length)) (Q:=Q) l2.symm;rw[l1,←append_assoc (Y.take _) (Y.drop _),take_append_drop,show P.length+X.length+(Y.length-X.length)=m+Y.length-X.length by omega,show P.length=m-X.length by omega] at e;exact⟨P,Y.drop (Y.length-X.length),Y.take (Y.length-X.length),X++Q,e,l2,l1,hm,by rw[←append_assoc (Y.take _) (Y.drop _),take_append_drop]⟩
theorem afj(h:rC T cur m i i):jH cur (m-i) m i=T:=by
 obtain⟨P,X,Y,Q,rfl,rfl,hl,hm,rfl⟩:=h;have e:=Je (P:=P) (U:=X) (M:=[]) (W:=Y) (Q:=Q) hl.symm;rw[length_nil,Nat.add_zero,show P.length+X.length=m by omega,show P.length=m-X.length by omega] at e;simpa using e

end Go.Proofs.YtbcmjoaggammcaaGreatDoor.So
namespace Go.Proofs.YtbcmjoaggammcaaGreatDoor.So
open List
open Go.Proofs.Tryz
open Go.RowKit V Tw
variable {G:List (Nat×List Value)}
theorem Jf(l:List Int)(E la lb k cap I:Nat)(ek:D)(Sc:List ag)(fY:l.length=E)(h1:la+k≤lb)(h2:lb+k≤E)(h3:E≤cap)(h4:cap≤maxLen):VC Tryz.prog G 186 [.v (.slice (some ⟨I,0,none⟩) E cap),.v (.int .i64 (la:Nat)),.v (.int .i64 (lb:Nat)),.v (.int .i64 (k:Nat)),ek] (⟨I,3,cap*1,(l).flatMap cI⟩::Sc) (fun r S'=>r = .dz []∧S'=⟨I,3,cap*1,(jH l la lb k).flatMap cI⟩::Sc):=by
 refine VC.body func186 rfl ntmps186 aO fun X0 w0 aZ=>?_;have dy:maxLen=9223372036854775807:=rfl;refine ae [0,1,2,3,10] ?_;refine eB [0,1,2,3] (fun aW _ (i:Nat) aK=>(i≤k)∧aK=(⟨38,(10,.v (.int .i64 (i:Nat)))::aW,(⟨I,3,cap*1,(jH l la lb i).flatMap cI⟩::Sc)⟩:St)) (fun (i:Nat)=>k-i) 0 ⟨(Nat.zero_le _),rfl⟩ ?_;rintro i _ ⟨hi,rfl⟩;refine ae [0,1,2,3,10,13] ?_;refine aq (fun az aH=>?_) (fun az aH=>?_)
 ·have O:i<k:=(by omega)
  have hlen:(jH l la lb i).length=E:=(by rw[A5,fY])
  have ha:la+i<(jH l la lb i).length:=(by omega)
  have hb:lb+i<(jH l la lb i).length:=(by omega)
  refine CD.skip ?_;refine CD.seq ?_;refine CD.block ?_;refine fK 22 (ap (eraseIdx _ 0)) ?_ (fun _ h=>(Sublist.map _ (eraseIdx_sublist _ 0)).subset h);refine ax 0 rfl bj ?_;refine ax 1 rfl bj ?_;refine ax 2 rfl bj ?_;refine ax 3 rfl mH ?_;refine ax 4 rfl bj ?_;refine ax 5 rfl bj ?_;refine ax 6 rfl bj ?_;refine ax 7 rfl mH ?_;refine ax 8 rfl bj ?_;refine ax 9 rfl bj ?_;refine ax 10 rfl bj ?_;refine ax 11 rfl mH ?_;refine ax 12 rfl (c9 1) ?_;refine ax 14 rfl bj ?_;refine ax 15 rfl bj ?_;refine ax 16 rfl bj ?_;refine ax 17 rfl mH ?_;refine ax 18 rfl (c9 1) ?_;refine dm.later rfl ?_;refine AD.two (i:=13) (j:=19) ay ?_ ?_
  ·refine at_ rfl eU ?_;refine AD.one (i:=19) ay ?_;exact VZ
  refine at_ rfl eU ?_;refine AD.one (i:=13) ay ?_;exact VZ
 obtain rfl:i=k:=(by omega)
 refine aJ _ ?_;exact⟨by first|rfl|(simp[*];done),rfl⟩

theorem afk(l Tt:List Int)(Z a m b cap bd:Nat)(ek:D)(Sc:List ag)(h:rC Tt l m (m-a) (b-m))(h1:a<m)(h2:m<b)(fY:l.length=Z)(E:Z≤cap)(I:cap≤maxLen):VC Tryz.prog G 173 [.v (.slice (some ⟨bd,0,none⟩) Z cap),.v (.int .i64 (a:Nat)),.v (.int .i64 (m:Nat)),.v (.int .i64 (b:Nat)),ek] (⟨bd,3,cap*1,(l).flatMap cI⟩::Sc) (fun r S'=>r = .dz []∧S'=⟨bd,3,cap*1,(Tt).flatMap cI⟩::Sc):=by
 refine VC.body func173 rfl ntmps173 aO fun X0 w0 aZ=>?_;have dy:maxLen=9223372036854775807:=rfl;have hlen:=h.len;refine cN [0,2,3,4,10] ?_;refine aQ 2 ?_ (h:=by exact(cZ rfl ot ot (fZ (r:=((m-a:Nat):Int)) ql)));refine bH ?_;refine cN [0,2,4,10,11] ?_;refine aQ 2 ?_ (h:=by exact(cZ rfl ot ot (fZ (r:=((b-m:Nat):Int)) ql)));refine bH ?_;refine eB [0,2,4] (fun aW _ (O:Nat×Nat×List Int) aK=>match O with|(i,j,cur)=>(rC Tt cur m i j)∧(0<i)∧(0<j)∧((cur).length=Z)∧aK=(⟨58,(10,.v (.int .i64 (i:Nat)))::(11,.v (.int .i64 (j:Nat)))::aW,(⟨bd,3,cap*1,(cur).flatMap cI⟩::Sc)⟩:St)) (fun (O:Nat×Nat×List Int)=>match O with|(i,j,cur)=>i+j) ((m-a),(b-m),l) ⟨h,w4,w4,fY,rfl⟩ ?_;rintro⟨i,j,cur⟩ _ ⟨hr,hi,hj,U,rfl⟩;refine ae [0,2,4,10,11,20] ?_;refine aq (fun az aH=>?_) (fun az aH=>?_)
 ·have ry:=hr.len;have hne:i≠j:=(by omega)
  refine ae [0,2,4,10,11,23] ?_;refine aq (fun aG aV=>?_) (fun aG aV=>?_)
  ·have hgt:j<i:=(by omega)
   refine aC 3 ?_;refine bN (cZ rfl ot ot (fZ (r:=((m-i:Nat):Int)) ql)) ?_;refine aD 3 ?_;refine OD.call (R:=Sc) an rfl rfl rfl call186 (Jf cur Z (m-i) m j cap bd ek [] U w4 w4 E I) ⟨ot,ot,ot,ot,ot,trivial⟩ (Perm.refl _) ?_;rintro _ _ ⟨rfl,rfl⟩;refine aj 58 [0,2,4,10,11] ?_;refine gW [0,2,4,10,11] ?_;refine aQ 2 ?_ (h:=by exact(cZ rfl ot ot (fZ (r:=((i-j:Nat):Int)) ql)));refine bH ?_;refine⟨((i-j),j,(jH cur (m-i) m j)),_,cx,aM,(afh hr hgt),w4,hj,(by rw[A5];exact U),rfl⟩
  have aa:i<j:=(by omega)
  refine aC 3 ?_;refine bN (cZ rfl ot ot (fZ (r:=((m-i:Nat):Int)) ql)) ?_;refine aD 4 ?_;refine bN (cZ rfl ot ot (fZ (r:=((m+j-i:Nat):Int)) (by rw[show((m:Int)+j-i)=((m+j-i:Nat):Int) by omega];exact wrap_i64 w4 w4))) ?_;refine aD 2 ?_;refine OD.call (R:=Sc) an rfl rfl rfl call186 (Jf cur Z (m-i) (m+j-i) i cap bd ek [] U w4 w4 E I) ⟨ot,ot,ot,ot,ot,trivial⟩ (Perm.refl _) ?_;rintro _ _ ⟨rfl,rfl⟩;refine aj 58 [0,2,4,10,11] ?_;refine gW [0,2,4,10,11] ?_;refine aQ 2 ?_ (h:=by exact(cZ rfl ot ot (fZ (r:=((j-i:Nat):Int)) ql)));refine bH ?_;refine⟨(i,(j-i),(jH cur (m-i) (m+j-i) i)),_,cx,aM,(afi hr aa),hi,w4,(by rw[A5];exact U),rfl⟩
 have ry:=hr.len;obtain rfl:i=j:=(by omega)
 have he:=afj hr;refine dL 3 ?_;refine bN (cZ rfl ot ot (fZ (r:=((m-i:Nat):Int)) ql)) ?_;refine aD 3 ?_;refine OD.call (R:=Sc) an rfl rfl rfl call186 (Jf cur Z (m-i) m i cap bd ek [] U w4 w4 E I) ⟨ot,ot,ot,ot,ot,trivial⟩ (Perm.refl _) ?_;rintro _ _ ⟨rfl,rfl⟩;refine aj 58 [] ?_;refine aJ _ ?_;exact⟨rfl,by rw[he];rfl⟩

end Go.Proofs.YtbcmjoaggammcaaGreatDoor.So
namespace Go.Proofs.YtbcmjoaggammcaaGreatDoor.So
/-
  Jg,plainly,part 2: the amb sort,one step behind the other.
-/
variable {x y:Int} {Z S:List Int} {cF:Int→Int→Int}
open List
open Go.Proofs.Tryz
def og(R:Int→Int→Prop)(l0 l:List Int)(a i:Nat):Prop :=
 ∃(P A B A0:List Int),l=P++(A++B)∧P.length=a∧a+A.length=i∧A.Pairwise R∧A.Perm A0∧l0=P++(A0++B)
def so(R:Int→Int→Prop)(l0 l:List Int)(a i j:Nat):Prop :=
 ∃(P A:List Int) (x:Int) (B A0:List Int) (k:Nat),l=P++(A.take k++x::(A.drop k++B))∧P.length=a∧k≤A.length∧a+k=j∧a+A.length=i∧A.Pairwise R∧(k=A.length∨∃h:k<A.length,R x A[k])∧A.Perm A0∧l0=P++(A0++x::B)
variable {R Lt:Int→Int→Prop} {l0 l:List Int} {a i j:Nat}
theorem so.len(h:so R l0 l a i j):a≤j∧j≤i∧i<l.length∧l.length=l0.length:=by
 obtain⟨P,A,x,B,E,k,rfl,rfl,hk,rfl,rfl,hs,hx,hp,rfl⟩:=h;have:=hp.length_eq;simp only[length_append,length_cons,length_take,length_drop];omega
theorem Im(h:a≤l.length):og R l l a a :=
 ⟨l.take a,[],l.drop a,[],by simp,by rw[length_take];omega,by simp,Pairwise.nil,.refl _,by simp⟩
theorem adQ(h:a<l.length):og R l l a (a+1) :=
 ⟨l.take a,[l[a]],l.drop (a+1),[l[a]],by simp,by rw[length_take];omega,by simp,pairwise_singleton _ _,.refl _,by simp⟩
theorem aaF(h:og R l0 l a i)(hi:i<l.length):so R l0 l a i i:=by
 obtain⟨P,A,B,E,rfl,rfl,rfl,hs,hp,rfl⟩:=h;cases B with
 | nil=>simp at hi
 | cons x B=>exact⟨P,A,x,B,E,A.length,by simp,rfl,Nat.le_refl _,rfl,rfl,hs,.inl rfl,hp,rfl⟩
theorem EN{P A B:List Int}{k:Nat}(hk:k<A.length):P++(A.take (k+1)++x::(A.drop (k+1)++B))=(P++A.take k)++A[k]::x::(A.drop (k+1)++B):=by
 rw[take_succ_eq_append_getElem hk];simp only[append_assoc,singleton_append]
theorem Dt(n:Nat)(hn:n=Z.length)(h:n<(Z++y::S).length):(Z++y::S)[n]'h=y:=by subst hn;simp
theorem Du(n:Nat)(hn:n=Z.length+1)(h:n<(Z++y::x::S).length):(Z++y::x::S)[n]'h=x:=by subst hn;simp[getElem_append_right]
theorem Zw(h:so R l0 l a i j)(hj:a<j)(h1:j<l.length)(h0:j-1<l.length)(hr:R l[j] l[j-1]):so R l0 ((l.set j l[j-1]).set (j-1) l[j]) a i (j-1):=by
 obtain⟨P,A,x,B,E,k,rfl,rfl,hk,rfl,rfl,hs,hx,hp,rfl⟩:=h;obtain⟨k,rfl⟩:∃m,k=m+1:=⟨k-1,by omega⟩
 have e:=EN (P:=P) (B:=B) (x:=x) hk;have hl:(P++A.take k).length=P.length+k:=(by rw[length_append,length_take];omega)
 simp only[e] at hr ⊢;rw[Dt (P.length+(k+1)-1) w4,Du (P.length+(k+1)) w4] at hr ⊢;refine⟨P,A,x,B,E,k,?_,rfl,by omega,by omega,rfl,hs,.inr ⟨hk,hr⟩,hp,rfl⟩;rw[set_comm _ _ w4,show P.length+(k+1)-1=(P++A.take k).length by omega,show P.length+(k+1)=(P++A.take k).length+1 by omega,HP];rw[show A.drop k=A[k]::A.drop (k+1) from drop_eq_getElem_cons hk];simp only[append_assoc,cons_append]
theorem aaX(ht:∀{x y z:Int},R x y→R y z→R x z)(h:so R l0 l a i j)(h1:j<l.length)(h0:j-1<l.length)(hr:j=a∨R l[j-1] l[j]):og R l0 l a (i+1):=by
 obtain⟨P,A,x,B,E,k,rfl,rfl,hk,rfl,rfl,hs,hx,hp,rfl⟩:=h;refine⟨P,A.take k++x::A.drop k,B,E++[x],by simp,rfl,by simp;omega,SC ht hs hk ?_ hx,?_,by simp⟩
 ·rcases Nat.eq_zero_or_pos k with rfl|hp
  ·exact .inl rfl
  right;obtain⟨k,rfl⟩:∃m,k=m+1:=⟨k-1,by omega⟩
  refine⟨by omega,?_⟩;rcases hr with hr|hr
  ·omega
  have e:=EN (P:=P) (B:=B) (x:=x) hk;have hl:(P++A.take k).length=P.length+k:=(by rw[length_append,length_take];omega)
  simp only[e] at hr;rw[Dt (P.length+(k+1)-1) w4,Du (P.length+(k+1)) w4] at hr;exact hr
 refine List.perm_middle.trans ?_;rw[take_append_drop];exact(Perm.cons x hp).trans (perm_append_singleton x E).symm
theorem acD(h:so R l0 l a i j)(hj:a<j)(h1:j<l.length)(h0:j-1<l.length)(hq:(l0.drop a).Pairwise Lt):Lt l[j-1] l[j]:=by
 obtain⟨P,A,x,B,E,k,rfl,rfl,hk,rfl,rfl,hs,hx,hp,rfl⟩:=h;obtain⟨k,rfl⟩:∃m,k=m+1:=⟨k-1,by omega⟩
 have e:=EN (P:=P) (B:=B) (x:=x) hk;have hl:(P++A.take k).length=P.length+k:=(by rw[length_append,length_take];omega)
 simp only[e];rw[Dt (P.length+(k+1)-1) w4,Du (P.length+(k+1)) w4];rw[drop_left' rfl,pairwise_append] at hq;exact hq.2.2 _ (hp.subset (getElem_mem hk)) x (mem_cons_self)
theorem so.perm(h:so R l0 l a i j):l.Perm l0:=by
 obtain⟨P,A,x,B,E,k,rfl,rfl,hk,rfl,rfl,hs,hx,hp,rfl⟩:=h;refine(perm_append_left_iff P).2 (List.perm_middle.trans ?_);rw[←append_assoc,take_append_drop];exact(Perm.cons x ((perm_append_right_iff B).2 hp)).trans List.perm_middle.symm
def Rc(cF:Int→Int→Int)(Lt:Int→Int→Prop)(x y:Int):Prop:=cF x y<0∨cF x y=0∧Lt x y
theorem Ev(h:cF y x<0):Rc cF Lt y x:=.inl h
theorem ES(ha:∀x y,0≤cF y x→cF x y≤0)(E:Lt x y)(h:¬cF y x<0):Rc cF Lt x y:=by
 have:=ha x y w4;unfold Rc;rcases Int.lt_or_eq_of_le this with q|q
 ·exact .inl q
 exact .inr ⟨q,E⟩
def Part(R:Int→Int→Prop)(l0 l:List Int)(a b:Nat):Prop:=∃(P M M0 Q:List Int),l=P++(M++Q)∧l0=P++(M0++Q)∧P.length=a∧a+M.length=b∧M.Perm M0∧M.Pairwise R
theorem og.part{b:Nat}(h:og R l0 l a b):Part R l0 l a b:=by
 obtain⟨P,A,B,E,h1,h2,h3,hs,hp,h4⟩:=h;exact⟨P,A,E,B,h1,h4,h2,h3,hp,hs⟩

end Go.Proofs.YtbcmjoaggammcaaGreatDoor.So
namespace Go.Proofs.YtbcmjoaggammcaaGreatDoor.So
open List
open Go.Proofs.Tryz
open Go.RowKit V Tw
variable {G:List (Nat×List Value)}
theorem TK(l:List Int)(U a b cap bd fc:Nat)(O:List D)(Z:List ag)(cF:Int→Int→Int)(V:Int→Prop)(Lt:Int→Int→Prop)(hV:∀x∈l,V x)(hc:∀x y,V x→V y→VC Tryz.prog G fc ([.v (.int .i64 x),.v (.int .i64 y)]++O) Z (fun r S'=>r = .v (.int .i64 (cF x y))∧S'=Z))(vf:∀args w,(callFunc fc args).run Tryz.prog w = .ok (.enter fc args) w)(ht:∀{x y z:Int},Rc cF Lt x y→Rc cF Lt y z→Rc cF Lt x z)(ha:∀x y,0≤cF y x→cF x y≤0)(hq:(l.drop a).Pairwise Lt)(h1:a≤b)(h2:b≤U)(fY:l.length=U)(pz:U≤cap)(qV:cap≤maxLen)(aoE:U<maxLen):VC Tryz.prog G 147 [.v (.slice (some ⟨bd,0,none⟩) U cap),.v (.int .i64 (a:Nat)),.v (.int .i64 (b:Nat)),.ek (.func fc) O] (⟨bd,3,cap*1,(l).flatMap cI⟩::Z) (fun r S'=>r = .dz []∧∃lz,Part (Rc cF Lt) l lz a b∧S'=⟨bd,3,cap*1,(lz).flatMap cI⟩::Z):=by
 refine VC.body func147 rfl ntmps147 aO fun X0 w0 aZ=>?_;have dy:maxLen=9223372036854775807:=rfl;refine ae [0,1,2,3,8] ?_;refine eB [0,1,2,3] (fun aW _ (E:Nat×List Int) aK=>match E with|(i,cur)=>((i≤b→og (Rc cF Lt) l cur a i))∧(a<i)∧((a<b→i≤b))∧((a=b→cur=l))∧((cur).length=U)∧aK=(⟨53,(8,.v (.int .i64 (i:Nat)))::aW,(⟨bd,3,cap*1,(cur).flatMap cI⟩::Z)⟩:St)) (fun (E:Nat×List Int)=>match E with|(i,cur)=>b-i) ((a+1),l) ⟨(fun q=>adQ w4),(Nat.lt_succ_self _),(fun q=>q),(fun _=>rfl),fY,rfl⟩ ?_;rintro⟨i,cur⟩ _ ⟨hs,Xz,hib,qx,kP,rfl⟩;refine ae [0,1,2,3,8,14] ?_;refine aq (fun az aH=>?_) (fun az aH=>?_)
 ·have aa:i<b:=(by omega)
  refine ae [0,1,2,3,8,9] ?_;refine eB [0,1,2,3,8] (fun aW _ (E:Nat×List Int) aK=>match E with|(j,k8)=>(so (Rc cF Lt) l k8 a i j)∧((k8).length=U)∧aK=(⟨53,(9,.v (.int .i64 (j:Nat)))::aW,(⟨bd,3,cap*1,(k8).flatMap cI⟩::Z)⟩:St)) (fun (E:Nat×List Int)=>match E with|(j,k8)=>j) (i,cur) ⟨(aaF (hs w4) w4),kP,rfl⟩ ?_;rintro⟨j,k8⟩ _ ⟨hj,zc,rfl⟩;have lM:=hj.len;have qn:j<k8.length:=(by omega)
  have qm:j-1<k8.length:=(by omega)
  refine CD.seq ?_;refine CD.seq ?_;refine fK 14 (ap (take 1 _)) ?_ (fun _ h=>(Sublist.map _ (take_sublist _ _)).subset h);refine ax 0 rfl bj ?_;refine ax 1 rfl bj ?_;refine ax 2 rfl mH ?_;refine ax 3 rfl bj ?_;refine dm.split (t:=21) lk (fun qj=>?_) (fun qj=>?_)
  ·have I:=qj;(try simp only[V.ng,ne_eq] at I)
   refine ax 4 rfl bj ?_;refine ax 5 rfl bj ?_;refine ax 6 rfl bj ?_;refine ax 7 rfl (c9 1 (h:=by first|exact .l (j:=j) rfl w4|exact .r (j:=j) rfl w4)) ?_;refine ax 8 rfl eU ?_;refine ax 9 rfl bj ?_;refine ax 10 rfl bj ?_;refine ax 11 rfl (cZ rfl ot bJ (fZ (r:=((j-1:Nat):Int)) (by rw[show((j:Int)-1)=((j-1:Nat):Int) by have CV:=of_decide_eq_true qj;omega];exact wrap_i64 (by have CV:=of_decide_eq_true qj;omega) w4))) ?_;refine ax 12 rfl (c9 1 (h:=by first|exact .l (j:=j-1) rfl w4|exact .r (j:=j-1) rfl w4)) ?_;refine ax 13 rfl eU ?_;refine dm.later rfl ?_;refine eA ?_;have XA:∀x∈k8,V x:=fun x hx=>hV x (hj.perm.subset hx);refine OD.j4 (f:=fc) (args:=[_,_]) (Sf:=Z) gL rfl rfl ot vf (hc _ _ (XA _ (getElem_mem qn)) (XA _ (getElem_mem qm))) rfl ⟨ot,ot,trivial⟩ (perm_append_singleton _ _).symm ?_;rintro _ S2 ⟨rfl,iq⟩;rw[iq];clear iq;refine OD.perm (perm_append_singleton _ _) ?_;refine aj 53 [0,1,2,3,8,9,34] ?_;refine aq (fun aG aV=>?_) (fun aG aV=>?_)
   ·have hja:a<j:=(by have q:=of_decide_eq_true qj;omega)
    have afE:cF (k8[j]'qn) (k8[j-1]'qm)<0:=aV;refine CD.skip ?_;refine CD.seq ?_;refine CD.block ?_;refine fK 16 (ap (eraseIdx _ 0)) ?_ (fun _ h=>(Sublist.map _ (eraseIdx_sublist _ 0)).subset h);refine ax 0 rfl bj ?_;refine ax 1 rfl bj ?_;refine ax 2 rfl bj ?_;refine ax 3 rfl bj ?_;refine ax 4 rfl (cZ rfl ot bJ (fZ (r:=((j-1:Nat):Int)) LJ)) ?_;refine ax 5 rfl bj ?_;refine ax 6 rfl bj ?_;refine ax 7 rfl (cZ rfl ot bJ (fZ (r:=((j-1:Nat):Int)) LJ)) ?_;refine ax 8 rfl (c9 1 (h:=by first|exact .l (j:=j-1) rfl w4|exact .r (j:=j-1) rfl w4)) ?_;refine ax 10 rfl bj ?_;refine ax 11 rfl bj ?_;refine ax 12 rfl (c9 1 (h:=by first|exact .l (j:=j) rfl w4|exact .r (j:=j) rfl w4)) ?_;refine dm.later rfl ?_;refine AD.two (i:=9) (j:=13) ay ?_ ?_
    ·refine at_ rfl eU ?_;refine AD.one (i:=13) ay ?_;exact VT
    refine at_ rfl eU ?_;refine AD.one (i:=9) ay ?_;exact VT
   exact V7
  have I:=qj;(try simp only[V.ng,ne_eq] at I)
  refine l9 4 rfl ?_;refine l9 5 rfl ?_;refine l9 6 rfl ?_;refine l9 7 rfl ?_;refine l9 8 rfl ?_;refine l9 9 rfl ?_;refine l9 10 rfl ?_;refine l9 11 rfl ?_;refine l9 12 rfl ?_;refine l9 13 rfl ?_;refine dm.later rfl ?_;refine eA ?_;refine bf [0,1,2,3,8,9,34] ?_;refine fL ?_;exact V7
 have mW:og (Rc cF Lt) l cur a b:=(Nat.eq_or_lt_of_le h1).elim (fun q=>by subst q;rw[qx rfl];exact Im w4) (fun q=>(show i=b by omega) ▸ hs w4);refine aJ _ ?_;exact⟨rfl,_,mW.part,rfl⟩

end Go.Proofs.YtbcmjoaggammcaaGreatDoor.So
namespace Go.Proofs.YtbcmjoaggammcaaGreatDoor.So
/-
  Jg,plainly,part 3: one that goes through a list,place by place.
-/
variable {i:Nat}
open List
open Go.Proofs.Tryz
def Mv(P B Q:List Int)(x:Int)(t:Nat):List Int:=P++(B.take t++x::(B.drop t++Q))
variable {P B Q:List Int} {x:Int} {t:Nat}
theorem E4(h:t≤B.length):(Mv P B Q x t).length=P.length+(B.length+1+Q.length):=by
 unfold Mv;simp only[length_append,length_cons,length_take,length_drop];omega
theorem EO(h:t<B.length):Mv P B Q x t=(P++B.take t)++x::B[t]::(B.drop (t+1)++Q):=by
 unfold Mv;rw[drop_eq_getElem_cons h];simp only[append_assoc,cons_append]
theorem EP(h:t<B.length):Mv P B Q x (t+1)=(P++B.take t)++B[t]::x::(B.drop (t+1)++Q):=EN h
theorem y8(h:t<B.length):(P++B.take t).length=P.length+t:=by rw[length_append,length_take];omega
theorem afl(h:t<B.length)(h0:P.length+t<(Mv P B Q x t).length):(Mv P B Q x t)[P.length+t]=x:=by
 simp only[EO h];rw[Dt _ (y8 h).symm]
theorem adR(h:t<B.length)(h0:P.length+t+1<(Mv P B Q x t).length):(Mv P B Q x t)[P.length+t+1]=B[t]:=by
 simp only[EO h];rw[Du _ (by rw[y8 h])]
theorem ab9(h:t<B.length):((Mv P B Q x t).set (P.length+t) B[t]).set (P.length+t+1) x=Mv P B Q x (t+1):=by
 rw[EO h,EP h,←y8 (P:=P) h,HP]
theorem adS(h:t<B.length):((Mv P B Q x (t+1)).set (P.length+t+1) B[t]).set (P.length+t) x=Mv P B Q x t:=by
 rw[EO h,EP h,←y8 (P:=P) h,set_comm _ _ w4,HP]

/-
  Jg,plainly,part 4: two parts,each in order,ani one.
-/
variable {R Lt:Int→Int→Prop} {l l1 l2 l3:List Int} {a s m e b mid:Nat}
theorem SE(ht:∀{x y z:Int},R x y→R y z→R x z){P B Q:List Int}{x:Int}{s t:Nat}(E:B.Pairwise R)(hs:s≤B.length)(hk:t≤B.length)(h1:t=0∨∃h:t-1<B.length,R B[t-1] x)(h2:t=B.length∨∃h:t<B.length,R x B[t]) :
  Part R (Mv P B Q x s) (Mv P B Q x t) P.length (P.length+(B.length+1)):=by
 have hp:∀t,(B.take t++x::B.drop t).Perm (x::B):=fun t=>List.perm_middle.trans (by rw[take_append_drop]);refine⟨P,B.take t++x::B.drop t,B.take s++x::B.drop s,Q,by unfold Mv;simp,by unfold Mv;simp,rfl,?_,(hp t).trans (hp s).symm,SC ht E hk h1 h2⟩;have:=(hp t).length_eq;simp only[length_cons] at this;rw[this]
def pO(R Lt:Int→Int→Prop)(l:List Int)(a m b:Nat):Prop:=∃(P A B Q:List Int),l=P++(A++(B++Q))∧P.length=a∧a+A.length=m∧m+B.length=b∧A.Pairwise R∧B.Pairwise R∧∀x∈A,∀y∈B,Lt x y
theorem pO.len(h:pO R Lt l a m b):a≤m∧m≤b∧b≤l.length:=by
 obtain⟨P,A,B,Q,rfl,rfl,rfl,rfl,_⟩:=h;simp only[length_append];omega
theorem pO.lt(h:pO R Lt l a m b){j:Nat}(h1:a≤i)(h2:i<m)(h3:m≤j)(h4:j<b)(hi:i<l.length)(hj:j<l.length):Lt l[i] l[j]:=by
 obtain⟨P,A,B,Q,rfl,rfl,rfl,rfl,_,_,h⟩:=h;refine h _ ?_ _ ?_
 ·rw[getElem_append_right h1,getElem_append_left w4];exact getElem_mem _
 rw[getElem_append_right w4,getElem_append_right w4,getElem_append_left w4];exact getElem_mem _
theorem Pm{P M Q:List Int}(h:M.Pairwise R):Part R (P++(M++Q)) (P++(M++Q)) P.length (P.length+M.length):=⟨P,M,M,Q,rfl,rfl,rfl,rfl,.refl _,h⟩
theorem QR{P E Q:List Int}{x y:Nat}(h:Part R (P++(E++Q)) l x y)(hx:x=P.length)(hy:y=P.length+E.length):∃M,l=P++(M++Q)∧M.Perm E∧M.Pairwise R:=by
 obtain⟨P',M,U,Q',h1,h2,h3,h4,h5,h6⟩:=h;have hl:=h5.length_eq;obtain⟨e1,e2⟩:=append_inj h2 w4;obtain⟨I,O⟩:=append_inj e2 w4;subst e1 I O;exact⟨M,h1,h5,h6⟩
def tW(R Lt:Int→Int→Prop)(l l1:List Int)(a s m e b mid:Nat):Prop:=∃(P A1 A2 B1 B2 Q:List Int),l=P++(A1++(A2++(B1++(B2++Q))))∧l1=P++(A1++(B1++(A2++(B2++Q))))∧P.length=a∧a+A1.length=s∧s+A2.length=m∧m+B1.length=e∧e+B2.length=b∧s+B1.length=mid ∧
 A1.Pairwise R∧A2.Pairwise R∧B1.Pairwise R∧B2.Pairwise R∧(∀x∈A1,∀y∈B1,Lt x y)∧(∀x∈A2,∀y∈B2,Lt x y)∧∀x∈A1++B1,∀y∈A2++B2,R x y
theorem adT (ht:∀{x y z:Int},R x y→R y z→R x z) (h:pO R Lt l a m b) (h1:a≤s) (h2:s≤m) (h3:m≤e) (h4:e≤b) (hm:s+(e-m)=mid)
  (k1:s=a∨e=b∨∃(p:s-1<l.length) (q:e<l.length),R l[s-1] l[e]) (k2:e=m∨s=m∨∃(p:e-1<l.length) (q:s<l.length),R l[e-1] l[s]):∃l1,tW R Lt l l1 a s m e b mid∧rC l1 l m (m-s) (e-m):=by
 obtain⟨P,A,B,Q,rfl,rfl,rfl,rfl,hA,hB,aa⟩:=h;obtain⟨i,rfl⟩:∃i,s=P.length+i:=⟨s-P.length,by omega⟩
 obtain⟨j,rfl⟩:∃j,e=P.length+A.length+j:=⟨e-(P.length+A.length),by omega⟩
 have E:∀k (h:k<A.length) (q:P.length+k<(P++(A++(B++Q))).length),(P++(A++(B++Q)))[P.length+k]=A[k]:=fun k h q=>by
  rw[getElem_append_right w4,getElem_append_left w4];simp
 have I:∀k (h:k<B.length) (q:P.length+A.length+k<(P++(A++(B++Q))).length),(P++(A++(B++Q)))[P.length+A.length+k]=B[k]:=fun k h q=>by
  rw[getElem_append_right w4,getElem_append_right w4,getElem_append_left w4];congr 1;omega
 have hc:=aaE (R:=R) ht hA hB (i:=i) (j:=j) w4 w4 (by
  rcases Nat.eq_zero_or_pos i with q|q
  ·exact .inl q
  rcases k1 with k1|k1|⟨p1,p2,k1⟩
  ·omega
  ·exact .inr (.inl w4)
  ·rcases Nat.lt_or_ge j B.length with q2|q2
   ·refine .inr (.inr ⟨by omega,q2,?_⟩);have e1:=E (i-1) w4 w4;simp only[show P.length+i-1=P.length+(i-1) by omega] at k1;rw[e1,I j q2] at k1;exact k1
   exact .inr (.inl w4)) (by
  rcases Nat.eq_zero_or_pos j with q|q
  ·exact .inl q
  rcases k2 with k2|k2|⟨p1,p2,k2⟩
  ·omega
  ·exact .inr (.inl w4)
  rcases Nat.lt_or_ge i A.length with q2|q2
  ·refine .inr (.inr ⟨by omega,q2,?_⟩);have e1:=I (j-1) w4 w4;simp only[show P.length+A.length+j-1=P.length+A.length+(j-1) by omega] at k2;rw[e1,E i q2] at k2;exact k2
  exact .inr (.inl w4))
 have la1:(A.take i).length=i:=(by rw[length_take];omega)
 have lb1:(B.take j).length=j:=(by rw[length_take];omega)
 have la2:(A.drop i).length=A.length-i:=length_drop;have lb2:(B.drop j).length=B.length-j:=length_drop;have O:A.take i++A.drop i=A:=take_append_drop ..;have U:B.take j++B.drop j=B:=take_append_drop ..;have Z:(A.take i++A.drop i).Pairwise R:=(by rw[O];exact hA)
 have pb:(B.take j++B.drop j).Pairwise R:=(by rw[U];exact hB)
 have ea:A++(B++Q)=A.take i++(A.drop i++(B.take j++(B.drop j++Q))):=(by rw[←append_assoc (A.take i),O,←append_assoc (B.take j),U])
 refine⟨P++(A.take i++(B.take j++(A.drop i++(B.drop j++Q)))),⟨P,A.take i,A.drop i,B.take j,B.drop j,Q,by rw[ea],rfl,rfl,by omega,by omega,by omega,by omega,by omega,(pairwise_append.1 Z).1,(pairwise_append.1 Z).2.1,(pairwise_append.1 pb).1,(pairwise_append.1 pb).2.1,fun x hx y hy=>aa x (mem_of_mem_take hx) y (mem_of_mem_take hy),fun x hx y hy=>aa x (mem_of_mem_drop hx) y (mem_of_mem_drop hy),hc⟩,
  P++A.take i,A.drop i,B.take j,B.drop j++Q,by rw[ea];simp,by omega,by omega,by rw[length_append];omega,by simp⟩
theorem tW.perm(h:tW R Lt l l1 a s m e b mid):l1.Perm l:=by
 obtain⟨P,E,I,O,B2,Q,rfl,rfl,_⟩:=h;refine Perm.append_left P (Perm.append_left E ?_);rw[←append_assoc O,←append_assoc I];exact List.perm_append_comm.append_right _
theorem adU(h:tW R Lt l l1 a s m e b mid):pO R Lt l1 a s mid:=by
 obtain⟨P,E,I,O,B2,Q,rfl,rfl,e1,e2,Z,e4,e5,U,p1,p2,p3,p4,q1,q2,q3⟩:=h;exact⟨P,E,O,I++(B2++Q),rfl,e1,e2,U,p1,p3,q1⟩
theorem QS(h:tW R Lt l l1 a s m e b mid)(hn:¬(a<s∧s<mid)):Part R l1 l1 a mid:=by
 obtain⟨P,E,O,I,B2,Q,rfl,rfl,rfl,e2,U,Z,e5,e6,p1,p2,p3,p4,q1,q2,q3⟩:=h;have:(E++I).Pairwise R:=by
  rcases Nat.eq_zero_or_pos E.length with h|h
  ·rw[length_eq_zero_iff.1 h];exact p3
  rw[length_eq_zero_iff.1 (show I.length=0 by omega),append_nil];exact p1
 have:=Pm (P:=P) (Q:=O++(B2++Q)) this;rw[append_assoc,length_append] at this;rwa [show P.length+(E.length+I.length)=mid by omega] at this
theorem Jh(h:tW R Lt l l1 a s m e b mid)(k:Part R l1 l2 a mid):∃(P I E O B2 Q M:List Int),l=P++(I++(E++(O++(B2++Q))))∧l2=P++(M++(E++(B2++Q)))∧P.length=a∧M.length+a=mid∧M.Perm (I++O)∧mid+E.length=e∧e+B2.length=b∧M.Pairwise R∧E.Pairwise R∧B2.Pairwise R∧(∀x∈E,∀y∈B2,Lt x y)∧∀x∈M,∀y∈E++B2,R x y:=by
 obtain⟨P,I,E,O,B2,Q,rfl,rfl,rfl,e2,e3,e4,e5,e6,p1,p2,p3,U,q1,q2,Z⟩:=h;rw[←append_assoc I] at k;obtain⟨M,h1,h2,h3⟩:=QR k rfl vm;have:=h2.length_eq;rw[length_append] at this;exact⟨P,I,E,O,B2,Q,M,rfl,h1,rfl,by omega,h2,by omega,by omega,h3,p2,U,q2,fun x hx=>Z x (h2.subset hx)⟩
theorem acd(h:tW R Lt l l1 a s m e b mid)(k:Part R l1 l2 a mid):pO R Lt l2 mid e b:=by
 obtain⟨P,I,E,O,B2,Q,M,rfl,rfl,rfl,e1,e2,U,Z,p1,p2,p3,q1,q2⟩:=Jh h k;exact⟨P++M,E,B2,Q,by simp,by rw[length_append];omega,by omega,by omega,p2,p3,q1⟩
theorem On(h:tW R Lt l l1 a s m e b mid)(k:Part R l1 l2 a mid)(hn:¬(mid<e∧e<b)):Part R l2 l2 mid b:=by
 obtain⟨P,I,E,O,B2,Q,M,rfl,rfl,rfl,e1,e2,U,Z,p1,p2,p3,q1,q2⟩:=Jh h k;have:(E++B2).Pairwise R:=by
  rcases Nat.eq_zero_or_pos E.length with h|h
  ·rw[length_eq_zero_iff.1 h];exact p3
  rw[length_eq_zero_iff.1 (show B2.length=0 by omega),append_nil];exact p2
 have:=Pm (P:=P++M) (Q:=Q) this;rw[append_assoc,length_append,length_append,append_assoc] at this;rwa [show P.length+M.length+(E.length+B2.length)=b by omega,show P.length+M.length=mid by omega] at this
theorem Ey(h:tW R Lt l l1 a s m e b mid)(k:Part R l1 l2 a mid)(j:Part R l2 l3 mid b):Part R l l3 a b:=by
 obtain⟨P,E,I,O,B2,Q,M,rfl,rfl,rfl,e1,e2,Z,e4,p1,p2,p3,q1,q2⟩:=Jh h k;rw[←append_assoc I,←append_assoc P] at j;obtain⟨U,h1,h2,h3⟩:=QR j vm (by rw[length_append,length_append];omega);have hl:=e2.length_eq;have ir:=h2.length_eq;rw[length_append] at hl ir;refine⟨P,M++U,E++(I++(O++B2)),Q,by rw[h1];simp,by simp,rfl,by rw[length_append];omega,?_,pairwise_append.2 ⟨p1,h3,fun x hx y hy=>q2 x hx y (h2.subset hy)⟩⟩;refine(e2.append h2).trans ?_;rw[append_assoc E];refine Perm.append_left E ?_;rw[←append_assoc O,←append_assoc I];exact List.perm_append_comm.append_right B2
theorem Part.perm(h:Part R l l1 a b):l1.Perm l:=by
 obtain⟨P,M,E,Q,rfl,rfl,_,_,hp,_⟩:=h;exact(hp.append_right Q).append_left P
theorem Part.len(h:Part R l l1 a b):l1.length=l.length:=h.perm.length_eq
theorem aaY{T cur:List Int}{j:Nat}(h:rC T cur m i j)(hz:i=0∨j=0):T=cur:=by
 obtain⟨P,X,Y,Q,rfl,rfl,rfl,hm,rfl⟩:=h;rcases hz with h|h
 ·rw[length_eq_zero_iff.1 h];rfl
 rw[length_eq_zero_iff.1 h];rfl
theorem ace(ht:∀{x y z:Int},R x y→R y z→R x z)(h:pO R Lt l a m b)(hm:m=a+1)(h1:m≤i)(h2:i≤b)(k1:i=m∨∃(p:i-1<l.length) (q:a<l.length),R l[i-1] l[a])(k2:i=b∨∃(p:a<l.length) (q:i<l.length),R l[a] l[i]) :
  ∃(P B Q:List Int) (x:Int),P.length=a∧l=Mv P B Q x 0∧i-m≤B.length∧m+B.length=b∧Part R l (Mv P B Q x (i-m)) a b:=by
 obtain⟨P,A,B,Q,rfl,rfl,rfl,rfl,hA,hB,aa⟩:=h;obtain⟨x,rfl⟩:=length_eq_one_iff.1 (show A.length=1 by omega);have E:∀(q:P.length<(P++([x]++(B++Q))).length),(P++([x]++(B++Q)))[P.length]=x:=fun q=>by rw[getElem_append_right w4];simp
 have I:∀k (h:k<B.length) (q:P.length+1+k<(P++([x]++(B++Q))).length),(P++([x]++(B++Q)))[P.length+1+k]=B[k]:=fun k h q=>by
  rw[getElem_append_right w4,getElem_append_right gU,getElem_append_left gU];simp only[length_singleton];congr 1;omega
 have jP:([x]:List Int).length=1:=rfl;rw[jP] at *;obtain⟨t,rfl⟩:∃t,i=P.length+1+t:=⟨i-(P.length+1),by omega⟩
 rw[show P.length+1+t-(P.length+1)=t by omega];have hp:=SE (R:=R) (P:=P) (B:=B) (Q:=Q) (x:=x) (s:=0) (t:=t) ht hB (Nat.zero_le _) w4 (by
  rcases Nat.eq_zero_or_pos t with q|q
  ·exact .inl q
  rcases k1 with k1|⟨O,U,k1⟩
  ·omega
  ·refine .inr ⟨by omega,?_⟩;have e1:=I (t-1) w4 w4;simp only[show P.length+1+t-1=P.length+1+(t-1) by omega] at k1;rw[E,e1] at k1;exact k1) (by
  rcases k2 with k2|⟨O,U,k2⟩
  ·exact .inl w4
  rcases Nat.lt_or_ge t B.length with q|q
  ·exact .inr ⟨q,by rw[E,I t q] at k2;exact k2⟩
  exact .inl w4)
 refine⟨P,B,Q,x,rfl,rfl,by omega,rfl,?_⟩;rw[show P.length+(B.length+1)=P.length+1+B.length by omega] at hp;exact hp
theorem aaG(ht:∀{x y z:Int},R x y→R y z→R x z)(h:pO R Lt l a m b)(hm:b=m+1)(h1:a≤i)(h2:i≤m)(k1:i=a∨∃(p:i-1<l.length) (q:m<l.length),R l[i-1] l[m])(k2:i=m∨∃(p:m<l.length) (q:i<l.length),R l[m] l[i]) :
  ∃(P B Q:List Int) (x:Int),P.length=a∧l=Mv P B Q x (m-a)∧i-a≤B.length∧a+B.length=m∧Part R l (Mv P B Q x (i-a)) a b:=by
 obtain⟨P,A,B,Q,rfl,rfl,rfl,rfl,hA,hB,aa⟩:=h;obtain⟨x,rfl⟩:=length_eq_one_iff.1 (show B.length=1 by omega);have E:∀(q:P.length+A.length<(P++(A++([x]++Q))).length),(P++(A++([x]++Q)))[P.length+A.length]=x:=fun q=>by
  rw[getElem_append_right w4,getElem_append_right w4];simp
 have I:∀k (h:k<A.length) (q:P.length+k<(P++(A++([x]++Q))).length),(P++(A++([x]++Q)))[P.length+k]=A[k]:=fun k h q=>by
  rw[getElem_append_right w4,getElem_append_left w4];simp
 have jP:([x]:List Int).length=1:=rfl;rw[jP] at *;obtain⟨t,rfl⟩:∃t,i=P.length+t:=⟨i-P.length,by omega⟩
 rw[show P.length+t-P.length=t by omega,show P.length+A.length-P.length=A.length by omega];have he:P++(A++([x]++Q))=Mv P A Q x A.length:=(by unfold Mv;simp)
 have hp:=SE (R:=R) (P:=P) (B:=A) (Q:=Q) (x:=x) (s:=A.length) (t:=t) ht hA (Nat.le_refl _) w4 (by
  rcases Nat.eq_zero_or_pos t with q|q
  ·exact .inl q
  rcases k1 with k1|⟨O,U,k1⟩
  ·omega
  ·refine .inr ⟨by omega,?_⟩;have e1:=I (t-1) w4 w4;simp only[show P.length+t-1=P.length+(t-1) by omega] at k1;rw[E,e1] at k1;exact k1) (by
  rcases k2 with k2|⟨O,U,k2⟩
  ·exact .inl w4
  rcases Nat.lt_or_ge t A.length with q|q
  ·exact .inr ⟨q,by rw[E,I t q] at k2;exact k2⟩
  exact .inl w4)
 refine⟨P,A,Q,x,rfl,he,by omega,rfl,?_⟩;rw[he,show P.length+A.length+1=P.length+(A.length+1) by omega];exact hp
theorem acf(h:t<B.length)(h0:P.length+t<(Mv P B Q x (t+1)).length):(Mv P B Q x (t+1))[P.length+t]=B[t]:=by
 simp only[EP h];rw[Dt _ (y8 h).symm]
theorem acg(h:t<B.length)(h0:P.length+t+1<(Mv P B Q x (t+1)).length):(Mv P B Q x (t+1))[P.length+t+1]=x:=by
 simp only[EP h];rw[Du _ (by rw[y8 h])]
theorem aeo(h:t<B.length)(ha:P.length=a)(h0:a+t<(Mv P B Q x t).length)(h1:a+t+1<(Mv P B Q x t).length):((Mv P B Q x t).set (a+t) (Mv P B Q x t)[a+t+1]).set (a+t+1) (Mv P B Q x t)[a+t]=Mv P B Q x (t+1):=by
 subst ha;rw[adR h,afl h,ab9 h]
theorem aen(h:t<B.length)(ha:P.length=a)(h0:a+t<(Mv P B Q x (t+1)).length)(h1:a+t+1<(Mv P B Q x (t+1)).length):((Mv P B Q x (t+1)).set (a+t+1) (Mv P B Q x (t+1))[a+t]).set (a+t) (Mv P B Q x (t+1))[a+t+1]=Mv P B Q x t:=by
 subst ha;rw[acf h,acg h,adS h]

end Go.Proofs.YtbcmjoaggammcaaGreatDoor.So
namespace Go.Proofs.YtbcmjoaggammcaaGreatDoor.So
open List
open Go.Proofs.Tryz
open Go.RowKit V Tw
variable {G:List (Nat×List Value)}
theorem ach(ln cap O fc:Nat)(U:List D)(I:List ag)(cF:Int→Int→Int)(V:Int→Prop)(Lt:Int→Int→Prop)(hc:∀x y,V x→V y→VC Tryz.prog G fc ([.v (.int .i64 x),.v (.int .i64 y)]++U) I (fun r S'=>r = .v (.int .i64 (cF x y))∧S'=I))(Z:∀args w,(callFunc fc args).run Tryz.prog w = .ok (.enter fc args) w)(ht:∀{x y z:Int},Rc cF Lt x y→Rc cF Lt y z→Rc cF Lt x z)(ha:∀x y,0≤cF y x→cF x y≤0)(pz:ln≤cap)(qV:cap≤maxLen)(oN:ln≤1000000)(n:Nat)(ih:∀k,k<n→∀(l:List Int) (a m b:Nat),b-a=k→pO (Rc cF Lt) Lt l a m b→a<m→m<b→l.length=ln→(∀x∈l,V x)→VC Tryz.prog G 148 [.v (.slice (some ⟨O,0,none⟩) ln cap),.v (.int .i64 (a:Nat)),.v (.int .i64 (m:Nat)),.v (.int .i64 (b:Nat)),.ek (.func fc) U] (⟨O,3,cap*1,(l).flatMap cI⟩::I) (fun r S'=>r = .dz []∧∃lz,Part (Rc cF Lt) l lz a b∧S'=⟨O,3,cap*1,(lz).flatMap cI⟩::I))(l:List Int)(a m b:Nat)(hn:b-a=n)(h:pO (Rc cF Lt) Lt l a m b)(h1:a<m)(h2:m<b)(fY:l.length=ln)(hV:∀x∈l,V x):VC Tryz.prog G 148 [.v (.slice (some ⟨O,0,none⟩) ln cap),.v (.int .i64 (a:Nat)),.v (.int .i64 (m:Nat)),.v (.int .i64 (b:Nat)),.ek (.func fc) U] (⟨O,3,cap*1,(l).flatMap cI⟩::I) (fun r S'=>r = .dz []∧∃lz,Part (Rc cF Lt) l lz a b∧S'=⟨O,3,cap*1,(lz).flatMap cI⟩::I):=by
 refine VC.body func148 rfl ntmps148 aO fun X0 w0 aZ=>?_;have dy:maxLen=9223372036854775807:=rfl;have hlen:=h.len;refine cN [0,1,2,3,4,28] ?_;refine aQ 2 ?_ (h:=by exact(cZ rfl ot ot (fZ (r:=((m-a:Nat):Int)) ql)));refine bH ?_;refine aq (fun az aH=>?_) (fun az aH=>?_)
 ·have CU:m=a+1:=(by omega)
  refine ae [0,1,3,4,10] ?_;refine ae [0,1,4,10,11] ?_;refine eB [0,1,4] (fun aW _ (E:Nat×Nat) aK=>match E with|(i,j)=>(m≤i)∧(i≤j)∧(j≤b)∧((i=m∨∃(p:i-1<l.length) (q:a<l.length),(Rc cF Lt) l[i-1] l[a]))∧((j=b∨∃(p:a<l.length) (q:j<l.length),(Rc cF Lt) l[a] l[j]))∧aK=(⟨220,(10,.v (.int .i64 (i:Nat)))::(11,.v (.int .i64 (j:Nat)))::aW,(⟨O,3,cap*1,(l).flatMap cI⟩::I)⟩:St)) (fun (E:Nat×Nat)=>match E with|(i,j)=>j-i) (m,b) ⟨(Nat.le_refl _),w4,(Nat.le_refl _),(.inl rfl),(.inl rfl),rfl⟩ ?_;rintro⟨i,j⟩ _ ⟨mi,Xo,hjb,dI,fq,rfl⟩;refine ae [0,1,4,10,11,33] ?_;refine aq (fun aG aV=>?_) (fun aG aV=>?_)
  ·have hh:i<j:=(by omega)
   have hH:((i+j)/2)<l.length:=(by omega)
   have hA:a<l.length:=(by omega)
   refine cN [0,1,4,10,11,12] ?_;refine aQ 2 ?_ (h:=by exact(cZ rfl ot ot (j3 (r:=((i+j:Nat):Int)) zM)));refine aQ 0 ?_ (h:=by exact(oo rfl ot (oq (r:=((i+j:Nat):Int)) runUnderlying3 runUnderlying211 (IntWalk.u64_in _ w4))));refine aQ 0 ?_ (h:=by exact(cZ rfl ot bJ (yD w7 Bn)));refine aQ 0 ?_ (h:=by exact(oo rfl ot (oq (r:=((((i+j)/2):Nat):Int)) runUnderlying211 runUnderlying3 (wrap_i64 w4 w4))));refine bH ?_;refine CD.seq ?_;refine fK 9 (ap (take 1 _)) ?_ (fun _ h=>(Sublist.map _ (take_sublist _ _)).subset h);refine ax 0 rfl bj ?_;refine ax 1 rfl bj ?_;refine ax 2 rfl bj ?_;refine ax 3 rfl (c9 1 (h:=by first|exact .l (j:=((i+j)/2)) rfl w4|exact .r (j:=((i+j)/2)) rfl w4)) ?_;refine ax 4 rfl eU ?_;refine ax 5 rfl bj ?_;refine ax 6 rfl bj ?_;refine ax 7 rfl (c9 1 (h:=by first|exact .l (j:=a) rfl w4|exact .r (j:=a) rfl w4)) ?_;refine ax 8 rfl eU ?_;refine dm.later rfl ?_;refine eA ?_;refine OD.j4 (f:=fc) (args:=[_,_]) (Sf:=I) an rfl rfl ot Z (hc _ _ (hV _ (getElem_mem hH)) (hV _ (getElem_mem hA))) rfl ⟨ot,ot,trivial⟩ (perm_append_singleton _ _).symm ?_;rintro _ S2 ⟨rfl,iq⟩;rw[iq];clear iq;refine OD.perm (perm_append_singleton _ _) ?_;refine aj 220 [0,1,4,10,11,12,50] ?_;refine aq (fun aY bz=>?_) (fun aY bz=>?_)
   ·have xn:(Rc cF Lt) (l[((i+j)/2)]'hH) (l[a]'hA):=Ev bz;refine cj [0,1,4,10,11] ?_;exact Ws
   have zX:(Rc cF Lt) (l[a]'hA) (l[((i+j)/2)]'hH):=ES ha (h.lt (Nat.le_refl _) w4 w4 w4 hA hH) w4;refine cj [0,1,4,10,11] ?_;exact Ux
  obtain rfl:i=j:=(by omega)
  obtain⟨P,B,Q,x,hP,hl,hiB,hB,JV⟩:=ace (R:=Rc cF Lt) (l:=l) (a:=a) (m:=m) (b:=b) (i:=i) ht h CU mi hjb dI fq;subst hl;have lP:∀t,t≤B.length→(Mv P B Q x (t)).length=ln:=fun t ht=>by rw[E4 ht,←fY,E4 (Nat.zero_le _)]
  refine ae [0,10,13] ?_;refine eB [0,10] (fun aW _ (t:Nat) aK=>(t≤i-m)∧aK=(⟨220,(13,.v (.int .i64 (a+t:Nat)))::aW,(⟨O,3,cap*1,(Mv P B Q x (t)).flatMap cI⟩::I)⟩:St)) (fun (t:Nat)=>i-m-t) 0 ⟨(Nat.zero_le _),rfl⟩ ?_;rintro t _ ⟨hti,rfl⟩;refine cN [0,10,13,58] ?_;refine aQ 2 ?_ (h:=by exact(cZ rfl ot bJ (fZ (r:=((i-1:Nat):Int)) (by rw[show(((i:Nat):Int)-1)=((i-1:Nat):Int) by omega];exact wrap_i64 w4 w4))));refine bH ?_;refine aq (fun bC bY=>?_) (fun bC bY=>?_)
  ·have L6:t<B.length:=(by omega)
   have oG:=lP t w4;refine CD.skip ?_;refine CD.seq ?_;refine CD.block ?_;refine fK 16 (ap (eraseIdx _ 0)) ?_ (fun _ h=>(Sublist.map _ (eraseIdx_sublist _ 0)).subset h);refine ax 0 rfl bj ?_;refine ax 1 rfl bj ?_;refine ax 2 rfl bj ?_;refine ax 3 rfl bj ?_;refine ax 4 rfl (cZ rfl ot bJ (j3 (r:=((a+t+1:Nat):Int)) (by rw[show(((a+t:Nat):Int)+1)=((a+t+1:Nat):Int) by omega];exact wrap_i64 w4 w4))) ?_;refine ax 5 rfl bj ?_;refine ax 6 rfl bj ?_;refine ax 7 rfl (cZ rfl ot bJ (j3 (r:=((a+t+1:Nat):Int)) (by rw[show(((a+t:Nat):Int)+1)=((a+t+1:Nat):Int) by omega];exact wrap_i64 w4 w4))) ?_;refine ax 8 rfl (c9 1 (h:=by first|exact .l (j:=a+t+1) rfl w4|exact .r (j:=a+t+1) rfl w4)) ?_;refine ax 10 rfl bj ?_;refine ax 11 rfl bj ?_;refine ax 12 rfl (c9 1 (h:=by first|exact .l (j:=a+t) rfl w4|exact .r (j:=a+t) rfl w4)) ?_;refine dm.later rfl ?_;refine AD.two (i:=9) (j:=13) ay ?_ ?_
   ·refine at_ rfl eU ?_;refine AD.one (i:=13) ay ?_;exact VS
   refine at_ rfl eU ?_;refine AD.one (i:=9) ay ?_;exact VS
  obtain rfl:t=i-m:=(by omega)
  exact Gl
 refine cN [0,1,2,3,4,80] ?_;refine aQ 2 ?_ (h:=by exact(cZ rfl ot ot (fZ (r:=((b-m:Nat):Int)) ql)));refine bH ?_;refine aq (fun cy de=>?_) (fun cy de=>?_)
 ·have CU:b=m+1:=(by omega)
  refine ae [0,2,4,14] ?_;refine ae [0,2,4,14,15] ?_;refine eB [0,2,4] (fun aW _ (E:Nat×Nat) aK=>match E with|(i,j)=>(a≤i)∧(i≤j)∧(j≤m)∧((i=a∨∃(p:i-1<l.length) (q:m<l.length),(Rc cF Lt) l[i-1] l[m]))∧((j=m∨∃(p:m<l.length) (q:j<l.length),(Rc cF Lt) l[m] l[j]))∧aK=(⟨220,(14,.v (.int .i64 (i:Nat)))::(15,.v (.int .i64 (j:Nat)))::aW,(⟨O,3,cap*1,(l).flatMap cI⟩::I)⟩:St)) (fun (E:Nat×Nat)=>match E with|(i,j)=>j-i) (a,m) ⟨(Nat.le_refl _),w4,(Nat.le_refl _),(.inl rfl),(.inl rfl),rfl⟩ ?_;rintro⟨i,j⟩ _ ⟨Xz,Xo,MC,dI,fq,rfl⟩;refine ae [0,2,4,14,15,85] ?_;refine aq (fun dO eo=>?_) (fun dO eo=>?_)
  ·have hh:i<j:=(by omega)
   have hH:((i+j)/2)<l.length:=(by omega)
   have hM:m<l.length:=(by omega)
   refine cN [0,2,4,14,15,16] ?_;refine aQ 2 ?_ (h:=by exact(cZ rfl ot ot (j3 (r:=((i+j:Nat):Int)) zM)));refine aQ 0 ?_ (h:=by exact(oo rfl ot (oq (r:=((i+j:Nat):Int)) runUnderlying3 runUnderlying211 (IntWalk.u64_in _ w4))));refine aQ 0 ?_ (h:=by exact(cZ rfl ot bJ (yD w7 Bn)));refine aQ 0 ?_ (h:=by exact(oo rfl ot (oq (r:=((((i+j)/2):Nat):Int)) runUnderlying211 runUnderlying3 (wrap_i64 w4 w4))));refine bH ?_;refine CD.seq ?_;refine fK 9 (ap (take 1 _)) ?_ (fun _ h=>(Sublist.map _ (take_sublist _ _)).subset h);refine ax 0 rfl bj ?_;refine ax 1 rfl bj ?_;refine ax 2 rfl bj ?_;refine ax 3 rfl (c9 1 (h:=by first|exact .l (j:=m) rfl w4|exact .r (j:=m) rfl w4)) ?_;refine ax 4 rfl eU ?_;refine ax 5 rfl bj ?_;refine ax 6 rfl bj ?_;refine ax 7 rfl (c9 1 (h:=by first|exact .l (j:=((i+j)/2)) rfl w4|exact .r (j:=((i+j)/2)) rfl w4)) ?_;refine ax 8 rfl eU ?_;refine dm.later rfl ?_;refine eA ?_;refine OD.j4 (f:=fc) (args:=[_,_]) (Sf:=I) an rfl rfl ot Z (hc _ _ (hV _ (getElem_mem hM)) (hV _ (getElem_mem hH))) rfl ⟨ot,ot,trivial⟩ (perm_append_singleton _ _).symm ?_;rintro _ S2 ⟨rfl,iq⟩;rw[iq];clear iq;refine OD.perm (perm_append_singleton _ _) ?_;refine aj 220 [0,2,4,14,15,16,103] ?_;refine aq (fun eS fW=>?_) (fun eS fW=>?_)
   ·have xn:(Rc cF Lt) (l[((i+j)/2)]'hH) (l[m]'hM):=ES ha (h.lt w4 w4 (Nat.le_refl _) w4 hH hM) w4;refine cj [0,2,4,14,15] ?_;exact Ws
   have zX:(Rc cF Lt) (l[m]'hM) (l[((i+j)/2)]'hH):=Ev fW;refine cj [0,2,4,14,15] ?_;exact Ux
  obtain rfl:i=j:=(by omega)
  obtain⟨P,B,Q,x,hP,hl,hiB,hB,JV⟩:=aaG (R:=Rc cF Lt) (l:=l) (a:=a) (m:=m) (b:=b) (i:=i) ht h CU Xz MC dI fq;subst hl;have lP:∀t,t≤B.length→(Mv P B Q x (t)).length=ln:=fun t ht=>by rw[E4 ht,←fY,E4 w4]
  refine ae [0,14,17] ?_;refine eB [0,14] (fun aW _ (t:Nat) aK=>(i-a≤t)∧(t≤m-a)∧aK=(⟨220,(17,.v (.int .i64 (a+t:Nat)))::aW,(⟨O,3,cap*1,(Mv P B Q x (t)).flatMap cI⟩::I)⟩:St)) (fun (t:Nat)=>t) (m-a) ⟨w4,(Nat.le_refl _),rfl⟩ ?_;rintro t _ ⟨hti,htm,rfl⟩;refine ae [0,14,17,110] ?_;refine aq (fun eL gg=>?_) (fun eL gg=>?_)
  ·obtain⟨t,rfl⟩:∃k,t=k+1:=⟨t-1,by omega⟩
   have L6:t<B.length:=(by omega)
   have oG:=lP (t+1) w4;refine CD.skip ?_;refine CD.seq ?_;refine CD.block ?_;refine fK 16 (ap (eraseIdx _ 0)) ?_ (fun _ h=>(Sublist.map _ (eraseIdx_sublist _ 0)).subset h);refine ax 0 rfl bj ?_;refine ax 1 rfl bj ?_;refine ax 2 rfl bj ?_;refine ax 3 rfl bj ?_;refine ax 4 rfl (cZ rfl ot bJ (fZ (r:=((a+t:Nat):Int)) LH)) ?_;refine ax 5 rfl bj ?_;refine ax 6 rfl bj ?_;refine ax 7 rfl (cZ rfl ot bJ (fZ (r:=((a+t:Nat):Int)) LH)) ?_;refine ax 8 rfl (c9 1 (h:=by first|exact .l (j:=a+t) rfl w4|exact .r (j:=a+t) rfl w4)) ?_;refine ax 10 rfl bj ?_;refine ax 11 rfl bj ?_;refine ax 12 rfl (c9 1 (h:=by first|exact .l (j:=a+t+1) rfl w4|exact .r (j:=a+t+1) rfl w4)) ?_;refine dm.later rfl ?_;refine AD.two (i:=9) (j:=13) ay ?_ ?_
   ·refine at_ rfl eU ?_;refine AD.one (i:=13) ay ?_;exact VR
   refine at_ rfl eU ?_;refine AD.one (i:=9) ay ?_;exact VR
  obtain rfl:t=i-a:=(by omega)
  exact Gl
 obtain⟨mid,ajf⟩:∃q,q=(a+b)/2:=⟨_,rfl⟩
 refine cN [0,1,2,3,4,18] ?_;refine aQ 2 ?_ (h:=by exact(cZ rfl ot ot (j3 (r:=((a+b:Nat):Int)) zM)));refine aQ 0 ?_ (h:=by exact(oo rfl ot (oq (r:=((a+b:Nat):Int)) runUnderlying3 runUnderlying211 (IntWalk.u64_in _ w4))));refine aQ 0 ?_ (h:=by exact(cZ rfl ot bJ (yD w7 Bn)));refine aQ 0 ?_ (h:=by exact(oo rfl ot (oq (r:=((mid:Nat):Int)) runUnderlying211 runUnderlying3 (by rw[show(((a+b)/2:Nat):Int)=((mid:Nat):Int) by rw[ajf]];exact wrap_i64 w4 w4))));refine bH ?_;refine cN [0,1,2,3,4,18,19] ?_;refine aQ 2 ?_ (h:=by exact(cZ rfl ot ot (j3 (r:=((mid+m:Nat):Int)) zM)));refine bH ?_;refine ae [0,1,2,3,4,18,19] ?_;refine jJ [0,1,2,3,4,18,19] (fun aW rz aK=>∃(s0:Nat),∃(r0:Nat),((mid<m∧s0=mid+m-b∧r0=mid)∨(m≤mid∧s0=a∧r0=m))∧aK=(⟨220,(20,.v (.int .i64 (s0:Nat)))::(21,.v (.int .i64 (r0:Nat)))::aW,rz⟩:St)) ?_ ?_
 ·refine ae [0,1,2,3,4,18,19,140] ?_;refine aq (fun kY tT=>?_) (fun kY tT=>?_)
  ·refine cN [0,1,2,3,4,18,19,20] ?_;refine aQ 2 ?_ (h:=by exact(cZ rfl ot ot (fZ (r:=(((mid+m)-b:Nat):Int)) ql)));refine bH ?_;refine cj [0,1,2,3,4,18,19,20,21] ?_;refine⟨_,aM,(mid+m-b),mid,(.inl ⟨by omega,rfl,rfl⟩),rfl⟩
  refine ae [0,1,2,3,4,18,19,20] ?_;refine cj [0,1,2,3,4,18,19,20,21] ?_;refine⟨_,aM,a,m,(.inr ⟨by omega,rfl,rfl⟩),rfl⟩
 rintro _ ⟨s0,r0,GS,rfl⟩;refine cN [0,1,2,3,4,18,19,20,21,22] ?_;refine aQ 1 ?_ (h:=by exact(cZ rfl ot bJ (fZ (r:=(((mid+m)-1:Nat):Int)) (by rw[show((((mid+m):Nat):Int)-1)=(((mid+m)-1:Nat):Int) by omega];exact wrap_i64 w4 w4))));refine bH ?_;refine eB [0,1,2,3,4,18,19,22] (fun aW _ (E:Nat×Nat) aK=>match E with|(s,r)=>(s0≤s)∧(s≤r)∧(r≤r0)∧((s=s0∨∃(p:s-1<l.length) (q:mid+m-s<l.length),(Rc cF Lt) l[s-1] l[mid+m-s]))∧((r=r0∨∃(p:mid+m-r-1<l.length) (q:r<l.length),(Rc cF Lt) l[mid+m-r-1] l[r]))∧aK=(⟨220,(20,.v (.int .i64 (s:Nat)))::(21,.v (.int .i64 (r:Nat)))::aW,(⟨O,3,cap*1,(l).flatMap cI⟩::I)⟩:St)) (fun (E:Nat×Nat)=>match E with|(s,r)=>r-s) (s0,r0) ⟨(Nat.le_refl _),w4,(Nat.le_refl _),(.inl rfl),(.inl rfl),rfl⟩ ?_;rintro⟨s,r⟩ _ ⟨oN,aoF,XB,dI,fq,rfl⟩;refine ae [0,1,2,3,4,18,19,20,21,22,151] ?_;refine aq (fun sQ wY=>?_) (fun sQ wY=>?_)
 ·have hh:s<r:=(by omega)
  have hC:((s+r)/2)<l.length:=(by omega)
  have hQ:(mid+m-1-((s+r)/2))<l.length:=(by omega)
  refine cN [0,1,2,3,4,18,19,20,21,22,23] ?_;refine aQ 2 ?_ (h:=by exact(cZ rfl ot ot (j3 (r:=((s+r:Nat):Int)) zM)));refine aQ 0 ?_ (h:=by exact(oo rfl ot (oq (r:=((s+r:Nat):Int)) runUnderlying3 runUnderlying211 (IntWalk.u64_in _ w4))));refine aQ 0 ?_ (h:=by exact(cZ rfl ot bJ (yD w7 Bn)));refine aQ 0 ?_ (h:=by exact(oo rfl ot (oq (r:=((((s+r)/2):Nat):Int)) runUnderlying211 runUnderlying3 (wrap_i64 w4 w4))));refine bH ?_;refine CD.seq ?_;refine fK 11 (ap (take 1 _)) ?_ (fun _ h=>(Sublist.map _ (take_sublist _ _)).subset h);refine ax 0 rfl bj ?_;refine ax 1 rfl bj ?_;refine ax 2 rfl bj ?_;refine ax 3 rfl bj ?_;refine ax 4 rfl (cZ rfl ot ot (fZ (r:=(((mid+m-1)-((s+r)/2):Nat):Int)) ql)) ?_;refine ax 5 rfl (c9 1 (h:=by first|exact .l (j:=(mid+m-1-((s+r)/2))) rfl w4|exact .r (j:=(mid+m-1-((s+r)/2))) rfl w4)) ?_;refine ax 6 rfl eU ?_;refine ax 7 rfl bj ?_;refine ax 8 rfl bj ?_;refine ax 9 rfl (c9 1 (h:=by first|exact .l (j:=((s+r)/2)) rfl w4|exact .r (j:=((s+r)/2)) rfl w4)) ?_;refine ax 10 rfl eU ?_;refine dm.later rfl ?_;refine eA ?_;refine OD.j4 (f:=fc) (args:=[_,_]) (Sf:=I) an rfl rfl ot Z (hc _ _ (hV _ (getElem_mem hQ)) (hV _ (getElem_mem hC))) rfl ⟨ot,ot,trivial⟩ (perm_append_singleton _ _).symm ?_;rintro _ S2 ⟨rfl,iq⟩;rw[iq];clear iq;refine OD.perm (perm_append_singleton _ _) ?_
  refine aj 220 [0,1,2,3,4,18,19,20,21,22,23,171] ?_;refine aq (fun tM rO=>?_) (fun tM rO=>?_)
  ·have ajg:(Rc cF Lt) (l[((s+r)/2)]'hC) (l[(mid+m-1-((s+r)/2))]'hQ):=ES ha (h.lt w4 w4 w4 w4 hC hQ) w4;have xn:(Rc cF Lt) (l[((s+r)/2)+1-1]'w4) (l[mid+m-(((s+r)/2)+1)]'w4):=(by simpa only[show((s+r)/2)+1-1=((s+r)/2) by omega,show mid+m-(((s+r)/2)+1)=(mid+m-1-((s+r)/2)) by omega] using ajg)
   refine cj [0,1,2,3,4,18,19,20,21,22] ?_;refine⟨((((s+r)/2)+1),r),_,cx,aM,w4,w4,w4,(.inr ⟨by omega,by omega,xn⟩),fq,rfl⟩
  have ajh:(Rc cF Lt) (l[(mid+m-1-((s+r)/2))]'hQ) (l[((s+r)/2)]'hC):=Ev rO;have zX:(Rc cF Lt) (l[mid+m-((s+r)/2)-1]'w4) (l[((s+r)/2)]'w4):=(by simpa only[show mid+m-((s+r)/2)-1=(mid+m-1-((s+r)/2)) by omega] using ajh)
  refine cj [0,1,2,3,4,18,19,20,21,22] ?_;refine⟨(s,((s+r)/2)),_,cx,aM,w4,w4,w4,dI,(.inr ⟨by omega,by omega,zX⟩),rfl⟩
 obtain rfl:s=r:=(by omega)
 obtain⟨l1,qi,Ku⟩:=adT (R:=Rc cF Lt) (l:=l) (a:=a) (m:=m) (b:=b) (s:=s) (e:=mid+m-s) (mid:=mid) ht h w4 w4 w4 w4 w4 (by rcases dI with q|q;(rcases GS with q2|q2;exact .inr (.inl w4);exact .inl w4);exact .inr (.inr q)) (by rcases fq with q|q;(rcases GS with q2|q2;exact .inl w4;exact .inr (.inl w4));exact .inr (.inr q));have jP:=Ku.len.2.2;refine cN [0,1,2,3,4,18,20,24] ?_;refine aQ 2 ?_ (h:=by exact(cZ rfl ot ot (fZ (r:=(((mid+m)-s:Nat):Int)) ql)));refine bH ?_;refine jJ [0,1,3,4,18,20,24] (fun aW _ aK=>aK=(⟨220,aW,(⟨O,3,cap*1,(l1).flatMap cI⟩::I)⟩:St)) ?_ ?_
 ·refine aC 4 ?_;refine bS 181 (fun agC afm=>?_) (fun agC afm=>?_)
  ·refine bf [0,1,2,3,4,18,20,24,185] ?_;refine aq (fun pu tF=>?_) (fun pu tF=>?_)
   ·refine dL 5 ?_;refine OD.call (R:=I) an rfl rfl rfl call173 (afk l l1 ln s m (mid+m-s) cap O (.ek (.func fc) U) [] Ku w4 w4 fY pz w4) ⟨ot,ot,ot,ot,ot,trivial⟩ (Perm.refl _) ?_;rintro _ _ ⟨rfl,rfl⟩;refine aj 220 [0,1,3,4,18,20,24] ?_;refine⟨_,aM,rfl⟩
   exact z105
  refine bf [0,1,2,3,4,18,20,24,185] ?_;refine fL ?_;exact z105
 rintro _ ⟨rfl⟩;refine jJ [0,3,4,18,24] (fun aW _ aK=>∃(l2:List Int),(Part (Rc cF Lt) l1 l2 a mid)∧aK=(⟨220,aW,(⟨O,3,cap*1,(l2).flatMap cI⟩::I)⟩:St)) ?_ ?_
 ·refine aC 4 ?_;refine bS 195 (fun agD afn=>?_) (fun agD afn=>?_)
  ·refine bf [0,1,3,4,18,20,24,199] ?_;refine aq (fun za JQ=>?_) (fun za JQ=>?_)
   ·refine dL 5 ?_;refine OD.call (R:=[]) an rfl rfl rfl call148 (ih (mid-a) w4 l1 a s mid rfl (adU qi) w4 w4 (jP.trans fY) (fun z hz=>hV z (qi.perm.subset hz))) ⟨ot,ot,ot,ot,ot,trivial⟩ oI ?_;rintro _ _ ⟨rfl,l2,n9,rfl⟩;refine OD.perm (S':=⟨O,3,cap*1,(l2).flatMap cI⟩::I) oI ?_;refine aj 220 [0,3,4,18,24] ?_;refine⟨_,aM,l2,n9,rfl⟩
   refine CD.skip ?_;refine⟨_,aM,l1,(QS qi w4),rfl⟩
  refine bf [0,1,3,4,18,20,24,199] ?_;refine fL ?_;refine CD.skip ?_;refine⟨_,aM,l1,(QS qi w4),rfl⟩
 rintro _ ⟨l2,n9,rfl⟩;refine aC 4 ?_;refine bS 209 (fun agE afo=>?_) (fun agE afo=>?_)
 ·refine bf [0,3,4,18,24,213] ?_;refine aq (fun BC JR=>?_) (fun BC JR=>?_)
  ·refine dL 5 ?_;refine OD.call (R:=[]) an rfl rfl rfl call148 (ih (b-mid) w4 l2 mid (mid+m-s) b rfl (acd qi n9) w4 w4 (n9.len.trans (jP.trans fY)) (fun z hz=>hV z (qi.perm.subset (n9.perm.subset hz)))) ⟨ot,ot,ot,ot,ot,trivial⟩ oI ?_;rintro _ _ ⟨rfl,l3,V5,rfl⟩;refine OD.perm (S':=⟨O,3,cap*1,(l3).flatMap cI⟩::I) oI ?_;refine aj 220 [] ?_;exact Gl
  exact Gl
 refine bf [0,3,4,18,24,213] ?_;refine fL ?_;refine aJ _ ?_;first|exact⟨rfl,_,JV,rfl⟩|exact⟨rfl,_,Ey qi n9 V5,rfl⟩|exact⟨rfl,_,Ey qi n9 (On qi n9 w4),rfl⟩
theorem TL(I cap bd O:Nat)(E:List D)(U:List ag)(cF:Int→Int→Int)(V:Int→Prop)(Lt:Int→Int→Prop)(hc:∀x y,V x→V y→VC Tryz.prog G O ([.v (.int .i64 x),.v (.int .i64 y)]++E) U (fun r S'=>r = .v (.int .i64 (cF x y))∧S'=U))(Z:∀args w,(callFunc O args).run Tryz.prog w = .ok (.enter O args) w)(ht:∀{x y z:Int},Rc cF Lt x y→Rc cF Lt y z→Rc cF Lt x z)(ha:∀x y,0≤cF y x→cF x y≤0)(pz:I≤cap)(qV:cap≤maxLen)(oN:I≤1000000):∀(n:Nat) (l:List Int) (a m b:Nat),b-a=n→pO (Rc cF Lt) Lt l a m b→a<m→m<b→l.length=I→(∀x∈l,V x)→VC Tryz.prog G 148 [.v (.slice (some ⟨bd,0,none⟩) I cap),.v (.int .i64 (a:Nat)),.v (.int .i64 (m:Nat)),.v (.int .i64 (b:Nat)),.ek (.func O) E] (⟨bd,3,cap*1,(l).flatMap cI⟩::U) (fun r S'=>r = .dz []∧∃lz,Part (Rc cF Lt) l lz a b∧S'=⟨bd,3,cap*1,(lz).flatMap cI⟩::U):=fun n=>Nat.strongRecOn n (ach I cap bd O E U cF V Lt hc Z ht ha pz qV oN)

end Go.Proofs.YtbcmjoaggammcaaGreatDoor.So
namespace Go.Proofs.YtbcmjoaggammcaaGreatDoor.So
/-
  Jg,plainly,part 5: at mY anI,in parts of anj.
-/
open List
open Go.Proofs.Tryz
variable {R Lt:Int→Int→Prop} {l l1 cur ny:List Int} {a b m n k:Nat}
theorem HQ(h:Part R l l1 a b):l1.drop b=l.drop b:=by
 obtain⟨P,M,E,Q,rfl,rfl,rfl,rfl,hp,_⟩:=h;rw[←append_assoc,drop_left' (by rw[length_append]),←append_assoc,drop_left' (by rw[length_append,hp.length_eq])]
theorem QT(h:Part R l l1 a a):l1=l:=by
 obtain⟨P,M,E,Q,rfl,rfl,rfl,h1,hp,_⟩:=h;have hl:=hp.length_eq;rw[length_eq_zero_iff.1 (show M.length=0 by omega),length_eq_zero_iff.1 (show E.length=0 by omega)]
theorem Iu(h:Part R l l1 0 n)(hn:l.length=n):l1.Perm l∧l1.Pairwise R:=by
 refine⟨h.perm,?_⟩;obtain⟨P,M,E,Q,rfl,rfl,h1,h2,hp,hs⟩:=h;have hl:=hp.length_eq;simp only[length_append] at hn;rw[length_eq_zero_iff.1 h1,length_eq_zero_iff.1 (show Q.length=0 by omega)];simpa using hs
def x4(R:Int→Int→Prop)(l cur:List Int)(k:Nat):Prop:=(k=0∧cur=l)∨(k=1∧Part R l cur 0 20)∨(k=2∧∃l1,Part R l l1 0 20∧Part R l1 cur 20 40)
def FW(R:Int→Int→Prop)(l cur:List Int)(n:Nat):Prop:=∃l1,Part R l l1 0 20∧Part R l1 cur 20 n
theorem x4.perm(h:x4 R l cur k):cur.Perm l:=by
 rcases h with ⟨_,rfl⟩|⟨_,h⟩|⟨_,l1,h1,h2⟩
 ·exact .refl _
 ·exact h.perm
 exact h2.perm.trans h1.perm
theorem aci(h:x4 R l cur k)(hk:k≤1)(hp:Part R cur ny (20*k) (20*(k+1))):x4 R l ny (k+1):=by
 rcases h with ⟨rfl,rfl⟩|⟨rfl,h⟩|⟨rfl,_⟩
 ·exact .inr (.inl ⟨rfl,hp⟩)
 ·exact .inr (.inr ⟨rfl,_,h,hp⟩)
 omega
theorem acj(h:x4 R l cur k):cur.drop (20*k)=l.drop (20*k):=by
 rcases h with ⟨rfl,rfl⟩|⟨rfl,h⟩|⟨rfl,l1,h1,h2⟩
 ·rfl
 ·exact HQ h
 rw[HQ h2];have:=congrArg (drop 20) (HQ h1);rw[drop_drop,drop_drop] at this;exact this
theorem adV(h:x4 R l cur k)(h1:20*k≤n)(h2:n<20*(k+1))(h3:n≤40)(hl:l.length=n)(hp:Part R cur ny (20*k) n):(n≤20∧ny.Perm l∧ny.Pairwise R)∨(20<n∧FW R l ny n):=by
 rcases h with ⟨rfl,rfl⟩|⟨rfl,h⟩|⟨rfl,l1,E,I⟩
 ·exact .inl ⟨by omega,Iu hp hl⟩
 ·rcases Nat.lt_or_ge 20 n with q|q
  ·exact .inr ⟨q,_,h,hp⟩
  obtain rfl:n=20:=(by omega)
  rw[QT hp];exact .inl ⟨q,Iu h hl⟩
 obtain rfl:n=40:=(by omega)
 rw[QT hp];exact .inr ⟨by omega,_,E,I⟩
theorem ack(h:FW R l cur n)(hq:l.Pairwise Lt):pO R Lt cur 0 20 n:=by
 obtain⟨l1,⟨P,M,M0,Q,rfl,rfl,h1,h2,hp,hs⟩,p2⟩:=h;obtain rfl:=length_eq_zero_iff.1 h1;obtain⟨O,U,Z,I,rfl,h4,h5,h6,n9,E⟩:=p2;obtain⟨e1,e2⟩:=append_inj (show M++Q=O++(Z++I) from h4) w4;subst e1 e2;rw[nil_append,pairwise_append] at hq;exact⟨[],M,U,I,by simp,rfl,by omega,by omega,hs,E,fun x hx y hy=>hq.2.2 x (hp.subset hx) y (mem_append_left _ (n9.subset hy))⟩
theorem QU(h:FW R l cur n)(hp:Part R cur ny 0 n)(hl:l.length=n):ny.Perm l∧ny.Pairwise R:=by
 obtain⟨l1,p1,p2⟩:=h;have:=Iu hp (by rw[p2.len,p1.len,hl]);exact⟨this.1.trans (p2.perm.trans p1.perm),this.2⟩

end Go.Proofs.YtbcmjoaggammcaaGreatDoor.So
namespace Go.Proofs.YtbcmjoaggammcaaGreatDoor.So
open List
open Go.Proofs.Tryz
open Go.RowKit V Tw
variable {G:List (Nat×List Value)}
theorem aaH(I cap U fc:Nat)(O:List D)(Z:List ag)(cF:Int→Int→Int)(V:Int→Prop)(Lt:Int→Int→Prop)(hc:∀x y,V x→V y→VC Tryz.prog G fc ([.v (.int .i64 x),.v (.int .i64 y)]++O) Z (fun r S'=>r = .v (.int .i64 (cF x y))∧S'=Z))(vf:∀args w,(callFunc fc args).run Tryz.prog w = .ok (.enter fc args) w)(ht:∀{x y z:Int},Rc cF Lt x y→Rc cF Lt y z→Rc cF Lt x z)(ha:∀x y,0≤cF y x→cF x y≤0)(pz:I≤cap)(qV:cap≤maxLen)(oN:I≤40)(l:List Int)(hq:l.Pairwise Lt)(fY:l.length=I)(hV:∀x∈l,V x):VC Tryz.prog G 122 [.v (.slice (some ⟨U,0,none⟩) I cap),.v (.int .i64 (I:Nat)),.ek (.func fc) O] (⟨U,3,cap*1,(l).flatMap cI⟩::Z) (fun r S'=>r = .dz []∧∃(lz:List Int),(lz.Perm l∧lz.Pairwise (Rc cF Lt))∧S'=⟨U,3,cap*1,(lz).flatMap cI⟩::Z):=by
 refine VC.body func122 rfl ntmps122 aO fun X0 w0 aZ=>?_;have dy:maxLen=9223372036854775807:=rfl;refine ae [0,1,2,6] ?_;refine ae [0,1,2,6,7,8] ?_;refine CD.seq ?_;refine CD.block ?_;refine mJ (fun (E:Nat×List Int) aK=>match E with|(k,cur)=>(20*k≤I)∧(x4 (Rc cF Lt) l cur k)∧aK=(⟨63,[(0,.v (.slice (some ⟨U,0,none⟩) I cap)),(1,.v (.int .i64 (I:Nat))),(2,.ek (.func fc) O),(6,.v (.int .i64 20)),(7,.v (.int .i64 (20*k:Nat))),(8,.v (.int .i64 (20*(k+1):Nat)))],(⟨U,3,cap*1,(cur).flatMap cI⟩::Z)⟩:St)) (fun (E:Nat×List Int)=>match E with|(k,cur)=>3-k) (0,l) ⟨(Nat.zero_le _),(.inl ⟨rfl,rfl⟩),rfl⟩ (aM (h:=by repeat (first|exact trivial|refine⟨(by (repeat (first|exact fw|(apply fP;focus (first|rfl|(rw[show(20*(k+1):Nat)=20*k+20 by omega];rfl)|(simp;done)|(congr 3;omega)))|(apply fA;focus rfl)));done),?_⟩))) ?_;rintro⟨k,cur⟩ _ ⟨hk,fy,rfl⟩;have kP:=fy.perm.length_eq;have sG:(cur.drop (20*k)).Pairwise Lt:=(by rw[acj fy];exact hq.drop)
 have Dv:∀x∈cur,V x:=fun x hx=>hV x (fy.perm.subset hx);refine ae [0,1,2,6,7,8,13] ?_;refine aq (fun az aH=>?_) (fun az aH=>?_)
 ·have xZ:20*(k+1)≤I:=(by omega)
  refine aC 4 ?_;refine OD.call (R:=[]) an rfl rfl rfl call147 (TK cur I (20*k) (20*(k+1)) cap U fc O Z cF V Lt Dv hc vf ht ha sG w4 w4 w4 pz qV w4) ⟨ot,ot,ot,ot,trivial⟩ oI ?_;rintro _ _ ⟨rfl,c1,aji,rfl⟩;refine OD.perm (S':=⟨U,3,cap*1,(c1).flatMap cI⟩::Z) oI ?_;refine aj 63 [0,1,2,6,8] ?_;refine ae [0,1,2,6,7,8] ?_;refine gW [0,1,2,6,7,8] ?_;refine aQ 2 ?_ (h:=by exact(cZ rfl ot ot (j3 (r:=((20*(k+1+1):Nat):Int)) (by rw[show(((20*(k+1):Nat):Int)+20)=((20*(k+1+1):Nat):Int) by omega];exact wrap_i64 w4 w4))));refine bH ?_;refine⟨((k+1),c1),_,cx,(aM (h:=by repeat (first|exact trivial|refine⟨(by (repeat (first|exact fw|(apply fP;focus (first|rfl|(rw[show(20*(k+1):Nat)=20*k+20 by omega];rfl)|(simp;done)|(congr 3;omega)))|(apply fA;focus rfl)));done),?_⟩))),w4,(aci fy w4 aji),rfl⟩
 have xZ:I<20*(k+1):=(by omega)
 refine aC 4 ?_;refine OD.call (R:=[]) an rfl rfl rfl call147 (TK cur I (20*k) I cap U fc O Z cF V Lt Dv hc vf ht ha sG w4 w4 w4 pz qV w4) ⟨ot,ot,ot,ot,trivial⟩ oI ?_;rintro _ _ ⟨rfl,c2,Vk,rfl⟩;refine OD.perm (S':=⟨U,3,cap*1,(c2).flatMap cI⟩::Z) oI ?_;have ff:=adV fy hk xZ oN fY Vk;have Vm:c2.Perm l:=Vk.perm.trans fy.perm;refine aj 63 [0,1,2,6] ?_;refine eB [0,1,2] (fun aW _ (E:Nat×List Int) aK=>match E with|(q,cur)=>((q=20∧cur=c2)∨(q=40∧(cur.Perm l∧cur.Pairwise (Rc cF Lt))))∧aK=(⟨63,(6,.v (.int .i64 (q:Nat)))::aW,(⟨U,3,cap*1,(cur).flatMap cI⟩::Z)⟩:St)) (fun (E:Nat×List Int)=>match E with|(q,cur)=>40-q) (20,c2) ⟨(.inl ⟨rfl,rfl⟩),rfl⟩ ?_;rintro⟨q,cur⟩ _ ⟨CV,rfl⟩;refine ae [0,1,2,6,30] ?_;refine aq (fun aG aV=>?_) (fun aG aV=>?_)
 ·obtain⟨rfl,rfl⟩:q=20∧cur=c2:=(by (rcases CV with h|h;exact h;omega))
  have Ki:FW (Rc cF Lt) l cur I:=(by (rcases ff with h|h;omega;exact h.2))
  have Vn:=ack Ki hq;have kP:=Vm.length_eq;have Dv:∀x∈cur,V x:=fun x hx=>hV x (Vm.subset hx);refine ae [0,1,2,6,7,8] ?_;refine eB [0,1,2,6] (fun aW _ (E:Nat×List Int) aK=>match E with|(j,c3)=>((j=0∧c3=cur)∨(j=1∧I=40∧(c3.Perm l∧c3.Pairwise (Rc cF Lt))))∧aK=(⟨63,(7,.v (.int .i64 (40*j:Nat)))::(8,.v (.int .i64 (40*(j+1):Nat)))::aW,(⟨U,3,cap*1,(c3).flatMap cI⟩::Z)⟩:St)) (fun (E:Nat×List Int)=>match E with|(j,c3)=>1-j) (0,cur) ⟨(.inl ⟨rfl,rfl⟩),rfl⟩ ?_;rintro⟨j,c3⟩ _ ⟨qn,rfl⟩;refine ae [0,1,2,6,7,8,35] ?_;refine aq (fun aY bz=>?_) (fun aY bz=>?_)
  ·obtain⟨qm,rfl⟩:j=0∧c3=cur:=(by (rcases qn with h|h;exact h;omega))
   have KQ:I=40:=(by omega)
   refine aC 4 ?_;refine bN (cZ rfl ot ot (j3 (r:=((20:Nat):Int)) (by rw[qm];rfl))) ?_;refine aD 2 ?_;have anJ:=KQ;refine OD.call (R:=[]) an rfl rfl rfl call148 (TL I cap U fc O Z cF V Lt hc vf ht ha pz qV w4 _ c3 (40*j) 20 (40*(j+1)) rfl (by rw[show 40*j=0 by omega,show 40*(j+1)=I by omega];exact Vn) w4 w4 w4 Dv) ⟨ot,ot,ot,ot,ot,trivial⟩ oI ?_;rintro _ _ ⟨rfl,c5,ajj,rfl⟩;refine OD.perm (S':=⟨U,3,cap*1,(c5).flatMap cI⟩::Z) oI ?_;have ajk:Part (Rc cF Lt) c3 c5 0 I:=(by have:=ajj;rwa [show 40*j=0 by omega,show 40*(j+1)=I by omega] at this)
   refine aj 63 [0,1,2,6,8] ?_;refine ae [0,1,2,6,7,8] ?_;refine cj [0,1,2,6,7,8] ?_;refine⟨(1,c5),_,cx,aM,(.inr ⟨rfl,KQ,QU Ki ajk fY⟩),rfl⟩
  refine CD.exit ?_;refine jJ [0,1,2,6] (fun aW _ aK=>∃(c4:List Int),((c4.Perm l∧c4.Pairwise (Rc cF Lt)))∧aK=(⟨63,aW,(⟨U,3,cap*1,(c4).flatMap cI⟩::Z)⟩:St)) ?_ ?_
  ·refine cN [0,1,2,6,7,9] ?_;refine aQ 2 ?_ (h:=by exact(cZ rfl ot ot (j3 (r:=((40*j+20:Nat):Int)) (by rw[show(((40*j:Nat):Int)+((20:Nat):Int))=((40*j+20:Nat):Int) by omega];exact wrap_i64 w4 w4))));refine bH ?_;refine ae [0,1,2,6,7,9,54] ?_;refine aq (fun bC bY=>?_) (fun bC bY=>?_)
   ·obtain⟨qm,rfl⟩:j=0∧c3=cur:=(by (rcases qn with h|h;exact h;omega))
    refine dL 5 ?_;refine OD.call (R:=[]) an rfl rfl rfl call148 (TL I cap U fc O Z cF V Lt hc vf ht ha pz qV w4 _ c3 (40*j) (40*j+20) I rfl (by rw[show 40*j=0 by omega];exact Vn) w4 w4 w4 Dv) ⟨ot,ot,ot,ot,ot,trivial⟩ oI ?_;rintro _ _ ⟨rfl,c6,ajl,rfl⟩;refine OD.perm (S':=⟨U,3,cap*1,(c6).flatMap cI⟩::Z) oI ?_;have ajm:Part (Rc cF Lt) c3 c6 0 I:=(by have:=ajl;rwa [show 40*j=0 by omega] at this)
    refine aj 63 [0,1,2,6] ?_;refine⟨_,aM,c6,(QU Ki ajm fY),rfl⟩
   have GS:(c3.Perm l∧c3.Pairwise (Rc cF Lt)):=(by (rcases qn with h|h;omega;exact h.2.2))
   refine CD.skip ?_;refine⟨_,aM,c3,GS,rfl⟩
  rintro _ ⟨c4,cy,rfl⟩;refine cj [0,1,2,6] ?_;refine⟨(40,c4),_,cx,aM,(.inr ⟨rfl,cy⟩),rfl⟩
 have mW:(cur.Perm l∧cur.Pairwise (Rc cF Lt)):=(by (rcases CV with ⟨rfl,rfl⟩|h;(rcases ff with h|h;exact h.2;omega);exact h.2))
 refine aJ _ ?_;exact⟨rfl,_,mW,rfl⟩
theorem adW(O cap U Z:Nat)(E:List D)(I:List ag)(cF:Int→Int→Int)(V:Int→Prop)(Lt:Int→Int→Prop)(hc:∀x y,V x→V y→VC Tryz.prog G Z ([.v (.int .i64 x),.v (.int .i64 y)]++E) I (fun r S'=>r = .v (.int .i64 (cF x y))∧S'=I))(vf:∀args w,(callFunc Z args).run Tryz.prog w = .ok (.enter Z args) w)(ht:∀{x y z:Int},Rc cF Lt x y→Rc cF Lt y z→Rc cF Lt x z)(ha:∀x y,0≤cF y x→cF x y≤0)(pz:O≤cap)(qV:cap≤maxLen)(oN:O≤40)(l:List Int)(hq:l.Pairwise Lt)(fY:l.length=O)(hV:∀x∈l,V x):VC Tryz.prog G 88 [.v (.slice (some ⟨U,0,none⟩) O cap),.ek (.func Z) E] (⟨U,3,cap*1,(l).flatMap cI⟩::I) (fun r S'=>r = .dz []∧∃(lz:List Int),(lz.Perm l∧lz.Pairwise (Rc cF Lt))∧S'=⟨U,3,cap*1,(lz).flatMap cI⟩::I):=by
 refine VC.body func88 rfl ntmps88 aO fun X0 w0 aZ=>?_;have dy:maxLen=9223372036854775807:=rfl;refine dL 4 ?_;refine OD.call (R:=[]) an rfl rfl rfl call122 (aaH O cap U Z E I cF V Lt hc vf ht ha pz qV oN l hq fY hV) ⟨ot,ot,ot,trivial⟩ oI ?_;rintro _ _ ⟨rfl,lz,xU,rfl⟩;refine OD.perm (S':=⟨U,3,cap*1,(lz).flatMap cI⟩::I) oI ?_;refine aj 9 [] ?_;refine aJ _ ?_;exact⟨rfl,_,xU,rfl⟩

end Go.Proofs.YtbcmjoaggammcaaGreatDoor.So
namespace Go.Proofs.YtbcmjoaggammcaaGreatDoor.Ba
open List
open Go.Proofs.Tryz
open Go.RowKit V Pk Tr Vl Go.Proofs.YtbcmjoaggammcaaGreatDoor.Nm Pc Cd Ex Tw Go.Proofs.YtbcmjoaggammcaaGreatDoor.So
/-! ### The order of values -/
variable {t:aP} {o n:Nat} {i k:Int}
theorem SF(a b:Vl):fk a b<0↔a.k<b.k∨(a.k=b.k∧(a.n<b.n∨(a.n=b.n∧Go.Lib.compareBytes a.s.data.toList b.s.data.toList<0))):=by
 exact Wh
theorem Pn{a b:Vl}(h:fk a b=0):a=b:=by
 unfold fk cmpL fX fX fX fX at h;have hs:a.k=b.k∧a.n=b.n∧Go.Lib.compareBytes a.s.data.toList b.s.data.toList=0:=by
  rcases rI a.k b.k with ⟨h1,h2⟩|⟨h1,h2⟩|⟨h1,h2⟩<;>rcases rI a.n b.n with ⟨k1,k2⟩|⟨k1,k2⟩|⟨k1,k2⟩<;>simp only[h1,k1] at h<;>(repeat' split at h)<;>first|omega|(refine⟨h2,k2,?_⟩;omega)
 obtain⟨e1,e2,E⟩:=hs;obtain⟨k,n,s⟩:=a;obtain⟨k',n',s'⟩:=b;simp only at e1 e2 E;subst e1 e2;rw[Ez (tH.1 E)]
theorem SG{a b c:Vl}(h1:fk a b<0)(h2:fk b c<0):fk a c<0:=by
 rw[SF] at h1 h2 ⊢;rcases h1 with h1|⟨h1,h1|⟨E,h1⟩⟩<;>rcases h2 with h2|⟨h2,h2|⟨I,h2⟩⟩<;>first|omega|(refine .inr ⟨by omega,.inr ⟨by omega,?_⟩⟩;exact lU h1 h2)
def cellAt(t:aP)(o:Nat)(i:Int):Vl:=(rowAt t i).getD o bQ
def lE(t:aP)(down:Bool)(o:Nat)(i k:Int):Int:=if down=true then -(fk (cellAt t o i) (cellAt t o k)) else fk (cellAt t o i) (cellAt t o k)
def GU(t:aP)(i k:Int):Prop:=bF (cX (rowAt t i)) (cX (rowAt t k))
theorem Po(t:aP)(down:Bool)(o:Nat)(i k:Int):lE t down o k i = -(lE t down o i k):=by
 unfold lE;rw[AA (cellAt t o i) (cellAt t o k)];split<;>omega
theorem adX{down:Bool}{l:Int}(h1:lE t down o i k<0)(h2:lE t down o k l<0):lE t down o i l<0:=by
 unfold lE at *;split at h1
 ·rename_i hd;rw[if_pos hd] at h2 ⊢;have e1:=AA (cellAt t o i) (cellAt t o k);have e2:=AA (cellAt t o k) (cellAt t o l);have E:=AA (cellAt t o i) (cellAt t o l);have:=SG (a:=cellAt t o l) (b:=cellAt t o k) (c:=cellAt t o i) w4 w4;omega
 rename_i hd;rw[if_neg hd] at h2 ⊢;exact SG h1 h2
theorem HR{down:Bool}(h:lE t down o i k=0):cellAt t o i=cellAt t o k:=by
 unfold lE at h;split at h
 ·exact Pn w4
 exact Pn h
theorem SH{down:Bool}(h:cellAt t o i=cellAt t o k)(l:Int):lE t down o i l=lE t down o k l:=by unfold lE;rw[h]
theorem acm{down:Bool}(h:cellAt t o i=cellAt t o k)(l:Int):lE t down o l i=lE t down o l k:=by unfold lE;rw[h]
abbrev vF(t:aP)(down:Bool)(o:Nat):Int→Int→Prop:=Rc (lE t down o) (GU t)
theorem afp(t:aP)(down:Bool)(o:Nat){x y z:Int}(h1:vF t down o x y)(h2:vF t down o y z):vF t down o x z:=by
 rcases h1 with h1|⟨h1,E⟩<;>rcases h2 with h2|⟨h2,I⟩
 ·exact .inl (adX h1 h2)
 ·exact .inl (by rw[←acm (HR h2)];exact h1)
 ·exact .inl (by rw[SH (HR h1)];exact h2)
 exact .inr ⟨by rw[SH (HR h1)];exact h2,lU E I⟩
theorem acn{down:Bool}{x y:Int}(h1:vF t down o x y)(h2:vF t down o y x):False:=by
 have e:=Po t down o x y;rcases h1 with h1|⟨h1,E⟩<;>rcases h2 with h2|⟨h2,I⟩
 ·omega
 ·omega
 ·omega
 exact jA _ (lU E I)
noncomputable def Kj(t:aP)(down:Bool)(o:Nat)(l:List Int):List Int:=Classical.epsilon fun lz=>lz.Perm l∧lz.Pairwise (vF t down o)
theorem SI{down:Bool}{l lz:List Int}(h:lz.Perm l∧lz.Pairwise (vF t down o)):lz=Kj t down o l:=by
 have hs:=Classical.epsilon_spec (p:=fun lz=>lz.Perm l∧lz.Pairwise (vF t down o)) ⟨lz,h⟩;exact Perm.eq_of_pairwise (fun a b _ _ h1 h2=>(acn h1 h2).elim) h.2 hs.2 (h.1.trans hs.1.symm)
/-! ### What met tells -/
theorem Es(t:aP)(w:List aX):∀(l:List (K×Int)) (acc:List Int),(mC t w acc l).1.Sublist (acc++l.map Prod.snd)
 | [],acc=>by unfold mC;simp
 | x::r,acc=>by
  have h1:(mC t w acc r).1.Sublist (acc++(x::r).map Prod.snd):=(Es t w r acc).trans (Sublist.append_left (sublist_cons_self _ _) acc);have h2:(mC t w (acc++[x.2]) r).1.Sublist (acc++(x::r).map Prod.snd):=(by have:=Es t w r (acc++[x.2]);rwa [append_assoc] at this)
  unfold mC;split
  ·split
   ·exact nil_sublist _
   split
   ·exact h1
   exact h2
  exact h2
def gk(t:aP)(i:Int):Prop:=0≤i∧∃h:i.toNat<t.rows.length,t.rows[i.toNat]≠[]
theorem aco{i:Nat}{c:Pc.cu}{v:Vl}(h:Pc.lY i c v=0):cA v=0:=by
 unfold Pc.lY at h;split at h
 ·exact h
 rename_i h1;exact Decidable.not_not.1 h1
theorem Pp:∀(i:Nat) (cs:List Pc.cu) (vs:List Vl),Pc.pA i cs vs=0→vs.length≤cs.length→∀v∈vs,cA v=0
 | i,c::cs,v::vs,h,hl,w,hw=>by
  unfold Pc.pA at h;split at h
  ·rename_i h1;exact absurd h h1
  rename_i h1;rcases mem_cons.1 hw with rfl|hw
  ·exact aco (Decidable.not_not.1 h1)
  exact Pp (i+1) cs vs h (by simpa using hl) w hw
 | _,_,[],_,_,_,hw=>by cases hw
 | _,[],_::_,_,hl,_,_=>by simp at hl
theorem QV{r:List Vl}(h:Pc.dW dH r=0):∀v∈r,cA v=0:=by
 have h4:=pi h;unfold Pc.dW at h;rw[if_neg By,if_neg y9] at h;exact Pp 0 dH r h y9
theorem gk.ok(g:eO t n)(h:gk t i):(rowAt t i).length=4∧(∀v∈rowAt t i,v.Ok∧cA v=0):=by
 obtain⟨h0,h1,h2⟩:=h;rw[iZ h1];obtain⟨g1,g2,_⟩:=g.row _ h1 h2;exact⟨pi g1,fun v E=>⟨g2 v E,QV g1 v E⟩⟩
theorem uR(g:eO t n)(w:List aX):∀i∈(au t w).1,gk t i:=fun i hi=>by
 unfold au at hi;split at hi
 ·cases hi
 have h1:=(Es t w _ []).subset hi;rw[nil_append] at h1;obtain⟨x,hx,rfl⟩:=mem_map.1 h1;obtain⟨h2,h3,h4,_⟩:=g.iN x (Er x hx);exact⟨h2,h3,h4⟩
theorem Iv(g:eO t n)(w:List aX):(au t w).1.Pairwise (GU t):=by
 unfold au;split
 ·exact Pairwise.nil
 refine Pairwise.sublist (Es t w _ []) ?_;rw[nil_append,pairwise_map];have hr:(ph t.ix (iE t.av w).1.1 (iE t.av w).1.2).Pairwise fun x y=>bF x.1 y.1:=(aat g.ix.val _).sublist (takeWhile_sublist _);refine hr.imp_of_mem fun {x y} hx hy h=>?_;obtain⟨_,p1,_,p2⟩:=g.iN x (Er x hx);obtain⟨_,q1,_,q2⟩:=g.iN y (Er y hy);unfold GU;rw[iZ p1,iZ q1,←p2,←q2];exact h
theorem EQ(g:eO t n)(w:List aX):(au t w).1.length≤40:=by
 have hp:=Iv g w;have E:=uR g w;have hnd:((au t w).1.map Int.toNat).Nodup:=by
  rw[Nodup,pairwise_map];refine hp.imp_of_mem fun {x y} hx hy h e=>?_;obtain⟨x0,_⟩:=E x hx;obtain⟨y0,_⟩:=E y hy;have:x=y:=(by omega)
  subst this;exact jA _ h
 have I:∀j∈(au t w).1.map Int.toNat,j∈range t.rows.length:=fun j hj=>by
  obtain⟨x,hx,rfl⟩:=mem_map.1 hj;obtain⟨_,h1,_⟩:=E x hx;exact mem_range.2 h1
 have:=hnd.length_le_of_subset I;rw[length_map,length_range] at this;exact Nat.le_trans this g.eK
variable {G:List (Nat×List Value)} {m:Int}

open Pa (cQ cg)
theorem Ug:∀x y:K,-1≤Go.Lib.compareBytes x y∧Go.Lib.compareBytes x y≤1
 | [],[]=>⟨by decide,by decide⟩
 | [],_::_=>⟨(by show(-1:Int)≤-1;decide),(by show(-1:Int)≤1;decide)⟩
 | _::_,[]=>⟨(by show(-1:Int)≤1;decide),(by show(1:Int)≤1;decide)⟩
 | a::x,b::y=>by
  have:=Ug x y;rw[GH];repeat' split
  all_goals first|exact this|omega
theorem adY(a b:Vl):-1≤fk a b∧fk a b≤1:=by
 have:=Ug a.s.data.toList b.s.data.toList;exact Wh
def vG(t:aP)(names:List ByteArray):List Int:=if names.length=0 then (range t.av.length).map Int.ofNat else names.map (bM t.av)
def su(t:aP)(s:cQ):Int:=if (s.order.toList==(⟨#[]⟩:ByteArray).toList)=true then 0 else bM t.av s.order
def u7(No:Int)(l:List Int):List Int:=if 0≤No∧No<l.length then l.take No.toNat else l
def zA(t:aP)(ats:List Int)(i:Int):List Vl:=ats.map fun c=>(rowAt t i).getD c.toNat bQ
noncomputable def wi(t:aP)(s:cQ):List Int:=u7 s.gN (Kj t s.down (su t s).toNat (au t s.ah).1)
noncomputable def qf(t:aP)(s:cQ):(List (List Vl)×Int)×Int :=
 if (s.names.any fun n=>decide (bM t.av n<0))=true then (([],0),8)
 else if su t s<0 then (([],0),8)
 else if (au t s.ah).2≠0 then (([],0),(au t s.ah).2)
 else if s.count=true then (([[⟨2,(wi t s).length,⟨#[]⟩⟩]],(wi t s).length),0)
 else (((wi t s).map (zA t (vG t s.names)),(wi t s).length),0)
def Dw(p:(List (List Vl)×Int)×Int):D:=.dz [.agg [.list 1 (p.1.1.flatMap gB) p.1.1.length,.v (.int .i64 p.1.2)],.v (.int .i64 p.2)]
theorem JN{l:List cu}{nm:ByteArray}:-1≤bM l nm∧bM l nm<l.length:=by
 unfold bM dM;split
 ·rename_i i h;have:=(findIdx?_eq_some_iff_getElem.1 h).1;omega
 omega
theorem adZ(t:aP)(g:eO t n)(s:cQ)(o:Nat)(ho:o<4)(b2 kK b3:Nat)(i k:Int)(hi:gk t i)(hk:gk t k):VC Tryz.prog G 89 ([.v (.int .i64 i),.v (.int .i64 k)]++[.v (.pointer (some ⟨b2,0,none⟩)),.v (.pointer (some ⟨kK,0,none⟩)),.v (.pointer (some ⟨b3,0,none⟩))]) [⟨b2,48,5,dG t⟩,⟨kK,3,1,[.v (.int .i64 (o:Nat))]⟩,⟨b3,42,12,cg s⟩] (fun r S=>r = .v (.int .i64 (lE t s.down o i k))∧S=[⟨b2,48,5,dG t⟩,⟨kK,3,1,[.v (.int .i64 (o:Nat))]⟩,⟨b3,42,12,cg s⟩]):=by
 refine VC.body func89 rfl ntmps89 aO fun X0 w0 aZ=>?_;obtain⟨I,E,lN⟩:=hi;obtain⟨xA,dI,fq⟩:=hk;obtain⟨gi1,O⟩:=gk.ok g ⟨I,E,lN⟩;obtain⟨gk1,U⟩:=gk.ok g ⟨xA,dI,fq⟩;rw[iZ E] at gi1 O;rw[iZ dI] at gk1 U;have Z:o<(t.rows[i.toNat]'E).length:=(by omega)
 have oT:o<(t.rows[k.toNat]'dI).length:=(by omega)
 have hci:cellAt t o i=(t.rows[i.toNat]'E)[o]:=(by unfold cellAt;rw[iZ E,getD_eq_getElem?_getD,getElem?_eq_getElem Z];rfl)
 have GV:cellAt t o k=(t.rows[k.toNat]'dI)[o]:=(by unfold cellAt;rw[iZ dI,getD_eq_getElem?_getD,getElem?_eq_getElem oT];rfl)
 have eY:=YT (G:=G) (t.rows[i.toNat]'E)[o] (t.rows[k.toNat]'dI)[o] (O _ (getElem_mem Z)).1 (U _ (getElem_mem oT)).1;have nY:mw (t.rows[i.toNat]'E)[o] (t.rows[k.toNat]'dI)[o]=0:=(by unfold mw;rw[if_neg (by simp[(O _ (getElem_mem Z)).2]),(U _ (getElem_mem oT)).2])
 unfold KP at eY;rw[nY,if_neg w7] at eY;have GA:=adY (t.rows[i.toNat]'E)[o] (t.rows[k.toNat]'dI)[o];unfold dG cg;have aT:lE t s.down o i k=if s.down=true then -(fk (t.rows[i.toNat]'E)[o] (t.rows[k.toNat]'dI)[o]) else fk (t.rows[i.toNat]'E)[o] (t.rows[k.toNat]'dI)[o]:=by unfold lE;rw[hci,GV]
 refine ae [0,1,2,3,4] ?_;refine cN [4,8] ?_;refine aQ 3 ?_ (h:=by exact(c9 1 (h:=by first|exact .l (j:=i.toNat) (Int.toNat_of_nonneg I).symm E|exact .r (j:=i.toNat) (Int.toNat_of_nonneg I).symm E)));refine aQ 7 ?_ (h:=by exact(c9 1 (h:=by first|exact .l (j:=k.toNat) (Int.toNat_of_nonneg xA).symm dI|exact .r (j:=k.toNat) (Int.toNat_of_nonneg xA).symm dI)));refine cU (eY) ?_;refine bH ?_;refine ae [8,31] ?_;refine aq (fun az aH=>?_) (fun az aH=>?_)
 ·have hd:s.down=true:=az;refine cN [7] ?_;refine aQ 1 ?_ (h:=by exact(Ed rfl ot (Jr (wrap_i64 w4 w4))));refine bH ?_;refine aJ [_,_,_] ?_;first|(rw[aT,hd,if_pos rfl,←Int.zero_sub];exact⟨rfl,rfl⟩)|(rw[aT,hd,if_neg w7];exact⟨rfl,rfl⟩)
 have hd:s.down=false:=az;refine ae [7] ?_;refine aJ [_,_,_] ?_;first|(rw[aT,hd,if_pos rfl,←Int.zero_sub];exact⟨rfl,rfl⟩)|(rw[aT,hd,if_neg w7];exact⟨rfl,rfl⟩)
theorem ad0(ek:D):VP Tryz.prog G 147 [.v (.slice none 0 0),.v (.int .i64 0),.v (.int .i64 0),ek] (.dz []):=by
 refine VC.body func147 rfl ntmps147 aO fun X0 w0 aZ=>?_;refine ae [0,1,2,3,8] ?_;refine eB [0,1,2,3] (fun aW _ (z:Nat) aK=>(True)∧aK=(⟨53,(8,.v (.int .i64 (0+1)))::aW,[]⟩:St)) (fun (z:Nat)=>0) 0 ⟨trivial,rfl⟩ ?_;rintro z _ ⟨_,rfl⟩;refine ae [0,1,2,3,8,14] ?_;refine aq (fun az aH=>?_) (fun az aH=>?_)
 ·exact absurd az (by simp at az)
 exact z51
theorem Zh(ek:D):VP Tryz.prog G 122 [.v (.slice none 0 0),.v (.int .i64 0),ek] (.dz []):=by
 refine VC.body func122 rfl ntmps122 aO fun X0 w0 aZ=>?_;refine ae [0,1,2,6] ?_;refine ae [0,1,2,6,7,8] ?_;refine eB [0,1,2,6] (fun aW _ (z:Nat) aK=>(True)∧aK=(⟨63,(7,.v (.int .i64 0))::(8,.v (.int .i64 20))::aW,[]⟩:St)) (fun (z:Nat)=>0) 0 ⟨trivial,rfl⟩ ?_;rintro z _ ⟨_,rfl⟩;refine ae [0,1,2,6,7,8,13] ?_;refine aq (fun az aH=>?_) (fun az aH=>?_)
 ·exact absurd az (by simp at az)
 refine cL [0,1,2,6] (ad0 ek) ?_;refine eB [0,1,2] (fun aW _ (z:Nat) aK=>(True)∧aK=(⟨63,(6,.v (.int .i64 20))::aW,[]⟩:St)) (fun (z:Nat)=>0) 0 ⟨trivial,rfl⟩ ?_;rintro z _ ⟨_,rfl⟩;refine ae [0,1,2,6,30] ?_;refine aq (fun aG aV=>?_) (fun aG aV=>?_)
 ·exact absurd aG (by simp at aG)
 exact z51
theorem acp(ek:D):VP Tryz.prog G 88 [.v (.slice none 0 0),ek] (.dz []):=by
 refine VC.body func88 rfl ntmps88 aO fun X0 w0 aZ=>?_;refine gW [] ?_;refine cU (Zh ek) ?_;refine jR ?_;exact z51

end Go.Proofs.YtbcmjoaggammcaaGreatDoor.Ba

namespace Go.Proofs.YtbcmjoaggammcaaGreatDoor.Ba
open List
open Go.Proofs.Tryz
open Go.RowKit V Pk Go.Proofs.YtbcmjoaggammcaaGreatDoor.Tr Go.Proofs.YtbcmjoaggammcaaGreatDoor.Vl Go.Proofs.YtbcmjoaggammcaaGreatDoor.Nm Go.Proofs.YtbcmjoaggammcaaGreatDoor.Pc Go.Proofs.YtbcmjoaggammcaaGreatDoor.Cd Go.Proofs.YtbcmjoaggammcaaGreatDoor.Ex Go.Proofs.YtbcmjoaggammcaaGreatDoor.Tw
open Pa (cQ cg)
variable {j sz:Nat} {ds:List D}
section mid
variable {P:Program} {G:List (Nat×List Value)} {x:St} {o:Oper} {t b off:Nat} {y:Operand} {B:ag} {pre c post:List D} {d:D}
theorem afq(hp:pre.length=off)(hj:c[j]?=some d):(pre++(c++post))[off+j]?=some d:=by
 subst hp;rw[getElem?_append_right w4,Nat.add_sub_cancel_left,getElem?_append_left (List.getElem?_eq_some_iff.1 hj).1];exact hj
theorem QW{m:List D}(hp:pre.length=off)(hm:pK j c m)(hd:mc sz m ds):((pre++(c++post)).drop (off+j)).take sz=ds:=by
 subst hp;obtain⟨h1,h2⟩:=hd.eq;have h3:=hm.eq;have hl:j+sz≤c.length∨sz=0:=by
  have:=congrArg length h1;rw[length_take,h2,←h3,length_drop] at this;omega
 rw[←drop_drop,drop_left' rfl];rcases hl with hl|rfl
 ·rw[drop_append_of_le_length w4,h3,take_append_of_le_length (by rw[←h3,length_drop];omega)];exact h1
 rw[List.take_zero];rw[List.take_zero] at h1;exact h1
theorem A6{E:List D}(hp:pre.length=off)(hl:j+ds.length≤c.length)(hc:da c j ds=E):da (pre++(c++post)) (off+j) ds=pre++(E++post):=by
 subst hp hc;rw[vM _ _ _ hl,vM _ _ _ (by simp only[length_append];omega)];rw[take_append,take_of_length_le w4,Nat.add_sub_cancel_left,take_append_of_le_length w4,Nat.add_assoc,←drop_drop (l:=pre++(c++post)),drop_left' rfl,drop_append_of_le_length w4];simp only[append_assoc]
theorem oh(k:Nat)(ho:o.op = .load t y:=by exact rfl)(hy:aF x y = .v (.pointer (some ⟨b,off+j,none⟩)):=by exact ot)(ha:qu P t false=true:=by kernel_rfl)(hk:x.S[k]?=some B:=by exact rfl)(hb:B.b=b:=by exact rfl)(dw:B.cs=pre++(c++post):=by exact rfl)(hp:pre.length=off:=by assumption)(hj:c[j]?=some d:=by exact rfl)(hne:isMap B.e=false:=by exact rfl):bV P G x o (.fu k) d :=
 DJ (hne:=hne) ho hy hk hb (iA ha) (by rw[dw];exact afq hp hj)
theorem xk(k:Nat){m:List D}(ho:o.op = .load t y:=by exact rfl)(hy:aF x y = .v (.pointer (some ⟨b,off+j,none⟩)):=by exact ot)(hn:qt P t sz=true:=by exact Sz.h)(ha:qu P t true=true:=by kernel_rfl)(hk:x.S[k]?=some B:=by exact rfl)(hb:B.b=b:=by exact rfl)(dw:B.cs=pre++(c++post):=by exact rfl)(hp:pre.length=off:=by assumption)(hm:pK j c m:=by exact qc)(hd:mc sz m ds:=by exact mS)(hne:isMap B.e=false:=by exact rfl):bV P G x o (.fu k) (.agg ds) :=
 As (hne:=hne) ho hy hk hb (iA ha) (lu hn) hd.eq.2 (by rw[dw];exact QW hp hm hd)
theorem Lb(k:Nat)(ho:o.op = .load t y:=by exact rfl)(hy:aF x y = .v (.pointer (some ⟨b,off,none⟩)):=by exact ot)(hn:qt P t sz=true:=by exact Sz.h)(ha:qu P t true=true:=by kernel_rfl)(hk:x.S[k]?=some B:=by exact rfl)(hb:B.b=b:=by exact rfl)(dw:B.cs=pre++(c++post):=by exact rfl)(hp:pre.length=off:=by assumption)(hd:mc sz c ds:=by exact mS)(hne:isMap B.e=false:=by exact rfl):bV P G x o (.fu k) (.agg ds) :=
 As (hne:=hne) ho hy hk hb (iA ha) (lu hn) hd.eq.2 (by rw[dw];exact QW (j:=0) hp .z hd)
end mid
variable {G:List (Nat×List Value)} {m:Int}
noncomputable def gm(t:aP)(row:List Vl):aP×Int :=
 if Pc.dW t.av row≠0 then (t,Pc.dW t.av row) else if gZ t.ix (cX row) (dD t.ix)=true then (t,9) else if t.rows.length=40 then (t,10)
 else ({t with rows:=t.rows++[row],ix:=gz t.ix (dD t.ix) (cX row) t.rows.length},0)
def tC(t:aP)(ad:Option Addr)(cap:Nat):List D:=[.v (.string t.nm),.list 2 (t.av.flatMap cC) t.av.length,.v (.slice ad t.rows.length cap),.list 5 (t.ix.af.flatMap cP) t.ix.af.length,.v (.int .i64 t.ix.root)]
abbrev vg(t:aP)(ad:Option Addr)(cap:Nat)(S:List ag):Prop:=bw 27 1 (t.rows.flatMap gB) t.rows.length ad cap S
theorem v8{r:List Vl}(h:Pc.dW dH r=0):1≤(cX r).length∧(cX r).length≤100:=by
 refine⟨?_,SA _⟩;have h4:=pi h;have hz:=QV h;match r,h4 with
 | [a,b,c,d],_ =>
  have ha:cA a=0:=hz a mem_cons_self;unfold cX fS;rw[if_neg bq,if_neg (by simp[r9,ha])];have hl:(fm [a]).length≤43:=(by have:=Ei (l:=[a]) (fun v E=>by rw[mem_singleton] at E;rw[E];exact ha);simpa using this)
  rw[if_neg (by show ¬(fm [a]).length>100;omega)];show 1≤(fm [a]).length;unfold fm Cd.pn;simp

theorem Zi:(Tryz.prog.info? 27).map (fun i=>(i.zero,i.size,i.bytes))=some (some (.slice none 0 0),1,24):=by kernel_rfl

theorem HN(hm:(3,marksC)∈G)(hw:(2,wordsC)∈G)(ht:(0,typesC)∈G)(hG:(1,[Value.int .i64 m])∈G)(t:aP){n:Nat}(g:eO t n)(hn:n≤300)(row:List Vl)(ry:row.length≤1000)(aS:∀v∈row,v.Ok)(bt off I:Nat)(pre post:List D)(hp:pre.length=off)(ad:Option Addr)(cap:Nat)(Sr:List ag)(Z:vg t ad cap Sr):VC Tryz.prog G 49 [.v (.pointer (some ⟨bt,off,none⟩)),.list 3 (row.flatMap cV) row.length] (⟨bt,48,I,pre++(tC t ad cap++post)⟩::Sr) (fun r S=>r = .v (.int .i64 (gm t row).2)∧((gm t row).2=0→∃nF E om,vg (gm t row).1 nF E om∧S=⟨bt,48,I,pre++(tC (gm t row).1 nF E++post)⟩::om)):=by
 refine VC.body func49 rfl ntmps49 aO fun X0 w0 aZ=>?_;have hko:=fun h=>v8 (r:=row) h;have x5:=JB (G:=G) hm hw ht t.av xu xq row (Nat.le_trans ry w7);have dy:maxLen=9223372036854775807:=rfl;have mB:=g.eK;unfold tC;refine ae [0,1] ?_;refine cN [0,1,5] ?_;refine aQ 3 ?_ (h:=by exact(oh 0));refine cU (x5) ?_;refine bH ?_;refine ae [0,1,5,17] ?_;refine aq (fun az aH=>?_) (fun az aH=>?_)
 ·have hne:Pc.dW t.av row≠0:=(by simpa using az)
  have aT:gm t row=(t,Pc.dW t.av row):=if_pos hne;refine ae [4] ?_;refine aJ [] ?_;rw[aT];exact⟨rfl,fun h=>absurd h hne⟩
 have hz:Pc.dW t.av row=0:=(by simpa using az)
 have Cy:Pc.dW dH row=0:=(by rw[←g.av];exact hz)
 have dS:=hko Cy;have hr4:=pi Cy;have O:=yN (G:=G) hG row w4 w4 aS;refine CD.skip ?_;refine CD.seq ?_;refine CD.seq ?_;rcases iJ:gZ t.ix (cX row) (dD t.ix) with _|_
 ·have fI:=JJ (G:=G) g.ix (cX row);rw[adO g.ix dS iJ] at fI;unfold Tw.cT at fI;have U:=QL (G:=G) g.ix (cX row) (t.rows.length:Int);rw[TG g.ix hn dS w4 iJ] at U;unfold Tw.cT at U;refine gW [0,1,7] ?_;refine aQ 3 ?_ (h:=by exact(xk 0));refine cU (O) ?_;refine cU (fI) ?_;refine bH ?_;refine ae [0,1,30] ?_;refine aq (fun aG aV=>?_) (fun aG aV=>?_)
  ·exact absurd aG (by simp at aG)
  refine cN [0,1,36] ?_;refine aQ 3 ?_ (h:=by exact(oh 0));refine bH ?_;refine aq (fun aY bz=>?_) (fun aY bz=>?_)
  ·have aT:gm t row=(t,10):=(by unfold gm;rw[if_neg (by simp[hz]),if_neg xw,if_pos w4])
   refine ae [4] ?_;refine aJ [] ?_;rw[aT];exact⟨rfl,fun h=>absurd (show(10:Int)=0 from h) w7⟩
  have aT:gm t row=({t with rows:=t.rows++[row],ix:=gz t.ix (dD t.ix) (cX row) t.rows.length},0):=(by unfold gm;rw[if_neg (by simp[hz]),if_neg xw,if_neg w4])
  refine CD.skip ?_;refine CD.seq ?_;refine uf 16 15 [0,1,8,50,51] ?_;refine aQ 3 ?_ (h:=by exact(xk 0));refine cU (O) ?_;refine aQ 3 ?_ (h:=by exact(oh 0));refine cU (U) ?_;refine ni 3 ?_;refine rj ?_;refine jR ?_;refine⟨rfl,fun b8=>?_⟩;refine aN 0 [_,_] sizeOf46 ?_;refine aj 70 [0,1,8,9] ?_;refine ae [0,1,8,9,53] ?_;refine aq (fun bC bY=>?_) (fun bC bY=>?_)
  ·exact absurd bC (by simp at bC)
  refine aC 4 ?_;refine OD.storeAt (k:=1) (cs':=pre++([.v (.string t.nm),.list 2 (t.av.flatMap cC) t.av.length,.v (.slice ad t.rows.length cap),.list 5 ((gz t.ix (dD t.ix) (cX row) t.rows.length).af.flatMap cP) (gz t.ix (dD t.ix) (cX row) t.rows.length).af.length,.v (.int .i64 (gz t.ix (dD t.ix) (cX row) t.rows.length).root)]++post)) an rfl rfl ot rfl rfl ot rfl rfl sizeOf46 rfl (by show off+3+2≤(pre++(([.v (.string t.nm),.list 2 (t.av.flatMap cC) t.av.length,.v (.slice ad t.rows.length cap),.list 5 (t.ix.af.flatMap cP) t.ix.af.length,.v (.int .i64 t.ix.root)]:List D)++post)).length;simp only[length_append,length_cons,length_nil];omega) (by exact A6 (j:=3) hp aO rfl) ?_;refine aj 70 [0,1] ?_;refine CD.seq ?_;refine fK 9 (ap (take 2 _)) ?_ (fun _ h=>(Sublist.map _ (take_sublist _ _)).subset h);refine ax 0 rfl bj ?_;refine ax 1 rfl bj ?_;refine ax 2 rfl lG ?_;refine ax 3 rfl (c8 2) ?_;refine ax 4 rfl (oh 1) ?_;refine ax 5 rfl bj ?_;refine dm.later rfl ?_;refine AD.one (i:=6) ay ?_;refine jv call39 (Pd row w4) ?_;refine AD.one (i:=7) ay ?_;refine jj (bZ 0 [_]) [.slice none 0 0] [_] zeroValue27 runUnderlying33 sizeOf27 (fun oR=>?_);refine jk 0 66 1 1 ?_;refine AD.one (i:=8) ay ?_;refine bg.dZ (ls:=t.rows) (new:=[row]) (Sq:=Sr) jZ QN rfl an rfl rfl underlying33 Zi rfl w7 ot Z (dx (A:=[_,_])) ot bq mZ nc (fun qo qR FC FD=>?_)
  refine AD.perm (dV (S1:=[⟨qo,27,qR*1,flatMap gB (t.rows++[row])⟩]) (A:=[_,_])) ?_;refine eA ?_;refine aD 2 ?_;refine OD.storeAt (k:=1) (cs':=pre++((([.v (.string t.nm),.list 2 (t.av.flatMap cC) t.av.length,.v (.slice ad t.rows.length cap),.list 5 ((gz t.ix (dD t.ix) (cX row) t.rows.length).af.flatMap cP) (gz t.ix (dD t.ix) (cX row) t.rows.length).af.length,.v (.int .i64 (gz t.ix (dD t.ix) (cX row) t.rows.length).root)]:List D)).set 2 (.v (.slice (some ⟨qo,0,none⟩) ((t.rows++[row])).length qR))++post)) an rfl rfl ot rfl rfl ot rfl rfl sizeOf33 rfl (by show off+2+1≤(pre++(([.v (.string t.nm),.list 2 (t.av.flatMap cC) t.av.length,.v (.slice ad t.rows.length cap),.list 5 ((gz t.ix (dD t.ix) (cX row) t.rows.length).af.flatMap cP) (gz t.ix (dD t.ix) (cX row) t.rows.length).af.length,.v (.int .i64 (gz t.ix (dD t.ix) (cX row) t.rows.length).root)]:List D)++post)).length;simp only[length_append,length_cons,length_nil];omega) (by exact A6 (j:=2) hp aO rfl) ?_;refine aj 70 [] ?_;refine ae [4] ?_;refine aJ (⟨bt,48,I,pre++(_++post)⟩::[⟨qo,27,qR*1,flatMap gB (t.rows++[row])⟩]) ?_;rw[aT];exact⟨rfl,fun _=>⟨(some ⟨qo,0,none⟩),qR,[⟨qo,27,qR*1,flatMap gB (t.rows++[row])⟩],(bI FC FD),rfl⟩⟩
 obtain⟨rw0,ajn⟩:=(AG g.ix (cX row)).1 iJ;have fI:=JJ (G:=G) g.ix (cX row);rw[QK g.ix dS ajn] at fI;unfold Tw.cT at fI;have aT:gm t row=(t,9):=(by unfold gm;rw[if_neg (by simp[hz]),if_pos iJ])
 refine gW [0,1,7] ?_;refine aQ 3 ?_ (h:=by exact(xk 0));refine cU (O) ?_;refine cU (fI) ?_;refine bH ?_;refine ae [0,1,30] ?_;refine aq (fun aG aV=>?_) (fun aG aV=>?_)
 ·refine ae [4] ?_;refine aJ [] ?_;rw[aT];exact⟨rfl,fun h=>absurd (show(9:Int)=0 from h) w7⟩
 exact absurd aG (by simp at aG)

end Go.Proofs.YtbcmjoaggammcaaGreatDoor.Ba

namespace Go.Proofs.YtbcmjoaggammcaaGreatDoor.Ba
open List
open Go.Proofs.Tryz
open Go.RowKit V Pk Tr Vl Go.Proofs.YtbcmjoaggammcaaGreatDoor.Nm Pc Cd Ex Tw
open Pa (cQ cg)
variable {G:List (Nat×List Value)} {m:Int}
variable {t:aP} {n:Nat} {i:Int}
theorem Ji{t:aE}(g:iB t n){x y:K×Int}(hx:x∈en t)(hy:y∈en t)(h:x.1=y.1):x=y:=by
 have hr:(en t).Pairwise (fun a b=>bF a.1 b.1):=D4 g.val;obtain⟨i,hi,rfl⟩:=mem_iff_getElem.1 hx;obtain⟨j,hj,rfl⟩:=mem_iff_getElem.1 hy;have hp:=pairwise_iff_getElem.1 hr;rcases Nat.lt_trichotomy i j with q|q|q
 ·have:=hp i j hi hj q;rw[h] at this;exact absurd this (jA _)
 ·subst q;rfl
 have:=hp j i hj hi q;rw[h] at this;exact absurd this (jA _)
theorem gk.iN(g:eO t n)(h:gk t i):(cX (rowAt t i),i)∈en t.ix:=by
 obtain⟨h0,h1,h2⟩:=h;have:=(g.row _ h1 h2).2.2;rw[iZ h1];rwa [Int.toNat_of_nonneg h0] at this
noncomputable def nC(t:aP)(i:Int):aP:={t with rows:=t.rows.set i.toNat [],ix:=gA t.ix (dD t.ix) (cX (rowAt t i))}
noncomputable def qX:aP→List Int→aP
 | t,[]=>t
 | t,i::r=>qX (nC t i) r
noncomputable def mr(t:aP)(w:List aX):aP×Int×Int:=if (au t w).2≠0 then (t,0,(au t w).2) else (qX t (au t w).1,(au t w).1.length,0)
theorem afr(g:eO t n)(h:gk t i):iB (gA t.ix (dD t.ix) (cX (rowAt t i))) n∧∀x,x∈en (gA t.ix (dD t.ix) (cX (rowAt t i)))↔x∈en t.ix∧x.1≠cX (rowAt t i) :=
 Is g.ix ((AF g.ix.val _).2 ⟨i,h.iN g⟩)
theorem Pq(g:eO t n)(h:gk t i):eO (nC t i) n:=by
 obtain⟨d1,d2⟩:=afr g h;have I:=h.iN g;obtain⟨h0,h1,h2⟩:=h;refine⟨g.nm,g.av,by show(t.rows.set _ _).length≤40;rw[length_set];exact g.eK,d1,fun j hj hne=>?_,fun x hx=>?_⟩
 ·simp only[nC] at hj hne ⊢;rw[length_set] at hj;rw[getElem_set] at hne;split at hne
  ·exact absurd rfl hne
  rename_i E;have he:(t.rows.set i.toNat [])[j]'xo=t.rows[j]:=getElem_set_ne E _;rw[he];obtain⟨p1,p2,p3⟩:=g.row j hj hne;refine⟨p1,p2,(d2 _).2 ⟨p3,fun e=>?_⟩⟩;have:=Ji g.ix p3 I e;simp only[Prod.mk.injEq] at this;omega
 obtain⟨x1,O⟩:=(d2 x).1 hx;obtain⟨p0,p1,p2,p3⟩:=g.iN x x1;have E:i.toNat≠x.2.toNat:=fun e=>by
  refine O ?_;rw[p3,iZ h1];congr 1;simp only[e]
 refine⟨p0,by show _<(t.rows.set _ _).length;rw[length_set];exact p1,?_⟩;have he:(t.rows.set i.toNat [])[x.2.toNat]'(by rw[length_set];exact p1)=t.rows[x.2.toNat]:=getElem_set_ne E _;show(t.rows.set i.toNat [])[x.2.toNat]'(by rw[length_set];exact p1)≠[]∧x.1=cX ((t.rows.set i.toNat [])[x.2.toNat]'(by rw[length_set];exact p1));rw[he];exact⟨p2,p3⟩
theorem SJ{j:Int}(h:gk t j)(E:j≠i)(hi:0≤i):gk (nC t i) j:=by
 obtain⟨h0,h1,h2⟩:=h;refine⟨h0,by show _<(t.rows.set _ _).length;rw[length_set];exact h1,?_⟩;show(t.rows.set i.toNat [])[j.toNat]'(by rw[length_set];exact h1)≠[];have e:=getElem_set_ne (l:=t.rows) (i:=i.toNat) (j:=j.toNat) (a:=[]) w4 (by rw[length_set];exact h1);rw[e];exact h2
theorem D7(g:eO t n)(w:List aX):(au t w).1.Nodup:=(Iv g w).imp fun h e=>by rw[e] at h;exact jA _ h
theorem aaI(hm:(3,marksC)∈G)(hw:(2,wordsC)∈G)(ht:(0,typesC)∈G)(hG:(1,[Value.int .i64 m])∈G)(t:aP)(g:eO t n)(s:cQ)(ho:∀o∈s.ah,o.nm.size≤maxLen)(fM:∀o∈s.ah,o.v.Ok)(bt off pP:Nat)(pre post:List D)(hp:pre.length=off)(ad:Option Addr)(cap:Nat)(Sr:List ag)(kf:vg t ad cap Sr):VC Tryz.prog G 52 [.v (.pointer (some ⟨bt,off,none⟩)),.agg (cg s)] (⟨bt,48,pP,pre++(tC t ad cap++post)⟩::Sr) (fun r S=>r = .dz [.v (.int .i64 (mr t s.ah).2.1),.v (.int .i64 (mr t s.ah).2.2)]∧((mr t s.ah).2.2=0→∃nF kg om,vg (mr t s.ah).1 nF kg om∧S=⟨bt,48,pP,pre++(tC (mr t s.ah).1 nF kg++post)⟩::om)):=by
 refine VC.body func52 rfl ntmps52 aO fun X0 w0 aZ=>?_;have dy:maxLen=9223372036854775807:=rfl;have mB:=g.eK;have Dx:=EQ g s.ah;have mi:=uR g s.ah;have hnd:=D7 g s.ah;unfold tC;unfold cg;refine bX ?_;refine OD.box (ds:=[_,_,_,_,_,_,_,_,_,_,_,_]) an rfl rfl ot rfl rfl (fun b3=>?_);refine aj 56 [0,3] ?_;refine CD.seq ?_;refine fK 9 (ap (take 2 _)) ?_ (fun _ h=>(Sublist.map _ (take_sublist _ _)).subset h);refine ax 0 rfl bj ?_;refine ax 1 rfl lG ?_;refine ax 2 rfl (Lb 1) ?_;refine ax 3 rfl (c8 6) ?_;refine ax 4 rfl (dB 0) ?_;refine dm.later rfl ?_;refine AD.one (i:=5) ay ?_;refine bg.J3 rfl an rfl rfl rfl call87 (JM hm hw ht hG t g s.ah ho fM) (fun r S h=>h.flat) ⟨⟨_,ot,(uD ⟨eP,eP,lj kf (cq jZ _) (fun B hB=>by simp[hB]),eP,eP,trivial⟩:View _ (.agg [.v (.string t.nm),.list 2 (t.av.flatMap cC) t.av.length,.v (.slice ad t.rows.length cap),.list 5 (t.ix.af.flatMap cP) t.ix.af.length,.v (.int .i64 t.ix.root)]) (.agg (dG t)))⟩,⟨_,ot,eP⟩,trivial⟩ ?_;rintro _ Sx ⟨dK,cY,rfl,dU⟩;refine AD.perm (iY (A:=[_,_])) ?_;refine cr 6 rfl bj ?_;refine cr 7 rfl Mi ?_;refine cr 8 rfl Mi ?_;refine eA ?_;refine bf [0,6,7] ?_;refine ae [0,6,7,20] ?_;refine aq (fun az aH=>?_) (fun az aH=>?_)
 ·have hne:(au t s.ah).2≠0:=(by simpa using az)
  have aT:mr t s.ah=(t,0,(au t s.ah).2):=if_pos hne;refine ae [4,5] ?_;refine aJ [] ?_;rw[aT];exact⟨rfl,fun h=>absurd h hne⟩
 have hz:(au t s.ah).2=0:=(by simpa using az)
 have aT:mr t s.ah=(qX t (au t s.ah).1,((au t s.ah).1.length:Int),0):=if_neg (fun h=>h hz);refine CD.skip ?_;refine CD.seq ?_;refine CD.seq ?_;refine CD.gP (t:=6) (Sq:=Sx) lk dU (cq Tw.ey _) (ou (A:=[_,_])) ?_;refine sN ?_;refine bf [0,6,22,23,24] ?_;refine eB [0,6,22,23] (fun aW _ (U:Nat×aP×Option Addr×Nat×List ag) aK=>match U with|(k,u,Z,E,O)=>(k≤(au t s.ah).1.length)∧(qX u ((au t s.ah).1.drop k)=qX t (au t s.ah).1)∧(eO u n)∧(∀i∈(au t s.ah).1.drop k,gk u i)∧(vg u Z E O)∧aK=(⟨56,(24,.v (.int .i64 (k:Nat)))::aW,(⟨b3,42,12,cg s⟩::⟨bt,48,pP,pre++([.v (.string u.nm),.list 2 (u.av.flatMap cC) u.av.length,.v (.slice Z u.rows.length E),.list 5 (u.ix.af.flatMap cP) u.ix.af.length,.v (.int .i64 u.ix.root)]++post)⟩::O)⟩:St)) (fun (U:Nat×aP×Option Addr×Nat×List ag)=>match U with|(k,u,Z,E,O)=>(au t s.ah).1.length-k) (0,t,ad,cap,Sr) ⟨(Nat.zero_le _),rfl,g,mi,kf,rfl⟩ ?_;rintro⟨k,u,Z,E,O⟩ _ ⟨hk,Vo,gu,jV,vH,rfl⟩;refine ae [0,6,22,23,24,25] ?_;refine aq (fun aG aV=>?_) (fun aG aV=>?_)
 ·have aa:k<(au t s.ah).1.length:=(by omega)
  have jl:(au t s.ah).1.drop k=((au t s.ah).1[k]'aa)::(au t s.ah).1.drop (k+1):=drop_eq_getElem_cons aa;have rD:gk u ((au t s.ah).1[k]'aa):=jV _ (by rw[jl];exact mem_cons_self);obtain⟨gp,I,nH⟩:=id rD;obtain⟨br,rfl,uj,uk,rfl⟩:=vH.pos w4;have gu2:=Pq gu rD;have fY:(nC u ((au t s.ah).1[k]'aa)).rows.length=u.rows.length:=length_set;have agF:qX (nC u ((au t s.ah).1[k]'aa)) ((au t s.ah).1.drop (k+1))=qX t (au t s.ah).1:=(by rw[←Vo,jl];rfl)
  have K1:∀i∈(au t s.ah).1.drop (k+1),gk (nC u ((au t s.ah).1[k]'aa)) i:=fun i hi=>SJ (jV i (by rw[jl];exact mem_cons_of_mem _ hi)) (fun e=>by subst e;have h9:=hnd.sublist (drop_sublist k _);rw[jl,nodup_cons] at h9;exact h9.1 hi) gp;have Ca:vg (nC u ((au t s.ah).1[k]'aa)) (some ⟨br,0,none⟩) E [⟨br,27,E*1,(nC u ((au t s.ah).1[k]'aa)).rows.flatMap gB⟩]:=bI (by show(u.rows.set _ _).length≤_;rw[length_set];exact uj) uk;obtain⟨XC,Dy⟩:=gk.ok gu rD;have vI:=yN (G:=G) hG (u.rows[((au t s.ah).1[k]'aa).toNat]) (by rw[←iZ I];omega) (by rw[←iZ I];omega) (fun v hv=>(Dy v (by rw[iZ I];exact hv)).1);rw[show cX (u.rows[((au t s.ah).1[k]'aa).toNat])=cX (rowAt u ((au t s.ah).1[k]'aa)) from by rw[iZ I]] at vI;have x6:=QM (G:=G) gu.ix (cX (rowAt u ((au t s.ah).1[k]'aa)));rw[Si gu.ix (v8 (by rw[iZ I];exact(gu.row _ I nH).1)) ((AG gu.ix _).2 ⟨_,rD.iN gu⟩)] at x6;unfold Tw.cT at x6;have anK:=gu.eK;refine ae [0,6,9,22,23,24] ?_;refine CD.seq ?_;refine l8 17 [0,6,9,22,23,24,29,43] ?_;refine aQ 4 ?_ (h:=by exact(xk 1));refine aQ 3 ?_ (h:=by exact(oh 1));refine aQ 1 ?_ (h:=by exact(c9 1 (h:=by first|exact .l (j:=((au t s.ah).1[k]'aa).toNat) (Int.toNat_of_nonneg gp).symm I|exact .r (j:=((au t s.ah).1[k]'aa).toNat) (Int.toNat_of_nonneg gp).symm I)))
  refine aQ 0 ?_ (h:=by exact(cJ (mk:=Op.load 27) rfl ot (iO (k:=2) (i:=((au t s.ah).1[k]'aa).toNat) (ls:=u.rows) jZ rfl rfl rfl isAgg27 I rfl)));refine cU (vI) ?_;refine cU (x6) ?_;refine bH ?_;refine aD 2 ?_;refine OD.storeAt (k:=1) (cs':=pre++([.v (.string u.nm),.list 2 (u.av.flatMap cC) u.av.length,.v (.slice (some ⟨br,0,none⟩) (nC u ((au t s.ah).1[k]'aa)).rows.length E),.list 5 ((nC u ((au t s.ah).1[k]'aa)).ix.af.flatMap cP) (nC u ((au t s.ah).1[k]'aa)).ix.af.length,.v (.int .i64 (nC u ((au t s.ah).1[k]'aa)).ix.root)]++post)) an rfl rfl ot rfl rfl ot rfl rfl sizeOf46 rfl (by show off+3+2≤(pre++(([.v (.string u.nm),.list 2 (u.av.flatMap cC) u.av.length,.v (.slice (some ⟨br,0,none⟩) u.rows.length E),.list 5 (u.ix.af.flatMap cP) u.ix.af.length,.v (.int .i64 u.ix.root)]:List D)++post)).length;simp only[length_append,length_cons,length_nil];omega) (by exact A6 (j:=3) hp aO (by rw[fY];rfl)) ?_;refine aj 56 [0,6,9,22,23,24] ?_;refine dL 3 ?_;refine bN (oh 1) ?_;refine aD 1 ?_;refine bN (c9 1 (h:=by first|exact .l (j:=((au t s.ah).1[k]'aa).toNat) (Int.toNat_of_nonneg gp).symm (by rw[fY];exact I)|exact .r (j:=((au t s.ah).1[k]'aa).toNat) (Int.toNat_of_nonneg gp).symm (by rw[fY];exact I))) ?_
  refine OD.storeAt (k:=2) (cs':=(u.rows.flatMap gB).set ((au t s.ah).1[k]'aa).toNat (.v (.slice none 0 0))) an rfl rfl ot rfl rfl bJ rfl rfl sizeOf27 rfl (by show 0+((au t s.ah).1[k]'aa).toNat*1+1≤(u.rows.flatMap gB).length;rw[cq jZ];omega) (by show(u.rows.flatMap gB).set (0+((au t s.ah).1[k]'aa).toNat*1) _=_;rw[Nat.zero_add,Nat.mul_one]) ?_;refine OD.cells (k:=2) (cs':=(nC u ((au t s.ah).1[k]'aa)).rows.flatMap gB) (S':=[_,_,_]) rfl (by have:=Rw (gd (sz:=3)) (u.rows.flatMap gB) ((au t s.ah).1[k]'aa).toNat;rw[show(u.rows.flatMap gB).set ((au t s.ah).1[k]'aa).toNat (.list 3 [] 0)=(u.rows.set ((au t s.ah).1[k]'aa).toNat []).flatMap gB from by have:=ox jZ u.rows [] I;rw[Nat.mul_one] at this;exact this] at this;exact this) rfl ?_;refine aj 56 [0,6,22,23,24] ?_;refine cj [0,6,22,23,24] ?_;refine⟨((k+1),(nC u ((au t s.ah).1[k]'aa)),(some ⟨br,0,none⟩),E,[⟨br,27,E*1,(nC u ((au t s.ah).1[k]'aa)).rows.flatMap gB⟩]),_,cx,aM,w4,agF,gu2,K1,Ca,rfl⟩
 have mW:u=qX t (au t s.ah).1:=(by rw[←Vo,drop_of_length_le w4];rfl)
 subst mW;refine ae [4,5] ?_;refine aJ (⟨bt,48,pP,pre++(_++post)⟩::O) ?_;rw[aT];exact⟨rfl,fun _=>⟨Z,E,O,vH,rfl⟩⟩

end Go.Proofs.YtbcmjoaggammcaaGreatDoor.Ba
namespace Go.Proofs.YtbcmjoaggammcaaGreatDoor.Ba
open List
open Go.Proofs.Tryz
open Go.RowKit V Pk Tr Vl Go.Proofs.YtbcmjoaggammcaaGreatDoor.Nm Pc Cd Ex Tw
open Pa (cQ cg)
variable {ops:List aX} {row:List Vl}
theorem Iw:∀(i:Nat) (cs:List cu) (vs:List Vl),cs.length=vs.length→(Pc.pA i cs vs=0↔∀j (h1:j<cs.length) (h2:j<vs.length),Pc.lY (i+j) cs[j] vs[j]=0)
 | _,[],[],_=>⟨fun _ j h1=>absurd h1 (Nat.not_lt_zero j),fun _=>rfl⟩
 | _,[],_::_,h=>by cases h
 | _,_::_,[],h=>by cases h
 | i,c::cs,v::vs,h=>by
  rw[Pc.pA];have E:=Iw (i+1) cs vs (Nat.succ.inj h);by_cases he:Pc.lY i c v=0
  ·rw[if_neg (fun h=>h he),E];constructor
   ·intro k j h1 h2;cases j with
    | zero=>exact he
    | succ j=>have:=k j (Nat.lt_of_succ_lt_succ h1) (Nat.lt_of_succ_lt_succ h2);rw[show i+(j+1)=i+1+j by omega];exact this
   intro k j h1 h2;have:=k (j+1) (Nat.succ_lt_succ h1) (Nat.succ_lt_succ h2);rw[show i+(j+1)=i+1+j by omega] at this;exact this
  rw[if_pos he];exact⟨fun h=>absurd h he,fun k=>absurd (k 0 (Nat.succ_pos _) (Nat.succ_pos _)) he⟩
theorem Jj{r:List Vl}:Pc.dW dH r=0↔r.length=4∧∀j (h1:j<dH.length) (h2:j<r.length),Pc.lY j dH[j] r[j]=0:=by
 constructor
 ·intro h;have h4:=pi h;unfold Pc.dW at h;rw[if_neg By,if_neg y9,Iw 0 dH r (by rw[h4];rfl)] at h;refine⟨h4,fun j h1 h2=>?_⟩;have:=h j h1 h2;rwa [Nat.zero_add] at this
 intro ⟨h4,h⟩;unfold Pc.dW;rw[if_neg By,if_neg y9,Iw 0 dH r (by rw[h4];rfl)];intro j h1 h2;rw[Nat.zero_add];exact h j h1 h2
theorem ad4{i:Nat}{c:cu}{v:Vl}(h:Pc.lY i c v=0):jC c.k v:=by
 unfold Pc.lY at h;by_cases h1:cA v=0
 ·rw[if_neg (fun e=>e h1)] at h;by_cases h2:v.k≠c.k∧(i=0∨v.k≠0)
  ·rw[if_pos h2] at h;cases h
  exact⟨h1,by omega⟩
 rw[if_pos h1] at h;exact absurd h h1
theorem ad5{r:List Vl}(h:Pc.dW dH r=0):Fl dH r:=fun i=>by
 obtain⟨h4,hf⟩:=Jj.1 h;have hc:dH.length=4:=rfl;rw[getD_eq_getElem?_getD,getD_eq_getElem?_getD];by_cases hi:i<4
 ·rw[getElem?_eq_getElem w4,getElem?_eq_getElem w4];exact ad4 (hf i w4 w4)
 rw[getElem?_eq_none w4,getElem?_eq_none w4];exact A9
theorem SK{r:List Vl}(h:Pc.dW dH r=0){c:Nat}(hc:c<dH.length){v:Vl}(E:jC dH[c].k v)(h0:c=0→v.k≠0):Pc.dW dH (r.set c v)=0:=by
 obtain⟨h4,hf⟩:=Jj.1 h;refine Jj.2 ⟨by rw[length_set];exact h4,fun j h1 h2=>?_⟩;rw[length_set] at h2;rw[getElem_set];split
 ·rename_i e;subst e;unfold Pc.lY;rw[if_neg (fun e=>e E.1),if_neg (fun e=>?_)];have:=E.2;have:=e.2;have:=e.1;by_cases I:c=0
  ·have:=h0 I;omega
  omega
 exact hf j h1 h2
theorem Et:∀(ops:List aX) (h:Int),fD h ops=0→∀o∈ops,∃h',e9 h' o=0
 | [],_,_,o,ho=>by cases ho
 | x::r,h,hx,o,ho=>by
  rw[fD] at hx;by_cases he:e9 h x=0
  ·rw[if_pos he] at hx;rcases mem_cons.1 ho with rfl|ho
   ·exact⟨_,he⟩
   exact Et r _ hx o ho
  rw[if_neg he] at hx;exact absurd hx he
theorem aaJ{l:List cu}(kN:∀o∈ops,o.nm.size≤maxLen)(fM:∀o∈ops,o.v.Ok)(hk:(ec l ops).2=0):∀o∈ops,y5 l o:=fun o ho=>by
 obtain⟨_,hx,he⟩:=EI hk;obtain⟨h',h1⟩:=Et ops 0 (v7 hx).2 o ho;obtain⟨_,h2,h3,_⟩:=vW h1;exact⟨kN o ho,fM o ho,D0 h3,h2.1,h2.2,OR (by rw[he] at hk;exact hk) o ho⟩
theorem QX{l:List cu}{row:List Vl}(hr:∀v∈row,v.Ok):∀(ops:List aX),(∀o∈ops,o.v.Ok)→∀st:List Vl,(∀v∈st,v.Ok)→(jt bQ (fR l row) ops st).1.Ok
 | [],_,st,fy=>IZ fy 0
 | o::r,hg,st,fy=>by
  have I:(fR l row o (fb bQ o.k st) (eW bQ o.k st)).1.Ok:=RT hr (hg o mem_cons_self) (AX fy _) (AY fy _);by_cases hz:(fR l row o (fb bQ o.k st) (eW bQ o.k st)).2=0
  ·rw[I0 hz];refine QX hr r (fun x hx=>hg x (mem_cons_of_mem _ hx)) _ fun v E=>?_;rcases mem_append.1 E with E|E
   ·exact fy v (mem_of_mem_take E)
   rw[mem_singleton] at E;rw[E];exact I
  rw[Ie hz];exact tJ
theorem ad6{l:List cu}(hr:∀v∈row,v.Ok)(fM:∀o∈ops,o.v.Ok):(fj l row ops).1.Ok:=by
 unfold fj;repeat' split
 all_goals first|exact tJ|exact QX hr ops fM [] (fun v E=>by cases E)
theorem acq(kN:∀o∈ops,o.nm.size≤maxLen)(fM:∀o∈ops,o.v.Ok)(hw:Pc.dW dH row=0)(hk:(ec dH ops).2=0)(he:(fj dH row ops).2=0):jC (ec dH ops).1 (fj dH row ops).1:=by
 obtain⟨_,_,_,h4⟩:=ZZ IC hw (ad5 hw) (aaJ kN fM hk) (EI hk).2.1;obtain⟨_,h5|h5⟩:=h4 hk
 ·rw[h5] at he;cases he
 exact h5.2
def iF(t:aP)(c:Int)(e:List aX):List Vl→List Int→List Vl×Int
 | acc,[]=>(acc,0)
 | acc,i::r=>if (fj t.av (rowAt t i) e).2≠0 then ([],(fj t.av (rowAt t i) e).2) else if c=0∧(fj t.av (rowAt t i) e).1.k=0 then ([],4) else iF t c e (acc++[(fj t.av (rowAt t i) e).1]) r
def qY(t:aP)(i:Int)(c:Nat)(v:Vl):aP:={t with rows:=t.rows.set i.toNat ((rowAt t i).set c v)}
def mD(c:Nat):aP→List Int→List Vl→aP
 | t,i::r,v::s=>mD c (qY t i c v) r s
 | t,_,_=>t
noncomputable def nS(t:aP):aE→List Int→aE
 | x,[]=>x
 | x,i::r=>nS t (gA x (dD x) (cX (rowAt t i))) r
noncomputable def j9:aP→List Int→List Vl→aP×Int
 | t,i::r,v::s=>if gZ t.ix (cX (rowAt (qY t i 0 v) i)) (dD t.ix)=true then (t,9) else j9 {qY t i 0 v with ix:=gz t.ix (dD t.ix) (cX (rowAt (qY t i 0 v) i)) i} r s
 | t,_,_=>(t,0)
noncomputable def gK(t:aP)(s:cQ):aP×Int×Int :=
 if bM t.av s.set<0 then (t,0,8) else if (ec t.av s.bE).2≠0 then (t,0,(ec t.av s.bE).2)
 else if (ec t.av s.bE).1≠(t.av.getD (bM t.av s.set).toNat ⟨⟨#[]⟩,0⟩).k∧(ec t.av s.bE).1≠0 then (t,0,4)
 else if (au t s.ah).2≠0 then (t,0,(au t s.ah).2)
 else if (iF t (bM t.av s.set) s.bE [] (au t s.ah).1).2≠0 then (t,0,(iF t (bM t.av s.set) s.bE [] (au t s.ah).1).2)
 else if 0<bM t.av s.set then (mD (bM t.av s.set).toNat t (au t s.ah).1 (iF t (bM t.av s.set) s.bE [] (au t s.ah).1).1,(au t s.ah).1.length,0)
 else if (j9 {t with ix:=nS t t.ix (au t s.ah).1} (au t s.ah).1 (iF t (bM t.av s.set) s.bE [] (au t s.ah).1).1).2≠0 then (t,0,(j9 {t with ix:=nS t t.ix (au t s.ah).1} (au t s.ah).1 (iF t (bM t.av s.set) s.bE [] (au t s.ah).1).1).2)
 else ((j9 {t with ix:=nS t t.ix (au t s.ah).1} (au t s.ah).1 (iF t (bM t.av s.set) s.bE [] (au t s.ah).1).1).1,(au t s.ah).1.length,0)

end Go.Proofs.YtbcmjoaggammcaaGreatDoor.Ba
