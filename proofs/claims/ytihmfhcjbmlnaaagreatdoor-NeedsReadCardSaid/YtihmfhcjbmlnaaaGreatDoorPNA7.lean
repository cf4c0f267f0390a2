/-
  NA: walks and plain facts, part 7.
-/
import Derived.Test.YtihmfhcjbmlnaaaGreatDoorPNA6
set_option linter.unusedVariables false
set_option linter.unusedSimpArgs false
set_option maxRecDepth 100000
set_option maxHeartbeats 4000000
namespace Go.Proofs.YtihmfhcjbmlnaaaGreatDoor
open List
namespace Tw
open Go.Proofs.Tryz
open Go.RowKit V Tr Pk
variable {t u:aI} {h:Nat} {k up:K} {row:Int}
noncomputable def qZ(t:aI)(k:K)(row:Int)(h:Nat):aI×Int:=if ng t k=0 then (if row<0 then (yN,3) else if jv t k h=true then (yN,9) else if 4000<(iS t h k row).af.length then (yN,10) else (iS t h k row,0)) else (yN,ng t k)
theorem aky{ls:List Int}{r:D}{S:List ag}(h:iC cI 3 1 ls r S):mE r=true/\∀B∈S,∀d∈B.cs,mE d=true:=by
 obtain⟨ad,cap,rfl,ho⟩:=h;refine⟨rfl,fun B hB d hd=>?_⟩;rcases ho with ⟨_,_,_,_,rfl⟩|⟨b,_,_,_,rfl⟩
 ·cases hB
 rw[mem_singleton] at hB;subst hB;obtain⟨n,_,hn⟩:=mem_flatMap.1 hd;rw[cI,mem_singleton] at hn;subst hn;rfl
theorem U8(v:Valid t h)(hf:jv t k h=false):∀x∈mJ t h,x.1≠k:=fun x hx e=>by
 have:jv t k h=true:=(Ho v k).2 ((DK v k).2 ⟨x.2,by rw[<-e];exact hx⟩);rw[hf] at this;cases this
theorem ahj{G:List (Nat×List Value)}(L:List bD)(b:Nat)(root i:Int)(ad:Option Addr)(cap:Nat)(Sx:List ag)(hi:0<=i/\i<L.length)(p:dU)(E:(L[i.toNat]'w4).p=p)(hn:L.length<=10000)(eW:wM L ad cap Sx)(bf:∀o∈L,tI o)(h5:p.keys.length=5)(eT:p.leaf=true->p.kids.length=5)(I:p.leaf=false->p.kids.length=6)(nN:∀k∈p.keys,k.length<=100)(O:p.high.length<=100) :
 VC Tryz.prog G 142 [dw b,ae i] (⟨b,74,2,[aS ad L.length cap,ae root]⟩::(Sx++L.flatMap bO)) (abv L b root i.toNat p):=by
 subst E;exact ai0 L b root i ad cap Sx hi hn eW bf h5 eT I nN O
theorem ai1{aB:Int}(e:me t k row h (h+1)=(u,some (up,aB)))(hr:u.root=t.root):iS t h k row=⟨u.af++[⟨false,[up],[t.root,aB],[],-1⟩],u.af.length⟩:=by
 unfold iS;rw[<-Wy,e];show(⟨u.af++[⟨false,[up],[u.root,aB],[],-1⟩],u.af.length⟩:aI)=_;rw[hr]
theorem akz{aB:Int}{m:Nat}(hm:m<=h)(e:me t k row h m=(u,some (up,aB)))(h4:(bU (u.pg (ec t k h t.root m)) up aB).keys.length<=4):iS t h k row=u.set (ec t k h t.root m) (bU (u.pg (ec t k h t.root m)) up aB):=by
 have:=U4 hm e;rw[M3 h4] at this;unfold iS;rw[U5 (h-m) (m+1) w4 w4 this];rfl
theorem ai3{aB:Int}{m:Nat}(hm:m<=h)(e:me t k row h m=(u,some (up,aB)))(h4:¬(bU (u.pg (ec t k h t.root m)) up aB).keys.length<=4) :
  me t k row h (m+1)=(kf u (ec t k h t.root m) (fa (bU (u.pg (ec t k h t.root m)) up aB) u.af.length) (dh (bU (u.pg (ec t k h t.root m)) up aB)),some (iY (bU (u.pg (ec t k h t.root m)) up aB),(u.af.length:Int))):=by
 rw[U4 hm e,Mu h4]
variable {G:List (Nat×List Value)}
theorem afp:(Tryz.prog.info? 165).map (fun i=>(i.zero,i.size,i.bytes))=some (some (.agg #[.bool false,.slice none 0 0,.slice none 0 0,.slice none 0 0,.int .i64 0]),5,88):=by kernel_rfl
theorem MC(t:aI)(h:Nat)(k:K)(row:Int)(hb:∀p∈t.af,p.keys.length<=maxLen/\p.kids.length<=maxLen)(hv:gF t=0->Valid t h):VC Tryz.prog G 104 [.agg [aj 5 cP t.af,ae t.root],aj 1 cB k,ae row] [] (Fs (qZ t k row h)):=by
 refine bA func104 rfl ntmps104 aO fun X0 w0 bz=>?_;have fB:=L8 (G:=G) t k hb;unfold cT at fB;have dy:=ee;refine cq ?_;refine dm [_,_] (fun b3=>?_);refine cD (ds:=[_,_]) au rfl rfl zeroValue74 rfl (fun b6=>?_);refine ap 131 [1,2,3,6] ?_;refine cW [1,2,3,6,8] (fB) ?_;refine ax [1,2,3,6,8,23] ?_ ?_<;>intro aP bH
 ·have hn:¬ng t k=0:=(by simpa using aP)
  refine az 2 ?_;refine aN 0 [_,_] sizeOf74 ?_;refine eA 131 [6,7] [] ?_;unfold qZ;rw[if_neg hn];exact BX _
 have hz:ng t k=0:=(by simpa using aP)
 obtain⟨hc,S4⟩:=U7 hz;have v:=hv hc;have Ft:=M8 S4;have gj:=sQ (G:=G) t h v k w4 (Hp v k);unfold cT at gj;have auG:=v.high;have auH:=v.qb;refine ax [1,2,3,6,27] ?_ ?_<;>intro bg cM
 ·have yh:row<0:=(by omega)
  refine az 1 ?_;refine aN 0 [_,_] sizeOf74 ?_;refine eA 131 [6,7] [] ?_;unfold qZ;rw[if_pos hz,if_pos yh];exact BX _
 have yh:0<=row:=(by omega)
 refine cW [1,2,3,6,11] (gj) ?_;refine ax [1,2,3,6,36] ?_ ?_<;>intro cl di
 ·have jo:jv t k h=true:=cl;refine az 1 ?_;refine aN 0 [_,_] sizeOf74 ?_;refine eA 131 [6,7] [] ?_;unfold qZ;rw[if_pos hz,if_neg w4,if_pos jo];exact BX _
 have jo:jv t k h=false:=cl;have hne:=U8 v jo;refine az 1 ?_;refine eH au rfl rfl rfl call139 (I8 t h v) ⟨ot,trivial⟩ (fj _) ?_;rintro _ _ ⟨L,ad,cap,Sx,rfl,eW,bf,hL,rfl⟩;refine cg (eM (A:=[_,_])) ?_;refine cD (ds:=[_,_]) au rfl rfl zeroValue74 rfl (fun yO=>?_);refine aN 0 [_,_] sizeOf74 ?_;refine ap 131 [1,2,6,12] ?_;refine az 2 ?_;refine aib au rfl rfl rfl call136 (XX t h v k) (fun r S=>aky) ⟨⟨_,ot,(by have:=OH (root:=t.root) eW bf (fun B hB=>mem_cons_of_mem ⟨yO,74,2,[aS ad L.length cap,ae t.root]⟩ (mem_cons_of_mem ⟨b6,74,2,[aJ,ae 0]⟩ (mem_cons_of_mem ⟨b3,74,2,[aj 5 cP t.af,ae t.root]⟩ hB)));rw[hL] at this;exact this)⟩,⟨_,ot,fN⟩,trivial⟩ ?_;rintro _ Sw ⟨aw,cw,rfl,A9⟩;refine qN (t:=42) (Sq:=Sw) lk A9 (dg fp _) (Perm.refl _) ?_;refine ap 131 [1,2,6,12,13] ?_;refine cW [6,12,13,14,15] (nY k w4) ?_;refine iM [6,12] (fun aU _ aE=>∃(L:List bD),∃(ad:Option Addr),∃(cap:Nat),∃(Sx:List ag),∃(root:Int),(wM L ad cap Sx)/\(∀o∈L,tI o)/\(iS t h k row=⟨L.map bD.p,root⟩)/\(L.length<=10000)/\aE=(⟨131,aU,(⟨yO,74,2,[aS ad L.length cap,ae root]⟩::⟨b6,74,2,[aJ,ae 0]⟩::(Sx++L.flatMap bO))⟩:St)) ?_ ?_
 ·refine cJ [6,12,13,14,15,16] ?_;refine aM 2 ?_ (h:=by exact(eE (r:=.int .i64 ((h:Nat):Int)) rfl ot bP (je (by rw[Ic,show(((h+1:Nat):Int)-1)=(h:Int) from by omega];exact wrap_i64 w4 w4))));refine bB ?_;refine eZ [6,12,13] (fun aU _ (aR:Nat×K×Int×List bD×Option Addr×Nat×List ag) aE=>match aR with|(m,up,aB,L,ad,cap,Sx)=>(m<=h+1)/\(me t k row h m=(⟨L.map bD.p,t.root⟩,some (up,aB)))/\(wM L ad cap Sx)/\(∀o∈L,tI o)/\aE=(⟨131,(14,aj 1 cB up)::(15,ae aB)::(16,ae ((h:Int)-(m:Nat)))::aU,(⟨yO,74,2,[aS ad L.length cap,ae t.root]⟩::⟨b6,74,2,[aJ,ae 0]⟩::(Sx++L.flatMap bO))⟩:St)) (fun (aR:Nat×K×Int×List bD×Option Addr×Nat×List ag)=>match aR with|(m,up,aB,L,ad,cap,Sx)=>h+1-m) (0,k,row,L,ad,cap,Sx) ⟨(Nat.zero_le _),(by unfold me;rw[if_pos rfl,hL]),eW,bf,rfl⟩ ?_;rintro⟨m,up,aB,L,ad,cap,Sx⟩ _ ⟨hm0,he,eW,bf,rfl⟩;refine ax [6,12,13,14,15,16,52] ?_ ?_<;>intro da eP
  ·obtain rfl:m=h+1:=(by omega)
   obtain⟨s1,s2,s3,s4⟩:=My v hne Ft yh w4 he;have tK:L.length<=t.af.length+(h+1):=(by rw[<-length_map (f:=bD.p)];exact s2)
   have hul:=aku v hne Ft yh w4 he;refine az 3 ?_;refine eR (cU 0 [_]) [.slice none 0 0] [_] zeroValue83 runUnderlying163 sizeOf83 (fun my=>?_);refine aF 3 ?_;refine eR (cU 0 [_,_]) [.int .i64 0,.int .i64 0] [_,_] zeroValue3 runUnderlying27 sizeOf3 (fun oF=>?_);refine aF 1 ?_;refine eR (cU 0 [_]) [.bool false,.slice none 0 0,.slice none 0 0,.slice none 0 0,.int .i64 0] [_,_,_,_,_] zeroValue165 runUnderlying72 sizeOf165 (fun SD=>?_);refine agq (cs':=gO (⟨⟨false,[up],[t.root,aB],[],-1⟩,some ⟨my,0,none⟩,1,[⟨my,83,1*1,flatMap cK [up]⟩],some ⟨oF,0,none⟩,2,[⟨oF,3,2*1,flatMap cI [t.root,aB]⟩]⟩:bD)) rfl ⟨fN,fN,fN,Bw,fN,trivial⟩ ?_;refine gb 0 62 5 1 ?_;refine gi (ls:=L) (new:=[(⟨⟨false,[up],[t.root,aB],[],-1⟩,some ⟨my,0,none⟩,1,[⟨my,83,1*1,flatMap cK [up]⟩],some ⟨oF,0,none⟩,2,[⟨oF,3,2*1,flatMap cI [t.root,aB]⟩]⟩:bD)]) (Sq:=Sx) jL IR au rfl rfl underlying72 afp rfl w7 ot eW (qO (A:=[_,_,_,_])) ot bC pI pJ (fun GW Aj aqi aqj=>?_);refine aF 1 ?_;refine aN 3 [_,_] sizeOf72 ?_;refine ap 131 [6,12] ?_;refine az 3 ?_
   refine bS (eE (r:=.int .i64 (L.length:Nat)) rfl ot bP (je (by rw[length_append,show(((L.length+[(⟨⟨false,[up],[t.root,aB],[],-1⟩,some ⟨my,0,none⟩,1,[⟨my,83,1*1,flatMap cK [up]⟩],some ⟨oF,0,none⟩,2,[⟨oF,3,2*1,flatMap cI [t.root,aB]⟩]⟩:bD)].length:Nat):Int)-1)=(L.length:Int) from by simp];exact wrap_i64 w4 w4))) ?_;refine aF 1 ?_;refine aN 3 [_,_] sizeOf3 ?_;have hX:((⟨oF,3,2*1,flatMap cI [t.root,aB]⟩:ag)::⟨my,83,1*1,flatMap cK [up]⟩::L.flatMap bO).Perm ((L++[(⟨⟨false,[up],[t.root,aB],[],-1⟩,some ⟨my,0,none⟩,1,[⟨my,83,1*1,flatMap cK [up]⟩],some ⟨oF,0,none⟩,2,[⟨oF,3,2*1,flatMap cI [t.root,aB]⟩]⟩:bD)]).flatMap bO):=(by rw[W7];exact(Perm.swap _ _ _).trans (perm_append_comm (l₁:=[_,_])))
   refine cg (S':=⟨yO,74,2,[aS (some ⟨GW,0,none⟩) (L++[(⟨⟨false,[up],[t.root,aB],[],-1⟩,some ⟨my,0,none⟩,1,[⟨my,83,1*1,flatMap cK [up]⟩],some ⟨oF,0,none⟩,2,[⟨oF,3,2*1,flatMap cI [t.root,aB]⟩]⟩:bD)]).length Aj,ae (L.length:Nat)]⟩::⟨b6,74,2,[aJ,ae 0]⟩::(([⟨GW,165,Aj*5,flatMap gO (L++[(⟨⟨false,[up],[t.root,aB],[],-1⟩,some ⟨my,0,none⟩,1,[⟨my,83,1*1,flatMap cK [up]⟩],some ⟨oF,0,none⟩,2,[⟨oF,3,2*1,flatMap cI [t.root,aB]⟩]⟩:bD)])⟩]:List ag)++(L++[(⟨⟨false,[up],[t.root,aB],[],-1⟩,some ⟨my,0,none⟩,1,[⟨my,83,1*1,flatMap cK [up]⟩],some ⟨oF,0,none⟩,2,[⟨oF,3,2*1,flatMap cI [t.root,aB]⟩]⟩:bD)]).flatMap bO)) (by exact(perm_middle (l₁:=[_,_,_])).trans (Perm.cons _ ((perm_middle (l₁:=[_,_,_])).trans (Perm.cons _ (Perm.cons _ hX))))) ?_;refine ap 131 [6,12] ?_;refine qm ?_
   refine⟨_,aL,(L++[(⟨⟨false,[up],[t.root,aB],[],-1⟩,some ⟨my,0,none⟩,1,[⟨my,83,1*1,flatMap cK [up]⟩],some ⟨oF,0,none⟩,2,[⟨oF,3,2*1,flatMap cI [t.root,aB]⟩]⟩:bD)]),(some ⟨GW,0,none⟩),Aj,[⟨GW,165,Aj*5,flatMap gO (L++[(⟨⟨false,[up],[t.root,aB],[],-1⟩,some ⟨my,0,none⟩,1,[⟨my,83,1*1,flatMap cK [up]⟩],some ⟨oF,0,none⟩,2,[⟨oF,3,2*1,flatMap cI [t.root,aB]⟩]⟩:bD)])⟩],(L.length:Nat),(cj aqi aqj),(fun o ho=>by rcases mem_append.1 ho with ho|ho;exact bf o ho;rw[mem_singleton] at ho;subst ho;exact⟨cj (Nat.le_refl _) (show 1<=maxLen by decide),cj (Nat.le_refl _) (show 2<=maxLen by decide)⟩),(by rw[ai1 he rfl];show(⟨map bD.p L++[_],((map bD.p L).length:Int)⟩:aI)=_;rw[map_append,length_map];rfl),JJ,rfl⟩
  have hm:m<=h:=(by omega)
  have hP:=akv v hne Ft yh hm he;obtain⟨s1,s2,s3,s4⟩:=My v hne Ft yh w4 he;have tK:L.length<=t.af.length+m:=(by rw[<-length_map (f:=bD.p)];exact s2)
  have S5:0<=(ec t k h t.root m)/\(ec t k h t.root m)<L.length:=(by have:=hP.rg;rw[<-length_map (f:=bD.p)];exact this)
  have hj:(ec t k h t.root m).toNat<L.length:=(by omega)
  have hpj:L[(ec t k h t.root m).toNat].p=(⟨L.map bD.p,t.root⟩:aI).pg (ec t k h t.root m):=Y6 (t:=(⟨L.map bD.p,t.root⟩:aI)) rfl hP.rg hj;have po:fq ((⟨L.map bD.p,t.root⟩:aI).pg (ec t k h t.root m)) (⟨L.map bD.p,t.root⟩:aI).af.length:=s4 _ (kH hP.rg);have full:=M1 po hP.out hP.len hP.high hP.nn hP.nnl;obtain⟨bx,rfl,gp,Aw,rfl⟩:=eW.pos w4;have AN:=bf _ (getElem_mem hj);obtain⟨o,ho⟩:∃o,o=L[(ec t k h t.root m).toNat]:=⟨_,rfl⟩
  rw[<-ho] at AN hpj;rcases o with ⟨p,ak,ck,sk,ai,ci,si⟩
  have jl:p=(⟨L.map bD.p,t.root⟩:aI).pg (ec t k h t.root m):=hpj;obtain⟨eK,mM⟩:pW p.keys ak ck sk/\oT p.kids ai ci si:=AN;rw[<-jl] at po full;have kZ:=po.fm;have fC:=Ww po up;have hul:=hP.len.2;have Jv:(if p.leaf=true then bn p up else bn p up+1)<=p.kids.length/\p.kids.length<=5:=(by cases gJ:p.leaf;(have:=(po.node gJ).1;rw[if_neg w7];omega);(have:=po.leaf gJ;rw[if_pos rfl];omega))
  have hW:h-m<(jY t k h t.root).length:=(by rw[Ic];omega)
  have hWn:(jY t k h t.root)[h-m]=(ec t k h t.root m):=(by have:=U3 (t:=t) (k:=k) (h:=h) (i:=t.root) hm;exact(List.getElem?_eq_some_iff.1 this).2)
  have EK:=v.high;have ZJ:=v.qb;have Pt:(L.flatMap bO).Perm (sk++(si++((L.eraseIdx (ec t k h t.root m).toNat).flatMap bO))):=(by have:=BW bO hj;rw[<-ho] at this;exact this.trans aar)
  refine rE (Perm.cons _ (Perm.cons _ (Perm.cons _ Pt))) ?_;refine cJ [6,12,13,14,15,16,17] ?_;refine aM 4 ?_ (h:=by exact(ei 1 (h:=by first|exact .l (j:=h-m) w4 hW|exact .r (j:=h-m) w4 hW)));refine aM 0 ?_ (h:=by exact(ez (mk:=Op.load 3) rfl ot (uf (d:=ae (ec t k h t.root m)) (i:=h-m) fp isAgg3 hW (by rw[hWn];rfl))));refine aM 0 ?_ (h:=by exact(ei 5 (h:=by first|exact .l (j:=(ec t k h t.root m).toNat) (Int.toNat_of_nonneg S5.1).symm hj|exact .r (j:=(ec t k h t.root m).toNat) (Int.toNat_of_nonneg S5.1).symm hj)));refine bB ?_;refine cJ [6,12,13,14,15,16,17,18] ?_;refine aM 2 ?_ (h:=by exact(ez (mk:=Op.load 165) rfl ot (dM (k:=2) (ls:=L) (i:=(ec t k h t.root m).toNat) jL rfl rfl rfl isAgg165 sizeOf165 hj)));refine oD 1 ?_;refine CB (M7 p up po.lJ w4) (ha:=by exact⟨⟨_,ot,(by rw[<-ho];exact xz ⟨fN,n8 eK (dg iw _) (fun B hB=>.tail _ (.tail _ (.tail _ (mem_append_left _ hB)))),n8 mM (dg fp _) (fun B hB=>.tail _ (.tail _ (.tail _ (mem_append_right _ (mem_append_left _ hB))))),fN,fN,trivial⟩)⟩,⟨_,ot,fN⟩,trivial⟩) (K:=?_);refine bB ?_;refine az 4 ?_;refine bS (ez (mk:=Op.load 163) rfl ot (mW (k:=2) (j:=1) (d:=aS ak p.keys.length ck) (ls:=L) jL rfl rfl rfl isAgg163 hj uv)) ?_;refine aF 2 ?_;refine eR (cU 0 [_]) [.slice none 0 0] [_] zeroValue83 runUnderlying163 sizeOf83 (fun b89=>?_)
  refine eH au rfl rfl rfl call140 (afY p.keys (bn p up) up ak ck sk b89 fC w4 eK) ⟨ot,ot,ot,trivial⟩ (Perm.cons _ (qO (A:=[_,_,_]))) ?_;rintro _ E ⟨I,O,rfl,fD⟩;refine cg (lP (A:=[_,_,_])) ?_;refine aF 2 ?_;refine pn (k:=2) (cs':=flatMap gO (L.set (ec t k h t.root m).toNat (⟨{p with keys:=jn p.keys (bn p up) up},I,O,E,ai,ci,si⟩:bD))) au rfl rfl ot rfl rfl ot rfl rfl sizeOf163 rfl (by show 0+(ec t k h t.root m).toNat*5+1+1<=(flatMap gO L).length;rw[dg jL];omega) (by show(L.flatMap gO).set (0+(ec t k h t.root m).toNat*5+1) _=_;rw[Nat.zero_add];exact Dz jL w7 hj (by rw[<-ho];unfold gO;rw[BE fC];rfl)) ?_;refine ap 131 [6,12,13,15,16,17,18] ?_;refine ue (fun aE=>aE=(⟨131,[(6,dw b6),(12,dw yO),(13,.list 1 ((jY t k h t.root).flatMap cI) (jY t k h t.root).length),(15,ae aB),(16,ae ((h:Int)-(m:Nat))),(17,.v (.pointer (some ⟨bx,0+(ec t k h t.root m).toNat*5,none⟩))),(18,ae (((if p.leaf=true then bn p up else bn p up+1):Nat):Int))],(⟨yO,74,2,[aS (some ⟨bx,0,none⟩) L.length cap,ae t.root]⟩::⟨b6,74,2,[aJ,ae 0]⟩::⟨bx,165,cap*5,flatMap gO (L.set (ec t k h t.root m).toNat (⟨{p with keys:=jn p.keys (bn p up) up},I,O,E,ai,ci,si⟩:bD))⟩::(E++(si++((L.eraseIdx (ec t k h t.root m).toNat).flatMap bO))))⟩:St)) ?_ ?_
  ·refine cJ [6,12,13,15,16,17,18,97] ?_;refine aM 3 ?_ (h:=by exact(ez (mk:=Op.load 4) rfl ot (mW (k:=2) (j:=0) (d:=aW p.leaf) (ls:=(L.set (ec t k h t.root m).toNat (⟨{p with keys:=jn p.keys (bn p up) up},I,O,E,ai,ci,si⟩:bD))) jL rfl rfl rfl isAgg4 EU (by rw[getElem_set_self];rfl))));refine bB ?_;refine bX ?_ ?_<;>intro eo fR
   ·have en:(((if p.leaf=true then bn p up else bn p up+1):Nat):Int)=(((bn p up):Nat):Int)+1:=(by rw[if_neg (by simpa using eo)];rfl)
    refine bM [6,12,13,15,16,17,18] ?_;exact aaI
   have en:(((if p.leaf=true then bn p up else bn p up+1):Nat):Int)=(((bn p up):Nat):Int):=(by rw[if_pos (by simpa using eo)])
   refine eI ?_;exact aaI
  rintro _ ⟨rfl⟩;refine az 4 ?_;refine bS (ez (mk:=Op.load 27) rfl ot (mW (k:=2) (j:=2) (d:=aS ai p.kids.length ci) (ls:=(L.set (ec t k h t.root m).toNat (⟨{p with keys:=jn p.keys (bn p up) up},I,O,E,ai,ci,si⟩:bD))) jL rfl rfl rfl isAgg27 EU (by rw[getElem_set_self];rfl))) ?_;refine aF 2 ?_;refine eR (cU 0 [_]) [.int .i64 0] [_] zeroValue3 runUnderlying27 sizeOf3 (fun aqk=>?_);refine eH au rfl rfl rfl call141 (afZ p.kids (if p.leaf=true then bn p up else bn p up+1) aB ai ci si aqk Jv.1 w4 mM) ⟨ot,ot,ot,trivial⟩ (Perm.cons _ (vT (A:=[_,_,_]))) ?_;rintro _ U ⟨Z,fM,rfl,nr⟩;refine cg (ze (A:=[_,_,_])) ?_;refine aF 2 ?_
  refine pn (k:=2) (cs':=flatMap gO (L.set (ec t k h t.root m).toNat (⟨(bU p up aB),I,O,E,Z,fM,U⟩:bD))) au rfl rfl ot rfl rfl ot rfl rfl sizeOf27 rfl (by show 0+(ec t k h t.root m).toNat*5+2+1<=(flatMap gO (L.set (ec t k h t.root m).toNat (⟨{p with keys:=jn p.keys (bn p up) up},I,O,E,ai,ci,si⟩:bD))).length;rw[dg jL,length_set];omega) (by show(flatMap gO (L.set (ec t k h t.root m).toNat (⟨{p with keys:=jn p.keys (bn p up) up},I,O,E,ai,ci,si⟩:bD))).set (0+(ec t k h t.root m).toNat*5+2) _=_;rw[Nat.zero_add,Dz jL (a':=(⟨(bU p up aB),I,O,E,Z,fM,U⟩:bD)) w7 EU (by rw[getElem_set_self];show gO (⟨(bU p up aB),I,O,E,Z,fM,U⟩:bD)=(gO (⟨{p with keys:=jn p.keys (bn p up) up},I,O,E,ai,ci,si⟩:bD)).set 2 _;unfold gO;rw[show((⟨(bU p up aB),I,O,E,Z,fM,U⟩:bD)).p.kids.length=p.kids.length+1 from BE Jv.1];rfl),set_set]) ?_;have yB:(E++(U++((L.eraseIdx (ec t k h t.root m).toNat).flatMap bO))).Perm ((L.set (ec t k h t.root m).toNat (⟨(bU p up aB),I,O,E,Z,fM,U⟩:bD)).flatMap bO):=(by have:=(Bv bO hj (⟨(bU p up aB),I,O,E,Z,fM,U⟩:bD)).symm;rw[show bO (⟨(bU p up aB),I,O,E,Z,fM,U⟩:bD)=E++U from rfl,append_assoc] at this;exact this)
  refine cg (S':=⟨yO,74,2,[aS (some ⟨bx,0,none⟩) (L.set (ec t k h t.root m).toNat (⟨(bU p up aB),I,O,E,Z,fM,U⟩:bD)).length cap,ae t.root]⟩::⟨b6,74,2,[aJ,ae 0]⟩::(([⟨bx,165,cap*5,flatMap gO (L.set (ec t k h t.root m).toNat (⟨(bU p up aB),I,O,E,Z,fM,U⟩:bD))⟩]:List ag)++(L.set (ec t k h t.root m).toNat (⟨(bU p up aB),I,O,E,Z,fM,U⟩:bD)).flatMap bO)) (by rw[length_set];exact Perm.cons _ (Perm.cons _ (Perm.cons _ yB))) ?_;have abw:wM (L.set (ec t k h t.root m).toNat (⟨(bU p up aB),I,O,E,Z,fM,U⟩:bD)) (some ⟨bx,0,none⟩) cap [⟨bx,165,cap*5,flatMap gO (L.set (ec t k h t.root m).toNat (⟨(bU p up aB),I,O,E,Z,fM,U⟩:bD))⟩]:=cj zM Aw;have lH:∀o∈(L.set (ec t k h t.root m).toNat (⟨(bU p up aB),I,O,E,Z,fM,U⟩:bD)),tI o:=fun x hx=>by rcases mem_or_eq_of_mem_set hx with hx|rfl;exact bf x hx;exact⟨fD,nr⟩
  refine ap 131 [6,12,13,16,17] ?_;refine cJ [6,12,13,16,116] ?_;refine aM 3 ?_ (h:=by exact(ez (mk:=Op.load 163) rfl ot (mW (k:=2) (j:=1) (d:=aS I (bU p up aB).keys.length O) (ls:=(L.set (ec t k h t.root m).toNat (⟨(bU p up aB),I,O,E,Z,fM,U⟩:bD))) jL rfl rfl rfl isAgg163 EU (by rw[getElem_set_self];rfl))));refine bB ?_;refine bX ?_ ?_<;>intro fH ik
  ·have h4:(bU p up aB).keys.length<=4:=(by have:=of_decide_eq_true fH;omega)
   refine qm ?_;refine⟨_,aL,(L.set (ec t k h t.root m).toNat (⟨(bU p up aB),I,O,E,Z,fM,U⟩:bD)),(some ⟨bx,0,none⟩),cap,[⟨bx,165,cap*5,flatMap gO (L.set (ec t k h t.root m).toNat (⟨(bU p up aB),I,O,E,Z,fM,U⟩:bD))⟩],t.root,abw,lH,(by rw[akz hm he (by rw[<-jl];exact h4),<-jl,map_set];rfl),x5,rfl⟩
  have h4:¬(bU p up aB).keys.length<=4:=(by have:=of_decide_eq_false fH;omega)
  have h5:(bU p up aB).keys.length=5:=(by have:=full.fm;omega)
  refine dB 2 ?_;refine bS (ei 1 (h:=by first|exact .l (j:=h-m) w4 hW|exact .r (j:=h-m) w4 hW)) ?_;refine bS (ez (mk:=Op.load 3) rfl ot (uf (d:=ae (ec t k h t.root m)) (i:=h-m) fp isAgg3 hW (by rw[hWn];rfl))) ?_;have nV:(L.set (ec t k h t.root m).toNat (⟨(bU p up aB),I,O,E,Z,fM,U⟩:bD)).length=L.length:=length_set ..;refine eH au rfl rfl rfl call142 (ahj (L.set (ec t k h t.root m).toNat (⟨(bU p up aB),I,O,E,Z,fM,U⟩:bD)) yO t.root (ec t k h t.root m) (some ⟨bx,0,none⟩) cap [⟨bx,165,cap*5,flatMap gO (L.set (ec t k h t.root m).toNat (⟨(bU p up aB),I,O,E,Z,fM,U⟩:bD))⟩] (by rw[nV];exact S5) (bU p up aB) (by rw[getElem_set_self]) (by rw[nV];omega) abw lH h5 (fun hl=>by have:=full.leaf hl;omega) (fun hl=>by have:=(full.node hl).1;omega) (fun x hx=>(full.nf x hx).2) full.hlen) ⟨ot,ot,trivial⟩ (Perm.cons _ (perm_append_singleton _ _).symm) ?_;rintro _ _ ⟨rfl,L3,Ll,Ke,Lm,aql,Am,hL3,rfl⟩;refine cg (Perm.cons _ (perm_append_singleton _ _)) ?_;have FO:me t k row h (m+1)=(⟨L3.map bD.p,t.root⟩,some (iY (bU p up aB),((L.set (ec t k h t.root m).toNat (⟨(bU p up aB),I,O,E,Z,fM,U⟩:bD)).length:Int))):=(by rw[ai3 hm he (by rw[<-jl];exact h4),<-jl,hL3,nV];unfold kf;show(({af:=(map bD.p L).set _ _++_,root:=t.root}:aI),_)=_;rw[map_set,set_set,length_map])
  refine ap 131 [6,12,13,14,15,16] ?_;refine bM [6,12,13,14,15,16] ?_;refine⟨((m+1),(iY (bU p up aB)),((L.set (ec t k h t.root m).toNat (⟨(bU p up aB),I,O,E,Z,fM,U⟩:bD)).length:Int),L3,Ll,Ke,Lm),_,cR,aL,w4,FO,aql,Am,rfl⟩
 rintro _ ⟨L,ad,cap,Sx,root,eW,bf,Kg,tK,rfl⟩;refine ax [6,12,128] ?_ ?_<;>intro iu qa
 ·refine az 1 ?_;refine aN 1 [_,_] sizeOf74 ?_;refine eA 131 [6,7] [] ?_;unfold qZ;rw[if_pos hz,if_neg w4,if_neg zO,if_pos (by rw[Kg];show 4000<(L.map bD.p).length;rw[length_map];omega)];exact BX _
 refine az 1 ?_;refine aN 1 [_,_] sizeOf74 ?_;refine eA 131 [6,7] (Sx++L.flatMap bO) ?_;unfold qZ;rw[if_pos hz,if_neg w4,if_neg zO,if_neg (by rw[Kg];show ¬4000<(L.map bD.p).length;rw[length_map];omega)];exact⟨_,rfl,L,ad,cap,Sx,by rw[Kg],eW,bf,by rw[Kg],rfl⟩
theorem ahk(t:aI)(h:Nat)(k:K)(row:Int)(hb:∀p∈t.af,p.keys.length<=maxLen/\p.kids.length<=maxLen)(hv:gF t=0->Valid t h):VP Tryz.prog G 104 [.agg (cT t),aj 1 cB k,ae row] (.dF [.agg (cT (qZ t k row h).1),ae (qZ t k row h).2]):=(MC t h k row hb hv).cover fun r S hr=>hr.view
end Tw
namespace Tr
open Go.Proofs.Tryz
open Go.Lib (compareBytes)
variable {t:aI} {h:Nat} {k:K}
variable {n:Nat}
theorem WI(hp:∀p∈t.af,fq p t.af.length):∀{h h':Nat} {i:Int} {a b c d:K},eS t h i a b->eS t h' i c d->h=h'
 | 0,0,_,_,_,_,_,_,_=>rfl
 | 0,h'+1,i,_,_,_,_,h1,h2=>by have:=h1.2.1;rw[h2.2.1] at this;cases this
 | h+1,0,i,_,_,_,_,h1,h2=>by have:=h1.2.1;rw[h2.2.1] at this;cases this
 | h+1,h'+1,i,_,_,_,_,h1,h2=>by
  obtain⟨p1,p2,p3,O,E⟩:=h1;obtain⟨q1,q2,q3,U,I⟩:=h2;have hn:=((hp _ (kH p1)).node p2).1;have:=WI hp (E 0 w4) (I 0 w4);rw[this]
noncomputable def dG(t:aI):Nat:=Classical.epsilon fun h=>Valid t h
theorem HJ(v:Valid t h):Valid t (dG t):=Classical.epsilon_spec (p:=fun h=>Valid t h) ⟨h,v⟩
theorem OJ(v:Valid t h):dG t=h:=WI v.gB (HJ v).ok v.ok
noncomputable def er(t:aI):List (K×Int):=mJ t (dG t)
theorem N4(hp:∀p∈t.af,fq p t.af.length):∀{h:Nat} {i:Int} {a b:K},eS t h i a b->2 ^ h<=(ids t h i).length
 | 0,i,_,_,_=>by simp[ids]
 | h+1,i,_,_,ok=>by
  obtain⟨p1,p2,p3,O,E⟩:=ok;have hn:=(hp _ (kH p1)).node p2;have hk:1<=(t.pg i).keys.length:=by
   have:=hn.2;cases nP:(t.pg i).keys with
   | nil=>exact absurd nP this
   | cons _ _=>simp
  have h0:=N4 hp (E 0 w4);have h1:=N4 hp (E 1 w4);have key:∀(l:List Int) (h2:2<=l.length),2 ^ h<=(ids t h (l[0]'w4)).length->2 ^ h<=(ids t h (l[1]'w4)).length->2 ^ h+2 ^ h<=(l.flatMap (ids t h)).length:=by
   intro l h2 I a1;match l,h2 with
   | x::y::r,_ =>
    simp only[flatMap_cons,length_append];simp only[getElem_cons_zero,getElem_cons_succ] at I a1;omega
  have:=key _ w4 h0 h1;rw[ids,length_cons,Nat.pow_succ];omega
theorem akA(v:Valid t h):h<=11:=by
 have h1:=N4 v.gB v.ok;rw[v.all] at h1;have h2:=v.qb;refine Nat.le_of_not_lt fun h3=>?_;have:2 ^ 12<=2 ^ h:=Nat.pow_le_pow_right w7 h3;omega
structure jg (t:aI) (n:Nat):Prop where
 val:Valid t (dG t)
 fm:t.af.length<=1+13*n
theorem jg.mono{m:Nat}(g:jg t n)(h:n<=m):jg t m:=⟨g.val,by have:=g.fm;omega⟩
theorem ai4:jg nc 0:=⟨HJ UX,by decide⟩
theorem ai5:er nc=[]:=by unfold er;rw[OJ UX];exact aiK
theorem If{row:Int}(g:jg t n)(hn:n<=300)(lV:∀x∈er t,x.1≠k)(hk:1<=k.length/\k.length<=100)(hr:0<=row) :
  jg (iS t (dG t) k row) (n+1)/\(iS t (dG t) k row).af.length<=4000/\∀x,x∈er (iS t (dG t) k row)↔x=(k,row)\/x∈er t:=by
 have E:=akA g.val;have hf:=g.fm;obtain⟨h',_,v,⟨_,hm⟩,he⟩:=agU g.val lV hk hr w4;refine⟨⟨HJ v,by omega⟩,v.qb,fun x=>?_⟩;unfold er;rw[OJ v];exact he x
theorem M9(g:jg t n)(ht:Ev t k (dG t)):jg (iT t (dG t) k) n/\∀x,x∈er (iT t (dG t) k)↔x∈er t/\x.1≠k:=by
 obtain⟨v,hl,he⟩:=agV g.val ht;refine⟨⟨HJ v,by have:=g.fm;omega⟩,fun x=>?_⟩;unfold er;rw[OJ v];exact he x
end Tr
namespace Tw
open Go.Proofs.Tryz
open Go.RowKit V Tr Pk
open Go.Lib (compareBytes)
variable {k:K} {t:aI} {n:Nat} {row:Int}
theorem akB(h:1<=k.length/\k.length<=100):qB k=true:=decide_eq_true h
theorem Ew(g:jg t n)(hk:1<=k.length/\k.length<=100):ng t k=0:=Nu (Ib g.val) (akB hk)
theorem DL(g:jg t n)(k:K):jv t k (dG t)=true↔∃row,(k,row)∈er t:=(Ho g.val k).trans (DK g.val k)
theorem Ig(g:jg t n):jv t k (dG t)=false↔∀x∈er t,x.1≠k:=by
 constructor
 ·exact fun h=>U8 g.val h
 intro h;cases hq:jv t k (dG t) with
 | false=>rfl
 | true=>obtain⟨row,hr⟩:=(DL g k).1 hq;exact absurd rfl (h _ hr)
theorem akC(g:jg t n)(hk:1<=k.length/\k.length<=100)(hr:0<=row)(h:jv t k (dG t)=true):qZ t k row (dG t)=(yN,9):=by
 unfold qZ;rw[if_pos (Ew g hk),if_neg w4,if_pos h]
theorem Y7(g:jg t n)(hn:n<=300)(hk:1<=k.length/\k.length<=100)(hr:0<=row)(h:jv t k (dG t)=false):qZ t k row (dG t)=(iS t (dG t) k row,0):=by
 have:=(If g hn ((Ig g).1 h) hk hr).2.1;unfold qZ;rw[if_pos (Ew g hk),if_neg w4,if_neg (by rw[h];decide),if_neg w4]
theorem Ya(g:jg t n)(hk:1<=k.length/\k.length<=100)(h:jv t k (dG t)=true):uw t k (dG t)=(iT t (dG t) k,0):=by
 unfold uw;rw[if_pos (Ew g hk),if_pos h]
theorem akD(g:jg t n)(hk:1<=k.length/\k.length<=100)(h:jv t k (dG t)=false):findF t k (dG t)=(0,8):=by
 unfold findF;rw[if_pos (Ew g hk),if_neg (by rw[h];decide)]
theorem WJ(g:jg t n)(hk:1<=k.length/\k.length<=100)(h:(k,row)∈er t):findF t k (dG t)=(row,0):=by
 unfold findF dV;rw[if_pos (Ew g hk),if_pos ((DL g k).2 ⟨row,h⟩)];obtain⟨_,_,e⟩:=(found g.val k row).1 h;rw[e]
theorem BY(g:jg t n):∀p∈t.af,p.keys.length<=maxLen/\p.kids.length<=maxLen:=aiU g.val
variable {G:List (Nat×List Value)}
theorem WK(g:jg t n)(k:K)(row:Int):VP Tryz.prog G 104 [.agg (cT t),aj 1 cB k,ae row] (.dF [.agg (cT (qZ t k row (dG t)).1),ae (qZ t k row (dG t)).2]):=ahk t (dG t) k row (BY g) fun _=>g.val
theorem WL(g:jg t n)(k:K):VP Tryz.prog G 111 [.agg (cT t),aj 1 cB k] (.dF [.agg (cT (uw t k (dG t)).1),ae (uw t k (dG t)).2]):=ahg t (dG t) k (BY g) fun _=>g.val
theorem OK(g:jg t n)(k:K):VP Tryz.prog G 71 [.agg (cT t),aj 1 cB k] (.dF [ae (findF t k (dG t)).1,ae (findF t k (dG t)).2]):=al1 t (dG t) k (BY g) fun _=>g.val
theorem akE(g:jg t n):VP Tryz.prog G 59 [.agg (cT t)] (ae 0):=by have:=qP (G:=G) t (BY g);rwa [Ib g.val] at this
noncomputable def jF(t:aI)(f eL:K):List (K×Int):=xV t (dG t) f eL
theorem OL(g:jg t n)(f eL:K)(hf:f.length<=100)(ht:eL.length<=100):VP Tryz.prog G 36 [.agg (cT t),aj 1 cB f,aj 1 cB eL] (.dF [.list 2 ((jF t f eL).flatMap cE) (jF t f eL).length,ae 0]):=by
 have:=akx (G:=G) t (dG t) (BY g) (fun _=>g.val) f eL;unfold zF at this;rwa [if_pos (Ib g.val),if_pos ⟨hf,ht⟩] at this
theorem akF(g:jg t n)(k:K):VP Tryz.prog G 56 [.agg (cT t),aj 1 cB k] (.dF [.agg (sV t (dG t) k).1,ae (sV t (dG t) k).2]):=aiZ t (dG t) (BY g) (fun _=>g.val) k
theorem MN(t:aI):jF t [] []=er t:=by
 unfold jF xV er;rw[aiW,MA fun x _=>by simp[u7]]
theorem W5(g:jg t n):VP Tryz.prog G 36 [.agg (cT t),aJ,aJ] (.dF [.list 2 ((jF t [] []).flatMap cE) (jF t [] []).length,ae 0]):=VC.eL (args':=[.agg (cT t),aJ,aJ]) (OL g [] [] w7 w7) ⟨.inl rfl,.inr ⟨1,rfl,rfl⟩,.inr ⟨1,rfl,rfl⟩,trivial⟩
end Tw
namespace Ba
open Go.Proofs.Tryz
open Go.RowKit V Pk Tr Vl Go.Proofs.YtihmfhcjbmlnaaaGreatDoor.Nm Pc Cd Ex Tw
section
structure aA where
 nm:ByteArray
 an:List dc
 rows:List (List Vl)
 ix:aI
def eX(r:List Vl):List D:=[aj 3 cV r]
theorem kR(r:List Vl):(eX r).length=1:=rfl
theorem Vs(r:List Vl):(eX r).all V.one=true:=rfl
def cr(t:aA):List D:=[aG t.nm,aj 2 cC t.an,aj 1 eX t.rows,aj 5 cP t.ix.af,ae t.ix.root]
theorem j7(t:aA):(cr t).length=5:=rfl
def aC(b:List aA)(nm:ByteArray):Int:=dD (fun t=>t.nm.toList==nm.toList) b
def de(r:List Vl):K:=(fS (r.take 1)).1
variable {G:List (Nat×List Value)}
theorem ai6(t:aA)(nm:ByteArray)(b:Nat):VC Tryz.prog G 58 [.agg (cr t),dw b] [⟨b,9,1,[aG nm]⟩] (fun r S=>r=aW (t.nm.toList==nm.toList)/\S=[⟨b,9,1,[aG nm]⟩]):=by
 refine bA func58 rfl ntmps58 aO fun X0 w0 bz=>?_;unfold cr;refine cq ?_;refine dm [_,_,_,_,_] (fun b2=>?_);refine ap 8 [1,2] ?_;refine dS [3] [⟨b,9,1,[aG nm]⟩] ?_;exact⟨rfl,rfl⟩
theorem U9(ls:List aA)(I:Nat)(E:List D)(S:List ag)(p:aA->Bool)(fY:∀args w,(callFunc I args).run Tryz.prog w = .ok (.enter I args) w)(hp:∀x∈ls,VC Tryz.prog G I (.agg (cr x)::E) S (fun r S'=>r=aW (p x)/\S'=S))(hlen:ls.length<=1000000):VC Tryz.prog G 25 [aj 5 cr ls,.fg (.func I) E] S (fun r S'=>r=ae (dD p ls)/\S'=S):=by
 refine bA func25 rfl ntmps25 aO fun X0 w0 bz=>?_;refine az 1 ?_;refine fF (Wk.eN (n:=19) (l':=[(0,_),(1,_)]) (S':=S) rfl oW gg) ?_;refine jX ?_;refine az 3 ?_;refine fF (Wk.eN (n:=19) (l':=[(0,_),(1,_),(7,_),(8,_)]) (S':=S) rfl oW gg) ?_;refine jX ?_;refine eZ [0,1,7] (fun aU _ (k:Nat) aE=>(k<=ls.length)/\(∀x∈ls.take k,p x=false)/\aE=(⟨19,(8,ae (k:Nat))::aU,S⟩:St)) (fun (k:Nat)=>ls.length-k) 0 ⟨Nat.zero_le _,bC,rfl⟩ ?_;rintro k _ ⟨hk,h0,rfl⟩;refine az 1 ?_;refine fF (Wk.eN (n:=19) (l':=[(0,_),(1,_),(7,_),(8,_),(9,_)]) (S':=S) rfl oW gg) ?_;refine jX ?_;refine bX ?_ ?_<;>intro aP bH
 ·refine az 2 ?_;refine fF (Wk.eN (n:=19) (l':=[(0,_),(1,_),(5,_),(7,_),(8,_)]) (S':=S) rfl oW gg) ?_;refine jX ?_;refine az 5 ?_;refine nB (f:=I) (args:=[_]) au rfl rfl (vZ rfl lk) fY (hp (ls[k]'w4) (getElem_mem _)) rfl ⟨vZ rfl lk,trivial⟩ (DN _) ?_;rintro _ S2 ⟨rfl,gY⟩;rw[gY];clear gY;refine fF (Wk.eN (n:=19) (l':=[(0,_),(1,_),(5,_),(7,_),(8,_),(16,_)]) (S':=S) rfl oW gg) ?_;refine jX ?_;refine bX ?_ ?_<;>intro bg cM
  ·refine az 2 ?_;refine fF (Wk.eN (n:=19) (l':=[(4,_)]) (S':=S) rfl oW gg) ?_;refine jX ?_;refine eD S ?_;refine⟨?_,rfl⟩;first|(rw[y9 w4 h0 wE])|(rw[xq w4 h0])
  refine dB 2 ?_;refine fF (Wk.eN (n:=19) (l':=[(0,_),(1,_),(7,_),(8,_)]) (S':=S) rfl oW gg) ?_;refine jX ?_;refine⟨k+1,_,cR,aL,w4,ZX,rfl⟩
 refine az 1 ?_;refine fF (Wk.eN (n:=19) (l':=[(4,_)]) (S':=S) rfl oW gg) ?_;refine jX ?_;refine eD S ?_;refine⟨?_,rfl⟩;first|(rw[y9 w4 h0 wE])|(rw[xq w4 h0])
theorem sQ(l:List aA)(hl:l.length<=1000)(nm:ByteArray):VP Tryz.prog G 35 [aj 5 cr (l),aG nm] (ae (aC l nm)):=by
 refine bA func35 rfl ntmps35 aO fun X0 w0 bz=>?_;refine cq ?_;refine dm [_] (fun b3=>?_);refine ap 8 [0,3] ?_;refine az 1 ?_;refine bS (sM (ds:=[_]) rfl ⟨ot,trivial⟩) ?_;refine eH au rfl rfl rfl call25 (U9 l 58 [dw b3] _ (fun t=>t.nm.toList==nm.toList) call58 (fun h _=>ai6 h nm b3) w4) ⟨ot,ot,trivial⟩ (nA (k:=0) rfl) ?_;rintro _ S2 ⟨rfl,gY⟩;rw[gY];clear gY;refine ap 8 [4] ?_;exact z46
theorem ai7(c:dc)(nm:ByteArray)(b:Nat):VC Tryz.prog G 143 [.agg (cC c),dw b] [⟨b,9,1,[aG nm]⟩] (fun r S=>r=aW (c.n.toList==nm.toList)/\S=[⟨b,9,1,[aG nm]⟩]):=by
 refine bA func143 rfl ntmps143 aO fun X0 w0 bz=>?_;exact RD
theorem MD(t:aA)(hl:t.an.length<=1000)(nm:ByteArray):VP Tryz.prog G 105 [.agg (cr t),aG nm] (ae (bE t.an nm)):=by
 refine bA func105 rfl ntmps105 aO fun X0 w0 bz=>?_;unfold cr;refine cq ?_;refine dm [_,_,_,_,_] (fun b2=>?_);refine dm [_] (fun b3=>?_);refine ap 9 [2,3] ?_;refine az 2 ?_;refine bS (sM (ds:=[_]) rfl ⟨ot,trivial⟩) ?_;refine eH au rfl rfl rfl call52 (Pc.H6 t.an 143 [dw b3] _ (fun c=>c.n.toList==nm.toList) call143 (fun h _=>ai7 h nm b3) w4) ⟨ot,ot,trivial⟩ (nA (k:=0) rfl) ?_;rintro _ S2 ⟨rfl,gY⟩;rw[gY];clear gY;refine ap 9 [4] ?_;exact z46
end
variable {G:List (Nat×List Value)} {m:Int}
variable {S:List ag} {t:aA} {n:Nat} {p:List Int×Int}
def FD(k:K)(r:D)(S:List ag):Prop:=∃ad cap,r=aS ad k.length cap/\bF 5 1 (k.flatMap cB) k.length ad cap S
theorem FD.view{k:K}{r:D}(h:FD k r S):View S r (aj 1 cB k):=by
 obtain⟨ad,cap,rfl,ho⟩:=h;exact n8 ho (dg qS _) (fun B h=>h)
theorem FD.flat{k:K}{r:D}(h:FD k r S):mE r=true/\∀B∈S,∀d∈B.cs,mE d=true:=by
 obtain⟨ad,cap,rfl,ho⟩:=h;refine⟨rfl,fun B hB d hd=>?_⟩;rcases ho with ⟨_,_,_,_,rfl⟩|⟨b,_,_,_,rfl⟩
 ·cases hB
 rw[mem_singleton] at hB;subst hB;obtain⟨n,_,hn⟩:=mem_flatMap.1 hd;rw[cB,mem_singleton] at hn;subst hn;rfl
theorem OM(hG:(2,[Value.int .i64 m])∈G)(r:List Vl)(h1:1<=r.length)(h2:r.length<=1000000)(bf:∀v∈r,v.Ok):VC Tryz.prog G 72 [aj 3 cV r] [] (FD (de r)):=by
 refine bA func72 rfl ntmps72 aO fun X0 w0 bz=>?_;have dy:=ee;refine ay [0] ?_;refine az 1 ?_;refine bS (fw (h:=1) rfl ot trivial ⟨_,bP⟩ (by exact nC fX (fun h=>by cases h) runUnderlying30 sizeOf36 w4)) ?_;refine eH au rfl rfl rfl call30 (YU hG (r.take 1) qD (fun v hv=>bf v (mem_of_mem_take hv))) ⟨ot,trivial⟩ (fj _) ?_;rintro _ O ⟨E,I,rfl,lH⟩;refine cg (Perm.of_eq (append_nil O)) ?_;refine ap 12 [3] ?_;refine dS [2] O ?_;exact⟨E,I,rfl,lH⟩
theorem B7(hG:(2,[Value.int .i64 m])∈G)(r:List Vl)(h1:1<=r.length)(h2:r.length<=1000000)(bf:∀v∈r,v.Ok):VP Tryz.prog G 72 [aj 3 cV r] (.list 1 ((de r).flatMap cB) (de r).length):=(OM hG r h1 h2 bf).cover fun r S hr=>hr.view
theorem af0:(Tryz.prog.info? 36).map (fun i=>(i.zero,i.size,i.bytes))=some (some (.agg #[.int .i64 0,.int .i64 0,.string ⟨#[]⟩]),3,32):=by kernel_rfl
theorem Va(a:List Vl)(ha:a.length<=1000000):VC Tryz.prog G 37 [aj 3 cV a] [] (fun r S=>∃ad cap,r=aS ad a.length cap/\bF 36 3 (a.flatMap cV) a.length ad cap S):=by
 refine bA func37 rfl ntmps37 aO fun X0 w0 bz=>?_;have dy:=ee;refine ay [0] ?_;refine az 1 ?_;refine Bx au rfl rfl ot bP underlying30 (fun O AA=>?_);refine ap 8 [0,4] ?_;refine bX ?_ ?_<;>intro aP bH
 ·exact z70
 refine cq ?_;refine By au rfl rfl runUnderlying30 sizeOf36 (fun b5=>?_);refine aF 1 ?_;refine tN (ls:=([]:List Vl)) (new:=a) (Sq:=[⟨b5,36,0*3,[]⟩]) fX I1 au rfl rfl underlying30 af0 rfl w7 runUnderlying30 sizeOf36 ot (.inr ⟨b5,rfl,Nat.le_refl _,Nat.zero_le _,rfl⟩) (dL (A:=[])) ot jk jk (fun E I S7 sg=>?_);exact KU
theorem Un(a:List Vl)(ha:a.length<=1000000):VP Tryz.prog G 37 [aj 3 cV a] (aj 3 cV a):=(Va a ha).cover fun r S ⟨ad,cap,h,ho⟩=>by subst h;exact n8 ho (dg fX _) (fun B h=>h)
theorem afq:(Tryz.prog.info? 109).map (fun i=>(i.zero,i.size,i.bytes))=some (some (.agg #[.string ⟨#[]⟩,.int .i64 0]),2,24):=by kernel_rfl
theorem ahl(a:List dc)(ha:a.length<=1000000):VC Tryz.prog G 101 [aj 2 cC a] [] (fun r S=>∃ad cap,r=aS ad a.length cap/\bF 109 2 (a.flatMap cC) a.length ad cap S):=by
 refine bA func101 rfl ntmps101 aO fun X0 w0 bz=>?_;have dy:=ee;refine ay [0] ?_;refine az 1 ?_;refine Bx au rfl rfl ot bP underlying29 (fun O AA=>?_);refine ap 8 [0,4] ?_;refine bX ?_ ?_<;>intro aP bH
 ·exact z70
 refine cq ?_;refine By au rfl rfl runUnderlying29 sizeOf109 (fun b5=>?_);refine aF 1 ?_;refine tN (ls:=([]:List dc)) (new:=a) (Sq:=[⟨b5,109,0*2,[]⟩]) mV alK au rfl rfl underlying29 afq rfl w7 runUnderlying29 sizeOf109 ot (.inr ⟨b5,rfl,Nat.le_refl _,Nat.zero_le _,rfl⟩) (dL (A:=[])) ot jk jk (fun E I S7 sg=>?_);exact KU
theorem Vb(a:List dc)(ha:a.length<=1000000):VP Tryz.prog G 101 [aj 2 cC a] (aj 2 cC a):=(ahl a ha).cover fun r S ⟨ad,cap,h,ho⟩=>by subst h;exact n8 ho (dg mV _) (fun B h=>h)
theorem ahm(a:List Int)(ha:a.length<=1000000):VP Tryz.prog G 138 [aj 1 Tw.cI a] (aj 1 Tw.cI a):=(Tw.tQ a ha).cover fun r S ⟨ad,cap,h,ho⟩=>by subst h;exact n8 ho (dg Tw.fp _) (fun B h=>h)
structure cQ where
 r:List Vl
 ad:Option Addr
 cap:Nat
 S:List ag
def gR(o:cQ):List D:=[aS o.ad o.r.length o.cap]
theorem En(o:cQ):(gR o).length=1:=rfl
theorem Y8(o:cQ):(gR o).all V.one=true:=rfl
def bR(o:cQ):List ag:=o.S
def qh(o:cQ):Prop:=bF 36 3 (o.r.flatMap cV) o.r.length o.ad o.cap o.S
theorem IF{S:List ag}:∀{L:List cQ},(∀o∈L,qh o)->(∀B∈L.flatMap bR,B∈S)->iO S (L.flatMap gR) ((L.map cQ.r).flatMap eX)
 | [],_,_=>trivial
 | o::L,h,hs=>by
  rw[map_cons,flatMap_cons,flatMap_cons];refine iO.append ⟨n8 (h o mem_cons_self) (dg fX _) (fun B hB=>hs B ?_),trivial⟩ (IF (fun o ho=>h o (mem_cons_of_mem _ ho)) fun B hB=>hs B ?_)
  ·rw[flatMap_cons];exact mem_append_left _ hB
  rw[flatMap_cons];exact mem_append_right _ hB
abbrev vu(L:List cQ)(ad:Option Addr)(cap:Nat)(S:List ag):Prop:=bF 30 1 (L.flatMap gR) L.length ad cap S
structure bu where
 t:aA
 cs:List D
 ad:Option Addr
 cap:Nat
 sr:List ag
 sx:List ag
variable {o:bu}
def gT(o:bu):List D:=[aG o.t.nm,aj 2 cC o.t.an,aS o.ad o.t.rows.length o.cap,aj 5 cP o.t.ix.af,ae o.t.ix.root]
theorem xK(o:bu):(gT o).length=5:=rfl
theorem Y9(o:bu):(gT o).all V.one=true:=rfl
def bT(o:bu):List ag:=o.sr++o.sx
structure okW (o:bu):Prop where
 own:bF 30 1 o.cs o.t.rows.length o.ad o.cap o.sr
 anz:∀S:List ag,(∀B∈o.sx,B∈S)->iO S o.cs (o.t.rows.flatMap eX)
def sE(o:bu):Prop:=∃L:List cQ,o.cs=L.flatMap gR/\o.sx=L.flatMap bR/\(∀x∈L,qh x)/\L.map cQ.r=o.t.rows/\vu L o.ad o.cap o.sr
theorem sE.w(h:sE o):okW o:=by
 obtain⟨L,h1,h2,h3,h4,h5⟩:=h;refine⟨?_,fun S hS=>?_⟩
 ·rw[h1,<-h4,length_map];exact h5
 rw[h1,<-h4];exact IF h3 (by rw[<-h2];exact hS)
theorem Vc(h:okW o)(hs:∀B∈bT o,B∈S):View S (aS o.ad o.t.rows.length o.cap) (aj 1 eX o.t.rows) :=
 DG h.own (h.anz S fun B hB=>hs B (mem_append_right _ hB)) (dg kR _) (fun B hB=>hs B (mem_append_left _ hB))
theorem Yb(h:okW o)(hs:∀B∈bT o,B∈S):View S (.agg (gT o)) (.agg (cr o.t)):=xz ⟨fN,fN,Vc h hs,fN,fN,trivial⟩
theorem Yc{S:List ag}:∀{L:List bu},(∀o∈L,okW o)->(∀B∈L.flatMap bT,B∈S)->iO S (L.flatMap gT) ((L.map bu.t).flatMap cr)
 | [],_,_=>trivial
 | o::L,h,hs=>by
  rw[map_cons,flatMap_cons,flatMap_cons];refine iO.append ⟨fN,fN,Vc (h o mem_cons_self) (fun B hB=>hs B ?_),fN,fN,trivial⟩ (Yc (fun o ho=>h o (mem_cons_of_mem _ ho)) fun B hB=>hs B ?_)
  ·rw[flatMap_cons];exact mem_append_left _ hB
  rw[flatMap_cons];exact mem_append_right _ hB
abbrev Ao(L:List bu)(ad:Option Addr)(cap:Nat)(S:List ag):Prop:=bF 76 5 (L.flatMap gT) L.length ad cap S
theorem Oj{Sx:List ag}{L:List bu}{ad:Option Addr}{cap:Nat}(ho:Ao L ad cap Sx)(h:∀o∈L,okW o)(hs:∀B∈Sx++L.flatMap bT,B∈S):View S (aS ad L.length cap) (.list 5 ((L.map bu.t).flatMap cr) L.length) :=
 DG ho (Yc h fun B hB=>hs B (mem_append_right _ hB)) (by rw[dg j7,length_map]) (fun B hB=>hs B (mem_append_left _ hB))
def anA(t:aA)(r:D)(S:List ag):Prop:=∃o:bu,o.t=t/\r = .agg (gT o)/\sE o/\S=bT o
def Pu(l:List aA)(r:D)(S:List ag):Prop:=∃(L:List bu) (ad:Option Addr) (cap:Nat) (Sx:List ag),r = .agg [aS ad L.length cap]/\Ao L ad cap Sx/\(∀o∈L,sE o)/\L.map bu.t=l/\S=Sx++L.flatMap bT
theorem Pu.view{l:List aA}{r:D}(h:Pu l r S):View S r (.agg [aj 5 cr l]):=by
 obtain⟨L,ad,cap,Sx,rfl,ho,bf,rfl,rfl⟩:=h;first|rw[length_map]|(show View _ _ (.list _ _ (length _));rw[length_map])|(show View _ _ (.agg [.list _ _ (length _)]);rw[length_map])
 exact xz ⟨Oj ho (fun o h=>(bf o h).w) (fun B h=>h),trivial⟩
theorem Yd(L:List cQ)(o:cQ):(L++[o]).flatMap bR=L.flatMap bR++bR o:=by simp
theorem Ye(L:List bu)(o:bu):(L++[o]).flatMap bT=L.flatMap bT++bT o:=by simp
theorem af1:(Tryz.prog.info? 83).map (fun i=>(i.zero,i.size,i.bytes))=some (some (.slice none 0 0),1,24):=by kernel_rfl
theorem afr:(Tryz.prog.info? 165).map (fun i=>(i.zero,i.size,i.bytes))=some (some (.agg #[.bool false,.slice none 0 0,.slice none 0 0,.slice none 0 0,.int .i64 0]),5,88):=by kernel_rfl
theorem af2(t:aI)(h:Nat)(v:Valid t h):VC Tryz.prog G 102 [.agg (cT t)] [] (fun r S=>∃ad cap,r = .agg [aS ad t.af.length cap,ae t.root]/\bF 165 5 (t.af.flatMap cP) t.af.length ad cap S):=by
 refine bA func102 rfl ntmps102 aO fun X0 w0 bz=>?_;unfold Tw.cT;have dy:=ee;have SK:=v.qb;refine cq ?_;refine dm [_,_] (fun b1=>?_);refine cD (ds:=[_,_]) au rfl rfl zeroValue74 rfl (fun b2=>?_);refine ap 53 [1,2] ?_;refine az 3 ?_;refine cD (ds:=[_,_]) au rfl rfl zeroValue74 rfl (fun b3=>?_);refine aN 0 [_,_] sizeOf74 ?_;refine ap 53 [1,2,3] ?_;refine cq ?_;refine bL [2,3,13,14,15] ?_;refine eZ [2,3,13,14] (fun aU _ (aR:Nat×List dU×Option Addr×Nat×List ag) aE=>match aR with|(i,L,eJ,dW,Sx)=>(i<=t.af.length)/\(L=t.af.take i)/\(bF 165 5 ((L).flatMap cP) (L).length eJ dW Sx)/\aE=(⟨53,(15,ae (i:Nat))::aU,(⟨b3,74,2,[aS eJ (L).length dW,ae t.root]⟩::⟨b2,74,2,[aJ,ae 0]⟩::Sx)⟩:St)) (fun (aR:Nat×List dU×Option Addr×Nat×List ag)=>match aR with|(i,L,eJ,dW,Sx)=>t.af.length-i) (0,([]:List dU),none,0,[]) ⟨(Nat.zero_le _),rfl,(bF.cast jt lU),rfl⟩ ?_;rintro⟨i,L,eJ,dW,Sx⟩ _ ⟨hi,hL,eW,rfl⟩;refine ax [2,3,13,14,15,16] ?_ ?_<;>intro aP bH
 ·have aa:i<t.af.length:=(by omega)
  have sD:L.length=i:=(by rw[hL,length_take];omega)
  have po:=v.gB _ (getElem_mem aa);have kZ:=po.fm;have hhl:=po.hlen;have Jv:(t.af[i]'aa).kids.length<=6:=by
      exact aaM
  refine az 2 ?_;refine cD (ds:=[_,_,_,_,_]) au rfl rfl zeroValue165 rfl (fun b5=>?_);refine aN 0 [_,_,_,_,_] sizeOf165 ?_;refine ap 53 [2,3,5,13,14,15] ?_;refine cL ?_;refine vH 12 11 [2,3,5,6,13,14,15,29] ?_;refine cA (ahm (t.af[i]'aa).kids w4) ?_;refine cA (nY (t.af[i]'aa).high w4) ?_;refine oD 3 ?_;refine rj ?_;refine kN ?_;refine⟨rfl,fun b6=>?_⟩;refine aN 0 [_,_,_,_,_] sizeOf165 ?_;refine ap 53 [2,3,5,6,13,14,15] ?_;refine cq ?_;refine bL [2,3,6,13,14,15,31,32,33] ?_
  refine eZ [2,3,6,13,14,15,31,32] (fun aU _ (aR:Nat×List K×Option Addr×Nat×List ag×Option Addr×Nat×List ag) aE=>match aR with|(j,M,jC,jD,Sy,eJ,dW,Sx)=>(j<=(t.af[i]'aa).keys.length)/\(M=(t.af[i]'aa).keys.take j)/\(bF 83 1 ((M).flatMap Tw.cK) (M).length jC jD Sy)/\(bF 165 5 ((L).flatMap cP) (L).length eJ dW Sx)/\aE=(⟨53,(33,ae (j:Nat))::aU,(⟨b6,165,5,[aW (t.af[i]'aa).leaf,aS jC (M).length jD,.list 1 ((t.af[i]'aa).kids.flatMap Tw.cI) (t.af[i]'aa).kids.length,.list 1 ((t.af[i]'aa).high.flatMap cB) (t.af[i]'aa).high.length,ae (t.af[i]'aa).next]⟩::⟨b3,74,2,[aS eJ L.length dW,ae t.root]⟩::⟨b2,74,2,[aJ,ae 0]⟩::(Sy++Sx))⟩:St)) (fun (aR:Nat×List K×Option Addr×Nat×List ag×Option Addr×Nat×List ag)=>match aR with|(j,M,jC,jD,Sy,eJ,dW,Sx)=>(t.af[i]'aa).keys.length-j) (0,([]:List K),none,0,[],eJ,dW,Sx) ⟨(Nat.zero_le _),rfl,(bF.cast jt lU),(bF.cast eW lU),rfl⟩ ?_;rintro⟨j,M,jC,jD,Sy,eJ,dW,Sx⟩ _ ⟨hj,hM,Z,eW,rfl⟩;refine ax [2,3,6,13,14,15,31,32,33,34] ?_ ?_<;>intro bg cM
  ·have jz:j<(t.af[i]'aa).keys.length:=(by omega)
   have QF:=(po.nf _ (getElem_mem jz)).2;have yq:M.length=j:=(by rw[hM,length_take];omega)
   refine ay [2,3,6,8,13,14,15,31,32,33] ?_;refine iX 6 (aq (take 3 _)) ?_ (fun _ h=>(Sublist.map _ (take_sublist _ _)).subset h);refine iD [0,1,2] ?_;refine ew.later rfl ?_;refine bV (i:=3) aD ?_;refine sj call93 (nY (t.af[i]'aa).keys[j] w4) ?_;refine bV (i:=4) aD ?_;refine oZ (cU 0 [_]) [.slice none 0 0] [_] zeroValue83 runUnderlying163 sizeOf83 (fun yD=>?_);refine o8 0 41 1 1 ?_;refine bV (i:=5) aD ?_;refine rz (ls:=(M)) (new:=[(t.af[i]'aa).keys[j]]) (Sq:=Sy) Tw.iw Tw.rJ rfl au rfl rfl underlying163 af1 rfl w7 ot Z (qO (A:=[_,_,_])) ot bC x7 jk (fun O E aqm aqn=>?_);refine gS (lP (S1:=[⟨O,83,E*1,flatMap Tw.cK ((M)++[(t.af[i]'aa).keys[j]])⟩]) (A:=[_,_,_])) ?_;refine gd ?_;refine aF 1 ?_;refine aN 0 [_,_,_,_,_] sizeOf163 ?_;refine ap 53 [2,3,6,13,14,15,31,32,33] ?_;refine uK ?_;refine bL [2,3,6,13,14,15,31,32,33] ?_;refine⟨((j+1),(M++[(t.af[i]'aa).keys[j]]),(some ⟨O,0,none⟩),E,[⟨O,83,E*1,flatMap Tw.cK ((M)++[(t.af[i]'aa).keys[j]])⟩],eJ,dW,Sx),_,cR,aL,w4,(by rw[hM];exact sH jz),(bF.cast (cj aqm aqn) lU),(bF.cast eW lU),rfl⟩
  refine qm ?_;have hMk:M=(t.af[i]'aa).keys:=(by rw[hM,take_of_length_le w4])
  subst hMk;refine afc (i:=1) (j:=0) (Sq:=Sy) (S':=⟨b6,165,5,[aW (t.af[i]'aa).leaf,.list 1 ((t.af[i]'aa).keys.flatMap Tw.cK) (t.af[i]'aa).keys.length,.list 1 ((t.af[i]'aa).kids.flatMap Tw.cI) (t.af[i]'aa).kids.length,.list 1 ((t.af[i]'aa).high.flatMap cB) (t.af[i]'aa).high.length,ae (t.af[i]'aa).next]⟩::⟨b3,74,2,[aS eJ L.length dW,ae t.root]⟩::⟨b2,74,2,[aJ,ae 0]⟩::Sx) Z (dg Tw.iw _) (qO (A:=[_,_,_])) rfl rfl rfl rfl ?_;refine dB 3 ?_;refine eR (cU 0 [_]) [.bool false,.slice none 0 0,.slice none 0 0,.slice none 0 0,.int .i64 0] [_,_,_,_,_] zeroValue165 runUnderlying72 sizeOf165 (fun S6=>?_);refine gb 0 48 5 1 ?_;refine gi (ls:=(L)) (new:=[(t.af[i]'aa)]) (Sq:=Sx) I7 alV au rfl rfl underlying72 afr rfl w7 ot eW (dL (A:=[_,_,_])) ot bC pI pJ (fun U I aqo aqp=>?_);refine cg (eM (S1:=[⟨U,165,I*5,flatMap cP ((L)++[(t.af[i]'aa)])⟩]) (A:=[_,_,_])) ?_;refine aF 1 ?_;refine aN 1 [_,_] sizeOf72 ?_;refine ap 53 [2,3,13,14,15] ?_;refine bM [2,3,13,14,15] ?_;refine⟨((i+1),(L++[(t.af[i]'aa)]),(some ⟨U,0,none⟩),I,[⟨U,165,I*5,flatMap cP ((L)++[(t.af[i]'aa)])⟩]),_,cR,aL,w4,(by rw[hL];exact sH aa),(bF.cast (cj aqo aqp) lU),rfl⟩
 refine az 1 ?_;refine aN 1 [_,_] sizeOf74 ?_;refine eA 53 [2] Sx ?_;have hLe:L=t.af:=(by rw[hL,take_of_length_le w4])
 subst hLe;exact⟨eJ,dW,rfl,eW⟩
theorem af3(t:aI)(h:Nat)(v:Valid t h):VP Tryz.prog G 102 [.agg (cT t)] (.agg (cT t)):=(af2 t h v).cover fun r S ⟨ad,cap,h,ho⟩=>by subst h;exact xz ⟨n8 ho (dg I7 _) (fun B h=>h),fN,trivial⟩
structure B8 (t:aA):Prop where
 an:t.an.length<=1000
 rows:t.rows.length<=1000
 row:∀r∈t.rows,r.length<=1000
 ix:∃h,Valid t.ix h
theorem af4:(Tryz.prog.info? 30).map (fun i=>(i.zero,i.size,i.bytes))=some (some (.slice none 0 0),1,24):=by kernel_rfl
theorem I8(t:aA)(hs:B8 t):VC Tryz.prog G 62 [.agg (cr t)] [] (anA t):=by
 refine bA func62 rfl ntmps62 aO fun X0 w0 bz=>?_;unfold cr;have dy:=ee;have hc:=hs.an;have hn:=hs.rows;obtain⟨h,v⟩:=hs.ix;have O:=af3 (G:=G) t.ix h v;unfold Tw.cT at O;refine cq ?_;refine dm [_,_,_,_,_] (fun b1=>?_);refine cD (ds:=[_,_,_,_,_]) au rfl rfl zeroValue76 rfl (fun b2=>?_);refine ap 31 [1,2] ?_;refine cL ?_;refine vH 10 9 [1,2,3,14] ?_;refine cA (Vb t.an w4) ?_;refine cA (O) ?_;refine oD 1 ?_;refine rj ?_;refine kN ?_;refine⟨rfl,fun b3=>?_⟩;refine aN 0 [_,_,_,_,_] sizeOf76 ?_;refine ap 31 [1,2,3] ?_;refine ay [2,3,16,17,18] ?_;refine eZ [2,3,16,17] (fun aU _ (aR:Nat×List cQ×Option Addr×Nat×List ag) aE=>match aR with|(i,L,eJ,dW,Sx)=>(i<=t.rows.length)/\(L.map cQ.r=t.rows.take i)/\(∀o∈L,qh o)/\(vu L eJ dW Sx)/\aE=(⟨31,(18,ae (i:Nat))::aU,(⟨b3,76,5,[aG t.nm,aj 2 cC t.an,aS eJ L.length dW,aj 5 cP t.ix.af,ae t.ix.root]⟩::⟨b2,76,5,[dj,aJ,aJ,aJ,ae 0]⟩::(Sx++L.flatMap bR))⟩:St)) (fun (aR:Nat×List cQ×Option Addr×Nat×List ag)=>match aR with|(i,L,eJ,dW,Sx)=>t.rows.length-i) (0,([]:List cQ),none,0,[]) ⟨(Nat.zero_le _),rfl,(fun o h=>by cases h),jt,rfl⟩ ?_;rintro⟨i,L,eJ,dW,Sx⟩ _ ⟨hi,hL,bf,eW,rfl⟩;refine ax [2,3,16,17,18,19] ?_ ?_<;>intro aP bH
 ·have aa:i<t.rows.length:=(by omega)
  have sD:L.length=i:=(by have:=congrArg length hL;rw[length_map,length_take] at this;omega)
  have wZ:=hs.row _ (getElem_mem aa);refine ay [2,3,5,16,17,18] ?_;refine iX 6 (aq (take 2 _)) ?_ (fun _ h=>(Sublist.map _ (take_sublist _ _)).subset h);refine iD [0,1,2] ?_;refine ew.later rfl ?_;refine bV (i:=3) aD ?_;refine lq rfl au rfl rfl rfl call37 (Va (t.rows[i]'aa) w4) ⟨ot,trivial⟩ (fj _) (fun b hb=>by simp[aq,St.put] at hb |-;first|(simp[hb];done)|(rcases hb with hb|hb<;>simp[hb])|(rcases hb with hb|hb|hb<;>simp[hb])) ?_;rintro _ Sz ⟨nR,nS,rfl,S8⟩;refine gS (lP (A:=[_,_])) ?_;have yC:(L++[(⟨(t.rows[i]'aa),nR,nS,Sz⟩:cQ)]).map cQ.r=t.rows.take (i+1):=(by rw[map_append,hL];exact sH aa)
  have lH:∀o∈L++[(⟨(t.rows[i]'aa),nR,nS,Sz⟩:cQ)],qh o:=fun o ho=>by rcases mem_append.1 ho with ho|ho;exact bf o ho;rw[mem_singleton] at ho;subst ho;exact S8
  refine bV (i:=4) aD ?_;refine oZ (cU 0 [_]) [.slice none 0 0] [_] zeroValue30 runUnderlying46 sizeOf30 (fun b26=>?_);refine o8 0 26 1 1 ?_;refine bV (i:=5) aD ?_;refine rz (ls:=L) (new:=[(⟨(t.rows[i]'aa),nR,nS,Sz⟩:cQ)]) (Sq:=Sx) En Y8 rfl au rfl rfl underlying46 af4 rfl w7 ot eW (vT (A:=[_,_])) ot bC pI pJ (fun I E U Z=>?_);refine gS (ze (S2:=[⟨I,30,E*1,flatMap gR (L++[(⟨(t.rows[i]'aa),nR,nS,Sz⟩:cQ)])⟩]) (A:=[_,_])) ?_;refine gS (S':=⟨b3,76,5,[aG t.nm,aj 2 cC t.an,aS eJ L.length dW,aj 5 cP t.ix.af,ae t.ix.root]⟩::⟨b2,76,5,[dj,aJ,aJ,aJ,ae 0]⟩::([⟨I,30,E*1,flatMap gR (L++[(⟨(t.rows[i]'aa),nR,nS,Sz⟩:cQ)])⟩]++(L++[(⟨(t.rows[i]'aa),nR,nS,Sz⟩:cQ)]).flatMap bR)) (kS fun oq=>by rw[Yd];simp only[bR,map_append,map_cons,map_nil,sum_append,sum_cons,sum_nil];omega) ?_;refine gd ?_;refine aF 1 ?_;refine aN 0 [_,_,_,_,_] sizeOf46 ?_;refine ap 31 [2,3,16,17,18] ?_;refine bM [2,3,16,17,18] ?_;refine⟨((i+1),(L++[(⟨(t.rows[i]'aa),nR,nS,Sz⟩:cQ)]),(some ⟨I,0,none⟩),E,[⟨I,30,E*1,flatMap gR (L++[(⟨(t.rows[i]'aa),nR,nS,Sz⟩:cQ)])⟩]),_,cR,aL,w4,yC,lH,(cj U Z),rfl⟩
 refine az 1 ?_;refine aN 1 [_,_,_,_,_] sizeOf76 ?_;refine eA 31 [2] (Sx++L.flatMap bR) ?_;have tK:L.map cQ.r=t.rows:=(by rw[hL,take_of_length_le w4])
 have hLn:t.rows.length=L.length:=(by rw[<-tK];(first|rw[length_map]|(unfold aj;rw[length_map])))
 exact⟨⟨t,L.flatMap gR,eJ,dW,Sx,L.flatMap bR⟩,rfl,(by unfold gT;rw[hLn]),⟨L,rfl,rfl,bf,tK,eW⟩,rfl⟩
theorem af5:(Tryz.prog.info? 76).map (fun i=>(i.zero,i.size,i.bytes))=some (some (.agg #[.string ⟨#[]⟩,.slice none 0 0,.slice none 0 0,.slice none 0 0,.int .i64 0]),5,96):=by kernel_rfl
theorem Vd(l:List aA)(hl:l.length<=1000)(H:∀t∈l,B8 t):VC Tryz.prog G 38 [.agg [aj 5 cr l]] [] (Pu l):=by
 refine bA func38 rfl ntmps38 aO fun X0 w0 bz=>?_;have dy:=ee;refine cq ?_;refine dm [_] (fun b1=>?_);refine cD (ds:=[_]) au rfl rfl zeroValue25 rfl (fun b2=>?_);refine ap 22 [1,2] ?_;refine cq ?_;refine cD (ds:=[_]) au rfl rfl zeroValue25 rfl (fun b3=>?_);refine ap 22 [1,2,3] ?_;refine ay [2,3,7,8,9] ?_;refine eZ [2,3,7,8] (fun aU _ (aR:Nat×List bu×Option Addr×Nat×List ag) aE=>match aR with|(i,L,eJ,dW,Sx)=>(i<=l.length)/\(L.map bu.t=l.take i)/\(∀o∈L,sE o)/\(Ao L eJ dW Sx)/\aE=(⟨22,(9,ae (i:Nat))::aU,(⟨b3,25,1,[aS eJ L.length dW]⟩::⟨b2,25,1,[aJ]⟩::(Sx++L.flatMap bT))⟩:St)) (fun (aR:Nat×List bu×Option Addr×Nat×List ag)=>match aR with|(i,L,eJ,dW,Sx)=>l.length-i) (0,([]:List bu),none,0,[]) ⟨(Nat.zero_le _),rfl,(fun o h=>by cases h),jt,rfl⟩ ?_;rintro⟨i,L,eJ,dW,Sx⟩ _ ⟨hi,hL,bf,eW,rfl⟩;refine ax [2,3,7,8,9,10] ?_ ?_<;>intro aP bH
 ·have aa:i<l.length:=(by omega)
  have sD:L.length=i:=(by have:=congrArg length hL;rw[length_map,length_take] at this;omega)
  refine az 2 ?_;refine cD (ds:=[_,_,_,_,_]) au rfl rfl zeroValue76 rfl (fun b5=>?_);refine aN 0 [_,_,_,_,_] sizeOf76 ?_;refine ap 22 [2,3,5,7,8,9] ?_;refine iX 6 (aq (take 3 _)) ?_ (fun _ h=>(Sublist.map _ (take_sublist _ _)).subset h);refine iD [0,1] ?_;refine cm 2 rfl (ez (mk:=Op.load 76) rfl ot (by first|exact rD (k:=0) (ds:=[_,_,_,_,_]) rfl rfl isAgg76 sizeOf76 rfl rfl|exact jM j7 isAgg76 sizeOf76 w5|exact jM xK isAgg76 sizeOf76 w5|exact dM (k:=0) j7 rfl rfl rfl isAgg76 sizeOf76 w5|exact dM (k:=1) j7 rfl rfl rfl isAgg76 sizeOf76 w5|exact dM (k:=2) j7 rfl rfl rfl isAgg76 sizeOf76 w5|exact dM (k:=0) xK rfl rfl rfl isAgg76 sizeOf76 w5|exact dM (k:=1) xK rfl rfl rfl isAgg76 sizeOf76 w5|exact dM (k:=2) xK rfl rfl rfl isAgg76 sizeOf76 w5|exact rL (ds:=[_,_,_,_,_]) isAgg76 sizeOf76 rfl rfl)) ?_;refine ew.later rfl ?_;refine bV (i:=3) aD ?_;refine lq rfl au rfl rfl rfl call62 (I8 (l[i]'aa) (H _ (getElem_mem aa))) ⟨ot,trivial⟩ (fj _) (fun b hb=>by simp[aq,St.put] at hb |-;first|(simp[hb];done)|(rcases hb with hb|hb<;>simp[hb])|(rcases hb with hb|hb|hb<;>simp[hb])) ?_;rintro _ _ ⟨o,Ro,rfl,Z,rfl⟩;refine gS (lP (A:=[_,_,_])) ?_;have yC:(L++[o]).map bu.t=l.take (i+1):=(by rw[map_append,hL,map_cons,map_nil,Ro];exact sH aa)
  have lH:∀x∈L++[o],sE x:=fun x hx=>by rcases mem_append.1 hx with hx|hx;exact bf x hx;rw[mem_singleton] at hx;subst hx;exact Z
  refine bV (i:=4) aD ?_;refine oZ (cU 0 [_]) [.string ⟨#[]⟩,.slice none 0 0,.slice none 0 0,.slice none 0 0,.int .i64 0] [_,_,_,_,_] zeroValue76 runUnderlying23 sizeOf76 (fun b17=>?_);refine o8 0 17 5 1 ?_;refine bV (i:=5) aD ?_;refine rz (ls:=L) (new:=[o]) (Sq:=Sx) xK Y9 rfl au rfl rfl underlying23 af5 rfl w7 ot eW (vT (A:=[_,_,_])) ot bC pI pJ (fun I E O U=>?_);refine gS (ze (S2:=[⟨I,76,E*5,flatMap gT (L++[o])⟩]) (A:=[_,_,_])) ?_;have hpz:(bT o++(([⟨I,76,E*5,flatMap gT (L++[o])⟩]:List ag)++L.flatMap bT)).Perm (([⟨I,76,E*5,flatMap gT (L++[o])⟩]:List ag)++(L++[o]).flatMap bT):=(kS fun oq=>by rw[Ye];simp only[map_append,map_cons,map_nil,sum_append,sum_cons,sum_nil];omega)
  refine gS (Perm.cons _ (Perm.cons _ (Perm.cons _ hpz))) ?_;refine gd ?_;refine aF 1 ?_;refine aN 1 [_] sizeOf23 ?_;refine ap 22 [2,3,7,8,9] ?_;refine bM [2,3,7,8,9] ?_;refine⟨((i+1),(L++[o]),(some ⟨I,0,none⟩),E,[⟨I,76,E*5,flatMap gT (L++[o])⟩]),_,cR,aL,w4,yC,lH,(cj O U),rfl⟩
 refine az 1 ?_;refine aN 1 [_] sizeOf25 ?_;refine eA 22 [2] (Sx++L.flatMap bT) ?_;have tK:L.map bu.t=l:=(by rw[hL,take_of_length_le w4])
 exact⟨L,eJ,dW,Sx,rfl,eW,bf,tK,rfl⟩
theorem ahn(l:List aA)(hl:l.length<=1000)(H:∀t∈l,B8 t):VP Tryz.prog G 38 [.agg [aj 5 cr l]] (.agg [aj 5 cr l]):=(Vd l hl H).cover fun r S hr=>hr.view
structure dN (t:aA) (n:Nat):Prop where
 nm:dH t.nm=0
 an:t.an=cx
 fm:t.rows.length<=40
 ix:jg t.ix n
 row:∀i (h:i<t.rows.length),t.rows[i]≠[]->Pc.dV cx t.rows[i]=0/\(∀v∈t.rows[i],v.Ok)/\(de t.rows[i],(i:Int))∈er t.ix
 jA:∀x∈er t.ix,0<=x.2/\∃h:x.2.toNat<t.rows.length,t.rows[x.2.toNat]≠[]/\x.1=de t.rows[x.2.toNat]
theorem qu{r:List Vl}(h:Pc.dV cx r=0):r.length=4:=by
 unfold Pc.dV at h;rw[if_neg wA] at h;split at h
 ·cases h
 rename_i h2;exact Decidable.not_not.1 h2
theorem dN.len(g:dN t n){r:List Vl}(hr:r∈t.rows):r=[]\/(r.length=4/\∀v∈r,v.Ok):=by
 obtain⟨i,hi,rfl⟩:=mem_iff_getElem.1 hr;rcases Classical.em (t.rows[i]=[]) with h|h
 ·exact .inl h
 exact .inr ⟨qu (g.row i hi h).1,(g.row i hi h).2.1⟩
theorem dN.small(g:dN t n):B8 t :=
 ⟨by rw[g.an];decide,Nat.le_trans g.fm w7,fun r hr=>by rcases g.len hr with h|h;rw[h];exact Nat.zero_le _;omega,_,g.ix.val⟩
def rowAt(t:aA)(i:Int):List Vl:=t.rows.getD i.toNat []
theorem ju{i:Int}(h:i.toNat<t.rows.length):rowAt t i=t.rows[i.toNat]:=by unfold rowAt;rw[getD_eq_getElem?_getD,getElem?_eq_getElem h];rfl
def oU(t:aA)(w:List aQ):List Int->List (K×Int)->List Int×Int
 | acc,[]=>(acc,0)
 | acc,x::r=>if 0<w.length then (if (gl t.an (rowAt t x.2) w).2≠0 then ([],(gl t.an (rowAt t x.2) w).2) else if (gl t.an (rowAt t x.2) w).1.n≠1 then oU t w acc r else oU t w (acc++[x.2]) r) else oU t w (acc++[x.2]) r
noncomputable def av(t:aA)(w:List aQ):List Int×Int:=if (eG t.an w).2≠0 then ([],(eG t.an w).2) else oU t w [] (jF t.ix (eG t.an w).1.1 (eG t.an w).1.2)
def FE(p:List Int×Int)(r:D)(S:List ag):Prop:=∃ad cap,r = .dF [aS ad p.1.length cap,ae p.2]/\bF 3 1 (p.1.flatMap Tw.cI) p.1.length ad cap S
theorem FE.view{r:D}(h:FE p r S):View S r (.dF [aj 1 Tw.cI p.1,ae p.2]):=by
 obtain⟨ad,cap,rfl,ho⟩:=h;exact HV ⟨n8 ho (dg Tw.fp _) (fun B h=>h),fN,trivial⟩
theorem FE.flat{r:D}(h:FE p r S):mE r=true/\∀B∈S,∀d∈B.cs,mE d=true:=by
 obtain⟨ad,cap,rfl,ho⟩:=h;refine⟨rfl,fun B hB d hd=>?_⟩;rcases ho with ⟨_,_,_,_,rfl⟩|⟨b,_,_,_,rfl⟩
 ·cases hB
 rw[mem_singleton] at hB;subst hB;obtain⟨n,_,hn⟩:=mem_flatMap.1 hd;rw[Tw.cI,mem_singleton] at hn;subst hn;rfl
theorem BF{t:aI}{f u:K}:∀x∈jF t f u,x∈er t:=fun x hx=>by
 unfold jF xV at hx;have h1:=(takeWhile_sublist _).subset hx;unfold l6 at h1;exact(mem_filter.1 h1).1
theorem DO{t:aI}(g:jg t n)(f u:K):(jF t f u).length<=16000:=by
 unfold jF xV;exact Nat.le_trans (takeWhile_sublist _).length_le (WB g.val f)
theorem Yf(l:List Vl):(fS l).1.length<=100:=by
 unfold fS;repeat' split
 all_goals first|exact Nat.zero_le _|(simp only;omega)
def Sm(b:lY):Prop:=b.1.length<=100/\b.2.length<=100
theorem Yg{key:ByteArray}{ops:List aQ}{no:Bool}{b:lY}(h:Sm b):Sm (kY key ops no b):=by
 have hk:(Ab ops).length<=100:=Yf _;have hl:∀b,Sm b->Sm (pE (Ab ops) b):=fun b h=>by unfold pE;split;exact⟨hk,h.2⟩;exact h
 have E:∀b,Sm b->Sm (sW (Ab ops) b):=fun b h=>by unfold sW;split;exact⟨h.1,hk⟩;exact h
 unfold kY;split
 ·exact h
 split
 ·exact h
 unfold pC;cases(kx ops (ops.length-1)==6||(dD (lQ key) (ops.take 2)==0)!=no)<;>cases(kx ops (ops.length-1)==6||(dD (lQ key) (ops.take 2)==0)==no)<;>first|exact h|exact hl _ h|exact E _ h|exact E _ (hl _ h)
theorem ON{key:ByteArray}:∀(f:Nat) (ops:List aQ) (b:lY),Sm b->Sm (gI key f ops b)
 | 0,_,_,h=>h
 | f+1,ops,b,h=>by
  unfold gI;split
  ·exact ON f _ _ (ON f _ _ h)
  split
  ·exact Yg h
  exact Yg h
theorem Za(l:List dc)(ops:List aQ):Sm (eG l ops).1:=by
 have h0:Sm (([],[]):lY):=⟨Nat.zero_le _,Nat.zero_le _⟩
 unfold eG;repeat' split
 all_goals first|exact h0|exact ON _ _ _ h0
theorem Ve:(Tryz.prog.info? 3).map (fun i=>(i.zero,i.size,i.bytes))=some (some (.int .i64 0),1,8):=by kernel_rfl
theorem OO(hm:(3,marksC)∈G)(hw:(1,wordsC)∈G)(ht:(0,typesC)∈G)(hG:(2,[Value.int .i64 m])∈G)(t:aA)(g:dN t n)(w:List aQ)(ho:∀o∈w,o.nm.size<=maxLen)(gM:∀o∈w,o.v.Ok):VC Tryz.prog G 106 [.agg (cr t),aj 5 cO w] [] (FE (av t w)):=by
 refine bA func106 rfl ntmps106 aO fun X0 w0 bz=>?_;have O:=Za t.an w;have pL:=Mq (G:=G) hm hw ht hG t.an uu vB w ho gM;unfold Gw at pL;have dy:=ee;have oX:=OL (G:=G) g.ix (eG t.an w).1.1 (eG t.an w).1.2 O.1 O.2;unfold Tw.cT at oX;have kZ:=DO g.ix (eG t.an w).1.1 (eG t.an w).1.2;generalize hL:(jF t.ix (eG t.an w).1.1 (eG t.an w).1.2)=L at *;unfold cr;have U:∀x∈L,x∈er t.ix:=fun x hx=>BF x (hL ▸ hx);refine cq ?_;refine dm [_,_,_,_,_] (fun b2=>?_);refine ap 70 [1,2] ?_;refine cW [1,2,6,7,8] (pL) ?_;refine ax [1,2,6,7,8,25] ?_ ?_<;>intro aP bH
 ·have hne:(eG t.an w).2≠0:=(by simpa using aP)
  have aZ:av t w=([],(eG t.an w).2):=if_pos hne;refine dS [4,5] [] ?_;rw[aZ];exact⟨none,0,rfl,jt⟩
 have hz:(eG t.an w).2=0:=(by simpa using aP)
 have I:av t w=oU t w [] (L.drop 0):=(by unfold av;rw[if_neg (by simp[hz]),hL,drop_zero])
 refine cW [1,2,9] (oX) ?_;refine cq ?_;refine bL [1,2,9,11] ?_;refine ay [1,2,11,35,36,37] ?_;refine eZ [1,2,35,36] (fun aU _ (aR:Nat×List Int×Option Addr×Nat×List ag) aE=>match aR with|(k,acc,eJ,dW,Sx)=>(k<=L.length)/\((acc).length<=k)/\(av t w=oU t w acc (L.drop k))/\(bF 3 1 ((acc).flatMap Tw.cI) (acc).length eJ dW Sx)/\aE=(⟨70,(11,aS eJ (acc).length dW)::(37,ae (k:Nat))::aU,(⟨b2,76,5,[aG t.nm,aj 2 cC t.an,aj 1 eX t.rows,aj 5 cP t.ix.af,ae t.ix.root]⟩::Sx)⟩:St)) (fun (aR:Nat×List Int×Option Addr×Nat×List ag)=>match aR with|(k,acc,eJ,dW,Sx)=>L.length-k) (0,([]:List Int),none,0,[]) ⟨(Nat.zero_le _),(Nat.zero_le _),I,(bF.cast jt lU),rfl⟩ ?_;rintro⟨k,acc,eJ,dW,Sx⟩ _ ⟨hk,qW,aZ,eW,rfl⟩;refine ax [1,2,11,35,36,37,38] ?_ ?_<;>intro bg cM
 ·have aa:k<L.length:=(by omega)
  obtain⟨iU,eY,mq,CX⟩:=g.jA _ (U _ (getElem_mem aa));have ni:=ju (t:=t) eY;have iG:L.drop k=(L[k]'aa)::L.drop (k+1):=drop_eq_getElem_cons aa;have Z:=(g.row _ eY mq).2.1;have FR:=qu (g.row _ eY mq).1;refine az 2 ?_;refine cD (ds:=[_,_]) au rfl rfl zeroValue99 rfl (fun nQ=>?_);refine aN 0 [_,_] sizeOf99 ?_;refine ap 70 [1,2,11,13,35,36,37] ?_;refine ax [1,2,11,13,35,36,37,43] ?_ ?_<;>intro cl di
  ·have E:0<w.length:=(by omega)
   have k8:=XS (G:=G) hm hw ht t.an uu vB (t.rows[(L[k]'aa).2.toNat]) w4 Z w ho gM;rw[<-ni] at k8;unfold ph at k8;rw[ni] at k8;refine cL ?_;refine vH 14 13 [1,2,11,13,14,35,36,37,55,56] ?_;refine aM 6 ?_ (h:=by exact(ei 1 (h:=by first|exact .l (j:=(L[k]'aa).2.toNat) (Int.toNat_of_nonneg iU).symm eY|exact .r (j:=(L[k]'aa).2.toNat) (Int.toNat_of_nonneg iU).symm eY)));refine cA (k8) ?_;refine oD 3 ?_;refine rj ?_;refine kN ?_;refine⟨rfl,fun yM=>?_⟩;refine aN 0 [_,_,_] sizeOf36 ?_;refine ap 70 [1,2,11,13,14,15,35,36,37] ?_;refine ax [1,2,11,13,14,15,35,36,37,58] ?_ ?_<;>intro da eP
   ·have hne:(gl t.an (rowAt t (L[k]'aa).2) w).2≠0:=(by rw[ni];simpa using da)
    have lG:av t w=([],(gl t.an (rowAt t (L[k]'aa).2) w).2):=(by rw[aZ,iG,oU,if_pos E,if_pos hne])
    rw[ni] at lG;refine dS [4,5] [] ?_;rw[lG];exact⟨none,0,rfl,jt⟩
   have hne:¬(gl t.an (rowAt t (L[k]'aa).2) w).2≠0:=(by rw[ni];simpa using da)
   refine ax [1,2,11,13,35,36,37,62] ?_ ?_<;>intro eo fR
   ·have dQ:(gl t.an (rowAt t (L[k]'aa).2) w).1.n≠1:=(by rw[ni];simpa using eo)
    have kM:av t w=oU t w acc (L.drop (k+1)):=(by rw[aZ,iG,oU,if_pos E,if_neg hne,if_pos dQ])
    refine bM [1,2,11,35,36,37] ?_;refine⟨((k+1),acc,eJ,dW,Sx),_,cR,aL,w4,w4,kM,(bF.cast eW lU),rfl⟩
   have dQ:¬(gl t.an (rowAt t (L[k]'aa).2) w).1.n≠1:=(by rw[ni];simpa using eo)
   have kM:av t w=oU t w (acc++[(L[k]'aa).2]) (L.drop (k+1)):=(by rw[aZ,iG,oU,if_pos E,if_neg hne,if_neg dQ])
   refine dB 3 ?_;refine eR (cU 0 [_]) [.int .i64 0] [_] zeroValue3 runUnderlying27 sizeOf3 (fun ru=>?_);refine gb 0 66 1 1 ?_;refine gi (ls:=(acc)) (new:=[(L[k]'aa).2]) (Sq:=Sx) Tw.fp Tw.pV au rfl rfl underlying27 Ve rfl w7 ot eW (dL (A:=[_,_,_])) ot bC pI pJ (fun tq uy JQ JR=>?_);refine cg (eM (S1:=[⟨tq,3,uy*1,flatMap Tw.cI ((acc)++[(L[k]'aa).2])⟩]) (A:=[_,_,_])) ?_;exact z90
  have E:¬0<w.length:=(by omega)
  have kM:av t w=oU t w (acc++[(L[k]'aa).2]) (L.drop (k+1)):=(by rw[aZ,iG,oU,if_neg E])
  refine dB 3 ?_;refine eR (cU 0 [_]) [.int .i64 0] [_] zeroValue3 runUnderlying27 sizeOf3 (fun ru=>?_);refine gb 0 66 1 1 ?_;refine gi (ls:=(acc)) (new:=[(L[k]'aa).2]) (Sq:=Sx) Tw.fp Tw.pV au rfl rfl underlying27 Ve rfl w7 ot eW (dL (A:=[_,_])) ot bC pI pJ (fun tq uy JQ JR=>?_);refine cg (eM (S1:=[⟨tq,3,uy*1,flatMap Tw.cI ((acc)++[(L[k]'aa).2])⟩]) (A:=[_,_])) ?_;exact z90
 have lG:av t w=(acc,0):=(by rw[aZ,drop_of_length_le w4];rfl)
 refine dS [4,5] Sx ?_;rw[lG];exact⟨eJ,dW,rfl,eW⟩
end Ba
namespace So
open Go.Proofs.Tryz
variable {α:Type} {R:α->α->Prop} {l L M X Y:List α} {x y:α} {k:Nat}
theorem Mb(ht:∀{x y z:α},R x y->R y z->R x z)(hs:L.Pairwise R)(hk:k<=L.length)(h:k=0\/∃h:k-1<L.length,R (L[k-1]) x):∀z∈L.take k,R z x:=by
 intro z hz;obtain⟨i,hi,rfl⟩:=mem_iff_getElem.1 hz;rw[length_take] at hi;rw[getElem_take];rcases h with rfl|⟨h1,h2⟩
 ·omega
 rcases Nat.lt_or_ge i (k-1) with h3|h3
 ·exact ht (pairwise_iff_getElem.1 hs i (k-1) w4 h1 h3) h2
 have:i=k-1:=(by omega)
 subst this;exact h2
theorem LO(ht:∀{x y z:α},R x y->R y z->R x z)(hs:L.Pairwise R)(h:k=L.length\/∃h:k<L.length,R x (L[k])):∀z∈L.drop k,R x z:=by
 intro z hz;obtain⟨i,hi,rfl⟩:=mem_iff_getElem.1 hz;rw[length_drop] at hi;rw[getElem_drop];rcases h with rfl|⟨h1,h2⟩
 ·omega
 rcases Nat.eq_zero_or_pos i with rfl|h3
 ·simpa using h2
 exact ht h2 (pairwise_iff_getElem.1 hs k (k+i) h1 w4 w4)
theorem ai8(hs:(X++Y).Pairwise R)(h1:∀z∈X,R z x)(h2:∀z∈Y,R x z):(X++x::Y).Pairwise R:=by
 rw[pairwise_append] at hs |-;obtain⟨p1,p2,p3⟩:=hs;refine⟨p1,pairwise_cons.2 ⟨h2,p2⟩,fun a ha b hb=>?_⟩;rcases mem_cons.1 hb with rfl|hb
 ·exact h1 a ha
 exact p3 a ha b hb
theorem Yh(ht:∀{x y z:α},R x y->R y z->R x z)(hs:L.Pairwise R)(hk:k<=L.length)(h1:k=0\/∃h:k-1<L.length,R (L[k-1]) x)(h2:k=L.length\/∃h:k<L.length,R x (L[k])):(L.take k++x::L.drop k).Pairwise R :=
 ai8 (by rw[take_append_drop];exact hs) (Mb ht hs hk h1) (LO ht hs h2)
theorem aho (ht:∀{x y z:α},R x y->R y z->R x z) {A B:List α} {i j:Nat} (ha:A.Pairwise R) (hb:B.Pairwise R) (hi:i<=A.length) (hj:j<=B.length)
  (h1:i=0\/j=B.length\/∃(p:i-1<A.length) (q:j<B.length),R A[i-1] B[j]) (h2:j=0\/i=A.length\/∃(p:j-1<B.length) (q:i<A.length),R B[j-1] A[i]) :
  ∀a∈A.take i++B.take j,∀b∈A.drop i++B.drop j,R a b:=by
 have E:∀a∈A.take i,∀b∈A.drop i,R a b:=(by rw[<-take_append_drop i A] at ha;exact(pairwise_append.1 ha).2.2)
 have I:∀a∈B.take j,∀b∈B.drop j,R a b:=(by rw[<-take_append_drop j B] at hb;exact(pairwise_append.1 hb).2.2)
 intro a hm b hn;rcases mem_append.1 hm with hm|hm<;>rcases mem_append.1 hn with hn|hn
 ·exact E a hm b hn
 ·rcases h1 with rfl|rfl|⟨p,q,hr⟩
  ·simp at hm
  ·simp at hn
  exact Mb (R:=R) ht ha hi (.inr ⟨p,by
   rcases LO (R:=R) ht hb (k:=j) (x:=A[i-1]) (.inr ⟨q,hr⟩) b hn with h
   exact h⟩) a hm
 ·rcases h2 with rfl|rfl|⟨p,q,hr⟩
  ·simp at hm
  ·simp at hn
  exact Mb (R:=R) ht hb hj (.inr ⟨p,LO (R:=R) ht ha (k:=i) (x:=B[j-1]) (.inr ⟨q,hr⟩) b hn⟩) a hm
 exact I a hm b hn
theorem ME{l1 l2:List α}:((l1++x::y::l2).set l1.length y).set (l1.length+1) x=l1++y::x::l2:=by
 rw[set_append_right _ _ (Nat.le_refl _),Nat.sub_self,set_cons_zero,set_append_right _ _ w4,show l1.length+1-l1.length=1 by omega,set_cons_succ,set_cons_zero]
def sw(l:List Int)(i j:Nat):List Int:=(l.set i (l.getD j 0)).set j (l.getD i 0)
theorem al9{l:List Int}{i j:Nat}:(sw l i j).length=l.length:=by unfold sw;simp
theorem oJ{l:List Int}{i:Nat}(h:i<l.length):l.getD i 0=l[i]:=by simp[h]
def lM(l:List Int)(a b:Nat):Nat->List Int
 | 0=>l
 | k+1=>sw (lM l a b k) (a+k) (b+k)
theorem Ei{l:List Int}{a b:Nat}:∀{k:Nat},(lM l a b k).length=l.length
 | 0=>rfl
 | k+1=>by rw[lM,al9,Ei]
theorem Yi{l:List Int}{a b:Nat}:∀{k:Nat},a+k<=b->b+k<=l.length->∀j,(lM l a b k)[j]?=if a<=j/\j<a+k then l[b+(j-a)]? else if b<=j/\j<b+k then l[a+(j-b)]? else l[j]?
 | 0,_,_,j=>by rw[if_neg w4,if_neg w4];try rfl
 | k+1,h1,h2,j=>by
  have ih:=Yi (l:=l) (a:=a) (b:=b) (k:=k) w4 w4;have e1:(lM l a b k).getD (b+k) 0=l.getD (b+k) 0:=(by rw[getD_eq_getElem?_getD,ih,if_neg w4,if_neg w4,getD_eq_getElem?_getD])
  have e2:(lM l a b k).getD (a+k) 0=l.getD (a+k) 0:=(by rw[getD_eq_getElem?_getD,ih,if_neg w4,if_neg w4,getD_eq_getElem?_getD])
  rw[lM,sw,e1,e2,getElem?_set,getElem?_set,length_set,Ei,ih];by_cases q1:b+k=j
  ·subst q1;rw[if_pos rfl,if_pos w4,if_neg w4,if_pos w4,oJ w4,show a+(b+k-b)=a+k by omega,getElem?_eq_getElem w4]
  rw[if_neg q1];by_cases q2:a+k=j
  ·subst q2;rw[if_pos rfl,if_pos w4,if_pos w4,oJ w4,show b+(a+k-a)=b+k by omega,getElem?_eq_getElem w4]
  rw[if_neg q2];simp only[show(a<=j/\j<a+(k+1))↔(a<=j/\j<a+k) by omega,show(b<=j/\j<b+(k+1))↔(b<=j/\j<b+k) by omega]
theorem N5{P U M W Q:List Int}(h:U.length=W.length):lM (P++(U++(M++(W++Q)))) P.length (P.length+U.length+M.length) U.length=P++(W++(M++(U++Q))):=by
 refine ext_getElem? fun j=>?_;rw[Yi w4 (by simp only[length_append];omega)];simp only[getElem?_append];repeat' split
 all_goals first|omega|(congr 1<;>omega)
def uO(T cur:List Int)(m i j:Nat):Prop:=∃P X Y Q,cur=P++(X++(Y++Q))/\X.length=i/\Y.length=j/\P.length+i=m/\T=P++(Y++(X++Q))
variable {T cur:List Int} {m i j:Nat}
theorem uO.len(h:uO T cur m i j):i<=m/\m+j<=cur.length/\T.length=cur.length:=by
 obtain⟨P,X,Y,Q,rfl,rfl,rfl,hm,rfl⟩:=h;simp only[length_append];omega
theorem ama(h:uO T cur m i j)(E:j<i):uO T (lM cur (m-i) m j) m (i-j) j:=by
 obtain⟨P,X,Y,Q,rfl,rfl,rfl,hm,rfl⟩:=h;have l1:(X.take Y.length).length=Y.length:=(by rw[length_take];omega)
 have l2:(X.drop Y.length).length=X.length-Y.length:=length_drop;have e:=N5 (P:=P) (U:=X.take Y.length) (M:=X.drop Y.length) (W:=Y) (Q:=Q) l1;rw[l1,l2,<-append_assoc (X.take _) (X.drop _),take_append_drop,show P.length+Y.length+(X.length-Y.length)=m by omega,show P.length=m-X.length by omega] at e;exact⟨P++Y,X.drop Y.length,X.take Y.length,Q,by rw[e];simp,l2,l1,by rw[length_append];omega,by rw[<-append_assoc (X.take _) (X.drop _),take_append_drop];simp⟩
theorem amb(h:uO T cur m i j)(E:i<j):uO T (lM cur (m-i) (m+j-i) i) m i (j-i):=by
 obtain⟨P,X,Y,Q,rfl,rfl,rfl,hm,rfl⟩:=h;have l1:(Y.take (Y.length-X.length)).length=Y.length-X.length:=(by rw[length_take];omega)
 have l2:(Y.drop (Y.length-X.length)).length=X.length:=(by rw[length_drop];omega)
 have e:=N5 (P:=P) (U:=X) (M:=Y.take (Y.length-X.length)) (W:=Y.drop (Y.length-X.length)) (Q:=Q) l2.symm;rw[l1,<-append_assoc (Y.take _) (Y.drop _),take_append_drop,show P.length+X.length+(Y.length-X.length)=m+Y.length-X.length by omega,show P.length=m-X.length by omega] at e;exact⟨P,Y.drop (Y.length-X.length),Y.take (Y.length-X.length),X++Q,e,l2,l1,hm,by rw[<-append_assoc (Y.take _) (Y.drop _),take_append_drop]⟩
theorem amc(h:uO T cur m i i):lM cur (m-i) m i=T:=by
 obtain⟨P,X,Y,Q,rfl,rfl,hl,hm,rfl⟩:=h;have e:=N5 (P:=P) (U:=X) (M:=[]) (W:=Y) (Q:=Q) hl.symm;rw[length_nil,Nat.add_zero,show P.length+X.length=m by omega,show P.length=m-X.length by omega] at e;simpa using e
end So
namespace So
open Go.Proofs.Tryz
open Go.RowKit V Tw
variable {G:List (Nat×List Value)}
theorem N6(l:List Int)(E la lb k cap I:Nat)(fg:D)(Sc:List ag)(iv:l.length=E)(h1:la+k<=lb)(h2:lb+k<=E)(h3:E<=cap)(h4:cap<=maxLen):VC Tryz.prog G 199 [aS (some ⟨I,0,none⟩) E cap,ae (la:Nat),ae (lb:Nat),ae (k:Nat),fg] (⟨I,3,cap*1,(l).flatMap cI⟩::Sc) (fun r S'=>r = .dF []/\S'=⟨I,3,cap*1,(lM l la lb k).flatMap cI⟩::Sc):=by
 refine bA func199 rfl ntmps199 aO fun X0 w0 bz=>?_;have dy:=ee;refine ay [0,1,2,3,10] ?_;refine eZ [0,1,2,3] (fun aU _ (i:Nat) aE=>(i<=k)/\aE=(⟨38,(10,ae (i:Nat))::aU,(⟨I,3,cap*1,(lM l la lb i).flatMap cI⟩::Sc)⟩:St)) (fun (i:Nat)=>k-i) 0 ⟨(Nat.zero_le _),rfl⟩ ?_;rintro i _ ⟨hi,rfl⟩;refine ax [0,1,2,3,10,13] ?_ ?_<;>intro aP bH
 ·have O:i<k:=(by omega)
  have hlen:(lM l la lb i).length=E:=(by rw[Ei,iv])
  have ha:la+i<(lM l la lb i).length:=(by omega)
  have hb:lb+i<(lM l la lb i).length:=(by omega)
  refine eI ?_;refine cL ?_;refine kU ?_;refine iX 22 (aq (eraseIdx _ 0)) ?_ (fun _ h=>(Sublist.map _ (eraseIdx_sublist _ 0)).subset h);refine iD [0,1,2,3,4,5,6,7,8,9,10,11,12,14,15,16,17,18] ?_;refine ew.later rfl ?_;refine mC (i:=13) (j:=19) aD ?_ ?_
  ·refine at_ rfl gD ?_;refine bV (i:=19) aD ?_;exact z51
  refine at_ rfl gD ?_;refine bV (i:=13) aD ?_;exact z51
 obtain rfl:i=k:=(by omega)
 refine eD _ ?_;exact⟨by first|rfl|(simp[*];done),rfl⟩
theorem amd(l Z:List Int)(O a m b cap U:Nat)(fg:D)(Sc:List ag)(h:uO Z l m (m-a) (b-m))(h1:a<m)(h2:m<b)(iv:l.length=O)(E:O<=cap)(I:cap<=maxLen):VC Tryz.prog G 188 [aS (some ⟨U,0,none⟩) O cap,ae (a:Nat),ae (m:Nat),ae (b:Nat),fg] (⟨U,3,cap*1,(l).flatMap cI⟩::Sc) (fun r S'=>r = .dF []/\S'=⟨U,3,cap*1,(Z).flatMap cI⟩::Sc):=by
 refine bA func188 rfl ntmps188 aO fun X0 w0 bz=>?_;have dy:=ee;have hlen:=h.len;refine cJ [0,2,3,4,10] ?_;refine aM 2 ?_ (h:=by exact(eE rfl ot ot (je (r:=((m-a:Nat):Int)) tc)));refine bB ?_;refine cJ [0,2,4,10,11] ?_;refine aM 2 ?_ (h:=by exact(eE rfl ot ot (je (r:=((b-m:Nat):Int)) tc)));refine bB ?_;refine eZ [0,2,4] (fun aU _ (aR:Nat×Nat×List Int) aE=>match aR with|(i,j,cur)=>(uO Z cur m i j)/\(0<i)/\(0<j)/\((cur).length=O)/\aE=(⟨58,(10,ae (i:Nat))::(11,ae (j:Nat))::aU,(⟨U,3,cap*1,(cur).flatMap cI⟩::Sc)⟩:St)) (fun (aR:Nat×Nat×List Int)=>match aR with|(i,j,cur)=>i+j) ((m-a),(b-m),l) ⟨h,w4,w4,iv,rfl⟩ ?_;rintro⟨i,j,cur⟩ _ ⟨hr,hi,hj,fP,rfl⟩;refine ax [0,2,4,10,11,20] ?_ ?_<;>intro aP bH
 ·have wZ:=hr.len;have hne:i≠j:=(by omega)
  refine ax [0,2,4,10,11,23] ?_ ?_<;>intro bg cM
  ·have qf:j<i:=(by omega)
   refine az 3 ?_;refine bS (eE rfl ot ot (je (r:=((m-i:Nat):Int)) tc)) ?_;refine aF 3 ?_;refine eH (R:=Sc) au rfl rfl rfl call199 (N6 cur O (m-i) m j cap U fg [] fP w4 w4 E I) ⟨ot,ot,ot,ot,ot,trivial⟩ (Perm.refl _) ?_;rintro _ _ ⟨rfl,rfl⟩;refine ap 58 [0,2,4,10,11] ?_;refine fW [0,2,4,10,11] ?_;refine aM 2 ?_ (h:=by exact(eE rfl ot ot (je (r:=((i-j:Nat):Int)) tc)));refine bB ?_;refine⟨((i-j),j,(lM cur (m-i) m j)),_,cR,aL,(ama hr qf),w4,hj,(by rw[Ei];exact fP),rfl⟩
  have aa:i<j:=(by omega)
  refine az 3 ?_;refine bS (eE rfl ot ot (je (r:=((m-i:Nat):Int)) tc)) ?_;refine aF 4 ?_;refine bS (eE rfl ot ot (je (r:=((m+j-i:Nat):Int)) (by rw[show((m:Int)+j-i)=((m+j-i:Nat):Int) by omega];exact wrap_i64 w4 w4))) ?_;refine aF 2 ?_;refine eH (R:=Sc) au rfl rfl rfl call199 (N6 cur O (m-i) (m+j-i) i cap U fg [] fP w4 w4 E I) ⟨ot,ot,ot,ot,ot,trivial⟩ (Perm.refl _) ?_;rintro _ _ ⟨rfl,rfl⟩;refine ap 58 [0,2,4,10,11] ?_;refine fW [0,2,4,10,11] ?_;refine aM 2 ?_ (h:=by exact(eE rfl ot ot (je (r:=((j-i:Nat):Int)) tc)));refine bB ?_;refine⟨(i,(j-i),(lM cur (m-i) (m+j-i) i)),_,cR,aL,(amb hr aa),hi,w4,(by rw[Ei];exact fP),rfl⟩
 have wZ:=hr.len;obtain rfl:i=j:=(by omega)
 have he:=amc hr;refine dB 3 ?_;refine bS (eE rfl ot ot (je (r:=((m-i:Nat):Int)) tc)) ?_;refine aF 3 ?_;refine eH (R:=Sc) au rfl rfl rfl call199 (N6 cur O (m-i) m i cap U fg [] fP w4 w4 E I) ⟨ot,ot,ot,ot,ot,trivial⟩ (Perm.refl _) ?_;rintro _ _ ⟨rfl,rfl⟩;refine ap 58 [] ?_;refine eD _ ?_;exact⟨rfl,by rw[he];rfl⟩
end So
namespace So
open Go.Proofs.Tryz
variable {x y:Int} {Z S:List Int} {cF:Int->Int->Int}
def qJ(R:Int->Int->Prop)(l0 l:List Int)(a i:Nat):Prop :=
 ∃(P A B A0:List Int),l=P++(A++B)/\P.length=a/\a+A.length=i/\A.Pairwise R/\A.Perm A0/\l0=P++(A0++B)
def vv(R:Int->Int->Prop)(l0 l:List Int)(a i j:Nat):Prop :=
 ∃(P A:List Int) (x:Int) (B A0:List Int) (k:Nat),l=P++(A.take k++x::(A.drop k++B))/\P.length=a/\k<=A.length/\a+k=j/\a+A.length=i/\A.Pairwise R/\(k=A.length\/∃h:k<A.length,R x A[k])/\A.Perm A0/\l0=P++(A0++x::B)
variable {R Lt:Int->Int->Prop} {l0 l:List Int} {a i j:Nat}
theorem vv.len(h:vv R l0 l a i j):a<=j/\j<=i/\i<l.length/\l.length=l0.length:=by
 obtain⟨P,A,x,B,E,k,rfl,rfl,hk,rfl,rfl,hs,hx,hp,rfl⟩:=h;have:=hp.length_eq;simp only[length_append,length_cons,length_take,length_drop];omega
theorem M5(h:a<=l.length):qJ R l l a a :=
 ⟨l.take a,[],l.drop a,[],by simp,by rw[length_take];omega,by simp,Pairwise.nil,.refl _,by simp⟩
theorem akG(h:a<l.length):qJ R l l a (a+1) :=
 ⟨l.take a,[l[a]],l.drop (a+1),[l[a]],by simp,by rw[length_take];omega,by simp,pairwise_singleton _ _,.refl _,by simp⟩
theorem ahp(h:qJ R l0 l a i)(hi:i<l.length):vv R l0 l a i i:=by
 obtain⟨P,A,B,E,rfl,rfl,rfl,hs,hp,rfl⟩:=h;cases B with
 | nil=>simp at hi
 | cons x B=>exact⟨P,A,x,B,E,A.length,by simp,rfl,Nat.le_refl _,rfl,rfl,hs,.inl rfl,hp,rfl⟩
theorem IG{P A B:List Int}{k:Nat}(hk:k<A.length):P++(A.take (k+1)++x::(A.drop (k+1)++B))=(P++A.take k)++A[k]::x::(A.drop (k+1)++B):=by
 rw[take_succ_eq_append_getElem hk];simp only[append_assoc,singleton_append]
theorem GX(n:Nat)(hn:n=Z.length)(h:n<(Z++y::S).length):(Z++y::S)[n]'h=y:=by subst hn;simp
theorem GY(n:Nat)(hn:n=Z.length+1)(h:n<(Z++y::x::S).length):(Z++y::x::S)[n]'h=x:=by subst hn;simp[getElem_append_right]
theorem agh(h:vv R l0 l a i j)(hj:a<j)(h1:j<l.length)(h0:j-1<l.length)(hr:R l[j] l[j-1]):vv R l0 ((l.set j l[j-1]).set (j-1) l[j]) a i (j-1):=by
 obtain⟨P,A,x,B,E,k,rfl,rfl,hk,rfl,rfl,hs,hx,hp,rfl⟩:=h;obtain⟨k,rfl⟩:∃m,k=m+1:=⟨k-1,by omega⟩
 have e:=IG (P:=P) (B:=B) (x:=x) hk;have hl:(P++A.take k).length=P.length+k:=(by rw[length_append,length_take];omega)
 simp only[e] at hr |-;rw[GX (P.length+(k+1)-1) w4,GY (P.length+(k+1)) w4] at hr |-;refine⟨P,A,x,B,E,k,?_,rfl,by omega,by omega,rfl,hs,.inr ⟨hk,hr⟩,hp,rfl⟩;rw[set_comm _ _ w4,show P.length+(k+1)-1=(P++A.take k).length by omega,show P.length+(k+1)=(P++A.take k).length+1 by omega,ME];rw[show A.drop k=A[k]::A.drop (k+1) from drop_eq_getElem_cons hk];simp only[append_assoc,cons_append]
theorem ahT(ht:∀{x y z:Int},R x y->R y z->R x z)(h:vv R l0 l a i j)(h1:j<l.length)(h0:j-1<l.length)(hr:j=a\/R l[j-1] l[j]):qJ R l0 l a (i+1):=by
 obtain⟨P,A,x,B,E,k,rfl,rfl,hk,rfl,rfl,hs,hx,hp,rfl⟩:=h;refine⟨P,A.take k++x::A.drop k,B,E++[x],by simp,rfl,by simp;omega,Yh ht hs hk ?_ hx,?_,by simp⟩
 ·rcases Nat.eq_zero_or_pos k with rfl|hp
  ·exact .inl rfl
  right;obtain⟨k,rfl⟩:∃m,k=m+1:=⟨k-1,by omega⟩
  refine⟨by omega,?_⟩;rcases hr with hr|hr
  ·omega
  have e:=IG (P:=P) (B:=B) (x:=x) hk;have hl:(P++A.take k).length=P.length+k:=(by rw[length_append,length_take];omega)
  simp only[e] at hr;rw[GX (P.length+(k+1)-1) w4,GY (P.length+(k+1)) w4] at hr;exact hr
 refine List.perm_middle.trans ?_;rw[take_append_drop];exact(Perm.cons x hp).trans (perm_append_singleton x E).symm
theorem ajB(h:vv R l0 l a i j)(hj:a<j)(h1:j<l.length)(h0:j-1<l.length)(hq:(l0.drop a).Pairwise Lt):Lt l[j-1] l[j]:=by
 obtain⟨P,A,x,B,E,k,rfl,rfl,hk,rfl,rfl,hs,hx,hp,rfl⟩:=h;obtain⟨k,rfl⟩:∃m,k=m+1:=⟨k-1,by omega⟩
 have e:=IG (P:=P) (B:=B) (x:=x) hk;have hl:(P++A.take k).length=P.length+k:=(by rw[length_append,length_take];omega)
 simp only[e];rw[GX (P.length+(k+1)-1) w4,GY (P.length+(k+1)) w4];rw[drop_left' rfl,pairwise_append] at hq;exact hq.2.2 _ (hp.subset (getElem_mem hk)) x (mem_cons_self)
theorem vv.perm(h:vv R l0 l a i j):l.Perm l0:=by
 obtain⟨P,A,x,B,E,k,rfl,rfl,hk,rfl,rfl,hs,hx,hp,rfl⟩:=h;refine(perm_append_left_iff P).2 (List.perm_middle.trans ?_);rw[<-append_assoc,take_append_drop];exact(Perm.cons x ((perm_append_right_iff B).2 hp)).trans List.perm_middle.symm
def Rc(cF:Int->Int->Int)(Lt:Int->Int->Prop)(x y:Int):Prop:=cF x y<0\/cF x y=0/\Lt x y
theorem Io(h:cF y x<0):Rc cF Lt y x:=.inl h
theorem IU(ha:∀x y,0<=cF y x->cF x y<=0)(E:Lt x y)(h:¬cF y x<0):Rc cF Lt x y:=by
 have:=ha x y w4;unfold Rc;rcases Int.lt_or_eq_of_le this with q|q
 ·exact .inl q
 exact .inr ⟨q,E⟩
def Part(R:Int->Int->Prop)(l0 l:List Int)(a b:Nat):Prop:=∃(P M M0 Q:List Int),l=P++(M++Q)/\l0=P++(M0++Q)/\P.length=a/\a+M.length=b/\M.Perm M0/\M.Pairwise R
theorem qJ.part{b:Nat}(h:qJ R l0 l a b):Part R l0 l a b:=by
 obtain⟨P,A,B,E,h1,h2,h3,hs,hp,h4⟩:=h;exact⟨P,A,E,B,h1,h4,h2,h3,hp,hs⟩
end So
namespace So
open Go.Proofs.Tryz
open Go.RowKit V Tw
variable {G:List (Nat×List Value)}
theorem Zb(l:List Int)(O a b cap Z fc:Nat)(I:List D)(U:List ag)(cF:Int->Int->Int)(V:Int->Prop)(Lt:Int->Int->Prop)(hV:∀x∈l,V x)(hc:∀x y,V x->V y->VC Tryz.prog G fc ([ae x,ae y]++I) U (fun r S'=>r=ae (cF x y)/\S'=U))(yj:∀args w,(callFunc fc args).run Tryz.prog w = .ok (.enter fc args) w)(ht:∀{x y z:Int},Rc cF Lt x y->Rc cF Lt y z->Rc cF Lt x z)(ha:∀x y,0<=cF y x->cF x y<=0)(hq:(l.drop a).Pairwise Lt)(h1:a<=b)(h2:b<=O)(iv:l.length=O)(uD:O<=cap)(uC:cap<=maxLen)(awh:O<maxLen):VC Tryz.prog G 170 [aS (some ⟨Z,0,none⟩) O cap,ae (a:Nat),ae (b:Nat),.fg (.func fc) I] (⟨Z,3,cap*1,(l).flatMap cI⟩::U) (fun r S'=>r = .dF []/\∃lz,Part (Rc cF Lt) l lz a b/\S'=⟨Z,3,cap*1,(lz).flatMap cI⟩::U):=by
 refine bA func170 rfl ntmps170 aO fun X0 w0 bz=>?_;have dy:=ee;refine ay [0,1,2,3,8] ?_;refine eZ [0,1,2,3] (fun aU _ (aR:Nat×List Int) aE=>match aR with|(i,cur)=>((i<=b->qJ (Rc cF Lt) l cur a i))/\(a<i)/\((a<b->i<=b))/\((a=b->cur=l))/\((cur).length=O)/\aE=(⟨53,(8,ae (i:Nat))::aU,(⟨Z,3,cap*1,(cur).flatMap cI⟩::U)⟩:St)) (fun (aR:Nat×List Int)=>match aR with|(i,cur)=>b-i) ((a+1),l) ⟨(fun q=>akG w4),(Nat.lt_succ_self _),(fun q=>q),(fun _=>rfl),iv,rfl⟩ ?_;rintro⟨i,cur⟩ _ ⟨hs,hai,hib,tE,fP,rfl⟩;refine ax [0,1,2,3,8,14] ?_ ?_<;>intro aP bH
 ·have aa:i<b:=(by omega)
  refine ay [0,1,2,3,8,9] ?_;refine eZ [0,1,2,3,8] (fun aU _ (aR:Nat×List Int) aE=>match aR with|(j,nl)=>(vv (Rc cF Lt) l nl a i j)/\((nl).length=O)/\aE=(⟨53,(9,ae (j:Nat))::aU,(⟨Z,3,cap*1,(nl).flatMap cI⟩::U)⟩:St)) (fun (aR:Nat×List Int)=>match aR with|(j,nl)=>j) (i,cur) ⟨(ahp (hs w4) w4),fP,rfl⟩ ?_;rintro⟨j,nl⟩ _ ⟨hj,Cu,rfl⟩;have jz:=hj.len;have rh:j<nl.length:=(by omega)
  have td:j-1<nl.length:=(by omega)
  refine cL ?_;refine cL ?_;refine iX 14 (aq (take 1 _)) ?_ (fun _ h=>(Sublist.map _ (take_sublist _ _)).subset h);refine cm 0 rfl eV ?_;refine cm 1 rfl eV ?_;refine cm 2 rfl AE ?_;refine cm 3 rfl eV ?_;refine ew.split (t:=21) lk (fun s8=>?_) (fun s8=>?_)
  ·have E:=s8;(try simp only[V.ox,ne_eq] at E)
   refine cm 4 rfl eV ?_;refine cm 5 rfl eV ?_;refine cm 6 rfl eV ?_;refine cm 7 rfl (ei 1 (h:=PP)) ?_;refine cm 8 rfl gD ?_;refine cm 9 rfl eV ?_;refine cm 10 rfl eV ?_;refine cm 11 rfl (eE rfl ot bP (je (r:=((j-1:Nat):Int)) (by rw[show((j:Int)-1)=((j-1:Nat):Int) by have Gu:=of_decide_eq_true s8;omega];exact wrap_i64 (by have Gu:=of_decide_eq_true s8;omega) w4))) ?_;refine cm 12 rfl (ei 1 (h:=by first|exact .l (j:=j-1) rfl w4|exact .r (j:=j-1) rfl w4)) ?_;refine cm 13 rfl gD ?_;refine ew.later rfl ?_;refine gd ?_;have hvj:∀x∈nl,V x:=fun x hx=>hV x (hj.perm.subset hx);refine nB (f:=fc) (args:=[_,_]) (Sf:=U) jq rfl rfl ot yj (hc _ _ (hvj _ (getElem_mem rh)) (hvj _ (getElem_mem td))) rfl ⟨ot,ot,trivial⟩ (perm_append_singleton _ _).symm ?_;rintro _ S2 ⟨rfl,gY⟩;rw[gY];clear gY;refine cg (perm_append_singleton _ _) ?_;refine ap 53 [0,1,2,3,8,9,34] ?_;refine bX ?_ ?_<;>intro bg cM
   ·have hja:a<j:=(by have q:=of_decide_eq_true s8;omega)
    have amB:cF (nl[j]'rh) (nl[j-1]'td)<0:=cM;refine eI ?_;refine cL ?_;refine kU ?_;refine iX 16 (aq (eraseIdx _ 0)) ?_ (fun _ h=>(Sublist.map _ (eraseIdx_sublist _ 0)).subset h);refine cm 0 rfl eV ?_;refine cm 1 rfl eV ?_;refine cm 2 rfl eV ?_;refine cm 3 rfl eV ?_;refine cm 4 rfl (eE rfl ot bP (je (r:=((j-1:Nat):Int)) PG)) ?_;refine cm 5 rfl eV ?_;refine cm 6 rfl eV ?_;refine cm 7 rfl (eE rfl ot bP (je (r:=((j-1:Nat):Int)) PG)) ?_;refine cm 8 rfl (ei 1 (h:=by first|exact .l (j:=j-1) rfl w4|exact .r (j:=j-1) rfl w4)) ?_;refine cm 10 rfl eV ?_;refine cm 11 rfl eV ?_;refine cm 12 rfl (ei 1 (h:=PP)) ?_;refine ew.later rfl ?_;refine mC (i:=9) (j:=13) aD ?_ ?_
    ·refine at_ rfl gD ?_;refine bV (i:=13) aD ?_;exact z39
    refine at_ rfl gD ?_;refine bV (i:=9) aD ?_;exact z39
   exact z80
  have E:=s8;(try simp only[V.ox,ne_eq] at E)
  refine ou 4 rfl ?_;refine ou 5 rfl ?_;refine ou 6 rfl ?_;refine ou 7 rfl ?_;refine ou 8 rfl ?_;refine ou 9 rfl ?_;refine ou 10 rfl ?_;refine ou 11 rfl ?_;refine ou 12 rfl ?_;refine ou 13 rfl ?_;refine ew.later rfl ?_;refine gd ?_;refine bL [0,1,2,3,8,9,34] ?_;refine gK ?_;exact z80
 have lG:qJ (Rc cF Lt) l cur a b:=(Nat.eq_or_lt_of_le h1).elim (fun q=>by subst q;rw[tE rfl];exact M5 w4) (fun q=>(show i=b by omega) ▸ hs w4);refine eD _ ?_;exact⟨rfl,_,lG.part,rfl⟩
end So
namespace So
open Go.Proofs.Tryz
variable {i:Nat}
def Mv(P B Q:List Int)(x:Int)(t:Nat):List Int:=P++(B.take t++x::(B.drop t++Q))
variable {P B Q:List Int} {x:Int} {t:Nat}
theorem I9(h:t<=B.length):(Mv P B Q x t).length=P.length+(B.length+1+Q.length):=by
 unfold Mv;simp only[length_append,length_cons,length_take,length_drop];omega
theorem II(h:t<B.length):Mv P B Q x t=(P++B.take t)++x::B[t]::(B.drop (t+1)++Q):=by
 unfold Mv;rw[drop_eq_getElem_cons h];simp only[append_assoc,cons_append]
theorem IJ(h:t<B.length):Mv P B Q x (t+1)=(P++B.take t)++B[t]::x::(B.drop (t+1)++Q):=IG h
theorem Cm(h:t<B.length):(P++B.take t).length=P.length+t:=by rw[length_append,length_take];omega
theorem ame(h:t<B.length)(h0:P.length+t<(Mv P B Q x t).length):(Mv P B Q x t)[P.length+t]=x:=by
 simp only[II h];rw[GX _ (Cm h).symm]
theorem akH(h:t<B.length)(h0:P.length+t+1<(Mv P B Q x t).length):(Mv P B Q x t)[P.length+t+1]=B[t]:=by
 simp only[II h];rw[GY _ (by rw[Cm h])]
theorem ai9(h:t<B.length):((Mv P B Q x t).set (P.length+t) B[t]).set (P.length+t+1) x=Mv P B Q x (t+1):=by
 rw[II h,IJ h,<-Cm (P:=P) h,ME]
theorem akI(h:t<B.length):((Mv P B Q x (t+1)).set (P.length+t+1) B[t]).set (P.length+t) x=Mv P B Q x t:=by
 rw[II h,IJ h,<-Cm (P:=P) h,set_comm _ _ w4,ME]
variable {R Lt:Int->Int->Prop} {l l1 l2 l3:List Int} {a s m e b mid:Nat}
theorem Yj(ht:∀{x y z:Int},R x y->R y z->R x z){P B Q:List Int}{x:Int}{s t:Nat}(hB:B.Pairwise R)(hs:s<=B.length)(hk:t<=B.length)(h1:t=0\/∃h:t-1<B.length,R B[t-1] x)(h2:t=B.length\/∃h:t<B.length,R x B[t]) :
  Part R (Mv P B Q x s) (Mv P B Q x t) P.length (P.length+(B.length+1)):=by
 have hp:∀t,(B.take t++x::B.drop t).Perm (x::B):=fun t=>List.perm_middle.trans (by rw[take_append_drop]);refine⟨P,B.take t++x::B.drop t,B.take s++x::B.drop s,Q,by unfold Mv;simp,by unfold Mv;simp,rfl,?_,(hp t).trans (hp s).symm,Yh ht hB hk h1 h2⟩;have:=(hp t).length_eq;simp only[length_cons] at this;rw[this]
def sF(R Lt:Int->Int->Prop)(l:List Int)(a m b:Nat):Prop:=∃(P A B Q:List Int),l=P++(A++(B++Q))/\P.length=a/\a+A.length=m/\m+B.length=b/\A.Pairwise R/\B.Pairwise R/\∀x∈A,∀y∈B,Lt x y
theorem sF.len(h:sF R Lt l a m b):a<=m/\m<=b/\b<=l.length:=by
 obtain⟨P,A,B,Q,rfl,rfl,rfl,rfl,_⟩:=h;simp only[length_append];omega
theorem sF.lt(h:sF R Lt l a m b){j:Nat}(h1:a<=i)(h2:i<m)(h3:m<=j)(h4:j<b)(hi:i<l.length)(hj:j<l.length):Lt l[i] l[j]:=by
 obtain⟨P,A,B,Q,rfl,rfl,rfl,rfl,_,_,h⟩:=h;refine h _ ?_ _ ?_
 ·rw[getElem_append_right h1,getElem_append_left w4];exact getElem_mem _
 rw[getElem_append_right w4,getElem_append_right w4,getElem_append_left w4];exact getElem_mem _
theorem Vf{P M Q:List Int}(h:M.Pairwise R):Part R (P++(M++Q)) (P++(M++Q)) P.length (P.length+M.length):=⟨P,M,M,Q,rfl,rfl,rfl,rfl,.refl _,h⟩
theorem WM{P E Q:List Int}{x y:Nat}(h:Part R (P++(E++Q)) l x y)(hx:x=P.length)(hy:y=P.length+E.length):∃M,l=P++(M++Q)/\M.Perm E/\M.Pairwise R:=by
 obtain⟨P',M,U,Q',h1,h2,h3,h4,h5,h6⟩:=h;have hl:=h5.length_eq;obtain⟨e1,e2⟩:=append_inj h2 w4;obtain⟨I,O⟩:=append_inj e2 w4;subst e1 I O;exact⟨M,h1,h5,h6⟩
def wN(R Lt:Int->Int->Prop)(l l1:List Int)(a s m e b mid:Nat):Prop:=∃(P A1 A2 B1 B2 Q:List Int),l=P++(A1++(A2++(B1++(B2++Q))))/\l1=P++(A1++(B1++(A2++(B2++Q))))/\P.length=a/\a+A1.length=s/\s+A2.length=m/\m+B1.length=e/\e+B2.length=b/\s+B1.length=mid /\
 A1.Pairwise R/\A2.Pairwise R/\B1.Pairwise R/\B2.Pairwise R/\(∀x∈A1,∀y∈B1,Lt x y)/\(∀x∈A2,∀y∈B2,Lt x y)/\∀x∈A1++B1,∀y∈A2++B2,R x y
theorem akJ (ht:∀{x y z:Int},R x y->R y z->R x z) (h:sF R Lt l a m b) (h1:a<=s) (h2:s<=m) (h3:m<=e) (h4:e<=b) (hm:s+(e-m)=mid)
  (k1:s=a\/e=b\/∃(p:s-1<l.length) (q:e<l.length),R l[s-1] l[e]) (k2:e=m\/s=m\/∃(p:e-1<l.length) (q:s<l.length),R l[e-1] l[s]):∃l1,wN R Lt l l1 a s m e b mid/\uO l1 l m (m-s) (e-m):=by
 obtain⟨P,A,B,Q,rfl,rfl,rfl,rfl,hA,hB,aa⟩:=h;obtain⟨i,rfl⟩:∃i,s=P.length+i:=⟨s-P.length,by omega⟩
 obtain⟨j,rfl⟩:∃j,e=P.length+A.length+j:=⟨e-(P.length+A.length),by omega⟩
 have E:∀k (h:k<A.length) (q:P.length+k<(P++(A++(B++Q))).length),(P++(A++(B++Q)))[P.length+k]=A[k]:=fun k h q=>by
  rw[getElem_append_right w4,getElem_append_left w4];simp
 have I:∀k (h:k<B.length) (q:P.length+A.length+k<(P++(A++(B++Q))).length),(P++(A++(B++Q)))[P.length+A.length+k]=B[k]:=fun k h q=>by
  rw[getElem_append_right w4,getElem_append_right w4,getElem_append_left w4];congr 1;omega
 have hc:=aho (R:=R) ht hA hB (i:=i) (j:=j) w4 w4 (by
  rcases Nat.eq_zero_or_pos i with q|q
  ·exact .inl q
  rcases k1 with k1|k1|⟨p1,p2,k1⟩
  ·omega
  ·exact .inr (.inl w4)
  ·rcases Nat.lt_or_ge j B.length with q2|q2
   ·refine .inr (.inr ⟨by omega,q2,?_⟩);have e1:=E (i-1) w4 w4;simp only[show P.length+i-1=P.length+(i-1) by omega] at k1;rw[e1,I j q2] at k1;exact k1
   exact .inr (.inl w4)) (by
  rcases Nat.eq_zero_or_pos j with q|q
  ·exact .inl q
  rcases k2 with k2|k2|⟨p1,p2,k2⟩
  ·omega
  ·exact .inr (.inl w4)
  rcases Nat.lt_or_ge i A.length with q2|q2
  ·refine .inr (.inr ⟨by omega,q2,?_⟩);have e1:=I (j-1) w4 w4;simp only[show P.length+A.length+j-1=P.length+A.length+(j-1) by omega] at k2;rw[e1,E i q2] at k2;exact k2
  exact .inr (.inl w4))
 have la1:(A.take i).length=i:=(by rw[length_take];omega)
 have lb1:(B.take j).length=j:=(by rw[length_take];omega)
 have la2:(A.drop i).length=A.length-i:=length_drop;have lb2:(B.drop j).length=B.length-j:=length_drop;have O:A.take i++A.drop i=A:=take_append_drop ..;have U:B.take j++B.drop j=B:=take_append_drop ..;have Z:(A.take i++A.drop i).Pairwise R:=(by rw[O];exact hA)
 have pb:(B.take j++B.drop j).Pairwise R:=(by rw[U];exact hB)
 have ea:A++(B++Q)=A.take i++(A.drop i++(B.take j++(B.drop j++Q))):=(by rw[<-append_assoc (A.take i),O,<-append_assoc (B.take j),U])
 refine⟨P++(A.take i++(B.take j++(A.drop i++(B.drop j++Q)))),⟨P,A.take i,A.drop i,B.take j,B.drop j,Q,by rw[ea],rfl,rfl,by omega,by omega,by omega,by omega,by omega,(pairwise_append.1 Z).1,(pairwise_append.1 Z).2.1,(pairwise_append.1 pb).1,(pairwise_append.1 pb).2.1,fun x hx y hy=>aa x (mem_of_mem_take hx) y (mem_of_mem_take hy),fun x hx y hy=>aa x (mem_of_mem_drop hx) y (mem_of_mem_drop hy),hc⟩,
  P++A.take i,A.drop i,B.take j,B.drop j++Q,by rw[ea];simp,by omega,by omega,by rw[length_append];omega,by simp⟩
theorem wN.perm(h:wN R Lt l l1 a s m e b mid):l1.Perm l:=by
 obtain⟨P,E,I,O,B2,Q,rfl,rfl,_⟩:=h;refine Perm.append_left P (Perm.append_left E ?_);rw[<-append_assoc O,<-append_assoc I];exact List.perm_append_comm.append_right _
theorem akK(h:wN R Lt l l1 a s m e b mid):sF R Lt l1 a s mid:=by
 obtain⟨P,E,I,O,B2,Q,rfl,rfl,e1,e2,Z,e4,e5,U,p1,p2,p3,p4,q1,q2,q3⟩:=h;exact⟨P,E,O,I++(B2++Q),rfl,e1,e2,U,p1,p3,q1⟩
theorem WN(h:wN R Lt l l1 a s m e b mid)(hn:¬(a<s/\s<mid)):Part R l1 l1 a mid:=by
 obtain⟨P,E,O,I,B2,Q,rfl,rfl,rfl,e2,U,Z,e5,e6,p1,p2,p3,p4,q1,q2,q3⟩:=h;have:(E++I).Pairwise R:=by
  rcases Nat.eq_zero_or_pos E.length with h|h
  ·rw[length_eq_zero_iff.1 h];exact p3
  rw[length_eq_zero_iff.1 (show I.length=0 by omega),append_nil];exact p1
 have:=Vf (P:=P) (Q:=O++(B2++Q)) this;rw[append_assoc,length_append] at this;rwa [show P.length+(E.length+I.length)=mid by omega] at this
theorem N7(h:wN R Lt l l1 a s m e b mid)(k:Part R l1 l2 a mid):∃(P I E O B2 Q M:List Int),l=P++(I++(E++(O++(B2++Q))))/\l2=P++(M++(E++(B2++Q)))/\P.length=a/\M.length+a=mid/\M.Perm (I++O)/\mid+E.length=e/\e+B2.length=b/\M.Pairwise R/\E.Pairwise R/\B2.Pairwise R/\(∀x∈E,∀y∈B2,Lt x y)/\∀x∈M,∀y∈E++B2,R x y:=by
 obtain⟨P,I,E,O,B2,Q,rfl,rfl,rfl,e2,Z,e4,e5,e6,p1,p2,p3,U,q1,q2,q3⟩:=h;rw[<-append_assoc I] at k;obtain⟨M,h1,h2,h3⟩:=WM k rfl yy;have:=h2.length_eq;rw[length_append] at this;exact⟨P,I,E,O,B2,Q,M,rfl,h1,rfl,by omega,h2,by omega,by omega,h3,p2,U,q2,fun x hx=>q3 x (h2.subset hx)⟩
theorem aja(h:wN R Lt l l1 a s m e b mid)(k:Part R l1 l2 a mid):sF R Lt l2 mid e b:=by
 obtain⟨P,I,E,O,B2,Q,M,rfl,rfl,rfl,e1,e2,U,Z,p1,p2,p3,q1,q2⟩:=N7 h k;exact⟨P++M,E,B2,Q,by simp,by rw[length_append];omega,by omega,by omega,p2,p3,q1⟩
theorem Up(h:wN R Lt l l1 a s m e b mid)(k:Part R l1 l2 a mid)(hn:¬(mid<e/\e<b)):Part R l2 l2 mid b:=by
 obtain⟨P,I,E,O,B2,Q,M,rfl,rfl,rfl,e1,e2,U,Z,p1,p2,p3,q1,q2⟩:=N7 h k;have:(E++B2).Pairwise R:=by
  rcases Nat.eq_zero_or_pos E.length with h|h
  ·rw[length_eq_zero_iff.1 h];exact p3
  rw[length_eq_zero_iff.1 (show B2.length=0 by omega),append_nil];exact p2
 have:=Vf (P:=P++M) (Q:=Q) this;rw[append_assoc,length_append,length_append,append_assoc] at this;rwa [show P.length+M.length+(E.length+B2.length)=b by omega,show P.length+M.length=mid by omega] at this
theorem Ir(h:wN R Lt l l1 a s m e b mid)(k:Part R l1 l2 a mid)(j:Part R l2 l3 mid b):Part R l l3 a b:=by
 obtain⟨P,E,I,O,B2,Q,M,rfl,rfl,rfl,e1,e2,Z,e4,p1,p2,p3,q1,q2⟩:=N7 h k;rw[<-append_assoc I,<-append_assoc P] at j;obtain⟨U,h1,h2,h3⟩:=WM j yy (by rw[length_append,length_append];omega);have hl:=e2.length_eq;have hU:=h2.length_eq;rw[length_append] at hl hU;refine⟨P,M++U,E++(I++(O++B2)),Q,by rw[h1];simp,by simp,rfl,by rw[length_append];omega,?_,pairwise_append.2 ⟨p1,h3,fun x hx y hy=>q2 x hx y (h2.subset hy)⟩⟩;refine(e2.append h2).trans ?_;rw[append_assoc E];refine Perm.append_left E ?_;rw[<-append_assoc O,<-append_assoc I];exact List.perm_append_comm.append_right B2
theorem Part.perm(h:Part R l l1 a b):l1.Perm l:=by
 obtain⟨P,M,E,Q,rfl,rfl,_,_,hp,_⟩:=h;exact(hp.append_right Q).append_left P
theorem Part.len(h:Part R l l1 a b):l1.length=l.length:=h.perm.length_eq
theorem ahU{T cur:List Int}{j:Nat}(h:uO T cur m i j)(hz:i=0\/j=0):T=cur:=by
 obtain⟨P,X,Y,Q,rfl,rfl,rfl,hm,rfl⟩:=h;rcases hz with h|h
 ·rw[length_eq_zero_iff.1 h];rfl
 rw[length_eq_zero_iff.1 h];rfl
theorem ajb(ht:∀{x y z:Int},R x y->R y z->R x z)(h:sF R Lt l a m b)(hm:m=a+1)(h1:m<=i)(h2:i<=b)(k1:i=m\/∃(p:i-1<l.length) (q:a<l.length),R l[i-1] l[a])(k2:i=b\/∃(p:a<l.length) (q:i<l.length),R l[a] l[i]) :
  ∃(P B Q:List Int) (x:Int),P.length=a/\l=Mv P B Q x 0/\i-m<=B.length/\m+B.length=b/\Part R l (Mv P B Q x (i-m)) a b:=by
 obtain⟨P,A,B,Q,rfl,rfl,rfl,rfl,hA,hB,aa⟩:=h;obtain⟨x,rfl⟩:=length_eq_one_iff.1 (show A.length=1 by omega);have E:∀(q:P.length<(P++([x]++(B++Q))).length),(P++([x]++(B++Q)))[P.length]=x:=fun q=>by rw[getElem_append_right w4];simp
 have I:∀k (h:k<B.length) (q:P.length+1+k<(P++([x]++(B++Q))).length),(P++([x]++(B++Q)))[P.length+1+k]=B[k]:=fun k h q=>by
  rw[getElem_append_right w4,getElem_append_right jk,getElem_append_left jk];simp only[length_singleton];congr 1;omega
 have mr:([x]:List Int).length=1:=rfl;rw[mr] at *;obtain⟨t,rfl⟩:∃t,i=P.length+1+t:=⟨i-(P.length+1),by omega⟩
 rw[show P.length+1+t-(P.length+1)=t by omega];have hp:=Yj (R:=R) (P:=P) (B:=B) (Q:=Q) (x:=x) (s:=0) (t:=t) ht hB (Nat.zero_le _) w4 (by
  rcases Nat.eq_zero_or_pos t with q|q
  ·exact .inl q
  rcases k1 with k1|⟨p1,p2,k1⟩
  ·omega
  ·refine .inr ⟨by omega,?_⟩;have e1:=I (t-1) w4 w4;simp only[show P.length+1+t-1=P.length+1+(t-1) by omega] at k1;rw[E,e1] at k1;exact k1) (by
  rcases k2 with k2|⟨p1,p2,k2⟩
  ·exact .inl w4
  rcases Nat.lt_or_ge t B.length with q|q
  ·exact .inr ⟨q,by rw[E,I t q] at k2;exact k2⟩
  exact .inl w4)
 refine⟨P,B,Q,x,rfl,rfl,by omega,rfl,?_⟩;rw[show P.length+(B.length+1)=P.length+1+B.length by omega] at hp;exact hp
theorem ahq(ht:∀{x y z:Int},R x y->R y z->R x z)(h:sF R Lt l a m b)(hm:b=m+1)(h1:a<=i)(h2:i<=m)(k1:i=a\/∃(p:i-1<l.length) (q:m<l.length),R l[i-1] l[m])(k2:i=m\/∃(p:m<l.length) (q:i<l.length),R l[m] l[i]) :
  ∃(P B Q:List Int) (x:Int),P.length=a/\l=Mv P B Q x (m-a)/\i-a<=B.length/\a+B.length=m/\Part R l (Mv P B Q x (i-a)) a b:=by
 obtain⟨P,A,B,Q,rfl,rfl,rfl,rfl,hA,hB,aa⟩:=h;obtain⟨x,rfl⟩:=length_eq_one_iff.1 (show B.length=1 by omega);have E:∀(q:P.length+A.length<(P++(A++([x]++Q))).length),(P++(A++([x]++Q)))[P.length+A.length]=x:=fun q=>by
  rw[getElem_append_right w4,getElem_append_right w4];simp
 have I:∀k (h:k<A.length) (q:P.length+k<(P++(A++([x]++Q))).length),(P++(A++([x]++Q)))[P.length+k]=A[k]:=fun k h q=>by
  rw[getElem_append_right w4,getElem_append_left w4];simp
 have mr:([x]:List Int).length=1:=rfl;rw[mr] at *;obtain⟨t,rfl⟩:∃t,i=P.length+t:=⟨i-P.length,by omega⟩
 rw[show P.length+t-P.length=t by omega,show P.length+A.length-P.length=A.length by omega];have he:P++(A++([x]++Q))=Mv P A Q x A.length:=(by unfold Mv;simp)
 have hp:=Yj (R:=R) (P:=P) (B:=A) (Q:=Q) (x:=x) (s:=A.length) (t:=t) ht hA (Nat.le_refl _) w4 (by
  rcases Nat.eq_zero_or_pos t with q|q
  ·exact .inl q
  rcases k1 with k1|⟨p1,p2,k1⟩
  ·omega
  ·refine .inr ⟨by omega,?_⟩;have e1:=I (t-1) w4 w4;simp only[show P.length+t-1=P.length+(t-1) by omega] at k1;rw[E,e1] at k1;exact k1) (by
  rcases k2 with k2|⟨p1,p2,k2⟩
  ·exact .inl w4
  rcases Nat.lt_or_ge t A.length with q|q
  ·exact .inr ⟨q,by rw[E,I t q] at k2;exact k2⟩
  exact .inl w4)
 refine⟨P,A,Q,x,rfl,he,by omega,rfl,?_⟩;rw[he,show P.length+A.length+1=P.length+(A.length+1) by omega];exact hp
theorem ajc(h:t<B.length)(h0:P.length+t<(Mv P B Q x (t+1)).length):(Mv P B Q x (t+1))[P.length+t]=B[t]:=by
 simp only[IJ h];rw[GX _ (Cm h).symm]
theorem ajd(h:t<B.length)(h0:P.length+t+1<(Mv P B Q x (t+1)).length):(Mv P B Q x (t+1))[P.length+t+1]=x:=by
 simp only[IJ h];rw[GY _ (by rw[Cm h])]
theorem alh(h:t<B.length)(ha:P.length=a)(h0:a+t<(Mv P B Q x t).length)(h1:a+t+1<(Mv P B Q x t).length):((Mv P B Q x t).set (a+t) (Mv P B Q x t)[a+t+1]).set (a+t+1) (Mv P B Q x t)[a+t]=Mv P B Q x (t+1):=by
 subst ha;rw[akH h,ame h,ai9 h]
theorem alg(h:t<B.length)(ha:P.length=a)(h0:a+t<(Mv P B Q x (t+1)).length)(h1:a+t+1<(Mv P B Q x (t+1)).length):((Mv P B Q x (t+1)).set (a+t+1) (Mv P B Q x (t+1))[a+t]).set (a+t) (Mv P B Q x (t+1))[a+t+1]=Mv P B Q x t:=by
 subst ha;rw[ajc h,ajd h,akI h]
end So
namespace So
open Go.Proofs.Tryz
open Go.RowKit V Tw
variable {G:List (Nat×List Value)}
theorem aje(Z cap I fc:Nat)(O:List D)(E:List ag)(cF:Int->Int->Int)(V:Int->Prop)(Lt:Int->Int->Prop)(hc:∀x y,V x->V y->VC Tryz.prog G fc ([ae x,ae y]++O) E (fun r S'=>r=ae (cF x y)/\S'=E))(U:∀args w,(callFunc fc args).run Tryz.prog w = .ok (.enter fc args) w)(ht:∀{x y z:Int},Rc cF Lt x y->Rc cF Lt y z->Rc cF Lt x z)(ha:∀x y,0<=cF y x->cF x y<=0)(uD:Z<=cap)(uC:cap<=maxLen)(rq:Z<=1000000)(n:Nat)(ih:∀k,k<n->∀(l:List Int) (a m b:Nat),b-a=k->sF (Rc cF Lt) Lt l a m b->a<m->m<b->l.length=Z->(∀x∈l,V x)->VC Tryz.prog G 171 [aS (some ⟨I,0,none⟩) Z cap,ae (a:Nat),ae (m:Nat),ae (b:Nat),.fg (.func fc) O] (⟨I,3,cap*1,(l).flatMap cI⟩::E) (fun r S'=>r = .dF []/\∃lz,Part (Rc cF Lt) l lz a b/\S'=⟨I,3,cap*1,(lz).flatMap cI⟩::E))(l:List Int)(a m b:Nat)(hn:b-a=n)(h:sF (Rc cF Lt) Lt l a m b)(h1:a<m)(h2:m<b)(iv:l.length=Z)(hV:∀x∈l,V x):VC Tryz.prog G 171 [aS (some ⟨I,0,none⟩) Z cap,ae (a:Nat),ae (m:Nat),ae (b:Nat),.fg (.func fc) O] (⟨I,3,cap*1,(l).flatMap cI⟩::E) (fun r S'=>r = .dF []/\∃lz,Part (Rc cF Lt) l lz a b/\S'=⟨I,3,cap*1,(lz).flatMap cI⟩::E):=by
 refine bA func171 rfl ntmps171 aO fun X0 w0 bz=>?_;have dy:=ee;have hlen:=h.len;refine cJ [0,1,2,3,4,28] ?_;refine aM 2 ?_ (h:=by exact(eE rfl ot ot (je (r:=((m-a:Nat):Int)) tc)));refine bB ?_;refine bX ?_ ?_<;>intro aP bH
 ·have tH:m=a+1:=(by omega)
  refine ay [0,1,3,4,10] ?_;refine ay [0,1,4,10,11] ?_;refine eZ [0,1,4] (fun aU _ (aR:Nat×Nat) aE=>match aR with|(i,j)=>(m<=i)/\(i<=j)/\(j<=b)/\((i=m\/∃(p:i-1<l.length) (q:a<l.length),(Rc cF Lt) l[i-1] l[a]))/\((j=b\/∃(p:a<l.length) (q:j<l.length),(Rc cF Lt) l[a] l[j]))/\aE=(⟨220,(10,ae (i:Nat))::(11,ae (j:Nat))::aU,(⟨I,3,cap*1,(l).flatMap cI⟩::E)⟩:St)) (fun (aR:Nat×Nat)=>match aR with|(i,j)=>j-i) (m,b) ⟨(Nat.le_refl _),w4,(Nat.le_refl _),(.inl rfl),(.inl rfl),rfl⟩ ?_;rintro⟨i,j⟩ _ ⟨yP,hij,Lo,eK,fD,rfl⟩;refine ax [0,1,4,10,11,33] ?_ ?_<;>intro bg cM
  ·have hh:i<j:=(by omega)
   have hH:((i+j)/2)<l.length:=(by omega)
   have hA:a<l.length:=(by omega)
   refine cJ [0,1,4,10,11,12] ?_;refine aM 2 ?_ (h:=Rj);refine aM 0 ?_ (h:=Ri);refine aM 0 ?_ (h:=FL);refine aM 0 ?_ (h:=Rh);refine bB ?_;refine cL ?_;refine iX 9 (aq (take 1 _)) ?_ (fun _ h=>(Sublist.map _ (take_sublist _ _)).subset h);refine cm 0 rfl eV ?_;refine cm 1 rfl eV ?_;refine cm 2 rfl eV ?_;refine cm 3 rfl (ei 1 (h:=aam)) ?_;refine cm 4 rfl gD ?_;refine cm 5 rfl eV ?_;refine cm 6 rfl eV ?_;refine cm 7 rfl (ei 1 (h:=by first|exact .l (j:=a) rfl w4|exact .r (j:=a) rfl w4)) ?_;refine cm 8 rfl gD ?_;refine ew.later rfl ?_;refine gd ?_;refine nB (f:=fc) (args:=[_,_]) (Sf:=E) au rfl rfl ot U (hc _ _ (hV _ (getElem_mem hH)) (hV _ (getElem_mem hA))) rfl ⟨ot,ot,trivial⟩ (perm_append_singleton _ _).symm ?_;rintro _ S2 ⟨rfl,gY⟩;rw[gY];clear gY;refine cg (perm_append_singleton _ _) ?_;refine ap 220 [0,1,4,10,11,12,50] ?_;refine bX ?_ ?_<;>intro cl di
   ·have wP:(Rc cF Lt) (l[((i+j)/2)]'hH) (l[a]'hA):=Io di;refine bM [0,1,4,10,11] ?_;exact z141
   have C7:(Rc cF Lt) (l[a]'hA) (l[((i+j)/2)]'hH):=IU ha (h.lt (Nat.le_refl _) w4 w4 w4 hA hH) w4;refine bM [0,1,4,10,11] ?_;exact aaT
  obtain rfl:i=j:=(by omega)
  obtain⟨P,B,Q,x,hP,hl,hiB,hB,O2⟩:=ajb (R:=Rc cF Lt) (l:=l) (a:=a) (m:=m) (b:=b) (i:=i) ht h tH yP Lo eK fD;subst hl;have nV:∀t,t<=B.length->(Mv P B Q x (t)).length=Z:=fun t ht=>by rw[I9 ht,<-iv,I9 (Nat.zero_le _)]
  refine ay [0,10,13] ?_;refine eZ [0,10] (fun aU _ (t:Nat) aE=>(t<=i-m)/\aE=(⟨220,(13,ae (a+t:Nat))::aU,(⟨I,3,cap*1,(Mv P B Q x (t)).flatMap cI⟩::E)⟩:St)) (fun (t:Nat)=>i-m-t) 0 ⟨(Nat.zero_le _),rfl⟩ ?_;rintro t _ ⟨hti,rfl⟩;refine cJ [0,10,13,58] ?_;refine aM 2 ?_ (h:=by exact(eE rfl ot bP (je (r:=((i-1:Nat):Int)) (by rw[show(((i:Nat):Int)-1)=((i-1:Nat):Int) by omega];exact wrap_i64 w4 w4))));refine bB ?_;refine bX ?_ ?_<;>intro da eP
  ·have Rz:t<B.length:=(by omega)
   have yz:=nV t w4;refine eI ?_;refine cL ?_;refine kU ?_;refine iX 16 (aq (eraseIdx _ 0)) ?_ (fun _ h=>(Sublist.map _ (eraseIdx_sublist _ 0)).subset h);refine cm 0 rfl eV ?_;refine cm 1 rfl eV ?_;refine cm 2 rfl eV ?_;refine cm 3 rfl eV ?_;refine cm 4 rfl (eE rfl ot bP (mB (r:=((a+t+1:Nat):Int)) aal)) ?_;refine cm 5 rfl eV ?_;refine cm 6 rfl eV ?_;refine cm 7 rfl (eE rfl ot bP (mB (r:=((a+t+1:Nat):Int)) aal)) ?_;refine cm 8 rfl (ei 1 (h:=PF)) ?_;refine cm 10 rfl eV ?_;refine cm 11 rfl eV ?_;refine cm 12 rfl (ei 1 (h:=PM)) ?_;refine ew.later rfl ?_;refine mC (i:=9) (j:=13) aD ?_ ?_
   ·refine at_ rfl gD ?_;refine bV (i:=13) aD ?_;exact z37
   refine at_ rfl gD ?_;refine bV (i:=9) aD ?_;exact z37
  obtain rfl:t=i-m:=(by omega)
  exact KM
 refine cJ [0,1,2,3,4,80] ?_;refine aM 2 ?_ (h:=by exact(eE rfl ot ot (je (r:=((b-m:Nat):Int)) tc)));refine bB ?_;refine bX ?_ ?_<;>intro eo fR
 ·have tH:b=m+1:=(by omega)
  refine ay [0,2,4,14] ?_;refine ay [0,2,4,14,15] ?_;refine eZ [0,2,4] (fun aU _ (aR:Nat×Nat) aE=>match aR with|(i,j)=>(a<=i)/\(i<=j)/\(j<=m)/\((i=a\/∃(p:i-1<l.length) (q:m<l.length),(Rc cF Lt) l[i-1] l[m]))/\((j=m\/∃(p:m<l.length) (q:j<l.length),(Rc cF Lt) l[m] l[j]))/\aE=(⟨220,(14,ae (i:Nat))::(15,ae (j:Nat))::aU,(⟨I,3,cap*1,(l).flatMap cI⟩::E)⟩:St)) (fun (aR:Nat×Nat)=>match aR with|(i,j)=>j-i) (a,m) ⟨(Nat.le_refl _),w4,(Nat.le_refl _),(.inl rfl),(.inl rfl),rfl⟩ ?_;rintro⟨i,j⟩ _ ⟨hai,hij,R4,eK,fD,rfl⟩;refine ax [0,2,4,14,15,85] ?_ ?_<;>intro fH ik
  ·have hh:i<j:=(by omega)
   have hH:((i+j)/2)<l.length:=(by omega)
   have hM:m<l.length:=(by omega)
   refine cJ [0,2,4,14,15,16] ?_;refine aM 2 ?_ (h:=Rj);refine aM 0 ?_ (h:=Ri);refine aM 0 ?_ (h:=FL);refine aM 0 ?_ (h:=Rh);refine bB ?_;refine cL ?_;refine iX 9 (aq (take 1 _)) ?_ (fun _ h=>(Sublist.map _ (take_sublist _ _)).subset h);refine cm 0 rfl eV ?_;refine cm 1 rfl eV ?_;refine cm 2 rfl eV ?_;refine cm 3 rfl (ei 1 (h:=by first|exact .l (j:=m) rfl w4|exact .r (j:=m) rfl w4)) ?_;refine cm 4 rfl gD ?_;refine cm 5 rfl eV ?_;refine cm 6 rfl eV ?_;refine cm 7 rfl (ei 1 (h:=aam)) ?_;refine cm 8 rfl gD ?_;refine ew.later rfl ?_;refine gd ?_;refine nB (f:=fc) (args:=[_,_]) (Sf:=E) au rfl rfl ot U (hc _ _ (hV _ (getElem_mem hM)) (hV _ (getElem_mem hH))) rfl ⟨ot,ot,trivial⟩ (perm_append_singleton _ _).symm ?_;rintro _ S2 ⟨rfl,gY⟩;rw[gY];clear gY;refine cg (perm_append_singleton _ _) ?_;refine ap 220 [0,2,4,14,15,16,103] ?_;refine bX ?_ ?_<;>intro iu qa
   ·have wP:(Rc cF Lt) (l[((i+j)/2)]'hH) (l[m]'hM):=IU ha (h.lt w4 w4 (Nat.le_refl _) w4 hH hM) w4;refine bM [0,2,4,14,15] ?_;exact z141
   have C7:(Rc cF Lt) (l[m]'hM) (l[((i+j)/2)]'hH):=Io qa;refine bM [0,2,4,14,15] ?_;exact aaT
  obtain rfl:i=j:=(by omega)
  obtain⟨P,B,Q,x,hP,hl,hiB,hB,O2⟩:=ahq (R:=Rc cF Lt) (l:=l) (a:=a) (m:=m) (b:=b) (i:=i) ht h tH hai R4 eK fD;subst hl;have nV:∀t,t<=B.length->(Mv P B Q x (t)).length=Z:=fun t ht=>by rw[I9 ht,<-iv,I9 w4]
  refine ay [0,14,17] ?_;refine eZ [0,14] (fun aU _ (t:Nat) aE=>(i-a<=t)/\(t<=m-a)/\aE=(⟨220,(17,ae (a+t:Nat))::aU,(⟨I,3,cap*1,(Mv P B Q x (t)).flatMap cI⟩::E)⟩:St)) (fun (t:Nat)=>t) (m-a) ⟨w4,(Nat.le_refl _),rfl⟩ ?_;rintro t _ ⟨hti,htm,rfl⟩;refine ax [0,14,17,110] ?_ ?_<;>intro iE nJ
  ·obtain⟨t,rfl⟩:∃k,t=k+1:=⟨t-1,by omega⟩
   have Rz:t<B.length:=(by omega)
   have yz:=nV (t+1) w4;refine eI ?_;refine cL ?_;refine kU ?_;refine iX 16 (aq (eraseIdx _ 0)) ?_ (fun _ h=>(Sublist.map _ (eraseIdx_sublist _ 0)).subset h);refine cm 0 rfl eV ?_;refine cm 1 rfl eV ?_;refine cm 2 rfl eV ?_;refine cm 3 rfl eV ?_;refine cm 4 rfl (eE rfl ot bP (je (r:=((a+t:Nat):Int)) PC)) ?_;refine cm 5 rfl eV ?_;refine cm 6 rfl eV ?_;refine cm 7 rfl (eE rfl ot bP (je (r:=((a+t:Nat):Int)) PC)) ?_;refine cm 8 rfl (ei 1 (h:=PM)) ?_;refine cm 10 rfl eV ?_;refine cm 11 rfl eV ?_;refine cm 12 rfl (ei 1 (h:=PF)) ?_;refine ew.later rfl ?_;refine mC (i:=9) (j:=13) aD ?_ ?_
   ·refine at_ rfl gD ?_;refine bV (i:=13) aD ?_;exact z36
   refine at_ rfl gD ?_;refine bV (i:=9) aD ?_;exact z36
  obtain rfl:t=i-a:=(by omega)
  exact KM
 obtain⟨mid,aqq⟩:∃q,q=(a+b)/2:=⟨_,rfl⟩
 refine cJ [0,1,2,3,4,18] ?_;refine aM 2 ?_ (h:=by exact(eE rfl ot ot (mB (r:=((a+b:Nat):Int)) PV)));refine aM 0 ?_ (h:=by exact(uT rfl ot (uW (r:=((a+b:Nat):Int)) runUnderlying3 runUnderlying259 (IntWalk.u64_in _ w4))));refine aM 0 ?_ (h:=FL);refine aM 0 ?_ (h:=by exact(uT rfl ot (uW (r:=((mid:Nat):Int)) runUnderlying259 runUnderlying3 (by rw[show(((a+b)/2:Nat):Int)=((mid:Nat):Int) by rw[aqq]];exact wrap_i64 w4 w4))));refine bB ?_;refine cJ [0,1,2,3,4,18,19] ?_;refine aM 2 ?_ (h:=by exact(eE rfl ot ot (mB (r:=((mid+m:Nat):Int)) PV)));refine bB ?_;refine ay [0,1,2,3,4,18,19] ?_;refine iM [0,1,2,3,4,18,19] (fun aU j4 aE=>∃(s0:Nat),∃(r0:Nat),((mid<m/\s0=mid+m-b/\r0=mid)\/(m<=mid/\s0=a/\r0=m))/\aE=(⟨220,(20,ae (s0:Nat))::(21,ae (r0:Nat))::aU,j4⟩:St)) ?_ ?_
 ·refine ax [0,1,2,3,4,18,19,140] ?_ ?_<;>intro sb CE
  ·refine cJ [0,1,2,3,4,18,19,20] ?_;refine aM 2 ?_ (h:=by exact(eE rfl ot ot (je (r:=(((mid+m)-b:Nat):Int)) tc)));refine bB ?_;refine bM [0,1,2,3,4,18,19,20,21] ?_;refine⟨_,aL,(mid+m-b),mid,(.inl ⟨by omega,rfl,rfl⟩),rfl⟩
  refine ay [0,1,2,3,4,18,19,20] ?_;refine bM [0,1,2,3,4,18,19,20,21] ?_;refine⟨_,aL,a,m,(.inr ⟨by omega,rfl,rfl⟩),rfl⟩
 rintro _ ⟨s0,r0,Lp,rfl⟩;refine cJ [0,1,2,3,4,18,19,20,21,22] ?_;refine aM 1 ?_ (h:=by exact(eE rfl ot bP (je (r:=(((mid+m)-1:Nat):Int)) (by rw[show((((mid+m):Nat):Int)-1)=(((mid+m)-1:Nat):Int) by omega];exact wrap_i64 w4 w4))));refine bB ?_;refine eZ [0,1,2,3,4,18,19,22] (fun aU _ (aR:Nat×Nat) aE=>match aR with|(s,r)=>(s0<=s)/\(s<=r)/\(r<=r0)/\((s=s0\/∃(p:s-1<l.length) (q:mid+m-s<l.length),(Rc cF Lt) l[s-1] l[mid+m-s]))/\((r=r0\/∃(p:mid+m-r-1<l.length) (q:r<l.length),(Rc cF Lt) l[mid+m-r-1] l[r]))/\aE=(⟨220,(20,ae (s:Nat))::(21,ae (r:Nat))::aU,(⟨I,3,cap*1,(l).flatMap cI⟩::E)⟩:St)) (fun (aR:Nat×Nat)=>match aR with|(s,r)=>r-s) (s0,r0) ⟨(Nat.le_refl _),w4,(Nat.le_refl _),(.inl rfl),(.inl rfl),rfl⟩ ?_;rintro⟨s,r⟩ _ ⟨rq,awi,yE,eK,fD,rfl⟩;refine ax [0,1,2,3,4,18,19,20,21,22,151] ?_ ?_<;>intro wX Ff
 ·have hh:s<r:=(by omega)
  have hC:((s+r)/2)<l.length:=(by omega)
  have hQ:(mid+m-1-((s+r)/2))<l.length:=(by omega)
  refine cJ [0,1,2,3,4,18,19,20,21,22,23] ?_;refine aM 2 ?_ (h:=by exact(eE rfl ot ot (mB (r:=((s+r:Nat):Int)) PV)));refine aM 0 ?_ (h:=by exact(uT rfl ot (uW (r:=((s+r:Nat):Int)) runUnderlying3 runUnderlying259 (IntWalk.u64_in _ w4))));refine aM 0 ?_ (h:=FL);refine aM 0 ?_ (h:=by exact(uT rfl ot (uW (r:=((((s+r)/2):Nat):Int)) runUnderlying259 runUnderlying3 (wrap_i64 w4 w4))));refine bB ?_;refine cL ?_;refine iX 11 (aq (take 1 _)) ?_ (fun _ h=>(Sublist.map _ (take_sublist _ _)).subset h);refine cm 0 rfl eV ?_;refine cm 1 rfl eV ?_;refine cm 2 rfl eV ?_;refine cm 3 rfl eV ?_;refine cm 4 rfl (eE rfl ot ot (je (r:=(((mid+m-1)-((s+r)/2):Nat):Int)) tc)) ?_;refine cm 5 rfl (ei 1 (h:=by first|exact .l (j:=(mid+m-1-((s+r)/2))) rfl w4|exact .r (j:=(mid+m-1-((s+r)/2))) rfl w4)) ?_;refine cm 6 rfl gD ?_;refine cm 7 rfl eV ?_;refine cm 8 rfl eV ?_;refine cm 9 rfl (ei 1 (h:=by first|exact .l (j:=((s+r)/2)) rfl w4|exact .r (j:=((s+r)/2)) rfl w4)) ?_;refine cm 10 rfl gD ?_;refine ew.later rfl ?_;refine gd ?_;refine nB (f:=fc) (args:=[_,_]) (Sf:=E) au rfl rfl ot U (hc _ _ (hV _ (getElem_mem hQ)) (hV _ (getElem_mem hC))) rfl ⟨ot,ot,trivial⟩ (perm_append_singleton _ _).symm ?_;rintro _ S2 ⟨rfl,gY⟩;rw[gY];clear gY;refine cg (perm_append_singleton _ _) ?_;refine ap 220 [0,1,2,3,4,18,19,20,21,22,23,171] ?_
  refine bX ?_ ?_<;>intro Ka Jp
  ·have aqr:(Rc cF Lt) (l[((s+r)/2)]'hC) (l[(mid+m-1-((s+r)/2))]'hQ):=IU ha (h.lt w4 w4 w4 w4 hC hQ) w4;have wP:(Rc cF Lt) (l[((s+r)/2)+1-1]'w4) (l[mid+m-(((s+r)/2)+1)]'w4):=(by simpa only[show((s+r)/2)+1-1=((s+r)/2) by omega,show mid+m-(((s+r)/2)+1)=(mid+m-1-((s+r)/2)) by omega] using aqr)
   refine bM [0,1,2,3,4,18,19,20,21,22] ?_;refine⟨((((s+r)/2)+1),r),_,cR,aL,w4,w4,w4,(.inr ⟨by omega,by omega,wP⟩),fD,rfl⟩
  have aqs:(Rc cF Lt) (l[(mid+m-1-((s+r)/2))]'hQ) (l[((s+r)/2)]'hC):=Io Jp;have C7:(Rc cF Lt) (l[mid+m-((s+r)/2)-1]'w4) (l[((s+r)/2)]'w4):=(by simpa only[show mid+m-((s+r)/2)-1=(mid+m-1-((s+r)/2)) by omega] using aqs)
  refine bM [0,1,2,3,4,18,19,20,21,22] ?_;refine⟨(s,((s+r)/2)),_,cR,aL,w4,w4,w4,eK,(.inr ⟨by omega,by omega,C7⟩),rfl⟩
 obtain rfl:s=r:=(by omega)
 obtain⟨l1,s7,Qd⟩:=akJ (R:=Rc cF Lt) (l:=l) (a:=a) (m:=m) (b:=b) (s:=s) (e:=mid+m-s) (mid:=mid) ht h w4 w4 w4 w4 w4 (by rcases eK with q|q;(rcases Lp with q2|q2;exact .inr (.inl w4);exact .inl w4);exact .inr (.inr q)) (by rcases fD with q|q;(rcases Lp with q2|q2;exact .inl w4;exact .inr (.inl w4));exact .inr (.inr q));have mr:=Qd.len.2.2;refine cJ [0,1,2,3,4,18,20,24] ?_;refine aM 2 ?_ (h:=by exact(eE rfl ot ot (je (r:=(((mid+m)-s:Nat):Int)) tc)));refine bB ?_;refine iM [0,1,3,4,18,20,24] (fun aU _ aE=>aE=(⟨220,aU,(⟨I,3,cap*1,(l1).flatMap cI⟩::E)⟩:St)) ?_ ?_
 ·refine az 4 ?_;refine cz 181 (fun anB amf=>?_) (fun anB amf=>?_)
  ·refine bL [0,1,2,3,4,18,20,24,185] ?_;refine bX ?_ ?_<;>intro yc Ji
   ·refine dB 5 ?_;refine eH (R:=E) au rfl rfl rfl call188 (amd l l1 Z s m (mid+m-s) cap I (.fg (.func fc) O) [] Qd w4 w4 iv uD w4) ⟨ot,ot,ot,ot,ot,trivial⟩ (Perm.refl _) ?_;rintro _ _ ⟨rfl,rfl⟩;refine ap 220 [0,1,3,4,18,20,24] ?_;refine⟨_,aL,rfl⟩
   exact z152
  refine bL [0,1,2,3,4,18,20,24,185] ?_;refine gK ?_;exact z152
 rintro _ ⟨rfl⟩;refine iM [0,3,4,18,24] (fun aU _ aE=>∃(l2:List Int),(Part (Rc cF Lt) l1 l2 a mid)/\aE=(⟨220,aU,(⟨I,3,cap*1,(l2).flatMap cI⟩::E)⟩:St)) ?_ ?_
 ·refine az 4 ?_;refine cz 195 (fun anC amg=>?_) (fun anC amg=>?_)
  ·refine bL [0,1,3,4,18,20,24,199] ?_;refine bX ?_ ?_<;>intro awj anb
   ·refine dB 5 ?_;refine eH (R:=[]) au rfl rfl rfl call171 (ih (mid-a) w4 l1 a s mid rfl (akK s7) w4 w4 (mr.trans iv) (fun z hz=>hV z (s7.perm.subset hz))) ⟨ot,ot,ot,ot,ot,trivial⟩ q9 ?_;rintro _ _ ⟨rfl,l2,qE,rfl⟩;refine cg (S':=⟨I,3,cap*1,(l2).flatMap cI⟩::E) q9 ?_;refine ap 220 [0,3,4,18,24] ?_;refine⟨_,aL,l2,qE,rfl⟩
   refine eI ?_;refine⟨_,aL,l1,(WN s7 w4),rfl⟩
  refine bL [0,1,3,4,18,20,24,199] ?_;refine gK ?_;refine eI ?_;refine⟨_,aL,l1,(WN s7 w4),rfl⟩
 rintro _ ⟨l2,qE,rfl⟩;refine az 4 ?_;refine cz 209 (fun anD amh=>?_) (fun anD amh=>?_)
 ·refine bL [0,3,4,18,24,213] ?_;refine bX ?_ ?_<;>intro awk anc
  ·refine dB 5 ?_;refine eH (R:=[]) au rfl rfl rfl call171 (ih (b-mid) w4 l2 mid (mid+m-s) b rfl (aja s7 qE) w4 w4 (qE.len.trans (mr.trans iv)) (fun z hz=>hV z (s7.perm.subset (qE.perm.subset hz)))) ⟨ot,ot,ot,ot,ot,trivial⟩ q9 ?_;rintro _ _ ⟨rfl,l3,hp3,rfl⟩;refine cg (S':=⟨I,3,cap*1,(l3).flatMap cI⟩::E) q9 ?_;refine ap 220 [] ?_;exact KM
  exact KM
 refine bL [0,3,4,18,24,213] ?_;refine gK ?_;refine eD _ ?_;first|exact⟨rfl,_,O2,rfl⟩|exact⟨rfl,_,Ir s7 qE hp3,rfl⟩|exact⟨rfl,_,Ir s7 qE (Up s7 qE w4),rfl⟩
theorem Zc(I cap bd O:Nat)(E:List D)(U:List ag)(cF:Int->Int->Int)(V:Int->Prop)(Lt:Int->Int->Prop)(hc:∀x y,V x->V y->VC Tryz.prog G O ([ae x,ae y]++E) U (fun r S'=>r=ae (cF x y)/\S'=U))(Z:∀args w,(callFunc O args).run Tryz.prog w = .ok (.enter O args) w)(ht:∀{x y z:Int},Rc cF Lt x y->Rc cF Lt y z->Rc cF Lt x z)(ha:∀x y,0<=cF y x->cF x y<=0)(uD:I<=cap)(uC:cap<=maxLen)(rq:I<=1000000):∀(n:Nat) (l:List Int) (a m b:Nat),b-a=n->sF (Rc cF Lt) Lt l a m b->a<m->m<b->l.length=I->(∀x∈l,V x)->VC Tryz.prog G 171 [aS (some ⟨bd,0,none⟩) I cap,ae (a:Nat),ae (m:Nat),ae (b:Nat),.fg (.func O) E] (⟨bd,3,cap*1,(l).flatMap cI⟩::U) (fun r S'=>r = .dF []/\∃lz,Part (Rc cF Lt) l lz a b/\S'=⟨bd,3,cap*1,(lz).flatMap cI⟩::U):=fun n=>Nat.strongRecOn n (aje I cap bd O E U cF V Lt hc Z ht ha uD uC rq)
end So
namespace So
open Go.Proofs.Tryz
variable {R Lt:Int->Int->Prop} {l l1 cur p9:List Int} {a b m n k:Nat}
theorem MF(h:Part R l l1 a b):l1.drop b=l.drop b:=by
 obtain⟨P,M,E,Q,rfl,rfl,rfl,rfl,hp,_⟩:=h;rw[<-append_assoc,drop_left' (by rw[length_append]),<-append_assoc,drop_left' (by rw[length_append,hp.length_eq])]
theorem WO(h:Part R l l1 a a):l1=l:=by
 obtain⟨P,M,E,Q,rfl,rfl,rfl,h1,hp,_⟩:=h;have hl:=hp.length_eq;rw[length_eq_zero_iff.1 (show M.length=0 by omega),length_eq_zero_iff.1 (show E.length=0 by omega)]
theorem Na(h:Part R l l1 0 n)(hn:l.length=n):l1.Perm l/\l1.Pairwise R:=by
 refine⟨h.perm,?_⟩;obtain⟨P,M,E,Q,rfl,rfl,h1,h2,hp,hs⟩:=h;have hl:=hp.length_eq;simp only[length_append] at hn;rw[length_eq_zero_iff.1 h1,length_eq_zero_iff.1 (show Q.length=0 by omega)];simpa using hs
def Bb(R:Int->Int->Prop)(l cur:List Int)(k:Nat):Prop:=(k=0/\cur=l)\/(k=1/\Part R l cur 0 20)\/(k=2/\∃l1,Part R l l1 0 20/\Part R l1 cur 20 40)
def Kh(R:Int->Int->Prop)(l cur:List Int)(n:Nat):Prop:=∃l1,Part R l l1 0 20/\Part R l1 cur 20 n
theorem Bb.perm(h:Bb R l cur k):cur.Perm l:=by
 rcases h with ⟨_,rfl⟩|⟨_,h⟩|⟨_,l1,h1,h2⟩
 ·exact .refl _
 ·exact h.perm
 exact h2.perm.trans h1.perm
theorem ajf(h:Bb R l cur k)(hk:k<=1)(hp:Part R cur p9 (20*k) (20*(k+1))):Bb R l p9 (k+1):=by
 rcases h with ⟨rfl,rfl⟩|⟨rfl,h⟩|⟨rfl,_⟩
 ·exact .inr (.inl ⟨rfl,hp⟩)
 ·exact .inr (.inr ⟨rfl,_,h,hp⟩)
 omega
theorem ajg(h:Bb R l cur k):cur.drop (20*k)=l.drop (20*k):=by
 rcases h with ⟨rfl,rfl⟩|⟨rfl,h⟩|⟨rfl,l1,h1,h2⟩
 ·rfl
 ·exact MF h
 rw[MF h2];have:=congrArg (drop 20) (MF h1);rw[drop_drop,drop_drop] at this;exact this
theorem akL(h:Bb R l cur k)(h1:20*k<=n)(h2:n<20*(k+1))(h3:n<=40)(hl:l.length=n)(hp:Part R cur p9 (20*k) n):(n<=20/\p9.Perm l/\p9.Pairwise R)\/(20<n/\Kh R l p9 n):=by
 rcases h with ⟨rfl,rfl⟩|⟨rfl,h⟩|⟨rfl,l1,p1,p2⟩
 ·exact .inl ⟨by omega,Na hp hl⟩
 ·rcases Nat.lt_or_ge 20 n with q|q
  ·exact .inr ⟨q,_,h,hp⟩
  obtain rfl:n=20:=(by omega)
  rw[WO hp];exact .inl ⟨q,Na h hl⟩
 obtain rfl:n=40:=(by omega)
 rw[WO hp];exact .inr ⟨by omega,_,p1,p2⟩
theorem ajh(h:Kh R l cur n)(hq:l.Pairwise Lt):sF R Lt cur 0 20 n:=by
 obtain⟨l1,⟨P,M,M0,Q,rfl,rfl,h1,h2,hp,hs⟩,p2⟩:=h;obtain rfl:=length_eq_zero_iff.1 h1;obtain⟨O,U,Z,I,rfl,h4,h5,h6,qE,E⟩:=p2;obtain⟨e1,e2⟩:=append_inj (show M++Q=O++(Z++I) from h4) w4;subst e1 e2;rw[nil_append,pairwise_append] at hq;exact⟨[],M,U,I,by simp,rfl,by omega,by omega,hs,E,fun x hx y hy=>hq.2.2 x (hp.subset hx) y (mem_append_left _ (qE.subset hy))⟩
theorem WQ(h:Kh R l cur n)(hp:Part R cur p9 0 n)(hl:l.length=n):p9.Perm l/\p9.Pairwise R:=by
 obtain⟨l1,p1,p2⟩:=h;have:=Na hp (by rw[p2.len,p1.len,hl]);exact⟨this.1.trans (p2.perm.trans p1.perm),this.2⟩
end So
namespace So
open Go.Proofs.Tryz
open Go.RowKit V Tw
variable {G:List (Nat×List Value)}
theorem ahr(E cap O fc:Nat)(I:List D)(U:List ag)(cF:Int->Int->Int)(V:Int->Prop)(Lt:Int->Int->Prop)(hc:∀x y,V x->V y->VC Tryz.prog G fc ([ae x,ae y]++I) U (fun r S'=>r=ae (cF x y)/\S'=U))(yj:∀args w,(callFunc fc args).run Tryz.prog w = .ok (.enter fc args) w)(ht:∀{x y z:Int},Rc cF Lt x y->Rc cF Lt y z->Rc cF Lt x z)(ha:∀x y,0<=cF y x->cF x y<=0)(uD:E<=cap)(uC:cap<=maxLen)(rq:E<=40)(l:List Int)(hq:l.Pairwise Lt)(iv:l.length=E)(hV:∀x∈l,V x):VC Tryz.prog G 144 [aS (some ⟨O,0,none⟩) E cap,ae (E:Nat),.fg (.func fc) I] (⟨O,3,cap*1,(l).flatMap cI⟩::U) (fun r S'=>r = .dF []/\∃(lz:List Int),(lz.Perm l/\lz.Pairwise (Rc cF Lt))/\S'=⟨O,3,cap*1,(lz).flatMap cI⟩::U):=by
 refine bA func144 rfl ntmps144 aO fun X0 w0 bz=>?_;have dy:=ee;refine ay [0,1,2,6] ?_;refine ay [0,1,2,6,7,8] ?_;refine cL ?_;refine kU ?_;refine oB (fun (aR:Nat×List Int) aE=>match aR with|(k,cur)=>(20*k<=E)/\(Bb (Rc cF Lt) l cur k)/\aE=(⟨63,[(0,aS (some ⟨O,0,none⟩) E cap),(1,ae (E:Nat)),(2,.fg (.func fc) I),(6,ae 20),(7,ae (20*k:Nat)),(8,ae (20*(k+1):Nat))],(⟨O,3,cap*1,(cur).flatMap cI⟩::U)⟩:St)) (fun (aR:Nat×List Int)=>match aR with|(k,cur)=>3-k) (0,l) ⟨(Nat.zero_le _),(.inl ⟨rfl,rfl⟩),rfl⟩ (aL (h:=w76)) ?_;rintro⟨k,cur⟩ _ ⟨hk,ff,rfl⟩;have fP:=ff.perm.length_eq;have vD:(cur.drop (20*k)).Pairwise Lt:=(by rw[ajg ff];exact hq.drop)
 have GZ:∀x∈cur,V x:=fun x hx=>hV x (ff.perm.subset hx);refine ax [0,1,2,6,7,8,13] ?_ ?_<;>intro aP bH
 ·have A8:20*(k+1)<=E:=(by omega)
  refine az 4 ?_;refine eH (R:=[]) au rfl rfl rfl call170 (Zb cur E (20*k) (20*(k+1)) cap O fc I U cF V Lt GZ hc yj ht ha vD w4 w4 w4 uD uC w4) ⟨ot,ot,ot,ot,trivial⟩ q9 ?_;rintro _ _ ⟨rfl,c1,aqt,rfl⟩;refine cg (S':=⟨O,3,cap*1,(c1).flatMap cI⟩::U) q9 ?_;refine ap 63 [0,1,2,6,8] ?_;refine ay [0,1,2,6,7,8] ?_;refine fW [0,1,2,6,7,8] ?_;refine aM 2 ?_ (h:=by exact(eE rfl ot ot (mB (r:=((20*(k+1+1):Nat):Int)) (by rw[show(((20*(k+1):Nat):Int)+20)=((20*(k+1+1):Nat):Int) by omega];exact wrap_i64 w4 w4))));refine bB ?_;refine⟨((k+1),c1),_,cR,(aL (h:=w76)),w4,(ajf ff w4 aqt),rfl⟩
 have A8:E<20*(k+1):=(by omega)
 refine az 4 ?_;refine eH (R:=[]) au rfl rfl rfl call170 (Zb cur E (20*k) E cap O fc I U cF V Lt GZ hc yj ht ha vD w4 w4 w4 uD uC w4) ⟨ot,ot,ot,ot,trivial⟩ q9 ?_;rintro _ _ ⟨rfl,c2,abx,rfl⟩;refine cg (S':=⟨O,3,cap*1,(c2).flatMap cI⟩::U) q9 ?_;have fG:=akL ff hk A8 rq iv abx;have aby:c2.Perm l:=abx.perm.trans ff.perm;refine ap 63 [0,1,2,6] ?_;refine eZ [0,1,2] (fun aU _ (aR:Nat×List Int) aE=>match aR with|(q,cur)=>((q=20/\cur=c2)\/(q=40/\(cur.Perm l/\cur.Pairwise (Rc cF Lt))))/\aE=(⟨63,(6,ae (q:Nat))::aU,(⟨O,3,cap*1,(cur).flatMap cI⟩::U)⟩:St)) (fun (aR:Nat×List Int)=>match aR with|(q,cur)=>40-q) (20,c2) ⟨(.inl ⟨rfl,rfl⟩),rfl⟩ ?_;rintro⟨q,cur⟩ _ ⟨Gu,rfl⟩;refine ax [0,1,2,6,30] ?_ ?_<;>intro bg cM
 ·obtain⟨rfl,rfl⟩:q=20/\cur=c2:=(by (rcases Gu with h|h;exact h;omega))
  have Z:Kh (Rc cF Lt) l cur E:=(by (rcases fG with h|h;omega;exact h.2))
  have abz:=ajh Z hq;have fP:=aby.length_eq;have GZ:∀x∈cur,V x:=fun x hx=>hV x (aby.subset hx);refine ay [0,1,2,6,7,8] ?_;refine eZ [0,1,2,6] (fun aU _ (aR:Nat×List Int) aE=>match aR with|(j,c3)=>((j=0/\c3=cur)\/(j=1/\E=40/\(c3.Perm l/\c3.Pairwise (Rc cF Lt))))/\aE=(⟨63,(7,ae (40*j:Nat))::(8,ae (40*(j+1):Nat))::aU,(⟨O,3,cap*1,(c3).flatMap cI⟩::U)⟩:St)) (fun (aR:Nat×List Int)=>match aR with|(j,c3)=>1-j) (0,cur) ⟨(.inl ⟨rfl,rfl⟩),rfl⟩ ?_;rintro⟨j,c3⟩ _ ⟨rh,rfl⟩;refine ax [0,1,2,6,7,8,35] ?_ ?_<;>intro cl di
  ·obtain⟨td,rfl⟩:j=0/\c3=cur:=(by (rcases rh with h|h;exact h;omega))
   have Qp:E=40:=(by omega)
   refine az 4 ?_;refine bS (eE rfl ot ot (mB (r:=((20:Nat):Int)) (by rw[td];rfl))) ?_;refine aF 2 ?_;have avc:=Qp;refine eH (R:=[]) au rfl rfl rfl call171 (Zc E cap O fc I U cF V Lt hc yj ht ha uD uC w4 _ c3 (40*j) 20 (40*(j+1)) rfl (by rw[show 40*j=0 by omega,show 40*(j+1)=E by omega];exact abz) w4 w4 w4 GZ) ⟨ot,ot,ot,ot,ot,trivial⟩ q9 ?_;rintro _ _ ⟨rfl,c5,aqu,rfl⟩;refine cg (S':=⟨O,3,cap*1,(c5).flatMap cI⟩::U) q9 ?_;have aqv:Part (Rc cF Lt) c3 c5 0 E:=(by have:=aqu;rwa [show 40*j=0 by omega,show 40*(j+1)=E by omega] at this)
   refine ap 63 [0,1,2,6,8] ?_;refine ay [0,1,2,6,7,8] ?_;refine bM [0,1,2,6,7,8] ?_;refine⟨(1,c5),_,cR,aL,(.inr ⟨rfl,Qp,WQ Z aqv iv⟩),rfl⟩
  refine qm ?_;refine iM [0,1,2,6] (fun aU _ aE=>∃(c4:List Int),((c4.Perm l/\c4.Pairwise (Rc cF Lt)))/\aE=(⟨63,aU,(⟨O,3,cap*1,(c4).flatMap cI⟩::U)⟩:St)) ?_ ?_
  ·refine cJ [0,1,2,6,7,9] ?_;refine aM 2 ?_ (h:=by exact(eE rfl ot ot (mB (r:=((40*j+20:Nat):Int)) (by rw[show(((40*j:Nat):Int)+((20:Nat):Int))=((40*j+20:Nat):Int) by omega];exact wrap_i64 w4 w4))));refine bB ?_;refine ax [0,1,2,6,7,9,54] ?_ ?_<;>intro da eP
   ·obtain⟨td,rfl⟩:j=0/\c3=cur:=(by (rcases rh with h|h;exact h;omega))
    refine dB 5 ?_;refine eH (R:=[]) au rfl rfl rfl call171 (Zc E cap O fc I U cF V Lt hc yj ht ha uD uC w4 _ c3 (40*j) (40*j+20) E rfl (by rw[show 40*j=0 by omega];exact abz) w4 w4 w4 GZ) ⟨ot,ot,ot,ot,ot,trivial⟩ q9 ?_;rintro _ _ ⟨rfl,c6,aqw,rfl⟩;refine cg (S':=⟨O,3,cap*1,(c6).flatMap cI⟩::U) q9 ?_;have aqx:Part (Rc cF Lt) c3 c6 0 E:=(by have:=aqw;rwa [show 40*j=0 by omega] at this)
    refine ap 63 [0,1,2,6] ?_;refine⟨_,aL,c6,(WQ Z aqx iv),rfl⟩
   have Lp:(c3.Perm l/\c3.Pairwise (Rc cF Lt)):=(by (rcases rh with h|h;omega;exact h.2.2))
   refine eI ?_;refine⟨_,aL,c3,Lp,rfl⟩
  rintro _ ⟨c4,eo,rfl⟩;refine bM [0,1,2,6] ?_;refine⟨(40,c4),_,cR,aL,(.inr ⟨rfl,eo⟩),rfl⟩
 have lG:(cur.Perm l/\cur.Pairwise (Rc cF Lt)):=(by (rcases Gu with ⟨rfl,rfl⟩|h;(rcases fG with h|h;exact h.2;omega);exact h.2))
 refine eD _ ?_;exact⟨rfl,_,lG,rfl⟩
theorem akM(O cap U Z:Nat)(E:List D)(I:List ag)(cF:Int->Int->Int)(V:Int->Prop)(Lt:Int->Int->Prop)(hc:∀x y,V x->V y->VC Tryz.prog G Z ([ae x,ae y]++E) I (fun r S'=>r=ae (cF x y)/\S'=I))(yj:∀args w,(callFunc Z args).run Tryz.prog w = .ok (.enter Z args) w)(ht:∀{x y z:Int},Rc cF Lt x y->Rc cF Lt y z->Rc cF Lt x z)(ha:∀x y,0<=cF y x->cF x y<=0)(uD:O<=cap)(uC:cap<=maxLen)(rq:O<=40)(l:List Int)(hq:l.Pairwise Lt)(iv:l.length=O)(hV:∀x∈l,V x):VC Tryz.prog G 107 [aS (some ⟨U,0,none⟩) O cap,.fg (.func Z) E] (⟨U,3,cap*1,(l).flatMap cI⟩::I) (fun r S'=>r = .dF []/\∃(lz:List Int),(lz.Perm l/\lz.Pairwise (Rc cF Lt))/\S'=⟨U,3,cap*1,(lz).flatMap cI⟩::I):=by
 refine bA func107 rfl ntmps107 aO fun X0 w0 bz=>?_;have dy:=ee;refine dB 4 ?_;refine eH (R:=[]) au rfl rfl rfl call144 (ahr O cap U Z E I cF V Lt hc yj ht ha uD uC rq l hq iv hV) ⟨ot,ot,ot,trivial⟩ q9 ?_;rintro _ _ ⟨rfl,lz,A4,rfl⟩;refine cg (S':=⟨U,3,cap*1,(lz).flatMap cI⟩::I) q9 ?_;refine ap 9 [] ?_;refine eD _ ?_;exact⟨rfl,_,A4,rfl⟩
end So
namespace Ba
open Go.Proofs.Tryz
open Go.RowKit V Pk Tr Vl Go.Proofs.YtihmfhcjbmlnaaaGreatDoor.Nm Pc Cd Ex Tw Go.Proofs.YtihmfhcjbmlnaaaGreatDoor.So
variable {t:aA} {o n:Nat} {i k:Int}
theorem D9(a b:Vl):fh a b<0↔a.k<b.k\/(a.k=b.k/\(a.n<b.n\/(a.n=b.n/\Go.Lib.compareBytes a.s.data.toList b.s.data.toList<0))):=by
 exact aaG
theorem Vg{a b:Vl}(h:fh a b=0):a=b:=by
 unfold fh cmpL gA gA gA gA at h;have hs:a.k=b.k/\a.n=b.n/\Go.Lib.compareBytes a.s.data.toList b.s.data.toList=0:=by
  rcases uU a.k b.k with ⟨h1,h2⟩|⟨h1,h2⟩|⟨h1,h2⟩<;>rcases uU a.n b.n with ⟨k1,k2⟩|⟨k1,k2⟩|⟨k1,k2⟩<;>simp only[h1,k1] at h<;>(repeat' split at h)<;>first|omega|(refine⟨h2,k2,?_⟩;omega)
 obtain⟨e1,e2,E⟩:=hs;obtain⟨k,n,s⟩:=a;obtain⟨k',n',s'⟩:=b;simp only at e1 e2 E;subst e1 e2;rw[zm (lR.1 E)]
theorem Yk{a b c:Vl}(h1:fh a b<0)(h2:fh b c<0):fh a c<0:=by
 rw[D9] at h1 h2 |-;rcases h1 with h1|⟨h1,h1|⟨E,h1⟩⟩<;>rcases h2 with h2|⟨h2,h2|⟨I,h2⟩⟩<;>first|omega|(refine .inr ⟨by omega,.inr ⟨by omega,?_⟩⟩;exact l5 h1 h2)
def cellAt(t:aA)(o:Nat)(i:Int):Vl:=(rowAt t i).getD o aX
def mK(t:aA)(down:Bool)(o:Nat)(i k:Int):Int:=if down=true then -(fh (cellAt t o i) (cellAt t o k)) else fh (cellAt t o i) (cellAt t o k)
def G0(t:aA)(i k:Int):Prop:=bI (de (rowAt t i)) (de (rowAt t k))
theorem Vh(t:aA)(down:Bool)(o:Nat)(i k:Int):mK t down o k i = -(mK t down o i k):=by
 unfold mK;rw[DE (cellAt t o i) (cellAt t o k)];split<;>omega
theorem akN{down:Bool}{l:Int}(h1:mK t down o i k<0)(h2:mK t down o k l<0):mK t down o i l<0:=by
 unfold mK at *;split at h1
 ·rename_i hd;rw[if_pos hd] at h2 |-;have e1:=DE (cellAt t o i) (cellAt t o k);have e2:=DE (cellAt t o k) (cellAt t o l);have E:=DE (cellAt t o i) (cellAt t o l);have:=Yk (a:=cellAt t o l) (b:=cellAt t o k) (c:=cellAt t o i) w4 w4;omega
 rename_i hd;rw[if_neg hd] at h2 |-;exact Yk h1 h2
theorem MG{down:Bool}(h:mK t down o i k=0):cellAt t o i=cellAt t o k:=by
 unfold mK at h;split at h
 ·exact Vg w4
 exact Vg h
theorem Yl{down:Bool}(h:cellAt t o i=cellAt t o k)(l:Int):mK t down o i l=mK t down o k l:=by unfold mK;rw[h]
theorem aji{down:Bool}(h:cellAt t o i=cellAt t o k)(l:Int):mK t down o l i=mK t down o l k:=by unfold mK;rw[h]
abbrev yQ(t:aA)(down:Bool)(o:Nat):Int->Int->Prop:=Rc (mK t down o) (G0 t)
theorem ami(t:aA)(down:Bool)(o:Nat){x y z:Int}(h1:yQ t down o x y)(h2:yQ t down o y z):yQ t down o x z:=by
 rcases h1 with h1|⟨h1,E⟩<;>rcases h2 with h2|⟨h2,I⟩
 ·exact .inl (akN h1 h2)
 ·exact .inl (by rw[<-aji (MG h2)];exact h1)
 ·exact .inl (by rw[Yl (MG h1)];exact h2)
 exact .inr ⟨by rw[Yl (MG h1)];exact h2,l5 E I⟩
theorem ajj{down:Bool}{x y:Int}(h1:yQ t down o x y)(h2:yQ t down o y x):False:=by
 have e:=Vh t down o x y;rcases h1 with h1|⟨h1,E⟩<;>rcases h2 with h2|⟨h2,I⟩
 ·omega
 ·omega
 ·omega
 exact jK _ (l5 E I)
noncomputable def EQ(t:aA)(down:Bool)(o:Nat)(l:List Int):List Int:=Classical.epsilon fun lz=>lz.Perm l/\lz.Pairwise (yQ t down o)
theorem N8{down:Bool}{l lz:List Int}(h:lz.Perm l/\lz.Pairwise (yQ t down o)):lz=EQ t down o l:=by
 have hs:=Classical.epsilon_spec (p:=fun lz=>lz.Perm l/\lz.Pairwise (yQ t down o)) ⟨lz,h⟩;exact Perm.eq_of_pairwise (fun a b _ _ h1 h2=>(ajj h1 h2).elim) h.2 hs.2 (h.1.trans hs.1.symm)
theorem DX(t:aA)(w:List aQ):∀(l:List (K×Int)) (acc:List Int),(oU t w acc l).1.Sublist (acc++l.map Prod.snd)
 | [],acc=>by unfold oU;simp
 | x::r,acc=>by
  have h1:(oU t w acc r).1.Sublist (acc++(x::r).map Prod.snd):=(DX t w r acc).trans (Sublist.append_left (sublist_cons_self _ _) acc);have h2:(oU t w (acc++[x.2]) r).1.Sublist (acc++(x::r).map Prod.snd):=(by have:=DX t w r (acc++[x.2]);rwa [append_assoc] at this)
  unfold oU;split
  ·split
   ·exact nil_sublist _
   split
   ·exact h1
   exact h2
  exact h2
def gw(t:aA)(i:Int):Prop:=0<=i/\∃h:i.toNat<t.rows.length,t.rows[i.toNat]≠[]
theorem ajk{i:Nat}{c:Pc.dc}{v:Vl}(h:Pc.mh i c v=0):bW v=0:=by
 unfold Pc.mh at h;split at h
 ·exact h
 rename_i h1;exact Decidable.not_not.1 h1
theorem Vi:∀(i:Nat) (cs:List Pc.dc) (vs:List Vl),Pc.pH i cs vs=0->vs.length<=cs.length->∀v∈vs,bW v=0
 | i,c::cs,v::vs,h,hl,w,hw=>by
  unfold Pc.pH at h;split at h
  ·rename_i h1;exact absurd h h1
  rename_i h1;rcases mem_cons.1 hw with rfl|hw
  ·exact ajk (Decidable.not_not.1 h1)
  exact Vi (i+1) cs vs h zQ w hw
 | _,_,[],_,_,_,hw=>by cases hw
 | _,[],_::_,_,hl,_,_=>by simp at hl
theorem Nb{r:List Vl}(h:Pc.dV cx r=0):∀v∈r,bW v=0:=by
 have h4:=qu h;unfold Pc.dV at h;rw[if_neg wA,if_neg vg] at h;exact Vi 0 cx r h vg
theorem gw.ok(g:dN t n)(h:gw t i):(rowAt t i).length=4/\(∀v∈rowAt t i,v.Ok/\bW v=0):=by
 obtain⟨h0,h1,h2⟩:=h;rw[ju h1];obtain⟨g1,g2,_⟩:=g.row _ h1 h2;exact⟨qu g1,fun v hv=>⟨g2 v hv,Nb g1 v hv⟩⟩
theorem ug(g:dN t n)(w:List aQ):∀i∈(av t w).1,gw t i:=fun i hi=>by
 unfold av at hi;split at hi
 ·cases hi
 have h1:=(DX t w _ []).subset hi;rw[nil_append] at h1;obtain⟨x,hx,rfl⟩:=mem_map.1 h1;obtain⟨h2,h3,h4,_⟩:=g.jA x (BF x hx);exact⟨h2,h3,h4⟩
theorem Ih(g:dN t n)(w:List aQ):(av t w).1.Pairwise (G0 t):=by
 unfold av;split
 ·exact Pairwise.nil
 refine Pairwise.sublist (DX t w _ []) ?_;rw[nil_append,pairwise_map];have hr:(jF t.ix (eG t.an w).1.1 (eG t.an w).1.2).Pairwise fun x y=>bI x.1 y.1:=(Ur g.ix.val _).sublist (takeWhile_sublist _);refine hr.imp_of_mem fun {x y} hx hy h=>?_;obtain⟨_,p1,_,p2⟩:=g.jA x (BF x hx);obtain⟨_,q1,_,q2⟩:=g.jA y (BF y hy);unfold G0;rw[ju p1,ju q1,<-p2,<-q2];exact h
theorem Ej(g:dN t n)(w:List aQ):(av t w).1.length<=40:=by
 have hp:=Ih g w;have E:=ug g w;have hnd:((av t w).1.map Int.toNat).Nodup:=by
  rw[Nodup,pairwise_map];refine hp.imp_of_mem fun {x y} hx hy h e=>?_;obtain⟨x0,_⟩:=E x hx;obtain⟨y0,_⟩:=E y hy;have:x=y:=(by omega)
  subst this;exact jK _ h
 have I:∀j∈(av t w).1.map Int.toNat,j∈range t.rows.length:=fun j hj=>by
  obtain⟨x,hx,rfl⟩:=mem_map.1 hj;obtain⟨_,h1,_⟩:=E x hx;exact mem_range.2 h1
 have:=hnd.length_le_of_subset I;rw[length_map,length_range] at this;exact Nat.le_trans this g.fm
variable {G:List (Nat×List Value)} {m:Int}
open Pa (aT aY)
theorem ZK:∀x y:K,-1<=Go.Lib.compareBytes x y/\Go.Lib.compareBytes x y<=1
 | [],[]=>⟨by decide,by decide⟩
 | [],_::_=>⟨(by show(-1:Int)<=-1;decide),(by show(-1:Int)<=1;decide)⟩
 | _::_,[]=>⟨(by show(-1:Int)<=1;decide),(by show(1:Int)<=1;decide)⟩
 | a::x,b::y=>by
  have:=ZK x y;rw[Lf];repeat' split
  all_goals first|exact this|omega
theorem akO(a b:Vl):-1<=fh a b/\fh a b<=1:=by
 have:=ZK a.s.data.toList b.s.data.toList;exact aaG
def uP(t:aA)(names:List ByteArray):List Int:=if names.length=0 then (range t.an.length).map Int.ofNat else names.map (bE t.an)
def rO(t:aA)(s:aT):Int:=if (s.order.toList==(⟨#[]⟩:ByteArray).toList)=true then 0 else bE t.an s.order
def E0(Ta:Int)(l:List Int):List Int:=if 0<=Ta/\Ta<l.length then l.take Ta.toNat else l
def Ap(t:aA)(ats:List Int)(i:Int):List Vl:=ats.map fun c=>(rowAt t i).getD c.toNat aX
noncomputable def wo(t:aA)(s:aT):List Int:=E0 s.iA (EQ t s.down (rO t s).toNat (av t s.ah).1)
noncomputable def oe(t:aA)(s:aT):(List (List Vl)×Int)×Int :=
 if (s.names.any fun n=>decide (bE t.an n<0))=true then (([],0),8)
 else if rO t s<0 then (([],0),8)
 else if (av t s.ah).2≠0 then (([],0),(av t s.ah).2)
 else if s.count=true then (([[⟨2,(wo t s).length,⟨#[]⟩⟩]],(wo t s).length),0)
 else (((wo t s).map (Ap t (uP t s.names)),(wo t s).length),0)
def Dp(p:(List (List Vl)×Int)×Int):D:=.dF [.agg [aj 1 eX p.1.1,ae p.1.2],ae p.2]
theorem OP{l:List dc}{nm:ByteArray}:-1<=bE l nm/\bE l nm<l.length:=by
 unfold bE dD;split
 ·rename_i i h;have:=(findIdx?_eq_some_iff_getElem.1 h).1;omega
 omega
theorem akP(t:aA)(g:dN t n)(s:aT)(o:Nat)(ho:o<4)(b2 I b3:Nat)(i k:Int)(hi:gw t i)(hk:gw t k):VC Tryz.prog G 108 ([ae i,ae k]++[dw b2,dw I,dw b3]) [⟨b2,76,5,cr t⟩,⟨I,3,1,[ae (o:Nat)]⟩,⟨b3,34,12,aY s⟩] (fun r S=>r=ae (mK t s.down o i k)/\S=[⟨b2,76,5,cr t⟩,⟨I,3,1,[ae (o:Nat)]⟩,⟨b3,34,12,aY s⟩]):=by
 refine bA func108 rfl ntmps108 aO fun X0 w0 bz=>?_;obtain⟨O,E,nr⟩:=hi;obtain⟨wR,eK,fD⟩:=hk;obtain⟨gi1,U⟩:=gw.ok g ⟨O,E,nr⟩;obtain⟨gk1,Z⟩:=gw.ok g ⟨wR,eK,fD⟩;rw[ju E] at gi1 U;rw[ju eK] at gk1 Z;have Tb:o<(t.rows[i.toNat]'E).length:=(by omega)
 have tJ:o<(t.rows[k.toNat]'eK).length:=(by omega)
 have hci:cellAt t o i=(t.rows[i.toNat]'E)[o]:=(by unfold cellAt;rw[ju E,getD_eq_getElem?_getD,getElem?_eq_getElem Tb];rfl)
 have pO:cellAt t o k=(t.rows[k.toNat]'eK)[o]:=(by unfold cellAt;rw[ju eK,getD_eq_getElem?_getD,getElem?_eq_getElem tJ];rfl)
 have fB:=afH (G:=G) (t.rows[i.toNat]'E)[o] (t.rows[k.toNat]'eK)[o] (U _ (getElem_mem Tb)).1 (Z _ (getElem_mem tJ)).1;have hb0:oP (t.rows[i.toNat]'E)[o] (t.rows[k.toNat]'eK)[o]=0:=(by unfold oP;rw[if_neg (by simp[(U _ (getElem_mem Tb)).2]),(Z _ (getElem_mem tJ)).2])
 unfold Qo at fB;rw[hb0,if_neg w7] at fB;have AU:=akO (t.rows[i.toNat]'E)[o] (t.rows[k.toNat]'eK)[o];unfold cr aY;have aZ:mK t s.down o i k=if s.down=true then -(fh (t.rows[i.toNat]'E)[o] (t.rows[k.toNat]'eK)[o]) else fh (t.rows[i.toNat]'E)[o] (t.rows[k.toNat]'eK)[o]:=by unfold mK;rw[hci,pO]
 refine ay [0,1,2,3,4] ?_;refine cJ [4,8] ?_;refine aM 3 ?_ (h:=by exact(ei 1 (h:=by first|exact .l (j:=i.toNat) (Int.toNat_of_nonneg O).symm E|exact .r (j:=i.toNat) (Int.toNat_of_nonneg O).symm E)));refine aM 7 ?_ (h:=by exact(ei 1 (h:=by first|exact .l (j:=k.toNat) (Int.toNat_of_nonneg wR).symm eK|exact .r (j:=k.toNat) (Int.toNat_of_nonneg wR).symm eK)));refine cA (fB) ?_;refine bB ?_;refine ax [8,31] ?_ ?_<;>intro aP bH
 ·have hd:s.down=true:=aP;refine cJ [7] ?_;refine aM 1 ?_ (h:=by exact(HR rfl ot (Ow (wrap_i64 w4 w4))));refine bB ?_;refine eD [_,_,_] ?_;first|(rw[aZ,hd,if_pos rfl,<-Int.zero_sub];exact⟨rfl,rfl⟩)|(rw[aZ,hd,if_neg w7];exact⟨rfl,rfl⟩)
 have hd:s.down=false:=aP;refine dS [7] [_,_,_] ?_;first|(rw[aZ,hd,if_pos rfl,<-Int.zero_sub];exact⟨rfl,rfl⟩)|(rw[aZ,hd,if_neg w7];exact⟨rfl,rfl⟩)
theorem akQ(fg:D):VP Tryz.prog G 170 [aJ,ae 0,ae 0,fg] (.dF []):=by
 refine bA func170 rfl ntmps170 aO fun X0 w0 bz=>?_;refine ay [0,1,2,3,8] ?_;refine eZ [0,1,2,3] (fun aU _ (z:Nat) aE=>(True)/\aE=(⟨53,(8,ae (0+1))::aU,[]⟩:St)) (fun (z:Nat)=>0) 0 ⟨trivial,rfl⟩ ?_;rintro z _ ⟨_,rfl⟩;refine ax [0,1,2,3,8,14] ?_ ?_<;>intro aP bH
 ·exact z87
 exact z46
theorem af6(fg:D):VP Tryz.prog G 144 [aJ,ae 0,fg] (.dF []):=by
 refine bA func144 rfl ntmps144 aO fun X0 w0 bz=>?_;refine ay [0,1,2,6] ?_;refine ay [0,1,2,6,7,8] ?_;refine eZ [0,1,2,6] (fun aU _ (z:Nat) aE=>(True)/\aE=(⟨63,(7,ae 0)::(8,ae 20)::aU,[]⟩:St)) (fun (z:Nat)=>0) 0 ⟨trivial,rfl⟩ ?_;rintro z _ ⟨_,rfl⟩;refine ax [0,1,2,6,7,8,13] ?_ ?_<;>intro aP bH
 ·exact z87
 refine cW [0,1,2,6] (akQ fg) ?_;refine eZ [0,1,2] (fun aU _ (z:Nat) aE=>(True)/\aE=(⟨63,(6,ae 20)::aU,[]⟩:St)) (fun (z:Nat)=>0) 0 ⟨trivial,rfl⟩ ?_;rintro z _ ⟨_,rfl⟩;refine ax [0,1,2,6,30] ?_ ?_<;>intro bg cM
 ·exact wJ
 exact z46
theorem ajl(fg:D):VP Tryz.prog G 107 [aJ,fg] (.dF []):=by
 refine bA func107 rfl ntmps107 aO fun X0 w0 bz=>?_;refine fW [] ?_;refine cA (af6 fg) ?_;refine kN ?_;exact z46
end Ba
namespace Ba
open Go.Proofs.Tryz
open Go.RowKit V Pk Go.Proofs.YtihmfhcjbmlnaaaGreatDoor.Tr Go.Proofs.YtihmfhcjbmlnaaaGreatDoor.Vl Go.Proofs.YtihmfhcjbmlnaaaGreatDoor.Nm Go.Proofs.YtihmfhcjbmlnaaaGreatDoor.Pc Go.Proofs.YtihmfhcjbmlnaaaGreatDoor.Cd Go.Proofs.YtihmfhcjbmlnaaaGreatDoor.Ex Go.Proofs.YtihmfhcjbmlnaaaGreatDoor.Tw
open Pa (aT aY)
variable {j sz:Nat} {ds:List D}
section mid
variable {P:Program} {G:List (Nat×List Value)} {x:St} {o:Oper} {t b off:Nat} {y:Operand} {B:ag} {pre c post:List D} {d:D}
theorem amj(hp:pre.length=off)(hj:c[j]?=some d):(pre++(c++post))[off+j]?=some d:=by
 subst hp;rw[getElem?_append_right w4,Nat.add_sub_cancel_left,getElem?_append_left (List.getElem?_eq_some_iff.1 hj).1];exact hj
theorem WR{m:List D}(hp:pre.length=off)(hm:sA j c m)(hd:oC sz m ds):((pre++(c++post)).drop (off+j)).take sz=ds:=by
 subst hp;obtain⟨h1,h2⟩:=hd.eq;have h3:=hm.eq;have hl:j+sz<=c.length\/sz=0:=by
  have:=congrArg length h1;rw[length_take,h2,<-h3,length_drop] at this;omega
 rw[<-drop_drop,drop_left' rfl];rcases hl with hl|rfl
 ·rw[drop_append_of_le_length w4,h3,take_append_of_le_length (by rw[<-h3,length_drop];omega)];exact h1
 rw[List.take_zero];rw[List.take_zero] at h1;exact h1
theorem Ek{E:List D}(hp:pre.length=off)(hl:j+ds.length<=c.length)(hc:dY c j ds=E):dY (pre++(c++post)) (off+j) ds=pre++(E++post):=by
 subst hp hc;rw[yZ _ _ _ hl,yZ _ _ _ (by simp only[length_append];omega)];rw[take_append,take_of_length_le w4,Nat.add_sub_cancel_left,take_append_of_le_length w4,Nat.add_assoc,<-drop_drop (l:=pre++(c++post)),drop_left' rfl,drop_append_of_le_length w4];simp only[append_assoc]
theorem qK(k:Nat)(ho:o.op = .load t y:=by exact rfl)(hy:aK x y = .v (.pointer (some ⟨b,off+j,none⟩)):=by exact ot)(ha:tD P t false=true:=by kernel_rfl)(hk:x.S[k]?=some B:=by exact rfl)(hb:B.b=b:=by exact rfl)(dP:B.cs=pre++(c++post):=by exact rfl)(hp:pre.length=off:=by assumption)(hj:c[j]?=some d:=by exact rfl)(hne:isMap B.e=false:=by exact rfl):cu P G x o (.gh k) d :=
 Hg (hne:=hne) ho hy hk hb (jG ha) (by rw[dP];exact amj hp hj)
theorem Aq(k:Nat){m:List D}(ho:o.op = .load t y:=by exact rfl)(hy:aK x y = .v (.pointer (some ⟨b,off+j,none⟩)):=by exact ot)(hn:tw P t sz=true:=by exact Sz.h)(ha:tD P t true=true:=by kernel_rfl)(hk:x.S[k]?=some B:=by exact rfl)(hb:B.b=b:=by exact rfl)(dP:B.cs=pre++(c++post):=by exact rfl)(hp:pre.length=off:=by assumption)(hm:sA j c m:=by exact sZ)(hd:oC sz m ds:=by exact pB)(hne:isMap B.e=false:=by exact rfl):cu P G x o (.gh k) (.agg ds) :=
 Dw (hne:=hne) ho hy hk hb (jG ha) (nG hn) hd.eq.2 (by rw[dP];exact WR hp hm hd)
theorem QN(k:Nat)(ho:o.op = .load t y:=by exact rfl)(hy:aK x y = .v (.pointer (some ⟨b,off,none⟩)):=by exact ot)(hn:tw P t sz=true:=by exact Sz.h)(ha:tD P t true=true:=by kernel_rfl)(hk:x.S[k]?=some B:=by exact rfl)(hb:B.b=b:=by exact rfl)(dP:B.cs=pre++(c++post):=by exact rfl)(hp:pre.length=off:=by assumption)(hd:oC sz c ds:=by exact pB)(hne:isMap B.e=false:=by exact rfl):cu P G x o (.gh k) (.agg ds) :=
 Dw (hne:=hne) ho hy hk hb (jG ha) (nG hn) hd.eq.2 (by rw[dP];exact WR (j:=0) hp .z hd)
end mid
variable {G:List (Nat×List Value)} {m:Int}
noncomputable def iB(t:aA)(row:List Vl):aA×Int :=
 if Pc.dV t.an row≠0 then (t,Pc.dV t.an row) else if jv t.ix (de row) (dG t.ix)=true then (t,9) else if t.rows.length=40 then (t,10)
 else ({t with rows:=t.rows++[row],ix:=iS t.ix (dG t.ix) (de row) t.rows.length},0)
def tC(t:aA)(ad:Option Addr)(cap:Nat):List D:=[aG t.nm,aj 2 cC t.an,aS ad t.rows.length cap,aj 5 cP t.ix.af,ae t.ix.root]
abbrev yl(t:aA)(ad:Option Addr)(cap:Nat)(S:List ag):Prop:=bF 30 1 (t.rows.flatMap eX) t.rows.length ad cap S
theorem pu{r:List Vl}(h:Pc.dV cx r=0):1<=(de r).length/\(de r).length<=100:=by
 refine⟨?_,Yf _⟩;have h4:=qu h;have hz:=Nb h;match r,h4 with
 | [a,b,c,d],_ =>
  have ha:bW a=0:=hz a mem_cons_self;unfold de fS;rw[if_neg bC,if_neg (by simp[vp,ha])];have hl:(eU [a]).length<=43:=(by have:=HZ (l:=[a]) (fun v hv=>by rw[mem_singleton] at hv;rw[hv];exact ha);simpa using this)
  rw[if_neg (by show ¬(eU [a]).length>100;omega)];show 1<=(eU [a]).length;unfold eU Cd.jO;simp
theorem af7:(Tryz.prog.info? 30).map (fun i=>(i.zero,i.size,i.bytes))=some (some (.slice none 0 0),1,24):=by kernel_rfl
theorem MC(hm:(3,marksC)∈G)(hw:(1,wordsC)∈G)(ht:(0,typesC)∈G)(hG:(2,[Value.int .i64 m])∈G)(t:aA){n:Nat}(g:dN t n)(hn:n<=300)(row:List Vl)(wZ:row.length<=1000)(bf:∀v∈row,v.Ok)(bt off E:Nat)(pre post:List D)(hp:pre.length=off)(ad:Option Addr)(cap:Nat)(Sr:List ag)(fQ:yl t ad cap Sr):VC Tryz.prog G 65 [.v (.pointer (some ⟨bt,off,none⟩)),aj 3 cV row] (⟨bt,76,E,pre++(tC t ad cap++post)⟩::Sr) (fun r S=>r=ae (iB t row).2/\((iB t row).2=0->∃iF bj rY,yl (iB t row).1 iF bj rY/\S=⟨bt,76,E,pre++(tC (iB t row).1 iF bj++post)⟩::rY)):=by
 refine bA func65 rfl ntmps65 aO fun X0 w0 bz=>?_;have hko:=fun h=>pu (r:=row) h;have xm:=I2 (G:=G) hm hw ht t.an uu vB row (Nat.le_trans wZ w7);have dy:=ee;have kZ:=g.fm;unfold tC;refine ay [0,1] ?_;refine cJ [0,1,5] ?_;refine aM 3 ?_ (h:=by exact(qK 0));refine cA (xm) ?_;refine bB ?_;refine ax [0,1,5,17] ?_ ?_<;>intro aP bH
 ·have hne:Pc.dV t.an row≠0:=(by simpa using aP)
  have aZ:iB t row=(t,Pc.dV t.an row):=if_pos hne;refine dS [4] [] ?_;rw[aZ];exact⟨rfl,fun h=>absurd h hne⟩
 have hz:Pc.dV t.an row=0:=(by simpa using aP)
 have U:Pc.dV cx row=0:=(by rw[<-g.an];exact hz)
 have eT:=hko U;have FR:=qu U;have I:=B7 (G:=G) hG row w4 w4 bf;refine eI ?_;refine cL ?_;refine cL ?_;rcases jo:jv t.ix (de row) (dG t.ix) with _|_
 ·have gj:=OK (G:=G) g.ix (de row);rw[akD g.ix eT jo] at gj;unfold Tw.cT at gj;have O:=WK (G:=G) g.ix (de row) (t.rows.length:Int);rw[Y7 g.ix hn eT w4 jo] at O;unfold Tw.cT at O;refine fW [0,1,7] ?_;refine aM 3 ?_ (h:=by exact(Aq 0));refine cA (I) ?_;refine cA (gj) ?_;refine bB ?_;refine ax [0,1,30] ?_ ?_<;>intro bg cM
  ·exact wJ
  refine cJ [0,1,36] ?_;refine aM 3 ?_ (h:=by exact(qK 0));refine bB ?_;refine bX ?_ ?_<;>intro cl di
  ·have aZ:iB t row=(t,10):=(by unfold iB;rw[if_neg (by simp[hz]),if_neg zO,if_pos w4])
   refine dS [4] [] ?_;rw[aZ];exact⟨rfl,fun h=>absurd (show(10:Int)=0 from h) w7⟩
  have aZ:iB t row=({t with rows:=t.rows++[row],ix:=iS t.ix (dG t.ix) (de row) t.rows.length},0):=(by unfold iB;rw[if_neg (by simp[hz]),if_neg zO,if_neg w4])
  refine eI ?_;refine cL ?_;refine vH 16 15 [0,1,8,50,51] ?_;refine aM 3 ?_ (h:=by exact(Aq 0));refine cA (I) ?_;refine aM 3 ?_ (h:=by exact(qK 0));refine cA (O) ?_;refine oD 3 ?_;refine rj ?_;refine kN ?_;refine⟨rfl,fun b8=>?_⟩;refine aN 0 [_,_] sizeOf74 ?_;refine ap 70 [0,1,8,9] ?_;refine ax [0,1,8,9,53] ?_ ?_<;>intro da eP
  ·exact absurd da (by simp at da)
  refine az 4 ?_;refine pn (k:=1) (cs':=pre++([aG t.nm,aj 2 cC t.an,aS ad t.rows.length cap,.list 5 ((iS t.ix (dG t.ix) (de row) t.rows.length).af.flatMap cP) (iS t.ix (dG t.ix) (de row) t.rows.length).af.length,ae (iS t.ix (dG t.ix) (de row) t.rows.length).root]++post)) au rfl rfl ot rfl rfl ot rfl rfl sizeOf74 rfl (by show off+3+2<=(pre++(([aG t.nm,aj 2 cC t.an,aS ad t.rows.length cap,aj 5 cP t.ix.af,ae t.ix.root]:List D)++post)).length;simp only[length_append,length_cons,length_nil];omega) (by exact Ek (j:=3) hp aO rfl) ?_;refine ap 70 [0,1] ?_;refine cL ?_;refine iX 9 (aq (take 2 _)) ?_ (fun _ h=>(Sublist.map _ (take_sublist _ _)).subset h);refine iD [0,1,2,3] ?_;refine cm 4 rfl (qK 1) ?_;refine cm 5 rfl eV ?_;refine ew.later rfl ?_;refine bV (i:=6) aD ?_;refine sj call37 (Un row w4) ?_;refine bV (i:=7) aD ?_;refine oZ (cU 0 [_]) [.slice none 0 0] [_] zeroValue30 runUnderlying46 sizeOf30 (fun ru=>?_);refine o8 0 66 1 1 ?_;refine bV (i:=8) aD ?_;refine rz (ls:=t.rows) (new:=[row]) (Sq:=Sr) kR Vs rfl au rfl rfl underlying46 af7 rfl w7 ot fQ (dL (A:=[_,_])) ot bC pI pJ (fun tq uy JQ JR=>?_);refine gS (eM (S1:=[⟨tq,30,uy*1,flatMap eX (t.rows++[row])⟩]) (A:=[_,_])) ?_;refine gd ?_;refine aF 2 ?_
  refine pn (k:=1) (cs':=pre++((([aG t.nm,aj 2 cC t.an,aS ad t.rows.length cap,.list 5 ((iS t.ix (dG t.ix) (de row) t.rows.length).af.flatMap cP) (iS t.ix (dG t.ix) (de row) t.rows.length).af.length,ae (iS t.ix (dG t.ix) (de row) t.rows.length).root]:List D)).set 2 (aS (some ⟨tq,0,none⟩) ((t.rows++[row])).length uy)++post)) au rfl rfl ot rfl rfl ot rfl rfl sizeOf46 rfl (by show off+2+1<=(pre++(([aG t.nm,aj 2 cC t.an,aS ad t.rows.length cap,.list 5 ((iS t.ix (dG t.ix) (de row) t.rows.length).af.flatMap cP) (iS t.ix (dG t.ix) (de row) t.rows.length).af.length,ae (iS t.ix (dG t.ix) (de row) t.rows.length).root]:List D)++post)).length;simp only[length_append,length_cons,length_nil];omega) (by exact Ek (j:=2) hp aO rfl) ?_;refine ap 70 [] ?_;refine dS [4] (⟨bt,76,E,pre++(_++post)⟩::[⟨tq,30,uy*1,flatMap eX (t.rows++[row])⟩]) ?_;rw[aZ];exact⟨rfl,fun _=>⟨(some ⟨tq,0,none⟩),uy,[⟨tq,30,uy*1,flatMap eX (t.rows++[row])⟩],(cj JQ JR),rfl⟩⟩
 obtain⟨rw0,Z⟩:=(DL g.ix (de row)).1 jo;have gj:=OK (G:=G) g.ix (de row);rw[WJ g.ix eT Z] at gj;unfold Tw.cT at gj;have aZ:iB t row=(t,9):=(by unfold iB;rw[if_neg (by simp[hz]),if_pos jo])
 refine fW [0,1,7] ?_;refine aM 3 ?_ (h:=by exact(Aq 0));refine cA (I) ?_;refine cA (gj) ?_;refine bB ?_;refine ax [0,1,30] ?_ ?_<;>intro bg cM
 ·refine dS [4] [] ?_;rw[aZ];exact⟨rfl,fun h=>absurd (show(9:Int)=0 from h) w7⟩
 exact absurd bg (by simp at bg)
end Ba
namespace Ba
open Go.Proofs.Tryz
open Go.RowKit V Pk Tr Vl Go.Proofs.YtihmfhcjbmlnaaaGreatDoor.Nm Pc Cd Ex Tw
open Pa (aT aY)
section
variable {G:List (Nat×List Value)} {m:Int}
variable {t:aA} {n:Nat} {i:Int}
theorem N9{t:aI}(g:jg t n){x y:K×Int}(hx:x∈er t)(hy:y∈er t)(h:x.1=y.1):x=y:=by
 have hr:(er t).Pairwise (fun a b=>bI a.1 b.1):=Mz g.val;obtain⟨i,hi,rfl⟩:=mem_iff_getElem.1 hx;obtain⟨j,hj,rfl⟩:=mem_iff_getElem.1 hy;have hp:=pairwise_iff_getElem.1 hr;rcases Nat.lt_trichotomy i j with q|q|q
 ·have:=hp i j hi hj q;rw[h] at this;exact absurd this (jK _)
 ·subst q;rfl
 have:=hp j i hj hi q;rw[h] at this;exact absurd this (jK _)
theorem gw.jA(g:dN t n)(h:gw t i):(de (rowAt t i),i)∈er t.ix:=by
 obtain⟨h0,h1,h2⟩:=h;have:=(g.row _ h1 h2).2.2;rw[ju h1];rwa [Int.toNat_of_nonneg h0] at this
noncomputable def qd(t:aA)(i:Int):aA:={t with rows:=t.rows.set i.toNat [],ix:=iT t.ix (dG t.ix) (de (rowAt t i))}
noncomputable def uE:aA->List Int->aA
 | t,[]=>t
 | t,i::r=>uE (qd t i) r
noncomputable def n9(t:aA)(w:List aQ):aA×Int×Int:=if (av t w).2≠0 then (t,0,(av t w).2) else (uE t (av t w).1,(av t w).1.length,0)
theorem amk(g:dN t n)(h:gw t i):jg (iT t.ix (dG t.ix) (de (rowAt t i))) n/\∀x,x∈er (iT t.ix (dG t.ix) (de (rowAt t i)))↔x∈er t.ix/\x.1≠de (rowAt t i) :=
 M9 g.ix ((DK g.ix.val _).2 ⟨i,h.jA g⟩)
theorem Vj(g:dN t n)(h:gw t i):dN (qd t i) n:=by
 obtain⟨d1,d2⟩:=amk g h;have I:=h.jA g;obtain⟨h0,h1,h2⟩:=h;refine⟨g.nm,g.an,by show(t.rows.set _ _).length<=40;rw[length_set];exact g.fm,d1,fun j hj hne=>?_,fun x hx=>?_⟩
 ·simp only[qd] at hj hne |-
  (first|rw[length_set] at hj|(unfold aj at hj;rw[length_set] at hj))
  rw[getElem_set] at hne;split at hne
  ·exact absurd rfl hne
  rename_i E;have he:(t.rows.set i.toNat [])[j]'EU=t.rows[j]:=getElem_set_ne E _;rw[he];obtain⟨p1,p2,p3⟩:=g.row j hj hne;refine⟨p1,p2,(d2 _).2 ⟨p3,fun e=>?_⟩⟩;have:=N9 g.ix p3 I e;simp only[Prod.mk.injEq] at this;omega
 obtain⟨x1,O⟩:=(d2 x).1 hx;obtain⟨p0,p1,p2,p3⟩:=g.jA x x1;have E:i.toNat≠x.2.toNat:=fun e=>by
  refine O ?_;rw[p3,ju h1];congr 1;simp only[e]
 refine⟨p0,by show _<(t.rows.set _ _).length;rw[length_set];exact p1,?_⟩;have he:(t.rows.set i.toNat [])[x.2.toNat]'(by rw[length_set];exact p1)=t.rows[x.2.toNat]:=getElem_set_ne E _;show(t.rows.set i.toNat [])[x.2.toNat]'(by rw[length_set];exact p1)≠[]/\x.1=de ((t.rows.set i.toNat [])[x.2.toNat]'(by rw[length_set];exact p1));rw[he];exact⟨p2,p3⟩
theorem Ym{j:Int}(h:gw t j)(E:j≠i)(hi:0<=i):gw (qd t i) j:=by
 obtain⟨h0,h1,h2⟩:=h;refine⟨h0,by show _<(t.rows.set _ _).length;rw[length_set];exact h1,?_⟩;show(t.rows.set i.toNat [])[j.toNat]'(by rw[length_set];exact h1)≠[];have e:=getElem_set_ne (l:=t.rows) (i:=i.toNat) (j:=j.toNat) (a:=[]) w4 (by rw[length_set];exact h1);rw[e];exact h2
theorem HK(g:dN t n)(w:List aQ):(av t w).1.Nodup:=(Ih g w).imp fun h e=>by rw[e] at h;exact jK _ h
theorem ahs(hm:(3,marksC)∈G)(hw:(1,wordsC)∈G)(ht:(0,typesC)∈G)(hG:(2,[Value.int .i64 m])∈G)(t:aA)(g:dN t n)(s:aT)(ho:∀o∈s.ah,o.nm.size<=maxLen)(gM:∀o∈s.ah,o.v.Ok)(bt off U:Nat)(pre post:List D)(hp:pre.length=off)(ad:Option Addr)(cap:Nat)(Sr:List ag)(fQ:yl t ad cap Sr):VC Tryz.prog G 68 [.v (.pointer (some ⟨bt,off,none⟩)),.agg (aY s)] (⟨bt,76,U,pre++(tC t ad cap++post)⟩::Sr) (fun r S=>r = .dF [ae (n9 t s.ah).2.1,ae (n9 t s.ah).2.2]/\((n9 t s.ah).2.2=0->∃iF bj rY,yl (n9 t s.ah).1 iF bj rY/\S=⟨bt,76,U,pre++(tC (n9 t s.ah).1 iF bj++post)⟩::rY)):=by
 refine bA func68 rfl ntmps68 aO fun X0 w0 bz=>?_;have dy:=ee;have kZ:=g.fm;have yR:=Ej g s.ah;have yP:=ug g s.ah;have hnd:=HK g s.ah;unfold tC;unfold aY;refine cq ?_;refine dm [_,_,_,_,_,_,_,_,_,_,_,_] (fun b3=>?_);refine ap 56 [0,3] ?_;refine cL ?_;refine iX 9 (aq (take 2 _)) ?_ (fun _ h=>(Sublist.map _ (take_sublist _ _)).subset h);refine iD [0,1] ?_;refine cm 2 rfl (QN 1) ?_;refine iD [3,4] ?_;refine ew.later rfl ?_;refine bV (i:=5) aD ?_;refine afd rfl au rfl rfl rfl call106 (OO hm hw ht hG t g s.ah ho gM) (fun r S h=>h.flat) ⟨⟨_,ot,(xz ⟨fN,fN,n8 fQ (dg kR _) (fun B hB=>by simp[hB]),fN,fN,trivial⟩:View _ (.agg [aG t.nm,aj 2 cC t.an,aS ad t.rows.length cap,aj 5 cP t.ix.af,ae t.ix.root]) (.agg (cr t)))⟩,⟨_,ot,fN⟩,trivial⟩ ?_;rintro _ Sx ⟨eJ,dW,rfl,eW⟩;refine gS (lP (A:=[_,_])) ?_;refine dX 6 rfl eV ?_;refine dX 7 rfl RL ?_;refine dX 8 rfl RL ?_;refine gd ?_;refine bL [0,6,7] ?_;refine ax [0,6,7,20] ?_ ?_<;>intro aP bH
 ·have hne:(av t s.ah).2≠0:=(by simpa using aP)
  have aZ:n9 t s.ah=(t,0,(av t s.ah).2):=if_pos hne;refine dS [4,5] [] ?_;rw[aZ];exact⟨rfl,fun h=>absurd h hne⟩
 have hz:(av t s.ah).2=0:=(by simpa using aP)
 have aZ:n9 t s.ah=(uE t (av t s.ah).1,((av t s.ah).1.length:Int),0):=if_neg (fun h=>h hz);refine eI ?_;refine cL ?_;refine cL ?_;refine mS (t:=6) (Sq:=Sx) lk eW (dg Tw.fp _) (qO (A:=[_,_])) ?_;refine uK ?_;refine bL [0,6,22,23,24] ?_;refine eZ [0,6,22,23] (fun aU _ (aR:Nat×aA×Option Addr×Nat×List ag) aE=>match aR with|(k,u,O,E,I)=>(k<=(av t s.ah).1.length)/\(uE u ((av t s.ah).1.drop k)=uE t (av t s.ah).1)/\(dN u n)/\(∀i∈(av t s.ah).1.drop k,gw u i)/\(yl u O E I)/\aE=(⟨56,(24,ae (k:Nat))::aU,(⟨b3,34,12,aY s⟩::⟨bt,76,U,pre++([aG u.nm,aj 2 cC u.an,aS O u.rows.length E,aj 5 cP u.ix.af,ae u.ix.root]++post)⟩::I)⟩:St)) (fun (aR:Nat×aA×Option Addr×Nat×List ag)=>match aR with|(k,u,O,E,I)=>(av t s.ah).1.length-k) (0,t,ad,cap,Sr) ⟨(Nat.zero_le _),rfl,g,yP,fQ,rfl⟩ ?_;rintro⟨k,u,O,E,I⟩ _ ⟨hk,abA,gu,mN,yS,rfl⟩;refine ax [0,6,22,23,24,25] ?_ ?_<;>intro bg cM
 ·have aa:k<(av t s.ah).1.length:=(by omega)
  have iG:(av t s.ah).1.drop k=((av t s.ah).1[k]'aa)::(av t s.ah).1.drop (k+1):=drop_eq_getElem_cons aa;have Z:gw u ((av t s.ah).1[k]'aa):=mN _ (by rw[iG];exact mem_cons_self);obtain⟨iU,eY,mq⟩:=id Z;obtain⟨br,rfl,Bc,wT,rfl⟩:=yS.pos w4;have gu2:=Vj gu Z;have iv:(qd u ((av t s.ah).1[k]'aa)).rows.length=u.rows.length:=length_set;have anE:uE (qd u ((av t s.ah).1[k]'aa)) ((av t s.ah).1.drop (k+1))=uE t (av t s.ah).1:=(by rw[<-abA,iG];rfl)
  have QD:∀i∈(av t s.ah).1.drop (k+1),gw (qd u ((av t s.ah).1[k]'aa)) i:=fun i hi=>Ym (mN i (by rw[iG];exact mem_cons_of_mem _ hi)) (fun e=>by subst e;have h9:=hnd.sublist (drop_sublist k _);rw[iG,nodup_cons] at h9;exact h9.1 hi) iU;have FF:yl (qd u ((av t s.ah).1[k]'aa)) (some ⟨br,0,none⟩) E [⟨br,30,E*1,(qd u ((av t s.ah).1[k]'aa)).rows.flatMap eX⟩]:=cj (by show(u.rows.set _ _).length<=_;rw[length_set];exact Bc) wT;obtain⟨go1,G1⟩:=gw.ok gu Z;have yT:=B7 (G:=G) hG (u.rows[((av t s.ah).1[k]'aa).toNat]) (by rw[<-ju eY];omega) (by rw[<-ju eY];omega) (fun v hv=>(G1 v (by rw[ju eY];exact hv)).1);rw[show de (u.rows[((av t s.ah).1[k]'aa).toNat])=de (rowAt u ((av t s.ah).1[k]'aa)) from by rw[ju eY]] at yT;have Be:=WL (G:=G) gu.ix (de (rowAt u ((av t s.ah).1[k]'aa)));rw[Ya gu.ix (pu (by rw[ju eY];exact(gu.row _ eY mq).1)) ((DL gu.ix _).2 ⟨_,Z.jA gu⟩)] at Be;unfold Tw.cT at Be;have avd:=gu.fm;refine ay [0,6,9,22,23,24] ?_;refine cL ?_;refine nj 17 [0,6,9,22,23,24,29,43] ?_;refine aM 4 ?_ (h:=by exact(Aq 1));refine aM 3 ?_ (h:=by exact(qK 1));refine aM 1 ?_ (h:=Q6);refine aM 0 ?_ (h:=by exact(ez (mk:=Op.load 30) rfl ot (kV (k:=2) (i:=((av t s.ah).1[k]'aa).toNat) (ls:=u.rows) kR rfl rfl rfl isAgg30 eY rfl)));refine cA (yT) ?_;refine cA (Be) ?_
  refine bB ?_;refine aF 2 ?_;refine pn (k:=1) (cs':=pre++([aG u.nm,aj 2 cC u.an,aS (some ⟨br,0,none⟩) (qd u ((av t s.ah).1[k]'aa)).rows.length E,.list 5 ((qd u ((av t s.ah).1[k]'aa)).ix.af.flatMap cP) (qd u ((av t s.ah).1[k]'aa)).ix.af.length,ae (qd u ((av t s.ah).1[k]'aa)).ix.root]++post)) au rfl rfl ot rfl rfl ot rfl rfl sizeOf74 rfl (by show off+3+2<=(pre++(([aG u.nm,aj 2 cC u.an,aS (some ⟨br,0,none⟩) u.rows.length E,aj 5 cP u.ix.af,ae u.ix.root]:List D)++post)).length;simp only[length_append,length_cons,length_nil];omega) (by exact Ek (j:=3) hp aO (by rw[iv];rfl)) ?_;refine ap 56 [0,6,9,22,23,24] ?_;refine dB 3 ?_;refine bS (qK 1) ?_;refine aF 1 ?_;refine bS (ei 1 (h:=by first|exact .l (j:=((av t s.ah).1[k]'aa).toNat) (Int.toNat_of_nonneg iU).symm (by rw[iv];exact eY)|exact .r (j:=((av t s.ah).1[k]'aa).toNat) (Int.toNat_of_nonneg iU).symm (by rw[iv];exact eY))) ?_;refine pn (k:=2) (cs':=(u.rows.flatMap eX).set ((av t s.ah).1[k]'aa).toNat (aJ)) au rfl rfl ot rfl rfl bP rfl rfl sizeOf30 rfl (by show 0+((av t s.ah).1[k]'aa).toNat*1+1<=(u.rows.flatMap eX).length;rw[dg kR];omega) (by show(u.rows.flatMap eX).set (0+((av t s.ah).1[k]'aa).toNat*1) _=_;rw[Nat.zero_add,Nat.mul_one]) ?_
  refine mT (k:=2) (cs':=(qd u ((av t s.ah).1[k]'aa)).rows.flatMap eX) (S':=[_,_,_]) rfl (by have:=Xz (bQ (sz:=3)) (u.rows.flatMap eX) ((av t s.ah).1[k]'aa).toNat;rw[show(u.rows.flatMap eX).set ((av t s.ah).1[k]'aa).toNat (.list 3 [] 0)=(u.rows.set ((av t s.ah).1[k]'aa).toNat []).flatMap eX from by have:=rF kR u.rows [] eY;rw[Nat.mul_one] at this;exact this] at this;exact this) rfl ?_;refine ap 56 [0,6,22,23,24] ?_;refine bM [0,6,22,23,24] ?_;refine⟨((k+1),(qd u ((av t s.ah).1[k]'aa)),(some ⟨br,0,none⟩),E,[⟨br,30,E*1,(qd u ((av t s.ah).1[k]'aa)).rows.flatMap eX⟩]),_,cR,aL,w4,anE,gu2,QD,FF,rfl⟩
 have lG:u=uE t (av t s.ah).1:=(by rw[<-abA,drop_of_length_le w4];rfl)
 subst lG;refine dS [4,5] (⟨bt,76,U,pre++(_++post)⟩::I) ?_;rw[aZ];exact⟨rfl,fun _=>⟨O,E,I,yS,rfl⟩⟩
end
variable {ops:List aQ} {row:List Vl}
theorem Nc:∀(i:Nat) (cs:List dc) (vs:List Vl),cs.length=vs.length->(Pc.pH i cs vs=0↔∀j (h1:j<cs.length) (h2:j<vs.length),Pc.mh (i+j) cs[j] vs[j]=0)
 | _,[],[],_=>⟨fun _ j h1=>absurd h1 (Nat.not_lt_zero j),fun _=>rfl⟩
 | _,[],_::_,h=>by cases h
 | _,_::_,[],h=>by cases h
 | i,c::cs,v::vs,h=>by
  rw[Pc.pH];have ih:=Nc (i+1) cs vs (Nat.succ.inj h);by_cases he:Pc.mh i c v=0
  ·rw[if_neg (fun h=>h he),ih];constructor
   ·intro k j h1 h2;cases j with
    | zero=>exact he
    | succ j=>have:=k j (Nat.lt_of_succ_lt_succ h1) (Nat.lt_of_succ_lt_succ h2);rw[show i+(j+1)=i+1+j by omega];exact this
   intro k j h1 h2;have:=k (j+1) (Nat.succ_lt_succ h1) (Nat.succ_lt_succ h2);rw[show i+(j+1)=i+1+j by omega] at this;exact this
  rw[if_pos he];exact⟨fun h=>absurd h he,fun k=>absurd (k 0 (Nat.succ_pos _) (Nat.succ_pos _)) he⟩
theorem Oa{r:List Vl}:Pc.dV cx r=0↔r.length=4/\∀j (h1:j<cx.length) (h2:j<r.length),Pc.mh j cx[j] r[j]=0:=by
 constructor
 ·intro h;have h4:=qu h;unfold Pc.dV at h;rw[if_neg wA,if_neg vg,Nc 0 cx r (by rw[h4];rfl)] at h;refine⟨h4,fun j h1 h2=>?_⟩;have:=h j h1 h2;rwa [Nat.zero_add] at this
 intro ⟨h4,h⟩;unfold Pc.dV;rw[if_neg wA,if_neg vg,Nc 0 cx r (by rw[h4];rfl)];intro j h1 h2;rw[Nat.zero_add];exact h j h1 h2
theorem akR{i:Nat}{c:dc}{v:Vl}(h:Pc.mh i c v=0):lE c.k v:=by
 unfold Pc.mh at h;by_cases h1:bW v=0
 ·rw[if_neg (fun e=>e h1)] at h;by_cases h2:v.k≠c.k/\(i=0\/v.k≠0)
  ·rw[if_pos h2] at h;cases h
  exact⟨h1,by omega⟩
 rw[if_pos h1] at h;exact absurd h h1
theorem akS{r:List Vl}(h:Pc.dV cx r=0):Js cx r:=fun i=>by
 obtain⟨h4,hf⟩:=Oa.1 h;have hc:cx.length=4:=rfl;rw[getD_eq_getElem?_getD,getD_eq_getElem?_getD];by_cases hi:i<4
 ·rw[getElem?_eq_getElem w4,getElem?_eq_getElem w4];exact akR (hf i w4 w4)
 rw[getElem?_eq_none w4,getElem?_eq_none w4];exact Eu
theorem Yn{r:List Vl}(h:Pc.dV cx r=0){c:Nat}(hc:c<cx.length){v:Vl}(hv:lE cx[c].k v)(h0:c=0->v.k≠0):Pc.dV cx (r.set c v)=0:=by
 obtain⟨h4,hf⟩:=Oa.1 h;refine Oa.2 ⟨by rw[length_set];exact h4,fun j h1 h2=>?_⟩
 (first|rw[length_set] at h2|(unfold aj at h2;rw[length_set] at h2))
 rw[getElem_set];split
 ·rename_i e;subst e;unfold Pc.mh;rw[if_neg (fun e=>e hv.1),if_neg (fun e=>?_)];have:=hv.2;have:=e.2;have:=e.1;by_cases h9:c=0
  ·have:=h0 h9;omega
  omega
 exact hf j h1 h2
theorem Ii:∀(ops:List aQ) (h:Int),gH h ops=0->∀o∈ops,∃h',ga h' o=0
 | [],_,_,o,ho=>by cases ho
 | x::r,h,hx,o,ho=>by
  rw[gH] at hx;by_cases he:ga h x=0
  ·rw[if_pos he] at hx;rcases mem_cons.1 ho with rfl|ho
   ·exact⟨_,he⟩
   exact Ii r _ hx o ho
  rw[if_neg he] at hx;exact absurd hx he
theorem aht{l:List dc}(lV:∀o∈ops,o.nm.size<=maxLen)(gM:∀o∈ops,o.v.Ok)(hk:(dZ l ops).2=0):∀o∈ops,Ck l o:=fun o ho=>by
 obtain⟨_,hx,he⟩:=IA hk;obtain⟨h',h1⟩:=Ii ops 0 (zo hx).2 o ho;obtain⟨_,h2,h3,_⟩:=zh h1;exact⟨lV o ho,gM o ho,HE h3,h2.1,h2.2,UQ (by rw[he] at hk;exact hk) o ho⟩
theorem WS{l:List dc}{row:List Vl}(hr:∀v∈row,v.Ok):∀(ops:List aQ),(∀o∈ops,o.v.Ok)->∀st:List Vl,(∀v∈st,v.Ok)->(jH aX (ij l row) ops st).1.Ok
 | [],_,st,ff=>NM ff 0
 | o::r,hg,st,ff=>by
  have k8:(ij l row o (fT aX o.k st) (fU aX o.k st)).1.Ok:=XR hr (hg o mem_cons_self) (NN ff _) (NQ ff _);by_cases hz:(ij l row o (fT aX o.k st) (fU aX o.k st)).2=0
  ·rw[Ef hz];refine WS hr r (fun x hx=>hg x (mem_cons_of_mem _ hx)) _ fun v hv=>?_;rcases mem_append.1 hv with hv|hv
   ·exact ff v (mem_of_mem_take hv)
   rw[mem_singleton] at hv;rw[hv];exact k8
  rw[MX hz];exact wz
theorem akT{l:List dc}(hr:∀v∈row,v.Ok)(gM:∀o∈ops,o.v.Ok):(gl l row ops).1.Ok:=by
 unfold gl;repeat' split
 all_goals first|exact wz|exact WS hr ops gM [] (fun v hv=>by cases hv)
theorem ajm(lV:∀o∈ops,o.nm.size<=maxLen)(gM:∀o∈ops,o.v.Ok)(hw:Pc.dV cx row=0)(hk:(dZ cx ops).2=0)(he:(gl cx row ops).2=0):lE (dZ cx ops).1 (gl cx row ops).1:=by
 obtain⟨_,_,_,h4⟩:=agL D3 hw (akS hw) (aht lV gM hk) (IA hk).2.1;obtain⟨_,h5|h5⟩:=h4 hk
 ·rw[h5] at he;cases he
 exact h5.2
def jN(t:aA)(c:Int)(e:List aQ):List Vl->List Int->List Vl×Int
 | acc,[]=>(acc,0)
 | acc,i::r=>if (gl t.an (rowAt t i) e).2≠0 then ([],(gl t.an (rowAt t i) e).2) else if c=0/\(gl t.an (rowAt t i) e).1.k=0 then ([],4) else jN t c e (acc++[(gl t.an (rowAt t i) e).1]) r
def uF(t:aA)(i:Int)(c:Nat)(v:Vl):aA:={t with rows:=t.rows.set i.toNat ((rowAt t i).set c v)}
def oV(c:Nat):aA->List Int->List Vl->aA
 | t,i::r,v::s=>oV c (uF t i c v) r s
 | t,_,_=>t
noncomputable def qy(t:aA):aI->List Int->aI
 | x,[]=>x
 | x,i::r=>qy t (iT x (dG x) (de (rowAt t i))) r
noncomputable def mg:aA->List Int->List Vl->aA×Int
 | t,i::r,v::s=>if jv t.ix (de (rowAt (uF t i 0 v) i)) (dG t.ix)=true then (t,9) else mg {uF t i 0 v with ix:=iS t.ix (dG t.ix) (de (rowAt (uF t i 0 v) i)) i} r s
 | t,_,_=>(t,0)
noncomputable def jb(t:aA)(s:aT):aA×Int×Int :=
 if bE t.an s.set<0 then (t,0,8) else if (dZ t.an s.bG).2≠0 then (t,0,(dZ t.an s.bG).2)
 else if (dZ t.an s.bG).1≠(t.an.getD (bE t.an s.set).toNat ⟨⟨#[]⟩,0⟩).k/\(dZ t.an s.bG).1≠0 then (t,0,4)
 else if (av t s.ah).2≠0 then (t,0,(av t s.ah).2)
 else if (jN t (bE t.an s.set) s.bG [] (av t s.ah).1).2≠0 then (t,0,(jN t (bE t.an s.set) s.bG [] (av t s.ah).1).2)
 else if 0<bE t.an s.set then (oV (bE t.an s.set).toNat t (av t s.ah).1 (jN t (bE t.an s.set) s.bG [] (av t s.ah).1).1,(av t s.ah).1.length,0)
 else if (mg {t with ix:=qy t t.ix (av t s.ah).1} (av t s.ah).1 (jN t (bE t.an s.set) s.bG [] (av t s.ah).1).1).2≠0 then (t,0,(mg {t with ix:=qy t t.ix (av t s.ah).1} (av t s.ah).1 (jN t (bE t.an s.set) s.bG [] (av t s.ah).1).1).2)
 else ((mg {t with ix:=qy t t.ix (av t s.ah).1} (av t s.ah).1 (jN t (bE t.an s.set) s.bG [] (av t s.ah).1).1).1,(av t s.ah).1.length,0)
end Ba
end Go.Proofs.YtihmfhcjbmlnaaaGreatDoor
