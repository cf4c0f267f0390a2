/-
  What the proof of LimitNone leans on, part 7 of 8: walks of the program's functions at the level of values, and plain facts of what they compute.
-/
import Derived.Test.YtdgichenhdikgaaGreatDoorPLimitNone6
set_option linter.unusedVariables false
set_option linter.unusedSimpArgs false
set_option maxRecDepth 100000
set_option maxHeartbeats 4000000
namespace Go.Proofs.YtdgichenhdikgaaGreatDoor.Tw
open List
open Go.Proofs.Tryz
open Go.RowKit V Tr Pk
variable {t u:aG} {h:Nat} {k up:K} {row:Int}
noncomputable def oG(t:aG)(k:K)(row:Int)(h:Nat):aG×Int:=if lg t k=0 then (if row<0 then (vz,3) else if ik t k h=true then (vz,9) else if 4000<(gB t h k row).ag.length then (vz,10) else (gB t h k row,0)) else (vz,lg t k)
theorem adq{ls:List Int}{r:D}{S:List ah}(h:gd cI 3 1 ls r S):kE r=true∧∀B∈S,∀d∈B.cs,kE d=true:=by
 obtain⟨ad,cap,rfl,ho⟩:=h;refine⟨rfl,fun B E d hd=>?_⟩;rcases ho with ⟨_,_,_,_,rfl⟩|⟨b,_,_,_,rfl⟩
 ·cases E
 rw[mem_singleton] at E;subst E;obtain⟨n,_,hn⟩:=mem_flatMap.1 hd;rw[cI,mem_singleton] at hn;subst hn;rfl
theorem OY(v:Valid t h)(hf:ik t k h=false):∀x∈kL t h,x.1≠k:=fun x hx e=>by
 have:ik t k h=true:=(DT v k).2 ((AL v k).2 ⟨x.2,by rw[←e];exact hx⟩);rw[hf] at this;cases this
theorem aaf{G:List (Nat×List Value)}(L:List aB)(b:Nat)(root i:Int)(ad:Option Addr)(cap:Nat)(Sx:List ah)(hi:0≤i∧i<L.length)(p:cY)(E:(L[i.toNat]'w4).p=p)(hn:L.length≤10000)(er:tJ L ad cap Sx)(aT:∀o∈L,qA o)(h5:p.keys.length=5)(dX:p.leaf=true→p.kids.length=5)(I:p.leaf=false→p.kids.length=6)(O:∀k∈p.keys,k.length≤100)(U:p.high.length≤100) :
 VC Tryz.prog G 126 [dJ b,ae i] (⟨b,51,2,[aN ad L.length cap,ae root]⟩::(Sx++L.flatMap bO)) (UX L b root i.toNat p):=by
 subst E;exact abL L b root i ad cap Sx hi hn er aT h5 dX I O U
theorem abM{aD:Int}(e:kj t k row h (h+1)=(u,some (up,aD)))(hr:u.root=t.root):gB t h k row=⟨u.ag++[⟨false,[up],[t.root,aD],[],-1⟩],u.ag.length⟩:=by
 unfold gB;rw[←Qp,e];show(⟨u.ag++[⟨false,[up],[u.root,aD],[],-1⟩],u.ag.length⟩:aG)=_;rw[hr]
theorem adr{aD:Int}{m:Nat}(hm:m≤h)(e:kj t k row h m=(u,some (up,aD)))(h4:(bC (u.pg (de t k h t.root m)) up aD).keys.length≤4):gB t h k row=u.set (de t k h t.root m) (bC (u.pg (de t k h t.root m)) up aD):=by
 have:=OU hm e;rw[Io h4] at this;unfold gB;rw[OV (h-m) (m+1) w4 w4 this];rfl
theorem abN{aD:Int}{m:Nat}(hm:m≤h)(e:kj t k row h m=(u,some (up,aD)))(h4:¬(bC (u.pg (de t k h t.root m)) up aD).keys.length≤4) :
  kj t k row h (m+1)=(jl u (de t k h t.root m) (bn (bC (u.pg (de t k h t.root m)) up aD) u.ag.length) (bq (bC (u.pg (de t k h t.root m)) up aD)),some (je (bC (u.pg (de t k h t.root m)) up aD),(u.ag.length:Int))):=by
 rw[OU hm e,HL h4]
variable {G:List (Nat×List Value)}
theorem Yj:(Tryz.prog.info? 153).map (fun i=>(i.zero,i.size,i.bytes))=some (some (.agg #[.bool false,.slice none 0 0,.slice none 0 0,.slice none 0 0,.int .i64 0]),5,88):=by kernel_rfl
theorem HS(t:aG)(h:Nat)(k:K)(row:Int)(hb:∀p∈t.ag,p.keys.length≤maxLen∧p.kids.length≤maxLen)(hv:gm t=0→Valid t h):VC Tryz.prog G 84 [.agg [ax 5 cP t.ag,ae t.root],ax 1 cB k,ae row] [] (B4 (oG t k row h)):=by
 refine VC.body func84 rfl ntmps84 aO fun X0 w0 aY=>?_;have ff:=Hs (G:=G) t k hb;unfold cT at ff;have dy:=dY;refine cf ?_;refine OD.box (ds:=[_,_]) ap rfl rfl ot rfl rfl (fun b3=>?_);refine OD.alloc (ds:=[_,_]) ap rfl rfl zeroValue51 rfl (fun b6=>?_);refine an 131 [1,2,3,6] ?_;refine cW [1,2,3,6,8] (ff) ?_;refine af [1,2,3,6,8,23] ?_;refine au ?_ ?_<;>intro aP bF
 ·have hn:¬lg t k=0:=(by simpa using aP)
  refine aC 2 ?_;refine aK 0 [_,_] sizeOf51 ?_;refine an 131 [6,7] ?_;refine aI [] ?_;unfold oG;rw[if_neg hn];exact yF _
 have hz:lg t k=0:=(by simpa using aP)
 obtain⟨hc,M8⟩:=OX hz;have v:=hv hc;have B5:=Iu M8;have fR:=qI (G:=G) t h v k w4 (DU v k);unfold cT at fR;have ani:=v.high;have anj:=v.nC;refine af [1,2,3,6,27] ?_;refine au ?_ ?_<;>intro aX cJ
 ·have u3:row<0:=(by omega)
  refine aC 1 ?_;refine aK 0 [_,_] sizeOf51 ?_;refine an 131 [6,7] ?_;refine aI [] ?_;unfold oG;rw[if_pos hz,if_pos u3];exact yF _
 have u3:0≤row:=(by omega)
 refine cW [1,2,3,6,11] (fR) ?_;refine af [1,2,3,6,36] ?_;refine au ?_ ?_<;>intro cr cU
 ·have iQ:ik t k h=true:=cr;refine aC 1 ?_;refine aK 0 [_,_] sizeOf51 ?_;refine an 131 [6,7] ?_;refine aI [] ?_;unfold oG;rw[if_pos hz,if_neg w4,if_pos iQ];exact yF _
 have iQ:ik t k h=false:=cr;have hne:=OY v iQ;refine aC 1 ?_;refine OD.call ap rfl rfl rfl call121 (E4 t h v) ⟨ot,trivial⟩ (eO _) ?_;rintro _ _ ⟨L,ad,cap,Sx,rfl,er,aT,hL,rfl⟩;refine OD.perm (ee (A:=[_,_])) ?_;refine OD.alloc (ds:=[_,_]) ap rfl rfl zeroValue51 rfl (fun um=>?_);refine aK 0 [_,_] sizeOf51 ?_;refine an 131 [1,2,6,12] ?_;refine aC 2 ?_;refine OD.JX ap rfl rfl rfl call122 (RL t h v k) (fun r S=>adq) ⟨⟨_,ot,(by have:=JC (root:=t.root) er aT (fun B hB=>mem_cons_of_mem ⟨um,51,2,[aN ad L.length cap,ae t.root]⟩ (mem_cons_of_mem ⟨b6,51,2,[bB,ae 0]⟩ (mem_cons_of_mem ⟨b3,51,2,[ax 5 cP t.ag,ae t.root]⟩ hB)));rw[hL] at this;exact this)⟩,⟨_,ot,eP⟩,trivial⟩ ?_;rintro _ Sw ⟨aw,cw,rfl,how⟩;refine OD.iq (t:=42) (Sq:=Sw) lk how (cy eA _) (Perm.refl _) ?_;refine an 131 [1,2,6,12,13] ?_;refine cW [6,12,13,14,15] (jS k w4) ?_;refine jQ [6,12] (fun aW _ aJ=>∃(L:List aB),∃(ad:Option Addr),∃(cap:Nat),∃(Sx:List ah),∃(root:Int),(tJ L ad cap Sx)∧(∀o∈L,qA o)∧(gB t h k row=⟨L.map aB.p,root⟩)∧(L.length≤10000)∧aJ=(⟨131,aW,(⟨um,51,2,[aN ad L.length cap,ae root]⟩::⟨b6,51,2,[bB,ae 0]⟩::(Sx++L.flatMap bO))⟩:St)) ?_ ?_
 ·refine cR [6,12,13,14,15,16] ?_;refine aR 2 ?_ (h:=by exact(c9 (r:=.int .i64 ((h:Nat):Int)) rfl ot bI (fY (by rw[Es,show(((h+1:Nat):Int)-1)=(h:Int) from by omega];exact wrap_i64 w4 w4))));refine bH ?_;refine eL [6,12,13] (fun aW _ (l8:Nat×K×Int×List aB×Option Addr×Nat×List ah) aJ=>match l8 with|(m,up,aD,L,ad,cap,Sx)=>(m≤h+1)∧(kj t k row h m=(⟨L.map aB.p,t.root⟩,some (up,aD)))∧(tJ L ad cap Sx)∧(∀o∈L,qA o)∧aJ=(⟨131,(14,ax 1 cB up)::(15,ae aD)::(16,ae ((h:Int)-(m:Nat)))::aW,(⟨um,51,2,[aN ad L.length cap,ae t.root]⟩::⟨b6,51,2,[bB,ae 0]⟩::(Sx++L.flatMap bO))⟩:St)) (fun (l8:Nat×K×Int×List aB×Option Addr×Nat×List ah)=>match l8 with|(m,up,aD,L,ad,cap,Sx)=>h+1-m) (0,k,row,L,ad,cap,Sx) ⟨(Nat.zero_le _),(by unfold kj;rw[if_pos rfl,hL]),er,aT,rfl⟩ ?_;rintro⟨m,up,aD,L,ad,cap,Sx⟩ _ ⟨hm0,he,er,aT,rfl⟩;refine af [6,12,13,14,15,16,52] ?_;refine au ?_ ?_<;>intro cX ec
  ·obtain rfl:m=h+1:=(by omega)
   obtain⟨s1,s2,s3,s4⟩:=HO v hne B5 u3 w4 he;have oW:L.length≤t.ag.length+(h+1):=(by rw[←length_map (f:=aB.p)];exact s2)
   have Xc:=adj v hne B5 u3 w4 he;refine aC 3 ?_;refine en (bZ 0 [_]) [.slice none 0 0] [_] zeroValue88 runUnderlying151 sizeOf88 (fun U=>?_);refine aE 3 ?_;refine en (bZ 0 [_,_]) [.int .i64 0,.int .i64 0] [_,_] zeroValue3 runUnderlying67 sizeOf3 (fun Z=>?_);refine aE 1 ?_;refine en (bZ 0 [_]) [.bool false,.slice none 0 0,.slice none 0 0,.slice none 0 0,.int .i64 0] [_,_,_,_,_] zeroValue153 runUnderlying49 sizeOf153 (fun MN=>?_);refine OD.aen (cs':=gO (⟨⟨false,[up],[t.root,aD],[],-1⟩,some ⟨U,0,none⟩,1,[⟨U,88,1*1,flatMap cK [up]⟩],some ⟨Z,0,none⟩,2,[⟨Z,3,2*1,flatMap cI [t.root,aD]⟩]⟩:aB)) rfl ⟨eP,eP,eP,ye,eP,trivial⟩ ?_;refine fB 0 62 5 1 ?_;refine OD.ev (ls:=L) (new:=[(⟨⟨false,[up],[t.root,aD],[],-1⟩,some ⟨U,0,none⟩,1,[⟨U,88,1*1,flatMap cK [up]⟩],some ⟨Z,0,none⟩,2,[⟨Z,3,2*1,flatMap cI [t.root,aD]⟩]⟩:aB)]) (Sq:=Sx) fZ uD ap rfl rfl underlying49 Yj rfl w7 ot er (ow (A:=[_,_,_,_])) ot bu nF nG (fun Dw wQ aiX aiY=>?_);refine aE 1 ?_;refine aK 3 [_,_] sizeOf49 ?_;refine an 131 [6,12] ?_;refine aC 3 ?_
   refine bQ (c9 (r:=.int .i64 (L.length:Nat)) rfl ot bI (fY (by rw[length_append,show(((L.length+[(⟨⟨false,[up],[t.root,aD],[],-1⟩,some ⟨U,0,none⟩,1,[⟨U,88,1*1,flatMap cK [up]⟩],some ⟨Z,0,none⟩,2,[⟨Z,3,2*1,flatMap cI [t.root,aD]⟩]⟩:aB)].length:Nat):Int)-1)=(L.length:Int) from by simp];exact wrap_i64 w4 w4))) ?_;refine aE 1 ?_;refine aK 3 [_,_] sizeOf3 ?_;have hX:((⟨Z,3,2*1,flatMap cI [t.root,aD]⟩:ah)::⟨U,88,1*1,flatMap cK [up]⟩::L.flatMap bO).Perm ((L++[(⟨⟨false,[up],[t.root,aD],[],-1⟩,some ⟨U,0,none⟩,1,[⟨U,88,1*1,flatMap cK [up]⟩],some ⟨Z,0,none⟩,2,[⟨Z,3,2*1,flatMap cI [t.root,aD]⟩]⟩:aB)]).flatMap bO):=(by rw[QT];exact(Perm.swap _ _ _).trans (perm_append_comm (l₁:=[_,_])))
   refine OD.perm (S':=⟨um,51,2,[aN (some ⟨Dw,0,none⟩) (L++[(⟨⟨false,[up],[t.root,aD],[],-1⟩,some ⟨U,0,none⟩,1,[⟨U,88,1*1,flatMap cK [up]⟩],some ⟨Z,0,none⟩,2,[⟨Z,3,2*1,flatMap cI [t.root,aD]⟩]⟩:aB)]).length wQ,ae (L.length:Nat)]⟩::⟨b6,51,2,[bB,ae 0]⟩::(([⟨Dw,153,wQ*5,flatMap gO (L++[(⟨⟨false,[up],[t.root,aD],[],-1⟩,some ⟨U,0,none⟩,1,[⟨U,88,1*1,flatMap cK [up]⟩],some ⟨Z,0,none⟩,2,[⟨Z,3,2*1,flatMap cI [t.root,aD]⟩]⟩:aB)])⟩]:List ah)++(L++[(⟨⟨false,[up],[t.root,aD],[],-1⟩,some ⟨U,0,none⟩,1,[⟨U,88,1*1,flatMap cK [up]⟩],some ⟨Z,0,none⟩,2,[⟨Z,3,2*1,flatMap cI [t.root,aD]⟩]⟩:aB)]).flatMap bO)) (by exact(perm_middle (l₁:=[_,_,_])).trans (Perm.cons _ ((perm_middle (l₁:=[_,_,_])).trans (Perm.cons _ (Perm.cons _ hX))))) ?_;refine an 131 [6,12] ?_;refine CD.exit ?_
   refine⟨_,aM,(L++[(⟨⟨false,[up],[t.root,aD],[],-1⟩,some ⟨U,0,none⟩,1,[⟨U,88,1*1,flatMap cK [up]⟩],some ⟨Z,0,none⟩,2,[⟨Z,3,2*1,flatMap cI [t.root,aD]⟩]⟩:aB)]),(some ⟨Dw,0,none⟩),wQ,[⟨Dw,153,wQ*5,flatMap gO (L++[(⟨⟨false,[up],[t.root,aD],[],-1⟩,some ⟨U,0,none⟩,1,[⟨U,88,1*1,flatMap cK [up]⟩],some ⟨Z,0,none⟩,2,[⟨Z,3,2*1,flatMap cI [t.root,aD]⟩]⟩:aB)])⟩],(L.length:Nat),(bJ aiX aiY),(fun o ho=>by rcases mem_append.1 ho with ho|ho;exact aT o ho;rw[mem_singleton] at ho;subst ho;exact⟨bJ (Nat.le_refl _) (show 1≤maxLen by decide),bJ (Nat.le_refl _) (show 2≤maxLen by decide)⟩),(by rw[abM he rfl];show(⟨map aB.p L++[_],((map aB.p L).length:Int)⟩:aG)=_;rw[map_append,length_map];rfl),Gi,rfl⟩
  have hm:m≤h:=(by omega)
  have hP:=adk v hne B5 u3 hm he;obtain⟨s1,s2,s3,s4⟩:=HO v hne B5 u3 w4 he;have oW:L.length≤t.ag.length+m:=(by rw[←length_map (f:=aB.p)];exact s2)
  have M9:0≤(de t k h t.root m)∧(de t k h t.root m)<L.length:=(by have:=hP.rg;rw[←length_map (f:=aB.p)];exact this)
  have hj:(de t k h t.root m).toNat<L.length:=(by omega)
  have Xd:L[(de t k h t.root m).toNat].p=(⟨L.map aB.p,t.root⟩:aG).pg (de t k h t.root m):=Td (t:=(⟨L.map aB.p,t.root⟩:aG)) rfl hP.rg hj;have po:eC ((⟨L.map aB.p,t.root⟩:aG).pg (de t k h t.root m)) (⟨L.map aB.p,t.root⟩:aG).ag.length:=s4 _ (jx hP.rg);have full:=Il po hP.out hP.len hP.high hP.nn hP.nnl;obtain⟨bx,rfl,fU,rj,rfl⟩:=er.pos w4;have xK:=aT _ (getElem_mem hj);obtain⟨o,ho⟩:∃o,o=L[(de t k h t.root m).toNat]:=⟨_,rfl⟩
  rw[←ho] at xK Xd;rcases o with ⟨p,ak,ck,sk,ai,ci,si⟩
  have gK:p=(⟨L.map aB.p,t.root⟩:aG).pg (de t k h t.root m):=Xd;obtain⟨dM,j3⟩:oE p.keys ak ck sk∧lI p.kids ai ci si:=xK;rw[←gK] at po full;have nc:=po.eM;have fJ:=Qm po up;have Xc:=hP.len.2;have Ft:(if p.leaf=true then aL p up else aL p up+1)≤p.kids.length∧p.kids.length≤5:=(by cases fI:p.leaf;(have:=(po.node fI).1;rw[if_neg w7];omega);(have:=po.leaf fI;rw[if_pos rfl];omega))
  have hW:h-m<(iY t k h t.root).length:=(by rw[Es];omega)
  have Xe:(iY t k h t.root)[h-m]=(de t k h t.root m):=(by have:=OT (t:=t) (k:=k) (h:=h) (i:=t.root) hm;exact(List.getElem?_eq_some_iff.1 this).2)
  have Bw:=v.high;have TU:=v.nC;have Ka:(L.flatMap bO).Perm (sk++(si++((L.eraseIdx (de t k h t.root m).toNat).flatMap bO))):=(by have:=yD bO hj;rw[←ho] at this;exact this.trans (by rw[show bO ⟨p,ak,ck,sk,ai,ci,si⟩=sk++si from rfl,append_assoc]))
  refine CD.perm (Perm.cons _ (Perm.cons _ (Perm.cons _ Ka))) ?_;refine cR [6,12,13,14,15,16,17] ?_;refine aR 4 ?_ (h:=by exact(dF 1 (h:=by first|exact .l (j:=h-m) w4 hW|exact .r (j:=h-m) w4 hW)));refine aR 0 ?_ (h:=by exact(cM (mk:=Op.load 3) rfl ot (pZ (d:=ae (de t k h t.root m)) (i:=h-m) eA isAgg3 hW (by rw[Xe];rfl))));refine aR 0 ?_ (h:=by exact(dF 5 (h:=by first|exact .l (j:=(de t k h t.root m).toNat) (Int.toNat_of_nonneg M9.1).symm hj|exact .r (j:=(de t k h t.root m).toNat) (Int.toNat_of_nonneg M9.1).symm hj)));refine bH ?_;refine cR [6,12,13,14,15,16,17,18] ?_;refine aR 2 ?_ (h:=by exact(cM (mk:=Op.load 153) rfl ot (dN (k:=2) (ls:=L) (i:=(de t k h t.root m).toNat) fZ rfl rfl rfl isAgg153 sizeOf153 hj)));refine nj 1 ?_;refine zk (It p up po.jN w4) (ha:=by exact⟨⟨_,ot,(by rw[←ho];exact uv ⟨eP,lA dM (cy ga _) (fun B hB=>.tail _ (.tail _ (.tail _ (mem_append_left _ hB)))),lA j3 (cy eA _) (fun B hB=>.tail _ (.tail _ (.tail _ (mem_append_right _ (mem_append_left _ hB))))),eP,eP,trivial⟩)⟩,⟨_,ot,eP⟩,trivial⟩) (K:=?_);refine bH ?_;refine aC 4 ?_;refine bQ (cM (mk:=Op.load 151) rfl ot (kX (k:=2) (j:=1) (d:=aN ak p.keys.length ck) (ls:=L) fZ rfl rfl rfl isAgg151 hj rh)) ?_;refine aE 2 ?_;refine en (bZ 0 [_]) [.slice none 0 0] [_] zeroValue88 runUnderlying151 sizeOf88 (fun b89=>?_)
  refine OD.call ap rfl rfl rfl call124 (YQ p.keys (aL p up) up ak ck sk b89 fJ w4 dM) ⟨ot,ot,ot,trivial⟩ (Perm.cons _ (ow (A:=[_,_,_]))) ?_;rintro _ E ⟨I,O,rfl,fu⟩;refine OD.perm (jg (A:=[_,_,_])) ?_;refine aE 2 ?_;refine OD.storeAt (k:=2) (cs':=flatMap gO (L.set (de t k h t.root m).toNat (⟨{p with keys:=gZ p.keys (aL p up) up},I,O,E,ai,ci,si⟩:aB))) ap rfl rfl ot rfl rfl ot rfl rfl sizeOf151 rfl (by show 0+(de t k h t.root m).toNat*5+1+1≤(flatMap gO L).length;rw[cy fZ];omega) (by show(L.flatMap gO).set (0+(de t k h t.root m).toNat*5+1) _=_;rw[Nat.zero_add];exact vG fZ w7 hj (by rw[←ho];unfold gO;rw[yn fJ];rfl)) ?_;refine an 131 [6,12,13,15,16,17,18] ?_;refine CD.cut (fun aJ=>aJ=(⟨131,[(6,dJ b6),(12,dJ um),(13,.list 1 ((iY t k h t.root).flatMap cI) (iY t k h t.root).length),(15,ae aD),(16,ae ((h:Int)-(m:Nat))),(17,.v (.pointer (some ⟨bx,0+(de t k h t.root m).toNat*5,none⟩))),(18,ae (((if p.leaf=true then aL p up else aL p up+1):Nat):Int))],(⟨um,51,2,[aN (some ⟨bx,0,none⟩) L.length cap,ae t.root]⟩::⟨b6,51,2,[bB,ae 0]⟩::⟨bx,153,cap*5,flatMap gO (L.set (de t k h t.root m).toNat (⟨{p with keys:=gZ p.keys (aL p up) up},I,O,E,ai,ci,si⟩:aB))⟩::(E++(si++((L.eraseIdx (de t k h t.root m).toNat).flatMap bO))))⟩:St)) ?_ ?_
  ·refine cR [6,12,13,15,16,17,18,97] ?_;refine aR 3 ?_ (h:=by exact(cM (mk:=Op.load 4) rfl ot (kX (k:=2) (j:=0) (d:=bX p.leaf) (ls:=(L.set (de t k h t.root m).toNat (⟨{p with keys:=gZ p.keys (aL p up) up},I,O,E,ai,ci,si⟩:aB))) fZ rfl rfl rfl isAgg4 xj (by rw[getElem_set_self];rfl))));refine bH ?_;refine au ?_ ?_<;>intro ew fp
   ·have dr:(((if p.leaf=true then aL p up else aL p up+1):Nat):Int)=(((aL p up):Nat):Int)+1:=(by rw[if_neg (by simpa using ew)];rfl)
    refine cl [6,12,13,15,16,17,18] ?_;exact VZ
   have dr:(((if p.leaf=true then aL p up else aL p up+1):Nat):Int)=(((aL p up):Nat):Int):=(by rw[if_pos (by simpa using ew)])
   refine CD.skip ?_;exact VZ
  rintro _ ⟨rfl⟩;refine aC 4 ?_;refine bQ (cM (mk:=Op.load 67) rfl ot (kX (k:=2) (j:=2) (d:=aN ai p.kids.length ci) (ls:=(L.set (de t k h t.root m).toNat (⟨{p with keys:=gZ p.keys (aL p up) up},I,O,E,ai,ci,si⟩:aB))) fZ rfl rfl rfl isAgg67 xj (by rw[getElem_set_self];rfl))) ?_;refine aE 2 ?_;refine en (bZ 0 [_]) [.int .i64 0] [_] zeroValue3 runUnderlying67 sizeOf3 (fun aiZ=>?_);refine OD.call ap rfl rfl rfl call125 (YR p.kids (if p.leaf=true then aL p up else aL p up+1) aD ai ci si aiZ Ft.1 w4 j3) ⟨ot,ot,ot,trivial⟩ (Perm.cons _ (sV (A:=[_,_,_]))) ?_;rintro _ bA ⟨bK,bL,rfl,lS⟩;refine OD.perm (vP (A:=[_,_,_])) ?_;refine aE 2 ?_
  refine OD.storeAt (k:=2) (cs':=flatMap gO (L.set (de t k h t.root m).toNat (⟨(bC p up aD),I,O,E,bK,bL,bA⟩:aB))) ap rfl rfl ot rfl rfl ot rfl rfl sizeOf67 rfl (by show 0+(de t k h t.root m).toNat*5+2+1≤(flatMap gO (L.set (de t k h t.root m).toNat (⟨{p with keys:=gZ p.keys (aL p up) up},I,O,E,ai,ci,si⟩:aB))).length;rw[cy fZ,length_set];omega) (by show(flatMap gO (L.set (de t k h t.root m).toNat (⟨{p with keys:=gZ p.keys (aL p up) up},I,O,E,ai,ci,si⟩:aB))).set (0+(de t k h t.root m).toNat*5+2) _=_;rw[Nat.zero_add,vG fZ (a':=(⟨(bC p up aD),I,O,E,bK,bL,bA⟩:aB)) w7 xj (by rw[getElem_set_self];show gO (⟨(bC p up aD),I,O,E,bK,bL,bA⟩:aB)=(gO (⟨{p with keys:=gZ p.keys (aL p up) up},I,O,E,ai,ci,si⟩:aB)).set 2 _;unfold gO;rw[show((⟨(bC p up aD),I,O,E,bK,bL,bA⟩:aB)).p.kids.length=p.kids.length+1 from yn Ft.1];rfl),set_set]) ?_;have vo:(E++(bA++((L.eraseIdx (de t k h t.root m).toNat).flatMap bO))).Perm ((L.set (de t k h t.root m).toNat (⟨(bC p up aD),I,O,E,bK,bL,bA⟩:aB)).flatMap bO):=(by have:=(qD bO hj (⟨(bC p up aD),I,O,E,bK,bL,bA⟩:aB)).symm;rw[show bO (⟨(bC p up aD),I,O,E,bK,bL,bA⟩:aB)=E++bA from rfl,append_assoc] at this;exact this)
  refine OD.perm (S':=⟨um,51,2,[aN (some ⟨bx,0,none⟩) (L.set (de t k h t.root m).toNat (⟨(bC p up aD),I,O,E,bK,bL,bA⟩:aB)).length cap,ae t.root]⟩::⟨b6,51,2,[bB,ae 0]⟩::(([⟨bx,153,cap*5,flatMap gO (L.set (de t k h t.root m).toNat (⟨(bC p up aD),I,O,E,bK,bL,bA⟩:aB))⟩]:List ah)++(L.set (de t k h t.root m).toNat (⟨(bC p up aD),I,O,E,bK,bL,bA⟩:aB)).flatMap bO)) (by rw[length_set];exact Perm.cons _ (Perm.cons _ (Perm.cons _ vo))) ?_;have UY:tJ (L.set (de t k h t.root m).toNat (⟨(bC p up aD),I,O,E,bK,bL,bA⟩:aB)) (some ⟨bx,0,none⟩) cap [⟨bx,153,cap*5,flatMap gO (L.set (de t k h t.root m).toNat (⟨(bC p up aD),I,O,E,bK,bL,bA⟩:aB))⟩]:=bJ rf rj;have jK:∀o∈(L.set (de t k h t.root m).toNat (⟨(bC p up aD),I,O,E,bK,bL,bA⟩:aB)),qA o:=fun x hx=>by rcases mem_or_eq_of_mem_set hx with hx|rfl;exact aT x hx;exact⟨fu,lS⟩
  refine an 131 [6,12,13,16,17] ?_;refine cR [6,12,13,16,116] ?_;refine aR 3 ?_ (h:=by exact(cM (mk:=Op.load 151) rfl ot (kX (k:=2) (j:=1) (d:=aN I (bC p up aD).keys.length O) (ls:=(L.set (de t k h t.root m).toNat (⟨(bC p up aD),I,O,E,bK,bL,bA⟩:aB))) fZ rfl rfl rfl isAgg151 xj (by rw[getElem_set_self];rfl))));refine bH ?_;refine au ?_ ?_<;>intro fm gv
  ·have h4:(bC p up aD).keys.length≤4:=(by have:=of_decide_eq_true fm;omega)
   refine CD.exit ?_;refine⟨_,aM,(L.set (de t k h t.root m).toNat (⟨(bC p up aD),I,O,E,bK,bL,bA⟩:aB)),(some ⟨bx,0,none⟩),cap,[⟨bx,153,cap*5,flatMap gO (L.set (de t k h t.root m).toNat (⟨(bC p up aD),I,O,E,bK,bL,bA⟩:aB))⟩],t.root,UY,jK,(by rw[adr hm he (by rw[←gK];exact h4),←gK,map_set];rfl),vh,rfl⟩
  have h4:¬(bC p up aD).keys.length≤4:=(by have:=of_decide_eq_false fm;omega)
  have h5:(bC p up aD).keys.length=5:=(by have:=full.eM;omega)
  refine dQ 2 ?_;refine bQ (dF 1 (h:=by first|exact .l (j:=h-m) w4 hW|exact .r (j:=h-m) w4 hW)) ?_;refine bQ (cM (mk:=Op.load 3) rfl ot (pZ (d:=ae (de t k h t.root m)) (i:=h-m) eA isAgg3 hW (by rw[Xe];rfl))) ?_;have lU:(L.set (de t k h t.root m).toNat (⟨(bC p up aD),I,O,E,bK,bL,bA⟩:aB)).length=L.length:=length_set ..;refine OD.call ap rfl rfl rfl call126 (aaf (L.set (de t k h t.root m).toNat (⟨(bC p up aD),I,O,E,bK,bL,bA⟩:aB)) um t.root (de t k h t.root m) (some ⟨bx,0,none⟩) cap [⟨bx,153,cap*5,flatMap gO (L.set (de t k h t.root m).toNat (⟨(bC p up aD),I,O,E,bK,bL,bA⟩:aB))⟩] (by rw[lU];exact M9) (bC p up aD) (by rw[getElem_set_self]) (by rw[lU];omega) UY jK h5 (fun hl=>by have:=full.leaf hl;omega) (fun hl=>by have:=(full.node hl).1;omega) (fun x hx=>(full.lf x hx).2) full.hlen) ⟨ot,ot,trivial⟩ (Perm.cons _ (perm_append_singleton _ _).symm) ?_;rintro _ _ ⟨rfl,L3,GU,F1,GV,ai0,wT,hL3,rfl⟩;refine OD.perm (Perm.cons _ (perm_append_singleton _ _)) ?_;have Cn:kj t k row h (m+1)=(⟨L3.map aB.p,t.root⟩,some (je (bC p up aD),((L.set (de t k h t.root m).toNat (⟨(bC p up aD),I,O,E,bK,bL,bA⟩:aB)).length:Int))):=(by rw[abN hm he (by rw[←gK];exact h4),←gK,hL3,lU];unfold jl;show(({ag:=(map aB.p L).set _ _++_,root:=t.root}:aG),_)=_;rw[map_set,set_set,length_map])
  refine an 131 [6,12,13,14,15,16] ?_;refine cl [6,12,13,14,15,16] ?_;refine⟨((m+1),(je (bC p up aD)),((L.set (de t k h t.root m).toNat (⟨(bC p up aD),I,O,E,bK,bL,bA⟩:aB)).length:Int),L3,GU,F1,GV),_,cD,aM,w4,Cn,ai0,wT,rfl⟩
 rintro _ ⟨L,ad,cap,Sx,root,er,aT,F3,oW,rfl⟩;refine af [6,12,128] ?_;refine au ?_ ?_<;>intro gL kG
 ·refine aC 1 ?_;refine aK 1 [_,_] sizeOf51 ?_;refine an 131 [6,7] ?_;refine aI [] ?_;unfold oG;rw[if_pos hz,if_neg w4,if_neg xo,if_pos (by rw[F3];show 4000<(L.map aB.p).length;rw[length_map];omega)];exact yF _
 refine aC 1 ?_;refine aK 1 [_,_] sizeOf51 ?_;refine an 131 [6,7] ?_;refine aI (Sx++L.flatMap bO) ?_;unfold oG;rw[if_pos hz,if_neg w4,if_neg xo,if_neg (by rw[F3];show ¬4000<(L.map aB.p).length;rw[length_map];omega)];exact⟨_,rfl,L,ad,cap,Sx,by rw[F3],er,aT,by rw[F3],rfl⟩
theorem aag(t:aG)(h:Nat)(k:K)(row:Int)(hb:∀p∈t.ag,p.keys.length≤maxLen∧p.kids.length≤maxLen)(E:gm t=0→Valid t h):VP Tryz.prog G 84 [.agg (cT t),ax 1 cB k,ae row] (.dG [.agg (cT (oG t k row h).1),ae (oG t k row h).2]):=(HS t h k row hb E).cover fun r S hr=>hr.view

end Go.Proofs.YtdgichenhdikgaaGreatDoor.Tw
namespace Go.Proofs.YtdgichenhdikgaaGreatDoor.Tr
open List
open Go.Proofs.Tryz
open Go.Lib (compareBytes)
variable {t:aG} {h:Nat} {k:K}
variable {n:Nat}
theorem Qv(hp:∀p∈t.ag,eC p t.ag.length):∀{h h':Nat} {i:Int} {a b c d:K},dV t h i a b→dV t h' i c d→h=h'
 | 0,0,_,_,_,_,_,_,_=>rfl
 | 0,h'+1,i,_,_,_,_,h1,h2=>by have:=h1.2.1;rw[h2.2.1] at this;cases this
 | h+1,0,i,_,_,_,_,h1,h2=>by have:=h1.2.1;rw[h2.2.1] at this;cases this
 | h+1,h'+1,i,_,_,_,_,h1,h2=>by
  obtain⟨p1,p2,p3,O,E⟩:=h1;obtain⟨q1,q2,U,Z,I⟩:=h2;have hn:=((hp _ (jx p1)).node p2).1;have:=Qv hp (E 0 w4) (I 0 w4);rw[this]
noncomputable def dH(t:aG):Nat:=Classical.epsilon fun h=>Valid t h
theorem Eb(v:Valid t h):Valid t (dH t):=Classical.epsilon_spec (p:=fun h=>Valid t h) ⟨h,v⟩
theorem JE(v:Valid t h):dH t=h:=Qv v.fA (Eb v).ok v.ok
noncomputable def gp(t:aG):List (K×Int):=kL t (dH t)
theorem Je(hp:∀p∈t.ag,eC p t.ag.length):∀{h:Nat} {i:Int} {a b:K},dV t h i a b→2 ^ h≤(ids t h i).length
 | 0,i,_,_,_=>by simp[ids]
 | h+1,i,_,_,ok=>by
  obtain⟨p1,p2,p3,U,E⟩:=ok;have hn:=(hp _ (jx p1)).node p2;have hk:1≤(t.pg i).keys.length:=by
   have:=hn.2;cases lj:(t.pg i).keys with
   | nil=>exact absurd lj this
   | cons _ _=>simp
  have h0:=Je hp (E 0 w4);have h1:=Je hp (E 1 w4);have key:∀(l:List Int) (h2:2≤l.length),2 ^ h≤(ids t h (l[0]'w4)).length→2 ^ h≤(ids t h (l[1]'w4)).length→2 ^ h+2 ^ h≤(l.flatMap (ids t h)).length:=by
   intro l h2 I O;match l,h2 with
   | x::y::r,_ =>
    simp only[flatMap_cons,length_append];simp only[getElem_cons_zero,getElem_cons_succ] at I O;omega
  have:=key _ w4 h0 h1;rw[ids,length_cons,Nat.pow_succ];omega
theorem ads(v:Valid t h):h≤11:=by
 have h1:=Je v.fA v.ok;rw[v.all] at h1;have h2:=v.nC;refine Nat.le_of_not_lt fun h3=>?_;have:2 ^ 12≤2 ^ h:=Nat.pow_le_pow_right w7 h3;omega
structure iH (t:aG) (n:Nat):Prop where
 val:Valid t (dH t)
 eM:t.ag.length≤1+13*n
theorem iH.mono{m:Nat}(g:iH t n)(h:n≤m):iH t m:=⟨g.val,by have:=g.eM;omega⟩
theorem abO:iH sg 0:=⟨Eb OM,by decide⟩
theorem abP:gp sg=[]:=by unfold gp;rw[JE OM];exact abu
theorem Eu{row:Int}(g:iH t n)(hn:n≤300)(kO:∀x∈gp t,x.1≠k)(hk:1≤k.length∧k.length≤100)(hr:0≤row) :
  iH (gB t (dH t) k row) (n+1)∧(gB t (dH t) k row).ag.length≤4000∧∀x,x∈gp (gB t (dH t) k row)↔x=(k,row)∨x∈gp t:=by
 have E:=ads g.val;have hf:=g.eM;obtain⟨h',_,v,⟨_,hm⟩,he⟩:=ZP g.val kO hk hr w4;refine⟨⟨Eb v,by omega⟩,v.nC,fun x=>?_⟩;unfold gp;rw[JE v];exact he x
theorem Iv(g:iH t n)(ht:Bi t k (dH t)):iH (gC t (dH t) k) n∧∀x,x∈gp (gC t (dH t) k)↔x∈gp t∧x.1≠k:=by
 obtain⟨v,hl,he⟩:=ZQ g.val ht;refine⟨⟨Eb v,by have:=g.eM;omega⟩,fun x=>?_⟩;unfold gp;rw[JE v];exact he x

end Go.Proofs.YtdgichenhdikgaaGreatDoor.Tr
namespace Go.Proofs.YtdgichenhdikgaaGreatDoor.Tw
open List
open Go.Proofs.Tryz
open Go.RowKit V Tr Pk
open Go.Lib (compareBytes)
variable {k:K} {t:aG} {n:Nat} {row:Int}
theorem adt(h:1≤k.length∧k.length≤100):nZ k=true:=decide_eq_true h
theorem Bj(g:iH t n)(hk:1≤k.length∧k.length≤100):lg t k=0:=IF (Is g.val) (adt hk)
theorem AM(g:iH t n)(k:K):ik t k (dH t)=true↔∃row,(k,row)∈gp t:=(DT g.val k).trans (AL g.val k)
theorem Ev(g:iH t n):ik t k (dH t)=false↔∀x∈gp t,x.1≠k:=by
 constructor
 ·exact fun h=>OY g.val h
 intro h;cases hq:ik t k (dH t) with
 | false=>rfl
 | true=>obtain⟨row,hr⟩:=(AM g k).1 hq;exact absurd rfl (h _ hr)
theorem adu(g:iH t n)(hk:1≤k.length∧k.length≤100)(hr:0≤row)(h:ik t k (dH t)=true):oG t k row (dH t)=(vz,9):=by
 unfold oG;rw[if_pos (Bj g hk),if_neg w4,if_pos h]
theorem Te(g:iH t n)(hn:n≤300)(hk:1≤k.length∧k.length≤100)(hr:0≤row)(h:ik t k (dH t)=false):oG t k row (dH t)=(gB t (dH t) k row,0):=by
 have:=(Eu g hn ((Ev g).1 h) hk hr).2.1;unfold oG;rw[if_pos (Bj g hk),if_neg w4,if_neg (by rw[h];decide),if_neg w4]
theorem RU(g:iH t n)(hk:1≤k.length∧k.length≤100)(h:ik t k (dH t)=true):qS t k (dH t)=(gC t (dH t) k,0):=by
 unfold qS;rw[if_pos (Bj g hk),if_pos h]
theorem adw(g:iH t n)(hk:1≤k.length∧k.length≤100)(h:ik t k (dH t)=false):findF t k (dH t)=(0,8):=by
 unfold findF;rw[if_pos (Bj g hk),if_neg (by rw[h];decide)]
theorem Qw(g:iH t n)(hk:1≤k.length∧k.length≤100)(h:(k,row)∈gp t):findF t k (dH t)=(row,0):=by
 unfold findF dZ;rw[if_pos (Bj g hk),if_pos ((AM g k).2 ⟨row,h⟩)];obtain⟨_,_,e⟩:=(found g.val k row).1 h;rw[e]
theorem A9(g:iH t n):∀p∈t.ag,p.keys.length≤maxLen∧p.kids.length≤maxLen:=abE g.val
variable {G:List (Nat×List Value)}
theorem Qx(g:iH t n)(k:K)(row:Int):VP Tryz.prog G 84 [.agg (cT t),ax 1 cB k,ae row] (.dG [.agg (cT (oG t k row (dH t)).1),ae (oG t k row (dH t)).2]):=aag t (dH t) k row (A9 g) fun _=>g.val
theorem Qy(g:iH t n)(k:K):VP Tryz.prog G 90 [.agg (cT t),ax 1 cB k] (.dG [.agg (cT (qS t k (dH t)).1),ae (qS t k (dH t)).2]):=aac t (dH t) k (A9 g) fun _=>g.val
theorem JF(g:iH t n)(k:K):VP Tryz.prog G 65 [.agg (cT t),ax 1 cB k] (.dG [ae (findF t k (dH t)).1,ae (findF t k (dH t)).2]):=aeY t (dH t) k (A9 g) fun _=>g.val
theorem adA(g:iH t n):VP Tryz.prog G 49 [.agg (cT t)] (ae 0):=by have:=o8 (G:=G) t (A9 g);rwa [Is g.val] at this
noncomputable def oF(t:aG)(f eU:K):List (K×Int):=wB t (dH t) f eU
theorem Tf(g:iH t n)(f eU:K)(hf:f.length≤100)(ht:eU.length≤100):VP Tryz.prog G 30 [.agg (cT t),ax 1 cB f,ax 1 cB eU] (.dG [.list 2 ((oF t f eU).flatMap cE) (oF t f eU).length,ae 0]):=by
 have:=adp (G:=G) t (dH t) (A9 g) (fun _=>g.val) f eU;unfold wo at this;rwa [if_pos (Is g.val),if_pos ⟨hf,ht⟩] at this
theorem Qz(t:aG):oF t [] []=gp t:=by
 unfold oF wB gp;rw[abG,HQ fun x _=>by simp[uO]]
theorem adB(g:iH t n):VP Tryz.prog G 30 [.agg (cT t),bB,bB] (.dG [.list 2 ((oF t [] []).flatMap cE) (oF t [] []).length,ae 0]):=VC.eU (args':=[.agg (cT t),bB,bB]) (Tf g [] [] w7 w7) ⟨.inl rfl,.inr ⟨1,rfl,rfl⟩,.inr ⟨1,rfl,rfl⟩,trivial⟩

end Go.Proofs.YtdgichenhdikgaaGreatDoor.Tw
namespace Go.Proofs.YtdgichenhdikgaaGreatDoor.Ba
open List
open Go.Proofs.Tryz
open Go.RowKit V Pk Tr Vl Go.Proofs.YtdgichenhdikgaaGreatDoor.Nm Pc Cd Ex Tw
structure aQ where
 nm:ByteArray
 ay:List cz
 rows:List (List Vl)
 ix:aG
def iw(r:List Vl):List D:=[ax 3 cV r]
theorem kV(r:List Vl):(iw r).length=1:=rfl
theorem abQ(r:List Vl):(iw r).all V.one=true:=rfl
def dA(t:aQ):List D:=[bf t.nm,ax 2 cC t.ay,ax 1 iw t.rows,ax 5 cP t.ix.ag,ae t.ix.root]
theorem jT(t:aQ):(dA t).length=5:=rfl
def bz(b:List aQ)(nm:ByteArray):Int:=dS (fun t=>t.nm.toList==nm.toList) b
def dx(r:List Vl):K:=(gb (r.take 1)).1
variable {G:List (Nat×List Value)}
theorem abR(t:aQ)(nm:ByteArray)(b:Nat):VC Tryz.prog G 48 [.agg (dA t),dJ b] [⟨b,9,1,[bf nm]⟩] (fun r S=>r=bX (t.nm.toList==nm.toList)∧S=[⟨b,9,1,[bf nm]⟩]):=by
 refine VC.body func48 rfl ntmps48 aO fun X0 w0 aY=>?_;unfold dA;refine cf ?_;refine OD.box (ds:=[_,_,_,_,_]) ap rfl rfl ot rfl rfl (fun b2=>?_);refine an 8 [1,2] ?_;refine af [3] ?_;refine aI [⟨b,9,1,[bf nm]⟩] ?_;exact⟨rfl,rfl⟩
theorem aah(ls:List aQ)(I:Nat)(E:List D)(S:List ah)(p:aQ→Bool)(fk:∀args w,(callFunc I args).run Tryz.prog w = .ok (.enter I args) w)(hp:∀x∈ls,VC Tryz.prog G I (.agg (dA x)::E) S (fun r S'=>r=bX (p x)∧S'=S))(hlen:ls.length≤1000000):VC Tryz.prog G 47 [ax 5 dA ls,.ey (.func I) E] S (fun r S'=>r=ae (dS p ls)∧S'=S):=by
 refine VC.body func47 rfl ntmps47 aO fun X0 w0 aY=>?_;refine aC 1 ?_;refine OD.wk (Wk.dR (n:=19) (l':=[(0,_),(1,_)]) (S':=S) rfl mG fi) ?_;refine OD.nil ?_;refine aC 3 ?_;refine OD.wk (Wk.dR (n:=19) (l':=[(0,_),(1,_),(7,_),(8,_)]) (S':=S) rfl mG fi) ?_;refine OD.nil ?_;refine eL [0,1,7] (fun aW _ (k:Nat) aJ=>(k≤ls.length)∧(∀x∈ls.take k,p x=false)∧aJ=(⟨19,(8,ae (k:Nat))::aW,S⟩:St)) (fun (k:Nat)=>ls.length-k) 0 ⟨Nat.zero_le _,bu,rfl⟩ ?_;rintro k _ ⟨hk,h0,rfl⟩;refine aC 1 ?_;refine OD.wk (Wk.dR (n:=19) (l':=[(0,_),(1,_),(7,_),(8,_),(9,_)]) (S':=S) rfl mG fi) ?_;refine OD.nil ?_;refine au ?_ ?_<;>intro aP bF
 ·refine aC 2 ?_;refine OD.wk (Wk.dR (n:=19) (l':=[(0,_),(1,_),(5,_),(7,_),(8,_)]) (S':=S) rfl mG fi) ?_;refine OD.nil ?_;refine aC 5 ?_;refine OD.j9 (f:=I) (args:=[_]) ap rfl rfl (s7 rfl lk) fk (hp (ls[k]'w4) (getElem_mem _)) rfl ⟨s7 rfl lk,trivial⟩ (H6 _) ?_;rintro _ S2 ⟨rfl,iC⟩;rw[iC];clear iC;refine OD.wk (Wk.dR (n:=19) (l':=[(0,_),(1,_),(5,_),(7,_),(8,_),(16,_)]) (S':=S) rfl mG fi) ?_;refine OD.nil ?_;refine au ?_ ?_<;>intro aX cJ
  ·refine aC 2 ?_;refine OD.wk (Wk.dR (n:=19) (l':=[(4,_)]) (S':=S) rfl mG fi) ?_;refine OD.nil ?_;refine aI S ?_;refine⟨?_,rfl⟩;first|(rw[vM w4 h0 tw])|(rw[vH w4 h0])
  refine dQ 2 ?_;refine OD.wk (Wk.dR (n:=19) (l':=[(0,_),(1,_),(7,_),(8,_)]) (S':=S) rfl mG fi) ?_;refine OD.nil ?_;refine⟨k+1,_,cD,aM,w4,(by rw[take_succ_eq_append_getElem w4];intro x hx;rcases mem_append.1 hx with hx|hx;exact h0 x hx;simp only[mem_singleton] at hx;subst hx;assumption),rfl⟩
 refine aC 1 ?_;refine OD.wk (Wk.dR (n:=19) (l':=[(4,_)]) (S':=S) rfl mG fi) ?_;refine OD.nil ?_;refine aI S ?_;refine⟨?_,rfl⟩;first|(rw[vM w4 h0 tw])|(rw[vH w4 h0])
theorem qI(l:List aQ)(hl:l.length≤1000)(nm:ByteArray):VP Tryz.prog G 29 [ax 5 dA (l),bf nm] (ae (bz l nm)):=by
 refine VC.body func29 rfl ntmps29 aO fun X0 w0 aY=>?_;refine cf ?_;refine OD.box (ds:=[_]) ap rfl rfl ot rfl rfl (fun b3=>?_);refine an 8 [0,3] ?_;refine aC 1 ?_;refine bQ (oZ (ds:=[_]) rfl ⟨ot,trivial⟩) ?_;refine OD.call ap rfl rfl rfl call47 (aah l 48 [dJ b3] _ (fun t=>t.nm.toList==nm.toList) call48 (fun h _=>abR h nm b3) w4) ⟨ot,ot,trivial⟩ (j5 (k:=0) rfl) ?_;rintro _ S2 ⟨rfl,iC⟩;rw[iC];clear iC;refine an 8 [4] ?_;exact mI
theorem abS(c:cz)(nm:ByteArray)(b:Nat):VC Tryz.prog G 127 [.agg (cC c),dJ b] [⟨b,9,1,[bf nm]⟩] (fun r S=>r=bX (c.n.toList==nm.toList)∧S=[⟨b,9,1,[bf nm]⟩]):=by
 refine VC.body func127 rfl ntmps127 aO fun X0 w0 aY=>?_;exact VV
theorem HT(t:aQ)(hl:t.ay.length≤1000)(nm:ByteArray):VP Tryz.prog G 85 [.agg (dA t),bf nm] (ae (bM t.ay nm)):=by
 refine VC.body func85 rfl ntmps85 aO fun X0 w0 aY=>?_;unfold dA;refine cf ?_;refine OD.box (ds:=[_,_,_,_,_]) ap rfl rfl ot rfl rfl (fun b2=>?_);refine OD.box (ds:=[_]) ap rfl rfl ot rfl rfl (fun b3=>?_);refine an 9 [2,3] ?_;refine aC 2 ?_;refine bQ (oZ (ds:=[_]) rfl ⟨ot,trivial⟩) ?_;refine OD.call ap rfl rfl rfl call106 (Pc.If t.ay 127 [dJ b3] _ (fun c=>c.n.toList==nm.toList) call127 (fun h _=>abS h nm b3) w4) ⟨ot,ot,trivial⟩ (j5 (k:=0) rfl) ?_;rintro _ S2 ⟨rfl,iC⟩;rw[iC];clear iC;refine an 9 [4] ?_;exact mI

end Go.Proofs.YtdgichenhdikgaaGreatDoor.Ba
namespace Go.Proofs.YtdgichenhdikgaaGreatDoor.Ba
open List
open Go.Proofs.Tryz
open Go.RowKit V Pk Tr Vl Go.Proofs.YtdgichenhdikgaaGreatDoor.Nm Pc Cd Ex Tw
variable {G:List (Nat×List Value)} {m:Int}
variable {S:List ah} {t:aQ} {n:Nat} {p:List Int×Int}
def Ce(k:K)(r:D)(S:List ah):Prop:=∃ad cap,r=aN ad k.length cap∧bw 5 1 (k.flatMap cB) k.length ad cap S
theorem Ce.view{k:K}{r:D}(h:Ce k r S):View S r (ax 1 cB k):=by
 obtain⟨ad,cap,rfl,ho⟩:=h;exact lA ho (cy pi _) (fun B h=>h)
theorem Ce.flat{k:K}{r:D}(h:Ce k r S):kE r=true∧∀B∈S,∀d∈B.cs,kE d=true:=by
 obtain⟨ad,cap,rfl,ho⟩:=h;refine⟨rfl,fun B E d hd=>?_⟩;rcases ho with ⟨_,_,_,_,rfl⟩|⟨b,_,_,_,rfl⟩
 ·cases E
 rw[mem_singleton] at E;subst E;obtain⟨n,_,hn⟩:=mem_flatMap.1 hd;rw[cB,mem_singleton] at hn;subst hn;rfl
theorem JG(hG:(2,[Value.int .i64 m])∈G)(r:List Vl)(h1:1≤r.length)(h2:r.length≤1000000)(aT:∀v∈r,v.Ok):VC Tryz.prog G 66 [ax 3 cV r] [] (Ce (dx r)):=by
 refine VC.body func66 rfl ntmps66 aO fun X0 w0 aY=>?_;have dy:=dY;refine af [0] ?_;refine aC 1 ?_;refine bQ (eu (h:=1) rfl ot trivial ⟨_,bI⟩ (by exact ox fj (fun h=>by cases h) runUnderlying28 sizeOf41 w4)) ?_;refine OD.call ap rfl rfl rfl call111 (SU hG (r.take 1) oJ (fun v U=>aT v (mem_of_mem_take U))) ⟨ot,trivial⟩ (eO _) ?_;rintro _ O ⟨E,I,rfl,jK⟩;refine OD.perm (Perm.of_eq (append_nil O)) ?_;refine an 12 [3] ?_;refine af [2] ?_;refine aI O ?_;exact⟨E,I,rfl,jK⟩
theorem yM(hG:(2,[Value.int .i64 m])∈G)(r:List Vl)(h1:1≤r.length)(h2:r.length≤1000000)(aT:∀v∈r,v.Ok):VP Tryz.prog G 66 [ax 3 cV r] (.list 1 ((dx r).flatMap cB) (dx r).length):=(JG hG r h1 h2 aT).cover fun r S hr=>hr.view
theorem YS:(Tryz.prog.info? 41).map (fun i=>(i.zero,i.size,i.bytes))=some (some (.agg #[.int .i64 0,.int .i64 0,.string ⟨#[]⟩]),3,32):=by kernel_rfl
theorem OZ(a:List Vl)(ha:a.length≤1000000):VC Tryz.prog G 31 [ax 3 cV a] [] (fun r S=>∃ad cap,r=aN ad a.length cap∧bw 41 3 (a.flatMap cV) a.length ad cap S):=by
 refine VC.body func31 rfl ntmps31 aO fun X0 w0 aY=>?_;have dy:=dY;refine af [0] ?_;refine aC 1 ?_;refine OD.yU ap rfl rfl ot bI underlying28 (fun O xz=>?_);refine an 8 [0,4] ?_;refine au ?_ ?_<;>intro aP bF
 ·exact Gr
 refine cf ?_;refine OD.yV ap rfl rfl runUnderlying28 sizeOf41 (fun b5=>?_);refine aE 1 ?_;refine OD.oY (ls:=([]:List Vl)) (new:=a) (Sq:=[⟨b5,41,0*3,[]⟩]) fj ET ap rfl rfl underlying28 YS rfl w7 runUnderlying28 sizeOf41 ot (.inr ⟨b5,rfl,Nat.le_refl _,Nat.zero_le _,rfl⟩) (dI (A:=[])) ot hU hU (fun E I S7 pG=>?_);exact Gt
theorem aai(a:List Vl)(ha:a.length≤1000000):VP Tryz.prog G 31 [ax 3 cV a] (ax 3 cV a):=(OZ a ha).cover fun r S ⟨ad,cap,h,ho⟩=>by subst h;exact lA ho (cy fj _) (fun B h=>h)
theorem YT:(Tryz.prog.info? 69).map (fun i=>(i.zero,i.size,i.bytes))=some (some (.agg #[.string ⟨#[]⟩,.int .i64 0]),2,24):=by kernel_rfl
theorem aaj(a:List cz)(ha:a.length≤1000000):VC Tryz.prog G 81 [ax 2 cC a] [] (fun r S=>∃ad cap,r=aN ad a.length cap∧bw 69 2 (a.flatMap cC) a.length ad cap S):=by
 refine VC.body func81 rfl ntmps81 aO fun X0 w0 aY=>?_;have dy:=dY;refine af [0] ?_;refine aC 1 ?_;refine OD.yU ap rfl rfl ot bI underlying27 (fun O xz=>?_);refine an 8 [0,4] ?_;refine au ?_ ?_<;>intro aP bF
 ·exact Gr
 refine cf ?_;refine OD.yV ap rfl rfl runUnderlying27 sizeOf69 (fun b5=>?_);refine aE 1 ?_;refine OD.oY (ls:=([]:List cz)) (new:=a) (Sq:=[⟨b5,69,0*2,[]⟩]) lB aeF ap rfl rfl underlying27 YT rfl w7 runUnderlying27 sizeOf69 ot (.inr ⟨b5,rfl,Nat.le_refl _,Nat.zero_le _,rfl⟩) (dI (A:=[])) ot hU hU (fun E I S7 pG=>?_);exact Gt
theorem O0(a:List cz)(ha:a.length≤1000000):VP Tryz.prog G 81 [ax 2 cC a] (ax 2 cC a):=(aaj a ha).cover fun r S ⟨ad,cap,h,ho⟩=>by subst h;exact lA ho (cy lB _) (fun B h=>h)
theorem aak(a:List Int)(ha:a.length≤1000000):VP Tryz.prog G 120 [ax 1 Tw.cI a] (ax 1 Tw.cI a):=(Tw.nM a ha).cover fun r S ⟨ad,cap,h,ho⟩=>by subst h;exact lA ho (cy Tw.eA _) (fun B h=>h)

structure cj where
 r:List Vl
 ad:Option Addr
 cap:Nat
 S:List ah
def gR(o:cj):List D:=[aN o.ad o.r.length o.cap]
theorem uI(o:cj):(gR o).length=1:=rfl
theorem Tg(o:cj):(gR o).all V.one=true:=rfl
def bR(o:cj):List ah:=o.S
def nK(o:cj):Prop:=bw 41 3 (o.r.flatMap cV) o.r.length o.ad o.cap o.S
theorem EM{S:List ah}:∀{L:List cj},(∀o∈L,nK o)→(∀B∈L.flatMap bR,B∈S)→gq S (L.flatMap gR) ((L.map cj.r).flatMap iw)
 | [],_,_=>trivial
 | o::L,h,hs=>by
  rw[map_cons,flatMap_cons,flatMap_cons];refine gq.append ⟨lA (h o mem_cons_self) (cy fj _) (fun B E=>hs B ?_),trivial⟩ (EM (fun o ho=>h o (mem_cons_of_mem _ ho)) fun B E=>hs B ?_)
  ·rw[flatMap_cons];exact mem_append_left _ E
  rw[flatMap_cons];exact mem_append_right _ E
abbrev su(L:List cj)(ad:Option Addr)(cap:Nat)(S:List ah):Prop:=bw 28 1 (L.flatMap gR) L.length ad cap S
structure aS where
 t:aQ
 cs:List D
 ad:Option Addr
 cap:Nat
 sr:List ah
 sx:List ah
variable {o:aS}
def gT(o:aS):List D:=[bf o.t.nm,ax 2 cC o.t.ay,aN o.ad o.t.rows.length o.cap,ax 5 cP o.t.ix.ag,ae o.t.ix.root]
theorem uC(o:aS):(gT o).length=5:=rfl
theorem Th(o:aS):(gT o).all V.one=true:=rfl
def bT(o:aS):List ah:=o.sr++o.sx
structure okW (o:aS):Prop where
 own:bw 28 1 o.cs o.t.rows.length o.ad o.cap o.sr
 agt:∀S:List ah,(∀B∈o.sx,B∈S)→gq S o.cs (o.t.rows.flatMap iw)
def pN(o:aS):Prop:=∃L:List cj,o.cs=L.flatMap gR∧o.sx=L.flatMap bR∧(∀x∈L,nK x)∧L.map cj.r=o.t.rows∧su L o.ad o.cap o.sr
theorem pN.w(h:pN o):okW o:=by
 obtain⟨L,h1,h2,h3,h4,h5⟩:=h;refine⟨?_,fun S hS=>?_⟩
 ·rw[h1,←h4,length_map];exact h5
 rw[h1,←h4];exact EM h3 (by rw[←h2];exact hS)
theorem O1(h:okW o)(hs:∀B∈bT o,B∈S):View S (aN o.ad o.t.rows.length o.cap) (ax 1 iw o.t.rows) :=
 AG h.own (h.agt S fun B E=>hs B (mem_append_right _ E)) (cy kV _) (fun B E=>hs B (mem_append_left _ E))
theorem RV(h:okW o)(hs:∀B∈bT o,B∈S):View S (.agg (gT o)) (.agg (dA o.t)):=uv ⟨eP,eP,O1 h hs,eP,eP,trivial⟩
theorem RW{S:List ah}:∀{L:List aS},(∀o∈L,okW o)→(∀B∈L.flatMap bT,B∈S)→gq S (L.flatMap gT) ((L.map aS.t).flatMap dA)
 | [],_,_=>trivial
 | o::L,h,hs=>by
  rw[map_cons,flatMap_cons,flatMap_cons];refine gq.append ⟨eP,eP,O1 (h o mem_cons_self) (fun B E=>hs B ?_),eP,eP,trivial⟩ (RW (fun o ho=>h o (mem_cons_of_mem _ ho)) fun B E=>hs B ?_)
  ·rw[flatMap_cons];exact mem_append_left _ E
  rw[flatMap_cons];exact mem_append_right _ E
abbrev wU(L:List aS)(ad:Option Addr)(cap:Nat)(S:List ah):Prop:=bw 53 5 (L.flatMap gT) L.length ad cap S
theorem E5{Sx:List ah}{L:List aS}{ad:Option Addr}{cap:Nat}(ho:wU L ad cap Sx)(h:∀o∈L,okW o)(hs:∀B∈Sx++L.flatMap bT,B∈S):View S (aN ad L.length cap) (.list 5 ((L.map aS.t).flatMap dA) L.length) :=
 AG ho (RW h fun B E=>hs B (mem_append_right _ E)) (by rw[cy jT,length_map]) (fun B E=>hs B (mem_append_left _ E))
def agu(t:aQ)(r:D)(S:List ah):Prop:=∃o:aS,o.t=t∧r = .agg (gT o)∧pN o∧S=bT o
def Kb(l:List aQ)(r:D)(S:List ah):Prop:=∃(L:List aS) (ad:Option Addr) (cap:Nat) (Sx:List ah),r = .agg [aN ad L.length cap]∧wU L ad cap Sx∧(∀o∈L,pN o)∧L.map aS.t=l∧S=Sx++L.flatMap bT
theorem Kb.view{l:List aQ}{r:D}(h:Kb l r S):View S r (.agg [ax 5 dA l]):=by
 obtain⟨L,ad,cap,Sx,rfl,ho,aT,rfl,rfl⟩:=h;first|rw[length_map]|(show View _ _ (.list _ _ (length _));rw[length_map])|(show View _ _ (.agg [.list _ _ (length _)]);rw[length_map])
 exact uv ⟨E5 ho (fun o h=>(aT o h).w) (fun B h=>h),trivial⟩
theorem RX(L:List cj)(o:cj):(L++[o]).flatMap bR=L.flatMap bR++bR o:=by simp
theorem RY(L:List aS)(o:aS):(L++[o]).flatMap bT=L.flatMap bT++bT o:=by simp
theorem YU:(Tryz.prog.info? 88).map (fun i=>(i.zero,i.size,i.bytes))=some (some (.slice none 0 0),1,24):=by kernel_rfl
theorem Yk:(Tryz.prog.info? 153).map (fun i=>(i.zero,i.size,i.bytes))=some (some (.agg #[.bool false,.slice none 0 0,.slice none 0 0,.slice none 0 0,.int .i64 0]),5,88):=by kernel_rfl
theorem YV(t:aG)(h:Nat)(v:Valid t h):VC Tryz.prog G 82 [.agg (cT t)] [] (fun r S=>∃ad cap,r = .agg [aN ad t.ag.length cap,ae t.root]∧bw 153 5 (t.ag.flatMap cP) t.ag.length ad cap S):=by
 refine VC.body func82 rfl ntmps82 aO fun X0 w0 aY=>?_;unfold Tw.cT;have dy:=dY;have MU:=v.nC;refine cf ?_;refine OD.box (ds:=[_,_]) ap rfl rfl ot rfl rfl (fun b1=>?_);refine OD.alloc (ds:=[_,_]) ap rfl rfl zeroValue51 rfl (fun b2=>?_);refine an 53 [1,2] ?_;refine aC 3 ?_;refine OD.alloc (ds:=[_,_]) ap rfl rfl zeroValue51 rfl (fun b3=>?_);refine aK 0 [_,_] sizeOf51 ?_;refine an 53 [1,2,3] ?_;refine cf ?_;refine bg [2,3,13,14,15] ?_;refine eL [2,3,13,14] (fun aW _ (E:Nat×List cY×Option Addr×Nat×List ah) aJ=>match E with|(i,L,dW,dK,Sx)=>(i≤t.ag.length)∧(L=t.ag.take i)∧(bw 153 5 ((L).flatMap cP) (L).length dW dK Sx)∧aJ=(⟨53,(15,ae (i:Nat))::aW,(⟨b3,51,2,[aN dW (L).length dK,ae t.root]⟩::⟨b2,51,2,[bB,ae 0]⟩::Sx)⟩:St)) (fun (E:Nat×List cY×Option Addr×Nat×List ah)=>match E with|(i,L,dW,dK,Sx)=>t.ag.length-i) (0,([]:List cY),none,0,[]) ⟨(Nat.zero_le _),rfl,(bw.cast iK lK),rfl⟩ ?_;rintro⟨i,L,dW,dK,Sx⟩ _ ⟨hi,hL,er,rfl⟩;refine af [2,3,13,14,15,16] ?_;refine au ?_ ?_<;>intro aP bF
 ·have aa:i<t.ag.length:=(by omega)
  have rE:L.length=i:=(by rw[hL,length_take];omega)
  have po:=v.fA _ (getElem_mem aa);have nc:=po.eM;have W6:=po.hlen;have Ft:(t.ag[i]'aa).kids.length≤6:=by
      exact V4
  refine aC 2 ?_;refine OD.alloc (ds:=[_,_,_,_,_]) ap rfl rfl zeroValue153 rfl (fun b5=>?_);refine aK 0 [_,_,_,_,_] sizeOf153 ?_;refine an 53 [2,3,5,13,14,15] ?_;refine CD.seq ?_;refine tV 12 11 [2,3,5,6,13,14,15,29] ?_;refine cZ (aak (t.ag[i]'aa).kids w4) ?_;refine cZ (jS (t.ag[i]'aa).high w4) ?_;refine nj 3 ?_;refine rq ?_;refine jX ?_;refine⟨rfl,fun b6=>?_⟩;refine aK 0 [_,_,_,_,_] sizeOf153 ?_;refine an 53 [2,3,5,6,13,14,15] ?_;refine cf ?_;refine bg [2,3,6,13,14,15,31,32,33] ?_
  refine eL [2,3,6,13,14,15,31,32] (fun aW _ (E:Nat×List K×Option Addr×Nat×List ah×Option Addr×Nat×List ah) aJ=>match E with|(j,M,iz,iA,Sy,dW,dK,Sx)=>(j≤(t.ag[i]'aa).keys.length)∧(M=(t.ag[i]'aa).keys.take j)∧(bw 88 1 ((M).flatMap Tw.cK) (M).length iz iA Sy)∧(bw 153 5 ((L).flatMap cP) (L).length dW dK Sx)∧aJ=(⟨53,(33,ae (j:Nat))::aW,(⟨b6,153,5,[bX (t.ag[i]'aa).leaf,aN iz (M).length iA,.list 1 ((t.ag[i]'aa).kids.flatMap Tw.cI) (t.ag[i]'aa).kids.length,.list 1 ((t.ag[i]'aa).high.flatMap cB) (t.ag[i]'aa).high.length,ae (t.ag[i]'aa).next]⟩::⟨b3,51,2,[aN dW L.length dK,ae t.root]⟩::⟨b2,51,2,[bB,ae 0]⟩::(Sy++Sx))⟩:St)) (fun (E:Nat×List K×Option Addr×Nat×List ah×Option Addr×Nat×List ah)=>match E with|(j,M,iz,iA,Sy,dW,dK,Sx)=>(t.ag[i]'aa).keys.length-j) (0,([]:List K),none,0,[],dW,dK,Sx) ⟨(Nat.zero_le _),rfl,(bw.cast iK lK),(bw.cast er lK),rfl⟩ ?_;rintro⟨j,M,iz,iA,Sy,dW,dK,Sx⟩ _ ⟨hj,hM,Dx,er,rfl⟩;refine af [2,3,6,13,14,15,31,32,33,34] ?_;refine au ?_ ?_<;>intro aX cJ
  ·have lR:j<(t.ag[i]'aa).keys.length:=(by omega)
   have KZ:=(po.lf _ (getElem_mem lR)).2;have xk:M.length=j:=(by rw[hM,length_take];omega)
   refine af [2,3,6,8,13,14,15,31,32,33] ?_;refine fL 6 (aq (take 3 _)) ?_ (fun _ h=>(Sublist.map _ (take_sublist _ _)).subset h);refine az 0 rfl (da 1) ?_;refine az 1 rfl (dD 0) ?_;refine az 2 rfl bj ?_;refine dm.later rfl ?_;refine AD.one (i:=3) aA ?_;refine jB call95 (jS (t.ag[i]'aa).keys[j] w4) ?_;refine AD.one (i:=4) aA ?_;refine jo (bZ 0 [_]) [.slice none 0 0] [_] zeroValue88 runUnderlying151 sizeOf88 (fun vr=>?_);refine jq 0 41 1 1 ?_;refine AD.one (i:=5) aA ?_;refine aZ.ev (ls:=(M)) (new:=[(t.ag[i]'aa).keys[j]]) (Sq:=Sy) Tw.ga Tw.pn rfl ap rfl rfl underlying151 YU rfl w7 ot Dx (ow (A:=[_,_,_])) ot bu vl hU (fun U I ai3 ai4=>?_);refine AD.perm (jg (S1:=[⟨U,88,I*1,flatMap Tw.cK ((M)++[(t.ag[i]'aa).keys[j]])⟩]) (A:=[_,_,_])) ?_;refine eD ?_;refine aE 1 ?_;refine aK 0 [_,_,_,_,_] sizeOf151 ?_;refine an 53 [2,3,6,13,14,15,31,32,33] ?_;refine rz ?_;refine bg [2,3,6,13,14,15,31,32,33] ?_;refine⟨((j+1),(M++[(t.ag[i]'aa).keys[j]]),(some ⟨U,0,none⟩),I,[⟨U,88,I*1,flatMap Tw.cK ((M)++[(t.ag[i]'aa).keys[j]])⟩],dW,dK,Sx),_,cD,aM,w4,(by rw[hM];exact pS lR),(bw.cast (bJ ai3 ai4) lK),(bw.cast er lK),rfl⟩
  refine CD.exit ?_;have hMk:M=(t.ag[i]'aa).keys:=(by rw[hM,take_of_length_le w4])
  subst hMk;refine CD.Ic (i:=1) (j:=0) (Sq:=Sy) (S':=⟨b6,153,5,[bX (t.ag[i]'aa).leaf,.list 1 ((t.ag[i]'aa).keys.flatMap Tw.cK) (t.ag[i]'aa).keys.length,.list 1 ((t.ag[i]'aa).kids.flatMap Tw.cI) (t.ag[i]'aa).kids.length,.list 1 ((t.ag[i]'aa).high.flatMap cB) (t.ag[i]'aa).high.length,ae (t.ag[i]'aa).next]⟩::⟨b3,51,2,[aN dW L.length dK,ae t.root]⟩::⟨b2,51,2,[bB,ae 0]⟩::Sx) Dx (cy Tw.ga _) (ow (A:=[_,_,_])) rfl rfl rfl rfl ?_;refine dQ 3 ?_;refine en (bZ 0 [_]) [.bool false,.slice none 0 0,.slice none 0 0,.slice none 0 0,.int .i64 0] [_,_,_,_,_] zeroValue153 runUnderlying49 sizeOf153 (fun Na=>?_);refine fB 0 48 5 1 ?_;refine OD.ev (ls:=(L)) (new:=[(t.ag[i]'aa)]) (Sq:=Sx) E3 aeS ap rfl rfl underlying49 Yk rfl w7 ot er (dI (A:=[_,_,_])) ot bu nF nG (fun Z O ai5 ai6=>?_);refine OD.perm (ee (S1:=[⟨Z,153,O*5,flatMap cP ((L)++[(t.ag[i]'aa)])⟩]) (A:=[_,_,_])) ?_;refine aE 1 ?_;refine aK 1 [_,_] sizeOf49 ?_;refine an 53 [2,3,13,14,15] ?_;refine cl [2,3,13,14,15] ?_;refine⟨((i+1),(L++[(t.ag[i]'aa)]),(some ⟨Z,0,none⟩),O,[⟨Z,153,O*5,flatMap cP ((L)++[(t.ag[i]'aa)])⟩]),_,cD,aM,w4,(by rw[hL];exact pS aa),(bw.cast (bJ ai5 ai6) lK),rfl⟩
 refine aC 1 ?_;refine aK 1 [_,_] sizeOf51 ?_;refine an 53 [2] ?_;refine aI Sx ?_;have hLe:L=t.ag:=(by rw[hL,take_of_length_le w4])
 subst hLe;exact⟨dW,dK,rfl,er⟩
theorem YW(t:aG)(h:Nat)(v:Valid t h):VP Tryz.prog G 82 [.agg (cT t)] (.agg (cT t)):=(YV t h v).cover fun r S ⟨ad,cap,h,ho⟩=>by subst h;exact uv ⟨lA ho (cy E3 _) (fun B h=>h),eP,trivial⟩
structure yP (t:aQ):Prop where
 ay:t.ay.length≤1000
 rows:t.rows.length≤1000
 row:∀r∈t.rows,r.length≤1000
 ix:∃h,Valid t.ix h
theorem YX:(Tryz.prog.info? 28).map (fun i=>(i.zero,i.size,i.bytes))=some (some (.slice none 0 0),1,24):=by kernel_rfl
theorem E4(t:aQ)(hs:yP t):VC Tryz.prog G 40 [.agg (dA t)] [] (agu t):=by
 refine VC.body func40 rfl ntmps40 aO fun X0 w0 aY=>?_;unfold dA;have dy:=dY;have hc:=hs.ay;have hn:=hs.rows;obtain⟨h,v⟩:=hs.ix;have U:=YW (G:=G) t.ix h v;unfold Tw.cT at U;refine cf ?_;refine OD.box (ds:=[_,_,_,_,_]) ap rfl rfl ot rfl rfl (fun b1=>?_);refine OD.alloc (ds:=[_,_,_,_,_]) ap rfl rfl zeroValue53 rfl (fun b2=>?_);refine an 31 [1,2] ?_;refine CD.seq ?_;refine tV 10 9 [1,2,3,14] ?_;refine cZ (O0 t.ay w4) ?_;refine cZ (U) ?_;refine nj 1 ?_;refine rq ?_;refine jX ?_;refine⟨rfl,fun b3=>?_⟩;refine aK 0 [_,_,_,_,_] sizeOf53 ?_;refine an 31 [1,2,3] ?_;refine af [2,3,16,17,18] ?_;refine eL [2,3,16,17] (fun aW _ (I:Nat×List cj×Option Addr×Nat×List ah) aJ=>match I with|(i,L,dW,dK,Sx)=>(i≤t.rows.length)∧(L.map cj.r=t.rows.take i)∧(∀o∈L,nK o)∧(su L dW dK Sx)∧aJ=(⟨31,(18,ae (i:Nat))::aW,(⟨b3,53,5,[bf t.nm,ax 2 cC t.ay,aN dW L.length dK,ax 5 cP t.ix.ag,ae t.ix.root]⟩::⟨b2,53,5,[e9,bB,bB,bB,ae 0]⟩::(Sx++L.flatMap bR))⟩:St)) (fun (I:Nat×List cj×Option Addr×Nat×List ah)=>match I with|(i,L,dW,dK,Sx)=>t.rows.length-i) (0,([]:List cj),none,0,[]) ⟨(Nat.zero_le _),rfl,(fun o h=>by cases h),iK,rfl⟩ ?_;rintro⟨i,L,dW,dK,Sx⟩ _ ⟨hi,hL,aT,er,rfl⟩;refine af [2,3,16,17,18,19] ?_;refine au ?_ ?_<;>intro aP bF
 ·have aa:i<t.rows.length:=(by omega)
  have rE:L.length=i:=(by have:=congrArg length hL;rw[length_map,length_take] at this;omega)
  have rD:=hs.row _ (getElem_mem aa);refine af [2,3,5,16,17,18] ?_;refine fL 6 (aq (take 2 _)) ?_ (fun _ h=>(Sublist.map _ (take_sublist _ _)).subset h);refine az 0 rfl (da 2) ?_;refine az 1 rfl (dD 0) ?_;refine az 2 rfl bj ?_;refine dm.later rfl ?_;refine AD.one (i:=3) aA ?_;refine aZ.call rfl ap rfl rfl rfl call31 (OZ (t.rows[i]'aa) w4) ⟨ot,trivial⟩ (eO _) (fun b hb=>by simp[aq,St.put] at hb ⊢;first|(simp[hb];done)|(rcases hb with hb|hb<;>simp[hb])|(rcases hb with hb|hb|hb<;>simp[hb])) ?_;rintro _ Sz ⟨lN,lO,rfl,xT⟩;refine AD.perm (jg (A:=[_,_])) ?_;have vp:(L++[(⟨(t.rows[i]'aa),lN,lO,Sz⟩:cj)]).map cj.r=t.rows.take (i+1):=(by rw[map_append,hL];exact pS aa)
  have jK:∀o∈L++[(⟨(t.rows[i]'aa),lN,lO,Sz⟩:cj)],nK o:=fun o ho=>by rcases mem_append.1 ho with ho|ho;exact aT o ho;rw[mem_singleton] at ho;subst ho;exact xT
  refine AD.one (i:=4) aA ?_;refine jo (bZ 0 [_]) [.slice none 0 0] [_] zeroValue28 runUnderlying34 sizeOf28 (fun b26=>?_);refine jq 0 26 1 1 ?_;refine AD.one (i:=5) aA ?_;refine aZ.ev (ls:=L) (new:=[(⟨(t.rows[i]'aa),lN,lO,Sz⟩:cj)]) (Sq:=Sx) uI Tg rfl ap rfl rfl underlying34 YX rfl w7 ot er (sV (A:=[_,_])) ot bu nF nG (fun O E Z ai7=>?_);refine AD.perm (vP (S2:=[⟨O,28,E*1,flatMap gR (L++[(⟨(t.rows[i]'aa),lN,lO,Sz⟩:cj)])⟩]) (A:=[_,_])) ?_;refine AD.perm (S':=⟨b3,53,5,[bf t.nm,ax 2 cC t.ay,aN dW L.length dK,ax 5 cP t.ix.ag,ae t.ix.root]⟩::⟨b2,53,5,[e9,bB,bB,bB,ae 0]⟩::([⟨O,28,E*1,flatMap gR (L++[(⟨(t.rows[i]'aa),lN,lO,Sz⟩:cj)])⟩]++(L++[(⟨(t.rows[i]'aa),lN,lO,Sz⟩:cj)]).flatMap bR)) (iE fun ja=>by rw[RX];simp only[bR,map_append,map_cons,map_nil,sum_append,sum_cons,sum_nil];omega) ?_;refine eD ?_;refine aE 1 ?_;refine aK 0 [_,_,_,_,_] sizeOf34 ?_;refine an 31 [2,3,16,17,18] ?_;refine cl [2,3,16,17,18] ?_;refine⟨((i+1),(L++[(⟨(t.rows[i]'aa),lN,lO,Sz⟩:cj)]),(some ⟨O,0,none⟩),E,[⟨O,28,E*1,flatMap gR (L++[(⟨(t.rows[i]'aa),lN,lO,Sz⟩:cj)])⟩]),_,cD,aM,w4,vp,jK,(bJ Z ai7),rfl⟩
 refine aC 1 ?_;refine aK 1 [_,_,_,_,_] sizeOf53 ?_;refine an 31 [2] ?_;refine aI (Sx++L.flatMap bR) ?_;have oW:L.map cj.r=t.rows:=(by rw[hL,take_of_length_le w4])
 have hLn:t.rows.length=L.length:=(by rw[←oW,length_map])
 exact⟨⟨t,L.flatMap gR,dW,dK,Sx,L.flatMap bR⟩,rfl,(by unfold gT;rw[hLn]),⟨L,rfl,rfl,aT,oW,er⟩,rfl⟩
theorem YY:(Tryz.prog.info? 53).map (fun i=>(i.zero,i.size,i.bytes))=some (some (.agg #[.string ⟨#[]⟩,.slice none 0 0,.slice none 0 0,.slice none 0 0,.int .i64 0]),5,96):=by kernel_rfl
theorem O2(l:List aQ)(hl:l.length≤1000)(H:∀t∈l,yP t):VC Tryz.prog G 26 [.agg [ax 5 dA l]] [] (Kb l):=by
 refine VC.body func26 rfl ntmps26 aO fun X0 w0 aY=>?_;have dy:=dY;refine cf ?_;refine OD.box (ds:=[_]) ap rfl rfl ot rfl rfl (fun b1=>?_);refine OD.alloc (ds:=[_]) ap rfl rfl zeroValue25 rfl (fun b2=>?_);refine an 22 [1,2] ?_;refine cf ?_;refine OD.alloc (ds:=[_]) ap rfl rfl zeroValue25 rfl (fun b3=>?_);refine an 22 [1,2,3] ?_;refine af [2,3,7,8,9] ?_;refine eL [2,3,7,8] (fun aW _ (I:Nat×List aS×Option Addr×Nat×List ah) aJ=>match I with|(i,L,dW,dK,Sx)=>(i≤l.length)∧(L.map aS.t=l.take i)∧(∀o∈L,pN o)∧(wU L dW dK Sx)∧aJ=(⟨22,(9,ae (i:Nat))::aW,(⟨b3,25,1,[aN dW L.length dK]⟩::⟨b2,25,1,[bB]⟩::(Sx++L.flatMap bT))⟩:St)) (fun (I:Nat×List aS×Option Addr×Nat×List ah)=>match I with|(i,L,dW,dK,Sx)=>l.length-i) (0,([]:List aS),none,0,[]) ⟨(Nat.zero_le _),rfl,(fun o h=>by cases h),iK,rfl⟩ ?_;rintro⟨i,L,dW,dK,Sx⟩ _ ⟨hi,hL,aT,er,rfl⟩;refine af [2,3,7,8,9,10] ?_;refine au ?_ ?_<;>intro aP bF
 ·have aa:i<l.length:=(by omega)
  have rE:L.length=i:=(by have:=congrArg length hL;rw[length_map,length_take] at this;omega)
  refine aC 2 ?_;refine OD.alloc (ds:=[_,_,_,_,_]) ap rfl rfl zeroValue53 rfl (fun b5=>?_);refine aK 0 [_,_,_,_,_] sizeOf53 ?_;refine an 22 [2,3,5,7,8,9] ?_;refine fL 6 (aq (take 3 _)) ?_ (fun _ h=>(Sublist.map _ (take_sublist _ _)).subset h);refine az 0 rfl (da 0) ?_;refine az 1 rfl (dD 1) ?_;refine az 2 rfl (cM (mk:=Op.load 53) rfl ot (by first|exact pY (k:=0) (ds:=[_,_,_,_,_]) rfl rfl isAgg53 sizeOf53 rfl rfl|exact jU jT isAgg53 sizeOf53 w5|exact jU uC isAgg53 sizeOf53 w5|exact dN (k:=0) jT rfl rfl rfl isAgg53 sizeOf53 w5|exact dN (k:=1) jT rfl rfl rfl isAgg53 sizeOf53 w5|exact dN (k:=2) jT rfl rfl rfl isAgg53 sizeOf53 w5|exact dN (k:=0) uC rfl rfl rfl isAgg53 sizeOf53 w5|exact dN (k:=1) uC rfl rfl rfl isAgg53 sizeOf53 w5|exact dN (k:=2) uC rfl rfl rfl isAgg53 sizeOf53 w5|exact qb (ds:=[_,_,_,_,_]) isAgg53 sizeOf53 rfl rfl)) ?_;refine dm.later rfl ?_;refine AD.one (i:=3) aA ?_;refine aZ.call rfl ap rfl rfl rfl call40 (E4 (l[i]'aa) (H _ (getElem_mem aa))) ⟨ot,trivial⟩ (eO _) (fun b hb=>by simp[aq,St.put] at hb ⊢;first|(simp[hb];done)|(rcases hb with hb|hb<;>simp[hb])|(rcases hb with hb|hb|hb<;>simp[hb])) ?_;rintro _ _ ⟨o,GY,rfl,CZ,rfl⟩;refine AD.perm (jg (A:=[_,_,_])) ?_;have vp:(L++[o]).map aS.t=l.take (i+1):=(by rw[map_append,hL,map_cons,map_nil,GY];exact pS aa)
  have jK:∀x∈L++[o],pN x:=fun x hx=>by rcases mem_append.1 hx with hx|hx;exact aT x hx;rw[mem_singleton] at hx;subst hx;exact CZ
  refine AD.one (i:=4) aA ?_;refine jo (bZ 0 [_]) [.string ⟨#[]⟩,.slice none 0 0,.slice none 0 0,.slice none 0 0,.int .i64 0] [_,_,_,_,_] zeroValue53 runUnderlying23 sizeOf53 (fun b17=>?_);refine jq 0 17 5 1 ?_;refine AD.one (i:=5) aA ?_;refine aZ.ev (ls:=L) (new:=[o]) (Sq:=Sx) uC Th rfl ap rfl rfl underlying23 YY rfl w7 ot er (sV (A:=[_,_,_])) ot bu nF nG (fun O E U Z=>?_);refine AD.perm (vP (S2:=[⟨O,53,E*5,flatMap gT (L++[o])⟩]) (A:=[_,_,_])) ?_;have WA:(bT o++(([⟨O,53,E*5,flatMap gT (L++[o])⟩]:List ah)++L.flatMap bT)).Perm (([⟨O,53,E*5,flatMap gT (L++[o])⟩]:List ah)++(L++[o]).flatMap bT):=(iE fun ja=>by rw[RY];simp only[map_append,map_cons,map_nil,sum_append,sum_cons,sum_nil];omega)
  refine AD.perm (Perm.cons _ (Perm.cons _ (Perm.cons _ WA))) ?_;refine eD ?_;refine aE 1 ?_;refine aK 1 [_] sizeOf23 ?_;refine an 22 [2,3,7,8,9] ?_;refine cl [2,3,7,8,9] ?_;refine⟨((i+1),(L++[o]),(some ⟨O,0,none⟩),E,[⟨O,53,E*5,flatMap gT (L++[o])⟩]),_,cD,aM,w4,vp,jK,(bJ U Z),rfl⟩
 refine aC 1 ?_;refine aK 1 [_] sizeOf25 ?_;refine an 22 [2] ?_;refine aI (Sx++L.flatMap bT) ?_;have oW:L.map aS.t=l:=(by rw[hL,take_of_length_le w4])
 exact⟨L,dW,dK,Sx,rfl,er,aT,oW,rfl⟩
theorem aal(l:List aQ)(hl:l.length≤1000)(H:∀t∈l,yP t):VP Tryz.prog G 26 [.agg [ax 5 dA l]] (.agg [ax 5 dA l]):=(O2 l hl H).cover fun r S hr=>hr.view

structure eV (t:aQ) (n:Nat):Prop where
 nm:cQ t.nm=0
 ay:t.ay=dB
 eM:t.rows.length≤40
 ix:iH t.ix n
 row:∀i (h:i<t.rows.length),t.rows[i]≠[]→Pc.dZ dB t.rows[i]=0∧(∀v∈t.rows[i],v.Ok)∧(dx t.rows[i],(i:Int))∈gp t.ix
 jf:∀x∈gp t.ix,0≤x.2∧∃h:x.2.toNat<t.rows.length,t.rows[x.2.toNat]≠[]∧x.1=dx t.rows[x.2.toNat]
theorem qg{r:List Vl}(h:Pc.dZ dB r=0):r.length=4:=by
 unfold Pc.dZ at h;rw[if_neg (by rw[yC];decide)] at h;split at h
 ·cases h
 rename_i h2;exact Decidable.not_not.1 h2
theorem eV.len(g:eV t n){r:List Vl}(hr:r∈t.rows):r=[]∨(r.length=4∧∀v∈r,v.Ok):=by
 obtain⟨i,hi,rfl⟩:=mem_iff_getElem.1 hr;rcases Classical.em (t.rows[i]=[]) with h|h
 ·exact .inl h
 exact .inr ⟨qg (g.row i hi h).1,(g.row i hi h).2.1⟩
theorem eV.small(g:eV t n):yP t :=
 ⟨by rw[g.ay];decide,Nat.le_trans g.eM w7,fun r hr=>by rcases g.len hr with h|h;rw[h];exact Nat.zero_le _;omega,_,g.ix.val⟩
def rowAt(t:aQ)(i:Int):List Vl:=t.rows.getD i.toNat []
theorem jE{i:Int}(h:i.toNat<t.rows.length):rowAt t i=t.rows[i.toNat]:=by unfold rowAt;rw[getD_eq_getElem?_getD,getElem?_eq_getElem h];rfl
def kw(t:aQ)(w:List aU):List Int→List (K×Int)→List Int×Int
 | acc,[]=>(acc,0)
 | acc,x::r=>if 0<w.length then (if (eW t.ay (rowAt t x.2) w).2≠0 then ([],(eW t.ay (rowAt t x.2) w).2) else if (eW t.ay (rowAt t x.2) w).1.n≠1 then kw t w acc r else kw t w (acc++[x.2]) r) else kw t w (acc++[x.2]) r
noncomputable def av(t:aQ)(w:List aU):List Int×Int:=if (ij t.ay w).2≠0 then ([],(ij t.ay w).2) else kw t w [] (oF t.ix (ij t.ay w).1.1 (ij t.ay w).1.2)
def Cf(p:List Int×Int)(r:D)(S:List ah):Prop:=∃ad cap,r = .dG [aN ad p.1.length cap,ae p.2]∧bw 3 1 (p.1.flatMap Tw.cI) p.1.length ad cap S
theorem Cf.view{r:D}(h:Cf p r S):View S r (.dG [ax 1 Tw.cI p.1,ae p.2]):=by
 obtain⟨ad,cap,rfl,ho⟩:=h;exact Ek ⟨lA ho (cy Tw.eA _) (fun B h=>h),eP,trivial⟩
theorem Cf.flat{r:D}(h:Cf p r S):kE r=true∧∀B∈S,∀d∈B.cs,kE d=true:=by
 obtain⟨ad,cap,rfl,ho⟩:=h;refine⟨rfl,fun B E d hd=>?_⟩;rcases ho with ⟨_,_,_,_,rfl⟩|⟨b,_,_,_,rfl⟩
 ·cases E
 rw[mem_singleton] at E;subst E;obtain⟨n,_,hn⟩:=mem_flatMap.1 hd;rw[Tw.cI,mem_singleton] at hn;subst hn;rfl
theorem AX{t:aG}{f u:K}:∀x∈oF t f u,x∈gp t:=fun x hx=>by
 unfold oF wB at hx;have h1:=(takeWhile_sublist _).subset hx;unfold mW at h1;exact(mem_filter.1 h1).1
theorem abT{t:aG}(g:iH t n)(f u:K):(oF t f u).length≤16000:=by
 unfold oF wB;exact Nat.le_trans (takeWhile_sublist _).length_le (Qs g.val f)
theorem RZ(l:List Vl):(gb l).1.length≤100:=by
 unfold gb;repeat' split
 all_goals first|exact Nat.zero_le _|(simp only;omega)
def Sm(b:kS):Prop:=b.1.length≤100∧b.2.length≤100
theorem R3{key:ByteArray}{ops:List aU}{no:Bool}{b:kS}(h:Sm b):Sm (mT key ops no b):=by
 have hk:(zu ops).length≤100:=RZ _;have hl:∀b,Sm b→Sm (nX (zu ops) b):=fun b h=>by unfold nX;split;exact⟨hk,h.2⟩;exact h
 have E:∀b,Sm b→Sm (rR (zu ops) b):=fun b h=>by unfold rR;split;exact⟨h.1,hk⟩;exact h
 unfold mT;split
 ·exact h
 split
 ·exact h
 unfold uW;cases(nq ops (ops.length-1)==6||(dS (lX key) (ops.take 2)==0)!=no)<;>cases(nq ops (ops.length-1)==6||(dS (lX key) (ops.take 2)==0)==no)<;>first|exact h|exact hl _ h|exact E _ h|exact E _ (hl _ h)
theorem JH{key:ByteArray}:∀(f:Nat) (ops:List aU) (b:kS),Sm b→Sm (fW key f ops b)
 | 0,_,_,h=>h
 | f+1,ops,b,h=>by
  unfold fW;split
  ·exact JH f _ _ (JH f _ _ h)
  split
  ·exact R3 h
  exact R3 h
theorem ae6(l:List cz)(ops:List aU):Sm (ij l ops).1:=by
 have h0:Sm (([],[]):kS):=⟨Nat.zero_le _,Nat.zero_le _⟩
 unfold ij;repeat' split
 all_goals first|exact h0|exact JH _ _ _ h0
theorem O3:(Tryz.prog.info? 3).map (fun i=>(i.zero,i.size,i.bytes))=some (some (.int .i64 0),1,8):=by kernel_rfl
theorem JI(hm:(3,marksC)∈G)(hw:(1,wordsC)∈G)(ht:(0,typesC)∈G)(hG:(2,[Value.int .i64 m])∈G)(t:aQ)(g:eV t n)(w:List aU)(ho:∀o∈w,o.nm.size≤maxLen)(fN:∀o∈w,o.v.Ok):VC Tryz.prog G 86 [.agg (dA t),ax 5 cO w] [] (Cf (av t w)):=by
 refine VC.body func86 rfl ntmps86 aO fun X0 w0 aY=>?_;have Ar:=ae6 t.ay w;have pC:=ZL (G:=G) hm hw ht hG t.ay xn xm w ho fN;unfold MR at pC;have dy:=dY;have Xf:=Tf (G:=G) g.ix (ij t.ay w).1.1 (ij t.ay w).1.2 Ar.1 Ar.2;unfold Tw.cT at Xf;have nc:=abT g.ix (ij t.ay w).1.1 (ij t.ay w).1.2;generalize hL:(oF t.ix (ij t.ay w).1.1 (ij t.ay w).1.2)=L at *;unfold dA;have KC:∀x∈L,x∈gp t.ix:=fun x hx=>AX x (hL ▸ hx);refine cf ?_;refine OD.box (ds:=[_,_,_,_,_]) ap rfl rfl ot rfl rfl (fun b2=>?_);refine an 70 [1,2] ?_;refine cW [1,2,6,7,8] (pC) ?_;refine af [1,2,6,7,8,25] ?_;refine au ?_ ?_<;>intro aP bF
 ·have hne:(ij t.ay w).2≠0:=(by simpa using aP)
  have aV:av t w=([],(ij t.ay w).2):=if_pos hne;refine af [4,5] ?_;refine aI [] ?_;rw[aV];exact⟨none,0,rfl,iK⟩
 have hz:(ij t.ay w).2=0:=(by simpa using aP)
 have agv:av t w=kw t w [] (L.drop 0):=(by unfold av;rw[if_neg (by simp[hz]),hL,drop_zero])
 refine cW [1,2,9] (Xf) ?_;refine cf ?_;refine bg [1,2,9,11] ?_;refine af [1,2,11,35,36,37] ?_;refine eL [1,2,35,36] (fun aW _ (O:Nat×List Int×Option Addr×Nat×List ah) aJ=>match O with|(k,acc,dW,dK,Sx)=>(k≤L.length)∧((acc).length≤k)∧(av t w=kw t w acc (L.drop k))∧(bw 3 1 ((acc).flatMap Tw.cI) (acc).length dW dK Sx)∧aJ=(⟨70,(11,aN dW (acc).length dK)::(37,ae (k:Nat))::aW,(⟨b2,53,5,[bf t.nm,ax 2 cC t.ay,ax 1 iw t.rows,ax 5 cP t.ix.ag,ae t.ix.root]⟩::Sx)⟩:St)) (fun (O:Nat×List Int×Option Addr×Nat×List ah)=>match O with|(k,acc,dW,dK,Sx)=>L.length-k) (0,([]:List Int),none,0,[]) ⟨(Nat.zero_le _),(Nat.zero_le _),agv,(bw.cast iK lK),rfl⟩ ?_;rintro⟨k,acc,dW,dK,Sx⟩ _ ⟨hk,wV,aV,er,rfl⟩;refine af [1,2,11,35,36,37,38] ?_;refine au ?_ ?_<;>intro aX cJ
 ·have aa:k<L.length:=(by omega)
  obtain⟨gW,U,oX,Wa⟩:=g.jf _ (KC _ (getElem_mem aa));have E:=jE (t:=t) U;have jr:L.drop k=(L[k]'aa)::L.drop (k+1):=drop_eq_getElem_cons aa;have hrw:=(g.row _ U oX).2.1;have hr4:=qg (g.row _ U oX).1;refine aC 2 ?_;refine OD.alloc (ds:=[_,_]) ap rfl rfl zeroValue90 rfl (fun mi=>?_);refine aK 0 [_,_] sizeOf90 ?_;refine an 70 [1,2,11,13,35,36,37] ?_;refine af [1,2,11,13,35,36,37,43] ?_;refine au ?_ ?_<;>intro cr cU
  ·have Z:0<w.length:=(by omega)
   have xR:=RF (G:=G) hm hw ht t.ay xn xm (t.rows[(L[k]'aa).2.toNat]) w4 hrw w ho fN;rw[←E] at xR;unfold mO at xR;rw[E] at xR;refine CD.seq ?_;refine tV 14 13 [1,2,11,13,14,35,36,37,55,56] ?_;refine aR 6 ?_ (h:=by exact(dF 1 (h:=by first|exact .l (j:=(L[k]'aa).2.toNat) (Int.toNat_of_nonneg gW).symm U|exact .r (j:=(L[k]'aa).2.toNat) (Int.toNat_of_nonneg gW).symm U)));refine cZ (xR) ?_;refine nj 3 ?_;refine rq ?_;refine jX ?_;refine⟨rfl,fun Ac=>?_⟩;refine aK 0 [_,_,_] sizeOf41 ?_;refine an 70 [1,2,11,13,14,15,35,36,37] ?_;refine af [1,2,11,13,14,15,35,36,37,58] ?_;refine au ?_ ?_<;>intro cX ec
   ·have hne:(eW t.ay (rowAt t (L[k]'aa).2) w).2≠0:=(by rw[E];simpa using cX)
    have I:av t w=([],(eW t.ay (rowAt t (L[k]'aa).2) w).2):=(by rw[aV,jr,kw,if_pos Z,if_pos hne])
    rw[E] at I;refine af [4,5] ?_;refine aI [] ?_;rw[I];exact⟨none,0,rfl,iK⟩
   have hne:¬(eW t.ay (rowAt t (L[k]'aa).2) w).2≠0:=(by rw[E];simpa using cX)
   refine af [1,2,11,13,35,36,37,62] ?_;refine au ?_ ?_<;>intro ew fp
   ·have gh:(eW t.ay (rowAt t (L[k]'aa).2) w).1.n≠1:=(by rw[E];simpa using ew)
    have nI:av t w=kw t w acc (L.drop (k+1)):=(by rw[aV,jr,kw,if_pos Z,if_neg hne,if_pos gh])
    refine cl [1,2,11,35,36,37] ?_;refine⟨((k+1),acc,dW,dK,Sx),_,cD,aM,w4,w4,nI,(bw.cast er lK),rfl⟩
   have gh:¬(eW t.ay (rowAt t (L[k]'aa).2) w).1.n≠1:=(by rw[E];simpa using ew)
   have nI:av t w=kw t w (acc++[(L[k]'aa).2]) (L.drop (k+1)):=(by rw[aV,jr,kw,if_pos Z,if_neg hne,if_neg gh])
   refine dQ 3 ?_;refine en (bZ 0 [_]) [.int .i64 0] [_] zeroValue3 runUnderlying67 sizeOf3 (fun oU=>?_);refine fB 0 66 1 1 ?_;refine OD.ev (ls:=(acc)) (new:=[(L[k]'aa).2]) (Sq:=Sx) Tw.eA Tw.nu ap rfl rfl underlying67 O3 rfl w7 ot er (dI (A:=[_,_,_])) ot bu nF nG (fun qq qU FJ FK=>?_);refine OD.perm (ee (S1:=[⟨qq,3,qU*1,flatMap Tw.cI ((acc)++[(L[k]'aa).2])⟩]) (A:=[_,_,_])) ?_;exact z70
  have Z:¬0<w.length:=(by omega)
  have nI:av t w=kw t w (acc++[(L[k]'aa).2]) (L.drop (k+1)):=(by rw[aV,jr,kw,if_neg Z])
  refine dQ 3 ?_;refine en (bZ 0 [_]) [.int .i64 0] [_] zeroValue3 runUnderlying67 sizeOf3 (fun oU=>?_);refine fB 0 66 1 1 ?_;refine OD.ev (ls:=(acc)) (new:=[(L[k]'aa).2]) (Sq:=Sx) Tw.eA Tw.nu ap rfl rfl underlying67 O3 rfl w7 ot er (dI (A:=[_,_])) ot bu nF nG (fun qq qU FJ FK=>?_);refine OD.perm (ee (S1:=[⟨qq,3,qU*1,flatMap Tw.cI ((acc)++[(L[k]'aa).2])⟩]) (A:=[_,_])) ?_;exact z70
 have I:av t w=(acc,0):=(by rw[aV,drop_of_length_le w4];rfl)
 refine af [4,5] ?_;refine aI Sx ?_;rw[I];exact⟨dW,dK,rfl,er⟩

end Go.Proofs.YtdgichenhdikgaaGreatDoor.Ba
namespace Go.Proofs.YtdgichenhdikgaaGreatDoor.So
open List
open Go.Proofs.Tryz
variable {α:Type} {R:α→α→Prop} {l L M X Y:List α} {x y:α} {k:Nat}
theorem Hv(ht:∀{x y z:α},R x y→R y z→R x z)(hs:L.Pairwise R)(hk:k≤L.length)(h:k=0∨∃h:k-1<L.length,R (L[k-1]) x):∀z∈L.take k,R z x:=by
 intro z hz;obtain⟨i,hi,rfl⟩:=mem_iff_getElem.1 hz;rw[length_take] at hi;rw[getElem_take];rcases h with rfl|⟨h1,h2⟩
 ·omega
 rcases Nat.lt_or_ge i (k-1) with h3|h3
 ·exact ht (pairwise_iff_getElem.1 hs i (k-1) w4 h1 h3) h2
 have:i=k-1:=(by omega)
 subst this;exact h2
theorem Hj(ht:∀{x y z:α},R x y→R y z→R x z)(hs:L.Pairwise R)(h:k=L.length∨∃h:k<L.length,R x (L[k])):∀z∈L.drop k,R x z:=by
 intro z hz;obtain⟨i,hi,rfl⟩:=mem_iff_getElem.1 hz;rw[length_drop] at hi;rw[getElem_drop];rcases h with rfl|⟨h1,h2⟩
 ·omega
 rcases Nat.eq_zero_or_pos i with rfl|h3
 ·simpa using h2
 exact ht h2 (pairwise_iff_getElem.1 hs k (k+i) h1 w4 w4)
theorem abU(hs:(X++Y).Pairwise R)(h1:∀z∈X,R z x)(h2:∀z∈Y,R x z):(X++x::Y).Pairwise R:=by
 rw[pairwise_append] at hs ⊢;obtain⟨p1,p2,p3⟩:=hs;refine⟨p1,pairwise_cons.2 ⟨h2,p2⟩,fun a ha b hb=>?_⟩;rcases mem_cons.1 hb with rfl|hb
 ·exact h1 a ha
 exact p3 a ha b hb
theorem R4(ht:∀{x y z:α},R x y→R y z→R x z)(hs:L.Pairwise R)(hk:k≤L.length)(h1:k=0∨∃h:k-1<L.length,R (L[k-1]) x)(h2:k=L.length∨∃h:k<L.length,R x (L[k])):(L.take k++x::L.drop k).Pairwise R :=
 abU (by rw[take_append_drop];exact hs) (Hv ht hs hk h1) (Hj ht hs h2)
theorem aam (ht:∀{x y z:α},R x y→R y z→R x z) {A B:List α} {i j:Nat} (ha:A.Pairwise R) (hb:B.Pairwise R) (hi:i≤A.length) (hj:j≤B.length)
  (h1:i=0∨j=B.length∨∃(p:i-1<A.length) (q:j<B.length),R A[i-1] B[j]) (h2:j=0∨i=A.length∨∃(p:j-1<B.length) (q:i<A.length),R B[j-1] A[i]) :
  ∀a∈A.take i++B.take j,∀b∈A.drop i++B.drop j,R a b:=by
 have E:∀a∈A.take i,∀b∈A.drop i,R a b:=(by rw[←take_append_drop i A] at ha;exact(pairwise_append.1 ha).2.2)
 have I:∀a∈B.take j,∀b∈B.drop j,R a b:=(by rw[←take_append_drop j B] at hb;exact(pairwise_append.1 hb).2.2)
 intro a hm b hn;rcases mem_append.1 hm with hm|hm<;>rcases mem_append.1 hn with hn|hn
 ·exact E a hm b hn
 ·rcases h1 with rfl|rfl|⟨p,q,hr⟩
  ·simp at hm
  ·simp at hn
  exact Hv (R:=R) ht ha hi (.inr ⟨p,by
   rcases Hj (R:=R) ht hb (k:=j) (x:=A[i-1]) (.inr ⟨q,hr⟩) b hn with h
   exact h⟩) a hm
 ·rcases h2 with rfl|rfl|⟨p,q,hr⟩
  ·simp at hm
  ·simp at hn
  exact Hv (R:=R) ht hb hj (.inr ⟨p,Hj (R:=R) ht ha (k:=i) (x:=B[j-1]) (.inr ⟨q,hr⟩) b hn⟩) a hm
 exact I a hm b hn
theorem HU{l1 l2:List α}:((l1++x::y::l2).set l1.length y).set (l1.length+1) x=l1++y::x::l2:=by
 rw[set_append_right _ _ (Nat.le_refl _),Nat.sub_self,set_cons_zero,set_append_right _ _ w4,show l1.length+1-l1.length=1 by omega,set_cons_succ,set_cons_zero]
def sw(l:List Int)(i j:Nat):List Int:=(l.set i (l.getD j 0)).set j (l.getD i 0)
theorem ae7{l:List Int}{i j:Nat}:(sw l i j).length=l.length:=by unfold sw;simp
theorem mr{l:List Int}{i:Nat}(h:i<l.length):l.getD i 0=l[i]:=by simp[h]
def jO(l:List Int)(a b:Nat):Nat→List Int
 | 0=>l
 | k+1=>sw (jO l a b k) (a+k) (b+k)
theorem Bb{l:List Int}{a b:Nat}:∀{k:Nat},(jO l a b k).length=l.length
 | 0=>rfl
 | k+1=>by rw[jO,ae7,Bb]
theorem R5{l:List Int}{a b:Nat}:∀{k:Nat},a+k≤b→b+k≤l.length→∀j,(jO l a b k)[j]?=if a≤j∧j<a+k then l[b+(j-a)]? else if b≤j∧j<b+k then l[a+(j-b)]? else l[j]?
 | 0,_,_,j=>by rw[if_neg w4,if_neg w4];try rfl
 | k+1,h1,h2,j=>by
  have E:=R5 (l:=l) (a:=a) (b:=b) (k:=k) w4 w4;have e1:(jO l a b k).getD (b+k) 0=l.getD (b+k) 0:=(by rw[getD_eq_getElem?_getD,E,if_neg w4,if_neg w4,getD_eq_getElem?_getD])
  have e2:(jO l a b k).getD (a+k) 0=l.getD (a+k) 0:=(by rw[getD_eq_getElem?_getD,E,if_neg w4,if_neg w4,getD_eq_getElem?_getD])
  rw[jO,sw,e1,e2,getElem?_set,getElem?_set,length_set,Bb,E];by_cases q1:b+k=j
  ·subst q1;rw[if_pos rfl,if_pos w4,if_neg w4,if_pos w4,mr w4,show a+(b+k-b)=a+k by omega,getElem?_eq_getElem w4]
  rw[if_neg q1];by_cases q2:a+k=j
  ·subst q2;rw[if_pos rfl,if_pos w4,if_pos w4,mr w4,show b+(a+k-a)=b+k by omega,getElem?_eq_getElem w4]
  rw[if_neg q2];simp only[show(a≤j∧j<a+(k+1))↔(a≤j∧j<a+k) by omega,show(b≤j∧j<b+(k+1))↔(b≤j∧j<b+k) by omega]
theorem Jf{P U M W Q:List Int}(h:U.length=W.length):jO (P++(U++(M++(W++Q)))) P.length (P.length+U.length+M.length) U.length=P++(W++(M++(U++Q))):=by
 refine ext_getElem? fun j=>?_;rw[R5 w4 (by simp only[length_append];omega)];simp only[getElem?_append];repeat' split
 all_goals first|omega|(congr 1<;>omega)
def rG(T cur:List Int)(m i j:Nat):Prop:=∃P X Y Q,cur=P++(X++(Y++Q))∧X.length=i∧Y.length=j∧P.length+i=m∧T=P++(Y++(X++Q))
variable {T cur:List Int} {m i j:Nat}
theorem rG.len(h:rG T cur m i j):i≤m∧m+j≤cur.length∧T.length=cur.length:=by
 obtain⟨P,X,Y,Q,rfl,rfl,rfl,hm,rfl⟩:=h;simp only[length_append];omega
theorem ae8(h:rG T cur m i j)(E:j<i):rG T (jO cur (m-i) m j) m (i-j) j:=by
 obtain⟨P,X,Y,Q,rfl,rfl,rfl,hm,rfl⟩:=h;have l1:(X.take Y.length).length=Y.length:=(by rw[length_take];omega)
 have l2:(X.drop Y.length).length=X.length-Y.length:=length_drop;have e:=Jf (P:=P) (U:=X.take Y.length) (M:=X.drop Y.length) (W:=Y) (Q:=Q) l1;rw[l1,l2,←append_assoc (X.take _) (X.drop _),take_append_drop,show P.length+Y.length+(X.length-Y.length)=m by omega,show P.length=m-X.length by omega] at e;exact⟨P++Y,X.drop Y.length,X.take Y.length,Q,by rw[e];simp,l2,l1,by rw[length_append];omega,by rw[←append_assoc (X.take _) (X.drop _),take_append_drop];simp⟩
theorem ae9(h:rG T cur m i j)(E:i<j):rG T (jO cur (m-i) (m+j-i) i) m i (j-i):=by
 obtain⟨P,X,Y,Q,rfl,rfl,rfl,hm,rfl⟩:=h;have l1:(Y.take (Y.length-X.length)).length=Y.length-X.length:=(by rw[length_take];omega)
 have l2:(Y.drop (Y.length-X.length)).length=X.length:=(by rw[length_drop];omega)
 have e:=Jf (P:=P) (U:=X) (M:=Y.take (Y.length-X.length)) (W:=Y.drop (Y.length-X.length)) (Q:=Q) l2.symm;rw[l1,←append_assoc (Y.take _) (Y.drop _),take_append_drop,show P.length+X.length+(Y.length-X.length)=m+Y.length-X.length by omega,show P.length=m-X.length by omega] at e;exact⟨P,Y.drop (Y.length-X.length),Y.take (Y.length-X.length),X++Q,e,l2,l1,hm,by rw[←append_assoc (Y.take _) (Y.drop _),take_append_drop]⟩
theorem afa(h:rG T cur m i i):jO cur (m-i) m i=T:=by
 obtain⟨P,X,Y,Q,rfl,rfl,hl,hm,rfl⟩:=h;have e:=Jf (P:=P) (U:=X) (M:=[]) (W:=Y) (Q:=Q) hl.symm;rw[length_nil,Nat.add_zero,show P.length+X.length=m by omega,show P.length=m-X.length by omega] at e;simpa using e

end Go.Proofs.YtdgichenhdikgaaGreatDoor.So
namespace Go.Proofs.YtdgichenhdikgaaGreatDoor.So
open List
open Go.Proofs.Tryz
open Go.RowKit V Tw
variable {G:List (Nat×List Value)}
theorem Jg(l:List Int)(E la lb k cap I:Nat)(ey:D)(Sc:List ah)(fX:l.length=E)(h1:la+k≤lb)(h2:lb+k≤E)(h3:E≤cap)(h4:cap≤maxLen):VC Tryz.prog G 173 [aN (some ⟨I,0,none⟩) E cap,ae (la:Nat),ae (lb:Nat),ae (k:Nat),ey] (⟨I,3,cap*1,(l).flatMap cI⟩::Sc) (fun r S'=>r = .dG []∧S'=⟨I,3,cap*1,(jO l la lb k).flatMap cI⟩::Sc):=by
 refine VC.body func173 rfl ntmps173 aO fun X0 w0 aY=>?_;have dy:=dY;refine af [0,1,2,3,10] ?_;refine eL [0,1,2,3] (fun aW _ (i:Nat) aJ=>(i≤k)∧aJ=(⟨38,(10,ae (i:Nat))::aW,(⟨I,3,cap*1,(jO l la lb i).flatMap cI⟩::Sc)⟩:St)) (fun (i:Nat)=>k-i) 0 ⟨(Nat.zero_le _),rfl⟩ ?_;rintro i _ ⟨hi,rfl⟩;refine af [0,1,2,3,10,13] ?_;refine au ?_ ?_<;>intro aP bF
 ·have O:i<k:=(by omega)
  have hlen:(jO l la lb i).length=E:=(by rw[Bb,fX])
  have ha:la+i<(jO l la lb i).length:=(by omega)
  have hb:lb+i<(jO l la lb i).length:=(by omega)
  refine CD.skip ?_;refine CD.seq ?_;refine CD.block ?_;refine fL 22 (aq (eraseIdx _ 0)) ?_ (fun _ h=>(Sublist.map _ (eraseIdx_sublist _ 0)).subset h);refine az 0 rfl bj ?_;refine az 1 rfl bj ?_;refine az 2 rfl bj ?_;refine az 3 rfl mK ?_;refine az 4 rfl bj ?_;refine az 5 rfl bj ?_;refine az 6 rfl bj ?_;refine az 7 rfl mK ?_;refine az 8 rfl bj ?_;refine az 9 rfl bj ?_;refine az 10 rfl bj ?_;refine az 11 rfl mK ?_;refine az 12 rfl (dF 1) ?_;refine az 14 rfl bj ?_;refine az 15 rfl bj ?_;refine az 16 rfl bj ?_;refine az 17 rfl mK ?_;refine az 18 rfl (dF 1) ?_;refine dm.later rfl ?_;refine AD.two (i:=13) (j:=19) aA ?_ ?_
  ·refine at_ rfl eS ?_;refine AD.one (i:=19) aA ?_;exact VA
  refine at_ rfl eS ?_;refine AD.one (i:=13) aA ?_;exact VA
 obtain rfl:i=k:=(by omega)
 refine aI _ ?_;exact⟨by first|rfl|(simp[*];done),rfl⟩

theorem afb(l Tt:List Int)(Z a m b cap bd:Nat)(ey:D)(Sc:List ah)(h:rG Tt l m (m-a) (b-m))(h1:a<m)(h2:m<b)(fX:l.length=Z)(E:Z≤cap)(I:cap≤maxLen):VC Tryz.prog G 163 [aN (some ⟨bd,0,none⟩) Z cap,ae (a:Nat),ae (m:Nat),ae (b:Nat),ey] (⟨bd,3,cap*1,(l).flatMap cI⟩::Sc) (fun r S'=>r = .dG []∧S'=⟨bd,3,cap*1,(Tt).flatMap cI⟩::Sc):=by
 refine VC.body func163 rfl ntmps163 aO fun X0 w0 aY=>?_;have dy:=dY;have hlen:=h.len;refine cR [0,2,3,4,10] ?_;refine aR 2 ?_ (h:=by exact(c9 rfl ot ot (fY (r:=((m-a:Nat):Int)) qn)));refine bH ?_;refine cR [0,2,4,10,11] ?_;refine aR 2 ?_ (h:=by exact(c9 rfl ot ot (fY (r:=((b-m:Nat):Int)) qn)));refine bH ?_;refine eL [0,2,4] (fun aW _ (O:Nat×Nat×List Int) aJ=>match O with|(i,j,cur)=>(rG Tt cur m i j)∧(0<i)∧(0<j)∧((cur).length=Z)∧aJ=(⟨58,(10,ae (i:Nat))::(11,ae (j:Nat))::aW,(⟨bd,3,cap*1,(cur).flatMap cI⟩::Sc)⟩:St)) (fun (O:Nat×Nat×List Int)=>match O with|(i,j,cur)=>i+j) ((m-a),(b-m),l) ⟨h,w4,w4,fX,rfl⟩ ?_;rintro⟨i,j,cur⟩ _ ⟨hr,hi,hj,U,rfl⟩;refine af [0,2,4,10,11,20] ?_;refine au ?_ ?_<;>intro aP bF
 ·have rD:=hr.len;have hne:i≠j:=(by omega)
  refine af [0,2,4,10,11,23] ?_;refine au ?_ ?_<;>intro aX cJ
  ·have hgt:j<i:=(by omega)
   refine aC 3 ?_;refine bQ (c9 rfl ot ot (fY (r:=((m-i:Nat):Int)) qn)) ?_;refine aE 3 ?_;refine OD.call (R:=Sc) ap rfl rfl rfl call173 (Jg cur Z (m-i) m j cap bd ey [] U w4 w4 E I) ⟨ot,ot,ot,ot,ot,trivial⟩ (Perm.refl _) ?_;rintro _ _ ⟨rfl,rfl⟩;refine an 58 [0,2,4,10,11] ?_;refine iB [0,2,4,10,11] ?_;refine aR 2 ?_ (h:=by exact(c9 rfl ot ot (fY (r:=((i-j:Nat):Int)) qn)));refine bH ?_;refine⟨((i-j),j,(jO cur (m-i) m j)),_,cD,aM,(ae8 hr hgt),w4,hj,(by rw[Bb];exact U),rfl⟩
  have aa:i<j:=(by omega)
  refine aC 3 ?_;refine bQ (c9 rfl ot ot (fY (r:=((m-i:Nat):Int)) qn)) ?_;refine aE 4 ?_;refine bQ (c9 rfl ot ot (fY (r:=((m+j-i:Nat):Int)) (by rw[show((m:Int)+j-i)=((m+j-i:Nat):Int) by omega];exact wrap_i64 w4 w4))) ?_;refine aE 2 ?_;refine OD.call (R:=Sc) ap rfl rfl rfl call173 (Jg cur Z (m-i) (m+j-i) i cap bd ey [] U w4 w4 E I) ⟨ot,ot,ot,ot,ot,trivial⟩ (Perm.refl _) ?_;rintro _ _ ⟨rfl,rfl⟩;refine an 58 [0,2,4,10,11] ?_;refine iB [0,2,4,10,11] ?_;refine aR 2 ?_ (h:=by exact(c9 rfl ot ot (fY (r:=((j-i:Nat):Int)) qn)));refine bH ?_;refine⟨(i,(j-i),(jO cur (m-i) (m+j-i) i)),_,cD,aM,(ae9 hr aa),hi,w4,(by rw[Bb];exact U),rfl⟩
 have rD:=hr.len;obtain rfl:i=j:=(by omega)
 have he:=afa hr;refine dQ 3 ?_;refine bQ (c9 rfl ot ot (fY (r:=((m-i:Nat):Int)) qn)) ?_;refine aE 3 ?_;refine OD.call (R:=Sc) ap rfl rfl rfl call173 (Jg cur Z (m-i) m i cap bd ey [] U w4 w4 E I) ⟨ot,ot,ot,ot,ot,trivial⟩ (Perm.refl _) ?_;rintro _ _ ⟨rfl,rfl⟩;refine an 58 [] ?_;refine aI _ ?_;exact⟨rfl,by rw[he];rfl⟩

end Go.Proofs.YtdgichenhdikgaaGreatDoor.So
namespace Go.Proofs.YtdgichenhdikgaaGreatDoor.So
open List
open Go.Proofs.Tryz
variable {x y:Int} {Z S:List Int} {cF:Int→Int→Int}
def oh(R:Int→Int→Prop)(l0 l:List Int)(a i:Nat):Prop :=
 ∃(P A B A0:List Int),l=P++(A++B)∧P.length=a∧a+A.length=i∧A.Pairwise R∧A.Perm A0∧l0=P++(A0++B)
def sy(R:Int→Int→Prop)(l0 l:List Int)(a i j:Nat):Prop :=
 ∃(P A:List Int) (x:Int) (B A0:List Int) (k:Nat),l=P++(A.take k++x::(A.drop k++B))∧P.length=a∧k≤A.length∧a+k=j∧a+A.length=i∧A.Pairwise R∧(k=A.length∨∃h:k<A.length,R x A[k])∧A.Perm A0∧l0=P++(A0++x::B)
variable {R Lt:Int→Int→Prop} {l0 l:List Int} {a i j:Nat}
theorem sy.len(h:sy R l0 l a i j):a≤j∧j≤i∧i<l.length∧l.length=l0.length:=by
 obtain⟨P,A,x,B,E,k,rfl,rfl,hk,rfl,rfl,hs,hx,hp,rfl⟩:=h;have:=hp.length_eq;simp only[length_append,length_cons,length_take,length_drop];omega
theorem Iq(h:a≤l.length):oh R l l a a :=
 ⟨l.take a,[],l.drop a,[],by simp,by rw[length_take];omega,by simp,Pairwise.nil,.refl _,by simp⟩
theorem adC(h:a<l.length):oh R l l a (a+1) :=
 ⟨l.take a,[l[a]],l.drop (a+1),[l[a]],by simp,by rw[length_take];omega,by simp,pairwise_singleton _ _,.refl _,by simp⟩
theorem aan(h:oh R l0 l a i)(hi:i<l.length):sy R l0 l a i i:=by
 obtain⟨P,A,B,E,rfl,rfl,rfl,hs,hp,rfl⟩:=h;cases B with
 | nil=>simp at hi
 | cons x B=>exact⟨P,A,x,B,E,A.length,by simp,rfl,Nat.le_refl _,rfl,rfl,hs,.inl rfl,hp,rfl⟩
theorem EN{P A B:List Int}{k:Nat}(hk:k<A.length):P++(A.take (k+1)++x::(A.drop (k+1)++B))=(P++A.take k)++A[k]::x::(A.drop (k+1)++B):=by
 rw[take_succ_eq_append_getElem hk];simp only[append_assoc,singleton_append]
theorem Dy(n:Nat)(hn:n=Z.length)(h:n<(Z++y::S).length):(Z++y::S)[n]'h=y:=by subst hn;simp
theorem Dz(n:Nat)(hn:n=Z.length+1)(h:n<(Z++y::x::S).length):(Z++y::x::S)[n]'h=x:=by subst hn;simp[getElem_append_right]
theorem Zc(h:sy R l0 l a i j)(hj:a<j)(h1:j<l.length)(h0:j-1<l.length)(hr:R l[j] l[j-1]):sy R l0 ((l.set j l[j-1]).set (j-1) l[j]) a i (j-1):=by
 obtain⟨P,A,x,B,E,k,rfl,rfl,hk,rfl,rfl,hs,hx,hp,rfl⟩:=h;obtain⟨k,rfl⟩:∃m,k=m+1:=⟨k-1,by omega⟩
 have e:=EN (P:=P) (B:=B) (x:=x) hk;have hl:(P++A.take k).length=P.length+k:=(by rw[length_append,length_take];omega)
 simp only[e] at hr ⊢;rw[Dy (P.length+(k+1)-1) w4,Dz (P.length+(k+1)) w4] at hr ⊢;refine⟨P,A,x,B,E,k,?_,rfl,by omega,by omega,rfl,hs,.inr ⟨hk,hr⟩,hp,rfl⟩;rw[set_comm _ _ w4,show P.length+(k+1)-1=(P++A.take k).length by omega,show P.length+(k+1)=(P++A.take k).length+1 by omega,HU];rw[show A.drop k=A[k]::A.drop (k+1) from drop_eq_getElem_cons hk];simp only[append_assoc,cons_append]
theorem aaH(ht:∀{x y z:Int},R x y→R y z→R x z)(h:sy R l0 l a i j)(h1:j<l.length)(h0:j-1<l.length)(hr:j=a∨R l[j-1] l[j]):oh R l0 l a (i+1):=by
 obtain⟨P,A,x,B,E,k,rfl,rfl,hk,rfl,rfl,hs,hx,hp,rfl⟩:=h;refine⟨P,A.take k++x::A.drop k,B,E++[x],by simp,rfl,by simp;omega,R4 ht hs hk ?_ hx,?_,by simp⟩
 ·rcases Nat.eq_zero_or_pos k with rfl|hp
  ·exact .inl rfl
  right;obtain⟨k,rfl⟩:∃m,k=m+1:=⟨k-1,by omega⟩
  refine⟨by omega,?_⟩;rcases hr with hr|hr
  ·omega
  have e:=EN (P:=P) (B:=B) (x:=x) hk;have hl:(P++A.take k).length=P.length+k:=(by rw[length_append,length_take];omega)
  simp only[e] at hr;rw[Dy (P.length+(k+1)-1) w4,Dz (P.length+(k+1)) w4] at hr;exact hr
 refine List.perm_middle.trans ?_;rw[take_append_drop];exact(Perm.cons x hp).trans (perm_append_singleton x E).symm
theorem acm(h:sy R l0 l a i j)(hj:a<j)(h1:j<l.length)(h0:j-1<l.length)(hq:(l0.drop a).Pairwise Lt):Lt l[j-1] l[j]:=by
 obtain⟨P,A,x,B,E,k,rfl,rfl,hk,rfl,rfl,hs,hx,hp,rfl⟩:=h;obtain⟨k,rfl⟩:∃m,k=m+1:=⟨k-1,by omega⟩
 have e:=EN (P:=P) (B:=B) (x:=x) hk;have hl:(P++A.take k).length=P.length+k:=(by rw[length_append,length_take];omega)
 simp only[e];rw[Dy (P.length+(k+1)-1) w4,Dz (P.length+(k+1)) w4];rw[drop_left' rfl,pairwise_append] at hq;exact hq.2.2 _ (hp.subset (getElem_mem hk)) x (mem_cons_self)
theorem sy.perm(h:sy R l0 l a i j):l.Perm l0:=by
 obtain⟨P,A,x,B,E,k,rfl,rfl,hk,rfl,rfl,hs,hx,hp,rfl⟩:=h;refine(perm_append_left_iff P).2 (List.perm_middle.trans ?_);rw[←append_assoc,take_append_drop];exact(Perm.cons x ((perm_append_right_iff B).2 hp)).trans List.perm_middle.symm
def Rc(cF:Int→Int→Int)(Lt:Int→Int→Prop)(x y:Int):Prop:=cF x y<0∨cF x y=0∧Lt x y
theorem EA(h:cF y x<0):Rc cF Lt y x:=.inl h
theorem EU(ha:∀x y,0≤cF y x→cF x y≤0)(E:Lt x y)(h:¬cF y x<0):Rc cF Lt x y:=by
 have:=ha x y w4;unfold Rc;rcases Int.lt_or_eq_of_le this with q|q
 ·exact .inl q
 exact .inr ⟨q,E⟩
def Part(R:Int→Int→Prop)(l0 l:List Int)(a b:Nat):Prop:=∃(P M M0 Q:List Int),l=P++(M++Q)∧l0=P++(M0++Q)∧P.length=a∧a+M.length=b∧M.Perm M0∧M.Pairwise R
theorem oh.part{b:Nat}(h:oh R l0 l a b):Part R l0 l a b:=by
 obtain⟨P,A,B,E,h1,h2,h3,hs,hp,h4⟩:=h;exact⟨P,A,E,B,h1,h4,h2,h3,hp,hs⟩

end Go.Proofs.YtdgichenhdikgaaGreatDoor.So
namespace Go.Proofs.YtdgichenhdikgaaGreatDoor.So
open List
open Go.Proofs.Tryz
open Go.RowKit V Tw
variable {G:List (Nat×List Value)}
theorem Ti(l:List Int)(U a b cap bd fc:Nat)(O:List D)(Z:List ah)(cF:Int→Int→Int)(V:Int→Prop)(Lt:Int→Int→Prop)(hV:∀x∈l,V x)(hc:∀x y,V x→V y→VC Tryz.prog G fc ([ae x,ae y]++O) Z (fun r S'=>r=ae (cF x y)∧S'=Z))(u4:∀args w,(callFunc fc args).run Tryz.prog w = .ok (.enter fc args) w)(ht:∀{x y z:Int},Rc cF Lt x y→Rc cF Lt y z→Rc cF Lt x z)(ha:∀x y,0≤cF y x→cF x y≤0)(hq:(l.drop a).Pairwise Lt)(h1:a≤b)(h2:b≤U)(fX:l.length=U)(py:U≤cap)(qY:cap≤maxLen)(aoG:U<maxLen):VC Tryz.prog G 152 [aN (some ⟨bd,0,none⟩) U cap,ae (a:Nat),ae (b:Nat),.ey (.func fc) O] (⟨bd,3,cap*1,(l).flatMap cI⟩::Z) (fun r S'=>r = .dG []∧∃lz,Part (Rc cF Lt) l lz a b∧S'=⟨bd,3,cap*1,(lz).flatMap cI⟩::Z):=by
 refine VC.body func152 rfl ntmps152 aO fun X0 w0 aY=>?_;have dy:=dY;refine af [0,1,2,3,8] ?_;refine eL [0,1,2,3] (fun aW _ (E:Nat×List Int) aJ=>match E with|(i,cur)=>((i≤b→oh (Rc cF Lt) l cur a i))∧(a<i)∧((a<b→i≤b))∧((a=b→cur=l))∧((cur).length=U)∧aJ=(⟨53,(8,ae (i:Nat))::aW,(⟨bd,3,cap*1,(cur).flatMap cI⟩::Z)⟩:St)) (fun (E:Nat×List Int)=>match E with|(i,cur)=>b-i) ((a+1),l) ⟨(fun q=>adC w4),(Nat.lt_succ_self _),(fun q=>q),(fun _=>rfl),fX,rfl⟩ ?_;rintro⟨i,cur⟩ _ ⟨hs,Xg,hib,qy,lp,rfl⟩;refine af [0,1,2,3,8,14] ?_;refine au ?_ ?_<;>intro aP bF
 ·have aa:i<b:=(by omega)
  refine af [0,1,2,3,8,9] ?_;refine eL [0,1,2,3,8] (fun aW _ (E:Nat×List Int) aJ=>match E with|(j,lm)=>(sy (Rc cF Lt) l lm a i j)∧((lm).length=U)∧aJ=(⟨53,(9,ae (j:Nat))::aW,(⟨bd,3,cap*1,(lm).flatMap cI⟩::Z)⟩:St)) (fun (E:Nat×List Int)=>match E with|(j,lm)=>j) (i,cur) ⟨(aan (hs w4) w4),lp,rfl⟩ ?_;rintro⟨j,lm⟩ _ ⟨hj,zc,rfl⟩;have lR:=hj.len;have qp:j<lm.length:=(by omega)
  have qo:j-1<lm.length:=(by omega)
  refine CD.seq ?_;refine CD.seq ?_;refine fL 14 (aq (take 1 _)) ?_ (fun _ h=>(Sublist.map _ (take_sublist _ _)).subset h);refine az 0 rfl bj ?_;refine az 1 rfl bj ?_;refine az 2 rfl mK ?_;refine az 3 rfl bj ?_;refine dm.split (t:=21) lk (fun ql=>?_) (fun ql=>?_)
  ·have I:=ql;(try simp only[V.nh,ne_eq] at I)
   refine az 4 rfl bj ?_;refine az 5 rfl bj ?_;refine az 6 rfl bj ?_;refine az 7 rfl (dF 1 (h:=by first|exact .l (j:=j) rfl w4|exact .r (j:=j) rfl w4)) ?_;refine az 8 rfl eS ?_;refine az 9 rfl bj ?_;refine az 10 rfl bj ?_;refine az 11 rfl (c9 rfl ot bI (fY (r:=((j-1:Nat):Int)) (by rw[show((j:Int)-1)=((j-1:Nat):Int) by have C2:=of_decide_eq_true ql;omega];exact wrap_i64 (by have C2:=of_decide_eq_true ql;omega) w4))) ?_;refine az 12 rfl (dF 1 (h:=by first|exact .l (j:=j-1) rfl w4|exact .r (j:=j-1) rfl w4)) ?_;refine az 13 rfl eS ?_;refine dm.later rfl ?_;refine eD ?_;have Xh:∀x∈lm,V x:=fun x hx=>hV x (hj.perm.subset hx);refine OD.j9 (f:=fc) (args:=[_,_]) (Sf:=Z) ic rfl rfl ot u4 (hc _ _ (Xh _ (getElem_mem qp)) (Xh _ (getElem_mem qo))) rfl ⟨ot,ot,trivial⟩ (perm_append_singleton _ _).symm ?_;rintro _ S2 ⟨rfl,iC⟩;rw[iC];clear iC;refine OD.perm (perm_append_singleton _ _) ?_;refine an 53 [0,1,2,3,8,9,34] ?_;refine au ?_ ?_<;>intro aX cJ
   ·have hja:a<j:=(by have q:=of_decide_eq_true ql;omega)
    have afy:cF (lm[j]'qp) (lm[j-1]'qo)<0:=cJ;refine CD.skip ?_;refine CD.seq ?_;refine CD.block ?_;refine fL 16 (aq (eraseIdx _ 0)) ?_ (fun _ h=>(Sublist.map _ (eraseIdx_sublist _ 0)).subset h);refine az 0 rfl bj ?_;refine az 1 rfl bj ?_;refine az 2 rfl bj ?_;refine az 3 rfl bj ?_;refine az 4 rfl (c9 rfl ot bI (fY (r:=((j-1:Nat):Int)) Lz)) ?_;refine az 5 rfl bj ?_;refine az 6 rfl bj ?_;refine az 7 rfl (c9 rfl ot bI (fY (r:=((j-1:Nat):Int)) Lz)) ?_;refine az 8 rfl (dF 1 (h:=by first|exact .l (j:=j-1) rfl w4|exact .r (j:=j-1) rfl w4)) ?_;refine az 10 rfl bj ?_;refine az 11 rfl bj ?_;refine az 12 rfl (dF 1 (h:=by first|exact .l (j:=j) rfl w4|exact .r (j:=j) rfl w4)) ?_;refine dm.later rfl ?_;refine AD.two (i:=9) (j:=13) aA ?_ ?_
    ·refine at_ rfl eS ?_;refine AD.one (i:=13) aA ?_;exact Vu
    refine at_ rfl eS ?_;refine AD.one (i:=9) aA ?_;exact Vu
   exact VM
  have I:=ql;(try simp only[V.nh,ne_eq] at I)
  refine mb 4 rfl ?_;refine mb 5 rfl ?_;refine mb 6 rfl ?_;refine mb 7 rfl ?_;refine mb 8 rfl ?_;refine mb 9 rfl ?_;refine mb 10 rfl ?_;refine mb 11 rfl ?_;refine mb 12 rfl ?_;refine mb 13 rfl ?_;refine dm.later rfl ?_;refine eD ?_;refine bg [0,1,2,3,8,9,34] ?_;refine fM ?_;exact VM
 have nY:oh (Rc cF Lt) l cur a b:=(Nat.eq_or_lt_of_le h1).elim (fun q=>by subst q;rw[qy rfl];exact Iq w4) (fun q=>(show i=b by omega) ▸ hs w4);refine aI _ ?_;exact⟨rfl,_,nY.part,rfl⟩

end Go.Proofs.YtdgichenhdikgaaGreatDoor.So
namespace Go.Proofs.YtdgichenhdikgaaGreatDoor.So
open List
open Go.Proofs.Tryz
variable {i:Nat}
def Mv(P B Q:List Int)(x:Int)(t:Nat):List Int:=P++(B.take t++x::(B.drop t++Q))
variable {P B Q:List Int} {x:Int} {t:Nat}
theorem E6(h:t≤B.length):(Mv P B Q x t).length=P.length+(B.length+1+Q.length):=by
 unfold Mv;simp only[length_append,length_cons,length_take,length_drop];omega
theorem EO(h:t<B.length):Mv P B Q x t=(P++B.take t)++x::B[t]::(B.drop (t+1)++Q):=by
 unfold Mv;rw[drop_eq_getElem_cons h];simp only[append_assoc,cons_append]
theorem EP(h:t<B.length):Mv P B Q x (t+1)=(P++B.take t)++B[t]::x::(B.drop (t+1)++Q):=EN h
theorem y9(h:t<B.length):(P++B.take t).length=P.length+t:=by rw[length_append,length_take];omega
theorem afc(h:t<B.length)(h0:P.length+t<(Mv P B Q x t).length):(Mv P B Q x t)[P.length+t]=x:=by
 simp only[EO h];rw[Dy _ (y9 h).symm]
theorem adD(h:t<B.length)(h0:P.length+t+1<(Mv P B Q x t).length):(Mv P B Q x t)[P.length+t+1]=B[t]:=by
 simp only[EO h];rw[Dz _ (by rw[y9 h])]
theorem abV(h:t<B.length):((Mv P B Q x t).set (P.length+t) B[t]).set (P.length+t+1) x=Mv P B Q x (t+1):=by
 rw[EO h,EP h,←y9 (P:=P) h,HU]
theorem adE(h:t<B.length):((Mv P B Q x (t+1)).set (P.length+t+1) B[t]).set (P.length+t) x=Mv P B Q x t:=by
 rw[EO h,EP h,←y9 (P:=P) h,set_comm _ _ w4,HU]

variable {R Lt:Int→Int→Prop} {l l1 l2 l3:List Int} {a s m e b mid:Nat}
theorem R6(ht:∀{x y z:Int},R x y→R y z→R x z){P B Q:List Int}{x:Int}{s t:Nat}(E:B.Pairwise R)(hs:s≤B.length)(hk:t≤B.length)(h1:t=0∨∃h:t-1<B.length,R B[t-1] x)(h2:t=B.length∨∃h:t<B.length,R x B[t]) :
  Part R (Mv P B Q x s) (Mv P B Q x t) P.length (P.length+(B.length+1)):=by
 have hp:∀t,(B.take t++x::B.drop t).Perm (x::B):=fun t=>List.perm_middle.trans (by rw[take_append_drop]);refine⟨P,B.take t++x::B.drop t,B.take s++x::B.drop s,Q,by unfold Mv;simp,by unfold Mv;simp,rfl,?_,(hp t).trans (hp s).symm,R4 ht E hk h1 h2⟩;have:=(hp t).length_eq;simp only[length_cons] at this;rw[this]
def pO(R Lt:Int→Int→Prop)(l:List Int)(a m b:Nat):Prop:=∃(P A B Q:List Int),l=P++(A++(B++Q))∧P.length=a∧a+A.length=m∧m+B.length=b∧A.Pairwise R∧B.Pairwise R∧∀x∈A,∀y∈B,Lt x y
theorem pO.len(h:pO R Lt l a m b):a≤m∧m≤b∧b≤l.length:=by
 obtain⟨P,A,B,Q,rfl,rfl,rfl,rfl,_⟩:=h;simp only[length_append];omega
theorem pO.lt(h:pO R Lt l a m b){j:Nat}(h1:a≤i)(h2:i<m)(h3:m≤j)(h4:j<b)(hi:i<l.length)(hj:j<l.length):Lt l[i] l[j]:=by
 obtain⟨P,A,B,Q,rfl,rfl,rfl,rfl,_,_,h⟩:=h;refine h _ ?_ _ ?_
 ·rw[getElem_append_right h1,getElem_append_left w4];exact getElem_mem _
 rw[getElem_append_right w4,getElem_append_right w4,getElem_append_left w4];exact getElem_mem _
theorem O4{P M Q:List Int}(h:M.Pairwise R):Part R (P++(M++Q)) (P++(M++Q)) P.length (P.length+M.length):=⟨P,M,M,Q,rfl,rfl,rfl,rfl,.refl _,h⟩
theorem QA{P E Q:List Int}{x y:Nat}(h:Part R (P++(E++Q)) l x y)(hx:x=P.length)(hy:y=P.length+E.length):∃M,l=P++(M++Q)∧M.Perm E∧M.Pairwise R:=by
 obtain⟨P',M,U,Q',h1,h2,h3,h4,h5,h6⟩:=h;have hl:=h5.length_eq;obtain⟨e1,e2⟩:=append_inj h2 w4;obtain⟨I,O⟩:=append_inj e2 w4;subst e1 I O;exact⟨M,h1,h5,h6⟩
def tL(R Lt:Int→Int→Prop)(l l1:List Int)(a s m e b mid:Nat):Prop:=∃(P A1 A2 B1 B2 Q:List Int),l=P++(A1++(A2++(B1++(B2++Q))))∧l1=P++(A1++(B1++(A2++(B2++Q))))∧P.length=a∧a+A1.length=s∧s+A2.length=m∧m+B1.length=e∧e+B2.length=b∧s+B1.length=mid ∧
 A1.Pairwise R∧A2.Pairwise R∧B1.Pairwise R∧B2.Pairwise R∧(∀x∈A1,∀y∈B1,Lt x y)∧(∀x∈A2,∀y∈B2,Lt x y)∧∀x∈A1++B1,∀y∈A2++B2,R x y
theorem adF (ht:∀{x y z:Int},R x y→R y z→R x z) (h:pO R Lt l a m b) (h1:a≤s) (h2:s≤m) (h3:m≤e) (h4:e≤b) (hm:s+(e-m)=mid)
  (k1:s=a∨e=b∨∃(p:s-1<l.length) (q:e<l.length),R l[s-1] l[e]) (k2:e=m∨s=m∨∃(p:e-1<l.length) (q:s<l.length),R l[e-1] l[s]):∃l1,tL R Lt l l1 a s m e b mid∧rG l1 l m (m-s) (e-m):=by
 obtain⟨P,A,B,Q,rfl,rfl,rfl,rfl,hA,hB,aa⟩:=h;obtain⟨i,rfl⟩:∃i,s=P.length+i:=⟨s-P.length,by omega⟩
 obtain⟨j,rfl⟩:∃j,e=P.length+A.length+j:=⟨e-(P.length+A.length),by omega⟩
 have E:∀k (h:k<A.length) (q:P.length+k<(P++(A++(B++Q))).length),(P++(A++(B++Q)))[P.length+k]=A[k]:=fun k h q=>by
  rw[getElem_append_right w4,getElem_append_left w4];simp
 have I:∀k (h:k<B.length) (q:P.length+A.length+k<(P++(A++(B++Q))).length),(P++(A++(B++Q)))[P.length+A.length+k]=B[k]:=fun k h q=>by
  rw[getElem_append_right w4,getElem_append_right w4,getElem_append_left w4];congr 1;omega
 have hc:=aam (R:=R) ht hA hB (i:=i) (j:=j) w4 w4 (by
  rcases Nat.eq_zero_or_pos i with q|q
  ·exact .inl q
  rcases k1 with k1|k1|⟨p1,p2,k1⟩
  ·omega
  ·exact .inr (.inl w4)
  ·rcases Nat.lt_or_ge j B.length with q2|q2
   ·refine .inr (.inr ⟨by omega,q2,?_⟩);have e1:=E (i-1) w4 w4;simp only[show P.length+i-1=P.length+(i-1) by omega] at k1;rw[e1,I j q2] at k1;exact k1
   exact .inr (.inl w4)) (by
  rcases Nat.eq_zero_or_pos j with q|q
  ·exact .inl q
  rcases k2 with k2|k2|⟨p1,p2,k2⟩
  ·omega
  ·exact .inr (.inl w4)
  rcases Nat.lt_or_ge i A.length with q2|q2
  ·refine .inr (.inr ⟨by omega,q2,?_⟩);have e1:=I (j-1) w4 w4;simp only[show P.length+A.length+j-1=P.length+A.length+(j-1) by omega] at k2;rw[e1,E i q2] at k2;exact k2
  exact .inr (.inl w4))
 have la1:(A.take i).length=i:=(by rw[length_take];omega)
 have lb1:(B.take j).length=j:=(by rw[length_take];omega)
 have la2:(A.drop i).length=A.length-i:=length_drop;have lb2:(B.drop j).length=B.length-j:=length_drop;have O:A.take i++A.drop i=A:=take_append_drop ..;have U:B.take j++B.drop j=B:=take_append_drop ..;have Z:(A.take i++A.drop i).Pairwise R:=(by rw[O];exact hA)
 have pb:(B.take j++B.drop j).Pairwise R:=(by rw[U];exact hB)
 have ea:A++(B++Q)=A.take i++(A.drop i++(B.take j++(B.drop j++Q))):=(by rw[←append_assoc (A.take i),O,←append_assoc (B.take j),U])
 refine⟨P++(A.take i++(B.take j++(A.drop i++(B.drop j++Q)))),⟨P,A.take i,A.drop i,B.take j,B.drop j,Q,by rw[ea],rfl,rfl,by omega,by omega,by omega,by omega,by omega,(pairwise_append.1 Z).1,(pairwise_append.1 Z).2.1,(pairwise_append.1 pb).1,(pairwise_append.1 pb).2.1,fun x hx y hy=>aa x (mem_of_mem_take hx) y (mem_of_mem_take hy),fun x hx y hy=>aa x (mem_of_mem_drop hx) y (mem_of_mem_drop hy),hc⟩,
  P++A.take i,A.drop i,B.take j,B.drop j++Q,by rw[ea];simp,by omega,by omega,by rw[length_append];omega,by simp⟩
theorem tL.perm(h:tL R Lt l l1 a s m e b mid):l1.Perm l:=by
 obtain⟨P,E,I,O,B2,Q,rfl,rfl,_⟩:=h;refine Perm.append_left P (Perm.append_left E ?_);rw[←append_assoc O,←append_assoc I];exact List.perm_append_comm.append_right _
theorem adG(h:tL R Lt l l1 a s m e b mid):pO R Lt l1 a s mid:=by
 obtain⟨P,E,I,O,B2,Q,rfl,rfl,e1,e2,Z,e4,e5,U,p1,p2,p3,p4,q1,q2,q3⟩:=h;exact⟨P,E,O,I++(B2++Q),rfl,e1,e2,U,p1,p3,q1⟩
theorem QB(h:tL R Lt l l1 a s m e b mid)(hn:¬(a<s∧s<mid)):Part R l1 l1 a mid:=by
 obtain⟨P,E,O,I,B2,Q,rfl,rfl,rfl,e2,U,Z,e5,e6,p1,p2,p3,p4,q1,q2,q3⟩:=h;have:(E++I).Pairwise R:=by
  rcases Nat.eq_zero_or_pos E.length with h|h
  ·rw[length_eq_zero_iff.1 h];exact p3
  rw[length_eq_zero_iff.1 (show I.length=0 by omega),append_nil];exact p1
 have:=O4 (P:=P) (Q:=O++(B2++Q)) this;rw[append_assoc,length_append] at this;rwa [show P.length+(E.length+I.length)=mid by omega] at this
theorem Jh(h:tL R Lt l l1 a s m e b mid)(k:Part R l1 l2 a mid):∃(P I E O B2 Q M:List Int),l=P++(I++(E++(O++(B2++Q))))∧l2=P++(M++(E++(B2++Q)))∧P.length=a∧M.length+a=mid∧M.Perm (I++O)∧mid+E.length=e∧e+B2.length=b∧M.Pairwise R∧E.Pairwise R∧B2.Pairwise R∧(∀x∈E,∀y∈B2,Lt x y)∧∀x∈M,∀y∈E++B2,R x y:=by
 obtain⟨P,I,E,O,B2,Q,rfl,rfl,rfl,e2,e3,e4,e5,e6,p1,p2,p3,U,q1,q2,Z⟩:=h;rw[←append_assoc I] at k;obtain⟨M,h1,h2,h3⟩:=QA k rfl vg;have:=h2.length_eq;rw[length_append] at this;exact⟨P,I,E,O,B2,Q,M,rfl,h1,rfl,by omega,h2,by omega,by omega,h3,p2,U,q2,fun x hx=>Z x (h2.subset hx)⟩
theorem abW(h:tL R Lt l l1 a s m e b mid)(k:Part R l1 l2 a mid):pO R Lt l2 mid e b:=by
 obtain⟨P,I,E,O,B2,Q,M,rfl,rfl,rfl,e1,e2,U,Z,p1,p2,p3,q1,q2⟩:=Jh h k;exact⟨P++M,E,B2,Q,by simp,by rw[length_append];omega,by omega,by omega,p2,p3,q1⟩
theorem Oc(h:tL R Lt l l1 a s m e b mid)(k:Part R l1 l2 a mid)(hn:¬(mid<e∧e<b)):Part R l2 l2 mid b:=by
 obtain⟨P,I,E,O,B2,Q,M,rfl,rfl,rfl,e1,e2,U,Z,p1,p2,p3,q1,q2⟩:=Jh h k;have:(E++B2).Pairwise R:=by
  rcases Nat.eq_zero_or_pos E.length with h|h
  ·rw[length_eq_zero_iff.1 h];exact p3
  rw[length_eq_zero_iff.1 (show B2.length=0 by omega),append_nil];exact p2
 have:=O4 (P:=P++M) (Q:=Q) this;rw[append_assoc,length_append,length_append,append_assoc] at this;rwa [show P.length+M.length+(E.length+B2.length)=b by omega,show P.length+M.length=mid by omega] at this
theorem EC(h:tL R Lt l l1 a s m e b mid)(k:Part R l1 l2 a mid)(j:Part R l2 l3 mid b):Part R l l3 a b:=by
 obtain⟨P,E,I,O,B2,Q,M,rfl,rfl,rfl,e1,e2,Z,e4,p1,p2,p3,q1,q2⟩:=Jh h k;rw[←append_assoc I,←append_assoc P] at j;obtain⟨U,h1,h2,h3⟩:=QA j vg (by rw[length_append,length_append];omega);have hl:=e2.length_eq;have iT:=h2.length_eq;rw[length_append] at hl iT;refine⟨P,M++U,E++(I++(O++B2)),Q,by rw[h1];simp,by simp,rfl,by rw[length_append];omega,?_,pairwise_append.2 ⟨p1,h3,fun x hx y hy=>q2 x hx y (h2.subset hy)⟩⟩;refine(e2.append h2).trans ?_;rw[append_assoc E];refine Perm.append_left E ?_;rw[←append_assoc O,←append_assoc I];exact List.perm_append_comm.append_right B2
theorem Part.perm(h:Part R l l1 a b):l1.Perm l:=by
 obtain⟨P,M,E,Q,rfl,rfl,_,_,hp,_⟩:=h;exact(hp.append_right Q).append_left P
theorem Part.len(h:Part R l l1 a b):l1.length=l.length:=h.perm.length_eq
theorem aaI{T cur:List Int}{j:Nat}(h:rG T cur m i j)(hz:i=0∨j=0):T=cur:=by
 obtain⟨P,X,Y,Q,rfl,rfl,rfl,hm,rfl⟩:=h;rcases hz with h|h
 ·rw[length_eq_zero_iff.1 h];rfl
 rw[length_eq_zero_iff.1 h];rfl
theorem abX(ht:∀{x y z:Int},R x y→R y z→R x z)(h:pO R Lt l a m b)(hm:m=a+1)(h1:m≤i)(h2:i≤b)(k1:i=m∨∃(p:i-1<l.length) (q:a<l.length),R l[i-1] l[a])(k2:i=b∨∃(p:a<l.length) (q:i<l.length),R l[a] l[i]) :
  ∃(P B Q:List Int) (x:Int),P.length=a∧l=Mv P B Q x 0∧i-m≤B.length∧m+B.length=b∧Part R l (Mv P B Q x (i-m)) a b:=by
 obtain⟨P,A,B,Q,rfl,rfl,rfl,rfl,hA,hB,aa⟩:=h;obtain⟨x,rfl⟩:=length_eq_one_iff.1 (show A.length=1 by omega);have E:∀(q:P.length<(P++([x]++(B++Q))).length),(P++([x]++(B++Q)))[P.length]=x:=fun q=>by rw[getElem_append_right w4];simp
 have I:∀k (h:k<B.length) (q:P.length+1+k<(P++([x]++(B++Q))).length),(P++([x]++(B++Q)))[P.length+1+k]=B[k]:=fun k h q=>by
  rw[getElem_append_right w4,getElem_append_right hU,getElem_append_left hU];simp only[length_singleton];congr 1;omega
 have jV:([x]:List Int).length=1:=rfl;rw[jV] at *;obtain⟨t,rfl⟩:∃t,i=P.length+1+t:=⟨i-(P.length+1),by omega⟩
 rw[show P.length+1+t-(P.length+1)=t by omega];have hp:=R6 (R:=R) (P:=P) (B:=B) (Q:=Q) (x:=x) (s:=0) (t:=t) ht hB (Nat.zero_le _) w4 (by
  rcases Nat.eq_zero_or_pos t with q|q
  ·exact .inl q
  rcases k1 with k1|⟨O,U,k1⟩
  ·omega
  ·refine .inr ⟨by omega,?_⟩;have e1:=I (t-1) w4 w4;simp only[show P.length+1+t-1=P.length+1+(t-1) by omega] at k1;rw[E,e1] at k1;exact k1) (by
  rcases k2 with k2|⟨O,U,k2⟩
  ·exact .inl w4
  rcases Nat.lt_or_ge t B.length with q|q
  ·exact .inr ⟨q,by rw[E,I t q] at k2;exact k2⟩
  exact .inl w4)
 refine⟨P,B,Q,x,rfl,rfl,by omega,rfl,?_⟩;rw[show P.length+(B.length+1)=P.length+1+B.length by omega] at hp;exact hp
theorem aao(ht:∀{x y z:Int},R x y→R y z→R x z)(h:pO R Lt l a m b)(hm:b=m+1)(h1:a≤i)(h2:i≤m)(k1:i=a∨∃(p:i-1<l.length) (q:m<l.length),R l[i-1] l[m])(k2:i=m∨∃(p:m<l.length) (q:i<l.length),R l[m] l[i]) :
  ∃(P B Q:List Int) (x:Int),P.length=a∧l=Mv P B Q x (m-a)∧i-a≤B.length∧a+B.length=m∧Part R l (Mv P B Q x (i-a)) a b:=by
 obtain⟨P,A,B,Q,rfl,rfl,rfl,rfl,hA,hB,aa⟩:=h;obtain⟨x,rfl⟩:=length_eq_one_iff.1 (show B.length=1 by omega);have E:∀(q:P.length+A.length<(P++(A++([x]++Q))).length),(P++(A++([x]++Q)))[P.length+A.length]=x:=fun q=>by
  rw[getElem_append_right w4,getElem_append_right w4];simp
 have I:∀k (h:k<A.length) (q:P.length+k<(P++(A++([x]++Q))).length),(P++(A++([x]++Q)))[P.length+k]=A[k]:=fun k h q=>by
  rw[getElem_append_right w4,getElem_append_left w4];simp
 have jV:([x]:List Int).length=1:=rfl;rw[jV] at *;obtain⟨t,rfl⟩:∃t,i=P.length+t:=⟨i-P.length,by omega⟩
 rw[show P.length+t-P.length=t by omega,show P.length+A.length-P.length=A.length by omega];have he:P++(A++([x]++Q))=Mv P A Q x A.length:=(by unfold Mv;simp)
 have hp:=R6 (R:=R) (P:=P) (B:=A) (Q:=Q) (x:=x) (s:=A.length) (t:=t) ht hA (Nat.le_refl _) w4 (by
  rcases Nat.eq_zero_or_pos t with q|q
  ·exact .inl q
  rcases k1 with k1|⟨O,U,k1⟩
  ·omega
  ·refine .inr ⟨by omega,?_⟩;have e1:=I (t-1) w4 w4;simp only[show P.length+t-1=P.length+(t-1) by omega] at k1;rw[E,e1] at k1;exact k1) (by
  rcases k2 with k2|⟨O,U,k2⟩
  ·exact .inl w4
  rcases Nat.lt_or_ge t A.length with q|q
  ·exact .inr ⟨q,by rw[E,I t q] at k2;exact k2⟩
  exact .inl w4)
 refine⟨P,A,Q,x,rfl,he,by omega,rfl,?_⟩;rw[he,show P.length+A.length+1=P.length+(A.length+1) by omega];exact hp
theorem abY(h:t<B.length)(h0:P.length+t<(Mv P B Q x (t+1)).length):(Mv P B Q x (t+1))[P.length+t]=B[t]:=by
 simp only[EP h];rw[Dy _ (y9 h).symm]
theorem abZ(h:t<B.length)(h0:P.length+t+1<(Mv P B Q x (t+1)).length):(Mv P B Q x (t+1))[P.length+t+1]=x:=by
 simp only[EP h];rw[Dz _ (by rw[y9 h])]
theorem aed(h:t<B.length)(ha:P.length=a)(h0:a+t<(Mv P B Q x t).length)(h1:a+t+1<(Mv P B Q x t).length):((Mv P B Q x t).set (a+t) (Mv P B Q x t)[a+t+1]).set (a+t+1) (Mv P B Q x t)[a+t]=Mv P B Q x (t+1):=by
 subst ha;rw[adD h,afc h,abV h]
theorem aec(h:t<B.length)(ha:P.length=a)(h0:a+t<(Mv P B Q x (t+1)).length)(h1:a+t+1<(Mv P B Q x (t+1)).length):((Mv P B Q x (t+1)).set (a+t+1) (Mv P B Q x (t+1))[a+t]).set (a+t) (Mv P B Q x (t+1))[a+t+1]=Mv P B Q x t:=by
 subst ha;rw[abY h,abZ h,adE h]

end Go.Proofs.YtdgichenhdikgaaGreatDoor.So
namespace Go.Proofs.YtdgichenhdikgaaGreatDoor.So
open List
open Go.Proofs.Tryz
open Go.RowKit V Tw
variable {G:List (Nat×List Value)}
theorem ab0(ln cap O fc:Nat)(U:List D)(I:List ah)(cF:Int→Int→Int)(V:Int→Prop)(Lt:Int→Int→Prop)(hc:∀x y,V x→V y→VC Tryz.prog G fc ([ae x,ae y]++U) I (fun r S'=>r=ae (cF x y)∧S'=I))(Z:∀args w,(callFunc fc args).run Tryz.prog w = .ok (.enter fc args) w)(ht:∀{x y z:Int},Rc cF Lt x y→Rc cF Lt y z→Rc cF Lt x z)(ha:∀x y,0≤cF y x→cF x y≤0)(py:ln≤cap)(qY:cap≤maxLen)(oQ:ln≤1000000)(n:Nat)(ih:∀k,k<n→∀(l:List Int) (a m b:Nat),b-a=k→pO (Rc cF Lt) Lt l a m b→a<m→m<b→l.length=ln→(∀x∈l,V x)→VC Tryz.prog G 153 [aN (some ⟨O,0,none⟩) ln cap,ae (a:Nat),ae (m:Nat),ae (b:Nat),.ey (.func fc) U] (⟨O,3,cap*1,(l).flatMap cI⟩::I) (fun r S'=>r = .dG []∧∃lz,Part (Rc cF Lt) l lz a b∧S'=⟨O,3,cap*1,(lz).flatMap cI⟩::I))(l:List Int)(a m b:Nat)(hn:b-a=n)(h:pO (Rc cF Lt) Lt l a m b)(h1:a<m)(h2:m<b)(fX:l.length=ln)(hV:∀x∈l,V x):VC Tryz.prog G 153 [aN (some ⟨O,0,none⟩) ln cap,ae (a:Nat),ae (m:Nat),ae (b:Nat),.ey (.func fc) U] (⟨O,3,cap*1,(l).flatMap cI⟩::I) (fun r S'=>r = .dG []∧∃lz,Part (Rc cF Lt) l lz a b∧S'=⟨O,3,cap*1,(lz).flatMap cI⟩::I):=by
 refine VC.body func153 rfl ntmps153 aO fun X0 w0 aY=>?_;have dy:=dY;have hlen:=h.len;refine cR [0,1,2,3,4,28] ?_;refine aR 2 ?_ (h:=by exact(c9 rfl ot ot (fY (r:=((m-a:Nat):Int)) qn)));refine bH ?_;refine au ?_ ?_<;>intro aP bF
 ·have C1:m=a+1:=(by omega)
  refine af [0,1,3,4,10] ?_;refine af [0,1,4,10,11] ?_;refine eL [0,1,4] (fun aW _ (E:Nat×Nat) aJ=>match E with|(i,j)=>(m≤i)∧(i≤j)∧(j≤b)∧((i=m∨∃(p:i-1<l.length) (q:a<l.length),(Rc cF Lt) l[i-1] l[a]))∧((j=b∨∃(p:a<l.length) (q:j<l.length),(Rc cF Lt) l[a] l[j]))∧aJ=(⟨220,(10,ae (i:Nat))::(11,ae (j:Nat))::aW,(⟨O,3,cap*1,(l).flatMap cI⟩::I)⟩:St)) (fun (E:Nat×Nat)=>match E with|(i,j)=>j-i) (m,b) ⟨(Nat.le_refl _),w4,(Nat.le_refl _),(.inl rfl),(.inl rfl),rfl⟩ ?_;rintro⟨i,j⟩ _ ⟨mj,W5,hjb,dM,fu,rfl⟩;refine af [0,1,4,10,11,33] ?_;refine au ?_ ?_<;>intro aX cJ
  ·have hh:i<j:=(by omega)
   have hH:((i+j)/2)<l.length:=(by omega)
   have hA:a<l.length:=(by omega)
   refine cR [0,1,4,10,11,12] ?_;refine aR 2 ?_ (h:=by exact(c9 rfl ot ot (j7 (r:=((i+j:Nat):Int)) zN)));refine aR 0 ?_ (h:=by exact(oq rfl ot (ou (r:=((i+j:Nat):Int)) runUnderlying3 runUnderlying231 (IntWalk.u64_in _ w4))));refine aR 0 ?_ (h:=by exact(c9 rfl ot bI (yA w7 Bu)));refine aR 0 ?_ (h:=by exact(oq rfl ot (ou (r:=((((i+j)/2):Nat):Int)) runUnderlying231 runUnderlying3 (wrap_i64 w4 w4))));refine bH ?_;refine CD.seq ?_;refine fL 9 (aq (take 1 _)) ?_ (fun _ h=>(Sublist.map _ (take_sublist _ _)).subset h);refine az 0 rfl bj ?_;refine az 1 rfl bj ?_;refine az 2 rfl bj ?_;refine az 3 rfl (dF 1 (h:=by first|exact .l (j:=((i+j)/2)) rfl w4|exact .r (j:=((i+j)/2)) rfl w4)) ?_;refine az 4 rfl eS ?_;refine az 5 rfl bj ?_;refine az 6 rfl bj ?_;refine az 7 rfl (dF 1 (h:=by first|exact .l (j:=a) rfl w4|exact .r (j:=a) rfl w4)) ?_;refine az 8 rfl eS ?_;refine dm.later rfl ?_;refine eD ?_;refine OD.j9 (f:=fc) (args:=[_,_]) (Sf:=I) ap rfl rfl ot Z (hc _ _ (hV _ (getElem_mem hH)) (hV _ (getElem_mem hA))) rfl ⟨ot,ot,trivial⟩ (perm_append_singleton _ _).symm ?_;rintro _ S2 ⟨rfl,iC⟩;rw[iC];clear iC;refine OD.perm (perm_append_singleton _ _) ?_;refine an 220 [0,1,4,10,11,12,50] ?_;refine au ?_ ?_<;>intro cr cU
   ·have wZ:(Rc cF Lt) (l[((i+j)/2)]'hH) (l[a]'hA):=EA cU;refine cl [0,1,4,10,11] ?_;exact V6
   have Ab:(Rc cF Lt) (l[a]'hA) (l[((i+j)/2)]'hH):=EU ha (h.lt (Nat.le_refl _) w4 w4 w4 hA hH) w4;refine cl [0,1,4,10,11] ?_;exact Ud
  obtain rfl:i=j:=(by omega)
  obtain⟨P,B,Q,x,hP,hl,hiB,hB,JP⟩:=abX (R:=Rc cF Lt) (l:=l) (a:=a) (m:=m) (b:=b) (i:=i) ht h C1 mj hjb dM fu;subst hl;have lU:∀t,t≤B.length→(Mv P B Q x (t)).length=ln:=fun t ht=>by rw[E6 ht,←fX,E6 (Nat.zero_le _)]
  refine af [0,10,13] ?_;refine eL [0,10] (fun aW _ (t:Nat) aJ=>(t≤i-m)∧aJ=(⟨220,(13,ae (a+t:Nat))::aW,(⟨O,3,cap*1,(Mv P B Q x (t)).flatMap cI⟩::I)⟩:St)) (fun (t:Nat)=>i-m-t) 0 ⟨(Nat.zero_le _),rfl⟩ ?_;rintro t _ ⟨hti,rfl⟩;refine cR [0,10,13,58] ?_;refine aR 2 ?_ (h:=by exact(c9 rfl ot bI (fY (r:=((i-1:Nat):Int)) (by rw[show(((i:Nat):Int)-1)=((i-1:Nat):Int) by omega];exact wrap_i64 w4 w4))));refine bH ?_;refine au ?_ ?_<;>intro cX ec
  ·have LW:t<B.length:=(by omega)
   have oI:=lU t w4;refine CD.skip ?_;refine CD.seq ?_;refine CD.block ?_;refine fL 16 (aq (eraseIdx _ 0)) ?_ (fun _ h=>(Sublist.map _ (eraseIdx_sublist _ 0)).subset h);refine az 0 rfl bj ?_;refine az 1 rfl bj ?_;refine az 2 rfl bj ?_;refine az 3 rfl bj ?_;refine az 4 rfl (c9 rfl ot bI (j7 (r:=((a+t+1:Nat):Int)) (by rw[show(((a+t:Nat):Int)+1)=((a+t+1:Nat):Int) by omega];exact wrap_i64 w4 w4))) ?_;refine az 5 rfl bj ?_;refine az 6 rfl bj ?_;refine az 7 rfl (c9 rfl ot bI (j7 (r:=((a+t+1:Nat):Int)) (by rw[show(((a+t:Nat):Int)+1)=((a+t+1:Nat):Int) by omega];exact wrap_i64 w4 w4))) ?_;refine az 8 rfl (dF 1 (h:=by first|exact .l (j:=a+t+1) rfl w4|exact .r (j:=a+t+1) rfl w4)) ?_;refine az 10 rfl bj ?_;refine az 11 rfl bj ?_;refine az 12 rfl (dF 1 (h:=by first|exact .l (j:=a+t) rfl w4|exact .r (j:=a+t) rfl w4)) ?_;refine dm.later rfl ?_;refine AD.two (i:=9) (j:=13) aA ?_ ?_
   ·refine at_ rfl eS ?_;refine AD.one (i:=13) aA ?_;exact Vt
   refine at_ rfl eS ?_;refine AD.one (i:=9) aA ?_;exact Vt
  obtain rfl:t=i-m:=(by omega)
  exact Gs
 refine cR [0,1,2,3,4,80] ?_;refine aR 2 ?_ (h:=by exact(c9 rfl ot ot (fY (r:=((b-m:Nat):Int)) qn)));refine bH ?_;refine au ?_ ?_<;>intro ew fp
 ·have C1:b=m+1:=(by omega)
  refine af [0,2,4,14] ?_;refine af [0,2,4,14,15] ?_;refine eL [0,2,4] (fun aW _ (E:Nat×Nat) aJ=>match E with|(i,j)=>(a≤i)∧(i≤j)∧(j≤m)∧((i=a∨∃(p:i-1<l.length) (q:m<l.length),(Rc cF Lt) l[i-1] l[m]))∧((j=m∨∃(p:m<l.length) (q:j<l.length),(Rc cF Lt) l[m] l[j]))∧aJ=(⟨220,(14,ae (i:Nat))::(15,ae (j:Nat))::aW,(⟨O,3,cap*1,(l).flatMap cI⟩::I)⟩:St)) (fun (E:Nat×Nat)=>match E with|(i,j)=>j-i) (a,m) ⟨(Nat.le_refl _),w4,(Nat.le_refl _),(.inl rfl),(.inl rfl),rfl⟩ ?_;rintro⟨i,j⟩ _ ⟨Xg,W5,Mr,dM,fu,rfl⟩;refine af [0,2,4,14,15,85] ?_;refine au ?_ ?_<;>intro fm gv
  ·have hh:i<j:=(by omega)
   have hH:((i+j)/2)<l.length:=(by omega)
   have hM:m<l.length:=(by omega)
   refine cR [0,2,4,14,15,16] ?_;refine aR 2 ?_ (h:=by exact(c9 rfl ot ot (j7 (r:=((i+j:Nat):Int)) zN)));refine aR 0 ?_ (h:=by exact(oq rfl ot (ou (r:=((i+j:Nat):Int)) runUnderlying3 runUnderlying231 (IntWalk.u64_in _ w4))));refine aR 0 ?_ (h:=by exact(c9 rfl ot bI (yA w7 Bu)));refine aR 0 ?_ (h:=by exact(oq rfl ot (ou (r:=((((i+j)/2):Nat):Int)) runUnderlying231 runUnderlying3 (wrap_i64 w4 w4))));refine bH ?_;refine CD.seq ?_;refine fL 9 (aq (take 1 _)) ?_ (fun _ h=>(Sublist.map _ (take_sublist _ _)).subset h);refine az 0 rfl bj ?_;refine az 1 rfl bj ?_;refine az 2 rfl bj ?_;refine az 3 rfl (dF 1 (h:=by first|exact .l (j:=m) rfl w4|exact .r (j:=m) rfl w4)) ?_;refine az 4 rfl eS ?_;refine az 5 rfl bj ?_;refine az 6 rfl bj ?_;refine az 7 rfl (dF 1 (h:=by first|exact .l (j:=((i+j)/2)) rfl w4|exact .r (j:=((i+j)/2)) rfl w4)) ?_;refine az 8 rfl eS ?_;refine dm.later rfl ?_;refine eD ?_;refine OD.j9 (f:=fc) (args:=[_,_]) (Sf:=I) ap rfl rfl ot Z (hc _ _ (hV _ (getElem_mem hM)) (hV _ (getElem_mem hH))) rfl ⟨ot,ot,trivial⟩ (perm_append_singleton _ _).symm ?_;rintro _ S2 ⟨rfl,iC⟩;rw[iC];clear iC;refine OD.perm (perm_append_singleton _ _) ?_;refine an 220 [0,2,4,14,15,16,103] ?_;refine au ?_ ?_<;>intro gL kG
   ·have wZ:(Rc cF Lt) (l[((i+j)/2)]'hH) (l[m]'hM):=EU ha (h.lt w4 w4 (Nat.le_refl _) w4 hH hM) w4;refine cl [0,2,4,14,15] ?_;exact V6
   have Ab:(Rc cF Lt) (l[m]'hM) (l[((i+j)/2)]'hH):=EA kG;refine cl [0,2,4,14,15] ?_;exact Ud
  obtain rfl:i=j:=(by omega)
  obtain⟨P,B,Q,x,hP,hl,hiB,hB,JP⟩:=aao (R:=Rc cF Lt) (l:=l) (a:=a) (m:=m) (b:=b) (i:=i) ht h C1 Xg Mr dM fu;subst hl;have lU:∀t,t≤B.length→(Mv P B Q x (t)).length=ln:=fun t ht=>by rw[E6 ht,←fX,E6 w4]
  refine af [0,14,17] ?_;refine eL [0,14] (fun aW _ (t:Nat) aJ=>(i-a≤t)∧(t≤m-a)∧aJ=(⟨220,(17,ae (a+t:Nat))::aW,(⟨O,3,cap*1,(Mv P B Q x (t)).flatMap cI⟩::I)⟩:St)) (fun (t:Nat)=>t) (m-a) ⟨w4,(Nat.le_refl _),rfl⟩ ?_;rintro t _ ⟨hti,htm,rfl⟩;refine af [0,14,17,110] ?_;refine au ?_ ?_<;>intro gg k8
  ·obtain⟨t,rfl⟩:∃k,t=k+1:=⟨t-1,by omega⟩
   have LW:t<B.length:=(by omega)
   have oI:=lU (t+1) w4;refine CD.skip ?_;refine CD.seq ?_;refine CD.block ?_;refine fL 16 (aq (eraseIdx _ 0)) ?_ (fun _ h=>(Sublist.map _ (eraseIdx_sublist _ 0)).subset h);refine az 0 rfl bj ?_;refine az 1 rfl bj ?_;refine az 2 rfl bj ?_;refine az 3 rfl bj ?_;refine az 4 rfl (c9 rfl ot bI (fY (r:=((a+t:Nat):Int)) Lx)) ?_;refine az 5 rfl bj ?_;refine az 6 rfl bj ?_;refine az 7 rfl (c9 rfl ot bI (fY (r:=((a+t:Nat):Int)) Lx)) ?_;refine az 8 rfl (dF 1 (h:=by first|exact .l (j:=a+t) rfl w4|exact .r (j:=a+t) rfl w4)) ?_;refine az 10 rfl bj ?_;refine az 11 rfl bj ?_;refine az 12 rfl (dF 1 (h:=by first|exact .l (j:=a+t+1) rfl w4|exact .r (j:=a+t+1) rfl w4)) ?_;refine dm.later rfl ?_;refine AD.two (i:=9) (j:=13) aA ?_ ?_
   ·refine at_ rfl eS ?_;refine AD.one (i:=13) aA ?_;exact Vs
   refine at_ rfl eS ?_;refine AD.one (i:=9) aA ?_;exact Vs
  obtain rfl:t=i-a:=(by omega)
  exact Gs
 obtain⟨mid,ai8⟩:∃q,q=(a+b)/2:=⟨_,rfl⟩
 refine cR [0,1,2,3,4,18] ?_;refine aR 2 ?_ (h:=by exact(c9 rfl ot ot (j7 (r:=((a+b:Nat):Int)) zN)));refine aR 0 ?_ (h:=by exact(oq rfl ot (ou (r:=((a+b:Nat):Int)) runUnderlying3 runUnderlying231 (IntWalk.u64_in _ w4))));refine aR 0 ?_ (h:=by exact(c9 rfl ot bI (yA w7 Bu)));refine aR 0 ?_ (h:=by exact(oq rfl ot (ou (r:=((mid:Nat):Int)) runUnderlying231 runUnderlying3 (by rw[show(((a+b)/2:Nat):Int)=((mid:Nat):Int) by rw[ai8]];exact wrap_i64 w4 w4))));refine bH ?_;refine cR [0,1,2,3,4,18,19] ?_;refine aR 2 ?_ (h:=by exact(c9 rfl ot ot (j7 (r:=((mid+m:Nat):Int)) zN)));refine bH ?_;refine af [0,1,2,3,4,18,19] ?_;refine jQ [0,1,2,3,4,18,19] (fun aW ug aJ=>∃(s0:Nat),∃(r0:Nat),((mid<m∧s0=mid+m-b∧r0=mid)∨(m≤mid∧s0=a∧r0=m))∧aJ=(⟨220,(20,ae (s0:Nat))::(21,ae (r0:Nat))::aW,ug⟩:St)) ?_ ?_
 ·refine af [0,1,2,3,4,18,19,140] ?_;refine au ?_ ?_<;>intro pF FU
  ·refine cR [0,1,2,3,4,18,19,20] ?_;refine aR 2 ?_ (h:=by exact(c9 rfl ot ot (fY (r:=(((mid+m)-b:Nat):Int)) qn)));refine bH ?_;refine cl [0,1,2,3,4,18,19,20,21] ?_;refine⟨_,aM,(mid+m-b),mid,(.inl ⟨by omega,rfl,rfl⟩),rfl⟩
  refine af [0,1,2,3,4,18,19,20] ?_;refine cl [0,1,2,3,4,18,19,20,21] ?_;refine⟨_,aM,a,m,(.inr ⟨by omega,rfl,rfl⟩),rfl⟩
 rintro _ ⟨s0,r0,GZ,rfl⟩;refine cR [0,1,2,3,4,18,19,20,21,22] ?_;refine aR 1 ?_ (h:=by exact(c9 rfl ot bI (fY (r:=(((mid+m)-1:Nat):Int)) (by rw[show((((mid+m):Nat):Int)-1)=(((mid+m)-1:Nat):Int) by omega];exact wrap_i64 w4 w4))));refine bH ?_;refine eL [0,1,2,3,4,18,19,22] (fun aW _ (E:Nat×Nat) aJ=>match E with|(s,r)=>(s0≤s)∧(s≤r)∧(r≤r0)∧((s=s0∨∃(p:s-1<l.length) (q:mid+m-s<l.length),(Rc cF Lt) l[s-1] l[mid+m-s]))∧((r=r0∨∃(p:mid+m-r-1<l.length) (q:r<l.length),(Rc cF Lt) l[mid+m-r-1] l[r]))∧aJ=(⟨220,(20,ae (s:Nat))::(21,ae (r:Nat))::aW,(⟨O,3,cap*1,(l).flatMap cI⟩::I)⟩:St)) (fun (E:Nat×Nat)=>match E with|(s,r)=>r-s) (s0,r0) ⟨(Nat.le_refl _),w4,(Nat.le_refl _),(.inl rfl),(.inl rfl),rfl⟩ ?_;rintro⟨s,r⟩ _ ⟨oQ,aoH,Xi,dM,fu,rfl⟩;refine af [0,1,2,3,4,18,19,20,21,22,151] ?_;refine au ?_ ?_<;>intro CW KO
 ·have hh:s<r:=(by omega)
  have hC:((s+r)/2)<l.length:=(by omega)
  have hQ:(mid+m-1-((s+r)/2))<l.length:=(by omega)
  refine cR [0,1,2,3,4,18,19,20,21,22,23] ?_;refine aR 2 ?_ (h:=by exact(c9 rfl ot ot (j7 (r:=((s+r:Nat):Int)) zN)));refine aR 0 ?_ (h:=by exact(oq rfl ot (ou (r:=((s+r:Nat):Int)) runUnderlying3 runUnderlying231 (IntWalk.u64_in _ w4))));refine aR 0 ?_ (h:=by exact(c9 rfl ot bI (yA w7 Bu)));refine aR 0 ?_ (h:=by exact(oq rfl ot (ou (r:=((((s+r)/2):Nat):Int)) runUnderlying231 runUnderlying3 (wrap_i64 w4 w4))));refine bH ?_;refine CD.seq ?_;refine fL 11 (aq (take 1 _)) ?_ (fun _ h=>(Sublist.map _ (take_sublist _ _)).subset h);refine az 0 rfl bj ?_;refine az 1 rfl bj ?_;refine az 2 rfl bj ?_;refine az 3 rfl bj ?_;refine az 4 rfl (c9 rfl ot ot (fY (r:=(((mid+m-1)-((s+r)/2):Nat):Int)) qn)) ?_;refine az 5 rfl (dF 1 (h:=by first|exact .l (j:=(mid+m-1-((s+r)/2))) rfl w4|exact .r (j:=(mid+m-1-((s+r)/2))) rfl w4)) ?_;refine az 6 rfl eS ?_;refine az 7 rfl bj ?_;refine az 8 rfl bj ?_;refine az 9 rfl (dF 1 (h:=by first|exact .l (j:=((s+r)/2)) rfl w4|exact .r (j:=((s+r)/2)) rfl w4)) ?_;refine az 10 rfl eS ?_;refine dm.later rfl ?_;refine eD ?_;refine OD.j9 (f:=fc) (args:=[_,_]) (Sf:=I) ap rfl rfl ot Z (hc _ _ (hV _ (getElem_mem hQ)) (hV _ (getElem_mem hC))) rfl ⟨ot,ot,trivial⟩ (perm_append_singleton _ _).symm ?_;rintro _ S2 ⟨rfl,iC⟩;rw[iC];clear iC;refine OD.perm (perm_append_singleton _ _) ?_
  refine an 220 [0,1,2,3,4,18,19,20,21,22,23,171] ?_;refine au ?_ ?_<;>intro FF Bm
  ·have ai9:(Rc cF Lt) (l[((s+r)/2)]'hC) (l[(mid+m-1-((s+r)/2))]'hQ):=EU ha (h.lt w4 w4 w4 w4 hC hQ) w4;have wZ:(Rc cF Lt) (l[((s+r)/2)+1-1]'w4) (l[mid+m-(((s+r)/2)+1)]'w4):=(by simpa only[show((s+r)/2)+1-1=((s+r)/2) by omega,show mid+m-(((s+r)/2)+1)=(mid+m-1-((s+r)/2)) by omega] using ai9)
   refine cl [0,1,2,3,4,18,19,20,21,22] ?_;refine⟨((((s+r)/2)+1),r),_,cD,aM,w4,w4,w4,(.inr ⟨by omega,by omega,wZ⟩),fu,rfl⟩
  have aja:(Rc cF Lt) (l[(mid+m-1-((s+r)/2))]'hQ) (l[((s+r)/2)]'hC):=EA Bm;have Ab:(Rc cF Lt) (l[mid+m-((s+r)/2)-1]'w4) (l[((s+r)/2)]'w4):=(by simpa only[show mid+m-((s+r)/2)-1=(mid+m-1-((s+r)/2)) by omega] using aja)
  refine cl [0,1,2,3,4,18,19,20,21,22] ?_;refine⟨(s,((s+r)/2)),_,cD,aM,w4,w4,w4,dM,(.inr ⟨by omega,by omega,Ab⟩),rfl⟩
 obtain rfl:s=r:=(by omega)
 obtain⟨l1,qk,Ko⟩:=adF (R:=Rc cF Lt) (l:=l) (a:=a) (m:=m) (b:=b) (s:=s) (e:=mid+m-s) (mid:=mid) ht h w4 w4 w4 w4 w4 (by rcases dM with q|q;(rcases GZ with q2|q2;exact .inr (.inl w4);exact .inl w4);exact .inr (.inr q)) (by rcases fu with q|q;(rcases GZ with q2|q2;exact .inl w4;exact .inr (.inl w4));exact .inr (.inr q));have jV:=Ko.len.2.2;refine cR [0,1,2,3,4,18,20,24] ?_;refine aR 2 ?_ (h:=by exact(c9 rfl ot ot (fY (r:=(((mid+m)-s:Nat):Int)) qn)));refine bH ?_;refine jQ [0,1,3,4,18,20,24] (fun aW _ aJ=>aJ=(⟨220,aW,(⟨O,3,cap*1,(l1).flatMap cI⟩::I)⟩:St)) ?_ ?_
 ·refine aC 4 ?_;refine bW 181 (fun agw afd=>?_) (fun agw afd=>?_)
  ·refine bg [0,1,2,3,4,18,20,24,185] ?_;refine au ?_ ?_<;>intro uU E9
   ·refine dQ 5 ?_;refine OD.call (R:=I) ap rfl rfl rfl call163 (afb l l1 ln s m (mid+m-s) cap O (.ey (.func fc) U) [] Ko w4 w4 fX py w4) ⟨ot,ot,ot,ot,ot,trivial⟩ (Perm.refl _) ?_;rintro _ _ ⟨rfl,rfl⟩;refine an 220 [0,1,3,4,18,20,24] ?_;refine⟨_,aM,rfl⟩
   exact z105
  refine bg [0,1,2,3,4,18,20,24,185] ?_;refine fM ?_;exact z105
 rintro _ ⟨rfl⟩;refine jQ [0,3,4,18,24] (fun aW _ aJ=>∃(l2:List Int),(Part (Rc cF Lt) l1 l2 a mid)∧aJ=(⟨220,aW,(⟨O,3,cap*1,(l2).flatMap cI⟩::I)⟩:St)) ?_ ?_
 ·refine aC 4 ?_;refine bW 195 (fun agx afe=>?_) (fun agx afe=>?_)
  ·refine bg [0,1,3,4,18,20,24,199] ?_;refine au ?_ ?_<;>intro FG afu
   ·refine dQ 5 ?_;refine OD.call (R:=[]) ap rfl rfl rfl call153 (ih (mid-a) w4 l1 a s mid rfl (adG qk) w4 w4 (jV.trans fX) (fun z hz=>hV z (qk.perm.subset hz))) ⟨ot,ot,ot,ot,ot,trivial⟩ oK ?_;rintro _ _ ⟨rfl,l2,oc,rfl⟩;refine OD.perm (S':=⟨O,3,cap*1,(l2).flatMap cI⟩::I) oK ?_;refine an 220 [0,3,4,18,24] ?_;refine⟨_,aM,l2,oc,rfl⟩
   refine CD.skip ?_;refine⟨_,aM,l1,(QB qk w4),rfl⟩
  refine bg [0,1,3,4,18,20,24,199] ?_;refine fM ?_;refine CD.skip ?_;refine⟨_,aM,l1,(QB qk w4),rfl⟩
 rintro _ ⟨l2,oc,rfl⟩;refine aC 4 ?_;refine bW 209 (fun agy aff=>?_) (fun agy aff=>?_)
 ·refine bg [0,3,4,18,24,213] ?_;refine au ?_ ?_<;>intro Kl afv
  ·refine dQ 5 ?_;refine OD.call (R:=[]) ap rfl rfl rfl call153 (ih (b-mid) w4 l2 mid (mid+m-s) b rfl (abW qk oc) w4 w4 (oc.len.trans (jV.trans fX)) (fun z hz=>hV z (qk.perm.subset (oc.perm.subset hz)))) ⟨ot,ot,ot,ot,ot,trivial⟩ oK ?_;rintro _ _ ⟨rfl,l3,VK,rfl⟩;refine OD.perm (S':=⟨O,3,cap*1,(l3).flatMap cI⟩::I) oK ?_;refine an 220 [] ?_;exact Gs
  exact Gs
 refine bg [0,3,4,18,24,213] ?_;refine fM ?_;refine aI _ ?_;first|exact⟨rfl,_,JP,rfl⟩|exact⟨rfl,_,EC qk oc VK,rfl⟩|exact⟨rfl,_,EC qk oc (Oc qk oc w4),rfl⟩
theorem Tj(I cap bd O:Nat)(E:List D)(U:List ah)(cF:Int→Int→Int)(V:Int→Prop)(Lt:Int→Int→Prop)(hc:∀x y,V x→V y→VC Tryz.prog G O ([ae x,ae y]++E) U (fun r S'=>r=ae (cF x y)∧S'=U))(Z:∀args w,(callFunc O args).run Tryz.prog w = .ok (.enter O args) w)(ht:∀{x y z:Int},Rc cF Lt x y→Rc cF Lt y z→Rc cF Lt x z)(ha:∀x y,0≤cF y x→cF x y≤0)(py:I≤cap)(qY:cap≤maxLen)(oQ:I≤1000000):∀(n:Nat) (l:List Int) (a m b:Nat),b-a=n→pO (Rc cF Lt) Lt l a m b→a<m→m<b→l.length=I→(∀x∈l,V x)→VC Tryz.prog G 153 [aN (some ⟨bd,0,none⟩) I cap,ae (a:Nat),ae (m:Nat),ae (b:Nat),.ey (.func O) E] (⟨bd,3,cap*1,(l).flatMap cI⟩::U) (fun r S'=>r = .dG []∧∃lz,Part (Rc cF Lt) l lz a b∧S'=⟨bd,3,cap*1,(lz).flatMap cI⟩::U):=fun n=>Nat.strongRecOn n (ab0 I cap bd O E U cF V Lt hc Z ht ha py qY oQ)

end Go.Proofs.YtdgichenhdikgaaGreatDoor.So
namespace Go.Proofs.YtdgichenhdikgaaGreatDoor.So
open List
open Go.Proofs.Tryz
variable {R Lt:Int→Int→Prop} {l l1 cur nA:List Int} {a b m n k:Nat}
theorem HV(h:Part R l l1 a b):l1.drop b=l.drop b:=by
 obtain⟨P,M,E,Q,rfl,rfl,rfl,rfl,hp,_⟩:=h;rw[←append_assoc,drop_left' (by rw[length_append]),←append_assoc,drop_left' (by rw[length_append,hp.length_eq])]
theorem QC(h:Part R l l1 a a):l1=l:=by
 obtain⟨P,M,E,Q,rfl,rfl,rfl,h1,hp,_⟩:=h;have hl:=hp.length_eq;rw[length_eq_zero_iff.1 (show M.length=0 by omega),length_eq_zero_iff.1 (show E.length=0 by omega)]
theorem Iw(h:Part R l l1 0 n)(hn:l.length=n):l1.Perm l∧l1.Pairwise R:=by
 refine⟨h.perm,?_⟩;obtain⟨P,M,E,Q,rfl,rfl,h1,h2,hp,hs⟩:=h;have hl:=hp.length_eq;simp only[length_append] at hn;rw[length_eq_zero_iff.1 h1,length_eq_zero_iff.1 (show Q.length=0 by omega)];simpa using hs
def xX(R:Int→Int→Prop)(l cur:List Int)(k:Nat):Prop:=(k=0∧cur=l)∨(k=1∧Part R l cur 0 20)∨(k=2∧∃l1,Part R l l1 0 20∧Part R l1 cur 20 40)
def F4(R:Int→Int→Prop)(l cur:List Int)(n:Nat):Prop:=∃l1,Part R l l1 0 20∧Part R l1 cur 20 n
theorem xX.perm(h:xX R l cur k):cur.Perm l:=by
 rcases h with ⟨_,rfl⟩|⟨_,h⟩|⟨_,l1,h1,h2⟩
 ·exact .refl _
 ·exact h.perm
 exact h2.perm.trans h1.perm
theorem ab1(h:xX R l cur k)(hk:k≤1)(hp:Part R cur nA (20*k) (20*(k+1))):xX R l nA (k+1):=by
 rcases h with ⟨rfl,rfl⟩|⟨rfl,h⟩|⟨rfl,_⟩
 ·exact .inr (.inl ⟨rfl,hp⟩)
 ·exact .inr (.inr ⟨rfl,_,h,hp⟩)
 omega
theorem ab2(h:xX R l cur k):cur.drop (20*k)=l.drop (20*k):=by
 rcases h with ⟨rfl,rfl⟩|⟨rfl,h⟩|⟨rfl,l1,h1,h2⟩
 ·rfl
 ·exact HV h
 rw[HV h2];have:=congrArg (drop 20) (HV h1);rw[drop_drop,drop_drop] at this;exact this
theorem adH(h:xX R l cur k)(h1:20*k≤n)(h2:n<20*(k+1))(h3:n≤40)(hl:l.length=n)(hp:Part R cur nA (20*k) n):(n≤20∧nA.Perm l∧nA.Pairwise R)∨(20<n∧F4 R l nA n):=by
 rcases h with ⟨rfl,rfl⟩|⟨rfl,h⟩|⟨rfl,l1,E,I⟩
 ·exact .inl ⟨by omega,Iw hp hl⟩
 ·rcases Nat.lt_or_ge 20 n with q|q
  ·exact .inr ⟨q,_,h,hp⟩
  obtain rfl:n=20:=(by omega)
  rw[QC hp];exact .inl ⟨q,Iw h hl⟩
 obtain rfl:n=40:=(by omega)
 rw[QC hp];exact .inr ⟨by omega,_,E,I⟩
theorem ab3(h:F4 R l cur n)(hq:l.Pairwise Lt):pO R Lt cur 0 20 n:=by
 obtain⟨l1,⟨P,M,M0,Q,rfl,rfl,h1,h2,hp,hs⟩,p2⟩:=h;obtain rfl:=length_eq_zero_iff.1 h1;obtain⟨O,U,Z,I,rfl,h4,h5,h6,oc,E⟩:=p2;obtain⟨e1,e2⟩:=append_inj (show M++Q=O++(Z++I) from h4) w4;subst e1 e2;rw[nil_append,pairwise_append] at hq;exact⟨[],M,U,I,by simp,rfl,by omega,by omega,hs,E,fun x hx y hy=>hq.2.2 x (hp.subset hx) y (mem_append_left _ (oc.subset hy))⟩
theorem QD(h:F4 R l cur n)(hp:Part R cur nA 0 n)(hl:l.length=n):nA.Perm l∧nA.Pairwise R:=by
 obtain⟨l1,p1,p2⟩:=h;have:=Iw hp (by rw[p2.len,p1.len,hl]);exact⟨this.1.trans (p2.perm.trans p1.perm),this.2⟩

end Go.Proofs.YtdgichenhdikgaaGreatDoor.So
namespace Go.Proofs.YtdgichenhdikgaaGreatDoor.So
open List
open Go.Proofs.Tryz
open Go.RowKit V Tw
variable {G:List (Nat×List Value)}
theorem aap(I cap U fc:Nat)(O:List D)(Z:List ah)(cF:Int→Int→Int)(V:Int→Prop)(Lt:Int→Int→Prop)(hc:∀x y,V x→V y→VC Tryz.prog G fc ([ae x,ae y]++O) Z (fun r S'=>r=ae (cF x y)∧S'=Z))(u4:∀args w,(callFunc fc args).run Tryz.prog w = .ok (.enter fc args) w)(ht:∀{x y z:Int},Rc cF Lt x y→Rc cF Lt y z→Rc cF Lt x z)(ha:∀x y,0≤cF y x→cF x y≤0)(py:I≤cap)(qY:cap≤maxLen)(oQ:I≤40)(l:List Int)(hq:l.Pairwise Lt)(fX:l.length=I)(hV:∀x∈l,V x):VC Tryz.prog G 129 [aN (some ⟨U,0,none⟩) I cap,ae (I:Nat),.ey (.func fc) O] (⟨U,3,cap*1,(l).flatMap cI⟩::Z) (fun r S'=>r = .dG []∧∃(lz:List Int),(lz.Perm l∧lz.Pairwise (Rc cF Lt))∧S'=⟨U,3,cap*1,(lz).flatMap cI⟩::Z):=by
 refine VC.body func129 rfl ntmps129 aO fun X0 w0 aY=>?_;have dy:=dY;refine af [0,1,2,6] ?_;refine af [0,1,2,6,7,8] ?_;refine CD.seq ?_;refine CD.block ?_;refine mM (fun (E:Nat×List Int) aJ=>match E with|(k,cur)=>(20*k≤I)∧(xX (Rc cF Lt) l cur k)∧aJ=(⟨63,[(0,aN (some ⟨U,0,none⟩) I cap),(1,ae (I:Nat)),(2,.ey (.func fc) O),(6,ae 20),(7,ae (20*k:Nat)),(8,ae (20*(k+1):Nat))],(⟨U,3,cap*1,(cur).flatMap cI⟩::Z)⟩:St)) (fun (E:Nat×List Int)=>match E with|(k,cur)=>3-k) (0,l) ⟨(Nat.zero_le _),(.inl ⟨rfl,rfl⟩),rfl⟩ (aM (h:=by repeat (first|exact trivial|refine⟨(by (repeat (first|exact fx|(apply fQ;focus (first|rfl|(rw[show(20*(k+1):Nat)=20*k+20 by omega];rfl)|(simp;done)|(congr 3;omega)))|(apply fD;focus rfl)));done),?_⟩))) ?_;rintro⟨k,cur⟩ _ ⟨hk,fC,rfl⟩;have lp:=fC.perm.length_eq;have sG:(cur.drop (20*k)).Pairwise Lt:=(by rw[ab2 fC];exact hq.drop)
 have DA:∀x∈cur,V x:=fun x hx=>hV x (fC.perm.subset hx);refine af [0,1,2,6,7,8,13] ?_;refine au ?_ ?_<;>intro aP bF
 ·have xV:20*(k+1)≤I:=(by omega)
  refine aC 4 ?_;refine OD.call (R:=[]) ap rfl rfl rfl call152 (Ti cur I (20*k) (20*(k+1)) cap U fc O Z cF V Lt DA hc u4 ht ha sG w4 w4 w4 py qY w4) ⟨ot,ot,ot,ot,trivial⟩ oK ?_;rintro _ _ ⟨rfl,c1,ajb,rfl⟩;refine OD.perm (S':=⟨U,3,cap*1,(c1).flatMap cI⟩::Z) oK ?_;refine an 63 [0,1,2,6,8] ?_;refine af [0,1,2,6,7,8] ?_;refine iB [0,1,2,6,7,8] ?_;refine aR 2 ?_ (h:=by exact(c9 rfl ot ot (j7 (r:=((20*(k+1+1):Nat):Int)) (by rw[show(((20*(k+1):Nat):Int)+20)=((20*(k+1+1):Nat):Int) by omega];exact wrap_i64 w4 w4))));refine bH ?_;refine⟨((k+1),c1),_,cD,(aM (h:=by repeat (first|exact trivial|refine⟨(by (repeat (first|exact fx|(apply fQ;focus (first|rfl|(rw[show(20*(k+1):Nat)=20*k+20 by omega];rfl)|(simp;done)|(congr 3;omega)))|(apply fD;focus rfl)));done),?_⟩))),w4,(ab1 fC w4 ajb),rfl⟩
 have xV:I<20*(k+1):=(by omega)
 refine aC 4 ?_;refine OD.call (R:=[]) ap rfl rfl rfl call152 (Ti cur I (20*k) I cap U fc O Z cF V Lt DA hc u4 ht ha sG w4 w4 w4 py qY w4) ⟨ot,ot,ot,ot,trivial⟩ oK ?_;rintro _ _ ⟨rfl,c2,UZ,rfl⟩;refine OD.perm (S':=⟨U,3,cap*1,(c2).flatMap cI⟩::Z) oK ?_;have fh:=adH fC hk xV oQ fX UZ;have U0:c2.Perm l:=UZ.perm.trans fC.perm;refine an 63 [0,1,2,6] ?_;refine eL [0,1,2] (fun aW _ (E:Nat×List Int) aJ=>match E with|(q,cur)=>((q=20∧cur=c2)∨(q=40∧(cur.Perm l∧cur.Pairwise (Rc cF Lt))))∧aJ=(⟨63,(6,ae (q:Nat))::aW,(⟨U,3,cap*1,(cur).flatMap cI⟩::Z)⟩:St)) (fun (E:Nat×List Int)=>match E with|(q,cur)=>40-q) (20,c2) ⟨(.inl ⟨rfl,rfl⟩),rfl⟩ ?_;rintro⟨q,cur⟩ _ ⟨C2,rfl⟩;refine af [0,1,2,6,30] ?_;refine au ?_ ?_<;>intro aX cJ
 ·obtain⟨rfl,rfl⟩:q=20∧cur=c2:=(by (rcases C2 with h|h;exact h;omega))
  have Kc:F4 (Rc cF Lt) l cur I:=(by (rcases fh with h|h;omega;exact h.2))
  have U1:=ab3 Kc hq;have lp:=U0.length_eq;have DA:∀x∈cur,V x:=fun x hx=>hV x (U0.subset hx);refine af [0,1,2,6,7,8] ?_;refine eL [0,1,2,6] (fun aW _ (E:Nat×List Int) aJ=>match E with|(j,c3)=>((j=0∧c3=cur)∨(j=1∧I=40∧(c3.Perm l∧c3.Pairwise (Rc cF Lt))))∧aJ=(⟨63,(7,ae (40*j:Nat))::(8,ae (40*(j+1):Nat))::aW,(⟨U,3,cap*1,(c3).flatMap cI⟩::Z)⟩:St)) (fun (E:Nat×List Int)=>match E with|(j,c3)=>1-j) (0,cur) ⟨(.inl ⟨rfl,rfl⟩),rfl⟩ ?_;rintro⟨j,c3⟩ _ ⟨qp,rfl⟩;refine af [0,1,2,6,7,8,35] ?_;refine au ?_ ?_<;>intro cr cU
  ·obtain⟨qo,rfl⟩:j=0∧c3=cur:=(by (rcases qp with h|h;exact h;omega))
   have KK:I=40:=(by omega)
   refine aC 4 ?_;refine bQ (c9 rfl ot ot (j7 (r:=((20:Nat):Int)) (by rw[qo];rfl))) ?_;refine aE 2 ?_;have anM:=KK;refine OD.call (R:=[]) ap rfl rfl rfl call153 (Tj I cap U fc O Z cF V Lt hc u4 ht ha py qY w4 _ c3 (40*j) 20 (40*(j+1)) rfl (by rw[show 40*j=0 by omega,show 40*(j+1)=I by omega];exact U1) w4 w4 w4 DA) ⟨ot,ot,ot,ot,ot,trivial⟩ oK ?_;rintro _ _ ⟨rfl,c5,ajc,rfl⟩;refine OD.perm (S':=⟨U,3,cap*1,(c5).flatMap cI⟩::Z) oK ?_;have ajd:Part (Rc cF Lt) c3 c5 0 I:=(by have:=ajc;rwa [show 40*j=0 by omega,show 40*(j+1)=I by omega] at this)
   refine an 63 [0,1,2,6,8] ?_;refine af [0,1,2,6,7,8] ?_;refine cl [0,1,2,6,7,8] ?_;refine⟨(1,c5),_,cD,aM,(.inr ⟨rfl,KK,QD Kc ajd fX⟩),rfl⟩
  refine CD.exit ?_;refine jQ [0,1,2,6] (fun aW _ aJ=>∃(c4:List Int),((c4.Perm l∧c4.Pairwise (Rc cF Lt)))∧aJ=(⟨63,aW,(⟨U,3,cap*1,(c4).flatMap cI⟩::Z)⟩:St)) ?_ ?_
  ·refine cR [0,1,2,6,7,9] ?_;refine aR 2 ?_ (h:=by exact(c9 rfl ot ot (j7 (r:=((40*j+20:Nat):Int)) (by rw[show(((40*j:Nat):Int)+((20:Nat):Int))=((40*j+20:Nat):Int) by omega];exact wrap_i64 w4 w4))));refine bH ?_;refine af [0,1,2,6,7,9,54] ?_;refine au ?_ ?_<;>intro cX ec
   ·obtain⟨qo,rfl⟩:j=0∧c3=cur:=(by (rcases qp with h|h;exact h;omega))
    refine dQ 5 ?_;refine OD.call (R:=[]) ap rfl rfl rfl call153 (Tj I cap U fc O Z cF V Lt hc u4 ht ha py qY w4 _ c3 (40*j) (40*j+20) I rfl (by rw[show 40*j=0 by omega];exact U1) w4 w4 w4 DA) ⟨ot,ot,ot,ot,ot,trivial⟩ oK ?_;rintro _ _ ⟨rfl,c6,aje,rfl⟩;refine OD.perm (S':=⟨U,3,cap*1,(c6).flatMap cI⟩::Z) oK ?_;have ajf:Part (Rc cF Lt) c3 c6 0 I:=(by have:=aje;rwa [show 40*j=0 by omega] at this)
    refine an 63 [0,1,2,6] ?_;refine⟨_,aM,c6,(QD Kc ajf fX),rfl⟩
   have GZ:(c3.Perm l∧c3.Pairwise (Rc cF Lt)):=(by (rcases qp with h|h;omega;exact h.2.2))
   refine CD.skip ?_;refine⟨_,aM,c3,GZ,rfl⟩
  rintro _ ⟨c4,ew,rfl⟩;refine cl [0,1,2,6] ?_;refine⟨(40,c4),_,cD,aM,(.inr ⟨rfl,ew⟩),rfl⟩
 have nY:(cur.Perm l∧cur.Pairwise (Rc cF Lt)):=(by (rcases C2 with ⟨rfl,rfl⟩|h;(rcases fh with h|h;exact h.2;omega);exact h.2))
 refine aI _ ?_;exact⟨rfl,_,nY,rfl⟩
theorem adI(O cap U Z:Nat)(E:List D)(I:List ah)(cF:Int→Int→Int)(V:Int→Prop)(Lt:Int→Int→Prop)(hc:∀x y,V x→V y→VC Tryz.prog G Z ([ae x,ae y]++E) I (fun r S'=>r=ae (cF x y)∧S'=I))(u4:∀args w,(callFunc Z args).run Tryz.prog w = .ok (.enter Z args) w)(ht:∀{x y z:Int},Rc cF Lt x y→Rc cF Lt y z→Rc cF Lt x z)(ha:∀x y,0≤cF y x→cF x y≤0)(py:O≤cap)(qY:cap≤maxLen)(oQ:O≤40)(l:List Int)(hq:l.Pairwise Lt)(fX:l.length=O)(hV:∀x∈l,V x):VC Tryz.prog G 87 [aN (some ⟨U,0,none⟩) O cap,.ey (.func Z) E] (⟨U,3,cap*1,(l).flatMap cI⟩::I) (fun r S'=>r = .dG []∧∃(lz:List Int),(lz.Perm l∧lz.Pairwise (Rc cF Lt))∧S'=⟨U,3,cap*1,(lz).flatMap cI⟩::I):=by
 refine VC.body func87 rfl ntmps87 aO fun X0 w0 aY=>?_;have dy:=dY;refine dQ 4 ?_;refine OD.call (R:=[]) ap rfl rfl rfl call129 (aap O cap U Z E I cF V Lt hc u4 ht ha py qY oQ l hq fX hV) ⟨ot,ot,ot,trivial⟩ oK ?_;rintro _ _ ⟨rfl,lz,xQ,rfl⟩;refine OD.perm (S':=⟨U,3,cap*1,(lz).flatMap cI⟩::I) oK ?_;refine an 9 [] ?_;refine aI _ ?_;exact⟨rfl,_,xQ,rfl⟩

end Go.Proofs.YtdgichenhdikgaaGreatDoor.So
namespace Go.Proofs.YtdgichenhdikgaaGreatDoor.Ba
open List
open Go.Proofs.Tryz
open Go.RowKit V Pk Tr Vl Go.Proofs.YtdgichenhdikgaaGreatDoor.Nm Pc Cd Ex Tw Go.Proofs.YtdgichenhdikgaaGreatDoor.So
variable {t:aQ} {o n:Nat} {i k:Int}
theorem adJ(a b:Vl):gw a b<0↔a.k<b.k∨(a.k=b.k∧(a.n<b.n∨(a.n=b.n∧Go.Lib.compareBytes a.s.data.toList b.s.data.toList<0))):=by
 exact VX
theorem O5{a b:Vl}(h:gw a b=0):a=b:=by
 unfold gw cmpL iJ iJ iJ iJ at h;have hs:a.k=b.k∧a.n=b.n∧Go.Lib.compareBytes a.s.data.toList b.s.data.toList=0:=by
  rcases x9 a.k b.k with ⟨h1,h2⟩|⟨h1,h2⟩|⟨h1,h2⟩<;>rcases x9 a.n b.n with ⟨k1,k2⟩|⟨k1,k2⟩|⟨k1,k2⟩<;>simp only[h1,k1] at h<;>(repeat' split at h)<;>first|omega|(refine⟨h2,k2,?_⟩;omega)
 obtain⟨e1,e2,E⟩:=hs;obtain⟨k,n,s⟩:=a;obtain⟨k',n',s'⟩:=b;simp only at e1 e2 E;subst e1 e2;rw[IN (J3.1 E)]
theorem R7{a b c:Vl}(h1:gw a b<0)(h2:gw b c<0):gw a c<0:=by
 rw[adJ] at h1 h2 ⊢;rcases h1 with h1|⟨h1,h1|⟨E,h1⟩⟩<;>rcases h2 with h2|⟨h2,h2|⟨I,h2⟩⟩<;>first|omega|(refine .inr ⟨by omega,.inr ⟨by omega,?_⟩⟩;exact mv h1 h2)
def cellAt(t:aQ)(o:Nat)(i:Int):Vl:=(rowAt t i).getD o bD
def lJ(t:aQ)(down:Bool)(o:Nat)(i k:Int):Int:=if down=true then -(gw (cellAt t o i) (cellAt t o k)) else gw (cellAt t o i) (cellAt t o k)
def G0(t:aQ)(i k:Int):Prop:=bN (dx (rowAt t i)) (dx (rowAt t k))
theorem O6(t:aQ)(down:Bool)(o:Nat)(i k:Int):lJ t down o k i = -(lJ t down o i k):=by
 unfold lJ;rw[D3 (cellAt t o i) (cellAt t o k)];split<;>omega
theorem adK{down:Bool}{l:Int}(h1:lJ t down o i k<0)(h2:lJ t down o k l<0):lJ t down o i l<0:=by
 unfold lJ at *;split at h1
 ·rename_i hd;rw[if_pos hd] at h2 ⊢;have e1:=D3 (cellAt t o i) (cellAt t o k);have e2:=D3 (cellAt t o k) (cellAt t o l);have E:=D3 (cellAt t o i) (cellAt t o l);have:=R7 (a:=cellAt t o l) (b:=cellAt t o k) (c:=cellAt t o i) w4 w4;omega
 rename_i hd;rw[if_neg hd] at h2 ⊢;exact R7 h1 h2
theorem HW{down:Bool}(h:lJ t down o i k=0):cellAt t o i=cellAt t o k:=by
 unfold lJ at h;split at h
 ·exact O5 w4
 exact O5 h
theorem R8{down:Bool}(h:cellAt t o i=cellAt t o k)(l:Int):lJ t down o i l=lJ t down o k l:=by unfold lJ;rw[h]
theorem ab4{down:Bool}(h:cellAt t o i=cellAt t o k)(l:Int):lJ t down o l i=lJ t down o l k:=by unfold lJ;rw[h]
abbrev vA(t:aQ)(down:Bool)(o:Nat):Int→Int→Prop:=Rc (lJ t down o) (G0 t)
theorem afg(t:aQ)(down:Bool)(o:Nat){x y z:Int}(h1:vA t down o x y)(h2:vA t down o y z):vA t down o x z:=by
 rcases h1 with h1|⟨h1,E⟩<;>rcases h2 with h2|⟨h2,I⟩
 ·exact .inl (adK h1 h2)
 ·exact .inl (by rw[←ab4 (HW h2)];exact h1)
 ·exact .inl (by rw[R8 (HW h1)];exact h2)
 exact .inr ⟨by rw[R8 (HW h1)];exact h2,mv E I⟩
theorem ab5{down:Bool}{x y:Int}(h1:vA t down o x y)(h2:vA t down o y x):False:=by
 have e:=O6 t down o x y;rcases h1 with h1|⟨h1,E⟩<;>rcases h2 with h2|⟨h2,I⟩
 ·omega
 ·omega
 ·omega
 exact j8 _ (mv E I)
noncomputable def Fw(t:aQ)(down:Bool)(o:Nat)(l:List Int):List Int:=Classical.epsilon fun lz=>lz.Perm l∧lz.Pairwise (vA t down o)
theorem Ji{down:Bool}{l lz:List Int}(h:lz.Perm l∧lz.Pairwise (vA t down o)):lz=Fw t down o l:=by
 have hs:=Classical.epsilon_spec (p:=fun lz=>lz.Perm l∧lz.Pairwise (vA t down o)) ⟨lz,h⟩;exact Perm.eq_of_pairwise (fun a b _ _ h1 h2=>(ab5 h1 h2).elim) h.2 hs.2 (h.1.trans hs.1.symm)
theorem Ew(t:aQ)(w:List aU):∀(l:List (K×Int)) (acc:List Int),(kw t w acc l).1.Sublist (acc++l.map Prod.snd)
 | [],acc=>by unfold kw;simp
 | x::r,acc=>by
  have h1:(kw t w acc r).1.Sublist (acc++(x::r).map Prod.snd):=(Ew t w r acc).trans (Sublist.append_left (sublist_cons_self _ _) acc);have h2:(kw t w (acc++[x.2]) r).1.Sublist (acc++(x::r).map Prod.snd):=(by have:=Ew t w r (acc++[x.2]);rwa [append_assoc] at this)
  unfold kw;split
  ·split
   ·exact nil_sublist _
   split
   ·exact h1
   exact h2
  exact h2
def gN(t:aQ)(i:Int):Prop:=0≤i∧∃h:i.toNat<t.rows.length,t.rows[i.toNat]≠[]
theorem ab6{i:Nat}{c:Pc.cz}{v:Vl}(h:Pc.mD i c v=0):dP v=0:=by
 unfold Pc.mD at h;split at h
 ·exact h
 rename_i h1;exact Decidable.not_not.1 h1
theorem O7:∀(i:Nat) (cs:List Pc.cz) (vs:List Vl),Pc.qm i cs vs=0→vs.length≤cs.length→∀v∈vs,dP v=0
 | i,c::cs,v::vs,h,hl,w,hw=>by
  unfold Pc.qm at h;split at h
  ·rename_i h1;exact absurd h h1
  rename_i h1;rcases mem_cons.1 hw with rfl|hw
  ·exact ab6 (Decidable.not_not.1 h1)
  exact O7 (i+1) cs vs h xq w hw
 | _,_,[],_,_,_,hw=>by cases hw
 | _,[],_::_,_,hl,_,_=>by simp at hl
theorem QE{r:List Vl}(h:Pc.dZ dB r=0):∀v∈r,dP v=0:=by
 have h4:=qg h;unfold Pc.dZ at h;rw[if_neg (by rw[yC];decide),if_neg (by rw[h4];decide)] at h;exact O7 0 dB r h (by rw[h4];decide)
theorem gN.ok(g:eV t n)(h:gN t i):(rowAt t i).length=4∧(∀v∈rowAt t i,v.Ok∧dP v=0):=by
 obtain⟨h0,h1,h2⟩:=h;rw[jE h1];obtain⟨g1,g2,_⟩:=g.row _ h1 h2;exact⟨qg g1,fun v E=>⟨g2 v E,QE g1 v E⟩⟩
theorem uJ(g:eV t n)(w:List aU):∀i∈(av t w).1,gN t i:=fun i hi=>by
 unfold av at hi;split at hi
 ·cases hi
 have h1:=(Ew t w _ []).subset hi;rw[nil_append] at h1;obtain⟨x,hx,rfl⟩:=mem_map.1 h1;obtain⟨h2,h3,h4,_⟩:=g.jf x (AX x hx);exact⟨h2,h3,h4⟩
theorem Iy(g:eV t n)(w:List aU):(av t w).1.Pairwise (G0 t):=by
 unfold av;split
 ·exact Pairwise.nil
 refine Pairwise.sublist (Ew t w _ []) ?_;rw[nil_append,pairwise_map];have hr:(oF t.ix (ij t.ay w).1.1 (ij t.ay w).1.2).Pairwise fun x y=>bN x.1 y.1:=(aaa g.ix.val _).sublist (takeWhile_sublist _);refine hr.imp_of_mem fun {x y} hx hy h=>?_;obtain⟨_,p1,_,p2⟩:=g.jf x (AX x hx);obtain⟨_,q1,_,q2⟩:=g.jf y (AX y hy);unfold G0;rw[jE p1,jE q1,←p2,←q2];exact h
theorem EQ(g:eV t n)(w:List aU):(av t w).1.length≤40:=by
 have hp:=Iy g w;have E:=uJ g w;have hnd:((av t w).1.map Int.toNat).Nodup:=by
  rw[Nodup,pairwise_map];refine hp.imp_of_mem fun {x y} hx hy h e=>?_;obtain⟨x0,_⟩:=E x hx;obtain⟨y0,_⟩:=E y hy;have:x=y:=(by omega)
  subst this;exact j8 _ h
 have I:∀j∈(av t w).1.map Int.toNat,j∈range t.rows.length:=fun j hj=>by
  obtain⟨x,hx,rfl⟩:=mem_map.1 hj;obtain⟨_,h1,_⟩:=E x hx;exact mem_range.2 h1
 have:=hnd.length_le_of_subset I;rw[length_map,length_range] at this;exact Nat.le_trans this g.eM
variable {G:List (Nat×List Value)} {m:Int}

open Pa (cx bY)
theorem TW:∀x y:K,-1≤Go.Lib.compareBytes x y∧Go.Lib.compareBytes x y≤1
 | [],[]=>⟨by decide,by decide⟩
 | [],_::_=>⟨(by show(-1:Int)≤-1;decide),(by show(-1:Int)≤1;decide)⟩
 | _::_,[]=>⟨(by show(-1:Int)≤1;decide),(by show(1:Int)≤1;decide)⟩
 | a::x,b::y=>by
  have:=TW x y;rw[GO];repeat' split
  all_goals first|exact this|omega
theorem adL(a b:Vl):-1≤gw a b∧gw a b≤1:=by
 have:=TW a.s.data.toList b.s.data.toList;exact VX
def vB(t:aQ)(names:List ByteArray):List Int:=if names.length=0 then (range t.ay.length).map Int.ofNat else names.map (bM t.ay)
def qZ(t:aQ)(s:cx):Int:=if (s.order.toList==(⟨#[]⟩:ByteArray).toList)=true then 0 else bM t.ay s.order
def rZ(Nb:Int)(l:List Int):List Int:=if 0≤Nb∧Nb<l.length then l.take Nb.toNat else l
def zB(t:aQ)(ats:List Int)(i:Int):List Vl:=ats.map fun c=>(rowAt t i).getD c.toNat bD
noncomputable def qJ(t:aQ)(s:cx):List Int:=rZ s.gH (Fw t s.down (qZ t s).toNat (av t s.aj).1)
noncomputable def mB(t:aQ)(s:cx):(List (List Vl)×Int)×Int :=
 if (s.names.any fun n=>decide (bM t.ay n<0))=true then (([],0),8)
 else if qZ t s<0 then (([],0),8)
 else if (av t s.aj).2≠0 then (([],0),(av t s.aj).2)
 else if s.count=true then (([[⟨2,(qJ t s).length,⟨#[]⟩⟩]],(qJ t s).length),0)
 else (((qJ t s).map (zB t (vB t s.names)),(qJ t s).length),0)
def As(p:(List (List Vl)×Int)×Int):D:=.dG [.agg [ax 1 iw p.1.1,ae p.1.2],ae p.2]
theorem JJ{l:List cz}{nm:ByteArray}:-1≤bM l nm∧bM l nm<l.length:=by
 unfold bM dS;split
 ·rename_i i h;have:=(findIdx?_eq_some_iff_getElem.1 h).1;omega
 omega
theorem adM(t:aQ)(g:eV t n)(s:cx)(o:Nat)(ho:o<4)(b2 kx b3:Nat)(i k:Int)(hi:gN t i)(hk:gN t k):VC Tryz.prog G 88 ([ae i,ae k]++[dJ b2,dJ kx,dJ b3]) [⟨b2,53,5,dA t⟩,⟨kx,3,1,[ae (o:Nat)]⟩,⟨b3,32,12,bY s⟩] (fun r S=>r=ae (lJ t s.down o i k)∧S=[⟨b2,53,5,dA t⟩,⟨kx,3,1,[ae (o:Nat)]⟩,⟨b3,32,12,bY s⟩]):=by
 refine VC.body func88 rfl ntmps88 aO fun X0 w0 aY=>?_;obtain⟨I,E,lS⟩:=hi;obtain⟨xx,dM,fu⟩:=hk;obtain⟨gi1,O⟩:=gN.ok g ⟨I,E,lS⟩;obtain⟨gk1,U⟩:=gN.ok g ⟨xx,dM,fu⟩;rw[jE E] at gi1 O;rw[jE dM] at gk1 U;have Z:o<(t.rows[i.toNat]'E).length:=(by omega)
 have qB:o<(t.rows[k.toNat]'dM).length:=(by omega)
 have hci:cellAt t o i=(t.rows[i.toNat]'E)[o]:=(by unfold cellAt;rw[jE E,getD_eq_getElem?_getD,getElem?_eq_getElem Z];rfl)
 have G1:cellAt t o k=(t.rows[k.toNat]'dM)[o]:=(by unfold cellAt;rw[jE dM,getD_eq_getElem?_getD,getElem?_eq_getElem qB];rfl)
 have ff:=YB (G:=G) (t.rows[i.toNat]'E)[o] (t.rows[k.toNat]'dM)[o] (O _ (getElem_mem Z)).1 (U _ (getElem_mem qB)).1;have n9:mz (t.rows[i.toNat]'E)[o] (t.rows[k.toNat]'dM)[o]=0:=(by unfold mz;rw[if_neg (by simp[(O _ (getElem_mem Z)).2]),(U _ (getElem_mem qB)).2])
 unfold KJ at ff;rw[n9,if_neg w7] at ff;have GI:=adL (t.rows[i.toNat]'E)[o] (t.rows[k.toNat]'dM)[o];unfold dA bY;have aV:lJ t s.down o i k=if s.down=true then -(gw (t.rows[i.toNat]'E)[o] (t.rows[k.toNat]'dM)[o]) else gw (t.rows[i.toNat]'E)[o] (t.rows[k.toNat]'dM)[o]:=by unfold lJ;rw[hci,G1]
 refine af [0,1,2,3,4] ?_;refine cR [4,8] ?_;refine aR 3 ?_ (h:=by exact(dF 1 (h:=by first|exact .l (j:=i.toNat) (Int.toNat_of_nonneg I).symm E|exact .r (j:=i.toNat) (Int.toNat_of_nonneg I).symm E)));refine aR 7 ?_ (h:=by exact(dF 1 (h:=by first|exact .l (j:=k.toNat) (Int.toNat_of_nonneg xx).symm dM|exact .r (j:=k.toNat) (Int.toNat_of_nonneg xx).symm dM)));refine cZ (ff) ?_;refine bH ?_;refine af [8,31] ?_;refine au ?_ ?_<;>intro aP bF
 ·have hd:s.down=true:=aP;refine cR [7] ?_;refine aR 1 ?_ (h:=by exact(Ei rfl ot (Jq (wrap_i64 w4 w4))));refine bH ?_;refine aI [_,_,_] ?_;first|(rw[aV,hd,if_pos rfl,←Int.zero_sub];exact⟨rfl,rfl⟩)|(rw[aV,hd,if_neg w7];exact⟨rfl,rfl⟩)
 have hd:s.down=false:=aP;refine af [7] ?_;refine aI [_,_,_] ?_;first|(rw[aV,hd,if_pos rfl,←Int.zero_sub];exact⟨rfl,rfl⟩)|(rw[aV,hd,if_neg w7];exact⟨rfl,rfl⟩)
theorem adN(ey:D):VP Tryz.prog G 152 [bB,ae 0,ae 0,ey] (.dG []):=by
 refine VC.body func152 rfl ntmps152 aO fun X0 w0 aY=>?_;refine af [0,1,2,3,8] ?_;refine eL [0,1,2,3] (fun aW _ (z:Nat) aJ=>(True)∧aJ=(⟨53,(8,ae (0+1))::aW,[]⟩:St)) (fun (z:Nat)=>0) 0 ⟨trivial,rfl⟩ ?_;rintro z _ ⟨_,rfl⟩;refine af [0,1,2,3,8,14] ?_;refine au ?_ ?_<;>intro aP bF
 ·exact absurd aP (by simp at aP)
 exact mI
theorem YZ(ey:D):VP Tryz.prog G 129 [bB,ae 0,ey] (.dG []):=by
 refine VC.body func129 rfl ntmps129 aO fun X0 w0 aY=>?_;refine af [0,1,2,6] ?_;refine af [0,1,2,6,7,8] ?_;refine eL [0,1,2,6] (fun aW _ (z:Nat) aJ=>(True)∧aJ=(⟨63,(7,ae 0)::(8,ae 20)::aW,[]⟩:St)) (fun (z:Nat)=>0) 0 ⟨trivial,rfl⟩ ?_;rintro z _ ⟨_,rfl⟩;refine af [0,1,2,6,7,8,13] ?_;refine au ?_ ?_<;>intro aP bF
 ·exact absurd aP (by simp at aP)
 refine cW [0,1,2,6] (adN ey) ?_;refine eL [0,1,2] (fun aW _ (z:Nat) aJ=>(True)∧aJ=(⟨63,(6,ae 20)::aW,[]⟩:St)) (fun (z:Nat)=>0) 0 ⟨trivial,rfl⟩ ?_;rintro z _ ⟨_,rfl⟩;refine af [0,1,2,6,30] ?_;refine au ?_ ?_<;>intro aX cJ
 ·exact absurd aX (by simp at aX)
 exact mI
theorem ab7(ey:D):VP Tryz.prog G 87 [bB,ey] (.dG []):=by
 refine VC.body func87 rfl ntmps87 aO fun X0 w0 aY=>?_;refine iB [] ?_;refine cZ (YZ ey) ?_;refine jX ?_;exact mI

end Go.Proofs.YtdgichenhdikgaaGreatDoor.Ba

namespace Go.Proofs.YtdgichenhdikgaaGreatDoor.Ba
open List
open Go.Proofs.Tryz
open Go.RowKit V Pk Go.Proofs.YtdgichenhdikgaaGreatDoor.Tr Go.Proofs.YtdgichenhdikgaaGreatDoor.Vl Go.Proofs.YtdgichenhdikgaaGreatDoor.Nm Go.Proofs.YtdgichenhdikgaaGreatDoor.Pc Go.Proofs.YtdgichenhdikgaaGreatDoor.Cd Go.Proofs.YtdgichenhdikgaaGreatDoor.Ex Go.Proofs.YtdgichenhdikgaaGreatDoor.Tw
open Pa (cx bY)
variable {j sz:Nat} {ds:List D}
section mid
variable {P:Program} {G:List (Nat×List Value)} {x:St} {o:Oper} {t b off:Nat} {y:Operand} {B:ah} {pre c post:List D} {d:D}
theorem afh(hp:pre.length=off)(hj:c[j]?=some d):(pre++(c++post))[off+j]?=some d:=by
 subst hp;rw[getElem?_append_right w4,Nat.add_sub_cancel_left,getElem?_append_left (List.getElem?_eq_some_iff.1 hj).1];exact hj
theorem QF{m:List D}(hp:pre.length=off)(hm:pJ j c m)(hd:me sz m ds):((pre++(c++post)).drop (off+j)).take sz=ds:=by
 subst hp;obtain⟨h1,h2⟩:=hd.eq;have h3:=hm.eq;have hl:j+sz≤c.length∨sz=0:=by
  have:=congrArg length h1;rw[length_take,h2,←h3,length_drop] at this;omega
 rw[←drop_drop,drop_left' rfl];rcases hl with hl|rfl
 ·rw[drop_append_of_le_length w4,h3,take_append_of_le_length (by rw[←h3,length_drop];omega)];exact h1
 rw[List.take_zero];rw[List.take_zero] at h1;exact h1
theorem Bc{E:List D}(hp:pre.length=off)(hl:j+ds.length≤c.length)(hc:dc c j ds=E):dc (pre++(c++post)) (off+j) ds=pre++(E++post):=by
 subst hp hc;rw[vI _ _ _ hl,vI _ _ _ (by simp only[length_append];omega)];rw[take_append,take_of_length_le w4,Nat.add_sub_cancel_left,take_append_of_le_length w4,Nat.add_assoc,←drop_drop (l:=pre++(c++post)),drop_left' rfl,drop_append_of_le_length w4];simp only[append_assoc]
theorem om(k:Nat)(ho:o.op = .load t y:=by exact rfl)(hy:aF x y = .v (.pointer (some ⟨b,off+j,none⟩)):=by exact ot)(ha:qw P t false=true:=by kernel_rfl)(hk:x.S[k]?=some B:=by exact rfl)(hb:B.b=b:=by exact rfl)(dw:B.cs=pre++(c++post):=by exact rfl)(hp:pre.length=off:=by assumption)(hj:c[j]?=some d:=by exact rfl)(hne:isMap B.e=false:=by exact rfl):bU P G x o (.fw k) d :=
 DO (hne:=hne) ho hy hk hb (iG ha) (by rw[dw];exact afh hp hj)
theorem wW(k:Nat){m:List D}(ho:o.op = .load t y:=by exact rfl)(hy:aF x y = .v (.pointer (some ⟨b,off+j,none⟩)):=by exact ot)(hn:qv P t sz=true:=by exact Sz.h)(ha:qw P t true=true:=by kernel_rfl)(hk:x.S[k]?=some B:=by exact rfl)(hb:B.b=b:=by exact rfl)(dw:B.cs=pre++(c++post):=by exact rfl)(hp:pre.length=off:=by assumption)(hm:pJ j c m:=by exact qc)(hd:me sz m ds:=by exact mV)(hne:isMap B.e=false:=by exact rfl):bU P G x o (.fw k) (.agg ds) :=
 Ay (hne:=hne) ho hy hk hb (iG ha) (lE hn) hd.eq.2 (by rw[dw];exact QF hp hm hd)
theorem K7(k:Nat)(ho:o.op = .load t y:=by exact rfl)(hy:aF x y = .v (.pointer (some ⟨b,off,none⟩)):=by exact ot)(hn:qv P t sz=true:=by exact Sz.h)(ha:qw P t true=true:=by kernel_rfl)(hk:x.S[k]?=some B:=by exact rfl)(hb:B.b=b:=by exact rfl)(dw:B.cs=pre++(c++post):=by exact rfl)(hp:pre.length=off:=by assumption)(hd:me sz c ds:=by exact mV)(hne:isMap B.e=false:=by exact rfl):bU P G x o (.fw k) (.agg ds) :=
 Ay (hne:=hne) ho hy hk hb (iG ha) (lE hn) hd.eq.2 (by rw[dw];exact QF (j:=0) hp .z hd)
end mid
variable {G:List (Nat×List Value)} {m:Int}
noncomputable def gl(t:aQ)(row:List Vl):aQ×Int :=
 if Pc.dZ t.ay row≠0 then (t,Pc.dZ t.ay row) else if ik t.ix (dx row) (dH t.ix)=true then (t,9) else if t.rows.length=40 then (t,10)
 else ({t with rows:=t.rows++[row],ix:=gB t.ix (dH t.ix) (dx row) t.rows.length},0)
def tC(t:aQ)(ad:Option Addr)(cap:Nat):List D:=[bf t.nm,ax 2 cC t.ay,aN ad t.rows.length cap,ax 5 cP t.ix.ag,ae t.ix.root]
abbrev u5(t:aQ)(ad:Option Addr)(cap:Nat)(S:List ah):Prop:=bw 28 1 (t.rows.flatMap iw) t.rows.length ad cap S
theorem vW{r:List Vl}(h:Pc.dZ dB r=0):1≤(dx r).length∧(dx r).length≤100:=by
 refine⟨?_,RZ _⟩;have h4:=qg h;have hz:=QE h;match r,h4 with
 | [a,b,c,d],_ =>
  have ha:dP a=0:=hz a mem_cons_self;unfold dx gb;rw[if_neg bu,if_neg (by simp[sb,ha])];have hl:(gA [a]).length≤43:=(by have:=En (l:=[a]) (fun v E=>by rw[mem_singleton] at E;rw[E];exact ha);simpa using this)
  rw[if_neg (by show ¬(gA [a]).length>100;omega)];show 1≤(gA [a]).length;unfold gA Cd.wD;simp

theorem Y0:(Tryz.prog.info? 28).map (fun i=>(i.zero,i.size,i.bytes))=some (some (.slice none 0 0),1,24):=by kernel_rfl

theorem HS(hm:(3,marksC)∈G)(hw:(1,wordsC)∈G)(ht:(0,typesC)∈G)(hG:(2,[Value.int .i64 m])∈G)(t:aQ){n:Nat}(g:eV t n)(hn:n≤300)(row:List Vl)(rD:row.length≤1000)(aT:∀v∈row,v.Ok)(bt off I:Nat)(pre post:List D)(hp:pre.length=off)(ad:Option Addr)(cap:Nat)(Sr:List ah)(Z:u5 t ad cap Sr):VC Tryz.prog G 43 [.v (.pointer (some ⟨bt,off,none⟩)),ax 3 cV row] (⟨bt,53,I,pre++(tC t ad cap++post)⟩::Sr) (fun r S=>r=ae (gl t row).2∧((gl t row).2=0→∃nJ E oo,u5 (gl t row).1 nJ E oo∧S=⟨bt,53,I,pre++(tC (gl t row).1 nJ E++post)⟩::oo)):=by
 refine VC.body func43 rfl ntmps43 aO fun X0 w0 aY=>?_;have hko:=fun h=>vW (r:=row) h;have xY:=Jw (G:=G) hm hw ht t.ay xn xm row (Nat.le_trans rD w7);have dy:=dY;have nc:=g.eM;unfold tC;refine af [0,1] ?_;refine cR [0,1,5] ?_;refine aR 3 ?_ (h:=by exact(om 0));refine cZ (xY) ?_;refine bH ?_;refine af [0,1,5,17] ?_;refine au ?_ ?_<;>intro aP bF
 ·have hne:Pc.dZ t.ay row≠0:=(by simpa using aP)
  have aV:gl t row=(t,Pc.dZ t.ay row):=if_pos hne;refine af [4] ?_;refine aI [] ?_;rw[aV];exact⟨rfl,fun h=>absurd h hne⟩
 have hz:Pc.dZ t.ay row=0:=(by simpa using aP)
 have CF:Pc.dZ dB row=0:=(by rw[←g.ay];exact hz)
 have dX:=hko CF;have hr4:=qg CF;have O:=yM (G:=G) hG row w4 w4 aT;refine CD.skip ?_;refine CD.seq ?_;refine CD.seq ?_;rcases iQ:ik t.ix (dx row) (dH t.ix) with _|_
 ·have fR:=JF (G:=G) g.ix (dx row);rw[adw g.ix dX iQ] at fR;unfold Tw.cT at fR;have U:=Qx (G:=G) g.ix (dx row) (t.rows.length:Int);rw[Te g.ix hn dX w4 iQ] at U;unfold Tw.cT at U;refine iB [0,1,7] ?_;refine aR 3 ?_ (h:=by exact(wW 0));refine cZ (O) ?_;refine cZ (fR) ?_;refine bH ?_;refine af [0,1,30] ?_;refine au ?_ ?_<;>intro aX cJ
  ·exact absurd aX (by simp at aX)
  refine cR [0,1,36] ?_;refine aR 3 ?_ (h:=by exact(om 0));refine bH ?_;refine au ?_ ?_<;>intro cr cU
  ·have aV:gl t row=(t,10):=(by unfold gl;rw[if_neg (by simp[hz]),if_neg xo,if_pos w4])
   refine af [4] ?_;refine aI [] ?_;rw[aV];exact⟨rfl,fun h=>absurd (show(10:Int)=0 from h) w7⟩
  have aV:gl t row=({t with rows:=t.rows++[row],ix:=gB t.ix (dH t.ix) (dx row) t.rows.length},0):=(by unfold gl;rw[if_neg (by simp[hz]),if_neg xo,if_neg w4])
  refine CD.skip ?_;refine CD.seq ?_;refine tV 16 15 [0,1,8,50,51] ?_;refine aR 3 ?_ (h:=by exact(wW 0));refine cZ (O) ?_;refine aR 3 ?_ (h:=by exact(om 0));refine cZ (U) ?_;refine nj 3 ?_;refine rq ?_;refine jX ?_;refine⟨rfl,fun b8=>?_⟩;refine aK 0 [_,_] sizeOf51 ?_;refine an 70 [0,1,8,9] ?_;refine af [0,1,8,9,53] ?_;refine au ?_ ?_<;>intro cX ec
  ·exact absurd cX (by simp at cX)
  refine aC 4 ?_;refine OD.storeAt (k:=1) (cs':=pre++([bf t.nm,ax 2 cC t.ay,aN ad t.rows.length cap,.list 5 ((gB t.ix (dH t.ix) (dx row) t.rows.length).ag.flatMap cP) (gB t.ix (dH t.ix) (dx row) t.rows.length).ag.length,ae (gB t.ix (dH t.ix) (dx row) t.rows.length).root]++post)) ap rfl rfl ot rfl rfl ot rfl rfl sizeOf51 rfl (by show off+3+2≤(pre++(([bf t.nm,ax 2 cC t.ay,aN ad t.rows.length cap,ax 5 cP t.ix.ag,ae t.ix.root]:List D)++post)).length;simp only[length_append,length_cons,length_nil];omega) (by exact Bc (j:=3) hp aO rfl) ?_;refine an 70 [0,1] ?_;refine CD.seq ?_;refine fL 9 (aq (take 2 _)) ?_ (fun _ h=>(Sublist.map _ (take_sublist _ _)).subset h);refine az 0 rfl bj ?_;refine az 1 rfl bj ?_;refine az 2 rfl lM ?_;refine az 3 rfl (da 2) ?_;refine az 4 rfl (om 1) ?_;refine az 5 rfl bj ?_;refine dm.later rfl ?_;refine AD.one (i:=6) aA ?_;refine jB call31 (aai row w4) ?_;refine AD.one (i:=7) aA ?_;refine jo (bZ 0 [_]) [.slice none 0 0] [_] zeroValue28 runUnderlying34 sizeOf28 (fun oU=>?_);refine jq 0 66 1 1 ?_;refine AD.one (i:=8) aA ?_;refine aZ.ev (ls:=t.rows) (new:=[row]) (Sq:=Sr) kV abQ rfl ap rfl rfl underlying34 Y0 rfl w7 ot Z (dI (A:=[_,_])) ot bu nF nG (fun qq qU FJ FK=>?_);refine AD.perm (ee (S1:=[⟨qq,28,qU*1,flatMap iw (t.rows++[row])⟩]) (A:=[_,_])) ?_;refine eD ?_;refine aE 2 ?_
  refine OD.storeAt (k:=1) (cs':=pre++((([bf t.nm,ax 2 cC t.ay,aN ad t.rows.length cap,.list 5 ((gB t.ix (dH t.ix) (dx row) t.rows.length).ag.flatMap cP) (gB t.ix (dH t.ix) (dx row) t.rows.length).ag.length,ae (gB t.ix (dH t.ix) (dx row) t.rows.length).root]:List D)).set 2 (aN (some ⟨qq,0,none⟩) ((t.rows++[row])).length qU)++post)) ap rfl rfl ot rfl rfl ot rfl rfl sizeOf34 rfl (by show off+2+1≤(pre++(([bf t.nm,ax 2 cC t.ay,aN ad t.rows.length cap,.list 5 ((gB t.ix (dH t.ix) (dx row) t.rows.length).ag.flatMap cP) (gB t.ix (dH t.ix) (dx row) t.rows.length).ag.length,ae (gB t.ix (dH t.ix) (dx row) t.rows.length).root]:List D)++post)).length;simp only[length_append,length_cons,length_nil];omega) (by exact Bc (j:=2) hp aO rfl) ?_;refine an 70 [] ?_;refine af [4] ?_;refine aI (⟨bt,53,I,pre++(_++post)⟩::[⟨qq,28,qU*1,flatMap iw (t.rows++[row])⟩]) ?_;rw[aV];exact⟨rfl,fun _=>⟨(some ⟨qq,0,none⟩),qU,[⟨qq,28,qU*1,flatMap iw (t.rows++[row])⟩],(bJ FJ FK),rfl⟩⟩
 obtain⟨rw0,ajg⟩:=(AM g.ix (dx row)).1 iQ;have fR:=JF (G:=G) g.ix (dx row);rw[Qw g.ix dX ajg] at fR;unfold Tw.cT at fR;have aV:gl t row=(t,9):=(by unfold gl;rw[if_neg (by simp[hz]),if_pos iQ])
 refine iB [0,1,7] ?_;refine aR 3 ?_ (h:=by exact(wW 0));refine cZ (O) ?_;refine cZ (fR) ?_;refine bH ?_;refine af [0,1,30] ?_;refine au ?_ ?_<;>intro aX cJ
 ·refine af [4] ?_;refine aI [] ?_;rw[aV];exact⟨rfl,fun h=>absurd (show(9:Int)=0 from h) w7⟩
 exact absurd aX (by simp at aX)

end Go.Proofs.YtdgichenhdikgaaGreatDoor.Ba

namespace Go.Proofs.YtdgichenhdikgaaGreatDoor.Ba
open List
open Go.Proofs.Tryz
open Go.RowKit V Pk Tr Vl Go.Proofs.YtdgichenhdikgaaGreatDoor.Nm Pc Cd Ex Tw
open Pa (cx bY)
variable {G:List (Nat×List Value)} {m:Int}
variable {t:aQ} {n:Nat} {i:Int}
theorem Jj{t:aG}(g:iH t n){x y:K×Int}(hx:x∈gp t)(hy:y∈gp t)(h:x.1=y.1):x=y:=by
 have hr:(gp t).Pairwise (fun a b=>bN a.1 b.1):=HP g.val;obtain⟨i,hi,rfl⟩:=mem_iff_getElem.1 hx;obtain⟨j,hj,rfl⟩:=mem_iff_getElem.1 hy;have hp:=pairwise_iff_getElem.1 hr;rcases Nat.lt_trichotomy i j with q|q|q
 ·have:=hp i j hi hj q;rw[h] at this;exact absurd this (j8 _)
 ·subst q;rfl
 have:=hp j i hj hi q;rw[h] at this;exact absurd this (j8 _)
theorem gN.jf(g:eV t n)(h:gN t i):(dx (rowAt t i),i)∈gp t.ix:=by
 obtain⟨h0,h1,h2⟩:=h;have:=(g.row _ h1 h2).2.2;rw[jE h1];rwa [Int.toNat_of_nonneg h0] at this
noncomputable def nE(t:aQ)(i:Int):aQ:={t with rows:=t.rows.set i.toNat [],ix:=gC t.ix (dH t.ix) (dx (rowAt t i))}
noncomputable def q8:aQ→List Int→aQ
 | t,[]=>t
 | t,i::r=>q8 (nE t i) r
noncomputable def mu(t:aQ)(w:List aU):aQ×Int×Int:=if (av t w).2≠0 then (t,0,(av t w).2) else (q8 t (av t w).1,(av t w).1.length,0)
theorem afi(g:eV t n)(h:gN t i):iH (gC t.ix (dH t.ix) (dx (rowAt t i))) n∧∀x,x∈gp (gC t.ix (dH t.ix) (dx (rowAt t i)))↔x∈gp t.ix∧x.1≠dx (rowAt t i) :=
 Iv g.ix ((AL g.ix.val _).2 ⟨i,h.jf g⟩)
theorem O8(g:eV t n)(h:gN t i):eV (nE t i) n:=by
 obtain⟨d1,d2⟩:=afi g h;have I:=h.jf g;obtain⟨h0,h1,h2⟩:=h;refine⟨g.nm,g.ay,by show(t.rows.set _ _).length≤40;rw[length_set];exact g.eM,d1,fun j hj hne=>?_,fun x hx=>?_⟩
 ·simp only[nE] at hj hne ⊢;rw[length_set] at hj;rw[getElem_set] at hne;split at hne
  ·exact absurd rfl hne
  rename_i E;have he:(t.rows.set i.toNat [])[j]'xj=t.rows[j]:=getElem_set_ne E _;rw[he];obtain⟨p1,p2,p3⟩:=g.row j hj hne;refine⟨p1,p2,(d2 _).2 ⟨p3,fun e=>?_⟩⟩;have:=Jj g.ix p3 I e;simp only[Prod.mk.injEq] at this;omega
 obtain⟨x1,O⟩:=(d2 x).1 hx;obtain⟨p0,p1,p2,p3⟩:=g.jf x x1;have E:i.toNat≠x.2.toNat:=fun e=>by
  refine O ?_;rw[p3,jE h1];congr 1;simp only[e]
 refine⟨p0,by show _<(t.rows.set _ _).length;rw[length_set];exact p1,?_⟩;have he:(t.rows.set i.toNat [])[x.2.toNat]'(by rw[length_set];exact p1)=t.rows[x.2.toNat]:=getElem_set_ne E _;show(t.rows.set i.toNat [])[x.2.toNat]'(by rw[length_set];exact p1)≠[]∧x.1=dx ((t.rows.set i.toNat [])[x.2.toNat]'(by rw[length_set];exact p1));rw[he];exact⟨p2,p3⟩
theorem R9{j:Int}(h:gN t j)(E:j≠i)(hi:0≤i):gN (nE t i) j:=by
 obtain⟨h0,h1,h2⟩:=h;refine⟨h0,by show _<(t.rows.set _ _).length;rw[length_set];exact h1,?_⟩;show(t.rows.set i.toNat [])[j.toNat]'(by rw[length_set];exact h1)≠[];have e:=getElem_set_ne (l:=t.rows) (i:=i.toNat) (j:=j.toNat) (a:=[]) w4 (by rw[length_set];exact h1);rw[e];exact h2
theorem Ec(g:eV t n)(w:List aU):(av t w).1.Nodup:=(Iy g w).imp fun h e=>by rw[e] at h;exact j8 _ h
theorem aaq(hm:(3,marksC)∈G)(hw:(1,wordsC)∈G)(ht:(0,typesC)∈G)(hG:(2,[Value.int .i64 m])∈G)(t:aQ)(g:eV t n)(s:cx)(ho:∀o∈s.aj,o.nm.size≤maxLen)(fN:∀o∈s.aj,o.v.Ok)(bt off pP:Nat)(pre post:List D)(hp:pre.length=off)(ad:Option Addr)(cap:Nat)(Sr:List ah)(kr:u5 t ad cap Sr):VC Tryz.prog G 46 [.v (.pointer (some ⟨bt,off,none⟩)),.agg (bY s)] (⟨bt,53,pP,pre++(tC t ad cap++post)⟩::Sr) (fun r S=>r = .dG [ae (mu t s.aj).2.1,ae (mu t s.aj).2.2]∧((mu t s.aj).2.2=0→∃nJ ku oo,u5 (mu t s.aj).1 nJ ku oo∧S=⟨bt,53,pP,pre++(tC (mu t s.aj).1 nJ ku++post)⟩::oo)):=by
 refine VC.body func46 rfl ntmps46 aO fun X0 w0 aY=>?_;have dy:=dY;have nc:=g.eM;have DB:=EQ g s.aj;have mj:=uJ g s.aj;have hnd:=Ec g s.aj;unfold tC;unfold bY;refine cf ?_;refine OD.box (ds:=[_,_,_,_,_,_,_,_,_,_,_,_]) ap rfl rfl ot rfl rfl (fun b3=>?_);refine an 56 [0,3] ?_;refine CD.seq ?_;refine fL 9 (aq (take 2 _)) ?_ (fun _ h=>(Sublist.map _ (take_sublist _ _)).subset h);refine az 0 rfl bj ?_;refine az 1 rfl lM ?_;refine az 2 rfl (K7 1) ?_;refine az 3 rfl (da 6) ?_;refine az 4 rfl (dD 0) ?_;refine dm.later rfl ?_;refine AD.one (i:=5) aA ?_;refine aZ.JX rfl ap rfl rfl rfl call86 (JI hm hw ht hG t g s.aj ho fN) (fun r S h=>h.flat) ⟨⟨_,ot,(uv ⟨eP,eP,lA kr (cy kV _) (fun B hB=>by simp[hB]),eP,eP,trivial⟩:View _ (.agg [bf t.nm,ax 2 cC t.ay,aN ad t.rows.length cap,ax 5 cP t.ix.ag,ae t.ix.root]) (.agg (dA t)))⟩,⟨_,ot,eP⟩,trivial⟩ ?_;rintro _ Sx ⟨dW,dK,rfl,er⟩;refine AD.perm (jg (A:=[_,_])) ?_;refine cu 6 rfl bj ?_;refine cu 7 rfl L9 ?_;refine cu 8 rfl L9 ?_;refine eD ?_;refine bg [0,6,7] ?_;refine af [0,6,7,20] ?_;refine au ?_ ?_<;>intro aP bF
 ·have hne:(av t s.aj).2≠0:=(by simpa using aP)
  have aV:mu t s.aj=(t,0,(av t s.aj).2):=if_pos hne;refine af [4,5] ?_;refine aI [] ?_;rw[aV];exact⟨rfl,fun h=>absurd h hne⟩
 have hz:(av t s.aj).2=0:=(by simpa using aP)
 have aV:mu t s.aj=(q8 t (av t s.aj).1,((av t s.aj).1.length:Int),0):=if_neg (fun h=>h hz);refine CD.skip ?_;refine CD.seq ?_;refine CD.seq ?_;refine CD.iq (t:=6) (Sq:=Sx) lk er (cy Tw.eA _) (ow (A:=[_,_])) ?_;refine rz ?_;refine bg [0,6,22,23,24] ?_;refine eL [0,6,22,23] (fun aW _ (U:Nat×aQ×Option Addr×Nat×List ah) aJ=>match U with|(k,u,Z,E,O)=>(k≤(av t s.aj).1.length)∧(q8 u ((av t s.aj).1.drop k)=q8 t (av t s.aj).1)∧(eV u n)∧(∀i∈(av t s.aj).1.drop k,gN u i)∧(u5 u Z E O)∧aJ=(⟨56,(24,ae (k:Nat))::aW,(⟨b3,32,12,bY s⟩::⟨bt,53,pP,pre++([bf u.nm,ax 2 cC u.ay,aN Z u.rows.length E,ax 5 cP u.ix.ag,ae u.ix.root]++post)⟩::O)⟩:St)) (fun (U:Nat×aQ×Option Addr×Nat×List ah)=>match U with|(k,u,Z,E,O)=>(av t s.aj).1.length-k) (0,t,ad,cap,Sr) ⟨(Nat.zero_le _),rfl,g,mj,kr,rfl⟩ ?_;rintro⟨k,u,Z,E,O⟩ _ ⟨hk,U2,gu,kP,vC,rfl⟩;refine af [0,6,22,23,24,25] ?_;refine au ?_ ?_<;>intro aX cJ
 ·have aa:k<(av t s.aj).1.length:=(by omega)
  have jr:(av t s.aj).1.drop k=((av t s.aj).1[k]'aa)::(av t s.aj).1.drop (k+1):=drop_eq_getElem_cons aa;have rH:gN u ((av t s.aj).1[k]'aa):=kP _ (by rw[jr];exact mem_cons_self);obtain⟨gW,I,oX⟩:=id rH;obtain⟨br,rfl,tY,tZ,rfl⟩:=vC.pos w4;have gu2:=O8 gu rH;have fX:(nE u ((av t s.aj).1[k]'aa)).rows.length=u.rows.length:=length_set;have agz:q8 (nE u ((av t s.aj).1[k]'aa)) ((av t s.aj).1.drop (k+1))=q8 t (av t s.aj).1:=(by rw[←U2,jr];rfl)
  have KX:∀i∈(av t s.aj).1.drop (k+1),gN (nE u ((av t s.aj).1[k]'aa)) i:=fun i hi=>R9 (kP i (by rw[jr];exact mem_cons_of_mem _ hi)) (fun e=>by subst e;have h9:=hnd.sublist (drop_sublist k _);rw[jr,nodup_cons] at h9;exact h9.1 hi) gW;have Cg:u5 (nE u ((av t s.aj).1[k]'aa)) (some ⟨br,0,none⟩) E [⟨br,28,E*1,(nE u ((av t s.aj).1[k]'aa)).rows.flatMap iw⟩]:=bJ (by show(u.rows.set _ _).length≤_;rw[length_set];exact tY) tZ;obtain⟨Xj,DC⟩:=gN.ok gu rH;have vD:=yM (G:=G) hG (u.rows[((av t s.aj).1[k]'aa).toNat]) (by rw[←jE I];omega) (by rw[←jE I];omega) (fun v hv=>(DC v (by rw[jE I];exact hv)).1);rw[show dx (u.rows[((av t s.aj).1[k]'aa).toNat])=dx (rowAt u ((av t s.aj).1[k]'aa)) from by rw[jE I]] at vD;have xZ:=Qy (G:=G) gu.ix (dx (rowAt u ((av t s.aj).1[k]'aa)));rw[RU gu.ix (vW (by rw[jE I];exact(gu.row _ I oX).1)) ((AM gu.ix _).2 ⟨_,rH.jf gu⟩)] at xZ;unfold Tw.cT at xZ;have anN:=gu.eM;refine af [0,6,9,22,23,24] ?_;refine CD.seq ?_;refine l9 17 [0,6,9,22,23,24,29,43] ?_;refine aR 4 ?_ (h:=by exact(wW 1));refine aR 3 ?_ (h:=by exact(om 1));refine aR 1 ?_ (h:=by exact(dF 1 (h:=by first|exact .l (j:=((av t s.aj).1[k]'aa).toNat) (Int.toNat_of_nonneg gW).symm I|exact .r (j:=((av t s.aj).1[k]'aa).toNat) (Int.toNat_of_nonneg gW).symm I)))
  refine aR 0 ?_ (h:=by exact(cM (mk:=Op.load 28) rfl ot (iU (k:=2) (i:=((av t s.aj).1[k]'aa).toNat) (ls:=u.rows) kV rfl rfl rfl isAgg28 I rfl)));refine cZ (vD) ?_;refine cZ (xZ) ?_;refine bH ?_;refine aE 2 ?_;refine OD.storeAt (k:=1) (cs':=pre++([bf u.nm,ax 2 cC u.ay,aN (some ⟨br,0,none⟩) (nE u ((av t s.aj).1[k]'aa)).rows.length E,.list 5 ((nE u ((av t s.aj).1[k]'aa)).ix.ag.flatMap cP) (nE u ((av t s.aj).1[k]'aa)).ix.ag.length,ae (nE u ((av t s.aj).1[k]'aa)).ix.root]++post)) ap rfl rfl ot rfl rfl ot rfl rfl sizeOf51 rfl (by show off+3+2≤(pre++(([bf u.nm,ax 2 cC u.ay,aN (some ⟨br,0,none⟩) u.rows.length E,ax 5 cP u.ix.ag,ae u.ix.root]:List D)++post)).length;simp only[length_append,length_cons,length_nil];omega) (by exact Bc (j:=3) hp aO (by rw[fX];rfl)) ?_;refine an 56 [0,6,9,22,23,24] ?_;refine dQ 3 ?_;refine bQ (om 1) ?_;refine aE 1 ?_;refine bQ (dF 1 (h:=by first|exact .l (j:=((av t s.aj).1[k]'aa).toNat) (Int.toNat_of_nonneg gW).symm (by rw[fX];exact I)|exact .r (j:=((av t s.aj).1[k]'aa).toNat) (Int.toNat_of_nonneg gW).symm (by rw[fX];exact I))) ?_
  refine OD.storeAt (k:=2) (cs':=(u.rows.flatMap iw).set ((av t s.aj).1[k]'aa).toNat (bB)) ap rfl rfl ot rfl rfl bI rfl rfl sizeOf28 rfl (by show 0+((av t s.aj).1[k]'aa).toNat*1+1≤(u.rows.flatMap iw).length;rw[cy kV];omega) (by show(u.rows.flatMap iw).set (0+((av t s.aj).1[k]'aa).toNat*1) _=_;rw[Nat.zero_add,Nat.mul_one]) ?_;refine OD.cells (k:=2) (cs':=(nE u ((av t s.aj).1[k]'aa)).rows.flatMap iw) (S':=[_,_,_]) rfl (by have:=Rj (eB (sz:=3)) (u.rows.flatMap iw) ((av t s.aj).1[k]'aa).toNat;rw[show(u.rows.flatMap iw).set ((av t s.aj).1[k]'aa).toNat (.list 3 [] 0)=(u.rows.set ((av t s.aj).1[k]'aa).toNat []).flatMap iw from by have:=oA kV u.rows [] I;rw[Nat.mul_one] at this;exact this] at this;exact this) rfl ?_;refine an 56 [0,6,22,23,24] ?_;refine cl [0,6,22,23,24] ?_;refine⟨((k+1),(nE u ((av t s.aj).1[k]'aa)),(some ⟨br,0,none⟩),E,[⟨br,28,E*1,(nE u ((av t s.aj).1[k]'aa)).rows.flatMap iw⟩]),_,cD,aM,w4,agz,gu2,KX,Cg,rfl⟩
 have nY:u=q8 t (av t s.aj).1:=(by rw[←U2,drop_of_length_le w4];rfl)
 subst nY;refine af [4,5] ?_;refine aI (⟨bt,53,pP,pre++(_++post)⟩::O) ?_;rw[aV];exact⟨rfl,fun _=>⟨Z,E,O,vC,rfl⟩⟩

end Go.Proofs.YtdgichenhdikgaaGreatDoor.Ba
namespace Go.Proofs.YtdgichenhdikgaaGreatDoor.Ba
open List
open Go.Proofs.Tryz
open Go.RowKit V Pk Tr Vl Go.Proofs.YtdgichenhdikgaaGreatDoor.Nm Pc Cd Ex Tw
open Pa (cx bY)
variable {ops:List aU} {row:List Vl}
theorem Iz:∀(i:Nat) (cs:List cz) (vs:List Vl),cs.length=vs.length→(Pc.qm i cs vs=0↔∀j (h1:j<cs.length) (h2:j<vs.length),Pc.mD (i+j) cs[j] vs[j]=0)
 | _,[],[],_=>⟨fun _ j h1=>absurd h1 (Nat.not_lt_zero j),fun _=>rfl⟩
 | _,[],_::_,h=>by cases h
 | _,_::_,[],h=>by cases h
 | i,c::cs,v::vs,h=>by
  rw[Pc.qm];have E:=Iz (i+1) cs vs (Nat.succ.inj h);by_cases he:Pc.mD i c v=0
  ·rw[if_neg (fun h=>h he),E];constructor
   ·intro k j h1 h2;cases j with
    | zero=>exact he
    | succ j=>have:=k j (Nat.lt_of_succ_lt_succ h1) (Nat.lt_of_succ_lt_succ h2);rw[show i+(j+1)=i+1+j by omega];exact this
   intro k j h1 h2;have:=k (j+1) (Nat.succ_lt_succ h1) (Nat.succ_lt_succ h2);rw[show i+(j+1)=i+1+j by omega] at this;exact this
  rw[if_pos he];exact⟨fun h=>absurd h he,fun k=>absurd (k 0 (Nat.succ_pos _) (Nat.succ_pos _)) he⟩
theorem Jk{r:List Vl}:Pc.dZ dB r=0↔r.length=4∧∀j (h1:j<dB.length) (h2:j<r.length),Pc.mD j dB[j] r[j]=0:=by
 constructor
 ·intro h;have h4:=qg h;unfold Pc.dZ at h;rw[if_neg (by rw[yC];decide),if_neg (by rw[h4];decide),Iz 0 dB r (by rw[h4];rfl)] at h;refine⟨h4,fun j h1 h2=>?_⟩;have:=h j h1 h2;rwa [Nat.zero_add] at this
 intro ⟨h4,h⟩;unfold Pc.dZ;rw[if_neg (by rw[yC];decide),if_neg (by rw[h4];decide),Iz 0 dB r (by rw[h4];rfl)];intro j h1 h2;rw[Nat.zero_add];exact h j h1 h2
theorem adO{i:Nat}{c:cz}{v:Vl}(h:Pc.mD i c v=0):jI c.k v:=by
 unfold Pc.mD at h;by_cases h1:dP v=0
 ·rw[if_neg (fun e=>e h1)] at h;by_cases h2:v.k≠c.k∧(i=0∨v.k≠0)
  ·rw[if_pos h2] at h;cases h
  exact⟨h1,by omega⟩
 rw[if_pos h1] at h;exact absurd h h1
theorem adP{r:List Vl}(h:Pc.dZ dB r=0):Fp dB r:=fun i=>by
 obtain⟨h4,hf⟩:=Jk.1 h;have hc:dB.length=4:=rfl;rw[getD_eq_getElem?_getD,getD_eq_getElem?_getD];by_cases hi:i<4
 ·rw[getElem?_eq_getElem w4,getElem?_eq_getElem w4];exact adO (hf i w4 w4)
 rw[getElem?_eq_none w4,getElem?_eq_none w4];exact Bh
theorem Se{r:List Vl}(h:Pc.dZ dB r=0){c:Nat}(hc:c<dB.length){v:Vl}(E:jI dB[c].k v)(h0:c=0→v.k≠0):Pc.dZ dB (r.set c v)=0:=by
 obtain⟨h4,hf⟩:=Jk.1 h;refine Jk.2 ⟨by rw[length_set];exact h4,fun j h1 h2=>?_⟩;rw[length_set] at h2;rw[getElem_set];split
 ·rename_i e;subst e;unfold Pc.mD;rw[if_neg (fun e=>e E.1),if_neg (fun e=>?_)];have:=E.2;have:=e.2;have:=e.1;by_cases I:c=0
  ·have:=h0 I;omega
  omega
 exact hf j h1 h2
theorem Ey:∀(ops:List aU) (h:Int),fG h ops=0→∀o∈ops,∃h',fa h' o=0
 | [],_,_,o,ho=>by cases ho
 | x::r,h,hx,o,ho=>by
  rw[fG] at hx;by_cases he:fa h x=0
  ·rw[if_pos he] at hx;rcases mem_cons.1 ho with rfl|ho
   ·exact⟨_,he⟩
   exact Ey r _ hx o ho
  rw[if_neg he] at hx;exact absurd hx he
theorem aar{l:List cz}(kO:∀o∈ops,o.nm.size≤maxLen)(fN:∀o∈ops,o.v.Ok)(hk:(eo l ops).2=0):∀o∈ops,y6 l o:=fun o ho=>by
 obtain⟨_,hx,he⟩:=EI hk;obtain⟨h',h1⟩:=Ey ops 0 (vV hx).2 o ho;obtain⟨_,h2,h3,_⟩:=vS h1;exact⟨kO o ho,fN o ho,D7 h3,h2.1,h2.2,OG (by rw[he] at hk;exact hk) o ho⟩
theorem QG{l:List cz}{row:List Vl}(hr:∀v∈row,v.Ok):∀(ops:List aU),(∀o∈ops,o.v.Ok)→∀st:List Vl,(∀v∈st,v.Ok)→(jz bD (fT l row) ops st).1.Ok
 | [],_,st,fC=>I1 fC 0
 | o::r,hg,st,fC=>by
  have I:(fT l row o (fg bD o.k st) (eX bD o.k st)).1.Ok:=RE hr (hg o mem_cons_self) (A5 fC _) (A6 fC _);by_cases hz:(fT l row o (fg bD o.k st) (eX bD o.k st)).2=0
  ·rw[I2 hz];refine QG hr r (fun x hx=>hg x (mem_cons_of_mem _ hx)) _ fun v E=>?_;rcases mem_append.1 E with E|E
   ·exact fC v (mem_of_mem_take E)
   rw[mem_singleton] at E;rw[E];exact I
  rw[Ih hz];exact tv
theorem adQ{l:List cz}(hr:∀v∈row,v.Ok)(fN:∀o∈ops,o.v.Ok):(eW l row ops).1.Ok:=by
 unfold eW;repeat' split
 all_goals first|exact tv|exact QG hr ops fN [] (fun v E=>by cases E)
theorem ab8(kO:∀o∈ops,o.nm.size≤maxLen)(fN:∀o∈ops,o.v.Ok)(hw:Pc.dZ dB row=0)(hk:(eo dB ops).2=0)(he:(eW dB row ops).2=0):jI (eo dB ops).1 (eW dB row ops).1:=by
 obtain⟨_,_,_,h4⟩:=ZG yC hw (adP hw) (aar kO fN hk) (EI hk).2.1;obtain⟨_,h5|h5⟩:=h4 hk
 ·rw[h5] at he;cases he
 exact h5.2
def iL(t:aQ)(c:Int)(e:List aU):List Vl→List Int→List Vl×Int
 | acc,[]=>(acc,0)
 | acc,i::r=>if (eW t.ay (rowAt t i) e).2≠0 then ([],(eW t.ay (rowAt t i) e).2) else if c=0∧(eW t.ay (rowAt t i) e).1.k=0 then ([],4) else iL t c e (acc++[(eW t.ay (rowAt t i) e).1]) r
def q9(t:aQ)(i:Int)(c:Nat)(v:Vl):aQ:={t with rows:=t.rows.set i.toNat ((rowAt t i).set c v)}
def mF(c:Nat):aQ→List Int→List Vl→aQ
 | t,i::r,v::s=>mF c (q9 t i c v) r s
 | t,_,_=>t
noncomputable def nV(t:aQ):aG→List Int→aG
 | x,[]=>x
 | x,i::r=>nV t (gC x (dH x) (dx (rowAt t i))) r
noncomputable def ko:aQ→List Int→List Vl→aQ×Int
 | t,i::r,v::s=>if ik t.ix (dx (rowAt (q9 t i 0 v) i)) (dH t.ix)=true then (t,9) else ko {q9 t i 0 v with ix:=gB t.ix (dH t.ix) (dx (rowAt (q9 t i 0 v) i)) i} r s
 | t,_,_=>(t,0)
noncomputable def gS(t:aQ)(s:cx):aQ×Int×Int :=
 if bM t.ay s.set<0 then (t,0,8) else if (eo t.ay s.bS).2≠0 then (t,0,(eo t.ay s.bS).2)
 else if (eo t.ay s.bS).1≠(t.ay.getD (bM t.ay s.set).toNat ⟨⟨#[]⟩,0⟩).k∧(eo t.ay s.bS).1≠0 then (t,0,4)
 else if (av t s.aj).2≠0 then (t,0,(av t s.aj).2)
 else if (iL t (bM t.ay s.set) s.bS [] (av t s.aj).1).2≠0 then (t,0,(iL t (bM t.ay s.set) s.bS [] (av t s.aj).1).2)
 else if 0<bM t.ay s.set then (mF (bM t.ay s.set).toNat t (av t s.aj).1 (iL t (bM t.ay s.set) s.bS [] (av t s.aj).1).1,(av t s.aj).1.length,0)
 else if (ko {t with ix:=nV t t.ix (av t s.aj).1} (av t s.aj).1 (iL t (bM t.ay s.set) s.bS [] (av t s.aj).1).1).2≠0 then (t,0,(ko {t with ix:=nV t t.ix (av t s.aj).1} (av t s.aj).1 (iL t (bM t.ay s.set) s.bS [] (av t s.aj).1).1).2)
 else ((ko {t with ix:=nV t t.ix (av t s.aj).1} (av t s.aj).1 (iL t (bM t.ay s.set) s.bS [] (av t s.aj).1).1).1,(av t s.aj).1.length,0)

end Go.Proofs.YtdgichenhdikgaaGreatDoor.Ba
