/-
  What the proof of TablesMade leans on, part 7 of 9: walks of the program's functions at the level of values, and plain facts of what they compute.
-/
import Derived.Test.YtdgichenhdikgaaGreatDoorPTablesMade6
set_option linter.unusedVariables false
set_option linter.unusedSimpArgs false
set_option maxRecDepth 100000
set_option maxHeartbeats 4000000
namespace Go.Proofs.YtdgichenhdikgaaGreatDoor.Tw
open List
open Go.Proofs.Tryz
open Go.RowKit V Tr Pk
variable {t u:aF} {h:Nat} {k up:K} {row:Int}
noncomputable def oN(t:aF)(k:K)(row:Int)(h:Nat):aF×Int:=if lu t k=0 then (if row<0 then (vK,3) else if iy t k h=true then (vK,9) else if 4000<(gJ t h k row).ag.length then (vK,10) else (gJ t h k row,0)) else (vK,lu t k)
theorem adZ{ls:List Int}{r:D}{S:List ah}(h:gp cI 3 1 ls r S):kN r=true∧∀B∈S,∀d∈B.cs,kN d=true:=by
 obtain⟨ad,cap,rfl,ho⟩:=h;refine⟨rfl,fun B E d hd=>?_⟩;rcases ho with ⟨_,_,_,_,rfl⟩|⟨b,_,_,_,rfl⟩
 ·cases E
 rw[mem_singleton] at E;subst E;obtain⟨n,_,hn⟩:=mem_flatMap.1 hd;rw[cI,mem_singleton] at hn;subst hn;rfl
theorem Pu(v:Valid t h)(hf:iy t k h=false):∀x∈kU t h,x.1≠k:=fun x hx e=>by
 have:iy t k h=true:=(D3 v k).2 ((AL v k).2 ⟨x.2,by rw[←e];exact hx⟩);rw[hf] at this;cases this
theorem aaP{G:List (Nat×List Value)}(L:List aB)(b:Nat)(root i:Int)(ad:Option Addr)(cap:Nat)(Sx:List ah)(hi:0≤i∧i<L.length)(p:cX)(E:(L[i.toNat]'w4).p=p)(hn:L.length≤10000)(ec:tW L ad cap Sx)(aT:∀o∈L,qI o)(h5:p.keys.length=5)(dY:p.leaf=true→p.kids.length=5)(I:p.leaf=false→p.kids.length=6)(O:∀k∈p.keys,k.length≤100)(U:p.high.length≤100) :
 VC Tryz.prog G 126 [dI b,ae i] (⟨b,51,2,[aR ad L.length cap,ae root]⟩::(Sx++L.flatMap bO)) (VE L b root i.toNat p):=by
 subst E;exact ack L b root i ad cap Sx hi hn ec aT h5 dY I O U
theorem acm{aC:Int}(e:kz t k row h (h+1)=(u,some (up,aC)))(hr:u.root=t.root):gJ t h k row=⟨u.ag++[⟨false,[up],[t.root,aC],[],-1⟩],u.ag.length⟩:=by
 unfold gJ;rw[←QT,e];show(⟨u.ag++[⟨false,[up],[u.root,aC],[],-1⟩],u.ag.length⟩:aF)=_;rw[hr]
theorem ad0{aC:Int}{m:Nat}(hm:m≤h)(e:kz t k row h m=(u,some (up,aC)))(h4:(bB (u.pg (dr t k h t.root m)) up aC).keys.length≤4):gJ t h k row=u.set (dr t k h t.root m) (bB (u.pg (dr t k h t.root m)) up aC):=by
 have:=Pq hm e;rw[IB h4] at this;unfold gJ;rw[Pr (h-m) (m+1) w4 w4 this];rfl
theorem acn{aC:Int}{m:Nat}(hm:m≤h)(e:kz t k row h m=(u,some (up,aC)))(h4:¬(bB (u.pg (dr t k h t.root m)) up aC).keys.length≤4) :
  kz t k row h (m+1)=(jq u (dr t k h t.root m) (bp (bB (u.pg (dr t k h t.root m)) up aC) u.ag.length) (bw (bB (u.pg (dr t k h t.root m)) up aC)),some (ji (bB (u.pg (dr t k h t.root m)) up aC),(u.ag.length:Int))):=by
 rw[Pq hm e,HV h4]
variable {G:List (Nat×List Value)}
theorem YT:(Tryz.prog.info? 153).map (fun i=>(i.zero,i.size,i.bytes))=some (some (.agg #[.bool false,.slice none 0 0,.slice none 0 0,.slice none 0 0,.int .i64 0]),5,88):=by kernel_rfl
theorem H8(t:aF)(h:Nat)(k:K)(row:Int)(hb:∀p∈t.ag,p.keys.length≤maxLen∧p.kids.length≤maxLen)(hv:gE t=0→Valid t h):VC Tryz.prog G 84 [.agg [av 5 cP t.ag,ae t.root],av 1 cB k,ae row] [] (B6 (oN t k row h)):=by
 refine VC.body func84 rfl ntmps84 aS fun X0 w0 aZ=>?_;have fg:=HA (G:=G) t k hb;unfold cT at fg;have da:=dW;refine bY ?_;refine OD.box (ds:=[_,_]) ap rfl rfl ot rfl rfl (fun b3=>?_);refine OD.alloc (ds:=[_,_]) ap rfl rfl zeroValue51 rfl (fun b6=>?_);refine an 131 [1,2,3,6] ?_;refine cH [1,2,3,6,8] (fg) ?_;refine af [1,2,3,6,8,23] ?_;refine au ?_ ?_<;>intro aN bC
 ·have hn:¬lu t k=0:=(by simpa using aN)
  refine aD 2 ?_;refine aP 0 [_,_] sizeOf51 ?_;refine an 131 [6,7] ?_;refine aJ [] ?_;unfold oN;rw[if_neg hn];exact yI _
 have hz:lu t k=0:=(by simpa using aN)
 obtain⟨hc,NB⟩:=Pt hz;have v:=hv hc;have B7:=II NB;have fy:=pu (G:=G) t h v k w4 (D4 v k);unfold cT at fy;have anH:=v.high;have anI:=v.nJ;refine af [1,2,3,6,27] ?_;refine au ?_ ?_<;>intro aY cz
 ·have vl:row<0:=(by omega)
  refine aD 1 ?_;refine aP 0 [_,_] sizeOf51 ?_;refine an 131 [6,7] ?_;refine aJ [] ?_;unfold oN;rw[if_pos hz,if_pos vl];exact yI _
 have vl:0≤row:=(by omega)
 refine cH [1,2,3,6,11] (fy) ?_;refine af [1,2,3,6,36] ?_;refine au ?_ ?_<;>intro bZ cM
 ·have iW:iy t k h=true:=bZ;refine aD 1 ?_;refine aP 0 [_,_] sizeOf51 ?_;refine an 131 [6,7] ?_;refine aJ [] ?_;unfold oN;rw[if_pos hz,if_neg w4,if_pos iW];exact yI _
 have iW:iy t k h=false:=bZ;have hne:=Pu v iW;refine aD 1 ?_;refine OD.call ap rfl rfl rfl call121 (Fi t h v) ⟨ot,trivial⟩ (eT _) ?_;rintro _ _ ⟨L,ad,cap,Sx,rfl,ec,aT,hL,rfl⟩;refine OD.perm (ee (A:=[_,_])) ?_;refine OD.alloc (ds:=[_,_]) ap rfl rfl zeroValue51 rfl (fun vL=>?_);refine aP 0 [_,_] sizeOf51 ?_;refine an 131 [1,2,6,12] ?_;refine aD 2 ?_;refine OD.Kc ap rfl rfl rfl call122 (SB t h v k) (fun r S=>adZ) ⟨⟨_,ot,(by have:=JP (root:=t.root) ec aT (fun B hB=>mem_cons_of_mem ⟨vL,51,2,[aR ad L.length cap,ae t.root]⟩ (mem_cons_of_mem ⟨b6,51,2,[bS,ae 0]⟩ (mem_cons_of_mem ⟨b3,51,2,[av 5 cP t.ag,ae t.root]⟩ hB)));rw[hL] at this;exact this)⟩,⟨_,ot,eU⟩,trivial⟩ ?_;rintro _ Sw ⟨aw,cw,rfl,how⟩;refine OD.ij (t:=42) (Sq:=Sw) lk how (cn eI _) (Perm.refl _) ?_;refine an 131 [1,2,6,12,13] ?_;refine cH [6,12,13,14,15] (jW k w4) ?_;refine jV [6,12] (fun aW _ aI=>∃(L:List aB),∃(ad:Option Addr),∃(cap:Nat),∃(Sx:List ah),∃(root:Int),(tW L ad cap Sx)∧(∀o∈L,qI o)∧(gJ t h k row=⟨L.map aB.p,root⟩)∧(L.length≤10000)∧aI=(⟨131,aW,(⟨vL,51,2,[aR ad L.length cap,ae root]⟩::⟨b6,51,2,[bS,ae 0]⟩::(Sx++L.flatMap bO))⟩:St)) ?_ ?_
 ·refine cQ [6,12,13,14,15,16] ?_;refine aU 2 ?_ (h:=by exact(c8 (r:=.int .i64 ((h:Nat):Int)) rfl ot bL (gk (by rw[ED,show(((h+1:Nat):Int)-1)=(h:Int) from by omega];exact wrap_i64 w4 w4))));refine bG ?_;refine eK [6,12,13] (fun aW _ (me:Nat×K×Int×List aB×Option Addr×Nat×List ah) aI=>match me with|(m,up,aC,L,ad,cap,Sx)=>(m≤h+1)∧(kz t k row h m=(⟨L.map aB.p,t.root⟩,some (up,aC)))∧(tW L ad cap Sx)∧(∀o∈L,qI o)∧aI=(⟨131,(14,av 1 cB up)::(15,ae aC)::(16,ae ((h:Int)-(m:Nat)))::aW,(⟨vL,51,2,[aR ad L.length cap,ae t.root]⟩::⟨b6,51,2,[bS,ae 0]⟩::(Sx++L.flatMap bO))⟩:St)) (fun (me:Nat×K×Int×List aB×Option Addr×Nat×List ah)=>match me with|(m,up,aC,L,ad,cap,Sx)=>h+1-m) (0,k,row,L,ad,cap,Sx) ⟨(Nat.zero_le _),(by unfold kz;rw[if_pos rfl,hL]),ec,aT,rfl⟩ ?_;rintro⟨m,up,aC,L,ad,cap,Sx⟩ _ ⟨hm0,he,ec,aT,rfl⟩;refine af [6,12,13,14,15,16,52] ?_;refine au ?_ ?_<;>intro cW ek
  ·obtain rfl:m=h+1:=(by omega)
   obtain⟨s1,s2,s3,s4⟩:=HY v hne B7 vl w4 he;have o8:L.length≤t.ag.length+(h+1):=(by rw[←length_map (f:=aB.p)];exact s2)
   have XN:=adU v hne B7 vl w4 he;refine aD 3 ?_;refine ez (cf 0 [_]) [.slice none 0 0] [_] zeroValue88 runUnderlying151 sizeOf88 (fun U=>?_);refine aE 3 ?_;refine ez (cf 0 [_,_]) [.int .i64 0,.int .i64 0] [_,_] zeroValue3 runUnderlying67 sizeOf3 (fun Z=>?_);refine aE 1 ?_;refine ez (cf 0 [_]) [.bool false,.slice none 0 0,.slice none 0 0,.slice none 0 0,.int .i64 0] [_,_,_,_,_] zeroValue153 runUnderlying49 sizeOf153 (fun Nf=>?_);refine OD.aeW (cs':=gO (⟨⟨false,[up],[t.root,aC],[],-1⟩,some ⟨U,0,none⟩,1,[⟨U,88,1*1,flatMap cK [up]⟩],some ⟨Z,0,none⟩,2,[⟨Z,3,2*1,flatMap cI [t.root,aC]⟩]⟩:aB)) rfl ⟨eU,eU,eU,yo,eU,trivial⟩ ?_;refine fP 0 62 5 1 ?_;refine OD.ew (ls:=L) (new:=[(⟨⟨false,[up],[t.root,aC],[],-1⟩,some ⟨U,0,none⟩,1,[⟨U,88,1*1,flatMap cK [up]⟩],some ⟨Z,0,none⟩,2,[⟨Z,3,2*1,flatMap cI [t.root,aC]⟩]⟩:aB)]) (Sq:=Sx) gl uQ ap rfl rfl underlying49 YT rfl w7 ot ec (oH (A:=[_,_,_,_])) ot bu nq nr (fun DF xj ajy ajz=>?_);refine aE 1 ?_;refine aP 3 [_,_] sizeOf49 ?_;refine an 131 [6,12] ?_;refine aD 3 ?_
   refine bH (c8 (r:=.int .i64 (L.length:Nat)) rfl ot bL (gk (by rw[length_append,show(((L.length+[(⟨⟨false,[up],[t.root,aC],[],-1⟩,some ⟨U,0,none⟩,1,[⟨U,88,1*1,flatMap cK [up]⟩],some ⟨Z,0,none⟩,2,[⟨Z,3,2*1,flatMap cI [t.root,aC]⟩]⟩:aB)].length:Nat):Int)-1)=(L.length:Int) from by simp];exact wrap_i64 w4 w4))) ?_;refine aE 1 ?_;refine aP 3 [_,_] sizeOf3 ?_;have hX:((⟨Z,3,2*1,flatMap cI [t.root,aC]⟩:ah)::⟨U,88,1*1,flatMap cK [up]⟩::L.flatMap bO).Perm ((L++[(⟨⟨false,[up],[t.root,aC],[],-1⟩,some ⟨U,0,none⟩,1,[⟨U,88,1*1,flatMap cK [up]⟩],some ⟨Z,0,none⟩,2,[⟨Z,3,2*1,flatMap cI [t.root,aC]⟩]⟩:aB)]).flatMap bO):=(by rw[Rp];exact(Perm.swap _ _ _).trans (perm_append_comm (l₁:=[_,_])))
   refine OD.perm (S':=⟨vL,51,2,[aR (some ⟨DF,0,none⟩) (L++[(⟨⟨false,[up],[t.root,aC],[],-1⟩,some ⟨U,0,none⟩,1,[⟨U,88,1*1,flatMap cK [up]⟩],some ⟨Z,0,none⟩,2,[⟨Z,3,2*1,flatMap cI [t.root,aC]⟩]⟩:aB)]).length xj,ae (L.length:Nat)]⟩::⟨b6,51,2,[bS,ae 0]⟩::(([⟨DF,153,xj*5,flatMap gO (L++[(⟨⟨false,[up],[t.root,aC],[],-1⟩,some ⟨U,0,none⟩,1,[⟨U,88,1*1,flatMap cK [up]⟩],some ⟨Z,0,none⟩,2,[⟨Z,3,2*1,flatMap cI [t.root,aC]⟩]⟩:aB)])⟩]:List ah)++(L++[(⟨⟨false,[up],[t.root,aC],[],-1⟩,some ⟨U,0,none⟩,1,[⟨U,88,1*1,flatMap cK [up]⟩],some ⟨Z,0,none⟩,2,[⟨Z,3,2*1,flatMap cI [t.root,aC]⟩]⟩:aB)]).flatMap bO)) (by exact(perm_middle (l₁:=[_,_,_])).trans (Perm.cons _ ((perm_middle (l₁:=[_,_,_])).trans (Perm.cons _ (Perm.cons _ hX))))) ?_;refine an 131 [6,12] ?_;refine CD.exit ?_
   refine⟨_,aQ,(L++[(⟨⟨false,[up],[t.root,aC],[],-1⟩,some ⟨U,0,none⟩,1,[⟨U,88,1*1,flatMap cK [up]⟩],some ⟨Z,0,none⟩,2,[⟨Z,3,2*1,flatMap cI [t.root,aC]⟩]⟩:aB)]),(some ⟨DF,0,none⟩),xj,[⟨DF,153,xj*5,flatMap gO (L++[(⟨⟨false,[up],[t.root,aC],[],-1⟩,some ⟨U,0,none⟩,1,[⟨U,88,1*1,flatMap cK [up]⟩],some ⟨Z,0,none⟩,2,[⟨Z,3,2*1,flatMap cI [t.root,aC]⟩]⟩:aB)])⟩],(L.length:Nat),(bF ajy ajz),(fun o ho=>by rcases mem_append.1 ho with ho|ho;exact aT o ho;rw[mem_singleton] at ho;subst ho;exact⟨bF (Nat.le_refl _) (show 1≤maxLen by decide),bF (Nat.le_refl _) (show 2≤maxLen by decide)⟩),(by rw[acm he rfl];show(⟨map aB.p L++[_],((map aB.p L).length:Int)⟩:aF)=_;rw[map_append,length_map];rfl),Gs,rfl⟩
  have hm:m≤h:=(by omega)
  have hP:=adV v hne B7 vl hm he;obtain⟨s1,s2,s3,s4⟩:=HY v hne B7 vl w4 he;have o8:L.length≤t.ag.length+m:=(by rw[←length_map (f:=aB.p)];exact s2)
  have NC:0≤(dr t k h t.root m)∧(dr t k h t.root m)<L.length:=(by have:=hP.rg;rw[←length_map (f:=aB.p)];exact this)
  have hj:(dr t k h t.root m).toNat<L.length:=(by omega)
  have XO:L[(dr t k h t.root m).toNat].p=(⟨L.map aB.p,t.root⟩:aF).pg (dr t k h t.root m):=TT (t:=(⟨L.map aB.p,t.root⟩:aF)) rfl hP.rg hj;have po:eL ((⟨L.map aB.p,t.root⟩:aF).pg (dr t k h t.root m)) (⟨L.map aB.p,t.root⟩:aF).ag.length:=s4 _ (jB hP.rg);have full:=Iz po hP.out hP.len hP.high hP.nn hP.nnl;obtain⟨bx,rfl,gd,rz,rfl⟩:=ec.pos w4;have xQ:=aT _ (getElem_mem hj);obtain⟨o,ho⟩:∃o,o=L[(dr t k h t.root m).toNat]:=⟨_,rfl⟩
  rw[←ho] at xQ XO;rcases o with ⟨p,ak,ck,sk,ai,ci,si⟩
  have gW:p=(⟨L.map aB.p,t.root⟩:aF).pg (dr t k h t.root m):=XO;obtain⟨dO,j8⟩:oL p.keys ak ck sk∧lM p.kids ai ci si:=xQ;rw[←gW] at po full;have mI:=po.eD;have fQ:=QO po up;have XN:=hP.len.2;have FE:(if p.leaf=true then aO p up else aO p up+1)≤p.kids.length∧p.kids.length≤5:=(by cases fN:p.leaf;(have:=(po.node fN).1;rw[if_neg w7];omega);(have:=po.leaf fN;rw[if_pos rfl];omega))
  have hW:h-m<(jf t k h t.root).length:=(by rw[ED];omega)
  have XP:(jf t k h t.root)[h-m]=(dr t k h t.root m):=(by have:=Pp (t:=t) (k:=k) (h:=h) (i:=t.root) hm;exact(List.getElem?_eq_some_iff.1 this).2)
  have Bw:=v.high;have Ux:=v.nJ;have Kq:(L.flatMap bO).Perm (sk++(si++((L.eraseIdx (dr t k h t.root m).toNat).flatMap bO))):=(by have:=yH bO hj;rw[←ho] at this;exact this.trans (by rw[show bO ⟨p,ak,ck,sk,ai,ci,si⟩=sk++si from rfl,append_assoc]))
  refine CD.perm (Perm.cons _ (Perm.cons _ (Perm.cons _ Kq))) ?_;refine cQ [6,12,13,14,15,16,17] ?_;refine aU 4 ?_ (h:=by exact(dm 1 (h:=by first|exact .l (j:=h-m) w4 hW|exact .r (j:=h-m) w4 hW)));refine aU 0 ?_ (h:=by exact(cR (mk:=Op.load 3) rfl ot (qf (d:=ae (dr t k h t.root m)) (i:=h-m) eI isAgg3 hW (by rw[XP];rfl))));refine aU 0 ?_ (h:=by exact(dm 5 (h:=by first|exact .l (j:=(dr t k h t.root m).toNat) (Int.toNat_of_nonneg NC.1).symm hj|exact .r (j:=(dr t k h t.root m).toNat) (Int.toNat_of_nonneg NC.1).symm hj)));refine bG ?_;refine cQ [6,12,13,14,15,16,17,18] ?_;refine aU 2 ?_ (h:=by exact(cR (mk:=Op.load 153) rfl ot (dP (k:=2) (ls:=L) (i:=(dr t k h t.root m).toNat) gl rfl rfl rfl isAgg153 sizeOf153 hj)));refine mS 1 ?_;refine wZ (IG p up po.jS w4) (ha:=by exact⟨⟨_,ot,(by rw[←ho];exact uI ⟨eU,lE dO (cn gm _) (fun B hB=>.tail _ (.tail _ (.tail _ (mem_append_left _ hB)))),lE j8 (cn eI _) (fun B hB=>.tail _ (.tail _ (.tail _ (mem_append_right _ (mem_append_left _ hB))))),eU,eU,trivial⟩)⟩,⟨_,ot,eU⟩,trivial⟩) (K:=?_);refine bG ?_;refine aD 4 ?_;refine bH (cR (mk:=Op.load 151) rfl ot (lj (k:=2) (j:=1) (d:=aR ak p.keys.length ck) (ls:=L) gl rfl rfl rfl isAgg151 hj ru)) ?_;refine aE 2 ?_;refine ez (cf 0 [_]) [.slice none 0 0] [_] zeroValue88 runUnderlying151 sizeOf88 (fun b89=>?_)
  refine OD.call ap rfl rfl rfl call124 (Zp p.keys (aO p up) up ak ck sk b89 fQ w4 dO) ⟨ot,ot,ot,trivial⟩ (Perm.cons _ (oH (A:=[_,_,_]))) ?_;rintro _ E ⟨I,O,rfl,fi⟩;refine OD.perm (jj (A:=[_,_,_])) ?_;refine aE 2 ?_;refine OD.storeAt (k:=2) (cs':=flatMap gO (L.set (dr t k h t.root m).toNat (⟨{p with keys:=ik p.keys (aO p up) up},I,O,E,ai,ci,si⟩:aB))) ap rfl rfl ot rfl rfl ot rfl rfl sizeOf151 rfl (by show 0+(dr t k h t.root m).toNat*5+1+1≤(flatMap gO L).length;rw[cn gl];omega) (by show(L.flatMap gO).set (0+(dr t k h t.root m).toNat*5+1) _=_;rw[Nat.zero_add];exact vS gl w7 hj (by rw[←ho];unfold gO;rw[yy fQ];rfl)) ?_;refine an 131 [6,12,13,15,16,17,18] ?_;refine CD.cut (fun aI=>aI=(⟨131,[(6,dI b6),(12,dI vL),(13,.list 1 ((jf t k h t.root).flatMap cI) (jf t k h t.root).length),(15,ae aC),(16,ae ((h:Int)-(m:Nat))),(17,.v (.pointer (some ⟨bx,0+(dr t k h t.root m).toNat*5,none⟩))),(18,ae (((if p.leaf=true then aO p up else aO p up+1):Nat):Int))],(⟨vL,51,2,[aR (some ⟨bx,0,none⟩) L.length cap,ae t.root]⟩::⟨b6,51,2,[bS,ae 0]⟩::⟨bx,153,cap*5,flatMap gO (L.set (dr t k h t.root m).toNat (⟨{p with keys:=ik p.keys (aO p up) up},I,O,E,ai,ci,si⟩:aB))⟩::(E++(si++((L.eraseIdx (dr t k h t.root m).toNat).flatMap bO))))⟩:St)) ?_ ?_
  ·refine cQ [6,12,13,15,16,17,18,97] ?_;refine aU 3 ?_ (h:=by exact(cR (mk:=Op.load 4) rfl ot (lj (k:=2) (j:=0) (d:=cg p.leaf) (ls:=(L.set (dr t k h t.root m).toNat (⟨{p with keys:=ik p.keys (aO p up) up},I,O,E,ai,ci,si⟩:aB))) gl rfl rfl rfl isAgg4 xq (by rw[getElem_set_self];rfl))));refine bG ?_;refine au ?_ ?_<;>intro eA fA
   ·have dA:(((if p.leaf=true then aO p up else aO p up+1):Nat):Int)=(((aO p up):Nat):Int)+1:=(by rw[if_neg (by simpa using eA)];rfl)
    refine cm [6,12,13,15,16,17,18] ?_;exact WE
   have dA:(((if p.leaf=true then aO p up else aO p up+1):Nat):Int)=(((aO p up):Nat):Int):=(by rw[if_pos (by simpa using eA)])
   refine CD.skip ?_;exact WE
  rintro _ ⟨rfl⟩;refine aD 4 ?_;refine bH (cR (mk:=Op.load 67) rfl ot (lj (k:=2) (j:=2) (d:=aR ai p.kids.length ci) (ls:=(L.set (dr t k h t.root m).toNat (⟨{p with keys:=ik p.keys (aO p up) up},I,O,E,ai,ci,si⟩:aB))) gl rfl rfl rfl isAgg67 xq (by rw[getElem_set_self];rfl))) ?_;refine aE 2 ?_;refine ez (cf 0 [_]) [.int .i64 0] [_] zeroValue3 runUnderlying67 sizeOf3 (fun ajA=>?_);refine OD.call ap rfl rfl rfl call125 (Zq p.kids (if p.leaf=true then aO p up else aO p up+1) aC ai ci si ajA FE.1 w4 j8) ⟨ot,ot,ot,trivial⟩ (Perm.cons _ (s8 (A:=[_,_,_]))) ?_;rintro _ bA ⟨bJ,bK,rfl,lU⟩;refine OD.perm (vY (A:=[_,_,_])) ?_;refine aE 2 ?_
  refine OD.storeAt (k:=2) (cs':=flatMap gO (L.set (dr t k h t.root m).toNat (⟨(bB p up aC),I,O,E,bJ,bK,bA⟩:aB))) ap rfl rfl ot rfl rfl ot rfl rfl sizeOf67 rfl (by show 0+(dr t k h t.root m).toNat*5+2+1≤(flatMap gO (L.set (dr t k h t.root m).toNat (⟨{p with keys:=ik p.keys (aO p up) up},I,O,E,ai,ci,si⟩:aB))).length;rw[cn gl,length_set];omega) (by show(flatMap gO (L.set (dr t k h t.root m).toNat (⟨{p with keys:=ik p.keys (aO p up) up},I,O,E,ai,ci,si⟩:aB))).set (0+(dr t k h t.root m).toNat*5+2) _=_;rw[Nat.zero_add,vS gl (a':=(⟨(bB p up aC),I,O,E,bJ,bK,bA⟩:aB)) w7 xq (by rw[getElem_set_self];show gO (⟨(bB p up aC),I,O,E,bJ,bK,bA⟩:aB)=(gO (⟨{p with keys:=ik p.keys (aO p up) up},I,O,E,ai,ci,si⟩:aB)).set 2 _;unfold gO;rw[show((⟨(bB p up aC),I,O,E,bJ,bK,bA⟩:aB)).p.kids.length=p.kids.length+1 from yy FE.1];rfl),set_set]) ?_;have vB:(E++(bA++((L.eraseIdx (dr t k h t.root m).toNat).flatMap bO))).Perm ((L.set (dr t k h t.root m).toNat (⟨(bB p up aC),I,O,E,bJ,bK,bA⟩:aB)).flatMap bO):=(by have:=(qL bO hj (⟨(bB p up aC),I,O,E,bJ,bK,bA⟩:aB)).symm;rw[show bO (⟨(bB p up aC),I,O,E,bJ,bK,bA⟩:aB)=E++bA from rfl,append_assoc] at this;exact this)
  refine OD.perm (S':=⟨vL,51,2,[aR (some ⟨bx,0,none⟩) (L.set (dr t k h t.root m).toNat (⟨(bB p up aC),I,O,E,bJ,bK,bA⟩:aB)).length cap,ae t.root]⟩::⟨b6,51,2,[bS,ae 0]⟩::(([⟨bx,153,cap*5,flatMap gO (L.set (dr t k h t.root m).toNat (⟨(bB p up aC),I,O,E,bJ,bK,bA⟩:aB))⟩]:List ah)++(L.set (dr t k h t.root m).toNat (⟨(bB p up aC),I,O,E,bJ,bK,bA⟩:aB)).flatMap bO)) (by rw[length_set];exact Perm.cons _ (Perm.cons _ (Perm.cons _ vB))) ?_;have VF:tW (L.set (dr t k h t.root m).toNat (⟨(bB p up aC),I,O,E,bJ,bK,bA⟩:aB)) (some ⟨bx,0,none⟩) cap [⟨bx,153,cap*5,flatMap gO (L.set (dr t k h t.root m).toNat (⟨(bB p up aC),I,O,E,bJ,bK,bA⟩:aB))⟩]:=bF rq rz;have jQ:∀o∈(L.set (dr t k h t.root m).toNat (⟨(bB p up aC),I,O,E,bJ,bK,bA⟩:aB)),qI o:=fun x hx=>by rcases mem_or_eq_of_mem_set hx with hx|rfl;exact aT x hx;exact⟨fi,lU⟩
  refine an 131 [6,12,13,16,17] ?_;refine cQ [6,12,13,16,116] ?_;refine aU 3 ?_ (h:=by exact(cR (mk:=Op.load 151) rfl ot (lj (k:=2) (j:=1) (d:=aR I (bB p up aC).keys.length O) (ls:=(L.set (dr t k h t.root m).toNat (⟨(bB p up aC),I,O,E,bJ,bK,bA⟩:aB))) gl rfl rfl rfl isAgg151 xq (by rw[getElem_set_self];rfl))));refine bG ?_;refine au ?_ ?_<;>intro fx gG
  ·have h4:(bB p up aC).keys.length≤4:=(by have:=of_decide_eq_true fx;omega)
   refine CD.exit ?_;refine⟨_,aQ,(L.set (dr t k h t.root m).toNat (⟨(bB p up aC),I,O,E,bJ,bK,bA⟩:aB)),(some ⟨bx,0,none⟩),cap,[⟨bx,153,cap*5,flatMap gO (L.set (dr t k h t.root m).toNat (⟨(bB p up aC),I,O,E,bJ,bK,bA⟩:aB))⟩],t.root,VF,jQ,(by rw[ad0 hm he (by rw[←gW];exact h4),←gW,map_set];rfl),vv,rfl⟩
  have h4:¬(bB p up aC).keys.length≤4:=(by have:=of_decide_eq_false fx;omega)
  have h5:(bB p up aC).keys.length=5:=(by have:=full.eD;omega)
  refine dN 2 ?_;refine bH (dm 1 (h:=by first|exact .l (j:=h-m) w4 hW|exact .r (j:=h-m) w4 hW)) ?_;refine bH (cR (mk:=Op.load 3) rfl ot (qf (d:=ae (dr t k h t.root m)) (i:=h-m) eI isAgg3 hW (by rw[XP];rfl))) ?_;have lW:(L.set (dr t k h t.root m).toNat (⟨(bB p up aC),I,O,E,bJ,bK,bA⟩:aB)).length=L.length:=length_set ..;refine OD.call ap rfl rfl rfl call126 (aaP (L.set (dr t k h t.root m).toNat (⟨(bB p up aC),I,O,E,bJ,bK,bA⟩:aB)) vL t.root (dr t k h t.root m) (some ⟨bx,0,none⟩) cap [⟨bx,153,cap*5,flatMap gO (L.set (dr t k h t.root m).toNat (⟨(bB p up aC),I,O,E,bJ,bK,bA⟩:aB))⟩] (by rw[lW];exact NC) (bB p up aC) (by rw[getElem_set_self]) (by rw[lW];omega) VF jQ h5 (fun hl=>by have:=full.leaf hl;omega) (fun hl=>by have:=(full.node hl).1;omega) (fun x hx=>(full.lq x hx).2) full.hlen) ⟨ot,ot,trivial⟩ (Perm.cons _ (perm_append_singleton _ _).symm) ?_;rintro _ _ ⟨rfl,L3,G5,F9,G6,ajB,xm,hL3,rfl⟩;refine OD.perm (Perm.cons _ (perm_append_singleton _ _)) ?_;have Cs:kz t k row h (m+1)=(⟨L3.map aB.p,t.root⟩,some (ji (bB p up aC),((L.set (dr t k h t.root m).toNat (⟨(bB p up aC),I,O,E,bJ,bK,bA⟩:aB)).length:Int))):=(by rw[acn hm he (by rw[←gW];exact h4),←gW,hL3,lW];unfold jq;show(({ag:=(map aB.p L).set _ _++_,root:=t.root}:aF),_)=_;rw[map_set,set_set,length_map])
  refine an 131 [6,12,13,14,15,16] ?_;refine cm [6,12,13,14,15,16] ?_;refine⟨((m+1),(ji (bB p up aC)),((L.set (dr t k h t.root m).toNat (⟨(bB p up aC),I,O,E,bJ,bK,bA⟩:aB)).length:Int),L3,G5,F9,G6),_,cD,aQ,w4,Cs,ajB,xm,rfl⟩
 rintro _ ⟨L,ad,cap,Sx,root,ec,aT,Gb,o8,rfl⟩;refine af [6,12,128] ?_;refine au ?_ ?_<;>intro gX kO
 ·refine aD 1 ?_;refine aP 1 [_,_] sizeOf51 ?_;refine an 131 [6,7] ?_;refine aJ [] ?_;unfold oN;rw[if_pos hz,if_neg w4,if_neg xy,if_pos (by rw[Gb];show 4000<(L.map aB.p).length;rw[length_map];omega)];exact yI _
 refine aD 1 ?_;refine aP 1 [_,_] sizeOf51 ?_;refine an 131 [6,7] ?_;refine aJ (Sx++L.flatMap bO) ?_;unfold oN;rw[if_pos hz,if_neg w4,if_neg xy,if_neg (by rw[Gb];show ¬4000<(L.map aB.p).length;rw[length_map];omega)];exact⟨_,rfl,L,ad,cap,Sx,by rw[Gb],ec,aT,by rw[Gb],rfl⟩
theorem aaQ(t:aF)(h:Nat)(k:K)(row:Int)(hb:∀p∈t.ag,p.keys.length≤maxLen∧p.kids.length≤maxLen)(E:gE t=0→Valid t h):VP Tryz.prog G 84 [.agg (cT t),av 1 cB k,ae row] (.dF [.agg (cT (oN t k row h).1),ae (oN t k row h).2]):=(H8 t h k row hb E).cover fun r S hr=>hr.view

end Go.Proofs.YtdgichenhdikgaaGreatDoor.Tw
namespace Go.Proofs.YtdgichenhdikgaaGreatDoor.Tr
open List
open Go.Proofs.Tryz
open Go.Lib (compareBytes)
variable {t:aF} {h:Nat} {k:K}
variable {n:Nat}
theorem QZ(hp:∀p∈t.ag,eL p t.ag.length):∀{h h':Nat} {i:Int} {a b c d:K},dX t h i a b→dX t h' i c d→h=h'
 | 0,0,_,_,_,_,_,_,_=>rfl
 | 0,h'+1,i,_,_,_,_,h1,h2=>by have:=h1.2.1;rw[h2.2.1] at this;cases this
 | h+1,0,i,_,_,_,_,h1,h2=>by have:=h1.2.1;rw[h2.2.1] at this;cases this
 | h+1,h'+1,i,_,_,_,_,h1,h2=>by
  obtain⟨p1,p2,p3,O,E⟩:=h1;obtain⟨q1,q2,U,Z,I⟩:=h2;have hn:=((hp _ (jB p1)).node p2).1;have:=QZ hp (E 0 w4) (I 0 w4);rw[this]
noncomputable def dK(t:aF):Nat:=Classical.epsilon fun h=>Valid t h
theorem El(v:Valid t h):Valid t (dK t):=Classical.epsilon_spec (p:=fun h=>Valid t h) ⟨h,v⟩
theorem JR(v:Valid t h):dK t=h:=QZ v.fF (El v).ok v.ok
noncomputable def eE(t:aF):List (K×Int):=kU t (dK t)
theorem Jr(hp:∀p∈t.ag,eL p t.ag.length):∀{h:Nat} {i:Int} {a b:K},dX t h i a b→2 ^ h≤(ids t h i).length
 | 0,i,_,_,_=>by simp[ids]
 | h+1,i,_,_,ok=>by
  obtain⟨p1,p2,p3,O,E⟩:=ok;have hn:=(hp _ (jB p1)).node p2;have hk:1≤(t.pg i).keys.length:=by
   have:=hn.2;cases lA:(t.pg i).keys with
   | nil=>exact absurd lA this
   | cons _ _=>simp
  have h0:=Jr hp (E 0 w4);have h1:=Jr hp (E 1 w4);have key:∀(l:List Int) (h2:2≤l.length),2 ^ h≤(ids t h (l[0]'w4)).length→2 ^ h≤(ids t h (l[1]'w4)).length→2 ^ h+2 ^ h≤(l.flatMap (ids t h)).length:=by
   intro l h2 I a1;match l,h2 with
   | x::y::r,_ =>
    simp only[flatMap_cons,length_append];simp only[getElem_cons_zero,getElem_cons_succ] at I a1;omega
  have:=key _ w4 h0 h1;rw[ids,length_cons,Nat.pow_succ];omega
theorem ad4(v:Valid t h):h≤11:=by
 have h1:=Jr v.fF v.ok;rw[v.all] at h1;have h2:=v.nJ;refine Nat.le_of_not_lt fun h3=>?_;have:2 ^ 12≤2 ^ h:=Nat.pow_le_pow_right w7 h3;omega
structure iL (t:aF) (n:Nat):Prop where
 val:Valid t (dK t)
 eD:t.ag.length≤1+13*n
theorem iL.mono{m:Nat}(g:iL t n)(h:n≤m):iL t m:=⟨g.val,by have:=g.eD;omega⟩
theorem aco:iL oM 0:=⟨El Pe,by decide⟩
theorem Q0:eE oM=[]:=by unfold eE;rw[JR Pe];exact ab0
theorem EF{row:Int}(g:iL t n)(hn:n≤300)(jL:∀x∈eE t,x.1≠k)(hk:1≤k.length∧k.length≤100)(hr:0≤row) :
  iL (gJ t (dK t) k row) (n+1)∧(gJ t (dK t) k row).ag.length≤4000∧∀x,x∈eE (gJ t (dK t) k row)↔x=(k,row)∨x∈eE t:=by
 have E:=ad4 g.val;have hf:=g.eD;obtain⟨h',_,v,⟨_,hm⟩,he⟩:=aap g.val jL hk hr w4;refine⟨⟨El v,by omega⟩,v.nJ,fun x=>?_⟩;unfold eE;rw[JR v];exact he x
theorem IJ(g:iL t n)(ht:Bh t k (dK t)):iL (gK t (dK t) k) n∧∀x,x∈eE (gK t (dK t) k)↔x∈eE t∧x.1≠k:=by
 obtain⟨v,hl,he⟩:=aaq g.val ht;refine⟨⟨El v,by have:=g.eD;omega⟩,fun x=>?_⟩;unfold eE;rw[JR v];exact he x

end Go.Proofs.YtdgichenhdikgaaGreatDoor.Tr
namespace Go.Proofs.YtdgichenhdikgaaGreatDoor.Tw
open List
open Go.Proofs.Tryz
open Go.RowKit V Tr Pk
open Go.Lib (compareBytes)
variable {k:K} {t:aF} {n:Nat} {row:Int}
theorem ad5(h:1≤k.length∧k.length≤100):oo k=true:=decide_eq_true h
theorem Bi(g:iL t n)(hk:1≤k.length∧k.length≤100):lu t k=0:=IU (IF g.val) (ad5 hk)
theorem AM(g:iL t n)(k:K):iy t k (dK t)=true↔∃row,(k,row)∈eE t:=(D3 g.val k).trans (AL g.val k)
theorem EG(g:iL t n):iy t k (dK t)=false↔∀x∈eE t,x.1≠k:=by
 constructor
 ·exact fun h=>Pu g.val h
 intro h;cases hq:iy t k (dK t) with
 | false=>rfl
 | true=>obtain⟨row,hr⟩:=(AM g k).1 hq;exact absurd rfl (h _ hr)
theorem ad6(g:iL t n)(hk:1≤k.length∧k.length≤100)(hr:0≤row)(h:iy t k (dK t)=true):oN t k row (dK t)=(vK,9):=by
 unfold oN;rw[if_pos (Bi g hk),if_neg w4,if_pos h]
theorem TU(g:iL t n)(hn:n≤300)(hk:1≤k.length∧k.length≤100)(hr:0≤row)(h:iy t k (dK t)=false):oN t k row (dK t)=(gJ t (dK t) k row,0):=by
 have:=(EF g hn ((EG g).1 h) hk hr).2.1;unfold oN;rw[if_pos (Bi g hk),if_neg w4,if_neg (by rw[h];decide),if_neg w4]
theorem SK(g:iL t n)(hk:1≤k.length∧k.length≤100)(h:iy t k (dK t)=true):qX t k (dK t)=(gK t (dK t) k,0):=by
 unfold qX;rw[if_pos (Bi g hk),if_pos h]
theorem ad8(g:iL t n)(hk:1≤k.length∧k.length≤100)(h:iy t k (dK t)=false):findF t k (dK t)=(0,8):=by
 unfold findF;rw[if_pos (Bi g hk),if_neg (by rw[h];decide)]
theorem Q1(g:iL t n)(hk:1≤k.length∧k.length≤100)(h:(k,row)∈eE t):findF t k (dK t)=(row,0):=by
 unfold findF en;rw[if_pos (Bi g hk),if_pos ((AM g k).2 ⟨row,h⟩)];obtain⟨_,_,e⟩:=(found g.val k row).1 h;rw[e]
theorem A7(g:iL t n):∀p∈t.ag,p.keys.length≤maxLen∧p.kids.length≤maxLen:=acd g.val
variable {G:List (Nat×List Value)}
theorem Q2(g:iL t n)(k:K)(row:Int):VP Tryz.prog G 84 [.agg (cT t),av 1 cB k,ae row] (.dF [.agg (cT (oN t k row (dK t)).1),ae (oN t k row (dK t)).2]):=aaQ t (dK t) k row (A7 g) fun _=>g.val
theorem Q3(g:iL t n)(k:K):VP Tryz.prog G 90 [.agg (cT t),av 1 cB k] (.dF [.agg (cT (qX t k (dK t)).1),ae (qX t k (dK t)).2]):=aaM t (dK t) k (A7 g) fun _=>g.val
theorem JS(g:iL t n)(k:K):VP Tryz.prog G 65 [.agg (cT t),av 1 cB k] (.dF [ae (findF t k (dK t)).1,ae (findF t k (dK t)).2]):=afw t (dK t) k (A7 g) fun _=>g.val
theorem ad9(g:iL t n):VP Tryz.prog G 49 [.agg (cT t)] (ae 0):=by have:=pn (G:=G) t (A7 g);rwa [IF g.val] at this
noncomputable def pD(t:aF)(f e9:K):List (K×Int):=wL t (dK t) f e9
theorem TV(g:iL t n)(f e9:K)(hf:f.length≤100)(ht:e9.length≤100):VP Tryz.prog G 30 [.agg (cT t),av 1 cB f,av 1 cB e9] (.dF [.list 2 ((pD t f e9).flatMap cE) (pD t f e9).length,ae 0]):=by
 have:=adY (G:=G) t (dK t) (A7 g) (fun _=>g.val) f e9;unfold wF at this;rwa [if_pos (IF g.val),if_pos ⟨hf,ht⟩] at this
theorem IK(t:aF):pD t [] []=eE t:=by
 unfold pD wL eE;rw[acf,H6 fun x _=>by simp[u0]]
theorem SL(g:iL t n):VP Tryz.prog G 30 [.agg (cT t),bS,bS] (.dF [.list 2 ((pD t [] []).flatMap cE) (pD t [] []).length,ae 0]):=VC.e9 (args':=[.agg (cT t),bS,bS]) (TV g [] [] w7 w7) ⟨.inl rfl,.inr ⟨1,rfl,rfl⟩,.inr ⟨1,rfl,rfl⟩,trivial⟩

end Go.Proofs.YtdgichenhdikgaaGreatDoor.Tw
namespace Go.Proofs.YtdgichenhdikgaaGreatDoor.Ba
open List
open Go.Proofs.Tryz
open Go.RowKit V Pk Tr Vl Go.Proofs.YtdgichenhdikgaaGreatDoor.Nm Pc Cd Ex Tw
structure aL where
 nm:ByteArray
 az:List cA
 rows:List (List Vl)
 ix:aF
def gq(r:List Vl):List D:=[av 3 cV r]
theorem kj(r:List Vl):(gq r).length=1:=rfl
theorem Q4(r:List Vl):(gq r).all V.one=true:=rfl
def dg(t:aL):List D:=[bn t.nm,av 2 cC t.az,av 1 gq t.rows,av 5 cP t.ix.ag,ae t.ix.root]
theorem jX(t:aL):(dg t).length=5:=rfl
def aM(b:List aL)(nm:ByteArray):Int:=dR (fun t=>t.nm.toList==nm.toList) b
def c9(r:List Vl):K:=(ga (r.take 1)).1
variable {G:List (Nat×List Value)}
theorem acp(t:aL)(nm:ByteArray)(b:Nat):VC Tryz.prog G 48 [.agg (dg t),dI b] [⟨b,9,1,[bn nm]⟩] (fun r S=>r=cg (t.nm.toList==nm.toList)∧S=[⟨b,9,1,[bn nm]⟩]):=by
 refine VC.body func48 rfl ntmps48 aS fun X0 w0 aZ=>?_;unfold dg;refine bY ?_;refine OD.box (ds:=[_,_,_,_,_]) ap rfl rfl ot rfl rfl (fun b2=>?_);refine an 8 [1,2] ?_;refine af [3] ?_;refine aJ [⟨b,9,1,[bn nm]⟩] ?_;exact⟨rfl,rfl⟩
theorem aaR(ls:List aL)(I:Nat)(E:List D)(S:List ah)(p:aL→Bool)(fu:∀args w,(callFunc I args).run Tryz.prog w = .ok (.enter I args) w)(hp:∀x∈ls,VC Tryz.prog G I (.agg (dg x)::E) S (fun r S'=>r=cg (p x)∧S'=S))(hlen:ls.length≤1000000):VC Tryz.prog G 47 [av 5 dg ls,.eB (.func I) E] S (fun r S'=>r=ae (dR p ls)∧S'=S):=by
 refine VC.body func47 rfl ntmps47 aS fun X0 w0 aZ=>?_;refine aD 1 ?_;refine OD.wk (Wk.dU (n:=19) (l':=[(0,_),(1,_)]) (S':=S) rfl mM fp) ?_;refine OD.nil ?_;refine aD 3 ?_;refine OD.wk (Wk.dU (n:=19) (l':=[(0,_),(1,_),(7,_),(8,_)]) (S':=S) rfl mM fp) ?_;refine OD.nil ?_;refine eK [0,1,7] (fun aW _ (k:Nat) aI=>(k≤ls.length)∧(∀x∈ls.take k,p x=false)∧aI=(⟨19,(8,ae (k:Nat))::aW,S⟩:St)) (fun (k:Nat)=>ls.length-k) 0 ⟨Nat.zero_le _,bu,rfl⟩ ?_;rintro k _ ⟨hk,h0,rfl⟩;refine aD 1 ?_;refine OD.wk (Wk.dU (n:=19) (l':=[(0,_),(1,_),(7,_),(8,_),(9,_)]) (S':=S) rfl mM fp) ?_;refine OD.nil ?_;refine au ?_ ?_<;>intro aN bC
 ·refine aD 2 ?_;refine OD.wk (Wk.dU (n:=19) (l':=[(0,_),(1,_),(5,_),(7,_),(8,_)]) (S':=S) rfl mM fp) ?_;refine OD.nil ?_;refine aD 5 ?_;refine OD.kr (f:=I) (args:=[_]) ap rfl rfl (tu rfl lk) fu (hp (ls[k]'w4) (getElem_mem _)) rfl ⟨tu rfl lk,trivial⟩ (Ih _) ?_;rintro _ S2 ⟨rfl,iG⟩;rw[iG];clear iG;refine OD.wk (Wk.dU (n:=19) (l':=[(0,_),(1,_),(5,_),(7,_),(8,_),(16,_)]) (S':=S) rfl mM fp) ?_;refine OD.nil ?_;refine au ?_ ?_<;>intro aY cz
  ·refine aD 2 ?_;refine OD.wk (Wk.dU (n:=19) (l':=[(4,_)]) (S':=S) rfl mM fp) ?_;refine OD.nil ?_;refine aJ S ?_;refine⟨?_,rfl⟩;first|(rw[uH w4 h0 tN])|(rw[uC w4 h0])
  refine dN 2 ?_;refine OD.wk (Wk.dU (n:=19) (l':=[(0,_),(1,_),(7,_),(8,_)]) (S':=S) rfl mM fp) ?_;refine OD.nil ?_;refine⟨k+1,_,cD,aQ,w4,(by rw[take_succ_eq_append_getElem w4];intro x hx;rcases mem_append.1 hx with hx|hx;exact h0 x hx;simp only[mem_singleton] at hx;subst hx;assumption),rfl⟩
 refine aD 1 ?_;refine OD.wk (Wk.dU (n:=19) (l':=[(4,_)]) (S':=S) rfl mM fp) ?_;refine OD.nil ?_;refine aJ S ?_;refine⟨?_,rfl⟩;first|(rw[uH w4 h0 tN])|(rw[uC w4 h0])
theorem pu(l:List aL)(hl:l.length≤1000)(nm:ByteArray):VP Tryz.prog G 29 [av 5 dg (l),bn nm] (ae (aM l nm)):=by
 refine VC.body func29 rfl ntmps29 aS fun X0 w0 aZ=>?_;refine bY ?_;refine OD.box (ds:=[_]) ap rfl rfl ot rfl rfl (fun b3=>?_);refine an 8 [0,3] ?_;refine aD 1 ?_;refine bH (pi (ds:=[_]) rfl ⟨ot,trivial⟩) ?_;refine OD.call ap rfl rfl rfl call47 (aaR l 48 [dI b3] _ (fun t=>t.nm.toList==nm.toList) call48 (fun h _=>acp h nm b3) w4) ⟨ot,ot,trivial⟩ (kf (k:=0) rfl) ?_;rintro _ S2 ⟨rfl,iG⟩;rw[iG];clear iG;refine an 8 [4] ?_;exact z51
theorem acq(c:cA)(nm:ByteArray)(b:Nat):VC Tryz.prog G 127 [.agg (cC c),dI b] [⟨b,9,1,[bn nm]⟩] (fun r S=>r=cg (c.n.toList==nm.toList)∧S=[⟨b,9,1,[bn nm]⟩]):=by
 refine VC.body func127 rfl ntmps127 aS fun X0 w0 aZ=>?_;exact z85
theorem H9(t:aL)(hl:t.az.length≤1000)(nm:ByteArray):VP Tryz.prog G 85 [.agg (dg t),bn nm] (ae (bM t.az nm)):=by
 refine VC.body func85 rfl ntmps85 aS fun X0 w0 aZ=>?_;unfold dg;refine bY ?_;refine OD.box (ds:=[_,_,_,_,_]) ap rfl rfl ot rfl rfl (fun b2=>?_);refine OD.box (ds:=[_]) ap rfl rfl ot rfl rfl (fun b3=>?_);refine an 9 [2,3] ?_;refine aD 2 ?_;refine bH (pi (ds:=[_]) rfl ⟨ot,trivial⟩) ?_;refine OD.call ap rfl rfl rfl call106 (Pc.It t.az 127 [dI b3] _ (fun c=>c.n.toList==nm.toList) call127 (fun h _=>acq h nm b3) w4) ⟨ot,ot,trivial⟩ (kf (k:=0) rfl) ?_;rintro _ S2 ⟨rfl,iG⟩;rw[iG];clear iG;refine an 9 [4] ?_;exact z51

end Go.Proofs.YtdgichenhdikgaaGreatDoor.Ba
namespace Go.Proofs.YtdgichenhdikgaaGreatDoor.Ba
open List
open Go.Proofs.Tryz
open Go.RowKit V Pk Tr Vl Go.Proofs.YtdgichenhdikgaaGreatDoor.Nm Pc Cd Ex Tw
variable {G:List (Nat×List Value)} {m:Int}
variable {S:List ah} {t:aL} {n:Nat} {p:List Int×Int}
def Cg(k:K)(r:D)(S:List ah):Prop:=∃ad cap,r=aR ad k.length cap∧bz 5 1 (k.flatMap cB) k.length ad cap S
theorem Cg.view{k:K}{r:D}(h:Cg k r S):View S r (av 1 cB k):=by
 obtain⟨ad,cap,rfl,ho⟩:=h;exact lE ho (cn pz _) (fun B h=>h)
theorem Cg.flat{k:K}{r:D}(h:Cg k r S):kN r=true∧∀B∈S,∀d∈B.cs,kN d=true:=by
 obtain⟨ad,cap,rfl,ho⟩:=h;refine⟨rfl,fun B E d hd=>?_⟩;rcases ho with ⟨_,_,_,_,rfl⟩|⟨b,_,_,_,rfl⟩
 ·cases E
 rw[mem_singleton] at E;subst E;obtain⟨n,_,hn⟩:=mem_flatMap.1 hd;rw[cB,mem_singleton] at hn;subst hn;rfl
theorem JT(hG:(2,[Value.int .i64 m])∈G)(r:List Vl)(h1:1≤r.length)(h2:r.length≤1000000)(aT:∀v∈r,v.Ok):VC Tryz.prog G 66 [av 3 cV r] [] (Cg (c9 r)):=by
 refine VC.body func66 rfl ntmps66 aS fun X0 w0 aZ=>?_;have da:=dW;refine af [0] ?_;refine aD 1 ?_;refine bH (ei (h:=1) rfl ot trivial ⟨_,bL⟩ (by exact nW fq (fun h=>by cases h) runUnderlying28 sizeOf41 w4)) ?_;refine OD.call ap rfl rfl rfl call111 (TH hG (r.take 1) oP (fun v U=>aT v (mem_of_mem_take U))) ⟨ot,trivial⟩ (eT _) ?_;rintro _ O ⟨E,I,rfl,jQ⟩;refine OD.perm (Perm.of_eq (append_nil O)) ?_;refine an 12 [3] ?_;refine af [2] ?_;refine aJ O ?_;exact⟨E,I,rfl,jQ⟩
theorem yQ(hG:(2,[Value.int .i64 m])∈G)(r:List Vl)(h1:1≤r.length)(h2:r.length≤1000000)(aT:∀v∈r,v.Ok):VP Tryz.prog G 66 [av 3 cV r] (.list 1 ((c9 r).flatMap cB) (c9 r).length):=(JT hG r h1 h2 aT).cover fun r S hr=>hr.view
theorem Zr:(Tryz.prog.info? 41).map (fun i=>(i.zero,i.size,i.bytes))=some (some (.agg #[.int .i64 0,.int .i64 0,.string ⟨#[]⟩]),3,32):=by kernel_rfl
theorem Pv(a:List Vl)(ha:a.length≤1000000):VC Tryz.prog G 31 [av 3 cV a] [] (fun r S=>∃ad cap,r=aR ad a.length cap∧bz 41 3 (a.flatMap cV) a.length ad cap S):=by
 refine VC.body func31 rfl ntmps31 aS fun X0 w0 aZ=>?_;have da:=dW;refine af [0] ?_;refine aD 1 ?_;refine OD.yX ap rfl rfl ot bL underlying28 (fun O xE=>?_);refine an 8 [0,4] ?_;refine au ?_ ?_<;>intro aN bC
 ·exact GD
 refine bY ?_;refine OD.yY ap rfl rfl runUnderlying28 sizeOf41 (fun b5=>?_);refine aE 1 ?_;refine OD.ph (ls:=([]:List Vl)) (new:=a) (Sq:=[⟨b5,41,0*3,[]⟩]) fq E7 ap rfl rfl underlying28 Zr rfl w7 runUnderlying28 sizeOf41 ot (.inr ⟨b5,rfl,Nat.le_refl _,Nat.zero_le _,rfl⟩) (dD (A:=[])) ot iq iq (fun E I S7 pR=>?_);exact GG
theorem Pw(a:List Vl)(ha:a.length≤1000000):VP Tryz.prog G 31 [av 3 cV a] (av 3 cV a):=(Pv a ha).cover fun r S ⟨ad,cap,h,ho⟩=>by subst h;exact lE ho (cn fq _) (fun B h=>h)
theorem Zs:(Tryz.prog.info? 69).map (fun i=>(i.zero,i.size,i.bytes))=some (some (.agg #[.string ⟨#[]⟩,.int .i64 0]),2,24):=by kernel_rfl
theorem aaS(a:List cA)(ha:a.length≤1000000):VC Tryz.prog G 81 [av 2 cC a] [] (fun r S=>∃ad cap,r=aR ad a.length cap∧bz 69 2 (a.flatMap cC) a.length ad cap S):=by
 refine VC.body func81 rfl ntmps81 aS fun X0 w0 aZ=>?_;have da:=dW;refine af [0] ?_;refine aD 1 ?_;refine OD.yX ap rfl rfl ot bL underlying27 (fun O xE=>?_);refine an 8 [0,4] ?_;refine au ?_ ?_<;>intro aN bC
 ·exact GD
 refine bY ?_;refine OD.yY ap rfl rfl runUnderlying27 sizeOf69 (fun b5=>?_);refine aE 1 ?_;refine OD.ph (ls:=([]:List cA)) (new:=a) (Sq:=[⟨b5,69,0*2,[]⟩]) lF afd ap rfl rfl underlying27 Zs rfl w7 runUnderlying27 sizeOf69 ot (.inr ⟨b5,rfl,Nat.le_refl _,Nat.zero_le _,rfl⟩) (dD (A:=[])) ot iq iq (fun E I S7 pR=>?_);exact GG
theorem Px(a:List cA)(ha:a.length≤1000000):VP Tryz.prog G 81 [av 2 cC a] (av 2 cC a):=(aaS a ha).cover fun r S ⟨ad,cap,h,ho⟩=>by subst h;exact lE ho (cn lF _) (fun B h=>h)
theorem aaT(a:List Int)(ha:a.length≤1000000):VP Tryz.prog G 120 [av 1 Tw.cI a] (av 1 Tw.cI a):=(Tw.nU a ha).cover fun r S ⟨ad,cap,h,ho⟩=>by subst h;exact lE ho (cn Tw.eI _) (fun B h=>h)

structure cl where
 r:List Vl
 ad:Option Addr
 cap:Nat
 S:List ah
def gR(o:cl):List D:=[aR o.ad o.r.length o.cap]
theorem uV(o:cl):(gR o).length=1:=rfl
theorem TW(o:cl):(gR o).all V.one=true:=rfl
def bR(o:cl):List ah:=o.S
def nQ(o:cl):Prop:=bz 41 3 (o.r.flatMap cV) o.r.length o.ad o.cap o.S
theorem E0{S:List ah}:∀{L:List cl},(∀o∈L,nQ o)→(∀B∈L.flatMap bR,B∈S)→gF S (L.flatMap gR) ((L.map cl.r).flatMap gq)
 | [],_,_=>trivial
 | o::L,h,hs=>by
  rw[map_cons,flatMap_cons,flatMap_cons];refine gF.append ⟨lE (h o mem_cons_self) (cn fq _) (fun B E=>hs B ?_),trivial⟩ (E0 (fun o ho=>h o (mem_cons_of_mem _ ho)) fun B E=>hs B ?_)
  ·rw[flatMap_cons];exact mem_append_left _ E
  rw[flatMap_cons];exact mem_append_right _ E
abbrev sG(L:List cl)(ad:Option Addr)(cap:Nat)(S:List ah):Prop:=bz 28 1 (L.flatMap gR) L.length ad cap S
structure aK where
 t:aL
 cs:List D
 ad:Option Addr
 cap:Nat
 sr:List ah
 sx:List ah
variable {o:aK}
def gT(o:aK):List D:=[bn o.t.nm,av 2 cC o.t.az,aR o.ad o.t.rows.length o.cap,av 5 cP o.t.ix.ag,ae o.t.ix.root]
theorem nZ(o:aK):(gT o).length=5:=rfl
theorem JU(o:aK):(gT o).all V.one=true:=rfl
def bT(o:aK):List ah:=o.sr++o.sx
structure okW (o:aK):Prop where
 own:bz 28 1 o.cs o.t.rows.length o.ad o.cap o.sr
 ag2:∀S:List ah,(∀B∈o.sx,B∈S)→gF S o.cs (o.t.rows.flatMap gq)
def o9(o:aK):Prop:=∃L:List cl,o.cs=L.flatMap gR∧o.sx=L.flatMap bR∧(∀x∈L,nQ x)∧L.map cl.r=o.t.rows∧sG L o.ad o.cap o.sr
theorem o9.w(h:o9 o):okW o:=by
 obtain⟨L,h1,h2,h3,h4,h5⟩:=h;refine⟨?_,fun S hS=>?_⟩
 ·rw[h1,←h4,length_map];exact h5
 rw[h1,←h4];exact E0 h3 (by rw[←h2];exact hS)
theorem Py(h:okW o)(hs:∀B∈bT o,B∈S):View S (aR o.ad o.t.rows.length o.cap) (av 1 gq o.t.rows) :=
 AG h.own (h.ag2 S fun B E=>hs B (mem_append_right _ E)) (cn kj _) (fun B E=>hs B (mem_append_left _ E))
theorem SM(h:okW o)(hs:∀B∈bT o,B∈S):View S (.agg (gT o)) (.agg (dg o.t)):=uI ⟨eU,eU,Py h hs,eU,eU,trivial⟩
theorem SN{S:List ah}:∀{L:List aK},(∀o∈L,okW o)→(∀B∈L.flatMap bT,B∈S)→gF S (L.flatMap gT) ((L.map aK.t).flatMap dg)
 | [],_,_=>trivial
 | o::L,h,hs=>by
  rw[map_cons,flatMap_cons,flatMap_cons];refine gF.append ⟨eU,eU,Py (h o mem_cons_self) (fun B E=>hs B ?_),eU,eU,trivial⟩ (SN (fun o ho=>h o (mem_cons_of_mem _ ho)) fun B E=>hs B ?_)
  ·rw[flatMap_cons];exact mem_append_left _ E
  rw[flatMap_cons];exact mem_append_right _ E
abbrev vm(L:List aK)(ad:Option Addr)(cap:Nat)(S:List ah):Prop:=bz 53 5 (L.flatMap gT) L.length ad cap S
theorem Bj{Sx:List ah}{L:List aK}{ad:Option Addr}{cap:Nat}(ho:vm L ad cap Sx)(h:∀o∈L,okW o)(hs:∀B∈Sx++L.flatMap bT,B∈S):View S (aR ad L.length cap) (.list 5 ((L.map aK.t).flatMap dg) L.length) :=
 AG ho (SN h fun B E=>hs B (mem_append_right _ E)) (by rw[cn jX,length_map]) (fun B E=>hs B (mem_append_left _ E))
def ag3(t:aL)(r:D)(S:List ah):Prop:=∃o:aK,o.t=t∧r = .agg (gT o)∧o9 o∧S=bT o
def Kr(l:List aL)(r:D)(S:List ah):Prop:=∃(L:List aK) (ad:Option Addr) (cap:Nat) (Sx:List ah),r = .agg [aR ad L.length cap]∧vm L ad cap Sx∧(∀o∈L,o9 o)∧L.map aK.t=l∧S=Sx++L.flatMap bT
theorem Kr.view{l:List aL}{r:D}(h:Kr l r S):View S r (.agg [av 5 dg l]):=by
 obtain⟨L,ad,cap,Sx,rfl,ho,aT,rfl,rfl⟩:=h;first|rw[length_map]|(show View _ _ (.list _ _ (length _));rw[length_map])|(show View _ _ (.agg [.list _ _ (length _)]);rw[length_map])
 exact uI ⟨Bj ho (fun o h=>(aT o h).w) (fun B h=>h),trivial⟩
theorem SO(L:List cl)(o:cl):(L++[o]).flatMap bR=L.flatMap bR++bR o:=by simp
theorem SP(L:List aK)(o:aK):(L++[o]).flatMap bT=L.flatMap bT++bT o:=by simp
theorem Zt:(Tryz.prog.info? 88).map (fun i=>(i.zero,i.size,i.bytes))=some (some (.slice none 0 0),1,24):=by kernel_rfl
theorem YU:(Tryz.prog.info? 153).map (fun i=>(i.zero,i.size,i.bytes))=some (some (.agg #[.bool false,.slice none 0 0,.slice none 0 0,.slice none 0 0,.int .i64 0]),5,88):=by kernel_rfl
theorem Zu(t:aF)(h:Nat)(v:Valid t h):VC Tryz.prog G 82 [.agg (cT t)] [] (fun r S=>∃ad cap,r = .agg [aR ad t.ag.length cap,ae t.root]∧bz 153 5 (t.ag.flatMap cP) t.ag.length ad cap S):=by
 refine VC.body func82 rfl ntmps82 aS fun X0 w0 aZ=>?_;unfold Tw.cT;have da:=dW;have Nn:=v.nJ;refine bY ?_;refine OD.box (ds:=[_,_]) ap rfl rfl ot rfl rfl (fun b1=>?_);refine OD.alloc (ds:=[_,_]) ap rfl rfl zeroValue51 rfl (fun b2=>?_);refine an 53 [1,2] ?_;refine aD 3 ?_;refine OD.alloc (ds:=[_,_]) ap rfl rfl zeroValue51 rfl (fun b3=>?_);refine aP 0 [_,_] sizeOf51 ?_;refine an 53 [1,2,3] ?_;refine bY ?_;refine bg [2,3,13,14,15] ?_;refine eK [2,3,13,14] (fun aW _ (E:Nat×List cX×Option Addr×Nat×List ah) aI=>match E with|(i,L,dQ,dc,Sx)=>(i≤t.ag.length)∧(L=t.ag.take i)∧(bz 153 5 ((L).flatMap cP) (L).length dQ dc Sx)∧aI=(⟨53,(15,ae (i:Nat))::aW,(⟨b3,51,2,[aR dQ (L).length dc,ae t.root]⟩::⟨b2,51,2,[bS,ae 0]⟩::Sx)⟩:St)) (fun (E:Nat×List cX×Option Addr×Nat×List ah)=>match E with|(i,L,dQ,dc,Sx)=>t.ag.length-i) (0,([]:List cX),none,0,[]) ⟨(Nat.zero_le _),rfl,(bz.cast iI kV),rfl⟩ ?_;rintro⟨i,L,dQ,dc,Sx⟩ _ ⟨hi,hL,ec,rfl⟩;refine af [2,3,13,14,15,16] ?_;refine au ?_ ?_<;>intro aN bC
 ·have aa:i<t.ag.length:=(by omega)
  have rH:L.length=i:=(by rw[hL,length_take];omega)
  have po:=v.fF _ (getElem_mem aa);have mI:=po.eD;have XI:=po.hlen;have FE:(t.ag[i]'aa).kids.length≤6:=by
      exact WK
  refine aD 2 ?_;refine OD.alloc (ds:=[_,_,_,_,_]) ap rfl rfl zeroValue153 rfl (fun b5=>?_);refine aP 0 [_,_,_,_,_] sizeOf153 ?_;refine an 53 [2,3,5,13,14,15] ?_;refine CD.seq ?_;refine ug 12 11 [2,3,5,6,13,14,15,29] ?_;refine de (aaT (t.ag[i]'aa).kids w4) ?_;refine de (jW (t.ag[i]'aa).high w4) ?_;refine mS 3 ?_;refine rC ?_;refine jJ ?_;refine⟨rfl,fun b6=>?_⟩;refine aP 0 [_,_,_,_,_] sizeOf153 ?_;refine an 53 [2,3,5,6,13,14,15] ?_;refine bY ?_;refine bg [2,3,6,13,14,15,31,32,33] ?_
  refine eK [2,3,6,13,14,15,31,32] (fun aW _ (E:Nat×List K×Option Addr×Nat×List ah×Option Addr×Nat×List ah) aI=>match E with|(j,M,iD,iE,Sy,dQ,dc,Sx)=>(j≤(t.ag[i]'aa).keys.length)∧(M=(t.ag[i]'aa).keys.take j)∧(bz 88 1 ((M).flatMap Tw.cK) (M).length iD iE Sy)∧(bz 153 5 ((L).flatMap cP) (L).length dQ dc Sx)∧aI=(⟨53,(33,ae (j:Nat))::aW,(⟨b6,153,5,[cg (t.ag[i]'aa).leaf,aR iD (M).length iE,.list 1 ((t.ag[i]'aa).kids.flatMap Tw.cI) (t.ag[i]'aa).kids.length,.list 1 ((t.ag[i]'aa).high.flatMap cB) (t.ag[i]'aa).high.length,ae (t.ag[i]'aa).next]⟩::⟨b3,51,2,[aR dQ L.length dc,ae t.root]⟩::⟨b2,51,2,[bS,ae 0]⟩::(Sy++Sx))⟩:St)) (fun (E:Nat×List K×Option Addr×Nat×List ah×Option Addr×Nat×List ah)=>match E with|(j,M,iD,iE,Sy,dQ,dc,Sx)=>(t.ag[i]'aa).keys.length-j) (0,([]:List K),none,0,[],dQ,dc,Sx) ⟨(Nat.zero_le _),rfl,(bz.cast iI kV),(bz.cast ec kV),rfl⟩ ?_;rintro⟨j,M,iD,iE,Sy,dQ,dc,Sx⟩ _ ⟨hj,hM,DG,ec,rfl⟩;refine af [2,3,6,13,14,15,31,32,33,34] ?_;refine au ?_ ?_<;>intro aY cz
  ·have lT:j<(t.ag[i]'aa).keys.length:=(by omega)
   have Li:=(po.lq _ (getElem_mem lT)).2;have xu:M.length=j:=(by rw[hM,length_take];omega)
   refine af [2,3,6,8,13,14,15,31,32,33] ?_;refine fO 6 (aq (take 3 _)) ?_ (fun _ h=>(Sublist.map _ (take_sublist _ _)).subset h);refine ay 0 rfl (dj 1) ?_;refine ay 1 rfl (dJ 0) ?_;refine ay 2 rfl bf ?_;refine di.later rfl ?_;refine AD.one (i:=3) aA ?_;refine jG call95 (jW (t.ag[i]'aa).keys[j] w4) ?_;refine AD.one (i:=4) aA ?_;refine jt (cf 0 [_]) [.slice none 0 0] [_] zeroValue88 runUnderlying151 sizeOf88 (fun vE=>?_);refine ju 0 41 1 1 ?_;refine AD.one (i:=5) aA ?_;refine bj.ew (ls:=(M)) (new:=[(t.ag[i]'aa).keys[j]]) (Sq:=Sy) Tw.gm Tw.pA rfl ap rfl rfl underlying151 Zt rfl w7 ot DG (oH (A:=[_,_,_])) ot bu vy iq (fun U I ajC ajD=>?_);refine AD.perm (jj (S1:=[⟨U,88,I*1,flatMap Tw.cK ((M)++[(t.ag[i]'aa).keys[j]])⟩]) (A:=[_,_,_])) ?_;refine eJ ?_;refine aE 1 ?_;refine aP 0 [_,_,_,_,_] sizeOf151 ?_;refine an 53 [2,3,6,13,14,15,31,32,33] ?_;refine sX ?_;refine bg [2,3,6,13,14,15,31,32,33] ?_;refine⟨((j+1),(M++[(t.ag[i]'aa).keys[j]]),(some ⟨U,0,none⟩),I,[⟨U,88,I*1,flatMap Tw.cK ((M)++[(t.ag[i]'aa).keys[j]])⟩],dQ,dc,Sx),_,cD,aQ,w4,(by rw[hM];exact pc lT),(bz.cast (bF ajC ajD) kV),(bz.cast ec kV),rfl⟩
  refine CD.exit ?_;have hMk:M=(t.ag[i]'aa).keys:=(by rw[hM,take_of_length_le w4])
  subst hMk;refine CD.Ir (i:=1) (j:=0) (Sq:=Sy) (S':=⟨b6,153,5,[cg (t.ag[i]'aa).leaf,.list 1 ((t.ag[i]'aa).keys.flatMap Tw.cK) (t.ag[i]'aa).keys.length,.list 1 ((t.ag[i]'aa).kids.flatMap Tw.cI) (t.ag[i]'aa).kids.length,.list 1 ((t.ag[i]'aa).high.flatMap cB) (t.ag[i]'aa).high.length,ae (t.ag[i]'aa).next]⟩::⟨b3,51,2,[aR dQ L.length dc,ae t.root]⟩::⟨b2,51,2,[bS,ae 0]⟩::Sx) DG (cn Tw.gm _) (oH (A:=[_,_,_])) rfl rfl rfl rfl ?_;refine dN 3 ?_;refine ez (cf 0 [_]) [.bool false,.slice none 0 0,.slice none 0 0,.slice none 0 0,.int .i64 0] [_,_,_,_,_] zeroValue153 runUnderlying49 sizeOf153 (fun ND=>?_);refine fP 0 48 5 1 ?_;refine OD.ew (ls:=(L)) (new:=[(t.ag[i]'aa)]) (Sq:=Sx) Fh afq ap rfl rfl underlying49 YU rfl w7 ot ec (dD (A:=[_,_,_])) ot bu nq nr (fun Z O ajE ajF=>?_);refine OD.perm (ee (S1:=[⟨Z,153,O*5,flatMap cP ((L)++[(t.ag[i]'aa)])⟩]) (A:=[_,_,_])) ?_;refine aE 1 ?_;refine aP 1 [_,_] sizeOf49 ?_;refine an 53 [2,3,13,14,15] ?_;refine cm [2,3,13,14,15] ?_;refine⟨((i+1),(L++[(t.ag[i]'aa)]),(some ⟨Z,0,none⟩),O,[⟨Z,153,O*5,flatMap cP ((L)++[(t.ag[i]'aa)])⟩]),_,cD,aQ,w4,(by rw[hL];exact pc aa),(bz.cast (bF ajE ajF) kV),rfl⟩
 refine aD 1 ?_;refine aP 1 [_,_] sizeOf51 ?_;refine an 53 [2] ?_;refine aJ Sx ?_;have hLe:L=t.ag:=(by rw[hL,take_of_length_le w4])
 subst hLe;exact⟨dQ,dc,rfl,ec⟩
theorem Zv(t:aF)(h:Nat)(v:Valid t h):VP Tryz.prog G 82 [.agg (cT t)] (.agg (cT t)):=(Zu t h v).cover fun r S ⟨ad,cap,h,ho⟩=>by subst h;exact uI ⟨lE ho (cn Fh _) (fun B h=>h),eU,trivial⟩
structure yT (t:aL):Prop where
 az:t.az.length≤1000
 rows:t.rows.length≤1000
 row:∀r∈t.rows,r.length≤1000
 ix:∃h,Valid t.ix h
theorem Zw:(Tryz.prog.info? 28).map (fun i=>(i.zero,i.size,i.bytes))=some (some (.slice none 0 0),1,24):=by kernel_rfl
theorem Fi(t:aL)(hs:yT t):VC Tryz.prog G 40 [.agg (dg t)] [] (ag3 t):=by
 refine VC.body func40 rfl ntmps40 aS fun X0 w0 aZ=>?_;unfold dg;have da:=dW;have hc:=hs.az;have hn:=hs.rows;obtain⟨h,v⟩:=hs.ix;have U:=Zv (G:=G) t.ix h v;unfold Tw.cT at U;refine bY ?_;refine OD.box (ds:=[_,_,_,_,_]) ap rfl rfl ot rfl rfl (fun b1=>?_);refine OD.alloc (ds:=[_,_,_,_,_]) ap rfl rfl zeroValue53 rfl (fun b2=>?_);refine an 31 [1,2] ?_;refine CD.seq ?_;refine ug 10 9 [1,2,3,14] ?_;refine de (Px t.az w4) ?_;refine de (U) ?_;refine mS 1 ?_;refine rC ?_;refine jJ ?_;refine⟨rfl,fun b3=>?_⟩;refine aP 0 [_,_,_,_,_] sizeOf53 ?_;refine an 31 [1,2,3] ?_;refine af [2,3,16,17,18] ?_;refine eK [2,3,16,17] (fun aW _ (I:Nat×List cl×Option Addr×Nat×List ah) aI=>match I with|(i,L,dQ,dc,Sx)=>(i≤t.rows.length)∧(L.map cl.r=t.rows.take i)∧(∀o∈L,nQ o)∧(sG L dQ dc Sx)∧aI=(⟨31,(18,ae (i:Nat))::aW,(⟨b3,53,5,[bn t.nm,av 2 cC t.az,aR dQ L.length dc,av 5 cP t.ix.ag,ae t.ix.root]⟩::⟨b2,53,5,[fL,bS,bS,bS,ae 0]⟩::(Sx++L.flatMap bR))⟩:St)) (fun (I:Nat×List cl×Option Addr×Nat×List ah)=>match I with|(i,L,dQ,dc,Sx)=>t.rows.length-i) (0,([]:List cl),none,0,[]) ⟨(Nat.zero_le _),rfl,(fun o h=>by cases h),iI,rfl⟩ ?_;rintro⟨i,L,dQ,dc,Sx⟩ _ ⟨hi,hL,aT,ec,rfl⟩;refine af [2,3,16,17,18,19] ?_;refine au ?_ ?_<;>intro aN bC
 ·have aa:i<t.rows.length:=(by omega)
  have rH:L.length=i:=(by have:=congrArg length hL;rw[length_map,length_take] at this;omega)
  have rG:=hs.row _ (getElem_mem aa);refine af [2,3,5,16,17,18] ?_;refine fO 6 (aq (take 2 _)) ?_ (fun _ h=>(Sublist.map _ (take_sublist _ _)).subset h);refine ay 0 rfl (dj 2) ?_;refine ay 1 rfl (dJ 0) ?_;refine ay 2 rfl bf ?_;refine di.later rfl ?_;refine AD.one (i:=3) aA ?_;refine bj.call rfl ap rfl rfl rfl call31 (Pv (t.rows[i]'aa) w4) ⟨ot,trivial⟩ (eT _) (fun b hb=>by simp[aq,St.put] at hb ⊢;first|(simp[hb];done)|(rcases hb with hb|hb<;>simp[hb])|(rcases hb with hb|hb|hb<;>simp[hb])) ?_;rintro _ Sz ⟨lP,lQ,rfl,xZ⟩;refine AD.perm (jj (A:=[_,_])) ?_;have vC:(L++[(⟨(t.rows[i]'aa),lP,lQ,Sz⟩:cl)]).map cl.r=t.rows.take (i+1):=(by rw[map_append,hL];exact pc aa)
  have jQ:∀o∈L++[(⟨(t.rows[i]'aa),lP,lQ,Sz⟩:cl)],nQ o:=fun o ho=>by rcases mem_append.1 ho with ho|ho;exact aT o ho;rw[mem_singleton] at ho;subst ho;exact xZ
  refine AD.one (i:=4) aA ?_;refine jt (cf 0 [_]) [.slice none 0 0] [_] zeroValue28 runUnderlying34 sizeOf28 (fun b26=>?_);refine ju 0 26 1 1 ?_;refine AD.one (i:=5) aA ?_;refine bj.ew (ls:=L) (new:=[(⟨(t.rows[i]'aa),lP,lQ,Sz⟩:cl)]) (Sq:=Sx) uV TW rfl ap rfl rfl underlying34 Zw rfl w7 ot ec (s8 (A:=[_,_])) ot bu nq nr (fun O E Z ajG=>?_);refine AD.perm (vY (S2:=[⟨O,28,E*1,flatMap gR (L++[(⟨(t.rows[i]'aa),lP,lQ,Sz⟩:cl)])⟩]) (A:=[_,_])) ?_;refine AD.perm (S':=⟨b3,53,5,[bn t.nm,av 2 cC t.az,aR dQ L.length dc,av 5 cP t.ix.ag,ae t.ix.root]⟩::⟨b2,53,5,[fL,bS,bS,bS,ae 0]⟩::([⟨O,28,E*1,flatMap gR (L++[(⟨(t.rows[i]'aa),lP,lQ,Sz⟩:cl)])⟩]++(L++[(⟨(t.rows[i]'aa),lP,lQ,Sz⟩:cl)]).flatMap bR)) (ie fun iN=>by rw[SO];simp only[bR,map_append,map_cons,map_nil,sum_append,sum_cons,sum_nil];omega) ?_;refine eJ ?_;refine aE 1 ?_;refine aP 0 [_,_,_,_,_] sizeOf34 ?_;refine an 31 [2,3,16,17,18] ?_;refine cm [2,3,16,17,18] ?_;refine⟨((i+1),(L++[(⟨(t.rows[i]'aa),lP,lQ,Sz⟩:cl)]),(some ⟨O,0,none⟩),E,[⟨O,28,E*1,flatMap gR (L++[(⟨(t.rows[i]'aa),lP,lQ,Sz⟩:cl)])⟩]),_,cD,aQ,w4,vC,jQ,(bF Z ajG),rfl⟩
 refine aD 1 ?_;refine aP 1 [_,_,_,_,_] sizeOf53 ?_;refine an 31 [2] ?_;refine aJ (Sx++L.flatMap bR) ?_;have o8:L.map cl.r=t.rows:=(by rw[hL,take_of_length_le w4])
 have hLn:t.rows.length=L.length:=(by rw[←o8,length_map])
 exact⟨⟨t,L.flatMap gR,dQ,dc,Sx,L.flatMap bR⟩,rfl,(by unfold gT;rw[hLn]),⟨L,rfl,rfl,aT,o8,ec⟩,rfl⟩
theorem Zx:(Tryz.prog.info? 53).map (fun i=>(i.zero,i.size,i.bytes))=some (some (.agg #[.string ⟨#[]⟩,.slice none 0 0,.slice none 0 0,.slice none 0 0,.int .i64 0]),5,96):=by kernel_rfl
theorem Pz(l:List aL)(hl:l.length≤1000)(H:∀t∈l,yT t):VC Tryz.prog G 26 [.agg [av 5 dg l]] [] (Kr l):=by
 refine VC.body func26 rfl ntmps26 aS fun X0 w0 aZ=>?_;have da:=dW;refine bY ?_;refine OD.box (ds:=[_]) ap rfl rfl ot rfl rfl (fun b1=>?_);refine OD.alloc (ds:=[_]) ap rfl rfl zeroValue25 rfl (fun b2=>?_);refine an 22 [1,2] ?_;refine bY ?_;refine OD.alloc (ds:=[_]) ap rfl rfl zeroValue25 rfl (fun b3=>?_);refine an 22 [1,2,3] ?_;refine af [2,3,7,8,9] ?_;refine eK [2,3,7,8] (fun aW _ (I:Nat×List aK×Option Addr×Nat×List ah) aI=>match I with|(i,L,dQ,dc,Sx)=>(i≤l.length)∧(L.map aK.t=l.take i)∧(∀o∈L,o9 o)∧(vm L dQ dc Sx)∧aI=(⟨22,(9,ae (i:Nat))::aW,(⟨b3,25,1,[aR dQ L.length dc]⟩::⟨b2,25,1,[bS]⟩::(Sx++L.flatMap bT))⟩:St)) (fun (I:Nat×List aK×Option Addr×Nat×List ah)=>match I with|(i,L,dQ,dc,Sx)=>l.length-i) (0,([]:List aK),none,0,[]) ⟨(Nat.zero_le _),rfl,(fun o h=>by cases h),iI,rfl⟩ ?_;rintro⟨i,L,dQ,dc,Sx⟩ _ ⟨hi,hL,aT,ec,rfl⟩;refine af [2,3,7,8,9,10] ?_;refine au ?_ ?_<;>intro aN bC
 ·have aa:i<l.length:=(by omega)
  have rH:L.length=i:=(by have:=congrArg length hL;rw[length_map,length_take] at this;omega)
  refine aD 2 ?_;refine OD.alloc (ds:=[_,_,_,_,_]) ap rfl rfl zeroValue53 rfl (fun b5=>?_);refine aP 0 [_,_,_,_,_] sizeOf53 ?_;refine an 22 [2,3,5,7,8,9] ?_;refine fO 6 (aq (take 3 _)) ?_ (fun _ h=>(Sublist.map _ (take_sublist _ _)).subset h);refine ay 0 rfl (dj 0) ?_;refine ay 1 rfl (dJ 1) ?_;refine ay 2 rfl (cR (mk:=Op.load 53) rfl ot (by first|exact qd (k:=0) (ds:=[_,_,_,_,_]) rfl rfl isAgg53 sizeOf53 rfl rfl|exact jY jX isAgg53 sizeOf53 w5|exact jY nZ isAgg53 sizeOf53 w5|exact dP (k:=0) jX rfl rfl rfl isAgg53 sizeOf53 w5|exact dP (k:=1) jX rfl rfl rfl isAgg53 sizeOf53 w5|exact dP (k:=2) jX rfl rfl rfl isAgg53 sizeOf53 w5|exact dP (k:=0) nZ rfl rfl rfl isAgg53 sizeOf53 w5|exact dP (k:=1) nZ rfl rfl rfl isAgg53 sizeOf53 w5|exact dP (k:=2) nZ rfl rfl rfl isAgg53 sizeOf53 w5|exact qj (ds:=[_,_,_,_,_]) isAgg53 sizeOf53 rfl rfl)) ?_;refine di.later rfl ?_;refine AD.one (i:=3) aA ?_;refine bj.call rfl ap rfl rfl rfl call40 (Fi (l[i]'aa) (H _ (getElem_mem aa))) ⟨ot,trivial⟩ (eT _) (fun b hb=>by simp[aq,St.put] at hb ⊢;first|(simp[hb];done)|(rcases hb with hb|hb<;>simp[hb])|(rcases hb with hb|hb|hb<;>simp[hb])) ?_;rintro _ _ ⟨o,G9,rfl,C6,rfl⟩;refine AD.perm (jj (A:=[_,_,_])) ?_;have vC:(L++[o]).map aK.t=l.take (i+1):=(by rw[map_append,hL,map_cons,map_nil,G9];exact pc aa)
  have jQ:∀x∈L++[o],o9 x:=fun x hx=>by rcases mem_append.1 hx with hx|hx;exact aT x hx;rw[mem_singleton] at hx;subst hx;exact C6
  refine AD.one (i:=4) aA ?_;refine jt (cf 0 [_]) [.string ⟨#[]⟩,.slice none 0 0,.slice none 0 0,.slice none 0 0,.int .i64 0] [_,_,_,_,_] zeroValue53 runUnderlying23 sizeOf53 (fun b17=>?_);refine ju 0 17 5 1 ?_;refine AD.one (i:=5) aA ?_;refine bj.ew (ls:=L) (new:=[o]) (Sq:=Sx) nZ JU rfl ap rfl rfl underlying23 Zx rfl w7 ot ec (s8 (A:=[_,_,_])) ot bu nq nr (fun O E U Z=>?_);refine AD.perm (vY (S2:=[⟨O,53,E*5,flatMap gT (L++[o])⟩]) (A:=[_,_,_])) ?_;have Xg:(bT o++(([⟨O,53,E*5,flatMap gT (L++[o])⟩]:List ah)++L.flatMap bT)).Perm (([⟨O,53,E*5,flatMap gT (L++[o])⟩]:List ah)++(L++[o]).flatMap bT):=(ie fun iN=>by rw[SP];simp only[map_append,map_cons,map_nil,sum_append,sum_cons,sum_nil];omega)
  refine AD.perm (Perm.cons _ (Perm.cons _ (Perm.cons _ Xg))) ?_;refine eJ ?_;refine aE 1 ?_;refine aP 1 [_] sizeOf23 ?_;refine an 22 [2,3,7,8,9] ?_;refine cm [2,3,7,8,9] ?_;refine⟨((i+1),(L++[o]),(some ⟨O,0,none⟩),E,[⟨O,53,E*5,flatMap gT (L++[o])⟩]),_,cD,aQ,w4,vC,jQ,(bF U Z),rfl⟩
 refine aD 1 ?_;refine aP 1 [_] sizeOf25 ?_;refine an 22 [2] ?_;refine aJ (Sx++L.flatMap bT) ?_;have o8:L.map aK.t=l:=(by rw[hL,take_of_length_le w4])
 exact⟨L,dQ,dc,Sx,rfl,ec,aT,o8,rfl⟩
theorem aaU(l:List aL)(hl:l.length≤1000)(H:∀t∈l,yT t):VP Tryz.prog G 26 [.agg [av 5 dg l]] (.agg [av 5 dg l]):=(Pz l hl H).cover fun r S hr=>hr.view

structure eW (t:aL) (n:Nat):Prop where
 nm:cU t.nm=0
 az:t.az=dM
 eD:t.rows.length≤40
 ix:iL t.ix n
 row:∀i (h:i<t.rows.length),t.rows[i]≠[]→Pc.en dM t.rows[i]=0∧(∀v∈t.rows[i],v.Ok)∧(c9 t.rows[i],(i:Int))∈eE t.ix
 iZ:∀x∈eE t.ix,0≤x.2∧∃h:x.2.toNat<t.rows.length,t.rows[x.2.toNat]≠[]∧x.1=c9 t.rows[x.2.toNat]
theorem pE{r:List Vl}(h:Pc.en dM r=0):r.length=4:=by
 unfold Pc.en at h;rw[if_neg BG] at h;split at h
 ·cases h
 rename_i h2;exact Decidable.not_not.1 h2
theorem eW.len(g:eW t n){r:List Vl}(hr:r∈t.rows):r=[]∨(r.length=4∧∀v∈r,v.Ok):=by
 obtain⟨i,hi,rfl⟩:=mem_iff_getElem.1 hr;rcases Classical.em (t.rows[i]=[]) with h|h
 ·exact .inl h
 exact .inr ⟨pE (g.row i hi h).1,(g.row i hi h).2.1⟩
theorem eW.small(g:eW t n):yT t :=
 ⟨by rw[g.az];decide,Nat.le_trans g.eD w7,fun r hr=>by rcases g.len hr with h|h;rw[h];exact Nat.zero_le _;omega,_,g.ix.val⟩
def rowAt(t:aL)(i:Int):List Vl:=t.rows.getD i.toNat []
theorem jk{i:Int}(h:i.toNat<t.rows.length):rowAt t i=t.rows[i.toNat]:=by unfold rowAt;rw[getD_eq_getElem?_getD,getElem?_eq_getElem h];rfl
def mJ(t:aL)(w:List aX):List Int→List (K×Int)→List Int×Int
 | acc,[]=>(acc,0)
 | acc,x::r=>if 0<w.length then (if (fw t.az (rowAt t x.2) w).2≠0 then ([],(fw t.az (rowAt t x.2) w).2) else if (fw t.az (rowAt t x.2) w).1.n≠1 then mJ t w acc r else mJ t w (acc++[x.2]) r) else mJ t w (acc++[x.2]) r
noncomputable def ax(t:aL)(w:List aX):List Int×Int:=if (iR t.az w).2≠0 then ([],(iR t.az w).2) else mJ t w [] (pD t.ix (iR t.az w).1.1 (iR t.az w).1.2)
def Ch(p:List Int×Int)(r:D)(S:List ah):Prop:=∃ad cap,r = .dF [aR ad p.1.length cap,ae p.2]∧bz 3 1 (p.1.flatMap Tw.cI) p.1.length ad cap S
theorem Ch.view{r:D}(h:Ch p r S):View S r (.dF [av 1 Tw.cI p.1,ae p.2]):=by
 obtain⟨ad,cap,rfl,ho⟩:=h;exact Ev ⟨lE ho (cn Tw.eI _) (fun B h=>h),eU,trivial⟩
theorem Ch.flat{r:D}(h:Ch p r S):kN r=true∧∀B∈S,∀d∈B.cs,kN d=true:=by
 obtain⟨ad,cap,rfl,ho⟩:=h;refine⟨rfl,fun B E d hd=>?_⟩;rcases ho with ⟨_,_,_,_,rfl⟩|⟨b,_,_,_,rfl⟩
 ·cases E
 rw[mem_singleton] at E;subst E;obtain⟨n,_,hn⟩:=mem_flatMap.1 hd;rw[Tw.cI,mem_singleton] at hn;subst hn;rfl
theorem EH{t:aF}{f u:K}:∀x∈pD t f u,x∈eE t:=fun x hx=>by
 unfold pD wL at hx;have h1:=(takeWhile_sublist _).subset hx;unfold nh at h1;exact(mem_filter.1 h1).1
theorem Q5{t:aF}(g:iL t n)(f u:K):(pD t f u).length≤16000:=by
 unfold pD wL;exact Nat.le_trans (takeWhile_sublist _).length_le (QW g.val f)
theorem SQ(l:List Vl):(ga l).1.length≤100:=by
 unfold ga;repeat' split
 all_goals first|exact Nat.zero_le _|(simp only;omega)
def Sm(b:k8):Prop:=b.1.length≤100∧b.2.length≤100
theorem SR{key:ByteArray}{ops:List aX}{no:Bool}{b:k8}(h:Sm b):Sm (nc key ops no b):=by
 have hk:(zw ops).length≤100:=SQ _;have hl:∀b,Sm b→Sm (om (zw ops) b):=fun b h=>by unfold om;split;exact⟨hk,h.2⟩;exact h
 have E:∀b,Sm b→Sm (rY (zw ops) b):=fun b h=>by unfold rY;split;exact⟨h.1,hk⟩;exact h
 unfold nc;split
 ·exact h
 split
 ·exact h
 unfold ve;cases(nB ops (ops.length-1)==6||(dR (lZ key) (ops.take 2)==0)!=no)<;>cases(nB ops (ops.length-1)==6||(dR (lZ key) (ops.take 2)==0)==no)<;>first|exact h|exact hl _ h|exact E _ h|exact E _ (hl _ h)
theorem JV{key:ByteArray}:∀(f:Nat) (ops:List aX) (b:k8),Sm b→Sm (gh key f ops b)
 | 0,_,_,h=>h
 | f+1,ops,b,h=>by
  unfold gh;split
  ·exact JV f _ _ (JV f _ _ h)
  split
  ·exact SR h
  exact SR h
theorem afE(l:List cA)(ops:List aX):Sm (iR l ops).1:=by
 have h0:Sm (([],[]):k8):=⟨Nat.zero_le _,Nat.zero_le _⟩
 unfold iR;repeat' split
 all_goals first|exact h0|exact JV _ _ _ h0
theorem PA:(Tryz.prog.info? 3).map (fun i=>(i.zero,i.size,i.bytes))=some (some (.int .i64 0),1,8):=by kernel_rfl
theorem JW(hm:(3,marksC)∈G)(hw:(1,wordsC)∈G)(ht:(0,typesC)∈G)(hG:(2,[Value.int .i64 m])∈G)(t:aL)(g:eW t n)(w:List aX)(ho:∀o∈w,o.nm.size≤maxLen)(fU:∀o∈w,o.v.Ok):VC Tryz.prog G 86 [.agg (dg t),av 5 cO w] [] (Ch (ax t w)):=by
 refine VC.body func86 rfl ntmps86 aS fun X0 w0 aZ=>?_;have Ar:=afE t.az w;have ou:=aal (G:=G) hm hw ht hG t.az xx xw w ho fU;unfold Nj at ou;have da:=dW;have As:=TV (G:=G) g.ix (iR t.az w).1.1 (iR t.az w).1.2 Ar.1 Ar.2;unfold Tw.cT at As;have mI:=Q5 g.ix (iR t.az w).1.1 (iR t.az w).1.2;generalize hL:(pD t.ix (iR t.az w).1.1 (iR t.az w).1.2)=L at *;unfold dg;have KV:∀x∈L,x∈eE t.ix:=fun x hx=>EH x (hL ▸ hx);refine bY ?_;refine OD.box (ds:=[_,_,_,_,_]) ap rfl rfl ot rfl rfl (fun b2=>?_);refine an 70 [1,2] ?_;refine cH [1,2,6,7,8] (ou) ?_;refine af [1,2,6,7,8,25] ?_;refine au ?_ ?_<;>intro aN bC
 ·have hne:(iR t.az w).2≠0:=(by simpa using aN)
  have aV:ax t w=([],(iR t.az w).2):=if_pos hne;refine af [4,5] ?_;refine aJ [] ?_;rw[aV];exact⟨none,0,rfl,iI⟩
 have hz:(iR t.az w).2=0:=(by simpa using aN)
 have ag4:ax t w=mJ t w [] (L.drop 0):=(by unfold ax;rw[if_neg (by simp[hz]),hL,drop_zero])
 refine cH [1,2,9] (As) ?_;refine bY ?_;refine bg [1,2,9,11] ?_;refine af [1,2,11,35,36,37] ?_;refine eK [1,2,35,36] (fun aW _ (O:Nat×List Int×Option Addr×Nat×List ah) aI=>match O with|(k,acc,dQ,dc,Sx)=>(k≤L.length)∧((acc).length≤k)∧(ax t w=mJ t w acc (L.drop k))∧(bz 3 1 ((acc).flatMap Tw.cI) (acc).length dQ dc Sx)∧aI=(⟨70,(11,aR dQ (acc).length dc)::(37,ae (k:Nat))::aW,(⟨b2,53,5,[bn t.nm,av 2 cC t.az,av 1 gq t.rows,av 5 cP t.ix.ag,ae t.ix.root]⟩::Sx)⟩:St)) (fun (O:Nat×List Int×Option Addr×Nat×List ah)=>match O with|(k,acc,dQ,dc,Sx)=>L.length-k) (0,([]:List Int),none,0,[]) ⟨(Nat.zero_le _),(Nat.zero_le _),ag4,(bz.cast iI kV),rfl⟩ ?_;rintro⟨k,acc,dQ,dc,Sx⟩ _ ⟨hk,ri,aV,ec,rfl⟩;refine af [1,2,11,35,36,37,38] ?_;refine au ?_ ?_<;>intro aY cz
 ·have aa:k<L.length:=(by omega)
  obtain⟨gD,U,nR,MA⟩:=g.iZ _ (KV _ (getElem_mem aa));have E:=jk (t:=t) U;have jv:L.drop k=(L[k]'aa)::L.drop (k+1):=drop_eq_getElem_cons aa;have hrw:=(g.row _ U nR).2.1;have hr4:=pE (g.row _ U nR).1;refine aD 2 ?_;refine OD.alloc (ds:=[_,_]) ap rfl rfl zeroValue90 rfl (fun mr=>?_);refine aP 0 [_,_] sizeOf90 ?_;refine an 70 [1,2,11,13,35,36,37] ?_;refine af [1,2,11,13,35,36,37,43] ?_;refine au ?_ ?_<;>intro bZ cM
  ·have Z:0<w.length:=(by omega)
   have xX:=Sk (G:=G) hm hw ht t.az xx xw (t.rows[(L[k]'aa).2.toNat]) w4 hrw w ho fU;rw[←E] at xX;unfold mU at xX;rw[E] at xX;refine CD.seq ?_;refine ug 14 13 [1,2,11,13,14,35,36,37,55,56] ?_;refine aU 6 ?_ (h:=by exact(dm 1 (h:=by first|exact .l (j:=(L[k]'aa).2.toNat) (Int.toNat_of_nonneg gD).symm U|exact .r (j:=(L[k]'aa).2.toNat) (Int.toNat_of_nonneg gD).symm U)));refine de (xX) ?_;refine mS 3 ?_;refine rC ?_;refine jJ ?_;refine⟨rfl,fun Ad=>?_⟩;refine aP 0 [_,_,_] sizeOf41 ?_;refine an 70 [1,2,11,13,14,15,35,36,37] ?_;refine af [1,2,11,13,14,15,35,36,37,58] ?_;refine au ?_ ?_<;>intro cW ek
   ·have hne:(fw t.az (rowAt t (L[k]'aa).2) w).2≠0:=(by rw[E];simpa using cW)
    have I:ax t w=([],(fw t.az (rowAt t (L[k]'aa).2) w).2):=(by rw[aV,jv,mJ,if_pos Z,if_pos hne])
    rw[E] at I;refine af [4,5] ?_;refine aJ [] ?_;rw[I];exact⟨none,0,rfl,iI⟩
   have hne:¬(fw t.az (rowAt t (L[k]'aa).2) w).2≠0:=(by rw[E];simpa using cW)
   refine af [1,2,11,13,35,36,37,62] ?_;refine au ?_ ?_<;>intro eA fA
   ·have gw:(fw t.az (rowAt t (L[k]'aa).2) w).1.n≠1:=(by rw[E];simpa using eA)
    have nO:ax t w=mJ t w acc (L.drop (k+1)):=(by rw[aV,jv,mJ,if_pos Z,if_neg hne,if_pos gw])
    refine cm [1,2,11,35,36,37] ?_;refine⟨((k+1),acc,dQ,dc,Sx),_,cD,aQ,w4,w4,nO,(bz.cast ec kV),rfl⟩
   have gw:¬(fw t.az (rowAt t (L[k]'aa).2) w).1.n≠1:=(by rw[E];simpa using eA)
   have nO:ax t w=mJ t w (acc++[(L[k]'aa).2]) (L.drop (k+1)):=(by rw[aV,jv,mJ,if_pos Z,if_neg hne,if_neg gw])
   refine dN 3 ?_;refine ez (cf 0 [_]) [.int .i64 0] [_] zeroValue3 runUnderlying67 sizeOf3 (fun oY=>?_);refine fP 0 66 1 1 ?_;refine OD.ew (ls:=(acc)) (new:=[(L[k]'aa).2]) (Sq:=Sx) Tw.eI Tw.nD ap rfl rfl underlying67 PA rfl w7 ot ec (dD (A:=[_,_,_])) ot bu nq nr (fun qy qZ FP FQ=>?_);refine OD.perm (ee (S1:=[⟨qy,3,qZ*1,flatMap Tw.cI ((acc)++[(L[k]'aa).2])⟩]) (A:=[_,_,_])) ?_;exact z70
  have Z:¬0<w.length:=(by omega)
  have nO:ax t w=mJ t w (acc++[(L[k]'aa).2]) (L.drop (k+1)):=(by rw[aV,jv,mJ,if_neg Z])
  refine dN 3 ?_;refine ez (cf 0 [_]) [.int .i64 0] [_] zeroValue3 runUnderlying67 sizeOf3 (fun oY=>?_);refine fP 0 66 1 1 ?_;refine OD.ew (ls:=(acc)) (new:=[(L[k]'aa).2]) (Sq:=Sx) Tw.eI Tw.nD ap rfl rfl underlying67 PA rfl w7 ot ec (dD (A:=[_,_])) ot bu nq nr (fun qy qZ FP FQ=>?_);refine OD.perm (ee (S1:=[⟨qy,3,qZ*1,flatMap Tw.cI ((acc)++[(L[k]'aa).2])⟩]) (A:=[_,_])) ?_;exact z70
 have I:ax t w=(acc,0):=(by rw[aV,drop_of_length_le w4];rfl)
 refine af [4,5] ?_;refine aJ Sx ?_;rw[I];exact⟨dQ,dc,rfl,ec⟩

end Go.Proofs.YtdgichenhdikgaaGreatDoor.Ba
namespace Go.Proofs.YtdgichenhdikgaaGreatDoor.So
open List
open Go.Proofs.Tryz
variable {α:Type} {R:α→α→Prop} {l L M X Y:List α} {x y:α} {k:Nat}
theorem HD(ht:∀{x y z:α},R x y→R y z→R x z)(hs:L.Pairwise R)(hk:k≤L.length)(h:k=0∨∃h:k-1<L.length,R (L[k-1]) x):∀z∈L.take k,R z x:=by
 intro z hz;obtain⟨i,hi,rfl⟩:=mem_iff_getElem.1 hz;rw[length_take] at hi;rw[getElem_take];rcases h with rfl|⟨h1,h2⟩
 ·omega
 rcases Nat.lt_or_ge i (k-1) with h3|h3
 ·exact ht (pairwise_iff_getElem.1 hs i (k-1) w4 h1 h3) h2
 have:i=k-1:=(by omega)
 subst this;exact h2
theorem Hu(ht:∀{x y z:α},R x y→R y z→R x z)(hs:L.Pairwise R)(h:k=L.length∨∃h:k<L.length,R x (L[k])):∀z∈L.drop k,R x z:=by
 intro z hz;obtain⟨i,hi,rfl⟩:=mem_iff_getElem.1 hz;rw[length_drop] at hi;rw[getElem_drop];rcases h with rfl|⟨h1,h2⟩
 ·omega
 rcases Nat.eq_zero_or_pos i with rfl|h3
 ·simpa using h2
 exact ht h2 (pairwise_iff_getElem.1 hs k (k+i) h1 w4 w4)
theorem acr(hs:(X++Y).Pairwise R)(h1:∀z∈X,R z x)(h2:∀z∈Y,R x z):(X++x::Y).Pairwise R:=by
 rw[pairwise_append] at hs ⊢;obtain⟨p1,p2,p3⟩:=hs;refine⟨p1,pairwise_cons.2 ⟨h2,p2⟩,fun a ha b hb=>?_⟩;rcases mem_cons.1 hb with rfl|hb
 ·exact h1 a ha
 exact p3 a ha b hb
theorem SS(ht:∀{x y z:α},R x y→R y z→R x z)(hs:L.Pairwise R)(hk:k≤L.length)(h1:k=0∨∃h:k-1<L.length,R (L[k-1]) x)(h2:k=L.length∨∃h:k<L.length,R x (L[k])):(L.take k++x::L.drop k).Pairwise R :=
 acr (by rw[take_append_drop];exact hs) (HD ht hs hk h1) (Hu ht hs h2)
theorem aaV (ht:∀{x y z:α},R x y→R y z→R x z) {A B:List α} {i j:Nat} (ha:A.Pairwise R) (hb:B.Pairwise R) (hi:i≤A.length) (hj:j≤B.length)
  (h1:i=0∨j=B.length∨∃(p:i-1<A.length) (q:j<B.length),R A[i-1] B[j]) (h2:j=0∨i=A.length∨∃(p:j-1<B.length) (q:i<A.length),R B[j-1] A[i]) :
  ∀a∈A.take i++B.take j,∀b∈A.drop i++B.drop j,R a b:=by
 have E:∀a∈A.take i,∀b∈A.drop i,R a b:=(by rw[←take_append_drop i A] at ha;exact(pairwise_append.1 ha).2.2)
 have I:∀a∈B.take j,∀b∈B.drop j,R a b:=(by rw[←take_append_drop j B] at hb;exact(pairwise_append.1 hb).2.2)
 intro a hm b hn;rcases mem_append.1 hm with hm|hm<;>rcases mem_append.1 hn with hn|hn
 ·exact E a hm b hn
 ·rcases h1 with rfl|rfl|⟨p,q,hr⟩
  ·simp at hm
  ·simp at hn
  exact HD (R:=R) ht ha hi (.inr ⟨p,by
   rcases Hu (R:=R) ht hb (k:=j) (x:=A[i-1]) (.inr ⟨q,hr⟩) b hn with h
   exact h⟩) a hm
 ·rcases h2 with rfl|rfl|⟨p,q,hr⟩
  ·simp at hm
  ·simp at hn
  exact HD (R:=R) ht hb hj (.inr ⟨p,Hu (R:=R) ht ha (k:=i) (x:=B[j-1]) (.inr ⟨q,hr⟩) b hn⟩) a hm
 exact I a hm b hn
theorem Ia{l1 l2:List α}:((l1++x::y::l2).set l1.length y).set (l1.length+1) x=l1++y::x::l2:=by
 rw[set_append_right _ _ (Nat.le_refl _),Nat.sub_self,set_cons_zero,set_append_right _ _ w4,show l1.length+1-l1.length=1 by omega,set_cons_succ,set_cons_zero]
def sw(l:List Int)(i j:Nat):List Int:=(l.set i (l.getD j 0)).set j (l.getD i 0)
theorem afF{l:List Int}{i j:Nat}:(sw l i j).length=l.length:=by unfold sw;simp
theorem mz{l:List Int}{i:Nat}(h:i<l.length):l.getD i 0=l[i]:=by simp[h]
def jT(l:List Int)(a b:Nat):Nat→List Int
 | 0=>l
 | k+1=>sw (jT l a b k) (a+k) (b+k)
theorem A8{l:List Int}{a b:Nat}:∀{k:Nat},(jT l a b k).length=l.length
 | 0=>rfl
 | k+1=>by rw[jT,afF,A8]
theorem SU{l:List Int}{a b:Nat}:∀{k:Nat},a+k≤b→b+k≤l.length→∀j,(jT l a b k)[j]?=if a≤j∧j<a+k then l[b+(j-a)]? else if b≤j∧j<b+k then l[a+(j-b)]? else l[j]?
 | 0,_,_,j=>by rw[if_neg w4,if_neg w4];try rfl
 | k+1,h1,h2,j=>by
  have E:=SU (l:=l) (a:=a) (b:=b) (k:=k) w4 w4;have e1:(jT l a b k).getD (b+k) 0=l.getD (b+k) 0:=(by rw[getD_eq_getElem?_getD,E,if_neg w4,if_neg w4,getD_eq_getElem?_getD])
  have e2:(jT l a b k).getD (a+k) 0=l.getD (a+k) 0:=(by rw[getD_eq_getElem?_getD,E,if_neg w4,if_neg w4,getD_eq_getElem?_getD])
  rw[jT,sw,e1,e2,getElem?_set,getElem?_set,length_set,A8,E];by_cases q1:b+k=j
  ·subst q1;rw[if_pos rfl,if_pos w4,if_neg w4,if_pos w4,mz w4,show a+(b+k-b)=a+k by omega,getElem?_eq_getElem w4]
  rw[if_neg q1];by_cases q2:a+k=j
  ·subst q2;rw[if_pos rfl,if_pos w4,if_pos w4,mz w4,show b+(a+k-a)=b+k by omega,getElem?_eq_getElem w4]
  rw[if_neg q2];simp only[show(a≤j∧j<a+(k+1))↔(a≤j∧j<a+k) by omega,show(b≤j∧j<b+(k+1))↔(b≤j∧j<b+k) by omega]
theorem Js{P U M W Q:List Int}(h:U.length=W.length):jT (P++(U++(M++(W++Q)))) P.length (P.length+U.length+M.length) U.length=P++(W++(M++(U++Q))):=by
 refine ext_getElem? fun j=>?_;rw[SU w4 (by simp only[length_append];omega)];simp only[getElem?_append];repeat' split
 all_goals first|omega|(congr 1<;>omega)
def rJ(T cur:List Int)(m i j:Nat):Prop:=∃P X Y Q,cur=P++(X++(Y++Q))∧X.length=i∧Y.length=j∧P.length+i=m∧T=P++(Y++(X++Q))
variable {T cur:List Int} {m i j:Nat}
theorem rJ.len(h:rJ T cur m i j):i≤m∧m+j≤cur.length∧T.length=cur.length:=by
 obtain⟨P,X,Y,Q,rfl,rfl,rfl,hm,rfl⟩:=h;simp only[length_append];omega
theorem afG(h:rJ T cur m i j)(E:j<i):rJ T (jT cur (m-i) m j) m (i-j) j:=by
 obtain⟨P,X,Y,Q,rfl,rfl,rfl,hm,rfl⟩:=h;have l1:(X.take Y.length).length=Y.length:=(by rw[length_take];omega)
 have l2:(X.drop Y.length).length=X.length-Y.length:=length_drop;have e:=Js (P:=P) (U:=X.take Y.length) (M:=X.drop Y.length) (W:=Y) (Q:=Q) l1;rw[l1,l2,←append_assoc (X.take _) (X.drop _),take_append_drop,show P.length+Y.length+(X.length-Y.length)=m by omega,show P.length=m-X.length by omega] at e;exact⟨P++Y,X.drop Y.length,X.take Y.length,Q,by rw[e];simp,l2,l1,by rw[length_append];omega,by rw[←append_assoc (X.take _) (X.drop _),take_append_drop];simp⟩
theorem afH(h:rJ T cur m i j)(E:i<j):rJ T (jT cur (m-i) (m+j-i) i) m i (j-i):=by
 obtain⟨P,X,Y,Q,rfl,rfl,rfl,hm,rfl⟩:=h;have l1:(Y.take (Y.length-X.length)).length=Y.length-X.length:=(by rw[length_take];omega)
 have l2:(Y.drop (Y.length-X.length)).length=X.length:=(by rw[length_drop];omega)
 have e:=Js (P:=P) (U:=X) (M:=Y.take (Y.length-X.length)) (W:=Y.drop (Y.length-X.length)) (Q:=Q) l2.symm;rw[l1,←append_assoc (Y.take _) (Y.drop _),take_append_drop,show P.length+X.length+(Y.length-X.length)=m+Y.length-X.length by omega,show P.length=m-X.length by omega] at e;exact⟨P,Y.drop (Y.length-X.length),Y.take (Y.length-X.length),X++Q,e,l2,l1,hm,by rw[←append_assoc (Y.take _) (Y.drop _),take_append_drop]⟩
theorem afI(h:rJ T cur m i i):jT cur (m-i) m i=T:=by
 obtain⟨P,X,Y,Q,rfl,rfl,hl,hm,rfl⟩:=h;have e:=Js (P:=P) (U:=X) (M:=[]) (W:=Y) (Q:=Q) hl.symm;rw[length_nil,Nat.add_zero,show P.length+X.length=m by omega,show P.length=m-X.length by omega] at e;simpa using e

end Go.Proofs.YtdgichenhdikgaaGreatDoor.So
namespace Go.Proofs.YtdgichenhdikgaaGreatDoor.So
open List
open Go.Proofs.Tryz
open Go.RowKit V Tw
variable {G:List (Nat×List Value)}
theorem Jt(l:List Int)(E la lb k cap I:Nat)(eB:D)(Sc:List ah)(gj:l.length=E)(h1:la+k≤lb)(h2:lb+k≤E)(h3:E≤cap)(h4:cap≤maxLen):VC Tryz.prog G 173 [aR (some ⟨I,0,none⟩) E cap,ae (la:Nat),ae (lb:Nat),ae (k:Nat),eB] (⟨I,3,cap*1,(l).flatMap cI⟩::Sc) (fun r S'=>r = .dF []∧S'=⟨I,3,cap*1,(jT l la lb k).flatMap cI⟩::Sc):=by
 refine VC.body func173 rfl ntmps173 aS fun X0 w0 aZ=>?_;have da:=dW;refine af [0,1,2,3,10] ?_;refine eK [0,1,2,3] (fun aW _ (i:Nat) aI=>(i≤k)∧aI=(⟨38,(10,ae (i:Nat))::aW,(⟨I,3,cap*1,(jT l la lb i).flatMap cI⟩::Sc)⟩:St)) (fun (i:Nat)=>k-i) 0 ⟨(Nat.zero_le _),rfl⟩ ?_;rintro i _ ⟨hi,rfl⟩;refine af [0,1,2,3,10,13] ?_;refine au ?_ ?_<;>intro aN bC
 ·have O:i<k:=(by omega)
  have hlen:(jT l la lb i).length=E:=(by rw[A8,gj])
  have ha:la+i<(jT l la lb i).length:=(by omega)
  have hb:lb+i<(jT l la lb i).length:=(by omega)
  refine CD.skip ?_;refine CD.seq ?_;refine CD.block ?_;refine fO 22 (aq (eraseIdx _ 0)) ?_ (fun _ h=>(Sublist.map _ (eraseIdx_sublist _ 0)).subset h);refine ay 0 rfl bf ?_;refine ay 1 rfl bf ?_;refine ay 2 rfl bf ?_;refine ay 3 rfl mP ?_;refine ay 4 rfl bf ?_;refine ay 5 rfl bf ?_;refine ay 6 rfl bf ?_;refine ay 7 rfl mP ?_;refine ay 8 rfl bf ?_;refine ay 9 rfl bf ?_;refine ay 10 rfl bf ?_;refine ay 11 rfl mP ?_;refine ay 12 rfl (dm 1) ?_;refine ay 14 rfl bf ?_;refine ay 15 rfl bf ?_;refine ay 16 rfl bf ?_;refine ay 17 rfl mP ?_;refine ay 18 rfl (dm 1) ?_;refine di.later rfl ?_;refine AD.two (i:=13) (j:=19) aA ?_ ?_
  ·refine at_ rfl eY ?_;refine AD.one (i:=19) aA ?_;exact Wi
  refine at_ rfl eY ?_;refine AD.one (i:=13) aA ?_;exact Wi
 obtain rfl:i=k:=(by omega)
 refine aJ _ ?_;exact⟨by first|rfl|(simp[*];done),rfl⟩

theorem afJ(l Tt:List Int)(Z a m b cap bd:Nat)(eB:D)(Sc:List ah)(h:rJ Tt l m (m-a) (b-m))(h1:a<m)(h2:m<b)(gj:l.length=Z)(E:Z≤cap)(I:cap≤maxLen):VC Tryz.prog G 163 [aR (some ⟨bd,0,none⟩) Z cap,ae (a:Nat),ae (m:Nat),ae (b:Nat),eB] (⟨bd,3,cap*1,(l).flatMap cI⟩::Sc) (fun r S'=>r = .dF []∧S'=⟨bd,3,cap*1,(Tt).flatMap cI⟩::Sc):=by
 refine VC.body func163 rfl ntmps163 aS fun X0 w0 aZ=>?_;have da:=dW;have hlen:=h.len;refine cQ [0,2,3,4,10] ?_;refine aU 2 ?_ (h:=by exact(c8 rfl ot ot (gk (r:=((m-a:Nat):Int)) qu)));refine bG ?_;refine cQ [0,2,4,10,11] ?_;refine aU 2 ?_ (h:=by exact(c8 rfl ot ot (gk (r:=((b-m:Nat):Int)) qu)));refine bG ?_;refine eK [0,2,4] (fun aW _ (O:Nat×Nat×List Int) aI=>match O with|(i,j,cur)=>(rJ Tt cur m i j)∧(0<i)∧(0<j)∧((cur).length=Z)∧aI=(⟨58,(10,ae (i:Nat))::(11,ae (j:Nat))::aW,(⟨bd,3,cap*1,(cur).flatMap cI⟩::Sc)⟩:St)) (fun (O:Nat×Nat×List Int)=>match O with|(i,j,cur)=>i+j) ((m-a),(b-m),l) ⟨h,w4,w4,gj,rfl⟩ ?_;rintro⟨i,j,cur⟩ _ ⟨hr,hi,hj,U,rfl⟩;refine af [0,2,4,10,11,20] ?_;refine au ?_ ?_<;>intro aN bC
 ·have rG:=hr.len;have hne:i≠j:=(by omega)
  refine af [0,2,4,10,11,23] ?_;refine au ?_ ?_<;>intro aY cz
  ·have hgt:j<i:=(by omega)
   refine aD 3 ?_;refine bH (c8 rfl ot ot (gk (r:=((m-i:Nat):Int)) qu)) ?_;refine aE 3 ?_;refine OD.call (R:=Sc) ap rfl rfl rfl call173 (Jt cur Z (m-i) m j cap bd eB [] U w4 w4 E I) ⟨ot,ot,ot,ot,ot,trivial⟩ (Perm.refl _) ?_;rintro _ _ ⟨rfl,rfl⟩;refine an 58 [0,2,4,10,11] ?_;refine iF [0,2,4,10,11] ?_;refine aU 2 ?_ (h:=by exact(c8 rfl ot ot (gk (r:=((i-j:Nat):Int)) qu)));refine bG ?_;refine⟨((i-j),j,(jT cur (m-i) m j)),_,cD,aQ,(afG hr hgt),w4,hj,(by rw[A8];exact U),rfl⟩
  have aa:i<j:=(by omega)
  refine aD 3 ?_;refine bH (c8 rfl ot ot (gk (r:=((m-i:Nat):Int)) qu)) ?_;refine aE 4 ?_;refine bH (c8 rfl ot ot (gk (r:=((m+j-i:Nat):Int)) (by rw[show((m:Int)+j-i)=((m+j-i:Nat):Int) by omega];exact wrap_i64 w4 w4))) ?_;refine aE 2 ?_;refine OD.call (R:=Sc) ap rfl rfl rfl call173 (Jt cur Z (m-i) (m+j-i) i cap bd eB [] U w4 w4 E I) ⟨ot,ot,ot,ot,ot,trivial⟩ (Perm.refl _) ?_;rintro _ _ ⟨rfl,rfl⟩;refine an 58 [0,2,4,10,11] ?_;refine iF [0,2,4,10,11] ?_;refine aU 2 ?_ (h:=by exact(c8 rfl ot ot (gk (r:=((j-i:Nat):Int)) qu)));refine bG ?_;refine⟨(i,(j-i),(jT cur (m-i) (m+j-i) i)),_,cD,aQ,(afH hr aa),hi,w4,(by rw[A8];exact U),rfl⟩
 have rG:=hr.len;obtain rfl:i=j:=(by omega)
 have he:=afI hr;refine dN 3 ?_;refine bH (c8 rfl ot ot (gk (r:=((m-i:Nat):Int)) qu)) ?_;refine aE 3 ?_;refine OD.call (R:=Sc) ap rfl rfl rfl call173 (Jt cur Z (m-i) m i cap bd eB [] U w4 w4 E I) ⟨ot,ot,ot,ot,ot,trivial⟩ (Perm.refl _) ?_;rintro _ _ ⟨rfl,rfl⟩;refine an 58 [] ?_;refine aJ _ ?_;exact⟨rfl,by rw[he];rfl⟩

end Go.Proofs.YtdgichenhdikgaaGreatDoor.So
namespace Go.Proofs.YtdgichenhdikgaaGreatDoor.So
open List
open Go.Proofs.Tryz
variable {x y:Int} {Z S:List Int} {cF:Int→Int→Int}
def oC(R:Int→Int→Prop)(l0 l:List Int)(a i:Nat):Prop :=
 ∃(P A B A0:List Int),l=P++(A++B)∧P.length=a∧a+A.length=i∧A.Pairwise R∧A.Perm A0∧l0=P++(A0++B)
def sH(R:Int→Int→Prop)(l0 l:List Int)(a i j:Nat):Prop :=
 ∃(P A:List Int) (x:Int) (B A0:List Int) (k:Nat),l=P++(A.take k++x::(A.drop k++B))∧P.length=a∧k≤A.length∧a+k=j∧a+A.length=i∧A.Pairwise R∧(k=A.length∨∃h:k<A.length,R x A[k])∧A.Perm A0∧l0=P++(A0++x::B)
variable {R Lt:Int→Int→Prop} {l0 l:List Int} {a i j:Nat}
theorem sH.len(h:sH R l0 l a i j):a≤j∧j≤i∧i<l.length∧l.length=l0.length:=by
 obtain⟨P,A,x,B,E,k,rfl,rfl,hk,rfl,rfl,hs,hx,hp,rfl⟩:=h;have:=hp.length_eq;simp only[length_append,length_cons,length_take,length_drop];omega
theorem ID(h:a≤l.length):oC R l l a a :=
 ⟨l.take a,[],l.drop a,[],by simp,by rw[length_take];omega,by simp,Pairwise.nil,.refl _,by simp⟩
theorem aea(h:a<l.length):oC R l l a (a+1) :=
 ⟨l.take a,[l[a]],l.drop (a+1),[l[a]],by simp,by rw[length_take];omega,by simp,pairwise_singleton _ _,.refl _,by simp⟩
theorem aaW(h:oC R l0 l a i)(hi:i<l.length):sH R l0 l a i i:=by
 obtain⟨P,A,B,E,rfl,rfl,rfl,hs,hp,rfl⟩:=h;cases B with
 | nil=>simp at hi
 | cons x B=>exact⟨P,A,x,B,E,A.length,by simp,rfl,Nat.le_refl _,rfl,rfl,hs,.inl rfl,hp,rfl⟩
theorem E1{P A B:List Int}{k:Nat}(hk:k<A.length):P++(A.take (k+1)++x::(A.drop (k+1)++B))=(P++A.take k)++A[k]::x::(A.drop (k+1)++B):=by
 rw[take_succ_eq_append_getElem hk];simp only[append_assoc,singleton_append]
theorem DH(n:Nat)(hn:n=Z.length)(h:n<(Z++y::S).length):(Z++y::S)[n]'h=y:=by subst hn;simp
theorem DI(n:Nat)(hn:n=Z.length+1)(h:n<(Z++y::x::S).length):(Z++y::x::S)[n]'h=x:=by subst hn;simp[getElem_append_right]
theorem ZO(h:sH R l0 l a i j)(hj:a<j)(h1:j<l.length)(h0:j-1<l.length)(hr:R l[j] l[j-1]):sH R l0 ((l.set j l[j-1]).set (j-1) l[j]) a i (j-1):=by
 obtain⟨P,A,x,B,E,k,rfl,rfl,hk,rfl,rfl,hs,hx,hp,rfl⟩:=h;obtain⟨k,rfl⟩:∃m,k=m+1:=⟨k-1,by omega⟩
 have e:=E1 (P:=P) (B:=B) (x:=x) hk;have hl:(P++A.take k).length=P.length+k:=(by rw[length_append,length_take];omega)
 simp only[e] at hr ⊢;rw[DH (P.length+(k+1)-1) w4,DI (P.length+(k+1)) w4] at hr ⊢;refine⟨P,A,x,B,E,k,?_,rfl,by omega,by omega,rfl,hs,.inr ⟨hk,hr⟩,hp,rfl⟩;rw[set_comm _ _ w4,show P.length+(k+1)-1=(P++A.take k).length by omega,show P.length+(k+1)=(P++A.take k).length+1 by omega,Ia];rw[show A.drop k=A[k]::A.drop (k+1) from drop_eq_getElem_cons hk];simp only[append_assoc,cons_append]
theorem abd(ht:∀{x y z:Int},R x y→R y z→R x z)(h:sH R l0 l a i j)(h1:j<l.length)(h0:j-1<l.length)(hr:j=a∨R l[j-1] l[j]):oC R l0 l a (i+1):=by
 obtain⟨P,A,x,B,E,k,rfl,rfl,hk,rfl,rfl,hs,hx,hp,rfl⟩:=h;refine⟨P,A.take k++x::A.drop k,B,E++[x],by simp,rfl,by simp;omega,SS ht hs hk ?_ hx,?_,by simp⟩
 ·rcases Nat.eq_zero_or_pos k with rfl|hp
  ·exact .inl rfl
  right;obtain⟨k,rfl⟩:∃m,k=m+1:=⟨k-1,by omega⟩
  refine⟨by omega,?_⟩;rcases hr with hr|hr
  ·omega
  have e:=E1 (P:=P) (B:=B) (x:=x) hk;have hl:(P++A.take k).length=P.length+k:=(by rw[length_append,length_take];omega)
  simp only[e] at hr;rw[DH (P.length+(k+1)-1) w4,DI (P.length+(k+1)) w4] at hr;exact hr
 refine List.perm_middle.trans ?_;rw[take_append_drop];exact(Perm.cons x hp).trans (perm_append_singleton x E).symm
theorem acT(h:sH R l0 l a i j)(hj:a<j)(h1:j<l.length)(h0:j-1<l.length)(hq:(l0.drop a).Pairwise Lt):Lt l[j-1] l[j]:=by
 obtain⟨P,A,x,B,E,k,rfl,rfl,hk,rfl,rfl,hs,hx,hp,rfl⟩:=h;obtain⟨k,rfl⟩:∃m,k=m+1:=⟨k-1,by omega⟩
 have e:=E1 (P:=P) (B:=B) (x:=x) hk;have hl:(P++A.take k).length=P.length+k:=(by rw[length_append,length_take];omega)
 simp only[e];rw[DH (P.length+(k+1)-1) w4,DI (P.length+(k+1)) w4];rw[drop_left' rfl,pairwise_append] at hq;exact hq.2.2 _ (hp.subset (getElem_mem hk)) x (mem_cons_self)
theorem sH.perm(h:sH R l0 l a i j):l.Perm l0:=by
 obtain⟨P,A,x,B,E,k,rfl,rfl,hk,rfl,rfl,hs,hx,hp,rfl⟩:=h;refine(perm_append_left_iff P).2 (List.perm_middle.trans ?_);rw[←append_assoc,take_append_drop];exact(Perm.cons x ((perm_append_right_iff B).2 hp)).trans List.perm_middle.symm
def Rc(cF:Int→Int→Int)(Lt:Int→Int→Prop)(x y:Int):Prop:=cF x y<0∨cF x y=0∧Lt x y
theorem EM(h:cF y x<0):Rc cF Lt y x:=.inl h
theorem E8(ha:∀x y,0≤cF y x→cF x y≤0)(E:Lt x y)(h:¬cF y x<0):Rc cF Lt x y:=by
 have:=ha x y w4;unfold Rc;rcases Int.lt_or_eq_of_le this with q|q
 ·exact .inl q
 exact .inr ⟨q,E⟩
def Part(R:Int→Int→Prop)(l0 l:List Int)(a b:Nat):Prop:=∃(P M M0 Q:List Int),l=P++(M++Q)∧l0=P++(M0++Q)∧P.length=a∧a+M.length=b∧M.Perm M0∧M.Pairwise R
theorem oC.part{b:Nat}(h:oC R l0 l a b):Part R l0 l a b:=by
 obtain⟨P,A,B,E,h1,h2,h3,hs,hp,h4⟩:=h;exact⟨P,A,E,B,h1,h4,h2,h3,hp,hs⟩

end Go.Proofs.YtdgichenhdikgaaGreatDoor.So
namespace Go.Proofs.YtdgichenhdikgaaGreatDoor.So
open List
open Go.Proofs.Tryz
open Go.RowKit V Tw
variable {G:List (Nat×List Value)}
theorem TX(l:List Int)(U a b cap bd fc:Nat)(O:List D)(Z:List ah)(cF:Int→Int→Int)(V:Int→Prop)(Lt:Int→Int→Prop)(hV:∀x∈l,V x)(hc:∀x y,V x→V y→VC Tryz.prog G fc ([ae x,ae y]++O) Z (fun r S'=>r=ae (cF x y)∧S'=Z))(vn:∀args w,(callFunc fc args).run Tryz.prog w = .ok (.enter fc args) w)(ht:∀{x y z:Int},Rc cF Lt x y→Rc cF Lt y z→Rc cF Lt x z)(ha:∀x y,0≤cF y x→cF x y≤0)(hq:(l.drop a).Pairwise Lt)(h1:a≤b)(h2:b≤U)(gj:l.length=U)(pJ:U≤cap)(rh:cap≤maxLen)(ao4:U<maxLen):VC Tryz.prog G 152 [aR (some ⟨bd,0,none⟩) U cap,ae (a:Nat),ae (b:Nat),.eB (.func fc) O] (⟨bd,3,cap*1,(l).flatMap cI⟩::Z) (fun r S'=>r = .dF []∧∃lz,Part (Rc cF Lt) l lz a b∧S'=⟨bd,3,cap*1,(lz).flatMap cI⟩::Z):=by
 refine VC.body func152 rfl ntmps152 aS fun X0 w0 aZ=>?_;have da:=dW;refine af [0,1,2,3,8] ?_;refine eK [0,1,2,3] (fun aW _ (E:Nat×List Int) aI=>match E with|(i,cur)=>((i≤b→oC (Rc cF Lt) l cur a i))∧(a<i)∧((a<b→i≤b))∧((a=b→cur=l))∧((cur).length=U)∧aI=(⟨53,(8,ae (i:Nat))::aW,(⟨bd,3,cap*1,(cur).flatMap cI⟩::Z)⟩:St)) (fun (E:Nat×List Int)=>match E with|(i,cur)=>b-i) ((a+1),l) ⟨(fun q=>aea w4),(Nat.lt_succ_self _),(fun q=>q),(fun _=>rfl),gj,rfl⟩ ?_;rintro⟨i,cur⟩ _ ⟨hs,XQ,hib,qG,kY,rfl⟩;refine af [0,1,2,3,8,14] ?_;refine au ?_ ?_<;>intro aN bC
 ·have aa:i<b:=(by omega)
  refine af [0,1,2,3,8,9] ?_;refine eK [0,1,2,3,8] (fun aW _ (E:Nat×List Int) aI=>match E with|(j,lB)=>(sH (Rc cF Lt) l lB a i j)∧((lB).length=U)∧aI=(⟨53,(9,ae (j:Nat))::aW,(⟨bd,3,cap*1,(lB).flatMap cI⟩::Z)⟩:St)) (fun (E:Nat×List Int)=>match E with|(j,lB)=>j) (i,cur) ⟨(aaW (hs w4) w4),kY,rfl⟩ ?_;rintro⟨j,lB⟩ _ ⟨hj,zg,rfl⟩;have lT:=hj.len;have qx:j<lB.length:=(by omega)
  have qw:j-1<lB.length:=(by omega)
  refine CD.seq ?_;refine CD.seq ?_;refine fO 14 (aq (take 1 _)) ?_ (fun _ h=>(Sublist.map _ (take_sublist _ _)).subset h);refine ay 0 rfl bf ?_;refine ay 1 rfl bf ?_;refine ay 2 rfl mP ?_;refine ay 3 rfl bf ?_;refine di.split (t:=21) lk (fun qs=>?_) (fun qs=>?_)
  ·have I:=qs;(try simp only[V.nv,ne_eq] at I)
   refine ay 4 rfl bf ?_;refine ay 5 rfl bf ?_;refine ay 6 rfl bf ?_;refine ay 7 rfl (dm 1 (h:=by first|exact .l (j:=j) rfl w4|exact .r (j:=j) rfl w4)) ?_;refine ay 8 rfl eY ?_;refine ay 9 rfl bf ?_;refine ay 10 rfl bf ?_;refine ay 11 rfl (c8 rfl ot bL (gk (r:=((j-1:Nat):Int)) (by rw[show((j:Int)-1)=((j-1:Nat):Int) by have C9:=of_decide_eq_true qs;omega];exact wrap_i64 (by have C9:=of_decide_eq_true qs;omega) w4))) ?_;refine ay 12 rfl (dm 1 (h:=by first|exact .l (j:=j-1) rfl w4|exact .r (j:=j-1) rfl w4)) ?_;refine ay 13 rfl eY ?_;refine di.later rfl ?_;refine eJ ?_;have XR:∀x∈lB,V x:=fun x hx=>hV x (hj.perm.subset hx);refine OD.kr (f:=fc) (args:=[_,_]) (Sf:=Z) iu rfl rfl ot vn (hc _ _ (XR _ (getElem_mem qx)) (XR _ (getElem_mem qw))) rfl ⟨ot,ot,trivial⟩ (perm_append_singleton _ _).symm ?_;rintro _ S2 ⟨rfl,iG⟩;rw[iG];clear iG;refine OD.perm (perm_append_singleton _ _) ?_;refine an 53 [0,1,2,3,8,9,34] ?_;refine au ?_ ?_<;>intro aY cz
   ·have hja:a<j:=(by have q:=of_decide_eq_true qs;omega)
    have af6:cF (lB[j]'qx) (lB[j-1]'qw)<0:=cz;refine CD.skip ?_;refine CD.seq ?_;refine CD.block ?_;refine fO 16 (aq (eraseIdx _ 0)) ?_ (fun _ h=>(Sublist.map _ (eraseIdx_sublist _ 0)).subset h);refine ay 0 rfl bf ?_;refine ay 1 rfl bf ?_;refine ay 2 rfl bf ?_;refine ay 3 rfl bf ?_;refine ay 4 rfl (c8 rfl ot bL (gk (r:=((j-1:Nat):Int)) L1)) ?_;refine ay 5 rfl bf ?_;refine ay 6 rfl bf ?_;refine ay 7 rfl (c8 rfl ot bL (gk (r:=((j-1:Nat):Int)) L1)) ?_;refine ay 8 rfl (dm 1 (h:=by first|exact .l (j:=j-1) rfl w4|exact .r (j:=j-1) rfl w4)) ?_;refine ay 10 rfl bf ?_;refine ay 11 rfl bf ?_;refine ay 12 rfl (dm 1 (h:=by first|exact .l (j:=j) rfl w4|exact .r (j:=j) rfl w4)) ?_;refine di.later rfl ?_;refine AD.two (i:=9) (j:=13) aA ?_ ?_
    ·refine at_ rfl eY ?_;refine AD.one (i:=13) aA ?_;exact Wc
    refine at_ rfl eY ?_;refine AD.one (i:=9) aA ?_;exact Wc
   exact Ws
  have I:=qs;(try simp only[V.nv,ne_eq] at I)
  refine mh 4 rfl ?_;refine mh 5 rfl ?_;refine mh 6 rfl ?_;refine mh 7 rfl ?_;refine mh 8 rfl ?_;refine mh 9 rfl ?_;refine mh 10 rfl ?_;refine mh 11 rfl ?_;refine mh 12 rfl ?_;refine mh 13 rfl ?_;refine di.later rfl ?_;refine eJ ?_;refine bg [0,1,2,3,8,9,34] ?_;refine fT ?_;exact Ws
 have nk:oC (Rc cF Lt) l cur a b:=(Nat.eq_or_lt_of_le h1).elim (fun q=>by subst q;rw[qG rfl];exact ID w4) (fun q=>(show i=b by omega) ▸ hs w4);refine aJ _ ?_;exact⟨rfl,_,nk.part,rfl⟩

end Go.Proofs.YtdgichenhdikgaaGreatDoor.So
namespace Go.Proofs.YtdgichenhdikgaaGreatDoor.So
open List
open Go.Proofs.Tryz
variable {i:Nat}
def Mv(P B Q:List Int)(x:Int)(t:Nat):List Int:=P++(B.take t++x::(B.drop t++Q))
variable {P B Q:List Int} {x:Int} {t:Nat}
theorem Fj(h:t≤B.length):(Mv P B Q x t).length=P.length+(B.length+1+Q.length):=by
 unfold Mv;simp only[length_append,length_cons,length_take,length_drop];omega
theorem E2(h:t<B.length):Mv P B Q x t=(P++B.take t)++x::B[t]::(B.drop (t+1)++Q):=by
 unfold Mv;rw[drop_eq_getElem_cons h];simp only[append_assoc,cons_append]
theorem E3(h:t<B.length):Mv P B Q x (t+1)=(P++B.take t)++B[t]::x::(B.drop (t+1)++Q):=E1 h
theorem zc(h:t<B.length):(P++B.take t).length=P.length+t:=by rw[length_append,length_take];omega
theorem afK(h:t<B.length)(h0:P.length+t<(Mv P B Q x t).length):(Mv P B Q x t)[P.length+t]=x:=by
 simp only[E2 h];rw[DH _ (zc h).symm]
theorem aeb(h:t<B.length)(h0:P.length+t+1<(Mv P B Q x t).length):(Mv P B Q x t)[P.length+t+1]=B[t]:=by
 simp only[E2 h];rw[DI _ (by rw[zc h])]
theorem acs(h:t<B.length):((Mv P B Q x t).set (P.length+t) B[t]).set (P.length+t+1) x=Mv P B Q x (t+1):=by
 rw[E2 h,E3 h,←zc (P:=P) h,Ia]
theorem aec(h:t<B.length):((Mv P B Q x (t+1)).set (P.length+t+1) B[t]).set (P.length+t) x=Mv P B Q x t:=by
 rw[E2 h,E3 h,←zc (P:=P) h,set_comm _ _ w4,Ia]

variable {R Lt:Int→Int→Prop} {l l1 l2 l3:List Int} {a s m e b mid:Nat}
theorem SV(ht:∀{x y z:Int},R x y→R y z→R x z){P B Q:List Int}{x:Int}{s t:Nat}(E:B.Pairwise R)(hs:s≤B.length)(hk:t≤B.length)(h1:t=0∨∃h:t-1<B.length,R B[t-1] x)(h2:t=B.length∨∃h:t<B.length,R x B[t]) :
  Part R (Mv P B Q x s) (Mv P B Q x t) P.length (P.length+(B.length+1)):=by
 have hp:∀t,(B.take t++x::B.drop t).Perm (x::B):=fun t=>List.perm_middle.trans (by rw[take_append_drop]);refine⟨P,B.take t++x::B.drop t,B.take s++x::B.drop s,Q,by unfold Mv;simp,by unfold Mv;simp,rfl,?_,(hp t).trans (hp s).symm,SS ht E hk h1 h2⟩;have:=(hp t).length_eq;simp only[length_cons] at this;rw[this]
def pY(R Lt:Int→Int→Prop)(l:List Int)(a m b:Nat):Prop:=∃(P A B Q:List Int),l=P++(A++(B++Q))∧P.length=a∧a+A.length=m∧m+B.length=b∧A.Pairwise R∧B.Pairwise R∧∀x∈A,∀y∈B,Lt x y
theorem pY.len(h:pY R Lt l a m b):a≤m∧m≤b∧b≤l.length:=by
 obtain⟨P,A,B,Q,rfl,rfl,rfl,rfl,_⟩:=h;simp only[length_append];omega
theorem pY.lt(h:pY R Lt l a m b){j:Nat}(h1:a≤i)(h2:i<m)(h3:m≤j)(h4:j<b)(hi:i<l.length)(hj:j<l.length):Lt l[i] l[j]:=by
 obtain⟨P,A,B,Q,rfl,rfl,rfl,rfl,_,_,h⟩:=h;refine h _ ?_ _ ?_
 ·rw[getElem_append_right h1,getElem_append_left w4];exact getElem_mem _
 rw[getElem_append_right w4,getElem_append_right w4,getElem_append_left w4];exact getElem_mem _
theorem PB{P M Q:List Int}(h:M.Pairwise R):Part R (P++(M++Q)) (P++(M++Q)) P.length (P.length+M.length):=⟨P,M,M,Q,rfl,rfl,rfl,rfl,.refl _,h⟩
theorem Q6{P E Q:List Int}{x y:Nat}(h:Part R (P++(E++Q)) l x y)(hx:x=P.length)(hy:y=P.length+E.length):∃M,l=P++(M++Q)∧M.Perm E∧M.Pairwise R:=by
 obtain⟨P',M,U,Q',h1,h2,h3,h4,h5,h6⟩:=h;have hl:=h5.length_eq;obtain⟨e1,e2⟩:=append_inj h2 w4;obtain⟨I,O⟩:=append_inj e2 w4;subst e1 I O;exact⟨M,h1,h5,h6⟩
def tY(R Lt:Int→Int→Prop)(l l1:List Int)(a s m e b mid:Nat):Prop:=∃(P A1 A2 B1 B2 Q:List Int),l=P++(A1++(A2++(B1++(B2++Q))))∧l1=P++(A1++(B1++(A2++(B2++Q))))∧P.length=a∧a+A1.length=s∧s+A2.length=m∧m+B1.length=e∧e+B2.length=b∧s+B1.length=mid ∧
 A1.Pairwise R∧A2.Pairwise R∧B1.Pairwise R∧B2.Pairwise R∧(∀x∈A1,∀y∈B1,Lt x y)∧(∀x∈A2,∀y∈B2,Lt x y)∧∀x∈A1++B1,∀y∈A2++B2,R x y
theorem aed (ht:∀{x y z:Int},R x y→R y z→R x z) (h:pY R Lt l a m b) (h1:a≤s) (h2:s≤m) (h3:m≤e) (h4:e≤b) (hm:s+(e-m)=mid)
  (k1:s=a∨e=b∨∃(p:s-1<l.length) (q:e<l.length),R l[s-1] l[e]) (k2:e=m∨s=m∨∃(p:e-1<l.length) (q:s<l.length),R l[e-1] l[s]):∃l1,tY R Lt l l1 a s m e b mid∧rJ l1 l m (m-s) (e-m):=by
 obtain⟨P,A,B,Q,rfl,rfl,rfl,rfl,hA,hB,aa⟩:=h;obtain⟨i,rfl⟩:∃i,s=P.length+i:=⟨s-P.length,by omega⟩
 obtain⟨j,rfl⟩:∃j,e=P.length+A.length+j:=⟨e-(P.length+A.length),by omega⟩
 have E:∀k (h:k<A.length) (q:P.length+k<(P++(A++(B++Q))).length),(P++(A++(B++Q)))[P.length+k]=A[k]:=fun k h q=>by
  rw[getElem_append_right w4,getElem_append_left w4];simp
 have I:∀k (h:k<B.length) (q:P.length+A.length+k<(P++(A++(B++Q))).length),(P++(A++(B++Q)))[P.length+A.length+k]=B[k]:=fun k h q=>by
  rw[getElem_append_right w4,getElem_append_right w4,getElem_append_left w4];congr 1;omega
 have hc:=aaV (R:=R) ht hA hB (i:=i) (j:=j) w4 w4 (by
  rcases Nat.eq_zero_or_pos i with q|q
  ·exact .inl q
  rcases k1 with k1|k1|⟨p1,p2,k1⟩
  ·omega
  ·exact .inr (.inl w4)
  ·rcases Nat.lt_or_ge j B.length with q2|q2
   ·refine .inr (.inr ⟨by omega,q2,?_⟩);have e1:=E (i-1) w4 w4;simp only[show P.length+i-1=P.length+(i-1) by omega] at k1;rw[e1,I j q2] at k1;exact k1
   exact .inr (.inl w4)) (by
  rcases Nat.eq_zero_or_pos j with q|q
  ·exact .inl q
  rcases k2 with k2|k2|⟨p1,p2,k2⟩
  ·omega
  ·exact .inr (.inl w4)
  rcases Nat.lt_or_ge i A.length with q2|q2
  ·refine .inr (.inr ⟨by omega,q2,?_⟩);have e1:=I (j-1) w4 w4;simp only[show P.length+A.length+j-1=P.length+A.length+(j-1) by omega] at k2;rw[e1,E i q2] at k2;exact k2
  exact .inr (.inl w4))
 have la1:(A.take i).length=i:=(by rw[length_take];omega)
 have lb1:(B.take j).length=j:=(by rw[length_take];omega)
 have la2:(A.drop i).length=A.length-i:=length_drop;have lb2:(B.drop j).length=B.length-j:=length_drop;have O:A.take i++A.drop i=A:=take_append_drop ..;have U:B.take j++B.drop j=B:=take_append_drop ..;have Z:(A.take i++A.drop i).Pairwise R:=(by rw[O];exact hA)
 have pb:(B.take j++B.drop j).Pairwise R:=(by rw[U];exact hB)
 have ea:A++(B++Q)=A.take i++(A.drop i++(B.take j++(B.drop j++Q))):=(by rw[←append_assoc (A.take i),O,←append_assoc (B.take j),U])
 refine⟨P++(A.take i++(B.take j++(A.drop i++(B.drop j++Q)))),⟨P,A.take i,A.drop i,B.take j,B.drop j,Q,by rw[ea],rfl,rfl,by omega,by omega,by omega,by omega,by omega,(pairwise_append.1 Z).1,(pairwise_append.1 Z).2.1,(pairwise_append.1 pb).1,(pairwise_append.1 pb).2.1,fun x hx y hy=>aa x (mem_of_mem_take hx) y (mem_of_mem_take hy),fun x hx y hy=>aa x (mem_of_mem_drop hx) y (mem_of_mem_drop hy),hc⟩,
  P++A.take i,A.drop i,B.take j,B.drop j++Q,by rw[ea];simp,by omega,by omega,by rw[length_append];omega,by simp⟩
theorem tY.perm(h:tY R Lt l l1 a s m e b mid):l1.Perm l:=by
 obtain⟨P,E,I,O,B2,Q,rfl,rfl,_⟩:=h;refine Perm.append_left P (Perm.append_left E ?_);rw[←append_assoc O,←append_assoc I];exact List.perm_append_comm.append_right _
theorem aee(h:tY R Lt l l1 a s m e b mid):pY R Lt l1 a s mid:=by
 obtain⟨P,E,I,O,B2,Q,rfl,rfl,e1,e2,Z,e4,e5,U,p1,p2,p3,p4,q1,q2,q3⟩:=h;exact⟨P,E,O,I++(B2++Q),rfl,e1,e2,U,p1,p3,q1⟩
theorem Q7(h:tY R Lt l l1 a s m e b mid)(hn:¬(a<s∧s<mid)):Part R l1 l1 a mid:=by
 obtain⟨P,E,O,I,B2,Q,rfl,rfl,rfl,e2,U,Z,e5,e6,p1,p2,p3,p4,q1,q2,q3⟩:=h;have:(E++I).Pairwise R:=by
  rcases Nat.eq_zero_or_pos E.length with h|h
  ·rw[length_eq_zero_iff.1 h];exact p3
  rw[length_eq_zero_iff.1 (show I.length=0 by omega),append_nil];exact p1
 have:=PB (P:=P) (Q:=O++(B2++Q)) this;rw[append_assoc,length_append] at this;rwa [show P.length+(E.length+I.length)=mid by omega] at this
theorem Ju(h:tY R Lt l l1 a s m e b mid)(k:Part R l1 l2 a mid):∃(P I E O B2 Q M:List Int),l=P++(I++(E++(O++(B2++Q))))∧l2=P++(M++(E++(B2++Q)))∧P.length=a∧M.length+a=mid∧M.Perm (I++O)∧mid+E.length=e∧e+B2.length=b∧M.Pairwise R∧E.Pairwise R∧B2.Pairwise R∧(∀x∈E,∀y∈B2,Lt x y)∧∀x∈M,∀y∈E++B2,R x y:=by
 obtain⟨P,I,E,O,B2,Q,rfl,rfl,rfl,e2,e3,e4,e5,e6,p1,p2,p3,U,q1,q2,Z⟩:=h;rw[←append_assoc I] at k;obtain⟨M,h1,h2,h3⟩:=Q6 k rfl vu;have:=h2.length_eq;rw[length_append] at this;exact⟨P,I,E,O,B2,Q,M,rfl,h1,rfl,by omega,h2,by omega,by omega,h3,p2,U,q2,fun x hx=>Z x (h2.subset hx)⟩
theorem acu(h:tY R Lt l l1 a s m e b mid)(k:Part R l1 l2 a mid):pY R Lt l2 mid e b:=by
 obtain⟨P,I,E,O,B2,Q,M,rfl,rfl,rfl,e1,e2,U,Z,p1,p2,p3,q1,q2⟩:=Ju h k;exact⟨P++M,E,B2,Q,by simp,by rw[length_append];omega,by omega,by omega,p2,p3,q1⟩
theorem OI(h:tY R Lt l l1 a s m e b mid)(k:Part R l1 l2 a mid)(hn:¬(mid<e∧e<b)):Part R l2 l2 mid b:=by
 obtain⟨P,I,E,O,B2,Q,M,rfl,rfl,rfl,e1,e2,U,Z,p1,p2,p3,q1,q2⟩:=Ju h k;have:(E++B2).Pairwise R:=by
  rcases Nat.eq_zero_or_pos E.length with h|h
  ·rw[length_eq_zero_iff.1 h];exact p3
  rw[length_eq_zero_iff.1 (show B2.length=0 by omega),append_nil];exact p2
 have:=PB (P:=P++M) (Q:=Q) this;rw[append_assoc,length_append,length_append,append_assoc] at this;rwa [show P.length+M.length+(E.length+B2.length)=b by omega,show P.length+M.length=mid by omega] at this
theorem EO(h:tY R Lt l l1 a s m e b mid)(k:Part R l1 l2 a mid)(j:Part R l2 l3 mid b):Part R l l3 a b:=by
 obtain⟨P,E,I,O,B2,Q,M,rfl,rfl,rfl,e1,e2,Z,e4,p1,p2,p3,q1,q2⟩:=Ju h k;rw[←append_assoc I,←append_assoc P] at j;obtain⟨U,h1,h2,h3⟩:=Q6 j vu (by rw[length_append,length_append];omega);have hl:=e2.length_eq;have iQ:=h2.length_eq;rw[length_append] at hl iQ;refine⟨P,M++U,E++(I++(O++B2)),Q,by rw[h1];simp,by simp,rfl,by rw[length_append];omega,?_,pairwise_append.2 ⟨p1,h3,fun x hx y hy=>q2 x hx y (h2.subset hy)⟩⟩;refine(e2.append h2).trans ?_;rw[append_assoc E];refine Perm.append_left E ?_;rw[←append_assoc O,←append_assoc I];exact List.perm_append_comm.append_right B2
theorem Part.perm(h:Part R l l1 a b):l1.Perm l:=by
 obtain⟨P,M,E,Q,rfl,rfl,_,_,hp,_⟩:=h;exact(hp.append_right Q).append_left P
theorem Part.len(h:Part R l l1 a b):l1.length=l.length:=h.perm.length_eq
theorem abe{T cur:List Int}{j:Nat}(h:rJ T cur m i j)(hz:i=0∨j=0):T=cur:=by
 obtain⟨P,X,Y,Q,rfl,rfl,rfl,hm,rfl⟩:=h;rcases hz with h|h
 ·rw[length_eq_zero_iff.1 h];rfl
 rw[length_eq_zero_iff.1 h];rfl
theorem acv(ht:∀{x y z:Int},R x y→R y z→R x z)(h:pY R Lt l a m b)(hm:m=a+1)(h1:m≤i)(h2:i≤b)(k1:i=m∨∃(p:i-1<l.length) (q:a<l.length),R l[i-1] l[a])(k2:i=b∨∃(p:a<l.length) (q:i<l.length),R l[a] l[i]) :
  ∃(P B Q:List Int) (x:Int),P.length=a∧l=Mv P B Q x 0∧i-m≤B.length∧m+B.length=b∧Part R l (Mv P B Q x (i-m)) a b:=by
 obtain⟨P,A,B,Q,rfl,rfl,rfl,rfl,hA,hB,aa⟩:=h;obtain⟨x,rfl⟩:=length_eq_one_iff.1 (show A.length=1 by omega);have E:∀(q:P.length<(P++([x]++(B++Q))).length),(P++([x]++(B++Q)))[P.length]=x:=fun q=>by rw[getElem_append_right w4];simp
 have I:∀k (h:k<B.length) (q:P.length+1+k<(P++([x]++(B++Q))).length),(P++([x]++(B++Q)))[P.length+1+k]=B[k]:=fun k h q=>by
  rw[getElem_append_right w4,getElem_append_right iq,getElem_append_left iq];simp only[length_singleton];congr 1;omega
 have j4:([x]:List Int).length=1:=rfl;rw[j4] at *;obtain⟨t,rfl⟩:∃t,i=P.length+1+t:=⟨i-(P.length+1),by omega⟩
 rw[show P.length+1+t-(P.length+1)=t by omega];have hp:=SV (R:=R) (P:=P) (B:=B) (Q:=Q) (x:=x) (s:=0) (t:=t) ht hB (Nat.zero_le _) w4 (by
  rcases Nat.eq_zero_or_pos t with q|q
  ·exact .inl q
  rcases k1 with k1|⟨p1,O,k1⟩
  ·omega
  ·refine .inr ⟨by omega,?_⟩;have e1:=I (t-1) w4 w4;simp only[show P.length+1+t-1=P.length+1+(t-1) by omega] at k1;rw[E,e1] at k1;exact k1) (by
  rcases k2 with k2|⟨p1,O,k2⟩
  ·exact .inl w4
  rcases Nat.lt_or_ge t B.length with q|q
  ·exact .inr ⟨q,by rw[E,I t q] at k2;exact k2⟩
  exact .inl w4)
 refine⟨P,B,Q,x,rfl,rfl,by omega,rfl,?_⟩;rw[show P.length+(B.length+1)=P.length+1+B.length by omega] at hp;exact hp
theorem aaX(ht:∀{x y z:Int},R x y→R y z→R x z)(h:pY R Lt l a m b)(hm:b=m+1)(h1:a≤i)(h2:i≤m)(k1:i=a∨∃(p:i-1<l.length) (q:m<l.length),R l[i-1] l[m])(k2:i=m∨∃(p:m<l.length) (q:i<l.length),R l[m] l[i]) :
  ∃(P B Q:List Int) (x:Int),P.length=a∧l=Mv P B Q x (m-a)∧i-a≤B.length∧a+B.length=m∧Part R l (Mv P B Q x (i-a)) a b:=by
 obtain⟨P,A,B,Q,rfl,rfl,rfl,rfl,hA,hB,aa⟩:=h;obtain⟨x,rfl⟩:=length_eq_one_iff.1 (show B.length=1 by omega);have E:∀(q:P.length+A.length<(P++(A++([x]++Q))).length),(P++(A++([x]++Q)))[P.length+A.length]=x:=fun q=>by
  rw[getElem_append_right w4,getElem_append_right w4];simp
 have I:∀k (h:k<A.length) (q:P.length+k<(P++(A++([x]++Q))).length),(P++(A++([x]++Q)))[P.length+k]=A[k]:=fun k h q=>by
  rw[getElem_append_right w4,getElem_append_left w4];simp
 have j4:([x]:List Int).length=1:=rfl;rw[j4] at *;obtain⟨t,rfl⟩:∃t,i=P.length+t:=⟨i-P.length,by omega⟩
 rw[show P.length+t-P.length=t by omega,show P.length+A.length-P.length=A.length by omega];have he:P++(A++([x]++Q))=Mv P A Q x A.length:=(by unfold Mv;simp)
 have hp:=SV (R:=R) (P:=P) (B:=A) (Q:=Q) (x:=x) (s:=A.length) (t:=t) ht hA (Nat.le_refl _) w4 (by
  rcases Nat.eq_zero_or_pos t with q|q
  ·exact .inl q
  rcases k1 with k1|⟨p1,O,k1⟩
  ·omega
  ·refine .inr ⟨by omega,?_⟩;have e1:=I (t-1) w4 w4;simp only[show P.length+t-1=P.length+(t-1) by omega] at k1;rw[E,e1] at k1;exact k1) (by
  rcases k2 with k2|⟨p1,O,k2⟩
  ·exact .inl w4
  rcases Nat.lt_or_ge t A.length with q|q
  ·exact .inr ⟨q,by rw[E,I t q] at k2;exact k2⟩
  exact .inl w4)
 refine⟨P,A,Q,x,rfl,he,by omega,rfl,?_⟩;rw[he,show P.length+A.length+1=P.length+(A.length+1) by omega];exact hp
theorem acw(h:t<B.length)(h0:P.length+t<(Mv P B Q x (t+1)).length):(Mv P B Q x (t+1))[P.length+t]=B[t]:=by
 simp only[E3 h];rw[DH _ (zc h).symm]
theorem acy(h:t<B.length)(h0:P.length+t+1<(Mv P B Q x (t+1)).length):(Mv P B Q x (t+1))[P.length+t+1]=x:=by
 simp only[E3 h];rw[DI _ (by rw[zc h])]
theorem aeM(h:t<B.length)(ha:P.length=a)(h0:a+t<(Mv P B Q x t).length)(h1:a+t+1<(Mv P B Q x t).length):((Mv P B Q x t).set (a+t) (Mv P B Q x t)[a+t+1]).set (a+t+1) (Mv P B Q x t)[a+t]=Mv P B Q x (t+1):=by
 subst ha;rw[aeb h,afK h,acs h]
theorem aeL(h:t<B.length)(ha:P.length=a)(h0:a+t<(Mv P B Q x (t+1)).length)(h1:a+t+1<(Mv P B Q x (t+1)).length):((Mv P B Q x (t+1)).set (a+t+1) (Mv P B Q x (t+1))[a+t]).set (a+t) (Mv P B Q x (t+1))[a+t+1]=Mv P B Q x t:=by
 subst ha;rw[acw h,acy h,aec h]

end Go.Proofs.YtdgichenhdikgaaGreatDoor.So
namespace Go.Proofs.YtdgichenhdikgaaGreatDoor.So
open List
open Go.Proofs.Tryz
open Go.RowKit V Tw
variable {G:List (Nat×List Value)}
theorem acz(ln cap O fc:Nat)(U:List D)(I:List ah)(cF:Int→Int→Int)(V:Int→Prop)(Lt:Int→Int→Prop)(hc:∀x y,V x→V y→VC Tryz.prog G fc ([ae x,ae y]++U) I (fun r S'=>r=ae (cF x y)∧S'=I))(Z:∀args w,(callFunc fc args).run Tryz.prog w = .ok (.enter fc args) w)(ht:∀{x y z:Int},Rc cF Lt x y→Rc cF Lt y z→Rc cF Lt x z)(ha:∀x y,0≤cF y x→cF x y≤0)(pJ:ln≤cap)(rh:cap≤maxLen)(oV:ln≤1000000)(n:Nat)(ih:∀k,k<n→∀(l:List Int) (a m b:Nat),b-a=k→pY (Rc cF Lt) Lt l a m b→a<m→m<b→l.length=ln→(∀x∈l,V x)→VC Tryz.prog G 153 [aR (some ⟨O,0,none⟩) ln cap,ae (a:Nat),ae (m:Nat),ae (b:Nat),.eB (.func fc) U] (⟨O,3,cap*1,(l).flatMap cI⟩::I) (fun r S'=>r = .dF []∧∃lz,Part (Rc cF Lt) l lz a b∧S'=⟨O,3,cap*1,(lz).flatMap cI⟩::I))(l:List Int)(a m b:Nat)(hn:b-a=n)(h:pY (Rc cF Lt) Lt l a m b)(h1:a<m)(h2:m<b)(gj:l.length=ln)(hV:∀x∈l,V x):VC Tryz.prog G 153 [aR (some ⟨O,0,none⟩) ln cap,ae (a:Nat),ae (m:Nat),ae (b:Nat),.eB (.func fc) U] (⟨O,3,cap*1,(l).flatMap cI⟩::I) (fun r S'=>r = .dF []∧∃lz,Part (Rc cF Lt) l lz a b∧S'=⟨O,3,cap*1,(lz).flatMap cI⟩::I):=by
 refine VC.body func153 rfl ntmps153 aS fun X0 w0 aZ=>?_;have da:=dW;have hlen:=h.len;refine cQ [0,1,2,3,4,28] ?_;refine aU 2 ?_ (h:=by exact(c8 rfl ot ot (gk (r:=((m-a:Nat):Int)) qu)));refine bG ?_;refine au ?_ ?_<;>intro aN bC
 ·have C8:m=a+1:=(by omega)
  refine af [0,1,3,4,10] ?_;refine af [0,1,4,10,11] ?_;refine eK [0,1,4] (fun aW _ (E:Nat×Nat) aI=>match E with|(i,j)=>(m≤i)∧(i≤j)∧(j≤b)∧((i=m∨∃(p:i-1<l.length) (q:a<l.length),(Rc cF Lt) l[i-1] l[a]))∧((j=b∨∃(p:a<l.length) (q:j<l.length),(Rc cF Lt) l[a] l[j]))∧aI=(⟨220,(10,ae (i:Nat))::(11,ae (j:Nat))::aW,(⟨O,3,cap*1,(l).flatMap cI⟩::I)⟩:St)) (fun (E:Nat×Nat)=>match E with|(i,j)=>j-i) (m,b) ⟨(Nat.le_refl _),w4,(Nat.le_refl _),(.inl rfl),(.inl rfl),rfl⟩ ?_;rintro⟨i,j⟩ _ ⟨mu,XH,hjb,dO,fi,rfl⟩;refine af [0,1,4,10,11,33] ?_;refine au ?_ ?_<;>intro aY cz
  ·have hh:i<j:=(by omega)
   have hH:((i+j)/2)<l.length:=(by omega)
   have hA:a<l.length:=(by omega)
   refine cQ [0,1,4,10,11,12] ?_;refine aU 2 ?_ (h:=by exact(c8 rfl ot ot (ko (r:=((i+j:Nat):Int)) zP)));refine aU 0 ?_ (h:=by exact(oF rfl ot (oG (r:=((i+j:Nat):Int)) runUnderlying3 runUnderlying231 (IntWalk.u64_in _ w4))));refine aU 0 ?_ (h:=by exact(c8 rfl ot bL (yG w7 Bu)));refine aU 0 ?_ (h:=by exact(oF rfl ot (oG (r:=((((i+j)/2):Nat):Int)) runUnderlying231 runUnderlying3 (wrap_i64 w4 w4))));refine bG ?_;refine CD.seq ?_;refine fO 9 (aq (take 1 _)) ?_ (fun _ h=>(Sublist.map _ (take_sublist _ _)).subset h);refine ay 0 rfl bf ?_;refine ay 1 rfl bf ?_;refine ay 2 rfl bf ?_;refine ay 3 rfl (dm 1 (h:=by first|exact .l (j:=((i+j)/2)) rfl w4|exact .r (j:=((i+j)/2)) rfl w4)) ?_;refine ay 4 rfl eY ?_;refine ay 5 rfl bf ?_;refine ay 6 rfl bf ?_;refine ay 7 rfl (dm 1 (h:=by first|exact .l (j:=a) rfl w4|exact .r (j:=a) rfl w4)) ?_;refine ay 8 rfl eY ?_;refine di.later rfl ?_;refine eJ ?_;refine OD.kr (f:=fc) (args:=[_,_]) (Sf:=I) ap rfl rfl ot Z (hc _ _ (hV _ (getElem_mem hH)) (hV _ (getElem_mem hA))) rfl ⟨ot,ot,trivial⟩ (perm_append_singleton _ _).symm ?_;rintro _ S2 ⟨rfl,iG⟩;rw[iG];clear iG;refine OD.perm (perm_append_singleton _ _) ?_;refine an 220 [0,1,4,10,11,12,50] ?_;refine au ?_ ?_<;>intro bZ cM
   ·have xp:(Rc cF Lt) (l[((i+j)/2)]'hH) (l[a]'hA):=EM cM;refine cm [0,1,4,10,11] ?_;exact UO
   have Ac:(Rc cF Lt) (l[a]'hA) (l[((i+j)/2)]'hH):=E8 ha (h.lt (Nat.le_refl _) w4 w4 w4 hA hH) w4;refine cm [0,1,4,10,11] ?_;exact US
  obtain rfl:i=j:=(by omega)
  obtain⟨P,B,Q,x,hP,hl,hiB,hB,J4⟩:=acv (R:=Rc cF Lt) (l:=l) (a:=a) (m:=m) (b:=b) (i:=i) ht h C8 mu hjb dO fi;subst hl;have lW:∀t,t≤B.length→(Mv P B Q x (t)).length=ln:=fun t ht=>by rw[Fj ht,←gj,Fj (Nat.zero_le _)]
  refine af [0,10,13] ?_;refine eK [0,10] (fun aW _ (t:Nat) aI=>(t≤i-m)∧aI=(⟨220,(13,ae (a+t:Nat))::aW,(⟨O,3,cap*1,(Mv P B Q x (t)).flatMap cI⟩::I)⟩:St)) (fun (t:Nat)=>i-m-t) 0 ⟨(Nat.zero_le _),rfl⟩ ?_;rintro t _ ⟨hti,rfl⟩;refine cQ [0,10,13,58] ?_;refine aU 2 ?_ (h:=by exact(c8 rfl ot bL (gk (r:=((i-1:Nat):Int)) (by rw[show(((i:Nat):Int)-1)=((i-1:Nat):Int) by omega];exact wrap_i64 w4 w4))));refine bG ?_;refine au ?_ ?_<;>intro cW ek
  ·have Mi:t<B.length:=(by omega)
   have oO:=lW t w4;refine CD.skip ?_;refine CD.seq ?_;refine CD.block ?_;refine fO 16 (aq (eraseIdx _ 0)) ?_ (fun _ h=>(Sublist.map _ (eraseIdx_sublist _ 0)).subset h);refine ay 0 rfl bf ?_;refine ay 1 rfl bf ?_;refine ay 2 rfl bf ?_;refine ay 3 rfl bf ?_;refine ay 4 rfl (c8 rfl ot bL (ko (r:=((a+t+1:Nat):Int)) (by rw[show(((a+t:Nat):Int)+1)=((a+t+1:Nat):Int) by omega];exact wrap_i64 w4 w4))) ?_;refine ay 5 rfl bf ?_;refine ay 6 rfl bf ?_;refine ay 7 rfl (c8 rfl ot bL (ko (r:=((a+t+1:Nat):Int)) (by rw[show(((a+t:Nat):Int)+1)=((a+t+1:Nat):Int) by omega];exact wrap_i64 w4 w4))) ?_;refine ay 8 rfl (dm 1 (h:=by first|exact .l (j:=a+t+1) rfl w4|exact .r (j:=a+t+1) rfl w4)) ?_;refine ay 10 rfl bf ?_;refine ay 11 rfl bf ?_;refine ay 12 rfl (dm 1 (h:=by first|exact .l (j:=a+t) rfl w4|exact .r (j:=a+t) rfl w4)) ?_;refine di.later rfl ?_;refine AD.two (i:=9) (j:=13) aA ?_ ?_
   ·refine at_ rfl eY ?_;refine AD.one (i:=13) aA ?_;exact Wb
   refine at_ rfl eY ?_;refine AD.one (i:=9) aA ?_;exact Wb
  obtain rfl:t=i-m:=(by omega)
  exact GF
 refine cQ [0,1,2,3,4,80] ?_;refine aU 2 ?_ (h:=by exact(c8 rfl ot ot (gk (r:=((b-m:Nat):Int)) qu)));refine bG ?_;refine au ?_ ?_<;>intro eA fA
 ·have C8:b=m+1:=(by omega)
  refine af [0,2,4,14] ?_;refine af [0,2,4,14,15] ?_;refine eK [0,2,4] (fun aW _ (E:Nat×Nat) aI=>match E with|(i,j)=>(a≤i)∧(i≤j)∧(j≤m)∧((i=a∨∃(p:i-1<l.length) (q:m<l.length),(Rc cF Lt) l[i-1] l[m]))∧((j=m∨∃(p:m<l.length) (q:j<l.length),(Rc cF Lt) l[m] l[j]))∧aI=(⟨220,(14,ae (i:Nat))::(15,ae (j:Nat))::aW,(⟨O,3,cap*1,(l).flatMap cI⟩::I)⟩:St)) (fun (E:Nat×Nat)=>match E with|(i,j)=>j-i) (a,m) ⟨(Nat.le_refl _),w4,(Nat.le_refl _),(.inl rfl),(.inl rfl),rfl⟩ ?_;rintro⟨i,j⟩ _ ⟨XQ,XH,MS,dO,fi,rfl⟩;refine af [0,2,4,14,15,85] ?_;refine au ?_ ?_<;>intro fx gG
  ·have hh:i<j:=(by omega)
   have hH:((i+j)/2)<l.length:=(by omega)
   have hM:m<l.length:=(by omega)
   refine cQ [0,2,4,14,15,16] ?_;refine aU 2 ?_ (h:=by exact(c8 rfl ot ot (ko (r:=((i+j:Nat):Int)) zP)));refine aU 0 ?_ (h:=by exact(oF rfl ot (oG (r:=((i+j:Nat):Int)) runUnderlying3 runUnderlying231 (IntWalk.u64_in _ w4))));refine aU 0 ?_ (h:=by exact(c8 rfl ot bL (yG w7 Bu)));refine aU 0 ?_ (h:=by exact(oF rfl ot (oG (r:=((((i+j)/2):Nat):Int)) runUnderlying231 runUnderlying3 (wrap_i64 w4 w4))));refine bG ?_;refine CD.seq ?_;refine fO 9 (aq (take 1 _)) ?_ (fun _ h=>(Sublist.map _ (take_sublist _ _)).subset h);refine ay 0 rfl bf ?_;refine ay 1 rfl bf ?_;refine ay 2 rfl bf ?_;refine ay 3 rfl (dm 1 (h:=by first|exact .l (j:=m) rfl w4|exact .r (j:=m) rfl w4)) ?_;refine ay 4 rfl eY ?_;refine ay 5 rfl bf ?_;refine ay 6 rfl bf ?_;refine ay 7 rfl (dm 1 (h:=by first|exact .l (j:=((i+j)/2)) rfl w4|exact .r (j:=((i+j)/2)) rfl w4)) ?_;refine ay 8 rfl eY ?_;refine di.later rfl ?_;refine eJ ?_;refine OD.kr (f:=fc) (args:=[_,_]) (Sf:=I) ap rfl rfl ot Z (hc _ _ (hV _ (getElem_mem hM)) (hV _ (getElem_mem hH))) rfl ⟨ot,ot,trivial⟩ (perm_append_singleton _ _).symm ?_;rintro _ S2 ⟨rfl,iG⟩;rw[iG];clear iG;refine OD.perm (perm_append_singleton _ _) ?_;refine an 220 [0,2,4,14,15,16,103] ?_;refine au ?_ ?_<;>intro gX kO
   ·have xp:(Rc cF Lt) (l[((i+j)/2)]'hH) (l[m]'hM):=E8 ha (h.lt w4 w4 (Nat.le_refl _) w4 hH hM) w4;refine cm [0,2,4,14,15] ?_;exact UO
   have Ac:(Rc cF Lt) (l[m]'hM) (l[((i+j)/2)]'hH):=EM kO;refine cm [0,2,4,14,15] ?_;exact US
  obtain rfl:i=j:=(by omega)
  obtain⟨P,B,Q,x,hP,hl,hiB,hB,J4⟩:=aaX (R:=Rc cF Lt) (l:=l) (a:=a) (m:=m) (b:=b) (i:=i) ht h C8 XQ MS dO fi;subst hl;have lW:∀t,t≤B.length→(Mv P B Q x (t)).length=ln:=fun t ht=>by rw[Fj ht,←gj,Fj w4]
  refine af [0,14,17] ?_;refine eK [0,14] (fun aW _ (t:Nat) aI=>(i-a≤t)∧(t≤m-a)∧aI=(⟨220,(17,ae (a+t:Nat))::aW,(⟨O,3,cap*1,(Mv P B Q x (t)).flatMap cI⟩::I)⟩:St)) (fun (t:Nat)=>t) (m-a) ⟨w4,(Nat.le_refl _),rfl⟩ ?_;rintro t _ ⟨hti,htm,rfl⟩;refine af [0,14,17,110] ?_;refine au ?_ ?_<;>intro gv lp
  ·obtain⟨t,rfl⟩:∃k,t=k+1:=⟨t-1,by omega⟩
   have Mi:t<B.length:=(by omega)
   have oO:=lW (t+1) w4;refine CD.skip ?_;refine CD.seq ?_;refine CD.block ?_;refine fO 16 (aq (eraseIdx _ 0)) ?_ (fun _ h=>(Sublist.map _ (eraseIdx_sublist _ 0)).subset h);refine ay 0 rfl bf ?_;refine ay 1 rfl bf ?_;refine ay 2 rfl bf ?_;refine ay 3 rfl bf ?_;refine ay 4 rfl (c8 rfl ot bL (gk (r:=((a+t:Nat):Int)) LZ)) ?_;refine ay 5 rfl bf ?_;refine ay 6 rfl bf ?_;refine ay 7 rfl (c8 rfl ot bL (gk (r:=((a+t:Nat):Int)) LZ)) ?_;refine ay 8 rfl (dm 1 (h:=by first|exact .l (j:=a+t) rfl w4|exact .r (j:=a+t) rfl w4)) ?_;refine ay 10 rfl bf ?_;refine ay 11 rfl bf ?_;refine ay 12 rfl (dm 1 (h:=by first|exact .l (j:=a+t+1) rfl w4|exact .r (j:=a+t+1) rfl w4)) ?_;refine di.later rfl ?_;refine AD.two (i:=9) (j:=13) aA ?_ ?_
   ·refine at_ rfl eY ?_;refine AD.one (i:=13) aA ?_;exact Wa
   refine at_ rfl eY ?_;refine AD.one (i:=9) aA ?_;exact Wa
  obtain rfl:t=i-a:=(by omega)
  exact GF
 obtain⟨mid,ajH⟩:∃q,q=(a+b)/2:=⟨_,rfl⟩
 refine cQ [0,1,2,3,4,18] ?_;refine aU 2 ?_ (h:=by exact(c8 rfl ot ot (ko (r:=((a+b:Nat):Int)) zP)));refine aU 0 ?_ (h:=by exact(oF rfl ot (oG (r:=((a+b:Nat):Int)) runUnderlying3 runUnderlying231 (IntWalk.u64_in _ w4))));refine aU 0 ?_ (h:=by exact(c8 rfl ot bL (yG w7 Bu)));refine aU 0 ?_ (h:=by exact(oF rfl ot (oG (r:=((mid:Nat):Int)) runUnderlying231 runUnderlying3 (by rw[show(((a+b)/2:Nat):Int)=((mid:Nat):Int) by rw[ajH]];exact wrap_i64 w4 w4))));refine bG ?_;refine cQ [0,1,2,3,4,18,19] ?_;refine aU 2 ?_ (h:=by exact(c8 rfl ot ot (ko (r:=((mid+m:Nat):Int)) zP)));refine bG ?_;refine af [0,1,2,3,4,18,19] ?_;refine jV [0,1,2,3,4,18,19] (fun aW ux aI=>∃(s0:Nat),∃(r0:Nat),((mid<m∧s0=mid+m-b∧r0=mid)∨(m≤mid∧s0=a∧r0=m))∧aI=(⟨220,(20,ae (s0:Nat))::(21,ae (r0:Nat))::aW,ux⟩:St)) ?_ ?_
 ·refine af [0,1,2,3,4,18,19,140] ?_;refine au ?_ ?_<;>intro pQ F1
  ·refine cQ [0,1,2,3,4,18,19,20] ?_;refine aU 2 ?_ (h:=by exact(c8 rfl ot ot (gk (r:=(((mid+m)-b:Nat):Int)) qu)));refine bG ?_;refine cm [0,1,2,3,4,18,19,20,21] ?_;refine⟨_,aQ,(mid+m-b),mid,(.inl ⟨by omega,rfl,rfl⟩),rfl⟩
  refine af [0,1,2,3,4,18,19,20] ?_;refine cm [0,1,2,3,4,18,19,20,21] ?_;refine⟨_,aQ,a,m,(.inr ⟨by omega,rfl,rfl⟩),rfl⟩
 rintro _ ⟨s0,r0,He,rfl⟩;refine cQ [0,1,2,3,4,18,19,20,21,22] ?_;refine aU 1 ?_ (h:=by exact(c8 rfl ot bL (gk (r:=(((mid+m)-1:Nat):Int)) (by rw[show((((mid+m):Nat):Int)-1)=(((mid+m)-1:Nat):Int) by omega];exact wrap_i64 w4 w4))));refine bG ?_;refine eK [0,1,2,3,4,18,19,22] (fun aW _ (E:Nat×Nat) aI=>match E with|(s,r)=>(s0≤s)∧(s≤r)∧(r≤r0)∧((s=s0∨∃(p:s-1<l.length) (q:mid+m-s<l.length),(Rc cF Lt) l[s-1] l[mid+m-s]))∧((r=r0∨∃(p:mid+m-r-1<l.length) (q:r<l.length),(Rc cF Lt) l[mid+m-r-1] l[r]))∧aI=(⟨220,(20,ae (s:Nat))::(21,ae (r:Nat))::aW,(⟨O,3,cap*1,(l).flatMap cI⟩::I)⟩:St)) (fun (E:Nat×Nat)=>match E with|(s,r)=>r-s) (s0,r0) ⟨(Nat.le_refl _),w4,(Nat.le_refl _),(.inl rfl),(.inl rfl),rfl⟩ ?_;rintro⟨s,r⟩ _ ⟨oV,ao5,XS,dO,fi,rfl⟩;refine af [0,1,2,3,4,18,19,20,21,22,151] ?_;refine au ?_ ?_<;>intro C2 K7
 ·have hh:s<r:=(by omega)
  have hC:((s+r)/2)<l.length:=(by omega)
  have hQ:(mid+m-1-((s+r)/2))<l.length:=(by omega)
  refine cQ [0,1,2,3,4,18,19,20,21,22,23] ?_;refine aU 2 ?_ (h:=by exact(c8 rfl ot ot (ko (r:=((s+r:Nat):Int)) zP)));refine aU 0 ?_ (h:=by exact(oF rfl ot (oG (r:=((s+r:Nat):Int)) runUnderlying3 runUnderlying231 (IntWalk.u64_in _ w4))));refine aU 0 ?_ (h:=by exact(c8 rfl ot bL (yG w7 Bu)));refine aU 0 ?_ (h:=by exact(oF rfl ot (oG (r:=((((s+r)/2):Nat):Int)) runUnderlying231 runUnderlying3 (wrap_i64 w4 w4))));refine bG ?_;refine CD.seq ?_;refine fO 11 (aq (take 1 _)) ?_ (fun _ h=>(Sublist.map _ (take_sublist _ _)).subset h);refine ay 0 rfl bf ?_;refine ay 1 rfl bf ?_;refine ay 2 rfl bf ?_;refine ay 3 rfl bf ?_;refine ay 4 rfl (c8 rfl ot ot (gk (r:=(((mid+m-1)-((s+r)/2):Nat):Int)) qu)) ?_;refine ay 5 rfl (dm 1 (h:=by first|exact .l (j:=(mid+m-1-((s+r)/2))) rfl w4|exact .r (j:=(mid+m-1-((s+r)/2))) rfl w4)) ?_;refine ay 6 rfl eY ?_;refine ay 7 rfl bf ?_;refine ay 8 rfl bf ?_;refine ay 9 rfl (dm 1 (h:=by first|exact .l (j:=((s+r)/2)) rfl w4|exact .r (j:=((s+r)/2)) rfl w4)) ?_;refine ay 10 rfl eY ?_;refine di.later rfl ?_;refine eJ ?_;refine OD.kr (f:=fc) (args:=[_,_]) (Sf:=I) ap rfl rfl ot Z (hc _ _ (hV _ (getElem_mem hQ)) (hV _ (getElem_mem hC))) rfl ⟨ot,ot,trivial⟩ (perm_append_singleton _ _).symm ?_;rintro _ S2 ⟨rfl,iG⟩;rw[iG];clear iG;refine OD.perm (perm_append_singleton _ _) ?_
  refine an 220 [0,1,2,3,4,18,19,20,21,22,23,171] ?_;refine au ?_ ?_<;>intro FL Bm
  ·have ajI:(Rc cF Lt) (l[((s+r)/2)]'hC) (l[(mid+m-1-((s+r)/2))]'hQ):=E8 ha (h.lt w4 w4 w4 w4 hC hQ) w4;have xp:(Rc cF Lt) (l[((s+r)/2)+1-1]'w4) (l[mid+m-(((s+r)/2)+1)]'w4):=(by simpa only[show((s+r)/2)+1-1=((s+r)/2) by omega,show mid+m-(((s+r)/2)+1)=(mid+m-1-((s+r)/2)) by omega] using ajI)
   refine cm [0,1,2,3,4,18,19,20,21,22] ?_;refine⟨((((s+r)/2)+1),r),_,cD,aQ,w4,w4,w4,(.inr ⟨by omega,by omega,xp⟩),fi,rfl⟩
  have ajJ:(Rc cF Lt) (l[(mid+m-1-((s+r)/2))]'hQ) (l[((s+r)/2)]'hC):=EM Bm;have Ac:(Rc cF Lt) (l[mid+m-((s+r)/2)-1]'w4) (l[((s+r)/2)]'w4):=(by simpa only[show mid+m-((s+r)/2)-1=(mid+m-1-((s+r)/2)) by omega] using ajJ)
  refine cm [0,1,2,3,4,18,19,20,21,22] ?_;refine⟨(s,((s+r)/2)),_,cD,aQ,w4,w4,w4,dO,(.inr ⟨by omega,by omega,Ac⟩),rfl⟩
 obtain rfl:s=r:=(by omega)
 obtain⟨l1,qq,KI⟩:=aed (R:=Rc cF Lt) (l:=l) (a:=a) (m:=m) (b:=b) (s:=s) (e:=mid+m-s) (mid:=mid) ht h w4 w4 w4 w4 w4 (by rcases dO with q|q;(rcases He with q2|q2;exact .inr (.inl w4);exact .inl w4);exact .inr (.inr q)) (by rcases fi with q|q;(rcases He with q2|q2;exact .inl w4;exact .inr (.inl w4));exact .inr (.inr q));have j4:=KI.len.2.2;refine cQ [0,1,2,3,4,18,20,24] ?_;refine aU 2 ?_ (h:=by exact(c8 rfl ot ot (gk (r:=(((mid+m)-s:Nat):Int)) qu)));refine bG ?_;refine jV [0,1,3,4,18,20,24] (fun aW _ aI=>aI=(⟨220,aW,(⟨O,3,cap*1,(l1).flatMap cI⟩::I)⟩:St)) ?_ ?_
 ·refine aD 4 ?_;refine bX 181 (fun ag5 afL=>?_) (fun ag5 afL=>?_)
  ·refine bg [0,1,2,3,4,18,20,24,185] ?_;refine au ?_ ?_<;>intro va Fl
   ·refine dN 5 ?_;refine OD.call (R:=I) ap rfl rfl rfl call163 (afJ l l1 ln s m (mid+m-s) cap O (.eB (.func fc) U) [] KI w4 w4 gj pJ w4) ⟨ot,ot,ot,ot,ot,trivial⟩ (Perm.refl _) ?_;rintro _ _ ⟨rfl,rfl⟩;refine an 220 [0,1,3,4,18,20,24] ?_;refine⟨_,aQ,rfl⟩
   exact z109
  refine bg [0,1,2,3,4,18,20,24,185] ?_;refine fT ?_;exact z109
 rintro _ ⟨rfl⟩;refine jV [0,3,4,18,24] (fun aW _ aI=>∃(l2:List Int),(Part (Rc cF Lt) l1 l2 a mid)∧aI=(⟨220,aW,(⟨O,3,cap*1,(l2).flatMap cI⟩::I)⟩:St)) ?_ ?_
 ·refine aD 4 ?_;refine bX 195 (fun ag6 afM=>?_) (fun ag6 afM=>?_)
  ·refine bg [0,1,3,4,18,20,24,199] ?_;refine au ?_ ?_<;>intro FM af2
   ·refine dN 5 ?_;refine OD.call (R:=[]) ap rfl rfl rfl call153 (ih (mid-a) w4 l1 a s mid rfl (aee qq) w4 w4 (j4.trans gj) (fun z hz=>hV z (qq.perm.subset hz))) ⟨ot,ot,ot,ot,ot,trivial⟩ oQ ?_;rintro _ _ ⟨rfl,l2,ox,rfl⟩;refine OD.perm (S':=⟨O,3,cap*1,(l2).flatMap cI⟩::I) oQ ?_;refine an 220 [0,3,4,18,24] ?_;refine⟨_,aQ,l2,ox,rfl⟩
   refine CD.skip ?_;refine⟨_,aQ,l1,(Q7 qq w4),rfl⟩
  refine bg [0,1,3,4,18,20,24,199] ?_;refine fT ?_;refine CD.skip ?_;refine⟨_,aQ,l1,(Q7 qq w4),rfl⟩
 rintro _ ⟨l2,ox,rfl⟩;refine aD 4 ?_;refine bX 209 (fun ag7 afN=>?_) (fun ag7 afN=>?_)
 ·refine bg [0,3,4,18,24,213] ?_;refine au ?_ ?_<;>intro KF af3
  ·refine dN 5 ?_;refine OD.call (R:=[]) ap rfl rfl rfl call153 (ih (b-mid) w4 l2 mid (mid+m-s) b rfl (acu qq ox) w4 w4 (ox.len.trans (j4.trans gj)) (fun z hz=>hV z (qq.perm.subset (ox.perm.subset hz)))) ⟨ot,ot,ot,ot,ot,trivial⟩ oQ ?_;rintro _ _ ⟨rfl,l3,Wq,rfl⟩;refine OD.perm (S':=⟨O,3,cap*1,(l3).flatMap cI⟩::I) oQ ?_;refine an 220 [] ?_;exact GF
  exact GF
 refine bg [0,3,4,18,24,213] ?_;refine fT ?_;refine aJ _ ?_;first|exact⟨rfl,_,J4,rfl⟩|exact⟨rfl,_,EO qq ox Wq,rfl⟩|exact⟨rfl,_,EO qq ox (OI qq ox w4),rfl⟩
theorem TY(I cap bd O:Nat)(E:List D)(U:List ah)(cF:Int→Int→Int)(V:Int→Prop)(Lt:Int→Int→Prop)(hc:∀x y,V x→V y→VC Tryz.prog G O ([ae x,ae y]++E) U (fun r S'=>r=ae (cF x y)∧S'=U))(Z:∀args w,(callFunc O args).run Tryz.prog w = .ok (.enter O args) w)(ht:∀{x y z:Int},Rc cF Lt x y→Rc cF Lt y z→Rc cF Lt x z)(ha:∀x y,0≤cF y x→cF x y≤0)(pJ:I≤cap)(rh:cap≤maxLen)(oV:I≤1000000):∀(n:Nat) (l:List Int) (a m b:Nat),b-a=n→pY (Rc cF Lt) Lt l a m b→a<m→m<b→l.length=I→(∀x∈l,V x)→VC Tryz.prog G 153 [aR (some ⟨bd,0,none⟩) I cap,ae (a:Nat),ae (m:Nat),ae (b:Nat),.eB (.func O) E] (⟨bd,3,cap*1,(l).flatMap cI⟩::U) (fun r S'=>r = .dF []∧∃lz,Part (Rc cF Lt) l lz a b∧S'=⟨bd,3,cap*1,(lz).flatMap cI⟩::U):=fun n=>Nat.strongRecOn n (acz I cap bd O E U cF V Lt hc Z ht ha pJ rh oV)

end Go.Proofs.YtdgichenhdikgaaGreatDoor.So
namespace Go.Proofs.YtdgichenhdikgaaGreatDoor.So
open List
open Go.Proofs.Tryz
variable {R Lt:Int→Int→Prop} {l l1 cur nI:List Int} {a b m n k:Nat}
theorem Ib(h:Part R l l1 a b):l1.drop b=l.drop b:=by
 obtain⟨P,M,E,Q,rfl,rfl,rfl,rfl,hp,_⟩:=h;rw[←append_assoc,drop_left' (by rw[length_append]),←append_assoc,drop_left' (by rw[length_append,hp.length_eq])]
theorem Q8(h:Part R l l1 a a):l1=l:=by
 obtain⟨P,M,E,Q,rfl,rfl,rfl,h1,hp,_⟩:=h;have hl:=hp.length_eq;rw[length_eq_zero_iff.1 (show M.length=0 by omega),length_eq_zero_iff.1 (show E.length=0 by omega)]
theorem IL(h:Part R l l1 0 n)(hn:l.length=n):l1.Perm l∧l1.Pairwise R:=by
 refine⟨h.perm,?_⟩;obtain⟨P,M,E,Q,rfl,rfl,h1,h2,hp,hs⟩:=h;have hl:=hp.length_eq;simp only[length_append] at hn;rw[length_eq_zero_iff.1 h1,length_eq_zero_iff.1 (show Q.length=0 by omega)];simpa using hs
def x6(R:Int→Int→Prop)(l cur:List Int)(k:Nat):Prop:=(k=0∧cur=l)∨(k=1∧Part R l cur 0 20)∨(k=2∧∃l1,Part R l l1 0 20∧Part R l1 cur 20 40)
def Gc(R:Int→Int→Prop)(l cur:List Int)(n:Nat):Prop:=∃l1,Part R l l1 0 20∧Part R l1 cur 20 n
theorem x6.perm(h:x6 R l cur k):cur.Perm l:=by
 rcases h with ⟨_,rfl⟩|⟨_,h⟩|⟨_,l1,h1,h2⟩
 ·exact .refl _
 ·exact h.perm
 exact h2.perm.trans h1.perm
theorem acA(h:x6 R l cur k)(hk:k≤1)(hp:Part R cur nI (20*k) (20*(k+1))):x6 R l nI (k+1):=by
 rcases h with ⟨rfl,rfl⟩|⟨rfl,h⟩|⟨rfl,_⟩
 ·exact .inr (.inl ⟨rfl,hp⟩)
 ·exact .inr (.inr ⟨rfl,_,h,hp⟩)
 omega
theorem acB(h:x6 R l cur k):cur.drop (20*k)=l.drop (20*k):=by
 rcases h with ⟨rfl,rfl⟩|⟨rfl,h⟩|⟨rfl,l1,h1,h2⟩
 ·rfl
 ·exact Ib h
 rw[Ib h2];have:=congrArg (drop 20) (Ib h1);rw[drop_drop,drop_drop] at this;exact this
theorem aef(h:x6 R l cur k)(h1:20*k≤n)(h2:n<20*(k+1))(h3:n≤40)(hl:l.length=n)(hp:Part R cur nI (20*k) n):(n≤20∧nI.Perm l∧nI.Pairwise R)∨(20<n∧Gc R l nI n):=by
 rcases h with ⟨rfl,rfl⟩|⟨rfl,h⟩|⟨rfl,l1,p1,E⟩
 ·exact .inl ⟨by omega,IL hp hl⟩
 ·rcases Nat.lt_or_ge 20 n with q|q
  ·exact .inr ⟨q,_,h,hp⟩
  obtain rfl:n=20:=(by omega)
  rw[Q8 hp];exact .inl ⟨q,IL h hl⟩
 obtain rfl:n=40:=(by omega)
 rw[Q8 hp];exact .inr ⟨by omega,_,p1,E⟩
theorem acC(h:Gc R l cur n)(hq:l.Pairwise Lt):pY R Lt cur 0 20 n:=by
 obtain⟨l1,⟨P,M,M0,Q,rfl,rfl,h1,h2,hp,hs⟩,p2⟩:=h;obtain rfl:=length_eq_zero_iff.1 h1;obtain⟨O,U,Z,I,rfl,h4,h5,h6,ox,E⟩:=p2;obtain⟨e1,e2⟩:=append_inj (show M++Q=O++(Z++I) from h4) w4;subst e1 e2;rw[nil_append,pairwise_append] at hq;exact⟨[],M,U,I,by simp,rfl,by omega,by omega,hs,E,fun x hx y hy=>hq.2.2 x (hp.subset hx) y (mem_append_left _ (ox.subset hy))⟩
theorem Q9(h:Gc R l cur n)(hp:Part R cur nI 0 n)(hl:l.length=n):nI.Perm l∧nI.Pairwise R:=by
 obtain⟨l1,p1,p2⟩:=h;have:=IL hp (by rw[p2.len,p1.len,hl]);exact⟨this.1.trans (p2.perm.trans p1.perm),this.2⟩

end Go.Proofs.YtdgichenhdikgaaGreatDoor.So
namespace Go.Proofs.YtdgichenhdikgaaGreatDoor.So
open List
open Go.Proofs.Tryz
open Go.RowKit V Tw
variable {G:List (Nat×List Value)}
theorem aaY(I cap U fc:Nat)(O:List D)(Z:List ah)(cF:Int→Int→Int)(V:Int→Prop)(Lt:Int→Int→Prop)(hc:∀x y,V x→V y→VC Tryz.prog G fc ([ae x,ae y]++O) Z (fun r S'=>r=ae (cF x y)∧S'=Z))(vn:∀args w,(callFunc fc args).run Tryz.prog w = .ok (.enter fc args) w)(ht:∀{x y z:Int},Rc cF Lt x y→Rc cF Lt y z→Rc cF Lt x z)(ha:∀x y,0≤cF y x→cF x y≤0)(pJ:I≤cap)(rh:cap≤maxLen)(oV:I≤40)(l:List Int)(hq:l.Pairwise Lt)(gj:l.length=I)(hV:∀x∈l,V x):VC Tryz.prog G 129 [aR (some ⟨U,0,none⟩) I cap,ae (I:Nat),.eB (.func fc) O] (⟨U,3,cap*1,(l).flatMap cI⟩::Z) (fun r S'=>r = .dF []∧∃(lz:List Int),(lz.Perm l∧lz.Pairwise (Rc cF Lt))∧S'=⟨U,3,cap*1,(lz).flatMap cI⟩::Z):=by
 refine VC.body func129 rfl ntmps129 aS fun X0 w0 aZ=>?_;have da:=dW;refine af [0,1,2,6] ?_;refine af [0,1,2,6,7,8] ?_;refine CD.seq ?_;refine CD.block ?_;refine mR (fun (E:Nat×List Int) aI=>match E with|(k,cur)=>(20*k≤I)∧(x6 (Rc cF Lt) l cur k)∧aI=(⟨63,[(0,aR (some ⟨U,0,none⟩) I cap),(1,ae (I:Nat)),(2,.eB (.func fc) O),(6,ae 20),(7,ae (20*k:Nat)),(8,ae (20*(k+1):Nat))],(⟨U,3,cap*1,(cur).flatMap cI⟩::Z)⟩:St)) (fun (E:Nat×List Int)=>match E with|(k,cur)=>3-k) (0,l) ⟨(Nat.zero_le _),(.inl ⟨rfl,rfl⟩),rfl⟩ (aQ (h:=by repeat (first|exact trivial|refine⟨(by (repeat (first|exact fD|(apply fX;focus (first|rfl|(rw[show(20*(k+1):Nat)=20*k+20 by omega];rfl)|(simp;done)|(congr 3;omega)))|(apply fH;focus rfl)));done),?_⟩))) ?_;rintro⟨k,cur⟩ _ ⟨hk,fG,rfl⟩;have kY:=fG.perm.length_eq;have sP:(cur.drop (20*k)).Pairwise Lt:=(by rw[acB fG];exact hq.drop)
 have DJ:∀x∈cur,V x:=fun x hx=>hV x (fG.perm.subset hx);refine af [0,1,2,6,7,8,13] ?_;refine au ?_ ?_<;>intro aN bC
 ·have x5:20*(k+1)≤I:=(by omega)
  refine aD 4 ?_;refine OD.call (R:=[]) ap rfl rfl rfl call152 (TX cur I (20*k) (20*(k+1)) cap U fc O Z cF V Lt DJ hc vn ht ha sP w4 w4 w4 pJ rh w4) ⟨ot,ot,ot,ot,trivial⟩ oQ ?_;rintro _ _ ⟨rfl,c1,ajK,rfl⟩;refine OD.perm (S':=⟨U,3,cap*1,(c1).flatMap cI⟩::Z) oQ ?_;refine an 63 [0,1,2,6,8] ?_;refine af [0,1,2,6,7,8] ?_;refine iF [0,1,2,6,7,8] ?_;refine aU 2 ?_ (h:=by exact(c8 rfl ot ot (ko (r:=((20*(k+1+1):Nat):Int)) (by rw[show(((20*(k+1):Nat):Int)+20)=((20*(k+1+1):Nat):Int) by omega];exact wrap_i64 w4 w4))));refine bG ?_;refine⟨((k+1),c1),_,cD,(aQ (h:=by repeat (first|exact trivial|refine⟨(by (repeat (first|exact fD|(apply fX;focus (first|rfl|(rw[show(20*(k+1):Nat)=20*k+20 by omega];rfl)|(simp;done)|(congr 3;omega)))|(apply fH;focus rfl)));done),?_⟩))),w4,(acA fG w4 ajK),rfl⟩
 have x5:I<20*(k+1):=(by omega)
 refine aD 4 ?_;refine OD.call (R:=[]) ap rfl rfl rfl call152 (TX cur I (20*k) I cap U fc O Z cF V Lt DJ hc vn ht ha sP w4 w4 w4 pJ rh w4) ⟨ot,ot,ot,ot,trivial⟩ oQ ?_;rintro _ _ ⟨rfl,c2,VG,rfl⟩;refine OD.perm (S':=⟨U,3,cap*1,(c2).flatMap cI⟩::Z) oQ ?_;have ff:=aef fG hk x5 oV gj VG;have VH:c2.Perm l:=VG.perm.trans fG.perm;refine an 63 [0,1,2,6] ?_;refine eK [0,1,2] (fun aW _ (E:Nat×List Int) aI=>match E with|(q,cur)=>((q=20∧cur=c2)∨(q=40∧(cur.Perm l∧cur.Pairwise (Rc cF Lt))))∧aI=(⟨63,(6,ae (q:Nat))::aW,(⟨U,3,cap*1,(cur).flatMap cI⟩::Z)⟩:St)) (fun (E:Nat×List Int)=>match E with|(q,cur)=>40-q) (20,c2) ⟨(.inl ⟨rfl,rfl⟩),rfl⟩ ?_;rintro⟨q,cur⟩ _ ⟨C9,rfl⟩;refine af [0,1,2,6,30] ?_;refine au ?_ ?_<;>intro aY cz
 ·obtain⟨rfl,rfl⟩:q=20∧cur=c2:=(by (rcases C9 with h|h;exact h;omega))
  have Ks:Gc (Rc cF Lt) l cur I:=(by (rcases ff with h|h;omega;exact h.2))
  have VJ:=acC Ks hq;have kY:=VH.length_eq;have DJ:∀x∈cur,V x:=fun x hx=>hV x (VH.subset hx);refine af [0,1,2,6,7,8] ?_;refine eK [0,1,2,6] (fun aW _ (E:Nat×List Int) aI=>match E with|(j,c3)=>((j=0∧c3=cur)∨(j=1∧I=40∧(c3.Perm l∧c3.Pairwise (Rc cF Lt))))∧aI=(⟨63,(7,ae (40*j:Nat))::(8,ae (40*(j+1):Nat))::aW,(⟨U,3,cap*1,(c3).flatMap cI⟩::Z)⟩:St)) (fun (E:Nat×List Int)=>match E with|(j,c3)=>1-j) (0,cur) ⟨(.inl ⟨rfl,rfl⟩),rfl⟩ ?_;rintro⟨j,c3⟩ _ ⟨qx,rfl⟩;refine af [0,1,2,6,7,8,35] ?_;refine au ?_ ?_<;>intro bZ cM
  ·obtain⟨qw,rfl⟩:j=0∧c3=cur:=(by (rcases qx with h|h;exact h;omega))
   have K3:I=40:=(by omega)
   refine aD 4 ?_;refine bH (c8 rfl ot ot (ko (r:=((20:Nat):Int)) (by rw[qw];rfl))) ?_;refine aE 2 ?_;have aoa:=K3;refine OD.call (R:=[]) ap rfl rfl rfl call153 (TY I cap U fc O Z cF V Lt hc vn ht ha pJ rh w4 _ c3 (40*j) 20 (40*(j+1)) rfl (by rw[show 40*j=0 by omega,show 40*(j+1)=I by omega];exact VJ) w4 w4 w4 DJ) ⟨ot,ot,ot,ot,ot,trivial⟩ oQ ?_;rintro _ _ ⟨rfl,c5,ajL,rfl⟩;refine OD.perm (S':=⟨U,3,cap*1,(c5).flatMap cI⟩::Z) oQ ?_;have ajM:Part (Rc cF Lt) c3 c5 0 I:=(by have:=ajL;rwa [show 40*j=0 by omega,show 40*(j+1)=I by omega] at this)
   refine an 63 [0,1,2,6,8] ?_;refine af [0,1,2,6,7,8] ?_;refine cm [0,1,2,6,7,8] ?_;refine⟨(1,c5),_,cD,aQ,(.inr ⟨rfl,K3,Q9 Ks ajM gj⟩),rfl⟩
  refine CD.exit ?_;refine jV [0,1,2,6] (fun aW _ aI=>∃(c4:List Int),((c4.Perm l∧c4.Pairwise (Rc cF Lt)))∧aI=(⟨63,aW,(⟨U,3,cap*1,(c4).flatMap cI⟩::Z)⟩:St)) ?_ ?_
  ·refine cQ [0,1,2,6,7,9] ?_;refine aU 2 ?_ (h:=by exact(c8 rfl ot ot (ko (r:=((40*j+20:Nat):Int)) (by rw[show(((40*j:Nat):Int)+((20:Nat):Int))=((40*j+20:Nat):Int) by omega];exact wrap_i64 w4 w4))));refine bG ?_;refine af [0,1,2,6,7,9,54] ?_;refine au ?_ ?_<;>intro cW ek
   ·obtain⟨qw,rfl⟩:j=0∧c3=cur:=(by (rcases qx with h|h;exact h;omega))
    refine dN 5 ?_;refine OD.call (R:=[]) ap rfl rfl rfl call153 (TY I cap U fc O Z cF V Lt hc vn ht ha pJ rh w4 _ c3 (40*j) (40*j+20) I rfl (by rw[show 40*j=0 by omega];exact VJ) w4 w4 w4 DJ) ⟨ot,ot,ot,ot,ot,trivial⟩ oQ ?_;rintro _ _ ⟨rfl,c6,ajN,rfl⟩;refine OD.perm (S':=⟨U,3,cap*1,(c6).flatMap cI⟩::Z) oQ ?_;have ajO:Part (Rc cF Lt) c3 c6 0 I:=(by have:=ajN;rwa [show 40*j=0 by omega] at this)
    refine an 63 [0,1,2,6] ?_;refine⟨_,aQ,c6,(Q9 Ks ajO gj),rfl⟩
   have He:(c3.Perm l∧c3.Pairwise (Rc cF Lt)):=(by (rcases qx with h|h;omega;exact h.2.2))
   refine CD.skip ?_;refine⟨_,aQ,c3,He,rfl⟩
  rintro _ ⟨c4,eA,rfl⟩;refine cm [0,1,2,6] ?_;refine⟨(40,c4),_,cD,aQ,(.inr ⟨rfl,eA⟩),rfl⟩
 have nk:(cur.Perm l∧cur.Pairwise (Rc cF Lt)):=(by (rcases C9 with ⟨rfl,rfl⟩|h;(rcases ff with h|h;exact h.2;omega);exact h.2))
 refine aJ _ ?_;exact⟨rfl,_,nk,rfl⟩
theorem aeg(O cap U Z:Nat)(E:List D)(I:List ah)(cF:Int→Int→Int)(V:Int→Prop)(Lt:Int→Int→Prop)(hc:∀x y,V x→V y→VC Tryz.prog G Z ([ae x,ae y]++E) I (fun r S'=>r=ae (cF x y)∧S'=I))(vn:∀args w,(callFunc Z args).run Tryz.prog w = .ok (.enter Z args) w)(ht:∀{x y z:Int},Rc cF Lt x y→Rc cF Lt y z→Rc cF Lt x z)(ha:∀x y,0≤cF y x→cF x y≤0)(pJ:O≤cap)(rh:cap≤maxLen)(oV:O≤40)(l:List Int)(hq:l.Pairwise Lt)(gj:l.length=O)(hV:∀x∈l,V x):VC Tryz.prog G 87 [aR (some ⟨U,0,none⟩) O cap,.eB (.func Z) E] (⟨U,3,cap*1,(l).flatMap cI⟩::I) (fun r S'=>r = .dF []∧∃(lz:List Int),(lz.Perm l∧lz.Pairwise (Rc cF Lt))∧S'=⟨U,3,cap*1,(lz).flatMap cI⟩::I):=by
 refine VC.body func87 rfl ntmps87 aS fun X0 w0 aZ=>?_;have da:=dW;refine dN 4 ?_;refine OD.call (R:=[]) ap rfl rfl rfl call129 (aaY O cap U Z E I cF V Lt hc vn ht ha pJ rh oV l hq gj hV) ⟨ot,ot,ot,trivial⟩ oQ ?_;rintro _ _ ⟨rfl,lz,xW,rfl⟩;refine OD.perm (S':=⟨U,3,cap*1,(lz).flatMap cI⟩::I) oQ ?_;refine an 9 [] ?_;refine aJ _ ?_;exact⟨rfl,_,xW,rfl⟩

end Go.Proofs.YtdgichenhdikgaaGreatDoor.So
namespace Go.Proofs.YtdgichenhdikgaaGreatDoor.Ba
open List
open Go.Proofs.Tryz
open Go.RowKit V Pk Tr Vl Go.Proofs.YtdgichenhdikgaaGreatDoor.Nm Pc Cd Ex Tw Go.Proofs.YtdgichenhdikgaaGreatDoor.So
variable {t:aL} {o n:Nat} {i k:Int}
theorem aeh(a b:Vl):gH a b<0↔a.k<b.k∨(a.k=b.k∧(a.n<b.n∨(a.n=b.n∧Go.Lib.compareBytes a.s.data.toList b.s.data.toList<0))):=by
 exact z87
theorem PC{a b:Vl}(h:gH a b=0):a=b:=by
 unfold gH cmpL iP iP iP iP at h;have hs:a.k=b.k∧a.n=b.n∧Go.Lib.compareBytes a.s.data.toList b.s.data.toList=0:=by
  rcases yj a.k b.k with ⟨h1,h2⟩|⟨h1,h2⟩|⟨h1,h2⟩<;>rcases yj a.n b.n with ⟨k1,k2⟩|⟨k1,k2⟩|⟨k1,k2⟩<;>simp only[h1,k1] at h<;>(repeat' split at h)<;>first|omega|(refine⟨h2,k2,?_⟩;omega)
 obtain⟨e1,e2,E⟩:=hs;obtain⟨k,n,s⟩:=a;obtain⟨k',n',s'⟩:=b;simp only at e1 e2 E;subst e1 e2;rw[I2 (Kj.1 E)]
theorem SX{a b c:Vl}(h1:gH a b<0)(h2:gH b c<0):gH a c<0:=by
 rw[aeh] at h1 h2 ⊢;rcases h1 with h1|⟨h1,h1|⟨E,h1⟩⟩<;>rcases h2 with h2|⟨h2,h2|⟨I,h2⟩⟩<;>first|omega|(refine .inr ⟨by omega,.inr ⟨by omega,?_⟩⟩;exact mB h1 h2)
def cellAt(t:aL)(o:Nat)(i:Int):Vl:=(rowAt t i).getD o bQ
def lN(t:aL)(down:Bool)(o:Nat)(i k:Int):Int:=if down=true then -(gH (cellAt t o i) (cellAt t o k)) else gH (cellAt t o i) (cellAt t o k)
def Hf(t:aL)(i k:Int):Prop:=bN (c9 (rowAt t i)) (c9 (rowAt t k))
theorem PF(t:aL)(down:Bool)(o:Nat)(i k:Int):lN t down o k i = -(lN t down o i k):=by
 unfold lN;rw[Ed (cellAt t o i) (cellAt t o k)];split<;>omega
theorem aei{down:Bool}{l:Int}(h1:lN t down o i k<0)(h2:lN t down o k l<0):lN t down o i l<0:=by
 unfold lN at *;split at h1
 ·rename_i hd;rw[if_pos hd] at h2 ⊢;have e1:=Ed (cellAt t o i) (cellAt t o k);have e2:=Ed (cellAt t o k) (cellAt t o l);have E:=Ed (cellAt t o i) (cellAt t o l);have:=SX (a:=cellAt t o l) (b:=cellAt t o k) (c:=cellAt t o i) w4 w4;omega
 rename_i hd;rw[if_neg hd] at h2 ⊢;exact SX h1 h2
theorem Ic{down:Bool}(h:lN t down o i k=0):cellAt t o i=cellAt t o k:=by
 unfold lN at h;split at h
 ·exact PC w4
 exact PC h
theorem SY{down:Bool}(h:cellAt t o i=cellAt t o k)(l:Int):lN t down o i l=lN t down o k l:=by unfold lN;rw[h]
theorem acD{down:Bool}(h:cellAt t o i=cellAt t o k)(l:Int):lN t down o l i=lN t down o l k:=by unfold lN;rw[h]
abbrev vM(t:aL)(down:Bool)(o:Nat):Int→Int→Prop:=Rc (lN t down o) (Hf t)
theorem afO(t:aL)(down:Bool)(o:Nat){x y z:Int}(h1:vM t down o x y)(h2:vM t down o y z):vM t down o x z:=by
 rcases h1 with h1|⟨h1,E⟩<;>rcases h2 with h2|⟨h2,I⟩
 ·exact .inl (aei h1 h2)
 ·exact .inl (by rw[←acD (Ic h2)];exact h1)
 ·exact .inl (by rw[SY (Ic h1)];exact h2)
 exact .inr ⟨by rw[SY (Ic h1)];exact h2,mB E I⟩
theorem acE{down:Bool}{x y:Int}(h1:vM t down o x y)(h2:vM t down o y x):False:=by
 have e:=PF t down o x y;rcases h1 with h1|⟨h1,E⟩<;>rcases h2 with h2|⟨h2,I⟩
 ·omega
 ·omega
 ·omega
 exact kp _ (mB E I)
noncomputable def Kt(t:aL)(down:Bool)(o:Nat)(l:List Int):List Int:=Classical.epsilon fun lz=>lz.Perm l∧lz.Pairwise (vM t down o)
theorem SZ{down:Bool}{l lz:List Int}(h:lz.Perm l∧lz.Pairwise (vM t down o)):lz=Kt t down o l:=by
 have hs:=Classical.epsilon_spec (p:=fun lz=>lz.Perm l∧lz.Pairwise (vM t down o)) ⟨lz,h⟩;exact Perm.eq_of_pairwise (fun a b _ _ h1 h2=>(acE h1 h2).elim) h.2 hs.2 (h.1.trans hs.1.symm)
theorem EI(t:aL)(w:List aX):∀(l:List (K×Int)) (acc:List Int),(mJ t w acc l).1.Sublist (acc++l.map Prod.snd)
 | [],acc=>by unfold mJ;simp
 | x::r,acc=>by
  have h1:(mJ t w acc r).1.Sublist (acc++(x::r).map Prod.snd):=(EI t w r acc).trans (Sublist.append_left (sublist_cons_self _ _) acc);have h2:(mJ t w (acc++[x.2]) r).1.Sublist (acc++(x::r).map Prod.snd):=(by have:=EI t w r (acc++[x.2]);rwa [append_assoc] at this)
  unfold mJ;split
  ·split
   ·exact nil_sublist _
   split
   ·exact h1
   exact h2
  exact h2
def gA(t:aL)(i:Int):Prop:=0≤i∧∃h:i.toNat<t.rows.length,t.rows[i.toNat]≠[]
theorem acF{i:Nat}{c:Pc.cA}{v:Vl}(h:Pc.l9 i c v=0):dH v=0:=by
 unfold Pc.l9 at h;split at h
 ·exact h
 rename_i h1;exact Decidable.not_not.1 h1
theorem PG:∀(i:Nat) (cs:List Pc.cA) (vs:List Vl),Pc.pK i cs vs=0→vs.length≤cs.length→∀v∈vs,dH v=0
 | i,c::cs,v::vs,h,hl,w,hw=>by
  unfold Pc.pK at h;split at h
  ·rename_i h1;exact absurd h h1
  rename_i h1;rcases mem_cons.1 hw with rfl|hw
  ·exact acF (Decidable.not_not.1 h1)
  exact PG (i+1) cs vs h wN w hw
 | _,_,[],_,_,_,hw=>by cases hw
 | _,[],_::_,_,hl,_,_=>by simp at hl
theorem Ra{r:List Vl}(h:Pc.en dM r=0):∀v∈r,dH v=0:=by
 have h4:=pE h;unfold Pc.en at h;rw[if_neg BG,if_neg ze] at h;exact PG 0 dM r h ze
theorem gA.ok(g:eW t n)(h:gA t i):(rowAt t i).length=4∧(∀v∈rowAt t i,v.Ok∧dH v=0):=by
 obtain⟨h0,h1,h2⟩:=h;rw[jk h1];obtain⟨g1,g2,_⟩:=g.row _ h1 h2;exact⟨pE g1,fun v E=>⟨g2 v E,Ra g1 v E⟩⟩
theorem uW(g:eW t n)(w:List aX):∀i∈(ax t w).1,gA t i:=fun i hi=>by
 unfold ax at hi;split at hi
 ·cases hi
 have h1:=(EI t w _ []).subset hi;rw[nil_append] at h1;obtain⟨x,hx,rfl⟩:=mem_map.1 h1;obtain⟨h2,h3,h4,_⟩:=g.iZ x (EH x hx);exact⟨h2,h3,h4⟩
theorem IM(g:eW t n)(w:List aX):(ax t w).1.Pairwise (Hf t):=by
 unfold ax;split
 ·exact Pairwise.nil
 refine Pairwise.sublist (EI t w _ []) ?_;rw[nil_append,pairwise_map];have hr:(pD t.ix (iR t.az w).1.1 (iR t.az w).1.2).Pairwise fun x y=>bN x.1 y.1:=(aaK g.ix.val _).sublist (takeWhile_sublist _);refine hr.imp_of_mem fun {x y} hx hy h=>?_;obtain⟨_,p1,_,p2⟩:=g.iZ x (EH x hx);obtain⟨_,q1,_,q2⟩:=g.iZ y (EH y hy);unfold Hf;rw[jk p1,jk q1,←p2,←q2];exact h
theorem E4(g:eW t n)(w:List aX):(ax t w).1.length≤40:=by
 have hp:=IM g w;have E:=uW g w;have hnd:((ax t w).1.map Int.toNat).Nodup:=by
  rw[Nodup,pairwise_map];refine hp.imp_of_mem fun {x y} hx hy h e=>?_;obtain⟨x0,_⟩:=E x hx;obtain⟨y0,_⟩:=E y hy;have:x=y:=(by omega)
  subst this;exact kp _ h
 have I:∀j∈(ax t w).1.map Int.toNat,j∈range t.rows.length:=fun j hj=>by
  obtain⟨x,hx,rfl⟩:=mem_map.1 hj;obtain⟨_,h1,_⟩:=E x hx;exact mem_range.2 h1
 have:=hnd.length_le_of_subset I;rw[length_map,length_range] at this;exact Nat.le_trans this g.eD
variable {G:List (Nat×List Value)} {m:Int}

open Pa (cx bI)
theorem Uz:∀x y:K,-1≤Go.Lib.compareBytes x y∧Go.Lib.compareBytes x y≤1
 | [],[]=>⟨by decide,by decide⟩
 | [],_::_=>⟨(by show(-1:Int)≤-1;decide),(by show(-1:Int)≤1;decide)⟩
 | _::_,[]=>⟨(by show(-1:Int)≤1;decide),(by show(1:Int)≤1;decide)⟩
 | a::x,b::y=>by
  have:=Uz x y;rw[G0];repeat' split
  all_goals first|exact this|omega
theorem aej(a b:Vl):-1≤gH a b∧gH a b≤1:=by
 have:=Uz a.s.data.toList b.s.data.toList;exact z87
def vN(t:aL)(names:List ByteArray):List Int:=if names.length=0 then (range t.az.length).map Int.ofNat else names.map (bM t.az)
def sI(t:aL)(s:cx):Int:=if (s.order.toList==(⟨#[]⟩:ByteArray).toList)=true then 0 else bM t.az s.order
def vg(NE:Int)(l:List Int):List Int:=if 0≤NE∧NE<l.length then l.take NE.toNat else l
def zD(t:aL)(ats:List Int)(i:Int):List Vl:=ats.map fun c=>(rowAt t i).getD c.toNat bQ
noncomputable def wu(t:aL)(s:cx):List Int:=vg s.ig (Kt t s.down (sI t s).toNat (ax t s.aj).1)
noncomputable def qn(t:aL)(s:cx):(List (List Vl)×Int)×Int :=
 if (s.names.any fun n=>decide (bM t.az n<0))=true then (([],0),8)
 else if sI t s<0 then (([],0),8)
 else if (ax t s.aj).2≠0 then (([],0),(ax t s.aj).2)
 else if s.count=true then (([[⟨2,(wu t s).length,⟨#[]⟩⟩]],(wu t s).length),0)
 else (((wu t s).map (zD t (vN t s.names)),(wu t s).length),0)
def x7(p:(List (List Vl)×Int)×Int):D:=.dF [.agg [av 1 gq p.1.1,ae p.1.2],ae p.2]
theorem JX{l:List cA}{nm:ByteArray}:-1≤bM l nm∧bM l nm<l.length:=by
 unfold bM dR;split
 ·rename_i i h;have:=(findIdx?_eq_some_iff_getElem.1 h).1;omega
 omega
theorem aek(t:aL)(g:eW t n)(s:cx)(o:Nat)(ho:o<4)(b2 kI b3:Nat)(i k:Int)(hi:gA t i)(hk:gA t k):VC Tryz.prog G 88 ([ae i,ae k]++[dI b2,dI kI,dI b3]) [⟨b2,53,5,dg t⟩,⟨kI,3,1,[ae (o:Nat)]⟩,⟨b3,32,12,bI s⟩] (fun r S=>r=ae (lN t s.down o i k)∧S=[⟨b2,53,5,dg t⟩,⟨kI,3,1,[ae (o:Nat)]⟩,⟨b3,32,12,bI s⟩]):=by
 refine VC.body func88 rfl ntmps88 aS fun X0 w0 aZ=>?_;obtain⟨I,E,lU⟩:=hi;obtain⟨xC,dO,fi⟩:=hk;obtain⟨gi1,O⟩:=gA.ok g ⟨I,E,lU⟩;obtain⟨gk1,U⟩:=gA.ok g ⟨xC,dO,fi⟩;rw[jk E] at gi1 O;rw[jk dO] at gk1 U;have Z:o<(t.rows[i.toNat]'E).length:=(by omega)
 have qJ:o<(t.rows[k.toNat]'dO).length:=(by omega)
 have hci:cellAt t o i=(t.rows[i.toNat]'E)[o]:=(by unfold cellAt;rw[jk E,getD_eq_getElem?_getD,getElem?_eq_getElem Z];rfl)
 have Hg:cellAt t o k=(t.rows[k.toNat]'dO)[o]:=(by unfold cellAt;rw[jk dO,getD_eq_getElem?_getD,getElem?_eq_getElem qJ];rfl)
 have fg:=Za (G:=G) (t.rows[i.toNat]'E)[o] (t.rows[k.toNat]'dO)[o] (O _ (getElem_mem Z)).1 (U _ (getElem_mem qJ)).1;have oq:mE (t.rows[i.toNat]'E)[o] (t.rows[k.toNat]'dO)[o]=0:=(by unfold mE;rw[if_neg (by simp[(O _ (getElem_mem Z)).2]),(U _ (getElem_mem qJ)).2])
 unfold K2 at fg;rw[oq,if_neg w7] at fg;have GU:=aej (t.rows[i.toNat]'E)[o] (t.rows[k.toNat]'dO)[o];unfold dg bI;have aV:lN t s.down o i k=if s.down=true then -(gH (t.rows[i.toNat]'E)[o] (t.rows[k.toNat]'dO)[o]) else gH (t.rows[i.toNat]'E)[o] (t.rows[k.toNat]'dO)[o]:=by unfold lN;rw[hci,Hg]
 refine af [0,1,2,3,4] ?_;refine cQ [4,8] ?_;refine aU 3 ?_ (h:=by exact(dm 1 (h:=by first|exact .l (j:=i.toNat) (Int.toNat_of_nonneg I).symm E|exact .r (j:=i.toNat) (Int.toNat_of_nonneg I).symm E)));refine aU 7 ?_ (h:=by exact(dm 1 (h:=by first|exact .l (j:=k.toNat) (Int.toNat_of_nonneg xC).symm dO|exact .r (j:=k.toNat) (Int.toNat_of_nonneg xC).symm dO)));refine de (fg) ?_;refine bG ?_;refine af [8,31] ?_;refine au ?_ ?_<;>intro aN bC
 ·have hd:s.down=true:=aN;refine cQ [7] ?_;refine aU 1 ?_ (h:=by exact(Et rfl ot (JE (wrap_i64 w4 w4))));refine bG ?_;refine aJ [_,_,_] ?_;first|(rw[aV,hd,if_pos rfl,←Int.zero_sub];exact⟨rfl,rfl⟩)|(rw[aV,hd,if_neg w7];exact⟨rfl,rfl⟩)
 have hd:s.down=false:=aN;refine af [7] ?_;refine aJ [_,_,_] ?_;first|(rw[aV,hd,if_pos rfl,←Int.zero_sub];exact⟨rfl,rfl⟩)|(rw[aV,hd,if_neg w7];exact⟨rfl,rfl⟩)
theorem ael(eB:D):VP Tryz.prog G 152 [bS,ae 0,ae 0,eB] (.dF []):=by
 refine VC.body func152 rfl ntmps152 aS fun X0 w0 aZ=>?_;refine af [0,1,2,3,8] ?_;refine eK [0,1,2,3] (fun aW _ (z:Nat) aI=>(True)∧aI=(⟨53,(8,ae (0+1))::aW,[]⟩:St)) (fun (z:Nat)=>0) 0 ⟨trivial,rfl⟩ ?_;rintro z _ ⟨_,rfl⟩;refine af [0,1,2,3,8,14] ?_;refine au ?_ ?_<;>intro aN bC
 ·exact absurd aN (by simp at aN)
 exact z51
theorem Zy(eB:D):VP Tryz.prog G 129 [bS,ae 0,eB] (.dF []):=by
 refine VC.body func129 rfl ntmps129 aS fun X0 w0 aZ=>?_;refine af [0,1,2,6] ?_;refine af [0,1,2,6,7,8] ?_;refine eK [0,1,2,6] (fun aW _ (z:Nat) aI=>(True)∧aI=(⟨63,(7,ae 0)::(8,ae 20)::aW,[]⟩:St)) (fun (z:Nat)=>0) 0 ⟨trivial,rfl⟩ ?_;rintro z _ ⟨_,rfl⟩;refine af [0,1,2,6,7,8,13] ?_;refine au ?_ ?_<;>intro aN bC
 ·exact absurd aN (by simp at aN)
 refine cH [0,1,2,6] (ael eB) ?_;refine eK [0,1,2] (fun aW _ (z:Nat) aI=>(True)∧aI=(⟨63,(6,ae 20)::aW,[]⟩:St)) (fun (z:Nat)=>0) 0 ⟨trivial,rfl⟩ ?_;rintro z _ ⟨_,rfl⟩;refine af [0,1,2,6,30] ?_;refine au ?_ ?_<;>intro aY cz
 ·exact absurd aY (by simp at aY)
 exact z51
theorem acG(eB:D):VP Tryz.prog G 87 [bS,eB] (.dF []):=by
 refine VC.body func87 rfl ntmps87 aS fun X0 w0 aZ=>?_;refine iF [] ?_;refine de (Zy eB) ?_;refine jJ ?_;exact z51

end Go.Proofs.YtdgichenhdikgaaGreatDoor.Ba

namespace Go.Proofs.YtdgichenhdikgaaGreatDoor.Ba
open List
open Go.Proofs.Tryz
open Go.RowKit V Pk Go.Proofs.YtdgichenhdikgaaGreatDoor.Tr Go.Proofs.YtdgichenhdikgaaGreatDoor.Vl Go.Proofs.YtdgichenhdikgaaGreatDoor.Nm Go.Proofs.YtdgichenhdikgaaGreatDoor.Pc Go.Proofs.YtdgichenhdikgaaGreatDoor.Cd Go.Proofs.YtdgichenhdikgaaGreatDoor.Ex Go.Proofs.YtdgichenhdikgaaGreatDoor.Tw
open Pa (cx bI)
variable {j sz:Nat} {ds:List D}
section mid
variable {P:Program} {G:List (Nat×List Value)} {x:St} {o:Oper} {t b off:Nat} {y:Operand} {B:ah} {pre c post:List D} {d:D}
theorem afP(hp:pre.length=off)(hj:c[j]?=some d):(pre++(c++post))[off+j]?=some d:=by
 subst hp;rw[getElem?_append_right w4,Nat.add_sub_cancel_left,getElem?_append_left (List.getElem?_eq_some_iff.1 hj).1];exact hj
theorem Rb{m:List D}(hp:pre.length=off)(hm:pU j c m)(hd:mj sz m ds):((pre++(c++post)).drop (off+j)).take sz=ds:=by
 subst hp;obtain⟨h1,h2⟩:=hd.eq;have h3:=hm.eq;have hl:j+sz≤c.length∨sz=0:=by
  have:=congrArg length h1;rw[length_take,h2,←h3,length_drop] at this;omega
 rw[←drop_drop,drop_left' rfl];rcases hl with hl|rfl
 ·rw[drop_append_of_le_length w4,h3,take_append_of_le_length (by rw[←h3,length_drop];omega)];exact h1
 rw[List.take_zero];rw[List.take_zero] at h1;exact h1
theorem A9{E:List D}(hp:pre.length=off)(hl:j+ds.length≤c.length)(hc:dh c j ds=E):dh (pre++(c++post)) (off+j) ds=pre++(E++post):=by
 subst hp hc;rw[uE _ _ _ hl,uE _ _ _ (by simp only[length_append];omega)];rw[take_append,take_of_length_le w4,Nat.add_sub_cancel_left,take_append_of_le_length w4,Nat.add_assoc,←drop_drop (l:=pre++(c++post)),drop_left' rfl,drop_append_of_le_length w4];simp only[append_assoc]
theorem oD(k:Nat)(ho:o.op = .load t y:=by exact rfl)(hy:aG x y = .v (.pointer (some ⟨b,off+j,none⟩)):=by exact ot)(ha:qD P t false=true:=by kernel_rfl)(hk:x.S[k]?=some B:=by exact rfl)(hb:B.b=b:=by exact rfl)(dB:B.cs=pre++(c++post):=by exact rfl)(hp:pre.length=off:=by assumption)(hj:c[j]?=some d:=by exact rfl)(hne:isMap B.e=false:=by exact rfl):bV P G x o (.fC k) d :=
 DX (hne:=hne) ho hy hk hb (iK ha) (by rw[dB];exact afP hp hj)
theorem xn(k:Nat){m:List D}(ho:o.op = .load t y:=by exact rfl)(hy:aG x y = .v (.pointer (some ⟨b,off+j,none⟩)):=by exact ot)(hn:qC P t sz=true:=by exact Sz.h)(ha:qD P t true=true:=by kernel_rfl)(hk:x.S[k]?=some B:=by exact rfl)(hb:B.b=b:=by exact rfl)(dB:B.cs=pre++(c++post):=by exact rfl)(hp:pre.length=off:=by assumption)(hm:pU j c m:=by exact qk)(hd:mj sz m ds:=by exact ng)(hne:isMap B.e=false:=by exact rfl):bV P G x o (.fC k) (.agg ds) :=
 Ay (hne:=hne) ho hy hk hb (iK ha) (lI hn) hd.eq.2 (by rw[dB];exact Rb hp hm hd)
theorem Lr(k:Nat)(ho:o.op = .load t y:=by exact rfl)(hy:aG x y = .v (.pointer (some ⟨b,off,none⟩)):=by exact ot)(hn:qC P t sz=true:=by exact Sz.h)(ha:qD P t true=true:=by kernel_rfl)(hk:x.S[k]?=some B:=by exact rfl)(hb:B.b=b:=by exact rfl)(dB:B.cs=pre++(c++post):=by exact rfl)(hp:pre.length=off:=by assumption)(hd:mj sz c ds:=by exact ng)(hne:isMap B.e=false:=by exact rfl):bV P G x o (.fC k) (.agg ds) :=
 Ay (hne:=hne) ho hy hk hb (iK ha) (lI hn) hd.eq.2 (by rw[dB];exact Rb (j:=0) hp .z hd)
end mid
variable {G:List (Nat×List Value)} {m:Int}
noncomputable def gC(t:aL)(row:List Vl):aL×Int :=
 if Pc.en t.az row≠0 then (t,Pc.en t.az row) else if iy t.ix (c9 row) (dK t.ix)=true then (t,9) else if t.rows.length=40 then (t,10)
 else ({t with rows:=t.rows++[row],ix:=gJ t.ix (dK t.ix) (c9 row) t.rows.length},0)
def tC(t:aL)(ad:Option Addr)(cap:Nat):List D:=[bn t.nm,av 2 cC t.az,aR ad t.rows.length cap,av 5 cP t.ix.ag,ae t.ix.root]
abbrev vo(t:aL)(ad:Option Addr)(cap:Nat)(S:List ah):Prop:=bz 28 1 (t.rows.flatMap gq) t.rows.length ad cap S
theorem wm{r:List Vl}(h:Pc.en dM r=0):1≤(c9 r).length∧(c9 r).length≤100:=by
 refine⟨?_,SQ _⟩;have h4:=pE h;have hz:=Ra h;match r,h4 with
 | [a,b,c,d],_ =>
  have ha:dH a=0:=hz a mem_cons_self;unfold c9 ga;rw[if_neg bu,if_neg (by simp[sC,ha])];have hl:(gb [a]).length≤43:=(by have:=Ez (l:=[a]) (fun v E=>by rw[mem_singleton] at E;rw[E];exact ha);simpa using this)
  rw[if_neg (by show ¬(gb [a]).length>100;omega)];show 1≤(gb [a]).length;unfold gb Cd.u7;simp

theorem Zz:(Tryz.prog.info? 28).map (fun i=>(i.zero,i.size,i.bytes))=some (some (.slice none 0 0),1,24):=by kernel_rfl

theorem H8(hm:(3,marksC)∈G)(hw:(1,wordsC)∈G)(ht:(0,typesC)∈G)(hG:(2,[Value.int .i64 m])∈G)(t:aL){n:Nat}(g:eW t n)(hn:n≤300)(row:List Vl)(rG:row.length≤1000)(aT:∀v∈row,v.Ok)(bt off I:Nat)(pre post:List D)(hp:pre.length=off)(ad:Option Addr)(cap:Nat)(Sr:List ah)(Z:vo t ad cap Sr):VC Tryz.prog G 43 [.v (.pointer (some ⟨bt,off,none⟩)),av 3 cV row] (⟨bt,53,I,pre++(tC t ad cap++post)⟩::Sr) (fun r S=>r=ae (gC t row).2∧((gC t row).2=0→∃nP E oE,vo (gC t row).1 nP E oE∧S=⟨bt,53,I,pre++(tC (gC t row).1 nP E++post)⟩::oE)):=by
 refine VC.body func43 rfl ntmps43 aS fun X0 w0 aZ=>?_;have hko:=fun h=>wm (r:=row) h;have x8:=JK (G:=G) hm hw ht t.az xx xw row (Nat.le_trans rG w7);have da:=dW;have mI:=g.eD;unfold tC;refine af [0,1] ?_;refine cQ [0,1,5] ?_;refine aU 3 ?_ (h:=by exact(oD 0));refine de (x8) ?_;refine bG ?_;refine af [0,1,5,17] ?_;refine au ?_ ?_<;>intro aN bC
 ·have hne:Pc.en t.az row≠0:=(by simpa using aN)
  have aV:gC t row=(t,Pc.en t.az row):=if_pos hne;refine af [4] ?_;refine aJ [] ?_;rw[aV];exact⟨rfl,fun h=>absurd h hne⟩
 have hz:Pc.en t.az row=0:=(by simpa using aN)
 have CM:Pc.en dM row=0:=(by rw[←g.az];exact hz)
 have dY:=hko CM;have hr4:=pE CM;have O:=yQ (G:=G) hG row w4 w4 aT;refine CD.skip ?_;refine CD.seq ?_;refine CD.seq ?_;rcases iW:iy t.ix (c9 row) (dK t.ix) with _|_
 ·have fy:=JS (G:=G) g.ix (c9 row);rw[ad8 g.ix dY iW] at fy;unfold Tw.cT at fy;have U:=Q2 (G:=G) g.ix (c9 row) (t.rows.length:Int);rw[TU g.ix hn dY w4 iW] at U;unfold Tw.cT at U;refine iF [0,1,7] ?_;refine aU 3 ?_ (h:=by exact(xn 0));refine de (O) ?_;refine de (fy) ?_;refine bG ?_;refine af [0,1,30] ?_;refine au ?_ ?_<;>intro aY cz
  ·exact absurd aY (by simp at aY)
  refine cQ [0,1,36] ?_;refine aU 3 ?_ (h:=by exact(oD 0));refine bG ?_;refine au ?_ ?_<;>intro bZ cM
  ·have aV:gC t row=(t,10):=(by unfold gC;rw[if_neg (by simp[hz]),if_neg xy,if_pos w4])
   refine af [4] ?_;refine aJ [] ?_;rw[aV];exact⟨rfl,fun h=>absurd (show(10:Int)=0 from h) w7⟩
  have aV:gC t row=({t with rows:=t.rows++[row],ix:=gJ t.ix (dK t.ix) (c9 row) t.rows.length},0):=(by unfold gC;rw[if_neg (by simp[hz]),if_neg xy,if_neg w4])
  refine CD.skip ?_;refine CD.seq ?_;refine ug 16 15 [0,1,8,50,51] ?_;refine aU 3 ?_ (h:=by exact(xn 0));refine de (O) ?_;refine aU 3 ?_ (h:=by exact(oD 0));refine de (U) ?_;refine mS 3 ?_;refine rC ?_;refine jJ ?_;refine⟨rfl,fun b8=>?_⟩;refine aP 0 [_,_] sizeOf51 ?_;refine an 70 [0,1,8,9] ?_;refine af [0,1,8,9,53] ?_;refine au ?_ ?_<;>intro cW ek
  ·exact absurd cW (by simp at cW)
  refine aD 4 ?_;refine OD.storeAt (k:=1) (cs':=pre++([bn t.nm,av 2 cC t.az,aR ad t.rows.length cap,.list 5 ((gJ t.ix (dK t.ix) (c9 row) t.rows.length).ag.flatMap cP) (gJ t.ix (dK t.ix) (c9 row) t.rows.length).ag.length,ae (gJ t.ix (dK t.ix) (c9 row) t.rows.length).root]++post)) ap rfl rfl ot rfl rfl ot rfl rfl sizeOf51 rfl (by show off+3+2≤(pre++(([bn t.nm,av 2 cC t.az,aR ad t.rows.length cap,av 5 cP t.ix.ag,ae t.ix.root]:List D)++post)).length;simp only[length_append,length_cons,length_nil];omega) (by exact A9 (j:=3) hp aS rfl) ?_;refine an 70 [0,1] ?_;refine CD.seq ?_;refine fO 9 (aq (take 2 _)) ?_ (fun _ h=>(Sublist.map _ (take_sublist _ _)).subset h);refine ay 0 rfl bf ?_;refine ay 1 rfl bf ?_;refine ay 2 rfl lO ?_;refine ay 3 rfl (dj 2) ?_;refine ay 4 rfl (oD 1) ?_;refine ay 5 rfl bf ?_;refine di.later rfl ?_;refine AD.one (i:=6) aA ?_;refine jG call31 (Pw row w4) ?_;refine AD.one (i:=7) aA ?_;refine jt (cf 0 [_]) [.slice none 0 0] [_] zeroValue28 runUnderlying34 sizeOf28 (fun oY=>?_);refine ju 0 66 1 1 ?_;refine AD.one (i:=8) aA ?_;refine bj.ew (ls:=t.rows) (new:=[row]) (Sq:=Sr) kj Q4 rfl ap rfl rfl underlying34 Zz rfl w7 ot Z (dD (A:=[_,_])) ot bu nq nr (fun qy qZ FP FQ=>?_);refine AD.perm (ee (S1:=[⟨qy,28,qZ*1,flatMap gq (t.rows++[row])⟩]) (A:=[_,_])) ?_;refine eJ ?_;refine aE 2 ?_
  refine OD.storeAt (k:=1) (cs':=pre++((([bn t.nm,av 2 cC t.az,aR ad t.rows.length cap,.list 5 ((gJ t.ix (dK t.ix) (c9 row) t.rows.length).ag.flatMap cP) (gJ t.ix (dK t.ix) (c9 row) t.rows.length).ag.length,ae (gJ t.ix (dK t.ix) (c9 row) t.rows.length).root]:List D)).set 2 (aR (some ⟨qy,0,none⟩) ((t.rows++[row])).length qZ)++post)) ap rfl rfl ot rfl rfl ot rfl rfl sizeOf34 rfl (by show off+2+1≤(pre++(([bn t.nm,av 2 cC t.az,aR ad t.rows.length cap,.list 5 ((gJ t.ix (dK t.ix) (c9 row) t.rows.length).ag.flatMap cP) (gJ t.ix (dK t.ix) (c9 row) t.rows.length).ag.length,ae (gJ t.ix (dK t.ix) (c9 row) t.rows.length).root]:List D)++post)).length;simp only[length_append,length_cons,length_nil];omega) (by exact A9 (j:=2) hp aS rfl) ?_;refine an 70 [] ?_;refine af [4] ?_;refine aJ (⟨bt,53,I,pre++(_++post)⟩::[⟨qy,28,qZ*1,flatMap gq (t.rows++[row])⟩]) ?_;rw[aV];exact⟨rfl,fun _=>⟨(some ⟨qy,0,none⟩),qZ,[⟨qy,28,qZ*1,flatMap gq (t.rows++[row])⟩],(bF FP FQ),rfl⟩⟩
 obtain⟨rw0,ajP⟩:=(AM g.ix (c9 row)).1 iW;have fy:=JS (G:=G) g.ix (c9 row);rw[Q1 g.ix dY ajP] at fy;unfold Tw.cT at fy;have aV:gC t row=(t,9):=(by unfold gC;rw[if_neg (by simp[hz]),if_pos iW])
 refine iF [0,1,7] ?_;refine aU 3 ?_ (h:=by exact(xn 0));refine de (O) ?_;refine de (fy) ?_;refine bG ?_;refine af [0,1,30] ?_;refine au ?_ ?_<;>intro aY cz
 ·refine af [4] ?_;refine aJ [] ?_;rw[aV];exact⟨rfl,fun h=>absurd (show(9:Int)=0 from h) w7⟩
 exact absurd aY (by simp at aY)

end Go.Proofs.YtdgichenhdikgaaGreatDoor.Ba

namespace Go.Proofs.YtdgichenhdikgaaGreatDoor.Ba
open List
open Go.Proofs.Tryz
open Go.RowKit V Pk Tr Vl Go.Proofs.YtdgichenhdikgaaGreatDoor.Nm Pc Cd Ex Tw
open Pa (cx bI)
variable {G:List (Nat×List Value)} {m:Int}
variable {t:aL} {n:Nat} {i:Int}
theorem Jv{t:aF}(g:iL t n){x y:K×Int}(hx:x∈eE t)(hy:y∈eE t)(h:x.1=y.1):x=y:=by
 have hr:(eE t).Pairwise (fun a b=>bN a.1 b.1):=HZ g.val;obtain⟨i,hi,rfl⟩:=mem_iff_getElem.1 hx;obtain⟨j,hj,rfl⟩:=mem_iff_getElem.1 hy;have hp:=pairwise_iff_getElem.1 hr;rcases Nat.lt_trichotomy i j with q|q|q
 ·have:=hp i j hi hj q;rw[h] at this;exact absurd this (kp _)
 ·subst q;rfl
 have:=hp j i hj hi q;rw[h] at this;exact absurd this (kp _)
theorem gA.iZ(g:eW t n)(h:gA t i):(c9 (rowAt t i),i)∈eE t.ix:=by
 obtain⟨h0,h1,h2⟩:=h;have:=(g.row _ h1 h2).2.2;rw[jk h1];rwa [Int.toNat_of_nonneg h0] at this
noncomputable def nL(t:aL)(i:Int):aL:={t with rows:=t.rows.set i.toNat [],ix:=gK t.ix (dK t.ix) (c9 (rowAt t i))}
noncomputable def rj:aL→List Int→aL
 | t,[]=>t
 | t,i::r=>rj (nL t i) r
noncomputable def mA(t:aL)(w:List aX):aL×Int×Int:=if (ax t w).2≠0 then (t,0,(ax t w).2) else (rj t (ax t w).1,(ax t w).1.length,0)
theorem afQ(g:eW t n)(h:gA t i):iL (gK t.ix (dK t.ix) (c9 (rowAt t i))) n∧∀x,x∈eE (gK t.ix (dK t.ix) (c9 (rowAt t i)))↔x∈eE t.ix∧x.1≠c9 (rowAt t i) :=
 IJ g.ix ((AL g.ix.val _).2 ⟨i,h.iZ g⟩)
theorem PI(g:eW t n)(h:gA t i):eW (nL t i) n:=by
 obtain⟨d1,d2⟩:=afQ g h;have I:=h.iZ g;obtain⟨h0,h1,h2⟩:=h;refine⟨g.nm,g.az,by show(t.rows.set _ _).length≤40;rw[length_set];exact g.eD,d1,fun j hj hne=>?_,fun x hx=>?_⟩
 ·simp only[nL] at hj hne ⊢;rw[length_set] at hj;rw[getElem_set] at hne;split at hne
  ·exact absurd rfl hne
  rename_i E;have he:(t.rows.set i.toNat [])[j]'xq=t.rows[j]:=getElem_set_ne E _;rw[he];obtain⟨p1,p2,p3⟩:=g.row j hj hne;refine⟨p1,p2,(d2 _).2 ⟨p3,fun e=>?_⟩⟩;have:=Jv g.ix p3 I e;simp only[Prod.mk.injEq] at this;omega
 obtain⟨x1,O⟩:=(d2 x).1 hx;obtain⟨p0,p1,p2,p3⟩:=g.iZ x x1;have E:i.toNat≠x.2.toNat:=fun e=>by
  refine O ?_;rw[p3,jk h1];congr 1;simp only[e]
 refine⟨p0,by show _<(t.rows.set _ _).length;rw[length_set];exact p1,?_⟩;have he:(t.rows.set i.toNat [])[x.2.toNat]'(by rw[length_set];exact p1)=t.rows[x.2.toNat]:=getElem_set_ne E _;show(t.rows.set i.toNat [])[x.2.toNat]'(by rw[length_set];exact p1)≠[]∧x.1=c9 ((t.rows.set i.toNat [])[x.2.toNat]'(by rw[length_set];exact p1));rw[he];exact⟨p2,p3⟩
theorem S4{j:Int}(h:gA t j)(E:j≠i)(hi:0≤i):gA (nL t i) j:=by
 obtain⟨h0,h1,h2⟩:=h;refine⟨h0,by show _<(t.rows.set _ _).length;rw[length_set];exact h1,?_⟩;show(t.rows.set i.toNat [])[j.toNat]'(by rw[length_set];exact h1)≠[];have e:=getElem_set_ne (l:=t.rows) (i:=i.toNat) (j:=j.toNat) (a:=[]) w4 (by rw[length_set];exact h1);rw[e];exact h2
theorem Em(g:eW t n)(w:List aX):(ax t w).1.Nodup:=(IM g w).imp fun h e=>by rw[e] at h;exact kp _ h
theorem aaZ(hm:(3,marksC)∈G)(hw:(1,wordsC)∈G)(ht:(0,typesC)∈G)(hG:(2,[Value.int .i64 m])∈G)(t:aL)(g:eW t n)(s:cx)(ho:∀o∈s.aj,o.nm.size≤maxLen)(fU:∀o∈s.aj,o.v.Ok)(bt off pZ:Nat)(pre post:List D)(hp:pre.length=off)(ad:Option Addr)(cap:Nat)(Sr:List ah)(kE:vo t ad cap Sr):VC Tryz.prog G 46 [.v (.pointer (some ⟨bt,off,none⟩)),.agg (bI s)] (⟨bt,53,pZ,pre++(tC t ad cap++post)⟩::Sr) (fun r S=>r = .dF [ae (mA t s.aj).2.1,ae (mA t s.aj).2.2]∧((mA t s.aj).2.2=0→∃nP kG oE,vo (mA t s.aj).1 nP kG oE∧S=⟨bt,53,pZ,pre++(tC (mA t s.aj).1 nP kG++post)⟩::oE)):=by
 refine VC.body func46 rfl ntmps46 aS fun X0 w0 aZ=>?_;have da:=dW;have mI:=g.eD;have DK:=E4 g s.aj;have mu:=uW g s.aj;have hnd:=Em g s.aj;unfold tC;unfold bI;refine bY ?_;refine OD.box (ds:=[_,_,_,_,_,_,_,_,_,_,_,_]) ap rfl rfl ot rfl rfl (fun b3=>?_);refine an 56 [0,3] ?_;refine CD.seq ?_;refine fO 9 (aq (take 2 _)) ?_ (fun _ h=>(Sublist.map _ (take_sublist _ _)).subset h);refine ay 0 rfl bf ?_;refine ay 1 rfl lO ?_;refine ay 2 rfl (Lr 1) ?_;refine ay 3 rfl (dj 6) ?_;refine ay 4 rfl (dJ 0) ?_;refine di.later rfl ?_;refine AD.one (i:=5) aA ?_;refine bj.Kc rfl ap rfl rfl rfl call86 (JW hm hw ht hG t g s.aj ho fU) (fun r S h=>h.flat) ⟨⟨_,ot,(uI ⟨eU,eU,lE kE (cn kj _) (fun B hB=>by simp[hB]),eU,eU,trivial⟩:View _ (.agg [bn t.nm,av 2 cC t.az,aR ad t.rows.length cap,av 5 cP t.ix.ag,ae t.ix.root]) (.agg (dg t)))⟩,⟨_,ot,eU⟩,trivial⟩ ?_;rintro _ Sx ⟨dQ,dc,rfl,ec⟩;refine AD.perm (jj (A:=[_,_])) ?_;refine cy 6 rfl bf ?_;refine cy 7 rfl Mz ?_;refine cy 8 rfl Mz ?_;refine eJ ?_;refine bg [0,6,7] ?_;refine af [0,6,7,20] ?_;refine au ?_ ?_<;>intro aN bC
 ·have hne:(ax t s.aj).2≠0:=(by simpa using aN)
  have aV:mA t s.aj=(t,0,(ax t s.aj).2):=if_pos hne;refine af [4,5] ?_;refine aJ [] ?_;rw[aV];exact⟨rfl,fun h=>absurd h hne⟩
 have hz:(ax t s.aj).2=0:=(by simpa using aN)
 have aV:mA t s.aj=(rj t (ax t s.aj).1,((ax t s.aj).1.length:Int),0):=if_neg (fun h=>h hz);refine CD.skip ?_;refine CD.seq ?_;refine CD.seq ?_;refine CD.ij (t:=6) (Sq:=Sx) lk ec (cn Tw.eI _) (oH (A:=[_,_])) ?_;refine sX ?_;refine bg [0,6,22,23,24] ?_;refine eK [0,6,22,23] (fun aW _ (U:Nat×aL×Option Addr×Nat×List ah) aI=>match U with|(k,u,Z,E,O)=>(k≤(ax t s.aj).1.length)∧(rj u ((ax t s.aj).1.drop k)=rj t (ax t s.aj).1)∧(eW u n)∧(∀i∈(ax t s.aj).1.drop k,gA u i)∧(vo u Z E O)∧aI=(⟨56,(24,ae (k:Nat))::aW,(⟨b3,32,12,bI s⟩::⟨bt,53,pZ,pre++([bn u.nm,av 2 cC u.az,aR Z u.rows.length E,av 5 cP u.ix.ag,ae u.ix.root]++post)⟩::O)⟩:St)) (fun (U:Nat×aL×Option Addr×Nat×List ah)=>match U with|(k,u,Z,E,O)=>(ax t s.aj).1.length-k) (0,t,ad,cap,Sr) ⟨(Nat.zero_le _),rfl,g,mu,kE,rfl⟩ ?_;rintro⟨k,u,Z,E,O⟩ _ ⟨hk,VK,gu,j9,vO,rfl⟩;refine af [0,6,22,23,24,25] ?_;refine au ?_ ?_<;>intro aY cz
 ·have aa:k<(ax t s.aj).1.length:=(by omega)
  have jv:(ax t s.aj).1.drop k=((ax t s.aj).1[k]'aa)::(ax t s.aj).1.drop (k+1):=drop_eq_getElem_cons aa;have rK:gA u ((ax t s.aj).1[k]'aa):=j9 _ (by rw[jv];exact mem_cons_self);obtain⟨gD,I,nR⟩:=id rK;obtain⟨br,rfl,um,uo,rfl⟩:=vO.pos w4;have gu2:=PI gu rK;have gj:(nL u ((ax t s.aj).1[k]'aa)).rows.length=u.rows.length:=length_set;have ag8:rj (nL u ((ax t s.aj).1[k]'aa)) ((ax t s.aj).1.drop (k+1))=rj t (ax t s.aj).1:=(by rw[←VK,jv];rfl)
  have Lg:∀i∈(ax t s.aj).1.drop (k+1),gA (nL u ((ax t s.aj).1[k]'aa)) i:=fun i hi=>S4 (j9 i (by rw[jv];exact mem_cons_of_mem _ hi)) (fun e=>by subst e;have h9:=hnd.sublist (drop_sublist k _);rw[jv,nodup_cons] at h9;exact h9.1 hi) gD;have Ci:vo (nL u ((ax t s.aj).1[k]'aa)) (some ⟨br,0,none⟩) E [⟨br,28,E*1,(nL u ((ax t s.aj).1[k]'aa)).rows.flatMap gq⟩]:=bF (by show(u.rows.set _ _).length≤_;rw[length_set];exact um) uo;obtain⟨XT,DL⟩:=gA.ok gu rK;have vP:=yQ (G:=G) hG (u.rows[((ax t s.aj).1[k]'aa).toNat]) (by rw[←jk I];omega) (by rw[←jk I];omega) (fun v hv=>(DL v (by rw[jk I];exact hv)).1);rw[show c9 (u.rows[((ax t s.aj).1[k]'aa).toNat])=c9 (rowAt u ((ax t s.aj).1[k]'aa)) from by rw[jk I]] at vP;have x9:=Q3 (G:=G) gu.ix (c9 (rowAt u ((ax t s.aj).1[k]'aa)));rw[SK gu.ix (wm (by rw[jk I];exact(gu.row _ I nR).1)) ((AM gu.ix _).2 ⟨_,rK.iZ gu⟩)] at x9;unfold Tw.cT at x9;have aob:=gu.eD;refine af [0,6,9,22,23,24] ?_;refine CD.seq ?_;refine mg 17 [0,6,9,22,23,24,29,43] ?_;refine aU 4 ?_ (h:=by exact(xn 1));refine aU 3 ?_ (h:=by exact(oD 1));refine aU 1 ?_ (h:=by exact(dm 1 (h:=by first|exact .l (j:=((ax t s.aj).1[k]'aa).toNat) (Int.toNat_of_nonneg gD).symm I|exact .r (j:=((ax t s.aj).1[k]'aa).toNat) (Int.toNat_of_nonneg gD).symm I)))
  refine aU 0 ?_ (h:=by exact(cR (mk:=Op.load 28) rfl ot (ja (k:=2) (i:=((ax t s.aj).1[k]'aa).toNat) (ls:=u.rows) kj rfl rfl rfl isAgg28 I rfl)));refine de (vP) ?_;refine de (x9) ?_;refine bG ?_;refine aE 2 ?_;refine OD.storeAt (k:=1) (cs':=pre++([bn u.nm,av 2 cC u.az,aR (some ⟨br,0,none⟩) (nL u ((ax t s.aj).1[k]'aa)).rows.length E,.list 5 ((nL u ((ax t s.aj).1[k]'aa)).ix.ag.flatMap cP) (nL u ((ax t s.aj).1[k]'aa)).ix.ag.length,ae (nL u ((ax t s.aj).1[k]'aa)).ix.root]++post)) ap rfl rfl ot rfl rfl ot rfl rfl sizeOf51 rfl (by show off+3+2≤(pre++(([bn u.nm,av 2 cC u.az,aR (some ⟨br,0,none⟩) u.rows.length E,av 5 cP u.ix.ag,ae u.ix.root]:List D)++post)).length;simp only[length_append,length_cons,length_nil];omega) (by exact A9 (j:=3) hp aS (by rw[gj];rfl)) ?_;refine an 56 [0,6,9,22,23,24] ?_;refine dN 3 ?_;refine bH (oD 1) ?_;refine aE 1 ?_;refine bH (dm 1 (h:=by first|exact .l (j:=((ax t s.aj).1[k]'aa).toNat) (Int.toNat_of_nonneg gD).symm (by rw[gj];exact I)|exact .r (j:=((ax t s.aj).1[k]'aa).toNat) (Int.toNat_of_nonneg gD).symm (by rw[gj];exact I))) ?_
  refine OD.storeAt (k:=2) (cs':=(u.rows.flatMap gq).set ((ax t s.aj).1[k]'aa).toNat (bS)) ap rfl rfl ot rfl rfl bL rfl rfl sizeOf28 rfl (by show 0+((ax t s.aj).1[k]'aa).toNat*1+1≤(u.rows.flatMap gq).length;rw[cn kj];omega) (by show(u.rows.flatMap gq).set (0+((ax t s.aj).1[k]'aa).toNat*1) _=_;rw[Nat.zero_add,Nat.mul_one]) ?_;refine OD.cells (k:=2) (cs':=(nL u ((ax t s.aj).1[k]'aa)).rows.flatMap gq) (S':=[_,_,_]) rfl (by have:=RP (eV (sz:=3)) (u.rows.flatMap gq) ((ax t s.aj).1[k]'aa).toNat;rw[show(u.rows.flatMap gq).set ((ax t s.aj).1[k]'aa).toNat (.list 3 [] 0)=(u.rows.set ((ax t s.aj).1[k]'aa).toNat []).flatMap gq from by have:=oI kj u.rows [] I;rw[Nat.mul_one] at this;exact this] at this;exact this) rfl ?_;refine an 56 [0,6,22,23,24] ?_;refine cm [0,6,22,23,24] ?_;refine⟨((k+1),(nL u ((ax t s.aj).1[k]'aa)),(some ⟨br,0,none⟩),E,[⟨br,28,E*1,(nL u ((ax t s.aj).1[k]'aa)).rows.flatMap gq⟩]),_,cD,aQ,w4,ag8,gu2,Lg,Ci,rfl⟩
 have nk:u=rj t (ax t s.aj).1:=(by rw[←VK,drop_of_length_le w4];rfl)
 subst nk;refine af [4,5] ?_;refine aJ (⟨bt,53,pZ,pre++(_++post)⟩::O) ?_;rw[aV];exact⟨rfl,fun _=>⟨Z,E,O,vO,rfl⟩⟩

end Go.Proofs.YtdgichenhdikgaaGreatDoor.Ba
namespace Go.Proofs.YtdgichenhdikgaaGreatDoor.Ba
open List
open Go.Proofs.Tryz
open Go.RowKit V Pk Tr Vl Go.Proofs.YtdgichenhdikgaaGreatDoor.Nm Pc Cd Ex Tw
open Pa (cx bI)
variable {ops:List aX} {row:List Vl}
theorem IN:∀(i:Nat) (cs:List cA) (vs:List Vl),cs.length=vs.length→(Pc.pK i cs vs=0↔∀j (h1:j<cs.length) (h2:j<vs.length),Pc.l9 (i+j) cs[j] vs[j]=0)
 | _,[],[],_=>⟨fun _ j h1=>absurd h1 (Nat.not_lt_zero j),fun _=>rfl⟩
 | _,[],_::_,h=>by cases h
 | _,_::_,[],h=>by cases h
 | i,c::cs,v::vs,h=>by
  rw[Pc.pK];have E:=IN (i+1) cs vs (Nat.succ.inj h);by_cases he:Pc.l9 i c v=0
  ·rw[if_neg (fun h=>h he),E];constructor
   ·intro k j h1 h2;cases j with
    | zero=>exact he
    | succ j=>have:=k j (Nat.lt_of_succ_lt_succ h1) (Nat.lt_of_succ_lt_succ h2);rw[show i+(j+1)=i+1+j by omega];exact this
   intro k j h1 h2;have:=k (j+1) (Nat.succ_lt_succ h1) (Nat.succ_lt_succ h2);rw[show i+(j+1)=i+1+j by omega] at this;exact this
  rw[if_pos he];exact⟨fun h=>absurd h he,fun k=>absurd (k 0 (Nat.succ_pos _) (Nat.succ_pos _)) he⟩
theorem Jw{r:List Vl}:Pc.en dM r=0↔r.length=4∧∀j (h1:j<dM.length) (h2:j<r.length),Pc.l9 j dM[j] r[j]=0:=by
 constructor
 ·intro h;have h4:=pE h;unfold Pc.en at h;rw[if_neg BG,if_neg ze,IN 0 dM r (by rw[h4];rfl)] at h;refine⟨h4,fun j h1 h2=>?_⟩;have:=h j h1 h2;rwa [Nat.zero_add] at this
 intro ⟨h4,h⟩;unfold Pc.en;rw[if_neg BG,if_neg ze,IN 0 dM r (by rw[h4];rfl)];intro j h1 h2;rw[Nat.zero_add];exact h j h1 h2
theorem aem{i:Nat}{c:cA}{v:Vl}(h:Pc.l9 i c v=0):jO c.k v:=by
 unfold Pc.l9 at h;by_cases h1:dH v=0
 ·rw[if_neg (fun e=>e h1)] at h;by_cases h2:v.k≠c.k∧(i=0∨v.k≠0)
  ·rw[if_pos h2] at h;cases h
  exact⟨h1,by omega⟩
 rw[if_pos h1] at h;exact absurd h h1
theorem aen{r:List Vl}(h:Pc.en dM r=0):FB dM r:=fun i=>by
 obtain⟨h4,hf⟩:=Jw.1 h;have hc:dM.length=4:=rfl;rw[getD_eq_getElem?_getD,getD_eq_getElem?_getD];by_cases hi:i<4
 ·rw[getElem?_eq_getElem w4,getElem?_eq_getElem w4];exact aem (hf i w4 w4)
 rw[getElem?_eq_none w4,getElem?_eq_none w4];exact Bg
theorem S5{r:List Vl}(h:Pc.en dM r=0){c:Nat}(hc:c<dM.length){v:Vl}(E:jO dM[c].k v)(h0:c=0→v.k≠0):Pc.en dM (r.set c v)=0:=by
 obtain⟨h4,hf⟩:=Jw.1 h;refine Jw.2 ⟨by rw[length_set];exact h4,fun j h1 h2=>?_⟩;rw[length_set] at h2;rw[getElem_set];split
 ·rename_i e;subst e;unfold Pc.l9;rw[if_neg (fun e=>e E.1),if_neg (fun e=>?_)];have:=E.2;have:=e.2;have:=e.1;by_cases I:c=0
  ·have:=h0 I;omega
  omega
 exact hf j h1 h2
theorem EJ:∀(ops:List aX) (h:Int),fK h ops=0→∀o∈ops,∃h',fj h' o=0
 | [],_,_,o,ho=>by cases ho
 | x::r,h,hx,o,ho=>by
  rw[fK] at hx;by_cases he:fj h x=0
  ·rw[if_pos he] at hx;rcases mem_cons.1 ho with rfl|ho
   ·exact⟨_,he⟩
   exact EJ r _ hx o ho
  rw[if_neg he] at hx;exact absurd hx he
theorem aa0{l:List cA}(jL:∀o∈ops,o.nm.size≤maxLen)(fU:∀o∈ops,o.v.Ok)(hk:(ey l ops).2=0):∀o∈ops,y9 l o:=fun o ho=>by
 obtain⟨_,hx,he⟩:=EW hk;obtain⟨h',h1⟩:=EJ ops 0 (wj hx).2 o ho;obtain⟨_,h2,h3,_⟩:=v8 h1;exact⟨jL o ho,fU o ho,Eh h3,h2.1,h2.2,O7 (by rw[he] at hk;exact hk) o ho⟩
theorem Re{l:List cA}{row:List Vl}(hr:∀v∈row,v.Ok):∀(ops:List aX),(∀o∈ops,o.v.Ok)→∀st:List Vl,(∀v∈st,v.Ok)→(jD bQ (fZ l row) ops st).1.Ok
 | [],_,st,fG=>Jd fG 0
 | o::r,hg,st,fG=>by
  have I:(fZ l row o (fm bQ o.k st) (fa bQ o.k st)).1.Ok:=Sj hr (hg o mem_cons_self) (A3 fG _) (A4 fG _);by_cases hz:(fZ l row o (fm bQ o.k st) (fa bQ o.k st)).2=0
  ·rw[Je hz];refine Re hr r (fun x hx=>hg x (mem_cons_of_mem _ hx)) _ fun v E=>?_;rcases mem_append.1 E with E|E
   ·exact fG v (mem_of_mem_take E)
   rw[mem_singleton] at E;rw[E];exact I
  rw[Iv hz];exact tM
theorem aeo{l:List cA}(hr:∀v∈row,v.Ok)(fU:∀o∈ops,o.v.Ok):(fw l row ops).1.Ok:=by
 unfold fw;repeat' split
 all_goals first|exact tM|exact Re hr ops fU [] (fun v E=>by cases E)
theorem acH(jL:∀o∈ops,o.nm.size≤maxLen)(fU:∀o∈ops,o.v.Ok)(hw:Pc.en dM row=0)(hk:(ey dM ops).2=0)(he:(fw dM row ops).2=0):jO (ey dM ops).1 (fw dM row ops).1:=by
 obtain⟨_,_,_,h4⟩:=aag IS hw (aen hw) (aa0 jL fU hk) (EW hk).2.1;obtain⟨_,h5|h5⟩:=h4 hk
 ·rw[h5] at he;cases he
 exact h5.2
def iS(t:aL)(c:Int)(e:List aX):List Vl→List Int→List Vl×Int
 | acc,[]=>(acc,0)
 | acc,i::r=>if (fw t.az (rowAt t i) e).2≠0 then ([],(fw t.az (rowAt t i) e).2) else if c=0∧(fw t.az (rowAt t i) e).1.k=0 then ([],4) else iS t c e (acc++[(fw t.az (rowAt t i) e).1]) r
def rm(t:aL)(i:Int)(c:Nat)(v:Vl):aL:={t with rows:=t.rows.set i.toNat ((rowAt t i).set c v)}
def mK(c:Nat):aL→List Int→List Vl→aL
 | t,i::r,v::s=>mK c (rm t i c v) r s
 | t,_,_=>t
noncomputable def og(t:aL):aF→List Int→aF
 | x,[]=>x
 | x,i::r=>og t (gK x (dK x) (c9 (rowAt t i))) r
noncomputable def kC:aL→List Int→List Vl→aL×Int
 | t,i::r,v::s=>if iy t.ix (c9 (rowAt (rm t i 0 v) i)) (dK t.ix)=true then (t,9) else kC {rm t i 0 v with ix:=gJ t.ix (dK t.ix) (c9 (rowAt (rm t i 0 v) i)) i} r s
 | t,_,_=>(t,0)
noncomputable def hU(t:aL)(s:cx):aL×Int×Int :=
 if bM t.az s.set<0 then (t,0,8) else if (ey t.az s.bU).2≠0 then (t,0,(ey t.az s.bU).2)
 else if (ey t.az s.bU).1≠(t.az.getD (bM t.az s.set).toNat ⟨⟨#[]⟩,0⟩).k∧(ey t.az s.bU).1≠0 then (t,0,4)
 else if (ax t s.aj).2≠0 then (t,0,(ax t s.aj).2)
 else if (iS t (bM t.az s.set) s.bU [] (ax t s.aj).1).2≠0 then (t,0,(iS t (bM t.az s.set) s.bU [] (ax t s.aj).1).2)
 else if 0<bM t.az s.set then (mK (bM t.az s.set).toNat t (ax t s.aj).1 (iS t (bM t.az s.set) s.bU [] (ax t s.aj).1).1,(ax t s.aj).1.length,0)
 else if (kC {t with ix:=og t t.ix (ax t s.aj).1} (ax t s.aj).1 (iS t (bM t.az s.set) s.bU [] (ax t s.aj).1).1).2≠0 then (t,0,(kC {t with ix:=og t t.ix (ax t s.aj).1} (ax t s.aj).1 (iS t (bM t.az s.set) s.bU [] (ax t s.aj).1).1).2)
 else ((kC {t with ix:=og t t.ix (ax t s.aj).1} (ax t s.aj).1 (iS t (bM t.az s.set) s.bU [] (ax t s.aj).1).1).1,(ax t s.aj).1.length,0)

end Go.Proofs.YtdgichenhdikgaaGreatDoor.Ba
