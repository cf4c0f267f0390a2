/-
  GC: walks and plain facts, part 7.
-/
import Derived.Test.YtbplamgacibdaaaGreatDoorPGC6
set_option linter.unusedVariables false
set_option linter.unusedSimpArgs false
set_option maxRecDepth 100000
set_option maxHeartbeats 4000000
namespace Go.Proofs.YtbplamgacibdaaaGreatDoor.Tw
open List
open Go.Proofs.Tryz
open Go.RowKit V Tr Pk
variable {t u:aF} {h:Nat} {k up:K} {row:Int}
noncomputable def pB(t:aF)(k:K)(row:Int)(h:Nat):aF×Int:=if lJ t k=0 then (if row<0 then (wv,3) else if gS t k h=true then (wv,9) else if 4000<(gF t h k row).ag.length then (wv,10) else (gF t h k row,0)) else (wv,lJ t k)
theorem afU{ls:List Int}{r:D}{S:List ah}(h:gE cI 3 1 ls r S):lf r=true/\∀B∈S,∀d∈B.cs,lf d=true:=by
 obtain⟨ad,cap,rfl,ho⟩:=h;refine⟨rfl,fun B hB d hd=>?_⟩;rcases ho with ⟨_,_,_,_,rfl⟩|⟨b,_,_,_,rfl⟩
 ·cases hB
 rw[mem_singleton] at hB;subst hB;obtain⟨n,_,hn⟩:=mem_flatMap.1 hd;rw[cI,mem_singleton] at hn;subst hn;rfl
theorem Rk(v:Valid t h)(hf:gS t k h=false):∀x∈lu t h,x.1≠k:=fun x hx e=>by
 have:gS t k h=true:=(EK v k).2 ((Br v k).2 ⟨x.2,by rw[<-e];exact hx⟩);rw[hf] at this;cases this
theorem acK{G:List (Nat×List Value)}(L:List aZ)(b:Nat)(root i:Int)(ad:Option Addr)(cap:Nat)(Sx:List ah)(hi:0<=i/\i<L.length)(p:c8)(E:(L[i.toNat]'w4).p=p)(hn:L.length<=10000)(dP:uA L ad cap Sx)(aW:∀o∈L,qZ o)(h5:p.keys.length=5)(eo:p.leaf=true->p.kids.length=5)(I:p.leaf=false->p.kids.length=6)(O:∀k∈p.keys,k.length<=100)(U:p.high.length<=100) :
 VC Tryz.prog G 74 [cY b,ae i] (⟨b,66,2,[aT ad L.length cap,ae root]⟩::(Sx++L.flatMap bO)) (Xv L b root i.toNat p):=by
 subst E;exact aet L b root i ad cap Sx hi hn dP aW h5 eo I O U
theorem aeu{aA:Int}(e:kR t k row h (h+1)=(u,some (up,aA)))(hr:u.root=t.root):gF t h k row=⟨u.ag++[⟨false,[up],[t.root,aA],[],-1⟩],u.ag.length⟩:=by
 unfold gF;rw[<-SZ,e];show(⟨u.ag++[⟨false,[up],[u.root,aA],[],-1⟩],u.ag.length⟩:aF)=_;rw[hr]
theorem afV{aA:Int}{m:Nat}(hm:m<=h)(e:kR t k row h m=(u,some (up,aA)))(h4:(bB (u.pg (dr t k h t.root m)) up aA).keys.length<=4):gF t h k row=u.set (dr t k h t.root m) (bB (u.pg (dr t k h t.root m)) up aA):=by
 have:=Rg hm e;rw[JL h4] at this;unfold gF;rw[Rh (h-m) (m+1) w4 w4 this];rfl
theorem aev{aA:Int}{m:Nat}(hm:m<=h)(e:kR t k row h m=(u,some (up,aA)))(h4:¬(bB (u.pg (dr t k h t.root m)) up aA).keys.length<=4) :
  kR t k row h (m+1)=(jH u (dr t k h t.root m) (eB (bB (u.pg (dr t k h t.root m)) up aA) u.ag.length) (cA (bB (u.pg (dr t k h t.root m)) up aA)),some (ij (bB (u.pg (dr t k h t.root m)) up aA),(u.ag.length:Int))):=by
 rw[Rg hm e,Jc h4]
variable {G:List (Nat×List Value)}
theorem aaK:(Tryz.prog.info? 129).map (fun i=>(i.zero,i.size,i.bytes))=some (some (.agg #[.bool false,.slice none 0 0,.slice none 0 0,.slice none 0 0,.int .i64 0]),5,88):=by kernel_rfl
theorem Ji(t:aF)(h:Nat)(k:K)(row:Int)(hb:∀p∈t.ag,p.keys.length<=maxLen/\p.kids.length<=maxLen)(hv:gQ t=0->Valid t h):VC Tryz.prog G 39 [.agg [ap 5 cP t.ag,ae t.root],ap 1 cB k,ae row] [] (CX (pB t k row h)):=by
 refine VC.body func39 rfl ntmps39 aU fun X0 w0 bj=>?_;have fw:=IM (G:=G) t k hb;unfold cT at fw;have cR:=dI;refine bS ?_;refine OD.box (ds:=[_,_]) aq rfl rfl ot rfl rfl (fun b3=>?_);refine OD.alloc (ds:=[_,_]) aq rfl rfl zeroValue66 rfl (fun b6=>?_);refine an 131 [1,2,3,6] ?_;refine cL [1,2,3,6,8] (fw) ?_;refine af [1,2,3,6,8,23] ?_;refine au ?_ ?_<;>intro aJ bz
 ·have hn:¬lJ t k=0:=(by simpa using aJ)
  refine aB 2 ?_;refine aP 0 [_,_] sizeOf66 ?_;refine an 131 [6,7] ?_;refine aK [] ?_;unfold pB;rw[if_neg hn];exact zw _
 have hz:lJ t k=0:=(by simpa using aJ)
 obtain⟨hc,O7⟩:=Rj hz;have v:=hv hc;have CY:=JR O7;have eY:=pU (G:=G) t h v k w4 (EL v k);unfold cT at eY;have apB:=v.high;have apC:=v.oo;refine af [1,2,3,6,27] ?_;refine au ?_ ?_<;>intro aX cr
 ·have vM:row<0:=(by omega)
  refine aB 1 ?_;refine aP 0 [_,_] sizeOf66 ?_;refine an 131 [6,7] ?_;refine aK [] ?_;unfold pB;rw[if_pos hz,if_pos vM];exact zw _
 have vM:0<=row:=(by omega)
 refine cL [1,2,3,6,11] (eY) ?_;refine af [1,2,3,6,36] ?_;refine au ?_ ?_<;>intro bL cJ
 ·have gG:gS t k h=true:=bL;refine aB 1 ?_;refine aP 0 [_,_] sizeOf66 ?_;refine an 131 [6,7] ?_;refine aK [] ?_;unfold pB;rw[if_pos hz,if_neg w4,if_pos gG];exact zw _
 have gG:gS t k h=false:=bL;have hne:=Rk v gG;refine aB 1 ?_;refine OD.call aq rfl rfl rfl call68 (B9 t h v) ⟨ot,trivial⟩ (eX _) ?_;rintro _ _ ⟨L,ad,cap,Sx,rfl,dP,aW,hL,rfl⟩;refine OD.perm (dU (A:=[_,_])) ?_;refine OD.alloc (ds:=[_,_]) aq rfl rfl zeroValue66 rfl (fun wz=>?_);refine aP 0 [_,_] sizeOf66 ?_;refine an 131 [1,2,6,12] ?_;refine aB 2 ?_;refine OD.LI aq rfl rfl rfl call69 (Uv t h v k) (fun r S=>afU) ⟨⟨_,ot,(by have:=Ld (root:=t.root) dP aW (fun B hB=>mem_cons_of_mem ⟨wz,66,2,[aT ad L.length cap,ae t.root]⟩ (mem_cons_of_mem ⟨b6,66,2,[cc,ae 0]⟩ (mem_cons_of_mem ⟨b3,66,2,[ap 5 cP t.ag,ae t.root]⟩ hB)));rw[hL] at this;exact this)⟩,⟨_,ot,ff⟩,trivial⟩ ?_;rintro _ Sw ⟨aw,cw,rfl,how⟩;refine OD.gK (t:=42) (Sq:=Sw) lk how (cm eC _) (Perm.refl _) ?_;refine an 131 [1,2,6,12,13] ?_;refine cL [6,12,13,14,15] (my k w4) ?_;refine iH [6,12] (fun aS _ aE=>∃(L:List aZ),∃(ad:Option Addr),∃(cap:Nat),∃(Sx:List ah),∃(root:Int),(uA L ad cap Sx)/\(∀o∈L,qZ o)/\(gF t h k row=⟨L.map aZ.p,root⟩)/\(L.length<=10000)/\aE=(⟨131,aS,(⟨wz,66,2,[aT ad L.length cap,ae root]⟩::⟨b6,66,2,[cc,ae 0]⟩::(Sx++L.flatMap bO))⟩:St)) ?_ ?_
 ·refine cz [6,12,13,14,15,16] ?_;refine aR 2 ?_ (h:=by exact(dR (r:=.int .i64 ((h:Nat):Int)) rfl ot bV (iI (by rw[Fq,show(((h+1:Nat):Int)-1)=(h:Int) from by omega];exact wrap_i64 w4 w4))));refine bA ?_;refine ew [6,12,13] (fun aS _ (aO:Nat×K×Int×List aZ×Option Addr×Nat×List ah) aE=>match aO with|(m,up,aA,L,ad,cap,Sx)=>(m<=h+1)/\(kR t k row h m=(⟨L.map aZ.p,t.root⟩,some (up,aA)))/\(uA L ad cap Sx)/\(∀o∈L,qZ o)/\aE=(⟨131,(14,ap 1 cB up)::(15,ae aA)::(16,ae ((h:Int)-(m:Nat)))::aS,(⟨wz,66,2,[aT ad L.length cap,ae t.root]⟩::⟨b6,66,2,[cc,ae 0]⟩::(Sx++L.flatMap bO))⟩:St)) (fun (aO:Nat×K×Int×List aZ×Option Addr×Nat×List ah)=>match aO with|(m,up,aA,L,ad,cap,Sx)=>h+1-m) (0,k,row,L,ad,cap,Sx) ⟨(Nat.zero_le _),(by unfold kR;rw[if_pos rfl,hL]),dP,aW,rfl⟩ ?_;rintro⟨m,up,aA,L,ad,cap,Sx⟩ _ ⟨hm0,he,dP,aW,rfl⟩;refine af [6,12,13,14,15,16,52] ?_;refine au ?_ ?_<;>intro cN en
  ·obtain rfl:m=h+1:=(by omega)
   obtain⟨s1,s2,s3,s4⟩:=Jf v hne CY vM w4 he;have q9:L.length<=t.ag.length+(h+1):=(by rw[<-length_map (f:=aZ.p)];exact s2)
   have ZF:=afP v hne CY vM w4 he;refine aB 3 ?_;refine ey (cu 0 [_]) [.slice none 0 0] [_] zeroValue86 runUnderlying127 sizeOf86 (fun kY=>?_);refine aH 3 ?_;refine ey (cu 0 [_,_]) [.int .i64 0,.int .i64 0] [_,_] zeroValue3 runUnderlying61 sizeOf3 (fun mR=>?_);refine aH 1 ?_;refine ey (cu 0 [_]) [.bool false,.slice none 0 0,.slice none 0 0,.slice none 0 0,.int .i64 0] [_,_,_,_,_] zeroValue129 runUnderlying64 sizeOf129 (fun OM=>?_);refine OD.agK (cs':=gO (⟨⟨false,[up],[t.root,aA],[],-1⟩,some ⟨kY,0,none⟩,1,[⟨kY,86,1*1,flatMap cK [up]⟩],some ⟨mR,0,none⟩,2,[⟨mR,3,2*1,flatMap cI [t.root,aA]⟩]⟩:aZ)) rfl ⟨ff,ff,ff,ze,ff,trivial⟩ ?_;refine fD 0 62 5 1 ?_;refine OD.eG (ls:=L) (new:=[(⟨⟨false,[up],[t.root,aA],[],-1⟩,some ⟨kY,0,none⟩,1,[⟨kY,86,1*1,flatMap cK [up]⟩],some ⟨mR,0,none⟩,2,[⟨mR,3,2*1,flatMap cI [t.root,aA]⟩]⟩:aZ)]) (Sq:=Sx) iB FW aq rfl rfl underlying64 aaK rfl w8 ot dP (pp (A:=[_,_,_,_])) ot bq me mg (fun En x4 alo alp=>?_);refine aH 1 ?_;refine aP 3 [_,_] sizeOf64 ?_;refine an 131 [6,12] ?_;refine aB 3 ?_
   refine bN (dR (r:=.int .i64 (L.length:Nat)) rfl ot bV (iI (by rw[length_append,show(((L.length+[(⟨⟨false,[up],[t.root,aA],[],-1⟩,some ⟨kY,0,none⟩,1,[⟨kY,86,1*1,flatMap cK [up]⟩],some ⟨mR,0,none⟩,2,[⟨mR,3,2*1,flatMap cI [t.root,aA]⟩]⟩:aZ)].length:Nat):Int)-1)=(L.length:Int) from by simp];exact wrap_i64 w4 w4))) ?_;refine aH 1 ?_;refine aP 3 [_,_] sizeOf3 ?_;have hX:((⟨mR,3,2*1,flatMap cI [t.root,aA]⟩:ah)::⟨kY,86,1*1,flatMap cK [up]⟩::L.flatMap bO).Perm ((L++[(⟨⟨false,[up],[t.root,aA],[],-1⟩,some ⟨kY,0,none⟩,1,[⟨kY,86,1*1,flatMap cK [up]⟩],some ⟨mR,0,none⟩,2,[⟨mR,3,2*1,flatMap cI [t.root,aA]⟩]⟩:aZ)]).flatMap bO):=(by rw[TD];exact(Perm.swap _ _ _).trans (perm_append_comm (l₁:=[_,_])))
   refine OD.perm (S':=⟨wz,66,2,[aT (some ⟨En,0,none⟩) (L++[(⟨⟨false,[up],[t.root,aA],[],-1⟩,some ⟨kY,0,none⟩,1,[⟨kY,86,1*1,flatMap cK [up]⟩],some ⟨mR,0,none⟩,2,[⟨mR,3,2*1,flatMap cI [t.root,aA]⟩]⟩:aZ)]).length x4,ae (L.length:Nat)]⟩::⟨b6,66,2,[cc,ae 0]⟩::(([⟨En,129,x4*5,flatMap gO (L++[(⟨⟨false,[up],[t.root,aA],[],-1⟩,some ⟨kY,0,none⟩,1,[⟨kY,86,1*1,flatMap cK [up]⟩],some ⟨mR,0,none⟩,2,[⟨mR,3,2*1,flatMap cI [t.root,aA]⟩]⟩:aZ)])⟩]:List ah)++(L++[(⟨⟨false,[up],[t.root,aA],[],-1⟩,some ⟨kY,0,none⟩,1,[⟨kY,86,1*1,flatMap cK [up]⟩],some ⟨mR,0,none⟩,2,[⟨mR,3,2*1,flatMap cI [t.root,aA]⟩]⟩:aZ)]).flatMap bO)) (by exact(perm_middle (l₁:=[_,_,_])).trans (Perm.cons _ ((perm_middle (l₁:=[_,_,_])).trans (Perm.cons _ (Perm.cons _ hX))))) ?_;refine an 131 [6,12] ?_;refine CD.exit ?_
   refine⟨_,aI,(L++[(⟨⟨false,[up],[t.root,aA],[],-1⟩,some ⟨kY,0,none⟩,1,[⟨kY,86,1*1,flatMap cK [up]⟩],some ⟨mR,0,none⟩,2,[⟨mR,3,2*1,flatMap cI [t.root,aA]⟩]⟩:aZ)]),(some ⟨En,0,none⟩),x4,[⟨En,129,x4*5,flatMap gO (L++[(⟨⟨false,[up],[t.root,aA],[],-1⟩,some ⟨kY,0,none⟩,1,[⟨kY,86,1*1,flatMap cK [up]⟩],some ⟨mR,0,none⟩,2,[⟨mR,3,2*1,flatMap cI [t.root,aA]⟩]⟩:aZ)])⟩],(L.length:Nat),(bJ alo alp),(fun o ho=>by rcases mem_append.1 ho with ho|ho;exact aW o ho;rw[mem_singleton] at ho;subst ho;exact⟨bJ (Nat.le_refl _) (show 1<=maxLen by decide),bJ (Nat.le_refl _) (show 2<=maxLen by decide)⟩),(by rw[aeu he rfl];show(⟨map aZ.p L++[_],((map aZ.p L).length:Int)⟩:aF)=_;rw[map_append,length_map];rfl),Hr,rfl⟩
  have hm:m<=h:=(by omega)
  have hP:=afQ v hne CY vM hm he;obtain⟨s1,s2,s3,s4⟩:=Jf v hne CY vM w4 he;have q9:L.length<=t.ag.length+m:=(by rw[<-length_map (f:=aZ.p)];exact s2)
  have O8:0<=(dr t k h t.root m)/\(dr t k h t.root m)<L.length:=(by have:=hP.rg;rw[<-length_map (f:=aZ.p)];exact this)
  have hj:(dr t k h t.root m).toNat<L.length:=(by omega)
  have ZG:L[(dr t k h t.root m).toNat].p=(⟨L.map aZ.p,t.root⟩:aF).pg (dr t k h t.root m):=Vz (t:=(⟨L.map aZ.p,t.root⟩:aF)) rfl hP.rg hj;have po:eN ((⟨L.map aZ.p,t.root⟩:aF).pg (dr t k h t.root m)) (⟨L.map aZ.p,t.root⟩:aF).ag.length:=s4 _ (jV hP.rg);have full:=JJ po hP.out hP.len hP.high hP.nn hP.nnl;obtain⟨bx,rfl,gi,yl,rfl⟩:=dP.pos w4;have yD:=aW _ (getElem_mem hj);obtain⟨o,ho⟩:∃o,o=L[(dr t k h t.root m).toNat]:=⟨_,rfl⟩
  rw[<-ho] at yD ZG;rcases o with ⟨p,ak,ck,sk,ai,ci,si⟩
  have iv:p=(⟨L.map aZ.p,t.root⟩:aF).pg (dr t k h t.root m):=ZG;obtain⟨cM,lC⟩:n8 p.keys ak ck sk/\nh p.kids ai ci si:=yD;rw[<-iv] at po full;have jg:=po.ec;have fx:=SV po up;have ZF:=hP.len.2;have Gt:(if p.leaf=true then aQ p up else aQ p up+1)<=p.kids.length/\p.kids.length<=5:=(by cases fT:p.leaf;(have:=(po.node fT).1;rw[if_neg w8];omega);(have:=po.leaf fT;rw[if_pos rfl];omega))
  have hW:h-m<(jv t k h t.root).length:=(by rw[Fq];omega)
  have ZH:(jv t k h t.root)[h-m]=(dr t k h t.root m):=(by have:=Rf (t:=t) (k:=k) (h:=h) (i:=t.root) hm;exact(List.getElem?_eq_some_iff.1 this).2)
  have Cl:=v.high;have Wg:=v.oo;have LY:(L.flatMap bO).Perm (sk++(si++((L.eraseIdx (dr t k h t.root m).toNat).flatMap bO))):=(by have:=zv bO hj;rw[<-ho] at this;exact this.trans (by rw[show bO ⟨p,ak,ck,sk,ai,ci,si⟩=sk++si from rfl,append_assoc]))
  refine CD.perm (Perm.cons _ (Perm.cons _ (Perm.cons _ LY))) ?_;refine cz [6,12,13,14,15,16,17] ?_;refine aR 4 ?_ (h:=by exact(dL 1 (h:=by first|exact .l (j:=h-m) w4 hW|exact .r (j:=h-m) w4 hW)));refine aR 0 ?_ (h:=by exact(dz (mk:=Op.load 3) rfl ot (ry (d:=ae (dr t k h t.root m)) (i:=h-m) eC isAgg3 hW (by rw[ZH];rfl))));refine aR 0 ?_ (h:=by exact(dL 5 (h:=by first|exact .l (j:=(dr t k h t.root m).toNat) (Int.toNat_of_nonneg O8.1).symm hj|exact .r (j:=(dr t k h t.root m).toNat) (Int.toNat_of_nonneg O8.1).symm hj)));refine bA ?_;refine cz [6,12,13,14,15,16,17,18] ?_;refine aR 2 ?_ (h:=by exact(dz (mk:=Op.load 129) rfl ot (dJ (k:=2) (ls:=L) (i:=(dr t k h t.root m).toNat) iB rfl rfl rfl isAgg129 sizeOf129 hj)));refine kK 1 ?_;refine xZ (JQ p up po.kv w4) (ha:=by exact⟨⟨_,ot,(by rw[<-ho];exact vc ⟨ff,lU cM (cm gr _) (fun B hB=>.tail _ (.tail _ (.tail _ (mem_append_left _ hB)))),lU lC (cm eC _) (fun B hB=>.tail _ (.tail _ (.tail _ (mem_append_right _ (mem_append_left _ hB))))),ff,ff,trivial⟩)⟩,⟨_,ot,ff⟩,trivial⟩) (K:=?_);refine bA ?_;refine aB 4 ?_;refine bN (dz (mk:=Op.load 127) rfl ot (lG (k:=2) (j:=1) (d:=aT ak p.keys.length ck) (ls:=L) iB rfl rfl rfl isAgg127 hj rP)) ?_;refine aH 2 ?_;refine ey (cu 0 [_]) [.slice none 0 0] [_] zeroValue86 runUnderlying127 sizeOf86 (fun b89=>?_)
  refine OD.call aq rfl rfl rfl call72 (abg p.keys (aQ p up) up ak ck sk b89 fx w4 cM) ⟨ot,ot,ot,trivial⟩ (Perm.cons _ (pp (A:=[_,_,_]))) ?_;rintro _ E ⟨I,O,rfl,eD⟩;refine OD.perm (kG (A:=[_,_,_])) ?_;refine aH 2 ?_;refine OD.storeAt (k:=2) (cs':=flatMap gO (L.set (dr t k h t.root m).toNat (⟨{p with keys:=iK p.keys (aQ p up) up},I,O,E,ai,ci,si⟩:aZ))) aq rfl rfl ot rfl rfl ot rfl rfl sizeOf127 rfl (by show 0+(dr t k h t.root m).toNat*5+1+1<=(flatMap gO L).length;rw[cm iB];omega) (by show(L.flatMap gO).set (0+(dr t k h t.root m).toNat*5+1) _=_;rw[Nat.zero_add];exact wM iB w8 hj (by rw[<-ho];unfold gO;rw[zk fx];rfl)) ?_;refine an 131 [6,12,13,15,16,17,18] ?_;refine CD.cut (fun aE=>aE=(⟨131,[(6,cY b6),(12,cY wz),(13,.list 1 ((jv t k h t.root).flatMap cI) (jv t k h t.root).length),(15,ae aA),(16,ae ((h:Int)-(m:Nat))),(17,.v (.pointer (some ⟨bx,0+(dr t k h t.root m).toNat*5,none⟩))),(18,ae (((if p.leaf=true then aQ p up else aQ p up+1):Nat):Int))],(⟨wz,66,2,[aT (some ⟨bx,0,none⟩) L.length cap,ae t.root]⟩::⟨b6,66,2,[cc,ae 0]⟩::⟨bx,129,cap*5,flatMap gO (L.set (dr t k h t.root m).toNat (⟨{p with keys:=iK p.keys (aQ p up) up},I,O,E,ai,ci,si⟩:aZ))⟩::(E++(si++((L.eraseIdx (dr t k h t.root m).toNat).flatMap bO))))⟩:St)) ?_ ?_
  ·refine cz [6,12,13,15,16,17,18,97] ?_;refine aR 3 ?_ (h:=by exact(dz (mk:=Op.load 4) rfl ot (lG (k:=2) (j:=0) (d:=bP p.leaf) (ls:=(L.set (dr t k h t.root m).toNat (⟨{p with keys:=iK p.keys (aQ p up) up},I,O,E,ai,ci,si⟩:aZ))) iB rfl rfl rfl isAgg4 vX (by rw[getElem_set_self];rfl))));refine bA ?_;refine au ?_ ?_<;>intro dW fB
   ·have dx:(((if p.leaf=true then aQ p up else aQ p up+1):Nat):Int)=(((aQ p up):Nat):Int)+1:=(by rw[if_neg (by simpa using dW)];rfl)
    refine bM [6,12,13,15,16,17,18] ?_;exact YG
   have dx:(((if p.leaf=true then aQ p up else aQ p up+1):Nat):Int)=(((aQ p up):Nat):Int):=(by rw[if_pos (by simpa using dW)])
   refine CD.skip ?_;exact YG
  rintro _ ⟨rfl⟩;refine aB 4 ?_;refine bN (dz (mk:=Op.load 61) rfl ot (lG (k:=2) (j:=2) (d:=aT ai p.kids.length ci) (ls:=(L.set (dr t k h t.root m).toNat (⟨{p with keys:=iK p.keys (aQ p up) up},I,O,E,ai,ci,si⟩:aZ))) iB rfl rfl rfl isAgg61 vX (by rw[getElem_set_self];rfl))) ?_;refine aH 2 ?_;refine ey (cu 0 [_]) [.int .i64 0] [_] zeroValue3 runUnderlying61 sizeOf3 (fun alq=>?_);refine OD.call aq rfl rfl rfl call73 (abh p.kids (if p.leaf=true then aQ p up else aQ p up+1) aA ai ci si alq Gt.1 w4 lC) ⟨ot,ot,ot,trivial⟩ (Perm.cons _ (tX (A:=[_,_,_]))) ?_;rintro _ U ⟨Z,fg,rfl,lP⟩;refine OD.perm (wU (A:=[_,_,_])) ?_;refine aH 2 ?_
  refine OD.storeAt (k:=2) (cs':=flatMap gO (L.set (dr t k h t.root m).toNat (⟨(bB p up aA),I,O,E,Z,fg,U⟩:aZ))) aq rfl rfl ot rfl rfl ot rfl rfl sizeOf61 rfl (by show 0+(dr t k h t.root m).toNat*5+2+1<=(flatMap gO (L.set (dr t k h t.root m).toNat (⟨{p with keys:=iK p.keys (aQ p up) up},I,O,E,ai,ci,si⟩:aZ))).length;rw[cm iB,length_set];omega) (by show(flatMap gO (L.set (dr t k h t.root m).toNat (⟨{p with keys:=iK p.keys (aQ p up) up},I,O,E,ai,ci,si⟩:aZ))).set (0+(dr t k h t.root m).toNat*5+2) _=_;rw[Nat.zero_add,wM iB (a':=(⟨(bB p up aA),I,O,E,Z,fg,U⟩:aZ)) w8 vX (by rw[getElem_set_self];show gO (⟨(bB p up aA),I,O,E,Z,fg,U⟩:aZ)=(gO (⟨{p with keys:=iK p.keys (aQ p up) up},I,O,E,ai,ci,si⟩:aZ)).set 2 _;unfold gO;rw[show((⟨(bB p up aA),I,O,E,Z,fg,U⟩:aZ)).p.kids.length=p.kids.length+1 from zk Gt.1];rfl),List.set_set]) ?_;have wc:(E++(U++((L.eraseIdx (dr t k h t.root m).toNat).flatMap bO))).Perm ((L.set (dr t k h t.root m).toNat (⟨(bB p up aA),I,O,E,Z,fg,U⟩:aZ)).flatMap bO):=(by have:=(zc bO hj (⟨(bB p up aA),I,O,E,Z,fg,U⟩:aZ)).symm;rw[show bO (⟨(bB p up aA),I,O,E,Z,fg,U⟩:aZ)=E++U from rfl,append_assoc] at this;exact this)
  refine OD.perm (S':=⟨wz,66,2,[aT (some ⟨bx,0,none⟩) (L.set (dr t k h t.root m).toNat (⟨(bB p up aA),I,O,E,Z,fg,U⟩:aZ)).length cap,ae t.root]⟩::⟨b6,66,2,[cc,ae 0]⟩::(([⟨bx,129,cap*5,flatMap gO (L.set (dr t k h t.root m).toNat (⟨(bB p up aA),I,O,E,Z,fg,U⟩:aZ))⟩]:List ah)++(L.set (dr t k h t.root m).toNat (⟨(bB p up aA),I,O,E,Z,fg,U⟩:aZ)).flatMap bO)) (by rw[length_set];exact Perm.cons _ (Perm.cons _ (Perm.cons _ wc))) ?_;have Xw:uA (L.set (dr t k h t.root m).toNat (⟨(bB p up aA),I,O,E,Z,fg,U⟩:aZ)) (some ⟨bx,0,none⟩) cap [⟨bx,129,cap*5,flatMap gO (L.set (dr t k h t.root m).toNat (⟨(bB p up aA),I,O,E,Z,fg,U⟩:aZ))⟩]:=bJ ye yl;have kr:∀o∈(L.set (dr t k h t.root m).toNat (⟨(bB p up aA),I,O,E,Z,fg,U⟩:aZ)),qZ o:=fun x hx=>by rcases mem_or_eq_of_mem_set hx with hx|rfl;exact aW x hx;exact⟨eD,lP⟩
  refine an 131 [6,12,13,16,17] ?_;refine cz [6,12,13,16,116] ?_;refine aR 3 ?_ (h:=by exact(dz (mk:=Op.load 127) rfl ot (lG (k:=2) (j:=1) (d:=aT I (bB p up aA).keys.length O) (ls:=(L.set (dr t k h t.root m).toNat (⟨(bB p up aA),I,O,E,Z,fg,U⟩:aZ))) iB rfl rfl rfl isAgg127 vX (by rw[getElem_set_self];rfl))));refine bA ?_;refine au ?_ ?_<;>intro fF gM
  ·have h4:(bB p up aA).keys.length<=4:=(by have:=of_decide_eq_true fF;omega)
   refine CD.exit ?_;refine⟨_,aI,(L.set (dr t k h t.root m).toNat (⟨(bB p up aA),I,O,E,Z,fg,U⟩:aZ)),(some ⟨bx,0,none⟩),cap,[⟨bx,129,cap*5,flatMap gO (L.set (dr t k h t.root m).toNat (⟨(bB p up aA),I,O,E,Z,fg,U⟩:aZ))⟩],t.root,Xw,kr,(by rw[afV hm he (by rw[<-iv];exact h4),<-iv,map_set];rfl),uE,rfl⟩
  have h4:¬(bB p up aA).keys.length<=4:=(by have:=of_decide_eq_false fF;omega)
  have h5:(bB p up aA).keys.length=5:=(by have:=full.ec;omega)
  refine dw 2 ?_;refine bN (dL 1 (h:=by first|exact .l (j:=h-m) w4 hW|exact .r (j:=h-m) w4 hW)) ?_;refine bN (dz (mk:=Op.load 3) rfl ot (ry (d:=ae (dr t k h t.root m)) (i:=h-m) eC isAgg3 hW (by rw[ZH];rfl))) ?_;have iG:(L.set (dr t k h t.root m).toNat (⟨(bB p up aA),I,O,E,Z,fg,U⟩:aZ)).length=L.length:=length_set ..;refine OD.call aq rfl rfl rfl call74 (acK (L.set (dr t k h t.root m).toNat (⟨(bB p up aA),I,O,E,Z,fg,U⟩:aZ)) wz t.root (dr t k h t.root m) (some ⟨bx,0,none⟩) cap [⟨bx,129,cap*5,flatMap gO (L.set (dr t k h t.root m).toNat (⟨(bB p up aA),I,O,E,Z,fg,U⟩:aZ))⟩] (by rw[iG];exact O8) (bB p up aA) (by rw[getElem_set_self]) (by rw[iG];omega) Xw kr h5 (fun hl=>by have:=full.leaf hl;omega) (fun hl=>by have:=(full.node hl).1;omega) (fun x hx=>(full.lI x hx).2) full.hlen) ⟨ot,ot,trivial⟩ (Perm.cons _ (perm_append_singleton _ _).symm) ?_;rintro _ _ ⟨rfl,L3,Ig,GW,Ih,alr,x6,hL3,rfl⟩;refine OD.perm (Perm.cons _ (perm_append_singleton _ _)) ?_;have Dl:kR t k row h (m+1)=(⟨L3.map aZ.p,t.root⟩,some (ij (bB p up aA),((L.set (dr t k h t.root m).toNat (⟨(bB p up aA),I,O,E,Z,fg,U⟩:aZ)).length:Int))):=(by rw[aev hm he (by rw[<-iv];exact h4),<-iv,hL3,iG];unfold jH;show(({ag:=(map aZ.p L).set _ _++_,root:=t.root}:aF),_)=_;rw[map_set,List.set_set,length_map])
  refine an 131 [6,12,13,14,15,16] ?_;refine bM [6,12,13,14,15,16] ?_;refine⟨((m+1),(ij (bB p up aA)),((L.set (dr t k h t.root m).toNat (⟨(bB p up aA),I,O,E,Z,fg,U⟩:aZ)).length:Int),L3,Ig,GW,Ih),_,cn,aI,w4,Dl,alr,x6,rfl⟩
 rintro _ ⟨L,ad,cap,Sx,root,dP,aW,GY,q9,rfl⟩;refine af [6,12,128] ?_;refine au ?_ ?_<;>intro iw oS
 ·refine aB 1 ?_;refine aP 1 [_,_] sizeOf66 ?_;refine an 131 [6,7] ?_;refine aK [] ?_;unfold pB;rw[if_pos hz,if_neg w4,if_neg yh,if_pos (by rw[GY];show 4000<(L.map aZ.p).length;rw[length_map];omega)];exact zw _
 refine aB 1 ?_;refine aP 1 [_,_] sizeOf66 ?_;refine an 131 [6,7] ?_;refine aK (Sx++L.flatMap bO) ?_;unfold pB;rw[if_pos hz,if_neg w4,if_neg yh,if_neg (by rw[GY];show ¬4000<(L.map aZ.p).length;rw[length_map];omega)];exact⟨_,rfl,L,ad,cap,Sx,by rw[GY],dP,aW,by rw[GY],rfl⟩
theorem acL(t:aF)(h:Nat)(k:K)(row:Int)(hb:∀p∈t.ag,p.keys.length<=maxLen/\p.kids.length<=maxLen)(E:gQ t=0->Valid t h):VP Tryz.prog G 39 [.agg (cT t),ap 1 cB k,ae row] (.da [.agg (cT (pB t k row h).1),ae (pB t k row h).2]):=(Ji t h k row hb E).cover fun r S hr=>hr.view

end Go.Proofs.YtbplamgacibdaaaGreatDoor.Tw
namespace Go.Proofs.YtbplamgacibdaaaGreatDoor.Tr
open List
open Go.Proofs.Tryz
open Go.Lib (compareBytes)
variable {t:aF} {h:Nat} {k:K}
variable {n:Nat}
theorem Tb(hp:∀p∈t.ag,eN p t.ag.length):∀{h h':Nat} {i:Int} {a b c d:K},dX t h i a b->dX t h' i c d->h=h'
 | 0,0,_,_,_,_,_,_,_=>rfl
 | 0,h'+1,i,_,_,_,_,h1,h2=>by have:=h1.2.1;rw[h2.2.1] at this;cases this
 | h+1,0,i,_,_,_,_,h1,h2=>by have:=h1.2.1;rw[h2.2.1] at this;cases this
 | h+1,h'+1,i,_,_,_,_,h1,h2=>by
  obtain⟨p1,p2,p3,O,E⟩:=h1;obtain⟨q1,q2,U,Z,I⟩:=h2;have hn:=((hp _ (jV p1)).node p2).1;have:=Tb hp (E 0 w4) (I 0 w4);rw[this]
noncomputable def c9(t:aF):Nat:=Classical.epsilon fun h=>Valid t h
theorem E5(v:Valid t h):Valid t (c9 t):=Classical.epsilon_spec (p:=fun h=>Valid t h) ⟨h,v⟩
theorem Lf(v:Valid t h):c9 t=h:=Tb v.fM (E5 v).ok v.ok
noncomputable def dg(t:aF):List (K×Int):=lu t (c9 t)
theorem KJ(hp:∀p∈t.ag,eN p t.ag.length):∀{h:Nat} {i:Int} {a b:K},dX t h i a b->2 ^ h<=(ids t h i).length
 | 0,i,_,_,_=>by simp[ids]
 | h+1,i,_,_,ok=>by
  obtain⟨p1,p2,p3,U,E⟩:=ok;have hn:=(hp _ (jV p1)).node p2;have hk:1<=(t.pg i).keys.length:=by
   have:=hn.2;cases kW:(t.pg i).keys with
   | nil=>exact absurd kW this
   | cons _ _=>simp
  have h0:=KJ hp (E 0 w4);have h1:=KJ hp (E 1 w4);have key:∀(l:List Int) (h2:2<=l.length),2 ^ h<=(ids t h (l[0]'w4)).length->2 ^ h<=(ids t h (l[1]'w4)).length->2 ^ h+2 ^ h<=(l.flatMap (ids t h)).length:=by
   intro l h2 I O;match l,h2 with
   | x::y::r,_ =>
    simp only[flatMap_cons,length_append];simp only[getElem_cons_zero,getElem_cons_succ] at I O;omega
  have:=key _ w4 h0 h1;rw[ids,length_cons,Nat.pow_succ];omega
theorem afW(v:Valid t h):h<=11:=by
 have h1:=KJ v.fM v.ok;rw[v.all] at h1;have h2:=v.oo;refine Nat.le_of_not_lt fun h3=>?_;have:2 ^ 12<=2 ^ h:=Nat.pow_le_pow_right w8 h3;omega
structure iJ (t:aF) (n:Nat):Prop where
 val:Valid t (c9 t)
 ec:t.ag.length<=1+13*n
theorem iJ.mono{m:Nat}(g:iJ t n)(h:n<=m):iJ t m:=⟨g.val,by have:=g.ec;omega⟩
theorem Tc:iJ nL 0:=⟨E5 Q6,by decide⟩
theorem Td:dg nL=[]:=by unfold dg;rw[Lf Q6];exact aec
theorem BH{row:Int}(g:iJ t n)(hn:n<=300)(lB:∀x∈dg t,x.1≠k)(hk:1<=k.length/\k.length<=100)(hr:0<=row) :
  iJ (gF t (c9 t) k row) (n+1)/\(gF t (c9 t) k row).ag.length<=4000/\∀x,x∈dg (gF t (c9 t) k row)↔x=(k,row)\/x∈dg t:=by
 have E:=afW g.val;have hf:=g.ec;obtain⟨h',_,v,⟨_,hm⟩,he⟩:=ach g.val lB hk hr w4;refine⟨⟨E5 v,by omega⟩,v.oo,fun x=>?_⟩;unfold dg;rw[Lf v];exact he x
theorem JS(g:iJ t n)(ht:B8 t k (c9 t)):iJ (gY t (c9 t) k) n/\∀x,x∈dg (gY t (c9 t) k)↔x∈dg t/\x.1≠k:=by
 obtain⟨v,hl,he⟩:=aci g.val ht;refine⟨⟨E5 v,by have:=g.ec;omega⟩,fun x=>?_⟩;unfold dg;rw[Lf v];exact he x

end Go.Proofs.YtbplamgacibdaaaGreatDoor.Tr
namespace Go.Proofs.YtbplamgacibdaaaGreatDoor.Tw
open List
open Go.Proofs.Tryz
open Go.RowKit V Tr Pk
open Go.Lib (compareBytes)
variable {k:K} {t:aF} {n:Nat} {row:Int}
theorem afX(h:1<=k.length/\k.length<=100):oT k=true:=decide_eq_true h
theorem Ca(g:iJ t n)(hk:1<=k.length/\k.length<=100):lJ t k=0:=J8 (JP g.val) (afX hk)
theorem Bs(g:iJ t n)(k:K):gS t k (c9 t)=true↔∃row,(k,row)∈dg t:=(EK g.val k).trans (Br g.val k)
theorem BI(g:iJ t n):gS t k (c9 t)=false↔∀x∈dg t,x.1≠k:=by
 constructor
 ·exact fun h=>Rk g.val h
 intro h;cases hq:gS t k (c9 t) with
 | false=>rfl
 | true=>obtain⟨row,hr⟩:=(Bs g k).1 hq;exact absurd rfl (h _ hr)
theorem afY(g:iJ t n)(hk:1<=k.length/\k.length<=100)(hr:0<=row)(h:gS t k (c9 t)=true):pB t k row (c9 t)=(wv,9):=by
 unfold pB;rw[if_pos (Ca g hk),if_neg w4,if_pos h]
theorem Lg(g:iJ t n)(hn:n<=300)(hk:1<=k.length/\k.length<=100)(hr:0<=row)(h:gS t k (c9 t)=false):pB t k row (c9 t)=(gF t (c9 t) k row,0):=by
 have:=(BH g hn ((BI g).1 h) hk hr).2.1;unfold pB;rw[if_pos (Ca g hk),if_neg w4,if_neg (by rw[h];decide),if_neg w4]
theorem UE(g:iJ t n)(hk:1<=k.length/\k.length<=100)(h:gS t k (c9 t)=true):rH t k (c9 t)=(gY t (c9 t) k,0):=by
 unfold rH;rw[if_pos (Ca g hk),if_pos h]
theorem afZ(g:iJ t n)(hk:1<=k.length/\k.length<=100)(h:gS t k (c9 t)=false):findF t k (c9 t)=(0,8):=by
 unfold findF;rw[if_pos (Ca g hk),if_neg (by rw[h];decide)]
theorem Te(g:iJ t n)(hk:1<=k.length/\k.length<=100)(h:(k,row)∈dg t):findF t k (c9 t)=(row,0):=by
 unfold findF dY;rw[if_pos (Ca g hk),if_pos ((Bs g k).2 ⟨row,h⟩)];obtain⟨_,_,e⟩:=(found g.val k row).1 h;rw[e]
theorem BW(g:iJ t n):∀p∈t.ag,p.keys.length<=maxLen/\p.kids.length<=maxLen:=aem g.val
variable {G:List (Nat×List Value)}
theorem JT(g:iJ t n)(k:K)(row:Int):VP Tryz.prog G 39 [.agg (cT t),ap 1 cB k,ae row] (.da [.agg (cT (pB t k row (c9 t)).1),ae (pB t k row (c9 t)).2]):=acL t (c9 t) k row (BW g) fun _=>g.val
theorem Tf(g:iJ t n)(k:K):VP Tryz.prog G 95 [.agg (cT t),ap 1 cB k] (.da [.agg (cT (rH t k (c9 t)).1),ae (rH t k (c9 t)).2]):=acH t (c9 t) k (BW g) fun _=>g.val
theorem Lh(g:iJ t n)(k:K):VP Tryz.prog G 63 [.agg (cT t),ap 1 cB k] (.da [ae (findF t k (c9 t)).1,ae (findF t k (c9 t)).2]):=ahm t (c9 t) k (BW g) fun _=>g.val
theorem af0(g:iJ t n):VP Tryz.prog G 51 [.agg (cT t)] (ae 0):=by have:=pS (G:=G) t (BW g);rwa [JP g.val] at this
noncomputable def py(t:aF)(f fb:K):List (K×Int):=xJ t (c9 t) f fb
theorem VA(g:iJ t n)(f fb:K)(hf:f.length<=100)(ht:fb.length<=100):VP Tryz.prog G 29 [.agg (cT t),ap 1 cB f,ap 1 cB fb] (.da [.list 2 ((py t f fb).flatMap cE) (py t f fb).length,ae 0]):=by
 have:=afT (G:=G) t (c9 t) (BW g) (fun _=>g.val) f fb;unfold xD at this;rwa [if_pos (JP g.val),if_pos ⟨hf,ht⟩] at this
theorem Bw(t:aF):py t [] []=dg t:=by
 unfold py xJ dg;rw[aeo,Jg fun x _=>by simp[vy]]
theorem TB(g:iJ t n):VP Tryz.prog G 29 [.agg (cT t),cc,cc] (.da [.list 2 ((py t [] []).flatMap cE) (py t [] []).length,ae 0]):=VC.fb (args':=[.agg (cT t),cc,cc]) (VA g [] [] w8 w8) ⟨.inl rfl,.inr ⟨1,rfl,rfl⟩,.inr ⟨1,rfl,rfl⟩,trivial⟩

end Go.Proofs.YtbplamgacibdaaaGreatDoor.Tw
namespace Go.Proofs.YtbplamgacibdaaaGreatDoor.Ba
open List
open Go.Proofs.Tryz
open Go.RowKit V Pk Tr Vl Go.Proofs.YtbplamgacibdaaaGreatDoor.Nm Pc Cd Ex Tw
structure az where
 nm:ByteArray
 ay:List cy
 rows:List (List Vl)
 ix:aF
def ev(r:List Vl):List D:=[ap 3 cV r]
theorem js(r:List Vl):(ev r).length=1:=rfl
theorem RA(r:List Vl):(ev r).all V.one=true:=rfl
def cG(t:az):List D:=[bg t.nm,ap 2 cC t.ay,ap 1 ev t.rows,ap 5 cP t.ix.ag,ae t.ix.root]
theorem jT(t:az):(cG t).length=5:=rfl
def aN(b:List az)(nm:ByteArray):Int:=dK (fun t=>t.nm.toList==nm.toList) b
def cg(r:List Vl):K:=(gg (r.take 1)).1
variable {G:List (Nat×List Value)}
theorem aew(t:az)(nm:ByteArray)(b:Nat):VC Tryz.prog G 50 [.agg (cG t),cY b] [⟨b,9,1,[bg nm]⟩] (fun r S=>r=bP (t.nm.toList==nm.toList)/\S=[⟨b,9,1,[bg nm]⟩]):=by
 refine VC.body func50 rfl ntmps50 aU fun X0 w0 bj=>?_;unfold cG;refine bS ?_;refine OD.box (ds:=[_,_,_,_,_]) aq rfl rfl ot rfl rfl (fun b2=>?_);refine an 8 [1,2] ?_;refine af [3] ?_;refine aK [⟨b,9,1,[bg nm]⟩] ?_;exact⟨rfl,rfl⟩
theorem acM(ls:List az)(I:Nat)(E:List D)(S:List ah)(p:az->Bool)(fy:∀args w,(callFunc I args).run Tryz.prog w = .ok (.enter I args) w)(hp:∀x∈ls,VC Tryz.prog G I (.agg (cG x)::E) S (fun r S'=>r=bP (p x)/\S'=S))(hlen:ls.length<=1000000):VC Tryz.prog G 49 [ap 5 cG ls,.eI (.func I) E] S (fun r S'=>r=ae (dK p ls)/\S'=S):=by
 refine VC.body func49 rfl ntmps49 aU fun X0 w0 bj=>?_;refine aB 1 ?_;refine OD.wk (Wk.ee (n:=19) (l':=[(0,_),(1,_)]) (S':=S) rfl nj fE) ?_;refine OD.nil ?_;refine aB 3 ?_;refine OD.wk (Wk.ee (n:=19) (l':=[(0,_),(1,_),(7,_),(8,_)]) (S':=S) rfl nj fE) ?_;refine OD.nil ?_;refine ew [0,1,7] (fun aS _ (k:Nat) aE=>(k<=ls.length)/\(∀x∈ls.take k,p x=false)/\aE=(⟨19,(8,ae (k:Nat))::aS,S⟩:St)) (fun (k:Nat)=>ls.length-k) 0 ⟨Nat.zero_le _,bq,rfl⟩ ?_;rintro k _ ⟨hk,h0,rfl⟩;refine aB 1 ?_;refine OD.wk (Wk.ee (n:=19) (l':=[(0,_),(1,_),(7,_),(8,_),(9,_)]) (S':=S) rfl nj fE) ?_;refine OD.nil ?_;refine au ?_ ?_<;>intro aJ bz
 ·refine aB 2 ?_;refine OD.wk (Wk.ee (n:=19) (l':=[(0,_),(1,_),(5,_),(7,_),(8,_)]) (S':=S) rfl nj fE) ?_;refine OD.nil ?_;refine aB 5 ?_;refine OD.lY (f:=I) (args:=[_]) aq rfl rfl (uf rfl lk) fy (hp (ls[k]'w4) (getElem_mem _)) rfl ⟨uf rfl lk,trivial⟩ (Jt _) ?_;rintro _ S2 ⟨rfl,iZ⟩;rw[iZ];clear iZ;refine OD.wk (Wk.ee (n:=19) (l':=[(0,_),(1,_),(5,_),(7,_),(8,_),(16,_)]) (S':=S) rfl nj fE) ?_;refine OD.nil ?_;refine au ?_ ?_<;>intro aX cr
  ·refine aB 2 ?_;refine OD.wk (Wk.ee (n:=19) (l':=[(4,_)]) (S':=S) rfl nj fE) ?_;refine OD.nil ?_;refine aK S ?_;refine⟨?_,rfl⟩;first|(rw[tU w4 h0 uu])|(rw[wO w4 h0])
  refine dw 2 ?_;refine OD.wk (Wk.ee (n:=19) (l':=[(0,_),(1,_),(7,_),(8,_)]) (S':=S) rfl nj fE) ?_;refine OD.nil ?_;refine⟨k+1,_,cn,aI,w4,(by rw[take_succ_eq_append_getElem w4];intro x hx;rcases mem_append.1 hx with hx|hx;exact h0 x hx;simp only[mem_singleton] at hx;subst hx;assumption),rfl⟩
 refine aB 1 ?_;refine OD.wk (Wk.ee (n:=19) (l':=[(4,_)]) (S':=S) rfl nj fE) ?_;refine OD.nil ?_;refine aK S ?_;refine⟨?_,rfl⟩;first|(rw[tU w4 h0 uu])|(rw[wO w4 h0])
theorem pU(l:List az)(hl:l.length<=1000)(nm:ByteArray):VP Tryz.prog G 28 [ap 5 cG (l),bg nm] (ae (aN l nm)):=by
 refine VC.body func28 rfl ntmps28 aU fun X0 w0 bj=>?_;refine bS ?_;refine OD.box (ds:=[_]) aq rfl rfl ot rfl rfl (fun b3=>?_);refine an 8 [0,3] ?_;refine aB 1 ?_;refine bN (sy (ds:=[_]) rfl ⟨ot,trivial⟩) ?_;refine OD.call aq rfl rfl rfl call49 (acM l 50 [cY b3] _ (fun t=>t.nm.toList==nm.toList) call50 (fun h _=>aew h nm b3) w4) ⟨ot,ot,trivial⟩ (mS (k:=0) rfl) ?_;rintro _ S2 ⟨rfl,iZ⟩;rw[iZ];clear iZ;refine an 8 [4] ?_;exact nP
theorem aex(c:cy)(nm:ByteArray)(b:Nat):VC Tryz.prog G 126 [.agg (cC c),cY b] [⟨b,9,1,[bg nm]⟩] (fun r S=>r=bP (c.n.toList==nm.toList)/\S=[⟨b,9,1,[bg nm]⟩]):=by
 refine VC.body func126 rfl ntmps126 aU fun X0 w0 bj=>?_;exact YA
theorem Jj(t:az)(hl:t.ay.length<=1000)(nm:ByteArray):VP Tryz.prog G 89 [.agg (cG t),bg nm] (ae (bE t.ay nm)):=by
 refine VC.body func89 rfl ntmps89 aU fun X0 w0 bj=>?_;unfold cG;refine bS ?_;refine OD.box (ds:=[_,_,_,_,_]) aq rfl rfl ot rfl rfl (fun b2=>?_);refine OD.box (ds:=[_]) aq rfl rfl ot rfl rfl (fun b3=>?_);refine an 9 [2,3] ?_;refine aB 2 ?_;refine bN (sy (ds:=[_]) rfl ⟨ot,trivial⟩) ?_;refine OD.call aq rfl rfl rfl call125 (Pc.JE t.ay 126 [cY b3] _ (fun c=>c.n.toList==nm.toList) call126 (fun h _=>aex h nm b3) w4) ⟨ot,ot,trivial⟩ (mS (k:=0) rfl) ?_;rintro _ S2 ⟨rfl,iZ⟩;rw[iZ];clear iZ;refine an 9 [4] ?_;exact nP

end Go.Proofs.YtbplamgacibdaaaGreatDoor.Ba
namespace Go.Proofs.YtbplamgacibdaaaGreatDoor.Ba
open List
open Go.Proofs.Tryz
open Go.RowKit V Pk Tr Vl Go.Proofs.YtbplamgacibdaaaGreatDoor.Nm Pc Cd Ex Tw
variable {G:List (Nat×List Value)} {m:Int}
variable {S:List ah} {t:az} {n:Nat} {p:List Int×Int}
def C8(k:K)(r:D)(S:List ah):Prop:=∃ad cap,r=aT ad k.length cap/\bn 5 1 (k.flatMap cB) k.length ad cap S
theorem C8.view{k:K}{r:D}(h:C8 k r S):View S r (ap 1 cB k):=by
 obtain⟨ad,cap,rfl,ho⟩:=h;exact lU ho (cm pX _) (fun B h=>h)
theorem C8.flat{k:K}{r:D}(h:C8 k r S):lf r=true/\∀B∈S,∀d∈B.cs,lf d=true:=by
 obtain⟨ad,cap,rfl,ho⟩:=h;refine⟨rfl,fun B hB d hd=>?_⟩;rcases ho with ⟨_,_,_,_,rfl⟩|⟨b,_,_,_,rfl⟩
 ·cases hB
 rw[mem_singleton] at hB;subst hB;obtain⟨n,_,hn⟩:=mem_flatMap.1 hd;rw[cB,mem_singleton] at hn;subst hn;rfl
theorem Li(hG:(2,[Value.int .i64 m])∈G)(r:List Vl)(h1:1<=r.length)(h2:r.length<=1000000)(aW:∀v∈r,v.Ok):VC Tryz.prog G 40 [ap 3 cV r] [] (C8 (cg r)):=by
 refine VC.body func40 rfl ntmps40 aU fun X0 w0 bj=>?_;have cR:=dI;refine af [0] ?_;refine aB 1 ?_;refine bN (eE (h:=1) rfl ot trivial ⟨_,bV⟩ (by exact nx fG (fun h=>by cases h) runUnderlying40 sizeOf56 w4)) ?_;refine OD.call aq rfl rfl rfl call75 (Vm hG (r.take 1) pC (fun v U=>aW v (mem_of_mem_take U))) ⟨ot,trivial⟩ (eX _) ?_;rintro _ O ⟨E,I,rfl,kr⟩;refine OD.perm (Perm.of_eq (append_nil O)) ?_;refine an 12 [3] ?_;refine af [2] ?_;refine aK O ?_;exact⟨E,I,rfl,kr⟩
theorem xz(hG:(2,[Value.int .i64 m])∈G)(r:List Vl)(h1:1<=r.length)(h2:r.length<=1000000)(aW:∀v∈r,v.Ok):VP Tryz.prog G 40 [ap 3 cV r] (.list 1 ((cg r).flatMap cB) (cg r).length):=(Li hG r h1 h2 aW).cover fun r S hr=>hr.view
theorem abi:(Tryz.prog.info? 56).map (fun i=>(i.zero,i.size,i.bytes))=some (some (.agg #[.int .i64 0,.int .i64 0,.string ⟨#[]⟩]),3,32):=by kernel_rfl
theorem Rl(a:List Vl)(ha:a.length<=1000000):VC Tryz.prog G 30 [ap 3 cV a] [] (fun r S=>∃ad cap,r=aT ad a.length cap/\bn 56 3 (a.flatMap cV) a.length ad cap S):=by
 refine VC.body func30 rfl ntmps30 aU fun X0 w0 bj=>?_;have cR:=dI;refine af [0] ?_;refine aB 1 ?_;refine OD.zM aq rfl rfl ot bV underlying40 (fun O yq=>?_);refine an 8 [0,4] ?_;refine au ?_ ?_<;>intro aJ bz
 ·exact HF
 refine bS ?_;refine OD.zN aq rfl rfl runUnderlying40 sizeOf56 (fun b5=>?_);refine aH 1 ?_;refine OD.pn (ls:=([]:List Vl)) (new:=a) (Sq:=[⟨b5,56,0*3,[]⟩]) fG F2 aq rfl rfl underlying40 abi rfl w8 runUnderlying40 sizeOf56 ot (.inr ⟨b5,rfl,Nat.le_refl _,Nat.zero_le _,rfl⟩) (cZ (A:=[])) ot iF iF (fun E I S7 ql=>?_);exact z80
theorem IY(a:List Vl)(ha:a.length<=1000000):VP Tryz.prog G 30 [ap 3 cV a] (ap 3 cV a):=(Rl a ha).cover fun r S ⟨ad,cap,h,ho⟩=>by subst h;exact lU ho (cm fG _) (fun B h=>h)
theorem abj:(Tryz.prog.info? 93).map (fun i=>(i.zero,i.size,i.bytes))=some (some (.agg #[.string ⟨#[]⟩,.int .i64 0]),2,24):=by kernel_rfl
theorem acN(a:List cy)(ha:a.length<=1000000):VC Tryz.prog G 64 [ap 2 cC a] [] (fun r S=>∃ad cap,r=aT ad a.length cap/\bn 93 2 (a.flatMap cC) a.length ad cap S):=by
 refine VC.body func64 rfl ntmps64 aU fun X0 w0 bj=>?_;have cR:=dI;refine af [0] ?_;refine aB 1 ?_;refine OD.zM aq rfl rfl ot bV underlying39 (fun O yq=>?_);refine an 8 [0,4] ?_;refine au ?_ ?_<;>intro aJ bz
 ·exact HF
 refine bS ?_;refine OD.zN aq rfl rfl runUnderlying39 sizeOf93 (fun b5=>?_);refine aH 1 ?_;refine OD.pn (ls:=([]:List cy)) (new:=a) (Sq:=[⟨b5,93,0*2,[]⟩]) lV ag3 aq rfl rfl underlying39 abj rfl w8 runUnderlying39 sizeOf93 ot (.inr ⟨b5,rfl,Nat.le_refl _,Nat.zero_le _,rfl⟩) (cZ (A:=[])) ot iF iF (fun E I S7 ql=>?_);exact z80
theorem Rm(a:List cy)(ha:a.length<=1000000):VP Tryz.prog G 64 [ap 2 cC a] (ap 2 cC a):=(acN a ha).cover fun r S ⟨ad,cap,h,ho⟩=>by subst h;exact lU ho (cm lV _) (fun B h=>h)
theorem acO(a:List Int)(ha:a.length<=1000000):VP Tryz.prog G 108 [ap 1 Tw.cI a] (ap 1 Tw.cI a):=(Tw.ri a ha).cover fun r S ⟨ad,cap,h,ho⟩=>by subst h;exact lU ho (cm Tw.eC _) (fun B h=>h)

structure cl where
 r:List Vl
 ad:Option Addr
 cap:Nat
 S:List ah
def gR(o:cl):List D:=[aT o.ad o.r.length o.cap]
theorem vu(o:cl):(gR o).length=1:=rfl
theorem VB(o:cl):(gR o).all V.one=true:=rfl
def bR(o:cl):List ah:=o.S
def oD(o:cl):Prop:=bn 56 3 (o.r.flatMap cV) o.r.length o.ad o.cap o.S
theorem FN{S:List ah}:∀{L:List cl},(∀o∈L,oD o)->(∀B∈L.flatMap bR,B∈S)->gU S (L.flatMap gR) ((L.map cl.r).flatMap ev)
 | [],_,_=>trivial
 | o::L,h,hs=>by
  rw[map_cons,flatMap_cons,flatMap_cons];refine gU.append ⟨lU (h o mem_cons_self) (cm fG _) (fun B hB=>hs B ?_),trivial⟩ (FN (fun o ho=>h o (mem_cons_of_mem _ ho)) fun B hB=>hs B ?_)
  ·rw[flatMap_cons];exact mem_append_left _ hB
  rw[flatMap_cons];exact mem_append_right _ hB
abbrev sZ(L:List cl)(ad:Option Addr)(cap:Nat)(S:List ah):Prop:=bn 40 1 (L.flatMap gR) L.length ad cap S
structure aM where
 t:az
 cs:List D
 ad:Option Addr
 cap:Nat
 sr:List ah
 sx:List ah
variable {o:aM}
def gT(o:aM):List D:=[bg o.t.nm,ap 2 cC o.t.ay,aT o.ad o.t.rows.length o.cap,ap 5 cP o.t.ix.ag,ae o.t.ix.root]
theorem oJ(o:aM):(gT o).length=5:=rfl
theorem Lj(o:aM):(gT o).all V.one=true:=rfl
def bT(o:aM):List ah:=o.sr++o.sx
structure okW (o:aM):Prop where
 own:bn 40 1 o.cs o.t.rows.length o.ad o.cap o.sr
 aiS:∀S:List ah,(∀B∈o.sx,B∈S)->gU S o.cs (o.t.rows.flatMap ev)
def pO(o:aM):Prop:=∃L:List cl,o.cs=L.flatMap gR/\o.sx=L.flatMap bR/\(∀x∈L,oD x)/\L.map cl.r=o.t.rows/\sZ L o.ad o.cap o.sr
theorem pO.w(h:pO o):okW o:=by
 obtain⟨L,h1,h2,h3,h4,h5⟩:=h;refine⟨?_,fun S hS=>?_⟩
 ·rw[h1,<-h4,length_map];exact h5
 rw[h1,<-h4];exact FN h3 (by rw[<-h2];exact hS)
theorem Rn(h:okW o)(hs:∀B∈bT o,B∈S):View S (aT o.ad o.t.rows.length o.cap) (ap 1 ev o.t.rows) :=
 Bn h.own (h.aiS S fun B hB=>hs B (mem_append_right _ hB)) (cm js _) (fun B hB=>hs B (mem_append_left _ hB))
theorem UF(h:okW o)(hs:∀B∈bT o,B∈S):View S (.agg (gT o)) (.agg (cG o.t)):=vc ⟨ff,ff,Rn h hs,ff,ff,trivial⟩
theorem UG{S:List ah}:∀{L:List aM},(∀o∈L,okW o)->(∀B∈L.flatMap bT,B∈S)->gU S (L.flatMap gT) ((L.map aM.t).flatMap cG)
 | [],_,_=>trivial
 | o::L,h,hs=>by
  rw[map_cons,flatMap_cons,flatMap_cons];refine gU.append ⟨ff,ff,Rn (h o mem_cons_self) (fun B hB=>hs B ?_),ff,ff,trivial⟩ (UG (fun o ho=>h o (mem_cons_of_mem _ ho)) fun B hB=>hs B ?_)
  ·rw[flatMap_cons];exact mem_append_left _ hB
  rw[flatMap_cons];exact mem_append_right _ hB
abbrev vN(L:List aM)(ad:Option Addr)(cap:Nat)(S:List ah):Prop:=bn 68 5 (L.flatMap gT) L.length ad cap S
theorem KY{Sx:List ah}{L:List aM}{ad:Option Addr}{cap:Nat}(ho:vN L ad cap Sx)(h:∀o∈L,okW o)(hs:∀B∈Sx++L.flatMap bT,B∈S):View S (aT ad L.length cap) (.list 5 ((L.map aM.t).flatMap cG) L.length) :=
 Bn ho (UG h fun B hB=>hs B (mem_append_right _ hB)) (by rw[cm jT,length_map]) (fun B hB=>hs B (mem_append_left _ hB))
def aiT(t:az)(r:D)(S:List ah):Prop:=∃o:aM,o.t=t/\r = .agg (gT o)/\pO o/\S=bT o
def LZ(l:List az)(r:D)(S:List ah):Prop:=∃(L:List aM) (ad:Option Addr) (cap:Nat) (Sx:List ah),r = .agg [aT ad L.length cap]/\vN L ad cap Sx/\(∀o∈L,pO o)/\L.map aM.t=l/\S=Sx++L.flatMap bT
theorem LZ.view{l:List az}{r:D}(h:LZ l r S):View S r (.agg [ap 5 cG l]):=by
 obtain⟨L,ad,cap,Sx,rfl,ho,aW,rfl,rfl⟩:=h;first|rw[length_map]|(show View _ _ (.list _ _ (length _));rw[length_map])|(show View _ _ (.agg [.list _ _ (length _)]);rw[length_map])
 exact vc ⟨KY ho (fun o h=>(aW o h).w) (fun B h=>h),trivial⟩
theorem UH(L:List cl)(o:cl):(L++[o]).flatMap bR=L.flatMap bR++bR o:=by simp
theorem UI(L:List aM)(o:aM):(L++[o]).flatMap bT=L.flatMap bT++bT o:=by simp
theorem abk:(Tryz.prog.info? 86).map (fun i=>(i.zero,i.size,i.bytes))=some (some (.slice none 0 0),1,24):=by kernel_rfl
theorem aaL:(Tryz.prog.info? 129).map (fun i=>(i.zero,i.size,i.bytes))=some (some (.agg #[.bool false,.slice none 0 0,.slice none 0 0,.slice none 0 0,.int .i64 0]),5,88):=by kernel_rfl
theorem abl(t:aF)(h:Nat)(v:Valid t h):VC Tryz.prog G 65 [.agg (cT t)] [] (fun r S=>∃ad cap,r = .agg [aT ad t.ag.length cap,ae t.root]/\bn 129 5 (t.ag.flatMap cP) t.ag.length ad cap S):=by
 refine VC.body func65 rfl ntmps65 aU fun X0 w0 bj=>?_;unfold Tw.cT;have cR:=dI;have OU:=v.oo;refine bS ?_;refine OD.box (ds:=[_,_]) aq rfl rfl ot rfl rfl (fun b1=>?_);refine OD.alloc (ds:=[_,_]) aq rfl rfl zeroValue66 rfl (fun b2=>?_);refine an 53 [1,2] ?_;refine aB 3 ?_;refine OD.alloc (ds:=[_,_]) aq rfl rfl zeroValue66 rfl (fun b3=>?_);refine aP 0 [_,_] sizeOf66 ?_;refine an 53 [1,2,3] ?_;refine bS ?_;refine bu [2,3,13,14,15] ?_;refine ew [2,3,13,14] (fun aS _ (aO:Nat×List c8×Option Addr×Nat×List ah) aE=>match aO with|(i,L,dj,cU,Sx)=>(i<=t.ag.length)/\(L=t.ag.take i)/\(bn 129 5 ((L).flatMap cP) (L).length dj cU Sx)/\aE=(⟨53,(15,ae (i:Nat))::aS,(⟨b3,66,2,[aT dj (L).length cU,ae t.root]⟩::⟨b2,66,2,[cc,ae 0]⟩::Sx)⟩:St)) (fun (aO:Nat×List c8×Option Addr×Nat×List ah)=>match aO with|(i,L,dj,cU,Sx)=>t.ag.length-i) (0,([]:List c8),none,0,[]) ⟨(Nat.zero_le _),rfl,(bn.cast iR jZ),rfl⟩ ?_;rintro⟨i,L,dj,cU,Sx⟩ _ ⟨hi,hL,dP,rfl⟩;refine af [2,3,13,14,15,16] ?_;refine au ?_ ?_<;>intro aJ bz
 ·have aa:i<t.ag.length:=(by omega)
  have rW:L.length=i:=(by rw[hL,length_take];omega)
  have po:=v.fM _ (getElem_mem aa);have jg:=po.ec;have ZC:=po.hlen;have Gt:(t.ag[i]'aa).kids.length<=6:=by
      exact WE
  refine aB 2 ?_;refine OD.alloc (ds:=[_,_,_,_,_]) aq rfl rfl zeroValue129 rfl (fun b5=>?_);refine aP 0 [_,_,_,_,_] sizeOf129 ?_;refine an 53 [2,3,5,13,14,15] ?_;refine CD.seq ?_;refine qR 12 11 [2,3,5,6,13,14,15,29] ?_;refine cf (acO (t.ag[i]'aa).kids w4) ?_;refine cf (my (t.ag[i]'aa).high w4) ?_;refine kK 3 ?_;refine mo ?_;refine iz ?_;refine⟨rfl,fun b6=>?_⟩;refine aP 0 [_,_,_,_,_] sizeOf129 ?_;refine an 53 [2,3,5,6,13,14,15] ?_;refine bS ?_;refine bu [2,3,6,13,14,15,31,32,33] ?_
  refine ew [2,3,6,13,14,15,31,32] (fun aS _ (aO:Nat×List K×Option Addr×Nat×List ah×Option Addr×Nat×List ah) aE=>match aO with|(j,M,iX,iY,Sy,dj,cU,Sx)=>(j<=(t.ag[i]'aa).keys.length)/\(M=(t.ag[i]'aa).keys.take j)/\(bn 86 1 ((M).flatMap Tw.cK) (M).length iX iY Sy)/\(bn 129 5 ((L).flatMap cP) (L).length dj cU Sx)/\aE=(⟨53,(33,ae (j:Nat))::aS,(⟨b6,129,5,[bP (t.ag[i]'aa).leaf,aT iX (M).length iY,.list 1 ((t.ag[i]'aa).kids.flatMap Tw.cI) (t.ag[i]'aa).kids.length,.list 1 ((t.ag[i]'aa).high.flatMap cB) (t.ag[i]'aa).high.length,ae (t.ag[i]'aa).next]⟩::⟨b3,66,2,[aT dj L.length cU,ae t.root]⟩::⟨b2,66,2,[cc,ae 0]⟩::(Sy++Sx))⟩:St)) (fun (aO:Nat×List K×Option Addr×Nat×List ah×Option Addr×Nat×List ah)=>match aO with|(j,M,iX,iY,Sy,dj,cU,Sx)=>(t.ag[i]'aa).keys.length-j) (0,([]:List K),none,0,[],dj,cU,Sx) ⟨(Nat.zero_le _),rfl,(bn.cast iR jZ),(bn.cast dP jZ),rfl⟩ ?_;rintro⟨j,M,iX,iY,Sy,dj,cU,Sx⟩ _ ⟨hj,hM,Z,dP,rfl⟩;refine af [2,3,6,13,14,15,31,32,33,34] ?_;refine au ?_ ?_<;>intro aX cr
  ·have mr:j<(t.ag[i]'aa).keys.length:=(by omega)
   have MT:=(po.lI _ (getElem_mem mr)).2;have vT:M.length=j:=(by rw[hM,length_take];omega)
   refine af [2,3,6,8,13,14,15,31,32,33] ?_;refine gP 6 (av (take 3 _)) ?_ (fun _ h=>(Sublist.map _ (take_sublist _ _)).subset h);refine aD 0 rfl (dQ 1) ?_;refine aD 1 rfl (dS 0) ?_;refine aD 2 rfl bD ?_;refine dM.later rfl ?_;refine AD.one (i:=3) aC ?_;refine qm call70 (my (t.ag[i]'aa).keys[j] w4) ?_;refine AD.one (i:=4) aC ?_;refine nq (cu 0 [_]) [.slice none 0 0] [_] zeroValue86 runUnderlying127 sizeOf86 (fun wg=>?_);refine nQ 0 41 1 1 ?_;refine AD.one (i:=5) aC ?_;refine bC.eG (ls:=(M)) (new:=[(t.ag[i]'aa).keys[j]]) (Sq:=Sy) Tw.gr Tw.pY rfl aq rfl rfl underlying127 abk rfl w8 ot Z (pp (A:=[_,_,_])) ot bq v7 iF (fun O E als alu=>?_);refine AD.perm (kG (S1:=[⟨O,86,E*1,flatMap Tw.cK ((M)++[(t.ag[i]'aa).keys[j]])⟩]) (A:=[_,_,_])) ?_;refine fm ?_;refine aH 1 ?_;refine aP 0 [_,_,_,_,_] sizeOf127 ?_;refine an 53 [2,3,6,13,14,15,31,32,33] ?_;refine tE ?_;refine bu [2,3,6,13,14,15,31,32,33] ?_;refine⟨((j+1),(M++[(t.ag[i]'aa).keys[j]]),(some ⟨O,0,none⟩),E,[⟨O,86,E*1,flatMap Tw.cK ((M)++[(t.ag[i]'aa).keys[j]])⟩],dj,cU,Sx),_,cn,aI,w4,(by rw[hM];exact pR mr),(bn.cast (bJ als alu) jZ),(bn.cast dP jZ),rfl⟩
  refine CD.exit ?_;have hMk:M=(t.ag[i]'aa).keys:=(by rw[hM,take_of_length_le w4])
  subst hMk;refine CD.Fj (i:=1) (j:=0) (Sq:=Sy) (S':=⟨b6,129,5,[bP (t.ag[i]'aa).leaf,.list 1 ((t.ag[i]'aa).keys.flatMap Tw.cK) (t.ag[i]'aa).keys.length,.list 1 ((t.ag[i]'aa).kids.flatMap Tw.cI) (t.ag[i]'aa).kids.length,.list 1 ((t.ag[i]'aa).high.flatMap cB) (t.ag[i]'aa).high.length,ae (t.ag[i]'aa).next]⟩::⟨b3,66,2,[aT dj L.length cU,ae t.root]⟩::⟨b2,66,2,[cc,ae 0]⟩::Sx) Z (cm Tw.gr _) (pp (A:=[_,_,_])) rfl rfl rfl rfl ?_;refine dw 3 ?_;refine ey (cu 0 [_]) [.bool false,.slice none 0 0,.slice none 0 0,.slice none 0 0,.int .i64 0] [_,_,_,_,_] zeroValue129 runUnderlying64 sizeOf129 (fun O9=>?_);refine fD 0 48 5 1 ?_;refine OD.eG (ls:=(L)) (new:=[(t.ag[i]'aa)]) (Sq:=Sx) F7 ahg aq rfl rfl underlying64 aaL rfl w8 ot dP (cZ (A:=[_,_,_])) ot bq me mg (fun U I alv alw=>?_);refine OD.perm (dU (S1:=[⟨U,129,I*5,flatMap cP ((L)++[(t.ag[i]'aa)])⟩]) (A:=[_,_,_])) ?_;refine aH 1 ?_;refine aP 1 [_,_] sizeOf64 ?_;refine an 53 [2,3,13,14,15] ?_;refine bM [2,3,13,14,15] ?_;refine⟨((i+1),(L++[(t.ag[i]'aa)]),(some ⟨U,0,none⟩),I,[⟨U,129,I*5,flatMap cP ((L)++[(t.ag[i]'aa)])⟩]),_,cn,aI,w4,(by rw[hL];exact pR aa),(bn.cast (bJ alv alw) jZ),rfl⟩
 refine aB 1 ?_;refine aP 1 [_,_] sizeOf66 ?_;refine an 53 [2] ?_;refine aK Sx ?_;have hLe:L=t.ag:=(by rw[hL,take_of_length_le w4])
 subst hLe;exact⟨dj,cU,rfl,dP⟩
theorem abm(t:aF)(h:Nat)(v:Valid t h):VP Tryz.prog G 65 [.agg (cT t)] (.agg (cT t)):=(abl t h v).cover fun r S ⟨ad,cap,h,ho⟩=>by subst h;exact vc ⟨lU ho (cm F7 _) (fun B h=>h),ff,trivial⟩
structure zG (t:az):Prop where
 ay:t.ay.length<=1000
 rows:t.rows.length<=1000
 row:∀r∈t.rows,r.length<=1000
 ix:∃h,Valid t.ix h
theorem abn:(Tryz.prog.info? 40).map (fun i=>(i.zero,i.size,i.bytes))=some (some (.slice none 0 0),1,24):=by kernel_rfl
theorem B9(t:az)(hs:zG t):VC Tryz.prog G 37 [.agg (cG t)] [] (aiT t):=by
 refine VC.body func37 rfl ntmps37 aU fun X0 w0 bj=>?_;unfold cG;have cR:=dI;have hc:=hs.ay;have hn:=hs.rows;obtain⟨h,v⟩:=hs.ix;have O:=abm (G:=G) t.ix h v;unfold Tw.cT at O;refine bS ?_;refine OD.box (ds:=[_,_,_,_,_]) aq rfl rfl ot rfl rfl (fun b1=>?_);refine OD.alloc (ds:=[_,_,_,_,_]) aq rfl rfl zeroValue68 rfl (fun b2=>?_);refine an 31 [1,2] ?_;refine CD.seq ?_;refine qR 10 9 [1,2,3,14] ?_;refine cf (Rm t.ay w4) ?_;refine cf (O) ?_;refine kK 1 ?_;refine mo ?_;refine iz ?_;refine⟨rfl,fun b3=>?_⟩;refine aP 0 [_,_,_,_,_] sizeOf68 ?_;refine an 31 [1,2,3] ?_;refine af [2,3,16,17,18] ?_;refine ew [2,3,16,17] (fun aS _ (aO:Nat×List cl×Option Addr×Nat×List ah) aE=>match aO with|(i,L,dj,cU,Sx)=>(i<=t.rows.length)/\(L.map cl.r=t.rows.take i)/\(∀o∈L,oD o)/\(sZ L dj cU Sx)/\aE=(⟨31,(18,ae (i:Nat))::aS,(⟨b3,68,5,[bg t.nm,ap 2 cC t.ay,aT dj L.length cU,ap 5 cP t.ix.ag,ae t.ix.root]⟩::⟨b2,68,5,[gh,cc,cc,cc,ae 0]⟩::(Sx++L.flatMap bR))⟩:St)) (fun (aO:Nat×List cl×Option Addr×Nat×List ah)=>match aO with|(i,L,dj,cU,Sx)=>t.rows.length-i) (0,([]:List cl),none,0,[]) ⟨(Nat.zero_le _),rfl,(fun o h=>by cases h),iR,rfl⟩ ?_;rintro⟨i,L,dj,cU,Sx⟩ _ ⟨hi,hL,aW,dP,rfl⟩;refine af [2,3,16,17,18,19] ?_;refine au ?_ ?_<;>intro aJ bz
 ·have aa:i<t.rows.length:=(by omega)
  have rW:L.length=i:=(by have:=congrArg length hL;rw[length_map,length_take] at this;omega)
  have gN:=hs.row _ (getElem_mem aa);refine af [2,3,5,16,17,18] ?_;refine gP 6 (av (take 2 _)) ?_ (fun _ h=>(Sublist.map _ (take_sublist _ _)).subset h);refine aD 0 rfl (dQ 2) ?_;refine aD 1 rfl (dS 0) ?_;refine aD 2 rfl bD ?_;refine dM.later rfl ?_;refine AD.one (i:=3) aC ?_;refine bC.call rfl aq rfl rfl rfl call30 (Rl (t.rows[i]'aa) w4) ⟨ot,trivial⟩ (eX _) (fun b hb=>by simp[av,St.put] at hb |-;first|(simp[hb];done)|(rcases hb with hb|hb<;>simp[hb])|(rcases hb with hb|hb|hb<;>simp[hb])) ?_;rintro _ Sz ⟨mh,mi,rfl,Pb⟩;refine AD.perm (kG (A:=[_,_])) ?_;have we:(L++[(⟨(t.rows[i]'aa),mh,mi,Sz⟩:cl)]).map cl.r=t.rows.take (i+1):=(by rw[map_append,hL];exact pR aa)
  have kr:∀o∈L++[(⟨(t.rows[i]'aa),mh,mi,Sz⟩:cl)],oD o:=fun o ho=>by rcases mem_append.1 ho with ho|ho;exact aW o ho;rw[mem_singleton] at ho;subst ho;exact Pb
  refine AD.one (i:=4) aC ?_;refine nq (cu 0 [_]) [.slice none 0 0] [_] zeroValue40 runUnderlying33 sizeOf40 (fun b26=>?_);refine nQ 0 26 1 1 ?_;refine AD.one (i:=5) aC ?_;refine bC.eG (ls:=L) (new:=[(⟨(t.rows[i]'aa),mh,mi,Sz⟩:cl)]) (Sq:=Sx) vu VB rfl aq rfl rfl underlying33 abn rfl w8 ot dP (tX (A:=[_,_])) ot bq me mg (fun I E U Z=>?_);refine AD.perm (wU (S2:=[⟨I,40,E*1,flatMap gR (L++[(⟨(t.rows[i]'aa),mh,mi,Sz⟩:cl)])⟩]) (A:=[_,_])) ?_;refine AD.perm (S':=⟨b3,68,5,[bg t.nm,ap 2 cC t.ay,aT dj L.length cU,ap 5 cP t.ix.ag,ae t.ix.root]⟩::⟨b2,68,5,[gh,cc,cc,cc,ae 0]⟩::([⟨I,40,E*1,flatMap gR (L++[(⟨(t.rows[i]'aa),mh,mi,Sz⟩:cl)])⟩]++(L++[(⟨(t.rows[i]'aa),mh,mi,Sz⟩:cl)]).flatMap bR)) (jB fun lM=>by rw[UH];simp only[bR,map_append,map_cons,map_nil,sum_append,sum_cons,sum_nil];omega) ?_;refine fm ?_;refine aH 1 ?_;refine aP 0 [_,_,_,_,_] sizeOf33 ?_;refine an 31 [2,3,16,17,18] ?_;refine bM [2,3,16,17,18] ?_;refine⟨((i+1),(L++[(⟨(t.rows[i]'aa),mh,mi,Sz⟩:cl)]),(some ⟨I,0,none⟩),E,[⟨I,40,E*1,flatMap gR (L++[(⟨(t.rows[i]'aa),mh,mi,Sz⟩:cl)])⟩]),_,cn,aI,w4,we,kr,(bJ U Z),rfl⟩
 refine aB 1 ?_;refine aP 1 [_,_,_,_,_] sizeOf68 ?_;refine an 31 [2] ?_;refine aK (Sx++L.flatMap bR) ?_;have q9:L.map cl.r=t.rows:=(by rw[hL,take_of_length_le w4])
 have hLn:t.rows.length=L.length:=(by rw[<-q9];(first|rw[length_map]|(unfold ap;rw[length_map])))
 exact⟨⟨t,L.flatMap gR,dj,cU,Sx,L.flatMap bR⟩,rfl,(by unfold gT;rw[hLn]),⟨L,rfl,rfl,aW,q9,dP⟩,rfl⟩
theorem abo:(Tryz.prog.info? 68).map (fun i=>(i.zero,i.size,i.bytes))=some (some (.agg #[.string ⟨#[]⟩,.slice none 0 0,.slice none 0 0,.slice none 0 0,.int .i64 0]),5,96):=by kernel_rfl
theorem Ro(l:List az)(hl:l.length<=1000)(H:∀t∈l,zG t):VC Tryz.prog G 22 [.agg [ap 5 cG l]] [] (LZ l):=by
 refine VC.body func22 rfl ntmps22 aU fun X0 w0 bj=>?_;have cR:=dI;refine bS ?_;refine OD.box (ds:=[_]) aq rfl rfl ot rfl rfl (fun b1=>?_);refine OD.alloc (ds:=[_]) aq rfl rfl zeroValue31 rfl (fun b2=>?_);refine an 22 [1,2] ?_;refine bS ?_;refine OD.alloc (ds:=[_]) aq rfl rfl zeroValue31 rfl (fun b3=>?_);refine an 22 [1,2,3] ?_;refine af [2,3,7,8,9] ?_;refine ew [2,3,7,8] (fun aS _ (aO:Nat×List aM×Option Addr×Nat×List ah) aE=>match aO with|(i,L,dj,cU,Sx)=>(i<=l.length)/\(L.map aM.t=l.take i)/\(∀o∈L,pO o)/\(vN L dj cU Sx)/\aE=(⟨22,(9,ae (i:Nat))::aS,(⟨b3,31,1,[aT dj L.length cU]⟩::⟨b2,31,1,[cc]⟩::(Sx++L.flatMap bT))⟩:St)) (fun (aO:Nat×List aM×Option Addr×Nat×List ah)=>match aO with|(i,L,dj,cU,Sx)=>l.length-i) (0,([]:List aM),none,0,[]) ⟨(Nat.zero_le _),rfl,(fun o h=>by cases h),iR,rfl⟩ ?_;rintro⟨i,L,dj,cU,Sx⟩ _ ⟨hi,hL,aW,dP,rfl⟩;refine af [2,3,7,8,9,10] ?_;refine au ?_ ?_<;>intro aJ bz
 ·have aa:i<l.length:=(by omega)
  have rW:L.length=i:=(by have:=congrArg length hL;rw[length_map,length_take] at this;omega)
  refine aB 2 ?_;refine OD.alloc (ds:=[_,_,_,_,_]) aq rfl rfl zeroValue68 rfl (fun b5=>?_);refine aP 0 [_,_,_,_,_] sizeOf68 ?_;refine an 22 [2,3,5,7,8,9] ?_;refine gP 6 (av (take 3 _)) ?_ (fun _ h=>(Sublist.map _ (take_sublist _ _)).subset h);refine aD 0 rfl (dQ 0) ?_;refine aD 1 rfl (dS 1) ?_;refine aD 2 rfl (dz (mk:=Op.load 68) rfl ot (by first|exact qD (k:=0) (ds:=[_,_,_,_,_]) rfl rfl isAgg68 sizeOf68 rfl rfl|exact kH jT isAgg68 sizeOf68 w5|exact kH oJ isAgg68 sizeOf68 w5|exact dJ (k:=0) jT rfl rfl rfl isAgg68 sizeOf68 w5|exact dJ (k:=1) jT rfl rfl rfl isAgg68 sizeOf68 w5|exact dJ (k:=2) jT rfl rfl rfl isAgg68 sizeOf68 w5|exact dJ (k:=0) oJ rfl rfl rfl isAgg68 sizeOf68 w5|exact dJ (k:=1) oJ rfl rfl rfl isAgg68 sizeOf68 w5|exact dJ (k:=2) oJ rfl rfl rfl isAgg68 sizeOf68 w5|exact qG (ds:=[_,_,_,_,_]) isAgg68 sizeOf68 rfl rfl)) ?_;refine dM.later rfl ?_;refine AD.one (i:=3) aC ?_;refine bC.call rfl aq rfl rfl rfl call37 (B9 (l[i]'aa) (H _ (getElem_mem aa))) ⟨ot,trivial⟩ (eX _) (fun b hb=>by simp[av,St.put] at hb |-;first|(simp[hb];done)|(rcases hb with hb|hb<;>simp[hb])|(rcases hb with hb|hb|hb<;>simp[hb])) ?_;rintro _ _ ⟨o,Z,rfl,yJ,rfl⟩;refine AD.perm (kG (A:=[_,_,_])) ?_;have we:(L++[o]).map aM.t=l.take (i+1):=(by rw[map_append,hL,map_cons,map_nil,Z];exact pR aa)
  have kr:∀x∈L++[o],pO x:=fun x hx=>by rcases mem_append.1 hx with hx|hx;exact aW x hx;rw[mem_singleton] at hx;subst hx;exact yJ
  refine AD.one (i:=4) aC ?_;refine nq (cu 0 [_]) [.string ⟨#[]⟩,.slice none 0 0,.slice none 0 0,.slice none 0 0,.int .i64 0] [_,_,_,_,_] zeroValue68 runUnderlying29 sizeOf68 (fun b17=>?_);refine nQ 0 17 5 1 ?_;refine AD.one (i:=5) aC ?_;refine bC.eG (ls:=L) (new:=[o]) (Sq:=Sx) oJ Lj rfl aq rfl rfl underlying29 abo rfl w8 ot dP (tX (A:=[_,_,_])) ot bq me mg (fun I E O U=>?_);refine AD.perm (wU (S2:=[⟨I,68,E*5,flatMap gT (L++[o])⟩]) (A:=[_,_,_])) ?_;have Y9:(bT o++(([⟨I,68,E*5,flatMap gT (L++[o])⟩]:List ah)++L.flatMap bT)).Perm (([⟨I,68,E*5,flatMap gT (L++[o])⟩]:List ah)++(L++[o]).flatMap bT):=(jB fun lM=>by rw[UI];simp only[map_append,map_cons,map_nil,sum_append,sum_cons,sum_nil];omega)
  refine AD.perm (Perm.cons _ (Perm.cons _ (Perm.cons _ Y9))) ?_;refine fm ?_;refine aH 1 ?_;refine aP 1 [_] sizeOf29 ?_;refine an 22 [2,3,7,8,9] ?_;refine bM [2,3,7,8,9] ?_;refine⟨((i+1),(L++[o]),(some ⟨I,0,none⟩),E,[⟨I,68,E*5,flatMap gT (L++[o])⟩]),_,cn,aI,w4,we,kr,(bJ O U),rfl⟩
 refine aB 1 ?_;refine aP 1 [_] sizeOf31 ?_;refine an 22 [2] ?_;refine aK (Sx++L.flatMap bT) ?_;have q9:L.map aM.t=l:=(by rw[hL,take_of_length_le w4])
 exact⟨L,dj,cU,Sx,rfl,dP,aW,q9,rfl⟩
theorem acP(l:List az)(hl:l.length<=1000)(H:∀t∈l,zG t):VP Tryz.prog G 22 [.agg [ap 5 cG l]] (.agg [ap 5 cG l]):=(Ro l hl H).cover fun r S hr=>hr.view

structure cQ (t:az) (n:Nat):Prop where
 nm:cW t.nm=0
 ay:t.ay=dF
 ec:t.rows.length<=40
 ix:iJ t.ix n
 row:∀i (h:i<t.rows.length),t.rows[i]≠[]->Pc.dY dF t.rows[i]=0/\(∀v∈t.rows[i],v.Ok)/\(cg t.rows[i],(i:Int))∈dg t.ix
 gH:∀x∈dg t.ix,0<=x.2/\∃h:x.2.toNat<t.rows.length,t.rows[x.2.toNat]≠[]/\x.1=cg t.rows[x.2.toNat]
theorem oN{r:List Vl}(h:Pc.dY dF r=0):r.length=4:=by
 unfold Pc.dY at h;rw[if_neg AJ] at h;split at h
 ·cases h
 rename_i h2;exact Decidable.not_not.1 h2
theorem cQ.len(g:cQ t n){r:List Vl}(hr:r∈t.rows):r=[]\/(r.length=4/\∀v∈r,v.Ok):=by
 obtain⟨i,hi,rfl⟩:=mem_iff_getElem.1 hr;rcases Classical.em (t.rows[i]=[]) with h|h
 ·exact .inl h
 exact .inr ⟨oN (g.row i hi h).1,(g.row i hi h).2.1⟩
theorem cQ.small(g:cQ t n):zG t :=
 ⟨by rw[g.ay];decide,Nat.le_trans g.ec w8,fun r hr=>by rcases g.len hr with h|h;rw[h];exact Nat.zero_le _;omega,_,g.ix.val⟩
def rowAt(t:az)(i:Int):List Vl:=t.rows.getD i.toNat []
theorem iS{i:Int}(h:i.toNat<t.rows.length):rowAt t i=t.rows[i.toNat]:=by unfold rowAt;rw[getD_eq_getElem?_getD,getElem?_eq_getElem h];rfl
def lK(t:az)(w:List bf):List Int->List (K×Int)->List Int×Int
 | acc,[]=>(acc,0)
 | acc,x::r=>if 0<w.length then (if (fA t.ay (rowAt t x.2) w).2≠0 then ([],(fA t.ay (rowAt t x.2) w).2) else if (fA t.ay (rowAt t x.2) w).1.n≠1 then lK t w acc r else lK t w (acc++[x.2]) r) else lK t w (acc++[x.2]) r
noncomputable def ax(t:az)(w:List bf):List Int×Int:=if (je t.ay w).2≠0 then ([],(je t.ay w).2) else lK t w [] (py t.ix (je t.ay w).1.1 (je t.ay w).1.2)
def C9(p:List Int×Int)(r:D)(S:List ah):Prop:=∃ad cap,r = .da [aT ad p.1.length cap,ae p.2]/\bn 3 1 (p.1.flatMap Tw.cI) p.1.length ad cap S
theorem C9.view{r:D}(h:C9 p r S):View S r (.da [ap 1 Tw.cI p.1,ae p.2]):=by
 obtain⟨ad,cap,rfl,ho⟩:=h;exact Fg ⟨lU ho (cm Tw.eC _) (fun B h=>h),ff,trivial⟩
theorem C9.flat{r:D}(h:C9 p r S):lf r=true/\∀B∈S,∀d∈B.cs,lf d=true:=by
 obtain⟨ad,cap,rfl,ho⟩:=h;refine⟨rfl,fun B hB d hd=>?_⟩;rcases ho with ⟨_,_,_,_,rfl⟩|⟨b,_,_,_,rfl⟩
 ·cases hB
 rw[mem_singleton] at hB;subst hB;obtain⟨n,_,hn⟩:=mem_flatMap.1 hd;rw[Tw.cI,mem_singleton] at hn;subst hn;rfl
theorem Ft{t:aF}{f u:K}:∀x∈py t f u,x∈dg t:=fun x hx=>by
 unfold py xJ at hx;have h1:=(takeWhile_sublist _).subset hx;unfold nG at h1;exact(mem_filter.1 h1).1
theorem JU{t:aF}(g:iJ t n)(f u:K):(py t f u).length<=16000:=by
 unfold py xJ;exact Nat.le_trans (takeWhile_sublist _).length_le (S6 g.val f)
theorem UJ(l:List Vl):(gg l).1.length<=100:=by
 unfold gg;repeat' split
 all_goals first|exact Nat.zero_le _|(simp only;omega)
def Sm(b:lE):Prop:=b.1.length<=100/\b.2.length<=100
theorem UK{key:ByteArray}{ops:List bf}{no:Bool}{b:lE}(h:Sm b):Sm (nE key ops no b):=by
 have hk:(At ops).length<=100:=UJ _;have hl:∀b,Sm b->Sm (oR (At ops) b):=fun b h=>by unfold oR;split;exact⟨hk,h.2⟩;exact h
 have E:∀b,Sm b->Sm (sH (At ops) b):=fun b h=>by unfold sH;split;exact⟨h.1,hk⟩;exact h
 unfold nE;split
 ·exact h
 split
 ·exact h
 unfold vG;cases(nU ops (ops.length-1)==6||(dK (mB key) (ops.take 2)==0)!=no)<;>cases(nU ops (ops.length-1)==6||(dK (mB key) (ops.take 2)==0)==no)<;>first|exact h|exact hl _ h|exact E _ h|exact E _ (hl _ h)
theorem Ll{key:ByteArray}:∀(f:Nat) (ops:List bf) (b:lE),Sm b->Sm (gz key f ops b)
 | 0,_,_,h=>h
 | f+1,ops,b,h=>by
  unfold gz;split
  ·exact Ll f _ _ (Ll f _ _ h)
  split
  ·exact UK h
  exact UK h
theorem aht(l:List cy)(ops:List bf):Sm (je l ops).1:=by
 have h0:Sm (([],[]):lE):=⟨Nat.zero_le _,Nat.zero_le _⟩
 unfold je;repeat' split
 all_goals first|exact h0|exact Ll _ _ _ h0
theorem Rp:(Tryz.prog.info? 3).map (fun i=>(i.zero,i.size,i.bytes))=some (some (.int .i64 0),1,8):=by kernel_rfl
theorem Lm(hm:(3,marksC)∈G)(hw:(1,wordsC)∈G)(ht:(0,typesC)∈G)(hG:(2,[Value.int .i64 m])∈G)(t:az)(g:cQ t n)(w:List bf)(ho:∀o∈w,o.nm.size<=maxLen)(fY:∀o∈w,o.v.Ok):VC Tryz.prog G 90 [.agg (cG t),ap 5 cO w] [] (C9 (ax t w)):=by
 refine VC.body func90 rfl ntmps90 aU fun X0 w0 bj=>?_;have U:=aht t.ay w;have qP:=acd (G:=G) hm hw ht hG t.ay yg yf w ho fY;unfold OR at qP;have cR:=dI;have qh:=VA (G:=G) g.ix (je t.ay w).1.1 (je t.ay w).1.2 U.1 U.2;unfold Tw.cT at qh;have jg:=JU g.ix (je t.ay w).1.1 (je t.ay w).1.2;generalize hL:(py t.ix (je t.ay w).1.1 (je t.ay w).1.2)=L at *;unfold cG;have Z:∀x∈L,x∈dg t.ix:=fun x hx=>Ft x (hL ▸ hx);refine bS ?_;refine OD.box (ds:=[_,_,_,_,_]) aq rfl rfl ot rfl rfl (fun b2=>?_);refine an 70 [1,2] ?_;refine cL [1,2,6,7,8] (qP) ?_;refine af [1,2,6,7,8,25] ?_;refine au ?_ ?_<;>intro aJ bz
 ·have hne:(je t.ay w).2≠0:=(by simpa using aJ)
  have aV:ax t w=([],(je t.ay w).2):=if_pos hne;refine af [4,5] ?_;refine aK [] ?_;rw[aV];exact⟨none,0,rfl,iR⟩
 have hz:(je t.ay w).2=0:=(by simpa using aJ)
 have O:ax t w=lK t w [] (L.drop 0):=(by unfold ax;rw[if_neg (by simp[hz]),hL,drop_zero])
 refine cL [1,2,9] (qh) ?_;refine bS ?_;refine bu [1,2,9,11] ?_;refine af [1,2,11,35,36,37] ?_;refine ew [1,2,35,36] (fun aS _ (aO:Nat×List Int×Option Addr×Nat×List ah) aE=>match aO with|(k,acc,dj,cU,Sx)=>(k<=L.length)/\((acc).length<=k)/\(ax t w=lK t w acc (L.drop k))/\(bn 3 1 ((acc).flatMap Tw.cI) (acc).length dj cU Sx)/\aE=(⟨70,(11,aT dj (acc).length cU)::(37,ae (k:Nat))::aS,(⟨b2,68,5,[bg t.nm,ap 2 cC t.ay,ap 1 ev t.rows,ap 5 cP t.ix.ag,ae t.ix.root]⟩::Sx)⟩:St)) (fun (aO:Nat×List Int×Option Addr×Nat×List ah)=>match aO with|(k,acc,dj,cU,Sx)=>L.length-k) (0,([]:List Int),none,0,[]) ⟨(Nat.zero_le _),(Nat.zero_le _),O,(bn.cast iR jZ),rfl⟩ ?_;rintro⟨k,acc,dj,cU,Sx⟩ _ ⟨hk,nJ,aV,dP,rfl⟩;refine af [1,2,11,35,36,37,38] ?_;refine au ?_ ?_<;>intro aX cr
 ·have aa:k<L.length:=(by omega)
  obtain⟨iu,eT,oA,NN⟩:=g.gH _ (Z _ (getElem_mem aa));have kx:=iS (t:=t) eT;have jM:L.drop k=(L[k]'aa)::L.drop (k+1):=drop_eq_getElem_cons aa;have Pd:=(g.row _ eT oA).2.1;have hr4:=oN (g.row _ eT oA).1;refine aB 2 ?_;refine OD.alloc (ds:=[_,_]) aq rfl rfl zeroValue88 rfl (fun mK=>?_);refine aP 0 [_,_] sizeOf88 ?_;refine an 70 [1,2,11,13,35,36,37] ?_;refine af [1,2,11,13,35,36,37,43] ?_;refine au ?_ ?_<;>intro bL cJ
  ·have E:0<w.length:=(by omega)
   have I:=Uq (G:=G) hm hw ht t.ay yg yf (t.rows[(L[k]'aa).2.toNat]) w4 Pd w ho fY;rw[<-kx] at I;unfold nw at I;rw[kx] at I;refine CD.seq ?_;refine qR 14 13 [1,2,11,13,14,35,36,37,55,56] ?_;refine aR 6 ?_ (h:=by exact(dL 1 (h:=by first|exact .l (j:=(L[k]'aa).2.toNat) (Int.toNat_of_nonneg iu).symm eT|exact .r (j:=(L[k]'aa).2.toNat) (Int.toNat_of_nonneg iu).symm eT)));refine cf (I) ?_;refine kK 3 ?_;refine mo ?_;refine iz ?_;refine⟨rfl,fun DX=>?_⟩;refine aP 0 [_,_,_] sizeOf56 ?_;refine an 70 [1,2,11,13,14,15,35,36,37] ?_;refine af [1,2,11,13,14,15,35,36,37,58] ?_;refine au ?_ ?_<;>intro cN en
   ·have hne:(fA t.ay (rowAt t (L[k]'aa).2) w).2≠0:=(by rw[kx];simpa using cN)
    have j6:ax t w=([],(fA t.ay (rowAt t (L[k]'aa).2) w).2):=(by rw[aV,jM,lK,if_pos E,if_pos hne])
    rw[kx] at j6;refine af [4,5] ?_;refine aK [] ?_;rw[j6];exact⟨none,0,rfl,iR⟩
   have hne:¬(fA t.ay (rowAt t (L[k]'aa).2) w).2≠0:=(by rw[kx];simpa using cN)
   refine af [1,2,11,13,35,36,37,62] ?_;refine au ?_ ?_<;>intro dW fB
   ·have gI:(fA t.ay (rowAt t (L[k]'aa).2) w).1.n≠1:=(by rw[kx];simpa using dW)
    have oB:ax t w=lK t w acc (L.drop (k+1)):=(by rw[aV,jM,lK,if_pos E,if_neg hne,if_pos gI])
    refine bM [1,2,11,35,36,37] ?_;refine⟨((k+1),acc,dj,cU,Sx),_,cn,aI,w4,w4,oB,(bn.cast dP jZ),rfl⟩
   have gI:¬(fA t.ay (rowAt t (L[k]'aa).2) w).1.n≠1:=(by rw[kx];simpa using dW)
   have oB:ax t w=lK t w (acc++[(L[k]'aa).2]) (L.drop (k+1)):=(by rw[aV,jM,lK,if_pos E,if_neg hne,if_neg gI])
   refine dw 3 ?_;refine ey (cu 0 [_]) [.int .i64 0] [_] zeroValue3 runUnderlying61 sizeOf3 (fun pL=>?_);refine fD 0 66 1 1 ?_;refine OD.eG (ls:=(acc)) (new:=[(L[k]'aa).2]) (Sq:=Sx) Tw.eC Tw.mA aq rfl rfl underlying61 Rp rfl w8 ot dP (cZ (A:=[_,_,_])) ot bq me mg (fun qQ rJ GG GH=>?_);refine OD.perm (dU (S1:=[⟨qQ,3,rJ*1,flatMap Tw.cI ((acc)++[(L[k]'aa).2])⟩]) (A:=[_,_,_])) ?_;exact Yq
  have E:¬0<w.length:=(by omega)
  have oB:ax t w=lK t w (acc++[(L[k]'aa).2]) (L.drop (k+1)):=(by rw[aV,jM,lK,if_neg E])
  refine dw 3 ?_;refine ey (cu 0 [_]) [.int .i64 0] [_] zeroValue3 runUnderlying61 sizeOf3 (fun pL=>?_);refine fD 0 66 1 1 ?_;refine OD.eG (ls:=(acc)) (new:=[(L[k]'aa).2]) (Sq:=Sx) Tw.eC Tw.mA aq rfl rfl underlying61 Rp rfl w8 ot dP (cZ (A:=[_,_])) ot bq me mg (fun qQ rJ GG GH=>?_);refine OD.perm (dU (S1:=[⟨qQ,3,rJ*1,flatMap Tw.cI ((acc)++[(L[k]'aa).2])⟩]) (A:=[_,_])) ?_;exact Yq
 have j6:ax t w=(acc,0):=(by rw[aV,drop_of_length_le w4];rfl)
 refine af [4,5] ?_;refine aK Sx ?_;rw[j6];exact⟨dj,cU,rfl,dP⟩

end Go.Proofs.YtbplamgacibdaaaGreatDoor.Ba
namespace Go.Proofs.YtbplamgacibdaaaGreatDoor.So
open List
open Go.Proofs.Tryz
variable {α:Type} {R:α->α->Prop} {l L M X Y:List α} {x y:α} {k:Nat}
theorem IQ(ht:∀{x y z:α},R x y->R y z->R x z)(hs:L.Pairwise R)(hk:k<=L.length)(h:k=0\/∃h:k-1<L.length,R (L[k-1]) x):∀z∈L.take k,R z x:=by
 intro z hz;obtain⟨i,hi,rfl⟩:=mem_iff_getElem.1 hz;rw[length_take] at hi;rw[getElem_take];rcases h with rfl|⟨h1,h2⟩
 ·omega
 rcases Nat.lt_or_ge i (k-1) with h3|h3
 ·exact ht (pairwise_iff_getElem.1 hs i (k-1) w4 h1 h3) h2
 have:i=k-1:=(by omega)
 subst this;exact h2
theorem IF(ht:∀{x y z:α},R x y->R y z->R x z)(hs:L.Pairwise R)(h:k=L.length\/∃h:k<L.length,R x (L[k])):∀z∈L.drop k,R x z:=by
 intro z hz;obtain⟨i,hi,rfl⟩:=mem_iff_getElem.1 hz;rw[length_drop] at hi;rw[getElem_drop];rcases h with rfl|⟨h1,h2⟩
 ·omega
 rcases Nat.eq_zero_or_pos i with rfl|h3
 ·simpa using h2
 exact ht h2 (pairwise_iff_getElem.1 hs k (k+i) h1 w4 w4)
theorem aey(hs:(X++Y).Pairwise R)(h1:∀z∈X,R z x)(h2:∀z∈Y,R x z):(X++x::Y).Pairwise R:=by
 rw[pairwise_append] at hs |-;obtain⟨p1,p2,p3⟩:=hs;refine⟨p1,pairwise_cons.2 ⟨h2,p2⟩,fun a ha b hb=>?_⟩;rcases mem_cons.1 hb with rfl|hb
 ·exact h1 a ha
 exact p3 a ha b hb
theorem UL(ht:∀{x y z:α},R x y->R y z->R x z)(hs:L.Pairwise R)(hk:k<=L.length)(h1:k=0\/∃h:k-1<L.length,R (L[k-1]) x)(h2:k=L.length\/∃h:k<L.length,R x (L[k])):(L.take k++x::L.drop k).Pairwise R :=
 aey (by rw[take_append_drop];exact hs) (IQ ht hs hk h1) (IF ht hs h2)
theorem acQ (ht:∀{x y z:α},R x y->R y z->R x z) {A B:List α} {i j:Nat} (ha:A.Pairwise R) (hb:B.Pairwise R) (hi:i<=A.length) (hj:j<=B.length)
  (h1:i=0\/j=B.length\/∃(p:i-1<A.length) (q:j<B.length),R A[i-1] B[j]) (h2:j=0\/i=A.length\/∃(p:j-1<B.length) (q:i<A.length),R B[j-1] A[i]) :
  ∀a∈A.take i++B.take j,∀b∈A.drop i++B.drop j,R a b:=by
 have E:∀a∈A.take i,∀b∈A.drop i,R a b:=(by rw[<-take_append_drop i A] at ha;exact(pairwise_append.1 ha).2.2)
 have I:∀a∈B.take j,∀b∈B.drop j,R a b:=(by rw[<-take_append_drop j B] at hb;exact(pairwise_append.1 hb).2.2)
 intro a hm b hn;rcases mem_append.1 hm with hm|hm<;>rcases mem_append.1 hn with hn|hn
 ·exact E a hm b hn
 ·rcases h1 with rfl|rfl|⟨p,q,hr⟩
  ·simp at hm
  ·simp at hn
  exact IQ (R:=R) ht ha hi (.inr ⟨p,by
   rcases IF (R:=R) ht hb (k:=j) (x:=A[i-1]) (.inr ⟨q,hr⟩) b hn with h
   exact h⟩) a hm
 ·rcases h2 with rfl|rfl|⟨p,q,hr⟩
  ·simp at hm
  ·simp at hn
  exact IQ (R:=R) ht hb hj (.inr ⟨p,IF (R:=R) ht ha (k:=i) (x:=B[j-1]) (.inr ⟨q,hr⟩) b hn⟩) a hm
 exact I a hm b hn
theorem Jk{l1 l2:List α}:((l1++x::y::l2).set l1.length y).set (l1.length+1) x=l1++y::x::l2:=by
 rw[set_append_right _ _ (Nat.le_refl _),Nat.sub_self,set_cons_zero,set_append_right _ _ w4,show l1.length+1-l1.length=1 by omega,set_cons_succ,set_cons_zero]
def sw(l:List Int)(i j:Nat):List Int:=(l.set i (l.getD j 0)).set j (l.getD i 0)
theorem ahu{l:List Int}{i j:Nat}:(sw l i j).length=l.length:=by unfold sw;simp
theorem mV{l:List Int}{i:Nat}(h:i<l.length):l.getD i 0=l[i]:=by simp[h]
def kz(l:List Int)(a b:Nat):Nat->List Int
 | 0=>l
 | k+1=>sw (kz l a b k) (a+k) (b+k)
theorem BX{l:List Int}{a b:Nat}:∀{k:Nat},(kz l a b k).length=l.length
 | 0=>rfl
 | k+1=>by rw[kz,ahu,BX]
theorem UM{l:List Int}{a b:Nat}:∀{k:Nat},a+k<=b->b+k<=l.length->∀j,(kz l a b k)[j]?=if a<=j/\j<a+k then l[b+(j-a)]? else if b<=j/\j<b+k then l[a+(j-b)]? else l[j]?
 | 0,_,_,j=>by rw[if_neg w4,if_neg w4];try rfl
 | k+1,h1,h2,j=>by
  have ih:=UM (l:=l) (a:=a) (b:=b) (k:=k) w4 w4;have e1:(kz l a b k).getD (b+k) 0=l.getD (b+k) 0:=(by rw[getD_eq_getElem?_getD,ih,if_neg w4,if_neg w4,getD_eq_getElem?_getD])
  have e2:(kz l a b k).getD (a+k) 0=l.getD (a+k) 0:=(by rw[getD_eq_getElem?_getD,ih,if_neg w4,if_neg w4,getD_eq_getElem?_getD])
  rw[kz,sw,e1,e2,getElem?_set,getElem?_set,length_set,BX,ih];by_cases q1:b+k=j
  ·subst q1;rw[if_pos rfl,if_pos w4,if_neg w4,if_pos w4,mV w4,show a+(b+k-b)=a+k by omega,getElem?_eq_getElem w4]
  rw[if_neg q1];by_cases q2:a+k=j
  ·subst q2;rw[if_pos rfl,if_pos w4,if_pos w4,mV w4,show b+(a+k-a)=b+k by omega,getElem?_eq_getElem w4]
  rw[if_neg q2];simp only[show(a<=j/\j<a+(k+1))↔(a<=j/\j<a+k) by omega,show(b<=j/\j<b+(k+1))↔(b<=j/\j<b+k) by omega]
theorem KK{P U M W Q:List Int}(h:U.length=W.length):kz (P++(U++(M++(W++Q)))) P.length (P.length+U.length+M.length) U.length=P++(W++(M++(U++Q))):=by
 refine ext_getElem? fun j=>?_;rw[UM w4 (by simp only[length_append];omega)];simp only[getElem?_append];repeat' split
 all_goals first|omega|(congr 1<;>omega)
def rY(T cur:List Int)(m i j:Nat):Prop:=∃P X Y Q,cur=P++(X++(Y++Q))/\X.length=i/\Y.length=j/\P.length+i=m/\T=P++(Y++(X++Q))
variable {T cur:List Int} {m i j:Nat}
theorem rY.len(h:rY T cur m i j):i<=m/\m+j<=cur.length/\T.length=cur.length:=by
 obtain⟨P,X,Y,Q,rfl,rfl,rfl,hm,rfl⟩:=h;simp only[length_append];omega
theorem ahv(h:rY T cur m i j)(E:j<i):rY T (kz cur (m-i) m j) m (i-j) j:=by
 obtain⟨P,X,Y,Q,rfl,rfl,rfl,hm,rfl⟩:=h;have l1:(X.take Y.length).length=Y.length:=(by rw[length_take];omega)
 have l2:(X.drop Y.length).length=X.length-Y.length:=length_drop;have e:=KK (P:=P) (U:=X.take Y.length) (M:=X.drop Y.length) (W:=Y) (Q:=Q) l1;rw[l1,l2,<-append_assoc (X.take _) (X.drop _),take_append_drop,show P.length+Y.length+(X.length-Y.length)=m by omega,show P.length=m-X.length by omega] at e;exact⟨P++Y,X.drop Y.length,X.take Y.length,Q,by rw[e];simp,l2,l1,by rw[length_append];omega,by rw[<-append_assoc (X.take _) (X.drop _),take_append_drop];simp⟩
theorem ahw(h:rY T cur m i j)(E:i<j):rY T (kz cur (m-i) (m+j-i) i) m i (j-i):=by
 obtain⟨P,X,Y,Q,rfl,rfl,rfl,hm,rfl⟩:=h;have l1:(Y.take (Y.length-X.length)).length=Y.length-X.length:=(by rw[length_take];omega)
 have l2:(Y.drop (Y.length-X.length)).length=X.length:=(by rw[length_drop];omega)
 have e:=KK (P:=P) (U:=X) (M:=Y.take (Y.length-X.length)) (W:=Y.drop (Y.length-X.length)) (Q:=Q) l2.symm;rw[l1,<-append_assoc (Y.take _) (Y.drop _),take_append_drop,show P.length+X.length+(Y.length-X.length)=m+Y.length-X.length by omega,show P.length=m-X.length by omega] at e;exact⟨P,Y.drop (Y.length-X.length),Y.take (Y.length-X.length),X++Q,e,l2,l1,hm,by rw[<-append_assoc (Y.take _) (Y.drop _),take_append_drop]⟩
theorem ahx(h:rY T cur m i i):kz cur (m-i) m i=T:=by
 obtain⟨P,X,Y,Q,rfl,rfl,hl,hm,rfl⟩:=h;have e:=KK (P:=P) (U:=X) (M:=[]) (W:=Y) (Q:=Q) hl.symm;rw[length_nil,Nat.add_zero,show P.length+X.length=m by omega,show P.length=m-X.length by omega] at e;simpa using e

end Go.Proofs.YtbplamgacibdaaaGreatDoor.So
namespace Go.Proofs.YtbplamgacibdaaaGreatDoor.So
open List
open Go.Proofs.Tryz
open Go.RowKit V Tw
variable {G:List (Nat×List Value)}
theorem KL(l:List Int)(E la lb k cap I:Nat)(eI:D)(Sc:List ah)(gC:l.length=E)(h1:la+k<=lb)(h2:lb+k<=E)(h3:E<=cap)(h4:cap<=maxLen):VC Tryz.prog G 178 [aT (some ⟨I,0,none⟩) E cap,ae (la:Nat),ae (lb:Nat),ae (k:Nat),eI] (⟨I,3,cap*1,(l).flatMap cI⟩::Sc) (fun r S'=>r = .da []/\S'=⟨I,3,cap*1,(kz l la lb k).flatMap cI⟩::Sc):=by
 refine VC.body func178 rfl ntmps178 aU fun X0 w0 bj=>?_;have cR:=dI;refine af [0,1,2,3,10] ?_;refine ew [0,1,2,3] (fun aS _ (i:Nat) aE=>(i<=k)/\aE=(⟨38,(10,ae (i:Nat))::aS,(⟨I,3,cap*1,(kz l la lb i).flatMap cI⟩::Sc)⟩:St)) (fun (i:Nat)=>k-i) 0 ⟨(Nat.zero_le _),rfl⟩ ?_;rintro i _ ⟨hi,rfl⟩;refine af [0,1,2,3,10,13] ?_;refine au ?_ ?_<;>intro aJ bz
 ·have O:i<k:=(by omega)
  have hlen:(kz l la lb i).length=E:=(by rw[BX,gC])
  have ha:la+i<(kz l la lb i).length:=(by omega)
  have hb:lb+i<(kz l la lb i).length:=(by omega)
  refine CD.skip ?_;refine CD.seq ?_;refine CD.block ?_;refine gP 22 (av (eraseIdx _ 0)) ?_ (fun _ h=>(Sublist.map _ (eraseIdx_sublist _ 0)).subset h);refine aD 0 rfl bD ?_;refine aD 1 rfl bD ?_;refine aD 2 rfl bD ?_;refine aD 3 rfl qn ?_;refine aD 4 rfl bD ?_;refine aD 5 rfl bD ?_;refine aD 6 rfl bD ?_;refine aD 7 rfl qn ?_;refine aD 8 rfl bD ?_;refine aD 9 rfl bD ?_;refine aD 10 rfl bD ?_;refine aD 11 rfl qn ?_;refine aD 12 rfl (dL 1) ?_;refine aD 14 rfl bD ?_;refine aD 15 rfl bD ?_;refine aD 16 rfl bD ?_;refine aD 17 rfl qn ?_;refine aD 18 rfl (dL 1) ?_;refine dM.later rfl ?_;refine AD.two (i:=13) (j:=19) aC ?_ ?_
  ·refine at_ rfl fN ?_;refine AD.one (i:=19) aC ?_;exact Ye
  refine at_ rfl fN ?_;refine AD.one (i:=13) aC ?_;exact Ye
 obtain rfl:i=k:=(by omega)
 refine aK _ ?_;exact⟨by first|rfl|(simp[*];done),rfl⟩

theorem ahy(l Z:List Int)(O a m b cap U:Nat)(eI:D)(Sc:List ah)(h:rY Z l m (m-a) (b-m))(h1:a<m)(h2:m<b)(gC:l.length=O)(E:O<=cap)(I:cap<=maxLen):VC Tryz.prog G 165 [aT (some ⟨U,0,none⟩) O cap,ae (a:Nat),ae (m:Nat),ae (b:Nat),eI] (⟨U,3,cap*1,(l).flatMap cI⟩::Sc) (fun r S'=>r = .da []/\S'=⟨U,3,cap*1,(Z).flatMap cI⟩::Sc):=by
 refine VC.body func165 rfl ntmps165 aU fun X0 w0 bj=>?_;have cR:=dI;have hlen:=h.len;refine cz [0,2,3,4,10] ?_;refine aR 2 ?_ (h:=by exact(dR rfl ot ot (iI (r:=((m-a:Nat):Int)) qO)));refine bA ?_;refine cz [0,2,4,10,11] ?_;refine aR 2 ?_ (h:=by exact(dR rfl ot ot (iI (r:=((b-m:Nat):Int)) qO)));refine bA ?_;refine ew [0,2,4] (fun aS _ (aO:Nat×Nat×List Int) aE=>match aO with|(i,j,cur)=>(rY Z cur m i j)/\(0<i)/\(0<j)/\((cur).length=O)/\aE=(⟨58,(10,ae (i:Nat))::(11,ae (j:Nat))::aS,(⟨U,3,cap*1,(cur).flatMap cI⟩::Sc)⟩:St)) (fun (aO:Nat×Nat×List Int)=>match aO with|(i,j,cur)=>i+j) ((m-a),(b-m),l) ⟨h,w4,w4,gC,rfl⟩ ?_;rintro⟨i,j,cur⟩ _ ⟨hr,hi,hj,fj,rfl⟩;refine af [0,2,4,10,11,20] ?_;refine au ?_ ?_<;>intro aJ bz
 ·have gN:=hr.len;have hne:i≠j:=(by omega)
  refine af [0,2,4,10,11,23] ?_;refine au ?_ ?_<;>intro aX cr
  ·have td:j<i:=(by omega)
   refine aB 3 ?_;refine bN (dR rfl ot ot (iI (r:=((m-i:Nat):Int)) qO)) ?_;refine aH 3 ?_;refine OD.call (R:=Sc) aq rfl rfl rfl call178 (KL cur O (m-i) m j cap U eI [] fj w4 w4 E I) ⟨ot,ot,ot,ot,ot,trivial⟩ (Perm.refl _) ?_;rintro _ _ ⟨rfl,rfl⟩;refine an 58 [0,2,4,10,11] ?_;refine gl [0,2,4,10,11] ?_;refine aR 2 ?_ (h:=by exact(dR rfl ot ot (iI (r:=((i-j:Nat):Int)) qO)));refine bA ?_;refine⟨((i-j),j,(kz cur (m-i) m j)),_,cn,aI,(ahv hr td),w4,hj,(by rw[BX];exact fj),rfl⟩
  have aa:i<j:=(by omega)
  refine aB 3 ?_;refine bN (dR rfl ot ot (iI (r:=((m-i:Nat):Int)) qO)) ?_;refine aH 4 ?_;refine bN (dR rfl ot ot (iI (r:=((m+j-i:Nat):Int)) (by rw[show((m:Int)+j-i)=((m+j-i:Nat):Int) by omega];exact wrap_i64 w4 w4))) ?_;refine aH 2 ?_;refine OD.call (R:=Sc) aq rfl rfl rfl call178 (KL cur O (m-i) (m+j-i) i cap U eI [] fj w4 w4 E I) ⟨ot,ot,ot,ot,ot,trivial⟩ (Perm.refl _) ?_;rintro _ _ ⟨rfl,rfl⟩;refine an 58 [0,2,4,10,11] ?_;refine gl [0,2,4,10,11] ?_;refine aR 2 ?_ (h:=by exact(dR rfl ot ot (iI (r:=((j-i:Nat):Int)) qO)));refine bA ?_;refine⟨(i,(j-i),(kz cur (m-i) (m+j-i) i)),_,cn,aI,(ahw hr aa),hi,w4,(by rw[BX];exact fj),rfl⟩
 have gN:=hr.len;obtain rfl:i=j:=(by omega)
 have he:=ahx hr;refine dw 3 ?_;refine bN (dR rfl ot ot (iI (r:=((m-i:Nat):Int)) qO)) ?_;refine aH 3 ?_;refine OD.call (R:=Sc) aq rfl rfl rfl call178 (KL cur O (m-i) m i cap U eI [] fj w4 w4 E I) ⟨ot,ot,ot,ot,ot,trivial⟩ (Perm.refl _) ?_;rintro _ _ ⟨rfl,rfl⟩;refine an 58 [] ?_;refine aK _ ?_;exact⟨rfl,by rw[he];rfl⟩

end Go.Proofs.YtbplamgacibdaaaGreatDoor.So
namespace Go.Proofs.YtbplamgacibdaaaGreatDoor.So
open List
open Go.Proofs.Tryz
variable {x y:Int} {Z S:List Int} {cF:Int->Int->Int}
def pc(R:Int->Int->Prop)(l0 l:List Int)(a i:Nat):Prop :=
 ∃(P A B A0:List Int),l=P++(A++B)/\P.length=a/\a+A.length=i/\A.Pairwise R/\A.Perm A0/\l0=P++(A0++B)
def s5(R:Int->Int->Prop)(l0 l:List Int)(a i j:Nat):Prop :=
 ∃(P A:List Int) (x:Int) (B A0:List Int) (k:Nat),l=P++(A.take k++x::(A.drop k++B))/\P.length=a/\k<=A.length/\a+k=j/\a+A.length=i/\A.Pairwise R/\(k=A.length\/∃h:k<A.length,R x A[k])/\A.Perm A0/\l0=P++(A0++x::B)
variable {R Lt:Int->Int->Prop} {l0 l:List Int} {a i j:Nat}
theorem s5.len(h:s5 R l0 l a i j):a<=j/\j<=i/\i<l.length/\l.length=l0.length:=by
 obtain⟨P,A,x,B,E,k,rfl,rfl,hk,rfl,rfl,hs,hx,hp,rfl⟩:=h;have:=hp.length_eq;simp only[length_append,length_cons,length_take,length_drop];omega
theorem JN(h:a<=l.length):pc R l l a a :=
 ⟨l.take a,[],l.drop a,[],by simp,by rw[length_take];omega,by simp,Pairwise.nil,.refl _,by simp⟩
theorem af1(h:a<l.length):pc R l l a (a+1) :=
 ⟨l.take a,[l[a]],l.drop (a+1),[l[a]],by simp,by rw[length_take];omega,by simp,pairwise_singleton _ _,.refl _,by simp⟩
theorem acR(h:pc R l0 l a i)(hi:i<l.length):s5 R l0 l a i i:=by
 obtain⟨P,A,B,E,rfl,rfl,rfl,hs,hp,rfl⟩:=h;cases B with
 | nil=>simp at hi
 | cons x B=>exact⟨P,A,x,B,E,A.length,by simp,rfl,Nat.le_refl _,rfl,rfl,hs,.inl rfl,hp,rfl⟩
theorem FO{P A B:List Int}{k:Nat}(hk:k<A.length):P++(A.take (k+1)++x::(A.drop (k+1)++B))=(P++A.take k)++A[k]::x::(A.drop (k+1)++B):=by
 rw[take_succ_eq_append_getElem hk];simp only[append_assoc,singleton_append]
theorem Eo(n:Nat)(hn:n=Z.length)(h:n<(Z++y::S).length):(Z++y::S)[n]'h=y:=by subst hn;simp
theorem Ep(n:Nat)(hn:n=Z.length+1)(h:n<(Z++y::x::S).length):(Z++y::x::S)[n]'h=x:=by subst hn;simp[getElem_append_right]
theorem abA(h:s5 R l0 l a i j)(hj:a<j)(h1:j<l.length)(h0:j-1<l.length)(hr:R l[j] l[j-1]):s5 R l0 ((l.set j l[j-1]).set (j-1) l[j]) a i (j-1):=by
 obtain⟨P,A,x,B,E,k,rfl,rfl,hk,rfl,rfl,hs,hx,hp,rfl⟩:=h;obtain⟨k,rfl⟩:∃m,k=m+1:=⟨k-1,by omega⟩
 have e:=FO (P:=P) (B:=B) (x:=x) hk;have hl:(P++A.take k).length=P.length+k:=(by rw[length_append,length_take];omega)
 simp only[e] at hr |-;rw[Eo (P.length+(k+1)-1) w4,Ep (P.length+(k+1)) w4] at hr |-;refine⟨P,A,x,B,E,k,?_,rfl,by omega,by omega,rfl,hs,.inr ⟨hk,hr⟩,hp,rfl⟩;rw[set_comm _ _ w4,show P.length+(k+1)-1=(P++A.take k).length by omega,show P.length+(k+1)=(P++A.take k).length+1 by omega,Jk];rw[show A.drop k=A[k]::A.drop (k+1) from drop_eq_getElem_cons hk];simp only[append_assoc,cons_append]
theorem ade(ht:∀{x y z:Int},R x y->R y z->R x z)(h:s5 R l0 l a i j)(h1:j<l.length)(h0:j-1<l.length)(hr:j=a\/R l[j-1] l[j]):pc R l0 l a (i+1):=by
 obtain⟨P,A,x,B,E,k,rfl,rfl,hk,rfl,rfl,hs,hx,hp,rfl⟩:=h;refine⟨P,A.take k++x::A.drop k,B,E++[x],by simp,rfl,by simp;omega,UL ht hs hk ?_ hx,?_,by simp⟩
 ·rcases Nat.eq_zero_or_pos k with rfl|hp
  ·exact .inl rfl
  right;obtain⟨k,rfl⟩:∃m,k=m+1:=⟨k-1,by omega⟩
  refine⟨by omega,?_⟩;rcases hr with hr|hr
  ·omega
  have e:=FO (P:=P) (B:=B) (x:=x) hk;have hl:(P++A.take k).length=P.length+k:=(by rw[length_append,length_take];omega)
  simp only[e] at hr;rw[Eo (P.length+(k+1)-1) w4,Ep (P.length+(k+1)) w4] at hr;exact hr
 refine List.perm_middle.trans ?_;rw[take_append_drop];exact(Perm.cons x hp).trans (perm_append_singleton x E).symm
theorem aeX(h:s5 R l0 l a i j)(hj:a<j)(h1:j<l.length)(h0:j-1<l.length)(hq:(l0.drop a).Pairwise Lt):Lt l[j-1] l[j]:=by
 obtain⟨P,A,x,B,E,k,rfl,rfl,hk,rfl,rfl,hs,hx,hp,rfl⟩:=h;obtain⟨k,rfl⟩:∃m,k=m+1:=⟨k-1,by omega⟩
 have e:=FO (P:=P) (B:=B) (x:=x) hk;have hl:(P++A.take k).length=P.length+k:=(by rw[length_append,length_take];omega)
 simp only[e];rw[Eo (P.length+(k+1)-1) w4,Ep (P.length+(k+1)) w4];rw[drop_left' rfl,pairwise_append] at hq;exact hq.2.2 _ (hp.subset (getElem_mem hk)) x (mem_cons_self)
theorem s5.perm(h:s5 R l0 l a i j):l.Perm l0:=by
 obtain⟨P,A,x,B,E,k,rfl,rfl,hk,rfl,rfl,hs,hx,hp,rfl⟩:=h;refine(perm_append_left_iff P).2 (List.perm_middle.trans ?_);rw[<-append_assoc,take_append_drop];exact(Perm.cons x ((perm_append_right_iff B).2 hp)).trans List.perm_middle.symm
def Rc(cF:Int->Int->Int)(Lt:Int->Int->Prop)(x y:Int):Prop:=cF x y<0\/cF x y=0/\Lt x y
theorem Fz(h:cF y x<0):Rc cF Lt y x:=.inl h
theorem FX(ha:∀x y,0<=cF y x->cF x y<=0)(E:Lt x y)(h:¬cF y x<0):Rc cF Lt x y:=by
 have:=ha x y w4;unfold Rc;rcases Int.lt_or_eq_of_le this with q|q
 ·exact .inl q
 exact .inr ⟨q,E⟩
def Part(R:Int->Int->Prop)(l0 l:List Int)(a b:Nat):Prop:=∃(P M M0 Q:List Int),l=P++(M++Q)/\l0=P++(M0++Q)/\P.length=a/\a+M.length=b/\M.Perm M0/\M.Pairwise R
theorem pc.part{b:Nat}(h:pc R l0 l a b):Part R l0 l a b:=by
 obtain⟨P,A,B,E,h1,h2,h3,hs,hp,h4⟩:=h;exact⟨P,A,E,B,h1,h4,h2,h3,hp,hs⟩

end Go.Proofs.YtbplamgacibdaaaGreatDoor.So
namespace Go.Proofs.YtbplamgacibdaaaGreatDoor.So
open List
open Go.Proofs.Tryz
open Go.RowKit V Tw
variable {G:List (Nat×List Value)}
theorem VD(l:List Int)(O a b cap Z fc:Nat)(I:List D)(U:List ah)(cF:Int->Int->Int)(V:Int->Prop)(Lt:Int->Int->Prop)(hV:∀x∈l,V x)(hc:∀x y,V x->V y->VC Tryz.prog G fc ([ae x,ae y]++I) U (fun r S'=>r=ae (cF x y)/\S'=U))(vO:∀args w,(callFunc fc args).run Tryz.prog w = .ok (.enter fc args) w)(ht:∀{x y z:Int},Rc cF Lt x y->Rc cF Lt y z->Rc cF Lt x z)(ha:∀x y,0<=cF y x->cF x y<=0)(hq:(l.drop a).Pairwise Lt)(h1:a<=b)(h2:b<=O)(gC:l.length=O)(qb:O<=cap)(rN:cap<=maxLen)(aq2:O<maxLen):VC Tryz.prog G 144 [aT (some ⟨Z,0,none⟩) O cap,ae (a:Nat),ae (b:Nat),.eI (.func fc) I] (⟨Z,3,cap*1,(l).flatMap cI⟩::U) (fun r S'=>r = .da []/\∃lz,Part (Rc cF Lt) l lz a b/\S'=⟨Z,3,cap*1,(lz).flatMap cI⟩::U):=by
 refine VC.body func144 rfl ntmps144 aU fun X0 w0 bj=>?_;have cR:=dI;refine af [0,1,2,3,8] ?_;refine ew [0,1,2,3] (fun aS _ (aO:Nat×List Int) aE=>match aO with|(i,cur)=>((i<=b->pc (Rc cF Lt) l cur a i))/\(a<i)/\((a<b->i<=b))/\((a=b->cur=l))/\((cur).length=O)/\aE=(⟨53,(8,ae (i:Nat))::aS,(⟨Z,3,cap*1,(cur).flatMap cI⟩::U)⟩:St)) (fun (aO:Nat×List Int)=>match aO with|(i,cur)=>b-i) ((a+1),l) ⟨(fun q=>af1 w4),(Nat.lt_succ_self _),(fun q=>q),(fun _=>rfl),gC,rfl⟩ ?_;rintro⟨i,cur⟩ _ ⟨hs,ZI,hib,qX,fj,rfl⟩;refine af [0,1,2,3,8,14] ?_;refine au ?_ ?_<;>intro aJ bz
 ·have aa:i<b:=(by omega)
  refine af [0,1,2,3,8,9] ?_;refine ew [0,1,2,3,8] (fun aS _ (aO:Nat×List Int) aE=>match aO with|(j,lO)=>(s5 (Rc cF Lt) l lO a i j)/\((lO).length=O)/\aE=(⟨53,(9,ae (j:Nat))::aS,(⟨Z,3,cap*1,(lO).flatMap cI⟩::U)⟩:St)) (fun (aO:Nat×List Int)=>match aO with|(j,lO)=>j) (i,cur) ⟨(acR (hs w4) w4),fj,rfl⟩ ?_;rintro⟨j,lO⟩ _ ⟨hj,Ad,rfl⟩;have mr:=hj.len;have pF:j<lO.length:=(by omega)
  have mj:j-1<lO.length:=(by omega)
  refine CD.seq ?_;refine CD.seq ?_;refine gP 14 (av (take 1 _)) ?_ (fun _ h=>(Sublist.map _ (take_sublist _ _)).subset h);refine aD 0 rfl bD ?_;refine aD 1 rfl bD ?_;refine aD 2 rfl qn ?_;refine aD 3 rfl bD ?_;refine dM.split (t:=21) lk (fun qL=>?_) (fun qL=>?_)
  ·have E:=qL;(try simp only[V.nR,ne_eq] at E)
   refine aD 4 rfl bD ?_;refine aD 5 rfl bD ?_;refine aD 6 rfl bD ?_;refine aD 7 rfl (dL 1 (h:=NI)) ?_;refine aD 8 rfl fN ?_;refine aD 9 rfl bD ?_;refine aD 10 rfl bD ?_;refine aD 11 rfl (dR rfl ot bV (iI (r:=((j-1:Nat):Int)) (by rw[show((j:Int)-1)=((j-1:Nat):Int) by have DZ:=of_decide_eq_true qL;omega];exact wrap_i64 (by have DZ:=of_decide_eq_true qL;omega) w4))) ?_;refine aD 12 rfl (dL 1 (h:=by first|exact .l (j:=j-1) rfl w4|exact .r (j:=j-1) rfl w4)) ?_;refine aD 13 rfl fN ?_;refine dM.later rfl ?_;refine fm ?_;have ZJ:∀x∈lO,V x:=fun x hx=>hV x (hj.perm.subset hx);refine OD.lY (f:=fc) (args:=[_,_]) (Sf:=U) iN rfl rfl ot vO (hc _ _ (ZJ _ (getElem_mem pF)) (ZJ _ (getElem_mem mj))) rfl ⟨ot,ot,trivial⟩ (perm_append_singleton _ _).symm ?_;rintro _ S2 ⟨rfl,iZ⟩;rw[iZ];clear iZ;refine OD.perm (perm_append_singleton _ _) ?_;refine an 53 [0,1,2,3,8,9,34] ?_;refine au ?_ ?_<;>intro aX cr
   ·have hja:a<j:=(by have q:=of_decide_eq_true qL;omega)
    have ahU:cF (lO[j]'pF) (lO[j-1]'mj)<0:=cr;refine CD.skip ?_;refine CD.seq ?_;refine CD.block ?_;refine gP 16 (av (eraseIdx _ 0)) ?_ (fun _ h=>(Sublist.map _ (eraseIdx_sublist _ 0)).subset h);refine aD 0 rfl bD ?_;refine aD 1 rfl bD ?_;refine aD 2 rfl bD ?_;refine aD 3 rfl bD ?_;refine aD 4 rfl (dR rfl ot bV (iI (r:=((j-1:Nat):Int)) ND)) ?_;refine aD 5 rfl bD ?_;refine aD 6 rfl bD ?_;refine aD 7 rfl (dR rfl ot bV (iI (r:=((j-1:Nat):Int)) ND)) ?_;refine aD 8 rfl (dL 1 (h:=by first|exact .l (j:=j-1) rfl w4|exact .r (j:=j-1) rfl w4)) ?_;refine aD 10 rfl bD ?_;refine aD 11 rfl bD ?_;refine aD 12 rfl (dL 1 (h:=NI)) ?_;refine dM.later rfl ?_;refine AD.two (i:=9) (j:=13) aC ?_ ?_
    ·refine at_ rfl fN ?_;refine AD.one (i:=13) aC ?_;exact X9
    refine at_ rfl fN ?_;refine AD.one (i:=9) aC ?_;exact X9
   exact Yo
  have E:=qL;(try simp only[V.nR,ne_eq] at E)
  refine mL 4 rfl ?_;refine mL 5 rfl ?_;refine mL 6 rfl ?_;refine mL 7 rfl ?_;refine mL 8 rfl ?_;refine mL 9 rfl ?_;refine mL 10 rfl ?_;refine mL 11 rfl ?_;refine mL 12 rfl ?_;refine mL 13 rfl ?_;refine dM.later rfl ?_;refine fm ?_;refine bu [0,1,2,3,8,9,34] ?_;refine gm ?_;exact Yo
 have j6:pc (Rc cF Lt) l cur a b:=(Nat.eq_or_lt_of_le h1).elim (fun q=>by subst q;rw[qX rfl];exact JN w4) (fun q=>(show i=b by omega) ▸ hs w4);refine aK _ ?_;exact⟨rfl,_,j6.part,rfl⟩

end Go.Proofs.YtbplamgacibdaaaGreatDoor.So
namespace Go.Proofs.YtbplamgacibdaaaGreatDoor.So
open List
open Go.Proofs.Tryz
variable {i:Nat}
def Mv(P B Q:List Int)(x:Int)(t:Nat):List Int:=P++(B.take t++x::(B.drop t++Q))
variable {P B Q:List Int} {x:Int} {t:Nat}
theorem F8(h:t<=B.length):(Mv P B Q x t).length=P.length+(B.length+1+Q.length):=by
 unfold Mv;simp only[length_append,length_cons,length_take,length_drop];omega
theorem FP(h:t<B.length):Mv P B Q x t=(P++B.take t)++x::B[t]::(B.drop (t+1)++Q):=by
 unfold Mv;rw[drop_eq_getElem_cons h];simp only[append_assoc,cons_append]
theorem FQ(h:t<B.length):Mv P B Q x (t+1)=(P++B.take t)++B[t]::x::(B.drop (t+1)++Q):=FO h
theorem zX(h:t<B.length):(P++B.take t).length=P.length+t:=by rw[length_append,length_take];omega
theorem ahz(h:t<B.length)(h0:P.length+t<(Mv P B Q x t).length):(Mv P B Q x t)[P.length+t]=x:=by
 simp only[FP h];rw[Eo _ (zX h).symm]
theorem af2(h:t<B.length)(h0:P.length+t+1<(Mv P B Q x t).length):(Mv P B Q x t)[P.length+t+1]=B[t]:=by
 simp only[FP h];rw[Ep _ (by rw[zX h])]
theorem aez(h:t<B.length):((Mv P B Q x t).set (P.length+t) B[t]).set (P.length+t+1) x=Mv P B Q x (t+1):=by
 rw[FP h,FQ h,<-zX (P:=P) h,Jk]
theorem af3(h:t<B.length):((Mv P B Q x (t+1)).set (P.length+t+1) B[t]).set (P.length+t) x=Mv P B Q x t:=by
 rw[FP h,FQ h,<-zX (P:=P) h,set_comm _ _ w4,Jk]

variable {R Lt:Int->Int->Prop} {l l1 l2 l3:List Int} {a s m e b mid:Nat}
theorem UN(ht:∀{x y z:Int},R x y->R y z->R x z){P B Q:List Int}{x:Int}{s t:Nat}(hB:B.Pairwise R)(hs:s<=B.length)(hk:t<=B.length)(h1:t=0\/∃h:t-1<B.length,R B[t-1] x)(h2:t=B.length\/∃h:t<B.length,R x B[t]) :
  Part R (Mv P B Q x s) (Mv P B Q x t) P.length (P.length+(B.length+1)):=by
 have hp:∀t,(B.take t++x::B.drop t).Perm (x::B):=fun t=>List.perm_middle.trans (by rw[take_append_drop]);refine⟨P,B.take t++x::B.drop t,B.take s++x::B.drop s,Q,by unfold Mv;simp,by unfold Mv;simp,rfl,?_,(hp t).trans (hp s).symm,UL ht hB hk h1 h2⟩;have:=(hp t).length_eq;simp only[length_cons] at this;rw[this]
def qx(R Lt:Int->Int->Prop)(l:List Int)(a m b:Nat):Prop:=∃(P A B Q:List Int),l=P++(A++(B++Q))/\P.length=a/\a+A.length=m/\m+B.length=b/\A.Pairwise R/\B.Pairwise R/\∀x∈A,∀y∈B,Lt x y
theorem qx.len(h:qx R Lt l a m b):a<=m/\m<=b/\b<=l.length:=by
 obtain⟨P,A,B,Q,rfl,rfl,rfl,rfl,_⟩:=h;simp only[length_append];omega
theorem qx.lt(h:qx R Lt l a m b){j:Nat}(h1:a<=i)(h2:i<m)(h3:m<=j)(h4:j<b)(hi:i<l.length)(hj:j<l.length):Lt l[i] l[j]:=by
 obtain⟨P,A,B,Q,rfl,rfl,rfl,rfl,_,_,h⟩:=h;refine h _ ?_ _ ?_
 ·rw[getElem_append_right h1,getElem_append_left w4];exact getElem_mem _
 rw[getElem_append_right w4,getElem_append_right w4,getElem_append_left w4];exact getElem_mem _
theorem Rq{P M Q:List Int}(h:M.Pairwise R):Part R (P++(M++Q)) (P++(M++Q)) P.length (P.length+M.length):=⟨P,M,M,Q,rfl,rfl,rfl,rfl,.refl _,h⟩
theorem Tg{P E Q:List Int}{x y:Nat}(h:Part R (P++(E++Q)) l x y)(hx:x=P.length)(hy:y=P.length+E.length):∃M,l=P++(M++Q)/\M.Perm E/\M.Pairwise R:=by
 obtain⟨P',M,U,Q',h1,h2,h3,h4,h5,h6⟩:=h;have hl:=h5.length_eq;obtain⟨e1,e2⟩:=append_inj h2 w4;obtain⟨I,O⟩:=append_inj e2 w4;subst e1 I O;exact⟨M,h1,h5,h6⟩
def uC(R Lt:Int->Int->Prop)(l l1:List Int)(a s m e b mid:Nat):Prop:=∃(P A1 A2 B1 B2 Q:List Int),l=P++(A1++(A2++(B1++(B2++Q))))/\l1=P++(A1++(B1++(A2++(B2++Q))))/\P.length=a/\a+A1.length=s/\s+A2.length=m/\m+B1.length=e/\e+B2.length=b/\s+B1.length=mid /\
 A1.Pairwise R/\A2.Pairwise R/\B1.Pairwise R/\B2.Pairwise R/\(∀x∈A1,∀y∈B1,Lt x y)/\(∀x∈A2,∀y∈B2,Lt x y)/\∀x∈A1++B1,∀y∈A2++B2,R x y
theorem af4 (ht:∀{x y z:Int},R x y->R y z->R x z) (h:qx R Lt l a m b) (h1:a<=s) (h2:s<=m) (h3:m<=e) (h4:e<=b) (hm:s+(e-m)=mid)
  (k1:s=a\/e=b\/∃(p:s-1<l.length) (q:e<l.length),R l[s-1] l[e]) (k2:e=m\/s=m\/∃(p:e-1<l.length) (q:s<l.length),R l[e-1] l[s]):∃l1,uC R Lt l l1 a s m e b mid/\rY l1 l m (m-s) (e-m):=by
 obtain⟨P,A,B,Q,rfl,rfl,rfl,rfl,hA,hB,aa⟩:=h;obtain⟨i,rfl⟩:∃i,s=P.length+i:=⟨s-P.length,by omega⟩
 obtain⟨j,rfl⟩:∃j,e=P.length+A.length+j:=⟨e-(P.length+A.length),by omega⟩
 have E:∀k (h:k<A.length) (q:P.length+k<(P++(A++(B++Q))).length),(P++(A++(B++Q)))[P.length+k]=A[k]:=fun k h q=>by
  rw[getElem_append_right w4,getElem_append_left w4];simp
 have I:∀k (h:k<B.length) (q:P.length+A.length+k<(P++(A++(B++Q))).length),(P++(A++(B++Q)))[P.length+A.length+k]=B[k]:=fun k h q=>by
  rw[getElem_append_right w4,getElem_append_right w4,getElem_append_left w4];congr 1;omega
 have hc:=acQ (R:=R) ht hA hB (i:=i) (j:=j) w4 w4 (by
  rcases Nat.eq_zero_or_pos i with q|q
  ·exact .inl q
  rcases k1 with k1|k1|⟨p1,p2,k1⟩
  ·omega
  ·exact .inr (.inl w4)
  ·rcases Nat.lt_or_ge j B.length with q2|q2
   ·refine .inr (.inr ⟨by omega,q2,?_⟩);have e1:=E (i-1) w4 w4;simp only[show P.length+i-1=P.length+(i-1) by omega] at k1;rw[e1,I j q2] at k1;exact k1
   exact .inr (.inl w4)) (by
  rcases Nat.eq_zero_or_pos j with q|q
  ·exact .inl q
  rcases k2 with k2|k2|⟨p1,p2,k2⟩
  ·omega
  ·exact .inr (.inl w4)
  rcases Nat.lt_or_ge i A.length with q2|q2
  ·refine .inr (.inr ⟨by omega,q2,?_⟩);have e1:=I (j-1) w4 w4;simp only[show P.length+A.length+j-1=P.length+A.length+(j-1) by omega] at k2;rw[e1,E i q2] at k2;exact k2
  exact .inr (.inl w4))
 have la1:(A.take i).length=i:=(by rw[length_take];omega)
 have lb1:(B.take j).length=j:=(by rw[length_take];omega)
 have la2:(A.drop i).length=A.length-i:=length_drop;have lb2:(B.drop j).length=B.length-j:=length_drop;have O:A.take i++A.drop i=A:=take_append_drop ..;have U:B.take j++B.drop j=B:=take_append_drop ..;have Z:(A.take i++A.drop i).Pairwise R:=(by rw[O];exact hA)
 have pb:(B.take j++B.drop j).Pairwise R:=(by rw[U];exact hB)
 have ea:A++(B++Q)=A.take i++(A.drop i++(B.take j++(B.drop j++Q))):=(by rw[<-append_assoc (A.take i),O,<-append_assoc (B.take j),U])
 refine⟨P++(A.take i++(B.take j++(A.drop i++(B.drop j++Q)))),⟨P,A.take i,A.drop i,B.take j,B.drop j,Q,by rw[ea],rfl,rfl,by omega,by omega,by omega,by omega,by omega,(pairwise_append.1 Z).1,(pairwise_append.1 Z).2.1,(pairwise_append.1 pb).1,(pairwise_append.1 pb).2.1,fun x hx y hy=>aa x (mem_of_mem_take hx) y (mem_of_mem_take hy),fun x hx y hy=>aa x (mem_of_mem_drop hx) y (mem_of_mem_drop hy),hc⟩,
  P++A.take i,A.drop i,B.take j,B.drop j++Q,by rw[ea];simp,by omega,by omega,by rw[length_append];omega,by simp⟩
theorem uC.perm(h:uC R Lt l l1 a s m e b mid):l1.Perm l:=by
 obtain⟨P,E,I,O,B2,Q,rfl,rfl,_⟩:=h;refine Perm.append_left P (Perm.append_left E ?_);rw[<-append_assoc O,<-append_assoc I];exact List.perm_append_comm.append_right _
theorem af5(h:uC R Lt l l1 a s m e b mid):qx R Lt l1 a s mid:=by
 obtain⟨P,E,I,O,B2,Q,rfl,rfl,e1,e2,Z,e4,e5,U,p1,p2,p3,p4,q1,q2,q3⟩:=h;exact⟨P,E,O,I++(B2++Q),rfl,e1,e2,U,p1,p3,q1⟩
theorem Th(h:uC R Lt l l1 a s m e b mid)(hn:¬(a<s/\s<mid)):Part R l1 l1 a mid:=by
 obtain⟨P,E,O,I,B2,Q,rfl,rfl,rfl,e2,U,Z,e5,e6,p1,p2,p3,p4,q1,q2,q3⟩:=h;have:(E++I).Pairwise R:=by
  rcases Nat.eq_zero_or_pos E.length with h|h
  ·rw[length_eq_zero_iff.1 h];exact p3
  rw[length_eq_zero_iff.1 (show I.length=0 by omega),append_nil];exact p1
 have:=Rq (P:=P) (Q:=O++(B2++Q)) this;rw[append_assoc,length_append] at this;rwa [show P.length+(E.length+I.length)=mid by omega] at this
theorem KM(h:uC R Lt l l1 a s m e b mid)(k:Part R l1 l2 a mid):∃(P I E O B2 Q M:List Int),l=P++(I++(E++(O++(B2++Q))))/\l2=P++(M++(E++(B2++Q)))/\P.length=a/\M.length+a=mid/\M.Perm (I++O)/\mid+E.length=e/\e+B2.length=b/\M.Pairwise R/\E.Pairwise R/\B2.Pairwise R/\(∀x∈E,∀y∈B2,Lt x y)/\∀x∈M,∀y∈E++B2,R x y:=by
 obtain⟨P,I,E,O,B2,Q,rfl,rfl,rfl,e2,e3,e4,e5,e6,p1,p2,p3,U,q1,q2,Z⟩:=h;rw[<-append_assoc I] at k;obtain⟨M,h1,h2,h3⟩:=Tg k rfl vY;have:=h2.length_eq;rw[length_append] at this;exact⟨P,I,E,O,B2,Q,M,rfl,h1,rfl,by omega,h2,by omega,by omega,h3,p2,U,q2,fun x hx=>Z x (h2.subset hx)⟩
theorem aeA(h:uC R Lt l l1 a s m e b mid)(k:Part R l1 l2 a mid):qx R Lt l2 mid e b:=by
 obtain⟨P,I,E,O,B2,Q,M,rfl,rfl,rfl,e1,e2,U,Z,p1,p2,p3,q1,q2⟩:=KM h k;exact⟨P++M,E,B2,Q,by simp,by rw[length_append];omega,by omega,by omega,p2,p3,q1⟩
theorem Qy(h:uC R Lt l l1 a s m e b mid)(k:Part R l1 l2 a mid)(hn:¬(mid<e/\e<b)):Part R l2 l2 mid b:=by
 obtain⟨P,I,E,O,B2,Q,M,rfl,rfl,rfl,e1,e2,U,Z,p1,p2,p3,q1,q2⟩:=KM h k;have:(E++B2).Pairwise R:=by
  rcases Nat.eq_zero_or_pos E.length with h|h
  ·rw[length_eq_zero_iff.1 h];exact p3
  rw[length_eq_zero_iff.1 (show B2.length=0 by omega),append_nil];exact p2
 have:=Rq (P:=P++M) (Q:=Q) this;rw[append_assoc,length_append,length_append,append_assoc] at this;rwa [show P.length+M.length+(E.length+B2.length)=b by omega,show P.length+M.length=mid by omega] at this
theorem FC(h:uC R Lt l l1 a s m e b mid)(k:Part R l1 l2 a mid)(j:Part R l2 l3 mid b):Part R l l3 a b:=by
 obtain⟨P,E,I,O,B2,Q,M,rfl,rfl,rfl,e1,e2,Z,e4,p1,p2,p3,q1,q2⟩:=KM h k;rw[<-append_assoc I,<-append_assoc P] at j;obtain⟨U,h1,h2,h3⟩:=Tg j vY (by rw[length_append,length_append];omega);have hl:=e2.length_eq;have gp:=h2.length_eq;rw[length_append] at hl gp;refine⟨P,M++U,E++(I++(O++B2)),Q,by rw[h1];simp,by simp,rfl,by rw[length_append];omega,?_,pairwise_append.2 ⟨p1,h3,fun x hx y hy=>q2 x hx y (h2.subset hy)⟩⟩;refine(e2.append h2).trans ?_;rw[append_assoc E];refine Perm.append_left E ?_;rw[<-append_assoc O,<-append_assoc I];exact List.perm_append_comm.append_right B2
theorem Part.perm(h:Part R l l1 a b):l1.Perm l:=by
 obtain⟨P,M,E,Q,rfl,rfl,_,_,hp,_⟩:=h;exact(hp.append_right Q).append_left P
theorem Part.len(h:Part R l l1 a b):l1.length=l.length:=h.perm.length_eq
theorem adf{T cur:List Int}{j:Nat}(h:rY T cur m i j)(hz:i=0\/j=0):T=cur:=by
 obtain⟨P,X,Y,Q,rfl,rfl,rfl,hm,rfl⟩:=h;rcases hz with h|h
 ·rw[length_eq_zero_iff.1 h];rfl
 rw[length_eq_zero_iff.1 h];rfl
theorem aeB(ht:∀{x y z:Int},R x y->R y z->R x z)(h:qx R Lt l a m b)(hm:m=a+1)(h1:m<=i)(h2:i<=b)(k1:i=m\/∃(p:i-1<l.length) (q:a<l.length),R l[i-1] l[a])(k2:i=b\/∃(p:a<l.length) (q:i<l.length),R l[a] l[i]) :
  ∃(P B Q:List Int) (x:Int),P.length=a/\l=Mv P B Q x 0/\i-m<=B.length/\m+B.length=b/\Part R l (Mv P B Q x (i-m)) a b:=by
 obtain⟨P,A,B,Q,rfl,rfl,rfl,rfl,hA,hB,aa⟩:=h;obtain⟨x,rfl⟩:=length_eq_one_iff.1 (show A.length=1 by omega);have E:∀(q:P.length<(P++([x]++(B++Q))).length),(P++([x]++(B++Q)))[P.length]=x:=fun q=>by rw[getElem_append_right w4];simp
 have I:∀k (h:k<B.length) (q:P.length+1+k<(P++([x]++(B++Q))).length),(P++([x]++(B++Q)))[P.length+1+k]=B[k]:=fun k h q=>by
  rw[getElem_append_right w4,getElem_append_right iF,getElem_append_left iF];simp only[length_singleton];congr 1;omega
 have lN:([x]:List Int).length=1:=rfl;rw[lN] at *;obtain⟨t,rfl⟩:∃t,i=P.length+1+t:=⟨i-(P.length+1),by omega⟩
 rw[show P.length+1+t-(P.length+1)=t by omega];have hp:=UN (R:=R) (P:=P) (B:=B) (Q:=Q) (x:=x) (s:=0) (t:=t) ht hB (Nat.zero_le _) w4 (by
  rcases Nat.eq_zero_or_pos t with q|q
  ·exact .inl q
  rcases k1 with k1|⟨p1,p2,k1⟩
  ·omega
  ·refine .inr ⟨by omega,?_⟩;have e1:=I (t-1) w4 w4;simp only[show P.length+1+t-1=P.length+1+(t-1) by omega] at k1;rw[E,e1] at k1;exact k1) (by
  rcases k2 with k2|⟨p1,p2,k2⟩
  ·exact .inl w4
  rcases Nat.lt_or_ge t B.length with q|q
  ·exact .inr ⟨q,by rw[E,I t q] at k2;exact k2⟩
  exact .inl w4)
 refine⟨P,B,Q,x,rfl,rfl,by omega,rfl,?_⟩;rw[show P.length+(B.length+1)=P.length+1+B.length by omega] at hp;exact hp
theorem acS(ht:∀{x y z:Int},R x y->R y z->R x z)(h:qx R Lt l a m b)(hm:b=m+1)(h1:a<=i)(h2:i<=m)(k1:i=a\/∃(p:i-1<l.length) (q:m<l.length),R l[i-1] l[m])(k2:i=m\/∃(p:m<l.length) (q:i<l.length),R l[m] l[i]) :
  ∃(P B Q:List Int) (x:Int),P.length=a/\l=Mv P B Q x (m-a)/\i-a<=B.length/\a+B.length=m/\Part R l (Mv P B Q x (i-a)) a b:=by
 obtain⟨P,A,B,Q,rfl,rfl,rfl,rfl,hA,hB,aa⟩:=h;obtain⟨x,rfl⟩:=length_eq_one_iff.1 (show B.length=1 by omega);have E:∀(q:P.length+A.length<(P++(A++([x]++Q))).length),(P++(A++([x]++Q)))[P.length+A.length]=x:=fun q=>by
  rw[getElem_append_right w4,getElem_append_right w4];simp
 have I:∀k (h:k<A.length) (q:P.length+k<(P++(A++([x]++Q))).length),(P++(A++([x]++Q)))[P.length+k]=A[k]:=fun k h q=>by
  rw[getElem_append_right w4,getElem_append_left w4];simp
 have lN:([x]:List Int).length=1:=rfl;rw[lN] at *;obtain⟨t,rfl⟩:∃t,i=P.length+t:=⟨i-P.length,by omega⟩
 rw[show P.length+t-P.length=t by omega,show P.length+A.length-P.length=A.length by omega];have he:P++(A++([x]++Q))=Mv P A Q x A.length:=(by unfold Mv;simp)
 have hp:=UN (R:=R) (P:=P) (B:=A) (Q:=Q) (x:=x) (s:=A.length) (t:=t) ht hA (Nat.le_refl _) w4 (by
  rcases Nat.eq_zero_or_pos t with q|q
  ·exact .inl q
  rcases k1 with k1|⟨p1,p2,k1⟩
  ·omega
  ·refine .inr ⟨by omega,?_⟩;have e1:=I (t-1) w4 w4;simp only[show P.length+t-1=P.length+(t-1) by omega] at k1;rw[E,e1] at k1;exact k1) (by
  rcases k2 with k2|⟨p1,p2,k2⟩
  ·exact .inl w4
  rcases Nat.lt_or_ge t A.length with q|q
  ·exact .inr ⟨q,by rw[E,I t q] at k2;exact k2⟩
  exact .inl w4)
 refine⟨P,A,Q,x,rfl,he,by omega,rfl,?_⟩;rw[he,show P.length+A.length+1=P.length+(A.length+1) by omega];exact hp
theorem aeC(h:t<B.length)(h0:P.length+t<(Mv P B Q x (t+1)).length):(Mv P B Q x (t+1))[P.length+t]=B[t]:=by
 simp only[FQ h];rw[Eo _ (zX h).symm]
theorem aeD(h:t<B.length)(h0:P.length+t+1<(Mv P B Q x (t+1)).length):(Mv P B Q x (t+1))[P.length+t+1]=x:=by
 simp only[FQ h];rw[Ep _ (by rw[zX h])]
theorem agA(h:t<B.length)(ha:P.length=a)(h0:a+t<(Mv P B Q x t).length)(h1:a+t+1<(Mv P B Q x t).length):((Mv P B Q x t).set (a+t) (Mv P B Q x t)[a+t+1]).set (a+t+1) (Mv P B Q x t)[a+t]=Mv P B Q x (t+1):=by
 subst ha;rw[af2 h,ahz h,aez h]
theorem agz(h:t<B.length)(ha:P.length=a)(h0:a+t<(Mv P B Q x (t+1)).length)(h1:a+t+1<(Mv P B Q x (t+1)).length):((Mv P B Q x (t+1)).set (a+t+1) (Mv P B Q x (t+1))[a+t]).set (a+t) (Mv P B Q x (t+1))[a+t+1]=Mv P B Q x t:=by
 subst ha;rw[aeC h,aeD h,af3 h]

end Go.Proofs.YtbplamgacibdaaaGreatDoor.So
namespace Go.Proofs.YtbplamgacibdaaaGreatDoor.So
open List
open Go.Proofs.Tryz
open Go.RowKit V Tw
variable {G:List (Nat×List Value)}
theorem aeE(Z cap I fc:Nat)(O:List D)(E:List ah)(cF:Int->Int->Int)(V:Int->Prop)(Lt:Int->Int->Prop)(hc:∀x y,V x->V y->VC Tryz.prog G fc ([ae x,ae y]++O) E (fun r S'=>r=ae (cF x y)/\S'=E))(U:∀args w,(callFunc fc args).run Tryz.prog w = .ok (.enter fc args) w)(ht:∀{x y z:Int},Rc cF Lt x y->Rc cF Lt y z->Rc cF Lt x z)(ha:∀x y,0<=cF y x->cF x y<=0)(qb:Z<=cap)(rN:cap<=maxLen)(hU:Z<=1000000)(n:Nat)(ih:∀k,k<n->∀(l:List Int) (a m b:Nat),b-a=k->qx (Rc cF Lt) Lt l a m b->a<m->m<b->l.length=Z->(∀x∈l,V x)->VC Tryz.prog G 145 [aT (some ⟨I,0,none⟩) Z cap,ae (a:Nat),ae (m:Nat),ae (b:Nat),.eI (.func fc) O] (⟨I,3,cap*1,(l).flatMap cI⟩::E) (fun r S'=>r = .da []/\∃lz,Part (Rc cF Lt) l lz a b/\S'=⟨I,3,cap*1,(lz).flatMap cI⟩::E))(l:List Int)(a m b:Nat)(hn:b-a=n)(h:qx (Rc cF Lt) Lt l a m b)(h1:a<m)(h2:m<b)(gC:l.length=Z)(hV:∀x∈l,V x):VC Tryz.prog G 145 [aT (some ⟨I,0,none⟩) Z cap,ae (a:Nat),ae (m:Nat),ae (b:Nat),.eI (.func fc) O] (⟨I,3,cap*1,(l).flatMap cI⟩::E) (fun r S'=>r = .da []/\∃lz,Part (Rc cF Lt) l lz a b/\S'=⟨I,3,cap*1,(lz).flatMap cI⟩::E):=by
 refine VC.body func145 rfl ntmps145 aU fun X0 w0 bj=>?_;have cR:=dI;have hlen:=h.len;refine cz [0,1,2,3,4,28] ?_;refine aR 2 ?_ (h:=by exact(dR rfl ot ot (iI (r:=((m-a:Nat):Int)) qO)));refine bA ?_;refine au ?_ ?_<;>intro aJ bz
 ·have DY:m=a+1:=(by omega)
  refine af [0,1,3,4,10] ?_;refine af [0,1,4,10,11] ?_;refine ew [0,1,4] (fun aS _ (aO:Nat×Nat) aE=>match aO with|(i,j)=>(m<=i)/\(i<=j)/\(j<=b)/\((i=m\/∃(p:i-1<l.length) (q:a<l.length),(Rc cF Lt) l[i-1] l[a]))/\((j=b\/∃(p:a<l.length) (q:j<l.length),(Rc cF Lt) l[a] l[j]))/\aE=(⟨220,(10,ae (i:Nat))::(11,ae (j:Nat))::aS,(⟨I,3,cap*1,(l).flatMap cI⟩::E)⟩:St)) (fun (aO:Nat×Nat)=>match aO with|(i,j)=>j-i) (m,b) ⟨(Nat.le_refl _),w4,(Nat.le_refl _),(.inl rfl),(.inl rfl),rfl⟩ ?_;rintro⟨i,j⟩ _ ⟨wA,ZB,yQ,cM,eD,rfl⟩;refine af [0,1,4,10,11,33] ?_;refine au ?_ ?_<;>intro aX cr
  ·have hh:i<j:=(by omega)
   have hH:((i+j)/2)<l.length:=(by omega)
   have hA:a<l.length:=(by omega)
   refine cz [0,1,4,10,11,12] ?_;refine aR 2 ?_ (h:=Nv);refine aR 0 ?_ (h:=Nu);refine aR 0 ?_ (h:=Dh);refine aR 0 ?_ (h:=Nt);refine bA ?_;refine CD.seq ?_;refine gP 9 (av (take 1 _)) ?_ (fun _ h=>(Sublist.map _ (take_sublist _ _)).subset h);refine aD 0 rfl bD ?_;refine aD 1 rfl bD ?_;refine aD 2 rfl bD ?_;refine aD 3 rfl (dL 1 (h:=by first|exact .l (j:=((i+j)/2)) rfl w4|exact .r (j:=((i+j)/2)) rfl w4)) ?_;refine aD 4 rfl fN ?_;refine aD 5 rfl bD ?_;refine aD 6 rfl bD ?_;refine aD 7 rfl (dL 1 (h:=by first|exact .l (j:=a) rfl w4|exact .r (j:=a) rfl w4)) ?_;refine aD 8 rfl fN ?_;refine dM.later rfl ?_;refine fm ?_;refine OD.lY (f:=fc) (args:=[_,_]) (Sf:=E) aq rfl rfl ot U (hc _ _ (hV _ (getElem_mem hH)) (hV _ (getElem_mem hA))) rfl ⟨ot,ot,trivial⟩ (perm_append_singleton _ _).symm ?_;rintro _ S2 ⟨rfl,iZ⟩;rw[iZ];clear iZ;refine OD.perm (perm_append_singleton _ _) ?_;refine an 220 [0,1,4,10,11,12,50] ?_;refine au ?_ ?_<;>intro bL cJ
   ·have qe:(Rc cF Lt) (l[((i+j)/2)]'hH) (l[a]'hA):=Fz cJ;refine bM [0,1,4,10,11] ?_;exact z117
   have AU:(Rc cF Lt) (l[a]'hA) (l[((i+j)/2)]'hH):=FX ha (h.lt (Nat.le_refl _) w4 w4 w4 hA hH) w4;refine bM [0,1,4,10,11] ?_;exact z124
  obtain rfl:i=j:=(by omega)
  obtain⟨P,B,Q,x,hP,hl,hiB,hB,Ly⟩:=aeB (R:=Rc cF Lt) (l:=l) (a:=a) (m:=m) (b:=b) (i:=i) ht h DY wA yQ cM eD;subst hl;have iG:∀t,t<=B.length->(Mv P B Q x (t)).length=Z:=fun t ht=>by rw[F8 ht,<-gC,F8 (Nat.zero_le _)]
  refine af [0,10,13] ?_;refine ew [0,10] (fun aS _ (t:Nat) aE=>(t<=i-m)/\aE=(⟨220,(13,ae (a+t:Nat))::aS,(⟨I,3,cap*1,(Mv P B Q x (t)).flatMap cI⟩::E)⟩:St)) (fun (t:Nat)=>i-m-t) 0 ⟨(Nat.zero_le _),rfl⟩ ?_;rintro t _ ⟨hti,rfl⟩;refine cz [0,10,13,58] ?_;refine aR 2 ?_ (h:=by exact(dR rfl ot bV (iI (r:=((i-1:Nat):Int)) (by rw[show(((i:Nat):Int)-1)=((i-1:Nat):Int) by omega];exact wrap_i64 w4 w4))));refine bA ?_;refine au ?_ ?_<;>intro cN en
  ·have NW:t<B.length:=(by omega)
   have uM:=iG t w4;refine CD.skip ?_;refine CD.seq ?_;refine CD.block ?_;refine gP 16 (av (eraseIdx _ 0)) ?_ (fun _ h=>(Sublist.map _ (eraseIdx_sublist _ 0)).subset h);refine aD 0 rfl bD ?_;refine aD 1 rfl bD ?_;refine aD 2 rfl bD ?_;refine aD 3 rfl bD ?_;refine aD 4 rfl (dR rfl ot bV (kN (r:=((a+t+1:Nat):Int)) (by rw[show(((a+t:Nat):Int)+1)=((a+t+1:Nat):Int) by omega];exact wrap_i64 w4 w4))) ?_;refine aD 5 rfl bD ?_;refine aD 6 rfl bD ?_;refine aD 7 rfl (dR rfl ot bV (kN (r:=((a+t+1:Nat):Int)) (by rw[show(((a+t:Nat):Int)+1)=((a+t+1:Nat):Int) by omega];exact wrap_i64 w4 w4))) ?_;refine aD 8 rfl (dL 1 (h:=NC)) ?_;refine aD 10 rfl bD ?_;refine aD 11 rfl bD ?_;refine aD 12 rfl (dL 1 (h:=NF)) ?_;refine dM.later rfl ?_;refine AD.two (i:=9) (j:=13) aC ?_ ?_
   ·refine at_ rfl fN ?_;refine AD.one (i:=13) aC ?_;exact X8
   refine at_ rfl fN ?_;refine AD.one (i:=9) aC ?_;exact X8
  obtain rfl:t=i-m:=(by omega)
  exact HH
 refine cz [0,1,2,3,4,80] ?_;refine aR 2 ?_ (h:=by exact(dR rfl ot ot (iI (r:=((b-m:Nat):Int)) qO)));refine bA ?_;refine au ?_ ?_<;>intro dW fB
 ·have DY:b=m+1:=(by omega)
  refine af [0,2,4,14] ?_;refine af [0,2,4,14,15] ?_;refine ew [0,2,4] (fun aS _ (aO:Nat×Nat) aE=>match aO with|(i,j)=>(a<=i)/\(i<=j)/\(j<=m)/\((i=a\/∃(p:i-1<l.length) (q:m<l.length),(Rc cF Lt) l[i-1] l[m]))/\((j=m\/∃(p:m<l.length) (q:j<l.length),(Rc cF Lt) l[m] l[j]))/\aE=(⟨220,(14,ae (i:Nat))::(15,ae (j:Nat))::aS,(⟨I,3,cap*1,(l).flatMap cI⟩::E)⟩:St)) (fun (aO:Nat×Nat)=>match aO with|(i,j)=>j-i) (a,m) ⟨(Nat.le_refl _),w4,(Nat.le_refl _),(.inl rfl),(.inl rfl),rfl⟩ ?_;rintro⟨i,j⟩ _ ⟨ZI,ZB,Ot,cM,eD,rfl⟩;refine af [0,2,4,14,15,85] ?_;refine au ?_ ?_<;>intro fF gM
  ·have hh:i<j:=(by omega)
   have hH:((i+j)/2)<l.length:=(by omega)
   have hM:m<l.length:=(by omega)
   refine cz [0,2,4,14,15,16] ?_;refine aR 2 ?_ (h:=Nv);refine aR 0 ?_ (h:=Nu);refine aR 0 ?_ (h:=Dh);refine aR 0 ?_ (h:=Nt);refine bA ?_;refine CD.seq ?_;refine gP 9 (av (take 1 _)) ?_ (fun _ h=>(Sublist.map _ (take_sublist _ _)).subset h);refine aD 0 rfl bD ?_;refine aD 1 rfl bD ?_;refine aD 2 rfl bD ?_;refine aD 3 rfl (dL 1 (h:=by first|exact .l (j:=m) rfl w4|exact .r (j:=m) rfl w4)) ?_;refine aD 4 rfl fN ?_;refine aD 5 rfl bD ?_;refine aD 6 rfl bD ?_;refine aD 7 rfl (dL 1 (h:=by first|exact .l (j:=((i+j)/2)) rfl w4|exact .r (j:=((i+j)/2)) rfl w4)) ?_;refine aD 8 rfl fN ?_;refine dM.later rfl ?_;refine fm ?_;refine OD.lY (f:=fc) (args:=[_,_]) (Sf:=E) aq rfl rfl ot U (hc _ _ (hV _ (getElem_mem hM)) (hV _ (getElem_mem hH))) rfl ⟨ot,ot,trivial⟩ (perm_append_singleton _ _).symm ?_;rintro _ S2 ⟨rfl,iZ⟩;rw[iZ];clear iZ;refine OD.perm (perm_append_singleton _ _) ?_;refine an 220 [0,2,4,14,15,16,103] ?_;refine au ?_ ?_<;>intro iw oS
   ·have qe:(Rc cF Lt) (l[((i+j)/2)]'hH) (l[m]'hM):=FX ha (h.lt w4 w4 (Nat.le_refl _) w4 hH hM) w4;refine bM [0,2,4,14,15] ?_;exact z117
   have AU:(Rc cF Lt) (l[m]'hM) (l[((i+j)/2)]'hH):=Fz oS;refine bM [0,2,4,14,15] ?_;exact z124
  obtain rfl:i=j:=(by omega)
  obtain⟨P,B,Q,x,hP,hl,hiB,hB,Ly⟩:=acS (R:=Rc cF Lt) (l:=l) (a:=a) (m:=m) (b:=b) (i:=i) ht h DY ZI Ot cM eD;subst hl;have iG:∀t,t<=B.length->(Mv P B Q x (t)).length=Z:=fun t ht=>by rw[F8 ht,<-gC,F8 w4]
  refine af [0,14,17] ?_;refine ew [0,14] (fun aS _ (t:Nat) aE=>(i-a<=t)/\(t<=m-a)/\aE=(⟨220,(17,ae (a+t:Nat))::aS,(⟨I,3,cap*1,(Mv P B Q x (t)).flatMap cI⟩::E)⟩:St)) (fun (t:Nat)=>t) (m-a) ⟨w4,(Nat.le_refl _),rfl⟩ ?_;rintro t _ ⟨hti,htm,rfl⟩;refine af [0,14,17,110] ?_;refine au ?_ ?_<;>intro iy mF
  ·obtain⟨t,rfl⟩:∃k,t=k+1:=⟨t-1,by omega⟩
   have NW:t<B.length:=(by omega)
   have uM:=iG (t+1) w4;refine CD.skip ?_;refine CD.seq ?_;refine CD.block ?_;refine gP 16 (av (eraseIdx _ 0)) ?_ (fun _ h=>(Sublist.map _ (eraseIdx_sublist _ 0)).subset h);refine aD 0 rfl bD ?_;refine aD 1 rfl bD ?_;refine aD 2 rfl bD ?_;refine aD 3 rfl bD ?_;refine aD 4 rfl (dR rfl ot bV (iI (r:=((a+t:Nat):Int)) NB)) ?_;refine aD 5 rfl bD ?_;refine aD 6 rfl bD ?_;refine aD 7 rfl (dR rfl ot bV (iI (r:=((a+t:Nat):Int)) NB)) ?_;refine aD 8 rfl (dL 1 (h:=NF)) ?_;refine aD 10 rfl bD ?_;refine aD 11 rfl bD ?_;refine aD 12 rfl (dL 1 (h:=NC)) ?_;refine dM.later rfl ?_;refine AD.two (i:=9) (j:=13) aC ?_ ?_
   ·refine at_ rfl fN ?_;refine AD.one (i:=13) aC ?_;exact X7
   refine at_ rfl fN ?_;refine AD.one (i:=9) aC ?_;exact X7
  obtain rfl:t=i-a:=(by omega)
  exact HH
 obtain⟨mid,alx⟩:∃q,q=(a+b)/2:=⟨_,rfl⟩
 refine cz [0,1,2,3,4,18] ?_;refine aR 2 ?_ (h:=by exact(dR rfl ot ot (kN (r:=((a+b:Nat):Int)) L8)));refine aR 0 ?_ (h:=by exact(sg rfl ot (su (r:=((a+b:Nat):Int)) runUnderlying3 runUnderlying210 (IntWalk.u64_in _ w4))));refine aR 0 ?_ (h:=Dh);refine aR 0 ?_ (h:=by exact(sg rfl ot (su (r:=((mid:Nat):Int)) runUnderlying210 runUnderlying3 (by rw[show(((a+b)/2:Nat):Int)=((mid:Nat):Int) by rw[alx]];exact wrap_i64 w4 w4))));refine bA ?_;refine cz [0,1,2,3,4,18,19] ?_;refine aR 2 ?_ (h:=by exact(dR rfl ot ot (kN (r:=((mid+m:Nat):Int)) L8)));refine bA ?_;refine af [0,1,2,3,4,18,19] ?_;refine iH [0,1,2,3,4,18,19] (fun aS mQ aE=>∃(s0:Nat),∃(r0:Nat),((mid<m/\s0=mid+m-b/\r0=mid)\/(m<=mid/\s0=a/\r0=m))/\aE=(⟨220,(20,ae (s0:Nat))::(21,ae (r0:Nat))::aS,mQ⟩:St)) ?_ ?_
 ·refine af [0,1,2,3,4,18,19,140] ?_;refine au ?_ ?_<;>intro qk CN
  ·refine cz [0,1,2,3,4,18,19,20] ?_;refine aR 2 ?_ (h:=by exact(dR rfl ot ot (iI (r:=(((mid+m)-b:Nat):Int)) qO)));refine bA ?_;refine bM [0,1,2,3,4,18,19,20,21] ?_;refine⟨_,aI,(mid+m-b),mid,(.inl ⟨by omega,rfl,rfl⟩),rfl⟩
  refine af [0,1,2,3,4,18,19,20] ?_;refine bM [0,1,2,3,4,18,19,20,21] ?_;refine⟨_,aI,a,m,(.inr ⟨by omega,rfl,rfl⟩),rfl⟩
 rintro _ ⟨s0,r0,Ij,rfl⟩;refine cz [0,1,2,3,4,18,19,20,21,22] ?_;refine aR 1 ?_ (h:=by exact(dR rfl ot bV (iI (r:=(((mid+m)-1:Nat):Int)) (by rw[show((((mid+m):Nat):Int)-1)=(((mid+m)-1:Nat):Int) by omega];exact wrap_i64 w4 w4))));refine bA ?_;refine ew [0,1,2,3,4,18,19,22] (fun aS _ (aO:Nat×Nat) aE=>match aO with|(s,r)=>(s0<=s)/\(s<=r)/\(r<=r0)/\((s=s0\/∃(p:s-1<l.length) (q:mid+m-s<l.length),(Rc cF Lt) l[s-1] l[mid+m-s]))/\((r=r0\/∃(p:mid+m-r-1<l.length) (q:r<l.length),(Rc cF Lt) l[mid+m-r-1] l[r]))/\aE=(⟨220,(20,ae (s:Nat))::(21,ae (r:Nat))::aS,(⟨I,3,cap*1,(l).flatMap cI⟩::E)⟩:St)) (fun (aO:Nat×Nat)=>match aO with|(s,r)=>r-s) (s0,r0) ⟨(Nat.le_refl _),w4,(Nat.le_refl _),(.inl rfl),(.inl rfl),rfl⟩ ?_;rintro⟨s,r⟩ _ ⟨hU,aq3,ZK,cM,eD,rfl⟩;refine af [0,1,2,3,4,18,19,20,21,22,151] ?_;refine au ?_ ?_<;>intro uS CP
 ·have hh:s<r:=(by omega)
  have hC:((s+r)/2)<l.length:=(by omega)
  have hQ:(mid+m-1-((s+r)/2))<l.length:=(by omega)
  refine cz [0,1,2,3,4,18,19,20,21,22,23] ?_;refine aR 2 ?_ (h:=by exact(dR rfl ot ot (kN (r:=((s+r:Nat):Int)) L8)));refine aR 0 ?_ (h:=by exact(sg rfl ot (su (r:=((s+r:Nat):Int)) runUnderlying3 runUnderlying210 (IntWalk.u64_in _ w4))));refine aR 0 ?_ (h:=Dh);refine aR 0 ?_ (h:=by exact(sg rfl ot (su (r:=((((s+r)/2):Nat):Int)) runUnderlying210 runUnderlying3 (wrap_i64 w4 w4))));refine bA ?_;refine CD.seq ?_;refine gP 11 (av (take 1 _)) ?_ (fun _ h=>(Sublist.map _ (take_sublist _ _)).subset h);refine aD 0 rfl bD ?_;refine aD 1 rfl bD ?_;refine aD 2 rfl bD ?_;refine aD 3 rfl bD ?_;refine aD 4 rfl (dR rfl ot ot (iI (r:=(((mid+m-1)-((s+r)/2):Nat):Int)) qO)) ?_;refine aD 5 rfl (dL 1 (h:=by first|exact .l (j:=(mid+m-1-((s+r)/2))) rfl w4|exact .r (j:=(mid+m-1-((s+r)/2))) rfl w4)) ?_;refine aD 6 rfl fN ?_;refine aD 7 rfl bD ?_;refine aD 8 rfl bD ?_;refine aD 9 rfl (dL 1 (h:=by first|exact .l (j:=((s+r)/2)) rfl w4|exact .r (j:=((s+r)/2)) rfl w4)) ?_;refine aD 10 rfl fN ?_;refine dM.later rfl ?_;refine fm ?_;refine OD.lY (f:=fc) (args:=[_,_]) (Sf:=E) aq rfl rfl ot U (hc _ _ (hV _ (getElem_mem hQ)) (hV _ (getElem_mem hC))) rfl ⟨ot,ot,trivial⟩ (perm_append_singleton _ _).symm ?_;rintro _ S2 ⟨rfl,iZ⟩;rw[iZ];clear iZ;refine OD.perm (perm_append_singleton _ _) ?_;refine an 220 [0,1,2,3,4,18,19,20,21,22,23,171] ?_
  refine au ?_ ?_<;>intro GR Gm
  ·have aly:(Rc cF Lt) (l[((s+r)/2)]'hC) (l[(mid+m-1-((s+r)/2))]'hQ):=FX ha (h.lt w4 w4 w4 w4 hC hQ) w4;have qe:(Rc cF Lt) (l[((s+r)/2)+1-1]'w4) (l[mid+m-(((s+r)/2)+1)]'w4):=(by simpa only[show((s+r)/2)+1-1=((s+r)/2) by omega,show mid+m-(((s+r)/2)+1)=(mid+m-1-((s+r)/2)) by omega] using aly)
   refine bM [0,1,2,3,4,18,19,20,21,22] ?_;refine⟨((((s+r)/2)+1),r),_,cn,aI,w4,w4,w4,(.inr ⟨by omega,by omega,qe⟩),eD,rfl⟩
  have alz:(Rc cF Lt) (l[(mid+m-1-((s+r)/2))]'hQ) (l[((s+r)/2)]'hC):=Fz Gm;have AU:(Rc cF Lt) (l[mid+m-((s+r)/2)-1]'w4) (l[((s+r)/2)]'w4):=(by simpa only[show mid+m-((s+r)/2)-1=(mid+m-1-((s+r)/2)) by omega] using alz)
  refine bM [0,1,2,3,4,18,19,20,21,22] ?_;refine⟨(s,((s+r)/2)),_,cn,aI,w4,w4,w4,cM,(.inr ⟨by omega,by omega,AU⟩),rfl⟩
 obtain rfl:s=r:=(by omega)
 obtain⟨l1,qK,Mi⟩:=af4 (R:=Rc cF Lt) (l:=l) (a:=a) (m:=m) (b:=b) (s:=s) (e:=mid+m-s) (mid:=mid) ht h w4 w4 w4 w4 w4 (by rcases cM with q|q;(rcases Ij with q2|q2;exact .inr (.inl w4);exact .inl w4);exact .inr (.inr q)) (by rcases eD with q|q;(rcases Ij with q2|q2;exact .inl w4;exact .inr (.inl w4));exact .inr (.inr q));have lN:=Mi.len.2.2;refine cz [0,1,2,3,4,18,20,24] ?_;refine aR 2 ?_ (h:=by exact(dR rfl ot ot (iI (r:=(((mid+m)-s:Nat):Int)) qO)));refine bA ?_;refine iH [0,1,3,4,18,20,24] (fun aS _ aE=>aE=(⟨220,aS,(⟨I,3,cap*1,(l1).flatMap cI⟩::E)⟩:St)) ?_ ?_
 ·refine aB 4 ?_;refine bZ 181 (fun aiU ahA=>?_) (fun aiU ahA=>?_)
  ·refine bu [0,1,2,3,4,18,20,24,185] ?_;refine au ?_ ?_<;>intro vH Ga
   ·refine dw 5 ?_;refine OD.call (R:=E) aq rfl rfl rfl call165 (ahy l l1 Z s m (mid+m-s) cap I (.eI (.func fc) O) [] Mi w4 w4 gC qb w4) ⟨ot,ot,ot,ot,ot,trivial⟩ (Perm.refl _) ?_;rintro _ _ ⟨rfl,rfl⟩;refine an 220 [0,1,3,4,18,20,24] ?_;refine⟨_,aI,rfl⟩
   exact z127
  refine bu [0,1,2,3,4,18,20,24,185] ?_;refine gm ?_;exact z127
 rintro _ ⟨rfl⟩;refine iH [0,3,4,18,24] (fun aS _ aE=>∃(l2:List Int),(Part (Rc cF Lt) l1 l2 a mid)/\aE=(⟨220,aS,(⟨I,3,cap*1,(l2).flatMap cI⟩::E)⟩:St)) ?_ ?_
 ·refine aB 4 ?_;refine bZ 195 (fun aiV ahB=>?_) (fun aiV ahB=>?_)
  ·refine bu [0,1,3,4,18,20,24,199] ?_;refine au ?_ ?_<;>intro aq4 aiv
   ·refine dw 5 ?_;refine OD.call (R:=[]) aq rfl rfl rfl call145 (ih (mid-a) w4 l1 a s mid rfl (af5 qK) w4 w4 (lN.trans gC) (fun z hz=>hV z (qK.perm.subset hz))) ⟨ot,ot,ot,ot,ot,trivial⟩ pD ?_;rintro _ _ ⟨rfl,l2,oY,rfl⟩;refine OD.perm (S':=⟨I,3,cap*1,(l2).flatMap cI⟩::E) pD ?_;refine an 220 [0,3,4,18,24] ?_;refine⟨_,aI,l2,oY,rfl⟩
   refine CD.skip ?_;refine⟨_,aI,l1,(Th qK w4),rfl⟩
  refine bu [0,1,3,4,18,20,24,199] ?_;refine gm ?_;refine CD.skip ?_;refine⟨_,aI,l1,(Th qK w4),rfl⟩
 rintro _ ⟨l2,oY,rfl⟩;refine aB 4 ?_;refine bZ 209 (fun aiW ahC=>?_) (fun aiW ahC=>?_)
 ·refine bu [0,3,4,18,24,213] ?_;refine au ?_ ?_<;>intro aq5 aiw
  ·refine dw 5 ?_;refine OD.call (R:=[]) aq rfl rfl rfl call145 (ih (b-mid) w4 l2 mid (mid+m-s) b rfl (aeA qK oY) w4 w4 (oY.len.trans (lN.trans gC)) (fun z hz=>hV z (qK.perm.subset (oY.perm.subset hz)))) ⟨ot,ot,ot,ot,ot,trivial⟩ pD ?_;rintro _ _ ⟨rfl,l3,Yk,rfl⟩;refine OD.perm (S':=⟨I,3,cap*1,(l3).flatMap cI⟩::E) pD ?_;refine an 220 [] ?_;exact HH
  exact HH
 refine bu [0,3,4,18,24,213] ?_;refine gm ?_;refine aK _ ?_;first|exact⟨rfl,_,Ly,rfl⟩|exact⟨rfl,_,FC qK oY Yk,rfl⟩|exact⟨rfl,_,FC qK oY (Qy qK oY w4),rfl⟩
theorem VE(I cap bd O:Nat)(E:List D)(U:List ah)(cF:Int->Int->Int)(V:Int->Prop)(Lt:Int->Int->Prop)(hc:∀x y,V x->V y->VC Tryz.prog G O ([ae x,ae y]++E) U (fun r S'=>r=ae (cF x y)/\S'=U))(Z:∀args w,(callFunc O args).run Tryz.prog w = .ok (.enter O args) w)(ht:∀{x y z:Int},Rc cF Lt x y->Rc cF Lt y z->Rc cF Lt x z)(ha:∀x y,0<=cF y x->cF x y<=0)(qb:I<=cap)(rN:cap<=maxLen)(hU:I<=1000000):∀(n:Nat) (l:List Int) (a m b:Nat),b-a=n->qx (Rc cF Lt) Lt l a m b->a<m->m<b->l.length=I->(∀x∈l,V x)->VC Tryz.prog G 145 [aT (some ⟨bd,0,none⟩) I cap,ae (a:Nat),ae (m:Nat),ae (b:Nat),.eI (.func O) E] (⟨bd,3,cap*1,(l).flatMap cI⟩::U) (fun r S'=>r = .da []/\∃lz,Part (Rc cF Lt) l lz a b/\S'=⟨bd,3,cap*1,(lz).flatMap cI⟩::U):=fun n=>Nat.strongRecOn n (aeE I cap bd O E U cF V Lt hc Z ht ha qb rN hU)

end Go.Proofs.YtbplamgacibdaaaGreatDoor.So
namespace Go.Proofs.YtbplamgacibdaaaGreatDoor.So
open List
open Go.Proofs.Tryz
variable {R Lt:Int->Int->Prop} {l l1 cur om:List Int} {a b m n k:Nat}
theorem Jl(h:Part R l l1 a b):l1.drop b=l.drop b:=by
 obtain⟨P,M,E,Q,rfl,rfl,rfl,rfl,hp,_⟩:=h;rw[<-append_assoc,drop_left' (by rw[length_append]),<-append_assoc,drop_left' (by rw[length_append,hp.length_eq])]
theorem Ti(h:Part R l l1 a a):l1=l:=by
 obtain⟨P,M,E,Q,rfl,rfl,rfl,h1,hp,_⟩:=h;have hl:=hp.length_eq;rw[length_eq_zero_iff.1 (show M.length=0 by omega),length_eq_zero_iff.1 (show E.length=0 by omega)]
theorem JV(h:Part R l l1 0 n)(hn:l.length=n):l1.Perm l/\l1.Pairwise R:=by
 refine⟨h.perm,?_⟩;obtain⟨P,M,E,Q,rfl,rfl,h1,h2,hp,hs⟩:=h;have hl:=hp.length_eq;simp only[length_append] at hn;rw[length_eq_zero_iff.1 h1,length_eq_zero_iff.1 (show Q.length=0 by omega)];simpa using hs
def yR(R:Int->Int->Prop)(l cur:List Int)(k:Nat):Prop:=(k=0/\cur=l)\/(k=1/\Part R l cur 0 20)\/(k=2/\∃l1,Part R l l1 0 20/\Part R l1 cur 20 40)
def GZ(R:Int->Int->Prop)(l cur:List Int)(n:Nat):Prop:=∃l1,Part R l l1 0 20/\Part R l1 cur 20 n
theorem yR.perm(h:yR R l cur k):cur.Perm l:=by
 rcases h with ⟨_,rfl⟩|⟨_,h⟩|⟨_,l1,h1,h2⟩
 ·exact .refl _
 ·exact h.perm
 exact h2.perm.trans h1.perm
theorem aeF(h:yR R l cur k)(hk:k<=1)(hp:Part R cur om (20*k) (20*(k+1))):yR R l om (k+1):=by
 rcases h with ⟨rfl,rfl⟩|⟨rfl,h⟩|⟨rfl,_⟩
 ·exact .inr (.inl ⟨rfl,hp⟩)
 ·exact .inr (.inr ⟨rfl,_,h,hp⟩)
 omega
theorem aeG(h:yR R l cur k):cur.drop (20*k)=l.drop (20*k):=by
 rcases h with ⟨rfl,rfl⟩|⟨rfl,h⟩|⟨rfl,l1,h1,h2⟩
 ·rfl
 ·exact Jl h
 rw[Jl h2];have:=congrArg (drop 20) (Jl h1);rw[drop_drop,drop_drop] at this;exact this
theorem af6(h:yR R l cur k)(h1:20*k<=n)(h2:n<20*(k+1))(h3:n<=40)(hl:l.length=n)(hp:Part R cur om (20*k) n):(n<=20/\om.Perm l/\om.Pairwise R)\/(20<n/\GZ R l om n):=by
 rcases h with ⟨rfl,rfl⟩|⟨rfl,h⟩|⟨rfl,l1,p1,p2⟩
 ·exact .inl ⟨by omega,JV hp hl⟩
 ·rcases Nat.lt_or_ge 20 n with q|q
  ·exact .inr ⟨q,_,h,hp⟩
  obtain rfl:n=20:=(by omega)
  rw[Ti hp];exact .inl ⟨q,JV h hl⟩
 obtain rfl:n=40:=(by omega)
 rw[Ti hp];exact .inr ⟨by omega,_,p1,p2⟩
theorem aeH(h:GZ R l cur n)(hq:l.Pairwise Lt):qx R Lt cur 0 20 n:=by
 obtain⟨l1,⟨P,M,M0,Q,rfl,rfl,h1,h2,hp,hs⟩,p2⟩:=h;obtain rfl:=length_eq_zero_iff.1 h1;obtain⟨O,U,Z,I,rfl,h4,h5,h6,oY,E⟩:=p2;obtain⟨e1,e2⟩:=append_inj (show M++Q=O++(Z++I) from h4) w4;subst e1 e2;rw[nil_append,pairwise_append] at hq;exact⟨[],M,U,I,by simp,rfl,by omega,by omega,hs,E,fun x hx y hy=>hq.2.2 x (hp.subset hx) y (mem_append_left _ (oY.subset hy))⟩
theorem Tj(h:GZ R l cur n)(hp:Part R cur om 0 n)(hl:l.length=n):om.Perm l/\om.Pairwise R:=by
 obtain⟨l1,p1,p2⟩:=h;have:=JV hp (by rw[p2.len,p1.len,hl]);exact⟨this.1.trans (p2.perm.trans p1.perm),this.2⟩

end Go.Proofs.YtbplamgacibdaaaGreatDoor.So
namespace Go.Proofs.YtbplamgacibdaaaGreatDoor.So
open List
open Go.Proofs.Tryz
open Go.RowKit V Tw
variable {G:List (Nat×List Value)}
theorem acT(E cap O fc:Nat)(I:List D)(U:List ah)(cF:Int->Int->Int)(V:Int->Prop)(Lt:Int->Int->Prop)(hc:∀x y,V x->V y->VC Tryz.prog G fc ([ae x,ae y]++I) U (fun r S'=>r=ae (cF x y)/\S'=U))(vO:∀args w,(callFunc fc args).run Tryz.prog w = .ok (.enter fc args) w)(ht:∀{x y z:Int},Rc cF Lt x y->Rc cF Lt y z->Rc cF Lt x z)(ha:∀x y,0<=cF y x->cF x y<=0)(qb:E<=cap)(rN:cap<=maxLen)(hU:E<=40)(l:List Int)(hq:l.Pairwise Lt)(gC:l.length=E)(hV:∀x∈l,V x):VC Tryz.prog G 128 [aT (some ⟨O,0,none⟩) E cap,ae (E:Nat),.eI (.func fc) I] (⟨O,3,cap*1,(l).flatMap cI⟩::U) (fun r S'=>r = .da []/\∃(lz:List Int),(lz.Perm l/\lz.Pairwise (Rc cF Lt))/\S'=⟨O,3,cap*1,(lz).flatMap cI⟩::U):=by
 refine VC.body func128 rfl ntmps128 aU fun X0 w0 bj=>?_;have cR:=dI;refine af [0,1,2,6] ?_;refine af [0,1,2,6,7,8] ?_;refine CD.seq ?_;refine CD.block ?_;refine nu (fun (aO:Nat×List Int) aE=>match aO with|(k,cur)=>(20*k<=E)/\(yR (Rc cF Lt) l cur k)/\aE=(⟨63,[(0,aT (some ⟨O,0,none⟩) E cap),(1,ae (E:Nat)),(2,.eI (.func fc) I),(6,ae 20),(7,ae (20*k:Nat)),(8,ae (20*(k+1):Nat))],(⟨O,3,cap*1,(cur).flatMap cI⟩::U)⟩:St)) (fun (aO:Nat×List Int)=>match aO with|(k,cur)=>3-k) (0,l) ⟨(Nat.zero_le _),(.inl ⟨rfl,rfl⟩),rfl⟩ (aI (h:=by repeat (first|exact trivial|refine⟨(by (repeat (first|exact fK|(apply gb;focus (first|rfl|(rw[show(20*(k+1):Nat)=20*k+20 by omega];rfl)|(simp;done)|(congr 3;omega)))|(apply fO;focus rfl)));done),?_⟩))) ?_;rintro⟨k,cur⟩ _ ⟨hk,eU,rfl⟩;have fj:=eU.perm.length_eq;have tg:(cur.drop (20*k)).Pairwise Lt:=(by rw[aeG eU];exact hq.drop)
 have Er:∀x∈cur,V x:=fun x hx=>hV x (eU.perm.subset hx);refine af [0,1,2,6,7,8,13] ?_;refine au ?_ ?_<;>intro aJ bz
 ·have tK:20*(k+1)<=E:=(by omega)
  refine aB 4 ?_;refine OD.call (R:=[]) aq rfl rfl rfl call144 (VD cur E (20*k) (20*(k+1)) cap O fc I U cF V Lt Er hc vO ht ha tg w4 w4 w4 qb rN w4) ⟨ot,ot,ot,ot,trivial⟩ pD ?_;rintro _ _ ⟨rfl,c1,alA,rfl⟩;refine OD.perm (S':=⟨O,3,cap*1,(c1).flatMap cI⟩::U) pD ?_;refine an 63 [0,1,2,6,8] ?_;refine af [0,1,2,6,7,8] ?_;refine gl [0,1,2,6,7,8] ?_;refine aR 2 ?_ (h:=by exact(dR rfl ot ot (kN (r:=((20*(k+1+1):Nat):Int)) (by rw[show(((20*(k+1):Nat):Int)+20)=((20*(k+1+1):Nat):Int) by omega];exact wrap_i64 w4 w4))));refine bA ?_;refine⟨((k+1),c1),_,cn,(aI (h:=by repeat (first|exact trivial|refine⟨(by (repeat (first|exact fK|(apply gb;focus (first|rfl|(rw[show(20*(k+1):Nat)=20*k+20 by omega];rfl)|(simp;done)|(congr 3;omega)))|(apply fO;focus rfl)));done),?_⟩))),w4,(aeF eU w4 alA),rfl⟩
 have tK:E<20*(k+1):=(by omega)
 refine aB 4 ?_;refine OD.call (R:=[]) aq rfl rfl rfl call144 (VD cur E (20*k) E cap O fc I U cF V Lt Er hc vO ht ha tg w4 w4 w4 qb rN w4) ⟨ot,ot,ot,ot,trivial⟩ pD ?_;rintro _ _ ⟨rfl,c2,Xx,rfl⟩;refine OD.perm (S':=⟨O,3,cap*1,(c2).flatMap cI⟩::U) pD ?_;have dN:=af6 eU hk tK hU gC Xx;have Xy:c2.Perm l:=Xx.perm.trans eU.perm;refine an 63 [0,1,2,6] ?_;refine ew [0,1,2] (fun aS _ (aO:Nat×List Int) aE=>match aO with|(q,cur)=>((q=20/\cur=c2)\/(q=40/\(cur.Perm l/\cur.Pairwise (Rc cF Lt))))/\aE=(⟨63,(6,ae (q:Nat))::aS,(⟨O,3,cap*1,(cur).flatMap cI⟩::U)⟩:St)) (fun (aO:Nat×List Int)=>match aO with|(q,cur)=>40-q) (20,c2) ⟨(.inl ⟨rfl,rfl⟩),rfl⟩ ?_;rintro⟨q,cur⟩ _ ⟨DZ,rfl⟩;refine af [0,1,2,6,30] ?_;refine au ?_ ?_<;>intro aX cr
 ·obtain⟨rfl,rfl⟩:q=20/\cur=c2:=(by (rcases DZ with h|h;exact h;omega))
  have Z:GZ (Rc cF Lt) l cur E:=(by (rcases dN with h|h;omega;exact h.2))
  have Xz:=aeH Z hq;have fj:=Xy.length_eq;have Er:∀x∈cur,V x:=fun x hx=>hV x (Xy.subset hx);refine af [0,1,2,6,7,8] ?_;refine ew [0,1,2,6] (fun aS _ (aO:Nat×List Int) aE=>match aO with|(j,c3)=>((j=0/\c3=cur)\/(j=1/\E=40/\(c3.Perm l/\c3.Pairwise (Rc cF Lt))))/\aE=(⟨63,(7,ae (40*j:Nat))::(8,ae (40*(j+1):Nat))::aS,(⟨O,3,cap*1,(c3).flatMap cI⟩::U)⟩:St)) (fun (aO:Nat×List Int)=>match aO with|(j,c3)=>1-j) (0,cur) ⟨(.inl ⟨rfl,rfl⟩),rfl⟩ ?_;rintro⟨j,c3⟩ _ ⟨pF,rfl⟩;refine af [0,1,2,6,7,8,35] ?_;refine au ?_ ?_<;>intro bL cJ
  ·obtain⟨mj,rfl⟩:j=0/\c3=cur:=(by (rcases pF with h|h;exact h;omega))
   have MD:E=40:=(by omega)
   refine aB 4 ?_;refine bN (dR rfl ot ot (kN (r:=((20:Nat):Int)) (by rw[mj];rfl))) ?_;refine aH 2 ?_;have ap3:=MD;refine OD.call (R:=[]) aq rfl rfl rfl call145 (VE E cap O fc I U cF V Lt hc vO ht ha qb rN w4 _ c3 (40*j) 20 (40*(j+1)) rfl (by rw[show 40*j=0 by omega,show 40*(j+1)=E by omega];exact Xz) w4 w4 w4 Er) ⟨ot,ot,ot,ot,ot,trivial⟩ pD ?_;rintro _ _ ⟨rfl,c5,alB,rfl⟩;refine OD.perm (S':=⟨O,3,cap*1,(c5).flatMap cI⟩::U) pD ?_;have alC:Part (Rc cF Lt) c3 c5 0 E:=(by have:=alB;rwa [show 40*j=0 by omega,show 40*(j+1)=E by omega] at this)
   refine an 63 [0,1,2,6,8] ?_;refine af [0,1,2,6,7,8] ?_;refine bM [0,1,2,6,7,8] ?_;refine⟨(1,c5),_,cn,aI,(.inr ⟨rfl,MD,Tj Z alC gC⟩),rfl⟩
  refine CD.exit ?_;refine iH [0,1,2,6] (fun aS _ aE=>∃(c4:List Int),((c4.Perm l/\c4.Pairwise (Rc cF Lt)))/\aE=(⟨63,aS,(⟨O,3,cap*1,(c4).flatMap cI⟩::U)⟩:St)) ?_ ?_
  ·refine cz [0,1,2,6,7,9] ?_;refine aR 2 ?_ (h:=by exact(dR rfl ot ot (kN (r:=((40*j+20:Nat):Int)) (by rw[show(((40*j:Nat):Int)+((20:Nat):Int))=((40*j+20:Nat):Int) by omega];exact wrap_i64 w4 w4))));refine bA ?_;refine af [0,1,2,6,7,9,54] ?_;refine au ?_ ?_<;>intro cN en
   ·obtain⟨mj,rfl⟩:j=0/\c3=cur:=(by (rcases pF with h|h;exact h;omega))
    refine dw 5 ?_;refine OD.call (R:=[]) aq rfl rfl rfl call145 (VE E cap O fc I U cF V Lt hc vO ht ha qb rN w4 _ c3 (40*j) (40*j+20) E rfl (by rw[show 40*j=0 by omega];exact Xz) w4 w4 w4 Er) ⟨ot,ot,ot,ot,ot,trivial⟩ pD ?_;rintro _ _ ⟨rfl,c6,alD,rfl⟩;refine OD.perm (S':=⟨O,3,cap*1,(c6).flatMap cI⟩::U) pD ?_;have alE:Part (Rc cF Lt) c3 c6 0 E:=(by have:=alD;rwa [show 40*j=0 by omega] at this)
    refine an 63 [0,1,2,6] ?_;refine⟨_,aI,c6,(Tj Z alE gC),rfl⟩
   have Ij:(c3.Perm l/\c3.Pairwise (Rc cF Lt)):=(by (rcases pF with h|h;omega;exact h.2.2))
   refine CD.skip ?_;refine⟨_,aI,c3,Ij,rfl⟩
  rintro _ ⟨c4,dW,rfl⟩;refine bM [0,1,2,6] ?_;refine⟨(40,c4),_,cn,aI,(.inr ⟨rfl,dW⟩),rfl⟩
 have j6:(cur.Perm l/\cur.Pairwise (Rc cF Lt)):=(by (rcases DZ with ⟨rfl,rfl⟩|h;(rcases dN with h|h;exact h.2;omega);exact h.2))
 refine aK _ ?_;exact⟨rfl,_,j6,rfl⟩
theorem af7(O cap U Z:Nat)(E:List D)(I:List ah)(cF:Int->Int->Int)(V:Int->Prop)(Lt:Int->Int->Prop)(hc:∀x y,V x->V y->VC Tryz.prog G Z ([ae x,ae y]++E) I (fun r S'=>r=ae (cF x y)/\S'=I))(vO:∀args w,(callFunc Z args).run Tryz.prog w = .ok (.enter Z args) w)(ht:∀{x y z:Int},Rc cF Lt x y->Rc cF Lt y z->Rc cF Lt x z)(ha:∀x y,0<=cF y x->cF x y<=0)(qb:O<=cap)(rN:cap<=maxLen)(hU:O<=40)(l:List Int)(hq:l.Pairwise Lt)(gC:l.length=O)(hV:∀x∈l,V x):VC Tryz.prog G 91 [aT (some ⟨U,0,none⟩) O cap,.eI (.func Z) E] (⟨U,3,cap*1,(l).flatMap cI⟩::I) (fun r S'=>r = .da []/\∃(lz:List Int),(lz.Perm l/\lz.Pairwise (Rc cF Lt))/\S'=⟨U,3,cap*1,(lz).flatMap cI⟩::I):=by
 refine VC.body func91 rfl ntmps91 aU fun X0 w0 bj=>?_;have cR:=dI;refine dw 4 ?_;refine OD.call (R:=[]) aq rfl rfl rfl call128 (acT O cap U Z E I cF V Lt hc vO ht ha qb rN hU l hq gC hV) ⟨ot,ot,ot,trivial⟩ pD ?_;rintro _ _ ⟨rfl,lz,yN,rfl⟩;refine OD.perm (S':=⟨U,3,cap*1,(lz).flatMap cI⟩::I) pD ?_;refine an 9 [] ?_;refine aK _ ?_;exact⟨rfl,_,yN,rfl⟩

end Go.Proofs.YtbplamgacibdaaaGreatDoor.So
namespace Go.Proofs.YtbplamgacibdaaaGreatDoor.Ba
open List
open Go.Proofs.Tryz
open Go.RowKit V Pk Tr Vl Go.Proofs.YtbplamgacibdaaaGreatDoor.Nm Pc Cd Ex Tw Go.Proofs.YtbplamgacibdaaaGreatDoor.So
variable {t:az} {o n:Nat} {i k:Int}
theorem af8(a b:Vl):jl a b<0↔a.k<b.k\/(a.k=b.k/\(a.n<b.n\/(a.n=b.n/\Go.Lib.compareBytes a.s.data.toList b.s.data.toList<0))):=by
 exact YC
theorem Rr{a b:Vl}(h:jl a b=0):a=b:=by
 unfold jl cmpL ic ic ic ic at h;have hs:a.k=b.k/\a.n=b.n/\Go.Lib.compareBytes a.s.data.toList b.s.data.toList=0:=by
  rcases y5 a.k b.k with ⟨h1,h2⟩|⟨h1,h2⟩|⟨h1,h2⟩<;>rcases y5 a.n b.n with ⟨k1,k2⟩|⟨k1,k2⟩|⟨k1,k2⟩<;>simp only[h1,k1] at h<;>(repeat' split at h)<;>first|omega|(refine⟨h2,k2,?_⟩;omega)
 obtain⟨e1,e2,E⟩:=hs;obtain⟨k,n,s⟩:=a;obtain⟨k',n',s'⟩:=b;simp only at e1 e2 E;subst e1 e2;rw[Kg (LP.1 E)]
theorem UO{a b c:Vl}(h1:jl a b<0)(h2:jl b c<0):jl a c<0:=by
 rw[af8] at h1 h2 |-;rcases h1 with h1|⟨h1,h1|⟨E,h1⟩⟩<;>rcases h2 with h2|⟨h2,h2|⟨I,h2⟩⟩<;>first|omega|(refine .inr ⟨by omega,.inr ⟨by omega,?_⟩⟩;exact mX h1 h2)
def cellAt(t:az)(o:Nat)(i:Int):Vl:=(rowAt t i).getD o bQ
def mb(t:az)(down:Bool)(o:Nat)(i k:Int):Int:=if down=true then -(jl (cellAt t o i) (cellAt t o k)) else jl (cellAt t o i) (cellAt t o k)
def wB(t:az)(i k:Int):Prop:=bG (cg (rowAt t i)) (cg (rowAt t k))
theorem Rt(t:az)(down:Bool)(o:Nat)(i k:Int):mb t down o k i = -(mb t down o i k):=by
 unfold mb;rw[EX (cellAt t o i) (cellAt t o k)];split<;>omega
theorem af9{down:Bool}{l:Int}(h1:mb t down o i k<0)(h2:mb t down o k l<0):mb t down o i l<0:=by
 unfold mb at *;split at h1
 ·rename_i hd;rw[if_pos hd] at h2 |-;have e1:=EX (cellAt t o i) (cellAt t o k);have e2:=EX (cellAt t o k) (cellAt t o l);have E:=EX (cellAt t o i) (cellAt t o l);have:=UO (a:=cellAt t o l) (b:=cellAt t o k) (c:=cellAt t o i) w4 w4;omega
 rename_i hd;rw[if_neg hd] at h2 |-;exact UO h1 h2
theorem Jm{down:Bool}(h:mb t down o i k=0):cellAt t o i=cellAt t o k:=by
 unfold mb at h;split at h
 ·exact Rr w4
 exact Rr h
theorem UP{down:Bool}(h:cellAt t o i=cellAt t o k)(l:Int):mb t down o i l=mb t down o k l:=by unfold mb;rw[h]
theorem aeI{down:Bool}(h:cellAt t o i=cellAt t o k)(l:Int):mb t down o l i=mb t down o l k:=by unfold mb;rw[h]
abbrev wC(t:az)(down:Bool)(o:Nat):Int->Int->Prop:=Rc (mb t down o) (wB t)
theorem ahD(t:az)(down:Bool)(o:Nat){x y z:Int}(h1:wC t down o x y)(h2:wC t down o y z):wC t down o x z:=by
 rcases h1 with h1|⟨h1,E⟩<;>rcases h2 with h2|⟨h2,I⟩
 ·exact .inl (af9 h1 h2)
 ·exact .inl (by rw[<-aeI (Jm h2)];exact h1)
 ·exact .inl (by rw[UP (Jm h1)];exact h2)
 exact .inr ⟨by rw[UP (Jm h1)];exact h2,mX E I⟩
theorem aeJ{down:Bool}{x y:Int}(h1:wC t down o x y)(h2:wC t down o y x):False:=by
 have e:=Rt t down o x y;rcases h1 with h1|⟨h1,E⟩<;>rcases h2 with h2|⟨h2,I⟩
 ·omega
 ·omega
 ·omega
 exact jS _ (mX E I)
noncomputable def L0(t:az)(down:Bool)(o:Nat)(l:List Int):List Int:=Classical.epsilon fun lz=>lz.Perm l/\lz.Pairwise (wC t down o)
theorem UQ{down:Bool}{l lz:List Int}(h:lz.Perm l/\lz.Pairwise (wC t down o)):lz=L0 t down o l:=by
 have hs:=Classical.epsilon_spec (p:=fun lz=>lz.Perm l/\lz.Pairwise (wC t down o)) ⟨lz,h⟩;exact Perm.eq_of_pairwise (fun a b _ _ h1 h2=>(aeJ h1 h2).elim) h.2 hs.2 (h.1.trans hs.1.symm)
theorem Fu(t:az)(w:List bf):∀(l:List (K×Int)) (acc:List Int),(lK t w acc l).1.Sublist (acc++l.map Prod.snd)
 | [],acc=>by unfold lK;simp
 | x::r,acc=>by
  have h1:(lK t w acc r).1.Sublist (acc++(x::r).map Prod.snd):=(Fu t w r acc).trans (Sublist.append_left (sublist_cons_self _ _) acc);have h2:(lK t w (acc++[x.2]) r).1.Sublist (acc++(x::r).map Prod.snd):=(by have:=Fu t w r (acc++[x.2]);rwa [append_assoc] at this)
  unfold lK;split
  ·split
   ·exact nil_sublist _
   split
   ·exact h1
   exact h2
  exact h2
def fh(t:az)(i:Int):Prop:=0<=i/\∃h:i.toNat<t.rows.length,t.rows[i.toNat]≠[]
theorem aeK{i:Nat}{c:Pc.cy}{v:Vl}(h:Pc.l8 i c v=0):de v=0:=by
 unfold Pc.l8 at h;split at h
 ·exact h
 rename_i h1;exact Decidable.not_not.1 h1
theorem Ru:∀(i:Nat) (cs:List Pc.cy) (vs:List Vl),Pc.pA i cs vs=0->vs.length<=cs.length->∀v∈vs,de v=0
 | i,c::cs,v::vs,h,hl,w,hw=>by
  unfold Pc.pA at h;split at h
  ·rename_i h1;exact absurd h h1
  rename_i h1;rcases mem_cons.1 hw with rfl|hw
  ·exact aeK (Decidable.not_not.1 h1)
  exact Ru (i+1) cs vs h uI w hw
 | _,_,[],_,_,_,hw=>by cases hw
 | _,[],_::_,_,hl,_,_=>by simp at hl
theorem Tm{r:List Vl}(h:Pc.dY dF r=0):∀v∈r,de v=0:=by
 have h4:=oN h;unfold Pc.dY at h;rw[if_neg AJ,if_neg xM] at h;exact Ru 0 dF r h xM
theorem fh.ok(g:cQ t n)(h:fh t i):(rowAt t i).length=4/\(∀v∈rowAt t i,v.Ok/\de v=0):=by
 obtain⟨h0,h1,h2⟩:=h;rw[iS h1];obtain⟨g1,g2,_⟩:=g.row _ h1 h2;exact⟨oN g1,fun v E=>⟨g2 v E,Tm g1 v E⟩⟩
theorem rq(g:cQ t n)(w:List bf):∀i∈(ax t w).1,fh t i:=fun i hi=>by
 unfold ax at hi;split at hi
 ·cases hi
 have h1:=(Fu t w _ []).subset hi;rw[nil_append] at h1;obtain⟨x,hx,rfl⟩:=mem_map.1 h1;obtain⟨h2,h3,h4,_⟩:=g.gH x (Ft x hx);exact⟨h2,h3,h4⟩
theorem Fv(g:cQ t n)(w:List bf):(ax t w).1.Pairwise (wB t):=by
 unfold ax;split
 ·exact Pairwise.nil
 refine Pairwise.sublist (Fu t w _ []) ?_;rw[nil_append,pairwise_map];have hr:(py t.ix (je t.ay w).1.1 (je t.ay w).1.2).Pairwise fun x y=>bG x.1 y.1:=(acF g.ix.val _).sublist (takeWhile_sublist _);refine hr.imp_of_mem fun {x y} hx hy h=>?_;obtain⟨_,p1,_,p2⟩:=g.gH x (Ft x hx);obtain⟨_,q1,_,q2⟩:=g.gH y (Ft y hy);unfold wB;rw[iS p1,iS q1,<-p2,<-q2];exact h
theorem FR(g:cQ t n)(w:List bf):(ax t w).1.length<=40:=by
 have hp:=Fv g w;have fX:=rq g w;have hnd:((ax t w).1.map Int.toNat).Nodup:=by
  rw[Nodup,pairwise_map];refine hp.imp_of_mem fun {x y} hx hy h e=>?_;obtain⟨x0,_⟩:=fX x hx;obtain⟨y0,_⟩:=fX y hy;have:x=y:=(by omega)
  subst this;exact jS _ h
 have E:∀j∈(ax t w).1.map Int.toNat,j∈range t.rows.length:=fun j hj=>by
  obtain⟨x,hx,rfl⟩:=mem_map.1 hj;obtain⟨_,h1,_⟩:=fX x hx;exact mem_range.2 h1
 have:=hnd.length_le_of_subset E;rw[length_map,length_range] at this;exact Nat.le_trans this g.ec
variable {G:List (Nat×List Value)} {m:Int}

open Pa (bp aY)
theorem Wi:∀x y:K,-1<=Go.Lib.compareBytes x y/\Go.Lib.compareBytes x y<=1
 | [],[]=>⟨by decide,by decide⟩
 | [],_::_=>⟨(by show(-1:Int)<=-1;decide),(by show(-1:Int)<=1;decide)⟩
 | _::_,[]=>⟨(by show(-1:Int)<=1;decide),(by show(1:Int)<=1;decide)⟩
 | a::x,b::y=>by
  have:=Wi x y;rw[Ia];repeat' split
  all_goals first|exact this|omega
theorem aga(a b:Vl):-1<=jl a b/\jl a b<=1:=by
 have:=Wi a.s.data.toList b.s.data.toList;exact YC
def wD(t:az)(names:List ByteArray):List Int:=if names.length=0 then (range t.ay.length).map Int.ofNat else names.map (bE t.ay)
def s6(t:az)(s:bp):Int:=if (s.order.toList==(⟨#[]⟩:ByteArray).toList)=true then 0 else bE t.ay s.order
def Ah(Pe:Int)(l:List Int):List Int:=if 0<=Pe/\Pe<l.length then l.take Pe.toNat else l
def Ax(t:az)(ats:List Int)(i:Int):List Vl:=ats.map fun c=>(rowAt t i).getD c.toNat bQ
noncomputable def xu(t:az)(s:bp):List Int:=Ah s.iE (L0 t s.down (s6 t s).toNat (ax t s.aj).1)
noncomputable def oc(t:az)(s:bp):(List (List Vl)×Int)×Int :=
 if (s.names.any fun n=>decide (bE t.ay n<0))=true then (([],0),8)
 else if s6 t s<0 then (([],0),8)
 else if (ax t s.aj).2≠0 then (([],0),(ax t s.aj).2)
 else if s.count=true then (([[⟨2,(xu t s).length,⟨#[]⟩⟩]],(xu t s).length),0)
 else (((xu t s).map (Ax t (wD t s.names)),(xu t s).length),0)
def yS(p:(List (List Vl)×Int)×Int):D:=.da [.agg [ap 1 ev p.1.1,ae p.1.2],ae p.2]
theorem Ln{l:List cy}{nm:ByteArray}:-1<=bE l nm/\bE l nm<l.length:=by
 unfold bE dK;split
 ·rename_i i h;have:=(findIdx?_eq_some_iff_getElem.1 h).1;omega
 omega
theorem agb(t:az)(g:cQ t n)(s:bp)(o:Nat)(ho:o<4)(b2 I b3:Nat)(i k:Int)(hi:fh t i)(hk:fh t k):VC Tryz.prog G 92 ([ae i,ae k]++[cY b2,cY I,cY b3]) [⟨b2,68,5,cG t⟩,⟨I,3,1,[ae (o:Nat)]⟩,⟨b3,44,12,aY s⟩] (fun r S=>r=ae (mb t s.down o i k)/\S=[⟨b2,68,5,cG t⟩,⟨I,3,1,[ae (o:Nat)]⟩,⟨b3,44,12,aY s⟩]):=by
 refine VC.body func92 rfl ntmps92 aU fun X0 w0 bj=>?_;obtain⟨O,E,lP⟩:=hi;obtain⟨yn,cM,eD⟩:=hk;obtain⟨gi1,U⟩:=fh.ok g ⟨O,E,lP⟩;obtain⟨gk1,Z⟩:=fh.ok g ⟨yn,cM,eD⟩;rw[iS E] at gi1 U;rw[iS cM] at gk1 Z;have Pf:o<(t.rows[i.toNat]'E).length:=(by omega)
 have q8:o<(t.rows[k.toNat]'cM).length:=(by omega)
 have hci:cellAt t o i=(t.rows[i.toNat]'E)[o]:=(by unfold cellAt;rw[iS E,getD_eq_getElem?_getD,getElem?_eq_getElem Pf];rfl)
 have hck:cellAt t o k=(t.rows[k.toNat]'cM)[o]:=(by unfold cellAt;rw[iS cM,getD_eq_getElem?_getD,getElem?_eq_getElem q8];rfl)
 have fw:=aa1 (G:=G) (t.rows[i.toNat]'E)[o] (t.rows[k.toNat]'cM)[o] (U _ (getElem_mem Pf)).1 (Z _ (getElem_mem q8)).1;have hb0:mZ (t.rows[i.toNat]'E)[o] (t.rows[k.toNat]'cM)[o]=0:=(by unfold mZ;rw[if_neg (by simp[(U _ (getElem_mem Pf)).2]),(Z _ (getElem_mem q8)).2])
 unfold MC at fw;rw[hb0,if_neg w8] at fw;have HW:=aga (t.rows[i.toNat]'E)[o] (t.rows[k.toNat]'cM)[o];unfold cG aY;have aV:mb t s.down o i k=if s.down=true then -(jl (t.rows[i.toNat]'E)[o] (t.rows[k.toNat]'cM)[o]) else jl (t.rows[i.toNat]'E)[o] (t.rows[k.toNat]'cM)[o]:=by unfold mb;rw[hci,hck]
 refine af [0,1,2,3,4] ?_;refine cz [4,8] ?_;refine aR 3 ?_ (h:=by exact(dL 1 (h:=by first|exact .l (j:=i.toNat) (Int.toNat_of_nonneg O).symm E|exact .r (j:=i.toNat) (Int.toNat_of_nonneg O).symm E)));refine aR 7 ?_ (h:=by exact(dL 1 (h:=by first|exact .l (j:=k.toNat) (Int.toNat_of_nonneg yn).symm cM|exact .r (j:=k.toNat) (Int.toNat_of_nonneg yn).symm cM)));refine cf (fw) ?_;refine bA ?_;refine af [8,31] ?_;refine au ?_ ?_<;>intro aJ bz
 ·have hd:s.down=true:=aJ;refine cz [7] ?_;refine aR 1 ?_ (h:=by exact(Fe rfl ot (K2 (wrap_i64 w4 w4))));refine bA ?_;refine aK [_,_,_] ?_;first|(rw[aV,hd,if_pos rfl,<-Int.zero_sub];exact⟨rfl,rfl⟩)|(rw[aV,hd,if_neg w8];exact⟨rfl,rfl⟩)
 have hd:s.down=false:=aJ;refine af [7] ?_;refine aK [_,_,_] ?_;first|(rw[aV,hd,if_pos rfl,<-Int.zero_sub];exact⟨rfl,rfl⟩)|(rw[aV,hd,if_neg w8];exact⟨rfl,rfl⟩)
theorem agc(eI:D):VP Tryz.prog G 144 [cc,ae 0,ae 0,eI] (.da []):=by
 refine VC.body func144 rfl ntmps144 aU fun X0 w0 bj=>?_;refine af [0,1,2,3,8] ?_;refine ew [0,1,2,3] (fun aS _ (z:Nat) aE=>(True)/\aE=(⟨53,(8,ae (0+1))::aS,[]⟩:St)) (fun (z:Nat)=>0) 0 ⟨trivial,rfl⟩ ?_;rintro z _ ⟨_,rfl⟩;refine af [0,1,2,3,8,14] ?_;refine au ?_ ?_<;>intro aJ bz
 ·exact absurd aJ (by simp at aJ)
 exact nP
theorem abp(eI:D):VP Tryz.prog G 128 [cc,ae 0,eI] (.da []):=by
 refine VC.body func128 rfl ntmps128 aU fun X0 w0 bj=>?_;refine af [0,1,2,6] ?_;refine af [0,1,2,6,7,8] ?_;refine ew [0,1,2,6] (fun aS _ (z:Nat) aE=>(True)/\aE=(⟨63,(7,ae 0)::(8,ae 20)::aS,[]⟩:St)) (fun (z:Nat)=>0) 0 ⟨trivial,rfl⟩ ?_;rintro z _ ⟨_,rfl⟩;refine af [0,1,2,6,7,8,13] ?_;refine au ?_ ?_<;>intro aJ bz
 ·exact absurd aJ (by simp at aJ)
 refine cL [0,1,2,6] (agc eI) ?_;refine ew [0,1,2] (fun aS _ (z:Nat) aE=>(True)/\aE=(⟨63,(6,ae 20)::aS,[]⟩:St)) (fun (z:Nat)=>0) 0 ⟨trivial,rfl⟩ ?_;rintro z _ ⟨_,rfl⟩;refine af [0,1,2,6,30] ?_;refine au ?_ ?_<;>intro aX cr
 ·exact absurd aX (by simp at aX)
 exact nP
theorem aeL(eI:D):VP Tryz.prog G 91 [cc,eI] (.da []):=by
 refine VC.body func91 rfl ntmps91 aU fun X0 w0 bj=>?_;refine gl [] ?_;refine cf (abp eI) ?_;refine iz ?_;exact nP

end Go.Proofs.YtbplamgacibdaaaGreatDoor.Ba

namespace Go.Proofs.YtbplamgacibdaaaGreatDoor.Ba
open List
open Go.Proofs.Tryz
open Go.RowKit V Pk Go.Proofs.YtbplamgacibdaaaGreatDoor.Tr Go.Proofs.YtbplamgacibdaaaGreatDoor.Vl Go.Proofs.YtbplamgacibdaaaGreatDoor.Nm Go.Proofs.YtbplamgacibdaaaGreatDoor.Pc Go.Proofs.YtbplamgacibdaaaGreatDoor.Cd Go.Proofs.YtbplamgacibdaaaGreatDoor.Ex Go.Proofs.YtbplamgacibdaaaGreatDoor.Tw
open Pa (bp aY)
variable {j sz:Nat} {ds:List D}
section mid
variable {P:Program} {G:List (Nat×List Value)} {x:St} {o:Oper} {t b off:Nat} {y:Operand} {B:ah} {pre c post:List D} {d:D}
theorem ahE(hp:pre.length=off)(hj:c[j]?=some d):(pre++(c++post))[off+j]?=some d:=by
 subst hp;rw[getElem?_append_right w4,Nat.add_sub_cancel_left,getElem?_append_left (List.getElem?_eq_some_iff.1 hj).1];exact hj
theorem Tn{m:List D}(hp:pre.length=off)(hm:qt j c m)(hd:mN sz m ds):((pre++(c++post)).drop (off+j)).take sz=ds:=by
 subst hp;obtain⟨h1,h2⟩:=hd.eq;have h3:=hm.eq;have hl:j+sz<=c.length\/sz=0:=by
  have:=congrArg length h1;rw[length_take,h2,<-h3,length_drop] at this;omega
 rw[<-drop_drop,drop_left' rfl];rcases hl with hl|rfl
 ·rw[drop_append_of_le_length w4,h3,take_append_of_le_length (by rw[<-h3,length_drop];omega)];exact h1
 rw[List.take_zero];rw[List.take_zero] at h1;exact h1
theorem BY{E:List D}(hp:pre.length=off)(hl:j+ds.length<=c.length)(hc:dh c j ds=E):dh (pre++(c++post)) (off+j) ds=pre++(E++post):=by
 subst hp hc;rw[uZ _ _ _ hl,uZ _ _ _ (by simp only[length_append];omega)];rw[take_append,take_of_length_le w4,Nat.add_sub_cancel_left,take_append_of_le_length w4,Nat.add_assoc,<-drop_drop (l:=pre++(c++post)),drop_left' rfl,drop_append_of_le_length w4];simp only[append_assoc]
theorem ph(k:Nat)(ho:o.op = .load t y:=by exact rfl)(hy:aG x y = .v (.pointer (some ⟨b,off+j,none⟩)):=by exact ot)(ha:qW P t false=true:=by kernel_rfl)(hk:x.S[k]?=some B:=by exact rfl)(hb:B.b=b:=by exact rfl)(dy:B.cs=pre++(c++post):=by exact rfl)(hp:pre.length=off:=by assumption)(hj:c[j]?=some d:=by exact rfl)(hne:isMap B.e=false:=by exact rfl):bX P G x o (.fJ k) d :=
 EF (hne:=hne) ho hy hk hb (iU ha) (by rw[dy];exact ahE hp hj)
theorem x7(k:Nat){m:List D}(ho:o.op = .load t y:=by exact rfl)(hy:aG x y = .v (.pointer (some ⟨b,off+j,none⟩)):=by exact ot)(hn:qV P t sz=true:=by exact Sz.h)(ha:qW P t true=true:=by kernel_rfl)(hk:x.S[k]?=some B:=by exact rfl)(hb:B.b=b:=by exact rfl)(dy:B.cs=pre++(c++post):=by exact rfl)(hp:pre.length=off:=by assumption)(hm:qt j c m:=by exact qH)(hd:mN sz m ds:=by exact nF)(hne:isMap B.e=false:=by exact rfl):bX P G x o (.fJ k) (.agg ds) :=
 Bi (hne:=hne) ho hy hk hb (iU ha) (lZ hn) hd.eq.2 (by rw[dy];exact Tn hp hm hd)
theorem M2(k:Nat)(ho:o.op = .load t y:=by exact rfl)(hy:aG x y = .v (.pointer (some ⟨b,off,none⟩)):=by exact ot)(hn:qV P t sz=true:=by exact Sz.h)(ha:qW P t true=true:=by kernel_rfl)(hk:x.S[k]?=some B:=by exact rfl)(hb:B.b=b:=by exact rfl)(dy:B.cs=pre++(c++post):=by exact rfl)(hp:pre.length=off:=by assumption)(hd:mN sz c ds:=by exact nF)(hne:isMap B.e=false:=by exact rfl):bX P G x o (.fJ k) (.agg ds) :=
 Bi (hne:=hne) ho hy hk hb (iU ha) (lZ hn) hd.eq.2 (by rw[dy];exact Tn (j:=0) hp .z hd)
end mid
variable {G:List (Nat×List Value)} {m:Int}
noncomputable def fu(t:az)(row:List Vl):az×Int :=
 if Pc.dY t.ay row≠0 then (t,Pc.dY t.ay row) else if gS t.ix (cg row) (c9 t.ix)=true then (t,9) else if t.rows.length=40 then (t,10)
 else ({t with rows:=t.rows++[row],ix:=gF t.ix (c9 t.ix) (cg row) t.rows.length},0)
def tC(t:az)(ad:Option Addr)(cap:Nat):List D:=[bg t.nm,ap 2 cC t.ay,aT ad t.rows.length cap,ap 5 cP t.ix.ag,ae t.ix.root]
abbrev vP(t:az)(ad:Option Addr)(cap:Nat)(S:List ah):Prop:=bn 40 1 (t.rows.flatMap ev) t.rows.length ad cap S
theorem vn{r:List Vl}(h:Pc.dY dF r=0):1<=(cg r).length/\(cg r).length<=100:=by
 refine⟨?_,UJ _⟩;have h4:=oN h;have hz:=Tm h;match r,h4 with
 | [a,b,c,d],_ =>
  have ha:de a=0:=hz a mem_cons_self;unfold cg gg;rw[if_neg bq,if_neg (by simp[sV,ha])];have hl:(fW [a]).length<=43:=(by have:=Fk (l:=[a]) (fun v E=>by rw[mem_singleton] at E;rw[E];exact ha);simpa using this)
  rw[if_neg (by show ¬(fW [a]).length>100;omega)];show 1<=(fW [a]).length;unfold fW Cd.vE;simp

theorem abq:(Tryz.prog.info? 40).map (fun i=>(i.zero,i.size,i.bytes))=some (some (.slice none 0 0),1,24):=by kernel_rfl

theorem Ji(hm:(3,marksC)∈G)(hw:(1,wordsC)∈G)(ht:(0,typesC)∈G)(hG:(2,[Value.int .i64 m])∈G)(t:az){n:Nat}(g:cQ t n)(hn:n<=300)(row:List Vl)(gN:row.length<=1000)(aW:∀v∈row,v.Ok)(bt off I:Nat)(pre post:List D)(hp:pre.length=off)(ad:Option Addr)(cap:Nat)(Sr:List ah)(eW:vP t ad cap Sr):VC Tryz.prog G 45 [.v (.pointer (some ⟨bt,off,none⟩)),ap 3 cV row] (⟨bt,68,I,pre++(tC t ad cap++post)⟩::Sr) (fun r S=>r=ae (fu t row).2/\((fu t row).2=0->∃Z E wE,vP (fu t row).1 Z E wE/\S=⟨bt,68,I,pre++(tC (fu t row).1 Z E++post)⟩::wE)):=by
 refine VC.body func45 rfl ntmps45 aU fun X0 w0 bj=>?_;have hko:=fun h=>vn (r:=row) h;have yT:=K8 (G:=G) hm hw ht t.ay yg yf row (Nat.le_trans gN w8);have cR:=dI;have jg:=g.ec;unfold tC;refine af [0,1] ?_;refine cz [0,1,5] ?_;refine aR 3 ?_ (h:=by exact(ph 0));refine cf (yT) ?_;refine bA ?_;refine af [0,1,5,17] ?_;refine au ?_ ?_<;>intro aJ bz
 ·have hne:Pc.dY t.ay row≠0:=(by simpa using aJ)
  have aV:fu t row=(t,Pc.dY t.ay row):=if_pos hne;refine af [4] ?_;refine aK [] ?_;rw[aV];exact⟨rfl,fun h=>absurd h hne⟩
 have hz:Pc.dY t.ay row=0:=(by simpa using aJ)
 have DD:Pc.dY dF row=0:=(by rw[<-g.ay];exact hz)
 have eo:=hko DD;have hr4:=oN DD;have O:=xz (G:=G) hG row w4 w4 aW;refine CD.skip ?_;refine CD.seq ?_;refine CD.seq ?_;rcases gG:gS t.ix (cg row) (c9 t.ix) with _|_
 ·have eY:=Lh (G:=G) g.ix (cg row);rw[afZ g.ix eo gG] at eY;unfold Tw.cT at eY;have U:=JT (G:=G) g.ix (cg row) (t.rows.length:Int);rw[Lg g.ix hn eo w4 gG] at U;unfold Tw.cT at U;refine gl [0,1,7] ?_;refine aR 3 ?_ (h:=by exact(x7 0));refine cf (O) ?_;refine cf (eY) ?_;refine bA ?_;refine af [0,1,30] ?_;refine au ?_ ?_<;>intro aX cr
  ·exact absurd aX (by simp at aX)
  refine cz [0,1,36] ?_;refine aR 3 ?_ (h:=by exact(ph 0));refine bA ?_;refine au ?_ ?_<;>intro bL cJ
  ·have aV:fu t row=(t,10):=(by unfold fu;rw[if_neg (by simp[hz]),if_neg yh,if_pos w4])
   refine af [4] ?_;refine aK [] ?_;rw[aV];exact⟨rfl,fun h=>absurd (show(10:Int)=0 from h) w8⟩
  have aV:fu t row=({t with rows:=t.rows++[row],ix:=gF t.ix (c9 t.ix) (cg row) t.rows.length},0):=(by unfold fu;rw[if_neg (by simp[hz]),if_neg yh,if_neg w4])
  refine CD.skip ?_;refine CD.seq ?_;refine qR 16 15 [0,1,8,50,51] ?_;refine aR 3 ?_ (h:=by exact(x7 0));refine cf (O) ?_;refine aR 3 ?_ (h:=by exact(ph 0));refine cf (U) ?_;refine kK 3 ?_;refine mo ?_;refine iz ?_;refine⟨rfl,fun b8=>?_⟩;refine aP 0 [_,_] sizeOf66 ?_;refine an 70 [0,1,8,9] ?_;refine af [0,1,8,9,53] ?_;refine au ?_ ?_<;>intro cN en
  ·exact absurd cN (by simp at cN)
  refine aB 4 ?_;refine OD.storeAt (k:=1) (cs':=pre++([bg t.nm,ap 2 cC t.ay,aT ad t.rows.length cap,.list 5 ((gF t.ix (c9 t.ix) (cg row) t.rows.length).ag.flatMap cP) (gF t.ix (c9 t.ix) (cg row) t.rows.length).ag.length,ae (gF t.ix (c9 t.ix) (cg row) t.rows.length).root]++post)) aq rfl rfl ot rfl rfl ot rfl rfl sizeOf66 rfl (by show off+3+2<=(pre++(([bg t.nm,ap 2 cC t.ay,aT ad t.rows.length cap,ap 5 cP t.ix.ag,ae t.ix.root]:List D)++post)).length;simp only[length_append,length_cons,length_nil];omega) (by exact BY (j:=3) hp aU rfl) ?_;refine an 70 [0,1] ?_;refine CD.seq ?_;refine gP 9 (av (take 2 _)) ?_ (fun _ h=>(Sublist.map _ (take_sublist _ _)).subset h);refine aD 0 rfl bD ?_;refine aD 1 rfl bD ?_;refine aD 2 rfl qg ?_;refine aD 3 rfl (dQ 2) ?_;refine aD 4 rfl (ph 1) ?_;refine aD 5 rfl bD ?_;refine dM.later rfl ?_;refine AD.one (i:=6) aC ?_;refine qm call30 (IY row w4) ?_;refine AD.one (i:=7) aC ?_;refine nq (cu 0 [_]) [.slice none 0 0] [_] zeroValue40 runUnderlying33 sizeOf40 (fun pL=>?_);refine nQ 0 66 1 1 ?_;refine AD.one (i:=8) aC ?_;refine bC.eG (ls:=t.rows) (new:=[row]) (Sq:=Sr) js RA rfl aq rfl rfl underlying33 abq rfl w8 ot eW (cZ (A:=[_,_])) ot bq me mg (fun qQ rJ GG GH=>?_);refine AD.perm (dU (S1:=[⟨qQ,40,rJ*1,flatMap ev (t.rows++[row])⟩]) (A:=[_,_])) ?_;refine fm ?_;refine aH 2 ?_
  refine OD.storeAt (k:=1) (cs':=pre++((([bg t.nm,ap 2 cC t.ay,aT ad t.rows.length cap,.list 5 ((gF t.ix (c9 t.ix) (cg row) t.rows.length).ag.flatMap cP) (gF t.ix (c9 t.ix) (cg row) t.rows.length).ag.length,ae (gF t.ix (c9 t.ix) (cg row) t.rows.length).root]:List D)).set 2 (aT (some ⟨qQ,0,none⟩) ((t.rows++[row])).length rJ)++post)) aq rfl rfl ot rfl rfl ot rfl rfl sizeOf33 rfl (by show off+2+1<=(pre++(([bg t.nm,ap 2 cC t.ay,aT ad t.rows.length cap,.list 5 ((gF t.ix (c9 t.ix) (cg row) t.rows.length).ag.flatMap cP) (gF t.ix (c9 t.ix) (cg row) t.rows.length).ag.length,ae (gF t.ix (c9 t.ix) (cg row) t.rows.length).root]:List D)++post)).length;simp only[length_append,length_cons,length_nil];omega) (by exact BY (j:=2) hp aU rfl) ?_;refine an 70 [] ?_;refine af [4] ?_;refine aK (⟨bt,68,I,pre++(_++post)⟩::[⟨qQ,40,rJ*1,flatMap ev (t.rows++[row])⟩]) ?_;rw[aV];exact⟨rfl,fun _=>⟨(some ⟨qQ,0,none⟩),rJ,[⟨qQ,40,rJ*1,flatMap ev (t.rows++[row])⟩],(bJ GG GH),rfl⟩⟩
 obtain⟨rw0,alF⟩:=(Bs g.ix (cg row)).1 gG;have eY:=Lh (G:=G) g.ix (cg row);rw[Te g.ix eo alF] at eY;unfold Tw.cT at eY;have aV:fu t row=(t,9):=(by unfold fu;rw[if_neg (by simp[hz]),if_pos gG])
 refine gl [0,1,7] ?_;refine aR 3 ?_ (h:=by exact(x7 0));refine cf (O) ?_;refine cf (eY) ?_;refine bA ?_;refine af [0,1,30] ?_;refine au ?_ ?_<;>intro aX cr
 ·refine af [4] ?_;refine aK [] ?_;rw[aV];exact⟨rfl,fun h=>absurd (show(9:Int)=0 from h) w8⟩
 exact absurd aX (by simp at aX)

end Go.Proofs.YtbplamgacibdaaaGreatDoor.Ba

namespace Go.Proofs.YtbplamgacibdaaaGreatDoor.Ba
open List
open Go.Proofs.Tryz
open Go.RowKit V Pk Tr Vl Go.Proofs.YtbplamgacibdaaaGreatDoor.Nm Pc Cd Ex Tw
open Pa (bp aY)
variable {G:List (Nat×List Value)} {m:Int}
variable {t:az} {n:Nat} {i:Int}
theorem BN{t:aF}(g:iJ t n){x y:K×Int}(hx:x∈dg t)(hy:y∈dg t)(h:x.1=y.1):x=y:=by
 have hr:(dg t).Pairwise (fun a b=>bG a.1 b.1):=y7 g.val;obtain⟨i,hi,rfl⟩:=mem_iff_getElem.1 hx;obtain⟨j,hj,rfl⟩:=mem_iff_getElem.1 hy;have hp:=pairwise_iff_getElem.1 hr;rcases Nat.lt_trichotomy i j with q|q|q
 ·have:=hp i j hi hj q;rw[h] at this;exact absurd this (jS _)
 ·subst q;rfl
 have:=hp j i hj hi q;rw[h] at this;exact absurd this (jS _)
theorem fh.gH(g:cQ t n)(h:fh t i):(cg (rowAt t i),i)∈dg t.ix:=by
 obtain⟨h0,h1,h2⟩:=h;have:=(g.row _ h1 h2).2.2;rw[iS h1];rwa [Int.toNat_of_nonneg h0] at this
noncomputable def mc(t:az)(i:Int):az:={t with rows:=t.rows.set i.toNat [],ix:=gY t.ix (c9 t.ix) (cg (rowAt t i))}
noncomputable def kw:az->List Int->az
 | t,[]=>t
 | t,i::r=>kw (mc t i) r
noncomputable def iT(t:az)(w:List bf):az×Int×Int:=if (ax t w).2≠0 then (t,0,(ax t w).2) else (kw t (ax t w).1,(ax t w).1.length,0)
theorem Vc(g:cQ t n)(h:fh t i):iJ (gY t.ix (c9 t.ix) (cg (rowAt t i))) n/\∀x,x∈dg (gY t.ix (c9 t.ix) (cg (rowAt t i)))↔x∈dg t.ix/\x.1≠cg (rowAt t i) :=
 JS g.ix ((Br g.ix.val _).2 ⟨i,h.gH g⟩)
theorem E6(g:cQ t n)(h:fh t i):cQ (mc t i) n:=by
 obtain⟨d1,d2⟩:=Vc g h;have fX:=h.gH g;obtain⟨h0,h1,h2⟩:=h;refine⟨g.nm,g.ay,by show(t.rows.set _ _).length<=40;rw[length_set];exact g.ec,d1,fun j hj hne=>?_,fun x hx=>?_⟩
 ·simp only[mc] at hj hne |-
  (first|rw[length_set] at hj|(unfold ap at hj;rw[length_set] at hj))
  rw[getElem_set] at hne;split at hne
  ·exact absurd rfl hne
  rename_i E;have he:(t.rows.set i.toNat [])[j]'vX=t.rows[j]:=getElem_set_ne E _;rw[he];obtain⟨p1,p2,p3⟩:=g.row j hj hne;refine⟨p1,p2,(d2 _).2 ⟨p3,fun e=>?_⟩⟩;have:=BN g.ix p3 fX e;simp only[Prod.mk.injEq] at this;omega
 obtain⟨x1,I⟩:=(d2 x).1 hx;obtain⟨p0,p1,p2,p3⟩:=g.gH x x1;have E:i.toNat≠x.2.toNat:=fun e=>by
  refine I ?_;rw[p3,iS h1];congr 1;simp only[e]
 refine⟨p0,by show _<(t.rows.set _ _).length;rw[length_set];exact p1,?_⟩;have he:(t.rows.set i.toNat [])[x.2.toNat]'(by rw[length_set];exact p1)=t.rows[x.2.toNat]:=getElem_set_ne E _;show(t.rows.set i.toNat [])[x.2.toNat]'(by rw[length_set];exact p1)≠[]/\x.1=cg ((t.rows.set i.toNat [])[x.2.toNat]'(by rw[length_set];exact p1));rw[he];exact⟨p2,p3⟩
theorem FT{j:Int}(h:fh t j)(E:j≠i)(hi:0<=i):fh (mc t i) j:=by
 obtain⟨h0,h1,h2⟩:=h;refine⟨h0,by show _<(t.rows.set _ _).length;rw[length_set];exact h1,?_⟩;show(t.rows.set i.toNat [])[j.toNat]'(by rw[length_set];exact h1)≠[];have e:=getElem_set_ne (l:=t.rows) (i:=i.toNat) (j:=j.toNat) (a:=[]) w4 (by rw[length_set];exact h1);rw[e];exact h2
theorem wN(g:cQ t n)(w:List bf):(ax t w).1.Nodup:=(Fv g w).imp fun h e=>by rw[e] at h;exact jS _ h
theorem acU(hm:(3,marksC)∈G)(hw:(1,wordsC)∈G)(ht:(0,typesC)∈G)(hG:(2,[Value.int .i64 m])∈G)(t:az)(g:cQ t n)(s:bp)(ho:∀o∈s.aj,o.nm.size<=maxLen)(fY:∀o∈s.aj,o.v.Ok)(bt off U:Nat)(pre post:List D)(hp:pre.length=off)(ad:Option Addr)(cap:Nat)(Sr:List ah)(eW:vP t ad cap Sr):VC Tryz.prog G 48 [.v (.pointer (some ⟨bt,off,none⟩)),.agg (aY s)] (⟨bt,68,U,pre++(tC t ad cap++post)⟩::Sr) (fun r S=>r = .da [ae (iT t s.aj).2.1,ae (iT t s.aj).2.2]/\((iT t s.aj).2.2=0->∃qq kU wE,vP (iT t s.aj).1 qq kU wE/\S=⟨bt,68,U,pre++(tC (iT t s.aj).1 qq kU++post)⟩::wE)):=by
 refine VC.body func48 rfl ntmps48 aU fun X0 w0 bj=>?_;have cR:=dI;have jg:=g.ec;have Es:=FR g s.aj;have wA:=rq g s.aj;have hnd:=wN g s.aj;unfold tC;unfold aY;refine bS ?_;refine OD.box (ds:=[_,_,_,_,_,_,_,_,_,_,_,_]) aq rfl rfl ot rfl rfl (fun b3=>?_);refine an 56 [0,3] ?_;refine CD.seq ?_;refine gP 9 (av (take 2 _)) ?_ (fun _ h=>(Sublist.map _ (take_sublist _ _)).subset h);refine aD 0 rfl bD ?_;refine aD 1 rfl qg ?_;refine aD 2 rfl (M2 1) ?_;refine aD 3 rfl (dQ 6) ?_;refine aD 4 rfl (dS 0) ?_;refine dM.later rfl ?_;refine AD.one (i:=5) aC ?_;refine bC.LI rfl aq rfl rfl rfl call90 (Lm hm hw ht hG t g s.aj ho fY) (fun r S h=>h.flat) ⟨⟨_,ot,(vc ⟨ff,ff,lU eW (cm js _) (fun B hB=>by simp[hB]),ff,ff,trivial⟩:View _ (.agg [bg t.nm,ap 2 cC t.ay,aT ad t.rows.length cap,ap 5 cP t.ix.ag,ae t.ix.root]) (.agg (cG t)))⟩,⟨_,ot,ff⟩,trivial⟩ ?_;rintro _ Sx ⟨dj,cU,rfl,dP⟩;refine AD.perm (kG (A:=[_,_])) ?_;refine dm 6 rfl bD ?_;refine dm 7 rfl Oa ?_;refine dm 8 rfl Oa ?_;refine fm ?_;refine bu [0,6,7] ?_;refine af [0,6,7,20] ?_;refine au ?_ ?_<;>intro aJ bz
 ·have hne:(ax t s.aj).2≠0:=(by simpa using aJ)
  have aV:iT t s.aj=(t,0,(ax t s.aj).2):=if_pos hne;refine af [4,5] ?_;refine aK [] ?_;rw[aV];exact⟨rfl,fun h=>absurd h hne⟩
 have hz:(ax t s.aj).2=0:=(by simpa using aJ)
 have aV:iT t s.aj=(kw t (ax t s.aj).1,((ax t s.aj).1.length:Int),0):=if_neg (fun h=>h hz);refine CD.skip ?_;refine CD.seq ?_;refine CD.seq ?_;refine CD.gK (t:=6) (Sq:=Sx) lk dP (cm Tw.eC _) (pp (A:=[_,_])) ?_;refine tE ?_;refine bu [0,6,22,23,24] ?_;refine ew [0,6,22,23] (fun aS _ (aO:Nat×az×Option Addr×Nat×List ah) aE=>match aO with|(k,u,O,E,I)=>(k<=(ax t s.aj).1.length)/\(kw u ((ax t s.aj).1.drop k)=kw t (ax t s.aj).1)/\(cQ u n)/\(∀i∈(ax t s.aj).1.drop k,fh u i)/\(vP u O E I)/\aE=(⟨56,(24,ae (k:Nat))::aS,(⟨b3,44,12,aY s⟩::⟨bt,68,U,pre++([bg u.nm,ap 2 cC u.ay,aT O u.rows.length E,ap 5 cP u.ix.ag,ae u.ix.root]++post)⟩::I)⟩:St)) (fun (aO:Nat×az×Option Addr×Nat×List ah)=>match aO with|(k,u,O,E,I)=>(ax t s.aj).1.length-k) (0,t,ad,cap,Sr) ⟨(Nat.zero_le _),rfl,g,wA,eW,rfl⟩ ?_;rintro⟨k,u,O,E,I⟩ _ ⟨hk,XA,gu,fX,wF,rfl⟩;refine af [0,6,22,23,24,25] ?_;refine au ?_ ?_<;>intro aX cr
 ·have aa:k<(ax t s.aj).1.length:=(by omega)
  have jM:(ax t s.aj).1.drop k=((ax t s.aj).1[k]'aa)::(ax t s.aj).1.drop (k+1):=drop_eq_getElem_cons aa;have Z:fh u ((ax t s.aj).1[k]'aa):=fX _ (by rw[jM];exact mem_cons_self);obtain⟨iu,eT,oA⟩:=id Z;obtain⟨br,rfl,rZ,qs,rfl⟩:=wF.pos w4;have gu2:=E6 gu Z;have gC:(mc u ((ax t s.aj).1[k]'aa)).rows.length=u.rows.length:=length_set;have aiX:kw (mc u ((ax t s.aj).1[k]'aa)) ((ax t s.aj).1.drop (k+1))=kw t (ax t s.aj).1:=(by rw[<-XA,jM];rfl)
  have MR:∀i∈(ax t s.aj).1.drop (k+1),fh (mc u ((ax t s.aj).1[k]'aa)) i:=fun i hi=>FT (fX i (by rw[jM];exact mem_cons_of_mem _ hi)) (fun e=>by subst e;have h9:=hnd.sublist (drop_sublist k _);rw[jM,nodup_cons] at h9;exact h9.1 hi) iu;have Da:vP (mc u ((ax t s.aj).1[k]'aa)) (some ⟨br,0,none⟩) E [⟨br,40,E*1,(mc u ((ax t s.aj).1[k]'aa)).rows.flatMap ev⟩]:=bJ (by show(u.rows.set _ _).length<=_;rw[length_set];exact rZ) qs;obtain⟨ZL,Et⟩:=fh.ok gu Z;have tM:=xz (G:=G) hG (u.rows[((ax t s.aj).1[k]'aa).toNat]) (by rw[<-iS eT];omega) (by rw[<-iS eT];omega) (fun v hv=>(Et v (by rw[iS eT];exact hv)).1);rw[show cg (u.rows[((ax t s.aj).1[k]'aa).toNat])=cg (rowAt u ((ax t s.aj).1[k]'aa)) from by rw[iS eT]] at tM;have yU:=Tf (G:=G) gu.ix (cg (rowAt u ((ax t s.aj).1[k]'aa)));rw[UE gu.ix (vn (by rw[iS eT];exact(gu.row _ eT oA).1)) ((Bs gu.ix _).2 ⟨_,Z.gH gu⟩)] at yU;unfold Tw.cT at yU;have ap4:=gu.ec;refine af [0,6,9,22,23,24] ?_;refine CD.seq ?_;refine nk 17 [0,6,9,22,23,24,29,43] ?_;refine aR 4 ?_ (h:=by exact(x7 1));refine aR 3 ?_ (h:=by exact(ph 1));refine aR 1 ?_ (h:=Nj);refine aR 0 ?_ (h:=by exact(dz (mk:=Op.load 40) rfl ot (jj (k:=2) (i:=((ax t s.aj).1[k]'aa).toNat) (ls:=u.rows) js rfl rfl rfl isAgg40 eT rfl)));refine cf (tM) ?_;refine cf (yU) ?_
  refine bA ?_;refine aH 2 ?_;refine OD.storeAt (k:=1) (cs':=pre++([bg u.nm,ap 2 cC u.ay,aT (some ⟨br,0,none⟩) (mc u ((ax t s.aj).1[k]'aa)).rows.length E,.list 5 ((mc u ((ax t s.aj).1[k]'aa)).ix.ag.flatMap cP) (mc u ((ax t s.aj).1[k]'aa)).ix.ag.length,ae (mc u ((ax t s.aj).1[k]'aa)).ix.root]++post)) aq rfl rfl ot rfl rfl ot rfl rfl sizeOf66 rfl (by show off+3+2<=(pre++(([bg u.nm,ap 2 cC u.ay,aT (some ⟨br,0,none⟩) u.rows.length E,ap 5 cP u.ix.ag,ae u.ix.root]:List D)++post)).length;simp only[length_append,length_cons,length_nil];omega) (by exact BY (j:=3) hp aU (by rw[gC];rfl)) ?_;refine an 56 [0,6,9,22,23,24] ?_;refine dw 3 ?_;refine bN (ph 1) ?_;refine aH 1 ?_;refine bN (dL 1 (h:=by first|exact .l (j:=((ax t s.aj).1[k]'aa).toNat) (Int.toNat_of_nonneg iu).symm (by rw[gC];exact eT)|exact .r (j:=((ax t s.aj).1[k]'aa).toNat) (Int.toNat_of_nonneg iu).symm (by rw[gC];exact eT))) ?_;refine OD.storeAt (k:=2) (cs':=(u.rows.flatMap ev).set ((ax t s.aj).1[k]'aa).toNat (cc)) aq rfl rfl ot rfl rfl bV rfl rfl sizeOf40 rfl (by show 0+((ax t s.aj).1[k]'aa).toNat*1+1<=(u.rows.flatMap ev).length;rw[cm js];omega) (by show(u.rows.flatMap ev).set (0+((ax t s.aj).1[k]'aa).toNat*1) _=_;rw[Nat.zero_add,Nat.mul_one]) ?_
  refine OD.cells (k:=2) (cs':=(mc u ((ax t s.aj).1[k]'aa)).rows.flatMap ev) (S':=[_,_,_]) rfl (by have:=Kj (fP (sz:=3)) (u.rows.flatMap ev) ((ax t s.aj).1[k]'aa).toNat;rw[show(u.rows.flatMap ev).set ((ax t s.aj).1[k]'aa).toNat (.list 3 [] 0)=(u.rows.set ((ax t s.aj).1[k]'aa).toNat []).flatMap ev from by have:=nX js u.rows [] eT;rw[Nat.mul_one] at this;exact this] at this;exact this) rfl ?_;refine an 56 [0,6,22,23,24] ?_;refine bM [0,6,22,23,24] ?_;refine⟨((k+1),(mc u ((ax t s.aj).1[k]'aa)),(some ⟨br,0,none⟩),E,[⟨br,40,E*1,(mc u ((ax t s.aj).1[k]'aa)).rows.flatMap ev⟩]),_,cn,aI,w4,aiX,gu2,MR,Da,rfl⟩
 have j6:u=kw t (ax t s.aj).1:=(by rw[<-XA,drop_of_length_le w4];rfl)
 subst j6;refine af [4,5] ?_;refine aK (⟨bt,68,U,pre++(_++post)⟩::I) ?_;rw[aV];exact⟨rfl,fun _=>⟨O,E,I,wF,rfl⟩⟩

end Go.Proofs.YtbplamgacibdaaaGreatDoor.Ba
namespace Go.Proofs.YtbplamgacibdaaaGreatDoor.Ba
open List
open Go.Proofs.Tryz
open Go.RowKit V Pk Tr Vl Go.Proofs.YtbplamgacibdaaaGreatDoor.Nm Pc Cd Ex Tw
open Pa (bp aY)
variable {ops:List bf} {row:List Vl}
theorem JW:∀(i:Nat) (cs:List cy) (vs:List Vl),cs.length=vs.length->(Pc.pA i cs vs=0↔∀j (h1:j<cs.length) (h2:j<vs.length),Pc.l8 (i+j) cs[j] vs[j]=0)
 | _,[],[],_=>⟨fun _ j h1=>absurd h1 (Nat.not_lt_zero j),fun _=>rfl⟩
 | _,[],_::_,h=>by cases h
 | _,_::_,[],h=>by cases h
 | i,c::cs,v::vs,h=>by
  rw[Pc.pA];have ih:=JW (i+1) cs vs (Nat.succ.inj h);by_cases he:Pc.l8 i c v=0
  ·rw[if_neg (fun h=>h he),ih];constructor
   ·intro k j h1 h2;cases j with
    | zero=>exact he
    | succ j=>have:=k j (Nat.lt_of_succ_lt_succ h1) (Nat.lt_of_succ_lt_succ h2);rw[show i+(j+1)=i+1+j by omega];exact this
   intro k j h1 h2;have:=k (j+1) (Nat.succ_lt_succ h1) (Nat.succ_lt_succ h2);rw[show i+(j+1)=i+1+j by omega] at this;exact this
  rw[if_pos he];exact⟨fun h=>absurd h he,fun k=>absurd (k 0 (Nat.succ_pos _) (Nat.succ_pos _)) he⟩
theorem KN{r:List Vl}:Pc.dY dF r=0↔r.length=4/\∀j (h1:j<dF.length) (h2:j<r.length),Pc.l8 j dF[j] r[j]=0:=by
 constructor
 ·intro h;have h4:=oN h;unfold Pc.dY at h;rw[if_neg AJ,if_neg xM,JW 0 dF r (by rw[h4];rfl)] at h;refine⟨h4,fun j h1 h2=>?_⟩;have:=h j h1 h2;rwa [Nat.zero_add] at this
 intro ⟨h4,h⟩;unfold Pc.dY;rw[if_neg AJ,if_neg xM,JW 0 dF r (by rw[h4];rfl)];intro j h1 h2;rw[Nat.zero_add];exact h j h1 h2
theorem agd{i:Nat}{c:cy}{v:Vl}(h:Pc.l8 i c v=0):ko c.k v:=by
 unfold Pc.l8 at h;by_cases h1:de v=0
 ·rw[if_neg (fun e=>e h1)] at h;by_cases h2:v.k≠c.k/\(i=0\/v.k≠0)
  ·rw[if_pos h2] at h;cases h
  exact⟨h1,by omega⟩
 exact CB
theorem age{r:List Vl}(h:Pc.dY dF r=0):Gq dF r:=fun i=>by
 obtain⟨h4,hf⟩:=KN.1 h;have hc:dF.length=4:=rfl;rw[getD_eq_getElem?_getD,getD_eq_getElem?_getD];by_cases hi:i<4
 ·rw[getElem?_eq_getElem w4,getElem?_eq_getElem w4];exact agd (hf i w4 w4)
 rw[getElem?_eq_none w4,getElem?_eq_none w4];exact B7
theorem UR{r:List Vl}(h:Pc.dY dF r=0){c:Nat}(hc:c<dF.length){v:Vl}(E:ko dF[c].k v)(h0:c=0->v.k≠0):Pc.dY dF (r.set c v)=0:=by
 obtain⟨h4,hf⟩:=KN.1 h;refine KN.2 ⟨by rw[length_set];exact h4,fun j h1 h2=>?_⟩
 (first|rw[length_set] at h2|(unfold ap at h2;rw[length_set] at h2))
 rw[getElem_set];split
 ·rename_i e;subst e;unfold Pc.l8;rw[if_neg (fun e=>e E.1),if_neg (fun e=>?_)];have:=E.2;have:=e.2;have:=e.1;by_cases I:c=0
  ·have:=h0 I;omega
  omega
 exact hf j h1 h2
theorem Fw:∀(ops:List bf) (h:Int),fR h ops=0->∀o∈ops,∃h',gD h' o=0
 | [],_,_,o,ho=>by cases ho
 | x::r,h,hx,o,ho=>by
  rw[fR] at hx;by_cases he:gD h x=0
  ·rw[if_pos he] at hx;rcases mem_cons.1 ho with rfl|ho
   ·exact⟨_,he⟩
   exact Fw r _ hx o ho
  rw[if_neg he] at hx;exact absurd hx he
theorem acV{l:List cy}(lB:∀o∈ops,o.nm.size<=maxLen)(fY:∀o∈ops,o.v.Ok)(hk:(eu l ops).2=0):∀o∈ops,zU l o:=fun o ho=>by
 obtain⟨_,hx,he⟩:=FJ hk;obtain⟨h',h1⟩:=Fw ops 0 (xn hx).2 o ho;obtain⟨_,h2,h3,_⟩:=wX h1;exact⟨lB o ho,fY o ho,E1 h3,h2.1,h2.2,Q0 (by rw[he] at hk;exact hk) o ho⟩
theorem To{l:List cy}{row:List Vl}(hr:∀v∈row,v.Ok):∀(ops:List bf),(∀o∈ops,o.v.Ok)->∀st:List Vl,(∀v∈st,v.Ok)->(jX bQ (gv l row) ops st).1.Ok
 | [],_,st,eU=>Ku eU 0
 | o::r,hg,st,eU=>by
  have I:(gv l row o (fp bQ o.k st) (fq bQ o.k st)).1.Ok:=Up hr (hg o mem_cons_self) (Kv eU _) (Kw eU _);by_cases hz:(gv l row o (fp bQ o.k st) (fq bQ o.k st)).2=0
  ·rw[Kx hz];refine To hr r (fun x hx=>hg x (mem_cons_of_mem _ hx)) _ fun v E=>?_;rcases mem_append.1 E with E|E
   ·exact eU v (mem_of_mem_take E)
   rw[mem_singleton] at E;rw[E];exact I
  rw[JG hz];exact ur
theorem agf{l:List cy}(hr:∀v∈row,v.Ok)(fY:∀o∈ops,o.v.Ok):(fA l row ops).1.Ok:=by
 unfold fA;repeat' split
 all_goals first|exact ur|exact To hr ops fY [] (fun v E=>by cases E)
theorem aeM(lB:∀o∈ops,o.nm.size<=maxLen)(fY:∀o∈ops,o.v.Ok)(hw:Pc.dY dF row=0)(hk:(eu dF ops).2=0)(he:(fA dF row ops).2=0):ko (eu dF ops).1 (fA dF row ops).1:=by
 obtain⟨_,_,_,h4⟩:=ab5 J7 hw (age hw) (acV lB fY hk) (FJ hk).2.1;obtain⟨_,h5|h5⟩:=h4 hk
 ·rw[h5] at he;cases he
 exact h5.2
def iC(t:az)(c:Int)(e:List bf):List Vl->List Int->List Vl×Int
 | acc,[]=>(acc,0)
 | acc,i::r=>if (fA t.ay (rowAt t i) e).2≠0 then ([],(fA t.ay (rowAt t i) e).2) else if c=0/\(fA t.ay (rowAt t i) e).1.k=0 then ([],4) else iC t c e (acc++[(fA t.ay (rowAt t i) e).1]) r
def mJ(t:az)(i:Int)(c:Nat)(v:Vl):az:={t with rows:=t.rows.set i.toNat ((rowAt t i).set c v)}
def eH(c:Nat):az->List Int->List Vl->az
 | t,i::r,v::s=>eH c (mJ t i c v) r s
 | t,_,_=>t
noncomputable def nD(t:az):aF->List Int->aF
 | x,[]=>x
 | x,i::r=>nD t (gY x (c9 x) (cg (rowAt t i))) r
noncomputable def gd:az->List Int->List Vl->az×Int
 | t,i::r,v::s=>if gS t.ix (cg (rowAt (mJ t i 0 v) i)) (c9 t.ix)=true then (t,9) else gd {mJ t i 0 v with ix:=gF t.ix (c9 t.ix) (cg (rowAt (mJ t i 0 v) i)) i} r s
 | t,_,_=>(t,0)
noncomputable def eS(t:az)(s:bp):az×Int×Int :=
 if bE t.ay s.set<0 then (t,0,8) else if (eu t.ay s.bF).2≠0 then (t,0,(eu t.ay s.bF).2)
 else if (eu t.ay s.bF).1≠(t.ay.getD (bE t.ay s.set).toNat ⟨⟨#[]⟩,0⟩).k/\(eu t.ay s.bF).1≠0 then (t,0,4)
 else if (ax t s.aj).2≠0 then (t,0,(ax t s.aj).2)
 else if (iC t (bE t.ay s.set) s.bF [] (ax t s.aj).1).2≠0 then (t,0,(iC t (bE t.ay s.set) s.bF [] (ax t s.aj).1).2)
 else if 0<bE t.ay s.set then (eH (bE t.ay s.set).toNat t (ax t s.aj).1 (iC t (bE t.ay s.set) s.bF [] (ax t s.aj).1).1,(ax t s.aj).1.length,0)
 else if (gd {t with ix:=nD t t.ix (ax t s.aj).1} (ax t s.aj).1 (iC t (bE t.ay s.set) s.bF [] (ax t s.aj).1).1).2≠0 then (t,0,(gd {t with ix:=nD t t.ix (ax t s.aj).1} (ax t s.aj).1 (iC t (bE t.ay s.set) s.bF [] (ax t s.aj).1).1).2)
 else ((gd {t with ix:=nD t t.ix (ax t s.aj).1} (ax t s.aj).1 (iC t (bE t.ay s.set) s.bF [] (ax t s.aj).1).1).1,(ax t s.aj).1.length,0)

end Go.Proofs.YtbplamgacibdaaaGreatDoor.Ba
