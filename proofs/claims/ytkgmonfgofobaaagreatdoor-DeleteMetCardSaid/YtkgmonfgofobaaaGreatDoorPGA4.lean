/-
  What the proof of GA leans on, part 4: walks of the program's functions at the level of values, and plain facts of what they compute.
-/
import Derived.Test.YtkgmonfgofobaaaGreatDoorPGA3
set_option linter.unusedVariables false
set_option linter.unusedSimpArgs false
set_option maxRecDepth 100000
set_option maxHeartbeats 4000000
namespace Go.Proofs.YtkgmonfgofobaaaGreatDoor.Nm
open List
open Go.Proofs.Tryz
open Go.RowKit V Pk Vl
variable {i:Nat} {h:Int}
theorem GK(x y:Vl):∀w,(Op.equalIn 10000 33 (.agg [.int .i64 x.k,.int .i64 x.n,.string x.s].toArray) (.agg [.int .i64 y.k,.int .i64 y.n,.string y.s].toArray)).run Tryz.prog w = .ok (x.k==y.k&&(x.n==y.n&&x.s.toList==y.s.toList)) w:=fun w=>by
 have hS:Tryz.prog.underlying 33=some (.struct (Tryz.prog.fieldsOf 33)):=(by kernel_rfl)
 have hp:Tryz.prog.stoodInHeld 33=false:=(by kernel_rfl)
 rw[show(10000:Nat)=9999+1 from rfl,run_equalIn_agg w 9999 33 _ _ hS hp];have u:=underlying33;have E:=underlying3;have I:=underlying9;have O:=isAgg3;have U:=isAgg9;have Z:=sizeOf3;have z9:=sizeOf9;simp only[Program.fieldsOf,u];go_simp
 by_cases h1:x.k=y.k<;>by_cases h2:x.n=y.n<;>by_cases h3:x.s.toList=y.s.toList<;>simp[h1,h2,h3]
def jf(v:Vl):Int:=if v.k=2∧v.n = -9223372036854775808 then 3 else cg v
structure aK where
 k:Int
 v:Vl
 nm:ByteArray
variable {l:List aK}
def cO(o:aK):List D:=[ae o.k,ae o.v.k,ae o.v.n,aZ o.v.s,aZ o.nm]
theorem mu(o:aK):(cO o).length=5:=rfl
theorem Lf(o:aK):(cO o).all V.one=true:=rfl
def bS(k:Int):Int:=if k=1∨k=2 then 0 else if k=5∨k=11 then 1 else 2
theorem uh(k:Int):0≤bS k∧bS k≤2:=by unfold bS;split<;>(try split)<;>omega
def zeroV(v:Vl):Bool:=v.k==0&&(v.n==0&&v.s.toList==(⟨#[]⟩:ByteArray).toList)
def gD(h:Int)(o:aK):Int :=
 if o.k<1∨o.k>11 then 2
 else if jf o.v≠0 then jf o.v
 else if ((o.k != 1 && !(zeroV o.v))||(o.k != 2 && !(o.nm.toList==(⟨#[]⟩:ByteArray).toList)))=true then 6
 else if o.k=2∧cy o.nm≠0 then cy o.nm
 else if h<bS o.k then 7 else 0
def fX:Int→List aK→Int
 | h,[]=>if h=1 then 0 else 7
 | h,o::r=>if gD h o=0 then fX (h+(1-bS o.k)) r else gD h o
def gN(l:List aK):Int:=if l.length>40 then 10 else fX 0 l
theorem R7(hi:i<l.length)(he:gD h l[i]=0):fX h (l.drop i)=fX (h+(1-bS l[i].k)) (l.drop (i+1)):=by
 rw[drop_eq_getElem_cons hi,fX,if_pos he]
theorem RH{e:Int}(hi:i<l.length)(he:gD h l[i]=e)(h0:e≠0):fX h (l.drop i)=e:=by
 rw[drop_eq_getElem_cons hi,fX,if_neg (by rw[he];exact h0),he]
theorem QR(hi:l.length≤i):fX h (l.drop i)=if h=1 then 0 else 7:=by
 rw[drop_of_length_le hi,fX]
variable {G:List (Nat×List Value)}
theorem Qk(v:Vl):VP Tryz.prog G 118 [.agg (cV v)] (ae (jf v)):=by
 refine VC.body func118 rfl ntmps118 aQ fun X0 w0 bf=>?_;unfold cV;refine cf ?_;refine OD.box (ds:=[_,_,_]) ap rfl rfl ot rfl rfl (fun b1=>?_);refine an 13 [1] ?_;refine aB 4 ?_;refine bY 6 (fun I E=>?_) (fun I E=>?_)
 ·refine bp [1,10] ?_;refine av ?_ ?_<;>intro aL bB
  ·refine af [2] ?_;refine eZ ?_;refine⟨vi ?_,rfl⟩;unfold jf;simp_all
  refine cL [2] (Vl.pS v) ?_;refine eZ ?_;refine⟨vi ?_,rfl⟩;unfold jf;simp_all
 refine bp [1,10] ?_;refine gq ?_;refine cL [2] (Vl.pS v) ?_;refine eZ ?_;refine⟨vi ?_,rfl⟩;unfold jf;simp_all
theorem KB(k:Int):VP Tryz.prog G 119 [ae k] (ae (bS k)):=by
 refine VC.body func119 rfl ntmps119 aQ fun X0 w0 bf=>?_;exact XP
theorem KC(hm:(3,marksC)∈G)(hw:(1,wordsC)∈G)(l:List aK)(hs:∀o∈l,o.nm.size≤maxLen):VP Tryz.prog G 68 [au 5 cO l] (ae (gN l)):=by
 refine VC.body func68 rfl ntmps68 aQ fun X0 w0 bf=>?_;have hlx:l.length≤40∨40<l.length:=(by omega)
 refine af [0] ?_;refine af [0,10] ?_;refine av ?_ ?_<;>intro aL bB
 ·have hf:gN l=10:=if_pos w4;refine af [2] ?_;refine aM [] ?_;exact z24
 have hf:gN l=fX 0 l:=if_neg w4;have qw:l.length≤40:=(by omega)
 refine af [0,3] ?_;refine af [3,11,12,13] ?_;refine eG [11,12] (fun aS _ (Z:Nat×Int) aE=>match Z with|(i,h)=>(i≤l.length)∧(fX 0 l=fX h (l.drop i))∧(0≤h)∧(h≤i)∧aE=(⟨73,(3,ae h)::(13,ae (i:Nat))::aS,[]⟩:St)) (fun (Z:Nat×Int)=>match Z with|(i,h)=>l.length-i) (0,0) ⟨(Nat.zero_le _),rfl,(Int.le_refl _),(Int.le_refl _),rfl⟩ ?_;rintro⟨i,h⟩ _ ⟨hi,hx,h0,hh,rfl⟩;refine af [3,11,12,13,14] ?_;refine av ?_ ?_<;>intro aY cD
 ·have aa:i<l.length:=(by omega)
  have uX:=uh l[i].k;refine aB 2 ?_;refine OD.alloc (ds:=[_,_,_,_,_]) ap rfl rfl zeroValue35 rfl (fun b5=>?_);refine aO 0 [_,_,_,_,_] sizeOf35 ?_;refine an 73 [3,5,11,12,13] ?_;refine aB 4 ?_;refine bY 20 (fun aj8 LZ=>?_) (fun aj8 LZ=>?_)
  ·refine bp [3,5,11,12,13,24] ?_;refine eY ?_;have xR:gD h l[i]=2:=(by unfold gD;rw[if_pos w4])
   exact As
  refine bp [3,5,11,12,13,24] ?_;refine av ?_ ?_<;>intro cm cR
  ·have xR:gD h l[i]=2:=(by unfold gD;rw[if_pos w4])
   exact As
  have ei:¬(l[i].k<1∨l[i].k>11):=(by omega)
  refine cL [3,5,6,11,12,13] (Qk l[i].v) ?_;refine af [3,5,6,11,12,13,29] ?_;refine av ?_ ?_<;>intro da eA
  ·have E:jf l[i].v≠0:=(by simpa using da)
   have xR:gD h l[i]=jf l[i].v:=(by unfold gD;rw[if_neg ei,if_pos E])
   exact As
  have E:jf l[i].v=0:=(by simpa using da)
  refine CD.skip ?_;refine CD.seq ?_;refine iL [3,5,11,12,13] (fun aS kV aE=>∃(q:Bool),(q=((l[i].k != 1 && !(zeroV l[i].v))||(l[i].k != 2 && !(l[i].nm.toList==(⟨#[]⟩:ByteArray).toList))))∧aE=(⟨73,(49,bG q)::aS,kV⟩:St)) ?_ ?_
  ·refine dY 4 ?_;refine bY 34 (fun aj9 aiv=>?_) (fun aj9 aiv=>?_)
   ·refine aH 3 ?_;refine OD.still iJ rfl (QF (us:=[_,_,_]) (A8:=[_,_,_]) rfl ot ot eqGuardType33 (GK l[i].v ⟨0,0,⟨#[]⟩⟩)) ?_;refine aH 2 ?_;refine bY 40 (fun Mt LU=>?_) (fun Mt LU=>?_)
    ·refine an 73 [3,5,11,12,13,49] ?_;exact CS
    refine aH 4 ?_;refine bY 44 (fun C2 I=>?_) (fun C2 I=>?_)
    ·refine an 73 [3,5,11,12,13,49] ?_;exact CS
    refine an 73 [3,5,11,12,13,49] ?_;exact CS
   refine yG 4 ?_;refine aH 6 ?_;refine bY 44 (fun C2 I=>?_) (fun C2 I=>?_)
   ·refine bp [3,5,11,12,13,49] ?_;exact CS
   refine bp [3,5,11,12,13,49] ?_;exact CS
  rintro _ ⟨q,hq,rfl⟩;refine av ?_ ?_<;>intro dR fH
  ·have xR:gD h l[i]=6:=(by unfold gD;rw[if_neg ei,if_neg (by rw[E];simp),if_pos (by rw[←hq];exact dR)])
   exact As
  have O:¬((l[i].k != 1 && !(zeroV l[i].v))||(l[i].k != 2 && !(l[i].nm.toList==(⟨#[]⟩:ByteArray).toList)))=true:=(by rw[←hq,dR];simp)
  refine CD.skip ?_;refine iL [3,5,11,12,13] (fun aS kV aE=>(¬(l[i].k=2∧cy l[i].nm≠0))∧aE=(⟨73,aS,kV⟩:St)) ?_ ?_
  ·refine af [3,5,11,12,13,52] ?_;refine av ?_ ?_<;>intro fM gW
   ·refine cL [3,5,7,11,12,13] (vo hm hw l[i].nm (hs _ (getElem_mem aa))) ?_;refine af [3,5,7,11,12,13,57] ?_;refine av ?_ ?_<;>intro jb px
    ·have Bg:cy l[i].nm≠0:=(by simpa using jb)
     have xR:gD h l[i]=cy l[i].nm:=(by unfold gD;rw[if_neg ei,if_neg (by rw[E];simp),if_neg O,if_pos ⟨by simpa using fM,Bg⟩])
     exact As
    have U:¬(l[i].k=2∧cy l[i].nm≠0):=(by simp at jb;simp[jb])
    refine CD.skip ?_;refine⟨_,aJ,U,rfl⟩
   have U:¬(l[i].k=2∧cy l[i].nm≠0):=(by simp at fM;simp[fM])
   refine CD.skip ?_;refine⟨_,aJ,U,rfl⟩
  rintro _ ⟨U,rfl⟩;refine cL [3,5,11,12,13,63] (KB l[i].k) ?_;refine av ?_ ?_<;>intro iS mY
  ·have DP:h<bS l[i].k:=(by simpa using iS)
   have xR:gD h l[i]=7:=(by unfold gD;rw[if_neg ei,if_neg (by rw[E];simp),if_neg O,if_neg U,if_pos DP])
   exact As
  have DP:¬h<bS l[i].k:=(by simpa using iS)
  have aT:gD h l[i]=0:=(by unfold gD;rw[if_neg ei,if_neg (by rw[E];simp),if_neg O,if_neg U,if_neg DP])
  refine iU [3,11,12,13] ?_;refine cN (KB l[i].k) ?_;refine bH ?_;refine cc [3,11,12,13] ?_;refine⟨((i+1),(h+(1-bS l[i].k))),_,cr,aJ,w4,(by rw[hx];exact R7 aa aT),w4,(by have:=uh l[i].k;omega),rfl⟩
 have fk:=hx.trans (QR (show l.length≤i by omega));refine af [72] ?_;refine av ?_ ?_<;>intro qo Ay
 ·refine af [2] ?_;refine aM [] ?_;exact z24
 refine af [2] ?_;refine aM [] ?_;refine⟨vi ?_,rfl⟩;first|exact hf.symm|(rw[hf,hx,RH aa xR (by first|assumption|decide)];done)|(rw[hf,fk,if_pos (by simpa using qo)];done)|(rw[hf,fk,if_neg (by simpa using qo)];done)

end Go.Proofs.YtkgmonfgofobaaaGreatDoor.Nm
namespace Go.Proofs
open Go.Shelf
def Tryz.aap:Go.Shelf.Ren:=⟨fun|106=>81|213=>128|265=>153|n=>n,fun|9=>9|3=>3|n=>n,fun|n=>n⟩
theorem Tryz.afl:Go.Proofs.Lays.n106 Tryz.prog Tryz.aap:={
 mixed:=by kernel_rfl
 f106:=Tryz.func81.trans (congrArg some (by kernel_rfl))
 f213:=Tryz.func128.trans (congrArg some (by kernel_rfl))
 f265:=Tryz.func153.trans (congrArg some (by kernel_rfl))
 t3:=Tryz.underlying3
 a3:=Tryz.isAgg3
 z3:=Tryz.sizeOf3
 v3:=Tryz.zeroValue3
 t9:=Tryz.underlying9
 a9:=Tryz.isAgg9
 z9:=Tryz.sizeOf9
 v9:=Tryz.zeroValue9}
open Go.RowKit in
theorem Tryz.strings_Compare(a b:ByteArray)(w:World) :
  Calls Tryz.prog 81 #[.string a,.string b] w fun e w'=>e = .returned (.int .i64 (Lib.compareBytes a.data.toList b.data.toList))∧w'=w:=Any.strings_Compare Tryz.afl a b w
def Tryz.P7:Go.Shelf.Ren:=⟨fun|155=>141|154=>161|138=>167|165=>168|143=>169|166=>170|197=>171|169=>172|195=>178|218=>179|240=>180|241=>181|219=>182|260=>183|276=>185|277=>186|217=>187|225=>188|224=>189|267=>190|266=>191|314=>192|n=>n,fun|9=>9|3=>3|4=>4|72=>238|0=>0|76=>242|105=>244|21=>21|5=>5|70=>236|20=>20|37=>90|75=>241|127=>252|164=>253|46=>225|119=>256|139=>259|138=>258|146=>261|51=>260|80=>246|n=>n,fun|1=>2|3=>4|4=>5|n=>n⟩
theorem Tryz.afm:Go.Proofs.Lays.n155 Tryz.prog Tryz.P7:={
 mixed:=by kernel_rfl
 f138:=Tryz.func167.trans (congrArg some (by kernel_rfl))
 f143:=Tryz.func169.trans (congrArg some (by kernel_rfl))
 f154:=Tryz.func161.trans (congrArg some (by kernel_rfl))
 f155:=Tryz.func141.trans (congrArg some (by kernel_rfl))
 f165:=Tryz.func168.trans (congrArg some (by kernel_rfl))
 f166:=Tryz.func170.trans (congrArg some (by kernel_rfl))
 f169:=Tryz.func172.trans (congrArg some (by kernel_rfl))
 f195:=Tryz.func178.trans (congrArg some (by kernel_rfl))
 f197:=Tryz.func171.trans (congrArg some (by kernel_rfl))
 f217:=Tryz.func187.trans (congrArg some (by kernel_rfl))
 f218:=Tryz.func179.trans (congrArg some (by kernel_rfl))
 f219:=Tryz.func182.trans (congrArg some (by kernel_rfl))
 f224:=Tryz.func189.trans (congrArg some (by kernel_rfl))
 f225:=Tryz.func188.trans (congrArg some (by kernel_rfl))
 f240:=Tryz.func180.trans (congrArg some (by kernel_rfl))
 f241:=Tryz.func181.trans (congrArg some (by kernel_rfl))
 f260:=Tryz.func183.trans (congrArg some (by kernel_rfl))
 f266:=Tryz.func191.trans (congrArg some (by kernel_rfl))
 f267:=Tryz.func190.trans (congrArg some (by kernel_rfl))
 f276:=Tryz.func185.trans (congrArg some (by kernel_rfl))
 f277:=Tryz.func186.trans (congrArg some (by kernel_rfl))
 f314:=Tryz.func192.trans (congrArg some (by kernel_rfl))
 t0:=Tryz.underlying0
 a0:=Tryz.isAgg0
 z0:=Tryz.sizeOf0
 v0:=Tryz.zeroValue0
 t3:=Tryz.underlying3
 a3:=Tryz.isAgg3
 z3:=Tryz.sizeOf3
 v3:=Tryz.zeroValue3
 t4:=Tryz.underlying4
 a4:=Tryz.isAgg4
 z4:=Tryz.sizeOf4
 v4:=Tryz.zeroValue4
 t5:=Tryz.underlying5
 a5:=Tryz.isAgg5
 z5:=Tryz.sizeOf5
 v5:=Tryz.zeroValue5
 t9:=Tryz.underlying9
 a9:=Tryz.isAgg9
 z9:=Tryz.sizeOf9
 v9:=Tryz.zeroValue9
 t20:=Tryz.underlying20
 a20:=Tryz.isAgg20
 z20:=Tryz.sizeOf20
 v20:=Tryz.zeroValue20
 t21:=Tryz.underlying21
 a21:=Tryz.isAgg21
 z21:=Tryz.sizeOf21
 v21:=Tryz.zeroValue21
 t37:=Tryz.underlying90
 a37:=Tryz.isAgg90
 z37:=Tryz.sizeOf90
 v37:=Tryz.zeroValue90
 t46:=Tryz.underlying225
 a46:=Tryz.isAgg225
 z46:=Tryz.sizeOf225
 v46:=Tryz.zeroValue225
 t51:=Tryz.underlying260
 a51:=Tryz.isAgg260
 z51:=Tryz.sizeOf260
 v51:=Tryz.zeroValue260
 t70:=Tryz.underlying236
 a70:=Tryz.isAgg236
 z70:=Tryz.sizeOf236
 v70:=Tryz.zeroValue236
 t72:=Tryz.underlying238
 a72:=Tryz.isAgg238
 z72:=Tryz.sizeOf238
 v72:=Tryz.zeroValue238
 t75:=Tryz.underlying241
 a75:=Tryz.isAgg241
 z75:=Tryz.sizeOf241
 v75:=Tryz.zeroValue241
 t76:=Tryz.underlying242
 a76:=Tryz.isAgg242
 z76:=Tryz.sizeOf242
 v76:=Tryz.zeroValue242
 t105:=Tryz.underlying244
 a105:=Tryz.isAgg244
 z105:=Tryz.sizeOf244
 v105:=Tryz.zeroValue244
 t119:=Tryz.underlying256
 a119:=Tryz.isAgg256
 z119:=Tryz.sizeOf256
 t127:=Tryz.underlying252
 a127:=Tryz.isAgg252
 z127:=Tryz.sizeOf252
 v127:=Tryz.zeroValue252
 t138:=Tryz.underlying258
 a138:=Tryz.isAgg258
 z138:=Tryz.sizeOf258
 v138:=Tryz.zeroValue258
 t139:=Tryz.underlying259
 a139:=Tryz.isAgg259
 z139:=Tryz.sizeOf259
 v139:=Tryz.zeroValue259
 t146:=Tryz.underlying261
 a146:=Tryz.isAgg261
 z146:=Tryz.sizeOf261
 v146:=Tryz.zeroValue261
 t164:=Tryz.underlying253
 a164:=Tryz.isAgg253
 z164:=Tryz.sizeOf253
 v164:=Tryz.zeroValue253
 g1:=by kernel_rfl
 g3:=by kernel_rfl
 g4:=by kernel_rfl}
theorem Tryz.ZI:Builder.Extra Tryz.prog Tryz.P7:={
 sizeBuilder:=by kernel_rfl
 liesBuilder:=by kernel_rfl
 t5:=Tryz.underlying5
 a5:=Tryz.isAgg5
 z5:=Tryz.sizeOf5
 v5:=Tryz.zeroValue5
 infoByte:=by kernel_rfl
 cellsByte:=by kernel_rfl
 sizeByte:=by kernel_rfl
 neB5:=by decide}
open Go.RowKit Go.Lib in
theorem Tryz.strings_ReplaceAll(s old new:ByteArray)(m:Int)(w:World)(hs:s.size<4294967281)(hm:w.cell? ⟨2,0,none⟩=some (.int .i64 m))(h1:1≤old.size)(hlen:s.size+Lib.countB s old*new.size≤140737488355328) :
  Calls Tryz.prog 141 #[.string s,.string old,.string new] w fun e w' =>
   e = .returned (.string ⟨(Lib.replaceAll s.data.toList old.data.toList new.data.toList).toArray⟩)∧Below w.heap.size w w':=Any.strings_ReplaceAll Tryz.afm Tryz.ZI s old new m w hs hm h1 hlen

end Go.Proofs
namespace Go.Proofs.YtkgmonfgofobaaaGreatDoor.Cd
open List
open Go.Proofs.Tryz
open Go.RowKit V Pk Vl
variable {v:Vl}
theorem R8(c:UInt8)(new:List UInt8):∀s:List UInt8,Lib.replaceK [c] new (s.count c) s=s.flatMap fun b=>if b=c then new else [b]
 | []=>rfl
 | b::l=>by
  have ih:=R8 c new l;by_cases h:b=c
  ·subst h;have hi:Lib.index (b::l) [b]=((0:Nat):Int):=(by rw[Lib.index_one];simp[Lib.indexByte])
   rw[count_cons_self,Lib.replaceK_hit _ _ _ _ _ hi,flatMap_cons,if_pos rfl,←ih];simp
  have hc:(b::l).count c=l.count c:=count_cons_of_ne h;rw[hc,flatMap_cons,if_neg h,←ih];cases hk:l.count c with
  | zero=>rfl
  | succ k =>
   obtain⟨i,hi⟩:=Lib.index_of_count (s:=l) (old:=[c]) (by rw[Lib.count_one];omega);have E:Lib.index (b::l) [c]=((i+1:Nat):Int):=by
    rw[Lib.index_one] at hi ⊢;unfold Lib.indexByte;rw[if_neg pC,hi,if_neg (by rw[beq_iff_eq];omega)];omega
   rw[Lib.replaceK_hit _ _ _ _ _ E,Lib.replaceK_hit _ _ _ _ _ hi];simp
def ur(c:UInt8)(new:List UInt8)(s:ByteArray):ByteArray:=⟨(s.data.toList.flatMap fun b=>if b=c then new else [b]).toArray⟩
theorem aaq(c:UInt8)(new s:List UInt8):Lib.replaceAll s [c] new=s.flatMap fun b=>if b=c then new else [b]:=by
 unfold Lib.replaceAll Lib.replace Lib.replaceNum;split
 ·rename_i h;have h':[c]=new:=(by simpa using h)
  subst h';induction s with
  | nil=>rfl
  | cons b l ih =>
   rw[flatMap_cons,←ih];have:(if b=c then [c] else [b])=[b]:=by
    split
    ·rename_i e;rw[e]
    rfl
   rw[this];rfl
 rw[if_pos (.inl w7),Lib.count_one,R8]
variable {G:List (Nat×List Value)} {m:Int}
theorem afn(hG:(2,[Value.int .i64 m])∈G)(c:UInt8)(new:ByteArray)(s:ByteArray)(hs:s.size≤1000000)(hn:new.size≤1000):VP Tryz.prog G 141 [aZ s,aZ ⟨#[c]⟩,aZ new] (aZ (ur c new.data.toList s)):=by
 have hc:Lib.countB s ⟨#[c]⟩≤1000000:=by
  show Lib.count s.data.toList [c]≤1000000;rw[Lib.count_one];exact Nat.le_trans count_le_length (by rw[kJ];exact hs)
 have I:Lib.countB s ⟨#[c]⟩*new.size≤1000000*1000:=Nat.mul_le_mul hc hn;have key:=VP.T1 (P:=Tryz.prog) (G:=G) (f:=141) (vs:=[.string s,.string ⟨#[c]⟩,.string new]) (v:=.string (ur c new.data.toList s)) fun w E=>by
  refine(Tryz.strings_ReplaceAll s ⟨#[c]⟩ new m w w4 (E _ hG 0 _ rfl) (Nat.le_refl _) w4).mono fun e w' ⟨h1,h2⟩=>⟨?_,h2⟩
  rw[h1];congr 2;show(⟨(Lib.replaceAll s.data.toList [c] new.data.toList).toArray⟩:ByteArray)=_;rw[aaq];rfl
 exact key
def kb(v:Vl):UInt8:=UInt8.ofNat v.k.toNat
def nb(v:Vl):UInt8:=UInt8.ofNat v.n.toNat
def uN(v:Vl):Nat:=(v.n+9223372036854775808).toNat
def xS(u k:Nat):UInt8:=UInt8.ofNat (u/256 ^ (7-k))
def lM(u:Nat):List UInt8:=(range 8).map (xS u)
def lI(s:List UInt8):List UInt8:=s.flatMap fun b=>if b=0 then [0,255] else [b]
def s8(v:Vl):List UInt8:=if v.k=1 then [nb v] else if v.k=2 then lM (uN v) else if v.k=3 then lI v.s.data.toList++[0,0] else []
def nD(v:Vl):List UInt8:=kb v::s8 v
def cY(l:List Vl):List UInt8:=l.flatMap nD
def s9:List Vl→Int
 | []=>0
 | v::r=>if cg v=0 then s9 r else cg v
def gm(l:List Vl):List UInt8×Int:=if l.length>6 then ([],1) else if s9 l≠0 then ([],s9 l) else if (cY l).length>100 then ([],5) else (cY l,0)
def Co(b:List UInt8):D:=au 1 cB b
def MH(r:List UInt8×Int):D:=.dD [Co r.1,ae r.2]
theorem T7:∀{l:List Vl} {i:Nat} (hi:i<l.length),(∀v∈l.take i,cg v=0)→cg l[i]≠0→s9 l=cg l[i]
 | v::r,0,hi,_,h=>by
  have h':cg v≠0:=h;show s9 (v::r)=cg v;rw[s9,if_neg h']
 | v::r,i+1,hi,h0,h=>by
  rw[s9,if_pos (h0 v bj)];exact T7 (l:=r) (i:=i) (by simpa using hi) (fun x hx=>h0 x (by rw[take_succ_cons];exact mem_cons_of_mem _ hx)) h
theorem FW:∀{l:List Vl},(∀v∈l,cg v=0)→s9 l=0
 | [],_=>rfl
 | v::r,h=>by rw[s9,if_pos (h v mem_cons_self)];exact FW fun x hx=>h x (mem_cons_of_mem _ hx)
theorem IS(h:cg v=0):0≤v.k∧v.k≤3:=by
 unfold cg at h;split at h
 ·omega
 split at h
 ·omega
 split at h
 ·omega
 split at h
 ·omega
 cases h
theorem Ql(h:cg v=0)(hk:v.k=1):0≤v.n∧v.n≤1:=by
 unfold cg at h;rw[if_neg w4,if_pos hk] at h;split at h
 ·cases h
 omega
theorem Qm(h:cg v=0)(hk:v.k=3):v.s.size≤20:=by
 unfold cg at h;rw[if_neg w4,if_neg w4,if_neg w4,if_pos hk] at h;split at h
 ·cases h
 split at h
 ·cases h
 omega
theorem Lb(h:cg v=0):((kb v).toNat:Int)=v.k:=by
 have:=IS h;unfold kb;rw[UInt8.toNat_ofNat'];omega
theorem Lc(h:cg v=0)(hk:v.k=1):((nb v).toNat:Int)=v.n:=by
 have:=Ql h hk;unfold nb;rw[UInt8.toNat_ofNat'];omega
theorem afo(h:cg v=0):IntKind.u8.wrap v.k=((kb v).toNat:Int):=by
 have:=IS h;rw[Lb h];show v.k % 256=_;omega
theorem afp(h:cg v=0)(hk:v.k=1):IntKind.u8.wrap v.n=((nb v).toNat:Int):=by
 have:=Ql h hk;rw[Lc h hk];show v.n % 256=_;omega
theorem Ld(h:v.Ok):((uN v:Nat):Int)=v.n+9223372036854775808:=by have:=h.n1;unfold uN;omega
theorem ag8{u k:Nat}(hk:k≤7):(u:Int).fdiv (2 ^ min ((56:Int)-8*(k:Int)).toNat IntKind.u64.bits)=((u/256 ^ (7-k):Nat):Int):=by
 have e1:min ((56:Int)-8*(k:Int)).toNat IntKind.u64.bits=8*(7-k):=by
  show min _ 64=_;omega
 have E:(2 ^ (8*(7-k)):Nat)=256 ^ (7-k):=(by rw[Nat.pow_mul])
 have e2:((2:Int) ^ (8*(7-k)))=((256 ^ (7-k):Nat):Int):=by
  rw[←E,Int.natCast_pow];rfl
 rw[e1,e2];exact(Int.ofNat_fdiv _ _).symm
theorem afq(x:Nat):IntKind.u8.wrap (x:Int)=((UInt8.ofNat x).toNat:Int):=by
 rw[UInt8.toNat_ofNat'];show(x:Int) % 256=_;omega
theorem FR{u k:Nat}(hk:k≤7):(lM u).take k++[xS u k]=(lM u).take (k+1):=by
 have hl:k<(lM u).length:=(by simp[lM];omega)
 rw[take_succ_eq_append_getElem hl];congr 2;simp[lM]
theorem xu(u:Nat):(lM u).length=8:=by simp[lM]
theorem T8(s:List UInt8):(lI s).length≤2*s.length:=by
 induction s with
 | nil=>simp[lI]
 | cons b l ih =>
  unfold lI at ih ⊢;rw[flatMap_cons,length_append,length_cons];split<;>simp only[length_cons,length_nil]<;>omega
theorem FX(h:cg v=0):(nD v).length≤43:=by
 unfold nD s8;rw[length_cons];split
 ·simp
 split
 ·rw[xu];omega
 split
 ·rename_i hk;have h1:=Qm h hk;have h2:=T8 v.s.data.toList;rw[kJ] at h2;rw[length_append];simp;omega
 simp
theorem FC:∀{l:List Vl},(∀v∈l,cg v=0)→(cY l).length≤43*l.length
 | [],_=>Nat.le_refl _
 | v::r,h=>by
  have h1:=FX (h v mem_cons_self);have h2:=FC (l:=r) fun x hx=>h x (mem_cons_of_mem _ hx);unfold cY at h2 ⊢;rw[flatMap_cons,length_append,length_cons];omega
theorem QC{l:List Vl}{i:Nat}(hi:i<l.length):cY (l.take i)++nD l[i]=cY (l.take (i+1)):=by
 unfold cY;rw[take_succ_eq_append_getElem hi,flatMap_append];simp
theorem Gt(h:v.k=1):s8 v=[nb v]:=if_pos h
theorem Gu(h:v.k=2):s8 v=lM (uN v):=by unfold s8;rw[if_neg w4,if_pos h]
theorem Gw(h:v.k=3):s8 v=lI v.s.data.toList++[0,0]:=by unfold s8;rw[if_neg w4,if_neg w4,if_pos h]
theorem VO(h1:¬v.k=1)(h2:¬v.k=2)(h3:¬v.k=3):s8 v=[]:=by unfold s8;rw[if_neg h1,if_neg h2,if_neg h3]
theorem BO(s:ByteArray):(ur 0 [0,255] s).data.toList=lI s.data.toList:=rfl
def MI(p:List UInt8×Int)(r:D)(S:List ah):Prop:=∃ad cap,r = .dD [aP ad p.1.length cap,ae p.2]∧bn 5 1 (p.1.flatMap cB) p.1.length ad cap S
theorem MI.view{p:List UInt8×Int}{r:D}{S:List ah}(h:MI p r S):View S r (MH p):=by
 obtain⟨ad,cap,rfl,ho⟩:=h;exact Fy ⟨lU ho (cz pX _) (fun B h=>h),eW,trivial⟩
theorem BH:(Tryz.prog.info? 5).map (fun i=>(i.zero,i.size,i.bytes))=some (some (.int .u8 0),1,1):=by kernel_rfl
theorem Vn(hG:(2,[Value.int .i64 m])∈G)(l:List Vl)(hl:l.length≤maxLen)(aT:∀v∈l,v.Ok):VC Tryz.prog G 95 [au 3 cV l] [] (MI (gm l)):=by
 refine VC.body func95 rfl ntmps95 aQ fun X0 w0 bf=>?_;refine af [0] ?_;refine af [0,12] ?_;refine av ?_ ?_<;>intro aL bB
 ·have aW:gm l=([],1):=if_pos w4;exact N4
 have h6:l.length≤6:=(by omega)
 refine cf ?_;refine bp [0,4] ?_;refine af [4,13,14,15] ?_;refine CD.block ?_;refine nq (fun (E:Nat×Option Addr×Nat×List ah) aE=>match E with|(i,I,O,Sb)=>(i≤l.length)∧(∀v∈l.take i,cg v=0)∧(bn 5 1 ((cY (l.take i)).flatMap cB) (cY (l.take i)).length I O Sb)∧aE=(⟨72,[(4,aP I (cY (l.take i)).length O),(13,au 3 cV l),(14,ae l.length),(15,ae (i:Nat))],(Sb)⟩:St)) (fun (E:Nat×Option Addr×Nat×List ah)=>match E with|(i,I,O,Sb)=>l.length-i) (0,none,0,[]) ⟨(Nat.zero_le _),bj,(bn.cast iW (by rfl)),rfl⟩ (aJ (h:=by repeat (first|exact trivial|refine⟨w6,?_⟩))) ?_;rintro⟨i,I,O,Sb⟩ _ ⟨hi,h0,pJ,rfl⟩;refine af [4,13,14,15,16] ?_;refine av ?_ ?_<;>intro aY cD
 ·have aa:i<l.length:=(by omega)
  have Od:=FC h0;rw[length_take] at Od;have c8:=dV;have gd:=aT _ (getElem_mem aa);refine aB 2 ?_;refine OD.alloc (ds:=[_,_,_]) ap rfl rfl zeroValue33 rfl (fun b6=>?_);refine aO 0 [_,_,_] sizeOf33 ?_;refine an 72 [4,6,13,14,15] ?_;refine cL [4,6,7,13,14,15] (Vl.pS l[i]) ?_;refine af [4,6,7,13,14,15,22] ?_;refine av ?_ ?_<;>intro cm cR
  ·have hne:cg l[i]≠0:=(by simpa using cm)
   have aW:gm l=([],cg l[i]):=(by unfold gm;rw[if_neg w4,T7 aa h0 hne,if_pos hne])
   exact N4
  have U:cg l[i]=0:=(by simpa using cm)
  refine aB 3 ?_;refine bV (oX (r:=.int .u8 ((kb l[i]).toNat:Int)) rfl ot (o8 runUnderlying3 runUnderlying5 (afo U))) ?_;refine eD (cq 0 [_]) [.int .u8 0] [_] zeroValue5 runUnderlying90 sizeOf5 (fun OE=>?_);refine fT 0 28 1 1 ?_;refine OD.eL (ls:=(cY (l.take i))) (new:=[kb l[i]]) (Sq:=Sb) pX xz ap rfl rfl underlying90 BH rfl w7 ot pJ (dI (A:=[_])) ot bj AK AK (fun uY Z G8 G9=>?_);refine OD.perm (ez (S1:=[⟨uY,5,Z*1,flatMap cB ((cY (l.take i))++[kb l[i]])⟩]) (A:=[_])) ?_;refine an 72 [4,6,13,14,15] ?_;refine af [4,6,13,14,15,31] ?_;refine af [4,6,13,14,15,31,32] ?_;refine av ?_ ?_<;>intro da eA
  ·have ei:l[i].k=1:=(by simpa using da)
   refine dY 3 ?_;refine bV (oX (r:=.int .u8 ((nb l[i]).toNat:Int)) rfl ot (o8 runUnderlying3 runUnderlying5 (afp U ei))) ?_;refine eD (cq 0 [_]) [.int .u8 0] [_] zeroValue5 runUnderlying90 sizeOf5 (fun OF=>?_);refine fT 0 38 1 1 ?_;refine OD.eL (ls:=((cY (l.take i))++[kb l[i]])) (new:=[nb l[i]]) (Sq:=[⟨uY,5,Z*1,flatMap cB ((cY (l.take i))++[kb l[i]])⟩]) pX xz ap rfl rfl underlying90 BH rfl w7 ot (bQ G8 G9) (dI (A:=[_])) ot bj AK AK (fun DG MJ aka akb=>?_);refine OD.perm (ez (S1:=[⟨DG,5,MJ*1,flatMap cB (((cY (l.take i))++[kb l[i]])++[nb l[i]])⟩]) (A:=[_])) ?_;refine an 72 [4,13,14,15] ?_;refine cc [4,13,14,15] ?_;refine⟨((i+1),(some ⟨DG,0,none⟩),MJ,[⟨DG,5,MJ*1,flatMap cB (((cY (l.take i))++[kb l[i]])++[nb l[i]])⟩]),_,cr,(aJ (h:=by repeat (first|exact trivial|refine⟨w6,?_⟩))),w4,(zm aa h0 U),(bn.cast (bQ aka akb) Hy),rfl⟩
  have ei:¬l[i].k=1:=(by simpa using da)
  refine af [4,6,13,14,15,31,40] ?_;refine av ?_ ?_<;>intro dR fH
  ·have fF:l[i].k=2:=(by simpa using dR)
   refine cM [4,8,13,14,15] ?_;refine aR 3 ?_ (h:=by exact(dA (r:=.int .u64 ((uN l[i]:Nat):Int)) rfl ot bP (afb (by rw[Ld gd];exact afd gd.n1 gd.n2))));refine bH ?_;refine af [4,8,9,13,14,15] ?_;refine CD.block ?_;refine nq (fun (E:Nat×Option Addr×Nat×List ah) aE=>match E with|(k,I,O,Sb)=>(k≤8)∧(bn 5 1 (((cY (l.take i)++[kb l[i]])++(lM (uN l[i])).take k).flatMap cB) ((cY (l.take i)++[kb l[i]])++(lM (uN l[i])).take k).length I O Sb)∧aE=(⟨72,[(4,aP I ((cY (l.take i)++[kb l[i]])++(lM (uN l[i])).take k).length O),(8,.v (.int .u64 ((uN l[i]:Nat):Int))),(9,ae (56-8*(k:Int))),(13,au 3 cV l),(14,ae l.length),(15,ae (i:Nat))],(Sb)⟩:St)) (fun (E:Nat×Option Addr×Nat×List ah)=>match E with|(k,I,O,Sb)=>8-k) (0,(some ⟨uY,0,none⟩),Z,[⟨uY,5,Z*1,flatMap cB ((cY (l.take i))++[kb l[i]])⟩]) ⟨w7,(bn.cast (bQ G8 G9) bj),rfl⟩ (aJ (h:=by repeat (first|exact trivial|refine⟨(by (repeat (first|exact fP|(apply gi;focus (first|rfl|(congr 2;omega)|(simp;done)|(apply eP;rw[←FR w4];simp)|(apply eP;simp)|(apply eP;simp;done)))|(apply fU;focus rfl)));done),?_⟩))) ?_;rintro⟨k,I,O,Sb⟩ _ ⟨If,pJ,rfl⟩;refine af [4,8,9,13,14,15,47] ?_;refine av ?_ ?_<;>intro fM gW
   ·have hk7:k≤7:=(by omega)
    refine dY 3 ?_;refine bV (dA (r:=.int .u64 ((uN l[i]/256 ^ (7-k):Nat):Int)) rfl ot ot (zC w4 (ag8 hk7))) ?_;refine bV (oX (r:=.int .u8 ((xS (uN l[i]) k).toNat:Int)) rfl ot (o8 runUnderlying208 runUnderlying5 (afq _))) ?_;refine eD (cq 0 [_]) [.int .u8 0] [_] zeroValue5 runUnderlying90 sizeOf5 (fun b55=>?_);refine fT 0 55 1 1 ?_;refine OD.eL (ls:=((cY (l.take i)++[kb l[i]])++(lM (uN l[i])).take k)) (new:=[xS (uN l[i]) k]) (Sq:=Sb) pX xz ap rfl rfl underlying90 BH rfl w7 ot pJ (dI (A:=[])) ot bj AK AK (fun kW MK akc akd=>?_);refine OD.perm (ez (S1:=[⟨kW,5,MK*1,flatMap cB (((cY (l.take i)++[kb l[i]])++(lM (uN l[i])).take k)++[xS (uN l[i]) k])⟩]) (A:=[])) ?_;refine an 72 [4,8,9,13,14,15] ?_;refine cc [4,8,9,13,14,15] ?_;refine⟨((k+1),(some ⟨kW,0,none⟩),MK,[⟨kW,5,MK*1,flatMap cB (((cY (l.take i)++[kb l[i]])++(lM (uN l[i])).take k)++[xS (uN l[i]) k])⟩]),_,cr,(aJ (h:=by repeat (first|exact trivial|refine⟨(by (repeat (first|exact fP|(apply gi;focus (first|rfl|(congr 2;omega)|(simp;done)|(apply eP;rw[←FR w4];simp)|(apply eP;simp)|(apply eP;simp;done)))|(apply fU;focus rfl)));done),?_⟩))),w4,(bn.cast (bQ akc akd) (by rw[←FR w4];simp)),rfl⟩
   have aqW:k=8:=(by omega)
   have aqX:8≤k:=(by omega)
   refine cc [4,13,14,15] ?_;refine⟨((i+1),I,O,Sb),_,cr,(aJ (h:=by repeat (first|exact trivial|refine⟨w6,?_⟩))),w4,(zm aa h0 U),(bn.cast pJ Hy),rfl⟩
  have fF:¬l[i].k=2:=(by simpa using dR)
  refine af [4,6,13,14,15,57] ?_;refine av ?_ ?_<;>intro jb px
  ·have mg:l[i].k=3:=(by simpa using jb)
   have Nt:=Qm U mg;have wu:=T8 l[i].s.data.toList;rw[kJ] at wu;have Y2:(ur 0 [0,255] l[i].s).size=(lI l[i].s.data.toList).length:=(by rw[←kJ,BO])
   refine aB 3 ?_;refine ec call141 (afn hG 0 ⟨#[0,255]⟩ l[i].s w4 w7) ?_;refine OD.aaG (ls:=((cY (l.take i))++[kb l[i]])) (Sq:=[⟨uY,5,Z*1,flatMap cB ((cY (l.take i))++[kb l[i]])⟩]) ap rfl rfl underlying90 underlying9 BH ot (bQ G8 G9) (dI (A:=[_])) ot (by rw[show(ur 0 (⟨#[0,255]⟩:ByteArray).data.toList l[i].s).size=(lI l[i].s.data.toList).length from Y2];simp only[length_append,length_cons,length_nil];omega) (by rw[show(ur 0 (⟨#[0,255]⟩:ByteArray).data.toList l[i].s).size=(lI l[i].s.data.toList).length from Y2];simp only[length_append,length_cons,length_nil];omega) (fun WV xZ D3 C3=>?_);refine OD.perm (ez (A:=[_])) ?_;refine an 72 [4,13,14,15] ?_;refine dY 1 ?_;refine eD (cq 0 [_,_]) [.int .u8 0,.int .u8 0] [_,_] zeroValue5 runUnderlying90 sizeOf5 (fun b65=>?_);refine fT 0 65 1 2 ?_;refine OD.eL (ls:=(((cY (l.take i))++[kb l[i]])++(ur 0 [0,255] l[i].s).data.toList)) (new:=[(0:UInt8),0]) (Sq:=D3) pX xz ap rfl rfl underlying90 BH rfl w7 ot C3 (dI (A:=[_])) ot bj (by rw[BO];simp only[length_append,length_cons,length_nil];omega) (by rw[BO];simp only[length_append,length_cons,length_nil];omega) (fun pK Az AA AB=>?_);refine OD.perm (ez (S1:=[⟨pK,5,Az*1,flatMap cB ((((cY (l.take i))++[kb l[i]])++(ur 0 [0,255] l[i].s).data.toList)++[(0:UInt8),0])⟩]) (A:=[_])) ?_
   refine an 72 [4,13,14,15] ?_;refine cc [4,13,14,15] ?_;refine⟨((i+1),(some ⟨pK,0,none⟩),Az,[⟨pK,5,Az*1,flatMap cB ((((cY (l.take i))++[kb l[i]])++(ur 0 [0,255] l[i].s).data.toList)++[(0:UInt8),0])⟩]),_,cr,(aJ (h:=by repeat (first|exact trivial|refine⟨w6,?_⟩))),w4,(zm aa h0 U),(bn.cast (bQ AA AB) Hy),rfl⟩
  have mg:¬l[i].k=3:=(by simpa using jb)
  refine cc [4,13,14,15] ?_;refine⟨((i+1),(some ⟨uY,0,none⟩),Z,[⟨uY,5,Z*1,flatMap cB ((cY (l.take i))++[kb l[i]])⟩]),_,cr,(aJ (h:=by repeat (first|exact trivial|refine⟨w6,?_⟩))),w4,(zm aa h0 U),(bn.cast (bQ G8 G9) Hy),rfl⟩
 have fw:∀v∈l,cg v=0:=(by rw[take_of_length_le w4] at h0;exact h0)
 have hle:=FC fw;have D4:cY (l.take i)=cY l:=(by rw[take_of_length_le w4])
 refine af [4,70] ?_;refine av ?_ ?_<;>intro iS mY
 ·have aW:gm l=([],5):=(by unfold gm;rw[if_neg w4,FW fw,if_neg bj,if_pos (by rw[D4] at iS;simp at iS;omega)])
  exact N4
 have aW:gm l=(cY l,0):=(by unfold gm;rw[if_neg w4,FW fw,if_neg bj,if_neg (by rw[D4] at iS;simp at iS;omega)])
 refine af [2,3] ?_;refine aM Sb ?_;rw[aW,←D4];exact⟨I,O,rfl,pJ⟩
theorem ag9(hG:(2,[Value.int .i64 m])∈G)(l:List Vl)(hl:l.length≤maxLen)(aT:∀v∈l,v.Ok):VP Tryz.prog G 95 [au 3 cV l] (MH (gm l)):=(Vn hG l hl aT).cover fun r S hr=>hr.view

end Go.Proofs.YtkgmonfgofobaaaGreatDoor.Cd
namespace Go.Proofs.YtkgmonfgofobaaaGreatDoor.Cd









open List
open Go.Proofs.Tryz
open Go.RowKit V Pk Vl
open Go.Lib (compareBytes)
variable {l:List Int}
theorem pV{a b:UInt8}:a<b↔a.toNat<b.toNat:=UInt8.lt_iff_toNat_lt
theorem sL(a b:UInt8)(x y:List UInt8):compareBytes (a::x) (b::y)=if a<b then -1 else if b<a then 1 else compareBytes x y:=by rw[compareBytes]
theorem Kp:∀(x y:List UInt8),compareBytes y x = - compareBytes x y
 | [],[]=>rfl
 | [],_::_=>rfl
 | _::_,[]=>rfl
 | a::x,b::y=>by
  have ih:=Kp x y;rw[sL,sL];rcases Nat.lt_trichotomy a.toNat b.toNat with h|h|h
  ·rw[if_neg ni,if_pos (pV.2 h),if_pos (pV.2 h)];rfl
  ·rw[if_neg ni,if_neg ni,if_neg ni,if_neg ni,ih]
  rw[if_pos (pV.2 h),if_neg ni,if_pos (pV.2 h)]
def qe(x y:Int):Int:=if x<y then -1 else if x>y then 1 else 0
def gB:List Int→Int
 | []=>0
 | a::l=>if a≠0 then a else gB l
def cmpL(a b:Vl):List Int:=[qe a.k b.k,qe a.n b.n,compareBytes a.s.data.toList b.s.data.toList]
def fu(a b:Vl):Int:=gB (cmpL a b)
theorem sH(x y:Int):qe x y = -1∧x<y∨qe x y=0∧x=y∨qe x y=1∧y<x:=by unfold qe;split;omega;split<;>omega
theorem QS(x y:Int):qe y x = - qe x y:=by
 rcases sH x y with h|h|h<;>rcases sH y x with k|k|k<;>omega
theorem BE(a b:Vl):fu b a = - fu a b:=by
 unfold fu cmpL gB gB gB gB;rw[QS a.k b.k,QS a.n b.n,Kp a.s.data.toList b.s.data.toList];repeat' split
 all_goals omega

variable {G:List (Nat×List Value)} {m:Int}
def cI(n:Int):List D:=[ae n]
theorem adw:∀{i:Nat} (hi:i<l.length),(∀x∈l.take i,x=0)→gB l=gB (l.drop i):=by
 induction l with
 | nil=>intro i hi;simp at hi
 | cons a l ih =>
  intro i hi h;cases i with
  | zero=>rfl
  | succ i =>
   have ha:a=0:=h a bj;show(if a≠0 then a else gB l)=gB (l.drop i);rw[if_neg (by simp[ha])];exact ih (by simpa using hi) (fun x hx=>h x (by simp[hx]))
theorem afr{i:Nat}(hi:i<l.length)(h:∀x∈l.take i,x=0)(h1:l[i]≠0):gB l=l[i]:=by
 rw[adw hi h,drop_eq_getElem_cons hi];exact if_pos h1
theorem R9:∀{l:List Int},(∀x∈l,x=0)→gB l=0
 | [],_=>rfl
 | a::l,h=>by
  show(if a≠0 then a else gB l)=0;rw[if_neg (by simp[h a bj]),R9 fun x hx=>h x (by simp[hx])]
theorem take_zero{i:Nat}(hi:i<l.length)(h:∀x∈l.take i,x=0)(h1:l[i]=0):∀x∈l.take (i+1),x=0:=fun x hx=>by
 rw[take_succ_eq_append_getElem hi] at hx;rcases mem_append.1 hx with hx|hx
 ·exact h x hx
 simp only[mem_singleton] at hx;rw[hx];exact h1
theorem Vo(x:Int):VP Tryz.prog G 127 [ae x] (bG false):=by
 refine VC.body func127 rfl ntmps127 aQ fun X0 w0 bf=>?_;refine af [0] ?_;refine af [2] ?_;refine aM [] ?_;first|exact⟨rfl,rfl⟩|(refine⟨vb ?_,rfl⟩;simp)
theorem T9(x y:Int):VP Tryz.prog G 80 [ae x,ae y] (ae (qe x y)):=by
 refine VC.body func80 rfl ntmps80 aQ fun X0 w0 bf=>?_;refine af [0,1] ?_;refine cL [0,1,5] (Vo x) ?_;refine cL [0,1,5,6] (Vo y) ?_;refine af [0,1,6,11] ?_;refine av ?_ ?_<;>intro aL bB
 ·refine af [12] ?_;refine av ?_ ?_<;>intro aY cD
  ·exact DD
  exact DD
 refine af [0,1,13] ?_;refine av ?_ ?_<;>intro cm cR
 ·exact DD
 refine af [0,1,16] ?_;refine av ?_ ?_<;>intro da eA
 ·exact DD
 refine af [19] ?_;refine av ?_ ?_<;>intro dR fH
 ·exact DD
 refine af [4] ?_;refine aM [] ?_;first|exact⟨rfl,rfl⟩|(refine⟨vi ?_,rfl⟩;unfold qe;simp_all;done)|(refine⟨vi ?_,rfl⟩;unfold qe;split<;>(try split)<;>simp_all<;>omega)
theorem aha(l:List Int)(hl:l.length≤100):VP Tryz.prog G 79 [au 1 cI l] (ae (gB l)):=by
 refine VC.body func79 rfl ntmps79 aQ fun X0 w0 bf=>?_;have c8:=dV;refine af [0] ?_;refine af [0,3] ?_;refine af [3,6,7,8] ?_;refine eG [3,6,7] (fun aS _ (i:Nat) aE=>(i≤l.length)∧(∀x∈l.take i,x=0)∧aE=(⟨18,(8,ae (i:Nat))::aS,[]⟩:St)) (fun (i:Nat)=>l.length-i) 0 ⟨(Nat.zero_le _),(fun x hx=>by simp at hx),rfl⟩ ?_;rintro i _ ⟨hi,hz,rfl⟩;refine af [3,6,7,8,9] ?_;refine av ?_ ?_<;>intro aL bB
 ·have aa:i<l.length:=(by omega)
  refine af [3,5,6,7,8] ?_;refine af [3,5,6,7,8,14] ?_;refine av ?_ ?_<;>intro aY cD
  ·have aW:gB l=l[i]:=afr aa hz wi;refine af [2] ?_;exact oO
  refine cc [3,6,7,8] ?_;refine⟨(i+1),_,cr,aJ,w4,(take_zero aa hz wi),rfl⟩
 have aW:gB l=0:=R9 (by rw[take_of_length_le w4] at hz;exact hz);refine af [2] ?_;exact uR
theorem afs(a b:ByteArray):VP Tryz.prog G 81 [aZ a,aZ b] (ae (compareBytes a.data.toList b.data.toList)) :=
 VP.T1 (P:=Tryz.prog) (G:=G) (f:=81) (vs:=[.string a,.string b]) (v:=.int .i64 (compareBytes a.data.toList b.data.toList)) fun w _ =>
  (Tryz.strings_Compare a b w).mono fun e w' ⟨h1,h2⟩=>⟨h1,h2 ▸ Below.refl _ _⟩
theorem Qn(a b:Vl)(ha:a.Ok)(hb:b.Ok):VP Tryz.prog G 44 [.agg (cV a),.agg (cV b)] (ae (fu a b)):=by
 refine VC.body func44 rfl ntmps44 aQ fun X0 w0 bf=>?_;unfold cV;refine cf ?_;refine OD.box (ds:=[_,_,_]) ap rfl rfl ot rfl rfl (fun b2=>?_);refine OD.box (ds:=[_,_,_]) ap rfl rfl ot rfl rfl (fun b3=>?_);refine an 22 [2,3] ?_;refine cM [4] ?_;refine cN (T9 a.k b.k) ?_;refine cN (T9 a.n b.n) ?_;refine cN (afs a.s b.s) ?_;refine cN (aha (cmpL a b) (by show 3≤100;decide)) ?_;refine bH ?_;exact z46
def mU(a b:Vl):Int:=if cg a≠0 then cg a else cg b
def ML(a b:Vl):D:=.dD [ae (if mU a b≠0 then 0 else fu a b),ae (mU a b)]
theorem Ua(a b:Vl):VP Tryz.prog G 43 [.agg (cV a),.agg (cV b)] (ae (mU a b)):=by
 refine VC.body func43 rfl ntmps43 aQ fun X0 w0 bf=>?_;unfold cV;refine cf ?_;refine OD.box (ds:=[_,_,_]) ap rfl rfl ot rfl rfl (fun b2=>?_);refine OD.box (ds:=[_,_,_]) ap rfl rfl ot rfl rfl (fun b3=>?_);refine an 13 [2,3] ?_;refine cL [3,5] (pS a) ?_;refine af [3,5,9] ?_;refine av ?_ ?_<;>intro aL bB
 ·refine af [4] ?_;refine aM [] ?_;refine⟨vi ?_,rfl⟩;unfold mU;simp_all
 refine cL [4] (pS b) ?_;refine aM [] ?_;refine⟨vi ?_,rfl⟩;unfold mU;simp_all
theorem aaO(a b:Vl)(ha:a.Ok)(hb:b.Ok):VP Tryz.prog G 24 [.agg (cV a),.agg (cV b)] (ML a b):=by
 refine VC.body func24 rfl ntmps24 aQ fun X0 w0 bf=>?_;unfold cV ML;refine cf ?_;refine OD.box (ds:=[_,_,_]) ap rfl rfl ot rfl rfl (fun b2=>?_);refine OD.box (ds:=[_,_,_]) ap rfl rfl ot rfl rfl (fun b3=>?_);refine an 16 [2,3] ?_;refine cL [2,3,6] (Ua a b) ?_;refine af [2,3,6,11] ?_;refine av ?_ ?_<;>intro aL bB
 ·refine af [4,5] ?_;refine aM [] ?_;first|(simp_all;done)|(refine⟨?_,rfl⟩;simp_all;done)
 refine cL [4,5] (Qn a b ha hb) ?_;refine aM [] ?_;first|(simp_all;done)|(refine⟨?_,rfl⟩;simp_all;done)

end Go.Proofs.YtkgmonfgofobaaaGreatDoor.Cd
namespace Go.Proofs.YtkgmonfgofobaaaGreatDoor.Pc
open List
open Go.Proofs.Tryz
open Go.RowKit V Pk Vl Go.Proofs.YtkgmonfgofobaaaGreatDoor.Nm
variable {i:Nat}
def typesC:List Value:=[.string ⟨#[]⟩,.string ⟨#[66,79,79,76]⟩,.string ⟨#[73,78,84]⟩,.string ⟨#[84,69,88,84]⟩]
structure cH where
 n:ByteArray
 k:Int
variable {l:List cH}
def cC(c:cH):List D:=[aZ c.n,ae c.k]
theorem lV(c:cH):(cC c).length=2:=rfl
theorem ahb(c:cH):(cC c).all V.one=true:=rfl
def nE(pre:List cH)(c:cH):Int :=
 if cy c.n≠0 then cy c.n else if c.k<1∨c.k>3 then 2 else if (pre.any fun d=>d.n.toList==c.n.toList)=true then 9 else 0
def rL:List cH→List cH→Int
 | _,[]=>0
 | pre,c::r=>if nE pre c≠0 then nE pre c else rL (pre++[c]) r
def fW(l:List cH):Int:=if l.length<1∨l.length>6 then 1 else rL [] l
theorem abF(hi:i<l.length)(h:nE (l.take i) l[i]=0):rL (l.take i) (l.drop i)=rL (l.take (i+1)) (l.drop (i+1)):=by
 rw[drop_eq_getElem_cons hi,take_succ_eq_append_getElem hi];exact if_neg (by simp[h])
theorem JF(hi:i<l.length)(h:nE (l.take i) l[i]≠0):rL (l.take i) (l.drop i)=nE (l.take i) l[i]:=by
 rw[drop_eq_getElem_cons hi];exact if_pos h
theorem adA(hi:¬i<l.length):rL (l.take i) (l.drop i)=0:=by
 rw[drop_of_length_le w4];rfl
theorem JA(S:List ah):S.Perm (S++[]):=by rw[append_nil]
variable {G:List (Nat×List Value)}
theorem JN(ls:List cH)(g:Nat)(E:List D)(S:List ah)(p:cH→Bool)(fG:∀args w,(callFunc g args).run Tryz.prog w = .ok (.enter g args) w)(hp:∀x∈ls,VC Tryz.prog G g (.agg (cC x)::E) S (fun r S'=>r=bG (p x)∧S'=S))(hlen:ls.length≤1000000):VC Tryz.prog G 125 [au 2 cC ls,.eH (.func g) E] S (fun r S'=>r=ae (dP p ls)∧S'=S):=by
 refine VC.body func125 rfl ntmps125 aQ fun X0 w0 bf=>?_;unfold cC at hp;exact XI
theorem aar(ls:List cH)(g:Nat)(E:List D)(S:List ah)(p:cH→Bool)(fG:∀args w,(callFunc g args).run Tryz.prog w = .ok (.enter g args) w)(hp:∀x∈ls,VC Tryz.prog G g (.agg (cC x)::E) S (fun r S'=>r=bG (p x)∧S'=S))(hlen:ls.length≤1000000):VC Tryz.prog G 142 [au 2 cC ls,.eH (.func g) E] S (fun r S'=>r=bG (ls.any p)∧S'=S):=by
 refine VC.body func142 rfl ntmps142 aQ fun X0 w0 bf=>?_;refine aB 1 ?_;refine OD.wk (Wk.er (n:=9) (l':=[(0,_),(1,_)]) (S':=S) rfl nh fI) ?_;refine OD.nil ?_;refine aB 2 ?_;refine OD.call ap rfl rfl rfl call125 (JN ls g E S p fG hp hlen) ⟨ud rfl lk,ud rfl lk,trivial⟩ (JA _) ?_;rintro _ S2 ⟨rfl,iT⟩;rw[iT];clear iT;refine aH 2 ?_;refine OD.wk (Wk.er (n:=9) (l':=[(4,_)]) (S':=S) rfl nh fI) ?_;refine OD.nil ?_;refine aM S ?_;refine⟨?_,rfl⟩;rw[RV]
theorem aft(h x:cH)(b:Nat):VC Tryz.prog G 143 [.agg (cC h),cZ b] [⟨b,28,2,cC x⟩] (fun r S=>r=bG (h.n.toList==x.n.toList)∧S=[⟨b,28,2,cC x⟩]):=by
 refine VC.body func143 rfl ntmps143 aQ fun X0 w0 bf=>?_;unfold cC;refine cf ?_;refine OD.box (ds:=[_,_]) ap rfl rfl ot rfl rfl (fun b2=>?_);refine an 9 [1,2] ?_;refine af [3] ?_;refine aM [⟨b,28,2,cC x⟩] ?_;exact⟨rfl,rfl⟩
theorem afu(hm:(3,marksC)∈G)(hw:(1,wordsC)∈G)(l:List cH)(hl:l.length≤maxLen)(aT:∀c∈l,c.n.size≤maxLen):VP Tryz.prog G 96 [au 2 cC l] (ae (fW l)):=by
 refine VC.body func96 rfl ntmps96 aQ fun X0 w0 bf=>?_;have c8:=dV;refine af [0] ?_;refine aB 4 ?_;refine bY 9 (fun Z O=>?_) (fun Z O=>?_)
 ·refine bp [0,13] ?_;refine eY ?_;have aW:fW l=1:=if_pos w4;exact yt
 refine bp [0,13] ?_;refine av ?_ ?_<;>intro aL bB
 ·have aW:fW l=1:=if_pos w4;exact yt
 have h16:¬(l.length<1∨l.length>6):=(by omega)
 have E:fW l=rL (l.take 0) (l.drop 0):=if_neg h16;refine af [0,14,15,16] ?_;refine eG [0,14,15] (fun aS _ (i:Nat) aE=>(i≤l.length)∧(fW l=rL (l.take i) (l.drop i))∧aE=(⟨41,(16,ae (i:Nat))::aS,[]⟩:St)) (fun (i:Nat)=>l.length-i) 0 ⟨(Nat.zero_le _),E,rfl⟩ ?_;rintro i _ ⟨hi,hinv,rfl⟩;refine af [0,14,15,16,17] ?_;refine av ?_ ?_<;>intro aY cD
 ·have aa:i<l.length:=(by omega)
  refine aB 3 ?_;refine OD.alloc (ds:=[_,_]) ap rfl rfl zeroValue28 rfl (fun b4=>?_);refine aH 1 ?_;refine aO 0 [_,_] sizeOf28 ?_;refine an 41 [0,3,4,14,15,16] ?_;refine cL [0,3,4,5,14,15,16] (vo hm hw l[i].n (aT _ (getElem_mem aa))) ?_;refine af [0,3,4,5,14,15,16,25] ?_;refine av ?_ ?_<;>intro cm cR
  ·have hne:cy l[i].n≠0:=(by simpa using cm)
   have hf:nE (l.take i) l[i]=cy l[i].n:=if_pos hne;have aW:fW l=cy l[i].n:=(by rw[hinv,JF aa (by rw[hf];exact hne),hf])
   refine af [2] ?_;exact oO
  have gH:¬cy l[i].n≠0:=(by simpa using cm)
  refine aB 4 ?_;refine bY 30 (fun U I=>?_) (fun U I=>?_)
  ·refine bp [0,3,4,14,15,16,34] ?_;refine eY ?_;exact WJ
  refine bp [0,3,4,14,15,16,34] ?_;refine av ?_ ?_<;>intro da eA
  ·exact WJ
  have hk:¬(l[i].k<1∨l[i].k>3):=(by omega)
  refine aB 2 ?_;refine bV (eJ (l:=0) rfl ot trivial ⟨_,ot⟩ (by first|exact nS lV (fun h=>by cases h) runUnderlying29 sizeOf28 w4|exact nx (fun h=>by cases h) runUnderlying29 sizeOf28 w4|exact mO (fun _=>rfl) (fun h=>by cases h) runUnderlying29 sizeOf28 w4 w4)) ?_;refine bV (pR (ds:=[_]) rfl ⟨ot,trivial⟩) ?_;refine OD.call ap rfl rfl rfl call142 (aar (l.take i) 143 [cZ b4] _ (fun d=>d.n.toList==l[i].n.toList) call143 (fun h _=>aft h l[i] b4) pA) ⟨ud rfl lk,ud rfl lk,trivial⟩ (mN (k:=0) rfl) ?_;rintro _ S2 ⟨rfl,iT⟩;rw[iT];clear iT;refine an 41 [0,14,15,16,39] ?_;refine av ?_ ?_<;>intro dR fH
  ·have hf:nE (l.take i) l[i]=9:=(by unfold nE;rw[if_neg gH,if_neg hk,if_pos dR])
   have aW:fW l=9:=(by rw[hinv,JF aa (by rw[hf];decide),hf])
   refine af [2] ?_;exact oO
  have hf:nE (l.take i) l[i]=0:=(by unfold nE;rw[if_neg gH,if_neg hk,if_neg (by rw[dR];simp)])
  have jv:=hinv.trans (abF aa hf);refine cc [0,14,15,16] ?_;refine⟨(i+1),_,cr,aJ,w4,jv,rfl⟩
 have aW:fW l=0:=(by rw[hinv];exact adA w4)
 refine af [2] ?_;exact uR

end Go.Proofs.YtkgmonfgofobaaaGreatDoor.Pc
namespace Go.Proofs.YtkgmonfgofobaaaGreatDoor.Pa
open List
open Go.Proofs.Tryz
open Go.RowKit V Pk Vl Go.Proofs.YtkgmonfgofobaaaGreatDoor.Nm Pc
structure bA where
 kind:Int
 table:ByteArray
 ay:List cH
 row:List Vl
 names:List ByteArray
 count:Bool
 aj:List aK
 order:ByteArray
 down:Bool
 iD:Int
 set:ByteArray
 bJ:List aK
def dz:bA:=⟨0,⟨#[]⟩,[],[],[],false,[],⟨#[]⟩,false,-1,⟨#[]⟩,[]⟩

end Go.Proofs.YtkgmonfgofobaaaGreatDoor.Pa
namespace Go.Proofs.YtkgmonfgofobaaaGreatDoor.Pa







open List
open Go.Proofs.Tryz
open Go.RowKit V Pk Vl Go.Proofs.YtkgmonfgofobaaaGreatDoor.Nm Pc
variable {G:List (Nat×List Value)}
variable {α:Type}
theorem Ff{ls:List (List α)}{j:Nat}(h:j<ls.length):(ls.take (j+1)).flatten=(ls.take j).flatten++ls[j]:=by
 rw[take_succ_eq_append_getElem h,flatten_append,flatten_cons,flatten_nil,append_nil]
theorem PZ{ls:List (List α)}{j:Nat}(h:j<ls.length):((ls.take (j+1)).flatten).length=((ls.take j).flatten).length+ls[j].length:=by rw[Ff h,length_append]
theorem P2(ls:List (List α))(j:Nat):((ls.take j).flatten).length≤ls.flatten.length:=by
 conv=>rhs;rw[←take_append_drop j ls,flatten_append,length_append]
 omega
theorem abG{e sz b cap:Nat}(h:cap≤maxLen):bn e sz [] 0 (some ⟨b,0,none⟩) cap [⟨b,e,cap*sz,[]⟩]:=.inr ⟨b,rfl,Nat.zero_le _,h,rfl⟩

end Go.Proofs.YtkgmonfgofobaaaGreatDoor.Pa
namespace Go.Proofs.YtkgmonfgofobaaaGreatDoor.Pa



open List
open Go.Proofs.Tryz
open Go.RowKit V Pk Vl Go.Proofs.YtkgmonfgofobaaaGreatDoor.Nm Pc
variable {G:List (Nat×List Value)}
variable {α:Type} {i n:Nat} {ts h:List (List Tk)} {o:aK}
def ahc:List ByteArray:=[⟨#[]⟩,⟨#[66,79,79,76]⟩,⟨#[73,78,84]⟩,⟨#[84,69,88,84]⟩]

theorem lX(t:Tk):(cT t).all V.one=true:=rfl
def bE(s:ByteArray):Tk:=⟨1,s,0⟩
def dS(s:ByteArray):Tk:=⟨4,s,0⟩
def cK(l:List Tk):List D:=[au 3 cT l]
theorem gw(l:List Tk):(cK l).length=1:=rfl
theorem pZ(l:List Tk):(cK l).all V.one=true:=rfl
theorem tZ{β:Type}(f:α→β){l:List α}(hi:i<l.length):(l.take i).map f++[f l[i]]=(l.take (i+1)).map f:=by rw[take_succ_eq_append_getElem hi,map_append];rfl
theorem KD{β:Type}(f:α→β){l:List α}(hi:l.length≤i):(l.take i).map f=l.map f:=by rw[take_of_length_le hi]
theorem nv(s:ByteArray):VP Tryz.prog G 106 [aZ s] (.agg (cT (dS s))):=by
 refine VC.body func106 rfl ntmps106 aQ fun X0 w0 bf=>?_;exact WG
theorem rH(s:ByteArray):VP Tryz.prog G 145 [aZ s] (.agg (cT (bE s))):=by
 refine VC.body func145 rfl ntmps145 aQ fun X0 w0 bf=>?_;exact WG
theorem Bz:(Tryz.prog.info? 170).map (fun i=>(i.zero,i.size,i.bytes))=some (some (.agg #[.int .i64 0,.string ⟨#[]⟩,.int .i64 0]),3,32):=by kernel_rfl
theorem zM(l:List ByteArray)(hl:l.length≤10):VC Tryz.prog G 101 [au 1 cS l] [] (gE cT 170 3 (l.map bE)):=by
 refine VC.body func101 rfl ntmps101 aQ fun X0 w0 bf=>?_;have c8:=dV;refine af [0] ?_;refine cf ?_;refine bp [0,3] ?_;refine af [3,6,7,8] ?_;refine CD.block ?_;refine nq (fun (E:Nat×Option Addr×Nat×List ah) aE=>match E with|(i,O,U,Sa)=>(i≤l.length)∧(bn 170 3 (((l.take i).map bE).flatMap cT) ((l.take i).map bE).length O U Sa)∧aE=(⟨19,[(3,aP O ((l.take i).map bE).length U),(6,au 1 cS l),(7,ae (l.length:Nat)),(8,ae (i:Nat))],(Sa)⟩:St)) (fun (E:Nat×Option Addr×Nat×List ah)=>match E with|(i,O,U,Sa)=>l.length-i) (0,none,0,[]) ⟨(Nat.zero_le _),(bn.cast iW lu),rfl⟩ (aJ (h:=by repeat (first|exact trivial|refine⟨(by (repeat (first|exact fP|(apply gi;focus (first|rfl|(simp;done)|(congr 2;omega)|(apply eP;exact tZ bE aa)|(apply eP;simp;done)))|(apply fU;focus rfl)));done),?_⟩))) ?_;rintro⟨i,O,U,Sa⟩ _ ⟨hi,oR,rfl⟩;refine af [3,6,7,8,9] ?_;refine av ?_ ?_<;>intro aL bB
 ·have aa:i<l.length:=(by omega)
  refine af [3,5,6,7,8] ?_;refine dY 2 ?_;refine ec call145 (rH l[i]) ?_;refine eD (cq 0 [_]) [.int .i64 0,.string ⟨#[]⟩,.int .i64 0] [_,_,_] zeroValue170 runUnderlying110 sizeOf170 (fun b15=>?_);refine fT 0 15 3 1 ?_;refine OD.eL (ls:=((l.take i).map bE)) (new:=[bE l[i]]) (Sq:=Sa) iX lX ap rfl rfl underlying110 Bz rfl w7 ot oR (dI (A:=[])) ot bj (by have c8:=dV;(try simp only[length_append,length_cons,length_nil,length_map,length_take]);omega) (by have c8:=dV;(try simp only[length_append,length_cons,length_nil,length_map,length_take]);omega) (fun Z I ake akf=>?_);refine OD.perm (ez (S1:=[⟨Z,170,I*3,flatMap cT (((l.take i).map bE)++[bE l[i]])⟩]) (A:=[])) ?_;refine an 19 [3,6,7,8] ?_;refine cc [3,6,7,8] ?_;refine⟨((i+1),(some ⟨Z,0,none⟩),I,[⟨Z,170,I*3,flatMap cT (((l.take i).map bE)++[bE l[i]])⟩]),_,cr,(aJ (h:=by repeat (first|exact trivial|refine⟨(by (repeat (first|exact fP|(apply gi;focus (first|rfl|(simp;done)|(congr 2;omega)|(apply eP;exact tZ bE aa)|(apply eP;simp;done)))|(apply fU;focus rfl)));done),?_⟩))),w4,(bn.cast (bQ ake akf) (by exact tZ bE aa)),rfl⟩
 have fk:=KD bE (show l.length≤i by omega);refine af [2] ?_;refine aM _ ?_;exact gE.cast (gE.mk oR) fk
theorem sP(l:List ByteArray)(hl:l.length≤10):VP Tryz.prog G 101 [au 1 cS l] (.list 3 ((l.map bE).flatMap cT) (l.map bE).length):=VC.xJ iX (zM l hl)
def lj(ts:List (List Tk)):Nat→List Tk
 | 0=>[dS ⟨#[40]⟩]
 | i+1=>lj ts i++(if i>0 then [dS ⟨#[44]⟩] else [])++ts.getD i []
def mA(ts:List (List Tk)):List Tk:=lj ts ts.length++[dS ⟨#[41]⟩]
theorem FN{ts:List (List Tk)}(h:∀x∈ts,x.length≤10):∀i,(lj ts i).length≤1+11*i
 | 0=>Nat.le_refl _
 | i+1=>by
  have ih:=FN h i;have h2:(ts.getD i []).length≤10:=by
   rw[getD_eq_getElem?_getD];cases hx:ts[i]? with
   | none=>exact Nat.zero_le _
   | some x=>exact h x (mem_of_getElem? hx)
  have h3:(if i>0 then [dS ⟨#[44]⟩] else []).length≤1:=(by split<;>simp)
  unfold lj;rw[length_append,length_append];omega
theorem JC(hi:i<ts.length)(h:0<i):(lj ts i++[dS ⟨#[44]⟩])++ts[i]=lj ts (i+1):=by
 rw[lj,if_pos h,getD_eq_getElem?_getD,getElem?_eq_getElem hi];rfl
theorem I3(hi:i<ts.length)(h:¬0<i):lj ts i++ts[i]=lj ts (i+1):=by
 rw[lj,if_neg h,append_nil,getD_eq_getElem?_getD,getElem?_eq_getElem hi];rfl
theorem Ub(ts:List (List Tk))(hl:ts.length≤10)(Nt:∀x∈ts,x.length≤10):VP Tryz.prog G 102 [au 1 cK ts] (.list 3 ((mA ts).flatMap cT) (mA ts).length):=by
 refine VC.body func102 rfl ntmps102 aQ fun X0 w0 bf=>?_;have c8:=dV;refine af [0] ?_;refine cf ?_;refine ec call106 (nv ⟨#[40]⟩) ?_;refine eD (cq 0 [_]) [.int .i64 0,.string ⟨#[]⟩,.int .i64 0] [_,_,_] zeroValue170 runUnderlying110 sizeOf170 (fun b7=>?_);refine OD.perm (ez (S1:=[⟨b7,170,1*3,flatMap cT ([dS ⟨#[40]⟩])⟩]) (A:=[])) ?_;refine an 29 [0,3] ?_;refine af [3,8,9,10] ?_;refine CD.block ?_;refine nq (fun (E:Nat×Option Addr×Nat×List ah) aE=>match E with|(i,I,O,Sa)=>(i≤ts.length)∧(bn 170 3 ((lj ts i).flatMap cT) (lj ts i).length I O Sa)∧aE=(⟨29,[(3,aP I (lj ts i).length O),(8,au 1 cK ts),(9,ae (ts.length:Nat)),(10,ae (i:Nat))],(Sa)⟩:St)) (fun (E:Nat×Option Addr×Nat×List ah)=>match E with|(i,I,O,Sa)=>ts.length-i) (0,(some ⟨b7,0,none⟩),1,[⟨b7,170,1*3,flatMap cT ([dS ⟨#[40]⟩])⟩]) ⟨(Nat.zero_le _),(bn.cast (bQ (g:=cT) (sz:=3) (e:=170) (ls:=[dS ⟨#[40]⟩]) (Nat.le_refl _) (show 1≤maxLen by decide)) (by rfl)),rfl⟩ (aJ (h:=by repeat (first|exact trivial|refine⟨(by (repeat (first|exact fP|(apply gi;focus (first|rfl|(simp;done)|(congr 2;omega)|(apply eP;first|exact JC aa w4|exact I3 aa w4)|(apply eP;rfl)|(apply eP;simp;done)))|(apply fU;focus rfl)));done),?_⟩))) ?_;rintro⟨i,I,O,Sa⟩ _ ⟨hi,oR,rfl⟩;refine af [3,8,9,10,11] ?_;refine av ?_ ?_<;>intro aL bB
 ·have aa:i<ts.length:=(by omega)
  refine af [3,4,5,8,9,10] ?_;refine af [3,5,8,9,10,16] ?_;refine av ?_ ?_<;>intro aY cD
  ·refine dY 1 ?_;refine ec call106 (nv ⟨#[44]⟩) ?_;refine eD (cq 0 [_]) [.int .i64 0,.string ⟨#[]⟩,.int .i64 0] [_,_,_] zeroValue170 runUnderlying110 sizeOf170 (fun b19=>?_);refine fT 0 19 3 1 ?_;refine OD.eL (ls:=(lj ts i)) (new:=[dS ⟨#[44]⟩]) (Sq:=Sa) iX lX ap rfl rfl underlying110 Bz rfl w7 ot oR (dI (A:=[])) ot bj vY vY (fun OG U akg akh=>?_);refine OD.perm (ez (S1:=[⟨OG,170,U*3,flatMap cT ((lj ts i)++[dS ⟨#[44]⟩])⟩]) (A:=[])) ?_;refine an 29 [3,5,8,9,10] ?_;refine dY 2 ?_;refine OD.pQ (ls:=((lj ts i)++[dS ⟨#[44]⟩])) (new:=ts[i]) (Sq:=[⟨OG,170,U*3,flatMap cT ((lj ts i)++[dS ⟨#[44]⟩])⟩]) iX lX ap rfl rfl underlying110 Bz rfl w7 runUnderlying110 sizeOf170 ot (bQ akg akh) (dI (A:=[])) ot vY vY (fun Wi Wj XY Wl=>?_);exact XX
  refine dY 2 ?_;refine OD.pQ (ls:=(lj ts i)) (new:=ts[i]) (Sq:=Sa) iX lX ap rfl rfl underlying110 Bz rfl w7 runUnderlying110 sizeOf170 ot oR (dI (A:=[])) ot vY vY (fun Wi Wj XY Wl=>?_);exact XX
 have uF:i=ts.length:=(by omega)
 have nF:lj ts i++[dS ⟨#[41]⟩]=mA ts:=(by unfold mA;rw[←uF])
 refine aB 1 ?_;refine ec call106 (nv ⟨#[41]⟩) ?_;refine eD (cq 0 [_]) [.int .i64 0,.string ⟨#[]⟩,.int .i64 0] [_,_,_] zeroValue170 runUnderlying110 sizeOf170 (fun b27=>?_);refine fT 0 27 3 1 ?_;refine OD.eL (ls:=(lj ts i)) (new:=[dS ⟨#[41]⟩]) (Sq:=Sa) iX lX ap rfl rfl underlying110 Bz rfl w7 ot oR (dI (A:=[])) ot bj vY vY (fun OE Z aki akj=>?_);refine OD.perm (ez (S1:=[⟨OE,170,Z*3,flatMap cT ((lj ts i)++[dS ⟨#[41]⟩])⟩]) (A:=[])) ?_;refine an 29 [2] ?_;refine CD.iE (t:=2) (Sq:=[⟨OE,170,Z*3,flatMap cT ((lj ts i)++[dS ⟨#[41]⟩])⟩]) lk (bQ aki akj) (cz iX _) (dI (A:=[])) ?_;refine aM [] ?_;rw[nF];exact⟨rfl,rfl⟩
def jx(v:Vl):List Tk :=
 if v.k=0 then [bE ⟨#[78,85,76,76]⟩]
 else if v.k=1 then [bE (if v.n=0 then ⟨#[70,65,76,83,69]⟩ else ⟨#[84,82,85,69]⟩)]
 else if v.k=3 then [⟨3,v.s,0⟩]
 else if v.n<0 then [dS ⟨#[45]⟩,⟨2,⟨#[]⟩,-v.n⟩] else [⟨2,⟨#[]⟩,v.n⟩]
def nr(v:Vl):Prop:=(v.k=1→v.n=0∨v.n=1)∧-9223372036854775807≤v.n∧v.n≤9223372036854775807
theorem QT(v:Vl):0<(jx v).length∧(jx v).length≤2:=by
 unfold jx;repeat' split
 all_goals exact⟨by simp,by simp⟩
def GL:List ByteArray:=[⟨#[]⟩,⟨#[]⟩,⟨#[]⟩,⟨#[]⟩,⟨#[]⟩,⟨#[]⟩,⟨#[61]⟩,⟨#[60]⟩,⟨#[43]⟩,⟨#[45]⟩,⟨#[42]⟩]
def Aq(k:Int):Tk:=if k=3 then bE ⟨#[65,78,68]⟩ else if k=4 then bE ⟨#[79,82]⟩ else dS (GL.getD k.toNat ⟨#[]⟩)
theorem aiw{j:Nat}(h:j<11):(GL.map fun s=>D.v (.string s))[j*1]?=some (aZ (GL[j]'h)):=by
 rw[Nat.mul_one,getElem?_map,getElem?_eq_getElem h];rfl
theorem P3(v:Vl)(h:nr v):VP Tryz.prog G 103 [.agg (cV v)] (.list 3 ((jx v).flatMap cT) (jx v).length):=by
 refine VC.body func103 rfl ntmps103 aQ fun X0 w0 bf=>?_;obtain⟨h1,h2,h3⟩:=h;unfold cV;refine cf ?_;refine OD.box (ds:=[_,_,_]) ap rfl rfl ot rfl rfl (fun b1=>?_);refine an 42 [1] ?_;refine af [1,3] ?_;refine av ?_ ?_<;>intro aL bB
 ·refine cL [2] (sP [⟨#[78,85,76,76]⟩] AT) ?_;exact HQ
 refine af [1,9] ?_;refine av ?_ ?_<;>intro aY cD
 ·have ei:v.k=1:=(by simpa using aY)
  obtain⟨j,hj,I⟩:∃j:Nat,v.n=(j:Int)∧j<2:=(by (rcases h1 ei with h|h;exact⟨0,h,by decide⟩;exact⟨1,h,by decide⟩))
  rw[hj];refine cM [2] ?_;refine Ot (g:=cS) ([⟨#[70,65,76,83,69]⟩,⟨#[84,82,85,69]⟩]) ?_;refine aR 3 ?_ (h:=by exact(cW (mk:=Op.load 9) rfl ot (by exact rJ (i:=j) jJ isAgg9 (by show j<2;omega) rfl)));refine cN (sP [([⟨#[70,65,76,83,69]⟩,⟨#[84,82,85,69]⟩]:List ByteArray)[j]'(by show j<2;omega)] AT) ?_;refine bH ?_;exact HQ
 refine af [1,20] ?_;refine av ?_ ?_<;>intro cm cR
 ·refine aB 3 ?_;refine eD (cq 0 [_]) [.int .i64 0,.string ⟨#[]⟩,.int .i64 0] [_,_,_] zeroValue170 runUnderlying110 sizeOf170 (fun E=>?_);refine OD.perm (ez (S1:=[⟨E,170,1*3,flatMap cT ([(⟨3,v.s,0⟩:Tk)])⟩]) (A:=[_])) ?_;refine an 42 [2] ?_;refine CD.iE (t:=2) (Sq:=[⟨E,170,1*3,flatMap cT ([(⟨3,v.s,0⟩:Tk)])⟩]) lk (bQ (g:=cT) (sz:=3) (e:=170) (ls:=[(⟨3,v.s,0⟩:Tk)]) (Nat.le_refl _) (show 1≤maxLen by decide)) (cz iX _) (dI (A:=[_])) ?_;exact HQ
 refine af [1,28] ?_;refine av ?_ ?_<;>intro da eA
 ·refine cM [2] ?_;refine cN (nv ⟨#[45]⟩) ?_;refine aR 2 ?_ (h:=by exact(Fw rfl ot (Lh (wrap_i64 w4 w4))));refine bH ?_;exact HQ
 refine aB 3 ?_;refine eD (cq 0 [_]) [.int .i64 0,.string ⟨#[]⟩,.int .i64 0] [_,_,_] zeroValue170 runUnderlying110 sizeOf170 (fun wo=>?_);refine OD.perm (ez (S1:=[⟨wo,170,1*3,flatMap cT ([(⟨2,⟨#[]⟩,v.n⟩:Tk)])⟩]) (A:=[_])) ?_;refine an 42 [2] ?_;refine CD.iE (t:=2) (Sq:=[⟨wo,170,1*3,flatMap cT ([(⟨2,⟨#[]⟩,v.n⟩:Tk)])⟩]) lk (bQ (g:=cT) (sz:=3) (e:=170) (ls:=[(⟨2,⟨#[]⟩,v.n⟩:Tk)]) (Nat.le_refl _) (show 1≤maxLen by decide)) (cz iX _) (dI (A:=[_])) ?_;refine aM [] ?_;refine⟨?_,rfl⟩;unfold jx;first|(rw[if_pos bB];first|done|rfl)|(rw[if_neg bB,if_pos ei,hj];rcases j with _|_|j<;>first|rfl|omega)|(rw[if_neg bB,if_neg cD,if_pos cR];first|done|rfl)|(rw[if_neg bB,if_neg cD,if_neg cR,if_pos w4,show -v.n=0-v.n by omega];first|done|rfl)|(rw[if_neg bB,if_neg cD,if_neg cR,if_neg w4];first|done|rfl)
theorem aaP(k:Int)(h:k=3∨k=4∨6≤k∧k≤10):VP Tryz.prog G 147 [ae k] (.agg (cT (Aq k))):=by
 refine VC.body func147 rfl ntmps147 aQ fun X0 w0 bf=>?_;refine cf ?_;refine OD.alloc (ds:=[_,_,_]) ap rfl rfl zeroValue170 rfl (fun b2=>?_);refine an 14 [0,2] ?_;refine af [0,2,3] ?_;refine af [0,2,3,4] ?_;refine av ?_ ?_<;>intro aL bB
 ·refine cf ?_;refine ec call145 (rH ⟨#[65,78,68]⟩) ?_;exact X9
 refine af [0,2,7] ?_;refine av ?_ ?_<;>intro aY cD
 ·refine cf ?_;refine ec call145 (rH ⟨#[79,82]⟩) ?_;exact X9
 have mg:¬k=3:=(by simpa using aL)
 have yu:¬k=4:=(by simpa using aY)
 obtain⟨j,rfl⟩:∃j:Nat,k=(j:Int):=⟨k.toNat,by omega⟩
 have hj:j<11:=(by omega)
 refine cf ?_;refine bV (E0 (pl:=[(6,_),(7,_),(8,_),(9,_),(10,_)]) (ds:=[_,_,_,_,_,_,_,_,_,_,_]) rfl zeroValue227 runUnderlying227 sizeOf9 ⟨rfl,bP,rfl,bP,rfl,bP,rfl,bP,rfl,bP,trivial⟩ rfl rfl) ?_;refine aH 1 ?_;refine bV (aaD (j:=j) rfl ot ot runUnderlying227 sizeOf9 isAgg9 rfl hj (aiw hj)) ?_;refine ec call106 (nv (GL[j]'hj)) ?_;refine aO 0 [_,_,_] sizeOf170 ?_;refine an 14 [2] ?_;refine aM [] ?_;refine⟨?_,rfl⟩;unfold Aq;first|(rw[if_neg mg,if_neg yu,show((j:Nat):Int).toNat=j from rfl,getD_eq_getElem?_getD,getElem?_eq_getElem hj];rfl)|(rw[if_pos yh];rfl)|(rw[if_neg yh,if_pos wi];rfl)

def D5(q:List Tk):List D:=[au 3 cT q]
theorem P8:(Tryz.prog.info? 170).map (fun i=>(i.zero,i.size,i.bytes))=some (some (.agg #[.int .i64 0,.string ⟨#[]⟩,.int .i64 0]),3,32):=by kernel_rfl
theorem abH(n:Nat)(h0:0<n)(hn:n≤100000):VC Tryz.prog G 146 [bF,ae (n:Nat)] [] (fun r S=>∃b cap,cap≤maxLen∧r=aP (some ⟨b,0,none⟩) 0 cap∧S=[⟨b,170,cap*3,[]⟩]):=by
 refine VC.body func146 rfl ntmps146 aQ fun X0 w0 bf=>?_;refine af [0,1] ?_;refine af [0,1,6] ?_;refine av ?_ ?_<;>intro aL bB
 ·exact absurd aL uI
 refine cM [0,1] ?_;refine aR 2 ?_ (h:=by exact(Fe rfl rfl ot runUnderlying110));refine aR 1 ?_ (h:=by exact(cW (mk:=fun y=>.call {callee:=.builtin .len,args:=#[y],argTypes:=#[110]}) rfl ot (TX rfl runUnderlying110)));refine bH ?_;refine af [0,1,16] ?_;refine av ?_ ?_<;>intro aY cD
 ·refine dY 2 ?_;refine bV (Fe rfl rfl ot runUnderlying110) ?_;refine bV (ET rfl ot rfl ⟨_,_,ot,rfl⟩ runUnderlying110 sizeOf170) ?_;refine aH 1 ?_;refine OD.adq (m:=n) (sz:=3) ap rfl rfl underlying110 underlying3 P8 rfl w7 ot (Eq.trans ot (congrArg (fun z=>D.v (.int .i64 z)) (show((n:Nat):Int)-(0-0)=((n:Nat):Int) by omega))) h0 HJ w4 (fun b cap h1 h2=>?_);refine aH 1 ?_;refine bV (cW (mk:=fun y=>.call {callee:=.builtin .len,args:=#[y],argTypes:=#[110]}) rfl ot (TX rfl runUnderlying110)) ?_;refine bV (eJ (l:=0) (h:=0) rfl ot trivial ⟨_,ot⟩ (by first|exact nx (fun h=>by cases h) runUnderlying110 sizeOf170 w4|exact mO (fun _=>rfl) (fun h=>by cases h) runUnderlying110 sizeOf170 w4 w4)) ?_;refine an 27 [0] ?_;refine af [4] ?_;refine aM [⟨b,170,cap*3,[]⟩] ?_;exact⟨b,cap,h2,rfl,rfl⟩
 exact absurd aY (by simp at aY;omega)
theorem aas(ls:List (List Tk))(Y1:ls.length≤1000)(h0:0<ls.flatten.length)(hn:ls.flatten.length≤100000):VC Tryz.prog G 105 [au 1 D5 ls] [] (fun r S=>∃ad cap,r=aP ad ls.flatten.length cap∧bn 170 3 (ls.flatten.flatMap cT) ls.flatten.length ad cap S):=by
 refine VC.body func105 rfl ntmps105 aQ fun X0 w0 bf=>?_;refine af [0] ?_;refine af [0,3] ?_;refine af [0,3,9,10,11] ?_;refine CD.block ?_;refine nq (fun (j:Nat) aE=>(j≤ls.length)∧aE=(⟨36,[(0,au 1 D5 ls),(3,ae ((((ls.take j).flatten).length:Nat):Int)),(9,au 1 D5 ls),(10,ae (ls.length:Nat)),(11,ae (j:Nat))],[]⟩:St)) (fun (j:Nat)=>ls.length-j) 0 ⟨(Nat.zero_le _),rfl⟩ (aJ (h:=by repeat (first|exact trivial|refine⟨(by (repeat (first|exact fP|(apply gi;focus (first|rfl|(congr 2;omega)|(simp;done)))|(apply fU;focus rfl)));done),?_⟩))) ?_;rintro j _ ⟨hj,rfl⟩;refine af [0,3,9,10,11,12] ?_;refine av ?_ ?_<;>intro aL bB
 ·have aa:j<ls.length:=(by simp at aL;omega)
  have O:=PZ aa;have hle:=P2 ls (j+1);refine af [0,3,5,9,10,11] ?_;refine cM [0,3,9,10,11] ?_;refine aR 3 ?_ (h:=by exact(dA (r:=.int .i64 ((((ls.take (j+1)).flatten).length:Nat):Int)) rfl ot ot (kr (by rw[show((((ls.take j).flatten).length:Nat):Int)+(ls[j].length:Nat)=((((ls.take (j+1)).flatten).length:Nat):Int) by omega];exact wrap_i64 w4 w4))));refine bH ?_;refine af [0,3,9,10,11,20] ?_;refine av ?_ ?_<;>intro aY cD
  ·exact absurd aY (by simp at aY;omega)
  refine cc [0,3,9,10,11] ?_;refine⟨(j+1),_,cr,(aJ (h:=by repeat (first|exact trivial|refine⟨(by (repeat (first|exact fP|(apply gi;focus (first|rfl|(congr 2;omega)|(simp;done)))|(apply fU;focus rfl)));done),?_⟩))),w4,rfl⟩
 obtain rfl:j=ls.length:=(by simp at aL;omega)
 rw[take_length];refine aB 1 ?_;refine OD.call ap rfl rfl rfl call146 (abH ls.flatten.length h0 hn) ⟨bP,ot,trivial⟩ (Perm.refl _) ?_;rintro _ _ ⟨b,cp,yp,rfl,rfl⟩;refine OD.perm (Perm.refl _) ?_;refine an 36 [0,6] ?_;refine af [6,25,26,27] ?_;refine CD.block ?_;refine nq (fun (E:Nat×Option Addr×Nat×List ah) aE=>match E with|(j,dN,dg,Sx)=>(j≤ls.length)∧(bn 170 3 (((ls.take j).flatten).flatMap cT) ((ls.take j).flatten).length dN dg Sx)∧aE=(⟨36,[(6,aP dN ((ls.take j).flatten).length dg),(25,au 1 D5 ls),(26,ae (ls.length:Nat)),(27,ae (j:Nat))],(Sx)⟩:St)) (fun (E:Nat×Option Addr×Nat×List ah)=>match E with|(j,dN,dg,Sx)=>ls.length-j) (0,(some ⟨b,0,none⟩),cp,[⟨b,170,cp*3,[]⟩]) ⟨(Nat.zero_le _),(bn.cast (abG yp) (by rfl)),rfl⟩ (aJ (h:=by repeat (first|exact trivial|refine⟨(by (repeat (first|exact fP|(apply gi;focus (first|rfl|(simp;done)|(congr 2;omega)|(apply eP;rw[Ff aa])|(apply eP;rfl)|(apply eP;simp;done)))|(apply fU;focus rfl)));done),?_⟩))) ?_;rintro⟨j,dN,dg,Sx⟩ _ ⟨hj,ey,rfl⟩;refine af [6,25,26,27,28] ?_;refine av ?_ ?_<;>intro cm cR
 ·have aa:j<ls.length:=(by simp at cm;omega)
  have O:=PZ aa;have hle:=P2 ls (j+1);refine af [6,8,25,26,27] ?_;refine dY 2 ?_;refine OD.pQ (ls:=((ls.take j).flatten)) (new:=ls[j]) (Sq:=Sx) iX lX ap rfl rfl underlying110 P8 rfl w7 runUnderlying110 sizeOf170 ot ey (dI (A:=[])) ot HJ w4 (fun U Z S33 akk=>?_);refine OD.perm (ez (A:=[])) ?_;refine an 36 [6,25,26,27] ?_;refine cc [6,25,26,27] ?_;refine⟨((j+1),U,Z,S33),_,cr,(aJ (h:=by repeat (first|exact trivial|refine⟨(by (repeat (first|exact fP|(apply gi;focus (first|rfl|(simp;done)|(congr 2;omega)|(apply eP;rw[Ff aa])|(apply eP;rfl)|(apply eP;simp;done)))|(apply fU;focus rfl)));done),?_⟩))),w4,(bn.cast akk (by rw[Ff aa])),rfl⟩
 obtain rfl:j=ls.length:=(by simp at cm;omega)
 refine af [2] ?_;refine aM Sx ?_;have I:=ey;rw[take_length] at I;exact⟨dN,dg,by rw[take_length],I⟩
theorem Fg(ls:List (List Tk))(E:ls.length≤1000)(h0:0<ls.flatten.length)(hn:ls.flatten.length≤100000):VP Tryz.prog G 105 [au 1 D5 ls] (au 3 cT ls.flatten):=VC.xJ iX (aas ls E h0 hn)
def tc(o:aK)(a b:List Tk):List Tk :=
 if o.k=1 then jx o.v else if o.k=2 then [bE o.nm]
 else if o.k=5 then [[dS ⟨#[40]⟩,bE ⟨#[78,79,84]⟩],a,[dS ⟨#[41]⟩]].flatten
 else if o.k=11 then [[dS ⟨#[40]⟩],a,[bE ⟨#[73,83]⟩,bE ⟨#[78,85,76,76]⟩],[dS ⟨#[41]⟩]].flatten
 else [[dS ⟨#[40]⟩],a,[Aq o.k],b,[dS ⟨#[41]⟩]].flatten
def eR(h:List (List Tk))(o:aK):Nat:=h.length-(bS o.k).toNat
def oG(h:List (List Tk))(o:aK):List (List Tk):=h.take (eR h o)++[tc o (h.getD (eR h o) []) (h.getD (eR h o+1) [])]
def qQ(l:List aK):List Tk:=(l.foldl oG []).getD 0 []
theorem afv{h:Int}(he:gD h o=0):1≤o.k∧o.k≤11∧jf o.v=0∧bS o.k≤h:=by
 unfold gD at he;split at he
 ·cases he
 split at he
 ·exact absurd he uL
 split at he
 ·cases he
 split at he
 ·rename_i h4;exact absurd he h4.2
 split at he
 ·cases he
 exact⟨by omega,by omega,by omega,by omega⟩
theorem afw{l:List aK}{h:Int}(hi:i<l.length)(he:fX h (l.drop i)=0):gD h l[i]=0:=by
 rw[drop_eq_getElem_cons hi,fX] at he;split at he
 ·assumption
 exact he
theorem Vp{v:Vl}(h:jf v=0)(h1:-9223372036854775808≤v.n)(h2:v.n≤9223372036854775807):nr v:=by
 unfold jf cg at h;split at h
 ·cases h
 have hn:¬(v.k=2∧v.n = -9223372036854775808):=(by assumption)
 repeat' split at h
 all_goals first|(exfalso;omega)|(unfold nr;refine⟨?_,?_,h2⟩<;>omega)
theorem Se(hp:bS o.k≤(h.length:Int)):((oG h o).length:Int)=h.length+(1-bS o.k):=by
 have:=uh o.k;unfold oG eR;rw[length_append,length_take];simp only[length_cons,length_nil];omega
theorem Bw(h:List (List Tk))(n:Nat):h.flatten.length=(h.take n).flatten.length+(h.drop n).flatten.length:=by
 conv=>lhs;rw[←take_append_drop n h,flatten_append,length_append]
theorem vh:(h.getD n []).length≤(h.drop n).flatten.length∧(h.getD n []).length+(h.getD (n+1) []).length≤(h.drop n).flatten.length:=by
 by_cases hn:n<h.length
 ·rw[drop_eq_getElem_cons hn];have e1:h.getD n []=h[n]:=(by rw[getD_eq_getElem?_getD,getElem?_eq_getElem hn];rfl)
  rw[e1,flatten_cons,length_append];refine⟨by omega,?_⟩;by_cases gJ:n+1<h.length
  ·rw[drop_eq_getElem_cons gJ,flatten_cons,length_append];have e2:h.getD (n+1) []=h[n+1]:=(by rw[getD_eq_getElem?_getD,getElem?_eq_getElem gJ];rfl)
   rw[e2];omega
  have e2:h.getD (n+1) []=[]:=(by rw[getD_eq_getElem?_getD,getElem?_eq_none w4];rfl)
  rw[e2];simp only[length_nil];omega
 have e1:h.getD n []=[]:=(by rw[getD_eq_getElem?_getD,getElem?_eq_none w4];rfl)
 have e2:h.getD (n+1) []=[]:=(by rw[getD_eq_getElem?_getD,getElem?_eq_none w4];rfl)
 rw[e1,e2];exact⟨by simp,by simp⟩
theorem Uc(o:aK)(a b:List Tk):(tc o a b).length≤a.length+b.length+5∧0<(tc o a b).length:=by
 have:=QT o.v;unfold tc;repeat' split
 all_goals first|exact⟨by omega,by omega⟩|(simp only[flatten_cons,flatten_nil,length_append,length_cons,length_nil];exact⟨by omega,by omega⟩)
theorem QU:(oG h o).flatten.length≤h.flatten.length+5:=by
 have h1:=Bw h (eR h o);have h2:=(vh (h:=h) (n:=eR h o)).2;have h3:=(Uc o (h.getD (eR h o) []) (h.getD (eR h o+1) [])).1;unfold oG;rw[flatten_append,length_append];simp only[flatten_cons,flatten_nil,append_nil];omega
theorem abI{l:List aK}(hi:i<l.length):(l.take (i+1)).foldl oG []=oG ((l.take i).foldl oG []) l[i]:=by
 rw[take_succ_eq_append_getElem hi,foldl_append];rfl
theorem FY{e sz cap:Nat}{cs:List D}{ad:Option Addr}{S:List ah}(h:bn e sz cs n ad cap S)(hn:0<n):∃b,ad=some ⟨b,0,none⟩∧n≤cap∧cap≤maxLen∧S=[⟨b,e,cap*sz,cs⟩]:=by
 rcases h with ⟨h1,_⟩|h
 ·omega
 exact h
theorem mR{h:List α}{d:α}(hn:n<h.length):h.getD n d=h[n]:=by rw[getD_eq_getElem?_getD,getElem?_eq_getElem hn];rfl
theorem aat:(Tryz.prog.info? 110).map (fun i=>(i.zero,i.size,i.bytes))=some (some (.slice none 0 0),1,24):=by kernel_rfl
theorem Qo(l:List aK)(hl:l.length≤40)(he:fX 0 l=0)(hr:∀o∈l,-9223372036854775808≤o.v.n∧o.v.n≤9223372036854775807):VP Tryz.prog G 107 [au 5 cO l] (.list 3 ((qQ l).flatMap cT) (qQ l).length):=by
 refine VC.body func107 rfl ntmps107 aQ fun X0 w0 bf=>?_;have c8:=dV;refine af [0] ?_;refine cf ?_;refine bp [0,3] ?_;refine af [3,8,9,10] ?_;refine CD.block ?_;refine nq (fun (jO:Nat×List (List Tk)×Option Addr×Nat×List ah) aE=>match jO with|(i,H,Bh,E,Sh)=>(i≤l.length)∧(H=(l.take i).foldl oG [])∧(fX ((H).length:Int) (l.drop i)=0)∧((H).length≤i)∧((H).flatten.length≤5*i)∧(bn 110 1 ((H).flatMap cK) (H).length Bh E Sh)∧aE=(⟨90,[(3,aP Bh (H).length E),(8,au 5 cO l),(9,ae (l.length:Nat)),(10,ae (i:Nat))],(Sh)⟩:St)) (fun (jO:Nat×List (List Tk)×Option Addr×Nat×List ah)=>match jO with|(i,H,Bh,E,Sh)=>l.length-i) (0,[],none,0,[]) ⟨(Nat.zero_le _),rfl,he,(Nat.le_refl _),(Nat.le_refl _),(bn.cast iW (by rfl)),rfl⟩ (aJ (h:=by repeat (first|exact trivial|refine⟨(by (repeat (first|exact fP|(apply gi;focus (first|rfl|(simp;done)|(congr 2;omega)|(apply eP;rw[hT];rfl)|(apply eP;rfl)|(apply eP;simp;done)))|(apply fU;focus rfl)));done),?_⟩))) ?_;rintro⟨i,H,Bh,E,Sh⟩ _ ⟨hi,hH,hx,hHi,hHf,Bi,rfl⟩;refine af [3,8,9,10,11] ?_;refine av ?_ ?_<;>intro aL bB
 ·have aa:i<l.length:=(by simp at aL;omega)
  have Bf:=afw aa hx;obtain⟨ei,WW,akl,HY⟩:=afv Bf;have uX:=uh l[i].k;have MM:l.length≤40:=hl;have akm:eR H l[i]≤H.length:=Nat.sub_le _ _;have akn:=Vp akl (hr _ (getElem_mem aa)).1 (hr _ (getElem_mem aa)).2;refine aB 2 ?_;refine OD.alloc (ds:=[_,_,_,_,_]) ap rfl rfl zeroValue35 rfl (fun b5=>?_);refine aO 0 [_,_,_,_,_] sizeOf35 ?_;refine an 90 [3,5,8,9,10] ?_;refine cM [3,5,6,8,9,10] ?_;refine cN (KB l[i].k) ?_;refine aR 0 ?_ (h:=by exact(dA (r:=.int .i64 (((eR H l[i]):Nat):Int)) rfl ot ot (iy (by rw[show((H.length:Nat):Int)-bS l[i].k=(((eR H l[i]):Nat):Int) by unfold eR;omega];exact wrap_i64 w4 w4))));refine bH ?_;refine af [3,5,6,8,9,10] ?_;refine iL [6,8,9,10] (fun aS _ aE=>∃(Tx:List Tk),∃(ad:Option Addr),∃(cp:Nat),∃(Sx:List ah),(Tx=tc l[i] (H.getD (eR H l[i]) []) (H.getD (eR H l[i]+1) []))∧(bn 110 1 (H.flatMap cK) H.length ad cp Sx)∧aE=(⟨90,(3,aP ad H.length cp)::(7,au 3 cT Tx)::aS,Sx⟩:St)) ?_ ?_
  ·refine af [3,5,6,8,9,10,21] ?_;refine af [3,5,6,8,9,10,21,41] ?_;refine av ?_ ?_<;>intro aY cD
   ·refine iU [3,6,7,8,9,10] ?_;refine cN (P3 l[i].v akn) ?_;refine bH ?_;refine⟨_,aJ,jx l[i].v,Bh,E,Sh,(by unfold tc;rw[if_pos cD]),Bi,rfl⟩
   refine af [3,5,6,8,9,10,21,46] ?_;refine av ?_ ?_<;>intro cm cR
   ·refine iU [3,6,7,8,9,10] ?_;refine cN (sP [l[i].nm] AT) ?_;refine bH ?_;refine⟨_,aJ,[bE l[i].nm],Bh,E,Sh,(by unfold tc;rw[if_neg cD,if_pos cR]),Bi,rfl⟩
   refine af [3,5,6,8,9,10,21,52] ?_;refine av ?_ ?_<;>intro da eA
   ·have D6:l[i].k=5:=(by simpa using da)
    have hp1:bS l[i].k=1:=(by rw[D6];decide)
    have hg1:=(vh (h:=H) (n:=eR H l[i])).1;have hg2:=(vh (h:=H) (n:=eR H l[i])).2;have hg3:=Bw H (eR H l[i]);have Z:0<H.length:=(by omega)
    obtain⟨bh,I,O,U,yM⟩:=FY Bi Z;subst I yM;have gH:eR H l[i]<H.length:=(by unfold eR;omega)
    rw[mR gH] at hg1 hg2;skip;refine iU [3,6,7,8,9,10] ?_;refine cN (nv ⟨#[40]⟩) ?_;refine cN (rH ⟨#[78,79,84]⟩) ?_;refine aR 4 ?_ (h:=by first|exact(cW (mk:=Op.load 110) rfl ot NH)|exact(cW (mk:=Op.load 110) rfl ot NG)|exact(cW (mk:=Op.load 110) rfl ot NF));refine cN (nv ⟨#[41]⟩) ?_;refine cN (Fg ([[dS ⟨#[40]⟩,bE ⟨#[78,79,84]⟩],H[eR H l[i]],[dS ⟨#[41]⟩]]) NM AL AL) ?_;refine bH ?_;refine⟨_,aJ,[[dS ⟨#[40]⟩,bE ⟨#[78,79,84]⟩],H[eR H l[i]],[dS ⟨#[41]⟩]].flatten,(some ⟨bh,0,none⟩),E,[⟨bh,110,E*1,H.flatMap cK⟩],(by unfold tc;rw[if_neg cD,if_neg cR,if_pos eA,mR gH]),(bQ O U),rfl⟩
   refine af [3,5,6,8,9,10,65] ?_;refine av ?_ ?_<;>intro dR fH
   ·have OH:l[i].k=11:=(by simpa using dR)
    have hp1:bS l[i].k=1:=(by rw[OH];decide)
    have hg1:=(vh (h:=H) (n:=eR H l[i])).1;have hg2:=(vh (h:=H) (n:=eR H l[i])).2;have hg3:=Bw H (eR H l[i]);have Z:0<H.length:=(by omega)
    obtain⟨bh,I,O,U,yM⟩:=FY Bi Z;subst I yM;have gH:eR H l[i]<H.length:=(by unfold eR;omega)
    rw[mR gH] at hg1 hg2;skip;refine iU [3,6,7,8,9,10] ?_;refine cN (nv ⟨#[40]⟩) ?_;refine aR 4 ?_ (h:=by first|exact(cW (mk:=Op.load 110) rfl ot NH)|exact(cW (mk:=Op.load 110) rfl ot NG)|exact(cW (mk:=Op.load 110) rfl ot NF));refine cN (sP [⟨#[73,83]⟩,⟨#[78,85,76,76]⟩] (by show 2≤10;decide)) ?_;refine cN (nv ⟨#[41]⟩) ?_;refine cN (Fg ([[dS ⟨#[40]⟩],H[eR H l[i]],[bE ⟨#[73,83]⟩,bE ⟨#[78,85,76,76]⟩],[dS ⟨#[41]⟩]]) NM AL AL) ?_;refine bH ?_;refine⟨_,aJ,[[dS ⟨#[40]⟩],H[eR H l[i]],[bE ⟨#[73,83]⟩,bE ⟨#[78,85,76,76]⟩],[dS ⟨#[41]⟩]].flatten,(some ⟨bh,0,none⟩),E,[⟨bh,110,E*1,H.flatMap cK⟩],(by unfold tc;rw[if_neg cD,if_neg cR,if_neg eA,if_pos fH,mR gH]),(bQ O U),rfl⟩
   have hkb:¬l[i].k=1∧¬l[i].k=2∧¬l[i].k=5∧¬l[i].k=11:=⟨by simpa using aY,by simpa using cm,by simpa using da,by simpa using dR⟩
   have oP:bS l[i].k=2:=(by unfold bS;rw[if_neg w4,if_neg w4])
   have hg1:=(vh (h:=H) (n:=eR H l[i])).1;have hg2:=(vh (h:=H) (n:=eR H l[i])).2;have hg3:=Bw H (eR H l[i]);have Z:0<H.length:=(by omega)
   obtain⟨bh,I,O,U,yM⟩:=FY Bi Z;subst I yM;have gH:eR H l[i]<H.length:=(by unfold eR;omega)
   have gI:eR H l[i]+1<H.length:=(by unfold eR;omega)
   rw[mR gH,mR gI] at hg2;rw[mR gH] at hg1;refine iU [3,6,7,8,9,10] ?_;refine cN (nv ⟨#[40]⟩) ?_;refine aR 4 ?_ (h:=by first|exact(cW (mk:=Op.load 110) rfl ot NH)|exact(cW (mk:=Op.load 110) rfl ot NG)|exact(cW (mk:=Op.load 110) rfl ot NF));refine cN (aaP l[i].k w4) ?_;refine aR 3 ?_ (h:=by exact(dA (r:=.int .i64 ((((eR H l[i])+1:Nat)):Int)) rfl ot bP (kr (by rw[show(((eR H l[i]):Nat):Int)+1=(((eR H l[i])+1:Nat):Int) by omega];exact wrap_i64 w4 w4))));refine aR 1 ?_ (h:=by first|exact(cW (mk:=Op.load 110) rfl ot (by exact jk (k:=0) (i:=((eR H l[i])+1)) gw rfl rfl rfl isAgg110 gI rfl))|exact(cW (mk:=Op.load 110) rfl ot (by exact jk (k:=1) (i:=((eR H l[i])+1)) gw rfl rfl rfl isAgg110 gI rfl))|exact(cW (mk:=Op.load 110) rfl ot (by exact jk (k:=2) (i:=((eR H l[i])+1)) gw rfl rfl rfl isAgg110 gI rfl)));refine cN (nv ⟨#[41]⟩) ?_;refine cN (Fg ([[dS ⟨#[40]⟩],H[eR H l[i]],[Aq l[i].k],H[eR H l[i]+1],[dS ⟨#[41]⟩]]) NM AL AL) ?_;refine bH ?_;refine⟨_,aJ,[[dS ⟨#[40]⟩],H[eR H l[i]],[Aq l[i].k],H[eR H l[i]+1],[dS ⟨#[41]⟩]].flatten,(some ⟨bh,0,none⟩),E,[⟨bh,110,E*1,H.flatMap cK⟩],(by unfold tc;rw[if_neg cD,if_neg cR,if_neg eA,if_neg fH,mR gH,mR gI]),(bQ O U),rfl⟩
  rintro _ ⟨Tx,ad,cp,Sx,hT,ey,rfl⟩;have hTl:=Uc l[i] (H.getD (eR H l[i]) []) (H.getD (eR H l[i]+1) []);refine dY 3 ?_;refine bV (ZV ey rfl ot ot ot runUnderlying163 sizeOf110 (by unfold eR;omega)) ?_;refine aH 1 ?_;refine eD (cq 0 [_]) [.slice none 0 0] [_] zeroValue110 runUnderlying163 sizeOf110 (fun b84=>?_);refine fT 0 84 1 1 ?_;refine OD.aaL (ls:=H) (new:=[Tx]) (n:=eR H l[i]) (Sq:=Sx) gw pZ ap rfl rfl underlying163 aat rfl w7 ot ey (dI (A:=[])) (by unfold eR;omega) ot bj (by simp only[maxLen,length_cons,length_nil];omega) (by simp only[length_cons,length_nil];omega) (fun OI MN ako akp=>?_);refine OD.perm (ez (S1:=[⟨OI,110,MN*1,flatMap cK (H.take (eR H l[i])++[Tx])⟩]) (A:=[])) ?_;refine an 90 [3,8,9,10] ?_;refine cc [3,8,9,10] ?_;refine⟨((i+1),(oG H l[i]),(some ⟨OI,0,none⟩),MN,[⟨OI,110,MN*1,flatMap cK (H.take (eR H l[i])++[Tx])⟩]),_,cr,(aJ (h:=by repeat (first|exact trivial|refine⟨(by (repeat (first|exact fP|(apply gi;focus (first|rfl|(simp;done)|(congr 2;omega)|(apply eP;rw[hT];rfl)|(apply eP;rfl)|(apply eP;simp;done)))|(apply fU;focus rfl)));done),?_⟩))),w4,(by rw[hH,←abI aa]),(by rw[Se HY,←R7 aa Bf];exact hx),(by have:=Se HY;omega),(by have:=QU (h:=H) (o:=l[i]);omega),(bn.cast (bQ ako akp) (by rw[hT];rfl)),rfl⟩
 have uF:l.length≤i:=(by simp at aL;omega)
 have fk:=hx;rw[QR uF] at fk;have hH1:H.length=1:=(by (split at fk;omega;cases fk))
 refine CD.exit ?_;refine CD.seq ?_;obtain⟨bh,I,O,U,yM⟩:=FY Bi (show 0<H.length by omega);subst I yM;have gH:0<H.length:=(by omega)
 refine iU [2] ?_;refine aR 1 ?_ (h:=by exact(o9 (mk:=Op.indexAddr 163) rfl ot bP (by first|exact pU runUnderlying163 sizeOf110 (j:=0) rfl (by first|exact gH|exact gI)|exact pY runUnderlying163 sizeOf110 (j:=0) rfl (by first|exact gH|exact gI))));refine aR 0 ?_ (h:=by first|exact(cW (mk:=Op.load 110) rfl ot (by exact jk (k:=0) (i:=0) gw rfl rfl rfl isAgg110 gH rfl))|exact(cW (mk:=Op.load 110) rfl ot (by exact jk (k:=1) (i:=0) gw rfl rfl rfl isAgg110 gH rfl))|exact(cW (mk:=Op.load 110) rfl ot (by exact jk (k:=2) (i:=0) gw rfl rfl rfl isAgg110 gH rfl)));refine bH ?_;refine aM [] ?_;refine⟨?_,rfl⟩;unfold qQ;rw[show l.foldl oG []=H by rw[hH,take_of_length_le uF],mR gH]

end Go.Proofs.YtkgmonfgofobaaaGreatDoor.Pa
namespace Go.Proofs.YtkgmonfgofobaaaGreatDoor.Pa

open List
open Go.Proofs.Tryz
open Go.RowKit V Pk Vl Go.Proofs.YtkgmonfgofobaaaGreatDoor.Nm Pc
variable {G:List (Nat×List Value)}
variable {α:Type} {i:Nat} {E:List ByteArray}
def bg(s:bA):List D:=[ae s.kind,aZ s.table,au 2 cC s.ay,au 3 cV s.row,au 1 cS s.names,bG s.count,au 5 cO s.aj,aZ s.order,bG s.down,ae s.iD,aZ s.set,au 5 cO s.bJ]
def okS(s:bA):Prop:=s.ay.length≤6∧s.row.length≤6∧s.names.length≤6∧s.aj.length≤40∧s.bJ.length≤40

def j5{α:Type}(f:α→Int):List α→Int
 | []=>0
 | a::r=>if f a≠0 then f a else j5 f r
theorem Si{f:α→Int}{l:List α}(hi:i<l.length)(h:f l[i]≠0):j5 f (l.drop i)=f l[i]:=by rw[drop_eq_getElem_cons hi,j5,if_pos h]
theorem Sj{f:α→Int}{l:List α}(hi:i<l.length)(h:f l[i]=0):j5 f (l.drop i)=j5 f (l.drop (i+1)):=by rw[drop_eq_getElem_cons hi,j5,if_neg (by rw[h];decide)]
theorem QV{f:α→Int}{l:List α}(hi:l.length≤i):j5 f (l.drop i)=0:=by rw[drop_of_length_le hi];rfl
def dQ(l:List Vl):Int:=if l.length<1∨l.length>6 then 1 else j5 jf l
def ny(l:List aK):Int:=if l.length=0 then 0 else gN l
def pp(s:bA):Int :=
 if s.names.length>6 then 1 else if s.iD < -1 then 3
 else if (s.count=true∧0<s.names.length)∨(s.down=true∧jt s.order ⟨#[]⟩=true) then 6
 else if j5 cy s.names≠0 then j5 cy s.names else if ny s.aj≠0 then ny s.aj else if jt s.order ⟨#[]⟩=true then 0 else cy s.order
def eE(s h:bA):Bool:=jt s.table h.table&&(((s.ay.length:Int)==(h.ay.length:Int))&&(((s.row.length:Int)==(h.row.length:Int))&&(((s.names.length:Int)==(h.names.length:Int))&&((s.count==h.count)&&(((s.aj.length:Int)==(h.aj.length:Int))&&(jt s.order h.order&&((s.down==h.down)&&((s.iD==h.iD)&&(jt s.set h.set&&((s.bJ.length:Int)==(h.bJ.length:Int)))))))))))
structure eI (s:bA):Prop where
 ok:okS s
 t:s.table.size≤maxLen
 c:∀c∈s.ay,c.n.size≤maxLen
 n:∀x∈s.names,x.size≤maxLen
 o:s.order.size≤maxLen
 e:s.set.size≤maxLen
 r:∀v∈s.row,-9223372036854775808≤v.n∧v.n≤9223372036854775807
 w:∀o∈s.aj,o.nm.size≤maxLen∧-9223372036854775808≤o.v.n∧o.v.n≤9223372036854775807
 x:∀o∈s.bJ,o.nm.size≤maxLen∧-9223372036854775808≤o.v.n∧o.v.n≤9223372036854775807
def j6(l:List aK):List Tk:=if l.length=0 then [] else [⟨#[87,72,69,82,69]⟩].map bE++qQ l
theorem RG(hm:(3,marksC)∈G)(hw:(1,wordsC)∈G)(l:List ByteArray)(hl:l.length≤1000)(hs:∀s∈l,s.size≤maxLen):VP Tryz.prog G 144 [au 1 cS l] (ae (j5 cy l)):=by
 refine VC.body func144 rfl ntmps144 aQ fun X0 w0 bf=>?_;refine af [0] ?_;refine af [6,7,8] ?_;refine eG [6,7] (fun aS _ (i:Nat) aE=>(i≤l.length)∧(j5 cy l=j5 cy (l.drop i))∧aE=(⟨18,(8,ae (i:Nat))::aS,[]⟩:St)) (fun (i:Nat)=>l.length-i) 0 ⟨(Nat.zero_le _),rfl,rfl⟩ ?_;rintro i _ ⟨hi,hx,rfl⟩;refine af [6,7,8,9] ?_;refine av ?_ ?_<;>intro aL bB
 ·have aa:i<l.length:=(by simp at aL;omega)
  refine af [4,6,7,8] ?_;refine cL [5,6,7,8] (vo hm hw l[i] (hs _ (getElem_mem aa))) ?_;refine af [5,6,7,8,15] ?_;refine av ?_ ?_<;>intro aY cD
  ·have hn:cy l[i]≠0:=(by simpa using aY)
   have fk:=hx.trans (Si aa hn);refine af [2] ?_;exact yw
  have h0:cy l[i]=0:=(by simpa using aY)
  refine cc [6,7,8] ?_;refine⟨(i+1),_,cr,aJ,w4,(hx.trans (Sj aa h0)),rfl⟩
 have fk:j5 cy l=0:=hx.trans (QV uI);refine af [2] ?_;exact DF
theorem afx(l:List Vl)(hl:l.length≤1000):VP Tryz.prog G 97 [au 3 cV l] (ae (dQ l)):=by
 refine VC.body func97 rfl ntmps97 aQ fun X0 w0 bf=>?_;have O:(l.length<1∨l.length>6)∨¬(l.length<1∨l.length>6):=(by omega)
 refine af [0] ?_;refine aB 4 ?_;refine bY 9 (fun I E=>?_) (fun I E=>?_)
 ·refine bp [0,13] ?_;refine eY ?_;exact z116
 refine bp [0,13] ?_;refine av ?_ ?_<;>intro aL bB
 ·exact z116
 have hf:dQ l=j5 jf l:=if_neg w4;refine af [14,15,16] ?_;refine eG [14,15] (fun aS _ (i:Nat) aE=>(i≤l.length)∧(j5 jf l=j5 jf (l.drop i))∧aE=(⟨26,(16,ae (i:Nat))::aS,[]⟩:St)) (fun (i:Nat)=>l.length-i) 0 ⟨(Nat.zero_le _),rfl,rfl⟩ ?_;rintro i _ ⟨hi,hx,rfl⟩;refine af [14,15,16,17] ?_;refine av ?_ ?_<;>intro aY cD
 ·have aa:i<l.length:=(by simp at aY;omega)
  refine aB 2 ?_;refine OD.alloc (ds:=[_,_,_]) ap rfl rfl zeroValue33 rfl (fun U=>?_);refine aO 0 [_,_,_] sizeOf33 ?_;refine an 26 [4,14,15,16] ?_;refine cL [5,14,15,16] (Nm.Qk l[i]) ?_;refine af [5,14,15,16,23] ?_;refine av ?_ ?_<;>intro cm cR
  ·have hn:jf l[i]≠0:=(by simpa using cm)
   have fk:=hf.trans (hx.trans (Si aa hn));refine af [2] ?_;exact yw
  have h0:jf l[i]=0:=(by simpa using cm)
  refine cc [14,15,16] ?_;refine⟨(i+1),_,cr,aJ,w4,(hx.trans (Sj aa h0)),rfl⟩
 have fk:dQ l=0:=hf.trans (hx.trans (QV (by simp at aY;omega)));refine af [2] ?_;exact DF
theorem E7(hm:(3,marksC)∈G)(hw:(1,wordsC)∈G)(l:List aK)(hs:∀o∈l,o.nm.size≤maxLen):VP Tryz.prog G 99 [au 5 cO l] (ae (ny l)):=by
 refine VC.body func99 rfl ntmps99 aQ fun X0 w0 bf=>?_;refine af [0] ?_;refine af [0,5] ?_;refine av ?_ ?_<;>intro aL bB
 ·have fk:ny l=0:=if_pos uI;refine af [2] ?_;exact yw
 have fk:ny l=gN l:=if_neg uI;refine cL [2] (KC hm hw l hs) ?_;exact DF
theorem adB(hm:(3,marksC)∈G)(hw:(1,wordsC)∈G)(s:bA)(hf:eI s):VP Tryz.prog G 98 [.agg (bg s)] (ae (pp s)):=by
 refine VC.body func98 rfl ntmps98 aQ fun X0 w0 bf=>?_;unfold bg;refine cf ?_;refine OD.box (ds:=[_,_,_,_,_,_,_,_,_,_,_,_]) ap rfl rfl ot rfl rfl (fun b1=>?_);refine an 50 [1] ?_;refine af [1,5] ?_;refine av ?_ ?_<;>intro aL bB
 ·refine af [2] ?_;refine aM [] ?_;exact XK
 refine af [1,10] ?_;refine av ?_ ?_<;>intro aY cD
 ·refine af [2] ?_;refine aM [] ?_;exact XK
 refine aB 3 ?_;refine bY 17 (fun xT xH=>?_) (fun xT xH=>?_)
 ·refine aH 6 ?_;refine bY 23 (fun U O=>?_) (fun U O=>?_)
  ·refine bp [1,14] ?_;refine eY ?_;refine af [2] ?_;exact DB
  refine aH 3 ?_;refine bY 26 (fun I E=>?_) (fun I E=>?_)
  ·exact WK
  refine bp [1,14] ?_;refine gq ?_;exact XJ
 refine yG 4 ?_;refine aH 5 ?_;refine bY 26 (fun I E=>?_) (fun I E=>?_)
 ·exact WK
 refine bp [1,14] ?_;refine gq ?_;refine cL [1,3] (RG hm hw s.names (by have:=hf.ok.2.2.1;omega) hf.n) ?_;refine af [1,3,36] ?_;refine av ?_ ?_<;>intro da eA
 ·refine af [2] ?_;exact DB
 refine cL [1,4] (E7 hm hw s.aj (fun o h=>(hf.w o h).1)) ?_;refine af [1,4,42] ?_;refine av ?_ ?_<;>intro dR fH
 ·refine af [2] ?_;exact DB
 refine af [1,46] ?_;refine av ?_ ?_<;>intro fM gW
 ·refine cL [2] (vo hm hw s.order hf.o) ?_;exact DB
 refine af [2] ?_;refine eZ ?_;refine⟨vi ?_,rfl⟩;unfold pp jt;simp_all;all_goals (try (intros;(repeat' split)<;>first|rfl|omega))
theorem afy(s h:bA):VP Tryz.prog G 100 [.agg (bg s),.agg (bg h)] (bG (eE s h)):=by
 refine VC.body func100 rfl ntmps100 aQ fun X0 w0 bf=>?_;unfold bg;refine cf ?_;refine OD.box (ds:=[_,_,_,_,_,_,_,_,_,_,_,_]) ap rfl rfl ot rfl rfl (fun b2=>?_);refine OD.box (ds:=[_,_,_,_,_,_,_,_,_,_,_,_]) ap rfl rfl ot rfl rfl (fun b3=>?_);refine an 90 [2,3] ?_;refine aB 6 ?_;refine bY 10 (fun akq E=>?_) (fun akq E=>?_)
 ·refine aH 9 ?_;refine bY 19 (fun MO I=>?_) (fun MO I=>?_)
  ·refine aH 9 ?_;refine bY 28 (fun akr O=>?_) (fun akr O=>?_)
   ·refine aH 9 ?_;refine bY 37 (fun aks U=>?_) (fun aks U=>?_)
    ·refine aH 4 ?_;refine OD.still iJ rfl (dA rfl ot ot (Fu underlying4)) ?_;refine aH 2 ?_;refine bY 44 (fun C2 Z=>?_) (fun C2 Z=>?_)
     ·refine aH 9 ?_;refine bY 53 (fun MP L0=>?_) (fun MP L0=>?_)
      ·refine aH 7 ?_;refine bY 60 (fun akt L1=>?_) (fun akt L1=>?_)
       ·refine aH 4 ?_;refine OD.still iJ rfl (dA rfl ot ot (Fu underlying4)) ?_;refine aH 2 ?_;refine bY 67 (fun aku aix=>?_) (fun aku aix=>?_)
        ·refine aH 7 ?_;refine bY 74 (fun akv aiy=>?_) (fun akv aiy=>?_)
         ·refine aH 7 ?_;refine bY 81 (fun akw aiz=>?_) (fun akw aiz=>?_)
          ·exact yq
          exact yq
         exact yq
        exact yq
       exact yq
      exact yq
     exact yq
    refine bp [4] ?_;refine eZ ?_;exact NY
   refine bp [4] ?_;refine eZ ?_;exact NY
  refine bp [4] ?_;refine eZ ?_;exact NY
 refine bp [4] ?_;refine eZ ?_;refine⟨vb ?_,rfl⟩;unfold eE jt;simp_all;all_goals (try (intros;omega))
theorem aau:(Tryz.prog.info? 170).map (fun i=>(i.zero,i.size,i.bytes))=some (some (.agg #[.int .i64 0,.string ⟨#[]⟩,.int .i64 0]),3,32):=by kernel_rfl
theorem IJ(l:List aK)(hl:l.length≤40)(he:l.length=0∨fX 0 l=0)(hr:∀o∈l,-9223372036854775808≤o.v.n∧o.v.n≤9223372036854775807)(hsl:(qQ l).length≤1000):VP Tryz.prog G 108 [au 5 cO l] (.list 3 ((j6 l).flatMap cT) (j6 l).length):=by
 refine VC.body func108 rfl ntmps108 aQ fun X0 w0 bf=>?_;refine af [0] ?_;refine af [0,5] ?_;refine av ?_ ?_<;>intro aL bB
 ·have fk:j6 l=[]:=if_pos uI;refine af [2] ?_;refine CD.wk (Wk.ue (t:=2) (sz:=3) lk) ?_;exact yw
 have fk:j6 l=[⟨#[87,72,69,82,69]⟩].map bE++qQ l:=if_neg uI;have I:fX 0 l=0:=he.resolve_left uI;refine cf ?_;refine eD (cq 0 [_]) [.string ⟨#[]⟩] [_] zeroValue9 runUnderlying44 sizeOf9 (fun U=>?_);refine OD.perm (ez (S1:=[⟨U,9,1*1,flatMap cS ([⟨#[87,72,69,82,69]⟩])⟩]) (A:=[])) ?_;refine OD.iE (t:=6) (Sq:=[⟨U,9,1*1,flatMap cS ([⟨#[87,72,69,82,69]⟩])⟩]) lk (bQ (g:=cS) (sz:=1) (e:=9) (ls:=[⟨#[87,72,69,82,69]⟩]) (Nat.le_refl _) (show 1≤maxLen by decide)) (cz jJ _) (dI (A:=[])) ?_;refine OD.call ap rfl rfl rfl call101 (zM [⟨#[87,72,69,82,69]⟩] AT) ⟨ot,trivial⟩ (fg _) ?_;rintro _ S7 ⟨Y3,Y4,rfl,qp⟩;refine OD.perm (S':=S7) (append_nil _ ▸ Perm.refl _) ?_;refine aH 1 ?_;refine ec call107 (Qo l hl I hr) ?_;refine OD.pQ (ls:=([⟨#[87,72,69,82,69]⟩].map bE)) (new:=(qQ l)) (Sq:=S7) iX lX ap rfl rfl underlying110 aau rfl w7 runUnderlying110 sizeOf170 ot qp (dI (A:=[])) ot (by simp only[maxLen,length_map,length_cons,length_nil];omega) (by simp only[length_map,length_cons,length_nil];omega) (fun Z aqY O E=>?_);refine OD.perm (ez (A:=[])) ?_;refine an 11 [2] ?_;refine CD.iE (t:=2) (Sq:=O) lk E (cz iX _) (dI (A:=[])) ?_;exact DF

def rQ(s:bA):ByteArray:=if s.kind<7 then s.table else ⟨#[]⟩
def dW(s:bA):bA :=
 if s.kind=1 then {dz with kind:=s.kind,table:=(rQ s),ay:=s.ay} else if s.kind=3 then {dz with kind:=s.kind,table:=(rQ s),row:=s.row} else if s.kind=4 then {dz with kind:=s.kind,table:=(rQ s),names:=s.names,count:=s.count,aj:=s.aj,order:=s.order,down:=s.down,iD:=s.iD} else if s.kind=5 then {dz with kind:=s.kind,table:=(rQ s),set:=s.set,bJ:=s.bJ,aj:=s.aj} else if s.kind=6 then {dz with kind:=s.kind,table:=(rQ s),aj:=s.aj} else {dz with kind:=s.kind,table:=(rQ s)}
def ew(s:bA):Int :=
 if s.kind=1 then fW s.ay else if s.kind=3 then dQ s.row else if s.kind=4 then pp s
 else if s.kind=5 then (if cy s.set=0 then (if gN s.bJ=0 then ny s.aj else gN s.bJ) else cy s.set) else if s.kind=6 then ny s.aj else 0
def dM(s:bA):Int:=if s.kind<7∧cy s.table≠0 then cy s.table else if ew s=0∧eE s (dW s)=false then 6 else ew s
theorem abJ(hm:(3,marksC)∈G)(hw:(1,wordsC)∈G)(s:bA)(hf:eI s):VP Tryz.prog G 52 [.agg (bg s)] (ae (dM s)):=by
 refine VC.body func52 rfl ntmps52 aQ fun X0 w0 bf=>?_;have I:=adB hm hw s hf;unfold bg at I;unfold bg;refine cf ?_;refine OD.box (ds:=[_,_,_,_,_,_,_,_,_,_,_,_]) ap rfl rfl ot rfl rfl (fun b1=>?_);refine an 102 [1] ?_;refine aB 3 ?_;refine OD.alloc (ds:=[_,_,_,_,_,_,_,_,_,_,_,_]) ap rfl rfl zeroValue46 rfl (fun b3=>?_);refine aO 0 [_,_,_,_,_,_,_,_,_,_,_,_] sizeOf46 ?_;refine an 102 [1,3] ?_;refine iL [1,3] (fun aS _ aE=>∃(tb:ByteArray),(tb=rQ s)∧(¬(s.kind<7∧cy s.table≠0))∧aE=(⟨102,aS,[⟨b3,46,12,[ae s.kind,aZ tb,.list 2 [] 0,.list 3 [] 0,.list 1 [] 0,bG false,.list 5 [] 0,fj,bG false,ae (-1),fj,.list 5 [] 0]⟩,⟨b1,46,12,[ae s.kind,aZ s.table,au 2 cC s.ay,au 3 cV s.row,au 1 cS s.names,bG s.count,au 5 cO s.aj,aZ s.order,bG s.down,ae s.iD,aZ s.set,au 5 cO s.bJ]⟩]⟩:St)) ?_ ?_
 ·refine CD.seq ?_;refine CD.cells (k:=0) (cs':=[_,_,.list 2 [] 0,.list 3 [] 0,.list 1 [] 0,_,.list 5 [] 0,_,_,_,_,.list 5 [] 0]) (S':=[_,_]) rfl (by repeat (first|exact trivial|exact⟨bN,trivial⟩|exact⟨eu,trivial⟩|refine⟨bN,?_⟩|refine⟨eu,?_⟩)) rfl ?_;refine cc [1,3,11] ?_;refine av ?_ ?_<;>intro aL bB
  ·refine aB 3 ?_;refine aO 0 [_,_,_,_,_,_,_,_,_,_,_,_] sizeOf9 ?_;refine an 102 [1,3] ?_;refine cL [1,3,4] (vo hm hw s.table hf.t) ?_;refine af [1,3,4,19] ?_;refine av ?_ ?_<;>intro aY cD
   ·have aW:dM s=cy s.table:=(by unfold dM;rw[if_pos ⟨bB,by simpa using aY⟩])
    exact Mp
   have gH:cy s.table=0:=(by simpa using aY)
   have O:s.table=rQ s:=(by unfold rQ;rw[if_pos bB])
   have U:¬(s.kind<7∧cy s.table≠0):=fun h=>h.2 gH;refine CD.skip ?_;refine⟨_,aJ,s.table,O,U,rfl⟩
  have O:(⟨#[]⟩:ByteArray)=rQ s:=(by unfold rQ;rw[if_neg w4])
  have U:¬(s.kind<7∧cy s.table≠0):=fun h=>by omega
  refine CD.skip ?_;refine⟨_,aJ,⟨#[]⟩,O,U,rfl⟩
 rintro _ ⟨tb,tD,oS,rfl⟩;refine af [1,3,5] ?_;refine iL [1,3] (fun aS _ aE=>∃(H:bA),∃(e:Int),(H=dW s)∧(e=ew s)∧aE=(⟨102,(5,ae e)::aS,[⟨b3,46,12,[ae H.kind,aZ H.table,au 2 cC H.ay,au 3 cV H.row,au 1 cS H.names,bG H.count,au 5 cO H.aj,aZ H.order,bG H.down,ae H.iD,aZ H.set,au 5 cO H.bJ]⟩,⟨b1,46,12,[ae s.kind,aZ s.table,au 2 cC s.ay,au 3 cV s.row,au 1 cS s.names,bG s.count,au 5 cO s.aj,aZ s.order,bG s.down,ae s.iD,aZ s.set,au 5 cO s.bJ]⟩]⟩:St)) ?_ ?_
 ·refine af [1,3,5,22] ?_;refine af [1,3,5,22,23] ?_;refine av ?_ ?_<;>intro cm cR
  ·refine aB 3 ?_;refine aO 0 [_,_,_,_,_,_,_,_,_,_,_,_] sizeOf29 ?_;refine an 102 [1,3] ?_;refine iU [1,3,5] ?_;refine cN (afu hm hw s.ay (by have:=hf.ok.1;simp only[maxLen];omega) hf.c) ?_;refine bH ?_;refine⟨_,aJ,{dz with kind:=s.kind,table:=tb,ay:=s.ay},fW s.ay,(by unfold dW;rw[if_pos cR,tD]),(by unfold ew;rw[if_pos cR]),rfl⟩
  refine af [1,3,5,22,31] ?_;refine av ?_ ?_<;>intro da eA
  ·refine aB 3 ?_;refine aO 0 [_,_,_,_,_,_,_,_,_,_,_,_] sizeOf43 ?_;refine an 102 [1,3] ?_;refine iU [1,3,5] ?_;refine cN (afx s.row (by have:=hf.ok.2.1;omega)) ?_;refine bH ?_;refine⟨_,aJ,{dz with kind:=s.kind,table:=tb,row:=s.row},dQ s.row,(by unfold dW;rw[if_neg cR,if_pos eA,tD]),(by unfold ew;rw[if_neg cR,if_pos eA]),rfl⟩
  refine af [1,3,5,22,39] ?_;refine av ?_ ?_<;>intro dR fH
  ·refine CD.seq ?_;refine iv 22 (ax (eraseIdx _ 0)) ?_ (fun _ h=>(Sublist.map _ (eraseIdx_sublist _ 0)).subset h);refine aD 0 rfl (dX 4) ?_;refine aD 1 rfl (ee 1) ?_;refine aD 2 rfl (dX 5) ?_;refine aD 3 rfl (ee 1) ?_;refine aD 4 rfl (dX 6) ?_;refine aD 5 rfl (ee 1) ?_;refine aD 6 rfl (dX 7) ?_;refine aD 7 rfl (ee 1) ?_;refine aD 8 rfl (dX 8) ?_;refine aD 9 rfl (ee 1) ?_;refine aD 10 rfl (dX 9) ?_;refine aD 11 rfl (ee 1) ?_;refine aD 12 rfl (dX 4) ?_;refine dZ.later rfl ?_;refine AD.one (i:=13) aC ?_;refine er 0 [_,_,_,_,_,_,_,_,_,_,_,_] sizeOf44 ?_;refine dj 14 rfl (dX 5) ?_;refine AD.one (i:=15) aC ?_;refine er 0 [_,_,_,_,_,_,_,_,_,_,_,_] sizeOf4 ?_;refine dj 16 rfl (dX 6) ?_;refine AD.one (i:=17) aC ?_;refine er 0 [_,_,_,_,_,_,_,_,_,_,_,_] sizeOf36 ?_;refine dj 18 rfl (dX 7) ?_;refine AD.one (i:=19) aC ?_;refine er 0 [_,_,_,_,_,_,_,_,_,_,_,_] sizeOf9 ?_;refine dj 20 rfl (dX 8) ?_;refine AD.one (i:=21) aC ?_;refine er 0 [_,_,_,_,_,_,_,_,_,_,_,_] sizeOf4 ?_;refine fB ?_;refine aH 1 ?_;refine aO 0 [_,_,_,_,_,_,_,_,_,_,_,_] sizeOf3 ?_;refine an 102 [1,3] ?_;refine iU [1,3,5] ?_;refine cN (I) ?_;refine bH ?_;refine⟨_,aJ,{dz with kind:=s.kind,table:=tb,names:=s.names,count:=s.count,aj:=s.aj,order:=s.order,down:=s.down,iD:=s.iD},pp s,(by unfold dW;rw[if_neg cR,if_neg eA,if_pos fH,tD]),(by unfold ew;rw[if_neg cR,if_neg eA,if_pos fH]),rfl⟩
  refine af [1,3,5,22,61] ?_;refine av ?_ ?_<;>intro fM gW
  ·refine CD.seq ?_;refine iv 10 (ax (eraseIdx _ 0)) ?_ (fun _ h=>(Sublist.map _ (eraseIdx_sublist _ 0)).subset h);refine aD 0 rfl (dX 10) ?_;refine aD 1 rfl (ee 1) ?_;refine aD 2 rfl (dX 11) ?_;refine aD 3 rfl (ee 1) ?_;refine aD 4 rfl (dX 6) ?_;refine aD 5 rfl (ee 1) ?_;refine aD 6 rfl (dX 10) ?_;refine dZ.later rfl ?_;refine AD.one (i:=7) aC ?_;refine er 0 [_,_,_,_,_,_,_,_,_,_,_,_] sizeOf9 ?_;refine dj 8 rfl (dX 11) ?_;refine AD.one (i:=9) aC ?_;refine er 0 [_,_,_,_,_,_,_,_,_,_,_,_] sizeOf36 ?_;refine fB ?_;refine aH 1 ?_;refine aO 0 [_,_,_,_,_,_,_,_,_,_,_,_] sizeOf36 ?_;refine an 102 [1,3] ?_;refine cL [1,3,5] (vo hm hw s.set hf.e) ?_;refine af [1,3,5,76] ?_;refine av ?_ ?_<;>intro jb px
   ·have Z:cy s.set=0:=(by simpa using jb)
    refine iU [1,3,5] ?_;refine cN (KC hm hw s.bJ (fun o h=>(hf.x o h).1)) ?_;refine bH ?_;refine af [1,3,5,81] ?_;refine av ?_ ?_<;>intro iS mY
    ·have OJ:gN s.bJ=0:=(by simpa using iS)
     refine iU [1,3,5] ?_;refine cN (E7 hm hw s.aj (fun o h=>(hf.w o h).1)) ?_;refine bH ?_;refine⟨_,aJ,{dz with kind:=s.kind,table:=tb,set:=s.set,bJ:=s.bJ,aj:=s.aj},ny s.aj,NI,(by unfold ew;rw[if_neg cR,if_neg eA,if_neg fH,if_pos gW,if_pos Z,if_pos OJ]),rfl⟩
    have OJ:¬gN s.bJ=0:=(by simpa using iS)
    refine CD.skip ?_;refine⟨_,aJ,{dz with kind:=s.kind,table:=tb,set:=s.set,bJ:=s.bJ,aj:=s.aj},gN s.bJ,NI,(by unfold ew;rw[if_neg cR,if_neg eA,if_neg fH,if_pos gW,if_pos Z,if_neg OJ]),rfl⟩
   have Z:¬cy s.set=0:=(by simpa using jb)
   refine af [1,3,5,81] ?_;refine av ?_ ?_<;>intro iS mY
   ·exact absurd iS (by simp[Z])
   refine CD.skip ?_;refine⟨_,aJ,{dz with kind:=s.kind,table:=tb,set:=s.set,bJ:=s.bJ,aj:=s.aj},cy s.set,NI,(by unfold ew;rw[if_neg cR,if_neg eA,if_neg fH,if_pos gW,if_neg Z]),rfl⟩
  refine af [1,3,5,85] ?_;refine av ?_ ?_<;>intro qo E
  ·refine aB 3 ?_;refine aO 0 [_,_,_,_,_,_,_,_,_,_,_,_] sizeOf36 ?_;refine an 102 [1,3] ?_;refine iU [1,3,5] ?_;refine cN (E7 hm hw s.aj (fun o h=>(hf.w o h).1)) ?_;refine bH ?_;refine⟨_,aJ,{dz with kind:=s.kind,table:=tb,aj:=s.aj},ny s.aj,(by unfold dW;rw[if_neg cR,if_neg eA,if_neg fH,if_neg gW,if_pos E,tD]),(by unfold ew;rw[if_neg cR,if_neg eA,if_neg fH,if_neg gW,if_pos E]),rfl⟩
  refine CD.skip ?_;refine⟨_,aJ,{dz with kind:=s.kind,table:=tb},0,(by unfold dW;rw[if_neg cR,if_neg eA,if_neg fH,if_neg gW,if_neg E,tD]),(by unfold ew;rw[if_neg cR,if_neg eA,if_neg fH,if_neg gW,if_neg E]),rfl⟩
 rintro _ ⟨H,e,hH,D7,rfl⟩;refine CD.seq ?_;refine CD.seq ?_;have VX:=afy (G:=G) s H;unfold bg at VX;refine dY 3 ?_;refine bY 95 (fun WX aiA=>?_) (fun WX aiA=>?_)
 ·refine aH 2 ?_;refine OD.iC iJ rfl rfl rfl call100 (VX) ⟨ot,ot,trivial⟩ ?_;refine an 102 [5,100] ?_;refine av ?_ ?_<;>intro uZ C4
  ·have aW:dM s=6:=(by unfold dM;rw[if_neg oS,if_pos ⟨by rw[←D7];simpa using WX,by rw[←hH];simpa using uZ⟩])
   refine cc [5] ?_;exact Mp
  have aW:dM s=e:=(by unfold dM;rw[if_neg oS,if_neg (by rw[←D7,←hH];exact(fun h=>by obtain⟨h1,h2⟩:=h;simp_all)),D7])
  exact Mp
 refine bp [5,100] ?_;refine gq ?_;have aW:dM s=e:=(by unfold dM;rw[if_neg oS,if_neg (by rw[←D7,←hH];exact(fun h=>by obtain⟨h1,h2⟩:=h;simp_all)),D7])
 refine af [2] ?_;refine eZ ?_;exact⟨by first|rw[aW]|rw[aW];rfl,rfl⟩

theorem QW:∀(l:List aK) (H:List (List Tk)),(l.foldl oG H).flatten.length≤H.flatten.length+5*l.length
 | [],H=>by simp
 | o::r,H=>by
  have h1:=QW r (oG H o);have h2:=QU (h:=H) (o:=o);rw[foldl_cons,length_cons];omega
theorem BD(l:List aK):(qQ l).length≤5*l.length:=by
 have h:=QW l [];have h2:=(vh (h:=l.foldl oG []) (n:=0)).1;have h3:=Bw (l.foldl oG []) 0;simp only[List.take_zero,flatten_nil,length_nil] at h h3;unfold qQ;omega
theorem BC(l:List aK):(j6 l).length≤5*l.length+1:=by
 have h:=BD l;unfold j6;split
 ·simp
 rw[length_append,length_map];simp only[length_cons,length_nil];omega
def j7(ns:List ByteArray):Nat→List Tk
 | 0=>[]
 | i+1=>j7 ns i++(if i>0 then [dS ⟨#[44]⟩] else [])++[bE (ns.getD i ⟨#[]⟩)]
theorem Fp(E:List ByteArray):∀i,(j7 E i).length≤2*i
 | 0=>Nat.le_refl _
 | i+1=>by
  have ih:=Fp E i;have h3:(if i>0 then [dS ⟨#[44]⟩] else []).length≤1:=(by split<;>simp)
  unfold j7;rw[length_append,length_append];simp only[length_cons,length_nil];omega
theorem I2(hi:i<E.length)(h:0<i)(X:List Tk):((X++j7 E i)++[dS ⟨#[44]⟩])++[bE E[i]]=X++j7 E (i+1):=by
 rw[j7,if_pos h,mR hi];simp only[append_assoc]
theorem IR(hi:i<E.length)(h:¬0<i)(X:List Tk):(X++j7 E i)++[bE E[i]]=X++j7 E (i+1):=by
 rw[j7,if_neg h,mR hi];simp only[append_assoc,append_nil]
def vH(s:bA):List Tk:=if s.count=true then [bE ⟨#[67,79,85,78,84]⟩,dS ⟨#[40]⟩,dS ⟨#[42]⟩,dS ⟨#[41]⟩] else if s.names.length=0 then [dS ⟨#[42]⟩] else j7 s.names s.names.length
def x4(s:bA):List Tk:=if jt s.order ⟨#[]⟩=true then [] else [⟨#[79,82,68,69,82]⟩,⟨#[66,89]⟩,s.order].map bE++(if s.down=true then [bE ⟨#[68,69,83,67]⟩] else [])
def C5(s:bA):List Tk:=if 0≤s.iD then [bE ⟨#[76,73,77,73,84]⟩,⟨2,⟨#[]⟩,s.iD⟩] else []
def Ah(s:bA):List Tk:=((([⟨#[83,69,76,69,67,84]⟩].map bE++vH s)++[⟨#[70,82,79,77]⟩,s.table].map bE++j6 s.aj)++x4 s)++C5 s
theorem sG:(Tryz.prog.info? 170).map (fun i=>(i.zero,i.size,i.bytes))=some (some (.agg #[.int .i64 0,.string ⟨#[]⟩,.int .i64 0]),3,32):=by kernel_rfl
theorem ZW : ∀ w, ((#[{ name := "Kind", type := 3, offset := 0, embedded := false, tag := "", pkgPath := "", byteOffset := 0 }, { name := "Text", type := 9, offset := 1, embedded := false, tag := "", pkgPath := "", byteOffset := 8 }, { name := "Int", type := 3, offset := 2, embedded := false, tag := "", pkgPath := "", byteOffset := 24 }] : Array Field).mapM fun f => do pure (f.offset, ← sizeOf f.type) : Sem (Array (Nat × Nat))).run Tryz.prog w = .ok #[(0, 1), (1, 1), (2, 1)] w := fun w => by simp [sizeOf3, sizeOf9]
theorem aav(s:bA)(hf:eI s)(OK:s.aj.length=0∨fX 0 s.aj=0):VP Tryz.prog G 104 [.agg (bg s)] (.list 3 ((Ah s).flatMap cT) (Ah s).length):=by
 refine VC.body func104 rfl ntmps104 aQ fun X0 w0 bf=>?_;have c8:=dV;have h6:=hf.ok.2.2.1;have qw:=hf.ok.2.2.2.1;have Ig:=BC s.aj;have OL:=BD s.aj;unfold bg;refine cf ?_;refine OD.box (ds:=[_,_,_,_,_,_,_,_,_,_,_,_]) ap rfl rfl ot rfl rfl (fun b1=>?_);refine an 84 [1] ?_;refine cf ?_;refine eD (cq 0 [_]) [.string ⟨#[]⟩] [_] zeroValue9 runUnderlying44 sizeOf9 (fun b6=>?_);refine OD.perm (ez (S1:=[⟨b6,9,1*1,flatMap cS ([⟨#[83,69,76,69,67,84]⟩])⟩]) (A:=[_])) ?_;refine OD.iE (t:=6) (Sq:=[⟨b6,9,1*1,flatMap cS ([⟨#[83,69,76,69,67,84]⟩])⟩]) lk (bQ (g:=cS) (sz:=1) (e:=9) (ls:=[⟨#[83,69,76,69,67,84]⟩]) (Nat.le_refl _) (show 1≤maxLen by decide)) (cz jJ _) (dI (A:=[_])) ?_;refine OD.call ap rfl rfl rfl call101 (zM [⟨#[83,69,76,69,67,84]⟩] AT) ⟨ot,trivial⟩ (fg _) ?_;rintro _ S7 ⟨Y3,Y4,rfl,qp⟩;refine OD.perm (ez (A:=[_])) ?_;refine an 84 [1,3] ?_;refine iL [1] (fun aS _ aE=>∃(Q:List Tk),∃(ad:Option Addr),∃(cp:Nat),∃(Sx:List ah),(Q=[⟨#[83,69,76,69,67,84]⟩].map bE++vH s)∧(bn 170 3 (Q.flatMap cT) Q.length ad cp Sx)∧(Q.length≤20)∧aE=(⟨84,(3,aP ad Q.length cp)::aS,(⟨b1,46,12,[ae s.kind,aZ s.table,au 2 cC s.ay,au 3 cV s.row,au 1 cS s.names,bG s.count,au 5 cO s.aj,aZ s.order,bG s.down,ae s.iD,aZ s.set,au 5 cO s.bJ]⟩::Sx)⟩:St)) ?_ ?_
 ·refine af [1,3,28] ?_;refine av ?_ ?_<;>intro aL bB
  ·refine dY 1 ?_;refine ec call145 (rH ⟨#[67,79,85,78,84]⟩) ?_;refine ec call106 (nv ⟨#[40]⟩) ?_;refine ec call106 (nv ⟨#[42]⟩) ?_;refine ec call106 (nv ⟨#[41]⟩) ?_;refine eD (cq 0 [_,_,_,_]) [.int .i64 0,.string ⟨#[]⟩,.int .i64 0,.int .i64 0,.string ⟨#[]⟩,.int .i64 0,.int .i64 0,.string ⟨#[]⟩,.int .i64 0,.int .i64 0,.string ⟨#[]⟩,.int .i64 0] [_,_,_,_,_,_,_,_,_,_,_,_] zeroValue170 runUnderlying110 sizeOf170 (fun Ih=>?_);refine fT 0 36 3 4 ?_;refine OD.eL (ls:=([⟨#[83,69,76,69,67,84]⟩].map bE)) (new:=[bE ⟨#[67,79,85,78,84]⟩,dS ⟨#[40]⟩,dS ⟨#[42]⟩,dS ⟨#[41]⟩]) (Sq:=S7) iX lX ap rfl rfl underlying110 sG rfl w7 ot qp (dI (A:=[_])) ot bj qk w9 (fun OM U akx aky=>?_);refine OD.perm (ez (S1:=[⟨OM,170,U*3,flatMap cT (([⟨#[83,69,76,69,67,84]⟩].map bE)++[bE ⟨#[67,79,85,78,84]⟩,dS ⟨#[40]⟩,dS ⟨#[42]⟩,dS ⟨#[41]⟩])⟩]) (A:=[_])) ?_;refine an 84 [1,3] ?_;refine⟨_,aJ,(([⟨#[83,69,76,69,67,84]⟩].map bE)++[bE ⟨#[67,79,85,78,84]⟩,dS ⟨#[40]⟩,dS ⟨#[42]⟩,dS ⟨#[41]⟩]),(some ⟨OM,0,none⟩),U,[⟨OM,170,U*3,flatMap cT (([⟨#[83,69,76,69,67,84]⟩].map bE)++[bE ⟨#[67,79,85,78,84]⟩,dS ⟨#[40]⟩,dS ⟨#[42]⟩,dS ⟨#[41]⟩])⟩],(by unfold vH;rw[if_pos bB]),(bQ akx aky),Nu,rfl⟩
  refine af [1,3,38] ?_;refine av ?_ ?_<;>intro aY cD
  ·refine dY 1 ?_;refine ec call106 (nv ⟨#[42]⟩) ?_;refine eD (cq 0 [_]) [.int .i64 0,.string ⟨#[]⟩,.int .i64 0] [_,_,_] zeroValue170 runUnderlying110 sizeOf170 (fun b45=>?_);refine fT 0 45 3 1 ?_;refine OD.eL (ls:=([⟨#[83,69,76,69,67,84]⟩].map bE)) (new:=[dS ⟨#[42]⟩]) (Sq:=S7) iX lX ap rfl rfl underlying110 sG rfl w7 ot qp (dI (A:=[_])) ot bj qk w9 (fun A5 Z akz akA=>?_);refine OD.perm (ez (S1:=[⟨A5,170,Z*3,flatMap cT (([⟨#[83,69,76,69,67,84]⟩].map bE)++[dS ⟨#[42]⟩])⟩]) (A:=[_])) ?_;refine an 84 [1,3] ?_;refine⟨_,aJ,(([⟨#[83,69,76,69,67,84]⟩].map bE)++[dS ⟨#[42]⟩]),(some ⟨A5,0,none⟩),Z,[⟨A5,170,Z*3,flatMap cT (([⟨#[83,69,76,69,67,84]⟩].map bE)++[dS ⟨#[42]⟩])⟩],(by unfold vH;rw[if_neg yh,if_pos w4]),(bQ akz akA),Nu,rfl⟩
  refine af [1,3,9,10,11] ?_;refine CD.block ?_;refine nq (fun (jO:Nat×Option Addr×Nat×List ah) aE=>match jO with|(i,D8,D9,So)=>(i≤s.names.length)∧(bn 170 3 ((([⟨#[83,69,76,69,67,84]⟩].map bE++j7 s.names i)).flatMap cT) (([⟨#[83,69,76,69,67,84]⟩].map bE++j7 s.names i)).length D8 D9 So)∧aE=(⟨84,[(1,cZ b1),(3,aP D8 (([⟨#[83,69,76,69,67,84]⟩].map bE++j7 s.names i)).length D9),(9,au 1 cS s.names),(10,ae (s.names.length:Nat)),(11,ae (i:Nat))],((⟨b1,46,12,[ae s.kind,aZ s.table,au 2 cC s.ay,au 3 cV s.row,au 1 cS s.names,bG s.count,au 5 cO s.aj,aZ s.order,bG s.down,ae s.iD,aZ s.set,au 5 cO s.bJ]⟩:ah)::So)⟩:St)) (fun (jO:Nat×Option Addr×Nat×List ah)=>match jO with|(i,D8,D9,So)=>s.names.length-i) (0,Y3,Y4,S7) ⟨(Nat.zero_le _),(bn.cast qp (by simp[j7])),rfl⟩ (aJ (h:=by repeat (first|exact trivial|refine⟨Ny,?_⟩))) ?_;rintro⟨i,D8,D9,So⟩ _ ⟨hi,Ea,rfl⟩;refine af [1,3,9,10,11,12] ?_;refine av ?_ ?_<;>intro cm cR
  ·have aa:i<s.names.length:=(by simp at cm;omega)
   have fD:=Fp s.names i;refine af [1,3,4,5,9,10,11] ?_;refine af [1,3,5,9,10,11,17] ?_;refine av ?_ ?_<;>intro da eA
   ·refine dY 1 ?_;refine ec call106 (nv ⟨#[44]⟩) ?_;refine eD (cq 0 [_]) [.int .i64 0,.string ⟨#[]⟩,.int .i64 0] [_,_,_] zeroValue170 runUnderlying110 sizeOf170 (fun OG=>?_);refine fT 0 20 3 1 ?_;refine OD.eL (ls:=(([⟨#[83,69,76,69,67,84]⟩].map bE++j7 s.names i))) (new:=[dS ⟨#[44]⟩]) (Sq:=So) iX lX ap rfl rfl underlying110 sG rfl w7 ot Ea (dI (A:=[_])) ot bj qk w9 (fun D2 WY akB akC=>?_);refine OD.perm (ez (S1:=[⟨D2,170,WY*3,flatMap cT ((([⟨#[83,69,76,69,67,84]⟩].map bE++j7 s.names i))++[dS ⟨#[44]⟩])⟩]) (A:=[_])) ?_;refine an 84 [1,3,5,9,10,11] ?_;refine dY 2 ?_;refine ec call145 (rH s.names[i]) ?_;refine eD (cq 0 [_]) [.int .i64 0,.string ⟨#[]⟩,.int .i64 0] [_,_,_] zeroValue170 runUnderlying110 sizeOf170 (fun yN=>?_);refine fT 0 25 3 1 ?_;refine OD.eL (ls:=((([⟨#[83,69,76,69,67,84]⟩].map bE++j7 s.names i))++[dS ⟨#[44]⟩])) (new:=[bE s.names[i]]) (Sq:=[⟨D2,170,WY*3,flatMap cT ((([⟨#[83,69,76,69,67,84]⟩].map bE++j7 s.names i))++[dS ⟨#[44]⟩])⟩]) iX lX ap rfl rfl underlying110 sG rfl w7 ot (bQ akB akC) (dI (A:=[_])) ot bj qk w9 (fun I E MQ MR=>?_);refine OD.perm (ez (S1:=[⟨I,170,E*3,flatMap cT (((([⟨#[83,69,76,69,67,84]⟩].map bE++j7 s.names i))++[dS ⟨#[44]⟩])++[bE s.names[i]])⟩]) (A:=[_])) ?_;refine an 84 [1,3,9,10,11] ?_;refine cc [1,3,9,10,11] ?_
    refine⟨((i+1),(some ⟨I,0,none⟩),E,[⟨I,170,E*3,flatMap cT (((([⟨#[83,69,76,69,67,84]⟩].map bE++j7 s.names i))++[dS ⟨#[44]⟩])++[bE s.names[i]])⟩]),_,cr,(aJ (h:=by repeat (first|exact trivial|refine⟨Ny,?_⟩))),w4,(bn.cast (bQ MQ MR) (by first|exact I2 aa w4 _|exact IR aa w4 _)),rfl⟩
   refine dY 2 ?_;refine ec call145 (rH s.names[i]) ?_;refine eD (cq 0 [_]) [.int .i64 0,.string ⟨#[]⟩,.int .i64 0] [_,_,_] zeroValue170 runUnderlying110 sizeOf170 (fun yN=>?_);refine fT 0 25 3 1 ?_;refine OD.eL (ls:=(([⟨#[83,69,76,69,67,84]⟩].map bE++j7 s.names i))) (new:=[bE s.names[i]]) (Sq:=So) iX lX ap rfl rfl underlying110 sG rfl w7 ot Ea (dI (A:=[_])) ot bj qk w9 (fun I E MQ MR=>?_);refine OD.perm (ez (S1:=[⟨I,170,E*3,flatMap cT ((([⟨#[83,69,76,69,67,84]⟩].map bE++j7 s.names i))++[bE s.names[i]])⟩]) (A:=[_])) ?_;refine an 84 [1,3,9,10,11] ?_;refine cc [1,3,9,10,11] ?_;refine⟨((i+1),(some ⟨I,0,none⟩),E,[⟨I,170,E*3,flatMap cT ((([⟨#[83,69,76,69,67,84]⟩].map bE++j7 s.names i))++[bE s.names[i]])⟩]),_,cr,(aJ (h:=by repeat (first|exact trivial|refine⟨Ny,?_⟩))),w4,(bn.cast (bQ MQ MR) (by first|exact I2 aa w4 _|exact IR aa w4 _)),rfl⟩
  have uF:i=s.names.length:=(by simp at cm;omega)
  refine CD.exit ?_;refine⟨_,aJ,(([⟨#[83,69,76,69,67,84]⟩].map bE++j7 s.names i)),D8,D9,So,(by unfold vH;rw[if_neg yh,if_neg w4,uF]),Ea,Nu,rfl⟩
 rintro _ ⟨Q,ad,cp,Sx,hQ,ey,hQl,rfl⟩;refine aB 3 ?_;refine eD (cq 0 [_,_]) [.string ⟨#[]⟩,.string ⟨#[]⟩] [_,_] zeroValue9 runUnderlying44 sizeOf9 (fun yO=>?_);refine OD.perm (zl (S2:=[⟨yO,9,2*1,flatMap cS ([⟨#[70,82,79,77]⟩,s.table])⟩]) (A:=[_])) ?_;refine OD.iE (t:=50) (Sq:=[⟨yO,9,2*1,flatMap cS ([⟨#[70,82,79,77]⟩,s.table])⟩]) lk (bQ (g:=cS) (sz:=1) (e:=9) (ls:=[⟨#[70,82,79,77]⟩,s.table]) (Nat.le_refl _) (show 2≤maxLen by decide)) (cz jJ _) (zk (A:=[_])) ?_;refine ec call101 (sP [⟨#[70,82,79,77]⟩,s.table] (by show 2≤10;decide)) ?_;refine OD.eL (ls:=Q) (new:=([⟨#[70,82,79,77]⟩,s.table].map bE)) (Sq:=Sx) iX lX ap rfl rfl underlying110 sG rfl w7 ot ey (dI (A:=[_])) ot bj qk w9 (fun Y5 WZ akD akE=>?_);refine OD.perm (ez (S1:=[⟨Y5,170,WZ*3,flatMap cT (Q++([⟨#[70,82,79,77]⟩,s.table].map bE))⟩]) (A:=[_])) ?_;refine an 84 [1,3] ?_;refine aB 3 ?_;refine ec call108 (IJ s.aj qw OK (fun o h=>(hf.w o h).2) w4) ?_;refine OD.pQ (ls:=(Q++([⟨#[70,82,79,77]⟩,s.table].map bE))) (new:=(j6 s.aj)) (Sq:=[⟨Y5,170,WZ*3,flatMap cT (Q++([⟨#[70,82,79,77]⟩,s.table].map bE))⟩]) iX lX ap rfl rfl underlying110 sG rfl w7 runUnderlying110 sizeOf170 ot (bQ akD akE) (dI (A:=[_])) ot qk w9 (fun akF akG Ii He=>?_);refine OD.perm (ez (A:=[_])) ?_;refine an 84 [1,3] ?_
 refine iL [1] (fun aS _ aE=>∃(Q:List Tk),∃(ad:Option Addr),∃(cp:Nat),∃(Sx:List ah),(Q=(([⟨#[83,69,76,69,67,84]⟩].map bE++vH s)++[⟨#[70,82,79,77]⟩,s.table].map bE++j6 s.aj)++x4 s)∧(bn 170 3 (Q.flatMap cT) Q.length ad cp Sx)∧(Q.length≤500)∧aE=(⟨84,(3,aP ad Q.length cp)::aS,(⟨b1,46,12,[ae s.kind,aZ s.table,au 2 cC s.ay,au 3 cV s.row,au 1 cS s.names,bG s.count,au 5 cO s.aj,aZ s.order,bG s.down,ae s.iD,aZ s.set,au 5 cO s.bJ]⟩::Sx)⟩:St)) ?_ ?_
 ·refine af [1,3,60] ?_;refine av ?_ ?_<;>intro dR fH
  ·refine aB 3 ?_;refine eD (cq 0 [_,_,_]) [.string ⟨#[]⟩,.string ⟨#[]⟩,.string ⟨#[]⟩] [_,_,_] zeroValue9 runUnderlying44 sizeOf9 (fun Eb=>?_);refine OD.perm (zl (S2:=[⟨Eb,9,3*1,flatMap cS ([⟨#[79,82,68,69,82]⟩,⟨#[66,89]⟩,s.order])⟩]) (A:=[_])) ?_;refine OD.iE (t:=64) (Sq:=[⟨Eb,9,3*1,flatMap cS ([⟨#[79,82,68,69,82]⟩,⟨#[66,89]⟩,s.order])⟩]) lk (bQ (g:=cS) (sz:=1) (e:=9) (ls:=[⟨#[79,82,68,69,82]⟩,⟨#[66,89]⟩,s.order]) (Nat.le_refl _) (show 3≤maxLen by decide)) (cz jJ _) (zk (A:=[_])) ?_;refine ec call101 (sP [⟨#[79,82,68,69,82]⟩,⟨#[66,89]⟩,s.order] (by show 3≤10;decide)) ?_;refine OD.eL (ls:=((Q++([⟨#[70,82,79,77]⟩,s.table].map bE))++(j6 s.aj))) (new:=([⟨#[79,82,68,69,82]⟩,⟨#[66,89]⟩,s.order].map bE)) (Sq:=Ii) iX lX ap rfl rfl underlying110 sG rfl w7 ot He (dI (A:=[_])) ot bj qk w9 (fun pK O AA AB=>?_);refine OD.perm (ez (S1:=[⟨pK,170,O*3,flatMap cT (((Q++([⟨#[70,82,79,77]⟩,s.table].map bE))++(j6 s.aj))++([⟨#[79,82,68,69,82]⟩,⟨#[66,89]⟩,s.order].map bE))⟩]) (A:=[_])) ?_;refine an 84 [1,3] ?_;refine af [1,3,68] ?_;refine av ?_ ?_<;>intro fM gW
   ·refine dY 1 ?_;refine ec call145 (rH ⟨#[68,69,83,67]⟩) ?_;refine eD (cq 0 [_]) [.int .i64 0,.string ⟨#[]⟩,.int .i64 0] [_,_,_] zeroValue170 runUnderlying110 sizeOf170 (fun b71=>?_);refine fT 0 71 3 1 ?_;refine OD.eL (ls:=(((Q++([⟨#[70,82,79,77]⟩,s.table].map bE))++(j6 s.aj))++([⟨#[79,82,68,69,82]⟩,⟨#[66,89]⟩,s.order].map bE))) (new:=[bE ⟨#[68,69,83,67]⟩]) (Sq:=[⟨pK,170,O*3,flatMap cT (((Q++([⟨#[70,82,79,77]⟩,s.table].map bE))++(j6 s.aj))++([⟨#[79,82,68,69,82]⟩,⟨#[66,89]⟩,s.order].map bE))⟩]) iX lX ap rfl rfl underlying110 sG rfl w7 ot (bQ AA AB) (dI (A:=[_])) ot bj qk w9 (fun ON MS akH akI=>?_);refine OD.perm (ez (S1:=[⟨ON,170,MS*3,flatMap cT ((((Q++([⟨#[70,82,79,77]⟩,s.table].map bE))++(j6 s.aj))++([⟨#[79,82,68,69,82]⟩,⟨#[66,89]⟩,s.order].map bE))++[bE ⟨#[68,69,83,67]⟩])⟩]) (A:=[_])) ?_;refine an 84 [1,3] ?_;refine⟨_,aJ,((((Q++([⟨#[70,82,79,77]⟩,s.table].map bE))++(j6 s.aj))++([⟨#[79,82,68,69,82]⟩,⟨#[66,89]⟩,s.order].map bE))++[bE ⟨#[68,69,83,67]⟩]),(some ⟨ON,0,none⟩),MS,[⟨ON,170,MS*3,flatMap cT ((((Q++([⟨#[70,82,79,77]⟩,s.table].map bE))++(j6 s.aj))++([⟨#[79,82,68,69,82]⟩,⟨#[66,89]⟩,s.order].map bE))++[bE ⟨#[68,69,83,67]⟩])⟩],(by rw[hQ];unfold x4;rw[if_neg (by unfold jt;simpa using dR),if_pos gW];simp only[append_assoc]),(bQ akH akI),w9,rfl⟩
   refine CD.skip ?_;refine⟨_,aJ,(((Q++([⟨#[70,82,79,77]⟩,s.table].map bE))++(j6 s.aj))++([⟨#[79,82,68,69,82]⟩,⟨#[66,89]⟩,s.order].map bE)),(some ⟨pK,0,none⟩),O,[⟨pK,170,O*3,flatMap cT (((Q++([⟨#[70,82,79,77]⟩,s.table].map bE))++(j6 s.aj))++([⟨#[79,82,68,69,82]⟩,⟨#[66,89]⟩,s.order].map bE))⟩],(by rw[hQ];unfold x4;rw[if_neg (by unfold jt;simpa using dR),if_neg (by simpa using fM)];simp only[append_assoc,append_nil]),(bQ AA AB),w9,rfl⟩
  refine CD.skip ?_;refine⟨_,aJ,((Q++([⟨#[70,82,79,77]⟩,s.table].map bE))++(j6 s.aj)),akF,akG,Ii,(by rw[hQ];unfold x4;rw[if_pos (by unfold jt;simpa using dR)];simp),He,w9,rfl⟩
 rintro _ ⟨Q,ad,cp,Sx,hQ,ey,hQl,rfl⟩;refine af [1,3,75] ?_;refine av ?_ ?_<;>intro jb px
 ·refine iv 7 (ax (take 1 _)) ?_ (fun _ h=>(Sublist.map _ (take_sublist _ _)).subset h);refine aD 0 rfl bI ?_;refine aD 2 rfl (dX 9) ?_;refine aD 3 rfl (ee 0) ?_;refine aD 4 rfl (oY (pl:=[(0,_),(2,_)]) (ds:=[_,_,_]) rfl zeroValue170 runUnderlying170 ZW ⟨rfl,bP,rfl,ot,trivial⟩ rfl rfl) ?_;refine dZ.later rfl ?_;refine AD.one (i:=1) aC ?_;refine qq call145 (rH ⟨#[76,73,77,73,84]⟩) ?_;refine AD.one (i:=5) aC ?_;refine nJ (cq 0 [_,_]) [.int .i64 0,.string ⟨#[]⟩,.int .i64 0,.int .i64 0,.string ⟨#[]⟩,.int .i64 0] [_,_,_,_,_,_] zeroValue170 runUnderlying110 sizeOf170 (fun b81=>?_);refine nK 0 81 3 2 ?_;refine AD.one (i:=6) aC ?_;refine bD.eL (ls:=Q) (new:=[bE ⟨#[76,73,77,73,84]⟩,(⟨2,⟨#[]⟩,s.iD⟩:Tk)]) (Sq:=Sx) iX lX rfl ap rfl rfl underlying110 sG rfl w7 ot ey (dI (A:=[_])) ot bj qk w9 (fun Y6 W0 akJ akK=>?_);refine AD.perm (ez (S1:=[⟨Y6,170,W0*3,flatMap cT (Q++[bE ⟨#[76,73,77,73,84]⟩,(⟨2,⟨#[]⟩,s.iD⟩:Tk)])⟩]) (A:=[_])) ?_;refine fB ?_;refine bp [3] ?_;refine af [2] ?_;refine CD.iE (t:=2) (Sq:=[⟨Y6,170,W0*3,flatMap cT (Q++[bE ⟨#[76,73,77,73,84]⟩,(⟨2,⟨#[]⟩,s.iD⟩:Tk)])⟩]) lk (bQ akJ akK) (cz iX _) (dI (A:=[_])) ?_;refine eZ ?_;refine⟨?_,rfl⟩;rw[hQ];unfold Ah C5;rw[if_pos w4]
 refine af [2] ?_;refine CD.iE (t:=2) (Sq:=Sx) lk ey (cz iX _) (dI (A:=[_])) ?_;refine aM [] ?_;refine⟨?_,rfl⟩;rw[hQ];unfold Ah C5;rw[if_neg w4];simp only[append_nil]

def L4(k:Int):ByteArray:=ahc.getD k.toNat ⟨#[]⟩
theorem adC{k:Int}(h1:1≤k)(h2:k≤3):typesC[0+k.toNat*1]?=some (.string (L4 k)):=by
 have h:k=1∨k=2∨k=3:=(by omega)
 rcases h with rfl|rfl|rfl<;>rfl
def js(c:cH):List Tk:=[c.n,L4 c.k].map bE
def Hf:List ByteArray:=[⟨#[66,69,71,73,78]⟩,⟨#[67,79,77,77,73,84]⟩,⟨#[82,79,76,76,66,65,67,75]⟩]
def nU(s:bA):List Tk :=
 if s.kind=1 then [⟨#[67,82,69,65,84,69]⟩,⟨#[84,65,66,76,69]⟩,s.table].map bE++mA (s.ay.map js)
 else if s.kind=2 then [⟨#[68,82,79,80]⟩,⟨#[84,65,66,76,69]⟩,s.table].map bE
 else if s.kind=3 then [⟨#[73,78,83,69,82,84]⟩,⟨#[73,78,84,79]⟩,s.table,⟨#[86,65,76,85,69,83]⟩].map bE++mA (s.row.map jx)
 else if s.kind=4 then Ah s
 else if s.kind=5 then [[⟨#[85,80,68,65,84,69]⟩,s.table,⟨#[83,69,84]⟩,s.set].map bE,[dS ⟨#[61]⟩],qQ s.bJ,j6 s.aj].flatten
 else if s.kind=6 then [⟨#[68,69,76,69,84,69]⟩,⟨#[70,82,79,77]⟩,s.table].map bE++j6 s.aj
 else [Hf.getD (s.kind-7).toNat ⟨#[]⟩].map bE
structure Y7 (s:bA):Prop where
 fin:eI s
 k1:1≤s.kind
 k9:s.kind≤9
 c:s.kind=1→∀c∈s.ay,1≤c.k∧c.k≤3
 r:s.kind=3→∀v∈s.row,nr v
 w:s.kind=4∨s.kind=5∨s.kind=6→s.aj.length=0∨fX 0 s.aj=0
 t:s.kind=5→fX 0 s.bJ=0
theorem Sk(ts:List (List Tk)):0<(mA ts).length:=by unfold mA;rw[length_append];simp
theorem Sn{ts:List (List Tk)}(h:∀x∈ts,x.length≤10):(mA ts).length≤2+11*ts.length:=by
 have h1:=FN h ts.length;unfold mA;rw[length_append];simp only[length_cons,length_nil];omega
theorem KE(l:List cH):∀x∈l.map js,x.length≤10:=fun x hx=>by obtain⟨c,_,rfl⟩:=mem_map.1 hx;show 2≤10;decide
theorem Ss(l:List Vl):∀x∈l.map jx,x.length≤10:=fun x hx=>by obtain⟨v,_,rfl⟩:=mem_map.1 hx;have:=QT v;omega
theorem P9:(Tryz.prog.info? 110).map (fun i=>(i.zero,i.size,i.bytes))=some (some (.slice none 0 0),1,24):=by kernel_rfl
theorem IN:(Tryz.prog.info? 170).map (fun i=>(i.zero,i.size,i.bytes))=some (some (.agg #[.int .i64 0,.string ⟨#[]⟩,.int .i64 0]),3,32):=by kernel_rfl
theorem afz(hty:(0,typesC)∈G)(s:bA)(hs:Y7 s):VP Tryz.prog G 53 [.agg (bg s)] (.list 3 ((nU s).flatMap cT) (nU s).length):=by
 refine VC.body func53 rfl ntmps53 aQ fun X0 w0 bf=>?_;have c8:=dV;have hf:=hs.fin;have h6:=hf.ok.1;have h6r:=hf.ok.2.1;have qw:=hf.ok.2.2.2.1;have akL:=hf.ok.2.2.2.2;have Ig:=BC s.aj;have OL:=BD s.aj;have Hg:=BD s.bJ;have kD:=Sn (KE s.ay);have r8:=Sn (Ss s.row);have O:=aav (G:=G) s hf
 (first|rw[length_map] at kD|(unfold au at kD;rw[length_map] at kD));(first|rw[length_map] at r8|(unfold au at r8;rw[length_map] at r8))
 unfold bg at O;unfold bg;refine cf ?_;refine OD.box (ds:=[_,_,_,_,_,_,_,_,_,_,_,_]) ap rfl rfl ot rfl rfl (fun b1=>?_);refine an 107 [1] ?_;refine cM [1,10] ?_;refine aR 1 ?_ (h:=by exact fa);refine jP ?_;refine af [1,10,11] ?_;refine av ?_ ?_<;>intro aL bB
 ·refine cf ?_;refine bp [1,3] ?_;refine cM [1,3,14,15,16] ?_;refine aR 1 ?_ (h:=by exact fa);refine bH ?_;refine CD.block ?_;refine nq (fun (E:Nat×Option Addr×Nat×List ah) aE=>match E with|(i,dN,dg,Sx)=>(i≤s.ay.length)∧(bn 110 1 (((s.ay.take i).map js).flatMap cK) ((s.ay.take i).map js).length dN dg Sx)∧aE=(⟨107,[(1,cZ b1),(3,aP dN ((s.ay.take i).map js).length dg),(14,au 2 cC s.ay),(15,ae (s.ay.length:Nat)),(16,ae (i:Nat))],((⟨b1,46,12,[ae s.kind,aZ s.table,au 2 cC s.ay,au 3 cV s.row,au 1 cS s.names,bG s.count,au 5 cO s.aj,aZ s.order,bG s.down,ae s.iD,aZ s.set,au 5 cO s.bJ]⟩:ah)::Sx)⟩:St)) (fun (E:Nat×Option Addr×Nat×List ah)=>match E with|(i,dN,dg,Sx)=>s.ay.length-i) (0,none,0,[]) ⟨(Nat.zero_le _),(bn.cast iW lu),rfl⟩ (aJ (h:=by repeat (first|exact trivial|refine⟨(by (repeat (first|exact fP|(apply gi;focus (first|rfl|(simp;done)|(congr 2;omega)|(apply eP;exact tZ js aa)|(apply eP;simp;done)))|(apply fU;focus rfl)));done),?_⟩))) ?_;rintro⟨i,dN,dg,Sx⟩ _ ⟨hi,ey,rfl⟩;refine af [1,3,14,15,16,17] ?_;refine av ?_ ?_<;>intro aY cD
  ·have aa:i<s.ay.length:=(by simp at aY;omega)
   have Y8:=hs.c bB _ (getElem_mem aa);refine aB 1 ?_;refine bV (cW (mk:=Op.load 28) rfl ot (by first|exact qJ (k:=0) (ds:=[_,_]) rfl rfl isAgg28 sizeOf28 rfl rfl|exact ku lV isAgg28 sizeOf28 w5|exact ku fq isAgg28 sizeOf28 w5|exact ku jJ isAgg28 sizeOf28 w5|exact dL (k:=0) lV rfl rfl rfl isAgg28 sizeOf28 w5|exact dL (k:=0) fq rfl rfl rfl isAgg28 sizeOf28 w5|exact dL (k:=0) jJ rfl rfl rfl isAgg28 sizeOf28 w5|exact qR (ds:=[_,_]) isAgg28 sizeOf28 rfl rfl)) ?_;refine OD.alloc (ds:=[_,_]) ap rfl rfl zeroValue28 rfl (fun b5=>?_);refine aO 0 [_,_] sizeOf28 ?_;refine an 107 [1,3,5,14,15,16] ?_;refine iv 11 (ax (take 2 _)) ?_ (fun _ h=>(Sublist.map _ (take_sublist _ _)).subset h);refine aD 0 rfl bI ?_;refine aD 1 rfl (dX 0) ?_;refine aD 2 rfl fa ?_;refine aD 3 rfl (dX 1) ?_;refine aD 4 rfl fa ?_;refine aD 5 rfl (o9 (mk:=Op.indexAddr 165) rfl wT ot (by first|exact Vh runUnderlying165 sizeOf9 rfl w5|exact Vh (j:=Int.toNat _) runUnderlying165 sizeOf9 (Int.toNat_of_nonneg w4).symm w4)) ?_
   refine aD 6 rfl (cW (mk:=Op.load 9) rfl ot (by first|exact zL (k:=0) rfl rfl isAgg9 rfl|exact zL (k:=1) rfl rfl isAgg9 rfl|exact vC lV isAgg9 w5 rfl|exact rJ lV isAgg9 w5 rfl|exact vC fq isAgg9 w5 rfl|exact rJ fq isAgg9 w5 rfl|exact vC jJ isAgg9 w5 rfl|exact rJ jJ isAgg9 w5 rfl|exact lG (k:=0) lV rfl rfl rfl isAgg9 w5 rfl|exact jk (k:=0) lV rfl rfl rfl isAgg9 w5 rfl|exact lG (k:=1) lV rfl rfl rfl isAgg9 w5 rfl|exact jk (k:=1) lV rfl rfl rfl isAgg9 w5 rfl|exact lG (k:=0) fq rfl rfl rfl isAgg9 w5 rfl|exact jk (k:=0) fq rfl rfl rfl isAgg9 w5 rfl|exact lG (k:=1) fq rfl rfl rfl isAgg9 w5 rfl|exact jk (k:=1) fq rfl rfl rfl isAgg9 w5 rfl|exact lG (k:=0) jJ rfl rfl rfl isAgg9 w5 rfl|exact jk (k:=0) jJ rfl rfl rfl isAgg9 w5 rfl|exact lG (k:=1) jJ rfl rfl rfl isAgg9 w5 rfl|exact jk (k:=1) jJ rfl rfl rfl isAgg9 w5 rfl|exact CW isAgg9 rfl|exact agP hty isAgg9 (adC Y8.1 Y8.2))) ?_;refine dZ.later rfl ?_;refine AD.one (i:=7) aC ?_;refine nJ (cq 0 [_,_]) [.string ⟨#[]⟩,.string ⟨#[]⟩] [_,_] zeroValue9 runUnderlying44 sizeOf9 (fun b27=>?_);refine nK 0 27 1 2 ?_;refine AD.one (i:=8) aC ?_;refine qq call101 (sP [s.ay[i].n,L4 s.ay[i].k] (by show 2≤10;decide)) ?_;refine AD.one (i:=9) aC ?_;refine nJ (cq 0 [_]) [.slice none 0 0] [_] zeroValue110 runUnderlying163 sizeOf110 (fun uY=>?_)
   refine nK 0 29 1 1 ?_;refine AD.one (i:=10) aC ?_;refine bD.Fc (Sq:=Sx) (R:=[_,_]) rfl ap rfl rfl underlying163 P9 rfl w7 ot ey (perm_append_comm (l₁:=[_,_])) (cz gw _) ot (uq pZ [js s.ay[i]]) w7 (by rw[length_map,length_take];simp only[maxLen];omega) (by rw[length_map,length_take];omega) iP (fun OO U MT MU=>?_);refine AD.perm (ez (S1:=[⟨OO,110,U*1,flatMap cK ((s.ay.take i).map js)++flatMap cK [js s.ay[i]]⟩]) (A:=[_,_])) ?_;rw[show flatMap cK ((s.ay.take i).map js)++flatMap cK [js s.ay[i]]=flatMap cK ((s.ay.take i).map js++[js s.ay[i]]) from List.flatMap_append.symm,show((s.ay.take i).map js).length+1=((s.ay.take i).map js++[js s.ay[i]]).length from by rw[length_append];rfl];refine fB ?_;refine bp [1,3,14,15,16] ?_;refine cc [1,3,14,15,16] ?_;refine⟨((i+1),(some ⟨OO,0,none⟩),U,[⟨OO,110,U*1,flatMap cK ((s.ay.take i).map js++[js s.ay[i]])⟩]),_,cr,(aJ (h:=by repeat (first|exact trivial|refine⟨(by (repeat (first|exact fP|(apply gi;focus (first|rfl|(simp;done)|(congr 2;omega)|(apply eP;exact tZ js aa)|(apply eP;simp;done)))|(apply fU;focus rfl)));done),?_⟩))),w4,(bn.cast (bQ (by rw[length_append];exact MT) MU) (by exact tZ js aa)),rfl⟩
  have fk:=KD js (show s.ay.length≤i by simp at aY;omega);have Z:=Ub (G:=G) (s.ay.map js) HI (KE s.ay);rw[←fk] at Z kD;refine aB 1 ?_;refine bV fa ?_;refine eD (cq 0 [_,_,_]) [.string ⟨#[]⟩,.string ⟨#[]⟩,.string ⟨#[]⟩] [_,_,_] zeroValue9 runUnderlying44 sizeOf9 (fun Y9=>?_);refine OD.perm (zl (S2:=[⟨Y9,9,3*1,flatMap cS ([⟨#[67,82,69,65,84,69]⟩,⟨#[84,65,66,76,69]⟩,s.table])⟩]) (A:=[_])) ?_;refine OD.iE (t:=34) (Sq:=[⟨Y9,9,3*1,flatMap cS ([⟨#[67,82,69,65,84,69]⟩,⟨#[84,65,66,76,69]⟩,s.table])⟩]) lk (bQ (g:=cS) (sz:=1) (e:=9) (ls:=[⟨#[67,82,69,65,84,69]⟩,⟨#[84,65,66,76,69]⟩,s.table]) (Nat.le_refl _) (show 3≤maxLen by decide)) (cz jJ _) (zk (A:=[_])) ?_;refine OD.call ap rfl rfl rfl call101 (zM [⟨#[67,82,69,65,84,69]⟩,⟨#[84,65,66,76,69]⟩,s.table] (by show 3≤10;decide)) ⟨ot,trivial⟩ (fg _) ?_;rintro _ S35 ⟨aqZ,aq0,rfl,akM⟩;refine OD.perm (zl (A:=[_])) ?_;refine aH 1 ?_;refine OD.iE (t:=36) (Sq:=Sx) lk ey (cz gw _) (pc (A:=[_])) ?_;refine ec call102 (Z) ?_;refine OD.eL (ls:=([⟨#[67,82,69,65,84,69]⟩,⟨#[84,65,66,76,69]⟩,s.table].map bE)) (new:=(mA ((s.ay.take i).map js))) (Sq:=S35) iX lX ap rfl rfl underlying110 IN rfl w7 ot akM (dI (A:=[_])) ot (Sk _) qk w9 (fun OF W4 akN akO=>?_)
  refine OD.perm (ez (S1:=[⟨OF,170,W4*3,flatMap cT (([⟨#[67,82,69,65,84,69]⟩,⟨#[84,65,66,76,69]⟩,s.table].map bE)++(mA ((s.ay.take i).map js)))⟩]) (A:=[_])) ?_;refine an 107 [2] ?_;refine CD.iE (t:=2) (Sq:=[⟨OF,170,W4*3,flatMap cT (([⟨#[67,82,69,65,84,69]⟩,⟨#[84,65,66,76,69]⟩,s.table].map bE)++(mA ((s.ay.take i).map js)))⟩]) lk (bQ akN akO) (cz iX _) (dI (A:=[_])) ?_;refine aM [] ?_;refine⟨?_,rfl⟩;unfold nU;rw[if_pos bB,←fk]
 refine af [1,10,39] ?_;refine av ?_ ?_<;>intro cm cR
 ·refine cM [2] ?_;refine aR 1 ?_ (h:=by exact fa);refine cN (sP [⟨#[68,82,79,80]⟩,⟨#[84,65,66,76,69]⟩,s.table] (by show 3≤10;decide)) ?_;refine bH ?_;refine aM [] ?_;refine⟨?_,rfl⟩;unfold nU;rw[if_neg bB,if_pos cR]
 refine af [1,10,45] ?_;refine av ?_ ?_<;>intro da eA
 ·refine cf ?_;refine bp [1,6] ?_;refine cM [1,6,48,49,50] ?_;refine aR 1 ?_ (h:=by exact fa);refine bH ?_;refine CD.block ?_;refine nq (fun (E:Nat×Option Addr×Nat×List ah) aE=>match E with|(i,Ij,Il,Sv)=>(i≤s.row.length)∧(bn 110 1 (((s.row.take i).map jx).flatMap cK) ((s.row.take i).map jx).length Ij Il Sv)∧aE=(⟨107,[(1,cZ b1),(6,aP Ij ((s.row.take i).map jx).length Il),(48,au 3 cV s.row),(49,ae (s.row.length:Nat)),(50,ae (i:Nat))],((⟨b1,46,12,[ae s.kind,aZ s.table,au 2 cC s.ay,au 3 cV s.row,au 1 cS s.names,bG s.count,au 5 cO s.aj,aZ s.order,bG s.down,ae s.iD,aZ s.set,au 5 cO s.bJ]⟩:ah)::Sv)⟩:St)) (fun (E:Nat×Option Addr×Nat×List ah)=>match E with|(i,Ij,Il,Sv)=>s.row.length-i) (0,none,0,[]) ⟨(Nat.zero_le _),(bn.cast iW lu),rfl⟩ (aJ (h:=by repeat (first|exact trivial|refine⟨(by (repeat (first|exact fP|(apply gi;focus (first|rfl|(simp;done)|(congr 2;omega)|(apply eP;exact tZ jx aa)|(apply eP;simp;done)))|(apply fU;focus rfl)));done),?_⟩))) ?_;rintro⟨i,Ij,Il,Sv⟩ _ ⟨hi,nj,rfl⟩;refine af [1,6,48,49,50,51] ?_;refine av ?_ ?_<;>intro dR fH
  ·have aa:i<s.row.length:=(by simp at dR;omega)
   refine aB 1 ?_;refine bV (cW (mk:=Op.load 33) rfl ot (by first|exact qJ (k:=0) (ds:=[_,_,_]) rfl rfl isAgg33 sizeOf33 rfl rfl|exact ku lV isAgg33 sizeOf33 w5|exact ku fq isAgg33 sizeOf33 w5|exact ku jJ isAgg33 sizeOf33 w5|exact dL (k:=0) lV rfl rfl rfl isAgg33 sizeOf33 w5|exact dL (k:=0) fq rfl rfl rfl isAgg33 sizeOf33 w5|exact dL (k:=0) jJ rfl rfl rfl isAgg33 sizeOf33 w5|exact qR (ds:=[_,_,_]) isAgg33 sizeOf33 rfl rfl)) ?_;refine OD.alloc (ds:=[_,_,_]) ap rfl rfl zeroValue33 rfl (fun b8=>?_);refine aO 0 [_,_,_] sizeOf33 ?_;refine an 107 [1,6,8,48,49,50] ?_;refine dY 1 ?_;refine bV (cW (mk:=Op.load 33) rfl ot (by first|exact qJ (k:=0) (ds:=[_,_,_]) rfl rfl isAgg33 sizeOf33 rfl rfl|exact ku lV isAgg33 sizeOf33 w5|exact ku fq isAgg33 sizeOf33 w5|exact ku jJ isAgg33 sizeOf33 w5|exact dL (k:=0) lV rfl rfl rfl isAgg33 sizeOf33 w5|exact dL (k:=1) lV rfl rfl rfl isAgg33 sizeOf33 w5|exact dL (k:=0) fq rfl rfl rfl isAgg33 sizeOf33 w5|exact dL (k:=1) fq rfl rfl rfl isAgg33 sizeOf33 w5|exact dL (k:=0) jJ rfl rfl rfl isAgg33 sizeOf33 w5|exact dL (k:=1) jJ rfl rfl rfl isAgg33 sizeOf33 w5|exact qR (ds:=[_,_,_]) isAgg33 sizeOf33 rfl rfl)) ?_;refine ec call103 (P3 s.row[i] (hs.r eA _ (getElem_mem aa))) ?_;refine eD (cq 0 [_]) [.slice none 0 0] [_] zeroValue110 runUnderlying163 sizeOf110 (fun b57=>?_)
   refine fT 0 57 1 1 ?_;refine OD.eL (ls:=((s.row.take i).map jx)) (new:=[jx s.row[i]]) (Sq:=Sv) gw pZ ap rfl rfl underlying163 P9 rfl w7 ot nj (dI (A:=[_,_])) ot bj (by simp only[maxLen,length_map,length_take,length_cons,length_nil];omega) (by simp only[length_map,length_take,length_cons,length_nil];omega) (fun AY MV akP akQ=>?_);refine OD.perm (ez (S1:=[⟨AY,110,MV*1,flatMap cK (((s.row.take i).map jx)++[jx s.row[i]])⟩]) (A:=[_,_])) ?_;refine an 107 [1,6,48,49,50] ?_;refine cc [1,6,48,49,50] ?_;refine⟨((i+1),(some ⟨AY,0,none⟩),MV,[⟨AY,110,MV*1,flatMap cK (((s.row.take i).map jx)++[jx s.row[i]])⟩]),_,cr,(aJ (h:=by repeat (first|exact trivial|refine⟨(by (repeat (first|exact fP|(apply gi;focus (first|rfl|(simp;done)|(congr 2;omega)|(apply eP;exact tZ jx aa)|(apply eP;simp;done)))|(apply fU;focus rfl)));done),?_⟩))),w4,(bn.cast (bQ akP akQ) (by exact tZ jx aa)),rfl⟩
  have VY:=KD jx (show s.row.length≤i by simp at dR;omega);have Z:=Ub (G:=G) (s.row.map jx) HI (Ss s.row);rw[←VY] at Z r8;refine aB 1 ?_;refine bV fa ?_;refine eD (cq 0 [_,_,_,_]) [.string ⟨#[]⟩,.string ⟨#[]⟩,.string ⟨#[]⟩,.string ⟨#[]⟩] [_,_,_,_] zeroValue9 runUnderlying44 sizeOf9 (fun OP=>?_);refine OD.perm (zl (S2:=[⟨OP,9,4*1,flatMap cS ([⟨#[73,78,83,69,82,84]⟩,⟨#[73,78,84,79]⟩,s.table,⟨#[86,65,76,85,69,83]⟩])⟩]) (A:=[_])) ?_;refine OD.iE (t:=62) (Sq:=[⟨OP,9,4*1,flatMap cS ([⟨#[73,78,83,69,82,84]⟩,⟨#[73,78,84,79]⟩,s.table,⟨#[86,65,76,85,69,83]⟩])⟩]) lk (bQ (g:=cS) (sz:=1) (e:=9) (ls:=[⟨#[73,78,83,69,82,84]⟩,⟨#[73,78,84,79]⟩,s.table,⟨#[86,65,76,85,69,83]⟩]) (Nat.le_refl _) (show 4≤maxLen by decide)) (cz jJ _) (zk (A:=[_])) ?_;refine OD.call ap rfl rfl rfl call101 (zM [⟨#[73,78,83,69,82,84]⟩,⟨#[73,78,84,79]⟩,s.table,⟨#[86,65,76,85,69,83]⟩] (by show 4≤10;decide)) ⟨ot,trivial⟩ (fg _) ?_;rintro _ D3 ⟨WV,xZ,rfl,C3⟩;refine OD.perm (zl (A:=[_])) ?_;refine aH 1 ?_;refine OD.iE (t:=64) (Sq:=Sv) lk nj (cz gw _) (pc (A:=[_])) ?_;refine ec call102 (Z) ?_;refine OD.eL (ls:=([⟨#[73,78,83,69,82,84]⟩,⟨#[73,78,84,79]⟩,s.table,⟨#[86,65,76,85,69,83]⟩].map bE)) (new:=(mA ((s.row.take i).map jx))) (Sq:=D3) iX lX ap rfl rfl underlying110 IN rfl w7 ot C3 (dI (A:=[_])) ot (Sk _) qk w9 (fun pK Az AA AB=>?_)
  refine OD.perm (ez (S1:=[⟨pK,170,Az*3,flatMap cT (([⟨#[73,78,83,69,82,84]⟩,⟨#[73,78,84,79]⟩,s.table,⟨#[86,65,76,85,69,83]⟩].map bE)++(mA ((s.row.take i).map jx)))⟩]) (A:=[_])) ?_;refine an 107 [2] ?_;refine CD.iE (t:=2) (Sq:=[⟨pK,170,Az*3,flatMap cT (([⟨#[73,78,83,69,82,84]⟩,⟨#[73,78,84,79]⟩,s.table,⟨#[86,65,76,85,69,83]⟩].map bE)++(mA ((s.row.take i).map jx)))⟩]) lk (bQ AA AB) (cz iX _) (dI (A:=[_])) ?_;refine aM [] ?_;refine⟨?_,rfl⟩;unfold nU;rw[if_neg bB,if_neg cR,if_pos eA,←VY]
 refine af [1,10,67] ?_;refine av ?_ ?_<;>intro fM gW
 ·refine cM [2] ?_;refine aR 0 ?_ (h:=by exact(cW (mk:=Op.load 46) rfl ot (by first|exact qJ (k:=0) (ds:=[_,_,_,_,_,_,_,_,_,_,_,_]) rfl rfl isAgg46 sizeOf46 rfl rfl|exact ku lV isAgg46 sizeOf46 w5|exact ku fq isAgg46 sizeOf46 w5|exact ku jJ isAgg46 sizeOf46 w5|exact dL (k:=0) lV rfl rfl rfl isAgg46 sizeOf46 w5|exact dL (k:=0) fq rfl rfl rfl isAgg46 sizeOf46 w5|exact dL (k:=0) jJ rfl rfl rfl isAgg46 sizeOf46 w5|exact qR (ds:=[_,_,_,_,_,_,_,_,_,_,_,_]) isAgg46 sizeOf46 rfl rfl)));refine cN (O (hs.w (.inl gW))) ?_;refine bH ?_;refine aM [] ?_;refine⟨?_,rfl⟩;unfold nU;rw[if_neg bB,if_neg cR,if_neg eA,if_pos gW]
 refine af [1,10,71] ?_;refine av ?_ ?_<;>intro jb I
 ·refine cM [2] ?_;refine aR 1 ?_ (h:=by exact fa);refine aR 1 ?_ (h:=by exact fa);refine cN (sP [⟨#[85,80,68,65,84,69]⟩,s.table,⟨#[83,69,84]⟩,s.set] (by show 4≤10;decide)) ?_;refine cN (nv ⟨#[61]⟩) ?_;refine aR 2 ?_ (h:=by exact fa);refine cN (Qo s.bJ akL (hs.t I) (fun o h=>(hf.x o h).2)) ?_;refine aR 1 ?_ (h:=by exact fa);refine cN (IJ s.aj qw (hs.w (.inr (.inl I))) (fun o h=>(hf.w o h).2) w4) ?_;refine cN (Fg [[⟨#[85,80,68,65,84,69]⟩,s.table,⟨#[83,69,84]⟩,s.set].map bE,[dS ⟨#[61]⟩],qQ s.bJ,j6 s.aj] (by show 4≤1000;decide) (by simp only[flatten_cons,flatten_nil,length_append,length_map,length_cons,length_nil];omega) (by simp only[flatten_cons,flatten_nil,length_append,length_map,length_cons,length_nil];omega)) ?_;refine bH ?_;refine aM [] ?_;refine⟨?_,rfl⟩;unfold nU;rw[if_neg bB,if_neg cR,if_neg eA,if_neg gW,if_pos I]
 refine af [1,89] ?_;refine av ?_ ?_<;>intro iS mY
 ·refine CD.seq ?_;refine iv 8 (ax (take 1 _)) ?_ (fun _ h=>(Sublist.map _ (take_sublist _ _)).subset h);refine aD 0 rfl (dX 1) ?_;refine aD 1 rfl fa ?_;refine aD 4 rfl (dX 6) ?_;refine aD 5 rfl fa ?_;refine dZ.later rfl ?_;refine AD.one (i:=2) aC ?_;refine nJ (cq 0 [_,_,_]) [.string ⟨#[]⟩,.string ⟨#[]⟩,.string ⟨#[]⟩] [_,_,_] zeroValue9 runUnderlying44 sizeOf9 (fun Za=>?_);refine nK 0 93 1 3 ?_;refine AD.one (i:=3) aC ?_;refine bD.call rfl ap rfl rfl rfl call101 (zM [⟨#[68,69,76,69,84,69]⟩,⟨#[70,82,79,77]⟩,s.table] (by show 3≤10;decide)) ⟨ot,trivial⟩ (fg _) iP ?_;rintro _ S94 ⟨aq1,aq2,rfl,akR⟩;refine AD.perm (ez (A:=[_])) ?_;refine AD.one (i:=6) aC ?_;refine qq call108 (IJ s.aj qw (hs.w (.inr (.inr mY))) (fun o h=>(hf.w o h).2) w4) ?_;refine AD.one (i:=7) aC ?_;refine bD.pQ (ls:=([⟨#[68,69,76,69,84,69]⟩,⟨#[70,82,79,77]⟩,s.table].map bE)) (new:=(j6 s.aj)) (Sq:=S94) iX lX rfl ap rfl rfl underlying110 IN rfl w7 runUnderlying110 sizeOf170 ot akR (dI (A:=[_])) ot qk w9 (fun aq3 aq4 S98 akS=>?_);refine AD.perm (ez (A:=[_])) ?_;refine fB ?_;refine bp [2] ?_;refine CD.iE (t:=2) (Sq:=S98) lk akS (cz iX _) (dI (A:=[_])) ?_;refine eZ ?_;refine⟨?_,rfl⟩;unfold nU;rw[if_neg bB,if_neg cR,if_neg eA,if_neg gW,if_neg I,if_pos mY]
 obtain⟨j,hj,OQ⟩:∃j:Nat,s.kind=((7+j:Nat):Int)∧j<Hf.length:=⟨(s.kind-7).toNat,by have:=hs.k1;have:=hs.k9;omega,by have:=hs.k1;have:=hs.k9;show _<3;omega⟩
 refine cM [2] ?_;refine Ot (g:=cS) (Hf) ?_;refine aR 1 ?_ (h:=by exact fa);refine aR 0 ?_ (h:=by exact(dA (r:=.int .i64 ((j:Nat):Int)) rfl ot bP (iy (by rw[hj,show(((7+j:Nat)):Int)-7=((j:Nat):Int) by omega];exact wrap_i64 w4 (by have:j<3:=OQ;omega)))));refine aR 1 ?_ (h:=by exact(cW (mk:=Op.load 9) rfl ot (by exact rJ (i:=j) jJ isAgg9 OQ rfl)));refine cN (sP [Hf[j]] AT) ?_;refine bH ?_;refine aM [] ?_;refine⟨?_,rfl⟩;unfold nU;rw[if_neg bB,if_neg cR,if_neg eA,if_neg gW,if_neg I,if_neg mY,hj,show(((7+j:Nat):Int)-7).toNat=j by omega,mR OQ];first|done|rfl

theorem Qp:∀(l pre:List cH),rL pre l=0→∀c∈l,cy c.n=0∧1≤c.k∧c.k≤3
 | [],_,_,c,hc=>by cases hc
 | a::l,pre,h,c,hc=>by
  have h:(if nE pre a≠0 then nE pre a else rL (pre++[a]) l)=0:=h;by_cases h0:nE pre a=0
  ·rw[if_neg (by simp[h0])] at h;rcases mem_cons.1 hc with rfl|hc
   ·unfold nE at h0;by_cases h1:cy c.n=0
    ·rw[if_neg (by simp[h1])] at h0;by_cases h2:c.k<1∨c.k>3
     ·rw[if_pos h2] at h0;cases h0
     exact⟨h1,by omega⟩
    rw[if_pos h1] at h0;exact absurd h0 h1
   exact Qp l _ h c hc
  rw[if_pos h0] at h;exact absurd h h0
theorem abK{l:List cH}(h:fW l=0):(1≤l.length∧l.length≤6)∧∀c∈l,cy c.n=0∧1≤c.k∧c.k≤3:=by
 unfold fW at h;split at h
 ·cases h
 exact⟨by omega,Qp l [] h⟩
theorem Ud{α:Type}{f:α→Int}:∀{l:List α},j5 f l=0→∀a∈l,f a=0
 | [],_,a,h=>by cases h
 | b::r,h,a,ha=>by
  unfold j5 at h;split at h
  ·exact absurd h uL
  rcases mem_cons.1 ha with rfl|ha
  ·have hn:¬f a≠0:=(by assumption)
   omega
  exact Ud h a ha
theorem KF{l:List aK}(h:ny l=0):l.length=0∨fX 0 l=0:=by
 unfold ny at h;split at h
 ·exact .inl uL
 right;unfold gN at h;split at h
 ·cases h
 exact h
theorem ahd{l:List aK}(h:gN l=0):fX 0 l=0∧l.length≤40:=by
 unfold gN at h;split at h
 ·cases h
 exact⟨h,by omega⟩
theorem aiB{s:bA}(h:dM s=0):ew s=0∧eE s (dW s)=true∧(s.kind<7→cy s.table=0):=by
 unfold dM at h;split at h
 ·rename_i h1;exact absurd h h1.2
 rename_i h1;split at h
 ·cases h
 rename_i h2;refine⟨h,?_,fun hk=>?_⟩
 ·cases hb:eE s (dW s) with
  | true=>rfl
  | false=>exact absurd ⟨h,hb⟩ h2
 by_cases hn:cy s.table=0
 ·exact hn
 exact absurd ⟨hk,hn⟩ h1
theorem aiC{s:bA}(hf:eI s)(h1:1≤s.kind)(E:s.kind≤9)(h:dM s=0):Y7 s:=by
 have he:=(aiB h).1;unfold ew at he;refine⟨hf,h1,E,fun hk=>?_,fun hk v hv=>?_,fun hk=>?_,fun hk=>?_⟩
 ·rw[if_pos hk] at he;exact fun c hc=>((abK he).2 c hc).2
 ·rw[if_neg w4,if_pos hk] at he;unfold dQ at he;split at he
  ·cases he
  exact Vp (Ud he v hv) (hf.r v hv).1 (hf.r v hv).2
 ·by_cases h4:s.kind=4
  ·rw[if_neg w4,if_neg w4,if_pos h4] at he;unfold pp at he;repeat' split at he
   all_goals first|(exfalso;omega)|exact KF w4
  by_cases h5:s.kind=5
  ·rw[if_neg w4,if_neg w4,if_neg h4,if_pos h5] at he;repeat' split at he
   all_goals first|(exfalso;omega)|exact KF he
  rw[if_neg w4,if_neg w4,if_neg h4,if_neg h5,if_pos w4] at he;exact KF he
 rw[if_neg w4,if_neg w4,if_neg w4,if_pos hk] at he;repeat' split at he
 all_goals first|(exfalso;omega)|exact(ahd uL).1
def cX(s:bA):Int:=if s.kind<1∨s.kind>9 then 2 else if dM s≠0 then dM s else if (nU s).length>100 then 10 else 0
theorem Su(hm:(3,marksC)∈G)(hw:(1,wordsC)∈G)(O:(0,typesC)∈G)(s:bA)(hf:eI s):VP Tryz.prog G 28 [.agg (bg s)] (ae (cX s)):=by
 refine VC.body func28 rfl ntmps28 aQ fun X0 w0 bf=>?_;have c8:=dV;have fC:=abJ hm hw s hf;unfold bg at fC;unfold bg;have Z:(s.kind<1∨s.kind>9)∨¬(s.kind<1∨s.kind>9):=(by omega)
 refine cf ?_;refine OD.box (ds:=[_,_,_,_,_,_,_,_,_,_,_,_]) ap rfl rfl ot rfl rfl (fun b1=>?_);refine an 21 [1] ?_;refine aB 4 ?_;refine bY 7 (fun U E=>?_) (fun U E=>?_)
 ·refine bp [1,11] ?_;refine eY ?_;have aW:cX s=2:=if_pos w4;exact yt
 refine bp [1,11] ?_;refine av ?_ ?_<;>intro aL bB
 ·have aW:cX s=2:=if_pos w4;exact yt
 have hk:¬(s.kind<1∨s.kind>9):=(by omega)
 refine cL [1,3] (fC) ?_;refine af [1,3,15] ?_;refine av ?_ ?_<;>intro aY cD
 ·have hn:dM s≠0:=(by simpa using aY)
  have aW:cX s=dM s:=(by unfold cX;rw[if_neg hk,if_pos hn])
  exact yt
 have h0:dM s=0:=(by simpa using aY)
 have I:=afz O s (aiC hf w4 w4 h0);unfold bg at I;have gH:¬dM s≠0:=fun h=>h h0;refine cL [20] (I) ?_;refine av ?_ ?_<;>intro cm cR
 ·have aW:cX s=10:=(by unfold cX;rw[if_neg hk,if_neg gH,if_pos (by simp at cm;omega)])
  exact yt
 have aW:cX s=0:=(by unfold cX;rw[if_neg hk,if_neg gH,if_neg (by simp at cm;omega)])
 refine af [2] ?_;refine eZ ?_;rw[aW];exact⟨rfl,rfl⟩

end Go.Proofs.YtkgmonfgofobaaaGreatDoor.Pa
namespace Go.Proofs.YtkgmonfgofobaaaGreatDoor.Pc
open List
open Go.Proofs.Tryz
open Go.RowKit V Pk Vl Go.Proofs.YtkgmonfgofobaaaGreatDoor.Nm Pa
variable {G:List (Nat×List Value)}
variable {i:Nat}
theorem ahe:cy ⟨#[116]⟩=0:=tT (l:=[116]) w7 w7 (fun c hc=>by simp only[mem_singleton] at hc;subst hc;decide)
def rz(l:List cH):bA:={dz with kind:=1,table:=⟨#[116]⟩,ay:=l}
theorem aiD{l:List cH}(h6:l.length≤6)(aT:∀c∈l,c.n.size≤maxLen):eI (rz l) :=
 ⟨⟨h6,Nat.zero_le _,Nat.zero_le _,Nat.zero_le _,Nat.zero_le _⟩,(by show 1≤maxLen;decide),aT,(fun _ h=>by cases h),Nat.zero_le _,Nat.zero_le _,(fun _ h=>by cases h),(fun _ h=>by cases h),(fun _ h=>by cases h)⟩
theorem ahf(l:List cH):eE (rz l) (rz l)=true:=by
 unfold eE;simp only[Bool.and_eq_true,beq_iff_eq,xn,and_self]
theorem afA(l:List cH):dM (rz l)=fW l:=by
 have h1:ew (rz l)=fW l:=rfl;have h2:dW (rz l)=rz l:=rfl;unfold dM;rw[if_neg (fun h=>h.2 ahe),h2,h1,if_neg (fun h=>by rw[ahf] at h;cases h.2)]
theorem adD{l:List cH}(h6:l.length≤6):cX (rz l)=fW l:=by
 unfold cX;rw[if_neg (fun h=>by have:(rz l).kind=1:=rfl;omega),afA];split
 ·rfl
 rename_i h0;have h1:=FN (ts:=l.map js) (KE l) (l.map js).length;have h2:(mA (l.map js)).length≤80:=(by unfold mA;rw[length_append];(first|rw[length_map] at h1|(unfold au at h1;rw[length_map] at h1));(first|rw[length_map]|(unfold au;rw[length_map]));simp only[length_cons,length_nil];omega)
 have h3:(nU (rz l)).length≤100:=by
  show([_,_,_].map bE++mA (l.map js)).length≤100;rw[length_append];simp only[length_map,length_cons,length_nil];omega
 rw[if_neg w4];simp only[ne_eq,Decidable.not_not] at h0;exact h0.symm
def OR(l:List cH):List D:=[ae 1,aZ ⟨#[116]⟩,au 2 cC l,bF,bF,bG false,bF,fj,bG false,ae (-1),fj,bF]
theorem abL(hm:(3,marksC)∈G)(hw:(1,wordsC)∈G)(ht:(0,typesC)∈G)(l:List cH)(hl:l.length≤6)(aT:∀c∈l,c.n.size≤maxLen):VP Tryz.prog G 28 [.agg (OR l)] (ae (fW l)):=by
 have h:=Pa.Su (G:=G) hm hw ht (rz l) (aiD hl aT);rw[adD hl] at h;refine VC.args h rfl fun w L i h1 h2 v hv=>?_;have:i=0:=(by simp only[length_cons,length_nil] at h1;omega)
 subst this;exact sO (a:=OR l) (b:=bg (rz l)) ⟨bN,bN,bN,eu,eu,bN,eu,bN,bN,bN,bN,eu,trivial⟩ w L v hv
theorem FZ(hm:(3,marksC)∈G)(hw:(1,wordsC)∈G)(ht:(0,typesC)∈G)(l:List cH)(hl:l.length≤6)(aT:∀c∈l,c.n.size≤maxLen):VP Tryz.prog G 67 [au 2 cC l] (ae (fW l)):=by
 refine VC.body func67 rfl ntmps67 aQ fun X0 w0 bf=>?_;have c8:=dV;have fC:=abL hm hw ht l hl aT;unfold OR at fC;refine af [0] ?_;refine cL [2] (fC) ?_;exact z46
def l7(i:Nat)(c:cH)(v:Vl):Int:=if cg v≠0 then cg v else if v.k≠c.k∧(i=0∨v.k≠0) then 4 else 0
def py:Nat→List cH→List Vl→Int
 | i,c::cs,v::vs=>if l7 i c v≠0 then l7 i c v else py (i+1) cs vs
 | _,_,_=>0
def dQ(cs:List cH)(vs:List Vl):Int:=if fW cs≠0 then fW cs else if vs.length≠cs.length then 1 else py 0 cs vs
theorem abq{cs:List cH}{vs:List Vl}(h1:i<cs.length)(h2:i<vs.length)(h:l7 i cs[i] vs[i]=0):py i (cs.drop i) (vs.drop i)=py (i+1) (cs.drop (i+1)) (vs.drop (i+1)):=by
 rw[drop_eq_getElem_cons h1,drop_eq_getElem_cons h2];exact if_neg (by simp[h])
theorem RL{cs:List cH}{vs:List Vl}(h1:i<cs.length)(h2:i<vs.length)(h:l7 i cs[i] vs[i]≠0):py i (cs.drop i) (vs.drop i)=l7 i cs[i] vs[i]:=by
 rw[drop_eq_getElem_cons h1,drop_eq_getElem_cons h2];exact if_pos h
theorem adE{cs:List cH}{vs:List Vl}(h:¬i<vs.length):py i (cs.drop i) (vs.drop i)=0:=by
 rw[drop_of_length_le (l:=vs) w4];cases cs.drop i<;>rfl
theorem Lo(hm:(3,marksC)∈G)(hw:(1,wordsC)∈G)(ht:(0,typesC)∈G)(l:List cH)(hl:l.length≤6)(aT:∀c∈l,c.n.size≤maxLen)(vs:List Vl)(r8:vs.length≤maxLen):VP Tryz.prog G 37 [au 2 cC l,au 3 cV vs] (ae (dQ l vs)):=by
 refine VC.body func37 rfl ntmps37 aQ fun X0 w0 bf=>?_;have c8:=dV;refine af [0,1] ?_;refine cL [0,1,5] (FZ hm hw ht l hl aT) ?_;refine af [0,1,5,12] ?_;refine av ?_ ?_<;>intro aL bB
 ·have hne:fW l≠0:=(by simpa using aL)
  have aW:dQ l vs=fW l:=if_pos hne;refine af [4] ?_;exact oO
 have h0:¬fW l≠0:=(by simpa using aL)
 refine af [0,1,18] ?_;refine av ?_ ?_<;>intro aY cD
 ·have aW:dQ l vs=1:=(by unfold dQ;rw[if_neg h0,if_pos w4])
  refine af [4] ?_;exact oO
 have Z:vs.length=l.length:=(by omega)
 have E:dQ l vs=py 0 (l.drop 0) (vs.drop 0):=(by unfold dQ;rw[if_neg h0,if_neg (by simp[Z])];rfl)
 refine af [0,19,20,21] ?_;refine eG [0,19,20] (fun aS _ (i:Nat) aE=>(i≤vs.length)∧(dQ l vs=py i (l.drop i) (vs.drop i))∧aE=(⟨49,(21,ae (i:Nat))::aS,[]⟩:St)) (fun (i:Nat)=>vs.length-i) 0 ⟨(Nat.zero_le _),E,rfl⟩ ?_;rintro i _ ⟨hi,hinv,rfl⟩;refine af [0,19,20,21,22] ?_;refine av ?_ ?_<;>intro cm cR
 ·have aa:i<vs.length:=(by omega)
  have Mo:i<l.length:=(by omega)
  refine aB 3 ?_;refine OD.alloc (ds:=[_,_,_]) ap rfl rfl zeroValue33 rfl (fun b7=>?_);refine aH 1 ?_;refine aO 0 [_,_,_] sizeOf33 ?_;refine an 49 [0,6,7,19,20,21] ?_;refine cL [0,6,7,8,19,20,21] (Vl.pS vs[i]) ?_;refine af [0,6,7,8,19,20,21,29] ?_;refine av ?_ ?_<;>intro da eA
  ·have hne:cg vs[i]≠0:=(by simpa using da)
   have hf:l7 i l[i] vs[i]=cg vs[i]:=if_pos hne;have aW:dQ l vs=cg vs[i]:=(by rw[hinv,RL Mo aa (by rw[hf];exact hne),hf])
   refine af [4] ?_;exact oO
  have hz:¬cg vs[i]≠0:=(by simpa using da)
  refine CD.skip ?_;refine CD.seq ?_;refine mE 7 [0,6,7,19,20,21,32,37] ?_;refine bH ?_;refine aH 2 ?_;refine bY 39 (fun U I=>?_) (fun U I=>?_)
  ·refine aH 3 ?_;refine bY 42 (fun rO O=>?_) (fun rO O=>?_)
   ·refine bp [0,19,20,21,47] ?_;refine eY ?_;exact Ya
   refine bp [0,19,20,21,47] ?_;refine av ?_ ?_<;>intro dR fH
   ·exact Ya
   exact z70
  refine bp [0,19,20,21,47] ?_;refine gq ?_;exact z70
 have aW:dQ l vs=0:=(by rw[hinv];exact adE w4)
 refine af [4] ?_;exact uR

end Go.Proofs.YtkgmonfgofobaaaGreatDoor.Pc

namespace Go.Proofs.YtkgmonfgofobaaaGreatDoor.Nm
open List
open Go.Proofs.Tryz
open Go.RowKit V Pk Vl
inductive Tw where
 | mk (k n:Int) (s:ByteArray) (ts:List Tw)
mutual
def Tw.cs:Tw→List D
 | .mk k n s ts=>[.v (.int .i64 k),.v (.int .i64 n),.v (.string s),.list 4 (Tw.nP ts) ts.length]
def Tw.nP:List Tw→List D
 | []=>[]
 | t::r=>t.cs++Tw.nP r
end
theorem Tw.Lp:∀ts:List Tw,Tw.nP ts=ts.flatMap Tw.cs
 | []=>rfl
 | t::r=>by rw[Tw.nP,Tw.Lp r,flatMap_cons]
theorem Tw.Gj(t:Tw):t.cs.length=4:=by cases t;rfl
mutual
def Tw.Ok:Tw→Prop
 | .mk k n s ts=>(-9223372036854775808≤k∧k≤9223372036854775807)∧(-9223372036854775808≤n∧n≤9223372036854775807)∧s.size≤maxLen∧ts.length≤maxLen∧Tw.Im ts
def Tw.Im:List Tw→Prop
 | []=>True
 | t::r=>t.Ok∧Tw.Im r
end
theorem Tw.Ue:∀{ts:List Tw},Tw.Im ts→∀t∈ts,t.Ok
 | [],_,t,h=>by cases h
 | a::r,⟨h1,h2⟩,t,h=>by
  rcases mem_cons.1 h with rfl|h
  ·exact h1
  exact Tw.Ue h2 t h
theorem Tw.Uf:∀{ts:List Tw},(∀t∈ts,t.Ok)→Tw.Im ts
 | [],_=>trivial
 | a::r,h=>⟨h a mem_cons_self,Tw.Uf fun t ht=>h t (mem_cons_of_mem _ ht)⟩

def sS(j:Int):ByteArray:=if j=0 then ⟨#[105,100]⟩ else if j=1 then ⟨#[110]⟩ else if j=2 then ⟨#[115]⟩ else ⟨#[98]⟩
def ux(n:Int)(s:ByteArray):Vl:={pW ⟨n,ev n 40-20,s⟩ with s:=n8 (pW ⟨n,ev n 40-20,s⟩).s 4}
def sR(n:Int)(s:ByteArray):aK:=⟨1,ux n s,⟨#[]⟩⟩
def xE(n:Int):aK:=⟨2,bw,sS (ev n 4)⟩
def p8(k:Int):aK:=⟨k,bw,⟨#[]⟩⟩
def mQ(k n:Int)(s:ByteArray):List aK:=if 1+ev k 11=2 then [xE n] else [sR n s]
def iF:Nat→Tw→List aK
 | 0,.mk k n s _=>mQ k n s
 | r+1,.mk k n s ts =>
  if 1+ev k 11=1 then [sR n s]
  else if 1+ev k 11=2 then [xE n]
  else if 1+ev k 11=5∨1+ev k 11=11 then (match ts[0]? with|some t=>iF r t|none=>mQ n 0 s)++[p8 (1+ev k 11)]
  else ((match ts[0]? with|some t=>iF r t|none=>mQ n 0 s)++(match ts[1]? with|some t=>iF r t|none=>mQ n 1 s))++[p8 (1+ev k 11)]
def gX(r:Nat)(ts:List Tw)(n:Int)(s:ByteArray)(i:Nat):List aK:=match ts[i]? with|some t=>iF r t|none=>mQ n i s
theorem zn(k n:Int)(s:ByteArray):(mQ k n s).length=1:=by unfold mQ;split<;>rfl
theorem KG:∀(r:Nat) (t:Tw),1≤(iF r t).length∧(iF r t).length+1≤2 ^ (r+1)
 | 0,.mk k n s ts=>by rw[iF,zn];exact⟨by decide,by decide⟩
 | r+1,.mk k n s ts=>by
  have E:∀i:Nat,1≤(gX r ts n s i).length∧(gX r ts n s i).length+1≤2 ^ (r+1):=fun i=>by
   unfold gX;split
   ·exact KG r _
   rw[zn];exact⟨by decide,by rw[Nat.pow_succ];have:=Nat.one_le_two_pow (n:=r);omega⟩
  have h0:=E 0;have h1:=E 1;unfold gX at h0 h1;have hp:2 ^ (r+1+1)=2 ^ (r+1)+2 ^ (r+1):=(by rw[Nat.pow_succ];omega)
  rw[iF];simp only[Int.natCast_zero,Int.natCast_one] at h0 h1;split
  ·exact⟨by simp,by simp;omega⟩
  split
  ·exact⟨by simp,by simp;omega⟩
  split<;>simp only[length_append,length_cons,length_nil]<;>omega
theorem Ug(r:Nat)(ts:List Tw)(n:Int)(s:ByteArray)(i:Nat):1≤(gX r ts n s i).length∧(gX r ts n s i).length+1≤2 ^ (r+1):=by
 unfold gX;split
 ·exact KG r _
 rw[zn];exact⟨by decide,by rw[Nat.pow_succ];have:=Nat.one_le_two_pow (n:=r);omega⟩
theorem Qq(r:Vl):(pW r).s.size≤10:=by
 unfold pW bw;split
 ·exact Nat.zero_le _
 split
 ·exact Nat.zero_le _
 split
 ·show(n8 r.s 10).size≤10;rw[Ja];omega
 decide
theorem Uh{j:Nat}(h:j<4):[D.v (.string ⟨#[105,100]⟩),D.v (.string ⟨#[110]⟩),D.v (.string ⟨#[115]⟩),D.v (.string ⟨#[98]⟩)][j*1]?=some (aZ (sS (j:Int))):=by
 match j,h with
 | 0,_|1,_|2,_|3,_=>rfl
variable {G:List (Nat×List Value)}
abbrev x5(ls:List aK)(r:D)(S:List ah):Prop:=gE cO 35 5 ls r S

theorem Ui(k n d:Int)(s:ByteArray)(d4:D)(h4:kY d4=true)(ei:-9223372036854775808≤k)(fF:k≤9223372036854775807)(gI:-9223372036854775808≤n)(gJ:n≤9223372036854775807)(hs:s.size≤maxLen)(hd:2<d):VC Tryz.prog G 34 [.agg [ae k,ae n,aZ s,d4],ae d] [] (x5 (mQ k n s)):=by
 refine VC.body func34 rfl ntmps34 aQ fun X0 w0 bf=>?_;have yP:=jZ k (by decide:(1:Int)≤11);have hpn:=jZ n (by decide:(1:Int)≤40);have U:=jZ n (by decide:(1:Int)≤4);obtain⟨j,hj⟩:=Int.eq_ofNat_of_zero_le U.1;have Z:j<4:=(by omega)
 have I:=kH G n 4 gI gJ w7;rw[hj] at I;have gd:(⟨n,ev n 40-20,s⟩:Vl).Ok:=⟨gI,gJ,by show _≤ev n 40-20;omega,by show ev n 40-20≤_;omega,hs⟩
 have YA:=Qq ⟨n,ev n 40-20,s⟩;have hml:100≤maxLen:=(by decide)
 obtain⟨kk,lO⟩:∃kk:Int,1+ev k 11=kk:=⟨_,rfl⟩
 refine cf ?_;refine OD.box (ds:=[_,_,_,_]) ap rfl rfl ot rfl rfl (fun b2=>?_);refine OD.box (ds:=[_]) ap rfl rfl ot rfl rfl (fun b3=>?_);refine an 69 [2,3] ?_;refine cM [2,3,5] ?_;refine cN (kH G k 11 ei fF w7) ?_;refine aR 0 ?_ (h:=by exact(dA (r:=.int .i64 kk) rfl bP ot (kr (by rw[lO];exact wrap_i64 w4 w4))));refine bH ?_;refine aB 3 ?_;refine bY 14 (fun E O=>?_) (fun E O=>?_)
 ·refine bp [2,3,5,17] ?_;refine av ?_ ?_<;>intro aL bB
  ·refine cc [2,3,5] ?_;refine cM [2,5,6] ?_;refine aR 0 ?_ (h:=by exact(pR (ds:=[_,_]) rfl ⟨ot,ot,trivial⟩));refine bH ?_;refine af [2,5,6,19] ?_;refine af [2,5,6,19,20] ?_;refine eY ?_;exact Wz
  refine cM [2,5,6] ?_;refine aR 0 ?_ (h:=by exact(pR (ds:=[_,_]) rfl ⟨ot,ot,trivial⟩));refine bH ?_;refine af [2,5,6,19] ?_;refine af [2,5,6,19,20] ?_;refine av ?_ ?_<;>intro aY cD
  ·exact Wz
  refine af [2,5,6,19,40] ?_;refine av ?_ ?_<;>intro cm cR
  ·refine aB 1 ?_;refine eD (cq 0 [_,_,_,_]) [.string ⟨#[]⟩,.string ⟨#[]⟩,.string ⟨#[]⟩,.string ⟨#[]⟩] [_,_,_,_] zeroValue9 runUnderlying44 sizeOf9 (fun Zb=>?_);refine fT 0 43 1 4 ?_;refine aH 2 ?_;refine ec call14 (I) ?_;refine aH 1 ?_;refine bV (cW (mk:=Op.load 9) rfl ot (CW isAgg9 (Uh Z))) ?_;refine aH 1 ?_;refine eD (cq 0 [_]) [.int .i64 0,.int .i64 0,.int .i64 0,.string ⟨#[]⟩,.string ⟨#[]⟩] [_,_,_,_,_] zeroValue35 runUnderlying36 sizeOf35 (fun yO=>?_);exact z22
  exact absurd cm (by simp at aL aY cm;omega)
 exact absurd E (by simp at E;omega)

end Go.Proofs.YtkgmonfgofobaaaGreatDoor.Nm

namespace Go.Proofs.YtkgmonfgofobaaaGreatDoor.Nm
open List
open Go.Proofs.Tryz
open Go.RowKit V Pk Vl
variable {G:List (Nat×List Value)}
variable {ts:List Tw} {h:Int}
theorem SA{r:Nat}{n:Int}{s:ByteArray}{i:Nat}(hi:i<ts.length):iF r ts[i]=gX r ts n s i:=by unfold gX;rw[getElem?_eq_getElem hi]
theorem SB{r:Nat}{n:Int}{s:ByteArray}{i:Nat}(hi:ts.length≤i):mQ n i s=gX r ts n s i:=by unfold gX;rw[getElem?_eq_none hi]
theorem wR(r:Nat)(k n:Int)(s:ByteArray)(ts:List Tw):iF (r+1) (.mk k n s ts)=if 1+ev k 11=1 then [sR n s] else if 1+ev k 11=2 then [xE n]
  else if 1+ev k 11=5∨1+ev k 11=11 then gX r ts n s 0++[p8 (1+ev k 11)] else (gX r ts n s 0++gX r ts n s 1)++[p8 (1+ev k 11)]:=rfl
theorem LN(r:Nat)(k n d:Int)(s:ByteArray)(ts:List Tw)(i b2 b3:Nat)(IH:∀t∈ts,VC Tryz.prog G 34 [.agg t.cs,ae (d+1)] [] (x5 (iF r t)))(gI:-9223372036854775808≤n)(gJ:n≤9223372036854775807)(hs:s.size≤maxLen)(hd1:0≤d)(hd:d≤2)(hi:i≤1):VC Tryz.prog G 65 [ae (i:Int),cZ b2,cZ b3] [⟨b3,3,1,[ae d]⟩,⟨b2,54,4,[ae k,ae n,aZ s,.list 4 (ts.flatMap Tw.cs) ts.length]⟩] (fun x S=>∃S1,x5 (gX r ts n s i) x S1∧S=S1++[⟨b3,3,1,[ae d]⟩,⟨b2,54,4,[ae k,ae n,aZ s,.list 4 (ts.flatMap Tw.cs) ts.length]⟩]):=by
 refine VC.body func65 rfl ntmps65 aQ fun X0 w0 bf=>?_;refine aB 1 ?_;refine OD.wk (Wk.er (n:=25) (l':=[(0,_),(1,_),(2,_)]) (S':=_) rfl rfl fI) ?_;refine OD.nil ?_;refine aB 5 ?_;refine OD.wk (Wk.er (n:=25) (l':=[(0,_),(1,_),(2,_),(9,_)]) (S':=_) rfl rfl fI) ?_;refine OD.nil ?_;refine av ?_ ?_<;>intro aL bB
 ·have aa:i<ts.length:=(by omega)
  refine CD.seq ?_;refine CD.draw (ax _) aC (fun _ h=>h) ?_;refine aD 0 rfl (dX 3) ?_;refine aD 1 rfl (ee 1) ?_;refine aD 2 rfl bI ?_;refine aD 3 rfl (dO 4) ?_;refine aD 4 rfl (cW (mk:=Op.load 54) rfl ot (by first|exact qJ (k:=0) (ds:=[_,_,_,_]) rfl rfl isAgg54 sizeOf54 rfl rfl|exact qJ (k:=1) (ds:=[_,_,_,_]) rfl rfl isAgg54 sizeOf54 rfl rfl|exact ku Tw.Gj isAgg54 sizeOf54 w5|exact dL (k:=0) Tw.Gj rfl rfl rfl isAgg54 sizeOf54 w5|exact dL (k:=1) Tw.Gj rfl rfl rfl isAgg54 sizeOf54 w5|exact qR (ds:=[_,_,_,_]) isAgg54 sizeOf54 rfl rfl)) ?_;refine aD 5 rfl (ee 0) ?_;refine aD 6 rfl qs ?_;refine dZ.later rfl ?_;refine AD.one (i:=7) aC ?_;refine bD.call rfl ap rfl rfl rfl call34 (IH _ (getElem_mem aa)) ⟨ot,ot,trivial⟩ (fg _) (fun _ h=>h) ?_;rintro _ O ⟨U,Z,rfl,E⟩;refine dj 8 rfl bI ?_;refine AD.wk (y:=⟨25,[(4,_)],((O++[_,_]))⟩) (Wk.er rfl rfl fI) rfl ?_;refine AD.done aC ?_;refine aM _ ?_;first|exact⟨_,gE.cast (gE.mk E) (SA aa),rfl⟩|exact⟨_,gE.cast (gE.mk I) (SB w4),rfl⟩
 refine aB 6 ?_;refine OD.call ap rfl rfl rfl call34 (Ui n (i:Int) 9 s (bF) rfl gI gJ w4 w4 hs w7) ⟨ot,bP,trivial⟩ (fg _) ?_;rintro _ S24 ⟨aq5,aq6,rfl,I⟩;refine aH 1 ?_;refine OD.wk (Wk.er (n:=25) (l':=[(4,_)]) (S':=_) rfl rfl fI) ?_;refine OD.nil ?_;refine aM _ ?_;first|exact⟨_,gE.cast (gE.mk E) (SA aa),rfl⟩|exact⟨_,gE.cast (gE.mk I) (SB w4),rfl⟩
theorem IT:(Tryz.prog.info? 35).map (fun i=>(i.zero,i.size,i.bytes))=some (some (.agg #[.int .i64 0,.int .i64 0,.int .i64 0,.string ⟨#[]⟩,.string ⟨#[]⟩]),5,56):=by kernel_rfl
theorem afB(r:Nat)(hr:r≤2)(k n d:Int)(s:ByteArray)(ts:List Tw)(IH:∀t∈ts,VC Tryz.prog G 34 [.agg t.cs,ae (d+1)] [] (x5 (iF r t)))(ei:-9223372036854775808≤k)(fF:k≤9223372036854775807)(gI:-9223372036854775808≤n)(gJ:n≤9223372036854775807)(hs:s.size≤maxLen)(hd1:0≤d)(hd:d≤2):VC Tryz.prog G 34 [.agg [ae k,ae n,aZ s,.list 4 (ts.flatMap Tw.cs) ts.length],ae d] [] (x5 (iF (r+1) (.mk k n s ts))):=by
 refine VC.body func34 rfl ntmps34 aQ fun X0 w0 bf=>?_;have yP:=jZ k (by decide:(1:Int)≤11);have hpn:=jZ n (by decide:(1:Int)≤40);have hpc:=jZ n (by decide:(1:Int)≤4);obtain⟨j,hj⟩:=Int.eq_ofNat_of_zero_le hpc.1;have hj4:j<4:=(by omega)
 have I:=kH G n 4 gI gJ w7;rw[hj] at I;have gd:(⟨n,ev n 40-20,s⟩:Vl).Ok:=⟨gI,gJ,by show _≤ev n 40-20;omega,by show ev n 40-20≤_;omega,hs⟩
 have YA:=Qq ⟨n,ev n 40-20,s⟩;have hml:100≤maxLen:=(by decide)
 obtain⟨kk,lO⟩:∃kk:Int,1+ev k 11=kk:=⟨_,rfl⟩
 have oN:=Ug r ts n s 0;have lN:=Ug r ts n s 1;have h2p:2 ^ (r+1)≤8:=Nat.pow_le_pow_right w7 (show r+1≤3 by omega);refine cf ?_;refine OD.box (ds:=[_,_,_,_]) ap rfl rfl ot rfl rfl (fun b2=>?_);refine OD.box (ds:=[_]) ap rfl rfl ot rfl rfl (fun b3=>?_);refine an 69 [2,3] ?_;refine cM [2,3,5] ?_;refine cN (kH G k 11 ei fF w7) ?_;refine aR 0 ?_ (h:=by exact(dA (r:=.int .i64 kk) rfl bP ot (kr (by rw[lO];exact wrap_i64 w4 w4))));refine bH ?_;refine aB 3 ?_;refine bY 14 (fun E Z=>?_) (fun E Z=>?_)
 ·exact absurd E (by simp at E;omega)
 refine bp [2,3,5,17] ?_;refine gq ?_;refine cM [2,5,6] ?_;refine aR 0 ?_ (h:=by exact(pR (ds:=[_,_]) rfl ⟨ot,ot,trivial⟩));refine bH ?_;refine af [2,5,6,19] ?_;refine af [2,5,6,19,20] ?_;refine av ?_ ?_<;>intro aY cD
 ·refine CD.seq ?_;refine tJ 11 10 [5,7,31] ?_;refine cN (kH G n 40 gI gJ w7) ?_;refine cN (RM ⟨n,ev n 40-20,s⟩ gd) ?_;refine pF ?_;refine jP ?_;refine⟨rfl,fun b7=>?_⟩;refine aO 0 [_,_,_] sizeOf33 ?_;refine an 69 [5,7] ?_;refine aB 2 ?_;refine ec call40 (Ge (pW ⟨n,ev n 40-20,s⟩).s 4 w4) ?_;refine aH 1 ?_;refine aO 0 [_,_,_] sizeOf9 ?_;refine an 69 [5,7] ?_;refine aB 3 ?_;refine eD (cq 0 [_]) [.int .i64 0,.int .i64 0,.int .i64 0,.string ⟨#[]⟩,.string ⟨#[]⟩] [_,_,_,_,_] zeroValue35 runUnderlying36 sizeOf35 (fun DG=>?_);exact z49
 refine af [2,5,6,19,40] ?_;refine av ?_ ?_<;>intro cm cR
 ·refine aB 1 ?_;refine eD (cq 0 [_,_,_,_]) [.string ⟨#[]⟩,.string ⟨#[]⟩,.string ⟨#[]⟩,.string ⟨#[]⟩] [_,_,_,_] zeroValue9 runUnderlying44 sizeOf9 (fun Zb=>?_);refine fT 0 43 1 4 ?_;refine aH 2 ?_;refine ec call14 (I) ?_;refine aH 1 ?_;refine bV (cW (mk:=Op.load 9) rfl ot (CW isAgg9 (Uh hj4))) ?_;refine aH 1 ?_;refine eD (cq 0 [_]) [.int .i64 0,.int .i64 0,.int .i64 0,.string ⟨#[]⟩,.string ⟨#[]⟩] [_,_,_,_,_] zeroValue35 runUnderlying36 sizeOf35 (fun yO=>?_);exact z49
 refine af [5,6,19,51] ?_;refine av ?_ ?_<;>intro da eA
 ·refine eY ?_;exact z26
 refine cc [5,6,51] ?_;refine av ?_ ?_<;>intro dR fH
 ·exact z26
 refine aB 1 ?_;refine OD.lY (f:=65) (args:=[_]) (all:=[_,_,_]) (Sf:=[_,_]) (R:=[]) ap rfl rfl ot call65 (LN r k n d s ts 0 b2 b3 IH gI gJ hs hd1 hd w7) rfl ⟨bP,trivial⟩ (Perm.refl _) ?_;rintro _ _ ⟨Zc,⟨aq7,aq8,rfl,akT⟩,rfl⟩;refine OD.perm (RI (A:=[_,_])) ?_;refine aH 1 ?_;refine OD.lY (f:=65) (args:=[_]) (all:=[_,_,_]) (Sf:=[_,_]) (R:=Zc) ap rfl rfl ot call65 (LN r k n d s ts 1 b2 b3 IH gI gJ hs hd1 hd w7) rfl ⟨bP,trivial⟩ (Perm.refl _) ?_;rintro _ _ ⟨D3,⟨WV,xZ,rfl,C3⟩,rfl⟩;refine OD.perm (ade (A:=[_,_])) ?_;refine OD.iE (t:=63) (Sq:=D3) lk C3 (cz mu _) (zk (A:=[_,_])) ?_;refine OD.eL (ls:=(gX r ts n s 0)) (new:=(gX r ts n s 1)) (Sq:=Zc) mu Lf ap rfl rfl underlying36 IT rfl w7 ot akT (dI (A:=[_,_])) ot w4 AM AM (fun Eb O akU akV=>?_);refine OD.perm (ez (S1:=[⟨Eb,35,O*5,flatMap cO ((gX r ts n s 0)++(gX r ts n s 1))⟩]) (A:=[_,_])) ?_;refine aH 2 ?_;refine eD (cq 0 [_]) [.int .i64 0,.int .i64 0,.int .i64 0,.string ⟨#[]⟩,.string ⟨#[]⟩] [_,_,_,_,_] zeroValue35 runUnderlying36 sizeOf35 (fun ri=>?_);refine fT 0 67 5 1 ?_
 refine OD.eL (ls:=((gX r ts n s 0)++(gX r ts n s 1))) (new:=[(⟨kk,bw,⟨#[]⟩⟩:aK)]) (Sq:=[⟨Eb,35,O*5,flatMap cO ((gX r ts n s 0)++(gX r ts n s 1))⟩]) mu Lf ap rfl rfl underlying36 IT rfl w7 ot (bQ akU akV) (dI (A:=[_,_])) ot bj AM AM (fun Zd U akW akX=>?_);refine OD.perm (ez (S1:=[⟨Zd,35,U*5,flatMap cO (((gX r ts n s 0)++(gX r ts n s 1))++[(⟨kk,bw,⟨#[]⟩⟩:aK)])⟩]) (A:=[_,_])) ?_;refine an 69 [4] ?_;refine aM [⟨Zd,35,U*5,flatMap cO (((gX r ts n s 0)++(gX r ts n s 1))++[(⟨kk,bw,⟨#[]⟩⟩:aK)])⟩] ?_;exact gE.cast (gE.mk (bQ akW akX)) (by rw[wR,lO,if_neg w4,if_neg w4,if_neg w4];rfl)
theorem Vq:∀(r:Nat),r≤3→∀(t:Tw),t.Ok→VC Tryz.prog G 34 [.agg t.cs,ae (3-(r:Int))] [] (x5 (iF r t))
 | 0,_,.mk k n s ts,h=>Ui k n 3 s (.list 4 (Tw.nP ts) ts.length) rfl h.1.1 h.1.2 h.2.1.1 h.2.1.2 h.2.2.1 w7
 | r+1,hr,.mk k n s ts,h=>by
  have:=afB (G:=G) r w4 k n (3-((r+1:Nat):Int)) s ts (fun t ht=>by
   have h1:=Vq r w4 t (Tw.Ue h.2.2.2.2 t ht);rw[show(3-((r+1:Nat):Int)+1)=3-(r:Int) by omega];exact h1) h.1.1 h.1.2 h.2.1.1 h.2.1.2 h.2.2.1 w4 w4
  rw[←Tw.Lp] at this;exact this
theorem ahg(t:Tw)(h:t.Ok):VC Tryz.prog G 19 [.agg t.cs] [] (x5 (iF 3 t)):=by
 refine VC.body func19 rfl ntmps19 aQ fun X0 w0 bf=>?_;obtain⟨k,n,s,ts⟩:=t;have E:=Vq (G:=G) 3 (Nat.le_refl _) (.mk k n s ts) h;unfold Tw.cs at E ⊢;refine cf ?_;refine OD.box (ds:=[_,_,_,_]) ap rfl rfl ot rfl rfl (fun b1=>?_);refine an 5 [1] ?_;refine aB 1 ?_;refine OD.call ap rfl rfl rfl call34 (E) ⟨ot,bP,trivial⟩ (fg _) ?_;rintro _ O ⟨U,Z,rfl,I⟩;refine OD.perm ez ?_;refine an 5 [2] ?_;refine aM O ?_;exact gE.mk I
theorem Lq(t:Tw)(h:t.Ok):VP Tryz.prog G 19 [.agg t.cs] (.list 5 ((iF 3 t).flatMap cO) (iF 3 t).length):=(ahg t h).xJ mu

def runs:Int→List aK→Option Int
 | h,[]=>some h
 | h,o::r=>if gD h o=0 then runs (h+(1-bS o.k)) r else none
theorem y8:∀(a b:List aK) (h:Int),runs h (a++b)=(runs h a).bind fun h'=>runs h' b
 | [],b,h=>rfl
 | o::r,b,h=>by
  rw[cons_append,runs,runs];split
  ·exact y8 r b _
  rfl
theorem Qr:∀{a:List aK} {h h':Int} (b:List aK),runs h a=some h'→fX h (a++b)=fX h' b
 | [],h,h',b,e=>by cases e;rfl
 | o::r,h,h',b,e=>by
  rw[runs] at e;split at e
  ·rename_i h0;rw[cons_append,fX,if_pos h0];exact Qr b e
  cases e
theorem afC:((⟨#[]⟩:ByteArray).toList==(⟨#[]⟩:ByteArray).toList)=true:=by simp
theorem QX:zeroV bw=true:=by unfold zeroV bw;simp
theorem SC:jf bw=0:=by decide
theorem adF(n:Int)(s:ByteArray):jf (ux n s)=0:=by
 have h1:=jZ n (by decide:(1:Int)≤40);have h2:=jZ (ev n 40-20) (by decide:(1:Int)≤2);have hc:(n8 (n8 s 10) 4).size≤4:=(by rw[Ja];omega)
 have he:n8 (⟨#[]⟩:ByteArray) 4=ByteArray.empty:=B9 (by rw[QO];rfl);unfold jf ux pW;split
 ·simp[cg,he];omega
 split
 ·simp[cg,he];omega
 split
 ·simp[cg];omega
 unfold bw;simp[cg,he]
theorem Uj(h0:0≤h)(n:Int)(s:ByteArray):gD h (sR n s)=0:=by
 unfold gD sR;rw[adF];simp[bS];omega
theorem adG(j:Int):cy (sS j)=0:=by
 unfold sS;split
 ·exact tT (l:=[105,100]) w7 w7 w7
 split
 ·exact tT (l:=[110]) w7 w7 w7
 split
 ·exact tT (l:=[115]) w7 w7 w7
 exact tT (l:=[98]) w7 w7 w7
theorem Uk(h0:0≤h)(n:Int):gD h (xE n)=0:=by
 unfold gD xE;rw[SC,QX,adG];simp[bS];omega
theorem SD{k:Int}(h1:3≤k)(h2:k≤11)(E:bS k≤h):gD h (p8 k)=0:=by
 unfold gD p8;simp only[SC,QX,afC];rw[if_neg w4,if_neg bj,if_neg bj,if_neg w4,if_neg w4]
theorem QY(h0:0≤h)(k n:Int)(s:ByteArray):runs h (mQ k n s)=some (h+1):=by
 unfold mQ;split
 ·rw[runs,if_pos (Uk h0 n),runs];rfl
 rw[runs,if_pos (Uj h0 n s),runs];rfl
theorem SE:∀(r:Nat) (t:Tw) (h:Int),0≤h→runs h (iF r t)=some (h+1)
 | 0,.mk k n s ts,h,h0=>QY h0 k n s
 | r+1,.mk k n s ts,h,h0=>by
  have E:∀(i:Nat) (h:Int),0≤h→runs h (gX r ts n s i)=some (h+1):=fun i h h0=>by
   unfold gX;split
   ·exact SE r _ h h0
   exact QY h0 _ _ _
  have hk:=jZ k (by decide:(1:Int)≤11);rw[wR];split
  ·rw[runs,if_pos (Uj h0 n s),runs];rfl
  split
  ·rw[runs,if_pos (Uk h0 n),runs];rfl
  split
  ·rename_i h3;rw[y8,E 0 h h0,Option.bind_some,runs,if_pos (SD w4 w4 (by unfold bS;rw[if_neg w4,if_pos h3];omega)),runs];unfold p8 bS;rw[if_neg (by simp only[];omega),if_pos h3];simp
  rename_i h3;rw[y8,y8,E 0 h h0,Option.bind_some,E 1 (h+1) w4,Option.bind_some,runs,if_pos (SD w4 w4 (by unfold bS;rw[if_neg w4,if_neg h3];omega)),runs];unfold p8 bS;rw[if_neg (by simp only[];omega),if_neg h3];congr 1;omega
theorem Jb(t:Tw):1≤(iF 3 t).length∧(iF 3 t).length≤15:=by
 have:=KG 3 t;omega
theorem QZ(t:Tw):gN (iF 3 t)=0:=by
 unfold gN;rw[if_neg (by have:=Jb t;omega)];have:=Qr [] (SE 3 t 0 (Int.le_refl _));rw[append_nil] at this;rw[this];rfl
theorem adH(t:Tw):∀o∈iF 3 t,o.nm.size≤2:=by
 have hn:∀j:Int,(sS j).size≤2:=fun j=>by
  unfold sS;split
  ·decide
  split
  ·decide
  split<;>decide
 have E:∀k n s,∀o∈mQ k n s,o.nm.size≤2:=fun k n s o ho=>by
  unfold mQ at ho;split at ho<;>(simp only[mem_singleton] at ho;subst ho)
  ·exact hn _
  exact Nat.zero_le _
 have key:∀(r:Nat) (t:Tw),∀o∈iF r t,o.nm.size≤2:=by
  intro r;induction r with
  | zero=>intro t;obtain⟨k,n,s,ts⟩:=t;exact E k n s
  | succ r ih =>
   intro t o ho;obtain⟨k,n,s,ts⟩:=t;have I:∀i:Nat,∀o∈gX r ts n s i,o.nm.size≤2:=fun i o ho=>by
    unfold gX at ho;split at ho
    ·exact ih _ o ho
    exact E _ _ _ o ho
   have hb:∀k,(p8 k).nm.size≤2:=fun k=>Nat.zero_le _;rw[wR] at ho;split at ho
   ·simp only[mem_singleton] at ho;subst ho;exact Nat.zero_le _
   split at ho
   ·simp only[mem_singleton] at ho;subst ho;exact hn _
   split at ho
   ·rcases mem_append.1 ho with ho|ho
    ·exact I 0 o ho
    simp only[mem_singleton] at ho;subst ho;exact hb _
   rcases mem_append.1 ho with ho|ho
   ·rcases mem_append.1 ho with ho|ho
    ·exact I 0 o ho
    exact I 1 o ho
   simp only[mem_singleton] at ho;subst ho;exact hb _
 exact key 3 t
theorem adI{l:List aK}(h:∀o∈l,o.nm.size≤2):∀o∈l,o.nm.size≤maxLen:=fun o ho=>Nat.le_trans (h o ho) w7
theorem JO{H:Type}{enc:TypeId×Value→H}{w:World}{base:Nat}{sp:Nat→Bool}{held:Bool}:∀n,l9 n enc Tryz.prog w base sp held 54 Tw.cs Tw.Ok:=by
 intro n;induction n using Nat.strongRecOn with
 | _ n ih =>
  intro cs x h;obtain⟨⟨k,m,s,ts⟩,h1,h2,h3,h4,h5⟩:=aaK (fuel:=n) (n0:=1) (n1:=1) (n2:=1) (n3:=1) underlying54 aC rfl rfl rfl rfl aC aC aC aC
   (fun q _=>(vy underlying3).at q) (fun q _=>(vy underlying3).at q) (fun q _=>(QI underlying9).at q) (fun q hq=>QM (sz:=4) underlying52 aC w7 (fun z hz=>ih z w4) Tw.Gj) cs x h
  refine⟨.mk k m s ts,?_,h2,h3,h4,h5.2,Tw.Uf h5.1⟩;unfold Tw.cs;rw[Tw.Lp];exact h1

end Go.Proofs.YtkgmonfgofobaaaGreatDoor.Nm
namespace Go.Proofs.YtkgmonfgofobaaaGreatDoor.Ex
open List
open Go.Proofs.Tryz
open Go.RowKit V Pk Vl Go.Proofs.YtkgmonfgofobaaaGreatDoor.Nm Pc
variable {α:Type} {l:List aK} {i:Nat} {h:Int}
theorem xo(p:α→Bool)(ls:List α):-1≤dP p ls∧dP p ls<ls.length:=by
 unfold dP;cases h:ls.findIdx? p with
 | none=>simp;omega
 | some i=>have:=(findIdx?_eq_some_iff_findIdx_eq.1 h).1;simp;omega
def bC(l:List cH)(nm:ByteArray):Int:=dP (fun c=>c.n.toList==nm.toList) l
def sj(a b:Int):Bool:=a==b||a==0
def okF(k a b:Int):Bool :=
 if k=3∨k=4 then sj a 1&&sj b 1 else if k=5 then sj a 1 else if k=6∨k=7 then sj a b||b==0 else if k=8∨k=9∨k=10 then sj a 2&&sj b 2 else true
def xP(k:Int):Int:=if k=8∨k=9∨k=10 then 2 else 1
def vz(l:List cH)(nm:ByteArray):Int×Int:=if bC l nm<0 then (0,8) else ((l.getD (bC l nm).toNat ⟨⟨#[]⟩,0⟩).k,0)
def jw(l:List cH)(o:aK)(a b:Int):Int×Int :=
 if o.k=1 then (o.v.k,0) else if o.k=2 then vz l o.nm else if okF o.k a b=true then (xP o.k,0) else (0,4)
def fx(z:α)(k:Int)(st:List α):α:=if 0<bS k then st.getD (st.length-(bS k).toNat) z else z
def fy(z:α)(k:Int)(st:List α):α:=if 1<bS k then st.getD (st.length-(bS k).toNat+1) z else z
def iZ{α:Type}(z:α)(f:aK→α→α→α × Int):List aK→List α→α × Int
 | [],st=>(st.getD 0 z,0)
 | o::r,st =>
  if (f o (fx z o.k st) (fy z o.k st)).2≠0 then (z,(f o (fx z o.k st) (fy z o.k st)).2)
  else iZ z f r (st.take (st.length-(bS o.k).toNat)++[(f o (fx z o.k st) (fy z o.k st)).1])
theorem Ul{z:α}{f:aK→α→α→α × Int}{st:List α}(hi:i<l.length)(h:(f l[i] (fx z l[i].k st) (fy z l[i].k st)).2≠0) :
  iZ z f (l.drop i) st=(z,(f l[i] (fx z l[i].k st) (fy z l[i].k st)).2):=by rw[drop_eq_getElem_cons hi,iZ,if_pos h]
theorem Um{z:α}{f:aK→α→α→α × Int}{st:List α}(hi:i<l.length)(h:(f l[i] (fx z l[i].k st) (fy z l[i].k st)).2=0) :
  iZ z f (l.drop i) st=iZ z f (l.drop (i+1)) (st.take (st.length-(bS l[i].k).toNat)++[(f l[i] (fx z l[i].k st) (fy z l[i].k st)).1]):=by
 rw[drop_eq_getElem_cons hi,iZ,if_neg (by rw[h];simp)]
theorem SF{z:α}{f:aK→α→α→α × Int}{st:List α}(hi:¬i<l.length):iZ z f (l.drop i) st=(st.getD 0 z,0):=by
 rw[drop_of_length_le w4];rfl
theorem Q0(hi:i<l.length)(h0:fX h (l.drop i)=0):gD h l[i]=0∧fX (h+(1-bS l[i].k)) (l.drop (i+1))=0:=by
 rw[drop_eq_getElem_cons hi,fX] at h0;by_cases he:gD h l[i]=0
 ·rw[if_pos he] at h0;exact⟨he,h0⟩
 rw[if_neg he] at h0;exact absurd h0 he
theorem SG(hi:¬i<l.length)(h0:fX h (l.drop i)=0):h=1:=by
 rw[drop_of_length_le w4,fX] at h0;split at h0
 ·assumption
 cases h0
theorem wX{o:aK}(he:gD h o=0):bS o.k≤h∧(1≤o.k∧o.k≤11)∧jf o.v=0∧(o.k=2→cy o.nm=0):=by
 unfold gD at he;split at he
 ·cases he
 split at he
 ·rename_i h2;exact absurd he h2
 split at he
 ·cases he
 split at he
 ·rename_i h4;exact absurd he h4.2
 split at he
 ·cases he
 rename_i q1 q2 I E O;refine⟨by omega,by omega,by simpa using q2,fun hk=>?_⟩;by_cases hn:cy o.nm=0
 ·exact hn
 exact absurd ⟨hk,hn⟩ E
def uu(l:List cH)(ops:List aK):Int×Int:=iZ 0 (jw l) ops []
def dU(l:List cH)(ops:List aK):Int×Int:=if fW l≠0 then (0,fW l) else if gN ops≠0 then (0,gN ops) else uu l ops
def qh(r:Int×Int):D:=.dD [ae r.1,ae r.2]
def cI(n:Int):List D:=[ae n]
theorem eM(n:Int):(cI n).length=1:=rfl
theorem nT(n:Int):(cI n).all V.one=true:=rfl
theorem xp{ops:List aK}(h:gN ops=0):ops.length≤40∧fX 0 ops=0:=by
 unfold gN at h;split at h
 ·cases h
 exact⟨by omega,h⟩
variable {G:List (Nat×List Value)}
theorem FD(k:Int):VP Tryz.prog G 75 [ae k] (ae (bS k)):=by
 refine VC.body func75 rfl ntmps75 aQ fun X0 w0 bf=>?_;exact XP
theorem abM(c:cH)(nm:ByteArray)(b:Nat):VC Tryz.prog G 126 [.agg (cC c),cZ b] [⟨b,9,1,[aZ nm]⟩] (fun r S=>r=bG (c.n.toList==nm.toList)∧S=[⟨b,9,1,[aZ nm]⟩]):=by
 refine VC.body func126 rfl ntmps126 aQ fun X0 w0 bf=>?_;exact z87
theorem qK(l:List cH)(hl:l.length≤6)(nm:ByteArray):VP Tryz.prog G 78 [au 2 cC l,aZ nm] (ae (bC l nm)):=by
 refine VC.body func78 rfl ntmps78 aQ fun X0 w0 bf=>?_;refine cf ?_;refine OD.box (ds:=[_]) ap rfl rfl ot rfl rfl (fun b3=>?_);refine an 8 [0,3] ?_;refine aB 1 ?_;refine bV (pR (ds:=[_]) rfl ⟨ot,trivial⟩) ?_;refine OD.call ap rfl rfl rfl call125 (JN l 126 [cZ b3] _ (fun c=>c.n.toList==nm.toList) call126 (fun h _=>abM h nm b3) w4) ⟨ot,ot,trivial⟩ (mN (k:=0) rfl) ?_;rintro _ S2 ⟨rfl,iT⟩;rw[iT];clear iT;refine an 8 [4] ?_;exact z46
theorem zY(a b:Int):VP Tryz.prog G 120 [ae a,ae b] (bG (sj a b)):=by
 refine VC.body func120 rfl ntmps120 aQ fun X0 w0 bf=>?_;refine af [0,1] ?_;refine aB 4 ?_;refine bY 8 (fun I E=>?_) (fun I E=>?_)
 ·refine bp [4] ?_;refine eZ ?_;refine⟨vb ?_,rfl⟩;unfold sj;simp_all
 refine bp [4] ?_;refine eZ ?_;refine⟨vb ?_,rfl⟩;unfold sj;simp_all
theorem afD(l:List cH)(hl:l.length≤6)(o:aK)(a b:Int):VP Tryz.prog G 71 [.agg (cO o),au 2 cC l,ae a,ae b] (qh (jw l o a b)):=by
 refine VC.body func71 rfl ntmps71 aQ fun X0 w0 bf=>?_;unfold cO qh;have I:=xo (fun c:cH=>c.n.toList==o.nm.toList) l;have E:bC l o.nm=dP (fun c:cH=>c.n.toList==o.nm.toList) l:=rfl;rw[←E] at I;clear E;refine cf ?_;refine OD.box (ds:=[_,_,_,_,_]) ap rfl rfl ot rfl rfl (fun b4=>?_);refine an 76 [1,2,3,4] ?_;refine af [1,2,3,4,10] ?_;refine af [1,2,3,4,10,11,12] ?_;refine af [1,2,3,4,10,11,12,15] ?_;refine af [1,2,3,4,10,11,12,15,16] ?_;refine av ?_ ?_<;>intro aL bB
 ·exact AX
 refine af [1,2,3,4,10,11,12,15,21] ?_;refine av ?_ ?_<;>intro aY cD
 ·refine cL [1,13] (qK l hl o.nm) ?_;refine af [1,13,28] ?_;refine av ?_ ?_<;>intro cm cR
  ·have dx:vz l o.nm=(0,8):=(by unfold vz;rw[if_pos w4])
   exact AX
  have O:(bC l o.nm).toNat<l.length:=(by omega)
  have dx:vz l o.nm=(l[(bC l o.nm).toNat].k,0):=(by unfold vz;rw[if_neg w4,getD_eq_getElem?_getD,getElem?_eq_getElem O];rfl)
  exact AX
 refine af [2,3,10,11,12,15,34] ?_;refine av ?_ ?_<;>intro da eA
 ·refine eY ?_;exact WA
 refine cc [2,3,10,11,12,15,34] ?_;refine av ?_ ?_<;>intro dR fH
 ·exact WA
 refine af [2,3,10,11,12,15,45] ?_;refine av ?_ ?_<;>intro fM gW
 ·refine dY 2 ?_;refine OD.lY (f:=120) (args:=[_,_]) (all:=[_,_]) (Sf:=[]) ap rfl rfl ot call120 (zY a 1) rfl ⟨ot,bP,trivial⟩ (fg _) ?_;rintro _ _ ⟨rfl,rfl⟩;exact HO
 refine af [2,3,10,11,12,15,50] ?_;refine av ?_ ?_<;>intro jb Z
 ·refine eY ?_;exact WD
 refine cc [2,3,10,11,12,15,50] ?_;refine av ?_ ?_<;>intro iS mY
 ·exact WD
 refine af [2,3,10,11,12,15,61] ?_;refine av ?_ ?_<;>intro qo Ay
 ·refine eY ?_;exact Ms
 refine af [2,3,10,11,12,15,61] ?_;refine av ?_ ?_<;>intro uZ C4
 ·refine eY ?_;exact Ms
 refine cc [2,3,10,11,12,61] ?_;refine av ?_ ?_<;>intro Hh U
 ·exact Ms
 refine af [12,74] ?_;refine gq ?_;refine af [8,9] ?_;refine aM [] ?_;refine⟨?_,rfl⟩;unfold jw okF xP;simp_all
theorem abN(l:List cH)(hl:l.length≤6)(o:aK)(a b a' I:Int)(ha:a=a')(hb:b=I)(b2:Nat):VC Tryz.prog G 70 [.agg (cO o),ae a',ae I,cZ b2] [⟨b2,29,1,[au 2 cC l]⟩] (fun r S=>r=qh (jw l o a b)∧S=[⟨b2,29,1,[au 2 cC l]⟩]):=by
 refine VC.body func70 rfl ntmps70 aQ fun X0 w0 bf=>?_;subst ha hb;have E:=afD (G:=G) l hl o a b;unfold cO at E ⊢;unfold qh at E ⊢;refine cf ?_;refine OD.box (ds:=[_,_,_,_,_]) ap rfl rfl ot rfl rfl (fun O=>?_);refine an 16 [1,2,3,4] ?_;refine cL [7,8] (E) ?_;refine aM [⟨b2,29,1,[au 2 cC l]⟩] ?_;exact⟨rfl,rfl⟩
theorem abO:(Tryz.prog.info? 3).map (fun i=>(i.zero,i.size,i.bytes))=some (some (.int .i64 0),1,8):=by kernel_rfl
theorem adJ(l:List cH)(hl:l.length≤6)(ops:List aK)(qw:ops.length≤40)(hx:fX 0 ops=0)(b2:Nat):VC Tryz.prog G 69 [au 5 cO ops,.eH (.func 70) [cZ b2]] [⟨b2,29,1,[au 2 cC l]⟩] (fun r S=>r=qh (uu l ops)∧S=[⟨b2,29,1,[au 2 cC l]⟩]):=by
 refine VC.body func69 rfl ntmps69 aQ fun X0 w0 bf=>?_;unfold qh;refine af [0,1] ?_;refine af [0,1,6] ?_;refine cf ?_;refine bp [0,1,6,7] ?_;refine af [1,6,7,16,17,18] ?_;refine CD.block ?_;refine nq (fun (jO:Nat×List Int×Option Addr×Nat×List ah) aE=>match jO with|(i,st,I,E,Sh)=>(i≤ops.length)∧(st.length≤i)∧(fX ((st.length:Nat):Int) (ops.drop i)=0)∧(uu l ops=iZ 0 (jw l) (ops.drop i) st)∧(bn 3 1 ((st).flatMap cI) (st).length I E Sh)∧aE=(⟨64,[(1,.eH (.func 70) [cZ b2]),(6,ae 0),(7,aP I (st).length E),(16,au 5 cO ops),(17,ae (ops.length:Nat)),(18,ae (i:Nat))],(⟨b2,29,1,[au 2 cC l]⟩::Sh)⟩:St)) (fun (jO:Nat×List Int×Option Addr×Nat×List ah)=>match jO with|(i,st,I,E,Sh)=>ops.length-i) (0,[],none,0,[]) ⟨(Nat.zero_le _),(Nat.zero_le _),hx,rfl,(bn.cast iW lu),rfl⟩ (aJ (h:=by repeat (first|exact trivial|refine⟨Hz,?_⟩))) ?_;rintro⟨i,st,I,E,Sh⟩ _ ⟨hi,fS,hex,hinv,U,rfl⟩;refine af [1,6,7,16,17,18,19] ?_;refine av ?_ ?_<;>intro aL bB
 ·have aa:i<ops.length:=(by omega)
  obtain⟨he,yQ⟩:=Q0 aa hex;obtain⟨rY,WW,yR,Bg⟩:=wX he;have uX:=uh ops[i].k;have pL:(st.take (st.length-(bS ops[i].k).toNat)++[(jw l ops[i] (fx 0 ops[i].k st) (fy 0 ops[i].k st)).1]).length=st.length+1-(bS ops[i].k).toNat:=(by rw[length_append,length_take,length_singleton];omega)
  have oe:fX (((st.take (st.length-(bS ops[i].k).toNat)++[(jw l ops[i] (fx 0 ops[i].k st) (fy 0 ops[i].k st)).1]).length:Nat):Int) (ops.drop (i+1))=0:=(by rw[pL,show(((st.length+1-(bS ops[i].k).toNat:Nat)):Int)=(st.length:Int)+(1-bS ops[i].k) by omega];exact yQ)
  refine aB 2 ?_;refine OD.alloc (ds:=[_,_,_,_,_]) ap rfl rfl zeroValue35 rfl (fun b9=>?_);refine aO 0 [_,_,_,_,_] sizeOf35 ?_;refine an 64 [1,6,7,9,16,17,18] ?_;refine af [1,6,7,9,10,11,16,17,18] ?_;refine cL [1,6,7,9,10,11,12,16,17,18] (FD ops[i].k) ?_;refine af [1,6,7,9,10,11,12,13,16,17,18] ?_;refine iL [1,6,9,11,12,13,16,17,18] (fun aS _ aE=>∃(va:Int),∃(I:Option Addr),∃(E:Nat),∃(Sh:List ah),(fx 0 ops[i].k st=va)∧(bn 3 1 (st.flatMap cI) st.length I E Sh)∧aE=(⟨64,(7,aP I st.length E)::(10,ae va)::aS,(⟨b9,35,5,[ae ops[i].k,ae ops[i].v.k,ae ops[i].v.n,aZ ops[i].v.s,aZ ops[i].nm]⟩::⟨b2,29,1,[au 2 cC l]⟩::Sh)⟩:St)) ?_ ?_
  ·refine af [1,6,7,9,10,11,12,13,16,17,18,30] ?_;refine av ?_ ?_<;>intro aY cD
   ·obtain⟨bh,rfl,Z,O,rfl⟩:=U.pos w4;have u0:(st.length-(bS ops[i].k).toNat)<st.length:=(by omega)
    have ha:fx 0 ops[i].k st=st[(st.length-(bS ops[i].k).toNat)]:=(by unfold fx;rw[if_pos w4,getD_eq_getElem?_getD,getElem?_eq_getElem u0];rfl)
    refine iU [1,6,7,9,10,11,12,13,16,17,18] ?_;refine aR 2 ?_ (h:=by exact(dO 1 (h:=by first|exact .l (j:=(st.length-(bS ops[i].k).toNat)) w4 w4|exact .r (j:=(st.length-(bS ops[i].k).toNat)) w4 w4)));refine aR 0 ?_ (h:=by exact(cW (mk:=Op.load 3) rfl ot (jk (k:=2) eM rfl rfl rfl isAgg3 u0 rfl)));refine bH ?_;refine⟨_,aJ,(st[(st.length-(bS ops[i].k).toNat)]),(some ⟨bh,0,none⟩),E,[⟨bh,3,E*1,flatMap cI st⟩],ha,(bQ (g:=cI) (ls:=st) Z O),rfl⟩
   have ha:fx 0 ops[i].k st=0:=(by unfold fx;rw[if_neg w4])
   refine CD.skip ?_;refine⟨_,aJ,0,I,E,Sh,ha,U,rfl⟩
  rintro _ ⟨va,I,E,Sh,ha,U,rfl⟩;refine iL [1,6,9,10,13,16,17,18] (fun aS _ aE=>∃(vb:Int),∃(I:Option Addr),∃(E:Nat),∃(Sh:List ah),(fy 0 ops[i].k st=vb)∧(bn 3 1 (st.flatMap cI) st.length I E Sh)∧aE=(⟨64,(7,aP I st.length E)::(11,ae vb)::aS,(⟨b9,35,5,[ae ops[i].k,ae ops[i].v.k,ae ops[i].v.n,aZ ops[i].v.s,aZ ops[i].nm]⟩::⟨b2,29,1,[au 2 cC l]⟩::Sh)⟩:St)) ?_ ?_
  ·refine af [1,6,7,9,10,11,13,16,17,18,36] ?_;refine av ?_ ?_<;>intro cm cR
   ·obtain⟨bh,rfl,Z,O,rfl⟩:=U.pos w4;have C6:(st.length-(bS ops[i].k).toNat)+1<st.length:=(by omega)
    have hb:fy 0 ops[i].k st=st[(st.length-(bS ops[i].k).toNat)+1]:=(by unfold fy;rw[if_pos w4,getD_eq_getElem?_getD,getElem?_eq_getElem C6];rfl)
    refine iU [1,6,7,9,10,11,13,16,17,18] ?_;refine aR 3 ?_ (h:=by exact(dO 1 (h:=by first|exact .l (j:=(st.length-(bS ops[i].k).toNat)+1) w4 w4|exact .r (j:=(st.length-(bS ops[i].k).toNat)+1) w4 w4)));refine aR 0 ?_ (h:=by exact(cW (mk:=Op.load 3) rfl ot (jk (k:=2) eM rfl rfl rfl isAgg3 C6 rfl)));refine bH ?_;refine⟨_,aJ,(st[(st.length-(bS ops[i].k).toNat)+1]),(some ⟨bh,0,none⟩),E,[⟨bh,3,E*1,flatMap cI st⟩],hb,(bQ (g:=cI) (ls:=st) Z O),rfl⟩
   have hb:fy 0 ops[i].k st=0:=(by unfold fy;rw[if_neg w4])
   refine CD.skip ?_;refine⟨_,aJ,0,I,E,Sh,hb,U,rfl⟩
  rintro _ ⟨vb,I,E,Sh,hb,U,rfl⟩;refine aB 4 ?_;refine OD.lY (f:=70) (args:=[_,_,_]) (all:=[_,_,_,_]) (Sf:=[⟨b2,29,1,[au 2 cC l]⟩]) ap rfl rfl ot call70 (abN l hl ops[i] _ _ _ _ ha hb b2) rfl ⟨ot,ot,ot,trivial⟩ (mN (k:=1) rfl) ?_;rintro _ _ ⟨rfl,rfl⟩;refine an 64 [1,6,7,13,14,15,16,17,18] ?_;refine af [1,6,7,13,14,15,16,17,18,51] ?_;refine av ?_ ?_<;>intro da eA
  ·have hz:(jw l ops[i] (fx 0 ops[i].k st) (fy 0 ops[i].k st)).2≠0:=(by simpa using da)
   have aW:=hinv.trans (Ul aa hz);refine af [4,5] ?_;refine aM [⟨b2,29,1,[au 2 cC l]⟩] ?_;rw[aW];exact⟨rfl,rfl⟩
  have hz:(jw l ops[i] (fx 0 ops[i].k st) (fy 0 ops[i].k st)).2=0:=(by simpa using da)
  refine CD.skip ?_;refine CD.vQ (k:=(st.length-(bS ops[i].k).toNat)) (ls:=st) (Sq:=Sh) eM w4 U (dI (A:=[_,_])) (fun MW L5=>?_);refine CD.perm (ez (A:=[_,_])) ?_;refine dY 2 ?_;first|refine bV (EU (n:=st.length) (k:=(take (st.length-(bS ops[i].k).toNat) st).length) (cs:=st.flatMap cI) rfl ot rfl ⟨_,_,ot,by rw[length_take];omega⟩ runUnderlying70 sizeOf3 pA U) ?_|refine OD.still ap rfl (EU (n:=st.length) (k:=(take (st.length-(bS ops[i].k).toNat) st).length) (cs:=st.flatMap cI) rfl ot rfl ⟨_,_,ot,by rw[length_take];omega⟩ runUnderlying70 sizeOf3 pA (bQ (e:=3) (g:=cI) (ls:=st) Z O)) ?_
  refine aH 1 ?_;refine eD (cq 0 [_]) [.int .i64 0] [_] zeroValue3 runUnderlying70 sizeOf3 (fun AY=>?_);refine fT 0 58 1 1 ?_;refine OD.eL (ls:=(take (st.length-(bS ops[i].k).toNat) st)) (new:=[(jw l ops[i] (fx 0 ops[i].k st) (fy 0 ops[i].k st)).1]) (Sq:=MW) eM nT ap rfl rfl underlying70 abO rfl w7 ot L5 (dI (A:=[_,_])) ot bj wg iB (fun tI sY CP CQ=>?_);refine OD.perm (ez (S1:=[⟨tI,3,sY*1,flatMap cI ((take (st.length-(bS ops[i].k).toNat) st)++[(jw l ops[i] (fx 0 ops[i].k st) (fy 0 ops[i].k st)).1])⟩]) (A:=[_,_])) ?_;refine an 64 [1,6,7,16,17,18] ?_;refine cc [1,6,7,16,17,18] ?_;refine⟨((i+1),(st.take (st.length-(bS ops[i].k).toNat)++[(jw l ops[i] (fx 0 ops[i].k st) (fy 0 ops[i].k st)).1]),(some ⟨tI,0,none⟩),sY,[⟨tI,3,sY*1,flatMap cI ((take (st.length-(bS ops[i].k).toNat) st)++[(jw l ops[i] (fx 0 ops[i].k st) (fy 0 ops[i].k st)).1])⟩]),_,cr,(aJ (h:=by repeat (first|exact trivial|refine⟨Hz,?_⟩))),w4,(by rw[pL];omega),oe,(hinv.trans (Um aa hz)),(bn.cast (bQ CP CQ) (by rfl)),rfl⟩
 have h1:=SG w4 hex;have C7:0<st.length:=(by omega)
 obtain⟨bh,rfl,Z,O,rfl⟩:=U.pos w4;have aW:=hinv.trans (SF w4);have ic:st.getD 0 0=st[0]:=(by rw[getD_eq_getElem?_getD,getElem?_eq_getElem C7];rfl)
 rw[ic] at aW;refine cM [4,5] ?_;refine aR 1 ?_ (h:=by exact(o9 (mk:=Op.indexAddr 70) rfl ot bP (by first|exact pU (j:=0) runUnderlying70 sizeOf3 rfl AR|exact pY (j:=0) runUnderlying70 sizeOf3 rfl AR)));refine aR 0 ?_ (h:=by exact(cW (mk:=Op.load 3) rfl ot (jk (k:=1) eM rfl rfl rfl isAgg3 C7 rfl)));refine bH ?_;refine aM [⟨b2,29,1,[au 2 cC l]⟩] ?_;rw[aW];exact⟨rfl,rfl⟩
theorem abP(l:List cH)(hl:l.length≤6)(ops:List aK)(hx:gN ops=0):VP Tryz.prog G 36 [au 2 cC l,au 5 cO ops] (qh (uu l ops)):=by
 refine VC.body func36 rfl ntmps36 aQ fun X0 w0 bf=>?_;obtain⟨E,fO⟩:=xp hx;have fE:=fun b2=>adJ (G:=G) l hl ops E fO b2;unfold qh at fE ⊢;refine cf ?_;refine OD.box (ds:=[_]) ap rfl rfl ot rfl rfl (fun b2=>?_);refine an 11 [1,2] ?_;refine aB 1 ?_;refine bV (pR (ds:=[_]) rfl ⟨ot,trivial⟩) ?_;refine OD.call ap rfl rfl rfl call69 (fE b2) ⟨ot,ot,trivial⟩ (mN (k:=0) rfl) ?_;rintro _ _ ⟨rfl,rfl⟩;refine an 11 [4,5] ?_;exact z46
theorem ahh(hm:(3,marksC)∈G)(hw:(1,wordsC)∈G)(ht:(0,typesC)∈G)(l:List cH)(hl:l.length≤6)(aT:∀c∈l,c.n.size≤maxLen)(ops:List aK)(ho:∀o∈ops,o.nm.size≤maxLen):VP Tryz.prog G 35 [au 2 cC l,au 5 cO ops] (ae (if fW l≠0 then fW l else gN ops)):=by
 refine VC.body func35 rfl ntmps35 aQ fun X0 w0 bf=>?_;have c8:=dV;refine af [0,1] ?_;refine cL [1,5] (FZ hm hw ht l w4 aT) ?_;refine af [1,5,9] ?_;refine av ?_ ?_<;>intro aL bB
 ·refine af [4] ?_;refine aM [] ?_;refine⟨vi ?_,rfl⟩;simp_all
 refine cL [4] (KC hm hw ops ho) ?_;refine aM [] ?_;refine⟨vi ?_,rfl⟩;simp_all
theorem KH(hm:(3,marksC)∈G)(hw:(1,wordsC)∈G)(ht:(0,typesC)∈G)(l:List cH)(hl:l.length≤6)(aT:∀c∈l,c.n.size≤maxLen)(ops:List aK)(ho:∀o∈ops,o.nm.size≤maxLen):VP Tryz.prog G 21 [au 2 cC l,au 5 cO ops] (qh (dU l ops)):=by
 refine VC.body func21 rfl ntmps21 aQ fun X0 w0 bf=>?_;have fC:=ahh hm hw ht l hl aT ops ho;have E:=fun hx=>abP (G:=G) l hl ops hx;unfold qh at E ⊢;refine af [0,1] ?_;refine cL [0,1,6] (fC) ?_;refine af [0,1,6,11] ?_;refine av ?_ ?_<;>intro aL bB
 ·have aW:dU l ops=(0,if fW l≠0 then fW l else gN ops):=(by unfold dU;split<;>simp_all)
  refine af [4,5] ?_;exact oO
 have h0:fW l=0∧gN ops=0:=(by split at aL<;>simp_all)
 have aW:dU l ops=uu l ops:=(by unfold dU;simp[h0])
 refine cL [4,5] (E h0.2) ?_;exact uR

end Go.Proofs.YtkgmonfgofobaaaGreatDoor.Ex
