/-
  What the proof of InsertBad leans on, part 4 of 8: walks of the program's functions at the level of values, and plain facts of what they compute.
-/
import Derived.Test.YtbcmjoaggammcaaGreatDoorPInsertBad3
set_option linter.unusedVariables false
set_option linter.unusedSimpArgs false
set_option maxRecDepth 100000
set_option maxHeartbeats 4000000
namespace Go.Proofs.YtbcmjoaggammcaaGreatDoor.Nm
open List
open Go.Proofs.Tryz
open Go.RowKit V Pk Vl
variable {i:Nat} {h:Int}
theorem afy(x y:Vl):∀w,(Op.equalIn 10000 30 (.agg [.int .i64 x.k,.int .i64 x.n,.string x.s].toArray) (.agg [.int .i64 y.k,.int .i64 y.n,.string y.s].toArray)).run Tryz.prog w = .ok (x.k==y.k&&(x.n==y.n&&x.s.toList==y.s.toList)) w:=fun w=>by
 have hS:Tryz.prog.underlying 30=some (.struct (Tryz.prog.fieldsOf 30)):=(by kernel_rfl)
 have hp:Tryz.prog.stoodInHeld 30=false:=(by kernel_rfl)
 rw[show(10000:Nat)=9999+1 from rfl,run_equalIn_agg w 9999 30 _ _ hS hp];have u:=underlying30;have E:=underlying3;have I:=underlying9;have O:=isAgg3;have U:=isAgg9;have Z:=sizeOf3;have z9:=sizeOf9;simp only[Program.fieldsOf,u];go_simp
 by_cases h1:x.k=y.k<;>by_cases h2:x.n=y.n<;>by_cases h3:x.s.toList=y.s.toList<;>simp[h1,h2,h3]
def iE(v:Vl):Int:=if v.k=2∧v.n = -9223372036854775808 then 3 else dL v
structure aW where
 k:Int
 v:Vl
 nm:ByteArray
variable {l:List aW}
def cO(o:aW):List D:=[.v (.int .i64 o.k),.v (.int .i64 o.v.k),.v (.int .i64 o.v.n),.v (.string o.v.s),.v (.string o.nm)]
theorem mI(o:aW):(cO o).length=5:=rfl
theorem I5(o:aW):(cO o).all V.one=true:=rfl
def bQ(k:Int):Int:=if k=1∨k=2 then 0 else if k=5∨k=11 then 1 else 2
theorem sM(k:Int):0≤bQ k∧bQ k≤2:=by unfold bQ;split<;>(try split)<;>omega
def zeroV(v:Vl):Bool:=v.k==0&&(v.n==0&&v.s.toList==(⟨#[]⟩:ByteArray).toList)
def eX(h:Int)(o:aW):Int :=
 if o.k<1∨o.k>11 then 2
 else if iE o.v≠0 then iE o.v
 else if ((o.k != 1 && !(zeroV o.v))||(o.k != 2 && !(o.nm.toList==(⟨#[]⟩:ByteArray).toList)))=true then 6
 else if o.k=2∧cJ o.nm≠0 then cJ o.nm
 else if h<bQ o.k then 7 else 0
def fy:Int→List aW→Int
 | h,[]=>if h=1 then 0 else 7
 | h,o::r=>if eX h o=0 then fy (h+(1-bQ o.k)) r else eX h o
def iD(l:List aW):Int:=if l.length>40 then 10 else fy 0 l
theorem OY(hi:i<l.length)(he:eX h l[i]=0):fy h (l.drop i)=fy (h+(1-bQ l[i].k)) (l.drop (i+1)):=by
 rw[drop_eq_getElem_cons hi,fy,if_pos he]
theorem OX{e:Int}(hi:i<l.length)(he:eX h l[i]=e)(h0:e≠0):fy h (l.drop i)=e:=by
 rw[drop_eq_getElem_cons hi,fy,if_neg (by rw[he];exact h0),he]
theorem N7(hi:l.length≤i):fy h (l.drop i)=if h=1 then 0 else 7:=by
 rw[drop_of_length_le hi,fy]
variable {G:List (Nat×List Value)}
theorem NA(v:Vl):VP Tryz.prog G 108 [.agg (cV v)] (.v (.int .i64 (iE v))):=by
 refine VC.body func108 rfl ntmps108 aO fun X0 w0 aX=>?_;unfold cV;refine bX ?_;refine OD.box (ds:=[_,_,_]) an rfl rfl ot rfl rfl (fun b1=>?_);refine aj 13 [1] ?_;refine aC 4 ?_;refine bS 6 (fun I E=>?_) (fun I E=>?_)
 ·refine aZ [1,10] ?_;refine aq (fun az aG=>?_) (fun az aG=>?_)
  ·refine ae [2] ?_;refine eA ?_;refine⟨vi ?_,rfl⟩;unfold iE;simp_all
  refine cL [2] (Vl.oP v) ?_;refine eA ?_;refine⟨vi ?_,rfl⟩;unfold iE;simp_all
 refine aZ [1,10] ?_;refine fF ?_;refine cL [2] (Vl.oP v) ?_;refine eA ?_;refine⟨vi ?_,rfl⟩;unfold iE;simp_all
theorem x9(k:Int):VP Tryz.prog G 110 [.v (.int .i64 k)] (.v (.int .i64 (bQ k))):=by
 refine VC.body func110 rfl ntmps110 aO fun X0 w0 aX=>?_;exact Ve
theorem Iu(hm:(3,marksC)∈G)(hw:(2,wordsC)∈G)(l:List aW)(hs:∀o∈l,o.nm.size≤maxLen):VP Tryz.prog G 71 [.list 5 (l.flatMap cO) l.length] (.v (.int .i64 (iD l))):=by
 refine VC.body func71 rfl ntmps71 aO fun X0 w0 aX=>?_;have hlx:l.length≤40∨40<l.length:=(by omega)
 refine ae [0] ?_;refine ae [0,10] ?_;refine aq (fun az aG=>?_) (fun az aG=>?_)
 ·have hf:iD l=10:=if_pos w4;exact Kc
 have hf:iD l=fy 0 l:=if_neg w4;have pD:l.length≤40:=(by omega)
 refine ae [0,3] ?_;refine ae [3,11,12,13] ?_;refine eI [11,12] (fun aV _ (I:Nat×Int) aK=>match I with|(i,h)=>(i≤l.length)∧(fy 0 l=fy h (l.drop i))∧(0≤h)∧(h≤i)∧aK=(⟨73,(3,.v (.int .i64 h))::(13,.v (.int .i64 (i:Nat)))::aV,[]⟩:St)) (fun (I:Nat×Int)=>match I with|(i,h)=>l.length-i) (0,0) ⟨(Nat.zero_le _),rfl,(Int.le_refl _),(Int.le_refl _),rfl⟩ ?_;rintro⟨i,h⟩ _ ⟨hi,hx,h0,hh,rfl⟩;refine ae [3,11,12,13,14] ?_;refine aq (fun aH aU=>?_) (fun aH aU=>?_)
 ·have aa:i<l.length:=(by omega)
  have Cz:=sM l[i].k;refine aC 2 ?_;refine OD.alloc (ds:=[_,_,_,_,_]) an rfl rfl zeroValue61 rfl (fun b5=>?_);refine aN 0 [_,_,_,_,_] sizeOf61 ?_;refine aj 73 [3,5,11,12,13] ?_;refine aC 4 ?_;refine bS 20 (fun ag7 U=>?_) (fun ag7 U=>?_)
  ·refine aZ [3,5,11,12,13,24] ?_;refine ez ?_;have p9:eX h l[i]=2:=(by unfold eX;rw[if_pos w4])
   exact Fq
  refine aZ [3,5,11,12,13,24] ?_;refine aq (fun aY bz=>?_) (fun aY bz=>?_)
  ·have p9:eX h l[i]=2:=(by unfold eX;rw[if_pos w4])
   exact Fq
  have dI:¬(l[i].k<1∨l[i].k>11):=(by omega)
  refine cL [3,5,6,11,12,13] (NA l[i].v) ?_;refine ae [3,5,6,11,12,13,29] ?_;refine aq (fun bF bY=>?_) (fun bF bY=>?_)
  ·have uL:iE l[i].v≠0:=(by simpa using bF)
   have p9:eX h l[i]=iE l[i].v:=(by unfold eX;rw[if_neg dI,if_pos uL])
   exact Fq
  have uL:iE l[i].v=0:=(by simpa using bF)
  refine aC 4 ?_;refine bS 34 (fun ag8 Z=>?_) (fun ag8 Z=>?_)
  ·refine aD 3 ?_;refine OD.still gN rfl (YX (us:=[_,_,_]) (LL:=[_,_,_]) rfl ot ot eqGuardType30 (afy l[i].v ⟨0,0,⟨#[]⟩⟩)) ?_;refine aD 2 ?_;refine bS 40 (fun Ka JC=>?_) (fun Ka JC=>?_)
   ·refine aj 73 [3,5,11,12,13,49] ?_;refine ez ?_;exact Ua
   refine aD 4 ?_;refine bS 44 (fun O E=>?_) (fun O E=>?_)
   ·refine aj 73 [3,5,11,12,13,49] ?_;refine aq (fun cx c8=>?_) (fun cx c8=>?_)
    ·exact Ua
    exact z107
   refine aj 73 [3,5,11,12,13,49] ?_;refine fF ?_;exact z107
  refine xj 4 ?_;refine aD 6 ?_;refine bS 44 (fun O E=>?_) (fun O E=>?_)
  ·refine aZ [3,5,11,12,13,49] ?_;refine aq (fun cx c8=>?_) (fun cx c8=>?_)
   ·have p9:eX h l[i]=6:=(by unfold eX zeroV;rw[if_neg dI,if_neg tG,if_pos (by simp_all)])
    exact Fq
   exact TV
  refine aZ [3,5,11,12,13,49] ?_;refine fF ?_;exact TV
 have fa:=hx.trans (N7 (show l.length≤i by omega));refine ae [72] ?_;refine aq (fun kR td=>?_) (fun kR td=>?_)
 ·exact Kc
 refine ae [2] ?_;refine aJ [] ?_;refine⟨vi ?_,rfl⟩;first|exact hf.symm|(rw[hf,hx,OX aa p9 (by first|assumption|decide)];done)|(rw[hf,fa,if_pos (by simpa using kR)];done)|(rw[hf,fa,if_neg (by simpa using kR)];done)

end Go.Proofs.YtbcmjoaggammcaaGreatDoor.Nm
namespace Go.Proofs
open Go.Shelf
def Tryz.XO:Go.Shelf.Ren:=⟨fun|106=>151|213=>175|265=>187|n=>n,fun|9=>9|3=>3|n=>n,fun|n=>n⟩
theorem Tryz.ach:Go.Proofs.Lays.n106 Tryz.prog Tryz.XO:={
 mixed:=by kernel_rfl
 f106:=Tryz.func151.trans (congrArg some (by kernel_rfl))
 f213:=Tryz.func175.trans (congrArg some (by kernel_rfl))
 f265:=Tryz.func187.trans (congrArg some (by kernel_rfl))
 t3:=Tryz.underlying3
 a3:=Tryz.isAgg3
 z3:=Tryz.sizeOf3
 v3:=Tryz.zeroValue3
 t9:=Tryz.underlying9
 a9:=Tryz.isAgg9
 z9:=Tryz.sizeOf9
 v9:=Tryz.zeroValue9}
open Go.RowKit in
theorem Tryz.strings_Compare(a b:ByteArray)(w:World) :
  Calls Tryz.prog 151 #[.string a,.string b] w fun e w'=>e = .returned (.int .i64 (Lib.compareBytes a.data.toList b.data.toList))∧w'=w:=Any.strings_Compare Tryz.ach a b w
def Tryz.Np:Go.Shelf.Ren:=⟨fun|155=>31|154=>53|138=>94|165=>95|143=>96|166=>97|197=>98|169=>99|195=>130|218=>131|240=>132|241=>133|219=>134|260=>135|276=>161|277=>162|217=>163|225=>164|224=>165|267=>166|266=>182|314=>183|n=>n,fun|9=>9|3=>3|4=>4|72=>169|0=>0|76=>173|105=>175|21=>21|5=>5|70=>167|20=>20|37=>49|75=>172|127=>210|164=>237|46=>211|119=>240|139=>243|138=>242|146=>255|51=>254|80=>177|n=>n,fun|1=>1|3=>4|4=>5|n=>n⟩
theorem Tryz.aci:Go.Proofs.Lays.n155 Tryz.prog Tryz.Np:={
 mixed:=by kernel_rfl
 f138:=Tryz.func94.trans (congrArg some (by kernel_rfl))
 f143:=Tryz.func96.trans (congrArg some (by kernel_rfl))
 f154:=Tryz.func53.trans (congrArg some (by kernel_rfl))
 f155:=Tryz.func31.trans (congrArg some (by kernel_rfl))
 f165:=Tryz.func95.trans (congrArg some (by kernel_rfl))
 f166:=Tryz.func97.trans (congrArg some (by kernel_rfl))
 f169:=Tryz.func99.trans (congrArg some (by kernel_rfl))
 f195:=Tryz.func130.trans (congrArg some (by kernel_rfl))
 f197:=Tryz.func98.trans (congrArg some (by kernel_rfl))
 f217:=Tryz.func163.trans (congrArg some (by kernel_rfl))
 f218:=Tryz.func131.trans (congrArg some (by kernel_rfl))
 f219:=Tryz.func134.trans (congrArg some (by kernel_rfl))
 f224:=Tryz.func165.trans (congrArg some (by kernel_rfl))
 f225:=Tryz.func164.trans (congrArg some (by kernel_rfl))
 f240:=Tryz.func132.trans (congrArg some (by kernel_rfl))
 f241:=Tryz.func133.trans (congrArg some (by kernel_rfl))
 f260:=Tryz.func135.trans (congrArg some (by kernel_rfl))
 f266:=Tryz.func182.trans (congrArg some (by kernel_rfl))
 f267:=Tryz.func166.trans (congrArg some (by kernel_rfl))
 f276:=Tryz.func161.trans (congrArg some (by kernel_rfl))
 f277:=Tryz.func162.trans (congrArg some (by kernel_rfl))
 f314:=Tryz.func183.trans (congrArg some (by kernel_rfl))
 t0:=Tryz.underlying0
 a0:=Tryz.isAgg0
 z0:=Tryz.sizeOf0
 v0:=Tryz.zeroValue0
 t3:=Tryz.underlying3
 a3:=Tryz.isAgg3
 z3:=Tryz.sizeOf3
 v3:=Tryz.zeroValue3
 t4:=Tryz.underlying4
 a4:=Tryz.isAgg4
 z4:=Tryz.sizeOf4
 v4:=Tryz.zeroValue4
 t5:=Tryz.underlying5
 a5:=Tryz.isAgg5
 z5:=Tryz.sizeOf5
 v5:=Tryz.zeroValue5
 t9:=Tryz.underlying9
 a9:=Tryz.isAgg9
 z9:=Tryz.sizeOf9
 v9:=Tryz.zeroValue9
 t20:=Tryz.underlying20
 a20:=Tryz.isAgg20
 z20:=Tryz.sizeOf20
 v20:=Tryz.zeroValue20
 t21:=Tryz.underlying21
 a21:=Tryz.isAgg21
 z21:=Tryz.sizeOf21
 v21:=Tryz.zeroValue21
 t37:=Tryz.underlying49
 a37:=Tryz.isAgg49
 z37:=Tryz.sizeOf49
 v37:=Tryz.zeroValue49
 t46:=Tryz.underlying211
 a46:=Tryz.isAgg211
 z46:=Tryz.sizeOf211
 v46:=Tryz.zeroValue211
 t51:=Tryz.underlying254
 a51:=Tryz.isAgg254
 z51:=Tryz.sizeOf254
 v51:=Tryz.zeroValue254
 t70:=Tryz.underlying167
 a70:=Tryz.isAgg167
 z70:=Tryz.sizeOf167
 v70:=Tryz.zeroValue167
 t72:=Tryz.underlying169
 a72:=Tryz.isAgg169
 z72:=Tryz.sizeOf169
 v72:=Tryz.zeroValue169
 t75:=Tryz.underlying172
 a75:=Tryz.isAgg172
 z75:=Tryz.sizeOf172
 v75:=Tryz.zeroValue172
 t76:=Tryz.underlying173
 a76:=Tryz.isAgg173
 z76:=Tryz.sizeOf173
 v76:=Tryz.zeroValue173
 t105:=Tryz.underlying175
 a105:=Tryz.isAgg175
 z105:=Tryz.sizeOf175
 v105:=Tryz.zeroValue175
 t119:=Tryz.underlying240
 a119:=Tryz.isAgg240
 z119:=Tryz.sizeOf240
 t127:=Tryz.underlying210
 a127:=Tryz.isAgg210
 z127:=Tryz.sizeOf210
 v127:=Tryz.zeroValue210
 t138:=Tryz.underlying242
 a138:=Tryz.isAgg242
 z138:=Tryz.sizeOf242
 v138:=Tryz.zeroValue242
 t139:=Tryz.underlying243
 a139:=Tryz.isAgg243
 z139:=Tryz.sizeOf243
 v139:=Tryz.zeroValue243
 t146:=Tryz.underlying255
 a146:=Tryz.isAgg255
 z146:=Tryz.sizeOf255
 v146:=Tryz.zeroValue255
 t164:=Tryz.underlying237
 a164:=Tryz.isAgg237
 z164:=Tryz.sizeOf237
 v164:=Tryz.zeroValue237
 g1:=by kernel_rfl
 g3:=by kernel_rfl
 g4:=by kernel_rfl}
theorem Tryz.W9:Builder.Extra Tryz.prog Tryz.Np:={
 sizeBuilder:=by kernel_rfl
 liesBuilder:=by kernel_rfl
 t5:=Tryz.underlying5
 a5:=Tryz.isAgg5
 z5:=Tryz.sizeOf5
 v5:=Tryz.zeroValue5
 infoByte:=by kernel_rfl
 cellsByte:=by kernel_rfl
 sizeByte:=by kernel_rfl
 neB5:=by decide}
open Go.RowKit Go.Lib in
theorem Tryz.strings_ReplaceAll(s old new:ByteArray)(m:Int)(w:World)(hs:s.size<4294967281)(hm:w.cell? ⟨1,0,none⟩=some (.int .i64 m))(h1:1≤old.size)(hlen:s.size+Lib.countB s old*new.size≤140737488355328) :
  Calls Tryz.prog 31 #[.string s,.string old,.string new] w fun e w' =>
   e = .returned (.string ⟨(Lib.replaceAll s.data.toList old.data.toList new.data.toList).toArray⟩)∧Below w.heap.size w w':=Any.strings_ReplaceAll Tryz.aci Tryz.W9 s old new m w hs hm h1 hlen

end Go.Proofs
namespace Go.Proofs.YtbcmjoaggammcaaGreatDoor.Cd
open List
open Go.Proofs.Tryz
open Go.RowKit V Pk Vl
variable {v:Vl}
theorem Ps(c:UInt8)(new:List UInt8):∀s:List UInt8,Lib.replaceK [c] new (s.count c) s=s.flatMap fun b=>if b=c then new else [b]
 | []=>rfl
 | b::l=>by
  have I:=Ps c new l;by_cases h:b=c
  ·subst h;have hi:Lib.index (b::l) [b]=((0:Nat):Int):=(by rw[Lib.index_one];simp[Lib.indexByte])
   rw[count_cons_self,Lib.replaceK_hit _ _ _ _ _ hi,flatMap_cons,if_pos rfl,←I];simp
  have hc:(b::l).count c=l.count c:=count_cons_of_ne h;rw[hc,flatMap_cons,if_neg h,←I];cases hk:l.count c with
  | zero=>rfl
  | succ k =>
   obtain⟨i,hi⟩:=Lib.index_of_count (s:=l) (old:=[c]) (by rw[Lib.count_one];omega);have E:Lib.index (b::l) [c]=((i+1:Nat):Int):=by
    rw[Lib.index_one] at hi ⊢;unfold Lib.indexByte;rw[if_neg oB,hi,if_neg (by rw[beq_iff_eq];omega)];omega
   rw[Lib.replaceK_hit _ _ _ _ _ E,Lib.replaceK_hit _ _ _ _ _ hi];simp
def sX(c:UInt8)(new:List UInt8)(s:ByteArray):ByteArray:=⟨(s.data.toList.flatMap fun b=>if b=c then new else [b]).toArray⟩
theorem XP(c:UInt8)(new s:List UInt8):Lib.replaceAll s [c] new=s.flatMap fun b=>if b=c then new else [b]:=by
 unfold Lib.replaceAll Lib.replace Lib.replaceNum;split
 ·rename_i h;have h':[c]=new:=(by simpa using h)
  subst h';induction s with
  | nil=>rfl
  | cons b l ih =>
   rw[flatMap_cons,←ih];have:(if b=c then [c] else [b])=[b]:=by
    split
    ·rename_i e;rw[e]
    rfl
   rw[this];rfl
 rw[if_pos (.inl w7),Lib.count_one,Ps]
variable {G:List (Nat×List Value)} {m:Int}
theorem acj(hG:(1,[Value.int .i64 m])∈G)(c:UInt8)(new:ByteArray)(s:ByteArray)(hs:s.size≤1000000)(hn:new.size≤1000):VP Tryz.prog G 31 [.v (.string s),.v (.string ⟨#[c]⟩),.v (.string new)] (.v (.string (sX c new.data.toList s))):=by
 have hc:Lib.countB s ⟨#[c]⟩≤1000000:=by
  show Lib.count s.data.toList [c]≤1000000;rw[Lib.count_one];exact Nat.le_trans count_le_length (by rw[kM];exact hs)
 have I:Lib.countB s ⟨#[c]⟩*new.size≤1000000*1000:=Nat.mul_le_mul hc hn;have key:=VP.QT (P:=Tryz.prog) (G:=G) (f:=31) (vs:=[.string s,.string ⟨#[c]⟩,.string new]) (v:=.string (sX c new.data.toList s)) fun w E=>by
  refine(Tryz.strings_ReplaceAll s ⟨#[c]⟩ new m w w4 (E _ hG 0 _ rfl) (Nat.le_refl _) w4).mono fun e w' ⟨h1,h2⟩=>⟨?_,h2⟩
  rw[h1];congr 2;show(⟨(Lib.replaceAll s.data.toList [c] new.data.toList).toArray⟩:ByteArray)=_;rw[XP];rfl
 exact key
/-! ### Keys -/
def kb(v:Vl):UInt8:=UInt8.ofNat v.k.toNat
def nb(v:Vl):UInt8:=UInt8.ofNat v.n.toNat
def uN(v:Vl):Nat:=(v.n+9223372036854775808).toNat
def y4(u k:Nat):UInt8:=UInt8.ofNat (u/256 ^ (7-k))
def mS(u:Nat):List UInt8:=(range 8).map (y4 u)
def tg(s:List UInt8):List UInt8:=s.flatMap fun b=>if b=0 then [0,255] else [b]
def th(v:Vl):List UInt8:=if v.k=1 then [nb v] else if v.k=2 then mS (uN v) else if v.k=3 then tg v.s.data.toList++[0,0] else []
def we(v:Vl):List UInt8:=kb v::th v
def gl(l:List Vl):List UInt8:=l.flatMap we
def rN:List Vl→Int
 | []=>0
 | v::r=>if dL v=0 then rN r else dL v
def fX(l:List Vl):List UInt8×Int:=if l.length>6 then ([],1) else if rN l≠0 then ([],rN l) else if (gl l).length>100 then ([],5) else (gl l,0)
def AV(b:List UInt8):D:=.list 1 (b.flatMap cB) b.length
def Kp(r:List UInt8×Int):D:=.dz [AV r.1,.v (.int .i64 r.2)]
theorem QZ:∀{l:List Vl} {i:Nat} (hi:i<l.length),(∀v∈l.take i,dL v=0)→dL l[i]≠0→rN l=dL l[i]
 | v::r,0,hi,_,h=>by
  have h':dL v≠0:=h;show rN (v::r)=dL v;rw[rN,if_neg h']
 | v::r,i+1,hi,h0,h=>by
  rw[rN,if_pos (h0 v bw)];exact QZ (l:=r) (i:=i) (by simpa using hi) (fun x hx=>h0 x (by rw[take_succ_cons];exact mem_cons_of_mem _ hx)) h
theorem Iv:∀{l:List Vl},(∀v∈l,dL v=0)→rN l=0
 | [],_=>rfl
 | v::r,h=>by rw[rN,if_pos (h v mem_cons_self)];exact Iv fun x hx=>h x (mem_cons_of_mem _ hx)
theorem NB(h:dL v=0):0≤v.k∧v.k≤3:=by
 unfold dL at h;split at h
 ·omega
 split at h
 ·omega
 split at h
 ·omega
 split at h
 ·omega
 cases h
theorem NC(h:dL v=0)(hk:v.k=1):0≤v.n∧v.n≤1:=by
 unfold dL at h;rw[if_neg w4,if_pos hk] at h;split at h
 ·cases h
 omega
theorem ND(h:dL v=0)(hk:v.k=3):v.s.size≤20:=by
 unfold dL at h;rw[if_neg w4,if_neg w4,if_neg w4,if_pos hk] at h;split at h
 ·cases h
 split at h
 ·cases h
 omega
theorem aed(h:dL v=0):((kb v).toNat:Int)=v.k:=by
 have:=NB h;unfold kb;rw[UInt8.toNat_ofNat'];omega
theorem aee(h:dL v=0)(hk:v.k=1):((nb v).toNat:Int)=v.n:=by
 have:=NC h hk;unfold nb;rw[UInt8.toNat_ofNat'];omega
theorem ack(h:dL v=0):IntKind.u8.wrap v.k=((kb v).toNat:Int):=by
 have:=NB h;rw[aed h];show v.k % 256=_;omega
theorem acm(h:dL v=0)(hk:v.k=1):IntKind.u8.wrap v.n=((nb v).toNat:Int):=by
 have:=NC h hk;rw[aee h hk];show v.n % 256=_;omega
theorem aef(h:v.Ok):((uN v:Nat):Int)=v.n+9223372036854775808:=by have:=h.n1;unfold uN;omega
theorem aeg{u k:Nat}(hk:k≤7):(u:Int).fdiv (2 ^ min ((56:Int)-8*(k:Int)).toNat IntKind.u64.bits)=((u/256 ^ (7-k):Nat):Int):=by
 have e1:min ((56:Int)-8*(k:Int)).toNat IntKind.u64.bits=8*(7-k):=by
  show min _ 64=_;omega
 have E:(2 ^ (8*(7-k)):Nat)=256 ^ (7-k):=(by rw[Nat.pow_mul])
 have e2:((2:Int) ^ (8*(7-k)))=((256 ^ (7-k):Nat):Int):=by
  rw[←E,Int.natCast_pow];rfl
 rw[e1,e2];exact(Int.ofNat_fdiv _ _).symm
theorem acn(x:Nat):IntKind.u8.wrap (x:Int)=((UInt8.ofNat x).toNat:Int):=by
 rw[UInt8.toNat_ofNat'];show(x:Int) % 256=_;omega
theorem Iw{u k:Nat}(hk:k≤7):(mS u).take k++[y4 u k]=(mS u).take (k+1):=by
 have hl:k<(mS u).length:=(by simp[mS];omega)
 rw[take_succ_eq_append_getElem hl];congr 2;simp[mS]
theorem EE(u:Nat):(mS u).length=8:=by simp[mS]
theorem Q0(s:List UInt8):(tg s).length≤2*s.length:=by
 induction s with
 | nil=>simp[tg]
 | cons b l ih =>
  unfold tg at ih ⊢;rw[flatMap_cons,length_append,length_cons];split<;>simp only[length_cons,length_nil]<;>omega
theorem Er(h:dL v=0):(we v).length≤43:=by
 unfold we th;rw[length_cons];split
 ·simp
 split
 ·rw[EE];omega
 split
 ·rename_i hk;have h1:=ND h hk;have h2:=Q0 v.s.data.toList;rw[kM] at h2;rw[length_append];simp;omega
 simp
theorem D9:∀{l:List Vl},(∀v∈l,dL v=0)→(gl l).length≤43*l.length
 | [],_=>Nat.le_refl _
 | v::r,h=>by
  have h1:=Er (h v mem_cons_self);have h2:=D9 (l:=r) fun x hx=>h x (mem_cons_of_mem _ hx);unfold gl at h2 ⊢;rw[flatMap_cons,length_append,length_cons];omega
theorem NT{l:List Vl}{i:Nat}(hi:i<l.length):gl (l.take i)++we l[i]=gl (l.take (i+1)):=by
 unfold gl;rw[take_succ_eq_append_getElem hi,flatMap_append];simp
theorem S4(h:v.k=1):th v=[nb v]:=if_pos h
theorem S5(h:v.k=2):th v=mS (uN v):=by unfold th;rw[if_neg w4,if_pos h]
theorem S6(h:v.k=3):th v=tg v.s.data.toList++[0,0]:=by unfold th;rw[if_neg w4,if_neg w4,if_pos h]
theorem S8(h1:¬v.k=1)(h2:¬v.k=2)(h3:¬v.k=3):th v=[]:=by unfold th;rw[if_neg h1,if_neg h2,if_neg h3]
theorem At(s:ByteArray):(sX 0 [0,255] s).data.toList=tg s.data.toList:=rfl
def Kq(p:List UInt8×Int)(r:D)(S:List ag):Prop:=∃ad cap,r = .dz [.v (.slice ad p.1.length cap),.v (.int .i64 p.2)]∧bu 5 1 (p.1.flatMap cB) p.1.length ad cap S
theorem Kq.view{p:List UInt8×Int}{r:D}{S:List ag}(h:Kq p r S):View S r (Kp p):=by
 obtain⟨ad,cap,rfl,ho⟩:=h;exact D6 ⟨kY ho (cl oU _) (fun B h=>h),eM,trivial⟩
theorem Ao:(Tryz.prog.info? 5).map (fun i=>(i.zero,i.size,i.bytes))=some (some (.int .u8 0),1,1):=by kernel_rfl
theorem Ss(hG:(1,[Value.int .i64 m])∈G)(l:List Vl)(hl:l.length≤maxLen)(aR:∀v∈l,v.Ok):VC Tryz.prog G 13 [.list 3 (l.flatMap cV) l.length] [] (Kq (fX l)):=by
 refine VC.body func13 rfl ntmps13 aO fun X0 w0 aX=>?_;refine ae [0] ?_;refine ae [0,12] ?_;refine aq (fun az aG=>?_) (fun az aG=>?_)
 ·have aS:fX l=([],1):=if_pos w4;exact LG
 have h6:l.length≤6:=(by omega)
 refine bX ?_;refine aZ [0,4] ?_;refine ae [4,13,14,15] ?_;refine CD.block ?_;refine mB (fun (E:Nat×Option Addr×Nat×List ag) aK=>match E with|(i,I,O,Sb)=>(i≤l.length)∧(∀v∈l.take i,dL v=0)∧(bu 5 1 ((gl (l.take i)).flatMap cB) (gl (l.take i)).length I O Sb)∧aK=(⟨72,[(4,.v (.slice I (gl (l.take i)).length O)),(13,.list 3 (l.flatMap cV) l.length),(14,.v (.int .i64 l.length)),(15,.v (.int .i64 (i:Nat)))],(Sb)⟩:St)) (fun (E:Nat×Option Addr×Nat×List ag)=>match E with|(i,I,O,Sb)=>l.length-i) (0,none,0,[]) ⟨(Nat.zero_le _),bw,(bu.cast iA (by rfl)),rfl⟩ (aM (h:=by repeat (first|exact trivial|refine⟨w6,?_⟩))) ?_;rintro⟨i,I,O,Sb⟩ _ ⟨hi,h0,oH,rfl⟩;refine ae [4,13,14,15,16] ?_;refine aq (fun aH aU=>?_) (fun aH aU=>?_)
 ·have aa:i<l.length:=(by omega)
  have LP:=D9 h0;rw[length_take] at LP;have dr:maxLen=9223372036854775807:=rfl;have fH:=aR _ (getElem_mem aa);refine aC 2 ?_;refine OD.alloc (ds:=[_,_,_]) an rfl rfl zeroValue30 rfl (fun b6=>?_);refine aN 0 [_,_,_] sizeOf30 ?_;refine aj 72 [4,6,13,14,15] ?_;refine cL [4,6,7,13,14,15] (Vl.oP l[i]) ?_;refine ae [4,6,7,13,14,15,22] ?_;refine aq (fun aY bz=>?_) (fun aY bz=>?_)
  ·have hne:dL l[i]≠0:=(by simpa using aY)
   have aS:fX l=([],dL l[i]):=(by unfold fX;rw[if_neg w4,QZ aa h0 hne,if_pos hne])
   exact LG
  have U:dL l[i]=0:=(by simpa using aY)
  refine aC 3 ?_;refine bJ (nX (r:=.int .u8 ((kb l[i]).toNat:Int)) rfl ot (nY runUnderlying3 runUnderlying5 (ack U))) ?_;refine ei (bZ 0 [_]) [.int .u8 0] [_] zeroValue5 runUnderlying49 sizeOf5 (fun Mi=>?_);refine fG 0 28 1 1 ?_;refine OD.en (ls:=(gl (l.take i))) (new:=[kb l[i]]) (Sq:=Sb) oU vQ an rfl rfl underlying49 Ao rfl w7 ot oH (dB (A:=[_])) ot bw zl zl (fun tU Z Fw Fx=>?_);refine OD.perm (dY (S1:=[⟨tU,5,Z*1,flatMap cB ((gl (l.take i))++[kb l[i]])⟩]) (A:=[_])) ?_;refine aj 72 [4,6,13,14,15] ?_;refine ae [4,6,13,14,15,31] ?_;refine ae [4,6,13,14,15,31,32] ?_;refine aq (fun bF bY=>?_) (fun bF bY=>?_)
  ·have dI:l[i].k=1:=(by simpa using bF)
   refine dw 3 ?_;refine bJ (nX (r:=.int .u8 ((nb l[i]).toNat:Int)) rfl ot (nY runUnderlying3 runUnderlying5 (acm U dI))) ?_;refine ei (bZ 0 [_]) [.int .u8 0] [_] zeroValue5 runUnderlying49 sizeOf5 (fun Mj=>?_);refine fG 0 38 1 1 ?_;refine OD.en (ls:=((gl (l.take i))++[kb l[i]])) (new:=[nb l[i]]) (Sq:=[⟨tU,5,Z*1,flatMap cB ((gl (l.take i))++[kb l[i]])⟩]) oU vQ an rfl rfl underlying49 Ao rfl w7 ot (bD Fw Fx) (dB (A:=[_])) ot bw zl zl (fun Cb Kr ag9 aha=>?_);refine OD.perm (dY (S1:=[⟨Cb,5,Kr*1,flatMap cB (((gl (l.take i))++[kb l[i]])++[nb l[i]])⟩]) (A:=[_])) ?_;refine aj 72 [4,13,14,15] ?_;refine cj [4,13,14,15] ?_;refine⟨((i+1),(some ⟨Cb,0,none⟩),Kr,[⟨Cb,5,Kr*1,flatMap cB (((gl (l.take i))++[kb l[i]])++[nb l[i]])⟩]),_,cz,(aM (h:=by repeat (first|exact trivial|refine⟨w6,?_⟩))),w4,(xY aa h0 U),(bu.cast (bD ag9 aha) FM),rfl⟩
  have dI:¬l[i].k=1:=(by simpa using bF)
  refine ae [4,6,13,14,15,31,40] ?_;refine aq (fun cx c8=>?_) (fun cx c8=>?_)
  ·have fj:l[i].k=2:=(by simpa using cx)
   refine cM [4,8,13,14,15] ?_;refine aP 3 ?_ (h:=by exact(cW (r:=.int .u64 ((uN l[i]:Nat):Int)) rfl ot bC (ab4 (by rw[aef fH];exact ab6 fH.n1 fH.n2))));refine bM ?_;refine ae [4,8,9,13,14,15] ?_;refine CD.block ?_;refine mB (fun (E:Nat×Option Addr×Nat×List ag) aK=>match E with|(k,I,O,Sb)=>(k≤8)∧(bu 5 1 (((gl (l.take i)++[kb l[i]])++(mS (uN l[i])).take k).flatMap cB) ((gl (l.take i)++[kb l[i]])++(mS (uN l[i])).take k).length I O Sb)∧aK=(⟨72,[(4,.v (.slice I ((gl (l.take i)++[kb l[i]])++(mS (uN l[i])).take k).length O)),(8,.v (.int .u64 ((uN l[i]:Nat):Int))),(9,.v (.int .i64 (56-8*(k:Int)))),(13,.list 3 (l.flatMap cV) l.length),(14,.v (.int .i64 l.length)),(15,.v (.int .i64 (i:Nat)))],(Sb)⟩:St)) (fun (E:Nat×Option Addr×Nat×List ag)=>match E with|(k,I,O,Sb)=>8-k) (0,(some ⟨tU,0,none⟩),Z,[⟨tU,5,Z*1,flatMap cB ((gl (l.take i))++[kb l[i]])⟩]) ⟨w7,(bu.cast (bD Fw Fx) bw),rfl⟩ (aM (h:=by repeat (first|exact trivial|refine⟨(by (repeat (first|exact fm|(apply fK;focus (first|rfl|(congr 2;omega)|(simp;done)|(apply eC;rw[←Iw w4];simp)|(apply eC;simp)|(apply eC;simp;done)))|(apply fu;focus rfl)));done),?_⟩))) ?_;rintro⟨k,I,O,Sb⟩ _ ⟨Lq,oH,rfl⟩;refine ae [4,8,9,13,14,15,47] ?_;refine aq (fun dP er=>?_) (fun dP er=>?_)
   ·have hk7:k≤7:=(by omega)
    refine dw 3 ?_;refine bJ (cW (r:=.int .u64 ((uN l[i]/256 ^ (7-k):Nat):Int)) rfl ot ot (yg w4 (aeg hk7))) ?_;refine bJ (nX (r:=.int .u8 ((y4 (uN l[i]) k).toNat:Int)) rfl ot (nY runUnderlying85 runUnderlying5 (acn _))) ?_;refine ei (bZ 0 [_]) [.int .u8 0] [_] zeroValue5 runUnderlying49 sizeOf5 (fun b55=>?_);refine fG 0 55 1 1 ?_;refine OD.en (ls:=((gl (l.take i)++[kb l[i]])++(mS (uN l[i])).take k)) (new:=[y4 (uN l[i]) k]) (Sq:=Sb) oU vQ an rfl rfl underlying49 Ao rfl w7 ot oH (dB (A:=[])) ot bw zl zl (fun Mk Ks ahb ahc=>?_);refine OD.perm (dY (S1:=[⟨Mk,5,Ks*1,flatMap cB (((gl (l.take i)++[kb l[i]])++(mS (uN l[i])).take k)++[y4 (uN l[i]) k])⟩]) (A:=[])) ?_;refine aj 72 [4,8,9,13,14,15] ?_;refine cj [4,8,9,13,14,15] ?_;refine⟨((k+1),(some ⟨Mk,0,none⟩),Ks,[⟨Mk,5,Ks*1,flatMap cB (((gl (l.take i)++[kb l[i]])++(mS (uN l[i])).take k)++[y4 (uN l[i]) k])⟩]),_,cz,(aM (h:=by repeat (first|exact trivial|refine⟨(by (repeat (first|exact fm|(apply fK;focus (first|rfl|(congr 2;omega)|(simp;done)|(apply eC;rw[←Iw w4];simp)|(apply eC;simp)|(apply eC;simp;done)))|(apply fu;focus rfl)));done),?_⟩))),w4,(bu.cast (bD ahb ahc) (by rw[←Iw w4];simp)),rfl⟩
   have anQ:k=8:=(by omega)
   have anR:8≤k:=(by omega)
   refine cj [4,13,14,15] ?_;refine⟨((i+1),I,O,Sb),_,cz,(aM (h:=by repeat (first|exact trivial|refine⟨w6,?_⟩))),w4,(xY aa h0 U),(bu.cast oH FM),rfl⟩
  have fj:¬l[i].k=2:=(by simpa using cx)
  refine ae [4,6,13,14,15,57] ?_;refine aq (fun eN fR=>?_) (fun eN fR=>?_)
  ·have lD:l[i].k=3:=(by simpa using eN)
   have K0:=ND U lD;have Cx:=Q0 l[i].s.data.toList;rw[kM] at Cx;have Wo:(sX 0 [0,255] l[i].s).size=(tg l[i].s.data.toList).length:=(by rw[←kM,At])
   refine aC 3 ?_;refine dJ call31 (acj hG 0 ⟨#[0,255]⟩ l[i].s w4 w7) ?_;refine OD.X8 (ls:=((gl (l.take i))++[kb l[i]])) (Sq:=[⟨tU,5,Z*1,flatMap cB ((gl (l.take i))++[kb l[i]])⟩]) an rfl rfl underlying49 underlying9 Ao ot (bD Fw Fx) (dB (A:=[_])) ot (by rw[show(sX 0 (⟨#[0,255]⟩:ByteArray).data.toList l[i].s).size=(tg l[i].s.data.toList).length from Wo];simp only[length_append,length_cons,length_nil];omega) (by rw[show(sX 0 (⟨#[0,255]⟩:ByteArray).data.toList l[i].s).size=(tg l[i].s.data.toList).length from Wo];simp only[length_append,length_cons,length_nil];omega) (fun Uj wE CA BD=>?_);refine OD.perm (dY (A:=[_])) ?_;refine aj 72 [4,13,14,15] ?_;refine dw 1 ?_;refine ei (bZ 0 [_,_]) [.int .u8 0,.int .u8 0] [_,_] zeroValue5 runUnderlying49 sizeOf5 (fun b65=>?_);refine fG 0 65 1 2 ?_;refine OD.en (ls:=(((gl (l.take i))++[kb l[i]])++(sX 0 [0,255] l[i].s).data.toList)) (new:=[(0:UInt8),0]) (Sq:=CA) oU vQ an rfl rfl underlying49 Ao rfl w7 ot BD (dB (A:=[_])) ot bw (by rw[At];simp only[length_append,length_cons,length_nil];omega) (by rw[At];simp only[length_append,length_cons,length_nil];omega) (fun oJ y5 y6 y7=>?_);refine OD.perm (dY (S1:=[⟨oJ,5,y5*1,flatMap cB ((((gl (l.take i))++[kb l[i]])++(sX 0 [0,255] l[i].s).data.toList)++[(0:UInt8),0])⟩]) (A:=[_])) ?_
   refine aj 72 [4,13,14,15] ?_;refine cj [4,13,14,15] ?_;refine⟨((i+1),(some ⟨oJ,0,none⟩),y5,[⟨oJ,5,y5*1,flatMap cB ((((gl (l.take i))++[kb l[i]])++(sX 0 [0,255] l[i].s).data.toList)++[(0:UInt8),0])⟩]),_,cz,(aM (h:=by repeat (first|exact trivial|refine⟨w6,?_⟩))),w4,(xY aa h0 U),(bu.cast (bD y6 y7) FM),rfl⟩
  have lD:¬l[i].k=3:=(by simpa using eN)
  refine cj [4,13,14,15] ?_;refine⟨((i+1),(some ⟨tU,0,none⟩),Z,[⟨tU,5,Z*1,flatMap cB ((gl (l.take i))++[kb l[i]])⟩]),_,cz,(aM (h:=by repeat (first|exact trivial|refine⟨w6,?_⟩))),w4,(xY aa h0 U),(bu.cast (bD Fw Fx) FM),rfl⟩
 have eY:∀v∈l,dL v=0:=(by rw[take_of_length_le w4] at h0;exact h0)
 have hle:=D9 eY;have Ml:gl (l.take i)=gl l:=(by rw[take_of_length_le w4])
 refine ae [4,70] ?_;refine aq (fun eG fY=>?_) (fun eG fY=>?_)
 ·have aS:fX l=([],5):=(by unfold fX;rw[if_neg w4,Iv eY,if_neg bw,if_pos (by rw[Ml] at eG;simp at eG;omega)])
  exact LG
 have aS:fX l=(gl l,0):=(by unfold fX;rw[if_neg w4,Iv eY,if_neg bw,if_neg (by rw[Ml] at eG;simp at eG;omega)])
 refine ae [2,3] ?_;refine aJ Sb ?_;rw[aS,←Ml];exact⟨I,O,rfl,oH⟩
theorem aeh(hG:(1,[Value.int .i64 m])∈G)(l:List Vl)(hl:l.length≤maxLen)(aR:∀v∈l,v.Ok):VP Tryz.prog G 13 [.list 3 (l.flatMap cV) l.length] (Kp (fX l)):=(Ss hG l hl aR).cover fun r S hr=>hr.view

end Go.Proofs.YtbcmjoaggammcaaGreatDoor.Cd
namespace Go.Proofs.YtbcmjoaggammcaaGreatDoor.Cd









open List
open Go.Proofs.Tryz
open Go.RowKit V Pk Vl
open Go.Lib (compareBytes)
variable {l:List Int}
theorem AR{a b:UInt8}:a<b↔a.toNat<b.toNat:=UInt8.lt_iff_toNat_lt
theorem Q1(a b:UInt8)(x y:List UInt8):compareBytes (a::x) (b::y)=if a<b then -1 else if b<a then 1 else compareBytes x y:=by rw[compareBytes]
theorem Q2:∀(x y:List UInt8),compareBytes y x = - compareBytes x y
 | [],[]=>rfl
 | [],_::_=>rfl
 | _::_,[]=>rfl
 | a::x,b::y=>by
  have E:=Q2 x y;rw[Q1,Q1];rcases Nat.lt_trichotomy a.toNat b.toNat with h|h|h
  ·rw[if_neg zF,if_pos (AR.2 h),if_pos (AR.2 h)];rfl
  ·rw[if_neg zF,if_neg zF,if_neg zF,if_neg zF,E]
  rw[if_pos (AR.2 h),if_neg zF,if_pos (AR.2 h)]
/-! ### What value.Compare answers -/
def o8(x y:Int):Int:=if x<y then -1 else if x>y then 1 else 0
def iy:List Int→Int
 | []=>0
 | a::l=>if a≠0 then a else iy l
def cmpL(a b:Vl):List Int:=[o8 a.k b.k,o8 a.n b.n,compareBytes a.s.data.toList b.s.data.toList]
def gj(a b:Vl):Int:=iy (cmpL a b)
theorem xP(x y:Int):o8 x y = -1∧x<y∨o8 x y=0∧x=y∨o8 x y=1∧y<x:=by unfold o8;split;omega;split<;>omega
theorem N8(x y:Int):o8 y x = - o8 x y:=by
 rcases xP x y with h|h|h<;>rcases xP y x with k|k|k<;>omega
theorem DO(a b:Vl):gj b a = - gj a b:=by
 unfold gj cmpL iy iy iy iy;rw[N8 a.k b.k,N8 a.n b.n,Q2 a.s.data.toList b.s.data.toList];repeat' split
 all_goals omega

variable {G:List (Nat×List Value)} {m:Int}
def cI(n:Int):List D:=[.v (.int .i64 n)]
theorem aaI:∀{i:Nat} (hi:i<l.length),(∀x∈l.take i,x=0)→iy l=iy (l.drop i):=by
 induction l with
 | nil=>intro i hi;simp at hi
 | cons a l ih =>
  intro i hi h;cases i with
  | zero=>rfl
  | succ i =>
   have ha:a=0:=h a bw;show(if a≠0 then a else iy l)=iy (l.drop i);rw[if_neg (by simp[ha])];exact ih (by simpa using hi) (fun x hx=>h x (by simp[hx]))
theorem aco{i:Nat}(hi:i<l.length)(h:∀x∈l.take i,x=0)(h1:l[i]≠0):iy l=l[i]:=by
 rw[aaI hi h,drop_eq_getElem_cons hi];exact if_pos h1
theorem Pt:∀{l:List Int},(∀x∈l,x=0)→iy l=0
 | [],_=>rfl
 | a::l,h=>by
  show(if a≠0 then a else iy l)=0;rw[if_neg (by simp[h a bw]),Pt fun x hx=>h x (by simp[hx])]
theorem take_zero{i:Nat}(hi:i<l.length)(h:∀x∈l.take i,x=0)(h1:l[i]=0):∀x∈l.take (i+1),x=0:=fun x hx=>by
 rw[take_succ_eq_append_getElem hi] at hx;rcases mem_append.1 hx with hx|hx
 ·exact h x hx
 simp only[mem_singleton] at hx;rw[hx];exact h1
theorem Su(x:Int):VP Tryz.prog G 174 [.v (.int .i64 x)] (.v (.bool false)):=by
 refine VC.body func174 rfl ntmps174 aO fun X0 w0 aX=>?_;refine ae [0] ?_;refine ae [2] ?_;refine aJ [] ?_;first|exact⟨rfl,rfl⟩|(refine⟨vb ?_,rfl⟩;simp)
theorem Q3(x y:Int):VP Tryz.prog G 150 [.v (.int .i64 x),.v (.int .i64 y)] (.v (.int .i64 (o8 x y))):=by
 refine VC.body func150 rfl ntmps150 aO fun X0 w0 aX=>?_;refine ae [0,1] ?_;refine cL [0,1,5] (Su x) ?_;refine cL [0,1,5,6] (Su y) ?_;refine ae [0,1,6,11] ?_;refine aq (fun az aG=>?_) (fun az aG=>?_)
 ·refine ae [12] ?_;refine aq (fun aH aU=>?_) (fun aH aU=>?_)
  ·exact B9
  exact B9
 refine ae [0,1,13] ?_;refine aq (fun aY bz=>?_) (fun aY bz=>?_)
 ·exact B9
 refine ae [0,1,16] ?_;refine aq (fun bF bY=>?_) (fun bF bY=>?_)
 ·exact B9
 refine ae [19] ?_;refine aq (fun cx c8=>?_) (fun cx c8=>?_)
 ·exact B9
 refine ae [4] ?_;refine aJ [] ?_;first|exact⟨rfl,rfl⟩|(refine⟨vi ?_,rfl⟩;unfold o8;simp_all;done)|(refine⟨vi ?_,rfl⟩;unfold o8;split<;>(try split)<;>simp_all<;>omega)
theorem aei(l:List Int)(hl:l.length≤100):VP Tryz.prog G 149 [.list 1 (l.flatMap cI) l.length] (.v (.int .i64 (iy l))):=by
 refine VC.body func149 rfl ntmps149 aO fun X0 w0 aX=>?_;have dr:maxLen=9223372036854775807:=rfl;refine ae [0] ?_;refine ae [0,3] ?_;refine ae [3,6,7,8] ?_;refine eI [3,6,7] (fun aV _ (i:Nat) aK=>(i≤l.length)∧(∀x∈l.take i,x=0)∧aK=(⟨18,(8,.v (.int .i64 (i:Nat)))::aV,[]⟩:St)) (fun (i:Nat)=>l.length-i) 0 ⟨(Nat.zero_le _),(fun x hx=>by simp at hx),rfl⟩ ?_;rintro i _ ⟨hi,hz,rfl⟩;refine ae [3,6,7,8,9] ?_;refine aq (fun az aG=>?_) (fun az aG=>?_)
 ·have aa:i<l.length:=(by omega)
  refine ae [3,5,6,7,8] ?_;refine ae [3,5,6,7,8,14] ?_;refine aq (fun aH aU=>?_) (fun aH aU=>?_)
  ·have aS:iy l=l[i]:=aco aa hz u9;refine ae [2] ?_;exact z46
  refine cj [3,6,7,8] ?_;refine⟨(i+1),_,cz,aM,w4,(take_zero aa hz u9),rfl⟩
 have aS:iy l=0:=Pt (by rw[take_of_length_le w4] at hz;exact hz);refine ae [2] ?_;exact tI
theorem acp(a b:ByteArray):VP Tryz.prog G 151 [.v (.string a),.v (.string b)] (.v (.int .i64 (compareBytes a.data.toList b.data.toList))) :=
 VP.QT (P:=Tryz.prog) (G:=G) (f:=151) (vs:=[.string a,.string b]) (v:=.int .i64 (compareBytes a.data.toList b.data.toList)) fun w _ =>
  (Tryz.strings_Compare a b w).mono fun e w' ⟨h1,h2⟩=>⟨h1,h2 ▸ Below.refl _ _⟩
theorem NE(a b:Vl)(ha:a.Ok)(hb:b.Ok):VP Tryz.prog G 124 [.agg (cV a),.agg (cV b)] (.v (.int .i64 (gj a b))):=by
 refine VC.body func124 rfl ntmps124 aO fun X0 w0 aX=>?_;unfold cV;refine bX ?_;refine OD.box (ds:=[_,_,_]) an rfl rfl ot rfl rfl (fun b2=>?_);refine OD.box (ds:=[_,_,_]) an rfl rfl ot rfl rfl (fun b3=>?_);refine aj 22 [2,3] ?_;refine cM [4] ?_;refine cU (Q3 a.k b.k) ?_;refine cU (Q3 a.n b.n) ?_;refine cU (acp a.s b.s) ?_;refine cU (aei (cmpL a b) (by show 3≤100;decide)) ?_;refine bM ?_;exact z51
def mg(a b:Vl):Int:=if dL a≠0 then dL a else dL b
def Kt(a b:Vl):D:=.dz [.v (.int .i64 (if mg a b≠0 then 0 else gj a b)),.v (.int .i64 (mg a b))]
theorem Q4(a b:Vl):VP Tryz.prog G 123 [.agg (cV a),.agg (cV b)] (.v (.int .i64 (mg a b))):=by
 refine VC.body func123 rfl ntmps123 aO fun X0 w0 aX=>?_;unfold cV;refine bX ?_;refine OD.box (ds:=[_,_,_]) an rfl rfl ot rfl rfl (fun b2=>?_);refine OD.box (ds:=[_,_,_]) an rfl rfl ot rfl rfl (fun b3=>?_);refine aj 13 [2,3] ?_;refine cL [3,5] (oP a) ?_;refine ae [3,5,9] ?_;refine aq (fun az aG=>?_) (fun az aG=>?_)
 ·refine ae [4] ?_;refine aJ [] ?_;refine⟨vi ?_,rfl⟩;unfold mg;simp_all
 refine cL [4] (oP b) ?_;refine aJ [] ?_;refine⟨vi ?_,rfl⟩;unfold mg;simp_all
theorem Yg(a b:Vl)(ha:a.Ok)(hb:b.Ok):VP Tryz.prog G 90 [.agg (cV a),.agg (cV b)] (Kt a b):=by
 refine VC.body func90 rfl ntmps90 aO fun X0 w0 aX=>?_;unfold cV Kt;refine bX ?_;refine OD.box (ds:=[_,_,_]) an rfl rfl ot rfl rfl (fun b2=>?_);refine OD.box (ds:=[_,_,_]) an rfl rfl ot rfl rfl (fun b3=>?_);refine aj 16 [2,3] ?_;refine cL [2,3,6] (Q4 a b) ?_;refine ae [2,3,6,11] ?_;refine aq (fun az aG=>?_) (fun az aG=>?_)
 ·refine ae [4,5] ?_;refine aJ [] ?_;first|(simp_all;done)|(refine⟨?_,rfl⟩;simp_all;done)
 refine cL [4,5] (NE a b ha hb) ?_;refine aJ [] ?_;first|(simp_all;done)|(refine⟨?_,rfl⟩;simp_all;done)

end Go.Proofs.YtbcmjoaggammcaaGreatDoor.Cd
namespace Go.Proofs.YtbcmjoaggammcaaGreatDoor.Pc
open List
open Go.Proofs.Tryz
open Go.RowKit V Pk Vl Go.Proofs.YtbcmjoaggammcaaGreatDoor.Nm
variable {i:Nat}
def typesC:List Value:=[.string ⟨#[]⟩,.string ⟨#[66,79,79,76]⟩,.string ⟨#[73,78,84]⟩,.string ⟨#[84,69,88,84]⟩]
structure cu where
 n:ByteArray
 k:Int
variable {l:List cu}
def cC(c:cu):List D:=[.v (.string c.n),.v (.int .i64 c.k)]
theorem kZ(c:cu):(cC c).length=2:=rfl
theorem aej(c:cu):(cC c).all V.one=true:=rfl
def mO(pre:List cu)(c:cu):Int :=
 if cJ c.n≠0 then cJ c.n else if c.k<1∨c.k>3 then 2 else if (pre.any fun d=>d.n.toList==c.n.toList)=true then 9 else 0
def qB:List cu→List cu→Int
 | _,[]=>0
 | pre,c::r=>if mO pre c≠0 then mO pre c else qB (pre++[c]) r
def fw(l:List cu):Int:=if l.length<1∨l.length>6 then 1 else qB [] l
theorem Y7(hi:i<l.length)(h:mO (l.take i) l[i]=0):qB (l.take i) (l.drop i)=qB (l.take (i+1)) (l.drop (i+1)):=by
 rw[drop_eq_getElem_cons hi,take_succ_eq_append_getElem hi];exact if_neg (by simp[h])
theorem HH(hi:i<l.length)(h:mO (l.take i) l[i]≠0):qB (l.take i) (l.drop i)=mO (l.take i) l[i]:=by
 rw[drop_eq_getElem_cons hi];exact if_pos h
theorem aaJ(hi:¬i<l.length):qB (l.take i) (l.drop i)=0:=by
 rw[drop_of_length_le w4];rfl
theorem HF(S:List ag):S.Perm (S++[]):=by rw[append_nil]
variable {G:List (Nat×List Value)}
theorem HN(ls:List cu)(g:Nat)(E:List D)(S:List ag)(p:cu→Bool)(fg:∀args w,(callFunc g args).run Tryz.prog w = .ok (.enter g args) w)(hp:∀x∈ls,VC Tryz.prog G g (.agg (cC x)::E) S (fun r S'=>r = .v (.bool (p x))∧S'=S))(hlen:ls.length≤1000000):VC Tryz.prog G 119 [.list 2 (ls.flatMap cC) ls.length,.eo (.func g) E] S (fun r S'=>r = .v (.int .i64 (dO p ls))∧S'=S):=by
 refine VC.body func119 rfl ntmps119 aO fun X0 w0 aX=>?_;unfold cC at hp;exact U4
theorem XQ(ls:List cu)(g:Nat)(E:List D)(S:List ag)(p:cu→Bool)(fg:∀args w,(callFunc g args).run Tryz.prog w = .ok (.enter g args) w)(hp:∀x∈ls,VC Tryz.prog G g (.agg (cC x)::E) S (fun r S'=>r = .v (.bool (p x))∧S'=S))(hlen:ls.length≤1000000):VC Tryz.prog G 106 [.list 2 (ls.flatMap cC) ls.length,.eo (.func g) E] S (fun r S'=>r = .v (.bool (ls.any p))∧S'=S):=by
 refine VC.body func106 rfl ntmps106 aO fun X0 w0 aX=>?_;refine aC 1 ?_;refine OD.wk (Wk.dN (n:=9) (l':=[(0,_),(1,_)]) (S':=S) rfl mv fb) ?_;refine OD.nil ?_;refine aC 2 ?_;refine OD.call an rfl rfl rfl call119 (HN ls g E S p fg hp hlen) ⟨sN rfl lk,sN rfl lk,trivial⟩ (HF _) ?_;rintro _ S2 ⟨rfl,ig⟩;rw[ig];clear ig;refine aD 2 ?_;refine OD.wk (Wk.dN (n:=9) (l':=[(4,_)]) (S':=S) rfl mv fb) ?_;refine OD.nil ?_;refine aJ S ?_;refine⟨?_,rfl⟩;rw[Pf]
theorem acq(h x:cu)(b:Nat):VC Tryz.prog G 107 [.agg (cC h),.v (.pointer (some ⟨b,0,none⟩))] [⟨b,111,2,cC x⟩] (fun r S=>r = .v (.bool (h.n.toList==x.n.toList))∧S=[⟨b,111,2,cC x⟩]):=by
 refine VC.body func107 rfl ntmps107 aO fun X0 w0 aX=>?_;unfold cC;refine bX ?_;refine OD.box (ds:=[_,_]) an rfl rfl ot rfl rfl (fun b2=>?_);refine aj 9 [1,2] ?_;refine ae [3] ?_;refine aJ [⟨b,111,2,cC x⟩] ?_;exact⟨rfl,rfl⟩
theorem acr(hm:(3,marksC)∈G)(hw:(2,wordsC)∈G)(l:List cu)(hl:l.length≤maxLen)(aR:∀c∈l,c.n.size≤maxLen):VP Tryz.prog G 68 [.list 2 (l.flatMap cC) l.length] (.v (.int .i64 (fw l))):=by
 refine VC.body func68 rfl ntmps68 aO fun X0 w0 aX=>?_;have dr:maxLen=9223372036854775807:=rfl;refine ae [0] ?_;refine aC 4 ?_;refine bS 9 (fun Z O=>?_) (fun Z O=>?_)
 ·refine aZ [0,13] ?_;refine ez ?_;have aS:fw l=1:=if_pos w4;exact wY
 refine aZ [0,13] ?_;refine aq (fun az aG=>?_) (fun az aG=>?_)
 ·have aS:fw l=1:=if_pos w4;exact wY
 have h16:¬(l.length<1∨l.length>6):=(by omega)
 have E:fw l=qB (l.take 0) (l.drop 0):=if_neg h16;refine ae [0,14,15,16] ?_;refine eI [0,14,15] (fun aV _ (i:Nat) aK=>(i≤l.length)∧(fw l=qB (l.take i) (l.drop i))∧aK=(⟨41,(16,.v (.int .i64 (i:Nat)))::aV,[]⟩:St)) (fun (i:Nat)=>l.length-i) 0 ⟨(Nat.zero_le _),E,rfl⟩ ?_;rintro i _ ⟨hi,hinv,rfl⟩;refine ae [0,14,15,16,17] ?_;refine aq (fun aH aU=>?_) (fun aH aU=>?_)
 ·have aa:i<l.length:=(by omega)
  refine aC 3 ?_;refine OD.alloc (ds:=[_,_]) an rfl rfl zeroValue111 rfl (fun b4=>?_);refine aD 1 ?_;refine aN 0 [_,_] sizeOf111 ?_;refine aj 41 [0,3,4,14,15,16] ?_;refine cL [0,3,4,5,14,15,16] (sO hm hw l[i].n (aR _ (getElem_mem aa))) ?_;refine ae [0,3,4,5,14,15,16,25] ?_;refine aq (fun aY bz=>?_) (fun aY bz=>?_)
  ·have hne:cJ l[i].n≠0:=(by simpa using aY)
   have hf:mO (l.take i) l[i]=cJ l[i].n:=if_pos hne;have aS:fw l=cJ l[i].n:=(by rw[hinv,HH aa (by rw[hf];exact hne),hf])
   refine ae [2] ?_;exact z46
  have gq:¬cJ l[i].n≠0:=(by simpa using aY)
  refine aC 4 ?_;refine bS 30 (fun U I=>?_) (fun U I=>?_)
  ·refine aZ [0,3,4,14,15,16,34] ?_;refine ez ?_;exact z130
  refine aZ [0,3,4,14,15,16,34] ?_;refine aq (fun bF bY=>?_) (fun bF bY=>?_)
  ·exact z130
  have hk:¬(l[i].k<1∨l[i].k>3):=(by omega)
  refine aC 2 ?_;refine bJ (ek (l:=0) rfl ot trivial ⟨_,ot⟩ (by first|exact n9 kZ (fun h=>by cases h) runUnderlying38 sizeOf111 w4|exact oe (fun h=>by cases h) runUnderlying38 sizeOf111 w4|exact nE (fun _=>rfl) (fun h=>by cases h) runUnderlying38 sizeOf111 w4 w4)) ?_;refine bJ (oO (ds:=[_]) rfl ⟨ot,trivial⟩) ?_;refine OD.call an rfl rfl rfl call106 (XQ (l.take i) 107 [.v (.pointer (some ⟨b4,0,none⟩))] _ (fun d=>d.n.toList==l[i].n.toList) call107 (fun h _=>acq h l[i] b4) ox) ⟨sN rfl lk,sN rfl lk,trivial⟩ (jU (k:=0) rfl) ?_;rintro _ S2 ⟨rfl,ig⟩;rw[ig];clear ig;refine aj 41 [0,14,15,16,39] ?_;refine aq (fun cx c8=>?_) (fun cx c8=>?_)
  ·have hf:mO (l.take i) l[i]=9:=(by unfold mO;rw[if_neg gq,if_neg hk,if_pos cx])
   have aS:fw l=9:=(by rw[hinv,HH aa (by rw[hf];decide),hf])
   refine ae [2] ?_;exact z46
  have hf:mO (l.take i) l[i]=0:=(by unfold mO;rw[if_neg gq,if_neg hk,if_neg (by rw[cx];simp)])
  have iX:=hinv.trans (Y7 aa hf);refine cj [0,14,15,16] ?_;refine⟨(i+1),_,cz,aM,w4,iX,rfl⟩
 have aS:fw l=0:=(by rw[hinv];exact aaJ w4)
 refine ae [2] ?_;exact tI

end Go.Proofs.YtbcmjoaggammcaaGreatDoor.Pc
namespace Go.Proofs.YtbcmjoaggammcaaGreatDoor.Pa
open List
open Go.Proofs.Tryz
open Go.RowKit V Pk Vl Go.Proofs.YtbcmjoaggammcaaGreatDoor.Nm Pc
structure cN where
 kind:Int
 table:ByteArray
 av:List cu
 row:List Vl
 names:List ByteArray
 count:Bool
 ah:List aW
 order:ByteArray
 down:Bool
 gJ:Int
 set:ByteArray
 bH:List aW
def iz:cN:=⟨0,⟨#[]⟩,[],[],[],false,[],⟨#[]⟩,false,-1,⟨#[]⟩,[]⟩

end Go.Proofs.YtbcmjoaggammcaaGreatDoor.Pa
namespace Go.Proofs.YtbcmjoaggammcaaGreatDoor.Pa







open List
open Go.Proofs.Tryz
open Go.RowKit V Pk Vl Go.Proofs.YtbcmjoaggammcaaGreatDoor.Nm Pc
variable {G:List (Nat×List Value)}
variable {α:Type}
theorem DP{ls:List (List α)}{j:Nat}(h:j<ls.length):(ls.take (j+1)).flatten=(ls.take j).flatten++ls[j]:=by
 rw[take_succ_eq_append_getElem h,flatten_append,flatten_cons,flatten_nil,append_nil]
theorem Nd{ls:List (List α)}{j:Nat}(h:j<ls.length):((ls.take (j+1)).flatten).length=((ls.take j).flatten).length+ls[j].length:=by rw[DP h,length_append]
theorem Nj(ls:List (List α))(j:Nat):((ls.take j).flatten).length≤ls.flatten.length:=by
 conv=>rhs;rw[←take_append_drop j ls,flatten_append,length_append]
 omega
theorem Y8{e sz b cap:Nat}(h:cap≤maxLen):bu e sz [] 0 (some ⟨b,0,none⟩) cap [⟨b,e,cap*sz,[]⟩]:=.inr ⟨b,rfl,Nat.zero_le _,h,rfl⟩

end Go.Proofs.YtbcmjoaggammcaaGreatDoor.Pa
namespace Go.Proofs.YtbcmjoaggammcaaGreatDoor.Pa



open List
open Go.Proofs.Tryz
open Go.RowKit V Pk Vl Go.Proofs.YtbcmjoaggammcaaGreatDoor.Nm Pc
variable {G:List (Nat×List Value)}
variable {α:Type} {i n:Nat} {ts h:List (List Tk)} {o:aW}
def aek:List ByteArray:=[⟨#[]⟩,⟨#[66,79,79,76]⟩,⟨#[73,78,84]⟩,⟨#[84,69,88,84]⟩]

theorem lf(t:Tk):(cT t).all V.one=true:=rfl
def bG(s:ByteArray):Tk:=⟨1,s,0⟩
def dQ(s:ByteArray):Tk:=⟨4,s,0⟩
def cK(l:List Tk):List D:=[.list 3 (l.flatMap cT) l.length]
theorem fW(l:List Tk):(cK l).length=1:=rfl
theorem oW(l:List Tk):(cK l).all V.one=true:=rfl
theorem sJ{β:Type}(f:α→β){l:List α}(hi:i<l.length):(l.take i).map f++[f l[i]]=(l.take (i+1)).map f:=by rw[take_succ_eq_append_getElem hi,map_append];rfl
theorem Iy{β:Type}(f:α→β){l:List α}(hi:l.length≤i):(l.take i).map f=l.map f:=by rw[take_of_length_le hi]
theorem mG(s:ByteArray):VP Tryz.prog G 79 [.v (.string s)] (.agg (cT (dQ s))):=by
 refine VC.body func79 rfl ntmps79 aO fun X0 w0 aX=>?_;exact z127
theorem pP(s:ByteArray):VP Tryz.prog G 111 [.v (.string s)] (.agg (cT (bG s))):=by
 refine VC.body func111 rfl ntmps111 aO fun X0 w0 aX=>?_;exact z127
theorem Ai:(Tryz.prog.info? 149).map (fun i=>(i.zero,i.size,i.bytes))=some (some (.agg #[.int .i64 0,.string ⟨#[]⟩,.int .i64 0]),3,32):=by kernel_rfl
theorem yp(l:List ByteArray)(hl:l.length≤10):VC Tryz.prog G 74 [.list 1 (l.flatMap cS) l.length] [] (fZ cT 149 3 (l.map bG)):=by
 refine VC.body func74 rfl ntmps74 aO fun X0 w0 aX=>?_;have dr:maxLen=9223372036854775807:=rfl;refine ae [0] ?_;refine bX ?_;refine aZ [0,3] ?_;refine ae [3,6,7,8] ?_;refine CD.block ?_;refine mB (fun (E:Nat×Option Addr×Nat×List ag) aK=>match E with|(i,O,U,Sa)=>(i≤l.length)∧(bu 149 3 (((l.take i).map bG).flatMap cT) ((l.take i).map bG).length O U Sa)∧aK=(⟨19,[(3,.v (.slice O ((l.take i).map bG).length U)),(6,.list 1 (l.flatMap cS) l.length),(7,.v (.int .i64 (l.length:Nat))),(8,.v (.int .i64 (i:Nat)))],(Sa)⟩:St)) (fun (E:Nat×Option Addr×Nat×List ag)=>match E with|(i,O,U,Sa)=>l.length-i) (0,none,0,[]) ⟨(Nat.zero_le _),(bu.cast iA lu),rfl⟩ (aM (h:=by repeat (first|exact trivial|refine⟨(by (repeat (first|exact fm|(apply fK;focus (first|rfl|(simp;done)|(congr 2;omega)|(apply eC;exact sJ bG aa)|(apply eC;simp;done)))|(apply fu;focus rfl)));done),?_⟩))) ?_;rintro⟨i,O,U,Sa⟩ _ ⟨hi,nT,rfl⟩;refine ae [3,6,7,8,9] ?_;refine aq (fun az aG=>?_) (fun az aG=>?_)
 ·have aa:i<l.length:=(by omega)
  refine ae [3,5,6,7,8] ?_;refine dw 2 ?_;refine dJ call111 (pP l[i]) ?_;refine ei (bZ 0 [_]) [.int .i64 0,.string ⟨#[]⟩,.int .i64 0] [_,_,_] zeroValue149 runUnderlying114 sizeOf149 (fun b15=>?_);refine fG 0 15 3 1 ?_;refine OD.en (ls:=((l.take i).map bG)) (new:=[bG l[i]]) (Sq:=Sa) iq lf an rfl rfl underlying114 Ai rfl w7 ot nT (dB (A:=[])) ot bw (by have dr:maxLen=9223372036854775807:=rfl;(try simp only[length_append,length_cons,length_nil,length_map,length_take]);omega) (by have dr:maxLen=9223372036854775807:=rfl;(try simp only[length_append,length_cons,length_nil,length_map,length_take]);omega) (fun Z I ahd ahe=>?_);refine OD.perm (dY (S1:=[⟨Z,149,I*3,flatMap cT (((l.take i).map bG)++[bG l[i]])⟩]) (A:=[])) ?_;refine aj 19 [3,6,7,8] ?_;refine cj [3,6,7,8] ?_;refine⟨((i+1),(some ⟨Z,0,none⟩),I,[⟨Z,149,I*3,flatMap cT (((l.take i).map bG)++[bG l[i]])⟩]),_,cz,(aM (h:=by repeat (first|exact trivial|refine⟨(by (repeat (first|exact fm|(apply fK;focus (first|rfl|(simp;done)|(congr 2;omega)|(apply eC;exact sJ bG aa)|(apply eC;simp;done)))|(apply fu;focus rfl)));done),?_⟩))),w4,(bu.cast (bD ahd ahe) (by exact sJ bG aa)),rfl⟩
 have fa:=Iy bG (show l.length≤i by omega);refine ae [2] ?_;refine aJ _ ?_;exact fZ.cast (fZ.mk nT) fa
theorem rB(l:List ByteArray)(hl:l.length≤10):VP Tryz.prog G 74 [.list 1 (l.flatMap cS) l.length] (.list 3 ((l.map bG).flatMap cT) (l.map bG).length):=VC.given iq (yp l hl)
def kx(ts:List (List Tk)):Nat→List Tk
 | 0=>[dQ ⟨#[40]⟩]
 | i+1=>kx ts i++(if i>0 then [dQ ⟨#[44]⟩] else [])++ts.getD i []
def lP(ts:List (List Tk)):List Tk:=kx ts ts.length++[dQ ⟨#[41]⟩]
theorem Ek{ts:List (List Tk)}(h:∀x∈ts,x.length≤10):∀i,(kx ts i).length≤1+11*i
 | 0=>Nat.le_refl _
 | i+1=>by
  have E:=Ek h i;have h2:(ts.getD i []).length≤10:=by
   rw[getD_eq_getElem?_getD];cases hx:ts[i]? with
   | none=>exact Nat.zero_le _
   | some x=>exact h x (mem_of_getElem? hx)
  have h3:(if i>0 then [dQ ⟨#[44]⟩] else []).length≤1:=(by split<;>simp)
  unfold kx;rw[length_append,length_append];omega
theorem HG(hi:i<ts.length)(h:0<i):(kx ts i++[dQ ⟨#[44]⟩])++ts[i]=kx ts (i+1):=by
 rw[kx,if_pos h,getD_eq_getElem?_getD,getElem?_eq_getElem hi];rfl
theorem G7(hi:i<ts.length)(h:¬0<i):kx ts i++ts[i]=kx ts (i+1):=by
 rw[kx,if_neg h,append_nil,getD_eq_getElem?_getD,getElem?_eq_getElem hi];rfl
theorem Q5(ts:List (List Tk))(hl:ts.length≤10)(K0:∀x∈ts,x.length≤10):VP Tryz.prog G 75 [.list 1 (ts.flatMap cK) ts.length] (.list 3 ((lP ts).flatMap cT) (lP ts).length):=by
 refine VC.body func75 rfl ntmps75 aO fun X0 w0 aX=>?_;have dr:maxLen=9223372036854775807:=rfl;refine ae [0] ?_;refine bX ?_;refine dJ call79 (mG ⟨#[40]⟩) ?_;refine ei (bZ 0 [_]) [.int .i64 0,.string ⟨#[]⟩,.int .i64 0] [_,_,_] zeroValue149 runUnderlying114 sizeOf149 (fun b7=>?_);refine OD.perm (dY (S1:=[⟨b7,149,1*3,flatMap cT ([dQ ⟨#[40]⟩])⟩]) (A:=[])) ?_;refine aj 29 [0,3] ?_;refine ae [3,8,9,10] ?_;refine CD.block ?_;refine mB (fun (E:Nat×Option Addr×Nat×List ag) aK=>match E with|(i,I,O,Sa)=>(i≤ts.length)∧(bu 149 3 ((kx ts i).flatMap cT) (kx ts i).length I O Sa)∧aK=(⟨29,[(3,.v (.slice I (kx ts i).length O)),(8,.list 1 (ts.flatMap cK) ts.length),(9,.v (.int .i64 (ts.length:Nat))),(10,.v (.int .i64 (i:Nat)))],(Sa)⟩:St)) (fun (E:Nat×Option Addr×Nat×List ag)=>match E with|(i,I,O,Sa)=>ts.length-i) (0,(some ⟨b7,0,none⟩),1,[⟨b7,149,1*3,flatMap cT ([dQ ⟨#[40]⟩])⟩]) ⟨(Nat.zero_le _),(bu.cast (bD (g:=cT) (sz:=3) (e:=149) (ls:=[dQ ⟨#[40]⟩]) (Nat.le_refl _) (show 1≤maxLen by decide)) (by rfl)),rfl⟩ (aM (h:=by repeat (first|exact trivial|refine⟨(by (repeat (first|exact fm|(apply fK;focus (first|rfl|(simp;done)|(congr 2;omega)|(apply eC;first|exact HG aa w4|exact G7 aa w4)|(apply eC;rfl)|(apply eC;simp;done)))|(apply fu;focus rfl)));done),?_⟩))) ?_;rintro⟨i,I,O,Sa⟩ _ ⟨hi,nT,rfl⟩;refine ae [3,8,9,10,11] ?_
 refine aq (fun az aG=>?_) (fun az aG=>?_)
 ·have aa:i<ts.length:=(by omega)
  refine ae [3,4,5,8,9,10] ?_;refine ae [3,5,8,9,10,16] ?_;refine aq (fun aH aU=>?_) (fun aH aU=>?_)
  ·refine dw 1 ?_;refine dJ call79 (mG ⟨#[44]⟩) ?_;refine ei (bZ 0 [_]) [.int .i64 0,.string ⟨#[]⟩,.int .i64 0] [_,_,_] zeroValue149 runUnderlying114 sizeOf149 (fun b19=>?_);refine fG 0 19 3 1 ?_;refine OD.en (ls:=(kx ts i)) (new:=[dQ ⟨#[44]⟩]) (Sq:=Sa) iq lf an rfl rfl underlying114 Ai rfl w7 ot nT (dB (A:=[])) ot bw w8 w8 (fun Mm U ahf ahg=>?_);refine OD.perm (dY (S1:=[⟨Mm,149,U*3,flatMap cT ((kx ts i)++[dQ ⟨#[44]⟩])⟩]) (A:=[])) ?_;refine aj 29 [3,5,8,9,10] ?_;refine dw 2 ?_;refine OD.oN (ls:=((kx ts i)++[dQ ⟨#[44]⟩])) (new:=ts[i]) (Sq:=[⟨Mm,149,U*3,flatMap cT ((kx ts i)++[dQ ⟨#[44]⟩])⟩]) iq lf an rfl rfl underlying114 Ai rfl w7 runUnderlying114 sizeOf149 ot (bD ahf ahg) (dB (A:=[])) ot w8 w8 (fun TK TL Vn TM=>?_);exact Vm
  refine dw 2 ?_;refine OD.oN (ls:=(kx ts i)) (new:=ts[i]) (Sq:=Sa) iq lf an rfl rfl underlying114 Ai rfl w7 runUnderlying114 sizeOf149 ot nT (dB (A:=[])) ot w8 w8 (fun TK TL Vn TM=>?_);exact Vm
 have tw:i=ts.length:=(by omega)
 have nO:kx ts i++[dQ ⟨#[41]⟩]=lP ts:=(by unfold lP;rw[←tw])
 refine aC 1 ?_;refine dJ call79 (mG ⟨#[41]⟩) ?_;refine ei (bZ 0 [_]) [.int .i64 0,.string ⟨#[]⟩,.int .i64 0] [_,_,_] zeroValue149 runUnderlying114 sizeOf149 (fun b27=>?_);refine fG 0 27 3 1 ?_;refine OD.en (ls:=(kx ts i)) (new:=[dQ ⟨#[41]⟩]) (Sq:=Sa) iq lf an rfl rfl underlying114 Ai rfl w7 ot nT (dB (A:=[])) ot bw w8 w8 (fun Mi Z ahh ahi=>?_);refine OD.perm (dY (S1:=[⟨Mi,149,Z*3,flatMap cT ((kx ts i)++[dQ ⟨#[41]⟩])⟩]) (A:=[])) ?_;refine aj 29 [2] ?_;refine CD.gd (t:=2) (Sq:=[⟨Mi,149,Z*3,flatMap cT ((kx ts i)++[dQ ⟨#[41]⟩])⟩]) lk (bD ahh ahi) (cl iq _) (dB (A:=[])) ?_;refine aJ [] ?_;rw[nO];exact⟨rfl,rfl⟩
def iY(v:Vl):List Tk :=
 if v.k=0 then [bG ⟨#[78,85,76,76]⟩]
 else if v.k=1 then [bG (if v.n=0 then ⟨#[70,65,76,83,69]⟩ else ⟨#[84,82,85,69]⟩)]
 else if v.k=3 then [⟨3,v.s,0⟩]
 else if v.n<0 then [dQ ⟨#[45]⟩,⟨2,⟨#[]⟩,-v.n⟩] else [⟨2,⟨#[]⟩,v.n⟩]
def mC(v:Vl):Prop:=(v.k=1→v.n=0∨v.n=1)∧-9223372036854775807≤v.n∧v.n≤9223372036854775807
theorem N9(v:Vl):0<(iY v).length∧(iY v).length≤2:=by
 unfold iY;repeat' split
 all_goals exact⟨by simp,by simp⟩
def E2:List ByteArray:=[⟨#[]⟩,⟨#[]⟩,⟨#[]⟩,⟨#[]⟩,⟨#[]⟩,⟨#[]⟩,⟨#[61]⟩,⟨#[60]⟩,⟨#[43]⟩,⟨#[45]⟩,⟨#[42]⟩]
def yT(k:Int):Tk:=if k=3 then bG ⟨#[65,78,68]⟩ else if k=4 then bG ⟨#[79,82]⟩ else dQ (E2.getD k.toNat ⟨#[]⟩)
theorem afz{j:Nat}(h:j<11):(E2.map fun s=>D.v (.string s))[j*1]?=some (.v (.string (E2[j]'h))):=by
 rw[Nat.mul_one,getElem?_map,getElem?_eq_getElem h];rfl
theorem Nk(v:Vl)(h:mC v):VP Tryz.prog G 76 [.agg (cV v)] (.list 3 ((iY v).flatMap cT) (iY v).length):=by
 refine VC.body func76 rfl ntmps76 aO fun X0 w0 aX=>?_;obtain⟨h1,h2,h3⟩:=h;unfold cV;refine bX ?_;refine OD.box (ds:=[_,_,_]) an rfl rfl ot rfl rfl (fun b1=>?_);refine aj 42 [1] ?_;refine ae [1,3] ?_;refine aq (fun az aG=>?_) (fun az aG=>?_)
 ·refine cL [2] (rB [⟨#[78,85,76,76]⟩] zD) ?_;exact F3
 refine ae [1,9] ?_;refine aq (fun aH aU=>?_) (fun aH aU=>?_)
 ·have dI:v.k=1:=(by simpa using aH)
  obtain⟨j,hj,I⟩:∃j:Nat,v.n=(j:Int)∧j<2:=(by (rcases h1 dI with h|h;exact⟨0,h,by decide⟩;exact⟨1,h,by decide⟩))
  rw[hj];refine cM [2] ?_;refine L8 (g:=cS) ([⟨#[70,65,76,83,69]⟩,⟨#[84,82,85,69]⟩]) ?_;refine aP 3 ?_ (h:=by exact(cH (mk:=Op.load 9) rfl ot (by exact pQ (i:=j) iV isAgg9 (by show j<2;omega) rfl)));refine cU (rB [([⟨#[70,65,76,83,69]⟩,⟨#[84,82,85,69]⟩]:List ByteArray)[j]'(by show j<2;omega)] zD) ?_;refine bM ?_;exact F3
 refine ae [1,20] ?_;refine aq (fun aY bz=>?_) (fun aY bz=>?_)
 ·refine aC 3 ?_;refine ei (bZ 0 [_]) [.int .i64 0,.string ⟨#[]⟩,.int .i64 0] [_,_,_] zeroValue149 runUnderlying114 sizeOf149 (fun E=>?_);refine OD.perm (dY (S1:=[⟨E,149,1*3,flatMap cT ([(⟨3,v.s,0⟩:Tk)])⟩]) (A:=[_])) ?_;refine aj 42 [2] ?_;refine CD.gd (t:=2) (Sq:=[⟨E,149,1*3,flatMap cT ([(⟨3,v.s,0⟩:Tk)])⟩]) lk (bD (g:=cT) (sz:=3) (e:=149) (ls:=[(⟨3,v.s,0⟩:Tk)]) (Nat.le_refl _) (show 1≤maxLen by decide)) (cl iq _) (dB (A:=[_])) ?_;exact F3
 refine ae [1,28] ?_;refine aq (fun bF bY=>?_) (fun bF bY=>?_)
 ·refine cM [2] ?_;refine cU (mG ⟨#[45]⟩) ?_;refine aP 2 ?_ (h:=by exact(D4 rfl ot (I6 (wrap_i64 w4 w4))));refine bM ?_;exact F3
 refine aC 3 ?_;refine ei (bZ 0 [_]) [.int .i64 0,.string ⟨#[]⟩,.int .i64 0] [_,_,_] zeroValue149 runUnderlying114 sizeOf149 (fun vg=>?_);refine OD.perm (dY (S1:=[⟨vg,149,1*3,flatMap cT ([(⟨2,⟨#[]⟩,v.n⟩:Tk)])⟩]) (A:=[_])) ?_;refine aj 42 [2] ?_;refine CD.gd (t:=2) (Sq:=[⟨vg,149,1*3,flatMap cT ([(⟨2,⟨#[]⟩,v.n⟩:Tk)])⟩]) lk (bD (g:=cT) (sz:=3) (e:=149) (ls:=[(⟨2,⟨#[]⟩,v.n⟩:Tk)]) (Nat.le_refl _) (show 1≤maxLen by decide)) (cl iq _) (dB (A:=[_])) ?_;refine aJ [] ?_;refine⟨?_,rfl⟩;unfold iY;first|(rw[if_pos aG];first|done|rfl)|(rw[if_neg aG,if_pos dI,hj];rcases j with _|_|j<;>first|rfl|omega)|(rw[if_neg aG,if_neg aU,if_pos bz];first|done|rfl)|(rw[if_neg aG,if_neg aU,if_neg bz,if_pos w4,show -v.n=0-v.n by omega];first|done|rfl)|(rw[if_neg aG,if_neg aU,if_neg bz,if_neg w4];first|done|rfl)
theorem Yh(k:Int)(h:k=3∨k=4∨6≤k∧k≤10):VP Tryz.prog G 113 [.v (.int .i64 k)] (.agg (cT (yT k))):=by
 refine VC.body func113 rfl ntmps113 aO fun X0 w0 aX=>?_;refine bX ?_;refine OD.alloc (ds:=[_,_,_]) an rfl rfl zeroValue149 rfl (fun b2=>?_);refine aj 14 [0,2] ?_;refine ae [0,2,3] ?_;refine ae [0,2,3,4] ?_;refine aq (fun az aG=>?_) (fun az aG=>?_)
 ·refine bX ?_;refine dJ call111 (pP ⟨#[65,78,68]⟩) ?_;exact Vs
 refine ae [0,2,7] ?_;refine aq (fun aH aU=>?_) (fun aH aU=>?_)
 ·refine bX ?_;refine dJ call111 (pP ⟨#[79,82]⟩) ?_;exact Vs
 have lD:¬k=3:=(by simpa using az)
 have wZ:¬k=4:=(by simpa using aH)
 obtain⟨j,rfl⟩:∃j:Nat,k=(j:Int):=⟨k.toNat,by omega⟩
 have hj:j<11:=(by omega)
 refine bX ?_;refine bJ (Dy (pl:=[(6,_),(7,_),(8,_),(9,_),(10,_)]) (ds:=[_,_,_,_,_,_,_,_,_,_,_]) rfl zeroValue216 runUnderlying216 sizeOf9 ⟨rfl,bC,rfl,bC,rfl,bC,rfl,bC,rfl,bC,trivial⟩ rfl rfl) ?_;refine aD 1 ?_;refine bJ (X5 (j:=j) rfl ot ot runUnderlying216 sizeOf9 isAgg9 rfl hj (afz hj)) ?_;refine dJ call79 (mG (E2[j]'hj)) ?_;refine aN 0 [_,_,_] sizeOf149 ?_;refine aj 14 [2] ?_;refine aJ [] ?_;refine⟨?_,rfl⟩;unfold yT;first|(rw[if_neg lD,if_neg wZ,show((j:Nat):Int).toNat=j from rfl,getD_eq_getElem?_getD,getElem?_eq_getElem hj];rfl)|(rw[if_pos wR];rfl)|(rw[if_neg wR,if_pos u9];rfl)

def CB(q:List Tk):List D:=[.list 3 (q.flatMap cT) q.length]
theorem Nq:(Tryz.prog.info? 149).map (fun i=>(i.zero,i.size,i.bytes))=some (some (.agg #[.int .i64 0,.string ⟨#[]⟩,.int .i64 0]),3,32):=by kernel_rfl
theorem Y9(n:Nat)(h0:0<n)(hn:n≤100000):VC Tryz.prog G 112 [.v (.slice none 0 0),.v (.int .i64 (n:Nat))] [] (fun r S=>∃b cap,cap≤maxLen∧r = .v (.slice (some ⟨b,0,none⟩) 0 cap)∧S=[⟨b,149,cap*3,[]⟩]):=by
 refine VC.body func112 rfl ntmps112 aO fun X0 w0 aX=>?_;refine ae [0,1] ?_;refine ae [0,1,6] ?_;refine aq (fun az aG=>?_) (fun az aG=>?_)
 ·exact absurd az tF
 refine cM [0,1] ?_;refine aP 2 ?_ (h:=by exact(DM rfl rfl ot runUnderlying114));refine aP 1 ?_ (h:=by exact(cH (mk:=fun y=>.call {callee:=.builtin .len,args:=#[y],argTypes:=#[114]}) rfl ot (QN rfl runUnderlying114)));refine bM ?_;refine ae [0,1,16] ?_;refine aq (fun aH aU=>?_) (fun aH aU=>?_)
 ·refine dw 2 ?_;refine bJ (DM rfl rfl ot runUnderlying114) ?_;refine bJ (Dw rfl ot rfl ⟨_,_,ot,rfl⟩ runUnderlying114 sizeOf149) ?_;refine aD 1 ?_;refine OD.aaD (m:=n) (sz:=3) an rfl rfl underlying114 underlying3 Nq rfl w7 ot (Eq.trans ot (congrArg (fun z=>D.v (.int .i64 z)) (show((n:Nat):Int)-(0-0)=((n:Nat):Int) by omega))) h0 Fg w4 (fun b cap h1 h2=>?_);refine aD 1 ?_;refine bJ (cH (mk:=fun y=>.call {callee:=.builtin .len,args:=#[y],argTypes:=#[114]}) rfl ot (QN rfl runUnderlying114)) ?_;refine bJ (ek (l:=0) (h:=0) rfl ot trivial ⟨_,ot⟩ (by first|exact oe (fun h=>by cases h) runUnderlying114 sizeOf149 w4|exact nE (fun _=>rfl) (fun h=>by cases h) runUnderlying114 sizeOf149 w4 w4)) ?_;refine aj 27 [0] ?_;refine ae [4] ?_;refine aJ [⟨b,149,cap*3,[]⟩] ?_;exact⟨b,cap,h2,rfl,rfl⟩
 exact absurd aH (by simp at aH;omega)
theorem XR(ls:List (List Tk))(Wn:ls.length≤1000)(h0:0<ls.flatten.length)(hn:ls.flatten.length≤100000):VC Tryz.prog G 78 [.list 1 (ls.flatMap CB) ls.length] [] (fun r S=>∃ad cap,r = .v (.slice ad ls.flatten.length cap)∧bu 149 3 (ls.flatten.flatMap cT) ls.flatten.length ad cap S):=by
 refine VC.body func78 rfl ntmps78 aO fun X0 w0 aX=>?_;refine ae [0] ?_;refine ae [0,3] ?_;refine ae [0,3,9,10,11] ?_;refine CD.block ?_;refine mB (fun (j:Nat) aK=>(j≤ls.length)∧aK=(⟨36,[(0,.list 1 (ls.flatMap CB) ls.length),(3,.v (.int .i64 ((((ls.take j).flatten).length:Nat):Int))),(9,.list 1 (ls.flatMap CB) ls.length),(10,.v (.int .i64 (ls.length:Nat))),(11,.v (.int .i64 (j:Nat)))],[]⟩:St)) (fun (j:Nat)=>ls.length-j) 0 ⟨(Nat.zero_le _),rfl⟩ (aM (h:=by repeat (first|exact trivial|refine⟨(by (repeat (first|exact fm|(apply fK;focus (first|rfl|(congr 2;omega)|(simp;done)))|(apply fu;focus rfl)));done),?_⟩))) ?_;rintro j _ ⟨hj,rfl⟩;refine ae [0,3,9,10,11,12] ?_;refine aq (fun az aG=>?_) (fun az aG=>?_)
 ·have aa:j<ls.length:=(by simp at az;omega)
  have O:=Nd aa;have hle:=Nj ls (j+1);refine ae [0,3,5,9,10,11] ?_;refine cM [0,3,9,10,11] ?_;refine aP 3 ?_ (h:=by exact(cW (r:=.int .i64 ((((ls.take (j+1)).flatten).length:Nat):Int)) rfl ot ot (jW (by rw[show((((ls.take j).flatten).length:Nat):Int)+(ls[j].length:Nat)=((((ls.take (j+1)).flatten).length:Nat):Int) by omega];exact wrap_i64 w4 w4))));refine bM ?_;refine ae [0,3,9,10,11,20] ?_;refine aq (fun aH aU=>?_) (fun aH aU=>?_)
  ·exact absurd aH (by simp at aH;omega)
  refine cj [0,3,9,10,11] ?_;refine⟨(j+1),_,cz,(aM (h:=by repeat (first|exact trivial|refine⟨(by (repeat (first|exact fm|(apply fK;focus (first|rfl|(congr 2;omega)|(simp;done)))|(apply fu;focus rfl)));done),?_⟩))),w4,rfl⟩
 obtain rfl:j=ls.length:=(by simp at az;omega)
 rw[take_length];refine aC 1 ?_;refine OD.call an rfl rfl rfl call112 (Y9 ls.flatten.length h0 hn) ⟨bC,ot,trivial⟩ (Perm.refl _) ?_;rintro _ _ ⟨b,cp,wV,rfl,rfl⟩;refine OD.perm (Perm.refl _) ?_;refine aj 36 [0,6] ?_;refine ae [6,25,26,27] ?_;refine CD.block ?_;refine mB (fun (E:Nat×Option Addr×Nat×List ag) aK=>match E with|(j,dS,dD,Sx)=>(j≤ls.length)∧(bu 149 3 (((ls.take j).flatten).flatMap cT) ((ls.take j).flatten).length dS dD Sx)∧aK=(⟨36,[(6,.v (.slice dS ((ls.take j).flatten).length dD)),(25,.list 1 (ls.flatMap CB) ls.length),(26,.v (.int .i64 (ls.length:Nat))),(27,.v (.int .i64 (j:Nat)))],(Sx)⟩:St)) (fun (E:Nat×Option Addr×Nat×List ag)=>match E with|(j,dS,dD,Sx)=>ls.length-j) (0,(some ⟨b,0,none⟩),cp,[⟨b,149,cp*3,[]⟩]) ⟨(Nat.zero_le _),(bu.cast (Y8 wV) (by rfl)),rfl⟩ (aM (h:=by repeat (first|exact trivial|refine⟨(by (repeat (first|exact fm|(apply fK;focus (first|rfl|(simp;done)|(congr 2;omega)|(apply eC;rw[DP aa])|(apply eC;rfl)|(apply eC;simp;done)))|(apply fu;focus rfl)));done),?_⟩))) ?_;rintro⟨j,dS,dD,Sx⟩ _ ⟨hj,ee,rfl⟩;refine ae [6,25,26,27,28] ?_;refine aq (fun aY bz=>?_) (fun aY bz=>?_)
 ·have aa:j<ls.length:=(by simp at aY;omega)
  have O:=Nd aa;have hle:=Nj ls (j+1);refine ae [6,8,25,26,27] ?_;refine dw 2 ?_;refine OD.oN (ls:=((ls.take j).flatten)) (new:=ls[j]) (Sq:=Sx) iq lf an rfl rfl underlying114 Nq rfl w7 runUnderlying114 sizeOf149 ot ee (dB (A:=[])) ot Fg w4 (fun U Z S33 ahj=>?_);refine OD.perm (dY (A:=[])) ?_;refine aj 36 [6,25,26,27] ?_;refine cj [6,25,26,27] ?_;refine⟨((j+1),U,Z,S33),_,cz,(aM (h:=by repeat (first|exact trivial|refine⟨(by (repeat (first|exact fm|(apply fK;focus (first|rfl|(simp;done)|(congr 2;omega)|(apply eC;rw[DP aa])|(apply eC;rfl)|(apply eC;simp;done)))|(apply fu;focus rfl)));done),?_⟩))),w4,(bu.cast ahj (by rw[DP aa])),rfl⟩
 obtain rfl:j=ls.length:=(by simp at aY;omega)
 refine ae [2] ?_;refine aJ Sx ?_;have I:=ee;rw[take_length] at I;exact⟨dS,dD,by rw[take_length],I⟩
theorem DQ(ls:List (List Tk))(E:ls.length≤1000)(h0:0<ls.flatten.length)(hn:ls.flatten.length≤100000):VP Tryz.prog G 78 [.list 1 (ls.flatMap CB) ls.length] (.list 3 (ls.flatten.flatMap cT) ls.flatten.length):=VC.given iq (XR ls E h0 hn)
def rO(o:aW)(a b:List Tk):List Tk :=
 if o.k=1 then iY o.v else if o.k=2 then [bG o.nm]
 else if o.k=5 then [[dQ ⟨#[40]⟩,bG ⟨#[78,79,84]⟩],a,[dQ ⟨#[41]⟩]].flatten
 else if o.k=11 then [[dQ ⟨#[40]⟩],a,[bG ⟨#[73,83]⟩,bG ⟨#[78,85,76,76]⟩],[dQ ⟨#[41]⟩]].flatten
 else [[dQ ⟨#[40]⟩],a,[yT o.k],b,[dQ ⟨#[41]⟩]].flatten
def eD(h:List (List Tk))(o:aW):Nat:=h.length-(bQ o.k).toNat
def nK(h:List (List Tk))(o:aW):List (List Tk):=h.take (eD h o)++[rO o (h.getD (eD h o) []) (h.getD (eD h o+1) [])]
def qC(l:List aW):List Tk:=(l.foldl nK []).getD 0 []
theorem acs{h:Int}(he:eX h o=0):1≤o.k∧o.k≤11∧iE o.v=0∧bQ o.k≤h:=by
 unfold eX at he;split at he
 ·cases he
 split at he
 ·exact absurd he s5
 split at he
 ·cases he
 split at he
 ·rename_i h4;exact absurd he h4.2
 split at he
 ·cases he
 exact⟨by omega,by omega,by omega,by omega⟩
theorem acu{l:List aW}{h:Int}(hi:i<l.length)(he:fy h (l.drop i)=0):eX h l[i]=0:=by
 rw[drop_eq_getElem_cons hi,fy] at he;split at he
 ·assumption
 exact he
theorem SA{v:Vl}(h:iE v=0)(h1:-9223372036854775808≤v.n)(h2:v.n≤9223372036854775807):mC v:=by
 unfold iE dL at h;split at h
 ·cases h
 have hn:¬(v.k=2∧v.n = -9223372036854775808):=(by assumption)
 repeat' split at h
 all_goals first|(exfalso;omega)|(unfold mC;refine⟨?_,?_,h2⟩<;>omega)
theorem Pu(hp:bQ o.k≤(h.length:Int)):((nK h o).length:Int)=h.length+(1-bQ o.k):=by
 have:=sM o.k;unfold nK eD;rw[length_append,length_take];simp only[length_cons,length_nil];omega
theorem Ae(h:List (List Tk))(n:Nat):h.flatten.length=(h.take n).flatten.length+(h.drop n).flatten.length:=by
 conv=>lhs;rw[←take_append_drop n h,flatten_append,length_append]
theorem uf:(h.getD n []).length≤(h.drop n).flatten.length∧(h.getD n []).length+(h.getD (n+1) []).length≤(h.drop n).flatten.length:=by
 by_cases hn:n<h.length
 ·rw[drop_eq_getElem_cons hn];have e1:h.getD n []=h[n]:=(by rw[getD_eq_getElem?_getD,getElem?_eq_getElem hn];rfl)
  rw[e1,flatten_cons,length_append];refine⟨by omega,?_⟩;by_cases iH:n+1<h.length
  ·rw[drop_eq_getElem_cons iH,flatten_cons,length_append];have e2:h.getD (n+1) []=h[n+1]:=(by rw[getD_eq_getElem?_getD,getElem?_eq_getElem iH];rfl)
   rw[e2];omega
  have e2:h.getD (n+1) []=[]:=(by rw[getD_eq_getElem?_getD,getElem?_eq_none w4];rfl)
  rw[e2];simp only[length_nil];omega
 have e1:h.getD n []=[]:=(by rw[getD_eq_getElem?_getD,getElem?_eq_none w4];rfl)
 have e2:h.getD (n+1) []=[]:=(by rw[getD_eq_getElem?_getD,getElem?_eq_none w4];rfl)
 rw[e1,e2];exact⟨by simp,by simp⟩
theorem Q6(o:aW)(a b:List Tk):(rO o a b).length≤a.length+b.length+5∧0<(rO o a b).length:=by
 have:=N9 o.v;unfold rO;repeat' split
 all_goals first|exact⟨by omega,by omega⟩|(simp only[flatten_cons,flatten_nil,length_append,length_cons,length_nil];exact⟨by omega,by omega⟩)
theorem Oa:(nK h o).flatten.length≤h.flatten.length+5:=by
 have h1:=Ae h (eD h o);have h2:=(uf (h:=h) (n:=eD h o)).2;have h3:=(Q6 o (h.getD (eD h o) []) (h.getD (eD h o+1) [])).1;unfold nK;rw[flatten_append,length_append];simp only[flatten_cons,flatten_nil,append_nil];omega
theorem Za{l:List aW}(hi:i<l.length):(l.take (i+1)).foldl nK []=nK ((l.take i).foldl nK []) l[i]:=by
 rw[take_succ_eq_append_getElem hi,foldl_append];rfl
theorem Es{e sz cap:Nat}{cs:List D}{ad:Option Addr}{S:List ag}(h:bu e sz cs n ad cap S)(hn:0<n):∃b,ad=some ⟨b,0,none⟩∧n≤cap∧cap≤maxLen∧S=[⟨b,e,cap*sz,cs⟩]:=by
 rcases h with ⟨h1,_⟩|h
 ·omega
 exact h
theorem l7{h:List α}{d:α}(hn:n<h.length):h.getD n d=h[n]:=by rw[getD_eq_getElem?_getD,getElem?_eq_getElem hn];rfl
theorem XS:(Tryz.prog.info? 114).map (fun i=>(i.zero,i.size,i.bytes))=some (some (.slice none 0 0),1,24):=by kernel_rfl
theorem NF(l:List aW)(hl:l.length≤40)(he:fy 0 l=0)(hr:∀o∈l,-9223372036854775808≤o.v.n∧o.v.n≤9223372036854775807):VP Tryz.prog G 80 [.list 5 (l.flatMap cO) l.length] (.list 3 ((qC l).flatMap cT) (qC l).length):=by
 refine VC.body func80 rfl ntmps80 aO fun X0 w0 aX=>?_;have dr:maxLen=9223372036854775807:=rfl;refine ae [0] ?_;refine bX ?_;refine aZ [0,3] ?_;refine ae [3,8,9,10] ?_;refine CD.block ?_;refine mB (fun (lS:Nat×List (List Tk)×Option Addr×Nat×List ag) aK=>match lS with|(i,H,zW,jQ,Sh)=>(i≤l.length)∧(H=(l.take i).foldl nK [])∧(fy ((H).length:Int) (l.drop i)=0)∧((H).length≤i)∧((H).flatten.length≤5*i)∧(bu 114 1 ((H).flatMap cK) (H).length zW jQ Sh)∧aK=(⟨90,[(3,.v (.slice zW (H).length jQ)),(8,.list 5 (l.flatMap cO) l.length),(9,.v (.int .i64 (l.length:Nat))),(10,.v (.int .i64 (i:Nat)))],(Sh)⟩:St)) (fun (lS:Nat×List (List Tk)×Option Addr×Nat×List ag)=>match lS with|(i,H,zW,jQ,Sh)=>l.length-i) (0,[],none,0,[]) ⟨(Nat.zero_le _),rfl,he,(Nat.le_refl _),(Nat.le_refl _),(bu.cast iA (by rfl)),rfl⟩ (aM (h:=by repeat (first|exact trivial|refine⟨(by (repeat (first|exact fm|(apply fK;focus (first|rfl|(simp;done)|(congr 2;omega)|(apply eC;rw[hT];rfl)|(apply eC;rfl)|(apply eC;simp;done)))|(apply fu;focus rfl)));done),?_⟩))) ?_;rintro⟨i,H,zW,jQ,Sh⟩ _ ⟨hi,hH,hx,hHi,hHf,nw,rfl⟩;refine ae [3,8,9,10,11] ?_;refine aq (fun az aG=>?_) (fun az aG=>?_)
 ·have aa:i<l.length:=(by simp at az;omega)
  have zV:=acu aa hx;obtain⟨dI,Uk,uL,Gf⟩:=acs zV;have Cz:=sM l[i].k;have Ku:l.length≤40:=hl;have ahk:eD H l[i]≤H.length:=Nat.sub_le _ _;have ahl:=SA uL (hr _ (getElem_mem aa)).1 (hr _ (getElem_mem aa)).2;refine aC 2 ?_;refine OD.alloc (ds:=[_,_,_,_,_]) an rfl rfl zeroValue61 rfl (fun b5=>?_);refine aN 0 [_,_,_,_,_] sizeOf61 ?_;refine aj 90 [3,5,8,9,10] ?_;refine cM [3,5,6,8,9,10] ?_;refine cU (x9 l[i].k) ?_;refine aP 0 ?_ (h:=by exact(cW (r:=.int .i64 (((eD H l[i]):Nat):Int)) rfl ot ot (fU (by rw[show((H.length:Nat):Int)-bQ l[i].k=(((eD H l[i]):Nat):Int) by unfold eD;omega];exact wrap_i64 w4 w4))));refine bM ?_;refine ae [3,5,6,8,9,10] ?_;refine jz [6,8,9,10] (fun aV _ aK=>∃(Tx:List Tk),∃(ad:Option Addr),∃(cp:Nat),∃(Sx:List ag),(Tx=rO l[i] (H.getD (eD H l[i]) []) (H.getD (eD H l[i]+1) []))∧(bu 114 1 (H.flatMap cK) H.length ad cp Sx)∧aK=(⟨90,(3,.v (.slice ad H.length cp))::(7,.list 3 (Tx.flatMap cT) Tx.length)::aV,Sx⟩:St)) ?_ ?_
  ·refine ae [3,5,6,8,9,10,21] ?_;refine ae [3,5,6,8,9,10,21,41] ?_;refine aq (fun aH aU=>?_) (fun aH aU=>?_)
   ·refine ie [3,6,7,8,9,10] ?_;refine cU (Nk l[i].v ahl) ?_;refine bM ?_;refine⟨_,aM,iY l[i].v,zW,jQ,Sh,(by unfold rO;rw[if_pos aU]),nw,rfl⟩
   refine ae [3,5,6,8,9,10,21,46] ?_;refine aq (fun aY bz=>?_) (fun aY bz=>?_)
   ·refine ie [3,6,7,8,9,10] ?_;refine cU (rB [l[i].nm] zD) ?_;refine bM ?_;refine⟨_,aM,[bG l[i].nm],zW,jQ,Sh,(by unfold rO;rw[if_neg aU,if_pos bz]),nw,rfl⟩
   refine ae [3,5,6,8,9,10,21,52] ?_;refine aq (fun bF bY=>?_) (fun bF bY=>?_)
   ·have CC:l[i].k=5:=(by simpa using bF)
    have hp1:bQ l[i].k=1:=(by rw[CC];decide)
    have hg1:=(uf (h:=H) (n:=eD H l[i])).1;have hg2:=(uf (h:=H) (n:=eD H l[i])).2;have hg3:=Ae H (eD H l[i]);have U:0<H.length:=(by omega)
    obtain⟨bh,E,I,O,Z⟩:=Es nw U;subst E Z;have gq:eD H l[i]<H.length:=(by unfold eD;omega)
    rw[l7 gq] at hg1 hg2;skip;refine ie [3,6,7,8,9,10] ?_;refine cU (mG ⟨#[40]⟩) ?_;refine cU (pP ⟨#[78,79,84]⟩) ?_;refine aP 4 ?_ (h:=by first|exact(cH (mk:=Op.load 114) rfl ot Li)|exact(cH (mk:=Op.load 114) rfl ot Lh)|exact(cH (mk:=Op.load 114) rfl ot Lg));refine cU (mG ⟨#[41]⟩) ?_;refine cU (DQ ([[dQ ⟨#[40]⟩,bG ⟨#[78,79,84]⟩],H[eD H l[i]],[dQ ⟨#[41]⟩]]) Ln zq zq) ?_;refine bM ?_;refine⟨_,aM,[[dQ ⟨#[40]⟩,bG ⟨#[78,79,84]⟩],H[eD H l[i]],[dQ ⟨#[41]⟩]].flatten,(some ⟨bh,0,none⟩),jQ,[⟨bh,114,jQ*1,H.flatMap cK⟩],(by unfold rO;rw[if_neg aU,if_neg bz,if_pos bY,l7 gq]),(bD I O),rfl⟩
   refine ae [3,5,6,8,9,10,65] ?_;refine aq (fun cx c8=>?_) (fun cx c8=>?_)
   ·have Mn:l[i].k=11:=(by simpa using cx)
    have hp1:bQ l[i].k=1:=(by rw[Mn];decide)
    have hg1:=(uf (h:=H) (n:=eD H l[i])).1;have hg2:=(uf (h:=H) (n:=eD H l[i])).2;have hg3:=Ae H (eD H l[i]);have U:0<H.length:=(by omega)
    obtain⟨bh,E,I,O,Z⟩:=Es nw U;subst E Z;have gq:eD H l[i]<H.length:=(by unfold eD;omega)
    rw[l7 gq] at hg1 hg2;skip;refine ie [3,6,7,8,9,10] ?_;refine cU (mG ⟨#[40]⟩) ?_;refine aP 4 ?_ (h:=by first|exact(cH (mk:=Op.load 114) rfl ot Li)|exact(cH (mk:=Op.load 114) rfl ot Lh)|exact(cH (mk:=Op.load 114) rfl ot Lg));refine cU (rB [⟨#[73,83]⟩,⟨#[78,85,76,76]⟩] (by show 2≤10;decide)) ?_;refine cU (mG ⟨#[41]⟩) ?_;refine cU (DQ ([[dQ ⟨#[40]⟩],H[eD H l[i]],[bG ⟨#[73,83]⟩,bG ⟨#[78,85,76,76]⟩],[dQ ⟨#[41]⟩]]) Ln zq zq) ?_;refine bM ?_;refine⟨_,aM,[[dQ ⟨#[40]⟩],H[eD H l[i]],[bG ⟨#[73,83]⟩,bG ⟨#[78,85,76,76]⟩],[dQ ⟨#[41]⟩]].flatten,(some ⟨bh,0,none⟩),jQ,[⟨bh,114,jQ*1,H.flatMap cK⟩],(by unfold rO;rw[if_neg aU,if_neg bz,if_neg bY,if_pos c8,l7 gq]),(bD I O),rfl⟩
   have hkb:¬l[i].k=1∧¬l[i].k=2∧¬l[i].k=5∧¬l[i].k=11:=⟨by simpa using aH,by simpa using aY,by simpa using bF,by simpa using cx⟩
   have nR:bQ l[i].k=2:=(by unfold bQ;rw[if_neg w4,if_neg w4])
   have hg1:=(uf (h:=H) (n:=eD H l[i])).1;have hg2:=(uf (h:=H) (n:=eD H l[i])).2;have hg3:=Ae H (eD H l[i]);have U:0<H.length:=(by omega)
   obtain⟨bh,E,I,O,Z⟩:=Es nw U;subst E Z;have gq:eD H l[i]<H.length:=(by unfold eD;omega)
   have ga:eD H l[i]+1<H.length:=(by unfold eD;omega)
   rw[l7 gq,l7 ga] at hg2;rw[l7 gq] at hg1;refine ie [3,6,7,8,9,10] ?_;refine cU (mG ⟨#[40]⟩) ?_;refine aP 4 ?_ (h:=by first|exact(cH (mk:=Op.load 114) rfl ot Li)|exact(cH (mk:=Op.load 114) rfl ot Lh)|exact(cH (mk:=Op.load 114) rfl ot Lg));refine cU (Yh l[i].k w4) ?_;refine aP 3 ?_ (h:=by exact(cW (r:=.int .i64 ((((eD H l[i])+1:Nat)):Int)) rfl ot bC (jW (by rw[show(((eD H l[i]):Nat):Int)+1=(((eD H l[i])+1:Nat):Int) by omega];exact wrap_i64 w4 w4))));refine aP 1 ?_ (h:=by first|exact(cH (mk:=Op.load 114) rfl ot (by exact iK (k:=0) (i:=((eD H l[i])+1)) fW rfl rfl rfl isAgg114 ga rfl))|exact(cH (mk:=Op.load 114) rfl ot (by exact iK (k:=1) (i:=((eD H l[i])+1)) fW rfl rfl rfl isAgg114 ga rfl))|exact(cH (mk:=Op.load 114) rfl ot (by exact iK (k:=2) (i:=((eD H l[i])+1)) fW rfl rfl rfl isAgg114 ga rfl)));refine cU (mG ⟨#[41]⟩) ?_;refine cU (DQ ([[dQ ⟨#[40]⟩],H[eD H l[i]],[yT l[i].k],H[eD H l[i]+1],[dQ ⟨#[41]⟩]]) Ln zq zq) ?_;refine bM ?_;refine⟨_,aM,[[dQ ⟨#[40]⟩],H[eD H l[i]],[yT l[i].k],H[eD H l[i]+1],[dQ ⟨#[41]⟩]].flatten,(some ⟨bh,0,none⟩),jQ,[⟨bh,114,jQ*1,H.flatMap cK⟩],(by unfold rO;rw[if_neg aU,if_neg bz,if_neg bY,if_neg c8,l7 gq,l7 ga]),(bD I O),rfl⟩
  rintro _ ⟨Tx,ad,cp,Sx,hT,ee,rfl⟩;have hTl:=Q6 l[i] (H.getD (eD H l[i]) []) (H.getD (eD H l[i]+1) []);refine dw 3 ?_;refine bJ (Xm ee rfl ot ot ot runUnderlying142 sizeOf114 (by unfold eD;omega)) ?_;refine aD 1 ?_;refine ei (bZ 0 [_]) [.slice none 0 0] [_] zeroValue114 runUnderlying142 sizeOf114 (fun b84=>?_);refine fG 0 84 1 1 ?_;refine OD.Yd (ls:=H) (new:=[Tx]) (n:=eD H l[i]) (Sq:=Sx) fW oW an rfl rfl underlying142 XS rfl w7 ot ee (dB (A:=[])) (by unfold eD;omega) ot bw (by simp only[maxLen,length_cons,length_nil];omega) (by simp only[length_cons,length_nil];omega) (fun Mo Kv ahm ahn=>?_);refine OD.perm (dY (S1:=[⟨Mo,114,Kv*1,flatMap cK (H.take (eD H l[i])++[Tx])⟩]) (A:=[])) ?_;refine aj 90 [3,8,9,10] ?_;refine cj [3,8,9,10] ?_;refine⟨((i+1),(nK H l[i]),(some ⟨Mo,0,none⟩),Kv,[⟨Mo,114,Kv*1,flatMap cK (H.take (eD H l[i])++[Tx])⟩]),_,cz,(aM (h:=by repeat (first|exact trivial|refine⟨(by (repeat (first|exact fm|(apply fK;focus (first|rfl|(simp;done)|(congr 2;omega)|(apply eC;rw[hT];rfl)|(apply eC;rfl)|(apply eC;simp;done)))|(apply fu;focus rfl)));done),?_⟩))),w4,(by rw[hH,←Za aa]),(by rw[Pu Gf,←OY aa zV];exact hx),(by have:=Pu Gf;omega),(by have:=Oa (h:=H) (o:=l[i]);omega),(bu.cast (bD ahm ahn) (by rw[hT];rfl)),rfl⟩
 have tw:l.length≤i:=(by simp at az;omega)
 have fa:=hx;rw[N7 tw] at fa;have hH1:H.length=1:=(by (split at fa;omega;cases fa))
 refine CD.exit ?_;refine CD.seq ?_;obtain⟨bh,E,I,O,Z⟩:=Es nw (show 0<H.length by omega);subst E Z;have gq:0<H.length:=(by omega)
 refine ie [2] ?_;refine aP 1 ?_ (h:=by exact(nZ (mk:=Op.indexAddr 142) rfl ot bC (by first|exact oR runUnderlying142 sizeOf114 (j:=0) rfl (by first|exact gq|exact ga)|exact oV runUnderlying142 sizeOf114 (j:=0) rfl (by first|exact gq|exact ga))));refine aP 0 ?_ (h:=by first|exact(cH (mk:=Op.load 114) rfl ot (by exact iK (k:=0) (i:=0) fW rfl rfl rfl isAgg114 gq rfl))|exact(cH (mk:=Op.load 114) rfl ot (by exact iK (k:=1) (i:=0) fW rfl rfl rfl isAgg114 gq rfl))|exact(cH (mk:=Op.load 114) rfl ot (by exact iK (k:=2) (i:=0) fW rfl rfl rfl isAgg114 gq rfl)));refine bM ?_;refine aJ [] ?_;refine⟨?_,rfl⟩;unfold qC;rw[show l.foldl nK []=H by rw[hH,take_of_length_le tw],l7 gq]

end Go.Proofs.YtbcmjoaggammcaaGreatDoor.Pa
namespace Go.Proofs.YtbcmjoaggammcaaGreatDoor.Pa

open List
open Go.Proofs.Tryz
open Go.RowKit V Pk Vl Go.Proofs.YtbcmjoaggammcaaGreatDoor.Nm Pc
variable {G:List (Nat×List Value)}
variable {α:Type} {i:Nat} {E:List ByteArray}
def cg(s:cN):List D:=[.v (.int .i64 s.kind),.v (.string s.table),.list 2 (s.av.flatMap cC) s.av.length,.list 3 (s.row.flatMap cV) s.row.length,.list 1 (s.names.flatMap cS) s.names.length,.v (.bool s.count),.list 5 (s.ah.flatMap cO) s.ah.length,.v (.string s.order),.v (.bool s.down),.v (.int .i64 s.gJ),.v (.string s.set),.list 5 (s.bH.flatMap cO) s.bH.length]
def okS(s:cN):Prop:=s.av.length≤6∧s.row.length≤6∧s.names.length≤6∧s.ah.length≤40∧s.bH.length≤40

def jB{α:Type}(f:α→Int):List α→Int
 | []=>0
 | a::r=>if f a≠0 then f a else jB f r
theorem Pv{f:α→Int}{l:List α}(hi:i<l.length)(h:f l[i]≠0):jB f (l.drop i)=f l[i]:=by rw[drop_eq_getElem_cons hi,jB,if_pos h]
theorem Pw{f:α→Int}{l:List α}(hi:i<l.length)(h:f l[i]=0):jB f (l.drop i)=jB f (l.drop (i+1)):=by rw[drop_eq_getElem_cons hi,jB,if_neg (by rw[h];decide)]
theorem Ob{f:α→Int}{l:List α}(hi:l.length≤i):jB f (l.drop i)=0:=by rw[drop_of_length_le hi];rfl
def dW(l:List Vl):Int:=if l.length<1∨l.length>6 then 1 else jB iE l
def ng(l:List aW):Int:=if l.length=0 then 0 else iD l
def oh(s:cN):Int :=
 if s.names.length>6 then 1 else if s.gJ < -1 then 3
 else if (s.count=true∧0<s.names.length)∨(s.down=true∧iS s.order ⟨#[]⟩=true) then 6
 else if jB cJ s.names≠0 then jB cJ s.names else if ng s.ah≠0 then ng s.ah else if iS s.order ⟨#[]⟩=true then 0 else cJ s.order
def mb(s h:cN):Bool:=iS s.table h.table&&(((s.av.length:Int)==(h.av.length:Int))&&(((s.row.length:Int)==(h.row.length:Int))&&(((s.names.length:Int)==(h.names.length:Int))&&((s.count==h.count)&&(((s.ah.length:Int)==(h.ah.length:Int))&&(iS s.order h.order&&((s.down==h.down)&&((s.gJ==h.gJ)&&(iS s.set h.set&&((s.bH.length:Int)==(h.bH.length:Int)))))))))))
structure nl (s:cN):Prop where
 ok:okS s
 t:s.table.size≤maxLen
 c:∀c∈s.av,c.n.size≤maxLen
 n:∀x∈s.names,x.size≤maxLen
 o:s.order.size≤maxLen
 e:s.set.size≤maxLen
 r:∀v∈s.row,-9223372036854775808≤v.n∧v.n≤9223372036854775807
 w:∀o∈s.ah,o.nm.size≤maxLen∧-9223372036854775808≤o.v.n∧o.v.n≤9223372036854775807
 x:∀o∈s.bH,o.nm.size≤maxLen∧-9223372036854775808≤o.v.n∧o.v.n≤9223372036854775807
def j4(l:List aW):List Tk:=if l.length=0 then [] else [⟨#[87,72,69,82,69]⟩].map bG++qC l
theorem OZ(hm:(3,marksC)∈G)(hw:(2,wordsC)∈G)(l:List ByteArray)(hl:l.length≤1000)(hs:∀s∈l,s.size≤maxLen):VP Tryz.prog G 109 [.list 1 (l.flatMap cS) l.length] (.v (.int .i64 (jB cJ l))):=by
 refine VC.body func109 rfl ntmps109 aO fun X0 w0 aX=>?_;refine ae [0] ?_;refine ae [6,7,8] ?_;refine eI [6,7] (fun aV _ (i:Nat) aK=>(i≤l.length)∧(jB cJ l=jB cJ (l.drop i))∧aK=(⟨18,(8,.v (.int .i64 (i:Nat)))::aV,[]⟩:St)) (fun (i:Nat)=>l.length-i) 0 ⟨(Nat.zero_le _),rfl,rfl⟩ ?_;rintro i _ ⟨hi,hx,rfl⟩;refine ae [6,7,8,9] ?_;refine aq (fun az aG=>?_) (fun az aG=>?_)
 ·have aa:i<l.length:=(by simp at az;omega)
  refine ae [4,6,7,8] ?_;refine cL [5,6,7,8] (sO hm hw l[i] (hs _ (getElem_mem aa))) ?_;refine ae [5,6,7,8,15] ?_;refine aq (fun aH aU=>?_) (fun aH aU=>?_)
  ·have hn:cJ l[i]≠0:=(by simpa using aH)
   have fa:=hx.trans (Pv aa hn);exact LH
  have h0:cJ l[i]=0:=(by simpa using aH)
  refine cj [6,7,8] ?_;refine⟨(i+1),_,cz,aM,w4,(hx.trans (Pw aa h0)),rfl⟩
 have fa:jB cJ l=0:=hx.trans (Ob tF);refine ae [2] ?_;exact Ga
theorem acv(l:List Vl)(hl:l.length≤1000):VP Tryz.prog G 69 [.list 3 (l.flatMap cV) l.length] (.v (.int .i64 (dW l))):=by
 refine VC.body func69 rfl ntmps69 aO fun X0 w0 aX=>?_;have O:(l.length<1∨l.length>6)∨¬(l.length<1∨l.length>6):=(by omega)
 refine ae [0] ?_;refine aC 4 ?_;refine bS 9 (fun I E=>?_) (fun I E=>?_)
 ·refine aZ [0,13] ?_;refine ez ?_;exact TS
 refine aZ [0,13] ?_;refine aq (fun az aG=>?_) (fun az aG=>?_)
 ·exact TS
 have hf:dW l=jB iE l:=if_neg w4;refine ae [14,15,16] ?_;refine eI [14,15] (fun aV _ (i:Nat) aK=>(i≤l.length)∧(jB iE l=jB iE (l.drop i))∧aK=(⟨26,(16,.v (.int .i64 (i:Nat)))::aV,[]⟩:St)) (fun (i:Nat)=>l.length-i) 0 ⟨(Nat.zero_le _),rfl,rfl⟩ ?_;rintro i _ ⟨hi,hx,rfl⟩;refine ae [14,15,16,17] ?_;refine aq (fun aH aU=>?_) (fun aH aU=>?_)
 ·have aa:i<l.length:=(by simp at aH;omega)
  refine aC 2 ?_;refine OD.alloc (ds:=[_,_,_]) an rfl rfl zeroValue30 rfl (fun b4=>?_);refine aN 0 [_,_,_] sizeOf30 ?_;refine aj 26 [4,14,15,16] ?_;refine cL [5,14,15,16] (Nm.NA l[i]) ?_;refine ae [5,14,15,16,23] ?_;refine aq (fun aY bz=>?_) (fun aY bz=>?_)
  ·have hn:iE l[i]≠0:=(by simpa using aY)
   have fa:=hf.trans (hx.trans (Pv aa hn));exact LH
  have h0:iE l[i]=0:=(by simpa using aY)
  refine cj [14,15,16] ?_;refine⟨(i+1),_,cz,aM,w4,(hx.trans (Pw aa h0)),rfl⟩
 have fa:dW l=0:=hf.trans (hx.trans (Ob (by simp at aH;omega)));refine ae [2] ?_;exact Ga
theorem DH(hm:(3,marksC)∈G)(hw:(2,wordsC)∈G)(l:List aW)(hs:∀o∈l,o.nm.size≤maxLen):VP Tryz.prog G 72 [.list 5 (l.flatMap cO) l.length] (.v (.int .i64 (ng l))):=by
 refine VC.body func72 rfl ntmps72 aO fun X0 w0 aX=>?_;refine ae [0] ?_;refine ae [0,5] ?_;refine aq (fun az aG=>?_) (fun az aG=>?_)
 ·have fa:ng l=0:=if_pos tF;exact LH
 have fa:ng l=iD l:=if_neg tF;refine cL [2] (Iu hm hw l hs) ?_;exact Ga
theorem aaK(hm:(3,marksC)∈G)(hw:(2,wordsC)∈G)(s:cN)(hf:nl s):VP Tryz.prog G 70 [.agg (cg s)] (.v (.int .i64 (oh s))):=by
 refine VC.body func70 rfl ntmps70 aO fun X0 w0 aX=>?_;unfold cg;refine bX ?_;refine OD.box (ds:=[_,_,_,_,_,_,_,_,_,_,_,_]) an rfl rfl ot rfl rfl (fun b1=>?_);refine aj 50 [1] ?_;refine ae [1,5] ?_;refine aq (fun az aG=>?_) (fun az aG=>?_)
 ·refine ae [2] ?_;refine aJ [] ?_;exact U5
 refine ae [1,10] ?_;refine aq (fun aH aU=>?_) (fun aH aU=>?_)
 ·refine ae [2] ?_;refine aJ [] ?_;exact U5
 refine aC 3 ?_;refine bS 17 (fun wv vX=>?_) (fun wv vX=>?_)
 ·refine aD 6 ?_;refine bS 23 (fun U O=>?_) (fun U O=>?_)
  ·refine aZ [1,14] ?_;refine ez ?_;refine ae [2] ?_;exact z24
  refine aD 3 ?_;refine bS 26 (fun I E=>?_) (fun I E=>?_)
  ·exact T6
  refine aZ [1,14] ?_;refine fF ?_;exact z20
 refine xj 4 ?_;refine aD 5 ?_;refine bS 26 (fun I E=>?_) (fun I E=>?_)
 ·exact T6
 refine aZ [1,14] ?_;refine fF ?_;refine cL [1,3] (OZ hm hw s.names (by have:=hf.ok.2.2.1;omega) hf.n) ?_;refine ae [1,3,36] ?_;refine aq (fun bF bY=>?_) (fun bF bY=>?_)
 ·refine ae [2] ?_;exact z24
 refine cL [1,4] (DH hm hw s.ah (fun o h=>(hf.w o h).1)) ?_;refine ae [1,4,42] ?_;refine aq (fun cx c8=>?_) (fun cx c8=>?_)
 ·refine ae [2] ?_;exact z24
 refine ae [1,46] ?_;refine aq (fun dP er=>?_) (fun dP er=>?_)
 ·refine cL [2] (sO hm hw s.order hf.o) ?_;exact z24
 refine ae [2] ?_;refine eA ?_;refine⟨vi ?_,rfl⟩;unfold oh iS;simp_all;all_goals (try (intros;(repeat' split)<;>first|rfl|omega))
theorem acw(s h:cN):VP Tryz.prog G 73 [.agg (cg s),.agg (cg h)] (.v (.bool (mb s h))):=by
 refine VC.body func73 rfl ntmps73 aO fun X0 w0 aX=>?_;unfold cg;refine bX ?_;refine OD.box (ds:=[_,_,_,_,_,_,_,_,_,_,_,_]) an rfl rfl ot rfl rfl (fun b2=>?_);refine OD.box (ds:=[_,_,_,_,_,_,_,_,_,_,_,_]) an rfl rfl ot rfl rfl (fun b3=>?_);refine aj 90 [2,3] ?_;refine aC 6 ?_;refine bS 10 (fun aho E=>?_) (fun aho E=>?_)
 ·refine aD 9 ?_;refine bS 19 (fun Kw I=>?_) (fun Kw I=>?_)
  ·refine aD 9 ?_;refine bS 28 (fun ahp O=>?_) (fun ahp O=>?_)
   ·refine aD 9 ?_;refine bS 37 (fun ahq U=>?_) (fun ahq U=>?_)
    ·refine aD 4 ?_;refine OD.still gN rfl (cW rfl ot ot (D2 underlying4)) ?_;refine aD 2 ?_;refine bS 44 (fun ahr Z=>?_) (fun ahr Z=>?_)
     ·refine aD 9 ?_;refine bS 53 (fun Kx JI=>?_) (fun Kx JI=>?_)
      ·refine aD 7 ?_;refine bS 60 (fun ahs JJ=>?_) (fun ahs JJ=>?_)
       ·refine aD 4 ?_;refine OD.still gN rfl (cW rfl ot ot (D2 underlying4)) ?_;refine aD 2 ?_;refine bS 67 (fun aht afA=>?_) (fun aht afA=>?_)
        ·refine aD 7 ?_;refine bS 74 (fun ahu afB=>?_) (fun ahu afB=>?_)
         ·refine aD 7 ?_;refine bS 81 (fun ahv afC=>?_) (fun ahv afC=>?_)
          ·exact wW
          exact wW
         exact wW
        exact wW
       exact wW
      exact wW
     exact wW
    refine aZ [4] ?_;refine eA ?_;exact z49
   refine aZ [4] ?_;refine eA ?_;exact z49
  refine aZ [4] ?_;refine eA ?_;exact z49
 refine aZ [4] ?_;refine eA ?_;refine⟨vb ?_,rfl⟩;unfold mb iS;simp_all;all_goals (try (intros;omega))
theorem XT:(Tryz.prog.info? 149).map (fun i=>(i.zero,i.size,i.bytes))=some (some (.agg #[.int .i64 0,.string ⟨#[]⟩,.int .i64 0]),3,32):=by kernel_rfl
theorem GO(l:List aW)(hl:l.length≤40)(he:l.length=0∨fy 0 l=0)(hr:∀o∈l,-9223372036854775808≤o.v.n∧o.v.n≤9223372036854775807)(hsl:(qC l).length≤1000):VP Tryz.prog G 81 [.list 5 (l.flatMap cO) l.length] (.list 3 ((j4 l).flatMap cT) (j4 l).length):=by
 refine VC.body func81 rfl ntmps81 aO fun X0 w0 aX=>?_;refine ae [0] ?_;refine ae [0,5] ?_;refine aq (fun az aG=>?_) (fun az aG=>?_)
 ·have fa:j4 l=[]:=if_pos tF;refine ae [2] ?_;refine CD.wk (Wk.um (t:=2) (sz:=3) lk) ?_;refine aJ [] ?_;rw[fa];exact⟨rfl,rfl⟩
 have fa:j4 l=[⟨#[87,72,69,82,69]⟩].map bG++qC l:=if_neg tF;have I:fy 0 l=0:=he.resolve_left tF;refine bX ?_;refine ei (bZ 0 [_]) [.string ⟨#[]⟩] [_] zeroValue9 runUnderlying39 sizeOf9 (fun b6=>?_);refine OD.perm (dY (S1:=[⟨b6,9,1*1,flatMap cS ([⟨#[87,72,69,82,69]⟩])⟩]) (A:=[])) ?_;refine OD.gd (t:=6) (Sq:=[⟨b6,9,1*1,flatMap cS ([⟨#[87,72,69,82,69]⟩])⟩]) lk (bD (g:=cS) (sz:=1) (e:=9) (ls:=[⟨#[87,72,69,82,69]⟩]) (Nat.le_refl _) (show 1≤maxLen by decide)) (cl iV _) (dB (A:=[])) ?_;refine OD.call an rfl rfl rfl call74 (yp [⟨#[87,72,69,82,69]⟩] zD) ⟨ot,trivial⟩ (eH _) ?_;rintro _ S7 ⟨Wp,Wq,rfl,py⟩;refine OD.perm (S':=S7) (append_nil _ ▸ Perm.refl _) ?_;refine aD 1 ?_;refine dJ call80 (NF l hl I hr) ?_;refine OD.oN (ls:=([⟨#[87,72,69,82,69]⟩].map bG)) (new:=(qC l)) (Sq:=S7) iq lf an rfl rfl underlying114 XT rfl w7 runUnderlying114 sizeOf149 ot py (dB (A:=[])) ot (by simp only[maxLen,length_map,length_cons,length_nil];omega) (by simp only[length_map,length_cons,length_nil];omega) (fun U Z O E=>?_);refine OD.perm (dY (A:=[])) ?_;refine aj 11 [2] ?_;refine CD.gd (t:=2) (Sq:=O) lk E (cl iq _) (dB (A:=[])) ?_;exact Ga

def qJ(s:cN):ByteArray:=if s.kind<7 then s.table else ⟨#[]⟩
def jr(s:cN):cN :=
 if s.kind=1 then {iz with kind:=s.kind,table:=(qJ s),av:=s.av} else if s.kind=3 then {iz with kind:=s.kind,table:=(qJ s),row:=s.row} else if s.kind=4 then {iz with kind:=s.kind,table:=(qJ s),names:=s.names,count:=s.count,ah:=s.ah,order:=s.order,down:=s.down,gJ:=s.gJ} else if s.kind=5 then {iz with kind:=s.kind,table:=(qJ s),set:=s.set,bH:=s.bH,ah:=s.ah} else if s.kind=6 then {iz with kind:=s.kind,table:=(qJ s),ah:=s.ah} else {iz with kind:=s.kind,table:=(qJ s)}
def kz(s:cN):Int :=
 if s.kind=1 then fw s.av else if s.kind=3 then dW s.row else if s.kind=4 then oh s
 else if s.kind=5 then (if cJ s.set=0 then (if iD s.bH=0 then ng s.ah else iD s.bH) else cJ s.set) else if s.kind=6 then ng s.ah else 0
def ir(s:cN):Int:=if s.kind<7∧cJ s.table≠0 then cJ s.table else if kz s=0∧mb s (jr s)=false then 6 else kz s
theorem Zb(hm:(3,marksC)∈G)(hw:(2,wordsC)∈G)(s:cN)(hf:nl s):VP Tryz.prog G 44 [.agg (cg s)] (.v (.int .i64 (ir s))):=by
 refine VC.body func44 rfl ntmps44 aO fun X0 w0 aX=>?_;have I:=aaK hm hw s hf;unfold cg at I;unfold cg;refine bX ?_;refine OD.box (ds:=[_,_,_,_,_,_,_,_,_,_,_,_]) an rfl rfl ot rfl rfl (fun b1=>?_);refine aj 102 [1] ?_;refine aC 3 ?_;refine OD.alloc (ds:=[_,_,_,_,_,_,_,_,_,_,_,_]) an rfl rfl zeroValue42 rfl (fun b3=>?_);refine aN 0 [_,_,_,_,_,_,_,_,_,_,_,_] sizeOf42 ?_;refine aj 102 [1,3] ?_;refine jz [1,3] (fun aV _ aK=>∃(tb:ByteArray),(tb=qJ s)∧(¬(s.kind<7∧cJ s.table≠0))∧aK=(⟨102,aV,[⟨b3,42,12,[.v (.int .i64 s.kind),.v (.string tb),.list 2 [] 0,.list 3 [] 0,.list 1 [] 0,.v (.bool false),.list 5 [] 0,.v (.string ⟨#[]⟩),.v (.bool false),.v (.int .i64 (-1)),.v (.string ⟨#[]⟩),.list 5 [] 0]⟩,⟨b1,42,12,[.v (.int .i64 s.kind),.v (.string s.table),.list 2 (s.av.flatMap cC) s.av.length,.list 3 (s.row.flatMap cV) s.row.length,.list 1 (s.names.flatMap cS) s.names.length,.v (.bool s.count),.list 5 (s.ah.flatMap cO) s.ah.length,.v (.string s.order),.v (.bool s.down),.v (.int .i64 s.gJ),.v (.string s.set),.list 5 (s.bH.flatMap cO) s.bH.length]⟩]⟩:St)) ?_ ?_
 ·refine CD.seq ?_;refine CD.cells (k:=0) (cs':=[_,_,.list 2 [] 0,.list 3 [] 0,.list 1 [] 0,_,.list 5 [] 0,_,_,_,_,.list 5 [] 0]) (S':=[_,_]) rfl (by repeat (first|exact trivial|exact⟨dM,trivial⟩|exact⟨ff,trivial⟩|refine⟨dM,?_⟩|refine⟨ff,?_⟩)) rfl ?_;refine cj [1,3,11] ?_;refine aq (fun az aG=>?_) (fun az aG=>?_)
  ·refine aC 3 ?_;refine aN 0 [_,_,_,_,_,_,_,_,_,_,_,_] sizeOf9 ?_;refine aj 102 [1,3] ?_;refine cL [1,3,4] (sO hm hw s.table hf.t) ?_;refine ae [1,3,4,19] ?_;refine aq (fun aH aU=>?_) (fun aH aU=>?_)
   ·have aS:ir s=cJ s.table:=(by unfold ir;rw[if_pos ⟨aG,by simpa using aH⟩])
    exact z93
   have gq:cJ s.table=0:=(by simpa using aH)
   have O:s.table=qJ s:=(by unfold qJ;rw[if_pos aG])
   have U:¬(s.kind<7∧cJ s.table≠0):=fun h=>h.2 gq;refine CD.skip ?_;refine⟨_,aM,s.table,O,U,rfl⟩
  have O:(⟨#[]⟩:ByteArray)=qJ s:=(by unfold qJ;rw[if_neg w4])
  have U:¬(s.kind<7∧cJ s.table≠0):=fun h=>by omega
  refine CD.skip ?_;refine⟨_,aM,⟨#[]⟩,O,U,rfl⟩
 rintro _ ⟨tb,u6,jO,rfl⟩;refine ae [1,3,5] ?_;refine jz [1,3] (fun aV _ aK=>∃(H:cN),∃(e:Int),(H=jr s)∧(e=kz s)∧aK=(⟨102,(5,.v (.int .i64 e))::aV,[⟨b3,42,12,[.v (.int .i64 H.kind),.v (.string H.table),.list 2 (H.av.flatMap cC) H.av.length,.list 3 (H.row.flatMap cV) H.row.length,.list 1 (H.names.flatMap cS) H.names.length,.v (.bool H.count),.list 5 (H.ah.flatMap cO) H.ah.length,.v (.string H.order),.v (.bool H.down),.v (.int .i64 H.gJ),.v (.string H.set),.list 5 (H.bH.flatMap cO) H.bH.length]⟩,⟨b1,42,12,[.v (.int .i64 s.kind),.v (.string s.table),.list 2 (s.av.flatMap cC) s.av.length,.list 3 (s.row.flatMap cV) s.row.length,.list 1 (s.names.flatMap cS) s.names.length,.v (.bool s.count),.list 5 (s.ah.flatMap cO) s.ah.length,.v (.string s.order),.v (.bool s.down),.v (.int .i64 s.gJ),.v (.string s.set),.list 5 (s.bH.flatMap cO) s.bH.length]⟩]⟩:St)) ?_ ?_
 ·refine ae [1,3,5,22] ?_;refine ae [1,3,5,22,23] ?_;refine aq (fun aY bz=>?_) (fun aY bz=>?_)
  ·refine aC 3 ?_;refine aN 0 [_,_,_,_,_,_,_,_,_,_,_,_] sizeOf38 ?_;refine aj 102 [1,3] ?_;refine ie [1,3,5] ?_;refine cU (acr hm hw s.av (by have:=hf.ok.1;simp only[maxLen];omega) hf.c) ?_;refine bM ?_;refine⟨_,aM,{iz with kind:=s.kind,table:=tb,av:=s.av},fw s.av,(by unfold jr;rw[if_pos bz,u6]),(by unfold kz;rw[if_pos bz]),rfl⟩
  refine ae [1,3,5,22,31] ?_;refine aq (fun bF bY=>?_) (fun bF bY=>?_)
  ·refine aC 3 ?_;refine aN 0 [_,_,_,_,_,_,_,_,_,_,_,_] sizeOf27 ?_;refine aj 102 [1,3] ?_;refine ie [1,3,5] ?_;refine cU (acv s.row (by have:=hf.ok.2.1;omega)) ?_;refine bM ?_;refine⟨_,aM,{iz with kind:=s.kind,table:=tb,row:=s.row},dW s.row,(by unfold jr;rw[if_neg bz,if_pos bY,u6]),(by unfold kz;rw[if_neg bz,if_pos bY]),rfl⟩
  refine ae [1,3,5,22,39] ?_;refine aq (fun cx c8=>?_) (fun cx c8=>?_)
  ·refine CD.seq ?_;refine fE 22 (ap (eraseIdx _ 0)) ?_ (fun _ h=>(Sublist.map _ (eraseIdx_sublist _ 0)).subset h);refine ax 0 rfl (cX 4) ?_;refine ax 1 rfl (dx 1) ?_;refine ax 2 rfl (cX 5) ?_;refine ax 3 rfl (dx 1) ?_;refine ax 4 rfl (cX 6) ?_;refine ax 5 rfl (dx 1) ?_;refine ax 6 rfl (cX 7) ?_;refine ax 7 rfl (dx 1) ?_;refine ax 8 rfl (cX 8) ?_;refine ax 9 rfl (dx 1) ?_;refine ax 10 rfl (cX 9) ?_;refine ax 11 rfl (dx 1) ?_;refine ax 12 rfl (cX 4) ?_;refine dg.later rfl ?_;refine AD.one (i:=13) ay ?_;refine dN 0 [_,_,_,_,_,_,_,_,_,_,_,_] sizeOf39 ?_;refine cr 14 rfl (cX 5) ?_;refine AD.one (i:=15) ay ?_;refine dN 0 [_,_,_,_,_,_,_,_,_,_,_,_] sizeOf4 ?_;refine cr 16 rfl (cX 6) ?_;refine AD.one (i:=17) ay ?_;refine dN 0 [_,_,_,_,_,_,_,_,_,_,_,_] sizeOf40 ?_;refine cr 18 rfl (cX 7) ?_;refine AD.one (i:=19) ay ?_;refine dN 0 [_,_,_,_,_,_,_,_,_,_,_,_] sizeOf9 ?_;refine cr 20 rfl (cX 8) ?_;refine AD.one (i:=21) ay ?_;refine dN 0 [_,_,_,_,_,_,_,_,_,_,_,_] sizeOf4 ?_;refine ey ?_;refine aD 1 ?_;refine aN 0 [_,_,_,_,_,_,_,_,_,_,_,_] sizeOf3 ?_;refine aj 102 [1,3] ?_;refine ie [1,3,5] ?_;refine cU (I) ?_;refine bM ?_;refine⟨_,aM,{iz with kind:=s.kind,table:=tb,names:=s.names,count:=s.count,ah:=s.ah,order:=s.order,down:=s.down,gJ:=s.gJ},oh s,(by unfold jr;rw[if_neg bz,if_neg bY,if_pos c8,u6]),(by unfold kz;rw[if_neg bz,if_neg bY,if_pos c8]),rfl⟩
  refine ae [1,3,5,22,61] ?_;refine aq (fun dP er=>?_) (fun dP er=>?_)
  ·refine CD.seq ?_;refine fE 10 (ap (eraseIdx _ 0)) ?_ (fun _ h=>(Sublist.map _ (eraseIdx_sublist _ 0)).subset h);refine ax 0 rfl (cX 10) ?_;refine ax 1 rfl (dx 1) ?_;refine ax 2 rfl (cX 11) ?_;refine ax 3 rfl (dx 1) ?_;refine ax 4 rfl (cX 6) ?_;refine ax 5 rfl (dx 1) ?_;refine ax 6 rfl (cX 10) ?_;refine dg.later rfl ?_;refine AD.one (i:=7) ay ?_;refine dN 0 [_,_,_,_,_,_,_,_,_,_,_,_] sizeOf9 ?_;refine cr 8 rfl (cX 11) ?_;refine AD.one (i:=9) ay ?_;refine dN 0 [_,_,_,_,_,_,_,_,_,_,_,_] sizeOf40 ?_;refine ey ?_;refine aD 1 ?_;refine aN 0 [_,_,_,_,_,_,_,_,_,_,_,_] sizeOf40 ?_;refine aj 102 [1,3] ?_;refine cL [1,3,5] (sO hm hw s.set hf.e) ?_;refine ae [1,3,5,76] ?_;refine aq (fun eN fR=>?_) (fun eN fR=>?_)
   ·have Z:cJ s.set=0:=(by simpa using eN)
    refine ie [1,3,5] ?_;refine cU (Iu hm hw s.bH (fun o h=>(hf.x o h).1)) ?_;refine bM ?_;refine ae [1,3,5,81] ?_;refine aq (fun eG fY=>?_) (fun eG fY=>?_)
    ·have Mp:iD s.bH=0:=(by simpa using eG)
     refine ie [1,3,5] ?_;refine cU (DH hm hw s.ah (fun o h=>(hf.w o h).1)) ?_;refine bM ?_;refine⟨_,aM,{iz with kind:=s.kind,table:=tb,set:=s.set,bH:=s.bH,ah:=s.ah},ng s.ah,Lj,(by unfold kz;rw[if_neg bz,if_neg bY,if_neg c8,if_pos er,if_pos Z,if_pos Mp]),rfl⟩
    have Mp:¬iD s.bH=0:=(by simpa using eG)
    refine CD.skip ?_;refine⟨_,aM,{iz with kind:=s.kind,table:=tb,set:=s.set,bH:=s.bH,ah:=s.ah},iD s.bH,Lj,(by unfold kz;rw[if_neg bz,if_neg bY,if_neg c8,if_pos er,if_pos Z,if_neg Mp]),rfl⟩
   have Z:¬cJ s.set=0:=(by simpa using eN)
   refine ae [1,3,5,81] ?_;refine aq (fun eG fY=>?_) (fun eG fY=>?_)
   ·exact absurd eG (by simp[Z])
   refine CD.skip ?_;refine⟨_,aM,{iz with kind:=s.kind,table:=tb,set:=s.set,bH:=s.bH,ah:=s.ah},cJ s.set,Lj,(by unfold kz;rw[if_neg bz,if_neg bY,if_neg c8,if_pos er,if_neg Z]),rfl⟩
  refine ae [1,3,5,85] ?_;refine aq (fun kR E=>?_) (fun kR E=>?_)
  ·refine aC 3 ?_;refine aN 0 [_,_,_,_,_,_,_,_,_,_,_,_] sizeOf40 ?_;refine aj 102 [1,3] ?_;refine ie [1,3,5] ?_;refine cU (DH hm hw s.ah (fun o h=>(hf.w o h).1)) ?_;refine bM ?_;refine⟨_,aM,{iz with kind:=s.kind,table:=tb,ah:=s.ah},ng s.ah,(by unfold jr;rw[if_neg bz,if_neg bY,if_neg c8,if_neg er,if_pos E,u6]),(by unfold kz;rw[if_neg bz,if_neg bY,if_neg c8,if_neg er,if_pos E]),rfl⟩
  refine CD.skip ?_;refine⟨_,aM,{iz with kind:=s.kind,table:=tb},0,(by unfold jr;rw[if_neg bz,if_neg bY,if_neg c8,if_neg er,if_neg E,u6]),(by unfold kz;rw[if_neg bz,if_neg bY,if_neg c8,if_neg er,if_neg E]),rfl⟩
 rintro _ ⟨H,e,hH,CE,rfl⟩;refine CD.seq ?_;refine CD.seq ?_;have Th:=acw (G:=G) s H;unfold cg at Th;refine dw 3 ?_;refine bS 95 (fun Ul afD=>?_) (fun Ul afD=>?_)
 ·refine aD 2 ?_;refine OD.gI gN rfl rfl rfl call73 (Th) ⟨ot,ot,trivial⟩ ?_;refine aj 102 [5,100] ?_;refine aq (fun sC wF=>?_) (fun sC wF=>?_)
  ·have aS:ir s=6:=(by unfold ir;rw[if_neg jO,if_pos ⟨by rw[←CE];simpa using Ul,by rw[←hH];simpa using sC⟩])
   refine cj [5] ?_;exact z93
  have aS:ir s=e:=(by unfold ir;rw[if_neg jO,if_neg (by rw[←CE,←hH];exact(fun h=>by obtain⟨h1,h2⟩:=h;simp_all)),CE])
  exact z93
 refine aZ [5,100] ?_;refine fF ?_;have aS:ir s=e:=(by unfold ir;rw[if_neg jO,if_neg (by rw[←CE,←hH];exact(fun h=>by obtain⟨h1,h2⟩:=h;simp_all)),CE])
 refine ae [2] ?_;refine eA ?_;exact⟨by first|rw[aS]|rw[aS];rfl,rfl⟩

theorem Oc:∀(l:List aW) (H:List (List Tk)),(l.foldl nK H).flatten.length≤H.flatten.length+5*l.length
 | [],H=>by simp
 | o::r,H=>by
  have h1:=Oc r (nK H o);have h2:=Oa (h:=H) (o:=o);rw[foldl_cons,length_cons];omega
theorem DR(l:List aW):(qC l).length≤5*l.length:=by
 have h:=Oc l [];have h2:=(uf (h:=l.foldl nK []) (n:=0)).1;have h3:=Ae (l.foldl nK []) 0;simp only[List.take_zero,flatten_nil,length_nil] at h h3;unfold qC;omega
theorem Od(l:List aW):(j4 l).length≤5*l.length+1:=by
 have h:=DR l;unfold j4;split
 ·simp
 rw[length_append,length_map];simp only[length_cons,length_nil];omega
def jD(ns:List ByteArray):Nat→List Tk
 | 0=>[]
 | i+1=>jD ns i++(if i>0 then [dQ ⟨#[44]⟩] else [])++[bG (ns.getD i ⟨#[]⟩)]
theorem HD(E:List ByteArray):∀i,(jD E i).length≤2*i
 | 0=>Nat.le_refl _
 | i+1=>by
  have I:=HD E i;have h3:(if i>0 then [dQ ⟨#[44]⟩] else []).length≤1:=(by split<;>simp)
  unfold jD;rw[length_append,length_append];simp only[length_cons,length_nil];omega
theorem G5(hi:i<E.length)(h:0<i)(X:List Tk):((X++jD E i)++[dQ ⟨#[44]⟩])++[bG E[i]]=X++jD E (i+1):=by
 rw[jD,if_pos h,l7 hi];simp only[append_assoc]
theorem GW(hi:i<E.length)(h:¬0<i)(X:List Tk):(X++jD E i)++[bG E[i]]=X++jD E (i+1):=by
 rw[jD,if_neg h,l7 hi];simp only[append_assoc,append_nil]
def yK(s:cN):List Tk:=if s.count=true then [bG ⟨#[67,79,85,78,84]⟩,dQ ⟨#[40]⟩,dQ ⟨#[42]⟩,dQ ⟨#[41]⟩] else if s.names.length=0 then [dQ ⟨#[42]⟩] else jD s.names s.names.length
def BE(s:cN):List Tk:=if iS s.order ⟨#[]⟩=true then [] else [⟨#[79,82,68,69,82]⟩,⟨#[66,89]⟩,s.order].map bG++(if s.down=true then [bG ⟨#[68,69,83,67]⟩] else [])
def Ky(s:cN):List Tk:=if 0≤s.gJ then [bG ⟨#[76,73,77,73,84]⟩,⟨2,⟨#[]⟩,s.gJ⟩] else []
def A9(s:cN):List Tk:=((([⟨#[83,69,76,69,67,84]⟩].map bG++yK s)++[⟨#[70,82,79,77]⟩,s.table].map bG++j4 s.ah)++BE s)++Ky s
theorem rq:(Tryz.prog.info? 149).map (fun i=>(i.zero,i.size,i.bytes))=some (some (.agg #[.int .i64 0,.string ⟨#[]⟩,.int .i64 0]),3,32):=by kernel_rfl
theorem Xn : ∀ w, ((#[{ name := "Kind", type := 3, offset := 0, embedded := false, tag := "", pkgPath := "", byteOffset := 0 }, { name := "Text", type := 9, offset := 1, embedded := false, tag := "", pkgPath := "", byteOffset := 8 }, { name := "Int", type := 3, offset := 2, embedded := false, tag := "", pkgPath := "", byteOffset := 24 }] : Array Field).mapM fun f => do pure (f.offset, ← sizeOf f.type) : Sem (Array (Nat × Nat))).run Tryz.prog w = .ok #[(0, 1), (1, 1), (2, 1)] w := fun w => by simp [sizeOf3, sizeOf9]
theorem XU(s:cN)(hf:nl s)(Mq:s.ah.length=0∨fy 0 s.ah=0):VP Tryz.prog G 77 [.agg (cg s)] (.list 3 ((A9 s).flatMap cT) (A9 s).length):=by
 refine VC.body func77 rfl ntmps77 aO fun X0 w0 aX=>?_;have dr:maxLen=9223372036854775807:=rfl;have h6:=hf.ok.2.2.1;have pD:=hf.ok.2.2.2.1;have Gp:=Od s.ah;have Mr:=DR s.ah;unfold cg;refine bX ?_;refine OD.box (ds:=[_,_,_,_,_,_,_,_,_,_,_,_]) an rfl rfl ot rfl rfl (fun b1=>?_);refine aj 84 [1] ?_;refine bX ?_;refine ei (bZ 0 [_]) [.string ⟨#[]⟩] [_] zeroValue9 runUnderlying39 sizeOf9 (fun b6=>?_);refine OD.perm (dY (S1:=[⟨b6,9,1*1,flatMap cS ([⟨#[83,69,76,69,67,84]⟩])⟩]) (A:=[_])) ?_;refine OD.gd (t:=6) (Sq:=[⟨b6,9,1*1,flatMap cS ([⟨#[83,69,76,69,67,84]⟩])⟩]) lk (bD (g:=cS) (sz:=1) (e:=9) (ls:=[⟨#[83,69,76,69,67,84]⟩]) (Nat.le_refl _) (show 1≤maxLen by decide)) (cl iV _) (dB (A:=[_])) ?_;refine OD.call an rfl rfl rfl call74 (yp [⟨#[83,69,76,69,67,84]⟩] zD) ⟨ot,trivial⟩ (eH _) ?_;rintro _ S7 ⟨Wp,Wq,rfl,py⟩;refine OD.perm (dY (A:=[_])) ?_;refine aj 84 [1,3] ?_
 refine jz [1] (fun aV _ aK=>∃(Q:List Tk),∃(ad:Option Addr),∃(cp:Nat),∃(Sx:List ag),(Q=[⟨#[83,69,76,69,67,84]⟩].map bG++yK s)∧(bu 149 3 (Q.flatMap cT) Q.length ad cp Sx)∧(Q.length≤20)∧aK=(⟨84,(3,.v (.slice ad Q.length cp))::aV,(⟨b1,42,12,[.v (.int .i64 s.kind),.v (.string s.table),.list 2 (s.av.flatMap cC) s.av.length,.list 3 (s.row.flatMap cV) s.row.length,.list 1 (s.names.flatMap cS) s.names.length,.v (.bool s.count),.list 5 (s.ah.flatMap cO) s.ah.length,.v (.string s.order),.v (.bool s.down),.v (.int .i64 s.gJ),.v (.string s.set),.list 5 (s.bH.flatMap cO) s.bH.length]⟩::Sx)⟩:St)) ?_ ?_
 ·refine ae [1,3,28] ?_;refine aq (fun az aG=>?_) (fun az aG=>?_)
  ·refine dw 1 ?_;refine dJ call111 (pP ⟨#[67,79,85,78,84]⟩) ?_;refine dJ call79 (mG ⟨#[40]⟩) ?_;refine dJ call79 (mG ⟨#[42]⟩) ?_;refine dJ call79 (mG ⟨#[41]⟩) ?_;refine ei (bZ 0 [_,_,_,_]) [.int .i64 0,.string ⟨#[]⟩,.int .i64 0,.int .i64 0,.string ⟨#[]⟩,.int .i64 0,.int .i64 0,.string ⟨#[]⟩,.int .i64 0,.int .i64 0,.string ⟨#[]⟩,.int .i64 0] [_,_,_,_,_,_,_,_,_,_,_,_] zeroValue149 runUnderlying114 sizeOf149 (fun Gq=>?_);refine fG 0 36 3 4 ?_;refine OD.en (ls:=([⟨#[83,69,76,69,67,84]⟩].map bG)) (new:=[bG ⟨#[67,79,85,78,84]⟩,dQ ⟨#[40]⟩,dQ ⟨#[42]⟩,dQ ⟨#[41]⟩]) (Sq:=S7) iq lf an rfl rfl underlying114 rq rfl w7 ot py (dB (A:=[_])) ot bw pn w9 (fun Ms U ahw ahx=>?_);refine OD.perm (dY (S1:=[⟨Ms,149,U*3,flatMap cT (([⟨#[83,69,76,69,67,84]⟩].map bG)++[bG ⟨#[67,79,85,78,84]⟩,dQ ⟨#[40]⟩,dQ ⟨#[42]⟩,dQ ⟨#[41]⟩])⟩]) (A:=[_])) ?_;refine aj 84 [1,3] ?_;refine⟨_,aM,(([⟨#[83,69,76,69,67,84]⟩].map bG)++[bG ⟨#[67,79,85,78,84]⟩,dQ ⟨#[40]⟩,dQ ⟨#[42]⟩,dQ ⟨#[41]⟩]),(some ⟨Ms,0,none⟩),U,[⟨Ms,149,U*3,flatMap cT (([⟨#[83,69,76,69,67,84]⟩].map bG)++[bG ⟨#[67,79,85,78,84]⟩,dQ ⟨#[40]⟩,dQ ⟨#[42]⟩,dQ ⟨#[41]⟩])⟩],(by unfold yK;rw[if_pos aG]),(bD ahw ahx),K2,rfl⟩
  refine ae [1,3,38] ?_;refine aq (fun aH aU=>?_) (fun aH aU=>?_)
  ·refine dw 1 ?_;refine dJ call79 (mG ⟨#[42]⟩) ?_;refine ei (bZ 0 [_]) [.int .i64 0,.string ⟨#[]⟩,.int .i64 0] [_,_,_] zeroValue149 runUnderlying114 sizeOf149 (fun b45=>?_);refine fG 0 45 3 1 ?_;refine OD.en (ls:=([⟨#[83,69,76,69,67,84]⟩].map bG)) (new:=[dQ ⟨#[42]⟩]) (Sq:=S7) iq lf an rfl rfl underlying114 rq rfl w7 ot py (dB (A:=[_])) ot bw pn w9 (fun zO Z ahy ahz=>?_);refine OD.perm (dY (S1:=[⟨zO,149,Z*3,flatMap cT (([⟨#[83,69,76,69,67,84]⟩].map bG)++[dQ ⟨#[42]⟩])⟩]) (A:=[_])) ?_;refine aj 84 [1,3] ?_;refine⟨_,aM,(([⟨#[83,69,76,69,67,84]⟩].map bG)++[dQ ⟨#[42]⟩]),(some ⟨zO,0,none⟩),Z,[⟨zO,149,Z*3,flatMap cT (([⟨#[83,69,76,69,67,84]⟩].map bG)++[dQ ⟨#[42]⟩])⟩],(by unfold yK;rw[if_neg wR,if_pos w4]),(bD ahy ahz),K2,rfl⟩
  refine ae [1,3,9,10,11] ?_;refine CD.block ?_;refine mB (fun (lS:Nat×Option Addr×Nat×List ag) aK=>match lS with|(i,CF,CG,So)=>(i≤s.names.length)∧(bu 149 3 ((([⟨#[83,69,76,69,67,84]⟩].map bG++jD s.names i)).flatMap cT) (([⟨#[83,69,76,69,67,84]⟩].map bG++jD s.names i)).length CF CG So)∧aK=(⟨84,[(1,.v (.pointer (some ⟨b1,0,none⟩))),(3,.v (.slice CF (([⟨#[83,69,76,69,67,84]⟩].map bG++jD s.names i)).length CG)),(9,.list 1 (s.names.flatMap cS) s.names.length),(10,.v (.int .i64 (s.names.length:Nat))),(11,.v (.int .i64 (i:Nat)))],((⟨b1,42,12,[.v (.int .i64 s.kind),.v (.string s.table),.list 2 (s.av.flatMap cC) s.av.length,.list 3 (s.row.flatMap cV) s.row.length,.list 1 (s.names.flatMap cS) s.names.length,.v (.bool s.count),.list 5 (s.ah.flatMap cO) s.ah.length,.v (.string s.order),.v (.bool s.down),.v (.int .i64 s.gJ),.v (.string s.set),.list 5 (s.bH.flatMap cO) s.bH.length]⟩:ag)::So)⟩:St)) (fun (lS:Nat×Option Addr×Nat×List ag)=>match lS with|(i,CF,CG,So)=>s.names.length-i) (0,Wp,Wq,S7) ⟨(Nat.zero_le _),(bu.cast py (by simp[jD])),rfl⟩ (aM (h:=by repeat (first|exact trivial|refine⟨K6,?_⟩))) ?_;rintro⟨i,CF,CG,So⟩ _ ⟨hi,CH,rfl⟩;refine ae [1,3,9,10,11,12] ?_;refine aq (fun aY bz=>?_) (fun aY bz=>?_)
  ·have aa:i<s.names.length:=(by simp at aY;omega)
   have fC:=HD s.names i;refine ae [1,3,4,5,9,10,11] ?_;refine ae [1,3,5,9,10,11,17] ?_;refine aq (fun bF bY=>?_) (fun bF bY=>?_)
   ·refine dw 1 ?_;refine dJ call79 (mG ⟨#[44]⟩) ?_;refine ei (bZ 0 [_]) [.int .i64 0,.string ⟨#[]⟩,.int .i64 0] [_,_,_] zeroValue149 runUnderlying114 sizeOf149 (fun Mm=>?_);refine fG 0 20 3 1 ?_;refine OD.en (ls:=(([⟨#[83,69,76,69,67,84]⟩].map bG++jD s.names i))) (new:=[dQ ⟨#[44]⟩]) (Sq:=So) iq lf an rfl rfl underlying114 rq rfl w7 ot CH (dB (A:=[_])) ot bw pn w9 (fun Cy Um ahA ahB=>?_);refine OD.perm (dY (S1:=[⟨Cy,149,Um*3,flatMap cT ((([⟨#[83,69,76,69,67,84]⟩].map bG++jD s.names i))++[dQ ⟨#[44]⟩])⟩]) (A:=[_])) ?_;refine aj 84 [1,3,5,9,10,11] ?_;refine dw 2 ?_;refine dJ call111 (pP s.names[i]) ?_;refine ei (bZ 0 [_]) [.int .i64 0,.string ⟨#[]⟩,.int .i64 0] [_,_,_] zeroValue149 runUnderlying114 sizeOf149 (fun xA=>?_);refine fG 0 25 3 1 ?_;refine OD.en (ls:=((([⟨#[83,69,76,69,67,84]⟩].map bG++jD s.names i))++[dQ ⟨#[44]⟩])) (new:=[bG s.names[i]]) (Sq:=[⟨Cy,149,Um*3,flatMap cT ((([⟨#[83,69,76,69,67,84]⟩].map bG++jD s.names i))++[dQ ⟨#[44]⟩])⟩]) iq lf an rfl rfl underlying114 rq rfl w7 ot (bD ahA ahB) (dB (A:=[_])) ot bw pn w9 (fun I E Kz KA=>?_);refine OD.perm (dY (S1:=[⟨I,149,E*3,flatMap cT (((([⟨#[83,69,76,69,67,84]⟩].map bG++jD s.names i))++[dQ ⟨#[44]⟩])++[bG s.names[i]])⟩]) (A:=[_])) ?_;refine aj 84 [1,3,9,10,11] ?_;refine cj [1,3,9,10,11] ?_
    refine⟨((i+1),(some ⟨I,0,none⟩),E,[⟨I,149,E*3,flatMap cT (((([⟨#[83,69,76,69,67,84]⟩].map bG++jD s.names i))++[dQ ⟨#[44]⟩])++[bG s.names[i]])⟩]),_,cz,(aM (h:=by repeat (first|exact trivial|refine⟨K6,?_⟩))),w4,(bu.cast (bD Kz KA) (by first|exact G5 aa w4 _|exact GW aa w4 _)),rfl⟩
   refine dw 2 ?_;refine dJ call111 (pP s.names[i]) ?_;refine ei (bZ 0 [_]) [.int .i64 0,.string ⟨#[]⟩,.int .i64 0] [_,_,_] zeroValue149 runUnderlying114 sizeOf149 (fun xA=>?_);refine fG 0 25 3 1 ?_;refine OD.en (ls:=(([⟨#[83,69,76,69,67,84]⟩].map bG++jD s.names i))) (new:=[bG s.names[i]]) (Sq:=So) iq lf an rfl rfl underlying114 rq rfl w7 ot CH (dB (A:=[_])) ot bw pn w9 (fun I E Kz KA=>?_);refine OD.perm (dY (S1:=[⟨I,149,E*3,flatMap cT ((([⟨#[83,69,76,69,67,84]⟩].map bG++jD s.names i))++[bG s.names[i]])⟩]) (A:=[_])) ?_;refine aj 84 [1,3,9,10,11] ?_;refine cj [1,3,9,10,11] ?_;refine⟨((i+1),(some ⟨I,0,none⟩),E,[⟨I,149,E*3,flatMap cT ((([⟨#[83,69,76,69,67,84]⟩].map bG++jD s.names i))++[bG s.names[i]])⟩]),_,cz,(aM (h:=by repeat (first|exact trivial|refine⟨K6,?_⟩))),w4,(bu.cast (bD Kz KA) (by first|exact G5 aa w4 _|exact GW aa w4 _)),rfl⟩
  have tw:i=s.names.length:=(by simp at aY;omega)
  refine CD.exit ?_;refine⟨_,aM,(([⟨#[83,69,76,69,67,84]⟩].map bG++jD s.names i)),CF,CG,So,(by unfold yK;rw[if_neg wR,if_neg w4,tw]),CH,K2,rfl⟩
 rintro _ ⟨Q,ad,cp,Sx,hQ,ee,hQl,rfl⟩;refine aC 3 ?_;refine ei (bZ 0 [_,_]) [.string ⟨#[]⟩,.string ⟨#[]⟩] [_,_] zeroValue9 runUnderlying39 sizeOf9 (fun CJ=>?_);refine OD.perm (xX (S2:=[⟨CJ,9,2*1,flatMap cS ([⟨#[70,82,79,77]⟩,s.table])⟩]) (A:=[_])) ?_;refine OD.gd (t:=50) (Sq:=[⟨CJ,9,2*1,flatMap cS ([⟨#[70,82,79,77]⟩,s.table])⟩]) lk (bD (g:=cS) (sz:=1) (e:=9) (ls:=[⟨#[70,82,79,77]⟩,s.table]) (Nat.le_refl _) (show 2≤maxLen by decide)) (cl iV _) (xW (A:=[_])) ?_;refine dJ call74 (rB [⟨#[70,82,79,77]⟩,s.table] (by show 2≤10;decide)) ?_;refine OD.en (ls:=Q) (new:=([⟨#[70,82,79,77]⟩,s.table].map bG)) (Sq:=Sx) iq lf an rfl rfl underlying114 rq rfl w7 ot ee (dB (A:=[_])) ot bw pn w9 (fun Wr Un ahC ahD=>?_);refine OD.perm (dY (S1:=[⟨Wr,149,Un*3,flatMap cT (Q++([⟨#[70,82,79,77]⟩,s.table].map bG))⟩]) (A:=[_])) ?_;refine aj 84 [1,3] ?_;refine aC 3 ?_;refine dJ call81 (GO s.ah pD Mq (fun o h=>(hf.w o h).2) w4) ?_;refine OD.oN (ls:=(Q++([⟨#[70,82,79,77]⟩,s.table].map bG))) (new:=(j4 s.ah)) (Sq:=[⟨Wr,149,Un*3,flatMap cT (Q++([⟨#[70,82,79,77]⟩,s.table].map bG))⟩]) iq lf an rfl rfl underlying114 rq rfl w7 runUnderlying114 sizeOf149 ot (bD ahC ahD) (dB (A:=[_])) ot pn w9 (fun ahE ahF vm uS=>?_);refine OD.perm (dY (A:=[_])) ?_;refine aj 84 [1,3] ?_
 refine jz [1] (fun aV _ aK=>∃(Q:List Tk),∃(ad:Option Addr),∃(cp:Nat),∃(Sx:List ag),(Q=(([⟨#[83,69,76,69,67,84]⟩].map bG++yK s)++[⟨#[70,82,79,77]⟩,s.table].map bG++j4 s.ah)++BE s)∧(bu 149 3 (Q.flatMap cT) Q.length ad cp Sx)∧(Q.length≤500)∧aK=(⟨84,(3,.v (.slice ad Q.length cp))::aV,(⟨b1,42,12,[.v (.int .i64 s.kind),.v (.string s.table),.list 2 (s.av.flatMap cC) s.av.length,.list 3 (s.row.flatMap cV) s.row.length,.list 1 (s.names.flatMap cS) s.names.length,.v (.bool s.count),.list 5 (s.ah.flatMap cO) s.ah.length,.v (.string s.order),.v (.bool s.down),.v (.int .i64 s.gJ),.v (.string s.set),.list 5 (s.bH.flatMap cO) s.bH.length]⟩::Sx)⟩:St)) ?_ ?_
 ·refine ae [1,3,60] ?_;refine aq (fun cx c8=>?_) (fun cx c8=>?_)
  ·refine aC 3 ?_;refine ei (bZ 0 [_,_,_]) [.string ⟨#[]⟩,.string ⟨#[]⟩,.string ⟨#[]⟩] [_,_,_] zeroValue9 runUnderlying39 sizeOf9 (fun CK=>?_);refine OD.perm (xX (S2:=[⟨CK,9,3*1,flatMap cS ([⟨#[79,82,68,69,82]⟩,⟨#[66,89]⟩,s.order])⟩]) (A:=[_])) ?_;refine OD.gd (t:=64) (Sq:=[⟨CK,9,3*1,flatMap cS ([⟨#[79,82,68,69,82]⟩,⟨#[66,89]⟩,s.order])⟩]) lk (bD (g:=cS) (sz:=1) (e:=9) (ls:=[⟨#[79,82,68,69,82]⟩,⟨#[66,89]⟩,s.order]) (Nat.le_refl _) (show 3≤maxLen by decide)) (cl iV _) (xW (A:=[_])) ?_;refine dJ call74 (rB [⟨#[79,82,68,69,82]⟩,⟨#[66,89]⟩,s.order] (by show 3≤10;decide)) ?_;refine OD.en (ls:=((Q++([⟨#[70,82,79,77]⟩,s.table].map bG))++(j4 s.ah))) (new:=([⟨#[79,82,68,69,82]⟩,⟨#[66,89]⟩,s.order].map bG)) (Sq:=vm) iq lf an rfl rfl underlying114 rq rfl w7 ot uS (dB (A:=[_])) ot bw pn w9 (fun oJ O y6 y7=>?_);refine OD.perm (dY (S1:=[⟨oJ,149,O*3,flatMap cT (((Q++([⟨#[70,82,79,77]⟩,s.table].map bG))++(j4 s.ah))++([⟨#[79,82,68,69,82]⟩,⟨#[66,89]⟩,s.order].map bG))⟩]) (A:=[_])) ?_;refine aj 84 [1,3] ?_;refine ae [1,3,68] ?_;refine aq (fun dP er=>?_) (fun dP er=>?_)
   ·refine dw 1 ?_;refine dJ call111 (pP ⟨#[68,69,83,67]⟩) ?_;refine ei (bZ 0 [_]) [.int .i64 0,.string ⟨#[]⟩,.int .i64 0] [_,_,_] zeroValue149 runUnderlying114 sizeOf149 (fun b71=>?_);refine fG 0 71 3 1 ?_;refine OD.en (ls:=(((Q++([⟨#[70,82,79,77]⟩,s.table].map bG))++(j4 s.ah))++([⟨#[79,82,68,69,82]⟩,⟨#[66,89]⟩,s.order].map bG))) (new:=[bG ⟨#[68,69,83,67]⟩]) (Sq:=[⟨oJ,149,O*3,flatMap cT (((Q++([⟨#[70,82,79,77]⟩,s.table].map bG))++(j4 s.ah))++([⟨#[79,82,68,69,82]⟩,⟨#[66,89]⟩,s.order].map bG))⟩]) iq lf an rfl rfl underlying114 rq rfl w7 ot (bD y6 y7) (dB (A:=[_])) ot bw pn w9 (fun Mt KB ahG ahH=>?_);refine OD.perm (dY (S1:=[⟨Mt,149,KB*3,flatMap cT ((((Q++([⟨#[70,82,79,77]⟩,s.table].map bG))++(j4 s.ah))++([⟨#[79,82,68,69,82]⟩,⟨#[66,89]⟩,s.order].map bG))++[bG ⟨#[68,69,83,67]⟩])⟩]) (A:=[_])) ?_;refine aj 84 [1,3] ?_;refine⟨_,aM,((((Q++([⟨#[70,82,79,77]⟩,s.table].map bG))++(j4 s.ah))++([⟨#[79,82,68,69,82]⟩,⟨#[66,89]⟩,s.order].map bG))++[bG ⟨#[68,69,83,67]⟩]),(some ⟨Mt,0,none⟩),KB,[⟨Mt,149,KB*3,flatMap cT ((((Q++([⟨#[70,82,79,77]⟩,s.table].map bG))++(j4 s.ah))++([⟨#[79,82,68,69,82]⟩,⟨#[66,89]⟩,s.order].map bG))++[bG ⟨#[68,69,83,67]⟩])⟩],(by rw[hQ];unfold BE;rw[if_neg (by unfold iS;simpa using cx),if_pos er];simp only[append_assoc]),(bD ahG ahH),w9,rfl⟩
   refine CD.skip ?_;refine⟨_,aM,(((Q++([⟨#[70,82,79,77]⟩,s.table].map bG))++(j4 s.ah))++([⟨#[79,82,68,69,82]⟩,⟨#[66,89]⟩,s.order].map bG)),(some ⟨oJ,0,none⟩),O,[⟨oJ,149,O*3,flatMap cT (((Q++([⟨#[70,82,79,77]⟩,s.table].map bG))++(j4 s.ah))++([⟨#[79,82,68,69,82]⟩,⟨#[66,89]⟩,s.order].map bG))⟩],(by rw[hQ];unfold BE;rw[if_neg (by unfold iS;simpa using cx),if_neg (by simpa using dP)];simp only[append_assoc,append_nil]),(bD y6 y7),w9,rfl⟩
  refine CD.skip ?_;refine⟨_,aM,((Q++([⟨#[70,82,79,77]⟩,s.table].map bG))++(j4 s.ah)),ahE,ahF,vm,(by rw[hQ];unfold BE;rw[if_pos (by unfold iS;simpa using cx)];simp),uS,w9,rfl⟩
 rintro _ ⟨Q,ad,cp,Sx,hQ,ee,hQl,rfl⟩;refine ae [1,3,75] ?_;refine aq (fun eN fR=>?_) (fun eN fR=>?_)
 ·refine fE 7 (ap (take 1 _)) ?_ (fun _ h=>(Sublist.map _ (take_sublist _ _)).subset h);refine ax 0 rfl bg ?_;refine ax 2 rfl (cX 9) ?_;refine ax 3 rfl (dx 0) ?_;refine ax 4 rfl (nc (pl:=[(0,_),(2,_)]) (ds:=[_,_,_]) rfl zeroValue149 runUnderlying149 Xn ⟨rfl,bC,rfl,ot,trivial⟩ rfl rfl) ?_;refine dg.later rfl ?_;refine AD.one (i:=1) ay ?_;refine jt call111 (pP ⟨#[76,73,77,73,84]⟩) ?_;refine AD.one (i:=5) ay ?_;refine je (bZ 0 [_,_]) [.int .i64 0,.string ⟨#[]⟩,.int .i64 0,.int .i64 0,.string ⟨#[]⟩,.int .i64 0] [_,_,_,_,_,_] zeroValue149 runUnderlying114 sizeOf149 (fun b81=>?_);refine jf 0 81 3 2 ?_;refine AD.one (i:=6) ay ?_;refine bf.en (ls:=Q) (new:=[bG ⟨#[76,73,77,73,84]⟩,(⟨2,⟨#[]⟩,s.gJ⟩:Tk)]) (Sq:=Sx) iq lf rfl an rfl rfl underlying114 rq rfl w7 ot ee (dB (A:=[_])) ot bw pn w9 (fun Ws Uo ahI ahJ=>?_);refine AD.perm (dY (S1:=[⟨Ws,149,Uo*3,flatMap cT (Q++[bG ⟨#[76,73,77,73,84]⟩,(⟨2,⟨#[]⟩,s.gJ⟩:Tk)])⟩]) (A:=[_])) ?_;refine ey ?_;refine aZ [3] ?_;refine ae [2] ?_;refine CD.gd (t:=2) (Sq:=[⟨Ws,149,Uo*3,flatMap cT (Q++[bG ⟨#[76,73,77,73,84]⟩,(⟨2,⟨#[]⟩,s.gJ⟩:Tk)])⟩]) lk (bD ahI ahJ) (cl iq _) (dB (A:=[_])) ?_;refine eA ?_;refine⟨?_,rfl⟩;rw[hQ];unfold A9 Ky;rw[if_pos w4]
 refine ae [2] ?_;refine CD.gd (t:=2) (Sq:=Sx) lk ee (cl iq _) (dB (A:=[_])) ?_;refine aJ [] ?_;refine⟨?_,rfl⟩;rw[hQ];unfold A9 Ky;rw[if_neg w4];simp only[append_nil]

def JK(k:Int):ByteArray:=aek.getD k.toNat ⟨#[]⟩
theorem aaL{k:Int}(h1:1≤k)(h2:k≤3):typesC[0+k.toNat*1]?=some (.string (JK k)):=by
 have h:k=1∨k=2∨k=3:=(by omega)
 rcases h with rfl|rfl|rfl<;>rfl
def iP(c:cu):List Tk:=[c.n,JK c.k].map bG
def Fy:List ByteArray:=[⟨#[66,69,71,73,78]⟩,⟨#[67,79,77,77,73,84]⟩,⟨#[82,79,76,76,66,65,67,75]⟩]
def pW(s:cN):List Tk :=
 if s.kind=1 then [⟨#[67,82,69,65,84,69]⟩,⟨#[84,65,66,76,69]⟩,s.table].map bG++lP (s.av.map iP)
 else if s.kind=2 then [⟨#[68,82,79,80]⟩,⟨#[84,65,66,76,69]⟩,s.table].map bG
 else if s.kind=3 then [⟨#[73,78,83,69,82,84]⟩,⟨#[73,78,84,79]⟩,s.table,⟨#[86,65,76,85,69,83]⟩].map bG++lP (s.row.map iY)
 else if s.kind=4 then A9 s
 else if s.kind=5 then [[⟨#[85,80,68,65,84,69]⟩,s.table,⟨#[83,69,84]⟩,s.set].map bG,[dQ ⟨#[61]⟩],qC s.bH,j4 s.ah].flatten
 else if s.kind=6 then [⟨#[68,69,76,69,84,69]⟩,⟨#[70,82,79,77]⟩,s.table].map bG++j4 s.ah
 else [Fy.getD (s.kind-7).toNat ⟨#[]⟩].map bG
structure Wt (s:cN):Prop where
 fin:nl s
 k1:1≤s.kind
 k9:s.kind≤9
 c:s.kind=1→∀c∈s.av,1≤c.k∧c.k≤3
 r:s.kind=3→∀v∈s.row,mC v
 w:s.kind=4∨s.kind=5∨s.kind=6→s.ah.length=0∨fy 0 s.ah=0
 t:s.kind=5→fy 0 s.bH=0
theorem Px(ts:List (List Tk)):0<(lP ts).length:=by unfold lP;rw[length_append];simp
theorem Py{ts:List (List Tk)}(h:∀x∈ts,x.length≤10):(lP ts).length≤2+11*ts.length:=by
 have h1:=Ek h ts.length;unfold lP;rw[length_append];simp only[length_cons,length_nil];omega
theorem Iz(l:List cu):∀x∈l.map iP,x.length≤10:=fun x hx=>by obtain⟨c,_,rfl⟩:=mem_map.1 hx;show 2≤10;decide
theorem Pz(l:List Vl):∀x∈l.map iY,x.length≤10:=fun x hx=>by obtain⟨v,_,rfl⟩:=mem_map.1 hx;have:=N9 v;omega
theorem Nr:(Tryz.prog.info? 114).map (fun i=>(i.zero,i.size,i.bytes))=some (some (.slice none 0 0),1,24):=by kernel_rfl
theorem GS:(Tryz.prog.info? 149).map (fun i=>(i.zero,i.size,i.bytes))=some (some (.agg #[.int .i64 0,.string ⟨#[]⟩,.int .i64 0]),3,32):=by kernel_rfl
theorem acy(hty:(0,typesC)∈G)(s:cN)(hs:Wt s):VP Tryz.prog G 45 [.agg (cg s)] (.list 3 ((pW s).flatMap cT) (pW s).length):=by
 refine VC.body func45 rfl ntmps45 aO fun X0 w0 aX=>?_;have dr:maxLen=9223372036854775807:=rfl;have hf:=hs.fin;have h6:=hf.ok.1;have h6r:=hf.ok.2.1;have pD:=hf.ok.2.2.2.1;have ahK:=hf.ok.2.2.2.2;have Gp:=Od s.ah;have Mr:=DR s.ah;have Fz:=DR s.bH;have kV:=Py (Iz s.av);have qW:=Py (Pz s.row);have I:=XU (G:=G) s hf;rw[length_map] at kV qW;unfold cg at I;unfold cg;refine bX ?_;refine OD.box (ds:=[_,_,_,_,_,_,_,_,_,_,_,_]) an rfl rfl ot rfl rfl (fun b1=>?_);refine aj 107 [1] ?_;refine cM [1,10] ?_;refine aP 1 ?_ (h:=by exact eP);refine jP ?_;refine ae [1,10,11] ?_;refine aq (fun az aG=>?_) (fun az aG=>?_)
 ·refine bX ?_;refine aZ [1,3] ?_;refine cM [1,3,14,15,16] ?_;refine aP 1 ?_ (h:=by exact eP);refine bM ?_;refine CD.block ?_;refine mB (fun (E:Nat×Option Addr×Nat×List ag) aK=>match E with|(i,dS,dD,Sx)=>(i≤s.av.length)∧(bu 114 1 (((s.av.take i).map iP).flatMap cK) ((s.av.take i).map iP).length dS dD Sx)∧aK=(⟨107,[(1,.v (.pointer (some ⟨b1,0,none⟩))),(3,.v (.slice dS ((s.av.take i).map iP).length dD)),(14,.list 2 (s.av.flatMap cC) s.av.length),(15,.v (.int .i64 (s.av.length:Nat))),(16,.v (.int .i64 (i:Nat)))],((⟨b1,42,12,[.v (.int .i64 s.kind),.v (.string s.table),.list 2 (s.av.flatMap cC) s.av.length,.list 3 (s.row.flatMap cV) s.row.length,.list 1 (s.names.flatMap cS) s.names.length,.v (.bool s.count),.list 5 (s.ah.flatMap cO) s.ah.length,.v (.string s.order),.v (.bool s.down),.v (.int .i64 s.gJ),.v (.string s.set),.list 5 (s.bH.flatMap cO) s.bH.length]⟩:ag)::Sx)⟩:St)) (fun (E:Nat×Option Addr×Nat×List ag)=>match E with|(i,dS,dD,Sx)=>s.av.length-i) (0,none,0,[]) ⟨(Nat.zero_le _),(bu.cast iA lu),rfl⟩ (aM (h:=by repeat (first|exact trivial|refine⟨(by (repeat (first|exact fm|(apply fK;focus (first|rfl|(simp;done)|(congr 2;omega)|(apply eC;exact sJ iP aa)|(apply eC;simp;done)))|(apply fu;focus rfl)));done),?_⟩))) ?_;rintro⟨i,dS,dD,Sx⟩ _ ⟨hi,ee,rfl⟩;refine ae [1,3,14,15,16,17] ?_;refine aq (fun aH aU=>?_) (fun aH aU=>?_)
  ·have aa:i<s.av.length:=(by simp at aH;omega)
   have Wu:=hs.c aG _ (getElem_mem aa);refine aC 1 ?_;refine bJ (cH (mk:=Op.load 111) rfl ot (by first|exact pO (k:=0) (ds:=[_,_]) rfl rfl isAgg111 sizeOf111 rfl rfl|exact jM kZ isAgg111 sizeOf111 w5|exact jM eS isAgg111 sizeOf111 w5|exact jM iV isAgg111 sizeOf111 w5|exact dK (k:=0) kZ rfl rfl rfl isAgg111 sizeOf111 w5|exact dK (k:=0) eS rfl rfl rfl isAgg111 sizeOf111 w5|exact dK (k:=0) iV rfl rfl rfl isAgg111 sizeOf111 w5|exact pT (ds:=[_,_]) isAgg111 sizeOf111 rfl rfl)) ?_;refine OD.alloc (ds:=[_,_]) an rfl rfl zeroValue111 rfl (fun b5=>?_);refine aN 0 [_,_] sizeOf111 ?_;refine aj 107 [1,3,5,14,15,16] ?_;refine fE 11 (ap (take 2 _)) ?_ (fun _ h=>(Sublist.map _ (take_sublist _ _)).subset h);refine ax 0 rfl bg ?_;refine ax 1 rfl (cX 0) ?_;refine ax 2 rfl eP ?_;refine ax 3 rfl (cX 1) ?_;refine ax 4 rfl eP ?_;refine ax 5 rfl (nZ (mk:=Op.indexAddr 144) rfl vD ot (by first|exact Se runUnderlying144 sizeOf9 rfl w5|exact Se (j:=Int.toNat _) runUnderlying144 sizeOf9 (Int.toNat_of_nonneg w4).symm w4)) ?_
   refine ax 6 rfl (cH (mk:=Op.load 9) rfl ot (by first|exact rA (k:=0) rfl rfl isAgg9 rfl|exact rA (k:=1) rfl rfl isAgg9 rfl|exact uD kZ isAgg9 w5 rfl|exact pQ kZ isAgg9 w5 rfl|exact uD eS isAgg9 w5 rfl|exact pQ eS isAgg9 w5 rfl|exact uD iV isAgg9 w5 rfl|exact pQ iV isAgg9 w5 rfl|exact kN (k:=0) kZ rfl rfl rfl isAgg9 w5 rfl|exact iK (k:=0) kZ rfl rfl rfl isAgg9 w5 rfl|exact kN (k:=1) kZ rfl rfl rfl isAgg9 w5 rfl|exact iK (k:=1) kZ rfl rfl rfl isAgg9 w5 rfl|exact kN (k:=0) eS rfl rfl rfl isAgg9 w5 rfl|exact iK (k:=0) eS rfl rfl rfl isAgg9 w5 rfl|exact kN (k:=1) eS rfl rfl rfl isAgg9 w5 rfl|exact iK (k:=1) eS rfl rfl rfl isAgg9 w5 rfl|exact kN (k:=0) iV rfl rfl rfl isAgg9 w5 rfl|exact iK (k:=0) iV rfl rfl rfl isAgg9 w5 rfl|exact kN (k:=1) iV rfl rfl rfl isAgg9 w5 rfl|exact iK (k:=1) iV rfl rfl rfl isAgg9 w5 rfl|exact Bx isAgg9 rfl|exact adS hty isAgg9 (aaL Wu.1 Wu.2))) ?_;refine dg.later rfl ?_;refine AD.one (i:=7) ay ?_;refine je (bZ 0 [_,_]) [.string ⟨#[]⟩,.string ⟨#[]⟩] [_,_] zeroValue9 runUnderlying39 sizeOf9 (fun b27=>?_);refine jf 0 27 1 2 ?_;refine AD.one (i:=8) ay ?_;refine jt call74 (rB [s.av[i].n,JK s.av[i].k] (by show 2≤10;decide)) ?_;refine AD.one (i:=9) ay ?_;refine je (bZ 0 [_]) [.slice none 0 0] [_] zeroValue114 runUnderlying142 sizeOf114 (fun tU=>?_)
   refine jf 0 29 1 1 ?_;refine AD.one (i:=10) ay ?_;refine bf.DL (Sq:=Sx) (R:=[_,_]) rfl an rfl rfl underlying142 Nr rfl w7 ot ee (perm_append_comm (l₁:=[_,_])) (cl fW _) ot (sV oW [iP s.av[i]]) w7 (by rw[length_map,length_take];simp only[maxLen];omega) (by rw[length_map,length_take];omega) gZ (fun Mu O KC KD=>?_);refine AD.perm (dY (S1:=[⟨Mu,114,O*1,flatMap cK ((s.av.take i).map iP)++flatMap cK [iP s.av[i]]⟩]) (A:=[_,_])) ?_;rw[show flatMap cK ((s.av.take i).map iP)++flatMap cK [iP s.av[i]]=flatMap cK ((s.av.take i).map iP++[iP s.av[i]]) from List.flatMap_append.symm,show((s.av.take i).map iP).length+1=((s.av.take i).map iP++[iP s.av[i]]).length from by rw[length_append];rfl];refine ey ?_;refine aZ [1,3,14,15,16] ?_;refine cj [1,3,14,15,16] ?_;refine⟨((i+1),(some ⟨Mu,0,none⟩),O,[⟨Mu,114,O*1,flatMap cK ((s.av.take i).map iP++[iP s.av[i]])⟩]),_,cz,(aM (h:=by repeat (first|exact trivial|refine⟨(by (repeat (first|exact fm|(apply fK;focus (first|rfl|(simp;done)|(congr 2;omega)|(apply eC;exact sJ iP aa)|(apply eC;simp;done)))|(apply fu;focus rfl)));done),?_⟩))),w4,(bu.cast (bD (by rw[length_append];exact KC) KD) (by exact sJ iP aa)),rfl⟩
  have fa:=Iy iP (show s.av.length≤i by simp at aH;omega);have U:=Q5 (G:=G) (s.av.map iP) Ff (Iz s.av);rw[←fa] at U kV;refine aC 1 ?_;refine bJ eP ?_;refine ei (bZ 0 [_,_,_]) [.string ⟨#[]⟩,.string ⟨#[]⟩,.string ⟨#[]⟩] [_,_,_] zeroValue9 runUnderlying39 sizeOf9 (fun Wv=>?_);refine OD.perm (xX (S2:=[⟨Wv,9,3*1,flatMap cS ([⟨#[67,82,69,65,84,69]⟩,⟨#[84,65,66,76,69]⟩,s.table])⟩]) (A:=[_])) ?_;refine OD.gd (t:=34) (Sq:=[⟨Wv,9,3*1,flatMap cS ([⟨#[67,82,69,65,84,69]⟩,⟨#[84,65,66,76,69]⟩,s.table])⟩]) lk (bD (g:=cS) (sz:=1) (e:=9) (ls:=[⟨#[67,82,69,65,84,69]⟩,⟨#[84,65,66,76,69]⟩,s.table]) (Nat.le_refl _) (show 3≤maxLen by decide)) (cl iV _) (xW (A:=[_])) ?_;refine OD.call an rfl rfl rfl call74 (yp [⟨#[67,82,69,65,84,69]⟩,⟨#[84,65,66,76,69]⟩,s.table] (by show 3≤10;decide)) ⟨ot,trivial⟩ (eH _) ?_;rintro _ S35 ⟨anS,anT,rfl,ahL⟩;refine OD.perm (xX (A:=[_])) ?_;refine aD 1 ?_;refine OD.gd (t:=36) (Sq:=Sx) lk ee (cl fW _) (n8 (A:=[_])) ?_;refine dJ call75 (U) ?_;refine OD.en (ls:=([⟨#[67,82,69,65,84,69]⟩,⟨#[84,65,66,76,69]⟩,s.table].map bG)) (new:=(lP ((s.av.take i).map iP))) (Sq:=S35) iq lf an rfl rfl underlying114 GS rfl w7 ot ahL (dB (A:=[_])) ot (Px _) pn w9 (fun Mj Up ahM ahN=>?_)
  refine OD.perm (dY (S1:=[⟨Mj,149,Up*3,flatMap cT (([⟨#[67,82,69,65,84,69]⟩,⟨#[84,65,66,76,69]⟩,s.table].map bG)++(lP ((s.av.take i).map iP)))⟩]) (A:=[_])) ?_;refine aj 107 [2] ?_;refine CD.gd (t:=2) (Sq:=[⟨Mj,149,Up*3,flatMap cT (([⟨#[67,82,69,65,84,69]⟩,⟨#[84,65,66,76,69]⟩,s.table].map bG)++(lP ((s.av.take i).map iP)))⟩]) lk (bD ahM ahN) (cl iq _) (dB (A:=[_])) ?_;refine aJ [] ?_;refine⟨?_,rfl⟩;unfold pW;rw[if_pos aG,←fa]
 refine ae [1,10,39] ?_;refine aq (fun aY bz=>?_) (fun aY bz=>?_)
 ·refine cM [2] ?_;refine aP 1 ?_ (h:=by exact eP);refine cU (rB [⟨#[68,82,79,80]⟩,⟨#[84,65,66,76,69]⟩,s.table] (by show 3≤10;decide)) ?_;refine bM ?_;refine aJ [] ?_;refine⟨?_,rfl⟩;unfold pW;rw[if_neg aG,if_pos bz]
 refine ae [1,10,45] ?_;refine aq (fun bF bY=>?_) (fun bF bY=>?_)
 ·refine bX ?_;refine aZ [1,6] ?_;refine cM [1,6,48,49,50] ?_;refine aP 1 ?_ (h:=by exact eP);refine bM ?_;refine CD.block ?_;refine mB (fun (E:Nat×Option Addr×Nat×List ag) aK=>match E with|(i,Gr,Gs,Sv)=>(i≤s.row.length)∧(bu 114 1 (((s.row.take i).map iY).flatMap cK) ((s.row.take i).map iY).length Gr Gs Sv)∧aK=(⟨107,[(1,.v (.pointer (some ⟨b1,0,none⟩))),(6,.v (.slice Gr ((s.row.take i).map iY).length Gs)),(48,.list 3 (s.row.flatMap cV) s.row.length),(49,.v (.int .i64 (s.row.length:Nat))),(50,.v (.int .i64 (i:Nat)))],((⟨b1,42,12,[.v (.int .i64 s.kind),.v (.string s.table),.list 2 (s.av.flatMap cC) s.av.length,.list 3 (s.row.flatMap cV) s.row.length,.list 1 (s.names.flatMap cS) s.names.length,.v (.bool s.count),.list 5 (s.ah.flatMap cO) s.ah.length,.v (.string s.order),.v (.bool s.down),.v (.int .i64 s.gJ),.v (.string s.set),.list 5 (s.bH.flatMap cO) s.bH.length]⟩:ag)::Sv)⟩:St)) (fun (E:Nat×Option Addr×Nat×List ag)=>match E with|(i,Gr,Gs,Sv)=>s.row.length-i) (0,none,0,[]) ⟨(Nat.zero_le _),(bu.cast iA lu),rfl⟩ (aM (h:=by repeat (first|exact trivial|refine⟨(by (repeat (first|exact fm|(apply fK;focus (first|rfl|(simp;done)|(congr 2;omega)|(apply eC;exact sJ iY aa)|(apply eC;simp;done)))|(apply fu;focus rfl)));done),?_⟩))) ?_;rintro⟨i,Gr,Gs,Sv⟩ _ ⟨hi,my,rfl⟩;refine ae [1,6,48,49,50,51] ?_;refine aq (fun cx c8=>?_) (fun cx c8=>?_)
  ·have aa:i<s.row.length:=(by simp at cx;omega)
   refine aC 1 ?_;refine bJ (cH (mk:=Op.load 30) rfl ot (by first|exact pO (k:=0) (ds:=[_,_,_]) rfl rfl isAgg30 sizeOf30 rfl rfl|exact jM kZ isAgg30 sizeOf30 w5|exact jM eS isAgg30 sizeOf30 w5|exact jM iV isAgg30 sizeOf30 w5|exact dK (k:=0) kZ rfl rfl rfl isAgg30 sizeOf30 w5|exact dK (k:=0) eS rfl rfl rfl isAgg30 sizeOf30 w5|exact dK (k:=0) iV rfl rfl rfl isAgg30 sizeOf30 w5|exact pT (ds:=[_,_,_]) isAgg30 sizeOf30 rfl rfl)) ?_;refine OD.alloc (ds:=[_,_,_]) an rfl rfl zeroValue30 rfl (fun b8=>?_);refine aN 0 [_,_,_] sizeOf30 ?_;refine aj 107 [1,6,8,48,49,50] ?_;refine dw 1 ?_;refine bJ (cH (mk:=Op.load 30) rfl ot (by first|exact pO (k:=0) (ds:=[_,_,_]) rfl rfl isAgg30 sizeOf30 rfl rfl|exact jM kZ isAgg30 sizeOf30 w5|exact jM eS isAgg30 sizeOf30 w5|exact jM iV isAgg30 sizeOf30 w5|exact dK (k:=0) kZ rfl rfl rfl isAgg30 sizeOf30 w5|exact dK (k:=1) kZ rfl rfl rfl isAgg30 sizeOf30 w5|exact dK (k:=0) eS rfl rfl rfl isAgg30 sizeOf30 w5|exact dK (k:=1) eS rfl rfl rfl isAgg30 sizeOf30 w5|exact dK (k:=0) iV rfl rfl rfl isAgg30 sizeOf30 w5|exact dK (k:=1) iV rfl rfl rfl isAgg30 sizeOf30 w5|exact pT (ds:=[_,_,_]) isAgg30 sizeOf30 rfl rfl)) ?_;refine dJ call76 (Nk s.row[i] (hs.r bY _ (getElem_mem aa))) ?_;refine ei (bZ 0 [_]) [.slice none 0 0] [_] zeroValue114 runUnderlying142 sizeOf114 (fun b57=>?_)
   refine fG 0 57 1 1 ?_;refine OD.en (ls:=((s.row.take i).map iY)) (new:=[iY s.row[i]]) (Sq:=Sv) fW oW an rfl rfl underlying142 Nr rfl w7 ot my (dB (A:=[_,_])) ot bw (by simp only[maxLen,length_map,length_take,length_cons,length_nil];omega) (by simp only[length_map,length_take,length_cons,length_nil];omega) (fun zH Z ahO ahP=>?_);refine OD.perm (dY (S1:=[⟨zH,114,Z*1,flatMap cK (((s.row.take i).map iY)++[iY s.row[i]])⟩]) (A:=[_,_])) ?_;refine aj 107 [1,6,48,49,50] ?_;refine cj [1,6,48,49,50] ?_;refine⟨((i+1),(some ⟨zH,0,none⟩),Z,[⟨zH,114,Z*1,flatMap cK (((s.row.take i).map iY)++[iY s.row[i]])⟩]),_,cz,(aM (h:=by repeat (first|exact trivial|refine⟨(by (repeat (first|exact fm|(apply fK;focus (first|rfl|(simp;done)|(congr 2;omega)|(apply eC;exact sJ iY aa)|(apply eC;simp;done)))|(apply fu;focus rfl)));done),?_⟩))),w4,(bu.cast (bD ahO ahP) (by exact sJ iY aa)),rfl⟩
  have Ti:=Iy iY (show s.row.length≤i by simp at cx;omega);have U:=Q5 (G:=G) (s.row.map iY) Ff (Pz s.row);rw[←Ti] at U qW;refine aC 1 ?_;refine bJ eP ?_;refine ei (bZ 0 [_,_,_,_]) [.string ⟨#[]⟩,.string ⟨#[]⟩,.string ⟨#[]⟩,.string ⟨#[]⟩] [_,_,_,_] zeroValue9 runUnderlying39 sizeOf9 (fun Mw=>?_);refine OD.perm (xX (S2:=[⟨Mw,9,4*1,flatMap cS ([⟨#[73,78,83,69,82,84]⟩,⟨#[73,78,84,79]⟩,s.table,⟨#[86,65,76,85,69,83]⟩])⟩]) (A:=[_])) ?_;refine OD.gd (t:=62) (Sq:=[⟨Mw,9,4*1,flatMap cS ([⟨#[73,78,83,69,82,84]⟩,⟨#[73,78,84,79]⟩,s.table,⟨#[86,65,76,85,69,83]⟩])⟩]) lk (bD (g:=cS) (sz:=1) (e:=9) (ls:=[⟨#[73,78,83,69,82,84]⟩,⟨#[73,78,84,79]⟩,s.table,⟨#[86,65,76,85,69,83]⟩]) (Nat.le_refl _) (show 4≤maxLen by decide)) (cl iV _) (xW (A:=[_])) ?_;refine OD.call an rfl rfl rfl call74 (yp [⟨#[73,78,83,69,82,84]⟩,⟨#[73,78,84,79]⟩,s.table,⟨#[86,65,76,85,69,83]⟩] (by show 4≤10;decide)) ⟨ot,trivial⟩ (eH _) ?_;rintro _ CA ⟨Uj,wE,rfl,BD⟩;refine OD.perm (xX (A:=[_])) ?_;refine aD 1 ?_;refine OD.gd (t:=64) (Sq:=Sv) lk my (cl fW _) (n8 (A:=[_])) ?_;refine dJ call75 (U) ?_;refine OD.en (ls:=([⟨#[73,78,83,69,82,84]⟩,⟨#[73,78,84,79]⟩,s.table,⟨#[86,65,76,85,69,83]⟩].map bG)) (new:=(lP ((s.row.take i).map iY))) (Sq:=CA) iq lf an rfl rfl underlying114 GS rfl w7 ot BD (dB (A:=[_])) ot (Px _) pn w9 (fun oJ y5 y6 y7=>?_)
  refine OD.perm (dY (S1:=[⟨oJ,149,y5*3,flatMap cT (([⟨#[73,78,83,69,82,84]⟩,⟨#[73,78,84,79]⟩,s.table,⟨#[86,65,76,85,69,83]⟩].map bG)++(lP ((s.row.take i).map iY)))⟩]) (A:=[_])) ?_;refine aj 107 [2] ?_;refine CD.gd (t:=2) (Sq:=[⟨oJ,149,y5*3,flatMap cT (([⟨#[73,78,83,69,82,84]⟩,⟨#[73,78,84,79]⟩,s.table,⟨#[86,65,76,85,69,83]⟩].map bG)++(lP ((s.row.take i).map iY)))⟩]) lk (bD y6 y7) (cl iq _) (dB (A:=[_])) ?_;refine aJ [] ?_;refine⟨?_,rfl⟩;unfold pW;rw[if_neg aG,if_neg bz,if_pos bY,←Ti]
 refine ae [1,10,67] ?_;refine aq (fun dP er=>?_) (fun dP er=>?_)
 ·refine cM [2] ?_;refine aP 0 ?_ (h:=by exact(cH (mk:=Op.load 42) rfl ot (by first|exact pO (k:=0) (ds:=[_,_,_,_,_,_,_,_,_,_,_,_]) rfl rfl isAgg42 sizeOf42 rfl rfl|exact jM kZ isAgg42 sizeOf42 w5|exact jM eS isAgg42 sizeOf42 w5|exact jM iV isAgg42 sizeOf42 w5|exact dK (k:=0) kZ rfl rfl rfl isAgg42 sizeOf42 w5|exact dK (k:=0) eS rfl rfl rfl isAgg42 sizeOf42 w5|exact dK (k:=0) iV rfl rfl rfl isAgg42 sizeOf42 w5|exact pT (ds:=[_,_,_,_,_,_,_,_,_,_,_,_]) isAgg42 sizeOf42 rfl rfl)));refine cU (I (hs.w (.inl er))) ?_;refine bM ?_;refine aJ [] ?_;refine⟨?_,rfl⟩;unfold pW;rw[if_neg aG,if_neg bz,if_neg bY,if_pos er]
 refine ae [1,10,71] ?_;refine aq (fun eN fR=>?_) (fun eN fR=>?_)
 ·refine cM [2] ?_;refine aP 1 ?_ (h:=by exact eP);refine aP 1 ?_ (h:=by exact eP);refine cU (rB [⟨#[85,80,68,65,84,69]⟩,s.table,⟨#[83,69,84]⟩,s.set] (by show 4≤10;decide)) ?_;refine cU (mG ⟨#[61]⟩) ?_;refine aP 2 ?_ (h:=by exact eP);refine cU (NF s.bH ahK (hs.t fR) (fun o h=>(hf.x o h).2)) ?_;refine aP 1 ?_ (h:=by exact eP);refine cU (GO s.ah pD (hs.w (.inr (.inl fR))) (fun o h=>(hf.w o h).2) w4) ?_;refine cU (DQ [[⟨#[85,80,68,65,84,69]⟩,s.table,⟨#[83,69,84]⟩,s.set].map bG,[dQ ⟨#[61]⟩],qC s.bH,j4 s.ah] (by show 4≤1000;decide) (by simp only[flatten_cons,flatten_nil,length_append,length_map,length_cons,length_nil];omega) (by simp only[flatten_cons,flatten_nil,length_append,length_map,length_cons,length_nil];omega)) ?_;refine bM ?_;refine aJ [] ?_;refine⟨?_,rfl⟩;unfold pW;rw[if_neg aG,if_neg bz,if_neg bY,if_neg er,if_pos fR]
 refine ae [1,89] ?_;refine aq (fun eG fY=>?_) (fun eG fY=>?_)
 ·refine CD.seq ?_;refine fE 8 (ap (take 1 _)) ?_ (fun _ h=>(Sublist.map _ (take_sublist _ _)).subset h);refine ax 0 rfl (cX 1) ?_;refine ax 1 rfl eP ?_;refine ax 4 rfl (cX 6) ?_;refine ax 5 rfl eP ?_;refine dg.later rfl ?_;refine AD.one (i:=2) ay ?_;refine je (bZ 0 [_,_,_]) [.string ⟨#[]⟩,.string ⟨#[]⟩,.string ⟨#[]⟩] [_,_,_] zeroValue9 runUnderlying39 sizeOf9 (fun Ww=>?_);refine jf 0 93 1 3 ?_;refine AD.one (i:=3) ay ?_;refine bf.call rfl an rfl rfl rfl call74 (yp [⟨#[68,69,76,69,84,69]⟩,⟨#[70,82,79,77]⟩,s.table] (by show 3≤10;decide)) ⟨ot,trivial⟩ (eH _) gZ ?_;rintro _ S94 ⟨anU,anV,rfl,ahQ⟩;refine AD.perm (dY (A:=[_])) ?_;refine AD.one (i:=6) ay ?_;refine jt call81 (GO s.ah pD (hs.w (.inr (.inr fY))) (fun o h=>(hf.w o h).2) w4) ?_;refine AD.one (i:=7) ay ?_;refine bf.oN (ls:=([⟨#[68,69,76,69,84,69]⟩,⟨#[70,82,79,77]⟩,s.table].map bG)) (new:=(j4 s.ah)) (Sq:=S94) iq lf rfl an rfl rfl underlying114 GS rfl w7 runUnderlying114 sizeOf149 ot ahQ (dB (A:=[_])) ot pn w9 (fun anW anX S98 ahR=>?_);refine AD.perm (dY (A:=[_])) ?_;refine ey ?_;refine aZ [2] ?_;refine CD.gd (t:=2) (Sq:=S98) lk ahR (cl iq _) (dB (A:=[_])) ?_;refine eA ?_;refine⟨?_,rfl⟩;unfold pW;rw[if_neg aG,if_neg bz,if_neg bY,if_neg er,if_neg fR,if_pos fY]
 obtain⟨j,hj,Mx⟩:∃j:Nat,s.kind=((7+j:Nat):Int)∧j<Fy.length:=⟨(s.kind-7).toNat,by have:=hs.k1;have:=hs.k9;omega,by have:=hs.k1;have:=hs.k9;show _<3;omega⟩
 refine cM [2] ?_;refine L8 (g:=cS) (Fy) ?_;refine aP 1 ?_ (h:=by exact eP);refine aP 0 ?_ (h:=by exact(cW (r:=.int .i64 ((j:Nat):Int)) rfl ot bC (fU (by rw[hj,show(((7+j:Nat)):Int)-7=((j:Nat):Int) by omega];exact wrap_i64 w4 (by have:j<3:=Mx;omega)))));refine aP 1 ?_ (h:=by exact(cH (mk:=Op.load 9) rfl ot (by exact pQ (i:=j) iV isAgg9 Mx rfl)));refine cU (rB [Fy[j]] zD) ?_;refine bM ?_;refine aJ [] ?_;refine⟨?_,rfl⟩;unfold pW;rw[if_neg aG,if_neg bz,if_neg bY,if_neg er,if_neg fR,if_neg fY,hj,show(((7+j:Nat):Int)-7).toNat=j by omega,l7 Mx];first|done|rfl

theorem NG:∀(l pre:List cu),qB pre l=0→∀c∈l,cJ c.n=0∧1≤c.k∧c.k≤3
 | [],_,_,c,hc=>by cases hc
 | a::l,pre,h,c,hc=>by
  have h:(if mO pre a≠0 then mO pre a else qB (pre++[a]) l)=0:=h;by_cases h0:mO pre a=0
  ·rw[if_neg (by simp[h0])] at h;rcases mem_cons.1 hc with rfl|hc
   ·unfold mO at h0;by_cases h1:cJ c.n=0
    ·rw[if_neg (by simp[h1])] at h0;by_cases h2:c.k<1∨c.k>3
     ·rw[if_pos h2] at h0;cases h0
     exact⟨h1,by omega⟩
    rw[if_pos h1] at h0;exact absurd h0 h1
   exact NG l _ h c hc
  rw[if_pos h0] at h;exact absurd h h0
theorem Zc{l:List cu}(h:fw l=0):(1≤l.length∧l.length≤6)∧∀c∈l,cJ c.n=0∧1≤c.k∧c.k≤3:=by
 unfold fw at h;split at h
 ·cases h
 exact⟨by omega,NG l [] h⟩
theorem Q7{α:Type}{f:α→Int}:∀{l:List α},jB f l=0→∀a∈l,f a=0
 | [],_,a,h=>by cases h
 | b::r,h,a,ha=>by
  unfold jB at h;split at h
  ·exact absurd h s5
  rcases mem_cons.1 ha with rfl|ha
  ·have hn:¬f a≠0:=(by assumption)
   omega
  exact Q7 h a ha
theorem IA{l:List aW}(h:ng l=0):l.length=0∨fy 0 l=0:=by
 unfold ng at h;split at h
 ·exact .inl s5
 right;unfold iD at h;split at h
 ·cases h
 exact h
theorem ael{l:List aW}(h:iD l=0):fy 0 l=0∧l.length≤40:=by
 unfold iD at h;split at h
 ·cases h
 exact⟨h,by omega⟩
theorem afE{s:cN}(h:ir s=0):kz s=0∧mb s (jr s)=true∧(s.kind<7→cJ s.table=0):=by
 unfold ir at h;split at h
 ·rename_i h1;exact absurd h h1.2
 rename_i h1;split at h
 ·cases h
 rename_i h2;refine⟨h,?_,fun hk=>?_⟩
 ·cases hb:mb s (jr s) with
  | true=>rfl
  | false=>exact absurd ⟨h,hb⟩ h2
 by_cases hn:cJ s.table=0
 ·exact hn
 exact absurd ⟨hk,hn⟩ h1
theorem afF{s:cN}(hf:nl s)(h1:1≤s.kind)(I:s.kind≤9)(h:ir s=0):Wt s:=by
 have he:=(afE h).1;unfold kz at he;refine⟨hf,h1,I,fun hk=>?_,fun hk v E=>?_,fun hk=>?_,fun hk=>?_⟩
 ·rw[if_pos hk] at he;exact fun c hc=>((Zc he).2 c hc).2
 ·rw[if_neg w4,if_pos hk] at he;unfold dW at he;split at he
  ·cases he
  exact SA (Q7 he v E) (hf.r v E).1 (hf.r v E).2
 ·by_cases h4:s.kind=4
  ·rw[if_neg w4,if_neg w4,if_pos h4] at he;unfold oh at he;repeat' split at he
   all_goals first|(exfalso;omega)|exact IA w4
  by_cases h5:s.kind=5
  ·rw[if_neg w4,if_neg w4,if_neg h4,if_pos h5] at he;repeat' split at he
   all_goals first|(exfalso;omega)|exact IA he
  rw[if_neg w4,if_neg w4,if_neg h4,if_neg h5,if_pos w4] at he;exact IA he
 rw[if_neg w4,if_neg w4,if_neg w4,if_pos hk] at he;repeat' split at he
 all_goals first|(exfalso;omega)|exact(ael s5).1
def iW(s:cN):Int:=if s.kind<1∨s.kind>9 then 2 else if ir s≠0 then ir s else if (pW s).length>100 then 10 else 0
theorem acz{s:cN}(h:iW s=0):1≤s.kind∧s.kind≤9∧ir s=0∧(pW s).length≤100:=by
 unfold iW at h;split at h
 ·cases h
 split at h
 ·rename_i h2;exact absurd h h2
 split at h
 ·cases h
 rename_i h2 _;exact⟨by omega,by omega,by omega,by omega⟩
theorem PA(hm:(3,marksC)∈G)(hw:(2,wordsC)∈G)(O:(0,typesC)∈G)(s:cN)(hf:nl s):VP Tryz.prog G 27 [.agg (cg s)] (.v (.int .i64 (iW s))):=by
 refine VC.body func27 rfl ntmps27 aO fun X0 w0 aX=>?_;have dr:maxLen=9223372036854775807:=rfl;have eZ:=Zb hm hw s hf;unfold cg at eZ;unfold cg;have Z:(s.kind<1∨s.kind>9)∨¬(s.kind<1∨s.kind>9):=(by omega)
 refine bX ?_;refine OD.box (ds:=[_,_,_,_,_,_,_,_,_,_,_,_]) an rfl rfl ot rfl rfl (fun b1=>?_);refine aj 21 [1] ?_;refine aC 4 ?_;refine bS 7 (fun U E=>?_) (fun U E=>?_)
 ·refine aZ [1,11] ?_;refine ez ?_;have aS:iW s=2:=if_pos w4;exact wY
 refine aZ [1,11] ?_;refine aq (fun az aG=>?_) (fun az aG=>?_)
 ·have aS:iW s=2:=if_pos w4;exact wY
 have hk:¬(s.kind<1∨s.kind>9):=(by omega)
 refine cL [1,3] (eZ) ?_;refine ae [1,3,15] ?_;refine aq (fun aH aU=>?_) (fun aH aU=>?_)
 ·have hn:ir s≠0:=(by simpa using aH)
  have aS:iW s=ir s:=(by unfold iW;rw[if_neg hk,if_pos hn])
  exact wY
 have h0:ir s=0:=(by simpa using aH)
 have I:=acy O s (afF hf w4 w4 h0);unfold cg at I;have gq:¬ir s≠0:=fun h=>h h0;refine cL [20] (I) ?_;refine aq (fun aY bz=>?_) (fun aY bz=>?_)
 ·have aS:iW s=10:=(by unfold iW;rw[if_neg hk,if_neg gq,if_pos (by simp at aY;omega)])
  exact wY
 have aS:iW s=0:=(by unfold iW;rw[if_neg hk,if_neg gq,if_neg (by simp at aY;omega)])
 refine ae [2] ?_;refine eA ?_;rw[aS];exact⟨rfl,rfl⟩

end Go.Proofs.YtbcmjoaggammcaaGreatDoor.Pa
namespace Go.Proofs.YtbcmjoaggammcaaGreatDoor.Pc
open List
open Go.Proofs.Tryz
open Go.RowKit V Pk Vl Go.Proofs.YtbcmjoaggammcaaGreatDoor.Nm Pa
variable {G:List (Nat×List Value)}
variable {i:Nat}
theorem aem:cJ ⟨#[116]⟩=0:=sD (l:=[116]) w7 w7 (fun c hc=>by simp only[mem_singleton] at hc;subst hc;decide)
def qo(l:List cu):cN:={iz with kind:=1,table:=⟨#[116]⟩,av:=l}
theorem afG{l:List cu}(h6:l.length≤6)(aR:∀c∈l,c.n.size≤maxLen):nl (qo l) :=
 ⟨⟨h6,Nat.zero_le _,Nat.zero_le _,Nat.zero_le _,Nat.zero_le _⟩,(by show 1≤maxLen;decide),aR,(fun _ h=>by cases h),Nat.zero_le _,Nat.zero_le _,(fun _ h=>by cases h),(fun _ h=>by cases h),(fun _ h=>by cases h)⟩
theorem aen(l:List cu):mb (qo l) (qo l)=true:=by
 unfold mb;simp only[Bool.and_eq_true,beq_iff_eq,AG,and_self]
theorem acA(l:List cu):ir (qo l)=fw l:=by
 have h1:kz (qo l)=fw l:=rfl;have h2:jr (qo l)=qo l:=rfl;unfold ir;rw[if_neg (fun h=>h.2 aem),h2,h1,if_neg (fun h=>by rw[aen] at h;cases h.2)]
theorem aaM{l:List cu}(h6:l.length≤6):iW (qo l)=fw l:=by
 unfold iW;rw[if_neg (fun h=>by have:(qo l).kind=1:=rfl;omega),acA];split
 ·rfl
 rename_i h0;have h1:=Ek (ts:=l.map iP) (Iz l) (l.map iP).length;have h2:(lP (l.map iP)).length≤80:=(by unfold lP;rw[length_append];rw[length_map] at h1 ⊢;simp only[length_cons,length_nil];omega)
 have h3:(pW (qo l)).length≤100:=by
  show([_,_,_].map bG++lP (l.map iP)).length≤100;rw[length_append];simp only[length_map,length_cons,length_nil];omega
 rw[if_neg w4];simp only[ne_eq,Decidable.not_not] at h0;exact h0.symm
def My(l:List cu):List D:=[.v (.int .i64 1),.v (.string ⟨#[116]⟩),.list 2 (l.flatMap cC) l.length,.v (.slice none 0 0),.v (.slice none 0 0),.v (.bool false),.v (.slice none 0 0),.v (.string ⟨#[]⟩),.v (.bool false),.v (.int .i64 (-1)),.v (.string ⟨#[]⟩),.v (.slice none 0 0)]
theorem Zd(hm:(3,marksC)∈G)(hw:(2,wordsC)∈G)(ht:(0,typesC)∈G)(l:List cu)(hl:l.length≤6)(aR:∀c∈l,c.n.size≤maxLen):VP Tryz.prog G 27 [.agg (My l)] (.v (.int .i64 (fw l))):=by
 have h:=Pa.PA (G:=G) hm hw ht (qo l) (afG hl aR);rw[aaM hl] at h;refine VC.args h rfl fun w L i h1 h2 v E=>?_;have:i=0:=(by simp only[length_cons,length_nil] at h1;omega)
 subst this;exact AS (a:=My l) (b:=cg (qo l)) ⟨dM,dM,dM,ff,ff,dM,ff,dM,dM,dM,dM,ff,trivial⟩ w L v E
theorem Et(hm:(3,marksC)∈G)(hw:(2,wordsC)∈G)(ht:(0,typesC)∈G)(l:List cu)(hl:l.length≤6)(aR:∀c∈l,c.n.size≤maxLen):VP Tryz.prog G 64 [.list 2 (l.flatMap cC) l.length] (.v (.int .i64 (fw l))):=by
 refine VC.body func64 rfl ntmps64 aO fun X0 w0 aX=>?_;have dr:maxLen=9223372036854775807:=rfl;have eZ:=Zd hm hw ht l hl aR;unfold My at eZ;refine ae [0] ?_;refine cL [2] (eZ) ?_;exact z51
def mj(i:Nat)(c:cu)(v:Vl):Int:=if dL v≠0 then dL v else if v.k≠c.k∧(i=0∨v.k≠0) then 4 else 0
def qc:Nat→List cu→List Vl→Int
 | i,c::cs,v::vs=>if mj i c v≠0 then mj i c v else qc (i+1) cs vs
 | _,_,_=>0
def dW(cs:List cu)(vs:List Vl):Int:=if fw cs≠0 then fw cs else if vs.length≠cs.length then 1 else qc 0 cs vs
theorem YT{cs:List cu}{vs:List Vl}(h1:i<cs.length)(h2:i<vs.length)(h:mj i cs[i] vs[i]=0):qc i (cs.drop i) (vs.drop i)=qc (i+1) (cs.drop (i+1)) (vs.drop (i+1)):=by
 rw[drop_eq_getElem_cons h1,drop_eq_getElem_cons h2];exact if_neg (by simp[h])
theorem O2{cs:List cu}{vs:List Vl}(h1:i<cs.length)(h2:i<vs.length)(h:mj i cs[i] vs[i]≠0):qc i (cs.drop i) (vs.drop i)=mj i cs[i] vs[i]:=by
 rw[drop_eq_getElem_cons h1,drop_eq_getElem_cons h2];exact if_pos h
theorem aaN{cs:List cu}{vs:List Vl}(h:¬i<vs.length):qc i (cs.drop i) (vs.drop i)=0:=by
 rw[drop_of_length_le (l:=vs) w4];cases cs.drop i<;>rfl
theorem Jc(hm:(3,marksC)∈G)(hw:(2,wordsC)∈G)(ht:(0,typesC)∈G)(l:List cu)(hl:l.length≤6)(aR:∀c∈l,c.n.size≤maxLen)(vs:List Vl)(qW:vs.length≤maxLen):VP Tryz.prog G 65 [.list 2 (l.flatMap cC) l.length,.list 3 (vs.flatMap cV) vs.length] (.v (.int .i64 (dW l vs))):=by
 refine VC.body func65 rfl ntmps65 aO fun X0 w0 aX=>?_;have dr:maxLen=9223372036854775807:=rfl;refine ae [0,1] ?_;refine cL [0,1,5] (Et hm hw ht l hl aR) ?_;refine ae [0,1,5,12] ?_;refine aq (fun az aG=>?_) (fun az aG=>?_)
 ·have hne:fw l≠0:=(by simpa using az)
  have aS:dW l vs=fw l:=if_pos hne;refine ae [4] ?_;exact z46
 have h0:¬fw l≠0:=(by simpa using az)
 refine ae [0,1,18] ?_;refine aq (fun aH aU=>?_) (fun aH aU=>?_)
 ·have aS:dW l vs=1:=(by unfold dW;rw[if_neg h0,if_pos w4])
  refine ae [4] ?_;exact z46
 have Z:vs.length=l.length:=(by omega)
 have E:dW l vs=qc 0 (l.drop 0) (vs.drop 0):=(by unfold dW;rw[if_neg h0,if_neg (by simp[Z])];rfl)
 refine ae [0,19,20,21] ?_;refine eI [0,19,20] (fun aV _ (i:Nat) aK=>(i≤vs.length)∧(dW l vs=qc i (l.drop i) (vs.drop i))∧aK=(⟨49,(21,.v (.int .i64 (i:Nat)))::aV,[]⟩:St)) (fun (i:Nat)=>vs.length-i) 0 ⟨(Nat.zero_le _),E,rfl⟩ ?_;rintro i _ ⟨hi,hinv,rfl⟩;refine ae [0,19,20,21,22] ?_;refine aq (fun aY bz=>?_) (fun aY bz=>?_)
 ·have aa:i<vs.length:=(by omega)
  have J6:i<l.length:=(by omega)
  refine aC 3 ?_;refine OD.alloc (ds:=[_,_,_]) an rfl rfl zeroValue30 rfl (fun b7=>?_);refine aD 1 ?_;refine aN 0 [_,_,_] sizeOf30 ?_;refine aj 49 [0,6,7,19,20,21] ?_;refine cL [0,6,7,8,19,20,21] (Vl.oP vs[i]) ?_;refine ae [0,6,7,8,19,20,21,29] ?_;refine aq (fun bF bY=>?_) (fun bF bY=>?_)
  ·have hne:dL vs[i]≠0:=(by simpa using bF)
   have hf:mj i l[i] vs[i]=dL vs[i]:=if_pos hne;have aS:dW l vs=dL vs[i]:=(by rw[hinv,O2 J6 aa (by rw[hf];exact hne),hf])
   refine ae [4] ?_;exact z46
  have hz:¬dL vs[i]≠0:=(by simpa using bF)
  refine CD.skip ?_;refine CD.seq ?_;refine lT 7 [0,6,7,19,20,21,32,37] ?_;refine bM ?_;refine aD 2 ?_;refine bS 39 (fun U I=>?_) (fun U I=>?_)
  ·refine aD 3 ?_;refine bS 42 (fun qH O=>?_) (fun qH O=>?_)
   ·refine aZ [0,19,20,21,47] ?_;refine ez ?_;exact Vt
   refine aZ [0,19,20,21,47] ?_;refine aq (fun cx c8=>?_) (fun cx c8=>?_)
   ·exact Vt
   exact Vv
  refine aZ [0,19,20,21,47] ?_;refine fF ?_;exact Vv
 have aS:dW l vs=0:=(by rw[hinv];exact aaN w4)
 refine ae [4] ?_;exact tI

end Go.Proofs.YtbcmjoaggammcaaGreatDoor.Pc

namespace Go.Proofs.YtbcmjoaggammcaaGreatDoor.Nm
open List
open Go.Proofs.Tryz
open Go.RowKit V Pk Vl
inductive Tw where
 | mk (k n:Int) (s:ByteArray) (ts:List Tw)
mutual
def Tw.cs:Tw→List D
 | .mk k n s ts=>[.v (.int .i64 k),.v (.int .i64 n),.v (.string s),.list 4 (Tw.lY ts) ts.length]
def Tw.lY:List Tw→List D
 | []=>[]
 | t::r=>t.cs++Tw.lY r
end
theorem Tw.Jd:∀ts:List Tw,Tw.lY ts=ts.flatMap Tw.cs
 | []=>rfl
 | t::r=>by rw[Tw.lY,Tw.Jd r,flatMap_cons]
theorem Tw.EK(t:Tw):t.cs.length=4:=by cases t;rfl
mutual
def Tw.Ok:Tw→Prop
 | .mk k n s ts=>(-9223372036854775808≤k∧k≤9223372036854775807)∧(-9223372036854775808≤n∧n≤9223372036854775807)∧s.size≤maxLen∧ts.length≤maxLen∧Tw.Gt ts
def Tw.Gt:List Tw→Prop
 | []=>True
 | t::r=>t.Ok∧Tw.Gt r
end
theorem Tw.Q8:∀{ts:List Tw},Tw.Gt ts→∀t∈ts,t.Ok
 | [],_,t,h=>by cases h
 | a::r,⟨h1,h2⟩,t,h=>by
  rcases mem_cons.1 h with rfl|h
  ·exact h1
  exact Tw.Q8 h2 t h
theorem Tw.Q9:∀{ts:List Tw},(∀t∈ts,t.Ok)→Tw.Gt ts
 | [],_=>trivial
 | a::r,h=>⟨h a mem_cons_self,Tw.Q9 fun t ht=>h t (mem_cons_of_mem _ ht)⟩

def rF(j:Int):ByteArray:=if j=0 then ⟨#[105,100]⟩ else if j=1 then ⟨#[110]⟩ else if j=2 then ⟨#[115]⟩ else ⟨#[98]⟩
def s8(n:Int)(s:ByteArray):Vl:={oT ⟨n,dV n 40-20,s⟩ with s:=mq (oT ⟨n,dV n 40-20,s⟩).s 4}
def rE(n:Int)(s:ByteArray):aW:=⟨1,s8 n s,⟨#[]⟩⟩
def vV(n:Int):aW:=⟨2,bE,rF (dV n 4)⟩
def qz(k:Int):aW:=⟨k,bE,⟨#[]⟩⟩
def l6(k n:Int)(s:ByteArray):List aW:=if 1+dV k 11=2 then [vV n] else [rE n s]
def gU:Nat→Tw→List aW
 | 0,.mk k n s _=>l6 k n s
 | r+1,.mk k n s ts =>
  if 1+dV k 11=1 then [rE n s]
  else if 1+dV k 11=2 then [vV n]
  else if 1+dV k 11=5∨1+dV k 11=11 then (match ts[0]? with|some t=>gU r t|none=>l6 n 0 s)++[qz (1+dV k 11)]
  else ((match ts[0]? with|some t=>gU r t|none=>l6 n 0 s)++(match ts[1]? with|some t=>gU r t|none=>l6 n 1 s))++[qz (1+dV k 11)]
def gk(r:Nat)(ts:List Tw)(n:Int)(s:ByteArray)(i:Nat):List aW:=match ts[i]? with|some t=>gU r t|none=>l6 n i s
theorem xZ(k n:Int)(s:ByteArray):(l6 k n s).length=1:=by unfold l6;split<;>rfl
theorem IB:∀(r:Nat) (t:Tw),1≤(gU r t).length∧(gU r t).length+1≤2 ^ (r+1)
 | 0,.mk k n s ts=>by rw[gU,xZ];exact⟨by decide,by decide⟩
 | r+1,.mk k n s ts=>by
  have E:∀i:Nat,1≤(gk r ts n s i).length∧(gk r ts n s i).length+1≤2 ^ (r+1):=fun i=>by
   unfold gk;split
   ·exact IB r _
   rw[xZ];exact⟨by decide,by rw[Nat.pow_succ];have:=Nat.one_le_two_pow (n:=r);omega⟩
  have h0:=E 0;have h1:=E 1;unfold gk at h0 h1;have hp:2 ^ (r+1+1)=2 ^ (r+1)+2 ^ (r+1):=(by rw[Nat.pow_succ];omega)
  rw[gU];simp only[Int.natCast_zero,Int.natCast_one] at h0 h1;split
  ·exact⟨by simp,by simp;omega⟩
  split
  ·exact⟨by simp,by simp;omega⟩
  split<;>simp only[length_append,length_cons,length_nil]<;>omega
theorem Ra(r:Nat)(ts:List Tw)(n:Int)(s:ByteArray)(i:Nat):1≤(gk r ts n s i).length∧(gk r ts n s i).length+1≤2 ^ (r+1):=by
 unfold gk;split
 ·exact IB r _
 rw[xZ];exact⟨by decide,by rw[Nat.pow_succ];have:=Nat.one_le_two_pow (n:=r);omega⟩
theorem NH(r:Vl):(oT r).s.size≤10:=by
 unfold oT bE;split
 ·exact Nat.zero_le _
 split
 ·exact Nat.zero_le _
 split
 ·show(mq r.s 10).size≤10;rw[DN];omega
 decide
theorem Rb{j:Nat}(h:j<4):[D.v (.string ⟨#[105,100]⟩),D.v (.string ⟨#[110]⟩),D.v (.string ⟨#[115]⟩),D.v (.string ⟨#[98]⟩)][j*1]?=some (.v (.string (rF (j:Int)))):=by
 match j,h with
 | 0,_|1,_|2,_|3,_=>rfl
variable {G:List (Nat×List Value)}
abbrev wG(ls:List aW)(r:D)(S:List ag):Prop:=fZ cO 61 5 ls r S

theorem Re(k n d:Int)(s:ByteArray)(d4:D)(h4:kp d4=true)(dI:-9223372036854775808≤k)(fj:k≤9223372036854775807)(ga:-9223372036854775808≤n)(iH:n≤9223372036854775807)(hs:s.size≤maxLen)(hd:2<d):VC Tryz.prog G 67 [.agg [.v (.int .i64 k),.v (.int .i64 n),.v (.string s),d4],.v (.int .i64 d)] [] (wG (l6 k n s)):=by
 refine VC.body func67 rfl ntmps67 aO fun X0 w0 aX=>?_;have hpk:=jT k (by decide:(1:Int)≤11);have hpn:=jT n (by decide:(1:Int)≤40);have U:=jT n (by decide:(1:Int)≤4);obtain⟨j,hj⟩:=Int.eq_ofNat_of_zero_le U.1;have Z:j<4:=(by omega)
 have I:=jw G n 4 ga iH w7;rw[hj] at I;have fH:(⟨n,dV n 40-20,s⟩:Vl).Ok:=⟨ga,iH,by show _≤dV n 40-20;omega,by show dV n 40-20≤_;omega,hs⟩
 have VV:=NH ⟨n,dV n 40-20,s⟩;have hml:100≤maxLen:=(by decide)
 obtain⟨kk,kS⟩:∃kk:Int,1+dV k 11=kk:=⟨_,rfl⟩
 refine bX ?_;refine OD.box (ds:=[_,_,_,_]) an rfl rfl ot rfl rfl (fun b2=>?_);refine OD.box (ds:=[_]) an rfl rfl ot rfl rfl (fun b3=>?_);refine aj 69 [2,3] ?_;refine cM [2,3,5] ?_;refine cU (jw G k 11 dI fj w7) ?_;refine aP 0 ?_ (h:=by exact(cW (r:=.int .i64 kk) rfl bC ot (jW (by rw[kS];exact wrap_i64 w4 w4))));refine bM ?_;refine aC 3 ?_;refine bS 14 (fun E O=>?_) (fun E O=>?_)
 ·refine aZ [2,3,5,17] ?_;refine aq (fun az aG=>?_) (fun az aG=>?_)
  ·refine cj [2,3,5] ?_;refine cM [2,5,6] ?_;refine aP 0 ?_ (h:=by exact(oO (ds:=[_,_]) rfl ⟨ot,ot,trivial⟩));refine bM ?_;refine ae [2,5,6,19] ?_;refine ae [2,5,6,19,20] ?_;refine ez ?_;exact TZ
  refine cM [2,5,6] ?_;refine aP 0 ?_ (h:=by exact(oO (ds:=[_,_]) rfl ⟨ot,ot,trivial⟩));refine bM ?_;refine ae [2,5,6,19] ?_;refine ae [2,5,6,19,20] ?_;refine aq (fun aH aU=>?_) (fun aH aU=>?_)
  ·exact TZ
  refine ae [2,5,6,19,40] ?_;refine aq (fun aY bz=>?_) (fun aY bz=>?_)
  ·refine aC 1 ?_;refine ei (bZ 0 [_,_,_,_]) [.string ⟨#[]⟩,.string ⟨#[]⟩,.string ⟨#[]⟩,.string ⟨#[]⟩] [_,_,_,_] zeroValue9 runUnderlying39 sizeOf9 (fun Wx=>?_);refine fG 0 43 1 4 ?_;refine aD 2 ?_;refine dJ call11 (I) ?_;refine aD 1 ?_;refine bJ (cH (mk:=Op.load 9) rfl ot (Bx isAgg9 (Rb Z))) ?_;refine aD 1 ?_;refine ei (bZ 0 [_]) [.int .i64 0,.int .i64 0,.int .i64 0,.string ⟨#[]⟩,.string ⟨#[]⟩] [_,_,_,_,_] zeroValue61 runUnderlying40 sizeOf61 (fun CJ=>?_);exact z28
  exact absurd aY (by simp at az aH aY;omega)
 exact absurd E (by simp at E;omega)

end Go.Proofs.YtbcmjoaggammcaaGreatDoor.Nm

namespace Go.Proofs.YtbcmjoaggammcaaGreatDoor.Nm
open List
open Go.Proofs.Tryz
open Go.RowKit V Pk Vl
variable {G:List (Nat×List Value)}
variable {ts:List Tw} {h:Int}
theorem PB{r:Nat}{n:Int}{s:ByteArray}{i:Nat}(hi:i<ts.length):gU r ts[i]=gk r ts n s i:=by unfold gk;rw[getElem?_eq_getElem hi]
theorem PC{r:Nat}{n:Int}{s:ByteArray}{i:Nat}(hi:ts.length≤i):l6 n i s=gk r ts n s i:=by unfold gk;rw[getElem?_eq_none hi]
theorem vC(r:Nat)(k n:Int)(s:ByteArray)(ts:List Tw):gU (r+1) (.mk k n s ts)=if 1+dV k 11=1 then [rE n s] else if 1+dV k 11=2 then [vV n]
  else if 1+dV k 11=5∨1+dV k 11=11 then gk r ts n s 0++[qz (1+dV k 11)] else (gk r ts n s 0++gk r ts n s 1)++[qz (1+dV k 11)]:=rfl
theorem Jv(r:Nat)(k n d:Int)(s:ByteArray)(ts:List Tw)(i b2 b3:Nat)(IH:∀t∈ts,VC Tryz.prog G 67 [.agg t.cs,.v (.int .i64 (d+1))] [] (wG (gU r t)))(ga:-9223372036854775808≤n)(iH:n≤9223372036854775807)(hs:s.size≤maxLen)(hd1:0≤d)(hd:d≤2)(hi:i≤1):VC Tryz.prog G 104 [.v (.int .i64 (i:Int)),.v (.pointer (some ⟨b2,0,none⟩)),.v (.pointer (some ⟨b3,0,none⟩))] [⟨b3,3,1,[.v (.int .i64 d)]⟩,⟨b2,76,4,[.v (.int .i64 k),.v (.int .i64 n),.v (.string s),.list 4 (ts.flatMap Tw.cs) ts.length]⟩] (fun x S=>∃S1,wG (gk r ts n s i) x S1∧S=S1++[⟨b3,3,1,[.v (.int .i64 d)]⟩,⟨b2,76,4,[.v (.int .i64 k),.v (.int .i64 n),.v (.string s),.list 4 (ts.flatMap Tw.cs) ts.length]⟩]):=by
 refine VC.body func104 rfl ntmps104 aO fun X0 w0 aX=>?_;refine aC 1 ?_;refine OD.wk (Wk.dN (n:=25) (l':=[(0,_),(1,_),(2,_)]) (S':=_) rfl rfl fb) ?_;refine OD.nil ?_;refine aC 5 ?_;refine OD.wk (Wk.dN (n:=25) (l':=[(0,_),(1,_),(2,_),(9,_)]) (S':=_) rfl rfl fb) ?_;refine OD.nil ?_;refine aq (fun az aG=>?_) (fun az aG=>?_)
 ·have aa:i<ts.length:=(by omega)
  refine CD.seq ?_;refine CD.draw (ap _) ay (fun _ h=>h) ?_;refine ax 0 rfl (cX 3) ?_;refine ax 1 rfl (dx 1) ?_;refine ax 2 rfl bg ?_;refine ax 3 rfl (dy 4) ?_;refine ax 4 rfl (cH (mk:=Op.load 76) rfl ot (by first|exact pO (k:=0) (ds:=[_,_,_,_]) rfl rfl isAgg76 sizeOf76 rfl rfl|exact pO (k:=1) (ds:=[_,_,_,_]) rfl rfl isAgg76 sizeOf76 rfl rfl|exact jM Tw.EK isAgg76 sizeOf76 w5|exact dK (k:=0) Tw.EK rfl rfl rfl isAgg76 sizeOf76 w5|exact dK (k:=1) Tw.EK rfl rfl rfl isAgg76 sizeOf76 w5|exact pT (ds:=[_,_,_,_]) isAgg76 sizeOf76 rfl rfl)) ?_;refine ax 5 rfl (dx 0) ?_;refine ax 6 rfl mz ?_;refine dg.later rfl ?_;refine AD.one (i:=7) ay ?_;refine bf.call rfl an rfl rfl rfl call67 (IH _ (getElem_mem aa)) ⟨ot,ot,trivial⟩ (eH _) (fun _ h=>h) ?_;rintro _ O ⟨U,Z,rfl,E⟩;refine cr 8 rfl bg ?_;refine AD.wk (y:=⟨25,[(4,_)],((O++[_,_]))⟩) (Wk.dN rfl rfl fb) rfl ?_;refine AD.done ay ?_;refine aJ _ ?_;first|exact⟨_,fZ.cast (fZ.mk E) (PB aa),rfl⟩|exact⟨_,fZ.cast (fZ.mk I) (PC w4),rfl⟩
 refine aC 6 ?_;refine OD.call an rfl rfl rfl call67 (Re n (i:Int) 9 s (.v (.slice none 0 0)) rfl ga iH w4 w4 hs w7) ⟨ot,bC,trivial⟩ (eH _) ?_;rintro _ S24 ⟨anY,anZ,rfl,I⟩;refine aD 1 ?_;refine OD.wk (Wk.dN (n:=25) (l':=[(4,_)]) (S':=_) rfl rfl fb) ?_;refine OD.nil ?_;refine aJ _ ?_;first|exact⟨_,fZ.cast (fZ.mk E) (PB aa),rfl⟩|exact⟨_,fZ.cast (fZ.mk I) (PC w4),rfl⟩
theorem GX:(Tryz.prog.info? 61).map (fun i=>(i.zero,i.size,i.bytes))=some (some (.agg #[.int .i64 0,.int .i64 0,.int .i64 0,.string ⟨#[]⟩,.string ⟨#[]⟩]),5,56):=by kernel_rfl
theorem acB(r:Nat)(hr:r≤2)(k n d:Int)(s:ByteArray)(ts:List Tw)(IH:∀t∈ts,VC Tryz.prog G 67 [.agg t.cs,.v (.int .i64 (d+1))] [] (wG (gU r t)))(dI:-9223372036854775808≤k)(fj:k≤9223372036854775807)(ga:-9223372036854775808≤n)(iH:n≤9223372036854775807)(hs:s.size≤maxLen)(hd1:0≤d)(hd:d≤2):VC Tryz.prog G 67 [.agg [.v (.int .i64 k),.v (.int .i64 n),.v (.string s),.list 4 (ts.flatMap Tw.cs) ts.length],.v (.int .i64 d)] [] (wG (gU (r+1) (.mk k n s ts))):=by
 refine VC.body func67 rfl ntmps67 aO fun X0 w0 aX=>?_;have hpk:=jT k (by decide:(1:Int)≤11);have hpn:=jT n (by decide:(1:Int)≤40);have hpc:=jT n (by decide:(1:Int)≤4);obtain⟨j,hj⟩:=Int.eq_ofNat_of_zero_le hpc.1;have hj4:j<4:=(by omega)
 have I:=jw G n 4 ga iH w7;rw[hj] at I;have fH:(⟨n,dV n 40-20,s⟩:Vl).Ok:=⟨ga,iH,by show _≤dV n 40-20;omega,by show dV n 40-20≤_;omega,hs⟩
 have VV:=NH ⟨n,dV n 40-20,s⟩;have hml:100≤maxLen:=(by decide)
 obtain⟨kk,kS⟩:∃kk:Int,1+dV k 11=kk:=⟨_,rfl⟩
 have mw:=Ra r ts n s 0;have jN:=Ra r ts n s 1;have h2p:2 ^ (r+1)≤8:=Nat.pow_le_pow_right w7 (show r+1≤3 by omega);refine bX ?_;refine OD.box (ds:=[_,_,_,_]) an rfl rfl ot rfl rfl (fun b2=>?_);refine OD.box (ds:=[_]) an rfl rfl ot rfl rfl (fun b3=>?_);refine aj 69 [2,3] ?_;refine cM [2,3,5] ?_;refine cU (jw G k 11 dI fj w7) ?_;refine aP 0 ?_ (h:=by exact(cW (r:=.int .i64 kk) rfl bC ot (jW (by rw[kS];exact wrap_i64 w4 w4))));refine bM ?_;refine aC 3 ?_;refine bS 14 (fun E Z=>?_) (fun E Z=>?_)
 ·exact absurd E (by simp at E;omega)
 refine aZ [2,3,5,17] ?_;refine fF ?_;refine cM [2,5,6] ?_;refine aP 0 ?_ (h:=by exact(oO (ds:=[_,_]) rfl ⟨ot,ot,trivial⟩));refine bM ?_;refine ae [2,5,6,19] ?_;refine ae [2,5,6,19,20] ?_;refine aq (fun aH aU=>?_) (fun aH aU=>?_)
 ·refine CD.seq ?_;refine tJ 11 10 [5,7,31] ?_;refine cU (jw G n 40 ga iH w7) ?_;refine cU (O3 ⟨n,dV n 40-20,s⟩ fH) ?_;refine qV ?_;refine jP ?_;refine⟨rfl,fun b7=>?_⟩;refine aN 0 [_,_,_] sizeOf30 ?_;refine aj 69 [5,7] ?_;refine aC 2 ?_;refine dJ call22 (AT (oT ⟨n,dV n 40-20,s⟩).s 4 w4) ?_;refine aD 1 ?_;refine aN 0 [_,_,_] sizeOf9 ?_;refine aj 69 [5,7] ?_;refine aC 3 ?_;refine ei (bZ 0 [_]) [.int .i64 0,.int .i64 0,.int .i64 0,.string ⟨#[]⟩,.string ⟨#[]⟩] [_,_,_,_,_] zeroValue61 runUnderlying40 sizeOf61 (fun Cb=>?_);exact z53
 refine ae [2,5,6,19,40] ?_;refine aq (fun aY bz=>?_) (fun aY bz=>?_)
 ·refine aC 1 ?_;refine ei (bZ 0 [_,_,_,_]) [.string ⟨#[]⟩,.string ⟨#[]⟩,.string ⟨#[]⟩,.string ⟨#[]⟩] [_,_,_,_] zeroValue9 runUnderlying39 sizeOf9 (fun Wx=>?_);refine fG 0 43 1 4 ?_;refine aD 2 ?_;refine dJ call11 (I) ?_;refine aD 1 ?_;refine bJ (cH (mk:=Op.load 9) rfl ot (Bx isAgg9 (Rb hj4))) ?_;refine aD 1 ?_;refine ei (bZ 0 [_]) [.int .i64 0,.int .i64 0,.int .i64 0,.string ⟨#[]⟩,.string ⟨#[]⟩] [_,_,_,_,_] zeroValue61 runUnderlying40 sizeOf61 (fun CJ=>?_);exact z53
 refine ae [5,6,19,51] ?_;refine aq (fun bF bY=>?_) (fun bF bY=>?_)
 ·refine ez ?_;exact U9
 refine cj [5,6,51] ?_;refine aq (fun cx c8=>?_) (fun cx c8=>?_)
 ·exact U9
 refine aC 1 ?_;refine OD.jY (f:=104) (args:=[_]) (all:=[_,_,_]) (Sf:=[_,_]) (R:=[]) an rfl rfl ot call104 (Jv r k n d s ts 0 b2 b3 IH ga iH hs hd1 hd w7) rfl ⟨bC,trivial⟩ (Perm.refl _) ?_;rintro _ _ ⟨Wy,⟨an0,an1,rfl,ahS⟩,rfl⟩;refine OD.perm (O0 (A:=[_,_])) ?_;refine aD 1 ?_;refine OD.jY (f:=104) (args:=[_]) (all:=[_,_,_]) (Sf:=[_,_]) (R:=Wy) an rfl rfl ot call104 (Jv r k n d s ts 1 b2 b3 IH ga iH hs hd1 hd w7) rfl ⟨bC,trivial⟩ (Perm.refl _) ?_;rintro _ _ ⟨CA,⟨Uj,wE,rfl,BD⟩,rfl⟩;refine OD.perm (aau (A:=[_,_])) ?_;refine OD.gd (t:=63) (Sq:=CA) lk BD (cl mI _) (xW (A:=[_,_])) ?_;refine OD.en (ls:=(gk r ts n s 0)) (new:=(gk r ts n s 1)) (Sq:=Wy) mI I5 an rfl rfl underlying40 GX rfl w7 ot ahS (dB (A:=[_,_])) ot w4 zo zo (fun CK O ahT ahU=>?_);refine OD.perm (dY (S1:=[⟨CK,61,O*5,flatMap cO ((gk r ts n s 0)++(gk r ts n s 1))⟩]) (A:=[_,_])) ?_;refine aD 2 ?_;refine ei (bZ 0 [_]) [.int .i64 0,.int .i64 0,.int .i64 0,.string ⟨#[]⟩,.string ⟨#[]⟩] [_,_,_,_,_] zeroValue61 runUnderlying40 sizeOf61 (fun qg=>?_);refine fG 0 67 5 1 ?_
 refine OD.en (ls:=((gk r ts n s 0)++(gk r ts n s 1))) (new:=[(⟨kk,bE,⟨#[]⟩⟩:aW)]) (Sq:=[⟨CK,61,O*5,flatMap cO ((gk r ts n s 0)++(gk r ts n s 1))⟩]) mI I5 an rfl rfl underlying40 GX rfl w7 ot (bD ahT ahU) (dB (A:=[_,_])) ot bw zo zo (fun Wz U ahV ahW=>?_);refine OD.perm (dY (S1:=[⟨Wz,61,U*5,flatMap cO (((gk r ts n s 0)++(gk r ts n s 1))++[(⟨kk,bE,⟨#[]⟩⟩:aW)])⟩]) (A:=[_,_])) ?_;refine aj 69 [4] ?_;refine aJ [⟨Wz,61,U*5,flatMap cO (((gk r ts n s 0)++(gk r ts n s 1))++[(⟨kk,bE,⟨#[]⟩⟩:aW)])⟩] ?_;exact fZ.cast (fZ.mk (bD ahV ahW)) (by rw[vC,kS,if_neg w4,if_neg w4,if_neg w4];rfl)
theorem SB:∀(r:Nat),r≤3→∀(t:Tw),t.Ok→VC Tryz.prog G 67 [.agg t.cs,.v (.int .i64 (3-(r:Int)))] [] (wG (gU r t))
 | 0,_,.mk k n s ts,h=>Re k n 3 s (.list 4 (Tw.lY ts) ts.length) rfl h.1.1 h.1.2 h.2.1.1 h.2.1.2 h.2.2.1 w7
 | r+1,hr,.mk k n s ts,h=>by
  have:=acB (G:=G) r w4 k n (3-((r+1:Nat):Int)) s ts (fun t ht=>by
   have h1:=SB r w4 t (Tw.Q8 h.2.2.2.2 t ht);rw[show(3-((r+1:Nat):Int)+1)=3-(r:Int) by omega];exact h1) h.1.1 h.1.2 h.2.1.1 h.2.1.2 h.2.2.1 w4 w4
  rw[←Tw.Jd] at this;exact this
theorem aeo(t:Tw)(h:t.Ok):VC Tryz.prog G 43 [.agg t.cs] [] (wG (gU 3 t)):=by
 refine VC.body func43 rfl ntmps43 aO fun X0 w0 aX=>?_;obtain⟨k,n,s,ts⟩:=t;have E:=SB (G:=G) 3 (Nat.le_refl _) (.mk k n s ts) h;unfold Tw.cs at E ⊢;refine bX ?_;refine OD.box (ds:=[_,_,_,_]) an rfl rfl ot rfl rfl (fun b1=>?_);refine aj 5 [1] ?_;refine aC 1 ?_;refine OD.call an rfl rfl rfl call67 (E) ⟨ot,bC,trivial⟩ (eH _) ?_;rintro _ O ⟨U,Z,rfl,I⟩;refine OD.perm dY ?_;refine aj 5 [2] ?_;refine aJ O ?_;exact fZ.mk I
theorem SC(t:Tw)(h:t.Ok):VP Tryz.prog G 43 [.agg t.cs] (.list 5 ((gU 3 t).flatMap cO) (gU 3 t).length):=(aeo t h).given mI

def runs:Int→List aW→Option Int
 | h,[]=>some h
 | h,o::r=>if eX h o=0 then runs (h+(1-bQ o.k)) r else none
theorem xO:∀(a b:List aW) (h:Int),runs h (a++b)=(runs h a).bind fun h'=>runs h' b
 | [],b,h=>rfl
 | o::r,b,h=>by
  rw[cons_append,runs,runs];split
  ·exact xO r b _
  rfl
theorem NI:∀{a:List aW} {h h':Int} (b:List aW),runs h a=some h'→fy h (a++b)=fy h' b
 | [],h,h',b,e=>by cases e;rfl
 | o::r,h,h',b,e=>by
  rw[runs] at e;split at e
  ·rename_i h0;rw[cons_append,fy,if_pos h0];exact NI b e
  cases e
theorem acC:((⟨#[]⟩:ByteArray).toList==(⟨#[]⟩:ByteArray).toList)=true:=by simp
theorem Oe:zeroV bE=true:=by unfold zeroV bE;simp
theorem PF:iE bE=0:=by decide
theorem aaO(n:Int)(s:ByteArray):iE (s8 n s)=0:=by
 have h1:=jT n (by decide:(1:Int)≤40);have h2:=jT (dV n 40-20) (by decide:(1:Int)≤2);have hc:(mq (mq s 10) 4).size≤4:=(by rw[DN];omega)
 have he:mq (⟨#[]⟩:ByteArray) 4=ByteArray.empty:=Iq (by rw[N6];rfl);unfold iE s8 oT;split
 ·simp[dL,he];omega
 split
 ·simp[dL,he];omega
 split
 ·simp[dL];omega
 unfold bE;simp[dL,he]
theorem Rf(h0:0≤h)(n:Int)(s:ByteArray):eX h (rE n s)=0:=by
 unfold eX rE;rw[aaO];simp[bQ];omega
theorem aaP(j:Int):cJ (rF j)=0:=by
 unfold rF;split
 ·exact sD (l:=[105,100]) w7 w7 w7
 split
 ·exact sD (l:=[110]) w7 w7 w7
 split
 ·exact sD (l:=[115]) w7 w7 w7
 exact sD (l:=[98]) w7 w7 w7
theorem Rg(h0:0≤h)(n:Int):eX h (vV n)=0:=by
 unfold eX vV;rw[PF,Oe,aaP];simp[bQ];omega
theorem PG{k:Int}(h1:3≤k)(h2:k≤11)(E:bQ k≤h):eX h (qz k)=0:=by
 unfold eX qz;simp only[PF,Oe,acC];rw[if_neg w4,if_neg bw,if_neg bw,if_neg w4,if_neg w4]
theorem Of(h0:0≤h)(k n:Int)(s:ByteArray):runs h (l6 k n s)=some (h+1):=by
 unfold l6;split
 ·rw[runs,if_pos (Rg h0 n),runs];rfl
 rw[runs,if_pos (Rf h0 n s),runs];rfl
theorem PI:∀(r:Nat) (t:Tw) (h:Int),0≤h→runs h (gU r t)=some (h+1)
 | 0,.mk k n s ts,h,h0=>Of h0 k n s
 | r+1,.mk k n s ts,h,h0=>by
  have E:∀(i:Nat) (h:Int),0≤h→runs h (gk r ts n s i)=some (h+1):=fun i h h0=>by
   unfold gk;split
   ·exact PI r _ h h0
   exact Of h0 _ _ _
  have hk:=jT k (by decide:(1:Int)≤11);rw[vC];split
  ·rw[runs,if_pos (Rf h0 n s),runs];rfl
  split
  ·rw[runs,if_pos (Rg h0 n),runs];rfl
  split
  ·rename_i h3;rw[xO,E 0 h h0,Option.bind_some,runs,if_pos (PG w4 w4 (by unfold bQ;rw[if_neg w4,if_pos h3];omega)),runs];unfold qz bQ;rw[if_neg (by simp only[];omega),if_pos h3];simp
  rename_i h3;rw[xO,xO,E 0 h h0,Option.bind_some,E 1 (h+1) w4,Option.bind_some,runs,if_pos (PG w4 w4 (by unfold bQ;rw[if_neg w4,if_neg h3];omega)),runs];unfold qz bQ;rw[if_neg (by simp only[];omega),if_neg h3];congr 1;omega
theorem Og(t:Tw):1≤(gU 3 t).length∧(gU 3 t).length≤15:=by
 have:=IB 3 t;omega
theorem Oh(t:Tw):iD (gU 3 t)=0:=by
 unfold iD;rw[if_neg (by have:=Og t;omega)];have:=NI [] (PI 3 t 0 (Int.le_refl _));rw[append_nil] at this;rw[this];rfl
theorem aaQ(t:Tw):∀o∈gU 3 t,o.nm.size≤2:=by
 have hn:∀j:Int,(rF j).size≤2:=fun j=>by
  unfold rF;split
  ·decide
  split
  ·decide
  split<;>decide
 have E:∀k n s,∀o∈l6 k n s,o.nm.size≤2:=fun k n s o ho=>by
  unfold l6 at ho;split at ho<;>(simp only[mem_singleton] at ho;subst ho)
  ·exact hn _
  exact Nat.zero_le _
 have key:∀(r:Nat) (t:Tw),∀o∈gU r t,o.nm.size≤2:=by
  intro r;induction r with
  | zero=>intro t;obtain⟨k,n,s,ts⟩:=t;exact E k n s
  | succ r ih =>
   intro t o ho;obtain⟨k,n,s,ts⟩:=t;have I:∀i:Nat,∀o∈gk r ts n s i,o.nm.size≤2:=fun i o ho=>by
    unfold gk at ho;split at ho
    ·exact ih _ o ho
    exact E _ _ _ o ho
   have hb:∀k,(qz k).nm.size≤2:=fun k=>Nat.zero_le _;rw[vC] at ho;split at ho
   ·simp only[mem_singleton] at ho;subst ho;exact Nat.zero_le _
   split at ho
   ·simp only[mem_singleton] at ho;subst ho;exact hn _
   split at ho
   ·rcases mem_append.1 ho with ho|ho
    ·exact I 0 o ho
    simp only[mem_singleton] at ho;subst ho;exact hb _
   rcases mem_append.1 ho with ho|ho
   ·rcases mem_append.1 ho with ho|ho
    ·exact I 0 o ho
    exact I 1 o ho
   simp only[mem_singleton] at ho;subst ho;exact hb _
 exact key 3 t
theorem aaR{l:List aW}(h:∀o∈l,o.nm.size≤2):∀o∈l,o.nm.size≤maxLen:=fun o ho=>Nat.le_trans (h o ho) w7
theorem PJ{H:Type}{enc:TypeId×Value→H}{w:World}{base:Nat}{sp:Nat→Bool}{held:Bool}:∀n,lR n enc Tryz.prog w base sp held 76 Tw.cs Tw.Ok:=by
 intro n;induction n using Nat.strongRecOn with
 | _ n ih =>
  intro cs x h;obtain⟨⟨k,m,s,ts⟩,h1,h2,h3,h4,h5⟩:=Yc (fuel:=n) (n0:=1) (n1:=1) (n2:=1) (n3:=1) underlying76 ay rfl rfl rfl rfl ay ay ay ay
   (fun q _=>(uy underlying3).at q) (fun q _=>(uy underlying3).at q) (fun q _=>(N0 underlying9).at q) (fun q hq=>N4 (sz:=4) underlying74 ay w7 (fun z hz=>ih z w4) Tw.EK) cs x h
  refine⟨.mk k m s ts,?_,h2,h3,h4,h5.2,Tw.Q9 h5.1⟩;unfold Tw.cs;rw[Tw.Jd];exact h1

end Go.Proofs.YtbcmjoaggammcaaGreatDoor.Nm
namespace Go.Proofs.YtbcmjoaggammcaaGreatDoor.Ex
open List
open Go.Proofs.Tryz
open Go.RowKit V Pk Vl Go.Proofs.YtbcmjoaggammcaaGreatDoor.Nm Pc
variable {α:Type} {l:List aW} {i:Nat} {h:Int}
theorem yh(p:α→Bool)(ls:List α):-1≤dO p ls∧dO p ls<ls.length:=by
 unfold dO;cases h:ls.findIdx? p with
 | none=>simp;omega
 | some i=>have:=(findIdx?_eq_some_iff_findIdx_eq.1 h).1;simp;omega
def bN(l:List cu)(nm:ByteArray):Int:=dO (fun c=>c.n.toList==nm.toList) l
def qZ(a b:Int):Bool:=a==b||a==0
def okF(k a b:Int):Bool :=
 if k=3∨k=4 then qZ a 1&&qZ b 1 else if k=5 then qZ a 1 else if k=6∨k=7 then qZ a b||b==0 else if k=8∨k=9∨k=10 then qZ a 2&&qZ b 2 else true
def wm(k:Int):Int:=if k=8∨k=9∨k=10 then 2 else 1
def uz(l:List cu)(nm:ByteArray):Int×Int:=if bN l nm<0 then (0,8) else ((l.getD (bN l nm).toNat ⟨⟨#[]⟩,0⟩).k,0)
def iN(l:List cu)(o:aW)(a b:Int):Int×Int :=
 if o.k=1 then (o.v.k,0) else if o.k=2 then uz l o.nm else if okF o.k a b=true then (wm o.k,0) else (0,4)
def e9(z:α)(k:Int)(st:List α):α:=if 0<bQ k then st.getD (st.length-(bQ k).toNat) z else z
def eT(z:α)(k:Int)(st:List α):α:=if 1<bQ k then st.getD (st.length-(bQ k).toNat+1) z else z
def jq{α:Type}(z:α)(f:aW→α→α→α × Int):List aW→List α→α × Int
 | [],st=>(st.getD 0 z,0)
 | o::r,st =>
  if (f o (e9 z o.k st) (eT z o.k st)).2≠0 then (z,(f o (e9 z o.k st) (eT z o.k st)).2)
  else jq z f r (st.take (st.length-(bQ o.k).toNat)++[(f o (e9 z o.k st) (eT z o.k st)).1])
theorem Qz{z:α}{f:aW→α→α→α × Int}{st:List α}(hi:i<l.length)(h:(f l[i] (e9 z l[i].k st) (eT z l[i].k st)).2≠0) :
  jq z f (l.drop i) st=(z,(f l[i] (e9 z l[i].k st) (eT z l[i].k st)).2):=by rw[drop_eq_getElem_cons hi,jq,if_pos h]
theorem Qv{z:α}{f:aW→α→α→α × Int}{st:List α}(hi:i<l.length)(h:(f l[i] (e9 z l[i].k st) (eT z l[i].k st)).2=0) :
  jq z f (l.drop i) st=jq z f (l.drop (i+1)) (st.take (st.length-(bQ l[i].k).toNat)++[(f l[i] (e9 z l[i].k st) (eT z l[i].k st)).1]):=by
 rw[drop_eq_getElem_cons hi,jq,if_neg (by rw[h];simp)]
theorem PM{z:α}{f:aW→α→α→α × Int}{st:List α}(hi:¬i<l.length):jq z f (l.drop i) st=(st.getD 0 z,0):=by
 rw[drop_of_length_le w4];rfl
theorem Oi(hi:i<l.length)(h0:fy h (l.drop i)=0):eX h l[i]=0∧fy (h+(1-bQ l[i].k)) (l.drop (i+1))=0:=by
 rw[drop_eq_getElem_cons hi,fy] at h0;by_cases he:eX h l[i]=0
 ·rw[if_pos he] at h0;exact⟨he,h0⟩
 rw[if_neg he] at h0;exact absurd h0 he
theorem PN(hi:¬i<l.length)(h0:fy h (l.drop i)=0):h=1:=by
 rw[drop_of_length_le w4,fy] at h0;split at h0
 ·assumption
 cases h0
theorem vH{o:aW}(he:eX h o=0):bQ o.k≤h∧(1≤o.k∧o.k≤11)∧iE o.v=0∧(o.k=2→cJ o.nm=0):=by
 unfold eX at he;split at he
 ·cases he
 split at he
 ·rename_i h2;exact absurd he h2
 split at he
 ·cases he
 split at he
 ·rename_i h4;exact absurd he h4.2
 split at he
 ·cases he
 rename_i q1 q2 I E O;refine⟨by omega,by omega,by simpa using q2,fun hk=>?_⟩;by_cases hn:cJ o.nm=0
 ·exact hn
 exact absurd ⟨hk,hn⟩ E
def sY(l:List cu)(ops:List aW):Int×Int:=jq 0 (iN l) ops []
def ec(l:List cu)(ops:List aW):Int×Int:=if fw l≠0 then (0,fw l) else if iD ops≠0 then (0,iD ops) else sY l ops
def ph(r:Int×Int):D:=.dz [.v (.int .i64 r.1),.v (.int .i64 r.2)]
def cI(n:Int):List D:=[.v (.int .i64 n)]
theorem ev(n:Int):(cI n).length=1:=rfl
theorem nf(n:Int):(cI n).all V.one=true:=rfl
theorem vK{ops:List aW}(h:iD ops=0):ops.length≤40∧fy 0 ops=0:=by
 unfold iD at h;split at h
 ·cases h
 exact⟨by omega,h⟩
variable {G:List (Nat×List Value)}
theorem Ea(k:Int):VP Tryz.prog G 157 [.v (.int .i64 k)] (.v (.int .i64 (bQ k))):=by
 refine VC.body func157 rfl ntmps157 aO fun X0 w0 aX=>?_;exact Ve
theorem Ze(c:cu)(nm:ByteArray)(b:Nat):VC Tryz.prog G 181 [.agg (cC c),.v (.pointer (some ⟨b,0,none⟩))] [⟨b,9,1,[.v (.string nm)]⟩] (fun r S=>r = .v (.bool (c.n.toList==nm.toList))∧S=[⟨b,9,1,[.v (.string nm)]⟩]):=by
 refine VC.body func181 rfl ntmps181 aO fun X0 w0 aX=>?_;exact z138
theorem qx(l:List cu)(hl:l.length≤6)(nm:ByteArray):VP Tryz.prog G 160 [.list 2 (l.flatMap cC) l.length,.v (.string nm)] (.v (.int .i64 (bN l nm))):=by
 refine VC.body func160 rfl ntmps160 aO fun X0 w0 aX=>?_;refine bX ?_;refine OD.box (ds:=[_]) an rfl rfl ot rfl rfl (fun b3=>?_);refine aj 8 [0,3] ?_;refine aC 1 ?_;refine bJ (oO (ds:=[_]) rfl ⟨ot,trivial⟩) ?_;refine OD.call an rfl rfl rfl call119 (HN l 181 [.v (.pointer (some ⟨b3,0,none⟩))] _ (fun c=>c.n.toList==nm.toList) call181 (fun h _=>Ze h nm b3) w4) ⟨ot,ot,trivial⟩ (jU (k:=0) rfl) ?_;rintro _ S2 ⟨rfl,ig⟩;rw[ig];clear ig;refine aj 8 [4] ?_;exact z51
theorem yB(a b:Int):VP Tryz.prog G 176 [.v (.int .i64 a),.v (.int .i64 b)] (.v (.bool (qZ a b))):=by
 refine VC.body func176 rfl ntmps176 aO fun X0 w0 aX=>?_;refine ae [0,1] ?_;refine aC 4 ?_;refine bS 8 (fun I E=>?_) (fun I E=>?_)
 ·refine aZ [4] ?_;refine eA ?_;refine⟨vb ?_,rfl⟩;unfold qZ;simp_all
 refine aZ [4] ?_;refine eA ?_;refine⟨vb ?_,rfl⟩;unfold qZ;simp_all
theorem acD(l:List cu)(hl:l.length≤6)(o:aW)(a b:Int):VP Tryz.prog G 154 [.agg (cO o),.list 2 (l.flatMap cC) l.length,.v (.int .i64 a),.v (.int .i64 b)] (ph (iN l o a b)):=by
 refine VC.body func154 rfl ntmps154 aO fun X0 w0 aX=>?_;unfold cO ph;have U:=yh (fun c:cu=>c.n.toList==o.nm.toList) l;have E:bN l o.nm=dO (fun c:cu=>c.n.toList==o.nm.toList) l:=rfl;rw[←E] at U;clear E;refine bX ?_;refine OD.box (ds:=[_,_,_,_,_]) an rfl rfl ot rfl rfl (fun b4=>?_);refine aj 76 [1,2,3,4] ?_;refine ae [1,2,3,4,10] ?_;refine ae [1,2,3,4,10,11,12] ?_;refine ae [1,2,3,4,10,11,12,15] ?_;refine ae [1,2,3,4,10,11,12,15,16] ?_;refine aq (fun az aG=>?_) (fun az aG=>?_)
 ·exact z22
 refine ae [1,2,3,4,10,11,12,15,21] ?_;refine aq (fun aH aU=>?_) (fun aH aU=>?_)
 ·refine cL [1,13] (qx l hl o.nm) ?_;refine ae [1,13,28] ?_;refine aq (fun aY bz=>?_) (fun aY bz=>?_)
  ·have dh:uz l o.nm=(0,8):=(by unfold uz;rw[if_pos w4])
   exact z22
  have Z:(bN l o.nm).toNat<l.length:=(by omega)
  have dh:uz l o.nm=(l[(bN l o.nm).toNat].k,0):=(by unfold uz;rw[if_neg w4,getD_eq_getElem?_getD,getElem?_eq_getElem Z];rfl)
  exact z22
 refine ae [2,3,10,11,12,15,34] ?_;refine aq (fun bF bY=>?_) (fun bF bY=>?_)
 ·refine ez ?_;exact z116
 refine cj [2,3,10,11,12,15,34] ?_;refine aq (fun cx c8=>?_) (fun cx c8=>?_)
 ·exact z116
 refine ae [2,3,10,11,12,15,45] ?_;refine aq (fun dP er=>?_) (fun dP er=>?_)
 ·refine dw 2 ?_;refine OD.jY (f:=176) (args:=[_,_]) (all:=[_,_]) (Sf:=[]) an rfl rfl ot call176 (yB a 1) rfl ⟨ot,bC,trivial⟩ (eH _) ?_;rintro _ _ ⟨rfl,rfl⟩;exact z21
 refine ae [2,3,10,11,12,15,50] ?_;refine aq (fun eN fR=>?_) (fun eN fR=>?_)
 ·refine ez ?_;exact T0
 refine cj [2,3,10,11,12,15,50] ?_;refine aq (fun eG fY=>?_) (fun eG fY=>?_)
 ·exact T0
 refine ae [2,3,10,11,12,15,61] ?_;refine aq (fun kR I=>?_) (fun kR I=>?_)
 ·refine ez ?_;exact J9
 refine ae [2,3,10,11,12,15,61] ?_;refine aq (fun sC O=>?_) (fun sC O=>?_)
 ·refine ez ?_;exact J9
 refine cj [2,3,10,11,12,61] ?_;refine aq (fun s6 rC=>?_) (fun s6 rC=>?_)
 ·exact J9
 refine ae [12,74] ?_;refine fF ?_;refine ae [8,9] ?_;refine aJ [] ?_;refine⟨?_,rfl⟩;unfold iN okF wm;simp_all
theorem NW(l:List cu)(hl:l.length≤6)(o:aW)(a b a' I:Int)(ha:a=a')(hb:b=I)(b2:Nat):VC Tryz.prog G 153 [.agg (cO o),.v (.int .i64 a'),.v (.int .i64 I),.v (.pointer (some ⟨b2,0,none⟩))] [⟨b2,38,1,[.list 2 (l.flatMap cC) l.length]⟩] (fun r S=>r=ph (iN l o a b)∧S=[⟨b2,38,1,[.list 2 (l.flatMap cC) l.length]⟩]):=by
 refine VC.body func153 rfl ntmps153 aO fun X0 w0 aX=>?_;subst ha hb;have E:=acD (G:=G) l hl o a b;unfold cO at E ⊢;unfold ph at E ⊢;refine bX ?_;refine OD.box (ds:=[_,_,_,_,_]) an rfl rfl ot rfl rfl (fun b4=>?_);refine aj 16 [1,2,3,4] ?_;refine cL [7,8] (E) ?_;refine aJ [⟨b2,38,1,[.list 2 (l.flatMap cC) l.length]⟩] ?_;exact⟨rfl,rfl⟩
theorem YR:(Tryz.prog.info? 3).map (fun i=>(i.zero,i.size,i.bytes))=some (some (.int .i64 0),1,8):=by kernel_rfl
theorem aaS(l:List cu)(hl:l.length≤6)(ops:List aW)(pD:ops.length≤40)(hx:fy 0 ops=0)(b2:Nat):VC Tryz.prog G 152 [.list 5 (ops.flatMap cO) ops.length,.eo (.func 153) [.v (.pointer (some ⟨b2,0,none⟩))]] [⟨b2,38,1,[.list 2 (l.flatMap cC) l.length]⟩] (fun r S=>r=ph (sY l ops)∧S=[⟨b2,38,1,[.list 2 (l.flatMap cC) l.length]⟩]):=by
 refine VC.body func152 rfl ntmps152 aO fun X0 w0 aX=>?_;unfold ph;refine ae [0,1] ?_;refine ae [0,1,6] ?_;refine bX ?_;refine aZ [0,1,6,7] ?_;refine ae [1,6,7,16,17,18] ?_;refine CD.block ?_;refine mB (fun (E:Nat×List Int×Option Addr×Nat×List ag) aK=>match E with|(i,st,I,jQ,Z)=>(i≤ops.length)∧(st.length≤i)∧(fy ((st.length:Nat):Int) (ops.drop i)=0)∧(sY l ops=jq 0 (iN l) (ops.drop i) st)∧(bu 3 1 ((st).flatMap cI) (st).length I jQ Z)∧aK=(⟨64,[(1,.eo (.func 153) [.v (.pointer (some ⟨b2,0,none⟩))]),(6,.v (.int .i64 0)),(7,.v (.slice I (st).length jQ)),(16,.list 5 (ops.flatMap cO) ops.length),(17,.v (.int .i64 (ops.length:Nat))),(18,.v (.int .i64 (i:Nat)))],(⟨b2,38,1,[.list 2 (l.flatMap cC) l.length]⟩::Z)⟩:St)) (fun (E:Nat×List Int×Option Addr×Nat×List ag)=>match E with|(i,st,I,jQ,Z)=>ops.length-i) (0,[],none,0,[]) ⟨(Nat.zero_le _),(Nat.zero_le _),hx,rfl,(bu.cast iA lu),rfl⟩ (aM (h:=by repeat (first|exact trivial|refine⟨FN,?_⟩))) ?_;rintro⟨i,st,I,jQ,Z⟩ _ ⟨hi,fq,hex,hinv,nw,rfl⟩;refine ae [1,6,7,16,17,18,19] ?_;refine aq (fun az aG=>?_) (fun az aG=>?_)
 ·have aa:i<ops.length:=(by omega)
  obtain⟨he,xB⟩:=Oi aa hex;obtain⟨qU,Uk,xC,qh⟩:=vH he;have Cz:=sM ops[i].k;have r8:(st.take (st.length-(bQ ops[i].k).toNat)++[(iN l ops[i] (e9 0 ops[i].k st) (eT 0 ops[i].k st)).1]).length=st.length+1-(bQ ops[i].k).toNat:=(by rw[length_append,length_take,length_singleton];omega)
  have nx:fy (((st.take (st.length-(bQ ops[i].k).toNat)++[(iN l ops[i] (e9 0 ops[i].k st) (eT 0 ops[i].k st)).1]).length:Nat):Int) (ops.drop (i+1))=0:=(by rw[r8,show(((st.length+1-(bQ ops[i].k).toNat:Nat)):Int)=(st.length:Int)+(1-bQ ops[i].k) by omega];exact xB)
  refine aC 2 ?_;refine OD.alloc (ds:=[_,_,_,_,_]) an rfl rfl zeroValue61 rfl (fun b9=>?_);refine aN 0 [_,_,_,_,_] sizeOf61 ?_;refine aj 64 [1,6,7,9,16,17,18] ?_;refine ae [1,6,7,9,10,11,16,17,18] ?_;refine cL [1,6,7,9,10,11,12,16,17,18] (Ea ops[i].k) ?_;refine ae [1,6,7,9,10,11,12,13,16,17,18] ?_;refine ae [1,6,7,9,10,11,12,13,16,17,18,30] ?_;refine aq (fun aH aU=>?_) (fun aH aU=>?_)
  ·obtain⟨bh,rfl,wg,vT,rfl⟩:=nw.pos w4;have tV:(st.length-(bQ ops[i].k).toNat)<st.length:=(by omega)
   have ha:e9 0 ops[i].k st=st[(st.length-(bQ ops[i].k).toNat)]:=(by unfold e9;rw[if_pos w4,getD_eq_getElem?_getD,getElem?_eq_getElem tV];rfl)
   refine ie [1,6,7,9,10,11,12,13,16,17,18] ?_;refine aP 2 ?_ (h:=by exact(dy 1 (h:=by first|exact .l (j:=(st.length-(bQ ops[i].k).toNat)) w4 w4|exact .r (j:=(st.length-(bQ ops[i].k).toNat)) w4 w4)));refine aP 0 ?_ (h:=by exact(cH (mk:=Op.load 3) rfl ot (iK (k:=2) ev rfl rfl rfl isAgg3 tV rfl)));refine bM ?_;refine ae [1,6,7,9,10,11,13,16,17,18,36] ?_;refine aq (fun aY bz=>?_) (fun aY bz=>?_)
   ·have O:(st.length-(bQ ops[i].k).toNat)+1<st.length:=(by omega)
    have hb:eT 0 ops[i].k st=st[(st.length-(bQ ops[i].k).toNat)+1]:=(by unfold eT;rw[if_pos w4,getD_eq_getElem?_getD,getElem?_eq_getElem O];rfl)
    refine ie [1,6,7,9,10,11,13,16,17,18] ?_;refine aP 3 ?_ (h:=by exact(dy 1 (h:=by first|exact .l (j:=(st.length-(bQ ops[i].k).toNat)+1) w4 w4|exact .r (j:=(st.length-(bQ ops[i].k).toNat)+1) w4 w4)));refine aP 0 ?_ (h:=by exact(cH (mk:=Op.load 3) rfl ot (iK (k:=2) ev rfl rfl rfl isAgg3 O rfl)));refine bM ?_;exact TW
   have hb:eT 0 ops[i].k st=0:=(by unfold eT;rw[if_neg w4])
   exact TW
  have ha:e9 0 ops[i].k st=0:=(by unfold e9;rw[if_neg w4])
  refine ae [1,6,7,9,10,11,13,16,17,18,36] ?_;refine aq (fun aY bz=>?_) (fun aY bz=>?_)
  ·exact absurd aY (by simp at *;omega)
  have hb:eT 0 ops[i].k st=0:=(by unfold eT;rw[if_neg w4])
  refine aC 4 ?_;refine OD.jY (f:=153) (args:=[_,_,_]) (all:=[_,_,_,_]) (Sf:=[⟨b2,38,1,[.list 2 (l.flatMap cC) l.length]⟩]) an rfl rfl ot call153 (NW l hl ops[i] _ _ _ _ ha hb b2) rfl ⟨ot,ot,ot,trivial⟩ (jU (k:=1) rfl) ?_;rintro _ _ ⟨rfl,rfl⟩;refine aj 64 [1,6,7,13,14,15,16,17,18] ?_;refine ae [1,6,7,13,14,15,16,17,18,51] ?_;refine aq (fun bF bY=>?_) (fun bF bY=>?_)
  ·exact z59
  have hz:(iN l ops[i] (e9 0 ops[i].k st) (eT 0 ops[i].k st)).2=0:=(by simpa using bF)
  refine CD.skip ?_;refine CD.uQ (k:=(st.length-(bQ ops[i].k).toNat)) (ls:=(st)) (Sq:=Z) ev w4 nw (dB (A:=[_,_])) (fun Bo A3=>?_);exact z12
 have h1:=PN w4 hex;have U:0<st.length:=(by omega)
 obtain⟨bh,rfl,wg,vT,rfl⟩:=nw.pos w4;have aS:=hinv.trans (PM w4);have kE:st.getD 0 0=st[0]:=(by rw[getD_eq_getElem?_getD,getElem?_eq_getElem U];rfl)
 rw[kE] at aS;refine cM [4,5] ?_;refine aP 1 ?_ (h:=by exact(nZ (mk:=Op.indexAddr 91) rfl ot bC (by first|exact oR (j:=0) runUnderlying91 sizeOf3 rfl zB|exact oV (j:=0) runUnderlying91 sizeOf3 rfl zB)));refine aP 0 ?_ (h:=by exact(cH (mk:=Op.load 3) rfl ot (iK (k:=1) ev rfl rfl rfl isAgg3 U rfl)));refine bM ?_;refine aJ [⟨b2,38,1,[.list 2 (l.flatMap cC) l.length]⟩] ?_;rw[aS];exact⟨rfl,rfl⟩
theorem Zf(l:List cu)(hl:l.length≤6)(ops:List aW)(hx:iD ops=0):VP Tryz.prog G 126 [.list 2 (l.flatMap cC) l.length,.list 5 (ops.flatMap cO) ops.length] (ph (sY l ops)):=by
 refine VC.body func126 rfl ntmps126 aO fun X0 w0 aX=>?_;obtain⟨E,gH⟩:=vK hx;have fL:=fun b2=>aaS (G:=G) l hl ops E gH b2;unfold ph at fL ⊢;refine bX ?_;refine OD.box (ds:=[_]) an rfl rfl ot rfl rfl (fun b2=>?_);refine aj 11 [1,2] ?_;refine aC 1 ?_;refine bJ (oO (ds:=[_]) rfl ⟨ot,trivial⟩) ?_;refine OD.call an rfl rfl rfl call152 (fL b2) ⟨ot,ot,trivial⟩ (jU (k:=0) rfl) ?_;rintro _ _ ⟨rfl,rfl⟩;refine aj 11 [4,5] ?_;exact z51
theorem aep(hm:(3,marksC)∈G)(hw:(2,wordsC)∈G)(ht:(0,typesC)∈G)(l:List cu)(hl:l.length≤6)(aR:∀c∈l,c.n.size≤maxLen)(ops:List aW)(ho:∀o∈ops,o.nm.size≤maxLen):VP Tryz.prog G 125 [.list 2 (l.flatMap cC) l.length,.list 5 (ops.flatMap cO) ops.length] (.v (.int .i64 (if fw l≠0 then fw l else iD ops))):=by
 refine VC.body func125 rfl ntmps125 aO fun X0 w0 aX=>?_;have dr:maxLen=9223372036854775807:=rfl;refine ae [0,1] ?_;refine cL [1,5] (Et hm hw ht l w4 aR) ?_;refine ae [1,5,9] ?_;refine aq (fun az aG=>?_) (fun az aG=>?_)
 ·refine ae [4] ?_;refine aJ [] ?_;refine⟨vi ?_,rfl⟩;simp_all
 refine cL [4] (Iu hm hw ops ho) ?_;refine aJ [] ?_;refine⟨vi ?_,rfl⟩;simp_all
theorem IC(hm:(3,marksC)∈G)(hw:(2,wordsC)∈G)(ht:(0,typesC)∈G)(l:List cu)(hl:l.length≤6)(aR:∀c∈l,c.n.size≤maxLen)(ops:List aW)(ho:∀o∈ops,o.nm.size≤maxLen):VP Tryz.prog G 91 [.list 2 (l.flatMap cC) l.length,.list 5 (ops.flatMap cO) ops.length] (ph (ec l ops)):=by
 refine VC.body func91 rfl ntmps91 aO fun X0 w0 aX=>?_;have eZ:=aep hm hw ht l hl aR ops ho;have E:=fun hx=>Zf (G:=G) l hl ops hx;unfold ph at E ⊢;refine ae [0,1] ?_;refine cL [0,1,6] (eZ) ?_;refine ae [0,1,6,11] ?_;refine aq (fun az aG=>?_) (fun az aG=>?_)
 ·have aS:ec l ops=(0,if fw l≠0 then fw l else iD ops):=(by unfold ec;split<;>simp_all)
  refine ae [4,5] ?_;exact z46
 have h0:fw l=0∧iD ops=0:=(by split at az<;>simp_all)
 have aS:ec l ops=sY l ops:=(by unfold ec;simp[h0])
 refine cL [4,5] (E h0.2) ?_;exact tI

end Go.Proofs.YtbcmjoaggammcaaGreatDoor.Ex
