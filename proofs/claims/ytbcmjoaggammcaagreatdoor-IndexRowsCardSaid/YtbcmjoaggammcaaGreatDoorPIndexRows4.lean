/-
  What the proof of IndexRows leans on, part 4 of 8: walks of the program's functions at the level of values, and plain facts of what they compute.
-/
import Derived.Test.YtbcmjoaggammcaaGreatDoorPIndexRows3
set_option linter.unusedVariables false
set_option linter.unusedSimpArgs false
set_option maxRecDepth 100000
set_option maxHeartbeats 4000000
namespace Go.Proofs.YtbcmjoaggammcaaGreatDoor.Nm
open List
open Go.Proofs.Tryz
open Go.RowKit V Pk Vl
variable {i:Nat} {h:Int}
theorem afw(x y:Vl):∀w,(Op.equalIn 10000 30 (.agg [.int .i64 x.k,.int .i64 x.n,.string x.s].toArray) (.agg [.int .i64 y.k,.int .i64 y.n,.string y.s].toArray)).run Tryz.prog w = .ok (x.k==y.k&&(x.n==y.n&&x.s.toList==y.s.toList)) w:=fun w=>by
 have hS:Tryz.prog.underlying 30=some (.struct (Tryz.prog.fieldsOf 30)):=(by kernel_rfl)
 have hp:Tryz.prog.stoodInHeld 30=false:=(by kernel_rfl)
 rw[show(10000:Nat)=9999+1 from rfl,run_equalIn_agg w 9999 30 _ _ hS hp];have u:=underlying30;have E:=underlying3;have I:=underlying9;have O:=isAgg3;have U:=isAgg9;have Z:=sizeOf3;have z9:=sizeOf9;simp only[Program.fieldsOf,u];go_simp
 by_cases h1:x.k=y.k<;>by_cases h2:x.n=y.n<;>by_cases h3:x.s.toList=y.s.toList<;>simp[h1,h2,h3]
def iG(v:Vl):Int:=if v.k=2∧v.n = -9223372036854775808 then 3 else dB v
structure aV where
 k:Int
 v:Vl
 nm:ByteArray
variable {l:List aV}
def cO(o:aV):List D:=[.v (.int .i64 o.k),.v (.int .i64 o.v.k),.v (.int .i64 o.v.n),.v (.string o.v.s),.v (.string o.nm)]
theorem mL(o:aV):(cO o).length=5:=rfl
theorem I6(o:aV):(cO o).all V.one=true:=rfl
def bN(k:Int):Int:=if k=1∨k=2 then 0 else if k=5∨k=11 then 1 else 2
theorem sU(k:Int):0≤bN k∧bN k≤2:=by unfold bN;split<;>(try split)<;>omega
def zeroV(v:Vl):Bool:=v.k==0&&(v.n==0&&v.s.toList==(⟨#[]⟩:ByteArray).toList)
def eX(h:Int)(o:aV):Int :=
 if o.k<1∨o.k>11 then 2
 else if iG o.v≠0 then iG o.v
 else if ((o.k != 1 && !(zeroV o.v))||(o.k != 2 && !(o.nm.toList==(⟨#[]⟩:ByteArray).toList)))=true then 6
 else if o.k=2∧cJ o.nm≠0 then cJ o.nm
 else if h<bN o.k then 7 else 0
def fy:Int→List aV→Int
 | h,[]=>if h=1 then 0 else 7
 | h,o::r=>if eX h o=0 then fy (h+(1-bN o.k)) r else eX h o
def iF(l:List aV):Int:=if l.length>40 then 10 else fy 0 l
theorem O1(hi:i<l.length)(he:eX h l[i]=0):fy h (l.drop i)=fy (h+(1-bN l[i].k)) (l.drop (i+1)):=by
 rw[drop_eq_getElem_cons hi,fy,if_pos he]
theorem O0{e:Int}(hi:i<l.length)(he:eX h l[i]=e)(h0:e≠0):fy h (l.drop i)=e:=by
 rw[drop_eq_getElem_cons hi,fy,if_neg (by rw[he];exact h0),he]
theorem N9(hi:l.length≤i):fy h (l.drop i)=if h=1 then 0 else 7:=by
 rw[drop_of_length_le hi,fy]
variable {G:List (Nat×List Value)}
theorem NC(v:Vl):VP Tryz.prog G 108 [.agg (cV v)] (.v (.int .i64 (iG v))):=by
 refine VC.body func108 rfl ntmps108 aO fun X0 w0 aZ=>?_;unfold cV;refine cj ?_;refine OD.box (ds:=[_,_,_]) an rfl rfl ot rfl rfl (fun b1=>?_);refine aj 13 [1] ?_;refine aC 4 ?_;refine bS 6 (fun I E=>?_) (fun I E=>?_)
 ·refine aY [1,10] ?_;refine aq (fun az aG=>?_) (fun az aG=>?_)
  ·refine ae [2] ?_;refine eE ?_;refine⟨vi ?_,rfl⟩;unfold iG;simp_all
  refine cM [2] (Vl.oQ v) ?_;refine eE ?_;refine⟨vi ?_,rfl⟩;unfold iG;simp_all
 refine aY [1,10] ?_;refine fG ?_;refine cM [2] (Vl.oQ v) ?_;refine eE ?_;refine⟨vi ?_,rfl⟩;unfold iG;simp_all
theorem yd(k:Int):VP Tryz.prog G 110 [.v (.int .i64 k)] (.v (.int .i64 (bN k))):=by
 refine VC.body func110 rfl ntmps110 aO fun X0 w0 aZ=>?_;exact Vm
theorem Iv(hm:(3,marksC)∈G)(hw:(2,wordsC)∈G)(l:List aV)(hs:∀o∈l,o.nm.size≤maxLen):VP Tryz.prog G 71 [.list 5 (l.flatMap cO) l.length] (.v (.int .i64 (iF l))):=by
 refine VC.body func71 rfl ntmps71 aO fun X0 w0 aZ=>?_;have hlx:l.length≤40∨40<l.length:=(by omega)
 refine ae [0] ?_;refine ae [0,10] ?_;refine aq (fun az aG=>?_) (fun az aG=>?_)
 ·have hf:iF l=10:=if_pos w4;exact Kb
 have hf:iF l=fy 0 l:=if_neg w4;have pE:l.length≤40:=(by omega)
 refine ae [0,3] ?_;refine ae [3,11,12,13] ?_;refine eH [11,12] (fun aW _ (I:Nat×Int) aK=>match I with|(i,h)=>(i≤l.length)∧(fy 0 l=fy h (l.drop i))∧(0≤h)∧(h≤i)∧aK=(⟨73,(3,.v (.int .i64 h))::(13,.v (.int .i64 (i:Nat)))::aW,[]⟩:St)) (fun (I:Nat×Int)=>match I with|(i,h)=>l.length-i) (0,0) ⟨(Nat.zero_le _),rfl,(Int.le_refl _),(Int.le_refl _),rfl⟩ ?_;rintro⟨i,h⟩ _ ⟨hi,hx,h0,hh,rfl⟩;refine ae [3,11,12,13,14] ?_;refine aq (fun aH aT=>?_) (fun aH aT=>?_)
 ·have aa:i<l.length:=(by omega)
  have Cx:=sU l[i].k;refine aC 2 ?_;refine OD.alloc (ds:=[_,_,_,_,_]) an rfl rfl zeroValue61 rfl (fun b5=>?_);refine aN 0 [_,_,_,_,_] sizeOf61 ?_;refine aj 73 [3,5,11,12,13] ?_;refine aC 4 ?_;refine bS 20 (fun ag7 U=>?_) (fun ag7 U=>?_)
  ·refine aY [3,5,11,12,13,24] ?_;refine ez ?_;have pZ:eX h l[i]=2:=(by unfold eX;rw[if_pos w4])
   exact Fp
  refine aY [3,5,11,12,13,24] ?_;refine aq (fun aX bw=>?_) (fun aX bw=>?_)
  ·have pZ:eX h l[i]=2:=(by unfold eX;rw[if_pos w4])
   exact Fp
  have dH:¬(l[i].k<1∨l[i].k>11):=(by omega)
  refine cM [3,5,6,11,12,13] (NC l[i].v) ?_;refine ae [3,5,6,11,12,13,29] ?_;refine aq (fun bC bW=>?_) (fun bC bW=>?_)
  ·have uQ:iG l[i].v≠0:=(by simpa using bC)
   have pZ:eX h l[i]=iG l[i].v:=(by unfold eX;rw[if_neg dH,if_pos uQ])
   exact Fp
  have uQ:iG l[i].v=0:=(by simpa using bC)
  refine aC 4 ?_;refine bS 34 (fun ag8 Z=>?_) (fun ag8 Z=>?_)
  ·refine aD 3 ?_;refine OD.still gH rfl (Y3 (us:=[_,_,_]) (LL:=[_,_,_]) rfl ot ot eqGuardType30 (afw l[i].v ⟨0,0,⟨#[]⟩⟩)) ?_;refine aD 2 ?_;refine bS 40 (fun J9 JB=>?_) (fun J9 JB=>?_)
   ·refine aj 73 [3,5,11,12,13,49] ?_;refine ez ?_;exact Ui
   refine aD 4 ?_;refine bS 44 (fun O E=>?_) (fun O E=>?_)
   ·refine aj 73 [3,5,11,12,13,49] ?_;refine aq (fun cx c9=>?_) (fun cx c9=>?_)
    ·exact Ui
    exact z107
   refine aj 73 [3,5,11,12,13,49] ?_;refine fG ?_;exact z107
  refine xn 4 ?_;refine aD 6 ?_;refine bS 44 (fun O E=>?_) (fun O E=>?_)
  ·refine aY [3,5,11,12,13,49] ?_;refine aq (fun cx c9=>?_) (fun cx c9=>?_)
   ·have pZ:eX h l[i]=6:=(by unfold eX zeroV;rw[if_neg dH,if_neg tL,if_pos (by simp_all)])
    exact Fp
   exact T3
  refine aY [3,5,11,12,13,49] ?_;refine fG ?_;exact T3
 have fb:=hx.trans (N9 (show l.length≤i by omega));refine ae [72] ?_;refine aq (fun kU tw=>?_) (fun kU tw=>?_)
 ·exact Kb
 refine ae [2] ?_;refine aJ [] ?_;refine⟨vi ?_,rfl⟩;first|exact hf.symm|(rw[hf,hx,O0 aa pZ (by first|assumption|decide)];done)|(rw[hf,fb,if_pos (by simpa using kU)];done)|(rw[hf,fb,if_neg (by simpa using kU)];done)

end Go.Proofs.YtbcmjoaggammcaaGreatDoor.Nm
namespace Go.Proofs
open Go.Shelf
def Tryz.XU:Go.Shelf.Ren:=⟨fun|106=>151|213=>175|265=>187|n=>n,fun|9=>9|3=>3|n=>n,fun|n=>n⟩
theorem Tryz.acn:Go.Proofs.Lays.n106 Tryz.prog Tryz.XU:={
 mixed:=by kernel_rfl
 f106:=Tryz.func151.trans (congrArg some (by kernel_rfl))
 f213:=Tryz.func175.trans (congrArg some (by kernel_rfl))
 f265:=Tryz.func187.trans (congrArg some (by kernel_rfl))
 t3:=Tryz.underlying3
 a3:=Tryz.isAgg3
 z3:=Tryz.sizeOf3
 v3:=Tryz.zeroValue3
 t9:=Tryz.underlying9
 a9:=Tryz.isAgg9
 z9:=Tryz.sizeOf9
 v9:=Tryz.zeroValue9}
open Go.RowKit in
theorem Tryz.strings_Compare(a b:ByteArray)(w:World) :
  Calls Tryz.prog 151 #[.string a,.string b] w fun e w'=>e = .returned (.int .i64 (Lib.compareBytes a.data.toList b.data.toList))∧w'=w:=Any.strings_Compare Tryz.acn a b w
def Tryz.Nr:Go.Shelf.Ren:=⟨fun|155=>31|154=>53|138=>94|165=>95|143=>96|166=>97|197=>98|169=>99|195=>130|218=>131|240=>132|241=>133|219=>134|260=>135|276=>161|277=>162|217=>163|225=>164|224=>165|267=>166|266=>182|314=>183|n=>n,fun|9=>9|3=>3|4=>4|72=>169|0=>0|76=>173|105=>175|21=>21|5=>5|70=>167|20=>20|37=>49|75=>172|127=>210|164=>237|46=>211|119=>240|139=>243|138=>242|146=>255|51=>254|80=>177|n=>n,fun|1=>1|3=>4|4=>5|n=>n⟩
theorem Tryz.aco:Go.Proofs.Lays.n155 Tryz.prog Tryz.Nr:={
 mixed:=by kernel_rfl
 f138:=Tryz.func94.trans (congrArg some (by kernel_rfl))
 f143:=Tryz.func96.trans (congrArg some (by kernel_rfl))
 f154:=Tryz.func53.trans (congrArg some (by kernel_rfl))
 f155:=Tryz.func31.trans (congrArg some (by kernel_rfl))
 f165:=Tryz.func95.trans (congrArg some (by kernel_rfl))
 f166:=Tryz.func97.trans (congrArg some (by kernel_rfl))
 f169:=Tryz.func99.trans (congrArg some (by kernel_rfl))
 f195:=Tryz.func130.trans (congrArg some (by kernel_rfl))
 f197:=Tryz.func98.trans (congrArg some (by kernel_rfl))
 f217:=Tryz.func163.trans (congrArg some (by kernel_rfl))
 f218:=Tryz.func131.trans (congrArg some (by kernel_rfl))
 f219:=Tryz.func134.trans (congrArg some (by kernel_rfl))
 f224:=Tryz.func165.trans (congrArg some (by kernel_rfl))
 f225:=Tryz.func164.trans (congrArg some (by kernel_rfl))
 f240:=Tryz.func132.trans (congrArg some (by kernel_rfl))
 f241:=Tryz.func133.trans (congrArg some (by kernel_rfl))
 f260:=Tryz.func135.trans (congrArg some (by kernel_rfl))
 f266:=Tryz.func182.trans (congrArg some (by kernel_rfl))
 f267:=Tryz.func166.trans (congrArg some (by kernel_rfl))
 f276:=Tryz.func161.trans (congrArg some (by kernel_rfl))
 f277:=Tryz.func162.trans (congrArg some (by kernel_rfl))
 f314:=Tryz.func183.trans (congrArg some (by kernel_rfl))
 t0:=Tryz.underlying0
 a0:=Tryz.isAgg0
 z0:=Tryz.sizeOf0
 v0:=Tryz.zeroValue0
 t3:=Tryz.underlying3
 a3:=Tryz.isAgg3
 z3:=Tryz.sizeOf3
 v3:=Tryz.zeroValue3
 t4:=Tryz.underlying4
 a4:=Tryz.isAgg4
 z4:=Tryz.sizeOf4
 v4:=Tryz.zeroValue4
 t5:=Tryz.underlying5
 a5:=Tryz.isAgg5
 z5:=Tryz.sizeOf5
 v5:=Tryz.zeroValue5
 t9:=Tryz.underlying9
 a9:=Tryz.isAgg9
 z9:=Tryz.sizeOf9
 v9:=Tryz.zeroValue9
 t20:=Tryz.underlying20
 a20:=Tryz.isAgg20
 z20:=Tryz.sizeOf20
 v20:=Tryz.zeroValue20
 t21:=Tryz.underlying21
 a21:=Tryz.isAgg21
 z21:=Tryz.sizeOf21
 v21:=Tryz.zeroValue21
 t37:=Tryz.underlying49
 a37:=Tryz.isAgg49
 z37:=Tryz.sizeOf49
 v37:=Tryz.zeroValue49
 t46:=Tryz.underlying211
 a46:=Tryz.isAgg211
 z46:=Tryz.sizeOf211
 v46:=Tryz.zeroValue211
 t51:=Tryz.underlying254
 a51:=Tryz.isAgg254
 z51:=Tryz.sizeOf254
 v51:=Tryz.zeroValue254
 t70:=Tryz.underlying167
 a70:=Tryz.isAgg167
 z70:=Tryz.sizeOf167
 v70:=Tryz.zeroValue167
 t72:=Tryz.underlying169
 a72:=Tryz.isAgg169
 z72:=Tryz.sizeOf169
 v72:=Tryz.zeroValue169
 t75:=Tryz.underlying172
 a75:=Tryz.isAgg172
 z75:=Tryz.sizeOf172
 v75:=Tryz.zeroValue172
 t76:=Tryz.underlying173
 a76:=Tryz.isAgg173
 z76:=Tryz.sizeOf173
 v76:=Tryz.zeroValue173
 t105:=Tryz.underlying175
 a105:=Tryz.isAgg175
 z105:=Tryz.sizeOf175
 v105:=Tryz.zeroValue175
 t119:=Tryz.underlying240
 a119:=Tryz.isAgg240
 z119:=Tryz.sizeOf240
 t127:=Tryz.underlying210
 a127:=Tryz.isAgg210
 z127:=Tryz.sizeOf210
 v127:=Tryz.zeroValue210
 t138:=Tryz.underlying242
 a138:=Tryz.isAgg242
 z138:=Tryz.sizeOf242
 v138:=Tryz.zeroValue242
 t139:=Tryz.underlying243
 a139:=Tryz.isAgg243
 z139:=Tryz.sizeOf243
 v139:=Tryz.zeroValue243
 t146:=Tryz.underlying255
 a146:=Tryz.isAgg255
 z146:=Tryz.sizeOf255
 v146:=Tryz.zeroValue255
 t164:=Tryz.underlying237
 a164:=Tryz.isAgg237
 z164:=Tryz.sizeOf237
 v164:=Tryz.zeroValue237
 g1:=by kernel_rfl
 g3:=by kernel_rfl
 g4:=by kernel_rfl}
theorem Tryz.Xf:Builder.Extra Tryz.prog Tryz.Nr:={
 sizeBuilder:=by kernel_rfl
 liesBuilder:=by kernel_rfl
 t5:=Tryz.underlying5
 a5:=Tryz.isAgg5
 z5:=Tryz.sizeOf5
 v5:=Tryz.zeroValue5
 infoByte:=by kernel_rfl
 cellsByte:=by kernel_rfl
 sizeByte:=by kernel_rfl
 neB5:=by decide}
open Go.RowKit Go.Lib in
theorem Tryz.strings_ReplaceAll(s old new:ByteArray)(m:Int)(w:World)(hs:s.size<4294967281)(hm:w.cell? ⟨1,0,none⟩=some (.int .i64 m))(h1:1≤old.size)(hlen:s.size+Lib.countB s old*new.size≤140737488355328) :
  Calls Tryz.prog 31 #[.string s,.string old,.string new] w fun e w' =>
   e = .returned (.string ⟨(Lib.replaceAll s.data.toList old.data.toList new.data.toList).toArray⟩)∧Below w.heap.size w w':=Any.strings_ReplaceAll Tryz.aco Tryz.Xf s old new m w hs hm h1 hlen

end Go.Proofs
namespace Go.Proofs.YtbcmjoaggammcaaGreatDoor.Cd
open List
open Go.Proofs.Tryz
open Go.RowKit V Pk Vl
variable {v:Vl}
theorem Pv(c:UInt8)(new:List UInt8):∀s:List UInt8,Lib.replaceK [c] new (s.count c) s=s.flatMap fun b=>if b=c then new else [b]
 | []=>rfl
 | b::l=>by
  have I:=Pv c new l;by_cases h:b=c
  ·subst h;have hi:Lib.index (b::l) [b]=((0:Nat):Int):=(by rw[Lib.index_one];simp[Lib.indexByte])
   rw[count_cons_self,Lib.replaceK_hit _ _ _ _ _ hi,flatMap_cons,if_pos rfl,←I];simp
  have hc:(b::l).count c=l.count c:=count_cons_of_ne h;rw[hc,flatMap_cons,if_neg h,←I];cases hk:l.count c with
  | zero=>rfl
  | succ k =>
   obtain⟨i,hi⟩:=Lib.index_of_count (s:=l) (old:=[c]) (by rw[Lib.count_one];omega);have E:Lib.index (b::l) [c]=((i+1:Nat):Int):=by
    rw[Lib.index_one] at hi ⊢;unfold Lib.indexByte;rw[if_neg oB,hi,if_neg (by rw[beq_iff_eq];omega)];omega
   rw[Lib.replaceK_hit _ _ _ _ _ E,Lib.replaceK_hit _ _ _ _ _ hi];simp
def s9(c:UInt8)(new:List UInt8)(s:ByteArray):ByteArray:=⟨(s.data.toList.flatMap fun b=>if b=c then new else [b]).toArray⟩
theorem XV(c:UInt8)(new s:List UInt8):Lib.replaceAll s [c] new=s.flatMap fun b=>if b=c then new else [b]:=by
 unfold Lib.replaceAll Lib.replace Lib.replaceNum;split
 ·rename_i h;have h':[c]=new:=(by simpa using h)
  subst h';induction s with
  | nil=>rfl
  | cons b l ih =>
   rw[flatMap_cons,←ih];have:(if b=c then [c] else [b])=[b]:=by
    split
    ·rename_i e;rw[e]
    rfl
   rw[this];rfl
 rw[if_pos (.inl w7),Lib.count_one,Pv]
variable {G:List (Nat×List Value)} {m:Int}
theorem acp(hG:(1,[Value.int .i64 m])∈G)(c:UInt8)(new:ByteArray)(s:ByteArray)(hs:s.size≤1000000)(hn:new.size≤1000):VP Tryz.prog G 31 [.v (.string s),.v (.string ⟨#[c]⟩),.v (.string new)] (.v (.string (s9 c new.data.toList s))):=by
 have hc:Lib.countB s ⟨#[c]⟩≤1000000:=by
  show Lib.count s.data.toList [c]≤1000000;rw[Lib.count_one];exact Nat.le_trans count_le_length (by rw[kO];exact hs)
 have I:Lib.countB s ⟨#[c]⟩*new.size≤1000000*1000:=Nat.mul_le_mul hc hn;have key:=VP.QW (P:=Tryz.prog) (G:=G) (f:=31) (vs:=[.string s,.string ⟨#[c]⟩,.string new]) (v:=.string (s9 c new.data.toList s)) fun w E=>by
  refine(Tryz.strings_ReplaceAll s ⟨#[c]⟩ new m w w4 (E _ hG 0 _ rfl) (Nat.le_refl _) w4).mono fun e w' ⟨h1,h2⟩=>⟨?_,h2⟩
  rw[h1];congr 2;show(⟨(Lib.replaceAll s.data.toList [c] new.data.toList).toArray⟩:ByteArray)=_;rw[XV];rfl
 exact key
/-! ### Keys -/
def kb(v:Vl):UInt8:=UInt8.ofNat v.k.toNat
def nb(v:Vl):UInt8:=UInt8.ofNat v.n.toNat
def uN(v:Vl):Nat:=(v.n+9223372036854775808).toNat
def y6(u k:Nat):UInt8:=UInt8.ofNat (u/256 ^ (7-k))
def mA(u:Nat):List UInt8:=(range 8).map (y6 u)
def tD(s:List UInt8):List UInt8:=s.flatMap fun b=>if b=0 then [0,255] else [b]
def rS(v:Vl):List UInt8:=if v.k=1 then [nb v] else if v.k=2 then mA (uN v) else if v.k=3 then tD v.s.data.toList++[0,0] else []
def uP(v:Vl):List UInt8:=kb v::rS v
def fP(l:List Vl):List UInt8:=l.flatMap uP
def rT:List Vl→Int
 | []=>0
 | v::r=>if dB v=0 then rT r else dB v
def fL(l:List Vl):List UInt8×Int:=if l.length>6 then ([],1) else if rT l≠0 then ([],rT l) else if (fP l).length>100 then ([],5) else (fP l,0)
def AS(b:List UInt8):D:=.list 1 (b.flatMap cB) b.length
def Fv(r:List UInt8×Int):D:=.dy [AS r.1,.v (.int .i64 r.2)]
theorem Q2:∀{l:List Vl} {i:Nat} (hi:i<l.length),(∀v∈l.take i,dB v=0)→dB l[i]≠0→rT l=dB l[i]
 | v::r,0,hi,_,h=>by
  have h':dB v≠0:=h;show rT (v::r)=dB v;rw[rT,if_neg h']
 | v::r,i+1,hi,h0,h=>by
  rw[rT,if_pos (h0 v bu)];exact Q2 (l:=r) (i:=i) (by simpa using hi) (fun x hx=>h0 x (by rw[take_succ_cons];exact mem_cons_of_mem _ hx)) h
theorem Eo:∀{l:List Vl},(∀v∈l,dB v=0)→rT l=0
 | [],_=>rfl
 | v::r,h=>by rw[rT,if_pos (h v mem_cons_self)];exact Eo fun x hx=>h x (mem_cons_of_mem _ hx)
theorem ND(h:dB v=0):0≤v.k∧v.k≤3:=by
 unfold dB at h;split at h
 ·omega
 split at h
 ·omega
 split at h
 ·omega
 split at h
 ·omega
 cases h
theorem NE(h:dB v=0)(hk:v.k=1):0≤v.n∧v.n≤1:=by
 unfold dB at h;rw[if_neg w4,if_pos hk] at h;split at h
 ·cases h
 omega
theorem NF(h:dB v=0)(hk:v.k=3):v.s.size≤20:=by
 unfold dB at h;rw[if_neg w4,if_neg w4,if_neg w4,if_pos hk] at h;split at h
 ·cases h
 split at h
 ·cases h
 omega
theorem aeb(h:dB v=0):((kb v).toNat:Int)=v.k:=by
 have:=ND h;unfold kb;rw[UInt8.toNat_ofNat'];omega
theorem aec(h:dB v=0)(hk:v.k=1):((nb v).toNat:Int)=v.n:=by
 have:=NE h hk;unfold nb;rw[UInt8.toNat_ofNat'];omega
theorem acq(h:dB v=0):IntKind.u8.wrap v.k=((kb v).toNat:Int):=by
 have:=ND h;rw[aeb h];show v.k % 256=_;omega
theorem acr(h:dB v=0)(hk:v.k=1):IntKind.u8.wrap v.n=((nb v).toNat:Int):=by
 have:=NE h hk;rw[aec h hk];show v.n % 256=_;omega
theorem aed(h:v.Ok):((uN v:Nat):Int)=v.n+9223372036854775808:=by have:=h.n1;unfold uN;omega
theorem aee{u k:Nat}(hk:k≤7):(u:Int).fdiv (2 ^ min ((56:Int)-8*(k:Int)).toNat IntKind.u64.bits)=((u/256 ^ (7-k):Nat):Int):=by
 have e1:min ((56:Int)-8*(k:Int)).toNat IntKind.u64.bits=8*(7-k):=by
  show min _ 64=_;omega
 have E:(2 ^ (8*(7-k)):Nat)=256 ^ (7-k):=(by rw[Nat.pow_mul])
 have e2:((2:Int) ^ (8*(7-k)))=((256 ^ (7-k):Nat):Int):=by
  rw[←E,Int.natCast_pow];rfl
 rw[e1,e2];exact(Int.ofNat_fdiv _ _).symm
theorem acs(x:Nat):IntKind.u8.wrap (x:Int)=((UInt8.ofNat x).toNat:Int):=by
 rw[UInt8.toNat_ofNat'];show(x:Int) % 256=_;omega
theorem Iw{u k:Nat}(hk:k≤7):(mA u).take k++[y6 u k]=(mA u).take (k+1):=by
 have hl:k<(mA u).length:=(by simp[mA];omega)
 rw[take_succ_eq_append_getElem hl];congr 2;simp[mA]
theorem ED(u:Nat):(mA u).length=8:=by simp[mA]
theorem Q3(s:List UInt8):(tD s).length≤2*s.length:=by
 induction s with
 | nil=>simp[tD]
 | cons b l ih =>
  unfold tD at ih ⊢;rw[flatMap_cons,length_append,length_cons];split<;>simp only[length_cons,length_nil]<;>omega
theorem Ep(h:dB v=0):(uP v).length≤43:=by
 unfold uP rS;rw[length_cons];split
 ·simp
 split
 ·rw[ED];omega
 split
 ·rename_i hk;have h1:=NF h hk;have h2:=Q3 v.s.data.toList;rw[kO] at h2;rw[length_append];simp;omega
 simp
theorem D6:∀{l:List Vl},(∀v∈l,dB v=0)→(fP l).length≤43*l.length
 | [],_=>Nat.le_refl _
 | v::r,h=>by
  have h1:=Ep (h v mem_cons_self);have h2:=D6 (l:=r) fun x hx=>h x (mem_cons_of_mem _ hx);unfold fP at h2 ⊢;rw[flatMap_cons,length_append,length_cons];omega
theorem NV{l:List Vl}{i:Nat}(hi:i<l.length):fP (l.take i)++uP l[i]=fP (l.take (i+1)):=by
 unfold fP;rw[take_succ_eq_append_getElem hi,flatMap_append];simp
theorem Td(h:v.k=1):rS v=[nb v]:=if_pos h
theorem Te(h:v.k=2):rS v=mA (uN v):=by unfold rS;rw[if_neg w4,if_pos h]
theorem Tf(h:v.k=3):rS v=tD v.s.data.toList++[0,0]:=by unfold rS;rw[if_neg w4,if_neg w4,if_pos h]
theorem Tg(h1:¬v.k=1)(h2:¬v.k=2)(h3:¬v.k=3):rS v=[]:=by unfold rS;rw[if_neg h1,if_neg h2,if_neg h3]
theorem As(s:ByteArray):(s9 0 [0,255] s).data.toList=tD s.data.toList:=rfl
def Ko(p:List UInt8×Int)(r:D)(S:List ag):Prop:=∃ad cap,r = .dy [.v (.slice ad p.1.length cap),.v (.int .i64 p.2)]∧bq 5 1 (p.1.flatMap cB) p.1.length ad cap S
theorem Ko.view{p:List UInt8×Int}{r:D}{S:List ag}(h:Ko p r S):View S r (Fv p):=by
 obtain⟨ad,cap,rfl,ho⟩:=h;exact D3 ⟨kZ ho (cr oU _) (fun B h=>h),eL,trivial⟩
theorem An:(Tryz.prog.info? 5).map (fun i=>(i.zero,i.size,i.bytes))=some (some (.int .u8 0),1,1):=by kernel_rfl
theorem SF(hG:(1,[Value.int .i64 m])∈G)(l:List Vl)(hl:l.length≤maxLen)(aQ:∀v∈l,v.Ok):VC Tryz.prog G 13 [.list 3 (l.flatMap cV) l.length] [] (Ko (fL l)):=by
 refine VC.body func13 rfl ntmps13 aO fun X0 w0 aZ=>?_;refine ae [0] ?_;refine ae [0,12] ?_;refine aq (fun az aG=>?_) (fun az aG=>?_)
 ·have aS:fL l=([],1):=if_pos w4;exact LG
 have h6:l.length≤6:=(by omega)
 refine cj ?_;refine aY [0,4] ?_;refine ae [4,13,14,15] ?_;refine CD.block ?_;refine l5 (fun (E:Nat×Option Addr×Nat×List ag) aK=>match E with|(i,I,O,Sb)=>(i≤l.length)∧(∀v∈l.take i,dB v=0)∧(bq 5 1 ((fP (l.take i)).flatMap cB) (fP (l.take i)).length I O Sb)∧aK=(⟨72,[(4,.v (.slice I (fP (l.take i)).length O)),(13,.list 3 (l.flatMap cV) l.length),(14,.v (.int .i64 l.length)),(15,.v (.int .i64 (i:Nat)))],(Sb)⟩:St)) (fun (E:Nat×Option Addr×Nat×List ag)=>match E with|(i,I,O,Sb)=>l.length-i) (0,none,0,[]) ⟨(Nat.zero_le _),bu,(bq.cast iC (by rfl)),rfl⟩ (aM (h:=by repeat (first|exact trivial|refine⟨w6,?_⟩))) ?_;rintro⟨i,I,O,Sb⟩ _ ⟨hi,h0,oI,rfl⟩;refine ae [4,13,14,15,16] ?_;refine aq (fun aH aT=>?_) (fun aH aT=>?_)
 ·have aa:i<l.length:=(by omega)
  have LP:=D6 h0;rw[length_take] at LP;have dr:maxLen=9223372036854775807:=rfl;have fI:=aQ _ (getElem_mem aa);refine aC 2 ?_;refine OD.alloc (ds:=[_,_,_]) an rfl rfl zeroValue30 rfl (fun b6=>?_);refine aN 0 [_,_,_] sizeOf30 ?_;refine aj 72 [4,6,13,14,15] ?_;refine cM [4,6,7,13,14,15] (Vl.oQ l[i]) ?_;refine ae [4,6,7,13,14,15,22] ?_;refine aq (fun aX bw=>?_) (fun aX bw=>?_)
  ·have hne:dB l[i]≠0:=(by simpa using aX)
   have aS:fL l=([],dB l[i]):=(by unfold fL;rw[if_neg w4,Q2 aa h0 hne,if_pos hne])
   exact LG
  have U:dB l[i]=0:=(by simpa using aX)
  refine aC 3 ?_;refine bQ (n9 (r:=.int .u8 ((kb l[i]).toNat:Int)) rfl ot (oc runUnderlying3 runUnderlying5 (acq U))) ?_;refine ei (cc 0 [_]) [.int .u8 0] [_] zeroValue5 runUnderlying49 sizeOf5 (fun Mi=>?_);refine fH 0 28 1 1 ?_;refine OD.ee (ls:=(fP (l.take i))) (new:=[kb l[i]]) (Sq:=Sb) oU vS an rfl rfl underlying49 An rfl w7 ot oI (dA (A:=[_])) ot bu zl zl (fun tY Z Fw Fx=>?_);refine OD.perm (dV (S1:=[⟨tY,5,Z*1,flatMap cB ((fP (l.take i))++[kb l[i]])⟩]) (A:=[_])) ?_;refine aj 72 [4,6,13,14,15] ?_;refine ae [4,6,13,14,15,31] ?_;refine ae [4,6,13,14,15,31,32] ?_;refine aq (fun bC bW=>?_) (fun bC bW=>?_)
  ·have dH:l[i].k=1:=(by simpa using bC)
   refine dK 3 ?_;refine bQ (n9 (r:=.int .u8 ((nb l[i]).toNat:Int)) rfl ot (oc runUnderlying3 runUnderlying5 (acr U dH))) ?_;refine ei (cc 0 [_]) [.int .u8 0] [_] zeroValue5 runUnderlying49 sizeOf5 (fun Mj=>?_);refine fH 0 38 1 1 ?_;refine OD.ee (ls:=((fP (l.take i))++[kb l[i]])) (new:=[nb l[i]]) (Sq:=[⟨tY,5,Z*1,flatMap cB ((fP (l.take i))++[kb l[i]])⟩]) oU vS an rfl rfl underlying49 An rfl w7 ot (bI Fw Fx) (dA (A:=[_])) ot bu zl zl (fun B9 Kp ag9 aha=>?_);refine OD.perm (dV (S1:=[⟨B9,5,Kp*1,flatMap cB (((fP (l.take i))++[kb l[i]])++[nb l[i]])⟩]) (A:=[_])) ?_;refine aj 72 [4,13,14,15] ?_;refine cg [4,13,14,15] ?_;refine⟨((i+1),(some ⟨B9,0,none⟩),Kp,[⟨B9,5,Kp*1,flatMap cB (((fP (l.take i))++[kb l[i]])++[nb l[i]])⟩]),_,cz,(aM (h:=by repeat (first|exact trivial|refine⟨w6,?_⟩))),w4,(x5 aa h0 U),(bq.cast (bI ag9 aha) FM),rfl⟩
  have dH:¬l[i].k=1:=(by simpa using bC)
  refine ae [4,6,13,14,15,31,40] ?_;refine aq (fun cx c9=>?_) (fun cx c9=>?_)
  ·have fk:l[i].k=2:=(by simpa using cx)
   refine cL [4,8,13,14,15] ?_;refine aP 3 ?_ (h:=by exact(cX (r:=.int .u64 ((uN l[i]:Nat):Int)) rfl ot bH (ab9 (by rw[aed fI];exact ace fI.n1 fI.n2))));refine bG ?_;refine ae [4,8,9,13,14,15] ?_;refine CD.block ?_;refine l5 (fun (E:Nat×Option Addr×Nat×List ag) aK=>match E with|(k,I,O,Sb)=>(k≤8)∧(bq 5 1 (((fP (l.take i)++[kb l[i]])++(mA (uN l[i])).take k).flatMap cB) ((fP (l.take i)++[kb l[i]])++(mA (uN l[i])).take k).length I O Sb)∧aK=(⟨72,[(4,.v (.slice I ((fP (l.take i)++[kb l[i]])++(mA (uN l[i])).take k).length O)),(8,.v (.int .u64 ((uN l[i]:Nat):Int))),(9,.v (.int .i64 (56-8*(k:Int)))),(13,.list 3 (l.flatMap cV) l.length),(14,.v (.int .i64 l.length)),(15,.v (.int .i64 (i:Nat)))],(Sb)⟩:St)) (fun (E:Nat×Option Addr×Nat×List ag)=>match E with|(k,I,O,Sb)=>8-k) (0,(some ⟨tY,0,none⟩),Z,[⟨tY,5,Z*1,flatMap cB ((fP (l.take i))++[kb l[i]])⟩]) ⟨w7,(bq.cast (bI Fw Fx) bu),rfl⟩ (aM (h:=by repeat (first|exact trivial|refine⟨(by (repeat (first|exact fu|(apply fN;focus (first|rfl|(congr 2;omega)|(simp;done)|(apply eB;rw[←Iw w4];simp)|(apply eB;simp)|(apply eB;simp;done)))|(apply fE;focus rfl)));done),?_⟩))) ?_;rintro⟨k,I,O,Sb⟩ _ ⟨Lp,oI,rfl⟩;refine ae [4,8,9,13,14,15,47] ?_;refine aq (fun dN en=>?_) (fun dN en=>?_)
   ·have hk7:k≤7:=(by omega)
    refine dK 3 ?_;refine bQ (cX (r:=.int .u64 ((uN l[i]/256 ^ (7-k):Nat):Int)) rfl ot ot (yl w4 (aee hk7))) ?_;refine bQ (n9 (r:=.int .u8 ((y6 (uN l[i]) k).toNat:Int)) rfl ot (oc runUnderlying85 runUnderlying5 (acs _))) ?_;refine ei (cc 0 [_]) [.int .u8 0] [_] zeroValue5 runUnderlying49 sizeOf5 (fun b55=>?_);refine fH 0 55 1 1 ?_;refine OD.ee (ls:=((fP (l.take i)++[kb l[i]])++(mA (uN l[i])).take k)) (new:=[y6 (uN l[i]) k]) (Sq:=Sb) oU vS an rfl rfl underlying49 An rfl w7 ot oI (dA (A:=[])) ot bu zl zl (fun Mk Kq ahb ahc=>?_);refine OD.perm (dV (S1:=[⟨Mk,5,Kq*1,flatMap cB (((fP (l.take i)++[kb l[i]])++(mA (uN l[i])).take k)++[y6 (uN l[i]) k])⟩]) (A:=[])) ?_;refine aj 72 [4,8,9,13,14,15] ?_;refine cg [4,8,9,13,14,15] ?_;refine⟨((k+1),(some ⟨Mk,0,none⟩),Kq,[⟨Mk,5,Kq*1,flatMap cB (((fP (l.take i)++[kb l[i]])++(mA (uN l[i])).take k)++[y6 (uN l[i]) k])⟩]),_,cz,(aM (h:=by repeat (first|exact trivial|refine⟨(by (repeat (first|exact fu|(apply fN;focus (first|rfl|(congr 2;omega)|(simp;done)|(apply eB;rw[←Iw w4];simp)|(apply eB;simp)|(apply eB;simp;done)))|(apply fE;focus rfl)));done),?_⟩))),w4,(bq.cast (bI ahb ahc) (by rw[←Iw w4];simp)),rfl⟩
   have anM:k=8:=(by omega)
   have anN:8≤k:=(by omega)
   refine cg [4,13,14,15] ?_;refine⟨((i+1),I,O,Sb),_,cz,(aM (h:=by repeat (first|exact trivial|refine⟨w6,?_⟩))),w4,(x5 aa h0 U),(bq.cast oI FM),rfl⟩
  have fk:¬l[i].k=2:=(by simpa using cx)
  refine ae [4,6,13,14,15,57] ?_;refine aq (fun eN fT=>?_) (fun eN fT=>?_)
  ·have lF:l[i].k=3:=(by simpa using eN)
   have KY:=NF U lF;have Cv:=Q3 l[i].s.data.toList;rw[kO] at Cv;have Wv:(s9 0 [0,255] l[i].s).size=(tD l[i].s.data.toList).length:=(by rw[←kO,As])
   refine aC 3 ?_;refine dS call31 (acp hG 0 ⟨#[0,255]⟩ l[i].s w4 w7) ?_;refine OD.Ye (ls:=((fP (l.take i))++[kb l[i]])) (Sq:=[⟨tY,5,Z*1,flatMap cB ((fP (l.take i))++[kb l[i]])⟩]) an rfl rfl underlying49 underlying9 An ot (bI Fw Fx) (dA (A:=[_])) ot (by rw[show(s9 0 (⟨#[0,255]⟩:ByteArray).data.toList l[i].s).size=(tD l[i].s.data.toList).length from Wv];simp only[length_append,length_cons,length_nil];omega) (by rw[show(s9 0 (⟨#[0,255]⟩:ByteArray).data.toList l[i].s).size=(tD l[i].s.data.toList).length from Wv];simp only[length_append,length_cons,length_nil];omega) (fun Ur wH Cy BB=>?_);refine OD.perm (dV (A:=[_])) ?_;refine aj 72 [4,13,14,15] ?_;refine dK 1 ?_;refine ei (cc 0 [_,_]) [.int .u8 0,.int .u8 0] [_,_] zeroValue5 runUnderlying49 sizeOf5 (fun b65=>?_);refine fH 0 65 1 2 ?_;refine OD.ee (ls:=(((fP (l.take i))++[kb l[i]])++(s9 0 [0,255] l[i].s).data.toList)) (new:=[(0:UInt8),0]) (Sq:=Cy) oU vS an rfl rfl underlying49 An rfl w7 ot BB (dA (A:=[_])) ot bu (by rw[As];simp only[length_append,length_cons,length_nil];omega) (by rw[As];simp only[length_append,length_cons,length_nil];omega) (fun oK y7 y8 y9=>?_);refine OD.perm (dV (S1:=[⟨oK,5,y7*1,flatMap cB ((((fP (l.take i))++[kb l[i]])++(s9 0 [0,255] l[i].s).data.toList)++[(0:UInt8),0])⟩]) (A:=[_])) ?_
   refine aj 72 [4,13,14,15] ?_;refine cg [4,13,14,15] ?_;refine⟨((i+1),(some ⟨oK,0,none⟩),y7,[⟨oK,5,y7*1,flatMap cB ((((fP (l.take i))++[kb l[i]])++(s9 0 [0,255] l[i].s).data.toList)++[(0:UInt8),0])⟩]),_,cz,(aM (h:=by repeat (first|exact trivial|refine⟨w6,?_⟩))),w4,(x5 aa h0 U),(bq.cast (bI y8 y9) FM),rfl⟩
  have lF:¬l[i].k=3:=(by simpa using eN)
  refine cg [4,13,14,15] ?_;refine⟨((i+1),(some ⟨tY,0,none⟩),Z,[⟨tY,5,Z*1,flatMap cB ((fP (l.take i))++[kb l[i]])⟩]),_,cz,(aM (h:=by repeat (first|exact trivial|refine⟨w6,?_⟩))),w4,(x5 aa h0 U),(bq.cast (bI Fw Fx) FM),rfl⟩
 have eY:∀v∈l,dB v=0:=(by rw[take_of_length_le w4] at h0;exact h0)
 have hle:=D6 eY;have Ml:fP (l.take i)=fP l:=(by rw[take_of_length_le w4])
 refine ae [4,70] ?_;refine aq (fun eG fZ=>?_) (fun eG fZ=>?_)
 ·have aS:fL l=([],5):=(by unfold fL;rw[if_neg w4,Eo eY,if_neg bu,if_pos (by rw[Ml] at eG;simp at eG;omega)])
  exact LG
 have aS:fL l=(fP l,0):=(by unfold fL;rw[if_neg w4,Eo eY,if_neg bu,if_neg (by rw[Ml] at eG;simp at eG;omega)])
 refine ae [2,3] ?_;refine aJ Sb ?_;rw[aS,←Ml];exact⟨I,O,rfl,oI⟩
theorem SG(hG:(1,[Value.int .i64 m])∈G)(l:List Vl)(hl:l.length≤maxLen)(aQ:∀v∈l,v.Ok):VP Tryz.prog G 13 [.list 3 (l.flatMap cV) l.length] (Fv (fL l)):=(SF hG l hl aQ).cover fun r S hr=>hr.view

end Go.Proofs.YtbcmjoaggammcaaGreatDoor.Cd
namespace Go.Proofs.YtbcmjoaggammcaaGreatDoor.Cd









open List
open Go.Proofs.Tryz
open Go.RowKit V Pk Vl
open Go.Lib (compareBytes)
variable {l:List Int}
theorem AP{a b:UInt8}:a<b↔a.toNat<b.toNat:=UInt8.lt_iff_toNat_lt
theorem Q4(a b:UInt8)(x y:List UInt8):compareBytes (a::x) (b::y)=if a<b then -1 else if b<a then 1 else compareBytes x y:=by rw[compareBytes]
theorem Q5:∀(x y:List UInt8),compareBytes y x = - compareBytes x y
 | [],[]=>rfl
 | [],_::_=>rfl
 | _::_,[]=>rfl
 | a::x,b::y=>by
  have E:=Q5 x y;rw[Q4,Q4];rcases Nat.lt_trichotomy a.toNat b.toNat with h|h|h
  ·rw[if_neg zF,if_pos (AP.2 h),if_pos (AP.2 h)];rfl
  ·rw[if_neg zF,if_neg zF,if_neg zF,if_neg zF,E]
  rw[if_pos (AP.2 h),if_neg zF,if_pos (AP.2 h)]
/-! ### What value.Compare answers -/
def o8(x y:Int):Int:=if x<y then -1 else if x>y then 1 else 0
def iA:List Int→Int
 | []=>0
 | a::l=>if a≠0 then a else iA l
def cmpL(a b:Vl):List Int:=[o8 a.k b.k,o8 a.n b.n,compareBytes a.s.data.toList b.s.data.toList]
def gl(a b:Vl):Int:=iA (cmpL a b)
theorem xR(x y:Int):o8 x y = -1∧x<y∨o8 x y=0∧x=y∨o8 x y=1∧y<x:=by unfold o8;split;omega;split<;>omega
theorem Oa(x y:Int):o8 y x = - o8 x y:=by
 rcases xR x y with h|h|h<;>rcases xR y x with k|k|k<;>omega
theorem DM(a b:Vl):gl b a = - gl a b:=by
 unfold gl cmpL iA iA iA iA;rw[Oa a.k b.k,Oa a.n b.n,Q5 a.s.data.toList b.s.data.toList];repeat' split
 all_goals omega

variable {G:List (Nat×List Value)} {m:Int}
def cI(n:Int):List D:=[.v (.int .i64 n)]
theorem aaP:∀{i:Nat} (hi:i<l.length),(∀x∈l.take i,x=0)→iA l=iA (l.drop i):=by
 induction l with
 | nil=>intro i hi;simp at hi
 | cons a l ih =>
  intro i hi h;cases i with
  | zero=>rfl
  | succ i =>
   have ha:a=0:=h a bu;show(if a≠0 then a else iA l)=iA (l.drop i);rw[if_neg (by simp[ha])];exact ih (by simpa using hi) (fun x hx=>h x (by simp[hx]))
theorem acu{i:Nat}(hi:i<l.length)(h:∀x∈l.take i,x=0)(h1:l[i]≠0):iA l=l[i]:=by
 rw[aaP hi h,drop_eq_getElem_cons hi];exact if_pos h1
theorem Pw:∀{l:List Int},(∀x∈l,x=0)→iA l=0
 | [],_=>rfl
 | a::l,h=>by
  show(if a≠0 then a else iA l)=0;rw[if_neg (by simp[h a bu]),Pw fun x hx=>h x (by simp[hx])]
theorem take_zero{i:Nat}(hi:i<l.length)(h:∀x∈l.take i,x=0)(h1:l[i]=0):∀x∈l.take (i+1),x=0:=fun x hx=>by
 rw[take_succ_eq_append_getElem hi] at hx;rcases mem_append.1 hx with hx|hx
 ·exact h x hx
 simp only[mem_singleton] at hx;rw[hx];exact h1
theorem SH(x:Int):VP Tryz.prog G 174 [.v (.int .i64 x)] (.v (.bool false)):=by
 refine VC.body func174 rfl ntmps174 aO fun X0 w0 aZ=>?_;refine ae [0] ?_;refine ae [2] ?_;refine aJ [] ?_;first|exact⟨rfl,rfl⟩|(refine⟨vb ?_,rfl⟩;simp)
theorem Q6(x y:Int):VP Tryz.prog G 150 [.v (.int .i64 x),.v (.int .i64 y)] (.v (.int .i64 (o8 x y))):=by
 refine VC.body func150 rfl ntmps150 aO fun X0 w0 aZ=>?_;refine ae [0,1] ?_;refine cM [0,1,5] (SH x) ?_;refine cM [0,1,5,6] (SH y) ?_;refine ae [0,1,6,11] ?_;refine aq (fun az aG=>?_) (fun az aG=>?_)
 ·refine ae [12] ?_;refine aq (fun aH aT=>?_) (fun aH aT=>?_)
  ·exact z46
  exact z46
 refine ae [0,1,13] ?_;refine aq (fun aX bw=>?_) (fun aX bw=>?_)
 ·exact z46
 refine ae [0,1,16] ?_;refine aq (fun bC bW=>?_) (fun bC bW=>?_)
 ·exact z46
 refine ae [19] ?_;refine aq (fun cx c9=>?_) (fun cx c9=>?_)
 ·exact z46
 refine ae [4] ?_;refine aJ [] ?_;first|exact⟨rfl,rfl⟩|(refine⟨vi ?_,rfl⟩;unfold o8;simp_all;done)|(refine⟨vi ?_,rfl⟩;unfold o8;split<;>(try split)<;>simp_all<;>omega)
theorem aef(l:List Int)(hl:l.length≤100):VP Tryz.prog G 149 [.list 1 (l.flatMap cI) l.length] (.v (.int .i64 (iA l))):=by
 refine VC.body func149 rfl ntmps149 aO fun X0 w0 aZ=>?_;have dr:maxLen=9223372036854775807:=rfl;refine ae [0] ?_;refine ae [0,3] ?_;refine ae [3,6,7,8] ?_;refine eH [3,6,7] (fun aW _ (i:Nat) aK=>(i≤l.length)∧(∀x∈l.take i,x=0)∧aK=(⟨18,(8,.v (.int .i64 (i:Nat)))::aW,[]⟩:St)) (fun (i:Nat)=>l.length-i) 0 ⟨(Nat.zero_le _),(fun x hx=>by simp at hx),rfl⟩ ?_;rintro i _ ⟨hi,hz,rfl⟩;refine ae [3,6,7,8,9] ?_;refine aq (fun az aG=>?_) (fun az aG=>?_)
 ·have aa:i<l.length:=(by omega)
  refine ae [3,5,6,7,8] ?_;refine ae [3,5,6,7,8,14] ?_;refine aq (fun aH aT=>?_) (fun aH aT=>?_)
  ·have aS:iA l=l[i]:=acu aa hz ve;refine ae [2] ?_;exact oC
  refine cg [3,6,7,8] ?_;refine⟨(i+1),_,cz,aM,w4,(take_zero aa hz ve),rfl⟩
 have aS:iA l=0:=Pw (by rw[take_of_length_le w4] at hz;exact hz);refine ae [2] ?_;exact tN
theorem acv(a b:ByteArray):VP Tryz.prog G 151 [.v (.string a),.v (.string b)] (.v (.int .i64 (compareBytes a.data.toList b.data.toList))) :=
 VP.QW (P:=Tryz.prog) (G:=G) (f:=151) (vs:=[.string a,.string b]) (v:=.int .i64 (compareBytes a.data.toList b.data.toList)) fun w _ =>
  (Tryz.strings_Compare a b w).mono fun e w' ⟨h1,h2⟩=>⟨h1,h2 ▸ Below.refl _ _⟩
theorem NG(a b:Vl)(ha:a.Ok)(hb:b.Ok):VP Tryz.prog G 124 [.agg (cV a),.agg (cV b)] (.v (.int .i64 (gl a b))):=by
 refine VC.body func124 rfl ntmps124 aO fun X0 w0 aZ=>?_;unfold cV;refine cj ?_;refine OD.box (ds:=[_,_,_]) an rfl rfl ot rfl rfl (fun b2=>?_);refine OD.box (ds:=[_,_,_]) an rfl rfl ot rfl rfl (fun b3=>?_);refine aj 22 [2,3] ?_;refine cL [4] ?_;refine cU (Q6 a.k b.k) ?_;refine cU (Q6 a.n b.n) ?_;refine cU (acv a.s b.s) ?_;refine cU (aef (cmpL a b) (by show 3≤100;decide)) ?_;refine bG ?_;exact nA
def mo(a b:Vl):Int:=if dB a≠0 then dB a else dB b
def Kr(a b:Vl):D:=.dy [.v (.int .i64 (if mo a b≠0 then 0 else gl a b)),.v (.int .i64 (mo a b))]
theorem Q7(a b:Vl):VP Tryz.prog G 123 [.agg (cV a),.agg (cV b)] (.v (.int .i64 (mo a b))):=by
 refine VC.body func123 rfl ntmps123 aO fun X0 w0 aZ=>?_;unfold cV;refine cj ?_;refine OD.box (ds:=[_,_,_]) an rfl rfl ot rfl rfl (fun b2=>?_);refine OD.box (ds:=[_,_,_]) an rfl rfl ot rfl rfl (fun b3=>?_);refine aj 13 [2,3] ?_;refine cM [3,5] (oQ a) ?_;refine ae [3,5,9] ?_;refine aq (fun az aG=>?_) (fun az aG=>?_)
 ·refine ae [4] ?_;refine aJ [] ?_;refine⟨vi ?_,rfl⟩;unfold mo;simp_all
 refine cM [4] (oQ b) ?_;refine aJ [] ?_;refine⟨vi ?_,rfl⟩;unfold mo;simp_all
theorem Ym(a b:Vl)(ha:a.Ok)(hb:b.Ok):VP Tryz.prog G 90 [.agg (cV a),.agg (cV b)] (Kr a b):=by
 refine VC.body func90 rfl ntmps90 aO fun X0 w0 aZ=>?_;unfold cV Kr;refine cj ?_;refine OD.box (ds:=[_,_,_]) an rfl rfl ot rfl rfl (fun b2=>?_);refine OD.box (ds:=[_,_,_]) an rfl rfl ot rfl rfl (fun b3=>?_);refine aj 16 [2,3] ?_;refine cM [2,3,6] (Q7 a b) ?_;refine ae [2,3,6,11] ?_;refine aq (fun az aG=>?_) (fun az aG=>?_)
 ·refine ae [4,5] ?_;refine aJ [] ?_;first|(simp_all;done)|(refine⟨?_,rfl⟩;simp_all;done)
 refine cM [4,5] (NG a b ha hb) ?_;refine aJ [] ?_;first|(simp_all;done)|(refine⟨?_,rfl⟩;simp_all;done)

end Go.Proofs.YtbcmjoaggammcaaGreatDoor.Cd
namespace Go.Proofs.YtbcmjoaggammcaaGreatDoor.Pc
open List
open Go.Proofs.Tryz
open Go.RowKit V Pk Vl Go.Proofs.YtbcmjoaggammcaaGreatDoor.Nm
variable {i:Nat}
def typesC:List Value:=[.string ⟨#[]⟩,.string ⟨#[66,79,79,76]⟩,.string ⟨#[73,78,84]⟩,.string ⟨#[84,69,88,84]⟩]
structure cu where
 n:ByteArray
 k:Int
variable {l:List cu}
def cC(c:cu):List D:=[.v (.string c.n),.v (.int .i64 c.k)]
theorem k8(c:cu):(cC c).length=2:=rfl
theorem aeg(c:cu):(cC c).all V.one=true:=rfl
def mR(pre:List cu)(c:cu):Int :=
 if cJ c.n≠0 then cJ c.n else if c.k<1∨c.k>3 then 2 else if (pre.any fun d=>d.n.toList==c.n.toList)=true then 9 else 0
def qz:List cu→List cu→Int
 | _,[]=>0
 | pre,c::r=>if mR pre c≠0 then mR pre c else qz (pre++[c]) r
def fw(l:List cu):Int:=if l.length<1∨l.length>6 then 1 else qz [] l
theorem Zd(hi:i<l.length)(h:mR (l.take i) l[i]=0):qz (l.take i) (l.drop i)=qz (l.take (i+1)) (l.drop (i+1)):=by
 rw[drop_eq_getElem_cons hi,take_succ_eq_append_getElem hi];exact if_neg (by simp[h])
theorem HH(hi:i<l.length)(h:mR (l.take i) l[i]≠0):qz (l.take i) (l.drop i)=mR (l.take i) l[i]:=by
 rw[drop_eq_getElem_cons hi];exact if_pos h
theorem aaQ(hi:¬i<l.length):qz (l.take i) (l.drop i)=0:=by
 rw[drop_of_length_le w4];rfl
theorem HF(S:List ag):S.Perm (S++[]):=by rw[append_nil]
variable {G:List (Nat×List Value)}
theorem HN(ls:List cu)(g:Nat)(E:List D)(S:List ag)(p:cu→Bool)(fg:∀args w,(callFunc g args).run Tryz.prog w = .ok (.enter g args) w)(hp:∀x∈ls,VC Tryz.prog G g (.agg (cC x)::E) S (fun r S'=>r = .v (.bool (p x))∧S'=S))(hlen:ls.length≤1000000):VC Tryz.prog G 119 [.list 2 (ls.flatMap cC) ls.length,.ek (.func g) E] S (fun r S'=>r = .v (.int .i64 (dM p ls))∧S'=S):=by
 refine VC.body func119 rfl ntmps119 aO fun X0 w0 aZ=>?_;unfold cC at hp;exact Va
theorem XW(ls:List cu)(g:Nat)(E:List D)(S:List ag)(p:cu→Bool)(fg:∀args w,(callFunc g args).run Tryz.prog w = .ok (.enter g args) w)(hp:∀x∈ls,VC Tryz.prog G g (.agg (cC x)::E) S (fun r S'=>r = .v (.bool (p x))∧S'=S))(hlen:ls.length≤1000000):VC Tryz.prog G 106 [.list 2 (ls.flatMap cC) ls.length,.ek (.func g) E] S (fun r S'=>r = .v (.bool (ls.any p))∧S'=S):=by
 refine VC.body func106 rfl ntmps106 aO fun X0 w0 aZ=>?_;refine aC 1 ?_;refine OD.wk (Wk.dL (n:=9) (l':=[(0,_),(1,_)]) (S':=S) rfl mB ff) ?_;refine OD.nil ?_;refine aC 2 ?_;refine OD.call an rfl rfl rfl call119 (HN ls g E S p fg hp hlen) ⟨sV rfl lk,sV rfl lk,trivial⟩ (HF _) ?_;rintro _ S2 ⟨rfl,ik⟩;rw[ik];clear ik;refine aD 2 ?_;refine OD.wk (Wk.dL (n:=9) (l':=[(4,_)]) (S':=S) rfl mB ff) ?_;refine OD.nil ?_;refine aJ S ?_;refine⟨?_,rfl⟩;rw[Pm]
theorem acw(h x:cu)(b:Nat):VC Tryz.prog G 107 [.agg (cC h),.v (.pointer (some ⟨b,0,none⟩))] [⟨b,111,2,cC x⟩] (fun r S=>r = .v (.bool (h.n.toList==x.n.toList))∧S=[⟨b,111,2,cC x⟩]):=by
 refine VC.body func107 rfl ntmps107 aO fun X0 w0 aZ=>?_;unfold cC;refine cj ?_;refine OD.box (ds:=[_,_]) an rfl rfl ot rfl rfl (fun b2=>?_);refine aj 9 [1,2] ?_;refine ae [3] ?_;refine aJ [⟨b,111,2,cC x⟩] ?_;exact⟨rfl,rfl⟩
theorem acy(hm:(3,marksC)∈G)(hw:(2,wordsC)∈G)(l:List cu)(hl:l.length≤maxLen)(aQ:∀c∈l,c.n.size≤maxLen):VP Tryz.prog G 68 [.list 2 (l.flatMap cC) l.length] (.v (.int .i64 (fw l))):=by
 refine VC.body func68 rfl ntmps68 aO fun X0 w0 aZ=>?_;have dr:maxLen=9223372036854775807:=rfl;refine ae [0] ?_;refine aC 4 ?_;refine bS 9 (fun Z O=>?_) (fun Z O=>?_)
 ·refine aY [0,13] ?_;refine ez ?_;have aS:fw l=1:=if_pos w4;exact xk
 refine aY [0,13] ?_;refine aq (fun az aG=>?_) (fun az aG=>?_)
 ·have aS:fw l=1:=if_pos w4;exact xk
 have h16:¬(l.length<1∨l.length>6):=(by omega)
 have E:fw l=qz (l.take 0) (l.drop 0):=if_neg h16;refine ae [0,14,15,16] ?_;refine eH [0,14,15] (fun aW _ (i:Nat) aK=>(i≤l.length)∧(fw l=qz (l.take i) (l.drop i))∧aK=(⟨41,(16,.v (.int .i64 (i:Nat)))::aW,[]⟩:St)) (fun (i:Nat)=>l.length-i) 0 ⟨(Nat.zero_le _),E,rfl⟩ ?_;rintro i _ ⟨hi,hinv,rfl⟩;refine ae [0,14,15,16,17] ?_;refine aq (fun aH aT=>?_) (fun aH aT=>?_)
 ·have aa:i<l.length:=(by omega)
  refine aC 3 ?_;refine OD.alloc (ds:=[_,_]) an rfl rfl zeroValue111 rfl (fun b4=>?_);refine aD 1 ?_;refine aN 0 [_,_] sizeOf111 ?_;refine aj 41 [0,3,4,14,15,16] ?_;refine cM [0,3,4,5,14,15,16] (sW hm hw l[i].n (aQ _ (getElem_mem aa))) ?_;refine ae [0,3,4,5,14,15,16,25] ?_;refine aq (fun aX bw=>?_) (fun aX bw=>?_)
  ·have hne:cJ l[i].n≠0:=(by simpa using aX)
   have hf:mR (l.take i) l[i]=cJ l[i].n:=if_pos hne;have aS:fw l=cJ l[i].n:=(by rw[hinv,HH aa (by rw[hf];exact hne),hf])
   refine ae [2] ?_;exact oC
  have gv:¬cJ l[i].n≠0:=(by simpa using aX)
  refine aC 4 ?_;refine bS 30 (fun U I=>?_) (fun U I=>?_)
  ·refine aY [0,3,4,14,15,16,34] ?_;refine ez ?_;exact z130
  refine aY [0,3,4,14,15,16,34] ?_;refine aq (fun bC bW=>?_) (fun bC bW=>?_)
  ·exact z130
  have hk:¬(l[i].k<1∨l[i].k>3):=(by omega)
  refine aC 2 ?_;refine bQ (dY (l:=0) rfl ot trivial ⟨_,ot⟩ (by first|exact nH k8 (fun h=>by cases h) runUnderlying38 sizeOf111 w4|exact oh (fun h=>by cases h) runUnderlying38 sizeOf111 w4|exact nG (fun _=>rfl) (fun h=>by cases h) runUnderlying38 sizeOf111 w4 w4)) ?_;refine bQ (oP (ds:=[_]) rfl ⟨ot,trivial⟩) ?_;refine OD.call an rfl rfl rfl call106 (XW (l.take i) 107 [.v (.pointer (some ⟨b4,0,none⟩))] _ (fun d=>d.n.toList==l[i].n.toList) call107 (fun h _=>acw h l[i] b4) nT) ⟨sV rfl lk,sV rfl lk,trivial⟩ (jX (k:=0) rfl) ?_;rintro _ S2 ⟨rfl,ik⟩;rw[ik];clear ik;refine aj 41 [0,14,15,16,39] ?_;refine aq (fun cx c9=>?_) (fun cx c9=>?_)
  ·have hf:mR (l.take i) l[i]=9:=(by unfold mR;rw[if_neg gv,if_neg hk,if_pos cx])
   have aS:fw l=9:=(by rw[hinv,HH aa (by rw[hf];decide),hf])
   refine ae [2] ?_;exact oC
  have hf:mR (l.take i) l[i]=0:=(by unfold mR;rw[if_neg gv,if_neg hk,if_neg (by rw[cx];simp)])
  have iY:=hinv.trans (Zd aa hf);refine cg [0,14,15,16] ?_;refine⟨(i+1),_,cz,aM,w4,iY,rfl⟩
 have aS:fw l=0:=(by rw[hinv];exact aaQ w4)
 refine ae [2] ?_;exact tN

end Go.Proofs.YtbcmjoaggammcaaGreatDoor.Pc
namespace Go.Proofs.YtbcmjoaggammcaaGreatDoor.Pa
open List
open Go.Proofs.Tryz
open Go.RowKit V Pk Vl Go.Proofs.YtbcmjoaggammcaaGreatDoor.Nm Pc
structure cN where
 kind:Int
 table:ByteArray
 av:List cu
 row:List Vl
 names:List ByteArray
 count:Bool
 ah:List aV
 order:ByteArray
 down:Bool
 gK:Int
 set:ByteArray
 bE:List aV
def ir:cN:=⟨0,⟨#[]⟩,[],[],[],false,[],⟨#[]⟩,false,-1,⟨#[]⟩,[]⟩

end Go.Proofs.YtbcmjoaggammcaaGreatDoor.Pa
namespace Go.Proofs.YtbcmjoaggammcaaGreatDoor.Pa







open List
open Go.Proofs.Tryz
open Go.RowKit V Pk Vl Go.Proofs.YtbcmjoaggammcaaGreatDoor.Nm Pc
variable {G:List (Nat×List Value)}
variable {α:Type}
theorem DN{ls:List (List α)}{j:Nat}(h:j<ls.length):(ls.take (j+1)).flatten=(ls.take j).flatten++ls[j]:=by
 rw[take_succ_eq_append_getElem h,flatten_append,flatten_cons,flatten_nil,append_nil]
theorem Ng{ls:List (List α)}{j:Nat}(h:j<ls.length):((ls.take (j+1)).flatten).length=((ls.take j).flatten).length+ls[j].length:=by rw[DN h,length_append]
theorem Nl(ls:List (List α))(j:Nat):((ls.take j).flatten).length≤ls.flatten.length:=by
 conv=>rhs;rw[←take_append_drop j ls,flatten_append,length_append]
 omega
theorem Ze{e sz b cap:Nat}(h:cap≤maxLen):bq e sz [] 0 (some ⟨b,0,none⟩) cap [⟨b,e,cap*sz,[]⟩]:=.inr ⟨b,rfl,Nat.zero_le _,h,rfl⟩

end Go.Proofs.YtbcmjoaggammcaaGreatDoor.Pa
namespace Go.Proofs.YtbcmjoaggammcaaGreatDoor.Pa



open List
open Go.Proofs.Tryz
open Go.RowKit V Pk Vl Go.Proofs.YtbcmjoaggammcaaGreatDoor.Nm Pc
variable {G:List (Nat×List Value)}
variable {α:Type} {i n:Nat} {ts h:List (List Tk)} {o:aV}
def aeh:List ByteArray:=[⟨#[]⟩,⟨#[66,79,79,76]⟩,⟨#[73,78,84]⟩,⟨#[84,69,88,84]⟩]

theorem lg(t:Tk):(cT t).all V.one=true:=rfl
def bD(s:ByteArray):Tk:=⟨1,s,0⟩
def dO(s:ByteArray):Tk:=⟨4,s,0⟩
def cK(l:List Tk):List D:=[.list 3 (l.flatMap cT) l.length]
theorem fX(l:List Tk):(cK l).length=1:=rfl
theorem oV(l:List Tk):(cK l).all V.one=true:=rfl
theorem sQ{β:Type}(f:α→β){l:List α}(hi:i<l.length):(l.take i).map f++[f l[i]]=(l.take (i+1)).map f:=by rw[take_succ_eq_append_getElem hi,map_append];rfl
theorem Iy{β:Type}(f:α→β){l:List α}(hi:l.length≤i):(l.take i).map f=l.map f:=by rw[take_of_length_le hi]
theorem mJ(s:ByteArray):VP Tryz.prog G 79 [.v (.string s)] (.agg (cT (dO s))):=by
 refine VC.body func79 rfl ntmps79 aO fun X0 w0 aZ=>?_;exact z127
theorem qu(s:ByteArray):VP Tryz.prog G 111 [.v (.string s)] (.agg (cT (bD s))):=by
 refine VC.body func111 rfl ntmps111 aO fun X0 w0 aZ=>?_;exact z127
theorem Ah:(Tryz.prog.info? 149).map (fun i=>(i.zero,i.size,i.bytes))=some (some (.agg #[.int .i64 0,.string ⟨#[]⟩,.int .i64 0]),3,32):=by kernel_rfl
theorem yt(l:List ByteArray)(hl:l.length≤10):VC Tryz.prog G 74 [.list 1 (l.flatMap cS) l.length] [] (ga cT 149 3 (l.map bD)):=by
 refine VC.body func74 rfl ntmps74 aO fun X0 w0 aZ=>?_;have dr:maxLen=9223372036854775807:=rfl;refine ae [0] ?_;refine cj ?_;refine aY [0,3] ?_;refine ae [3,6,7,8] ?_;refine CD.block ?_;refine l5 (fun (E:Nat×Option Addr×Nat×List ag) aK=>match E with|(i,O,U,Sa)=>(i≤l.length)∧(bq 149 3 (((l.take i).map bD).flatMap cT) ((l.take i).map bD).length O U Sa)∧aK=(⟨19,[(3,.v (.slice O ((l.take i).map bD).length U)),(6,.list 1 (l.flatMap cS) l.length),(7,.v (.int .i64 (l.length:Nat))),(8,.v (.int .i64 (i:Nat)))],(Sa)⟩:St)) (fun (E:Nat×Option Addr×Nat×List ag)=>match E with|(i,O,U,Sa)=>l.length-i) (0,none,0,[]) ⟨(Nat.zero_le _),(bq.cast iC lB),rfl⟩ (aM (h:=by repeat (first|exact trivial|refine⟨(by (repeat (first|exact fu|(apply fN;focus (first|rfl|(simp;done)|(congr 2;omega)|(apply eB;exact sQ bD aa)|(apply eB;simp;done)))|(apply fE;focus rfl)));done),?_⟩))) ?_;rintro⟨i,O,U,Sa⟩ _ ⟨hi,nX,rfl⟩;refine ae [3,6,7,8,9] ?_;refine aq (fun az aG=>?_) (fun az aG=>?_)
 ·have aa:i<l.length:=(by omega)
  refine ae [3,5,6,7,8] ?_;refine dK 2 ?_;refine dS call111 (qu l[i]) ?_;refine ei (cc 0 [_]) [.int .i64 0,.string ⟨#[]⟩,.int .i64 0] [_,_,_] zeroValue149 runUnderlying114 sizeOf149 (fun b15=>?_);refine fH 0 15 3 1 ?_;refine OD.ee (ls:=((l.take i).map bD)) (new:=[bD l[i]]) (Sq:=Sa) iv lg an rfl rfl underlying114 Ah rfl w7 ot nX (dA (A:=[])) ot bu (by have dr:maxLen=9223372036854775807:=rfl;(try simp only[length_append,length_cons,length_nil,length_map,length_take]);omega) (by have dr:maxLen=9223372036854775807:=rfl;(try simp only[length_append,length_cons,length_nil,length_map,length_take]);omega) (fun Z I ahd ahe=>?_);refine OD.perm (dV (S1:=[⟨Z,149,I*3,flatMap cT (((l.take i).map bD)++[bD l[i]])⟩]) (A:=[])) ?_;refine aj 19 [3,6,7,8] ?_;refine cg [3,6,7,8] ?_;refine⟨((i+1),(some ⟨Z,0,none⟩),I,[⟨Z,149,I*3,flatMap cT (((l.take i).map bD)++[bD l[i]])⟩]),_,cz,(aM (h:=by repeat (first|exact trivial|refine⟨(by (repeat (first|exact fu|(apply fN;focus (first|rfl|(simp;done)|(congr 2;omega)|(apply eB;exact sQ bD aa)|(apply eB;simp;done)))|(apply fE;focus rfl)));done),?_⟩))),w4,(bq.cast (bI ahd ahe) (by exact sQ bD aa)),rfl⟩
 have fb:=Iy bD (show l.length≤i by omega);refine ae [2] ?_;refine aJ _ ?_;exact ga.cast (ga.mk nX) fb
theorem rG(l:List ByteArray)(hl:l.length≤10):VP Tryz.prog G 74 [.list 1 (l.flatMap cS) l.length] (.list 3 ((l.map bD).flatMap cT) (l.map bD).length):=VC.given iv (yt l hl)
def kC(ts:List (List Tk)):Nat→List Tk
 | 0=>[dO ⟨#[40]⟩]
 | i+1=>kC ts i++(if i>0 then [dO ⟨#[44]⟩] else [])++ts.getD i []
def lR(ts:List (List Tk)):List Tk:=kC ts ts.length++[dO ⟨#[41]⟩]
theorem Ei{ts:List (List Tk)}(h:∀x∈ts,x.length≤10):∀i,(kC ts i).length≤1+11*i
 | 0=>Nat.le_refl _
 | i+1=>by
  have E:=Ei h i;have h2:(ts.getD i []).length≤10:=by
   rw[getD_eq_getElem?_getD];cases hx:ts[i]? with
   | none=>exact Nat.zero_le _
   | some x=>exact h x (mem_of_getElem? hx)
  have h3:(if i>0 then [dO ⟨#[44]⟩] else []).length≤1:=(by split<;>simp)
  unfold kC;rw[length_append,length_append];omega
theorem HG(hi:i<ts.length)(h:0<i):(kC ts i++[dO ⟨#[44]⟩])++ts[i]=kC ts (i+1):=by
 rw[kC,if_pos h,getD_eq_getElem?_getD,getElem?_eq_getElem hi];rfl
theorem G6(hi:i<ts.length)(h:¬0<i):kC ts i++ts[i]=kC ts (i+1):=by
 rw[kC,if_neg h,append_nil,getD_eq_getElem?_getD,getElem?_eq_getElem hi];rfl
theorem Q8(ts:List (List Tk))(hl:ts.length≤10)(KY:∀x∈ts,x.length≤10):VP Tryz.prog G 75 [.list 1 (ts.flatMap cK) ts.length] (.list 3 ((lR ts).flatMap cT) (lR ts).length):=by
 refine VC.body func75 rfl ntmps75 aO fun X0 w0 aZ=>?_;have dr:maxLen=9223372036854775807:=rfl;refine ae [0] ?_;refine cj ?_;refine dS call79 (mJ ⟨#[40]⟩) ?_;refine ei (cc 0 [_]) [.int .i64 0,.string ⟨#[]⟩,.int .i64 0] [_,_,_] zeroValue149 runUnderlying114 sizeOf149 (fun b7=>?_);refine OD.perm (dV (S1:=[⟨b7,149,1*3,flatMap cT ([dO ⟨#[40]⟩])⟩]) (A:=[])) ?_;refine aj 29 [0,3] ?_;refine ae [3,8,9,10] ?_;refine CD.block ?_;refine l5 (fun (E:Nat×Option Addr×Nat×List ag) aK=>match E with|(i,I,O,Sa)=>(i≤ts.length)∧(bq 149 3 ((kC ts i).flatMap cT) (kC ts i).length I O Sa)∧aK=(⟨29,[(3,.v (.slice I (kC ts i).length O)),(8,.list 1 (ts.flatMap cK) ts.length),(9,.v (.int .i64 (ts.length:Nat))),(10,.v (.int .i64 (i:Nat)))],(Sa)⟩:St)) (fun (E:Nat×Option Addr×Nat×List ag)=>match E with|(i,I,O,Sa)=>ts.length-i) (0,(some ⟨b7,0,none⟩),1,[⟨b7,149,1*3,flatMap cT ([dO ⟨#[40]⟩])⟩]) ⟨(Nat.zero_le _),(bq.cast (bI (g:=cT) (sz:=3) (e:=149) (ls:=[dO ⟨#[40]⟩]) (Nat.le_refl _) (show 1≤maxLen by decide)) (by rfl)),rfl⟩ (aM (h:=by repeat (first|exact trivial|refine⟨(by (repeat (first|exact fu|(apply fN;focus (first|rfl|(simp;done)|(congr 2;omega)|(apply eB;first|exact HG aa w4|exact G6 aa w4)|(apply eB;rfl)|(apply eB;simp;done)))|(apply fE;focus rfl)));done),?_⟩))) ?_;rintro⟨i,I,O,Sa⟩ _ ⟨hi,nX,rfl⟩;refine ae [3,8,9,10,11] ?_
 refine aq (fun az aG=>?_) (fun az aG=>?_)
 ·have aa:i<ts.length:=(by omega)
  refine ae [3,4,5,8,9,10] ?_;refine ae [3,5,8,9,10,16] ?_;refine aq (fun aH aT=>?_) (fun aH aT=>?_)
  ·refine dK 1 ?_;refine dS call79 (mJ ⟨#[44]⟩) ?_;refine ei (cc 0 [_]) [.int .i64 0,.string ⟨#[]⟩,.int .i64 0] [_,_,_] zeroValue149 runUnderlying114 sizeOf149 (fun b19=>?_);refine fH 0 19 3 1 ?_;refine OD.ee (ls:=(kC ts i)) (new:=[dO ⟨#[44]⟩]) (Sq:=Sa) iv lg an rfl rfl underlying114 Ah rfl w7 ot nX (dA (A:=[])) ot bu w8 w8 (fun Mm U ahf ahg=>?_);refine OD.perm (dV (S1:=[⟨Mm,149,U*3,flatMap cT ((kC ts i)++[dO ⟨#[44]⟩])⟩]) (A:=[])) ?_;refine aj 29 [3,5,8,9,10] ?_;refine dK 2 ?_;refine OD.oO (ls:=((kC ts i)++[dO ⟨#[44]⟩])) (new:=ts[i]) (Sq:=[⟨Mm,149,U*3,flatMap cT ((kC ts i)++[dO ⟨#[44]⟩])⟩]) iv lg an rfl rfl underlying114 Ah rfl w7 runUnderlying114 sizeOf149 ot (bI ahf ahg) (dA (A:=[])) ot w8 w8 (fun TS TT Vu TU=>?_);exact Vt
  refine dK 2 ?_;refine OD.oO (ls:=(kC ts i)) (new:=ts[i]) (Sq:=Sa) iv lg an rfl rfl underlying114 Ah rfl w7 runUnderlying114 sizeOf149 ot nX (dA (A:=[])) ot w8 w8 (fun TS TT Vu TU=>?_);exact Vt
 have qQ:i=ts.length:=(by omega)
 have nR:kC ts i++[dO ⟨#[41]⟩]=lR ts:=(by unfold lR;rw[←qQ])
 refine aC 1 ?_;refine dS call79 (mJ ⟨#[41]⟩) ?_;refine ei (cc 0 [_]) [.int .i64 0,.string ⟨#[]⟩,.int .i64 0] [_,_,_] zeroValue149 runUnderlying114 sizeOf149 (fun b27=>?_);refine fH 0 27 3 1 ?_;refine OD.ee (ls:=(kC ts i)) (new:=[dO ⟨#[41]⟩]) (Sq:=Sa) iv lg an rfl rfl underlying114 Ah rfl w7 ot nX (dA (A:=[])) ot bu w8 w8 (fun Mi Z ahh ahi=>?_);refine OD.perm (dV (S1:=[⟨Mi,149,Z*3,flatMap cT ((kC ts i)++[dO ⟨#[41]⟩])⟩]) (A:=[])) ?_;refine aj 29 [2] ?_;refine CD.gW (t:=2) (Sq:=[⟨Mi,149,Z*3,flatMap cT ((kC ts i)++[dO ⟨#[41]⟩])⟩]) lk (bI ahh ahi) (cr iv _) (dA (A:=[])) ?_;refine aJ [] ?_;rw[nR];exact⟨rfl,rfl⟩
def iZ(v:Vl):List Tk :=
 if v.k=0 then [bD ⟨#[78,85,76,76]⟩]
 else if v.k=1 then [bD (if v.n=0 then ⟨#[70,65,76,83,69]⟩ else ⟨#[84,82,85,69]⟩)]
 else if v.k=3 then [⟨3,v.s,0⟩]
 else if v.n<0 then [dO ⟨#[45]⟩,⟨2,⟨#[]⟩,-v.n⟩] else [⟨2,⟨#[]⟩,v.n⟩]
def mG(v:Vl):Prop:=(v.k=1→v.n=0∨v.n=1)∧-9223372036854775807≤v.n∧v.n≤9223372036854775807
theorem Ob(v:Vl):0<(iZ v).length∧(iZ v).length≤2:=by
 unfold iZ;repeat' split
 all_goals exact⟨by simp,by simp⟩
def E3:List ByteArray:=[⟨#[]⟩,⟨#[]⟩,⟨#[]⟩,⟨#[]⟩,⟨#[]⟩,⟨#[]⟩,⟨#[61]⟩,⟨#[60]⟩,⟨#[43]⟩,⟨#[45]⟩,⟨#[42]⟩]
def yW(k:Int):Tk:=if k=3 then bD ⟨#[65,78,68]⟩ else if k=4 then bD ⟨#[79,82]⟩ else dO (E3.getD k.toNat ⟨#[]⟩)
theorem afx{j:Nat}(h:j<11):(E3.map fun s=>D.v (.string s))[j*1]?=some (.v (.string (E3[j]'h))):=by
 rw[Nat.mul_one,getElem?_map,getElem?_eq_getElem h];rfl
theorem Nn(v:Vl)(h:mG v):VP Tryz.prog G 76 [.agg (cV v)] (.list 3 ((iZ v).flatMap cT) (iZ v).length):=by
 refine VC.body func76 rfl ntmps76 aO fun X0 w0 aZ=>?_;obtain⟨h1,h2,h3⟩:=h;unfold cV;refine cj ?_;refine OD.box (ds:=[_,_,_]) an rfl rfl ot rfl rfl (fun b1=>?_);refine aj 42 [1] ?_;refine ae [1,3] ?_;refine aq (fun az aG=>?_) (fun az aG=>?_)
 ·refine cM [2] (rG [⟨#[78,85,76,76]⟩] zD) ?_;exact F1
 refine ae [1,9] ?_;refine aq (fun aH aT=>?_) (fun aH aT=>?_)
 ·have dH:v.k=1:=(by simpa using aH)
  obtain⟨j,hj,I⟩:∃j:Nat,v.n=(j:Int)∧j<2:=(by (rcases h1 dH with h|h;exact⟨0,h,by decide⟩;exact⟨1,h,by decide⟩))
  rw[hj];refine cL [2] ?_;refine L8 (g:=cS) ([⟨#[70,65,76,83,69]⟩,⟨#[84,82,85,69]⟩]) ?_;refine aP 3 ?_ (h:=by exact(cH (mk:=Op.load 9) rfl ot (by exact pQ (i:=j) iX isAgg9 (by show j<2;omega) rfl)));refine cU (rG [([⟨#[70,65,76,83,69]⟩,⟨#[84,82,85,69]⟩]:List ByteArray)[j]'(by show j<2;omega)] zD) ?_;refine bG ?_;exact F1
 refine ae [1,20] ?_;refine aq (fun aX bw=>?_) (fun aX bw=>?_)
 ·refine aC 3 ?_;refine ei (cc 0 [_]) [.int .i64 0,.string ⟨#[]⟩,.int .i64 0] [_,_,_] zeroValue149 runUnderlying114 sizeOf149 (fun E=>?_);refine OD.perm (dV (S1:=[⟨E,149,1*3,flatMap cT ([(⟨3,v.s,0⟩:Tk)])⟩]) (A:=[_])) ?_;refine aj 42 [2] ?_;refine CD.gW (t:=2) (Sq:=[⟨E,149,1*3,flatMap cT ([(⟨3,v.s,0⟩:Tk)])⟩]) lk (bI (g:=cT) (sz:=3) (e:=149) (ls:=[(⟨3,v.s,0⟩:Tk)]) (Nat.le_refl _) (show 1≤maxLen by decide)) (cr iv _) (dA (A:=[_])) ?_;exact F1
 refine ae [1,28] ?_;refine aq (fun bC bW=>?_) (fun bC bW=>?_)
 ·refine cL [2] ?_;refine cU (mJ ⟨#[45]⟩) ?_;refine aP 2 ?_ (h:=by exact(D0 rfl ot (I7 (wrap_i64 w4 w4))));refine bG ?_;exact F1
 refine aC 3 ?_;refine ei (cc 0 [_]) [.int .i64 0,.string ⟨#[]⟩,.int .i64 0] [_,_,_] zeroValue149 runUnderlying114 sizeOf149 (fun vk=>?_);refine OD.perm (dV (S1:=[⟨vk,149,1*3,flatMap cT ([(⟨2,⟨#[]⟩,v.n⟩:Tk)])⟩]) (A:=[_])) ?_;refine aj 42 [2] ?_;refine CD.gW (t:=2) (Sq:=[⟨vk,149,1*3,flatMap cT ([(⟨2,⟨#[]⟩,v.n⟩:Tk)])⟩]) lk (bI (g:=cT) (sz:=3) (e:=149) (ls:=[(⟨2,⟨#[]⟩,v.n⟩:Tk)]) (Nat.le_refl _) (show 1≤maxLen by decide)) (cr iv _) (dA (A:=[_])) ?_;refine aJ [] ?_;refine⟨?_,rfl⟩;unfold iZ;first|(rw[if_pos aG];first|done|rfl)|(rw[if_neg aG,if_pos dH,hj];rcases j with _|_|j<;>first|rfl|omega)|(rw[if_neg aG,if_neg aT,if_pos bw];first|done|rfl)|(rw[if_neg aG,if_neg aT,if_neg bw,if_pos w4,show -v.n=0-v.n by omega];first|done|rfl)|(rw[if_neg aG,if_neg aT,if_neg bw,if_neg w4];first|done|rfl)
theorem Yn(k:Int)(h:k=3∨k=4∨6≤k∧k≤10):VP Tryz.prog G 113 [.v (.int .i64 k)] (.agg (cT (yW k))):=by
 refine VC.body func113 rfl ntmps113 aO fun X0 w0 aZ=>?_;refine cj ?_;refine OD.alloc (ds:=[_,_,_]) an rfl rfl zeroValue149 rfl (fun b2=>?_);refine aj 14 [0,2] ?_;refine ae [0,2,3] ?_;refine ae [0,2,3,4] ?_;refine aq (fun az aG=>?_) (fun az aG=>?_)
 ·refine cj ?_;refine dS call111 (qu ⟨#[65,78,68]⟩) ?_;exact VA
 refine ae [0,2,7] ?_;refine aq (fun aH aT=>?_) (fun aH aT=>?_)
 ·refine cj ?_;refine dS call111 (qu ⟨#[79,82]⟩) ?_;exact VA
 have lF:¬k=3:=(by simpa using az)
 have xm:¬k=4:=(by simpa using aH)
 obtain⟨j,rfl⟩:∃j:Nat,k=(j:Int):=⟨k.toNat,by omega⟩
 have hj:j<11:=(by omega)
 refine cj ?_;refine bQ (Dx (pl:=[(6,_),(7,_),(8,_),(9,_),(10,_)]) (ds:=[_,_,_,_,_,_,_,_,_,_,_]) rfl zeroValue216 runUnderlying216 sizeOf9 ⟨rfl,bH,rfl,bH,rfl,bH,rfl,bH,rfl,bH,trivial⟩ rfl rfl) ?_;refine aD 1 ?_;refine bQ (Yb (j:=j) rfl ot ot runUnderlying216 sizeOf9 isAgg9 rfl hj (afx hj)) ?_;refine dS call79 (mJ (E3[j]'hj)) ?_;refine aN 0 [_,_,_] sizeOf149 ?_;refine aj 14 [2] ?_;refine aJ [] ?_;refine⟨?_,rfl⟩;unfold yW;first|(rw[if_neg lF,if_neg xm,show((j:Nat):Int).toNat=j from rfl,getD_eq_getElem?_getD,getElem?_eq_getElem hj];rfl)|(rw[if_pos wU];rfl)|(rw[if_neg wU,if_pos ve];rfl)

def Cz(q:List Tk):List D:=[.list 3 (q.flatMap cT) q.length]
theorem Ns:(Tryz.prog.info? 149).map (fun i=>(i.zero,i.size,i.bytes))=some (some (.agg #[.int .i64 0,.string ⟨#[]⟩,.int .i64 0]),3,32):=by kernel_rfl
theorem Zf(n:Nat)(h0:0<n)(hn:n≤100000):VC Tryz.prog G 112 [.v (.slice none 0 0),.v (.int .i64 (n:Nat))] [] (fun r S=>∃b cap,cap≤maxLen∧r = .v (.slice (some ⟨b,0,none⟩) 0 cap)∧S=[⟨b,149,cap*3,[]⟩]):=by
 refine VC.body func112 rfl ntmps112 aO fun X0 w0 aZ=>?_;refine ae [0,1] ?_;refine ae [0,1,6] ?_;refine aq (fun az aG=>?_) (fun az aG=>?_)
 ·exact absurd az tK
 refine cL [0,1] ?_;refine aP 2 ?_ (h:=by exact(DL rfl rfl ot runUnderlying114));refine aP 1 ?_ (h:=by exact(cH (mk:=fun y=>.call {callee:=.builtin .len,args:=#[y],argTypes:=#[114]}) rfl ot (QS rfl runUnderlying114)));refine bG ?_;refine ae [0,1,16] ?_;refine aq (fun aH aT=>?_) (fun aH aT=>?_)
 ·refine dK 2 ?_;refine bQ (DL rfl rfl ot runUnderlying114) ?_;refine bQ (Dv rfl ot rfl ⟨_,_,ot,rfl⟩ runUnderlying114 sizeOf149) ?_;refine aD 1 ?_;refine OD.aaK (m:=n) (sz:=3) an rfl rfl underlying114 underlying3 Ns rfl w7 ot (Eq.trans ot (congrArg (fun z=>D.v (.int .i64 z)) (show((n:Nat):Int)-(0-0)=((n:Nat):Int) by omega))) h0 Ff w4 (fun b cap h1 h2=>?_);refine aD 1 ?_;refine bQ (cH (mk:=fun y=>.call {callee:=.builtin .len,args:=#[y],argTypes:=#[114]}) rfl ot (QS rfl runUnderlying114)) ?_;refine bQ (dY (l:=0) (h:=0) rfl ot trivial ⟨_,ot⟩ (by first|exact oh (fun h=>by cases h) runUnderlying114 sizeOf149 w4|exact nG (fun _=>rfl) (fun h=>by cases h) runUnderlying114 sizeOf149 w4 w4)) ?_;refine aj 27 [0] ?_;refine ae [4] ?_;refine aJ [⟨b,149,cap*3,[]⟩] ?_;exact⟨b,cap,h2,rfl,rfl⟩
 exact absurd aH (by simp at aH;omega)
theorem XX(ls:List (List Tk))(Wu:ls.length≤1000)(h0:0<ls.flatten.length)(hn:ls.flatten.length≤100000):VC Tryz.prog G 78 [.list 1 (ls.flatMap Cz) ls.length] [] (fun r S=>∃ad cap,r = .v (.slice ad ls.flatten.length cap)∧bq 149 3 (ls.flatten.flatMap cT) ls.flatten.length ad cap S):=by
 refine VC.body func78 rfl ntmps78 aO fun X0 w0 aZ=>?_;refine ae [0] ?_;refine ae [0,3] ?_;refine ae [0,3,9,10,11] ?_;refine CD.block ?_;refine l5 (fun (j:Nat) aK=>(j≤ls.length)∧aK=(⟨36,[(0,.list 1 (ls.flatMap Cz) ls.length),(3,.v (.int .i64 ((((ls.take j).flatten).length:Nat):Int))),(9,.list 1 (ls.flatMap Cz) ls.length),(10,.v (.int .i64 (ls.length:Nat))),(11,.v (.int .i64 (j:Nat)))],[]⟩:St)) (fun (j:Nat)=>ls.length-j) 0 ⟨(Nat.zero_le _),rfl⟩ (aM (h:=by repeat (first|exact trivial|refine⟨(by (repeat (first|exact fu|(apply fN;focus (first|rfl|(congr 2;omega)|(simp;done)))|(apply fE;focus rfl)));done),?_⟩))) ?_;rintro j _ ⟨hj,rfl⟩;refine ae [0,3,9,10,11,12] ?_;refine aq (fun az aG=>?_) (fun az aG=>?_)
 ·have aa:j<ls.length:=(by simp at az;omega)
  have O:=Ng aa;have hle:=Nl ls (j+1);refine ae [0,3,5,9,10,11] ?_;refine cL [0,3,9,10,11] ?_;refine aP 3 ?_ (h:=by exact(cX (r:=.int .i64 ((((ls.take (j+1)).flatten).length:Nat):Int)) rfl ot ot (jZ (by rw[show((((ls.take j).flatten).length:Nat):Int)+(ls[j].length:Nat)=((((ls.take (j+1)).flatten).length:Nat):Int) by omega];exact wrap_i64 w4 w4))));refine bG ?_;refine ae [0,3,9,10,11,20] ?_;refine aq (fun aH aT=>?_) (fun aH aT=>?_)
  ·exact absurd aH (by simp at aH;omega)
  refine cg [0,3,9,10,11] ?_;refine⟨(j+1),_,cz,(aM (h:=by repeat (first|exact trivial|refine⟨(by (repeat (first|exact fu|(apply fN;focus (first|rfl|(congr 2;omega)|(simp;done)))|(apply fE;focus rfl)));done),?_⟩))),w4,rfl⟩
 obtain rfl:j=ls.length:=(by simp at az;omega)
 rw[take_length];refine aC 1 ?_;refine OD.call an rfl rfl rfl call112 (Zf ls.flatten.length h0 hn) ⟨bH,ot,trivial⟩ (Perm.refl _) ?_;rintro _ _ ⟨b,cp,wY,rfl,rfl⟩;refine OD.perm (Perm.refl _) ?_;refine aj 36 [0,6] ?_;refine ae [6,25,26,27] ?_;refine CD.block ?_;refine l5 (fun (E:Nat×Option Addr×Nat×List ag) aK=>match E with|(j,dQ,dD,Sx)=>(j≤ls.length)∧(bq 149 3 (((ls.take j).flatten).flatMap cT) ((ls.take j).flatten).length dQ dD Sx)∧aK=(⟨36,[(6,.v (.slice dQ ((ls.take j).flatten).length dD)),(25,.list 1 (ls.flatMap Cz) ls.length),(26,.v (.int .i64 (ls.length:Nat))),(27,.v (.int .i64 (j:Nat)))],(Sx)⟩:St)) (fun (E:Nat×Option Addr×Nat×List ag)=>match E with|(j,dQ,dD,Sx)=>ls.length-j) (0,(some ⟨b,0,none⟩),cp,[⟨b,149,cp*3,[]⟩]) ⟨(Nat.zero_le _),(bq.cast (Ze wY) (by rfl)),rfl⟩ (aM (h:=by repeat (first|exact trivial|refine⟨(by (repeat (first|exact fu|(apply fN;focus (first|rfl|(simp;done)|(congr 2;omega)|(apply eB;rw[DN aa])|(apply eB;rfl)|(apply eB;simp;done)))|(apply fE;focus rfl)));done),?_⟩))) ?_;rintro⟨j,dQ,dD,Sx⟩ _ ⟨hj,ec,rfl⟩;refine ae [6,25,26,27,28] ?_;refine aq (fun aX bw=>?_) (fun aX bw=>?_)
 ·have aa:j<ls.length:=(by simp at aX;omega)
  have O:=Ng aa;have hle:=Nl ls (j+1);refine ae [6,8,25,26,27] ?_;refine dK 2 ?_;refine OD.oO (ls:=((ls.take j).flatten)) (new:=ls[j]) (Sq:=Sx) iv lg an rfl rfl underlying114 Ns rfl w7 runUnderlying114 sizeOf149 ot ec (dA (A:=[])) ot Ff w4 (fun U Z S33 ahj=>?_);refine OD.perm (dV (A:=[])) ?_;refine aj 36 [6,25,26,27] ?_;refine cg [6,25,26,27] ?_;refine⟨((j+1),U,Z,S33),_,cz,(aM (h:=by repeat (first|exact trivial|refine⟨(by (repeat (first|exact fu|(apply fN;focus (first|rfl|(simp;done)|(congr 2;omega)|(apply eB;rw[DN aa])|(apply eB;rfl)|(apply eB;simp;done)))|(apply fE;focus rfl)));done),?_⟩))),w4,(bq.cast ahj (by rw[DN aa])),rfl⟩
 obtain rfl:j=ls.length:=(by simp at aX;omega)
 refine ae [2] ?_;refine aJ Sx ?_;have I:=ec;rw[take_length] at I;exact⟨dQ,dD,by rw[take_length],I⟩
theorem DO(ls:List (List Tk))(E:ls.length≤1000)(h0:0<ls.flatten.length)(hn:ls.flatten.length≤100000):VP Tryz.prog G 78 [.list 1 (ls.flatMap Cz) ls.length] (.list 3 (ls.flatten.flatMap cT) ls.flatten.length):=VC.given iv (XX ls E h0 hn)
def rU(o:aV)(a b:List Tk):List Tk :=
 if o.k=1 then iZ o.v else if o.k=2 then [bD o.nm]
 else if o.k=5 then [[dO ⟨#[40]⟩,bD ⟨#[78,79,84]⟩],a,[dO ⟨#[41]⟩]].flatten
 else if o.k=11 then [[dO ⟨#[40]⟩],a,[bD ⟨#[73,83]⟩,bD ⟨#[78,85,76,76]⟩],[dO ⟨#[41]⟩]].flatten
 else [[dO ⟨#[40]⟩],a,[yW o.k],b,[dO ⟨#[41]⟩]].flatten
def eC(h:List (List Tk))(o:aV):Nat:=h.length-(bN o.k).toNat
def nN(h:List (List Tk))(o:aV):List (List Tk):=h.take (eC h o)++[rU o (h.getD (eC h o) []) (h.getD (eC h o+1) [])]
def qA(l:List aV):List Tk:=(l.foldl nN []).getD 0 []
theorem acz{h:Int}(he:eX h o=0):1≤o.k∧o.k≤11∧iG o.v=0∧bN o.k≤h:=by
 unfold eX at he;split at he
 ·cases he
 split at he
 ·exact absurd he tg
 split at he
 ·cases he
 split at he
 ·rename_i h4;exact absurd he h4.2
 split at he
 ·cases he
 exact⟨by omega,by omega,by omega,by omega⟩
theorem acA{l:List aV}{h:Int}(hi:i<l.length)(he:fy h (l.drop i)=0):eX h l[i]=0:=by
 rw[drop_eq_getElem_cons hi,fy] at he;split at he
 ·assumption
 exact he
theorem SI{v:Vl}(h:iG v=0)(h1:-9223372036854775808≤v.n)(h2:v.n≤9223372036854775807):mG v:=by
 unfold iG dB at h;split at h
 ·cases h
 have hn:¬(v.k=2∧v.n = -9223372036854775808):=(by assumption)
 repeat' split at h
 all_goals first|(exfalso;omega)|(unfold mG;refine⟨?_,?_,h2⟩<;>omega)
theorem Px(hp:bN o.k≤(h.length:Int)):((nN h o).length:Int)=h.length+(1-bN o.k):=by
 have:=sU o.k;unfold nN eC;rw[length_append,length_take];simp only[length_cons,length_nil];omega
theorem Ae(h:List (List Tk))(n:Nat):h.flatten.length=(h.take n).flatten.length+(h.drop n).flatten.length:=by
 conv=>lhs;rw[←take_append_drop n h,flatten_append,length_append]
theorem uj:(h.getD n []).length≤(h.drop n).flatten.length∧(h.getD n []).length+(h.getD (n+1) []).length≤(h.drop n).flatten.length:=by
 by_cases hn:n<h.length
 ·rw[drop_eq_getElem_cons hn];have e1:h.getD n []=h[n]:=(by rw[getD_eq_getElem?_getD,getElem?_eq_getElem hn];rfl)
  rw[e1,flatten_cons,length_append];refine⟨by omega,?_⟩;by_cases iJ:n+1<h.length
  ·rw[drop_eq_getElem_cons iJ,flatten_cons,length_append];have e2:h.getD (n+1) []=h[n+1]:=(by rw[getD_eq_getElem?_getD,getElem?_eq_getElem iJ];rfl)
   rw[e2];omega
  have e2:h.getD (n+1) []=[]:=(by rw[getD_eq_getElem?_getD,getElem?_eq_none w4];rfl)
  rw[e2];simp only[length_nil];omega
 have e1:h.getD n []=[]:=(by rw[getD_eq_getElem?_getD,getElem?_eq_none w4];rfl)
 have e2:h.getD (n+1) []=[]:=(by rw[getD_eq_getElem?_getD,getElem?_eq_none w4];rfl)
 rw[e1,e2];exact⟨by simp,by simp⟩
theorem Q9(o:aV)(a b:List Tk):(rU o a b).length≤a.length+b.length+5∧0<(rU o a b).length:=by
 have:=Ob o.v;unfold rU;repeat' split
 all_goals first|exact⟨by omega,by omega⟩|(simp only[flatten_cons,flatten_nil,length_append,length_cons,length_nil];exact⟨by omega,by omega⟩)
theorem Oc:(nN h o).flatten.length≤h.flatten.length+5:=by
 have h1:=Ae h (eC h o);have h2:=(uj (h:=h) (n:=eC h o)).2;have h3:=(Q9 o (h.getD (eC h o) []) (h.getD (eC h o+1) [])).1;unfold nN;rw[flatten_append,length_append];simp only[flatten_cons,flatten_nil,append_nil];omega
theorem Zg{l:List aV}(hi:i<l.length):(l.take (i+1)).foldl nN []=nN ((l.take i).foldl nN []) l[i]:=by
 rw[take_succ_eq_append_getElem hi,foldl_append];rfl
theorem Er{e sz cap:Nat}{cs:List D}{ad:Option Addr}{S:List ag}(h:bq e sz cs n ad cap S)(hn:0<n):∃b,ad=some ⟨b,0,none⟩∧n≤cap∧cap≤maxLen∧S=[⟨b,e,cap*sz,cs⟩]:=by
 rcases h with ⟨h1,_⟩|h
 ·omega
 exact h
theorem me{h:List α}{d:α}(hn:n<h.length):h.getD n d=h[n]:=by rw[getD_eq_getElem?_getD,getElem?_eq_getElem hn];rfl
theorem XY:(Tryz.prog.info? 114).map (fun i=>(i.zero,i.size,i.bytes))=some (some (.slice none 0 0),1,24):=by kernel_rfl
theorem NH(l:List aV)(hl:l.length≤40)(he:fy 0 l=0)(hr:∀o∈l,-9223372036854775808≤o.v.n∧o.v.n≤9223372036854775807):VP Tryz.prog G 80 [.list 5 (l.flatMap cO) l.length] (.list 3 ((qA l).flatMap cT) (qA l).length):=by
 refine VC.body func80 rfl ntmps80 aO fun X0 w0 aZ=>?_;have dr:maxLen=9223372036854775807:=rfl;refine ae [0] ?_;refine cj ?_;refine aY [0,3] ?_;refine ae [3,8,9,10] ?_;refine CD.block ?_;refine l5 (fun (lV:Nat×List (List Tk)×Option Addr×Nat×List ag) aK=>match lV with|(i,H,zW,jS,Sh)=>(i≤l.length)∧(H=(l.take i).foldl nN [])∧(fy ((H).length:Int) (l.drop i)=0)∧((H).length≤i)∧((H).flatten.length≤5*i)∧(bq 114 1 ((H).flatMap cK) (H).length zW jS Sh)∧aK=(⟨90,[(3,.v (.slice zW (H).length jS)),(8,.list 5 (l.flatMap cO) l.length),(9,.v (.int .i64 (l.length:Nat))),(10,.v (.int .i64 (i:Nat)))],(Sh)⟩:St)) (fun (lV:Nat×List (List Tk)×Option Addr×Nat×List ag)=>match lV with|(i,H,zW,jS,Sh)=>l.length-i) (0,[],none,0,[]) ⟨(Nat.zero_le _),rfl,he,(Nat.le_refl _),(Nat.le_refl _),(bq.cast iC (by rfl)),rfl⟩ (aM (h:=by repeat (first|exact trivial|refine⟨(by (repeat (first|exact fu|(apply fN;focus (first|rfl|(simp;done)|(congr 2;omega)|(apply eB;rw[hT];rfl)|(apply eB;rfl)|(apply eB;simp;done)))|(apply fE;focus rfl)));done),?_⟩))) ?_;rintro⟨i,H,zW,jS,Sh⟩ _ ⟨hi,hH,hx,hHi,hHf,nx,rfl⟩;refine ae [3,8,9,10,11] ?_;refine aq (fun az aG=>?_) (fun az aG=>?_)
 ·have aa:i<l.length:=(by simp at az;omega)
  have zV:=acA aa hx;obtain⟨dH,Us,uQ,Gb⟩:=acz zV;have Cx:=sU l[i].k;have Ks:l.length≤40:=hl;have ahk:eC H l[i]≤H.length:=Nat.sub_le _ _;have ahl:=SI uQ (hr _ (getElem_mem aa)).1 (hr _ (getElem_mem aa)).2;refine aC 2 ?_;refine OD.alloc (ds:=[_,_,_,_,_]) an rfl rfl zeroValue61 rfl (fun b5=>?_);refine aN 0 [_,_,_,_,_] sizeOf61 ?_;refine aj 90 [3,5,8,9,10] ?_;refine cL [3,5,6,8,9,10] ?_;refine cU (yd l[i].k) ?_;refine aP 0 ?_ (h:=by exact(cX (r:=.int .i64 (((eC H l[i]):Nat):Int)) rfl ot ot (fV (by rw[show((H.length:Nat):Int)-bN l[i].k=(((eC H l[i]):Nat):Int) by unfold eC;omega];exact wrap_i64 w4 w4))));refine bG ?_;refine ae [3,5,6,8,9,10] ?_;refine jI [6,8,9,10] (fun aW _ aK=>∃(Tx:List Tk),∃(ad:Option Addr),∃(cp:Nat),∃(Sx:List ag),(Tx=rU l[i] (H.getD (eC H l[i]) []) (H.getD (eC H l[i]+1) []))∧(bq 114 1 (H.flatMap cK) H.length ad cp Sx)∧aK=(⟨90,(3,.v (.slice ad H.length cp))::(7,.list 3 (Tx.flatMap cT) Tx.length)::aW,Sx⟩:St)) ?_ ?_
  ·refine ae [3,5,6,8,9,10,21] ?_;refine ae [3,5,6,8,9,10,21,41] ?_;refine aq (fun aH aT=>?_) (fun aH aT=>?_)
   ·refine ij [3,6,7,8,9,10] ?_;refine cU (Nn l[i].v ahl) ?_;refine bG ?_;refine⟨_,aM,iZ l[i].v,zW,jS,Sh,(by unfold rU;rw[if_pos aT]),nx,rfl⟩
   refine ae [3,5,6,8,9,10,21,46] ?_;refine aq (fun aX bw=>?_) (fun aX bw=>?_)
   ·refine ij [3,6,7,8,9,10] ?_;refine cU (rG [l[i].nm] zD) ?_;refine bG ?_;refine⟨_,aM,[bD l[i].nm],zW,jS,Sh,(by unfold rU;rw[if_neg aT,if_pos bw]),nx,rfl⟩
   refine ae [3,5,6,8,9,10,21,52] ?_;refine aq (fun bC bW=>?_) (fun bC bW=>?_)
   ·have CA:l[i].k=5:=(by simpa using bC)
    have hp1:bN l[i].k=1:=(by rw[CA];decide)
    have hg1:=(uj (h:=H) (n:=eC H l[i])).1;have hg2:=(uj (h:=H) (n:=eC H l[i])).2;have hg3:=Ae H (eC H l[i]);have U:0<H.length:=(by omega)
    obtain⟨bh,E,I,O,Z⟩:=Er nx U;subst E Z;have gv:eC H l[i]<H.length:=(by unfold eC;omega)
    rw[me gv] at hg1 hg2;skip;refine ij [3,6,7,8,9,10] ?_;refine cU (mJ ⟨#[40]⟩) ?_;refine cU (qu ⟨#[78,79,84]⟩) ?_;refine aP 4 ?_ (h:=by first|exact(cH (mk:=Op.load 114) rfl ot Lh)|exact(cH (mk:=Op.load 114) rfl ot Lg)|exact(cH (mk:=Op.load 114) rfl ot Lf));refine cU (mJ ⟨#[41]⟩) ?_;refine cU (DO ([[dO ⟨#[40]⟩,bD ⟨#[78,79,84]⟩],H[eC H l[i]],[dO ⟨#[41]⟩]]) Lm zq zq) ?_;refine bG ?_;refine⟨_,aM,[[dO ⟨#[40]⟩,bD ⟨#[78,79,84]⟩],H[eC H l[i]],[dO ⟨#[41]⟩]].flatten,(some ⟨bh,0,none⟩),jS,[⟨bh,114,jS*1,H.flatMap cK⟩],(by unfold rU;rw[if_neg aT,if_neg bw,if_pos bW,me gv]),(bI I O),rfl⟩
   refine ae [3,5,6,8,9,10,65] ?_;refine aq (fun cx c9=>?_) (fun cx c9=>?_)
   ·have Mn:l[i].k=11:=(by simpa using cx)
    have hp1:bN l[i].k=1:=(by rw[Mn];decide)
    have hg1:=(uj (h:=H) (n:=eC H l[i])).1;have hg2:=(uj (h:=H) (n:=eC H l[i])).2;have hg3:=Ae H (eC H l[i]);have U:0<H.length:=(by omega)
    obtain⟨bh,E,I,O,Z⟩:=Er nx U;subst E Z;have gv:eC H l[i]<H.length:=(by unfold eC;omega)
    rw[me gv] at hg1 hg2;skip;refine ij [3,6,7,8,9,10] ?_;refine cU (mJ ⟨#[40]⟩) ?_;refine aP 4 ?_ (h:=by first|exact(cH (mk:=Op.load 114) rfl ot Lh)|exact(cH (mk:=Op.load 114) rfl ot Lg)|exact(cH (mk:=Op.load 114) rfl ot Lf));refine cU (rG [⟨#[73,83]⟩,⟨#[78,85,76,76]⟩] (by show 2≤10;decide)) ?_;refine cU (mJ ⟨#[41]⟩) ?_;refine cU (DO ([[dO ⟨#[40]⟩],H[eC H l[i]],[bD ⟨#[73,83]⟩,bD ⟨#[78,85,76,76]⟩],[dO ⟨#[41]⟩]]) Lm zq zq) ?_;refine bG ?_;refine⟨_,aM,[[dO ⟨#[40]⟩],H[eC H l[i]],[bD ⟨#[73,83]⟩,bD ⟨#[78,85,76,76]⟩],[dO ⟨#[41]⟩]].flatten,(some ⟨bh,0,none⟩),jS,[⟨bh,114,jS*1,H.flatMap cK⟩],(by unfold rU;rw[if_neg aT,if_neg bw,if_neg bW,if_pos c9,me gv]),(bI I O),rfl⟩
   have hkb:¬l[i].k=1∧¬l[i].k=2∧¬l[i].k=5∧¬l[i].k=11:=⟨by simpa using aH,by simpa using aX,by simpa using bC,by simpa using cx⟩
   have nV:bN l[i].k=2:=(by unfold bN;rw[if_neg w4,if_neg w4])
   have hg1:=(uj (h:=H) (n:=eC H l[i])).1;have hg2:=(uj (h:=H) (n:=eC H l[i])).2;have hg3:=Ae H (eC H l[i]);have U:0<H.length:=(by omega)
   obtain⟨bh,E,I,O,Z⟩:=Er nx U;subst E Z;have gv:eC H l[i]<H.length:=(by unfold eC;omega)
   have gb:eC H l[i]+1<H.length:=(by unfold eC;omega)
   rw[me gv,me gb] at hg2;rw[me gv] at hg1;refine ij [3,6,7,8,9,10] ?_;refine cU (mJ ⟨#[40]⟩) ?_;refine aP 4 ?_ (h:=by first|exact(cH (mk:=Op.load 114) rfl ot Lh)|exact(cH (mk:=Op.load 114) rfl ot Lg)|exact(cH (mk:=Op.load 114) rfl ot Lf));refine cU (Yn l[i].k w4) ?_;refine aP 3 ?_ (h:=by exact(cX (r:=.int .i64 ((((eC H l[i])+1:Nat)):Int)) rfl ot bH (jZ (by rw[show(((eC H l[i]):Nat):Int)+1=(((eC H l[i])+1:Nat):Int) by omega];exact wrap_i64 w4 w4))));refine aP 1 ?_ (h:=by first|exact(cH (mk:=Op.load 114) rfl ot (by exact iL (k:=0) (i:=((eC H l[i])+1)) fX rfl rfl rfl isAgg114 gb rfl))|exact(cH (mk:=Op.load 114) rfl ot (by exact iL (k:=1) (i:=((eC H l[i])+1)) fX rfl rfl rfl isAgg114 gb rfl))|exact(cH (mk:=Op.load 114) rfl ot (by exact iL (k:=2) (i:=((eC H l[i])+1)) fX rfl rfl rfl isAgg114 gb rfl)));refine cU (mJ ⟨#[41]⟩) ?_;refine cU (DO ([[dO ⟨#[40]⟩],H[eC H l[i]],[yW l[i].k],H[eC H l[i]+1],[dO ⟨#[41]⟩]]) Lm zq zq) ?_;refine bG ?_;refine⟨_,aM,[[dO ⟨#[40]⟩],H[eC H l[i]],[yW l[i].k],H[eC H l[i]+1],[dO ⟨#[41]⟩]].flatten,(some ⟨bh,0,none⟩),jS,[⟨bh,114,jS*1,H.flatMap cK⟩],(by unfold rU;rw[if_neg aT,if_neg bw,if_neg bW,if_neg c9,me gv,me gb]),(bI I O),rfl⟩
  rintro _ ⟨Tx,ad,cp,Sx,hT,ec,rfl⟩;have hTl:=Q9 l[i] (H.getD (eC H l[i]) []) (H.getD (eC H l[i]+1) []);refine dK 3 ?_;refine bQ (Xu ec rfl ot ot ot runUnderlying142 sizeOf114 (by unfold eC;omega)) ?_;refine aD 1 ?_;refine ei (cc 0 [_]) [.slice none 0 0] [_] zeroValue114 runUnderlying142 sizeOf114 (fun b84=>?_);refine fH 0 84 1 1 ?_;refine OD.Yj (ls:=H) (new:=[Tx]) (n:=eC H l[i]) (Sq:=Sx) fX oV an rfl rfl underlying142 XY rfl w7 ot ec (dA (A:=[])) (by unfold eC;omega) ot bu (by simp only[maxLen,length_cons,length_nil];omega) (by simp only[length_cons,length_nil];omega) (fun Mo Kt ahm ahn=>?_);refine OD.perm (dV (S1:=[⟨Mo,114,Kt*1,flatMap cK (H.take (eC H l[i])++[Tx])⟩]) (A:=[])) ?_;refine aj 90 [3,8,9,10] ?_;refine cg [3,8,9,10] ?_;refine⟨((i+1),(nN H l[i]),(some ⟨Mo,0,none⟩),Kt,[⟨Mo,114,Kt*1,flatMap cK (H.take (eC H l[i])++[Tx])⟩]),_,cz,(aM (h:=by repeat (first|exact trivial|refine⟨(by (repeat (first|exact fu|(apply fN;focus (first|rfl|(simp;done)|(congr 2;omega)|(apply eB;rw[hT];rfl)|(apply eB;rfl)|(apply eB;simp;done)))|(apply fE;focus rfl)));done),?_⟩))),w4,(by rw[hH,←Zg aa]),(by rw[Px Gb,←O1 aa zV];exact hx),(by have:=Px Gb;omega),(by have:=Oc (h:=H) (o:=l[i]);omega),(bq.cast (bI ahm ahn) (by rw[hT];rfl)),rfl⟩
 have qQ:l.length≤i:=(by simp at az;omega)
 have fb:=hx;rw[N9 qQ] at fb;have hH1:H.length=1:=(by (split at fb;omega;cases fb))
 refine CD.exit ?_;refine CD.seq ?_;obtain⟨bh,E,I,O,Z⟩:=Er nx (show 0<H.length by omega);subst E Z;have gv:0<H.length:=(by omega)
 refine ij [2] ?_;refine aP 1 ?_ (h:=by exact(qq (mk:=Op.indexAddr 142) rfl ot bH (by first|exact rC runUnderlying142 sizeOf114 (j:=0) rfl (by first|exact gv|exact gb)|exact rF runUnderlying142 sizeOf114 (j:=0) rfl (by first|exact gv|exact gb))));refine aP 0 ?_ (h:=by first|exact(cH (mk:=Op.load 114) rfl ot (by exact iL (k:=0) (i:=0) fX rfl rfl rfl isAgg114 gv rfl))|exact(cH (mk:=Op.load 114) rfl ot (by exact iL (k:=1) (i:=0) fX rfl rfl rfl isAgg114 gv rfl))|exact(cH (mk:=Op.load 114) rfl ot (by exact iL (k:=2) (i:=0) fX rfl rfl rfl isAgg114 gv rfl)));refine bG ?_;refine aJ [] ?_;refine⟨?_,rfl⟩;unfold qA;rw[show l.foldl nN []=H by rw[hH,take_of_length_le qQ],me gv]

end Go.Proofs.YtbcmjoaggammcaaGreatDoor.Pa
namespace Go.Proofs.YtbcmjoaggammcaaGreatDoor.Pa

open List
open Go.Proofs.Tryz
open Go.RowKit V Pk Vl Go.Proofs.YtbcmjoaggammcaaGreatDoor.Nm Pc
variable {G:List (Nat×List Value)}
variable {α:Type} {i:Nat} {E:List ByteArray}
def bY(s:cN):List D:=[.v (.int .i64 s.kind),.v (.string s.table),.list 2 (s.av.flatMap cC) s.av.length,.list 3 (s.row.flatMap cV) s.row.length,.list 1 (s.names.flatMap cS) s.names.length,.v (.bool s.count),.list 5 (s.ah.flatMap cO) s.ah.length,.v (.string s.order),.v (.bool s.down),.v (.int .i64 s.gK),.v (.string s.set),.list 5 (s.bE.flatMap cO) s.bE.length]
def okS(s:cN):Prop:=s.av.length≤6∧s.row.length≤6∧s.names.length≤6∧s.ah.length≤40∧s.bE.length≤40

def jz{α:Type}(f:α→Int):List α→Int
 | []=>0
 | a::r=>if f a≠0 then f a else jz f r
theorem Py{f:α→Int}{l:List α}(hi:i<l.length)(h:f l[i]≠0):jz f (l.drop i)=f l[i]:=by rw[drop_eq_getElem_cons hi,jz,if_pos h]
theorem Pz{f:α→Int}{l:List α}(hi:i<l.length)(h:f l[i]=0):jz f (l.drop i)=jz f (l.drop (i+1)):=by rw[drop_eq_getElem_cons hi,jz,if_neg (by rw[h];decide)]
theorem Od{f:α→Int}{l:List α}(hi:l.length≤i):jz f (l.drop i)=0:=by rw[drop_of_length_le hi];rfl
def dU(l:List Vl):Int:=if l.length<1∨l.length>6 then 1 else jz iG l
def nh(l:List aV):Int:=if l.length=0 then 0 else iF l
def oo(s:cN):Int :=
 if s.names.length>6 then 1 else if s.gK < -1 then 3
 else if (s.count=true∧0<s.names.length)∨(s.down=true∧iU s.order ⟨#[]⟩=true) then 6
 else if jz cJ s.names≠0 then jz cJ s.names else if nh s.ah≠0 then nh s.ah else if iU s.order ⟨#[]⟩=true then 0 else cJ s.order
def lj(s h:cN):Bool:=iU s.table h.table&&(((s.av.length:Int)==(h.av.length:Int))&&(((s.row.length:Int)==(h.row.length:Int))&&(((s.names.length:Int)==(h.names.length:Int))&&((s.count==h.count)&&(((s.ah.length:Int)==(h.ah.length:Int))&&(iU s.order h.order&&((s.down==h.down)&&((s.gK==h.gK)&&(iU s.set h.set&&((s.bE.length:Int)==(h.bE.length:Int)))))))))))
structure mv (s:cN):Prop where
 ok:okS s
 t:s.table.size≤maxLen
 c:∀c∈s.av,c.n.size≤maxLen
 n:∀x∈s.names,x.size≤maxLen
 o:s.order.size≤maxLen
 e:s.set.size≤maxLen
 r:∀v∈s.row,-9223372036854775808≤v.n∧v.n≤9223372036854775807
 w:∀o∈s.ah,o.nm.size≤maxLen∧-9223372036854775808≤o.v.n∧o.v.n≤9223372036854775807
 x:∀o∈s.bE,o.nm.size≤maxLen∧-9223372036854775808≤o.v.n∧o.v.n≤9223372036854775807
def j7(l:List aV):List Tk:=if l.length=0 then [] else [⟨#[87,72,69,82,69]⟩].map bD++qA l
theorem O2(hm:(3,marksC)∈G)(hw:(2,wordsC)∈G)(l:List ByteArray)(hl:l.length≤1000)(hs:∀s∈l,s.size≤maxLen):VP Tryz.prog G 109 [.list 1 (l.flatMap cS) l.length] (.v (.int .i64 (jz cJ l))):=by
 refine VC.body func109 rfl ntmps109 aO fun X0 w0 aZ=>?_;refine ae [0] ?_;refine ae [6,7,8] ?_;refine eH [6,7] (fun aW _ (i:Nat) aK=>(i≤l.length)∧(jz cJ l=jz cJ (l.drop i))∧aK=(⟨18,(8,.v (.int .i64 (i:Nat)))::aW,[]⟩:St)) (fun (i:Nat)=>l.length-i) 0 ⟨(Nat.zero_le _),rfl,rfl⟩ ?_;rintro i _ ⟨hi,hx,rfl⟩;refine ae [6,7,8,9] ?_;refine aq (fun az aG=>?_) (fun az aG=>?_)
 ·have aa:i<l.length:=(by simp at az;omega)
  refine ae [4,6,7,8] ?_;refine cM [5,6,7,8] (sW hm hw l[i] (hs _ (getElem_mem aa))) ?_;refine ae [5,6,7,8,15] ?_;refine aq (fun aH aT=>?_) (fun aH aT=>?_)
  ·have hn:cJ l[i]≠0:=(by simpa using aH)
   have fb:=hx.trans (Py aa hn);exact LH
  have h0:cJ l[i]=0:=(by simpa using aH)
  refine cg [6,7,8] ?_;refine⟨(i+1),_,cz,aM,w4,(hx.trans (Pz aa h0)),rfl⟩
 have fb:jz cJ l=0:=hx.trans (Od tK);refine ae [2] ?_;exact F7
theorem acB(l:List Vl)(hl:l.length≤1000):VP Tryz.prog G 69 [.list 3 (l.flatMap cV) l.length] (.v (.int .i64 (dU l))):=by
 refine VC.body func69 rfl ntmps69 aO fun X0 w0 aZ=>?_;have O:(l.length<1∨l.length>6)∨¬(l.length<1∨l.length>6):=(by omega)
 refine ae [0] ?_;refine aC 4 ?_;refine bS 9 (fun I E=>?_) (fun I E=>?_)
 ·refine aY [0,13] ?_;refine ez ?_;exact T0
 refine aY [0,13] ?_;refine aq (fun az aG=>?_) (fun az aG=>?_)
 ·exact T0
 have hf:dU l=jz iG l:=if_neg w4;refine ae [14,15,16] ?_;refine eH [14,15] (fun aW _ (i:Nat) aK=>(i≤l.length)∧(jz iG l=jz iG (l.drop i))∧aK=(⟨26,(16,.v (.int .i64 (i:Nat)))::aW,[]⟩:St)) (fun (i:Nat)=>l.length-i) 0 ⟨(Nat.zero_le _),rfl,rfl⟩ ?_;rintro i _ ⟨hi,hx,rfl⟩;refine ae [14,15,16,17] ?_;refine aq (fun aH aT=>?_) (fun aH aT=>?_)
 ·have aa:i<l.length:=(by simp at aH;omega)
  refine aC 2 ?_;refine OD.alloc (ds:=[_,_,_]) an rfl rfl zeroValue30 rfl (fun b4=>?_);refine aN 0 [_,_,_] sizeOf30 ?_;refine aj 26 [4,14,15,16] ?_;refine cM [5,14,15,16] (Nm.NC l[i]) ?_;refine ae [5,14,15,16,23] ?_;refine aq (fun aX bw=>?_) (fun aX bw=>?_)
  ·have hn:iG l[i]≠0:=(by simpa using aX)
   have fb:=hf.trans (hx.trans (Py aa hn));exact LH
  have h0:iG l[i]=0:=(by simpa using aX)
  refine cg [14,15,16] ?_;refine⟨(i+1),_,cz,aM,w4,(hx.trans (Pz aa h0)),rfl⟩
 have fb:dU l=0:=hf.trans (hx.trans (Od (by simp at aH;omega)));refine ae [2] ?_;exact F7
theorem DG(hm:(3,marksC)∈G)(hw:(2,wordsC)∈G)(l:List aV)(hs:∀o∈l,o.nm.size≤maxLen):VP Tryz.prog G 72 [.list 5 (l.flatMap cO) l.length] (.v (.int .i64 (nh l))):=by
 refine VC.body func72 rfl ntmps72 aO fun X0 w0 aZ=>?_;refine ae [0] ?_;refine ae [0,5] ?_;refine aq (fun az aG=>?_) (fun az aG=>?_)
 ·have fb:nh l=0:=if_pos tK;exact LH
 have fb:nh l=iF l:=if_neg tK;refine cM [2] (Iv hm hw l hs) ?_;exact F7
theorem aaR(hm:(3,marksC)∈G)(hw:(2,wordsC)∈G)(s:cN)(hf:mv s):VP Tryz.prog G 70 [.agg (bY s)] (.v (.int .i64 (oo s))):=by
 refine VC.body func70 rfl ntmps70 aO fun X0 w0 aZ=>?_;unfold bY;refine cj ?_;refine OD.box (ds:=[_,_,_,_,_,_,_,_,_,_,_,_]) an rfl rfl ot rfl rfl (fun b1=>?_);refine aj 50 [1] ?_;refine ae [1,5] ?_;refine aq (fun az aG=>?_) (fun az aG=>?_)
 ·refine ae [2] ?_;refine aJ [] ?_;exact Vb
 refine ae [1,10] ?_;refine aq (fun aH aT=>?_) (fun aH aT=>?_)
 ·refine ae [2] ?_;refine aJ [] ?_;exact Vb
 refine aC 3 ?_;refine bS 17 (fun wB v7=>?_) (fun wB v7=>?_)
 ·refine aD 6 ?_;refine bS 23 (fun U O=>?_) (fun U O=>?_)
  ·refine aY [1,14] ?_;refine ez ?_;refine ae [2] ?_;exact z24
  refine aD 3 ?_;refine bS 26 (fun I E=>?_) (fun I E=>?_)
  ·exact Ue
  refine aY [1,14] ?_;refine fG ?_;exact z20
 refine xn 4 ?_;refine aD 5 ?_;refine bS 26 (fun I E=>?_) (fun I E=>?_)
 ·exact Ue
 refine aY [1,14] ?_;refine fG ?_;refine cM [1,3] (O2 hm hw s.names (by have:=hf.ok.2.2.1;omega) hf.n) ?_;refine ae [1,3,36] ?_;refine aq (fun bC bW=>?_) (fun bC bW=>?_)
 ·refine ae [2] ?_;exact z24
 refine cM [1,4] (DG hm hw s.ah (fun o h=>(hf.w o h).1)) ?_;refine ae [1,4,42] ?_;refine aq (fun cx c9=>?_) (fun cx c9=>?_)
 ·refine ae [2] ?_;exact z24
 refine ae [1,46] ?_;refine aq (fun dN en=>?_) (fun dN en=>?_)
 ·refine cM [2] (sW hm hw s.order hf.o) ?_;exact z24
 refine ae [2] ?_;refine eE ?_;refine⟨vi ?_,rfl⟩;unfold oo iU;simp_all;all_goals (try (intros;(repeat' split)<;>first|rfl|omega))
theorem acC(s h:cN):VP Tryz.prog G 73 [.agg (bY s),.agg (bY h)] (.v (.bool (lj s h))):=by
 refine VC.body func73 rfl ntmps73 aO fun X0 w0 aZ=>?_;unfold bY;refine cj ?_;refine OD.box (ds:=[_,_,_,_,_,_,_,_,_,_,_,_]) an rfl rfl ot rfl rfl (fun b2=>?_);refine OD.box (ds:=[_,_,_,_,_,_,_,_,_,_,_,_]) an rfl rfl ot rfl rfl (fun b3=>?_);refine aj 90 [2,3] ?_;refine aC 6 ?_;refine bS 10 (fun aho E=>?_) (fun aho E=>?_)
 ·refine aD 9 ?_;refine bS 19 (fun Ku I=>?_) (fun Ku I=>?_)
  ·refine aD 9 ?_;refine bS 28 (fun ahp O=>?_) (fun ahp O=>?_)
   ·refine aD 9 ?_;refine bS 37 (fun ahq U=>?_) (fun ahq U=>?_)
    ·refine aD 4 ?_;refine OD.still gH rfl (cX rfl ot ot (DY underlying4)) ?_;refine aD 2 ?_;refine bS 44 (fun ahr Z=>?_) (fun ahr Z=>?_)
     ·refine aD 9 ?_;refine bS 53 (fun Kv JG=>?_) (fun Kv JG=>?_)
      ·refine aD 7 ?_;refine bS 60 (fun ahs A6=>?_) (fun ahs A6=>?_)
       ·refine aD 4 ?_;refine OD.still gH rfl (cX rfl ot ot (DY underlying4)) ?_;refine aD 2 ?_;refine bS 67 (fun aht afy=>?_) (fun aht afy=>?_)
        ·refine aD 7 ?_;refine bS 74 (fun ahu afz=>?_) (fun ahu afz=>?_)
         ·refine aD 7 ?_;refine bS 81 (fun ahv JH=>?_) (fun ahv JH=>?_)
          ·exact wZ
          exact wZ
         exact wZ
        exact wZ
       exact wZ
      exact wZ
     exact wZ
    refine aY [4] ?_;refine eE ?_;exact Ly
   refine aY [4] ?_;refine eE ?_;exact Ly
  refine aY [4] ?_;refine eE ?_;exact Ly
 refine aY [4] ?_;refine eE ?_;refine⟨vb ?_,rfl⟩;unfold lj iU;simp_all;all_goals (try (intros;omega))
theorem XZ:(Tryz.prog.info? 149).map (fun i=>(i.zero,i.size,i.bytes))=some (some (.agg #[.int .i64 0,.string ⟨#[]⟩,.int .i64 0]),3,32):=by kernel_rfl
theorem GN(l:List aV)(hl:l.length≤40)(he:l.length=0∨fy 0 l=0)(hr:∀o∈l,-9223372036854775808≤o.v.n∧o.v.n≤9223372036854775807)(hsl:(qA l).length≤1000):VP Tryz.prog G 81 [.list 5 (l.flatMap cO) l.length] (.list 3 ((j7 l).flatMap cT) (j7 l).length):=by
 refine VC.body func81 rfl ntmps81 aO fun X0 w0 aZ=>?_;refine ae [0] ?_;refine ae [0,5] ?_;refine aq (fun az aG=>?_) (fun az aG=>?_)
 ·have fb:j7 l=[]:=if_pos tK;refine ae [2] ?_;refine CD.wk (Wk.ur (t:=2) (sz:=3) lk) ?_;refine aJ [] ?_;rw[fb];exact⟨rfl,rfl⟩
 have fb:j7 l=[⟨#[87,72,69,82,69]⟩].map bD++qA l:=if_neg tK;have I:fy 0 l=0:=he.resolve_left tK;refine cj ?_;refine ei (cc 0 [_]) [.string ⟨#[]⟩] [_] zeroValue9 runUnderlying39 sizeOf9 (fun b6=>?_);refine OD.perm (dV (S1:=[⟨b6,9,1*1,flatMap cS ([⟨#[87,72,69,82,69]⟩])⟩]) (A:=[])) ?_;refine OD.gW (t:=6) (Sq:=[⟨b6,9,1*1,flatMap cS ([⟨#[87,72,69,82,69]⟩])⟩]) lk (bI (g:=cS) (sz:=1) (e:=9) (ls:=[⟨#[87,72,69,82,69]⟩]) (Nat.le_refl _) (show 1≤maxLen by decide)) (cr iX _) (dA (A:=[])) ?_;refine OD.call an rfl rfl rfl call74 (yt [⟨#[87,72,69,82,69]⟩] zD) ⟨ot,trivial⟩ (eK _) ?_;rintro _ S7 ⟨Ww,Wx,rfl,pz⟩;refine OD.perm (S':=S7) (append_nil _ ▸ Perm.refl _) ?_;refine aD 1 ?_;refine dS call80 (NH l hl I hr) ?_;refine OD.oO (ls:=([⟨#[87,72,69,82,69]⟩].map bD)) (new:=(qA l)) (Sq:=S7) iv lg an rfl rfl underlying114 XZ rfl w7 runUnderlying114 sizeOf149 ot pz (dA (A:=[])) ot (by simp only[maxLen,length_map,length_cons,length_nil];omega) (by simp only[length_map,length_cons,length_nil];omega) (fun U Z O E=>?_);refine OD.perm (dV (A:=[])) ?_;refine aj 11 [2] ?_;refine CD.gW (t:=2) (Sq:=O) lk E (cr iv _) (dA (A:=[])) ?_;exact F7

def qJ(s:cN):ByteArray:=if s.kind<7 then s.table else ⟨#[]⟩
def iQ(s:cN):cN :=
 if s.kind=1 then {ir with kind:=s.kind,table:=(qJ s),av:=s.av} else if s.kind=3 then {ir with kind:=s.kind,table:=(qJ s),row:=s.row} else if s.kind=4 then {ir with kind:=s.kind,table:=(qJ s),names:=s.names,count:=s.count,ah:=s.ah,order:=s.order,down:=s.down,gK:=s.gK} else if s.kind=5 then {ir with kind:=s.kind,table:=(qJ s),set:=s.set,bE:=s.bE,ah:=s.ah} else if s.kind=6 then {ir with kind:=s.kind,table:=(qJ s),ah:=s.ah} else {ir with kind:=s.kind,table:=(qJ s)}
def jN(s:cN):Int :=
 if s.kind=1 then fw s.av else if s.kind=3 then dU s.row else if s.kind=4 then oo s
 else if s.kind=5 then (if cJ s.set=0 then (if iF s.bE=0 then nh s.ah else iF s.bE) else cJ s.set) else if s.kind=6 then nh s.ah else 0
def gS(s:cN):Int:=if s.kind<7∧cJ s.table≠0 then cJ s.table else if jN s=0∧lj s (iQ s)=false then 6 else jN s
theorem Zh(hm:(3,marksC)∈G)(hw:(2,wordsC)∈G)(s:cN)(hf:mv s):VP Tryz.prog G 44 [.agg (bY s)] (.v (.int .i64 (gS s))):=by
 refine VC.body func44 rfl ntmps44 aO fun X0 w0 aZ=>?_;have I:=aaR hm hw s hf;unfold bY at I;unfold bY;refine cj ?_;refine OD.box (ds:=[_,_,_,_,_,_,_,_,_,_,_,_]) an rfl rfl ot rfl rfl (fun b1=>?_);refine aj 102 [1] ?_;refine aC 3 ?_;refine OD.alloc (ds:=[_,_,_,_,_,_,_,_,_,_,_,_]) an rfl rfl zeroValue42 rfl (fun b3=>?_);refine aN 0 [_,_,_,_,_,_,_,_,_,_,_,_] sizeOf42 ?_;refine aj 102 [1,3] ?_;refine jI [1,3] (fun aW _ aK=>∃(tb:ByteArray),(tb=qJ s)∧(¬(s.kind<7∧cJ s.table≠0))∧aK=(⟨102,aW,[⟨b3,42,12,[.v (.int .i64 s.kind),.v (.string tb),.list 2 [] 0,.list 3 [] 0,.list 1 [] 0,.v (.bool false),.list 5 [] 0,.v (.string ⟨#[]⟩),.v (.bool false),.v (.int .i64 (-1)),.v (.string ⟨#[]⟩),.list 5 [] 0]⟩,⟨b1,42,12,[.v (.int .i64 s.kind),.v (.string s.table),.list 2 (s.av.flatMap cC) s.av.length,.list 3 (s.row.flatMap cV) s.row.length,.list 1 (s.names.flatMap cS) s.names.length,.v (.bool s.count),.list 5 (s.ah.flatMap cO) s.ah.length,.v (.string s.order),.v (.bool s.down),.v (.int .i64 s.gK),.v (.string s.set),.list 5 (s.bE.flatMap cO) s.bE.length]⟩]⟩:St)) ?_ ?_
 ·refine CD.seq ?_;refine CD.cells (k:=0) (cs':=[_,_,.list 2 [] 0,.list 3 [] 0,.list 1 [] 0,_,.list 5 [] 0,_,_,_,_,.list 5 [] 0]) (S':=[_,_]) rfl (by repeat (first|exact trivial|exact⟨eM,trivial⟩|exact⟨fY,trivial⟩|refine⟨eM,?_⟩|refine⟨fY,?_⟩)) rfl ?_;refine cg [1,3,11] ?_;refine aq (fun az aG=>?_) (fun az aG=>?_)
  ·refine aC 3 ?_;refine aN 0 [_,_,_,_,_,_,_,_,_,_,_,_] sizeOf9 ?_;refine aj 102 [1,3] ?_;refine cM [1,3,4] (sW hm hw s.table hf.t) ?_;refine ae [1,3,4,19] ?_;refine aq (fun aH aT=>?_) (fun aH aT=>?_)
   ·have aS:gS s=cJ s.table:=(by unfold gS;rw[if_pos ⟨aG,by simpa using aH⟩])
    exact z93
   have gv:cJ s.table=0:=(by simpa using aH)
   have O:s.table=qJ s:=(by unfold qJ;rw[if_pos aG])
   have U:¬(s.kind<7∧cJ s.table≠0):=fun h=>h.2 gv;refine CD.skip ?_;refine⟨_,aM,s.table,O,U,rfl⟩
  have O:(⟨#[]⟩:ByteArray)=qJ s:=(by unfold qJ;rw[if_neg w4])
  have U:¬(s.kind<7∧cJ s.table≠0):=fun h=>by omega
  refine CD.skip ?_;refine⟨_,aM,⟨#[]⟩,O,U,rfl⟩
 rintro _ ⟨tb,va,jP,rfl⟩;refine ae [1,3,5] ?_;refine jI [1,3] (fun aW _ aK=>∃(H:cN),∃(e:Int),(H=iQ s)∧(e=jN s)∧aK=(⟨102,(5,.v (.int .i64 e))::aW,[⟨b3,42,12,[.v (.int .i64 H.kind),.v (.string H.table),.list 2 (H.av.flatMap cC) H.av.length,.list 3 (H.row.flatMap cV) H.row.length,.list 1 (H.names.flatMap cS) H.names.length,.v (.bool H.count),.list 5 (H.ah.flatMap cO) H.ah.length,.v (.string H.order),.v (.bool H.down),.v (.int .i64 H.gK),.v (.string H.set),.list 5 (H.bE.flatMap cO) H.bE.length]⟩,⟨b1,42,12,[.v (.int .i64 s.kind),.v (.string s.table),.list 2 (s.av.flatMap cC) s.av.length,.list 3 (s.row.flatMap cV) s.row.length,.list 1 (s.names.flatMap cS) s.names.length,.v (.bool s.count),.list 5 (s.ah.flatMap cO) s.ah.length,.v (.string s.order),.v (.bool s.down),.v (.int .i64 s.gK),.v (.string s.set),.list 5 (s.bE.flatMap cO) s.bE.length]⟩]⟩:St)) ?_ ?_
 ·refine ae [1,3,5,22] ?_;refine ae [1,3,5,22,23] ?_;refine aq (fun aX bw=>?_) (fun aX bw=>?_)
  ·refine aC 3 ?_;refine aN 0 [_,_,_,_,_,_,_,_,_,_,_,_] sizeOf38 ?_;refine aj 102 [1,3] ?_;refine ij [1,3,5] ?_;refine cU (acy hm hw s.av (by have:=hf.ok.1;simp only[maxLen];omega) hf.c) ?_;refine bG ?_;refine⟨_,aM,{ir with kind:=s.kind,table:=tb,av:=s.av},fw s.av,(by unfold iQ;rw[if_pos bw,va]),(by unfold jN;rw[if_pos bw]),rfl⟩
  refine ae [1,3,5,22,31] ?_;refine aq (fun bC bW=>?_) (fun bC bW=>?_)
  ·refine aC 3 ?_;refine aN 0 [_,_,_,_,_,_,_,_,_,_,_,_] sizeOf27 ?_;refine aj 102 [1,3] ?_;refine ij [1,3,5] ?_;refine cU (acB s.row (by have:=hf.ok.2.1;omega)) ?_;refine bG ?_;refine⟨_,aM,{ir with kind:=s.kind,table:=tb,row:=s.row},dU s.row,(by unfold iQ;rw[if_neg bw,if_pos bW,va]),(by unfold jN;rw[if_neg bw,if_pos bW]),rfl⟩
  refine ae [1,3,5,22,39] ?_;refine aq (fun cx c9=>?_) (fun cx c9=>?_)
  ·refine CD.seq ?_;refine fF 22 (ap (eraseIdx _ 0)) ?_ (fun _ h=>(Sublist.map _ (eraseIdx_sublist _ 0)).subset h);refine ax 0 rfl (cY 4) ?_;refine ax 1 rfl (dw 1) ?_;refine ax 2 rfl (cY 5) ?_;refine ax 3 rfl (dw 1) ?_;refine ax 4 rfl (cY 6) ?_;refine ax 5 rfl (dw 1) ?_;refine ax 6 rfl (cY 7) ?_;refine ax 7 rfl (dw 1) ?_;refine ax 8 rfl (cY 8) ?_;refine ax 9 rfl (dw 1) ?_;refine ax 10 rfl (cY 9) ?_;refine ax 11 rfl (dw 1) ?_;refine ax 12 rfl (cY 4) ?_;refine dh.later rfl ?_;refine AD.one (i:=13) ay ?_;refine dL 0 [_,_,_,_,_,_,_,_,_,_,_,_] sizeOf39 ?_;refine cq 14 rfl (cY 5) ?_;refine AD.one (i:=15) ay ?_;refine dL 0 [_,_,_,_,_,_,_,_,_,_,_,_] sizeOf4 ?_;refine cq 16 rfl (cY 6) ?_;refine AD.one (i:=17) ay ?_;refine dL 0 [_,_,_,_,_,_,_,_,_,_,_,_] sizeOf40 ?_;refine cq 18 rfl (cY 7) ?_;refine AD.one (i:=19) ay ?_;refine dL 0 [_,_,_,_,_,_,_,_,_,_,_,_] sizeOf9 ?_;refine cq 20 rfl (cY 8) ?_;refine AD.one (i:=21) ay ?_;refine dL 0 [_,_,_,_,_,_,_,_,_,_,_,_] sizeOf4 ?_;refine ey ?_;refine aD 1 ?_;refine aN 0 [_,_,_,_,_,_,_,_,_,_,_,_] sizeOf3 ?_;refine aj 102 [1,3] ?_;refine ij [1,3,5] ?_;refine cU (I) ?_;refine bG ?_;refine⟨_,aM,{ir with kind:=s.kind,table:=tb,names:=s.names,count:=s.count,ah:=s.ah,order:=s.order,down:=s.down,gK:=s.gK},oo s,(by unfold iQ;rw[if_neg bw,if_neg bW,if_pos c9,va]),(by unfold jN;rw[if_neg bw,if_neg bW,if_pos c9]),rfl⟩
  refine ae [1,3,5,22,61] ?_;refine aq (fun dN en=>?_) (fun dN en=>?_)
  ·refine CD.seq ?_;refine fF 10 (ap (eraseIdx _ 0)) ?_ (fun _ h=>(Sublist.map _ (eraseIdx_sublist _ 0)).subset h);refine ax 0 rfl (cY 10) ?_;refine ax 1 rfl (dw 1) ?_;refine ax 2 rfl (cY 11) ?_;refine ax 3 rfl (dw 1) ?_;refine ax 4 rfl (cY 6) ?_;refine ax 5 rfl (dw 1) ?_;refine ax 6 rfl (cY 10) ?_;refine dh.later rfl ?_;refine AD.one (i:=7) ay ?_;refine dL 0 [_,_,_,_,_,_,_,_,_,_,_,_] sizeOf9 ?_;refine cq 8 rfl (cY 11) ?_;refine AD.one (i:=9) ay ?_;refine dL 0 [_,_,_,_,_,_,_,_,_,_,_,_] sizeOf40 ?_;refine ey ?_;refine aD 1 ?_;refine aN 0 [_,_,_,_,_,_,_,_,_,_,_,_] sizeOf40 ?_;refine aj 102 [1,3] ?_;refine cM [1,3,5] (sW hm hw s.set hf.e) ?_;refine ae [1,3,5,76] ?_;refine aq (fun eN fT=>?_) (fun eN fT=>?_)
   ·have Z:cJ s.set=0:=(by simpa using eN)
    refine ij [1,3,5] ?_;refine cU (Iv hm hw s.bE (fun o h=>(hf.x o h).1)) ?_;refine bG ?_;refine ae [1,3,5,81] ?_;refine aq (fun eG fZ=>?_) (fun eG fZ=>?_)
    ·have Mp:iF s.bE=0:=(by simpa using eG)
     refine ij [1,3,5] ?_;refine cU (DG hm hw s.ah (fun o h=>(hf.w o h).1)) ?_;refine bG ?_;refine⟨_,aM,{ir with kind:=s.kind,table:=tb,set:=s.set,bE:=s.bE,ah:=s.ah},nh s.ah,Li,(by unfold jN;rw[if_neg bw,if_neg bW,if_neg c9,if_pos en,if_pos Z,if_pos Mp]),rfl⟩
    have Mp:¬iF s.bE=0:=(by simpa using eG)
    refine CD.skip ?_;refine⟨_,aM,{ir with kind:=s.kind,table:=tb,set:=s.set,bE:=s.bE,ah:=s.ah},iF s.bE,Li,(by unfold jN;rw[if_neg bw,if_neg bW,if_neg c9,if_pos en,if_pos Z,if_neg Mp]),rfl⟩
   have Z:¬cJ s.set=0:=(by simpa using eN)
   refine ae [1,3,5,81] ?_;refine aq (fun eG fZ=>?_) (fun eG fZ=>?_)
   ·exact absurd eG (by simp[Z])
   refine CD.skip ?_;refine⟨_,aM,{ir with kind:=s.kind,table:=tb,set:=s.set,bE:=s.bE,ah:=s.ah},cJ s.set,Li,(by unfold jN;rw[if_neg bw,if_neg bW,if_neg c9,if_pos en,if_neg Z]),rfl⟩
  refine ae [1,3,5,85] ?_;refine aq (fun kU E=>?_) (fun kU E=>?_)
  ·refine aC 3 ?_;refine aN 0 [_,_,_,_,_,_,_,_,_,_,_,_] sizeOf40 ?_;refine aj 102 [1,3] ?_;refine ij [1,3,5] ?_;refine cU (DG hm hw s.ah (fun o h=>(hf.w o h).1)) ?_;refine bG ?_;refine⟨_,aM,{ir with kind:=s.kind,table:=tb,ah:=s.ah},nh s.ah,(by unfold iQ;rw[if_neg bw,if_neg bW,if_neg c9,if_neg en,if_pos E,va]),(by unfold jN;rw[if_neg bw,if_neg bW,if_neg c9,if_neg en,if_pos E]),rfl⟩
  refine CD.skip ?_;refine⟨_,aM,{ir with kind:=s.kind,table:=tb},0,(by unfold iQ;rw[if_neg bw,if_neg bW,if_neg c9,if_neg en,if_neg E,va]),(by unfold jN;rw[if_neg bw,if_neg bW,if_neg c9,if_neg en,if_neg E]),rfl⟩
 rintro _ ⟨H,e,hH,CB,rfl⟩;refine CD.seq ?_;refine CD.seq ?_;have Ts:=acC (G:=G) s H;unfold bY at Ts;refine dK 3 ?_;refine bS 95 (fun Ut afA=>?_) (fun Ut afA=>?_)
 ·refine aD 2 ?_;refine OD.gE gH rfl rfl rfl call73 (Ts) ⟨ot,ot,trivial⟩ ?_;refine aj 102 [5,100] ?_;refine aq (fun sI wI=>?_) (fun sI wI=>?_)
  ·have aS:gS s=6:=(by unfold gS;rw[if_neg jP,if_pos ⟨by rw[←CB];simpa using Ut,by rw[←hH];simpa using sI⟩])
   refine cg [5] ?_;exact z93
  have aS:gS s=e:=(by unfold gS;rw[if_neg jP,if_neg (by rw[←CB,←hH];exact(fun h=>by obtain⟨h1,h2⟩:=h;simp_all)),CB])
  exact z93
 refine aY [5,100] ?_;refine fG ?_;have aS:gS s=e:=(by unfold gS;rw[if_neg jP,if_neg (by rw[←CB,←hH];exact(fun h=>by obtain⟨h1,h2⟩:=h;simp_all)),CB])
 refine ae [2] ?_;refine eE ?_;exact⟨by first|rw[aS]|rw[aS];rfl,rfl⟩

theorem Oe:∀(l:List aV) (H:List (List Tk)),(l.foldl nN H).flatten.length≤H.flatten.length+5*l.length
 | [],H=>by simp
 | o::r,H=>by
  have h1:=Oe r (nN H o);have h2:=Oc (h:=H) (o:=o);rw[foldl_cons,length_cons];omega
theorem DP(l:List aV):(qA l).length≤5*l.length:=by
 have h:=Oe l [];have h2:=(uj (h:=l.foldl nN []) (n:=0)).1;have h3:=Ae (l.foldl nN []) 0;simp only[List.take_zero,flatten_nil,length_nil] at h h3;unfold qA;omega
theorem Of(l:List aV):(j7 l).length≤5*l.length+1:=by
 have h:=DP l;unfold j7;split
 ·simp
 rw[length_append,length_map];simp only[length_cons,length_nil];omega
def jC(ns:List ByteArray):Nat→List Tk
 | 0=>[]
 | i+1=>jC ns i++(if i>0 then [dO ⟨#[44]⟩] else [])++[bD (ns.getD i ⟨#[]⟩)]
theorem HD(E:List ByteArray):∀i,(jC E i).length≤2*i
 | 0=>Nat.le_refl _
 | i+1=>by
  have I:=HD E i;have h3:(if i>0 then [dO ⟨#[44]⟩] else []).length≤1:=(by split<;>simp)
  unfold jC;rw[length_append,length_append];simp only[length_cons,length_nil];omega
theorem G4(hi:i<E.length)(h:0<i)(X:List Tk):((X++jC E i)++[dO ⟨#[44]⟩])++[bD E[i]]=X++jC E (i+1):=by
 rw[jC,if_pos h,me hi];simp only[append_assoc]
theorem GV(hi:i<E.length)(h:¬0<i)(X:List Tk):(X++jC E i)++[bD E[i]]=X++jC E (i+1):=by
 rw[jC,if_neg h,me hi];simp only[append_assoc,append_nil]
def yM(s:cN):List Tk:=if s.count=true then [bD ⟨#[67,79,85,78,84]⟩,dO ⟨#[40]⟩,dO ⟨#[42]⟩,dO ⟨#[41]⟩] else if s.names.length=0 then [dO ⟨#[42]⟩] else jC s.names s.names.length
def BC(s:cN):List Tk:=if iU s.order ⟨#[]⟩=true then [] else [⟨#[79,82,68,69,82]⟩,⟨#[66,89]⟩,s.order].map bD++(if s.down=true then [bD ⟨#[68,69,83,67]⟩] else [])
def Kw(s:cN):List Tk:=if 0≤s.gK then [bD ⟨#[76,73,77,73,84]⟩,⟨2,⟨#[]⟩,s.gK⟩] else []
def A7(s:cN):List Tk:=((([⟨#[83,69,76,69,67,84]⟩].map bD++yM s)++[⟨#[70,82,79,77]⟩,s.table].map bD++j7 s.ah)++BC s)++Kw s
theorem rz:(Tryz.prog.info? 149).map (fun i=>(i.zero,i.size,i.bytes))=some (some (.agg #[.int .i64 0,.string ⟨#[]⟩,.int .i64 0]),3,32):=by kernel_rfl
theorem Xv : ∀ w, ((#[{ name := "Kind", type := 3, offset := 0, embedded := false, tag := "", pkgPath := "", byteOffset := 0 }, { name := "Text", type := 9, offset := 1, embedded := false, tag := "", pkgPath := "", byteOffset := 8 }, { name := "Int", type := 3, offset := 2, embedded := false, tag := "", pkgPath := "", byteOffset := 24 }] : Array Field).mapM fun f => do pure (f.offset, ← sizeOf f.type) : Sem (Array (Nat × Nat))).run Tryz.prog w = .ok #[(0, 1), (1, 1), (2, 1)] w := fun w => by simp [sizeOf3, sizeOf9]
theorem X2(s:cN)(hf:mv s)(Mq:s.ah.length=0∨fy 0 s.ah=0):VP Tryz.prog G 77 [.agg (bY s)] (.list 3 ((A7 s).flatMap cT) (A7 s).length):=by
 refine VC.body func77 rfl ntmps77 aO fun X0 w0 aZ=>?_;have dr:maxLen=9223372036854775807:=rfl;have h6:=hf.ok.2.2.1;have pE:=hf.ok.2.2.2.1;have Gl:=Of s.ah;have Mr:=DP s.ah;unfold bY;refine cj ?_;refine OD.box (ds:=[_,_,_,_,_,_,_,_,_,_,_,_]) an rfl rfl ot rfl rfl (fun b1=>?_);refine aj 84 [1] ?_;refine cj ?_;refine ei (cc 0 [_]) [.string ⟨#[]⟩] [_] zeroValue9 runUnderlying39 sizeOf9 (fun b6=>?_);refine OD.perm (dV (S1:=[⟨b6,9,1*1,flatMap cS ([⟨#[83,69,76,69,67,84]⟩])⟩]) (A:=[_])) ?_;refine OD.gW (t:=6) (Sq:=[⟨b6,9,1*1,flatMap cS ([⟨#[83,69,76,69,67,84]⟩])⟩]) lk (bI (g:=cS) (sz:=1) (e:=9) (ls:=[⟨#[83,69,76,69,67,84]⟩]) (Nat.le_refl _) (show 1≤maxLen by decide)) (cr iX _) (dA (A:=[_])) ?_;refine OD.call an rfl rfl rfl call74 (yt [⟨#[83,69,76,69,67,84]⟩] zD) ⟨ot,trivial⟩ (eK _) ?_;rintro _ S7 ⟨Ww,Wx,rfl,pz⟩;refine OD.perm (dV (A:=[_])) ?_;refine aj 84 [1,3] ?_
 refine jI [1] (fun aW _ aK=>∃(Q:List Tk),∃(ad:Option Addr),∃(cp:Nat),∃(Sx:List ag),(Q=[⟨#[83,69,76,69,67,84]⟩].map bD++yM s)∧(bq 149 3 (Q.flatMap cT) Q.length ad cp Sx)∧(Q.length≤20)∧aK=(⟨84,(3,.v (.slice ad Q.length cp))::aW,(⟨b1,42,12,[.v (.int .i64 s.kind),.v (.string s.table),.list 2 (s.av.flatMap cC) s.av.length,.list 3 (s.row.flatMap cV) s.row.length,.list 1 (s.names.flatMap cS) s.names.length,.v (.bool s.count),.list 5 (s.ah.flatMap cO) s.ah.length,.v (.string s.order),.v (.bool s.down),.v (.int .i64 s.gK),.v (.string s.set),.list 5 (s.bE.flatMap cO) s.bE.length]⟩::Sx)⟩:St)) ?_ ?_
 ·refine ae [1,3,28] ?_;refine aq (fun az aG=>?_) (fun az aG=>?_)
  ·refine dK 1 ?_;refine dS call111 (qu ⟨#[67,79,85,78,84]⟩) ?_;refine dS call79 (mJ ⟨#[40]⟩) ?_;refine dS call79 (mJ ⟨#[42]⟩) ?_;refine dS call79 (mJ ⟨#[41]⟩) ?_;refine ei (cc 0 [_,_,_,_]) [.int .i64 0,.string ⟨#[]⟩,.int .i64 0,.int .i64 0,.string ⟨#[]⟩,.int .i64 0,.int .i64 0,.string ⟨#[]⟩,.int .i64 0,.int .i64 0,.string ⟨#[]⟩,.int .i64 0] [_,_,_,_,_,_,_,_,_,_,_,_] zeroValue149 runUnderlying114 sizeOf149 (fun Gm=>?_);refine fH 0 36 3 4 ?_;refine OD.ee (ls:=([⟨#[83,69,76,69,67,84]⟩].map bD)) (new:=[bD ⟨#[67,79,85,78,84]⟩,dO ⟨#[40]⟩,dO ⟨#[42]⟩,dO ⟨#[41]⟩]) (Sq:=S7) iv lg an rfl rfl underlying114 rz rfl w7 ot pz (dA (A:=[_])) ot bu pp w9 (fun Ms U ahw ahx=>?_);refine OD.perm (dV (S1:=[⟨Ms,149,U*3,flatMap cT (([⟨#[83,69,76,69,67,84]⟩].map bD)++[bD ⟨#[67,79,85,78,84]⟩,dO ⟨#[40]⟩,dO ⟨#[42]⟩,dO ⟨#[41]⟩])⟩]) (A:=[_])) ?_;refine aj 84 [1,3] ?_;refine⟨_,aM,(([⟨#[83,69,76,69,67,84]⟩].map bD)++[bD ⟨#[67,79,85,78,84]⟩,dO ⟨#[40]⟩,dO ⟨#[42]⟩,dO ⟨#[41]⟩]),(some ⟨Ms,0,none⟩),U,[⟨Ms,149,U*3,flatMap cT (([⟨#[83,69,76,69,67,84]⟩].map bD)++[bD ⟨#[67,79,85,78,84]⟩,dO ⟨#[40]⟩,dO ⟨#[42]⟩,dO ⟨#[41]⟩])⟩],(by unfold yM;rw[if_pos aG]),(bI ahw ahx),K1,rfl⟩
  refine ae [1,3,38] ?_;refine aq (fun aH aT=>?_) (fun aH aT=>?_)
  ·refine dK 1 ?_;refine dS call79 (mJ ⟨#[42]⟩) ?_;refine ei (cc 0 [_]) [.int .i64 0,.string ⟨#[]⟩,.int .i64 0] [_,_,_] zeroValue149 runUnderlying114 sizeOf149 (fun b45=>?_);refine fH 0 45 3 1 ?_;refine OD.ee (ls:=([⟨#[83,69,76,69,67,84]⟩].map bD)) (new:=[dO ⟨#[42]⟩]) (Sq:=S7) iv lg an rfl rfl underlying114 rz rfl w7 ot pz (dA (A:=[_])) ot bu pp w9 (fun zO Z ahy ahz=>?_);refine OD.perm (dV (S1:=[⟨zO,149,Z*3,flatMap cT (([⟨#[83,69,76,69,67,84]⟩].map bD)++[dO ⟨#[42]⟩])⟩]) (A:=[_])) ?_;refine aj 84 [1,3] ?_;refine⟨_,aM,(([⟨#[83,69,76,69,67,84]⟩].map bD)++[dO ⟨#[42]⟩]),(some ⟨zO,0,none⟩),Z,[⟨zO,149,Z*3,flatMap cT (([⟨#[83,69,76,69,67,84]⟩].map bD)++[dO ⟨#[42]⟩])⟩],(by unfold yM;rw[if_neg wU,if_pos w4]),(bI ahy ahz),K1,rfl⟩
  refine ae [1,3,9,10,11] ?_;refine CD.block ?_;refine l5 (fun (lV:Nat×Option Addr×Nat×List ag) aK=>match lV with|(i,CC,CE,So)=>(i≤s.names.length)∧(bq 149 3 ((([⟨#[83,69,76,69,67,84]⟩].map bD++jC s.names i)).flatMap cT) (([⟨#[83,69,76,69,67,84]⟩].map bD++jC s.names i)).length CC CE So)∧aK=(⟨84,[(1,.v (.pointer (some ⟨b1,0,none⟩))),(3,.v (.slice CC (([⟨#[83,69,76,69,67,84]⟩].map bD++jC s.names i)).length CE)),(9,.list 1 (s.names.flatMap cS) s.names.length),(10,.v (.int .i64 (s.names.length:Nat))),(11,.v (.int .i64 (i:Nat)))],((⟨b1,42,12,[.v (.int .i64 s.kind),.v (.string s.table),.list 2 (s.av.flatMap cC) s.av.length,.list 3 (s.row.flatMap cV) s.row.length,.list 1 (s.names.flatMap cS) s.names.length,.v (.bool s.count),.list 5 (s.ah.flatMap cO) s.ah.length,.v (.string s.order),.v (.bool s.down),.v (.int .i64 s.gK),.v (.string s.set),.list 5 (s.bE.flatMap cO) s.bE.length]⟩:ag)::So)⟩:St)) (fun (lV:Nat×Option Addr×Nat×List ag)=>match lV with|(i,CC,CE,So)=>s.names.length-i) (0,Ww,Wx,S7) ⟨(Nat.zero_le _),(bq.cast pz (by simp[jC])),rfl⟩ (aM (h:=by repeat (first|exact trivial|refine⟨K5,?_⟩))) ?_;rintro⟨i,CC,CE,So⟩ _ ⟨hi,CF,rfl⟩;refine ae [1,3,9,10,11,12] ?_;refine aq (fun aX bw=>?_) (fun aX bw=>?_)
  ·have aa:i<s.names.length:=(by simp at aX;omega)
   have fC:=HD s.names i;refine ae [1,3,4,5,9,10,11] ?_;refine ae [1,3,5,9,10,11,17] ?_;refine aq (fun bC bW=>?_) (fun bC bW=>?_)
   ·refine dK 1 ?_;refine dS call79 (mJ ⟨#[44]⟩) ?_;refine ei (cc 0 [_]) [.int .i64 0,.string ⟨#[]⟩,.int .i64 0] [_,_,_] zeroValue149 runUnderlying114 sizeOf149 (fun Mm=>?_);refine fH 0 20 3 1 ?_;refine OD.ee (ls:=(([⟨#[83,69,76,69,67,84]⟩].map bD++jC s.names i))) (new:=[dO ⟨#[44]⟩]) (Sq:=So) iv lg an rfl rfl underlying114 rz rfl w7 ot CF (dA (A:=[_])) ot bu pp w9 (fun Cw Uu ahA ahB=>?_);refine OD.perm (dV (S1:=[⟨Cw,149,Uu*3,flatMap cT ((([⟨#[83,69,76,69,67,84]⟩].map bD++jC s.names i))++[dO ⟨#[44]⟩])⟩]) (A:=[_])) ?_;refine aj 84 [1,3,5,9,10,11] ?_;refine dK 2 ?_;refine dS call111 (qu s.names[i]) ?_;refine ei (cc 0 [_]) [.int .i64 0,.string ⟨#[]⟩,.int .i64 0] [_,_,_] zeroValue149 runUnderlying114 sizeOf149 (fun xD=>?_);refine fH 0 25 3 1 ?_;refine OD.ee (ls:=((([⟨#[83,69,76,69,67,84]⟩].map bD++jC s.names i))++[dO ⟨#[44]⟩])) (new:=[bD s.names[i]]) (Sq:=[⟨Cw,149,Uu*3,flatMap cT ((([⟨#[83,69,76,69,67,84]⟩].map bD++jC s.names i))++[dO ⟨#[44]⟩])⟩]) iv lg an rfl rfl underlying114 rz rfl w7 ot (bI ahA ahB) (dA (A:=[_])) ot bu pp w9 (fun I E Kx Ky=>?_);refine OD.perm (dV (S1:=[⟨I,149,E*3,flatMap cT (((([⟨#[83,69,76,69,67,84]⟩].map bD++jC s.names i))++[dO ⟨#[44]⟩])++[bD s.names[i]])⟩]) (A:=[_])) ?_;refine aj 84 [1,3,9,10,11] ?_;refine cg [1,3,9,10,11] ?_
    refine⟨((i+1),(some ⟨I,0,none⟩),E,[⟨I,149,E*3,flatMap cT (((([⟨#[83,69,76,69,67,84]⟩].map bD++jC s.names i))++[dO ⟨#[44]⟩])++[bD s.names[i]])⟩]),_,cz,(aM (h:=by repeat (first|exact trivial|refine⟨K5,?_⟩))),w4,(bq.cast (bI Kx Ky) (by first|exact G4 aa w4 _|exact GV aa w4 _)),rfl⟩
   refine dK 2 ?_;refine dS call111 (qu s.names[i]) ?_;refine ei (cc 0 [_]) [.int .i64 0,.string ⟨#[]⟩,.int .i64 0] [_,_,_] zeroValue149 runUnderlying114 sizeOf149 (fun xD=>?_);refine fH 0 25 3 1 ?_;refine OD.ee (ls:=(([⟨#[83,69,76,69,67,84]⟩].map bD++jC s.names i))) (new:=[bD s.names[i]]) (Sq:=So) iv lg an rfl rfl underlying114 rz rfl w7 ot CF (dA (A:=[_])) ot bu pp w9 (fun I E Kx Ky=>?_);refine OD.perm (dV (S1:=[⟨I,149,E*3,flatMap cT ((([⟨#[83,69,76,69,67,84]⟩].map bD++jC s.names i))++[bD s.names[i]])⟩]) (A:=[_])) ?_;refine aj 84 [1,3,9,10,11] ?_;refine cg [1,3,9,10,11] ?_;refine⟨((i+1),(some ⟨I,0,none⟩),E,[⟨I,149,E*3,flatMap cT ((([⟨#[83,69,76,69,67,84]⟩].map bD++jC s.names i))++[bD s.names[i]])⟩]),_,cz,(aM (h:=by repeat (first|exact trivial|refine⟨K5,?_⟩))),w4,(bq.cast (bI Kx Ky) (by first|exact G4 aa w4 _|exact GV aa w4 _)),rfl⟩
  have qQ:i=s.names.length:=(by simp at aX;omega)
  refine CD.exit ?_;refine⟨_,aM,(([⟨#[83,69,76,69,67,84]⟩].map bD++jC s.names i)),CC,CE,So,(by unfold yM;rw[if_neg wU,if_neg w4,qQ]),CF,K1,rfl⟩
 rintro _ ⟨Q,ad,cp,Sx,hQ,ec,hQl,rfl⟩;refine aC 3 ?_;refine ei (cc 0 [_,_]) [.string ⟨#[]⟩,.string ⟨#[]⟩] [_,_] zeroValue9 runUnderlying39 sizeOf9 (fun CG=>?_);refine OD.perm (x4 (S2:=[⟨CG,9,2*1,flatMap cS ([⟨#[70,82,79,77]⟩,s.table])⟩]) (A:=[_])) ?_;refine OD.gW (t:=50) (Sq:=[⟨CG,9,2*1,flatMap cS ([⟨#[70,82,79,77]⟩,s.table])⟩]) lk (bI (g:=cS) (sz:=1) (e:=9) (ls:=[⟨#[70,82,79,77]⟩,s.table]) (Nat.le_refl _) (show 2≤maxLen by decide)) (cr iX _) (xZ (A:=[_])) ?_;refine dS call74 (rG [⟨#[70,82,79,77]⟩,s.table] (by show 2≤10;decide)) ?_;refine OD.ee (ls:=Q) (new:=([⟨#[70,82,79,77]⟩,s.table].map bD)) (Sq:=Sx) iv lg an rfl rfl underlying114 rz rfl w7 ot ec (dA (A:=[_])) ot bu pp w9 (fun Wy Uv ahC ahD=>?_);refine OD.perm (dV (S1:=[⟨Wy,149,Uv*3,flatMap cT (Q++([⟨#[70,82,79,77]⟩,s.table].map bD))⟩]) (A:=[_])) ?_;refine aj 84 [1,3] ?_;refine aC 3 ?_;refine dS call81 (GN s.ah pE Mq (fun o h=>(hf.w o h).2) w4) ?_;refine OD.oO (ls:=(Q++([⟨#[70,82,79,77]⟩,s.table].map bD))) (new:=(j7 s.ah)) (Sq:=[⟨Wy,149,Uv*3,flatMap cT (Q++([⟨#[70,82,79,77]⟩,s.table].map bD))⟩]) iv lg an rfl rfl underlying114 rz rfl w7 runUnderlying114 sizeOf149 ot (bI ahC ahD) (dA (A:=[_])) ot pp w9 (fun ahE ahF vp uW=>?_);refine OD.perm (dV (A:=[_])) ?_;refine aj 84 [1,3] ?_
 refine jI [1] (fun aW _ aK=>∃(Q:List Tk),∃(ad:Option Addr),∃(cp:Nat),∃(Sx:List ag),(Q=(([⟨#[83,69,76,69,67,84]⟩].map bD++yM s)++[⟨#[70,82,79,77]⟩,s.table].map bD++j7 s.ah)++BC s)∧(bq 149 3 (Q.flatMap cT) Q.length ad cp Sx)∧(Q.length≤500)∧aK=(⟨84,(3,.v (.slice ad Q.length cp))::aW,(⟨b1,42,12,[.v (.int .i64 s.kind),.v (.string s.table),.list 2 (s.av.flatMap cC) s.av.length,.list 3 (s.row.flatMap cV) s.row.length,.list 1 (s.names.flatMap cS) s.names.length,.v (.bool s.count),.list 5 (s.ah.flatMap cO) s.ah.length,.v (.string s.order),.v (.bool s.down),.v (.int .i64 s.gK),.v (.string s.set),.list 5 (s.bE.flatMap cO) s.bE.length]⟩::Sx)⟩:St)) ?_ ?_
 ·refine ae [1,3,60] ?_;refine aq (fun cx c9=>?_) (fun cx c9=>?_)
  ·refine aC 3 ?_;refine ei (cc 0 [_,_,_]) [.string ⟨#[]⟩,.string ⟨#[]⟩,.string ⟨#[]⟩] [_,_,_] zeroValue9 runUnderlying39 sizeOf9 (fun CH=>?_);refine OD.perm (x4 (S2:=[⟨CH,9,3*1,flatMap cS ([⟨#[79,82,68,69,82]⟩,⟨#[66,89]⟩,s.order])⟩]) (A:=[_])) ?_;refine OD.gW (t:=64) (Sq:=[⟨CH,9,3*1,flatMap cS ([⟨#[79,82,68,69,82]⟩,⟨#[66,89]⟩,s.order])⟩]) lk (bI (g:=cS) (sz:=1) (e:=9) (ls:=[⟨#[79,82,68,69,82]⟩,⟨#[66,89]⟩,s.order]) (Nat.le_refl _) (show 3≤maxLen by decide)) (cr iX _) (xZ (A:=[_])) ?_;refine dS call74 (rG [⟨#[79,82,68,69,82]⟩,⟨#[66,89]⟩,s.order] (by show 3≤10;decide)) ?_;refine OD.ee (ls:=((Q++([⟨#[70,82,79,77]⟩,s.table].map bD))++(j7 s.ah))) (new:=([⟨#[79,82,68,69,82]⟩,⟨#[66,89]⟩,s.order].map bD)) (Sq:=vp) iv lg an rfl rfl underlying114 rz rfl w7 ot uW (dA (A:=[_])) ot bu pp w9 (fun oK O y8 y9=>?_);refine OD.perm (dV (S1:=[⟨oK,149,O*3,flatMap cT (((Q++([⟨#[70,82,79,77]⟩,s.table].map bD))++(j7 s.ah))++([⟨#[79,82,68,69,82]⟩,⟨#[66,89]⟩,s.order].map bD))⟩]) (A:=[_])) ?_;refine aj 84 [1,3] ?_;refine ae [1,3,68] ?_;refine aq (fun dN en=>?_) (fun dN en=>?_)
   ·refine dK 1 ?_;refine dS call111 (qu ⟨#[68,69,83,67]⟩) ?_;refine ei (cc 0 [_]) [.int .i64 0,.string ⟨#[]⟩,.int .i64 0] [_,_,_] zeroValue149 runUnderlying114 sizeOf149 (fun b71=>?_);refine fH 0 71 3 1 ?_;refine OD.ee (ls:=(((Q++([⟨#[70,82,79,77]⟩,s.table].map bD))++(j7 s.ah))++([⟨#[79,82,68,69,82]⟩,⟨#[66,89]⟩,s.order].map bD))) (new:=[bD ⟨#[68,69,83,67]⟩]) (Sq:=[⟨oK,149,O*3,flatMap cT (((Q++([⟨#[70,82,79,77]⟩,s.table].map bD))++(j7 s.ah))++([⟨#[79,82,68,69,82]⟩,⟨#[66,89]⟩,s.order].map bD))⟩]) iv lg an rfl rfl underlying114 rz rfl w7 ot (bI y8 y9) (dA (A:=[_])) ot bu pp w9 (fun Mt Kz ahG ahH=>?_);refine OD.perm (dV (S1:=[⟨Mt,149,Kz*3,flatMap cT ((((Q++([⟨#[70,82,79,77]⟩,s.table].map bD))++(j7 s.ah))++([⟨#[79,82,68,69,82]⟩,⟨#[66,89]⟩,s.order].map bD))++[bD ⟨#[68,69,83,67]⟩])⟩]) (A:=[_])) ?_;refine aj 84 [1,3] ?_;refine⟨_,aM,((((Q++([⟨#[70,82,79,77]⟩,s.table].map bD))++(j7 s.ah))++([⟨#[79,82,68,69,82]⟩,⟨#[66,89]⟩,s.order].map bD))++[bD ⟨#[68,69,83,67]⟩]),(some ⟨Mt,0,none⟩),Kz,[⟨Mt,149,Kz*3,flatMap cT ((((Q++([⟨#[70,82,79,77]⟩,s.table].map bD))++(j7 s.ah))++([⟨#[79,82,68,69,82]⟩,⟨#[66,89]⟩,s.order].map bD))++[bD ⟨#[68,69,83,67]⟩])⟩],(by rw[hQ];unfold BC;rw[if_neg (by unfold iU;simpa using cx),if_pos en];simp only[append_assoc]),(bI ahG ahH),w9,rfl⟩
   refine CD.skip ?_;refine⟨_,aM,(((Q++([⟨#[70,82,79,77]⟩,s.table].map bD))++(j7 s.ah))++([⟨#[79,82,68,69,82]⟩,⟨#[66,89]⟩,s.order].map bD)),(some ⟨oK,0,none⟩),O,[⟨oK,149,O*3,flatMap cT (((Q++([⟨#[70,82,79,77]⟩,s.table].map bD))++(j7 s.ah))++([⟨#[79,82,68,69,82]⟩,⟨#[66,89]⟩,s.order].map bD))⟩],(by rw[hQ];unfold BC;rw[if_neg (by unfold iU;simpa using cx),if_neg (by simpa using dN)];simp only[append_assoc,append_nil]),(bI y8 y9),w9,rfl⟩
  refine CD.skip ?_;refine⟨_,aM,((Q++([⟨#[70,82,79,77]⟩,s.table].map bD))++(j7 s.ah)),ahE,ahF,vp,(by rw[hQ];unfold BC;rw[if_pos (by unfold iU;simpa using cx)];simp),uW,w9,rfl⟩
 rintro _ ⟨Q,ad,cp,Sx,hQ,ec,hQl,rfl⟩;refine ae [1,3,75] ?_;refine aq (fun eN fT=>?_) (fun eN fT=>?_)
 ·refine fF 7 (ap (take 1 _)) ?_ (fun _ h=>(Sublist.map _ (take_sublist _ _)).subset h);refine ax 0 rfl bg ?_;refine ax 2 rfl (cY 9) ?_;refine ax 3 rfl (dw 0) ?_;refine ax 4 rfl (nf (pl:=[(0,_),(2,_)]) (ds:=[_,_,_]) rfl zeroValue149 runUnderlying149 Xv ⟨rfl,bH,rfl,ot,trivial⟩ rfl rfl) ?_;refine dh.later rfl ?_;refine AD.one (i:=1) ay ?_;refine ju call111 (qu ⟨#[76,73,77,73,84]⟩) ?_;refine AD.one (i:=5) ay ?_;refine jf (cc 0 [_,_]) [.int .i64 0,.string ⟨#[]⟩,.int .i64 0,.int .i64 0,.string ⟨#[]⟩,.int .i64 0] [_,_,_,_,_,_] zeroValue149 runUnderlying114 sizeOf149 (fun b81=>?_);refine jg 0 81 3 2 ?_;refine AD.one (i:=6) ay ?_;refine bf.ee (ls:=Q) (new:=[bD ⟨#[76,73,77,73,84]⟩,(⟨2,⟨#[]⟩,s.gK⟩:Tk)]) (Sq:=Sx) iv lg rfl an rfl rfl underlying114 rz rfl w7 ot ec (dA (A:=[_])) ot bu pp w9 (fun Wz Uw ahI ahJ=>?_);refine AD.perm (dV (S1:=[⟨Wz,149,Uw*3,flatMap cT (Q++[bD ⟨#[76,73,77,73,84]⟩,(⟨2,⟨#[]⟩,s.gK⟩:Tk)])⟩]) (A:=[_])) ?_;refine ey ?_;refine aY [3] ?_;refine ae [2] ?_;refine CD.gW (t:=2) (Sq:=[⟨Wz,149,Uw*3,flatMap cT (Q++[bD ⟨#[76,73,77,73,84]⟩,(⟨2,⟨#[]⟩,s.gK⟩:Tk)])⟩]) lk (bI ahI ahJ) (cr iv _) (dA (A:=[_])) ?_;refine eE ?_;refine⟨?_,rfl⟩;rw[hQ];unfold A7 Kw;rw[if_pos w4]
 refine ae [2] ?_;refine CD.gW (t:=2) (Sq:=Sx) lk ec (cr iv _) (dA (A:=[_])) ?_;refine aJ [] ?_;refine⟨?_,rfl⟩;rw[hQ];unfold A7 Kw;rw[if_neg w4];simp only[append_nil]

def JI(k:Int):ByteArray:=aeh.getD k.toNat ⟨#[]⟩
theorem aaS{k:Int}(h1:1≤k)(h2:k≤3):typesC[0+k.toNat*1]?=some (.string (JI k)):=by
 have h:k=1∨k=2∨k=3:=(by omega)
 rcases h with rfl|rfl|rfl<;>rfl
def iR(c:cu):List Tk:=[c.n,JI c.k].map bD
def Fy:List ByteArray:=[⟨#[66,69,71,73,78]⟩,⟨#[67,79,77,77,73,84]⟩,⟨#[82,79,76,76,66,65,67,75]⟩]
def qB(s:cN):List Tk :=
 if s.kind=1 then [⟨#[67,82,69,65,84,69]⟩,⟨#[84,65,66,76,69]⟩,s.table].map bD++lR (s.av.map iR)
 else if s.kind=2 then [⟨#[68,82,79,80]⟩,⟨#[84,65,66,76,69]⟩,s.table].map bD
 else if s.kind=3 then [⟨#[73,78,83,69,82,84]⟩,⟨#[73,78,84,79]⟩,s.table,⟨#[86,65,76,85,69,83]⟩].map bD++lR (s.row.map iZ)
 else if s.kind=4 then A7 s
 else if s.kind=5 then [[⟨#[85,80,68,65,84,69]⟩,s.table,⟨#[83,69,84]⟩,s.set].map bD,[dO ⟨#[61]⟩],qA s.bE,j7 s.ah].flatten
 else if s.kind=6 then [⟨#[68,69,76,69,84,69]⟩,⟨#[70,82,79,77]⟩,s.table].map bD++j7 s.ah
 else [Fy.getD (s.kind-7).toNat ⟨#[]⟩].map bD
structure WA (s:cN):Prop where
 fin:mv s
 k1:1≤s.kind
 k9:s.kind≤9
 c:s.kind=1→∀c∈s.av,1≤c.k∧c.k≤3
 r:s.kind=3→∀v∈s.row,mG v
 w:s.kind=4∨s.kind=5∨s.kind=6→s.ah.length=0∨fy 0 s.ah=0
 t:s.kind=5→fy 0 s.bE=0
theorem PA(ts:List (List Tk)):0<(lR ts).length:=by unfold lR;rw[length_append];simp
theorem PB{ts:List (List Tk)}(h:∀x∈ts,x.length≤10):(lR ts).length≤2+11*ts.length:=by
 have h1:=Ei h ts.length;unfold lR;rw[length_append];simp only[length_cons,length_nil];omega
theorem Iz(l:List cu):∀x∈l.map iR,x.length≤10:=fun x hx=>by obtain⟨c,_,rfl⟩:=mem_map.1 hx;show 2≤10;decide
theorem PC(l:List Vl):∀x∈l.map iZ,x.length≤10:=fun x hx=>by obtain⟨v,_,rfl⟩:=mem_map.1 hx;have:=Ob v;omega
theorem Nt:(Tryz.prog.info? 114).map (fun i=>(i.zero,i.size,i.bytes))=some (some (.slice none 0 0),1,24):=by kernel_rfl
theorem GR:(Tryz.prog.info? 149).map (fun i=>(i.zero,i.size,i.bytes))=some (some (.agg #[.int .i64 0,.string ⟨#[]⟩,.int .i64 0]),3,32):=by kernel_rfl
theorem acD(hty:(0,typesC)∈G)(s:cN)(hs:WA s):VP Tryz.prog G 45 [.agg (bY s)] (.list 3 ((qB s).flatMap cT) (qB s).length):=by
 refine VC.body func45 rfl ntmps45 aO fun X0 w0 aZ=>?_;have dr:maxLen=9223372036854775807:=rfl;have hf:=hs.fin;have h6:=hf.ok.1;have h6r:=hf.ok.2.1;have pE:=hf.ok.2.2.2.1;have ahK:=hf.ok.2.2.2.2;have Gl:=Of s.ah;have Mr:=DP s.ah;have Fz:=DP s.bE;have kJ:=PB (Iz s.av);have qX:=PB (PC s.row);have I:=X2 (G:=G) s hf;rw[length_map] at kJ qX;unfold bY at I;unfold bY;refine cj ?_;refine OD.box (ds:=[_,_,_,_,_,_,_,_,_,_,_,_]) an rfl rfl ot rfl rfl (fun b1=>?_);refine aj 107 [1] ?_;refine cL [1,10] ?_;refine aP 1 ?_ (h:=by exact eP);refine jQ ?_;refine ae [1,10,11] ?_;refine aq (fun az aG=>?_) (fun az aG=>?_)
 ·refine cj ?_;refine aY [1,3] ?_;refine cL [1,3,14,15,16] ?_;refine aP 1 ?_ (h:=by exact eP);refine bG ?_;refine CD.block ?_;refine l5 (fun (E:Nat×Option Addr×Nat×List ag) aK=>match E with|(i,dQ,dD,Sx)=>(i≤s.av.length)∧(bq 114 1 (((s.av.take i).map iR).flatMap cK) ((s.av.take i).map iR).length dQ dD Sx)∧aK=(⟨107,[(1,.v (.pointer (some ⟨b1,0,none⟩))),(3,.v (.slice dQ ((s.av.take i).map iR).length dD)),(14,.list 2 (s.av.flatMap cC) s.av.length),(15,.v (.int .i64 (s.av.length:Nat))),(16,.v (.int .i64 (i:Nat)))],((⟨b1,42,12,[.v (.int .i64 s.kind),.v (.string s.table),.list 2 (s.av.flatMap cC) s.av.length,.list 3 (s.row.flatMap cV) s.row.length,.list 1 (s.names.flatMap cS) s.names.length,.v (.bool s.count),.list 5 (s.ah.flatMap cO) s.ah.length,.v (.string s.order),.v (.bool s.down),.v (.int .i64 s.gK),.v (.string s.set),.list 5 (s.bE.flatMap cO) s.bE.length]⟩:ag)::Sx)⟩:St)) (fun (E:Nat×Option Addr×Nat×List ag)=>match E with|(i,dQ,dD,Sx)=>s.av.length-i) (0,none,0,[]) ⟨(Nat.zero_le _),(bq.cast iC lB),rfl⟩ (aM (h:=by repeat (first|exact trivial|refine⟨(by (repeat (first|exact fu|(apply fN;focus (first|rfl|(simp;done)|(congr 2;omega)|(apply eB;exact sQ iR aa)|(apply eB;simp;done)))|(apply fE;focus rfl)));done),?_⟩))) ?_;rintro⟨i,dQ,dD,Sx⟩ _ ⟨hi,ec,rfl⟩;refine ae [1,3,14,15,16,17] ?_;refine aq (fun aH aT=>?_) (fun aH aT=>?_)
  ·have aa:i<s.av.length:=(by simp at aH;omega)
   have WB:=hs.c aG _ (getElem_mem aa);refine aC 1 ?_;refine bQ (cH (mk:=Op.load 111) rfl ot (by first|exact pP (k:=0) (ds:=[_,_]) rfl rfl isAgg111 sizeOf111 rfl rfl|exact jM k8 isAgg111 sizeOf111 w5|exact jM e9 isAgg111 sizeOf111 w5|exact jM iX isAgg111 sizeOf111 w5|exact dI (k:=0) k8 rfl rfl rfl isAgg111 sizeOf111 w5|exact dI (k:=0) e9 rfl rfl rfl isAgg111 sizeOf111 w5|exact dI (k:=0) iX rfl rfl rfl isAgg111 sizeOf111 w5|exact pU (ds:=[_,_]) isAgg111 sizeOf111 rfl rfl)) ?_;refine OD.alloc (ds:=[_,_]) an rfl rfl zeroValue111 rfl (fun b5=>?_);refine aN 0 [_,_] sizeOf111 ?_;refine aj 107 [1,3,5,14,15,16] ?_;refine fF 11 (ap (take 2 _)) ?_ (fun _ h=>(Sublist.map _ (take_sublist _ _)).subset h);refine ax 0 rfl bg ?_;refine ax 1 rfl (cY 0) ?_;refine ax 2 rfl eP ?_;refine ax 3 rfl (cY 1) ?_;refine ax 4 rfl eP ?_;refine ax 5 rfl (qq (mk:=Op.indexAddr 144) rfl vG ot (by first|exact SA runUnderlying144 sizeOf9 rfl w5|exact SA (j:=Int.toNat _) runUnderlying144 sizeOf9 (Int.toNat_of_nonneg w4).symm w4)) ?_
   refine ax 6 rfl (cH (mk:=Op.load 9) rfl ot (by first|exact rE (k:=0) rfl rfl isAgg9 rfl|exact rE (k:=1) rfl rfl isAgg9 rfl|exact uH k8 isAgg9 w5 rfl|exact pQ k8 isAgg9 w5 rfl|exact uH e9 isAgg9 w5 rfl|exact pQ e9 isAgg9 w5 rfl|exact uH iX isAgg9 w5 rfl|exact pQ iX isAgg9 w5 rfl|exact kP (k:=0) k8 rfl rfl rfl isAgg9 w5 rfl|exact iL (k:=0) k8 rfl rfl rfl isAgg9 w5 rfl|exact kP (k:=1) k8 rfl rfl rfl isAgg9 w5 rfl|exact iL (k:=1) k8 rfl rfl rfl isAgg9 w5 rfl|exact kP (k:=0) e9 rfl rfl rfl isAgg9 w5 rfl|exact iL (k:=0) e9 rfl rfl rfl isAgg9 w5 rfl|exact kP (k:=1) e9 rfl rfl rfl isAgg9 w5 rfl|exact iL (k:=1) e9 rfl rfl rfl isAgg9 w5 rfl|exact kP (k:=0) iX rfl rfl rfl isAgg9 w5 rfl|exact iL (k:=0) iX rfl rfl rfl isAgg9 w5 rfl|exact kP (k:=1) iX rfl rfl rfl isAgg9 w5 rfl|exact iL (k:=1) iX rfl rfl rfl isAgg9 w5 rfl|exact Bv isAgg9 rfl|exact adQ hty isAgg9 (aaS WB.1 WB.2))) ?_;refine dh.later rfl ?_;refine AD.one (i:=7) ay ?_;refine jf (cc 0 [_,_]) [.string ⟨#[]⟩,.string ⟨#[]⟩] [_,_] zeroValue9 runUnderlying39 sizeOf9 (fun b27=>?_);refine jg 0 27 1 2 ?_;refine AD.one (i:=8) ay ?_;refine ju call74 (rG [s.av[i].n,JI s.av[i].k] (by show 2≤10;decide)) ?_;refine AD.one (i:=9) ay ?_;refine jf (cc 0 [_]) [.slice none 0 0] [_] zeroValue114 runUnderlying142 sizeOf114 (fun tY=>?_)
   refine jg 0 29 1 1 ?_;refine AD.one (i:=10) ay ?_;refine bf.DK (Sq:=Sx) (R:=[_,_]) rfl an rfl rfl underlying142 Nt rfl w7 ot ec (perm_append_comm (l₁:=[_,_])) (cr fX _) ot (s7 oV [iR s.av[i]]) w7 (by rw[length_map,length_take];simp only[maxLen];omega) (by rw[length_map,length_take];omega) ic (fun Mu O KA KB=>?_);refine AD.perm (dV (S1:=[⟨Mu,114,O*1,flatMap cK ((s.av.take i).map iR)++flatMap cK [iR s.av[i]]⟩]) (A:=[_,_])) ?_;rw[show flatMap cK ((s.av.take i).map iR)++flatMap cK [iR s.av[i]]=flatMap cK ((s.av.take i).map iR++[iR s.av[i]]) from List.flatMap_append.symm,show((s.av.take i).map iR).length+1=((s.av.take i).map iR++[iR s.av[i]]).length from by rw[length_append];rfl];refine ey ?_;refine aY [1,3,14,15,16] ?_;refine cg [1,3,14,15,16] ?_;refine⟨((i+1),(some ⟨Mu,0,none⟩),O,[⟨Mu,114,O*1,flatMap cK ((s.av.take i).map iR++[iR s.av[i]])⟩]),_,cz,(aM (h:=by repeat (first|exact trivial|refine⟨(by (repeat (first|exact fu|(apply fN;focus (first|rfl|(simp;done)|(congr 2;omega)|(apply eB;exact sQ iR aa)|(apply eB;simp;done)))|(apply fE;focus rfl)));done),?_⟩))),w4,(bq.cast (bI (by rw[length_append];exact KA) KB) (by exact sQ iR aa)),rfl⟩
  have fb:=Iy iR (show s.av.length≤i by simp at aH;omega);have U:=Q8 (G:=G) (s.av.map iR) Fe (Iz s.av);rw[←fb] at U kJ;refine aC 1 ?_;refine bQ eP ?_;refine ei (cc 0 [_,_,_]) [.string ⟨#[]⟩,.string ⟨#[]⟩,.string ⟨#[]⟩] [_,_,_] zeroValue9 runUnderlying39 sizeOf9 (fun WD=>?_);refine OD.perm (x4 (S2:=[⟨WD,9,3*1,flatMap cS ([⟨#[67,82,69,65,84,69]⟩,⟨#[84,65,66,76,69]⟩,s.table])⟩]) (A:=[_])) ?_;refine OD.gW (t:=34) (Sq:=[⟨WD,9,3*1,flatMap cS ([⟨#[67,82,69,65,84,69]⟩,⟨#[84,65,66,76,69]⟩,s.table])⟩]) lk (bI (g:=cS) (sz:=1) (e:=9) (ls:=[⟨#[67,82,69,65,84,69]⟩,⟨#[84,65,66,76,69]⟩,s.table]) (Nat.le_refl _) (show 3≤maxLen by decide)) (cr iX _) (xZ (A:=[_])) ?_;refine OD.call an rfl rfl rfl call74 (yt [⟨#[67,82,69,65,84,69]⟩,⟨#[84,65,66,76,69]⟩,s.table] (by show 3≤10;decide)) ⟨ot,trivial⟩ (eK _) ?_;rintro _ S35 ⟨anO,anP,rfl,ahL⟩;refine OD.perm (x4 (A:=[_])) ?_;refine aD 1 ?_;refine OD.gW (t:=36) (Sq:=Sx) lk ec (cr fX _) (oe (A:=[_])) ?_;refine dS call75 (U) ?_;refine OD.ee (ls:=([⟨#[67,82,69,65,84,69]⟩,⟨#[84,65,66,76,69]⟩,s.table].map bD)) (new:=(lR ((s.av.take i).map iR))) (Sq:=S35) iv lg an rfl rfl underlying114 GR rfl w7 ot ahL (dA (A:=[_])) ot (PA _) pp w9 (fun Mj Ux ahM ahN=>?_)
  refine OD.perm (dV (S1:=[⟨Mj,149,Ux*3,flatMap cT (([⟨#[67,82,69,65,84,69]⟩,⟨#[84,65,66,76,69]⟩,s.table].map bD)++(lR ((s.av.take i).map iR)))⟩]) (A:=[_])) ?_;refine aj 107 [2] ?_;refine CD.gW (t:=2) (Sq:=[⟨Mj,149,Ux*3,flatMap cT (([⟨#[67,82,69,65,84,69]⟩,⟨#[84,65,66,76,69]⟩,s.table].map bD)++(lR ((s.av.take i).map iR)))⟩]) lk (bI ahM ahN) (cr iv _) (dA (A:=[_])) ?_;refine aJ [] ?_;refine⟨?_,rfl⟩;unfold qB;rw[if_pos aG,←fb]
 refine ae [1,10,39] ?_;refine aq (fun aX bw=>?_) (fun aX bw=>?_)
 ·refine cL [2] ?_;refine aP 1 ?_ (h:=by exact eP);refine cU (rG [⟨#[68,82,79,80]⟩,⟨#[84,65,66,76,69]⟩,s.table] (by show 3≤10;decide)) ?_;refine bG ?_;refine aJ [] ?_;refine⟨?_,rfl⟩;unfold qB;rw[if_neg aG,if_pos bw]
 refine ae [1,10,45] ?_;refine aq (fun bC bW=>?_) (fun bC bW=>?_)
 ·refine cj ?_;refine aY [1,6] ?_;refine cL [1,6,48,49,50] ?_;refine aP 1 ?_ (h:=by exact eP);refine bG ?_;refine CD.block ?_;refine l5 (fun (E:Nat×Option Addr×Nat×List ag) aK=>match E with|(i,Gn,Gp,Sv)=>(i≤s.row.length)∧(bq 114 1 (((s.row.take i).map iZ).flatMap cK) ((s.row.take i).map iZ).length Gn Gp Sv)∧aK=(⟨107,[(1,.v (.pointer (some ⟨b1,0,none⟩))),(6,.v (.slice Gn ((s.row.take i).map iZ).length Gp)),(48,.list 3 (s.row.flatMap cV) s.row.length),(49,.v (.int .i64 (s.row.length:Nat))),(50,.v (.int .i64 (i:Nat)))],((⟨b1,42,12,[.v (.int .i64 s.kind),.v (.string s.table),.list 2 (s.av.flatMap cC) s.av.length,.list 3 (s.row.flatMap cV) s.row.length,.list 1 (s.names.flatMap cS) s.names.length,.v (.bool s.count),.list 5 (s.ah.flatMap cO) s.ah.length,.v (.string s.order),.v (.bool s.down),.v (.int .i64 s.gK),.v (.string s.set),.list 5 (s.bE.flatMap cO) s.bE.length]⟩:ag)::Sv)⟩:St)) (fun (E:Nat×Option Addr×Nat×List ag)=>match E with|(i,Gn,Gp,Sv)=>s.row.length-i) (0,none,0,[]) ⟨(Nat.zero_le _),(bq.cast iC lB),rfl⟩ (aM (h:=by repeat (first|exact trivial|refine⟨(by (repeat (first|exact fu|(apply fN;focus (first|rfl|(simp;done)|(congr 2;omega)|(apply eB;exact sQ iZ aa)|(apply eB;simp;done)))|(apply fE;focus rfl)));done),?_⟩))) ?_;rintro⟨i,Gn,Gp,Sv⟩ _ ⟨hi,mD,rfl⟩;refine ae [1,6,48,49,50,51] ?_;refine aq (fun cx c9=>?_) (fun cx c9=>?_)
  ·have aa:i<s.row.length:=(by simp at cx;omega)
   refine aC 1 ?_;refine bQ (cH (mk:=Op.load 30) rfl ot (by first|exact pP (k:=0) (ds:=[_,_,_]) rfl rfl isAgg30 sizeOf30 rfl rfl|exact jM k8 isAgg30 sizeOf30 w5|exact jM e9 isAgg30 sizeOf30 w5|exact jM iX isAgg30 sizeOf30 w5|exact dI (k:=0) k8 rfl rfl rfl isAgg30 sizeOf30 w5|exact dI (k:=0) e9 rfl rfl rfl isAgg30 sizeOf30 w5|exact dI (k:=0) iX rfl rfl rfl isAgg30 sizeOf30 w5|exact pU (ds:=[_,_,_]) isAgg30 sizeOf30 rfl rfl)) ?_;refine OD.alloc (ds:=[_,_,_]) an rfl rfl zeroValue30 rfl (fun b8=>?_);refine aN 0 [_,_,_] sizeOf30 ?_;refine aj 107 [1,6,8,48,49,50] ?_;refine dK 1 ?_;refine bQ (cH (mk:=Op.load 30) rfl ot (by first|exact pP (k:=0) (ds:=[_,_,_]) rfl rfl isAgg30 sizeOf30 rfl rfl|exact jM k8 isAgg30 sizeOf30 w5|exact jM e9 isAgg30 sizeOf30 w5|exact jM iX isAgg30 sizeOf30 w5|exact dI (k:=0) k8 rfl rfl rfl isAgg30 sizeOf30 w5|exact dI (k:=1) k8 rfl rfl rfl isAgg30 sizeOf30 w5|exact dI (k:=0) e9 rfl rfl rfl isAgg30 sizeOf30 w5|exact dI (k:=1) e9 rfl rfl rfl isAgg30 sizeOf30 w5|exact dI (k:=0) iX rfl rfl rfl isAgg30 sizeOf30 w5|exact dI (k:=1) iX rfl rfl rfl isAgg30 sizeOf30 w5|exact pU (ds:=[_,_,_]) isAgg30 sizeOf30 rfl rfl)) ?_;refine dS call76 (Nn s.row[i] (hs.r bW _ (getElem_mem aa))) ?_;refine ei (cc 0 [_]) [.slice none 0 0] [_] zeroValue114 runUnderlying142 sizeOf114 (fun b57=>?_)
   refine fH 0 57 1 1 ?_;refine OD.ee (ls:=((s.row.take i).map iZ)) (new:=[iZ s.row[i]]) (Sq:=Sv) fX oV an rfl rfl underlying142 Nt rfl w7 ot mD (dA (A:=[_,_])) ot bu (by simp only[maxLen,length_map,length_take,length_cons,length_nil];omega) (by simp only[length_map,length_take,length_cons,length_nil];omega) (fun zH Z ahO ahP=>?_);refine OD.perm (dV (S1:=[⟨zH,114,Z*1,flatMap cK (((s.row.take i).map iZ)++[iZ s.row[i]])⟩]) (A:=[_,_])) ?_;refine aj 107 [1,6,48,49,50] ?_;refine cg [1,6,48,49,50] ?_;refine⟨((i+1),(some ⟨zH,0,none⟩),Z,[⟨zH,114,Z*1,flatMap cK (((s.row.take i).map iZ)++[iZ s.row[i]])⟩]),_,cz,(aM (h:=by repeat (first|exact trivial|refine⟨(by (repeat (first|exact fu|(apply fN;focus (first|rfl|(simp;done)|(congr 2;omega)|(apply eB;exact sQ iZ aa)|(apply eB;simp;done)))|(apply fE;focus rfl)));done),?_⟩))),w4,(bq.cast (bI ahO ahP) (by exact sQ iZ aa)),rfl⟩
  have Tu:=Iy iZ (show s.row.length≤i by simp at cx;omega);have U:=Q8 (G:=G) (s.row.map iZ) Fe (PC s.row);rw[←Tu] at U qX;refine aC 1 ?_;refine bQ eP ?_;refine ei (cc 0 [_,_,_,_]) [.string ⟨#[]⟩,.string ⟨#[]⟩,.string ⟨#[]⟩,.string ⟨#[]⟩] [_,_,_,_] zeroValue9 runUnderlying39 sizeOf9 (fun Mw=>?_);refine OD.perm (x4 (S2:=[⟨Mw,9,4*1,flatMap cS ([⟨#[73,78,83,69,82,84]⟩,⟨#[73,78,84,79]⟩,s.table,⟨#[86,65,76,85,69,83]⟩])⟩]) (A:=[_])) ?_;refine OD.gW (t:=62) (Sq:=[⟨Mw,9,4*1,flatMap cS ([⟨#[73,78,83,69,82,84]⟩,⟨#[73,78,84,79]⟩,s.table,⟨#[86,65,76,85,69,83]⟩])⟩]) lk (bI (g:=cS) (sz:=1) (e:=9) (ls:=[⟨#[73,78,83,69,82,84]⟩,⟨#[73,78,84,79]⟩,s.table,⟨#[86,65,76,85,69,83]⟩]) (Nat.le_refl _) (show 4≤maxLen by decide)) (cr iX _) (xZ (A:=[_])) ?_;refine OD.call an rfl rfl rfl call74 (yt [⟨#[73,78,83,69,82,84]⟩,⟨#[73,78,84,79]⟩,s.table,⟨#[86,65,76,85,69,83]⟩] (by show 4≤10;decide)) ⟨ot,trivial⟩ (eK _) ?_;rintro _ Cy ⟨Ur,wH,rfl,BB⟩;refine OD.perm (x4 (A:=[_])) ?_;refine aD 1 ?_;refine OD.gW (t:=64) (Sq:=Sv) lk mD (cr fX _) (oe (A:=[_])) ?_;refine dS call75 (U) ?_;refine OD.ee (ls:=([⟨#[73,78,83,69,82,84]⟩,⟨#[73,78,84,79]⟩,s.table,⟨#[86,65,76,85,69,83]⟩].map bD)) (new:=(lR ((s.row.take i).map iZ))) (Sq:=Cy) iv lg an rfl rfl underlying114 GR rfl w7 ot BB (dA (A:=[_])) ot (PA _) pp w9 (fun oK y7 y8 y9=>?_)
  refine OD.perm (dV (S1:=[⟨oK,149,y7*3,flatMap cT (([⟨#[73,78,83,69,82,84]⟩,⟨#[73,78,84,79]⟩,s.table,⟨#[86,65,76,85,69,83]⟩].map bD)++(lR ((s.row.take i).map iZ)))⟩]) (A:=[_])) ?_;refine aj 107 [2] ?_;refine CD.gW (t:=2) (Sq:=[⟨oK,149,y7*3,flatMap cT (([⟨#[73,78,83,69,82,84]⟩,⟨#[73,78,84,79]⟩,s.table,⟨#[86,65,76,85,69,83]⟩].map bD)++(lR ((s.row.take i).map iZ)))⟩]) lk (bI y8 y9) (cr iv _) (dA (A:=[_])) ?_;refine aJ [] ?_;refine⟨?_,rfl⟩;unfold qB;rw[if_neg aG,if_neg bw,if_pos bW,←Tu]
 refine ae [1,10,67] ?_;refine aq (fun dN en=>?_) (fun dN en=>?_)
 ·refine cL [2] ?_;refine aP 0 ?_ (h:=by exact(cH (mk:=Op.load 42) rfl ot (by first|exact pP (k:=0) (ds:=[_,_,_,_,_,_,_,_,_,_,_,_]) rfl rfl isAgg42 sizeOf42 rfl rfl|exact jM k8 isAgg42 sizeOf42 w5|exact jM e9 isAgg42 sizeOf42 w5|exact jM iX isAgg42 sizeOf42 w5|exact dI (k:=0) k8 rfl rfl rfl isAgg42 sizeOf42 w5|exact dI (k:=0) e9 rfl rfl rfl isAgg42 sizeOf42 w5|exact dI (k:=0) iX rfl rfl rfl isAgg42 sizeOf42 w5|exact pU (ds:=[_,_,_,_,_,_,_,_,_,_,_,_]) isAgg42 sizeOf42 rfl rfl)));refine cU (I (hs.w (.inl en))) ?_;refine bG ?_;refine aJ [] ?_;refine⟨?_,rfl⟩;unfold qB;rw[if_neg aG,if_neg bw,if_neg bW,if_pos en]
 refine ae [1,10,71] ?_;refine aq (fun eN fT=>?_) (fun eN fT=>?_)
 ·refine cL [2] ?_;refine aP 1 ?_ (h:=by exact eP);refine aP 1 ?_ (h:=by exact eP);refine cU (rG [⟨#[85,80,68,65,84,69]⟩,s.table,⟨#[83,69,84]⟩,s.set] (by show 4≤10;decide)) ?_;refine cU (mJ ⟨#[61]⟩) ?_;refine aP 2 ?_ (h:=by exact eP);refine cU (NH s.bE ahK (hs.t fT) (fun o h=>(hf.x o h).2)) ?_;refine aP 1 ?_ (h:=by exact eP);refine cU (GN s.ah pE (hs.w (.inr (.inl fT))) (fun o h=>(hf.w o h).2) w4) ?_;refine cU (DO [[⟨#[85,80,68,65,84,69]⟩,s.table,⟨#[83,69,84]⟩,s.set].map bD,[dO ⟨#[61]⟩],qA s.bE,j7 s.ah] (by show 4≤1000;decide) (by simp only[flatten_cons,flatten_nil,length_append,length_map,length_cons,length_nil];omega) (by simp only[flatten_cons,flatten_nil,length_append,length_map,length_cons,length_nil];omega)) ?_;refine bG ?_;refine aJ [] ?_;refine⟨?_,rfl⟩;unfold qB;rw[if_neg aG,if_neg bw,if_neg bW,if_neg en,if_pos fT]
 refine ae [1,89] ?_;refine aq (fun eG fZ=>?_) (fun eG fZ=>?_)
 ·refine CD.seq ?_;refine fF 8 (ap (take 1 _)) ?_ (fun _ h=>(Sublist.map _ (take_sublist _ _)).subset h);refine ax 0 rfl (cY 1) ?_;refine ax 1 rfl eP ?_;refine ax 4 rfl (cY 6) ?_;refine ax 5 rfl eP ?_;refine dh.later rfl ?_;refine AD.one (i:=2) ay ?_;refine jf (cc 0 [_,_,_]) [.string ⟨#[]⟩,.string ⟨#[]⟩,.string ⟨#[]⟩] [_,_,_] zeroValue9 runUnderlying39 sizeOf9 (fun WE=>?_);refine jg 0 93 1 3 ?_;refine AD.one (i:=3) ay ?_;refine bf.call rfl an rfl rfl rfl call74 (yt [⟨#[68,69,76,69,84,69]⟩,⟨#[70,82,79,77]⟩,s.table] (by show 3≤10;decide)) ⟨ot,trivial⟩ (eK _) ic ?_;rintro _ S94 ⟨anQ,anR,rfl,ahQ⟩;refine AD.perm (dV (A:=[_])) ?_;refine AD.one (i:=6) ay ?_;refine ju call81 (GN s.ah pE (hs.w (.inr (.inr fZ))) (fun o h=>(hf.w o h).2) w4) ?_;refine AD.one (i:=7) ay ?_;refine bf.oO (ls:=([⟨#[68,69,76,69,84,69]⟩,⟨#[70,82,79,77]⟩,s.table].map bD)) (new:=(j7 s.ah)) (Sq:=S94) iv lg rfl an rfl rfl underlying114 GR rfl w7 runUnderlying114 sizeOf149 ot ahQ (dA (A:=[_])) ot pp w9 (fun anS anT S98 ahR=>?_);refine AD.perm (dV (A:=[_])) ?_;refine ey ?_;refine aY [2] ?_;refine CD.gW (t:=2) (Sq:=S98) lk ahR (cr iv _) (dA (A:=[_])) ?_;refine eE ?_;refine⟨?_,rfl⟩;unfold qB;rw[if_neg aG,if_neg bw,if_neg bW,if_neg en,if_neg fT,if_pos fZ]
 obtain⟨j,hj,Mx⟩:∃j:Nat,s.kind=((7+j:Nat):Int)∧j<Fy.length:=⟨(s.kind-7).toNat,by have:=hs.k1;have:=hs.k9;omega,by have:=hs.k1;have:=hs.k9;show _<3;omega⟩
 refine cL [2] ?_;refine L8 (g:=cS) (Fy) ?_;refine aP 1 ?_ (h:=by exact eP);refine aP 0 ?_ (h:=by exact(cX (r:=.int .i64 ((j:Nat):Int)) rfl ot bH (fV (by rw[hj,show(((7+j:Nat)):Int)-7=((j:Nat):Int) by omega];exact wrap_i64 w4 (by have:j<3:=Mx;omega)))));refine aP 1 ?_ (h:=by exact(cH (mk:=Op.load 9) rfl ot (by exact pQ (i:=j) iX isAgg9 Mx rfl)));refine cU (rG [Fy[j]] zD) ?_;refine bG ?_;refine aJ [] ?_;refine⟨?_,rfl⟩;unfold qB;rw[if_neg aG,if_neg bw,if_neg bW,if_neg en,if_neg fT,if_neg fZ,hj,show(((7+j:Nat):Int)-7).toNat=j by omega,me Mx];first|done|rfl

theorem NI:∀(l pre:List cu),qz pre l=0→∀c∈l,cJ c.n=0∧1≤c.k∧c.k≤3
 | [],_,_,c,hc=>by cases hc
 | a::l,pre,h,c,hc=>by
  have h:(if mR pre a≠0 then mR pre a else qz (pre++[a]) l)=0:=h;by_cases h0:mR pre a=0
  ·rw[if_neg (by simp[h0])] at h;rcases mem_cons.1 hc with rfl|hc
   ·unfold mR at h0;by_cases h1:cJ c.n=0
    ·rw[if_neg (by simp[h1])] at h0;by_cases h2:c.k<1∨c.k>3
     ·rw[if_pos h2] at h0;cases h0
     exact⟨h1,by omega⟩
    rw[if_pos h1] at h0;exact absurd h0 h1
   exact NI l _ h c hc
  rw[if_pos h0] at h;exact absurd h h0
theorem Zi{l:List cu}(h:fw l=0):(1≤l.length∧l.length≤6)∧∀c∈l,cJ c.n=0∧1≤c.k∧c.k≤3:=by
 unfold fw at h;split at h
 ·cases h
 exact⟨by omega,NI l [] h⟩
theorem Ra{α:Type}{f:α→Int}:∀{l:List α},jz f l=0→∀a∈l,f a=0
 | [],_,a,h=>by cases h
 | b::r,h,a,ha=>by
  unfold jz at h;split at h
  ·exact absurd h tg
  rcases mem_cons.1 ha with rfl|ha
  ·have hn:¬f a≠0:=(by assumption)
   omega
  exact Ra h a ha
theorem IA{l:List aV}(h:nh l=0):l.length=0∨fy 0 l=0:=by
 unfold nh at h;split at h
 ·exact .inl tg
 right;unfold iF at h;split at h
 ·cases h
 exact h
theorem aei{l:List aV}(h:iF l=0):fy 0 l=0∧l.length≤40:=by
 unfold iF at h;split at h
 ·cases h
 exact⟨h,by omega⟩
theorem afB{s:cN}(h:gS s=0):jN s=0∧lj s (iQ s)=true∧(s.kind<7→cJ s.table=0):=by
 unfold gS at h;split at h
 ·rename_i h1;exact absurd h h1.2
 rename_i h1;split at h
 ·cases h
 rename_i h2;refine⟨h,?_,fun hk=>?_⟩
 ·cases hb:lj s (iQ s) with
  | true=>rfl
  | false=>exact absurd ⟨h,hb⟩ h2
 by_cases hn:cJ s.table=0
 ·exact hn
 exact absurd ⟨hk,hn⟩ h1
theorem afC{s:cN}(hf:mv s)(h1:1≤s.kind)(I:s.kind≤9)(h:gS s=0):WA s:=by
 have he:=(afB h).1;unfold jN at he;refine⟨hf,h1,I,fun hk=>?_,fun hk v E=>?_,fun hk=>?_,fun hk=>?_⟩
 ·rw[if_pos hk] at he;exact fun c hc=>((Zi he).2 c hc).2
 ·rw[if_neg w4,if_pos hk] at he;unfold dU at he;split at he
  ·cases he
  exact SI (Ra he v E) (hf.r v E).1 (hf.r v E).2
 ·by_cases h4:s.kind=4
  ·rw[if_neg w4,if_neg w4,if_pos h4] at he;unfold oo at he;repeat' split at he
   all_goals first|(exfalso;omega)|exact IA w4
  by_cases h5:s.kind=5
  ·rw[if_neg w4,if_neg w4,if_neg h4,if_pos h5] at he;repeat' split at he
   all_goals first|(exfalso;omega)|exact IA he
  rw[if_neg w4,if_neg w4,if_neg h4,if_neg h5,if_pos w4] at he;exact IA he
 rw[if_neg w4,if_neg w4,if_neg w4,if_pos hk] at he;repeat' split at he
 all_goals first|(exfalso;omega)|exact(aei tg).1
def jA(s:cN):Int:=if s.kind<1∨s.kind>9 then 2 else if gS s≠0 then gS s else if (qB s).length>100 then 10 else 0
theorem PF(hm:(3,marksC)∈G)(hw:(2,wordsC)∈G)(O:(0,typesC)∈G)(s:cN)(hf:mv s):VP Tryz.prog G 27 [.agg (bY s)] (.v (.int .i64 (jA s))):=by
 refine VC.body func27 rfl ntmps27 aO fun X0 w0 aZ=>?_;have dr:maxLen=9223372036854775807:=rfl;have eZ:=Zh hm hw s hf;unfold bY at eZ;unfold bY;have Z:(s.kind<1∨s.kind>9)∨¬(s.kind<1∨s.kind>9):=(by omega)
 refine cj ?_;refine OD.box (ds:=[_,_,_,_,_,_,_,_,_,_,_,_]) an rfl rfl ot rfl rfl (fun b1=>?_);refine aj 21 [1] ?_;refine aC 4 ?_;refine bS 7 (fun U E=>?_) (fun U E=>?_)
 ·refine aY [1,11] ?_;refine ez ?_;have aS:jA s=2:=if_pos w4;exact xk
 refine aY [1,11] ?_;refine aq (fun az aG=>?_) (fun az aG=>?_)
 ·have aS:jA s=2:=if_pos w4;exact xk
 have hk:¬(s.kind<1∨s.kind>9):=(by omega)
 refine cM [1,3] (eZ) ?_;refine ae [1,3,15] ?_;refine aq (fun aH aT=>?_) (fun aH aT=>?_)
 ·have hn:gS s≠0:=(by simpa using aH)
  have aS:jA s=gS s:=(by unfold jA;rw[if_neg hk,if_pos hn])
  exact xk
 have h0:gS s=0:=(by simpa using aH)
 have I:=acD O s (afC hf w4 w4 h0);unfold bY at I;have gv:¬gS s≠0:=fun h=>h h0;refine cM [20] (I) ?_;refine aq (fun aX bw=>?_) (fun aX bw=>?_)
 ·have aS:jA s=10:=(by unfold jA;rw[if_neg hk,if_neg gv,if_pos (by simp at aX;omega)])
  exact xk
 have aS:jA s=0:=(by unfold jA;rw[if_neg hk,if_neg gv,if_neg (by simp at aX;omega)])
 refine ae [2] ?_;refine eE ?_;rw[aS];exact⟨rfl,rfl⟩

end Go.Proofs.YtbcmjoaggammcaaGreatDoor.Pa
namespace Go.Proofs.YtbcmjoaggammcaaGreatDoor.Pc
open List
open Go.Proofs.Tryz
open Go.RowKit V Pk Vl Go.Proofs.YtbcmjoaggammcaaGreatDoor.Nm Pa
variable {G:List (Nat×List Value)}
variable {i:Nat}
theorem aej:cJ ⟨#[116]⟩=0:=sJ (l:=[116]) w7 w7 (fun c hc=>by simp only[mem_singleton] at hc;subst hc;decide)
def ql(l:List cu):cN:={ir with kind:=1,table:=⟨#[116]⟩,av:=l}
theorem afD{l:List cu}(h6:l.length≤6)(aQ:∀c∈l,c.n.size≤maxLen):mv (ql l) :=
 ⟨⟨h6,Nat.zero_le _,Nat.zero_le _,Nat.zero_le _,Nat.zero_le _⟩,(by show 1≤maxLen;decide),aQ,(fun _ h=>by cases h),Nat.zero_le _,Nat.zero_le _,(fun _ h=>by cases h),(fun _ h=>by cases h),(fun _ h=>by cases h)⟩
theorem aek(l:List cu):lj (ql l) (ql l)=true:=by
 unfold lj;simp only[Bool.and_eq_true,beq_iff_eq,AF,and_self]
theorem acE(l:List cu):gS (ql l)=fw l:=by
 have h1:jN (ql l)=fw l:=rfl;have h2:iQ (ql l)=ql l:=rfl;unfold gS;rw[if_neg (fun h=>h.2 aej),h2,h1,if_neg (fun h=>by rw[aek] at h;cases h.2)]
theorem aaT{l:List cu}(h6:l.length≤6):jA (ql l)=fw l:=by
 unfold jA;rw[if_neg (fun h=>by have:(ql l).kind=1:=rfl;omega),acE];split
 ·rfl
 rename_i h0;have h1:=Ei (ts:=l.map iR) (Iz l) (l.map iR).length;have h2:(lR (l.map iR)).length≤80:=(by unfold lR;rw[length_append];rw[length_map] at h1 ⊢;simp only[length_cons,length_nil];omega)
 have h3:(qB (ql l)).length≤100:=by
  show([_,_,_].map bD++lR (l.map iR)).length≤100;rw[length_append];simp only[length_map,length_cons,length_nil];omega
 rw[if_neg w4];simp only[ne_eq,Decidable.not_not] at h0;exact h0.symm
def My(l:List cu):List D:=[.v (.int .i64 1),.v (.string ⟨#[116]⟩),.list 2 (l.flatMap cC) l.length,.v (.slice none 0 0),.v (.slice none 0 0),.v (.bool false),.v (.slice none 0 0),.v (.string ⟨#[]⟩),.v (.bool false),.v (.int .i64 (-1)),.v (.string ⟨#[]⟩),.v (.slice none 0 0)]
theorem Zj(hm:(3,marksC)∈G)(hw:(2,wordsC)∈G)(ht:(0,typesC)∈G)(l:List cu)(hl:l.length≤6)(aQ:∀c∈l,c.n.size≤maxLen):VP Tryz.prog G 27 [.agg (My l)] (.v (.int .i64 (fw l))):=by
 have h:=Pa.PF (G:=G) hm hw ht (ql l) (afD hl aQ);rw[aaT hl] at h;refine VC.args h rfl fun w L i h1 h2 v E=>?_;have:i=0:=(by simp only[length_cons,length_nil] at h1;omega)
 subst this;exact I4 (a:=My l) (b:=bY (ql l)) ⟨eM,eM,eM,fY,fY,eM,fY,eM,eM,eM,eM,fY,trivial⟩ w L v E
theorem Es(hm:(3,marksC)∈G)(hw:(2,wordsC)∈G)(ht:(0,typesC)∈G)(l:List cu)(hl:l.length≤6)(aQ:∀c∈l,c.n.size≤maxLen):VP Tryz.prog G 64 [.list 2 (l.flatMap cC) l.length] (.v (.int .i64 (fw l))):=by
 refine VC.body func64 rfl ntmps64 aO fun X0 w0 aZ=>?_;have dr:maxLen=9223372036854775807:=rfl;have eZ:=Zj hm hw ht l hl aQ;unfold My at eZ;refine ae [0] ?_;refine cM [2] (eZ) ?_;exact nA
def lS(i:Nat)(c:cu)(v:Vl):Int:=if dB v≠0 then dB v else if v.k≠c.k∧(i=0∨v.k≠0) then 4 else 0
def ph:Nat→List cu→List Vl→Int
 | i,c::cs,v::vs=>if lS i c v≠0 then lS i c v else ph (i+1) cs vs
 | _,_,_=>0
def dU(cs:List cu)(vs:List Vl):Int:=if fw cs≠0 then fw cs else if vs.length≠cs.length then 1 else ph 0 cs vs
theorem YZ{cs:List cu}{vs:List Vl}(h1:i<cs.length)(h2:i<vs.length)(h:lS i cs[i] vs[i]=0):ph i (cs.drop i) (vs.drop i)=ph (i+1) (cs.drop (i+1)) (vs.drop (i+1)):=by
 rw[drop_eq_getElem_cons h1,drop_eq_getElem_cons h2];exact if_neg (by simp[h])
theorem O5{cs:List cu}{vs:List Vl}(h1:i<cs.length)(h2:i<vs.length)(h:lS i cs[i] vs[i]≠0):ph i (cs.drop i) (vs.drop i)=lS i cs[i] vs[i]:=by
 rw[drop_eq_getElem_cons h1,drop_eq_getElem_cons h2];exact if_pos h
theorem aaU{cs:List cu}{vs:List Vl}(h:¬i<vs.length):ph i (cs.drop i) (vs.drop i)=0:=by
 rw[drop_of_length_le (l:=vs) w4];cases cs.drop i<;>rfl
theorem Jd(hm:(3,marksC)∈G)(hw:(2,wordsC)∈G)(ht:(0,typesC)∈G)(l:List cu)(hl:l.length≤6)(aQ:∀c∈l,c.n.size≤maxLen)(vs:List Vl)(qX:vs.length≤maxLen):VP Tryz.prog G 65 [.list 2 (l.flatMap cC) l.length,.list 3 (vs.flatMap cV) vs.length] (.v (.int .i64 (dU l vs))):=by
 refine VC.body func65 rfl ntmps65 aO fun X0 w0 aZ=>?_;have dr:maxLen=9223372036854775807:=rfl;refine ae [0,1] ?_;refine cM [0,1,5] (Es hm hw ht l hl aQ) ?_;refine ae [0,1,5,12] ?_;refine aq (fun az aG=>?_) (fun az aG=>?_)
 ·have hne:fw l≠0:=(by simpa using az)
  have aS:dU l vs=fw l:=if_pos hne;refine ae [4] ?_;exact oC
 have h0:¬fw l≠0:=(by simpa using az)
 refine ae [0,1,18] ?_;refine aq (fun aH aT=>?_) (fun aH aT=>?_)
 ·have aS:dU l vs=1:=(by unfold dU;rw[if_neg h0,if_pos w4])
  refine ae [4] ?_;exact oC
 have Z:vs.length=l.length:=(by omega)
 have E:dU l vs=ph 0 (l.drop 0) (vs.drop 0):=(by unfold dU;rw[if_neg h0,if_neg (by simp[Z])];rfl)
 refine ae [0,19,20,21] ?_;refine eH [0,19,20] (fun aW _ (i:Nat) aK=>(i≤vs.length)∧(dU l vs=ph i (l.drop i) (vs.drop i))∧aK=(⟨49,(21,.v (.int .i64 (i:Nat)))::aW,[]⟩:St)) (fun (i:Nat)=>vs.length-i) 0 ⟨(Nat.zero_le _),E,rfl⟩ ?_;rintro i _ ⟨hi,hinv,rfl⟩;refine ae [0,19,20,21,22] ?_;refine aq (fun aX bw=>?_) (fun aX bw=>?_)
 ·have aa:i<vs.length:=(by omega)
  have J5:i<l.length:=(by omega)
  refine aC 3 ?_;refine OD.alloc (ds:=[_,_,_]) an rfl rfl zeroValue30 rfl (fun b7=>?_);refine aD 1 ?_;refine aN 0 [_,_,_] sizeOf30 ?_;refine aj 49 [0,6,7,19,20,21] ?_;refine cM [0,6,7,8,19,20,21] (Vl.oQ vs[i]) ?_;refine ae [0,6,7,8,19,20,21,29] ?_;refine aq (fun bC bW=>?_) (fun bC bW=>?_)
  ·have hne:dB vs[i]≠0:=(by simpa using bC)
   have hf:lS i l[i] vs[i]=dB vs[i]:=if_pos hne;have aS:dU l vs=dB vs[i]:=(by rw[hinv,O5 J5 aa (by rw[hf];exact hne),hf])
   refine ae [4] ?_;exact oC
  have hz:¬dB vs[i]≠0:=(by simpa using bC)
  refine CD.skip ?_;refine CD.seq ?_;refine lX 7 [0,6,7,19,20,21,32,37] ?_;refine bG ?_;refine aD 2 ?_;refine bS 39 (fun U I=>?_) (fun U I=>?_)
  ·refine aD 3 ?_;refine bS 42 (fun qH O=>?_) (fun qH O=>?_)
   ·refine aY [0,19,20,21,47] ?_;refine ez ?_;exact VB
   refine aY [0,19,20,21,47] ?_;refine aq (fun cx c9=>?_) (fun cx c9=>?_)
   ·exact VB
   exact z72
  refine aY [0,19,20,21,47] ?_;refine fG ?_;exact z72
 have aS:dU l vs=0:=(by rw[hinv];exact aaU w4)
 refine ae [4] ?_;exact tN

end Go.Proofs.YtbcmjoaggammcaaGreatDoor.Pc

namespace Go.Proofs.YtbcmjoaggammcaaGreatDoor.Nm
open List
open Go.Proofs.Tryz
open Go.RowKit V Pk Vl
inductive Tw where
 | mk (k n:Int) (s:ByteArray) (ts:List Tw)
mutual
def Tw.cs:Tw→List D
 | .mk k n s ts=>[.v (.int .i64 k),.v (.int .i64 n),.v (.string s),.list 4 (Tw.l8 ts) ts.length]
def Tw.l8:List Tw→List D
 | []=>[]
 | t::r=>t.cs++Tw.l8 r
end
theorem Tw.Je:∀ts:List Tw,Tw.l8 ts=ts.flatMap Tw.cs
 | []=>rfl
 | t::r=>by rw[Tw.l8,Tw.Je r,flatMap_cons]
theorem Tw.EK(t:Tw):t.cs.length=4:=by cases t;rfl
mutual
def Tw.Ok:Tw→Prop
 | .mk k n s ts=>(-9223372036854775808≤k∧k≤9223372036854775807)∧(-9223372036854775808≤n∧n≤9223372036854775807)∧s.size≤maxLen∧ts.length≤maxLen∧Tw.Gq ts
def Tw.Gq:List Tw→Prop
 | []=>True
 | t::r=>t.Ok∧Tw.Gq r
end
theorem Tw.Rb:∀{ts:List Tw},Tw.Gq ts→∀t∈ts,t.Ok
 | [],_,t,h=>by cases h
 | a::r,⟨h1,h2⟩,t,h=>by
  rcases mem_cons.1 h with rfl|h
  ·exact h1
  exact Tw.Rb h2 t h
theorem Tw.Re:∀{ts:List Tw},(∀t∈ts,t.Ok)→Tw.Gq ts
 | [],_=>trivial
 | a::r,h=>⟨h a mem_cons_self,Tw.Re fun t ht=>h t (mem_cons_of_mem _ ht)⟩

def rK(j:Int):ByteArray:=if j=0 then ⟨#[105,100]⟩ else if j=1 then ⟨#[110]⟩ else if j=2 then ⟨#[115]⟩ else ⟨#[98]⟩
def tr(n:Int)(s:ByteArray):Vl:={oT ⟨n,dW n 40-20,s⟩ with s:=nq (oT ⟨n,dW n 40-20,s⟩).s 4}
def rJ(n:Int)(s:ByteArray):aV:=⟨1,tr n s,⟨#[]⟩⟩
def vX(n:Int):aV:=⟨2,bP,rK (dW n 4)⟩
def qx(k:Int):aV:=⟨k,bP,⟨#[]⟩⟩
def mc(k n:Int)(s:ByteArray):List aV:=if 1+dW k 11=2 then [vX n] else [rJ n s]
def gX:Nat→Tw→List aV
 | 0,.mk k n s _=>mc k n s
 | r+1,.mk k n s ts =>
  if 1+dW k 11=1 then [rJ n s]
  else if 1+dW k 11=2 then [vX n]
  else if 1+dW k 11=5∨1+dW k 11=11 then (match ts[0]? with|some t=>gX r t|none=>mc n 0 s)++[qx (1+dW k 11)]
  else ((match ts[0]? with|some t=>gX r t|none=>mc n 0 s)++(match ts[1]? with|some t=>gX r t|none=>mc n 1 s))++[qx (1+dW k 11)]
def gm(r:Nat)(ts:List Tw)(n:Int)(s:ByteArray)(i:Nat):List aV:=match ts[i]? with|some t=>gX r t|none=>mc n i s
theorem x6(k n:Int)(s:ByteArray):(mc k n s).length=1:=by unfold mc;split<;>rfl
theorem IB:∀(r:Nat) (t:Tw),1≤(gX r t).length∧(gX r t).length+1≤2 ^ (r+1)
 | 0,.mk k n s ts=>by rw[gX,x6];exact⟨by decide,by decide⟩
 | r+1,.mk k n s ts=>by
  have E:∀i:Nat,1≤(gm r ts n s i).length∧(gm r ts n s i).length+1≤2 ^ (r+1):=fun i=>by
   unfold gm;split
   ·exact IB r _
   rw[x6];exact⟨by decide,by rw[Nat.pow_succ];have:=Nat.one_le_two_pow (n:=r);omega⟩
  have h0:=E 0;have h1:=E 1;unfold gm at h0 h1;have hp:2 ^ (r+1+1)=2 ^ (r+1)+2 ^ (r+1):=(by rw[Nat.pow_succ];omega)
  rw[gX];simp only[Int.natCast_zero,Int.natCast_one] at h0 h1;split
  ·exact⟨by simp,by simp;omega⟩
  split
  ·exact⟨by simp,by simp;omega⟩
  split<;>simp only[length_append,length_cons,length_nil]<;>omega
theorem Rf(r:Nat)(ts:List Tw)(n:Int)(s:ByteArray)(i:Nat):1≤(gm r ts n s i).length∧(gm r ts n s i).length+1≤2 ^ (r+1):=by
 unfold gm;split
 ·exact IB r _
 rw[x6];exact⟨by decide,by rw[Nat.pow_succ];have:=Nat.one_le_two_pow (n:=r);omega⟩
theorem NJ(r:Vl):(oT r).s.size≤10:=by
 unfold oT bP;split
 ·exact Nat.zero_le _
 split
 ·exact Nat.zero_le _
 split
 ·show(nq r.s 10).size≤10;rw[Hh];omega
 decide
theorem Rg{j:Nat}(h:j<4):[D.v (.string ⟨#[105,100]⟩),D.v (.string ⟨#[110]⟩),D.v (.string ⟨#[115]⟩),D.v (.string ⟨#[98]⟩)][j*1]?=some (.v (.string (rK (j:Int)))):=by
 match j,h with
 | 0,_|1,_|2,_|3,_=>rfl
variable {G:List (Nat×List Value)}
abbrev wJ(ls:List aV)(r:D)(S:List ag):Prop:=ga cO 61 5 ls r S

theorem Rh(k n d:Int)(s:ByteArray)(d4:D)(h4:kr d4=true)(dH:-9223372036854775808≤k)(fk:k≤9223372036854775807)(gb:-9223372036854775808≤n)(iJ:n≤9223372036854775807)(hs:s.size≤maxLen)(hd:2<d):VC Tryz.prog G 67 [.agg [.v (.int .i64 k),.v (.int .i64 n),.v (.string s),d4],.v (.int .i64 d)] [] (wJ (mc k n s)):=by
 refine VC.body func67 rfl ntmps67 aO fun X0 w0 aZ=>?_;have hpk:=jW k (by decide:(1:Int)≤11);have hpn:=jW n (by decide:(1:Int)≤40);have U:=jW n (by decide:(1:Int)≤4);obtain⟨j,hj⟩:=Int.eq_ofNat_of_zero_le U.1;have Z:j<4:=(by omega)
 have I:=kM G n 4 gb iJ w7;rw[hj] at I;have fI:(⟨n,dW n 40-20,s⟩:Vl).Ok:=⟨gb,iJ,by show _≤dW n 40-20;omega,by show dW n 40-20≤_;omega,hs⟩
 have V2:=NJ ⟨n,dW n 40-20,s⟩;have hml:100≤maxLen:=(by decide)
 obtain⟨kk,kV⟩:∃kk:Int,1+dW k 11=kk:=⟨_,rfl⟩
 refine cj ?_;refine OD.box (ds:=[_,_,_,_]) an rfl rfl ot rfl rfl (fun b2=>?_);refine OD.box (ds:=[_]) an rfl rfl ot rfl rfl (fun b3=>?_);refine aj 69 [2,3] ?_;refine cL [2,3,5] ?_;refine cU (kM G k 11 dH fk w7) ?_;refine aP 0 ?_ (h:=by exact(cX (r:=.int .i64 kk) rfl bH ot (jZ (by rw[kV];exact wrap_i64 w4 w4))));refine bG ?_;refine aC 3 ?_;refine bS 14 (fun E O=>?_) (fun E O=>?_)
 ·refine aY [2,3,5,17] ?_;refine aq (fun az aG=>?_) (fun az aG=>?_)
  ·refine cg [2,3,5] ?_;refine cL [2,5,6] ?_;refine aP 0 ?_ (h:=by exact(oP (ds:=[_,_]) rfl ⟨ot,ot,trivial⟩));refine bG ?_;refine ae [2,5,6,19] ?_;refine ae [2,5,6,19,20] ?_;refine ez ?_;exact T7
  refine cL [2,5,6] ?_;refine aP 0 ?_ (h:=by exact(oP (ds:=[_,_]) rfl ⟨ot,ot,trivial⟩));refine bG ?_;refine ae [2,5,6,19] ?_;refine ae [2,5,6,19,20] ?_;refine aq (fun aH aT=>?_) (fun aH aT=>?_)
  ·exact T7
  refine ae [2,5,6,19,40] ?_;refine aq (fun aX bw=>?_) (fun aX bw=>?_)
  ·refine aC 1 ?_;refine ei (cc 0 [_,_,_,_]) [.string ⟨#[]⟩,.string ⟨#[]⟩,.string ⟨#[]⟩,.string ⟨#[]⟩] [_,_,_,_] zeroValue9 runUnderlying39 sizeOf9 (fun WG=>?_);refine fH 0 43 1 4 ?_;refine aD 2 ?_;refine dS call11 (I) ?_;refine aD 1 ?_;refine bQ (cH (mk:=Op.load 9) rfl ot (Bv isAgg9 (Rg Z))) ?_;refine aD 1 ?_;refine ei (cc 0 [_]) [.int .i64 0,.int .i64 0,.int .i64 0,.string ⟨#[]⟩,.string ⟨#[]⟩] [_,_,_,_,_] zeroValue61 runUnderlying40 sizeOf61 (fun CG=>?_);exact z28
  exact absurd aX (by simp at az aH aX;omega)
 exact absurd E (by simp at E;omega)

end Go.Proofs.YtbcmjoaggammcaaGreatDoor.Nm

namespace Go.Proofs.YtbcmjoaggammcaaGreatDoor.Nm
open List
open Go.Proofs.Tryz
open Go.RowKit V Pk Vl
variable {G:List (Nat×List Value)}
variable {ts:List Tw} {h:Int}
theorem PG{r:Nat}{n:Int}{s:ByteArray}{i:Nat}(hi:i<ts.length):gX r ts[i]=gm r ts n s i:=by unfold gm;rw[getElem?_eq_getElem hi]
theorem PI{r:Nat}{n:Int}{s:ByteArray}{i:Nat}(hi:ts.length≤i):mc n i s=gm r ts n s i:=by unfold gm;rw[getElem?_eq_none hi]
theorem vF(r:Nat)(k n:Int)(s:ByteArray)(ts:List Tw):gX (r+1) (.mk k n s ts)=if 1+dW k 11=1 then [rJ n s] else if 1+dW k 11=2 then [vX n]
  else if 1+dW k 11=5∨1+dW k 11=11 then gm r ts n s 0++[qx (1+dW k 11)] else (gm r ts n s 0++gm r ts n s 1)++[qx (1+dW k 11)]:=rfl
theorem Jv(r:Nat)(k n d:Int)(s:ByteArray)(ts:List Tw)(i b2 b3:Nat)(IH:∀t∈ts,VC Tryz.prog G 67 [.agg t.cs,.v (.int .i64 (d+1))] [] (wJ (gX r t)))(gb:-9223372036854775808≤n)(iJ:n≤9223372036854775807)(hs:s.size≤maxLen)(hd1:0≤d)(hd:d≤2)(hi:i≤1):VC Tryz.prog G 104 [.v (.int .i64 (i:Int)),.v (.pointer (some ⟨b2,0,none⟩)),.v (.pointer (some ⟨b3,0,none⟩))] [⟨b3,3,1,[.v (.int .i64 d)]⟩,⟨b2,76,4,[.v (.int .i64 k),.v (.int .i64 n),.v (.string s),.list 4 (ts.flatMap Tw.cs) ts.length]⟩] (fun x S=>∃S1,wJ (gm r ts n s i) x S1∧S=S1++[⟨b3,3,1,[.v (.int .i64 d)]⟩,⟨b2,76,4,[.v (.int .i64 k),.v (.int .i64 n),.v (.string s),.list 4 (ts.flatMap Tw.cs) ts.length]⟩]):=by
 refine VC.body func104 rfl ntmps104 aO fun X0 w0 aZ=>?_;refine aC 1 ?_;refine OD.wk (Wk.dL (n:=25) (l':=[(0,_),(1,_),(2,_)]) (S':=_) rfl rfl ff) ?_;refine OD.nil ?_;refine aC 5 ?_;refine OD.wk (Wk.dL (n:=25) (l':=[(0,_),(1,_),(2,_),(9,_)]) (S':=_) rfl rfl ff) ?_;refine OD.nil ?_;refine aq (fun az aG=>?_) (fun az aG=>?_)
 ·have aa:i<ts.length:=(by omega)
  refine CD.seq ?_;refine CD.draw (ap _) ay (fun _ h=>h) ?_;refine ax 0 rfl (cY 3) ?_;refine ax 1 rfl (dw 1) ?_;refine ax 2 rfl bg ?_;refine ax 3 rfl (dx 4) ?_;refine ax 4 rfl (cH (mk:=Op.load 76) rfl ot (by first|exact pP (k:=0) (ds:=[_,_,_,_]) rfl rfl isAgg76 sizeOf76 rfl rfl|exact pP (k:=1) (ds:=[_,_,_,_]) rfl rfl isAgg76 sizeOf76 rfl rfl|exact jM Tw.EK isAgg76 sizeOf76 w5|exact dI (k:=0) Tw.EK rfl rfl rfl isAgg76 sizeOf76 w5|exact dI (k:=1) Tw.EK rfl rfl rfl isAgg76 sizeOf76 w5|exact pU (ds:=[_,_,_,_]) isAgg76 sizeOf76 rfl rfl)) ?_;refine ax 5 rfl (dw 0) ?_;refine ax 6 rfl mE ?_;refine dh.later rfl ?_;refine AD.one (i:=7) ay ?_;refine bf.call rfl an rfl rfl rfl call67 (IH _ (getElem_mem aa)) ⟨ot,ot,trivial⟩ (eK _) (fun _ h=>h) ?_;rintro _ O ⟨U,Z,rfl,E⟩;refine cq 8 rfl bg ?_;refine AD.wk (y:=⟨25,[(4,_)],((O++[_,_]))⟩) (Wk.dL rfl rfl ff) rfl ?_;refine AD.done ay ?_;refine aJ _ ?_;first|exact⟨_,ga.cast (ga.mk E) (PG aa),rfl⟩|exact⟨_,ga.cast (ga.mk I) (PI w4),rfl⟩
 refine aC 6 ?_;refine OD.call an rfl rfl rfl call67 (Rh n (i:Int) 9 s (.v (.slice none 0 0)) rfl gb iJ w4 w4 hs w7) ⟨ot,bH,trivial⟩ (eK _) ?_;rintro _ S24 ⟨anU,anV,rfl,I⟩;refine aD 1 ?_;refine OD.wk (Wk.dL (n:=25) (l':=[(4,_)]) (S':=_) rfl rfl ff) ?_;refine OD.nil ?_;refine aJ _ ?_;first|exact⟨_,ga.cast (ga.mk E) (PG aa),rfl⟩|exact⟨_,ga.cast (ga.mk I) (PI w4),rfl⟩
theorem GW:(Tryz.prog.info? 61).map (fun i=>(i.zero,i.size,i.bytes))=some (some (.agg #[.int .i64 0,.int .i64 0,.int .i64 0,.string ⟨#[]⟩,.string ⟨#[]⟩]),5,56):=by kernel_rfl
theorem acF(r:Nat)(hr:r≤2)(k n d:Int)(s:ByteArray)(ts:List Tw)(IH:∀t∈ts,VC Tryz.prog G 67 [.agg t.cs,.v (.int .i64 (d+1))] [] (wJ (gX r t)))(dH:-9223372036854775808≤k)(fk:k≤9223372036854775807)(gb:-9223372036854775808≤n)(iJ:n≤9223372036854775807)(hs:s.size≤maxLen)(hd1:0≤d)(hd:d≤2):VC Tryz.prog G 67 [.agg [.v (.int .i64 k),.v (.int .i64 n),.v (.string s),.list 4 (ts.flatMap Tw.cs) ts.length],.v (.int .i64 d)] [] (wJ (gX (r+1) (.mk k n s ts))):=by
 refine VC.body func67 rfl ntmps67 aO fun X0 w0 aZ=>?_;have hpk:=jW k (by decide:(1:Int)≤11);have hpn:=jW n (by decide:(1:Int)≤40);have hpc:=jW n (by decide:(1:Int)≤4);obtain⟨j,hj⟩:=Int.eq_ofNat_of_zero_le hpc.1;have hj4:j<4:=(by omega)
 have I:=kM G n 4 gb iJ w7;rw[hj] at I;have fI:(⟨n,dW n 40-20,s⟩:Vl).Ok:=⟨gb,iJ,by show _≤dW n 40-20;omega,by show dW n 40-20≤_;omega,hs⟩
 have V2:=NJ ⟨n,dW n 40-20,s⟩;have hml:100≤maxLen:=(by decide)
 obtain⟨kk,kV⟩:∃kk:Int,1+dW k 11=kk:=⟨_,rfl⟩
 have mC:=Rf r ts n s 0;have jO:=Rf r ts n s 1;have h2p:2 ^ (r+1)≤8:=Nat.pow_le_pow_right w7 (show r+1≤3 by omega);refine cj ?_;refine OD.box (ds:=[_,_,_,_]) an rfl rfl ot rfl rfl (fun b2=>?_);refine OD.box (ds:=[_]) an rfl rfl ot rfl rfl (fun b3=>?_);refine aj 69 [2,3] ?_;refine cL [2,3,5] ?_;refine cU (kM G k 11 dH fk w7) ?_;refine aP 0 ?_ (h:=by exact(cX (r:=.int .i64 kk) rfl bH ot (jZ (by rw[kV];exact wrap_i64 w4 w4))));refine bG ?_;refine aC 3 ?_;refine bS 14 (fun E Z=>?_) (fun E Z=>?_)
 ·exact absurd E (by simp at E;omega)
 refine aY [2,3,5,17] ?_;refine fG ?_;refine cL [2,5,6] ?_;refine aP 0 ?_ (h:=by exact(oP (ds:=[_,_]) rfl ⟨ot,ot,trivial⟩));refine bG ?_;refine ae [2,5,6,19] ?_;refine ae [2,5,6,19,20] ?_;refine aq (fun aH aT=>?_) (fun aH aT=>?_)
 ·refine CD.seq ?_;refine tO 11 10 [5,7,31] ?_;refine cU (kM G n 40 gb iJ w7) ?_;refine cU (O6 ⟨n,dW n 40-20,s⟩ fI) ?_;refine qW ?_;refine jQ ?_;refine⟨rfl,fun b7=>?_⟩;refine aN 0 [_,_,_] sizeOf30 ?_;refine aj 69 [5,7] ?_;refine aC 2 ?_;refine dS call22 (EG (oT ⟨n,dW n 40-20,s⟩).s 4 w4) ?_;refine aD 1 ?_;refine aN 0 [_,_,_] sizeOf9 ?_;refine aj 69 [5,7] ?_;refine aC 3 ?_;refine ei (cc 0 [_]) [.int .i64 0,.int .i64 0,.int .i64 0,.string ⟨#[]⟩,.string ⟨#[]⟩] [_,_,_,_,_] zeroValue61 runUnderlying40 sizeOf61 (fun B9=>?_);exact Vs
 refine ae [2,5,6,19,40] ?_;refine aq (fun aX bw=>?_) (fun aX bw=>?_)
 ·refine aC 1 ?_;refine ei (cc 0 [_,_,_,_]) [.string ⟨#[]⟩,.string ⟨#[]⟩,.string ⟨#[]⟩,.string ⟨#[]⟩] [_,_,_,_] zeroValue9 runUnderlying39 sizeOf9 (fun WG=>?_);refine fH 0 43 1 4 ?_;refine aD 2 ?_;refine dS call11 (I) ?_;refine aD 1 ?_;refine bQ (cH (mk:=Op.load 9) rfl ot (Bv isAgg9 (Rg hj4))) ?_;refine aD 1 ?_;refine ei (cc 0 [_]) [.int .i64 0,.int .i64 0,.int .i64 0,.string ⟨#[]⟩,.string ⟨#[]⟩] [_,_,_,_,_] zeroValue61 runUnderlying40 sizeOf61 (fun CG=>?_);exact Vs
 refine ae [5,6,19,51] ?_;refine aq (fun bC bW=>?_) (fun bC bW=>?_)
 ·refine ez ?_;exact Vg
 refine cg [5,6,51] ?_;refine aq (fun cx c9=>?_) (fun cx c9=>?_)
 ·exact Vg
 refine aC 1 ?_;refine OD.j4 (f:=104) (args:=[_]) (all:=[_,_,_]) (Sf:=[_,_]) (R:=[]) an rfl rfl ot call104 (Jv r k n d s ts 0 b2 b3 IH gb iJ hs hd1 hd w7) rfl ⟨bH,trivial⟩ (Perm.refl _) ?_;rintro _ _ ⟨WH,⟨anW,anX,rfl,ahS⟩,rfl⟩;refine OD.perm (O3 (A:=[_,_])) ?_;refine aD 1 ?_;refine OD.j4 (f:=104) (args:=[_]) (all:=[_,_,_]) (Sf:=[_,_]) (R:=WH) an rfl rfl ot call104 (Jv r k n d s ts 1 b2 b3 IH gb iJ hs hd1 hd w7) rfl ⟨bH,trivial⟩ (Perm.refl _) ?_;rintro _ _ ⟨Cy,⟨Ur,wH,rfl,BB⟩,rfl⟩;refine OD.perm (aaB (A:=[_,_])) ?_;refine OD.gW (t:=63) (Sq:=Cy) lk BB (cr mL _) (xZ (A:=[_,_])) ?_;refine OD.ee (ls:=(gm r ts n s 0)) (new:=(gm r ts n s 1)) (Sq:=WH) mL I6 an rfl rfl underlying40 GW rfl w7 ot ahS (dA (A:=[_,_])) ot w4 zo zo (fun CH O ahT ahU=>?_);refine OD.perm (dV (S1:=[⟨CH,61,O*5,flatMap cO ((gm r ts n s 0)++(gm r ts n s 1))⟩]) (A:=[_,_])) ?_;refine aD 2 ?_;refine ei (cc 0 [_]) [.int .i64 0,.int .i64 0,.int .i64 0,.string ⟨#[]⟩,.string ⟨#[]⟩] [_,_,_,_,_] zeroValue61 runUnderlying40 sizeOf61 (fun qd=>?_);refine fH 0 67 5 1 ?_
 refine OD.ee (ls:=((gm r ts n s 0)++(gm r ts n s 1))) (new:=[(⟨kk,bP,⟨#[]⟩⟩:aV)]) (Sq:=[⟨CH,61,O*5,flatMap cO ((gm r ts n s 0)++(gm r ts n s 1))⟩]) mL I6 an rfl rfl underlying40 GW rfl w7 ot (bI ahT ahU) (dA (A:=[_,_])) ot bu zo zo (fun WI U ahV ahW=>?_);refine OD.perm (dV (S1:=[⟨WI,61,U*5,flatMap cO (((gm r ts n s 0)++(gm r ts n s 1))++[(⟨kk,bP,⟨#[]⟩⟩:aV)])⟩]) (A:=[_,_])) ?_;refine aj 69 [4] ?_;refine aJ [⟨WI,61,U*5,flatMap cO (((gm r ts n s 0)++(gm r ts n s 1))++[(⟨kk,bP,⟨#[]⟩⟩:aV)])⟩] ?_;exact ga.cast (ga.mk (bI ahV ahW)) (by rw[vF,kV,if_neg w4,if_neg w4,if_neg w4];rfl)
theorem SJ:∀(r:Nat),r≤3→∀(t:Tw),t.Ok→VC Tryz.prog G 67 [.agg t.cs,.v (.int .i64 (3-(r:Int)))] [] (wJ (gX r t))
 | 0,_,.mk k n s ts,h=>Rh k n 3 s (.list 4 (Tw.l8 ts) ts.length) rfl h.1.1 h.1.2 h.2.1.1 h.2.1.2 h.2.2.1 w7
 | r+1,hr,.mk k n s ts,h=>by
  have:=acF (G:=G) r w4 k n (3-((r+1:Nat):Int)) s ts (fun t ht=>by
   have h1:=SJ r w4 t (Tw.Rb h.2.2.2.2 t ht);rw[show(3-((r+1:Nat):Int)+1)=3-(r:Int) by omega];exact h1) h.1.1 h.1.2 h.2.1.1 h.2.1.2 h.2.2.1 w4 w4
  rw[←Tw.Je] at this;exact this
theorem ael(t:Tw)(h:t.Ok):VC Tryz.prog G 43 [.agg t.cs] [] (wJ (gX 3 t)):=by
 refine VC.body func43 rfl ntmps43 aO fun X0 w0 aZ=>?_;obtain⟨k,n,s,ts⟩:=t;have E:=SJ (G:=G) 3 (Nat.le_refl _) (.mk k n s ts) h;unfold Tw.cs at E ⊢;refine cj ?_;refine OD.box (ds:=[_,_,_,_]) an rfl rfl ot rfl rfl (fun b1=>?_);refine aj 5 [1] ?_;refine aC 1 ?_;refine OD.call an rfl rfl rfl call67 (E) ⟨ot,bH,trivial⟩ (eK _) ?_;rintro _ O ⟨U,Z,rfl,I⟩;refine OD.perm dV ?_;refine aj 5 [2] ?_;refine aJ O ?_;exact ga.mk I
theorem SK(t:Tw)(h:t.Ok):VP Tryz.prog G 43 [.agg t.cs] (.list 5 ((gX 3 t).flatMap cO) (gX 3 t).length):=(ael t h).given mL

def runs:Int→List aV→Option Int
 | h,[]=>some h
 | h,o::r=>if eX h o=0 then runs (h+(1-bN o.k)) r else none
theorem xQ:∀(a b:List aV) (h:Int),runs h (a++b)=(runs h a).bind fun h'=>runs h' b
 | [],b,h=>rfl
 | o::r,b,h=>by
  rw[cons_append,runs,runs];split
  ·exact xQ r b _
  rfl
theorem NK:∀{a:List aV} {h h':Int} (b:List aV),runs h a=some h'→fy h (a++b)=fy h' b
 | [],h,h',b,e=>by cases e;rfl
 | o::r,h,h',b,e=>by
  rw[runs] at e;split at e
  ·rename_i h0;rw[cons_append,fy,if_pos h0];exact NK b e
  cases e
theorem acG:((⟨#[]⟩:ByteArray).toList==(⟨#[]⟩:ByteArray).toList)=true:=by simp
theorem Og:zeroV bP=true:=by unfold zeroV bP;simp
theorem PJ:iG bP=0:=by decide
theorem aaV(n:Int)(s:ByteArray):iG (tr n s)=0:=by
 have h1:=jW n (by decide:(1:Int)≤40);have h2:=jW (dW n 40-20) (by decide:(1:Int)≤2);have hc:(nq (nq s 10) 4).size≤4:=(by rw[Hh];omega)
 have he:nq (⟨#[]⟩:ByteArray) 4=ByteArray.empty:=Ir (by rw[N8];rfl);unfold iG tr oT;split
 ·simp[dB,he];omega
 split
 ·simp[dB,he];omega
 split
 ·simp[dB];omega
 unfold bP;simp[dB,he]
theorem Ri(h0:0≤h)(n:Int)(s:ByteArray):eX h (rJ n s)=0:=by
 unfold eX rJ;rw[aaV];simp[bN];omega
theorem aaW(j:Int):cJ (rK j)=0:=by
 unfold rK;split
 ·exact sJ (l:=[105,100]) w7 w7 w7
 split
 ·exact sJ (l:=[110]) w7 w7 w7
 split
 ·exact sJ (l:=[115]) w7 w7 w7
 exact sJ (l:=[98]) w7 w7 w7
theorem Rj(h0:0≤h)(n:Int):eX h (vX n)=0:=by
 unfold eX vX;rw[PJ,Og,aaW];simp[bN];omega
theorem PM{k:Int}(h1:3≤k)(h2:k≤11)(E:bN k≤h):eX h (qx k)=0:=by
 unfold eX qx;simp only[PJ,Og,acG];rw[if_neg w4,if_neg bu,if_neg bu,if_neg w4,if_neg w4]
theorem Oh(h0:0≤h)(k n:Int)(s:ByteArray):runs h (mc k n s)=some (h+1):=by
 unfold mc;split
 ·rw[runs,if_pos (Rj h0 n),runs];rfl
 rw[runs,if_pos (Ri h0 n s),runs];rfl
theorem PN:∀(r:Nat) (t:Tw) (h:Int),0≤h→runs h (gX r t)=some (h+1)
 | 0,.mk k n s ts,h,h0=>Oh h0 k n s
 | r+1,.mk k n s ts,h,h0=>by
  have E:∀(i:Nat) (h:Int),0≤h→runs h (gm r ts n s i)=some (h+1):=fun i h h0=>by
   unfold gm;split
   ·exact PN r _ h h0
   exact Oh h0 _ _ _
  have hk:=jW k (by decide:(1:Int)≤11);rw[vF];split
  ·rw[runs,if_pos (Ri h0 n s),runs];rfl
  split
  ·rw[runs,if_pos (Rj h0 n),runs];rfl
  split
  ·rename_i h3;rw[xQ,E 0 h h0,Option.bind_some,runs,if_pos (PM w4 w4 (by unfold bN;rw[if_neg w4,if_pos h3];omega)),runs];unfold qx bN;rw[if_neg (by simp only[];omega),if_pos h3];simp
  rename_i h3;rw[xQ,xQ,E 0 h h0,Option.bind_some,E 1 (h+1) w4,Option.bind_some,runs,if_pos (PM w4 w4 (by unfold bN;rw[if_neg w4,if_neg h3];omega)),runs];unfold qx bN;rw[if_neg (by simp only[];omega),if_neg h3];congr 1;omega
theorem Oi(t:Tw):1≤(gX 3 t).length∧(gX 3 t).length≤15:=by
 have:=IB 3 t;omega
theorem Oj(t:Tw):iF (gX 3 t)=0:=by
 unfold iF;rw[if_neg (by have:=Oi t;omega)];have:=NK [] (PN 3 t 0 (Int.le_refl _));rw[append_nil] at this;rw[this];rfl
theorem aaX(t:Tw):∀o∈gX 3 t,o.nm.size≤2:=by
 have hn:∀j:Int,(rK j).size≤2:=fun j=>by
  unfold rK;split
  ·decide
  split
  ·decide
  split<;>decide
 have E:∀k n s,∀o∈mc k n s,o.nm.size≤2:=fun k n s o ho=>by
  unfold mc at ho;split at ho<;>(simp only[mem_singleton] at ho;subst ho)
  ·exact hn _
  exact Nat.zero_le _
 have key:∀(r:Nat) (t:Tw),∀o∈gX r t,o.nm.size≤2:=by
  intro r;induction r with
  | zero=>intro t;obtain⟨k,n,s,ts⟩:=t;exact E k n s
  | succ r ih =>
   intro t o ho;obtain⟨k,n,s,ts⟩:=t;have I:∀i:Nat,∀o∈gm r ts n s i,o.nm.size≤2:=fun i o ho=>by
    unfold gm at ho;split at ho
    ·exact ih _ o ho
    exact E _ _ _ o ho
   have hb:∀k,(qx k).nm.size≤2:=fun k=>Nat.zero_le _;rw[vF] at ho;split at ho
   ·simp only[mem_singleton] at ho;subst ho;exact Nat.zero_le _
   split at ho
   ·simp only[mem_singleton] at ho;subst ho;exact hn _
   split at ho
   ·rcases mem_append.1 ho with ho|ho
    ·exact I 0 o ho
    simp only[mem_singleton] at ho;subst ho;exact hb _
   rcases mem_append.1 ho with ho|ho
   ·rcases mem_append.1 ho with ho|ho
    ·exact I 0 o ho
    exact I 1 o ho
   simp only[mem_singleton] at ho;subst ho;exact hb _
 exact key 3 t
theorem aaY{l:List aV}(h:∀o∈l,o.nm.size≤2):∀o∈l,o.nm.size≤maxLen:=fun o ho=>Nat.le_trans (h o ho) w7
theorem PO{H:Type}{enc:TypeId×Value→H}{w:World}{base:Nat}{sp:Nat→Bool}{held:Bool}:∀n,lU n enc Tryz.prog w base sp held 76 Tw.cs Tw.Ok:=by
 intro n;induction n using Nat.strongRecOn with
 | _ n ih =>
  intro cs x h;obtain⟨⟨k,m,s,ts⟩,h1,h2,h3,h4,h5⟩:=Yi (fuel:=n) (n0:=1) (n1:=1) (n2:=1) (n3:=1) underlying76 ay rfl rfl rfl rfl ay ay ay ay
   (fun q _=>(uC underlying3).at q) (fun q _=>(uC underlying3).at q) (fun q _=>(N2 underlying9).at q) (fun q hq=>N6 (sz:=4) underlying74 ay w7 (fun z hz=>ih z w4) Tw.EK) cs x h
  refine⟨.mk k m s ts,?_,h2,h3,h4,h5.2,Tw.Re h5.1⟩;unfold Tw.cs;rw[Tw.Je];exact h1

end Go.Proofs.YtbcmjoaggammcaaGreatDoor.Nm
namespace Go.Proofs.YtbcmjoaggammcaaGreatDoor.Ex
open List
open Go.Proofs.Tryz
open Go.RowKit V Pk Vl Go.Proofs.YtbcmjoaggammcaaGreatDoor.Nm Pc
variable {α:Type} {l:List aV} {i:Nat} {h:Int}
theorem ym(p:α→Bool)(ls:List α):-1≤dM p ls∧dM p ls<ls.length:=by
 unfold dM;cases h:ls.findIdx? p with
 | none=>simp;omega
 | some i=>have:=(findIdx?_eq_some_iff_findIdx_eq.1 h).1;simp;omega
def bL(l:List cu)(nm:ByteArray):Int:=dM (fun c=>c.n.toList==nm.toList) l
def q9(a b:Int):Bool:=a==b||a==0
def okF(k a b:Int):Bool :=
 if k=3∨k=4 then q9 a 1&&q9 b 1 else if k=5 then q9 a 1 else if k=6∨k=7 then q9 a b||b==0 else if k=8∨k=9∨k=10 then q9 a 2&&q9 b 2 else true
def wu(k:Int):Int:=if k=8∨k=9∨k=10 then 2 else 1
def uD(l:List cu)(nm:ByteArray):Int×Int:=if bL l nm<0 then (0,8) else ((l.getD (bL l nm).toNat ⟨⟨#[]⟩,0⟩).k,0)
def iO(l:List cu)(o:aV)(a b:Int):Int×Int :=
 if o.k=1 then (o.v.k,0) else if o.k=2 then uD l o.nm else if okF o.k a b=true then (wu o.k,0) else (0,4)
def fa(z:α)(k:Int)(st:List α):α:=if 0<bN k then st.getD (st.length-(bN k).toNat) z else z
def eS(z:α)(k:Int)(st:List α):α:=if 1<bN k then st.getD (st.length-(bN k).toNat+1) z else z
def js{α:Type}(z:α)(f:aV→α→α→α × Int):List aV→List α→α × Int
 | [],st=>(st.getD 0 z,0)
 | o::r,st =>
  if (f o (fa z o.k st) (eS z o.k st)).2≠0 then (z,(f o (fa z o.k st) (eS z o.k st)).2)
  else js z f r (st.take (st.length-(bN o.k).toNat)++[(f o (fa z o.k st) (eS z o.k st)).1])
theorem QC{z:α}{f:aV→α→α→α × Int}{st:List α}(hi:i<l.length)(h:(f l[i] (fa z l[i].k st) (eS z l[i].k st)).2≠0) :
  js z f (l.drop i) st=(z,(f l[i] (fa z l[i].k st) (eS z l[i].k st)).2):=by rw[drop_eq_getElem_cons hi,js,if_pos h]
theorem Qy{z:α}{f:aV→α→α→α × Int}{st:List α}(hi:i<l.length)(h:(f l[i] (fa z l[i].k st) (eS z l[i].k st)).2=0) :
  js z f (l.drop i) st=js z f (l.drop (i+1)) (st.take (st.length-(bN l[i].k).toNat)++[(f l[i] (fa z l[i].k st) (eS z l[i].k st)).1]):=by
 rw[drop_eq_getElem_cons hi,js,if_neg (by rw[h];simp)]
theorem PP{z:α}{f:aV→α→α→α × Int}{st:List α}(hi:¬i<l.length):js z f (l.drop i) st=(st.getD 0 z,0):=by
 rw[drop_of_length_le w4];rfl
theorem Ol(hi:i<l.length)(h0:fy h (l.drop i)=0):eX h l[i]=0∧fy (h+(1-bN l[i].k)) (l.drop (i+1))=0:=by
 rw[drop_eq_getElem_cons hi,fy] at h0;by_cases he:eX h l[i]=0
 ·rw[if_pos he] at h0;exact⟨he,h0⟩
 rw[if_neg he] at h0;exact absurd h0 he
theorem PR(hi:¬i<l.length)(h0:fy h (l.drop i)=0):h=1:=by
 rw[drop_of_length_le w4,fy] at h0;split at h0
 ·assumption
 cases h0
theorem vK{o:aV}(he:eX h o=0):bN o.k≤h∧(1≤o.k∧o.k≤11)∧iG o.v=0∧(o.k=2→cJ o.nm=0):=by
 unfold eX at he;split at he
 ·cases he
 split at he
 ·rename_i h2;exact absurd he h2
 split at he
 ·cases he
 split at he
 ·rename_i h4;exact absurd he h4.2
 split at he
 ·cases he
 rename_i q1 q2 I E O;refine⟨by omega,by omega,by simpa using q2,fun hk=>?_⟩;by_cases hn:cJ o.nm=0
 ·exact hn
 exact absurd ⟨hk,hn⟩ E
def tc(l:List cu)(ops:List aV):Int×Int:=js 0 (iO l) ops []
def dZ(l:List cu)(ops:List aV):Int×Int:=if fw l≠0 then (0,fw l) else if iF ops≠0 then (0,iF ops) else tc l ops
def pi(r:Int×Int):D:=.dy [.v (.int .i64 r.1),.v (.int .i64 r.2)]
def cI(n:Int):List D:=[.v (.int .i64 n)]
theorem eu(n:Int):(cI n).length=1:=rfl
theorem ng(n:Int):(cI n).all V.one=true:=rfl
theorem vN{ops:List aV}(h:iF ops=0):ops.length≤40∧fy 0 ops=0:=by
 unfold iF at h;split at h
 ·cases h
 exact⟨by omega,h⟩
variable {G:List (Nat×List Value)}
theorem D7(k:Int):VP Tryz.prog G 157 [.v (.int .i64 k)] (.v (.int .i64 (bN k))):=by
 refine VC.body func157 rfl ntmps157 aO fun X0 w0 aZ=>?_;exact Vm
theorem Zk(c:cu)(nm:ByteArray)(b:Nat):VC Tryz.prog G 181 [.agg (cC c),.v (.pointer (some ⟨b,0,none⟩))] [⟨b,9,1,[.v (.string nm)]⟩] (fun r S=>r = .v (.bool (c.n.toList==nm.toList))∧S=[⟨b,9,1,[.v (.string nm)]⟩]):=by
 refine VC.body func181 rfl ntmps181 aO fun X0 w0 aZ=>?_;exact z138
theorem qv(l:List cu)(hl:l.length≤6)(nm:ByteArray):VP Tryz.prog G 160 [.list 2 (l.flatMap cC) l.length,.v (.string nm)] (.v (.int .i64 (bL l nm))):=by
 refine VC.body func160 rfl ntmps160 aO fun X0 w0 aZ=>?_;refine cj ?_;refine OD.box (ds:=[_]) an rfl rfl ot rfl rfl (fun b3=>?_);refine aj 8 [0,3] ?_;refine aC 1 ?_;refine bQ (oP (ds:=[_]) rfl ⟨ot,trivial⟩) ?_;refine OD.call an rfl rfl rfl call119 (HN l 181 [.v (.pointer (some ⟨b3,0,none⟩))] _ (fun c=>c.n.toList==nm.toList) call181 (fun h _=>Zk h nm b3) w4) ⟨ot,ot,trivial⟩ (jX (k:=0) rfl) ?_;rintro _ S2 ⟨rfl,ik⟩;rw[ik];clear ik;refine aj 8 [4] ?_;exact nA
theorem yD(a b:Int):VP Tryz.prog G 176 [.v (.int .i64 a),.v (.int .i64 b)] (.v (.bool (q9 a b))):=by
 refine VC.body func176 rfl ntmps176 aO fun X0 w0 aZ=>?_;refine ae [0,1] ?_;refine aC 4 ?_;refine bS 8 (fun I E=>?_) (fun I E=>?_)
 ·refine aY [4] ?_;refine eE ?_;refine⟨vb ?_,rfl⟩;unfold q9;simp_all
 refine aY [4] ?_;refine eE ?_;refine⟨vb ?_,rfl⟩;unfold q9;simp_all
theorem acH(l:List cu)(hl:l.length≤6)(o:aV)(a b:Int):VP Tryz.prog G 154 [.agg (cO o),.list 2 (l.flatMap cC) l.length,.v (.int .i64 a),.v (.int .i64 b)] (pi (iO l o a b)):=by
 refine VC.body func154 rfl ntmps154 aO fun X0 w0 aZ=>?_;unfold cO pi;have U:=ym (fun c:cu=>c.n.toList==o.nm.toList) l;have E:bL l o.nm=dM (fun c:cu=>c.n.toList==o.nm.toList) l:=rfl;rw[←E] at U;clear E;refine cj ?_;refine OD.box (ds:=[_,_,_,_,_]) an rfl rfl ot rfl rfl (fun b4=>?_);refine aj 76 [1,2,3,4] ?_;refine ae [1,2,3,4,10] ?_;refine ae [1,2,3,4,10,11,12] ?_;refine ae [1,2,3,4,10,11,12,15] ?_;refine ae [1,2,3,4,10,11,12,15,16] ?_;refine aq (fun az aG=>?_) (fun az aG=>?_)
 ·exact z22
 refine ae [1,2,3,4,10,11,12,15,21] ?_;refine aq (fun aH aT=>?_) (fun aH aT=>?_)
 ·refine cM [1,13] (qv l hl o.nm) ?_;refine ae [1,13,28] ?_;refine aq (fun aX bw=>?_) (fun aX bw=>?_)
  ·have di:uD l o.nm=(0,8):=(by unfold uD;rw[if_pos w4])
   exact z22
  have Z:(bL l o.nm).toNat<l.length:=(by omega)
  have di:uD l o.nm=(l[(bL l o.nm).toNat].k,0):=(by unfold uD;rw[if_neg w4,getD_eq_getElem?_getD,getElem?_eq_getElem Z];rfl)
  exact z22
 refine ae [2,3,10,11,12,15,34] ?_;refine aq (fun bC bW=>?_) (fun bC bW=>?_)
 ·refine ez ?_;exact z116
 refine cg [2,3,10,11,12,15,34] ?_;refine aq (fun cx c9=>?_) (fun cx c9=>?_)
 ·exact z116
 refine ae [2,3,10,11,12,15,45] ?_;refine aq (fun dN en=>?_) (fun dN en=>?_)
 ·refine dK 2 ?_;refine OD.j4 (f:=176) (args:=[_,_]) (all:=[_,_]) (Sf:=[]) an rfl rfl ot call176 (yD a 1) rfl ⟨ot,bH,trivial⟩ (eK _) ?_;rintro _ _ ⟨rfl,rfl⟩;exact z21
 refine ae [2,3,10,11,12,15,50] ?_;refine aq (fun eN fT=>?_) (fun eN fT=>?_)
 ·refine ez ?_;exact T8
 refine cg [2,3,10,11,12,15,50] ?_;refine aq (fun eG fZ=>?_) (fun eG fZ=>?_)
 ·exact T8
 refine ae [2,3,10,11,12,15,61] ?_;refine aq (fun kU I=>?_) (fun kU I=>?_)
 ·refine ez ?_;exact J8
 refine ae [2,3,10,11,12,15,61] ?_;refine aq (fun sI O=>?_) (fun sI O=>?_)
 ·refine ez ?_;exact J8
 refine cg [2,3,10,11,12,61] ?_;refine aq (fun th rH=>?_) (fun th rH=>?_)
 ·exact J8
 refine ae [12,74] ?_;refine fG ?_;refine ae [8,9] ?_;refine aJ [] ?_;refine⟨?_,rfl⟩;unfold iO okF wu;simp_all
theorem NY(l:List cu)(hl:l.length≤6)(o:aV)(a b a' I:Int)(ha:a=a')(hb:b=I)(b2:Nat):VC Tryz.prog G 153 [.agg (cO o),.v (.int .i64 a'),.v (.int .i64 I),.v (.pointer (some ⟨b2,0,none⟩))] [⟨b2,38,1,[.list 2 (l.flatMap cC) l.length]⟩] (fun r S=>r=pi (iO l o a b)∧S=[⟨b2,38,1,[.list 2 (l.flatMap cC) l.length]⟩]):=by
 refine VC.body func153 rfl ntmps153 aO fun X0 w0 aZ=>?_;subst ha hb;have E:=acH (G:=G) l hl o a b;unfold cO at E ⊢;unfold pi at E ⊢;refine cj ?_;refine OD.box (ds:=[_,_,_,_,_]) an rfl rfl ot rfl rfl (fun b4=>?_);refine aj 16 [1,2,3,4] ?_;refine cM [7,8] (E) ?_;refine aJ [⟨b2,38,1,[.list 2 (l.flatMap cC) l.length]⟩] ?_;exact⟨rfl,rfl⟩
theorem YX:(Tryz.prog.info? 3).map (fun i=>(i.zero,i.size,i.bytes))=some (some (.int .i64 0),1,8):=by kernel_rfl
theorem aaZ(l:List cu)(hl:l.length≤6)(ops:List aV)(pE:ops.length≤40)(hx:fy 0 ops=0)(b2:Nat):VC Tryz.prog G 152 [.list 5 (ops.flatMap cO) ops.length,.ek (.func 153) [.v (.pointer (some ⟨b2,0,none⟩))]] [⟨b2,38,1,[.list 2 (l.flatMap cC) l.length]⟩] (fun r S=>r=pi (tc l ops)∧S=[⟨b2,38,1,[.list 2 (l.flatMap cC) l.length]⟩]):=by
 refine VC.body func152 rfl ntmps152 aO fun X0 w0 aZ=>?_;unfold pi;refine ae [0,1] ?_;refine ae [0,1,6] ?_;refine cj ?_;refine aY [0,1,6,7] ?_;refine ae [1,6,7,16,17,18] ?_;refine CD.block ?_;refine l5 (fun (E:Nat×List Int×Option Addr×Nat×List ag) aK=>match E with|(i,st,I,jS,Z)=>(i≤ops.length)∧(st.length≤i)∧(fy ((st.length:Nat):Int) (ops.drop i)=0)∧(tc l ops=js 0 (iO l) (ops.drop i) st)∧(bq 3 1 ((st).flatMap cI) (st).length I jS Z)∧aK=(⟨64,[(1,.ek (.func 153) [.v (.pointer (some ⟨b2,0,none⟩))]),(6,.v (.int .i64 0)),(7,.v (.slice I (st).length jS)),(16,.list 5 (ops.flatMap cO) ops.length),(17,.v (.int .i64 (ops.length:Nat))),(18,.v (.int .i64 (i:Nat)))],(⟨b2,38,1,[.list 2 (l.flatMap cC) l.length]⟩::Z)⟩:St)) (fun (E:Nat×List Int×Option Addr×Nat×List ag)=>match E with|(i,st,I,jS,Z)=>ops.length-i) (0,[],none,0,[]) ⟨(Nat.zero_le _),(Nat.zero_le _),hx,rfl,(bq.cast iC lB),rfl⟩ (aM (h:=by repeat (first|exact trivial|refine⟨FN,?_⟩))) ?_;rintro⟨i,st,I,jS,Z⟩ _ ⟨hi,fq,hex,hinv,nx,rfl⟩;refine ae [1,6,7,16,17,18,19] ?_;refine aq (fun az aG=>?_) (fun az aG=>?_)
 ·have aa:i<ops.length:=(by omega)
  obtain⟨he,tZ⟩:=Ol aa hex;obtain⟨qV,Us,xE,qe⟩:=vK he;have Cx:=sU ops[i].k;have so:(st.take (st.length-(bN ops[i].k).toNat)++[(iO l ops[i] (fa 0 ops[i].k st) (eS 0 ops[i].k st)).1]).length=st.length+1-(bN ops[i].k).toNat:=(by rw[length_append,length_take,length_singleton];omega)
  have ny:fy (((st.take (st.length-(bN ops[i].k).toNat)++[(iO l ops[i] (fa 0 ops[i].k st) (eS 0 ops[i].k st)).1]).length:Nat):Int) (ops.drop (i+1))=0:=(by rw[so,show(((st.length+1-(bN ops[i].k).toNat:Nat)):Int)=(st.length:Int)+(1-bN ops[i].k) by omega];exact tZ)
  refine aC 2 ?_;refine OD.alloc (ds:=[_,_,_,_,_]) an rfl rfl zeroValue61 rfl (fun b9=>?_);refine aN 0 [_,_,_,_,_] sizeOf61 ?_;refine aj 64 [1,6,7,9,16,17,18] ?_;refine ae [1,6,7,9,10,11,16,17,18] ?_;refine cM [1,6,7,9,10,11,12,16,17,18] (D7 ops[i].k) ?_;refine ae [1,6,7,9,10,11,12,13,16,17,18] ?_;refine ae [1,6,7,9,10,11,12,13,16,17,18,30] ?_;refine aq (fun aH aT=>?_) (fun aH aT=>?_)
  ·obtain⟨bh,rfl,wm,vV,rfl⟩:=nx.pos w4;have ua:(st.length-(bN ops[i].k).toNat)<st.length:=(by omega)
   have ha:fa 0 ops[i].k st=st[(st.length-(bN ops[i].k).toNat)]:=(by unfold fa;rw[if_pos w4,getD_eq_getElem?_getD,getElem?_eq_getElem ua];rfl)
   refine ij [1,6,7,9,10,11,12,13,16,17,18] ?_;refine aP 2 ?_ (h:=by exact(dx 1 (h:=by first|exact .l (j:=(st.length-(bN ops[i].k).toNat)) w4 w4|exact .r (j:=(st.length-(bN ops[i].k).toNat)) w4 w4)));refine aP 0 ?_ (h:=by exact(cH (mk:=Op.load 3) rfl ot (iL (k:=2) eu rfl rfl rfl isAgg3 ua rfl)));refine bG ?_;refine ae [1,6,7,9,10,11,13,16,17,18,36] ?_;refine aq (fun aX bw=>?_) (fun aX bw=>?_)
   ·have O:(st.length-(bN ops[i].k).toNat)+1<st.length:=(by omega)
    have hb:eS 0 ops[i].k st=st[(st.length-(bN ops[i].k).toNat)+1]:=(by unfold eS;rw[if_pos w4,getD_eq_getElem?_getD,getElem?_eq_getElem O];rfl)
    refine ij [1,6,7,9,10,11,13,16,17,18] ?_;refine aP 3 ?_ (h:=by exact(dx 1 (h:=by first|exact .l (j:=(st.length-(bN ops[i].k).toNat)+1) w4 w4|exact .r (j:=(st.length-(bN ops[i].k).toNat)+1) w4 w4)));refine aP 0 ?_ (h:=by exact(cH (mk:=Op.load 3) rfl ot (iL (k:=2) eu rfl rfl rfl isAgg3 O rfl)));refine bG ?_;exact T4
   have hb:eS 0 ops[i].k st=0:=(by unfold eS;rw[if_neg w4])
   exact T4
  have ha:fa 0 ops[i].k st=0:=(by unfold fa;rw[if_neg w4])
  refine ae [1,6,7,9,10,11,13,16,17,18,36] ?_;refine aq (fun aX bw=>?_) (fun aX bw=>?_)
  ·exact absurd aX (by simp at *;omega)
  have hb:eS 0 ops[i].k st=0:=(by unfold eS;rw[if_neg w4])
  refine aC 4 ?_;refine OD.j4 (f:=153) (args:=[_,_,_]) (all:=[_,_,_,_]) (Sf:=[⟨b2,38,1,[.list 2 (l.flatMap cC) l.length]⟩]) an rfl rfl ot call153 (NY l hl ops[i] _ _ _ _ ha hb b2) rfl ⟨ot,ot,ot,trivial⟩ (jX (k:=1) rfl) ?_;rintro _ _ ⟨rfl,rfl⟩;refine aj 64 [1,6,7,13,14,15,16,17,18] ?_;refine ae [1,6,7,13,14,15,16,17,18,51] ?_;refine aq (fun bC bW=>?_) (fun bC bW=>?_)
  ·exact Vw
  have hz:(iO l ops[i] (fa 0 ops[i].k st) (eS 0 ops[i].k st)).2=0:=(by simpa using bC)
  refine CD.skip ?_;refine CD.uU (k:=(st.length-(bN ops[i].k).toNat)) (ls:=(st)) (Sq:=Z) eu w4 nx (dA (A:=[_,_])) (fun Bn AX=>?_);exact z12
 have h1:=PR w4 hex;have U:0<st.length:=(by omega)
 obtain⟨bh,rfl,wm,vV,rfl⟩:=nx.pos w4;have aS:=hinv.trans (PP w4);have jR:st.getD 0 0=st[0]:=(by rw[getD_eq_getElem?_getD,getElem?_eq_getElem U];rfl)
 rw[jR] at aS;refine cL [4,5] ?_;refine aP 1 ?_ (h:=by exact(qq (mk:=Op.indexAddr 91) rfl ot bH (by first|exact rC (j:=0) runUnderlying91 sizeOf3 rfl zB|exact rF (j:=0) runUnderlying91 sizeOf3 rfl zB)));refine aP 0 ?_ (h:=by exact(cH (mk:=Op.load 3) rfl ot (iL (k:=1) eu rfl rfl rfl isAgg3 U rfl)));refine bG ?_;refine aJ [⟨b2,38,1,[.list 2 (l.flatMap cC) l.length]⟩] ?_;rw[aS];exact⟨rfl,rfl⟩
theorem Zl(l:List cu)(hl:l.length≤6)(ops:List aV)(hx:iF ops=0):VP Tryz.prog G 126 [.list 2 (l.flatMap cC) l.length,.list 5 (ops.flatMap cO) ops.length] (pi (tc l ops)):=by
 refine VC.body func126 rfl ntmps126 aO fun X0 w0 aZ=>?_;obtain⟨E,gJ⟩:=vN hx;have fj:=fun b2=>aaZ (G:=G) l hl ops E gJ b2;unfold pi at fj ⊢;refine cj ?_;refine OD.box (ds:=[_]) an rfl rfl ot rfl rfl (fun b2=>?_);refine aj 11 [1,2] ?_;refine aC 1 ?_;refine bQ (oP (ds:=[_]) rfl ⟨ot,trivial⟩) ?_;refine OD.call an rfl rfl rfl call152 (fj b2) ⟨ot,ot,trivial⟩ (jX (k:=0) rfl) ?_;rintro _ _ ⟨rfl,rfl⟩;refine aj 11 [4,5] ?_;exact nA
theorem aem(hm:(3,marksC)∈G)(hw:(2,wordsC)∈G)(ht:(0,typesC)∈G)(l:List cu)(hl:l.length≤6)(aQ:∀c∈l,c.n.size≤maxLen)(ops:List aV)(ho:∀o∈ops,o.nm.size≤maxLen):VP Tryz.prog G 125 [.list 2 (l.flatMap cC) l.length,.list 5 (ops.flatMap cO) ops.length] (.v (.int .i64 (if fw l≠0 then fw l else iF ops))):=by
 refine VC.body func125 rfl ntmps125 aO fun X0 w0 aZ=>?_;have dr:maxLen=9223372036854775807:=rfl;refine ae [0,1] ?_;refine cM [1,5] (Es hm hw ht l w4 aQ) ?_;refine ae [1,5,9] ?_;refine aq (fun az aG=>?_) (fun az aG=>?_)
 ·refine ae [4] ?_;refine aJ [] ?_;refine⟨vi ?_,rfl⟩;simp_all
 refine cM [4] (Iv hm hw ops ho) ?_;refine aJ [] ?_;refine⟨vi ?_,rfl⟩;simp_all
theorem IC(hm:(3,marksC)∈G)(hw:(2,wordsC)∈G)(ht:(0,typesC)∈G)(l:List cu)(hl:l.length≤6)(aQ:∀c∈l,c.n.size≤maxLen)(ops:List aV)(ho:∀o∈ops,o.nm.size≤maxLen):VP Tryz.prog G 91 [.list 2 (l.flatMap cC) l.length,.list 5 (ops.flatMap cO) ops.length] (pi (dZ l ops)):=by
 refine VC.body func91 rfl ntmps91 aO fun X0 w0 aZ=>?_;have eZ:=aem hm hw ht l hl aQ ops ho;have E:=fun hx=>Zl (G:=G) l hl ops hx;unfold pi at E ⊢;refine ae [0,1] ?_;refine cM [0,1,6] (eZ) ?_;refine ae [0,1,6,11] ?_;refine aq (fun az aG=>?_) (fun az aG=>?_)
 ·have aS:dZ l ops=(0,if fw l≠0 then fw l else iF ops):=(by unfold dZ;split<;>simp_all)
  refine ae [4,5] ?_;exact oC
 have h0:fw l=0∧iF ops=0:=(by split at az<;>simp_all)
 have aS:dZ l ops=tc l ops:=(by unfold dZ;simp[h0])
 refine cM [4,5] (E h0.2) ?_;exact tN

end Go.Proofs.YtbcmjoaggammcaaGreatDoor.Ex
