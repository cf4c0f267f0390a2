/-
  What the proof of BaseMay leans on, part 4 of 8: walks of the program's functions at the level of values, and plain facts of what they compute.
-/
import Derived.Test.YtbcmjoaggammcaaGreatDoorPBaseMay3
set_option linter.unusedVariables false
set_option linter.unusedSimpArgs false
set_option maxRecDepth 100000
set_option maxHeartbeats 4000000
namespace Go.Proofs.YtbcmjoaggammcaaGreatDoor.Nm
open List
open Go.Proofs.Tryz
open Go.RowKit V Pk Vl
variable {i:Nat} {h:Int}
theorem af5(x y:Vl):∀w,(Op.equalIn 10000 30 (.agg [.int .i64 x.k,.int .i64 x.n,.string x.s].toArray) (.agg [.int .i64 y.k,.int .i64 y.n,.string y.s].toArray)).run Tryz.prog w = .ok (x.k==y.k&&(x.n==y.n&&x.s.toList==y.s.toList)) w:=fun w=>by
 have hS:Tryz.prog.underlying 30=some (.struct (Tryz.prog.fieldsOf 30)):=(by kernel_rfl)
 have hp:Tryz.prog.stoodInHeld 30=false:=(by kernel_rfl)
 rw[show(10000:Nat)=9999+1 from rfl,run_equalIn_agg w 9999 30 _ _ hS hp];have u:=underlying30;have E:=underlying3;have I:=underlying9;have O:=isAgg3;have U:=isAgg9;have Z:=sizeOf3;have z9:=sizeOf9;simp only[Program.fieldsOf,u];go_simp
 by_cases h1:x.k=y.k<;>by_cases h2:x.n=y.n<;>by_cases h3:x.s.toList=y.s.toList<;>simp[h1,h2,h3]
def iH(v:Vl):Int:=if v.k=2∧v.n = -9223372036854775808 then 3 else cA v
structure aX where
 k:Int
 v:Vl
 nm:ByteArray
variable {l:List aX}
def cO(o:aX):List D:=[.v (.int .i64 o.k),.v (.int .i64 o.v.k),.v (.int .i64 o.v.n),.v (.string o.v.s),.v (.string o.nm)]
theorem mO(o:aX):(cO o).length=5:=rfl
theorem Jq(o:aX):(cO o).all V.one=true:=rfl
def bP(k:Int):Int:=if k=1∨k=2 then 0 else if k=5∨k=11 then 1 else 2
theorem s9(k:Int):0≤bP k∧bP k≤2:=by unfold bP;split<;>(try split)<;>omega
def zeroV(v:Vl):Bool:=v.k==0&&(v.n==0&&v.s.toList==(⟨#[]⟩:ByteArray).toList)
def e9(h:Int)(o:aX):Int :=
 if o.k<1∨o.k>11 then 2
 else if iH o.v≠0 then iH o.v
 else if ((o.k != 1 && !(zeroV o.v))||(o.k != 2 && !(o.nm.toList==(⟨#[]⟩:ByteArray).toList)))=true then 6
 else if o.k=2∧cM o.nm≠0 then cM o.nm
 else if h<bP o.k then 7 else 0
def fD:Int→List aX→Int
 | h,[]=>if h=1 then 0 else 7
 | h,o::r=>if e9 h o=0 then fD (h+(1-bP o.k)) r else e9 h o
def iG(l:List aX):Int:=if l.length>40 then 10 else fD 0 l
theorem Px(hi:i<l.length)(he:e9 h l[i]=0):fD h (l.drop i)=fD (h+(1-bP l[i].k)) (l.drop (i+1)):=by
 rw[drop_eq_getElem_cons hi,fD,if_pos he]
theorem Pw{e:Int}(hi:i<l.length)(he:e9 h l[i]=e)(h0:e≠0):fD h (l.drop i)=e:=by
 rw[drop_eq_getElem_cons hi,fD,if_neg (by rw[he];exact h0),he]
theorem OC(hi:l.length≤i):fD h (l.drop i)=if h=1 then 0 else 7:=by
 rw[drop_of_length_le hi,fD]
variable {G:List (Nat×List Value)}
theorem N4(v:Vl):VP Tryz.prog G 108 [.agg (cV v)] (.v (.int .i64 (iH v))):=by
 refine VC.body func108 rfl ntmps108 aO fun X0 w0 aZ=>?_;unfold cV;refine bX ?_;refine OD.box (ds:=[_,_,_]) an rfl rfl ot rfl rfl (fun b1=>?_);refine aj 13 [1] ?_;refine aC 4 ?_;refine bS 6 (fun I E=>?_) (fun I E=>?_)
 ·refine bf [1,10] ?_;refine aq (fun az aH=>?_) (fun az aH=>?_)
  ·refine ae [2] ?_;refine eJ ?_;refine⟨vi ?_,rfl⟩;unfold iH;simp_all
  refine cL [2] (Vl.oX v) ?_;refine eJ ?_;refine⟨vi ?_,rfl⟩;unfold iH;simp_all
 refine bf [1,10] ?_;refine fL ?_;refine cL [2] (Vl.oX v) ?_;refine eJ ?_;refine⟨vi ?_,rfl⟩;unfold iH;simp_all
theorem yx(k:Int):VP Tryz.prog G 110 [.v (.int .i64 k)] (.v (.int .i64 (bP k))):=by
 refine VC.body func110 rfl ntmps110 aO fun X0 w0 aZ=>?_;exact VV
theorem IQ(hm:(3,marksC)∈G)(hw:(2,wordsC)∈G)(l:List aX)(hs:∀o∈l,o.nm.size≤maxLen):VP Tryz.prog G 71 [.list 5 (l.flatMap cO) l.length] (.v (.int .i64 (iG l))):=by
 refine VC.body func71 rfl ntmps71 aO fun X0 w0 aZ=>?_;have hlx:l.length≤40∨40<l.length:=(by omega)
 refine ae [0] ?_;refine ae [0,10] ?_;refine aq (fun az aH=>?_) (fun az aH=>?_)
 ·have hf:iG l=10:=if_pos w4;exact Kz
 have hf:iG l=fD 0 l:=if_neg w4;have pM:l.length≤40:=(by omega)
 refine ae [0,3] ?_;refine ae [3,11,12,13] ?_;refine eB [11,12] (fun aW _ (I:Nat×Int) aK=>match I with|(i,h)=>(i≤l.length)∧(fD 0 l=fD h (l.drop i))∧(0≤h)∧(h≤i)∧aK=(⟨73,(3,.v (.int .i64 h))::(13,.v (.int .i64 (i:Nat)))::aW,[]⟩:St)) (fun (I:Nat×Int)=>match I with|(i,h)=>l.length-i) (0,0) ⟨(Nat.zero_le _),rfl,(Int.le_refl _),(Int.le_refl _),rfl⟩ ?_;rintro⟨i,h⟩ _ ⟨hi,hx,h0,hh,rfl⟩;refine ae [3,11,12,13,14] ?_;refine aq (fun aG aV=>?_) (fun aG aV=>?_)
 ·have aa:i<l.length:=(by omega)
  have CL:=s9 l[i].k;refine aC 2 ?_;refine OD.alloc (ds:=[_,_,_,_,_]) an rfl rfl zeroValue61 rfl (fun b5=>?_);refine aN 0 [_,_,_,_,_] sizeOf61 ?_;refine aj 73 [3,5,11,12,13] ?_;refine aC 4 ?_;refine bS 20 (fun ahF U=>?_) (fun ahF U=>?_)
  ·refine bf [3,5,11,12,13,24] ?_;refine eC ?_;have qh:e9 h l[i]=2:=(by unfold e9;rw[if_pos w4])
   exact FG
  refine bf [3,5,11,12,13,24] ?_;refine aq (fun aY bz=>?_) (fun aY bz=>?_)
  ·have qh:e9 h l[i]=2:=(by unfold e9;rw[if_pos w4])
   exact FG
  have dI:¬(l[i].k<1∨l[i].k>11):=(by omega)
  refine cL [3,5,6,11,12,13] (N4 l[i].v) ?_;refine ae [3,5,6,11,12,13,29] ?_;refine aq (fun bC bY=>?_) (fun bC bY=>?_)
  ·have u3:iH l[i].v≠0:=(by simpa using bC)
   have qh:e9 h l[i]=iH l[i].v:=(by unfold e9;rw[if_neg dI,if_pos u3])
   exact FG
  have u3:iH l[i].v=0:=(by simpa using bC)
  refine aC 4 ?_;refine bS 34 (fun ahG Z=>?_) (fun ahG Z=>?_)
  ·refine aD 3 ?_;refine OD.still gL rfl (ZB (us:=[_,_,_]) (Mg:=[_,_,_]) rfl ot ot eqGuardType30 (af5 l[i].v ⟨0,0,⟨#[]⟩⟩)) ?_;refine aD 2 ?_;refine bS 40 (fun Kx JZ=>?_) (fun Kx JZ=>?_)
   ·refine aj 73 [3,5,11,12,13,49] ?_;refine eC ?_;exact UO
   refine aD 4 ?_;refine bS 44 (fun O E=>?_) (fun O E=>?_)
   ·refine aj 73 [3,5,11,12,13,49] ?_;refine aq (fun cy de=>?_) (fun cy de=>?_)
    ·exact UO
    exact z107
   refine aj 73 [3,5,11,12,13,49] ?_;refine fL ?_;exact z107
  refine xG 4 ?_;refine aD 6 ?_;refine bS 44 (fun O E=>?_) (fun O E=>?_)
  ·refine bf [3,5,11,12,13,49] ?_;refine aq (fun cy de=>?_) (fun cy de=>?_)
   ·have qh:e9 h l[i]=6:=(by unfold e9 zeroV;rw[if_neg dI,if_neg uc,if_pos (by simp_all)])
    exact FG
   exact Uz
  refine bf [3,5,11,12,13,49] ?_;refine fL ?_;exact Uz
 have ff:=hx.trans (OC (show l.length≤i by omega));refine ae [72] ?_;refine aq (fun kY tT=>?_) (fun kY tT=>?_)
 ·exact Kz
 refine ae [2] ?_;refine aJ [] ?_;refine⟨vi ?_,rfl⟩;first|exact hf.symm|(rw[hf,hx,Pw aa qh (by first|assumption|decide)];done)|(rw[hf,ff,if_pos (by simpa using kY)];done)|(rw[hf,ff,if_neg (by simpa using kY)];done)

end Go.Proofs.YtbcmjoaggammcaaGreatDoor.Nm
namespace Go.Proofs
open Go.Shelf
def Tryz.Yr:Go.Shelf.Ren:=⟨fun|106=>151|213=>175|265=>187|n=>n,fun|9=>9|3=>3|n=>n,fun|n=>n⟩
theorem Tryz.acV:Go.Proofs.Lays.n106 Tryz.prog Tryz.Yr:={
 mixed:=by kernel_rfl
 f106:=Tryz.func151.trans (congrArg some (by kernel_rfl))
 f213:=Tryz.func175.trans (congrArg some (by kernel_rfl))
 f265:=Tryz.func187.trans (congrArg some (by kernel_rfl))
 t3:=Tryz.underlying3
 a3:=Tryz.isAgg3
 z3:=Tryz.sizeOf3
 v3:=Tryz.zeroValue3
 t9:=Tryz.underlying9
 a9:=Tryz.isAgg9
 z9:=Tryz.sizeOf9
 v9:=Tryz.zeroValue9}
open Go.RowKit in
theorem Tryz.strings_Compare(a b:ByteArray)(w:World) :
  Calls Tryz.prog 151 #[.string a,.string b] w fun e w'=>e = .returned (.int .i64 (Lib.compareBytes a.data.toList b.data.toList))∧w'=w:=Any.strings_Compare Tryz.acV a b w
def Tryz.NT:Go.Shelf.Ren:=⟨fun|155=>31|154=>53|138=>94|165=>95|143=>96|166=>97|197=>98|169=>99|195=>130|218=>131|240=>132|241=>133|219=>134|260=>135|276=>161|277=>162|217=>163|225=>164|224=>165|267=>166|266=>182|314=>183|n=>n,fun|9=>9|3=>3|4=>4|72=>169|0=>0|76=>173|105=>175|21=>21|5=>5|70=>167|20=>20|37=>49|75=>172|127=>210|164=>237|46=>211|119=>240|139=>243|138=>242|146=>255|51=>254|80=>177|n=>n,fun|1=>1|3=>4|4=>5|n=>n⟩
theorem Tryz.acW:Go.Proofs.Lays.n155 Tryz.prog Tryz.NT:={
 mixed:=by kernel_rfl
 f138:=Tryz.func94.trans (congrArg some (by kernel_rfl))
 f143:=Tryz.func96.trans (congrArg some (by kernel_rfl))
 f154:=Tryz.func53.trans (congrArg some (by kernel_rfl))
 f155:=Tryz.func31.trans (congrArg some (by kernel_rfl))
 f165:=Tryz.func95.trans (congrArg some (by kernel_rfl))
 f166:=Tryz.func97.trans (congrArg some (by kernel_rfl))
 f169:=Tryz.func99.trans (congrArg some (by kernel_rfl))
 f195:=Tryz.func130.trans (congrArg some (by kernel_rfl))
 f197:=Tryz.func98.trans (congrArg some (by kernel_rfl))
 f217:=Tryz.func163.trans (congrArg some (by kernel_rfl))
 f218:=Tryz.func131.trans (congrArg some (by kernel_rfl))
 f219:=Tryz.func134.trans (congrArg some (by kernel_rfl))
 f224:=Tryz.func165.trans (congrArg some (by kernel_rfl))
 f225:=Tryz.func164.trans (congrArg some (by kernel_rfl))
 f240:=Tryz.func132.trans (congrArg some (by kernel_rfl))
 f241:=Tryz.func133.trans (congrArg some (by kernel_rfl))
 f260:=Tryz.func135.trans (congrArg some (by kernel_rfl))
 f266:=Tryz.func182.trans (congrArg some (by kernel_rfl))
 f267:=Tryz.func166.trans (congrArg some (by kernel_rfl))
 f276:=Tryz.func161.trans (congrArg some (by kernel_rfl))
 f277:=Tryz.func162.trans (congrArg some (by kernel_rfl))
 f314:=Tryz.func183.trans (congrArg some (by kernel_rfl))
 t0:=Tryz.underlying0
 a0:=Tryz.isAgg0
 z0:=Tryz.sizeOf0
 v0:=Tryz.zeroValue0
 t3:=Tryz.underlying3
 a3:=Tryz.isAgg3
 z3:=Tryz.sizeOf3
 v3:=Tryz.zeroValue3
 t4:=Tryz.underlying4
 a4:=Tryz.isAgg4
 z4:=Tryz.sizeOf4
 v4:=Tryz.zeroValue4
 t5:=Tryz.underlying5
 a5:=Tryz.isAgg5
 z5:=Tryz.sizeOf5
 v5:=Tryz.zeroValue5
 t9:=Tryz.underlying9
 a9:=Tryz.isAgg9
 z9:=Tryz.sizeOf9
 v9:=Tryz.zeroValue9
 t20:=Tryz.underlying20
 a20:=Tryz.isAgg20
 z20:=Tryz.sizeOf20
 v20:=Tryz.zeroValue20
 t21:=Tryz.underlying21
 a21:=Tryz.isAgg21
 z21:=Tryz.sizeOf21
 v21:=Tryz.zeroValue21
 t37:=Tryz.underlying49
 a37:=Tryz.isAgg49
 z37:=Tryz.sizeOf49
 v37:=Tryz.zeroValue49
 t46:=Tryz.underlying211
 a46:=Tryz.isAgg211
 z46:=Tryz.sizeOf211
 v46:=Tryz.zeroValue211
 t51:=Tryz.underlying254
 a51:=Tryz.isAgg254
 z51:=Tryz.sizeOf254
 v51:=Tryz.zeroValue254
 t70:=Tryz.underlying167
 a70:=Tryz.isAgg167
 z70:=Tryz.sizeOf167
 v70:=Tryz.zeroValue167
 t72:=Tryz.underlying169
 a72:=Tryz.isAgg169
 z72:=Tryz.sizeOf169
 v72:=Tryz.zeroValue169
 t75:=Tryz.underlying172
 a75:=Tryz.isAgg172
 z75:=Tryz.sizeOf172
 v75:=Tryz.zeroValue172
 t76:=Tryz.underlying173
 a76:=Tryz.isAgg173
 z76:=Tryz.sizeOf173
 v76:=Tryz.zeroValue173
 t105:=Tryz.underlying175
 a105:=Tryz.isAgg175
 z105:=Tryz.sizeOf175
 v105:=Tryz.zeroValue175
 t119:=Tryz.underlying240
 a119:=Tryz.isAgg240
 z119:=Tryz.sizeOf240
 t127:=Tryz.underlying210
 a127:=Tryz.isAgg210
 z127:=Tryz.sizeOf210
 v127:=Tryz.zeroValue210
 t138:=Tryz.underlying242
 a138:=Tryz.isAgg242
 z138:=Tryz.sizeOf242
 v138:=Tryz.zeroValue242
 t139:=Tryz.underlying243
 a139:=Tryz.isAgg243
 z139:=Tryz.sizeOf243
 v139:=Tryz.zeroValue243
 t146:=Tryz.underlying255
 a146:=Tryz.isAgg255
 z146:=Tryz.sizeOf255
 v146:=Tryz.zeroValue255
 t164:=Tryz.underlying237
 a164:=Tryz.isAgg237
 z164:=Tryz.sizeOf237
 v164:=Tryz.zeroValue237
 g1:=by kernel_rfl
 g3:=by kernel_rfl
 g4:=by kernel_rfl}
theorem Tryz.XN:Builder.Extra Tryz.prog Tryz.NT:={
 sizeBuilder:=by kernel_rfl
 liesBuilder:=by kernel_rfl
 t5:=Tryz.underlying5
 a5:=Tryz.isAgg5
 z5:=Tryz.sizeOf5
 v5:=Tryz.zeroValue5
 infoByte:=by kernel_rfl
 cellsByte:=by kernel_rfl
 sizeByte:=by kernel_rfl
 neB5:=by decide}
open Go.RowKit Go.Lib in
theorem Tryz.strings_ReplaceAll(s old new:ByteArray)(m:Int)(w:World)(hs:s.size<4294967281)(hm:w.cell? ⟨1,0,none⟩=some (.int .i64 m))(h1:1≤old.size)(hlen:s.size+Lib.countB s old*new.size≤140737488355328) :
  Calls Tryz.prog 31 #[.string s,.string old,.string new] w fun e w' =>
   e = .returned (.string ⟨(Lib.replaceAll s.data.toList old.data.toList new.data.toList).toArray⟩)∧Below w.heap.size w w':=Any.strings_ReplaceAll Tryz.acW Tryz.XN s old new m w hs hm h1 hlen

end Go.Proofs
namespace Go.Proofs.YtbcmjoaggammcaaGreatDoor.Cd
open List
open Go.Proofs.Tryz
open Go.RowKit V Pk Vl
variable {v:Vl}
theorem P1(c:UInt8)(new:List UInt8):∀s:List UInt8,Lib.replaceK [c] new (s.count c) s=s.flatMap fun b=>if b=c then new else [b]
 | []=>rfl
 | b::l=>by
  have I:=P1 c new l;by_cases h:b=c
  ·subst h;have hi:Lib.index (b::l) [b]=((0:Nat):Int):=(by rw[Lib.index_one];simp[Lib.indexByte])
   rw[count_cons_self,Lib.replaceK_hit _ _ _ _ _ hi,flatMap_cons,if_pos rfl,←I];simp
  have hc:(b::l).count c=l.count c:=count_cons_of_ne h;rw[hc,flatMap_cons,if_neg h,←I];cases hk:l.count c with
  | zero=>rfl
  | succ k =>
   obtain⟨i,hi⟩:=Lib.index_of_count (s:=l) (old:=[c]) (by rw[Lib.count_one];omega);have E:Lib.index (b::l) [c]=((i+1:Nat):Int):=by
    rw[Lib.index_one] at hi ⊢;unfold Lib.indexByte;rw[if_neg oJ,hi,if_neg (by rw[beq_iff_eq];omega)];omega
   rw[Lib.replaceK_hit _ _ _ _ _ E,Lib.replaceK_hit _ _ _ _ _ hi];simp
def tG(c:UInt8)(new:List UInt8)(s:ByteArray):ByteArray:=⟨(s.data.toList.flatMap fun b=>if b=c then new else [b]).toArray⟩
theorem Yt(c:UInt8)(new s:List UInt8):Lib.replaceAll s [c] new=s.flatMap fun b=>if b=c then new else [b]:=by
 unfold Lib.replaceAll Lib.replace Lib.replaceNum;split
 ·rename_i h;have h':[c]=new:=(by simpa using h)
  subst h';induction s with
  | nil=>rfl
  | cons b l ih =>
   rw[flatMap_cons,←ih];have:(if b=c then [c] else [b])=[b]:=by
    split
    ·rename_i e;rw[e]
    rfl
   rw[this];rfl
 rw[if_pos (.inl w7),Lib.count_one,P1]
variable {G:List (Nat×List Value)} {m:Int}
theorem acX(hG:(1,[Value.int .i64 m])∈G)(c:UInt8)(new:ByteArray)(s:ByteArray)(hs:s.size≤1000000)(hn:new.size≤1000):VP Tryz.prog G 31 [.v (.string s),.v (.string ⟨#[c]⟩),.v (.string new)] (.v (.string (tG c new.data.toList s))):=by
 have hc:Lib.countB s ⟨#[c]⟩≤1000000:=by
  show Lib.count s.data.toList [c]≤1000000;rw[Lib.count_one];exact Nat.le_trans count_le_length (by rw[ku];exact hs)
 have I:Lib.countB s ⟨#[c]⟩*new.size≤1000000*1000:=Nat.mul_le_mul hc hn;have key:=VP.Rt (P:=Tryz.prog) (G:=G) (f:=31) (vs:=[.string s,.string ⟨#[c]⟩,.string new]) (v:=.string (tG c new.data.toList s)) fun w E=>by
  refine(Tryz.strings_ReplaceAll s ⟨#[c]⟩ new m w w4 (E _ hG 0 _ rfl) (Nat.le_refl _) w4).mono fun e w' ⟨h1,h2⟩=>⟨?_,h2⟩
  rw[h1];congr 2;show(⟨(Lib.replaceAll s.data.toList [c] new.data.toList).toArray⟩:ByteArray)=_;rw[Yt];rfl
 exact key
/-! ### Keys -/
def kb(v:Vl):UInt8:=UInt8.ofNat v.k.toNat
def nb(v:Vl):UInt8:=UInt8.ofNat v.n.toNat
def uN(v:Vl):Nat:=(v.n+9223372036854775808).toNat
def wW(u k:Nat):UInt8:=UInt8.ofNat (u/256 ^ (7-k))
def lF(u:Nat):List UInt8:=(range 8).map (wW u)
def nW(s:List UInt8):List UInt8:=s.flatMap fun b=>if b=0 then [0,255] else [b]
def r8(v:Vl):List UInt8:=if v.k=1 then [nb v] else if v.k=2 then lF (uN v) else if v.k=3 then nW v.s.data.toList++[0,0] else []
def pn(v:Vl):List UInt8:=kb v::r8 v
def fm(l:List Vl):List UInt8:=l.flatMap pn
def r9:List Vl→Int
 | []=>0
 | v::r=>if cA v=0 then r9 r else cA v
def fS(l:List Vl):List UInt8×Int:=if l.length>6 then ([],1) else if r9 l≠0 then ([],r9 l) else if (fm l).length>100 then ([],5) else (fm l,0)
def A8(b:List UInt8):D:=.list 1 (b.flatMap cB) b.length
def KL(r:List UInt8×Int):D:=.dz [A8 r.1,.v (.int .i64 r.2)]
theorem Rz:∀{l:List Vl} {i:Nat} (hi:i<l.length),(∀v∈l.take i,cA v=0)→cA l[i]≠0→r9 l=cA l[i]
 | v::r,0,hi,_,h=>by
  have h':cA v≠0:=h;show r9 (v::r)=cA v;rw[r9,if_neg h']
 | v::r,i+1,hi,h0,h=>by
  rw[r9,if_pos (h0 v bq)];exact Rz (l:=r) (i:=i) (by simpa using hi) (fun x hx=>h0 x (by rw[take_succ_cons];exact mem_cons_of_mem _ hx)) h
theorem EC:∀{l:List Vl},(∀v∈l,cA v=0)→r9 l=0
 | [],_=>rfl
 | v::r,h=>by rw[r9,if_pos (h v mem_cons_self)];exact EC fun x hx=>h x (mem_cons_of_mem _ hx)
theorem Hi(h:cA v=0):0≤v.k∧v.k≤3:=by
 unfold cA at h;split at h
 ·omega
 split at h
 ·omega
 split at h
 ·omega
 split at h
 ·omega
 cases h
theorem N5(h:cA v=0)(hk:v.k=1):0≤v.n∧v.n≤1:=by
 unfold cA at h;rw[if_neg w4,if_pos hk] at h;split at h
 ·cases h
 omega
theorem N6(h:cA v=0)(hk:v.k=3):v.s.size≤20:=by
 unfold cA at h;rw[if_neg w4,if_neg w4,if_neg w4,if_pos hk] at h;split at h
 ·cases h
 split at h
 ·cases h
 omega
theorem Jy(h:cA v=0):((kb v).toNat:Int)=v.k:=by
 have:=Hi h;unfold kb;rw[UInt8.toNat_ofNat'];omega
theorem Jz(h:cA v=0)(hk:v.k=1):((nb v).toNat:Int)=v.n:=by
 have:=N5 h hk;unfold nb;rw[UInt8.toNat_ofNat'];omega
theorem acY(h:cA v=0):IntKind.u8.wrap v.k=((kb v).toNat:Int):=by
 have:=Hi h;rw[Jy h];show v.k % 256=_;omega
theorem acZ(h:cA v=0)(hk:v.k=1):IntKind.u8.wrap v.n=((nb v).toNat:Int):=by
 have:=N5 h hk;rw[Jz h hk];show v.n % 256=_;omega
theorem JA(h:v.Ok):((uN v:Nat):Int)=v.n+9223372036854775808:=by have:=h.n1;unfold uN;omega
theorem aeK{u k:Nat}(hk:k≤7):(u:Int).fdiv (2 ^ min ((56:Int)-8*(k:Int)).toNat IntKind.u64.bits)=((u/256 ^ (7-k):Nat):Int):=by
 have e1:min ((56:Int)-8*(k:Int)).toNat IntKind.u64.bits=8*(7-k):=by
  show min _ 64=_;omega
 have E:(2 ^ (8*(7-k)):Nat)=256 ^ (7-k):=(by rw[Nat.pow_mul])
 have e2:((2:Int) ^ (8*(7-k)))=((256 ^ (7-k):Nat):Int):=by
  rw[←E,Int.natCast_pow];rfl
 rw[e1,e2];exact(Int.ofNat_fdiv _ _).symm
theorem ac0(x:Nat):IntKind.u8.wrap (x:Int)=((UInt8.ofNat x).toNat:Int):=by
 rw[UInt8.toNat_ofNat'];show(x:Int) % 256=_;omega
theorem ED{u k:Nat}(hk:k≤7):(lF u).take k++[wW u k]=(lF u).take (k+1):=by
 have hl:k<(lF u).length:=(by simp[lF];omega)
 rw[take_succ_eq_append_getElem hl];congr 2;simp[lF]
theorem wc(u:Nat):(lF u).length=8:=by simp[lF]
theorem RA(s:List UInt8):(nW s).length≤2*s.length:=by
 induction s with
 | nil=>simp[nW]
 | cons b l ih =>
  unfold nW at ih ⊢;rw[flatMap_cons,length_append,length_cons];split<;>simp only[length_cons,length_nil]<;>omega
theorem EE(h:cA v=0):(pn v).length≤43:=by
 unfold pn r8;rw[length_cons];split
 ·simp
 split
 ·rw[wc];omega
 split
 ·rename_i hk;have h1:=N6 h hk;have h2:=RA v.s.data.toList;rw[ku] at h2;rw[length_append];simp;omega
 simp
theorem Ei:∀{l:List Vl},(∀v∈l,cA v=0)→(fm l).length≤43*l.length
 | [],_=>Nat.le_refl _
 | v::r,h=>by
  have h1:=EE (h v mem_cons_self);have h2:=Ei (l:=r) fun x hx=>h x (mem_cons_of_mem _ hx);unfold fm at h2 ⊢;rw[flatMap_cons,length_append,length_cons];omega
theorem Ol{l:List Vl}{i:Nat}(hi:i<l.length):fm (l.take i)++pn l[i]=fm (l.take (i+1)):=by
 unfold fm;rw[take_succ_eq_append_getElem hi,flatMap_append];simp
theorem E5(h:v.k=1):r8 v=[nb v]:=if_pos h
theorem E6(h:v.k=2):r8 v=lF (uN v):=by unfold r8;rw[if_neg w4,if_pos h]
theorem E7(h:v.k=3):r8 v=nW v.s.data.toList++[0,0]:=by unfold r8;rw[if_neg w4,if_neg w4,if_pos h]
theorem TS(h1:¬v.k=1)(h2:¬v.k=2)(h3:¬v.k=3):r8 v=[]:=by unfold r8;rw[if_neg h1,if_neg h2,if_neg h3]
theorem AH(s:ByteArray):(tG 0 [0,255] s).data.toList=nW s.data.toList:=rfl
def KM(p:List UInt8×Int)(r:D)(S:List ag):Prop:=∃ad cap,r = .dz [.v (.slice ad p.1.length cap),.v (.int .i64 p.2)]∧bw 5 1 (p.1.flatMap cB) p.1.length ad cap S
theorem KM.view{p:List UInt8×Int}{r:D}{S:List ag}(h:KM p r S):View S r (KL p):=by
 obtain⟨ad,cap,rfl,ho⟩:=h;exact Ef ⟨lj ho (cq o9 _) (fun B h=>h),eP,trivial⟩
theorem Az:(Tryz.prog.info? 5).map (fun i=>(i.zero,i.size,i.bytes))=some (some (.int .u8 0),1,1):=by kernel_rfl
theorem Tj(hG:(1,[Value.int .i64 m])∈G)(l:List Vl)(hl:l.length≤maxLen)(aS:∀v∈l,v.Ok):VC Tryz.prog G 13 [.list 3 (l.flatMap cV) l.length] [] (KM (fS l)):=by
 refine VC.body func13 rfl ntmps13 aO fun X0 w0 aZ=>?_;refine ae [0] ?_;refine ae [0,12] ?_;refine aq (fun az aH=>?_) (fun az aH=>?_)
 ·have aT:fS l=([],1):=if_pos w4;exact Mb
 have h6:l.length≤6:=(by omega)
 refine bX ?_;refine bf [0,4] ?_;refine ae [4,13,14,15] ?_;refine CD.block ?_;refine mJ (fun (E:Nat×Option Addr×Nat×List ag) aK=>match E with|(i,I,O,Sb)=>(i≤l.length)∧(∀v∈l.take i,cA v=0)∧(bw 5 1 ((fm (l.take i)).flatMap cB) (fm (l.take i)).length I O Sb)∧aK=(⟨72,[(4,.v (.slice I (fm (l.take i)).length O)),(13,.list 3 (l.flatMap cV) l.length),(14,.v (.int .i64 l.length)),(15,.v (.int .i64 (i:Nat)))],(Sb)⟩:St)) (fun (E:Nat×Option Addr×Nat×List ag)=>match E with|(i,I,O,Sb)=>l.length-i) (0,none,0,[]) ⟨(Nat.zero_le _),bq,(bw.cast iw (by rfl)),rfl⟩ (aM (h:=by repeat (first|exact trivial|refine⟨w6,?_⟩))) ?_;rintro⟨i,I,O,Sb⟩ _ ⟨hi,h0,oP,rfl⟩;refine ae [4,13,14,15,16] ?_;refine aq (fun aG aV=>?_) (fun aG aV=>?_)
 ·have aa:i<l.length:=(by omega)
  have Ml:=Ei h0;rw[length_take] at Ml;have dy:maxLen=9223372036854775807:=rfl;have fM:=aS _ (getElem_mem aa);refine aC 2 ?_;refine OD.alloc (ds:=[_,_,_]) an rfl rfl zeroValue30 rfl (fun b6=>?_);refine aN 0 [_,_,_] sizeOf30 ?_;refine aj 72 [4,6,13,14,15] ?_;refine cL [4,6,7,13,14,15] (Vl.oX l[i]) ?_;refine ae [4,6,7,13,14,15,22] ?_;refine aq (fun aY bz=>?_) (fun aY bz=>?_)
  ·have hne:cA l[i]≠0:=(by simpa using aY)
   have aT:fS l=([],cA l[i]):=(by unfold fS;rw[if_neg w4,Rz aa h0 hne,if_pos hne])
   exact Mb
  have U:cA l[i]=0:=(by simpa using aY)
  refine aC 3 ?_;refine bN (oo (r:=.int .u8 ((kb l[i]).toNat:Int)) rfl ot (oq runUnderlying3 runUnderlying5 (acY U))) ?_;refine ee (bZ 0 [_]) [.int .u8 0] [_] zeroValue5 runUnderlying49 sizeOf5 (fun MK=>?_);refine fG 0 28 1 1 ?_;refine OD.dZ (ls:=(fm (l.take i))) (new:=[kb l[i]]) (Sq:=Sb) o9 wm an rfl rfl underlying49 Az rfl w7 ot oP (dx (A:=[_])) ot bq zC zC (fun ur Z FL FM=>?_);refine OD.perm (dV (S1:=[⟨ur,5,Z*1,flatMap cB ((fm (l.take i))++[kb l[i]])⟩]) (A:=[_])) ?_;refine aj 72 [4,6,13,14,15] ?_;refine ae [4,6,13,14,15,31] ?_;refine ae [4,6,13,14,15,31,32] ?_;refine aq (fun bC bY=>?_) (fun bC bY=>?_)
  ·have dI:l[i].k=1:=(by simpa using bC)
   refine dL 3 ?_;refine bN (oo (r:=.int .u8 ((nb l[i]).toNat:Int)) rfl ot (oq runUnderlying3 runUnderlying5 (acZ U dI))) ?_;refine ee (bZ 0 [_]) [.int .u8 0] [_] zeroValue5 runUnderlying49 sizeOf5 (fun ML=>?_);refine fG 0 38 1 1 ?_;refine OD.dZ (ls:=((fm (l.take i))++[kb l[i]])) (new:=[nb l[i]]) (Sq:=[⟨ur,5,Z*1,flatMap cB ((fm (l.take i))++[kb l[i]])⟩]) o9 wm an rfl rfl underlying49 Az rfl w7 ot (bI FL FM) (dx (A:=[_])) ot bq zC zC (fun Cm KN ahH ahI=>?_);refine OD.perm (dV (S1:=[⟨Cm,5,KN*1,flatMap cB (((fm (l.take i))++[kb l[i]])++[nb l[i]])⟩]) (A:=[_])) ?_;refine aj 72 [4,13,14,15] ?_;refine cj [4,13,14,15] ?_;refine⟨((i+1),(some ⟨Cm,0,none⟩),KN,[⟨Cm,5,KN*1,flatMap cB (((fm (l.take i))++[kb l[i]])++[nb l[i]])⟩]),_,cx,(aM (h:=by repeat (first|exact trivial|refine⟨w6,?_⟩))),w4,(yn aa h0 U),(bw.cast (bI ahH ahI) F1),rfl⟩
  have dI:¬l[i].k=1:=(by simpa using bC)
  refine ae [4,6,13,14,15,31,40] ?_;refine aq (fun cy de=>?_) (fun cy de=>?_)
  ·have fq:l[i].k=2:=(by simpa using cy)
   refine cN [4,8,13,14,15] ?_;refine aQ 3 ?_ (h:=by exact(cZ (r:=.int .u64 ((uN l[i]:Nat):Int)) rfl ot bJ (acL (by rw[JA fM];exact acN fM.n1 fM.n2))));refine bH ?_;refine ae [4,8,9,13,14,15] ?_;refine CD.block ?_;refine mJ (fun (E:Nat×Option Addr×Nat×List ag) aK=>match E with|(k,I,O,Sb)=>(k≤8)∧(bw 5 1 (((fm (l.take i)++[kb l[i]])++(lF (uN l[i])).take k).flatMap cB) ((fm (l.take i)++[kb l[i]])++(lF (uN l[i])).take k).length I O Sb)∧aK=(⟨72,[(4,.v (.slice I ((fm (l.take i)++[kb l[i]])++(lF (uN l[i])).take k).length O)),(8,.v (.int .u64 ((uN l[i]:Nat):Int))),(9,.v (.int .i64 (56-8*(k:Int)))),(13,.list 3 (l.flatMap cV) l.length),(14,.v (.int .i64 l.length)),(15,.v (.int .i64 (i:Nat)))],(Sb)⟩:St)) (fun (E:Nat×Option Addr×Nat×List ag)=>match E with|(k,I,O,Sb)=>8-k) (0,(some ⟨ur,0,none⟩),Z,[⟨ur,5,Z*1,flatMap cB ((fm (l.take i))++[kb l[i]])⟩]) ⟨w7,(bw.cast (bI FL FM) bq),rfl⟩ (aM (h:=by repeat (first|exact trivial|refine⟨(by (repeat (first|exact fw|(apply fP;focus (first|rfl|(congr 2;omega)|(simp;done)|(apply eE;rw[←ED w4];simp)|(apply eE;simp)|(apply eE;simp;done)))|(apply fA;focus rfl)));done),?_⟩))) ?_;rintro⟨k,I,O,Sb⟩ _ ⟨LX,oP,rfl⟩;refine ae [4,8,9,13,14,15,47] ?_;refine aq (fun dO eo=>?_) (fun dO eo=>?_)
   ·have hk7:k≤7:=(by omega)
    refine dL 3 ?_;refine bN (cZ (r:=.int .u64 ((uN l[i]/256 ^ (7-k):Nat):Int)) rfl ot ot (yD w4 (aeK hk7))) ?_;refine bN (oo (r:=.int .u8 ((wW (uN l[i]) k).toNat:Int)) rfl ot (oq runUnderlying85 runUnderlying5 (ac0 _))) ?_;refine ee (bZ 0 [_]) [.int .u8 0] [_] zeroValue5 runUnderlying49 sizeOf5 (fun b55=>?_);refine fG 0 55 1 1 ?_;refine OD.dZ (ls:=((fm (l.take i)++[kb l[i]])++(lF (uN l[i])).take k)) (new:=[wW (uN l[i]) k]) (Sq:=Sb) o9 wm an rfl rfl underlying49 Az rfl w7 ot oP (dx (A:=[])) ot bq zC zC (fun MM KO ahJ ahK=>?_);refine OD.perm (dV (S1:=[⟨MM,5,KO*1,flatMap cB (((fm (l.take i)++[kb l[i]])++(lF (uN l[i])).take k)++[wW (uN l[i]) k])⟩]) (A:=[])) ?_;refine aj 72 [4,8,9,13,14,15] ?_;refine cj [4,8,9,13,14,15] ?_;refine⟨((k+1),(some ⟨MM,0,none⟩),KO,[⟨MM,5,KO*1,flatMap cB (((fm (l.take i)++[kb l[i]])++(lF (uN l[i])).take k)++[wW (uN l[i]) k])⟩]),_,cx,(aM (h:=by repeat (first|exact trivial|refine⟨(by (repeat (first|exact fw|(apply fP;focus (first|rfl|(congr 2;omega)|(simp;done)|(apply eE;rw[←ED w4];simp)|(apply eE;simp)|(apply eE;simp;done)))|(apply fA;focus rfl)));done),?_⟩))),w4,(bw.cast (bI ahJ ahK) (by rw[←ED w4];simp)),rfl⟩
   have aon:k=8:=(by omega)
   have aoo:8≤k:=(by omega)
   refine cj [4,13,14,15] ?_;refine⟨((i+1),I,O,Sb),_,cx,(aM (h:=by repeat (first|exact trivial|refine⟨w6,?_⟩))),w4,(yn aa h0 U),(bw.cast oP F1),rfl⟩
  have fq:¬l[i].k=2:=(by simpa using cy)
  refine ae [4,6,13,14,15,57] ?_;refine aq (fun eS fW=>?_) (fun eS fW=>?_)
  ·have lJ:l[i].k=3:=(by simpa using eS)
   have Lp:=N6 U lJ;have CJ:=RA l[i].s.data.toList;rw[ku] at CJ;have W6:(tG 0 [0,255] l[i].s).size=(nW l[i].s.data.toList).length:=(by rw[←ku,AH])
   refine aC 3 ?_;refine dR call31 (acX hG 0 ⟨#[0,255]⟩ l[i].s w4 w7) ?_;refine OD.YK (ls:=((fm (l.take i))++[kb l[i]])) (Sq:=[⟨ur,5,Z*1,flatMap cB ((fm (l.take i))++[kb l[i]])⟩]) an rfl rfl underlying49 underlying9 Az ot (bI FL FM) (dx (A:=[_])) ot (by rw[show(tG 0 (⟨#[0,255]⟩:ByteArray).data.toList l[i].s).size=(nW l[i].s.data.toList).length from W6];simp only[length_append,length_cons,length_nil];omega) (by rw[show(tG 0 (⟨#[0,255]⟩:ByteArray).data.toList l[i].s).size=(nW l[i].s.data.toList).length from W6];simp only[length_append,length_cons,length_nil];omega) (fun UY wX CM BN=>?_);refine OD.perm (dV (A:=[_])) ?_;refine aj 72 [4,13,14,15] ?_;refine dL 1 ?_;refine ee (bZ 0 [_,_]) [.int .u8 0,.int .u8 0] [_,_] zeroValue5 runUnderlying49 sizeOf5 (fun b65=>?_);refine fG 0 65 1 2 ?_;refine OD.dZ (ls:=(((fm (l.take i))++[kb l[i]])++(tG 0 [0,255] l[i].s).data.toList)) (new:=[(0:UInt8),0]) (Sq:=CM) o9 wm an rfl rfl underlying49 Az rfl w7 ot BN (dx (A:=[_])) ot bq (by rw[AH];simp only[length_append,length_cons,length_nil];omega) (by rw[AH];simp only[length_append,length_cons,length_nil];omega) (fun oR zl zm zn=>?_);refine OD.perm (dV (S1:=[⟨oR,5,zl*1,flatMap cB ((((fm (l.take i))++[kb l[i]])++(tG 0 [0,255] l[i].s).data.toList)++[(0:UInt8),0])⟩]) (A:=[_])) ?_
   refine aj 72 [4,13,14,15] ?_;refine cj [4,13,14,15] ?_;refine⟨((i+1),(some ⟨oR,0,none⟩),zl,[⟨oR,5,zl*1,flatMap cB ((((fm (l.take i))++[kb l[i]])++(tG 0 [0,255] l[i].s).data.toList)++[(0:UInt8),0])⟩]),_,cx,(aM (h:=by repeat (first|exact trivial|refine⟨w6,?_⟩))),w4,(yn aa h0 U),(bw.cast (bI zm zn) F1),rfl⟩
  have lJ:¬l[i].k=3:=(by simpa using eS)
  refine cj [4,13,14,15] ?_;refine⟨((i+1),(some ⟨ur,0,none⟩),Z,[⟨ur,5,Z*1,flatMap cB ((fm (l.take i))++[kb l[i]])⟩]),_,cx,(aM (h:=by repeat (first|exact trivial|refine⟨w6,?_⟩))),w4,(yn aa h0 U),(bw.cast (bI FL FM) F1),rfl⟩
 have fa:∀v∈l,cA v=0:=(by rw[take_of_length_le w4] at h0;exact h0)
 have hle:=Ei fa;have MN:fm (l.take i)=fm l:=(by rw[take_of_length_le w4])
 refine ae [4,70] ?_;refine aq (fun eL gg=>?_) (fun eL gg=>?_)
 ·have aT:fS l=([],5):=(by unfold fS;rw[if_neg w4,EC fa,if_neg bq,if_pos (by rw[MN] at eL;simp at eL;omega)])
  exact Mb
 have aT:fS l=(fm l,0):=(by unfold fS;rw[if_neg w4,EC fa,if_neg bq,if_neg (by rw[MN] at eL;simp at eL;omega)])
 refine ae [2,3] ?_;refine aJ Sb ?_;rw[aT,←MN];exact⟨I,O,rfl,oP⟩
theorem aeL(hG:(1,[Value.int .i64 m])∈G)(l:List Vl)(hl:l.length≤maxLen)(aS:∀v∈l,v.Ok):VP Tryz.prog G 13 [.list 3 (l.flatMap cV) l.length] (KL (fS l)):=(Tj hG l hl aS).cover fun r S hr=>hr.view

end Go.Proofs.YtbcmjoaggammcaaGreatDoor.Cd
namespace Go.Proofs.YtbcmjoaggammcaaGreatDoor.Cd
open List
open Go.Proofs.Tryz
open Go.RowKit V Pk Vl
def lC(l:List UInt8):Nat:=l.foldl (fun a c=>a*256+c.toNat) 0
theorem HA(l:List UInt8)(c:UInt8):lC (l++[c])=lC l*256+c.toNat:=by unfold lC;rw[foldl_append];rfl
theorem IR:∀(n:Nat) (l:List UInt8),l.length=n→lC l<256 ^ n
 | 0,l,h=>by rw[eq_nil_of_length_eq_zero h];decide
 | n+1,l,h=>by
  have hne:l≠[]:=(by intro e;subst e;simp at h)
  rw[←dropLast_concat_getLast hne,HA];have h1:=IR n l.dropLast (by rw[length_dropLast,h];rfl);have h2:(l.getLast hne).toNat<256:=(l.getLast hne).toNat_lt;rw[Nat.pow_succ];omega
variable {G:List (Nat×List Value)}

end Go.Proofs.YtbcmjoaggammcaaGreatDoor.Cd
namespace Go.Proofs.YtbcmjoaggammcaaGreatDoor.Cd
open List
open Go.Proofs.Tryz
open Go.RowKit V Pk Vl
variable {v:Vl}
theorem G5:∀(b a:List UInt8),lC (a++b)=lC a*256 ^ b.length+lC b
 | [],a=>by simp[lC]
 | c::b,a=>by
  have h1:=G5 b (a++[c]);have h2:=G5 b [c];rw[append_assoc,singleton_append,HA] at h1;have h3:lC (c::b)=c.toNat*256 ^ b.length+lC b:=by
   rw[singleton_append] at h2;rw[h2];have:lC [c]=c.toNat:=(by simp[lC])
   rw[this]
  rw[h1,h3,length_cons,Nat.pow_succ,Nat.add_mul,Nat.mul_assoc,Nat.mul_comm 256];omega
theorem P2{u:Nat}(h:u<18446744073709551616):lC (lF u)=u:=by
 have key:∀k,k≤8→lC ((lF u).take k)=u/256 ^ (8-k):=by
  intro k;induction k with
  | zero=>intro _;show 0=u/256 ^ 8;exact(Nat.div_eq_of_lt h).symm
  | succ k ih =>
   intro hk;have hb:=ih w4;rw[←ED w4,HA,hb];unfold wW;rw[UInt8.toNat_ofNat',show 8-k=(7-k)+1 by omega,show 8-(k+1)=7-k by omega,Nat.pow_succ,←Nat.div_div_eq_div_mul];have:=Nat.div_add_mod (u/256 ^ (7-k)) 256;omega
 have:=key 8 (Nat.le_refl _);rw[take_of_length_le (by rw[wc];omega)] at this;rw[this];simp
theorem HB{s:ByteArray}(h:s.size=0):s=⟨#[]⟩:=Ez (eq_nil_of_length_eq_zero (by rw[ku,h]))
theorem EF(h:cA v=0)(hk:v.k=0):v=⟨0,0,⟨#[]⟩⟩:=by
 unfold cA at h;rw[if_pos hk] at h;split at h
 ·cases h
 rename_i hn;exact Vl.ext' hk (by show v.n=0;omega) (HB w4)
theorem RB(h:cA v=0)(hk:v.k=1):v.s=⟨#[]⟩:=by
 unfold cA at h;rw[if_neg w4,if_pos hk] at h;split at h
 ·cases h
 exact HB w4
theorem RC(h:cA v=0)(hk:v.k=2):v.s=⟨#[]⟩:=by
 unfold cA at h;rw[if_neg w4,if_neg w4,if_pos hk] at h;split at h
 ·cases h
 exact HB w4
theorem RD(h:cA v=0)(hk:v.k=3):v.n=0:=by
 unfold cA at h;rw[if_neg w4,if_neg w4,if_neg w4,if_pos hk] at h;split at h
 ·cases h
 omega
/-! ### The values that the statements make -/

end Go.Proofs.YtbcmjoaggammcaaGreatDoor.Cd
namespace Go.Proofs.YtbcmjoaggammcaaGreatDoor.Cd





open List
open Go.Proofs.Tryz
open Go.RowKit V Pk Vl
open Go.Lib (compareBytes)
variable {a b:UInt8} {l:List Int}
theorem tw:a<b↔a.toNat<b.toNat:=UInt8.lt_iff_toNat_lt
theorem aeM(h:a≠b):a.toNat≠b.toNat:=fun e=>h (UInt8.toNat_inj.1 e)
theorem yE(a b:UInt8)(x y:List UInt8):compareBytes (a::x) (b::y)=if a<b then -1 else if b<a then 1 else compareBytes x y:=by rw[compareBytes]
theorem wF(x y:List UInt8)(h:a.toNat<b.toNat):compareBytes (a::x) (b::y) = -1:=by rw[yE,if_pos (tw.2 h)]
theorem tH(a:UInt8)(x y:List UInt8):compareBytes (a::x) (a::y)=compareBytes x y:=by
 rw[yE,if_neg qk,if_neg qk]
theorem RE:∀(p x y:List UInt8),compareBytes (p++x) (p++y)=compareBytes x y
 | [],_,_=>rfl
 | a::p,x,y=>by rw[cons_append,cons_append,tH,RE p x y]
theorem IS:∀(x y:List UInt8),compareBytes y x = - compareBytes x y
 | [],[]=>rfl
 | [],_::_=>rfl
 | _::_,[]=>rfl
 | a::x,b::y=>by
  have E:=IS x y;rw[yE,yE];rcases Nat.lt_trichotomy a.toNat b.toNat with h|h|h
  ·rw[if_neg qk,if_pos (tw.2 h),if_pos (tw.2 h)];rfl
  ·rw[if_neg qk,if_neg qk,if_neg qk,if_neg qk,E]
  rw[if_pos (tw.2 h),if_neg qk,if_pos (tw.2 h)]
theorem P3:∀(x y:List UInt8),compareBytes x y = -1∨compareBytes x y=0∧x=y∨compareBytes x y=1
 | [],[]=>.inr (.inl ⟨rfl,rfl⟩)
 | [],_::_=>.inl rfl
 | _::_,[]=>.inr (.inr rfl)
 | a::x,b::y=>by
  rw[yE];rcases Nat.lt_trichotomy a.toNat b.toNat with h|h|h
  ·exact .inl (if_pos (tw.2 h))
  ·have e:a=b:=UInt8.toNat_inj.1 h;subst e;rw[if_neg qk,if_neg qk];rcases P3 x y with h|⟨h,e⟩|h
   ·exact .inl h
   ·exact .inr (.inl ⟨h,by rw[e]⟩)
   exact .inr (.inr h)
  exact .inr (.inr (by rw[if_neg qk,if_pos (tw.2 h)]))
theorem OE(c:UInt8)(b:List UInt8):lC (c::b)=c.toNat*256 ^ b.length+lC b:=by
 have h2:=G5 b [c];rw[singleton_append] at h2;rw[h2];have:lC [c]=c.toNat:=(by simp[lC])
 rw[this]
theorem T0:∀(l k:List UInt8) (x y:List UInt8),l.length=k.length→lC l<lC k→compareBytes (l++x) (k++y) = -1
 | [],[],_,_,_,h=>absurd h (Nat.lt_irrefl _)
 | [],_::_,_,_,h,_=>by simp at h
 | _::_,[],_,_,h,_=>by simp at h
 | a::l,b::k,x,y,hl,h=>by
  simp only[length_cons,Nat.add_right_cancel_iff] at hl;rw[OE,OE,hl] at h;have h1:=IR _ l hl;have h2:=IR _ k rfl;rw[cons_append,cons_append];rcases Nat.lt_trichotomy a.toNat b.toNat with e|e|e
  ·exact wF _ _ e
  ·have e':a=b:=UInt8.toNat_inj.1 e;subst e';rw[tH];exact T0 l k x y hl w4
  exfalso;have:(b.toNat+1)*256 ^ k.length≤a.toNat*256 ^ k.length:=Nat.mul_le_mul_right _ e;rw[Nat.succ_mul] at this;omega
theorem AM(c:UInt8)(s:List UInt8):nW (c::s)=(if c=0 then [0,255] else [c])++nW s:=by unfold nW;rw[flatMap_cons]
theorem Tm{c:UInt8}(h:¬c=0):0<c.toNat:=by
 have:=aeM h;have e:(0:UInt8).toNat=0:=rfl;omega
theorem Tn:∀(s t x y:List UInt8),compareBytes s t = -1→compareBytes (nW s++([0,0]++x)) (nW t++([0,0]++y)) = -1
 | [],[],_,_,h=>by exact absurd h w7
 | _::_,[],_,_,h=>by exact absurd (show(1:Int) = -1 from h) w7
 | [],d::t,x,y,_=>by
  rw[AM];by_cases hd:d=0
  ·rw[if_pos hd];show compareBytes (0::0::x) (0::255::(nW t++([0,0]++y))) = -1;rw[tH];exact wF _ _ w7
  rw[if_neg hd];exact wF (a:=0) _ _ (Tm hd)
 | c::s,d::t,x,y,h=>by
  rcases Nat.lt_trichotomy c.toNat d.toNat with e|e|e
  ·have hd:¬d=0:=fun hd=>by subst hd;have:(0:UInt8).toNat=0:=rfl;omega
   rw[AM,AM,if_neg hd];by_cases hc:c=0
   ·rw[if_pos hc];exact wF (a:=0) _ _ (Tm hd)
   rw[if_neg hc];exact wF _ _ e
  ·have e':c=d:=UInt8.toNat_inj.1 e;subst e';rw[tH] at h;rw[AM,AM,append_assoc,append_assoc,RE];exact Tn s t x y h
  rw[yE,if_neg qk,if_pos (tw.2 e)] at h;exact absurd h w7
/-! ### What value.Compare answers -/
def px(x y:Int):Int:=if x<y then -1 else if x>y then 1 else 0
def fX:List Int→Int
 | []=>0
 | a::l=>if a≠0 then a else fX l
def cmpL(a b:Vl):List Int:=[px a.k b.k,px a.n b.n,compareBytes a.s.data.toList b.s.data.toList]
def fk(a b:Vl):Int:=fX (cmpL a b)
theorem rI(x y:Int):px x y = -1∧x<y∨px x y=0∧x=y∨px x y=1∧y<x:=by unfold px;split;omega;split<;>omega
theorem OF(x y:Int):px y x = - px x y:=by
 rcases rI x y with h|h|h<;>rcases rI y x with k|k|k<;>omega
theorem AA(a b:Vl):fk b a = - fk a b:=by
 unfold fk cmpL fX fX fX fX;rw[OF a.k b.k,OF a.n b.n,IS a.s.data.toList b.s.data.toList];repeat' split
 all_goals omega
theorem Tp{v w:Vl}(E:cA v=0)(I:v.Ok)(hw:cA w=0)(O:w.Ok)(x y:List UInt8)(h:fk v w = -1):compareBytes (pn v++x) (pn w++y) = -1:=by
 have Z:=Jy E;have kw:=Jy hw;unfold pn;rw[cons_append,cons_append];unfold fk cmpL fX fX fX fX at h;rcases rI v.k w.k with h1|h1|h1
 ·exact wF _ _ w4
 ·have U:kb v=kb w:=UInt8.toNat_inj.1 w4;rw[U,tH];rw[h1.1,if_neg bq] at h;have hk:=Hi E;have h4:v.k=0∨v.k=1∨v.k=2∨v.k=3:=(by omega)
  rcases rI v.n w.n with h2|h2|h2
  ·rcases h4 with e|e|e|e
   ·have:=EF E e;have:=EF hw w4;simp_all
   ·have n1:=Jz E e;have n2:=Jz hw w4;rw[E5 e,E5 w4];exact wF _ _ w4
   ·have u1:=JA I;have u2:=JA O;have b1:=I.n2;have b2:=O.n2;rw[E6 e,E6 w4];exact T0 _ _ _ _ (by rw[wc,wc]) (by rw[P2 w4,P2 w4];omega)
   have:=RD E e;have:=RD hw w4;omega
  ·rw[h2.1,if_neg bq] at h;have h:compareBytes v.s.data.toList w.s.data.toList = -1:=by
    by_cases hz:compareBytes v.s.data.toList w.s.data.toList=0
    ·rw[hz] at h;simp at h
    rw[if_pos hz] at h;exact h
   rcases h4 with e|e|e|e
   ·rw[EF E e,EF hw w4] at h;exact absurd h w7
   ·rw[RB E e,RB hw w4] at h;exact absurd h w7
   ·rw[RC E e,RC hw w4] at h;exact absurd h w7
   rw[E7 e,E7 w4,append_assoc,append_assoc];exact Tn _ _ _ _ h
  rw[h2.1,if_pos w7] at h;exact absurd h w7
 rw[h1.1,if_pos w7] at h;exact absurd h w7
theorem YS(v w:Vl):fk v w = -1∨fk v w=0∨fk v w=1:=by
 unfold fk cmpL fX fX fX fX;rcases rI v.k w.k with h1|h1|h1<;>rcases rI v.n w.n with h2|h2|h2<;>rcases P3 v.s.data.toList w.s.data.toList with h3|h3|h3
 all_goals (rw[h1.1,h2.1];first|rw[h3.1]|rw[h3])
 all_goals decide
theorem ac1{v w:Vl}(E:cA v=0)(I:v.Ok)(hw:cA w=0)(O:w.Ok)(x y:List UInt8)(h:fk v w≠0):compareBytes (pn v++x) (pn w++y)=fk v w:=by
 rcases YS v w with e|e|e
 ·rw[e];exact Tp E I hw O x y e
 ·exact absurd e h
 rw[e,IS,Tp hw O E I y x (by rw[AA,e])];rfl

variable {G:List (Nat×List Value)} {m:Int}
def cI(n:Int):List D:=[.v (.int .i64 n)]
theorem abm:∀{i:Nat} (hi:i<l.length),(∀x∈l.take i,x=0)→fX l=fX (l.drop i):=by
 induction l with
 | nil=>intro i hi;simp at hi
 | cons a l ih =>
  intro i hi h;cases i with
  | zero=>rfl
  | succ i =>
   have ha:a=0:=h a bq;show(if a≠0 then a else fX l)=fX (l.drop i);rw[if_neg (by simp[ha])];exact ih (by simpa using hi) (fun x hx=>h x (by simp[hx]))
theorem ac2{i:Nat}(hi:i<l.length)(h:∀x∈l.take i,x=0)(h1:l[i]≠0):fX l=l[i]:=by
 rw[abm hi h,drop_eq_getElem_cons hi];exact if_pos h1
theorem P4:∀{l:List Int},(∀x∈l,x=0)→fX l=0
 | [],_=>rfl
 | a::l,h=>by
  show(if a≠0 then a else fX l)=0;rw[if_neg (by simp[h a bq]),P4 fun x hx=>h x (by simp[hx])]
theorem take_zero{i:Nat}(hi:i<l.length)(h:∀x∈l.take i,x=0)(h1:l[i]=0):∀x∈l.take (i+1),x=0:=fun x hx=>by
 rw[take_succ_eq_append_getElem hi] at hx;rcases mem_append.1 hx with hx|hx
 ·exact h x hx
 simp only[mem_singleton] at hx;rw[hx];exact h1
theorem Tq(x:Int):VP Tryz.prog G 174 [.v (.int .i64 x)] (.v (.bool false)):=by
 refine VC.body func174 rfl ntmps174 aO fun X0 w0 aZ=>?_;refine ae [0] ?_;refine ae [2] ?_;refine aJ [] ?_;first|exact⟨rfl,rfl⟩|(refine⟨vb ?_,rfl⟩;simp)
theorem RF(x y:Int):VP Tryz.prog G 150 [.v (.int .i64 x),.v (.int .i64 y)] (.v (.int .i64 (px x y))):=by
 refine VC.body func150 rfl ntmps150 aO fun X0 w0 aZ=>?_;refine ae [0,1] ?_;refine cL [0,1,5] (Tq x) ?_;refine cL [0,1,5,6] (Tq y) ?_;refine ae [0,1,6,11] ?_;refine aq (fun az aH=>?_) (fun az aH=>?_)
 ·refine ae [12] ?_;refine aq (fun aG aV=>?_) (fun aG aV=>?_)
  ·exact z46
  exact z46
 refine ae [0,1,13] ?_;refine aq (fun aY bz=>?_) (fun aY bz=>?_)
 ·exact z46
 refine ae [0,1,16] ?_;refine aq (fun bC bY=>?_) (fun bC bY=>?_)
 ·exact z46
 refine ae [19] ?_;refine aq (fun cy de=>?_) (fun cy de=>?_)
 ·exact z46
 refine ae [4] ?_;refine aJ [] ?_;first|exact⟨rfl,rfl⟩|(refine⟨vi ?_,rfl⟩;unfold px;simp_all;done)|(refine⟨vi ?_,rfl⟩;unfold px;split<;>(try split)<;>simp_all<;>omega)
theorem aeN(l:List Int)(hl:l.length≤100):VP Tryz.prog G 149 [.list 1 (l.flatMap cI) l.length] (.v (.int .i64 (fX l))):=by
 refine VC.body func149 rfl ntmps149 aO fun X0 w0 aZ=>?_;have dy:maxLen=9223372036854775807:=rfl;refine ae [0] ?_;refine ae [0,3] ?_;refine ae [3,6,7,8] ?_;refine eB [3,6,7] (fun aW _ (i:Nat) aK=>(i≤l.length)∧(∀x∈l.take i,x=0)∧aK=(⟨18,(8,.v (.int .i64 (i:Nat)))::aW,[]⟩:St)) (fun (i:Nat)=>l.length-i) 0 ⟨(Nat.zero_le _),(fun x hx=>by simp at hx),rfl⟩ ?_;rintro i _ ⟨hi,hz,rfl⟩;refine ae [3,6,7,8,9] ?_;refine aq (fun az aH=>?_) (fun az aH=>?_)
 ·have aa:i<l.length:=(by omega)
  refine ae [3,5,6,7,8] ?_;refine ae [3,5,6,7,8,14] ?_;refine aq (fun aG aV=>?_) (fun aG aV=>?_)
  ·have aT:fX l=l[i]:=ac2 aa hz vq;refine ae [2] ?_;exact n8
  refine cj [3,6,7,8] ?_;refine⟨(i+1),_,cx,aM,w4,(take_zero aa hz vq),rfl⟩
 have aT:fX l=0:=P4 (by rw[take_of_length_le w4] at hz;exact hz);refine ae [2] ?_;exact ue
theorem ac3(a b:ByteArray):VP Tryz.prog G 151 [.v (.string a),.v (.string b)] (.v (.int .i64 (compareBytes a.data.toList b.data.toList))) :=
 VP.Rt (P:=Tryz.prog) (G:=G) (f:=151) (vs:=[.string a,.string b]) (v:=.int .i64 (compareBytes a.data.toList b.data.toList)) fun w _ =>
  (Tryz.strings_Compare a b w).mono fun e w' ⟨h1,h2⟩=>⟨h1,h2 ▸ Below.refl _ _⟩
theorem N7(a b:Vl)(ha:a.Ok)(hb:b.Ok):VP Tryz.prog G 124 [.agg (cV a),.agg (cV b)] (.v (.int .i64 (fk a b))):=by
 refine VC.body func124 rfl ntmps124 aO fun X0 w0 aZ=>?_;unfold cV;refine bX ?_;refine OD.box (ds:=[_,_,_]) an rfl rfl ot rfl rfl (fun b2=>?_);refine OD.box (ds:=[_,_,_]) an rfl rfl ot rfl rfl (fun b3=>?_);refine aj 22 [2,3] ?_;refine cN [4] ?_;refine cU (RF a.k b.k) ?_;refine cU (RF a.n b.n) ?_;refine cU (ac3 a.s b.s) ?_;refine cU (aeN (cmpL a b) (by show 3≤100;decide)) ?_;refine bH ?_;exact z51
def mw(a b:Vl):Int:=if cA a≠0 then cA a else cA b
def KP(a b:Vl):D:=.dz [.v (.int .i64 (if mw a b≠0 then 0 else fk a b)),.v (.int .i64 (mw a b))]
theorem RG(a b:Vl):VP Tryz.prog G 123 [.agg (cV a),.agg (cV b)] (.v (.int .i64 (mw a b))):=by
 refine VC.body func123 rfl ntmps123 aO fun X0 w0 aZ=>?_;unfold cV;refine bX ?_;refine OD.box (ds:=[_,_,_]) an rfl rfl ot rfl rfl (fun b2=>?_);refine OD.box (ds:=[_,_,_]) an rfl rfl ot rfl rfl (fun b3=>?_);refine aj 13 [2,3] ?_;refine cL [3,5] (oX a) ?_;refine ae [3,5,9] ?_;refine aq (fun az aH=>?_) (fun az aH=>?_)
 ·refine ae [4] ?_;refine aJ [] ?_;refine⟨vi ?_,rfl⟩;unfold mw;simp_all
 refine cL [4] (oX b) ?_;refine aJ [] ?_;refine⟨vi ?_,rfl⟩;unfold mw;simp_all
theorem YT(a b:Vl)(ha:a.Ok)(hb:b.Ok):VP Tryz.prog G 90 [.agg (cV a),.agg (cV b)] (KP a b):=by
 refine VC.body func90 rfl ntmps90 aO fun X0 w0 aZ=>?_;unfold cV KP;refine bX ?_;refine OD.box (ds:=[_,_,_]) an rfl rfl ot rfl rfl (fun b2=>?_);refine OD.box (ds:=[_,_,_]) an rfl rfl ot rfl rfl (fun b3=>?_);refine aj 16 [2,3] ?_;refine cL [2,3,6] (RG a b) ?_;refine ae [2,3,6,11] ?_;refine aq (fun az aH=>?_) (fun az aH=>?_)
 ·refine ae [4,5] ?_;refine aJ [] ?_;first|(simp_all;done)|(refine⟨?_,rfl⟩;simp_all;done)
 refine cL [4,5] (N7 a b ha hb) ?_;refine aJ [] ?_;first|(simp_all;done)|(refine⟨?_,rfl⟩;simp_all;done)

end Go.Proofs.YtbcmjoaggammcaaGreatDoor.Cd
namespace Go.Proofs.YtbcmjoaggammcaaGreatDoor.Pc
open List
open Go.Proofs.Tryz
open Go.RowKit V Pk Vl Go.Proofs.YtbcmjoaggammcaaGreatDoor.Nm
variable {i:Nat}
def typesC:List Value:=[.string ⟨#[]⟩,.string ⟨#[66,79,79,76]⟩,.string ⟨#[73,78,84]⟩,.string ⟨#[84,69,88,84]⟩]
structure cu where
 n:ByteArray
 k:Int
variable {l:List cu}
def cC(c:cu):List D:=[.v (.string c.n),.v (.int .i64 c.k)]
theorem lm(c:cu):(cC c).length=2:=rfl
theorem aeO(c:cu):(cC c).all V.one=true:=rfl
def mU(pre:List cu)(c:cu):Int :=
 if cM c.n≠0 then cM c.n else if c.k<1∨c.k>3 then 2 else if (pre.any fun d=>d.n.toList==c.n.toList)=true then 9 else 0
def qJ:List cu→List cu→Int
 | _,[]=>0
 | pre,c::r=>if mU pre c≠0 then mU pre c else qJ (pre++[c]) r
def fB(l:List cu):Int:=if l.length<1∨l.length>6 then 1 else qJ [] l
theorem ZL(hi:i<l.length)(h:mU (l.take i) l[i]=0):qJ (l.take i) (l.drop i)=qJ (l.take (i+1)) (l.drop (i+1)):=by
 rw[drop_eq_getElem_cons hi,take_succ_eq_append_getElem hi];exact if_neg (by simp[h])
theorem HZ(hi:i<l.length)(h:mU (l.take i) l[i]≠0):qJ (l.take i) (l.drop i)=mU (l.take i) l[i]:=by
 rw[drop_eq_getElem_cons hi];exact if_pos h
theorem abn(hi:¬i<l.length):qJ (l.take i) (l.drop i)=0:=by
 rw[drop_of_length_le w4];rfl
theorem HX(S:List ag):S.Perm (S++[]):=by rw[append_nil]
variable {G:List (Nat×List Value)}
theorem Ib(ls:List cu)(g:Nat)(E:List D)(S:List ag)(p:cu→Bool)(fi:∀args w,(callFunc g args).run Tryz.prog w = .ok (.enter g args) w)(hp:∀x∈ls,VC Tryz.prog G g (.agg (cC x)::E) S (fun r S'=>r = .v (.bool (p x))∧S'=S))(hlen:ls.length≤1000000):VC Tryz.prog G 119 [.list 2 (ls.flatMap cC) ls.length,.ek (.func g) E] S (fun r S'=>r = .v (.int .i64 (dM p ls))∧S'=S):=by
 refine VC.body func119 rfl ntmps119 aO fun X0 w0 aZ=>?_;unfold cC at hp;exact VJ
theorem Yu(ls:List cu)(g:Nat)(E:List D)(S:List ag)(p:cu→Bool)(fi:∀args w,(callFunc g args).run Tryz.prog w = .ok (.enter g args) w)(hp:∀x∈ls,VC Tryz.prog G g (.agg (cC x)::E) S (fun r S'=>r = .v (.bool (p x))∧S'=S))(hlen:ls.length≤1000000):VC Tryz.prog G 106 [.list 2 (ls.flatMap cC) ls.length,.ek (.func g) E] S (fun r S'=>r = .v (.bool (ls.any p))∧S'=S):=by
 refine VC.body func106 rfl ntmps106 aO fun X0 w0 aZ=>?_;refine aC 1 ?_;refine OD.wk (Wk.dN (n:=9) (l':=[(0,_),(1,_)]) (S':=S) rfl mE fg) ?_;refine OD.nil ?_;refine aC 2 ?_;refine OD.call an rfl rfl rfl call119 (Ib ls g E S p fi hp hlen) ⟨tc rfl lk,tc rfl lk,trivial⟩ (HX _) ?_;rintro _ S2 ⟨rfl,iq⟩;rw[iq];clear iq;refine aD 2 ?_;refine OD.wk (Wk.dN (n:=9) (l':=[(4,_)]) (S':=S) rfl mE fg) ?_;refine OD.nil ?_;refine aJ S ?_;refine⟨?_,rfl⟩;rw[PS]
theorem ac4(h x:cu)(b:Nat):VC Tryz.prog G 107 [.agg (cC h),.v (.pointer (some ⟨b,0,none⟩))] [⟨b,111,2,cC x⟩] (fun r S=>r = .v (.bool (h.n.toList==x.n.toList))∧S=[⟨b,111,2,cC x⟩]):=by
 refine VC.body func107 rfl ntmps107 aO fun X0 w0 aZ=>?_;unfold cC;refine bX ?_;refine OD.box (ds:=[_,_]) an rfl rfl ot rfl rfl (fun b2=>?_);refine aj 9 [1,2] ?_;refine ae [3] ?_;refine aJ [⟨b,111,2,cC x⟩] ?_;exact⟨rfl,rfl⟩
theorem ac5(hm:(3,marksC)∈G)(hw:(2,wordsC)∈G)(l:List cu)(hl:l.length≤maxLen)(aS:∀c∈l,c.n.size≤maxLen):VP Tryz.prog G 68 [.list 2 (l.flatMap cC) l.length] (.v (.int .i64 (fB l))):=by
 refine VC.body func68 rfl ntmps68 aO fun X0 w0 aZ=>?_;have dy:maxLen=9223372036854775807:=rfl;refine ae [0] ?_;refine aC 4 ?_;refine bS 9 (fun Z O=>?_) (fun Z O=>?_)
 ·refine bf [0,13] ?_;refine eC ?_;have aT:fB l=1:=if_pos w4;exact xE
 refine bf [0,13] ?_;refine aq (fun az aH=>?_) (fun az aH=>?_)
 ·have aT:fB l=1:=if_pos w4;exact xE
 have h16:¬(l.length<1∨l.length>6):=(by omega)
 have E:fB l=qJ (l.take 0) (l.drop 0):=if_neg h16;refine ae [0,14,15,16] ?_;refine eB [0,14,15] (fun aW _ (i:Nat) aK=>(i≤l.length)∧(fB l=qJ (l.take i) (l.drop i))∧aK=(⟨41,(16,.v (.int .i64 (i:Nat)))::aW,[]⟩:St)) (fun (i:Nat)=>l.length-i) 0 ⟨(Nat.zero_le _),E,rfl⟩ ?_;rintro i _ ⟨hi,hinv,rfl⟩;refine ae [0,14,15,16,17] ?_;refine aq (fun aG aV=>?_) (fun aG aV=>?_)
 ·have aa:i<l.length:=(by omega)
  refine aC 3 ?_;refine OD.alloc (ds:=[_,_]) an rfl rfl zeroValue111 rfl (fun b4=>?_);refine aD 1 ?_;refine aN 0 [_,_] sizeOf111 ?_;refine aj 41 [0,3,4,14,15,16] ?_;refine cL [0,3,4,5,14,15,16] (td hm hw l[i].n (aS _ (getElem_mem aa))) ?_;refine ae [0,3,4,5,14,15,16,25] ?_;refine aq (fun aY bz=>?_) (fun aY bz=>?_)
  ·have hne:cM l[i].n≠0:=(by simpa using aY)
   have hf:mU (l.take i) l[i]=cM l[i].n:=if_pos hne;have aT:fB l=cM l[i].n:=(by rw[hinv,HZ aa (by rw[hf];exact hne),hf])
   refine ae [2] ?_;exact n8
  have gC:¬cM l[i].n≠0:=(by simpa using aY)
  refine aC 4 ?_;refine bS 30 (fun U I=>?_) (fun U I=>?_)
  ·refine bf [0,3,4,14,15,16,34] ?_;refine eC ?_;exact z130
  refine bf [0,3,4,14,15,16,34] ?_;refine aq (fun bC bY=>?_) (fun bC bY=>?_)
  ·exact z130
  have hk:¬(l[i].k<1∨l[i].k>3):=(by omega)
  refine aC 2 ?_;refine bN (ei (l:=0) rfl ot trivial ⟨_,ot⟩ (by first|exact ow lm (fun h=>by cases h) runUnderlying38 sizeOf111 w4|exact oA (fun h=>by cases h) runUnderlying38 sizeOf111 w4|exact nL (fun _=>rfl) (fun h=>by cases h) runUnderlying38 sizeOf111 w4 w4)) ?_;refine bN (oW (ds:=[_]) rfl ⟨ot,trivial⟩) ?_;refine OD.call an rfl rfl rfl call106 (Yu (l.take i) 107 [.v (.pointer (some ⟨b4,0,none⟩))] _ (fun d=>d.n.toList==l[i].n.toList) call107 (fun h _=>ac4 h l[i] b4) oH) ⟨tc rfl lk,tc rfl lk,trivial⟩ (jX (k:=0) rfl) ?_;rintro _ S2 ⟨rfl,iq⟩;rw[iq];clear iq;refine aj 41 [0,14,15,16,39] ?_;refine aq (fun cy de=>?_) (fun cy de=>?_)
  ·have hf:mU (l.take i) l[i]=9:=(by unfold mU;rw[if_neg gC,if_neg hk,if_pos cy])
   have aT:fB l=9:=(by rw[hinv,HZ aa (by rw[hf];decide),hf])
   refine ae [2] ?_;exact n8
  have hf:mU (l.take i) l[i]=0:=(by unfold mU;rw[if_neg gC,if_neg hk,if_neg (by rw[cy];simp)])
  have jb:=hinv.trans (ZL aa hf);refine cj [0,14,15,16] ?_;refine⟨(i+1),_,cx,aM,w4,jb,rfl⟩
 have aT:fB l=0:=(by rw[hinv];exact abn w4)
 refine ae [2] ?_;exact ue

end Go.Proofs.YtbcmjoaggammcaaGreatDoor.Pc
namespace Go.Proofs.YtbcmjoaggammcaaGreatDoor.Pa
open List
open Go.Proofs.Tryz
open Go.RowKit V Pk Vl Go.Proofs.YtbcmjoaggammcaaGreatDoor.Nm Pc
structure cQ where
 kind:Int
 table:ByteArray
 av:List cu
 row:List Vl
 names:List ByteArray
 count:Bool
 ah:List aX
 order:ByteArray
 down:Bool
 gN:Int
 set:ByteArray
 bE:List aX
def iD:cQ:=⟨0,⟨#[]⟩,[],[],[],false,[],⟨#[]⟩,false,-1,⟨#[]⟩,[]⟩

end Go.Proofs.YtbcmjoaggammcaaGreatDoor.Pa
namespace Go.Proofs.YtbcmjoaggammcaaGreatDoor.Pa







open List
open Go.Proofs.Tryz
open Go.RowKit V Pk Vl Go.Proofs.YtbcmjoaggammcaaGreatDoor.Nm Pc
variable {G:List (Nat×List Value)}
variable {α:Type}
theorem DX{ls:List (List α)}{j:Nat}(h:j<ls.length):(ls.take (j+1)).flatten=(ls.take j).flatten++ls[j]:=by
 rw[take_succ_eq_append_getElem h,flatten_append,flatten_cons,flatten_nil,append_nil]
theorem NG{ls:List (List α)}{j:Nat}(h:j<ls.length):((ls.take (j+1)).flatten).length=((ls.take j).flatten).length+ls[j].length:=by rw[DX h,length_append]
theorem NL(ls:List (List α))(j:Nat):((ls.take j).flatten).length≤ls.flatten.length:=by
 conv=>rhs;rw[←take_append_drop j ls,flatten_append,length_append]
 omega
theorem ZM{e sz b cap:Nat}(h:cap≤maxLen):bw e sz [] 0 (some ⟨b,0,none⟩) cap [⟨b,e,cap*sz,[]⟩]:=.inr ⟨b,rfl,Nat.zero_le _,h,rfl⟩

end Go.Proofs.YtbcmjoaggammcaaGreatDoor.Pa
namespace Go.Proofs.YtbcmjoaggammcaaGreatDoor.Pa



open List
open Go.Proofs.Tryz
open Go.RowKit V Pk Vl Go.Proofs.YtbcmjoaggammcaaGreatDoor.Nm Pc
variable {G:List (Nat×List Value)}
variable {α:Type} {i n:Nat} {ts h:List (List Tk)} {o:aX}
def aeP:List ByteArray:=[⟨#[]⟩,⟨#[66,79,79,76]⟩,⟨#[73,78,84]⟩,⟨#[84,69,88,84]⟩]

theorem lq(t:Tk):(cT t).all V.one=true:=rfl
def bD(s:ByteArray):Tk:=⟨1,s,0⟩
def dP(s:ByteArray):Tk:=⟨4,s,0⟩
def cK(l:List Tk):List D:=[.list 3 (l.flatMap cT) l.length]
theorem gb(l:List Tk):(cK l).length=1:=rfl
theorem pc(l:List Tk):(cK l).all V.one=true:=rfl
theorem s5{β:Type}(f:α→β){l:List α}(hi:i<l.length):(l.take i).map f++[f l[i]]=(l.take (i+1)).map f:=by rw[take_succ_eq_append_getElem hi,map_append];rfl
theorem IT{β:Type}(f:α→β){l:List α}(hi:l.length≤i):(l.take i).map f=l.map f:=by rw[take_of_length_le hi]
theorem mM(s:ByteArray):VP Tryz.prog G 79 [.v (.string s)] (.agg (cT (dP s))):=by
 refine VC.body func79 rfl ntmps79 aO fun X0 w0 aZ=>?_;exact z127
theorem qF(s:ByteArray):VP Tryz.prog G 111 [.v (.string s)] (.agg (cT (bD s))):=by
 refine VC.body func111 rfl ntmps111 aO fun X0 w0 aZ=>?_;exact z127
theorem Au:(Tryz.prog.info? 149).map (fun i=>(i.zero,i.size,i.bytes))=some (some (.agg #[.int .i64 0,.string ⟨#[]⟩,.int .i64 0]),3,32):=by kernel_rfl
theorem yJ(l:List ByteArray)(hl:l.length≤10):VC Tryz.prog G 74 [.list 1 (l.flatMap cS) l.length] [] (gh cT 149 3 (l.map bD)):=by
 refine VC.body func74 rfl ntmps74 aO fun X0 w0 aZ=>?_;have dy:maxLen=9223372036854775807:=rfl;refine ae [0] ?_;refine bX ?_;refine bf [0,3] ?_;refine ae [3,6,7,8] ?_;refine CD.block ?_;refine mJ (fun (E:Nat×Option Addr×Nat×List ag) aK=>match E with|(i,O,U,Sa)=>(i≤l.length)∧(bw 149 3 (((l.take i).map bD).flatMap cT) ((l.take i).map bD).length O U Sa)∧aK=(⟨19,[(3,.v (.slice O ((l.take i).map bD).length U)),(6,.list 1 (l.flatMap cS) l.length),(7,.v (.int .i64 (l.length:Nat))),(8,.v (.int .i64 (i:Nat)))],(Sa)⟩:St)) (fun (E:Nat×Option Addr×Nat×List ag)=>match E with|(i,O,U,Sa)=>l.length-i) (0,none,0,[]) ⟨(Nat.zero_le _),(bw.cast iw kJ),rfl⟩ (aM (h:=by repeat (first|exact trivial|refine⟨(by (repeat (first|exact fw|(apply fP;focus (first|rfl|(simp;done)|(congr 2;omega)|(apply eE;exact s5 bD aa)|(apply eE;simp;done)))|(apply fA;focus rfl)));done),?_⟩))) ?_;rintro⟨i,O,U,Sa⟩ _ ⟨hi,oe,rfl⟩;refine ae [3,6,7,8,9] ?_;refine aq (fun az aH=>?_) (fun az aH=>?_)
 ·have aa:i<l.length:=(by omega)
  refine ae [3,5,6,7,8] ?_;refine dL 2 ?_;refine dR call111 (qF l[i]) ?_;refine ee (bZ 0 [_]) [.int .i64 0,.string ⟨#[]⟩,.int .i64 0] [_,_,_] zeroValue149 runUnderlying114 sizeOf149 (fun b15=>?_);refine fG 0 15 3 1 ?_;refine OD.dZ (ls:=((l.take i).map bD)) (new:=[bD l[i]]) (Sq:=Sa) iy lq an rfl rfl underlying114 Au rfl w7 ot oe (dx (A:=[])) ot bq (by have dy:maxLen=9223372036854775807:=rfl;(try simp only[length_append,length_cons,length_nil,length_map,length_take]);omega) (by have dy:maxLen=9223372036854775807:=rfl;(try simp only[length_append,length_cons,length_nil,length_map,length_take]);omega) (fun Z I ahL ahM=>?_);refine OD.perm (dV (S1:=[⟨Z,149,I*3,flatMap cT (((l.take i).map bD)++[bD l[i]])⟩]) (A:=[])) ?_;refine aj 19 [3,6,7,8] ?_;refine cj [3,6,7,8] ?_;refine⟨((i+1),(some ⟨Z,0,none⟩),I,[⟨Z,149,I*3,flatMap cT (((l.take i).map bD)++[bD l[i]])⟩]),_,cx,(aM (h:=by repeat (first|exact trivial|refine⟨(by (repeat (first|exact fw|(apply fP;focus (first|rfl|(simp;done)|(congr 2;omega)|(apply eE;exact s5 bD aa)|(apply eE;simp;done)))|(apply fA;focus rfl)));done),?_⟩))),w4,(bw.cast (bI ahL ahM) (by exact s5 bD aa)),rfl⟩
 have ff:=IT bD (show l.length≤i by omega);refine ae [2] ?_;refine aJ _ ?_;exact gh.cast (gh.mk oe) ff
theorem rN(l:List ByteArray)(hl:l.length≤10):VP Tryz.prog G 74 [.list 1 (l.flatMap cS) l.length] (.list 3 ((l.map bD).flatMap cT) (l.map bD).length):=VC.given iy (yJ l hl)
def kH(ts:List (List Tk)):Nat→List Tk
 | 0=>[dP ⟨#[40]⟩]
 | i+1=>kH ts i++(if i>0 then [dP ⟨#[44]⟩] else [])++ts.getD i []
def lX(ts:List (List Tk)):List Tk:=kH ts ts.length++[dP ⟨#[41]⟩]
theorem Eu{ts:List (List Tk)}(h:∀x∈ts,x.length≤10):∀i,(kH ts i).length≤1+11*i
 | 0=>Nat.le_refl _
 | i+1=>by
  have E:=Eu h i;have h2:(ts.getD i []).length≤10:=by
   rw[getD_eq_getElem?_getD];cases hx:ts[i]? with
   | none=>exact Nat.zero_le _
   | some x=>exact h x (mem_of_getElem? hx)
  have h3:(if i>0 then [dP ⟨#[44]⟩] else []).length≤1:=(by split<;>simp)
  unfold kH;rw[length_append,length_append];omega
theorem HY(hi:i<ts.length)(h:0<i):(kH ts i++[dP ⟨#[44]⟩])++ts[i]=kH ts (i+1):=by
 rw[kH,if_pos h,getD_eq_getElem?_getD,getElem?_eq_getElem hi];rfl
theorem Hs(hi:i<ts.length)(h:¬0<i):kH ts i++ts[i]=kH ts (i+1):=by
 rw[kH,if_neg h,append_nil,getD_eq_getElem?_getD,getElem?_eq_getElem hi];rfl
theorem RH(ts:List (List Tk))(hl:ts.length≤10)(Lp:∀x∈ts,x.length≤10):VP Tryz.prog G 75 [.list 1 (ts.flatMap cK) ts.length] (.list 3 ((lX ts).flatMap cT) (lX ts).length):=by
 refine VC.body func75 rfl ntmps75 aO fun X0 w0 aZ=>?_;have dy:maxLen=9223372036854775807:=rfl;refine ae [0] ?_;refine bX ?_;refine dR call79 (mM ⟨#[40]⟩) ?_;refine ee (bZ 0 [_]) [.int .i64 0,.string ⟨#[]⟩,.int .i64 0] [_,_,_] zeroValue149 runUnderlying114 sizeOf149 (fun b7=>?_);refine OD.perm (dV (S1:=[⟨b7,149,1*3,flatMap cT ([dP ⟨#[40]⟩])⟩]) (A:=[])) ?_;refine aj 29 [0,3] ?_;refine ae [3,8,9,10] ?_;refine CD.block ?_;refine mJ (fun (E:Nat×Option Addr×Nat×List ag) aK=>match E with|(i,I,O,Sa)=>(i≤ts.length)∧(bw 149 3 ((kH ts i).flatMap cT) (kH ts i).length I O Sa)∧aK=(⟨29,[(3,.v (.slice I (kH ts i).length O)),(8,.list 1 (ts.flatMap cK) ts.length),(9,.v (.int .i64 (ts.length:Nat))),(10,.v (.int .i64 (i:Nat)))],(Sa)⟩:St)) (fun (E:Nat×Option Addr×Nat×List ag)=>match E with|(i,I,O,Sa)=>ts.length-i) (0,(some ⟨b7,0,none⟩),1,[⟨b7,149,1*3,flatMap cT ([dP ⟨#[40]⟩])⟩]) ⟨(Nat.zero_le _),(bw.cast (bI (g:=cT) (sz:=3) (e:=149) (ls:=[dP ⟨#[40]⟩]) (Nat.le_refl _) (show 1≤maxLen by decide)) (by rfl)),rfl⟩ (aM (h:=by repeat (first|exact trivial|refine⟨(by (repeat (first|exact fw|(apply fP;focus (first|rfl|(simp;done)|(congr 2;omega)|(apply eE;first|exact HY aa w4|exact Hs aa w4)|(apply eE;rfl)|(apply eE;simp;done)))|(apply fA;focus rfl)));done),?_⟩))) ?_;rintro⟨i,I,O,Sa⟩ _ ⟨hi,oe,rfl⟩;refine ae [3,8,9,10,11] ?_
 refine aq (fun az aH=>?_) (fun az aH=>?_)
 ·have aa:i<ts.length:=(by omega)
  refine ae [3,4,5,8,9,10] ?_;refine ae [3,5,8,9,10,16] ?_;refine aq (fun aG aV=>?_) (fun aG aV=>?_)
  ·refine dL 1 ?_;refine dR call79 (mM ⟨#[44]⟩) ?_;refine ee (bZ 0 [_]) [.int .i64 0,.string ⟨#[]⟩,.int .i64 0] [_,_,_] zeroValue149 runUnderlying114 sizeOf149 (fun b19=>?_);refine fG 0 19 3 1 ?_;refine OD.dZ (ls:=(kH ts i)) (new:=[dP ⟨#[44]⟩]) (Sq:=Sa) iy lq an rfl rfl underlying114 Au rfl w7 ot oe (dx (A:=[])) ot bq w8 w8 (fun MO U ahN ahO=>?_);refine OD.perm (dV (S1:=[⟨MO,149,U*3,flatMap cT ((kH ts i)++[dP ⟨#[44]⟩])⟩]) (A:=[])) ?_;refine aj 29 [3,5,8,9,10] ?_;refine dL 2 ?_;refine OD.oV (ls:=((kH ts i)++[dP ⟨#[44]⟩])) (new:=ts[i]) (Sq:=[⟨MO,149,U*3,flatMap cT ((kH ts i)++[dP ⟨#[44]⟩])⟩]) iy lq an rfl rfl underlying114 Au rfl w7 runUnderlying114 sizeOf149 ot (bI ahN ahO) (dx (A:=[])) ot w8 w8 (fun Uo Up V3 Uq=>?_);exact V2
  refine dL 2 ?_;refine OD.oV (ls:=(kH ts i)) (new:=ts[i]) (Sq:=Sa) iy lq an rfl rfl underlying114 Au rfl w7 runUnderlying114 sizeOf149 ot oe (dx (A:=[])) ot w8 w8 (fun Uo Up V3 Uq=>?_);exact V2
 have tX:i=ts.length:=(by omega)
 have mW:kH ts i++[dP ⟨#[41]⟩]=lX ts:=(by unfold lX;rw[←tX])
 refine aC 1 ?_;refine dR call79 (mM ⟨#[41]⟩) ?_;refine ee (bZ 0 [_]) [.int .i64 0,.string ⟨#[]⟩,.int .i64 0] [_,_,_] zeroValue149 runUnderlying114 sizeOf149 (fun b27=>?_);refine fG 0 27 3 1 ?_;refine OD.dZ (ls:=(kH ts i)) (new:=[dP ⟨#[41]⟩]) (Sq:=Sa) iy lq an rfl rfl underlying114 Au rfl w7 ot oe (dx (A:=[])) ot bq w8 w8 (fun MK Z ahP ahQ=>?_);refine OD.perm (dV (S1:=[⟨MK,149,Z*3,flatMap cT ((kH ts i)++[dP ⟨#[41]⟩])⟩]) (A:=[])) ?_;refine aj 29 [2] ?_;refine CD.gP (t:=2) (Sq:=[⟨MK,149,Z*3,flatMap cT ((kH ts i)++[dP ⟨#[41]⟩])⟩]) lk (bI ahP ahQ) (cq iy _) (dx (A:=[])) ?_;refine aJ [] ?_;rw[mW];exact⟨rfl,rfl⟩
def jd(v:Vl):List Tk :=
 if v.k=0 then [bD ⟨#[78,85,76,76]⟩]
 else if v.k=1 then [bD (if v.n=0 then ⟨#[70,65,76,83,69]⟩ else ⟨#[84,82,85,69]⟩)]
 else if v.k=3 then [⟨3,v.s,0⟩]
 else if v.n<0 then [dP ⟨#[45]⟩,⟨2,⟨#[]⟩,-v.n⟩] else [⟨2,⟨#[]⟩,v.n⟩]
def mK(v:Vl):Prop:=(v.k=1→v.n=0∨v.n=1)∧-9223372036854775807≤v.n∧v.n≤9223372036854775807
theorem OG(v:Vl):0<(jd v).length∧(jd v).length≤2:=by
 unfold jd;repeat' split
 all_goals exact⟨by simp,by simp⟩
def Fj:List ByteArray:=[⟨#[]⟩,⟨#[]⟩,⟨#[]⟩,⟨#[]⟩,⟨#[]⟩,⟨#[]⟩,⟨#[61]⟩,⟨#[60]⟩,⟨#[43]⟩,⟨#[45]⟩,⟨#[42]⟩]
def zf(k:Int):Tk:=if k=3 then bD ⟨#[65,78,68]⟩ else if k=4 then bD ⟨#[79,82]⟩ else dP (Fj.getD k.toNat ⟨#[]⟩)
theorem af6{j:Nat}(h:j<11):(Fj.map fun s=>D.v (.string s))[j*1]?=some (.v (.string (Fj[j]'h))):=by
 rw[Nat.mul_one,getElem?_map,getElem?_eq_getElem h];rfl
theorem NM(v:Vl)(h:mK v):VP Tryz.prog G 76 [.agg (cV v)] (.list 3 ((jd v).flatMap cT) (jd v).length):=by
 refine VC.body func76 rfl ntmps76 aO fun X0 w0 aZ=>?_;obtain⟨h1,h2,h3⟩:=h;unfold cV;refine bX ?_;refine OD.box (ds:=[_,_,_]) an rfl rfl ot rfl rfl (fun b1=>?_);refine aj 42 [1] ?_;refine ae [1,3] ?_;refine aq (fun az aH=>?_) (fun az aH=>?_)
 ·refine cL [2] (rN [⟨#[78,85,76,76]⟩] zP) ?_;exact Gg
 refine ae [1,9] ?_;refine aq (fun aG aV=>?_) (fun aG aV=>?_)
 ·have dI:v.k=1:=(by simpa using aG)
  obtain⟨j,hj,I⟩:∃j:Nat,v.n=(j:Int)∧j<2:=(by (rcases h1 dI with h|h;exact⟨0,h,by decide⟩;exact⟨1,h,by decide⟩))
  rw[hj];refine cN [2] ?_;refine MA (g:=cS) ([⟨#[70,65,76,83,69]⟩,⟨#[84,82,85,69]⟩]) ?_;refine aQ 3 ?_ (h:=by exact(cJ (mk:=Op.load 9) rfl ot (by exact pZ (i:=j) ja isAgg9 (by show j<2;omega) rfl)));refine cU (rN [([⟨#[70,65,76,83,69]⟩,⟨#[84,82,85,69]⟩]:List ByteArray)[j]'(by show j<2;omega)] zP) ?_;refine bH ?_;exact Gg
 refine ae [1,20] ?_;refine aq (fun aY bz=>?_) (fun aY bz=>?_)
 ·refine aC 3 ?_;refine ee (bZ 0 [_]) [.int .i64 0,.string ⟨#[]⟩,.int .i64 0] [_,_,_] zeroValue149 runUnderlying114 sizeOf149 (fun E=>?_);refine OD.perm (dV (S1:=[⟨E,149,1*3,flatMap cT ([(⟨3,v.s,0⟩:Tk)])⟩]) (A:=[_])) ?_;refine aj 42 [2] ?_;refine CD.gP (t:=2) (Sq:=[⟨E,149,1*3,flatMap cT ([(⟨3,v.s,0⟩:Tk)])⟩]) lk (bI (g:=cT) (sz:=3) (e:=149) (ls:=[(⟨3,v.s,0⟩:Tk)]) (Nat.le_refl _) (show 1≤maxLen by decide)) (cq iy _) (dx (A:=[_])) ?_;exact Gg
 refine ae [1,28] ?_;refine aq (fun bC bY=>?_) (fun bC bY=>?_)
 ·refine cN [2] ?_;refine cU (mM ⟨#[45]⟩) ?_;refine aQ 2 ?_ (h:=by exact(Ed rfl ot (Jr (wrap_i64 w4 w4))));refine bH ?_;exact Gg
 refine aC 3 ?_;refine ee (bZ 0 [_]) [.int .i64 0,.string ⟨#[]⟩,.int .i64 0] [_,_,_] zeroValue149 runUnderlying114 sizeOf149 (fun vw=>?_);refine OD.perm (dV (S1:=[⟨vw,149,1*3,flatMap cT ([(⟨2,⟨#[]⟩,v.n⟩:Tk)])⟩]) (A:=[_])) ?_;refine aj 42 [2] ?_;refine CD.gP (t:=2) (Sq:=[⟨vw,149,1*3,flatMap cT ([(⟨2,⟨#[]⟩,v.n⟩:Tk)])⟩]) lk (bI (g:=cT) (sz:=3) (e:=149) (ls:=[(⟨2,⟨#[]⟩,v.n⟩:Tk)]) (Nat.le_refl _) (show 1≤maxLen by decide)) (cq iy _) (dx (A:=[_])) ?_;refine aJ [] ?_;refine⟨?_,rfl⟩;unfold jd;first|(rw[if_pos aH];first|done|rfl)|(rw[if_neg aH,if_pos dI,hj];rcases j with _|_|j<;>first|rfl|omega)|(rw[if_neg aH,if_neg aV,if_pos bz];first|done|rfl)|(rw[if_neg aH,if_neg aV,if_neg bz,if_pos w4,show -v.n=0-v.n by omega];first|done|rfl)|(rw[if_neg aH,if_neg aV,if_neg bz,if_neg w4];first|done|rfl)
theorem YU(k:Int)(h:k=3∨k=4∨6≤k∧k≤10):VP Tryz.prog G 113 [.v (.int .i64 k)] (.agg (cT (zf k))):=by
 refine VC.body func113 rfl ntmps113 aO fun X0 w0 aZ=>?_;refine bX ?_;refine OD.alloc (ds:=[_,_,_]) an rfl rfl zeroValue149 rfl (fun b2=>?_);refine aj 14 [0,2] ?_;refine ae [0,2,3] ?_;refine ae [0,2,3,4] ?_;refine aq (fun az aH=>?_) (fun az aH=>?_)
 ·refine bX ?_;refine dR call111 (qF ⟨#[65,78,68]⟩) ?_;exact V8
 refine ae [0,2,7] ?_;refine aq (fun aG aV=>?_) (fun aG aV=>?_)
 ·refine bX ?_;refine dR call111 (qF ⟨#[79,82]⟩) ?_;exact V8
 have lJ:¬k=3:=(by simpa using az)
 have xF:¬k=4:=(by simpa using aG)
 obtain⟨j,rfl⟩:∃j:Nat,k=(j:Int):=⟨k.toNat,by omega⟩
 have hj:j<11:=(by omega)
 refine bX ?_;refine bN (DI (pl:=[(6,_),(7,_),(8,_),(9,_),(10,_)]) (ds:=[_,_,_,_,_,_,_,_,_,_,_]) rfl zeroValue216 runUnderlying216 sizeOf9 ⟨rfl,bJ,rfl,bJ,rfl,bJ,rfl,bJ,rfl,bJ,trivial⟩ rfl rfl) ?_;refine aD 1 ?_;refine bN (YH (j:=j) rfl ot ot runUnderlying216 sizeOf9 isAgg9 rfl hj (af6 hj)) ?_;refine dR call79 (mM (Fj[j]'hj)) ?_;refine aN 0 [_,_,_] sizeOf149 ?_;refine aj 14 [2] ?_;refine aJ [] ?_;refine⟨?_,rfl⟩;unfold zf;first|(rw[if_neg lJ,if_neg xF,show((j:Nat):Int).toNat=j from rfl,getD_eq_getElem?_getD,getElem?_eq_getElem hj];rfl)|(rw[if_pos xx];rfl)|(rw[if_neg xx,if_pos vq];rfl)

def CN(q:List Tk):List D:=[.list 3 (q.flatMap cT) q.length]
theorem NU:(Tryz.prog.info? 149).map (fun i=>(i.zero,i.size,i.bytes))=some (some (.agg #[.int .i64 0,.string ⟨#[]⟩,.int .i64 0]),3,32):=by kernel_rfl
theorem ZN(n:Nat)(h0:0<n)(hn:n≤100000):VC Tryz.prog G 112 [.v (.slice none 0 0),.v (.int .i64 (n:Nat))] [] (fun r S=>∃b cap,cap≤maxLen∧r = .v (.slice (some ⟨b,0,none⟩) 0 cap)∧S=[⟨b,149,cap*3,[]⟩]):=by
 refine VC.body func112 rfl ntmps112 aO fun X0 w0 aZ=>?_;refine ae [0,1] ?_;refine ae [0,1,6] ?_;refine aq (fun az aH=>?_) (fun az aH=>?_)
 ·exact absurd az ua
 refine cN [0,1] ?_;refine aQ 2 ?_ (h:=by exact(DW rfl rfl ot runUnderlying114));refine aQ 1 ?_ (h:=by exact(cJ (mk:=fun y=>.call {callee:=.builtin .len,args:=#[y],argTypes:=#[114]}) rfl ot (Ro rfl runUnderlying114)));refine bH ?_;refine ae [0,1,16] ?_;refine aq (fun aG aV=>?_) (fun aG aV=>?_)
 ·refine dL 2 ?_;refine bN (DW rfl rfl ot runUnderlying114) ?_;refine bN (DG rfl ot rfl ⟨_,_,ot,rfl⟩ runUnderlying114 sizeOf149) ?_;refine aD 1 ?_;refine OD.abh (m:=n) (sz:=3) an rfl rfl underlying114 underlying3 NU rfl w7 ot (Eq.trans ot (congrArg (fun z=>D.v (.int .i64 z)) (show((n:Nat):Int)-(0-0)=((n:Nat):Int) by omega))) h0 Fx w4 (fun b cap h1 h2=>?_);refine aD 1 ?_;refine bN (cJ (mk:=fun y=>.call {callee:=.builtin .len,args:=#[y],argTypes:=#[114]}) rfl ot (Ro rfl runUnderlying114)) ?_;refine bN (ei (l:=0) (h:=0) rfl ot trivial ⟨_,ot⟩ (by first|exact oA (fun h=>by cases h) runUnderlying114 sizeOf149 w4|exact nL (fun _=>rfl) (fun h=>by cases h) runUnderlying114 sizeOf149 w4 w4)) ?_;refine aj 27 [0] ?_;refine ae [4] ?_;refine aJ [⟨b,149,cap*3,[]⟩] ?_;exact⟨b,cap,h2,rfl,rfl⟩
 exact absurd aG (by simp at aG;omega)
theorem Yv(ls:List (List Tk))(W5:ls.length≤1000)(h0:0<ls.flatten.length)(hn:ls.flatten.length≤100000):VC Tryz.prog G 78 [.list 1 (ls.flatMap CN) ls.length] [] (fun r S=>∃ad cap,r = .v (.slice ad ls.flatten.length cap)∧bw 149 3 (ls.flatten.flatMap cT) ls.flatten.length ad cap S):=by
 refine VC.body func78 rfl ntmps78 aO fun X0 w0 aZ=>?_;refine ae [0] ?_;refine ae [0,3] ?_;refine ae [0,3,9,10,11] ?_;refine CD.block ?_;refine mJ (fun (j:Nat) aK=>(j≤ls.length)∧aK=(⟨36,[(0,.list 1 (ls.flatMap CN) ls.length),(3,.v (.int .i64 ((((ls.take j).flatten).length:Nat):Int))),(9,.list 1 (ls.flatMap CN) ls.length),(10,.v (.int .i64 (ls.length:Nat))),(11,.v (.int .i64 (j:Nat)))],[]⟩:St)) (fun (j:Nat)=>ls.length-j) 0 ⟨(Nat.zero_le _),rfl⟩ (aM (h:=by repeat (first|exact trivial|refine⟨(by (repeat (first|exact fw|(apply fP;focus (first|rfl|(congr 2;omega)|(simp;done)))|(apply fA;focus rfl)));done),?_⟩))) ?_;rintro j _ ⟨hj,rfl⟩;refine ae [0,3,9,10,11,12] ?_;refine aq (fun az aH=>?_) (fun az aH=>?_)
 ·have aa:j<ls.length:=(by simp at az;omega)
  have O:=NG aa;have hle:=NL ls (j+1);refine ae [0,3,5,9,10,11] ?_;refine cN [0,3,9,10,11] ?_;refine aQ 3 ?_ (h:=by exact(cZ (r:=.int .i64 ((((ls.take (j+1)).flatten).length:Nat):Int)) rfl ot ot (j3 (by rw[show((((ls.take j).flatten).length:Nat):Int)+(ls[j].length:Nat)=((((ls.take (j+1)).flatten).length:Nat):Int) by omega];exact wrap_i64 w4 w4))));refine bH ?_;refine ae [0,3,9,10,11,20] ?_;refine aq (fun aG aV=>?_) (fun aG aV=>?_)
  ·exact absurd aG (by simp at aG;omega)
  refine cj [0,3,9,10,11] ?_;refine⟨(j+1),_,cx,(aM (h:=by repeat (first|exact trivial|refine⟨(by (repeat (first|exact fw|(apply fP;focus (first|rfl|(congr 2;omega)|(simp;done)))|(apply fA;focus rfl)));done),?_⟩))),w4,rfl⟩
 obtain rfl:j=ls.length:=(by simp at az;omega)
 rw[take_length];refine aC 1 ?_;refine OD.call an rfl rfl rfl call112 (ZN ls.flatten.length h0 hn) ⟨bJ,ot,trivial⟩ (Perm.refl _) ?_;rintro _ _ ⟨b,cp,xB,rfl,rfl⟩;refine OD.perm (Perm.refl _) ?_;refine aj 36 [0,6] ?_;refine ae [6,25,26,27] ?_;refine CD.block ?_;refine mJ (fun (E:Nat×Option Addr×Nat×List ag) aK=>match E with|(j,dK,cY,Sx)=>(j≤ls.length)∧(bw 149 3 (((ls.take j).flatten).flatMap cT) ((ls.take j).flatten).length dK cY Sx)∧aK=(⟨36,[(6,.v (.slice dK ((ls.take j).flatten).length cY)),(25,.list 1 (ls.flatMap CN) ls.length),(26,.v (.int .i64 (ls.length:Nat))),(27,.v (.int .i64 (j:Nat)))],(Sx)⟩:St)) (fun (E:Nat×Option Addr×Nat×List ag)=>match E with|(j,dK,cY,Sx)=>ls.length-j) (0,(some ⟨b,0,none⟩),cp,[⟨b,149,cp*3,[]⟩]) ⟨(Nat.zero_le _),(bw.cast (ZM xB) (by rfl)),rfl⟩ (aM (h:=by repeat (first|exact trivial|refine⟨(by (repeat (first|exact fw|(apply fP;focus (first|rfl|(simp;done)|(congr 2;omega)|(apply eE;rw[DX aa])|(apply eE;rfl)|(apply eE;simp;done)))|(apply fA;focus rfl)));done),?_⟩))) ?_;rintro⟨j,dK,cY,Sx⟩ _ ⟨hj,dU,rfl⟩;refine ae [6,25,26,27,28] ?_;refine aq (fun aY bz=>?_) (fun aY bz=>?_)
 ·have aa:j<ls.length:=(by simp at aY;omega)
  have O:=NG aa;have hle:=NL ls (j+1);refine ae [6,8,25,26,27] ?_;refine dL 2 ?_;refine OD.oV (ls:=((ls.take j).flatten)) (new:=ls[j]) (Sq:=Sx) iy lq an rfl rfl underlying114 NU rfl w7 runUnderlying114 sizeOf149 ot dU (dx (A:=[])) ot Fx w4 (fun U Z S33 ahR=>?_);refine OD.perm (dV (A:=[])) ?_;refine aj 36 [6,25,26,27] ?_;refine cj [6,25,26,27] ?_;refine⟨((j+1),U,Z,S33),_,cx,(aM (h:=by repeat (first|exact trivial|refine⟨(by (repeat (first|exact fw|(apply fP;focus (first|rfl|(simp;done)|(congr 2;omega)|(apply eE;rw[DX aa])|(apply eE;rfl)|(apply eE;simp;done)))|(apply fA;focus rfl)));done),?_⟩))),w4,(bw.cast ahR (by rw[DX aa])),rfl⟩
 obtain rfl:j=ls.length:=(by simp at aY;omega)
 refine ae [2] ?_;refine aJ Sx ?_;have I:=dU;rw[take_length] at I;exact⟨dK,cY,by rw[take_length],I⟩
theorem DY(ls:List (List Tk))(E:ls.length≤1000)(h0:0<ls.flatten.length)(hn:ls.flatten.length≤100000):VP Tryz.prog G 78 [.list 1 (ls.flatMap CN) ls.length] (.list 3 (ls.flatten.flatMap cT) ls.flatten.length):=VC.given iy (Yv ls E h0 hn)
def sb(o:aX)(a b:List Tk):List Tk :=
 if o.k=1 then jd o.v else if o.k=2 then [bD o.nm]
 else if o.k=5 then [[dP ⟨#[40]⟩,bD ⟨#[78,79,84]⟩],a,[dP ⟨#[41]⟩]].flatten
 else if o.k=11 then [[dP ⟨#[40]⟩],a,[bD ⟨#[73,83]⟩,bD ⟨#[78,85,76,76]⟩],[dP ⟨#[41]⟩]].flatten
 else [[dP ⟨#[40]⟩],a,[zf o.k],b,[dP ⟨#[41]⟩]].flatten
def eG(h:List (List Tk))(o:aX):Nat:=h.length-(bP o.k).toNat
def nR(h:List (List Tk))(o:aX):List (List Tk):=h.take (eG h o)++[sb o (h.getD (eG h o) []) (h.getD (eG h o+1) [])]
def qK(l:List aX):List Tk:=(l.foldl nR []).getD 0 []
theorem ac6{h:Int}(he:e9 h o=0):1≤o.k∧o.k≤11∧iH o.v=0∧bP o.k≤h:=by
 unfold e9 at he;split at he
 ·cases he
 split at he
 ·exact absurd he tL
 split at he
 ·cases he
 split at he
 ·rename_i h4;exact absurd he h4.2
 split at he
 ·cases he
 exact⟨by omega,by omega,by omega,by omega⟩
theorem ac7{l:List aX}{h:Int}(hi:i<l.length)(he:fD h (l.drop i)=0):e9 h l[i]=0:=by
 rw[drop_eq_getElem_cons hi,fD] at he;split at he
 ·assumption
 exact he
theorem Ts{v:Vl}(h:iH v=0)(h1:-9223372036854775808≤v.n)(h2:v.n≤9223372036854775807):mK v:=by
 unfold iH cA at h;split at h
 ·cases h
 have hn:¬(v.k=2∧v.n = -9223372036854775808):=(by assumption)
 repeat' split at h
 all_goals first|(exfalso;omega)|(unfold mK;refine⟨?_,?_,h2⟩<;>omega)
theorem P5(hp:bP o.k≤(h.length:Int)):((nR h o).length:Int)=h.length+(1-bP o.k):=by
 have:=s9 o.k;unfold nR eG;rw[length_append,length_take];simp only[length_cons,length_nil];omega
theorem Ar(h:List (List Tk))(n:Nat):h.flatten.length=(h.take n).flatten.length+(h.drop n).flatten.length:=by
 conv=>lhs;rw[←take_append_drop n h,flatten_append,length_append]
theorem uB:(h.getD n []).length≤(h.drop n).flatten.length∧(h.getD n []).length+(h.getD (n+1) []).length≤(h.drop n).flatten.length:=by
 by_cases hn:n<h.length
 ·rw[drop_eq_getElem_cons hn];have e1:h.getD n []=h[n]:=(by rw[getD_eq_getElem?_getD,getElem?_eq_getElem hn];rfl)
  rw[e1,flatten_cons,length_append];refine⟨by omega,?_⟩;by_cases iK:n+1<h.length
  ·rw[drop_eq_getElem_cons iK,flatten_cons,length_append];have e2:h.getD (n+1) []=h[n+1]:=(by rw[getD_eq_getElem?_getD,getElem?_eq_getElem iK];rfl)
   rw[e2];omega
  have e2:h.getD (n+1) []=[]:=(by rw[getD_eq_getElem?_getD,getElem?_eq_none w4];rfl)
  rw[e2];simp only[length_nil];omega
 have e1:h.getD n []=[]:=(by rw[getD_eq_getElem?_getD,getElem?_eq_none w4];rfl)
 have e2:h.getD (n+1) []=[]:=(by rw[getD_eq_getElem?_getD,getElem?_eq_none w4];rfl)
 rw[e1,e2];exact⟨by simp,by simp⟩
theorem RI(o:aX)(a b:List Tk):(sb o a b).length≤a.length+b.length+5∧0<(sb o a b).length:=by
 have:=OG o.v;unfold sb;repeat' split
 all_goals first|exact⟨by omega,by omega⟩|(simp only[flatten_cons,flatten_nil,length_append,length_cons,length_nil];exact⟨by omega,by omega⟩)
theorem OH:(nR h o).flatten.length≤h.flatten.length+5:=by
 have h1:=Ar h (eG h o);have h2:=(uB (h:=h) (n:=eG h o)).2;have h3:=(RI o (h.getD (eG h o) []) (h.getD (eG h o+1) [])).1;unfold nR;rw[flatten_append,length_append];simp only[flatten_cons,flatten_nil,append_nil];omega
theorem ZO{l:List aX}(hi:i<l.length):(l.take (i+1)).foldl nR []=nR ((l.take i).foldl nR []) l[i]:=by
 rw[take_succ_eq_append_getElem hi,foldl_append];rfl
theorem EG{e sz cap:Nat}{cs:List D}{ad:Option Addr}{S:List ag}(h:bw e sz cs n ad cap S)(hn:0<n):∃b,ad=some ⟨b,0,none⟩∧n≤cap∧cap≤maxLen∧S=[⟨b,e,cap*sz,cs⟩]:=by
 rcases h with ⟨h1,_⟩|h
 ·omega
 exact h
theorem mq{h:List α}{d:α}(hn:n<h.length):h.getD n d=h[n]:=by rw[getD_eq_getElem?_getD,getElem?_eq_getElem hn];rfl
theorem Yw:(Tryz.prog.info? 114).map (fun i=>(i.zero,i.size,i.bytes))=some (some (.slice none 0 0),1,24):=by kernel_rfl
theorem N8(l:List aX)(hl:l.length≤40)(he:fD 0 l=0)(hr:∀o∈l,-9223372036854775808≤o.v.n∧o.v.n≤9223372036854775807):VP Tryz.prog G 80 [.list 5 (l.flatMap cO) l.length] (.list 3 ((qK l).flatMap cT) (qK l).length):=by
 refine VC.body func80 rfl ntmps80 aO fun X0 w0 aZ=>?_;have dy:maxLen=9223372036854775807:=rfl;refine ae [0] ?_;refine bX ?_;refine bf [0,3] ?_;refine ae [3,8,9,10] ?_;refine CD.block ?_;refine mJ (fun (l6:Nat×List (List Tk)×Option Addr×Nat×List ag) aK=>match l6 with|(i,H,Ai,jS,Sh)=>(i≤l.length)∧(H=(l.take i).foldl nR [])∧(fD ((H).length:Int) (l.drop i)=0)∧((H).length≤i)∧((H).flatten.length≤5*i)∧(bw 114 1 ((H).flatMap cK) (H).length Ai jS Sh)∧aK=(⟨90,[(3,.v (.slice Ai (H).length jS)),(8,.list 5 (l.flatMap cO) l.length),(9,.v (.int .i64 (l.length:Nat))),(10,.v (.int .i64 (i:Nat)))],(Sh)⟩:St)) (fun (l6:Nat×List (List Tk)×Option Addr×Nat×List ag)=>match l6 with|(i,H,Ai,jS,Sh)=>l.length-i) (0,[],none,0,[]) ⟨(Nat.zero_le _),rfl,he,(Nat.le_refl _),(Nat.le_refl _),(bw.cast iw (by rfl)),rfl⟩ (aM (h:=by repeat (first|exact trivial|refine⟨(by (repeat (first|exact fw|(apply fP;focus (first|rfl|(simp;done)|(congr 2;omega)|(apply eE;rw[hT];rfl)|(apply eE;rfl)|(apply eE;simp;done)))|(apply fA;focus rfl)));done),?_⟩))) ?_;rintro⟨i,H,Ai,jS,Sh⟩ _ ⟨hi,hH,hx,hHi,hHf,nD,rfl⟩;refine ae [3,8,9,10,11] ?_;refine aq (fun az aH=>?_) (fun az aH=>?_)
 ·have aa:i<l.length:=(by simp at az;omega)
  have Ah:=ac7 aa hx;obtain⟨dI,UZ,u3,Gr⟩:=ac6 Ah;have CL:=s9 l[i].k;have KQ:l.length≤40:=hl;have ahS:eG H l[i]≤H.length:=Nat.sub_le _ _;have ahT:=Ts u3 (hr _ (getElem_mem aa)).1 (hr _ (getElem_mem aa)).2;refine aC 2 ?_;refine OD.alloc (ds:=[_,_,_,_,_]) an rfl rfl zeroValue61 rfl (fun b5=>?_);refine aN 0 [_,_,_,_,_] sizeOf61 ?_;refine aj 90 [3,5,8,9,10] ?_;refine cN [3,5,6,8,9,10] ?_;refine cU (yx l[i].k) ?_;refine aQ 0 ?_ (h:=by exact(cZ (r:=.int .i64 (((eG H l[i]):Nat):Int)) rfl ot ot (fZ (by rw[show((H.length:Nat):Int)-bP l[i].k=(((eG H l[i]):Nat):Int) by unfold eG;omega];exact wrap_i64 w4 w4))));refine bH ?_;refine ae [3,5,6,8,9,10] ?_;refine jJ [6,8,9,10] (fun aW _ aK=>∃(Tx:List Tk),∃(ad:Option Addr),∃(cp:Nat),∃(Sx:List ag),(Tx=sb l[i] (H.getD (eG H l[i]) []) (H.getD (eG H l[i]+1) []))∧(bw 114 1 (H.flatMap cK) H.length ad cp Sx)∧aK=(⟨90,(3,.v (.slice ad H.length cp))::(7,.list 3 (Tx.flatMap cT) Tx.length)::aW,Sx⟩:St)) ?_ ?_
  ·refine ae [3,5,6,8,9,10,21] ?_;refine ae [3,5,6,8,9,10,21,41] ?_;refine aq (fun aG aV=>?_) (fun aG aV=>?_)
   ·refine gW [3,6,7,8,9,10] ?_;refine cU (NM l[i].v ahT) ?_;refine bH ?_;refine⟨_,aM,jd l[i].v,Ai,jS,Sh,(by unfold sb;rw[if_pos aV]),nD,rfl⟩
   refine ae [3,5,6,8,9,10,21,46] ?_;refine aq (fun aY bz=>?_) (fun aY bz=>?_)
   ·refine gW [3,6,7,8,9,10] ?_;refine cU (rN [l[i].nm] zP) ?_;refine bH ?_;refine⟨_,aM,[bD l[i].nm],Ai,jS,Sh,(by unfold sb;rw[if_neg aV,if_pos bz]),nD,rfl⟩
   refine ae [3,5,6,8,9,10,21,52] ?_;refine aq (fun bC bY=>?_) (fun bC bY=>?_)
   ·have CO:l[i].k=5:=(by simpa using bC)
    have hp1:bP l[i].k=1:=(by rw[CO];decide)
    have hg1:=(uB (h:=H) (n:=eG H l[i])).1;have hg2:=(uB (h:=H) (n:=eG H l[i])).2;have hg3:=Ar H (eG H l[i]);have U:0<H.length:=(by omega)
    obtain⟨bh,E,I,O,Z⟩:=EG nD U;subst E Z;have gC:eG H l[i]<H.length:=(by unfold eG;omega)
    rw[mq gC] at hg1 hg2;skip;refine gW [3,6,7,8,9,10] ?_;refine cU (mM ⟨#[40]⟩) ?_;refine cU (qF ⟨#[78,79,84]⟩) ?_;refine aQ 4 ?_ (h:=by first|exact(cJ (mk:=Op.load 114) rfl ot LM)|exact(cJ (mk:=Op.load 114) rfl ot LL)|exact(cJ (mk:=Op.load 114) rfl ot LK));refine cU (mM ⟨#[41]⟩) ?_;refine cU (DY ([[dP ⟨#[40]⟩,bD ⟨#[78,79,84]⟩],H[eG H l[i]],[dP ⟨#[41]⟩]]) LS zG zG) ?_;refine bH ?_;refine⟨_,aM,[[dP ⟨#[40]⟩,bD ⟨#[78,79,84]⟩],H[eG H l[i]],[dP ⟨#[41]⟩]].flatten,(some ⟨bh,0,none⟩),jS,[⟨bh,114,jS*1,H.flatMap cK⟩],(by unfold sb;rw[if_neg aV,if_neg bz,if_pos bY,mq gC]),(bI I O),rfl⟩
   refine ae [3,5,6,8,9,10,65] ?_;refine aq (fun cy de=>?_) (fun cy de=>?_)
   ·have MP:l[i].k=11:=(by simpa using cy)
    have hp1:bP l[i].k=1:=(by rw[MP];decide)
    have hg1:=(uB (h:=H) (n:=eG H l[i])).1;have hg2:=(uB (h:=H) (n:=eG H l[i])).2;have hg3:=Ar H (eG H l[i]);have U:0<H.length:=(by omega)
    obtain⟨bh,E,I,O,Z⟩:=EG nD U;subst E Z;have gC:eG H l[i]<H.length:=(by unfold eG;omega)
    rw[mq gC] at hg1 hg2;skip;refine gW [3,6,7,8,9,10] ?_;refine cU (mM ⟨#[40]⟩) ?_;refine aQ 4 ?_ (h:=by first|exact(cJ (mk:=Op.load 114) rfl ot LM)|exact(cJ (mk:=Op.load 114) rfl ot LL)|exact(cJ (mk:=Op.load 114) rfl ot LK));refine cU (rN [⟨#[73,83]⟩,⟨#[78,85,76,76]⟩] (by show 2≤10;decide)) ?_;refine cU (mM ⟨#[41]⟩) ?_;refine cU (DY ([[dP ⟨#[40]⟩],H[eG H l[i]],[bD ⟨#[73,83]⟩,bD ⟨#[78,85,76,76]⟩],[dP ⟨#[41]⟩]]) LS zG zG) ?_;refine bH ?_;refine⟨_,aM,[[dP ⟨#[40]⟩],H[eG H l[i]],[bD ⟨#[73,83]⟩,bD ⟨#[78,85,76,76]⟩],[dP ⟨#[41]⟩]].flatten,(some ⟨bh,0,none⟩),jS,[⟨bh,114,jS*1,H.flatMap cK⟩],(by unfold sb;rw[if_neg aV,if_neg bz,if_neg bY,if_pos de,mq gC]),(bI I O),rfl⟩
   have hkb:¬l[i].k=1∧¬l[i].k=2∧¬l[i].k=5∧¬l[i].k=11:=⟨by simpa using aG,by simpa using aY,by simpa using bC,by simpa using cy⟩
   have n9:bP l[i].k=2:=(by unfold bP;rw[if_neg w4,if_neg w4])
   have hg1:=(uB (h:=H) (n:=eG H l[i])).1;have hg2:=(uB (h:=H) (n:=eG H l[i])).2;have hg3:=Ar H (eG H l[i]);have U:0<H.length:=(by omega)
   obtain⟨bh,E,I,O,Z⟩:=EG nD U;subst E Z;have gC:eG H l[i]<H.length:=(by unfold eG;omega)
   have gi:eG H l[i]+1<H.length:=(by unfold eG;omega)
   rw[mq gC,mq gi] at hg2;rw[mq gC] at hg1;refine gW [3,6,7,8,9,10] ?_;refine cU (mM ⟨#[40]⟩) ?_;refine aQ 4 ?_ (h:=by first|exact(cJ (mk:=Op.load 114) rfl ot LM)|exact(cJ (mk:=Op.load 114) rfl ot LL)|exact(cJ (mk:=Op.load 114) rfl ot LK));refine cU (YU l[i].k w4) ?_;refine aQ 3 ?_ (h:=by exact(cZ (r:=.int .i64 ((((eG H l[i])+1:Nat)):Int)) rfl ot bJ (j3 (by rw[show(((eG H l[i]):Nat):Int)+1=(((eG H l[i])+1:Nat):Int) by omega];exact wrap_i64 w4 w4))));refine aQ 1 ?_ (h:=by first|exact(cJ (mk:=Op.load 114) rfl ot (by exact iO (k:=0) (i:=((eG H l[i])+1)) gb rfl rfl rfl isAgg114 gi rfl))|exact(cJ (mk:=Op.load 114) rfl ot (by exact iO (k:=1) (i:=((eG H l[i])+1)) gb rfl rfl rfl isAgg114 gi rfl))|exact(cJ (mk:=Op.load 114) rfl ot (by exact iO (k:=2) (i:=((eG H l[i])+1)) gb rfl rfl rfl isAgg114 gi rfl)));refine cU (mM ⟨#[41]⟩) ?_;refine cU (DY ([[dP ⟨#[40]⟩],H[eG H l[i]],[zf l[i].k],H[eG H l[i]+1],[dP ⟨#[41]⟩]]) LS zG zG) ?_;refine bH ?_;refine⟨_,aM,[[dP ⟨#[40]⟩],H[eG H l[i]],[zf l[i].k],H[eG H l[i]+1],[dP ⟨#[41]⟩]].flatten,(some ⟨bh,0,none⟩),jS,[⟨bh,114,jS*1,H.flatMap cK⟩],(by unfold sb;rw[if_neg aV,if_neg bz,if_neg bY,if_neg de,mq gC,mq gi]),(bI I O),rfl⟩
  rintro _ ⟨Tx,ad,cp,Sx,hT,dU,rfl⟩;have hTl:=RI l[i] (H.getD (eG H l[i]) []) (H.getD (eG H l[i]+1) []);refine dL 3 ?_;refine bN (X2 dU rfl ot ot ot runUnderlying142 sizeOf114 (by unfold eG;omega)) ?_;refine aD 1 ?_;refine ee (bZ 0 [_]) [.slice none 0 0] [_] zeroValue114 runUnderlying142 sizeOf114 (fun b84=>?_);refine fG 0 84 1 1 ?_;refine OD.YP (ls:=H) (new:=[Tx]) (n:=eG H l[i]) (Sq:=Sx) gb pc an rfl rfl underlying142 Yw rfl w7 ot dU (dx (A:=[])) (by unfold eG;omega) ot bq (by simp only[maxLen,length_cons,length_nil];omega) (by simp only[length_cons,length_nil];omega) (fun MQ KR ahU ahV=>?_);refine OD.perm (dV (S1:=[⟨MQ,114,KR*1,flatMap cK (H.take (eG H l[i])++[Tx])⟩]) (A:=[])) ?_;refine aj 90 [3,8,9,10] ?_;refine cj [3,8,9,10] ?_;refine⟨((i+1),(nR H l[i]),(some ⟨MQ,0,none⟩),KR,[⟨MQ,114,KR*1,flatMap cK (H.take (eG H l[i])++[Tx])⟩]),_,cx,(aM (h:=by repeat (first|exact trivial|refine⟨(by (repeat (first|exact fw|(apply fP;focus (first|rfl|(simp;done)|(congr 2;omega)|(apply eE;rw[hT];rfl)|(apply eE;rfl)|(apply eE;simp;done)))|(apply fA;focus rfl)));done),?_⟩))),w4,(by rw[hH,←ZO aa]),(by rw[P5 Gr,←Px aa Ah];exact hx),(by have:=P5 Gr;omega),(by have:=OH (h:=H) (o:=l[i]);omega),(bw.cast (bI ahU ahV) (by rw[hT];rfl)),rfl⟩
 have tX:l.length≤i:=(by simp at az;omega)
 have ff:=hx;rw[OC tX] at ff;have hH1:H.length=1:=(by (split at ff;omega;cases ff))
 refine CD.exit ?_;refine CD.seq ?_;obtain⟨bh,E,I,O,Z⟩:=EG nD (show 0<H.length by omega);subst E Z;have gC:0<H.length:=(by omega)
 refine gW [2] ?_;refine aQ 1 ?_ (h:=by exact(pV (mk:=Op.indexAddr 142) rfl ot bJ (by first|exact s8 runUnderlying142 sizeOf114 (j:=0) rfl (by first|exact gC|exact gi)|exact tv runUnderlying142 sizeOf114 (j:=0) rfl (by first|exact gC|exact gi))));refine aQ 0 ?_ (h:=by first|exact(cJ (mk:=Op.load 114) rfl ot (by exact iO (k:=0) (i:=0) gb rfl rfl rfl isAgg114 gC rfl))|exact(cJ (mk:=Op.load 114) rfl ot (by exact iO (k:=1) (i:=0) gb rfl rfl rfl isAgg114 gC rfl))|exact(cJ (mk:=Op.load 114) rfl ot (by exact iO (k:=2) (i:=0) gb rfl rfl rfl isAgg114 gC rfl)));refine bH ?_;refine aJ [] ?_;refine⟨?_,rfl⟩;unfold qK;rw[show l.foldl nR []=H by rw[hH,take_of_length_le tX],mq gC]

end Go.Proofs.YtbcmjoaggammcaaGreatDoor.Pa
namespace Go.Proofs.YtbcmjoaggammcaaGreatDoor.Pa

open List
open Go.Proofs.Tryz
open Go.RowKit V Pk Vl Go.Proofs.YtbcmjoaggammcaaGreatDoor.Nm Pc
variable {G:List (Nat×List Value)}
variable {α:Type} {i:Nat} {E:List ByteArray}
def cg(s:cQ):List D:=[.v (.int .i64 s.kind),.v (.string s.table),.list 2 (s.av.flatMap cC) s.av.length,.list 3 (s.row.flatMap cV) s.row.length,.list 1 (s.names.flatMap cS) s.names.length,.v (.bool s.count),.list 5 (s.ah.flatMap cO) s.ah.length,.v (.string s.order),.v (.bool s.down),.v (.int .i64 s.gN),.v (.string s.set),.list 5 (s.bE.flatMap cO) s.bE.length]
def okS(s:cQ):Prop:=s.av.length≤6∧s.row.length≤6∧s.names.length≤6∧s.ah.length≤40∧s.bE.length≤40

def jB{α:Type}(f:α→Int):List α→Int
 | []=>0
 | a::r=>if f a≠0 then f a else jB f r
theorem P6{f:α→Int}{l:List α}(hi:i<l.length)(h:f l[i]≠0):jB f (l.drop i)=f l[i]:=by rw[drop_eq_getElem_cons hi,jB,if_pos h]
theorem P7{f:α→Int}{l:List α}(hi:i<l.length)(h:f l[i]=0):jB f (l.drop i)=jB f (l.drop (i+1)):=by rw[drop_eq_getElem_cons hi,jB,if_neg (by rw[h];decide)]
theorem OI{f:α→Int}{l:List α}(hi:l.length≤i):jB f (l.drop i)=0:=by rw[drop_of_length_le hi];rfl
def dW(l:List Vl):Int:=if l.length<1∨l.length>6 then 1 else jB iH l
def nu(l:List aX):Int:=if l.length=0 then 0 else iG l
def oC(s:cQ):Int :=
 if s.names.length>6 then 1 else if s.gN < -1 then 3
 else if (s.count=true∧0<s.names.length)∨(s.down=true∧iW s.order ⟨#[]⟩=true) then 6
 else if jB cM s.names≠0 then jB cM s.names else if nu s.ah≠0 then nu s.ah else if iW s.order ⟨#[]⟩=true then 0 else cM s.order
def lV(s h:cQ):Bool:=iW s.table h.table&&(((s.av.length:Int)==(h.av.length:Int))&&(((s.row.length:Int)==(h.row.length:Int))&&(((s.names.length:Int)==(h.names.length:Int))&&((s.count==h.count)&&(((s.ah.length:Int)==(h.ah.length:Int))&&(iW s.order h.order&&((s.down==h.down)&&((s.gN==h.gN)&&(iW s.set h.set&&((s.bE.length:Int)==(h.bE.length:Int)))))))))))
structure mX (s:cQ):Prop where
 ok:okS s
 t:s.table.size≤maxLen
 c:∀c∈s.av,c.n.size≤maxLen
 n:∀x∈s.names,x.size≤maxLen
 o:s.order.size≤maxLen
 e:s.set.size≤maxLen
 r:∀v∈s.row,-9223372036854775808≤v.n∧v.n≤9223372036854775807
 w:∀o∈s.ah,o.nm.size≤maxLen∧-9223372036854775808≤o.v.n∧o.v.n≤9223372036854775807
 x:∀o∈s.bE,o.nm.size≤maxLen∧-9223372036854775808≤o.v.n∧o.v.n≤9223372036854775807
def j7(l:List aX):List Tk:=if l.length=0 then [] else [⟨#[87,72,69,82,69]⟩].map bD++qK l
theorem Py(hm:(3,marksC)∈G)(hw:(2,wordsC)∈G)(l:List ByteArray)(hl:l.length≤1000)(hs:∀s∈l,s.size≤maxLen):VP Tryz.prog G 109 [.list 1 (l.flatMap cS) l.length] (.v (.int .i64 (jB cM l))):=by
 refine VC.body func109 rfl ntmps109 aO fun X0 w0 aZ=>?_;refine ae [0] ?_;refine ae [6,7,8] ?_;refine eB [6,7] (fun aW _ (i:Nat) aK=>(i≤l.length)∧(jB cM l=jB cM (l.drop i))∧aK=(⟨18,(8,.v (.int .i64 (i:Nat)))::aW,[]⟩:St)) (fun (i:Nat)=>l.length-i) 0 ⟨(Nat.zero_le _),rfl,rfl⟩ ?_;rintro i _ ⟨hi,hx,rfl⟩;refine ae [6,7,8,9] ?_;refine aq (fun az aH=>?_) (fun az aH=>?_)
 ·have aa:i<l.length:=(by simp at az;omega)
  refine ae [4,6,7,8] ?_;refine cL [5,6,7,8] (td hm hw l[i] (hs _ (getElem_mem aa))) ?_;refine ae [5,6,7,8,15] ?_;refine aq (fun aG aV=>?_) (fun aG aV=>?_)
  ·have hn:cM l[i]≠0:=(by simpa using aG)
   have ff:=hx.trans (P6 aa hn);exact Mc
  have h0:cM l[i]=0:=(by simpa using aG)
  refine cj [6,7,8] ?_;refine⟨(i+1),_,cx,aM,w4,(hx.trans (P7 aa h0)),rfl⟩
 have ff:jB cM l=0:=hx.trans (OI ua);refine ae [2] ?_;exact Gn
theorem ac8(l:List Vl)(hl:l.length≤1000):VP Tryz.prog G 69 [.list 3 (l.flatMap cV) l.length] (.v (.int .i64 (dW l))):=by
 refine VC.body func69 rfl ntmps69 aO fun X0 w0 aZ=>?_;have O:(l.length<1∨l.length>6)∨¬(l.length<1∨l.length>6):=(by omega)
 refine ae [0] ?_;refine aC 4 ?_;refine bS 9 (fun I E=>?_) (fun I E=>?_)
 ·refine bf [0,13] ?_;refine eC ?_;exact Uw
 refine bf [0,13] ?_;refine aq (fun az aH=>?_) (fun az aH=>?_)
 ·exact Uw
 have hf:dW l=jB iH l:=if_neg w4;refine ae [14,15,16] ?_;refine eB [14,15] (fun aW _ (i:Nat) aK=>(i≤l.length)∧(jB iH l=jB iH (l.drop i))∧aK=(⟨26,(16,.v (.int .i64 (i:Nat)))::aW,[]⟩:St)) (fun (i:Nat)=>l.length-i) 0 ⟨(Nat.zero_le _),rfl,rfl⟩ ?_;rintro i _ ⟨hi,hx,rfl⟩;refine ae [14,15,16,17] ?_;refine aq (fun aG aV=>?_) (fun aG aV=>?_)
 ·have aa:i<l.length:=(by simp at aG;omega)
  refine aC 2 ?_;refine OD.alloc (ds:=[_,_,_]) an rfl rfl zeroValue30 rfl (fun b4=>?_);refine aN 0 [_,_,_] sizeOf30 ?_;refine aj 26 [4,14,15,16] ?_;refine cL [5,14,15,16] (Nm.N4 l[i]) ?_;refine ae [5,14,15,16,23] ?_;refine aq (fun aY bz=>?_) (fun aY bz=>?_)
  ·have hn:iH l[i]≠0:=(by simpa using aY)
   have ff:=hf.trans (hx.trans (P6 aa hn));exact Mc
  have h0:iH l[i]=0:=(by simpa using aY)
  refine cj [14,15,16] ?_;refine⟨(i+1),_,cx,aM,w4,(hx.trans (P7 aa h0)),rfl⟩
 have ff:dW l=0:=hf.trans (hx.trans (OI (by simp at aG;omega)));refine ae [2] ?_;exact Gn
theorem DR(hm:(3,marksC)∈G)(hw:(2,wordsC)∈G)(l:List aX)(hs:∀o∈l,o.nm.size≤maxLen):VP Tryz.prog G 72 [.list 5 (l.flatMap cO) l.length] (.v (.int .i64 (nu l))):=by
 refine VC.body func72 rfl ntmps72 aO fun X0 w0 aZ=>?_;refine ae [0] ?_;refine ae [0,5] ?_;refine aq (fun az aH=>?_) (fun az aH=>?_)
 ·have ff:nu l=0:=if_pos ua;exact Mc
 have ff:nu l=iG l:=if_neg ua;refine cL [2] (IQ hm hw l hs) ?_;exact Gn
theorem abo(hm:(3,marksC)∈G)(hw:(2,wordsC)∈G)(s:cQ)(hf:mX s):VP Tryz.prog G 70 [.agg (cg s)] (.v (.int .i64 (oC s))):=by
 refine VC.body func70 rfl ntmps70 aO fun X0 w0 aZ=>?_;unfold cg;refine bX ?_;refine OD.box (ds:=[_,_,_,_,_,_,_,_,_,_,_,_]) an rfl rfl ot rfl rfl (fun b1=>?_);refine aj 50 [1] ?_;refine ae [1,5] ?_;refine aq (fun az aH=>?_) (fun az aH=>?_)
 ·refine ae [2] ?_;refine aJ [] ?_;exact VK
 refine ae [1,10] ?_;refine aq (fun aG aV=>?_) (fun aG aV=>?_)
 ·refine ae [2] ?_;refine aJ [] ?_;exact VK
 refine aC 3 ?_;refine bS 17 (fun wQ wC=>?_) (fun wQ wC=>?_)
 ·refine aD 6 ?_;refine bS 23 (fun U O=>?_) (fun U O=>?_)
  ·refine bf [1,14] ?_;refine eC ?_;refine ae [2] ?_;exact z24
  refine aD 3 ?_;refine bS 26 (fun I E=>?_) (fun I E=>?_)
  ·exact UK
  refine bf [1,14] ?_;refine fL ?_;exact z20
 refine xG 4 ?_;refine aD 5 ?_;refine bS 26 (fun I E=>?_) (fun I E=>?_)
 ·exact UK
 refine bf [1,14] ?_;refine fL ?_;refine cL [1,3] (Py hm hw s.names (by have:=hf.ok.2.2.1;omega) hf.n) ?_;refine ae [1,3,36] ?_;refine aq (fun bC bY=>?_) (fun bC bY=>?_)
 ·refine ae [2] ?_;exact z24
 refine cL [1,4] (DR hm hw s.ah (fun o h=>(hf.w o h).1)) ?_;refine ae [1,4,42] ?_;refine aq (fun cy de=>?_) (fun cy de=>?_)
 ·refine ae [2] ?_;exact z24
 refine ae [1,46] ?_;refine aq (fun dO eo=>?_) (fun dO eo=>?_)
 ·refine cL [2] (td hm hw s.order hf.o) ?_;exact z24
 refine ae [2] ?_;refine eJ ?_;refine⟨vi ?_,rfl⟩;unfold oC iW;simp_all;all_goals (try (intros;(repeat' split)<;>first|rfl|omega))
theorem ac9(s h:cQ):VP Tryz.prog G 73 [.agg (cg s),.agg (cg h)] (.v (.bool (lV s h))):=by
 refine VC.body func73 rfl ntmps73 aO fun X0 w0 aZ=>?_;unfold cg;refine bX ?_;refine OD.box (ds:=[_,_,_,_,_,_,_,_,_,_,_,_]) an rfl rfl ot rfl rfl (fun b2=>?_);refine OD.box (ds:=[_,_,_,_,_,_,_,_,_,_,_,_]) an rfl rfl ot rfl rfl (fun b3=>?_);refine aj 90 [2,3] ?_;refine aC 6 ?_;refine bS 10 (fun ahW E=>?_) (fun ahW E=>?_)
 ·refine aD 9 ?_;refine bS 19 (fun KS I=>?_) (fun KS I=>?_)
  ·refine aD 9 ?_;refine bS 28 (fun ahX O=>?_) (fun ahX O=>?_)
   ·refine aD 9 ?_;refine bS 37 (fun ahY U=>?_) (fun ahY U=>?_)
    ·refine aD 4 ?_;refine OD.still gL rfl (cZ rfl ot ot (Eb underlying4)) ?_;refine aD 2 ?_;refine bS 44 (fun ahZ Z=>?_) (fun ahZ Z=>?_)
     ·refine aD 9 ?_;refine bS 53 (fun KT J4=>?_) (fun KT J4=>?_)
      ·refine aD 7 ?_;refine bS 60 (fun ah0 J5=>?_) (fun ah0 J5=>?_)
       ·refine aD 4 ?_;refine OD.still gL rfl (cZ rfl ot ot (Eb underlying4)) ?_;refine aD 2 ?_;refine bS 67 (fun ah1 af7=>?_) (fun ah1 af7=>?_)
        ·refine aD 7 ?_;refine bS 74 (fun ah2 af8=>?_) (fun ah2 af8=>?_)
         ·refine aD 7 ?_;refine bS 81 (fun ah3 af9=>?_) (fun ah3 af9=>?_)
          ·exact xC
          exact xC
         exact xC
        exact xC
       exact xC
      exact xC
     exact xC
    refine bf [4] ?_;refine eJ ?_;exact z49
   refine bf [4] ?_;refine eJ ?_;exact z49
  refine bf [4] ?_;refine eJ ?_;exact z49
 refine bf [4] ?_;refine eJ ?_;refine⟨vb ?_,rfl⟩;unfold lV iW;simp_all;all_goals (try (intros;omega))
theorem Yx:(Tryz.prog.info? 149).map (fun i=>(i.zero,i.size,i.bytes))=some (some (.agg #[.int .i64 0,.string ⟨#[]⟩,.int .i64 0]),3,32):=by kernel_rfl
theorem G1(l:List aX)(hl:l.length≤40)(he:l.length=0∨fD 0 l=0)(hr:∀o∈l,-9223372036854775808≤o.v.n∧o.v.n≤9223372036854775807)(hsl:(qK l).length≤1000):VP Tryz.prog G 81 [.list 5 (l.flatMap cO) l.length] (.list 3 ((j7 l).flatMap cT) (j7 l).length):=by
 refine VC.body func81 rfl ntmps81 aO fun X0 w0 aZ=>?_;refine ae [0] ?_;refine ae [0,5] ?_;refine aq (fun az aH=>?_) (fun az aH=>?_)
 ·have ff:j7 l=[]:=if_pos ua;refine ae [2] ?_;refine CD.wk (Wk.tg (t:=2) (sz:=3) lk) ?_;refine aJ [] ?_;rw[ff];exact⟨rfl,rfl⟩
 have ff:j7 l=[⟨#[87,72,69,82,69]⟩].map bD++qK l:=if_neg ua;have I:fD 0 l=0:=he.resolve_left ua;refine bX ?_;refine ee (bZ 0 [_]) [.string ⟨#[]⟩] [_] zeroValue9 runUnderlying39 sizeOf9 (fun b6=>?_);refine OD.perm (dV (S1:=[⟨b6,9,1*1,flatMap cS ([⟨#[87,72,69,82,69]⟩])⟩]) (A:=[])) ?_;refine OD.gP (t:=6) (Sq:=[⟨b6,9,1*1,flatMap cS ([⟨#[87,72,69,82,69]⟩])⟩]) lk (bI (g:=cS) (sz:=1) (e:=9) (ls:=[⟨#[87,72,69,82,69]⟩]) (Nat.le_refl _) (show 1≤maxLen by decide)) (cq ja _) (dx (A:=[])) ?_;refine OD.call an rfl rfl rfl call74 (yJ [⟨#[87,72,69,82,69]⟩] zP) ⟨ot,trivial⟩ (eN _) ?_;rintro _ S7 ⟨W7,W8,rfl,pH⟩;refine OD.perm (S':=S7) (append_nil _ ▸ Perm.refl _) ?_;refine aD 1 ?_;refine dR call80 (N8 l hl I hr) ?_;refine OD.oV (ls:=([⟨#[87,72,69,82,69]⟩].map bD)) (new:=(qK l)) (Sq:=S7) iy lq an rfl rfl underlying114 Yx rfl w7 runUnderlying114 sizeOf149 ot pH (dx (A:=[])) ot (by simp only[maxLen,length_map,length_cons,length_nil];omega) (by simp only[length_map,length_cons,length_nil];omega) (fun U Z O E=>?_);refine OD.perm (dV (A:=[])) ?_;refine aj 11 [2] ?_;refine CD.gP (t:=2) (Sq:=O) lk E (cq iy _) (dx (A:=[])) ?_;exact Gn

def qS(s:cQ):ByteArray:=if s.kind<7 then s.table else ⟨#[]⟩
def jf(s:cQ):cQ :=
 if s.kind=1 then {iD with kind:=s.kind,table:=(qS s),av:=s.av} else if s.kind=3 then {iD with kind:=s.kind,table:=(qS s),row:=s.row} else if s.kind=4 then {iD with kind:=s.kind,table:=(qS s),names:=s.names,count:=s.count,ah:=s.ah,order:=s.order,down:=s.down,gN:=s.gN} else if s.kind=5 then {iD with kind:=s.kind,table:=(qS s),set:=s.set,bE:=s.bE,ah:=s.ah} else if s.kind=6 then {iD with kind:=s.kind,table:=(qS s),ah:=s.ah} else {iD with kind:=s.kind,table:=(qS s)}
def ko(s:cQ):Int :=
 if s.kind=1 then fB s.av else if s.kind=3 then dW s.row else if s.kind=4 then oC s
 else if s.kind=5 then (if cM s.set=0 then (if iG s.bE=0 then nu s.ah else iG s.bE) else cM s.set) else if s.kind=6 then nu s.ah else 0
def iz(s:cQ):Int:=if s.kind<7∧cM s.table≠0 then cM s.table else if ko s=0∧lV s (jf s)=false then 6 else ko s
theorem ZP(hm:(3,marksC)∈G)(hw:(2,wordsC)∈G)(s:cQ)(hf:mX s):VP Tryz.prog G 44 [.agg (cg s)] (.v (.int .i64 (iz s))):=by
 refine VC.body func44 rfl ntmps44 aO fun X0 w0 aZ=>?_;have I:=abo hm hw s hf;unfold cg at I;unfold cg;refine bX ?_;refine OD.box (ds:=[_,_,_,_,_,_,_,_,_,_,_,_]) an rfl rfl ot rfl rfl (fun b1=>?_);refine aj 102 [1] ?_;refine aC 3 ?_;refine OD.alloc (ds:=[_,_,_,_,_,_,_,_,_,_,_,_]) an rfl rfl zeroValue42 rfl (fun b3=>?_);refine aN 0 [_,_,_,_,_,_,_,_,_,_,_,_] sizeOf42 ?_;refine aj 102 [1,3] ?_;refine jJ [1,3] (fun aW _ aK=>∃(tb:ByteArray),(tb=qS s)∧(¬(s.kind<7∧cM s.table≠0))∧aK=(⟨102,aW,[⟨b3,42,12,[.v (.int .i64 s.kind),.v (.string tb),.list 2 [] 0,.list 3 [] 0,.list 1 [] 0,.v (.bool false),.list 5 [] 0,.v (.string ⟨#[]⟩),.v (.bool false),.v (.int .i64 (-1)),.v (.string ⟨#[]⟩),.list 5 [] 0]⟩,⟨b1,42,12,[.v (.int .i64 s.kind),.v (.string s.table),.list 2 (s.av.flatMap cC) s.av.length,.list 3 (s.row.flatMap cV) s.row.length,.list 1 (s.names.flatMap cS) s.names.length,.v (.bool s.count),.list 5 (s.ah.flatMap cO) s.ah.length,.v (.string s.order),.v (.bool s.down),.v (.int .i64 s.gN),.v (.string s.set),.list 5 (s.bE.flatMap cO) s.bE.length]⟩]⟩:St)) ?_ ?_
 ·refine CD.seq ?_;refine CD.cells (k:=0) (cs':=[_,_,.list 2 [] 0,.list 3 [] 0,.list 1 [] 0,_,.list 5 [] 0,_,_,_,_,.list 5 [] 0]) (S':=[_,_]) rfl (by repeat (first|exact trivial|exact⟨eR,trivial⟩|exact⟨gd,trivial⟩|refine⟨eR,?_⟩|refine⟨gd,?_⟩)) rfl ?_;refine cj [1,3,11] ?_;refine aq (fun az aH=>?_) (fun az aH=>?_)
  ·refine aC 3 ?_;refine aN 0 [_,_,_,_,_,_,_,_,_,_,_,_] sizeOf9 ?_;refine aj 102 [1,3] ?_;refine cL [1,3,4] (td hm hw s.table hf.t) ?_;refine ae [1,3,4,19] ?_;refine aq (fun aG aV=>?_) (fun aG aV=>?_)
   ·have aT:iz s=cM s.table:=(by unfold iz;rw[if_pos ⟨aH,by simpa using aG⟩])
    exact z93
   have gC:cM s.table=0:=(by simpa using aG)
   have O:s.table=qS s:=(by unfold qS;rw[if_pos aH])
   have U:¬(s.kind<7∧cM s.table≠0):=fun h=>h.2 gC;refine CD.skip ?_;refine⟨_,aM,s.table,O,U,rfl⟩
  have O:(⟨#[]⟩:ByteArray)=qS s:=(by unfold qS;rw[if_neg w4])
  have U:¬(s.kind<7∧cM s.table≠0):=fun h=>by omega
  refine CD.skip ?_;refine⟨_,aM,⟨#[]⟩,O,U,rfl⟩
 rintro _ ⟨tb,sC,jQ,rfl⟩;refine ae [1,3,5] ?_;refine jJ [1,3] (fun aW _ aK=>∃(H:cQ),∃(e:Int),(H=jf s)∧(e=ko s)∧aK=(⟨102,(5,.v (.int .i64 e))::aW,[⟨b3,42,12,[.v (.int .i64 H.kind),.v (.string H.table),.list 2 (H.av.flatMap cC) H.av.length,.list 3 (H.row.flatMap cV) H.row.length,.list 1 (H.names.flatMap cS) H.names.length,.v (.bool H.count),.list 5 (H.ah.flatMap cO) H.ah.length,.v (.string H.order),.v (.bool H.down),.v (.int .i64 H.gN),.v (.string H.set),.list 5 (H.bE.flatMap cO) H.bE.length]⟩,⟨b1,42,12,[.v (.int .i64 s.kind),.v (.string s.table),.list 2 (s.av.flatMap cC) s.av.length,.list 3 (s.row.flatMap cV) s.row.length,.list 1 (s.names.flatMap cS) s.names.length,.v (.bool s.count),.list 5 (s.ah.flatMap cO) s.ah.length,.v (.string s.order),.v (.bool s.down),.v (.int .i64 s.gN),.v (.string s.set),.list 5 (s.bE.flatMap cO) s.bE.length]⟩]⟩:St)) ?_ ?_
 ·refine ae [1,3,5,22] ?_;refine ae [1,3,5,22,23] ?_;refine aq (fun aY bz=>?_) (fun aY bz=>?_)
  ·refine aC 3 ?_;refine aN 0 [_,_,_,_,_,_,_,_,_,_,_,_] sizeOf38 ?_;refine aj 102 [1,3] ?_;refine gW [1,3,5] ?_;refine cU (ac5 hm hw s.av (by have:=hf.ok.1;simp only[maxLen];omega) hf.c) ?_;refine bH ?_;refine⟨_,aM,{iD with kind:=s.kind,table:=tb,av:=s.av},fB s.av,(by unfold jf;rw[if_pos bz,sC]),(by unfold ko;rw[if_pos bz]),rfl⟩
  refine ae [1,3,5,22,31] ?_;refine aq (fun bC bY=>?_) (fun bC bY=>?_)
  ·refine aC 3 ?_;refine aN 0 [_,_,_,_,_,_,_,_,_,_,_,_] sizeOf27 ?_;refine aj 102 [1,3] ?_;refine gW [1,3,5] ?_;refine cU (ac8 s.row (by have:=hf.ok.2.1;omega)) ?_;refine bH ?_;refine⟨_,aM,{iD with kind:=s.kind,table:=tb,row:=s.row},dW s.row,(by unfold jf;rw[if_neg bz,if_pos bY,sC]),(by unfold ko;rw[if_neg bz,if_pos bY]),rfl⟩
  refine ae [1,3,5,22,39] ?_;refine aq (fun cy de=>?_) (fun cy de=>?_)
  ·refine CD.seq ?_;refine fK 22 (ap (eraseIdx _ 0)) ?_ (fun _ h=>(Sublist.map _ (eraseIdx_sublist _ 0)).subset h);refine ax 0 rfl (c8 4) ?_;refine ax 1 rfl (dB 1) ?_;refine ax 2 rfl (c8 5) ?_;refine ax 3 rfl (dB 1) ?_;refine ax 4 rfl (c8 6) ?_;refine ax 5 rfl (dB 1) ?_;refine ax 6 rfl (c8 7) ?_;refine ax 7 rfl (dB 1) ?_;refine ax 8 rfl (c8 8) ?_;refine ax 9 rfl (dB 1) ?_;refine ax 10 rfl (c8 9) ?_;refine ax 11 rfl (dB 1) ?_;refine ax 12 rfl (c8 4) ?_;refine dm.later rfl ?_;refine AD.one (i:=13) ay ?_;refine dN 0 [_,_,_,_,_,_,_,_,_,_,_,_] sizeOf39 ?_;refine cr 14 rfl (c8 5) ?_;refine AD.one (i:=15) ay ?_;refine dN 0 [_,_,_,_,_,_,_,_,_,_,_,_] sizeOf4 ?_;refine cr 16 rfl (c8 6) ?_;refine AD.one (i:=17) ay ?_;refine dN 0 [_,_,_,_,_,_,_,_,_,_,_,_] sizeOf40 ?_;refine cr 18 rfl (c8 7) ?_;refine AD.one (i:=19) ay ?_;refine dN 0 [_,_,_,_,_,_,_,_,_,_,_,_] sizeOf9 ?_;refine cr 20 rfl (c8 8) ?_;refine AD.one (i:=21) ay ?_;refine dN 0 [_,_,_,_,_,_,_,_,_,_,_,_] sizeOf4 ?_;refine eA ?_;refine aD 1 ?_;refine aN 0 [_,_,_,_,_,_,_,_,_,_,_,_] sizeOf3 ?_;refine aj 102 [1,3] ?_;refine gW [1,3,5] ?_;refine cU (I) ?_;refine bH ?_;refine⟨_,aM,{iD with kind:=s.kind,table:=tb,names:=s.names,count:=s.count,ah:=s.ah,order:=s.order,down:=s.down,gN:=s.gN},oC s,(by unfold jf;rw[if_neg bz,if_neg bY,if_pos de,sC]),(by unfold ko;rw[if_neg bz,if_neg bY,if_pos de]),rfl⟩
  refine ae [1,3,5,22,61] ?_;refine aq (fun dO eo=>?_) (fun dO eo=>?_)
  ·refine CD.seq ?_;refine fK 10 (ap (eraseIdx _ 0)) ?_ (fun _ h=>(Sublist.map _ (eraseIdx_sublist _ 0)).subset h);refine ax 0 rfl (c8 10) ?_;refine ax 1 rfl (dB 1) ?_;refine ax 2 rfl (c8 11) ?_;refine ax 3 rfl (dB 1) ?_;refine ax 4 rfl (c8 6) ?_;refine ax 5 rfl (dB 1) ?_;refine ax 6 rfl (c8 10) ?_;refine dm.later rfl ?_;refine AD.one (i:=7) ay ?_;refine dN 0 [_,_,_,_,_,_,_,_,_,_,_,_] sizeOf9 ?_;refine cr 8 rfl (c8 11) ?_;refine AD.one (i:=9) ay ?_;refine dN 0 [_,_,_,_,_,_,_,_,_,_,_,_] sizeOf40 ?_;refine eA ?_;refine aD 1 ?_;refine aN 0 [_,_,_,_,_,_,_,_,_,_,_,_] sizeOf40 ?_;refine aj 102 [1,3] ?_;refine cL [1,3,5] (td hm hw s.set hf.e) ?_;refine ae [1,3,5,76] ?_;refine aq (fun eS fW=>?_) (fun eS fW=>?_)
   ·have Z:cM s.set=0:=(by simpa using eS)
    refine gW [1,3,5] ?_;refine cU (IQ hm hw s.bE (fun o h=>(hf.x o h).1)) ?_;refine bH ?_;refine ae [1,3,5,81] ?_;refine aq (fun eL gg=>?_) (fun eL gg=>?_)
    ·have MR:iG s.bE=0:=(by simpa using eL)
     refine gW [1,3,5] ?_;refine cU (DR hm hw s.ah (fun o h=>(hf.w o h).1)) ?_;refine bH ?_;refine⟨_,aM,{iD with kind:=s.kind,table:=tb,set:=s.set,bE:=s.bE,ah:=s.ah},nu s.ah,LN,(by unfold ko;rw[if_neg bz,if_neg bY,if_neg de,if_pos eo,if_pos Z,if_pos MR]),rfl⟩
    have MR:¬iG s.bE=0:=(by simpa using eL)
    refine CD.skip ?_;refine⟨_,aM,{iD with kind:=s.kind,table:=tb,set:=s.set,bE:=s.bE,ah:=s.ah},iG s.bE,LN,(by unfold ko;rw[if_neg bz,if_neg bY,if_neg de,if_pos eo,if_pos Z,if_neg MR]),rfl⟩
   have Z:¬cM s.set=0:=(by simpa using eS)
   refine ae [1,3,5,81] ?_;refine aq (fun eL gg=>?_) (fun eL gg=>?_)
   ·exact absurd eL (by simp[Z])
   refine CD.skip ?_;refine⟨_,aM,{iD with kind:=s.kind,table:=tb,set:=s.set,bE:=s.bE,ah:=s.ah},cM s.set,LN,(by unfold ko;rw[if_neg bz,if_neg bY,if_neg de,if_pos eo,if_neg Z]),rfl⟩
  refine ae [1,3,5,85] ?_;refine aq (fun kY E=>?_) (fun kY E=>?_)
  ·refine aC 3 ?_;refine aN 0 [_,_,_,_,_,_,_,_,_,_,_,_] sizeOf40 ?_;refine aj 102 [1,3] ?_;refine gW [1,3,5] ?_;refine cU (DR hm hw s.ah (fun o h=>(hf.w o h).1)) ?_;refine bH ?_;refine⟨_,aM,{iD with kind:=s.kind,table:=tb,ah:=s.ah},nu s.ah,(by unfold jf;rw[if_neg bz,if_neg bY,if_neg de,if_neg eo,if_pos E,sC]),(by unfold ko;rw[if_neg bz,if_neg bY,if_neg de,if_neg eo,if_pos E]),rfl⟩
  refine CD.skip ?_;refine⟨_,aM,{iD with kind:=s.kind,table:=tb},0,(by unfold jf;rw[if_neg bz,if_neg bY,if_neg de,if_neg eo,if_neg E,sC]),(by unfold ko;rw[if_neg bz,if_neg bY,if_neg de,if_neg eo,if_neg E]),rfl⟩
 rintro _ ⟨H,e,hH,CP,rfl⟩;refine CD.seq ?_;refine CD.seq ?_;have T1:=ac9 (G:=G) s H;unfold cg at T1;refine dL 3 ?_;refine bS 95 (fun U0 aga=>?_) (fun U0 aga=>?_)
 ·refine aD 2 ?_;refine OD.gI gL rfl rfl rfl call73 (T1) ⟨ot,ot,trivial⟩ ?_;refine aj 102 [5,100] ?_;refine aq (fun sQ wY=>?_) (fun sQ wY=>?_)
  ·have aT:iz s=6:=(by unfold iz;rw[if_neg jQ,if_pos ⟨by rw[←CP];simpa using U0,by rw[←hH];simpa using sQ⟩])
   refine cj [5] ?_;exact z93
  have aT:iz s=e:=(by unfold iz;rw[if_neg jQ,if_neg (by rw[←CP,←hH];exact(fun h=>by obtain⟨h1,h2⟩:=h;simp_all)),CP])
  exact z93
 refine bf [5,100] ?_;refine fL ?_;have aT:iz s=e:=(by unfold iz;rw[if_neg jQ,if_neg (by rw[←CP,←hH];exact(fun h=>by obtain⟨h1,h2⟩:=h;simp_all)),CP])
 refine ae [2] ?_;refine eJ ?_;exact⟨by first|rw[aT]|rw[aT];rfl,rfl⟩

theorem OJ:∀(l:List aX) (H:List (List Tk)),(l.foldl nR H).flatten.length≤H.flatten.length+5*l.length
 | [],H=>by simp
 | o::r,H=>by
  have h1:=OJ r (nR H o);have h2:=OH (h:=H) (o:=o);rw[foldl_cons,length_cons];omega
theorem DZ(l:List aX):(qK l).length≤5*l.length:=by
 have h:=OJ l [];have h2:=(uB (h:=l.foldl nR []) (n:=0)).1;have h3:=Ar (l.foldl nR []) 0;simp only[List.take_zero,flatten_nil,length_nil] at h h3;unfold qK;omega
theorem OK(l:List aX):(j7 l).length≤5*l.length+1:=by
 have h:=DZ l;unfold j7;split
 ·simp
 rw[length_append,length_map];simp only[length_cons,length_nil];omega
def jD(ns:List ByteArray):Nat→List Tk
 | 0=>[]
 | i+1=>jD ns i++(if i>0 then [dP ⟨#[44]⟩] else [])++[bD (ns.getD i ⟨#[]⟩)]
theorem HV(E:List ByteArray):∀i,(jD E i).length≤2*i
 | 0=>Nat.le_refl _
 | i+1=>by
  have I:=HV E i;have h3:(if i>0 then [dP ⟨#[44]⟩] else []).length≤1:=(by split<;>simp)
  unfold jD;rw[length_append,length_append];simp only[length_cons,length_nil];omega
theorem Hq(hi:i<E.length)(h:0<i)(X:List Tk):((X++jD E i)++[dP ⟨#[44]⟩])++[bD E[i]]=X++jD E (i+1):=by
 rw[jD,if_pos h,mq hi];simp only[append_assoc]
theorem G9(hi:i<E.length)(h:¬0<i)(X:List Tk):(X++jD E i)++[bD E[i]]=X++jD E (i+1):=by
 rw[jD,if_neg h,mq hi];simp only[append_assoc,append_nil]
def y4(s:cQ):List Tk:=if s.count=true then [bD ⟨#[67,79,85,78,84]⟩,dP ⟨#[40]⟩,dP ⟨#[42]⟩,dP ⟨#[41]⟩] else if s.names.length=0 then [dP ⟨#[42]⟩] else jD s.names s.names.length
def BO(s:cQ):List Tk:=if iW s.order ⟨#[]⟩=true then [] else [⟨#[79,82,68,69,82]⟩,⟨#[66,89]⟩,s.order].map bD++(if s.down=true then [bD ⟨#[68,69,83,67]⟩] else [])
def KU(s:cQ):List Tk:=if 0≤s.gN then [bD ⟨#[76,73,77,73,84]⟩,⟨2,⟨#[]⟩,s.gN⟩] else []
def Bl(s:cQ):List Tk:=((([⟨#[83,69,76,69,67,84]⟩].map bD++y4 s)++[⟨#[70,82,79,77]⟩,s.table].map bD++j7 s.ah)++BO s)++KU s
theorem rH:(Tryz.prog.info? 149).map (fun i=>(i.zero,i.size,i.bytes))=some (some (.agg #[.int .i64 0,.string ⟨#[]⟩,.int .i64 0]),3,32):=by kernel_rfl
theorem X3 : ∀ w, ((#[{ name := "Kind", type := 3, offset := 0, embedded := false, tag := "", pkgPath := "", byteOffset := 0 }, { name := "Text", type := 9, offset := 1, embedded := false, tag := "", pkgPath := "", byteOffset := 8 }, { name := "Int", type := 3, offset := 2, embedded := false, tag := "", pkgPath := "", byteOffset := 24 }] : Array Field).mapM fun f => do pure (f.offset, ← sizeOf f.type) : Sem (Array (Nat × Nat))).run Tryz.prog w = .ok #[(0, 1), (1, 1), (2, 1)] w := fun w => by simp [sizeOf3, sizeOf9]
theorem Yy(s:cQ)(hf:mX s)(MS:s.ah.length=0∨fD 0 s.ah=0):VP Tryz.prog G 77 [.agg (cg s)] (.list 3 ((Bl s).flatMap cT) (Bl s).length):=by
 refine VC.body func77 rfl ntmps77 aO fun X0 w0 aZ=>?_;have dy:maxLen=9223372036854775807:=rfl;have h6:=hf.ok.2.2.1;have pM:=hf.ok.2.2.2.1;have GB:=OK s.ah;have MT:=DZ s.ah;unfold cg;refine bX ?_;refine OD.box (ds:=[_,_,_,_,_,_,_,_,_,_,_,_]) an rfl rfl ot rfl rfl (fun b1=>?_);refine aj 84 [1] ?_;refine bX ?_;refine ee (bZ 0 [_]) [.string ⟨#[]⟩] [_] zeroValue9 runUnderlying39 sizeOf9 (fun b6=>?_);refine OD.perm (dV (S1:=[⟨b6,9,1*1,flatMap cS ([⟨#[83,69,76,69,67,84]⟩])⟩]) (A:=[_])) ?_;refine OD.gP (t:=6) (Sq:=[⟨b6,9,1*1,flatMap cS ([⟨#[83,69,76,69,67,84]⟩])⟩]) lk (bI (g:=cS) (sz:=1) (e:=9) (ls:=[⟨#[83,69,76,69,67,84]⟩]) (Nat.le_refl _) (show 1≤maxLen by decide)) (cq ja _) (dx (A:=[_])) ?_;refine OD.call an rfl rfl rfl call74 (yJ [⟨#[83,69,76,69,67,84]⟩] zP) ⟨ot,trivial⟩ (eN _) ?_;rintro _ S7 ⟨W7,W8,rfl,pH⟩;refine OD.perm (dV (A:=[_])) ?_;refine aj 84 [1,3] ?_
 refine jJ [1] (fun aW _ aK=>∃(Q:List Tk),∃(ad:Option Addr),∃(cp:Nat),∃(Sx:List ag),(Q=[⟨#[83,69,76,69,67,84]⟩].map bD++y4 s)∧(bw 149 3 (Q.flatMap cT) Q.length ad cp Sx)∧(Q.length≤20)∧aK=(⟨84,(3,.v (.slice ad Q.length cp))::aW,(⟨b1,42,12,[.v (.int .i64 s.kind),.v (.string s.table),.list 2 (s.av.flatMap cC) s.av.length,.list 3 (s.row.flatMap cV) s.row.length,.list 1 (s.names.flatMap cS) s.names.length,.v (.bool s.count),.list 5 (s.ah.flatMap cO) s.ah.length,.v (.string s.order),.v (.bool s.down),.v (.int .i64 s.gN),.v (.string s.set),.list 5 (s.bE.flatMap cO) s.bE.length]⟩::Sx)⟩:St)) ?_ ?_
 ·refine ae [1,3,28] ?_;refine aq (fun az aH=>?_) (fun az aH=>?_)
  ·refine dL 1 ?_;refine dR call111 (qF ⟨#[67,79,85,78,84]⟩) ?_;refine dR call79 (mM ⟨#[40]⟩) ?_;refine dR call79 (mM ⟨#[42]⟩) ?_;refine dR call79 (mM ⟨#[41]⟩) ?_;refine ee (bZ 0 [_,_,_,_]) [.int .i64 0,.string ⟨#[]⟩,.int .i64 0,.int .i64 0,.string ⟨#[]⟩,.int .i64 0,.int .i64 0,.string ⟨#[]⟩,.int .i64 0,.int .i64 0,.string ⟨#[]⟩,.int .i64 0] [_,_,_,_,_,_,_,_,_,_,_,_] zeroValue149 runUnderlying114 sizeOf149 (fun GC=>?_);refine fG 0 36 3 4 ?_;refine OD.dZ (ls:=([⟨#[83,69,76,69,67,84]⟩].map bD)) (new:=[bD ⟨#[67,79,85,78,84]⟩,dP ⟨#[40]⟩,dP ⟨#[42]⟩,dP ⟨#[41]⟩]) (Sq:=S7) iy lq an rfl rfl underlying114 rH rfl w7 ot pH (dx (A:=[_])) ot bq pE w9 (fun MU U ah4 ah5=>?_);refine OD.perm (dV (S1:=[⟨MU,149,U*3,flatMap cT (([⟨#[83,69,76,69,67,84]⟩].map bD)++[bD ⟨#[67,79,85,78,84]⟩,dP ⟨#[40]⟩,dP ⟨#[42]⟩,dP ⟨#[41]⟩])⟩]) (A:=[_])) ?_;refine aj 84 [1,3] ?_;refine⟨_,aM,(([⟨#[83,69,76,69,67,84]⟩].map bD)++[bD ⟨#[67,79,85,78,84]⟩,dP ⟨#[40]⟩,dP ⟨#[42]⟩,dP ⟨#[41]⟩]),(some ⟨MU,0,none⟩),U,[⟨MU,149,U*3,flatMap cT (([⟨#[83,69,76,69,67,84]⟩].map bD)++[bD ⟨#[67,79,85,78,84]⟩,dP ⟨#[40]⟩,dP ⟨#[42]⟩,dP ⟨#[41]⟩])⟩],(by unfold y4;rw[if_pos aH]),(bI ah4 ah5),Ls,rfl⟩
  refine ae [1,3,38] ?_;refine aq (fun aG aV=>?_) (fun aG aV=>?_)
  ·refine dL 1 ?_;refine dR call79 (mM ⟨#[42]⟩) ?_;refine ee (bZ 0 [_]) [.int .i64 0,.string ⟨#[]⟩,.int .i64 0] [_,_,_] zeroValue149 runUnderlying114 sizeOf149 (fun b45=>?_);refine fG 0 45 3 1 ?_;refine OD.dZ (ls:=([⟨#[83,69,76,69,67,84]⟩].map bD)) (new:=[dP ⟨#[42]⟩]) (Sq:=S7) iy lq an rfl rfl underlying114 rH rfl w7 ot pH (dx (A:=[_])) ot bq pE w9 (fun zZ Z ah6 ah7=>?_);refine OD.perm (dV (S1:=[⟨zZ,149,Z*3,flatMap cT (([⟨#[83,69,76,69,67,84]⟩].map bD)++[dP ⟨#[42]⟩])⟩]) (A:=[_])) ?_;refine aj 84 [1,3] ?_;refine⟨_,aM,(([⟨#[83,69,76,69,67,84]⟩].map bD)++[dP ⟨#[42]⟩]),(some ⟨zZ,0,none⟩),Z,[⟨zZ,149,Z*3,flatMap cT (([⟨#[83,69,76,69,67,84]⟩].map bD)++[dP ⟨#[42]⟩])⟩],(by unfold y4;rw[if_neg xx,if_pos w4]),(bI ah6 ah7),Ls,rfl⟩
  refine ae [1,3,9,10,11] ?_;refine CD.block ?_;refine mJ (fun (l6:Nat×Option Addr×Nat×List ag) aK=>match l6 with|(i,CQ,CR,So)=>(i≤s.names.length)∧(bw 149 3 ((([⟨#[83,69,76,69,67,84]⟩].map bD++jD s.names i)).flatMap cT) (([⟨#[83,69,76,69,67,84]⟩].map bD++jD s.names i)).length CQ CR So)∧aK=(⟨84,[(1,.v (.pointer (some ⟨b1,0,none⟩))),(3,.v (.slice CQ (([⟨#[83,69,76,69,67,84]⟩].map bD++jD s.names i)).length CR)),(9,.list 1 (s.names.flatMap cS) s.names.length),(10,.v (.int .i64 (s.names.length:Nat))),(11,.v (.int .i64 (i:Nat)))],((⟨b1,42,12,[.v (.int .i64 s.kind),.v (.string s.table),.list 2 (s.av.flatMap cC) s.av.length,.list 3 (s.row.flatMap cV) s.row.length,.list 1 (s.names.flatMap cS) s.names.length,.v (.bool s.count),.list 5 (s.ah.flatMap cO) s.ah.length,.v (.string s.order),.v (.bool s.down),.v (.int .i64 s.gN),.v (.string s.set),.list 5 (s.bE.flatMap cO) s.bE.length]⟩:ag)::So)⟩:St)) (fun (l6:Nat×Option Addr×Nat×List ag)=>match l6 with|(i,CQ,CR,So)=>s.names.length-i) (0,W7,W8,S7) ⟨(Nat.zero_le _),(bw.cast pH (by simp[jD])),rfl⟩ (aM (h:=by repeat (first|exact trivial|refine⟨Lx,?_⟩))) ?_;rintro⟨i,CQ,CR,So⟩ _ ⟨hi,CS,rfl⟩;refine ae [1,3,9,10,11,12] ?_;refine aq (fun aY bz=>?_) (fun aY bz=>?_)
  ·have aa:i<s.names.length:=(by simp at aY;omega)
   have fH:=HV s.names i;refine ae [1,3,4,5,9,10,11] ?_;refine ae [1,3,5,9,10,11,17] ?_;refine aq (fun bC bY=>?_) (fun bC bY=>?_)
   ·refine dL 1 ?_;refine dR call79 (mM ⟨#[44]⟩) ?_;refine ee (bZ 0 [_]) [.int .i64 0,.string ⟨#[]⟩,.int .i64 0] [_,_,_] zeroValue149 runUnderlying114 sizeOf149 (fun MO=>?_);refine fG 0 20 3 1 ?_;refine OD.dZ (ls:=(([⟨#[83,69,76,69,67,84]⟩].map bD++jD s.names i))) (new:=[dP ⟨#[44]⟩]) (Sq:=So) iy lq an rfl rfl underlying114 rH rfl w7 ot CS (dx (A:=[_])) ot bq pE w9 (fun CK U1 ah8 ah9=>?_);refine OD.perm (dV (S1:=[⟨CK,149,U1*3,flatMap cT ((([⟨#[83,69,76,69,67,84]⟩].map bD++jD s.names i))++[dP ⟨#[44]⟩])⟩]) (A:=[_])) ?_;refine aj 84 [1,3,5,9,10,11] ?_;refine dL 2 ?_;refine dR call111 (qF s.names[i]) ?_;refine ee (bZ 0 [_]) [.int .i64 0,.string ⟨#[]⟩,.int .i64 0] [_,_,_] zeroValue149 runUnderlying114 sizeOf149 (fun xS=>?_);refine fG 0 25 3 1 ?_;refine OD.dZ (ls:=((([⟨#[83,69,76,69,67,84]⟩].map bD++jD s.names i))++[dP ⟨#[44]⟩])) (new:=[bD s.names[i]]) (Sq:=[⟨CK,149,U1*3,flatMap cT ((([⟨#[83,69,76,69,67,84]⟩].map bD++jD s.names i))++[dP ⟨#[44]⟩])⟩]) iy lq an rfl rfl underlying114 rH rfl w7 ot (bI ah8 ah9) (dx (A:=[_])) ot bq pE w9 (fun I E KV KW=>?_);refine OD.perm (dV (S1:=[⟨I,149,E*3,flatMap cT (((([⟨#[83,69,76,69,67,84]⟩].map bD++jD s.names i))++[dP ⟨#[44]⟩])++[bD s.names[i]])⟩]) (A:=[_])) ?_;refine aj 84 [1,3,9,10,11] ?_;refine cj [1,3,9,10,11] ?_
    refine⟨((i+1),(some ⟨I,0,none⟩),E,[⟨I,149,E*3,flatMap cT (((([⟨#[83,69,76,69,67,84]⟩].map bD++jD s.names i))++[dP ⟨#[44]⟩])++[bD s.names[i]])⟩]),_,cx,(aM (h:=by repeat (first|exact trivial|refine⟨Lx,?_⟩))),w4,(bw.cast (bI KV KW) (by first|exact Hq aa w4 _|exact G9 aa w4 _)),rfl⟩
   refine dL 2 ?_;refine dR call111 (qF s.names[i]) ?_;refine ee (bZ 0 [_]) [.int .i64 0,.string ⟨#[]⟩,.int .i64 0] [_,_,_] zeroValue149 runUnderlying114 sizeOf149 (fun xS=>?_);refine fG 0 25 3 1 ?_;refine OD.dZ (ls:=(([⟨#[83,69,76,69,67,84]⟩].map bD++jD s.names i))) (new:=[bD s.names[i]]) (Sq:=So) iy lq an rfl rfl underlying114 rH rfl w7 ot CS (dx (A:=[_])) ot bq pE w9 (fun I E KV KW=>?_);refine OD.perm (dV (S1:=[⟨I,149,E*3,flatMap cT ((([⟨#[83,69,76,69,67,84]⟩].map bD++jD s.names i))++[bD s.names[i]])⟩]) (A:=[_])) ?_;refine aj 84 [1,3,9,10,11] ?_;refine cj [1,3,9,10,11] ?_;refine⟨((i+1),(some ⟨I,0,none⟩),E,[⟨I,149,E*3,flatMap cT ((([⟨#[83,69,76,69,67,84]⟩].map bD++jD s.names i))++[bD s.names[i]])⟩]),_,cx,(aM (h:=by repeat (first|exact trivial|refine⟨Lx,?_⟩))),w4,(bw.cast (bI KV KW) (by first|exact Hq aa w4 _|exact G9 aa w4 _)),rfl⟩
  have tX:i=s.names.length:=(by simp at aY;omega)
  refine CD.exit ?_;refine⟨_,aM,(([⟨#[83,69,76,69,67,84]⟩].map bD++jD s.names i)),CQ,CR,So,(by unfold y4;rw[if_neg xx,if_neg w4,tX]),CS,Ls,rfl⟩
 rintro _ ⟨Q,ad,cp,Sx,hQ,dU,hQl,rfl⟩;refine aC 3 ?_;refine ee (bZ 0 [_,_]) [.string ⟨#[]⟩,.string ⟨#[]⟩] [_,_] zeroValue9 runUnderlying39 sizeOf9 (fun Aj=>?_);refine OD.perm (ym (S2:=[⟨Aj,9,2*1,flatMap cS ([⟨#[70,82,79,77]⟩,s.table])⟩]) (A:=[_])) ?_;refine OD.gP (t:=50) (Sq:=[⟨Aj,9,2*1,flatMap cS ([⟨#[70,82,79,77]⟩,s.table])⟩]) lk (bI (g:=cS) (sz:=1) (e:=9) (ls:=[⟨#[70,82,79,77]⟩,s.table]) (Nat.le_refl _) (show 2≤maxLen by decide)) (cq ja _) (yl (A:=[_])) ?_;refine dR call74 (rN [⟨#[70,82,79,77]⟩,s.table] (by show 2≤10;decide)) ?_;refine OD.dZ (ls:=Q) (new:=([⟨#[70,82,79,77]⟩,s.table].map bD)) (Sq:=Sx) iy lq an rfl rfl underlying114 rH rfl w7 ot dU (dx (A:=[_])) ot bq pE w9 (fun W9 U2 aia aib=>?_);refine OD.perm (dV (S1:=[⟨W9,149,U2*3,flatMap cT (Q++([⟨#[70,82,79,77]⟩,s.table].map bD))⟩]) (A:=[_])) ?_;refine aj 84 [1,3] ?_;refine aC 3 ?_;refine dR call81 (G1 s.ah pM MS (fun o h=>(hf.w o h).2) w4) ?_;refine OD.oV (ls:=(Q++([⟨#[70,82,79,77]⟩,s.table].map bD))) (new:=(j7 s.ah)) (Sq:=[⟨W9,149,U2*3,flatMap cT (Q++([⟨#[70,82,79,77]⟩,s.table].map bD))⟩]) iy lq an rfl rfl underlying114 rH rfl w7 runUnderlying114 sizeOf149 ot (bI aia aib) (dx (A:=[_])) ot pE w9 (fun aic aid vC va=>?_);refine OD.perm (dV (A:=[_])) ?_;refine aj 84 [1,3] ?_
 refine jJ [1] (fun aW _ aK=>∃(Q:List Tk),∃(ad:Option Addr),∃(cp:Nat),∃(Sx:List ag),(Q=(([⟨#[83,69,76,69,67,84]⟩].map bD++y4 s)++[⟨#[70,82,79,77]⟩,s.table].map bD++j7 s.ah)++BO s)∧(bw 149 3 (Q.flatMap cT) Q.length ad cp Sx)∧(Q.length≤500)∧aK=(⟨84,(3,.v (.slice ad Q.length cp))::aW,(⟨b1,42,12,[.v (.int .i64 s.kind),.v (.string s.table),.list 2 (s.av.flatMap cC) s.av.length,.list 3 (s.row.flatMap cV) s.row.length,.list 1 (s.names.flatMap cS) s.names.length,.v (.bool s.count),.list 5 (s.ah.flatMap cO) s.ah.length,.v (.string s.order),.v (.bool s.down),.v (.int .i64 s.gN),.v (.string s.set),.list 5 (s.bE.flatMap cO) s.bE.length]⟩::Sx)⟩:St)) ?_ ?_
 ·refine ae [1,3,60] ?_;refine aq (fun cy de=>?_) (fun cy de=>?_)
  ·refine aC 3 ?_;refine ee (bZ 0 [_,_,_]) [.string ⟨#[]⟩,.string ⟨#[]⟩,.string ⟨#[]⟩] [_,_,_] zeroValue9 runUnderlying39 sizeOf9 (fun CT=>?_);refine OD.perm (ym (S2:=[⟨CT,9,3*1,flatMap cS ([⟨#[79,82,68,69,82]⟩,⟨#[66,89]⟩,s.order])⟩]) (A:=[_])) ?_;refine OD.gP (t:=64) (Sq:=[⟨CT,9,3*1,flatMap cS ([⟨#[79,82,68,69,82]⟩,⟨#[66,89]⟩,s.order])⟩]) lk (bI (g:=cS) (sz:=1) (e:=9) (ls:=[⟨#[79,82,68,69,82]⟩,⟨#[66,89]⟩,s.order]) (Nat.le_refl _) (show 3≤maxLen by decide)) (cq ja _) (yl (A:=[_])) ?_;refine dR call74 (rN [⟨#[79,82,68,69,82]⟩,⟨#[66,89]⟩,s.order] (by show 3≤10;decide)) ?_;refine OD.dZ (ls:=((Q++([⟨#[70,82,79,77]⟩,s.table].map bD))++(j7 s.ah))) (new:=([⟨#[79,82,68,69,82]⟩,⟨#[66,89]⟩,s.order].map bD)) (Sq:=vC) iy lq an rfl rfl underlying114 rH rfl w7 ot va (dx (A:=[_])) ot bq pE w9 (fun oR O zm zn=>?_);refine OD.perm (dV (S1:=[⟨oR,149,O*3,flatMap cT (((Q++([⟨#[70,82,79,77]⟩,s.table].map bD))++(j7 s.ah))++([⟨#[79,82,68,69,82]⟩,⟨#[66,89]⟩,s.order].map bD))⟩]) (A:=[_])) ?_;refine aj 84 [1,3] ?_;refine ae [1,3,68] ?_;refine aq (fun dO eo=>?_) (fun dO eo=>?_)
   ·refine dL 1 ?_;refine dR call111 (qF ⟨#[68,69,83,67]⟩) ?_;refine ee (bZ 0 [_]) [.int .i64 0,.string ⟨#[]⟩,.int .i64 0] [_,_,_] zeroValue149 runUnderlying114 sizeOf149 (fun b71=>?_);refine fG 0 71 3 1 ?_;refine OD.dZ (ls:=(((Q++([⟨#[70,82,79,77]⟩,s.table].map bD))++(j7 s.ah))++([⟨#[79,82,68,69,82]⟩,⟨#[66,89]⟩,s.order].map bD))) (new:=[bD ⟨#[68,69,83,67]⟩]) (Sq:=[⟨oR,149,O*3,flatMap cT (((Q++([⟨#[70,82,79,77]⟩,s.table].map bD))++(j7 s.ah))++([⟨#[79,82,68,69,82]⟩,⟨#[66,89]⟩,s.order].map bD))⟩]) iy lq an rfl rfl underlying114 rH rfl w7 ot (bI zm zn) (dx (A:=[_])) ot bq pE w9 (fun MV KX aie aif=>?_);refine OD.perm (dV (S1:=[⟨MV,149,KX*3,flatMap cT ((((Q++([⟨#[70,82,79,77]⟩,s.table].map bD))++(j7 s.ah))++([⟨#[79,82,68,69,82]⟩,⟨#[66,89]⟩,s.order].map bD))++[bD ⟨#[68,69,83,67]⟩])⟩]) (A:=[_])) ?_;refine aj 84 [1,3] ?_;refine⟨_,aM,((((Q++([⟨#[70,82,79,77]⟩,s.table].map bD))++(j7 s.ah))++([⟨#[79,82,68,69,82]⟩,⟨#[66,89]⟩,s.order].map bD))++[bD ⟨#[68,69,83,67]⟩]),(some ⟨MV,0,none⟩),KX,[⟨MV,149,KX*3,flatMap cT ((((Q++([⟨#[70,82,79,77]⟩,s.table].map bD))++(j7 s.ah))++([⟨#[79,82,68,69,82]⟩,⟨#[66,89]⟩,s.order].map bD))++[bD ⟨#[68,69,83,67]⟩])⟩],(by rw[hQ];unfold BO;rw[if_neg (by unfold iW;simpa using cy),if_pos eo];simp only[append_assoc]),(bI aie aif),w9,rfl⟩
   refine CD.skip ?_;refine⟨_,aM,(((Q++([⟨#[70,82,79,77]⟩,s.table].map bD))++(j7 s.ah))++([⟨#[79,82,68,69,82]⟩,⟨#[66,89]⟩,s.order].map bD)),(some ⟨oR,0,none⟩),O,[⟨oR,149,O*3,flatMap cT (((Q++([⟨#[70,82,79,77]⟩,s.table].map bD))++(j7 s.ah))++([⟨#[79,82,68,69,82]⟩,⟨#[66,89]⟩,s.order].map bD))⟩],(by rw[hQ];unfold BO;rw[if_neg (by unfold iW;simpa using cy),if_neg (by simpa using dO)];simp only[append_assoc,append_nil]),(bI zm zn),w9,rfl⟩
  refine CD.skip ?_;refine⟨_,aM,((Q++([⟨#[70,82,79,77]⟩,s.table].map bD))++(j7 s.ah)),aic,aid,vC,(by rw[hQ];unfold BO;rw[if_pos (by unfold iW;simpa using cy)];simp),va,w9,rfl⟩
 rintro _ ⟨Q,ad,cp,Sx,hQ,dU,hQl,rfl⟩;refine ae [1,3,75] ?_;refine aq (fun eS fW=>?_) (fun eS fW=>?_)
 ·refine fK 7 (ap (take 1 _)) ?_ (fun _ h=>(Sublist.map _ (take_sublist _ _)).subset h);refine ax 0 rfl bj ?_;refine ax 2 rfl (c8 9) ?_;refine ax 3 rfl (dB 0) ?_;refine ax 4 rfl (nq (pl:=[(0,_),(2,_)]) (ds:=[_,_,_]) rfl zeroValue149 runUnderlying149 X3 ⟨rfl,bJ,rfl,ot,trivial⟩ rfl rfl) ?_;refine dm.later rfl ?_;refine AD.one (i:=1) ay ?_;refine jv call111 (qF ⟨#[76,73,77,73,84]⟩) ?_;refine AD.one (i:=5) ay ?_;refine jj (bZ 0 [_,_]) [.int .i64 0,.string ⟨#[]⟩,.int .i64 0,.int .i64 0,.string ⟨#[]⟩,.int .i64 0] [_,_,_,_,_,_] zeroValue149 runUnderlying114 sizeOf149 (fun b81=>?_);refine jk 0 81 3 2 ?_;refine AD.one (i:=6) ay ?_;refine bg.dZ (ls:=Q) (new:=[bD ⟨#[76,73,77,73,84]⟩,(⟨2,⟨#[]⟩,s.gN⟩:Tk)]) (Sq:=Sx) iy lq rfl an rfl rfl underlying114 rH rfl w7 ot dU (dx (A:=[_])) ot bq pE w9 (fun Xa U3 aih aii=>?_);refine AD.perm (dV (S1:=[⟨Xa,149,U3*3,flatMap cT (Q++[bD ⟨#[76,73,77,73,84]⟩,(⟨2,⟨#[]⟩,s.gN⟩:Tk)])⟩]) (A:=[_])) ?_;refine eA ?_;refine bf [3] ?_;refine ae [2] ?_;refine CD.gP (t:=2) (Sq:=[⟨Xa,149,U3*3,flatMap cT (Q++[bD ⟨#[76,73,77,73,84]⟩,(⟨2,⟨#[]⟩,s.gN⟩:Tk)])⟩]) lk (bI aih aii) (cq iy _) (dx (A:=[_])) ?_;refine eJ ?_;refine⟨?_,rfl⟩;rw[hQ];unfold Bl KU;rw[if_pos w4]
 refine ae [2] ?_;refine CD.gP (t:=2) (Sq:=Sx) lk dU (cq iy _) (dx (A:=[_])) ?_;refine aJ [] ?_;refine⟨?_,rfl⟩;rw[hQ];unfold Bl KU;rw[if_neg w4];simp only[append_nil]

def J6(k:Int):ByteArray:=aeP.getD k.toNat ⟨#[]⟩
theorem abp{k:Int}(h1:1≤k)(h2:k≤3):typesC[0+k.toNat*1]?=some (.string (J6 k)):=by
 have h:k=1∨k=2∨k=3:=(by omega)
 rcases h with rfl|rfl|rfl<;>rfl
def iT(c:cu):List Tk:=[c.n,J6 c.k].map bD
def FN:List ByteArray:=[⟨#[66,69,71,73,78]⟩,⟨#[67,79,77,77,73,84]⟩,⟨#[82,79,76,76,66,65,67,75]⟩]
def qL(s:cQ):List Tk :=
 if s.kind=1 then [⟨#[67,82,69,65,84,69]⟩,⟨#[84,65,66,76,69]⟩,s.table].map bD++lX (s.av.map iT)
 else if s.kind=2 then [⟨#[68,82,79,80]⟩,⟨#[84,65,66,76,69]⟩,s.table].map bD
 else if s.kind=3 then [⟨#[73,78,83,69,82,84]⟩,⟨#[73,78,84,79]⟩,s.table,⟨#[86,65,76,85,69,83]⟩].map bD++lX (s.row.map jd)
 else if s.kind=4 then Bl s
 else if s.kind=5 then [[⟨#[85,80,68,65,84,69]⟩,s.table,⟨#[83,69,84]⟩,s.set].map bD,[dP ⟨#[61]⟩],qK s.bE,j7 s.ah].flatten
 else if s.kind=6 then [⟨#[68,69,76,69,84,69]⟩,⟨#[70,82,79,77]⟩,s.table].map bD++j7 s.ah
 else [FN.getD (s.kind-7).toNat ⟨#[]⟩].map bD
structure Xb (s:cQ):Prop where
 fin:mX s
 k1:1≤s.kind
 k9:s.kind≤9
 c:s.kind=1→∀c∈s.av,1≤c.k∧c.k≤3
 r:s.kind=3→∀v∈s.row,mK v
 w:s.kind=4∨s.kind=5∨s.kind=6→s.ah.length=0∨fD 0 s.ah=0
 t:s.kind=5→fD 0 s.bE=0
theorem P8(ts:List (List Tk)):0<(lX ts).length:=by unfold lX;rw[length_append];simp
theorem P9{ts:List (List Tk)}(h:∀x∈ts,x.length≤10):(lX ts).length≤2+11*ts.length:=by
 have h1:=Eu h ts.length;unfold lX;rw[length_append];simp only[length_cons,length_nil];omega
theorem IU(l:List cu):∀x∈l.map iT,x.length≤10:=fun x hx=>by obtain⟨c,_,rfl⟩:=mem_map.1 hx;show 2≤10;decide
theorem Qa(l:List Vl):∀x∈l.map jd,x.length≤10:=fun x hx=>by obtain⟨v,_,rfl⟩:=mem_map.1 hx;have:=OG v;omega
theorem NV:(Tryz.prog.info? 114).map (fun i=>(i.zero,i.size,i.bytes))=some (some (.slice none 0 0),1,24):=by kernel_rfl
theorem G6:(Tryz.prog.info? 149).map (fun i=>(i.zero,i.size,i.bytes))=some (some (.agg #[.int .i64 0,.string ⟨#[]⟩,.int .i64 0]),3,32):=by kernel_rfl
theorem ada(hty:(0,typesC)∈G)(s:cQ)(hs:Xb s):VP Tryz.prog G 45 [.agg (cg s)] (.list 3 ((qL s).flatMap cT) (qL s).length):=by
 refine VC.body func45 rfl ntmps45 aO fun X0 w0 aZ=>?_;have dy:maxLen=9223372036854775807:=rfl;have hf:=hs.fin;have h6:=hf.ok.1;have h6r:=hf.ok.2.1;have pM:=hf.ok.2.2.2.1;have aij:=hf.ok.2.2.2.2;have GB:=OK s.ah;have MT:=DZ s.ah;have FO:=DZ s.bE;have kP:=P9 (IU s.av);have rm:=P9 (Qa s.row);have I:=Yy (G:=G) s hf;rw[length_map] at kP rm;unfold cg at I;unfold cg;refine bX ?_;refine OD.box (ds:=[_,_,_,_,_,_,_,_,_,_,_,_]) an rfl rfl ot rfl rfl (fun b1=>?_);refine aj 107 [1] ?_;refine cN [1,10] ?_;refine aQ 1 ?_ (h:=by exact eU);refine jR ?_;refine ae [1,10,11] ?_;refine aq (fun az aH=>?_) (fun az aH=>?_)
 ·refine bX ?_;refine bf [1,3] ?_;refine cN [1,3,14,15,16] ?_;refine aQ 1 ?_ (h:=by exact eU);refine bH ?_;refine CD.block ?_;refine mJ (fun (E:Nat×Option Addr×Nat×List ag) aK=>match E with|(i,dK,cY,Sx)=>(i≤s.av.length)∧(bw 114 1 (((s.av.take i).map iT).flatMap cK) ((s.av.take i).map iT).length dK cY Sx)∧aK=(⟨107,[(1,.v (.pointer (some ⟨b1,0,none⟩))),(3,.v (.slice dK ((s.av.take i).map iT).length cY)),(14,.list 2 (s.av.flatMap cC) s.av.length),(15,.v (.int .i64 (s.av.length:Nat))),(16,.v (.int .i64 (i:Nat)))],((⟨b1,42,12,[.v (.int .i64 s.kind),.v (.string s.table),.list 2 (s.av.flatMap cC) s.av.length,.list 3 (s.row.flatMap cV) s.row.length,.list 1 (s.names.flatMap cS) s.names.length,.v (.bool s.count),.list 5 (s.ah.flatMap cO) s.ah.length,.v (.string s.order),.v (.bool s.down),.v (.int .i64 s.gN),.v (.string s.set),.list 5 (s.bE.flatMap cO) s.bE.length]⟩:ag)::Sx)⟩:St)) (fun (E:Nat×Option Addr×Nat×List ag)=>match E with|(i,dK,cY,Sx)=>s.av.length-i) (0,none,0,[]) ⟨(Nat.zero_le _),(bw.cast iw kJ),rfl⟩ (aM (h:=by repeat (first|exact trivial|refine⟨(by (repeat (first|exact fw|(apply fP;focus (first|rfl|(simp;done)|(congr 2;omega)|(apply eE;exact s5 iT aa)|(apply eE;simp;done)))|(apply fA;focus rfl)));done),?_⟩))) ?_;rintro⟨i,dK,cY,Sx⟩ _ ⟨hi,dU,rfl⟩;refine ae [1,3,14,15,16,17] ?_;refine aq (fun aG aV=>?_) (fun aG aV=>?_)
  ·have aa:i<s.av.length:=(by simp at aG;omega)
   have Xc:=hs.c aH _ (getElem_mem aa);refine aC 1 ?_;refine bN (cJ (mk:=Op.load 111) rfl ot (by first|exact pX (k:=0) (ds:=[_,_]) rfl rfl isAgg111 sizeOf111 rfl rfl|exact jN lm isAgg111 sizeOf111 w5|exact jN fh isAgg111 sizeOf111 w5|exact jN ja isAgg111 sizeOf111 w5|exact dJ (k:=0) lm rfl rfl rfl isAgg111 sizeOf111 w5|exact dJ (k:=0) fh rfl rfl rfl isAgg111 sizeOf111 w5|exact dJ (k:=0) ja rfl rfl rfl isAgg111 sizeOf111 w5|exact qb (ds:=[_,_]) isAgg111 sizeOf111 rfl rfl)) ?_;refine OD.alloc (ds:=[_,_]) an rfl rfl zeroValue111 rfl (fun b5=>?_);refine aN 0 [_,_] sizeOf111 ?_;refine aj 107 [1,3,5,14,15,16] ?_;refine fK 11 (ap (take 2 _)) ?_ (fun _ h=>(Sublist.map _ (take_sublist _ _)).subset h);refine ax 0 rfl bj ?_;refine ax 1 rfl (c8 0) ?_;refine ax 2 rfl eU ?_;refine ax 3 rfl (c8 1) ?_;refine ax 4 rfl eU ?_;refine ax 5 rfl (pV (mk:=Op.indexAddr 144) rfl vS ot (by first|exact Te runUnderlying144 sizeOf9 rfl w5|exact Te (j:=Int.toNat _) runUnderlying144 sizeOf9 (Int.toNat_of_nonneg w4).symm w4)) ?_
   refine ax 6 rfl (cJ (mk:=Op.load 9) rfl ot (by first|exact rM (k:=0) rfl rfl isAgg9 rfl|exact rM (k:=1) rfl rfl isAgg9 rfl|exact uT lm isAgg9 w5 rfl|exact pZ lm isAgg9 w5 rfl|exact uT fh isAgg9 w5 rfl|exact pZ fh isAgg9 w5 rfl|exact uT ja isAgg9 w5 rfl|exact pZ ja isAgg9 w5 rfl|exact kU (k:=0) lm rfl rfl rfl isAgg9 w5 rfl|exact iO (k:=0) lm rfl rfl rfl isAgg9 w5 rfl|exact kU (k:=1) lm rfl rfl rfl isAgg9 w5 rfl|exact iO (k:=1) lm rfl rfl rfl isAgg9 w5 rfl|exact kU (k:=0) fh rfl rfl rfl isAgg9 w5 rfl|exact iO (k:=0) fh rfl rfl rfl isAgg9 w5 rfl|exact kU (k:=1) fh rfl rfl rfl isAgg9 w5 rfl|exact iO (k:=1) fh rfl rfl rfl isAgg9 w5 rfl|exact kU (k:=0) ja rfl rfl rfl isAgg9 w5 rfl|exact iO (k:=0) ja rfl rfl rfl isAgg9 w5 rfl|exact kU (k:=1) ja rfl rfl rfl isAgg9 w5 rfl|exact iO (k:=1) ja rfl rfl rfl isAgg9 w5 rfl|exact BH isAgg9 rfl|exact aet hty isAgg9 (abp Xc.1 Xc.2))) ?_;refine dm.later rfl ?_;refine AD.one (i:=7) ay ?_;refine jj (bZ 0 [_,_]) [.string ⟨#[]⟩,.string ⟨#[]⟩] [_,_] zeroValue9 runUnderlying39 sizeOf9 (fun b27=>?_);refine jk 0 27 1 2 ?_;refine AD.one (i:=8) ay ?_;refine jv call74 (rN [s.av[i].n,J6 s.av[i].k] (by show 2≤10;decide)) ?_;refine AD.one (i:=9) ay ?_;refine jj (bZ 0 [_]) [.slice none 0 0] [_] zeroValue114 runUnderlying142 sizeOf114 (fun ur=>?_)
   refine jk 0 29 1 1 ?_;refine AD.one (i:=10) ay ?_;refine bg.DV (Sq:=Sx) (R:=[_,_]) rfl an rfl rfl underlying142 NV rfl w7 ot dU (perm_append_comm (l₁:=[_,_])) (cq gb _) ot (tE pc [iT s.av[i]]) w7 (by rw[length_map,length_take];simp only[maxLen];omega) (by rw[length_map,length_take];omega) ig (fun MW O KY KZ=>?_);refine AD.perm (dV (S1:=[⟨MW,114,O*1,flatMap cK ((s.av.take i).map iT)++flatMap cK [iT s.av[i]]⟩]) (A:=[_,_])) ?_;rw[show flatMap cK ((s.av.take i).map iT)++flatMap cK [iT s.av[i]]=flatMap cK ((s.av.take i).map iT++[iT s.av[i]]) from List.flatMap_append.symm,show((s.av.take i).map iT).length+1=((s.av.take i).map iT++[iT s.av[i]]).length from by rw[length_append];rfl];refine eA ?_;refine bf [1,3,14,15,16] ?_;refine cj [1,3,14,15,16] ?_;refine⟨((i+1),(some ⟨MW,0,none⟩),O,[⟨MW,114,O*1,flatMap cK ((s.av.take i).map iT++[iT s.av[i]])⟩]),_,cx,(aM (h:=by repeat (first|exact trivial|refine⟨(by (repeat (first|exact fw|(apply fP;focus (first|rfl|(simp;done)|(congr 2;omega)|(apply eE;exact s5 iT aa)|(apply eE;simp;done)))|(apply fA;focus rfl)));done),?_⟩))),w4,(bw.cast (bI (by rw[length_append];exact KY) KZ) (by exact s5 iT aa)),rfl⟩
  have ff:=IT iT (show s.av.length≤i by simp at aG;omega);have U:=RH (G:=G) (s.av.map iT) Fw (IU s.av);rw[←ff] at U kP;refine aC 1 ?_;refine bN eU ?_;refine ee (bZ 0 [_,_,_]) [.string ⟨#[]⟩,.string ⟨#[]⟩,.string ⟨#[]⟩] [_,_,_] zeroValue9 runUnderlying39 sizeOf9 (fun Xd=>?_);refine OD.perm (ym (S2:=[⟨Xd,9,3*1,flatMap cS ([⟨#[67,82,69,65,84,69]⟩,⟨#[84,65,66,76,69]⟩,s.table])⟩]) (A:=[_])) ?_;refine OD.gP (t:=34) (Sq:=[⟨Xd,9,3*1,flatMap cS ([⟨#[67,82,69,65,84,69]⟩,⟨#[84,65,66,76,69]⟩,s.table])⟩]) lk (bI (g:=cS) (sz:=1) (e:=9) (ls:=[⟨#[67,82,69,65,84,69]⟩,⟨#[84,65,66,76,69]⟩,s.table]) (Nat.le_refl _) (show 3≤maxLen by decide)) (cq ja _) (yl (A:=[_])) ?_;refine OD.call an rfl rfl rfl call74 (yJ [⟨#[67,82,69,65,84,69]⟩,⟨#[84,65,66,76,69]⟩,s.table] (by show 3≤10;decide)) ⟨ot,trivial⟩ (eN _) ?_;rintro _ S35 ⟨aop,aoq,rfl,aik⟩;refine OD.perm (ym (A:=[_])) ?_;refine aD 1 ?_;refine OD.gP (t:=36) (Sq:=Sx) lk dU (cq gb _) (ou (A:=[_])) ?_;refine dR call75 (U) ?_;refine OD.dZ (ls:=([⟨#[67,82,69,65,84,69]⟩,⟨#[84,65,66,76,69]⟩,s.table].map bD)) (new:=(lX ((s.av.take i).map iT))) (Sq:=S35) iy lq an rfl rfl underlying114 G6 rfl w7 ot aik (dx (A:=[_])) ot (P8 _) pE w9 (fun ML U4 ail aim=>?_)
  refine OD.perm (dV (S1:=[⟨ML,149,U4*3,flatMap cT (([⟨#[67,82,69,65,84,69]⟩,⟨#[84,65,66,76,69]⟩,s.table].map bD)++(lX ((s.av.take i).map iT)))⟩]) (A:=[_])) ?_;refine aj 107 [2] ?_;refine CD.gP (t:=2) (Sq:=[⟨ML,149,U4*3,flatMap cT (([⟨#[67,82,69,65,84,69]⟩,⟨#[84,65,66,76,69]⟩,s.table].map bD)++(lX ((s.av.take i).map iT)))⟩]) lk (bI ail aim) (cq iy _) (dx (A:=[_])) ?_;refine aJ [] ?_;refine⟨?_,rfl⟩;unfold qL;rw[if_pos aH,←ff]
 refine ae [1,10,39] ?_;refine aq (fun aY bz=>?_) (fun aY bz=>?_)
 ·refine cN [2] ?_;refine aQ 1 ?_ (h:=by exact eU);refine cU (rN [⟨#[68,82,79,80]⟩,⟨#[84,65,66,76,69]⟩,s.table] (by show 3≤10;decide)) ?_;refine bH ?_;refine aJ [] ?_;refine⟨?_,rfl⟩;unfold qL;rw[if_neg aH,if_pos bz]
 refine ae [1,10,45] ?_;refine aq (fun bC bY=>?_) (fun bC bY=>?_)
 ·refine bX ?_;refine bf [1,6] ?_;refine cN [1,6,48,49,50] ?_;refine aQ 1 ?_ (h:=by exact eU);refine bH ?_;refine CD.block ?_;refine mJ (fun (E:Nat×Option Addr×Nat×List ag) aK=>match E with|(i,GD,GF,Sv)=>(i≤s.row.length)∧(bw 114 1 (((s.row.take i).map jd).flatMap cK) ((s.row.take i).map jd).length GD GF Sv)∧aK=(⟨107,[(1,.v (.pointer (some ⟨b1,0,none⟩))),(6,.v (.slice GD ((s.row.take i).map jd).length GF)),(48,.list 3 (s.row.flatMap cV) s.row.length),(49,.v (.int .i64 (s.row.length:Nat))),(50,.v (.int .i64 (i:Nat)))],((⟨b1,42,12,[.v (.int .i64 s.kind),.v (.string s.table),.list 2 (s.av.flatMap cC) s.av.length,.list 3 (s.row.flatMap cV) s.row.length,.list 1 (s.names.flatMap cS) s.names.length,.v (.bool s.count),.list 5 (s.ah.flatMap cO) s.ah.length,.v (.string s.order),.v (.bool s.down),.v (.int .i64 s.gN),.v (.string s.set),.list 5 (s.bE.flatMap cO) s.bE.length]⟩:ag)::Sv)⟩:St)) (fun (E:Nat×Option Addr×Nat×List ag)=>match E with|(i,GD,GF,Sv)=>s.row.length-i) (0,none,0,[]) ⟨(Nat.zero_le _),(bw.cast iw kJ),rfl⟩ (aM (h:=by repeat (first|exact trivial|refine⟨(by (repeat (first|exact fw|(apply fP;focus (first|rfl|(simp;done)|(congr 2;omega)|(apply eE;exact s5 jd aa)|(apply eE;simp;done)))|(apply fA;focus rfl)));done),?_⟩))) ?_;rintro⟨i,GD,GF,Sv⟩ _ ⟨hi,mG,rfl⟩;refine ae [1,6,48,49,50,51] ?_;refine aq (fun cy de=>?_) (fun cy de=>?_)
  ·have aa:i<s.row.length:=(by simp at cy;omega)
   refine aC 1 ?_;refine bN (cJ (mk:=Op.load 30) rfl ot (by first|exact pX (k:=0) (ds:=[_,_,_]) rfl rfl isAgg30 sizeOf30 rfl rfl|exact jN lm isAgg30 sizeOf30 w5|exact jN fh isAgg30 sizeOf30 w5|exact jN ja isAgg30 sizeOf30 w5|exact dJ (k:=0) lm rfl rfl rfl isAgg30 sizeOf30 w5|exact dJ (k:=0) fh rfl rfl rfl isAgg30 sizeOf30 w5|exact dJ (k:=0) ja rfl rfl rfl isAgg30 sizeOf30 w5|exact qb (ds:=[_,_,_]) isAgg30 sizeOf30 rfl rfl)) ?_;refine OD.alloc (ds:=[_,_,_]) an rfl rfl zeroValue30 rfl (fun b8=>?_);refine aN 0 [_,_,_] sizeOf30 ?_;refine aj 107 [1,6,8,48,49,50] ?_;refine dL 1 ?_;refine bN (cJ (mk:=Op.load 30) rfl ot (by first|exact pX (k:=0) (ds:=[_,_,_]) rfl rfl isAgg30 sizeOf30 rfl rfl|exact jN lm isAgg30 sizeOf30 w5|exact jN fh isAgg30 sizeOf30 w5|exact jN ja isAgg30 sizeOf30 w5|exact dJ (k:=0) lm rfl rfl rfl isAgg30 sizeOf30 w5|exact dJ (k:=1) lm rfl rfl rfl isAgg30 sizeOf30 w5|exact dJ (k:=0) fh rfl rfl rfl isAgg30 sizeOf30 w5|exact dJ (k:=1) fh rfl rfl rfl isAgg30 sizeOf30 w5|exact dJ (k:=0) ja rfl rfl rfl isAgg30 sizeOf30 w5|exact dJ (k:=1) ja rfl rfl rfl isAgg30 sizeOf30 w5|exact qb (ds:=[_,_,_]) isAgg30 sizeOf30 rfl rfl)) ?_;refine dR call76 (NM s.row[i] (hs.r bY _ (getElem_mem aa))) ?_;refine ee (bZ 0 [_]) [.slice none 0 0] [_] zeroValue114 runUnderlying142 sizeOf114 (fun b57=>?_)
   refine fG 0 57 1 1 ?_;refine OD.dZ (ls:=((s.row.take i).map jd)) (new:=[jd s.row[i]]) (Sq:=Sv) gb pc an rfl rfl underlying142 NV rfl w7 ot mG (dx (A:=[_,_])) ot bq (by simp only[maxLen,length_map,length_take,length_cons,length_nil];omega) (by simp only[length_map,length_take,length_cons,length_nil];omega) (fun zS Z ain aio=>?_);refine OD.perm (dV (S1:=[⟨zS,114,Z*1,flatMap cK (((s.row.take i).map jd)++[jd s.row[i]])⟩]) (A:=[_,_])) ?_;refine aj 107 [1,6,48,49,50] ?_;refine cj [1,6,48,49,50] ?_;refine⟨((i+1),(some ⟨zS,0,none⟩),Z,[⟨zS,114,Z*1,flatMap cK (((s.row.take i).map jd)++[jd s.row[i]])⟩]),_,cx,(aM (h:=by repeat (first|exact trivial|refine⟨(by (repeat (first|exact fw|(apply fP;focus (first|rfl|(simp;done)|(congr 2;omega)|(apply eE;exact s5 jd aa)|(apply eE;simp;done)))|(apply fA;focus rfl)));done),?_⟩))),w4,(bw.cast (bI ain aio) (by exact s5 jd aa)),rfl⟩
  have T2:=IT jd (show s.row.length≤i by simp at cy;omega);have U:=RH (G:=G) (s.row.map jd) Fw (Qa s.row);rw[←T2] at U rm;refine aC 1 ?_;refine bN eU ?_;refine ee (bZ 0 [_,_,_,_]) [.string ⟨#[]⟩,.string ⟨#[]⟩,.string ⟨#[]⟩,.string ⟨#[]⟩] [_,_,_,_] zeroValue9 runUnderlying39 sizeOf9 (fun MX=>?_);refine OD.perm (ym (S2:=[⟨MX,9,4*1,flatMap cS ([⟨#[73,78,83,69,82,84]⟩,⟨#[73,78,84,79]⟩,s.table,⟨#[86,65,76,85,69,83]⟩])⟩]) (A:=[_])) ?_;refine OD.gP (t:=62) (Sq:=[⟨MX,9,4*1,flatMap cS ([⟨#[73,78,83,69,82,84]⟩,⟨#[73,78,84,79]⟩,s.table,⟨#[86,65,76,85,69,83]⟩])⟩]) lk (bI (g:=cS) (sz:=1) (e:=9) (ls:=[⟨#[73,78,83,69,82,84]⟩,⟨#[73,78,84,79]⟩,s.table,⟨#[86,65,76,85,69,83]⟩]) (Nat.le_refl _) (show 4≤maxLen by decide)) (cq ja _) (yl (A:=[_])) ?_;refine OD.call an rfl rfl rfl call74 (yJ [⟨#[73,78,83,69,82,84]⟩,⟨#[73,78,84,79]⟩,s.table,⟨#[86,65,76,85,69,83]⟩] (by show 4≤10;decide)) ⟨ot,trivial⟩ (eN _) ?_;rintro _ CM ⟨UY,wX,rfl,BN⟩;refine OD.perm (ym (A:=[_])) ?_;refine aD 1 ?_;refine OD.gP (t:=64) (Sq:=Sv) lk mG (cq gb _) (ou (A:=[_])) ?_;refine dR call75 (U) ?_;refine OD.dZ (ls:=([⟨#[73,78,83,69,82,84]⟩,⟨#[73,78,84,79]⟩,s.table,⟨#[86,65,76,85,69,83]⟩].map bD)) (new:=(lX ((s.row.take i).map jd))) (Sq:=CM) iy lq an rfl rfl underlying114 G6 rfl w7 ot BN (dx (A:=[_])) ot (P8 _) pE w9 (fun oR zl zm zn=>?_)
  refine OD.perm (dV (S1:=[⟨oR,149,zl*3,flatMap cT (([⟨#[73,78,83,69,82,84]⟩,⟨#[73,78,84,79]⟩,s.table,⟨#[86,65,76,85,69,83]⟩].map bD)++(lX ((s.row.take i).map jd)))⟩]) (A:=[_])) ?_;refine aj 107 [2] ?_;refine CD.gP (t:=2) (Sq:=[⟨oR,149,zl*3,flatMap cT (([⟨#[73,78,83,69,82,84]⟩,⟨#[73,78,84,79]⟩,s.table,⟨#[86,65,76,85,69,83]⟩].map bD)++(lX ((s.row.take i).map jd)))⟩]) lk (bI zm zn) (cq iy _) (dx (A:=[_])) ?_;refine aJ [] ?_;refine⟨?_,rfl⟩;unfold qL;rw[if_neg aH,if_neg bz,if_pos bY,←T2]
 refine ae [1,10,67] ?_;refine aq (fun dO eo=>?_) (fun dO eo=>?_)
 ·refine cN [2] ?_;refine aQ 0 ?_ (h:=by exact(cJ (mk:=Op.load 42) rfl ot (by first|exact pX (k:=0) (ds:=[_,_,_,_,_,_,_,_,_,_,_,_]) rfl rfl isAgg42 sizeOf42 rfl rfl|exact jN lm isAgg42 sizeOf42 w5|exact jN fh isAgg42 sizeOf42 w5|exact jN ja isAgg42 sizeOf42 w5|exact dJ (k:=0) lm rfl rfl rfl isAgg42 sizeOf42 w5|exact dJ (k:=0) fh rfl rfl rfl isAgg42 sizeOf42 w5|exact dJ (k:=0) ja rfl rfl rfl isAgg42 sizeOf42 w5|exact qb (ds:=[_,_,_,_,_,_,_,_,_,_,_,_]) isAgg42 sizeOf42 rfl rfl)));refine cU (I (hs.w (.inl eo))) ?_;refine bH ?_;refine aJ [] ?_;refine⟨?_,rfl⟩;unfold qL;rw[if_neg aH,if_neg bz,if_neg bY,if_pos eo]
 refine ae [1,10,71] ?_;refine aq (fun eS fW=>?_) (fun eS fW=>?_)
 ·refine cN [2] ?_;refine aQ 1 ?_ (h:=by exact eU);refine aQ 1 ?_ (h:=by exact eU);refine cU (rN [⟨#[85,80,68,65,84,69]⟩,s.table,⟨#[83,69,84]⟩,s.set] (by show 4≤10;decide)) ?_;refine cU (mM ⟨#[61]⟩) ?_;refine aQ 2 ?_ (h:=by exact eU);refine cU (N8 s.bE aij (hs.t fW) (fun o h=>(hf.x o h).2)) ?_;refine aQ 1 ?_ (h:=by exact eU);refine cU (G1 s.ah pM (hs.w (.inr (.inl fW))) (fun o h=>(hf.w o h).2) w4) ?_;refine cU (DY [[⟨#[85,80,68,65,84,69]⟩,s.table,⟨#[83,69,84]⟩,s.set].map bD,[dP ⟨#[61]⟩],qK s.bE,j7 s.ah] (by show 4≤1000;decide) (by simp only[flatten_cons,flatten_nil,length_append,length_map,length_cons,length_nil];omega) (by simp only[flatten_cons,flatten_nil,length_append,length_map,length_cons,length_nil];omega)) ?_;refine bH ?_;refine aJ [] ?_;refine⟨?_,rfl⟩;unfold qL;rw[if_neg aH,if_neg bz,if_neg bY,if_neg eo,if_pos fW]
 refine ae [1,89] ?_;refine aq (fun eL gg=>?_) (fun eL gg=>?_)
 ·refine CD.seq ?_;refine fK 8 (ap (take 1 _)) ?_ (fun _ h=>(Sublist.map _ (take_sublist _ _)).subset h);refine ax 0 rfl (c8 1) ?_;refine ax 1 rfl eU ?_;refine ax 4 rfl (c8 6) ?_;refine ax 5 rfl eU ?_;refine dm.later rfl ?_;refine AD.one (i:=2) ay ?_;refine jj (bZ 0 [_,_,_]) [.string ⟨#[]⟩,.string ⟨#[]⟩,.string ⟨#[]⟩] [_,_,_] zeroValue9 runUnderlying39 sizeOf9 (fun Xe=>?_);refine jk 0 93 1 3 ?_;refine AD.one (i:=3) ay ?_;refine bg.call rfl an rfl rfl rfl call74 (yJ [⟨#[68,69,76,69,84,69]⟩,⟨#[70,82,79,77]⟩,s.table] (by show 3≤10;decide)) ⟨ot,trivial⟩ (eN _) ig ?_;rintro _ S94 ⟨aor,aos,rfl,aip⟩;refine AD.perm (dV (A:=[_])) ?_;refine AD.one (i:=6) ay ?_;refine jv call81 (G1 s.ah pM (hs.w (.inr (.inr gg))) (fun o h=>(hf.w o h).2) w4) ?_;refine AD.one (i:=7) ay ?_;refine bg.oV (ls:=([⟨#[68,69,76,69,84,69]⟩,⟨#[70,82,79,77]⟩,s.table].map bD)) (new:=(j7 s.ah)) (Sq:=S94) iy lq rfl an rfl rfl underlying114 G6 rfl w7 runUnderlying114 sizeOf149 ot aip (dx (A:=[_])) ot pE w9 (fun aot aou S98 aiq=>?_);refine AD.perm (dV (A:=[_])) ?_;refine eA ?_;refine bf [2] ?_;refine CD.gP (t:=2) (Sq:=S98) lk aiq (cq iy _) (dx (A:=[_])) ?_;refine eJ ?_;refine⟨?_,rfl⟩;unfold qL;rw[if_neg aH,if_neg bz,if_neg bY,if_neg eo,if_neg fW,if_pos gg]
 obtain⟨j,hj,MY⟩:∃j:Nat,s.kind=((7+j:Nat):Int)∧j<FN.length:=⟨(s.kind-7).toNat,by have:=hs.k1;have:=hs.k9;omega,by have:=hs.k1;have:=hs.k9;show _<3;omega⟩
 refine cN [2] ?_;refine MA (g:=cS) (FN) ?_;refine aQ 1 ?_ (h:=by exact eU);refine aQ 0 ?_ (h:=by exact(cZ (r:=.int .i64 ((j:Nat):Int)) rfl ot bJ (fZ (by rw[hj,show(((7+j:Nat)):Int)-7=((j:Nat):Int) by omega];exact wrap_i64 w4 (by have:j<3:=MY;omega)))));refine aQ 1 ?_ (h:=by exact(cJ (mk:=Op.load 9) rfl ot (by exact pZ (i:=j) ja isAgg9 MY rfl)));refine cU (rN [FN[j]] zP) ?_;refine bH ?_;refine aJ [] ?_;refine⟨?_,rfl⟩;unfold qL;rw[if_neg aH,if_neg bz,if_neg bY,if_neg eo,if_neg fW,if_neg gg,hj,show(((7+j:Nat):Int)-7).toNat=j by omega,mq MY];first|done|rfl

theorem N9:∀(l pre:List cu),qJ pre l=0→∀c∈l,cM c.n=0∧1≤c.k∧c.k≤3
 | [],_,_,c,hc=>by cases hc
 | a::l,pre,h,c,hc=>by
  have h:(if mU pre a≠0 then mU pre a else qJ (pre++[a]) l)=0:=h;by_cases h0:mU pre a=0
  ·rw[if_neg (by simp[h0])] at h;rcases mem_cons.1 hc with rfl|hc
   ·unfold mU at h0;by_cases h1:cM c.n=0
    ·rw[if_neg (by simp[h1])] at h0;by_cases h2:c.k<1∨c.k>3
     ·rw[if_pos h2] at h0;cases h0
     exact⟨h1,by omega⟩
    rw[if_pos h1] at h0;exact absurd h0 h1
   exact N9 l _ h c hc
  rw[if_pos h0] at h;exact absurd h h0
theorem ZQ{l:List cu}(h:fB l=0):(1≤l.length∧l.length≤6)∧∀c∈l,cM c.n=0∧1≤c.k∧c.k≤3:=by
 unfold fB at h;split at h
 ·cases h
 exact⟨by omega,N9 l [] h⟩
theorem RJ{α:Type}{f:α→Int}:∀{l:List α},jB f l=0→∀a∈l,f a=0
 | [],_,a,h=>by cases h
 | b::r,h,a,ha=>by
  unfold jB at h;split at h
  ·exact absurd h tL
  rcases mem_cons.1 ha with rfl|ha
  ·have hn:¬f a≠0:=(by assumption)
   omega
  exact RJ h a ha
theorem IV{l:List aX}(h:nu l=0):l.length=0∨fD 0 l=0:=by
 unfold nu at h;split at h
 ·exact .inl tL
 right;unfold iG at h;split at h
 ·cases h
 exact h
theorem aeQ{l:List aX}(h:iG l=0):fD 0 l=0∧l.length≤40:=by
 unfold iG at h;split at h
 ·cases h
 exact⟨h,by omega⟩
theorem agb{s:cQ}(h:iz s=0):ko s=0∧lV s (jf s)=true∧(s.kind<7→cM s.table=0):=by
 unfold iz at h;split at h
 ·rename_i h1;exact absurd h h1.2
 rename_i h1;split at h
 ·cases h
 rename_i h2;refine⟨h,?_,fun hk=>?_⟩
 ·cases hb:lV s (jf s) with
  | true=>rfl
  | false=>exact absurd ⟨h,hb⟩ h2
 by_cases hn:cM s.table=0
 ·exact hn
 exact absurd ⟨hk,hn⟩ h1
theorem agc{s:cQ}(hf:mX s)(h1:1≤s.kind)(I:s.kind≤9)(h:iz s=0):Xb s:=by
 have he:=(agb h).1;unfold ko at he;refine⟨hf,h1,I,fun hk=>?_,fun hk v E=>?_,fun hk=>?_,fun hk=>?_⟩
 ·rw[if_pos hk] at he;exact fun c hc=>((ZQ he).2 c hc).2
 ·rw[if_neg w4,if_pos hk] at he;unfold dW at he;split at he
  ·cases he
  exact Ts (RJ he v E) (hf.r v E).1 (hf.r v E).2
 ·by_cases h4:s.kind=4
  ·rw[if_neg w4,if_neg w4,if_pos h4] at he;unfold oC at he;repeat' split at he
   all_goals first|(exfalso;omega)|exact IV w4
  by_cases h5:s.kind=5
  ·rw[if_neg w4,if_neg w4,if_neg h4,if_pos h5] at he;repeat' split at he
   all_goals first|(exfalso;omega)|exact IV he
  rw[if_neg w4,if_neg w4,if_neg h4,if_neg h5,if_pos w4] at he;exact IV he
 rw[if_neg w4,if_neg w4,if_neg w4,if_pos hk] at he;repeat' split at he
 all_goals first|(exfalso;omega)|exact(aeQ tL).1
def jO(s:cQ):Int:=if s.kind<1∨s.kind>9 then 2 else if iz s≠0 then iz s else if (qL s).length>100 then 10 else 0
theorem Qb(hm:(3,marksC)∈G)(hw:(2,wordsC)∈G)(O:(0,typesC)∈G)(s:cQ)(hf:mX s):VP Tryz.prog G 27 [.agg (cg s)] (.v (.int .i64 (jO s))):=by
 refine VC.body func27 rfl ntmps27 aO fun X0 w0 aZ=>?_;have dy:maxLen=9223372036854775807:=rfl;have eY:=ZP hm hw s hf;unfold cg at eY;unfold cg;have Z:(s.kind<1∨s.kind>9)∨¬(s.kind<1∨s.kind>9):=(by omega)
 refine bX ?_;refine OD.box (ds:=[_,_,_,_,_,_,_,_,_,_,_,_]) an rfl rfl ot rfl rfl (fun b1=>?_);refine aj 21 [1] ?_;refine aC 4 ?_;refine bS 7 (fun U E=>?_) (fun U E=>?_)
 ·refine bf [1,11] ?_;refine eC ?_;have aT:jO s=2:=if_pos w4;exact xE
 refine bf [1,11] ?_;refine aq (fun az aH=>?_) (fun az aH=>?_)
 ·have aT:jO s=2:=if_pos w4;exact xE
 have hk:¬(s.kind<1∨s.kind>9):=(by omega)
 refine cL [1,3] (eY) ?_;refine ae [1,3,15] ?_;refine aq (fun aG aV=>?_) (fun aG aV=>?_)
 ·have hn:iz s≠0:=(by simpa using aG)
  have aT:jO s=iz s:=(by unfold jO;rw[if_neg hk,if_pos hn])
  exact xE
 have h0:iz s=0:=(by simpa using aG)
 have I:=ada O s (agc hf w4 w4 h0);unfold cg at I;have gC:¬iz s≠0:=fun h=>h h0;refine cL [20] (I) ?_;refine aq (fun aY bz=>?_) (fun aY bz=>?_)
 ·have aT:jO s=10:=(by unfold jO;rw[if_neg hk,if_neg gC,if_pos (by simp at aY;omega)])
  exact xE
 have aT:jO s=0:=(by unfold jO;rw[if_neg hk,if_neg gC,if_neg (by simp at aY;omega)])
 refine ae [2] ?_;refine eJ ?_;rw[aT];exact⟨rfl,rfl⟩

end Go.Proofs.YtbcmjoaggammcaaGreatDoor.Pa
namespace Go.Proofs.YtbcmjoaggammcaaGreatDoor.Pc
open List
open Go.Proofs.Tryz
open Go.RowKit V Pk Vl Go.Proofs.YtbcmjoaggammcaaGreatDoor.Nm Pa
variable {G:List (Nat×List Value)}
variable {i:Nat}
theorem aeR:cM ⟨#[116]⟩=0:=sS (l:=[116]) w7 w7 (fun c hc=>by simp only[mem_singleton] at hc;subst hc;decide)
def qy(l:List cu):cQ:={iD with kind:=1,table:=⟨#[116]⟩,av:=l}
theorem agd{l:List cu}(h6:l.length≤6)(aS:∀c∈l,c.n.size≤maxLen):mX (qy l) :=
 ⟨⟨h6,Nat.zero_le _,Nat.zero_le _,Nat.zero_le _,Nat.zero_le _⟩,(by show 1≤maxLen;decide),aS,(fun _ h=>by cases h),Nat.zero_le _,Nat.zero_le _,(fun _ h=>by cases h),(fun _ h=>by cases h),(fun _ h=>by cases h)⟩
theorem aeS(l:List cu):lV (qy l) (qy l)=true:=by
 unfold lV;simp only[Bool.and_eq_true,beq_iff_eq,AV,and_self]
theorem adb(l:List cu):iz (qy l)=fB l:=by
 have h1:ko (qy l)=fB l:=rfl;have h2:jf (qy l)=qy l:=rfl;unfold iz;rw[if_neg (fun h=>h.2 aeR),h2,h1,if_neg (fun h=>by rw[aeS] at h;cases h.2)]
theorem abq{l:List cu}(h6:l.length≤6):jO (qy l)=fB l:=by
 unfold jO;rw[if_neg (fun h=>by have:(qy l).kind=1:=rfl;omega),adb];split
 ·rfl
 rename_i h0;have h1:=Eu (ts:=l.map iT) (IU l) (l.map iT).length;have h2:(lX (l.map iT)).length≤80:=(by unfold lX;rw[length_append];rw[length_map] at h1 ⊢;simp only[length_cons,length_nil];omega)
 have h3:(qL (qy l)).length≤100:=by
  show([_,_,_].map bD++lX (l.map iT)).length≤100;rw[length_append];simp only[length_map,length_cons,length_nil];omega
 rw[if_neg w4];simp only[ne_eq,Decidable.not_not] at h0;exact h0.symm
def MZ(l:List cu):List D:=[.v (.int .i64 1),.v (.string ⟨#[116]⟩),.list 2 (l.flatMap cC) l.length,.v (.slice none 0 0),.v (.slice none 0 0),.v (.bool false),.v (.slice none 0 0),.v (.string ⟨#[]⟩),.v (.bool false),.v (.int .i64 (-1)),.v (.string ⟨#[]⟩),.v (.slice none 0 0)]
theorem ZR(hm:(3,marksC)∈G)(hw:(2,wordsC)∈G)(ht:(0,typesC)∈G)(l:List cu)(hl:l.length≤6)(aS:∀c∈l,c.n.size≤maxLen):VP Tryz.prog G 27 [.agg (MZ l)] (.v (.int .i64 (fB l))):=by
 have h:=Pa.Qb (G:=G) hm hw ht (qy l) (agd hl aS);rw[abq hl] at h;refine VC.args h rfl fun w L i h1 h2 v E=>?_;have:i=0:=(by simp only[length_cons,length_nil] at h1;omega)
 subst this;exact Jo (a:=MZ l) (b:=cg (qy l)) ⟨eR,eR,eR,gd,gd,eR,gd,eR,eR,eR,eR,gd,trivial⟩ w L v E
theorem EH(hm:(3,marksC)∈G)(hw:(2,wordsC)∈G)(ht:(0,typesC)∈G)(l:List cu)(hl:l.length≤6)(aS:∀c∈l,c.n.size≤maxLen):VP Tryz.prog G 64 [.list 2 (l.flatMap cC) l.length] (.v (.int .i64 (fB l))):=by
 refine VC.body func64 rfl ntmps64 aO fun X0 w0 aZ=>?_;have dy:maxLen=9223372036854775807:=rfl;have eY:=ZR hm hw ht l hl aS;unfold MZ at eY;refine ae [0] ?_;refine cL [2] (eY) ?_;exact z51
def lY(i:Nat)(c:cu)(v:Vl):Int:=if cA v≠0 then cA v else if v.k≠c.k∧(i=0∨v.k≠0) then 4 else 0
def pA:Nat→List cu→List Vl→Int
 | i,c::cs,v::vs=>if lY i c v≠0 then lY i c v else pA (i+1) cs vs
 | _,_,_=>0
def dW(cs:List cu)(vs:List Vl):Int:=if fB cs≠0 then fB cs else if vs.length≠cs.length then 1 else pA 0 cs vs
theorem Zx{cs:List cu}{vs:List Vl}(h1:i<cs.length)(h2:i<vs.length)(h:lY i cs[i] vs[i]=0):pA i (cs.drop i) (vs.drop i)=pA (i+1) (cs.drop (i+1)) (vs.drop (i+1)):=by
 rw[drop_eq_getElem_cons h1,drop_eq_getElem_cons h2];exact if_neg (by simp[h])
theorem PB{cs:List cu}{vs:List Vl}(h1:i<cs.length)(h2:i<vs.length)(h:lY i cs[i] vs[i]≠0):pA i (cs.drop i) (vs.drop i)=lY i cs[i] vs[i]:=by
 rw[drop_eq_getElem_cons h1,drop_eq_getElem_cons h2];exact if_pos h
theorem abr{cs:List cu}{vs:List Vl}(h:¬i<vs.length):pA i (cs.drop i) (vs.drop i)=0:=by
 rw[drop_of_length_le (l:=vs) w4];cases cs.drop i<;>rfl
theorem JB(hm:(3,marksC)∈G)(hw:(2,wordsC)∈G)(ht:(0,typesC)∈G)(l:List cu)(hl:l.length≤6)(aS:∀c∈l,c.n.size≤maxLen)(vs:List Vl)(rm:vs.length≤maxLen):VP Tryz.prog G 65 [.list 2 (l.flatMap cC) l.length,.list 3 (vs.flatMap cV) vs.length] (.v (.int .i64 (dW l vs))):=by
 refine VC.body func65 rfl ntmps65 aO fun X0 w0 aZ=>?_;have dy:maxLen=9223372036854775807:=rfl;refine ae [0,1] ?_;refine cL [0,1,5] (EH hm hw ht l hl aS) ?_;refine ae [0,1,5,12] ?_;refine aq (fun az aH=>?_) (fun az aH=>?_)
 ·have hne:fB l≠0:=(by simpa using az)
  have aT:dW l vs=fB l:=if_pos hne;refine ae [4] ?_;exact n8
 have h0:¬fB l≠0:=(by simpa using az)
 refine ae [0,1,18] ?_;refine aq (fun aG aV=>?_) (fun aG aV=>?_)
 ·have aT:dW l vs=1:=(by unfold dW;rw[if_neg h0,if_pos w4])
  refine ae [4] ?_;exact n8
 have Z:vs.length=l.length:=(by omega)
 have E:dW l vs=pA 0 (l.drop 0) (vs.drop 0):=(by unfold dW;rw[if_neg h0,if_neg (by simp[Z])];rfl)
 refine ae [0,19,20,21] ?_;refine eB [0,19,20] (fun aW _ (i:Nat) aK=>(i≤vs.length)∧(dW l vs=pA i (l.drop i) (vs.drop i))∧aK=(⟨49,(21,.v (.int .i64 (i:Nat)))::aW,[]⟩:St)) (fun (i:Nat)=>vs.length-i) 0 ⟨(Nat.zero_le _),E,rfl⟩ ?_;rintro i _ ⟨hi,hinv,rfl⟩;refine ae [0,19,20,21,22] ?_;refine aq (fun aY bz=>?_) (fun aY bz=>?_)
 ·have aa:i<vs.length:=(by omega)
  have Kt:i<l.length:=(by omega)
  refine aC 3 ?_;refine OD.alloc (ds:=[_,_,_]) an rfl rfl zeroValue30 rfl (fun b7=>?_);refine aD 1 ?_;refine aN 0 [_,_,_] sizeOf30 ?_;refine aj 49 [0,6,7,19,20,21] ?_;refine cL [0,6,7,8,19,20,21] (Vl.oX vs[i]) ?_;refine ae [0,6,7,8,19,20,21,29] ?_;refine aq (fun bC bY=>?_) (fun bC bY=>?_)
  ·have hne:cA vs[i]≠0:=(by simpa using bC)
   have hf:lY i l[i] vs[i]=cA vs[i]:=if_pos hne;have aT:dW l vs=cA vs[i]:=(by rw[hinv,PB Kt aa (by rw[hf];exact hne),hf])
   refine ae [4] ?_;exact n8
  have hz:¬cA vs[i]≠0:=(by simpa using bC)
  refine CD.skip ?_;refine CD.seq ?_;refine l8 7 [0,6,7,19,20,21,32,37] ?_;refine bH ?_;refine aD 2 ?_;refine bS 39 (fun U I=>?_) (fun U I=>?_)
  ·refine aD 3 ?_;refine bS 42 (fun qQ O=>?_) (fun qQ O=>?_)
   ·refine bf [0,19,20,21,47] ?_;refine eC ?_;exact V9
   refine bf [0,19,20,21,47] ?_;refine aq (fun cy de=>?_) (fun cy de=>?_)
   ·exact V9
   exact Wb
  refine bf [0,19,20,21,47] ?_;refine fL ?_;exact Wb
 have aT:dW l vs=0:=(by rw[hinv];exact abr w4)
 refine ae [4] ?_;exact ue

end Go.Proofs.YtbcmjoaggammcaaGreatDoor.Pc

namespace Go.Proofs.YtbcmjoaggammcaaGreatDoor.Nm
open List
open Go.Proofs.Tryz
open Go.RowKit V Pk Vl
inductive Tw where
 | mk (k n:Int) (s:ByteArray) (ts:List Tw)
mutual
def Tw.cs:Tw→List D
 | .mk k n s ts=>[.v (.int .i64 k),.v (.int .i64 n),.v (.string s),.list 4 (Tw.mg ts) ts.length]
def Tw.mg:List Tw→List D
 | []=>[]
 | t::r=>t.cs++Tw.mg r
end
theorem Tw.JC:∀ts:List Tw,Tw.mg ts=ts.flatMap Tw.cs
 | []=>rfl
 | t::r=>by rw[Tw.mg,Tw.JC r,flatMap_cons]
theorem Tw.EX(t:Tw):t.cs.length=4:=by cases t;rfl
mutual
def Tw.Ok:Tw→Prop
 | .mk k n s ts=>(-9223372036854775808≤k∧k≤9223372036854775807)∧(-9223372036854775808≤n∧n≤9223372036854775807)∧s.size≤maxLen∧ts.length≤maxLen∧Tw.GG ts
def Tw.GG:List Tw→Prop
 | []=>True
 | t::r=>t.Ok∧Tw.GG r
end
theorem Tw.RL:∀{ts:List Tw},Tw.GG ts→∀t∈ts,t.Ok
 | [],_,t,h=>by cases h
 | a::r,⟨h1,h2⟩,t,h=>by
  rcases mem_cons.1 h with rfl|h
  ·exact h1
  exact Tw.RL h2 t h
theorem Tw.RM:∀{ts:List Tw},(∀t∈ts,t.Ok)→Tw.GG ts
 | [],_=>trivial
 | a::r,h=>⟨h a mem_cons_self,Tw.RM fun t ht=>h t (mem_cons_of_mem _ ht)⟩

def rR(j:Int):ByteArray:=if j=0 then ⟨#[105,100]⟩ else if j=1 then ⟨#[110]⟩ else if j=2 then ⟨#[115]⟩ else ⟨#[98]⟩
def tO(n:Int)(s:ByteArray):Vl:={o8 ⟨n,dX n 40-20,s⟩ with s:=nA (o8 ⟨n,dX n 40-20,s⟩).s 4}
def rQ(n:Int)(s:ByteArray):aX:=⟨1,tO n s,⟨#[]⟩⟩
def wz(n:Int):aX:=⟨2,bQ,rR (dX n 4)⟩
def qH(k:Int):aX:=⟨k,bQ,⟨#[]⟩⟩
def mo(k n:Int)(s:ByteArray):List aX:=if 1+dX k 11=2 then [wz n] else [rQ n s]
def hU:Nat→Tw→List aX
 | 0,.mk k n s _=>mo k n s
 | r+1,.mk k n s ts =>
  if 1+dX k 11=1 then [rQ n s]
  else if 1+dX k 11=2 then [wz n]
  else if 1+dX k 11=5∨1+dX k 11=11 then (match ts[0]? with|some t=>hU r t|none=>mo n 0 s)++[qH (1+dX k 11)]
  else ((match ts[0]? with|some t=>hU r t|none=>mo n 0 s)++(match ts[1]? with|some t=>hU r t|none=>mo n 1 s))++[qH (1+dX k 11)]
def gw(r:Nat)(ts:List Tw)(n:Int)(s:ByteArray)(i:Nat):List aX:=match ts[i]? with|some t=>hU r t|none=>mo n i s
theorem yo(k n:Int)(s:ByteArray):(mo k n s).length=1:=by unfold mo;split<;>rfl
theorem IW:∀(r:Nat) (t:Tw),1≤(hU r t).length∧(hU r t).length+1≤2 ^ (r+1)
 | 0,.mk k n s ts=>by rw[hU,yo];exact⟨by decide,by decide⟩
 | r+1,.mk k n s ts=>by
  have E:∀i:Nat,1≤(gw r ts n s i).length∧(gw r ts n s i).length+1≤2 ^ (r+1):=fun i=>by
   unfold gw;split
   ·exact IW r _
   rw[yo];exact⟨by decide,by rw[Nat.pow_succ];have:=Nat.one_le_two_pow (n:=r);omega⟩
  have h0:=E 0;have h1:=E 1;unfold gw at h0 h1;have hp:2 ^ (r+1+1)=2 ^ (r+1)+2 ^ (r+1):=(by rw[Nat.pow_succ];omega)
  rw[hU];simp only[Int.natCast_zero,Int.natCast_one] at h0 h1;split
  ·exact⟨by simp,by simp;omega⟩
  split
  ·exact⟨by simp,by simp;omega⟩
  split<;>simp only[length_append,length_cons,length_nil]<;>omega
theorem RN(r:Nat)(ts:List Tw)(n:Int)(s:ByteArray)(i:Nat):1≤(gw r ts n s i).length∧(gw r ts n s i).length+1≤2 ^ (r+1):=by
 unfold gw;split
 ·exact IW r _
 rw[yo];exact⟨by decide,by rw[Nat.pow_succ];have:=Nat.one_le_two_pow (n:=r);omega⟩
theorem Oa(r:Vl):(o8 r).s.size≤10:=by
 unfold o8 bQ;split
 ·exact Nat.zero_le _
 split
 ·exact Nat.zero_le _
 split
 ·show(nA r.s 10).size≤10;rw[Hz];omega
 decide
theorem RO{j:Nat}(h:j<4):[D.v (.string ⟨#[105,100]⟩),D.v (.string ⟨#[110]⟩),D.v (.string ⟨#[115]⟩),D.v (.string ⟨#[98]⟩)][j*1]?=some (.v (.string (rR (j:Int)))):=by
 match j,h with
 | 0,_|1,_|2,_|3,_=>rfl
variable {G:List (Nat×List Value)}
abbrev wZ(ls:List aX)(r:D)(S:List ag):Prop:=gh cO 61 5 ls r S

theorem RP(k n d:Int)(s:ByteArray)(d4:D)(h4:kz d4=true)(dI:-9223372036854775808≤k)(fq:k≤9223372036854775807)(gi:-9223372036854775808≤n)(iK:n≤9223372036854775807)(hs:s.size≤maxLen)(hd:2<d):VC Tryz.prog G 67 [.agg [.v (.int .i64 k),.v (.int .i64 n),.v (.string s),d4],.v (.int .i64 d)] [] (wZ (mo k n s)):=by
 refine VC.body func67 rfl ntmps67 aO fun X0 w0 aZ=>?_;have hpk:=jW k (by decide:(1:Int)≤11);have hpn:=jW n (by decide:(1:Int)≤40);have U:=jW n (by decide:(1:Int)≤4);obtain⟨j,hj⟩:=Int.eq_ofNat_of_zero_le U.1;have Z:j<4:=(by omega)
 have I:=kS G n 4 gi iK w7;rw[hj] at I;have fM:(⟨n,dX n 40-20,s⟩:Vl).Ok:=⟨gi,iK,by show _≤dX n 40-20;omega,by show dX n 40-20≤_;omega,hs⟩
 have Wy:=Oa ⟨n,dX n 40-20,s⟩;have hml:100≤maxLen:=(by decide)
 obtain⟨kk,kZ⟩:∃kk:Int,1+dX k 11=kk:=⟨_,rfl⟩
 refine bX ?_;refine OD.box (ds:=[_,_,_,_]) an rfl rfl ot rfl rfl (fun b2=>?_);refine OD.box (ds:=[_]) an rfl rfl ot rfl rfl (fun b3=>?_);refine aj 69 [2,3] ?_;refine cN [2,3,5] ?_;refine cU (kS G k 11 dI fq w7) ?_;refine aQ 0 ?_ (h:=by exact(cZ (r:=.int .i64 kk) rfl bJ ot (j3 (by rw[kZ];exact wrap_i64 w4 w4))));refine bH ?_;refine aC 3 ?_;refine bS 14 (fun E O=>?_) (fun E O=>?_)
 ·refine bf [2,3,5,17] ?_;refine aq (fun az aH=>?_) (fun az aH=>?_)
  ·refine cj [2,3,5] ?_;refine cN [2,5,6] ?_;refine aQ 0 ?_ (h:=by exact(oW (ds:=[_,_]) rfl ⟨ot,ot,trivial⟩));refine bH ?_;refine ae [2,5,6,19] ?_;refine ae [2,5,6,19,20] ?_;refine eC ?_;exact UD
  refine cN [2,5,6] ?_;refine aQ 0 ?_ (h:=by exact(oW (ds:=[_,_]) rfl ⟨ot,ot,trivial⟩));refine bH ?_;refine ae [2,5,6,19] ?_;refine ae [2,5,6,19,20] ?_;refine aq (fun aG aV=>?_) (fun aG aV=>?_)
  ·exact UD
  refine ae [2,5,6,19,40] ?_;refine aq (fun aY bz=>?_) (fun aY bz=>?_)
  ·refine aC 1 ?_;refine ee (bZ 0 [_,_,_,_]) [.string ⟨#[]⟩,.string ⟨#[]⟩,.string ⟨#[]⟩,.string ⟨#[]⟩] [_,_,_,_] zeroValue9 runUnderlying39 sizeOf9 (fun Xf=>?_);refine fG 0 43 1 4 ?_;refine aD 2 ?_;refine dR call11 (I) ?_;refine aD 1 ?_;refine bN (cJ (mk:=Op.load 9) rfl ot (BH isAgg9 (RO Z))) ?_;refine aD 1 ?_;refine ee (bZ 0 [_]) [.int .i64 0,.int .i64 0,.int .i64 0,.string ⟨#[]⟩,.string ⟨#[]⟩] [_,_,_,_,_] zeroValue61 runUnderlying40 sizeOf61 (fun Aj=>?_);exact z28
  exact absurd aY (by simp at az aG aY;omega)
 exact absurd E (by simp at E;omega)

end Go.Proofs.YtbcmjoaggammcaaGreatDoor.Nm

namespace Go.Proofs.YtbcmjoaggammcaaGreatDoor.Nm
open List
open Go.Proofs.Tryz
open Go.RowKit V Pk Vl
variable {G:List (Nat×List Value)}
variable {ts:List Tw} {h:Int}
theorem Qc{r:Nat}{n:Int}{s:ByteArray}{i:Nat}(hi:i<ts.length):hU r ts[i]=gw r ts n s i:=by unfold gw;rw[getElem?_eq_getElem hi]
theorem Qd{r:Nat}{n:Int}{s:ByteArray}{i:Nat}(hi:ts.length≤i):mo n i s=gw r ts n s i:=by unfold gw;rw[getElem?_eq_none hi]
theorem vR(r:Nat)(k n:Int)(s:ByteArray)(ts:List Tw):hU (r+1) (.mk k n s ts)=if 1+dX k 11=1 then [rQ n s] else if 1+dX k 11=2 then [wz n]
  else if 1+dX k 11=5∨1+dX k 11=11 then gw r ts n s 0++[qH (1+dX k 11)] else (gw r ts n s 0++gw r ts n s 1)++[qH (1+dX k 11)]:=rfl
theorem JU(r:Nat)(k n d:Int)(s:ByteArray)(ts:List Tw)(i b2 b3:Nat)(IH:∀t∈ts,VC Tryz.prog G 67 [.agg t.cs,.v (.int .i64 (d+1))] [] (wZ (hU r t)))(gi:-9223372036854775808≤n)(iK:n≤9223372036854775807)(hs:s.size≤maxLen)(hd1:0≤d)(hd:d≤2)(hi:i≤1):VC Tryz.prog G 104 [.v (.int .i64 (i:Int)),.v (.pointer (some ⟨b2,0,none⟩)),.v (.pointer (some ⟨b3,0,none⟩))] [⟨b3,3,1,[.v (.int .i64 d)]⟩,⟨b2,76,4,[.v (.int .i64 k),.v (.int .i64 n),.v (.string s),.list 4 (ts.flatMap Tw.cs) ts.length]⟩] (fun x S=>∃S1,wZ (gw r ts n s i) x S1∧S=S1++[⟨b3,3,1,[.v (.int .i64 d)]⟩,⟨b2,76,4,[.v (.int .i64 k),.v (.int .i64 n),.v (.string s),.list 4 (ts.flatMap Tw.cs) ts.length]⟩]):=by
 refine VC.body func104 rfl ntmps104 aO fun X0 w0 aZ=>?_;refine aC 1 ?_;refine OD.wk (Wk.dN (n:=25) (l':=[(0,_),(1,_),(2,_)]) (S':=_) rfl rfl fg) ?_;refine OD.nil ?_;refine aC 5 ?_;refine OD.wk (Wk.dN (n:=25) (l':=[(0,_),(1,_),(2,_),(9,_)]) (S':=_) rfl rfl fg) ?_;refine OD.nil ?_;refine aq (fun az aH=>?_) (fun az aH=>?_)
 ·have aa:i<ts.length:=(by omega)
  refine CD.seq ?_;refine CD.draw (ap _) ay (fun _ h=>h) ?_;refine ax 0 rfl (c8 3) ?_;refine ax 1 rfl (dB 1) ?_;refine ax 2 rfl bj ?_;refine ax 3 rfl (c9 4) ?_;refine ax 4 rfl (cJ (mk:=Op.load 76) rfl ot (by first|exact pX (k:=0) (ds:=[_,_,_,_]) rfl rfl isAgg76 sizeOf76 rfl rfl|exact pX (k:=1) (ds:=[_,_,_,_]) rfl rfl isAgg76 sizeOf76 rfl rfl|exact jN Tw.EX isAgg76 sizeOf76 w5|exact dJ (k:=0) Tw.EX rfl rfl rfl isAgg76 sizeOf76 w5|exact dJ (k:=1) Tw.EX rfl rfl rfl isAgg76 sizeOf76 w5|exact qb (ds:=[_,_,_,_]) isAgg76 sizeOf76 rfl rfl)) ?_;refine ax 5 rfl (dB 0) ?_;refine ax 6 rfl mH ?_;refine dm.later rfl ?_;refine AD.one (i:=7) ay ?_;refine bg.call rfl an rfl rfl rfl call67 (IH _ (getElem_mem aa)) ⟨ot,ot,trivial⟩ (eN _) (fun _ h=>h) ?_;rintro _ O ⟨U,Z,rfl,E⟩;refine cr 8 rfl bj ?_;refine AD.wk (y:=⟨25,[(4,_)],((O++[_,_]))⟩) (Wk.dN rfl rfl fg) rfl ?_;refine AD.done ay ?_;refine aJ _ ?_;first|exact⟨_,gh.cast (gh.mk E) (Qc aa),rfl⟩|exact⟨_,gh.cast (gh.mk I) (Qd w4),rfl⟩
 refine aC 6 ?_;refine OD.call an rfl rfl rfl call67 (RP n (i:Int) 9 s (.v (.slice none 0 0)) rfl gi iK w4 w4 hs w7) ⟨ot,bJ,trivial⟩ (eN _) ?_;rintro _ S24 ⟨aov,aow,rfl,I⟩;refine aD 1 ?_;refine OD.wk (Wk.dN (n:=25) (l':=[(4,_)]) (S':=_) rfl rfl fg) ?_;refine OD.nil ?_;refine aJ _ ?_;first|exact⟨_,gh.cast (gh.mk E) (Qc aa),rfl⟩|exact⟨_,gh.cast (gh.mk I) (Qd w4),rfl⟩
theorem He:(Tryz.prog.info? 61).map (fun i=>(i.zero,i.size,i.bytes))=some (some (.agg #[.int .i64 0,.int .i64 0,.int .i64 0,.string ⟨#[]⟩,.string ⟨#[]⟩]),5,56):=by kernel_rfl
theorem ade(r:Nat)(hr:r≤2)(k n d:Int)(s:ByteArray)(ts:List Tw)(IH:∀t∈ts,VC Tryz.prog G 67 [.agg t.cs,.v (.int .i64 (d+1))] [] (wZ (hU r t)))(dI:-9223372036854775808≤k)(fq:k≤9223372036854775807)(gi:-9223372036854775808≤n)(iK:n≤9223372036854775807)(hs:s.size≤maxLen)(hd1:0≤d)(hd:d≤2):VC Tryz.prog G 67 [.agg [.v (.int .i64 k),.v (.int .i64 n),.v (.string s),.list 4 (ts.flatMap Tw.cs) ts.length],.v (.int .i64 d)] [] (wZ (hU (r+1) (.mk k n s ts))):=by
 refine VC.body func67 rfl ntmps67 aO fun X0 w0 aZ=>?_;have hpk:=jW k (by decide:(1:Int)≤11);have hpn:=jW n (by decide:(1:Int)≤40);have hpc:=jW n (by decide:(1:Int)≤4);obtain⟨j,hj⟩:=Int.eq_ofNat_of_zero_le hpc.1;have hj4:j<4:=(by omega)
 have I:=kS G n 4 gi iK w7;rw[hj] at I;have fM:(⟨n,dX n 40-20,s⟩:Vl).Ok:=⟨gi,iK,by show _≤dX n 40-20;omega,by show dX n 40-20≤_;omega,hs⟩
 have Wy:=Oa ⟨n,dX n 40-20,s⟩;have hml:100≤maxLen:=(by decide)
 obtain⟨kk,kZ⟩:∃kk:Int,1+dX k 11=kk:=⟨_,rfl⟩
 have mF:=RN r ts n s 0;have jP:=RN r ts n s 1;have h2p:2 ^ (r+1)≤8:=Nat.pow_le_pow_right w7 (show r+1≤3 by omega);refine bX ?_;refine OD.box (ds:=[_,_,_,_]) an rfl rfl ot rfl rfl (fun b2=>?_);refine OD.box (ds:=[_]) an rfl rfl ot rfl rfl (fun b3=>?_);refine aj 69 [2,3] ?_;refine cN [2,3,5] ?_;refine cU (kS G k 11 dI fq w7) ?_;refine aQ 0 ?_ (h:=by exact(cZ (r:=.int .i64 kk) rfl bJ ot (j3 (by rw[kZ];exact wrap_i64 w4 w4))));refine bH ?_;refine aC 3 ?_;refine bS 14 (fun E Z=>?_) (fun E Z=>?_)
 ·exact absurd E (by simp at E;omega)
 refine bf [2,3,5,17] ?_;refine fL ?_;refine cN [2,5,6] ?_;refine aQ 0 ?_ (h:=by exact(oW (ds:=[_,_]) rfl ⟨ot,ot,trivial⟩));refine bH ?_;refine ae [2,5,6,19] ?_;refine ae [2,5,6,19,20] ?_;refine aq (fun aG aV=>?_) (fun aG aV=>?_)
 ·refine CD.seq ?_;refine uf 11 10 [5,7,31] ?_;refine cU (kS G n 40 gi iK w7) ?_;refine cU (PC ⟨n,dX n 40-20,s⟩ fM) ?_;refine rj ?_;refine jR ?_;refine⟨rfl,fun b7=>?_⟩;refine aN 0 [_,_,_] sizeOf30 ?_;refine aj 69 [5,7] ?_;refine aC 2 ?_;refine dR call22 (ET (o8 ⟨n,dX n 40-20,s⟩).s 4 w4) ?_;refine aD 1 ?_;refine aN 0 [_,_,_] sizeOf9 ?_;refine aj 69 [5,7] ?_;refine aC 3 ?_;refine ee (bZ 0 [_]) [.int .i64 0,.int .i64 0,.int .i64 0,.string ⟨#[]⟩,.string ⟨#[]⟩] [_,_,_,_,_] zeroValue61 runUnderlying40 sizeOf61 (fun Cm=>?_);exact z53
 refine ae [2,5,6,19,40] ?_;refine aq (fun aY bz=>?_) (fun aY bz=>?_)
 ·refine aC 1 ?_;refine ee (bZ 0 [_,_,_,_]) [.string ⟨#[]⟩,.string ⟨#[]⟩,.string ⟨#[]⟩,.string ⟨#[]⟩] [_,_,_,_] zeroValue9 runUnderlying39 sizeOf9 (fun Xf=>?_);refine fG 0 43 1 4 ?_;refine aD 2 ?_;refine dR call11 (I) ?_;refine aD 1 ?_;refine bN (cJ (mk:=Op.load 9) rfl ot (BH isAgg9 (RO hj4))) ?_;refine aD 1 ?_;refine ee (bZ 0 [_]) [.int .i64 0,.int .i64 0,.int .i64 0,.string ⟨#[]⟩,.string ⟨#[]⟩] [_,_,_,_,_] zeroValue61 runUnderlying40 sizeOf61 (fun Aj=>?_);exact z53
 refine ae [5,6,19,51] ?_;refine aq (fun bC bY=>?_) (fun bC bY=>?_)
 ·refine eC ?_;exact VQ
 refine cj [5,6,51] ?_;refine aq (fun cy de=>?_) (fun cy de=>?_)
 ·exact VQ
 refine aC 1 ?_;refine OD.j4 (f:=104) (args:=[_]) (all:=[_,_,_]) (Sf:=[_,_]) (R:=[]) an rfl rfl ot call104 (JU r k n d s ts 0 b2 b3 IH gi iK hs hd1 hd w7) rfl ⟨bJ,trivial⟩ (Perm.refl _) ?_;rintro _ _ ⟨Xg,⟨aox,aoy,rfl,air⟩,rfl⟩;refine OD.perm (Pz (A:=[_,_])) ?_;refine aD 1 ?_;refine OD.j4 (f:=104) (args:=[_]) (all:=[_,_,_]) (Sf:=[_,_]) (R:=Xg) an rfl rfl ot call104 (JU r k n d s ts 1 b2 b3 IH gi iK hs hd1 hd w7) rfl ⟨bJ,trivial⟩ (Perm.refl _) ?_;rintro _ _ ⟨CM,⟨UY,wX,rfl,BN⟩,rfl⟩;refine OD.perm (aa8 (A:=[_,_])) ?_;refine OD.gP (t:=63) (Sq:=CM) lk BN (cq mO _) (yl (A:=[_,_])) ?_;refine OD.dZ (ls:=(gw r ts n s 0)) (new:=(gw r ts n s 1)) (Sq:=Xg) mO Jq an rfl rfl underlying40 He rfl w7 ot air (dx (A:=[_,_])) ot w4 zF zF (fun CT O ais ait=>?_);refine OD.perm (dV (S1:=[⟨CT,61,O*5,flatMap cO ((gw r ts n s 0)++(gw r ts n s 1))⟩]) (A:=[_,_])) ?_;refine aD 2 ?_;refine ee (bZ 0 [_]) [.int .i64 0,.int .i64 0,.int .i64 0,.string ⟨#[]⟩,.string ⟨#[]⟩] [_,_,_,_,_] zeroValue61 runUnderlying40 sizeOf61 (fun qo=>?_);refine fG 0 67 5 1 ?_
 refine OD.dZ (ls:=((gw r ts n s 0)++(gw r ts n s 1))) (new:=[(⟨kk,bQ,⟨#[]⟩⟩:aX)]) (Sq:=[⟨CT,61,O*5,flatMap cO ((gw r ts n s 0)++(gw r ts n s 1))⟩]) mO Jq an rfl rfl underlying40 He rfl w7 ot (bI ais ait) (dx (A:=[_,_])) ot bq zF zF (fun Xh U aiu aiv=>?_);refine OD.perm (dV (S1:=[⟨Xh,61,U*5,flatMap cO (((gw r ts n s 0)++(gw r ts n s 1))++[(⟨kk,bQ,⟨#[]⟩⟩:aX)])⟩]) (A:=[_,_])) ?_;refine aj 69 [4] ?_;refine aJ [⟨Xh,61,U*5,flatMap cO (((gw r ts n s 0)++(gw r ts n s 1))++[(⟨kk,bQ,⟨#[]⟩⟩:aX)])⟩] ?_;exact gh.cast (gh.mk (bI aiu aiv)) (by rw[vR,kZ,if_neg w4,if_neg w4,if_neg w4];rfl)
theorem Tu:∀(r:Nat),r≤3→∀(t:Tw),t.Ok→VC Tryz.prog G 67 [.agg t.cs,.v (.int .i64 (3-(r:Int)))] [] (wZ (hU r t))
 | 0,_,.mk k n s ts,h=>RP k n 3 s (.list 4 (Tw.mg ts) ts.length) rfl h.1.1 h.1.2 h.2.1.1 h.2.1.2 h.2.2.1 w7
 | r+1,hr,.mk k n s ts,h=>by
  have:=ade (G:=G) r w4 k n (3-((r+1:Nat):Int)) s ts (fun t ht=>by
   have h1:=Tu r w4 t (Tw.RL h.2.2.2.2 t ht);rw[show(3-((r+1:Nat):Int)+1)=3-(r:Int) by omega];exact h1) h.1.1 h.1.2 h.2.1.1 h.2.1.2 h.2.2.1 w4 w4
  rw[←Tw.JC] at this;exact this
theorem aeT(t:Tw)(h:t.Ok):VC Tryz.prog G 43 [.agg t.cs] [] (wZ (hU 3 t)):=by
 refine VC.body func43 rfl ntmps43 aO fun X0 w0 aZ=>?_;obtain⟨k,n,s,ts⟩:=t;have E:=Tu (G:=G) 3 (Nat.le_refl _) (.mk k n s ts) h;unfold Tw.cs at E ⊢;refine bX ?_;refine OD.box (ds:=[_,_,_,_]) an rfl rfl ot rfl rfl (fun b1=>?_);refine aj 5 [1] ?_;refine aC 1 ?_;refine OD.call an rfl rfl rfl call67 (E) ⟨ot,bJ,trivial⟩ (eN _) ?_;rintro _ O ⟨U,Z,rfl,I⟩;refine OD.perm dV ?_;refine aj 5 [2] ?_;refine aJ O ?_;exact gh.mk I
theorem Tv(t:Tw)(h:t.Ok):VP Tryz.prog G 43 [.agg t.cs] (.list 5 ((hU 3 t).flatMap cO) (hU 3 t).length):=(aeT t h).given mO

def runs:Int→List aX→Option Int
 | h,[]=>some h
 | h,o::r=>if e9 h o=0 then runs (h+(1-bP o.k)) r else none
theorem yc:∀(a b:List aX) (h:Int),runs h (a++b)=(runs h a).bind fun h'=>runs h' b
 | [],b,h=>rfl
 | o::r,b,h=>by
  rw[cons_append,runs,runs];split
  ·exact yc r b _
  rfl
theorem Ob:∀{a:List aX} {h h':Int} (b:List aX),runs h a=some h'→fD h (a++b)=fD h' b
 | [],h,h',b,e=>by cases e;rfl
 | o::r,h,h',b,e=>by
  rw[runs] at e;split at e
  ·rename_i h0;rw[cons_append,fD,if_pos h0];exact Ob b e
  cases e
theorem adf:((⟨#[]⟩:ByteArray).toList==(⟨#[]⟩:ByteArray).toList)=true:=by simp
theorem OL:zeroV bQ=true:=by unfold zeroV bQ;simp
theorem Qe:iH bQ=0:=by decide
theorem abt(n:Int)(s:ByteArray):iH (tO n s)=0:=by
 have h1:=jW n (by decide:(1:Int)≤40);have h2:=jW (dX n 40-20) (by decide:(1:Int)≤2);have hc:(nA (nA s 10) 4).size≤4:=(by rw[Hz];omega)
 have he:nA (⟨#[]⟩:ByteArray) 4=ByteArray.empty:=Ez (by rw[OB];rfl);unfold iH tO o8;split
 ·simp[cA,he];omega
 split
 ·simp[cA,he];omega
 split
 ·simp[cA];omega
 unfold bQ;simp[cA,he]
theorem RQ(h0:0≤h)(n:Int)(s:ByteArray):e9 h (rQ n s)=0:=by
 unfold e9 rQ;rw[abt];simp[bP];omega
theorem abu(j:Int):cM (rR j)=0:=by
 unfold rR;split
 ·exact sS (l:=[105,100]) w7 w7 w7
 split
 ·exact sS (l:=[110]) w7 w7 w7
 split
 ·exact sS (l:=[115]) w7 w7 w7
 exact sS (l:=[98]) w7 w7 w7
theorem RR(h0:0≤h)(n:Int):e9 h (wz n)=0:=by
 unfold e9 wz;rw[Qe,OL,abu];simp[bP];omega
theorem Qf{k:Int}(h1:3≤k)(h2:k≤11)(E:bP k≤h):e9 h (qH k)=0:=by
 unfold e9 qH;simp only[Qe,OL,adf];rw[if_neg w4,if_neg bq,if_neg bq,if_neg w4,if_neg w4]
theorem OM(h0:0≤h)(k n:Int)(s:ByteArray):runs h (mo k n s)=some (h+1):=by
 unfold mo;split
 ·rw[runs,if_pos (RR h0 n),runs];rfl
 rw[runs,if_pos (RQ h0 n s),runs];rfl
theorem Qg:∀(r:Nat) (t:Tw) (h:Int),0≤h→runs h (hU r t)=some (h+1)
 | 0,.mk k n s ts,h,h0=>OM h0 k n s
 | r+1,.mk k n s ts,h,h0=>by
  have E:∀(i:Nat) (h:Int),0≤h→runs h (gw r ts n s i)=some (h+1):=fun i h h0=>by
   unfold gw;split
   ·exact Qg r _ h h0
   exact OM h0 _ _ _
  have hk:=jW k (by decide:(1:Int)≤11);rw[vR];split
  ·rw[runs,if_pos (RQ h0 n s),runs];rfl
  split
  ·rw[runs,if_pos (RR h0 n),runs];rfl
  split
  ·rename_i h3;rw[yc,E 0 h h0,Option.bind_some,runs,if_pos (Qf w4 w4 (by unfold bP;rw[if_neg w4,if_pos h3];omega)),runs];unfold qH bP;rw[if_neg (by simp only[];omega),if_pos h3];simp
  rename_i h3;rw[yc,yc,E 0 h h0,Option.bind_some,E 1 (h+1) w4,Option.bind_some,runs,if_pos (Qf w4 w4 (by unfold bP;rw[if_neg w4,if_neg h3];omega)),runs];unfold qH bP;rw[if_neg (by simp only[];omega),if_neg h3];congr 1;omega
theorem ON(t:Tw):1≤(hU 3 t).length∧(hU 3 t).length≤15:=by
 have:=IW 3 t;omega
theorem OO(t:Tw):iG (hU 3 t)=0:=by
 unfold iG;rw[if_neg (by have:=ON t;omega)];have:=Ob [] (Qg 3 t 0 (Int.le_refl _));rw[append_nil] at this;rw[this];rfl
theorem abv(t:Tw):∀o∈hU 3 t,o.nm.size≤2:=by
 have hn:∀j:Int,(rR j).size≤2:=fun j=>by
  unfold rR;split
  ·decide
  split
  ·decide
  split<;>decide
 have E:∀k n s,∀o∈mo k n s,o.nm.size≤2:=fun k n s o ho=>by
  unfold mo at ho;split at ho<;>(simp only[mem_singleton] at ho;subst ho)
  ·exact hn _
  exact Nat.zero_le _
 have key:∀(r:Nat) (t:Tw),∀o∈hU r t,o.nm.size≤2:=by
  intro r;induction r with
  | zero=>intro t;obtain⟨k,n,s,ts⟩:=t;exact E k n s
  | succ r ih =>
   intro t o ho;obtain⟨k,n,s,ts⟩:=t;have I:∀i:Nat,∀o∈gw r ts n s i,o.nm.size≤2:=fun i o ho=>by
    unfold gw at ho;split at ho
    ·exact ih _ o ho
    exact E _ _ _ o ho
   have hb:∀k,(qH k).nm.size≤2:=fun k=>Nat.zero_le _;rw[vR] at ho;split at ho
   ·simp only[mem_singleton] at ho;subst ho;exact Nat.zero_le _
   split at ho
   ·simp only[mem_singleton] at ho;subst ho;exact hn _
   split at ho
   ·rcases mem_append.1 ho with ho|ho
    ·exact I 0 o ho
    simp only[mem_singleton] at ho;subst ho;exact hb _
   rcases mem_append.1 ho with ho|ho
   ·rcases mem_append.1 ho with ho|ho
    ·exact I 0 o ho
    exact I 1 o ho
   simp only[mem_singleton] at ho;subst ho;exact hb _
 exact key 3 t
theorem abw{l:List aX}(h:∀o∈l,o.nm.size≤2):∀o∈l,o.nm.size≤maxLen:=fun o ho=>Nat.le_trans (h o ho) w7
theorem Qh{H:Type}{enc:TypeId×Value→H}{w:World}{base:Nat}{sp:Nat→Bool}{held:Bool}:∀n,l5 n enc Tryz.prog w base sp held 76 Tw.cs Tw.Ok:=by
 intro n;induction n using Nat.strongRecOn with
 | _ n ih =>
  intro cs x h;obtain⟨⟨k,m,s,ts⟩,h1,h2,h3,h4,h5⟩:=YO (fuel:=n) (n0:=1) (n1:=1) (n2:=1) (n3:=1) underlying76 ay rfl rfl rfl rfl ay ay ay ay
   (fun q _=>(uO underlying3).at q) (fun q _=>(uO underlying3).at q) (fun q _=>(Ov underlying9).at q) (fun q hq=>Oz (sz:=4) underlying74 ay w7 (fun z hz=>ih z w4) Tw.EX) cs x h
  refine⟨.mk k m s ts,?_,h2,h3,h4,h5.2,Tw.RM h5.1⟩;unfold Tw.cs;rw[Tw.JC];exact h1

end Go.Proofs.YtbcmjoaggammcaaGreatDoor.Nm
namespace Go.Proofs.YtbcmjoaggammcaaGreatDoor.Ex
open List
open Go.Proofs.Tryz
open Go.RowKit V Pk Vl Go.Proofs.YtbcmjoaggammcaaGreatDoor.Nm Pc
variable {α:Type} {l:List aX} {i:Nat} {h:Int}
theorem vZ(p:α→Bool)(ls:List α):-1≤dM p ls∧dM p ls<ls.length:=by
 unfold dM;cases h:ls.findIdx? p with
 | none=>simp;omega
 | some i=>have:=(findIdx?_eq_some_iff_findIdx_eq.1 h).1;simp;omega
def bM(l:List cu)(nm:ByteArray):Int:=dM (fun c=>c.n.toList==nm.toList) l
def ru(a b:Int):Bool:=a==b||a==0
def okF(k a b:Int):Bool :=
 if k=3∨k=4 then ru a 1&&ru b 1 else if k=5 then ru a 1 else if k=6∨k=7 then ru a b||b==0 else if k=8∨k=9∨k=10 then ru a 2&&ru b 2 else true
def wM(k:Int):Int:=if k=8∨k=9∨k=10 then 2 else 1
def uP(l:List cu)(nm:ByteArray):Int×Int:=if bM l nm<0 then (0,8) else ((l.getD (bM l nm).toNat ⟨⟨#[]⟩,0⟩).k,0)
def iR(l:List cu)(o:aX)(a b:Int):Int×Int :=
 if o.k=1 then (o.v.k,0) else if o.k=2 then uP l o.nm else if okF o.k a b=true then (wM o.k,0) else (0,4)
def fb(z:α)(k:Int)(st:List α):α:=if 0<bP k then st.getD (st.length-(bP k).toNat) z else z
def eW(z:α)(k:Int)(st:List α):α:=if 1<bP k then st.getD (st.length-(bP k).toNat+1) z else z
def jt{α:Type}(z:α)(f:aX→α→α→α × Int):List aX→List α→α × Int
 | [],st=>(st.getD 0 z,0)
 | o::r,st =>
  if (f o (fb z o.k st) (eW z o.k st)).2≠0 then (z,(f o (fb z o.k st) (eW z o.k st)).2)
  else jt z f r (st.take (st.length-(bP o.k).toNat)++[(f o (fb z o.k st) (eW z o.k st)).1])
theorem Q8{z:α}{f:aX→α→α→α × Int}{st:List α}(hi:i<l.length)(h:(f l[i] (fb z l[i].k st) (eW z l[i].k st)).2≠0) :
  jt z f (l.drop i) st=(z,(f l[i] (fb z l[i].k st) (eW z l[i].k st)).2):=by rw[drop_eq_getElem_cons hi,jt,if_pos h]
theorem Q4{z:α}{f:aX→α→α→α × Int}{st:List α}(hi:i<l.length)(h:(f l[i] (fb z l[i].k st) (eW z l[i].k st)).2=0) :
  jt z f (l.drop i) st=jt z f (l.drop (i+1)) (st.take (st.length-(bP l[i].k).toNat)++[(f l[i] (fb z l[i].k st) (eW z l[i].k st)).1]):=by
 rw[drop_eq_getElem_cons hi,jt,if_neg (by rw[h];simp)]
theorem Qi{z:α}{f:aX→α→α→α × Int}{st:List α}(hi:¬i<l.length):jt z f (l.drop i) st=(st.getD 0 z,0):=by
 rw[drop_of_length_le w4];rfl
theorem OP(hi:i<l.length)(h0:fD h (l.drop i)=0):e9 h l[i]=0∧fD (h+(1-bP l[i].k)) (l.drop (i+1))=0:=by
 rw[drop_eq_getElem_cons hi,fD] at h0;by_cases he:e9 h l[i]=0
 ·rw[if_pos he] at h0;exact⟨he,h0⟩
 rw[if_neg he] at h0;exact absurd h0 he
theorem Qj(hi:¬i<l.length)(h0:fD h (l.drop i)=0):h=1:=by
 rw[drop_of_length_le w4,fD] at h0;split at h0
 ·assumption
 cases h0
theorem vW{o:aX}(he:e9 h o=0):bP o.k≤h∧(1≤o.k∧o.k≤11)∧iH o.v=0∧(o.k=2→cM o.nm=0):=by
 unfold e9 at he;split at he
 ·cases he
 split at he
 ·rename_i h2;exact absurd he h2
 split at he
 ·cases he
 split at he
 ·rename_i h4;exact absurd he h4.2
 split at he
 ·cases he
 rename_i q1 q2 I E O;refine⟨by omega,by omega,by simpa using q2,fun hk=>?_⟩;by_cases hn:cM o.nm=0
 ·exact hn
 exact absurd ⟨hk,hn⟩ E
def tI(l:List cu)(ops:List aX):Int×Int:=jt 0 (iR l) ops []
def ec(l:List cu)(ops:List aX):Int×Int:=if fB l≠0 then (0,fB l) else if iG ops≠0 then (0,iG ops) else tI l ops
def pB(r:Int×Int):D:=.dz [.v (.int .i64 r.1),.v (.int .i64 r.2)]
def cI(n:Int):List D:=[.v (.int .i64 n)]
theorem ey(n:Int):(cI n).length=1:=rfl
theorem nr(n:Int):(cI n).all V.one=true:=rfl
theorem v7{ops:List aX}(h:iG ops=0):ops.length≤40∧fD 0 ops=0:=by
 unfold iG at h;split at h
 ·cases h
 exact⟨by omega,h⟩
variable {G:List (Nat×List Value)}
theorem Ej(k:Int):VP Tryz.prog G 157 [.v (.int .i64 k)] (.v (.int .i64 (bP k))):=by
 refine VC.body func157 rfl ntmps157 aO fun X0 w0 aZ=>?_;exact VV
theorem ZS(c:cu)(nm:ByteArray)(b:Nat):VC Tryz.prog G 181 [.agg (cC c),.v (.pointer (some ⟨b,0,none⟩))] [⟨b,9,1,[.v (.string nm)]⟩] (fun r S=>r = .v (.bool (c.n.toList==nm.toList))∧S=[⟨b,9,1,[.v (.string nm)]⟩]):=by
 refine VC.body func181 rfl ntmps181 aO fun X0 w0 aZ=>?_;exact z138
theorem pY(l:List cu)(hl:l.length≤6)(nm:ByteArray):VP Tryz.prog G 160 [.list 2 (l.flatMap cC) l.length,.v (.string nm)] (.v (.int .i64 (bM l nm))):=by
 refine VC.body func160 rfl ntmps160 aO fun X0 w0 aZ=>?_;refine bX ?_;refine OD.box (ds:=[_]) an rfl rfl ot rfl rfl (fun b3=>?_);refine aj 8 [0,3] ?_;refine aC 1 ?_;refine bN (oW (ds:=[_]) rfl ⟨ot,trivial⟩) ?_;refine OD.call an rfl rfl rfl call119 (Ib l 181 [.v (.pointer (some ⟨b3,0,none⟩))] _ (fun c=>c.n.toList==nm.toList) call181 (fun h _=>ZS h nm b3) w4) ⟨ot,ot,trivial⟩ (jX (k:=0) rfl) ?_;rintro _ S2 ⟨rfl,iq⟩;rw[iq];clear iq;refine aj 8 [4] ?_;exact z51
theorem yR(a b:Int):VP Tryz.prog G 176 [.v (.int .i64 a),.v (.int .i64 b)] (.v (.bool (ru a b))):=by
 refine VC.body func176 rfl ntmps176 aO fun X0 w0 aZ=>?_;refine ae [0,1] ?_;refine aC 4 ?_;refine bS 8 (fun I E=>?_) (fun I E=>?_)
 ·refine bf [4] ?_;refine eJ ?_;refine⟨vb ?_,rfl⟩;unfold ru;simp_all
 refine bf [4] ?_;refine eJ ?_;refine⟨vb ?_,rfl⟩;unfold ru;simp_all
theorem adg(l:List cu)(hl:l.length≤6)(o:aX)(a b:Int):VP Tryz.prog G 154 [.agg (cO o),.list 2 (l.flatMap cC) l.length,.v (.int .i64 a),.v (.int .i64 b)] (pB (iR l o a b)):=by
 refine VC.body func154 rfl ntmps154 aO fun X0 w0 aZ=>?_;unfold cO pB;have U:=vZ (fun c:cu=>c.n.toList==o.nm.toList) l;have E:bM l o.nm=dM (fun c:cu=>c.n.toList==o.nm.toList) l:=rfl;rw[←E] at U;clear E;refine bX ?_;refine OD.box (ds:=[_,_,_,_,_]) an rfl rfl ot rfl rfl (fun b4=>?_);refine aj 76 [1,2,3,4] ?_;refine ae [1,2,3,4,10] ?_;refine ae [1,2,3,4,10,11,12] ?_;refine ae [1,2,3,4,10,11,12,15] ?_;refine ae [1,2,3,4,10,11,12,15,16] ?_;refine aq (fun az aH=>?_) (fun az aH=>?_)
 ·exact z22
 refine ae [1,2,3,4,10,11,12,15,21] ?_;refine aq (fun aG aV=>?_) (fun aG aV=>?_)
 ·refine cL [1,13] (pY l hl o.nm) ?_;refine ae [1,13,28] ?_;refine aq (fun aY bz=>?_) (fun aY bz=>?_)
  ·have dr:uP l o.nm=(0,8):=(by unfold uP;rw[if_pos w4])
   exact z22
  have Z:(bM l o.nm).toNat<l.length:=(by omega)
  have dr:uP l o.nm=(l[(bM l o.nm).toNat].k,0):=(by unfold uP;rw[if_neg w4,getD_eq_getElem?_getD,getElem?_eq_getElem Z];rfl)
  exact z22
 refine ae [2,3,10,11,12,15,34] ?_;refine aq (fun bC bY=>?_) (fun bC bY=>?_)
 ·refine eC ?_;exact z116
 refine cj [2,3,10,11,12,15,34] ?_;refine aq (fun cy de=>?_) (fun cy de=>?_)
 ·exact z116
 refine ae [2,3,10,11,12,15,45] ?_;refine aq (fun dO eo=>?_) (fun dO eo=>?_)
 ·refine dL 2 ?_;refine OD.j4 (f:=176) (args:=[_,_]) (all:=[_,_]) (Sf:=[]) an rfl rfl ot call176 (yR a 1) rfl ⟨ot,bJ,trivial⟩ (eN _) ?_;rintro _ _ ⟨rfl,rfl⟩;exact z21
 refine ae [2,3,10,11,12,15,50] ?_;refine aq (fun eS fW=>?_) (fun eS fW=>?_)
 ·refine eC ?_;exact UE
 refine cj [2,3,10,11,12,15,50] ?_;refine aq (fun eL gg=>?_) (fun eL gg=>?_)
 ·exact UE
 refine ae [2,3,10,11,12,15,61] ?_;refine aq (fun kY I=>?_) (fun kY I=>?_)
 ·refine eC ?_;exact Kw
 refine ae [2,3,10,11,12,15,61] ?_;refine aq (fun sQ O=>?_) (fun sQ O=>?_)
 ·refine eC ?_;exact Kw
 refine cj [2,3,10,11,12,61] ?_;refine aq (fun tM rO=>?_) (fun tM rO=>?_)
 ·exact Kw
 refine ae [12,74] ?_;refine fL ?_;refine ae [8,9] ?_;refine aJ [] ?_;refine⟨?_,rfl⟩;unfold iR okF wM;simp_all
theorem Oo(l:List cu)(hl:l.length≤6)(o:aX)(a b a' I:Int)(ha:a=a')(hb:b=I)(b2:Nat):VC Tryz.prog G 153 [.agg (cO o),.v (.int .i64 a'),.v (.int .i64 I),.v (.pointer (some ⟨b2,0,none⟩))] [⟨b2,38,1,[.list 2 (l.flatMap cC) l.length]⟩] (fun r S=>r=pB (iR l o a b)∧S=[⟨b2,38,1,[.list 2 (l.flatMap cC) l.length]⟩]):=by
 refine VC.body func153 rfl ntmps153 aO fun X0 w0 aZ=>?_;subst ha hb;have E:=adg (G:=G) l hl o a b;unfold cO at E ⊢;unfold pB at E ⊢;refine bX ?_;refine OD.box (ds:=[_,_,_,_,_]) an rfl rfl ot rfl rfl (fun b4=>?_);refine aj 16 [1,2,3,4] ?_;refine cL [7,8] (E) ?_;refine aJ [⟨b2,38,1,[.list 2 (l.flatMap cC) l.length]⟩] ?_;exact⟨rfl,rfl⟩
theorem Zv:(Tryz.prog.info? 3).map (fun i=>(i.zero,i.size,i.bytes))=some (some (.int .i64 0),1,8):=by kernel_rfl
theorem abx(l:List cu)(hl:l.length≤6)(ops:List aX)(pM:ops.length≤40)(hx:fD 0 ops=0)(b2:Nat):VC Tryz.prog G 152 [.list 5 (ops.flatMap cO) ops.length,.ek (.func 153) [.v (.pointer (some ⟨b2,0,none⟩))]] [⟨b2,38,1,[.list 2 (l.flatMap cC) l.length]⟩] (fun r S=>r=pB (tI l ops)∧S=[⟨b2,38,1,[.list 2 (l.flatMap cC) l.length]⟩]):=by
 refine VC.body func152 rfl ntmps152 aO fun X0 w0 aZ=>?_;unfold pB;refine ae [0,1] ?_;refine ae [0,1,6] ?_;refine bX ?_;refine bf [0,1,6,7] ?_;refine ae [1,6,7,16,17,18] ?_;refine CD.block ?_;refine mJ (fun (E:Nat×List Int×Option Addr×Nat×List ag) aK=>match E with|(i,st,I,jS,Z)=>(i≤ops.length)∧(st.length≤i)∧(fD ((st.length:Nat):Int) (ops.drop i)=0)∧(tI l ops=jt 0 (iR l) (ops.drop i) st)∧(bw 3 1 ((st).flatMap cI) (st).length I jS Z)∧aK=(⟨64,[(1,.ek (.func 153) [.v (.pointer (some ⟨b2,0,none⟩))]),(6,.v (.int .i64 0)),(7,.v (.slice I (st).length jS)),(16,.list 5 (ops.flatMap cO) ops.length),(17,.v (.int .i64 (ops.length:Nat))),(18,.v (.int .i64 (i:Nat)))],(⟨b2,38,1,[.list 2 (l.flatMap cC) l.length]⟩::Z)⟩:St)) (fun (E:Nat×List Int×Option Addr×Nat×List ag)=>match E with|(i,st,I,jS,Z)=>ops.length-i) (0,[],none,0,[]) ⟨(Nat.zero_le _),(Nat.zero_le _),hx,rfl,(bw.cast iw kJ),rfl⟩ (aM (h:=by repeat (first|exact trivial|refine⟨F2,?_⟩))) ?_;rintro⟨i,st,I,jS,Z⟩ _ ⟨hi,fy,hex,hinv,nD,rfl⟩;refine ae [1,6,7,16,17,18,19] ?_;refine aq (fun az aH=>?_) (fun az aH=>?_)
 ·have aa:i<ops.length:=(by omega)
  obtain⟨he,xT⟩:=OP aa hex;obtain⟨ri,UZ,xU,qp⟩:=vW he;have CL:=s9 ops[i].k;have sF:(st.take (st.length-(bP ops[i].k).toNat)++[(iR l ops[i] (fb 0 ops[i].k st) (eW 0 ops[i].k st)).1]).length=st.length+1-(bP ops[i].k).toNat:=(by rw[length_append,length_take,length_singleton];omega)
  have nE:fD (((st.take (st.length-(bP ops[i].k).toNat)++[(iR l ops[i] (fb 0 ops[i].k st) (eW 0 ops[i].k st)).1]).length:Nat):Int) (ops.drop (i+1))=0:=(by rw[sF,show(((st.length+1-(bP ops[i].k).toNat:Nat)):Int)=(st.length:Int)+(1-bP ops[i].k) by omega];exact xT)
  refine aC 2 ?_;refine OD.alloc (ds:=[_,_,_,_,_]) an rfl rfl zeroValue61 rfl (fun b9=>?_);refine aN 0 [_,_,_,_,_] sizeOf61 ?_;refine aj 64 [1,6,7,9,16,17,18] ?_;refine ae [1,6,7,9,10,11,16,17,18] ?_;refine cL [1,6,7,9,10,11,12,16,17,18] (Ej ops[i].k) ?_;refine ae [1,6,7,9,10,11,12,13,16,17,18] ?_;refine ae [1,6,7,9,10,11,12,13,16,17,18,30] ?_;refine aq (fun aG aV=>?_) (fun aG aV=>?_)
  ·obtain⟨bh,rfl,wJ,wu,rfl⟩:=nD.pos w4;have uu:(st.length-(bP ops[i].k).toNat)<st.length:=(by omega)
   have ha:fb 0 ops[i].k st=st[(st.length-(bP ops[i].k).toNat)]:=(by unfold fb;rw[if_pos w4,getD_eq_getElem?_getD,getElem?_eq_getElem uu];rfl)
   refine gW [1,6,7,9,10,11,12,13,16,17,18] ?_;refine aQ 2 ?_ (h:=by exact(c9 1 (h:=by first|exact .l (j:=(st.length-(bP ops[i].k).toNat)) w4 w4|exact .r (j:=(st.length-(bP ops[i].k).toNat)) w4 w4)));refine aQ 0 ?_ (h:=by exact(cJ (mk:=Op.load 3) rfl ot (iO (k:=2) ey rfl rfl rfl isAgg3 uu rfl)));refine bH ?_;refine ae [1,6,7,9,10,11,13,16,17,18,36] ?_;refine aq (fun aY bz=>?_) (fun aY bz=>?_)
   ·have O:(st.length-(bP ops[i].k).toNat)+1<st.length:=(by omega)
    have hb:eW 0 ops[i].k st=st[(st.length-(bP ops[i].k).toNat)+1]:=(by unfold eW;rw[if_pos w4,getD_eq_getElem?_getD,getElem?_eq_getElem O];rfl)
    refine gW [1,6,7,9,10,11,13,16,17,18] ?_;refine aQ 3 ?_ (h:=by exact(c9 1 (h:=by first|exact .l (j:=(st.length-(bP ops[i].k).toNat)+1) w4 w4|exact .r (j:=(st.length-(bP ops[i].k).toNat)+1) w4 w4)));refine aQ 0 ?_ (h:=by exact(cJ (mk:=Op.load 3) rfl ot (iO (k:=2) ey rfl rfl rfl isAgg3 O rfl)));refine bH ?_;exact UA
   have hb:eW 0 ops[i].k st=0:=(by unfold eW;rw[if_neg w4])
   exact UA
  have ha:fb 0 ops[i].k st=0:=(by unfold fb;rw[if_neg w4])
  refine ae [1,6,7,9,10,11,13,16,17,18,36] ?_;refine aq (fun aY bz=>?_) (fun aY bz=>?_)
  ·exact absurd aY (by simp at *;omega)
  have hb:eW 0 ops[i].k st=0:=(by unfold eW;rw[if_neg w4])
  refine aC 4 ?_;refine OD.j4 (f:=153) (args:=[_,_,_]) (all:=[_,_,_,_]) (Sf:=[⟨b2,38,1,[.list 2 (l.flatMap cC) l.length]⟩]) an rfl rfl ot call153 (Oo l hl ops[i] _ _ _ _ ha hb b2) rfl ⟨ot,ot,ot,trivial⟩ (jX (k:=1) rfl) ?_;rintro _ _ ⟨rfl,rfl⟩;refine aj 64 [1,6,7,13,14,15,16,17,18] ?_;refine ae [1,6,7,13,14,15,16,17,18,51] ?_;refine aq (fun bC bY=>?_) (fun bC bY=>?_)
  ·exact z59
  have hz:(iR l ops[i] (fb 0 ops[i].k st) (eW 0 ops[i].k st)).2=0:=(by simpa using bC)
  refine CD.skip ?_;refine CD.u7 (k:=(st.length-(bP ops[i].k).toNat)) (ls:=(st)) (Sq:=Z) ey w4 nD (dx (A:=[_,_])) (fun Bz Bf=>?_);exact z12
 have h1:=Qj w4 hex;have U:0<st.length:=(by omega)
 obtain⟨bh,rfl,wJ,wu,rfl⟩:=nD.pos w4;have aT:=hinv.trans (Qi w4);have kM:st.getD 0 0=st[0]:=(by rw[getD_eq_getElem?_getD,getElem?_eq_getElem U];rfl)
 rw[kM] at aT;refine cN [4,5] ?_;refine aQ 1 ?_ (h:=by exact(pV (mk:=Op.indexAddr 91) rfl ot bJ (by first|exact s8 (j:=0) runUnderlying91 sizeOf3 rfl (by first|omega|decide)|exact tv (j:=0) runUnderlying91 sizeOf3 rfl (by first|omega|decide))));refine aQ 0 ?_ (h:=by exact(cJ (mk:=Op.load 3) rfl ot (iO (k:=1) ey rfl rfl rfl isAgg3 U rfl)));refine bH ?_;refine aJ [⟨b2,38,1,[.list 2 (l.flatMap cC) l.length]⟩] ?_;rw[aT];exact⟨rfl,rfl⟩
theorem ZT(l:List cu)(hl:l.length≤6)(ops:List aX)(hx:iG ops=0):VP Tryz.prog G 126 [.list 2 (l.flatMap cC) l.length,.list 5 (ops.flatMap cO) ops.length] (pB (tI l ops)):=by
 refine VC.body func126 rfl ntmps126 aO fun X0 w0 aZ=>?_;obtain⟨E,gp⟩:=v7 hx;have fI:=fun b2=>abx (G:=G) l hl ops E gp b2;unfold pB at fI ⊢;refine bX ?_;refine OD.box (ds:=[_]) an rfl rfl ot rfl rfl (fun b2=>?_);refine aj 11 [1,2] ?_;refine aC 1 ?_;refine bN (oW (ds:=[_]) rfl ⟨ot,trivial⟩) ?_;refine OD.call an rfl rfl rfl call152 (fI b2) ⟨ot,ot,trivial⟩ (jX (k:=0) rfl) ?_;rintro _ _ ⟨rfl,rfl⟩;refine aj 11 [4,5] ?_;exact z51
theorem aeU(hm:(3,marksC)∈G)(hw:(2,wordsC)∈G)(ht:(0,typesC)∈G)(l:List cu)(hl:l.length≤6)(aS:∀c∈l,c.n.size≤maxLen)(ops:List aX)(ho:∀o∈ops,o.nm.size≤maxLen):VP Tryz.prog G 125 [.list 2 (l.flatMap cC) l.length,.list 5 (ops.flatMap cO) ops.length] (.v (.int .i64 (if fB l≠0 then fB l else iG ops))):=by
 refine VC.body func125 rfl ntmps125 aO fun X0 w0 aZ=>?_;have dy:maxLen=9223372036854775807:=rfl;refine ae [0,1] ?_;refine cL [1,5] (EH hm hw ht l w4 aS) ?_;refine ae [1,5,9] ?_;refine aq (fun az aH=>?_) (fun az aH=>?_)
 ·refine ae [4] ?_;refine aJ [] ?_;refine⟨vi ?_,rfl⟩;simp_all
 refine cL [4] (IQ hm hw ops ho) ?_;refine aJ [] ?_;refine⟨vi ?_,rfl⟩;simp_all
theorem IY(hm:(3,marksC)∈G)(hw:(2,wordsC)∈G)(ht:(0,typesC)∈G)(l:List cu)(hl:l.length≤6)(aS:∀c∈l,c.n.size≤maxLen)(ops:List aX)(ho:∀o∈ops,o.nm.size≤maxLen):VP Tryz.prog G 91 [.list 2 (l.flatMap cC) l.length,.list 5 (ops.flatMap cO) ops.length] (pB (ec l ops)):=by
 refine VC.body func91 rfl ntmps91 aO fun X0 w0 aZ=>?_;have eY:=aeU hm hw ht l hl aS ops ho;have E:=fun hx=>ZT (G:=G) l hl ops hx;unfold pB at E ⊢;refine ae [0,1] ?_;refine cL [0,1,6] (eY) ?_;refine ae [0,1,6,11] ?_;refine aq (fun az aH=>?_) (fun az aH=>?_)
 ·have aT:ec l ops=(0,if fB l≠0 then fB l else iG ops):=(by unfold ec;split<;>simp_all)
  refine ae [4,5] ?_;exact n8
 have h0:fB l=0∧iG ops=0:=(by split at az<;>simp_all)
 have aT:ec l ops=tI l ops:=(by unfold ec;simp[h0])
 refine cL [4,5] (E h0.2) ?_;exact ue

end Go.Proofs.YtbcmjoaggammcaaGreatDoor.Ex
