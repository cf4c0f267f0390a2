/-
  What the proof of BaseMay leans on, part 3 of 8: walks of the program's functions at the level of values, and plain facts of what they compute.
-/
import Derived.Test.YtbcmjoaggammcaaGreatDoorPBaseMay2
set_option linter.unusedVariables false
set_option linter.unusedSimpArgs false
set_option maxRecDepth 100000
set_option maxHeartbeats 4000000
namespace Go.Proofs.YtbcmjoaggammcaaGreatDoor.V
open List
open Go.RowKit
variable {P:Program} {C:dF} {G:List (Nat×List Value)} {Q:Exit→St→Prop} {x:St} {ops:Array Oper} {o:Oper} {n fuel t:Nat} {e:List (Nat×D)} {S:List ag} {S1 T:List Nat} {ld:Array Bool} {d:D} {kd:Rd}
theorem ax (i:Nat) (hi:ops[i]?=some o) (h:bV P C.G ⟨n,e,S⟩ o kd d) (K:dm P C ops S1 T fuel (ld.setIfInBounds i true) ⟨n,(t,d)::e,S⟩ Q) (hs:Region.noSelect ops=true:=by kernel_rfl) (hf:Region.free .any ops ld i=true:=by kernel_rfl) (hr:(Region.ready .any ops ld).contains i=true:=by kernel_rfl)
  (hp:NP Q:=by repeat (first|exact NP.norm|exact NP.body|exact NP.yY|exact NP.Fc|apply NP.tl|apply NP.Fe|apply NP.then|apply NP.cut|apply NP.inBlock|apply NP.round)) (hw:cc ops ⟨n,e,S⟩ o true:=by first|exact rG rfl|exact th rfl rfl rfl lk ji) (hd:o.dst=some t:=by exact rfl)
  (hk:Safe ⟨n,e,S⟩ T kd:=by first|exact trivial|exact pU (k0:=0) rfl rfl|exact pU (k0:=1) rfl rfl|exact pU (k0:=2) rfl rfl|exact pU (k0:=3) rfl rfl|exact pU (k0:=4) rfl rfl|exact pU (k0:=5) rfl rfl):dm P C ops S1 T (fuel+1) ld ⟨n,e,S⟩ Q :=
 dm.take hi hs hf hr hp hw hd h hk K
theorem cr (i:Nat) (hi:ops[i]?=some o) (h:bV P C.G ⟨n,e,S⟩ o kd d) (K:AD P C ops S1 T fuel (ld.setIfInBounds i true) ⟨n,(t,d)::e,S⟩ Q) (hs:Region.noSelect ops=true:=by kernel_rfl) (hf:Region.free .any ops ld i=true:=by kernel_rfl) (hr:(Region.ready .any ops ld).contains i=true:=by kernel_rfl)
  (hp:NP Q:=by repeat (first|exact NP.norm|exact NP.body|exact NP.yY|exact NP.Fc|apply NP.tl|apply NP.Fe|apply NP.then|apply NP.cut|apply NP.inBlock|apply NP.round)) (hw:cc ops ⟨n,e,S⟩ o true:=by first|exact rG rfl|exact th rfl rfl rfl lk ji) (hd:o.dst=some t:=by exact rfl)
  (hk:Safe ⟨n,e,S⟩ T kd:=by first|exact trivial|exact pU (k0:=0) rfl rfl|exact pU (k0:=1) rfl rfl|exact pU (k0:=2) rfl rfl|exact pU (k0:=3) rfl rfl|exact pU (k0:=4) rfl rfl|exact pU (k0:=5) rfl rfl) (pJ:kd≠.jI:=by intro h;cases h):AD P C ops S1 T (fuel+1) ld ⟨n,e,S⟩ Q :=
 AD.take hi hs hf hr hp hw hd h hk pJ K
theorem at_{i:Nat}(hi:ops[i]?=some o)(h:bV P C.G ⟨n,e,S⟩ o kd d)(K:AD P C ops S1 T fuel (ld.setIfInBounds i true) ⟨n,(t,d)::e,S⟩ Q)(hw:cc ops ⟨n,e,S⟩ o true:=by first|exact rG rfl|exact th rfl rfl rfl lk ji)(hd:o.dst=some t:=by exact rfl):bg P C ops S1 T fuel ld ⟨n,e,S⟩ Q i :=
 bg.still hi hw hd h K
theorem l9 (i:Nat) (hi:ops[i]?=some o) (K:dm P C ops S1 T fuel (ld.setIfInBounds i true) ⟨n,(t,.v (.tuple #[]))::e,S⟩ Q) (hw:cc ops ⟨n,e,S⟩ o false:=by first|exact mj rfl rfl rfl lk ji|exact IF (b:=false) rfl rfl rfl lk) (hs:Region.noSelect ops=true:=by kernel_rfl) (hf:Region.free .any ops ld i=true:=by kernel_rfl) (hr:(Region.ready .any ops ld).contains i=true:=by kernel_rfl)
  (hp:NP Q:=by repeat (first|exact NP.norm|exact NP.body|exact NP.yY|exact NP.Fc|apply NP.tl|apply NP.Fe|apply NP.then|apply NP.cut|apply NP.inBlock|apply NP.round)) (hd:o.dst=some t:=by exact rfl):dm P C ops S1 T (fuel+1) ld ⟨n,e,S⟩ Q :=
 dm.H6 hi hs hf hr hp hw hd K
theorem pG (i:Nat) (hi:ops[i]?=some o) (K:AD P C ops S1 T fuel (ld.setIfInBounds i true) ⟨n,(t,.v (.tuple #[]))::e,S⟩ Q) (hw:cc ops ⟨n,e,S⟩ o false:=by first|exact mj rfl rfl rfl lk ji|exact IF (b:=false) rfl rfl rfl lk) (hs:Region.noSelect ops=true:=by kernel_rfl) (hf:Region.free .any ops ld i=true:=by kernel_rfl) (hr:(Region.ready .any ops ld).contains i=true:=by kernel_rfl)
  (hp:NP Q:=by repeat (first|exact NP.norm|exact NP.body|exact NP.yY|exact NP.Fc|apply NP.tl|apply NP.Fe|apply NP.then|apply NP.cut|apply NP.inBlock|apply NP.round)) (hd:o.dst=some t:=by exact rfl):AD P C ops S1 T (fuel+1) ld ⟨n,e,S⟩ Q :=
 AD.H6 hi hs hf hr hp hw hd K
theorem fN (i:Nat) (hi:ops[i]?=some o) (h:bV P C.G ⟨n,e,S⟩ o .none d) (K:AI P C ops fuel (ld.setIfInBounds i true) ⟨n,(t,d)::e,S⟩ Q) (qx:∀w a,o.about P w a=none:=by exact fun _ _=>rfl) (hs:Region.noSelect ops=true:=by kernel_rfl) (hf:Region.free .any ops ld i=true:=by kernel_rfl) (hr:(Region.ready .any ops ld).contains i=true:=by kernel_rfl)
  (hp:NP Q:=by repeat (first|exact NP.norm|exact NP.afR|apply NP.then|apply NP.cut|apply NP.inBlock|apply NP.round)) (hw:cc ops ⟨n,e,S⟩ o true:=by first|exact rG rfl|exact th rfl rfl rfl lk ji) (hd:o.dst=some t:=by exact rfl):AI P C ops (fuel+1) ld ⟨n,e,S⟩ Q :=
 AI.take hi hs hf hr hp hw qx hd h K
theorem kr{i:Nat}(hi:ops[i]?=some o)(h:bV P C.G ⟨n,e,S⟩ o kd d)(K:AI P C ops fuel (ld.setIfInBounds i true) ⟨n,(t,d)::e,S⟩ Q)(xM:∀c,o.op≠.defer c:=by exact fun _ h=>by cases h)(hw:cc ops ⟨n,e,S⟩ o true:=by first|exact rG rfl|exact th rfl rfl rfl lk ji)(hd:o.dst=some t:=by exact rfl):gD P C ops fuel ld ⟨n,e,S⟩ Q i :=
 gD.still hi hw xM hd h K
def Mx(P:Program)(s u:Nat):Bool:=match P.underlying s with
 | some (.slice b)=>(match P.underlying b with
  | some (.int .u8)=>(match P.underlying u with
   | some .string=>true
   | _=>false)
  | _=>false)
 | _=>false
theorem af2{s u:Nat}(h:Mx P s u=true):∃b,P.underlying s=some (.slice b)∧P.underlying b=some (.int .u8)∧P.underlying u=some .string:=by
 unfold Mx at h;split at h
 ·rename_i b hb;split at h
  ·rename_i E;split at h
   ·rename_i I;exact⟨b,hb,E,I⟩
   cases h
  cases h
 cases h
theorem Cz{s u:TypeId}{y:Operand}{bs:List UInt8}{m:Nat}(ho:o.op = .convert s u y:=by exact rfl)(hy:aF x y = .list 1 (bs.flatMap cB) m:=by exact ot)(hs:Mx P s u=true:=by kernel_rfl):bV P G x o .jI (.v (.string ⟨bs.toArray⟩)):=by
 obtain⟨b,h1,h2,h3⟩:=af2 hs;exact XQ ho hy h1 h2 h3

end Go.Proofs.YtbcmjoaggammcaaGreatDoor.V
namespace Go.Proofs.YtbcmjoaggammcaaGreatDoor.V
open List
open Go.RowKit
variable {P:Program} {C:dF} {G:List (Nat×List Value)} {Q:Exit→St→Prop} {x:St} {ops:Array Oper} {l:List Oper} {o:Oper} {n:Nat} {e:List (Nat×D)} {S:List ag} {S1 T:List Nat} {fuel i:Nat} {ld:Array Bool}
variable {b sz:Nat} {cW:Array Operand} {t:TypeId} {fo:Operand} {ts:Array TypeId} {B:ag} {ps:List (Nat×Operand)}
theorem ay{α:Type}{a b:α}(h:a=b:=by kernel_rfl):a=b:=h
theorem aO{a:Nat}(h:Nat.ble a b=true:=by exact rfl):a≤b:=Nat.le_of_ble_eq_true h
theorem an(h:o.guard=none:=by exact rfl):cc ops x o true:=rG h
theorem gL(h:cc ops x o true:=by exact th rfl rfl rfl lk ji):cc ops x o true:=h
theorem WM{pd zs ds:List D}(ha:(pd.all fun d=>Nat.beq (cellsOf d).length sz)=true:=by exact rfl)(hl:Nat.beq zs.length (pd.length*sz)=true:=by exact rfl)(jm:pd.flatMap cellsOf=ds:=by exact rfl):lW (fun i=>some (i*sz,sz)) zs (bZ 0 pd)=some ds:=Ou ha hl jm
theorem Gt(h:NP Q:=by repeat (first|exact NP.body|exact NP.yY|exact NP.Fc|apply NP.tl|apply NP.Fe|apply NP.then|apply NP.cut|apply NP.inBlock|apply NP.round)):NP Q:=h
theorem ig{a b:List Nat}(h:∀x∈a,x∈b:=by intro b hb;simp[ap,St.put] at hb ⊢;try first|exact hb|omega|simp[hb]|(rcases hb with hb|hb<;>simp[hb])|(rcases hb with hb|hb|hb<;>simp[hb])):∀x∈a,x∈b:=h
theorem fg{l':List (Nat×D)}(h:mR e l':=by repeat (first|exact trivial|refine⟨lk,?_⟩)):mR e l':=h
theorem CA{cW:List Operand}{ds:List D}(h:mA x cW ds:=by repeat (first|exact trivial|refine⟨ot,?_⟩|refine⟨bJ,?_⟩|refine⟨sW,?_⟩)):mA x cW ds:=h
theorem VE(l':List (Nat×D))(S':List ag)(K:AD P C ops S1 T fuel ld ⟨n,l',S'⟩ Q)(hS:S=S':=by exact rfl)(h:mR e l':=by exact fg)(hb:ap S'=ap S:=by exact rfl):AD P C ops S1 T fuel ld ⟨n,e,S⟩ Q:=AD.wk (Wk.dN rfl hS h) hb K
theorem dR {f t:Nat} {args:List D} {r:D} (fi:∀args w,(callFunc f args).run P w = .ok (.enter f args) w) (hc:VP P C.G f args r) (K:OD P C ops l (x.put t r) Q)
  (ho:o.op = .call {callee:=.value fo,args:=cW,argTypes:=ts}:=by exact rfl) (hw:cc ops x o true:=by exact an) (hd:o.dst=some t:=by exact rfl) (hf:fo = .func f:=by exact rfl) (ha:mA x cW.toList args:=by exact CA):OD P C ops (o::l) x Q:=OD.gI hw ho hd hf fi hc ha K
theorem jv {f t:Nat} {args:List D} {r:D} (fi:∀args w,(callFunc f args).run P w = .ok (.enter f args) w) (hc:VP P C.G f args r) (K:AD P C ops S1 T fuel (ld.setIfInBounds i true) (x.put t r) Q)
  (hi:ops[i]?=some o:=by exact rfl) (ho:o.op = .call {callee:=.value fo,args:=cW,argTypes:=ts}:=by exact rfl) (hw:cc ops x o true:=by exact an) (hd:o.dst=some t:=by exact rfl) (hf:fo = .func f:=by exact rfl) (ha:mA x cW.toList args:=by exact CA):bg P C ops S1 T fuel ld x Q i:=bg.gI hi hw ho hd hf fi hc ha K
theorem fG (k t sz m:Nat) {cap:Nat} {cs:List D} (K:OD P C ops l ⟨x.n,(t,.list sz cs m)::x.env,x.S.eraseIdx k⟩ Q) (hk:x.S[k]?=some B:=by exact rfl) (ht:V.look t x.env = .v (.slice (some ⟨b,0,none⟩) m cap):=by exact lk) (hb:B.b=b:=by exact rfl) (dw:B.cs=cs:=by exact rfl) (hl:cs.length=m*sz:=by exact rfl) (h1:m≤cap:=by exact Nat.le_refl _) (h2:cap≤maxLen:=by decide)
  (hne:isMap B.e=false:=by exact rfl):OD P C ops l x Q:=OD.u9 (hne:=hne) hk ht hb dw hl h1 h2 K
theorem jk (k t sz m:Nat) {cap:Nat} {cs:List D} (K:AD P C ops S1 T fuel ld ⟨x.n,(t,.list sz cs m)::x.env,x.S.eraseIdx k⟩ Q) (hk:x.S[k]?=some B:=by exact rfl) (ht:V.look t x.env = .v (.slice (some ⟨b,0,none⟩) m cap):=by exact lk) (hb:B.b=b:=by exact rfl) (dw:B.cs=cs:=by exact rfl) (hl:cs.length=m*sz:=by exact rfl) (h1:m≤cap:=by exact Nat.le_refl _) (h2:cap≤maxLen:=by decide)
  (hne:isMap B.e=false:=by exact rfl):AD P C ops S1 T fuel ld x Q:=AD.u9 (hne:=hne) hk ht hb dw hl h1 h2 K
theorem WN{pl:List (Nat×D)}(h:js x ps pl:=by repeat (first|exact trivial|refine⟨rfl,ot,?_⟩|refine⟨rfl,bJ,?_⟩|refine⟨rfl,sW,?_⟩)):js x ps pl:=h
theorem mJ{c:Code}{ι:Type}{y:St}(I:ι→St→Prop)(μ:ι→Nat)(i:ι)(h0:I i y)(hw:Wk x y)(round:∀i y,I i y→CD P C c y (Bj I μ i Q)):CD P C (.loop c) x Q:=CD.wk hw (CD.loop I μ i h0 round)
theorem WO{p:Prop}{c:Code}{ι:Type}{y:St}(I:ι→St→Prop)(μ:ι→Nat)(i:ι)(h0:I i y)(round:∀i y,I i y→CD P C c y (Bj I μ i Q))(hp:CD P C (.loop c) x Q→p:=by exact nh)(hw:Wk x y:=by exact aM):p:=hp (CD.wk hw (CD.loop I μ i h0 round))
theorem ee {e':TypeId} {tt len:Nat} {z:Value} (pl:List (Nat×D)) (oc:List Value) (ds:List D) (hz:∀w,(zeroValue e').run P w = .ok z w) (E:∀w,(underlying t).run P w = .ok (.slice e') w) (hs:∀w,(sizeOf e').run P w = .ok sz w)
  (k:∀b,OD P C ops l ⟨x.n,(tt,.v (.slice (some ⟨b,0,none⟩) len len))::x.env,⟨b,e',ds.length,ds⟩::x.S⟩ Q) (ho:o.op = .buildSlice t len ps.toArray:=by exact rfl) (hw:cc ops x o true:=by exact an) (ju:o.dst=some tt:=by exact rfl) (hl:Nat.ble 1 (len*sz)=true:=by exact rfl) (ir:Nat.ble (len*sz) (2 ^ 24)=true:=by exact rfl)
  (eV:(Array.range (len*sz)).map (fun i=>z.cells[i % z.cells.size]!)=oc.toArray:=by kernel_rfl) (gM:js x ps pl:=by exact WN) (hj:pl.all (fun p=>kz p.2)=true:=by exact rfl) (hd:lW (fun i=>some (i*sz,sz)) (oc.map .v) pl=some ds:=by exact WM) (hne:isMap e'=false:=by exact rfl):OD P C ops (o::l) x Q:=OD.KD (hne:=hne) hw ho ju hz E hs hl ir eV gM hj hd k
theorem jj {e':TypeId} {tt len:Nat} {z:Value} (pl:List (Nat×D)) (oc:List Value) (ds:List D) (hz:∀w,(zeroValue e').run P w = .ok z w) (E:∀w,(underlying t).run P w = .ok (.slice e') w) (hs:∀w,(sizeOf e').run P w = .ok sz w)
  (k:∀b,AD P C ops S1 T fuel (ld.setIfInBounds i true) ⟨x.n,(tt,.v (.slice (some ⟨b,0,none⟩) len len))::x.env,⟨b,e',ds.length,ds⟩::x.S⟩ Q) (hi:ops[i]?=some o:=by exact rfl) (ho:o.op = .buildSlice t len ps.toArray:=by exact rfl) (hw:cc ops x o true:=by exact an) (ju:o.dst=some tt:=by exact rfl) (hl:Nat.ble 1 (len*sz)=true:=by exact rfl) (ir:Nat.ble (len*sz) (2 ^ 24)=true:=by exact rfl)
  (eV:(Array.range (len*sz)).map (fun i=>z.cells[i % z.cells.size]!)=oc.toArray:=by kernel_rfl) (gM:js x ps pl:=by exact WN) (hj:pl.all (fun p=>kz p.2)=true:=by exact rfl) (hd:lW (fun i=>some (i*sz,sz)) (oc.map .v) pl=some ds:=by exact WM) (hne:isMap e'=false:=by exact rfl):bg P C ops S1 T fuel ld x Q i:=bg.KD (hne:=hne) hi hw ho ju hz E hs hl ir eV gM hj hd k
theorem aN (k:Nat) (cs':List D) {o' m:Nat} {d:D} {y z:Operand} (hn:∀w,(sizeOf t).run P w = .ok m w) (K:OD P C ops l ⟨x.n,x.env,x.S.set k {B with cs:=cs'}⟩ Q) (ho:o.op = .store t y z:=by exact rfl) (hw:cc ops x o true:=by exact an) (ju:o.dst=none:=by exact rfl) (hy:aF x y = .v (.pointer (some ⟨b,o',none⟩)):=by exact ot)
  (hk:x.S[k]?=some B:=by exact rfl) (hb:B.b=b:=by exact rfl) (hz:aF x z=d:=by first|exact ot|exact bJ) (hj:kz d=true:=by exact rfl) (h1:(cellsOf d).all one=true:=by exact rfl) (fY:(cellsOf d).length=m:=by exact rfl) (hl:Nat.ble (o'+m) B.cs.length=true:=by exact rfl) (dw:da B.cs o' (cellsOf d)=cs':=by exact rfl) (hne:isMap B.e=false:=by exact rfl):OD P C ops (o::l) x Q:=OD.store (hne:=hne) hw ho ju hy hk hb hz hj h1 hn fY hl dw K
theorem dN (k:Nat) (cs':List D) {o' m:Nat} {d:D} {y z:Operand} (hn:∀w,(sizeOf t).run P w = .ok m w) (K:AD P C ops S1 T fuel (ld.setIfInBounds i true) ⟨x.n,x.env,x.S.set k {B with cs:=cs'}⟩ Q) (hi:ops[i]?=some o:=by exact rfl) (ho:o.op = .store t y z:=by exact rfl) (hw:cc ops x o true:=by exact an) (ju:o.dst=none:=by exact rfl) (hy:aF x y = .v (.pointer (some ⟨b,o',none⟩)):=by exact ot)
  (hk:x.S[k]?=some B:=by exact rfl) (hb:B.b=b:=by exact rfl) (hz:aF x z=d:=by first|exact ot|exact bJ) (hj:kz d=true:=by exact rfl) (h1:(cellsOf d).all one=true:=by exact rfl) (fY:(cellsOf d).length=m:=by exact rfl) (hl:Nat.ble (o'+m) B.cs.length=true:=by exact rfl) (dw:da B.cs o' (cellsOf d)=cs':=by exact rfl) (hT:∀b∈T,b∈ap (x.S.eraseIdx k):=by exact ig) (hne:isMap B.e=false:=by exact rfl):bg P C ops S1 T fuel ld x Q i:=bg.store (hne:=hne) hi hw ho ju hy hk hb hz hj h1 hn fY hl dw hT K
theorem om_ {t:Nat} {d:D} {z:Operand} (K:OD P C ops l ⟨n,(t,d)::e,S⟩ Q) (ho:o.op = .move z∨o.op = .assign z:=by first|exact .inl rfl|exact .inr rfl) (hz:aF ⟨n,e,S⟩ z=d:=by first|exact ot|exact bJ|exact sW|exact vS)
  (hw:cc ops ⟨n,e,S⟩ o true:=by first|exact rG rfl|exact th rfl rfl rfl lk ji) (hd:o.dst=some t:=by exact rfl):OD P C ops (o::l) ⟨n,e,S⟩ Q:=OD.still hw hd (bj ho hz) K

end Go.Proofs.YtbcmjoaggammcaaGreatDoor.V
namespace Go.Proofs.YtbcmjoaggammcaaGreatDoor.V
open List
open Go.RowKit
variable {P:Program} {C:dF} {G:List (Nat×List Value)} {Q:Exit→St→Prop} {x:St} {ops:Array Oper} {l l2:List Oper} {o:Oper} {n t:Nat} {d:D} {e e' l':List (Nat×D)} {S:List ag} {ts:List Nat} {kd:Rd} {c:Bool}
/-! ### Facts of the program, found by number -/
variable {zs:List Value} {pl lr:List (Nat×D)} {k sz t' id:Nat} {ds:List D} {d0:D} {y fo:Operand} {ps:List (Nat×Operand)} {cW:Array Operand} {tt:Array TypeId} {p q:Prop} {fn:Func} {post:D→List ag→Prop} {b:Bool} {S':List ag}
class Fo (P:Program) (s i:Nat) (off:outParam Nat):Prop where h:Cs P s i off=true
class Sl (P:Program) (t:Nat) (sz:outParam Nat):Prop where h:Ct P t sz=true
class Sz (P:Program) (t:Nat) (sz:outParam Nat):Prop where h:qt P t sz=true
def rT(P:Program)(t:Nat):Option (List Value):=(P.info? t).bind fun i=>i.zero.map fun z=>z.cells.toList
theorem AW(h:rT P t=some zs):∃z,(∀w,(zeroValue t).run P w = .ok z w)∧z.cells.toList=zs:=by
 unfold rT at h;cases hi:P.info? t with
 | none=>rw[hi] at h;cases h
 | some i =>
  rw[hi,Option.bind_some] at h;cases hz:i.zero with
  | none=>rw[hz] at h;cases h
  | some z =>
   rw[hz,Option.map_some] at h;refine⟨z,fun w=>?_,Option.some.inj h⟩;unfold zeroValue typeInfo;simp[hi,hz]
def EA(P:Program)(t:Nat):Option (List (Nat×Option Nat)):=(P.underlying t).bind fun d=>match d with
 | .struct fs=>some (fs.toList.map fun f=>(f.offset,(P.info? f.type).map (·.size)))
 | _=>none
theorem ZH{pl:List (Nat×Nat)}(h:EA P t=some (pl.map fun p=>(p.1,some p.2))):∃E,(∀w,(underlying t).run P w = .ok (.struct E) w)∧∀w,(E.mapM fun f=>do pure (f.offset,←sizeOf f.type):Sem (Array (Nat×Nat))).run P w = .ok pl.toArray w:=by
 unfold EA at h;cases hu:P.underlying t with
 | none=>rw[hu] at h;cases h
 | some d =>
  rw[hu,Option.bind_some] at h;split at h
  ·rename_i E;refine⟨E,run_underlying hu,fun w=>?_⟩;have h:=Option.some.inj h;rw[←Array.toArray_toList (xs:=E),mapM_toArray];have key:∀(l:List Field) (pl:List (Nat×Nat)),l.map (fun f=>(f.offset,(P.info? f.type).map (·.size)))=pl.map (fun p=>(p.1,some p.2))→(l.mapM fun f=>do pure (f.offset,←sizeOf f.type):Sem (List (Nat×Nat))).run P w = .ok pl w:=by
    intro l;induction l with
    | nil=>intro pl h;cases pl with
     | nil=>rfl
     | cons _ _=>cases h
    | cons f r ih =>
     intro pl h;cases pl with
     | nil=>cases h
     | cons p q =>
      rw[map_cons,map_cons,List.cons.injEq,Prod.mk.injEq] at h;obtain⟨⟨h1,h2⟩,h3⟩:=h;have h4:∀w,(sizeOf f.type).run P w = .ok p.2 w:=by
       cases hi:P.info? f.type with
       | none=>rw[hi] at h2;cases h2
       | some i=>exact lu (by unfold qt;rw[hi] at h2 ⊢;simp at h2;simp[h2])
      rw[mapM_cons];simp only[Sem.run_bind,Sem.run_pure,h4,Result.andThen_ok,ih q h3,h1]
   have:=key E.toList pl h;simp only[map_eq_pure_bind,Sem.run_bind,this,Result.andThen_ok,Sem.run_pure]
  cases h
class Sb (P:Program) (t:Nat) (zs:outParam (List Value)) (pl:outParam (List (Nat×Nat))):Prop where
  hz:rT P t=some zs
  hp:EA P t=some (pl.map fun p=>(p.1,some p.2))
/-! ### What is read -/
inductive mc:Nat→List D→List D→Prop
  | z {l:List D}:mc 0 l []
  | s {k:Nat} {a:D} {l l':List D} (h:mc k l l'):mc (k+1) (a::l) (a::l')
inductive pK:Nat→List D→List D→Prop
 | z {l:List D}:pK 0 l l
 | s {k:Nat} {a:D} {l l':List D} (h:pK k l l'):pK (k+1) (a::l) l'
theorem mc.eq{l l':List D}(h:mc k l l'):l.take k=l'∧l'.length=k:=by
 induction h with
 | z=>exact⟨rfl,rfl⟩
 | s h ih=>exact⟨by rw[take_succ_cons,ih.1],by rw[length_cons,ih.2]⟩
theorem mc.whole{l l':List D}(h:mc k l l')(hl:Nat.beq l.length k=true):l=l':=by
 have:=h.eq.1;rwa [take_of_length_le (Nat.le_of_eq (Nat.eq_of_beq_eq_true hl))] at this
theorem pK.eq{l l':List D}(h:pK k l l'):l.drop k=l':=by
 induction h with
 | z=>rfl
 | s h ih=>rw[drop_succ_cons,ih]
inductive LB (S:List ag) (sz:Nat):D→Rd→List D→Prop
 | b (k:Nat) {b o':Nat} {B:ag} {ds m:List D} (hk:S[k]?=some B) (hb:B.b=b) (hm:pK o' B.cs m) (hd:mc sz m ds) (hne:isMap B.e=false):LB S sz (.v (.pointer (some ⟨b,o',none⟩))) (.fu k) ds
 | m {α:Type} {g:α→List D} {i:Nat} {ls:List α} (hg:∀a,(g a).length=sz) (hi:i<ls.length):LB S sz (.fx (ls.flatMap g) (i*sz)) .jI (g ls[i])
 | r (k:Nat) {α:Type} {g:α→List D} {b i:Nat} {B:ag} {ls:List α} (hg:∀a,(g a).length=sz) (hk:S[k]?=some B) (hb:B.b=b) (dw:B.cs=ls.flatMap g) (hi:i<ls.length) (hne:isMap B.e=false):LB S sz (.v (.pointer (some ⟨b,0+i*sz,none⟩))) (.fu k) (g ls[i])
 | i {o':Nat} {cs ds m:List D} (hm:pK o' cs m) (hd:mc sz m ds):LB S sz (.fx cs o') .jI ds
theorem LB.still(h:LB x.S sz d0 kd ds)(ho:o.op = .load t y)(hy:aF x y=d0)(ha:qu P t true=true)(hn:qt P t sz=true):bV P G x o kd (.agg ds):=by
 cases h with
 | b k hk hb hm hd hne=>exact As (hne:=hne) ho hy hk hb (iA ha) (lu hn) hd.eq.2 (by rw[hm.eq];exact hd.eq.1)
 | m hg hi=>exact G0 ho hy (iA ha) (lu hn) (hg _) (Fb hg hi)
 | r k hg hk hb dw hi hne=>exact dJ (hne:=hne) hg hk hb dw (iA ha) (lu hn) hi x o y ho hy rfl
 | i hm hd=>exact G0 ho hy (iA ha) (lu hn) hd.eq.2 (by rw[hm.eq];exact hd.eq.1)
theorem mS{l l':List D}(h:mc k l l':=by repeat (first|exact mc.z|apply mc.s)):mc k l l':=h
theorem qc{l l':List D}(h:pK k l l':=by repeat (first|exact pK.z|apply pK.s)):pK k l l':=h
/-! ### Operations, by themselves -/
theorem fb_{s:TypeId}{i off:Nat}{d d':D}(ho:o.op = .fieldAddr s y i:=by exact rfl)(hy:aF x y=d:=by first|exact ot|exact vS)(hc:Cs P s i off=true:=by exact Fo.h)(h:FA off d d':=by first|exact .p|exact .i):bV P G x o .none d':=c8 off ho hy hc h
theorem lc_ (ho:o.op = .load t y:=by exact rfl) (hy:aF x y=d0:=by exact ot) (hn:qt P t sz=true:=by exact Sz.h) (ha:qu P t true=true:=by kernel_rfl)
  (h:LB x.S sz d0 kd ds:=by first|(apply LB.b 0;(focus exact rfl);(focus exact rfl);(focus exact qc);(focus exact mS);(focus exact rfl))|(apply LB.b 1;(focus exact rfl);(focus exact rfl);(focus exact qc);(focus exact mS);(focus exact rfl))|(apply LB.b 2;(focus exact rfl);(focus exact rfl);(focus exact qc);(focus exact mS);(focus exact rfl))|(apply LB.b 3;(focus exact rfl);(focus exact rfl);(focus exact qc);(focus exact mS);(focus exact rfl))|(apply LB.b 4;(focus exact rfl);(focus exact rfl);(focus exact qc);(focus exact mS);(focus exact rfl))|(apply LB.b 5;(focus exact rfl);(focus exact rfl);(focus exact qc);(focus exact mS);(focus exact rfl))|(apply LB.b 6;(focus exact rfl);(focus exact rfl);(focus exact qc);(focus exact mS);(focus exact rfl))|(apply LB.b 7;(focus exact rfl);(focus exact rfl);(focus exact qc);(focus exact mS);(focus exact rfl))|(apply LB.b 8;(focus exact rfl);(focus exact rfl);(focus exact qc);(focus exact mS);(focus exact rfl))|(apply LB.b 9;(focus exact rfl);(focus exact rfl);(focus exact qc);(focus exact mS);(focus exact rfl))|(apply LB.m;(focus exact fun _=>rfl);(focus first|assumption|omega|fail))|(apply LB.i;(focus exact qc);(focus exact mS))|(apply LB.r 0;(focus exact fun _=>rfl);(focus exact rfl);(focus exact rfl);(focus exact rfl);(focus exact rfl);(focus first|assumption|omega|fail))|(apply LB.r 1;(focus exact fun _=>rfl);(focus exact rfl);(focus exact rfl);(focus exact rfl);(focus exact rfl);(focus first|assumption|omega|fail))|(apply LB.r 2;(focus exact fun _=>rfl);(focus exact rfl);(focus exact rfl);(focus exact rfl);(focus exact rfl);(focus first|assumption|omega|fail))|(apply LB.r 3;(focus exact fun _=>rfl);(focus exact rfl);(focus exact rfl);(focus exact rfl);(focus exact rfl);(focus first|assumption|omega|fail))|fail):bV P G x o kd (.agg ds):=h.still ho hy ha hn
theorem ahu {d:D} (ho:o.op = .load t y:=by exact rfl) (hy:aF x y=d0:=by exact ot) (ha:qu P t false=true:=by kernel_rfl)
  (h:LD x.S d0 kd d:=by first|(apply LD.b 0;(focus exact rfl);(focus exact rfl);(focus exact rfl);(focus exact rfl))|(apply LD.b 1;(focus exact rfl);(focus exact rfl);(focus exact rfl);(focus exact rfl))|(apply LD.b 2;(focus exact rfl);(focus exact rfl);(focus exact rfl);(focus exact rfl))|(apply LD.b 3;(focus exact rfl);(focus exact rfl);(focus exact rfl);(focus exact rfl))|(apply LD.b 4;(focus exact rfl);(focus exact rfl);(focus exact rfl);(focus exact rfl))|(apply LD.b 5;(focus exact rfl);(focus exact rfl);(focus exact rfl);(focus exact rfl))|(apply LD.b 6;(focus exact rfl);(focus exact rfl);(focus exact rfl);(focus exact rfl))|(apply LD.b 7;(focus exact rfl);(focus exact rfl);(focus exact rfl);(focus exact rfl))|(apply LD.b 8;(focus exact rfl);(focus exact rfl);(focus exact rfl);(focus exact rfl))|(apply LD.b 9;(focus exact rfl);(focus exact rfl);(focus exact rfl);(focus exact rfl))|(apply LD.m;(focus exact fun _=>rfl);(focus exact rfl);(focus first|assumption|omega|fail))|(apply LD.m0;(focus exact fun _=>rfl);(focus exact rfl);(focus first|assumption|omega|fail))|(apply LD.i;(focus exact rfl))|(apply LD.r 0;(focus exact fun _=>rfl);(focus exact rfl);(focus exact rfl);(focus exact rfl);(focus exact rfl);(focus exact rfl);(focus first|assumption|omega|fail))|(apply LD.r0 0;(focus exact fun _=>rfl);(focus exact rfl);(focus exact rfl);(focus exact rfl);(focus exact rfl);(focus exact rfl);(focus first|assumption|omega|fail))|(apply LD.r 1;(focus exact fun _=>rfl);(focus exact rfl);(focus exact rfl);(focus exact rfl);(focus exact rfl);(focus exact rfl);(focus first|assumption|omega|fail))|(apply LD.r0 1;(focus exact fun _=>rfl);(focus exact rfl);(focus exact rfl);(focus exact rfl);(focus exact rfl);(focus exact rfl);(focus first|assumption|omega|fail))|(apply LD.r 2;(focus exact fun _=>rfl);(focus exact rfl);(focus exact rfl);(focus exact rfl);(focus exact rfl);(focus exact rfl);(focus first|assumption|omega|fail))|(apply LD.r0 2;(focus exact fun _=>rfl);(focus exact rfl);(focus exact rfl);(focus exact rfl);(focus exact rfl);(focus exact rfl);(focus first|assumption|omega|fail))|(apply LD.r 3;(focus exact fun _=>rfl);(focus exact rfl);(focus exact rfl);(focus exact rfl);(focus exact rfl);(focus exact rfl);(focus first|assumption|omega|fail))|(apply LD.r0 3;(focus exact fun _=>rfl);(focus exact rfl);(focus exact rfl);(focus exact rfl);(focus exact rfl);(focus exact rfl);(focus first|assumption|omega|fail))|fail):bV P G x o kd d:=h.still ho hy (iA ha)
theorem ahv {op:BinOp} {t t':TypeId} {z:Operand} {u u' r:Value} (ho:o.op = .binOp op t y z t':=by exact rfl) (hy:aF x y = .v u:=by first|exact ot|exact bJ|fail) (hz:aF x z = .v u':=by first|exact ot|exact bJ|fail)
  (hb:kx P op t u u' r:=by first|exact Rl|exact Rh|exact Rm|exact Rj|exact Ri|exact Rk|(apply j3;(focus exact wrap_i64 w4 w4))|(apply fZ;(focus exact wrap_i64 w4 w4))|(apply IJ;(focus exact wrap_i64 w4 w4))|exact PM|exact PN|exact aa3|exact aa4|exact aa5|exact aa6|(apply IL;(focus omega))|fail):bV P G x o .none (.v r):=cZ ho hy hz hb
theorem iy_ {z:Operand} {k:IntKind} {i:Int} {d d':D} (ho:o.op = .indexAddr t y z:=by exact rfl) (hy:aF x y=d:=by exact ot) (hz:aF x z = .v (.int k i):=by first|exact ot|exact bJ) (hs:Ct P t sz=true:=by exact Sl.h)
  (h:IX sz i d d':=by first|(apply IX.l;(focus exact rfl);(focus first|assumption|omega|(simp;omega)|fail))|(apply IX.r;(focus exact rfl);(focus first|assumption|omega|(simp;omega)|fail))|(apply IX.l;(focus exact(Int.toNat_of_nonneg w4).symm);(focus omega))|(apply IX.r;(focus exact(Int.toNat_of_nonneg w4).symm);(focus omega))|fail):bV P G x o .none d':=c9 sz ho hy hz hs h
def fvQ(P:Program)(s i:Nat):Bool:=match P.underlying s with
 | some (.struct fs)=>match fs[i]? with
  | some f=>qu P f.type false
  | none=>false
 | _=>false
theorem aeA:js x [] []:=trivial
theorem acP{d:D}(hy:aF x y=d)(h:js x ps pl):js x ((k,y)::ps) ((k,d)::pl):=⟨rfl,hy,h⟩
theorem pt_(h:js x ps pl:=by repeat (first|exact aeA|(apply acP;(focus first|exact ot|exact bJ|exact sW|fail)))):js x ps pl:=h
theorem bd_ {pq:List (Nat×Nat)} {m:List D} (ho:o.op = .build t ps.toArray:=by exact rfl) (hz:rT P t=some zs:=by exact Sb.hz) (hp:EA P t=some (pq.map fun p=>(p.1,some p.2)):=by exact Sb.hp)
  (gM:js x ps pl:=by exact pt_) (hj:pl.all (fun p=>kz p.2)=true:=by exact rfl) (hs:qt P t sz=true:=by exact Sz.h) (hd:lW (pq.toArray[·]?) (zs.map .v) pl=some m:=by exact rfl) (hl:Nat.beq m.length sz=true:=by exact rfl) (hk:mc sz m ds:=by exact mS):bV P G x o .none (.agg ds):=by
 obtain⟨z,h1,h2⟩:=AW hz;obtain⟨fs,h3,h4⟩:=ZH hp;rw[hk.whole hl] at hd;exact nq ho h1 h3 h4 gM hj (by rw[h2];exact hd)
def My(P:Program)(t:Nat):Bool:=match P.underlying t with
 | some .string=>true
 | _=>false
theorem af3(h:My P t=true):∀w,(underlying t).run P w = .ok .string w:=by
 unfold My at h;split at h
 ·rename_i E;exact run_underlying E
 cases h
def CB(P:Program)(t:Nat)(k:IntKind):Bool:=match P.underlying t with
 | some (.int a)=>decide (a=k)
 | _=>false
class Ik (P:Program) (t:Nat) (k:outParam IntKind):Prop where h:CB P t k=true
theorem TZ{k:IntKind}(h:CB P t k=true):∀w,(underlying t).run P w = .ok (.int k) w:=by
 unfold CB at h;split at h
 ·rename_i a h1;obtain rfl:=of_decide_eq_true h;exact run_underlying h1
 cases h
theorem cv_{s:TypeId}{k0 k k':IntKind}{a r:Int}(ho:o.op = .convert s t y:=by exact rfl)(hy:aF x y = .v (.int k a):=by exact ot)(hc:CB P s k0=true:=by exact Ik.h)(uq:CB P t k'=true:=by exact Ik.h)(h:k'.wrap a=r:=by first|exact wrap_i64 w4 w4|exact rfl):bV P G x o .none (.v (.int k' r)) :=
 oo ho hy (oq (TZ hc) (TZ uq) h)
theorem lr_{s:ByteArray}{ts:Array TypeId}(ho:o.op = .call {callee:=.builtin .len,args:=#[y],argTypes:=ts}:=by exact rfl)(ht:ts = #[t]:=by exact rfl)(hy:aF x y = .v (.string s):=by exact ot)(hs:My P t=true:=by kernel_rfl):bV P G x o .none (.v (.int .i64 (s.size:Nat))):=DL ho ht hy (af3 hs)
/-! ### Steps of a region that changes no block -/
def tmpsOf:List Operand→List Nat
 | []=>[]
 | .tmp t::r=>t::tmpsOf r
 | _::r=>tmpsOf r
def opsOf:Op→List Operand
 | .move x|.assign x|.nilCheck x|.unOp _ _ x|.convert _ _ x|.fieldAddr _ x _|.field _ x _|.load _ x|.extract x _=>[x]
 | .pick c a b=>[c,a,b]
 | .binOp _ _ a b _|.indexAddr _ a b|.index _ a b|.lookup _ a b _=>[a,b]
 | .slice _ x lo hi mx=>x::(lo.toList++hi.toList++mx.toList)
 | .build _ ps|.buildSlice _ _ ps=>ps.toList.map (·.2)
 | .makeFunc _ _ c=>c.toList
 | .call c=>match c.callee with
  | .value f=>f::c.args.toList
  | _=>c.args.toList
 | _=>[]
def UU(ops:Array Oper)(o:Oper):List Nat:=match o.guard with
 | some (g,_)=>(match ops[g]? with
  | some p=>p.dst.toList
  | none=>[])
 | none=>[]
def j6(ops:Array Oper)(o:Oper):List Nat:=UU ops o++tmpsOf (opsOf o.op)
theorem jw{ts:List Nat}(h:fC ts e l':=by repeat (first|exact fC.nil|(apply fC.cons;(focus exact lk)))):fC ts e l':=h
theorem oO{x:St}(h:cc ops x o true:=by first|exact rG rfl|exact th rfl rfl rfl lk ji|fail):cc ops x o true:=h
theorem Mz{x:St}(h:cc ops x o false:=by first|exact mj rfl rfl rfl lk ji|exact IF (b:=false) rfl rfl rfl lk|fail):cc ops x o false:=h
def PE(c:Bool)(P:Program)(G:List (Nat×List Value))(n:Nat)(S:List ag)(ops:Array Oper)(ts:List Nat)(l:List Oper)(e:List (Nat×D))(R:List (Nat×D)→Prop):Prop:=∃e' l',PD c P G n S ops l e [] e'∧fC ts e' l'∧R l'
variable {R:List (Nat×D)→Prop}
theorem jR(K:R l')(h:fC ts e l':=by exact jw):PE c P G n S ops ts [] e R:=⟨e,l',.nil,h,K⟩
theorem PE.cons{lr:List (Nat×D)}{E:List Nat}(hd:o.dst=some t)(hr:fC E e lr)(hq:(!c||mV ops o E)=true)(hw:cc ops ⟨n,lr,S⟩ o true)(h:fJ P G ⟨n,lr,S⟩ o [] (fun y=>y=⟨n,(t,d)::lr,S⟩))(K:PE c P G n S ops ts l ((t,d)::e) R):PE c P G n S ops ts (o::l) e R:=by
 obtain⟨e',l',h1,h2⟩:=K;exact⟨e',l',.cons hd hr hq hw h h1,h2⟩
theorem WQ(hd:o.dst=some t:=by exact rfl)(hr:fC (j6 ops o) e lr:=by exact jw)(h:bV P G ⟨n,lr,S⟩ o kd d)(K:PE c P G n S ops ts l ((t,d)::e) R)(hq:(!c||mV ops o (j6 ops o))=true:=by kernel_rfl)(hw:cc ops ⟨n,lr,S⟩ o true:=by exact oO):PE c P G n S ops ts (o::l) e R:=.cons hd hr hq hw (h.fQ hd) K
def wU(P:Program)(f:Nat):Bool:=match P.funcs[f]? with
 | some fn => !(fn.name == "runtime.NumGoroutine") && fn.body.isSome
 | none=>false
theorem Tg{f:Nat}(h:wU P f=true):∀args w,(callFunc f args).run P w = .ok (.enter f args) w:=by
 unfold wU at h;split at h
 ·rename_i fn hf;rw[Bool.and_eq_true] at h;obtain⟨h1,h2⟩:=h;obtain⟨c,hc⟩:=Option.isSome_iff_exists.1 h2;exact enters_of hf (by simpa using h1) hc
 cases h
theorem pc_ {f:Nat} {args:List D} {r:D} (hc:VP P G f args r) (K:PE c P G n S ops ts l ((t,r)::e) R) (ho:o.op = .call {callee:=.value fo,args:=cW,argTypes:=tt}:=by exact rfl)
  (hd:o.dst=some t:=by exact rfl) (hr:fC (j6 ops o) e lr:=by exact jw) (hq:(!c||mV ops o (j6 ops o))=true:=by kernel_rfl) (hw:cc ops ⟨n,lr,S⟩ o true:=by exact oO) (hf:fo = .func f:=by exact rfl) (fi:wU P f=true:=by kernel_rfl) (ha:mA ⟨n,lr,S⟩ cW.toList args:=by exact CA):PE c P G n S ops ts (o::l) e R:=by
 refine .cons hd hr hq hw ?_ K;intro C a w K Q hG hs hK;refine AK ho hd hf (Tg fi) ha.eq (eN _) hc C a w K Q hG hs fun y a' w' hy E uq I=>?_;obtain⟨r',S',⟨rfl,rfl⟩,rfl⟩:=hy;exact hK _ a' w' rfl E uq I
theorem aeB{x:St}:js x [] (bZ k []):=trivial
theorem acQ{x:St}{d:D}{pd:List D}(hy:aF x y=d)(h:js x ps (bZ (k+1) pd)):js x ((k,y)::ps) (bZ k (d::pd)):=⟨rfl,hy,h⟩
theorem Gu{x:St}{pd:List D}(h:js x ps (bZ k pd):=by repeat (first|exact aeB|(apply acQ;(focus first|exact ot|exact bJ|exact sW|fail)))):js x ps (bZ k pd):=h
def wV(P:Program)(t sz:Nat):Bool:=match P.underlying t with
 | some (.slice e)=>qt P e sz&&(rT P e).isSome && !(isMap e)
 | _=>false
class sO (P:Program) (t:Nat) (sz:outParam Nat):Prop where h:wV P t sz=true
theorem aeC(h:wV P t sz=true):∃e z,(∀w,(underlying t).run P w = .ok (.slice e) w)∧(∀w,(sizeOf e).run P w = .ok sz w)∧(∀w,(zeroValue e).run P w = .ok z w)∧isMap e=false:=by
 unfold wV at h;split at h
 ·rename_i e E;simp only[Bool.and_eq_true,Bool.not_eq_true'] at h;obtain⟨⟨h1,h2⟩,h3⟩:=h;obtain⟨zs,h4⟩:=Option.isSome_iff_exists.1 h2;obtain⟨z,h5,_⟩:=AW h4;exact⟨e,z,run_underlying E,lu h1,h5,h3⟩
 cases h
theorem Yo{pd:List D}(h:pd.all kz=true):∀k,(bZ k pd).all (fun p=>kz p.2)=true:=by
 induction pd with
 | nil=>intro k;rfl
 | cons a r ih =>
  intro k;rw[all_cons,Bool.and_eq_true] at h;rw[bZ,all_cons,Bool.and_eq_true];exact⟨h.1,ih h.2 _⟩
theorem abd {len:Nat} {pd:List D} (ho:o.op = .buildSlice t' len ps.toArray) (hd:o.dst=some t) (hs:wV P t' sz=true) (gM:js x ps (bZ 0 pd)) (hn:Nat.beq pd.length len=true) (hl:Nat.ble 1 (len*sz)=true) (ir:Nat.ble (len*sz) (2 ^ 24)=true)
  (hj:pd.all kz=true) (ha:(pd.all fun d=>Nat.beq (cellsOf d).length sz)=true) (jm:pd.flatMap cellsOf=ds):fJ P G x o [] (fun y=>y=x.put t (.list sz ds len)):=by
 obtain⟨e,z,hu,gX,hz,hne⟩:=aeC hs;have hlen:pd.length=len:=Nat.eq_of_beq_eq_true hn;have CC:ds.length=len*sz:=by
  rw[←jm,←hlen];clear gM hn hlen jm hj;induction pd with
  | nil=>simp
  | cons a r ih =>
   rw[all_cons,Bool.and_eq_true] at ha;rw[flatMap_cons,length_append,ih ha.2,Nat.eq_of_beq_eq_true ha.1,length_cons,Nat.succ_mul,Nat.add_comm]
 intro C a w K Q hG h hK;refine GZ (hne:=hne) (zs:=((Array.range (len*sz)).map (fun i=>z.cells[i % z.cells.size]!)).toList.map .v) (ds:=ds) ho hd hz hu gX (Nat.le_of_ble_eq_true hl) (Nat.le_of_ble_eq_true ir) ?_ ?_ ?_ ?_ C a w K Q hG h fun y a' w' hy O uq E=>?_
 ·rw[map_map,Array.toList_map,map_map];apply Array.ext';simp[Function.comp_def]
 ·intro d hd;obtain⟨u,_,rfl⟩:=mem_map.1 hd;exact⟨u,rfl⟩
 ·rw[gM.eq];exact At (Yo hj 0)
 ·rw[gM.eq];exact Ou ha (by rw[hlen];simp) jm
 obtain⟨b,rfl⟩:=hy;have I:len≤maxLen:=by
  have h1:=Nat.le_of_ble_eq_true hl;have h2:=Nat.le_of_ble_eq_true ir;have h3:1≤sz:=Nat.pos_of_ne_zero fun h0=>by rw[h0] at h1;omega
  have h4:len*1≤len*sz:=Nat.mul_le_mul_left _ h3;have:maxLen=9223372036854775807:=rfl;omega
 have hg:=Wk.u9 (hne:=hne) (k:=0) (t:=t) (sz:=sz) (m:=len) (cap:=len) (B:=⟨b,e,ds.length,ds⟩) (n:=x.n) (l:=(t,.v (.slice (some ⟨b,0,none⟩) len len))::x.env) (S:=⟨b,e,ds.length,ds⟩::x.S) (cs:=ds) rfl fw rfl CC (Nat.le_refl _) I;refine hK (x.put t (.list sz ds len)) a' w' rfl ?_ uq ?_
 ·have h1:=hg C a' w' O;refine⟨h1.defers,h1.size,fun q hq=>?_,h1.own,h1.fr,h1.ex,h1.eM⟩;have h2:=h1.env q hq;simp only[fO] at h2;simp only[St.put,fO];by_cases e1:t=q
  ·rw[if_pos e1] at h2 ⊢;exact h2
  rw[if_neg e1] at h2 ⊢;rw[if_neg e1] at h2;exact h2
 exact⟨E.os,E.tape,E.output,E.size,fun U h1 h2=>⟨(E.block U h1 h2).1,fun h3=>(E.block U h1 h2).2 (mem_cons_of_mem _ h3)⟩⟩
theorem WR {len:Nat} {pd:List D} (K:PE c P G n S ops ts l ((t,.list sz ds len)::e) R) (ho:o.op = .buildSlice t' len ps.toArray:=by exact rfl)
  (hd:o.dst=some t:=by exact rfl) (hr:fC (j6 ops o) e lr:=by exact jw) (gM:js ⟨n,lr,S⟩ ps (bZ 0 pd):=by exact Gu) (hs:wV P t' sz=true:=by exact sO.h) (hq:(!c||mV ops o (j6 ops o))=true:=by kernel_rfl) (hw:cc ops ⟨n,lr,S⟩ o true:=by exact oO)
  (hn:Nat.beq pd.length len=true:=by exact rfl) (hl:Nat.ble 1 (len*sz)=true:=by exact rfl) (ir:Nat.ble (len*sz) (2 ^ 24)=true:=by exact rfl) (hj:pd.all kz=true:=by exact rfl) (ha:(pd.all fun d=>Nat.beq (cellsOf d).length sz)=true:=by exact rfl) (jm:pd.flatMap cellsOf=ds:=by exact rfl):PE c P G n S ops ts (o::l) e R:=.cons hd hr hq hw (abd ho hd hs gM hn hl ir hj ha jm) K
theorem MA {α:Type} {g:α→List D} (ls:List α) {len:Nat} {pd:List D} (K:PE c P G n S ops ts l ((t,.list sz (ls.flatMap g) ls.length)::e) R) (ho:o.op = .buildSlice t' len ps.toArray:=by exact rfl)
  (hd:o.dst=some t:=by exact rfl) (hr:fC (j6 ops o) e lr:=by exact jw) (gM:js ⟨n,lr,S⟩ ps (bZ 0 pd):=by exact Gu) (hs:wV P t' sz=true:=by exact sO.h) (hq:(!c||mV ops o (j6 ops o))=true:=by kernel_rfl) (hw:cc ops ⟨n,lr,S⟩ o true:=by exact oO)
  (hn:Nat.beq pd.length len=true:=by exact rfl) (hl:Nat.ble 1 (len*sz)=true:=by exact rfl) (ir:Nat.ble (len*sz) (2 ^ 24)=true:=by exact rfl) (hj:pd.all kz=true:=by exact rfl) (ha:(pd.all fun d=>Nat.beq (cellsOf d).length sz)=true:=by exact rfl) (hlen:len=ls.length:=by exact rfl) (jm:pd.flatMap cellsOf=ls.flatMap g:=by exact rfl):PE c P G n S ops ts (o::l) e R:=by
 subst hlen;exact WR K ho hd hr gM hs hq hw hn hl ir hj ha jm
/-! ### All by itself -/
theorem MB{x:St}(h:bV P G x o kd d:=by first|exact bj|exact fb_|exact lc_|exact ahu|exact ahv|exact iy_|exact Mi|exact qv|exact lG|exact wR|exact u4|exact kO|exact bd_|exact cv_|exact lr_|exact fv_|exact Cz|fail):bV P G x o kd d:=h
structure PK (k:Nat) (P:Program) (G:List (Nat×List Value)) (n:Nat) (S:List ag) (ops:Array Oper) (l:List Oper) (e:List (Nat×D)) (l2:List Oper) (e':List (Nat×D)):Prop where
 h:PD false P G n S ops l e l2 e'
theorem PK.z:PK 0 P G n S ops l e l e:=⟨.nil⟩
theorem PK.s(hd:o.dst=some t)(hr:fC (j6 ops o) e lr)(hw:cc ops ⟨n,lr,S⟩ o true)(h:bV P G ⟨n,lr,S⟩ o kd d)(K:PK k P G n S ops l ((t,d)::e) l2 e'):PK (k+1) P G n S ops (o::l) e l2 e':=⟨.cons hd hr rfl hw (h.fQ hd) K.h⟩
theorem PK.f(hd:o.dst=some t)(hr:fC (UU ops o) e lr)(hw:cc ops ⟨n,lr,S⟩ o false)(K:PK k P G n S ops l ((t,.v (.tuple #[]))::e) l2 e'):PK (k+1) P G n S ops (o::l) e l2 e':=⟨.skip hd hr rfl hw K.h⟩
theorem CE(h:PK k P G n S ops l e l2 e':=by repeat (first|exact PK.z|(apply PK.s;(focus exact rfl);(focus exact jw);(focus exact oO);(focus exact MB))|(apply PK.f;(focus exact rfl);(focus exact jw);(focus exact Mz)))):PK k P G n S ops l e l2 e':=h
theorem aD(k:Nat)(K:OD P C ops l2 ⟨n,e',S⟩ Q)(h:PK k P C.G n S ops l e l2 e':=by exact CE):OD P C ops l ⟨n,e,S⟩ Q:=h.h.od K
theorem aC{d:Code}(k:Nat)(K:OD P C l.toArray l2 ⟨n,e',S⟩ (BG P C d Q))(h0:CD P C (.seq (.region id l.toArray false) d) ⟨n,e,S⟩ Q→p:=by exact nh)(h:PK k P C.G n S l.toArray l e l2 e':=by exact CE):p:=h0 (CD.seq (CD.region (h.h.od K)))
theorem dL(k:Nat)(K:OD P C l.toArray l2 ⟨n,e',S⟩ Q)(h0:CD P C (.region id l.toArray false) ⟨n,e,S⟩ Q→p:=by exact nh)(h:PK k P C.G n S l.toArray l e l2 e':=by exact CE):p:=h0 (CD.region (h.h.od K))
theorem xG(k:Nat)(K:OD P C ops l2 ⟨n,e',S⟩ Q)(h:PK k P C.G n S ops l e l2 e':=by repeat (first|exact PK.z|(apply PK.f;(focus exact rfl);(focus exact jw);(focus exact mj rfl rfl rfl lk ji)))):OD P C ops l ⟨n,e,S⟩ Q:=h.h.od K
theorem bf(ts:List Nat)(K:Q .normal ⟨n,l',S⟩)(h:PK k P C.G n S ops l e [] e':=by exact CE)(hr:fC ts e' l':=by exact jw):OD P C ops l ⟨n,e,S⟩ Q:=h.h.od (Wu ts K hr)
theorem cN{d:Code}(ts:List Nat)(h:PE c P C.G n S l.toArray ts l e fun l'=>CD P C d ⟨n,l',S⟩ Q)(h0:CD P C (.seq (.region id l.toArray c) d) ⟨n,e,S⟩ Q→p:=by exact nh)(hm:(!c||P.follows .mixedOrders)=true:=by kernel_rfl)(hp:(!c||mb l.toArray)=true:=by kernel_rfl):p:=by
 obtain⟨e',l',h1,h2,K⟩:=h;exact h0 (CD.seq (CD.pd (by intro hc;subst hc;simpa using hm) (by intro hc;subst hc;simpa using hp) h1 (CD.wk (Wk.j5 h2.j5) K)))
def WC(Q:Exit→St→Prop):Prop:=∀n e l' S,mR e l'→Q .normal ⟨n,l',S⟩→Q .normal ⟨n,e,S⟩
theorem WC.then{d:Code}:WC (BG P C d Q):=fun n e l' S h k=>CD.wk (Wk.j5 h) k
theorem WC.cut{E:St→Prop}:WC (Mf E Q):=fun n e l' S h ⟨z,h1,h2⟩=>⟨z,(Wk.j5 h).trans h1,h2⟩
theorem WC.round{ι:Type}{I:ι→St→Prop}{μ:ι→Nat}{i:ι}:WC (Bj I μ i Q):=fun n e l' S h ⟨j,z,h1,h2,h3⟩=>⟨j,z,h1,(Wk.j5 h).trans h2,h3⟩
theorem WC.inBlock(h:WC Q):WC (AT id Q):=h
theorem WC.body:WC (Body P fn post):=fun n e l' S h ⟨h1,r,S',h2,h3,h4⟩=>⟨h1,r,S',h2,fun C a w hs=>h3 C a w (Wk.j5 h C a w hs),h4⟩
theorem WS(h:WC Q:=by repeat (first|exact WC.then|exact WC.cut|exact WC.round|exact WC.body|apply WC.inBlock)):WC Q:=h
theorem gW(ts:List Nat)(h:PE c P C.G n S l.toArray ts l e fun l'=>Q .normal ⟨n,l',S⟩)(h0:CD P C (.region id l.toArray c) ⟨n,e,S⟩ Q→p:=by exact nh)(hm:(!c||P.follows .mixedOrders)=true:=by kernel_rfl)(hp:(!c||mb l.toArray)=true:=by kernel_rfl)(hQ:WC Q:=by exact WS):p:=by
 obtain⟨e',l',h1,h2,K⟩:=h;exact h0 (CD.pd (by intro hc;subst hc;simpa using hm) (by intro hc;subst hc;simpa using hp) h1 (hQ _ _ _ _ h2.j5 K))
structure PL (k:Nat) (c:Bool) (P:Program) (G:List (Nat×List Value)) (n:Nat) (S:List ag) (ops:Array Oper) (ts:List Nat) (l:List Oper) (e:List (Nat×D)) (l2:List Oper) (e':List (Nat×D)):Prop where
 h:∀R,PE c P G n S ops ts l2 e' R→PE c P G n S ops ts l e R
theorem IN{pd:List D}{len:Nat}(hn:Nat.beq pd.length len=true)(ha:(pd.all fun d=>Nat.beq (cellsOf d).length sz)=true):Nat.beq (pd.flatMap cellsOf).length (len*sz)=true:=by
 have:(pd.flatMap cellsOf).length=pd.length*sz:=by
  clear hn;induction pd with
  | nil=>simp
  | cons a r ih =>
   rw[all_cons,Bool.and_eq_true] at ha;rw[flatMap_cons,length_append,ih ha.2,Nat.eq_of_beq_eq_true ha.1,length_cons,Nat.succ_mul,Nat.add_comm]
 rw[this,Nat.eq_of_beq_eq_true hn];exact Nat.beq_refl _
theorem PL.z:PL 0 c P G n S ops ts l e l e:=⟨fun _ h=>h⟩
theorem PL.s(hd:o.dst=some t)(hr:fC (j6 ops o) e lr)(hw:cc ops ⟨n,lr,S⟩ o true)(h:bV P G ⟨n,lr,S⟩ o kd d)(hq:(!c||mV ops o (j6 ops o))=true)(K:PL k c P G n S ops ts l ((t,d)::e) l2 e'):PL (k+1) c P G n S ops ts (o::l) e l2 e':=⟨fun R h1=>WQ hd hr h (K.h R h1) hq hw⟩
theorem PL.r {len:Nat} {pd:List D} (ho:o.op = .buildSlice t' len ps.toArray) (hd:o.dst=some t) (hr:fC (j6 ops o) e lr) (gM:js ⟨n,lr,S⟩ ps (bZ 0 pd)) (hs:wV P t' sz=true) (hw:cc ops ⟨n,lr,S⟩ o true)
  (hn:Nat.beq pd.length len=true) (hl:Nat.ble 1 (len*sz)=true) (ir:Nat.ble (len*sz) (2 ^ 24)=true) (hj:pd.all kz=true) (ha:(pd.all fun d=>Nat.beq (cellsOf d).length sz)=true) (hq:(!c||mV ops o (j6 ops o))=true) (jm:mc (len*sz) (pd.flatMap cellsOf) ds) (K:PL k c P G n S ops ts l ((t,.list sz ds len)::e) l2 e'):PL (k+1) c P G n S ops ts (o::l) e l2 e' :=
 ⟨fun R h1=>WR (K.h R h1) ho hd hr gM hs hq hw hn hl ir hj ha (jm.whole (IN hn ha))⟩
theorem zh(h:PL k c P G n S ops ts l e l2 e':=by repeat (first|exact PL.z|(apply PL.s;(focus exact rfl);(focus exact jw);(focus exact oO);(focus exact MB);(focus kernel_rfl))|(apply PL.f;(focus exact rfl);(focus exact jw);(focus exact Mz);(focus kernel_rfl))|(apply PL.r;(focus exact rfl);(focus exact rfl);(focus exact jw);(focus exact Gu);(focus exact sO.h);(focus exact oO);(iterate 5 (focus exact rfl));(focus kernel_rfl);(focus exact mS)))):PL k c P G n S ops ts l e l2 e':=h
theorem ni(k:Nat)(K:PE c P G n S ops ts l2 e' R)(h:PL k c P G n S ops ts l e l2 e':=by exact zh):PE c P G n S ops ts l e R:=h.h R K
theorem aQ(k:Nat)(K:PE c P G n S ops ts l2 ((t,d)::e') R)(h1:PL k c P G n S ops ts l e (o::l2) e':=by exact zh)(hd:o.dst=some t:=by exact rfl)(hr:fC (j6 ops o) e' lr:=by exact jw)(h:bV P G ⟨n,lr,S⟩ o kd d)(hq:(!c||mV ops o (j6 ops o))=true:=by kernel_rfl)(hw:cc ops ⟨n,lr,S⟩ o true:=by exact oO):PE c P G n S ops ts l e R:=h1.h R (WQ hd hr h K hq hw)
theorem WT(h:PL k c P G n S ops ts l e l2 e':=by (repeat (first|(apply PL.s;(focus exact rfl);(focus exact jw);(focus exact oO);(focus exact MB);(focus kernel_rfl))|(apply PL.f;(focus exact rfl);(focus exact jw);(focus exact Mz);(focus kernel_rfl))|(apply PL.r;(focus exact rfl);(focus exact rfl);(focus exact jw);(focus exact Gu);(focus exact sO.h);(focus exact oO);(iterate 5 (focus exact rfl));(focus kernel_rfl);(focus exact mS))|fail));exact PL.z):PL k c P G n S ops ts l e l2 e':=h
theorem cU {f:Nat} {args:List D} {r:D} (hc:VP P G f args r) (K:PE c P G n S ops ts l2 ((t,r)::e') R) (h1:PL k c P G n S ops ts l e (o::l2) e':=by exact WT) (ho:o.op = .call {callee:=.value fo,args:=cW,argTypes:=tt}:=by exact rfl)
  (hd:o.dst=some t:=by exact rfl) (hr:fC (j6 ops o) e' lr:=by exact jw) (hq:(!c||mV ops o (j6 ops o))=true:=by kernel_rfl) (hw:cc ops ⟨n,lr,S⟩ o true:=by exact oO) (hf:fo = .func f:=by exact rfl) (fi:wU P f=true:=by kernel_rfl) (ha:mA ⟨n,lr,S⟩ cW.toList args:=by exact CA):PE c P G n S ops ts l e R:=h1.h R (pc_ hc K ho hd hr hq hw hf fi ha)
theorem bH(K:R l')(h:PL k c P G n S ops ts l e [] e':=by exact zh)(hr:fC ts e' l':=by exact jw):PE c P G n S ops ts l e R:=h.h R (jR K hr)
theorem ae{d:Code}(ts:List Nat)(K:CD P C d ⟨n,l',S⟩ Q)(h0:CD P C (.seq (.region id l.toArray c) d) ⟨n,e,S⟩ Q→p:=by exact nh)(h:PL k c P C.G n S l.toArray ts l e [] e':=by exact zh)(hr:fC ts e' l':=by exact jw)(hm:(!c||P.follows .mixedOrders)=true:=by kernel_rfl)(hp:(!c||mb l.toArray)=true:=by kernel_rfl):p:=cN ts (h.h _ (jR K hr)) h0 hm hp
theorem cL {k2 f:Nat} {d':Code} {args:List D} {r:D} {e2:List (Nat×D)} (ts:List Nat) (hc:VP P G f args r) (K:CD P C d' ⟨n,l',S⟩ Q) (h0:CD P C (.seq (.region id l.toArray c) d') ⟨n,e,S⟩ Q→p:=by exact nh) (hG:C.G=G:=by exact rfl) (h1:PL k c P G n S l.toArray ts l e (o::l2) e':=by exact WT) (ho:o.op = .call {callee:=.value fo,args:=cW,argTypes:=tt}:=by exact rfl)
  (hd:o.dst=some t:=by exact rfl) (hr:fC (j6 l.toArray o) e' lr:=by exact jw) (hq:(!c||mV l.toArray o (j6 l.toArray o))=true:=by kernel_rfl) (hw:cc l.toArray ⟨n,lr,S⟩ o true:=by exact oO) (hf:fo = .func f:=by exact rfl) (fi:wU P f=true:=by kernel_rfl) (ha:mA ⟨n,lr,S⟩ cW.toList args:=by exact CA)
  (h2:PL k2 c P G n S l.toArray ts l2 ((t,r)::e') [] e2:=by exact zh) (hs:fC ts e2 l':=by exact jw) (hm:(!c||P.follows .mixedOrders)=true:=by kernel_rfl) (hp:(!c||mb l.toArray)=true:=by kernel_rfl):p:=by
 subst hG;exact cN ts (cU hc (bH K h2 hs) h1 ho hd hr hq hw hf fi ha) h0 hm hp
theorem cj(ts:List Nat)(K:Q .normal ⟨n,l',S⟩)(h0:CD P C (.region id l.toArray c) ⟨n,e,S⟩ Q→p:=by exact nh)(h:PL k c P C.G n S l.toArray ts l e [] e':=by exact zh)(hr:fC ts e' l':=by exact jw)(hm:(!c||P.follows .mixedOrders)=true:=by kernel_rfl)(hp:(!c||mb l.toArray)=true:=by kernel_rfl)(hQ:WC Q:=by exact WS):p:=gW ts (h.h _ (jR K hr)) h0 hm hp hQ
/-! ### What a condition says -/
inductive BP:Bool→Prop→Prop→Prop
 | lt {a b:Int}:BP (decide (a<b)) (a<b) (b≤a)
 | le {a b:Int}:BP (decide (a≤b)) (a≤b) (b<a)
 | gt {a b:Int}:BP (decide (a>b)) (a>b) (a≤b)
 | ge {a b:Int}:BP (decide (a≥b)) (a≥b) (a<b)
 | eq {a b:Int}:BP (a==b) (a=b) (¬a=b)
 | ne {a b:Int}:BP (a != b) (¬a=b) (a=b)
 | beq {a b:Bool}:BP (a==b) (a=b) (¬a=b)
 | bne {a b:Bool}:BP (a != b) (¬a=b) (a=b)
 | dec {p:Prop} [Decidable p]:BP (decide p) p (¬p)
 | nn {b:Bool} {p q:Prop} (h:BP b p q):BP (!!b) p q
 | no {b:Bool} {p q:Prop} (h:BP b p q):BP (!b) q p
 | any {b:Bool}:BP b (b=true) (b=false)
theorem BP.ok(h:BP b p q):(b=true→p)∧(b=false→q):=by
 induction h with
 | lt=>exact⟨of_decide_eq_true,fun h=>Int.not_lt.1 (of_decide_eq_false h)⟩
 | le=>exact⟨of_decide_eq_true,fun h=>Int.not_le.1 (of_decide_eq_false h)⟩
 | gt=>exact⟨of_decide_eq_true,fun h=>Int.not_lt.1 (of_decide_eq_false h)⟩
 | ge=>exact⟨of_decide_eq_true,fun h=>Int.not_le.1 (of_decide_eq_false h)⟩
 | eq=>exact⟨by simp,by simp⟩
 | ne=>exact⟨by simp,by simp⟩
 | beq=>exact⟨by simp,by simp⟩
 | bne=>exact⟨by simp,by simp⟩
 | dec=>exact⟨of_decide_eq_true,of_decide_eq_false⟩
 | nn h ih=>exact⟨fun e=>ih.1 (by simpa using e),fun e=>ih.2 (by simpa using e)⟩
 | no h ih=>exact⟨fun e=>ih.2 (by simpa using e),fun e=>ih.1 (by simpa using e)⟩
 | any=>exact⟨id,id⟩
theorem WU(h:BP b p q:=by first|exact .lt|exact .le|exact .eq|exact .ne|exact .gt|exact .ge|exact .beq|exact .bne|exact .dec|(apply BP.nn;focus (first|exact .lt|exact .le|exact .eq|exact .ne|exact .gt|exact .ge|exact .dec|exact .any))|(apply BP.no;focus (first|exact .lt|exact .le|exact .eq|exact .ne|exact .gt|exact .ge|exact .dec|exact .any))|exact .any):BP b p q:=h
theorem aq{z:Operand}{d1 d2:Code}{r:Prop}(ht:b=true→p→CD P C d1 x Q)(hf:b=false→q→CD P C d2 x Q)(h0:CD P C (.cond z d1 d2) x Q→r:=by exact nh)(hc:aF x z = .v (.bool b):=by exact ot)(h:BP b p q:=by exact WU):r:=h0 (CD.cond hc (fun e=>ht e (h.ok.1 e)) (fun e=>hf e (h.ok.2 e)))
theorem bS(t:Nat)(h1:b=true→p→OD P C ops l x Q)(h2:b=false→q→OD P C ops l x Q)(hb:look t x.env = .v (.bool b):=by exact lk)(h:BP b p q:=by exact WU):OD P C ops l x Q:=OD.split hb (fun e=>h1 e (h.ok.1 e)) (fun e=>h2 e (h.ok.2 e))
/-! ### A state as it is to be written from here on -/
inductive NS:List ag→List ag→Prop
 | r {S:List ag}:NS S S
 | c {b e sz:Nat} {cs cs':List D} {S S':List ag} (hl:Nat.beq cs.length sz=true) (h:mc sz cs cs') (k:NS S S'):NS (⟨b,e,sz,cs⟩::S) (⟨b,e,sz,cs'⟩::S')
 | k {B:ag} {S S':List ag} (k:NS S S'):NS (B::S) (B::S')
theorem NS.eq{S:List ag}(h:NS S S'):S=S':=by
 induction h with
 | r=>rfl
 | c hl h k ih=>rw[h.whole hl,ih]
 | k k ih=>rw[ih]
theorem ns_{S:List ag}(h:NS S S':=by repeat (first|(apply NS.c;(focus exact rfl);(focus exact mS))|apply NS.k|exact NS.r)):NS S S':=h
theorem aj(m:Nat)(ts:List Nat)(K:Q .normal ⟨m,l',S'⟩)(h:PK k P C.G n S ops l e [] e':=by exact CE)(hr:fC ts e' l':=by exact jw)(hS:NS S S':=by exact ns_)(hn:n=m:=by exact rfl):OD P C ops l ⟨n,e,S⟩ Q:=h.h.od (OD.wk (Wk.dN hn hS.eq hr.j5) (OD.nil K))
theorem WV{α:Type}{a b:List α}(h:a.Sublist b:=by repeat (first|exact Sublist.refl _|exact nil_sublist _|apply Sublist.cons_cons|apply Sublist.cons)):a.Sublist b:=h
theorem ahw{l:List (Nat×D)}(h:look t l=d:=by (repeat (first|exact fw|(apply fP;focus (first|rfl|(simp;done)|(congr 2;omega)|(apply eE;first|rfl|assumption|(simp;done))))|(apply fA;focus rfl)));first|done|fail):look t l=d:=h
theorem ahx{l':List (Nat×D)}(h:mR e l':=by repeat (first|exact trivial|refine⟨ahw,?_⟩)):mR e l':=h
theorem aM{x:St}{n:Nat}(hn:x.n=n:=by exact rfl)(hS:S'.Sublist x.S:=by exact WV)(h:mR x.env l':=by exact ahx):Wk x ⟨n,l',S'⟩:=Wk.asS hn hS h
theorem cx{a b:Nat}(h:a<b:=by first|omega|(simp only[];omega)|(simp;omega)):a<b:=h
theorem eB{c:Code}{ι:Type}{y:St}(ts:List Nat)(I:List (Nat×D)→List ag→ι→St→Prop)(μ:ι→Nat)(i:ι)(h0:I l' S i y)(round:∀i y,I l' S i y→CD P C c y (Bj (I l' S) μ i Q))(hp:CD P C (.loop c) ⟨n,e,S⟩ Q→p:=by exact nh)(hr:fC ts e l':=by exact jw)(hw:Wk ⟨n,e,S⟩ y:=by exact aM):p:=hp (CD.wk hw (CD.loop (I l' S) μ i h0 round))
theorem jJ{c d:Code}(ts:List Nat)(I:List (Nat×D)→List ag→St→Prop)(h1:CD P C c ⟨n,e,S⟩ (Mf (I l' S) Q))(h2:∀y,I l' S y→CD P C d y Q)(hr:fC ts e l':=by exact jw):CD P C (.seq c d) ⟨n,e,S⟩ Q:=CD.cut (I l' S) h1 h2
/-! ### What is handed back -/
theorem Af{y:St}{rv:ResultVar}{d:D}(h:sK P y rv d:=by first|exact yz aO lk|exact rK (k:=0) aO lk rfl rfl (iA ay) (lu Sz.h) rfl rfl|exact rK (k:=1) aO lk rfl rfl (iA ay) (lu Sz.h) rfl rfl|exact rK (k:=2) aO lk rfl rfl (iA ay) (lu Sz.h) rfl rfl|exact rK (k:=3) aO lk rfl rfl (iA ay) (lu Sz.h) rfl rfl|exact rK (k:=4) aO lk rfl rfl (iA ay) (lu Sz.h) rfl rfl|exact rK (k:=5) aO lk rfl rfl (iA ay) (lu Sz.h) rfl rfl|exact rK (k:=6) aO lk rfl rfl (iA ay) (lu Sz.h) rfl rfl|exact rK (k:=7) aO lk rfl rfl (iA ay) (lu Sz.h) rfl rfl|exact rK (k:=8) aO lk rfl rfl (iA ay) (lu Sz.h) rfl rfl|exact rK (k:=9) aO lk rfl rfl (iA ay) (lu Sz.h) rfl rfl|exact sY (k:=0) aO lk rfl rfl (iA ay) rfl|exact sY (k:=1) aO lk rfl rfl (iA ay) rfl|exact sY (k:=2) aO lk rfl rfl (iA ay) rfl|exact sY (k:=3) aO lk rfl rfl (iA ay) rfl|exact sY (k:=4) aO lk rfl rfl (iA ay) rfl|exact sY (k:=5) aO lk rfl rfl (iA ay) rfl|exact sY (k:=6) aO lk rfl rfl (iA ay) rfl|exact sY (k:=7) aO lk rfl rfl (iA ay) rfl|exact sY (k:=8) aO lk rfl rfl (iA ay) rfl|exact sY (k:=9) aO lk rfl rfl (iA ay) rfl|fail):sK P y rv d:=h
theorem rv_{y:St}{r:D}(h:sL P fn y r:=by first|exact pT rfl|exact Rf rfl Af|exact IG rfl Af Af|exact ZA rfl Af Af Af|fail):sL P fn y r:=h
theorem aJ{ex:Exit}{x:St}{r:D}(S':List ag)(hp:post r S')(h0:Body P fn post ex x→p:=by exact nh)(he:ex = .normal∨ex = .ret:=by first|exact .inr rfl|exact .inl rfl)(hS:S'.Sublist x.S:=by exact WV)(hr:sL P fn x r:=by exact rv_):p:=h0 ⟨he,r,S',hS,hr,hp⟩

end Go.Proofs.YtbcmjoaggammcaaGreatDoor.V
namespace Go.Proofs.YtbcmjoaggammcaaGreatDoor.V
open List
open Go.RowKit
variable {P:Program} {C:dF} {G:List (Nat×List Value)} {Q:Exit→St→Prop} {ops:Array Oper} {l l2:List Oper} {o:Oper} {n t:Nat} {d:D} {e e' l':List (Nat×D)} {S S':List ag} {ts:List Nat} {c:Bool} {x:St}
variable {a:Act} {R':Exit→Act→World→Prop} {m id ta:Nat} {ld:Array Bool} {B:List ag} {te:TypeId} {S1:List Nat} {oa:Oper} {zs:List Value}
theorem abe{w:World}{K E:Act→World→Prop}{R:Exit→Act→World→Prop}(h:o.wp P a w K R)(hK:∀a w,K a w→E a w)(hp:∀I a w,R (.panic I) a w→R' (.panic I) a w)(ho:∀a w,R .outgrown a w→R' .outgrown a w):o.wp P a w E R':=by
 unfold Oper.wp at *;generalize (execOp a.eval o).run P w=r at *;cases r with
 | ok z w' =>
  cases z<;>simp only[Oper.upon] at h ⊢ <;>
   first
    | exact hK _ _ h
    | exact Calls.mono h (fun e O he=>by cases e<;>first|exact hK _ _ he|exact hp _ _ _ he|exact(let ⟨a,w,q⟩:=he;⟨a,w,ho a w q⟩))
    | exact Rows.mono h (fun _ _ he=>hK _ _ he)
 | halt z w'=>cases z<;>simp only[Oper.upon] at h ⊢<;>first|exact hp _ _ _ h|exact h
def Ff(o:Oper):Bool:=match o.op with
 | .extract _ _=>o.guard.isNone
 | .move _=>o.guard.isNone
 | _=>false
def yZ(ops:Array Oper)(j:Nat)(o:Oper):Bool:=Ff o&&(range ops.size).all fun k=>Nat.beq k j||(match ops[k]? with
   | some p=>p.after.any (fun e=>Region.binds .any e&&Nat.beq e.on j)||o.after.any (fun e=>Region.binds .any e&&Nat.beq e.on k)||o.apart ops p
   | none=>true)
def CF(o:Oper):List Nat:=o.after.toList.filterMap fun e=>bif Region.binds .any e then some e.on else none
def BM(ops:Array Oper):Nat→List Nat→List Nat
 | 0,s=>s
 | i+1,s=>BM ops i (bif s.elem i then (match ops[i]? with|some o=>CF o|none=>[])++s else s)
theorem Ru{o:Oper}{k:Nat}(h:k∈CF o):∃e∈o.after,Region.binds .any e=true∧e.on=k:=by
 obtain⟨e,he,hk⟩:=mem_filterMap.1 h;cases hb:Region.binds .any e with
 | true=>rw[hb] at hk;exact⟨e,Array.mem_def.2 he,hb,Option.some.inj hk⟩
 | false=>rw[hb] at hk;cases hk
theorem Ox{D:Nat→Prop}(E:∀k o,ops[k]?=some o→D k→∀e∈o.after,Region.binds .any e=true→D e.on):∀(i:Nat) (s:List Nat),(∀k∈s,D k)→∀k∈BM ops i s,D k
 | 0,s,h=>h
 | i+1,s,h=>by
  unfold BM;refine Ox E i _ fun k hk=>?_;cases he:s.elem i with
  | false=>rw[he] at hk;exact h k hk
  | true =>
   rw[he,cond_true] at hk;rcases mem_append.1 hk with hk|hk
   ·cases ho:ops[i]? with
    | none=>rw[ho] at hk;cases hk
    | some o =>
     rw[ho] at hk;obtain⟨e,h1,h2,h3⟩:=Ru hk;rw[←h3];exact E i o ho (h i (elem_iff.1 he)) e h1 h2
   exact h k hk
def qd(m:Nat)(ops:Array Oper):Bool:=(range ops.size).all fun j=>match ops[j]? with
 | some o=>o.after.all (fun e=>!Region.binds .any e||Nat.blt e.on j) &&
  (bif Nat.blt j m then (match o.guard with|some (g,_)=>Nat.blt g m|none=>true)
  else bif Nat.beq j m then (range m).all (fun k=>(BM ops m (CF o)).elem k||(match ops[k]? with|some p=>yZ ops k p|none=>false)) else o.after.any (fun e=>Region.binds .any e&&Nat.beq e.on (j-1)))
 | none=>true
theorem Jw{o:Oper}{k:Nat}(h:o.after.any (fun e=>Region.binds .any e&&Nat.beq e.on k)=true):∃e∈o.after,Region.binds .any e=true∧e.on=k:=by
 obtain⟨e,he,hb⟩:=Array.any_eq_true'.1 h;rw[Bool.and_eq_true] at hb;exact⟨e,he,hb.1,Nat.eq_of_beq_eq_true hb.2⟩
theorem sZ(h:qd m ops=true){j:Nat}{o:Oper}(hj:ops[j]?=some o):(∀e∈o.after,Region.binds .any e=true→e.on<j)∧(j<m→∀g b,o.guard=some (g,b)→g<m) ∧
  (m≤j→(j=m∧∀k,k<m→k∈BM ops m (CF o)∨(∃p,ops[k]?=some p∧yZ ops k p=true))∨(m<j∧∃e∈o.after,Region.binds .any e=true∧e.on=j-1)) ∧
  (yZ ops j o=true→∀k p,ops[k]?=some p→k≠j→(∃e∈p.after,Region.binds .any e=true∧e.on=j)∨(∃e∈o.after,Region.binds .any e=true∧e.on=k)∨o.apart ops p=true):=by
 have aa:=(Array.getElem?_eq_some_iff.1 hj).1;have:=all_eq_true.1 h j (mem_range.2 aa);simp only[hj,Bool.and_eq_true] at this;obtain⟨h1,h2⟩:=this;have eT:j<m→(match o.guard with|some (g,_)=>Nat.blt g m|none=>true)=true:=fun hm=>by
  have I:Nat.blt j m=true:=Nat.ble_eq_true_of_le hm;rw[I,cond_true] at h2;exact h2
 refine⟨fun e he hb=>?_,fun hm g b hg=>?_,fun hm=>?_,fun hf k p hp O=>?_⟩
 ·have:=Array.all_eq_true'.1 h1 e he;simp only[hb,Bool.not_true,Bool.false_or] at this;exact Nat.le_of_ble_eq_true this
 ·have h3:=eT hm;rw[hg] at h3;exact Nat.le_of_ble_eq_true h3
 ·have I:Nat.blt j m=false:=by
   cases hq:Nat.blt j m with
   | false=>rfl
   | true=>have:=Nat.le_of_ble_eq_true hq;omega
  rw[I,cond_false] at h2;cases E:Nat.beq j m with
  | false =>
   rw[E,cond_false] at h2;refine .inr ⟨?_,Jw h2⟩;rcases Nat.lt_or_eq_of_le hm with h|h
   ·exact h
   rw[←h,Nat.beq_refl] at E;cases E
  | true =>
   rw[E,cond_true] at h2;refine .inl ⟨Nat.eq_of_beq_eq_true E,fun k hk=>?_⟩;have:=all_eq_true.1 h2 k (mem_range.2 hk);rw[Bool.or_eq_true] at this;rcases this with h3|h3
   ·exact .inl (elem_iff.1 h3)
   refine .inr ?_;cases qs:ops[k]? with
   | none=>rw[qs] at h3;cases h3
   | some p=>rw[qs] at h3;exact⟨p,rfl,h3⟩
 have h3:=hf;unfold yZ at h3;rw[Bool.and_eq_true] at h3;have:=all_eq_true.1 h3.2 k (mem_range.2 (Array.getElem?_eq_some_iff.1 hp).1);have hb:Nat.beq k j=false:=by
  cases hq:Nat.beq k j with
  | false=>rfl
  | true=>exact absurd (Nat.eq_of_beq_eq_true hq) O
 simp only[hb,hp,Bool.false_or,Bool.or_eq_true] at this;rcases this with (h4|h4)|h4
 ·exact .inl (Jw h4)
 ·exact .inr (.inl (Jw h4))
 exact .inr (.inr h4)
theorem abf{R:Exit→Act→World→Prop}(hq:qd m ops=true):∀(k s fuel:Nat) (ld:Array Bool) (a:Act) (w:World),m≤s→s+k=ops.size→k≤fuel→ld.size=ops.size→(∀j,j<s→ld.getD j true=true)→(∀j,s≤j→j<ops.size→ld.getD j true=false)→wpOps P ops R (range' s k) a w→wpAny P .any ops R fuel ld a w:=by
 intro k;induction k with
 | zero =>
  intro s fuel ld a w hs hk hf I h1 h2 h;have hr:Region.ready .any ops ld=[]:=by
   rw[eq_nil_iff_forall_not_mem];intro j hj;obtain⟨q1,o,q2,_⟩:=mem_ready.1 hj;have aa:=(Array.getElem?_eq_some_iff.1 q2).1;rw[h1 j w4] at q1;cases q1
  have hn:R .normal a w:=h;cases fuel with
  | zero=>exact⟨hr,hn⟩
  | succ f=>exact⟨fun _=>hn,by rw[hr];simp⟩
 | succ k ih =>
  intro s fuel ld a w hs hk hf I h1 h2 h;obtain⟨f,rfl⟩:∃f,fuel=f+1:=⟨fuel-1,by omega⟩
  have U:∀e,e<s→ld.getD e false=true:=fun e he=>by
   have:=h1 e he;rw[Array.getD_eq_getD_getElem?] at this ⊢;rw[Array.getElem?_eq_getElem w4] at this ⊢;exact this
  have O:s∈Region.ready .any ops ld:=mem_ready.2 ⟨h2 s (Nat.le_refl _) w4,ops[s]'w4,Array.getElem?_eq_getElem w4,fun e he hb=>U _ ((sZ hq (Array.getElem?_eq_getElem w4)).1 e he hb)⟩;refine⟨fun h0=>(by rw[h0] at O;cases O),fun i hi=>?_⟩;obtain⟨q1,o,q2,q3⟩:=mem_ready.1 hi;have fp:=(Array.getElem?_eq_some_iff.1 q2).1;have Z:i=s:=by
   rcases Nat.lt_trichotomy i s with q|q|q
   ·rw[h1 i q] at q1;cases q1
   ·exact q
   rcases(sZ hq q2).2.2.1 w4 with h9|⟨_,e,he,hb,jy⟩
   ·omega
   have h5:=q3 e he hb;rw[jy] at h5;have h6:=h2 (i-1) w4 w4;rw[Array.getD_eq_getD_getElem?,Array.getElem?_eq_getElem w4] at h5 h6;simp only[Option.getD_some] at h5 h6;rw[h5] at h6;cases h6
  subst Z;rw[range'_succ,wpOps_cons] at h;have E:∀j,(ld.setIfInBounds i true).getD j true=if j=i then true else ld.getD j true:=fun j=>by
   by_cases hj:j=i
   ·subst hj;simp[Array.getD_eq_getD_getElem?,Array.getElem?_setIfInBounds,I,fp]
   simp[Array.getD_eq_getD_getElem?,Array.getElem?_setIfInBounds,hj,Ne.symm hj]
  refine wpOp_mono (fun a' w' h'=>ih (i+1) f _ a' w' w4 w4 w4 (by simpa using I) (fun j hj=>?_) (fun j hj iM=>?_) h') h
  ·rw[E];split
   ·rfl
   exact h1 j w4
  rw[E,if_neg w4];exact h2 j w4 iM
theorem abg{R:Exit→Act→World→Prop}(hq:qd m ops=true)(hm:m≤ops.size)(hn:∀a w,R' .normal a w→wpOps P ops R (range' m (ops.size-m)) a w)(hp:∀ch a w,R' (.panic ch) a w→R (.panic ch) a w)(ho:∀a w,R' .outgrown a w→R .outgrown a w)(me:Region.noSelect ops=true)(hQ:∀(d:Option Nat) v c a w,R (.panic c) (a.put d v) w→R (.panic c) a w) :
  ∀(fuel:Nat) (ld:Array Bool) (a:Act) (w:World),ld.size=m→(∀k o,ops[k]?=some o→ld.getD k false=true→∀e∈o.after,Region.binds .any e=true→ld.getD e.on false=true)→wpAny P .any (ops.toList.take m).toArray R' fuel ld a w→wpAny P .any ops R (fuel+(ops.size-m)) (ld++Array.replicate (ops.size-m) false) a w:=by
 have E:∀i,i<m→(ops.toList.take m).toArray[i]?=ops[i]?:=fun i hi=>by simp[getElem?_take,hi]
 have WW:(ops.toList.take m).toArray.size=m:=(by simp;omega)
 -- what may ahy up among the first anO
 have O:∀(ld:Array Bool) (b:Bool),ld.size=m→∀j,j<m→(ld++Array.replicate (ops.size-m) false).getD j b=ld.getD j b:=fun ld b hs j hj=>by
  rw[Array.getD_eq_getD_getElem?,Array.getD_eq_getD_getElem?,Array.getElem?_append_left w4]
 have UW:∀(ld:Array Bool) (b:Bool),ld.size=m→∀j,m≤j→j<ops.size→(ld++Array.replicate (ops.size-m) false).getD j b=false:=fun ld b hs j hj iM=>by
  rw[Array.getD_eq_getD_getElem?,Array.getElem?_append_right w4,hs];simp[Array.getElem?_replicate,show j-m<ops.size-m by omega]
 have Ag:∀(ld:Array Bool),ld.size=m→∀i,i<m→(i∈Region.ready .any ops (ld++Array.replicate (ops.size-m) false)↔i∈Region.ready .any (ops.toList.take m).toArray ld):=fun ld hs i hi=>by
  rw[mem_ready,mem_ready,E i hi,O ld true hs i hi];constructor
  ·rintro⟨q1,o,q2,q3⟩;exact⟨q1,o,q2,fun e he hb=>by have:=q3 e he hb;rwa [O ld false hs _ (Nat.lt_trans ((sZ hq q2).1 e he hb) hi)] at this⟩
  rintro⟨q1,o,q2,q3⟩;exact⟨q1,o,q2,fun e he hb=>by rw[O ld false hs _ (Nat.lt_trans ((sZ hq q2).1 e he hb) hi)];exact q3 e he hb⟩
 -- amv may ahy up: all have
 have fa:∀(ld:Array Bool),ld.size=m→Region.ready .any (ops.toList.take m).toArray ld=[]→∀j,j<m→ld.getD j true=true:=fun ld hs hr j=>by
  induction j using Nat.strongRecOn with
  | _ j ih =>
   intro hj;cases hl:ld.getD j true with
   | true=>rfl
   | false =>
    have sM:ops[j]?=some (ops[j]'w4):=Array.getElem?_eq_getElem w4;have:j∈Region.ready .any (ops.toList.take m).toArray ld:=mem_ready.2 ⟨hl,ops[j]'w4,by rw[E j hj];exact sM,fun e he hb=>by
     have aa:=(sZ hq sM).1 e he hb;have:=ih e.on aa w4;rw[Array.getD_eq_getD_getElem?] at this ⊢;rw[Array.getElem?_eq_getElem w4] at this ⊢;exact this⟩
    rw[hr] at this;cases this
 have mW:∀(fuel:Nat) (ld:Array Bool) (a:Act) (w:World),ld.size=m→ops.size-m≤fuel→Region.ready .any (ops.toList.take m).toArray ld=[]→R' .normal a w→wpAny P .any ops R fuel (ld++Array.replicate (ops.size-m) false) a w:=fun fuel ld a w hs hf hr h =>
  abf hq (ops.size-m) m fuel _ a w (Nat.le_refl _) w4 hf gU (fun j hj=>by rw[O ld true hs j hj];exact fa ld hs hr j hj) (fun j hj iM=>UW ld true hs j hj iM) (hn a w h)
 intro fuel;induction fuel with
 | zero=>intro ld a w hs _ h;rw[Nat.zero_add];exact mW _ ld a w hs (Nat.le_refl _) h.1 h.2
 | succ fuel ih =>
  intro ld a w hs kP h;obtain⟨h1,h2⟩:=h;have zc:∀i,i∈Region.ready .any (ops.toList.take m).toArray ld→∀k o,ops[k]?=some o→(ld.setIfInBounds i true).getD k false=true→∀e∈o.after,Region.binds .any e=true→(ld.setIfInBounds i true).getD e.on false=true:=fun i hi k o hk hd e he hb=>by
   have Fg:∀j,ld.getD j false=true→(ld.setIfInBounds i true).getD j false=true:=fun j hj=>by
    rw[Array.getD_eq_getD_getElem?] at hj ⊢;rw[Array.getElem?_setIfInBounds];split
    ·split
     ·rfl
     rename_i h1 h2;subst h1;rw[Array.getElem?_eq_none w4] at hj;cases hj
    exact hj
   refine Fg _ ?_;by_cases WX:i=k
   ·subst WX;obtain⟨q1,o',q2,q3⟩:=mem_ready.1 hi;have I:i<m:=(by have:=(Array.getElem?_eq_some_iff.1 q2).1;omega)
    rw[E i I,hk] at q2;obtain rfl:=Option.some.inj q2;exact q3 e he hb
   refine kP k o hk ?_ e he hb;rw[Array.getD_eq_getD_getElem?,Array.getElem?_setIfInBounds,if_neg WX] at hd;rw[Array.getD_eq_getD_getElem?];exact hd
  by_cases hr:Region.ready .any (ops.toList.take m).toArray ld=[]
  ·exact mW _ ld a w hs w4 hr (h1 hr)
  rw[show fuel+1+(ops.size-m)=(fuel+(ops.size-m))+1 by omega];have rZ:∀i,i<m→(ld++Array.replicate (ops.size-m) false).setIfInBounds i true=ld.setIfInBounds i true++Array.replicate (ops.size-m) false:=fun i I=>by
   rw[Array.setIfInBounds_append_left w4]
  by_cases jn:∃f o,f∈Region.ready .any (ops.toList.take m).toArray ld∧ops[f]?=some o∧yZ ops f o=true
  ·
   obtain⟨f,o,hf,vA,Z⟩:=jn;have U:Ff o=true:=(by unfold yZ at Z;rw[Bool.and_eq_true] at Z;exact Z.1)
   have Gw:f<m:=by
    obtain⟨_,o',q2,_⟩:=mem_ready.1 hf;have:=(Array.getElem?_eq_some_iff.1 q2).1;omega
   have h3:=h2 f hf;unfold wpOp at h3;rw[E f Gw,vA] at h3;have hg:o.guard=none:=by
    unfold Ff at U;split at U
    ·exact Option.isNone_iff_eq_none.1 U
    ·exact Option.isNone_iff_eq_none.1 U
    cases U
   have Ch:∀(WY:Array Oper),Region.wanted o (yielded WY a.tmps)=true:=fun WY=>by simp[Region.wanted,hg]
   simp only[Ch,if_true] at h3;obtain⟨v,hy,h4⟩:∃v,(∀w',(execOp a.eval o).run P w' = .ok (.value v) w')∧wpAny P .any (ops.toList.take m).toArray R' fuel (ld.setIfInBounds f true) (a.put o.dst v) w:=by
    have hc:(∃v,execOp a.eval o=Sem.pure (.value v))∨∃s,execOp a.eval o=Sem.halt (.stuck s):=by
     unfold Ff at U;split at U
     ·rename_i y i Ah;unfold execOp;rw[Ah];show(∃v,(Instr.extract (a.eval y) i).bind _=_)∨∃s,(Instr.extract (a.eval y) i).bind _=_;unfold Instr.extract;split
      ·split
       ·exact .inl ⟨_,rfl⟩
       exact .inr ⟨_,rfl⟩
      exact .inr ⟨_,rfl⟩
     ·rename_i y Ah;unfold execOp;rw[Ah];exact .inl ⟨_,rfl⟩
     cases U
    have vB:¬o.asks P a w:=fun ha=>by
     unfold Oper.asks at ha;rcases hc with ⟨v,e⟩|⟨s,e⟩<;>rw[e] at ha<;>simp[Sem.runT] at ha
    rcases h3 with h3|⟨h3,_⟩
    rotate_left
    ·exact absurd h3 vB
    unfold Oper.wp at h3;rcases hc with ⟨v,e⟩|⟨s,e⟩
    ·refine⟨v,fun w'=>by rw[e];rfl,?_⟩;rw[e] at h3;exact h3
    rw[e] at h3;exact h3.elim
   refine wpAny_first (v:=v) vA (Region.noSelect_spec me) (hQ _ _) _ _ a w (fun j oj xO hji kQ zW=>?_) ((Ag ld hs f Gw).2 hf) (.inl ⟨Ch _,hy⟩) ?_
   ·rcases(sZ hq vA).2.2.2 Z j oj xO hji with ⟨e,he,hb,jy⟩|⟨e,he,hb,jy⟩|h5
    ·exact absurd jy (zW e he hb)
    ·obtain⟨_,o',p1,p2⟩:=mem_ready.1 ((Ag ld hs f Gw).2 hf);rw[vA] at p1;obtain rfl:=Option.some.inj p1;have h6:=p2 e he hb;rw[jy] at h6;rw[Array.getD_eq_getD_getElem?] at h6 kQ;cases hx:(ld++Array.replicate (ops.size-m) false)[j]? with
     | none=>rw[hx] at h6;cases h6
     | some b=>rw[hx] at h6 kQ;simp only[Option.getD_some] at h6 kQ;rw[h6] at kQ;cases kQ
    exact h5
   rw[rZ f Gw];exact ih _ _ _ (by simpa using hs) (zc f hf) h4
  have KI:∀i,i∈Region.ready .any ops (ld++Array.replicate (ops.size-m) false)→i<m:=fun i hi=>by
   rcases Nat.lt_or_ge i m with q|q
   ·exact q
   obtain⟨q1,o,q2,q3⟩:=mem_ready.1 hi;refine absurd ?_ hr;rw[eq_nil_iff_forall_not_mem];intro j hj;obtain⟨p1,o',p2,_⟩:=mem_ready.1 hj;have MC:j<m:=(by have:=(Array.getElem?_eq_some_iff.1 p2).1;omega)
   have anP:=(Array.getElem?_eq_some_iff.1 q2).1;rcases(sZ hq q2).2.2.1 q with ⟨rfl,hw⟩|⟨aa,e,he,hb,jy⟩
   ·rcases hw j MC with hw|⟨p,h8,h9⟩
    ·have hd:=Ox (ops:=ops) (D:=fun k=>ld.getD k false=true) kP i (CF o) (fun k hk=>by
      obtain⟨e,he,hb,jy⟩:=Ru hk;have h5:=q3 e he hb;have h6:=(sZ hq q2).1 e he hb;rw[O ld false hs _ h6,jy] at h5;exact h5) j hw
     rw[Array.getD_eq_getD_getElem?,Array.getElem?_eq_getElem w4] at hd p1;simp only[Option.getD_some] at hd p1;rw[hd] at p1;cases p1
    exact jn ⟨j,p,hj,h8,h9⟩
   have h5:=q3 e he hb;rw[jy,UW ld false hs (i-1) w4 w4] at h5;cases h5
  refine⟨fun h0=>?_,fun i hi=>?_⟩
  ·obtain⟨i,hi⟩:=exists_mem_of_ne_nil _ hr;have fp:i<m:=by
    obtain⟨_,o,q2,_⟩:=mem_ready.1 hi;have:=(Array.getElem?_eq_some_iff.1 q2).1;omega
   have:=(Ag ld hs i fp).2 hi;rw[h0] at this;cases this
  have I:=KI i hi;have h3:=h2 i ((Ag ld hs i I).1 hi);rw[rZ i I];unfold wpOp at h3 ⊢;rw[E i I] at h3;have WZ:ops[i]?=some (ops[i]'w4):=Array.getElem?_eq_getElem w4;rw[WZ] at h3 ⊢;have hw:Region.wanted (ops[i]'w4) (yielded (ops.toList.take m).toArray a.tmps)=Region.wanted (ops[i]'w4) (yielded ops a.tmps):=by
   unfold Region.wanted;cases hg:(ops[i]'w4).guard with
   | none=>rfl
   | some p =>
    obtain⟨g,b⟩:=p;have:=(sZ hq WZ).2.1 I g b hg;simp only[yielded,E g this]
  simp only[hw] at h3 ⊢;split
  ·rename_i MD;simp only[MD,if_true] at h3;rcases h3 with h3|⟨h3,a0,w0,h4⟩
   ·exact .inl (abe h3 (fun a' w' h'=>ih _ a' w' (by simpa using hs) (zc i ((Ag ld hs i I).1 hi)) h') hp ho)
   exact .inr ⟨h3,a0,w0,ho _ _ h4⟩
  rename_i MD;simp only[MD] at h3;exact ih _ _ _ (by simpa using hs) (zc i ((Ag ld hs i I).1 hi)) h3
theorem aeD(me:Region.noSelect l.toArray=true)(nj:NP Q)(hq:qd m l.toArray=true)(hm:m≤l.length){fuel:Nat}{w:World}(hs:ld.size=m)(E:∀k,ld.getD k false=false)(h:wpAny P .any (l.take m).toArray (LQ C (Tl P C l.toArray (l.drop m) Q)) fuel ld a w):wpAny P .any l.toArray (LQ C Q) (fuel+(l.length-m)) (ld++Array.replicate (l.length-m) false) a w:=by
 have h1:=abg (P:=P) (ops:=l.toArray) (R:=LQ C Q) (R':=LQ C (Tl P C l.toArray (l.drop m) Q)) hq (by simpa using hm) (fun a w h=>by
  rcases h with ⟨y,h1,h2⟩|⟨h1,_⟩
  ·have:=wpOps_eq_wpList (P:=P) (ops:=l.toArray) (Q:=LQ C Q) (l.drop m) m (fun j=>by simp);rw[length_drop] at this;rw[show l.toArray.size-m=l.length-m by simp,this];exact h2 a w h1
  cases h1) (fun I a w h=>h) (fun a w h=>h) me (fun d v=>yS nj d v) fuel ld a w hs (fun k o hk hd=>by rw[E k] at hd;cases hd)
 simpa using h1 oJ
theorem CD.Fh (m:Nat) (T:List Nat) (me:Region.noSelect l.toArray=true) (nj:NP Q) (hm:P.follows .mixedOrders=true) (hl:m≤l.length) (hq:qd m l.toArray=true) (hT:∀b∈T,b∈ap x.S)
  (h:dm P C (l.take m).toArray (ap x.S) T m (Array.replicate m false) x (Tl P C l.toArray (l.drop m) Q)):CD P C (.region id l.toArray true) x Q:=fun a w hs =>
 wp_region_any hm (by
  have h1:=h a {w with drawn:=w.drawn+1} ⟨hs.defers,hs.size,fun t ht=>(hs.env t ht).mono fun b _ hn=>⟨rfl,hn⟩,⟨fun B E=>by
   obtain⟨r0,cur,r1,r2,I,O⟩:=hs.own.at_ B E;exact⟨r0,cur,r1,r2,I,fun i hi=>by
    obtain⟨u,hu,hq⟩:=O i hi;exact⟨u,hu,hq.mono fun b _ hn=>⟨rfl,hn⟩⟩⟩,hs.own.apart⟩,⟨hs.fr.os,hs.fr.tape,hs.fr.output,hs.fr.size,hs.fr.block⟩,hs.ex,hs.eM⟩ rfl hT
  have h2:=aeD me nj hq hl bq (fun k=>by rw[Array.getD_eq_getD_getElem?,Array.getElem?_replicate];split<;>rfl) (wpAny_of_held _ _ _ _ h1);rw[Array.replicate_append_replicate,show m+(l.length-m)=l.length by omega] at h2;simpa using h2)
theorem CD.pdT(me:Region.noSelect l.toArray=true)(nj:NP Q)(hm:P.follows .mixedOrders=true)(hl:m≤l.length)(hq:qd m l.toArray=true)(hp:mb (l.take m).toArray=true)(h:PD true P C.G n S (l.take m).toArray (l.take m) e [] e')(K:OD P C l.toArray (l.drop m) ⟨n,e',S⟩ Q):CD P C (.region id l.toArray true) ⟨n,e,S⟩ Q :=
 CD.Fh m [] me nj hm hl hq (fun _ hb=>by cases hb) (by
  have:=dm.pd (C:=C) (Q:=Tl P C l.toArray (l.drop m) Q) hp oJ K;have hz:(l.take m).toArray.size=m:=(by simp;omega)
  rw[hz] at this;exact this)

theorem bG.bare{w:World}(hs:bG C ⟨n,e,B++S⟩ a w):bG ⟨fun b=>C.X b∨b∈ap B,w,ap S,C.G,C.df,C.Cn⟩ ⟨n,e,S⟩ a w∧live C.X (B++S)=live (fun b=>C.X b∨b∈ap B) S∧∀b∈ap B,b∉ap S:=by
 have hl:live C.X (B++S)=live (fun b=>C.X b∨b∈ap B) S:=by
  funext b;simp only[live,ap,map_append,mem_append,eq_iff_iff];constructor
  ·rintro(h1|h1|h1)
   ·exact .inl (.inl h1)
   ·exact .inl (.inr h1)
   exact .inr h1
  rintro((h1|h1)|h1)
  ·exact .inl h1
  ·exact .inr (.inl h1)
  exact .inr (.inr h1)
 have I:ap (B++S)=ap B++ap S:=(by simp[ap])
 have hnd:=hs.own.apart;simp only[I] at hnd;have E:∀b∈ap B,b∉ap S:=fun b h1 h2=>(nodup_append.1 hnd).2.2 b h1 b h2 rfl;refine⟨⟨hs.defers,hs.size,fun q hq=>?_,⟨fun A hA=>?_,(nodup_append.1 hnd).2.1⟩,Fr.refl _ _,fun b hb=>?_,fun g hg=>?_⟩,hl,E⟩
 ·have:=hs.env q hq;simp only[hl] at this;exact this
 ·have:=hs.own.at_ A (mem_append_right _ hA);simp only[hl] at this;exact this
 ·rcases hb with hb|hb
  ·obtain⟨h1,h2⟩:=hs.ex b hb;exact⟨Nat.lt_of_lt_of_le h1 hs.fr.size,fun hm=>(hs.fr.block b h1 h2).2 (by simp only[I];exact mem_append_right _ hm)⟩
  obtain⟨A,hA,rfl⟩:=mem_map.1 hb;exact⟨(hs.own.at_ A (mem_append_left _ hA)).1,E _ hb⟩
 obtain⟨⟨h1,h2,h3⟩,h4⟩:=hs.eM g hg;have h5:=hs.fr.block g.1 h1 h2;simp only[I] at h5;exact⟨⟨Nat.lt_of_lt_of_le h1 hs.fr.size,fun hm=>h5.2 (mem_append_right _ hm),fun hm=>hm.elim h3 fun hm=>h5.2 (mem_append_left _ hm)⟩,fun i v hi=>(h4 i v hi).on h5.1⟩
theorem fJ.frame(h:fJ P G ⟨n,e,S⟩ o [] (fun y=>y=⟨n,(t,d)::e,S⟩)):fJ P G ⟨n,e,B++S⟩ o [] (fun y=>y=⟨n,(t,d)::e,B++S⟩):=fun C a w K Q hG hs hK=>by
 obtain⟨rp,hl,E⟩:=hs.bare;have O:ap (B++S)=ap B++ap S:=(by simp[ap])
 refine h ⟨fun b=>C.X b∨b∈ap B,w,ap S,C.G,C.df,C.Cn⟩ a w K Q hG rp fun y a' w' hy k hc hf=>?_;subst hy;have I:Fr w (ap (B++S)) w' (ap (B++S)):=⟨hf.os,hf.tape,hf.output,hf.size,fun b h1 h2=>⟨(hf.block b h1 (fun hm=>h2 (by rw[O];exact mem_append_right _ hm))).1,h2⟩⟩
 refine hK _ a' w' rfl ⟨k.defers,k.size,fun q hq=>?_,⟨fun A hA=>?_,hs.own.apart⟩,hs.fr.trans I,hs.ex,hs.eM⟩ hc I
 ·have:=k.env q hq;simp only[hl];exact this
 simp only[hl];rcases mem_append.1 hA with hA|hA
 ·obtain⟨r0,cur,r1,r2,r3,r4⟩:=hs.own.at_ A (mem_append_left _ hA);have U:A.b∈ap B:=mem_map.2 ⟨A,hA,rfl⟩;have Z:=(hf.block A.b r0 (E _ U)).1;refine⟨qB r0 Z,cur,Z.trans r1,r2,r3,fun i hi=>?_⟩;obtain⟨u,hu,hr⟩:=r4 i hi;simp only[hl] at hr;exact⟨u,hu,hr.mono fun b h1 h2=>⟨(hf.block b h1 (fun hm=>h2 (.inr hm))).1,h2⟩⟩
 exact k.own.at_ A hA
theorem cc.frame{b:Bool}(h:cc ops ⟨n,e,S⟩ o b):cc ops ⟨n,e,B++S⟩ o b:=fun C a w hs=>h _ a w hs.bare.1
theorem bG.Th{a':Act}{w w':World}{v:Value}(h:bG C ⟨n,e,S⟩ a w)(k:bG C ⟨n,(t,d)::l',S'⟩ a' w')(hf:Fr w (ap S) w' (ap S'))(I:a'.tmps=(a.put (some t) v).tmps):bG C ⟨n,(t,d)::e,S'⟩ a' w':=by
 refine⟨k.defers,k.size,fun q hq=>?_,k.own,k.fr,k.ex,k.eM⟩;by_cases E:t=q
 ·subst E;have:=k.env t hq;simp only[fO,if_pos] at this ⊢;exact this
 have h1:=h.env q hq;have h2:a'.tmps.getD q undef=a.tmps.getD q undef:=(by rw[I];simp[Act.put,Array.getD_eq_getD_getElem?,Array.getElem?_setIfInBounds,E])
 simp only[fO,if_neg E];rw[h2];exact h1.mono fun b hb hn=>⟨(hf.block b hb (fun hm=>hn (.inr hm))).1,fun hl=>hl.elim (fun hx=>hn (.inl hx)) fun hm=>(hf.block b hb (fun hm=>hn (.inr hm))).2 hm⟩
theorem YN{z:Value}(ho:o.op = .alloc te)(hd:o.dst=some t)(hz:∀w,(zeroValue te).run P w = .ok z w)(hne:isMap te=false:=by rfl):fJ P G ⟨n,e,S⟩ o [] (fun y=>y=⟨n,(t,.bU)::e,S⟩):=fun C a w K Q hG h hK =>
 Ax (hne:=hne) ho hd hz rfl C a w K Q hG h fun y a' w' ⟨b,hy⟩ hs hc hf=>by
  subst hy;have h1:=Wk.drop n ((t,.v (.pointer (some ⟨b,0,none⟩)))::e) _ S (sublist_cons_self _ _) C a' w' hs;refine hK _ a' w' rfl ⟨h1.defers,h1.size,fun q hq=>?_,h1.own,h1.fr,h1.ex,h1.eM⟩ hc ⟨hf.os,hf.tape,hf.output,hf.size,fun b hb hn=>⟨(hf.block b hb hn).1,hn⟩⟩;have h2:=h1.env q hq;simp only[fO] at h2 ⊢;by_cases e1:t=q
  ·rw[if_pos e1];exact .bU _
  rw[if_neg e1] at h2 ⊢;exact h2
def bx(te:TypeId)(ds:List D):Option Nat→List ag
 | some b=>[⟨b,te,ds.length,ds⟩]
 | none=>[]
theorem acR {eF:List (Nat×D)} {w1:World} {ia:Nat} {ds:List D} (lR:ops[ia]?=some oa) (lf:oa.dst=some ta) (xP:oa.guard=none) (hE:∀S',fJ P C.G ⟨n,[],S'⟩ oa [] (wj ⟨n,[],S'⟩ ta te ds))
  (hj:look ta eF = .bU) (hp:mb ops=true) (H:∀i,i<ops.size→Gd P C.G n S ops eF i) (hQ:∀b,Q .normal ⟨n,(ta,.v (.pointer (some ⟨b,0,none⟩)))::eF,⟨b,te,ds.length,ds⟩::S⟩):∀(fuel:Nat) (ld:Array Bool) (env:List (Nat×D)) (ob:Option Nat) (a:Act) (w:World),
  left ops.size ld≤fuel→bG C ⟨n,env,bx te ds ob++S⟩ a w→Fr w1 S1 w (ap (bx te ds ob++S))→(ld.getD ia true=true→∃b,ob=some b∧look ta env = .v (.pointer (some ⟨b,0,none⟩)))→(ld.getD ia true=false→ob=none) →
   (∀q,q≠ta→(∀j o,ops[j]?=some o→o.dst=some q→ld.getD j true=true)→look q env=look q eF)→wpAnyH P .any ops (LQ C Q) (kE w1 S1 []) fuel ld a w:=by
 have Gx:∀j o,ops[j]?=some o→o.dst=some ta→j=ia:=fun j o hj hd=>by
  rcases Nat.lt_trichotomy j ia with q|q|q
  ·obtain⟨t',h1,h2⟩:=(wg hp lR).2;rw[lf] at h1;obtain rfl:=Option.some.inj h1;exact absurd hd (h2 j o q hj)
  ·exact q
  obtain⟨t',h1,h2⟩:=(wg hp hj).2;rw[hd] at h1;obtain rfl:=Option.some.inj h1;exact absurd lf (h2 ia oa q lR)
 have ff:∀(ld:Array Bool) (env:List (Nat×D)) (ob:Option Nat) (a:Act) (w:World),bG C ⟨n,env,bx te ds ob++S⟩ a w→(ld.getD ia true=true→∃b,ob=some b∧look ta env = .v (.pointer (some ⟨b,0,none⟩)))→(∀q,q≠ta→(∀j o,ops[j]?=some o→o.dst=some q→ld.getD j true=true)→look q env=look q eF)→(∀j,j<ops.size→ld.getD j true=true)→LQ C Q .normal a w:=fun ld env ob a w hs hb he fa=>by
  obtain⟨b,rfl,ME⟩:=hb (fa ia (Array.getElem?_eq_some_iff.1 lR).1);refine .inl ⟨⟨n,(ta,.v (.pointer (some ⟨b,0,none⟩)))::eF,⟨b,te,ds.length,ds⟩::S⟩,⟨hs.defers,hs.size,fun q hq=>?_,hs.own,hs.fr,hs.ex,hs.eM⟩,hQ b⟩;have:=hs.env q hq;simp only[fO];by_cases E:ta=q
  ·subst E;rw[if_pos rfl];rw[ME] at this;exact this
  rw[if_neg E];rw[he q (fun e=>E e.symm) fun j o hj _=>fa j (Array.getElem?_eq_some_iff.1 hj).1] at this;exact this
 intro fuel;induction fuel with
 | zero =>
  intro ld env ob a w hl hs hf hb jz he;have fa:∀j,j<ops.size→ld.getD j true=true:=fun j hj=>by
   cases hq:ld.getD j true with
   | true=>rfl
   | false=>have:=yC hj hq;omega
  refine⟨?_,ff ld env ob a w hs hb he fa⟩;rw[eq_nil_iff_forall_not_mem];intro j hj;obtain⟨h1,o,h2,_⟩:=mem_ready.1 hj;have:=fa j (Array.getElem?_eq_some_iff.1 h2).1;rw[h1] at this;cases this
 | succ fuel ih =>
  intro ld env ob a w hl hs hf hb jz he;refine⟨fun h0=>ff ld env ob a w hs hb he (Ju hp h0),fun i hi=>?_⟩;obtain⟨kQ,o,I,BJ⟩:=mem_ready.1 hi;have aa:=(Array.getElem?_eq_some_iff.1 I).1;have UR:=yC aa kQ;have O:∀j,(ld.setIfInBounds i true).getD j true=true↔j=i∨ld.getD j true=true:=fun j=>by
   by_cases hj:j=i
   ·subst hj;have gX:j<ld.size:=by
     rcases Nat.lt_or_ge j ld.size with h|h
     ·exact h
     rw[Array.getD_eq_getD_getElem?,Array.getElem?_eq_none h] at kQ;cases kQ
    simp[Array.getD_eq_getD_getElem?,Array.getElem?_setIfInBounds,gX]
   simp[Array.getD_eq_getD_getElem?,Array.getElem?_setIfInBounds,hj,Ne.symm hj]
  by_cases rq:i=ia
  ·subst rq;rw[lR] at I;obtain rfl:=Option.some.inj I;obtain rfl:=jz kQ;unfold wpOp;rw[lR];have hw:Region.wanted oa (yielded ops a.tmps)=true:=(by simp[Region.wanted,xP])
   simp only[hw,if_true];have oN:bG C ⟨n,[],bx te ds none++S⟩ a w:=⟨hs.defers,hs.size,fun q hq=>.bU _,hs.own,hs.fr,hs.ex,hs.eM⟩
   have h2:=hE (bx te ds none++S) C a w (fun a' w'=>∃b,bG C ⟨n,[(ta,.v (.pointer (some ⟨b,0,none⟩)))],⟨b,te,ds.length,ds⟩::S⟩ a' w'∧Fr w (ap S) w' (ap (⟨b,te,ds.length,ds⟩::S))) (LQ C Q) rfl oN (fun y a' w' ⟨b,hy⟩ U _ Z=>by subst hy;exact⟨b,U,Z⟩);refine .inl (Oper.wp_mono (fun a' w' h3=>?_) (yB h2));obtain⟨⟨b,h4,h5⟩,v,h6⟩:=h3;rw[lf] at h6;have jn:Fr w1 S1 w' (ap (bx te ds (some b)++S)):=hf.trans h5;refine⟨⟨fun b h2 h3=>(jn.block b h2 h3).1,fun b h2=>by cases h2⟩,ih _ ((ta,.v (.pointer (some ⟨b,0,none⟩)))::env) (some b) a' w' w4 (bG.Th (S:=S) hs h4 h5 h6) jn (fun _=>⟨b,rfl,by rw[fO,if_pos rfl]⟩) (fun h=>by have:=(O i).2 (.inl rfl);rw[this] at h;cases h) fun q hq uh=>?_⟩;rw[fO,if_neg (fun e=>hq e.symm)];refine he q hq fun j oj hj iL=>?_;rcases(O j).1 (uh j oj hj iL) with rfl|h2
   ·rw[lR] at hj;obtain rfl:=Option.some.inj hj;rw[lf] at iL;exact absurd (Option.some.inj iL).symm hq
   exact h2
  obtain⟨o',t,ts,l',h1,hd,hq,lO,hk,MF⟩:=H i aa;rw[I] at h1;obtain rfl:=Option.some.inj h1;have KJ:t≠ta:=fun e=>rq (Gx i o I (by rw[hd,e]))
  -- what it looks at is there,or nothing is said of it
  have jx:bG C ⟨n,l',bx te ds ob++S⟩ a w:=⟨hs.defers,hs.size,fun q Cv=>by
   by_cases hm:q∈ts
   ·have sP:=hm;rw[←hk] at sP;obtain⟨p,fH,rfl⟩:=mem_map.1 sP;obtain⟨h2,h3⟩:=lO p fH;have h9:=hs.env p.1 Cv;by_cases ud:p.1=ta
    ·rw[←h3,ud,hj];exact .bU _
    have:look p.1 env=look p.1 l':=by
     rw[←h3];refine he p.1 ud fun j oj hj iL=>?_;obtain⟨e1,sI,iV,jy⟩:=Ew hq hj iL h2;have:=BJ e1 sI iV;rw[jy] at this;rw[Array.getD_eq_getD_getElem?] at this ⊢;cases hx:ld[j]? with
     | none=>rw[hx] at this;cases this
     | some b=>rw[hx] at this;exact this
    rw[this] at h9;exact h9
   have:look q l' = .bU:=by
    rw[←hk] at hm;exact Eg hm
   rw[this];exact .bU _,hs.own,hs.fr,hs.ex,hs.eM⟩
  have jb:∀(a':Act) (w':World),bG C ⟨n,(t,look t eF)::env,bx te ds ob++S⟩ a' w'→Fr w (ap (bx te ds ob++S)) w' (ap (bx te ds ob++S))→kE w1 S1 [] w'∧wpAnyH P .any ops (LQ C Q) (kE w1 S1 []) fuel (ld.setIfInBounds i true) a' w':=fun a' w' U Z=>by
   have jn:Fr w1 S1 w' (ap (bx te ds ob++S)):=hf.trans Z;have xQ:(ld.setIfInBounds i true).getD ia true=ld.getD ia true:=by
    simp[Array.getD_eq_getD_getElem?,Array.getElem?_setIfInBounds,rq]
   refine⟨⟨fun b h2 h3=>(jn.block b h2 h3).1,fun b h2=>by cases h2⟩,ih _ _ ob a' w' w4 U jn (fun h=>?_) (fun h=>jz (by rw[xQ] at h;exact h)) fun q Gy uh=>?_⟩
   ·rw[xQ] at h;obtain⟨b,h2,h3⟩:=hb h;exact⟨b,h2,by rw[fO,if_neg KJ];exact h3⟩
   rw[fO];by_cases E:t=q
   ·rw[if_pos E,E]
   rw[if_neg E];refine he q Gy fun j oj hj iL=>?_;rcases(O j).1 (uh j oj hj iL) with rfl|h2
   ·rw[I] at hj;obtain rfl:=Option.some.inj hj;rw[hd] at iL;exact absurd (Option.some.inj iL) E
   exact h2
  unfold wpOp;rw[I];rcases MF with ⟨hw,MG⟩|⟨hw,hv⟩
  ·simp only[hw.frame (B:=bx te ds ob) C a w jx,if_true];have h2:=MG.frame (B:=bx te ds ob) C a w (fun a' w'=>bG C ⟨n,(t,look t eF)::l',bx te ds ob++S⟩ a' w'∧Fr w (ap (bx te ds ob++S)) w' (ap (bx te ds ob++S))) (LQ C Q) rfl jx (fun y a' w' hy U _ Z=>by subst hy;exact⟨U,Z⟩);refine .inl (Oper.wp_mono (fun a' w' h3=>?_) (yB h2));obtain⟨⟨h4,h5⟩,v,h6⟩:=h3;rw[hd] at h6;exact jb a' w' (hs.yV h4 h5 h6) h5
  simp only[hw.frame (B:=bx te ds ob) C a w jx,hd];have:=hs.put (t:=t) (.v (w:=w) (L:=live C.X (bx te ds ob++S)) undef);rw[hv] at jb;exact jb _ w this (Fr.refl _ _)
theorem CD.pdA {ia:Nat} {z:Value} {ds:List D} (me:Region.noSelect l.toArray=true) (nj:NP Q) (hm:P.follows .mixedOrders=true) (hl:m≤l.length) (hq:qd m l.toArray=true) (hp:mb (l.take m).toArray=true) (lR:(l.take m)[ia]?=some oa) (ho:oa.op = .alloc te) (lf:oa.dst=some ta) (xP:oa.guard=none) (hz:∀w,(zeroValue te).run P w = .ok z w) (jm:z.cells.toList.map .v=ds)
  (h:PD true P C.G n S (l.take m).toArray (l.take m) e [] e') (hj:look ta e' = .bU) (K:∀b,OD P C l.toArray (l.drop m) ⟨n,(ta,.v (.pointer (some ⟨b,0,none⟩)))::e',⟨b,te,ds.length,ds⟩::S⟩ Q) (hne:isMap te=false:=by rfl):CD P C (.region id l.toArray true) ⟨n,e,S⟩ Q :=
 CD.Fh m [] me nj hm hl hq (fun _ hb=>by cases hb) (fun a w hs _ _=>by
  have h':PD true P C.G n S (l.take m).toArray (l.take m).toArray.toList e [] e':=(by simpa using h)
  have hg:=h'.wS hp rfl 0 rfl;have E:(l.take m).toArray[ia]?=some oa:=(by simpa using lR)
  have I:(l.take m).toArray.size=m:=(by simp;omega)
  refine acR (Q:=Tl P C l.toArray (l.drop m) Q) E lf xP (fun S'=>Ax (hne:=hne) ho lf hz jm) hj hp (fun i hi=>hg i (Nat.zero_le _) hi) K _ _ e none a w ?_ hs (Fr.refl _ _) (fun h=>?_) (fun _=>rfl) fun q Z U=>?_
  ·rw[I];unfold left;exact Nat.le_trans (length_filter_le _ _) bq
  ·have aa:=(Array.getElem?_eq_some_iff.1 E).1;rw[I] at aa;simp[Array.getD_eq_getD_getElem?,aa] at h
  refine(h'.later fun o ho hd=>?_).symm;obtain⟨j,hj,rfl⟩:=mem_iff_getElem.1 ho;have O:j<(l.take m).toArray.size:=(by simpa using hj)
  have:=U j _ (by rw[←Array.getElem?_toList,getElem?_eq_getElem hj]) hd;rw[I] at O;simp[Array.getD_eq_getD_getElem?,O] at this)
/-! ### Short forms -/
variable {R:List (Nat×D)→Prop}
theorem Wk.aeE(h:mR e e'):Wk ⟨n,(t,d)::e,S⟩ ⟨n,(t,d)::e',S⟩:=fun C a w hs=>⟨hs.defers,hs.size,fun q hq=>by
 have h1:=hs.env q hq;simp only[fO] at h1 ⊢;by_cases e1:t=q
 ·rw[if_pos e1] at h1 ⊢;exact h1
 rw[if_neg e1] at h1 ⊢;rcases h.look q with h2|h2
 ·rw[h2];exact h1
 rw[h2];exact .bU _,hs.own,hs.fr,hs.ex,hs.eM⟩
theorem l8(m:Nat)(ts:List Nat)(h:PE true P C.G n S (l.take m).toArray ts (l.take m) e fun l'=>OD P C l.toArray (l.drop m) ⟨n,l',S⟩ Q)(hm:P.follows .mixedOrders=true:=by kernel_rfl)(hl:Nat.ble m l.length=true:=by kernel_rfl)(hq:qd m l.toArray=true:=by kernel_rfl)(hp:mb (l.take m).toArray=true:=by kernel_rfl)(me:Region.noSelect l.toArray=true:=by kernel_rfl)(nj:NP Q:=by exact Gt):CD P C (.region id l.toArray true) ⟨n,e,S⟩ Q:=by
 obtain⟨e',l',h1,h2,K⟩:=h;exact CD.pdT me nj hm (Nat.le_of_ble_eq_true hl) hq hp h1 (OD.wk (Wk.j5 h2.j5) K)
theorem fK(m:Nat)(T:List Nat)(h:dm P C (l.take m).toArray (ap x.S) T m (Array.replicate m false) x (Tl P C l.toArray (l.drop m) Q))(hT:∀b∈T,b∈ap x.S)(hm:P.follows .mixedOrders=true:=by kernel_rfl)(hl:Nat.ble m l.length=true:=by kernel_rfl)(hq:qd m l.toArray=true:=by kernel_rfl)(me:Region.noSelect l.toArray=true:=by kernel_rfl)(nj:NP Q:=by exact Gt):CD P C (.region id l.toArray true) x Q:=CD.Fh m T me nj hm (Nat.le_of_ble_eq_true hl) hq hT h
theorem eA{T:List Nat}{fuel:Nat}{bn:Array Oper}{l2:List Oper}(K:OD P C bn l2 x Q)(hr:Region.ready .any ops ld=[]:=by kernel_rfl):AD P C ops S1 T fuel ld x (Tl P C bn l2 Q):=AD.done hr K
theorem uf (m ia:Nat) (ts:List Nat) (h:PE true P C.G n S (l.take m).toArray ts (l.take m) e fun l'=>look ta l' = .bU∧∀b,OD P C l.toArray (l.drop m) ⟨n,(ta,.v (.pointer (some ⟨b,0,none⟩)))::l',⟨b,te,(zs.map D.v).length,zs.map .v⟩::S⟩ Q) (hm:P.follows .mixedOrders=true:=by kernel_rfl) (hl:Nat.ble m l.length=true:=by kernel_rfl) (hq:qd m l.toArray=true:=by kernel_rfl) (hp:mb (l.take m).toArray=true:=by kernel_rfl)
  (lR:(l.take m)[ia]?=some oa:=by exact rfl) (ho:oa.op = .alloc te:=by exact rfl) (lf:oa.dst=some ta:=by exact rfl) (xP:oa.guard=none:=by exact rfl) (hz:rT P te=some zs:=by exact Sb.hz) (ht:ts.elem ta=true:=by exact rfl) (hne:isMap te=false:=by rfl) (me:Region.noSelect l.toArray=true:=by kernel_rfl) (nj:NP Q:=by exact Gt):CD P C (.region id l.toArray true) ⟨n,e,S⟩ Q:=by
 obtain⟨e',l',h1,h2,hj,K⟩:=h;obtain⟨z,h3,h4⟩:=AW hz;exact CD.pdA (hne:=hne) me nj hm (Nat.le_of_ble_eq_true hl) hq hp lR ho lf xP h3 (by rw[h4]) h1 (by rw[←h2.at (mem_of_elem_eq_true ht)];exact hj) fun b=>OD.wk (Wk.aeE h2.j5) (K b)
theorem rj{c:Bool}{ts:List Nat}(K:PE c P G n S ops ts l ((t,.bU)::e) R)(ho:o.op = .alloc te:=by exact rfl)(hd:o.dst=some t:=by exact rfl)(hg:o.guard=none:=by exact rfl)(hz:rT P te=some zs:=by exact Sb.hz)(hq:(!c||mV ops o [])=true:=by kernel_rfl)(hne:isMap te=false:=by rfl):PE c P G n S ops ts (o::l) e R:=by
 obtain⟨z,h3,_⟩:=AW hz;exact PE.cons hd fC.nil hq (rG hg) (YN (hne:=hne) ho hd h3) K

end Go.Proofs.YtbcmjoaggammcaaGreatDoor.V
namespace Go.Proofs.YtbcmjoaggammcaaGreatDoor.V
open List
open Go.RowKit
variable {P:Program} {C:dF} {G:List (Nat×List Value)} {Q:Exit→St→Prop} {x:St} {ops:Array Oper} {l:List Oper} {o:Oper} {S1 T:List Nat} {fuel i:Nat} {ld:Array Bool}
variable {t e:TypeId} {sz cap:Nat} {y:Operand} {lo hi:Option Operand} {ad:Option Addr} {Sq:List ag}
theorem G2 {len j:Nat} {cs ds:List D} {k:IntKind} {i:Int} {z:Operand} (ho:o.op = .index t y z) (hy:aF x y = .agg cs) (hz:aF x z = .v (.int k i))
  (E:∀w,(underlying t).run P w = .ok (.array len e) w) (hs:∀w,(sizeOf e).run P w = .ok sz w) (ha:∀w,(isAgg e).run P w = .ok true w) (hi:i=j) (hj:j<len) (hd:(cs.drop (j*sz)).take sz=ds):bV P G x o .none (.agg ds):=fun C a w _ h=>by
 have hr:=h.eval y;rw[hy] at hr;generalize hg:a.eval y=u at hr;subst hi hd;cases hr with
 | agg _ vs hl hr =>
  refine⟨.agg ((vs.drop (j*sz)).take sz).toArray,.agg _ _ (by simp[hl]) (fun i h1 h2=>?_),fun w' _=>?_⟩
  ·simp only[getElem_take,getElem_drop];exact hr _ _ _
  unfold execOp;simp[ho,hg,h.flat hz,Instr.index,asIntOf,E,hj,part,ha,asAgg,hs]
theorem DG (ho:o.op = .slice t y lo hi none) (hy:aF x y = .v (.slice none 0 0)) (eT:mu x lo 0 0) (eu:mu x hi 0 0)
  (E:∀w,(underlying t).run P w = .ok (.slice e) w) (hs:∀w,(sizeOf e).run P w = .ok sz w):bV P G x o .none (.v (.slice none 0 0)):=fun C a w _ h =>
 ⟨_,.v _,fun w' _=>by
  have b1:=rJ h eT;have b2:=rJ h eu;unfold execOp;simp[ho,h.flat hy,Instr.sliceAt,Instr.slice,E,vK b1 b2 (Nat.zero_le _) (Nat.le_refl _),hs]⟩
theorem bw.pos{e n:Nat}{cs:List D}{S:List ag}(h:bw e sz cs n ad cap S)(hn:0<n):∃b,ad=some ⟨b,0,none⟩∧n≤cap∧cap≤maxLen∧S=[⟨b,e,cap*sz,cs⟩]:=by
 rcases h with ⟨h1,_,_,_,_⟩|h
 ·omega
 exact h
theorem DF {e':TypeId} {sz' n k:Nat} {cs:List D} (ho:o.op = .slice t y lo hi none) (hy:aF x y = .v (.slice ad n cap)) (eT:mu x lo 0 0) (eu:mu x hi k n)
  (I:∀w,(underlying t).run P w = .ok (.slice e) w) (hs:∀w,(sizeOf e).run P w = .ok sz w) (hk:k≤n) (E:bw e' sz' cs n ad cap Sq):bV P G x o .none (.v (.slice ad k cap)):=by
 rcases E with ⟨h1,h2,rfl,rfl,rfl⟩|⟨b,rfl,h1,h2,rfl⟩
 ·subst h1;obtain rfl:k=0:=(by omega)
  exact DG ho hy eT eu I hs
 exact NJ ho hy eT eu I hs (Nat.le_trans hk h1)
theorem CD.u7 {c:Code} {α:Type} {g:α→List D} {ls:List α} {e k:Nat} {R:List ag} (hg:∀a,(g a).length=sz) (hk:k≤ls.length)
  (E:bw e sz (ls.flatMap g) ls.length ad cap Sq) (hp:x.S.Perm (Sq++R))
  (K:∀S',bw e sz ((ls.take k).flatMap g) (ls.take k).length ad cap S'→CD P C c ⟨x.n,x.env,S'++R⟩ Q):CD P C c x Q:=by
 have dS:(ls.take k).length=k:=(by rw[length_take];omega)
 refine CD.perm hp ?_;rcases E with ⟨h1,h2,rfl,rfl,rfl⟩|⟨b,rfl,h1,h2,rfl⟩
 ·have hl:ls=[]:=eq_nil_of_length_eq_zero h1;subst hl;exact K [] (.inl ⟨by simp,by simp,rfl,rfl,rfl⟩)
 refine CD.wk (Wk.shrink (n:=x.n) (l:=x.env) (k:=0) (cs':=(ls.take k).flatMap g) rfl ?_) ?_
 ·rw[←tq hg ls];exact take_prefix _ _
 exact K [⟨b,e,cap*sz,(ls.take k).flatMap g⟩] (.inr ⟨b,rfl,by rw[dS];omega,h2,rfl⟩)
theorem bg.dZ {α:Type} {g:α→List D} {ls new:List α} {s:Operand} {t e tt bytes:Nat} {z:Value} {R:List ag} (hg:∀a,(g a).length=sz) (hg1:∀a,(g a).all one=true) (U:ops[i]?=some o) (hw:cc ops x o true) (ho:o.op = .call {callee:=.builtin .append,args:=#[s,y],argTypes:=#[t,t]}) (hd:o.dst=some tt)
  (ht:P.underlying t=some (.slice e)) (hi:(P.info? e).map (fun i=>(i.zero,i.size,i.bytes))=some (some z,sz,bytes)) (eV:z.cells.size=sz) (Z:0<sz)
  (hs:aF x s = .v (.slice ad ls.length cap)) (sM:bw e sz (ls.flatMap g) ls.length ad cap Sq) (hp:x.S.Perm (Sq++R))
  (hy:aF x y = .list sz (new.flatMap g) new.length) (hm:0<new.length) (gj:ls.length+new.length≤maxLen) (I:(ls.length+new.length)*bytes≤140737488355328)
  (K:∀O E,(ls++new).length≤E→E≤maxLen→AD P C ops S1 T fuel (ld.setIfInBounds i true) ⟨x.n,(tt,.v (.slice (some ⟨O,0,none⟩) (ls++new).length E))::x.env,⟨O,e,E*sz,(ls++new).flatMap g⟩::R⟩ Q) (hne:isMap e=false:=by rfl)
  (hT:∀b∈T,b∈ap R:=by first|exact fun b hb=>hb|(intro b hb;simp[ap] at hb ⊢;first|exact hb|exact .inl hb|(rcases hb with hb|hb<;>simp[hb])|(rcases hb with hb|hb|hb<;>simp[hb])|(rcases hb with hb|hb|hb|hb<;>simp[hb])|(rcases hb with hb|hb|hb|hb|hb<;>simp[hb])|(rcases hb with hb|hb|hb|hb|hb|hb<;>simp[hb])|(rcases hb with hb|hb|hb|hb|hb|hb|hb<;>simp[hb])|(rcases hb with hb|hb|hb|hb|hb|hb|hb|hb<;>simp[hb]))):bg P C ops S1 T fuel ld x Q i :=
 bg.DV (hne:=hne) U hw ho hd ht hi eV Z hs sM hp (cq hg ls) hy (tE hg1 new) hm gj I hT fun O E h1 h2=>by
  have:=K O E (by rw[length_append];exact h1) h2;rw[length_append,flatMap_append] at this;exact this

end Go.Proofs.YtbcmjoaggammcaaGreatDoor.V
namespace Go.Proofs.YtbcmjoaggammcaaGreatDoor.V



open List
open Go.RowKit
variable {P:Program} {C:dF} {G:List (Nat×List Value)} {Q:Exit→St→Prop} {x:St} {ops:Array Oper} {l:List Oper} {o:Oper}
variable {kq kn:IntKind}
theorem Yb {s y:Operand} {t tn e tt m sz bytes:Nat} {z:Value} (ho:o.op = .call {callee:=.builtin .append,args:=#[s,y],argTypes:=#[t,tn]}) (hd:o.dst=some tt)
  (ht:P.underlying t=some (.slice e)) (MH:P.underlying tn=some (.int kn)) (hi:(P.info? e).map (fun i=>(i.zero,i.size,i.bytes))=some (some z,sz,bytes)) (eV:z.cells.size=sz) (Z:0<sz)
  (hs:aF x s = .v (.slice none 0 0)) (hy:aF x y = .v (.int kq m)) (h0:0<m) (gj:m≤maxLen) (aeF:m*bytes≤140737488355328) (jF:isMap e=false:=by rfl) :
  fJ P G x o [] (fun y=>∃b' E,m≤E∧E≤maxLen∧y=⟨x.n,(tt,.v (.slice (some ⟨b',0,none⟩) m E))::x.env,⟨b',e,E*sz,[]⟩::x.S⟩):=fun C a w K Q hG h hK=>by
 obtain⟨i,jU,lN,oL,pI⟩:=yy hi;have I:=Lib.run_append_nil_zeros (P:=P) w t tn o.type e i z kq kn ht MH jU lN m h0 (by rw[oL];exact Z) (by simp only[maxLen] at gj;omega) (by rw[pI];omega);have h1:=grownCap_ge w m 0 e;have h2:=grownCap_le_maxLen w m 0 e gj;generalize grownCap w m 0 e=E at I h1 h2;generalize ahz:Builtin.zeroCells z.cells m++Builtin.zeroCells z.cells (E-m)=O at I;have xR:∀q,(Builtin.zeroCells z.cells q).size=q*sz:=fun q=>by simp[Builtin.zeroCells,eV]
 have gX:O.size=E*sz:=by
  rw[←ahz,Array.size_append,xR,xR,←Nat.add_mul];congr 1;omega
 have U:(execOp a.eval o).run P w = .ok (.value (.slice (some ⟨w.heap.size,0,none⟩) m E)) (w.drew.alloc (.cells O e)):=by
  unfold execOp;simp only[ho,resolve,invoke,builtin,Sem.run_bind,Sem.run_pure,Result.andThen_ok,map_toArray,map_cons,map_nil,h.flat hs,h.flat hy,I]
 obtain⟨s1,s2,s3⟩:=h.grown (w':=w.drew.alloc (.cells O e)) (t:=tt) (m:=m) (e:=e) (sz:=sz) (S:=x.S) (cs:=[]) (row:=none) (g:=w.heap.size) (cap:=E) (cur:=O) (hne:=jF) (Sublist.refl _) (fun k hk=>by cases hk)
  ⟨rfl,rfl,rfl,by show w.heap.size≤(w.heap.push _).size;simp,fun k hk _=>getElem?_push_lt (w:=w.drew) hk⟩ (.inr rfl) LU LV gX (Nat.zero_le _) (fun j hj=>by cases hj)
 unfold Oper.wp;rw[U,Oper.upon_value,hd];exact hK _ _ _ ⟨_,_,h1,h2,rfl⟩ s1 s2 s3
theorem OD.abh {s y:Operand} {t tn e tt m sz bytes:Nat} {z:Value} (hw:cc ops x o true) (ho:o.op = .call {callee:=.builtin .append,args:=#[s,y],argTypes:=#[t,tn]}) (hd:o.dst=some tt)
  (ht:P.underlying t=some (.slice e)) (Z:P.underlying tn=some (.int kn)) (hi:(P.info? e).map (fun i=>(i.zero,i.size,i.bytes))=some (some z,sz,bytes)) (eV:z.cells.size=sz) (O:0<sz)
  (hs:aF x s = .v (.slice none 0 0)) (hy:aF x y = .v (.int kq m)) (h0:0<m) (gj:m≤maxLen) (I:m*bytes≤140737488355328)
  (K:∀U E,m≤E→E≤maxLen→OD P C ops l ⟨x.n,(tt,.v (.slice (some ⟨U,0,none⟩) m E))::x.env,⟨U,e,E*sz,[]⟩::x.S⟩ Q) (jF:isMap e=false:=by rfl):OD P C ops (o::l) x Q :=
 OD.fQ hw (Yb (jF:=jF) ho hd ht Z hi eV O hs hy h0 gj I) fun y ⟨U,E,h1,h2,hy⟩=>hy ▸ K U E h1 h2

end Go.Proofs.YtbcmjoaggammcaaGreatDoor.V
namespace Go.Proofs.YtbcmjoaggammcaaGreatDoor.V
open List
open Go.RowKit
variable {P:Program} {C:dF} {G:List (Nat×List Value)} {Q:Exit→St→Prop} {x:St}
variable {l:List (Nat×D)} {S':List ag} {cs':List D}
def Gv(d d':D):Prop:=∀w L v,cl w L d v→cl w L d' v
theorem eR{d:D}:Gv d d:=fun _ _ _ h=>h
theorem gd{sz:Nat}:Gv (.v (.slice none 0 0)) (.list sz [] 0):=fun _ _ _ h=>by rw[h.kD];exact .nil sz
def pL:List D→List D→Prop
 | [],[]=>True
 | d::r,d'::r'=>Gv d d'∧pL r r'
 | _,_=>False
theorem pL.spec:∀{a b:List D},pL a b→b.length=a.length∧∀i (h:i<a.length) (h':i<b.length),Gv a[i] b[i]
 | [],[],_=>⟨rfl,fun i h=>by simp at h⟩
 | d::r,d'::r',h=>by
  obtain⟨h1,h2⟩:=pL.spec h.2;refine⟨by simp[h1],fun i q E=>?_⟩;cases i with
  | zero=>exact h.1
  | succ i=>exact h2 i (by simpa using q) (by simpa using E)
 | [],_::_,h=>h.elim
 | _::_,[],h=>h.elim
theorem Jo{a b:List D}(h:pL a b):Gv (.agg a) (.agg b):=fun w L v hr=>by
 obtain⟨h1,h2⟩:=h.spec;cases hr with
 | agg _ vs hl hq=>exact .agg b vs w4 fun i q E=>h2 i w4 q _ _ _ (hq i w4 E)
theorem Wk.cells{n:Nat}{S:List ag}{k:Nat}{B:ag}(hk:S[k]?=some B)(H:pL B.cs cs')(hS:S.set k {B with cs:=cs'}=S'):Wk ⟨n,l,S⟩ ⟨n,l,S'⟩:=fun C a w h=>by
 subst hS;obtain⟨H1,H2⟩:=H.spec;have dS:=(List.getElem?_eq_some_iff.1 hk).1;have O:=(List.getElem?_eq_some_iff.1 hk).2;have E:ap (S.set k {B with cs:=cs'})=ap S:=by
  unfold ap;rw[map_set];apply ext_getElem bq;intro i q1 q2;rw[getElem_set];split
  ·rename_i e;subst e;simp[O]
  rfl
 have I:live C.X (S.set k {B with cs:=cs'})=live C.X S:=(by funext b;simp only[live,E])
 refine⟨h.defers,h.size,fun t ht=>?_,⟨fun B' U=>?_,?_⟩,?_,h.ex,h.eM⟩
 ·simp only[I];exact h.env t ht
 ·simp only[I];obtain⟨p,hp,gG⟩:=mem_iff_getElem.1 U;rw[length_set] at hp;rw[getElem_set] at gG;by_cases e:k=p
  ·rw[if_pos e] at gG;subst gG;obtain⟨r0,cur,r1,r2,r3,r4⟩:=h.own.at_ B (mem_of_getElem? hk);refine⟨r0,cur,r1,r2,by show cs'.length≤B.size;omega,fun q hq=>?_⟩;have Z:q<cs'.length:=hq;obtain⟨u,hu,hqr⟩:=r4 q w4;exact⟨u,hu,H2 q w4 Z _ _ _ hqr⟩
  rw[if_neg e] at gG;subst gG;exact h.own.at_ _ (getElem_mem hp)
 ·simp only[E];exact h.own.apart
 simp only[E];exact h.fr
theorem CD.cells{c:Code}{S':List ag}{k:Nat}{B:ag}{cs':List D}(hk:x.S[k]?=some B)(H:pL B.cs cs')(hS:x.S.set k {B with cs:=cs'}=S')(K:CD P C c ⟨x.n,x.env,S'⟩ Q):CD P C c x Q:=CD.wk (Wk.cells (n:=x.n) (l:=x.env) (S:=x.S) hk H hS) K
theorem Wk.H9 {n i j m cap e sz:Nat} {S Sq R:List ag} {A:ag} {cs:List D} {ad:Option Addr} (ho:bw e sz cs m ad cap Sq) (hl:cs.length=m*sz) (hp:S.Perm (Sq++R)) (hj:R[j]?=some A) (hi:A.cs[i]?=some (.v (.slice ad m cap)))
  (E:A.cs.set i (.list sz cs m)=cs') (hS:R.set j {A with cs:=cs'}=S') (hne:isMap e=false:=by rfl):Wk ⟨n,l,S⟩ ⟨n,l,S'⟩:=by
 refine(Wk.perm hp).trans ?_;rcases ho with ⟨rfl,rfl,rfl,rfl,rfl⟩|⟨b,rfl,h1,h2,rfl⟩
 ·refine Wk.cells (B:=A) hj ?_ hS;subst E;have key:∀(I:List D) (i:Nat),I[i]?=some (.v (.slice none 0 0))→pL I (I.set i (.list sz [] 0)):=by
   have O:∀r:List D,pL r r:=by
    intro r;induction r with
    | nil=>trivial
    | cons d r ih=>exact⟨eR,ih⟩
   intro I;induction I with
   | nil=>intro i h;simp at h
   | cons d r ih =>
    intro i h;cases i with
    | zero=>simp only[getElem?_cons_zero,Option.some.injEq] at h;subst h;exact⟨gd,O r⟩
    | succ i=>simp only[getElem?_cons_succ] at h;exact⟨eR,ih i h⟩
  exact key _ _ hi
 exact Wk.aeq (hne:=hne) (k:=0) rfl hj hi rfl hl h1 h2 E hS
theorem CD.H9 {c:Code} {i j m cap e sz:Nat} {Sq R S':List ag} {A:ag} {cs cs':List D} {ad:Option Addr} (ho:bw e sz cs m ad cap Sq) (hl:cs.length=m*sz) (hp:x.S.Perm (Sq++R)) (hj:R[j]?=some A) (hi:A.cs[i]?=some (.v (.slice ad m cap)))
  (E:A.cs.set i (.list sz cs m)=cs') (hS:R.set j {A with cs:=cs'}=S') (K:CD P C c ⟨x.n,x.env,S'⟩ Q) (hne:isMap e=false:=by rfl):CD P C c x Q:=CD.wk (Wk.H9 (hne:=hne) (n:=x.n) (l:=x.env) (S:=x.S) ho hl hp hj hi E hS) K

end Go.Proofs.YtbcmjoaggammcaaGreatDoor.V

namespace Go.Proofs.YtbcmjoaggammcaaGreatDoor.V
open List
open Go.RowKit
variable {P:Program} {C:dF} {G:List (Nat×List Value)} {Q:Exit→St→Prop} {x:St} {ops:Array Oper} {l:List Oper} {o:Oper} {S1 T:List Nat} {fuel i:Nat} {ld:Array Bool}
theorem bg.J3 {f t:Nat} {fo:Operand} {cW:Array Operand} {ts:Array TypeId} {args:List D} {post:D→List ag→Prop} (hi:ops[i]?=some o) (hw:cc ops x o true) (ho:o.op = .call {callee:=.value fo,args:=cW,argTypes:=ts}) (hd:o.dst=some t)
  (hf:fo = .func f) (fi:∀args w,(callFunc f args).run P w = .ok (.enter f args) w) (hc:VC P C.G f args [] post) (hr:∀r S',post r S'→kC r=true∧∀B∈S',∀d∈B.cs,kC d=true) (ha:Looks x cW.toList args)
  (K:∀r S',post r S'→AD P C ops S1 T fuel (ld.setIfInBounds i true) ⟨x.n,(t,r)::x.env,S'++x.S⟩ Q):bg P C ops S1 T fuel ld x Q i :=
 bg.fQ hi hw (Hy ho hd hf fi hc hr ha) (fun _ _ _ _ b _ hb=>by simp at hb) (fun b hb=>by simp at hb) fun y ⟨r,S',hp,hy⟩=>hy ▸ K r S' hp
theorem Rv:∀r:List D,pL r r
 | []=>trivial
 | _::r=>⟨eR,Rv r⟩
theorem Rw{d d':D}(h:Gv d d'):∀(r:List D) (i:Nat),pL (r.set i d) (r.set i d')
 | [],_=>trivial
 | _::r,0=>⟨h,Rv r⟩
 | _::r,i+1=>⟨eR,Rw h r i⟩
theorem OD.cells{S':List ag}{k:Nat}{B:ag}{cs':List D}(hk:x.S[k]?=some B)(H:pL B.cs cs')(hS:x.S.set k {B with cs:=cs'}=S')(K:OD P C ops l ⟨x.n,x.env,S'⟩ Q):OD P C ops l x Q:=OD.wk (Wk.cells (n:=x.n) (l:=x.env) (S:=x.S) hk H hS) K

theorem Wk.aeG{n t:Nat}{r d':D}{l:List (Nat×D)}{S R Sd:List ag}(hp:S.Perm (R++Sd))(ht:View Sd r d'):Wk ⟨n,(t,r)::l,S⟩ ⟨n,(t,d')::l,R⟩:=fun C a w h0=>by
 have h:=Wk.perm (n:=n) (env:=(t,r)::l) hp C a w h0;have h1:bG C ⟨n,(t,r)::l,R⟩ a w:=Wk.drop n ((t,r)::l) _ R (sublist_append_left _ _) C a w h;refine⟨h1.defers,h1.size,fun q hq=>?_,h1.own,h1.fr,h1.ex,h1.eM⟩;rw[fO];by_cases e:t=q
 ·subst e;rw[if_pos rfl];have hL:live C.X (R++Sd)=live (fun b=>live C.X R b) Sd:=by
   funext b;simp only[live,ap,map_append,mem_append];exact propext or_assoc.symm
  have hnd:(ap R++ap Sd).Nodup:=(by have:=h.own.apart;simpa[ap] using this)
  have I:∀b,live C.X R b→b∉ap Sd:=fun b hb hm=>by
   rcases hb with hb|hb
   ·exact h.Ab b hb (by simp only[ap,map_append,mem_append] at hm ⊢;exact .inr hm)
   exact(nodup_append.1 hnd).2.2 b hb b hm rfl
  have E:Own w (live (fun b=>live C.X R b) Sd) Sd:=⟨fun B O=>by rw[←hL];exact h.own.at_ B (mem_append_right _ O),(nodup_append.1 hnd).2.1⟩
  have h3:=h.env t hq;rw[fO,if_pos rfl] at h3;simp only[hL] at h3;exact ht (fun b=>live C.X R b) _ w _ (fun b hb=>hb) I E h3
 rw[if_neg e];have h3:=h1.env q hq;rwa [fO,if_neg e] at h3
theorem ZI {f t:Nat} {fo:Operand} {cW:Array Operand} {ts:Array TypeId} {args:List D} {post:D→List ag→Prop} {d:D} (ho:o.op = .call {callee:=.value fo,args:=cW,argTypes:=ts}) (hd:o.dst=some t)
  (hf:fo = .func f) (fi:∀args w,(callFunc f args).run P w = .ok (.enter f args) w) (hc:VC P G f args [] post) (hr:∀r S',post r S'→kC r=true∧∀B∈S',∀d∈B.cs,kC d=true) (O:∀r S',post r S'→View S' r d) (ha:Looks x cW.toList args) :
  fJ P G x o [] (fun y=>y=⟨x.n,(t,d)::x.env,x.S⟩):=fun C a w K R hG h hK=>by
 refine Hy ho hd hf fi hc hr ha C a w K R hG h fun y a' w' ⟨r,S',hp,hy⟩ I uq E=>?_;subst hy;have h1:Wk ⟨x.n,(t,r)::x.env,S'++x.S⟩ ⟨x.n,(t,d)::x.env,x.S⟩:=Wk.aeG perm_append_comm (O r S' hp);refine hK _ a' w' rfl (h1 C a' w' I) uq ⟨E.os,E.tape,E.output,E.size,fun b hb hn=>⟨(E.block b hb hn).1,hn⟩⟩
section pe
variable {c:Bool} {n t f:Nat} {S:List ag} {ts:List Nat} {e lr:List (Nat×D)} {R:List (Nat×D)→Prop} {fo:Operand} {cW:Array Operand} {tt:Array TypeId} {args:List D} {d:D} {post:D→List ag→Prop}
theorem zi (hc:VC P G f args [] post) (CC:∀r S',post r S'→kC r=true∧∀B∈S',∀d∈B.cs,kC d=true) (E:∀r S',post r S'→View S' r d) (ho:o.op = .call {callee:=.value fo,args:=cW,argTypes:=tt}:=by exact rfl)
  (hd:o.dst=some t:=by exact rfl) (hr:fC (j6 ops o) e lr:=by exact jw) (ha:Looks ⟨n,lr,S⟩ cW.toList args) (K:PE c P G n S ops ts l ((t,d)::e) R) (hq:(!c||mV ops o (j6 ops o))=true:=by kernel_rfl) (hw:cc ops ⟨n,lr,S⟩ o true:=by exact oO) (hf:fo = .func f:=by exact rfl) (fi:wU P f=true:=by kernel_rfl):PE c P G n S ops ts (o::l) e R :=
 .cons hd hr hq hw (ZI ho hd hf (Tg fi) hc CC E ha) K
theorem zj (hc:VP P G f args d) (ho:o.op = .call {callee:=.value fo,args:=cW,argTypes:=tt}:=by exact rfl)
  (hd:o.dst=some t:=by exact rfl) (hr:fC (j6 ops o) e lr:=by exact jw) (ha:Looks ⟨n,lr,S⟩ cW.toList args) (K:PE c P G n S ops ts l ((t,d)::e) R) (CC:kC d=true:=by exact rfl) (hq:(!c||mV ops o (j6 ops o))=true:=by kernel_rfl) (hw:cc ops ⟨n,lr,S⟩ o true:=by exact oO) (hf:fo = .func f:=by exact rfl) (fi:wU P f=true:=by kernel_rfl):PE c P G n S ops ts (o::l) e R :=
 zi hc (fun r S' h=>by obtain⟨rfl,rfl⟩:=h;exact⟨CC,fun B E=>by cases E⟩) (fun r S' h=>by obtain⟨rfl,rfl⟩:=h;exact eP) ho hd hr ha K hq hw hf fi
end pe
end Go.Proofs.YtbcmjoaggammcaaGreatDoor.V

namespace Go.Proofs.YtbcmjoaggammcaaGreatDoor.V
open List
open Go.RowKit
variable {P:Program} {C:dF} {G:List (Nat×List Value)} {Q:Exit→St→Prop} {ops:Array Oper} {l l2:List Oper} {o:Oper} {n t:Nat} {d:D} {e e' l':List (Nat×D)} {S S':List ag} {ts:List Nat} {c:Bool} {x:St}
variable {S1:List Nat} {zs:List Value}
structure Al where
 ia:Nat
 ta:Nat
 te:TypeId
 ds:List D
variable {al:List Al}
def fU(al:List Al)(ob:Nat→Option Nat):List ag:=al.flatMap fun a=>bx a.te a.ds (ob a.ta)
def nk(ob:Nat→Option Nat)(t b:Nat):Nat→Option Nat:=fun q=>if q=t then some b else ob q
theorem PY{ob:Nat→Option Nat}{t b:Nat}:∀{al:List Al},(∀a∈al,a.ta≠t)→fU al (nk ob t b)=fU al ob
 | [],_=>rfl
 | a::al,h=>by
  unfold fU;rw[flatMap_cons,flatMap_cons];congr 1
  ·unfold nk;rw[if_neg (h a mem_cons_self)]
  exact PY fun x hx=>h x (mem_cons_of_mem _ hx)
theorem Rx{ob:Nat→Option Nat}{b:Nat}{a:Al}:∀{al:List Al},a∈al→(al.map Al.ta).Nodup→ob a.ta=none→(⟨b,a.te,a.ds.length,a.ds⟩::fU al ob).Perm (fU al (nk ob a.ta b))
 | [],h,_,_=>by cases h
 | y::al,h,hn,ho=>by
  rw[map_cons,nodup_cons] at hn;have e1:fU (y::al) ob=bx y.te y.ds (ob y.ta)++fU al ob:=rfl;have e2:fU (y::al) (nk ob a.ta b)=bx y.te y.ds (nk ob a.ta b y.ta)++fU al (nk ob a.ta b):=rfl;rw[e1,e2];by_cases hy:y=a
  ·subst hy;have h1:fU al (nk ob y.ta b)=fU al ob:=PY fun x hx e=>hn.1 (e ▸ mem_map_of_mem hx);have h2:nk ob y.ta b y.ta=some b:=(by unfold nk;rw[if_pos rfl])
   rw[h1,h2,ho];exact Perm.refl _
  have hm:a∈al:=by
   rcases mem_cons.1 h with h|h
   ·exact absurd h.symm hy
   exact h
  have hne:y.ta≠a.ta:=fun e=>hn.1 (e ▸ mem_map_of_mem hm);have h2:nk ob a.ta b y.ta=ob y.ta:=(by unfold nk;rw[if_neg hne])
  rw[h2];exact(perm_middle (a:=(⟨b,a.te,a.ds.length,a.ds⟩:ag)) (l₁:=bx y.te y.ds (ob y.ta)) (l₂:=fU al ob)).symm.trans (Perm.append_left _ (Rx hm hn.2 ho))
theorem Fr.af4{E w:World}{A B:List ag}(h:Fr E S1 w (ap A))(hp:A.Perm B):Fr E S1 w (ap B):=⟨h.os,h.tape,h.output,h.size,fun b h1 h2=>⟨(h.block b h1 h2).1,fun hm=>(h.block b h1 h2).2 ((hp.map ag.b).symm.subset hm)⟩⟩
def zk(al:List Al)(f:Nat→Nat):List (Nat×D):=al.map fun a=>(a.ta,.v (.pointer (some ⟨f a.ta,0,none⟩)))
def made(al:List Al)(f:Nat→Nat):List ag:=al.map fun a=>⟨f a.ta,a.te,a.ds.length,a.ds⟩
theorem PZ{ob:Nat→Option Nat}{f:Nat→Nat}:∀{al:List Al},(∀a∈al,ob a.ta=some (f a.ta))→fU al ob=made al f
 | [],_=>rfl
 | a::al,h=>by
  show bx a.te a.ds (ob a.ta)++fU al ob=_;rw[h a mem_cons_self,PZ fun x hx=>h x (mem_cons_of_mem _ hx)];rfl
theorem Oy{f:Nat→Nat}{q:Nat}:∀{al:List Al},look q (zk al f++e)=if q∈al.map Al.ta then .v (.pointer (some ⟨f q,0,none⟩)) else look q e
 | []=>by simp[zk]
 | a::al=>by
  show look q ((a.ta,_)::(zk al f++e))=_;rw[fO,Oy (al:=al)];by_cases h:a.ta=q
  ·rw[if_pos h,if_pos (by rw[map_cons,h];exact mem_cons_self),h]
  rw[if_neg h,map_cons];by_cases h2:q∈al.map Al.ta
  ·rw[if_pos h2,if_pos (mem_cons_of_mem _ h2)]
  rw[if_neg h2,if_neg (fun hm=>by rcases mem_cons.1 hm with hm|hm;exact h hm.symm;exact h2 hm)]
theorem acS {eF:List (Nat×D)} {w1:World} (hA:∀a∈al,∃oa,ops[a.ia]?=some oa∧oa.dst=some a.ta∧oa.guard=none∧∀S',fJ P C.G ⟨n,[],S'⟩ oa [] (wj ⟨n,[],S'⟩ a.ta a.te a.ds)) (hnd:(al.map Al.ta).Nodup)
  (hj:∀a∈al,look a.ta eF = .bU) (hp:mb ops=true) (H:∀i,i<ops.size→Gd P C.G n S ops eF i) (hQ:∀f,Q .normal ⟨n,zk al f++eF,made al f++S⟩):∀(fuel:Nat) (ld:Array Bool) (env:List (Nat×D)) (ob:Nat→Option Nat) (a:Act) (w:World),
  left ops.size ld≤fuel→bG C ⟨n,env,fU al ob++S⟩ a w→Fr w1 S1 w (ap (fU al ob++S))→(∀x∈al,ld.getD x.ia true=true→∃b,ob x.ta=some b∧look x.ta env = .v (.pointer (some ⟨b,0,none⟩)))→(∀x∈al,ld.getD x.ia true=false→ob x.ta=none) →
   (∀q,q∉al.map Al.ta→(∀j o,ops[j]?=some o→o.dst=some q→ld.getD j true=true)→look q env=look q eF)→wpAnyH P .any ops (LQ C Q) (kE w1 S1 []) fuel ld a w:=by
 have Gx:∀x∈al,∀j o,ops[j]?=some o→o.dst=some x.ta→j=x.ia:=fun x hx j o hj hd=>by
  obtain⟨oa,lR,lf,_,_⟩:=hA x hx;rcases Nat.lt_trichotomy j x.ia with q|q|q
  ·obtain⟨t',h1,h2⟩:=(wg hp lR).2;rw[lf] at h1;obtain rfl:=Option.some.inj h1;exact absurd hd (h2 j o q hj)
  ·exact q
  obtain⟨t',h1,h2⟩:=(wg hp hj).2;rw[hd] at h1;obtain rfl:=Option.some.inj h1;exact absurd lf (h2 x.ia oa q lR)
 have ff:∀(ld:Array Bool) (env:List (Nat×D)) (ob:Nat→Option Nat) (a:Act) (w:World),bG C ⟨n,env,fU al ob++S⟩ a w→(∀x∈al,ld.getD x.ia true=true→∃b,ob x.ta=some b∧look x.ta env = .v (.pointer (some ⟨b,0,none⟩)))→(∀q,q∉al.map Al.ta→(∀j o,ops[j]?=some o→o.dst=some q→ld.getD j true=true)→look q env=look q eF)→(∀j,j<ops.size→ld.getD j true=true)→LQ C Q .normal a w:=fun ld env ob a w hs hb he fa=>by
  have oP:∀x∈al,ob x.ta=some ((ob x.ta).getD 0)∧look x.ta env = .v (.pointer (some ⟨(ob x.ta).getD 0,0,none⟩)):=fun x hx=>by
   obtain⟨oa,lR,_⟩:=hA x hx;obtain⟨b,h1,h2⟩:=hb x hx (fa x.ia (Array.getElem?_eq_some_iff.1 lR).1);rw[h1];exact⟨rfl,h2⟩
  have xH:fU al ob=made al (fun q=>(ob q).getD 0):=PZ fun x hx=>(oP x hx).1;rw[xH] at hs;refine .inl ⟨⟨n,zk al (fun q=>(ob q).getD 0)++eF,made al (fun q=>(ob q).getD 0)++S⟩,⟨hs.defers,hs.size,fun q hq=>?_,hs.own,hs.fr,hs.ex,hs.eM⟩,hQ _⟩;have:=hs.env q hq;rw[Oy];by_cases E:q∈al.map Al.ta
  ·rw[if_pos E];obtain⟨x,hx,rfl⟩:=mem_map.1 E;rw[(oP x hx).2] at this;exact this
  rw[if_neg E];rw[he q E fun j o hj _=>fa j (Array.getElem?_eq_some_iff.1 hj).1] at this;exact this
 intro fuel;induction fuel with
 | zero =>
  intro ld env ob a w hl hs hf hb jz he;have fa:∀j,j<ops.size→ld.getD j true=true:=fun j hj=>by
   cases hq:ld.getD j true with
   | true=>rfl
   | false=>have:=yC hj hq;omega
  refine⟨?_,ff ld env ob a w hs hb he fa⟩;rw[eq_nil_iff_forall_not_mem];intro j hj;obtain⟨h1,o,h2,_⟩:=mem_ready.1 hj;have:=fa j (Array.getElem?_eq_some_iff.1 h2).1;rw[h1] at this;cases this
 | succ fuel ih =>
  intro ld env ob a w hl hs hf hb jz he;refine⟨fun h0=>ff ld env ob a w hs hb he (Ju hp h0),fun i hi=>?_⟩;obtain⟨kQ,o,I,BJ⟩:=mem_ready.1 hi;have aa:=(Array.getElem?_eq_some_iff.1 I).1;have UR:=yC aa kQ;have rZ:∀j,(ld.setIfInBounds i true).getD j true=true↔j=i∨ld.getD j true=true:=fun j=>by
   by_cases hj:j=i
   ·subst hj;have gX:j<ld.size:=by
     rcases Nat.lt_or_ge j ld.size with h|h
     ·exact h
     rw[Array.getD_eq_getD_getElem?,Array.getElem?_eq_none h] at kQ;cases kQ
    simp[Array.getD_eq_getD_getElem?,Array.getElem?_setIfInBounds,gX]
   simp[Array.getD_eq_getD_getElem?,Array.getElem?_setIfInBounds,hj,Ne.symm hj]
  have O:∀j,j≠i→(ld.setIfInBounds i true).getD j true=ld.getD j true:=fun j hj=>by
   simp[Array.getD_eq_getD_getElem?,Array.getElem?_setIfInBounds,Ne.symm hj]
  by_cases rq:∃x∈al,x.ia=i
  ·obtain⟨x,hx,rfl⟩:=rq;obtain⟨oa,lR,lf,xP,hE⟩:=hA x hx;rw[lR] at I;obtain rfl:=Option.some.inj I;have oP:=jz x hx kQ;unfold wpOp;rw[lR];have hw:Region.wanted oa (yielded ops a.tmps)=true:=(by simp[Region.wanted,xP])
   simp only[hw,if_true];have oN:bG C ⟨n,[],fU al ob++S⟩ a w:=⟨hs.defers,hs.size,fun q hq=>.bU _,hs.own,hs.fr,hs.ex,hs.eM⟩
   have h2:=hE (fU al ob++S) C a w (fun a' w'=>∃b,bG C ⟨n,[(x.ta,.v (.pointer (some ⟨b,0,none⟩)))],⟨b,x.te,x.ds.length,x.ds⟩::(fU al ob++S)⟩ a' w'∧Fr w (ap (fU al ob++S)) w' (ap (⟨b,x.te,x.ds.length,x.ds⟩::(fU al ob++S)))) (LQ C Q) rfl oN (fun y a' w' ⟨b,hy⟩ rp _ ug=>by subst hy;exact⟨b,rp,ug⟩);refine .inl (Oper.wp_mono (fun a' w' h3=>?_) (yB h2));obtain⟨⟨b,h4,h5⟩,v,h6⟩:=h3;rw[lf] at h6;have vt:(⟨b,x.te,x.ds.length,x.ds⟩::(fU al ob++S)).Perm (fU al (nk ob x.ta b)++S):=Perm.append_right S (Rx hx hnd oP);have jn:Fr w1 S1 w' (ap (fU al (nk ob x.ta b)++S)):=Fr.af4 (hf.trans h5) vt;have um:=Wk.perm vt C a' w' (bG.Th hs h4 h5 h6);refine⟨⟨fun b h2 h3=>(jn.block b h2 h3).1,fun b h2=>by cases h2⟩,ih _ ((x.ta,.v (.pointer (some ⟨b,0,none⟩)))::env) (nk ob x.ta b) a' w' w4 um jn (fun y hy U=>?_) (fun y hy U=>?_) fun q hq uh=>?_⟩
   ·by_cases Z:y.ta=x.ta
    ·exact⟨b,by unfold nk;rw[if_pos Z],by rw[fO,if_pos Z.symm]⟩
    have CG:y.ia≠x.ia:=fun e=>by
     obtain⟨oy,Gz,CH,_⟩:=hA y hy;rw[e,lR] at Gz;obtain rfl:=Option.some.inj Gz;rw[lf] at CH;exact Z (Option.some.inj CH).symm
    rw[O _ CG] at U;obtain⟨b',h7,h8⟩:=hb y hy U;exact⟨b',by unfold nk;rw[if_neg Z];exact h7,by rw[fO,if_neg (fun e=>Z e.symm)];exact h8⟩
   ·by_cases CG:y.ia=x.ia
    ·have:=(rZ y.ia).2 (.inl CG);rw[this] at U;cases U
    rw[O _ CG] at U;have Z:y.ta≠x.ta:=fun e=>by
     obtain⟨oy,Gz,CH,_⟩:=hA y hy;rw[e] at CH;exact CG (Gx x hx _ _ Gz CH)
    unfold nk;rw[if_neg Z];exact jz y hy U
   rw[fO,if_neg (fun e:x.ta=q=>hq (e ▸ mem_map_of_mem hx))];refine he q hq fun j oj hj iL=>?_;rcases(rZ j).1 (uh j oj hj iL) with rfl|h2
   ·rw[lR] at hj;obtain rfl:=Option.some.inj hj;rw[lf] at iL;exact absurd (Option.some.inj iL ▸ mem_map_of_mem hx) hq
   exact h2
  obtain⟨o',t,ts,l',h1,hd,hq,lO,hk,MF⟩:=H i aa;rw[I] at h1;obtain rfl:=Option.some.inj h1;have KJ:t∉al.map Al.ta:=fun hm=>by
   obtain⟨x,hx,e⟩:=mem_map.1 hm;exact rq ⟨x,hx,(Gx x hx i o I (by rw[hd,e])).symm⟩
  have jx:bG C ⟨n,l',fU al ob++S⟩ a w:=⟨hs.defers,hs.size,fun q Cv=>by
   by_cases hm:q∈ts
   ·have sP:=hm;rw[←hk] at sP;obtain⟨p,fH,rfl⟩:=mem_map.1 sP;obtain⟨h2,h3⟩:=lO p fH;have h9:=hs.env p.1 Cv;by_cases ud:p.1∈al.map Al.ta
    ·obtain⟨x,hx,e⟩:=mem_map.1 ud;rw[←h3,←e,hj x hx];exact .bU _
    have:look p.1 env=look p.1 l':=by
     rw[←h3];refine he p.1 ud fun j oj hj iL=>?_;obtain⟨e1,sI,iV,jy⟩:=Ew hq hj iL h2;have:=BJ e1 sI iV;rw[jy] at this;rw[Array.getD_eq_getD_getElem?] at this ⊢;cases hx:ld[j]? with
     | none=>rw[hx] at this;cases this
     | some b=>rw[hx] at this;exact this
    rw[this] at h9;exact h9
   have:look q l' = .bU:=by
    rw[←hk] at hm;exact Eg hm
   rw[this];exact .bU _,hs.own,hs.fr,hs.ex,hs.eM⟩
  have jb:∀(a':Act) (w':World),bG C ⟨n,(t,look t eF)::env,fU al ob++S⟩ a' w'→Fr w (ap (fU al ob++S)) w' (ap (fU al ob++S))→kE w1 S1 [] w'∧wpAnyH P .any ops (LQ C Q) (kE w1 S1 []) fuel (ld.setIfInBounds i true) a' w':=fun a' w' rp ug=>by
   have jn:Fr w1 S1 w' (ap (fU al ob++S)):=hf.trans ug;have xQ:∀x∈al,(ld.setIfInBounds i true).getD x.ia true=ld.getD x.ia true:=fun x hx=>O _ fun e=>rq ⟨x,hx,e⟩;refine⟨⟨fun b h2 h3=>(jn.block b h2 h3).1,fun b h2=>by cases h2⟩,ih _ _ ob a' w' w4 rp jn (fun x hx h=>?_) (fun x hx h=>jz x hx (by rw[xQ x hx] at h;exact h)) fun q Gy uh=>?_⟩
   ·rw[xQ x hx] at h;obtain⟨b,h2,h3⟩:=hb x hx h;exact⟨b,h2,by rw[fO,if_neg (fun e:t=x.ta=>KJ (by rw[e];exact mem_map_of_mem hx))];exact h3⟩
   rw[fO];by_cases E:t=q
   ·rw[if_pos E,E]
   rw[if_neg E];refine he q Gy fun j oj hj iL=>?_;rcases(rZ j).1 (uh j oj hj iL) with rfl|h2
   ·rw[I] at hj;obtain rfl:=Option.some.inj hj;rw[hd] at iL;exact absurd (Option.some.inj iL) E
   exact h2
  unfold wpOp;rw[I];rcases MF with ⟨hw,MG⟩|⟨hw,hv⟩
  ·simp only[hw.frame (B:=fU al ob) C a w jx,if_true];have h2:=MG.frame (B:=fU al ob) C a w (fun a' w'=>bG C ⟨n,(t,look t eF)::l',fU al ob++S⟩ a' w'∧Fr w (ap (fU al ob++S)) w' (ap (fU al ob++S))) (LQ C Q) rfl jx (fun y a' w' hy rp _ ug=>by subst hy;exact⟨rp,ug⟩);refine .inl (Oper.wp_mono (fun a' w' h3=>?_) (yB h2));obtain⟨⟨h4,h5⟩,v,h6⟩:=h3;rw[hd] at h6;exact jb a' w' (hs.yV h4 h5 h6) h5
  simp only[hw.frame (B:=fU al ob) C a w jx,hd];have:=hs.put (t:=t) (.v (w:=w) (L:=live C.X (fU al ob++S)) undef);rw[hv] at jb;exact jb _ w this (Fr.refl _ _)
theorem CD.pdL {id m:Nat} (me:Region.noSelect l.toArray=true) (nj:NP Q) (hm:P.follows .mixedOrders=true) (hl:m≤l.length) (hq:qd m l.toArray=true) (hp:mb (l.take m).toArray=true) (hA:∀a∈al,∃oa,(l.take m)[a.ia]?=some oa∧oa.dst=some a.ta∧oa.guard=none∧∀S',fJ P C.G ⟨n,[],S'⟩ oa [] (wj ⟨n,[],S'⟩ a.ta a.te a.ds)) (hnd:(al.map Al.ta).Nodup)
  (h:PD true P C.G n S (l.take m).toArray (l.take m) e [] e') (hj:∀a∈al,look a.ta e' = .bU) (K:∀f,OD P C l.toArray (l.drop m) ⟨n,zk al f++e',made al f++S⟩ Q):CD P C (.region id l.toArray true) ⟨n,e,S⟩ Q :=
 CD.Fh m [] me nj hm hl hq (fun _ hb=>by cases hb) (fun a w hs _ _=>by
  have h':PD true P C.G n S (l.take m).toArray (l.take m).toArray.toList e [] e':=(by simpa using h)
  have hg:=h'.wS hp rfl 0 rfl;have E:∀a∈al,∃oa,(l.take m).toArray[a.ia]?=some oa∧oa.dst=some a.ta∧oa.guard=none∧∀S',fJ P C.G ⟨n,[],S'⟩ oa [] (wj ⟨n,[],S'⟩ a.ta a.te a.ds):=fun a ha=>by
   obtain⟨oa,h1,h2⟩:=hA a ha;exact⟨oa,by simpa using h1,h2⟩
  have I:(l.take m).toArray.size=m:=(by simp;omega)
  have nY:fU al (fun _=>none)=[]:=by
   clear hA E hnd hj K;induction al with
   | nil=>rfl
   | cons a al ih=>show bx a.te a.ds none++fU al (fun _=>none)=[];rw[ih];rfl
  refine acS (Q:=Tl P C l.toArray (l.drop m) Q) E hnd hj hp (fun i hi=>hg i (Nat.zero_le _) hi) K _ _ e (fun _=>none) a w ?_ (by rw[nY];exact hs) (by rw[nY];exact Fr.refl _ _) (fun x hx h=>?_) (fun _ _ _=>rfl) fun q Gy Z=>?_
  ·rw[I];unfold left;exact Nat.le_trans (length_filter_le _ _) bq
  ·obtain⟨oa,O,_⟩:=E x hx;have aa:=(Array.getElem?_eq_some_iff.1 O).1;rw[I] at aa;simp[Array.getD_eq_getD_getElem?,aa] at h
  refine(h'.later fun o ho hd=>?_).symm;obtain⟨j,hj,rfl⟩:=mem_iff_getElem.1 ho;have U:j<(l.take m).toArray.size:=(by simpa using hj)
  have:=Z j _ (by rw[←Array.getElem?_toList,getElem?_eq_getElem hj]) hd;rw[I] at U;simp[Array.getD_eq_getD_getElem?,U] at this)
def EU(P:Program)(l:List Oper)(ia ta te:Nat):Bool:=match l[ia]? with
 | some o=>(match o.op with|.alloc te'=>Nat.beq te' te|_=>false)&&(match o.dst with|some t=>Nat.beq t ta|none=>false)&&o.guard.isNone && !(isMap te)
 | none=>false
theorem P0{l:List Oper}{ia ta te:Nat}(h:EU P l ia ta te=true)(hz:rT P te=some zs):∃oa,l[ia]?=some oa∧oa.dst=some ta∧oa.guard=none∧∀S',fJ P G ⟨n,[],S'⟩ oa [] (wj ⟨n,[],S'⟩ ta te (zs.map .v)):=by
 unfold EU at h;split at h
 ·rename_i o ho;simp only[Bool.and_eq_true,Bool.not_eq_true'] at h;obtain⟨⟨⟨h1,h2⟩,h3⟩,h4⟩:=h;obtain⟨z,lQ,E⟩:=AW hz;split at h1
  ·rename_i O I;obtain rfl:=Nat.eq_of_beq_eq_true h1;split at h2
   ·rename_i t hd;obtain rfl:=Nat.eq_of_beq_eq_true h2;exact⟨o,ho,hd,Option.isNone_iff_eq_none.1 h3,fun S'=>Ax (hne:=h4) I hd lQ (by rw[E])⟩
   cases h2
  cases h1
 cases h
variable {R:List (Nat×D)→Prop}
theorem dv_ {id ta tb:Nat} {te tf:TypeId} {zt:List Value} (m ia ib:Nat) (ts:List Nat) (h:PE true P C.G n S (l.take m).toArray ts (l.take m) e fun l'=>look ta l' = .bU∧look tb l' = .bU∧∀b U,OD P C l.toArray (l.drop m) ⟨n,(ta,.v (.pointer (some ⟨b,0,none⟩)))::(tb,.v (.pointer (some ⟨U,0,none⟩)))::l',⟨b,te,(zs.map D.v).length,zs.map .v⟩::⟨U,tf,(zt.map D.v).length,zt.map .v⟩::S⟩ Q) (hm:P.follows .mixedOrders=true:=by kernel_rfl) (hl:Nat.ble m l.length=true:=by kernel_rfl) (hq:qd m l.toArray=true:=by kernel_rfl) (hp:mb (l.take m).toArray=true:=by kernel_rfl)
  (lf:((l.take m)[ia]?.bind (·.dst))=some ta:=by exact rfl) (hdb:((l.take m)[ib]?.bind (·.dst))=some tb:=by exact rfl) (hea:((l.take m)[ia]?.bind fun o=>match o.op with|.alloc te=>some te|_=>none)=some te:=by exact rfl) (heb:((l.take m)[ib]?.bind fun o=>match o.op with|.alloc te=>some te|_=>none)=some tf:=by exact rfl)
  (hz:rT P te=some zs:=by exact Sb.hz) (xL:rT P tf=some zt:=by exact Sb.hz) (ha:EU P (l.take m) ia ta te=true:=by kernel_rfl) (hb:EU P (l.take m) ib tb tf=true:=by kernel_rfl) (qx:Nat.beq ta tb=false:=by kernel_rfl) (ht:ts.elem ta=true:=by exact rfl) (Gq:ts.elem tb=true:=by exact rfl) (me:Region.noSelect l.toArray=true:=by kernel_rfl) (nj:NP Q:=by exact Gt):CD P C (.region id l.toArray true) ⟨n,e,S⟩ Q:=by
 obtain⟨e',l',h1,h2,hj,iM,K⟩:=h;have hne:ta≠tb:=fun e=>by rw[e,Nat.beq_refl] at qx;cases qx
 refine CD.pdL (al:=[⟨ia,ta,te,zs.map .v⟩,⟨ib,tb,tf,zt.map .v⟩]) me nj hm (Nat.le_of_ble_eq_true hl) hq hp (fun a h=>?_) (by simp[hne]) h1 (fun a h=>?_) fun f=>OD.wk ?_ (K (f ta) (f tb))
 ·rcases mem_cons.1 h with rfl|h
  ·exact P0 ha hz
  rw[mem_singleton] at h;subst h;exact P0 hb xL
 ·rcases mem_cons.1 h with rfl|h
  ·show look ta e'=_;rw[←h2.at (mem_of_elem_eq_true ht)];exact hj
  rw[mem_singleton] at h;subst h;show look tb e'=_;rw[←h2.at (mem_of_elem_eq_true Gq)];exact iM
 intro C a w hs;have E:bG C ⟨n,(ta,.v (.pointer (some ⟨f ta,0,none⟩)))::(tb,.v (.pointer (some ⟨f tb,0,none⟩)))::e',⟨f ta,te,(zs.map D.v).length,zs.map .v⟩::⟨f tb,tf,(zt.map D.v).length,zt.map .v⟩::S⟩ a w:=hs;refine⟨E.defers,E.size,fun q hq=>?_,E.own,E.fr,E.ex,E.eM⟩;have I:=E.env q hq;simp only[fO] at I ⊢;by_cases e1:ta=q
 ·rw[if_pos e1] at I ⊢;exact I
 rw[if_neg e1] at I ⊢;by_cases e2:tb=q
 ·rw[if_pos e2] at I ⊢;exact I
 rw[if_neg e2] at I ⊢;rcases h2.j5.look q with O|O
 ·rw[O];exact I
 rw[O];exact .bU _

end Go.Proofs.YtbcmjoaggammcaaGreatDoor.V
namespace Go.Proofs.YtbcmjoaggammcaaGreatDoor.V
open List
open Go.RowKit
variable {H:Type} {enc:TypeId×Value→H} {P:Program} {w:World} {base:Nat} {sp:Nat→Bool} {held:Bool}
variable {α:Type} {t:TypeId}
def l5(fuel:Nat)(enc:TypeId×Value→H)(P:Program)(w:World)(base:Nat)(sp:Nat→Bool)(held:Bool)(t:TypeId)(g:α→List D)(ok:α→Prop):Prop :=
 ∀cs x,DataW.trod enc P w base sp held fuel t cs=some x→∃a,cH w (fun _=>False) (g a) cs∧ok a
theorem oM.at{g:α→List D}{ok:α→Prop}(h:oM enc P w base sp held t g ok)(n:Nat):l5 n enc P w base sp held t g ok:=h n
theorem cH.one{w:World}{L:Nat→Prop}{d:D}{v:Value}(h:cl w L d v):cH w L [d] [v]:=⟨rfl,fun i h1 h2=>by
 have:i=0:=(by simpa using h1)
 subst this;exact h⟩
theorem Oz{fuel:Nat}{e:TypeId}{sz:Nat}{g:α→List D}{ok:α→Prop}(ht:P.underlying t=some (.slice e))(Z:P.cellsOf e=sz)(gX:0<sz)(re:∀n,n+1=fuel→l5 n enc P w base sp held e g ok)(hg:∀a,(g a).length=sz) :
  l5 fuel enc P w base sp held t (fun l:List α=>[.list sz (l.flatMap g) l.length]) (fun l=>(∀x∈l,ok x)∧l.length≤maxLen):=fun cs x h=>by
 rcases DataW.trod_slice ht h with ⟨rfl,_⟩|⟨a,len,cap,anl,rest,n,hn,rfl,_,hb,hl,dy,hlen,CJ,_,_⟩
 ·exact⟨[],cH.one (.nil sz),(fun x hx=>by cases hx),Nat.zero_le _⟩
 have re':=re n hn.symm;rcases Nat.eq_zero_or_pos len with h0|h0
 ·subst h0;exact⟨[],cH.one (.lZ sz (some a) cap),(fun x hx=>by cases hx),Nat.zero_le _⟩
 have each:∀i:Fin len,∃y:α,(∃cs',w.cells? base (a.add (i.1*P.cellsOf e)) (P.cellsOf e)=some cs'∧cH w (fun _=>False) (g y) cs')∧ok y:=fun i=>by
  have h1:=CJ i.1 i.2;rw[getElem?_eq_getElem (by rw[hlen];exact i.2)] at h1;cases hc:w.cells? base (a.add (i.1*P.cellsOf e)) (P.cellsOf e) with
  | none=>rw[hc] at h1;cases h1
  | some cs' =>
   rw[hc] at h1;obtain⟨y,h3,h4⟩:=re' _ _ h1;exact⟨y,⟨cs',rfl,h3⟩,h4⟩
 obtain⟨cs0,az,_⟩:=(Classical.choose_spec (each ⟨0,h0⟩)).1;obtain⟨_,mF,h5⟩:=World.cells?_some az;have h6:=h5 0 w4;rw[getElem?_eq_getElem w4,Nat.zero_mul,show(a.add 0).add 0=a from by simp[Addr.add]] at h6;have E:a.spot=none∧a.block<w.heap.size:=by
  unfold World.cell? at h6;cases hh:w.heap[a.block]? with
  | none=>rw[hh] at h6;cases h6
  | some o =>
   rw[hh] at h6;refine⟨?_,?_⟩
   ·cases o with
    | cells c t f =>
     cases hs:a.spot with
     | none=>rfl
     | some q=>simp[hs] at h6
    | _=>cases h6
   rcases Nat.lt_or_ge a.block w.heap.size with h2|h2
   ·exact h2
   rw[Array.getElem?_eq_none h2] at hh;cases hh
 obtain⟨b,o,s⟩:=a;obtain⟨rfl,aa⟩:=E;let l:List α:=ofFn fun i:Fin len=>Classical.choose (each i)
 have lP:l.length=len:=(by simp[l])
 have O:∀i (hi:i<l.length),(∃cs',w.cells? base ((⟨b,o,none⟩:Addr).add (i*P.cellsOf e)) (P.cellsOf e)=some cs'∧cH w (fun _=>False) (g l[i]) cs')∧ok l[i]:=fun i hi=>by
  have:=Classical.choose_spec (each ⟨i,by omega⟩);simpa[l] using this
 refine⟨l,cH.one ?_,fun x hx=>?_,by omega⟩
 ·have key:∀k,k<(l.flatMap g).length→∃u,w.cell? ⟨b,o+k,none⟩=some u∧∀h:k<(l.flatMap g).length,cl w (fun _=>False) (l.flatMap g)[k] u:=fun k hk=>by
   rw[cq hg] at hk;have hi:k/sz<l.length:=Nat.div_lt_of_lt_mul (by rw[Nat.mul_comm];exact hk);have hj:k % sz<sz:=Nat.mod_lt _ gX;have kZ:k/sz*sz+k % sz=k:=(by rw[Nat.mul_comm];exact Nat.div_add_mod k sz)
   obtain⟨⟨cs',h1,h2⟩,_⟩:=O _ hi;obtain⟨_,h4,h5⟩:=World.cells?_some h1;have h6:=h5 (k % sz) w4;have U:k % sz<cs'.length:=(by omega)
   rw[getElem?_eq_getElem U,Go.Deep.add_add,Z,kZ,Addr.add_mid] at h6;refine⟨_,h6,fun h=>?_⟩;have h7:=h2.2 (k % sz) (by rw[hg];exact hj) U;have h8:=yA hg hi (getElem?_eq_getElem (show k % sz<(g l[k/sz]).length by rw[hg];exact hj));rw[kZ,getElem?_eq_getElem h] at h8;rw[Option.some.inj h8];exact h7
  have I:Value.slice (some ⟨b,o,none⟩) len cap=Value.slice (some ⟨b,o,none⟩) l.length cap:=(by rw[lP])
  rw[I];refine cl.list (L:=fun _=>False) sz (l.flatMap g) l.length b o cap (fun k=>(w.cell? ⟨b,o+k,none⟩).getD undef) (cq hg l) w4 dy aa (fun h=>h.elim) (fun k hk=>?_) (fun k hk=>?_)
  ·obtain⟨u,h1,_⟩:=key k hk;rw[h1];rfl
  obtain⟨u,h1,h2⟩:=key k hk;simp only[h1,Option.getD_some];exact h2 hk
 obtain⟨i,hi,rfl⟩:=mem_iff_getElem.1 hx;exact(O i hi).2
theorem YO {fuel:Nat} {f0 f1 f2 f3:Field} {E I O U:Type} {g0:E→List D} {g1:I→List D} {g2:O→List D} {g3:U→List D} {k0:E→Prop} {k1:I→Prop} {k2:O→Prop} {k3:U→Prop} {n0 n1 n2 n3:Nat}
  (ht:P.underlying t=some (.struct #[f0,f1,f2,f3])) (hc:P.cellsOf t=n0+n1+n2+n3) (o0:f0.offset=0) (o1:f1.offset=n0) (o2:f2.offset=n0+n1) (o3:f3.offset=n0+n1+n2) (c0:P.cellsOf f0.type=n0) (c1:P.cellsOf f1.type=n1) (c2:P.cellsOf f2.type=n2) (c3:P.cellsOf f3.type=n3)
  (r0:∀n,n+1=fuel→l5 n enc P w base sp held f0.type g0 k0) (r1:∀n,n+1=fuel→l5 n enc P w base sp held f1.type g1 k1) (r2:∀n,n+1=fuel→l5 n enc P w base sp held f2.type g2 k2) (r3:∀n,n+1=fuel→l5 n enc P w base sp held f3.type g3 k3) :
  l5 fuel enc P w base sp held t (fun a:E × I × O × U=>g0 a.1++(g1 a.2.1++(g2 a.2.2.1++g3 a.2.2.2))) (fun a=>k0 a.1∧k1 a.2.1∧k2 a.2.2.1∧k3 a.2.2.2):=fun cs x h=>by
 obtain⟨xs,n,hn,_,hl,fT,hf⟩:=DataW.trod_struct ht h;have Z:=hf 0 f0 rfl;have e1:=hf 1 f1 rfl;have e2:=hf 2 f2 rfl;have e3:=hf 3 f3 rfl;rw[o0,c0,drop_zero] at Z;rw[o1,c1] at e1;rw[o2,c2] at e2;rw[o3,c3] at e3;have Mj:xs.length=4:=fT;rw[getElem?_eq_getElem w4] at Z e1 e2 e3;obtain⟨a0,p0,q0⟩:=r0 n hn.symm _ _ Z;obtain⟨a1,p1,q1⟩:=r1 n hn.symm _ _ e1;obtain⟨a2,p2,q2⟩:=r2 n hn.symm _ _ e2;obtain⟨a3,p3,q3⟩:=r3 n hn.symm _ _ e3;refine⟨(a0,a1,a2,a3),?_,q0,q1,q2,q3⟩;have dw:cs=cs.take n0++((cs.drop n0).take n1++((cs.drop (n0+n1)).take n2++(cs.drop (n0+n1+n2)).take n3)):=by
  rw[take_of_length_le (l:=drop (n0+n1+n2) cs) (by rw[length_drop];omega)];have e1:cs.drop (n0+n1+n2)=(cs.drop (n0+n1)).drop n2:=(by rw[drop_drop])
  have e2:cs.drop (n0+n1)=(cs.drop n0).drop n1:=(by rw[drop_drop])
  rw[e1,take_append_drop,e2,take_append_drop,take_append_drop]
 rw[dw];exact p0.append (p1.append (p2.append p3))

end Go.Proofs.YtbcmjoaggammcaaGreatDoor.V
namespace Go.Proofs.YtbcmjoaggammcaaGreatDoor.V
open List
open Go.RowKit
variable {P:Program} {C:dF} {G:List (Nat×List Value)} {Q:Exit→St→Prop} {x:St} {ops:Array Oper} {l:List Oper} {o:Oper} {S1 T:List Nat} {fuel i:Nat} {ld:Array Bool}
variable {y:Operand} {t e tt m b k cap:Nat} {B:ag} {kq kn:IntKind} {ts:Array TypeId}
def toEnd(B:ag):ag:={B with cs:=B.cs++replicate (B.size-B.cs.length) .bU}
theorem Wk.toEnd{n:Nat}{l:List (Nat×D)}{S:List ag}{k:Nat}{B:ag}(hk:S[k]?=some B):Wk ⟨n,l,S⟩ ⟨n,l,S.set k (V.toEnd B)⟩:=fun C a w h=>by
 have E:ap (S.set k (V.toEnd B))=ap S:=by
  unfold ap;rw[map_set];have aa:k<S.length:=(List.getElem?_eq_some_iff.1 hk).1;have:(S.map ag.b)[k]'(by simpa using aa)=B.b:=(by rw[getElem_map];rw[(List.getElem?_eq_some_iff.1 hk).2])
  show(S.map ag.b).set k B.b=_;rw[←this,set_getElem_self]
 have hl:live C.X (S.set k (V.toEnd B))=live C.X S:=(by funext b;unfold live;rw[E])
 refine⟨h.defers,h.size,by simpa only[hl] using h.env,⟨fun B' I=>?_,by rw[E];exact h.own.apart⟩,by simpa only[E] using h.fr,h.ex,h.eM⟩;rw[hl];rcases mem_or_eq_of_mem_set I with I|rfl
 ·exact h.own.at_ B' I
 obtain⟨r0,cur,r1,r2,Z,U⟩:=h.own.at_ B (mem_of_getElem? hk);have key:∀i (hi:i<(B.cs++replicate (B.size-B.cs.length) D.bU).length),∃u,cur[i]?=some u∧cl w (live C.X S) (B.cs++replicate (B.size-B.cs.length) D.bU)[i] u:=fun i hi=>by
  have O:=hi;rw[length_append,length_replicate] at O;rcases Nat.lt_or_ge i B.cs.length with q|q
  ·obtain⟨u,hu,hq⟩:=U i q;exact⟨u,hu,by rw[getElem_append_left q];exact hq⟩
  exact⟨cur[i]'w4,Array.getElem?_eq_getElem w4,by rw[getElem_append_right q,getElem_replicate];exact .bU _⟩
 refine⟨r0,cur,r1,r2,?_,key⟩;show(B.cs++replicate (B.size-B.cs.length) D.bU).length≤B.size;rw[length_append,length_replicate];omega
theorem abi {d:Operand} {t2 m2 c b2 k2 od oy c2:Nat} {B2:ag} {new cs':List D} (ho:o.op = .call {callee:=.builtin .copy,args:=#[d,y],argTypes:=#[t,t2]}) (hd:o.dst=some tt)
  (ht:P.underlying t=some (.slice e)) (hi:(P.info? e).map (fun i=>i.size)=some 1)
  (hs:aF x d = .v (.slice (some ⟨b,od,none⟩) m c)) (hk:x.S[k]?=some B) (hb:B.b=b) (hy:aF x y = .v (.slice (some ⟨b2,oy,none⟩) m2 c2)) (fq:x.S[k2]?=some B2) (oQ:B2.b=b2)
  (O:(B2.cs.drop oy).take (Nat.min m2 m)=new) (hlen:new.length=Nat.min m2 m) (ie:∀d∈new,one d=true) (hl:od+new.length≤B.cs.length) (dw:da B.cs od new=cs') (hne:isMap B.e=false:=by rfl) (jF:isMap B2.e=false:=by rfl) :
  fJ P G x o [b] (fun y=>y=⟨x.n,(tt,.v (.int .i64 (new.length:Nat)))::x.env,x.S.set k {B with cs:=cs'}⟩):=fun C a w K Q hG h hK=>by
 subst dw hb oQ;obtain⟨h0,cur,q1,q2,q3,q4⟩:=h.fu hk;rw[jY hne] at q1;obtain⟨h02,ny,p1,p2,p3,p4⟩:=h.fu fq;rw[jY jF] at p1;have jV:∀j,(hj:j<new.length)→∃hj2:oy+j<B2.cs.length,new[j]=B2.cs[oy+j]:=fun j hj=>by
  have h2:oy+j<B2.cs.length:=by
   have:=congrArg length O;rw[length_take,length_drop] at this;omega
  refine⟨h2,?_⟩;have e2:new[j]?=some B2.cs[oy+j]:=(by rw[←O,getElem?_take,if_pos w4,getElem?_drop,getElem?_eq_getElem h2])
  rw[getElem?_eq_getElem hj] at e2;exact Option.some.inj e2
 let vs:List Value:=(range new.length).map fun j=>ny.getD (oy+j) undef
 have E:vs.length=new.length:=(by simp[vs])
 have hv:∀j (hj:j<new.length),∃u,ny[oy+j]?=some u∧vs[j]?=some u∧cl w (live C.X x.S) new[j] u:=fun j hj=>by
  obtain⟨h1,h3⟩:=jV j hj;obtain⟨u,I,hq⟩:=p4 (oy+j) h1;refine⟨u,I,?_,h3 ▸ hq⟩;simp[vs,hj,I]
 have hr:cH w (live C.X x.S) new vs:=⟨by rw[E],fun j h1 h2=>by
  obtain⟨u,_,I,hq⟩:=hv j h1;rw[getElem?_eq_getElem h2] at I;rw[Option.some.inj I];exact hq⟩
 obtain⟨s1,s2,s3⟩:=h.store (hne:=hne) hk hr (o':=od) hl;have Z:=run_copy_cells (P:=P) w t t2 o.type e B.b od m c ⟨B2.b,oy,none⟩ m2 c2 vs ht hi (by rw[E,hlen]) (fun j u I=>by
   rw[Addr.add_mid];have hj:j<new.length:=(by rw[←E];exact(List.getElem?_eq_some_iff.1 I).1)
   obtain⟨u',xI,xJ,_⟩:=hv j hj;rw[xJ] at I;rw[←I];exact nK p1 xI) (fun j hj=>by
   have:od+j<cur.size:=(by rw[E] at hj;omega)
   rw[nK q1 (u:=cur[od+j]) (by simp[this])];rfl) (fun j hj=>by unfold World.frozen?;simp[q1]) (fun u I=>by
   obtain⟨j,hj,rfl⟩:=mem_iff_getElem.1 I;have iM:j<new.length:=(by omega)
   exact(hr.2 j iM hj).AJ (ie _ (getElem_mem iM)))
 have U:(execOp a.eval o).run P w = .ok (.value (goInt vs.length)) (w.setCells B.b od vs):=by
  unfold execOp;simp only[ho,resolve,invoke,builtin,Sem.run_bind,Sem.run_pure,Result.andThen_ok,map_toArray,map_cons,map_nil,h.flat hs,h.flat hy,Z]
 unfold Oper.wp;rw[U,Oper.upon_value,hd];exact hK _ _ _ rfl (s1.put (by rw[E];exact .v _)) s2 s3
theorem OD.copy {d y:Operand} {t t2 e tt m I c b b2 k k2 od oy U:Nat} {B B2:ag} {new cs':List D} (hw:cc ops x o true) (ho:o.op = .call {callee:=.builtin .copy,args:=#[d,y],argTypes:=#[t,t2]}) (hd:o.dst=some tt)
  (ht:P.underlying t=some (.slice e)) (hi:(P.info? e).map (fun i=>i.size)=some 1)
  (hs:aF x d = .v (.slice (some ⟨b,od,none⟩) m c)) (hk:x.S[k]?=some B) (hb:B.b=b) (hy:aF x y = .v (.slice (some ⟨b2,oy,none⟩) I U)) (fq:x.S[k2]?=some B2) (O:B2.b=b2)
  (E:(B2.cs.drop oy).take (Nat.min I m)=new) (hlen:new.length=Nat.min I m) (ie:∀d∈new,one d=true) (hl:od+new.length≤B.cs.length) (dw:da B.cs od new=cs')
  (K:OD P C ops l ⟨x.n,(tt,.v (.int .i64 (new.length:Nat)))::x.env,x.S.set k {B with cs:=cs'}⟩ Q) (hne:isMap B.e=false:=by rfl) (jF:isMap B2.e=false:=by rfl):OD P C ops (o::l) x Q :=
 OD.fQ hw (abi (hne:=hne) (jF:=jF) ho hd ht hi hs hk hb hy fq O E hlen ie hl dw) fun y hy=>hy ▸ K
theorem Yp {s:Operand} {tn n bytes:Nat} {z:Value} (ho:o.op = .call {callee:=.builtin .append,args:=#[s,y],argTypes:=#[t,tn]}) (hd:o.dst=some tt)
  (ht:P.underlying t=some (.slice e)) (MH:P.underlying tn=some (.int kn)) (hi:(P.info? e).map (fun i=>(i.zero,i.size,i.bytes))=some (some z,1,bytes)) (eV:z.cells.size=1)
  (hs:aF x s = .v (.slice (some ⟨b,0,none⟩) n cap)) (hk:x.S[k]?=some B) (hb:B.b=b) (hl:n≤B.cs.length) (hy:aF x y = .v (.int kq m)) (hg:cap<n+m) (h0:0<m) (gj:n+m≤maxLen) (O:(n+m)*bytes≤140737488355328) (hne:isMap B.e=false:=by rfl) (jF:isMap e=false:=by rfl) :
  fJ P G x o [] (fun y=>∃b' E,n+m≤E∧E≤maxLen∧y=⟨x.n,(tt,.v (.slice (some ⟨b',0,none⟩) (n+m) E))::x.env,⟨b',e,E*1,B.cs.take n⟩::x.S⟩):=fun C a w K Q hG h hK=>by
 subst hb;obtain⟨i,jU,lN,oL,pI⟩:=yy hi;obtain⟨r0,cur,r1,r2,r3,r4⟩:=h.fu hk;rw[jY hne] at r1;have kP:n≤cur.size:=(by omega)
 have hold:(Builtin.firstCells i.size n (.slice (some ⟨B.b,0,none⟩) n cap)).run P w.drew = .ok (cur.toList.take n).toArray w.drew:=by
  rw[oL];exact run_firstCells_some w.drew 1 n ⟨B.b,0,none⟩ n cap (cur.toList.take n) gU (fun j v hj=>by
   rw[Addr.add_mid];rw[getElem?_take] at hj;split at hj
   ·rw[Array.getElem?_toList] at hj;have:w.drew.heap[B.b]?=some (.cells cur B.e (0,0)):=r1;exact nK this (by rw[Nat.zero_add];exact hj)
   cases hj)
 have I:=Lib.run_append_grow_zeros (P:=P) w t tn o.type e i z kq kn ht MH jU lN (some ⟨B.b,0,none⟩) n cap _ hold m h0 w4 hg (by simp only[maxLen] at gj;omega) (by rw[pI];exact Nat.le_trans (Nat.mul_le_mul_right _ (Nat.le_add_left m n)) w4) (by rw[pI];exact growslice_fits hg O);have h1:=grownCap_ge w (n+m) cap e;have h2:=grownCap_le_maxLen w (n+m) cap e gj;generalize grownCap w (n+m) cap e=E at I h1 h2;generalize Z:(cur.toList.take n).toArray++Builtin.zeroCells z.cells m++Builtin.zeroCells z.cells (E-(n+m))=U at I;have xR:∀q,(Builtin.zeroCells z.cells q).size=q:=fun q=>by
  obtain⟨u,hu⟩:∃u,z.cells = #[u]:=by
   have:z.cells.toList.length=1:=(by simpa using eV)
   obtain⟨u,hu⟩:=length_eq_one_iff.1 this;exact⟨u,by rw[←Array.toArray_toList (xs:=z.cells),hu]⟩
  simp[Builtin.zeroCells,hu]
 have gX:U.size=E*1:=by
  rw[←Z,Array.size_append,Array.size_append,xR,xR];simp;omega
 have J2:(execOp a.eval o).run P w = .ok (.value (.slice (some ⟨w.heap.size,0,none⟩) (n+m) E)) (w.drew.alloc (.cells U e)):=by
  unfold execOp;simp only[ho,resolve,invoke,builtin,Sem.run_bind,Sem.run_pure,Result.andThen_ok,map_toArray,map_cons,map_nil,h.flat hs,h.flat hy,I]
 obtain⟨s1,s2,s3⟩:=h.grown (w':=w.drew.alloc (.cells U e)) (t:=tt) (m:=n+m) (e:=e) (sz:=1) (S:=x.S) (cs:=B.cs.take n) (row:=none) (g:=w.heap.size) (cap:=E) (cur:=U) (hne:=jF) (Sublist.refl _) (fun k hk=>by cases hk)
  ⟨rfl,rfl,rfl,by show w.heap.size≤(w.heap.push _).size;simp,fun k hk _=>getElem?_push_lt (w:=w.drew) hk⟩ (.inr rfl) LU LV gX oH (fun j hj=>by
   have iM:j<n:=(by rw[length_take] at hj;omega)
   obtain⟨u,hu,hq⟩:=r4 j w4;refine⟨u,?_,by rw[getElem_take];exact hq⟩;rw[←Z,Array.append_assoc,Array.getElem?_append_left gU];simp[iM,hu])
 unfold Oper.wp;rw[J2,Oper.upon_value,hd];exact hK _ _ _ ⟨_,_,h1,h2,rfl⟩ s1 s2 s3
theorem OD.Ry {s:Operand} {tn n bytes:Nat} {z:Value} (hw:cc ops x o true) (ho:o.op = .call {callee:=.builtin .append,args:=#[s,y],argTypes:=#[t,tn]}) (hd:o.dst=some tt)
  (ht:P.underlying t=some (.slice e)) (U:P.underlying tn=some (.int kn)) (hi:(P.info? e).map (fun i=>(i.zero,i.size,i.bytes))=some (some z,1,bytes)) (eV:z.cells.size=1)
  (hs:aF x s = .v (.slice (some ⟨b,0,none⟩) n cap)) (hk:x.S[k]?=some B) (hb:B.b=b) (hl:n≤B.cs.length) (hy:aF x y = .v (.int kq m)) (hg:cap<n+m) (h0:0<m) (Z:n+m≤maxLen) (I:(n+m)*bytes≤140737488355328)
  (K:∀O E,n+m≤E→E≤maxLen→OD P C ops l ⟨x.n,(tt,.v (.slice (some ⟨O,0,none⟩) (n+m) E))::x.env,⟨O,e,E*1,B.cs.take n⟩::x.S⟩ Q) (hne:isMap B.e=false:=by rfl) (jF:isMap e=false:=by rfl):OD P C ops (o::l) x Q :=
 OD.fQ hw (Yp (hne:=hne) (jF:=jF) ho hd ht U hi eV hs hk hb hl hy hg h0 Z I) fun y ⟨O,E,h1,h2,hy⟩=>hy ▸ K O E h1 h2
theorem Yc {f:FuncId} {fn:Func} {z:Operand} {r oy c b2 oz m2 c2 k2:Nat} {B2:ag} (ho:o.op = .call {callee:=.value (.func f),args:=#[y,z],argTypes:=ts}) (hd:o.dst=some tt)
  (hf : P.funcs[f]? = some fn) (Bk : (fn.name == "runtime.NumGoroutine") = false) (GA : fn.body.isNone = true) (hn : Extern.findNext fn = none) (he : Extern.find fn = some (Extern.SlicesOverlaps.overlaps #[t, t] #[r])) (ht : P.underlying t = some (.slice e)) (lQ : ∀ w, (sizeOf e).run P w = .ok 1 w)
  (hy:aF x y = .v (.slice (some ⟨b,oy,none⟩) m c)) (hk:x.S[k]?=some B) (hb:B.b=b) (hz:aF x z = .v (.slice (some ⟨b2,oz,none⟩) m2 c2)) (fq:x.S[k2]?=some B2) (oQ:B2.b=b2) (kZ:k≠k2) (um:B2.size≠0) (hne:isMap B.e=false:=by rfl) (jF:isMap B2.e=false:=by rfl) :
  fJ P G x o [] (fun s=>s=x.put tt (.v (.bool false))):=fun C a w K Q hG h hK=>by
 subst hb oQ;obtain⟨r0,cur,r1,r2,r3,r4⟩:=h.fu hk;rw[jY hne] at r1;obtain⟨p0,ny,p1,p2,p3,p4⟩:=h.fu fq;rw[jY jF] at p1;have W0:B.b≠B2.b:=fun e=>by
  have hnd:=h.own.apart;have l1:=(List.getElem?_eq_some_iff.1 hk).1;have l2:=(List.getElem?_eq_some_iff.1 fq).1;have e1:(ap x.S)[k]?=some B.b:=(by unfold ap;rw[getElem?_map,hk];rfl)
  have e2:(ap x.S)[k2]?=some B2.b:=(by unfold ap;rw[getElem?_map,fq];rfl)
  obtain⟨q1,e1⟩:=List.getElem?_eq_some_iff.1 e1;obtain⟨q2,e2⟩:=List.getElem?_eq_some_iff.1 e2;rcases Nat.lt_trichotomy k k2 with q|q|q
  ·exact pairwise_iff_getElem.1 hnd k k2 q1 q2 q (by rw[e1,e2,e])
  ·exact kZ q
  exact pairwise_iff_getElem.1 hnd k2 k q2 q1 q (by rw[e1,e2,e])
 have hc:(callFunc f #[a.eval y,a.eval z]).run P w = .ok (.value (.bool false)) w:=by
  rw[h.flat hy,h.flat hz,run_callFunc_extern hf Bk GA hn he,Lib.run_overlaps_apart w t r e ht 1 lQ ⟨B.b,oy,none⟩ ⟨B2.b,oz,none⟩ m c m2 c2 W0 B.e B2.e cur.size ny.size (by simp[World.shape?,r1]) (by simp[World.shape?,p1]) w4 (by unfold World.frozen?;simp[r1]) (by unfold World.frozen?;simp[r1])];rfl
 unfold Oper.wp;have oE:(execOp a.eval o).run P w = .ok (.value (.bool false)) w:=by
  unfold execOp;have ef:a.eval (.func f) = .func (.func f) #[] #[]:=rfl;simp only[ho,resolve,ef,Deferred.ofValue,Sem.run_bind,Sem.run_pure,Result.andThen_ok,invoke];simp[hc]
 rw[oE,Oper.upon_value,hd];exact hK _ _ _ rfl (h.put (.v _)) (lK.refl _ _) (Fr.refl _ _)
theorem OD.overlaps {f:FuncId} {fn:Func} {y z:Operand} {ts:Array TypeId} {t r e tt b oy m c b2 oz m2 c2 k k2:Nat} {B B2:ag} (hw:cc ops x o true) (ho:o.op = .call {callee:=.value (.func f),args:=#[y,z],argTypes:=ts}) (hd:o.dst=some tt)
  (hf : P.funcs[f]? = some fn) (Bk : (fn.name == "runtime.NumGoroutine") = false) (GA : fn.body.isNone = true) (hn : Extern.findNext fn = none) (he : Extern.find fn = some (Extern.SlicesOverlaps.overlaps #[t, t] #[r])) (ht : P.underlying t = some (.slice e)) (lQ : ∀ w, (sizeOf e).run P w = .ok 1 w)
  (hy:aF x y = .v (.slice (some ⟨b,oy,none⟩) m c)) (hk:x.S[k]?=some B) (hb:B.b=b) (hz:aF x z = .v (.slice (some ⟨b2,oz,none⟩) m2 c2)) (fq:x.S[k2]?=some B2) (oQ:B2.b=b2) (kZ:k≠k2) (um:B2.size≠0)
  (K:OD P C ops l (x.put tt (.v (.bool false))) Q) (hne:isMap B.e=false:=by rfl) (jF:isMap B2.e=false:=by rfl):OD P C ops (o::l) x Q :=
 OD.fQ hw (Yc (hne:=hne) (jF:=jF) ho hd hf Bk GA hn he ht lQ hy hk hb hz fq oQ kZ um) fun y hy=>hy ▸ K
theorem DW {t e:TypeId} {ad:Option Addr} {len:Nat} (ho:o.op = .call {callee:=.builtin .cap,args:=#[y],argTypes:=ts}) (ht:ts = #[t]) (hy:aF x y = .v (.slice ad len cap))
  (E:∀w,(underlying t).run P w = .ok (.slice e) w):bV P G x o .none (.v (.int .i64 cap)):=fun C a w _ h=>⟨_,.v _,fun w' _=>by
 subst ht;unfold execOp;simp[ho,resolve,invoke,builtin,Builtin.cap_,h.flat hy,E,goInt]⟩

end Go.Proofs.YtbcmjoaggammcaaGreatDoor.V
namespace Go.Proofs.YtbcmjoaggammcaaGreatDoor.V

open List
open Go.RowKit
variable {P:Program} {C:dF} {G:List (Nat×List Value)} {Q:Exit→St→Prop} {x:St} {ops:Array Oper} {l:List Oper} {o:Oper}
variable {t e:TypeId} {cap sz n tt bytes:Nat} {k2 k3:IntKind} {y hi E:Operand} {ad:Option Addr} {Sq:List ag}
theorem Yd {b len:Nat} (ho:o.op = .slice t y none (some hi) (some E)) (hy:aF x y = .v (.slice (some ⟨b,0,none⟩) len cap)) (eu:aF x hi = .v (.int k2 n)) (dy:aF x E = .v (.int k3 n))
  (I:∀w,(underlying t).run P w = .ok (.slice e) w) (hs:∀w,(sizeOf e).run P w = .ok sz w) (h3:n≤cap):bV P G x o .none (.v (.slice (some ⟨b,0,none⟩) n n)):=fun C a w _ h =>
 ⟨_,.v _,fun w' _=>by
  have b3:∀w,(Instr.sliceBounds true len cap none (some (.int k2 n)) (some (.int k3 n))).run P w = .ok (0,n,n) w:=fun w=>by
   unfold Instr.sliceBounds;simp[DK,h3]
  unfold execOp;simp only[ho,h.flat hy,h.flat eu,h.flat dy,Instr.sliceAt,Instr.slice,I,Sem.run_bind,Result.andThen_ok,Option.map_some,Option.map_none,b3,hs,Sem.run_pure];by_cases hc:n=0
  ·rw[if_pos hc];simp
  rw[if_neg hc];simp[Addr.add]⟩
theorem acT(len cap n:Nat)(h3:n≤cap)(w:World):(Instr.sliceBounds true len cap none (some (.int k2 n)) (some (.int k3 n))).run P w = .ok (0,n,n) w:=by
 unfold Instr.sliceBounds;simp[DK,h3]
theorem XY (ho:o.op = .slice t y none (some hi) (some E)) (hy:aF x y = .v (.slice none 0 0)) (eu:aF x hi = .v (.int k2 n)) (dy:aF x E = .v (.int k3 n)) (hn:n=0)
  (I:∀w,(underlying t).run P w = .ok (.slice e) w) (hs:∀w,(sizeOf e).run P w = .ok sz w):bV P G x o .none (.v (.slice none 0 0)):=fun C a w _ h =>
 ⟨_,.v _,fun w' _=>by
  have b3:=fun w=>acT (P:=P) (k2:=k2) (k3:=k3) 0 0 n w4 w;unfold execOp;simp only[ho,h.flat hy,h.flat eu,h.flat dy,Instr.sliceAt,Instr.slice,I,Sem.run_bind,Result.andThen_ok,Option.map_some,Option.map_none,b3,hs,Sem.run_pure];subst hn;simp⟩
theorem XZ {s:Operand} {t e m b k:Nat} {z:Value} {B:ag} {cs:List D} (ho:o.op = .call {callee:=.builtin .append,args:=#[s,y],argTypes:=#[t,t]}) (hd:o.dst=some tt)
  (ht:P.underlying t=some (.slice e)) (hi:(P.info? e).map (fun i=>(i.zero,i.size,i.bytes))=some (some z,sz,bytes)) (eV:z.cells.size=sz) (gX:0<sz)
  (hs:aF x s = .v (.slice (some ⟨b,0,none⟩) n n)) (hk:x.S[k]?=some B) (hb:B.b=b) (hl:n*sz≤B.cs.length)
  (hy:aF x y = .list sz cs m) (ie:∀d∈cs,one d=true) (anm:∀d∈B.cs.take (n*sz),one d=true) (hm:0<m) (gj:n+m≤maxLen) (aeF:(n+m)*bytes≤140737488355328) (hne:isMap B.e=false:=by rfl) (jF:isMap e=false:=by rfl) :
  fJ P G x o [] (fun y=>∃b' E,n+m≤E∧E≤maxLen∧y=⟨x.n,(tt,.v (.slice (some ⟨b',0,none⟩) (n+m) E))::x.env,⟨b',e,E*sz,B.cs.take (n*sz)++cs⟩::x.S⟩):=fun C a w K Q hG h hK=>by
 subst hb;obtain⟨i,jU,lN,oL,pI⟩:=yy hi;obtain⟨r0,cur,r1,r2,r3,r4⟩:=h.fu hk;rw[jY hne] at r1;have hr:=h.eval y;rw[hy] at hr;generalize hg:a.eval y=u at hr;cases hr with
 | lZ=>omega
 | list _ _ _ b' o' E f lO q1 q2 jz hL hc Ac =>
  have ahA:Builtin.nextslicecap (n+m) n*bytes≤281474976710656:=by
   have q1:=nextslicecap_le (need:=n+m) (old:=n) w4;have q2:=Nat.mul_le_mul_right bytes q1;rw[Nat.mul_assoc] at q2;omega
  have I:=Go.run_append_grow (P:=P) (w:=w) t o.type e i z ht jU lN ⟨B.b,0,none⟩ n n (cur.toList.take (n*sz)) (by rw[oL];simp;omega) (fun j v hv=>by
    have hj:=(List.getElem?_eq_some_iff.1 hv).1;rw[length_take] at hj;rw[getElem?_take_of_lt w4,Array.getElem?_toList] at hv;rw[Addr.add_mid,Nat.zero_add];exact nK r1 hv) ⟨b',o',none⟩ m E ((range cs.length).map f) (by rw[oL];simp[lO]) (fun j u hu=>by
    rw[Addr.add_mid];obtain⟨hj,he⟩:=List.getElem?_eq_some_iff.1 hu;simp only[length_map,length_range] at hj;rw[hc j hj,←he];simp) w4 (by simp only[maxLen] at gj;omega) (by rw[pI];exact ahA)
  have h1:=grownCap_ge w (n+m) n e;have h2:=grownCap_le_maxLen w (n+m) n e gj;generalize grownCap w (n+m) n e=cp at I h1 h2;generalize O:(cur.toList.take (n*sz)).toArray++((range cs.length).map f).toArray++Builtin.zeroCells z.cells (cp-(n+m))=Z at I;have xR:∀q,(Builtin.zeroCells z.cells q).size=q*sz:=fun q=>by simp[Builtin.zeroCells,eV]
  have aa:(cur.toList.take (n*sz)).length=n*sz:=(by rw[length_take];simp;omega)
  have BL:Z.size=cp*sz:=by
   rw[←O,Array.size_append,Array.size_append,xR];simp only[size_toArray,aa,length_map,length_range,lO,←Nat.add_mul];congr 1;omega
  have W4:(B.cs.take (n*sz)++cs).length=(n+m)*sz:=(by rw[length_append,length_take,lO,Nat.add_mul];omega)
  obtain⟨s1,s2,s3⟩:=h.grown (w':=w.drew.alloc (.cells Z e)) (t:=tt) (m:=n+m) (e:=e) (sz:=sz) (S:=x.S) (cs:=B.cs.take (n*sz)++cs) (row:=none) (g:=w.heap.size) (cap:=cp) (cur:=Z) (hne:=jF) (Sublist.refl _) (fun k hk=>by cases hk)
   ⟨rfl,rfl,rfl,by show w.heap.size≤(w.heap.push _).size;simp,fun k hk _=>getElem?_push_lt (w:=w.drew) hk⟩ (.inr rfl) LU LV BL (by rw[W4];exact Nat.mul_le_mul_right _ h1) (fun j hj=>by
    rw[W4,Nat.add_mul] at hj;by_cases jV:j<n*sz
    ·obtain⟨u,hu,hq⟩:=r4 j w4;refine⟨u,?_,?_⟩
     ·rw[←O,Array.getElem?_append_left (by simp[aa];omega),Array.getElem?_append_left (by simp[aa];omega),getElem?_toArray,getElem?_take_of_lt jV,Array.getElem?_toList,hu]
     rw[getElem_append_left oH,getElem_take];exact hq
    have U:j-n*sz<cs.length:=(by omega)
    refine⟨f (j-n*sz),?_,?_⟩
    ·rw[←O,Array.getElem?_append_left (by simp[aa];omega),Array.getElem?_append_right (by simp[aa];omega)];simp[aa,U]
    rw[getElem_append_right oH];have:=Ac (j-n*sz) U;have e1:(B.cs.take (n*sz)).length=n*sz:=(by rw[length_take];omega)
    simp only[e1];exact this)
  unfold Oper.wp;rw[Av (P:=P) ho (h.flat hs) hg I,Oper.upon_value,hd];exact hK _ _ _ ⟨_,_,h1,h2,rfl⟩ s1 s2 s3
theorem X2 {len:Nat} {cs:List D} (O:bw e sz cs len ad cap Sq) (ho:o.op = .slice t y none (some hi) (some E)) (hy:aF x y = .v (.slice ad len cap)) (eu:aF x hi = .v (.int k2 n)) (dy:aF x E = .v (.int k3 n))
  (I:∀w,(underlying t).run P w = .ok (.slice e) w) (hs:∀w,(sizeOf e).run P w = .ok sz w) (hn:n≤len):bV P G x o .none (.v (.slice ad n n)):=by
 rcases O with ⟨rfl,rfl,rfl,rfl,rfl⟩|⟨b,rfl,h1,h2,rfl⟩
 ·have h:=XY (P:=P) (G:=G) ho hy eu dy w4 I hs;obtain rfl:n=0:=(by omega)
  exact h
 exact Yd ho hy eu dy I hs w4
theorem OD.YP {α:Type} {g:α→List D} {ls new:List α} {s:Operand} {t e:Nat} {z:Value} {R:List ag} (hg:∀a,(g a).length=sz) (hg1:∀a,(g a).all one=true) (hw:cc ops x o true) (ho:o.op = .call {callee:=.builtin .append,args:=#[s,y],argTypes:=#[t,t]}) (hd:o.dst=some tt)
  (ht:P.underlying t=some (.slice e)) (hi:(P.info? e).map (fun i=>(i.zero,i.size,i.bytes))=some (some z,sz,bytes)) (eV:z.cells.size=sz) (U:0<sz)
  (hs:aF x s = .v (.slice ad n n)) (hO:bw e sz (ls.flatMap g) ls.length ad cap Sq) (hp:x.S.Perm (Sq++R)) (hn:n≤ls.length)
  (hy:aF x y = .list sz (new.flatMap g) new.length) (hm:0<new.length) (Z:n+new.length≤maxLen) (I:(n+new.length)*bytes≤140737488355328)
  (K:∀O E,(ls.take n++new).length≤E→E≤maxLen→OD P C ops l ⟨x.n,(tt,.v (.slice (some ⟨O,0,none⟩) (ls.take n++new).length E))::x.env,⟨O,e,E*sz,(ls.take n++new).flatMap g⟩::R⟩ Q) (hne:isMap e=false:=by rfl):OD P C ops (o::l) x Q:=by
 have hlen:(ls.take n++new).length=n+new.length:=(by rw[length_append,length_take];omega)
 rcases hO with ⟨h1,h2,rfl,rfl,rfl⟩|⟨b,rfl,h1,h2,rfl⟩
 ·have W5:ls=[]:=length_eq_zero_iff.1 h1;subst W5;obtain rfl:n=0:=(by simpa using hn)
  refine OD.dZ (hne:=hne) (ls:=([]:List α)) (new:=new) (Sq:=[]) (R:=R) (ad:=none) (cap:=0) hg hg1 hw ho hd ht hi eV U hs (.inl ⟨rfl,rfl,rfl,rfl,rfl⟩) hp hy hm (by simpa using Z) (by simpa using I) ?_;intro O E q1 q2;exact K O E (by simpa using q1) q2
 refine OD.perm hp ?_;refine OD.fQ (fun C a w h=>hw C a w (Wk.perm hp.symm C a w h)) (XZ (hne:=hne) (jF:=hne) (k:=0) ho hd ht hi eV U hs rfl rfl (by rw[cq hg];exact Nat.mul_le_mul_right _ hn) hy (tE hg1 new) (by rw[tq hg];exact tE hg1 _) hm Z I) ?_;rintro _ ⟨O,E,q1,q2,rfl⟩;have k:=K O E (by rw[hlen];exact q1) q2;rw[hlen,flatMap_append,←tq hg] at k;exact OD.wk (Wk.drop _ _ _ _ (Sublist.cons_cons _ (Sublist.cons _ (Sublist.refl _)))) k
variable {S1 T:List Nat} {fuel i:Nat} {ld:Array Bool}
theorem bg.oV {α:Type} {g:α→List D} {ls new:List α} {s:Operand} {t e:Nat} {z:Value} {R:List ag} (hg:∀a,(g a).length=sz) (hg1:∀a,(g a).all one=true) (U:ops[i]?=some o) (hw:cc ops x o true) (ho:o.op = .call {callee:=.builtin .append,args:=#[s,y],argTypes:=#[t,t]}) (hd:o.dst=some tt)
  (ht:P.underlying t=some (.slice e)) (hi:(P.info? e).map (fun i=>(i.zero,i.size,i.bytes))=some (some z,sz,bytes)) (eV:z.cells.size=sz) (gX:0<sz) (hu:∀w,(underlying t).run P w = .ok (.slice e) w) (Mn:∀w,(sizeOf e).run P w = .ok sz w)
  (hs:aF x s = .v (.slice ad ls.length cap)) (O:bw e sz (ls.flatMap g) ls.length ad cap Sq) (hp:x.S.Perm (Sq++R))
  (hy:aF x y = .list sz (new.flatMap g) new.length) (gj:ls.length+new.length≤maxLen) (I:(ls.length+new.length)*bytes≤140737488355328)
  (K:∀Z E S',bw e sz ((ls++new).flatMap g) (ls++new).length Z E S'→AD P C ops S1 T fuel (ld.setIfInBounds i true) ⟨x.n,(tt,.v (.slice Z (ls++new).length E))::x.env,S'++R⟩ Q) (hne:isMap e=false:=by rfl)
  (hT:∀b∈T,b∈ap R:=by (intro b hb;simp[ap] at hb ⊢;try first|exact hb|omega)):bg P C ops S1 T fuel ld x Q i:=by
 rcases Nat.eq_zero_or_pos new.length with h0|h0
 ·have hn:new=[]:=eq_nil_of_length_eq_zero h0;subst hn;refine bg.still U hw hd (ND ho hu Mn hs O.le hy) ?_;have:=K ad cap Sq (by rw[append_nil];exact O);rw[append_nil] at this;exact AD.perm hp this
 exact bg.dZ (hne:=hne) (hT:=hT) hg hg1 U hw ho hd ht hi eV gX hs O hp hy h0 gj I fun b' E h1 h2=>K _ E _ (bI h1 h2)

end Go.Proofs.YtbcmjoaggammcaaGreatDoor.V
namespace Go.Proofs.YtbcmjoaggammcaaGreatDoor.V
open List
open Go.RowKit
variable {P:Program} {C:dF} {G:List (Nat×List Value)} {Q:Exit→St→Prop} {x:St} {ops:Array Oper} {l:List Oper} {o:Oper} {S1 T:List Nat} {fuel i:Nat} {ld:Array Bool}
variable {L:Nat→Prop} {bs:List UInt8} {n:Nat}
theorem NQ{w w':World}{v:Value}(hr:cl w L (.list 1 (bs.flatMap cB) n) v)(hw:∀b,b<w.heap.size→¬L b→w'.heap[b]?=w.heap[b]?) :
  (Extern.Bytes.bytesOf v).run P w' = .ok ⟨bs.toArray⟩ w':=by
 rw[Js] at hr;generalize dw:bs.map uX=cs at hr;cases hr with
 | lZ _ ad cap =>
  have:bs=[]:=(by simpa using dw)
  subst this;cases ad<;>rfl
 | list _ _ _ b I cap g hl q1 q2 hb hL hc U =>
  subst dw;simp only[length_map,Nat.mul_one] at hl hc;have E:=Lib.run_loadBytesX (P:=P) w' (bs.map fun c=>(c.toNat:Int)) ⟨b,I,none⟩ .empty (fun j x hj=>by
   rw[Addr.add_mid];have O:j<bs.length:=(by have:=(List.getElem?_eq_some_iff.1 hj).1;simpa using this)
   have Z:=World.cell?_of_block (w:=w) (a:=⟨b,I+j,none⟩) (hw b hb hL);rw[Z,hc j O];have h1:=U j (by simpa using O);simp only[getElem_map,uX] at h1;rw[h1.kD];rw[getElem?_map,getElem?_eq_getElem O] at hj;simp only[Option.map_some,Option.some.injEq] at hj;rw[hj])
  rw[length_map,hl] at E;have e:Lib.bytesOf (bs.map fun c=>(c.toNat:Int))=bs:=by
   unfold Lib.bytesOf;rw[map_map];have:∀c:UInt8,((fun n:Int=>UInt8.ofNat n.toNat) ∘ fun c:UInt8=>(c.toNat:Int)) c=c:=fun c=>by simp
   rw[map_congr_left (g:=id) (fun c _=>this c),map_id]
  rw[e] at E;show(Extern.Bytes.loadBytes ⟨b,I,none⟩ n .empty).run P w'=_;rw[E];congr 1;apply ByteArray.ext;show(#[]:Array UInt8)++bs.toArray=bs.toArray;simp
theorem XT {f:FuncId} {fn:Func} {y z:Operand} {ts:Array TypeId} {ds:List UInt8} {m:Nat} (ho:o.op = .call {callee:=.value (.func f),args:=#[y,z],argTypes:=ts}) (hy:aF x y = .list 1 (ds.flatMap cB) n) (hz:aF x z = .list 1 (bs.flatMap cB) m)
  (hf : P.funcs[f]? = some fn) (Bk : (fn.name == "runtime.NumGoroutine") = false) (hb : fn.body.isNone = true) (hn : Extern.findNext fn = none) (he : Extern.find fn = some Extern.BytealgCompare.compare) :
  bV P G x o .jI (.v (.int .i64 (Lib.compareBytes ds bs))):=fun C a w _ h=>by
 have h1:=h.eval y;have h2:=h.eval z;rw[hy] at h1;rw[hz] at h2;refine⟨_,.v _,fun w' hw=>?_⟩;have e1:=NQ (P:=P) h1 hw;have e2:=NQ (P:=P) h2 hw;have hc:(callFunc f #[a.eval y,a.eval z]).run P w' = .ok (.value (.int .i64 (Lib.compareBytes ds bs))) w':=by
  rw[run_callFunc_extern hf Bk hb hn he];have:(Extern.BytealgCompare.compare #[a.eval y,a.eval z]).run P w' = .ok (.int .i64 (Lib.compareBytes ds bs)) w':=by
   change Sem.run P (do pure (goInt (Extern.BytealgCompare.cmp (←Extern.Bytes.bytesOf (a.eval y)) (←Extern.Bytes.bytesOf (a.eval z))))) w'=_;simp only[Sem.run_bind,e1,e2,Sem.run_pure,Result.andThen_ok,Lib.cmp_eq];rfl
  rw[this];rfl
 unfold execOp;have ef:a.eval (.func f) = .func (.func f) #[] #[]:=rfl;generalize Mm:a.eval y=u at *;generalize xL:a.eval z=v at *;simp only[ho,resolve,ef,Deferred.ofValue,Sem.run_bind,Sem.run_pure,Result.andThen_ok,invoke];simp[hc,Mm,xL]
theorem Wk.aeH{l:List (Nat×D)}{S:List ag}{k:Nat}{B:ag}{cs':List D}(hk:S[k]?=some B)(hl:cs'.length≤B.size)(hc:∀(i:Nat) (d:D),cs'[i]?=some d→∃d0,B.cs[i]?=some d0∧∀(w:World) (L:Nat→Prop) (v:Value),cl w L d0 v→cl w L d v):Wk ⟨n,l,S⟩ ⟨n,l,S.set k {B with cs:=cs'}⟩:=fun C a w h=>by
 have dS:=(List.getElem?_eq_some_iff.1 hk).1;have U:=(List.getElem?_eq_some_iff.1 hk).2;have E:ap (S.set k {B with cs:=cs'})=ap S:=by
  unfold ap;rw[map_set];apply ext_getElem bq;intro i q1 q2;rw[getElem_set];split
  ·rename_i e;subst e;simp[U]
  rfl
 have I:live C.X (S.set k {B with cs:=cs'})=live C.X S:=(by funext b;simp only[live,E])
 refine⟨h.defers,h.size,fun t ht=>?_,⟨fun B' Z=>?_,?_⟩,?_,h.ex,h.eM⟩
 ·simp only[I];exact h.env t ht
 ·simp only[I];obtain⟨j,hj,O⟩:=mem_iff_getElem.1 Z;rw[length_set] at hj;rw[getElem_set] at O;by_cases e:k=j
  ·rw[if_pos e] at O;subst O;obtain⟨r0,cur,r1,r2,r3,r4⟩:=h.own.at_ B (mem_of_getElem? hk);refine⟨r0,cur,r1,r2,hl,fun i hi=>?_⟩;simp only at hi hl;obtain⟨d0,hd,Ac⟩:=hc i _ (getElem?_eq_getElem hi);obtain⟨hd1,hd2⟩:=List.getElem?_eq_some_iff.1 hd;obtain⟨u,hu,hq⟩:=r4 i hd1;rw[hd2] at hq;exact⟨u,hu,Ac _ _ _ hq⟩
  rw[if_neg e] at O;subst O;exact h.own.at_ _ (getElem_mem hj)
 ·simp only[E];exact h.own.apart
 simp only[E];exact h.fr
theorem cl.ofNil{w:World}(sz:Nat){v:Value}(h:cl w L (.v (.slice none 0 0)) v):cl w L (.list sz [] 0) v:=by rw[h.kD];exact .nil sz
theorem Wk.UX{l:List (Nat×D)}{S:List ag}{k:Nat}{b e:Nat}{sz sz':Nat}(hk:S[k]?=some ⟨b,e,2,[.v (.slice none 0 0),.v (.slice none 0 0)]⟩):Wk ⟨n,l,S⟩ ⟨n,l,S.set k ⟨b,e,2,[.list sz [] 0,.list sz' [] 0]⟩⟩ :=
 Wk.aeH hk bq fun i d hd=>by
  match i,hd with
  | 0,hd=>cases hd;exact⟨_,rfl,fun _ _ _ h=>h.ofNil sz⟩
  | 1,hd=>cases hd;exact⟨_,rfl,fun _ _ _ h=>h.ofNil sz'⟩
  | i+2,hd=>simp at hd
theorem aeI {α:Type} {g:α→List D} {t e:TypeId} {sz l' h':Nat} {lo hi:Option Operand} (hg:∀a,(g a).length=sz) {ls:List α} (eT:lo=none→l'=0) (eu:hi=none→h'=ls.length)
  (E:∀w,(underlying t).run P w = .ok (.slice e) w) (hs:∀w,(sizeOf e).run P w = .ok sz w) (h1:l'≤h') (h2:h'≤ls.length):Rs P G t lo hi l' h' (.list sz (ls.flatMap g) ls.length) (.list sz (((ls.take h').drop l').flatMap g) ((ls.take h').drop l').length):=by
 have h:=nL (P:=P) (G:=G) (sz:=sz) (cs:=ls.flatMap g) eT eu E hs h1 h2;rw[uG hg,tq hg,←drop_take] at h;rw[show((ls.take h').drop l').length=h'-l' by rw[length_drop,length_take];omega];exact h

theorem VC.args{f:FuncId}{cs bs:List D}{S:List ag}{post:D→List ag→Prop}(h:VC P G f cs S post)(hl:bs.length=cs.length)(hr:∀(w:World) (L:Nat→Prop) (i:Nat) (h1:i<cs.length) (h2:i<bs.length) (v:Value),cl w L bs[i] v→cl w L cs[i] v):VC P G f bs S post:=fun X w vs hp=>by
 refine h X w vs ⟨hp.ex,hp.eM,hp.own,?_,fun i h1 h2=>?_⟩
 ·rw[hp.args.1,hl]
 exact hr w _ i h1 w4 _ (hp.args.2 i w4 h2)

end Go.Proofs.YtbcmjoaggammcaaGreatDoor.V
namespace Go.Proofs.YtbcmjoaggammcaaGreatDoor.V

open List
open Go.RowKit V
instance ik3:Ik Tryz.prog 3 .i64:=⟨by kernel_rfl⟩
instance anQ:Sl Tryz.prog 22 14:=⟨by kernel_rfl⟩
instance anR:Sl Tryz.prog 23 5:=⟨by kernel_rfl⟩
instance ann:sO Tryz.prog 23 5:=⟨by kernel_rfl⟩
instance amw:Fo Tryz.prog 25 0 0:=⟨by kernel_rfl⟩
instance anS:Sz Tryz.prog 25 1:=⟨by kernel_rfl⟩
instance anT:Sb Tryz.prog 25 [.slice none 0 0] [(0,1)]:=⟨by kernel_rfl,by kernel_rfl⟩
instance anU:Sl Tryz.prog 27 3:=⟨by kernel_rfl⟩
instance ano:sO Tryz.prog 27 3:=⟨by kernel_rfl⟩
instance amx:Fo Tryz.prog 30 0 0:=⟨by kernel_rfl⟩
instance amy:Fo Tryz.prog 30 1 1:=⟨by kernel_rfl⟩
instance amz:Fo Tryz.prog 30 2 2:=⟨by kernel_rfl⟩
instance anV:Sz Tryz.prog 30 3:=⟨by kernel_rfl⟩
instance anW:Sb Tryz.prog 30 [.int .i64 0,.int .i64 0,.string ⟨#[]⟩] [(0,1),(1,1),(2,1)]:=⟨by kernel_rfl,by kernel_rfl⟩
instance anX:Sl Tryz.prog 33 1:=⟨by kernel_rfl⟩
instance amA:Fo Tryz.prog 35 0 0:=⟨by kernel_rfl⟩
instance anY:Sz Tryz.prog 35 2:=⟨by kernel_rfl⟩
instance anZ:Sb Tryz.prog 35 [.slice none 0 0,.int .i64 0] [(0,1),(1,1)]:=⟨by kernel_rfl,by kernel_rfl⟩
instance an0:Sl Tryz.prog 38 2:=⟨by kernel_rfl⟩
instance an1:Sl Tryz.prog 39 1:=⟨by kernel_rfl⟩
instance anp:sO Tryz.prog 39 1:=⟨by kernel_rfl⟩
instance an2:Sl Tryz.prog 40 5:=⟨by kernel_rfl⟩
instance amB:Fo Tryz.prog 42 0 0:=⟨by kernel_rfl⟩
instance amC:Fo Tryz.prog 42 1 1:=⟨by kernel_rfl⟩
instance amD:Fo Tryz.prog 42 2 2:=⟨by kernel_rfl⟩
instance amE:Fo Tryz.prog 42 3 3:=⟨by kernel_rfl⟩
instance amF:Fo Tryz.prog 42 4 4:=⟨by kernel_rfl⟩
instance amG:Fo Tryz.prog 42 5 5:=⟨by kernel_rfl⟩
instance amH:Fo Tryz.prog 42 6 6:=⟨by kernel_rfl⟩
instance amI:Fo Tryz.prog 42 7 7:=⟨by kernel_rfl⟩
instance amJ:Fo Tryz.prog 42 8 8:=⟨by kernel_rfl⟩
instance amK:Fo Tryz.prog 42 9 9:=⟨by kernel_rfl⟩
instance ame:Fo Tryz.prog 42 10 10:=⟨by kernel_rfl⟩
instance amf:Fo Tryz.prog 42 11 11:=⟨by kernel_rfl⟩
instance an3:Sz Tryz.prog 42 12:=⟨by kernel_rfl⟩
instance an4:Sb Tryz.prog 42 [.int .i64 0,.string ⟨#[]⟩,.slice none 0 0,.slice none 0 0,.slice none 0 0,.bool false,.slice none 0 0,.string ⟨#[]⟩,.bool false,.int .i64 0,.string ⟨#[]⟩,.slice none 0 0] [(0,1),(1,1),(2,1),(3,1),(4,1),(5,1),(6,1),(7,1),(8,1),(9,1),(10,1),(11,1)]:=⟨by kernel_rfl,by kernel_rfl⟩
instance an5:Sl Tryz.prog 44 5:=⟨by kernel_rfl⟩
instance amL:Fo Tryz.prog 46 0 0:=⟨by kernel_rfl⟩
instance amM:Fo Tryz.prog 46 1 1:=⟨by kernel_rfl⟩
instance an6:Sz Tryz.prog 46 2:=⟨by kernel_rfl⟩
instance an7:Sb Tryz.prog 46 [.slice none 0 0,.int .i64 0] [(0,1),(1,1)]:=⟨by kernel_rfl,by kernel_rfl⟩
instance amN:Fo Tryz.prog 48 0 0:=⟨by kernel_rfl⟩
instance amO:Fo Tryz.prog 48 1 1:=⟨by kernel_rfl⟩
instance amP:Fo Tryz.prog 48 2 2:=⟨by kernel_rfl⟩
instance amQ:Fo Tryz.prog 48 3 3:=⟨by kernel_rfl⟩
instance an8:Sz Tryz.prog 48 5:=⟨by kernel_rfl⟩
instance an9:Sb Tryz.prog 48 [.string ⟨#[]⟩,.slice none 0 0,.slice none 0 0,.slice none 0 0,.int .i64 0] [(0,1),(1,1),(2,1),(3,2)]:=⟨by kernel_rfl,by kernel_rfl⟩
instance aoa:Sl Tryz.prog 54 2:=⟨by kernel_rfl⟩
instance amR:Fo Tryz.prog 61 0 0:=⟨by kernel_rfl⟩
instance amS:Fo Tryz.prog 61 1 1:=⟨by kernel_rfl⟩
instance amT:Fo Tryz.prog 61 2 4:=⟨by kernel_rfl⟩
instance aob:Sz Tryz.prog 61 5:=⟨by kernel_rfl⟩
instance aoc:Sb Tryz.prog 61 [.int .i64 0,.int .i64 0,.int .i64 0,.string ⟨#[]⟩,.string ⟨#[]⟩] [(0,1),(1,3),(4,1)]:=⟨by kernel_rfl,by kernel_rfl⟩
instance amU:Fo Tryz.prog 76 0 0:=⟨by kernel_rfl⟩
instance amV:Fo Tryz.prog 76 1 1:=⟨by kernel_rfl⟩
instance amW:Fo Tryz.prog 76 2 2:=⟨by kernel_rfl⟩
instance amX:Fo Tryz.prog 76 3 3:=⟨by kernel_rfl⟩
instance aod:Sz Tryz.prog 76 4:=⟨by kernel_rfl⟩
instance aoe:Sb Tryz.prog 76 [.int .i64 0,.int .i64 0,.string ⟨#[]⟩,.slice none 0 0] [(0,1),(1,1),(2,1),(3,1)]:=⟨by kernel_rfl,by kernel_rfl⟩
instance amY:Fo Tryz.prog 78 1 1:=⟨by kernel_rfl⟩
instance amZ:Fo Tryz.prog 78 2 2:=⟨by kernel_rfl⟩
instance am0:Fo Tryz.prog 78 3 3:=⟨by kernel_rfl⟩
instance am1:Fo Tryz.prog 78 4 4:=⟨by kernel_rfl⟩
instance am2:Fo Tryz.prog 78 5 5:=⟨by kernel_rfl⟩
instance am3:Fo Tryz.prog 78 6 9:=⟨by kernel_rfl⟩
instance am4:Fo Tryz.prog 78 7 13:=⟨by kernel_rfl⟩
instance aof:Sz Tryz.prog 78 14:=⟨by kernel_rfl⟩
instance aog:Sb Tryz.prog 78 [.int .i64 0,.int .i64 0,.int .i64 0,.int .i64 0,.slice none 0 0,.int .i64 0,.int .i64 0,.string ⟨#[]⟩,.slice none 0 0,.int .i64 0,.int .i64 0,.string ⟨#[]⟩,.slice none 0 0,.bool false] [(0,1),(1,1),(2,1),(3,1),(4,1),(5,4),(9,4),(13,1)]:=⟨by kernel_rfl,by kernel_rfl⟩
instance aoh:Ik Tryz.prog 85 .u64:=⟨by kernel_rfl⟩
instance aoi:Sl Tryz.prog 90 1:=⟨by kernel_rfl⟩
instance aoj:Sl Tryz.prog 91 1:=⟨by kernel_rfl⟩
instance anq:sO Tryz.prog 91 1:=⟨by kernel_rfl⟩
instance am5:Fo Tryz.prog 93 0 0:=⟨by kernel_rfl⟩
instance am6:Fo Tryz.prog 93 1 1:=⟨by kernel_rfl⟩
instance am7:Fo Tryz.prog 93 2 2:=⟨by kernel_rfl⟩
instance am8:Fo Tryz.prog 93 3 3:=⟨by kernel_rfl⟩
instance am9:Fo Tryz.prog 93 4 4:=⟨by kernel_rfl⟩
instance aok:Sz Tryz.prog 93 5:=⟨by kernel_rfl⟩
instance aol:Sb Tryz.prog 93 [.bool false,.slice none 0 0,.slice none 0 0,.slice none 0 0,.int .i64 0] [(0,1),(1,1),(2,1),(3,1),(4,1)]:=⟨by kernel_rfl,by kernel_rfl⟩
instance ana:Fo Tryz.prog 97 1 1:=⟨by kernel_rfl⟩
instance aom:Sz Tryz.prog 97 2:=⟨by kernel_rfl⟩
instance anr:Sl Tryz.prog 102 1:=⟨by kernel_rfl⟩
instance amg:Fo Tryz.prog 104 0 0:=⟨by kernel_rfl⟩
instance amh:Fo Tryz.prog 104 1 2:=⟨by kernel_rfl⟩
instance ami:Fo Tryz.prog 104 2 3:=⟨by kernel_rfl⟩
instance ans:Sz Tryz.prog 104 4:=⟨by kernel_rfl⟩
instance ant:Sb Tryz.prog 104 [.slice none 0 0,.int .i64 0,.map none,.slice none 0 0] [(0,2),(2,1),(3,1)]:=⟨by kernel_rfl,by kernel_rfl⟩
instance amj:Fo Tryz.prog 111 0 0:=⟨by kernel_rfl⟩
instance amk:Fo Tryz.prog 111 1 1:=⟨by kernel_rfl⟩
instance anu:Sz Tryz.prog 111 2:=⟨by kernel_rfl⟩
instance anv:Sb Tryz.prog 111 [.string ⟨#[]⟩,.int .i64 0] [(0,1),(1,1)]:=⟨by kernel_rfl,by kernel_rfl⟩
instance anb:sO Tryz.prog 114 3:=⟨by kernel_rfl⟩
instance anw:Sz Tryz.prog 130 0:=⟨by kernel_rfl⟩
instance anx:Sb Tryz.prog 130 [] []:=⟨by kernel_rfl,by kernel_rfl⟩
instance aml:Fo Tryz.prog 137 0 0:=⟨by kernel_rfl⟩
instance amm:Fo Tryz.prog 137 1 1:=⟨by kernel_rfl⟩
instance amn:Fo Tryz.prog 137 2 2:=⟨by kernel_rfl⟩
instance anz:Sz Tryz.prog 137 3:=⟨by kernel_rfl⟩
instance anA:Sb Tryz.prog 137 [.int .i64 0,.int .i64 0,.string ⟨#[]⟩] [(0,1),(1,1),(2,1)]:=⟨by kernel_rfl,by kernel_rfl⟩
instance anB:Sl Tryz.prog 142 1:=⟨by kernel_rfl⟩
instance anc:sO Tryz.prog 142 1:=⟨by kernel_rfl⟩
instance amo:Fo Tryz.prog 149 0 0:=⟨by kernel_rfl⟩
instance amq:Fo Tryz.prog 149 1 1:=⟨by kernel_rfl⟩
instance amr:Fo Tryz.prog 149 2 2:=⟨by kernel_rfl⟩
instance anC:Sz Tryz.prog 149 3:=⟨by kernel_rfl⟩
instance anD:Sb Tryz.prog 149 [.int .i64 0,.string ⟨#[]⟩,.int .i64 0] [(0,1),(1,1),(2,1)]:=⟨by kernel_rfl,by kernel_rfl⟩
instance ams:Fo Tryz.prog 224 0 0:=⟨by kernel_rfl⟩
instance amt:Fo Tryz.prog 224 1 1:=⟨by kernel_rfl⟩
instance anE:Sz Tryz.prog 224 2:=⟨by kernel_rfl⟩
instance anF:Sb Tryz.prog 224 [.slice none 0 0,.slice none 0 0] [(0,1),(1,1)]:=⟨by kernel_rfl,by kernel_rfl⟩

end Go.Proofs.YtbcmjoaggammcaaGreatDoor.V
namespace Go.Proofs.YtbcmjoaggammcaaGreatDoor.Nm
open List
open Go.Proofs.Tryz
open Go.RowKit V
variable {k:Nat}
def wordsB:List (List UInt8):=[[67,82,69,65,84,69],[84,65,66,76,69],[68,82,79,80],[73,78,83,69,82,84],[73,78,84,79],[86,65,76,85,69,83],[83,69,76,69,67,84],[67,79,85,78,84],[70,82,79,77],[87,72,69,82,69],[79,82,68,69,82],[66,89],[68,69,83,67],[76,73,77,73,84],[85,80,68,65,84,69],[83,69,84],[68,69,76,69,84,69],[66,69,71,73,78],[67,79,77,77,73,84],[82,79,76,76,66,65,67,75],[65,78,68],[79,82],[78,79,84],[73,83],[78,85,76,76],[84,82,85,69],[70,65,76,83,69],[73,78,84],[84,69,88,84],[66,79,79,76]]
def marksB:List (List UInt8):=[[60,61],[62,61],[60,62],[40],[41],[44],[42],[43],[45],[61],[60],[62]]
def uM:List ByteArray:=wordsB.map fun b=>⟨b.toArray⟩
def EV:List ByteArray:=marksB.map fun b=>⟨b.toArray⟩
def wordsC:List Value:=uM.map .string
def marksC:List Value:=EV.map .string
def vY(c:UInt8):Bool:=decide ((97≤c.toNat∧c.toNat≤122)∨(65≤c.toNat∧c.toNat≤90)∨c.toNat=95)
def EW(c:UInt8):Bool:=decide (48≤c.toNat∧c.toNat≤57)
def wD(c:UInt8):Bool:=vY c||EW c
def Fi(p:UInt8→Bool)(s:ByteArray):Nat:=(s.data.toList.takeWhile p).length
theorem Ti(p:UInt8→Bool):∀(l:List UInt8) (k:Nat),k≤l.length→(∀x∈l.take k,p x=true)→(∀h:k<l.length,p l[k]=false)→(l.takeWhile p).length=k
 | [],k,h,_,_=>by simp at h;subst h;rfl
 | a::r,0,_,_,h=>by
  have:p a=false:=h bq;rw[takeWhile_cons];simp[this]
 | a::r,k+1,h1,h2,h3=>by
  have ha:p a=true:=h2 a bq;rw[takeWhile_cons,if_pos ha,length_cons,Ti p r k (by simpa using h1) (fun x hx=>h2 x (by rw[take_succ_cons];exact mem_cons_of_mem _ hx)) (fun h=>by have:=h3 oJ;simpa using this)]
theorem EB{p:UInt8→Bool}{s:ByteArray}(hk:k≤s.size)(h0:∀x∈s.data.toList.take k,p x=true)(h1:k<s.size→p (lT s k)=false):Fi p s=k :=
 Ti p _ k (by rw[ku];exact hk) h0 fun h=>by rw[Hh h];exact h1 (by rw[ku] at h;exact h)
structure Tk where
 k:Int
 s:ByteArray
 n:Int
def cT(t:Tk):List D:=[.v (.int .i64 t.k),.v (.string t.s),.v (.int .i64 t.n)]
theorem iy(t:Tk):(cT t).length=3:=rfl
def nO(s:ByteArray):Bool:=!decide (s.size=0)&&vY (lT s 0)&&((Fi wD s:Int)==(s.size:Int))
def tD(t:Tk):Int :=
 if t.k=1 then (if (decide (t.n=0)&&nO t.s)=true then 0 else 6)
 else if t.k=2 then (if t.n<0 then 3 else if t.s.size=0 then 0 else 6)
 else if t.k=3 then (if t.n=0 then 0 else 6)
 else if t.k=4 then (if (decide (t.n=0)&&EV.any (iW t.s))=true then 0 else 6)
 else 2
def cM(s:ByteArray):Int:=if s.size>8 then 1 else if (!(nO s)||uM.any (iW s))=true then 6 else 0
theorem NZ(s:ByteArray):tD ⟨1,s,0⟩=if nO s=true then 0 else 6:=by
 unfold tD;rw[if_pos rfl];simp
variable {G:List (Nat×List Value)}
theorem OA(c:UInt8):VP Tryz.prog G 136 [.v (.int .u8 ((c).toNat:Int))] (.v (.bool (vY c))):=by
 refine VC.body func136 rfl ntmps136 aO fun X0 w0 aZ=>?_;refine ae [0] ?_;refine aC 3 ?_;refine bS 5 (fun Z O=>?_) (fun Z O=>?_)
 ·refine aD 4 ?_;refine bS 9 (fun MI U=>?_) (fun MI U=>?_)
  ·exact Gj
  refine aD 3 ?_;refine bS 12 (fun I E=>?_) (fun I E=>?_)
  ·exact UL
  exact Gj
 refine aD 7 ?_;refine bS 12 (fun I E=>?_) (fun I E=>?_)
 ·exact UL
 refine bf [2] ?_;refine eJ ?_;refine⟨vb ?_,rfl⟩;rw[Bool.eq_iff_iff];simp[vY];first|done|omega
theorem abj(c:UInt8):VP Tryz.prog G 139 [.v (.int .u8 ((c).toNat:Int))] (.v (.bool (EW c))):=by
 refine VC.body func139 rfl ntmps139 aO fun X0 w0 aZ=>?_;refine ae [0] ?_;refine aC 3 ?_;refine bS 5 (fun I E=>?_) (fun I E=>?_)
 ·refine bf [2] ?_;refine eJ ?_;refine⟨vb ?_,rfl⟩;rw[Bool.eq_iff_iff];simp[EW];first|done|omega
 refine bf [2] ?_;refine eJ ?_;refine⟨vb ?_,rfl⟩;rw[Bool.eq_iff_iff];simp[EW];first|done|omega
theorem PF(c:UInt8):VP Tryz.prog G 138 [.v (.int .u8 ((c).toNat:Int))] (.v (.bool (wD c))):=by
 refine VC.body func138 rfl ntmps138 aO fun X0 w0 aZ=>?_;refine ae [0] ?_;refine aC 1 ?_;refine dR call136 (OA c) ?_;refine aD 1 ?_;refine bS 5 (fun I E=>?_) (fun I E=>?_)
 ·refine aj 9 [2] ?_;refine aJ [] ?_;exact⟨vb (by simp[wD, *]),rfl⟩
 refine aD 1 ?_;refine OD.gI gL rfl rfl rfl call139 (abj c) ⟨ot,trivial⟩ ?_;refine aj 9 [2] ?_;refine aJ [] ?_;exact⟨vb (by simp[wD, *]),rfl⟩
theorem Q9(s:ByteArray)(g:Nat)(p:UInt8→Bool)(fi:∀args w,(callFunc g args).run Tryz.prog w = .ok (.enter g args) w)(hp:∀c,VP Tryz.prog G g [.v (.int .u8 ((c).toNat:Int))] (.v (.bool (p c))))(hs:s.size≤maxLen):VP Tryz.prog G 137 [.v (.string s),.ek (.func g) []] (.v (.int .i64 (Fi p s))):=by
 refine VC.body func137 rfl ntmps137 aO fun X0 w0 aZ=>?_;simp only[maxLen] at hs;refine ae [0,1] ?_;refine ae [0,1,5] ?_;refine eB [0,1] (fun aW _ (k:Nat) aK=>(k≤s.size)∧(∀x∈s.data.toList.take k,p x=true)∧aK=(⟨20,(5,.v (.int .i64 (k:Nat)))::aW,[]⟩:St)) (fun (k:Nat)=>s.size-k) 0 ⟨(Nat.zero_le _),bq,rfl⟩ ?_;rintro k _ ⟨hk,h0,rfl⟩;refine aC 5 ?_;refine bS 10 (fun I E=>?_) (fun I E=>?_)
 ·have O:k<s.size:=(by omega)
  have xz:s[k]?=some (lT s k):=Jt O;refine aD 3 ?_;refine OD.still gL rfl (Hf rfl ot ot runUnderlying9 rfl (by first|assumption|rfl)) ?_;refine OD.j4 (f:=g) (args:=[_]) (all:=[_]) gL rfl rfl ot fi (hp (lT s k)) rfl ⟨ot,trivial⟩ (eN _) ?_;rintro _ S2 ⟨rfl,rfl⟩;refine aj 20 [0,1,5,16] ?_;refine aq (fun az aH=>?_) (fun az aH=>?_)
  ·refine cj [0,1,5] ?_;refine⟨(k+1),_,cx,aM,w4,(yn (by rw[ku];exact O) h0 (by rw[Hh];assumption)),rfl⟩
  refine ae [4] ?_;refine aJ [] ?_;refine⟨vi ?_,rfl⟩;first|(rw[EB hk h0 (fun h=>by omega)];done)|(rw[EB hk h0 (fun h=>by assumption)];done)
 refine bf [0,1,5,16] ?_;refine fL ?_;refine ae [4] ?_;refine eJ ?_;refine⟨vi ?_,rfl⟩;first|(rw[EB hk h0 (fun h=>by omega)];done)|(rw[EB hk h0 (fun h=>by assumption)];done)
theorem abk(E:List ByteArray)(s:ByteArray)(hlen:E.length≤maxLen):VP Tryz.prog G 140 [.list 1 (E.flatMap cS) E.length,.v (.string s)] (.v (.int .i64 (dM (iW s) E))):=by
 refine VC.body func140 rfl ntmps140 aO fun X0 w0 aZ=>?_;simp only[maxLen] at hlen;refine ae [0,1] ?_;refine ae [0,1,7,8] ?_;refine eB [0,1,7] (fun aW _ (k:Nat) aK=>(k≤E.length)∧(∀x∈E.take k,iW s x=false)∧aK=(⟨19,(8,.v (.int .i64 (k:Nat)))::aW,[]⟩:St)) (fun (k:Nat)=>E.length-k) 0 ⟨(Nat.zero_le _),bq,rfl⟩ ?_;rintro k _ ⟨hk,h0,rfl⟩;refine ae [0,1,7,8,9] ?_;refine aq (fun az aH=>?_) (fun az aH=>?_)
 ·have aa:k<E.length:=(by omega)
  refine ae [0,1,5,7,8] ?_;refine ae [0,1,5,7,8,16] ?_;refine aq (fun aG aV=>?_) (fun aG aV=>?_)
  ·refine ae [4] ?_;refine aJ [] ?_;refine⟨vi ?_,rfl⟩;first|(rw[vQ w4 h0 aG];done)|(rw[uz w4 h0];done)
  refine cj [0,1,7,8] ?_;refine⟨(k+1),_,cx,aM,w4,(yn w4 h0 aG),rfl⟩
 refine ae [4] ?_;refine aJ [] ?_;refine⟨vi ?_,rfl⟩;first|(rw[vQ w4 h0 aG];done)|(rw[uz w4 h0];done)
theorem NR(E:List ByteArray)(s:ByteArray)(hlen:E.length≤maxLen):VP Tryz.prog G 103 [.list 1 (E.flatMap cS) E.length,.v (.string s)] (.v (.bool (E.any (iW s)))):=by
 refine VC.body func103 rfl ntmps103 aO fun X0 w0 aZ=>?_;refine ae [0,1] ?_;refine cL [4] (abk E s hlen) ?_;refine aJ [] ?_;exact⟨vb PS,rfl⟩
theorem oX(hm:(3,marksC)∈G)(t:Tk)(hs:t.s.size≤maxLen):VP Tryz.prog G 102 [.agg (cT t)] (.v (.int .i64 (tD t))):=by
 refine VC.body func102 rfl ntmps102 aO fun X0 w0 aZ=>?_;unfold cT;refine bX ?_;refine OD.box (ds:=[_,_,_]) an rfl rfl ot rfl rfl (fun b1=>?_);refine aj 53 [1] ?_;refine ae [1,3] ?_;refine ae [1,3,8] ?_;refine ae [1,3,8,9] ?_;refine aq (fun az aH=>?_) (fun az aH=>?_)
 ·refine fK 21 (ap _) ?_ (fun _ h=>h);refine ax 0 rfl bj ?_;refine ax 1 rfl bj ?_;refine dm.split (t:=12) lk (fun U=>?_) (fun U=>?_)
  ·have E:=U;(try simp only[V.ng,ne_eq] at E)
   refine ax 2 rfl (c8 1) ?_;refine ax 3 rfl (dB 0) ?_;refine ax 4 rfl mH ?_;refine ax 5 rfl wR ?_;refine ax 6 rfl bj ?_;refine dm.split (t:=17) lk (fun wQ=>?_) (fun wQ=>?_)
   ·have wC:=wQ;(try simp only[V.ng,ne_eq] at wC)
    refine ax 7 rfl (c8 1) ?_;refine ax 8 rfl (dB 0) ?_;refine ax 9 rfl (Hf (c:=lT t.s 0) rfl ot bJ runUnderlying9 rfl (Jt (aew tL))) ?_;refine dm.later rfl ?_;refine AD.one (i:=10) ay ?_;refine bg.gI rfl gL rfl rfl rfl call136 (OA _) ⟨ot,trivial⟩ ?_;refine cr 11 rfl wR ?_;refine cr 12 rfl bj ?_;refine AD.split (t:=23) lk (fun Z=>?_) (fun Z=>?_)
    ·have I:=Z;(try simp only[V.ng,ne_eq] at I)
     refine cr 13 rfl (c8 1) ?_;refine cr 16 rfl (c8 1) ?_;refine AD.two (i:=14) (j:=17) ay ?_ ?_
     ·refine at_ rfl (dB 0) ?_;refine AD.two (i:=15) (j:=17) ay ?_ ?_
      ·refine bg.gI rfl gL rfl rfl rfl call137 (Q9 t.s 138 wD call138 PF hs) ⟨ot,sW,trivial⟩ ?_;refine AD.one (i:=17) ay ?_;refine at_ rfl (dB 0) ?_;refine cr 18 rfl (DL rfl rfl ot runUnderlying9) ?_;refine cr 19 rfl mH ?_;refine cr 20 rfl wR ?_;exact Ky
      refine at_ rfl (dB 0) ?_;refine cr 18 rfl (DL rfl rfl ot runUnderlying9) ?_;exact z141
     refine at_ rfl (dB 0) ?_;refine cr 18 rfl (DL rfl rfl ot runUnderlying9) ?_;refine AD.one (i:=14) ay ?_;refine at_ rfl (dB 0) ?_;exact z141
    have I:=Z;(try simp only[V.ng,ne_eq] at I)
    exact VF
   have wC:=wQ;(try simp only[V.ng,ne_eq] at wC)
   exact UF
  have E:=U;(try simp only[V.ng,ne_eq] at E)
  refine l9 2 rfl ?_;refine l9 3 rfl ?_;refine l9 4 rfl ?_;refine ax 5 rfl u4 ?_;refine ax 6 rfl bj ?_;exact UF
 refine ae [1,3,8,32] ?_;refine aq (fun aG aV=>?_) (fun aG aV=>?_)
 ·refine ae [1,36] ?_;refine aq (fun aY bz=>?_) (fun aY bz=>?_)
  ·refine ae [2] ?_;refine aJ [] ?_;exact L4
  refine cj [3] ?_;exact UH
 refine ae [1,3,8,40] ?_;refine aq (fun bC bY=>?_) (fun bC bY=>?_)
 ·exact UH
 refine ae [1,3,42] ?_;refine aq (fun cy de=>?_) (fun cy de=>?_)
 ·refine fK 7 (ap _) ?_ (fun _ h=>h);refine ax 0 rfl bj ?_;refine ax 1 rfl bj ?_;refine dm.split (t:=45) lk (fun KK=>?_) (fun KK=>?_)
  ·have O:=KK;(try simp only[V.ng,ne_eq] at O)
   refine ax 2 rfl (ei (l:=0) (h:=0) rfl vS trivial trivial (by first|exact Rp (ls:=EV) (g:=cS) hm rfl rfl runUnderlying214 sizeOf9 rfl w7 w7)) ?_;refine ax 3 rfl (c8 1) ?_;refine ax 4 rfl (dB 0) ?_;refine dm.later rfl ?_;refine AD.one (i:=5) ay ?_;refine bg.gI rfl gL rfl rfl rfl call103 (NR EV t.s w7) ⟨ot,ot,trivial⟩ ?_;refine cr 6 rfl wR ?_;exact Ky
  have O:=KK;(try simp only[V.ng,ne_eq] at O)
  refine l9 2 rfl ?_;refine l9 3 rfl ?_;refine l9 4 rfl ?_;refine dm.later rfl ?_;refine AD.one (i:=5) ay ?_;refine bg.skip rfl (mj rfl rfl rfl lk ji) rfl ?_;refine cr 6 rfl u4 ?_;refine eA ?_;refine bf [3] ?_;refine ae [52] ?_;refine eC ?_;exact L1
 refine ae [2] ?_;refine aJ [] ?_;refine⟨vi ?_,rfl⟩;try simp only[uF] at *
 simp only[tD,nO];try simp_all
 try omega
theorem td(hm:(3,marksC)∈G)(hw:(2,wordsC)∈G)(s:ByteArray)(hs:s.size≤maxLen):VP Tryz.prog G 63 [.v (.string s)] (.v (.int .i64 (cM s))):=by
 refine VC.body func63 rfl ntmps63 aO fun X0 w0 aZ=>?_;refine ae [0] ?_;refine ae [0,5] ?_;refine aq (fun az aH=>?_) (fun az aH=>?_)
 ·exact L8
 refine aC 2 ?_;refine dR call102 (oX hm ⟨1,s,0⟩ hs) ?_;refine aD 2 ?_;refine bS 10 (fun I E=>?_) (fun I E=>?_)
 ·refine aj 15 [14] ?_;refine eC ?_;exact L8
 refine OD.still gL rfl (ei (l:=0) (h:=0) rfl vS trivial trivial (by first|exact Rp (ls:=uM) (g:=cS) hw rfl rfl runUnderlying183 sizeOf9 rfl w7 w7)) ?_;refine aD 1 ?_;refine OD.gI gL rfl rfl rfl call103 (NR uM s w7) ⟨ot,ot,trivial⟩ ?_;refine aj 15 [14] ?_;refine aq (fun aG aV=>?_) (fun aG aV=>?_)
 ·exact L8
 refine ae [2] ?_;refine aJ [] ?_;refine⟨vi ?_,rfl⟩;try simp only[NZ] at *
 simp only[cM];first|(rw[if_pos w4];done)|(rw[if_neg w4];cases h1:nO s<;>cases h2:uM.any (iW s)<;>simp_all)
def wb(c:UInt8):UInt8:=UInt8.ofNat (97+c.toNat % 26)
theorem aeJ(c:UInt8):(wb c).toNat=97+c.toNat % 26:=by
 have:c.toNat % 26<26:=Nat.mod_lt _ w7;unfold wb;rw[UInt8.toNat_ofNat'];exact Nat.mod_eq_of_lt w4
theorem acU(c:UInt8):IntKind.u8.wrap (97+(c.toNat:Int).tmod 26)=((wb c).toNat:Int):=by
 rw[aeJ];have h1:(c.toNat:Int).tmod 26=((c.toNat % 26:Nat):Int):=rfl;have:c.toNat % 26<26:=Nat.mod_lt _ w7;rw[h1];have e:(97+((c.toNat % 26:Nat):Int))=((97+c.toNat % 26:Nat):Int):=(by omega)
 rw[e];show((97+c.toNat % 26:Nat):Int) % 256=_;omega
def yQ(s:ByteArray):List UInt8:=if s.size=0 then [120] else (s.data.toList.take 6).map wb
def wA(s:ByteArray):ByteArray:=⟨(yQ s).toArray⟩
theorem Ia{s:ByteArray}(h:k<s.size):(s.data.toList.take k).map wb++[wb (lT s k)]=(s.data.toList.take (k+1)).map wb:=by
 have h':k<s.data.toList.length:=(by rw[ku];exact h)
 rw[take_succ_eq_append_getElem h',map_append,Hh h'];rfl
theorem PA{s:ByteArray}(hk:k≤s.size)(h:k=s.size∨6≤k)(h6:k≤6):(s.data.toList.take k)=s.data.toList.take 6:=by
 rcases h with h|h
 ·rw[take_of_length_le (by rw[ku];omega),take_of_length_le (by rw[ku];omega)]
 rw[show k=6 by omega]
theorem ZJ:(Tryz.prog.info? 5).map (fun i=>(i.zero,i.size,i.bytes))=some (some (.int .u8 0),1,1):=by kernel_rfl
theorem qF(s:ByteArray)(hs:s.size≤maxLen):VP Tryz.prog G 23 [.v (.string s)] (.v (.string (wA s))):=by
 refine VC.body func23 rfl ntmps23 aO fun X0 w0 aZ=>?_;simp only[maxLen] at hs;refine ae [0] ?_;refine bX ?_;refine bf [0,3] ?_;refine ae [0,3,4] ?_;refine CD.block ?_;refine mJ (fun (E:Nat×Option Addr×Nat×List ag) aK=>match E with|(k,O,U,Sb)=>(k≤s.size)∧(k≤6)∧(bw 5 1 (((s.data.toList.take k).map wb).flatMap cB) ((s.data.toList.take k).map wb).length O U Sb)∧aK=(⟨28,[(0,.v (.string s)),(3,.v (.slice O ((s.data.toList.take k).map wb).length U)),(4,.v (.int .i64 (k:Nat)))],(Sb)⟩:St)) (fun (E:Nat×Option Addr×Nat×List ag)=>match E with|(k,O,U,Sb)=>s.size-k) (0,none,0,[]) ⟨(Nat.zero_le _),(Nat.zero_le _),(bw.cast iw kJ),rfl⟩ (aM (h:=by repeat (first|exact trivial|refine⟨(by (repeat (first|exact fw|(apply fP;focus (first|rfl|(simp;done)|(congr 2;omega)|(apply eE;exact Ia Z)|(apply eE;simp;done)))|(apply fA;focus rfl)));done),?_⟩))) ?_;rintro⟨k,O,U,Sb⟩ _ ⟨hk,h6,oP,rfl⟩;refine aC 5 ?_;refine bS 9 (fun MI ahB=>?_) (fun MI ahB=>?_)
 ·refine bf [0,3,4,12] ?_;refine aq (fun az aH=>?_) (fun az aH=>?_)
  ·refine dL 2 ?_;have Z:k<s.size:=(by omega)
   have xz:s[k]?=some (lT s k):=Jt Z;refine aD 1 ?_;refine bN (Hf rfl ot ot runUnderlying9 rfl (by first|assumption|rfl)) ?_;refine bN (cZ rfl ot bJ (IK w4)) ?_;refine bN (cZ (r:=.int .u8 ((wb (lT s k)).toNat:Int)) rfl bJ ot (j3 (acU _))) ?_;refine ee (bZ 0 [_]) [.int .u8 0] [_] zeroValue5 runUnderlying49 sizeOf5 (fun CK=>?_);refine fG 0 21 1 1 ?_;refine OD.dZ (ls:=((s.data.toList.take k).map wb)) (new:=[wb (lT s k)]) (Sq:=Sb) o9 wm an rfl rfl underlying49 ZJ rfl w7 ot oP (dx (A:=[])) ot bq vp gU (fun MJ I ahC ahD=>?_);refine OD.perm (dV (S1:=[⟨MJ,5,I*1,flatMap cB (((s.data.toList.take k).map wb)++[wb (lT s k)])⟩]) (A:=[])) ?_;refine aj 28 [0,3,4] ?_;refine cj [0,3,4] ?_;refine⟨((k+1),(some ⟨MJ,0,none⟩),I,[⟨MJ,5,I*1,flatMap cB (((s.data.toList.take k).map wb)++[wb (lT s k)])⟩]),_,cx,(aM (h:=by repeat (first|exact trivial|refine⟨(by (repeat (first|exact fw|(apply fP;focus (first|rfl|(simp;done)|(congr 2;omega)|(apply eE;exact Ia Z)|(apply eE;simp;done)))|(apply fA;focus rfl)));done),?_⟩))),w4,w4,(bw.cast (bI ahC ahD) (by exact Ia Z)),rfl⟩
  refine ae [3,25] ?_;refine aq (fun aG aV=>?_) (fun aG aV=>?_)
  ·refine ae [2] ?_;refine eJ ?_;exact L7
  refine aC 1 ?_;refine OD.gP (t:=26) (Sq:=Sb) lk oP (cq o9 _) (dx (A:=[])) ?_;refine bN Cz ?_;refine aj 28 [2] ?_;refine aJ [] ?_;exact L7
 refine bf [0,3,4,12] ?_;refine fL ?_;refine ae [3,25] ?_;refine aq (fun aG aV=>?_) (fun aG aV=>?_)
 ·refine ae [2] ?_;refine eJ ?_;exact L7
 refine aC 1 ?_;refine OD.gP (t:=26) (Sq:=Sb) lk oP (cq o9 _) (dx (A:=[])) ?_;refine bN Cz ?_;refine aj 28 [2] ?_;refine aJ [] ?_;refine⟨vs ?_,rfl⟩;have zV:k=s.size∨6≤k:=(by omega)
 have Ks:min k s.size=k:=Nat.min_eq_left hk;simp only[length_map,length_take,ku,Ks] at *;unfold wA yQ;first|(rw[if_pos w4];done)|(rw[if_neg w4,PA hk zV h6])
abbrev MarksTab(w:World):Prop:=Tab.mv w 3 marksC

end Go.Proofs.YtbcmjoaggammcaaGreatDoor.Nm
namespace Go.Proofs.YtbcmjoaggammcaaGreatDoor.Pk
open List
open Go.Proofs.Tryz
open Go.RowKit V
def dX(n m:Int):Int:=if n<0 then (-(n+1)).tmod m else n.tmod m
theorem jW(n:Int){m:Int}(h:1≤m):0≤dX n m∧dX n m<m:=by
 have key:∀k:Int,0≤k→0≤k.tmod m∧k.tmod m<m:=fun k hk=>⟨Int.tmod_nonneg _ hk,Int.tmod_lt_of_pos _ w4⟩
 unfold dX;split
 ·exact key _ w4
 exact key _ w4
variable (G:List (Nat×List Value))
theorem kS(n m:Int)(hn:-9223372036854775808≤n)(iK:n≤9223372036854775807)(hm:1≤m):VP Tryz.prog G 11 [.v (.int .i64 n),.v (.int .i64 m)] (.v (.int .i64 (dX n m))):=by
 refine VC.body func11 rfl ntmps11 aO fun X0 w0 aZ=>?_;refine ae [0,1] ?_;refine ae [0,1,6] ?_;refine aq (fun az aH=>?_) (fun az aH=>?_)
 ·refine gW [0,1] ?_;refine aQ 2 ?_ (h:=by exact(Ed rfl ot (Jr (r:=-(n+1)) (by rw[wrap_i64]<;>omega))));refine bH ?_;refine cN [4] ?_;refine aQ 2 ?_ (h:=by exact(cZ rfl ot ot (IK w4)));refine bH ?_;refine aJ [] ?_;exact⟨by unfold dX;split<;>first|rfl|omega,rfl⟩
 refine cN [4] ?_;refine aQ 2 ?_ (h:=by exact(cZ rfl ot ot (IK w4)));refine bH ?_;refine aJ [] ?_;exact⟨by unfold dX;split<;>first|rfl|omega,rfl⟩

end Go.Proofs.YtbcmjoaggammcaaGreatDoor.Pk
namespace Go.Proofs.YtbcmjoaggammcaaGreatDoor.Nm
open List
open Go.Proofs.Tryz
open Go.RowKit V Pk
variable {l:List UInt8}
theorem mk_data(l:List UInt8):(⟨l.toArray⟩:ByteArray).data.toList=l:=rfl
theorem IP(l:List UInt8):(⟨l.toArray⟩:ByteArray).size=l.length:=by rw[←ku]
theorem ZK(s:ByteArray):1≤(yQ s).length∧(yQ s).length≤6:=by
 unfold yQ;split
 ·exact⟨by decide,by decide⟩
 rw[length_map,length_take,ku];omega
theorem NF{p:UInt8→Bool}:∀{l:List UInt8},(∀c∈l,p c=true)→l.takeWhile p=l
 | [],_=>rfl
 | a::l,h=>by rw[takeWhile_cons,if_pos (h a mem_cons_self),NF fun c hc=>h c (mem_cons_of_mem _ hc)]
theorem NK{c:UInt8}(h:97≤c.toNat∧c.toNat≤122):vY c=true:=by unfold vY;exact decide_eq_true (.inl h)
theorem abl(h1:1≤l.length)(h:∀c∈l,97≤c.toNat∧c.toNat≤122):nO ⟨l.toArray⟩=true:=by
 unfold nO Fi;rw[IP,mk_data,NF fun c hc=>by unfold wD;rw[NK (h c hc)];rfl];have h0:lT ⟨l.toArray⟩ 0∈l:=by
  exact Uu
 rw[NK (h _ h0)];have:l.length≠0:=(by omega)
 simp[this]
theorem Yq:∀x∈uM,(lT x 0).toNat≤90:=by decide
theorem YQ(h1:1≤l.length)(h:∀c∈l,97≤c.toNat∧c.toNat≤122):uM.any (iW ⟨l.toArray⟩)=false:=by
 rw[any_eq_false];intro x hx he;have he:=AV.1 he;have h0:lT ⟨l.toArray⟩ 0∈l:=by
  exact Uu
 have:=h _ h0;have h2:=Yq x hx;rw[←he] at h2;omega
theorem sS(h1:1≤l.length)(E:l.length≤8)(h:∀c∈l,97≤c.toNat∧c.toNat≤122):cM ⟨l.toArray⟩=0:=by
 unfold cM;rw[IP,if_neg w4,abl h1 h,YQ h1 h];rfl
theorem YR(s:ByteArray):1≤(wA s).size∧(wA s).size≤6:=by unfold wA;rw[IP];exact ZK s
variable {G:List (Nat×List Value)}
abbrev WordsTab(w:World):Prop:=Tab.mv w 2 wordsC

end Go.Proofs.YtbcmjoaggammcaaGreatDoor.Nm
namespace Go.Proofs.YtbcmjoaggammcaaGreatDoor.Vl
open List
open Go.Proofs.Tryz
open Go.RowKit V Pk
structure Vl where
 k:Int
 n:Int
 s:ByteArray
def cV(v:Vl):List D:=[.v (.int .i64 v.k),.v (.int .i64 v.n),.v (.string v.s)]
theorem fh(v:Vl):(cV v).length=3:=rfl
theorem ER(v:Vl):(cV v).all V.one=true:=rfl
structure Vl.Ok (v:Vl):Prop where
 k1:-9223372036854775808≤v.k
 k2:v.k≤9223372036854775807
 n1:-9223372036854775808≤v.n
 n2:v.n≤9223372036854775807
 s:v.s.size≤maxLen
def bQ:Vl:=⟨0,0,⟨#[]⟩⟩
def cA(v:Vl):Int :=
 if v.k=0 then (if v.n≠0∨v.s.size≠0 then 6 else 0)
 else if v.k=1 then (if v.n<0∨v.n>1∨v.s.size≠0 then 6 else 0)
 else if v.k=2 then (if v.s.size≠0 then 6 else 0)
 else if v.k=3 then (if v.n≠0 then 6 else if v.s.size>20 then 1 else 0)
 else 2
theorem Vl.ext'{x y:Vl}(h1:x.k=y.k)(h2:x.n=y.n)(h3:x.s=y.s):x=y:=by cases x;cases y;simp only at h1 h2 h3;subst h1 h2 h3;rfl
def nA(s:ByteArray)(m:Nat):ByteArray:=s.extract 0 (min s.size m)
def o8(r:Vl):Vl :=
 if dX r.k 4=1 then ⟨1,dX r.n 2,⟨#[]⟩⟩
 else if dX r.k 4=2 then ⟨2,r.n,⟨#[]⟩⟩
 else if dX r.k 4=3 then ⟨3,0,nA r.s 10⟩
 else bQ
theorem OB(s:ByteArray)(m:Nat):(nA s m).data.toList=s.data.toList.take m:=by
 unfold nA;rw[ByteArray.data_extract,Array.toList_extract];simp only[extract_eq_take_drop,drop_zero,Nat.sub_zero];rw[←ku];rcases Nat.le_total s.data.toList.length m with h|h
 ·rw[Nat.min_eq_left h,take_length,take_of_length_le h]
 rw[Nat.min_eq_right h]
theorem Hz(s:ByteArray)(m:Nat):(nA s m).size=min s.size m:=by
 rw[←ku,OB,length_take,ku,Nat.min_comm]
variable {G:List (Nat×List Value)}
theorem oX(v:Vl):VP Tryz.prog G 30 [.agg (cV v)] (.v (.int .i64 (cA v))):=by
 refine VC.body func30 rfl ntmps30 aO fun X0 w0 aZ=>?_;unfold cV;refine bX ?_;refine OD.box (ds:=[_,_,_]) an rfl rfl ot rfl rfl (fun b1=>?_);refine aj 44 [1] ?_;refine ae [1,4] ?_;refine ae [1,4,5] ?_;refine aq (fun az aH=>?_) (fun az aH=>?_)
 ·refine aC 4 ?_;refine bS 10 (fun U E=>?_) (fun U E=>?_)
  ·refine bf [14] ?_;refine eC ?_;exact wO
  refine bf [14] ?_;refine aq (fun aG aV=>?_) (fun aG aV=>?_)
  ·exact wO
  exact wO
 refine ae [1,4,15] ?_;refine aq (fun aY bz=>?_) (fun aY bz=>?_)
 ·refine aC 4 ?_;refine bS 20 (fun Z I=>?_) (fun Z I=>?_)
  ·refine bf [29] ?_;refine eC ?_;exact wO
  refine aD 5 ?_;refine bS 25 (fun ahE O=>?_) (fun ahE O=>?_)
  ·refine bf [29] ?_;refine eC ?_;exact wO
  refine bf [29] ?_;refine aq (fun bC bY=>?_) (fun bC bY=>?_)
  ·exact wO
  exact wO
 refine ae [1,4,30] ?_;refine aq (fun cy de=>?_) (fun cy de=>?_)
 ·refine ae [34] ?_;refine aq (fun dO eo=>?_) (fun dO eo=>?_)
  ·exact z131
  exact z131
 refine ae [1,35] ?_;refine aq (fun eS fW=>?_) (fun eS fW=>?_)
 ·refine ae [1,39] ?_;refine aq (fun eL gg=>?_) (fun eL gg=>?_)
  ·exact z131
  refine ae [43] ?_;refine aq (fun kY tT=>?_) (fun kY tT=>?_)
  ·exact z131
  exact z131
 refine ae [2] ?_;refine aJ [] ?_;refine⟨vi ?_,rfl⟩;try simp only[uF] at *
 unfold cA;simp_all;try omega
theorem ET(s:ByteArray)(m:Nat)(hs:s.size≤maxLen):VP Tryz.prog G 22 [.v (.string s),.v (.int .i64 (m:Int))] (.v (.string (nA s m))):=by
 refine VC.body func22 rfl ntmps22 aO fun X0 w0 aZ=>?_;simp only[maxLen] at hs;refine ae [0,1] ?_;refine cN [4] ?_;refine aQ 4 ?_ (h:=by exact(X7 (r:=.int .i64 ((min s.size m:Nat):Int)) rfl ot ot (fun cs w=>(aes cs w).trans (by split<;>(congr 3;omega)))));refine aQ 0 ?_ (h:=by exact(ei (l:=0) rfl ot trivial ⟨_,ot⟩ (by first|exact aeu (fun _=>rfl) (fun h=>by cases h) runUnderlying9 w4 w4)));refine bH ?_;refine aJ [] ?_;exact⟨by first|rfl|(simp[*];done),rfl⟩
theorem PC(r:Vl)(h:r.Ok):VP Tryz.prog G 105 [.agg (cV r)] (.agg (cV (o8 r))):=by
 refine VC.body func105 rfl ntmps105 aO fun X0 w0 aZ=>?_;unfold cV;refine bX ?_;refine OD.box (ds:=[_,_,_]) an rfl rfl ot rfl rfl (fun b1=>?_);refine OD.alloc (ds:=[_,_,_]) an rfl rfl zeroValue30 rfl (fun b2=>?_);refine aj 29 [1,2] ?_;refine cL [1,2,3] (kS G r.k 4 h.k1 h.k2 w7) ?_;refine ae [1,2,3,7] ?_;refine ae [1,2,3,7,8] ?_;refine aq (fun az aH=>?_) (fun az aH=>?_)
 ·refine aC 3 ?_;refine dR call11 (kS G r.n 2 h.n1 h.n2 w7) ?_;refine aD 1 ?_;exact z76
 refine ae [1,2,3,7,15] ?_;refine aq (fun aG aV=>?_) (fun aG aV=>?_)
 ·refine aC 4 ?_;exact z76
 refine ae [1,2,3,21] ?_;refine aq (fun aY bz=>?_) (fun aY bz=>?_)
 ·refine aC 3 ?_;refine dR call22 (ET r.s 10 h.s) ?_;refine aD 1 ?_;exact z76
 refine aC 1 ?_;refine aN 0 [_,_,_] sizeOf30 ?_;refine aj 29 [2] ?_;refine aJ [] ?_;refine⟨?_,rfl⟩;unfold o8 bQ;simp_all

end Go.Proofs.YtbcmjoaggammcaaGreatDoor.Vl
