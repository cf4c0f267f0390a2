/-
  GN: walks and plain facts, part 5.
-/
import Derived.Test.YtomnenkeecbglaaGreatDoorPGN4
set_option linter.unusedVariables false
set_option linter.unusedSimpArgs false
set_option maxRecDepth 100000
set_option maxHeartbeats 4000000
namespace Go.Proofs.YtomnenkeecbglaaGreatDoor.Pa
open List
open Go.Proofs.Tryz
open Go.RowKit V Pk Vl Go.Proofs.YtomnenkeecbglaaGreatDoor.Nm Pc
variable {G:List (Nat×List Value)}
variable {l:List Tk} {i p n:Nat} {os:List aZ} {α:Type} {ts h:List (List Tk)} {o:aZ} {E:List ByteArray}
theorem Kl(h:i<l.length)(hq:gi l 0=gi (l.drop i) i)(hc:dZ l[i]≠0):gi l 0=some (i,dZ l[i]):=by
 rw[hq,drop_eq_getElem_cons h,gi,if_neg hc]
theorem Km(h:i<l.length)(hq:gi l 0=gi (l.drop i) i)(hc:dZ l[i]=0):gi l 0=gi (l.drop (i+1)) (i+1):=by
 rw[hq,drop_eq_getElem_cons h,gi,if_pos hc]
theorem Cq:∀{l:List Tk} {i:Nat},gi l i=none->∀t∈l,dZ t=0
 | [],_,_,t,h=>by cases h
 | a::r,i,h,t,ht=>by
  unfold gi at h;split at h
  ·rename_i hc;rcases mem_cons.1 ht with rfl|ht
   ·exact hc
   exact Cq h t ht
  cases h
theorem Jk{t:Tk}(h:dZ t=0)(hk:t.k=2):0<=t.n:=by
 unfold dZ at h;rw[if_neg w7,if_pos hk] at h;split at h
 ·cases h
 omega
theorem HB(h:l.length>100):ie l=(lz,0,10):=by unfold ie;rw[if_pos h]
theorem HC{e:Int}(h:l.length<=100)(hb:gi l 0=some (i,e)):ie l=(lz,i,e):=by unfold ie;rw[if_neg w7,hb]
theorem Is{e:Int}(h:l.length<=100)(hb:gi l 0=none)(hs:jE l 0 [] = .no p e):ie l=(lz,p,e):=by unfold ie;rw[if_neg w7,hb,hs];rfl
theorem It{s:dh}(h:l.length<=100)(hb:gi l 0=none)(hs:jE l 0 [] = .ok s p os)(hp:¬p<l.length):ie l=(s,0,0):=by
 unfold ie;rw[if_neg w7,hb,hs];simp only[Rs.bind,if_neg hp]
theorem G8{s:dh}(h:l.length<=100)(hb:gi l 0=none)(hs:jE l 0 [] = .ok s p os)(hp:p<l.length):ie l=(lz,p,if l.length<=p then 7 else 6):=by
 unfold ie;rw[if_neg w7,hb,hs];simp only[Rs.bind,if_pos hp,gv]
def nY(r:dh×Nat×Int):D:=.dK [.agg (fG r.1),ag ((r.2.1:Nat):Int),ag r.2.2]
theorem GI(E:Frame)(cs:List Frame)(h:E.mode = .returning):(recoverD (E::cs)=some (.nilIface,{E with mode:=.returning}::cs))\/(recoverD (E::cs)=none/\Value.nilIface = .nilIface/\FrameMode.returning = .returning):=.inr ⟨by simp[recoverD,h],rfl,rfl⟩
theorem GJ(v:Value)(E:Frame)(cs:List Frame)(h:E.mode = .panicking [{v:=v,recovered:=false}]):(recoverD (E::cs)=some (v,{E with mode:=.panicking [{v:=v,recovered:=true}]}::cs))\/(recoverD (E::cs)=none/\v = .nilIface/\FrameMode.panicking [{v:=v,recovered:=true}] = .panicking [{v:=v,recovered:=false}]):=.inl (by simp[recoverD,h])
theorem Kn(E I M:Nat)(S:List ak):qe Tryz.prog G 69 [bD E,bD I,bD M] S .returning .returning (fun S'=>S'=S):=by
 refine qe.recover (v:=.nilIface) func69 rfl ntmps69 results69 aF rfl rfl rfl rfl rfl rfl cc (fun O cs h=>GI O cs h) fun U w0=>?_;refine ah ?_;refine aa ?_;refine ae (xq rfl ot underlying20) ?_;refine bc (Wk.aR (n:=15) (l':=[(0,_),(1,_),(2,_),(3,_),(7,_)]) (S':=S) rfl rfl bj) ?_;refine bi ?_;refine aM ot (fun aA=>?_) (fun aA=>?_)
 ·exact absurd aA cc
 refine aS ?_;exact⟨rfl,rfl⟩
theorem xn : ∀ w, ((#[{ name := "Kind", type := 3, offset := 0, embedded := false, tag := "", pkgPath := "", byteOffset := 0 }, { name := "Table", type := 9, offset := 1, embedded := false, tag := "", pkgPath := "", byteOffset := 8 }, { name := "Cols", type := 58, offset := 2, embedded := false, tag := "", pkgPath := "", byteOffset := 24 }, { name := "Row", type := 67, offset := 3, embedded := false, tag := "", pkgPath := "", byteOffset := 48 }, { name := "Names", type := 34, offset := 4, embedded := false, tag := "", pkgPath := "", byteOffset := 72 }, { name := "Count", type := 4, offset := 5, embedded := false, tag := "", pkgPath := "", byteOffset := 96 }, { name := "Where", type := 68, offset := 6, embedded := false, tag := "", pkgPath := "", byteOffset := 104 }, { name := "Order", type := 9, offset := 7, embedded := false, tag := "", pkgPath := "", byteOffset := 128 }, { name := "Down", type := 4, offset := 8, embedded := false, tag := "", pkgPath := "", byteOffset := 144 }, { name := "Limit", type := 3, offset := 9, embedded := false, tag := "", pkgPath := "", byteOffset := 152 }, { name := "Set", type := 9, offset := 10, embedded := false, tag := "", pkgPath := "", byteOffset := 160 }, { name := "To", type := 68, offset := 11, embedded := false, tag := "", pkgPath := "", byteOffset := 176 }] : Array Field).mapM fun f => do pure (f.offset, ← sizeOf f.type) : Sem (Array (Nat × Nat))).run Tryz.prog w = .ok #[(0, 1), (1, 1), (2, 1), (3, 1), (4, 1), (5, 1), (6, 1), (7, 1), (8, 1), (9, 1), (10, 1), (11, 1)] w := fun w => by simp [sizeOf3, sizeOf34, sizeOf4, sizeOf58, sizeOf67, sizeOf68, sizeOf9]
theorem Jl(k2 k3 E p:Nat)(e:Int)(M O:D)(cs:List D)(cL:cs.length=12):qe Tryz.prog G 69 [bD k2,bD k3,bD E] [⟨E,35,1,[M]⟩,⟨k3,3,1,[O]⟩,⟨k2,70,12,cs⟩] (.panicking (mT p e)) (.panicking [{v:=.iface 158 (.agg #[.int .i64 (p:Nat),.int .i64 e]),recovered:=true}]) (fun S'=>∃B,S'=[B,⟨E,35,1,[ag e]⟩,⟨k3,3,1,[ag ((p:Nat):Int)]⟩,⟨k2,70,12,[ag 0,eu,ax,ax,ax,bw false,ax,eu,bw false,ag 0,eu,ax]⟩]):=by
 rcases cs with _|⟨x0,_|⟨x1,_|⟨x2,_|⟨x3,_|⟨x4,_|⟨x5,_|⟨x6,_|⟨x7,_|⟨x8,_|⟨x9,_|⟨U,_|⟨Y,_|⟨Z,cs⟩⟩⟩⟩⟩⟩⟩⟩⟩⟩⟩⟩⟩<;>first|(simp at cL;done)|skip
 refine qe.recover (v:=.iface 158 (.agg #[.int .i64 (p:Nat),.int .i64 e])) func69 rfl ntmps69 results69 aF rfl rfl rfl rfl rfl rfl cc (fun c0 cs h=>GJ _ c0 cs h) fun X0 w0=>?_;refine ah ?_;refine aa ?_;refine ae (xm rfl ot underlying20) ?_;refine aK [(0,_),(1,_),(2,_),(3,_),(7,_)] [⟨E,35,1,[_]⟩,⟨k3,3,1,[_]⟩,⟨k2,70,12,[_,_,_,_,_,_,_,_,_,_,_,_]⟩] ?_;refine aM ot (fun aA=>?_) (fun aA=>?_)
 ·refine ah ?_;refine aa ?_;refine ae (Ge (vs:=[.int .i64 ((p:Nat):Int),.int .i64 e]) rfl ot underlying158) ?_;refine eo (ds:=[_,_]) ay rfl rfl zeroValue158 rfl (fun I=>?_);refine bn 0 [_,_] sizeOf158 ?_;refine aK [(0,_),(1,_),(2,_),(4,_)] [⟨I,158,2,[_,_]⟩,⟨E,35,1,[_]⟩,⟨k3,3,1,[_]⟩,⟨k2,70,12,[_,_,_,_,_,_,_,_,_,_,_,_]⟩] ?_;refine ez (aq (take 1 _)) af (fun _ h=>(Sublist.map _ (take_sublist _ _)).subset h) ?_;refine aj 0 rfl (dc (pl:=[]) (ds:=[_,_,_,_,_,_,_,_,_,_,_,_]) rfl zeroValue70 runUnderlying70 xn trivial rfl rfl) ?_;refine aj 1 rfl (aB 0) ?_;refine aj 2 rfl (aH 0) ?_;refine aj 3 rfl (aB 1) ?_;refine aj 4 rfl (aH 0) ?_;refine bt.later rfl ?_;refine aL (i:=5) af ?_;refine aR 3 [_,_,_,_,_,_,_,_,_,_,_,_] sizeOf70 ?_;refine aL (i:=6) af ?_;refine aR 2 [_] sizeOf3 ?_;refine aL (i:=7) af ?_;refine aR 1 [_] sizeOf35 ?_;refine cg [] [⟨I,158,2,[_,_]⟩,⟨E,35,1,[_]⟩,⟨k3,3,1,[_]⟩,⟨k2,70,12,[_,_,_,_,_,_,_,_,_,_,_,_]⟩] ?_;refine bO af ?_;exact⟨rfl,_,rfl⟩
 exact absurd aA cc
theorem Gm : ∀ w, ((#[{ name := "l", type := 99, offset := 0, embedded := false, tag := "", pkgPath := "padlock/parse", byteOffset := 0 }, { name := "at", type := 3, offset := 1, embedded := false, tag := "", pkgPath := "padlock/parse", byteOffset := 24 }, { name := "ops", type := 68, offset := 2, embedded := false, tag := "", pkgPath := "padlock/parse", byteOffset := 32 }] : Array Field).mapM fun f => do pure (f.offset, ← sizeOf f.type) : Sem (Array (Nat × Nat))).run Tryz.prog w = .ok #[(0, 1), (1, 1), (2, 1)] w := fun w => by simp [sizeOf3, sizeOf68, sizeOf99]
theorem Iu(hm:(1,marksC)∈G)(hw:(0,wordsC)∈G)(hk:(10,cmpC)∈G)(hM:(2,typesC)∈G)(l:List Tk)(hs:∀t∈l,t.s.size<=maxLen/\t.n<=9223372036854775807):VP Tryz.prog G 38 [av 3 cT l] (nY (ie l)):=by
 refine VC.closing func38 rfl ntmps38 aF fun X w0=>?_;refine KD.y8 (Q1:=fun e y=>e = .normal/\∃E I M,y=(⟨44,[(0,av 3 cT l),(2,bD E),(3,bD I),(4,bD M)],[⟨M,35,1,[ag 0]⟩,⟨I,3,1,[ag 0]⟩,⟨E,70,12,[ag 0,eu,ax,ax,ax,bw false,ax,eu,bw false,ag 0,eu,ax]⟩]⟩:St)) (fun _ _ h=>h) ?_ ?_ (fun e a w y he _ h=>absurd h.1 he)
 ·refine aV ?_;refine eo (ds:=[_,_,_,_,_,_,_,_,_,_,_,_]) ay rfl rfl zeroValue70 rfl (fun E=>?_);refine eo (ds:=[_]) ay rfl rfl zeroValue3 rfl (fun I=>?_);refine eo (ds:=[_]) ay rfl rfl zeroValue35 rfl (fun M=>?_);refine aK [(0,_),(2,_),(3,_),(4,_)] [⟨M,35,1,[_]⟩,⟨I,3,1,[_]⟩,⟨E,70,12,[_,_,_,_,_,_,_,_,_,_,_,_]⟩] ?_;exact⟨rfl,_,_,_,rfl⟩
 rintro _ ⟨-,E,I,M,rfl⟩;refine KD.y8 (Q1:=fun e y=>(e = .normal/\l.length<=100/\y=(⟨44,[(0,av 3 cT l),(2,bD E),(3,bD I),(4,bD M)],[⟨M,35,1,[ag 0]⟩,⟨I,3,1,[ag 0]⟩,⟨E,70,12,[ag 0,eu,ax,ax,ax,bw false,ax,eu,bw false,ag 0,eu,ax]⟩]⟩:St))\/(e = .ret/\∃r S',Sublist S' y.S/\iA Tryz.prog Tryz.f38 y r/\(r=nY (ie l)/\S'=[]))) (fun _ _ h=>h) ?_ ?_ (fun e a w y he hs h=>by (rcases h with h|⟨rfl,h⟩;exact absurd h.1 he;exact BZ hs h))
 ·refine ah ?_;refine aa ?_;refine ae cZ ?_;refine ae aE ?_;refine au [0,2,3,4,11] ?_;refine aM ot (fun aA=>?_) (fun aA=>?_)
  ·have Y:=aA
   (try simp only[V.ai,ne_eq] at Y)
   have Mr:l.length>100:=(by simp at aA;omega)
   refine ah ?_;refine ae (dc (pl:=[]) (ds:=[_,_,_,_,_,_,_,_,_,_,_,_]) rfl zeroValue70 runUnderlying70 xn trivial rfl rfl) ?_;refine bn 2 [_,_,_,_,_,_,_,_,_,_,_,_] sizeOf70 ?_;refine bn 1 [_] sizeOf3 ?_;refine bn 0 [_] sizeOf35 ?_;refine aK [(0,_),(2,_),(3,_),(4,_)] [⟨M,35,1,[_]⟩,⟨I,3,1,[_]⟩,⟨E,70,12,[_,_,_,_,_,_,_,_,_,_,_,_]⟩] ?_;refine aI ?_;exact Or.inr ⟨rfl,nY (lz,0,10),[],nil_sublist _,(gm results38 (di (k:=2) (ds:=[_,_,_,_,_,_,_,_,_,_,_,_]) aF lk rfl rfl isAgg70 sizeOf70 rfl rfl) (hU (k:=1) aF lk rfl rfl isAgg3 rfl) (hU (k:=0) aF lk rfl rfl isAgg35 rfl)).gv (yD ⟨yC w8,mo,mo,trivial⟩),(by rw[HB Mr]),rfl⟩
  have Y:=aA
  (try simp only[V.ai,ne_eq] at Y)
  have hl:l.length<=100:=(by simp at aA;omega)
  refine gS (Wk.aR (n:=44) (l':=[(0,_),(2,_),(3,_),(4,_)]) (S':=[⟨M,35,1,[_]⟩,⟨I,3,1,[_]⟩,⟨E,70,12,[_,_,_,_,_,_,_,_,_,_,_,_]⟩]) rfl rfl bj) ?_;refine aS ?_;exact Or.inl ⟨rfl,hl,rfl⟩
 intro y hy;obtain⟨hl,rfl⟩:l.length<=100/\y=(⟨44,[(0,av 3 cT l),(2,bD E),(3,bD I),(4,bD M)],[⟨M,35,1,[ag 0]⟩,⟨I,3,1,[ag 0]⟩,⟨E,70,12,[ag 0,eu,ax,ax,ax,bw false,ax,eu,bw false,ag 0,eu,ax]⟩]⟩:St):=(by (rcases hy with ⟨-,h⟩|⟨h,-⟩;exact h;cases h))
 refine KD.y8 (Q1:=fun e y=>(e = .normal/\gi l 0=none/\y=(⟨44,[(0,av 3 cT l),(2,bD E),(3,bD I),(4,bD M)],[⟨M,35,1,[ag 0]⟩,⟨I,3,1,[ag 0]⟩,⟨E,70,12,[ag 0,eu,ax,ax,ax,bw false,ax,eu,bw false,ag 0,eu,ax]⟩]⟩:St))\/(e = .ret/\∃r S',Sublist S' y.S/\iA Tryz.prog Tryz.f38 y r/\(r=nY (ie l)/\S'=[]))) (fun _ _ h=>h) ?_ ?_ (fun e a w y he hs h=>by (rcases h with h|⟨rfl,h⟩;exact absurd h.1 he;exact BZ hs h))
 ·refine ah ?_;refine aa ?_;refine ae cZ ?_;refine aa ?_;refine au [0,2,3,4,13,14,15] ?_;refine bZ ?_;refine fa (fun (i:Nat) cn=>(i<=l.length)/\(gi l 0=gi (l.drop i) i)/\cn=(⟨44,[(0,av 3 cT l),(2,bD E),(3,bD I),(4,bD M),(13,av 3 cT l),(14,ag l.length),(15,ag (i:Nat))],[⟨M,35,1,[ag 0]⟩,⟨I,3,1,[ag 0]⟩,⟨E,70,12,[ag 0,eu,ax,ax,ax,bw false,ax,eu,bw false,ag 0,eu,ax]⟩]⟩:St)) (fun (i:Nat)=>l.length-i) 0 ⟨(Nat.zero_le _),(by rw[drop_zero]),rfl⟩ (Wk.bI rfl eB dL) ?_;rintro i _ ⟨hi,hq,rfl⟩;refine ah ?_;refine ae aE ?_;refine au [0,2,3,4,13,14,15,16] ?_;refine aC ?_;refine aM ot (fun aG=>?_) (fun aG=>?_)
  ·have Z:=aG
   (try simp only[V.ai,ne_eq] at Z)
   have aD:i<l.length:=(by simp at aG;omega)
   refine aS ?_;refine aC ?_;refine bZ ?_;refine ah ?_;refine aa ?_;refine ae (dW 3 (h:=oD)) ?_;refine ae (we [_,_,_]) ?_;refine eo (ds:=[_,_,_]) ay rfl rfl zeroValue113 rfl (fun b6=>?_);refine aa ?_;refine bn 0 [_,_,_] sizeOf113 ?_;refine aK [(0,_),(2,_),(3,_),(4,_),(5,_),(6,_),(13,_),(14,_),(15,_)] [⟨b6,113,3,[_,_,_]⟩,⟨M,35,1,[_]⟩,⟨I,3,1,[_]⟩,⟨E,70,12,[_,_,_,_,_,_,_,_,_,_,_,_]⟩] ?_;refine ah ?_;refine ae (fw 0 [_,_,_]) ?_;refine bU call45 (Nm.pn hm l[i] (hs _ (getElem_mem aD)).1) ?_;refine aa ?_;refine aK [(0,_),(2,_),(3,_),(4,_),(5,_),(7,_),(13,_),(14,_),(15,_)] [⟨b6,113,3,[_,_,_]⟩,⟨M,35,1,[_]⟩,⟨I,3,1,[_]⟩,⟨E,70,12,[_,_,_,_,_,_,_,_,_,_,_,_]⟩] ?_;refine ah ?_;refine aa ?_;refine ae aE ?_;refine au [0,2,3,4,5,7,13,14,15,23] ?_;refine aM ot (fun bJ=>?_) (fun bJ=>?_)
   ·have aX:=bJ
    (try simp only[V.ai,ne_eq] at aX)
    have Oi:dZ l[i]≠0:=(by simpa using bJ)
    refine ah ?_;refine ae (dc (pl:=[]) (ds:=[_,_,_,_,_,_,_,_,_,_,_,_]) rfl zeroValue70 runUnderlying70 xn trivial rfl rfl) ?_;refine aa ?_;refine aa ?_;refine bn 3 [_,_,_,_,_,_,_,_,_,_,_,_] sizeOf70 ?_;refine bn 2 [_] sizeOf3 ?_;refine bn 1 [_] sizeOf35 ?_;refine aK [(0,_),(2,_),(3,_),(4,_)] [⟨b6,113,3,[_,_,_]⟩,⟨M,35,1,[_]⟩,⟨I,3,1,[_]⟩,⟨E,70,12,[_,_,_,_,_,_,_,_,_,_,_,_]⟩] ?_;refine aI ?_;exact Or.inr ⟨rfl,nY (lz,i,dZ l[i]),[],nil_sublist _,(gm results38 (di (k:=3) (ds:=[_,_,_,_,_,_,_,_,_,_,_,_]) aF lk rfl rfl isAgg70 sizeOf70 rfl rfl) (hU (k:=2) aF lk rfl rfl isAgg3 rfl) (hU (k:=1) aF lk rfl rfl isAgg35 rfl)).gv (yD ⟨yC w8,mo,mo,trivial⟩),(by rw[HC hl (Kl aD hq Oi)]),rfl⟩
   have aX:=bJ
   (try simp only[V.ai,ne_eq] at aX)
   have hz:dZ l[i]=0:=(by simpa using bJ)
   refine aS ?_;refine aV ?_;refine ae aE ?_;refine aa ?_;refine au [0,2,3,4,13,14,15] ?_;refine⟨(i+1),_,?_,?_,w7,(Km aD hq hz),rfl⟩
   ·first|omega|(simp only[];omega)
   exact Wk.bI (n:=44) rfl eB dL
  have Z:=aG
  (try simp only[V.ai,ne_eq] at Z)
  have lS:l.length<=i:=(by simp at aG;omega)
  have O:gi l 0=none:=(by rw[hq,drop_of_length_le lS];rfl)
  refine gS (Wk.aR (n:=44) (l':=[(0,_),(2,_),(3,_),(4,_)]) (S':=[⟨M,35,1,[_]⟩,⟨I,3,1,[_]⟩,⟨E,70,12,[_,_,_,_,_,_,_,_,_,_,_,_]⟩]) rfl rfl bj) ?_;refine ep ?_;exact Or.inl ⟨rfl,O,rfl⟩
 intro y hy;obtain⟨O,rfl⟩:gi l 0=none/\y=(⟨44,[(0,av 3 cT l),(2,bD E),(3,bD I),(4,bD M)],[⟨M,35,1,[ag 0]⟩,⟨I,3,1,[ag 0]⟩,⟨E,70,12,[ag 0,eu,ax,ax,ax,bw false,ax,eu,bw false,ag 0,eu,ax]⟩]⟩:St):=(by (rcases hy with ⟨-,h⟩|⟨h,-⟩;exact h;cases h))
 have ht:∀t∈l,t.s.size<=maxLen/\(t.k=2->0<=t.n/\t.n<=9223372036854775807):=fun t h=>⟨(hs t h).1,fun hk=>⟨Jk (Cq O t h) hk,(hs t h).2⟩⟩
 refine KD.defer (vs:=[(.pointer (some ⟨E,0,none⟩)),(.pointer (some ⟨I,0,none⟩)),(.pointer (some ⟨M,0,none⟩))]) rfl rfl (show bH _ _ _ _ _ (.dQ (.func 69) [bD E,bD I,bD M]) from si rfl ⟨ot,ot,ot,trivial⟩) rfl rfl rfl rfl ?_;refine KD.of (Q:=fun e y=>(e = .ret/\∃B s,ie l=(s,0,0)/\y=(⟨44,[(2,bD E),(3,bD I),(4,bD M)],[B,⟨M,35,1,[ag 0]⟩,⟨I,3,1,[ag 0]⟩,⟨E,70,12,(fG s)⟩]⟩:St))\/∃ch,e = .panic ch/\∃q e,ch=mT q e/\ie l=(lz,q,e)/\∃(env:List (Nat×D)) (c4 c3:D) (cs:List D),y=(⟨44,env,[⟨M,35,1,[c4]⟩,⟨I,3,1,[c3]⟩,⟨E,70,12,cs⟩]⟩:St)/\cs.length=12/\V.look 2 env=bD E/\V.look 3 env=bD I/\V.look 4 env=bD M) ?_ ?_
 ·refine ah ?_;refine aa ?_;refine ae (dc (pl:=[(0,_)]) (ds:=[_,_,_]) rfl zeroValue161 runUnderlying161 Gm ⟨rfl,ot,trivial⟩ rfl rfl) ?_;refine fI (ds:=[_,_,_]) ay rfl rfl ot rfl rfl (fun U=>?_);refine aa ?_;refine aK [(0,_),(2,_),(3,_),(4,_),(8,_)] [⟨U,161,3,[_,_,_]⟩,⟨M,35,1,[_]⟩,⟨I,3,1,[_]⟩,⟨E,70,12,[_,_,_,_,_,_,_,_,_,_,_,_]⟩] ?_;refine ah ?_;refine aa ?_;refine OD.bK ay rfl rfl rfl call70 (GH (br:=U) hl hm hw hk hM ht 0 (Nat.zero_le _) [] _ rfl none 0 0) ⟨ot,trivial⟩ (Perm.refl _) (fun ch aQ=>by obtain⟨q,e,h1,rfl⟩:=aQ;exact Or.inr ⟨_,rfl,q,e,rfl,Is hl O h1,_,_,_,_,rfl,rfl,lk,lk,lk⟩) ?_;rintro _ _ ⟨s,p,os,ad,n,cap,lm,⟨rfl,gX⟩,hp,rfl⟩;unfold fG;refine aW (S':=⟨U,161,3,[av 3 cT l,ag ((p:Nat):Int),az ad n cap]⟩::[⟨M,35,1,[_]⟩,⟨I,3,1,[_]⟩,⟨E,70,12,[_,_,_,_,_,_,_,_,_,_,_,_]⟩]) (Perm.refl _) ?_;refine bn 3 [_,_,_,_,_,_,_,_,_,_,_,_] sizeOf70 ?_;refine aK [(0,_),(2,_),(3,_),(4,_),(8,_)] [⟨U,161,3,[_,_,_]⟩,⟨M,35,1,[_]⟩,⟨I,3,1,[_]⟩,⟨E,70,12,[_,_,_,_,_,_,_,_,_,_,_,_]⟩] ?_;refine aC ?_;refine ah ?_;refine aa ?_;refine ae bF ?_;refine ae (aB 1) ?_;refine ae (aH 0) ?_;refine aa ?_;refine ae cZ ?_;refine ae aE ?_;refine au [2,3,4,8,40] ?_;refine aM ot (fun ct=>?_) (fun ct=>?_)
  ·have bu:=ct
   (try simp only[V.ai,ne_eq] at bu)
   have A8:p<l.length:=(by simp at ct;omega)
   refine aV ?_;refine aa ?_;exact OD.bK ay rfl rfl rfl call71 (gq l hl p 6 ad n cap U) ⟨ot,aN,trivial⟩ (Perm.refl _) (fun ch aQ=>by subst aQ;exact Or.inr ⟨_,rfl,p,_,rfl,G8 hl O lm A8,_,_,_,_,rfl,rfl,lk,lk,lk⟩) (fun r S' h=>h.elim)
  have bu:=ct
  (try simp only[V.ai,ne_eq] at bu)
  have A8:¬p<l.length:=(by simp at ct;omega)
  refine aS ?_;refine ah ?_;refine ae (fw 3 [_,_,_,_,_,_,_,_,_,_,_,_]) ?_;refine bn 3 [_,_,_,_,_,_,_,_,_,_,_,_] sizeOf70 ?_;refine bn 2 [_] sizeOf3 ?_;refine bn 1 [_] sizeOf35 ?_;refine aK [(2,_),(3,_),(4,_)] [⟨U,161,3,[_,_,_]⟩,⟨M,35,1,[_]⟩,⟨I,3,1,[_]⟩,⟨E,70,12,[_,_,_,_,_,_,_,_,_,_,_,_]⟩] ?_;refine aI ?_;exact Or.inl ⟨rfl,_,s,It hl O lm A8,rfl⟩
 intro e a w h;rcases h with ⟨y,hy,⟨rfl,B,s,A9,rfl⟩|⟨ch,rfl,q,e,rfl,A9,env,c4,c3,cs,rfl,cL,h2,h3,h4⟩⟩|⟨_,h⟩
 ·have hw:=BJ (fn:=Tryz.f38) (post:=fun r S'=>r=nY (ie l)/\S'=[]) (S0:=[]) (u:=.returning) (u':=.returning) (cQ:=[(.pointer (some ⟨E,0,none⟩)),(.pointer (some ⟨I,0,none⟩)),(.pointer (some ⟨M,0,none⟩))].map D.v) (cv:=[(.pointer (some ⟨E,0,none⟩)),(.pointer (some ⟨I,0,none⟩)),(.pointer (some ⟨M,0,none⟩))]) (Sf:=[]) (Rs:=[B,⟨M,35,1,[ag 0]⟩,⟨I,3,1,[ag 0]⟩,⟨E,70,12,(fG s)⟩]) (pc:=fun S'=>S'=[]) hy rfl rfl rfl hy.defers (B0 _) call69 (Perm.refl _) dD rfl (Kn E I M [])
   (fun S' h=>by subst h;exact⟨_,[],nil_sublist _,gm results38 (di (k:=3) (ds:=[_,_,_,_,_,_,_,_,_,_,_,_]) aF lk rfl rfl isAgg70 sizeOf70 rfl rfl) (hU (k:=2) aF lk rfl rfl isAgg3 rfl) (hU (k:=1) aF lk rfl rfl isAgg35 rfl),(by rw[A9];rfl),rfl⟩)
  exact hw
 ·have hw:=BJ (fn:=Tryz.f38) (post:=fun r S'=>r=nY (ie l)/\S'=[]) (S0:=[]) (u:=.panicking (mT q e)) (u':=.panicking [{v:=.iface 158 (.agg #[.int .i64 (q:Nat),.int .i64 e]),recovered:=true}]) (cQ:=[(.pointer (some ⟨E,0,none⟩)),(.pointer (some ⟨I,0,none⟩)),(.pointer (some ⟨M,0,none⟩))].map D.v) (cv:=[(.pointer (some ⟨E,0,none⟩)),(.pointer (some ⟨I,0,none⟩)),(.pointer (some ⟨M,0,none⟩))]) (Sf:=[⟨M,35,1,[c4]⟩,⟨I,3,1,[c3]⟩,⟨E,70,12,cs⟩]) (Rs:=[]) (pc:=fun S'=>∃B,S'=[B,⟨M,35,1,[ag e]⟩,⟨I,3,1,[ag ((q:Nat):Int)]⟩,⟨E,70,12,[ag 0,eu,ax,ax,ax,bw false,ax,eu,bw false,ag 0,eu,ax]⟩]) hy rfl rfl rfl hy.defers (B0 _) call69 (Perm.refl _) dD rfl (Jl E I M q e c4 c3 cs cL)
   (fun S' h=>by obtain⟨B,rfl⟩:=h;exact⟨nY (lz,q,e),[],nil_sublist _,(gm results38 (di (k:=3) (ds:=[_,_,_,_,_,_,_,_,_,_,_,_]) aF h2 rfl rfl isAgg70 sizeOf70 rfl rfl) (hU (k:=2) aF h3 rfl rfl isAgg3 rfl) (hU (k:=1) aF h4 rfl rfl isAgg35 rfl)).gv (yD ⟨yC w8,mo,mo,trivial⟩),(by rw[A9]),rfl⟩)
  exact hw
 exact h.elim
theorem gh(t:Tk):(cT t).all V.one=true:=rfl
def aT(s:ByteArray):Tk:=⟨1,s,0⟩
def bf(s:ByteArray):Tk:=⟨4,s,0⟩
def cK(l:List Tk):List D:=[av 3 cT l]
theorem jS(l:List Tk):(cK l).length=1:=rfl
theorem yF(l:List Tk):(cK l).all V.one=true:=rfl
theorem qw{β:Type}(f:α->β){l:List α}(hi:i<l.length):(l.take i).map f++[f l[i]]=(l.take (i+1)).map f:=by rw[take_succ_eq_append_getElem hi,map_append];rfl
theorem yu{β:Type}(f:α->β){l:List α}(hi:l.length<=i):(l.take i).map f=l.map f:=by rw[take_of_length_le hi]
theorem rW : ∀ w, ((#[{ name := "Kind", type := 3, offset := 0, embedded := false, tag := "", pkgPath := "", byteOffset := 0 }, { name := "Text", type := 9, offset := 1, embedded := false, tag := "", pkgPath := "", byteOffset := 8 }, { name := "Int", type := 3, offset := 2, embedded := false, tag := "", pkgPath := "", byteOffset := 24 }] : Array Field).mapM fun f => do pure (f.offset, ← sizeOf f.type) : Sem (Array (Nat × Nat))).run Tryz.prog w = .ok #[(0, 1), (1, 1), (2, 1)] w := fun w => by simp [sizeOf3, sizeOf9]
theorem eN(s:ByteArray):VP Tryz.prog G 136 [bT s] (.agg (cT (bf s))):=by
 refine cf func136 rfl ntmps136 aF fun M w0 I=>?_;refine ah ?_;refine eo (ds:=[_,_,_]) ay rfl rfl zeroValue113 rfl (fun E=>?_);refine aK [(0,_),(2,_)] [⟨E,113,3,[_,_,_]⟩] ?_;refine ah ?_;refine aa ?_;refine ae (dc (pl:=[(0,_),(1,_)]) (ds:=[_,_,_]) rfl zeroValue113 runUnderlying113 rW ⟨rfl,aN,rfl,ot,trivial⟩ rfl rfl) ?_;refine bn 0 [_,_,_] sizeOf113 ?_;refine aK [(2,_)] [⟨E,113,3,[_,_,_]⟩] ?_;refine aI ?_;refine⟨.inr rfl,_,[],nil_sublist _,eC results136 (di (k:=0) (ds:=[_,_,_]) aF lk rfl rfl isAgg113 sizeOf113 rfl rfl),?_⟩;exact⟨rfl,rfl⟩
theorem nt(s:ByteArray):VP Tryz.prog G 190 [bT s] (.agg (cT (aT s))):=by
 refine cf func190 rfl ntmps190 aF fun M w0 I=>?_;refine ah ?_;refine eo (ds:=[_,_,_]) ay rfl rfl zeroValue113 rfl (fun E=>?_);refine aK [(0,_),(2,_)] [⟨E,113,3,[_,_,_]⟩] ?_;refine ah ?_;refine aa ?_;refine ae (dc (pl:=[(0,_),(1,_)]) (ds:=[_,_,_]) rfl zeroValue113 runUnderlying113 rW ⟨rfl,aN,rfl,ot,trivial⟩ rfl rfl) ?_;refine bn 0 [_,_,_] sizeOf113 ?_;refine aK [(2,_)] [⟨E,113,3,[_,_,_]⟩] ?_;refine aI ?_;refine⟨.inr rfl,_,[],nil_sublist _,eC results190 (di (k:=0) (ds:=[_,_,_]) aF lk rfl rfl isAgg113 sizeOf113 rfl rfl),?_⟩;exact⟨rfl,rfl⟩
theorem rZ:(Tryz.prog.info? 113).map (fun i=>(i.zero,i.size,i.bytes))=some (some (.agg #[.int .i64 0,.string ⟨#[]⟩,.int .i64 0]),3,32):=by kernel_rfl
theorem qJ(l:List ByteArray)(hl:l.length<=10):VC Tryz.prog G 131 [av 1 cS l] [] (k8 cT 113 3 (l.map aT)):=by
 refine cf func131 rfl ntmps131 aF fun X0 w0 dm=>?_;have eI:=fU;refine ah ?_;refine aa ?_;refine au [0] ?_;refine ah ?_;refine aa ?_;refine au [0,3] ?_;refine aC ?_;refine ah ?_;refine aa ?_;refine ae cZ ?_;refine aa ?_;refine au [3,6,7,8] ?_;refine bZ ?_;refine fa (fun (I:Nat×Option Addr×Nat×List ak) cn=>match I with|(i,O,U,Z)=>(i<=l.length)/\(bV 113 3 (((l.take i).map aT).flatMap cT) ((l.take i).map aT).length O U Z)/\cn=(⟨19,[(3,az O ((l.take i).map aT).length U),(6,av 1 cS l),(7,ag (l.length:Nat)),(8,ag (i:Nat))],(Z)⟩:St)) (fun (I:Nat×Option Addr×Nat×List ak)=>match I with|(i,O,U,Z)=>l.length-i) (0,none,0,[]) ⟨(Nat.zero_le _),(bV.cast kT mH),rfl⟩ (Wk.bI rfl cG Eu) ?_;rintro⟨i,O,U,Z⟩ _ ⟨hi,rS,rfl⟩;refine ah ?_;refine ae aE ?_;refine au [3,6,7,8,9] ?_;refine aC ?_;refine aM ot (fun aA=>?_) (fun aA=>?_)
 ·have M:=aA
  (try simp only[V.ai,ne_eq] at M)
  have aD:i<l.length:=(by omega)
  refine aS ?_;refine aC ?_;refine bZ ?_;refine ah ?_;refine ae (dW 1) ?_;refine ae fE ?_;refine aa ?_;refine au [3,5,6,7,8] ?_;refine aV ?_;refine aa ?_;refine aa ?_;refine bU call190 (nt l[i]) ?_;refine dM (aU 0 [_]) [.int .i64 0,.string ⟨#[]⟩,.int .i64 0] [_,_,_] zeroValue113 runUnderlying99 sizeOf113 (fun Oj=>?_);refine fB 0 15 3 1 ?_;refine fY (ls:=((l.take i).map aT)) (new:=[aT l[i]]) (Sq:=Z) dO gh ay rfl rfl underlying99 rZ rfl cc ot rS (cy (A:=[])) ot cq EB EB (fun Y E Ms Mt=>?_);refine aW (dj (S1:=[⟨Y,113,E*3,flatMap cT (((l.take i).map aT)++[aT l[i]])⟩]) (A:=[])) ?_;refine aa ?_;refine bc (Wk.aR (n:=19) (l':=[(3,_),(6,_),(7,_),(8,_)]) (S':=([⟨Y,113,E*3,flatMap cT (((l.take i).map aT)++[aT l[i]])⟩])) rfl rfl bj) ?_;refine bi ?_;refine aV ?_;refine ae aE ?_;refine aa ?_;refine au [3,6,7,8] ?_;refine⟨((i+1),(some ⟨Y,0,none⟩),E,[⟨Y,113,E*3,flatMap cT (((l.take i).map aT)++[aT l[i]])⟩]),_,?_,?_,w7,(bV.cast (cU Ms Mt) (by exact qw aT aD)),rfl⟩
  ·first|omega|(simp only[];omega)
  exact Wk.bI (n:=19) rfl cG Eu
 have M:=aA
 (try simp only[V.ai,ne_eq] at M)
 have iu:=yu aT (show l.length<=i by omega);refine ep ?_;refine ah ?_;refine aa ?_;refine aa ?_;refine au [2] ?_;refine aI ?_;refine⟨.inr rfl,_,_,(Sublist.refl _),eC results131 (cw aF lk),?_⟩;exact k8.cast (k8.mk rS) iu
theorem jU(l:List ByteArray)(hl:l.length<=10):VP Tryz.prog G 131 [av 1 cS l] (.list 3 ((l.map aT).flatMap cT) (l.map aT).length):=VC.sK dO (qJ l hl)
def fV(ts:List (List Tk)):Nat->List Tk
 | 0=>[bf ⟨#[40]⟩]
 | i+1=>fV ts i++(if i>0 then [bf ⟨#[44]⟩] else [])++ts.getD i []
def ir(ts:List (List Tk)):List Tk:=fV ts ts.length++[bf ⟨#[41]⟩]
theorem yj{ts:List (List Tk)}(h:∀x∈ts,x.length<=10):∀i,(fV ts i).length<=1+11*i
 | 0=>Nat.le_refl _
 | i+1=>by
  have E:=yj h i;have h2:(ts.getD i []).length<=10:=by
   rw[getD_eq_getElem?_getD];cases hx:ts[i]? with
   | none=>exact Nat.zero_le _
   | some x=>exact h x (mem_of_getElem? hx)
  have I:(if i>0 then [bf ⟨#[44]⟩] else []).length<=1:=(by split<;>simp)
  unfold fV;rw[length_append,length_append];omega
theorem xN(hi:i<ts.length)(h:0<i):(fV ts i++[bf ⟨#[44]⟩])++ts[i]=fV ts (i+1):=by
 rw[fV,if_pos h,getD_eq_getElem?_getD,getElem?_eq_getElem hi];rfl
theorem xD(hi:i<ts.length)(h:¬0<i):fV ts i++ts[i]=fV ts (i+1):=by
 rw[fV,if_neg h,append_nil,getD_eq_getElem?_getD,getElem?_eq_getElem hi];rfl
theorem C3(ts:List (List Tk))(hl:ts.length<=10)(Er:∀x∈ts,x.length<=10):VP Tryz.prog G 132 [av 1 cK ts] (.list 3 ((ir ts).flatMap cT) (ir ts).length):=by
 refine cf func132 rfl ntmps132 aF fun X0 w0 dm=>?_;have eI:=fU;refine ah ?_;refine aa ?_;refine au [0] ?_;refine ah ?_;refine bU call136 (eN ⟨#[40]⟩) ?_;refine dM (aU 0 [_]) [.int .i64 0,.string ⟨#[]⟩,.int .i64 0] [_,_,_] zeroValue113 runUnderlying99 sizeOf113 (fun b7=>?_);refine aW (dj (S1:=[⟨b7,113,1*3,flatMap cT ([bf ⟨#[40]⟩])⟩]) (A:=[])) ?_;refine aa ?_;refine bc (Wk.aR (n:=29) (l':=[(0,_),(3,_)]) (S':=([⟨b7,113,1*3,flatMap cT ([bf ⟨#[40]⟩])⟩])) rfl rfl bj) ?_;refine bi ?_;refine aC ?_;refine ah ?_;refine aa ?_;refine ae cZ ?_;refine aa ?_;refine au [3,8,9,10] ?_;refine bZ ?_;refine fa (fun (E:Nat×Option Addr×Nat×List ak) cn=>match E with|(i,wO,wP,Sa)=>(i<=ts.length)/\(bV 113 3 ((fV ts i).flatMap cT) (fV ts i).length wO wP Sa)/\cn=(⟨29,[(3,az wO (fV ts i).length wP),(8,av 1 cK ts),(9,ag (ts.length:Nat)),(10,ag (i:Nat))],(Sa)⟩:St)) (fun (E:Nat×Option Addr×Nat×List ak)=>match E with|(i,wO,wP,Sa)=>ts.length-i) (0,(some ⟨b7,0,none⟩),1,[⟨b7,113,1*3,flatMap cT ([bf ⟨#[40]⟩])⟩]) ⟨(Nat.zero_le _),(bV.cast (cU (g:=cT) (sz:=3) (e:=113) (ls:=[bf ⟨#[40]⟩]) (Nat.le_refl _) (show 1<=maxLen by decide)) (by rfl)),rfl⟩ (Wk.bI rfl cG zZ) ?_;rintro⟨i,wO,wP,Sa⟩ _ ⟨hi,rS,rfl⟩;refine ah ?_;refine ae aE ?_;refine au [3,8,9,10,11] ?_;refine aC ?_;refine aM ot (fun aA=>?_) (fun aA=>?_)
 ·have I:=aA
  (try simp only[V.ai,ne_eq] at I)
  have aD:i<ts.length:=(by omega)
  refine aS ?_;refine aC ?_;refine bZ ?_;refine ah ?_;refine aa ?_;refine ae (dW 1) ?_;refine ae fE ?_;refine aa ?_;refine aa ?_;refine au [3,4,5,8,9,10] ?_;refine aC ?_;refine ah ?_;refine aa ?_;refine ae aE ?_;refine au [3,5,8,9,10,16] ?_;refine aM ot (fun aG=>?_) (fun aG=>?_)
  ·have M:=aG
   (try simp only[V.ai,ne_eq] at M)
   refine aV ?_;refine aa ?_;refine bU call136 (eN ⟨#[44]⟩) ?_;refine dM (aU 0 [_]) [.int .i64 0,.string ⟨#[]⟩,.int .i64 0] [_,_,_] zeroValue113 runUnderlying99 sizeOf113 (fun wF=>?_);refine fB 0 19 3 1 ?_;refine fY (ls:=(fV ts i)) (new:=[bf ⟨#[44]⟩]) (Sq:=Sa) dO gh ay rfl rfl underlying99 rZ rfl cc ot rS (cy (A:=[])) ot cq oB oB (fun wQ O mD mE=>?_);refine aW (dj (S1:=[⟨wQ,113,O*3,flatMap cT ((fV ts i)++[bf ⟨#[44]⟩])⟩]) (A:=[])) ?_;refine aa ?_;refine bc (Wk.aR (n:=29) (l':=[(3,_),(5,_),(8,_),(9,_),(10,_)]) (S':=([⟨wQ,113,O*3,flatMap cT ((fV ts i)++[bf ⟨#[44]⟩])⟩])) rfl rfl bj) ?_;refine bi ?_;refine aV ?_;refine aa ?_;refine aa ?_;refine qo (ls:=((fV ts i)++[bf ⟨#[44]⟩])) (new:=ts[i]) (Sq:=[⟨wQ,113,O*3,flatMap cT ((fV ts i)++[bf ⟨#[44]⟩])⟩]) dO gh ay rfl rfl underlying99 rZ rfl cc runUnderlying99 sizeOf113 ot (cU mD mE) (cy (A:=[])) ot oB oB (fun U Y Z zx=>?_);refine aW (dj (A:=[])) ?_;refine aa ?_;refine bc (Wk.aR (n:=29) (l':=[(3,_),(8,_),(9,_),(10,_)]) (S':=(Z)) rfl rfl bj) ?_;refine bi ?_;refine aV ?_;refine ae aE ?_;refine aa ?_;refine au [3,8,9,10] ?_;refine⟨((i+1),U,Y,Z),_,?_,?_,w7,(bV.cast zx (by first|exact xN aD w7|exact xD aD w7)),rfl⟩
   ·first|omega|(simp only[];omega)
   exact Wk.bI (n:=29) rfl cG zZ
  have M:=aG
  (try simp only[V.ai,ne_eq] at M)
  refine aS ?_;refine aV ?_;refine aa ?_;refine aa ?_;refine qo (ls:=(fV ts i)) (new:=ts[i]) (Sq:=Sa) dO gh ay rfl rfl underlying99 rZ rfl cc runUnderlying99 sizeOf113 ot rS (cy (A:=[])) ot oB oB (fun U Y Z zx=>?_);refine aW (dj (A:=[])) ?_;refine aa ?_;refine bc (Wk.aR (n:=29) (l':=[(3,_),(8,_),(9,_),(10,_)]) (S':=(Z)) rfl rfl bj) ?_;refine bi ?_;refine aV ?_;refine ae aE ?_;refine aa ?_;refine au [3,8,9,10] ?_;refine⟨((i+1),U,Y,Z),_,?_,?_,w7,(bV.cast zx (by first|exact xN aD w7|exact xD aD w7)),rfl⟩
  ·first|omega|(simp only[];omega)
  exact Wk.bI (n:=29) rfl cG zZ
 have I:=aA
 (try simp only[V.ai,ne_eq] at I)
 have lS:i=ts.length:=(by omega)
 have ow:fV ts i++[bf ⟨#[41]⟩]=ir ts:=(by unfold ir;rw[<-lS])
 refine ep ?_;refine ah ?_;refine aa ?_;refine bU call136 (eN ⟨#[41]⟩) ?_;refine dM (aU 0 [_]) [.int .i64 0,.string ⟨#[]⟩,.int .i64 0] [_,_,_] zeroValue113 runUnderlying99 sizeOf113 (fun FK=>?_);refine fB 0 27 3 1 ?_;refine fY (ls:=(fV ts i)) (new:=[bf ⟨#[41]⟩]) (Sq:=Sa) dO gh ay rfl rfl underlying99 rZ rfl cc ot rS (cy (A:=[])) ot cq oB oB (fun Ba zy Mu Mv=>?_);refine aW (dj (S1:=[⟨Ba,113,zy*3,flatMap cT ((fV ts i)++[bf ⟨#[41]⟩])⟩]) (A:=[])) ?_;refine aa ?_;refine bc (Wk.aR (n:=29) (l':=[(2,_)]) (S':=([⟨Ba,113,zy*3,flatMap cT ((fV ts i)++[bf ⟨#[41]⟩])⟩])) rfl rfl bj) ?_;refine bi ?_;refine jn (t:=2) (Sq:=[⟨Ba,113,zy*3,flatMap cT ((fV ts i)++[bf ⟨#[41]⟩])⟩]) lk (cU Mu Mv) (de dO _) (cy (A:=[])) ?_;refine aI ?_;refine⟨.inr rfl,en results132 ?_⟩;rw[ow];exact⟨rfl,rfl⟩
def eD(v:Vl):List Tk :=
 if v.k=0 then [aT ⟨#[78,85,76,76]⟩]
 else if v.k=1 then [aT (if v.n=0 then ⟨#[70,65,76,83,69]⟩ else ⟨#[84,82,85,69]⟩)]
 else if v.k=3 then [⟨3,v.s,0⟩]
 else if v.n<0 then [bf ⟨#[45]⟩,⟨2,⟨#[]⟩,-v.n⟩] else [⟨2,⟨#[]⟩,v.n⟩]
def wR(v:Vl):Prop:=(v.k=1->v.n=0\/v.n=1)/\-9223372036854775807<=v.n/\v.n<=9223372036854775807
theorem B3(v:Vl):0<(eD v).length/\(eD v).length<=2:=by
 unfold eD;repeat' split
 all_goals exact⟨by simp,by simp⟩
def vo:List ByteArray:=[⟨#[]⟩,⟨#[]⟩,⟨#[]⟩,⟨#[]⟩,⟨#[]⟩,⟨#[]⟩,⟨#[61]⟩,⟨#[60]⟩,⟨#[43]⟩,⟨#[45]⟩,⟨#[42]⟩]
def gd(k:Int):Tk:=if k=3 then aT ⟨#[65,78,68]⟩ else if k=4 then aT ⟨#[79,82]⟩ else bf (vo.getD k.toNat ⟨#[]⟩)
theorem K6{j:Nat}(h:j<11):(vo.map fun s=>D.v (.string s))[j*1]?=some (bT (vo[j]'h)):=by
 rw[Nat.mul_one,getElem?_map,getElem?_eq_getElem h];rfl
theorem Bx(v:Vl)(h:wR v):VP Tryz.prog G 133 [.agg (cV v)] (.list 3 ((eD v).flatMap cT) (eD v).length):=by
 refine cf func133 rfl ntmps133 aF fun X0 w0 dm=>?_;obtain⟨h1,h2,h3⟩:=h;unfold cV;refine ah ?_;refine fI (ds:=[_,_,_]) ay rfl rfl ot rfl rfl (fun b1=>?_);refine aa ?_;refine aK [(1,_)] [⟨b1,127,3,[_,_,_]⟩] ?_;refine aC ?_;refine bZ ?_;refine ah ?_;refine ae (aB 0) ?_;refine ae (aH 0) ?_;refine ae aE ?_;refine aa ?_;refine au [1,3] ?_;refine aM ot (fun aA=>?_) (fun aA=>?_)
 ·have E:=aA
  (try simp only[V.ai,ne_eq] at E)
  refine ah ?_;refine dM (aU 0 [_]) [.string ⟨#[]⟩] [_] zeroValue9 runUnderlying34 sizeOf9 (fun b7=>?_);refine aW (dj (S1:=[⟨b7,9,1*1,flatMap cS ([⟨#[78,85,76,76]⟩])⟩]) (A:=[_])) ?_;refine iH (t:=7) (Sq:=[⟨b7,9,1*1,flatMap cS ([⟨#[78,85,76,76]⟩])⟩]) lk (cU (g:=cS) (sz:=1) (e:=9) (ls:=[⟨#[78,85,76,76]⟩]) (Nat.le_refl _) (show 1<=maxLen by decide)) (de ej _) (cy (A:=[_])) ?_;refine bU call131 (jU [⟨#[78,85,76,76]⟩] rz) ?_;refine aa ?_;refine aK [(2,_)] [⟨b1,127,3,[_,_,_]⟩] ?_;refine aI ?_;refine⟨.inr rfl,en results133 ?_⟩;refine⟨?_,rfl⟩;unfold eD;first|(rw[if_pos E];first|done|rfl)|(rw[if_neg E,if_pos M,hj];rcases j with _|_|j<;>first|rfl|omega)|(rw[if_neg E,if_neg I,if_pos aX];first|done|rfl)|(rw[if_neg E,if_neg I,if_neg aX,if_pos w7,show -v.n=0-v.n by omega];first|done|rfl)|(rw[if_neg E,if_neg I,if_neg aX,if_neg w7];first|done|rfl)
 have E:=aA
 (try simp only[V.ai,ne_eq] at E)
 refine ah ?_;refine ae (aB 0) ?_;refine ae (aH 0) ?_;refine ae aE ?_;refine aa ?_;refine au [1,9] ?_;refine aM ot (fun aG=>?_) (fun aG=>?_)
 ·have I:=aG
  (try simp only[V.ai,ne_eq] at I)
  have M:v.k=1:=(by simpa using aG)
  obtain⟨j,hj,Qw⟩:∃j:Nat,v.n=(j:Int)/\j<2:=(by (rcases h1 M with h|h;exact⟨0,h,by decide⟩;exact⟨1,h,by decide⟩))
  rw[hj];refine ah ?_;refine dM (aU 0 [_,_]) [.string ⟨#[]⟩,.string ⟨#[]⟩] [_,_] zeroValue9 runUnderlying34 sizeOf9 (fun FL=>?_);refine aW (dj (S1:=[⟨FL,9,2*1,flatMap cS ([⟨#[70,65,76,83,69]⟩,⟨#[84,82,85,69]⟩])⟩]) (A:=[_])) ?_;refine iH (t:=13) (Sq:=[⟨FL,9,2*1,flatMap cS ([⟨#[70,65,76,83,69]⟩,⟨#[84,82,85,69]⟩])⟩]) lk (cU (g:=cS) (sz:=1) (e:=9) (ls:=[⟨#[70,65,76,83,69]⟩,⟨#[84,82,85,69]⟩]) (Nat.le_refl _) (show 2<=maxLen by decide)) (de ej _) (cy (A:=[_])) ?_;refine ae (aB 1) ?_;refine ae (aH 0) ?_;refine ae (dW 1 (h:=by first|exact .l (j:=j) rfl pU|exact .r (j:=j) rfl pU)) ?_;refine ae (cm (mk:=Op.load 9) rfl ot (by exact lG (i:=j) ej isAgg9 pU rfl)) ?_;refine dM (aU 0 [_]) [.string ⟨#[]⟩] [_] zeroValue9 runUnderlying34 sizeOf9 (fun FM=>?_);refine aW (dj (S1:=[⟨FM,9,1*1,flatMap cS ([([⟨#[70,65,76,83,69]⟩,⟨#[84,82,85,69]⟩]:List ByteArray)[j]'pU])⟩]) (A:=[_])) ?_;refine iH (t:=18) (Sq:=[⟨FM,9,1*1,flatMap cS ([([⟨#[70,65,76,83,69]⟩,⟨#[84,82,85,69]⟩]:List ByteArray)[j]'pU])⟩]) lk (cU (g:=cS) (sz:=1) (e:=9) (ls:=[([⟨#[70,65,76,83,69]⟩,⟨#[84,82,85,69]⟩]:List ByteArray)[j]'pU]) (Nat.le_refl _) (show 1<=maxLen by decide)) (de ej _) (cy (A:=[_])) ?_;refine bU call131 (jU [([⟨#[70,65,76,83,69]⟩,⟨#[84,82,85,69]⟩]:List ByteArray)[j]'pU] rz) ?_;refine aa ?_;refine aK [(2,_)] [⟨b1,127,3,[_,_,_]⟩] ?_;refine aI ?_;refine⟨.inr rfl,en results133 ?_⟩
  refine⟨?_,rfl⟩;unfold eD;first|(rw[if_pos E];first|done|rfl)|(rw[if_neg E,if_pos M,hj];rcases j with _|_|j<;>first|rfl|omega)|(rw[if_neg E,if_neg I,if_pos aX];first|done|rfl)|(rw[if_neg E,if_neg I,if_neg aX,if_pos w7,show -v.n=0-v.n by omega];first|done|rfl)|(rw[if_neg E,if_neg I,if_neg aX,if_neg w7];first|done|rfl)
 have I:=aG
 (try simp only[V.ai,ne_eq] at I)
 refine ah ?_;refine ae (aB 0) ?_;refine ae (aH 0) ?_;refine ae aE ?_;refine aa ?_;refine au [1,20] ?_;refine aM ot (fun O=>?_) (fun O=>?_)
 ·have aX:=O
  (try simp only[V.ai,ne_eq] at aX)
  refine ah ?_;refine ae (aB 2) ?_;refine ae (aH 0) ?_;refine ae (dc (pl:=[(0,_),(1,_)]) (ds:=[_,_,_]) rfl zeroValue113 runUnderlying113 rW ⟨rfl,aN,rfl,ot,trivial⟩ rfl rfl) ?_;refine dM (aU 0 [_]) [.int .i64 0,.string ⟨#[]⟩,.int .i64 0] [_,_,_] zeroValue113 runUnderlying99 sizeOf113 (fun U=>?_);refine aW (dj (S1:=[⟨U,113,1*3,flatMap cT ([(⟨3,v.s,0⟩:Tk)])⟩]) (A:=[_])) ?_;refine aa ?_;refine bc (Wk.aR (n:=42) (l':=[(2,_)]) (S':=(⟨b1,127,3,[_,_,_]⟩::[⟨U,113,1*3,flatMap cT ([(⟨3,v.s,0⟩:Tk)])⟩])) rfl rfl bj) ?_;refine bi ?_;refine jn (t:=2) (Sq:=[⟨U,113,1*3,flatMap cT ([(⟨3,v.s,0⟩:Tk)])⟩]) lk (cU (g:=cT) (sz:=3) (e:=113) (ls:=[(⟨3,v.s,0⟩:Tk)]) (Nat.le_refl _) (show 1<=maxLen by decide)) (de dO _) (cy (A:=[_])) ?_;refine aI ?_;refine⟨.inr rfl,en results133 ?_⟩;refine⟨?_,rfl⟩;unfold eD;first|(rw[if_pos E];first|done|rfl)|(rw[if_neg E,if_pos M,hj];rcases j with _|_|j<;>first|rfl|omega)|(rw[if_neg E,if_neg I,if_pos aX];first|done|rfl)|(rw[if_neg E,if_neg I,if_neg aX,if_pos w7,show -v.n=0-v.n by omega];first|done|rfl)|(rw[if_neg E,if_neg I,if_neg aX,if_neg w7];first|done|rfl)
 have aX:=O
 (try simp only[V.ai,ne_eq] at aX)
 refine ah ?_;refine ae (aB 1) ?_;refine ae (aH 0) ?_;refine ae aE ?_;refine aa ?_;refine au [1,28] ?_;refine aM ot (fun Y=>?_) (fun Y=>?_)
 ·have bu:=Y
  (try simp only[V.ai,ne_eq] at bu)
  refine aC ?_;refine ez (aq _) af (fun _ h=>h) ?_;refine aj 1 rfl (aB 1) ?_;refine aj 2 rfl (aH 0) ?_;refine aj 3 rfl (xP rfl ot (Df (wrap_i64 w7 w7))) ?_;refine aj 4 rfl (dc (pl:=[(0,_),(2,_)]) (ds:=[_,_,_]) rfl zeroValue113 runUnderlying113 rW ⟨rfl,aN,rfl,ot,trivial⟩ rfl rfl) ?_;refine bt.later rfl ?_;refine aL (i:=0) af ?_;refine bY call136 (eN ⟨#[45]⟩) ?_;refine aL (i:=5) af ?_;refine bA (aU 0 [_,_]) [.int .i64 0,.string ⟨#[]⟩,.int .i64 0,.int .i64 0,.string ⟨#[]⟩,.int .i64 0] [_,_,_,_,_,_] zeroValue113 runUnderlying99 sizeOf113 (fun um=>?_);refine bz 0 37 3 2 ?_;refine bR 6 rfl bg ?_;refine cg [(2,_)] [⟨b1,127,3,[_,_,_]⟩] ?_;refine bO af ?_;refine aI ?_;refine⟨.inr rfl,en results133 ?_⟩;refine⟨?_,rfl⟩;unfold eD;first|(rw[if_pos E];first|done|rfl)|(rw[if_neg E,if_pos M,hj];rcases j with _|_|j<;>first|rfl|omega)|(rw[if_neg E,if_neg I,if_pos aX];first|done|rfl)|(rw[if_neg E,if_neg I,if_neg aX,if_pos w7,show -v.n=0-v.n by omega];first|done|rfl)|(rw[if_neg E,if_neg I,if_neg aX,if_neg w7];first|done|rfl)
 have bu:=Y
 (try simp only[V.ai,ne_eq] at bu)
 refine aS ?_;refine ah ?_;refine ae (aB 1) ?_;refine ae (aH 0) ?_;refine ae (dc (pl:=[(0,_),(2,_)]) (ds:=[_,_,_]) rfl zeroValue113 runUnderlying113 rW ⟨rfl,aN,rfl,ot,trivial⟩ rfl rfl) ?_;refine dM (aU 0 [_]) [.int .i64 0,.string ⟨#[]⟩,.int .i64 0] [_,_,_] zeroValue113 runUnderlying99 sizeOf113 (fun Z=>?_);refine aW (dj (S1:=[⟨Z,113,1*3,flatMap cT ([(⟨2,⟨#[]⟩,v.n⟩:Tk)])⟩]) (A:=[_])) ?_;refine aa ?_;refine bc (Wk.aR (n:=42) (l':=[(2,_)]) (S':=(⟨b1,127,3,[_,_,_]⟩::[⟨Z,113,1*3,flatMap cT ([(⟨2,⟨#[]⟩,v.n⟩:Tk)])⟩])) rfl rfl bj) ?_;refine bi ?_;refine jn (t:=2) (Sq:=[⟨Z,113,1*3,flatMap cT ([(⟨2,⟨#[]⟩,v.n⟩:Tk)])⟩]) lk (cU (g:=cT) (sz:=3) (e:=113) (ls:=[(⟨2,⟨#[]⟩,v.n⟩:Tk)]) (Nat.le_refl _) (show 1<=maxLen by decide)) (de dO _) (cy (A:=[_])) ?_;refine aI ?_;refine⟨.inr rfl,en results133 ?_⟩;refine⟨?_,rfl⟩;unfold eD;first|(rw[if_pos E];first|done|rfl)|(rw[if_neg E,if_pos M,hj];rcases j with _|_|j<;>first|rfl|omega)|(rw[if_neg E,if_neg I,if_pos aX];first|done|rfl)|(rw[if_neg E,if_neg I,if_neg aX,if_pos w7,show -v.n=0-v.n by omega];first|done|rfl)|(rw[if_neg E,if_neg I,if_neg aX,if_neg w7];first|done|rfl)
theorem BQ(k:Int)(h:k=3\/k=4\/6<=k/\k<=10):VP Tryz.prog G 192 [ag k] (.agg (cT (gd k))):=by
 refine cf func192 rfl ntmps192 aF fun Z w0 Y=>?_;refine ah ?_;refine eo (ds:=[_,_,_]) ay rfl rfl zeroValue113 rfl (fun U=>?_);refine aK [(0,_),(2,_)] [⟨U,113,3,[_,_,_]⟩] ?_;refine aC ?_;refine ah ?_;refine aa ?_;refine au [0,2,3] ?_;refine bZ ?_;refine ah ?_;refine ae aE ?_;refine aa ?_;refine au [0,2,3,4] ?_;refine aM ot (fun aA=>?_) (fun aA=>?_)
 ·have E:=aA
  (try simp only[V.ai,ne_eq] at E)
  refine ah ?_;refine bU call190 (nt ⟨#[65,78,68]⟩) ?_;refine bn 0 [_,_,_] sizeOf113 ?_;refine aK [(2,_)] [⟨U,113,3,[_,_,_]⟩] ?_;refine aI ?_;refine⟨.inr rfl,_,[],nil_sublist _,eC results192 (di (k:=0) (ds:=[_,_,_]) aF lk rfl rfl isAgg113 sizeOf113 rfl rfl),?_⟩;refine⟨?_,rfl⟩;unfold gd;first|(rw[if_neg M,if_neg O,show((j:Nat):Int).toNat=j from rfl,getD_eq_getElem?_getD,getElem?_eq_getElem hj];rfl)|(rw[if_pos mJ];rfl)|(rw[if_neg mJ,if_pos (by simpa using aG)];rfl)
 have E:=aA
 (try simp only[V.ai,ne_eq] at E)
 refine ah ?_;refine ae aE ?_;refine aa ?_;refine au [0,2,7] ?_;refine aM ot (fun aG=>?_) (fun aG=>?_)
 ·have I:=aG
  (try simp only[V.ai,ne_eq] at I)
  refine ah ?_;refine bU call190 (nt ⟨#[79,82]⟩) ?_;refine bn 0 [_,_,_] sizeOf113 ?_;refine aK [(2,_)] [⟨U,113,3,[_,_,_]⟩] ?_;refine aI ?_;refine⟨.inr rfl,_,[],nil_sublist _,eC results192 (di (k:=0) (ds:=[_,_,_]) aF lk rfl rfl isAgg113 sizeOf113 rfl rfl),?_⟩;refine⟨?_,rfl⟩;unfold gd;first|(rw[if_neg M,if_neg O,show((j:Nat):Int).toNat=j from rfl,getD_eq_getElem?_getD,getElem?_eq_getElem hj];rfl)|(rw[if_pos mJ];rfl)|(rw[if_neg mJ,if_pos (by simpa using aG)];rfl)
 have I:=aG
 (try simp only[V.ai,ne_eq] at I)
 refine aS ?_;refine aC ?_;have M:¬k=3:=(by simpa using aA)
 have O:¬k=4:=(by simpa using aG)
 obtain⟨j,rfl⟩:∃j:Nat,k=(j:Int):=⟨k.toNat,by omega⟩
 have hj:j<11:=(by omega)
 refine aV ?_;refine ae (G1 (pl:=[(6,_),(7,_),(8,_),(9,_),(10,_)]) (ds:=[_,_,_,_,_,_,_,_,_,_,_]) rfl zeroValue324 runUnderlying324 sizeOf9 ⟨rfl,aN,rfl,aN,rfl,aN,rfl,aN,rfl,aN,trivial⟩ rfl rfl) ?_;refine aa ?_;refine ae (xx (j:=j) rfl ot ot runUnderlying324 sizeOf9 isAgg9 rfl hj (K6 hj)) ?_;refine bU call136 (eN (vo[j]'hj)) ?_;refine bn 0 [_,_,_] sizeOf113 ?_;refine aK [(2,_)] [⟨U,113,3,[_,_,_]⟩] ?_;refine aI ?_;refine⟨.inr rfl,_,[],nil_sublist _,eC results192 (di (k:=0) (ds:=[_,_,_]) aF lk rfl rfl isAgg113 sizeOf113 rfl rfl),?_⟩;refine⟨?_,rfl⟩;unfold gd;first|(rw[if_neg M,if_neg O,show((j:Nat):Int).toNat=j from rfl,getD_eq_getElem?_getD,getElem?_eq_getElem hj];rfl)|(rw[if_pos mJ];rfl)|(rw[if_neg mJ,if_pos (by simpa using aG)];rfl)
def uo(q:List Tk):List D:=[av 3 cT q]
theorem BE:(Tryz.prog.info? 113).map (fun i=>(i.zero,i.size,i.bytes))=some (some (.agg #[.int .i64 0,.string ⟨#[]⟩,.int .i64 0]),3,32):=by kernel_rfl
theorem HD(n:Nat)(h0:0<n)(hn:n<=100000):VC Tryz.prog G 191 [ax,ag (n:Nat)] [] (fun r S=>∃b cap,cap<=maxLen/\r=az (some ⟨b,0,none⟩) 0 cap/\S=[⟨b,113,cap*3,[]⟩]):=by
 refine cf func191 rfl ntmps191 aF fun O w0 M=>?_;refine ah ?_;refine aa ?_;refine au [0,1] ?_;refine aC ?_;refine ah ?_;refine aa ?_;refine ae aE ?_;refine au [0,1,6] ?_;refine aM ot (fun aA=>?_) (fun aA=>?_)
 ·exact absurd aA oG
 have E:=aA
 (try simp only[V.ai,ne_eq] at E)
 refine aS ?_;refine aC ?_;refine ah ?_;refine aa ?_;refine aa ?_;refine ae (uM rfl rfl ot runUnderlying99) ?_;refine aa ?_;refine ae (cm (mk:=fun y=>.call {callee:=.builtin .len,args:=#[y],argTypes:=#[99]}) rfl ot (uZ rfl runUnderlying99)) ?_;refine ae aE ?_;refine ae aE ?_;refine aa ?_;refine aK [(0,_),(1,_)] [] ?_;refine ah ?_;refine aa ?_;refine ae aE ?_;refine au [0,1,16] ?_;refine aM ot (fun aG=>?_) (fun aG=>?_)
 ·have I:=aG
  (try simp only[V.ai,ne_eq] at I)
  refine aV ?_;refine aa ?_;refine aa ?_;refine ae (uM rfl rfl ot runUnderlying99) ?_;refine ae (Bw rfl ot rfl ⟨_,_,ot,rfl⟩ runUnderlying99 sizeOf113) ?_;refine aa ?_;refine Bz (m:=n) (sz:=3) ay rfl rfl underlying99 underlying3 BE rfl cc ot (Eq.trans ot (congrArg (fun z=>D.v (.int .i64 z)) (show((n:Nat):Int)-(0-0)=((n:Nat):Int) by omega))) h0 v7 w7 (fun b cap h1 h2=>?_);refine aa ?_;refine ae (cm (mk:=fun y=>.call {callee:=.builtin .len,args:=#[y],argTypes:=#[99]}) rfl ot (uZ rfl runUnderlying99)) ?_;refine ae (fH (l:=0) (h:=0) rfl ot trivial ⟨_,ot⟩ (by first|exact yz (fun h=>by cases h) runUnderlying99 sizeOf113 w7|exact uY (fun _=>rfl) (fun h=>by cases h) runUnderlying99 sizeOf113 w7 w7)) ?_;refine aa ?_;refine aK [(0,_)] [_] ?_;refine ah ?_;refine aa ?_;refine aa ?_;refine au [4] ?_;refine aI ?_;refine⟨.inr rfl,_,[⟨b,113,cap*3,[]⟩],Sublist.refl _,eC results191 (cw aF lk),?_⟩;exact⟨b,cap,h2,rfl,rfl⟩
 exact absurd aG rA
theorem GU(ls:List (List Tk))(N8:ls.length<=1000)(h0:0<ls.flatten.length)(hn:ls.flatten.length<=100000):VC Tryz.prog G 135 [av 1 uo ls] [] (fun r S=>∃ad cap,r=az ad ls.flatten.length cap/\bV 113 3 (ls.flatten.flatMap cT) ls.flatten.length ad cap S):=by
 refine cf func135 rfl ntmps135 aF fun X0 w0 dm=>?_;refine ah ?_;refine aa ?_;refine au [0] ?_;refine ah ?_;refine aa ?_;refine au [0,3] ?_;refine aC ?_;refine ah ?_;refine aa ?_;refine ae cZ ?_;refine aa ?_;refine au [0,3,9,10,11] ?_;refine bZ ?_;refine fa (fun (j:Nat) Z=>(j<=ls.length)/\Z=(⟨36,[(0,av 1 uo ls),(3,ag ((((ls.take j).flatten).length:Nat):Int)),(9,av 1 uo ls),(10,ag (ls.length:Nat)),(11,ag (j:Nat))],[]⟩:St)) (fun (j:Nat)=>ls.length-j) 0 ⟨(Nat.zero_le _),rfl⟩ (Wk.bI rfl eB vO) ?_;rintro j _ ⟨hj,rfl⟩;refine ah ?_;refine ae aE ?_;refine au [0,3,9,10,11,12] ?_;refine aC ?_;refine aM ot (fun aA=>?_) (fun aA=>?_)
 ·have E:=aA
  (try simp only[V.ai,ne_eq] at E)
  have aD:j<ls.length:=(by simp at aA;omega)
  have zf:=uy aD;have hle:=uz ls (j+1);refine aS ?_;refine aC ?_;refine bZ ?_;refine ah ?_;refine ae (dW 1 (h:=vR)) ?_;refine ae fE ?_;refine aa ?_;refine au [0,3,5,9,10,11] ?_;refine ah ?_;refine aa ?_;refine aa ?_;refine ae cZ ?_;refine ae (eX (r:=.int .i64 ((((ls.take (j+1)).flatten).length:Nat):Int)) rfl ot ot (lD EA)) ?_;refine aa ?_;refine aK [(0,_),(3,_),(9,_),(10,_),(11,_)] [] ?_;refine ah ?_;refine aa ?_;refine ae aE ?_;refine au [0,3,9,10,11,20] ?_;refine aM ot (fun aG=>?_) (fun aG=>?_)
  ·exact absurd aG rA
  have cA:=aG
  (try simp only[V.ai,ne_eq] at cA)
  refine aS ?_;refine aV ?_;refine ae aE ?_;refine aa ?_;refine au [0,3,9,10,11] ?_;refine⟨(j+1),_,?_,?_,w7,rfl⟩
  ·first|omega|(simp only[];omega)
  exact Wk.bI (n:=36) rfl eB vO
 have E:=aA
 (try simp only[V.ai,ne_eq] at E)
 obtain rfl:j=ls.length:=(by simp at aA;omega)
 rw[take_length];refine ep ?_;refine ah ?_;refine aa ?_;refine cP ay rfl rfl rfl call191 (HD ls.flatten.length h0 hn) ⟨aN,ot,trivial⟩ (Perm.refl _) ?_;rintro _ _ ⟨b,cp,AY,rfl,rfl⟩;refine aW (S':=[⟨b,113,cp*3,[]⟩]) (Perm.refl _) ?_;refine aa ?_;refine bc (Wk.aR (n:=36) (l':=[(0,_),(6,_)]) (S':=([⟨b,113,cp*3,[]⟩])) rfl rfl bj) ?_;refine bi ?_;refine aC ?_;refine ah ?_;refine aa ?_;refine ae cZ ?_;refine aa ?_;refine au [6,25,26,27] ?_;refine bZ ?_;refine fa (fun (I:Nat×Option Addr×Nat×List ak) Z=>match I with|(j,M,O,Sx)=>(j<=ls.length)/\(bV 113 3 (((ls.take j).flatten).flatMap cT) ((ls.take j).flatten).length M O Sx)/\Z=(⟨36,[(6,az M ((ls.take j).flatten).length O),(25,av 1 uo ls),(26,ag (ls.length:Nat)),(27,ag (j:Nat))],(Sx)⟩:St)) (fun (I:Nat×Option Addr×Nat×List ak)=>match I with|(j,M,O,Sx)=>ls.length-j) (0,(some ⟨b,0,none⟩),cp,[⟨b,113,cp*3,[]⟩]) ⟨(Nat.zero_le _),(bV.cast (B2 AY) (by rfl)),rfl⟩ (Wk.bI rfl cG vN) ?_;rintro⟨j,M,O,Sx⟩ _ ⟨hj,jk,rfl⟩;refine ah ?_;refine ae aE ?_;refine au [6,25,26,27,28] ?_;refine aC ?_;refine aM ot (fun U=>?_) (fun U=>?_)
 ·have aX:=U
  (try simp only[V.ai,ne_eq] at aX)
  have aD:j<ls.length:=(by simp at U;omega)
  have zf:=uy aD;have hle:=uz ls (j+1);refine aS ?_;refine aC ?_;refine bZ ?_;refine ah ?_;refine ae (dW 1 (h:=vR)) ?_;refine ae fE ?_;refine aa ?_;refine au [6,8,25,26,27] ?_;refine aV ?_;refine aa ?_;refine aa ?_;refine qo (ls:=((ls.take j).flatten)) (new:=ls[j]) (Sq:=Sx) dO gh ay rfl rfl underlying99 BE rfl cc runUnderlying99 sizeOf113 ot jk (cy (A:=[])) ot v7 w7 (fun zg zh ud zi=>?_);refine aW (dj (A:=[])) ?_;refine aa ?_;refine bc (Wk.aR (n:=36) (l':=[(6,_),(25,_),(26,_),(27,_)]) (S':=(ud)) rfl rfl bj) ?_;refine bi ?_;refine aV ?_;refine ae aE ?_;refine aa ?_;refine au [6,25,26,27] ?_;refine⟨((j+1),zg,zh,ud),_,?_,?_,w7,(bV.cast zi (by rw[uI aD])),rfl⟩
  ·first|omega|(simp only[];omega)
  exact Wk.bI (n:=36) rfl cG vN
 have aX:=U
 (try simp only[V.ai,ne_eq] at aX)
 obtain rfl:j=ls.length:=(by simp at U;omega)
 refine ep ?_;refine ah ?_;refine aa ?_;refine aa ?_;refine au [2] ?_;refine aI ?_;refine⟨.inr rfl,_,Sx,Sublist.refl _,eC results135 (cw aF lk),?_⟩;have Y:=jk;rw[take_length] at Y;exact⟨M,O,by rw[take_length],Y⟩
theorem eP(ls:List (List Tk))(E:ls.length<=1000)(h0:0<ls.flatten.length)(hn:ls.flatten.length<=100000):VP Tryz.prog G 135 [av 1 uo ls] (av 3 cT ls.flatten):=VC.sK dO (GU ls E h0 hn)
def mF(o:aZ)(a b:List Tk):List Tk :=
 if o.k=1 then eD o.v else if o.k=2 then [aT o.nm]
 else if o.k=5 then [[bf ⟨#[40]⟩,aT ⟨#[78,79,84]⟩],a,[bf ⟨#[41]⟩]].flatten
 else if o.k=11 then [[bf ⟨#[40]⟩],a,[aT ⟨#[73,83]⟩,aT ⟨#[78,85,76,76]⟩],[bf ⟨#[41]⟩]].flatten
 else [[bf ⟨#[40]⟩],a,[gd o.k],b,[bf ⟨#[41]⟩]].flatten
def bB(h:List (List Tk))(o:aZ):Nat:=h.length-(fS o.k).toNat
def jt(h:List (List Tk))(o:aZ):List (List Tk):=h.take (bB h o)++[mF o (h.getD (bB h o) []) (h.getD (bB h o+1) [])]
def kz(l:List aZ):List Tk:=(l.foldl jt []).getD 0 []
theorem Jm{h:Int}(he:gr h o=0):1<=o.k/\o.k<=11/\iv o.v=0/\fS o.k<=h:=by
 unfold gr at he;split at he
 ·cases he
 split at he
 ·exact absurd he eG
 split at he
 ·cases he
 split at he
 ·rename_i E;exact absurd he E.2
 split at he
 ·cases he
 exact⟨by omega,by omega,by omega,by omega⟩
theorem Jn{l:List aZ}{h:Int}(hi:i<l.length)(he:gb h (l.drop i)=0):gr h l[i]=0:=by
 rw[drop_eq_getElem_cons hi,gb] at he;split at he
 ·assumption
 exact he
theorem Dp{v:Vl}(h:iv v=0)(h1:-9223372036854775808<=v.n)(h2:v.n<=9223372036854775807):wR v:=by
 unfold iv iS at h;split at h
 ·cases h
 have hn:¬(v.k=2/\v.n = -9223372036854775808):=(by assumption)
 repeat' split at h
 all_goals first|(exfalso;omega)|(unfold wR;refine⟨?_,?_,h2⟩<;>omega)
theorem Cr(hp:fS o.k<=(h.length:Int)):((jt h o).length:Int)=h.length+(1-fS o.k):=by
 have:=u9 o.k;unfold jt bB;rw[length_append,length_take];simp only[length_cons,length_nil];omega
theorem rV(h:List (List Tk))(n:Nat):h.flatten.length=(h.take n).flatten.length+(h.drop n).flatten.length:=by
 conv=>lhs;rw[<-take_append_drop n h,flatten_append,length_append]
theorem oe:(h.getD n []).length<=(h.drop n).flatten.length/\(h.getD n []).length+(h.getD (n+1) []).length<=(h.drop n).flatten.length:=by
 by_cases hn:n<h.length
 ·rw[drop_eq_getElem_cons hn];have I:h.getD n []=h[n]:=(by rw[getD_eq_getElem?_getD,getElem?_eq_getElem hn];rfl)
  rw[I,flatten_cons,length_append];refine⟨by omega,?_⟩;by_cases E:n+1<h.length
  ·rw[drop_eq_getElem_cons E,flatten_cons,length_append];have e2:h.getD (n+1) []=h[n+1]:=(by rw[getD_eq_getElem?_getD,getElem?_eq_getElem E];rfl)
   rw[e2];omega
  have e2:h.getD (n+1) []=[]:=(by rw[getD_eq_getElem?_getD,getElem?_eq_none w7];rfl)
  rw[e2];simp only[length_nil];omega
 have I:h.getD n []=[]:=(by rw[getD_eq_getElem?_getD,getElem?_eq_none w7];rfl)
 have e2:h.getD (n+1) []=[]:=(by rw[getD_eq_getElem?_getD,getElem?_eq_none w7];rfl)
 rw[I,e2];exact⟨by simp,by simp⟩
theorem C4(o:aZ)(a b:List Tk):(mF o a b).length<=a.length+b.length+5/\0<(mF o a b).length:=by
 have:=B3 o.v;unfold mF;repeat' split
 all_goals first|exact⟨by omega,by omega⟩|(simp only[flatten_cons,flatten_nil,length_append,length_cons,length_nil];exact⟨by omega,by omega⟩)
theorem B4:(jt h o).flatten.length<=h.flatten.length+5:=by
 have h1:=rV h (bB h o);have h2:=(oe (h:=h) (n:=bB h o)).2;have E:=(C4 o (h.getD (bB h o) []) (h.getD (bB h o+1) [])).1;unfold jt;rw[flatten_append,length_append];simp only[flatten_cons,flatten_nil,append_nil];omega
theorem HE{l:List aZ}(hi:i<l.length):(l.take (i+1)).foldl jt []=jt ((l.take i).foldl jt []) l[i]:=by
 rw[take_succ_eq_append_getElem hi,foldl_append];rfl
theorem va{e sz cap:Nat}{cs:List D}{ad:Option Addr}{S:List ak}(h:bV e sz cs n ad cap S)(hn:0<n):∃b,ad=some ⟨b,0,none⟩/\n<=cap/\cap<=maxLen/\S=[⟨b,e,cap*sz,cs⟩]:=by
 rcases h with ⟨h1,_⟩|h
 ·omega
 exact h
theorem getD_at{h:List α}{d:α}(hn:n<h.length):h.getD n d=h[n]:=by rw[getD_eq_getElem?_getD,getElem?_eq_getElem hn];rfl
theorem G9:(Tryz.prog.info? 99).map (fun i=>(i.zero,i.size,i.bytes))=some (some (.slice none 0 0),1,24):=by kernel_rfl
theorem xB(l:List aZ)(hl:l.length<=40)(he:gb 0 l=0)(hr:∀o∈l,-9223372036854775808<=o.v.n/\o.v.n<=9223372036854775807):VP Tryz.prog G 137 [av 5 cO l] (.list 3 ((kz l).flatMap cT) (kz l).length):=by
 refine cf func137 rfl ntmps137 aF fun X0 w0 dm=>?_;have eI:=fU;refine ah ?_;refine aa ?_;refine au [0] ?_;refine ah ?_;refine aa ?_;refine au [0,3] ?_;refine aC ?_;refine ah ?_;refine aa ?_;refine ae cZ ?_;refine aa ?_;refine au [3,8,9,10] ?_;refine bZ ?_;refine fa (fun (gU:Nat×List (List Tk)×Option Addr×Nat×List ak) cn=>match gU with|(i,H,rT,E,Sh)=>(i<=l.length)/\(H=(l.take i).foldl jt [])/\(gb ((H).length:Int) (l.drop i)=0)/\((H).length<=i)/\((H).flatten.length<=5*i)/\(bV 99 1 ((H).flatMap cK) (H).length rT E Sh)/\cn=(⟨90,[(3,az rT (H).length E),(8,av 5 cO l),(9,ag (l.length:Nat)),(10,ag (i:Nat))],(Sh)⟩:St)) (fun (gU:Nat×List (List Tk)×Option Addr×Nat×List ak)=>match gU with|(i,H,rT,E,Sh)=>l.length-i) (0,[],none,0,[]) ⟨(Nat.zero_le _),rfl,he,(Nat.le_refl _),(Nat.le_refl _),(bV.cast kT (by rfl)),rfl⟩ (Wk.bI rfl cG Et) ?_;rintro⟨i,H,rT,E,Sh⟩ _ ⟨hi,hH,hx,Qx,Qy,rU,rfl⟩;refine ah ?_;refine ae aE ?_;refine au [3,8,9,10,11] ?_;refine aC ?_;refine aM ot (fun aA=>?_) (fun aA=>?_)
 ·have dJ:=aA
  (try simp only[V.ai,ne_eq] at dJ)
  have aD:i<l.length:=(by simp at aA;omega)
  have rL:=Jn aD hx;obtain⟨rM,PR,pK,FN⟩:=Jm rL;have Fm:=u9 l[i].k;have PT:l.length<=40:=hl;have PU:bB H l[i]<=H.length:=Nat.sub_le _ _;have Mw:=Dp pK (hr _ (getElem_mem aD)).1 (hr _ (getElem_mem aD)).2;refine aS ?_;refine aC ?_;refine bZ ?_;refine ah ?_;refine ae (dW 5 (h:=oD)) ?_;refine ae (we [_,_,_,_,_]) ?_;refine eo (ds:=[_,_,_,_,_]) ay rfl rfl zeroValue287 rfl (fun I=>?_);refine bn 0 [_,_,_,_,_] sizeOf287 ?_;refine bc (Wk.aR (n:=90) (l':=[(3,_),(5,_),(8,_),(9,_),(10,_)]) (S':=(⟨I,287,5,[_,_,_,_,_]⟩::Sh)) rfl rfl bj) ?_;refine bi ?_;refine ah ?_;refine aa ?_;refine ae cZ ?_;refine ae (aB 0) ?_;refine ae (aH 0) ?_;refine bU call189 (yt l[i].k) ?_;refine ae (eX (r:=.int .i64 (((bB H l[i]):Nat):Int)) rfl ot ot (qC (by rw[show((H.length:Nat):Int)-fS l[i].k=(((bB H l[i]):Nat):Int) by unfold bB;omega];exact wrap_i64 w7 w7))) ?_;refine aa ?_;refine bc (Wk.aR (n:=90) (l':=[(3,_),(5,_),(6,_),(8,_),(9,_),(10,_)]) (S':=(⟨I,287,5,[_,_,_,_,_]⟩::Sh)) rfl rfl bj) ?_;refine bi ?_;refine ah ?_;refine aa ?_;refine au [3,5,6,8,9,10] ?_
  refine nv (fun cn=>∃(Tx:List Tk),∃(ad:Option Addr),∃(cp:Nat),∃(Sx:List ak),(Tx=mF l[i] (H.getD (bB H l[i]) []) (H.getD (bB H l[i]+1) []))/\(bV 99 1 (H.flatMap cK) H.length ad cp Sx)/\cn=(⟨90,[(3,az ad H.length cp),(6,ag ((bB H l[i]):Nat)),(7,av 3 cT Tx),(8,av 5 cO l),(9,ag (l.length:Nat)),(10,ag (i:Nat))],Sx⟩:St)) ?_ ?_
  ·refine ah ?_;refine ae (aB 0) ?_;refine ae (aH 0) ?_;refine au [3,5,6,8,9,10,21] ?_;refine bZ ?_;refine ah ?_;refine ae aE ?_;refine aa ?_;refine au [3,5,6,8,9,10,21,41] ?_;refine aM ot (fun aG=>?_) (fun aG=>?_)
   ·have U:=aG
    (try simp only[V.ai,ne_eq] at U)
    refine aV ?_;refine ae (aB 1) ?_;refine ae (fw 0 [_,_,_]) ?_;refine bU call133 (Bx l[i].v Mw) ?_;refine aa ?_;refine bc (Wk.aR (n:=90) (l':=[(3,_),(6,_),(7,_),(8,_),(9,_),(10,_)]) (S':=(⟨I,287,5,[_,_,_,_,_]⟩::Sh)) rfl rfl bj) ?_;refine bi ?_;refine⟨_,?_,eD l[i].v,rT,E,Sh,(by unfold mF;rw[if_pos U]),rU,rfl⟩;exact Wk.bI (n:=90) rfl eB dL
   have U:=aG
   (try simp only[V.ai,ne_eq] at U)
   refine ah ?_;refine ae aE ?_;refine aa ?_;refine au [3,5,6,8,9,10,21,46] ?_;refine aM ot (fun bJ=>?_) (fun bJ=>?_)
   ·have aX:=bJ
    (try simp only[V.ai,ne_eq] at aX)
    refine aV ?_;refine ae (aB 4) ?_;refine ae (aH 0) ?_;refine dM (aU 0 [_]) [.string ⟨#[]⟩] [_] zeroValue9 runUnderlying34 sizeOf9 (fun uq=>?_);refine aW (pb (S2:=[⟨uq,9,1*1,flatMap cS ([l[i].nm])⟩]) (A:=[_])) ?_;refine iH (t:=50) (Sq:=[⟨uq,9,1*1,flatMap cS ([l[i].nm])⟩]) lk (cU (g:=cS) (sz:=1) (e:=9) (ls:=[l[i].nm]) (Nat.le_refl _) (show 1<=maxLen by decide)) (de ej _) (qy (A:=[_])) ?_;refine bU call131 (jU [l[i].nm] rz) ?_;refine aa ?_;refine bc (Wk.aR (n:=90) (l':=[(3,_),(6,_),(7,_),(8,_),(9,_),(10,_)]) (S':=(⟨I,287,5,[_,_,_,_,_]⟩::Sh)) rfl rfl bj) ?_;refine bi ?_;refine⟨_,?_,[aT l[i].nm],rT,E,Sh,(by unfold mF;rw[if_neg U,if_pos aX]),rU,rfl⟩;exact Wk.bI (n:=90) rfl eB dL
   have aX:=bJ
   (try simp only[V.ai,ne_eq] at aX)
   refine ah ?_;refine ae aE ?_;refine aa ?_;refine au [3,5,6,8,9,10,21,52] ?_;refine aM ot (fun ct=>?_) (fun ct=>?_)
   ·have bu:=ct
    (try simp only[V.ai,ne_eq] at bu)
    have Ol:l[i].k=5:=(by simpa using ct)
    have j9:fS l[i].k=1:=(by rw[Ol];decide)
    have hg1:=(oe (h:=H) (n:=bB H l[i])).1;have hg2:=(oe (h:=H) (n:=bB H l[i])).2;have hg3:=rV H (bB H l[i]);have oz:0<H.length:=(by omega)
    obtain⟨bh,Y,q9,rf,qj⟩:=va rU oz;subst Y qj;have eA:bB H l[i]<H.length:=(by unfold bB;omega)
    rw[getD_at eA] at hg1 hg2;skip;refine CD.mono (Q:=fun kN cn=>kN=Exit.normal/\(True)/\Wk cn (⟨90,[(3,az (some ⟨bh,0,none⟩) H.length E),(6,ag ((bB H l[i]):Nat)),(7,.list 3 (([[bf ⟨#[40]⟩,aT ⟨#[78,79,84]⟩],H[bB H l[i]],[bf ⟨#[41]⟩]].flatten).flatMap cT) ([[bf ⟨#[40]⟩,aT ⟨#[78,79,84]⟩],H[bB H l[i]],[bf ⟨#[41]⟩]].flatten).length),(8,av 5 cO l),(9,ag l.length),(10,ag (i:Nat))],[⟨I,287,5,cO l[i]⟩,⟨bh,99,E*1,H.flatMap cK⟩]⟩:St)) ?_ ?_
    ·refine ez (aq _) af (fun _ h=>h) ?_;refine aj 3 rfl bg ?_;refine aj 4 rfl bg ?_;refine aj 5 rfl (dW 1 (h:=zW)) ?_;first|refine aj 6 rfl (cm (mk:=Op.load 99) rfl ot Ad) ?_|refine aj 6 rfl (cm (mk:=Op.load 99) rfl ot Ac) ?_|refine aj 6 rfl (cm (mk:=Op.load 99) rfl ot Ab) ?_
     refine bt.later rfl ?_;refine aL (i:=0) af ?_;refine bY call136 (eN ⟨#[40]⟩) ?_;refine aL (i:=1) af ?_;refine bY call190 (nt ⟨#[78,79,84]⟩) ?_;refine dY (i:=2) (j:=7) af ?_ ?_
     ·refine bA (aU 0 [_,_]) [.int .i64 0,.string ⟨#[]⟩,.int .i64 0,.int .i64 0,.string ⟨#[]⟩,.int .i64 0] [_,_,_,_,_,_] zeroValue113 runUnderlying99 sizeOf113 (fun FO=>?_);refine bz 0 56 3 2 ?_;refine aL (i:=7) af ?_;refine bY call136 (eN ⟨#[41]⟩) ?_;refine aL (i:=8) af ?_;refine bA (aU 0 [_]) [.int .i64 0,.string ⟨#[]⟩,.int .i64 0] [_,_,_] zeroValue113 runUnderlying99 sizeOf113 (fun ur=>?_);refine bz 0 62 3 1 ?_;refine aL (i:=9) af ?_;refine bA (aU 0 [_,_,_]) [.slice none 0 0,.slice none 0 0,.slice none 0 0] [_,_,_] zeroValue99 runUnderlying231 sizeOf99 (fun FP=>?_);refine bz 0 63 1 3 ?_;refine aL (i:=10) af ?_;refine bY call135 (eP ([[bf ⟨#[40]⟩,aT ⟨#[78,79,84]⟩],H[bB H l[i]],[bf ⟨#[41]⟩]]) fy w5 w5) ?_;refine bR 11 rfl bg ?_;refine cg [(3,_),(6,_),(7,_),(8,_),(9,_),(10,_)] [⟨I,287,5,[_,_,_,_,_]⟩,_] ?_;refine bO af ?_;exact⟨rfl,trivial,Wk.refl _⟩
     refine bY call136 (eN ⟨#[41]⟩) ?_;refine dY (i:=2) (j:=8) af ?_ ?_
     ·refine bA (aU 0 [_,_]) [.int .i64 0,.string ⟨#[]⟩,.int .i64 0,.int .i64 0,.string ⟨#[]⟩,.int .i64 0] [_,_,_,_,_,_] zeroValue113 runUnderlying99 sizeOf113 (fun FO=>?_);refine bz 0 56 3 2 ?_;refine aL (i:=8) af ?_;refine bA (aU 0 [_]) [.int .i64 0,.string ⟨#[]⟩,.int .i64 0] [_,_,_] zeroValue113 runUnderlying99 sizeOf113 (fun ur=>?_);refine bz 0 62 3 1 ?_;refine aL (i:=9) af ?_;refine bA (aU 0 [_,_,_]) [.slice none 0 0,.slice none 0 0,.slice none 0 0] [_,_,_] zeroValue99 runUnderlying231 sizeOf99 (fun FP=>?_);refine bz 0 63 1 3 ?_;refine aL (i:=10) af ?_;refine bY call135 (eP ([[bf ⟨#[40]⟩,aT ⟨#[78,79,84]⟩],H[bB H l[i]],[bf ⟨#[41]⟩]]) fy w5 w5) ?_;refine bR 11 rfl bg ?_;refine cg [(3,_),(6,_),(7,_),(8,_),(9,_),(10,_)] [⟨I,287,5,[_,_,_,_,_]⟩,_] ?_;refine bO af ?_;exact⟨rfl,trivial,Wk.refl _⟩
     refine bA (aU 0 [_]) [.int .i64 0,.string ⟨#[]⟩,.int .i64 0] [_,_,_] zeroValue113 runUnderlying99 sizeOf113 (fun ur=>?_);refine bz 0 62 3 1 ?_;refine aL (i:=2) af ?_;refine bA (aU 0 [_,_]) [.int .i64 0,.string ⟨#[]⟩,.int .i64 0,.int .i64 0,.string ⟨#[]⟩,.int .i64 0] [_,_,_,_,_,_] zeroValue113 runUnderlying99 sizeOf113 (fun FO=>?_);refine bz 0 56 3 2 ?_;refine aL (i:=9) af ?_;refine bA (aU 0 [_,_,_]) [.slice none 0 0,.slice none 0 0,.slice none 0 0] [_,_,_] zeroValue99 runUnderlying231 sizeOf99 (fun FP=>?_);refine bz 0 63 1 3 ?_;refine aL (i:=10) af ?_;refine bY call135 (eP ([[bf ⟨#[40]⟩,aT ⟨#[78,79,84]⟩],H[bB H l[i]],[bf ⟨#[41]⟩]]) fy w5 w5) ?_;refine bR 11 rfl bg ?_;refine cg [(3,_),(6,_),(7,_),(8,_),(9,_),(10,_)] [⟨I,287,5,[_,_,_,_,_]⟩,_] ?_;refine bO af ?_;exact⟨rfl,trivial,Wk.refl _⟩
    rintro _ _ ⟨rfl,_,Z⟩;refine⟨_,?_,[[bf ⟨#[40]⟩,aT ⟨#[78,79,84]⟩],H[bB H l[i]],[bf ⟨#[41]⟩]].flatten,(some ⟨bh,0,none⟩),E,[⟨bh,99,E*1,H.flatMap cK⟩],(by unfold mF;rw[if_neg U,if_neg aX,if_pos bu,getD_at eA]),(cU q9 rf),rfl⟩;exact Z.trans (Wk.bI (n:=90) rfl eB dL)
   have bu:=ct
   (try simp only[V.ai,ne_eq] at bu)
   refine ah ?_;refine ae aE ?_;refine aa ?_;refine au [3,5,6,8,9,10,65] ?_;refine aM ot (fun ck=>?_) (fun ck=>?_)
   ·have bQ:=ck
    (try simp only[V.ai,ne_eq] at bQ)
    have Om:l[i].k=11:=(by simpa using ck)
    have j9:fS l[i].k=1:=(by rw[Om];decide)
    have hg1:=(oe (h:=H) (n:=bB H l[i])).1;have hg2:=(oe (h:=H) (n:=bB H l[i])).2;have hg3:=rV H (bB H l[i]);have oz:0<H.length:=(by omega)
    obtain⟨bh,Y,q9,rf,qj⟩:=va rU oz;subst Y qj;have eA:bB H l[i]<H.length:=(by unfold bB;omega)
    rw[getD_at eA] at hg1 hg2;skip;refine CD.mono (Q:=fun kN cn=>kN=Exit.normal/\(True)/\Wk cn (⟨90,[(3,az (some ⟨bh,0,none⟩) H.length E),(6,ag ((bB H l[i]):Nat)),(7,.list 3 (([[bf ⟨#[40]⟩],H[bB H l[i]],[aT ⟨#[73,83]⟩,aT ⟨#[78,85,76,76]⟩],[bf ⟨#[41]⟩]].flatten).flatMap cT) ([[bf ⟨#[40]⟩],H[bB H l[i]],[aT ⟨#[73,83]⟩,aT ⟨#[78,85,76,76]⟩],[bf ⟨#[41]⟩]].flatten).length),(8,av 5 cO l),(9,ag l.length),(10,ag (i:Nat))],[⟨I,287,5,cO l[i]⟩,⟨bh,99,E*1,H.flatMap cK⟩]⟩:St)) ?_ ?_
    ·refine ez (aq _) af (fun _ h=>h) ?_;refine aj 2 rfl bg ?_;refine aj 3 rfl bg ?_;refine aj 4 rfl (dW 1 (h:=zW)) ?_;first|refine aj 5 rfl (cm (mk:=Op.load 99) rfl ot Ad) ?_|refine aj 5 rfl (cm (mk:=Op.load 99) rfl ot Ac) ?_|refine aj 5 rfl (cm (mk:=Op.load 99) rfl ot Ab) ?_
     refine bt.later rfl ?_;refine dY (i:=0) (j:=6) af ?_ ?_
     ·refine bY call136 (eN ⟨#[40]⟩) ?_;refine dY (i:=1) (j:=6) af ?_ ?_
      ·refine bA (aU 0 [_]) [.int .i64 0,.string ⟨#[]⟩,.int .i64 0] [_,_,_] zeroValue113 runUnderlying99 sizeOf113 (fun oT=>?_);refine bz 0 68 3 1 ?_;refine aL (i:=6) af ?_;refine bA (aU 0 [_,_]) [.string ⟨#[]⟩,.string ⟨#[]⟩] [_,_] zeroValue9 runUnderlying34 sizeOf9 (fun FQ=>?_);refine bz 0 73 1 2 ?_;refine aL (i:=7) af ?_;refine bY call131 (jU [⟨#[73,83]⟩,⟨#[78,85,76,76]⟩] pT) ?_;refine aL (i:=8) af ?_;refine bY call136 (eN ⟨#[41]⟩) ?_;refine aL (i:=9) af ?_;refine bA (aU 0 [_]) [.int .i64 0,.string ⟨#[]⟩,.int .i64 0] [_,_,_] zeroValue113 runUnderlying99 sizeOf113 (fun oU=>?_);refine bz 0 76 3 1 ?_;refine aL (i:=10) af ?_;refine bA (aU 0 [_,_,_,_]) [.slice none 0 0,.slice none 0 0,.slice none 0 0,.slice none 0 0] [_,_,_,_] zeroValue99 runUnderlying231 sizeOf99 (fun nc=>?_);refine bz 0 77 1 4 ?_;refine aL (i:=11) af ?_;refine bY call135 (eP ([[bf ⟨#[40]⟩],H[bB H l[i]],[aT ⟨#[73,83]⟩,aT ⟨#[78,85,76,76]⟩],[bf ⟨#[41]⟩]]) fy w5 w5) ?_;refine bR 12 rfl bg ?_;refine cg [(3,_),(6,_),(7,_),(8,_),(9,_),(10,_)] [⟨I,287,5,[_,_,_,_,_]⟩,_] ?_;refine bO af ?_;exact⟨rfl,trivial,Wk.refl _⟩
      refine bA (aU 0 [_,_]) [.string ⟨#[]⟩,.string ⟨#[]⟩] [_,_] zeroValue9 runUnderlying34 sizeOf9 (fun FQ=>?_);refine bz 0 73 1 2 ?_;refine dY (i:=1) (j:=7) af ?_ ?_
      ·refine bA (aU 0 [_]) [.int .i64 0,.string ⟨#[]⟩,.int .i64 0] [_,_,_] zeroValue113 runUnderlying99 sizeOf113 (fun oT=>?_);refine bz 0 68 3 1 ?_;refine aL (i:=7) af ?_;refine bY call131 (jU [⟨#[73,83]⟩,⟨#[78,85,76,76]⟩] pT) ?_;refine aL (i:=8) af ?_;refine bY call136 (eN ⟨#[41]⟩) ?_;refine aL (i:=9) af ?_;refine bA (aU 0 [_]) [.int .i64 0,.string ⟨#[]⟩,.int .i64 0] [_,_,_] zeroValue113 runUnderlying99 sizeOf113 (fun oU=>?_);refine bz 0 76 3 1 ?_;refine aL (i:=10) af ?_;refine bA (aU 0 [_,_,_,_]) [.slice none 0 0,.slice none 0 0,.slice none 0 0,.slice none 0 0] [_,_,_,_] zeroValue99 runUnderlying231 sizeOf99 (fun nc=>?_);refine bz 0 77 1 4 ?_;refine aL (i:=11) af ?_;refine bY call135 (eP ([[bf ⟨#[40]⟩],H[bB H l[i]],[aT ⟨#[73,83]⟩,aT ⟨#[78,85,76,76]⟩],[bf ⟨#[41]⟩]]) fy w5 w5) ?_;refine bR 12 rfl bg ?_;refine cg [(3,_),(6,_),(7,_),(8,_),(9,_),(10,_)] [⟨I,287,5,[_,_,_,_,_]⟩,_] ?_;refine bO af ?_;exact⟨rfl,trivial,Wk.refl _⟩
      refine bY call131 (jU [⟨#[73,83]⟩,⟨#[78,85,76,76]⟩] pT) ?_;refine dY (i:=1) (j:=8) af ?_ ?_
      ·refine bA (aU 0 [_]) [.int .i64 0,.string ⟨#[]⟩,.int .i64 0] [_,_,_] zeroValue113 runUnderlying99 sizeOf113 (fun oT=>?_);refine bz 0 68 3 1 ?_;refine aL (i:=8) af ?_;refine bY call136 (eN ⟨#[41]⟩) ?_;refine aL (i:=9) af ?_;refine bA (aU 0 [_]) [.int .i64 0,.string ⟨#[]⟩,.int .i64 0] [_,_,_] zeroValue113 runUnderlying99 sizeOf113 (fun oU=>?_);refine bz 0 76 3 1 ?_;refine aL (i:=10) af ?_;refine bA (aU 0 [_,_,_,_]) [.slice none 0 0,.slice none 0 0,.slice none 0 0,.slice none 0 0] [_,_,_,_] zeroValue99 runUnderlying231 sizeOf99 (fun nc=>?_);refine bz 0 77 1 4 ?_;refine aL (i:=11) af ?_;refine bY call135 (eP ([[bf ⟨#[40]⟩],H[bB H l[i]],[aT ⟨#[73,83]⟩,aT ⟨#[78,85,76,76]⟩],[bf ⟨#[41]⟩]]) fy w5 w5) ?_;refine bR 12 rfl bg ?_;refine cg [(3,_),(6,_),(7,_),(8,_),(9,_),(10,_)] [⟨I,287,5,[_,_,_,_,_]⟩,_] ?_;refine bO af ?_;exact⟨rfl,trivial,Wk.refl _⟩
      refine bY call136 (eN ⟨#[41]⟩) ?_;refine dY (i:=1) (j:=9) af ?_ ?_
      ·refine bA (aU 0 [_]) [.int .i64 0,.string ⟨#[]⟩,.int .i64 0] [_,_,_] zeroValue113 runUnderlying99 sizeOf113 (fun oT=>?_);refine bz 0 68 3 1 ?_;refine aL (i:=9) af ?_;refine bA (aU 0 [_]) [.int .i64 0,.string ⟨#[]⟩,.int .i64 0] [_,_,_] zeroValue113 runUnderlying99 sizeOf113 (fun oU=>?_);refine bz 0 76 3 1 ?_;refine aL (i:=10) af ?_;refine bA (aU 0 [_,_,_,_]) [.slice none 0 0,.slice none 0 0,.slice none 0 0,.slice none 0 0] [_,_,_,_] zeroValue99 runUnderlying231 sizeOf99 (fun nc=>?_);refine bz 0 77 1 4 ?_;refine aL (i:=11) af ?_;refine bY call135 (eP ([[bf ⟨#[40]⟩],H[bB H l[i]],[aT ⟨#[73,83]⟩,aT ⟨#[78,85,76,76]⟩],[bf ⟨#[41]⟩]]) fy w5 w5) ?_;refine bR 12 rfl bg ?_;refine cg [(3,_),(6,_),(7,_),(8,_),(9,_),(10,_)] [⟨I,287,5,[_,_,_,_,_]⟩,_] ?_;refine bO af ?_;exact⟨rfl,trivial,Wk.refl _⟩
      refine bA (aU 0 [_]) [.int .i64 0,.string ⟨#[]⟩,.int .i64 0] [_,_,_] zeroValue113 runUnderlying99 sizeOf113 (fun oU=>?_);refine bz 0 76 3 1 ?_;refine aL (i:=1) af ?_;refine bA (aU 0 [_]) [.int .i64 0,.string ⟨#[]⟩,.int .i64 0] [_,_,_] zeroValue113 runUnderlying99 sizeOf113 (fun oT=>?_);refine bz 0 68 3 1 ?_;refine aL (i:=10) af ?_;refine bA (aU 0 [_,_,_,_]) [.slice none 0 0,.slice none 0 0,.slice none 0 0,.slice none 0 0] [_,_,_,_] zeroValue99 runUnderlying231 sizeOf99 (fun nc=>?_);refine bz 0 77 1 4 ?_;refine aL (i:=11) af ?_;refine bY call135 (eP ([[bf ⟨#[40]⟩],H[bB H l[i]],[aT ⟨#[73,83]⟩,aT ⟨#[78,85,76,76]⟩],[bf ⟨#[41]⟩]]) fy w5 w5) ?_;refine bR 12 rfl bg ?_;refine cg [(3,_),(6,_),(7,_),(8,_),(9,_),(10,_)] [⟨I,287,5,[_,_,_,_,_]⟩,_] ?_;refine bO af ?_;exact⟨rfl,trivial,Wk.refl _⟩
     refine bA (aU 0 [_,_]) [.string ⟨#[]⟩,.string ⟨#[]⟩] [_,_] zeroValue9 runUnderlying34 sizeOf9 (fun FQ=>?_);refine bz 0 73 1 2 ?_;refine aL (i:=0) af ?_;refine bY call136 (eN ⟨#[40]⟩) ?_;refine dY (i:=1) (j:=7) af ?_ ?_
     ·refine bA (aU 0 [_]) [.int .i64 0,.string ⟨#[]⟩,.int .i64 0] [_,_,_] zeroValue113 runUnderlying99 sizeOf113 (fun oT=>?_);refine bz 0 68 3 1 ?_;refine aL (i:=7) af ?_;refine bY call131 (jU [⟨#[73,83]⟩,⟨#[78,85,76,76]⟩] pT) ?_;refine aL (i:=8) af ?_;refine bY call136 (eN ⟨#[41]⟩) ?_;refine aL (i:=9) af ?_;refine bA (aU 0 [_]) [.int .i64 0,.string ⟨#[]⟩,.int .i64 0] [_,_,_] zeroValue113 runUnderlying99 sizeOf113 (fun oU=>?_);refine bz 0 76 3 1 ?_;refine aL (i:=10) af ?_;refine bA (aU 0 [_,_,_,_]) [.slice none 0 0,.slice none 0 0,.slice none 0 0,.slice none 0 0] [_,_,_,_] zeroValue99 runUnderlying231 sizeOf99 (fun nc=>?_);refine bz 0 77 1 4 ?_;refine aL (i:=11) af ?_;refine bY call135 (eP ([[bf ⟨#[40]⟩],H[bB H l[i]],[aT ⟨#[73,83]⟩,aT ⟨#[78,85,76,76]⟩],[bf ⟨#[41]⟩]]) fy w5 w5) ?_;refine bR 12 rfl bg ?_;refine cg [(3,_),(6,_),(7,_),(8,_),(9,_),(10,_)] [⟨I,287,5,[_,_,_,_,_]⟩,_] ?_;refine bO af ?_;exact⟨rfl,trivial,Wk.refl _⟩
     refine bY call131 (jU [⟨#[73,83]⟩,⟨#[78,85,76,76]⟩] pT) ?_;refine dY (i:=1) (j:=8) af ?_ ?_
     ·refine bA (aU 0 [_]) [.int .i64 0,.string ⟨#[]⟩,.int .i64 0] [_,_,_] zeroValue113 runUnderlying99 sizeOf113 (fun oT=>?_);refine bz 0 68 3 1 ?_;refine aL (i:=8) af ?_;refine bY call136 (eN ⟨#[41]⟩) ?_;refine aL (i:=9) af ?_;refine bA (aU 0 [_]) [.int .i64 0,.string ⟨#[]⟩,.int .i64 0] [_,_,_] zeroValue113 runUnderlying99 sizeOf113 (fun oU=>?_);refine bz 0 76 3 1 ?_;refine aL (i:=10) af ?_;refine bA (aU 0 [_,_,_,_]) [.slice none 0 0,.slice none 0 0,.slice none 0 0,.slice none 0 0] [_,_,_,_] zeroValue99 runUnderlying231 sizeOf99 (fun nc=>?_);refine bz 0 77 1 4 ?_;refine aL (i:=11) af ?_;refine bY call135 (eP ([[bf ⟨#[40]⟩],H[bB H l[i]],[aT ⟨#[73,83]⟩,aT ⟨#[78,85,76,76]⟩],[bf ⟨#[41]⟩]]) fy w5 w5) ?_;refine bR 12 rfl bg ?_;refine cg [(3,_),(6,_),(7,_),(8,_),(9,_),(10,_)] [⟨I,287,5,[_,_,_,_,_]⟩,_] ?_;refine bO af ?_;exact⟨rfl,trivial,Wk.refl _⟩
     refine bY call136 (eN ⟨#[41]⟩) ?_;refine dY (i:=1) (j:=9) af ?_ ?_
     ·refine bA (aU 0 [_]) [.int .i64 0,.string ⟨#[]⟩,.int .i64 0] [_,_,_] zeroValue113 runUnderlying99 sizeOf113 (fun oT=>?_);refine bz 0 68 3 1 ?_;refine aL (i:=9) af ?_;refine bA (aU 0 [_]) [.int .i64 0,.string ⟨#[]⟩,.int .i64 0] [_,_,_] zeroValue113 runUnderlying99 sizeOf113 (fun oU=>?_);refine bz 0 76 3 1 ?_;refine aL (i:=10) af ?_;refine bA (aU 0 [_,_,_,_]) [.slice none 0 0,.slice none 0 0,.slice none 0 0,.slice none 0 0] [_,_,_,_] zeroValue99 runUnderlying231 sizeOf99 (fun nc=>?_);refine bz 0 77 1 4 ?_;refine aL (i:=11) af ?_;refine bY call135 (eP ([[bf ⟨#[40]⟩],H[bB H l[i]],[aT ⟨#[73,83]⟩,aT ⟨#[78,85,76,76]⟩],[bf ⟨#[41]⟩]]) fy w5 w5) ?_;refine bR 12 rfl bg ?_;refine cg [(3,_),(6,_),(7,_),(8,_),(9,_),(10,_)] [⟨I,287,5,[_,_,_,_,_]⟩,_] ?_;refine bO af ?_;exact⟨rfl,trivial,Wk.refl _⟩
     refine bA (aU 0 [_]) [.int .i64 0,.string ⟨#[]⟩,.int .i64 0] [_,_,_] zeroValue113 runUnderlying99 sizeOf113 (fun oU=>?_);refine bz 0 76 3 1 ?_;refine aL (i:=1) af ?_;refine bA (aU 0 [_]) [.int .i64 0,.string ⟨#[]⟩,.int .i64 0] [_,_,_] zeroValue113 runUnderlying99 sizeOf113 (fun oT=>?_);refine bz 0 68 3 1 ?_;refine aL (i:=10) af ?_;refine bA (aU 0 [_,_,_,_]) [.slice none 0 0,.slice none 0 0,.slice none 0 0,.slice none 0 0] [_,_,_,_] zeroValue99 runUnderlying231 sizeOf99 (fun nc=>?_);refine bz 0 77 1 4 ?_;refine aL (i:=11) af ?_;refine bY call135 (eP ([[bf ⟨#[40]⟩],H[bB H l[i]],[aT ⟨#[73,83]⟩,aT ⟨#[78,85,76,76]⟩],[bf ⟨#[41]⟩]]) fy w5 w5) ?_;refine bR 12 rfl bg ?_;refine cg [(3,_),(6,_),(7,_),(8,_),(9,_),(10,_)] [⟨I,287,5,[_,_,_,_,_]⟩,_] ?_;refine bO af ?_;exact⟨rfl,trivial,Wk.refl _⟩
    rintro _ _ ⟨rfl,_,Z⟩;refine⟨_,?_,[[bf ⟨#[40]⟩],H[bB H l[i]],[aT ⟨#[73,83]⟩,aT ⟨#[78,85,76,76]⟩],[bf ⟨#[41]⟩]].flatten,(some ⟨bh,0,none⟩),E,[⟨bh,99,E*1,H.flatMap cK⟩],(by unfold mF;rw[if_neg U,if_neg aX,if_neg bu,if_pos bQ,getD_at eA]),(cU q9 rf),rfl⟩;exact Z.trans (Wk.bI (n:=90) rfl eB dL)
   have bQ:=ck
   (try simp only[V.ai,ne_eq] at bQ)
   have Qz:¬l[i].k=1/\¬l[i].k=2/\¬l[i].k=5/\¬l[i].k=11:=⟨by simpa using aG,by simpa using bJ,by simpa using ct,by simpa using ck⟩
   have qf:fS l[i].k=2:=(by unfold fS;rw[if_neg w7,if_neg w7])
   have hg1:=(oe (h:=H) (n:=bB H l[i])).1;have hg2:=(oe (h:=H) (n:=bB H l[i])).2;have hg3:=rV H (bB H l[i]);have oz:0<H.length:=(by omega)
   obtain⟨bh,Y,q9,rf,qj⟩:=va rU oz;subst Y qj;have eA:bB H l[i]<H.length:=(by unfold bB;omega)
   have fD:bB H l[i]+1<H.length:=(by unfold bB;omega)
   rw[getD_at eA,getD_at fD] at hg2;rw[getD_at eA] at hg1;refine CD.mono (Q:=fun kN cn=>kN=Exit.normal/\(True)/\Wk cn (⟨90,[(3,az (some ⟨bh,0,none⟩) H.length E),(6,ag ((bB H l[i]):Nat)),(7,.list 3 (([[bf ⟨#[40]⟩],H[bB H l[i]],[gd l[i].k],H[bB H l[i]+1],[bf ⟨#[41]⟩]].flatten).flatMap cT) ([[bf ⟨#[40]⟩],H[bB H l[i]],[gd l[i].k],H[bB H l[i]+1],[bf ⟨#[41]⟩]].flatten).length),(8,av 5 cO l),(9,ag l.length),(10,ag (i:Nat))],[⟨I,287,5,cO l[i]⟩,⟨bh,99,E*1,H.flatMap cK⟩]⟩:St)) ?_ ?_
   ·refine ez (aq _) af (fun _ h=>h) ?_;refine aj 2 rfl bg ?_;refine aj 3 rfl bg ?_;refine aj 4 rfl (dW 1 (h:=zW)) ?_;first|refine aj 5 rfl (cm (mk:=Op.load 99) rfl ot Ad) ?_|refine aj 5 rfl (cm (mk:=Op.load 99) rfl ot Ac) ?_|refine aj 5 rfl (cm (mk:=Op.load 99) rfl ot Ab) ?_
    refine aj 6 rfl (aB 0) ?_;refine aj 7 rfl (aH 0) ?_;refine aj 10 rfl bg ?_;refine aj 11 rfl bg ?_;refine aj 12 rfl (eX (r:=.int .i64 ((((bB H l[i])+1:Nat)):Int)) rfl ot aN (lD (by rw[show(((bB H l[i]):Nat):Int)+1=(((bB H l[i])+1:Nat):Int) by omega];exact wrap_i64 w7 w7))) ?_;refine aj 13 rfl (dW 1 (h:=by first|exact .l (j:=((bB H l[i])+1)) rfl vX|exact .r (j:=((bB H l[i])+1)) rfl vX)) ?_;first|refine aj 14 rfl (cm (mk:=Op.load 99) rfl ot (by exact gp (k:=0) (i:=((bB H l[i])+1)) jS rfl rfl rfl isAgg99 fD rfl)) ?_|refine aj 14 rfl (cm (mk:=Op.load 99) rfl ot (by exact gp (k:=1) (i:=((bB H l[i])+1)) jS rfl rfl rfl isAgg99 fD rfl)) ?_|refine aj 14 rfl (cm (mk:=Op.load 99) rfl ot (by exact gp (k:=2) (i:=((bB H l[i])+1)) jS rfl rfl rfl isAgg99 fD rfl)) ?_
    refine bt.later rfl ?_;refine aL (i:=0) af ?_;refine bY call136 (eN ⟨#[40]⟩) ?_;refine dY (i:=1) (j:=8) af ?_ ?_
    ·refine bA (aU 0 [_]) [.int .i64 0,.string ⟨#[]⟩,.int .i64 0] [_,_,_] zeroValue113 runUnderlying99 sizeOf113 (fun nZ=>?_);refine bz 0 23 3 1 ?_;refine aL (i:=8) af ?_;refine bY call192 (BQ l[i].k w7) ?_;refine dY (i:=9) (j:=15) af ?_ ?_
     ·refine bA (aU 0 [_]) [.int .i64 0,.string ⟨#[]⟩,.int .i64 0] [_,_,_] zeroValue113 runUnderlying99 sizeOf113 (fun l8=>?_);refine bz 0 31 3 1 ?_;refine aL (i:=15) af ?_;refine bY call136 (eN ⟨#[41]⟩) ?_;refine aL (i:=16) af ?_;refine bA (aU 0 [_]) [.int .i64 0,.string ⟨#[]⟩,.int .i64 0] [_,_,_] zeroValue113 runUnderlying99 sizeOf113 (fun O=>?_);refine bz 0 38 3 1 ?_;refine aL (i:=17) af ?_;refine bA (aU 0 [_,_,_,_,_]) [.slice none 0 0,.slice none 0 0,.slice none 0 0,.slice none 0 0,.slice none 0 0] [_,_,_,_,_] zeroValue99 runUnderlying231 sizeOf99 (fun M=>?_);refine bz 0 39 1 5 ?_;refine aL (i:=18) af ?_;refine bY call135 (eP ([[bf ⟨#[40]⟩],H[bB H l[i]],[gd l[i].k],H[bB H l[i]+1],[bf ⟨#[41]⟩]]) fy w5 w5) ?_;refine bR 19 rfl bg ?_;refine cg [(3,_),(6,_),(7,_),(8,_),(9,_),(10,_)] [⟨I,287,5,[_,_,_,_,_]⟩,_] ?_;refine bO af ?_;exact⟨rfl,trivial,Wk.refl _⟩
     refine bY call136 (eN ⟨#[41]⟩) ?_;refine dY (i:=9) (j:=16) af ?_ ?_
     ·refine bA (aU 0 [_]) [.int .i64 0,.string ⟨#[]⟩,.int .i64 0] [_,_,_] zeroValue113 runUnderlying99 sizeOf113 (fun l8=>?_);refine bz 0 31 3 1 ?_;refine aL (i:=16) af ?_;refine bA (aU 0 [_]) [.int .i64 0,.string ⟨#[]⟩,.int .i64 0] [_,_,_] zeroValue113 runUnderlying99 sizeOf113 (fun O=>?_);refine bz 0 38 3 1 ?_;refine aL (i:=17) af ?_;refine bA (aU 0 [_,_,_,_,_]) [.slice none 0 0,.slice none 0 0,.slice none 0 0,.slice none 0 0,.slice none 0 0] [_,_,_,_,_] zeroValue99 runUnderlying231 sizeOf99 (fun M=>?_);refine bz 0 39 1 5 ?_;refine aL (i:=18) af ?_;refine bY call135 (eP ([[bf ⟨#[40]⟩],H[bB H l[i]],[gd l[i].k],H[bB H l[i]+1],[bf ⟨#[41]⟩]]) fy w5 w5) ?_;refine bR 19 rfl bg ?_;refine cg [(3,_),(6,_),(7,_),(8,_),(9,_),(10,_)] [⟨I,287,5,[_,_,_,_,_]⟩,_] ?_;refine bO af ?_;exact⟨rfl,trivial,Wk.refl _⟩
     refine bA (aU 0 [_]) [.int .i64 0,.string ⟨#[]⟩,.int .i64 0] [_,_,_] zeroValue113 runUnderlying99 sizeOf113 (fun O=>?_);refine bz 0 38 3 1 ?_;refine aL (i:=9) af ?_;refine bA (aU 0 [_]) [.int .i64 0,.string ⟨#[]⟩,.int .i64 0] [_,_,_] zeroValue113 runUnderlying99 sizeOf113 (fun l8=>?_);refine bz 0 31 3 1 ?_;refine aL (i:=17) af ?_;refine bA (aU 0 [_,_,_,_,_]) [.slice none 0 0,.slice none 0 0,.slice none 0 0,.slice none 0 0,.slice none 0 0] [_,_,_,_,_] zeroValue99 runUnderlying231 sizeOf99 (fun M=>?_);refine bz 0 39 1 5 ?_;refine aL (i:=18) af ?_;refine bY call135 (eP ([[bf ⟨#[40]⟩],H[bB H l[i]],[gd l[i].k],H[bB H l[i]+1],[bf ⟨#[41]⟩]]) fy w5 w5) ?_;refine bR 19 rfl bg ?_;refine cg [(3,_),(6,_),(7,_),(8,_),(9,_),(10,_)] [⟨I,287,5,[_,_,_,_,_]⟩,_] ?_;refine bO af ?_;exact⟨rfl,trivial,Wk.refl _⟩
    refine bY call192 (BQ l[i].k w7) ?_;refine xQ (i:=1) (j:=9) (k:=15) af ?_ ?_ ?_
    ·refine bA (aU 0 [_]) [.int .i64 0,.string ⟨#[]⟩,.int .i64 0] [_,_,_] zeroValue113 runUnderlying99 sizeOf113 (fun nZ=>?_);refine bz 0 23 3 1 ?_;refine dY (i:=9) (j:=15) af ?_ ?_
     ·refine bA (aU 0 [_]) [.int .i64 0,.string ⟨#[]⟩,.int .i64 0] [_,_,_] zeroValue113 runUnderlying99 sizeOf113 (fun l8=>?_);refine bz 0 31 3 1 ?_;refine aL (i:=15) af ?_;refine bY call136 (eN ⟨#[41]⟩) ?_;refine aL (i:=16) af ?_;refine bA (aU 0 [_]) [.int .i64 0,.string ⟨#[]⟩,.int .i64 0] [_,_,_] zeroValue113 runUnderlying99 sizeOf113 (fun O=>?_);refine bz 0 38 3 1 ?_;refine aL (i:=17) af ?_;refine bA (aU 0 [_,_,_,_,_]) [.slice none 0 0,.slice none 0 0,.slice none 0 0,.slice none 0 0,.slice none 0 0] [_,_,_,_,_] zeroValue99 runUnderlying231 sizeOf99 (fun M=>?_);refine bz 0 39 1 5 ?_;refine aL (i:=18) af ?_;refine bY call135 (eP ([[bf ⟨#[40]⟩],H[bB H l[i]],[gd l[i].k],H[bB H l[i]+1],[bf ⟨#[41]⟩]]) fy w5 w5) ?_;refine bR 19 rfl bg ?_;refine cg [(3,_),(6,_),(7,_),(8,_),(9,_),(10,_)] [⟨I,287,5,[_,_,_,_,_]⟩,_] ?_;refine bO af ?_;exact⟨rfl,trivial,Wk.refl _⟩
     refine bY call136 (eN ⟨#[41]⟩) ?_;refine dY (i:=9) (j:=16) af ?_ ?_
     ·refine bA (aU 0 [_]) [.int .i64 0,.string ⟨#[]⟩,.int .i64 0] [_,_,_] zeroValue113 runUnderlying99 sizeOf113 (fun l8=>?_);refine bz 0 31 3 1 ?_;refine aL (i:=16) af ?_;refine bA (aU 0 [_]) [.int .i64 0,.string ⟨#[]⟩,.int .i64 0] [_,_,_] zeroValue113 runUnderlying99 sizeOf113 (fun O=>?_);refine bz 0 38 3 1 ?_;refine aL (i:=17) af ?_;refine bA (aU 0 [_,_,_,_,_]) [.slice none 0 0,.slice none 0 0,.slice none 0 0,.slice none 0 0,.slice none 0 0] [_,_,_,_,_] zeroValue99 runUnderlying231 sizeOf99 (fun M=>?_);refine bz 0 39 1 5 ?_;refine aL (i:=18) af ?_;refine bY call135 (eP ([[bf ⟨#[40]⟩],H[bB H l[i]],[gd l[i].k],H[bB H l[i]+1],[bf ⟨#[41]⟩]]) fy w5 w5) ?_;refine bR 19 rfl bg ?_;refine cg [(3,_),(6,_),(7,_),(8,_),(9,_),(10,_)] [⟨I,287,5,[_,_,_,_,_]⟩,_] ?_;refine bO af ?_;exact⟨rfl,trivial,Wk.refl _⟩
     refine bA (aU 0 [_]) [.int .i64 0,.string ⟨#[]⟩,.int .i64 0] [_,_,_] zeroValue113 runUnderlying99 sizeOf113 (fun O=>?_);refine bz 0 38 3 1 ?_;refine aL (i:=9) af ?_;refine bA (aU 0 [_]) [.int .i64 0,.string ⟨#[]⟩,.int .i64 0] [_,_,_] zeroValue113 runUnderlying99 sizeOf113 (fun l8=>?_);refine bz 0 31 3 1 ?_;refine aL (i:=17) af ?_;refine bA (aU 0 [_,_,_,_,_]) [.slice none 0 0,.slice none 0 0,.slice none 0 0,.slice none 0 0,.slice none 0 0] [_,_,_,_,_] zeroValue99 runUnderlying231 sizeOf99 (fun M=>?_);refine bz 0 39 1 5 ?_;refine aL (i:=18) af ?_;refine bY call135 (eP ([[bf ⟨#[40]⟩],H[bB H l[i]],[gd l[i].k],H[bB H l[i]+1],[bf ⟨#[41]⟩]]) fy w5 w5) ?_;refine bR 19 rfl bg ?_;refine cg [(3,_),(6,_),(7,_),(8,_),(9,_),(10,_)] [⟨I,287,5,[_,_,_,_,_]⟩,_] ?_;refine bO af ?_;exact⟨rfl,trivial,Wk.refl _⟩
    ·refine bA (aU 0 [_]) [.int .i64 0,.string ⟨#[]⟩,.int .i64 0] [_,_,_] zeroValue113 runUnderlying99 sizeOf113 (fun l8=>?_);refine bz 0 31 3 1 ?_;refine dY (i:=1) (j:=15) af ?_ ?_
     ·refine bA (aU 0 [_]) [.int .i64 0,.string ⟨#[]⟩,.int .i64 0] [_,_,_] zeroValue113 runUnderlying99 sizeOf113 (fun nZ=>?_);refine bz 0 23 3 1 ?_;refine aL (i:=15) af ?_;refine bY call136 (eN ⟨#[41]⟩) ?_;refine aL (i:=16) af ?_;refine bA (aU 0 [_]) [.int .i64 0,.string ⟨#[]⟩,.int .i64 0] [_,_,_] zeroValue113 runUnderlying99 sizeOf113 (fun O=>?_);refine bz 0 38 3 1 ?_;refine aL (i:=17) af ?_;refine bA (aU 0 [_,_,_,_,_]) [.slice none 0 0,.slice none 0 0,.slice none 0 0,.slice none 0 0,.slice none 0 0] [_,_,_,_,_] zeroValue99 runUnderlying231 sizeOf99 (fun M=>?_);refine bz 0 39 1 5 ?_;refine aL (i:=18) af ?_;refine bY call135 (eP ([[bf ⟨#[40]⟩],H[bB H l[i]],[gd l[i].k],H[bB H l[i]+1],[bf ⟨#[41]⟩]]) fy w5 w5) ?_;refine bR 19 rfl bg ?_;refine cg [(3,_),(6,_),(7,_),(8,_),(9,_),(10,_)] [⟨I,287,5,[_,_,_,_,_]⟩,_] ?_;refine bO af ?_;exact⟨rfl,trivial,Wk.refl _⟩
     refine bY call136 (eN ⟨#[41]⟩) ?_;refine dY (i:=1) (j:=16) af ?_ ?_
     ·refine bA (aU 0 [_]) [.int .i64 0,.string ⟨#[]⟩,.int .i64 0] [_,_,_] zeroValue113 runUnderlying99 sizeOf113 (fun nZ=>?_);refine bz 0 23 3 1 ?_;refine aL (i:=16) af ?_;refine bA (aU 0 [_]) [.int .i64 0,.string ⟨#[]⟩,.int .i64 0] [_,_,_] zeroValue113 runUnderlying99 sizeOf113 (fun O=>?_);refine bz 0 38 3 1 ?_;refine aL (i:=17) af ?_;refine bA (aU 0 [_,_,_,_,_]) [.slice none 0 0,.slice none 0 0,.slice none 0 0,.slice none 0 0,.slice none 0 0] [_,_,_,_,_] zeroValue99 runUnderlying231 sizeOf99 (fun M=>?_);refine bz 0 39 1 5 ?_;refine aL (i:=18) af ?_;refine bY call135 (eP ([[bf ⟨#[40]⟩],H[bB H l[i]],[gd l[i].k],H[bB H l[i]+1],[bf ⟨#[41]⟩]]) fy w5 w5) ?_;refine bR 19 rfl bg ?_;refine cg [(3,_),(6,_),(7,_),(8,_),(9,_),(10,_)] [⟨I,287,5,[_,_,_,_,_]⟩,_] ?_;refine bO af ?_;exact⟨rfl,trivial,Wk.refl _⟩
     refine bA (aU 0 [_]) [.int .i64 0,.string ⟨#[]⟩,.int .i64 0] [_,_,_] zeroValue113 runUnderlying99 sizeOf113 (fun O=>?_);refine bz 0 38 3 1 ?_;refine aL (i:=1) af ?_;refine bA (aU 0 [_]) [.int .i64 0,.string ⟨#[]⟩,.int .i64 0] [_,_,_] zeroValue113 runUnderlying99 sizeOf113 (fun nZ=>?_);refine bz 0 23 3 1 ?_;refine aL (i:=17) af ?_;refine bA (aU 0 [_,_,_,_,_]) [.slice none 0 0,.slice none 0 0,.slice none 0 0,.slice none 0 0,.slice none 0 0] [_,_,_,_,_] zeroValue99 runUnderlying231 sizeOf99 (fun M=>?_);refine bz 0 39 1 5 ?_;refine aL (i:=18) af ?_;refine bY call135 (eP ([[bf ⟨#[40]⟩],H[bB H l[i]],[gd l[i].k],H[bB H l[i]+1],[bf ⟨#[41]⟩]]) fy w5 w5) ?_;refine bR 19 rfl bg ?_;refine cg [(3,_),(6,_),(7,_),(8,_),(9,_),(10,_)] [⟨I,287,5,[_,_,_,_,_]⟩,_] ?_;refine bO af ?_;exact⟨rfl,trivial,Wk.refl _⟩
    refine bY call136 (eN ⟨#[41]⟩) ?_;refine xQ (i:=1) (j:=9) (k:=16) af ?_ ?_ ?_
    ·refine bA (aU 0 [_]) [.int .i64 0,.string ⟨#[]⟩,.int .i64 0] [_,_,_] zeroValue113 runUnderlying99 sizeOf113 (fun nZ=>?_);refine bz 0 23 3 1 ?_;refine dY (i:=9) (j:=16) af ?_ ?_
     ·refine bA (aU 0 [_]) [.int .i64 0,.string ⟨#[]⟩,.int .i64 0] [_,_,_] zeroValue113 runUnderlying99 sizeOf113 (fun l8=>?_);refine bz 0 31 3 1 ?_;refine aL (i:=16) af ?_;refine bA (aU 0 [_]) [.int .i64 0,.string ⟨#[]⟩,.int .i64 0] [_,_,_] zeroValue113 runUnderlying99 sizeOf113 (fun O=>?_);refine bz 0 38 3 1 ?_;refine aL (i:=17) af ?_;refine bA (aU 0 [_,_,_,_,_]) [.slice none 0 0,.slice none 0 0,.slice none 0 0,.slice none 0 0,.slice none 0 0] [_,_,_,_,_] zeroValue99 runUnderlying231 sizeOf99 (fun M=>?_);refine bz 0 39 1 5 ?_;refine aL (i:=18) af ?_;refine bY call135 (eP ([[bf ⟨#[40]⟩],H[bB H l[i]],[gd l[i].k],H[bB H l[i]+1],[bf ⟨#[41]⟩]]) fy w5 w5) ?_;refine bR 19 rfl bg ?_;refine cg [(3,_),(6,_),(7,_),(8,_),(9,_),(10,_)] [⟨I,287,5,[_,_,_,_,_]⟩,_] ?_;refine bO af ?_;exact⟨rfl,trivial,Wk.refl _⟩
     refine bA (aU 0 [_]) [.int .i64 0,.string ⟨#[]⟩,.int .i64 0] [_,_,_] zeroValue113 runUnderlying99 sizeOf113 (fun O=>?_);refine bz 0 38 3 1 ?_;refine aL (i:=9) af ?_;refine bA (aU 0 [_]) [.int .i64 0,.string ⟨#[]⟩,.int .i64 0] [_,_,_] zeroValue113 runUnderlying99 sizeOf113 (fun l8=>?_);refine bz 0 31 3 1 ?_;refine aL (i:=17) af ?_;refine bA (aU 0 [_,_,_,_,_]) [.slice none 0 0,.slice none 0 0,.slice none 0 0,.slice none 0 0,.slice none 0 0] [_,_,_,_,_] zeroValue99 runUnderlying231 sizeOf99 (fun M=>?_);refine bz 0 39 1 5 ?_;refine aL (i:=18) af ?_;refine bY call135 (eP ([[bf ⟨#[40]⟩],H[bB H l[i]],[gd l[i].k],H[bB H l[i]+1],[bf ⟨#[41]⟩]]) fy w5 w5) ?_;refine bR 19 rfl bg ?_;refine cg [(3,_),(6,_),(7,_),(8,_),(9,_),(10,_)] [⟨I,287,5,[_,_,_,_,_]⟩,_] ?_;refine bO af ?_;exact⟨rfl,trivial,Wk.refl _⟩
    ·refine bA (aU 0 [_]) [.int .i64 0,.string ⟨#[]⟩,.int .i64 0] [_,_,_] zeroValue113 runUnderlying99 sizeOf113 (fun l8=>?_);refine bz 0 31 3 1 ?_;refine dY (i:=1) (j:=16) af ?_ ?_
     ·refine bA (aU 0 [_]) [.int .i64 0,.string ⟨#[]⟩,.int .i64 0] [_,_,_] zeroValue113 runUnderlying99 sizeOf113 (fun nZ=>?_);refine bz 0 23 3 1 ?_;refine aL (i:=16) af ?_;refine bA (aU 0 [_]) [.int .i64 0,.string ⟨#[]⟩,.int .i64 0] [_,_,_] zeroValue113 runUnderlying99 sizeOf113 (fun O=>?_);refine bz 0 38 3 1 ?_;refine aL (i:=17) af ?_;refine bA (aU 0 [_,_,_,_,_]) [.slice none 0 0,.slice none 0 0,.slice none 0 0,.slice none 0 0,.slice none 0 0] [_,_,_,_,_] zeroValue99 runUnderlying231 sizeOf99 (fun M=>?_);refine bz 0 39 1 5 ?_;refine aL (i:=18) af ?_;refine bY call135 (eP ([[bf ⟨#[40]⟩],H[bB H l[i]],[gd l[i].k],H[bB H l[i]+1],[bf ⟨#[41]⟩]]) fy w5 w5) ?_;refine bR 19 rfl bg ?_;refine cg [(3,_),(6,_),(7,_),(8,_),(9,_),(10,_)] [⟨I,287,5,[_,_,_,_,_]⟩,_] ?_;refine bO af ?_;exact⟨rfl,trivial,Wk.refl _⟩
     refine bA (aU 0 [_]) [.int .i64 0,.string ⟨#[]⟩,.int .i64 0] [_,_,_] zeroValue113 runUnderlying99 sizeOf113 (fun O=>?_);refine bz 0 38 3 1 ?_;refine aL (i:=1) af ?_;refine bA (aU 0 [_]) [.int .i64 0,.string ⟨#[]⟩,.int .i64 0] [_,_,_] zeroValue113 runUnderlying99 sizeOf113 (fun nZ=>?_);refine bz 0 23 3 1 ?_;refine aL (i:=17) af ?_;refine bA (aU 0 [_,_,_,_,_]) [.slice none 0 0,.slice none 0 0,.slice none 0 0,.slice none 0 0,.slice none 0 0] [_,_,_,_,_] zeroValue99 runUnderlying231 sizeOf99 (fun M=>?_);refine bz 0 39 1 5 ?_;refine aL (i:=18) af ?_;refine bY call135 (eP ([[bf ⟨#[40]⟩],H[bB H l[i]],[gd l[i].k],H[bB H l[i]+1],[bf ⟨#[41]⟩]]) fy w5 w5) ?_;refine bR 19 rfl bg ?_;refine cg [(3,_),(6,_),(7,_),(8,_),(9,_),(10,_)] [⟨I,287,5,[_,_,_,_,_]⟩,_] ?_;refine bO af ?_;exact⟨rfl,trivial,Wk.refl _⟩
    refine bA (aU 0 [_]) [.int .i64 0,.string ⟨#[]⟩,.int .i64 0] [_,_,_] zeroValue113 runUnderlying99 sizeOf113 (fun O=>?_);refine bz 0 38 3 1 ?_;refine dY (i:=1) (j:=9) af ?_ ?_
    ·refine bA (aU 0 [_]) [.int .i64 0,.string ⟨#[]⟩,.int .i64 0] [_,_,_] zeroValue113 runUnderlying99 sizeOf113 (fun nZ=>?_);refine bz 0 23 3 1 ?_;refine aL (i:=9) af ?_;refine bA (aU 0 [_]) [.int .i64 0,.string ⟨#[]⟩,.int .i64 0] [_,_,_] zeroValue113 runUnderlying99 sizeOf113 (fun l8=>?_);refine bz 0 31 3 1 ?_;refine aL (i:=17) af ?_;refine bA (aU 0 [_,_,_,_,_]) [.slice none 0 0,.slice none 0 0,.slice none 0 0,.slice none 0 0,.slice none 0 0] [_,_,_,_,_] zeroValue99 runUnderlying231 sizeOf99 (fun M=>?_);refine bz 0 39 1 5 ?_;refine aL (i:=18) af ?_;refine bY call135 (eP ([[bf ⟨#[40]⟩],H[bB H l[i]],[gd l[i].k],H[bB H l[i]+1],[bf ⟨#[41]⟩]]) fy w5 w5) ?_;refine bR 19 rfl bg ?_;refine cg [(3,_),(6,_),(7,_),(8,_),(9,_),(10,_)] [⟨I,287,5,[_,_,_,_,_]⟩,_] ?_;refine bO af ?_;exact⟨rfl,trivial,Wk.refl _⟩
    refine bA (aU 0 [_]) [.int .i64 0,.string ⟨#[]⟩,.int .i64 0] [_,_,_] zeroValue113 runUnderlying99 sizeOf113 (fun l8=>?_);refine bz 0 31 3 1 ?_;refine aL (i:=1) af ?_;refine bA (aU 0 [_]) [.int .i64 0,.string ⟨#[]⟩,.int .i64 0] [_,_,_] zeroValue113 runUnderlying99 sizeOf113 (fun nZ=>?_);refine bz 0 23 3 1 ?_;refine aL (i:=17) af ?_;refine bA (aU 0 [_,_,_,_,_]) [.slice none 0 0,.slice none 0 0,.slice none 0 0,.slice none 0 0,.slice none 0 0] [_,_,_,_,_] zeroValue99 runUnderlying231 sizeOf99 (fun M=>?_);refine bz 0 39 1 5 ?_;refine aL (i:=18) af ?_;refine bY call135 (eP ([[bf ⟨#[40]⟩],H[bB H l[i]],[gd l[i].k],H[bB H l[i]+1],[bf ⟨#[41]⟩]]) fy w5 w5) ?_;refine bR 19 rfl bg ?_;refine cg [(3,_),(6,_),(7,_),(8,_),(9,_),(10,_)] [⟨I,287,5,[_,_,_,_,_]⟩,_] ?_;refine bO af ?_;exact⟨rfl,trivial,Wk.refl _⟩
   rintro _ _ ⟨rfl,_,Z⟩;refine⟨_,?_,[[bf ⟨#[40]⟩],H[bB H l[i]],[gd l[i].k],H[bB H l[i]+1],[bf ⟨#[41]⟩]].flatten,(some ⟨bh,0,none⟩),E,[⟨bh,99,E*1,H.flatMap cK⟩],(by unfold mF;rw[if_neg U,if_neg aX,if_neg bu,if_neg bQ,getD_at eA,getD_at fD]),(cU q9 rf),rfl⟩;exact Z.trans (Wk.bI (n:=90) rfl eB dL)
  rintro _ ⟨Tx,ad,cp,Sx,hT,jk,rfl⟩;have QA:=C4 l[i] (H.getD (bB H l[i]) []) (H.getD (bB H l[i]+1) []);refine aV ?_;refine aa ?_;refine aa ?_;refine aa ?_;refine ae (Gh jk rfl ot ot ot runUnderlying231 sizeOf99 (by unfold bB;omega)) ?_;refine aa ?_;refine dM (aU 0 [_]) [.slice none 0 0] [_] zeroValue99 runUnderlying231 sizeOf99 (fun QB=>?_);refine fB 0 84 1 1 ?_;refine Gi (ls:=H) (new:=[Tx]) (n:=bB H l[i]) (Sq:=Sx) jS yF ay rfl rfl underlying231 G9 rfl cc ot jk (cy (A:=[])) (by unfold bB;omega) ot cq (by simp only[maxLen,length_cons,length_nil];omega) (by simp only[length_cons,length_nil];omega) (fun wS vI Mx My=>?_);refine aW (dj (S1:=[⟨wS,99,vI*1,flatMap cK (H.take (bB H l[i])++[Tx])⟩]) (A:=[])) ?_;refine aa ?_;refine bc (Wk.aR (n:=90) (l':=[(3,_),(8,_),(9,_),(10,_)]) (S':=([⟨wS,99,vI*1,flatMap cK (H.take (bB H l[i])++[Tx])⟩])) rfl rfl bj) ?_;refine bi ?_;refine aV ?_;refine ae aE ?_;refine aa ?_;refine au [3,8,9,10] ?_;refine⟨((i+1),(jt H l[i]),(some ⟨wS,0,none⟩),vI,[⟨wS,99,vI*1,flatMap cK (H.take (bB H l[i])++[Tx])⟩]),_,?_,?_,w7,(by rw[hH,<-HE aD]),(by rw[Cr FN,<-Cl aD rL];exact hx),(by have:=Cr FN;omega),(by have:=B4 (h:=H) (o:=l[i]);omega),(bV.cast (cU Mx My) (by rw[hT];rfl)),rfl⟩
  ·first|omega|(simp only[];omega)
  exact Wk.bI (n:=90) rfl cG Et
 have dJ:=aA
 (try simp only[V.ai,ne_eq] at dJ)
 have lS:l.length<=i:=(by simp at aA;omega)
 have iu:=hx;rw[B1 lS] at iu;have QC:H.length=1:=(by (split at iu;omega;cases iu))
 refine ep ?_;refine aC ?_;obtain⟨bh,Y,q9,rf,qj⟩:=va rU (show 0<H.length by omega);subst Y qj;have eA:0<H.length:=(by omega)
 refine aV ?_;refine aa ?_;refine ae (kj (mk:=Op.indexAddr 231) rfl ot aN (by first|exact sr runUnderlying231 sizeOf99 (j:=0) rfl vX|exact Db runUnderlying231 sizeOf99 (j:=0) rfl vX)) ?_;first|refine ae (cm (mk:=Op.load 99) rfl ot (by exact gp (k:=0) (i:=0) jS rfl rfl rfl isAgg99 eA rfl)) ?_|refine gE ay rfl (cm (mk:=Op.load 99) rfl ot (by exact gp (k:=1) (i:=0) jS rfl rfl rfl isAgg99 eA rfl)) ?_|refine gE ay rfl (cm (mk:=Op.load 99) rfl ot (by exact gp (k:=2) (i:=0) jS rfl rfl rfl isAgg99 eA rfl)) ?_
 refine aa ?_;refine aK [(2,_)] [_] ?_;refine aI ?_;refine⟨.inr rfl,en results137 ?_⟩;refine⟨?_,rfl⟩;unfold kz;rw[show l.foldl jt []=H by rw[hH,take_of_length_le lS],getD_at eA]
def gP{α:Type}(f:α->Int):List α->Int
 | []=>0
 | a::r=>if f a≠0 then f a else gP f r
theorem Cs{f:α->Int}{l:List α}(hi:i<l.length)(h:f l[i]≠0):gP f (l.drop i)=f l[i]:=by rw[drop_eq_getElem_cons hi,gP,if_pos h]
theorem Ct{f:α->Int}{l:List α}(hi:i<l.length)(h:f l[i]=0):gP f (l.drop i)=gP f (l.drop (i+1)):=by rw[drop_eq_getElem_cons hi,gP,if_neg (by rw[h];decide)]
theorem B5{f:α->Int}{l:List α}(hi:l.length<=i):gP f (l.drop i)=0:=by rw[drop_of_length_le hi];rfl
def oA(l:List Vl):Int:=if l.length<1\/l.length>6 then 1 else gP iv l
def lI(l:List aZ):Int:=if l.length=0 then 0 else kx l
def fK(s:dh):Int :=
 if s.names.length>6 then 1 else if s.eY < -1 then 3
 else if (s.count=true/\0<s.names.length)\/(s.down=true/\cM s.order ⟨#[]⟩=true) then 6
 else if gP dA s.names≠0 then gP dA s.names else if lI s.bG≠0 then lI s.bG else if cM s.order ⟨#[]⟩=true then 0 else dA s.order
def ju(s h:dh):Bool:=cM s.table h.table&&(((s.cF.length:Int)==(h.cF.length:Int))&&(((s.row.length:Int)==(h.row.length:Int))&&(((s.names.length:Int)==(h.names.length:Int))&&((s.count==h.count)&&(((s.bG.length:Int)==(h.bG.length:Int))&&(cM s.order h.order&&((s.down==h.down)&&((s.eY==h.eY)&&(cM s.set h.set&&((s.dI.length:Int)==(h.dI.length:Int)))))))))))
structure pP (s:dh):Prop where
 ok:uh s
 t:s.table.size<=maxLen
 c:∀c∈s.cF,c.n.size<=maxLen
 n:∀x∈s.names,x.size<=maxLen
 o:s.order.size<=maxLen
 e:s.set.size<=maxLen
 r:∀v∈s.row,-9223372036854775808<=v.n/\v.n<=9223372036854775807
 w:∀o∈s.bG,o.nm.size<=maxLen/\-9223372036854775808<=o.v.n/\o.v.n<=9223372036854775807
 x:∀o∈s.dI,o.nm.size<=maxLen/\-9223372036854775808<=o.v.n/\o.v.n<=9223372036854775807
def fp(l:List aZ):List Tk:=if l.length=0 then [] else [⟨#[87,72,69,82,69]⟩].map aT++kz l
theorem uV(hm:(1,marksC)∈G)(hw:(0,wordsC)∈G)(l:List ByteArray)(hl:l.length<=1000)(hs:∀s∈l,s.size<=maxLen):VP Tryz.prog G 188 [av 1 cS l] (ag (gP dA l)):=by
 refine cf func188 rfl ntmps188 aF fun Y w0 U=>?_;refine ah ?_;refine aa ?_;refine au [0] ?_;refine aC ?_;refine ah ?_;refine aa ?_;refine ae cZ ?_;refine aa ?_;refine au [6,7,8] ?_;refine bZ ?_;refine fa (fun (i:Nat) O=>(i<=l.length)/\(gP dA l=gP dA (l.drop i))/\O=(⟨18,[(6,av 1 cS l),(7,ag (l.length:Nat)),(8,ag (i:Nat))],[]⟩:St)) (fun (i:Nat)=>l.length-i) 0 ⟨(Nat.zero_le _),rfl,rfl⟩ (Wk.bI rfl eB dL) ?_;rintro i _ ⟨hi,hx,rfl⟩;refine ah ?_;refine ae aE ?_;refine au [6,7,8,9] ?_;refine aC ?_;refine aM ot (fun aA=>?_) (fun aA=>?_)
 ·have E:=aA
  (try simp only[V.ai,ne_eq] at E)
  have aD:i<l.length:=(by simp at aA;omega)
  refine aS ?_;refine aC ?_;refine bZ ?_;refine ah ?_;refine ae (dW 1 (h:=oD)) ?_;refine ae fE ?_;refine aa ?_;refine au [4,6,7,8] ?_;refine ah ?_;refine aa ?_;refine bU call22 (mj hm hw l[i] (hs _ (getElem_mem aD))) ?_;refine aa ?_;refine aK [(5,_),(6,_),(7,_),(8,_)] [] ?_;refine ah ?_;refine aa ?_;refine ae aE ?_;refine au [5,6,7,8,15] ?_;refine aM ot (fun aG=>?_) (fun aG=>?_)
  ·have I:=aG
   (try simp only[V.ai,ne_eq] at I)
   have hn:dA l[i]≠0:=(by simpa using aG)
   have M:=hx.trans (Cs aD hn);refine ah ?_;refine aa ?_;refine aa ?_;refine au [2] ?_;refine aI ?_;refine bl ?_;rw[M];exact⟨rfl,rfl⟩
  have I:=aG
  (try simp only[V.ai,ne_eq] at I)
  have h0:dA l[i]=0:=(by simpa using aG)
  refine aS ?_;refine aV ?_;refine ae aE ?_;refine aa ?_;refine au [6,7,8] ?_;refine⟨(i+1),_,?_,?_,w7,(hx.trans (Ct aD h0)),rfl⟩
  ·first|omega|(simp only[];omega)
  exact Wk.bI (n:=18) rfl eB dL
 have E:=aA
 (try simp only[V.ai,ne_eq] at E)
 have M:gP dA l=0:=hx.trans (B5 oG);refine ep ?_;refine ah ?_;refine aa ?_;refine au [2] ?_;refine aI ?_;refine bl ?_;rw[M];exact⟨rfl,rfl⟩
theorem Jo(l:List Vl)(hl:l.length<=1000):VP Tryz.prog G 126 [av 3 cV l] (ag (oA l)):=by
 refine cf func126 rfl ntmps126 aF fun X0 w0 dm=>?_;have N4:(l.length<1\/l.length>6)\/¬(l.length<1\/l.length>6):=(by omega)
 refine ah ?_;refine aa ?_;refine au [0] ?_;refine aC ?_;refine ah ?_;refine aa ?_;refine ae cZ ?_;refine ae aE ?_;refine aa ?_;refine dN (t:=9) lk (fun hg9=>?_) (fun hg9=>?_)
 ·have I:=hg9;(try simp only[V.ai,ne_eq] at I)
  refine an ?_;refine an ?_;refine an ?_;refine ae cW ?_;refine au [0,13] ?_;refine fe ot w6 ?_;have E:oA l=1:=if_pos w7;refine ah ?_;refine aa ?_;refine au [2] ?_;refine aI ?_;refine bl ?_;rw[E];exact⟨rfl,rfl⟩
 have I:=hg9;(try simp only[V.ai,ne_eq] at I)
 refine aa ?_;refine ae cZ ?_;refine ae aE ?_;refine ae bC ?_;refine au [0,13] ?_;refine aM ot (fun aA=>?_) (fun aA=>?_)
 ·have M:=aA
  (try simp only[V.ai,ne_eq] at M)
  have E:oA l=1:=if_pos w7;refine ah ?_;refine aa ?_;refine au [2] ?_;refine aI ?_;refine bl ?_;rw[E];exact⟨rfl,rfl⟩
 have M:=aA
 (try simp only[V.ai,ne_eq] at M)
 have hf:oA l=gP iv l:=if_neg w7;refine aS ?_;refine aC ?_;refine ah ?_;refine aa ?_;refine ae cZ ?_;refine aa ?_;refine au [14,15,16] ?_;refine bZ ?_;refine fa (fun (i:Nat) Y=>(i<=l.length)/\(gP iv l=gP iv (l.drop i))/\Y=(⟨26,[(14,av 3 cV l),(15,ag (l.length:Nat)),(16,ag (i:Nat))],[]⟩:St)) (fun (i:Nat)=>l.length-i) 0 ⟨(Nat.zero_le _),rfl,rfl⟩ (Wk.bI rfl eB dL) ?_;rintro i _ ⟨hi,hx,rfl⟩;refine ah ?_;refine ae aE ?_;refine au [14,15,16,17] ?_;refine aC ?_;refine aM ot (fun aG=>?_) (fun aG=>?_)
 ·have O:=aG
  (try simp only[V.ai,ne_eq] at O)
  have aD:i<l.length:=(by simp at aG;omega)
  refine aS ?_;refine aC ?_;refine bZ ?_;refine ah ?_;refine ae (dW 3 (h:=oD)) ?_;refine ae (we [_,_,_]) ?_;refine eo (ds:=[_,_,_]) ay rfl rfl zeroValue127 rfl (fun Z=>?_);refine bn 0 [_,_,_] sizeOf127 ?_;refine aK [(4,_),(14,_),(15,_),(16,_)] [⟨Z,127,3,[_,_,_]⟩] ?_;refine ah ?_;refine ae (fw 0 [_,_,_]) ?_;refine bU call187 (Nm.BM l[i]) ?_;refine aa ?_;refine aK [(5,_),(14,_),(15,_),(16,_)] [⟨Z,127,3,[_,_,_]⟩] ?_;refine ah ?_;refine aa ?_;refine ae aE ?_;refine au [5,14,15,16,23] ?_;refine aM ot (fun U=>?_) (fun U=>?_)
  ·have aX:=U
   (try simp only[V.ai,ne_eq] at aX)
   have hn:iv l[i]≠0:=(by simpa using U)
   have E:=hf.trans (hx.trans (Cs aD hn));refine ah ?_;refine aa ?_;refine aa ?_;refine au [2] ?_;refine aI ?_;refine bl ?_;rw[E];exact⟨rfl,rfl⟩
  have aX:=U
  (try simp only[V.ai,ne_eq] at aX)
  have h0:iv l[i]=0:=(by simpa using U)
  refine aS ?_;refine aV ?_;refine ae aE ?_;refine aa ?_;refine au [14,15,16] ?_;refine⟨(i+1),_,?_,?_,w7,(hx.trans (Ct aD h0)),rfl⟩
  ·first|omega|(simp only[];omega)
  exact Wk.bI (n:=26) rfl eB dL
 have O:=aG
 (try simp only[V.ai,ne_eq] at O)
 have E:oA l=0:=hf.trans (hx.trans (B5 rA));refine ep ?_;refine ah ?_;refine aa ?_;refine au [2] ?_;refine aI ?_;refine bl ?_;rw[E];exact⟨rfl,rfl⟩
theorem qv(hm:(1,marksC)∈G)(hw:(0,wordsC)∈G)(l:List aZ)(hs:∀o∈l,o.nm.size<=maxLen):VP Tryz.prog G 129 [av 5 cO l] (ag (lI l)):=by
 refine cf func129 rfl ntmps129 aF fun O w0 M=>?_;refine ah ?_;refine aa ?_;refine au [0] ?_;refine aC ?_;refine ah ?_;refine aa ?_;refine ae cZ ?_;refine ae aE ?_;refine au [0,5] ?_;refine aM ot (fun aA=>?_) (fun aA=>?_)
 ·have E:=aA
  (try simp only[V.ai,ne_eq] at E)
  have I:lI l=0:=if_pos oG;refine ah ?_;refine aa ?_;refine au [2] ?_;refine aI ?_;refine bl ?_;rw[I];exact⟨rfl,rfl⟩
 have E:=aA
 (try simp only[V.ai,ne_eq] at E)
 have I:lI l=kx l:=if_neg oG;refine aS ?_;refine ah ?_;refine aa ?_;refine bU call128 (CZ hm hw l hs) ?_;refine aa ?_;refine aK [(2,_)] [] ?_;refine aI ?_;refine⟨.inr rfl,en results129 ?_⟩;rw[I];exact⟨rfl,rfl⟩
theorem Iv(hm:(1,marksC)∈G)(hw:(0,wordsC)∈G)(s:dh)(hf:pP s):VP Tryz.prog G 127 [.agg (fG s)] (ag (fK s)):=by
 refine cf func127 rfl ntmps127 aF fun X0 w0 dm=>?_;unfold fG;refine ah ?_;refine fI (ds:=[_,_,_,_,_,_,_,_,_,_,_,_]) ay rfl rfl ot rfl rfl (fun b1=>?_);refine aa ?_;refine aK [(1,_)] [⟨b1,70,12,[_,_,_,_,_,_,_,_,_,_,_,_]⟩] ?_;refine aC ?_;refine bZ ?_;refine ah ?_;refine ae (aB 4) ?_;refine ae (aH 0) ?_;refine ae cZ ?_;refine ae aE ?_;refine aa ?_;refine au [1,5] ?_;refine aM ot (fun aA=>?_) (fun aA=>?_)
 ·have dJ:=aA
  (try simp only[V.ai,ne_eq] at dJ)
  refine ah ?_;refine aa ?_;refine au [2] ?_;refine aI ?_;refine bl ?_;refine⟨vi ?_,rfl⟩;unfold fK cM;simp_all;all_goals (try (intros;(repeat' split)<;>first|rfl|omega))
 have dJ:=aA
 (try simp only[V.ai,ne_eq] at dJ)
 refine ah ?_;refine ae (aB 9) ?_;refine ae (aH 0) ?_;refine ae aE ?_;refine aa ?_;refine au [1,10] ?_;refine aM ot (fun aG=>?_) (fun aG=>?_)
 ·have cA:=aG
  (try simp only[V.ai,ne_eq] at cA)
  refine ah ?_;refine aa ?_;refine au [2] ?_;refine aI ?_;refine bl ?_;refine⟨vi ?_,rfl⟩;unfold fK cM;simp_all;all_goals (try (intros;(repeat' split)<;>first|rfl|omega))
 have cA:=aG
 (try simp only[V.ai,ne_eq] at cA)
 refine ah ?_;refine ae (aB 5) ?_;refine ae (aH 0) ?_;refine aa ?_;refine dN (t:=17) lk (fun fu=>?_) (fun fu=>?_)
 ·have Y:=fu;(try simp only[V.ai,ne_eq] at Y)
  refine ae (aB 4) ?_;refine ae (aH 0) ?_;refine ae cZ ?_;refine ae aE ?_;refine ae cW ?_;refine aa ?_;refine dN (t:=23) lk (fun pJ=>?_) (fun pJ=>?_)
  ·have Z:=pJ;(try simp only[V.ai,ne_eq] at Z)
   refine an ?_;refine an ?_;refine an ?_;refine oI ?_;refine oI ?_;refine oI ?_;refine an ?_;refine ae cW ?_;refine aa ?_;refine au [1,14] ?_;refine fe ot w6 ?_;refine ah ?_;refine aa ?_;refine au [2] ?_;refine aI ?_;refine bl ?_;refine⟨vi ?_,rfl⟩;unfold fK cM;simp_all;all_goals (try (intros;(repeat' split)<;>first|rfl|omega))
  have Z:=pJ;(try simp only[V.ai,ne_eq] at Z)
  refine ae (aB 8) ?_;refine ae (aH 0) ?_;refine aa ?_;refine dN (t:=26) lk (fun U=>?_) (fun U=>?_)
  ·have E:=U;(try simp only[V.ai,ne_eq] at E)
   refine ae (aB 7) ?_;refine ae (aH 0) ?_;refine ae aE ?_;refine ae cW ?_;refine ae bC ?_;refine aa ?_;refine au [1,14] ?_;refine aM ot (fun bJ=>?_) (fun bJ=>?_)
   ·have aX:=bJ
    (try simp only[V.ai,ne_eq] at aX)
    refine ah ?_;refine aa ?_;refine au [2] ?_;refine aI ?_;refine bl ?_;refine⟨vi ?_,rfl⟩;unfold fK cM;simp_all;all_goals (try (intros;(repeat' split)<;>first|rfl|omega))
   have aX:=bJ
   (try simp only[V.ai,ne_eq] at aX)
   refine aS ?_;refine aC ?_;refine ah ?_;refine ae (aB 4) ?_;refine ae (aH 0) ?_;refine bU call188 (uV hm hw s.names vZ hf.n) ?_;refine aa ?_;refine aK [(1,_),(3,_)] [⟨b1,70,12,[_,_,_,_,_,_,_,_,_,_,_,_]⟩] ?_;refine ah ?_;refine aa ?_;refine ae aE ?_;refine au [1,3,36] ?_;refine aM ot (fun I=>?_) (fun I=>?_)
   ·have bu:=I
    (try simp only[V.ai,ne_eq] at bu)
    refine ah ?_;refine aa ?_;refine aa ?_;refine au [2] ?_;refine aI ?_;refine bl ?_;refine⟨vi ?_,rfl⟩;unfold fK cM;simp_all;all_goals (try (intros;(repeat' split)<;>first|rfl|omega))
   have bu:=I
   (try simp only[V.ai,ne_eq] at bu)
   refine aS ?_;refine aC ?_;refine ah ?_;refine ae (aB 6) ?_;refine ae (aH 0) ?_;refine bU call129 (qv hm hw s.bG (fun o h=>(hf.w o h).1)) ?_;refine aa ?_;refine aK [(1,_),(4,_)] [⟨b1,70,12,[_,_,_,_,_,_,_,_,_,_,_,_]⟩] ?_;refine ah ?_;refine aa ?_;refine ae aE ?_;refine au [1,4,42] ?_;refine aM ot (fun M=>?_) (fun M=>?_)
   ·have bQ:=M
    (try simp only[V.ai,ne_eq] at bQ)
    refine ah ?_;refine aa ?_;refine aa ?_;refine au [2] ?_;refine aI ?_;refine bl ?_;refine⟨vi ?_,rfl⟩;unfold fK cM;simp_all;all_goals (try (intros;(repeat' split)<;>first|rfl|omega))
   have bQ:=M
   (try simp only[V.ai,ne_eq] at bQ)
   refine aS ?_;refine aC ?_;refine ah ?_;refine ae (aB 7) ?_;refine ae (aH 0) ?_;refine ae aE ?_;refine au [1,46] ?_;refine aM ot (fun O=>?_) (fun O=>?_)
   ·have bE:=O
    (try simp only[V.ai,ne_eq] at bE)
    refine ah ?_;refine ae (aB 7) ?_;refine ae (aH 0) ?_;refine bU call22 (mj hm hw s.order hf.o) ?_;refine aa ?_;refine aK [(2,_)] [⟨b1,70,12,[_,_,_,_,_,_,_,_,_,_,_,_]⟩] ?_;refine aI ?_;refine⟨.inr rfl,en results127 ?_⟩;refine⟨vi ?_,rfl⟩;unfold fK cM;simp_all;all_goals (try (intros;(repeat' split)<;>first|rfl|omega))
   have bE:=O
   (try simp only[V.ai,ne_eq] at bE)
   refine aS ?_;refine ah ?_;refine aa ?_;refine au [2] ?_;refine aI ?_;refine bl ?_;refine⟨vi ?_,rfl⟩;unfold fK cM;simp_all;all_goals (try (intros;(repeat' split)<;>first|rfl|omega))
  have E:=U;(try simp only[V.ai,ne_eq] at E)
  refine an ?_;refine an ?_;refine an ?_;refine ae bC ?_;refine ae bC ?_;refine aa ?_;refine au [1,14] ?_;refine iG ot w6 ?_;refine aS ?_;refine aC ?_;refine ah ?_;refine ae (aB 4) ?_;refine ae (aH 0) ?_;refine bU call188 (uV hm hw s.names vZ hf.n) ?_;refine aa ?_;refine aK [(1,_),(3,_)] [⟨b1,70,12,[_,_,_,_,_,_,_,_,_,_,_,_]⟩] ?_;refine ah ?_;refine aa ?_;refine ae aE ?_;refine au [1,3,36] ?_;refine aM ot (fun I=>?_) (fun I=>?_)
  ·have bu:=I
   (try simp only[V.ai,ne_eq] at bu)
   refine ah ?_;refine aa ?_;refine aa ?_;refine au [2] ?_;refine aI ?_;refine bl ?_;refine⟨vi ?_,rfl⟩;unfold fK cM;simp_all;all_goals (try (intros;(repeat' split)<;>first|rfl|omega))
  have bu:=I
  (try simp only[V.ai,ne_eq] at bu)
  refine aS ?_;refine aC ?_;refine ah ?_;refine ae (aB 6) ?_;refine ae (aH 0) ?_;refine bU call129 (qv hm hw s.bG (fun o h=>(hf.w o h).1)) ?_;refine aa ?_;refine aK [(1,_),(4,_)] [⟨b1,70,12,[_,_,_,_,_,_,_,_,_,_,_,_]⟩] ?_;refine ah ?_;refine aa ?_;refine ae aE ?_;refine au [1,4,42] ?_;refine aM ot (fun M=>?_) (fun M=>?_)
  ·have bQ:=M
   (try simp only[V.ai,ne_eq] at bQ)
   refine ah ?_;refine aa ?_;refine aa ?_;refine au [2] ?_;refine aI ?_;refine bl ?_;refine⟨vi ?_,rfl⟩;unfold fK cM;simp_all;all_goals (try (intros;(repeat' split)<;>first|rfl|omega))
  have bQ:=M
  (try simp only[V.ai,ne_eq] at bQ)
  refine aS ?_;refine aC ?_;refine ah ?_;refine ae (aB 7) ?_;refine ae (aH 0) ?_;refine ae aE ?_;refine au [1,46] ?_;refine aM ot (fun O=>?_) (fun O=>?_)
  ·have bE:=O
   (try simp only[V.ai,ne_eq] at bE)
   refine ah ?_;refine ae (aB 7) ?_;refine ae (aH 0) ?_;refine bU call22 (mj hm hw s.order hf.o) ?_;refine aa ?_;refine aK [(2,_)] [⟨b1,70,12,[_,_,_,_,_,_,_,_,_,_,_,_]⟩] ?_;refine aI ?_;refine⟨.inr rfl,en results127 ?_⟩;refine⟨vi ?_,rfl⟩;unfold fK cM;simp_all;all_goals (try (intros;(repeat' split)<;>first|rfl|omega))
  have bE:=O
  (try simp only[V.ai,ne_eq] at bE)
  refine aS ?_;refine ah ?_;refine aa ?_;refine au [2] ?_;refine aI ?_;refine bl ?_;refine⟨vi ?_,rfl⟩;unfold fK cM;simp_all;all_goals (try (intros;(repeat' split)<;>first|rfl|omega))
 have Y:=fu;(try simp only[V.ai,ne_eq] at Y)
 refine an ?_;refine an ?_;refine an ?_;refine an ?_;refine ae bC ?_;refine aa ?_;refine ae (aB 8) ?_;refine ae (aH 0) ?_;refine aa ?_;refine dN (t:=26) lk (fun U=>?_) (fun U=>?_)
 ·have E:=U;(try simp only[V.ai,ne_eq] at E)
  refine ae (aB 7) ?_;refine ae (aH 0) ?_;refine ae aE ?_;refine ae cW ?_;refine ae bC ?_;refine aa ?_;refine au [1,14] ?_;refine aM ot (fun bJ=>?_) (fun bJ=>?_)
  ·have aX:=bJ
   (try simp only[V.ai,ne_eq] at aX)
   refine ah ?_;refine aa ?_;refine au [2] ?_;refine aI ?_;refine bl ?_;refine⟨vi ?_,rfl⟩;unfold fK cM;simp_all;all_goals (try (intros;(repeat' split)<;>first|rfl|omega))
  have aX:=bJ
  (try simp only[V.ai,ne_eq] at aX)
  refine aS ?_;refine aC ?_;refine ah ?_;refine ae (aB 4) ?_;refine ae (aH 0) ?_;refine bU call188 (uV hm hw s.names vZ hf.n) ?_;refine aa ?_;refine aK [(1,_),(3,_)] [⟨b1,70,12,[_,_,_,_,_,_,_,_,_,_,_,_]⟩] ?_;refine ah ?_;refine aa ?_;refine ae aE ?_;refine au [1,3,36] ?_;refine aM ot (fun I=>?_) (fun I=>?_)
  ·have bu:=I
   (try simp only[V.ai,ne_eq] at bu)
   refine ah ?_;refine aa ?_;refine aa ?_;refine au [2] ?_;refine aI ?_;refine bl ?_;refine⟨vi ?_,rfl⟩;unfold fK cM;simp_all;all_goals (try (intros;(repeat' split)<;>first|rfl|omega))
  have bu:=I
  (try simp only[V.ai,ne_eq] at bu)
  refine aS ?_;refine aC ?_;refine ah ?_;refine ae (aB 6) ?_;refine ae (aH 0) ?_;refine bU call129 (qv hm hw s.bG (fun o h=>(hf.w o h).1)) ?_;refine aa ?_;refine aK [(1,_),(4,_)] [⟨b1,70,12,[_,_,_,_,_,_,_,_,_,_,_,_]⟩] ?_;refine ah ?_;refine aa ?_;refine ae aE ?_;refine au [1,4,42] ?_;refine aM ot (fun M=>?_) (fun M=>?_)
  ·have bQ:=M
   (try simp only[V.ai,ne_eq] at bQ)
   refine ah ?_;refine aa ?_;refine aa ?_;refine au [2] ?_;refine aI ?_;refine bl ?_;refine⟨vi ?_,rfl⟩;unfold fK cM;simp_all;all_goals (try (intros;(repeat' split)<;>first|rfl|omega))
  have bQ:=M
  (try simp only[V.ai,ne_eq] at bQ)
  refine aS ?_;refine aC ?_;refine ah ?_;refine ae (aB 7) ?_;refine ae (aH 0) ?_;refine ae aE ?_;refine au [1,46] ?_;refine aM ot (fun O=>?_) (fun O=>?_)
  ·have bE:=O
   (try simp only[V.ai,ne_eq] at bE)
   refine ah ?_;refine ae (aB 7) ?_;refine ae (aH 0) ?_;refine bU call22 (mj hm hw s.order hf.o) ?_;refine aa ?_;refine aK [(2,_)] [⟨b1,70,12,[_,_,_,_,_,_,_,_,_,_,_,_]⟩] ?_;refine aI ?_;refine⟨.inr rfl,en results127 ?_⟩;refine⟨vi ?_,rfl⟩;unfold fK cM;simp_all;all_goals (try (intros;(repeat' split)<;>first|rfl|omega))
  have bE:=O
  (try simp only[V.ai,ne_eq] at bE)
  refine aS ?_;refine ah ?_;refine aa ?_;refine au [2] ?_;refine aI ?_;refine bl ?_;refine⟨vi ?_,rfl⟩;unfold fK cM;simp_all;all_goals (try (intros;(repeat' split)<;>first|rfl|omega))
 have E:=U;(try simp only[V.ai,ne_eq] at E)
 refine an ?_;refine an ?_;refine an ?_;refine ae bC ?_;refine ae bC ?_;refine aa ?_;refine au [1,14] ?_;refine iG ot w6 ?_;refine aS ?_;refine aC ?_;refine ah ?_;refine ae (aB 4) ?_;refine ae (aH 0) ?_;refine bU call188 (uV hm hw s.names vZ hf.n) ?_;refine aa ?_;refine aK [(1,_),(3,_)] [⟨b1,70,12,[_,_,_,_,_,_,_,_,_,_,_,_]⟩] ?_;refine ah ?_;refine aa ?_;refine ae aE ?_;refine au [1,3,36] ?_;refine aM ot (fun I=>?_) (fun I=>?_)
 ·have bu:=I
  (try simp only[V.ai,ne_eq] at bu)
  refine ah ?_;refine aa ?_;refine aa ?_;refine au [2] ?_;refine aI ?_;refine bl ?_;refine⟨vi ?_,rfl⟩;unfold fK cM;simp_all;all_goals (try (intros;(repeat' split)<;>first|rfl|omega))
 have bu:=I
 (try simp only[V.ai,ne_eq] at bu)
 refine aS ?_;refine aC ?_;refine ah ?_;refine ae (aB 6) ?_;refine ae (aH 0) ?_;refine bU call129 (qv hm hw s.bG (fun o h=>(hf.w o h).1)) ?_;refine aa ?_;refine aK [(1,_),(4,_)] [⟨b1,70,12,[_,_,_,_,_,_,_,_,_,_,_,_]⟩] ?_;refine ah ?_;refine aa ?_;refine ae aE ?_;refine au [1,4,42] ?_;refine aM ot (fun M=>?_) (fun M=>?_)
 ·have bQ:=M
  (try simp only[V.ai,ne_eq] at bQ)
  refine ah ?_;refine aa ?_;refine aa ?_;refine au [2] ?_;refine aI ?_;refine bl ?_;refine⟨vi ?_,rfl⟩;unfold fK cM;simp_all;all_goals (try (intros;(repeat' split)<;>first|rfl|omega))
 have bQ:=M
 (try simp only[V.ai,ne_eq] at bQ)
 refine aS ?_;refine aC ?_;refine ah ?_;refine ae (aB 7) ?_;refine ae (aH 0) ?_;refine ae aE ?_;refine au [1,46] ?_;refine aM ot (fun O=>?_) (fun O=>?_)
 ·have bE:=O
  (try simp only[V.ai,ne_eq] at bE)
  refine ah ?_;refine ae (aB 7) ?_;refine ae (aH 0) ?_;refine bU call22 (mj hm hw s.order hf.o) ?_;refine aa ?_;refine aK [(2,_)] [⟨b1,70,12,[_,_,_,_,_,_,_,_,_,_,_,_]⟩] ?_;refine aI ?_;refine⟨.inr rfl,en results127 ?_⟩;refine⟨vi ?_,rfl⟩;unfold fK cM;simp_all;all_goals (try (intros;(repeat' split)<;>first|rfl|omega))
 have bE:=O
 (try simp only[V.ai,ne_eq] at bE)
 refine aS ?_;refine ah ?_;refine aa ?_;refine au [2] ?_;refine aI ?_;refine bl ?_;refine⟨vi ?_,rfl⟩;unfold fK cM;simp_all;all_goals (try (intros;(repeat' split)<;>first|rfl|omega))
theorem Jp(s h:dh):VP Tryz.prog G 130 [.agg (fG s),.agg (fG h)] (bw (ju s h)):=by
 refine cf func130 rfl ntmps130 aF fun X0 w0 dm=>?_;unfold fG;refine ah ?_;refine fI (ds:=[_,_,_,_,_,_,_,_,_,_,_,_]) ay rfl rfl ot rfl rfl (fun b2=>?_);refine fI (ds:=[_,_,_,_,_,_,_,_,_,_,_,_]) ay rfl rfl ot rfl rfl (fun b3=>?_);refine aa ?_;refine aK [(2,_),(3,_)] [⟨b3,70,12,[_,_,_,_,_,_,_,_,_,_,_,_]⟩,⟨b2,70,12,[_,_,_,_,_,_,_,_,_,_,_,_]⟩] ?_;refine ah ?_;refine ae (aB 1) ?_;refine ae (aH 1) ?_;refine ae (aB 1) ?_;refine ae (aH 0) ?_;refine ae aE ?_;refine aa ?_;refine dN (t:=10) lk (fun hg10=>?_) (fun hg10=>?_)
 ·have E:=hg10;(try simp only[V.ai,ne_eq] at E)
  refine ae (aB 2) ?_;refine ae (aH 1) ?_;refine ae cZ ?_;refine ae (aB 2) ?_;refine ae (aH 0) ?_;refine ae cZ ?_;refine ae aE ?_;refine ae cW ?_;refine aa ?_;refine dN (t:=19) lk (fun zz=>?_) (fun zz=>?_)
  ·have I:=zz;(try simp only[V.ai,ne_eq] at I)
   refine ae (aB 3) ?_;refine ae (aH 1) ?_;refine ae cZ ?_;refine ae (aB 3) ?_;refine ae (aH 0) ?_;refine ae cZ ?_;refine ae aE ?_;refine ae cW ?_;refine aa ?_;refine dN (t:=28) lk (fun zA=>?_) (fun zA=>?_)
   ·have M:=zA;(try simp only[V.ai,ne_eq] at M)
    refine ae (aB 4) ?_;refine ae (aH 1) ?_;refine ae cZ ?_;refine ae (aB 4) ?_;refine ae (aH 0) ?_;refine ae cZ ?_;refine ae aE ?_;refine ae cW ?_;refine aa ?_;refine dN (t:=37) lk (fun zB=>?_) (fun zB=>?_)
    ·have O:=zB;(try simp only[V.ai,ne_eq] at O)
     refine ae (aB 5) ?_;refine ae (aH 1) ?_;refine ae (aB 5) ?_;refine ae (aH 0) ?_;refine gE dH rfl (eX rfl ot ot (xS underlying4)) ?_;refine ae cW ?_;refine aa ?_;refine dN (t:=44) lk (fun zC=>?_) (fun zC=>?_)
     ·have U:=zC;(try simp only[V.ai,ne_eq] at U)
      refine ae (aB 6) ?_;refine ae (aH 1) ?_;refine ae cZ ?_;refine ae (aB 6) ?_;refine ae (aH 0) ?_;refine ae cZ ?_;refine ae aE ?_;refine ae cW ?_;refine aa ?_;refine dN (t:=53) lk (fun zD=>?_) (fun zD=>?_)
      ·have Y:=zD;(try simp only[V.ai,ne_eq] at Y)
       refine ae (aB 7) ?_;refine ae (aH 1) ?_;refine ae (aB 7) ?_;refine ae (aH 0) ?_;refine ae aE ?_;refine ae cW ?_;refine aa ?_;refine dN (t:=60) lk (fun rh=>?_) (fun rh=>?_)
       ·have Z:=rh;(try simp only[V.ai,ne_eq] at Z)
        refine ae (aB 8) ?_;refine ae (aH 1) ?_;refine ae (aB 8) ?_;refine ae (aH 0) ?_;refine gE dH rfl (eX rfl ot ot (xS underlying4)) ?_;refine ae cW ?_;refine aa ?_;refine dN (t:=67) lk (fun zE=>?_) (fun zE=>?_)
        ·have sS:=zE;(try simp only[V.ai,ne_eq] at sS)
         refine ae (aB 9) ?_;refine ae (aH 1) ?_;refine ae (aB 9) ?_;refine ae (aH 0) ?_;refine ae aE ?_;refine ae cW ?_;refine aa ?_;refine dN (t:=74) lk (fun zF=>?_) (fun zF=>?_)
         ·have yU:=zF;(try simp only[V.ai,ne_eq] at yU)
          refine ae (aB 10) ?_;refine ae (aH 1) ?_;refine ae (aB 10) ?_;refine ae (aH 0) ?_;refine ae aE ?_;refine ae cW ?_;refine aa ?_;refine dN (t:=81) lk (fun kD=>?_) (fun kD=>?_)
          ·have pE:=kD;(try simp only[V.ai,ne_eq] at pE)
           refine ae (aB 11) ?_;refine ae (aH 1) ?_;refine ae cZ ?_;refine ae (aB 11) ?_;refine ae (aH 0) ?_;refine ae cZ ?_;refine ae aE ?_;refine ae cW ?_;refine aa ?_;refine aK [(4,_)] [⟨b3,70,12,[_,_,_,_,_,_,_,_,_,_,_,_]⟩,⟨b2,70,12,[_,_,_,_,_,_,_,_,_,_,_,_]⟩] ?_;refine aI ?_;refine⟨.inr rfl,en results130 ?_⟩;refine⟨vb ?_,rfl⟩;unfold ju cM;simp_all;all_goals (try (intros;omega))
          have pE:=kD;(try simp only[V.ai,ne_eq] at pE)
          refine an ?_;refine an ?_;refine an ?_;refine an ?_;refine an ?_;refine an ?_;refine an ?_;refine ae bC ?_;refine aa ?_;refine aK [(4,_)] [⟨b3,70,12,[_,_,_,_,_,_,_,_,_,_,_,_]⟩,⟨b2,70,12,[_,_,_,_,_,_,_,_,_,_,_,_]⟩] ?_;refine aI ?_;refine⟨.inr rfl,en results130 ?_⟩;refine⟨vb ?_,rfl⟩;unfold ju cM;simp_all;all_goals (try (intros;omega))
         have yU:=zF;(try simp only[V.ai,ne_eq] at yU)
         refine an ?_;refine an ?_;refine an ?_;refine an ?_;refine an ?_;refine ae bC ?_;refine aa ?_;refine an ?_;refine an ?_;refine an ?_;refine an ?_;refine an ?_;refine an ?_;refine an ?_;refine ae bC ?_;refine aa ?_;refine aK [(4,_)] [⟨b3,70,12,[_,_,_,_,_,_,_,_,_,_,_,_]⟩,⟨b2,70,12,[_,_,_,_,_,_,_,_,_,_,_,_]⟩] ?_;refine aI ?_;refine⟨.inr rfl,en results130 ?_⟩;refine⟨vb ?_,rfl⟩;unfold ju cM;simp_all;all_goals (try (intros;omega))
        have sS:=zE;(try simp only[V.ai,ne_eq] at sS)
        refine an ?_;refine an ?_;refine an ?_;refine an ?_;refine an ?_;refine ae bC ?_;refine aa ?_;refine an ?_;refine an ?_;refine an ?_;refine an ?_;refine an ?_;refine ae bC ?_;refine aa ?_;refine an ?_;refine an ?_;refine an ?_;refine an ?_;refine an ?_;refine an ?_;refine an ?_;refine ae bC ?_;refine aa ?_;refine aK [(4,_)] [⟨b3,70,12,[_,_,_,_,_,_,_,_,_,_,_,_]⟩,⟨b2,70,12,[_,_,_,_,_,_,_,_,_,_,_,_]⟩] ?_;refine aI ?_;refine⟨.inr rfl,en results130 ?_⟩;refine⟨vb ?_,rfl⟩;unfold ju cM;simp_all;all_goals (try (intros;omega))
       have Z:=rh;(try simp only[V.ai,ne_eq] at Z)
       refine an ?_;refine an ?_;refine an ?_;refine an ?_;refine an ?_;refine ae bC ?_;refine aa ?_;refine an ?_;refine an ?_;refine an ?_;refine an ?_;refine an ?_;refine ae bC ?_;refine aa ?_;refine an ?_;refine an ?_;refine an ?_;refine an ?_;refine an ?_;refine ae bC ?_;refine aa ?_;refine an ?_;refine an ?_;refine an ?_;refine an ?_;refine an ?_;refine an ?_;refine an ?_;refine ae bC ?_;refine aa ?_;refine aK [(4,_)] [⟨b3,70,12,[_,_,_,_,_,_,_,_,_,_,_,_]⟩,⟨b2,70,12,[_,_,_,_,_,_,_,_,_,_,_,_]⟩] ?_;refine aI ?_;refine⟨.inr rfl,en results130 ?_⟩;refine⟨vb ?_,rfl⟩;unfold ju cM;simp_all;all_goals (try (intros;omega))
      have Y:=zD;(try simp only[V.ai,ne_eq] at Y)
      refine an ?_;refine an ?_;refine an ?_;refine an ?_;refine an ?_;refine ae bC ?_;refine aa ?_;refine an ?_;refine an ?_;refine an ?_;refine an ?_;refine an ?_;refine ae bC ?_;refine aa ?_;refine an ?_;refine an ?_;refine an ?_;refine an ?_;refine an ?_;refine ae bC ?_;refine aa ?_;refine an ?_;refine an ?_;refine an ?_;refine an ?_;refine an ?_;refine ae bC ?_;refine aa ?_;refine an ?_;refine an ?_;refine an ?_;refine an ?_;refine an ?_;refine an ?_;refine an ?_;refine ae bC ?_;refine aa ?_;refine aK [(4,_)] [⟨b3,70,12,[_,_,_,_,_,_,_,_,_,_,_,_]⟩,⟨b2,70,12,[_,_,_,_,_,_,_,_,_,_,_,_]⟩] ?_;refine aI ?_;refine⟨.inr rfl,en results130 ?_⟩;refine⟨vb ?_,rfl⟩;unfold ju cM;simp_all;all_goals (try (intros;omega))
     have U:=zC;(try simp only[V.ai,ne_eq] at U)
     refine an ?_;refine an ?_;refine an ?_;refine an ?_;refine an ?_;refine an ?_;refine an ?_;refine ae bC ?_;refine aa ?_;refine an ?_;refine an ?_;refine an ?_;refine an ?_;refine an ?_;refine ae bC ?_;refine aa ?_;refine an ?_;refine an ?_;refine an ?_;refine an ?_;refine an ?_;refine ae bC ?_;refine aa ?_;refine an ?_;refine an ?_;refine an ?_;refine an ?_;refine an ?_;refine ae bC ?_;refine aa ?_;refine an ?_;refine an ?_;refine an ?_;refine an ?_;refine an ?_;refine ae bC ?_;refine aa ?_;refine an ?_;refine an ?_;refine an ?_;refine an ?_;refine an ?_;refine an ?_;refine an ?_;refine ae bC ?_;refine aa ?_;refine aK [(4,_)] [⟨b3,70,12,[_,_,_,_,_,_,_,_,_,_,_,_]⟩,⟨b2,70,12,[_,_,_,_,_,_,_,_,_,_,_,_]⟩] ?_;refine aI ?_;refine⟨.inr rfl,en results130 ?_⟩;refine⟨vb ?_,rfl⟩;unfold ju cM;simp_all;all_goals (try (intros;omega))
    have O:=zB;(try simp only[V.ai,ne_eq] at O)
    refine an ?_;refine an ?_;refine an ?_;refine an ?_;refine an ?_;refine ae bC ?_;refine aa ?_;refine an ?_;refine an ?_;refine an ?_;refine an ?_;refine an ?_;refine an ?_;refine an ?_;refine ae bC ?_;refine aa ?_;refine an ?_;refine an ?_;refine an ?_;refine an ?_;refine an ?_;refine ae bC ?_;refine aa ?_;refine an ?_;refine an ?_;refine an ?_;refine an ?_;refine an ?_;refine ae bC ?_;refine aa ?_;refine an ?_;refine an ?_;refine an ?_;refine an ?_;refine an ?_;refine ae bC ?_;refine aa ?_;refine an ?_;refine an ?_;refine an ?_;refine an ?_;refine an ?_;refine ae bC ?_;refine aa ?_;refine an ?_;refine an ?_;refine an ?_;refine an ?_;refine an ?_;refine an ?_;refine an ?_;refine ae bC ?_;refine aa ?_;refine au [4] ?_;refine aI ?_;refine bl ?_;refine⟨vb ?_,rfl⟩;unfold ju cM;simp_all;all_goals (try (intros;omega))
   have M:=zA;(try simp only[V.ai,ne_eq] at M)
   refine an ?_;refine an ?_;refine an ?_;refine an ?_;refine an ?_;refine an ?_;refine an ?_;refine ae bC ?_;refine aa ?_;refine an ?_;refine an ?_;refine an ?_;refine an ?_;refine an ?_;refine ae bC ?_;refine aa ?_;refine an ?_;refine an ?_;refine an ?_;refine an ?_;refine an ?_;refine an ?_;refine an ?_;refine ae bC ?_;refine aa ?_;refine an ?_;refine an ?_;refine an ?_;refine an ?_;refine an ?_;refine ae bC ?_;refine aa ?_;refine an ?_;refine an ?_;refine an ?_;refine an ?_;refine an ?_;refine ae bC ?_;refine aa ?_;refine an ?_;refine an ?_;refine an ?_;refine an ?_;refine an ?_;refine ae bC ?_;refine aa ?_;refine an ?_;refine an ?_;refine an ?_;refine an ?_;refine an ?_;refine ae bC ?_;refine aa ?_;refine an ?_;refine an ?_;refine an ?_;refine an ?_;refine an ?_;refine an ?_;refine an ?_;refine ae bC ?_;refine aa ?_;refine au [4] ?_;refine aI ?_;refine bl ?_;refine⟨vb ?_,rfl⟩;unfold ju cM;simp_all;all_goals (try (intros;omega))
  have I:=zz;(try simp only[V.ai,ne_eq] at I)
  refine an ?_;refine an ?_;refine an ?_;refine an ?_;refine an ?_;refine an ?_;refine an ?_;refine ae bC ?_;refine aa ?_;refine an ?_;refine an ?_;refine an ?_;refine an ?_;refine an ?_;refine an ?_;refine an ?_;refine ae bC ?_;refine aa ?_;refine an ?_;refine an ?_;refine an ?_;refine an ?_;refine an ?_;refine ae bC ?_;refine aa ?_;refine an ?_;refine an ?_;refine an ?_;refine an ?_;refine an ?_;refine an ?_;refine an ?_;refine ae bC ?_;refine aa ?_;refine an ?_;refine an ?_;refine an ?_;refine an ?_;refine an ?_;refine ae bC ?_;refine aa ?_;refine an ?_;refine an ?_;refine an ?_;refine an ?_;refine an ?_;refine ae bC ?_;refine aa ?_;refine an ?_;refine an ?_;refine an ?_;refine an ?_;refine an ?_;refine ae bC ?_;refine aa ?_;refine an ?_;refine an ?_;refine an ?_;refine an ?_;refine an ?_;refine ae bC ?_;refine aa ?_;refine an ?_;refine an ?_;refine an ?_;refine an ?_;refine an ?_;refine an ?_;refine an ?_;refine ae bC ?_;refine aa ?_;refine au [4] ?_;refine aI ?_;refine bl ?_;refine⟨vb ?_,rfl⟩;unfold ju cM;simp_all;all_goals (try (intros;omega))
 have E:=hg10;(try simp only[V.ai,ne_eq] at E)
 refine an ?_;refine an ?_;refine an ?_;refine an ?_;refine an ?_;refine an ?_;refine an ?_;refine ae bC ?_;refine aa ?_;refine an ?_;refine an ?_;refine an ?_;refine an ?_;refine an ?_;refine an ?_;refine an ?_;refine ae bC ?_;refine aa ?_;refine an ?_;refine an ?_;refine an ?_;refine an ?_;refine an ?_;refine an ?_;refine an ?_;refine ae bC ?_;refine aa ?_;refine an ?_;refine an ?_;refine an ?_;refine an ?_;refine an ?_;refine ae bC ?_;refine aa ?_;refine an ?_;refine an ?_;refine an ?_;refine an ?_;refine an ?_;refine an ?_;refine an ?_;refine ae bC ?_;refine aa ?_;refine an ?_;refine an ?_;refine an ?_;refine an ?_;refine an ?_;refine ae bC ?_;refine aa ?_;refine an ?_;refine an ?_;refine an ?_;refine an ?_;refine an ?_;refine ae bC ?_;refine aa ?_;refine an ?_;refine an ?_;refine an ?_;refine an ?_;refine an ?_;refine ae bC ?_;refine aa ?_;refine an ?_;refine an ?_;refine an ?_;refine an ?_;refine an ?_;refine ae bC ?_;refine aa ?_;refine an ?_;refine an ?_;refine an ?_;refine an ?_;refine an ?_;refine an ?_;refine an ?_;refine ae bC ?_;refine aa ?_;refine au [4] ?_;refine aI ?_;refine bl ?_;refine⟨vb ?_,rfl⟩;unfold ju cM;simp_all;all_goals (try (intros;omega))
theorem GV:(Tryz.prog.info? 113).map (fun i=>(i.zero,i.size,i.bytes))=some (some (.agg #[.int .i64 0,.string ⟨#[]⟩,.int .i64 0]),3,32):=by kernel_rfl
theorem rY(l:List aZ)(hl:l.length<=40)(he:l.length=0\/gb 0 l=0)(hr:∀o∈l,-9223372036854775808<=o.v.n/\o.v.n<=9223372036854775807)(rF:(kz l).length<=1000):VP Tryz.prog G 138 [av 5 cO l] (.list 3 ((fp l).flatMap cT) (fp l).length):=by
 refine cf func138 rfl ntmps138 aF fun X0 w0 dm=>?_;refine ah ?_;refine aa ?_;refine au [0] ?_;refine aC ?_;refine ah ?_;refine aa ?_;refine ae cZ ?_;refine ae aE ?_;refine au [0,5] ?_;refine aM ot (fun aA=>?_) (fun aA=>?_)
 ·have E:=aA
  (try simp only[V.ai,ne_eq] at E)
  have I:fp l=[]:=if_pos oG;refine ah ?_;refine aa ?_;refine au [2] ?_;refine gS (Wk.qB (t:=2) (sz:=3) lk) ?_;refine aI ?_;refine bl ?_;rw[I];exact⟨rfl,rfl⟩
 have E:=aA
 (try simp only[V.ai,ne_eq] at E)
 have I:fp l=[⟨#[87,72,69,82,69]⟩].map aT++kz l:=if_neg oG;have U:gb 0 l=0:=he.resolve_left oG;refine aS ?_;refine ah ?_;refine dM (aU 0 [_]) [.string ⟨#[]⟩] [_] zeroValue9 runUnderlying34 sizeOf9 (fun Z=>?_);refine aW (dj (S1:=[⟨Z,9,1*1,flatMap cS ([⟨#[87,72,69,82,69]⟩])⟩]) (A:=[])) ?_;refine iH (t:=6) (Sq:=[⟨Z,9,1*1,flatMap cS ([⟨#[87,72,69,82,69]⟩])⟩]) lk (cU (g:=cS) (sz:=1) (e:=9) (ls:=[⟨#[87,72,69,82,69]⟩]) (Nat.le_refl _) (show 1<=maxLen by decide)) (de ej _) (cy (A:=[])) ?_;refine cP ay rfl rfl rfl call131 (qJ [⟨#[87,72,69,82,69]⟩] rz) ⟨ot,trivial⟩ (jP _) ?_;rintro _ S7 ⟨tY,FR,rfl,Y⟩;refine aW (S':=S7) (append_nil _ ▸ Perm.refl _) ?_;refine aa ?_;refine bU call137 (xB l hl U hr) ?_;refine qo (ls:=([⟨#[87,72,69,82,69]⟩].map aT)) (new:=(kz l)) (Sq:=S7) dO gh ay rfl rfl underlying99 GV rfl cc runUnderlying99 sizeOf113 ot Y (cy (A:=[])) ot (by simp only[maxLen,length_map,length_cons,length_nil];omega) (by simp only[length_map,length_cons,length_nil];omega) (fun PV PW M O=>?_);refine aW (dj (A:=[])) ?_;refine aa ?_;refine bc (Wk.aR (n:=11) (l':=[(2,_)]) (S':=(M)) rfl rfl bj) ?_;refine bi ?_;refine jn (t:=2) (Sq:=M) lk O (de dO _) (cy (A:=[])) ?_;refine aI ?_;refine⟨.inr rfl,en results138 ?_⟩
 rw[I];exact⟨rfl,rfl⟩
def lP(s:dh):ByteArray:=if s.kind<7 then s.table else ⟨#[]⟩
def my(s:dh):dh :=
 if s.kind=1 then {cr with kind:=s.kind,table:=(lP s),cF:=s.cF} else if s.kind=3 then {cr with kind:=s.kind,table:=(lP s),row:=s.row} else if s.kind=4 then {cr with kind:=s.kind,table:=(lP s),names:=s.names,count:=s.count,bG:=s.bG,order:=s.order,down:=s.down,eY:=s.eY} else if s.kind=5 then {cr with kind:=s.kind,table:=(lP s),set:=s.set,dI:=s.dI,bG:=s.bG} else if s.kind=6 then {cr with kind:=s.kind,table:=(lP s),bG:=s.bG} else {cr with kind:=s.kind,table:=(lP s)}
def kE(s:dh):Int :=
 if s.kind=1 then jX s.cF else if s.kind=3 then oA s.row else if s.kind=4 then fK s
 else if s.kind=5 then (if dA s.set=0 then (if kx s.dI=0 then lI s.bG else kx s.dI) else dA s.set) else if s.kind=6 then lI s.bG else 0
def ig(s:dh):Int:=if s.kind<7/\dA s.table≠0 then dA s.table else if kE s=0/\ju s (my s)=false then 6 else kE s
theorem GK : ∀ w, ((#[{ name := "Kind", type := 3, offset := 0, embedded := false, tag := "", pkgPath := "", byteOffset := 0 }, { name := "Table", type := 9, offset := 1, embedded := false, tag := "", pkgPath := "", byteOffset := 8 }, { name := "Cols", type := 58, offset := 2, embedded := false, tag := "", pkgPath := "", byteOffset := 24 }, { name := "Row", type := 67, offset := 3, embedded := false, tag := "", pkgPath := "", byteOffset := 48 }, { name := "Names", type := 34, offset := 4, embedded := false, tag := "", pkgPath := "", byteOffset := 72 }, { name := "Count", type := 4, offset := 5, embedded := false, tag := "", pkgPath := "", byteOffset := 96 }, { name := "Where", type := 68, offset := 6, embedded := false, tag := "", pkgPath := "", byteOffset := 104 }, { name := "Order", type := 9, offset := 7, embedded := false, tag := "", pkgPath := "", byteOffset := 128 }, { name := "Down", type := 4, offset := 8, embedded := false, tag := "", pkgPath := "", byteOffset := 144 }, { name := "Limit", type := 3, offset := 9, embedded := false, tag := "", pkgPath := "", byteOffset := 152 }, { name := "Set", type := 9, offset := 10, embedded := false, tag := "", pkgPath := "", byteOffset := 160 }, { name := "To", type := 68, offset := 11, embedded := false, tag := "", pkgPath := "", byteOffset := 176 }] : Array Field).mapM fun f => do pure (f.offset, ← sizeOf f.type) : Sem (Array (Nat × Nat))).run Tryz.prog w = .ok #[(0, 1), (1, 1), (2, 1), (3, 1), (4, 1), (5, 1), (6, 1), (7, 1), (8, 1), (9, 1), (10, 1), (11, 1)] w := fun w => by simp [sizeOf3, sizeOf34, sizeOf4, sizeOf58, sizeOf67, sizeOf68, sizeOf9]
theorem HF(hm:(1,marksC)∈G)(hw:(0,wordsC)∈G)(s:dh)(hf:pP s):VP Tryz.prog G 72 [.agg (fG s)] (ag (ig s)):=by
 refine cf func72 rfl ntmps72 aF fun X0 w0 dm=>?_;have DH:=Iv hm hw s hf;unfold fG at DH;unfold fG;refine ah ?_;refine fI (ds:=[_,_,_,_,_,_,_,_,_,_,_,_]) ay rfl rfl ot rfl rfl (fun M=>?_);refine aa ?_;refine aK [(1,_)] [⟨M,70,12,[_,_,_,_,_,_,_,_,_,_,_,_]⟩] ?_;refine ah ?_;refine ae (aB 0) ?_;refine ae (aH 0) ?_;refine ae (dc (pl:=[(0,_),(9,_)]) (ds:=[_,_,_,_,_,_,_,_,_,_,_,_]) rfl zeroValue70 runUnderlying70 GK ⟨rfl,ot,rfl,aN,trivial⟩ rfl rfl) ?_;refine eo (ds:=[_,_,_,_,_,_,_,_,_,_,_,_]) ay rfl rfl zeroValue70 rfl (fun O=>?_);refine bn 0 [_,_,_,_,_,_,_,_,_,_,_,_] sizeOf70 ?_;refine aK [(1,_),(3,_)] [⟨O,70,12,[_,_,_,_,_,_,_,_,_,_,_,_]⟩,⟨M,70,12,[_,_,_,_,_,_,_,_,_,_,_,_]⟩] ?_;refine nv (fun cn=>∃(tb:ByteArray),(tb=lP s)/\(¬(s.kind<7/\dA s.table≠0))/\cn=(⟨102,[(1,bD M),(3,bD O)],[⟨O,70,12,[ag s.kind,bT tb,.list 2 [] 0,.list 3 [] 0,.list 1 [] 0,bw false,.list 5 [] 0,eu,bw false,ag (-1),eu,.list 5 [] 0]⟩,⟨M,70,12,[ag s.kind,bT s.table,av 2 cC s.cF,av 3 cV s.row,av 1 cS s.names,bw s.count,av 5 cO s.bG,bT s.order,bw s.down,ag s.eY,bT s.set,av 5 cO s.dI]⟩]⟩:St)) ?_ ?_
 ·refine aC ?_;refine kU (k:=0) (cs':=[_,_,.list 2 [] 0,.list 3 [] 0,.list 1 [] 0,_,.list 5 [] 0,_,_,_,_,.list 5 [] 0]) (S':=[_,_]) rfl w8 rfl ?_;refine aV ?_;refine ae (aB 0) ?_;refine ae (aH 1) ?_;refine ae aE ?_;refine au [1,3,11] ?_;refine aM ot (fun aA=>?_) (fun aA=>?_)
  ·have Y:=aA
   (try simp only[V.ai,ne_eq] at Y)
   refine ah ?_;refine ae (aB 1) ?_;refine ae (aH 1) ?_;refine ae (aB 1) ?_;refine bn 0 [_,_,_,_,_,_,_,_,_,_,_,_] sizeOf9 ?_;refine aK [(1,_),(3,_)] [⟨O,70,12,[_,_,_,_,_,_,_,_,_,_,_,_]⟩,⟨M,70,12,[_,_,_,_,_,_,_,_,_,_,_,_]⟩] ?_;refine ah ?_;refine ae (aB 1) ?_;refine ae (aH 1) ?_;refine bU call22 (mj hm hw s.table hf.t) ?_;refine aa ?_;refine aK [(1,_),(3,_),(4,_)] [⟨O,70,12,[_,_,_,_,_,_,_,_,_,_,_,_]⟩,⟨M,70,12,[_,_,_,_,_,_,_,_,_,_,_,_]⟩] ?_;refine ah ?_;refine aa ?_;refine ae aE ?_;refine au [1,3,4,19] ?_;refine aM ot (fun aG=>?_) (fun aG=>?_)
   ·have cA:=aG
    (try simp only[V.ai,ne_eq] at cA)
    have E:ig s=dA s.table:=(by unfold ig;rw[if_pos ⟨Y,by simpa using aG⟩])
    refine ah ?_;refine aa ?_;refine aa ?_;refine au [2] ?_;refine aI ?_;refine bl ?_;exact⟨by first|rw[E]|rw[E];rfl,rfl⟩
   have cA:=aG
   (try simp only[V.ai,ne_eq] at cA)
   have eA:dA s.table=0:=(by simpa using aG)
   have zG:s.table=lP s:=(by unfold lP;rw[if_pos Y])
   have zH:¬(s.kind<7/\dA s.table≠0):=fun h=>h.2 eA;refine aS ?_;refine⟨_,?_,s.table,zG,zH,rfl⟩;exact Wk.bI (n:=102) rfl (Sublist.refl _) dL
  have Y:=aA
  (try simp only[V.ai,ne_eq] at Y)
  have zG:(⟨#[]⟩:ByteArray)=lP s:=(by unfold lP;rw[if_neg w7])
  have zH:¬(s.kind<7/\dA s.table≠0):=fun h=>by omega
  refine aS ?_;refine⟨_,?_,⟨#[]⟩,zG,zH,rfl⟩;exact Wk.bI (n:=102) rfl (Sublist.refl _) dL
 rintro _ ⟨tb,ru,mS,rfl⟩;refine ah ?_;refine aa ?_;refine au [1,3,5] ?_;refine nv (fun cn=>∃(H:dh),∃(e:Int),(H=my s)/\(e=kE s)/\cn=(⟨102,[(1,bD M),(3,bD O),(5,ag e)],[⟨O,70,12,[ag H.kind,bT H.table,av 2 cC H.cF,av 3 cV H.row,av 1 cS H.names,bw H.count,av 5 cO H.bG,bT H.order,bw H.down,ag H.eY,bT H.set,av 5 cO H.dI]⟩,⟨M,70,12,[ag s.kind,bT s.table,av 2 cC s.cF,av 3 cV s.row,av 1 cS s.names,bw s.count,av 5 cO s.bG,bT s.order,bw s.down,ag s.eY,bT s.set,av 5 cO s.dI]⟩]⟩:St)) ?_ ?_
 ·refine ah ?_;refine ae (aB 0) ?_;refine ae (aH 1) ?_;refine au [1,3,5,22] ?_;refine bZ ?_;refine ah ?_;refine ae aE ?_;refine aa ?_;refine au [1,3,5,22,23] ?_;refine aM ot (fun bJ=>?_) (fun bJ=>?_)
  ·have aX:=bJ
   (try simp only[V.ai,ne_eq] at aX)
   refine ah ?_;refine ae (aB 2) ?_;refine ae (aH 1) ?_;refine ae (aB 2) ?_;refine bn 0 [_,_,_,_,_,_,_,_,_,_,_,_] sizeOf58 ?_;refine aK [(1,_),(3,_)] [⟨O,70,12,[_,_,_,_,_,_,_,_,_,_,_,_]⟩,⟨M,70,12,[_,_,_,_,_,_,_,_,_,_,_,_]⟩] ?_;refine aV ?_;refine ae (aB 2) ?_;refine ae (aH 1) ?_;refine bU call125 (I5 hm hw s.cF (by have:=hf.ok.1;simp only[maxLen];omega) hf.c) ?_;refine aa ?_;refine aK [(1,_),(3,_),(5,_)] [⟨O,70,12,[_,_,_,_,_,_,_,_,_,_,_,_]⟩,⟨M,70,12,[_,_,_,_,_,_,_,_,_,_,_,_]⟩] ?_;refine⟨_,?_,{cr with kind:=s.kind,table:=tb,cF:=s.cF},jX s.cF,(by unfold my;rw[if_pos aX,ru]),(by unfold kE;rw[if_pos aX]),rfl⟩;exact Wk.bI (n:=102) rfl (Sublist.refl _) dL
  have aX:=bJ
  (try simp only[V.ai,ne_eq] at aX)
  refine ah ?_;refine ae aE ?_;refine aa ?_;refine au [1,3,5,22,31] ?_;refine aM ot (fun ct=>?_) (fun ct=>?_)
  ·have bu:=ct
   (try simp only[V.ai,ne_eq] at bu)
   refine ah ?_;refine ae (aB 3) ?_;refine ae (aH 1) ?_;refine ae (aB 3) ?_;refine bn 0 [_,_,_,_,_,_,_,_,_,_,_,_] sizeOf67 ?_;refine aK [(1,_),(3,_)] [⟨O,70,12,[_,_,_,_,_,_,_,_,_,_,_,_]⟩,⟨M,70,12,[_,_,_,_,_,_,_,_,_,_,_,_]⟩] ?_;refine aV ?_;refine ae (aB 3) ?_;refine ae (aH 1) ?_;refine bU call126 (Jo s.row (by have:=hf.ok.2.1;omega)) ?_;refine aa ?_;refine aK [(1,_),(3,_),(5,_)] [⟨O,70,12,[_,_,_,_,_,_,_,_,_,_,_,_]⟩,⟨M,70,12,[_,_,_,_,_,_,_,_,_,_,_,_]⟩] ?_;refine⟨_,?_,{cr with kind:=s.kind,table:=tb,row:=s.row},oA s.row,(by unfold my;rw[if_neg aX,if_pos bu,ru]),(by unfold kE;rw[if_neg aX,if_pos bu]),rfl⟩;exact Wk.bI (n:=102) rfl (Sublist.refl _) dL
  have bu:=ct
  (try simp only[V.ai,ne_eq] at bu)
  refine ah ?_;refine ae aE ?_;refine aa ?_;refine au [1,3,5,22,39] ?_;refine aM ot (fun ck=>?_) (fun ck=>?_)
  ·have bQ:=ck
   (try simp only[V.ai,ne_eq] at bQ)
   refine aC ?_;refine ez (aq (eraseIdx _ 0)) af (fun _ h=>(Sublist.map _ (eraseIdx_sublist _ 0)).subset h) ?_;refine aj 0 rfl (aB 4) ?_;refine aj 1 rfl (aH 1) ?_;refine aj 2 rfl (aB 5) ?_;refine aj 3 rfl (aH 1) ?_;refine aj 4 rfl (aB 6) ?_;refine aj 5 rfl (aH 1) ?_;refine aj 6 rfl (aB 7) ?_;refine aj 7 rfl (aH 1) ?_;refine aj 8 rfl (aB 8) ?_;refine aj 9 rfl (aH 1) ?_;refine aj 10 rfl (aB 9) ?_;refine aj 11 rfl (aH 1) ?_;refine aj 12 rfl (aB 4) ?_;refine bt.later rfl ?_;refine aL (i:=13) af ?_;refine aR 0 [_,_,_,_,_,_,_,_,_,_,_,_] sizeOf34 ?_;refine bR 14 rfl (aB 5) ?_;refine aL (i:=15) af ?_;refine aR 0 [_,_,_,_,_,_,_,_,_,_,_,_] sizeOf4 ?_;refine bR 16 rfl (aB 6) ?_;refine aL (i:=17) af ?_;refine aR 0 [_,_,_,_,_,_,_,_,_,_,_,_] sizeOf68 ?_;refine bR 18 rfl (aB 7) ?_;refine aL (i:=19) af ?_;refine aR 0 [_,_,_,_,_,_,_,_,_,_,_,_] sizeOf9 ?_;refine bR 20 rfl (aB 8) ?_;refine aL (i:=21) af ?_;refine aR 0 [_,_,_,_,_,_,_,_,_,_,_,_] sizeOf4 ?_;refine bR 22 rfl (aB 9) ?_;refine aL (i:=23) af ?_;refine aR 0 [_,_,_,_,_,_,_,_,_,_,_,_] sizeOf3 ?_;refine cg [(1,_),(3,_)] [⟨O,70,12,[_,_,_,_,_,_,_,_,_,_,_,_]⟩,⟨M,70,12,[_,_,_,_,_,_,_,_,_,_,_,_]⟩] ?_;refine bO af ?_;refine aV ?_;refine ae (fw 1 [_,_,_,_,_,_,_,_,_,_,_,_]) ?_;refine bU call127 (DH) ?_;refine aa ?_;refine aK [(1,_),(3,_),(5,_)] [⟨O,70,12,[_,_,_,_,_,_,_,_,_,_,_,_]⟩,⟨M,70,12,[_,_,_,_,_,_,_,_,_,_,_,_]⟩] ?_
   refine⟨_,?_,{cr with kind:=s.kind,table:=tb,names:=s.names,count:=s.count,bG:=s.bG,order:=s.order,down:=s.down,eY:=s.eY},fK s,(by unfold my;rw[if_neg aX,if_neg bu,if_pos bQ,ru]),(by unfold kE;rw[if_neg aX,if_neg bu,if_pos bQ]),rfl⟩;exact Wk.bI (n:=102) rfl (Sublist.refl _) dL
  have bQ:=ck
  (try simp only[V.ai,ne_eq] at bQ)
  refine ah ?_;refine ae aE ?_;refine aa ?_;refine au [1,3,5,22,61] ?_;refine aM ot (fun cl=>?_) (fun cl=>?_)
  ·have bE:=cl
   (try simp only[V.ai,ne_eq] at bE)
   refine aC ?_;refine ez (aq (eraseIdx _ 0)) af (fun _ h=>(Sublist.map _ (eraseIdx_sublist _ 0)).subset h) ?_;refine aj 0 rfl (aB 10) ?_;refine aj 1 rfl (aH 1) ?_;refine aj 2 rfl (aB 11) ?_;refine aj 3 rfl (aH 1) ?_;refine aj 4 rfl (aB 6) ?_;refine aj 5 rfl (aH 1) ?_;refine aj 6 rfl (aB 10) ?_;refine bt.later rfl ?_;refine aL (i:=7) af ?_;refine aR 0 [_,_,_,_,_,_,_,_,_,_,_,_] sizeOf9 ?_;refine bR 8 rfl (aB 11) ?_;refine aL (i:=9) af ?_;refine aR 0 [_,_,_,_,_,_,_,_,_,_,_,_] sizeOf68 ?_;refine bR 10 rfl (aB 6) ?_;refine aL (i:=11) af ?_;refine aR 0 [_,_,_,_,_,_,_,_,_,_,_,_] sizeOf68 ?_;refine cg [(1,_),(3,_)] [⟨O,70,12,[_,_,_,_,_,_,_,_,_,_,_,_]⟩,⟨M,70,12,[_,_,_,_,_,_,_,_,_,_,_,_]⟩] ?_;refine bO af ?_;refine aC ?_;refine ah ?_;refine ae (aB 10) ?_;refine ae (aH 1) ?_;refine bU call22 (mj hm hw s.set hf.e) ?_;refine aa ?_;refine aK [(1,_),(3,_),(5,_)] [⟨O,70,12,[_,_,_,_,_,_,_,_,_,_,_,_]⟩,⟨M,70,12,[_,_,_,_,_,_,_,_,_,_,_,_]⟩] ?_;refine ah ?_;refine aa ?_;refine ae aE ?_;refine au [1,3,5,76] ?_;refine aM ot (fun dn=>?_) (fun dn=>?_)
   ·have eZ:=dn
    (try simp only[V.ai,ne_eq] at eZ)
    have oR:dA s.set=0:=(by simpa using dn)
    refine aV ?_;refine ae (aB 11) ?_;refine ae (aH 1) ?_;refine bU call128 (CZ hm hw s.dI (fun o h=>(hf.x o h).1)) ?_;refine aa ?_;refine aK [(1,_),(3,_),(5,_)] [⟨O,70,12,[_,_,_,_,_,_,_,_,_,_,_,_]⟩,⟨M,70,12,[_,_,_,_,_,_,_,_,_,_,_,_]⟩] ?_;refine ah ?_;refine aa ?_;refine ae aE ?_;refine au [1,3,5,81] ?_;refine aM ot (fun U=>?_) (fun U=>?_)
    ·have Z:=U
     (try simp only[V.ai,ne_eq] at Z)
     have Bb:kx s.dI=0:=(by simpa using U)
     refine aV ?_;refine ae (aB 6) ?_;refine ae (aH 1) ?_;refine bU call129 (qv hm hw s.bG (fun o h=>(hf.w o h).1)) ?_;refine aa ?_;refine aK [(1,_),(3,_),(5,_)] [⟨O,70,12,[_,_,_,_,_,_,_,_,_,_,_,_]⟩,⟨M,70,12,[_,_,_,_,_,_,_,_,_,_,_,_]⟩] ?_;refine⟨_,?_,{cr with kind:=s.kind,table:=tb,set:=s.set,dI:=s.dI,bG:=s.bG},lI s.bG,Af,(by unfold kE;rw[if_neg aX,if_neg bu,if_neg bQ,if_pos bE,if_pos oR,if_pos Bb]),rfl⟩;exact Wk.bI (n:=102) rfl (Sublist.refl _) dL
    have Z:=U
    (try simp only[V.ai,ne_eq] at Z)
    have Bb:¬kx s.dI=0:=(by simpa using U)
    refine aS ?_;refine⟨_,?_,{cr with kind:=s.kind,table:=tb,set:=s.set,dI:=s.dI,bG:=s.bG},kx s.dI,Af,(by unfold kE;rw[if_neg aX,if_neg bu,if_neg bQ,if_pos bE,if_pos oR,if_neg Bb]),rfl⟩;exact Wk.bI (n:=102) rfl (Sublist.refl _) dL
   have eZ:=dn
   (try simp only[V.ai,ne_eq] at eZ)
   have oR:¬dA s.set=0:=(by simpa using dn)
   refine aS ?_;refine ah ?_;refine aa ?_;refine ae aE ?_;refine au [1,3,5,81] ?_;refine aM ot (fun U=>?_) (fun U=>?_)
   ·exact absurd U (by simp[oR])
   have Z:=U
   (try simp only[V.ai,ne_eq] at Z)
   refine aS ?_;refine⟨_,?_,{cr with kind:=s.kind,table:=tb,set:=s.set,dI:=s.dI,bG:=s.bG},dA s.set,Af,(by unfold kE;rw[if_neg aX,if_neg bu,if_neg bQ,if_pos bE,if_neg oR]),rfl⟩;exact Wk.bI (n:=102) rfl (Sublist.refl _) dL
  have bE:=cl
  (try simp only[V.ai,ne_eq] at bE)
  refine ah ?_;refine ae aE ?_;refine aa ?_;refine au [1,3,5,85] ?_;refine aM ot (fun iz=>?_) (fun iz=>?_)
  ·have I:=iz
   (try simp only[V.ai,ne_eq] at I)
   refine ah ?_;refine ae (aB 6) ?_;refine ae (aH 1) ?_;refine ae (aB 6) ?_;refine bn 0 [_,_,_,_,_,_,_,_,_,_,_,_] sizeOf68 ?_;refine aK [(1,_),(3,_)] [⟨O,70,12,[_,_,_,_,_,_,_,_,_,_,_,_]⟩,⟨M,70,12,[_,_,_,_,_,_,_,_,_,_,_,_]⟩] ?_;refine aV ?_;refine ae (aB 6) ?_;refine ae (aH 1) ?_;refine bU call129 (qv hm hw s.bG (fun o h=>(hf.w o h).1)) ?_;refine aa ?_;refine aK [(1,_),(3,_),(5,_)] [⟨O,70,12,[_,_,_,_,_,_,_,_,_,_,_,_]⟩,⟨M,70,12,[_,_,_,_,_,_,_,_,_,_,_,_]⟩] ?_;refine⟨_,?_,{cr with kind:=s.kind,table:=tb,bG:=s.bG},lI s.bG,(by unfold my;rw[if_neg aX,if_neg bu,if_neg bQ,if_neg bE,if_pos I,ru]),(by unfold kE;rw[if_neg aX,if_neg bu,if_neg bQ,if_neg bE,if_pos I]),rfl⟩;exact Wk.bI (n:=102) rfl (Sublist.refl _) dL
  have I:=iz
  (try simp only[V.ai,ne_eq] at I)
  refine aS ?_;refine⟨_,?_,{cr with kind:=s.kind,table:=tb},0,(by unfold my;rw[if_neg aX,if_neg bu,if_neg bQ,if_neg bE,if_neg I,ru]),(by unfold kE;rw[if_neg aX,if_neg bu,if_neg bQ,if_neg bE,if_neg I]),rfl⟩;exact Wk.bI (n:=102) rfl (Sublist.refl _) dL
 rintro _ ⟨H,e,hH,uu,rfl⟩;refine aC ?_;refine aC ?_;have DI:=Jp (G:=G) s H;unfold fG at DI;refine aV ?_;refine aa ?_;refine ae aE ?_;refine aa ?_;refine dN (t:=95) lk (fun vJ=>?_) (fun vJ=>?_)
 ·have yV:=vJ;(try simp only[V.ai,ne_eq] at yV)
  refine ae (fw 1 [_,_,_,_,_,_,_,_,_,_,_,_]) ?_;refine ae (fw 0 [_,_,_,_,_,_,_,_,_,_,_,_]) ?_;refine qx dH rfl rfl rfl call130 (DI) ⟨ot,ot,trivial⟩ ?_;refine ae e9 ?_;refine ae cW ?_;refine aK [(5,_),(100,_)] [⟨O,70,12,[_,_,_,_,_,_,_,_,_,_,_,_]⟩,⟨M,70,12,[_,_,_,_,_,_,_,_,_,_,_,_]⟩] ?_;refine aM ot (fun wT=>?_) (fun wT=>?_)
  ·have zI:=wT
   (try simp only[V.ai,ne_eq] at zI)
   have E:ig s=6:=(by unfold ig;rw[if_neg mS,if_pos ⟨by rw[<-uu];simpa using vJ,by rw[<-hH];simpa using wT⟩])
   refine aV ?_;refine aa ?_;refine au [5] ?_;refine ah ?_;refine aa ?_;refine aa ?_;refine au [2] ?_;refine aI ?_;refine bl ?_;exact⟨by first|rw[E]|rw[E];rfl,rfl⟩
  have zI:=wT
  (try simp only[V.ai,ne_eq] at zI)
  have E:ig s=e:=(by unfold ig;rw[if_neg mS,if_neg (by rw[<-uu,<-hH];exact(fun h=>by obtain⟨h1,h2⟩:=h;simp_all)),uu])
  refine aS ?_;refine ah ?_;refine aa ?_;refine aa ?_;refine au [2] ?_;refine aI ?_;refine bl ?_;exact⟨by first|rw[E]|rw[E];rfl,rfl⟩
 have yV:=vJ;(try simp only[V.ai,ne_eq] at yV)
 refine an ?_;refine an ?_;refine an ?_;refine an ?_;refine ae bC ?_;refine au [5,100] ?_;refine iG ot w6 ?_;have E:ig s=e:=(by unfold ig;rw[if_neg mS,if_neg (by rw[<-uu,<-hH];exact(fun h=>by obtain⟨h1,h2⟩:=h;simp_all)),uu])
 refine aS ?_;refine ah ?_;refine aa ?_;refine aa ?_;refine au [2] ?_;refine aI ?_;refine bl ?_;exact⟨by first|rw[E]|rw[E];rfl,rfl⟩
theorem B6:∀(l:List aZ) (H:List (List Tk)),(l.foldl jt H).flatten.length<=H.flatten.length+5*l.length
 | [],H=>by simp
 | o::r,H=>by
  have h1:=B6 r (jt H o);have h2:=B4 (h:=H) (o:=o);rw[foldl_cons,length_cons];omega
theorem uN(l:List aZ):(kz l).length<=5*l.length:=by
 have h:=B6 l [];have h2:=(oe (h:=l.foldl jt []) (n:=0)).1;have E:=rV (l.foldl jt []) 0;simp only[List.take_zero,flatten_nil,length_nil] at h E;unfold kz;omega
theorem B7(l:List aZ):(fp l).length<=5*l.length+1:=by
 have h:=uN l;unfold fp;split
 ·simp
 rw[length_append,length_map];simp only[length_cons,length_nil];omega
def ff(ns:List ByteArray):Nat->List Tk
 | 0=>[]
 | i+1=>ff ns i++(if i>0 then [bf ⟨#[44]⟩] else [])++[aT (ns.getD i ⟨#[]⟩)]
theorem xM(E:List ByteArray):∀i,(ff E i).length<=2*i
 | 0=>Nat.le_refl _
 | i+1=>by
  have I:=xM E i;have M:(if i>0 then [bf ⟨#[44]⟩] else []).length<=1:=(by split<;>simp)
  unfold ff;rw[length_append,length_append];simp only[length_cons,length_nil];omega
theorem xC(hi:i<E.length)(h:0<i)(X:List Tk):((X++ff E i)++[bf ⟨#[44]⟩])++[aT E[i]]=X++ff E (i+1):=by
 rw[ff,if_pos h,getD_at hi];simp only[append_assoc]
theorem xw(hi:i<E.length)(h:¬0<i)(X:List Tk):(X++ff E i)++[aT E[i]]=X++ff E (i+1):=by
 rw[ff,if_neg h,getD_at hi];simp only[append_assoc,append_nil]
def qS(s:dh):List Tk:=if s.count=true then [aT ⟨#[67,79,85,78,84]⟩,bf ⟨#[40]⟩,bf ⟨#[42]⟩,bf ⟨#[41]⟩] else if s.names.length=0 then [bf ⟨#[42]⟩] else ff s.names s.names.length
def tg(s:dh):List Tk:=if cM s.order ⟨#[]⟩=true then [] else [⟨#[79,82,68,69,82]⟩,⟨#[66,89]⟩,s.order].map aT++(if s.down=true then [aT ⟨#[68,69,83,67]⟩] else [])
def zJ(s:dh):List Tk:=if 0<=s.eY then [aT ⟨#[76,73,77,73,84]⟩,⟨2,⟨#[]⟩,s.eY⟩] else []
def sU(s:dh):List Tk:=((([⟨#[83,69,76,69,67,84]⟩].map aT++qS s)++[⟨#[70,82,79,77]⟩,s.table].map aT++fp s.bG)++tg s)++zJ s
theorem me:(Tryz.prog.info? 113).map (fun i=>(i.zero,i.size,i.bytes))=some (some (.agg #[.int .i64 0,.string ⟨#[]⟩,.int .i64 0]),3,32):=by kernel_rfl
theorem Gn : ∀ w, ((#[{ name := "Kind", type := 3, offset := 0, embedded := false, tag := "", pkgPath := "", byteOffset := 0 }, { name := "Text", type := 9, offset := 1, embedded := false, tag := "", pkgPath := "", byteOffset := 8 }, { name := "Int", type := 3, offset := 2, embedded := false, tag := "", pkgPath := "", byteOffset := 24 }] : Array Field).mapM fun f => do pure (f.offset, ← sizeOf f.type) : Sem (Array (Nat × Nat))).run Tryz.prog w = .ok #[(0, 1), (1, 1), (2, 1)] w := fun w => by simp [sizeOf3, sizeOf9]
theorem GW(s:dh)(hf:pP s)(On:s.bG.length=0\/gb 0 s.bG=0):VP Tryz.prog G 134 [.agg (fG s)] (.list 3 ((sU s).flatMap cT) (sU s).length):=by
 refine cf func134 rfl ntmps134 aF fun X0 w0 dm=>?_;have eI:=fU;have h6:=hf.ok.2.2.1;have fN:=hf.ok.2.2.2.1;have Oo:=B7 s.bG;have iQ:=uN s.bG;unfold fG;refine ah ?_;refine fI (ds:=[_,_,_,_,_,_,_,_,_,_,_,_]) ay rfl rfl ot rfl rfl (fun M=>?_);refine aa ?_;refine aK [(1,_)] [⟨M,70,12,[_,_,_,_,_,_,_,_,_,_,_,_]⟩] ?_;refine ah ?_;refine dM (aU 0 [_]) [.string ⟨#[]⟩] [_] zeroValue9 runUnderlying34 sizeOf9 (fun b6=>?_);refine aW (dj (S1:=[⟨b6,9,1*1,flatMap cS ([⟨#[83,69,76,69,67,84]⟩])⟩]) (A:=[_])) ?_;refine iH (t:=6) (Sq:=[⟨b6,9,1*1,flatMap cS ([⟨#[83,69,76,69,67,84]⟩])⟩]) lk (cU (g:=cS) (sz:=1) (e:=9) (ls:=[⟨#[83,69,76,69,67,84]⟩]) (Nat.le_refl _) (show 1<=maxLen by decide)) (de ej _) (cy (A:=[_])) ?_;refine cP ay rfl rfl rfl call131 (qJ [⟨#[83,69,76,69,67,84]⟩] rz) ⟨ot,trivial⟩ (jP _) ?_;rintro _ S7 ⟨tY,FR,rfl,tZ⟩;refine aW (dj (A:=[_])) ?_;refine aa ?_;refine bc (Wk.aR (n:=84) (l':=[(1,_),(3,_)]) (S':=(⟨M,70,12,[_,_,_,_,_,_,_,_,_,_,_,_]⟩::S7)) rfl rfl bj) ?_;refine bi ?_
 refine nv (fun cn=>∃(Q:List Tk),∃(ad:Option Addr),∃(cp:Nat),∃(Sx:List ak),(Q=[⟨#[83,69,76,69,67,84]⟩].map aT++qS s)/\(bV 113 3 (Q.flatMap cT) Q.length ad cp Sx)/\(Q.length<=20)/\cn=(⟨84,[(1,bD M),(3,az ad Q.length cp)],(⟨M,70,12,[ag s.kind,bT s.table,av 2 cC s.cF,av 3 cV s.row,av 1 cS s.names,bw s.count,av 5 cO s.bG,bT s.order,bw s.down,ag s.eY,bT s.set,av 5 cO s.dI]⟩::Sx)⟩:St)) ?_ ?_
 ·refine bZ ?_;refine ah ?_;refine ae (aB 5) ?_;refine ae (aH 0) ?_;refine aa ?_;refine au [1,3,28] ?_;refine aM ot (fun aA=>?_) (fun aA=>?_)
  ·have U:=aA
   (try simp only[V.ai,ne_eq] at U)
   refine aV ?_;refine aa ?_;refine bU call190 (nt ⟨#[67,79,85,78,84]⟩) ?_;refine bU call136 (eN ⟨#[40]⟩) ?_;refine bU call136 (eN ⟨#[42]⟩) ?_;refine bU call136 (eN ⟨#[41]⟩) ?_;refine dM (aU 0 [_,_,_,_]) [.int .i64 0,.string ⟨#[]⟩,.int .i64 0,.int .i64 0,.string ⟨#[]⟩,.int .i64 0,.int .i64 0,.string ⟨#[]⟩,.int .i64 0,.int .i64 0,.string ⟨#[]⟩,.int .i64 0] [_,_,_,_,_,_,_,_,_,_,_,_] zeroValue113 runUnderlying99 sizeOf113 (fun QD=>?_);refine fB 0 36 3 4 ?_;refine fY (ls:=([⟨#[83,69,76,69,67,84]⟩].map aT)) (new:=[aT ⟨#[67,79,85,78,84]⟩,bf ⟨#[40]⟩,bf ⟨#[42]⟩,bf ⟨#[41]⟩]) (Sq:=S7) dO gh ay rfl rfl underlying99 me rfl cc ot tZ (cy (A:=[_])) ot cq kF iX (fun um Y Mz MA=>?_);refine aW (dj (S1:=[⟨um,113,Y*3,flatMap cT (([⟨#[83,69,76,69,67,84]⟩].map aT)++[aT ⟨#[67,79,85,78,84]⟩,bf ⟨#[40]⟩,bf ⟨#[42]⟩,bf ⟨#[41]⟩])⟩]) (A:=[_])) ?_;refine aa ?_;refine bc (Wk.aR (n:=84) (l':=[(1,_),(3,_)]) (S':=(⟨M,70,12,[_,_,_,_,_,_,_,_,_,_,_,_]⟩::[⟨um,113,Y*3,flatMap cT (([⟨#[83,69,76,69,67,84]⟩].map aT)++[aT ⟨#[67,79,85,78,84]⟩,bf ⟨#[40]⟩,bf ⟨#[42]⟩,bf ⟨#[41]⟩])⟩])) rfl rfl bj) ?_;refine bi ?_
   refine⟨_,?_,(([⟨#[83,69,76,69,67,84]⟩].map aT)++[aT ⟨#[67,79,85,78,84]⟩,bf ⟨#[40]⟩,bf ⟨#[42]⟩,bf ⟨#[41]⟩]),(some ⟨um,0,none⟩),Y,[⟨um,113,Y*3,flatMap cT (([⟨#[83,69,76,69,67,84]⟩].map aT)++[aT ⟨#[67,79,85,78,84]⟩,bf ⟨#[40]⟩,bf ⟨#[42]⟩,bf ⟨#[41]⟩])⟩],(by unfold qS;rw[if_pos U]),(cU Mz MA),zX,rfl⟩;exact Wk.bI (n:=84) rfl (Sublist.refl _) gx
  have U:=aA
  (try simp only[V.ai,ne_eq] at U)
  refine ah ?_;refine ae (aB 4) ?_;refine ae (aH 0) ?_;refine ae cZ ?_;refine ae aE ?_;refine aa ?_;refine au [1,3,38] ?_;refine aM ot (fun aG=>?_) (fun aG=>?_)
  ·have cA:=aG
   (try simp only[V.ai,ne_eq] at cA)
   refine aV ?_;refine aa ?_;refine bU call136 (eN ⟨#[42]⟩) ?_;refine dM (aU 0 [_]) [.int .i64 0,.string ⟨#[]⟩,.int .i64 0] [_,_,_] zeroValue113 runUnderlying99 sizeOf113 (fun QE=>?_);refine fB 0 45 3 1 ?_;refine fY (ls:=([⟨#[83,69,76,69,67,84]⟩].map aT)) (new:=[bf ⟨#[42]⟩]) (Sq:=S7) dO gh ay rfl rfl underlying99 me rfl cc ot tZ (cy (A:=[_])) ot cq kF iX (fun wU Z MB MC=>?_);refine aW (dj (S1:=[⟨wU,113,Z*3,flatMap cT (([⟨#[83,69,76,69,67,84]⟩].map aT)++[bf ⟨#[42]⟩])⟩]) (A:=[_])) ?_;refine aa ?_;refine bc (Wk.aR (n:=84) (l':=[(1,_),(3,_)]) (S':=(⟨M,70,12,[_,_,_,_,_,_,_,_,_,_,_,_]⟩::[⟨wU,113,Z*3,flatMap cT (([⟨#[83,69,76,69,67,84]⟩].map aT)++[bf ⟨#[42]⟩])⟩])) rfl rfl bj) ?_;refine bi ?_;refine⟨_,?_,(([⟨#[83,69,76,69,67,84]⟩].map aT)++[bf ⟨#[42]⟩]),(some ⟨wU,0,none⟩),Z,[⟨wU,113,Z*3,flatMap cT (([⟨#[83,69,76,69,67,84]⟩].map aT)++[bf ⟨#[42]⟩])⟩],(by unfold qS;rw[if_neg mJ,if_pos w7]),(cU MB MC),zX,rfl⟩;exact Wk.bI (n:=84) rfl (Sublist.refl _) gx
  have cA:=aG
  (try simp only[V.ai,ne_eq] at cA)
  refine ah ?_;refine ae (aB 4) ?_;refine ae (aH 0) ?_;refine ae cZ ?_;refine aa ?_;refine au [1,3,9,10,11] ?_;refine bZ ?_;refine fa (fun (gU:Nat×Option Addr×Nat×List ak) cn=>match gU with|(i,gC,gD,So)=>(i<=s.names.length)/\(bV 113 3 ((([⟨#[83,69,76,69,67,84]⟩].map aT++ff s.names i)).flatMap cT) (([⟨#[83,69,76,69,67,84]⟩].map aT++ff s.names i)).length gC gD So)/\cn=(⟨84,[(1,bD M),(3,az gC (([⟨#[83,69,76,69,67,84]⟩].map aT++ff s.names i)).length gD),(9,av 1 cS s.names),(10,ag (s.names.length:Nat)),(11,ag (i:Nat))],((⟨M,70,12,[ag s.kind,bT s.table,av 2 cC s.cF,av 3 cV s.row,av 1 cS s.names,bw s.count,av 5 cO s.bG,bT s.order,bw s.down,ag s.eY,bT s.set,av 5 cO s.dI]⟩:ak)::So)⟩:St)) (fun (gU:Nat×Option Addr×Nat×List ak)=>match gU with|(i,gC,gD,So)=>s.names.length-i) (0,tY,FR,S7) ⟨(Nat.zero_le _),(bV.cast tZ (by simp[ff])),rfl⟩ (Wk.bI rfl cG zY) ?_;rintro⟨i,gC,gD,So⟩ _ ⟨hi,lB,rfl⟩;refine ah ?_;refine ae aE ?_;refine au [1,3,9,10,11,12] ?_;refine aC ?_;refine aM ot (fun bJ=>?_) (fun bJ=>?_)
  ·have aX:=bJ
   (try simp only[V.ai,ne_eq] at aX)
   have aD:i<s.names.length:=(by simp at bJ;omega)
   have fk:=xM s.names i;refine aS ?_;refine aC ?_;refine bZ ?_;refine ah ?_;refine aa ?_;refine ae (dW 1 (h:=oD)) ?_;refine ae fE ?_;refine aa ?_;refine aa ?_;refine au [1,3,4,5,9,10,11] ?_;refine aC ?_;refine ah ?_;refine aa ?_;refine ae aE ?_;refine au [1,3,5,9,10,11,17] ?_;refine aM ot (fun ct=>?_) (fun ct=>?_)
   ·have bu:=ct
    (try simp only[V.ai,ne_eq] at bu)
    refine aV ?_;refine aa ?_;refine bU call136 (eN ⟨#[44]⟩) ?_;refine dM (aU 0 [_]) [.int .i64 0,.string ⟨#[]⟩,.int .i64 0] [_,_,_] zeroValue113 runUnderlying99 sizeOf113 (fun wQ=>?_);refine fB 0 20 3 1 ?_;refine fY (ls:=(([⟨#[83,69,76,69,67,84]⟩].map aT++ff s.names i))) (new:=[bf ⟨#[44]⟩]) (Sq:=So) dO gh ay rfl rfl underlying99 me rfl cc ot lB (cy (A:=[_])) ot cq kF iX (fun Bc zK MD ME=>?_);refine aW (dj (S1:=[⟨Bc,113,zK*3,flatMap cT ((([⟨#[83,69,76,69,67,84]⟩].map aT++ff s.names i))++[bf ⟨#[44]⟩])⟩]) (A:=[_])) ?_;refine aa ?_;refine bc (Wk.aR (n:=84) (l':=[(1,_),(3,_),(5,_),(9,_),(10,_),(11,_)]) (S':=(⟨M,70,12,[_,_,_,_,_,_,_,_,_,_,_,_]⟩::[⟨Bc,113,zK*3,flatMap cT ((([⟨#[83,69,76,69,67,84]⟩].map aT++ff s.names i))++[bf ⟨#[44]⟩])⟩])) rfl rfl bj) ?_;refine bi ?_;refine aV ?_;refine aa ?_;refine aa ?_;refine bU call190 (nt s.names[i]) ?_;refine dM (aU 0 [_]) [.int .i64 0,.string ⟨#[]⟩,.int .i64 0] [_,_,_] zeroValue113 runUnderlying99 sizeOf113 (fun wB=>?_);refine fB 0 25 3 1 ?_
    refine fY (ls:=((([⟨#[83,69,76,69,67,84]⟩].map aT++ff s.names i))++[bf ⟨#[44]⟩])) (new:=[aT s.names[i]]) (Sq:=[⟨Bc,113,zK*3,flatMap cT ((([⟨#[83,69,76,69,67,84]⟩].map aT++ff s.names i))++[bf ⟨#[44]⟩])⟩]) dO gh ay rfl rfl underlying99 me rfl cc ot (cU MD ME) (cy (A:=[_])) ot cq kF iX (fun I E th tj=>?_);refine aW (dj (S1:=[⟨I,113,E*3,flatMap cT (((([⟨#[83,69,76,69,67,84]⟩].map aT++ff s.names i))++[bf ⟨#[44]⟩])++[aT s.names[i]])⟩]) (A:=[_])) ?_;refine aa ?_;refine bc (Wk.aR (n:=84) (l':=[(1,_),(3,_),(9,_),(10,_),(11,_)]) (S':=(⟨M,70,12,[_,_,_,_,_,_,_,_,_,_,_,_]⟩::[⟨I,113,E*3,flatMap cT (((([⟨#[83,69,76,69,67,84]⟩].map aT++ff s.names i))++[bf ⟨#[44]⟩])++[aT s.names[i]])⟩])) rfl rfl bj) ?_;refine bi ?_;refine aV ?_;refine ae aE ?_;refine aa ?_;refine au [1,3,9,10,11] ?_;refine⟨((i+1),(some ⟨I,0,none⟩),E,[⟨I,113,E*3,flatMap cT (((([⟨#[83,69,76,69,67,84]⟩].map aT++ff s.names i))++[bf ⟨#[44]⟩])++[aT s.names[i]])⟩]),_,?_,?_,w7,(bV.cast (cU th tj) (by first|exact xC aD w7 _|exact xw aD w7 _)),rfl⟩
    ·first|omega|(simp only[];omega)
    exact Wk.bI (n:=84) rfl cG zY
   have bu:=ct
   (try simp only[V.ai,ne_eq] at bu)
   refine aS ?_;refine aV ?_;refine aa ?_;refine aa ?_;refine bU call190 (nt s.names[i]) ?_;refine dM (aU 0 [_]) [.int .i64 0,.string ⟨#[]⟩,.int .i64 0] [_,_,_] zeroValue113 runUnderlying99 sizeOf113 (fun wB=>?_);refine fB 0 25 3 1 ?_;refine fY (ls:=(([⟨#[83,69,76,69,67,84]⟩].map aT++ff s.names i))) (new:=[aT s.names[i]]) (Sq:=So) dO gh ay rfl rfl underlying99 me rfl cc ot lB (cy (A:=[_])) ot cq kF iX (fun I E th tj=>?_);refine aW (dj (S1:=[⟨I,113,E*3,flatMap cT ((([⟨#[83,69,76,69,67,84]⟩].map aT++ff s.names i))++[aT s.names[i]])⟩]) (A:=[_])) ?_;refine aa ?_;refine bc (Wk.aR (n:=84) (l':=[(1,_),(3,_),(9,_),(10,_),(11,_)]) (S':=(⟨M,70,12,[_,_,_,_,_,_,_,_,_,_,_,_]⟩::[⟨I,113,E*3,flatMap cT ((([⟨#[83,69,76,69,67,84]⟩].map aT++ff s.names i))++[aT s.names[i]])⟩])) rfl rfl bj) ?_;refine bi ?_;refine aV ?_;refine ae aE ?_;refine aa ?_;refine au [1,3,9,10,11] ?_;refine⟨((i+1),(some ⟨I,0,none⟩),E,[⟨I,113,E*3,flatMap cT ((([⟨#[83,69,76,69,67,84]⟩].map aT++ff s.names i))++[aT s.names[i]])⟩]),_,?_,?_,w7,(bV.cast (cU th tj) (by first|exact xC aD w7 _|exact xw aD w7 _)),rfl⟩
   ·first|omega|(simp only[];omega)
   exact Wk.bI (n:=84) rfl cG zY
  have aX:=bJ
  (try simp only[V.ai,ne_eq] at aX)
  have lS:i=s.names.length:=(by simp at bJ;omega)
  refine ep ?_;refine⟨_,?_,(([⟨#[83,69,76,69,67,84]⟩].map aT++ff s.names i)),gC,gD,So,(by unfold qS;rw[if_neg mJ,if_neg w7,lS]),lB,zX,rfl⟩;exact Wk.bI (n:=84) rfl (Sublist.refl _) gx
 rintro _ ⟨Q,ad,cp,Sx,hQ,jk,Oq,rfl⟩;refine aC ?_;refine aV ?_;refine aa ?_;refine ae (aB 1) ?_;refine ae (aH 0) ?_;refine dM (aU 0 [_,_]) [.string ⟨#[]⟩,.string ⟨#[]⟩] [_,_] zeroValue9 runUnderlying34 sizeOf9 (fun uq=>?_);refine aW (pb (S2:=[⟨uq,9,2*1,flatMap cS ([⟨#[70,82,79,77]⟩,s.table])⟩]) (A:=[_])) ?_;refine iH (t:=50) (Sq:=[⟨uq,9,2*1,flatMap cS ([⟨#[70,82,79,77]⟩,s.table])⟩]) lk (cU (g:=cS) (sz:=1) (e:=9) (ls:=[⟨#[70,82,79,77]⟩,s.table]) (Nat.le_refl _) (show 2<=maxLen by decide)) (de ej _) (qy (A:=[_])) ?_;refine bU call131 (jU [⟨#[70,82,79,77]⟩,s.table] pT) ?_;refine fY (ls:=Q) (new:=([⟨#[70,82,79,77]⟩,s.table].map aT)) (Sq:=Sx) dO gh ay rfl rfl underlying99 me rfl cc ot jk (cy (A:=[_])) ot cq kF iX (fun Be zL MF MG=>?_);refine aW (dj (S1:=[⟨Be,113,zL*3,flatMap cT (Q++([⟨#[70,82,79,77]⟩,s.table].map aT))⟩]) (A:=[_])) ?_;refine aa ?_;refine bc (Wk.aR (n:=84) (l':=[(1,_),(3,_)]) (S':=(⟨M,70,12,[_,_,_,_,_,_,_,_,_,_,_,_]⟩::[⟨Be,113,zL*3,flatMap cT (Q++([⟨#[70,82,79,77]⟩,s.table].map aT))⟩])) rfl rfl bj) ?_;refine bi ?_;refine ah ?_;refine aa ?_;refine ae (aB 6) ?_;refine ae (aH 0) ?_;refine bU call138 (rY s.bG fN On (fun o h=>(hf.w o h).2) w7) ?_
 refine qo (ls:=(Q++([⟨#[70,82,79,77]⟩,s.table].map aT))) (new:=(fp s.bG)) (Sq:=[⟨Be,113,zL*3,flatMap cT (Q++([⟨#[70,82,79,77]⟩,s.table].map aT))⟩]) dO gh ay rfl rfl underlying99 me rfl cc runUnderlying99 sizeOf113 ot (cU MF MG) (cy (A:=[_])) ot kF iX (fun MH MI Bf Ef=>?_);refine aW (dj (A:=[_])) ?_;refine aa ?_;refine bc (Wk.aR (n:=84) (l':=[(1,_),(3,_)]) (S':=(⟨M,70,12,[_,_,_,_,_,_,_,_,_,_,_,_]⟩::Bf)) rfl rfl bj) ?_;refine bi ?_;refine nv (fun cn=>∃(Q:List Tk),∃(ad:Option Addr),∃(cp:Nat),∃(Sx:List ak),(Q=(([⟨#[83,69,76,69,67,84]⟩].map aT++qS s)++[⟨#[70,82,79,77]⟩,s.table].map aT++fp s.bG)++tg s)/\(bV 113 3 (Q.flatMap cT) Q.length ad cp Sx)/\(Q.length<=500)/\cn=(⟨84,[(1,bD M),(3,az ad Q.length cp)],(⟨M,70,12,[ag s.kind,bT s.table,av 2 cC s.cF,av 3 cV s.row,av 1 cS s.names,bw s.count,av 5 cO s.bG,bT s.order,bw s.down,ag s.eY,bT s.set,av 5 cO s.dI]⟩::Sx)⟩:St)) ?_ ?_
 ·refine ah ?_;refine ae (aB 7) ?_;refine ae (aH 0) ?_;refine ae aE ?_;refine au [1,3,60] ?_;refine aM ot (fun ck=>?_) (fun ck=>?_)
  ·have bQ:=ck
   (try simp only[V.ai,ne_eq] at bQ)
   refine ah ?_;refine aa ?_;refine ae (aB 7) ?_;refine ae (aH 0) ?_;refine dM (aU 0 [_,_,_]) [.string ⟨#[]⟩,.string ⟨#[]⟩,.string ⟨#[]⟩] [_,_,_] zeroValue9 runUnderlying34 sizeOf9 (fun FT=>?_);refine aW (pb (S2:=[⟨FT,9,3*1,flatMap cS ([⟨#[79,82,68,69,82]⟩,⟨#[66,89]⟩,s.order])⟩]) (A:=[_])) ?_;refine iH (t:=64) (Sq:=[⟨FT,9,3*1,flatMap cS ([⟨#[79,82,68,69,82]⟩,⟨#[66,89]⟩,s.order])⟩]) lk (cU (g:=cS) (sz:=1) (e:=9) (ls:=[⟨#[79,82,68,69,82]⟩,⟨#[66,89]⟩,s.order]) (Nat.le_refl _) (show 3<=maxLen by decide)) (de ej _) (qy (A:=[_])) ?_;refine bU call131 (jU [⟨#[79,82,68,69,82]⟩,⟨#[66,89]⟩,s.order] (by show 3<=10;decide)) ?_;refine fY (ls:=((Q++([⟨#[70,82,79,77]⟩,s.table].map aT))++(fp s.bG))) (new:=([⟨#[79,82,68,69,82]⟩,⟨#[66,89]⟩,s.order].map aT)) (Sq:=Bf) dO gh ay rfl rfl underlying99 me rfl cc ot Ef (cy (A:=[_])) ot cq kF iX (fun n5 O vK vL=>?_);refine aW (dj (S1:=[⟨n5,113,O*3,flatMap cT (((Q++([⟨#[70,82,79,77]⟩,s.table].map aT))++(fp s.bG))++([⟨#[79,82,68,69,82]⟩,⟨#[66,89]⟩,s.order].map aT))⟩]) (A:=[_])) ?_;refine aa ?_;refine bc (Wk.aR (n:=84) (l':=[(1,_),(3,_)]) (S':=(⟨M,70,12,[_,_,_,_,_,_,_,_,_,_,_,_]⟩::[⟨n5,113,O*3,flatMap cT (((Q++([⟨#[70,82,79,77]⟩,s.table].map aT))++(fp s.bG))++([⟨#[79,82,68,69,82]⟩,⟨#[66,89]⟩,s.order].map aT))⟩])) rfl rfl bj) ?_;refine bi ?_;refine ah ?_;refine ae (aB 8) ?_
   refine ae (aH 0) ?_;refine au [1,3,68] ?_;refine aM ot (fun cl=>?_) (fun cl=>?_)
   ·have bE:=cl
    (try simp only[V.ai,ne_eq] at bE)
    refine aV ?_;refine aa ?_;refine bU call190 (nt ⟨#[68,69,83,67]⟩) ?_;refine dM (aU 0 [_]) [.int .i64 0,.string ⟨#[]⟩,.int .i64 0] [_,_,_] zeroValue113 runUnderlying99 sizeOf113 (fun QF=>?_);refine fB 0 71 3 1 ?_;refine fY (ls:=(((Q++([⟨#[70,82,79,77]⟩,s.table].map aT))++(fp s.bG))++([⟨#[79,82,68,69,82]⟩,⟨#[66,89]⟩,s.order].map aT))) (new:=[aT ⟨#[68,69,83,67]⟩]) (Sq:=[⟨n5,113,O*3,flatMap cT (((Q++([⟨#[70,82,79,77]⟩,s.table].map aT))++(fp s.bG))++([⟨#[79,82,68,69,82]⟩,⟨#[66,89]⟩,s.order].map aT))⟩]) dO gh ay rfl rfl underlying99 me rfl cc ot (cU vK vL) (cy (A:=[_])) ot cq kF iX (fun wV vM MJ MK=>?_);refine aW (dj (S1:=[⟨wV,113,vM*3,flatMap cT ((((Q++([⟨#[70,82,79,77]⟩,s.table].map aT))++(fp s.bG))++([⟨#[79,82,68,69,82]⟩,⟨#[66,89]⟩,s.order].map aT))++[aT ⟨#[68,69,83,67]⟩])⟩]) (A:=[_])) ?_;refine aa ?_;refine bc (Wk.aR (n:=84) (l':=[(1,_),(3,_)]) (S':=(⟨M,70,12,[_,_,_,_,_,_,_,_,_,_,_,_]⟩::[⟨wV,113,vM*3,flatMap cT ((((Q++([⟨#[70,82,79,77]⟩,s.table].map aT))++(fp s.bG))++([⟨#[79,82,68,69,82]⟩,⟨#[66,89]⟩,s.order].map aT))++[aT ⟨#[68,69,83,67]⟩])⟩])) rfl rfl bj) ?_;refine bi ?_
    refine⟨_,?_,((((Q++([⟨#[70,82,79,77]⟩,s.table].map aT))++(fp s.bG))++([⟨#[79,82,68,69,82]⟩,⟨#[66,89]⟩,s.order].map aT))++[aT ⟨#[68,69,83,67]⟩]),(some ⟨wV,0,none⟩),vM,[⟨wV,113,vM*3,flatMap cT ((((Q++([⟨#[70,82,79,77]⟩,s.table].map aT))++(fp s.bG))++([⟨#[79,82,68,69,82]⟩,⟨#[66,89]⟩,s.order].map aT))++[aT ⟨#[68,69,83,67]⟩])⟩],(by rw[hQ];unfold tg;rw[if_neg (by unfold cM;simpa using ck),if_pos bE];simp only[append_assoc]),(cU MJ MK),iX,rfl⟩;exact Wk.bI (n:=84) rfl (Sublist.refl _) gx
   have bE:=cl
   (try simp only[V.ai,ne_eq] at bE)
   refine aS ?_;refine⟨_,?_,(((Q++([⟨#[70,82,79,77]⟩,s.table].map aT))++(fp s.bG))++([⟨#[79,82,68,69,82]⟩,⟨#[66,89]⟩,s.order].map aT)),(some ⟨n5,0,none⟩),O,[⟨n5,113,O*3,flatMap cT (((Q++([⟨#[70,82,79,77]⟩,s.table].map aT))++(fp s.bG))++([⟨#[79,82,68,69,82]⟩,⟨#[66,89]⟩,s.order].map aT))⟩],(by rw[hQ];unfold tg;rw[if_neg (by unfold cM;simpa using ck),if_neg (by simpa using cl)];simp only[append_assoc,append_nil]),(cU vK vL),iX,rfl⟩;exact Wk.bI (n:=84) rfl (Sublist.refl _) gx
  have bQ:=ck
  (try simp only[V.ai,ne_eq] at bQ)
  refine aS ?_;refine⟨_,?_,((Q++([⟨#[70,82,79,77]⟩,s.table].map aT))++(fp s.bG)),MH,MI,Bf,(by rw[hQ];unfold tg;rw[if_pos (by unfold cM;simpa using ck)];simp),Ef,iX,rfl⟩;exact Wk.bI (n:=84) rfl (Sublist.refl _) gx
 rintro _ ⟨Q,ad,cp,Sx,hQ,jk,Oq,rfl⟩;refine aC ?_;refine aC ?_;refine aV ?_;refine ae (aB 9) ?_;refine ae (aH 0) ?_;refine ae aE ?_;refine au [1,3,75] ?_;refine aM ot (fun dn=>?_) (fun dn=>?_)
 ·have eZ:=dn
  (try simp only[V.ai,ne_eq] at eZ)
  refine ez (aq (take 1 _)) af (fun _ h=>(Sublist.map _ (take_sublist _ _)).subset h) ?_;refine aj 0 rfl bg ?_;refine aj 2 rfl (aB 9) ?_;refine aj 3 rfl (aH 0) ?_;refine aj 4 rfl (dc (pl:=[(0,_),(2,_)]) (ds:=[_,_,_]) rfl zeroValue113 runUnderlying113 Gn ⟨rfl,aN,rfl,ot,trivial⟩ rfl rfl) ?_;refine bt.later rfl ?_;refine aL (i:=1) af ?_;refine bY call190 (nt ⟨#[76,73,77,73,84]⟩) ?_;refine aL (i:=5) af ?_;refine bA (aU 0 [_,_]) [.int .i64 0,.string ⟨#[]⟩,.int .i64 0,.int .i64 0,.string ⟨#[]⟩,.int .i64 0] [_,_,_,_,_,_] zeroValue113 runUnderlying99 sizeOf113 (fun QG=>?_);refine bz 0 81 3 2 ?_;refine aL (i:=6) af ?_;refine n6 (ls:=Q) (new:=[aT ⟨#[76,73,77,73,84]⟩,(⟨2,⟨#[]⟩,s.eY⟩:Tk)]) (Sq:=Sx) dO gh rfl ay rfl rfl underlying99 me rfl cc ot jk (cy (A:=[_])) ot cq kF iX (fun Bg zM ML MM=>?_);refine gN (dj (S1:=[⟨Bg,113,zM*3,flatMap cT (Q++[aT ⟨#[76,73,77,73,84]⟩,(⟨2,⟨#[]⟩,s.eY⟩:Tk)])⟩]) (A:=[_])) ?_;refine bR 7 rfl bg ?_;refine jr (y:=⟨84,[(3,_)],(⟨M,70,12,[_,_,_,_,_,_,_,_,_,_,_,_]⟩::[⟨Bg,113,zM*3,flatMap cT (Q++[aT ⟨#[76,73,77,73,84]⟩,(⟨2,⟨#[]⟩,s.eY⟩:Tk)])⟩])⟩) (Wk.aR rfl rfl bj) rfl ?_;refine bO af ?_;refine ah ?_;refine aa ?_;refine aa ?_;refine au [2] ?_
  refine jn (t:=2) (Sq:=[⟨Bg,113,zM*3,flatMap cT (Q++[aT ⟨#[76,73,77,73,84]⟩,(⟨2,⟨#[]⟩,s.eY⟩:Tk)])⟩]) lk (cU ML MM) (de dO _) (cy (A:=[_])) ?_;refine aI ?_;refine bl ?_;refine⟨?_,rfl⟩;rw[hQ];unfold sU zJ;rw[if_pos w7]
 have eZ:=dn
 (try simp only[V.ai,ne_eq] at eZ)
 refine aS ?_;refine ah ?_;refine aa ?_;refine aa ?_;refine au [2] ?_;refine jn (t:=2) (Sq:=Sx) lk jk (de dO _) (cy (A:=[_])) ?_;refine aI ?_;refine bl ?_;refine⟨?_,rfl⟩;rw[hQ];unfold sU zJ;rw[if_neg w7];simp only[append_nil]
def yW(k:Int):ByteArray:=pA.getD k.toNat ⟨#[]⟩
theorem Iw{k:Int}(h1:1<=k)(h2:k<=3):typesC[0+k.toNat*1]?=some (.string (yW k)):=by
 have h:k=1\/k=2\/k=3:=(by omega)
 rcases h with rfl|rfl|rfl<;>rfl
def fq(c:dV):List Tk:=[c.n,yW c.k].map aT
def nF:List ByteArray:=[⟨#[66,69,71,73,78]⟩,⟨#[67,79,77,77,73,84]⟩,⟨#[82,79,76,76,66,65,67,75]⟩]
def k6(s:dh):List Tk :=
 if s.kind=1 then [⟨#[67,82,69,65,84,69]⟩,⟨#[84,65,66,76,69]⟩,s.table].map aT++ir (s.cF.map fq)
 else if s.kind=2 then [⟨#[68,82,79,80]⟩,⟨#[84,65,66,76,69]⟩,s.table].map aT
 else if s.kind=3 then [⟨#[73,78,83,69,82,84]⟩,⟨#[73,78,84,79]⟩,s.table,⟨#[86,65,76,85,69,83]⟩].map aT++ir (s.row.map eD)
 else if s.kind=4 then sU s
 else if s.kind=5 then [[⟨#[85,80,68,65,84,69]⟩,s.table,⟨#[83,69,84]⟩,s.set].map aT,[bf ⟨#[61]⟩],kz s.dI,fp s.bG].flatten
 else if s.kind=6 then [⟨#[68,69,76,69,84,69]⟩,⟨#[70,82,79,77]⟩,s.table].map aT++fp s.bG
 else [nF.getD (s.kind-7).toNat ⟨#[]⟩].map aT
structure FU (s:dh):Prop where
 fin:pP s
 k1:1<=s.kind
 k9:s.kind<=9
 c:s.kind=1->∀c∈s.cF,1<=c.k/\c.k<=3
 r:s.kind=3->∀v∈s.row,wR v
 w:s.kind=4\/s.kind=5\/s.kind=6->s.bG.length=0\/gb 0 s.bG=0
 t:s.kind=5->gb 0 s.dI=0
theorem Cu(ts:List (List Tk)):0<(ir ts).length:=by unfold ir;rw[length_append];simp
theorem Cv(h:∀x∈ts,x.length<=10):(ir ts).length<=2+11*ts.length:=by
 have h1:=yj h ts.length;unfold ir;rw[length_append];simp only[length_cons,length_nil];omega
theorem C5(l:List dV):∀x∈l.map fq,x.length<=10:=fun x hx=>by obtain⟨c,_,rfl⟩:=mem_map.1 hx;show 2<=10;decide
theorem Cw(l:List Vl):∀x∈l.map eD,x.length<=10:=fun x hx=>by obtain⟨v,_,rfl⟩:=mem_map.1 hx;have:=B3 v;omega
theorem BR:(Tryz.prog.info? 99).map (fun i=>(i.zero,i.size,i.bytes))=some (some (.slice none 0 0),1,24):=by kernel_rfl
theorem xu:(Tryz.prog.info? 113).map (fun i=>(i.zero,i.size,i.bytes))=some (some (.agg #[.int .i64 0,.string ⟨#[]⟩,.int .i64 0]),3,32):=by kernel_rfl
theorem Jq(hM:(2,typesC)∈G)(s:dh)(hs:FU s):VP Tryz.prog G 73 [.agg (fG s)] (.list 3 ((k6 s).flatMap cT) (k6 s).length):=by
 refine cf func73 rfl ntmps73 aF fun X0 w0 dm=>?_;have eI:=fU;have hf:=hs.fin;have h6:=hf.ok.1;have QH:=hf.ok.2.1;have fN:=hf.ok.2.2.2.1;have Eg:=hf.ok.2.2.2.2;have Oo:=B7 s.bG;have iQ:=uN s.bG;have PX:=uN s.dI;have qc:=Cv (C5 s.cF);have kG:=Cv (Cw s.row);have DJ:=GW (G:=G) s hf
 (first|rw[length_map] at qc|(unfold av at qc;rw[length_map] at qc));(first|rw[length_map] at kG|(unfold av at kG;rw[length_map] at kG))
 unfold fG at DJ;unfold fG;refine ah ?_;refine fI (ds:=[_,_,_,_,_,_,_,_,_,_,_,_]) ay rfl rfl ot rfl rfl (fun O=>?_);refine aa ?_;refine aK [(1,_)] [⟨O,70,12,[_,_,_,_,_,_,_,_,_,_,_,_]⟩] ?_;refine aC ?_;refine ah ?_;refine ae (aB 0) ?_;refine ae fE ?_;refine aK [(1,_),(10,_)] [⟨O,70,12,[_,_,_,_,_,_,_,_,_,_,_,_]⟩] ?_;refine bZ ?_;refine ah ?_;refine ae aE ?_;refine aa ?_;refine au [1,10,11] ?_;refine aM ot (fun aA=>?_) (fun aA=>?_)
 ·have E:=aA
  (try simp only[V.ai,ne_eq] at E)
  refine ah ?_;refine aa ?_;refine au [1,3] ?_;refine aC ?_;refine ah ?_;refine ae (aB 2) ?_;refine ae fE ?_;refine ae cZ ?_;refine aa ?_;refine bc (Wk.aR (n:=107) (l':=[(1,_),(3,_),(14,_),(15,_),(16,_)]) (S':=(⟨O,70,12,[_,_,_,_,_,_,_,_,_,_,_,_]⟩::[])) rfl rfl bj) ?_;refine bi ?_;refine bZ ?_;refine fa (fun (M:Nat×Option Addr×Nat×List ak) cn=>match M with|(i,wW,wX,Sx)=>(i<=s.cF.length)/\(bV 99 1 (((s.cF.take i).map fq).flatMap cK) ((s.cF.take i).map fq).length wW wX Sx)/\cn=(⟨107,[(1,bD O),(3,az wW ((s.cF.take i).map fq).length wX),(14,av 2 cC s.cF),(15,ag (s.cF.length:Nat)),(16,ag (i:Nat))],((⟨O,70,12,[ag s.kind,bT s.table,av 2 cC s.cF,av 3 cV s.row,av 1 cS s.names,bw s.count,av 5 cO s.bG,bT s.order,bw s.down,ag s.eY,bT s.set,av 5 cO s.dI]⟩:ak)::Sx)⟩:St)) (fun (M:Nat×Option Addr×Nat×List ak)=>match M with|(i,wW,wX,Sx)=>s.cF.length-i) (0,none,0,[]) ⟨(Nat.zero_le _),(bV.cast kT mH),rfl⟩ (Wk.bI rfl cG Ew) ?_;rintro⟨i,wW,wX,Sx⟩ _ ⟨hi,jk,rfl⟩;refine ah ?_;refine ae aE ?_;refine au [1,3,14,15,16,17] ?_;refine aC ?_;refine aM ot (fun aG=>?_) (fun aG=>?_)
  ·have cA:=aG
   (try simp only[V.ai,ne_eq] at cA)
   have aD:i<s.cF.length:=(by simp at aG;omega)
   have FV:=hs.c E _ (getElem_mem aD);refine aS ?_;refine aC ?_;refine bZ ?_;refine ah ?_;refine ae (dW 2 (h:=oD)) ?_;refine ae (cm (mk:=Op.load 130) rfl ot (by first|exact og (k:=0) (ds:=[_,_]) rfl rfl isAgg130 sizeOf130 rfl rfl|exact kX gO isAgg130 sizeOf130 cX|exact kX iJ isAgg130 sizeOf130 cX|exact kX ej isAgg130 sizeOf130 cX|exact iI (k:=0) gO rfl rfl rfl isAgg130 sizeOf130 cX|exact iI (k:=0) iJ rfl rfl rfl isAgg130 sizeOf130 cX|exact iI (k:=0) ej rfl rfl rfl isAgg130 sizeOf130 cX|exact oq (ds:=[_,_]) isAgg130 sizeOf130 rfl rfl)) ?_;refine eo (ds:=[_,_]) ay rfl rfl zeroValue130 rfl (fun b5=>?_);refine bn 0 [_,_] sizeOf130 ?_;refine bc (Wk.aR (n:=107) (l':=[(1,_),(3,_),(5,_),(14,_),(15,_),(16,_)]) (S':=(⟨b5,130,2,[_,_]⟩::⟨O,70,12,[_,_,_,_,_,_,_,_,_,_,_,_]⟩::Sx)) rfl rfl bj) ?_;refine bi ?_;refine ez (aq (take 2 _)) af (fun _ h=>(Sublist.map _ (take_sublist _ _)).subset h) ?_;refine aj 0 rfl bg ?_;refine aj 1 rfl (aB 0) ?_;refine aj 2 rfl fE ?_;refine aj 3 rfl (aB 1) ?_;refine aj 4 rfl fE ?_;refine aj 5 rfl (kj (mk:=Op.indexAddr 233) rfl mh ot (by first|exact Dg runUnderlying233 sizeOf9 rfl cX|exact Dg (j:=Int.toNat _) runUnderlying233 sizeOf9 (Int.toNat_of_nonneg w7).symm w7)) ?_
   refine aj 6 rfl (cm (mk:=Op.load 9) rfl ot (by first|exact sC (k:=0) rfl rfl isAgg9 rfl|exact sC (k:=1) rfl rfl isAgg9 rfl|exact ny gO isAgg9 cX rfl|exact lG gO isAgg9 cX rfl|exact ny iJ isAgg9 cX rfl|exact lG iJ isAgg9 cX rfl|exact ny ej isAgg9 cX rfl|exact lG ej isAgg9 cX rfl|exact lF (k:=0) gO rfl rfl rfl isAgg9 cX rfl|exact gp (k:=0) gO rfl rfl rfl isAgg9 cX rfl|exact lF (k:=1) gO rfl rfl rfl isAgg9 cX rfl|exact gp (k:=1) gO rfl rfl rfl isAgg9 cX rfl|exact lF (k:=0) iJ rfl rfl rfl isAgg9 cX rfl|exact gp (k:=0) iJ rfl rfl rfl isAgg9 cX rfl|exact lF (k:=1) iJ rfl rfl rfl isAgg9 cX rfl|exact gp (k:=1) iJ rfl rfl rfl isAgg9 cX rfl|exact lF (k:=0) ej rfl rfl rfl isAgg9 cX rfl|exact gp (k:=0) ej rfl rfl rfl isAgg9 cX rfl|exact lF (k:=1) ej rfl rfl rfl isAgg9 cX rfl|exact gp (k:=1) ej rfl rfl rfl isAgg9 cX rfl|exact vp isAgg9 rfl|exact JL hM isAgg9 (Iw FV.1 FV.2))) ?_;refine bt.later rfl ?_;refine aL (i:=7) af ?_;refine bA (aU 0 [_,_]) [.string ⟨#[]⟩,.string ⟨#[]⟩] [_,_] zeroValue9 runUnderlying34 sizeOf9 (fun FK=>?_);refine bz 0 27 1 2 ?_;refine aL (i:=8) af ?_;refine bY call131 (jU [s.cF[i].n,yW s.cF[i].k] pT) ?_;refine aL (i:=9) af ?_;refine bA (aU 0 [_]) [.slice none 0 0] [_] zeroValue99 runUnderlying231 sizeOf99 (fun QI=>?_)
   refine bz 0 29 1 1 ?_;refine aL (i:=10) af ?_;refine Bn (Sq:=Sx) (R:=[_,_]) rfl ay rfl rfl underlying231 BR rfl cc ot jk (perm_append_comm (l₁:=[_,_])) (de jS _) ot (sE yF [fq s.cF[i]]) cc (by rw[length_map,length_take];simp only[maxLen];omega) (by rw[length_map,length_take];omega) AA (fun wY Y MN MO=>?_);refine gN (dj (S1:=[⟨wY,99,Y*1,flatMap cK ((s.cF.take i).map fq)++flatMap cK [fq s.cF[i]]⟩]) (A:=[_,_])) ?_;rw[show flatMap cK ((s.cF.take i).map fq)++flatMap cK [fq s.cF[i]]=flatMap cK ((s.cF.take i).map fq++[fq s.cF[i]]) from List.flatMap_append.symm,show((s.cF.take i).map fq).length+1=((s.cF.take i).map fq++[fq s.cF[i]]).length from by rw[length_append];rfl];refine bR 11 rfl bg ?_;refine jr (y:=⟨107,[(1,_),(3,_),(14,_),(15,_),(16,_)],(⟨b5,130,2,[_,_]⟩::⟨O,70,12,[_,_,_,_,_,_,_,_,_,_,_,_]⟩::[⟨wY,99,Y*1,flatMap cK ((s.cF.take i).map fq++[fq s.cF[i]])⟩])⟩) (Wk.aR rfl rfl bj) rfl ?_;refine bO af ?_;refine aV ?_;refine ae aE ?_;refine aa ?_;refine au [1,3,14,15,16] ?_;refine⟨((i+1),(some ⟨wY,0,none⟩),Y,[⟨wY,99,Y*1,flatMap cK ((s.cF.take i).map fq++[fq s.cF[i]])⟩]),_,?_,?_,w7,(bV.cast (cU (by rw[length_append];exact MN) MO) (by exact qw fq aD)),rfl⟩
   ·first|omega|(simp only[];omega)
   exact Wk.bI (n:=107) rfl cG Ew
  have cA:=aG
  (try simp only[V.ai,ne_eq] at cA)
  have iu:=yu fq (show s.cF.length<=i by simp at aG;omega);have uv:=C3 (G:=G) (s.cF.map fq) (by rw[length_map];omega) (C5 s.cF);rw[<-iu] at uv qc;refine ep ?_;refine ah ?_;refine ae (aB 1) ?_;refine ae fE ?_;refine dM (aU 0 [_,_,_]) [.string ⟨#[]⟩,.string ⟨#[]⟩,.string ⟨#[]⟩] [_,_,_] zeroValue9 runUnderlying34 sizeOf9 (fun A1=>?_);refine aW (pb (S2:=[⟨A1,9,3*1,flatMap cS ([⟨#[67,82,69,65,84,69]⟩,⟨#[84,65,66,76,69]⟩,s.table])⟩]) (A:=[_])) ?_;refine iH (t:=34) (Sq:=[⟨A1,9,3*1,flatMap cS ([⟨#[67,82,69,65,84,69]⟩,⟨#[84,65,66,76,69]⟩,s.table])⟩]) lk (cU (g:=cS) (sz:=1) (e:=9) (ls:=[⟨#[67,82,69,65,84,69]⟩,⟨#[84,65,66,76,69]⟩,s.table]) (Nat.le_refl _) (show 3<=maxLen by decide)) (de ej _) (qy (A:=[_])) ?_;refine cP ay rfl rfl rfl call131 (qJ [⟨#[67,82,69,65,84,69]⟩,⟨#[84,65,66,76,69]⟩,s.table] (by show 3<=10;decide)) ⟨ot,trivial⟩ (jP _) ?_;rintro _ Ot ⟨PY,PZ,rfl,MP⟩;refine aW (pb (A:=[_])) ?_;refine aa ?_;refine iH (t:=36) (Sq:=Sx) lk jk (de jS _) (xX (A:=[_])) ?_;refine bU call132 (uv) ?_;refine fY (ls:=([⟨#[67,82,69,65,84,69]⟩,⟨#[84,65,66,76,69]⟩,s.table].map aT)) (new:=(ir ((s.cF.take i).map fq))) (Sq:=Ot) dO gh ay rfl rfl underlying99 xu rfl cc ot MP (cy (A:=[_])) ot (Cu _) kF iX (fun Bh zN MQ MR=>?_)
  refine aW (dj (S1:=[⟨Bh,113,zN*3,flatMap cT (([⟨#[67,82,69,65,84,69]⟩,⟨#[84,65,66,76,69]⟩,s.table].map aT)++(ir ((s.cF.take i).map fq)))⟩]) (A:=[_])) ?_;refine aa ?_;refine bc (Wk.aR (n:=107) (l':=[(2,_)]) (S':=(⟨O,70,12,[_,_,_,_,_,_,_,_,_,_,_,_]⟩::[⟨Bh,113,zN*3,flatMap cT (([⟨#[67,82,69,65,84,69]⟩,⟨#[84,65,66,76,69]⟩,s.table].map aT)++(ir ((s.cF.take i).map fq)))⟩])) rfl rfl bj) ?_;refine bi ?_;refine jn (t:=2) (Sq:=[⟨Bh,113,zN*3,flatMap cT (([⟨#[67,82,69,65,84,69]⟩,⟨#[84,65,66,76,69]⟩,s.table].map aT)++(ir ((s.cF.take i).map fq)))⟩]) lk (cU MQ MR) (de dO _) (cy (A:=[_])) ?_;refine aI ?_;refine⟨.inr rfl,en results73 ?_⟩;refine⟨?_,rfl⟩;unfold k6;rw[if_pos E,<-iu]
 have E:=aA
 (try simp only[V.ai,ne_eq] at E)
 refine ah ?_;refine ae aE ?_;refine aa ?_;refine au [1,10,39] ?_;refine aM ot (fun bJ=>?_) (fun bJ=>?_)
 ·have aX:=bJ
  (try simp only[V.ai,ne_eq] at aX)
  refine ah ?_;refine ae (aB 1) ?_;refine ae fE ?_;refine dM (aU 0 [_,_,_]) [.string ⟨#[]⟩,.string ⟨#[]⟩,.string ⟨#[]⟩] [_,_,_] zeroValue9 runUnderlying34 sizeOf9 (fun oV=>?_);refine aW (dj (S1:=[⟨oV,9,3*1,flatMap cS ([⟨#[68,82,79,80]⟩,⟨#[84,65,66,76,69]⟩,s.table])⟩]) (A:=[_])) ?_;refine iH (t:=43) (Sq:=[⟨oV,9,3*1,flatMap cS ([⟨#[68,82,79,80]⟩,⟨#[84,65,66,76,69]⟩,s.table])⟩]) lk (cU (g:=cS) (sz:=1) (e:=9) (ls:=[⟨#[68,82,79,80]⟩,⟨#[84,65,66,76,69]⟩,s.table]) (Nat.le_refl _) (show 3<=maxLen by decide)) (de ej _) (cy (A:=[_])) ?_;refine bU call131 (jU [⟨#[68,82,79,80]⟩,⟨#[84,65,66,76,69]⟩,s.table] (by show 3<=10;decide)) ?_;refine aa ?_;refine aK [(2,_)] [⟨O,70,12,[_,_,_,_,_,_,_,_,_,_,_,_]⟩] ?_;refine aI ?_;refine⟨.inr rfl,en results73 ?_⟩;refine⟨?_,rfl⟩;unfold k6;rw[if_neg E,if_pos aX]
 have aX:=bJ
 (try simp only[V.ai,ne_eq] at aX)
 refine ah ?_;refine ae aE ?_;refine aa ?_;refine au [1,10,45] ?_;refine aM ot (fun ct=>?_) (fun ct=>?_)
 ·have bu:=ct
  (try simp only[V.ai,ne_eq] at bu)
  refine ah ?_;refine aa ?_;refine au [1,6] ?_;refine aC ?_;refine ah ?_;refine ae (aB 3) ?_;refine ae fE ?_;refine ae cZ ?_;refine aa ?_;refine bc (Wk.aR (n:=107) (l':=[(1,_),(6,_),(48,_),(49,_),(50,_)]) (S':=(⟨O,70,12,[_,_,_,_,_,_,_,_,_,_,_,_]⟩::[])) rfl rfl bj) ?_;refine bi ?_;refine bZ ?_;refine fa (fun (M:Nat×Option Addr×Nat×List ak) cn=>match M with|(i,wZ,xa,Sv)=>(i<=s.row.length)/\(bV 99 1 (((s.row.take i).map eD).flatMap cK) ((s.row.take i).map eD).length wZ xa Sv)/\cn=(⟨107,[(1,bD O),(6,az wZ ((s.row.take i).map eD).length xa),(48,av 3 cV s.row),(49,ag (s.row.length:Nat)),(50,ag (i:Nat))],((⟨O,70,12,[ag s.kind,bT s.table,av 2 cC s.cF,av 3 cV s.row,av 1 cS s.names,bw s.count,av 5 cO s.bG,bT s.order,bw s.down,ag s.eY,bT s.set,av 5 cO s.dI]⟩:ak)::Sv)⟩:St)) (fun (M:Nat×Option Addr×Nat×List ak)=>match M with|(i,wZ,xa,Sv)=>s.row.length-i) (0,none,0,[]) ⟨(Nat.zero_le _),(bV.cast kT mH),rfl⟩ (Wk.bI rfl cG Ev) ?_;rintro⟨i,wZ,xa,Sv⟩ _ ⟨hi,l9,rfl⟩;refine ah ?_;refine ae aE ?_;refine au [1,6,48,49,50,51] ?_;refine aC ?_;refine aM ot (fun ck=>?_) (fun ck=>?_)
  ·have bQ:=ck
   (try simp only[V.ai,ne_eq] at bQ)
   have aD:i<s.row.length:=(by simp at ck;omega)
   refine aS ?_;refine aC ?_;refine bZ ?_;refine ah ?_;refine ae (dW 3 (h:=oD)) ?_;refine ae (cm (mk:=Op.load 127) rfl ot (by first|exact og (k:=0) (ds:=[_,_,_]) rfl rfl isAgg127 sizeOf127 rfl rfl|exact kX gO isAgg127 sizeOf127 cX|exact kX iJ isAgg127 sizeOf127 cX|exact kX ej isAgg127 sizeOf127 cX|exact iI (k:=0) gO rfl rfl rfl isAgg127 sizeOf127 cX|exact iI (k:=0) iJ rfl rfl rfl isAgg127 sizeOf127 cX|exact iI (k:=0) ej rfl rfl rfl isAgg127 sizeOf127 cX|exact oq (ds:=[_,_,_]) isAgg127 sizeOf127 rfl rfl)) ?_;refine eo (ds:=[_,_,_]) ay rfl rfl zeroValue127 rfl (fun b8=>?_);refine bn 0 [_,_,_] sizeOf127 ?_;refine bc (Wk.aR (n:=107) (l':=[(1,_),(6,_),(8,_),(48,_),(49,_),(50,_)]) (S':=(⟨b8,127,3,[_,_,_]⟩::⟨O,70,12,[_,_,_,_,_,_,_,_,_,_,_,_]⟩::Sv)) rfl rfl bj) ?_;refine bi ?_;refine aV ?_;refine aa ?_
   refine ae (cm (mk:=Op.load 127) rfl ot (by first|exact og (k:=0) (ds:=[_,_,_]) rfl rfl isAgg127 sizeOf127 rfl rfl|exact kX gO isAgg127 sizeOf127 cX|exact kX iJ isAgg127 sizeOf127 cX|exact kX ej isAgg127 sizeOf127 cX|exact iI (k:=0) gO rfl rfl rfl isAgg127 sizeOf127 cX|exact iI (k:=1) gO rfl rfl rfl isAgg127 sizeOf127 cX|exact iI (k:=0) iJ rfl rfl rfl isAgg127 sizeOf127 cX|exact iI (k:=1) iJ rfl rfl rfl isAgg127 sizeOf127 cX|exact iI (k:=0) ej rfl rfl rfl isAgg127 sizeOf127 cX|exact iI (k:=1) ej rfl rfl rfl isAgg127 sizeOf127 cX|exact oq (ds:=[_,_,_]) isAgg127 sizeOf127 rfl rfl)) ?_;refine bU call133 (Bx s.row[i] (hs.r bu _ (getElem_mem aD))) ?_;refine dM (aU 0 [_]) [.slice none 0 0] [_] zeroValue99 runUnderlying231 sizeOf99 (fun Og=>?_);refine fB 0 57 1 1 ?_;refine fY (ls:=((s.row.take i).map eD)) (new:=[eD s.row[i]]) (Sq:=Sv) jS yF ay rfl rfl underlying231 BR rfl cc ot l9 (cy (A:=[_,_])) ot cq (by simp only[maxLen,length_map,length_take,length_cons,length_nil];omega) (by simp only[length_map,length_take,length_cons,length_nil];omega) (fun ug Z MS MT=>?_);refine aW (dj (S1:=[⟨ug,99,Z*1,flatMap cK (((s.row.take i).map eD)++[eD s.row[i]])⟩]) (A:=[_,_])) ?_;refine aa ?_
   refine bc (Wk.aR (n:=107) (l':=[(1,_),(6,_),(48,_),(49,_),(50,_)]) (S':=(⟨b8,127,3,[_,_,_]⟩::⟨O,70,12,[_,_,_,_,_,_,_,_,_,_,_,_]⟩::[⟨ug,99,Z*1,flatMap cK (((s.row.take i).map eD)++[eD s.row[i]])⟩])) rfl rfl bj) ?_;refine bi ?_;refine aV ?_;refine ae aE ?_;refine aa ?_;refine au [1,6,48,49,50] ?_;refine⟨((i+1),(some ⟨ug,0,none⟩),Z,[⟨ug,99,Z*1,flatMap cK (((s.row.take i).map eD)++[eD s.row[i]])⟩]),_,?_,?_,w7,(bV.cast (cU MS MT) (by exact qw eD aD)),rfl⟩
   ·first|omega|(simp only[];omega)
   exact Wk.bI (n:=107) rfl cG Ev
  have bQ:=ck
  (try simp only[V.ai,ne_eq] at bQ)
  have DK:=yu eD (show s.row.length<=i by simp at ck;omega);have uv:=C3 (G:=G) (s.row.map eD) (by rw[length_map];omega) (Cw s.row);rw[<-DK] at uv kG;refine ep ?_;refine ah ?_;refine ae (aB 1) ?_;refine ae fE ?_;refine dM (aU 0 [_,_,_,_]) [.string ⟨#[]⟩,.string ⟨#[]⟩,.string ⟨#[]⟩,.string ⟨#[]⟩] [_,_,_,_] zeroValue9 runUnderlying34 sizeOf9 (fun ur=>?_);refine aW (pb (S2:=[⟨ur,9,4*1,flatMap cS ([⟨#[73,78,83,69,82,84]⟩,⟨#[73,78,84,79]⟩,s.table,⟨#[86,65,76,85,69,83]⟩])⟩]) (A:=[_])) ?_;refine iH (t:=62) (Sq:=[⟨ur,9,4*1,flatMap cS ([⟨#[73,78,83,69,82,84]⟩,⟨#[73,78,84,79]⟩,s.table,⟨#[86,65,76,85,69,83]⟩])⟩]) lk (cU (g:=cS) (sz:=1) (e:=9) (ls:=[⟨#[73,78,83,69,82,84]⟩,⟨#[73,78,84,79]⟩,s.table,⟨#[86,65,76,85,69,83]⟩]) (Nat.le_refl _) (show 4<=maxLen by decide)) (de ej _) (qy (A:=[_])) ?_;refine cP ay rfl rfl rfl call131 (qJ [⟨#[73,78,83,69,82,84]⟩,⟨#[73,78,84,79]⟩,s.table,⟨#[86,65,76,85,69,83]⟩] (by show 4<=10;decide)) ⟨ot,trivial⟩ (jP _) ?_;rintro _ Ou ⟨P0,P3,rfl,MU⟩;refine aW (pb (A:=[_])) ?_;refine aa ?_;refine iH (t:=64) (Sq:=Sv) lk l9 (de jS _) (xX (A:=[_])) ?_;refine bU call132 (uv) ?_
  refine fY (ls:=([⟨#[73,78,83,69,82,84]⟩,⟨#[73,78,84,79]⟩,s.table,⟨#[86,65,76,85,69,83]⟩].map aT)) (new:=(ir ((s.row.take i).map eD))) (Sq:=Ou) dO gh ay rfl rfl underlying99 xu rfl cc ot MU (cy (A:=[_])) ot (Cu _) kF iX (fun n5 zO vK vL=>?_);refine aW (dj (S1:=[⟨n5,113,zO*3,flatMap cT (([⟨#[73,78,83,69,82,84]⟩,⟨#[73,78,84,79]⟩,s.table,⟨#[86,65,76,85,69,83]⟩].map aT)++(ir ((s.row.take i).map eD)))⟩]) (A:=[_])) ?_;refine aa ?_;refine bc (Wk.aR (n:=107) (l':=[(2,_)]) (S':=(⟨O,70,12,[_,_,_,_,_,_,_,_,_,_,_,_]⟩::[⟨n5,113,zO*3,flatMap cT (([⟨#[73,78,83,69,82,84]⟩,⟨#[73,78,84,79]⟩,s.table,⟨#[86,65,76,85,69,83]⟩].map aT)++(ir ((s.row.take i).map eD)))⟩])) rfl rfl bj) ?_;refine bi ?_;refine jn (t:=2) (Sq:=[⟨n5,113,zO*3,flatMap cT (([⟨#[73,78,83,69,82,84]⟩,⟨#[73,78,84,79]⟩,s.table,⟨#[86,65,76,85,69,83]⟩].map aT)++(ir ((s.row.take i).map eD)))⟩]) lk (cU vK vL) (de dO _) (cy (A:=[_])) ?_;refine aI ?_;refine⟨.inr rfl,en results73 ?_⟩;refine⟨?_,rfl⟩;unfold k6;rw[if_neg E,if_neg aX,if_pos bu,<-DK]
 have bu:=ct
 (try simp only[V.ai,ne_eq] at bu)
 refine ah ?_;refine ae aE ?_;refine aa ?_;refine au [1,10,67] ?_;refine aM ot (fun cl=>?_) (fun cl=>?_)
 ·have bE:=cl
  (try simp only[V.ai,ne_eq] at bE)
  refine ah ?_;refine ae (cm (mk:=Op.load 70) rfl ot (by first|exact og (k:=0) (ds:=[_,_,_,_,_,_,_,_,_,_,_,_]) rfl rfl isAgg70 sizeOf70 rfl rfl|exact kX gO isAgg70 sizeOf70 cX|exact kX iJ isAgg70 sizeOf70 cX|exact kX ej isAgg70 sizeOf70 cX|exact iI (k:=0) gO rfl rfl rfl isAgg70 sizeOf70 cX|exact iI (k:=0) iJ rfl rfl rfl isAgg70 sizeOf70 cX|exact iI (k:=0) ej rfl rfl rfl isAgg70 sizeOf70 cX|exact oq (ds:=[_,_,_,_,_,_,_,_,_,_,_,_]) isAgg70 sizeOf70 rfl rfl)) ?_;refine bU call134 (DJ (hs.w (.inl bE))) ?_;refine aa ?_;refine aK [(2,_)] [⟨O,70,12,[_,_,_,_,_,_,_,_,_,_,_,_]⟩] ?_;refine aI ?_;refine⟨.inr rfl,en results73 ?_⟩;refine⟨?_,rfl⟩;unfold k6;rw[if_neg E,if_neg aX,if_neg bu,if_pos bE]
 have bE:=cl
 (try simp only[V.ai,ne_eq] at bE)
 refine ah ?_;refine ae aE ?_;refine aa ?_;refine au [1,10,71] ?_;refine aM ot (fun dn=>?_) (fun dn=>?_)
 ·have I:=dn
  (try simp only[V.ai,ne_eq] at I)
  refine aC ?_;refine ez (aq _) af (fun _ h=>h) ?_;refine aj 0 rfl (aB 1) ?_;refine aj 1 rfl fE ?_;refine aj 2 rfl (aB 10) ?_;refine aj 3 rfl fE ?_;refine aj 8 rfl (aB 11) ?_;refine aj 9 rfl fE ?_;refine aj 11 rfl (aB 6) ?_;refine aj 12 rfl fE ?_;refine bt.later rfl ?_;refine aL (i:=4) af ?_;refine bA (aU 0 [_,_,_,_]) [.string ⟨#[]⟩,.string ⟨#[]⟩,.string ⟨#[]⟩,.string ⟨#[]⟩] [_,_,_,_] zeroValue9 runUnderlying34 sizeOf9 (fun nc=>?_);refine bz 0 77 1 4 ?_;refine aL (i:=5) af ?_;refine bY call131 (jU [⟨#[85,80,68,65,84,69]⟩,s.table,⟨#[83,69,84]⟩,s.set] (by show 4<=10;decide)) ?_;refine aL (i:=6) af ?_;refine bY call136 (eN ⟨#[61]⟩) ?_;refine dY (i:=7) (j:=10) af ?_ ?_
  ·refine bA (aU 0 [_]) [.int .i64 0,.string ⟨#[]⟩,.int .i64 0] [_,_,_] zeroValue113 runUnderlying99 sizeOf113 (fun FW=>?_);refine bz 0 80 3 1 ?_;refine aL (i:=10) af ?_;refine bY call137 (xB s.dI Eg (hs.t I) (fun o h=>(hf.x o h).2)) ?_;refine aL (i:=13) af ?_;refine bY call138 (rY s.bG fN (hs.w (.inr (.inl I))) (fun o h=>(hf.w o h).2) w7) ?_;refine aL (i:=14) af ?_;refine bA (aU 0 [_,_,_,_]) [.slice none 0 0,.slice none 0 0,.slice none 0 0,.slice none 0 0] [_,_,_,_] zeroValue99 runUnderlying231 sizeOf99 (fun FX=>?_);refine bz 0 87 1 4 ?_;refine aL (i:=15) af ?_;refine bY call135 (eP [[⟨#[85,80,68,65,84,69]⟩,s.table,⟨#[83,69,84]⟩,s.set].map aT,[bf ⟨#[61]⟩],kz s.dI,fp s.bG] (by show 4<=1000;decide) rp rp) ?_;refine bR 16 rfl bg ?_;refine cg [(2,_)] [⟨O,70,12,[_,_,_,_,_,_,_,_,_,_,_,_]⟩] ?_;refine bO af ?_;refine aI ?_;refine⟨.inr rfl,en results73 ?_⟩;refine⟨?_,rfl⟩;unfold k6;rw[if_neg E,if_neg aX,if_neg bu,if_neg bE,if_pos I]
  refine bY call137 (xB s.dI Eg (hs.t I) (fun o h=>(hf.x o h).2)) ?_;refine dY (i:=7) (j:=13) af ?_ ?_
  ·refine bA (aU 0 [_]) [.int .i64 0,.string ⟨#[]⟩,.int .i64 0] [_,_,_] zeroValue113 runUnderlying99 sizeOf113 (fun FW=>?_);refine bz 0 80 3 1 ?_;refine aL (i:=13) af ?_;refine bY call138 (rY s.bG fN (hs.w (.inr (.inl I))) (fun o h=>(hf.w o h).2) w7) ?_;refine aL (i:=14) af ?_;refine bA (aU 0 [_,_,_,_]) [.slice none 0 0,.slice none 0 0,.slice none 0 0,.slice none 0 0] [_,_,_,_] zeroValue99 runUnderlying231 sizeOf99 (fun FX=>?_);refine bz 0 87 1 4 ?_;refine aL (i:=15) af ?_;refine bY call135 (eP [[⟨#[85,80,68,65,84,69]⟩,s.table,⟨#[83,69,84]⟩,s.set].map aT,[bf ⟨#[61]⟩],kz s.dI,fp s.bG] (by show 4<=1000;decide) rp rp) ?_;refine bR 16 rfl bg ?_;refine cg [(2,_)] [⟨O,70,12,[_,_,_,_,_,_,_,_,_,_,_,_]⟩] ?_;refine bO af ?_;refine aI ?_;refine⟨.inr rfl,en results73 ?_⟩;refine⟨?_,rfl⟩;unfold k6;rw[if_neg E,if_neg aX,if_neg bu,if_neg bE,if_pos I]
  refine bY call138 (rY s.bG fN (hs.w (.inr (.inl I))) (fun o h=>(hf.w o h).2) w7) ?_;refine aL (i:=7) af ?_;refine bA (aU 0 [_]) [.int .i64 0,.string ⟨#[]⟩,.int .i64 0] [_,_,_] zeroValue113 runUnderlying99 sizeOf113 (fun FW=>?_);refine bz 0 80 3 1 ?_;refine aL (i:=14) af ?_;refine bA (aU 0 [_,_,_,_]) [.slice none 0 0,.slice none 0 0,.slice none 0 0,.slice none 0 0] [_,_,_,_] zeroValue99 runUnderlying231 sizeOf99 (fun FX=>?_);refine bz 0 87 1 4 ?_;refine aL (i:=15) af ?_;refine bY call135 (eP [[⟨#[85,80,68,65,84,69]⟩,s.table,⟨#[83,69,84]⟩,s.set].map aT,[bf ⟨#[61]⟩],kz s.dI,fp s.bG] (by show 4<=1000;decide) rp rp) ?_;refine bR 16 rfl bg ?_;refine cg [(2,_)] [⟨O,70,12,[_,_,_,_,_,_,_,_,_,_,_,_]⟩] ?_;refine bO af ?_;refine aI ?_;refine⟨.inr rfl,en results73 ?_⟩;refine⟨?_,rfl⟩;unfold k6;rw[if_neg E,if_neg aX,if_neg bu,if_neg bE,if_pos I]
 have I:=dn
 (try simp only[V.ai,ne_eq] at I)
 refine ah ?_;refine ae aE ?_;refine aa ?_;refine au [1,89] ?_;refine aM ot (fun gA=>?_) (fun gA=>?_)
 ·have U:=gA
  (try simp only[V.ai,ne_eq] at U)
  refine aC ?_;refine ez (aq (take 1 _)) af (fun _ h=>(Sublist.map _ (take_sublist _ _)).subset h) ?_;refine aj 0 rfl (aB 1) ?_;refine aj 1 rfl fE ?_;refine aj 4 rfl (aB 6) ?_;refine aj 5 rfl fE ?_;refine bt.later rfl ?_;refine aL (i:=2) af ?_;refine bA (aU 0 [_,_,_]) [.string ⟨#[]⟩,.string ⟨#[]⟩,.string ⟨#[]⟩] [_,_,_] zeroValue9 runUnderlying34 sizeOf9 (fun QJ=>?_);refine bz 0 93 1 3 ?_;refine aL (i:=3) af ?_;refine oZ rfl ay rfl rfl rfl call131 (qJ [⟨#[68,69,76,69,84,69]⟩,⟨#[70,82,79,77]⟩,s.table] (by show 3<=10;decide)) ⟨ot,trivial⟩ (jP _) AA ?_;rintro _ Ov ⟨P4,P5,rfl,MV⟩;refine gN (dj (A:=[_])) ?_;refine aL (i:=6) af ?_;refine bY call138 (rY s.bG fN (hs.w (.inr (.inr U))) (fun o h=>(hf.w o h).2) w7) ?_;refine aL (i:=7) af ?_;refine F9 (ls:=([⟨#[68,69,76,69,84,69]⟩,⟨#[70,82,79,77]⟩,s.table].map aT)) (new:=(fp s.bG)) (Sq:=Ov) dO gh rfl ay rfl rfl underlying99 xu rfl cc runUnderlying99 sizeOf113 ot MV (cy (A:=[_])) ot kF iX (fun P6 P7 FY MW=>?_);refine gN (dj (A:=[_])) ?_;refine bR 8 rfl bg ?_;refine jr (y:=⟨107,[(2,_)],(⟨O,70,12,[_,_,_,_,_,_,_,_,_,_,_,_]⟩::FY)⟩) (Wk.aR rfl rfl bj) rfl ?_;refine bO af ?_;refine jn (t:=2) (Sq:=FY) lk MW (de dO _) (cy (A:=[_])) ?_;refine aI ?_;refine⟨.inr rfl,en results73 ?_⟩
  refine⟨?_,rfl⟩;unfold k6;rw[if_neg E,if_neg aX,if_neg bu,if_neg bE,if_neg I,if_pos U]
 have U:=gA
 (try simp only[V.ai,ne_eq] at U)
 refine aS ?_;refine aC ?_;obtain⟨j,hj,uw⟩:∃j:Nat,s.kind=((7+j:Nat):Int)/\j<nF.length:=⟨(s.kind-7).toNat,by have:=hs.k1;have:=hs.k9;omega,by have:=hs.k1;have:=hs.k9;show _<3;omega⟩
 refine aV ?_;refine dM (aU 0 [_,_,_]) [.string ⟨#[]⟩,.string ⟨#[]⟩,.string ⟨#[]⟩] [_,_,_] zeroValue9 runUnderlying34 sizeOf9 (fun FZ=>?_);refine aW (dj (S1:=[⟨FZ,9,3*1,flatMap cS (nF)⟩]) (A:=[_])) ?_;refine iH (t:=99) (Sq:=[⟨FZ,9,3*1,flatMap cS (nF)⟩]) lk (cU (g:=cS) (sz:=1) (e:=9) (ls:=nF) (Nat.le_refl _) (show 3<=maxLen by decide)) (de ej _) (cy (A:=[_])) ?_;refine ae (aB 0) ?_;refine ae fE ?_;refine ae (eX (r:=.int .i64 ((j:Nat):Int)) rfl ot aN (qC (by rw[hj,show(((7+j:Nat)):Int)-7=((j:Nat):Int) by omega];exact wrap_i64 w7 (by have:j<3:=uw;omega)))) ?_;refine ae (dW 1 (h:=by first|exact .l (j:=j) rfl uw|exact .r (j:=j) rfl uw)) ?_;refine ae (cm (mk:=Op.load 9) rfl ot (by exact lG (i:=j) ej isAgg9 uw rfl)) ?_;refine dM (aU 0 [_]) [.string ⟨#[]⟩] [_] zeroValue9 runUnderlying34 sizeOf9 (fun Eh=>?_);refine aW (dj (S1:=[⟨Eh,9,1*1,flatMap cS ([nF[j]])⟩]) (A:=[_])) ?_;refine iH (t:=105) (Sq:=[⟨Eh,9,1*1,flatMap cS ([nF[j]])⟩]) lk (cU (g:=cS) (sz:=1) (e:=9) (ls:=[nF[j]]) (Nat.le_refl _) (show 1<=maxLen by decide)) (de ej _) (cy (A:=[_])) ?_;refine bU call131 (jU [nF[j]] rz) ?_;refine aa ?_;refine aK [(2,_)] [⟨O,70,12,[_,_,_,_,_,_,_,_,_,_,_,_]⟩] ?_;refine aI ?_;refine⟨.inr rfl,en results73 ?_⟩
 refine⟨?_,rfl⟩;unfold k6;rw[if_neg E,if_neg aX,if_neg bu,if_neg bE,if_neg I,if_neg U,hj,show(((7+j:Nat):Int)-7).toNat=j by omega,getD_at uw];first|done|rfl
end Go.Proofs.YtomnenkeecbglaaGreatDoor.Pa
