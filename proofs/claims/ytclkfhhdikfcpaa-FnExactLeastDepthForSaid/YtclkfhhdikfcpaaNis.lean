/- Functions of the program as plain functions, and what they compute. Conditions: those in each lemma. -/
import Derived.Test.YtclkfhhdikfcpaaL6
import Derived.Test.YtclkfhhdikfcpaaDt
open Inhabited renaming default → be
open Dv.D renaming int → bd,sl → bh,bool → b9,own → cd,agg → ce
open Nat renaming reduceEqDiff → bj,reduceLT → bk,reduceLeDiff → bl,reduceAdd → bm,reduceMul → bo,reduceMod → bp,reduceDiv → br,reducePow → bt,reduceSub → bw,reduceBEq → bx
open Int renaming reduceLE → bO,reduceLT → b0,reduceEq → b3,reduceSub → b4,reduceAdd → b5,reduceToNat → b6,reduceNeg → b7
open Sum renaming inr → b8,inl → cb
open Go.IntKind renaming i64 → ca
open Go.ResultVar renaming tmp → cc
open List renaming range → an,replicate → ao,pairwise_cons → cf
noncomputable section
namespace Go.Proofs.Ytclkfhhdikfcpaa
open Go Dv
set_option linter.unusedSimpArgs false
set_option linter.unusedVariables false
set_option maxRecDepth 100000
set_option maxHeartbeats 4000000
def RD(l:Zv):Prop:=l.length<1099511627776∧ ∀x∈l,x.length<1099511627776
theorem RD.nil:RD []:=⟨by decide,fun _ h=>by cases h⟩
theorem RD.at{l:Zv}(h:RD l)(i:Nat)(hi:i<l.length):l[i].length<1099511627776:=h.2 _ (JQ hi)
instance (l:Zv):Decidable (RD l):=by unfold RD;infer_instance
theorem XK{α:Type}[Inhabited α](xs:List α)(i:Nat)(h:i<xs.length)(z:α):(xs.take i++ao (xs.length-i) z).set i xs[i]=xs.take (i+1)++ao (xs.length-(i+1)) z:=by
 have e:xs.length-i=(xs.length-(i+1))+1:=by omega
 rw [e,gQ,List.set_append_right _ _ (by simp;omega),List.take_succ_eq_append_getElem h]
 have:i-(xs.take i).length=0:=by simp;omega
 rw [this,List.set_cons_zero,P8];rfl
def GX(a:AL)(out:AL)(i:Int):Option ((AL×Int)⊕(AL)):= if i<(a.length:Int)then ck (0≤i∧i.toNat<a.length)<| ck (0≤i∧i.toNat<out.length)<| some (cb ((out.set i.toNat (a.getD i.toNat be)),ca.wrap (i+1))) else some (b8 out)
def LB(a:AL)(v:AL×Int):Option (AL):=Im (fun v=>GX a v.1 v.2) v
def Ph(a:AL):Option (AL):= ck (0≤(a.length:Int)∧(a.length:Int)<1099511627776)<| (LB a ((ao a.length 0),0)).bind fun AY=> some AY
def XL:SC:= .seq (.seq (.ops [oM 8 4 3,oM 9 0 26,oN 10 9 26,oB 11 .lss 3 (tK 8) (tK 10) 3 4]) (.cond (tK 11) .skip (.exit 0))) (.seq (.block 1 (.ops [oM 14 3 26,oM 15 4 3,oM 16 0 26,oM 17 4 3,oI 18 26 16 17,oL 19 3 18 3,oI 20 26 14 15,oS 3 20 19])) (.ops [oM 12 4 3,oB 13 .add 3 (tK 12) (iK 1) 3 3,oA 4 13 3]))
def mo:SC:= .loop XL
def k66:SC:= .seq (.ops [oX 2 OL 26]) (.seq (.ops [oM 5 0 26,oN 6 5 26,oX 7 (.makeSlice 26 (tK 6) (tK 6)) 26,oA 3 7 26]) (.seq (.seq (.ops [oX 4 (.assign (iK 0)) 3]) (.block 0 mo)) (.seq (.ops [oM 21 3 26,oA 2 21 26]) .ret)))
theorem A1W:Try.f66.body.map (Ba lends)=some k66:=by kernel_rfl
theorem ADZ:Bz Try.f66 1=true:=by kernel_rfl
theorem c66{a l:List D}{r:D×List D}(h:C8 Y.env k66 (Fa Ac l.length [cc 2] r) (entry a l))(ha:a.length=1):Y.call 66 a l=some r:=
 Aa (Y:=Y) rfl Try.func66 (ha▸ADZ) A1W h
def GY(a:AL)(out:AL)(i:Int)(s:St):Prop:=s.v 0=bh 3 (AP (bd .i64) a)∧s.v 3=cd 3 (AP (bd .i64) out)∧s.v 4=bd .i64 i
def IJ(a:AL)(r:AL)(ex:Ex)(s:St):Prop:=ex= .exit 0∧s.v 3=cd 3 (AP (bd .i64) r)
theorem Tp(a:AL){v:AL×Int}{s:St}{r:AL}(h:LB a v=some r)(hM:GY a v.1 v.2 s):C8 Y.env mo (IJ a r) s:=by
 unfold LB at h;refine BU (c:=XL) (fun v=>GX a v.1 v.2) (fun v s=>GY a v.1 v.2 s) (IJ a) ?_ h hM;clear h hM s v r;intro v s o hM h;obtain⟨out,i⟩:=v;dsimp only at h hM;unfold GX at h;unfold GY at hM;obtain⟨m0,m1,m2⟩:=hM;unfold XL;by_cases e2:i<(a.length:Int)
 ·rw [if_pos e2]at h;obtain⟨e3,h⟩:=Bw h;obtain⟨e4,h⟩:=Bw h
  obtain rfl:=Option.some.inj h
  simp (maxDischargeDepth:=9) only [↓AQ,AR,Ah,↓reduceIte,bj,bk,bl,bm,bo,bp,br,bt,bw,bx,bO,b0,b3,b4,b5,b6,b7,m0,m1,m2,e2,e3.1,e3.2,e4.1,e4.2,GY,IJ,Ch,Ci,Cj]<;>(repeat' apply A7)<;>first|rfl|exact⟨_,rfl⟩|exact⟨_,_,rfl⟩|simp [AP,A8]
 ·rw [if_neg e2]at h
  obtain rfl:=Option.some.inj h
  simp (maxDischargeDepth:=9) only [↓AQ,AR,Ah,↓reduceIte,bj,bk,bl,bm,bo,bp,br,bt,bw,bx,bO,b0,b3,b4,b5,b6,b7,m0,m1,m2,e2,GY,IJ,Ch,Ci,Cj]<;>(repeat' apply A7)<;>first|rfl|exact⟨_,rfl⟩|exact⟨_,_,rfl⟩|simp [AP,A8]
theorem VP(a:AL){r:AL}(h:Ph a=some r):Y.call 66 [bh 3 (AP (bd .i64) a)] []=some (cd 3 (AP (bd .i64) r),[]):=by
 refine c66 ?_ rfl;unfold k66;unfold Ph at h;obtain⟨e1,h⟩:=Bw h;obtain⟨AY,hl3,h⟩:=Ar h;try dsimp only at h
 simp (maxDischargeDepth:=9) only [↓AQ,AR,Ah,↓reduceIte,bj,bk,bl,bm,bo,bp,br,bt,bw,bx,bO,b0,b3,b4,b5,b6,b7,e1.1,e1.2];refine BF (Tp a hl3 ?_) ?_
 ·simp (maxDischargeDepth:=9) only [↓AQ,AR,Ah,↓reduceIte,bj,bk,bl,bm,bo,bp,br,bt,bw,bx,bO,b0,b3,b4,b5,b6,b7,e1.1,e1.2,GY]<;>(repeat' apply A7)<;>first|rfl|exact⟨_,rfl⟩|exact⟨_,_,rfl⟩|simp [AP,A8]
 ·intro ex3 s3 hX3;unfold IJ at hX3;obtain⟨rfl,n3_0⟩:=hX3
  obtain rfl:=Option.some.inj h
  simp (maxDischargeDepth:=9) only [↓AQ,AR,Ah,↓reduceIte,bj,bk,bl,bm,bo,bp,br,bt,bw,bx,bO,b0,b3,b4,b5,b6,b7,e1.1,e1.2,n3_0]<;>(repeat' apply A7)<;>first|rfl|exact⟨_,rfl⟩|exact⟨_,_,rfl⟩|simp [AP,A8]
theorem ZQ(a:AL)(h:a.length<1099511627776):Ph a=some a:=by
 have key:=CF (fun v=>GX a v.1 v.2) (fun i=>(a.take i++ao (a.length-i) 0,(i:Int))) a.length a ?_ ?_
 ·unfold Ph LB;rw [Br (by omega)]
  simp only [List.take_zero,V4,Nat.sub_zero,OJ]at key;rw [key];rfl
 ·intro i hi;simp only [GX];rw [if_pos (Bc hi),Br (J6 hi),Br (J6 (by simp;omega)),J5 _ _ hi,K4,XK a i hi 0,Kb i (by omega)]
 ·simp only [GX];rw [if_neg (Ap _)];simp
theorem RF(a:AL)(h0:a.length<1099511627776):Y.call 66 [bh 3 (AP (bd .i64) a)] []=some (cd 3 (AP (bd .i64) a),[]):=VP a (ZQ a h0)
def GZ(a:AL)(b:AL)(i:Int):Option ((Int)⊕(Unit⊕Unit)):= if i<(a.length:Int)then ck (0≤i∧i.toNat<a.length)<| ck (0≤i∧i.toNat<b.length)<| if(a.getD i.toNat be)=(b.getD i.toNat be)then some (cb (ca.wrap (i+1))) else some (b8 (cb ())) else some (b8 (b8 ()))
def LC(a:AL)(b:AL)(v:Int):Option (Unit⊕Unit):=Im (fun v=>GZ a b v) v
def Pi(a:AL)(b:AL):Option (Bool):=
 if(a.length:Int)=(b.length:Int)then
  (LC a b 0).bind fun AY=>
  match AY with
  | .inl q1000_=>
   some false
  | .inr q1000_=>
   some true
 else
  some false
abbrev qh:List Nat:=[17,18,19,20,21,22,23,24,25]
def XM:SC:= .seq (.seq (.ops [oM 11 5 3,oM 12 0 26,oN 13 12 26,oB 14 .lss 3 (tK 11) (tK 13) 3 4]) (.cond (tK 14) .skip (.exit 0))) (.seq (.block 1 (.seq (.draws [(⟨[17,0,0],qh,[17]⟩,oM 17 0 26),(⟨[18,5,5],qh,[18]⟩,oM 18 5 3),(⟨[19,17,18,0,5],qh,[19]⟩,oI 19 26 17 18),(⟨[20,19,0],qh,[20]⟩,oL 20 3 19 3),(⟨[21,1,1],qh,[21]⟩,oM 21 1 26),(⟨[22,5,5],qh,[22]⟩,oM 22 5 3),(⟨[23,21,22,1,5],qh,[23]⟩,oI 23 26 21 22),(⟨[24,23,1],qh,[24]⟩,oL 24 3 23 3),(⟨[25,20,24,0,1],qh,[25]⟩,oB 25 .neq 3 (tK 20) (tK 24) 3 4)]) (.cond (tK 25) (.seq (.ops [oX 4 CV 4]) .ret) .skip))) (.ops [oM 15 5 3,oB 16 .add 3 (tK 15) (iK 1) 3 3,oA 5 16 3]))
def mq:SC:= .loop XM
def k14:SC:= .seq (.ops [oX 4 CV 4]) (.seq (.seq (.ops [oM 6 0 26,oN 7 6 26,oM 8 1 26,oN 9 8 26,oB 10 .neq 3 (tK 7) (tK 9) 3 4]) (.cond (tK 10) (.seq (.ops [oX 4 CV 4]) .ret) .skip)) (.seq (.seq (.ops [oX 5 (.assign (iK 0)) 3]) (.block 0 mq)) (.seq (.ops [oX 4 (.assign Fw) 4]) .ret)))
theorem A1X:Try.f14.body.map (Ba lends)=some k14:=by kernel_rfl
theorem ADb:Bz Try.f14 2=true:=by kernel_rfl
theorem c14{a l:List D}{r:D×List D}(h:C8 Y.env k14 (Fa Ac l.length [cc 4] r) (entry a l))(ha:a.length=2):Y.call 14 a l=some r:=
 Aa (Y:=Y) rfl Try.func14 (ha▸ADb) A1X h
def F5(a:AL)(b:AL)(i:Int)(s:St):Prop:=s.v 0=bh 3 (AP (bd .i64) a)∧s.v 1=bh 3 (AP (bd .i64) b)∧s.v 5=bd .i64 i
def F6(a:AL)(b:AL)(r:Unit⊕Unit)(ex:Ex)(s:St):Prop:=match r with
 | .inl q=>ex= .ret∧s.v 4=b9 false
 | .inr q=>ex= .exit 0
theorem Tq(a:AL)(b:AL){v:Int}{s:St}{r:Unit⊕Unit}(h:LC a b v=some r)(hM:F5 a b v s):C8 Y.env mq (F6 a b r) s:=by
 unfold LC at h;refine BU (c:=XM) (fun v=>GZ a b v) (fun v s=>F5 a b v s) (F6 a b) ?_ h hM;clear h hM s v r;intro i s o hM h;unfold GZ at h;unfold F5 at hM;obtain⟨m0,m1,m2⟩:=hM;unfold XM;by_cases e2:i<(a.length:Int)
 ·rw [if_pos e2]at h;obtain⟨e3,h⟩:=Bw h;obtain⟨e4,h⟩:=Bw h;by_cases e5:(a.getD i.toNat be)=(b.getD i.toNat be)
  ·rw [if_pos e5]at h
   obtain rfl:=Option.some.inj h
   simp (maxDischargeDepth:=9) only [↓AQ,AR,Ah,↓reduceIte,bj,bk,bl,bm,bo,bp,br,bt,bw,bx,bO,b0,b3,b4,b5,b6,b7,m0,m1,m2,e2,e3.1,e3.2,e4.1,e4.2,decide_eq_true e5,F5,F6,Ch,Ci,Cj]<;>(repeat' apply A7)<;>first|rfl|exact⟨_,rfl⟩|exact⟨_,_,rfl⟩|simp [AP,A8]
  ·rw [if_neg e5]at h
   obtain rfl:=Option.some.inj h
   simp (maxDischargeDepth:=9) only [↓AQ,AR,Ah,↓reduceIte,bj,bk,bl,bm,bo,bp,br,bt,bw,bx,bO,b0,b3,b4,b5,b6,b7,m0,m1,m2,e2,e3.1,e3.2,e4.1,e4.2,e5,F5,F6,Ch,Ci,Cj]<;>(repeat' apply A7)<;>first|rfl|exact⟨_,rfl⟩|exact⟨_,_,rfl⟩|simp [AP,A8]
 ·rw [if_neg e2]at h
  obtain rfl:=Option.some.inj h
  simp (maxDischargeDepth:=9) only [↓AQ,AR,Ah,↓reduceIte,bj,bk,bl,bm,bo,bp,br,bt,bw,bx,bO,b0,b3,b4,b5,b6,b7,m0,m1,m2,e2,F5,F6,Ch,Ci,Cj]<;>(repeat' apply A7)<;>first|rfl|exact⟨_,rfl⟩|exact⟨_,_,rfl⟩|simp [AP,A8]
theorem VQ(a:AL)(b:AL){r:Bool}(h:Pi a b=some r):Y.call 14 [bh 3 (AP (bd .i64) a),bh 3 (AP (bd .i64) b)] []=some (b9 r,[]):=by
 refine c14 ?_ rfl;unfold k14;unfold Pi at h;by_cases e1:(a.length:Int)=(b.length:Int)
 ·rw [if_pos e1]at h;obtain⟨AY,hl3,h⟩:=Ar h;try dsimp only at h
  simp (maxDischargeDepth:=9) only [↓AQ,AR,Ah,↓reduceIte,bj,bk,bl,bm,bo,bp,br,bt,bw,bx,bO,b0,b3,b4,b5,b6,b7,decide_eq_true e1];refine BF (Tq a b hl3 ?_) ?_
  ·simp (maxDischargeDepth:=9) only [↓AQ,AR,Ah,↓reduceIte,bj,bk,bl,bm,bo,bp,br,bt,bw,bx,bO,b0,b3,b4,b5,b6,b7,decide_eq_true e1,F5]<;>(repeat' apply A7)<;>first|rfl|exact⟨_,rfl⟩|exact⟨_,_,rfl⟩|simp [AP,A8]
  ·intro ex3 s3 hX3;rcases AY with q1000_|q1000_
   ·unfold F6 at hX3;dsimp only at hX3 h;obtain⟨rfl,n3_0⟩:=hX3
    obtain rfl:=Option.some.inj h
    simp (maxDischargeDepth:=9) only [↓AQ,AR,Ah,↓reduceIte,bj,bk,bl,bm,bo,bp,br,bt,bw,bx,bO,b0,b3,b4,b5,b6,b7,decide_eq_true e1,n3_0]<;>(repeat' apply A7)<;>first|rfl|exact⟨_,rfl⟩|exact⟨_,_,rfl⟩|simp [AP,A8]
   ·unfold F6 at hX3;dsimp only at hX3 h
    obtain rfl:=hX3
    obtain rfl:=Option.some.inj h
    simp (maxDischargeDepth:=9) only [↓AQ,AR,Ah,↓reduceIte,bj,bk,bl,bm,bo,bp,br,bt,bw,bx,bO,b0,b3,b4,b5,b6,b7,decide_eq_true e1]<;>(repeat' apply A7)<;>first|rfl|exact⟨_,rfl⟩|exact⟨_,_,rfl⟩|simp [AP,A8]
 ·rw [if_neg e1]at h
  obtain rfl:=Option.some.inj h
  simp (maxDischargeDepth:=9) only [↓AQ,AR,Ah,↓reduceIte,bj,bk,bl,bm,bo,bp,br,bt,bw,bx,bO,b0,b3,b4,b5,b6,b7,e1]<;>(repeat' apply A7)<;>first|rfl|exact⟨_,rfl⟩|exact⟨_,_,rfl⟩|simp [AP,A8]
theorem ZR(a b:AL)(ha:a.length<1099511627776):Pi a b=some (decide (a=b)):=by
 unfold Pi LC;by_cases hl:a.length=b.length
 ·rw [if_pos (by omega)]
  have key:=IZ (fun v=>GZ a b v) (fun i=>(i:Int)) a.length (fun i=>decide (a.getD i be=b.getD i be)) (.inl ()) (.inr ()) ?_ ?_
  ·simp only [OJ]at key;rw [key,Tj a b hl];by_cases he:a=b<;>simp [he]
  ·intro i hi;simp only [GZ];rw [if_pos (Bc hi),Br (J6 hi),Br (J6 (by omega)),K4,Kb i (by omega)]<;>simp only [decide_eq_true_eq]
  ·simp only [GZ];rw [if_neg (Ap _)]
 ·rw [if_neg (by omega)]
  have: ¬a=b:=fun e=>hl (by rw [e])
  simp [this]
theorem RG(a:AL)(b:AL)(h0:a.length<1099511627776):Y.call 14 [bh 3 (AP (bd .i64) a),bh 3 (AP (bd .i64) b)] []=some (b9 (decide (a=b)),[]):=VQ a b (ZR a b h0)
def H9(left n:Int):Int:=if left-n<0 then-1 else left-n
theorem KP(left n:Int):H9 left n= -1∨(H9 left n=left-n∧0≤left-n):=by unfold H9;split<;>omega
def Ky(l:Zv):Int:=(l.map fun xs=>(xs.length:Int)).sum
theorem eZ:Ky []=0:=rfl
theorem Pj(x:AL)(l:Zv):Ky (x::l)=x.length+Ky l:=rfl
theorem JX(l:Zv):0≤Ky l:=by
 induction l with
 |nil=>rw [eZ];omega
 |cons x l ih=>rw [Pj];omega
theorem qi{l:Zv}{x:AL}(h:x∈l):(x.length:Int)≤Ky l:=by
 induction l with
 |nil=>cases h
 |cons y l ih=>
  rw [Pj];have:=JX l
  rcases PE.1 h with rfl|h
  ·omega
  ·have:=ih h;omega
def Pk(a:AL)(left:Int):Option (Int):= if(ca.wrap (left-(a.length:Int)))<0 then some (-1) else some (ca.wrap (left-(a.length:Int)))
def k59:SC:= .seq (.ops [oX 4 (.assign (iK 0)) 3]) (.seq (.ops [oM 5 1 3,oM 6 0 26,oN 7 6 26,oB 8 .sub 3 (tK 5) (tK 7) 3 3,oA 1 8 3]) (.seq (.seq (.ops [oM 9 1 3,oB 10 .lss 3 (tK 9) (iK 0) 3 4]) (.cond (tK 10) (.seq (.ops [oX 4 Ot 3]) .ret) .skip)) (.seq (.ops [oM 11 1 3,oA 4 11 3]) .ret)))
theorem A1Y:Try.f59.body.map (Ba lends)=some k59:=by kernel_rfl
theorem ADd:Bz Try.f59 2=true:=by kernel_rfl
theorem c59{a l:List D}{r:D×List D}(h:C8 Y.env k59 (Fa Ac l.length [cc 4] r) (entry a l))(ha:a.length=2):Y.call 59 a l=some r:=
 Aa (Y:=Y) rfl Try.func59 (ha▸ADd) A1Y h
theorem VS(a:AL)(left:Int){r:Int}(h:Pk a left=some r):Y.call 59 [bh 3 (AP (bd .i64) a),bd .i64 left] []=some (bd .i64 r,[]):=by
 refine c59 ?_ rfl;unfold k59;unfold Pk at h;by_cases e1:(ca.wrap (left-(a.length:Int)))<0
 ·rw [if_pos e1]at h
  obtain rfl:=Option.some.inj h
  simp (maxDischargeDepth:=9) only [↓AQ,AR,Ah,↓reduceIte,bj,bk,bl,bm,bo,bp,br,bt,bw,bx,bO,b0,b3,b4,b5,b6,b7,e1]<;>(repeat' apply A7)<;>first|rfl|exact⟨_,rfl⟩|exact⟨_,_,rfl⟩|simp [AP,A8]
 ·rw [if_neg e1]at h
  obtain rfl:=Option.some.inj h
  simp (maxDischargeDepth:=9) only [↓AQ,AR,Ah,↓reduceIte,bj,bk,bl,bm,bo,bp,br,bt,bw,bx,bO,b0,b3,b4,b5,b6,b7,e1]<;>(repeat' apply A7)<;>first|rfl|exact⟨_,rfl⟩|exact⟨_,_,rfl⟩|simp [AP,A8]
theorem ZT(a:AL)(left:Int)(ha:a.length<9223372036854775808)(hl:0≤left∧left≤1048576):Pk a left=some (H9 left a.length):=by
 unfold Pk H9;rw [Lb _ (by omega)]
 split<;>rfl
theorem RH(a:AL)(left:Int)(h0:a.length<9223372036854775808)(h1:0≤left∧left≤1048576):Y.call 59 [bh 3 (AP (bd .i64) a),bd .i64 left] []=some (bd .i64 (H9 left a.length),[]):=VS a left (ZT a left h0 h1)
def zx:Int→Zv→Int
 |left,[]=>left
 |left,x::l=>if left-x.length<0 then-1 else zx (left-x.length) l
theorem A1Z(l:Zv): ∀(left:Int),0≤left→zx left l=H9 left (Ky l):=by
 induction l with
 |nil=>intro left h;unfold zx H9;rw [eZ,if_neg (by omega)];omega
 |cons x l ih=>
  intro left h;have:=JX l
  unfold zx;by_cases hq:left-x.length<0
  ·rw [if_pos hq];unfold H9;rw [Pj,if_pos (by omega)]
  ·rw [if_neg hq,ih _ (by omega)]
   unfold H9;rw [Pj];by_cases hr:left-x.length-Ky l<0
   ·rw [if_pos hr,if_pos (by omega)]
   ·rw [if_neg hr,if_neg (by omega)];omega
def A8h(l:Zv):Prop:=l.length<9223372036854775808∧ ∀x∈l,x.length<9223372036854775808
instance (l:Zv):Decidable (A8h l):=by unfold A8h;infer_instance
def upto(k:Int)(n:Nat):AL:=(an n).map fun(i:Nat)=>k+i
def qj:SC:= .seq (.seq (.ops [oM 6 5 3,oM 7 0 26,oN 8 7 26,oB 9 .lss 3 (tK 6) (tK 8) 3 4]) (.cond (tK 9) .skip (.exit 0))) (.seq (.block 1 (.seq (.ops [oM 12 0 26,oM 13 5 3,oM 14 1 3,oI 15 26 12 13,oS 3 15 14]) (.ops [oM 16 1 3,oB 17 .add 3 (tK 16) (iK 1) 3 3,oA 1 17 3]))) (.ops [oM 10 5 3,oB 11 .add 3 (tK 10) (iK 1) 3 3,oA 5 11 3]))
def A1a:SC:= .loop qj
def k17:SC:= .seq (.ops [oX 4 (.assign (iK 0)) 3]) (.seq (.seq (.ops [oX 5 (.assign (iK 0)) 3]) (.block 0 A1a)) (.seq (.ops [oM 18 1 3,oA 4 18 3]) .ret))
theorem A1b:Try.f17.body.map (Ba lends)=some k17:=by kernel_rfl
theorem ADe:Bz Try.f17 2=true:=by kernel_rfl
theorem c17{a l:List D}{r:D×List D}(h:C8 Y.env k17 (Fa Ac l.length [cc 4] r) (entry a l))(ha:a.length=2):Y.call 17 a l=some r:=
 Aa (Y:=Y) rfl Try.func17 (ha▸ADe) A1b h
def A8i:Int→Zv→Zv
 |_,[]=>[]
 |k,x::l=>upto k x.length::A8i (k+x.length) l
def ik:Int→AL→Int
 |k,[]=>k
 |k,x::l=>if x=k then ik (k+1) l else-1
def ql:SC:= .seq (.seq (.ops [oM 6 5 3,oM 7 0 26,oN 8 7 26,oB 9 .lss 3 (tK 6) (tK 8) 3 4]) (.cond (tK 9) .skip (.exit 0))) (.seq (.block 1 (.seq (.seq (.ops [oM 12 0 26,oM 13 5 3,oI 14 26 12 13,oL 15 3 14 3,oM 16 1 3,oB 17 .neq 3 (tK 15) (tK 16) 3 4]) (.cond (tK 17) (.seq (.ops [oX 4 Ot 3]) .ret) .skip)) (.ops [oM 18 1 3,oB 19 .add 3 (tK 18) (iK 1) 3 3,oA 1 19 3]))) (.ops [oM 10 5 3,oB 11 .add 3 (tK 10) (iK 1) 3 3,oA 5 11 3]))
def A1c:SC:= .loop ql
def k18:SC:= .seq (.ops [oX 4 (.assign (iK 0)) 3]) (.seq (.seq (.ops [oX 5 (.assign (iK 0)) 3]) (.block 0 A1c)) (.seq (.ops [oM 20 1 3,oA 4 20 3]) .ret))
theorem A1d:Try.f18.body.map (Ba lends)=some k18:=by kernel_rfl
theorem ADf:Bz Try.f18 2=true:=by kernel_rfl
theorem ow{a l:List D}{r:D×List D}(h:C8 Y.env k18 (Fa Ac l.length [cc 4] r) (entry a l))(ha:a.length=2):Y.call 18 a l=some r:=
 Aa (Y:=Y) rfl Try.func18 (ha▸ADf) A1d h
def k12:SC:= .seq (.ops [oX 1 (.box 24 (tK 0)) 0,oX 2 (.alloc 29) 0]) (.seq (.ops [oX 3 (.alloc 29) 0]) (.seq (.ops [oF 4 24 1 0,oL 5 3 4 3,oF 6 29 3 0,oS 3 6 5]) (.seq (.ops [oF 7 24 1 1,oL 8 3 7 3,oF 9 29 3 1,oS 3 9 8]) (.seq (.ops [oF 10 24 1 2,oL 11 22 10 22,oC 12 45 [(tK 11)] [22] 22,oF 13 29 3 2,oS 22 13 12]) (.seq (.ops [oF 14 24 1 3,oL 15 22 14 22,oC 16 45 [(tK 15)] [22] 22,oF 17 29 3 3,oS 22 17 16]) (.seq (.ops [oL 18 29 3 29,oS 29 2 18]) .ret))))))
theorem A1e:Try.f12.body.map (Ba lends)=some k12:=by kernel_rfl
theorem ADg:Bz Try.f12 1=true:=by kernel_rfl
theorem mr{a l:List D}{r:D×List D}(h:C8 Y.env k12 (Fa Ac l.length [ResultVar.cell 2 29] r) (entry a l))(ha:a.length=1):Y.call 12 a l=some r:=
 Aa (Y:=Y) rfl Try.func12 (ha▸ADg) A1e h
def k15:SC:= .seq (.ops [oX 2 (.box 29 (tK 0)) 0,oX 3 (.box 29 (tK 1)) 0,oX 4 CV 4]) (.seq (.seq (.ops [oF 5 29 2 0,oL 6 3 5 3,oF 7 29 3 0,oL 8 3 7 3,oB 9 .neq 3 (tK 6) (tK 8) 3 4]) (.cond (tK 9) (.seq (.ops [oX 4 CV 4]) .ret) .skip)) (.seq (.seq (.ops [oF 10 29 2 1,oL 11 3 10 3,oF 12 29 3 1,oL 13 3 12 3,oB 14 .neq 3 (tK 11) (tK 13) 3 4]) (.cond (tK 14) (.seq (.ops [oX 4 CV 4]) .ret) .skip)) (.seq (.seq (.ops [oF 15 29 2 2,oL 16 22 15 22,oF 17 29 3 2,oL 18 22 17 22,oC 19 48 [(tK 16),(tK 18)] [22,22] 4,oX 20 (.unOp .not 4 (tK 19)) 4]) (.cond (tK 20) (.seq (.ops [oX 4 CV 4]) .ret) .skip)) (.seq (.seq (.ops [oF 21 29 2 3,oL 22 22 21 22,oF 23 29 3 3,oL 24 22 23 22,oC 25 48 [(tK 22),(tK 24)] [22,22] 4,oX 26 (.unOp .not 4 (tK 25)) 4]) (.cond (tK 26) (.seq (.ops [oX 4 CV 4]) .ret) .skip)) (.seq (.ops [oX 4 (.assign Fw) 4]) .ret)))))
theorem A1f:Try.f15.body.map (Ba lends)=some k15:=by kernel_rfl
theorem ADh:Bz Try.f15 2=true:=by kernel_rfl
theorem c15{a l:List D}{r:D×List D}(h:C8 Y.env k15 (Fa Ac l.length [cc 4] r) (entry a l))(ha:a.length=2):Y.call 15 a l=some r:=
 Aa (Y:=Y) rfl Try.func15 (ha▸ADh) A1f h
def k10:SC:= .seq (.ops [oX 2 (.box 24 (tK 0)) 0,oX 4 (.assign (iK 0)) 3]) (.seq (.ops [oF 5 24 2 2,oL 6 22 5 22,oM 7 1 3,oC 8 40 [(tK 6),(tK 7)] [22,3] 3,oA 1 8 3]) (.seq (.seq (.ops [oM 9 1 3,oB 10 .lss 3 (tK 9) (iK 0) 3 4]) (.cond (tK 10) (.seq (.ops [oX 4 Ot 3]) .ret) .skip)) (.seq (.ops [oF 11 24 2 3,oL 12 22 11 22,oM 13 1 3,oC 14 40 [(tK 12),(tK 13)] [22,3] 3,oA 1 14 3]) (.seq (.seq (.ops [oM 15 1 3,oB 16 .lss 3 (tK 15) (iK 0) 3 4]) (.cond (tK 16) (.seq (.ops [oX 4 Ot 3]) .ret) .skip)) (.seq (.ops [oM 17 1 3,oA 4 17 3]) .ret)))))
theorem A1g:Try.f10.body.map (Ba lends)=some k10:=by kernel_rfl
theorem ADi:Bz Try.f10 2=true:=by kernel_rfl
theorem zy{a l:List D}{r:D×List D}(h:C8 Y.env k10 (Fa Ac l.length [cc 4] r) (entry a l))(ha:a.length=2):Y.call 10 a l=some r:=
 Aa (Y:=Y) rfl Try.func10 (ha▸ADi) A1g h
def Iq(n lo hi:Int):Bool:=decide (lo≤n∧n≤hi)
theorem KA{n lo hi:Int}:Iq n lo hi=true↔lo≤n∧n≤hi:=by simp [Iq]
def Pn(n_:Int)(low:Int)(high:Int):Option (Bool):= if low≤n_ then some (decide (n_≤high)) else some false
def k97:SC:= .seq (.ops [oX 6 CV 4]) (.seq (.ops [oM 7 1 3,oM 8 0 3,oB 9 .leq 3 (tK 7) (tK 8) 3 4,oM 10 9 4,⟨(some 11),(.move (tK 0)),3,(some (some 10,true))⟩,⟨(some 12),(.move (tK 2)),3,(some (some 10,true))⟩,⟨(some 13),(.binOp .leq 3 (tK 11) (tK 12) 3),4,(some (some 10,true))⟩,oX 14 (.pick (tK 10) (tK 13) Ou) 4,oA 6 14 4]) .ret)
theorem A1h:Try.f97.body.map (Ba lends)=some k97:=by kernel_rfl
theorem ADk:Bz Try.f97 3=true:=by kernel_rfl
theorem c97{a l:List D}{r:D×List D}(h:C8 Y.env k97 (Fa Ac l.length [cc 6] r) (entry a l))(ha:a.length=3):Y.call 97 a l=some r:=
 Aa (Y:=Y) rfl Try.func97 (ha▸ADk) A1h h
theorem VT(n_:Int)(low:Int)(high:Int){r:Bool}(h:Pn n_ low high=some r):Y.call 97 [bd .i64 n_,bd .i64 low,bd .i64 high] []=some (b9 r,[]):=by
 refine c97 ?_ rfl;unfold k97;unfold Pn at h;by_cases e1:low≤n_
 ·rw [if_pos e1]at h
  obtain rfl:=Option.some.inj h
  simp (maxDischargeDepth:=9) only [↓AQ,AR,Ah,↓reduceIte,bj,bk,bl,bm,bo,bp,br,bt,bw,bx,bO,b0,b3,b4,b5,b6,b7,e1]<;>(repeat' apply A7)<;>first|rfl|exact⟨_,rfl⟩|exact⟨_,_,rfl⟩|simp [AP,A8]
 ·rw [if_neg e1]at h
  obtain rfl:=Option.some.inj h
  simp (maxDischargeDepth:=9) only [↓AQ,AR,Ah,↓reduceIte,bj,bk,bl,bm,bo,bp,br,bt,bw,bx,bO,b0,b3,b4,b5,b6,b7,e1]<;>(repeat' apply A7)<;>first|rfl|exact⟨_,rfl⟩|exact⟨_,_,rfl⟩|simp [AP,A8]
def XN(n_:Int)(lo:Int)(hi:Int):Option (Bool):= if lo≤n_ then some (decide (n_≤hi)) else some false
def k92:SC:= .seq (.ops [oX 6 CV 4]) (.seq (.ops [oM 7 0 3,oM 8 1 3,oB 9 .geq 3 (tK 7) (tK 8) 3 4,oM 10 9 4,⟨(some 11),(.move (tK 0)),3,(some (some 10,true))⟩,⟨(some 12),(.move (tK 2)),3,(some (some 10,true))⟩,⟨(some 13),(.binOp .leq 3 (tK 11) (tK 12) 3),4,(some (some 10,true))⟩,oX 14 (.pick (tK 10) (tK 13) Ou) 4,oA 6 14 4]) .ret)
theorem A1i:Try.f92.body.map (Ba lends)=some k92:=by kernel_rfl
theorem ADm:Bz Try.f92 3=true:=by kernel_rfl
theorem c92{a l:List D}{r:D×List D}(h:C8 Y.env k92 (Fa Ac l.length [cc 6] r) (entry a l))(ha:a.length=3):Y.call 92 a l=some r:=
 Aa (Y:=Y) rfl Try.func92 (ha▸ADm) A1i h
theorem ZU(n_:Int)(lo:Int)(hi:Int){r:Bool}(h:XN n_ lo hi=some r):Y.call 92 [bd .i64 n_,bd .i64 lo,bd .i64 hi] []=some (b9 r,[]):=by
 refine c92 ?_ rfl;unfold k92;unfold XN at h;by_cases e1:lo≤n_
 ·rw [if_pos e1]at h
  obtain rfl:=Option.some.inj h
  simp (maxDischargeDepth:=9) only [↓AQ,AR,Ah,↓reduceIte,bj,bk,bl,bm,bo,bp,br,bt,bw,bx,bO,b0,b3,b4,b5,b6,b7,e1]<;>(repeat' apply A7)<;>first|rfl|exact⟨_,rfl⟩|exact⟨_,_,rfl⟩|simp [AP,A8]
 ·rw [if_neg e1]at h
  obtain rfl:=Option.some.inj h
  simp (maxDischargeDepth:=9) only [↓AQ,AR,Ah,↓reduceIte,bj,bk,bl,bm,bo,bp,br,bt,bw,bx,bO,b0,b3,b4,b5,b6,b7,e1]<;>(repeat' apply A7)<;>first|rfl|exact⟨_,rfl⟩|exact⟨_,_,rfl⟩|simp [AP,A8]
theorem ZV(n lo hi:Int):Pn n lo hi=some (Iq n lo hi):=by unfold Pn Iq;by_cases h1:lo≤n<;>by_cases h2:n≤hi<;>simp [h1,h2]
theorem jQ(n lo hi:Int):XN n lo hi=some (Iq n lo hi):=by unfold XN Iq;by_cases h1:lo≤n<;>by_cases h2:n≤hi<;>simp [h1,h2]
theorem Ii(n_:Int)(low:Int)(high:Int):Y.call 97 [bd .i64 n_,bd .i64 low,bd .i64 high] []=some (b9 (Iq n_ low high),[]):=VT n_ low high (ZV n_ low high)
theorem KQ(n_:Int)(lo:Int)(hi:Int):Y.call 92 [bd .i64 n_,bd .i64 lo,bd .i64 hi] []=some (b9 (Iq n_ lo hi),[]):=ZU n_ lo hi (jQ n_ lo hi)
def I6(l:AL)(lo:Int)(hi:Int)(Bj:Int):Option ((Int)⊕(Unit⊕Unit)):= if Bj<(l.length:Int)then ck (0≤Bj∧Bj.toNat<l.length)<| if(Iq (l.getD Bj.toNat be) lo hi)=true then some (cb (ca.wrap (Bj+1))) else some (b8 (cb ())) else some (b8 (b8 ()))
def MS(l:AL)(lo:Int)(hi:Int)(v:Int):Option (Unit⊕Unit):=Im (fun v=>I6 l lo hi v) v
def Ru(l:AL)(lo:Int)(hi:Int):Option (Bool):=
 (MS l lo hi 0).bind fun AY=>
 match AY with
 | .inl q1000_=>
  some false
 | .inr q1000_=>
  some true
def Tt:SC:= .seq (.ops [oB 12 .lss 3 (tK 11) (tK 10) 3 0]) (.seq (.cond (tK 12) .skip (.exit 0)) (.seq (.block 1 (.seq (.ops [oI 13 26 9 11,oL 14 3 13 3,oA 8 14 3]) (.seq (.ops [oM 15 8 3,oM 16 1 3,oM 17 2 3,oC 18 92 [(tK 15),(tK 16),(tK 17)] [3,3,3] 4,oX 19 (.unOp .not 4 (tK 18)) 4]) (.cond (tK 19) (.seq (.ops [oX 6 CV 4]) .ret) .skip)))) (.ops [oB 20 .add 3 (tK 11) (iK 1) 3 3,oM 11 20 3])))
def ed:SC:= .loop Tt
def A1j:SC:= .seq (.ops [oX 6 CV 4]) (.seq (.seq (.ops [oM 9 0 26,oN 10 9 26,oX 11 (.move (iK 0)) 3]) (.block 0 ed)) (.seq (.ops [oX 6 (.assign Fw) 4]) .ret))
theorem qm:Try.f107.body.map (Ba lends)=some A1j:=by kernel_rfl
theorem A8k:Bz Try.f107 3=true:=by kernel_rfl
theorem ADn{a l:List D}{r:D×List D}(h:C8 Y.env A1j (Fa Ac l.length [cc 6] r) (entry a l))(ha:a.length=3):Y.call 107 a l=some r:=
 Aa (Y:=Y) rfl Try.func107 (ha▸A8k) qm h
def Fx(l:AL)(lo:Int)(hi:Int)(Bj:Int)(s:St):Prop:=s.v 1=bd .i64 lo∧s.v 2=bd .i64 hi∧s.v 9=bh 3 (AP (bd .i64) l)∧s.v 10=bd .i64 (l.length:Int)∧s.v 11=bd .i64 Bj
def Fy(l:AL)(lo:Int)(hi:Int)(r:Unit⊕Unit)(ex:Ex)(s:St):Prop:=match r with
 | .inl q=>ex= .ret∧s.v 6=b9 false
 | .inr q=>ex= .exit 0
theorem VU(l:AL)(lo:Int)(hi:Int){v:Int}{s:St}{r:Unit⊕Unit}(h:MS l lo hi v=some r)(hM:Fx l lo hi v s):C8 Y.env ed (Fy l lo hi r) s:=by
 unfold MS at h;refine BU (c:=Tt) (fun v=>I6 l lo hi v) (fun v s=>Fx l lo hi v s) (Fy l lo hi) ?_ h hM;clear h hM s v r;intro Bj s o hM h;unfold I6 at h;unfold Fx at hM;obtain⟨m0,m1,m2,m3,m4⟩:=hM;unfold Tt;by_cases e1:Bj<(l.length:Int)
 ·rw [if_pos e1]at h;obtain⟨e2,h⟩:=Bw h;have c3:=KQ (l.getD Bj.toNat be) lo hi;by_cases e4:(Iq (l.getD Bj.toNat be) lo hi)=true
  ·rw [if_pos e4]at h
   obtain rfl:=Option.some.inj h
   simp (maxDischargeDepth:=9) only [↓AQ,AR,Ah,↓reduceIte,bj,bk,bl,bm,bo,bp,br,bt,bw,bx,bO,b0,b3,b4,b5,b6,b7,m0,m1,m2,m3,m4,e1,e2.1,e2.2,c3,e4,Fx,Fy,Ch,Ci,Cj]<;>(repeat' apply A7)<;>first|rfl|exact⟨_,rfl⟩|exact⟨_,_,rfl⟩|simp [AP,A8]
  ·rw [if_neg e4]at h;have e4f:(Iq (l.getD Bj.toNat be) lo hi)=false:=KR.mpr e4
   obtain rfl:=Option.some.inj h
   simp (maxDischargeDepth:=9) only [↓AQ,AR,Ah,↓reduceIte,bj,bk,bl,bm,bo,bp,br,bt,bw,bx,bO,b0,b3,b4,b5,b6,b7,m0,m1,m2,m3,m4,e1,e2.1,e2.2,c3,e4f,Fx,Fy,Ch,Ci,Cj]<;>(repeat' apply A7)<;>first|rfl|exact⟨_,rfl⟩|exact⟨_,_,rfl⟩|simp [AP,A8]
 ·rw [if_neg e1]at h
  obtain rfl:=Option.some.inj h
  simp (maxDischargeDepth:=9) only [↓AQ,AR,Ah,↓reduceIte,bj,bk,bl,bm,bo,bp,br,bt,bw,bx,bO,b0,b3,b4,b5,b6,b7,m0,m1,m2,m3,m4,e1,Fx,Fy,Ch,Ci,Cj]<;>(repeat' apply A7)<;>first|rfl|exact⟨_,rfl⟩|exact⟨_,_,rfl⟩|simp [AP,A8]
theorem XO(l:AL)(lo:Int)(hi:Int){r:Bool}(h:Ru l lo hi=some r):Y.call 107 [bh 3 (AP (bd .i64) l),bd .i64 lo,bd .i64 hi] []=some (b9 r,[]):=by
 refine ADn ?_ rfl;unfold A1j;unfold Ru at h;obtain⟨AY,hl2,h⟩:=Ar h;try dsimp only at h
 simp (maxDischargeDepth:=9) only [↓AQ,AR,Ah,↓reduceIte,bj,bk,bl,bm,bo,bp,br,bt,bw,bx,bO,b0,b3,b4,b5,b6,b7];refine BF (VU l lo hi hl2 ?_) ?_
 ·simp (maxDischargeDepth:=9) only [↓AQ,AR,Ah,↓reduceIte,bj,bk,bl,bm,bo,bp,br,bt,bw,bx,bO,b0,b3,b4,b5,b6,b7,Fx]<;>(repeat' apply A7)<;>first|rfl|exact⟨_,rfl⟩|exact⟨_,_,rfl⟩|simp [AP,A8]
 ·intro ex2 s2 hX2;rcases AY with q1000_|q1000_
  ·unfold Fy at hX2;dsimp only at hX2 h;obtain⟨rfl,n2_0⟩:=hX2
   obtain rfl:=Option.some.inj h
   simp (maxDischargeDepth:=9) only [↓AQ,AR,Ah,↓reduceIte,bj,bk,bl,bm,bo,bp,br,bt,bw,bx,bO,b0,b3,b4,b5,b6,b7,n2_0]<;>(repeat' apply A7)<;>first|rfl|exact⟨_,rfl⟩|exact⟨_,_,rfl⟩|simp [AP,A8]
  ·unfold Fy at hX2;dsimp only at hX2 h
   obtain rfl:=hX2
   obtain rfl:=Option.some.inj h
   simp (maxDischargeDepth:=9) only [↓AQ,AR,Ah,↓reduceIte,bj,bk,bl,bm,bo,bp,br,bt,bw,bx,bO,b0,b3,b4,b5,b6,b7]<;>(repeat' apply A7)<;>first|rfl|exact⟨_,rfl⟩|exact⟨_,_,rfl⟩|simp [AP,A8]
def EJ(l:AL)(lo hi:Int):Bool:=l.all fun x=>Iq x lo hi
theorem cO(l:AL)(lo hi:Int)(h:l.length<1099511627776):Ru l lo hi=some (EJ l lo hi):=by
 unfold Ru MS;have key:=IZ (fun v=>I6 l lo hi v) (fun i=>(i:Int)) l.length (fun i=>Iq (l.getD i be) lo hi) (.inl ()) (.inr ()) ?_ ?_
 ·simp only [OJ]at key;rw [key,ZL (fun x=>Iq x lo hi)];unfold EJ
  cases l.all (fun x=>Iq x lo hi)<;>rfl
 ·intro i hi;simp only [I6];rw [if_pos (Bc hi),Br (J6 hi),K4,Kb i (by omega)]
 ·simp only [I6];rw [if_neg (Ap _)]
theorem Tu(l:AL)(lo:Int)(hi:Int)(h0:l.length<1099511627776):Y.call 107 [bh 3 (AP (bd .i64) l),bd .i64 lo,bd .i64 hi] []=some (b9 (EJ l lo hi),[]):=XO l lo hi (cO l lo hi h0)
def Aq(s_:AL)(f:Int→Option Bool)(FK:Int):Option ((Int)⊕(Int⊕Unit)):= if FK<(s_.length:Int)then ck (0≤FK∧FK.toNat<s_.length)<| (f (s_.getD FK.toNat be)).bind fun M3=> if M3=true then some (b8 (cb FK)) else some (cb (ca.wrap (FK+1))) else some (b8 (b8 ()))
def CX(s_:AL)(f:Int→Option Bool)(v:Int):Option (Int⊕Unit):=Im (fun v=>Aq s_ f v) v
def CG(s_:AL)(f:Int→Option Bool):Option (Int):=
 (CX s_ f 0).bind fun AY=>
 match AY with
 | .inl q1000_=>
  some q1000_
 | .inr q1000_=>
  some (-1)
def Tv:SC:= .seq (.ops [oB 9 .lss 3 (tK 8) (tK 7) 3 0]) (.seq (.cond (tK 9) .skip (.exit 0)) (.seq (.block 1 (.seq (.ops [oM 10 8 3,oA 5 10 3]) (.seq (.ops [oM 11 1 87,oM 12 0 26,oM 13 5 3,oI 14 26 12 13,oL 15 3 14 3,oX 16 (.call ⟨(.value (tK 11)), #[(tK 15)], #[3]⟩) 4]) (.cond (tK 16) (.seq (.ops [oM 17 5 3,oA 4 17 3]) .ret) .skip)))) (.ops [oB 18 .add 3 (tK 8) (iK 1) 3 3,oM 8 18 3])))
def ek:SC:= .loop Tv
def A1k:SC:= .seq (.ops [oX 4 (.assign (iK 0)) 3]) (.seq (.seq (.ops [oM 6 0 26,oN 7 6 26,oX 8 (.move (iK 0)) 3]) (.block 0 ek)) (.seq (.ops [oX 4 Ot 3]) .ret))
theorem qo:Try.f163.body.map (Ba lends)=some A1k:=by kernel_rfl
theorem A8l:Bz Try.f163 2=true:=by kernel_rfl
theorem ADo{a l:List D}{r:D×List D}(h:C8 Y.env A1k (Fa Ac l.length [cc 4] r) (entry a l))(ha:a.length=2):Y.call 163 a l=some r:=
 Aa (Y:=Y) rfl Try.func163 (ha▸A8l) qo h
def BB(s_:AL)(f:Int→Option Bool)(f_f:FuncId)(f_c:List D)(FK:Int)(s:St):Prop:=s.v 0=bh 3 (AP (bd .i64) s_)∧s.v 1=D.clo f_f f_c∧s.v 7=bd .i64 (s_.length:Int)∧s.v 8=bd .i64 FK
def BC(s_:AL)(f:Int→Option Bool)(f_f:FuncId)(f_c:List D)(r:Int⊕Unit)(ex:Ex)(s:St):Prop:=match r with
 | .inl q=>ex= .ret∧s.v 4=bd .i64 q
 | .inr q=>ex= .exit 0
theorem Io(s_:AL)(f:Int→Option Bool)(f_f:FuncId)(f_c:List D)(f_h: ∀(a0:Int) (r:Bool),f a0=some r→Y.call f_f (bd .i64 a0::f_c) []=some (b9 r,[]))(f_l:lends f_f=false){v:Int}{s:St}{r:Int⊕Unit}(h:CX s_ f v=some r)(hM:BB s_ f f_f f_c v s):C8 Y.env ek (BC s_ f f_f f_c r) s:=by
 unfold CX at h;refine BU (c:=Tv) (fun v=>Aq s_ f v) (fun v s=>BB s_ f f_f f_c v s) (BC s_ f f_f f_c) ?_ h hM;clear h hM s v r;intro FK s o hM h;unfold Aq at h;unfold BB at hM;obtain⟨m0,m1,m2,m3⟩:=hM;unfold Tv;by_cases e1:FK<(s_.length:Int)
 ·rw [if_pos e1]at h;obtain⟨e2,h⟩:=Bw h;obtain⟨M3,hl3,h⟩:=Ar h;try dsimp only at h
  have c3:=f_h _ _ hl3;by_cases e4:M3=true
  ·rw [if_pos e4]at h
   obtain rfl:=Option.some.inj h
   simp (maxDischargeDepth:=9) only [↓AQ,AR,Ah,↓reduceIte,bj,bk,bl,bm,bo,bp,br,bt,bw,bx,bO,b0,b3,b4,b5,b6,b7,m0,m1,m2,m3,f_l,e1,e2.1,e2.2,c3,e4,BB,BC,Ch,Ci,Cj]<;>(repeat' apply A7)<;>first|rfl|exact⟨_,rfl⟩|exact⟨_,_,rfl⟩|simp [AP,A8]
  ·rw [if_neg e4]at h;have e4f:M3=false:=KR.mpr e4
   obtain rfl:=Option.some.inj h
   simp (maxDischargeDepth:=9) only [↓AQ,AR,Ah,↓reduceIte,bj,bk,bl,bm,bo,bp,br,bt,bw,bx,bO,b0,b3,b4,b5,b6,b7,m0,m1,m2,m3,f_l,e1,e2.1,e2.2,c3,e4f,BB,BC,Ch,Ci,Cj]<;>(repeat' apply A7)<;>first|rfl|exact⟨_,rfl⟩|exact⟨_,_,rfl⟩|simp [AP,A8]
 ·rw [if_neg e1]at h
  obtain rfl:=Option.some.inj h
  simp (maxDischargeDepth:=9) only [↓AQ,AR,Ah,↓reduceIte,bj,bk,bl,bm,bo,bp,br,bt,bw,bx,bO,b0,b3,b4,b5,b6,b7,m0,m1,m2,m3,f_l,e1,BB,BC,Ch,Ci,Cj]<;>(repeat' apply A7)<;>first|rfl|exact⟨_,rfl⟩|exact⟨_,_,rfl⟩|simp [AP,A8]
theorem J7(s_:AL)(f:Int→Option Bool)(f_f:FuncId)(f_c:List D)(f_h: ∀(a0:Int) (r:Bool),f a0=some r→Y.call f_f (bd .i64 a0::f_c) []=some (b9 r,[]))(f_l:lends f_f=false){r:Int}(h:CG s_ f=some r):Y.call 163 [bh 3 (AP (bd .i64) s_),D.clo f_f f_c] []=some (bd .i64 r,[]):=by
 refine ADo ?_ rfl;unfold A1k;unfold CG at h;obtain⟨AY,hl2,h⟩:=Ar h;try dsimp only at h
 simp (maxDischargeDepth:=9) only [↓AQ,AR,Ah,↓reduceIte,bj,bk,bl,bm,bo,bp,br,bt,bw,bx,bO,b0,b3,b4,b5,b6,b7,f_l];refine BF (Io s_ f f_f f_c f_h f_l hl2 ?_) ?_
 ·simp (maxDischargeDepth:=9) only [↓AQ,AR,Ah,↓reduceIte,bj,bk,bl,bm,bo,bp,br,bt,bw,bx,bO,b0,b3,b4,b5,b6,b7,f_l,BB]<;>(repeat' apply A7)<;>first|rfl|exact⟨_,rfl⟩|exact⟨_,_,rfl⟩|simp [AP,A8]
 ·intro ex2 s2 hX2;rcases AY with q1000_|q1000_
  ·unfold BC at hX2;dsimp only at hX2 h;obtain⟨rfl,n2_0⟩:=hX2
   obtain rfl:=Option.some.inj h
   simp (maxDischargeDepth:=9) only [↓AQ,AR,Ah,↓reduceIte,bj,bk,bl,bm,bo,bp,br,bt,bw,bx,bO,b0,b3,b4,b5,b6,b7,f_l,n2_0]<;>(repeat' apply A7)<;>first|rfl|exact⟨_,rfl⟩|exact⟨_,_,rfl⟩|simp [AP,A8]
  ·unfold BC at hX2;dsimp only at hX2 h
   obtain rfl:=hX2
   obtain rfl:=Option.some.inj h
   simp (maxDischargeDepth:=9) only [↓AQ,AR,Ah,↓reduceIte,bj,bk,bl,bm,bo,bp,br,bt,bw,bx,bO,b0,b3,b4,b5,b6,b7,f_l]<;>(repeat' apply A7)<;>first|rfl|exact⟨_,rfl⟩|exact⟨_,_,rfl⟩|simp [AP,A8]
def Bd(s_:AL)(f:Int→Option Bool):Option (Bool):= (CG s_ f).bind fun nA=> some (decide (0≤nA))
def A1l:SC:= .seq (.ops [oX 4 CV 4]) (.seq (.ops [oM 5 0 26,oM 6 1 87,oC 7 163 [(tK 5),(tK 6)] [26,87] 3,oB 8 .geq 3 (tK 7) (iK 0) 3 4,oA 4 8 4]) .ret)
theorem qp:Try.f133.body.map (Ba lends)=some A1l:=by kernel_rfl
theorem A8m:Bz Try.f133 2=true:=by kernel_rfl
theorem ADp{a l:List D}{r:D×List D}(h:C8 Y.env A1l (Fa Ac l.length [cc 4] r) (entry a l))(ha:a.length=2):Y.call 133 a l=some r:=
 Aa (Y:=Y) rfl Try.func133 (ha▸A8m) qp h
theorem IK(s_:AL)(f:Int→Option Bool)(f_f:FuncId)(f_c:List D)(f_h: ∀(a0:Int) (r:Bool),f a0=some r→Y.call f_f (bd .i64 a0::f_c) []=some (b9 r,[]))(f_l:lends f_f=false){r:Bool}(h:Bd s_ f=some r):Y.call 133 [bh 3 (AP (bd .i64) s_),D.clo f_f f_c] []=some (b9 r,[]):=by
 refine ADp ?_ rfl;unfold A1l;unfold Bd at h;obtain⟨nA,hl1,h⟩:=Ar h;try dsimp only at h
 have c1:=J7 s_ f f_f f_c f_h f_l hl1
 obtain rfl:=Option.some.inj h
 simp (maxDischargeDepth:=9) only [↓AQ,AR,Ah,↓reduceIte,bj,bk,bl,bm,bo,bp,br,bt,bw,bx,bO,b0,b3,b4,b5,b6,b7,f_l,c1]<;>(repeat' apply A7)<;>first|rfl|exact⟨_,rfl⟩|exact⟨_,_,rfl⟩|simp [AP,A8]
def IL(n_:Int)(c0_:Int)(c1_:Int):Option (Bool):= some (!(Iq n_ c0_ c1_))
def A1m:SC:= .seq (.ops [oX 4 CV 4]) (.seq (.ops [oM 5 0 3,oL 6 3 1 3,oL 7 3 2 3,oC 8 97 [(tK 5),(tK 6),(tK 7)] [3,3,3] 4,oX 9 (.unOp .not 4 (tK 8)) 4,oA 4 9 4]) .ret)
theorem qw:Try.f170.body.map (Ba lends)=some A1m:=by kernel_rfl
theorem A8n:Bz Try.f170 3=true:=by kernel_rfl
theorem ADq{a l:List D}{r:D×List D}(h:C8 Y.env A1m (Fa Ac l.length [cc 4] r) (entry a l))(ha:a.length=3):Y.call 170 a l=some r:=
 Aa (Y:=Y) rfl Try.func170 (ha▸A8n) qw h
theorem Ov(n_:Int)(c0_:Int)(c1_:Int){r:Bool}(h:IL n_ c0_ c1_=some r):Y.call 170 [bd .i64 n_,D.cptr [bd .i64 c0_],D.cptr [bd .i64 c1_]] []=some (b9 r,[]):=by
 refine ADq ?_ rfl;unfold A1m;unfold IL at h;have c1:=Ii n_ c0_ c1_
 obtain rfl:=Option.some.inj h
 simp (maxDischargeDepth:=9) only [↓AQ,AR,Ah,↓reduceIte,bj,bk,bl,bm,bo,bp,br,bt,bw,bx,bO,b0,b3,b4,b5,b6,b7,c1]<;>(repeat' apply A7)<;>first|rfl|exact⟨_,rfl⟩|exact⟨_,_,rfl⟩|simp [AP,A8]
def LD(list:AL)(low:Int)(high:Int):Option (Bool):= (Bd list (fun a0=>IL a0 low high)).bind fun nC=> some (!nC)
def A1n:SC:= .seq (.ops [oX 4 (.box 3 (tK 1)) 0,oX 5 (.box 3 (tK 2)) 0,oX 6 CV 4]) (.seq (.ops [oM 7 0 26,oX 8 (.makeFunc (Fn.func 170) #[] #[(tK 4),(tK 5)]) 87,oC 9 133 [(tK 7),(tK 8)] [26,87] 4,oX 10 (.unOp .not 4 (tK 9)) 4,oA 6 10 4]) .ret)
theorem qx:Try.f144.body.map (Ba lends)=some A1n:=by kernel_rfl
theorem A8o:Bz Try.f144 3=true:=by kernel_rfl
theorem ADr{a l:List D}{r:D×List D}(h:C8 Y.env A1n (Fa Ac l.length [cc 6] r) (entry a l))(ha:a.length=3):Y.call 144 a l=some r:=
 Aa (Y:=Y) rfl Try.func144 (ha▸A8o) qx h
theorem QZ(list:AL)(low:Int)(high:Int){r:Bool}(h:LD list low high=some r):Y.call 144 [bh 3 (AP (bd .i64) list),bd .i64 low,bd .i64 high] []=some (b9 r,[]):=by
 refine ADr ?_ rfl;unfold A1n;unfold LD at h;obtain⟨nC,hl1,h⟩:=Ar h;try dsimp only at h
 have c1:=IK list (fun a0=>IL a0 low high) 170 [D.cptr [bd .i64 low],D.cptr [bd .i64 high]] (fun a0 _ hh=>Ov a0 low high hh) mX hl1
 obtain rfl:=Option.some.inj h
 simp (maxDischargeDepth:=9) only [↓AQ,AR,Ah,↓reduceIte,bj,bk,bl,bm,bo,bp,br,bt,bw,bx,bO,b0,b3,b4,b5,b6,b7,c1]<;>(repeat' apply A7)<;>first|rfl|exact⟨_,rfl⟩|exact⟨_,_,rfl⟩|simp [AP,A8]
theorem XP(l:AL)(f:Int→Option Bool)(p:Int→Bool)(h:l.length<1099511627776)(hf: ∀x∈l,f x=some (p x)):
  ∃r,CG l f=some r∧(0≤r↔l.any p=true):=by
 unfold CG CX;by_cases ha: ∀i,i<l.length→(!p (l.getD i be))=true
 ·have key:=CF (fun v=>Aq l f v) (fun i=>(i:Int)) l.length (.inr ()) ?_ ?_
  ·simp only [OJ]at key;rw [key]
   refine⟨-1,rfl,by simp,fun hc=> ?_⟩
   obtain⟨x,hx,hpx⟩:=List.any_eq_true.1 hc;obtain⟨i,hi,rfl⟩:=aB hx;have:=ha i hi
   rw [Az _ _ hi,hpx]at this;cases this
  ·intro i hi;simp only [Aq];have e:=ha i hi;rw [Az _ _ hi]at e;rw [if_pos (Bc hi),Br (J6 hi),J5 _ _ hi,hf _ (JQ hi),Ce,if_neg (by cases hp:p l[i]<;>simp_all),Kb i (by omega)]
  ·simp only [Aq];rw [if_neg (Ap _)]
 ·obtain⟨m,h1,h2,h3⟩:=Om (P:=fun i=> !p (l.getD i be)) ha;have key:=CF (fun v=>Aq l f v) (fun i=>(i:Int)) m (.inl (m:Int)) ?_ ?_
  ·simp only [OJ]at key;rw [key]
   refine⟨(m:Int),rfl,fun _=> ?_,fun _=>by omega⟩
   have h2':p l[m]=true:=by rw [Az _ _ h1]at h2;simpa using h2
   exact List.any_eq_true.2 ⟨_,JQ h1,h2'⟩
  ·intro i hi;simp only [Aq];have e:=h3 i hi;rw [Az _ _ (by omega)]at e
   rw [if_pos (Bc (by omega)),Br (J6 (by omega)),J5 _ _ (by omega),hf _ (JQ _),Ce,if_neg (by cases hp:p l[i]<;>simp_all),Kb i (by omega)]
  ·simp only [Aq];have h2':p l[m]=true:=by rw [Az _ _ h1]at h2;simpa using h2
   rw [if_pos (Bc h1),Br (J6 h1),J5 _ _ h1,hf _ (JQ _),Ce,if_pos h2']
theorem RX(l:AL)(f:Int→Option Bool)(p:Int→Bool)(h:l.length<1099511627776)(hf: ∀x∈l,f x=some (p x)):Bd l f=some (l.any p):=by
 obtain⟨r,h1,h2⟩:=XP l f p h hf;unfold Bd;rw [h1,Ce]
 congr 1
 rw [QH];simpa using h2
theorem Tw(l:AL)(lo hi:Int)(h:l.length<1099511627776):LD l lo hi=some (EJ l lo hi):=by
 unfold LD;rw [RX l (fun a0=>IL a0 lo hi) (fun x=> !Iq x lo hi) h (fun x _=>rfl),Ce];unfold EJ;rw [List.all_eq_not_any_not]
theorem Tx(list:AL)(low:Int)(high:Int)(h0:list.length<1099511627776):Y.call 144 [bh 3 (AP (bd .i64) list),bd .i64 low,bd .i64 high] []=some (b9 (EJ list low high),[]):=QZ list low high (Tw list low high h0)
theorem RD.getD{l:Zv}(h:RD l)(i:Nat):(l.getD i be).length<1099511627776:=by
 rcases Nat.lt_or_ge i l.length with hi|hi
 ·rw [Az _ _ hi];exact h.at i hi
 ·rw [K5,List.getElem?_eq_none hi];decide
def XQ(x:Int):AL→AL
 | []=>[x]
 |y::r=>if x<y then y::XQ x r else x::y::r
def Ij(l:AL):AL:=(l.foldl (fun r x=>XQ x r) []).reverse
theorem WP(x:Int): ∀r,(XQ x r).Perm (x::r):=by
 intro r
 induction r with
 |nil=>exact List.Perm.refl _
 |cons y r ih=>
  unfold XQ;split
  ·exact((List.perm_cons y).2 ih).trans (List.Perm.swap x y r)
  ·exact List.Perm.refl _
theorem jR(x:Int): ∀r,r.Pairwise (fun a b=>b≤a)→(XQ x r).Pairwise (fun a b=>b≤a):=by
 intro r
 induction r with
 |nil=>intro _;simp [XQ]
 |cons y r ih=>
  intro h;obtain⟨h1,h2⟩:=cf.1 h;unfold XQ;split
  ·rename_i hxy
   refine cf.2 ⟨fun z hz=> ?_,ih h2⟩;rcases PE.1 ((WP x r).mem_iff.1 hz)with rfl|hz
   ·omega
   ·exact h1 z hz
  ·rename_i hxy
   refine cf.2 ⟨fun z hz=> ?_,h⟩;rcases PE.1 hz with rfl|hz
   ·omega
   ·have:=h1 z hz;omega
theorem cZ: ∀(l r:AL),(l.foldl (fun r x=>XQ x r) r).Perm (l++r):=by
 intro l
 induction l with
 |nil=>intro r;exact List.Perm.refl _
 |cons x l ih=>
  intro r;simp only [WX]
  exact(ih _).trans (((List.Perm.refl l).append (WP x r)).trans List.perm_middle)
theorem cu: ∀(l r:AL),r.Pairwise (fun a b=>b≤a)→(l.foldl (fun r x=>XQ x r) r).Pairwise (fun a b=>b≤a):=by
 intro l
 induction l with
 |nil=>intro r h;exact h
 |cons x l ih=>intro r h;exact ih _ (jR x r h)
theorem JY(l:AL):(Ij l).Perm l:=by
 unfold Ij;have:=cZ l []
 rw [V3]at this
 exact(List.reverse_perm _).trans this
theorem MU(l:AL):(Ij l).Pairwise (fun a b=>a≤b):=by
 unfold Ij;exact List.pairwise_reverse.2 (cu l [] List.Pairwise.nil)
theorem Tz(l:AL):Cs l=Ij l:=by
 refine List.Perm.eq_of_pairwise (le:=fun a b:Int=>a≤b) (fun a b _ _ h1 h2=>Int.le_antisymm h1 h2) ?_ (MU l) ((List.mergeSort_perm _ _).trans (JY l).symm);have:=List.pairwise_mergeSort (le:=fun x y:Int=>decide (x≤y)) (fun a b c h1 h2=>by simp only [decide_eq_true_eq]at*;omega) (fun a b=>by simp only [NE,decide_eq_true_eq];omega) l
 unfold Cs;exact this.imp (fun h=>by simpa using h)
theorem WQ(l:AL):(Ij l).length=l.length:=(JY l).length_eq
def Ck(s_:AL):Option (AL):= some s_
def A1o:SC:= .seq (.ops [oX 1 (.box 26 (tK 0)) 0,oX 2 (.assign (.const .nilFunc)) 132]) (.seq (.ops [oX 3 (.makeFunc (Fn.func 155) #[] #[(tK 1)]) 131,oA 2 3 132]) .ret)
theorem qy:Try.f116.body.map (Ba lends)=some A1o:=by kernel_rfl
theorem A8p:Bz Try.f116 1=true:=by kernel_rfl
theorem ADs{a l:List D}{r:D×List D}(h:C8 Y.env A1o (Fa Ac l.length [cc 2] r) (entry a l))(ha:a.length=1):Y.call 116 a l=some r:=
 Aa (Y:=Y) rfl Try.func116 (ha▸A8p) qy h
theorem Fj(s_:AL){r:AL}(h:Ck s_=some r):Y.call 116 [bh 3 (AP (bd .i64) s_)] []=some (D.clo 155 [D.cptr [bh 3 (AP (bd .i64) r)]],[]):=by
 refine ADs ?_ rfl;unfold A1o;unfold Ck at h
 obtain rfl:=Option.some.inj h
 simp (maxDischargeDepth:=9) only [↓AQ,AR,Ah,↓reduceIte,bj,bk,bl,bm,bo,bp,br,bt,bw,bx,bO,b0,b3,b4,b5,b6,b7]<;>(repeat' apply A7)<;>first|rfl|exact⟨_,rfl⟩|exact⟨_,_,rfl⟩|simp [AP,A8]
def I7(l:AL)(n_:Int)(HV:Int):Option ((Int)⊕(Unit⊕Unit)):= if HV<(l.length:Int)then ck (0≤HV∧HV.toNat<l.length)<| if(l.getD HV.toNat be)=n_ then some (b8 (cb ())) else some (cb (ca.wrap (HV+1))) else some (b8 (b8 ()))
def MV(l:AL)(n_:Int)(v:Int):Option (Unit⊕Unit):=Im (fun v=>I7 l n_ v) v
def Rv(l:AL)(n_:Int):Option (Bool):=
 (MV l n_ 0).bind fun AY=>
 match AY with
 | .inl q1000_=>
  some true
 | .inr q1000_=>
  some false
def XR:SC:= .seq (.ops [oB 10 .lss 3 (tK 9) (tK 8) 3 0]) (.seq (.cond (tK 10) .skip (.exit 0)) (.seq (.block 1 (.seq (.ops [oI 11 26 7 9,oL 12 3 11 3,oA 6 12 3]) (.seq (.ops [oM 13 6 3,oM 14 1 3,oB 15 .eql 3 (tK 13) (tK 14) 3 4]) (.cond (tK 15) (.seq (.ops [oX 4 (.assign Fw) 4]) .ret) .skip)))) (.ops [oB 16 .add 3 (tK 9) (iK 1) 3 3,oM 9 16 3])))
def nD:SC:= .loop XR
def k89:SC:= .seq (.ops [oX 4 CV 4]) (.seq (.seq (.ops [oM 7 0 26,oN 8 7 26,oX 9 (.move (iK 0)) 3]) (.block 0 nD)) (.seq (.ops [oX 4 CV 4]) .ret))
theorem A1p:Try.f89.body.map (Ba lends)=some k89:=by kernel_rfl
theorem ADu:Bz Try.f89 2=true:=by kernel_rfl
theorem c89{a l:List D}{r:D×List D}(h:C8 Y.env k89 (Fa Ac l.length [cc 4] r) (entry a l))(ha:a.length=2):Y.call 89 a l=some r:=
 Aa (Y:=Y) rfl Try.func89 (ha▸ADu) A1p h
def Fz(l:AL)(n_:Int)(HV:Int)(s:St):Prop:=s.v 1=bd .i64 n_∧s.v 7=bh 3 (AP (bd .i64) l)∧s.v 8=bd .i64 (l.length:Int)∧s.v 9=bd .i64 HV
def G5(l:AL)(n_:Int)(r:Unit⊕Unit)(ex:Ex)(s:St):Prop:=match r with
 | .inl q=>ex= .ret∧s.v 4=b9 true
 | .inr q=>ex= .exit 0
theorem VV(l:AL)(n_:Int){v:Int}{s:St}{r:Unit⊕Unit}(h:MV l n_ v=some r)(hM:Fz l n_ v s):C8 Y.env nD (G5 l n_ r) s:=by
 unfold MV at h;refine BU (c:=XR) (fun v=>I7 l n_ v) (fun v s=>Fz l n_ v s) (G5 l n_) ?_ h hM;clear h hM s v r;intro HV s o hM h;unfold I7 at h;unfold Fz at hM;obtain⟨m0,m1,m2,m3⟩:=hM;unfold XR;by_cases e1:HV<(l.length:Int)
 ·rw [if_pos e1]at h;obtain⟨e2,h⟩:=Bw h;by_cases e3:(l.getD HV.toNat be)=n_
  ·rw [if_pos e3]at h
   obtain rfl:=Option.some.inj h
   simp (maxDischargeDepth:=9) only [↓AQ,AR,Ah,↓reduceIte,bj,bk,bl,bm,bo,bp,br,bt,bw,bx,bO,b0,b3,b4,b5,b6,b7,m0,m1,m2,m3,e1,e2.1,e2.2,decide_eq_true e3,Fz,G5,Ch,Ci,Cj]<;>(repeat' apply A7)<;>first|rfl|exact⟨_,rfl⟩|exact⟨_,_,rfl⟩|simp [AP,A8]
  ·rw [if_neg e3]at h
   obtain rfl:=Option.some.inj h
   simp (maxDischargeDepth:=9) only [↓AQ,AR,Ah,↓reduceIte,bj,bk,bl,bm,bo,bp,br,bt,bw,bx,bO,b0,b3,b4,b5,b6,b7,m0,m1,m2,m3,e1,e2.1,e2.2,e3,Fz,G5,Ch,Ci,Cj]<;>(repeat' apply A7)<;>first|rfl|exact⟨_,rfl⟩|exact⟨_,_,rfl⟩|simp [AP,A8]
 ·rw [if_neg e1]at h
  obtain rfl:=Option.some.inj h
  simp (maxDischargeDepth:=9) only [↓AQ,AR,Ah,↓reduceIte,bj,bk,bl,bm,bo,bp,br,bt,bw,bx,bO,b0,b3,b4,b5,b6,b7,m0,m1,m2,m3,e1,Fz,G5,Ch,Ci,Cj]<;>(repeat' apply A7)<;>first|rfl|exact⟨_,rfl⟩|exact⟨_,_,rfl⟩|simp [AP,A8]
theorem XT(l:AL)(n_:Int){r:Bool}(h:Rv l n_=some r):Y.call 89 [bh 3 (AP (bd .i64) l),bd .i64 n_] []=some (b9 r,[]):=by
 refine c89 ?_ rfl;unfold k89;unfold Rv at h;obtain⟨AY,hl2,h⟩:=Ar h;try dsimp only at h
 simp (maxDischargeDepth:=9) only [↓AQ,AR,Ah,↓reduceIte,bj,bk,bl,bm,bo,bp,br,bt,bw,bx,bO,b0,b3,b4,b5,b6,b7];refine BF (VV l n_ hl2 ?_) ?_
 ·simp (maxDischargeDepth:=9) only [↓AQ,AR,Ah,↓reduceIte,bj,bk,bl,bm,bo,bp,br,bt,bw,bx,bO,b0,b3,b4,b5,b6,b7,Fz]<;>(repeat' apply A7)<;>first|rfl|exact⟨_,rfl⟩|exact⟨_,_,rfl⟩|simp [AP,A8]
 ·intro ex2 s2 hX2;rcases AY with q1000_|q1000_
  ·unfold G5 at hX2;dsimp only at hX2 h;obtain⟨rfl,n2_0⟩:=hX2
   obtain rfl:=Option.some.inj h
   simp (maxDischargeDepth:=9) only [↓AQ,AR,Ah,↓reduceIte,bj,bk,bl,bm,bo,bp,br,bt,bw,bx,bO,b0,b3,b4,b5,b6,b7,n2_0]<;>(repeat' apply A7)<;>first|rfl|exact⟨_,rfl⟩|exact⟨_,_,rfl⟩|simp [AP,A8]
  ·unfold G5 at hX2;dsimp only at hX2 h
   obtain rfl:=hX2
   obtain rfl:=Option.some.inj h
   simp (maxDischargeDepth:=9) only [↓AQ,AR,Ah,↓reduceIte,bj,bk,bl,bm,bo,bp,br,bt,bw,bx,bO,b0,b3,b4,b5,b6,b7]<;>(repeat' apply A7)<;>first|rfl|exact⟨_,rfl⟩|exact⟨_,_,rfl⟩|simp [AP,A8]
theorem cz(l:AL)(n:Int)(h:l.length<1099511627776):Rv l n=some (l.contains n):=by
 unfold Rv MV;have key:=IZ (fun v=>I7 l n v) (fun i=>(i:Int)) l.length (fun i=> !decide (l.getD i be=n)) (.inl ()) (.inr ()) ?_ ?_
 ·simp only [OJ]at key;rw [key,ZL (fun x=> !decide (x=n))]
  have e:l.all (fun x=> !decide (x=n))= !l.contains n:=by
   rw [List.all_eq_not_any_not,List.contains_eq_any_beq]
   congr 2
   funext x
   rw [Bool.not_not,QH,decide_eq_true_eq,beq_iff_eq];exact eq_comm
  rw [e]
  cases l.contains n<;>rfl
 ·intro i hi;simp only [I7];rw [if_pos (Bc hi),Br (J6 hi),K4,Kb i (by omega)]
  by_cases hq:l.getD i be=n
  ·rw [if_pos hq,decide_eq_true hq];rfl
  ·rw [if_neg hq,decide_eq_false hq];rfl
 ·simp only [I7];rw [if_neg (Ap _)]
theorem MW(l:AL)(n_:Int)(h0:l.length<1099511627776):Y.call 89 [bh 3 (AP (bd .i64) l),bd .i64 n_] []=some (b9 (l.contains n_),[]):=XT l n_ (cz l n_ h0)
def DL(l:Am):Prop:=l.length<1099511627776∧ ∀x∈l,x.length<549755813888
instance (l:Am):Decidable (DL l):=by unfold DL;infer_instance
theorem DL.at{l:Am}(h:DL l)(i:Nat)(hi:i<l.length):l[i].length<549755813888:=h.2 _ (JQ hi)
theorem DL.getD{l:Am}(h:DL l)(i:Nat):(l.getD i be).length<549755813888:=by
 by_cases hi:i<l.length
 ·rw [Az _ _ hi];exact h.at i hi
 ·rw [K5,List.getElem?_eq_none (by omega)];decide
theorem A8q{a:Il}{i:Nat}(h:i<a.length):(BJ a i,CO a i)=a[i]:=by
 unfold BJ CO;rw [Az _ _ h]
def Rw(a_Node:Int)(a_Port:Int):Option (Int×Int):= some (a_Node,a_Port)
def A1q:SC:= .seq (.ops [oX 1 (.box 159 (tK 0)) 0,oX 2 (.alloc 125) 0]) (.seq (.ops [oX 3 (.alloc 125) 0]) (.seq (.ops [oF 4 159 1 0,oL 5 3 4 3,oF 6 125 3 0,oS 3 6 5]) (.seq (.ops [oF 7 159 1 1,oL 8 3 7 3,oF 9 125 3 1,oS 3 9 8]) (.seq (.ops [oL 10 125 3 125,oS 125 2 10]) .ret))))
theorem qz:Try.f151.body.map (Ba lends)=some A1q:=by kernel_rfl
theorem A8r:Bz Try.f151 1=true:=by kernel_rfl
theorem ADv{a l:List D}{r:D×List D}(h:C8 Y.env A1q (Fa Ac l.length [ResultVar.cell 2 125] r) (entry a l))(ha:a.length=1):Y.call 151 a l=some r:=
 Aa (Y:=Y) rfl Try.func151 (ha▸A8r) qz h
theorem XU(a_Node:Int)(a_Port:Int){r:Int×Int}(h:Rw a_Node a_Port=some r):Y.call 151 [ce [bd .i64 a_Node,bd .i64 a_Port]] []=some (ce [bd .i64 r.1,bd .i64 r.2],[]):=by
 refine ADv ?_ rfl;unfold A1q;unfold Rw at h
 obtain rfl:=Option.some.inj h
 simp (maxDischargeDepth:=9) only [↓AQ,AR,Ah,↓reduceIte,bj,bk,bl,bm,bo,bp,br,bt,bw,bx,bO,b0,b3,b4,b5,b6,b7]<;>(repeat' apply A7)<;>first|rfl|exact⟨_,rfl⟩|exact⟨_,_,rfl⟩|simp [AP,A8]
def Ga(a:Il)(out:Il)(i:Int):Option ((Il×Int)⊕(Il)):= if i<(a.length:Int)then ck (0≤i∧i.toNat<a.length)<| (Rw (BJ a i.toNat) (CO a i.toNat)).bind fun N7=> ck (0≤i∧i.toNat<out.length)<| some (cb ((out.set i.toNat (N7.1,N7.2)),ca.wrap (i+1))) else some (b8 out)
def LF(a:Il)(v:Il×Int):Option (Il):=Im (fun v=>Ga a v.1 v.2) v
def Po(a:Il):Option (Il):= ck (0≤(a.length:Int)∧(a.length:Int)<1099511627776)<| (LF a ((ao a.length (0,0)),0)).bind fun AY=> some AY
def U0:SC:= .seq (.seq (.ops [oM 8 4 3,oM 9 0 121,oN 10 9 121,oB 11 .lss 3 (tK 8) (tK 10) 3 4]) (.cond (tK 11) .skip (.exit 0))) (.seq (.block 1 (.ops [oM 14 3 123,oM 15 4 3,oM 16 0 121,oM 17 4 3,oI 18 121 16 17,oL 19 159 18 159,oC 20 151 [(tK 19)] [159] 125,oI 21 123 14 15,oS 125 21 20])) (.ops [oM 12 4 3,oB 13 .add 3 (tK 12) (iK 1) 3 3,oA 4 13 3]))
def fA:SC:= .loop U0
def A1r:SC:= .seq (.ops [oX 2 OL 123]) (.seq (.ops [oM 5 0 121,oN 6 5 121,oX 7 (.makeSlice 123 (tK 6) (tK 6)) 123,oA 3 7 123]) (.seq (.seq (.ops [oX 4 (.assign (iK 0)) 3]) (.block 0 fA)) (.seq (.ops [oM 22 3 123,oA 2 22 123]) .ret)))
theorem rA:Try.f111.body.map (Ba lends)=some A1r:=by kernel_rfl
theorem A8s:Bz Try.f111 1=true:=by kernel_rfl
theorem ADw{a l:List D}{r:D×List D}(h:C8 Y.env A1r (Fa Ac l.length [cc 2] r) (entry a l))(ha:a.length=1):Y.call 111 a l=some r:=
 Aa (Y:=Y) rfl Try.func111 (ha▸A8s) rA h
def Gb(a:Il)(out:Il)(i:Int)(s:St):Prop:=s.v 0=bh 159 (Au .i64 .i64 a)∧s.v 3=cd 125 (Au .i64 .i64 out)∧s.v 4=bd .i64 i
def IM(a:Il)(r:Il)(ex:Ex)(s:St):Prop:=ex= .exit 0∧s.v 3=cd 125 (Au .i64 .i64 r)
theorem U1(a:Il){v:Il×Int}{s:St}{r:Il}(h:LF a v=some r)(hM:Gb a v.1 v.2 s):C8 Y.env fA (IM a r) s:=by
 unfold LF at h;refine BU (c:=U0) (fun v=>Ga a v.1 v.2) (fun v s=>Gb a v.1 v.2 s) (IM a) ?_ h hM;clear h hM s v r;intro v s o hM h;obtain⟨out,i⟩:=v;dsimp only at h hM;unfold Ga at h;unfold Gb at hM;obtain⟨m0,m1,m2⟩:=hM;unfold U0;by_cases e2:i<(a.length:Int)
 ·rw [if_pos e2]at h;obtain⟨e3,h⟩:=Bw h;obtain⟨N7,hl4,h⟩:=Ar h;try dsimp only at h
  have c4:=XU (BJ a i.toNat) (CO a i.toNat) hl4;obtain⟨e5,h⟩:=Bw h
  obtain rfl:=Option.some.inj h
  simp (maxDischargeDepth:=9) only [↓AQ,AR,Ah,↓reduceIte,bj,bk,bl,bm,bo,bp,br,bt,bw,bx,bO,b0,b3,b4,b5,b6,b7,m0,m1,m2,e2,e3.1,e3.2,c4,e5.1,e5.2,Gb,IM,Ch,Ci,Cj]<;>(repeat' apply A7)<;>first|rfl|exact⟨_,rfl⟩|exact⟨_,_,rfl⟩|simp [AP,A8]
 ·rw [if_neg e2]at h
  obtain rfl:=Option.some.inj h
  simp (maxDischargeDepth:=9) only [↓AQ,AR,Ah,↓reduceIte,bj,bk,bl,bm,bo,bp,br,bt,bw,bx,bO,b0,b3,b4,b5,b6,b7,m0,m1,m2,e2,Gb,IM,Ch,Ci,Cj]<;>(repeat' apply A7)<;>first|rfl|exact⟨_,rfl⟩|exact⟨_,_,rfl⟩|simp [AP,A8]
theorem VW(a:Il){r:Il}(h:Po a=some r):Y.call 111 [bh 159 (Au .i64 .i64 a)] []=some (cd 125 (Au .i64 .i64 r),[]):=by
 refine ADw ?_ rfl;unfold A1r;unfold Po at h;obtain⟨e1,h⟩:=Bw h;obtain⟨AY,hl3,h⟩:=Ar h;try dsimp only at h
 simp (maxDischargeDepth:=9) only [↓AQ,AR,Ah,↓reduceIte,bj,bk,bl,bm,bo,bp,br,bt,bw,bx,bO,b0,b3,b4,b5,b6,b7,e1.1,e1.2];refine BF (U1 a hl3 ?_) ?_
 ·simp (maxDischargeDepth:=9) only [↓AQ,AR,Ah,↓reduceIte,bj,bk,bl,bm,bo,bp,br,bt,bw,bx,bO,b0,b3,b4,b5,b6,b7,e1.1,e1.2,Gb]<;>(repeat' apply A7)<;>first|rfl|exact⟨_,rfl⟩|exact⟨_,_,rfl⟩|simp [AP,A8]
 ·intro ex3 s3 hX3;unfold IM at hX3;obtain⟨rfl,n3_0⟩:=hX3
  obtain rfl:=Option.some.inj h
  simp (maxDischargeDepth:=9) only [↓AQ,AR,Ah,↓reduceIte,bj,bk,bl,bm,bo,bp,br,bt,bw,bx,bO,b0,b3,b4,b5,b6,b7,e1.1,e1.2,n3_0]<;>(repeat' apply A7)<;>first|rfl|exact⟨_,rfl⟩|exact⟨_,_,rfl⟩|simp [AP,A8]
theorem ZW(a:Il)(h:a.length<549755813888):Po a=some a:=by
 have key:=CF (fun v=>Ga a v.1 v.2) (fun i=>(a.take i++ao (a.length-i) (0,0),(i:Int))) a.length a ?_ ?_
 ·unfold Po LF;rw [Br (by omega)]
  simp only [List.take_zero,V4,Nat.sub_zero,OJ]at key;rw [key];rfl
 ·intro i hi;simp only [Ga,Rw,K4];rw [if_pos (Bc hi),Br (by omega),Ce,Br (by simp;omega),A8q hi,XK a i hi (0,0),Kb i (by omega)]
 ·simp only [Ga];rw [if_neg (Ap _)];simp
theorem ZX(a:Il)(h0:a.length<549755813888):Y.call 111 [bh 159 (Au .i64 .i64 a)] []=some (cd 125 (Au .i64 .i64 a),[]):=VW a (ZW a h0)
def FQ(a:Am)(out:Am)(i:Int):Option ((Am×Int)⊕(Am)):= if i<(a.length:Int)then ck (0≤i∧i.toNat<a.length)<| ck ((a.getD i.toNat be).length<549755813888)<| ck (0≤i∧i.toNat<out.length)<| some (cb ((out.set i.toNat (a.getD i.toNat be)),ca.wrap (i+1))) else some (b8 out)
def KC(a:Am)(v:Am×Int):Option (Am):=Im (fun v=>FQ a v.1 v.2) v
def O7(a:Am):Option (Am):= ck (0≤(a.length:Int)∧(a.length:Int)<1099511627776)<| (KC a ((ao a.length ([]:Il)),0)).bind fun AY=> some AY
def XV:SC:= .seq (.seq (.ops [oM 8 4 3,oM 9 0 39,oN 10 9 39,oB 11 .lss 3 (tK 8) (tK 10) 3 4]) (.cond (tK 11) .skip (.exit 0))) (.seq (.block 1 (.ops [oM 14 3 45,oM 15 4 3,oM 16 0 39,oM 17 4 3,oI 18 39 16 17,oL 19 121 18 121,oC 20 111 [(tK 19)] [121] 123,oI 21 45 14 15,oS 123 21 20])) (.ops [oM 12 4 3,oB 13 .add 3 (tK 12) (iK 1) 3 3,oA 4 13 3]))
def nE:SC:= .loop XV
def k65:SC:= .seq (.ops [oX 2 OL 45]) (.seq (.ops [oM 5 0 39,oN 6 5 39,oX 7 (.makeSlice 45 (tK 6) (tK 6)) 45,oA 3 7 45]) (.seq (.seq (.ops [oX 4 (.assign (iK 0)) 3]) (.block 0 nE)) (.seq (.ops [oM 22 3 45,oA 2 22 45]) .ret)))
theorem A1s:Try.f65.body.map (Ba lends)=some k65:=by kernel_rfl
theorem ADy:Bz Try.f65 1=true:=by kernel_rfl
theorem c65{a l:List D}{r:D×List D}(h:C8 Y.env k65 (Fa Ac l.length [cc 2] r) (entry a l))(ha:a.length=1):Y.call 65 a l=some r:=
 Aa (Y:=Y) rfl Try.func65 (ha▸ADy) A1s h
def FR(a:Am)(out:Am)(i:Int)(s:St):Prop:=s.v 0=bh 121 (AP (fun x=>bh 159 (Au .i64 .i64 x)) a)∧s.v 3=cd 123 (AP (fun x=>cd 125 (Au .i64 .i64 x)) out)∧s.v 4=bd .i64 i
def Hg(a:Am)(r:Am)(ex:Ex)(s:St):Prop:=ex= .exit 0∧s.v 3=cd 123 (AP (fun x=>cd 125 (Au .i64 .i64 x)) r)
theorem RY(a:Am){v:Am×Int}{s:St}{r:Am}(h:KC a v=some r)(hM:FR a v.1 v.2 s):C8 Y.env nE (Hg a r) s:=by
 unfold KC at h;refine BU (c:=XV) (fun v=>FQ a v.1 v.2) (fun v s=>FR a v.1 v.2 s) (Hg a) ?_ h hM;clear h hM s v r;intro v s o hM h;obtain⟨out,i⟩:=v;dsimp only at h hM;unfold FQ at h;unfold FR at hM;obtain⟨m0,m1,m2⟩:=hM;unfold XV;by_cases e2:i<(a.length:Int)
 ·rw [if_pos e2]at h;obtain⟨e3,h⟩:=Bw h;obtain⟨e4,h⟩:=Bw h;have c5:=ZX (a.getD i.toNat be) e4;obtain⟨e6,h⟩:=Bw h
  obtain rfl:=Option.some.inj h
  simp (maxDischargeDepth:=9) only [↓AQ,AR,Ah,↓reduceIte,bj,bk,bl,bm,bo,bp,br,bt,bw,bx,bO,b0,b3,b4,b5,b6,b7,m0,m1,m2,e2,e3.1,e3.2,e4,c5,e6.1,e6.2,FR,Hg,Ch,Ci,Cj]<;>(repeat' apply A7)<;>first|rfl|exact⟨_,rfl⟩|exact⟨_,_,rfl⟩|simp [AP,A8]
 ·rw [if_neg e2]at h
  obtain rfl:=Option.some.inj h
  simp (maxDischargeDepth:=9) only [↓AQ,AR,Ah,↓reduceIte,bj,bk,bl,bm,bo,bp,br,bt,bw,bx,bO,b0,b3,b4,b5,b6,b7,m0,m1,m2,e2,FR,Hg,Ch,Ci,Cj]<;>(repeat' apply A7)<;>first|rfl|exact⟨_,rfl⟩|exact⟨_,_,rfl⟩|simp [AP,A8]
theorem U2(a:Am){r:Am}(h:O7 a=some r):Y.call 65 [bh 121 (AP (fun x=>bh 159 (Au .i64 .i64 x)) a)] []=some (cd 123 (AP (fun x=>cd 125 (Au .i64 .i64 x)) r),[]):=by
 refine c65 ?_ rfl;unfold k65;unfold O7 at h;obtain⟨e1,h⟩:=Bw h;obtain⟨AY,hl3,h⟩:=Ar h;try dsimp only at h
 simp (maxDischargeDepth:=9) only [↓AQ,AR,Ah,↓reduceIte,bj,bk,bl,bm,bo,bp,br,bt,bw,bx,bO,b0,b3,b4,b5,b6,b7,e1.1,e1.2];refine BF (RY a hl3 ?_) ?_
 ·simp (maxDischargeDepth:=9) only [↓AQ,AR,Ah,↓reduceIte,bj,bk,bl,bm,bo,bp,br,bt,bw,bx,bO,b0,b3,b4,b5,b6,b7,e1.1,e1.2,FR]<;>(repeat' apply A7)<;>first|rfl|exact⟨_,rfl⟩|exact⟨_,_,rfl⟩|simp [AP,A8]
 ·intro ex3 s3 hX3;unfold Hg at hX3;obtain⟨rfl,n3_0⟩:=hX3
  obtain rfl:=Option.some.inj h
  simp (maxDischargeDepth:=9) only [↓AQ,AR,Ah,↓reduceIte,bj,bk,bl,bm,bo,bp,br,bt,bw,bx,bO,b0,b3,b4,b5,b6,b7,e1.1,e1.2,n3_0]<;>(repeat' apply A7)<;>first|rfl|exact⟨_,rfl⟩|exact⟨_,_,rfl⟩|simp [AP,A8]
theorem XW(a:Am)(h:DL a):O7 a=some a:=by
 have h1:=h.1;have key:=CF (fun v=>FQ a v.1 v.2) (fun i=>(a.take i++ao (a.length-i) [],(i:Int))) a.length a ?_ ?_
 ·unfold O7 KC;rw [Br (by omega)]
  simp only [List.take_zero,V4,Nat.sub_zero,OJ]at key;rw [key];rfl
 ·intro i hi;simp only [FQ];rw [if_pos (Bc hi),Br (J6 hi),Br (by rw [J5 _ _ hi];exact h.at i hi),Br (J6 (by simp;omega)),J5 _ _ hi,K4,XK a i hi [],Kb i (by omega)]
 ·simp only [FQ];rw [if_neg (Ap _)];simp
theorem XX(a:Am)(h0:DL a):Y.call 65 [bh 121 (AP (fun x=>bh 159 (Au .i64 .i64 x)) a)] []=some (cd 123 (AP (fun x=>cd 125 (Au .i64 .i64 x)) a),[]):=U2 a (XW a h0)
def LG(Aw:Am)(CR:AL)(Ay:AL):Option (Am×AL×AL):= ck (DL Aw)<| ck (CR.length<1099511627776)<| ck (Ay.length<1099511627776)<| some (Aw,CR,Ay)
def k23:SC:= .seq (.ops [oX 1 (.box 41 (tK 0)) 0,oX 2 (.alloc 47) 0]) (.seq (.ops [oX 3 (.alloc 47) 0]) (.seq (.ops [oF 4 41 1 0,oL 5 39 4 39,oC 6 65 [(tK 5)] [39] 45,oF 7 47 3 0,oS 45 7 6]) (.seq (.ops [oF 8 41 1 1,oL 9 26 8 26,oC 10 66 [(tK 9)] [26] 26,oF 11 47 3 1,oS 26 11 10]) (.seq (.ops [oF 12 41 1 2,oL 13 26 12 26,oC 14 66 [(tK 13)] [26] 26,oF 15 47 3 2,oS 26 15 14]) (.seq (.ops [oL 16 47 3 47,oS 47 2 16]) .ret)))))
theorem A1t:Try.f23.body.map (Ba lends)=some k23:=by kernel_rfl
theorem AE0:Bz Try.f23 1=true:=by kernel_rfl
theorem c23{a l:List D}{r:D×List D}(h:C8 Y.env k23 (Fa Ac l.length [ResultVar.cell 2 47] r) (entry a l))(ha:a.length=1):Y.call 23 a l=some r:=
 Aa (Y:=Y) rfl Try.func23 (ha▸AE0) A1t h
theorem Qa(Aw:Am)(CR:AL)(Ay:AL){r:Am×AL×AL}(h:LG Aw CR Ay=some r):Y.call 23 [ce [bh 121 (AP (fun x=>bh 159 (Au .i64 .i64 x)) Aw),bh 3 (AP (bd .i64) CR),bh 3 (AP (bd .i64) Ay)]] []=some (ce [cd 123 (AP (fun x=>cd 125 (Au .i64 .i64 x)) r.1),cd 3 (AP (bd .i64) r.2.1),cd 3 (AP (bd .i64) r.2.2)],[]):=by
 refine c23 ?_ rfl;unfold k23;unfold LG at h;obtain⟨e1,h⟩:=Bw h;have c2:=XX Aw e1;obtain⟨e3,h⟩:=Bw h;have c4:=RF CR e3;obtain⟨e5,h⟩:=Bw h;have c6:=RF Ay e5
 obtain rfl:=Option.some.inj h
 simp (maxDischargeDepth:=9) only [↓AQ,AR,Ah,↓reduceIte,bj,bk,bl,bm,bo,bp,br,bt,bw,bx,bO,b0,b3,b4,b5,b6,b7,e1,c2,e3,c4,e5,c6]<;>(repeat' apply A7)<;>first|rfl|exact⟨_,rfl⟩|exact⟨_,_,rfl⟩|simp [AP,A8]
theorem U3(a:Am)(b c:AL)(h:DL a)(hb:b.length<1099511627776)(hc:c.length<1099511627776):LG a b c=some (a,b,c):=by
 unfold LG;rw [Br h,Br hb,Br hc]
theorem J8(Aw:Am)(CR:AL)(Ay:AL)(h0:DL Aw)(h1:CR.length<1099511627776)(h2:Ay.length<1099511627776):Y.call 23 [ce [bh 121 (AP (fun x=>bh 159 (Au .i64 .i64 x)) Aw),bh 3 (AP (bd .i64) CR),bh 3 (AP (bd .i64) Ay)]] []=some (ce [cd 123 (AP (fun x=>cd 125 (Au .i64 .i64 x)) Aw),cd 3 (AP (bd .i64) CR),cd 3 (AP (bd .i64) Ay)],[]):=Qa Aw CR Ay (U3 Aw CR Ay h0 h1 h2)
def Pp(a_Node:Int)(a_Port:Int)(b_Node:Int)(b_Port:Int):Option (Bool):= if a_Node=b_Node then if a_Port=b_Port then some true else some false else some false
def A1u:SC:= .seq (.ops [oX 2 (.box 125 (tK 0)) 0,oX 3 (.box 125 (tK 1)) 0,oX 4 CV 4]) (.seq (.seq (.ops [oF 5 125 2 0,oL 6 3 5 3,oF 7 125 3 0,oL 8 3 7 3,oB 9 .neq 3 (tK 6) (tK 8) 3 4]) (.cond (tK 9) (.seq (.ops [oX 4 CV 4]) .ret) .skip)) (.seq (.seq (.ops [oF 10 125 2 1,oL 11 3 10 3,oF 12 125 3 1,oL 13 3 12 3,oB 14 .neq 3 (tK 11) (tK 13) 3 4]) (.cond (tK 14) (.seq (.ops [oX 4 CV 4]) .ret) .skip)) (.seq (.ops [oX 4 (.assign Fw) 4]) .ret)))
theorem rC:Try.f158.body.map (Ba lends)=some A1u:=by kernel_rfl
theorem A8t:Bz Try.f158 2=true:=by kernel_rfl
theorem AE1{a l:List D}{r:D×List D}(h:C8 Y.env A1u (Fa Ac l.length [cc 4] r) (entry a l))(ha:a.length=2):Y.call 158 a l=some r:=
 Aa (Y:=Y) rfl Try.func158 (ha▸A8t) rC h
theorem XY(a_Node:Int)(a_Port:Int)(b_Node:Int)(b_Port:Int){r:Bool}(h:Pp a_Node a_Port b_Node b_Port=some r):Y.call 158 [ce [bd .i64 a_Node,bd .i64 a_Port],ce [bd .i64 b_Node,bd .i64 b_Port]] []=some (b9 r,[]):=by
 refine AE1 ?_ rfl;unfold A1u;unfold Pp at h;by_cases e1:a_Node=b_Node
 ·rw [if_pos e1]at h;by_cases e2:a_Port=b_Port
  ·rw [if_pos e2]at h
   obtain rfl:=Option.some.inj h
   simp (maxDischargeDepth:=9) only [↓AQ,AR,Ah,↓reduceIte,bj,bk,bl,bm,bo,bp,br,bt,bw,bx,bO,b0,b3,b4,b5,b6,b7,decide_eq_true e1,decide_eq_true e2]<;>(repeat' apply A7)<;>first|rfl|exact⟨_,rfl⟩|exact⟨_,_,rfl⟩|simp [AP,A8]
  ·rw [if_neg e2]at h
   obtain rfl:=Option.some.inj h
   simp (maxDischargeDepth:=9) only [↓AQ,AR,Ah,↓reduceIte,bj,bk,bl,bm,bo,bp,br,bt,bw,bx,bO,b0,b3,b4,b5,b6,b7,decide_eq_true e1,e2]<;>(repeat' apply A7)<;>first|rfl|exact⟨_,rfl⟩|exact⟨_,_,rfl⟩|simp [AP,A8]
 ·rw [if_neg e1]at h
  obtain rfl:=Option.some.inj h
  simp (maxDischargeDepth:=9) only [↓AQ,AR,Ah,↓reduceIte,bj,bk,bl,bm,bo,bp,br,bt,bw,bx,bO,b0,b3,b4,b5,b6,b7,e1]<;>(repeat' apply A7)<;>first|rfl|exact⟨_,rfl⟩|exact⟨_,_,rfl⟩|simp [AP,A8]
def Gc(a:Il)(b:Il)(i:Int):Option ((Int)⊕(Unit⊕Unit)):= if i<(a.length:Int)then ck (0≤i∧i.toNat<a.length)<| ck (0≤i∧i.toNat<b.length)<| (Pp (BJ a i.toNat) (CO a i.toNat) (BJ b i.toNat) (CO b i.toNat)).bind fun rD=> if rD=true then some (cb (ca.wrap (i+1))) else some (b8 (cb ())) else some (b8 (b8 ()))
def LH(a:Il)(b:Il)(v:Int):Option (Unit⊕Unit):=Im (fun v=>Gc a b v) v
def Pq(a:Il)(b:Il):Option (Bool):=
 if(a.length:Int)=(b.length:Int)then
  (LH a b 0).bind fun AY=>
  match AY with
  | .inl q1000_=>
   some false
  | .inr q1000_=>
   some true
 else
  some false
abbrev WS:List Nat:=[17,18,19,20,21,22,23,24,25,26]
def U4:SC:= .seq (.seq (.ops [oM 11 5 3,oM 12 0 123,oN 13 12 123,oB 14 .lss 3 (tK 11) (tK 13) 3 4]) (.cond (tK 14) .skip (.exit 0))) (.seq (.block 1 (.seq (.draws [(⟨[17,0,0],WS,[17]⟩,oM 17 0 123),(⟨[18,5,5],WS,[18]⟩,oM 18 5 3),(⟨[19,17,18,0,5],WS,[19]⟩,oI 19 123 17 18),(⟨[20,19,0],WS,[20]⟩,oL 20 125 19 125),(⟨[21,1,1],WS,[21]⟩,oM 21 1 123),(⟨[22,5,5],WS,[22]⟩,oM 22 5 3),(⟨[23,21,22,1,5],WS,[23]⟩,oI 23 123 21 22),(⟨[24,23,1],WS,[24]⟩,oL 24 125 23 125),(⟨[25,20,24,0,1],WS,[25]⟩,oC 25 158 [(tK 20),(tK 24)] [125,125] 4),(⟨[26,25,25],WS,[26]⟩,oX 26 (.unOp .not 4 (tK 25)) 4)]) (.cond (tK 26) (.seq (.ops [oX 4 CV 4]) .ret) .skip))) (.ops [oM 15 5 3,oB 16 .add 3 (tK 15) (iK 1) 3 3,oA 5 16 3]))
def fB:SC:= .loop U4
def A1v:SC:= .seq (.ops [oX 4 CV 4]) (.seq (.seq (.ops [oM 6 0 123,oN 7 6 123,oM 8 1 123,oN 9 8 123,oB 10 .neq 3 (tK 7) (tK 9) 3 4]) (.cond (tK 10) (.seq (.ops [oX 4 CV 4]) .ret) .skip)) (.seq (.seq (.ops [oX 5 (.assign (iK 0)) 3]) (.block 0 fB)) (.seq (.ops [oX 4 (.assign Fw) 4]) .ret)))
theorem rE:Try.f126.body.map (Ba lends)=some A1v:=by kernel_rfl
theorem A8u:Bz Try.f126 2=true:=by kernel_rfl
theorem AE2{a l:List D}{r:D×List D}(h:C8 Y.env A1v (Fa Ac l.length [cc 4] r) (entry a l))(ha:a.length=2):Y.call 126 a l=some r:=
 Aa (Y:=Y) rfl Try.func126 (ha▸A8u) rE h
def F7(a:Il)(b:Il)(i:Int)(s:St):Prop:=s.v 0=bh 125 (Au .i64 .i64 a)∧s.v 1=bh 125 (Au .i64 .i64 b)∧s.v 5=bd .i64 i
def F8(a:Il)(b:Il)(r:Unit⊕Unit)(ex:Ex)(s:St):Prop:=match r with
 | .inl q=>ex= .ret∧s.v 4=b9 false
 | .inr q=>ex= .exit 0
theorem U5(a:Il)(b:Il){v:Int}{s:St}{r:Unit⊕Unit}(h:LH a b v=some r)(hM:F7 a b v s):C8 Y.env fB (F8 a b r) s:=by
 unfold LH at h;refine BU (c:=U4) (fun v=>Gc a b v) (fun v s=>F7 a b v s) (F8 a b) ?_ h hM;clear h hM s v r;intro i s o hM h;unfold Gc at h;unfold F7 at hM;obtain⟨m0,m1,m2⟩:=hM;unfold U4;by_cases e2:i<(a.length:Int)
 ·rw [if_pos e2]at h;obtain⟨e3,h⟩:=Bw h;obtain⟨e4,h⟩:=Bw h;obtain⟨rD,hl5,h⟩:=Ar h;try dsimp only at h
  have c5:=XY (BJ a i.toNat) (CO a i.toNat) (BJ b i.toNat) (CO b i.toNat) hl5;by_cases e6:rD=true
  ·rw [if_pos e6]at h
   obtain rfl:=Option.some.inj h
   simp (maxDischargeDepth:=9) only [↓AQ,AR,Ah,↓reduceIte,bj,bk,bl,bm,bo,bp,br,bt,bw,bx,bO,b0,b3,b4,b5,b6,b7,m0,m1,m2,e2,e3.1,e3.2,e4.1,e4.2,c5,e6,F7,F8,Ch,Ci,Cj]<;>(repeat' apply A7)<;>first|rfl|exact⟨_,rfl⟩|exact⟨_,_,rfl⟩|simp [AP,A8]
  ·rw [if_neg e6]at h;have e6f:rD=false:=KR.mpr e6
   obtain rfl:=Option.some.inj h
   simp (maxDischargeDepth:=9) only [↓AQ,AR,Ah,↓reduceIte,bj,bk,bl,bm,bo,bp,br,bt,bw,bx,bO,b0,b3,b4,b5,b6,b7,m0,m1,m2,e2,e3.1,e3.2,e4.1,e4.2,c5,e6f,F7,F8,Ch,Ci,Cj]<;>(repeat' apply A7)<;>first|rfl|exact⟨_,rfl⟩|exact⟨_,_,rfl⟩|simp [AP,A8]
 ·rw [if_neg e2]at h
  obtain rfl:=Option.some.inj h
  simp (maxDischargeDepth:=9) only [↓AQ,AR,Ah,↓reduceIte,bj,bk,bl,bm,bo,bp,br,bt,bw,bx,bO,b0,b3,b4,b5,b6,b7,m0,m1,m2,e2,F7,F8,Ch,Ci,Cj]<;>(repeat' apply A7)<;>first|rfl|exact⟨_,rfl⟩|exact⟨_,_,rfl⟩|simp [AP,A8]
theorem VX(a:Il)(b:Il){r:Bool}(h:Pq a b=some r):Y.call 126 [bh 125 (Au .i64 .i64 a),bh 125 (Au .i64 .i64 b)] []=some (b9 r,[]):=by
 refine AE2 ?_ rfl;unfold A1v;unfold Pq at h;by_cases e1:(a.length:Int)=(b.length:Int)
 ·rw [if_pos e1]at h;obtain⟨AY,hl3,h⟩:=Ar h;try dsimp only at h
  simp (maxDischargeDepth:=9) only [↓AQ,AR,Ah,↓reduceIte,bj,bk,bl,bm,bo,bp,br,bt,bw,bx,bO,b0,b3,b4,b5,b6,b7,decide_eq_true e1];refine BF (U5 a b hl3 ?_) ?_
  ·simp (maxDischargeDepth:=9) only [↓AQ,AR,Ah,↓reduceIte,bj,bk,bl,bm,bo,bp,br,bt,bw,bx,bO,b0,b3,b4,b5,b6,b7,decide_eq_true e1,F7]<;>(repeat' apply A7)<;>first|rfl|exact⟨_,rfl⟩|exact⟨_,_,rfl⟩|simp [AP,A8]
  ·intro ex3 s3 hX3;rcases AY with q1000_|q1000_
   ·unfold F8 at hX3;dsimp only at hX3 h;obtain⟨rfl,n3_0⟩:=hX3
    obtain rfl:=Option.some.inj h
    simp (maxDischargeDepth:=9) only [↓AQ,AR,Ah,↓reduceIte,bj,bk,bl,bm,bo,bp,br,bt,bw,bx,bO,b0,b3,b4,b5,b6,b7,decide_eq_true e1,n3_0]<;>(repeat' apply A7)<;>first|rfl|exact⟨_,rfl⟩|exact⟨_,_,rfl⟩|simp [AP,A8]
   ·unfold F8 at hX3;dsimp only at hX3 h
    obtain rfl:=hX3
    obtain rfl:=Option.some.inj h
    simp (maxDischargeDepth:=9) only [↓AQ,AR,Ah,↓reduceIte,bj,bk,bl,bm,bo,bp,br,bt,bw,bx,bO,b0,b3,b4,b5,b6,b7,decide_eq_true e1]<;>(repeat' apply A7)<;>first|rfl|exact⟨_,rfl⟩|exact⟨_,_,rfl⟩|simp [AP,A8]
 ·rw [if_neg e1]at h
  obtain rfl:=Option.some.inj h
  simp (maxDischargeDepth:=9) only [↓AQ,AR,Ah,↓reduceIte,bj,bk,bl,bm,bo,bp,br,bt,bw,bx,bO,b0,b3,b4,b5,b6,b7,e1]<;>(repeat' apply A7)<;>first|rfl|exact⟨_,rfl⟩|exact⟨_,_,rfl⟩|simp [AP,A8]
theorem d9(a b c d:Int):Pp a b c d=some (decide ((a,b)=(c,d))):=by
 unfold Pp;by_cases h1:a=c<;>by_cases h2:b=d<;>simp [h1,h2]
theorem ZY(a b:Il)(ha:a.length<549755813888):Pq a b=some (decide (a=b)):=by
 unfold Pq LH;by_cases hl:a.length=b.length
 ·rw [if_pos (by omega)]
  have key:=IZ (fun v=>Gc a b v) (fun i=>(i:Int)) a.length (fun i=>decide (a.getD i be=b.getD i be)) (.inl ()) (.inr ()) ?_ ?_
  ·simp only [OJ]at key;rw [key,Tj a b hl];by_cases he:a=b<;>simp [he]
  ·intro i hi;simp only [Gc,K4];rw [if_pos (Bc hi),Br (by omega),Br (by omega),d9,Ce,Kb i (by omega)]
   rfl
  ·simp only [Gc];rw [if_neg (Ap _)]
 ·rw [if_neg (by omega)]
  have: ¬a=b:=fun e=>hl (by rw [e])
  simp [this]
theorem ZZ(a:Il)(b:Il)(h0:a.length<549755813888):Y.call 126 [bh 125 (Au .i64 .i64 a),bh 125 (Au .i64 .i64 b)] []=some (b9 (decide (a=b)),[]):=VX a b (ZY a b h0)
def FT(a:Am)(b:Am)(i:Int):Option ((Int)⊕(Unit⊕Unit)):= if i<(a.length:Int)then ck (0≤i∧i.toNat<a.length)<| ck (0≤i∧i.toNat<b.length)<| ck ((a.getD i.toNat be).length<549755813888)<| if(decide ((a.getD i.toNat be)=(b.getD i.toNat be)))=true then some (cb (ca.wrap (i+1))) else some (b8 (cb ())) else some (b8 (b8 ()))
def KD(a:Am)(b:Am)(v:Int):Option (Unit⊕Unit):=Im (fun v=>FT a b v) v
def O8(a:Am)(b:Am):Option (Bool):=
 if(a.length:Int)=(b.length:Int)then
  (KD a b 0).bind fun AY=>
  match AY with
  | .inl q1000_=>
   some false
  | .inr q1000_=>
   some true
 else
  some false
def XZ:SC:= .seq (.seq (.ops [oM 11 5 3,oM 12 0 45,oN 13 12 45,oB 14 .lss 3 (tK 11) (tK 13) 3 4]) (.cond (tK 14) .skip (.exit 0))) (.seq (.block 1 (.seq (.draws [(⟨[17,0,0],WS,[17]⟩,oM 17 0 45),(⟨[18,5,5],WS,[18]⟩,oM 18 5 3),(⟨[19,17,18,0,5],WS,[19]⟩,oI 19 45 17 18),(⟨[20,19,0],WS,[20]⟩,oL 20 123 19 123),(⟨[21,1,1],WS,[21]⟩,oM 21 1 45),(⟨[22,5,5],WS,[22]⟩,oM 22 5 3),(⟨[23,21,22,1,5],WS,[23]⟩,oI 23 45 21 22),(⟨[24,23,1],WS,[24]⟩,oL 24 123 23 123),(⟨[25,20,24,0,1],WS,[25]⟩,oC 25 126 [(tK 20),(tK 24)] [123,123] 4),(⟨[26,25,25],WS,[26]⟩,oX 26 (.unOp .not 4 (tK 25)) 4)]) (.cond (tK 26) (.seq (.ops [oX 4 CV 4]) .ret) .skip))) (.ops [oM 15 5 3,oB 16 .add 3 (tK 15) (iK 1) 3 3,oA 5 16 3]))
def nG:SC:= .loop XZ
def k73:SC:= .seq (.ops [oX 4 CV 4]) (.seq (.seq (.ops [oM 6 0 45,oN 7 6 45,oM 8 1 45,oN 9 8 45,oB 10 .neq 3 (tK 7) (tK 9) 3 4]) (.cond (tK 10) (.seq (.ops [oX 4 CV 4]) .ret) .skip)) (.seq (.seq (.ops [oX 5 (.assign (iK 0)) 3]) (.block 0 nG)) (.seq (.ops [oX 4 (.assign Fw) 4]) .ret)))
theorem A1w:Try.f73.body.map (Ba lends)=some k73:=by kernel_rfl
theorem AE4:Bz Try.f73 2=true:=by kernel_rfl
theorem c73{a l:List D}{r:D×List D}(h:C8 Y.env k73 (Fa Ac l.length [cc 4] r) (entry a l))(ha:a.length=2):Y.call 73 a l=some r:=
 Aa (Y:=Y) rfl Try.func73 (ha▸AE4) A1w h
def Eb(a:Am)(b:Am)(i:Int)(s:St):Prop:=s.v 0=bh 123 (AP (fun x=>bh 125 (Au .i64 .i64 x)) a)∧s.v 1=bh 123 (AP (fun x=>bh 125 (Au .i64 .i64 x)) b)∧s.v 5=bd .i64 i
def Ec(a:Am)(b:Am)(r:Unit⊕Unit)(ex:Ex)(s:St):Prop:=match r with
 | .inl q=>ex= .ret∧s.v 4=b9 false
 | .inr q=>ex= .exit 0
theorem RZ(a:Am)(b:Am){v:Int}{s:St}{r:Unit⊕Unit}(h:KD a b v=some r)(hM:Eb a b v s):C8 Y.env nG (Ec a b r) s:=by
 unfold KD at h;refine BU (c:=XZ) (fun v=>FT a b v) (fun v s=>Eb a b v s) (Ec a b) ?_ h hM;clear h hM s v r;intro i s o hM h;unfold FT at h;unfold Eb at hM;obtain⟨m0,m1,m2⟩:=hM;unfold XZ;by_cases e2:i<(a.length:Int)
 ·rw [if_pos e2]at h;obtain⟨e3,h⟩:=Bw h;obtain⟨e4,h⟩:=Bw h;obtain⟨e5,h⟩:=Bw h;have c6:=ZZ (a.getD i.toNat be) (b.getD i.toNat be) e5;by_cases e7:(decide ((a.getD i.toNat be)=(b.getD i.toNat be)))=true
  ·rw [if_pos e7]at h
   obtain rfl:=Option.some.inj h
   simp (maxDischargeDepth:=9) only [↓AQ,AR,Ah,↓reduceIte,bj,bk,bl,bm,bo,bp,br,bt,bw,bx,bO,b0,b3,b4,b5,b6,b7,m0,m1,m2,e2,e3.1,e3.2,e4.1,e4.2,e5,c6,e7,Eb,Ec,Ch,Ci,Cj]<;>(repeat' apply A7)<;>first|rfl|exact⟨_,rfl⟩|exact⟨_,_,rfl⟩|simp [AP,A8]
  ·rw [if_neg e7]at h;have e7f:(decide ((a.getD i.toNat be)=(b.getD i.toNat be)))=false:=KR.mpr e7
   obtain rfl:=Option.some.inj h
   simp (maxDischargeDepth:=9) only [↓AQ,AR,Ah,↓reduceIte,bj,bk,bl,bm,bo,bp,br,bt,bw,bx,bO,b0,b3,b4,b5,b6,b7,m0,m1,m2,e2,e3.1,e3.2,e4.1,e4.2,e5,c6,e7f,Eb,Ec,Ch,Ci,Cj]<;>(repeat' apply A7)<;>first|rfl|exact⟨_,rfl⟩|exact⟨_,_,rfl⟩|simp [AP,A8]
 ·rw [if_neg e2]at h
  obtain rfl:=Option.some.inj h
  simp (maxDischargeDepth:=9) only [↓AQ,AR,Ah,↓reduceIte,bj,bk,bl,bm,bo,bp,br,bt,bw,bx,bO,b0,b3,b4,b5,b6,b7,m0,m1,m2,e2,Eb,Ec,Ch,Ci,Cj]<;>(repeat' apply A7)<;>first|rfl|exact⟨_,rfl⟩|exact⟨_,_,rfl⟩|simp [AP,A8]
theorem U6(a:Am)(b:Am){r:Bool}(h:O8 a b=some r):Y.call 73 [bh 123 (AP (fun x=>bh 125 (Au .i64 .i64 x)) a),bh 123 (AP (fun x=>bh 125 (Au .i64 .i64 x)) b)] []=some (b9 r,[]):=by
 refine c73 ?_ rfl;unfold k73;unfold O8 at h;by_cases e1:(a.length:Int)=(b.length:Int)
 ·rw [if_pos e1]at h;obtain⟨AY,hl3,h⟩:=Ar h;try dsimp only at h
  simp (maxDischargeDepth:=9) only [↓AQ,AR,Ah,↓reduceIte,bj,bk,bl,bm,bo,bp,br,bt,bw,bx,bO,b0,b3,b4,b5,b6,b7,decide_eq_true e1];refine BF (RZ a b hl3 ?_) ?_
  ·simp (maxDischargeDepth:=9) only [↓AQ,AR,Ah,↓reduceIte,bj,bk,bl,bm,bo,bp,br,bt,bw,bx,bO,b0,b3,b4,b5,b6,b7,decide_eq_true e1,Eb]<;>(repeat' apply A7)<;>first|rfl|exact⟨_,rfl⟩|exact⟨_,_,rfl⟩|simp [AP,A8]
  ·intro ex3 s3 hX3;rcases AY with q1000_|q1000_
   ·unfold Ec at hX3;dsimp only at hX3 h;obtain⟨rfl,n3_0⟩:=hX3
    obtain rfl:=Option.some.inj h
    simp (maxDischargeDepth:=9) only [↓AQ,AR,Ah,↓reduceIte,bj,bk,bl,bm,bo,bp,br,bt,bw,bx,bO,b0,b3,b4,b5,b6,b7,decide_eq_true e1,n3_0]<;>(repeat' apply A7)<;>first|rfl|exact⟨_,rfl⟩|exact⟨_,_,rfl⟩|simp [AP,A8]
   ·unfold Ec at hX3;dsimp only at hX3 h
    obtain rfl:=hX3
    obtain rfl:=Option.some.inj h
    simp (maxDischargeDepth:=9) only [↓AQ,AR,Ah,↓reduceIte,bj,bk,bl,bm,bo,bp,br,bt,bw,bx,bO,b0,b3,b4,b5,b6,b7,decide_eq_true e1]<;>(repeat' apply A7)<;>first|rfl|exact⟨_,rfl⟩|exact⟨_,_,rfl⟩|simp [AP,A8]
 ·rw [if_neg e1]at h
  obtain rfl:=Option.some.inj h
  simp (maxDischargeDepth:=9) only [↓AQ,AR,Ah,↓reduceIte,bj,bk,bl,bm,bo,bp,br,bt,bw,bx,bO,b0,b3,b4,b5,b6,b7,e1]<;>(repeat' apply A7)<;>first|rfl|exact⟨_,rfl⟩|exact⟨_,_,rfl⟩|simp [AP,A8]
theorem Xa(a b:Am)(ha:DL a):O8 a b=some (decide (a=b)):=by
 have h1:=ha.1;unfold O8 KD;by_cases hl:a.length=b.length
 ·rw [if_pos (by omega)]
  have key:=IZ (fun v=>FT a b v) (fun i=>(i:Int)) a.length (fun i=>decide (a.getD i be=b.getD i be)) (.inl ()) (.inr ()) ?_ ?_
  ·simp only [OJ]at key;rw [key,Tj a b hl];by_cases he:a=b<;>simp [he]
  ·intro i hi;simp only [FT];rw [if_pos (Bc hi),Br (J6 hi),Br (J6 (by omega)),Br (by rw [J5 _ _ hi];exact ha.at i hi),K4,Kb i (by omega)]<;>simp only [decide_eq_true_eq]
  ·simp only [FT];rw [if_neg (Ap _)]
 ·rw [if_neg (by omega)]
  have: ¬a=b:=fun e=>hl (by rw [e])
  simp [this]
theorem Xb(a:Am)(b:Am)(h0:DL a):Y.call 73 [bh 123 (AP (fun x=>bh 125 (Au .i64 .i64 x)) a),bh 123 (AP (fun x=>bh 125 (Au .i64 .i64 x)) b)] []=some (b9 (decide (a=b)),[]):=U6 a b (Xa a b h0)
def LJ(Aw:Am)(CR:AL)(Ay:AL)(Jw:Am)(Mq:AL)(GD:AL):Option (Bool):= ck (DL Aw)<| if(decide (Aw=Jw))=true then ck (CR.length<1099511627776)<| if(decide (CR=Mq))=true then ck (Ay.length<1099511627776)<| if(decide (Ay=GD))=true then some true else some false else some false else some false
def k25:SC:= .seq (.ops [oX 2 (.box 47 (tK 0)) 0,oX 3 (.box 47 (tK 1)) 0,oX 4 CV 4]) (.seq (.seq (.ops [oF 5 47 2 0,oL 6 45 5 45,oF 7 47 3 0,oL 8 45 7 45,oC 9 73 [(tK 6),(tK 8)] [45,45] 4,oX 10 (.unOp .not 4 (tK 9)) 4]) (.cond (tK 10) (.seq (.ops [oX 4 CV 4]) .ret) .skip)) (.seq (.seq (.ops [oF 11 47 2 1,oL 12 26 11 26,oF 13 47 3 1,oL 14 26 13 26,oC 15 14 [(tK 12),(tK 14)] [26,26] 4,oX 16 (.unOp .not 4 (tK 15)) 4]) (.cond (tK 16) (.seq (.ops [oX 4 CV 4]) .ret) .skip)) (.seq (.seq (.ops [oF 17 47 2 2,oL 18 26 17 26,oF 19 47 3 2,oL 20 26 19 26,oC 21 14 [(tK 18),(tK 20)] [26,26] 4,oX 22 (.unOp .not 4 (tK 21)) 4]) (.cond (tK 22) (.seq (.ops [oX 4 CV 4]) .ret) .skip)) (.seq (.ops [oX 4 (.assign Fw) 4]) .ret))))
theorem A1x:Try.f25.body.map (Ba lends)=some k25:=by kernel_rfl
theorem AE6:Bz Try.f25 2=true:=by kernel_rfl
theorem c25{a l:List D}{r:D×List D}(h:C8 Y.env k25 (Fa Ac l.length [cc 4] r) (entry a l))(ha:a.length=2):Y.call 25 a l=some r:=
 Aa (Y:=Y) rfl Try.func25 (ha▸AE6) A1x h
theorem Qb(Aw:Am)(CR:AL)(Ay:AL)(Jw:Am)(Mq:AL)(GD:AL){r:Bool}(h:LJ Aw CR Ay Jw Mq GD=some r):Y.call 25 [ce [bh 123 (AP (fun x=>bh 125 (Au .i64 .i64 x)) Aw),bh 3 (AP (bd .i64) CR),bh 3 (AP (bd .i64) Ay)],ce [bh 123 (AP (fun x=>bh 125 (Au .i64 .i64 x)) Jw),bh 3 (AP (bd .i64) Mq),bh 3 (AP (bd .i64) GD)]] []=some (b9 r,[]):=by
 refine c25 ?_ rfl;unfold k25;unfold LJ at h;obtain⟨e1,h⟩:=Bw h;have c2:=Xb Aw Jw e1;by_cases e3:(decide (Aw=Jw))=true
 ·rw [if_pos e3]at h;obtain⟨e4,h⟩:=Bw h;have c5:=RG CR Mq e4;by_cases e6:(decide (CR=Mq))=true
  ·rw [if_pos e6]at h;obtain⟨e7,h⟩:=Bw h;have c8:=RG Ay GD e7;by_cases e9:(decide (Ay=GD))=true
   ·rw [if_pos e9]at h
    obtain rfl:=Option.some.inj h
    simp (maxDischargeDepth:=9) only [↓AQ,AR,Ah,↓reduceIte,bj,bk,bl,bm,bo,bp,br,bt,bw,bx,bO,b0,b3,b4,b5,b6,b7,e1,c2,e3,e4,c5,e6,e7,c8,e9]<;>(repeat' apply A7)<;>first|rfl|exact⟨_,rfl⟩|exact⟨_,_,rfl⟩|simp [AP,A8]
   ·rw [if_neg e9]at h;have e9f:(decide (Ay=GD))=false:=KR.mpr e9
    obtain rfl:=Option.some.inj h
    simp (maxDischargeDepth:=9) only [↓AQ,AR,Ah,↓reduceIte,bj,bk,bl,bm,bo,bp,br,bt,bw,bx,bO,b0,b3,b4,b5,b6,b7,e1,c2,e3,e4,c5,e6,e7,c8,e9f]<;>(repeat' apply A7)<;>first|rfl|exact⟨_,rfl⟩|exact⟨_,_,rfl⟩|simp [AP,A8]
  ·rw [if_neg e6]at h;have e6f:(decide (CR=Mq))=false:=KR.mpr e6
   obtain rfl:=Option.some.inj h
   simp (maxDischargeDepth:=9) only [↓AQ,AR,Ah,↓reduceIte,bj,bk,bl,bm,bo,bp,br,bt,bw,bx,bO,b0,b3,b4,b5,b6,b7,e1,c2,e3,e4,c5,e6f]<;>(repeat' apply A7)<;>first|rfl|exact⟨_,rfl⟩|exact⟨_,_,rfl⟩|simp [AP,A8]
 ·rw [if_neg e3]at h;have e3f:(decide (Aw=Jw))=false:=KR.mpr e3
  obtain rfl:=Option.some.inj h
  simp (maxDischargeDepth:=9) only [↓AQ,AR,Ah,↓reduceIte,bj,bk,bl,bm,bo,bp,br,bt,bw,bx,bO,b0,b3,b4,b5,b6,b7,e1,c2,e3f]<;>(repeat' apply A7)<;>first|rfl|exact⟨_,rfl⟩|exact⟨_,_,rfl⟩|simp [AP,A8]
def Ni(a:Am)(b c:AL)(a':Am)(b' c':AL):Bool:=decide (a=a'∧b=b'∧c=c')
theorem dA(a:Am)(b c:AL):Ni a b c a b c=true:=by simp [Ni]
theorem U7(a:Am)(b c:AL)(a':Am)(b' c':AL)(h:DL a)(hb:b.length<1099511627776)(hc:c.length<1099511627776):LJ a b c a' b' c'=some (Ni a b c a' b' c'):=by
 unfold LJ Ni;rw [Br h,Br hb,Br hc];by_cases h1:a=a'<;>by_cases h2:b=b'<;>by_cases h3:c=c'<;>simp [h1,h2,h3]
theorem Nj(Aw:Am)(CR:AL)(Ay:AL)(Jw:Am)(Mq:AL)(GD:AL)(h0:DL Aw)(h1:CR.length<1099511627776)(h2:Ay.length<1099511627776):Y.call 25 [ce [bh 123 (AP (fun x=>bh 125 (Au .i64 .i64 x)) Aw),bh 3 (AP (bd .i64) CR),bh 3 (AP (bd .i64) Ay)],ce [bh 123 (AP (fun x=>bh 125 (Au .i64 .i64 x)) Jw),bh 3 (AP (bd .i64) Mq),bh 3 (AP (bd .i64) GD)]] []=some (b9 (Ni Aw CR Ay Jw Mq GD),[]):=Qb Aw CR Ay Jw Mq GD (U7 Aw CR Ay Jw Mq GD h0 h1 h2)
def Ps(a:Il)(left:Int):Option (Int):= if(ca.wrap (left-(a.length:Int)))<0 then some (-1) else some (ca.wrap (left-(a.length:Int)))
def A1y:SC:= .seq (.ops [oX 4 (.assign (iK 0)) 3]) (.seq (.ops [oM 5 1 3,oM 6 0 121,oN 7 6 121,oB 8 .sub 3 (tK 5) (tK 7) 3 3,oA 1 8 3]) (.seq (.seq (.ops [oM 9 1 3,oB 10 .lss 3 (tK 9) (iK 0) 3 4]) (.cond (tK 10) (.seq (.ops [oX 4 Ot 3]) .ret) .skip)) (.seq (.ops [oM 11 1 3,oA 4 11 3]) .ret)))
theorem rF:Try.f105.body.map (Ba lends)=some A1y:=by kernel_rfl
theorem A8v:Bz Try.f105 2=true:=by kernel_rfl
theorem AE7{a l:List D}{r:D×List D}(h:C8 Y.env A1y (Fa Ac l.length [cc 4] r) (entry a l))(ha:a.length=2):Y.call 105 a l=some r:=
 Aa (Y:=Y) rfl Try.func105 (ha▸A8v) rF h
theorem VY(a:Il)(left:Int){r:Int}(h:Ps a left=some r):Y.call 105 [bh 159 (Au .i64 .i64 a),bd .i64 left] []=some (bd .i64 r,[]):=by
 refine AE7 ?_ rfl;unfold A1y;unfold Ps at h;by_cases e1:(ca.wrap (left-(a.length:Int)))<0
 ·rw [if_pos e1]at h
  obtain rfl:=Option.some.inj h
  simp (maxDischargeDepth:=9) only [↓AQ,AR,Ah,↓reduceIte,bj,bk,bl,bm,bo,bp,br,bt,bw,bx,bO,b0,b3,b4,b5,b6,b7,e1]<;>(repeat' apply A7)<;>first|rfl|exact⟨_,rfl⟩|exact⟨_,_,rfl⟩|simp [AP,A8]
 ·rw [if_neg e1]at h
  obtain rfl:=Option.some.inj h
  simp (maxDischargeDepth:=9) only [↓AQ,AR,Ah,↓reduceIte,bj,bk,bl,bm,bo,bp,br,bt,bw,bx,bO,b0,b3,b4,b5,b6,b7,e1]<;>(repeat' apply A7)<;>first|rfl|exact⟨_,rfl⟩|exact⟨_,_,rfl⟩|simp [AP,A8]
theorem Za(a:Il)(left:Int)(ha:a.length<9223372036854775808)(hl:0≤left∧left≤1048576):Ps a left=some (H9 left a.length):=by
 unfold Ps H9;rw [Lb _ (by omega)]
 split<;>rfl
theorem Zb(a:Il)(left:Int)(h0:a.length<9223372036854775808)(h1:0≤left∧left≤1048576):Y.call 105 [bh 159 (Au .i64 .i64 a),bd .i64 left] []=some (bd .i64 (H9 left a.length),[]):=VY a left (Za a left h0 h1)
def FU(a:Am)(left1:Int)(i:Int):Option ((Int×Int)⊕(Unit⊕Int)):= if i<(a.length:Int)then ck (0≤i∧i.toNat<a.length)<| ck ((a.getD i.toNat be).length<9223372036854775808)<| ck (0≤left1∧left1≤1048576)<| if(H9 left1 (a.getD i.toNat be).length)<0 then some (b8 (cb ())) else some (cb ((H9 left1 (a.getD i.toNat be).length),ca.wrap (i+1))) else some (b8 (b8 left1))
def G6(a:Am)(v:Int×Int):Option (Unit⊕Int):=Im (fun v=>FU a v.1 v.2) v
def O9(a:Am)(left:Int):Option (Int):=
 if(ca.wrap (left-(a.length:Int)))<0 then
  some (-1)
 else
  (G6 a (ca.wrap (left-(a.length:Int)),0)).bind fun AY=>
  match AY with
  | .inl q1000_=>
   some (-1)
  | .inr q1000_=>
   some q1000_
def Xc:SC:= .seq (.seq (.ops [oM 12 5 3,oM 13 0 39,oN 14 13 39,oB 15 .lss 3 (tK 12) (tK 14) 3 4]) (.cond (tK 15) .skip (.exit 0))) (.seq (.block 1 (.seq (.ops [oM 18 0 39,oM 19 5 3,oI 20 39 18 19,oL 21 121 20 121,oM 22 1 3,oC 23 105 [(tK 21),(tK 22)] [121,3] 3,oA 1 23 3]) (.seq (.ops [oM 24 1 3,oB 25 .lss 3 (tK 24) (iK 0) 3 4]) (.cond (tK 25) (.seq (.ops [oX 4 Ot 3]) .ret) .skip)))) (.ops [oM 16 5 3,oB 17 .add 3 (tK 16) (iK 1) 3 3,oA 5 17 3]))
def nH:SC:= .loop Xc
def k58:SC:= .seq (.ops [oX 4 (.assign (iK 0)) 3]) (.seq (.ops [oM 6 1 3,oM 7 0 39,oN 8 7 39,oB 9 .sub 3 (tK 6) (tK 8) 3 3,oA 1 9 3]) (.seq (.seq (.ops [oM 10 1 3,oB 11 .lss 3 (tK 10) (iK 0) 3 4]) (.cond (tK 11) (.seq (.ops [oX 4 Ot 3]) .ret) .skip)) (.seq (.seq (.ops [oX 5 (.assign (iK 0)) 3]) (.block 0 nH)) (.seq (.ops [oM 26 1 3,oA 4 26 3]) .ret))))
theorem A1z:Try.f58.body.map (Ba lends)=some k58:=by kernel_rfl
theorem AE9:Bz Try.f58 2=true:=by kernel_rfl
theorem c58{a l:List D}{r:D×List D}(h:C8 Y.env k58 (Fa Ac l.length [cc 4] r) (entry a l))(ha:a.length=2):Y.call 58 a l=some r:=
 Aa (Y:=Y) rfl Try.func58 (ha▸AE9) A1z h
def Ed(a:Am)(left1:Int)(i:Int)(s:St):Prop:=s.v 0=bh 121 (AP (fun x=>bh 159 (Au .i64 .i64 x)) a)∧s.v 1=bd .i64 left1∧s.v 5=bd .i64 i
def Ee(a:Am)(r:Unit⊕Int)(ex:Ex)(s:St):Prop:=match r with
 | .inl q=>ex= .ret∧s.v 4=bd .i64 (-1)
 | .inr q=>ex= .exit 0∧s.v 1=bd .i64 q
theorem Ra(a:Am){v:Int×Int}{s:St}{r:Unit⊕Int}(h:G6 a v=some r)(hM:Ed a v.1 v.2 s):C8 Y.env nH (Ee a r) s:=by
 unfold G6 at h;refine BU (c:=Xc) (fun v=>FU a v.1 v.2) (fun v s=>Ed a v.1 v.2 s) (Ee a) ?_ h hM;clear h hM s v r;intro v s o hM h;obtain⟨left1,i⟩:=v;dsimp only at h hM;unfold FU at h;unfold Ed at hM;obtain⟨m0,m1,m2⟩:=hM;unfold Xc;by_cases e2:i<(a.length:Int)
 ·rw [if_pos e2]at h;obtain⟨e3,h⟩:=Bw h;obtain⟨e4,h⟩:=Bw h;obtain⟨e5,h⟩:=Bw h;have c6:=Zb (a.getD i.toNat be) left1 e4 e5;by_cases e7:(H9 left1 (a.getD i.toNat be).length)<0
  ·rw [if_pos e7]at h
   obtain rfl:=Option.some.inj h
   simp (maxDischargeDepth:=9) only [↓AQ,AR,Ah,↓reduceIte,bj,bk,bl,bm,bo,bp,br,bt,bw,bx,bO,b0,b3,b4,b5,b6,b7,m0,m1,m2,e2,e3.1,e3.2,e4,e5.1,e5.2,c6,e7,Ed,Ee,Ch,Ci,Cj]<;>(repeat' apply A7)<;>first|rfl|exact⟨_,rfl⟩|exact⟨_,_,rfl⟩|simp [AP,A8]
  ·rw [if_neg e7]at h
   obtain rfl:=Option.some.inj h
   simp (maxDischargeDepth:=9) only [↓AQ,AR,Ah,↓reduceIte,bj,bk,bl,bm,bo,bp,br,bt,bw,bx,bO,b0,b3,b4,b5,b6,b7,m0,m1,m2,e2,e3.1,e3.2,e4,e5.1,e5.2,c6,e7,Ed,Ee,Ch,Ci,Cj]<;>(repeat' apply A7)<;>first|rfl|exact⟨_,rfl⟩|exact⟨_,_,rfl⟩|simp [AP,A8]
 ·rw [if_neg e2]at h
  obtain rfl:=Option.some.inj h
  simp (maxDischargeDepth:=9) only [↓AQ,AR,Ah,↓reduceIte,bj,bk,bl,bm,bo,bp,br,bt,bw,bx,bO,b0,b3,b4,b5,b6,b7,m0,m1,m2,e2,Ed,Ee,Ch,Ci,Cj]<;>(repeat' apply A7)<;>first|rfl|exact⟨_,rfl⟩|exact⟨_,_,rfl⟩|simp [AP,A8]
theorem U8(a:Am)(left:Int){r:Int}(h:O9 a left=some r):Y.call 58 [bh 121 (AP (fun x=>bh 159 (Au .i64 .i64 x)) a),bd .i64 left] []=some (bd .i64 r,[]):=by
 refine c58 ?_ rfl;unfold k58;unfold O9 at h;by_cases e1:(ca.wrap (left-(a.length:Int)))<0
 ·rw [if_pos e1]at h
  obtain rfl:=Option.some.inj h
  simp (maxDischargeDepth:=9) only [↓AQ,AR,Ah,↓reduceIte,bj,bk,bl,bm,bo,bp,br,bt,bw,bx,bO,b0,b3,b4,b5,b6,b7,e1]<;>(repeat' apply A7)<;>first|rfl|exact⟨_,rfl⟩|exact⟨_,_,rfl⟩|simp [AP,A8]
 ·rw [if_neg e1]at h;obtain⟨AY,hl3,h⟩:=Ar h;try dsimp only at h
  simp (maxDischargeDepth:=9) only [↓AQ,AR,Ah,↓reduceIte,bj,bk,bl,bm,bo,bp,br,bt,bw,bx,bO,b0,b3,b4,b5,b6,b7,e1];refine BF (Ra a hl3 ?_) ?_
  ·simp (maxDischargeDepth:=9) only [↓AQ,AR,Ah,↓reduceIte,bj,bk,bl,bm,bo,bp,br,bt,bw,bx,bO,b0,b3,b4,b5,b6,b7,e1,Ed]<;>(repeat' apply A7)<;>first|rfl|exact⟨_,rfl⟩|exact⟨_,_,rfl⟩|simp [AP,A8]
  ·intro ex3 s3 hX3;rcases AY with q1000_|q1000_
   ·unfold Ee at hX3;dsimp only at hX3 h;obtain⟨rfl,n3_0⟩:=hX3
    obtain rfl:=Option.some.inj h
    simp (maxDischargeDepth:=9) only [↓AQ,AR,Ah,↓reduceIte,bj,bk,bl,bm,bo,bp,br,bt,bw,bx,bO,b0,b3,b4,b5,b6,b7,e1,n3_0]<;>(repeat' apply A7)<;>first|rfl|exact⟨_,rfl⟩|exact⟨_,_,rfl⟩|simp [AP,A8]
   ·unfold Ee at hX3;dsimp only at hX3 h;obtain⟨rfl,n3_0⟩:=hX3
    obtain rfl:=Option.some.inj h
    simp (maxDischargeDepth:=9) only [↓AQ,AR,Ah,↓reduceIte,bj,bk,bl,bm,bo,bp,br,bt,bw,bx,bO,b0,b3,b4,b5,b6,b7,e1,n3_0]<;>(repeat' apply A7)<;>first|rfl|exact⟨_,rfl⟩|exact⟨_,_,rfl⟩|simp [AP,A8]
def fE(l:Am):Zv:=l.map fun x=>x.map Prod.fst
theorem Rb(a:Am)(ha:a.length<4611686018427387904)(hx: ∀x∈a,x.length<9223372036854775808): ∀(n i:Nat) (left:Int),n=a.length-i→i≤a.length→0≤left∧left≤1048576→
  G6 a (left,(i:Int))=some (if zx left (fE (a.drop i))= -1 then .inl ()else .inr (zx left (fE (a.drop i)))):=by
 intro n
 induction n with
 |zero=>
  intro i left hn hi hl;have e:i=a.length:=by omega
  subst e;unfold G6;rw [Rt (r:=b8 left)]
  ·rw [List.drop_length,show fE []=[]from rfl];unfold zx;rw [if_neg (by omega)]
  ·simp only [FU];rw [if_neg (Ap _)]
 |succ n ih=>
  intro i left hn hi hl;have hlt:i<a.length:=by omega
  have hm:a[i]∈a:=JQ hlt;have hxm:=hx _ hm
  have step:FU a left i=if H9 left a[i].length<0 then some (b8 (cb ()))else some (cb (H9 left a[i].length,((i+1:Nat):Int))):=by
   unfold FU;rw [if_pos (Bc hlt),Br (J6 hlt),Br (by rw [J5 _ _ hlt];exact hxm),Br hl,J5 _ _ hlt,Kb i (by omega)]
  rw [List.drop_eq_getElem_cons hlt,show fE (a[i]::a.drop (i+1))=a[i].map Prod.fst::fE (a.drop (i+1))from rfl];unfold zx;rw [RJ];by_cases hq:left-(a[i].length:Int)<0
  ·rw [if_pos hq];unfold G6;rw [Rt (r:=cb ())]
   ·rfl
   ·rw [step];unfold H9;rw [if_pos hq];rfl
  ·rw [if_neg hq];have e2:H9 left a[i].length=left-a[i].length:=by unfold H9;rw [if_neg hq]
   have:=ih (i+1) (left-a[i].length) (by omega) (by omega) (by omega)
   unfold G6 at this ⊢;rw [XI (s':=(left-(a[i].length:Int),((i+1:Nat):Int))),this]
   ·rw [step,e2,if_neg hq]
def Oa(l:Am):Prop:=l.length<9223372036854775808∧ ∀x∈l,x.length<9223372036854775808
instance (l:Am):Decidable (Oa l):=by unfold Oa;infer_instance
theorem Xd(a:Am)(left:Int)(hw:Oa a)(hl:0≤left∧left≤1048576):O9 a left=some (H9 left (a.length+Ky (fE a))):=by
 have ht:=JX (fE a);have ha:=hw.1;unfold O9;rw [Lb _ (by omega)]
 by_cases hq:left-(a.length:Int)<0
 ·rw [if_pos hq];unfold H9;rw [if_pos (by omega)]
 ·rw [if_neg hq];have h0:=Rb a (by omega) hw.2 a.length 0 (left-a.length) (by omega) (by omega) (by omega)
  simp only [OJ,List.drop_zero]at h0;rw [h0,Ce,A1Z _ _ (by omega)]
  have e:H9 (left-a.length) (Ky (fE a))=H9 left (a.length+Ky (fE a)):=by unfold H9;rw [show left- ↑a.length-Ky (fE a)=left-(↑a.length+Ky (fE a)) by omega]
  rw [e];by_cases h1:H9 left (a.length+Ky (fE a))= -1
  ·rw [if_pos h1,h1]
  ·rw [if_neg h1]
theorem Xe(a:Am)(left:Int)(h0:Oa a)(h1:0≤left∧left≤1048576):Y.call 58 [bh 121 (AP (fun x=>bh 159 (Au .i64 .i64 x)) a),bd .i64 left] []=some (bd .i64 (H9 left (a.length+Ky (fE a))),[]):=U8 a left (Xd a left h0 h1)
def LK(Aw:Am)(CR:AL)(Ay:AL)(left:Int):Option (Int):= ck (Oa Aw)<| ck (0≤left∧left≤1048576)<| if(H9 left (Aw.length+Ky (fE Aw)))<0 then some (-1) else ck (CR.length<9223372036854775808)<| ck (0≤(H9 left (Aw.length+Ky (fE Aw)))∧(H9 left (Aw.length+Ky (fE Aw)))≤1048576)<| if(H9 (H9 left (Aw.length+Ky (fE Aw))) CR.length)<0 then some (-1) else ck (Ay.length<9223372036854775808)<| ck (0≤(H9 (H9 left (Aw.length+Ky (fE Aw))) CR.length)∧(H9 (H9 left (Aw.length+Ky (fE Aw))) CR.length)≤1048576)<| if(H9 (H9 (H9 left (Aw.length+Ky (fE Aw))) CR.length) Ay.length)<0 then some (-1) else some (H9 (H9 (H9 left (Aw.length+Ky (fE Aw))) CR.length) Ay.length)
def k21:SC:= .seq (.ops [oX 2 (.box 41 (tK 0)) 0,oX 4 (.assign (iK 0)) 3]) (.seq (.ops [oF 5 41 2 0,oL 6 39 5 39,oM 7 1 3,oC 8 58 [(tK 6),(tK 7)] [39,3] 3,oA 1 8 3]) (.seq (.seq (.ops [oM 9 1 3,oB 10 .lss 3 (tK 9) (iK 0) 3 4]) (.cond (tK 10) (.seq (.ops [oX 4 Ot 3]) .ret) .skip)) (.seq (.ops [oF 11 41 2 1,oL 12 26 11 26,oM 13 1 3,oC 14 59 [(tK 12),(tK 13)] [26,3] 3,oA 1 14 3]) (.seq (.seq (.ops [oM 15 1 3,oB 16 .lss 3 (tK 15) (iK 0) 3 4]) (.cond (tK 16) (.seq (.ops [oX 4 Ot 3]) .ret) .skip)) (.seq (.ops [oF 17 41 2 2,oL 18 26 17 26,oM 19 1 3,oC 20 59 [(tK 18),(tK 19)] [26,3] 3,oA 1 20 3]) (.seq (.seq (.ops [oM 21 1 3,oB 22 .lss 3 (tK 21) (iK 0) 3 4]) (.cond (tK 22) (.seq (.ops [oX 4 Ot 3]) .ret) .skip)) (.seq (.ops [oM 23 1 3,oA 4 23 3]) .ret)))))))
theorem A20:Try.f21.body.map (Ba lends)=some k21:=by kernel_rfl
theorem AEB:Bz Try.f21 2=true:=by kernel_rfl
theorem c21{a l:List D}{r:D×List D}(h:C8 Y.env k21 (Fa Ac l.length [cc 4] r) (entry a l))(ha:a.length=2):Y.call 21 a l=some r:=
 Aa (Y:=Y) rfl Try.func21 (ha▸AEB) A20 h
theorem Qc(Aw:Am)(CR:AL)(Ay:AL)(left:Int){r:Int}(h:LK Aw CR Ay left=some r):Y.call 21 [ce [bh 121 (AP (fun x=>bh 159 (Au .i64 .i64 x)) Aw),bh 3 (AP (bd .i64) CR),bh 3 (AP (bd .i64) Ay)],bd .i64 left] []=some (bd .i64 r,[]):=by
 refine c21 ?_ rfl;unfold k21;unfold LK at h;obtain⟨e1,h⟩:=Bw h;obtain⟨e2,h⟩:=Bw h;have c3:=Xe Aw left e1 e2;by_cases e4:(H9 left (Aw.length+Ky (fE Aw)))<0
 ·rw [if_pos e4]at h
  obtain rfl:=Option.some.inj h
  simp (maxDischargeDepth:=9) only [↓AQ,AR,Ah,↓reduceIte,bj,bk,bl,bm,bo,bp,br,bt,bw,bx,bO,b0,b3,b4,b5,b6,b7,e1,e2.1,e2.2,c3,e4]<;>(repeat' apply A7)<;>first|rfl|exact⟨_,rfl⟩|exact⟨_,_,rfl⟩|simp [AP,A8]
 ·rw [if_neg e4]at h;obtain⟨e5,h⟩:=Bw h;obtain⟨e6,h⟩:=Bw h;have c7:=RH CR (H9 left (Aw.length+Ky (fE Aw))) e5 e6;by_cases e8:(H9 (H9 left (Aw.length+Ky (fE Aw))) CR.length)<0
  ·rw [if_pos e8]at h
   obtain rfl:=Option.some.inj h
   simp (maxDischargeDepth:=9) only [↓AQ,AR,Ah,↓reduceIte,bj,bk,bl,bm,bo,bp,br,bt,bw,bx,bO,b0,b3,b4,b5,b6,b7,e1,e2.1,e2.2,c3,e4,e5,e6.1,e6.2,c7,e8]<;>(repeat' apply A7)<;>first|rfl|exact⟨_,rfl⟩|exact⟨_,_,rfl⟩|simp [AP,A8]
  ·rw [if_neg e8]at h;obtain⟨e9,h⟩:=Bw h;obtain⟨e10,h⟩:=Bw h;have c11:=RH Ay (H9 (H9 left (Aw.length+Ky (fE Aw))) CR.length) e9 e10;by_cases e12:(H9 (H9 (H9 left (Aw.length+Ky (fE Aw))) CR.length) Ay.length)<0
   ·rw [if_pos e12]at h
    obtain rfl:=Option.some.inj h
    simp (maxDischargeDepth:=9) only [↓AQ,AR,Ah,↓reduceIte,bj,bk,bl,bm,bo,bp,br,bt,bw,bx,bO,b0,b3,b4,b5,b6,b7,e1,e2.1,e2.2,c3,e4,e5,e6.1,e6.2,c7,e8,e9,e10.1,e10.2,c11,e12]<;>(repeat' apply A7)<;>first|rfl|exact⟨_,rfl⟩|exact⟨_,_,rfl⟩|simp [AP,A8]
   ·rw [if_neg e12]at h
    obtain rfl:=Option.some.inj h
    simp (maxDischargeDepth:=9) only [↓AQ,AR,Ah,↓reduceIte,bj,bk,bl,bm,bo,bp,br,bt,bw,bx,bO,b0,b3,b4,b5,b6,b7,e1,e2.1,e2.2,c3,e4,e5,e6.1,e6.2,c7,e8,e9,e10.1,e10.2,c11,e12]<;>(repeat' apply A7)<;>first|rfl|exact⟨_,rfl⟩|exact⟨_,_,rfl⟩|simp [AP,A8]
def oz(left:Int)(a:Am)(b c:AL):Int:=
 if H9 left (a.length+Ky (fE a))<0 then-1 else if H9 (H9 left (a.length+Ky (fE a))) b.length<0 then-1 else H9 (H9 (H9 left (a.length+Ky (fE a))) b.length) c.length
theorem U9(a:Am)(b c:AL)(left:Int)(ha:Oa a)(hb:b.length<9223372036854775808)(hc:c.length<9223372036854775808)(hl:0≤left∧left≤1048576):LK a b c left=some (oz left a b c):=by
 have ht:=JX (fE a);unfold LK oz;rw [Br ha,Br hl];by_cases h1:H9 left (a.length+Ky (fE a))<0
 ·rw [if_pos h1,if_pos h1]
 ·rw [if_neg h1,if_neg h1]
  have b1:0≤H9 left (a.length+Ky (fE a))∧H9 left (a.length+Ky (fE a))≤1048576:=by
   rcases KP left (a.length+Ky (fE a))with c|⟨c,c'⟩<;>omega
  rw [Br hb,Br b1];by_cases h2:H9 (H9 left (a.length+Ky (fE a))) b.length<0
  ·rw [if_pos h2,if_pos h2]
  ·rw [if_neg h2,if_neg h2]
   have b2:0≤H9 (H9 left (a.length+Ky (fE a))) b.length∧H9 (H9 left (a.length+Ky (fE a))) b.length≤1048576:=by
    rcases KP (H9 left (a.length+Ky (fE a))) b.length with c|⟨c,c'⟩<;>omega
   rw [Br hc,Br b2];by_cases h3:H9 (H9 (H9 left (a.length+Ky (fE a))) b.length) c.length<0
   ·rw [if_pos h3];rcases KP (H9 (H9 left (a.length+Ky (fE a))) b.length) c.length with d|⟨d,d'⟩
    ·rw [d]
    ·omega
   ·rw [if_neg h3]
theorem UA(Aw:Am)(CR:AL)(Ay:AL)(left:Int)(h0:Oa Aw)(h1:CR.length<9223372036854775808)(h2:Ay.length<9223372036854775808)(h3:0≤left∧left≤1048576):Y.call 21 [ce [bh 121 (AP (fun x=>bh 159 (Au .i64 .i64 x)) Aw),bh 3 (AP (bd .i64) CR),bh 3 (AP (bd .i64) Ay)],bd .i64 left] []=some (bd .i64 (oz left Aw CR Ay),[]):=Qc Aw CR Ay left (U9 Aw CR Ay left h0 h1 h2 h3)
theorem rG{a:Am}{b c:AL}{left:Int}(hl:left≤1048576)(h: ¬oz left a b c<0):a.length+Ky (fE a)+b.length+c.length≤1048576∧DL a∧oz left a b c≤left:=by
 have ht:=JX (fE a)
 have key:(a.length:Int)+Ky (fE a)+b.length+c.length≤1048576∧oz left a b c≤left:=by
  unfold oz at h ⊢;rcases KP left (a.length+Ky (fE a))with d|⟨d,d'⟩
  ·rw [d]at h;simp at h
  ·rw [d,if_neg (by omega)]at h
   rw [d,if_neg (by omega)]
   rcases KP (left-(a.length+Ky (fE a))) b.length with e|⟨e,e'⟩
   ·rw [e]at h;simp at h
   ·rw [e,if_neg (by omega)]at h
    rw [e,if_neg (by omega)]
    rcases KP (left-(a.length+Ky (fE a))-b.length) c.length with g|⟨g,g'⟩
    ·rw [g]at h;simp at h
    ·rw [g];omega
 refine⟨key.1,⟨by omega,fun x hx=> ?_⟩,key.2⟩
 have:x.map Prod.fst∈fE a:=JH.2 ⟨x,hx,rfl⟩
 have:=qi this
 rw [RJ]at this;omega
theorem nI{l:Am}(h:bn l):Oa l:=⟨Nat.lt_of_le_of_lt h.1 (by decide),fun x hx=>Nat.lt_of_le_of_lt (h.2 x hx).1 (by decide)⟩
def E9(list:AL)(low:Int)(high:Int)(Bj:Int):Option ((Int)⊕(Unit⊕Unit)):= if Bj<(list.length:Int)then ck (0≤Bj∧Bj.toNat<list.length)<| if(Iq (list.getD Bj.toNat be) low high)=true then if 0<Bj then ck (0≤ca.wrap (Bj-1)∧(ca.wrap (Bj-1)).toNat<list.length)<| if(list.getD Bj.toNat be)≤(list.getD ((ca.wrap (Bj-1)).toNat) be)then some (b8 (cb ())) else some (cb (ca.wrap (Bj+1))) else some (cb (ca.wrap (Bj+1))) else some (b8 (cb ())) else some (b8 (b8 ()))
def Ia(list:AL)(low:Int)(high:Int)(v:Int):Option (Unit⊕Unit):=Im (fun v=>E9 list low high v) v
def KE(list:AL)(low:Int)(high:Int):Option (Bool):=
 (Ia list low high 0).bind fun AY=>
 match AY with
 | .inl q1000_=>
  some false
 | .inr q1000_=>
  some true
def UB:SC:= .seq (.ops [oB 12 .lss 3 (tK 11) (tK 10) 3 0]) (.seq (.cond (tK 12) .skip (.exit 0)) (.seq (.block 1 (.seq (.ops [oM 13 11 3,oI 14 26 9 11,oL 15 3 14 3,oA 7 13 3,oA 8 15 3]) (.seq (.ops [oM 16 8 3,oM 17 1 3,oM 18 2 3,oC 19 97 [(tK 16),(tK 17),(tK 18)] [3,3,3] 4,oX 20 (.unOp .not 4 (tK 19)) 4,oM 21 20 4,⟨(some 22),(.move (tK 7)),3,(some (some 21,false))⟩,⟨(some 23),(.binOp .gtr 3 (tK 22) (iK 0) 3),4,(some (some 21,false))⟩,⟨(some 24),(.move (tK 23)),4,(some (some 21,false))⟩,⟨(some 25),(.move (tK 0)),26,(some (some 24,true))⟩,⟨(some 26),(.move (tK 7)),3,(some (some 24,true))⟩,⟨(some 27),(.binOp .sub 3 (tK 26) (iK 1) 3),3,(some (some 24,true))⟩,⟨(some 28),(.indexAddr 26 (tK 25) (tK 27)),0,(some (some 24,true))⟩,⟨(some 29),(.load 3 (tK 28)),3,(some (some 24,true))⟩,⟨(some 30),(.move (tK 8)),3,(some (some 24,true))⟩,⟨(some 31),(.binOp .geq 3 (tK 29) (tK 30) 3),4,(some (some 24,true))⟩,⟨(some 32),(.pick (tK 24) (tK 31) Ou),4,(some (some 21,false))⟩,oX 33 (.pick (tK 21) Fw (tK 32)) 4]) (.cond (tK 33) (.seq (.ops [oX 6 CV 4]) .ret) .skip)))) (.ops [oB 34 .add 3 (tK 11) (iK 1) 3 3,oM 11 34 3])))
def fC:SC:= .loop UB
def A21:SC:= .seq (.ops [oX 6 CV 4]) (.seq (.seq (.ops [oM 9 0 26,oN 10 9 26,oX 11 (.move (iK 0)) 3]) (.block 0 fC)) (.seq (.ops [oX 6 (.assign Fw) 4]) .ret))
theorem rH:Try.f153.body.map (Ba lends)=some A21:=by kernel_rfl
theorem A8w:Bz Try.f153 3=true:=by kernel_rfl
theorem AEC{a l:List D}{r:D×List D}(h:C8 Y.env A21 (Fa Ac l.length [cc 6] r) (entry a l))(ha:a.length=3):Y.call 153 a l=some r:=
 Aa (Y:=Y) rfl Try.func153 (ha▸A8w) rH h
def CJ(list:AL)(low:Int)(high:Int)(Bj:Int)(s:St):Prop:=s.v 0=bh 3 (AP (bd .i64) list)∧s.v 1=bd .i64 low∧s.v 2=bd .i64 high∧s.v 9=bh 3 (AP (bd .i64) list)∧s.v 10=bd .i64 (list.length:Int)∧s.v 11=bd .i64 Bj
def CK(list:AL)(low:Int)(high:Int)(r:Unit⊕Unit)(ex:Ex)(s:St):Prop:=match r with
 | .inl q=>ex= .ret∧s.v 6=b9 false
 | .inr q=>ex= .exit 0
theorem Ow(list:AL)(low:Int)(high:Int){v:Int}{s:St}{r:Unit⊕Unit}(h:Ia list low high v=some r)(hM:CJ list low high v s):C8 Y.env fC (CK list low high r) s:=by
 unfold Ia at h;refine BU (c:=UB) (fun v=>E9 list low high v) (fun v s=>CJ list low high v s) (CK list low high) ?_ h hM;clear h hM s v r;intro Bj s o hM h;unfold E9 at h;unfold CJ at hM;obtain⟨m0,m1,m2,m3,m4,m5⟩:=hM;unfold UB;by_cases e1:Bj<(list.length:Int)
 ·rw [if_pos e1]at h;obtain⟨e2,h⟩:=Bw h;have c3:=Ii (list.getD Bj.toNat be) low high;by_cases e4:(Iq (list.getD Bj.toNat be) low high)=true
  ·rw [if_pos e4]at h;by_cases e5:0<Bj
   ·rw [if_pos e5]at h;obtain⟨e6,h⟩:=Bw h;by_cases e7:(list.getD Bj.toNat be)≤(list.getD ((ca.wrap (Bj-1)).toNat) be)
    ·rw [if_pos e7]at h
     obtain rfl:=Option.some.inj h
     simp (maxDischargeDepth:=9) only [↓AQ,AR,Ah,↓reduceIte,bj,bk,bl,bm,bo,bp,br,bt,bw,bx,bO,b0,b3,b4,b5,b6,b7,m0,m1,m2,m3,m4,m5,e1,e2.1,e2.2,c3,e4,e5,e6.1,e6.2,e7,CJ,CK,Ch,Ci,Cj]<;>(repeat' apply A7)<;>first|rfl|exact⟨_,rfl⟩|exact⟨_,_,rfl⟩|simp [AP,A8]
    ·rw [if_neg e7]at h
     obtain rfl:=Option.some.inj h
     simp (maxDischargeDepth:=9) only [↓AQ,AR,Ah,↓reduceIte,bj,bk,bl,bm,bo,bp,br,bt,bw,bx,bO,b0,b3,b4,b5,b6,b7,m0,m1,m2,m3,m4,m5,e1,e2.1,e2.2,c3,e4,e5,e6.1,e6.2,e7,CJ,CK,Ch,Ci,Cj]<;>(repeat' apply A7)<;>first|rfl|exact⟨_,rfl⟩|exact⟨_,_,rfl⟩|simp [AP,A8]
   ·rw [if_neg e5]at h
    obtain rfl:=Option.some.inj h
    simp (maxDischargeDepth:=9) only [↓AQ,AR,Ah,↓reduceIte,bj,bk,bl,bm,bo,bp,br,bt,bw,bx,bO,b0,b3,b4,b5,b6,b7,m0,m1,m2,m3,m4,m5,e1,e2.1,e2.2,c3,e4,e5,CJ,CK,Ch,Ci,Cj]<;>(repeat' apply A7)<;>first|rfl|exact⟨_,rfl⟩|exact⟨_,_,rfl⟩|simp [AP,A8]
  ·rw [if_neg e4]at h;have e4f:(Iq (list.getD Bj.toNat be) low high)=false:=KR.mpr e4
   obtain rfl:=Option.some.inj h
   simp (maxDischargeDepth:=9) only [↓AQ,AR,Ah,↓reduceIte,bj,bk,bl,bm,bo,bp,br,bt,bw,bx,bO,b0,b3,b4,b5,b6,b7,m0,m1,m2,m3,m4,m5,e1,e2.1,e2.2,c3,e4f,CJ,CK,Ch,Ci,Cj]<;>(repeat' apply A7)<;>first|rfl|exact⟨_,rfl⟩|exact⟨_,_,rfl⟩|simp [AP,A8]
 ·rw [if_neg e1]at h
  obtain rfl:=Option.some.inj h
  simp (maxDischargeDepth:=9) only [↓AQ,AR,Ah,↓reduceIte,bj,bk,bl,bm,bo,bp,br,bt,bw,bx,bO,b0,b3,b4,b5,b6,b7,m0,m1,m2,m3,m4,m5,e1,CJ,CK,Ch,Ci,Cj]<;>(repeat' apply A7)<;>first|rfl|exact⟨_,rfl⟩|exact⟨_,_,rfl⟩|simp [AP,A8]
theorem Pt(list:AL)(low:Int)(high:Int){r:Bool}(h:KE list low high=some r):Y.call 153 [bh 3 (AP (bd .i64) list),bd .i64 low,bd .i64 high] []=some (b9 r,[]):=by
 refine AEC ?_ rfl;unfold A21;unfold KE at h;obtain⟨AY,hl2,h⟩:=Ar h;try dsimp only at h
 simp (maxDischargeDepth:=9) only [↓AQ,AR,Ah,↓reduceIte,bj,bk,bl,bm,bo,bp,br,bt,bw,bx,bO,b0,b3,b4,b5,b6,b7];refine BF (Ow list low high hl2 ?_) ?_
 ·simp (maxDischargeDepth:=9) only [↓AQ,AR,Ah,↓reduceIte,bj,bk,bl,bm,bo,bp,br,bt,bw,bx,bO,b0,b3,b4,b5,b6,b7,CJ]<;>(repeat' apply A7)<;>first|rfl|exact⟨_,rfl⟩|exact⟨_,_,rfl⟩|simp [AP,A8]
 ·intro ex2 s2 hX2;rcases AY with q1000_|q1000_
  ·unfold CK at hX2;dsimp only at hX2 h;obtain⟨rfl,n2_0⟩:=hX2
   obtain rfl:=Option.some.inj h
   simp (maxDischargeDepth:=9) only [↓AQ,AR,Ah,↓reduceIte,bj,bk,bl,bm,bo,bp,br,bt,bw,bx,bO,b0,b3,b4,b5,b6,b7,n2_0]<;>(repeat' apply A7)<;>first|rfl|exact⟨_,rfl⟩|exact⟨_,_,rfl⟩|simp [AP,A8]
  ·unfold CK at hX2;dsimp only at hX2 h
   obtain rfl:=hX2
   obtain rfl:=Option.some.inj h
   simp (maxDischargeDepth:=9) only [↓AQ,AR,Ah,↓reduceIte,bj,bk,bl,bm,bo,bp,br,bt,bw,bx,bO,b0,b3,b4,b5,b6,b7]<;>(repeat' apply A7)<;>first|rfl|exact⟨_,rfl⟩|exact⟨_,_,rfl⟩|simp [AP,A8]
def UC(l:AL)(lo hi:Int):Bool:=(an l.length).all fun i=>Iq (l.getD i be) lo hi&&(decide (i=0)||decide (l.getD (i-1) be<l.getD i be))
theorem Rc(l:AL)(lo hi:Int)(h:l.length<1099511627776):KE l lo hi=some (UC l lo hi):=by
 have key:=IZ (fun v=>E9 l lo hi v) (fun i=>(i:Int)) l.length (fun i=>Iq (l.getD i be) lo hi&&(decide (i=0)||decide (l.getD (i-1) be<l.getD i be))) (.inl ()) (.inr ()) ?_ ?_
 ·rw [OJ]at key;unfold KE Ia UC;rw [key]
  cases (an l.length).all fun i=>Iq (l.getD i be) lo hi&&(decide (i=0)||decide (l.getD (i-1) be<l.getD i be))<;>rfl
 ·intro i hi';simp only [E9,K4];rw [if_pos (Bc hi'),Br (by omega),Kb i (by omega)]
  cases hr:Iq (l.getD i be) lo hi with
  |false=>simp
  |true=>
   by_cases h0:i=0
   ·subst h0;rw [if_pos rfl,if_neg (by omega)]
    simp
   ·rw [if_pos rfl,if_pos (by omega),Lb _ (by omega),Br (by omega),show((i:Int)-1).toNat=i-1 by omega,decide_eq_false h0]
    by_cases hlt:l.getD (i-1) be<l.getD i be
    ·rw [if_neg (by omega),decide_eq_true hlt];rfl
    ·rw [if_pos (by omega),decide_eq_false hlt];rfl
 ·simp only [E9];rw [if_neg (Ap _)]
theorem Re(list:AL)(low:Int)(high:Int)(h0:list.length<1099511627776):Y.call 153 [bh 3 (AP (bd .i64) list),bd .i64 low,bd .i64 high] []=some (b9 (UC list low high),[]):=Pt list low high (Rc list low high h0)
theorem dB{l:AL}{lo hi:Int}(h:UC l lo hi=true):l.Pairwise (fun a b=>a<b)∧ ∀x∈l,Iq x lo hi=true:=by
 have h0:=GV.1 h
 have step: ∀i,i+1<l.length→l.getD i be<l.getD (i+1) be:=fun i hi=>by
  have:=h0 (i+1) hi
  rw [FM]at this;simpa using this.2
 have dw: ∀(d i:Nat),i+d+1<l.length→l.getD i be<l.getD (i+d+1) be:=by
  intro d
  induction d with
  |zero=>intro i hi;exact step i hi
  |succ d ih=>
   intro i hi;have h1:=ih i (by omega)
   have h2:=step (i+d+1) (by omega)
   rw [show i+(d+1)+1=i+d+1+1 by omega]
   omega
 refine⟨YB.2 fun i j hi hj hij=> ?_,fun x hx=> ?_⟩
 ·have:=dw (j-i-1) i (by omega)
  rw [show i+(j-i-1)+1=j by omega,Az _ _ hi,Az _ _ hj]at this
  exact this
 ·obtain⟨i,hi,rfl⟩:=aB hx;have:=h0 i hi
  rw [FM,Az _ _ hi]at this;exact this.1
theorem nJ{l:AL}{lo hi:Int}(h1:l.Pairwise (fun a b=>a<b))(h2: ∀x∈l,Iq x lo hi=true):UC l lo hi=true:=by
 refine GV.2 fun i hi=> ?_;rw [FM]
 refine⟨by rw [Az _ _ hi];exact h2 _ (JQ hi), ?_⟩
 by_cases h0:i=0
 ·rw [decide_eq_true h0];rfl
 ·have:=YB.1 h1 (i-1) i (by omega) hi (by omega)
  rw [NE]
  right
  rw [decide_eq_true_eq,Az _ _ hi,Az _ _ (by omega:i-1<l.length)]
  exact this
def Ox(ids:AL)(n:Int):Bool:=decide (ids.length=0)||(decide ((ids.length:Int)=n)&&(decide ids.Nodup&&EJ ids 1 999999))
theorem dC(ids:AL)(lo hi:Int):UC (Ij ids) lo hi=(decide ids.Nodup&&EJ ids lo hi):=by
 rw [QH,FM,decide_eq_true_eq];have hp:=JY ids;unfold EJ;rw [Ir]
 constructor
 ·intro h;obtain⟨h1,h2⟩:=dB h
  refine⟨hp.nodup_iff.1 (h1.imp fun h=>by omega),fun x hx=>h2 x (hp.mem_iff.2 hx)⟩
 ·rintro⟨h1,h2⟩
  refine nJ ?_ fun x hx=>h2 x (hp.mem_iff.1 hx);have hn:(Ij ids).Pairwise (fun a b=>a≠b):=hp.nodup_iff.2 h1
  exact((MU ids).and hn).imp fun h=>by omega
theorem Hl(xs:AL)(h:xs.length<1099511627776):Y.call 121 [.sl 3 (AP (bd .i64) xs)] []=some (.own 3 (AP (bd .i64) xs),[]):=by
 refine jP (AP (bd .i64) xs) (by rw [JW];exact h) (WK _ _ (fun x=>rfl)) (Ol _ _ (fun x=>by first|exact hoI .. |exact A4L .. |exact hoB .. |exact hoS ..)) ?_
 simp (maxDischargeDepth:=9) only [↓AQ,AR,Ah,↓reduceIte,bj,bk,bl,bm,bo,bp,br,bt,bw,bx,bO,b0,b3,b4,b5,b6,b7,Option.isSome_some]
def Rx(ids:AL)(nodes:Int):Option (Bool):= if(ids.length:Int)=0 then some true else ck (ids.length<1099511627776)<| ck (ids.length<4611686018427387904)<| if(ids.length:Int)=nodes then ck ((Cs ids).length<1099511627776)<| some (UC (Cs ids) (1:Int) (999999:Int)) else some false
def A22:SC:= .seq (.ops [oX 4 CV 4]) (.seq (.seq (.ops [oM 6 0 26,oN 7 6 26,oB 8 .eql 3 (tK 7) (iK 0) 3 4]) (.cond (tK 8) (.seq (.ops [oX 4 (.assign Fw) 4]) .ret) .skip)) (.seq (.ops [oM 9 0 26,oC 10 121 [(tK 9)] [26] 26,oA 5 10 26]) (.seq (.ops [oM 11 5 26,oC 12 152 [(tK 11)] [26] 0]) (.seq (.ops [oM 13 0 26,oN 14 13 26,oM 15 1 3,oB 16 .eql 3 (tK 14) (tK 15) 3 4,oM 17 16 4,⟨(some 18),(.move (tK 5)),26,(some (some 17,true))⟩,⟨(some 19),(.call ⟨(.value (.func 153)), #[(tK 18),(iK 1),(iK 999999)], #[26,3,3]⟩),4,(some (some 17,true))⟩,oX 20 (.pick (tK 17) (tK 19) Ou) 4,oA 4 20 4]) .ret))))
theorem rJ:Try.f112.body.map (Ba lends)=some A22:=by kernel_rfl
theorem A8x:Bz Try.f112 2=true:=by kernel_rfl
theorem AED{a l:List D}{r:D×List D}(h:C8 Y.env A22 (Fa Ac l.length [cc 4] r) (entry a l))(ha:a.length=2):Y.call 112 a l=some r:=
 Aa (Y:=Y) rfl Try.func112 (ha▸A8x) rJ h
theorem Xf(ids:AL)(nodes:Int){r:Bool}(h:Rx ids nodes=some r):Y.call 112 [bh 3 (AP (bd .i64) ids),bd .i64 nodes] []=some (b9 r,[]):=by
 refine AED ?_ rfl;unfold A22;unfold Rx at h;by_cases e1:(ids.length:Int)=0
 ·rw [if_pos e1]at h
  obtain rfl:=Option.some.inj h
  simp (maxDischargeDepth:=9) only [↓AQ,AR,Ah,↓reduceIte,bj,bk,bl,bm,bo,bp,br,bt,bw,bx,bO,b0,b3,b4,b5,b6,b7,decide_eq_true e1]<;>(repeat' apply A7)<;>first|rfl|exact⟨_,rfl⟩|exact⟨_,_,rfl⟩|simp [AP,A8]
 ·rw [if_neg e1]at h;obtain⟨e2,h⟩:=Bw h;have c3:=Hl ids e2;obtain⟨e4,h⟩:=Bw h;have c5:=mg ids e4;by_cases e6:(ids.length:Int)=nodes
  ·rw [if_pos e6]at h;obtain⟨e7,h⟩:=Bw h;have c8:=Re (Cs ids) (1:Int) (999999:Int) e7
   obtain rfl:=Option.some.inj h
   simp (maxDischargeDepth:=9) only [↓AQ,AR,Ah,↓reduceIte,bj,bk,bl,bm,bo,bp,br,bt,bw,bx,bO,b0,b3,b4,b5,b6,b7,e1,e2,c3,e4,c5,decide_eq_true e6,e7,c8]<;>(repeat' apply A7)<;>first|rfl|exact⟨_,rfl⟩|exact⟨_,_,rfl⟩|simp [AP,A8]
  ·rw [if_neg e6]at h
   obtain rfl:=Option.some.inj h
   simp (maxDischargeDepth:=9) only [↓AQ,AR,Ah,↓reduceIte,bj,bk,bl,bm,bo,bp,br,bt,bw,bx,bO,b0,b3,b4,b5,b6,b7,e1,e2,c3,e4,c5,e6]<;>(repeat' apply A7)<;>first|rfl|exact⟨_,rfl⟩|exact⟨_,_,rfl⟩|simp [AP,A8]
def I8(ids:AL)(nodes:Int)(HV:Int):Option ((Int)⊕(Unit⊕Unit)):= if HV<(ids.length:Int)then ck (0≤HV∧HV.toNat<ids.length)<| if(Iq (ids.getD HV.toNat be) (1:Int) (999999:Int))=true then ck (0≤HV)<| ck (HV.toNat≤ids.length)<| ck (((ids.take HV.toNat).drop 0).length<1099511627776)<| if(((ids.take HV.toNat).drop 0).contains (ids.getD HV.toNat be))=true then some (b8 (cb ())) else some (cb (ca.wrap (HV+1))) else some (b8 (cb ())) else some (b8 (b8 ()))
def MX(ids:AL)(nodes:Int)(v:Int):Option (Unit⊕Unit):=Im (fun v=>I8 ids nodes v) v
def Ry(ids:AL)(nodes:Int):Option (Bool):=
 (MX ids nodes 0).bind fun AY=>
 match AY with
 | .inl q1000_=>
  some false
 | .inr q1000_=>
  if(ids.length:Int)=0 then
   some true
  else
   some (decide ((ids.length:Int)=nodes))
def UD:SC:= .seq (.ops [oB 10 .lss 3 (tK 9) (tK 8) 3 0]) (.seq (.cond (tK 10) .skip (.exit 0)) (.seq (.block 1 (.seq (.ops [oM 11 9 3,oI 12 26 7 9,oL 13 3 12 3,oA 5 11 3,oA 6 13 3]) (.seq (.ops [oM 14 6 3,oC 15 92 [(tK 14),(iK 1),(iK 999999)] [3,3,3] 4,oX 16 (.unOp .not 4 (tK 15)) 4,oM 17 16 4,⟨(some 18),(.move (tK 0)),26,(some (some 17,false))⟩,⟨(some 19),(.move (tK 5)),3,(some (some 17,false))⟩,⟨(some 20),(.slice 26 (tK 18) none (some (tK 19)) none),900001,(some (some 17,false))⟩,⟨(some 21),(.move (tK 6)),3,(some (some 17,false))⟩,⟨(some 22),(.call ⟨(.value (.func 89)), #[(tK 20),(tK 21)], #[26,3]⟩),4,(some (some 17,false))⟩,oX 23 (.pick (tK 17) Fw (tK 22)) 4]) (.cond (tK 23) (.seq (.ops [oX 4 CV 4]) .ret) .skip)))) (.ops [oB 24 .add 3 (tK 9) (iK 1) 3 3,oM 9 24 3])))
def fD:SC:= .loop UD
def A23:SC:= .seq (.ops [oX 4 CV 4]) (.seq (.seq (.ops [oM 7 0 26,oN 8 7 26,oX 9 (.move (iK 0)) 3]) (.block 0 fD)) (.seq (.ops [oM 25 0 26,oN 26 25 26,oB 27 .eql 3 (tK 26) (iK 0) 3 4,oM 28 27 4,⟨(some 29),(.move (tK 0)),26,(some (some 28,false))⟩,⟨(some 30),(.call ⟨(.builtin .len), #[(tK 29)], #[26]⟩),3,(some (some 28,false))⟩,⟨(some 31),(.move (tK 1)),3,(some (some 28,false))⟩,⟨(some 32),(.binOp .eql 3 (tK 30) (tK 31) 3),4,(some (some 28,false))⟩,oX 33 (.pick (tK 28) Fw (tK 32)) 4,oA 4 33 4]) .ret))
theorem rM:Try.f106.body.map (Ba lends)=some A23:=by kernel_rfl
theorem A8y:Bz Try.f106 2=true:=by kernel_rfl
theorem AEE{a l:List D}{r:D×List D}(h:C8 Y.env A23 (Fa Ac l.length [cc 4] r) (entry a l))(ha:a.length=2):Y.call 106 a l=some r:=
 Aa (Y:=Y) rfl Try.func106 (ha▸A8y) rM h
def Ev(ids:AL)(nodes:Int)(HV:Int)(s:St):Prop:=s.v 0=bh 3 (AP (bd .i64) ids)∧s.v 1=bd .i64 nodes∧s.v 7=bh 3 (AP (bd .i64) ids)∧s.v 8=bd .i64 (ids.length:Int)∧s.v 9=bd .i64 HV
def Ew(ids:AL)(nodes:Int)(r:Unit⊕Unit)(ex:Ex)(s:St):Prop:=match r with
 | .inl q=>ex= .ret∧s.v 4=b9 false
 | .inr q=>ex= .exit 0∧s.v 0=bh 3 (AP (bd .i64) ids)∧s.v 1=bd .i64 nodes
theorem VZ(ids:AL)(nodes:Int){v:Int}{s:St}{r:Unit⊕Unit}(h:MX ids nodes v=some r)(hM:Ev ids nodes v s):C8 Y.env fD (Ew ids nodes r) s:=by
 unfold MX at h;refine BU (c:=UD) (fun v=>I8 ids nodes v) (fun v s=>Ev ids nodes v s) (Ew ids nodes) ?_ h hM;clear h hM s v r;intro HV s o hM h;unfold I8 at h;unfold Ev at hM;obtain⟨m0,m1,m2,m3,m4⟩:=hM;unfold UD;by_cases e1:HV<(ids.length:Int)
 ·rw [if_pos e1]at h;obtain⟨e2,h⟩:=Bw h;have c3:=KQ (ids.getD HV.toNat be) (1:Int) (999999:Int);by_cases e4:(Iq (ids.getD HV.toNat be) (1:Int) (999999:Int))=true
  ·rw [if_pos e4]at h;obtain⟨e5,h⟩:=Bw h;obtain⟨e6,h⟩:=Bw h;obtain⟨e7,h⟩:=Bw h;have c8:=MW ((ids.take HV.toNat).drop 0) (ids.getD HV.toNat be) e7;by_cases e9:(((ids.take HV.toNat).drop 0).contains (ids.getD HV.toNat be))=true
   ·rw [if_pos e9]at h
    obtain rfl:=Option.some.inj h
    simp (maxDischargeDepth:=9) only [↓AQ,AR,Ah,↓reduceIte,bj,bk,bl,bm,bo,bp,br,bt,bw,bx,bO,b0,b3,b4,b5,b6,b7,m0,m1,m2,m3,m4,e1,e2.1,e2.2,c3,e4,e5,e6,e7,c8,e9,Ev,Ew,Ch,Ci,Cj]<;>(repeat' apply A7)<;>first|rfl|exact⟨_,rfl⟩|exact⟨_,_,rfl⟩|simp [AP,A8]
   ·rw [if_neg e9]at h;have e9f:(((ids.take HV.toNat).drop 0).contains (ids.getD HV.toNat be))=false:=KR.mpr e9
    obtain rfl:=Option.some.inj h
    simp (maxDischargeDepth:=9) only [↓AQ,AR,Ah,↓reduceIte,bj,bk,bl,bm,bo,bp,br,bt,bw,bx,bO,b0,b3,b4,b5,b6,b7,m0,m1,m2,m3,m4,e1,e2.1,e2.2,c3,e4,e5,e6,e7,c8,e9f,Ev,Ew,Ch,Ci,Cj]<;>(repeat' apply A7)<;>first|rfl|exact⟨_,rfl⟩|exact⟨_,_,rfl⟩|simp [AP,A8]
  ·rw [if_neg e4]at h;have e4f:(Iq (ids.getD HV.toNat be) (1:Int) (999999:Int))=false:=KR.mpr e4
   obtain rfl:=Option.some.inj h
   simp (maxDischargeDepth:=9) only [↓AQ,AR,Ah,↓reduceIte,bj,bk,bl,bm,bo,bp,br,bt,bw,bx,bO,b0,b3,b4,b5,b6,b7,m0,m1,m2,m3,m4,e1,e2.1,e2.2,c3,e4f,Ev,Ew,Ch,Ci,Cj]<;>(repeat' apply A7)<;>first|rfl|exact⟨_,rfl⟩|exact⟨_,_,rfl⟩|simp [AP,A8]
 ·rw [if_neg e1]at h
  obtain rfl:=Option.some.inj h
  simp (maxDischargeDepth:=9) only [↓AQ,AR,Ah,↓reduceIte,bj,bk,bl,bm,bo,bp,br,bt,bw,bx,bO,b0,b3,b4,b5,b6,b7,m0,m1,m2,m3,m4,e1,Ev,Ew,Ch,Ci,Cj]<;>(repeat' apply A7)<;>first|rfl|exact⟨_,rfl⟩|exact⟨_,_,rfl⟩|simp [AP,A8]
theorem Xg(ids:AL)(nodes:Int){r:Bool}(h:Ry ids nodes=some r):Y.call 106 [bh 3 (AP (bd .i64) ids),bd .i64 nodes] []=some (b9 r,[]):=by
 refine AEE ?_ rfl;unfold A23;unfold Ry at h;obtain⟨AY,hl2,h⟩:=Ar h;try dsimp only at h
 simp (maxDischargeDepth:=9) only [↓AQ,AR,Ah,↓reduceIte,bj,bk,bl,bm,bo,bp,br,bt,bw,bx,bO,b0,b3,b4,b5,b6,b7];refine BF (VZ ids nodes hl2 ?_) ?_
 ·simp (maxDischargeDepth:=9) only [↓AQ,AR,Ah,↓reduceIte,bj,bk,bl,bm,bo,bp,br,bt,bw,bx,bO,b0,b3,b4,b5,b6,b7,Ev]<;>(repeat' apply A7)<;>first|rfl|exact⟨_,rfl⟩|exact⟨_,_,rfl⟩|simp [AP,A8]
 ·intro ex2 s2 hX2;rcases AY with q1000_|q1000_
  ·unfold Ew at hX2;dsimp only at hX2 h;obtain⟨rfl,n2_0⟩:=hX2
   obtain rfl:=Option.some.inj h
   simp (maxDischargeDepth:=9) only [↓AQ,AR,Ah,↓reduceIte,bj,bk,bl,bm,bo,bp,br,bt,bw,bx,bO,b0,b3,b4,b5,b6,b7,n2_0]<;>(repeat' apply A7)<;>first|rfl|exact⟨_,rfl⟩|exact⟨_,_,rfl⟩|simp [AP,A8]
  ·unfold Ew at hX2;dsimp only at hX2 h;obtain⟨rfl,n2_0,n2_1⟩:=hX2;by_cases e3:(ids.length:Int)=0
   ·rw [if_pos e3]at h
    obtain rfl:=Option.some.inj h
    simp (maxDischargeDepth:=9) only [↓AQ,AR,Ah,↓reduceIte,bj,bk,bl,bm,bo,bp,br,bt,bw,bx,bO,b0,b3,b4,b5,b6,b7,n2_0,n2_1,decide_eq_true e3]<;>(repeat' apply A7)<;>first|rfl|exact⟨_,rfl⟩|exact⟨_,_,rfl⟩|simp [AP,A8]
   ·rw [if_neg e3]at h
    obtain rfl:=Option.some.inj h
    simp (maxDischargeDepth:=9) only [↓AQ,AR,Ah,↓reduceIte,bj,bk,bl,bm,bo,bp,br,bt,bw,bx,bO,b0,b3,b4,b5,b6,b7,n2_0,n2_1,e3]<;>(repeat' apply A7)<;>first|rfl|exact⟨_,rfl⟩|exact⟨_,_,rfl⟩|simp [AP,A8]
theorem dD(ids:AL)(n:Int)(h:ids.length<1099511627776):Rx ids n=some (Ox ids n):=by
 unfold Rx Ox;by_cases h0:ids.length=0
 ·rw [if_pos (by omega),decide_eq_true h0];rfl
 ·rw [if_neg (by omega),Br h,Br (by omega),decide_eq_false h0,SK]
  by_cases h1:(ids.length:Int)=n
  ·rw [if_pos h1,Tz,Br (by rw [WQ];exact h),dC,decide_eq_true h1];rfl
  ·rw [if_neg h1,decide_eq_false h1];rfl
theorem jS(ids:AL):(an ids.length).all (fun i=>Iq (ids.getD i be) 1 999999&& !(ids.take i).contains (ids.getD i be))=(decide ids.Nodup&&EJ ids 1 999999):=by
 rw [QH,GV,FM,decide_eq_true_eq];unfold EJ;rw [Ir]
 constructor
 ·intro h
  refine⟨YB.2 fun i j hi hj hij he=> ?_,fun x hx=> ?_⟩
  ·have:=h j hj
   rw [FM,Ku,←Bool.not_eq_true,WV,Az _ _ hj]at this;refine this.2 ?_;rw [←he];exact List.mem_take_iff_getElem.2 ⟨i,by omega,rfl⟩
  ·obtain⟨i,hi,rfl⟩:=aB hx;have:=h i hi
   rw [FM,Az _ _ hi]at this;exact this.1
 ·rintro⟨h1,h2⟩ i hi
  rw [FM,Ku,←Bool.not_eq_true,WV,Az _ _ hi]
  refine⟨h2 _ (JQ hi),fun hm=> ?_⟩
  obtain⟨j,hj,he⟩:=List.mem_take_iff_getElem.1 hm;exact YB.1 h1 j i (by omega) hi (by omega) he
theorem dE(ids:AL)(n:Int)(h:ids.length<1099511627776):Ry ids n=some (Ox ids n):=by
 have key:=IZ (fun v=>I8 ids n v) (fun i=>(i:Int)) ids.length (fun i=>Iq (ids.getD i be) 1 999999&& !(ids.take i).contains (ids.getD i be)) (.inl ()) (.inr ()) ?_ ?_
 ·rw [OJ,jS]at key;unfold Ry MX Ox;rw [key,Ce];by_cases h0:ids.length=0
  ·have:ids=[]:=Zw h0
   subst this;simp [EJ]
  ·rw [decide_eq_false h0,SK]
   cases decide ids.Nodup&&EJ ids 1 999999 with
   |false=>rw [Bool.and_false];rfl
   |true=>rw [V5,if_pos rfl];simp only;rw [if_neg (by omega)]
 ·intro i hi;simp only [I8,K4,List.drop_zero];rw [if_pos (Bc hi),Br (by omega),Br (by omega),Br (by omega),Br (by rw [Mt];omega),Kb i (by omega)]
  cases Iq (ids.getD i be) 1 999999<;>cases (ids.take i).contains (ids.getD i be)<;>rfl
 ·simp only [I8];rw [if_neg (Ap _)]
theorem dF(ids:AL)(nodes:Int)(h0:ids.length<1099511627776):Y.call 112 [bh 3 (AP (bd .i64) ids),bd .i64 nodes] []=some (b9 (Ox ids nodes),[]):=Xf ids nodes (dD ids nodes h0)
theorem dG(ids:AL)(nodes:Int)(h0:ids.length<1099511627776):Y.call 106 [bh 3 (AP (bd .i64) ids),bd .i64 nodes] []=some (b9 (Ox ids nodes),[]):=Xg ids nodes (dE ids nodes h0)
def MZ(inputs:AL)(nodes:Int):Option (Bool):= if(inputs.length:Int)=nodes then ck (inputs.length<1099511627776)<| some (EJ inputs (0:Int) (9:Int)) else some false
def A24:SC:= .seq (.ops [oX 4 CV 4]) (.seq (.ops [oM 5 0 26,oN 6 5 26,oM 7 1 3,oB 8 .eql 3 (tK 6) (tK 7) 3 4,oM 9 8 4,⟨(some 10),(.move (tK 0)),26,(some (some 9,true))⟩,⟨(some 11),(.call ⟨(.value (.func 144)), #[(tK 10),(iK 0),(iK 9)], #[26,3,3]⟩),4,(some (some 9,true))⟩,oX 12 (.pick (tK 9) (tK 11) Ou) 4,oA 4 12 4]) .ret)
theorem rO:Try.f113.body.map (Ba lends)=some A24:=by kernel_rfl
theorem A8z:Bz Try.f113 2=true:=by kernel_rfl
theorem AEF{a l:List D}{r:D×List D}(h:C8 Y.env A24 (Fa Ac l.length [cc 4] r) (entry a l))(ha:a.length=2):Y.call 113 a l=some r:=
 Aa (Y:=Y) rfl Try.func113 (ha▸A8z) rO h
theorem Rf(inputs:AL)(nodes:Int){r:Bool}(h:MZ inputs nodes=some r):Y.call 113 [bh 3 (AP (bd .i64) inputs),bd .i64 nodes] []=some (b9 r,[]):=by
 refine AEF ?_ rfl;unfold A24;unfold MZ at h;by_cases e1:(inputs.length:Int)=nodes
 ·rw [if_pos e1]at h;obtain⟨e2,h⟩:=Bw h;have c3:=Tx inputs (0:Int) (9:Int) e2
  obtain rfl:=Option.some.inj h
  simp (maxDischargeDepth:=9) only [↓AQ,AR,Ah,↓reduceIte,bj,bk,bl,bm,bo,bp,br,bt,bw,bx,bO,b0,b3,b4,b5,b6,b7,decide_eq_true e1,e2,c3]<;>(repeat' apply A7)<;>first|rfl|exact⟨_,rfl⟩|exact⟨_,_,rfl⟩|simp [AP,A8]
 ·rw [if_neg e1]at h
  obtain rfl:=Option.some.inj h
  simp (maxDischargeDepth:=9) only [↓AQ,AR,Ah,↓reduceIte,bj,bk,bl,bm,bo,bp,br,bt,bw,bx,bO,b0,b3,b4,b5,b6,b7,e1]<;>(repeat' apply A7)<;>first|rfl|exact⟨_,rfl⟩|exact⟨_,_,rfl⟩|simp [AP,A8]
def H6(AB:Am)(AO:AL)(AA:AL)(v_:Int):Option (Bool):= some (Iq v_ (0:Int) (ca.wrap ((AB.length:Int)-1)))
def A25:SC:= .seq (.ops [oX 2 (.box 47 (tK 0)) 0,oX 4 CV 4]) (.seq (.ops [oM 5 1 3,oF 6 47 2 0,oL 7 45 6 45,oN 8 7 45,oB 9 .sub 3 (tK 8) (iK 1) 3 3,oC 10 97 [(tK 5),(iK 0),(tK 9)] [3,3,3] 4,oA 4 10 4]) .ret)
theorem rP:Try.f130.body.map (Ba lends)=some A25:=by kernel_rfl
theorem A90:Bz Try.f130 2=true:=by kernel_rfl
theorem AEG{a l:List D}{r:D×List D}(h:C8 Y.env A25 (Fa Ac l.length [cc 4] r) (entry a l))(ha:a.length=2):Y.call 130 a l=some r:=
 Aa (Y:=Y) rfl Try.func130 (ha▸A90) rP h
theorem Ma(AB:Am)(AO:AL)(AA:AL)(v_:Int){r:Bool}(h:H6 AB AO AA v_=some r):Y.call 130 [ce [bh 123 (AP (fun x=>bh 125 (Au .i64 .i64 x)) AB),bh 3 (AP (bd .i64) AO),bh 3 (AP (bd .i64) AA)],bd .i64 v_] []=some (b9 r,[]):=by
 refine AEG ?_ rfl;unfold A25;unfold H6 at h;have c1:=Ii v_ (0:Int) (ca.wrap ((AB.length:Int)-1))
 obtain rfl:=Option.some.inj h
 simp (maxDischargeDepth:=9) only [↓AQ,AR,Ah,↓reduceIte,bj,bk,bl,bm,bo,bp,br,bt,bw,bx,bO,b0,b3,b4,b5,b6,b7,c1]<;>(repeat' apply A7)<;>first|rfl|exact⟨_,rfl⟩|exact⟨_,_,rfl⟩|simp [AP,A8]
def H7(AB:Am)(AO:AL)(AA:AL)(v_:Int)(i:Int):Option (Bool):= (H6 AB AO AA v_).bind fun nC=> if nC=true then ck (0≤v_∧v_.toNat<AB.length)<| some (Iq i (0:Int) (ca.wrap (((AB.getD v_.toNat be).length:Int)-1))) else some false
def A26:SC:= .seq (.ops [oX 3 (.box 47 (tK 0)) 0,oX 6 CV 4]) (.seq (.ops [oL 7 47 3 47,oM 8 1 3,oC 9 130 [(tK 7),(tK 8)] [47,3] 4,oM 10 9 4,⟨(some 11),(.move (tK 2)),3,(some (some 10,true))⟩,⟨(some 12),(.fieldAddr 47 (tK 3) 0),0,(some (some 10,true))⟩,⟨(some 13),(.load 45 (tK 12)),45,(some (some 10,true))⟩,⟨(some 14),(.move (tK 1)),3,(some (some 10,true))⟩,⟨(some 15),(.indexAddr 45 (tK 13) (tK 14)),0,(some (some 10,true))⟩,⟨(some 16),(.load 123 (tK 15)),123,(some (some 10,true))⟩,⟨(some 17),(.call ⟨(.builtin .len), #[(tK 16)], #[123]⟩),3,(some (some 10,true))⟩,⟨(some 18),(.binOp .sub 3 (tK 17) (iK 1) 3),3,(some (some 10,true))⟩,⟨(some 19),(.call ⟨(.value (.func 97)), #[(tK 11),(iK 0),(tK 18)], #[3,3,3]⟩),4,(some (some 10,true))⟩,oX 20 (.pick (tK 10) (tK 19) Ou) 4,oA 6 20 4]) .ret)
theorem rQ:Try.f114.body.map (Ba lends)=some A26:=by kernel_rfl
theorem A91:Bz Try.f114 3=true:=by kernel_rfl
theorem AEH{a l:List D}{r:D×List D}(h:C8 Y.env A26 (Fa Ac l.length [cc 6] r) (entry a l))(ha:a.length=3):Y.call 114 a l=some r:=
 Aa (Y:=Y) rfl Try.func114 (ha▸A91) rQ h
theorem Mc(AB:Am)(AO:AL)(AA:AL)(v_:Int)(i:Int){r:Bool}(h:H7 AB AO AA v_ i=some r):Y.call 114 [ce [bh 123 (AP (fun x=>bh 125 (Au .i64 .i64 x)) AB),bh 3 (AP (bd .i64) AO),bh 3 (AP (bd .i64) AA)],bd .i64 v_,bd .i64 i] []=some (b9 r,[]):=by
 refine AEH ?_ rfl;unfold A26;unfold H7 at h;obtain⟨nC,hl1,h⟩:=Ar h;try dsimp only at h
 have c1:=Ma AB AO AA v_ hl1;by_cases e2:nC=true
 ·rw [if_pos e2]at h;obtain⟨e3,h⟩:=Bw h;have c4:=Ii i (0:Int) (ca.wrap (((AB.getD v_.toNat be).length:Int)-1))
  obtain rfl:=Option.some.inj h
  simp (maxDischargeDepth:=9) only [↓AQ,AR,Ah,↓reduceIte,bj,bk,bl,bm,bo,bp,br,bt,bw,bx,bO,b0,b3,b4,b5,b6,b7,c1,e2,e3.1,e3.2,c4]<;>(repeat' apply A7)<;>first|rfl|exact⟨_,rfl⟩|exact⟨_,_,rfl⟩|simp [AP,A8]
 ·rw [if_neg e2]at h;have e2f:nC=false:=KR.mpr e2
  obtain rfl:=Option.some.inj h
  simp (maxDischargeDepth:=9) only [↓AQ,AR,Ah,↓reduceIte,bj,bk,bl,bm,bo,bp,br,bt,bw,bx,bO,b0,b3,b4,b5,b6,b7,c1,e2f]<;>(repeat' apply A7)<;>first|rfl|exact⟨_,rfl⟩|exact⟨_,_,rfl⟩|simp [AP,A8]
def ET(A9:Am)(AU:AL)(AC:AL)(Db:Int)(IP:Int):Option ((Int)⊕(Unit⊕Unit)):= if IP<((A9.getD Db.toNat be).length:Int)then ck (0≤IP∧IP.toNat<(A9.getD Db.toNat be).length)<| (H7 A9 AU AC (BJ (A9.getD Db.toNat be) IP.toNat) (CO (A9.getD Db.toNat be) IP.toNat)).bind fun dH=> if dH=true then ck (0≤(BJ (A9.getD Db.toNat be) IP.toNat)∧(BJ (A9.getD Db.toNat be) IP.toNat).toNat<A9.length)<| ck (0≤(CO (A9.getD Db.toNat be) IP.toNat)∧(CO (A9.getD Db.toNat be) IP.toNat).toNat<(A9.getD ((BJ (A9.getD Db.toNat be) IP.toNat).toNat) be).length)<| if(((BJ (A9.getD ((BJ (A9.getD Db.toNat be) IP.toNat).toNat) be) ((CO (A9.getD Db.toNat be) IP.toNat).toNat))==Db)&&((CO (A9.getD ((BJ (A9.getD Db.toNat be) IP.toNat).toNat) be) ((CO (A9.getD Db.toNat be) IP.toNat).toNat))==IP))=true then some (cb (ca.wrap (IP+1))) else some (b8 (cb ())) else some (b8 (cb ())) else some (b8 (b8 ()))
def Hm(A9:Am)(AU:AL)(AC:AL)(Db:Int)(v:Int):Option (Unit⊕Unit):=Im (fun v=>ET A9 AU AC Db v) v
def EU(A9:Am)(AU:AL)(AC:AL)(Db:Int):Option ((Int)⊕(Unit⊕Unit)):=
 if Db<(A9.length:Int)then
  ck (0≤Db∧Db.toNat<A9.length)<|
  if 6<((A9.getD Db.toNat be).length:Int)then
   some (b8 (cb ()))
  else
   (Hm A9 AU AC Db 0).bind fun AY=>
   match AY with
   | .inl q1000_=>
    some (b8 (cb ()))
   | .inr q1000_=>
    some (cb (ca.wrap (Db+1)))
 else
  some (b8 (b8 ()))
def Ho(A9:Am)(AU:AL)(AC:AL)(v:Int):Option (Unit⊕Unit):=Im (fun v=>EU A9 AU AC v) v
def LM(A9:Am)(AU:AL)(AC:AL):Option (Bool):=
 if(Iq (A9.length:Int) (1:Int) (40:Int))=true then
  ck (AU.length<1099511627776)<|
  if(Ox AU (A9.length:Int))=true then
   (MZ AC (A9.length:Int)).bind fun Zc=>
   if Zc=true then
    (Ho A9 AU AC 0).bind fun CY=>
    match CY with
    | .inl q1001_=>
     some false
    | .inr q1001_=>
     some true
   else
    some false
  else
   some false
 else
  some false
abbrev UE:List Nat:=[48,49,50,51,52,53,54,55,56,57,58,59,60,61,62,63,64,65,66,67,68,66,67,69,70]
def Xh:SC:= .seq (.ops [oB 44 .lss 3 (tK 43) (tK 42) 3 0]) (.seq (.cond (tK 44) .skip (.exit 2)) (.seq (.block 3 (.seq (.ops [oM 45 43 3,oI 46 123 41 43,oL 47 125 46 125,oX 6 (.alloc 125) 0,oA 5 45 3,oS 125 6 47]) (.seq (.draws [(⟨[48,1,1],UE,[48]⟩,oL 48 47 1 47),(⟨[49,6,6],UE,[49]⟩,oF 49 125 6 0),(⟨[50,49,6],UE,[50]⟩,oL 50 3 49 3),(⟨[51,6,6],UE,[51]⟩,oF 51 125 6 1),(⟨[52,51,6],UE,[52]⟩,oL 52 3 51 3),(⟨[53,48,50,52,1,6,6],UE,[53]⟩,oC 53 114 [(tK 48),(tK 50),(tK 52)] [47,3,3] 4),(⟨[54,53,53],UE,[54]⟩,oX 54 (.unOp .not 4 (tK 53)) 4),(⟨[55,54,54],UE,[55]⟩,oM 55 54 4),(⟨[56,1,1,55],UE,[56]⟩,⟨(some 56),cK,0,(some (some 55,false))⟩),(⟨[57,56,1,55],UE,[57]⟩,⟨(some 57),(.load 45 (tK 56)),45,(some (some 55,false))⟩),(⟨[58,6,6,55],UE,[58]⟩,⟨(some 58),(.fieldAddr 125 (tK 6) 0),0,(some (some 55,false))⟩),(⟨[59,58,6,55],UE,[59]⟩,⟨(some 59),(.load 3 (tK 58)),3,(some (some 55,false))⟩),(⟨[60,57,59,1,6,55],UE,[60]⟩,⟨(some 60),(.indexAddr 45 (tK 57) (tK 59)),0,(some (some 55,false))⟩),(⟨[61,60,1,55],UE,[61]⟩,⟨(some 61),(.load 123 (tK 60)),123,(some (some 55,false))⟩),(⟨[62,6,6,55],UE,[62]⟩,⟨(some 62),(.fieldAddr 125 (tK 6) 1),0,(some (some 55,false))⟩),(⟨[63,62,6,55],UE,[63]⟩,⟨(some 63),(.load 3 (tK 62)),3,(some (some 55,false))⟩),
 (⟨[64,61,63,1,6,55],UE,[64]⟩,⟨(some 64),(.indexAddr 123 (tK 61) (tK 63)),0,(some (some 55,false))⟩),(⟨[65,64,1,55],UE,[65]⟩,⟨(some 65),(.load 125 (tK 64)),125,(some (some 55,false))⟩),(⟨[66,3,3,55],UE,[66]⟩,⟨(some 66),(.move (tK 3)),3,(some (some 55,false))⟩),(⟨[67,5,5,55],UE,[67]⟩,⟨(some 67),(.move (tK 5)),3,(some (some 55,false))⟩),(⟨[68,66,67,3,5,55],UE,[68,66,67]⟩,⟨(some 68),(.build 125 #[(0,(tK 66)),(1,(tK 67))]),125,(some (some 55,false))⟩),(⟨[69,65,68,1,68,55],UE,[69]⟩,⟨(some 69),(.binOp .neq 125 (tK 65) (tK 68) 125),4,(some (some 55,false))⟩),(⟨[70,55,69,54,69],UE,[70]⟩,oX 70 (.pick (tK 55) Fw (tK 69)) 4)]) (.cond (tK 70) (.seq (.ops [oX 2 CV 4]) .ret) .skip)))) (.ops [oB 71 .add 3 (tK 43) (iK 1) 3 3,oM 43 71 3])))
def nK:SC:= .loop Xh
def Xi:SC:= .seq (.ops [oB 34 .lss 3 (tK 33) (tK 32) 3 0]) (.seq (.cond (tK 34) .skip (.exit 0)) (.seq (.block 1 (.seq (.ops [oM 35 33 3,oI 36 45 31 33,oL 37 123 36 123,oA 3 35 3,oA 4 37 123]) (.seq (.seq (.ops [oM 38 4 123,oN 39 38 123,oB 40 .gtr 3 (tK 39) (iK 6) 3 4]) (.cond (tK 40) (.seq (.ops [oX 2 CV 4]) .ret) .skip)) (.seq (.ops [oM 41 4 123,oN 42 41 123,oX 43 (.move (iK 0)) 3]) (.block 2 nK))))) (.ops [oB 72 .add 3 (tK 33) (iK 1) 3 3,oM 33 72 3])))
def nL:SC:= .loop Xi
def k67:SC:= .seq (.ops [oX 1 (.box 47 (tK 0)) 0,oX 2 CV 4]) (.seq (.seq (.ops [oF 7 47 1 0,oL 8 45 7 45,oN 9 8 45,oC 10 97 [(tK 9),(iK 1),(iK 40)] [3,3,3] 4,oX 11 (.unOp .not 4 (tK 10)) 4,oM 12 11 4,⟨(some 13),(.fieldAddr 47 (tK 1) 1),0,(some (some 12,false))⟩,⟨(some 14),(.load 26 (tK 13)),26,(some (some 12,false))⟩,⟨(some 15),cK,0,(some (some 12,false))⟩,⟨(some 16),(.load 45 (tK 15)),45,(some (some 12,false))⟩,⟨(some 17),(.call ⟨(.builtin .len), #[(tK 16)], #[45]⟩),3,(some (some 12,false))⟩,⟨(some 18),(.call ⟨(.value (.func 112)), #[(tK 14),(tK 17)], #[26,3]⟩),4,(some (some 12,false))⟩,⟨(some 19),(.unOp .not 4 (tK 18)),4,(some (some 12,false))⟩,oX 20 (.pick (tK 12) Fw (tK 19)) 4,oM 21 20 4,⟨(some 22),(.fieldAddr 47 (tK 1) 2),0,(some (some 21,false))⟩,⟨(some 23),(.load 26 (tK 22)),26,(some (some 21,false))⟩,⟨(some 24),cK,0,(some (some 21,false))⟩,⟨(some 25),(.load 45 (tK 24)),45,(some (some 21,false))⟩,⟨(some 26),(.call ⟨(.builtin .len), #[(tK 25)], #[45]⟩),3,(some (some 21,false))⟩,⟨(some 27),(.call ⟨(.value (.func 113)), #[(tK 23),(tK 26)], #[26,3]⟩),4,(some (some 21,false))⟩,⟨(some 28),(.unOp .not 4 (tK 27)),4,(some (some 21,false))⟩,oX 29 (.pick (tK 21) Fw (tK 28)) 4])
 (.cond (tK 29) (.seq (.ops [oX 2 CV 4]) .ret) .skip)) (.seq (.seq (.ops [oF 30 47 1 0,oL 31 45 30 45,oN 32 31 45,oX 33 (.move (iK 0)) 3]) (.block 0 nL)) (.seq (.ops [oX 2 (.assign Fw) 4]) .ret)))
theorem A27:Try.f67.body.map (Ba lends)=some k67:=by kernel_rfl
theorem AEJ:Bz Try.f67 1=true:=by kernel_rfl
theorem c67{a l:List D}{r:D×List D}(h:C8 Y.env k67 (Fa Ac l.length [cc 2] r) (entry a l))(ha:a.length=1):Y.call 67 a l=some r:=
 Aa (Y:=Y) rfl Try.func67 (ha▸AEJ) A27 h
def Cx(A9:Am)(AU:AL)(AC:AL)(Db:Int)(IP:Int)(s:St):Prop:=s.v 1=D.box [bh 123 (AP (fun x=>bh 125 (Au .i64 .i64 x)) A9),bh 3 (AP (bd .i64) AU),bh 3 (AP (bd .i64) AC)]∧s.v 3=bd .i64 Db∧s.v 31=bh 123 (AP (fun x=>bh 125 (Au .i64 .i64 x)) A9)∧s.v 32=bd .i64 (A9.length:Int)∧s.v 33=bd .i64 Db∧s.v 41=bh 125 (Au .i64 .i64 (A9.getD Db.toNat be))∧s.v 42=bd .i64 ((A9.getD Db.toNat be).length:Int)∧s.v 43=bd .i64 IP
def Cy(A9:Am)(AU:AL)(AC:AL)(Db:Int)(r:Unit⊕Unit)(ex:Ex)(s:St):Prop:=match r with
 | .inl q=>ex= .ret∧s.v 2=b9 false
 | .inr q=>ex= .exit 2∧s.v 1=D.box [bh 123 (AP (fun x=>bh 125 (Au .i64 .i64 x)) A9),bh 3 (AP (bd .i64) AU),bh 3 (AP (bd .i64) AC)]∧s.v 31=bh 123 (AP (fun x=>bh 125 (Au .i64 .i64 x)) A9)∧s.v 32=bd .i64 (A9.length:Int)∧s.v 33=bd .i64 Db
theorem Pv(A9:Am)(AU:AL)(AC:AL)(Db:Int){v:Int}{s:St}{r:Unit⊕Unit}(h:Hm A9 AU AC Db v=some r)(hM:Cx A9 AU AC Db v s):C8 Y.env nK (Cy A9 AU AC Db r) s:=by
 unfold Hm at h;refine BU (c:=Xh) (fun v=>ET A9 AU AC Db v) (fun v s=>Cx A9 AU AC Db v s) (Cy A9 AU AC Db) ?_ h hM;clear h hM s v r;intro IP s o hM h;unfold ET at h;unfold Cx at hM;obtain⟨m0,m1,m2,m3,m4,m5,m6,m7⟩:=hM;unfold Xh;by_cases e11:IP<((A9.getD Db.toNat be).length:Int)
 ·rw [if_pos e11]at h;obtain⟨e12,h⟩:=Bw h;obtain⟨dH,hl13,h⟩:=Ar h;try dsimp only at h
  have c13:=Mc A9 AU AC (BJ (A9.getD Db.toNat be) IP.toNat) (CO (A9.getD Db.toNat be) IP.toNat) hl13;by_cases e14:dH=true
  ·rw [if_pos e14]at h;obtain⟨e15,h⟩:=Bw h;obtain⟨e16,h⟩:=Bw h;by_cases e17:(((BJ (A9.getD ((BJ (A9.getD Db.toNat be) IP.toNat).toNat) be) ((CO (A9.getD Db.toNat be) IP.toNat).toNat))==Db)&&((CO (A9.getD ((BJ (A9.getD Db.toNat be) IP.toNat).toNat) be) ((CO (A9.getD Db.toNat be) IP.toNat).toNat))==IP))=true
   ·rw [if_pos e17]at h
    obtain rfl:=Option.some.inj h
    simp (maxDischargeDepth:=9) only [↓AQ,AR,Ah,↓reduceIte,bj,bk,bl,bm,bo,bp,br,bt,bw,bx,bO,b0,b3,b4,b5,b6,b7,m0,m1,m2,m3,m4,m5,m6,m7,e11,e12.1,e12.2,c13,e14,e15.1,e15.2,e16.1,e16.2,e17,Cx,Cy,Ch,Ci,Cj]<;>(repeat' apply A7)<;>first|rfl|exact⟨_,rfl⟩|exact⟨_,_,rfl⟩|simp [AP,A8]
   ·rw [if_neg e17]at h;have e17f:(((BJ (A9.getD ((BJ (A9.getD Db.toNat be) IP.toNat).toNat) be) ((CO (A9.getD Db.toNat be) IP.toNat).toNat))==Db)&&((CO (A9.getD ((BJ (A9.getD Db.toNat be) IP.toNat).toNat) be) ((CO (A9.getD Db.toNat be) IP.toNat).toNat))==IP))=false:=KR.mpr e17
    obtain rfl:=Option.some.inj h
    simp (maxDischargeDepth:=9) only [↓AQ,AR,Ah,↓reduceIte,bj,bk,bl,bm,bo,bp,br,bt,bw,bx,bO,b0,b3,b4,b5,b6,b7,m0,m1,m2,m3,m4,m5,m6,m7,e11,e12.1,e12.2,c13,e14,e15.1,e15.2,e16.1,e16.2,e17f,Cx,Cy,Ch,Ci,Cj]<;>(repeat' apply A7)<;>first|rfl|exact⟨_,rfl⟩|exact⟨_,_,rfl⟩|simp [AP,A8]
  ·rw [if_neg e14]at h;have e14f:dH=false:=KR.mpr e14
   obtain rfl:=Option.some.inj h
   simp (maxDischargeDepth:=9) only [↓AQ,AR,Ah,↓reduceIte,bj,bk,bl,bm,bo,bp,br,bt,bw,bx,bO,b0,b3,b4,b5,b6,b7,m0,m1,m2,m3,m4,m5,m6,m7,e11,e12.1,e12.2,c13,e14f,Cx,Cy,Ch,Ci,Cj]<;>(repeat' apply A7)<;>first|rfl|exact⟨_,rfl⟩|exact⟨_,_,rfl⟩|simp [AP,A8]
 ·rw [if_neg e11]at h
  obtain rfl:=Option.some.inj h
  simp (maxDischargeDepth:=9) only [↓AQ,AR,Ah,↓reduceIte,bj,bk,bl,bm,bo,bp,br,bt,bw,bx,bO,b0,b3,b4,b5,b6,b7,m0,m1,m2,m3,m4,m5,m6,m7,e11,Cx,Cy,Ch,Ci,Cj]<;>(repeat' apply A7)<;>first|rfl|exact⟨_,rfl⟩|exact⟨_,_,rfl⟩|simp [AP,A8]
def Cz(A9:Am)(AU:AL)(AC:AL)(Db:Int)(s:St):Prop:=s.v 1=D.box [bh 123 (AP (fun x=>bh 125 (Au .i64 .i64 x)) A9),bh 3 (AP (bd .i64) AU),bh 3 (AP (bd .i64) AC)]∧s.v 31=bh 123 (AP (fun x=>bh 125 (Au .i64 .i64 x)) A9)∧s.v 32=bd .i64 (A9.length:Int)∧s.v 33=bd .i64 Db
def D5(A9:Am)(AU:AL)(AC:AL)(r:Unit⊕Unit)(ex:Ex)(s:St):Prop:=match r with
 | .inl q=>ex= .ret∧s.v 2=b9 false
 | .inr q=>ex= .exit 0
theorem Pw(A9:Am)(AU:AL)(AC:AL){v:Int}{s:St}{r:Unit⊕Unit}(h:Ho A9 AU AC v=some r)(hM:Cz A9 AU AC v s):C8 Y.env nL (D5 A9 AU AC r) s:=by
 unfold Ho at h;refine BU (c:=Xi) (fun v=>EU A9 AU AC v) (fun v s=>Cz A9 AU AC v s) (D5 A9 AU AC) ?_ h hM;clear h hM s v r;intro Db s o hM h;unfold EU at h;unfold Cz at hM;obtain⟨m0,m1,m2,m3⟩:=hM;unfold Xi;by_cases e8:Db<(A9.length:Int)
 ·rw [if_pos e8]at h;obtain⟨e9,h⟩:=Bw h;by_cases e10:6<((A9.getD Db.toNat be).length:Int)
  ·rw [if_pos e10]at h
   obtain rfl:=Option.some.inj h
   simp (maxDischargeDepth:=9) only [↓AQ,AR,Ah,↓reduceIte,bj,bk,bl,bm,bo,bp,br,bt,bw,bx,bO,b0,b3,b4,b5,b6,b7,m0,m1,m2,m3,e8,e9.1,e9.2,e10,Cz,D5,Ch,Ci,Cj]<;>(repeat' apply A7)<;>first|rfl|exact⟨_,rfl⟩|exact⟨_,_,rfl⟩|simp [AP,A8]
  ·rw [if_neg e10]at h;obtain⟨AY,hl12,h⟩:=Ar h;try dsimp only at h
   simp (maxDischargeDepth:=9) only [↓AQ,AR,Ah,↓reduceIte,bj,bk,bl,bm,bo,bp,br,bt,bw,bx,bO,b0,b3,b4,b5,b6,b7,m0,m1,m2,m3,e8,e9.1,e9.2,e10];refine BF (Pv A9 AU AC Db hl12 ?_) ?_
   ·simp (maxDischargeDepth:=9) only [↓AQ,AR,Ah,↓reduceIte,bj,bk,bl,bm,bo,bp,br,bt,bw,bx,bO,b0,b3,b4,b5,b6,b7,m0,m1,m2,m3,e8,e9.1,e9.2,e10,Cx]<;>(repeat' apply A7)<;>first|rfl|exact⟨_,rfl⟩|exact⟨_,_,rfl⟩|simp [AP,A8]
   ·intro ex12 s12 hX12;rcases AY with q1000_|q1000_
    ·unfold Cy at hX12;dsimp only at hX12 h;obtain⟨rfl,n12_0⟩:=hX12
     obtain rfl:=Option.some.inj h
     simp (maxDischargeDepth:=9) only [↓AQ,AR,Ah,↓reduceIte,bj,bk,bl,bm,bo,bp,br,bt,bw,bx,bO,b0,b3,b4,b5,b6,b7,e8,e9.1,e9.2,e10,n12_0,Cz,D5,Ch,Ci,Cj]<;>(repeat' apply A7)<;>first|rfl|exact⟨_,rfl⟩|exact⟨_,_,rfl⟩|simp [AP,A8]
    ·unfold Cy at hX12;dsimp only at hX12 h;obtain⟨rfl,n12_0,n12_1,n12_2,n12_3⟩:=hX12
     obtain rfl:=Option.some.inj h
     simp (maxDischargeDepth:=9) only [↓AQ,AR,Ah,↓reduceIte,bj,bk,bl,bm,bo,bp,br,bt,bw,bx,bO,b0,b3,b4,b5,b6,b7,e8,e9.1,e9.2,e10,n12_0,n12_1,n12_2,n12_3,Cz,D5,Ch,Ci,Cj]<;>(repeat' apply A7)<;>first|rfl|exact⟨_,rfl⟩|exact⟨_,_,rfl⟩|simp [AP,A8]
 ·rw [if_neg e8]at h
  obtain rfl:=Option.some.inj h
  simp (maxDischargeDepth:=9) only [↓AQ,AR,Ah,↓reduceIte,bj,bk,bl,bm,bo,bp,br,bt,bw,bx,bO,b0,b3,b4,b5,b6,b7,m0,m1,m2,m3,e8,Cz,D5,Ch,Ci,Cj]<;>(repeat' apply A7)<;>first|rfl|exact⟨_,rfl⟩|exact⟨_,_,rfl⟩|simp [AP,A8]
theorem Qd(A9:Am)(AU:AL)(AC:AL){r:Bool}(h:LM A9 AU AC=some r):Y.call 67 [ce [bh 123 (AP (fun x=>bh 125 (Au .i64 .i64 x)) A9),bh 3 (AP (bd .i64) AU),bh 3 (AP (bd .i64) AC)]] []=some (b9 r,[]):=by
 refine c67 ?_ rfl;unfold k67;unfold LM at h;have c1:=Ii (A9.length:Int) (1:Int) (40:Int);by_cases e2:(Iq (A9.length:Int) (1:Int) (40:Int))=true
 ·rw [if_pos e2]at h;obtain⟨e3,h⟩:=Bw h;have c4:=dF AU (A9.length:Int) e3;by_cases e5:(Ox AU (A9.length:Int))=true
  ·rw [if_pos e5]at h;obtain⟨Zc,hl6,h⟩:=Ar h;try dsimp only at h
   have c6:=Rf AC (A9.length:Int) hl6;by_cases e7:Zc=true
   ·rw [if_pos e7]at h;obtain⟨CY,hl9,h⟩:=Ar h;try dsimp only at h
    simp (maxDischargeDepth:=9) only [↓AQ,AR,Ah,↓reduceIte,bj,bk,bl,bm,bo,bp,br,bt,bw,bx,bO,b0,b3,b4,b5,b6,b7,c1,e2,e3,c4,e5,c6,e7];refine BF (Pw A9 AU AC hl9 ?_) ?_
    ·simp (maxDischargeDepth:=9) only [↓AQ,AR,Ah,↓reduceIte,bj,bk,bl,bm,bo,bp,br,bt,bw,bx,bO,b0,b3,b4,b5,b6,b7,c1,e2,e3,c4,e5,c6,e7,Cz]<;>(repeat' apply A7)<;>first|rfl|exact⟨_,rfl⟩|exact⟨_,_,rfl⟩|simp [AP,A8]
    ·intro ex9 s9 hX9;rcases CY with q1001_|q1001_
     ·unfold D5 at hX9;dsimp only at hX9 h;obtain⟨rfl,n9_0⟩:=hX9
      obtain rfl:=Option.some.inj h
      simp (maxDischargeDepth:=9) only [↓AQ,AR,Ah,↓reduceIte,bj,bk,bl,bm,bo,bp,br,bt,bw,bx,bO,b0,b3,b4,b5,b6,b7,c1,e2,e3,c4,e5,c6,e7,n9_0]<;>(repeat' apply A7)<;>first|rfl|exact⟨_,rfl⟩|exact⟨_,_,rfl⟩|simp [AP,A8]
     ·unfold D5 at hX9;dsimp only at hX9 h
      obtain rfl:=hX9
      obtain rfl:=Option.some.inj h
      simp (maxDischargeDepth:=9) only [↓AQ,AR,Ah,↓reduceIte,bj,bk,bl,bm,bo,bp,br,bt,bw,bx,bO,b0,b3,b4,b5,b6,b7,c1,e2,e3,c4,e5,c6,e7]<;>(repeat' apply A7)<;>first|rfl|exact⟨_,rfl⟩|exact⟨_,_,rfl⟩|simp [AP,A8]
   ·rw [if_neg e7]at h;have e7f:Zc=false:=KR.mpr e7
    obtain rfl:=Option.some.inj h
    simp (maxDischargeDepth:=9) only [↓AQ,AR,Ah,↓reduceIte,bj,bk,bl,bm,bo,bp,br,bt,bw,bx,bO,b0,b3,b4,b5,b6,b7,c1,e2,e3,c4,e5,c6,e7f]<;>(repeat' apply A7)<;>first|rfl|exact⟨_,rfl⟩|exact⟨_,_,rfl⟩|simp [AP,A8]
  ·rw [if_neg e5]at h;have e5f:(Ox AU (A9.length:Int))=false:=KR.mpr e5
   obtain rfl:=Option.some.inj h
   simp (maxDischargeDepth:=9) only [↓AQ,AR,Ah,↓reduceIte,bj,bk,bl,bm,bo,bp,br,bt,bw,bx,bO,b0,b3,b4,b5,b6,b7,c1,e2,e3,c4,e5f]<;>(repeat' apply A7)<;>first|rfl|exact⟨_,rfl⟩|exact⟨_,_,rfl⟩|simp [AP,A8]
 ·rw [if_neg e2]at h;have e2f:(Iq (A9.length:Int) (1:Int) (40:Int))=false:=KR.mpr e2
  obtain rfl:=Option.some.inj h
  simp (maxDischargeDepth:=9) only [↓AQ,AR,Ah,↓reduceIte,bj,bk,bl,bm,bo,bp,br,bt,bw,bx,bO,b0,b3,b4,b5,b6,b7,c1,e2f]<;>(repeat' apply A7)<;>first|rfl|exact⟨_,rfl⟩|exact⟨_,_,rfl⟩|simp [AP,A8]
def Gd(A9:Am)(AU:AL)(AC:AL)(Cq:Int)(Fe:Int):Option ((Int)⊕(Unit⊕Unit)):= if Fe<((A9.getD Cq.toNat be).length:Int)then ck (0≤Fe∧Fe.toNat<(A9.getD Cq.toNat be).length)<| if(Iq (BJ (A9.getD Cq.toNat be) Fe.toNat) (0:Int) (ca.wrap ((A9.length:Int)-1)))=true then ck (0≤(BJ (A9.getD Cq.toNat be) Fe.toNat)∧(BJ (A9.getD Cq.toNat be) Fe.toNat).toNat<A9.length)<| if(Iq (CO (A9.getD Cq.toNat be) Fe.toNat) (0:Int) (ca.wrap (((A9.getD ((BJ (A9.getD Cq.toNat be) Fe.toNat).toNat) be).length:Int)-1)))=true then ck (0≤(CO (A9.getD Cq.toNat be) Fe.toNat)∧(CO (A9.getD Cq.toNat be) Fe.toNat).toNat<(A9.getD ((BJ (A9.getD Cq.toNat be) Fe.toNat).toNat) be).length)<| if(((BJ (A9.getD ((BJ (A9.getD Cq.toNat be) Fe.toNat).toNat) be) ((CO (A9.getD Cq.toNat be) Fe.toNat).toNat))==Cq)&&((CO (A9.getD ((BJ (A9.getD Cq.toNat be) Fe.toNat).toNat) be) ((CO (A9.getD Cq.toNat be) Fe.toNat).toNat))==Fe))=true then some (cb (ca.wrap (Fe+1))) else some (b8 (cb ())) else some (b8 (cb ())) else some (b8 (cb ())) else some (b8 (b8 ()))
def Jk(A9:Am)(AU:AL)(AC:AL)(Cq:Int)(v:Int):Option (Unit⊕Unit):=Im (fun v=>Gd A9 AU AC Cq v) v
def Gf(A9:Am)(AU:AL)(AC:AL)(Cq:Int):Option ((Int)⊕(Unit⊕Unit)):=
 if Cq<(A9.length:Int)then
  ck (0≤Cq∧Cq.toNat<A9.length)<|
  if 6<((A9.getD Cq.toNat be).length:Int)then
   some (b8 (cb ()))
  else
   (Jk A9 AU AC Cq 0).bind fun AY=>
   match AY with
   | .inl q1000_=>
    some (b8 (cb ()))
   | .inr q1000_=>
    some (cb (ca.wrap (Cq+1)))
 else
  some (b8 (b8 ()))
def Jl(A9:Am)(AU:AL)(AC:AL)(v:Int):Option (Unit⊕Unit):=Im (fun v=>Gf A9 AU AC v) v
def Px(A9:Am)(AU:AL)(AC:AL):Option (Bool):=
 if(Iq (A9.length:Int) (1:Int) (40:Int))=true then
  ck (AU.length<1099511627776)<|
  if(Ox AU (A9.length:Int))=true then
   if(AC.length:Int)=(A9.length:Int)then
    ck (AC.length<1099511627776)<|
    if(EJ AC (0:Int) (9:Int))=true then
     (Jl A9 AU AC 0).bind fun CY=>
     match CY with
     | .inl q1001_=>
      some false
     | .inr q1001_=>
      some true
    else
     some false
   else
    some false
  else
   some false
 else
  some false
abbrev Mr:List Nat:=[54,55,56,57,58,59,60,61,62,63,64,65,66,67,68,69,70,71,72,73,74,75,76,77,78,79,80,81,82,83,84,85,86,87,88,89,87,88,90,91]
def Xj:SC:= .seq (.ops [oB 50 .lss 3 (tK 49) (tK 48) 3 0]) (.seq (.cond (tK 50) .skip (.exit 2)) (.seq (.block 3 (.seq (.ops [oM 51 49 3,oI 52 123 47 49,oL 53 125 52 125,oX 6 (.alloc 125) 0,oA 5 51 3,oS 125 6 53]) (.seq (.draws [(⟨[54,6,6],Mr,[54]⟩,oF 54 125 6 0),(⟨[55,54,6],Mr,[55]⟩,oL 55 3 54 3),(⟨[56,1,1],Mr,[56]⟩,oF 56 47 1 0),(⟨[57,56,1],Mr,[57]⟩,oL 57 45 56 45),(⟨[58,57,1],Mr,[58]⟩,oN 58 57 45),(⟨[59,58,58],Mr,[59]⟩,oB 59 .sub 3 (tK 58) (iK 1) 3 3),(⟨[60,55,59,6,59],Mr,[60]⟩,oC 60 92 [(tK 55),(iK 0),(tK 59)] [3,3,3] 4),(⟨[61,60,60],Mr,[61]⟩,oX 61 (.unOp .not 4 (tK 60)) 4),(⟨[62,61,61],Mr,[62]⟩,oM 62 61 4),(⟨[63,6,6,62],Mr,[63]⟩,⟨(some 63),(.fieldAddr 125 (tK 6) 1),0,(some (some 62,false))⟩),(⟨[64,63,6,62],Mr,[64]⟩,⟨(some 64),(.load 3 (tK 63)),3,(some (some 62,false))⟩),(⟨[65,1,1,62],Mr,[65]⟩,⟨(some 65),cK,0,(some (some 62,false))⟩),(⟨[66,65,1,62],Mr,[66]⟩,⟨(some 66),(.load 45 (tK 65)),45,(some (some 62,false))⟩),(⟨[67,6,6,62],Mr,[67]⟩,⟨(some 67),(.fieldAddr 125 (tK 6) 0),0,(some (some 62,false))⟩),(⟨[68,67,6,62],Mr,[68]⟩,⟨(some 68),(.load 3 (tK 67)),3,(some (some 62,false))⟩),(⟨[69,66,68,1,6,62],Mr,[69]⟩,⟨(some 69),(.indexAddr 45 (tK 66) (tK 68)),0,(some (some 62,false))⟩),
 (⟨[70,69,1,62],Mr,[70]⟩,⟨(some 70),(.load 123 (tK 69)),123,(some (some 62,false))⟩),(⟨[71,70,1,62],Mr,[71]⟩,⟨(some 71),(.call ⟨(.builtin .len), #[(tK 70)], #[123]⟩),3,(some (some 62,false))⟩),(⟨[72,71,71,62],Mr,[72]⟩,⟨(some 72),(.binOp .sub 3 (tK 71) (iK 1) 3),3,(some (some 62,false))⟩),(⟨[73,64,72,6,72,62],Mr,[73]⟩,⟨(some 73),(.call ⟨(.value (.func 92)), #[(tK 64),(iK 0),(tK 72)], #[3,3,3]⟩),4,(some (some 62,false))⟩),(⟨[74,73,73,62],Mr,[74]⟩,⟨(some 74),(.unOp .not 4 (tK 73)),4,(some (some 62,false))⟩),(⟨[75,62,74,61,74],Mr,[75]⟩,oX 75 (.pick (tK 62) Fw (tK 74)) 4),(⟨[76,75,75],Mr,[76]⟩,oM 76 75 4),(⟨[77,1,1,76],Mr,[77]⟩,⟨(some 77),cK,0,(some (some 76,false))⟩),(⟨[78,77,1,76],Mr,[78]⟩,⟨(some 78),(.load 45 (tK 77)),45,(some (some 76,false))⟩),(⟨[79,6,6,76],Mr,[79]⟩,⟨(some 79),(.fieldAddr 125 (tK 6) 0),0,(some (some 76,false))⟩),(⟨[80,79,6,76],Mr,[80]⟩,⟨(some 80),(.load 3 (tK 79)),3,(some (some 76,false))⟩),(⟨[81,78,80,1,6,76],Mr,[81]⟩,⟨(some 81),(.indexAddr 45 (tK 78) (tK 80)),0,(some (some 76,false))⟩),(⟨[82,81,1,76],Mr,[82]⟩,⟨(some 82),(.load 123 (tK 81)),123,(some (some 76,false))⟩),(⟨[83,6,6,76],Mr,[83]⟩,⟨(some 83),(.fieldAddr 125 (tK 6) 1),0,(some (some 76,false))⟩),
 (⟨[84,83,6,76],Mr,[84]⟩,⟨(some 84),(.load 3 (tK 83)),3,(some (some 76,false))⟩),(⟨[85,82,84,1,6,76],Mr,[85]⟩,⟨(some 85),(.indexAddr 123 (tK 82) (tK 84)),0,(some (some 76,false))⟩),(⟨[86,85,1,76],Mr,[86]⟩,⟨(some 86),(.load 125 (tK 85)),125,(some (some 76,false))⟩),(⟨[87,3,3,76],Mr,[87]⟩,⟨(some 87),(.move (tK 3)),3,(some (some 76,false))⟩),(⟨[88,5,5,76],Mr,[88]⟩,⟨(some 88),(.move (tK 5)),3,(some (some 76,false))⟩),(⟨[89,87,88,3,5,76],Mr,[89,87,88]⟩,⟨(some 89),(.build 125 #[(0,(tK 87)),(1,(tK 88))]),125,(some (some 76,false))⟩),(⟨[90,86,89,1,89,76],Mr,[90]⟩,⟨(some 90),(.binOp .neq 125 (tK 86) (tK 89) 125),4,(some (some 76,false))⟩),(⟨[91,76,90,75,90],Mr,[91]⟩,oX 91 (.pick (tK 76) Fw (tK 90)) 4)]) (.cond (tK 91) (.seq (.ops [oX 2 CV 4]) .ret) .skip)))) (.ops [oB 92 .add 3 (tK 49) (iK 1) 3 3,oM 49 92 3])))
def nM:SC:= .loop Xj
def Xk:SC:= .seq (.ops [oB 40 .lss 3 (tK 39) (tK 38) 3 0]) (.seq (.cond (tK 40) .skip (.exit 0)) (.seq (.block 1 (.seq (.ops [oM 41 39 3,oI 42 45 37 39,oL 43 123 42 123,oA 3 41 3,oA 4 43 123]) (.seq (.seq (.ops [oM 44 4 123,oN 45 44 123,oB 46 .gtr 3 (tK 45) (iK 6) 3 4]) (.cond (tK 46) (.seq (.ops [oX 2 CV 4]) .ret) .skip)) (.seq (.ops [oM 47 4 123,oN 48 47 123,oX 49 (.move (iK 0)) 3]) (.block 2 nM))))) (.ops [oB 93 .add 3 (tK 39) (iK 1) 3 3,oM 39 93 3])))
def nN:SC:= .loop Xk
def k60:SC:= .seq (.ops [oX 1 (.box 47 (tK 0)) 0,oX 2 CV 4]) (.seq (.seq (.ops [oF 7 47 1 0,oL 8 45 7 45,oN 9 8 45,oC 10 92 [(tK 9),(iK 1),(iK 40)] [3,3,3] 4,oX 11 (.unOp .not 4 (tK 10)) 4,oM 12 11 4,⟨(some 13),(.fieldAddr 47 (tK 1) 1),0,(some (some 12,false))⟩,⟨(some 14),(.load 26 (tK 13)),26,(some (some 12,false))⟩,⟨(some 15),cK,0,(some (some 12,false))⟩,⟨(some 16),(.load 45 (tK 15)),45,(some (some 12,false))⟩,⟨(some 17),(.call ⟨(.builtin .len), #[(tK 16)], #[45]⟩),3,(some (some 12,false))⟩,⟨(some 18),(.call ⟨(.value (.func 106)), #[(tK 14),(tK 17)], #[26,3]⟩),4,(some (some 12,false))⟩,⟨(some 19),(.unOp .not 4 (tK 18)),4,(some (some 12,false))⟩,oX 20 (.pick (tK 12) Fw (tK 19)) 4,oM 21 20 4,⟨(some 22),(.fieldAddr 47 (tK 1) 2),0,(some (some 21,false))⟩,⟨(some 23),(.load 26 (tK 22)),26,(some (some 21,false))⟩,⟨(some 24),(.call ⟨(.builtin .len), #[(tK 23)], #[26]⟩),3,(some (some 21,false))⟩,⟨(some 25),cK,0,(some (some 21,false))⟩,⟨(some 26),(.load 45 (tK 25)),45,(some (some 21,false))⟩,⟨(some 27),(.call ⟨(.builtin .len), #[(tK 26)], #[45]⟩),3,(some (some 21,false))⟩,⟨(some 28),(.binOp .neq 3 (tK 24) (tK 27) 3),4,(some (some 21,false))⟩,oX 29 (.pick (tK 21) Fw (tK 28)) 4,
 oM 30 29 4,⟨(some 31),(.fieldAddr 47 (tK 1) 2),0,(some (some 30,false))⟩,⟨(some 32),(.load 26 (tK 31)),26,(some (some 30,false))⟩,⟨(some 33),(.call ⟨(.value (.func 107)), #[(tK 32),(iK 0),(iK 9)], #[26,3,3]⟩),4,(some (some 30,false))⟩,⟨(some 34),(.unOp .not 4 (tK 33)),4,(some (some 30,false))⟩,oX 35 (.pick (tK 30) Fw (tK 34)) 4]) (.cond (tK 35) (.seq (.ops [oX 2 CV 4]) .ret) .skip)) (.seq (.seq (.ops [oF 36 47 1 0,oL 37 45 36 45,oN 38 37 45,oX 39 (.move (iK 0)) 3]) (.block 0 nN)) (.seq (.ops [oX 2 (.assign Fw) 4]) .ret)))
theorem A28:Try.f60.body.map (Ba lends)=some k60:=by kernel_rfl
theorem AEL:Bz Try.f60 1=true:=by kernel_rfl
theorem c60{a l:List D}{r:D×List D}(h:C8 Y.env k60 (Fa Ac l.length [cc 2] r) (entry a l))(ha:a.length=1):Y.call 60 a l=some r:=
 Aa (Y:=Y) rfl Try.func60 (ha▸AEL) A28 h
def Dk(A9:Am)(AU:AL)(AC:AL)(Cq:Int)(Fe:Int)(s:St):Prop:=s.v 1=D.box [bh 123 (AP (fun x=>bh 125 (Au .i64 .i64 x)) A9),bh 3 (AP (bd .i64) AU),bh 3 (AP (bd .i64) AC)]∧s.v 3=bd .i64 Cq∧s.v 37=bh 123 (AP (fun x=>bh 125 (Au .i64 .i64 x)) A9)∧s.v 38=bd .i64 (A9.length:Int)∧s.v 39=bd .i64 Cq∧s.v 47=bh 125 (Au .i64 .i64 (A9.getD Cq.toNat be))∧s.v 48=bd .i64 ((A9.getD Cq.toNat be).length:Int)∧s.v 49=bd .i64 Fe
def Dl(A9:Am)(AU:AL)(AC:AL)(Cq:Int)(r:Unit⊕Unit)(ex:Ex)(s:St):Prop:=match r with
 | .inl q=>ex= .ret∧s.v 2=b9 false
 | .inr q=>ex= .exit 2∧s.v 1=D.box [bh 123 (AP (fun x=>bh 125 (Au .i64 .i64 x)) A9),bh 3 (AP (bd .i64) AU),bh 3 (AP (bd .i64) AC)]∧s.v 37=bh 123 (AP (fun x=>bh 125 (Au .i64 .i64 x)) A9)∧s.v 38=bd .i64 (A9.length:Int)∧s.v 39=bd .i64 Cq
theorem UF(A9:Am)(AU:AL)(AC:AL)(Cq:Int){v:Int}{s:St}{r:Unit⊕Unit}(h:Jk A9 AU AC Cq v=some r)(hM:Dk A9 AU AC Cq v s):C8 Y.env nM (Dl A9 AU AC Cq r) s:=by
 unfold Jk at h;refine BU (c:=Xj) (fun v=>Gd A9 AU AC Cq v) (fun v s=>Dk A9 AU AC Cq v s) (Dl A9 AU AC Cq) ?_ h hM;clear h hM s v r;intro Fe s o hM h;unfold Gd at h;unfold Dk at hM;obtain⟨m0,m1,m2,m3,m4,m5,m6,m7⟩:=hM;unfold Xj;by_cases e13:Fe<((A9.getD Cq.toNat be).length:Int)
 ·rw [if_pos e13]at h;obtain⟨e14,h⟩:=Bw h;have c15:=KQ (BJ (A9.getD Cq.toNat be) Fe.toNat) (0:Int) (ca.wrap ((A9.length:Int)-1));by_cases e16:(Iq (BJ (A9.getD Cq.toNat be) Fe.toNat) (0:Int) (ca.wrap ((A9.length:Int)-1)))=true
  ·rw [if_pos e16]at h;obtain⟨e17,h⟩:=Bw h;have ow:=KQ (CO (A9.getD Cq.toNat be) Fe.toNat) (0:Int) (ca.wrap (((A9.getD ((BJ (A9.getD Cq.toNat be) Fe.toNat).toNat) be).length:Int)-1));by_cases e19:(Iq (CO (A9.getD Cq.toNat be) Fe.toNat) (0:Int) (ca.wrap (((A9.getD ((BJ (A9.getD Cq.toNat be) Fe.toNat).toNat) be).length:Int)-1)))=true
   ·rw [if_pos e19]at h;obtain⟨e20,h⟩:=Bw h;by_cases e21:(((BJ (A9.getD ((BJ (A9.getD Cq.toNat be) Fe.toNat).toNat) be) ((CO (A9.getD Cq.toNat be) Fe.toNat).toNat))==Cq)&&((CO (A9.getD ((BJ (A9.getD Cq.toNat be) Fe.toNat).toNat) be) ((CO (A9.getD Cq.toNat be) Fe.toNat).toNat))==Fe))=true
    ·rw [if_pos e21]at h
     obtain rfl:=Option.some.inj h
     simp (maxDischargeDepth:=9) only [↓AQ,AR,Ah,↓reduceIte,bj,bk,bl,bm,bo,bp,br,bt,bw,bx,bO,b0,b3,b4,b5,b6,b7,m0,m1,m2,m3,m4,m5,m6,m7,e13,e14.1,e14.2,c15,e16,e17.1,e17.2,ow,e19,e20.1,e20.2,e21,Dk,Dl,Ch,Ci,Cj]<;>(repeat' apply A7)<;>first|rfl|exact⟨_,rfl⟩|exact⟨_,_,rfl⟩|simp [AP,A8]
    ·rw [if_neg e21]at h;have e21f:(((BJ (A9.getD ((BJ (A9.getD Cq.toNat be) Fe.toNat).toNat) be) ((CO (A9.getD Cq.toNat be) Fe.toNat).toNat))==Cq)&&((CO (A9.getD ((BJ (A9.getD Cq.toNat be) Fe.toNat).toNat) be) ((CO (A9.getD Cq.toNat be) Fe.toNat).toNat))==Fe))=false:=KR.mpr e21
     obtain rfl:=Option.some.inj h
     simp (maxDischargeDepth:=9) only [↓AQ,AR,Ah,↓reduceIte,bj,bk,bl,bm,bo,bp,br,bt,bw,bx,bO,b0,b3,b4,b5,b6,b7,m0,m1,m2,m3,m4,m5,m6,m7,e13,e14.1,e14.2,c15,e16,e17.1,e17.2,ow,e19,e20.1,e20.2,e21f,Dk,Dl,Ch,Ci,Cj]<;>(repeat' apply A7)<;>first|rfl|exact⟨_,rfl⟩|exact⟨_,_,rfl⟩|simp [AP,A8]
   ·rw [if_neg e19]at h;have e19f:(Iq (CO (A9.getD Cq.toNat be) Fe.toNat) (0:Int) (ca.wrap (((A9.getD ((BJ (A9.getD Cq.toNat be) Fe.toNat).toNat) be).length:Int)-1)))=false:=KR.mpr e19
    obtain rfl:=Option.some.inj h
    simp (maxDischargeDepth:=9) only [↓AQ,AR,Ah,↓reduceIte,bj,bk,bl,bm,bo,bp,br,bt,bw,bx,bO,b0,b3,b4,b5,b6,b7,m0,m1,m2,m3,m4,m5,m6,m7,e13,e14.1,e14.2,c15,e16,e17.1,e17.2,ow,e19f,Dk,Dl,Ch,Ci,Cj]<;>(repeat' apply A7)<;>first|rfl|exact⟨_,rfl⟩|exact⟨_,_,rfl⟩|simp [AP,A8]
  ·rw [if_neg e16]at h;have e16f:(Iq (BJ (A9.getD Cq.toNat be) Fe.toNat) (0:Int) (ca.wrap ((A9.length:Int)-1)))=false:=KR.mpr e16
   obtain rfl:=Option.some.inj h
   simp (maxDischargeDepth:=9) only [↓AQ,AR,Ah,↓reduceIte,bj,bk,bl,bm,bo,bp,br,bt,bw,bx,bO,b0,b3,b4,b5,b6,b7,m0,m1,m2,m3,m4,m5,m6,m7,e13,e14.1,e14.2,c15,e16f,Dk,Dl,Ch,Ci,Cj]<;>(repeat' apply A7)<;>first|rfl|exact⟨_,rfl⟩|exact⟨_,_,rfl⟩|simp [AP,A8]
 ·rw [if_neg e13]at h
  obtain rfl:=Option.some.inj h
  simp (maxDischargeDepth:=9) only [↓AQ,AR,Ah,↓reduceIte,bj,bk,bl,bm,bo,bp,br,bt,bw,bx,bO,b0,b3,b4,b5,b6,b7,m0,m1,m2,m3,m4,m5,m6,m7,e13,Dk,Dl,Ch,Ci,Cj]<;>(repeat' apply A7)<;>first|rfl|exact⟨_,rfl⟩|exact⟨_,_,rfl⟩|simp [AP,A8]
def EN(A9:Am)(AU:AL)(AC:AL)(Cq:Int)(s:St):Prop:=s.v 1=D.box [bh 123 (AP (fun x=>bh 125 (Au .i64 .i64 x)) A9),bh 3 (AP (bd .i64) AU),bh 3 (AP (bd .i64) AC)]∧s.v 37=bh 123 (AP (fun x=>bh 125 (Au .i64 .i64 x)) A9)∧s.v 38=bd .i64 (A9.length:Int)∧s.v 39=bd .i64 Cq
def EO(A9:Am)(AU:AL)(AC:AL)(r:Unit⊕Unit)(ex:Ex)(s:St):Prop:=match r with
 | .inl q=>ex= .ret∧s.v 2=b9 false
 | .inr q=>ex= .exit 0
theorem UG(A9:Am)(AU:AL)(AC:AL){v:Int}{s:St}{r:Unit⊕Unit}(h:Jl A9 AU AC v=some r)(hM:EN A9 AU AC v s):C8 Y.env nN (EO A9 AU AC r) s:=by
 unfold Jl at h;refine BU (c:=Xk) (fun v=>Gf A9 AU AC v) (fun v s=>EN A9 AU AC v s) (EO A9 AU AC) ?_ h hM;clear h hM s v r;intro Cq s o hM h;unfold Gf at h;unfold EN at hM;obtain⟨m0,m1,m2,m3⟩:=hM;unfold Xk;by_cases e10:Cq<(A9.length:Int)
 ·rw [if_pos e10]at h;obtain⟨e11,h⟩:=Bw h;by_cases e12:6<((A9.getD Cq.toNat be).length:Int)
  ·rw [if_pos e12]at h
   obtain rfl:=Option.some.inj h
   simp (maxDischargeDepth:=9) only [↓AQ,AR,Ah,↓reduceIte,bj,bk,bl,bm,bo,bp,br,bt,bw,bx,bO,b0,b3,b4,b5,b6,b7,m0,m1,m2,m3,e10,e11.1,e11.2,e12,EN,EO,Ch,Ci,Cj]<;>(repeat' apply A7)<;>first|rfl|exact⟨_,rfl⟩|exact⟨_,_,rfl⟩|simp [AP,A8]
  ·rw [if_neg e12]at h;obtain⟨AY,hl14,h⟩:=Ar h;try dsimp only at h
   simp (maxDischargeDepth:=9) only [↓AQ,AR,Ah,↓reduceIte,bj,bk,bl,bm,bo,bp,br,bt,bw,bx,bO,b0,b3,b4,b5,b6,b7,m0,m1,m2,m3,e10,e11.1,e11.2,e12];refine BF (UF A9 AU AC Cq hl14 ?_) ?_
   ·simp (maxDischargeDepth:=9) only [↓AQ,AR,Ah,↓reduceIte,bj,bk,bl,bm,bo,bp,br,bt,bw,bx,bO,b0,b3,b4,b5,b6,b7,m0,m1,m2,m3,e10,e11.1,e11.2,e12,Dk]<;>(repeat' apply A7)<;>first|rfl|exact⟨_,rfl⟩|exact⟨_,_,rfl⟩|simp [AP,A8]
   ·intro ex14 s14 hX14;rcases AY with q1000_|q1000_
    ·unfold Dl at hX14;dsimp only at hX14 h;obtain⟨rfl,n14_0⟩:=hX14
     obtain rfl:=Option.some.inj h
     simp (maxDischargeDepth:=9) only [↓AQ,AR,Ah,↓reduceIte,bj,bk,bl,bm,bo,bp,br,bt,bw,bx,bO,b0,b3,b4,b5,b6,b7,e10,e11.1,e11.2,e12,n14_0,EN,EO,Ch,Ci,Cj]<;>(repeat' apply A7)<;>first|rfl|exact⟨_,rfl⟩|exact⟨_,_,rfl⟩|simp [AP,A8]
    ·unfold Dl at hX14;dsimp only at hX14 h;obtain⟨rfl,n14_0,n14_1,n14_2,n14_3⟩:=hX14
     obtain rfl:=Option.some.inj h
     simp (maxDischargeDepth:=9) only [↓AQ,AR,Ah,↓reduceIte,bj,bk,bl,bm,bo,bp,br,bt,bw,bx,bO,b0,b3,b4,b5,b6,b7,e10,e11.1,e11.2,e12,n14_0,n14_1,n14_2,n14_3,EN,EO,Ch,Ci,Cj]<;>(repeat' apply A7)<;>first|rfl|exact⟨_,rfl⟩|exact⟨_,_,rfl⟩|simp [AP,A8]
 ·rw [if_neg e10]at h
  obtain rfl:=Option.some.inj h
  simp (maxDischargeDepth:=9) only [↓AQ,AR,Ah,↓reduceIte,bj,bk,bl,bm,bo,bp,br,bt,bw,bx,bO,b0,b3,b4,b5,b6,b7,m0,m1,m2,m3,e10,EN,EO,Ch,Ci,Cj]<;>(repeat' apply A7)<;>first|rfl|exact⟨_,rfl⟩|exact⟨_,_,rfl⟩|simp [AP,A8]
theorem Va(A9:Am)(AU:AL)(AC:AL){r:Bool}(h:Px A9 AU AC=some r):Y.call 60 [ce [bh 123 (AP (fun x=>bh 125 (Au .i64 .i64 x)) A9),bh 3 (AP (bd .i64) AU),bh 3 (AP (bd .i64) AC)]] []=some (b9 r,[]):=by
 refine c60 ?_ rfl;unfold k60;unfold Px at h;have c1:=KQ (A9.length:Int) (1:Int) (40:Int);by_cases e2:(Iq (A9.length:Int) (1:Int) (40:Int))=true
 ·rw [if_pos e2]at h;obtain⟨e3,h⟩:=Bw h;have c4:=dG AU (A9.length:Int) e3;by_cases e5:(Ox AU (A9.length:Int))=true
  ·rw [if_pos e5]at h;by_cases e6:(AC.length:Int)=(A9.length:Int)
   ·rw [if_pos e6]at h;obtain⟨e7,h⟩:=Bw h;have c8:=Tu AC (0:Int) (9:Int) e7;by_cases e9:(EJ AC (0:Int) (9:Int))=true
    ·rw [if_pos e9]at h;obtain⟨CY,hl11,h⟩:=Ar h;try dsimp only at h
     simp (maxDischargeDepth:=9) only [↓AQ,AR,Ah,↓reduceIte,bj,bk,bl,bm,bo,bp,br,bt,bw,bx,bO,b0,b3,b4,b5,b6,b7,c1,e2,e3,c4,e5,decide_eq_true e6,e7,c8,e9];refine BF (UG A9 AU AC hl11 ?_) ?_
     ·simp (maxDischargeDepth:=9) only [↓AQ,AR,Ah,↓reduceIte,bj,bk,bl,bm,bo,bp,br,bt,bw,bx,bO,b0,b3,b4,b5,b6,b7,c1,e2,e3,c4,e5,decide_eq_true e6,e7,c8,e9,EN]<;>(repeat' apply A7)<;>first|rfl|exact⟨_,rfl⟩|exact⟨_,_,rfl⟩|simp [AP,A8]
     ·intro ex11 s11 hX11;rcases CY with q1001_|q1001_
      ·unfold EO at hX11;dsimp only at hX11 h;obtain⟨rfl,n11_0⟩:=hX11
       obtain rfl:=Option.some.inj h
       simp (maxDischargeDepth:=9) only [↓AQ,AR,Ah,↓reduceIte,bj,bk,bl,bm,bo,bp,br,bt,bw,bx,bO,b0,b3,b4,b5,b6,b7,c1,e2,e3,c4,e5,decide_eq_true e6,e7,c8,e9,n11_0]<;>(repeat' apply A7)<;>first|rfl|exact⟨_,rfl⟩|exact⟨_,_,rfl⟩|simp [AP,A8]
      ·unfold EO at hX11;dsimp only at hX11 h
       obtain rfl:=hX11
       obtain rfl:=Option.some.inj h
       simp (maxDischargeDepth:=9) only [↓AQ,AR,Ah,↓reduceIte,bj,bk,bl,bm,bo,bp,br,bt,bw,bx,bO,b0,b3,b4,b5,b6,b7,c1,e2,e3,c4,e5,decide_eq_true e6,e7,c8,e9]<;>(repeat' apply A7)<;>first|rfl|exact⟨_,rfl⟩|exact⟨_,_,rfl⟩|simp [AP,A8]
    ·rw [if_neg e9]at h;have e9f:(EJ AC (0:Int) (9:Int))=false:=KR.mpr e9
     obtain rfl:=Option.some.inj h
     simp (maxDischargeDepth:=9) only [↓AQ,AR,Ah,↓reduceIte,bj,bk,bl,bm,bo,bp,br,bt,bw,bx,bO,b0,b3,b4,b5,b6,b7,c1,e2,e3,c4,e5,decide_eq_true e6,e7,c8,e9f]<;>(repeat' apply A7)<;>first|rfl|exact⟨_,rfl⟩|exact⟨_,_,rfl⟩|simp [AP,A8]
   ·rw [if_neg e6]at h
    obtain rfl:=Option.some.inj h
    simp (maxDischargeDepth:=9) only [↓AQ,AR,Ah,↓reduceIte,bj,bk,bl,bm,bo,bp,br,bt,bw,bx,bO,b0,b3,b4,b5,b6,b7,c1,e2,e3,c4,e5,e6]<;>(repeat' apply A7)<;>first|rfl|exact⟨_,rfl⟩|exact⟨_,_,rfl⟩|simp [AP,A8]
  ·rw [if_neg e5]at h;have e5f:(Ox AU (A9.length:Int))=false:=KR.mpr e5
   obtain rfl:=Option.some.inj h
   simp (maxDischargeDepth:=9) only [↓AQ,AR,Ah,↓reduceIte,bj,bk,bl,bm,bo,bp,br,bt,bw,bx,bO,b0,b3,b4,b5,b6,b7,c1,e2,e3,c4,e5f]<;>(repeat' apply A7)<;>first|rfl|exact⟨_,rfl⟩|exact⟨_,_,rfl⟩|simp [AP,A8]
 ·rw [if_neg e2]at h;have e2f:(Iq (A9.length:Int) (1:Int) (40:Int))=false:=KR.mpr e2
  obtain rfl:=Option.some.inj h
  simp (maxDischargeDepth:=9) only [↓AQ,AR,Ah,↓reduceIte,bj,bk,bl,bm,bo,bp,br,bt,bw,bx,bO,b0,b3,b4,b5,b6,b7,c1,e2f]<;>(repeat' apply A7)<;>first|rfl|exact⟨_,rfl⟩|exact⟨_,_,rfl⟩|simp [AP,A8]
def Py(es:Am)(v i:Nat):Bool:=
 Iq (BJ (es.getD v be) i) 0 ((es.length:Int)-1)&&
 (Iq (CO (es.getD v be) i) 0 (((es.getD (BJ (es.getD v be) i).toNat be).length:Int)-1)&&
 ((BJ (es.getD (BJ (es.getD v be) i).toNat be) (CO (es.getD v be) i).toNat==(v:Int))&&(CO (es.getD (BJ (es.getD v be) i).toNat be) (CO (es.getD v be) i).toNat==(i:Int))))
theorem Qe(es:Am)(v i:Nat):Py es v i=(Iq (BJ (es.getD v be) i) 0 ((es.length:Int)-1)&&
 (Iq (CO (es.getD v be) i) 0 (((es.getD (BJ (es.getD v be) i).toNat be).length:Int)-1)&&
 ((BJ (es.getD (BJ (es.getD v be) i).toNat be) (CO (es.getD v be) i).toNat==(v:Int))&&(CO (es.getD (BJ (es.getD v be) i).toNat be) (CO (es.getD v be) i).toNat==(i:Int))))):=rfl
def Pz(es:Am)(v:Nat):Bool:=decide ((es.getD v be).length≤6)&&(an (es.getD v be).length).all (Py es v)
theorem OA(es:Am)(v:Nat):Pz es v=(decide ((es.getD v be).length≤6)&&(an (es.getD v be).length).all (Py es v)):=rfl
def IQ(es:Am)(ids ins:AL):Bool:=
 Iq es.length 1 40&&(Ox ids es.length&&(decide ((ins.length:Int)=es.length)&&(EJ ins 0 9&&(an es.length).all (Pz es))))
theorem nO(es:Am)(ids ins:AL)(h:DL es)(v:Nat):Hm es ids ins (v:Int) 0=some (if(an (es.getD v be).length).all (Py es v)=true then .inr ()else .inl ()):=by
 have h1:=h.1;have h2:=h.getD v;unfold Hm;refine IZ (fun x=>ET es ids ins (v:Int) x) (fun i=>(i:Int)) (es.getD v be).length (Py es v) (.inl ()) (.inr ()) ?_ ?_
 ·intro i hi;have h3:=h.getD (BJ (es.getD v be) i).toNat;simp only [ET,H7,H6,K4];rw [Qe,if_pos (Bc hi),Br (by omega),Ce,Lb _ (by omega),Lb _ (by omega),Kb i (by omega)]
  cases r1:Iq (BJ (es.getD v be) i) 0 ((es.length:Int)-1)with
  |false=>simp
  |true=>
   have r1':=KA.1 r1;rw [if_pos rfl,Br (by omega),Ce]
   cases r2:Iq (CO (es.getD v be) i) 0 (((es.getD (BJ (es.getD v be) i).toNat be).length:Int)-1)with
   |false=>simp
   |true=>
    have r2':=KA.1 r2;rw [if_pos rfl,Br (by omega),Br (by omega),P9,P9]
 ·simp only [ET,K4];rw [if_neg (Ap _)]
theorem nP(es:Am)(ids ins:AL)(h:DL es)(v:Nat):Jk es ids ins (v:Int) 0=some (if(an (es.getD v be).length).all (Py es v)=true then .inr ()else .inl ()):=by
 have h1:=h.1;have h2:=h.getD v;unfold Jk;refine IZ (fun x=>Gd es ids ins (v:Int) x) (fun i=>(i:Int)) (es.getD v be).length (Py es v) (.inl ()) (.inr ()) ?_ ?_
 ·intro i hi;have h3:=h.getD (BJ (es.getD v be) i).toNat;simp only [Gd,K4];rw [Qe,if_pos (Bc hi),Br (by omega),Lb _ (by omega),Lb _ (by omega),Kb i (by omega)]
  cases r1:Iq (BJ (es.getD v be) i) 0 ((es.length:Int)-1)with
  |false=>simp
  |true=>
   have r1':=KA.1 r1;rw [if_pos rfl,Br (by omega)]
   cases r2:Iq (CO (es.getD v be) i) 0 (((es.getD (BJ (es.getD v be) i).toNat be).length:Int)-1)with
   |false=>simp
   |true=>
    have r2':=KA.1 r2;rw [if_pos rfl,Br (by omega),P9,P9]
 ·simp only [Gd,K4];rw [if_neg (Ap _)]
theorem nQ(es:Am)(ids ins:AL)(h:DL es):Ho es ids ins 0=some (if(an es.length).all (Pz es)=true then .inr ()else .inl ()):=by
 have h1:=h.1;unfold Ho;refine IZ (fun x=>EU es ids ins x) (fun i=>(i:Int)) es.length (Pz es) (.inl ()) (.inr ()) ?_ ?_
 ·intro v hv;simp only [EU,K4];rw [OA,if_pos (Bc hv),Br (by omega),nO es ids ins h v,Ce,Kb v (by omega)]
  by_cases h6:(es.getD v be).length≤6
  ·rw [if_neg (by omega),decide_eq_true h6,P9]
   cases (an (es.getD v be).length).all (Py es v)<;>rfl
  ·rw [if_pos (by omega),decide_eq_false h6];rfl
 ·simp only [EU];rw [if_neg (Ap _)]
theorem nR(es:Am)(ids ins:AL)(h:DL es):Jl es ids ins 0=some (if(an es.length).all (Pz es)=true then .inr ()else .inl ()):=by
 have h1:=h.1;unfold Jl;refine IZ (fun x=>Gf es ids ins x) (fun i=>(i:Int)) es.length (Pz es) (.inl ()) (.inr ()) ?_ ?_
 ·intro v hv;simp only [Gf,K4];rw [OA,if_pos (Bc hv),Br (by omega),nP es ids ins h v,Ce,Kb v (by omega)]
  by_cases h6:(es.getD v be).length≤6
  ·rw [if_neg (by omega),decide_eq_true h6,P9]
   cases (an (es.getD v be).length).all (Py es v)<;>rfl
  ·rw [if_pos (by omega),decide_eq_false h6];rfl
 ·simp only [Gf];rw [if_neg (Ap _)]
theorem UH(es:Am)(ids ins:AL)(h:DL es)(h2:ids.length<1099511627776)(h3:ins.length<1099511627776):LM es ids ins=some (IQ es ids ins):=by
 unfold LM IQ;rw [Br h2,nQ es ids ins h];unfold MZ;rw [Br h3]
 cases Iq es.length 1 40 with
 |false=>rfl
 |true=>
  cases Ox ids es.length with
  |false=>rfl
  |true=>
   by_cases hl:(ins.length:Int)=es.length
   ·rw [if_pos hl,decide_eq_true hl]
    cases EJ ins 0 9 with
    |false=>rfl
    |true=>cases (an es.length).all (Pz es)<;>rfl
   ·rw [if_neg hl,decide_eq_false hl];rfl
theorem Zd(es:Am)(ids ins:AL)(h:DL es)(h2:ids.length<1099511627776)(h3:ins.length<1099511627776):Px es ids ins=some (IQ es ids ins):=by
 unfold Px IQ;rw [Br h2,Br h3,nR es ids ins h]
 cases Iq es.length 1 40 with
 |false=>rfl
 |true=>
  cases Ox ids es.length with
  |false=>rfl
  |true=>
   by_cases hl:(ins.length:Int)=es.length
   ·rw [if_pos hl,decide_eq_true hl]
    cases EJ ins 0 9 with
    |false=>rfl
    |true=>cases (an es.length).all (Pz es)<;>rfl
   ·rw [if_neg hl,decide_eq_false hl];rfl
theorem UI(A9:Am)(AU:AL)(AC:AL)(h0:DL A9)(h1:AU.length<1099511627776)(h2:AC.length<1099511627776):Y.call 67 [ce [bh 123 (AP (fun x=>bh 125 (Au .i64 .i64 x)) A9),bh 3 (AP (bd .i64) AU),bh 3 (AP (bd .i64) AC)]] []=some (b9 (IQ A9 AU AC),[]):=Qd A9 AU AC (UH A9 AU AC h0 h1 h2)
theorem Ze(A9:Am)(AU:AL)(AC:AL)(h0:DL A9)(h1:AU.length<1099511627776)(h2:AC.length<1099511627776):Y.call 60 [ce [bh 123 (AP (fun x=>bh 125 (Au .i64 .i64 x)) A9),bh 3 (AP (bd .i64) AU),bh 3 (AP (bd .i64) AC)]] []=some (b9 (IQ A9 AU AC),[]):=Va A9 AU AC (Zd A9 AU AC h0 h1 h2)
end Go.Proofs.Ytclkfhhdikfcpaa
end
