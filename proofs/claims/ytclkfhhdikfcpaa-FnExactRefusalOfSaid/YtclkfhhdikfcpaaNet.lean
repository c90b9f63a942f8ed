/- Functions of the program as plain functions, and what they compute. Conditions: those in each lemma. -/
import Derived.Test.YtclkfhhdikfcpaaL6
import Derived.Test.YtclkfhhdikfcpaaDt
open Dv.D renaming int → bh,sl → b9,own → cb,bool → cc
open Nat renaming reduceEqDiff → bk,reduceLT → bl,reduceLeDiff → bm,reduceAdd → bo,reduceMul → bp,reduceMod → br,reduceDiv → bt,reducePow → bw,reduceSub → bx,reduceBEq → bO
open Int renaming reduceLE → b0,reduceLT → b3,reduceEq → b4,reduceSub → b5,reduceAdd → b6,reduceToNat → b7,reduceNeg → b8
open Inhabited renaming default → bj
open Sum renaming inr → ca,inl → cd
open Go.ResultVar renaming tmp → ce
open Go.IntKind renaming i64 → cf
open List renaming replicate → ao,pairwise_cons → cg
noncomputable section
namespace Go.Proofs.Ytclkfhhdikfcpaa
open Go Dv
set_option linter.unusedSimpArgs false
set_option linter.unusedVariables false
set_option maxRecDepth 100000
set_option maxHeartbeats 4000000
def Rj(l:au):Prop:=l.length<1099511627776∧ ∀x∈l,x.length<1099511627776
theorem Rj.nil:Rj []:=⟨by decide,fun _ h=>by cases h⟩
theorem Rj.at{l:au}(h:Rj l)(i:Nat)(hi:i<l.length):l[i].length<1099511627776:=h.2 _ (LP hi)
instance (l:au):Decidable (Rj l):=by unfold Rj;infer_instance
theorem Xq{α:Type}[Inhabited α](xs:List α)(i:Nat)(h:i<xs.length)(z:α):(xs.take i++ao (xs.length-i) z).set i xs[i]=xs.take (i+1)++ao (xs.length-(i+1)) z:=by
 have e:xs.length-i=(xs.length-(i+1))+1:=by omega
 rw [e,iX,List.set_append_right _ _ (by simp;omega),List.take_succ_eq_append_getElem h]
 have:i-(xs.take i).length=0:=by simp;omega
 rw [this,Yk,Rn];rfl
def GH(a:AP)(out:AP)(i:Int):Option ((AP×Int)⊕(AP)):= if i<(a.length:Int)then ck (0≤i∧i.toNat<a.length)<| ck (0≤i∧i.toNat<out.length)<| some (cd ((out.set i.toNat (a.getD i.toNat bj)),cf.wrap (i+1))) else some (ca out)
def Ky(a:AP)(v:AP×Int):Option (AP):=JB (fun v=>GH a v.1 v.2) v
def Pz(a:AP):Option (AP):= ck (0≤(a.length:Int)∧(a.length:Int)<1099511627776)<| (Ky a ((ao a.length 0),0)).bind fun Ae=> some Ae
def Xr:SC:= .seq (.seq (.ops [oM 8 4 3,oM 9 0 26,oN 10 9 26,oB 11 .lss 3 (tK 8) (tK 10) 3 4]) (.cond (tK 11) .skip (.exit 0))) (.seq (.block 1 (.ops [oM 14 3 26,oM 15 4 3,oM 16 0 26,oM 17 4 3,oI 18 26 16 17,oL 19 3 18 3,oI 20 26 14 15,oS 3 20 19])) (.ops [oM 12 4 3,oB 13 .add 3 (tK 12) (iK 1) 3 3,oA 4 13 3]))
def ow:SC:= .loop Xr
def k66:SC:= .seq (.ops [oX 2 Qn 26]) (.seq (.ops [oM 5 0 26,oN 6 5 26,oX 7 (.makeSlice 26 (tK 6) (tK 6)) 26,oA 3 7 26]) (.seq (.seq (.ops [oX 4 (.assign (iK 0)) 3]) (.block 0 ow)) (.seq (.ops [oM 21 3 26,oA 2 21 26]) .ret)))
theorem A2U:Try.f66.body.map (BV lends)=some k66:=by kernel_rfl
theorem AFA:Bl Try.f66 1=true:=by kernel_rfl
theorem c66{a l:List D}{r:D×List D}(h:Br Y.env k66 (Fa Ag l.length [ce 2] r) (entry a l))(ha:a.length=1):Y.call 66 a l=some r:=
 Af (Y:=Y) rfl Try.func66 (ha▸AFA) A2U h
def GI(a:AP)(out:AP)(i:Int)(s:St):Prop:=s.v 0=b9 3 (AR (bh .i64) a)∧s.v 3=cb 3 (AR (bh .i64) out)∧s.v 4=bh .i64 i
def IE(a:AP)(r:AP)(ex:Ex)(s:St):Prop:=ex= .exit 0∧s.v 3=cb 3 (AR (bh .i64) r)
theorem UO(a:AP){v:AP×Int}{s:St}{r:AP}(h:Ky a v=some r)(hM:GI a v.1 v.2 s):Br Y.env ow (IE a r) s:=by
 unfold Ky at h;refine BX (c:=Xr) (fun v=>GH a v.1 v.2) (fun v s=>GI a v.1 v.2 s) (IE a) ?_ h hM;clear h hM s v r;intro v s o hM h;obtain⟨out,i⟩:=v;dsimp only at h hM;unfold GH at h;unfold GI at hM;obtain⟨m0,m1,m2⟩:=hM;unfold Xr;by_cases e2:i<(a.length:Int)
 ·rw [if_pos e2]at h;obtain⟨e3,h⟩:=Bw h;obtain⟨e4,h⟩:=Bw h
  obtain rfl:=Option.some.inj h
  simp (maxDischargeDepth:=9) only [↓AU,AV,Ap,↓reduceIte,bk,bl,bm,bo,bp,br,bt,bw,bx,bO,b0,b3,b4,b5,b6,b7,b8,m0,m1,m2,e2,e3.1,e3.2,e4.1,e4.2,GI,IE,Ca,Cb,Cc]<;>(repeat' apply A7)<;>first|rfl|exact⟨_,rfl⟩|exact⟨_,_,rfl⟩|simp [AR,AB]
 ·rw [if_neg e2]at h
  obtain rfl:=Option.some.inj h
  simp (maxDischargeDepth:=9) only [↓AU,AV,Ap,↓reduceIte,bk,bl,bm,bo,bp,br,bt,bw,bx,bO,b0,b3,b4,b5,b6,b7,b8,m0,m1,m2,e2,GI,IE,Ca,Cb,Cc]<;>(repeat' apply A7)<;>first|rfl|exact⟨_,rfl⟩|exact⟨_,_,rfl⟩|simp [AR,AB]
theorem Vw(a:AP){r:AP}(h:Pz a=some r):Y.call 66 [b9 3 (AR (bh .i64) a)] []=some (cb 3 (AR (bh .i64) r),[]):=by
 refine c66 ?_ rfl;unfold k66;unfold Pz at h;obtain⟨e1,h⟩:=Bw h;obtain⟨Ae,hl3,h⟩:=BD h;try dsimp only at h
 simp (maxDischargeDepth:=9) only [↓AU,AV,Ap,↓reduceIte,bk,bl,bm,bo,bp,br,bt,bw,bx,bO,b0,b3,b4,b5,b6,b7,b8,e1.1,e1.2];refine BL (UO a hl3 ?_) ?_
 ·simp (maxDischargeDepth:=9) only [↓AU,AV,Ap,↓reduceIte,bk,bl,bm,bo,bp,br,bt,bw,bx,bO,b0,b3,b4,b5,b6,b7,b8,e1.1,e1.2,GI]<;>(repeat' apply A7)<;>first|rfl|exact⟨_,rfl⟩|exact⟨_,_,rfl⟩|simp [AR,AB]
 ·intro ex3 s3 hX3;unfold IE at hX3;obtain⟨rfl,n3_0⟩:=hX3
  obtain rfl:=Option.some.inj h
  simp (maxDischargeDepth:=9) only [↓AU,AV,Ap,↓reduceIte,bk,bl,bm,bo,bp,br,bt,bw,bx,bO,b0,b3,b4,b5,b6,b7,b8,e1.1,e1.2,n3_0]<;>(repeat' apply A7)<;>first|rfl|exact⟨_,rfl⟩|exact⟨_,_,rfl⟩|simp [AR,AB]
theorem aD(a:AP)(h:a.length<1099511627776):Pz a=some a:=by
 have key:=CJ (fun v=>GH a v.1 v.2) (fun i=>(a.take i++ao (a.length-i) 0,(i:Int))) a.length a ?_ ?_
 ·unfold Pz Ky;rw [Bq (by omega)]
  simp only [List.take_zero,PP,Nat.sub_zero,LQ]at key;rw [key];rfl
 ·intro i hi;simp only [GH];rw [if_pos (Bb hi),Bq (I8 hi),Bq (I8 (by simp;omega)),J5 _ _ hi,K3,Xq a i hi 0,KO i (by omega)]
 ·simp only [GH];rw [if_neg (BB _)];simp
theorem Rk(a:AP)(h0:a.length<1099511627776):Y.call 66 [b9 3 (AR (bh .i64) a)] []=some (cb 3 (AR (bh .i64) a),[]):=Vw a (aD a h0)
def GJ(a:AP)(b:AP)(i:Int):Option ((Int)⊕(Unit⊕Unit)):= if i<(a.length:Int)then ck (0≤i∧i.toNat<a.length)<| ck (0≤i∧i.toNat<b.length)<| if(a.getD i.toNat bj)=(b.getD i.toNat bj)then some (cd (cf.wrap (i+1))) else some (ca (cd ())) else some (ca (ca ()))
def Kz(a:AP)(b:AP)(v:Int):Option (Unit⊕Unit):=JB (fun v=>GJ a b v) v
def Q3(a:AP)(b:AP):Option (Bool):=
 if(a.length:Int)=(b.length:Int)then
  (Kz a b 0).bind fun Ae=>
  match Ae with
  | .inl q1000_=>
   some false
  | .inr q1000_=>
   some true
 else
  some false
abbrev tL:List Nat:=[17,18,19,20,21,22,23,24,25]
def Xt:SC:= .seq (.seq (.ops [oM 11 5 3,oM 12 0 26,oN 13 12 26,oB 14 .lss 3 (tK 11) (tK 13) 3 4]) (.cond (tK 14) .skip (.exit 0))) (.seq (.block 1 (.seq (.draws [(⟨[17,0,0],tL,[17]⟩,oM 17 0 26),(⟨[18,5,5],tL,[18]⟩,oM 18 5 3),(⟨[19,17,18,0,5],tL,[19]⟩,oI 19 26 17 18),(⟨[20,19,0],tL,[20]⟩,oL 20 3 19 3),(⟨[21,1,1],tL,[21]⟩,oM 21 1 26),(⟨[22,5,5],tL,[22]⟩,oM 22 5 3),(⟨[23,21,22,1,5],tL,[23]⟩,oI 23 26 21 22),(⟨[24,23,1],tL,[24]⟩,oL 24 3 23 3),(⟨[25,20,24,0,1],tL,[25]⟩,oB 25 .neq 3 (tK 20) (tK 24) 3 4)]) (.cond (tK 25) (.seq (.ops [oX 4 BS 4]) .ret) .skip))) (.ops [oM 15 5 3,oB 16 .add 3 (tK 15) (iK 1) 3 3,oA 5 16 3]))
def oz:SC:= .loop Xt
def k14:SC:= .seq (.ops [oX 4 BS 4]) (.seq (.seq (.ops [oM 6 0 26,oN 7 6 26,oM 8 1 26,oN 9 8 26,oB 10 .neq 3 (tK 7) (tK 9) 3 4]) (.cond (tK 10) (.seq (.ops [oX 4 BS 4]) .ret) .skip)) (.seq (.seq (.ops [oX 5 (.assign (iK 0)) 3]) (.block 0 oz)) (.seq (.ops [oX 4 (.assign Dl) 4]) .ret)))
theorem A2V:Try.f14.body.map (BV lends)=some k14:=by kernel_rfl
theorem AFC:Bl Try.f14 2=true:=by kernel_rfl
theorem dw{a l:List D}{r:D×List D}(h:Br Y.env k14 (Fa Ag l.length [ce 4] r) (entry a l))(ha:a.length=2):Y.call 14 a l=some r:=
 Af (Y:=Y) rfl Try.func14 (ha▸AFC) A2V h
def Ep(a:AP)(b:AP)(i:Int)(s:St):Prop:=s.v 0=b9 3 (AR (bh .i64) a)∧s.v 1=b9 3 (AR (bh .i64) b)∧s.v 5=bh .i64 i
def Er(a:AP)(b:AP)(r:Unit⊕Unit)(ex:Ex)(s:St):Prop:=match r with
 | .inl q=>ex= .ret∧s.v 4=cc false
 | .inr q=>ex= .exit 0
theorem UQ(a:AP)(b:AP){v:Int}{s:St}{r:Unit⊕Unit}(h:Kz a b v=some r)(hM:Ep a b v s):Br Y.env oz (Er a b r) s:=by
 unfold Kz at h;refine BX (c:=Xt) (fun v=>GJ a b v) (fun v s=>Ep a b v s) (Er a b) ?_ h hM;clear h hM s v r;intro i s o hM h;unfold GJ at h;unfold Ep at hM;obtain⟨m0,m1,m2⟩:=hM;unfold Xt;by_cases e2:i<(a.length:Int)
 ·rw [if_pos e2]at h;obtain⟨e3,h⟩:=Bw h;obtain⟨e4,h⟩:=Bw h;by_cases e5:(a.getD i.toNat bj)=(b.getD i.toNat bj)
  ·rw [if_pos e5]at h
   obtain rfl:=Option.some.inj h
   simp (maxDischargeDepth:=9) only [↓AU,AV,Ap,↓reduceIte,bk,bl,bm,bo,bp,br,bt,bw,bx,bO,b0,b3,b4,b5,b6,b7,b8,m0,m1,m2,e2,e3.1,e3.2,e4.1,e4.2,decide_eq_true e5,Ep,Er,Ca,Cb,Cc]<;>(repeat' apply A7)<;>first|rfl|exact⟨_,rfl⟩|exact⟨_,_,rfl⟩|simp [AR,AB]
  ·rw [if_neg e5]at h
   obtain rfl:=Option.some.inj h
   simp (maxDischargeDepth:=9) only [↓AU,AV,Ap,↓reduceIte,bk,bl,bm,bo,bp,br,bt,bw,bx,bO,b0,b3,b4,b5,b6,b7,b8,m0,m1,m2,e2,e3.1,e3.2,e4.1,e4.2,e5,Ep,Er,Ca,Cb,Cc]<;>(repeat' apply A7)<;>first|rfl|exact⟨_,rfl⟩|exact⟨_,_,rfl⟩|simp [AR,AB]
 ·rw [if_neg e2]at h
  obtain rfl:=Option.some.inj h
  simp (maxDischargeDepth:=9) only [↓AU,AV,Ap,↓reduceIte,bk,bl,bm,bo,bp,br,bt,bw,bx,bO,b0,b3,b4,b5,b6,b7,b8,m0,m1,m2,e2,Ep,Er,Ca,Cb,Cc]<;>(repeat' apply A7)<;>first|rfl|exact⟨_,rfl⟩|exact⟨_,_,rfl⟩|simp [AR,AB]
theorem Vx(a:AP)(b:AP){r:Bool}(h:Q3 a b=some r):Y.call 14 [b9 3 (AR (bh .i64) a),b9 3 (AR (bh .i64) b)] []=some (cc r,[]):=by
 refine dw ?_ rfl;unfold k14;unfold Q3 at h;by_cases e1:(a.length:Int)=(b.length:Int)
 ·rw [if_pos e1]at h;obtain⟨Ae,hl3,h⟩:=BD h;try dsimp only at h
  simp (maxDischargeDepth:=9) only [↓AU,AV,Ap,↓reduceIte,bk,bl,bm,bo,bp,br,bt,bw,bx,bO,b0,b3,b4,b5,b6,b7,b8,decide_eq_true e1];refine BL (UQ a b hl3 ?_) ?_
  ·simp (maxDischargeDepth:=9) only [↓AU,AV,Ap,↓reduceIte,bk,bl,bm,bo,bp,br,bt,bw,bx,bO,b0,b3,b4,b5,b6,b7,b8,decide_eq_true e1,Ep]<;>(repeat' apply A7)<;>first|rfl|exact⟨_,rfl⟩|exact⟨_,_,rfl⟩|simp [AR,AB]
  ·intro ex3 s3 hX3;rcases Ae with q1000_|q1000_
   ·unfold Er at hX3;dsimp only at hX3 h;obtain⟨rfl,n3_0⟩:=hX3
    obtain rfl:=Option.some.inj h
    simp (maxDischargeDepth:=9) only [↓AU,AV,Ap,↓reduceIte,bk,bl,bm,bo,bp,br,bt,bw,bx,bO,b0,b3,b4,b5,b6,b7,b8,decide_eq_true e1,n3_0]<;>(repeat' apply A7)<;>first|rfl|exact⟨_,rfl⟩|exact⟨_,_,rfl⟩|simp [AR,AB]
   ·unfold Er at hX3;dsimp only at hX3 h
    obtain rfl:=hX3
    obtain rfl:=Option.some.inj h
    simp (maxDischargeDepth:=9) only [↓AU,AV,Ap,↓reduceIte,bk,bl,bm,bo,bp,br,bt,bw,bx,bO,b0,b3,b4,b5,b6,b7,b8,decide_eq_true e1]<;>(repeat' apply A7)<;>first|rfl|exact⟨_,rfl⟩|exact⟨_,_,rfl⟩|simp [AR,AB]
 ·rw [if_neg e1]at h
  obtain rfl:=Option.some.inj h
  simp (maxDischargeDepth:=9) only [↓AU,AV,Ap,↓reduceIte,bk,bl,bm,bo,bp,br,bt,bw,bx,bO,b0,b3,b4,b5,b6,b7,b8,e1]<;>(repeat' apply A7)<;>first|rfl|exact⟨_,rfl⟩|exact⟨_,_,rfl⟩|simp [AR,AB]
theorem aF(a b:AP)(ha:a.length<1099511627776):Q3 a b=some (decide (a=b)):=by
 unfold Q3 Kz;by_cases hl:a.length=b.length
 ·rw [if_pos (by omega)]
  have key:=IZ (fun v=>GJ a b v) (fun i=>(i:Int)) a.length (fun i=>decide (a.getD i bj=b.getD i bj)) (.inl ()) (.inr ()) ?_ ?_
  ·simp only [LQ]at key;rw [key,UM a b hl];by_cases he:a=b<;>simp [he]
  ·intro i hi;simp only [GJ];rw [if_pos (Bb hi),Bq (I8 hi),Bq (I8 (by omega)),K3,KO i (by omega)]<;>simp only [decide_eq_true_eq]
  ·simp only [GJ];rw [if_neg (BB _)]
 ·rw [if_neg (by omega)]
  have: ¬a=b:=fun e=>hl (by rw [e])
  simp [this]
theorem Nq(a:AP)(b:AP)(h0:a.length<1099511627776):Y.call 14 [b9 3 (AR (bh .i64) a),b9 3 (AR (bh .i64) b)] []=some (cc (decide (a=b)),[]):=Vx a b (aF a b h0)
def Gh(left n:Int):Int:=if left-n<0 then-1 else left-n
theorem KP(left n:Int):Gh left n= -1∨(Gh left n=left-n∧0≤left-n):=by unfold Gh;split<;>omega
def FV(l:au):Int:=(l.map fun xs=>(xs.length:Int)).sum
theorem gL:FV []=0:=rfl
theorem Nr(x:AP)(l:au):FV (x::l)=x.length+FV l:=rfl
theorem Gx(l:au):0≤FV l:=by
 induction l with
 |nil=>rw [gL];omega
 |cons x l ih=>rw [Nr];omega
theorem tN{l:au}{x:AP}(h:x∈l):(x.length:Int)≤FV l:=by
 induction l with
 |nil=>cases h
 |cons y l ih=>
  rw [Nr];have:=Gx l
  rcases OP.1 h with rfl|h
  ·omega
  ·have:=ih h;omega
def Q4(a:AP)(left:Int):Option (Int):= if(cf.wrap (left-(a.length:Int)))<0 then some (-1) else some (cf.wrap (left-(a.length:Int)))
def k59:SC:= .seq (.ops [oX 4 (.assign (iK 0)) 3]) (.seq (.ops [oM 5 1 3,oM 6 0 26,oN 7 6 26,oB 8 .sub 3 (tK 5) (tK 7) 3 3,oA 1 8 3]) (.seq (.seq (.ops [oM 9 1 3,oB 10 .lss 3 (tK 9) (iK 0) 3 4]) (.cond (tK 10) (.seq (.ops [oX 4 P6 3]) .ret) .skip)) (.seq (.ops [oM 11 1 3,oA 4 11 3]) .ret)))
theorem A2W:Try.f59.body.map (BV lends)=some k59:=by kernel_rfl
theorem AFE:Bl Try.f59 2=true:=by kernel_rfl
theorem c59{a l:List D}{r:D×List D}(h:Br Y.env k59 (Fa Ag l.length [ce 4] r) (entry a l))(ha:a.length=2):Y.call 59 a l=some r:=
 Af (Y:=Y) rfl Try.func59 (ha▸AFE) A2W h
theorem Vy(a:AP)(left:Int){r:Int}(h:Q4 a left=some r):Y.call 59 [b9 3 (AR (bh .i64) a),bh .i64 left] []=some (bh .i64 r,[]):=by
 refine c59 ?_ rfl;unfold k59;unfold Q4 at h;by_cases e1:(cf.wrap (left-(a.length:Int)))<0
 ·rw [if_pos e1]at h
  obtain rfl:=Option.some.inj h
  simp (maxDischargeDepth:=9) only [↓AU,AV,Ap,↓reduceIte,bk,bl,bm,bo,bp,br,bt,bw,bx,bO,b0,b3,b4,b5,b6,b7,b8,e1]<;>(repeat' apply A7)<;>first|rfl|exact⟨_,rfl⟩|exact⟨_,_,rfl⟩|simp [AR,AB]
 ·rw [if_neg e1]at h
  obtain rfl:=Option.some.inj h
  simp (maxDischargeDepth:=9) only [↓AU,AV,Ap,↓reduceIte,bk,bl,bm,bo,bp,br,bt,bw,bx,bO,b0,b3,b4,b5,b6,b7,b8,e1]<;>(repeat' apply A7)<;>first|rfl|exact⟨_,rfl⟩|exact⟨_,_,rfl⟩|simp [AR,AB]
theorem aG(a:AP)(left:Int)(ha:a.length<9223372036854775808)(hl:0≤left∧left≤1048576):Q4 a left=some (Gh left a.length):=by
 unfold Q4 Gh;rw [LZ _ (by omega)]
 split<;>rfl
theorem Rl(a:AP)(left:Int)(h0:a.length<9223372036854775808)(h1:0≤left∧left≤1048576):Y.call 59 [b9 3 (AR (bh .i64) a),bh .i64 left] []=some (bh .i64 (Gh left a.length),[]):=Vy a left (aG a left h0 h1)
def szL:Int→au→Int
 |left,[]=>left
 |left,x::l=>if left-x.length<0 then-1 else szL (left-x.length) l
theorem A2X(l:au): ∀(left:Int),0≤left→szL left l=Gh left (FV l):=by
 induction l with
 |nil=>intro left h;unfold szL Gh;rw [gL,if_neg (by omega)];omega
 |cons x l ih=>
  intro left h;have:=Gx l
  unfold szL;by_cases hq:left-x.length<0
  ·rw [if_pos hq];unfold Gh;rw [Nr,if_pos (by omega)]
  ·rw [if_neg hq,ih _ (by omega)]
   unfold Gh;rw [Nr];by_cases hr:left-x.length-FV l<0
   ·rw [if_pos hr,if_pos (by omega)]
   ·rw [if_neg hr,if_neg (by omega)];omega
theorem dz{α:Type}(a b:List α)(x:α):(a.length:Int)<((a++x::b).length:Int):=by rw [OL,ND];omega
theorem eB{α:Type}(a b:List α)(x:α):0≤(a.length:Int)∧(a.length:Int).toNat<(a++x::b).length:=by rw [OL,ND];omega
theorem gM{α:Type}(a:List α): ¬(a.length:Int)<((a++[]).length:Int):=by rw [VY];omega
def AA4(l:au):Prop:=l.length<9223372036854775808∧ ∀x∈l,x.length<9223372036854775808
instance (l:au):Decidable (AA4 l):=by unfold AA4;infer_instance
def upto(k:Int)(n:Nat):AP:=(List.range n).map fun(i:Nat)=>k+i
theorem M7(k:Int)(n:Nat):(upto k n).length=n:=by simp [upto]
theorem p8(xs:AP)(k:Int)(i:Nat)(h:i<xs.length):(upto k i++xs.drop i).set i (k+i)=upto k (i+1)++xs.drop (i+1):=by
 rw [List.set_append_right _ _ (by simp [M7]),M7,QU,iU h,Yk]
 simp [upto,List.range_succ]
def EZ(k:Int)(k1:Int)(i:Int)(BJ:AP):Option ((Int×Int×AP)⊕(Int×AP)):= if i<(BJ.length:Int)then ck (0≤i∧i.toNat<BJ.length)<| some (cd (cf.wrap (k1+1),cf.wrap (i+1),(BJ.set i.toNat k1))) else some (ca (k1,BJ))
def JS(k:Int)(v:Int×Int×AP):Option (Int×AP):=JB (fun v=>EZ k v.1 v.2.1 v.2.2) v
def Md(a:AP)(k:Int):Option (Int×AP):= (JS k (k,0,a)).bind fun Ae=> some (Ae.1,Ae.2)
def Xu:SC:= .seq (.seq (.ops [oM 6 5 3,oM 7 0 26,oN 8 7 26,oB 9 .lss 3 (tK 6) (tK 8) 3 4]) (.cond (tK 9) .skip (.exit 0))) (.seq (.block 1 (.seq (.ops [oM 12 0 26,oM 13 5 3,oM 14 1 3,oI 15 26 12 13,oS 3 15 14]) (.ops [oM 16 1 3,oB 17 .add 3 (tK 16) (iK 1) 3 3,oA 1 17 3]))) (.ops [oM 10 5 3,oB 11 .add 3 (tK 10) (iK 1) 3 3,oA 5 11 3]))
def p9:SC:= .loop Xu
def k17:SC:= .seq (.ops [oX 4 (.assign (iK 0)) 3]) (.seq (.seq (.ops [oX 5 (.assign (iK 0)) 3]) (.block 0 p9)) (.seq (.ops [oM 18 1 3,oA 4 18 3]) .ret))
theorem A2Y:Try.f17.body.map (BV lends)=some k17:=by kernel_rfl
theorem AFG:Bl Try.f17 2=true:=by kernel_rfl
theorem c17{a l:List D}{r:D×List D}(h:Br Y.env k17 (Fa Ag l.length [ce 4] r) (entry a l))(ha:a.length=2):Y.call 17 a l=some r:=
 Af (Y:=Y) rfl Try.func17 (ha▸AFG) A2Y h
def Ea(k:Int)(k1:Int)(i:Int)(BJ:AP)(s:St):Prop:=(∃w_,s.v 0=D.vw [100000] (s.k 100000) w_)∧s.v 1=bh .i64 k1∧s.v 5=bh .i64 i∧s.v 100000=cb 3 (AR (bh .i64) BJ)
def G5(k:Int)(r:Int×AP)(ex:Ex)(s:St):Prop:=ex= .exit 0∧s.v 1=bh .i64 r.1∧s.v 100000=cb 3 (AR (bh .i64) r.2)
theorem Qo(k:Int){v:Int×Int×AP}{s:St}{r:Int×AP}(h:JS k v=some r)(hM:Ea k v.1 v.2.1 v.2.2 s):Br Y.env p9 (G5 k r) s:=by
 unfold JS at h;refine BX (c:=Xu) (fun v=>EZ k v.1 v.2.1 v.2.2) (fun v s=>Ea k v.1 v.2.1 v.2.2 s) (G5 k) ?_ h hM;clear h hM s v r;intro v s o hM h;obtain⟨k1,i,BJ⟩:=v;dsimp only at h hM;unfold EZ at h;unfold Ea at hM;obtain⟨⟨w0_,m0⟩,m1,m2,m3⟩:=hM;unfold Xu;by_cases e1:i<(BJ.length:Int)
 ·rw [if_pos e1]at h;obtain⟨e2,h⟩:=Bw h
  obtain rfl:=Option.some.inj h
  simp (maxDischargeDepth:=9) only [↓AU,AV,Ap,↓reduceIte,bk,bl,bm,bo,bp,br,bt,bw,bx,bO,b0,b3,b4,b5,b6,b7,b8,m0,m1,m2,m3,e1,e2.1,e2.2,Ea,G5,Ca,Cb,Cc]<;>(repeat' apply A7)<;>first|rfl|exact⟨_,rfl⟩|exact⟨_,_,rfl⟩|simp [AR,AB]
 ·rw [if_neg e1]at h
  obtain rfl:=Option.some.inj h
  simp (maxDischargeDepth:=9) only [↓AU,AV,Ap,↓reduceIte,bk,bl,bm,bo,bp,br,bt,bw,bx,bO,b0,b3,b4,b5,b6,b7,b8,m0,m1,m2,m3,e1,Ea,G5,Ca,Cb,Cc]<;>(repeat' apply A7)<;>first|rfl|exact⟨_,rfl⟩|exact⟨_,_,rfl⟩|simp [AR,AB]
theorem Ry(a:AP)(k:Int){r:Int×AP}(h:Md a k=some r):Y.call 17 [D.vw [100000] 0 0,bh .i64 k] [cb 3 (AR (bh .i64) a)]=some (bh .i64 r.1,[cb 3 (AR (bh .i64) r.2)]):=by
 refine c17 ?_ rfl;unfold k17;unfold Md at h;obtain⟨Ae,hl2,h⟩:=BD h;try dsimp only at h
 simp (maxDischargeDepth:=9) only [↓AU,AV,Ap,↓reduceIte,bk,bl,bm,bo,bp,br,bt,bw,bx,bO,b0,b3,b4,b5,b6,b7,b8];refine BL (Qo k hl2 ?_) ?_
 ·simp (maxDischargeDepth:=9) only [↓AU,AV,Ap,↓reduceIte,bk,bl,bm,bo,bp,br,bt,bw,bx,bO,b0,b3,b4,b5,b6,b7,b8,Ea]<;>(repeat' apply A7)<;>first|rfl|exact⟨_,rfl⟩|exact⟨_,_,rfl⟩|simp [AR,AB]
 ·intro ex2 s2 hX2;unfold G5 at hX2;obtain⟨rfl,n2_0,n2_1⟩:=hX2
  obtain rfl:=Option.some.inj h
  simp (maxDischargeDepth:=9) only [↓AU,AV,Ap,↓reduceIte,bk,bl,bm,bo,bp,br,bt,bw,bx,bO,b0,b3,b4,b5,b6,b7,b8,n2_0,n2_1]<;>(repeat' apply A7)<;>first|rfl|exact⟨_,rfl⟩|exact⟨_,_,rfl⟩|simp [AR,AB]
theorem Vz(a:AP)(k:Int)(ha:a.length<1099511627776)(hk:0≤k∧k<1099511627776):Md a k=some (k+a.length,upto k a.length):=by
 have key:=CJ (fun v=>EZ k v.1 v.2.1 v.2.2) (fun i=>(k+i,(i:Int),upto k i++a.drop i)) a.length (k+a.length,upto k a.length) ?_ ?_
 ·unfold Md JS;have e0:upto k 0=[]:=rfl;simp only [LQ,Int.add_zero,List.drop_zero,e0,PP]at key;rw [key];rfl
 ·intro i hi;simp only [EZ];have el:(upto k i++a.drop i).length=a.length:=by simp [M7];omega
  rw [el,if_pos (Bb hi),Bq (I8 hi),K3,p8 a k i hi,KO i (by omega),LZ _ (by omega)]
  rw [show k+(i:Int)+1=k+((i+1:Nat):Int) by omega]
 ·simp only [EZ];have el:(upto k a.length++a.drop a.length).length=a.length:=by simp [M7]
  rw [el,if_neg (BB _)];simp
theorem La(a:AP)(k:Int)(h0:a.length<1099511627776)(h1:0≤k∧k<1099511627776):Y.call 17 [D.vw [100000] 0 0,bh .i64 k] [cb 3 (AR (bh .i64) a)]=some (bh .i64 (k+a.length),[cb 3 (AR (bh .i64) (upto k a.length))]):=Ry a k (Vz a k h0 h1)
def AA5:Int→au→au
 |_,[]=>[]
 |k,x::l=>upto k x.length::AA5 (k+x.length) l
def Mc:Int→AP→Int
 |k,[]=>k
 |k,x::l=>if x=k then Mc (k+1) l else-1
def Eb(a:AP)(k1:Int)(i:Int):Option ((Int×Int)⊕(Unit⊕Int)):= if i<(a.length:Int)then ck (0≤i∧i.toNat<a.length)<| if(a.getD i.toNat bj)=k1 then some (cd (cf.wrap (k1+1),cf.wrap (i+1))) else some (ca (cd ())) else some (ca (ca k1))
def Es(a:AP)(v:Int×Int):Option (Unit⊕Int):=JB (fun v=>Eb a v.1 v.2) v
def Me(a:AP)(k:Int):Option (Int):=
 (Es a (k,0)).bind fun Ae=>
 match Ae with
 | .inl q1000_=>
  some (-1)
 | .inr q1000_=>
  some q1000_
def Xv:SC:= .seq (.seq (.ops [oM 6 5 3,oM 7 0 26,oN 8 7 26,oB 9 .lss 3 (tK 6) (tK 8) 3 4]) (.cond (tK 9) .skip (.exit 0))) (.seq (.block 1 (.seq (.seq (.ops [oM 12 0 26,oM 13 5 3,oI 14 26 12 13,oL 15 3 14 3,oM 16 1 3,oB 17 .neq 3 (tK 15) (tK 16) 3 4]) (.cond (tK 17) (.seq (.ops [oX 4 P6 3]) .ret) .skip)) (.ops [oM 18 1 3,oB 19 .add 3 (tK 18) (iK 1) 3 3,oA 1 19 3]))) (.ops [oM 10 5 3,oB 11 .add 3 (tK 10) (iK 1) 3 3,oA 5 11 3]))
def pE:SC:= .loop Xv
def k18:SC:= .seq (.ops [oX 4 (.assign (iK 0)) 3]) (.seq (.seq (.ops [oX 5 (.assign (iK 0)) 3]) (.block 0 pE)) (.seq (.ops [oM 20 1 3,oA 4 20 3]) .ret))
theorem A2Z:Try.f18.body.map (BV lends)=some k18:=by kernel_rfl
theorem AFI:Bl Try.f18 2=true:=by kernel_rfl
theorem aH{a l:List D}{r:D×List D}(h:Br Y.env k18 (Fa Ag l.length [ce 4] r) (entry a l))(ha:a.length=2):Y.call 18 a l=some r:=
 Af (Y:=Y) rfl Try.func18 (ha▸AFI) A2Z h
def Dp(a:AP)(k1:Int)(i:Int)(s:St):Prop:=s.v 0=b9 3 (AR (bh .i64) a)∧s.v 1=bh .i64 k1∧s.v 5=bh .i64 i
def Dq(a:AP)(r:Unit⊕Int)(ex:Ex)(s:St):Prop:=match r with
 | .inl q=>ex= .ret∧s.v 4=bh .i64 (-1)
 | .inr q=>ex= .exit 0∧s.v 1=bh .i64 q
theorem Qp(a:AP){v:Int×Int}{s:St}{r:Unit⊕Int}(h:Es a v=some r)(hM:Dp a v.1 v.2 s):Br Y.env pE (Dq a r) s:=by
 unfold Es at h;refine BX (c:=Xv) (fun v=>Eb a v.1 v.2) (fun v s=>Dp a v.1 v.2 s) (Dq a) ?_ h hM;clear h hM s v r;intro v s o hM h;obtain⟨k1,i⟩:=v;dsimp only at h hM;unfold Eb at h;unfold Dp at hM;obtain⟨m0,m1,m2⟩:=hM;unfold Xv;by_cases e1:i<(a.length:Int)
 ·rw [if_pos e1]at h;obtain⟨e2,h⟩:=Bw h;by_cases e3:(a.getD i.toNat bj)=k1
  ·rw [if_pos e3]at h
   obtain rfl:=Option.some.inj h
   simp (maxDischargeDepth:=9) only [↓AU,AV,Ap,↓reduceIte,bk,bl,bm,bo,bp,br,bt,bw,bx,bO,b0,b3,b4,b5,b6,b7,b8,m0,m1,m2,e1,e2.1,e2.2,decide_eq_true e3,Dp,Dq,Ca,Cb,Cc]<;>(repeat' apply A7)<;>first|rfl|exact⟨_,rfl⟩|exact⟨_,_,rfl⟩|simp [AR,AB]
  ·rw [if_neg e3]at h
   obtain rfl:=Option.some.inj h
   simp (maxDischargeDepth:=9) only [↓AU,AV,Ap,↓reduceIte,bk,bl,bm,bo,bp,br,bt,bw,bx,bO,b0,b3,b4,b5,b6,b7,b8,m0,m1,m2,e1,e2.1,e2.2,e3,Dp,Dq,Ca,Cb,Cc]<;>(repeat' apply A7)<;>first|rfl|exact⟨_,rfl⟩|exact⟨_,_,rfl⟩|simp [AR,AB]
 ·rw [if_neg e1]at h
  obtain rfl:=Option.some.inj h
  simp (maxDischargeDepth:=9) only [↓AU,AV,Ap,↓reduceIte,bk,bl,bm,bo,bp,br,bt,bw,bx,bO,b0,b3,b4,b5,b6,b7,b8,m0,m1,m2,e1,Dp,Dq,Ca,Cb,Cc]<;>(repeat' apply A7)<;>first|rfl|exact⟨_,rfl⟩|exact⟨_,_,rfl⟩|simp [AR,AB]
theorem Rz(a:AP)(k:Int){r:Int}(h:Me a k=some r):Y.call 18 [b9 3 (AR (bh .i64) a),bh .i64 k] []=some (bh .i64 r,[]):=by
 refine aH ?_ rfl;unfold k18;unfold Me at h;obtain⟨Ae,hl2,h⟩:=BD h;try dsimp only at h
 simp (maxDischargeDepth:=9) only [↓AU,AV,Ap,↓reduceIte,bk,bl,bm,bo,bp,br,bt,bw,bx,bO,b0,b3,b4,b5,b6,b7,b8];refine BL (Qp a hl2 ?_) ?_
 ·simp (maxDischargeDepth:=9) only [↓AU,AV,Ap,↓reduceIte,bk,bl,bm,bo,bp,br,bt,bw,bx,bO,b0,b3,b4,b5,b6,b7,b8,Dp]<;>(repeat' apply A7)<;>first|rfl|exact⟨_,rfl⟩|exact⟨_,_,rfl⟩|simp [AR,AB]
 ·intro ex2 s2 hX2;rcases Ae with q1000_|q1000_
  ·unfold Dq at hX2;dsimp only at hX2 h;obtain⟨rfl,n2_0⟩:=hX2
   obtain rfl:=Option.some.inj h
   simp (maxDischargeDepth:=9) only [↓AU,AV,Ap,↓reduceIte,bk,bl,bm,bo,bp,br,bt,bw,bx,bO,b0,b3,b4,b5,b6,b7,b8,n2_0]<;>(repeat' apply A7)<;>first|rfl|exact⟨_,rfl⟩|exact⟨_,_,rfl⟩|simp [AR,AB]
  ·unfold Dq at hX2;dsimp only at hX2 h;obtain⟨rfl,n2_0⟩:=hX2
   obtain rfl:=Option.some.inj h
   simp (maxDischargeDepth:=9) only [↓AU,AV,Ap,↓reduceIte,bk,bl,bm,bo,bp,br,bt,bw,bx,bO,b0,b3,b4,b5,b6,b7,b8,n2_0]<;>(repeat' apply A7)<;>first|rfl|exact⟨_,rfl⟩|exact⟨_,_,rfl⟩|simp [AR,AB]
theorem Qq: ∀(b a:AP) (k:Int),a.length+b.length<1099511627776→0≤k→k+b.length<1099511627776→
  Es (a++b) (k,(a.length:Int))=some (if Mc k b= -1 then .inl ()else .inr (Mc k b)):=by
 intro b
 induction b with
 |nil=>
  intro a k hab hk hkt;unfold Es;rw [O9 (r:=ca k)]
  ·unfold Mc;rw [if_neg (by omega)]
  ·simp only [Eb];rw [if_neg (gM _)]
 |cons x b ih=>
  intro a k hab hk hkt;simp only [ND]at hab hkt;have eg:(a++x::b).getD (a.length:Int).toNat bj=x:=by rw [K3];exact Nj a (x::b) a.length rfl (by simp)
  unfold Mc;by_cases hq:x=k
  ·rw [if_pos hq];have:=ih (a++[x]) (k+1) (by simp;omega) (by omega) (by omega)
   unfold Es at this ⊢;rw [Sj (s':=(k+1,((a++[x]).length:Int)))]
   ·rw [show a++x::b=a++[x]++b by simp];exact this
   ·simp only [Eb];rw [if_pos (dz ..),Bq (eB ..),eg,if_pos hq,KO _ (by omega),LZ _ (by omega)];simp
  ·rw [if_neg hq];unfold Es;rw [O9 (r:=cd ())]
   ·rfl
   ·simp only [Eb];rw [if_pos (dz ..),Bq (eB ..),eg,if_neg hq]
theorem W9(a:AP)(k:Int)(ha:a.length<1099511627776)(hk:0≤k∧k+a.length<1099511627776):Me a k=some (Mc k a):=by
 unfold Me;have:=Qq a [] k (by simpa using ha) hk.1 hk.2
 simp only [QS,PP,LQ]at this;rw [this,Cn];by_cases h:Mc k a= -1
 ·rw [if_pos h,h]
 ·rw [if_neg h]
theorem WA(a:AP)(k:Int)(h0:a.length<1099511627776)(h1:0≤k∧k+a.length<1099511627776):Y.call 18 [b9 3 (AR (bh .i64) a),bh .i64 k] []=some (bh .i64 (Mc k a),[]):=Rz a k (W9 a k h0 h1)
theorem kQ(n:Nat): ∀k,Mc k (upto k n)=k+n:=by
 induction n with
 |zero=>intro k;simp [upto,Mc]
 |succ n ih=>
  intro k
  have e:upto k (n+1)=k::upto (k+1) n:=by
   simp only [upto,List.range_succ_eq_map,NF,List.map_map]
   congr 1
   ·simp
   ·apply List.map_congr_left;intro i _;simp;omega
  rw [e,Mc,if_pos rfl,ih];omega
def k12:SC:= .seq (.ops [oX 1 (.box 24 (tK 0)) 0,oX 2 (.alloc 29) 0]) (.seq (.ops [oX 3 (.alloc 29) 0]) (.seq (.ops [oF 4 24 1 0,oL 5 3 4 3,oF 6 29 3 0,oS 3 6 5]) (.seq (.ops [oF 7 24 1 1,oL 8 3 7 3,oF 9 29 3 1,oS 3 9 8]) (.seq (.ops [oF 10 24 1 2,oL 11 22 10 22,oC 12 45 [(tK 11)] [22] 22,oF 13 29 3 2,oS 22 13 12]) (.seq (.ops [oF 14 24 1 3,oL 15 22 14 22,oC 16 45 [(tK 15)] [22] 22,oF 17 29 3 3,oS 22 17 16]) (.seq (.ops [oL 18 29 3 29,oS 29 2 18]) .ret))))))
theorem A2a:Try.f12.body.map (BV lends)=some k12:=by kernel_rfl
theorem AFJ:Bl Try.f12 1=true:=by kernel_rfl
theorem ak{a l:List D}{r:D×List D}(h:Br Y.env k12 (Fa Ag l.length [ResultVar.cell 2 29] r) (entry a l))(ha:a.length=1):Y.call 12 a l=some r:=
 Af (Y:=Y) rfl Try.func12 (ha▸AFJ) A2a h
def k15:SC:= .seq (.ops [oX 2 (.box 29 (tK 0)) 0,oX 3 (.box 29 (tK 1)) 0,oX 4 BS 4]) (.seq (.seq (.ops [oF 5 29 2 0,oL 6 3 5 3,oF 7 29 3 0,oL 8 3 7 3,oB 9 .neq 3 (tK 6) (tK 8) 3 4]) (.cond (tK 9) (.seq (.ops [oX 4 BS 4]) .ret) .skip)) (.seq (.seq (.ops [oF 10 29 2 1,oL 11 3 10 3,oF 12 29 3 1,oL 13 3 12 3,oB 14 .neq 3 (tK 11) (tK 13) 3 4]) (.cond (tK 14) (.seq (.ops [oX 4 BS 4]) .ret) .skip)) (.seq (.seq (.ops [oF 15 29 2 2,oL 16 22 15 22,oF 17 29 3 2,oL 18 22 17 22,oC 19 48 [(tK 16),(tK 18)] [22,22] 4,oX 20 (.unOp .not 4 (tK 19)) 4]) (.cond (tK 20) (.seq (.ops [oX 4 BS 4]) .ret) .skip)) (.seq (.seq (.ops [oF 21 29 2 3,oL 22 22 21 22,oF 23 29 3 3,oL 24 22 23 22,oC 25 48 [(tK 22),(tK 24)] [22,22] 4,oX 26 (.unOp .not 4 (tK 25)) 4]) (.cond (tK 26) (.seq (.ops [oX 4 BS 4]) .ret) .skip)) (.seq (.ops [oX 4 (.assign Dl) 4]) .ret)))))
theorem A2b:Try.f15.body.map (BV lends)=some k15:=by kernel_rfl
theorem AFK:Bl Try.f15 2=true:=by kernel_rfl
theorem c15{a l:List D}{r:D×List D}(h:Br Y.env k15 (Fa Ag l.length [ce 4] r) (entry a l))(ha:a.length=2):Y.call 15 a l=some r:=
 Af (Y:=Y) rfl Try.func15 (ha▸AFK) A2b h
def k10:SC:= .seq (.ops [oX 2 (.box 24 (tK 0)) 0,oX 4 (.assign (iK 0)) 3]) (.seq (.ops [oF 5 24 2 2,oL 6 22 5 22,oM 7 1 3,oC 8 40 [(tK 6),(tK 7)] [22,3] 3,oA 1 8 3]) (.seq (.seq (.ops [oM 9 1 3,oB 10 .lss 3 (tK 9) (iK 0) 3 4]) (.cond (tK 10) (.seq (.ops [oX 4 P6 3]) .ret) .skip)) (.seq (.ops [oF 11 24 2 3,oL 12 22 11 22,oM 13 1 3,oC 14 40 [(tK 12),(tK 13)] [22,3] 3,oA 1 14 3]) (.seq (.seq (.ops [oM 15 1 3,oB 16 .lss 3 (tK 15) (iK 0) 3 4]) (.cond (tK 16) (.seq (.ops [oX 4 P6 3]) .ret) .skip)) (.seq (.ops [oM 17 1 3,oA 4 17 3]) .ret)))))
theorem A2c:Try.f10.body.map (BV lends)=some k10:=by kernel_rfl
theorem AFL:Bl Try.f10 2=true:=by kernel_rfl
theorem gN{a l:List D}{r:D×List D}(h:Br Y.env k10 (Fa Ag l.length [ce 4] r) (entry a l))(ha:a.length=2):Y.call 10 a l=some r:=
 Af (Y:=Y) rfl Try.func10 (ha▸AFL) A2c h
def I9(n lo hi:Int):Bool:=decide (lo≤n∧n≤hi)
theorem J6{n lo hi:Int}:I9 n lo hi=true↔lo≤n∧n≤hi:=by simp [I9]
def Q5(n_:Int)(low:Int)(high:Int):Option (Bool):= if low≤n_ then some (decide (n_≤high)) else some false
def k97:SC:= .seq (.ops [oX 6 BS 4]) (.seq (.ops [oM 7 1 3,oM 8 0 3,oB 9 .leq 3 (tK 7) (tK 8) 3 4,oM 10 9 4,⟨(some 11),(.move (tK 0)),3,(some (some 10,true))⟩,⟨(some 12),(.move (tK 2)),3,(some (some 10,true))⟩,⟨(some 13),(.binOp .leq 3 (tK 11) (tK 12) 3),4,(some (some 10,true))⟩,oX 14 (.pick (tK 10) (tK 13) Py) 4,oA 6 14 4]) .ret)
theorem A2d:Try.f97.body.map (BV lends)=some k97:=by kernel_rfl
theorem AFN:Bl Try.f97 3=true:=by kernel_rfl
theorem c97{a l:List D}{r:D×List D}(h:Br Y.env k97 (Fa Ag l.length [ce 6] r) (entry a l))(ha:a.length=3):Y.call 97 a l=some r:=
 Af (Y:=Y) rfl Try.func97 (ha▸AFN) A2d h
theorem WB(n_:Int)(low:Int)(high:Int){r:Bool}(h:Q5 n_ low high=some r):Y.call 97 [bh .i64 n_,bh .i64 low,bh .i64 high] []=some (cc r,[]):=by
 refine c97 ?_ rfl;unfold k97;unfold Q5 at h;by_cases e1:low≤n_
 ·rw [if_pos e1]at h
  obtain rfl:=Option.some.inj h
  simp (maxDischargeDepth:=9) only [↓AU,AV,Ap,↓reduceIte,bk,bl,bm,bo,bp,br,bt,bw,bx,bO,b0,b3,b4,b5,b6,b7,b8,e1]<;>(repeat' apply A7)<;>first|rfl|exact⟨_,rfl⟩|exact⟨_,_,rfl⟩|simp [AR,AB]
 ·rw [if_neg e1]at h
  obtain rfl:=Option.some.inj h
  simp (maxDischargeDepth:=9) only [↓AU,AV,Ap,↓reduceIte,bk,bl,bm,bo,bp,br,bt,bw,bx,bO,b0,b3,b4,b5,b6,b7,b8,e1]<;>(repeat' apply A7)<;>first|rfl|exact⟨_,rfl⟩|exact⟨_,_,rfl⟩|simp [AR,AB]
def Xw(n_:Int)(lo:Int)(hi:Int):Option (Bool):= if lo≤n_ then some (decide (n_≤hi)) else some false
def k92:SC:= .seq (.ops [oX 6 BS 4]) (.seq (.ops [oM 7 0 3,oM 8 1 3,oB 9 .geq 3 (tK 7) (tK 8) 3 4,oM 10 9 4,⟨(some 11),(.move (tK 0)),3,(some (some 10,true))⟩,⟨(some 12),(.move (tK 2)),3,(some (some 10,true))⟩,⟨(some 13),(.binOp .leq 3 (tK 11) (tK 12) 3),4,(some (some 10,true))⟩,oX 14 (.pick (tK 10) (tK 13) Py) 4,oA 6 14 4]) .ret)
theorem A2e:Try.f92.body.map (BV lends)=some k92:=by kernel_rfl
theorem AFP:Bl Try.f92 3=true:=by kernel_rfl
theorem c92{a l:List D}{r:D×List D}(h:Br Y.env k92 (Fa Ag l.length [ce 6] r) (entry a l))(ha:a.length=3):Y.call 92 a l=some r:=
 Af (Y:=Y) rfl Try.func92 (ha▸AFP) A2e h
theorem aI(n_:Int)(lo:Int)(hi:Int){r:Bool}(h:Xw n_ lo hi=some r):Y.call 92 [bh .i64 n_,bh .i64 lo,bh .i64 hi] []=some (cc r,[]):=by
 refine c92 ?_ rfl;unfold k92;unfold Xw at h;by_cases e1:lo≤n_
 ·rw [if_pos e1]at h
  obtain rfl:=Option.some.inj h
  simp (maxDischargeDepth:=9) only [↓AU,AV,Ap,↓reduceIte,bk,bl,bm,bo,bp,br,bt,bw,bx,bO,b0,b3,b4,b5,b6,b7,b8,e1]<;>(repeat' apply A7)<;>first|rfl|exact⟨_,rfl⟩|exact⟨_,_,rfl⟩|simp [AR,AB]
 ·rw [if_neg e1]at h
  obtain rfl:=Option.some.inj h
  simp (maxDischargeDepth:=9) only [↓AU,AV,Ap,↓reduceIte,bk,bl,bm,bo,bp,br,bt,bw,bx,bO,b0,b3,b4,b5,b6,b7,b8,e1]<;>(repeat' apply A7)<;>first|rfl|exact⟨_,rfl⟩|exact⟨_,_,rfl⟩|simp [AR,AB]
theorem aJ(n lo hi:Int):Q5 n lo hi=some (I9 n lo hi):=by unfold Q5 I9;by_cases h1:lo≤n<;>by_cases h2:n≤hi<;>simp [h1,h2]
theorem kR(n lo hi:Int):Xw n lo hi=some (I9 n lo hi):=by unfold Xw I9;by_cases h1:lo≤n<;>by_cases h2:n≤hi<;>simp [h1,h2]
theorem Ik(n_:Int)(low:Int)(high:Int):Y.call 97 [bh .i64 n_,bh .i64 low,bh .i64 high] []=some (cc (I9 n_ low high),[]):=WB n_ low high (aJ n_ low high)
theorem KQ(n_:Int)(lo:Int)(hi:Int):Y.call 92 [bh .i64 n_,bh .i64 lo,bh .i64 hi] []=some (cc (I9 n_ lo hi),[]):=aI n_ lo hi (kR n_ lo hi)
def Hy(l:AP)(lo:Int)(hi:Int)(Hz:Int):Option ((Int)⊕(Unit⊕Unit)):= if Hz<(l.length:Int)then ck (0≤Hz∧Hz.toNat<l.length)<| if(I9 (l.getD Hz.toNat bj) lo hi)=true then some (cd (cf.wrap (Hz+1))) else some (ca (cd ())) else some (ca (ca ()))
def Mf(l:AP)(lo:Int)(hi:Int)(v:Int):Option (Unit⊕Unit):=JB (fun v=>Hy l lo hi v) v
def Sk(l:AP)(lo:Int)(hi:Int):Option (Bool):=
 (Mf l lo hi 0).bind fun Ae=>
 match Ae with
 | .inl q1000_=>
  some false
 | .inr q1000_=>
  some true
def UR:SC:= .seq (.ops [oB 12 .lss 3 (tK 11) (tK 10) 3 0]) (.seq (.cond (tK 12) .skip (.exit 0)) (.seq (.block 1 (.seq (.ops [oI 13 26 9 11,oL 14 3 13 3,oA 8 14 3]) (.seq (.ops [oM 15 8 3,oM 16 1 3,oM 17 2 3,oC 18 92 [(tK 15),(tK 16),(tK 17)] [3,3,3] 4,oX 19 kP 4]) (.cond (tK 19) (.seq (.ops [oX 6 BS 4]) .ret) .skip)))) (.ops [oB 20 .add 3 (tK 11) (iK 1) 3 3,oM 11 20 3])))
def gP:SC:= .loop UR
def A2f:SC:= .seq (.ops [oX 6 BS 4]) (.seq (.seq (.ops [oM 9 0 26,oN 10 9 26,oX 11 (.move (iK 0)) 3]) (.block 0 gP)) (.seq (.ops [oX 6 (.assign Dl) 4]) .ret))
theorem tO:Try.f107.body.map (BV lends)=some A2f:=by kernel_rfl
theorem AA7:Bl Try.f107 3=true:=by kernel_rfl
theorem AFQ{a l:List D}{r:D×List D}(h:Br Y.env A2f (Fa Ag l.length [ce 6] r) (entry a l))(ha:a.length=3):Y.call 107 a l=some r:=
 Af (Y:=Y) rfl Try.func107 (ha▸AA7) tO h
def Ff(l:AP)(lo:Int)(hi:Int)(Hz:Int)(s:St):Prop:=s.v 1=bh .i64 lo∧s.v 2=bh .i64 hi∧s.v 9=b9 3 (AR (bh .i64) l)∧s.v 10=bh .i64 (l.length:Int)∧s.v 11=bh .i64 Hz
def Fg(l:AP)(lo:Int)(hi:Int)(r:Unit⊕Unit)(ex:Ex)(s:St):Prop:=match r with
 | .inl q=>ex= .ret∧s.v 6=cc false
 | .inr q=>ex= .exit 0
theorem WC(l:AP)(lo:Int)(hi:Int){v:Int}{s:St}{r:Unit⊕Unit}(h:Mf l lo hi v=some r)(hM:Ff l lo hi v s):Br Y.env gP (Fg l lo hi r) s:=by
 unfold Mf at h;refine BX (c:=UR) (fun v=>Hy l lo hi v) (fun v s=>Ff l lo hi v s) (Fg l lo hi) ?_ h hM;clear h hM s v r;intro Hz s o hM h;unfold Hy at h;unfold Ff at hM;obtain⟨m0,m1,m2,m3,m4⟩:=hM;unfold UR;by_cases e1:Hz<(l.length:Int)
 ·rw [if_pos e1]at h;obtain⟨e2,h⟩:=Bw h;have c3:=KQ (l.getD Hz.toNat bj) lo hi;by_cases e4:(I9 (l.getD Hz.toNat bj) lo hi)=true
  ·rw [if_pos e4]at h
   obtain rfl:=Option.some.inj h
   simp (maxDischargeDepth:=9) only [↓AU,AV,Ap,↓reduceIte,bk,bl,bm,bo,bp,br,bt,bw,bx,bO,b0,b3,b4,b5,b6,b7,b8,m0,m1,m2,m3,m4,e1,e2.1,e2.2,c3,e4,Ff,Fg,Ca,Cb,Cc]<;>(repeat' apply A7)<;>first|rfl|exact⟨_,rfl⟩|exact⟨_,_,rfl⟩|simp [AR,AB]
  ·rw [if_neg e4]at h;have e4f:(I9 (l.getD Hz.toNat bj) lo hi)=false:=K7.mpr e4
   obtain rfl:=Option.some.inj h
   simp (maxDischargeDepth:=9) only [↓AU,AV,Ap,↓reduceIte,bk,bl,bm,bo,bp,br,bt,bw,bx,bO,b0,b3,b4,b5,b6,b7,b8,m0,m1,m2,m3,m4,e1,e2.1,e2.2,c3,e4f,Ff,Fg,Ca,Cb,Cc]<;>(repeat' apply A7)<;>first|rfl|exact⟨_,rfl⟩|exact⟨_,_,rfl⟩|simp [AR,AB]
 ·rw [if_neg e1]at h
  obtain rfl:=Option.some.inj h
  simp (maxDischargeDepth:=9) only [↓AU,AV,Ap,↓reduceIte,bk,bl,bm,bo,bp,br,bt,bw,bx,bO,b0,b3,b4,b5,b6,b7,b8,m0,m1,m2,m3,m4,e1,Ff,Fg,Ca,Cb,Cc]<;>(repeat' apply A7)<;>first|rfl|exact⟨_,rfl⟩|exact⟨_,_,rfl⟩|simp [AR,AB]
theorem Xx(l:AP)(lo:Int)(hi:Int){r:Bool}(h:Sk l lo hi=some r):Y.call 107 [b9 3 (AR (bh .i64) l),bh .i64 lo,bh .i64 hi] []=some (cc r,[]):=by
 refine AFQ ?_ rfl;unfold A2f;unfold Sk at h;obtain⟨Ae,hl2,h⟩:=BD h;try dsimp only at h
 simp (maxDischargeDepth:=9) only [↓AU,AV,Ap,↓reduceIte,bk,bl,bm,bo,bp,br,bt,bw,bx,bO,b0,b3,b4,b5,b6,b7,b8];refine BL (WC l lo hi hl2 ?_) ?_
 ·simp (maxDischargeDepth:=9) only [↓AU,AV,Ap,↓reduceIte,bk,bl,bm,bo,bp,br,bt,bw,bx,bO,b0,b3,b4,b5,b6,b7,b8,Ff]<;>(repeat' apply A7)<;>first|rfl|exact⟨_,rfl⟩|exact⟨_,_,rfl⟩|simp [AR,AB]
 ·intro ex2 s2 hX2;rcases Ae with q1000_|q1000_
  ·unfold Fg at hX2;dsimp only at hX2 h;obtain⟨rfl,n2_0⟩:=hX2
   obtain rfl:=Option.some.inj h
   simp (maxDischargeDepth:=9) only [↓AU,AV,Ap,↓reduceIte,bk,bl,bm,bo,bp,br,bt,bw,bx,bO,b0,b3,b4,b5,b6,b7,b8,n2_0]<;>(repeat' apply A7)<;>first|rfl|exact⟨_,rfl⟩|exact⟨_,_,rfl⟩|simp [AR,AB]
  ·unfold Fg at hX2;dsimp only at hX2 h
   obtain rfl:=hX2
   obtain rfl:=Option.some.inj h
   simp (maxDischargeDepth:=9) only [↓AU,AV,Ap,↓reduceIte,bk,bl,bm,bo,bp,br,bt,bw,bx,bO,b0,b3,b4,b5,b6,b7,b8]<;>(repeat' apply A7)<;>first|rfl|exact⟨_,rfl⟩|exact⟨_,_,rfl⟩|simp [AR,AB]
def Gy(l:AP)(lo hi:Int):Bool:=l.all fun x=>I9 x lo hi
theorem eD(l:AP)(lo hi:Int)(h:l.length<1099511627776):Sk l lo hi=some (Gy l lo hi):=by
 unfold Sk Mf;have key:=IZ (fun v=>Hy l lo hi v) (fun i=>(i:Int)) l.length (fun i=>I9 (l.getD i bj) lo hi) (.inl ()) (.inr ()) ?_ ?_
 ·simp only [LQ]at key;rw [key,Zx (fun x=>I9 x lo hi)];unfold Gy
  cases l.all (fun x=>I9 x lo hi)<;>rfl
 ·intro i hi;simp only [Hy];rw [if_pos (Bb hi),Bq (I8 hi),K3,KO i (by omega)]
 ·simp only [Hy];rw [if_neg (BB _)]
theorem UT(l:AP)(lo:Int)(hi:Int)(h0:l.length<1099511627776):Y.call 107 [b9 3 (AR (bh .i64) l),bh .i64 lo,bh .i64 hi] []=some (cc (Gy l lo hi),[]):=Xx l lo hi (eD l lo hi h0)
def BA(s_:AP)(f:Int→Option Bool)(Gm:Int):Option ((Int)⊕(Int⊕Unit)):= if Gm<(s_.length:Int)then ck (0≤Gm∧Gm.toNat<s_.length)<| (f (s_.getD Gm.toNat bj)).bind fun NH=> if NH=true then some (ca (cd Gm)) else some (cd (cf.wrap (Gm+1))) else some (ca (ca ()))
def CK(s_:AP)(f:Int→Option Bool)(v:Int):Option (Int⊕Unit):=JB (fun v=>BA s_ f v) v
def Bt(s_:AP)(f:Int→Option Bool):Option (Int):=
 (CK s_ f 0).bind fun Ae=>
 match Ae with
 | .inl q1000_=>
  some q1000_
 | .inr q1000_=>
  some (-1)
def UU:SC:= .seq (.ops [oB 9 .lss 3 (tK 8) (tK 7) 3 0]) (.seq (.cond (tK 9) .skip (.exit 0)) (.seq (.block 1 (.seq (.ops [oM 10 8 3,oA 5 10 3]) (.seq (.ops [oM 11 1 87,oM 12 0 26,oM 13 5 3,oI 14 26 12 13,oL 15 3 14 3,oX 16 (.call ⟨(.value (tK 11)), #[(tK 15)], #[3]⟩) 4]) (.cond (tK 16) (.seq (.ops [oM 17 5 3,oA 4 17 3]) .ret) .skip)))) (.ops [oB 18 .add 3 (tK 8) (iK 1) 3 3,oM 8 18 3])))
def gQ:SC:= .loop UU
def A2g:SC:= .seq (.ops [oX 4 (.assign (iK 0)) 3]) (.seq (.seq (.ops [oM 6 0 26,oN 7 6 26,oX 8 (.move (iK 0)) 3]) (.block 0 gQ)) (.seq (.ops [oX 4 P6 3]) .ret))
theorem tQ:Try.f163.body.map (BV lends)=some A2g:=by kernel_rfl
theorem AA8:Bl Try.f163 2=true:=by kernel_rfl
theorem AFR{a l:List D}{r:D×List D}(h:Br Y.env A2g (Fa Ag l.length [ce 4] r) (entry a l))(ha:a.length=2):Y.call 163 a l=some r:=
 Af (Y:=Y) rfl Try.func163 (ha▸AA8) tQ h
def BG(s_:AP)(f:Int→Option Bool)(f_f:FuncId)(f_c:List D)(Gm:Int)(s:St):Prop:=s.v 0=b9 3 (AR (bh .i64) s_)∧s.v 1=D.clo f_f f_c∧s.v 7=bh .i64 (s_.length:Int)∧s.v 8=bh .i64 Gm
def BH(s_:AP)(f:Int→Option Bool)(f_f:FuncId)(f_c:List D)(r:Int⊕Unit)(ex:Ex)(s:St):Prop:=match r with
 | .inl q=>ex= .ret∧s.v 4=bh .i64 q
 | .inr q=>ex= .exit 0
theorem Io(s_:AP)(f:Int→Option Bool)(f_f:FuncId)(f_c:List D)(f_h: ∀(a0:Int) (r:Bool),f a0=some r→Y.call f_f (bh .i64 a0::f_c) []=some (cc r,[]))(f_l:lends f_f=false){v:Int}{s:St}{r:Int⊕Unit}(h:CK s_ f v=some r)(hM:BG s_ f f_f f_c v s):Br Y.env gQ (BH s_ f f_f f_c r) s:=by
 unfold CK at h;refine BX (c:=UU) (fun v=>BA s_ f v) (fun v s=>BG s_ f f_f f_c v s) (BH s_ f f_f f_c) ?_ h hM;clear h hM s v r;intro Gm s o hM h;unfold BA at h;unfold BG at hM;obtain⟨m0,m1,m2,m3⟩:=hM;unfold UU;by_cases e1:Gm<(s_.length:Int)
 ·rw [if_pos e1]at h;obtain⟨e2,h⟩:=Bw h;obtain⟨NH,hl3,h⟩:=BD h;try dsimp only at h
  have c3:=f_h _ _ hl3;by_cases e4:NH=true
  ·rw [if_pos e4]at h
   obtain rfl:=Option.some.inj h
   simp (maxDischargeDepth:=9) only [↓AU,AV,Ap,↓reduceIte,bk,bl,bm,bo,bp,br,bt,bw,bx,bO,b0,b3,b4,b5,b6,b7,b8,m0,m1,m2,m3,f_l,e1,e2.1,e2.2,c3,e4,BG,BH,Ca,Cb,Cc]<;>(repeat' apply A7)<;>first|rfl|exact⟨_,rfl⟩|exact⟨_,_,rfl⟩|simp [AR,AB]
  ·rw [if_neg e4]at h;have e4f:NH=false:=K7.mpr e4
   obtain rfl:=Option.some.inj h
   simp (maxDischargeDepth:=9) only [↓AU,AV,Ap,↓reduceIte,bk,bl,bm,bo,bp,br,bt,bw,bx,bO,b0,b3,b4,b5,b6,b7,b8,m0,m1,m2,m3,f_l,e1,e2.1,e2.2,c3,e4f,BG,BH,Ca,Cb,Cc]<;>(repeat' apply A7)<;>first|rfl|exact⟨_,rfl⟩|exact⟨_,_,rfl⟩|simp [AR,AB]
 ·rw [if_neg e1]at h
  obtain rfl:=Option.some.inj h
  simp (maxDischargeDepth:=9) only [↓AU,AV,Ap,↓reduceIte,bk,bl,bm,bo,bp,br,bt,bw,bx,bO,b0,b3,b4,b5,b6,b7,b8,m0,m1,m2,m3,f_l,e1,BG,BH,Ca,Cb,Cc]<;>(repeat' apply A7)<;>first|rfl|exact⟨_,rfl⟩|exact⟨_,_,rfl⟩|simp [AR,AB]
theorem J7(s_:AP)(f:Int→Option Bool)(f_f:FuncId)(f_c:List D)(f_h: ∀(a0:Int) (r:Bool),f a0=some r→Y.call f_f (bh .i64 a0::f_c) []=some (cc r,[]))(f_l:lends f_f=false){r:Int}(h:Bt s_ f=some r):Y.call 163 [b9 3 (AR (bh .i64) s_),D.clo f_f f_c] []=some (bh .i64 r,[]):=by
 refine AFR ?_ rfl;unfold A2g;unfold Bt at h;obtain⟨Ae,hl2,h⟩:=BD h;try dsimp only at h
 simp (maxDischargeDepth:=9) only [↓AU,AV,Ap,↓reduceIte,bk,bl,bm,bo,bp,br,bt,bw,bx,bO,b0,b3,b4,b5,b6,b7,b8,f_l];refine BL (Io s_ f f_f f_c f_h f_l hl2 ?_) ?_
 ·simp (maxDischargeDepth:=9) only [↓AU,AV,Ap,↓reduceIte,bk,bl,bm,bo,bp,br,bt,bw,bx,bO,b0,b3,b4,b5,b6,b7,b8,f_l,BG]<;>(repeat' apply A7)<;>first|rfl|exact⟨_,rfl⟩|exact⟨_,_,rfl⟩|simp [AR,AB]
 ·intro ex2 s2 hX2;rcases Ae with q1000_|q1000_
  ·unfold BH at hX2;dsimp only at hX2 h;obtain⟨rfl,n2_0⟩:=hX2
   obtain rfl:=Option.some.inj h
   simp (maxDischargeDepth:=9) only [↓AU,AV,Ap,↓reduceIte,bk,bl,bm,bo,bp,br,bt,bw,bx,bO,b0,b3,b4,b5,b6,b7,b8,f_l,n2_0]<;>(repeat' apply A7)<;>first|rfl|exact⟨_,rfl⟩|exact⟨_,_,rfl⟩|simp [AR,AB]
  ·unfold BH at hX2;dsimp only at hX2 h
   obtain rfl:=hX2
   obtain rfl:=Option.some.inj h
   simp (maxDischargeDepth:=9) only [↓AU,AV,Ap,↓reduceIte,bk,bl,bm,bo,bp,br,bt,bw,bx,bO,b0,b3,b4,b5,b6,b7,b8,f_l]<;>(repeat' apply A7)<;>first|rfl|exact⟨_,rfl⟩|exact⟨_,_,rfl⟩|simp [AR,AB]
def Bc(s_:AP)(f:Int→Option Bool):Option (Bool):= (Bt s_ f).bind fun pF=> some (decide (0≤pF))
def A2h:SC:= .seq (.ops [oX 4 BS 4]) (.seq (.ops [oM 5 0 26,oM 6 1 87,oC 7 163 [(tK 5),(tK 6)] [26,87] 3,oB 8 .geq 3 (tK 7) (iK 0) 3 4,oA 4 8 4]) .ret)
theorem tT:Try.f133.body.map (BV lends)=some A2h:=by kernel_rfl
theorem AA9:Bl Try.f133 2=true:=by kernel_rfl
theorem AFS{a l:List D}{r:D×List D}(h:Br Y.env A2h (Fa Ag l.length [ce 4] r) (entry a l))(ha:a.length=2):Y.call 133 a l=some r:=
 Af (Y:=Y) rfl Try.func133 (ha▸AA9) tT h
theorem IG(s_:AP)(f:Int→Option Bool)(f_f:FuncId)(f_c:List D)(f_h: ∀(a0:Int) (r:Bool),f a0=some r→Y.call f_f (bh .i64 a0::f_c) []=some (cc r,[]))(f_l:lends f_f=false){r:Bool}(h:Bc s_ f=some r):Y.call 133 [b9 3 (AR (bh .i64) s_),D.clo f_f f_c] []=some (cc r,[]):=by
 refine AFS ?_ rfl;unfold A2h;unfold Bc at h;obtain⟨pF,hl1,h⟩:=BD h;try dsimp only at h
 have c1:=J7 s_ f f_f f_c f_h f_l hl1
 obtain rfl:=Option.some.inj h
 simp (maxDischargeDepth:=9) only [↓AU,AV,Ap,↓reduceIte,bk,bl,bm,bo,bp,br,bt,bw,bx,bO,b0,b3,b4,b5,b6,b7,b8,f_l,c1]<;>(repeat' apply A7)<;>first|rfl|exact⟨_,rfl⟩|exact⟨_,_,rfl⟩|simp [AR,AB]
def II(n_:Int)(c0_:Int)(c1_:Int):Option (Bool):= some (!(I9 n_ c0_ c1_))
def A2i:SC:= .seq (.ops [oX 4 BS 4]) (.seq (.ops [oM 5 0 3,oL 6 3 1 3,oL 7 3 2 3,oC 8 97 [(tK 5),(tK 6),(tK 7)] [3,3,3] 4,oX 9 (.unOp .not 4 (tK 8)) 4,oA 4 9 4]) .ret)
theorem tV:Try.f170.body.map (BV lends)=some A2i:=by kernel_rfl
theorem AAA:Bl Try.f170 3=true:=by kernel_rfl
theorem AFT{a l:List D}{r:D×List D}(h:Br Y.env A2i (Fa Ag l.length [ce 4] r) (entry a l))(ha:a.length=3):Y.call 170 a l=some r:=
 Af (Y:=Y) rfl Try.func170 (ha▸AAA) tV h
theorem P7(n_:Int)(c0_:Int)(c1_:Int){r:Bool}(h:II n_ c0_ c1_=some r):Y.call 170 [bh .i64 n_,D.cptr [bh .i64 c0_],D.cptr [bh .i64 c1_]] []=some (cc r,[]):=by
 refine AFT ?_ rfl;unfold A2i;unfold II at h;have c1:=Ik n_ c0_ c1_
 obtain rfl:=Option.some.inj h
 simp (maxDischargeDepth:=9) only [↓AU,AV,Ap,↓reduceIte,bk,bl,bm,bo,bp,br,bt,bw,bx,bO,b0,b3,b4,b5,b6,b7,b8,c1]<;>(repeat' apply A7)<;>first|rfl|exact⟨_,rfl⟩|exact⟨_,_,rfl⟩|simp [AR,AB]
def L6(list:AP)(low:Int)(high:Int):Option (Bool):= (Bc list (fun a0=>II a0 low high)).bind fun r9_=> some (!r9_)
def A2k:SC:= .seq (.ops [oX 4 (.box 3 (tK 1)) 0,oX 5 (.box 3 (tK 2)) 0,oX 6 BS 4]) (.seq (.ops [oM 7 0 26,oX 8 (.makeFunc (Fn.func 170) #[] #[(tK 4),(tK 5)]) 87,oC 9 133 [(tK 7),(tK 8)] [26,87] 4,oX 10 (.unOp .not 4 (tK 9)) 4,oA 6 10 4]) .ret)
theorem tX:Try.f144.body.map (BV lends)=some A2k:=by kernel_rfl
theorem AAB:Bl Try.f144 3=true:=by kernel_rfl
theorem AFU{a l:List D}{r:D×List D}(h:Br Y.env A2k (Fa Ag l.length [ce 6] r) (entry a l))(ha:a.length=3):Y.call 144 a l=some r:=
 Af (Y:=Y) rfl Try.func144 (ha▸AAB) tX h
theorem Qr(list:AP)(low:Int)(high:Int){r:Bool}(h:L6 list low high=some r):Y.call 144 [b9 3 (AR (bh .i64) list),bh .i64 low,bh .i64 high] []=some (cc r,[]):=by
 refine AFU ?_ rfl;unfold A2k;unfold L6 at h;obtain⟨r9_,hl1,h⟩:=BD h;try dsimp only at h
 have c1:=IG list (fun a0=>II a0 low high) 170 [D.cptr [bh .i64 low],D.cptr [bh .i64 high]] (fun a0 _ hh=>P7 a0 low high hh) oZ hl1
 obtain rfl:=Option.some.inj h
 simp (maxDischargeDepth:=9) only [↓AU,AV,Ap,↓reduceIte,bk,bl,bm,bo,bp,br,bt,bw,bx,bO,b0,b3,b4,b5,b6,b7,b8,c1]<;>(repeat' apply A7)<;>first|rfl|exact⟨_,rfl⟩|exact⟨_,_,rfl⟩|simp [AR,AB]
theorem Xy(l:AP)(f:Int→Option Bool)(p:Int→Bool)(h:l.length<1099511627776)(hf: ∀x∈l,f x=some (p x)):
  ∃r,Bt l f=some r∧(0≤r↔l.any p=true):=by
 unfold Bt CK;by_cases ha: ∀i,i<l.length→(!p (l.getD i bj))=true
 ·have key:=CJ (fun v=>BA l f v) (fun i=>(i:Int)) l.length (.inr ()) ?_ ?_
  ·simp only [LQ]at key;rw [key]
   refine⟨-1,rfl,by simp,fun hc=> ?_⟩
   obtain⟨x,hx,hpx⟩:=List.any_eq_true.1 hc;obtain⟨i,hi,rfl⟩:=iY hx;have:=ha i hi
   rw [BN _ _ hi,hpx]at this;cases this
  ·intro i hi;simp only [BA];have e:=ha i hi;rw [BN _ _ hi]at e;rw [if_pos (Bb hi),Bq (I8 hi),J5 _ _ hi,hf _ (LP hi),Cn,if_neg (by cases hp:p l[i]<;>simp_all),KO i (by omega)]
  ·simp only [BA];rw [if_neg (BB _)]
 ·obtain⟨m,h1,h2,h3⟩:=Oy (P:=fun i=> !p (l.getD i bj)) ha;have key:=CJ (fun v=>BA l f v) (fun i=>(i:Int)) m (.inl (m:Int)) ?_ ?_
  ·simp only [LQ]at key;rw [key]
   refine⟨(m:Int),rfl,fun _=> ?_,fun _=>by omega⟩
   have h2':p l[m]=true:=by rw [BN _ _ h1]at h2;simpa using h2
   exact List.any_eq_true.2 ⟨_,LP h1,h2'⟩
  ·intro i hi;simp only [BA];have e:=h3 i hi;rw [BN _ _ (by omega)]at e
   rw [if_pos (Bb (by omega)),Bq (I8 (by omega)),J5 _ _ (by omega),hf _ (LP _),Cn,if_neg (by cases hp:p l[i]<;>simp_all),KO i (by omega)]
  ·simp only [BA];have h2':p l[m]=true:=by rw [BN _ _ h1]at h2;simpa using h2
   rw [if_pos (Bb h1),Bq (I8 h1),J5 _ _ h1,hf _ (LP _),Cn,if_pos h2']
theorem S9(l:AP)(f:Int→Option Bool)(p:Int→Bool)(h:l.length<1099511627776)(hf: ∀x∈l,f x=some (p x)):Bc l f=some (l.any p):=by
 obtain⟨r,h1,h2⟩:=Xy l f p h hf;unfold Bc;rw [h1,Cn]
 congr 1
 rw [QT];simpa using h2
theorem UV(l:AP)(lo hi:Int)(h:l.length<1099511627776):L6 l lo hi=some (Gy l lo hi):=by
 unfold L6;rw [S9 l (fun a0=>II a0 lo hi) (fun x=> !I9 x lo hi) h (fun x _=>rfl),Cn];unfold Gy;rw [List.all_eq_not_any_not]
theorem UW(list:AP)(low:Int)(high:Int)(h0:list.length<1099511627776):Y.call 144 [b9 3 (AR (bh .i64) list),bh .i64 low,bh .i64 high] []=some (cc (Gy list low high),[]):=Qr list low high (UV list low high h0)
theorem Rj.getD{l:au}(h:Rj l)(i:Nat):(l.getD i bj).length<1099511627776:=by
 rcases Nat.lt_or_ge i l.length with hi|hi
 ·rw [BN _ _ hi];exact h.at i hi
 ·rw [KR,List.getElem?_eq_none hi];decide
def Xz(x:Int):AP→AP
 | []=>[x]
 |y::r=>if x<y then y::Xz x r else x::y::r
def Rm(l:AP):AP:=(l.foldl (fun r x=>Xz x r) []).reverse
theorem X5(x:Int): ∀r,(Xz x r).Perm (x::r):=by
 intro r
 induction r with
 |nil=>exact List.Perm.refl _
 |cons y r ih=>
  unfold Xz;split
  ·exact((List.perm_cons y).2 ih).trans (List.Perm.swap x y r)
  ·exact List.Perm.refl _
theorem kS(x:Int): ∀r,r.Pairwise (fun a b=>b≤a)→(Xz x r).Pairwise (fun a b=>b≤a):=by
 intro r
 induction r with
 |nil=>intro _;simp [Xz]
 |cons y r ih=>
  intro h;obtain⟨h1,h2⟩:=cg.1 h;unfold Xz;split
  ·rename_i hxy
   refine cg.2 ⟨fun z hz=> ?_,ih h2⟩;rcases OP.1 ((X5 x r).mem_iff.1 hz)with rfl|hz
   ·omega
   ·exact h1 z hz
  ·rename_i hxy
   refine cg.2 ⟨fun z hz=> ?_,h⟩;rcases OP.1 hz with rfl|hz
   ·omega
   ·have:=h1 z hz;omega
theorem eF: ∀(l r:AP),(l.foldl (fun r x=>Xz x r) r).Perm (l++r):=by
 intro l
 induction l with
 |nil=>intro r;exact List.Perm.refl _
 |cons x l ih=>
  intro r;simp only [XB]
  exact(ih _).trans (((List.Perm.refl l).append (X5 x r)).trans List.perm_middle)
theorem eG: ∀(l r:AP),r.Pairwise (fun a b=>b≤a)→(l.foldl (fun r x=>Xz x r) r).Pairwise (fun a b=>b≤a):=by
 intro l
 induction l with
 |nil=>intro r h;exact h
 |cons x l ih=>intro r h;exact ih _ (kS x r h)
theorem P8(l:AP):(Rm l).Perm l:=by
 unfold Rm;have:=eF l []
 rw [VY]at this
 exact(List.reverse_perm _).trans this
theorem UX(l:AP):(Rm l).Pairwise (fun a b=>a≤b):=by
 unfold Rm;exact List.pairwise_reverse.2 (eG l [] List.Pairwise.nil)
theorem pG(l:AP):Ij l=Rm l:=by
 refine List.Perm.eq_of_pairwise (le:=fun a b:Int=>a≤b) (fun a b _ _ h1 h2=>Int.le_antisymm h1 h2) ?_ (UX l) ((List.mergeSort_perm _ _).trans (P8 l).symm);have:=List.pairwise_mergeSort (le:=fun x y:Int=>decide (x≤y)) (fun a b c h1 h2=>by simp only [decide_eq_true_eq]at*;omega) (fun a b=>by simp only [OO,decide_eq_true_eq];omega) l
 unfold Ij;exact this.imp (fun h=>by simpa using h)
theorem kT(l:AP):(Rm l).length=l.length:=(P8 l).length_eq
def I1(l:AP)(n_:Int)(Gj:Int):Option ((Int)⊕(Unit⊕Unit)):= if Gj<(l.length:Int)then ck (0≤Gj∧Gj.toNat<l.length)<| if(l.getD Gj.toNat bj)=n_ then some (ca (cd ())) else some (cd (cf.wrap (Gj+1))) else some (ca (ca ()))
def Mg(l:AP)(n_:Int)(v:Int):Option (Unit⊕Unit):=JB (fun v=>I1 l n_ v) v
def Sl(l:AP)(n_:Int):Option (Bool):=
 (Mg l n_ 0).bind fun Ae=>
 match Ae with
 | .inl q1000_=>
  some true
 | .inr q1000_=>
  some false
def Y1:SC:= .seq (.ops [oB 10 .lss 3 (tK 9) (tK 8) 3 0]) (.seq (.cond (tK 10) .skip (.exit 0)) (.seq (.block 1 (.seq (.ops [oI 11 26 7 9,oL 12 3 11 3,oA 6 12 3]) (.seq (.ops [oM 13 6 3,oM 14 1 3,oB 15 .eql 3 (tK 13) (tK 14) 3 4]) (.cond (tK 15) (.seq (.ops [oX 4 (.assign Dl) 4]) .ret) .skip)))) (.ops [oB 16 .add 3 (tK 9) (iK 1) 3 3,oM 9 16 3])))
def pI:SC:= .loop Y1
def k89:SC:= .seq (.ops [oX 4 BS 4]) (.seq (.seq (.ops [oM 7 0 26,oN 8 7 26,oX 9 (.move (iK 0)) 3]) (.block 0 pI)) (.seq (.ops [oX 4 BS 4]) .ret))
theorem A2l:Try.f89.body.map (BV lends)=some k89:=by kernel_rfl
theorem AFW:Bl Try.f89 2=true:=by kernel_rfl
theorem c89{a l:List D}{r:D×List D}(h:Br Y.env k89 (Fa Ag l.length [ce 4] r) (entry a l))(ha:a.length=2):Y.call 89 a l=some r:=
 Af (Y:=Y) rfl Try.func89 (ha▸AFW) A2l h
def Fh(l:AP)(n_:Int)(Gj:Int)(s:St):Prop:=s.v 1=bh .i64 n_∧s.v 7=b9 3 (AR (bh .i64) l)∧s.v 8=bh .i64 (l.length:Int)∧s.v 9=bh .i64 Gj
def Fj(l:AP)(n_:Int)(r:Unit⊕Unit)(ex:Ex)(s:St):Prop:=match r with
 | .inl q=>ex= .ret∧s.v 4=cc true
 | .inr q=>ex= .exit 0
theorem WE(l:AP)(n_:Int){v:Int}{s:St}{r:Unit⊕Unit}(h:Mg l n_ v=some r)(hM:Fh l n_ v s):Br Y.env pI (Fj l n_ r) s:=by
 unfold Mg at h;refine BX (c:=Y1) (fun v=>I1 l n_ v) (fun v s=>Fh l n_ v s) (Fj l n_) ?_ h hM;clear h hM s v r;intro Gj s o hM h;unfold I1 at h;unfold Fh at hM;obtain⟨m0,m1,m2,m3⟩:=hM;unfold Y1;by_cases e1:Gj<(l.length:Int)
 ·rw [if_pos e1]at h;obtain⟨e2,h⟩:=Bw h;by_cases e3:(l.getD Gj.toNat bj)=n_
  ·rw [if_pos e3]at h
   obtain rfl:=Option.some.inj h
   simp (maxDischargeDepth:=9) only [↓AU,AV,Ap,↓reduceIte,bk,bl,bm,bo,bp,br,bt,bw,bx,bO,b0,b3,b4,b5,b6,b7,b8,m0,m1,m2,m3,e1,e2.1,e2.2,decide_eq_true e3,Fh,Fj,Ca,Cb,Cc]<;>(repeat' apply A7)<;>first|rfl|exact⟨_,rfl⟩|exact⟨_,_,rfl⟩|simp [AR,AB]
  ·rw [if_neg e3]at h
   obtain rfl:=Option.some.inj h
   simp (maxDischargeDepth:=9) only [↓AU,AV,Ap,↓reduceIte,bk,bl,bm,bo,bp,br,bt,bw,bx,bO,b0,b3,b4,b5,b6,b7,b8,m0,m1,m2,m3,e1,e2.1,e2.2,e3,Fh,Fj,Ca,Cb,Cc]<;>(repeat' apply A7)<;>first|rfl|exact⟨_,rfl⟩|exact⟨_,_,rfl⟩|simp [AR,AB]
 ·rw [if_neg e1]at h
  obtain rfl:=Option.some.inj h
  simp (maxDischargeDepth:=9) only [↓AU,AV,Ap,↓reduceIte,bk,bl,bm,bo,bp,br,bt,bw,bx,bO,b0,b3,b4,b5,b6,b7,b8,m0,m1,m2,m3,e1,Fh,Fj,Ca,Cb,Cc]<;>(repeat' apply A7)<;>first|rfl|exact⟨_,rfl⟩|exact⟨_,_,rfl⟩|simp [AR,AB]
theorem Y2(l:AP)(n_:Int){r:Bool}(h:Sl l n_=some r):Y.call 89 [b9 3 (AR (bh .i64) l),bh .i64 n_] []=some (cc r,[]):=by
 refine c89 ?_ rfl;unfold k89;unfold Sl at h;obtain⟨Ae,hl2,h⟩:=BD h;try dsimp only at h
 simp (maxDischargeDepth:=9) only [↓AU,AV,Ap,↓reduceIte,bk,bl,bm,bo,bp,br,bt,bw,bx,bO,b0,b3,b4,b5,b6,b7,b8];refine BL (WE l n_ hl2 ?_) ?_
 ·simp (maxDischargeDepth:=9) only [↓AU,AV,Ap,↓reduceIte,bk,bl,bm,bo,bp,br,bt,bw,bx,bO,b0,b3,b4,b5,b6,b7,b8,Fh]<;>(repeat' apply A7)<;>first|rfl|exact⟨_,rfl⟩|exact⟨_,_,rfl⟩|simp [AR,AB]
 ·intro ex2 s2 hX2;rcases Ae with q1000_|q1000_
  ·unfold Fj at hX2;dsimp only at hX2 h;obtain⟨rfl,n2_0⟩:=hX2
   obtain rfl:=Option.some.inj h
   simp (maxDischargeDepth:=9) only [↓AU,AV,Ap,↓reduceIte,bk,bl,bm,bo,bp,br,bt,bw,bx,bO,b0,b3,b4,b5,b6,b7,b8,n2_0]<;>(repeat' apply A7)<;>first|rfl|exact⟨_,rfl⟩|exact⟨_,_,rfl⟩|simp [AR,AB]
  ·unfold Fj at hX2;dsimp only at hX2 h
   obtain rfl:=hX2
   obtain rfl:=Option.some.inj h
   simp (maxDischargeDepth:=9) only [↓AU,AV,Ap,↓reduceIte,bk,bl,bm,bo,bp,br,bt,bw,bx,bO,b0,b3,b4,b5,b6,b7,b8]<;>(repeat' apply A7)<;>first|rfl|exact⟨_,rfl⟩|exact⟨_,_,rfl⟩|simp [AR,AB]
theorem eH(l:AP)(n:Int)(h:l.length<1099511627776):Sl l n=some (l.contains n):=by
 unfold Sl Mg;have key:=IZ (fun v=>I1 l n v) (fun i=>(i:Int)) l.length (fun i=> !decide (l.getD i bj=n)) (.inl ()) (.inr ()) ?_ ?_
 ·simp only [LQ]at key;rw [key,Zx (fun x=> !decide (x=n))]
  have e:l.all (fun x=> !decide (x=n))= !l.contains n:=by
   rw [List.all_eq_not_any_not,List.contains_eq_any_beq]
   congr 2
   funext x
   rw [Bool.not_not,QT,decide_eq_true_eq,beq_iff_eq];exact eq_comm
  rw [e]
  cases l.contains n<;>rfl
 ·intro i hi;simp only [I1];rw [if_pos (Bb hi),Bq (I8 hi),K3,KO i (by omega)]
  by_cases hq:l.getD i bj=n
  ·rw [if_pos hq,decide_eq_true hq];rfl
  ·rw [if_neg hq,decide_eq_false hq];rfl
 ·simp only [I1];rw [if_neg (BB _)]
theorem Mh(l:AP)(n_:Int)(h0:l.length<1099511627776):Y.call 89 [b9 3 (AR (bh .i64) l),bh .i64 n_] []=some (cc (l.contains n_),[]):=Y2 l n_ (eH l n_ h0)
def C9(l:Ay):Prop:=l.length<1099511627776∧ ∀x∈l,x.length<549755813888
instance (l:Ay):Decidable (C9 l):=by unfold C9;infer_instance
theorem C9.at{l:Ay}(h:C9 l)(i:Nat)(hi:i<l.length):l[i].length<549755813888:=h.2 _ (LP hi)
theorem C9.getD{l:Ay}(h:C9 l)(i:Nat):(l.getD i bj).length<549755813888:=by
 by_cases hi:i<l.length
 ·rw [BN _ _ hi];exact h.at i hi
 ·rw [KR,List.getElem?_eq_none (by omega)];decide
theorem AAC{a:DK}{i:Nat}(h:i<a.length):(BQ a i,CU a i)=a[i]:=by
 unfold BQ CU;rw [BN _ _ h]
def Sm(a_Node:Int)(a_Port:Int):Option (Int×Int):= some (a_Node,a_Port)
def A2m:SC:= .seq (.ops [oX 1 (.box 159 (tK 0)) 0,oX 2 (.alloc 125) 0]) (.seq (.ops [oX 3 (.alloc 125) 0]) (.seq (.ops [oF 4 159 1 0,oL 5 3 4 3,oF 6 125 3 0,oS 3 6 5]) (.seq (.ops [oF 7 159 1 1,oL 8 3 7 3,oF 9 125 3 1,oS 3 9 8]) (.seq (.ops [oL 10 125 3 125,oS 125 2 10]) .ret))))
theorem tY:Try.f151.body.map (BV lends)=some A2m:=by kernel_rfl
theorem AAD:Bl Try.f151 1=true:=by kernel_rfl
theorem AFX{a l:List D}{r:D×List D}(h:Br Y.env A2m (Fa Ag l.length [ResultVar.cell 2 125] r) (entry a l))(ha:a.length=1):Y.call 151 a l=some r:=
 Af (Y:=Y) rfl Try.func151 (ha▸AAD) tY h
theorem Y3(a_Node:Int)(a_Port:Int){r:Int×Int}(h:Sm a_Node a_Port=some r):Y.call 151 [D.agg [bh .i64 a_Node,bh .i64 a_Port]] []=some (D.agg [bh .i64 r.1,bh .i64 r.2],[]):=by
 refine AFX ?_ rfl;unfold A2m;unfold Sm at h
 obtain rfl:=Option.some.inj h
 simp (maxDischargeDepth:=9) only [↓AU,AV,Ap,↓reduceIte,bk,bl,bm,bo,bp,br,bt,bw,bx,bO,b0,b3,b4,b5,b6,b7,b8]<;>(repeat' apply A7)<;>first|rfl|exact⟨_,rfl⟩|exact⟨_,_,rfl⟩|simp [AR,AB]
def GK(a:DK)(out:DK)(i:Int):Option ((DK×Int)⊕(DK)):= if i<(a.length:Int)then ck (0≤i∧i.toNat<a.length)<| (Sm (BQ a i.toNat) (CU a i.toNat)).bind fun A2n=> ck (0≤i∧i.toNat<out.length)<| some (cd ((out.set i.toNat (A2n.1,A2n.2)),cf.wrap (i+1))) else some (ca out)
def L8(a:DK)(v:DK×Int):Option (DK):=JB (fun v=>GK a v.1 v.2) v
def Q6(a:DK):Option (DK):= ck (0≤(a.length:Int)∧(a.length:Int)<1099511627776)<| (L8 a ((ao a.length (0,0)),0)).bind fun Ae=> some Ae
def UY:SC:= .seq (.seq (.ops [oM 8 4 3,oM 9 0 121,oN 10 9 121,oB 11 .lss 3 (tK 8) (tK 10) 3 4]) (.cond (tK 11) .skip (.exit 0))) (.seq (.block 1 (.ops [oM 14 3 123,oM 15 4 3,oM 16 0 121,oM 17 4 3,oI 18 121 16 17,oL 19 159 18 159,oC 20 151 [(tK 19)] [159] 125,oI 21 123 14 15,oS 125 21 20])) (.ops [oM 12 4 3,oB 13 .add 3 (tK 12) (iK 1) 3 3,oA 4 13 3]))
def gT:SC:= .loop UY
def A2o:SC:= .seq (.ops [oX 2 Qn 123]) (.seq (.ops [oM 5 0 121,oN 6 5 121,oX 7 (.makeSlice 123 (tK 6) (tK 6)) 123,oA 3 7 123]) (.seq (.seq (.ops [oX 4 (.assign (iK 0)) 3]) (.block 0 gT)) (.seq (.ops [oM 22 3 123,oA 2 22 123]) .ret)))
theorem tZ:Try.f111.body.map (BV lends)=some A2o:=by kernel_rfl
theorem AAE:Bl Try.f111 1=true:=by kernel_rfl
theorem AFY{a l:List D}{r:D×List D}(h:Br Y.env A2o (Fa Ag l.length [ce 2] r) (entry a l))(ha:a.length=1):Y.call 111 a l=some r:=
 Af (Y:=Y) rfl Try.func111 (ha▸AAE) tZ h
def GL(a:DK)(out:DK)(i:Int)(s:St):Prop:=s.v 0=b9 159 (Az .i64 .i64 a)∧s.v 3=cb 125 (Az .i64 .i64 out)∧s.v 4=bh .i64 i
def IJ(a:DK)(r:DK)(ex:Ex)(s:St):Prop:=ex= .exit 0∧s.v 3=cb 125 (Az .i64 .i64 r)
theorem UZ(a:DK){v:DK×Int}{s:St}{r:DK}(h:L8 a v=some r)(hM:GL a v.1 v.2 s):Br Y.env gT (IJ a r) s:=by
 unfold L8 at h;refine BX (c:=UY) (fun v=>GK a v.1 v.2) (fun v s=>GL a v.1 v.2 s) (IJ a) ?_ h hM;clear h hM s v r;intro v s o hM h;obtain⟨out,i⟩:=v;dsimp only at h hM;unfold GK at h;unfold GL at hM;obtain⟨m0,m1,m2⟩:=hM;unfold UY;by_cases e2:i<(a.length:Int)
 ·rw [if_pos e2]at h;obtain⟨e3,h⟩:=Bw h;obtain⟨A2n,hl4,h⟩:=BD h;try dsimp only at h
  have c4:=Y3 (BQ a i.toNat) (CU a i.toNat) hl4;obtain⟨e5,h⟩:=Bw h
  obtain rfl:=Option.some.inj h
  simp (maxDischargeDepth:=9) only [↓AU,AV,Ap,↓reduceIte,bk,bl,bm,bo,bp,br,bt,bw,bx,bO,b0,b3,b4,b5,b6,b7,b8,m0,m1,m2,e2,e3.1,e3.2,c4,e5.1,e5.2,GL,IJ,Ca,Cb,Cc]<;>(repeat' apply A7)<;>first|rfl|exact⟨_,rfl⟩|exact⟨_,_,rfl⟩|simp [AR,AB]
 ·rw [if_neg e2]at h
  obtain rfl:=Option.some.inj h
  simp (maxDischargeDepth:=9) only [↓AU,AV,Ap,↓reduceIte,bk,bl,bm,bo,bp,br,bt,bw,bx,bO,b0,b3,b4,b5,b6,b7,b8,m0,m1,m2,e2,GL,IJ,Ca,Cb,Cc]<;>(repeat' apply A7)<;>first|rfl|exact⟨_,rfl⟩|exact⟨_,_,rfl⟩|simp [AR,AB]
theorem WF(a:DK){r:DK}(h:Q6 a=some r):Y.call 111 [b9 159 (Az .i64 .i64 a)] []=some (cb 125 (Az .i64 .i64 r),[]):=by
 refine AFY ?_ rfl;unfold A2o;unfold Q6 at h;obtain⟨e1,h⟩:=Bw h;obtain⟨Ae,hl3,h⟩:=BD h;try dsimp only at h
 simp (maxDischargeDepth:=9) only [↓AU,AV,Ap,↓reduceIte,bk,bl,bm,bo,bp,br,bt,bw,bx,bO,b0,b3,b4,b5,b6,b7,b8,e1.1,e1.2];refine BL (UZ a hl3 ?_) ?_
 ·simp (maxDischargeDepth:=9) only [↓AU,AV,Ap,↓reduceIte,bk,bl,bm,bo,bp,br,bt,bw,bx,bO,b0,b3,b4,b5,b6,b7,b8,e1.1,e1.2,GL]<;>(repeat' apply A7)<;>first|rfl|exact⟨_,rfl⟩|exact⟨_,_,rfl⟩|simp [AR,AB]
 ·intro ex3 s3 hX3;unfold IJ at hX3;obtain⟨rfl,n3_0⟩:=hX3
  obtain rfl:=Option.some.inj h
  simp (maxDischargeDepth:=9) only [↓AU,AV,Ap,↓reduceIte,bk,bl,bm,bo,bp,br,bt,bw,bx,bO,b0,b3,b4,b5,b6,b7,b8,e1.1,e1.2,n3_0]<;>(repeat' apply A7)<;>first|rfl|exact⟨_,rfl⟩|exact⟨_,_,rfl⟩|simp [AR,AB]
theorem aK(a:DK)(h:a.length<549755813888):Q6 a=some a:=by
 have key:=CJ (fun v=>GK a v.1 v.2) (fun i=>(a.take i++ao (a.length-i) (0,0),(i:Int))) a.length a ?_ ?_
 ·unfold Q6 L8;rw [Bq (by omega)]
  simp only [List.take_zero,PP,Nat.sub_zero,LQ]at key;rw [key];rfl
 ·intro i hi;simp only [GK,Sm,K3];rw [if_pos (Bb hi),Bq (by omega),Cn,Bq (by simp;omega),AAC hi,Xq a i hi (0,0),KO i (by omega)]
 ·simp only [GK];rw [if_neg (BB _)];simp
theorem aL(a:DK)(h0:a.length<549755813888):Y.call 111 [b9 159 (Az .i64 .i64 a)] []=some (cb 125 (Az .i64 .i64 a),[]):=WF a (aK a h0)
def FD(a:Ay)(out:Ay)(i:Int):Option ((Ay×Int)⊕(Ay)):= if i<(a.length:Int)then ck (0≤i∧i.toNat<a.length)<| ck ((a.getD i.toNat bj).length<549755813888)<| ck (0≤i∧i.toNat<out.length)<| some (cd ((out.set i.toNat (a.getD i.toNat bj)),cf.wrap (i+1))) else some (ca out)
def KC(a:Ay)(v:Ay×Int):Option (Ay):=JB (fun v=>FD a v.1 v.2) v
def OA(a:Ay):Option (Ay):= ck (0≤(a.length:Int)∧(a.length:Int)<1099511627776)<| (KC a ((ao a.length ([]:DK)),0)).bind fun Ae=> some Ae
def Y4:SC:= .seq (.seq (.ops [oM 8 4 3,oM 9 0 39,oN 10 9 39,oB 11 .lss 3 (tK 8) (tK 10) 3 4]) (.cond (tK 11) .skip (.exit 0))) (.seq (.block 1 (.ops [oM 14 3 45,oM 15 4 3,oM 16 0 39,oM 17 4 3,oI 18 39 16 17,oL 19 121 18 121,oC 20 111 [(tK 19)] [121] 123,oI 21 45 14 15,oS 123 21 20])) (.ops [oM 12 4 3,oB 13 .add 3 (tK 12) (iK 1) 3 3,oA 4 13 3]))
def pJ:SC:= .loop Y4
def k65:SC:= .seq (.ops [oX 2 Qn 45]) (.seq (.ops [oM 5 0 39,oN 6 5 39,oX 7 (.makeSlice 45 (tK 6) (tK 6)) 45,oA 3 7 45]) (.seq (.seq (.ops [oX 4 (.assign (iK 0)) 3]) (.block 0 pJ)) (.seq (.ops [oM 22 3 45,oA 2 22 45]) .ret)))
theorem A2p:Try.f65.body.map (BV lends)=some k65:=by kernel_rfl
theorem AFa:Bl Try.f65 1=true:=by kernel_rfl
theorem c65{a l:List D}{r:D×List D}(h:Br Y.env k65 (Fa Ag l.length [ce 2] r) (entry a l))(ha:a.length=1):Y.call 65 a l=some r:=
 Af (Y:=Y) rfl Try.func65 (ha▸AFa) A2p h
def FE(a:Ay)(out:Ay)(i:Int)(s:St):Prop:=s.v 0=b9 121 (AR (fun x=>b9 159 (Az .i64 .i64 x)) a)∧s.v 3=cb 123 (AR (fun x=>cb 125 (Az .i64 .i64 x)) out)∧s.v 4=bh .i64 i
def Gz(a:Ay)(r:Ay)(ex:Ex)(s:St):Prop:=ex= .exit 0∧s.v 3=cb 123 (AR (fun x=>cb 125 (Az .i64 .i64 x)) r)
theorem SA(a:Ay){v:Ay×Int}{s:St}{r:Ay}(h:KC a v=some r)(hM:FE a v.1 v.2 s):Br Y.env pJ (Gz a r) s:=by
 unfold KC at h;refine BX (c:=Y4) (fun v=>FD a v.1 v.2) (fun v s=>FE a v.1 v.2 s) (Gz a) ?_ h hM;clear h hM s v r;intro v s o hM h;obtain⟨out,i⟩:=v;dsimp only at h hM;unfold FD at h;unfold FE at hM;obtain⟨m0,m1,m2⟩:=hM;unfold Y4;by_cases e2:i<(a.length:Int)
 ·rw [if_pos e2]at h;obtain⟨e3,h⟩:=Bw h;obtain⟨e4,h⟩:=Bw h;have c5:=aL (a.getD i.toNat bj) e4;obtain⟨e6,h⟩:=Bw h
  obtain rfl:=Option.some.inj h
  simp (maxDischargeDepth:=9) only [↓AU,AV,Ap,↓reduceIte,bk,bl,bm,bo,bp,br,bt,bw,bx,bO,b0,b3,b4,b5,b6,b7,b8,m0,m1,m2,e2,e3.1,e3.2,e4,c5,e6.1,e6.2,FE,Gz,Ca,Cb,Cc]<;>(repeat' apply A7)<;>first|rfl|exact⟨_,rfl⟩|exact⟨_,_,rfl⟩|simp [AR,AB]
 ·rw [if_neg e2]at h
  obtain rfl:=Option.some.inj h
  simp (maxDischargeDepth:=9) only [↓AU,AV,Ap,↓reduceIte,bk,bl,bm,bo,bp,br,bt,bw,bx,bO,b0,b3,b4,b5,b6,b7,b8,m0,m1,m2,e2,FE,Gz,Ca,Cb,Cc]<;>(repeat' apply A7)<;>first|rfl|exact⟨_,rfl⟩|exact⟨_,_,rfl⟩|simp [AR,AB]
theorem Ua(a:Ay){r:Ay}(h:OA a=some r):Y.call 65 [b9 121 (AR (fun x=>b9 159 (Az .i64 .i64 x)) a)] []=some (cb 123 (AR (fun x=>cb 125 (Az .i64 .i64 x)) r),[]):=by
 refine c65 ?_ rfl;unfold k65;unfold OA at h;obtain⟨e1,h⟩:=Bw h;obtain⟨Ae,hl3,h⟩:=BD h;try dsimp only at h
 simp (maxDischargeDepth:=9) only [↓AU,AV,Ap,↓reduceIte,bk,bl,bm,bo,bp,br,bt,bw,bx,bO,b0,b3,b4,b5,b6,b7,b8,e1.1,e1.2];refine BL (SA a hl3 ?_) ?_
 ·simp (maxDischargeDepth:=9) only [↓AU,AV,Ap,↓reduceIte,bk,bl,bm,bo,bp,br,bt,bw,bx,bO,b0,b3,b4,b5,b6,b7,b8,e1.1,e1.2,FE]<;>(repeat' apply A7)<;>first|rfl|exact⟨_,rfl⟩|exact⟨_,_,rfl⟩|simp [AR,AB]
 ·intro ex3 s3 hX3;unfold Gz at hX3;obtain⟨rfl,n3_0⟩:=hX3
  obtain rfl:=Option.some.inj h
  simp (maxDischargeDepth:=9) only [↓AU,AV,Ap,↓reduceIte,bk,bl,bm,bo,bp,br,bt,bw,bx,bO,b0,b3,b4,b5,b6,b7,b8,e1.1,e1.2,n3_0]<;>(repeat' apply A7)<;>first|rfl|exact⟨_,rfl⟩|exact⟨_,_,rfl⟩|simp [AR,AB]
theorem Y5(a:Ay)(h:C9 a):OA a=some a:=by
 have h1:=h.1;have key:=CJ (fun v=>FD a v.1 v.2) (fun i=>(a.take i++ao (a.length-i) [],(i:Int))) a.length a ?_ ?_
 ·unfold OA KC;rw [Bq (by omega)]
  simp only [List.take_zero,PP,Nat.sub_zero,LQ]at key;rw [key];rfl
 ·intro i hi;simp only [FD];rw [if_pos (Bb hi),Bq (I8 hi),Bq (by rw [J5 _ _ hi];exact h.at i hi),Bq (I8 (by simp;omega)),J5 _ _ hi,K3,Xq a i hi [],KO i (by omega)]
 ·simp only [FD];rw [if_neg (BB _)];simp
theorem Y6(a:Ay)(h0:C9 a):Y.call 65 [b9 121 (AR (fun x=>b9 159 (Az .i64 .i64 x)) a)] []=some (cb 123 (AR (fun x=>cb 125 (Az .i64 .i64 x)) a),[]):=Ua a (Y5 a h0)
def L9(Ao:Ay)(BM:AP)(Ar:AP):Option (Ay×AP×AP):= ck (C9 Ao)<| ck (BM.length<1099511627776)<| ck (Ar.length<1099511627776)<| some (Ao,BM,Ar)
def k23:SC:= .seq (.ops [oX 1 (.box 41 (tK 0)) 0,oX 2 (.alloc 47) 0]) (.seq (.ops [oX 3 (.alloc 47) 0]) (.seq (.ops [oF 4 41 1 0,oL 5 39 4 39,oC 6 65 [(tK 5)] [39] 45,oF 7 47 3 0,oS 45 7 6]) (.seq (.ops [oF 8 41 1 1,oL 9 26 8 26,oC 10 66 [(tK 9)] [26] 26,oF 11 47 3 1,oS 26 11 10]) (.seq (.ops [oF 12 41 1 2,oL 13 26 12 26,oC 14 66 [(tK 13)] [26] 26,oF 15 47 3 2,oS 26 15 14]) (.seq (.ops [oL 16 47 3 47,oS 47 2 16]) .ret)))))
theorem A2q:Try.f23.body.map (BV lends)=some k23:=by kernel_rfl
theorem AFc:Bl Try.f23 1=true:=by kernel_rfl
theorem c23{a l:List D}{r:D×List D}(h:Br Y.env k23 (Fa Ag l.length [ResultVar.cell 2 47] r) (entry a l))(ha:a.length=1):Y.call 23 a l=some r:=
 Af (Y:=Y) rfl Try.func23 (ha▸AFc) A2q h
theorem Qs(Ao:Ay)(BM:AP)(Ar:AP){r:Ay×AP×AP}(h:L9 Ao BM Ar=some r):Y.call 23 [D.agg [b9 121 (AR (fun x=>b9 159 (Az .i64 .i64 x)) Ao),b9 3 (AR (bh .i64) BM),b9 3 (AR (bh .i64) Ar)]] []=some (D.agg [cb 123 (AR (fun x=>cb 125 (Az .i64 .i64 x)) r.1),cb 3 (AR (bh .i64) r.2.1),cb 3 (AR (bh .i64) r.2.2)],[]):=by
 refine c23 ?_ rfl;unfold k23;unfold L9 at h;obtain⟨e1,h⟩:=Bw h;have c2:=Y6 Ao e1;obtain⟨e3,h⟩:=Bw h;have c4:=Rk BM e3;obtain⟨e5,h⟩:=Bw h;have c6:=Rk Ar e5
 obtain rfl:=Option.some.inj h
 simp (maxDischargeDepth:=9) only [↓AU,AV,Ap,↓reduceIte,bk,bl,bm,bo,bp,br,bt,bw,bx,bO,b0,b3,b4,b5,b6,b7,b8,e1,c2,e3,c4,e5,c6]<;>(repeat' apply A7)<;>first|rfl|exact⟨_,rfl⟩|exact⟨_,_,rfl⟩|simp [AR,AB]
theorem Ub(a:Ay)(b c:AP)(h:C9 a)(hb:b.length<1099511627776)(hc:c.length<1099511627776):L9 a b c=some (a,b,c):=by
 unfold L9;rw [Bq h,Bq hb,Bq hc]
theorem FF(Ao:Ay)(BM:AP)(Ar:AP)(h0:C9 Ao)(h1:BM.length<1099511627776)(h2:Ar.length<1099511627776):Y.call 23 [D.agg [b9 121 (AR (fun x=>b9 159 (Az .i64 .i64 x)) Ao),b9 3 (AR (bh .i64) BM),b9 3 (AR (bh .i64) Ar)]] []=some (D.agg [cb 123 (AR (fun x=>cb 125 (Az .i64 .i64 x)) Ao),cb 3 (AR (bh .i64) BM),cb 3 (AR (bh .i64) Ar)],[]):=Qs Ao BM Ar (Ub Ao BM Ar h0 h1 h2)
def Q7(a_Node:Int)(a_Port:Int)(b_Node:Int)(b_Port:Int):Option (Bool):= if a_Node=b_Node then if a_Port=b_Port then some true else some false else some false
def A2r:SC:= .seq (.ops [oX 2 (.box 125 (tK 0)) 0,oX 3 (.box 125 (tK 1)) 0,oX 4 BS 4]) (.seq (.seq (.ops [oF 5 125 2 0,oL 6 3 5 3,oF 7 125 3 0,oL 8 3 7 3,oB 9 .neq 3 (tK 6) (tK 8) 3 4]) (.cond (tK 9) (.seq (.ops [oX 4 BS 4]) .ret) .skip)) (.seq (.seq (.ops [oF 10 125 2 1,oL 11 3 10 3,oF 12 125 3 1,oL 13 3 12 3,oB 14 .neq 3 (tK 11) (tK 13) 3 4]) (.cond (tK 14) (.seq (.ops [oX 4 BS 4]) .ret) .skip)) (.seq (.ops [oX 4 (.assign Dl) 4]) .ret)))
theorem tq:Try.f158.body.map (BV lends)=some A2r:=by kernel_rfl
theorem AAF:Bl Try.f158 2=true:=by kernel_rfl
theorem AFd{a l:List D}{r:D×List D}(h:Br Y.env A2r (Fa Ag l.length [ce 4] r) (entry a l))(ha:a.length=2):Y.call 158 a l=some r:=
 Af (Y:=Y) rfl Try.func158 (ha▸AAF) tq h
theorem Y7(a_Node:Int)(a_Port:Int)(b_Node:Int)(b_Port:Int){r:Bool}(h:Q7 a_Node a_Port b_Node b_Port=some r):Y.call 158 [D.agg [bh .i64 a_Node,bh .i64 a_Port],D.agg [bh .i64 b_Node,bh .i64 b_Port]] []=some (cc r,[]):=by
 refine AFd ?_ rfl;unfold A2r;unfold Q7 at h;by_cases e1:a_Node=b_Node
 ·rw [if_pos e1]at h;by_cases e2:a_Port=b_Port
  ·rw [if_pos e2]at h
   obtain rfl:=Option.some.inj h
   simp (maxDischargeDepth:=9) only [↓AU,AV,Ap,↓reduceIte,bk,bl,bm,bo,bp,br,bt,bw,bx,bO,b0,b3,b4,b5,b6,b7,b8,decide_eq_true e1,decide_eq_true e2]<;>(repeat' apply A7)<;>first|rfl|exact⟨_,rfl⟩|exact⟨_,_,rfl⟩|simp [AR,AB]
  ·rw [if_neg e2]at h
   obtain rfl:=Option.some.inj h
   simp (maxDischargeDepth:=9) only [↓AU,AV,Ap,↓reduceIte,bk,bl,bm,bo,bp,br,bt,bw,bx,bO,b0,b3,b4,b5,b6,b7,b8,decide_eq_true e1,e2]<;>(repeat' apply A7)<;>first|rfl|exact⟨_,rfl⟩|exact⟨_,_,rfl⟩|simp [AR,AB]
 ·rw [if_neg e1]at h
  obtain rfl:=Option.some.inj h
  simp (maxDischargeDepth:=9) only [↓AU,AV,Ap,↓reduceIte,bk,bl,bm,bo,bp,br,bt,bw,bx,bO,b0,b3,b4,b5,b6,b7,b8,e1]<;>(repeat' apply A7)<;>first|rfl|exact⟨_,rfl⟩|exact⟨_,_,rfl⟩|simp [AR,AB]
def GM(a:DK)(b:DK)(i:Int):Option ((Int)⊕(Unit⊕Unit)):= if i<(a.length:Int)then ck (0≤i∧i.toNat<a.length)<| ck (0≤i∧i.toNat<b.length)<| (Q7 (BQ a i.toNat) (CU a i.toNat) (BQ b i.toNat) (CU b i.toNat)).bind fun Ie=> if Ie=true then some (cd (cf.wrap (i+1))) else some (ca (cd ())) else some (ca (ca ()))
def LA(a:DK)(b:DK)(v:Int):Option (Unit⊕Unit):=JB (fun v=>GM a b v) v
def Q8(a:DK)(b:DK):Option (Bool):=
 if(a.length:Int)=(b.length:Int)then
  (LA a b 0).bind fun Ae=>
  match Ae with
  | .inl q1000_=>
   some false
  | .inr q1000_=>
   some true
 else
  some false
abbrev X6:List Nat:=[17,18,19,20,21,22,23,24,25,26]
def Uc:SC:= .seq (.seq (.ops [oM 11 5 3,oM 12 0 123,oN 13 12 123,oB 14 .lss 3 (tK 11) (tK 13) 3 4]) (.cond (tK 14) .skip (.exit 0))) (.seq (.block 1 (.seq (.draws [(⟨[17,0,0],X6,[17]⟩,oM 17 0 123),(⟨[18,5,5],X6,[18]⟩,oM 18 5 3),(⟨[19,17,18,0,5],X6,[19]⟩,oI 19 123 17 18),(⟨[20,19,0],X6,[20]⟩,oL 20 125 19 125),(⟨[21,1,1],X6,[21]⟩,oM 21 1 123),(⟨[22,5,5],X6,[22]⟩,oM 22 5 3),(⟨[23,21,22,1,5],X6,[23]⟩,oI 23 123 21 22),(⟨[24,23,1],X6,[24]⟩,oL 24 125 23 125),(⟨[25,20,24,0,1],X6,[25]⟩,oC 25 158 [(tK 20),(tK 24)] [125,125] 4),(⟨[26,25,25],X6,[26]⟩,oX 26 (.unOp .not 4 (tK 25)) 4)]) (.cond (tK 26) (.seq (.ops [oX 4 BS 4]) .ret) .skip))) (.ops [oM 15 5 3,oB 16 .add 3 (tK 15) (iK 1) 3 3,oA 5 16 3]))
def gU:SC:= .loop Uc
def A2s:SC:= .seq (.ops [oX 4 BS 4]) (.seq (.seq (.ops [oM 6 0 123,oN 7 6 123,oM 8 1 123,oN 9 8 123,oB 10 .neq 3 (tK 7) (tK 9) 3 4]) (.cond (tK 10) (.seq (.ops [oX 4 BS 4]) .ret) .skip)) (.seq (.seq (.ops [oX 5 (.assign (iK 0)) 3]) (.block 0 gU)) (.seq (.ops [oX 4 (.assign Dl) 4]) .ret)))
theorem tu:Try.f126.body.map (BV lends)=some A2s:=by kernel_rfl
theorem AAG:Bl Try.f126 2=true:=by kernel_rfl
theorem AFe{a l:List D}{r:D×List D}(h:Br Y.env A2s (Fa Ag l.length [ce 4] r) (entry a l))(ha:a.length=2):Y.call 126 a l=some r:=
 Af (Y:=Y) rfl Try.func126 (ha▸AAG) tu h
def Et(a:DK)(b:DK)(i:Int)(s:St):Prop:=s.v 0=b9 125 (Az .i64 .i64 a)∧s.v 1=b9 125 (Az .i64 .i64 b)∧s.v 5=bh .i64 i
def Eu(a:DK)(b:DK)(r:Unit⊕Unit)(ex:Ex)(s:St):Prop:=match r with
 | .inl q=>ex= .ret∧s.v 4=cc false
 | .inr q=>ex= .exit 0
theorem Ud(a:DK)(b:DK){v:Int}{s:St}{r:Unit⊕Unit}(h:LA a b v=some r)(hM:Et a b v s):Br Y.env gU (Eu a b r) s:=by
 unfold LA at h;refine BX (c:=Uc) (fun v=>GM a b v) (fun v s=>Et a b v s) (Eu a b) ?_ h hM;clear h hM s v r;intro i s o hM h;unfold GM at h;unfold Et at hM;obtain⟨m0,m1,m2⟩:=hM;unfold Uc;by_cases e2:i<(a.length:Int)
 ·rw [if_pos e2]at h;obtain⟨e3,h⟩:=Bw h;obtain⟨e4,h⟩:=Bw h;obtain⟨Ie,hl5,h⟩:=BD h;try dsimp only at h
  have c5:=Y7 (BQ a i.toNat) (CU a i.toNat) (BQ b i.toNat) (CU b i.toNat) hl5;by_cases e6:Ie=true
  ·rw [if_pos e6]at h
   obtain rfl:=Option.some.inj h
   simp (maxDischargeDepth:=9) only [↓AU,AV,Ap,↓reduceIte,bk,bl,bm,bo,bp,br,bt,bw,bx,bO,b0,b3,b4,b5,b6,b7,b8,m0,m1,m2,e2,e3.1,e3.2,e4.1,e4.2,c5,e6,Et,Eu,Ca,Cb,Cc]<;>(repeat' apply A7)<;>first|rfl|exact⟨_,rfl⟩|exact⟨_,_,rfl⟩|simp [AR,AB]
  ·rw [if_neg e6]at h;have e6f:Ie=false:=K7.mpr e6
   obtain rfl:=Option.some.inj h
   simp (maxDischargeDepth:=9) only [↓AU,AV,Ap,↓reduceIte,bk,bl,bm,bo,bp,br,bt,bw,bx,bO,b0,b3,b4,b5,b6,b7,b8,m0,m1,m2,e2,e3.1,e3.2,e4.1,e4.2,c5,e6f,Et,Eu,Ca,Cb,Cc]<;>(repeat' apply A7)<;>first|rfl|exact⟨_,rfl⟩|exact⟨_,_,rfl⟩|simp [AR,AB]
 ·rw [if_neg e2]at h
  obtain rfl:=Option.some.inj h
  simp (maxDischargeDepth:=9) only [↓AU,AV,Ap,↓reduceIte,bk,bl,bm,bo,bp,br,bt,bw,bx,bO,b0,b3,b4,b5,b6,b7,b8,m0,m1,m2,e2,Et,Eu,Ca,Cb,Cc]<;>(repeat' apply A7)<;>first|rfl|exact⟨_,rfl⟩|exact⟨_,_,rfl⟩|simp [AR,AB]
theorem WG(a:DK)(b:DK){r:Bool}(h:Q8 a b=some r):Y.call 126 [b9 125 (Az .i64 .i64 a),b9 125 (Az .i64 .i64 b)] []=some (cc r,[]):=by
 refine AFe ?_ rfl;unfold A2s;unfold Q8 at h;by_cases e1:(a.length:Int)=(b.length:Int)
 ·rw [if_pos e1]at h;obtain⟨Ae,hl3,h⟩:=BD h;try dsimp only at h
  simp (maxDischargeDepth:=9) only [↓AU,AV,Ap,↓reduceIte,bk,bl,bm,bo,bp,br,bt,bw,bx,bO,b0,b3,b4,b5,b6,b7,b8,decide_eq_true e1];refine BL (Ud a b hl3 ?_) ?_
  ·simp (maxDischargeDepth:=9) only [↓AU,AV,Ap,↓reduceIte,bk,bl,bm,bo,bp,br,bt,bw,bx,bO,b0,b3,b4,b5,b6,b7,b8,decide_eq_true e1,Et]<;>(repeat' apply A7)<;>first|rfl|exact⟨_,rfl⟩|exact⟨_,_,rfl⟩|simp [AR,AB]
  ·intro ex3 s3 hX3;rcases Ae with q1000_|q1000_
   ·unfold Eu at hX3;dsimp only at hX3 h;obtain⟨rfl,n3_0⟩:=hX3
    obtain rfl:=Option.some.inj h
    simp (maxDischargeDepth:=9) only [↓AU,AV,Ap,↓reduceIte,bk,bl,bm,bo,bp,br,bt,bw,bx,bO,b0,b3,b4,b5,b6,b7,b8,decide_eq_true e1,n3_0]<;>(repeat' apply A7)<;>first|rfl|exact⟨_,rfl⟩|exact⟨_,_,rfl⟩|simp [AR,AB]
   ·unfold Eu at hX3;dsimp only at hX3 h
    obtain rfl:=hX3
    obtain rfl:=Option.some.inj h
    simp (maxDischargeDepth:=9) only [↓AU,AV,Ap,↓reduceIte,bk,bl,bm,bo,bp,br,bt,bw,bx,bO,b0,b3,b4,b5,b6,b7,b8,decide_eq_true e1]<;>(repeat' apply A7)<;>first|rfl|exact⟨_,rfl⟩|exact⟨_,_,rfl⟩|simp [AR,AB]
 ·rw [if_neg e1]at h
  obtain rfl:=Option.some.inj h
  simp (maxDischargeDepth:=9) only [↓AU,AV,Ap,↓reduceIte,bk,bl,bm,bo,bp,br,bt,bw,bx,bO,b0,b3,b4,b5,b6,b7,b8,e1]<;>(repeat' apply A7)<;>first|rfl|exact⟨_,rfl⟩|exact⟨_,_,rfl⟩|simp [AR,AB]
theorem eO(a b c d:Int):Q7 a b c d=some (decide ((a,b)=(c,d))):=by
 unfold Q7;by_cases h1:a=c<;>by_cases h2:b=d<;>simp [h1,h2]
theorem aM(a b:DK)(ha:a.length<549755813888):Q8 a b=some (decide (a=b)):=by
 unfold Q8 LA;by_cases hl:a.length=b.length
 ·rw [if_pos (by omega)]
  have key:=IZ (fun v=>GM a b v) (fun i=>(i:Int)) a.length (fun i=>decide (a.getD i bj=b.getD i bj)) (.inl ()) (.inr ()) ?_ ?_
  ·simp only [LQ]at key;rw [key,UM a b hl];by_cases he:a=b<;>simp [he]
  ·intro i hi;simp only [GM,K3];rw [if_pos (Bb hi),Bq (by omega),Bq (by omega),eO,Cn,KO i (by omega)]
   rfl
  ·simp only [GM];rw [if_neg (BB _)]
 ·rw [if_neg (by omega)]
  have: ¬a=b:=fun e=>hl (by rw [e])
  simp [this]
theorem aN(a:DK)(b:DK)(h0:a.length<549755813888):Y.call 126 [b9 125 (Az .i64 .i64 a),b9 125 (Az .i64 .i64 b)] []=some (cc (decide (a=b)),[]):=WG a b (aM a b h0)
def FH(a:Ay)(b:Ay)(i:Int):Option ((Int)⊕(Unit⊕Unit)):= if i<(a.length:Int)then ck (0≤i∧i.toNat<a.length)<| ck (0≤i∧i.toNat<b.length)<| ck ((a.getD i.toNat bj).length<549755813888)<| if(decide ((a.getD i.toNat bj)=(b.getD i.toNat bj)))=true then some (cd (cf.wrap (i+1))) else some (ca (cd ())) else some (ca (ca ()))
def KD(a:Ay)(b:Ay)(v:Int):Option (Unit⊕Unit):=JB (fun v=>FH a b v) v
def OB(a:Ay)(b:Ay):Option (Bool):=
 if(a.length:Int)=(b.length:Int)then
  (KD a b 0).bind fun Ae=>
  match Ae with
  | .inl q1000_=>
   some false
  | .inr q1000_=>
   some true
 else
  some false
def Y8:SC:= .seq (.seq (.ops [oM 11 5 3,oM 12 0 45,oN 13 12 45,oB 14 .lss 3 (tK 11) (tK 13) 3 4]) (.cond (tK 14) .skip (.exit 0))) (.seq (.block 1 (.seq (.draws [(⟨[17,0,0],X6,[17]⟩,oM 17 0 45),(⟨[18,5,5],X6,[18]⟩,oM 18 5 3),(⟨[19,17,18,0,5],X6,[19]⟩,oI 19 45 17 18),(⟨[20,19,0],X6,[20]⟩,oL 20 123 19 123),(⟨[21,1,1],X6,[21]⟩,oM 21 1 45),(⟨[22,5,5],X6,[22]⟩,oM 22 5 3),(⟨[23,21,22,1,5],X6,[23]⟩,oI 23 45 21 22),(⟨[24,23,1],X6,[24]⟩,oL 24 123 23 123),(⟨[25,20,24,0,1],X6,[25]⟩,oC 25 126 [(tK 20),(tK 24)] [123,123] 4),(⟨[26,25,25],X6,[26]⟩,oX 26 (.unOp .not 4 (tK 25)) 4)]) (.cond (tK 26) (.seq (.ops [oX 4 BS 4]) .ret) .skip))) (.ops [oM 15 5 3,oB 16 .add 3 (tK 15) (iK 1) 3 3,oA 5 16 3]))
def pK:SC:= .loop Y8
def k73:SC:= .seq (.ops [oX 4 BS 4]) (.seq (.seq (.ops [oM 6 0 45,oN 7 6 45,oM 8 1 45,oN 9 8 45,oB 10 .neq 3 (tK 7) (tK 9) 3 4]) (.cond (tK 10) (.seq (.ops [oX 4 BS 4]) .ret) .skip)) (.seq (.seq (.ops [oX 5 (.assign (iK 0)) 3]) (.block 0 pK)) (.seq (.ops [oX 4 (.assign Dl) 4]) .ret)))
theorem A2t:Try.f73.body.map (BV lends)=some k73:=by kernel_rfl
theorem AFg:Bl Try.f73 2=true:=by kernel_rfl
theorem c73{a l:List D}{r:D×List D}(h:Br Y.env k73 (Fa Ag l.length [ce 4] r) (entry a l))(ha:a.length=2):Y.call 73 a l=some r:=
 Af (Y:=Y) rfl Try.func73 (ha▸AFg) A2t h
def EL(a:Ay)(b:Ay)(i:Int)(s:St):Prop:=s.v 0=b9 123 (AR (fun x=>b9 125 (Az .i64 .i64 x)) a)∧s.v 1=b9 123 (AR (fun x=>b9 125 (Az .i64 .i64 x)) b)∧s.v 5=bh .i64 i
def EM(a:Ay)(b:Ay)(r:Unit⊕Unit)(ex:Ex)(s:St):Prop:=match r with
 | .inl q=>ex= .ret∧s.v 4=cc false
 | .inr q=>ex= .exit 0
theorem SB(a:Ay)(b:Ay){v:Int}{s:St}{r:Unit⊕Unit}(h:KD a b v=some r)(hM:EL a b v s):Br Y.env pK (EM a b r) s:=by
 unfold KD at h;refine BX (c:=Y8) (fun v=>FH a b v) (fun v s=>EL a b v s) (EM a b) ?_ h hM;clear h hM s v r;intro i s o hM h;unfold FH at h;unfold EL at hM;obtain⟨m0,m1,m2⟩:=hM;unfold Y8;by_cases e2:i<(a.length:Int)
 ·rw [if_pos e2]at h;obtain⟨e3,h⟩:=Bw h;obtain⟨e4,h⟩:=Bw h;obtain⟨e5,h⟩:=Bw h;have c6:=aN (a.getD i.toNat bj) (b.getD i.toNat bj) e5;by_cases e7:(decide ((a.getD i.toNat bj)=(b.getD i.toNat bj)))=true
  ·rw [if_pos e7]at h
   obtain rfl:=Option.some.inj h
   simp (maxDischargeDepth:=9) only [↓AU,AV,Ap,↓reduceIte,bk,bl,bm,bo,bp,br,bt,bw,bx,bO,b0,b3,b4,b5,b6,b7,b8,m0,m1,m2,e2,e3.1,e3.2,e4.1,e4.2,e5,c6,e7,EL,EM,Ca,Cb,Cc]<;>(repeat' apply A7)<;>first|rfl|exact⟨_,rfl⟩|exact⟨_,_,rfl⟩|simp [AR,AB]
  ·rw [if_neg e7]at h;have e7f:(decide ((a.getD i.toNat bj)=(b.getD i.toNat bj)))=false:=K7.mpr e7
   obtain rfl:=Option.some.inj h
   simp (maxDischargeDepth:=9) only [↓AU,AV,Ap,↓reduceIte,bk,bl,bm,bo,bp,br,bt,bw,bx,bO,b0,b3,b4,b5,b6,b7,b8,m0,m1,m2,e2,e3.1,e3.2,e4.1,e4.2,e5,c6,e7f,EL,EM,Ca,Cb,Cc]<;>(repeat' apply A7)<;>first|rfl|exact⟨_,rfl⟩|exact⟨_,_,rfl⟩|simp [AR,AB]
 ·rw [if_neg e2]at h
  obtain rfl:=Option.some.inj h
  simp (maxDischargeDepth:=9) only [↓AU,AV,Ap,↓reduceIte,bk,bl,bm,bo,bp,br,bt,bw,bx,bO,b0,b3,b4,b5,b6,b7,b8,m0,m1,m2,e2,EL,EM,Ca,Cb,Cc]<;>(repeat' apply A7)<;>first|rfl|exact⟨_,rfl⟩|exact⟨_,_,rfl⟩|simp [AR,AB]
theorem Ue(a:Ay)(b:Ay){r:Bool}(h:OB a b=some r):Y.call 73 [b9 123 (AR (fun x=>b9 125 (Az .i64 .i64 x)) a),b9 123 (AR (fun x=>b9 125 (Az .i64 .i64 x)) b)] []=some (cc r,[]):=by
 refine c73 ?_ rfl;unfold k73;unfold OB at h;by_cases e1:(a.length:Int)=(b.length:Int)
 ·rw [if_pos e1]at h;obtain⟨Ae,hl3,h⟩:=BD h;try dsimp only at h
  simp (maxDischargeDepth:=9) only [↓AU,AV,Ap,↓reduceIte,bk,bl,bm,bo,bp,br,bt,bw,bx,bO,b0,b3,b4,b5,b6,b7,b8,decide_eq_true e1];refine BL (SB a b hl3 ?_) ?_
  ·simp (maxDischargeDepth:=9) only [↓AU,AV,Ap,↓reduceIte,bk,bl,bm,bo,bp,br,bt,bw,bx,bO,b0,b3,b4,b5,b6,b7,b8,decide_eq_true e1,EL]<;>(repeat' apply A7)<;>first|rfl|exact⟨_,rfl⟩|exact⟨_,_,rfl⟩|simp [AR,AB]
  ·intro ex3 s3 hX3;rcases Ae with q1000_|q1000_
   ·unfold EM at hX3;dsimp only at hX3 h;obtain⟨rfl,n3_0⟩:=hX3
    obtain rfl:=Option.some.inj h
    simp (maxDischargeDepth:=9) only [↓AU,AV,Ap,↓reduceIte,bk,bl,bm,bo,bp,br,bt,bw,bx,bO,b0,b3,b4,b5,b6,b7,b8,decide_eq_true e1,n3_0]<;>(repeat' apply A7)<;>first|rfl|exact⟨_,rfl⟩|exact⟨_,_,rfl⟩|simp [AR,AB]
   ·unfold EM at hX3;dsimp only at hX3 h
    obtain rfl:=hX3
    obtain rfl:=Option.some.inj h
    simp (maxDischargeDepth:=9) only [↓AU,AV,Ap,↓reduceIte,bk,bl,bm,bo,bp,br,bt,bw,bx,bO,b0,b3,b4,b5,b6,b7,b8,decide_eq_true e1]<;>(repeat' apply A7)<;>first|rfl|exact⟨_,rfl⟩|exact⟨_,_,rfl⟩|simp [AR,AB]
 ·rw [if_neg e1]at h
  obtain rfl:=Option.some.inj h
  simp (maxDischargeDepth:=9) only [↓AU,AV,Ap,↓reduceIte,bk,bl,bm,bo,bp,br,bt,bw,bx,bO,b0,b3,b4,b5,b6,b7,b8,e1]<;>(repeat' apply A7)<;>first|rfl|exact⟨_,rfl⟩|exact⟨_,_,rfl⟩|simp [AR,AB]
theorem Y9(a b:Ay)(ha:C9 a):OB a b=some (decide (a=b)):=by
 have h1:=ha.1;unfold OB KD;by_cases hl:a.length=b.length
 ·rw [if_pos (by omega)]
  have key:=IZ (fun v=>FH a b v) (fun i=>(i:Int)) a.length (fun i=>decide (a.getD i bj=b.getD i bj)) (.inl ()) (.inr ()) ?_ ?_
  ·simp only [LQ]at key;rw [key,UM a b hl];by_cases he:a=b<;>simp [he]
  ·intro i hi;simp only [FH];rw [if_pos (Bb hi),Bq (I8 hi),Bq (I8 (by omega)),Bq (by rw [J5 _ _ hi];exact ha.at i hi),K3,KO i (by omega)]<;>simp only [decide_eq_true_eq]
  ·simp only [FH];rw [if_neg (BB _)]
 ·rw [if_neg (by omega)]
  have: ¬a=b:=fun e=>hl (by rw [e])
  simp [this]
theorem YA(a:Ay)(b:Ay)(h0:C9 a):Y.call 73 [b9 123 (AR (fun x=>b9 125 (Az .i64 .i64 x)) a),b9 123 (AR (fun x=>b9 125 (Az .i64 .i64 x)) b)] []=some (cc (decide (a=b)),[]):=Ue a b (Y9 a b h0)
def LB(Ao:Ay)(BM:AP)(Ar:AP)(Jz:Ay)(N9:AP)(G6:AP):Option (Bool):= ck (C9 Ao)<| if(decide (Ao=Jz))=true then ck (BM.length<1099511627776)<| if(decide (BM=N9))=true then ck (Ar.length<1099511627776)<| if(decide (Ar=G6))=true then some true else some false else some false else some false
def k25:SC:= .seq (.ops [oX 2 (.box 47 (tK 0)) 0,oX 3 (.box 47 (tK 1)) 0,oX 4 BS 4]) (.seq (.seq (.ops [oF 5 47 2 0,oL 6 45 5 45,oF 7 47 3 0,oL 8 45 7 45,oC 9 73 [(tK 6),(tK 8)] [45,45] 4,oX 10 (.unOp .not 4 (tK 9)) 4]) (.cond (tK 10) (.seq (.ops [oX 4 BS 4]) .ret) .skip)) (.seq (.seq (.ops [oF 11 47 2 1,oL 12 26 11 26,oF 13 47 3 1,oL 14 26 13 26,oC 15 14 [(tK 12),(tK 14)] [26,26] 4,oX 16 (.unOp .not 4 (tK 15)) 4]) (.cond (tK 16) (.seq (.ops [oX 4 BS 4]) .ret) .skip)) (.seq (.seq (.ops [oF 17 47 2 2,oL 18 26 17 26,oF 19 47 3 2,oL 20 26 19 26,oC 21 14 [(tK 18),(tK 20)] [26,26] 4,oX 22 (.unOp .not 4 (tK 21)) 4]) (.cond (tK 22) (.seq (.ops [oX 4 BS 4]) .ret) .skip)) (.seq (.ops [oX 4 (.assign Dl) 4]) .ret))))
theorem A2u:Try.f25.body.map (BV lends)=some k25:=by kernel_rfl
theorem AFi:Bl Try.f25 2=true:=by kernel_rfl
theorem u6{a l:List D}{r:D×List D}(h:Br Y.env k25 (Fa Ag l.length [ce 4] r) (entry a l))(ha:a.length=2):Y.call 25 a l=some r:=
 Af (Y:=Y) rfl Try.func25 (ha▸AFi) A2u h
theorem Qt(Ao:Ay)(BM:AP)(Ar:AP)(Jz:Ay)(N9:AP)(G6:AP){r:Bool}(h:LB Ao BM Ar Jz N9 G6=some r):Y.call 25 [D.agg [b9 123 (AR (fun x=>b9 125 (Az .i64 .i64 x)) Ao),b9 3 (AR (bh .i64) BM),b9 3 (AR (bh .i64) Ar)],D.agg [b9 123 (AR (fun x=>b9 125 (Az .i64 .i64 x)) Jz),b9 3 (AR (bh .i64) N9),b9 3 (AR (bh .i64) G6)]] []=some (cc r,[]):=by
 refine u6 ?_ rfl;unfold k25;unfold LB at h;obtain⟨e1,h⟩:=Bw h;have c2:=YA Ao Jz e1;by_cases e3:(decide (Ao=Jz))=true
 ·rw [if_pos e3]at h;obtain⟨e4,h⟩:=Bw h;have c5:=Nq BM N9 e4;by_cases e6:(decide (BM=N9))=true
  ·rw [if_pos e6]at h;obtain⟨e7,h⟩:=Bw h;have c8:=Nq Ar G6 e7;by_cases e9:(decide (Ar=G6))=true
   ·rw [if_pos e9]at h
    obtain rfl:=Option.some.inj h
    simp (maxDischargeDepth:=9) only [↓AU,AV,Ap,↓reduceIte,bk,bl,bm,bo,bp,br,bt,bw,bx,bO,b0,b3,b4,b5,b6,b7,b8,e1,c2,e3,e4,c5,e6,e7,c8,e9]<;>(repeat' apply A7)<;>first|rfl|exact⟨_,rfl⟩|exact⟨_,_,rfl⟩|simp [AR,AB]
   ·rw [if_neg e9]at h;have e9f:(decide (Ar=G6))=false:=K7.mpr e9
    obtain rfl:=Option.some.inj h
    simp (maxDischargeDepth:=9) only [↓AU,AV,Ap,↓reduceIte,bk,bl,bm,bo,bp,br,bt,bw,bx,bO,b0,b3,b4,b5,b6,b7,b8,e1,c2,e3,e4,c5,e6,e7,c8,e9f]<;>(repeat' apply A7)<;>first|rfl|exact⟨_,rfl⟩|exact⟨_,_,rfl⟩|simp [AR,AB]
  ·rw [if_neg e6]at h;have e6f:(decide (BM=N9))=false:=K7.mpr e6
   obtain rfl:=Option.some.inj h
   simp (maxDischargeDepth:=9) only [↓AU,AV,Ap,↓reduceIte,bk,bl,bm,bo,bp,br,bt,bw,bx,bO,b0,b3,b4,b5,b6,b7,b8,e1,c2,e3,e4,c5,e6f]<;>(repeat' apply A7)<;>first|rfl|exact⟨_,rfl⟩|exact⟨_,_,rfl⟩|simp [AR,AB]
 ·rw [if_neg e3]at h;have e3f:(decide (Ao=Jz))=false:=K7.mpr e3
  obtain rfl:=Option.some.inj h
  simp (maxDischargeDepth:=9) only [↓AU,AV,Ap,↓reduceIte,bk,bl,bm,bo,bp,br,bt,bw,bx,bO,b0,b3,b4,b5,b6,b7,b8,e1,c2,e3f]<;>(repeat' apply A7)<;>first|rfl|exact⟨_,rfl⟩|exact⟨_,_,rfl⟩|simp [AR,AB]
def Nt(a:Ay)(b c:AP)(a':Ay)(b' c':AP):Bool:=decide (a=a'∧b=b'∧c=c')
theorem eP(a:Ay)(b c:AP):Nt a b c a b c=true:=by simp [Nt]
theorem Uf(a:Ay)(b c:AP)(a':Ay)(b' c':AP)(h:C9 a)(hb:b.length<1099511627776)(hc:c.length<1099511627776):LB a b c a' b' c'=some (Nt a b c a' b' c'):=by
 unfold LB Nt;rw [Bq h,Bq hb,Bq hc];by_cases h1:a=a'<;>by_cases h2:b=b'<;>by_cases h3:c=c'<;>simp [h1,h2,h3]
theorem Nu(Ao:Ay)(BM:AP)(Ar:AP)(Jz:Ay)(N9:AP)(G6:AP)(h0:C9 Ao)(h1:BM.length<1099511627776)(h2:Ar.length<1099511627776):Y.call 25 [D.agg [b9 123 (AR (fun x=>b9 125 (Az .i64 .i64 x)) Ao),b9 3 (AR (bh .i64) BM),b9 3 (AR (bh .i64) Ar)],D.agg [b9 123 (AR (fun x=>b9 125 (Az .i64 .i64 x)) Jz),b9 3 (AR (bh .i64) N9),b9 3 (AR (bh .i64) G6)]] []=some (cc (Nt Ao BM Ar Jz N9 G6),[]):=Qt Ao BM Ar Jz N9 G6 (Uf Ao BM Ar Jz N9 G6 h0 h1 h2)
def Q9(a:DK)(left:Int):Option (Int):= if(cf.wrap (left-(a.length:Int)))<0 then some (-1) else some (cf.wrap (left-(a.length:Int)))
def A2v:SC:= .seq (.ops [oX 4 (.assign (iK 0)) 3]) (.seq (.ops [oM 5 1 3,oM 6 0 121,oN 7 6 121,oB 8 .sub 3 (tK 5) (tK 7) 3 3,oA 1 8 3]) (.seq (.seq (.ops [oM 9 1 3,oB 10 .lss 3 (tK 9) (iK 0) 3 4]) (.cond (tK 10) (.seq (.ops [oX 4 P6 3]) .ret) .skip)) (.seq (.ops [oM 11 1 3,oA 4 11 3]) .ret)))
theorem u7:Try.f105.body.map (BV lends)=some A2v:=by kernel_rfl
theorem AAH:Bl Try.f105 2=true:=by kernel_rfl
theorem AFj{a l:List D}{r:D×List D}(h:Br Y.env A2v (Fa Ag l.length [ce 4] r) (entry a l))(ha:a.length=2):Y.call 105 a l=some r:=
 Af (Y:=Y) rfl Try.func105 (ha▸AAH) u7 h
theorem WH(a:DK)(left:Int){r:Int}(h:Q9 a left=some r):Y.call 105 [b9 159 (Az .i64 .i64 a),bh .i64 left] []=some (bh .i64 r,[]):=by
 refine AFj ?_ rfl;unfold A2v;unfold Q9 at h;by_cases e1:(cf.wrap (left-(a.length:Int)))<0
 ·rw [if_pos e1]at h
  obtain rfl:=Option.some.inj h
  simp (maxDischargeDepth:=9) only [↓AU,AV,Ap,↓reduceIte,bk,bl,bm,bo,bp,br,bt,bw,bx,bO,b0,b3,b4,b5,b6,b7,b8,e1]<;>(repeat' apply A7)<;>first|rfl|exact⟨_,rfl⟩|exact⟨_,_,rfl⟩|simp [AR,AB]
 ·rw [if_neg e1]at h
  obtain rfl:=Option.some.inj h
  simp (maxDischargeDepth:=9) only [↓AU,AV,Ap,↓reduceIte,bk,bl,bm,bo,bp,br,bt,bw,bx,bO,b0,b3,b4,b5,b6,b7,b8,e1]<;>(repeat' apply A7)<;>first|rfl|exact⟨_,rfl⟩|exact⟨_,_,rfl⟩|simp [AR,AB]
theorem aO(a:DK)(left:Int)(ha:a.length<9223372036854775808)(hl:0≤left∧left≤1048576):Q9 a left=some (Gh left a.length):=by
 unfold Q9 Gh;rw [LZ _ (by omega)]
 split<;>rfl
theorem aP(a:DK)(left:Int)(h0:a.length<9223372036854775808)(h1:0≤left∧left≤1048576):Y.call 105 [b9 159 (Az .i64 .i64 a),bh .i64 left] []=some (bh .i64 (Gh left a.length),[]):=WH a left (aO a left h0 h1)
def FI(a:Ay)(left1:Int)(i:Int):Option ((Int×Int)⊕(Unit⊕Int)):= if i<(a.length:Int)then ck (0≤i∧i.toNat<a.length)<| ck ((a.getD i.toNat bj).length<9223372036854775808)<| ck (0≤left1∧left1≤1048576)<| if(Gh left1 (a.getD i.toNat bj).length)<0 then some (ca (cd ())) else some (cd ((Gh left1 (a.getD i.toNat bj).length),cf.wrap (i+1))) else some (ca (ca left1))
def Fp(a:Ay)(v:Int×Int):Option (Unit⊕Int):=JB (fun v=>FI a v.1 v.2) v
def OC(a:Ay)(left:Int):Option (Int):=
 if(cf.wrap (left-(a.length:Int)))<0 then
  some (-1)
 else
  (Fp a (cf.wrap (left-(a.length:Int)),0)).bind fun Ae=>
  match Ae with
  | .inl q1000_=>
   some (-1)
  | .inr q1000_=>
   some q1000_
def YB:SC:= .seq (.seq (.ops [oM 12 5 3,oM 13 0 39,oN 14 13 39,oB 15 .lss 3 (tK 12) (tK 14) 3 4]) (.cond (tK 15) .skip (.exit 0))) (.seq (.block 1 (.seq (.ops [oM 18 0 39,oM 19 5 3,oI 20 39 18 19,oL 21 121 20 121,oM 22 1 3,oC 23 105 [(tK 21),(tK 22)] [121,3] 3,oA 1 23 3]) (.seq (.ops [oM 24 1 3,oB 25 .lss 3 (tK 24) (iK 0) 3 4]) (.cond (tK 25) (.seq (.ops [oX 4 P6 3]) .ret) .skip)))) (.ops [oM 16 5 3,oB 17 .add 3 (tK 16) (iK 1) 3 3,oA 5 17 3]))
def pM:SC:= .loop YB
def k58:SC:= .seq (.ops [oX 4 (.assign (iK 0)) 3]) (.seq (.ops [oM 6 1 3,oM 7 0 39,oN 8 7 39,oB 9 .sub 3 (tK 6) (tK 8) 3 3,oA 1 9 3]) (.seq (.seq (.ops [oM 10 1 3,oB 11 .lss 3 (tK 10) (iK 0) 3 4]) (.cond (tK 11) (.seq (.ops [oX 4 P6 3]) .ret) .skip)) (.seq (.seq (.ops [oX 5 (.assign (iK 0)) 3]) (.block 0 pM)) (.seq (.ops [oM 26 1 3,oA 4 26 3]) .ret))))
theorem A2w:Try.f58.body.map (BV lends)=some k58:=by kernel_rfl
theorem AFl:Bl Try.f58 2=true:=by kernel_rfl
theorem c58{a l:List D}{r:D×List D}(h:Br Y.env k58 (Fa Ag l.length [ce 4] r) (entry a l))(ha:a.length=2):Y.call 58 a l=some r:=
 Af (Y:=Y) rfl Try.func58 (ha▸AFl) A2w h
def EN(a:Ay)(left1:Int)(i:Int)(s:St):Prop:=s.v 0=b9 121 (AR (fun x=>b9 159 (Az .i64 .i64 x)) a)∧s.v 1=bh .i64 left1∧s.v 5=bh .i64 i
def EO(a:Ay)(r:Unit⊕Int)(ex:Ex)(s:St):Prop:=match r with
 | .inl q=>ex= .ret∧s.v 4=bh .i64 (-1)
 | .inr q=>ex= .exit 0∧s.v 1=bh .i64 q
theorem SE(a:Ay){v:Int×Int}{s:St}{r:Unit⊕Int}(h:Fp a v=some r)(hM:EN a v.1 v.2 s):Br Y.env pM (EO a r) s:=by
 unfold Fp at h;refine BX (c:=YB) (fun v=>FI a v.1 v.2) (fun v s=>EN a v.1 v.2 s) (EO a) ?_ h hM;clear h hM s v r;intro v s o hM h;obtain⟨left1,i⟩:=v;dsimp only at h hM;unfold FI at h;unfold EN at hM;obtain⟨m0,m1,m2⟩:=hM;unfold YB;by_cases e2:i<(a.length:Int)
 ·rw [if_pos e2]at h;obtain⟨e3,h⟩:=Bw h;obtain⟨e4,h⟩:=Bw h;obtain⟨e5,h⟩:=Bw h;have c6:=aP (a.getD i.toNat bj) left1 e4 e5;by_cases e7:(Gh left1 (a.getD i.toNat bj).length)<0
  ·rw [if_pos e7]at h
   obtain rfl:=Option.some.inj h
   simp (maxDischargeDepth:=9) only [↓AU,AV,Ap,↓reduceIte,bk,bl,bm,bo,bp,br,bt,bw,bx,bO,b0,b3,b4,b5,b6,b7,b8,m0,m1,m2,e2,e3.1,e3.2,e4,e5.1,e5.2,c6,e7,EN,EO,Ca,Cb,Cc]<;>(repeat' apply A7)<;>first|rfl|exact⟨_,rfl⟩|exact⟨_,_,rfl⟩|simp [AR,AB]
  ·rw [if_neg e7]at h
   obtain rfl:=Option.some.inj h
   simp (maxDischargeDepth:=9) only [↓AU,AV,Ap,↓reduceIte,bk,bl,bm,bo,bp,br,bt,bw,bx,bO,b0,b3,b4,b5,b6,b7,b8,m0,m1,m2,e2,e3.1,e3.2,e4,e5.1,e5.2,c6,e7,EN,EO,Ca,Cb,Cc]<;>(repeat' apply A7)<;>first|rfl|exact⟨_,rfl⟩|exact⟨_,_,rfl⟩|simp [AR,AB]
 ·rw [if_neg e2]at h
  obtain rfl:=Option.some.inj h
  simp (maxDischargeDepth:=9) only [↓AU,AV,Ap,↓reduceIte,bk,bl,bm,bo,bp,br,bt,bw,bx,bO,b0,b3,b4,b5,b6,b7,b8,m0,m1,m2,e2,EN,EO,Ca,Cb,Cc]<;>(repeat' apply A7)<;>first|rfl|exact⟨_,rfl⟩|exact⟨_,_,rfl⟩|simp [AR,AB]
theorem Ug(a:Ay)(left:Int){r:Int}(h:OC a left=some r):Y.call 58 [b9 121 (AR (fun x=>b9 159 (Az .i64 .i64 x)) a),bh .i64 left] []=some (bh .i64 r,[]):=by
 refine c58 ?_ rfl;unfold k58;unfold OC at h;by_cases e1:(cf.wrap (left-(a.length:Int)))<0
 ·rw [if_pos e1]at h
  obtain rfl:=Option.some.inj h
  simp (maxDischargeDepth:=9) only [↓AU,AV,Ap,↓reduceIte,bk,bl,bm,bo,bp,br,bt,bw,bx,bO,b0,b3,b4,b5,b6,b7,b8,e1]<;>(repeat' apply A7)<;>first|rfl|exact⟨_,rfl⟩|exact⟨_,_,rfl⟩|simp [AR,AB]
 ·rw [if_neg e1]at h;obtain⟨Ae,hl3,h⟩:=BD h;try dsimp only at h
  simp (maxDischargeDepth:=9) only [↓AU,AV,Ap,↓reduceIte,bk,bl,bm,bo,bp,br,bt,bw,bx,bO,b0,b3,b4,b5,b6,b7,b8,e1];refine BL (SE a hl3 ?_) ?_
  ·simp (maxDischargeDepth:=9) only [↓AU,AV,Ap,↓reduceIte,bk,bl,bm,bo,bp,br,bt,bw,bx,bO,b0,b3,b4,b5,b6,b7,b8,e1,EN]<;>(repeat' apply A7)<;>first|rfl|exact⟨_,rfl⟩|exact⟨_,_,rfl⟩|simp [AR,AB]
  ·intro ex3 s3 hX3;rcases Ae with q1000_|q1000_
   ·unfold EO at hX3;dsimp only at hX3 h;obtain⟨rfl,n3_0⟩:=hX3
    obtain rfl:=Option.some.inj h
    simp (maxDischargeDepth:=9) only [↓AU,AV,Ap,↓reduceIte,bk,bl,bm,bo,bp,br,bt,bw,bx,bO,b0,b3,b4,b5,b6,b7,b8,e1,n3_0]<;>(repeat' apply A7)<;>first|rfl|exact⟨_,rfl⟩|exact⟨_,_,rfl⟩|simp [AR,AB]
   ·unfold EO at hX3;dsimp only at hX3 h;obtain⟨rfl,n3_0⟩:=hX3
    obtain rfl:=Option.some.inj h
    simp (maxDischargeDepth:=9) only [↓AU,AV,Ap,↓reduceIte,bk,bl,bm,bo,bp,br,bt,bw,bx,bO,b0,b3,b4,b5,b6,b7,b8,e1,n3_0]<;>(repeat' apply A7)<;>first|rfl|exact⟨_,rfl⟩|exact⟨_,_,rfl⟩|simp [AR,AB]
def fE(l:Ay):au:=l.map fun x=>x.map Prod.fst
theorem SF(a:Ay)(ha:a.length<4611686018427387904)(hx: ∀x∈a,x.length<9223372036854775808): ∀(n i:Nat) (left:Int),n=a.length-i→i≤a.length→0≤left∧left≤1048576→
  Fp a (left,(i:Int))=some (if szL left (fE (a.drop i))= -1 then .inl ()else .inr (szL left (fE (a.drop i)))):=by
 intro n
 induction n with
 |zero=>
  intro i left hn hi hl;have e:i=a.length:=by omega
  subst e;unfold Fp;rw [O9 (r:=ca left)]
  ·rw [List.drop_length,show fE []=[]from rfl];unfold szL;rw [if_neg (by omega)]
  ·simp only [FI];rw [if_neg (BB _)]
 |succ n ih=>
  intro i left hn hi hl;have hlt:i<a.length:=by omega
  have hm:a[i]∈a:=LP hlt;have hxm:=hx _ hm
  have step:FI a left i=if Gh left a[i].length<0 then some (ca (cd ()))else some (cd (Gh left a[i].length,((i+1:Nat):Int))):=by
   unfold FI;rw [if_pos (Bb hlt),Bq (I8 hlt),Bq (by rw [J5 _ _ hlt];exact hxm),Bq hl,J5 _ _ hlt,KO i (by omega)]
  rw [iU hlt,show fE (a[i]::a.drop (i+1))=a[i].map Prod.fst::fE (a.drop (i+1))from rfl];unfold szL;rw [XA];by_cases hq:left-(a[i].length:Int)<0
  ·rw [if_pos hq];unfold Fp;rw [O9 (r:=cd ())]
   ·rfl
   ·rw [step];unfold Gh;rw [if_pos hq];rfl
  ·rw [if_neg hq];have e2:Gh left a[i].length=left-a[i].length:=by unfold Gh;rw [if_neg hq]
   have:=ih (i+1) (left-a[i].length) (by omega) (by omega) (by omega)
   unfold Fp at this ⊢;rw [Sj (s':=(left-(a[i].length:Int),((i+1:Nat):Int))),this]
   ·rw [step,e2,if_neg hq]
def Od(l:Ay):Prop:=l.length<9223372036854775808∧ ∀x∈l,x.length<9223372036854775808
instance (l:Ay):Decidable (Od l):=by unfold Od;infer_instance
theorem YC(a:Ay)(left:Int)(hw:Od a)(hl:0≤left∧left≤1048576):OC a left=some (Gh left (a.length+FV (fE a))):=by
 have ht:=Gx (fE a);have ha:=hw.1;unfold OC;rw [LZ _ (by omega)]
 by_cases hq:left-(a.length:Int)<0
 ·rw [if_pos hq];unfold Gh;rw [if_pos (by omega)]
 ·rw [if_neg hq];have h0:=SF a (by omega) hw.2 a.length 0 (left-a.length) (by omega) (by omega) (by omega)
  simp only [LQ,List.drop_zero]at h0;rw [h0,Cn,A2X _ _ (by omega)]
  have e:Gh (left-a.length) (FV (fE a))=Gh left (a.length+FV (fE a)):=by unfold Gh;rw [show left- ↑a.length-FV (fE a)=left-(↑a.length+FV (fE a)) by omega]
  rw [e];by_cases h1:Gh left (a.length+FV (fE a))= -1
  ·rw [if_pos h1,h1]
  ·rw [if_neg h1]
theorem YD(a:Ay)(left:Int)(h0:Od a)(h1:0≤left∧left≤1048576):Y.call 58 [b9 121 (AR (fun x=>b9 159 (Az .i64 .i64 x)) a),bh .i64 left] []=some (bh .i64 (Gh left (a.length+FV (fE a))),[]):=Ug a left (YC a left h0 h1)
def LC(Ao:Ay)(BM:AP)(Ar:AP)(left:Int):Option (Int):= ck (Od Ao)<| ck (0≤left∧left≤1048576)<| if(Gh left (Ao.length+FV (fE Ao)))<0 then some (-1) else ck (BM.length<9223372036854775808)<| ck (0≤(Gh left (Ao.length+FV (fE Ao)))∧(Gh left (Ao.length+FV (fE Ao)))≤1048576)<| if(Gh (Gh left (Ao.length+FV (fE Ao))) BM.length)<0 then some (-1) else ck (Ar.length<9223372036854775808)<| ck (0≤(Gh (Gh left (Ao.length+FV (fE Ao))) BM.length)∧(Gh (Gh left (Ao.length+FV (fE Ao))) BM.length)≤1048576)<| if(Gh (Gh (Gh left (Ao.length+FV (fE Ao))) BM.length) Ar.length)<0 then some (-1) else some (Gh (Gh (Gh left (Ao.length+FV (fE Ao))) BM.length) Ar.length)
def k21:SC:= .seq (.ops [oX 2 (.box 41 (tK 0)) 0,oX 4 (.assign (iK 0)) 3]) (.seq (.ops [oF 5 41 2 0,oL 6 39 5 39,oM 7 1 3,oC 8 58 [(tK 6),(tK 7)] [39,3] 3,oA 1 8 3]) (.seq (.seq (.ops [oM 9 1 3,oB 10 .lss 3 (tK 9) (iK 0) 3 4]) (.cond (tK 10) (.seq (.ops [oX 4 P6 3]) .ret) .skip)) (.seq (.ops [oF 11 41 2 1,oL 12 26 11 26,oM 13 1 3,oC 14 59 [(tK 12),(tK 13)] [26,3] 3,oA 1 14 3]) (.seq (.seq (.ops [oM 15 1 3,oB 16 .lss 3 (tK 15) (iK 0) 3 4]) (.cond (tK 16) (.seq (.ops [oX 4 P6 3]) .ret) .skip)) (.seq (.ops [oF 17 41 2 2,oL 18 26 17 26,oM 19 1 3,oC 20 59 [(tK 18),(tK 19)] [26,3] 3,oA 1 20 3]) (.seq (.seq (.ops [oM 21 1 3,oB 22 .lss 3 (tK 21) (iK 0) 3 4]) (.cond (tK 22) (.seq (.ops [oX 4 P6 3]) .ret) .skip)) (.seq (.ops [oM 23 1 3,oA 4 23 3]) .ret)))))))
theorem A2x:Try.f21.body.map (BV lends)=some k21:=by kernel_rfl
theorem AFn:Bl Try.f21 2=true:=by kernel_rfl
theorem c21{a l:List D}{r:D×List D}(h:Br Y.env k21 (Fa Ag l.length [ce 4] r) (entry a l))(ha:a.length=2):Y.call 21 a l=some r:=
 Af (Y:=Y) rfl Try.func21 (ha▸AFn) A2x h
theorem Qu(Ao:Ay)(BM:AP)(Ar:AP)(left:Int){r:Int}(h:LC Ao BM Ar left=some r):Y.call 21 [D.agg [b9 121 (AR (fun x=>b9 159 (Az .i64 .i64 x)) Ao),b9 3 (AR (bh .i64) BM),b9 3 (AR (bh .i64) Ar)],bh .i64 left] []=some (bh .i64 r,[]):=by
 refine c21 ?_ rfl;unfold k21;unfold LC at h;obtain⟨e1,h⟩:=Bw h;obtain⟨e2,h⟩:=Bw h;have c3:=YD Ao left e1 e2;by_cases e4:(Gh left (Ao.length+FV (fE Ao)))<0
 ·rw [if_pos e4]at h
  obtain rfl:=Option.some.inj h
  simp (maxDischargeDepth:=9) only [↓AU,AV,Ap,↓reduceIte,bk,bl,bm,bo,bp,br,bt,bw,bx,bO,b0,b3,b4,b5,b6,b7,b8,e1,e2.1,e2.2,c3,e4]<;>(repeat' apply A7)<;>first|rfl|exact⟨_,rfl⟩|exact⟨_,_,rfl⟩|simp [AR,AB]
 ·rw [if_neg e4]at h;obtain⟨e5,h⟩:=Bw h;obtain⟨e6,h⟩:=Bw h;have c7:=Rl BM (Gh left (Ao.length+FV (fE Ao))) e5 e6;by_cases e8:(Gh (Gh left (Ao.length+FV (fE Ao))) BM.length)<0
  ·rw [if_pos e8]at h
   obtain rfl:=Option.some.inj h
   simp (maxDischargeDepth:=9) only [↓AU,AV,Ap,↓reduceIte,bk,bl,bm,bo,bp,br,bt,bw,bx,bO,b0,b3,b4,b5,b6,b7,b8,e1,e2.1,e2.2,c3,e4,e5,e6.1,e6.2,c7,e8]<;>(repeat' apply A7)<;>first|rfl|exact⟨_,rfl⟩|exact⟨_,_,rfl⟩|simp [AR,AB]
  ·rw [if_neg e8]at h;obtain⟨e9,h⟩:=Bw h;obtain⟨e10,h⟩:=Bw h;have c11:=Rl Ar (Gh (Gh left (Ao.length+FV (fE Ao))) BM.length) e9 e10;by_cases e12:(Gh (Gh (Gh left (Ao.length+FV (fE Ao))) BM.length) Ar.length)<0
   ·rw [if_pos e12]at h
    obtain rfl:=Option.some.inj h
    simp (maxDischargeDepth:=9) only [↓AU,AV,Ap,↓reduceIte,bk,bl,bm,bo,bp,br,bt,bw,bx,bO,b0,b3,b4,b5,b6,b7,b8,e1,e2.1,e2.2,c3,e4,e5,e6.1,e6.2,c7,e8,e9,e10.1,e10.2,c11,e12]<;>(repeat' apply A7)<;>first|rfl|exact⟨_,rfl⟩|exact⟨_,_,rfl⟩|simp [AR,AB]
   ·rw [if_neg e12]at h
    obtain rfl:=Option.some.inj h
    simp (maxDischargeDepth:=9) only [↓AU,AV,Ap,↓reduceIte,bk,bl,bm,bo,bp,br,bt,bw,bx,bO,b0,b3,b4,b5,b6,b7,b8,e1,e2.1,e2.2,c3,e4,e5,e6.1,e6.2,c7,e8,e9,e10.1,e10.2,c11,e12]<;>(repeat' apply A7)<;>first|rfl|exact⟨_,rfl⟩|exact⟨_,_,rfl⟩|simp [AR,AB]
def qi(left:Int)(a:Ay)(b c:AP):Int:=
 if Gh left (a.length+FV (fE a))<0 then-1 else if Gh (Gh left (a.length+FV (fE a))) b.length<0 then-1 else Gh (Gh (Gh left (a.length+FV (fE a))) b.length) c.length
theorem Uh(a:Ay)(b c:AP)(left:Int)(ha:Od a)(hb:b.length<9223372036854775808)(hc:c.length<9223372036854775808)(hl:0≤left∧left≤1048576):LC a b c left=some (qi left a b c):=by
 have ht:=Gx (fE a);unfold LC qi;rw [Bq ha,Bq hl];by_cases h1:Gh left (a.length+FV (fE a))<0
 ·rw [if_pos h1,if_pos h1]
 ·rw [if_neg h1,if_neg h1]
  have b1:0≤Gh left (a.length+FV (fE a))∧Gh left (a.length+FV (fE a))≤1048576:=by
   rcases KP left (a.length+FV (fE a))with c|⟨c,c'⟩<;>omega
  rw [Bq hb,Bq b1];by_cases h2:Gh (Gh left (a.length+FV (fE a))) b.length<0
  ·rw [if_pos h2,if_pos h2]
  ·rw [if_neg h2,if_neg h2]
   have b2:0≤Gh (Gh left (a.length+FV (fE a))) b.length∧Gh (Gh left (a.length+FV (fE a))) b.length≤1048576:=by
    rcases KP (Gh left (a.length+FV (fE a))) b.length with c|⟨c,c'⟩<;>omega
   rw [Bq hc,Bq b2];by_cases h3:Gh (Gh (Gh left (a.length+FV (fE a))) b.length) c.length<0
   ·rw [if_pos h3];rcases KP (Gh (Gh left (a.length+FV (fE a))) b.length) c.length with d|⟨d,d'⟩
    ·rw [d]
    ·omega
   ·rw [if_neg h3]
theorem Ui(Ao:Ay)(BM:AP)(Ar:AP)(left:Int)(h0:Od Ao)(h1:BM.length<9223372036854775808)(h2:Ar.length<9223372036854775808)(h3:0≤left∧left≤1048576):Y.call 21 [D.agg [b9 121 (AR (fun x=>b9 159 (Az .i64 .i64 x)) Ao),b9 3 (AR (bh .i64) BM),b9 3 (AR (bh .i64) Ar)],bh .i64 left] []=some (bh .i64 (qi left Ao BM Ar),[]):=Qu Ao BM Ar left (Uh Ao BM Ar left h0 h1 h2 h3)
theorem uA{a:Ay}{b c:AP}{left:Int}(hl:left≤1048576)(h: ¬qi left a b c<0):a.length+FV (fE a)+b.length+c.length≤1048576∧C9 a∧qi left a b c≤left:=by
 have ht:=Gx (fE a)
 have key:(a.length:Int)+FV (fE a)+b.length+c.length≤1048576∧qi left a b c≤left:=by
  unfold qi at h ⊢;rcases KP left (a.length+FV (fE a))with d|⟨d,d'⟩
  ·rw [d]at h;simp at h
  ·rw [d,if_neg (by omega)]at h
   rw [d,if_neg (by omega)]
   rcases KP (left-(a.length+FV (fE a))) b.length with e|⟨e,e'⟩
   ·rw [e]at h;simp at h
   ·rw [e,if_neg (by omega)]at h
    rw [e,if_neg (by omega)]
    rcases KP (left-(a.length+FV (fE a))-b.length) c.length with g|⟨g,g'⟩
    ·rw [g]at h;simp at h
    ·rw [g];omega
 refine⟨key.1,⟨by omega,fun x hx=> ?_⟩,key.2⟩
 have:x.map Prod.fst∈fE a:=Gp.2 ⟨x,hx,rfl⟩
 have:=tN this
 rw [XA]at this;omega
theorem pO{l:Ay}(h:dX l):Od l:=⟨Nat.lt_of_le_of_lt h.1 (by decide),fun x hx=>Nat.lt_of_le_of_lt (h.2 x hx).1 (by decide)⟩
end Go.Proofs.Ytclkfhhdikfcpaa
end
