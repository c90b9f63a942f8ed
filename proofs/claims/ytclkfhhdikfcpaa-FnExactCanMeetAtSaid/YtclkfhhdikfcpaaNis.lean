/- Functions of the program as plain functions, and what they compute. Conditions: those in each lemma. -/
import Derived.Test.YtclkfhhdikfcpaaL6
import Derived.Test.YtclkfhhdikfcpaaDt
open Inhabited renaming default → be
open Dv.D renaming int → bd,sl → bh,bool → b9,own → cd,agg → ce
open Nat renaming reduceEqDiff → bj,reduceLT → bk,reduceLeDiff → bl,reduceAdd → bm,reduceMul → bo,reduceMod → bp,reduceDiv → br,reducePow → bt,reduceSub → bw,reduceBEq → bx
open Int renaming reduceLE → bO,reduceLT → b0,reduceEq → b3,reduceSub → b4,reduceAdd → b5,reduceToNat → b6,reduceNeg → b7
open Sum renaming inr → b8,inl → cb
open Go.IntKind renaming i64 → ca
open Go.ResultVar renaming tmp → cc
open List renaming range → an,replicate → ao,pairwise_cons → cf
noncomputable section
namespace Go.Proofs.Ytclkfhhdikfcpaa
open Go Dv
set_option linter.unusedSimpArgs false
set_option linter.unusedVariables false
set_option maxRecDepth 100000
set_option maxHeartbeats 4000000
def QT(l:Z6):Prop:=l.length<1099511627776∧ ∀x∈l,x.length<1099511627776
theorem QT.nil:QT []:=⟨by decide,fun _ h=>by cases h⟩
theorem QT.at{l:Z6}(h:QT l)(i:Nat)(hi:i<l.length):l[i].length<1099511627776:=h.2 _ (JH hi)
instance (l:Z6):Decidable (QT l):=by unfold QT;infer_instance
theorem WS{α:Type}[Inhabited α](xs:List α)(i:Nat)(h:i<xs.length)(z:α):(xs.take i++ao (xs.length-i) z).set i xs[i]=xs.take (i+1)++ao (xs.length-(i+1)) z:=by
 have e:xs.length-i=(xs.length-(i+1))+1:=by omega
 rw [e,dX,List.set_append_right _ _ (by simp;omega),List.take_succ_eq_append_getElem h]
 have:i-(xs.take i).length=0:=by simp;omega
 rw [this,List.set_cons_zero,OD];rfl
def GD(a:AL)(out:AL)(i:Int):Option ((AL×Int)⊕(AL)):= if i<(a.length:Int)then ck (0≤i∧i.toNat<a.length)<| ck (0≤i∧i.toNat<out.length)<| some (cb ((out.set i.toNat (a.getD i.toNat be)),ca.wrap (i+1))) else some (b8 out)
def KQ(a:AL)(v:AL×Int):Option (AL):=Io (fun v=>GD a v.1 v.2) v
def Om(a:AL):Option (AL):= ck (0≤(a.length:Int)∧(a.length:Int)<1099511627776)<| (KQ a ((ao a.length 0),0)).bind fun AZ=> some AZ
def WT:SC:= .seq (.seq (.ops [oM 8 4 3,oM 9 0 26,oN 10 9 26,oB 11 .lss 3 (tK 8) (tK 10) 3 4]) (.cond (tK 11) .skip (.exit 0))) (.seq (.block 1 (.ops [oM 14 3 26,oM 15 4 3,oM 16 0 26,oM 17 4 3,oI 18 26 16 17,oL 19 3 18 3,oI 20 26 14 15,oS 3 20 19])) (.ops [oM 12 4 3,oB 13 .add 3 (tK 12) (iK 1) 3 3,oA 4 13 3]))
def l6:SC:= .loop WT
def k66:SC:= .seq (.ops [oX 2 O3 26]) (.seq (.ops [oM 5 0 26,oN 6 5 26,oX 7 (.makeSlice 26 (tK 6) (tK 6)) 26,oA 3 7 26]) (.seq (.seq (.ops [oX 4 (.assign (iK 0)) 3]) (.block 0 l6)) (.seq (.ops [oM 21 3 26,oA 2 21 26]) .ret)))
theorem A0N:Try.f66.body.map (Bi lends)=some k66:=by kernel_rfl
theorem ACP:CL Try.f66 1=true:=by kernel_rfl
theorem c66{a l:List D}{r:D×List D}(h:CK Y.env k66 (Fx Ac l.length [cc 2] r) (entry a l))(ha:a.length=1):Y.call 66 a l=some r:=
 Ab (Y:=Y) rfl Try.func66 (ha▸ACP) A0N h
def GG(a:AL)(out:AL)(i:Int)(s:St):Prop:=s.v 0=bh 3 (AQ (bd .i64) a)∧s.v 3=cd 3 (AQ (bd .i64) out)∧s.v 4=bd .i64 i
def Hw(a:AL)(r:AL)(ex:Ex)(s:St):Prop:=ex= .exit 0∧s.v 3=cd 3 (AQ (bd .i64) r)
theorem Su(a:AL){v:AL×Int}{s:St}{r:AL}(h:KQ a v=some r)(hM:GG a v.1 v.2 s):CK Y.env l6 (Hw a r) s:=by
 unfold KQ at h;refine Bc (c:=WT) (fun v=>GD a v.1 v.2) (fun v s=>GG a v.1 v.2 s) (Hw a) ?_ h hM;clear h hM s v r;intro v s o hM h;obtain⟨out,i⟩:=v;dsimp only at h hM;unfold GD at h;unfold GG at hM;obtain⟨m0,m1,m2⟩:=hM;unfold WT;by_cases e2:i<(a.length:Int)
 ·rw [if_pos e2]at h;obtain⟨e3,h⟩:=Bw h;obtain⟨e4,h⟩:=Bw h
  obtain rfl:=Option.some.inj h
  simp (maxDischargeDepth:=9) only [↓AP,AR,Ai,↓reduceIte,bj,bk,bl,bm,bo,bp,br,bt,bw,bx,bO,b0,b3,b4,b5,b6,b7,m0,m1,m2,e2,e3.1,e3.2,e4.1,e4.2,GG,Hw,Cm,Cn,Co]<;>(repeat' apply A7)<;>first|rfl|exact⟨_,rfl⟩|exact⟨_,_,rfl⟩|simp [AQ,A8]
 ·rw [if_neg e2]at h
  obtain rfl:=Option.some.inj h
  simp (maxDischargeDepth:=9) only [↓AP,AR,Ai,↓reduceIte,bj,bk,bl,bm,bo,bp,br,bt,bw,bx,bO,b0,b3,b4,b5,b6,b7,m0,m1,m2,e2,GG,Hw,Cm,Cn,Co]<;>(repeat' apply A7)<;>first|rfl|exact⟨_,rfl⟩|exact⟨_,_,rfl⟩|simp [AQ,A8]
theorem Ua(a:AL){r:AL}(h:Om a=some r):Y.call 66 [bh 3 (AQ (bd .i64) a)] []=some (cd 3 (AQ (bd .i64) r),[]):=by
 refine c66 ?_ rfl;unfold k66;unfold Om at h;obtain⟨e1,h⟩:=Bw h;obtain⟨AZ,hl3,h⟩:=BA h;try dsimp only at h
 simp (maxDischargeDepth:=9) only [↓AP,AR,Ai,↓reduceIte,bj,bk,bl,bm,bo,bp,br,bt,bw,bx,bO,b0,b3,b4,b5,b6,b7,e1.1,e1.2];refine BM (Su a hl3 ?_) ?_
 ·simp (maxDischargeDepth:=9) only [↓AP,AR,Ai,↓reduceIte,bj,bk,bl,bm,bo,bp,br,bt,bw,bx,bO,b0,b3,b4,b5,b6,b7,e1.1,e1.2,GG]<;>(repeat' apply A7)<;>first|rfl|exact⟨_,rfl⟩|exact⟨_,_,rfl⟩|simp [AQ,A8]
 ·intro ex3 s3 hX3;unfold Hw at hX3;obtain⟨rfl,n3_0⟩:=hX3
  obtain rfl:=Option.some.inj h
  simp (maxDischargeDepth:=9) only [↓AP,AR,Ai,↓reduceIte,bj,bk,bl,bm,bo,bp,br,bt,bw,bx,bO,b0,b3,b4,b5,b6,b7,e1.1,e1.2,n3_0]<;>(repeat' apply A7)<;>first|rfl|exact⟨_,rfl⟩|exact⟨_,_,rfl⟩|simp [AQ,A8]
theorem Yb(a:AL)(h:a.length<1099511627776):Om a=some a:=by
 have key:=Ce (fun v=>GD a v.1 v.2) (fun i=>(a.take i++ao (a.length-i) 0,(i:Int))) a.length a ?_ ?_
 ·unfold Om KQ;rw [Bu (by omega)]
  simp only [List.take_zero,UE,Nat.sub_zero,NV]at key;rw [key];rfl
 ·intro i hi;simp only [GD];rw [if_pos (Bd hi),Bu (Ib hi),Bu (Ib (by simp;omega)),Ia _ _ hi,Jh,WS a i hi 0,Kk i (by omega)]
 ·simp only [GD];rw [if_neg (Ap _)];simp
theorem QU(a:AL)(h0:a.length<1099511627776):Y.call 66 [bh 3 (AQ (bd .i64) a)] []=some (cd 3 (AQ (bd .i64) a),[]):=Ua a (Yb a h0)
def GH(a:AL)(b:AL)(i:Int):Option ((Int)⊕(Unit⊕Unit)):= if i<(a.length:Int)then ck (0≤i∧i.toNat<a.length)<| ck (0≤i∧i.toNat<b.length)<| if(a.getD i.toNat be)=(b.getD i.toNat be)then some (cb (ca.wrap (i+1))) else some (b8 (cb ())) else some (b8 (b8 ()))
def KR(a:AL)(b:AL)(v:Int):Option (Unit⊕Unit):=Io (fun v=>GH a b v) v
def Oo(a:AL)(b:AL):Option (Bool):=
 if(a.length:Int)=(b.length:Int)then
  (KR a b 0).bind fun AZ=>
  match AZ with
  | .inl q1000_=>
   some false
  | .inr q1000_=>
   some true
 else
  some false
abbrev oQ:List Nat:=[17,18,19,20,21,22,23,24,25]
def WU:SC:= .seq (.seq (.ops [oM 11 5 3,oM 12 0 26,oN 13 12 26,oB 14 .lss 3 (tK 11) (tK 13) 3 4]) (.cond (tK 14) .skip (.exit 0))) (.seq (.block 1 (.seq (.draws [(⟨[17,0,0],oQ,[17]⟩,oM 17 0 26),(⟨[18,5,5],oQ,[18]⟩,oM 18 5 3),(⟨[19,17,18,0,5],oQ,[19]⟩,oI 19 26 17 18),(⟨[20,19,0],oQ,[20]⟩,oL 20 3 19 3),(⟨[21,1,1],oQ,[21]⟩,oM 21 1 26),(⟨[22,5,5],oQ,[22]⟩,oM 22 5 3),(⟨[23,21,22,1,5],oQ,[23]⟩,oI 23 26 21 22),(⟨[24,23,1],oQ,[24]⟩,oL 24 3 23 3),(⟨[25,20,24,0,1],oQ,[25]⟩,oB 25 .neq 3 (tK 20) (tK 24) 3 4)]) (.cond (tK 25) (.seq (.ops [oX 4 CJ 4]) .ret) .skip))) (.ops [oM 15 5 3,oB 16 .add 3 (tK 15) (iK 1) 3 3,oA 5 16 3]))
def l7:SC:= .loop WU
def k14:SC:= .seq (.ops [oX 4 CJ 4]) (.seq (.seq (.ops [oM 6 0 26,oN 7 6 26,oM 8 1 26,oN 9 8 26,oB 10 .neq 3 (tK 7) (tK 9) 3 4]) (.cond (tK 10) (.seq (.ops [oX 4 CJ 4]) .ret) .skip)) (.seq (.seq (.ops [oX 5 (.assign (iK 0)) 3]) (.block 0 l7)) (.seq (.ops [oX 4 (.assign FR) 4]) .ret)))
theorem A0O:Try.f14.body.map (Bi lends)=some k14:=by kernel_rfl
theorem ACR:CL Try.f14 2=true:=by kernel_rfl
theorem c14{a l:List D}{r:D×List D}(h:CK Y.env k14 (Fx Ac l.length [cc 4] r) (entry a l))(ha:a.length=2):Y.call 14 a l=some r:=
 Ab (Y:=Y) rfl Try.func14 (ha▸ACR) A0O h
def Er(a:AL)(b:AL)(i:Int)(s:St):Prop:=s.v 0=bh 3 (AQ (bd .i64) a)∧s.v 1=bh 3 (AQ (bd .i64) b)∧s.v 5=bd .i64 i
def Es(a:AL)(b:AL)(r:Unit⊕Unit)(ex:Ex)(s:St):Prop:=match r with
 | .inl q=>ex= .ret∧s.v 4=b9 false
 | .inr q=>ex= .exit 0
theorem Sv(a:AL)(b:AL){v:Int}{s:St}{r:Unit⊕Unit}(h:KR a b v=some r)(hM:Er a b v s):CK Y.env l7 (Es a b r) s:=by
 unfold KR at h;refine Bc (c:=WU) (fun v=>GH a b v) (fun v s=>Er a b v s) (Es a b) ?_ h hM;clear h hM s v r;intro i s o hM h;unfold GH at h;unfold Er at hM;obtain⟨m0,m1,m2⟩:=hM;unfold WU;by_cases e2:i<(a.length:Int)
 ·rw [if_pos e2]at h;obtain⟨e3,h⟩:=Bw h;obtain⟨e4,h⟩:=Bw h;by_cases e5:(a.getD i.toNat be)=(b.getD i.toNat be)
  ·rw [if_pos e5]at h
   obtain rfl:=Option.some.inj h
   simp (maxDischargeDepth:=9) only [↓AP,AR,Ai,↓reduceIte,bj,bk,bl,bm,bo,bp,br,bt,bw,bx,bO,b0,b3,b4,b5,b6,b7,m0,m1,m2,e2,e3.1,e3.2,e4.1,e4.2,decide_eq_true e5,Er,Es,Cm,Cn,Co]<;>(repeat' apply A7)<;>first|rfl|exact⟨_,rfl⟩|exact⟨_,_,rfl⟩|simp [AQ,A8]
  ·rw [if_neg e5]at h
   obtain rfl:=Option.some.inj h
   simp (maxDischargeDepth:=9) only [↓AP,AR,Ai,↓reduceIte,bj,bk,bl,bm,bo,bp,br,bt,bw,bx,bO,b0,b3,b4,b5,b6,b7,m0,m1,m2,e2,e3.1,e3.2,e4.1,e4.2,e5,Er,Es,Cm,Cn,Co]<;>(repeat' apply A7)<;>first|rfl|exact⟨_,rfl⟩|exact⟨_,_,rfl⟩|simp [AQ,A8]
 ·rw [if_neg e2]at h
  obtain rfl:=Option.some.inj h
  simp (maxDischargeDepth:=9) only [↓AP,AR,Ai,↓reduceIte,bj,bk,bl,bm,bo,bp,br,bt,bw,bx,bO,b0,b3,b4,b5,b6,b7,m0,m1,m2,e2,Er,Es,Cm,Cn,Co]<;>(repeat' apply A7)<;>first|rfl|exact⟨_,rfl⟩|exact⟨_,_,rfl⟩|simp [AQ,A8]
theorem Ub(a:AL)(b:AL){r:Bool}(h:Oo a b=some r):Y.call 14 [bh 3 (AQ (bd .i64) a),bh 3 (AQ (bd .i64) b)] []=some (b9 r,[]):=by
 refine c14 ?_ rfl;unfold k14;unfold Oo at h;by_cases e1:(a.length:Int)=(b.length:Int)
 ·rw [if_pos e1]at h;obtain⟨AZ,hl3,h⟩:=BA h;try dsimp only at h
  simp (maxDischargeDepth:=9) only [↓AP,AR,Ai,↓reduceIte,bj,bk,bl,bm,bo,bp,br,bt,bw,bx,bO,b0,b3,b4,b5,b6,b7,decide_eq_true e1];refine BM (Sv a b hl3 ?_) ?_
  ·simp (maxDischargeDepth:=9) only [↓AP,AR,Ai,↓reduceIte,bj,bk,bl,bm,bo,bp,br,bt,bw,bx,bO,b0,b3,b4,b5,b6,b7,decide_eq_true e1,Er]<;>(repeat' apply A7)<;>first|rfl|exact⟨_,rfl⟩|exact⟨_,_,rfl⟩|simp [AQ,A8]
  ·intro ex3 s3 hX3;rcases AZ with q1000_|q1000_
   ·unfold Es at hX3;dsimp only at hX3 h;obtain⟨rfl,n3_0⟩:=hX3
    obtain rfl:=Option.some.inj h
    simp (maxDischargeDepth:=9) only [↓AP,AR,Ai,↓reduceIte,bj,bk,bl,bm,bo,bp,br,bt,bw,bx,bO,b0,b3,b4,b5,b6,b7,decide_eq_true e1,n3_0]<;>(repeat' apply A7)<;>first|rfl|exact⟨_,rfl⟩|exact⟨_,_,rfl⟩|simp [AQ,A8]
   ·unfold Es at hX3;dsimp only at hX3 h
    obtain rfl:=hX3
    obtain rfl:=Option.some.inj h
    simp (maxDischargeDepth:=9) only [↓AP,AR,Ai,↓reduceIte,bj,bk,bl,bm,bo,bp,br,bt,bw,bx,bO,b0,b3,b4,b5,b6,b7,decide_eq_true e1]<;>(repeat' apply A7)<;>first|rfl|exact⟨_,rfl⟩|exact⟨_,_,rfl⟩|simp [AQ,A8]
 ·rw [if_neg e1]at h
  obtain rfl:=Option.some.inj h
  simp (maxDischargeDepth:=9) only [↓AP,AR,Ai,↓reduceIte,bj,bk,bl,bm,bo,bp,br,bt,bw,bx,bO,b0,b3,b4,b5,b6,b7,e1]<;>(repeat' apply A7)<;>first|rfl|exact⟨_,rfl⟩|exact⟨_,_,rfl⟩|simp [AQ,A8]
theorem Yc(a b:AL)(ha:a.length<1099511627776):Oo a b=some (decide (a=b)):=by
 unfold Oo KR;by_cases hl:a.length=b.length
 ·rw [if_pos (by omega)]
  have key:=IA (fun v=>GH a b v) (fun i=>(i:Int)) a.length (fun i=>decide (a.getD i be=b.getD i be)) (.inl ()) (.inr ()) ?_ ?_
  ·simp only [NV]at key;rw [key,Sn a b hl];by_cases he:a=b<;>simp [he]
  ·intro i hi;simp only [GH];rw [if_pos (Bd hi),Bu (Ib hi),Bu (Ib (by omega)),Jh,Kk i (by omega)]<;>simp only [decide_eq_true_eq]
  ·simp only [GH];rw [if_neg (Ap _)]
 ·rw [if_neg (by omega)]
  have: ¬a=b:=fun e=>hl (by rw [e])
  simp [this]
theorem QV(a:AL)(b:AL)(h0:a.length<1099511627776):Y.call 14 [bh 3 (AQ (bd .i64) a),bh 3 (AQ (bd .i64) b)] []=some (b9 (decide (a=b)),[]):=Ub a b (Yc a b h0)
def Gm(left n:Int):Int:=if left-n<0 then-1 else left-n
theorem Jw(left n:Int):Gm left n= -1∨(Gm left n=left-n∧0≤left-n):=by unfold Gm;split<;>omega
def KJ(l:Z6):Int:=(l.map fun xs=>(xs.length:Int)).sum
theorem bz:KJ []=0:=rfl
theorem Oq(x:AL)(l:Z6):KJ (x::l)=x.length+KJ l:=rfl
theorem J6(l:Z6):0≤KJ l:=by
 induction l with
 |nil=>rw [bz];omega
 |cons x l ih=>rw [Oq];omega
theorem oU{l:Z6}{x:AL}(h:x∈l):(x.length:Int)≤KJ l:=by
 induction l with
 |nil=>cases h
 |cons y l ih=>
  rw [Oq];have:=J6 l
  rcases OH.1 h with rfl|h
  ·omega
  ·have:=ih h;omega
def Ot(a:AL)(left:Int):Option (Int):= if(ca.wrap (left-(a.length:Int)))<0 then some (-1) else some (ca.wrap (left-(a.length:Int)))
def k59:SC:= .seq (.ops [oX 4 (.assign (iK 0)) 3]) (.seq (.ops [oM 5 1 3,oM 6 0 26,oN 7 6 26,oB 8 .sub 3 (tK 5) (tK 7) 3 3,oA 1 8 3]) (.seq (.seq (.ops [oM 9 1 3,oB 10 .lss 3 (tK 9) (iK 0) 3 4]) (.cond (tK 10) (.seq (.ops [oX 4 O4 3]) .ret) .skip)) (.seq (.ops [oM 11 1 3,oA 4 11 3]) .ret)))
theorem A0P:Try.f59.body.map (Bi lends)=some k59:=by kernel_rfl
theorem ACT:CL Try.f59 2=true:=by kernel_rfl
theorem c59{a l:List D}{r:D×List D}(h:CK Y.env k59 (Fx Ac l.length [cc 4] r) (entry a l))(ha:a.length=2):Y.call 59 a l=some r:=
 Ab (Y:=Y) rfl Try.func59 (ha▸ACT) A0P h
theorem Uc(a:AL)(left:Int){r:Int}(h:Ot a left=some r):Y.call 59 [bh 3 (AQ (bd .i64) a),bd .i64 left] []=some (bd .i64 r,[]):=by
 refine c59 ?_ rfl;unfold k59;unfold Ot at h;by_cases e1:(ca.wrap (left-(a.length:Int)))<0
 ·rw [if_pos e1]at h
  obtain rfl:=Option.some.inj h
  simp (maxDischargeDepth:=9) only [↓AP,AR,Ai,↓reduceIte,bj,bk,bl,bm,bo,bp,br,bt,bw,bx,bO,b0,b3,b4,b5,b6,b7,e1]<;>(repeat' apply A7)<;>first|rfl|exact⟨_,rfl⟩|exact⟨_,_,rfl⟩|simp [AQ,A8]
 ·rw [if_neg e1]at h
  obtain rfl:=Option.some.inj h
  simp (maxDischargeDepth:=9) only [↓AP,AR,Ai,↓reduceIte,bj,bk,bl,bm,bo,bp,br,bt,bw,bx,bO,b0,b3,b4,b5,b6,b7,e1]<;>(repeat' apply A7)<;>first|rfl|exact⟨_,rfl⟩|exact⟨_,_,rfl⟩|simp [AQ,A8]
theorem Yd(a:AL)(left:Int)(ha:a.length<9223372036854775808)(hl:0≤left∧left≤1048576):Ot a left=some (Gm left a.length):=by
 unfold Ot Gm;rw [L8 _ (by omega)]
 split<;>rfl
theorem QW(a:AL)(left:Int)(h0:a.length<9223372036854775808)(h1:0≤left∧left≤1048576):Y.call 59 [bh 3 (AQ (bd .i64) a),bd .i64 left] []=some (bd .i64 (Gm left a.length),[]):=Uc a left (Yd a left h0 h1)
def yI:Int→Z6→Int
 |left,[]=>left
 |left,x::l=>if left-x.length<0 then-1 else yI (left-x.length) l
theorem A0Q(l:Z6): ∀(left:Int),0≤left→yI left l=Gm left (KJ l):=by
 induction l with
 |nil=>intro left h;unfold yI Gm;rw [bz,if_neg (by omega)];omega
 |cons x l ih=>
  intro left h;have:=J6 l
  unfold yI;by_cases hq:left-x.length<0
  ·rw [if_pos hq];unfold Gm;rw [Oq,if_pos (by omega)]
  ·rw [if_neg hq,ih _ (by omega)]
   unfold Gm;rw [Oq];by_cases hr:left-x.length-KJ l<0
   ·rw [if_pos hr,if_pos (by omega)]
   ·rw [if_neg hr,if_neg (by omega)];omega
def A7Z(l:Z6):Prop:=l.length<9223372036854775808∧ ∀x∈l,x.length<9223372036854775808
instance (l:Z6):Decidable (A7Z l):=by unfold A7Z;infer_instance
def upto(k:Int)(n:Nat):AL:=(an n).map fun(i:Nat)=>k+i
def A7a:Int→Z6→Z6
 |_,[]=>[]
 |k,x::l=>upto k x.length::A7a (k+x.length) l
def fV:Int→AL→Int
 |k,[]=>k
 |k,x::l=>if x=k then fV (k+1) l else-1
def oV:SC:= .seq (.seq (.ops [oM 6 5 3,oM 7 0 26,oN 8 7 26,oB 9 .lss 3 (tK 6) (tK 8) 3 4]) (.cond (tK 9) .skip (.exit 0))) (.seq (.block 1 (.seq (.seq (.ops [oM 12 0 26,oM 13 5 3,oI 14 26 12 13,oL 15 3 14 3,oM 16 1 3,oB 17 .neq 3 (tK 15) (tK 16) 3 4]) (.cond (tK 17) (.seq (.ops [oX 4 O4 3]) .ret) .skip)) (.ops [oM 18 1 3,oB 19 .add 3 (tK 18) (iK 1) 3 3,oA 1 19 3]))) (.ops [oM 10 5 3,oB 11 .add 3 (tK 10) (iK 1) 3 3,oA 5 11 3]))
def A0R:SC:= .loop oV
def k18:SC:= .seq (.ops [oX 4 (.assign (iK 0)) 3]) (.seq (.seq (.ops [oX 5 (.assign (iK 0)) 3]) (.block 0 A0R)) (.seq (.ops [oM 20 1 3,oA 4 20 3]) .ret))
theorem A0S:Try.f18.body.map (Bi lends)=some k18:=by kernel_rfl
theorem ACU:CL Try.f18 2=true:=by kernel_rfl
theorem Z4{a l:List D}{r:D×List D}(h:CK Y.env k18 (Fx Ac l.length [cc 4] r) (entry a l))(ha:a.length=2):Y.call 18 a l=some r:=
 Ab (Y:=Y) rfl Try.func18 (ha▸ACU) A0S h
def k12:SC:= .seq (.ops [oX 1 (.box 24 (tK 0)) 0,oX 2 (.alloc 29) 0]) (.seq (.ops [oX 3 (.alloc 29) 0]) (.seq (.ops [oF 4 24 1 0,oL 5 3 4 3,oF 6 29 3 0,oS 3 6 5]) (.seq (.ops [oF 7 24 1 1,oL 8 3 7 3,oF 9 29 3 1,oS 3 9 8]) (.seq (.ops [oF 10 24 1 2,oL 11 22 10 22,oC 12 45 [(tK 11)] [22] 22,oF 13 29 3 2,oS 22 13 12]) (.seq (.ops [oF 14 24 1 3,oL 15 22 14 22,oC 16 45 [(tK 15)] [22] 22,oF 17 29 3 3,oS 22 17 16]) (.seq (.ops [oL 18 29 3 29,oS 29 2 18]) .ret))))))
theorem A0T:Try.f12.body.map (Bi lends)=some k12:=by kernel_rfl
theorem ACV:CL Try.f12 1=true:=by kernel_rfl
theorem Ye{a l:List D}{r:D×List D}(h:CK Y.env k12 (Fx Ac l.length [ResultVar.cell 2 29] r) (entry a l))(ha:a.length=1):Y.call 12 a l=some r:=
 Ab (Y:=Y) rfl Try.func12 (ha▸ACV) A0T h
def k15:SC:= .seq (.ops [oX 2 (.box 29 (tK 0)) 0,oX 3 (.box 29 (tK 1)) 0,oX 4 CJ 4]) (.seq (.seq (.ops [oF 5 29 2 0,oL 6 3 5 3,oF 7 29 3 0,oL 8 3 7 3,oB 9 .neq 3 (tK 6) (tK 8) 3 4]) (.cond (tK 9) (.seq (.ops [oX 4 CJ 4]) .ret) .skip)) (.seq (.seq (.ops [oF 10 29 2 1,oL 11 3 10 3,oF 12 29 3 1,oL 13 3 12 3,oB 14 .neq 3 (tK 11) (tK 13) 3 4]) (.cond (tK 14) (.seq (.ops [oX 4 CJ 4]) .ret) .skip)) (.seq (.seq (.ops [oF 15 29 2 2,oL 16 22 15 22,oF 17 29 3 2,oL 18 22 17 22,oC 19 48 [(tK 16),(tK 18)] [22,22] 4,oX 20 (.unOp .not 4 (tK 19)) 4]) (.cond (tK 20) (.seq (.ops [oX 4 CJ 4]) .ret) .skip)) (.seq (.seq (.ops [oF 21 29 2 3,oL 22 22 21 22,oF 23 29 3 3,oL 24 22 23 22,oC 25 48 [(tK 22),(tK 24)] [22,22] 4,oX 26 (.unOp .not 4 (tK 25)) 4]) (.cond (tK 26) (.seq (.ops [oX 4 CJ 4]) .ret) .skip)) (.seq (.ops [oX 4 (.assign FR) 4]) .ret)))))
theorem A0U:Try.f15.body.map (Bi lends)=some k15:=by kernel_rfl
theorem ACW:CL Try.f15 2=true:=by kernel_rfl
theorem c15{a l:List D}{r:D×List D}(h:CK Y.env k15 (Fx Ac l.length [cc 4] r) (entry a l))(ha:a.length=2):Y.call 15 a l=some r:=
 Ab (Y:=Y) rfl Try.func15 (ha▸ACW) A0U h
def k10:SC:= .seq (.ops [oX 2 (.box 24 (tK 0)) 0,oX 4 (.assign (iK 0)) 3]) (.seq (.ops [oF 5 24 2 2,oL 6 22 5 22,oM 7 1 3,oC 8 40 [(tK 6),(tK 7)] [22,3] 3,oA 1 8 3]) (.seq (.seq (.ops [oM 9 1 3,oB 10 .lss 3 (tK 9) (iK 0) 3 4]) (.cond (tK 10) (.seq (.ops [oX 4 O4 3]) .ret) .skip)) (.seq (.ops [oF 11 24 2 3,oL 12 22 11 22,oM 13 1 3,oC 14 40 [(tK 12),(tK 13)] [22,3] 3,oA 1 14 3]) (.seq (.seq (.ops [oM 15 1 3,oB 16 .lss 3 (tK 15) (iK 0) 3 4]) (.cond (tK 16) (.seq (.ops [oX 4 O4 3]) .ret) .skip)) (.seq (.ops [oM 17 1 3,oA 4 17 3]) .ret)))))
theorem A0V:Try.f10.body.map (Bi lends)=some k10:=by kernel_rfl
theorem ACX:CL Try.f10 2=true:=by kernel_rfl
theorem WV{a l:List D}{r:D×List D}(h:CK Y.env k10 (Fx Ac l.length [cc 4] r) (entry a l))(ha:a.length=2):Y.call 10 a l=some r:=
 Ab (Y:=Y) rfl Try.func10 (ha▸ACX) A0V h
def IG(n lo hi:Int):Bool:=decide (lo≤n∧n≤hi)
theorem JE{n lo hi:Int}:IG n lo hi=true↔lo≤n∧n≤hi:=by simp [IG]
def Ou(n_:Int)(low:Int)(high:Int):Option (Bool):= if low≤n_ then some (decide (n_≤high)) else some false
def k97:SC:= .seq (.ops [oX 6 CJ 4]) (.seq (.ops [oM 7 1 3,oM 8 0 3,oB 9 .leq 3 (tK 7) (tK 8) 3 4,oM 10 9 4,⟨(some 11),(.move (tK 0)),3,(some (some 10,true))⟩,⟨(some 12),(.move (tK 2)),3,(some (some 10,true))⟩,⟨(some 13),(.binOp .leq 3 (tK 11) (tK 12) 3),4,(some (some 10,true))⟩,oX 14 (.pick (tK 10) (tK 13) O5) 4,oA 6 14 4]) .ret)
theorem A0W:Try.f97.body.map (Bi lends)=some k97:=by kernel_rfl
theorem ACZ:CL Try.f97 3=true:=by kernel_rfl
theorem c97{a l:List D}{r:D×List D}(h:CK Y.env k97 (Fx Ac l.length [cc 6] r) (entry a l))(ha:a.length=3):Y.call 97 a l=some r:=
 Ab (Y:=Y) rfl Try.func97 (ha▸ACZ) A0W h
theorem Ud(n_:Int)(low:Int)(high:Int){r:Bool}(h:Ou n_ low high=some r):Y.call 97 [bd .i64 n_,bd .i64 low,bd .i64 high] []=some (b9 r,[]):=by
 refine c97 ?_ rfl;unfold k97;unfold Ou at h;by_cases e1:low≤n_
 ·rw [if_pos e1]at h
  obtain rfl:=Option.some.inj h
  simp (maxDischargeDepth:=9) only [↓AP,AR,Ai,↓reduceIte,bj,bk,bl,bm,bo,bp,br,bt,bw,bx,bO,b0,b3,b4,b5,b6,b7,e1]<;>(repeat' apply A7)<;>first|rfl|exact⟨_,rfl⟩|exact⟨_,_,rfl⟩|simp [AQ,A8]
 ·rw [if_neg e1]at h
  obtain rfl:=Option.some.inj h
  simp (maxDischargeDepth:=9) only [↓AP,AR,Ai,↓reduceIte,bj,bk,bl,bm,bo,bp,br,bt,bw,bx,bO,b0,b3,b4,b5,b6,b7,e1]<;>(repeat' apply A7)<;>first|rfl|exact⟨_,rfl⟩|exact⟨_,_,rfl⟩|simp [AQ,A8]
def WW(n_:Int)(lo:Int)(hi:Int):Option (Bool):= if lo≤n_ then some (decide (n_≤hi)) else some false
def k92:SC:= .seq (.ops [oX 6 CJ 4]) (.seq (.ops [oM 7 0 3,oM 8 1 3,oB 9 .geq 3 (tK 7) (tK 8) 3 4,oM 10 9 4,⟨(some 11),(.move (tK 0)),3,(some (some 10,true))⟩,⟨(some 12),(.move (tK 2)),3,(some (some 10,true))⟩,⟨(some 13),(.binOp .leq 3 (tK 11) (tK 12) 3),4,(some (some 10,true))⟩,oX 14 (.pick (tK 10) (tK 13) O5) 4,oA 6 14 4]) .ret)
theorem A0X:Try.f92.body.map (Bi lends)=some k92:=by kernel_rfl
theorem ACb:CL Try.f92 3=true:=by kernel_rfl
theorem c92{a l:List D}{r:D×List D}(h:CK Y.env k92 (Fx Ac l.length [cc 6] r) (entry a l))(ha:a.length=3):Y.call 92 a l=some r:=
 Ab (Y:=Y) rfl Try.func92 (ha▸ACb) A0X h
theorem Yf(n_:Int)(lo:Int)(hi:Int){r:Bool}(h:WW n_ lo hi=some r):Y.call 92 [bd .i64 n_,bd .i64 lo,bd .i64 hi] []=some (b9 r,[]):=by
 refine c92 ?_ rfl;unfold k92;unfold WW at h;by_cases e1:lo≤n_
 ·rw [if_pos e1]at h
  obtain rfl:=Option.some.inj h
  simp (maxDischargeDepth:=9) only [↓AP,AR,Ai,↓reduceIte,bj,bk,bl,bm,bo,bp,br,bt,bw,bx,bO,b0,b3,b4,b5,b6,b7,e1]<;>(repeat' apply A7)<;>first|rfl|exact⟨_,rfl⟩|exact⟨_,_,rfl⟩|simp [AQ,A8]
 ·rw [if_neg e1]at h
  obtain rfl:=Option.some.inj h
  simp (maxDischargeDepth:=9) only [↓AP,AR,Ai,↓reduceIte,bj,bk,bl,bm,bo,bp,br,bt,bw,bx,bO,b0,b3,b4,b5,b6,b7,e1]<;>(repeat' apply A7)<;>first|rfl|exact⟨_,rfl⟩|exact⟨_,_,rfl⟩|simp [AQ,A8]
theorem Yg(n lo hi:Int):Ou n lo hi=some (IG n lo hi):=by unfold Ou IG;by_cases h1:lo≤n<;>by_cases h2:n≤hi<;>simp [h1,h2]
theorem gY(n lo hi:Int):WW n lo hi=some (IG n lo hi):=by unfold WW IG;by_cases h1:lo≤n<;>by_cases h2:n≤hi<;>simp [h1,h2]
theorem Gu(n_:Int)(low:Int)(high:Int):Y.call 97 [bd .i64 n_,bd .i64 low,bd .i64 high] []=some (b9 (IG n_ low high),[]):=Ud n_ low high (Yg n_ low high)
theorem J7(n_:Int)(lo:Int)(hi:Int):Y.call 92 [bd .i64 n_,bd .i64 lo,bd .i64 hi] []=some (b9 (IG n_ lo hi),[]):=Yf n_ lo hi (gY n_ lo hi)
def He(l:AL)(lo:Int)(hi:Int)(Bj:Int):Option ((Int)⊕(Unit⊕Unit)):= if Bj<(l.length:Int)then ck (0≤Bj∧Bj.toNat<l.length)<| if(IG (l.getD Bj.toNat be) lo hi)=true then some (cb (ca.wrap (Bj+1))) else some (b8 (cb ())) else some (b8 (b8 ()))
def Li(l:AL)(lo:Int)(hi:Int)(v:Int):Option (Unit⊕Unit):=Io (fun v=>He l lo hi v) v
def R5(l:AL)(lo:Int)(hi:Int):Option (Bool):=
 (Li l lo hi 0).bind fun AZ=>
 match AZ with
 | .inl q1000_=>
  some false
 | .inr q1000_=>
  some true
def Sw:SC:= .seq (.ops [oB 12 .lss 3 (tK 11) (tK 10) 3 0]) (.seq (.cond (tK 12) .skip (.exit 0)) (.seq (.block 1 (.seq (.ops [oI 13 26 9 11,oL 14 3 13 3,oA 8 14 3]) (.seq (.ops [oM 15 8 3,oM 16 1 3,oM 17 2 3,oC 18 92 [(tK 15),(tK 16),(tK 17)] [3,3,3] 4,oX 19 (.unOp .not 4 (tK 18)) 4]) (.cond (tK 19) (.seq (.ops [oX 6 CJ 4]) .ret) .skip)))) (.ops [oB 20 .add 3 (tK 11) (iK 1) 3 3,oM 11 20 3])))
def cB:SC:= .loop Sw
def A0Y:SC:= .seq (.ops [oX 6 CJ 4]) (.seq (.seq (.ops [oM 9 0 26,oN 10 9 26,oX 11 (.move (iK 0)) 3]) (.block 0 cB)) (.seq (.ops [oX 6 (.assign FR) 4]) .ret))
theorem oW:Try.f107.body.map (Bi lends)=some A0Y:=by kernel_rfl
theorem A7c:CL Try.f107 3=true:=by kernel_rfl
theorem ACc{a l:List D}{r:D×List D}(h:CK Y.env A0Y (Fx Ac l.length [cc 6] r) (entry a l))(ha:a.length=3):Y.call 107 a l=some r:=
 Ab (Y:=Y) rfl Try.func107 (ha▸A7c) oW h
def Fb(l:AL)(lo:Int)(hi:Int)(Bj:Int)(s:St):Prop:=s.v 1=bd .i64 lo∧s.v 2=bd .i64 hi∧s.v 9=bh 3 (AQ (bd .i64) l)∧s.v 10=bd .i64 (l.length:Int)∧s.v 11=bd .i64 Bj
def Fe(l:AL)(lo:Int)(hi:Int)(r:Unit⊕Unit)(ex:Ex)(s:St):Prop:=match r with
 | .inl q=>ex= .ret∧s.v 6=b9 false
 | .inr q=>ex= .exit 0
theorem Ue(l:AL)(lo:Int)(hi:Int){v:Int}{s:St}{r:Unit⊕Unit}(h:Li l lo hi v=some r)(hM:Fb l lo hi v s):CK Y.env cB (Fe l lo hi r) s:=by
 unfold Li at h;refine Bc (c:=Sw) (fun v=>He l lo hi v) (fun v s=>Fb l lo hi v s) (Fe l lo hi) ?_ h hM;clear h hM s v r;intro Bj s o hM h;unfold He at h;unfold Fb at hM;obtain⟨m0,m1,m2,m3,m4⟩:=hM;unfold Sw;by_cases e1:Bj<(l.length:Int)
 ·rw [if_pos e1]at h;obtain⟨e2,h⟩:=Bw h;have c3:=J7 (l.getD Bj.toNat be) lo hi;by_cases e4:(IG (l.getD Bj.toNat be) lo hi)=true
  ·rw [if_pos e4]at h
   obtain rfl:=Option.some.inj h
   simp (maxDischargeDepth:=9) only [↓AP,AR,Ai,↓reduceIte,bj,bk,bl,bm,bo,bp,br,bt,bw,bx,bO,b0,b3,b4,b5,b6,b7,m0,m1,m2,m3,m4,e1,e2.1,e2.2,c3,e4,Fb,Fe,Cm,Cn,Co]<;>(repeat' apply A7)<;>first|rfl|exact⟨_,rfl⟩|exact⟨_,_,rfl⟩|simp [AQ,A8]
  ·rw [if_neg e4]at h;have e4f:(IG (l.getD Bj.toNat be) lo hi)=false:=JF.mpr e4
   obtain rfl:=Option.some.inj h
   simp (maxDischargeDepth:=9) only [↓AP,AR,Ai,↓reduceIte,bj,bk,bl,bm,bo,bp,br,bt,bw,bx,bO,b0,b3,b4,b5,b6,b7,m0,m1,m2,m3,m4,e1,e2.1,e2.2,c3,e4f,Fb,Fe,Cm,Cn,Co]<;>(repeat' apply A7)<;>first|rfl|exact⟨_,rfl⟩|exact⟨_,_,rfl⟩|simp [AQ,A8]
 ·rw [if_neg e1]at h
  obtain rfl:=Option.some.inj h
  simp (maxDischargeDepth:=9) only [↓AP,AR,Ai,↓reduceIte,bj,bk,bl,bm,bo,bp,br,bt,bw,bx,bO,b0,b3,b4,b5,b6,b7,m0,m1,m2,m3,m4,e1,Fb,Fe,Cm,Cn,Co]<;>(repeat' apply A7)<;>first|rfl|exact⟨_,rfl⟩|exact⟨_,_,rfl⟩|simp [AQ,A8]
theorem WX(l:AL)(lo:Int)(hi:Int){r:Bool}(h:R5 l lo hi=some r):Y.call 107 [bh 3 (AQ (bd .i64) l),bd .i64 lo,bd .i64 hi] []=some (b9 r,[]):=by
 refine ACc ?_ rfl;unfold A0Y;unfold R5 at h;obtain⟨AZ,hl2,h⟩:=BA h;try dsimp only at h
 simp (maxDischargeDepth:=9) only [↓AP,AR,Ai,↓reduceIte,bj,bk,bl,bm,bo,bp,br,bt,bw,bx,bO,b0,b3,b4,b5,b6,b7];refine BM (Ue l lo hi hl2 ?_) ?_
 ·simp (maxDischargeDepth:=9) only [↓AP,AR,Ai,↓reduceIte,bj,bk,bl,bm,bo,bp,br,bt,bw,bx,bO,b0,b3,b4,b5,b6,b7,Fb]<;>(repeat' apply A7)<;>first|rfl|exact⟨_,rfl⟩|exact⟨_,_,rfl⟩|simp [AQ,A8]
 ·intro ex2 s2 hX2;rcases AZ with q1000_|q1000_
  ·unfold Fe at hX2;dsimp only at hX2 h;obtain⟨rfl,n2_0⟩:=hX2
   obtain rfl:=Option.some.inj h
   simp (maxDischargeDepth:=9) only [↓AP,AR,Ai,↓reduceIte,bj,bk,bl,bm,bo,bp,br,bt,bw,bx,bO,b0,b3,b4,b5,b6,b7,n2_0]<;>(repeat' apply A7)<;>first|rfl|exact⟨_,rfl⟩|exact⟨_,_,rfl⟩|simp [AQ,A8]
  ·unfold Fe at hX2;dsimp only at hX2 h
   obtain rfl:=hX2
   obtain rfl:=Option.some.inj h
   simp (maxDischargeDepth:=9) only [↓AP,AR,Ai,↓reduceIte,bj,bk,bl,bm,bo,bp,br,bt,bw,bx,bO,b0,b3,b4,b5,b6,b7]<;>(repeat' apply A7)<;>first|rfl|exact⟨_,rfl⟩|exact⟨_,_,rfl⟩|simp [AQ,A8]
def EA(l:AL)(lo hi:Int):Bool:=l.all fun x=>IG x lo hi
theorem aY(l:AL)(lo hi:Int)(h:l.length<1099511627776):R5 l lo hi=some (EA l lo hi):=by
 unfold R5 Li;have key:=IA (fun v=>He l lo hi v) (fun i=>(i:Int)) l.length (fun i=>IG (l.getD i be) lo hi) (.inl ()) (.inr ()) ?_ ?_
 ·simp only [NV]at key;rw [key,YW (fun x=>IG x lo hi)];unfold EA
  cases l.all (fun x=>IG x lo hi)<;>rfl
 ·intro i hi;simp only [He];rw [if_pos (Bd hi),Bu (Ib hi),Jh,Kk i (by omega)]
 ·simp only [He];rw [if_neg (Ap _)]
theorem Sy(l:AL)(lo:Int)(hi:Int)(h0:l.length<1099511627776):Y.call 107 [bh 3 (AQ (bd .i64) l),bd .i64 lo,bd .i64 hi] []=some (b9 (EA l lo hi),[]):=WX l lo hi (aY l lo hi h0)
def Aq(s_:AL)(f:Int→Option Bool)(Gf:Int):Option ((Int)⊕(Int⊕Unit)):= if Gf<(s_.length:Int)then ck (0≤Gf∧Gf.toNat<s_.length)<| (f (s_.getD Gf.toNat be)).bind fun WY=> if WY=true then some (b8 (cb Gf)) else some (cb (ca.wrap (Gf+1))) else some (b8 (b8 ()))
def CV(s_:AL)(f:Int→Option Bool)(v:Int):Option (Int⊕Unit):=Io (fun v=>Aq s_ f v) v
def CB(s_:AL)(f:Int→Option Bool):Option (Int):=
 (CV s_ f 0).bind fun AZ=>
 match AZ with
 | .inl q1000_=>
  some q1000_
 | .inr q1000_=>
  some (-1)
def Sz:SC:= .seq (.ops [oB 9 .lss 3 (tK 8) (tK 7) 3 0]) (.seq (.cond (tK 9) .skip (.exit 0)) (.seq (.block 1 (.seq (.ops [oM 10 8 3,oA 5 10 3]) (.seq (.ops [oM 11 1 87,oM 12 0 26,oM 13 5 3,oI 14 26 12 13,oL 15 3 14 3,oX 16 (.call ⟨(.value (tK 11)), #[(tK 15)], #[3]⟩) 4]) (.cond (tK 16) (.seq (.ops [oM 17 5 3,oA 4 17 3]) .ret) .skip)))) (.ops [oB 18 .add 3 (tK 8) (iK 1) 3 3,oM 8 18 3])))
def cK:SC:= .loop Sz
def A0Z:SC:= .seq (.ops [oX 4 (.assign (iK 0)) 3]) (.seq (.seq (.ops [oM 6 0 26,oN 7 6 26,oX 8 (.move (iK 0)) 3]) (.block 0 cK)) (.seq (.ops [oX 4 O4 3]) .ret))
theorem oZ:Try.f163.body.map (Bi lends)=some A0Z:=by kernel_rfl
theorem A7d:CL Try.f163 2=true:=by kernel_rfl
theorem ACd{a l:List D}{r:D×List D}(h:CK Y.env A0Z (Fx Ac l.length [cc 4] r) (entry a l))(ha:a.length=2):Y.call 163 a l=some r:=
 Ab (Y:=Y) rfl Try.func163 (ha▸A7d) oZ h
def BD(s_:AL)(f:Int→Option Bool)(f_f:FuncId)(f_c:List D)(Gf:Int)(s:St):Prop:=s.v 0=bh 3 (AQ (bd .i64) s_)∧s.v 1=D.clo f_f f_c∧s.v 7=bd .i64 (s_.length:Int)∧s.v 8=bd .i64 Gf
def BF(s_:AL)(f:Int→Option Bool)(f_f:FuncId)(f_c:List D)(r:Int⊕Unit)(ex:Ex)(s:St):Prop:=match r with
 | .inl q=>ex= .ret∧s.v 4=bd .i64 q
 | .inr q=>ex= .exit 0
theorem IP(s_:AL)(f:Int→Option Bool)(f_f:FuncId)(f_c:List D)(f_h: ∀(a0:Int) (r:Bool),f a0=some r→Y.call f_f (bd .i64 a0::f_c) []=some (b9 r,[]))(f_l:lends f_f=false){v:Int}{s:St}{r:Int⊕Unit}(h:CV s_ f v=some r)(hM:BD s_ f f_f f_c v s):CK Y.env cK (BF s_ f f_f f_c r) s:=by
 unfold CV at h;refine Bc (c:=Sz) (fun v=>Aq s_ f v) (fun v s=>BD s_ f f_f f_c v s) (BF s_ f f_f f_c) ?_ h hM;clear h hM s v r;intro Gf s o hM h;unfold Aq at h;unfold BD at hM;obtain⟨m0,m1,m2,m3⟩:=hM;unfold Sz;by_cases e1:Gf<(s_.length:Int)
 ·rw [if_pos e1]at h;obtain⟨e2,h⟩:=Bw h;obtain⟨WY,hl3,h⟩:=BA h;try dsimp only at h
  have c3:=f_h _ _ hl3;by_cases e4:WY=true
  ·rw [if_pos e4]at h
   obtain rfl:=Option.some.inj h
   simp (maxDischargeDepth:=9) only [↓AP,AR,Ai,↓reduceIte,bj,bk,bl,bm,bo,bp,br,bt,bw,bx,bO,b0,b3,b4,b5,b6,b7,m0,m1,m2,m3,f_l,e1,e2.1,e2.2,c3,e4,BD,BF,Cm,Cn,Co]<;>(repeat' apply A7)<;>first|rfl|exact⟨_,rfl⟩|exact⟨_,_,rfl⟩|simp [AQ,A8]
  ·rw [if_neg e4]at h;have e4f:WY=false:=JF.mpr e4
   obtain rfl:=Option.some.inj h
   simp (maxDischargeDepth:=9) only [↓AP,AR,Ai,↓reduceIte,bj,bk,bl,bm,bo,bp,br,bt,bw,bx,bO,b0,b3,b4,b5,b6,b7,m0,m1,m2,m3,f_l,e1,e2.1,e2.2,c3,e4f,BD,BF,Cm,Cn,Co]<;>(repeat' apply A7)<;>first|rfl|exact⟨_,rfl⟩|exact⟨_,_,rfl⟩|simp [AQ,A8]
 ·rw [if_neg e1]at h
  obtain rfl:=Option.some.inj h
  simp (maxDischargeDepth:=9) only [↓AP,AR,Ai,↓reduceIte,bj,bk,bl,bm,bo,bp,br,bt,bw,bx,bO,b0,b3,b4,b5,b6,b7,m0,m1,m2,m3,f_l,e1,BD,BF,Cm,Cn,Co]<;>(repeat' apply A7)<;>first|rfl|exact⟨_,rfl⟩|exact⟨_,_,rfl⟩|simp [AQ,A8]
theorem Ic(s_:AL)(f:Int→Option Bool)(f_f:FuncId)(f_c:List D)(f_h: ∀(a0:Int) (r:Bool),f a0=some r→Y.call f_f (bd .i64 a0::f_c) []=some (b9 r,[]))(f_l:lends f_f=false){r:Int}(h:CB s_ f=some r):Y.call 163 [bh 3 (AQ (bd .i64) s_),D.clo f_f f_c] []=some (bd .i64 r,[]):=by
 refine ACd ?_ rfl;unfold A0Z;unfold CB at h;obtain⟨AZ,hl2,h⟩:=BA h;try dsimp only at h
 simp (maxDischargeDepth:=9) only [↓AP,AR,Ai,↓reduceIte,bj,bk,bl,bm,bo,bp,br,bt,bw,bx,bO,b0,b3,b4,b5,b6,b7,f_l];refine BM (IP s_ f f_f f_c f_h f_l hl2 ?_) ?_
 ·simp (maxDischargeDepth:=9) only [↓AP,AR,Ai,↓reduceIte,bj,bk,bl,bm,bo,bp,br,bt,bw,bx,bO,b0,b3,b4,b5,b6,b7,f_l,BD]<;>(repeat' apply A7)<;>first|rfl|exact⟨_,rfl⟩|exact⟨_,_,rfl⟩|simp [AQ,A8]
 ·intro ex2 s2 hX2;rcases AZ with q1000_|q1000_
  ·unfold BF at hX2;dsimp only at hX2 h;obtain⟨rfl,n2_0⟩:=hX2
   obtain rfl:=Option.some.inj h
   simp (maxDischargeDepth:=9) only [↓AP,AR,Ai,↓reduceIte,bj,bk,bl,bm,bo,bp,br,bt,bw,bx,bO,b0,b3,b4,b5,b6,b7,f_l,n2_0]<;>(repeat' apply A7)<;>first|rfl|exact⟨_,rfl⟩|exact⟨_,_,rfl⟩|simp [AQ,A8]
  ·unfold BF at hX2;dsimp only at hX2 h
   obtain rfl:=hX2
   obtain rfl:=Option.some.inj h
   simp (maxDischargeDepth:=9) only [↓AP,AR,Ai,↓reduceIte,bj,bk,bl,bm,bo,bp,br,bt,bw,bx,bO,b0,b3,b4,b5,b6,b7,f_l]<;>(repeat' apply A7)<;>first|rfl|exact⟨_,rfl⟩|exact⟨_,_,rfl⟩|simp [AQ,A8]
def Be(s_:AL)(f:Int→Option Bool):Option (Bool):= (CB s_ f).bind fun l8=> some (decide (0≤l8))
def A0a:SC:= .seq (.ops [oX 4 CJ 4]) (.seq (.ops [oM 5 0 26,oM 6 1 87,oC 7 163 [(tK 5),(tK 6)] [26,87] 3,oB 8 .geq 3 (tK 7) (iK 0) 3 4,oA 4 8 4]) .ret)
theorem og:Try.f133.body.map (Bi lends)=some A0a:=by kernel_rfl
theorem A7e:CL Try.f133 2=true:=by kernel_rfl
theorem ACe{a l:List D}{r:D×List D}(h:CK Y.env A0a (Fx Ac l.length [cc 4] r) (entry a l))(ha:a.length=2):Y.call 133 a l=some r:=
 Ab (Y:=Y) rfl Try.func133 (ha▸A7e) og h
theorem Hy(s_:AL)(f:Int→Option Bool)(f_f:FuncId)(f_c:List D)(f_h: ∀(a0:Int) (r:Bool),f a0=some r→Y.call f_f (bd .i64 a0::f_c) []=some (b9 r,[]))(f_l:lends f_f=false){r:Bool}(h:Be s_ f=some r):Y.call 133 [bh 3 (AQ (bd .i64) s_),D.clo f_f f_c] []=some (b9 r,[]):=by
 refine ACe ?_ rfl;unfold A0a;unfold Be at h;obtain⟨l8,hl1,h⟩:=BA h;try dsimp only at h
 have c1:=Ic s_ f f_f f_c f_h f_l hl1
 obtain rfl:=Option.some.inj h
 simp (maxDischargeDepth:=9) only [↓AP,AR,Ai,↓reduceIte,bj,bk,bl,bm,bo,bp,br,bt,bw,bx,bO,b0,b3,b4,b5,b6,b7,f_l,c1]<;>(repeat' apply A7)<;>first|rfl|exact⟨_,rfl⟩|exact⟨_,_,rfl⟩|simp [AQ,A8]
def Hz(n_:Int)(c0_:Int)(c1_:Int):Option (Bool):= some (!(IG n_ c0_ c1_))
def A0b:SC:= .seq (.ops [oX 4 CJ 4]) (.seq (.ops [oM 5 0 3,oL 6 3 1 3,oL 7 3 2 3,oC 8 97 [(tK 5),(tK 6),(tK 7)] [3,3,3] 4,oX 9 (.unOp .not 4 (tK 8)) 4,oA 4 9 4]) .ret)
theorem ol:Try.f170.body.map (Bi lends)=some A0b:=by kernel_rfl
theorem A7f:CL Try.f170 3=true:=by kernel_rfl
theorem ACf{a l:List D}{r:D×List D}(h:CK Y.env A0b (Fx Ac l.length [cc 4] r) (entry a l))(ha:a.length=3):Y.call 170 a l=some r:=
 Ab (Y:=Y) rfl Try.func170 (ha▸A7f) ol h
theorem O6(n_:Int)(c0_:Int)(c1_:Int){r:Bool}(h:Hz n_ c0_ c1_=some r):Y.call 170 [bd .i64 n_,D.cptr [bd .i64 c0_],D.cptr [bd .i64 c1_]] []=some (b9 r,[]):=by
 refine ACf ?_ rfl;unfold A0b;unfold Hz at h;have c1:=Gu n_ c0_ c1_
 obtain rfl:=Option.some.inj h
 simp (maxDischargeDepth:=9) only [↓AP,AR,Ai,↓reduceIte,bj,bk,bl,bm,bo,bp,br,bt,bw,bx,bO,b0,b3,b4,b5,b6,b7,c1]<;>(repeat' apply A7)<;>first|rfl|exact⟨_,rfl⟩|exact⟨_,_,rfl⟩|simp [AQ,A8]
def KS(list:AL)(low:Int)(high:Int):Option (Bool):= (Be list (fun a0=>Hz a0 low high)).bind fun r9_=> some (!r9_)
def A0d:SC:= .seq (.ops [oX 4 (.box 3 (tK 1)) 0,oX 5 (.box 3 (tK 2)) 0,oX 6 CJ 4]) (.seq (.ops [oM 7 0 26,oX 8 (.makeFunc (Fn.func 170) #[] #[(tK 4),(tK 5)]) 87,oC 9 133 [(tK 7),(tK 8)] [26,87] 4,oX 10 (.unOp .not 4 (tK 9)) 4,oA 6 10 4]) .ret)
theorem oo:Try.f144.body.map (Bi lends)=some A0d:=by kernel_rfl
theorem A7g:CL Try.f144 3=true:=by kernel_rfl
theorem ACg{a l:List D}{r:D×List D}(h:CK Y.env A0d (Fx Ac l.length [cc 6] r) (entry a l))(ha:a.length=3):Y.call 144 a l=some r:=
 Ab (Y:=Y) rfl Try.func144 (ha▸A7g) oo h
theorem Po(list:AL)(low:Int)(high:Int){r:Bool}(h:KS list low high=some r):Y.call 144 [bh 3 (AQ (bd .i64) list),bd .i64 low,bd .i64 high] []=some (b9 r,[]):=by
 refine ACg ?_ rfl;unfold A0d;unfold KS at h;obtain⟨r9_,hl1,h⟩:=BA h;try dsimp only at h
 have c1:=Hy list (fun a0=>Hz a0 low high) 170 [D.cptr [bd .i64 low],D.cptr [bd .i64 high]] (fun a0 _ hh=>O6 a0 low high hh) ku hl1
 obtain rfl:=Option.some.inj h
 simp (maxDischargeDepth:=9) only [↓AP,AR,Ai,↓reduceIte,bj,bk,bl,bm,bo,bp,br,bt,bw,bx,bO,b0,b3,b4,b5,b6,b7,c1]<;>(repeat' apply A7)<;>first|rfl|exact⟨_,rfl⟩|exact⟨_,_,rfl⟩|simp [AQ,A8]
theorem WZ(l:AL)(f:Int→Option Bool)(p:Int→Bool)(h:l.length<1099511627776)(hf: ∀x∈l,f x=some (p x)):
  ∃r,CB l f=some r∧(0≤r↔l.any p=true):=by
 unfold CB CV;by_cases ha: ∀i,i<l.length→(!p (l.getD i be))=true
 ·have key:=Ce (fun v=>Aq l f v) (fun i=>(i:Int)) l.length (.inr ()) ?_ ?_
  ·simp only [NV]at key;rw [key]
   refine⟨-1,rfl,by simp,fun hc=> ?_⟩
   obtain⟨x,hx,hpx⟩:=List.any_eq_true.1 hc;obtain⟨i,hi,rfl⟩:=ZC hx;have:=ha i hi
   rw [BC _ _ hi,hpx]at this;cases this
  ·intro i hi;simp only [Aq];have e:=ha i hi;rw [BC _ _ hi]at e;rw [if_pos (Bd hi),Bu (Ib hi),Ia _ _ hi,hf _ (JH hi),DT,if_neg (by cases hp:p l[i]<;>simp_all),Kk i (by omega)]
  ·simp only [Aq];rw [if_neg (Ap _)]
 ·obtain⟨m,h1,h2,h3⟩:=Nz (P:=fun i=> !p (l.getD i be)) ha;have key:=Ce (fun v=>Aq l f v) (fun i=>(i:Int)) m (.inl (m:Int)) ?_ ?_
  ·simp only [NV]at key;rw [key]
   refine⟨(m:Int),rfl,fun _=> ?_,fun _=>by omega⟩
   have h2':p l[m]=true:=by rw [BC _ _ h1]at h2;simpa using h2
   exact List.any_eq_true.2 ⟨_,JH h1,h2'⟩
  ·intro i hi;simp only [Aq];have e:=h3 i hi;rw [BC _ _ (by omega)]at e
   rw [if_pos (Bd (by omega)),Bu (Ib (by omega)),Ia _ _ (by omega),hf _ (JH _),DT,if_neg (by cases hp:p l[i]<;>simp_all),Kk i (by omega)]
  ·simp only [Aq];have h2':p l[m]=true:=by rw [BC _ _ h1]at h2;simpa using h2
   rw [if_pos (Bd h1),Bu (Ib h1),Ia _ _ h1,hf _ (JH _),DT,if_pos h2']
theorem Qh(l:AL)(f:Int→Option Bool)(p:Int→Bool)(h:l.length<1099511627776)(hf: ∀x∈l,f x=some (p x)):Be l f=some (l.any p):=by
 obtain⟨r,h1,h2⟩:=WZ l f p h hf;unfold Be;rw [h1,DT]
 congr 1
 rw [PS];simpa using h2
theorem T9(l:AL)(lo hi:Int)(h:l.length<1099511627776):KS l lo hi=some (EA l lo hi):=by
 unfold KS;rw [Qh l (fun a0=>Hz a0 lo hi) (fun x=> !IG x lo hi) h (fun x _=>rfl),DT];unfold EA;rw [List.all_eq_not_any_not]
theorem TA(list:AL)(low:Int)(high:Int)(h0:list.length<1099511627776):Y.call 144 [bh 3 (AQ (bd .i64) list),bd .i64 low,bd .i64 high] []=some (b9 (EA list low high),[]):=Po list low high (T9 list low high h0)
theorem QT.getD{l:Z6}(h:QT l)(i:Nat):(l.getD i be).length<1099511627776:=by
 rcases Nat.lt_or_ge i l.length with hi|hi
 ·rw [BC _ _ hi];exact h.at i hi
 ·rw [Jg,List.getElem?_eq_none hi];decide
def Wd(x:Int):AL→AL
 | []=>[x]
 |y::r=>if x<y then y::Wd x r else x::y::r
def IK(l:AL):AL:=(l.foldl (fun r x=>Wd x r) []).reverse
theorem VU(x:Int): ∀r,(Wd x r).Perm (x::r):=by
 intro r
 induction r with
 |nil=>exact List.Perm.refl _
 |cons y r ih=>
  unfold Wd;split
  ·exact((List.perm_cons y).2 ih).trans (List.Perm.swap x y r)
  ·exact List.Perm.refl _
theorem gZ(x:Int): ∀r,r.Pairwise (fun a b=>b≤a)→(Wd x r).Pairwise (fun a b=>b≤a):=by
 intro r
 induction r with
 |nil=>intro _;simp [Wd]
 |cons y r ih=>
  intro h;obtain⟨h1,h2⟩:=cf.1 h;unfold Wd;split
  ·rename_i hxy
   refine cf.2 ⟨fun z hz=> ?_,ih h2⟩;rcases OH.1 ((VU x r).mem_iff.1 hz)with rfl|hz
   ·omega
   ·exact h1 z hz
  ·rename_i hxy
   refine cf.2 ⟨fun z hz=> ?_,h⟩;rcases OH.1 hz with rfl|hz
   ·omega
   ·have:=h1 z hz;omega
theorem aZ: ∀(l r:AL),(l.foldl (fun r x=>Wd x r) r).Perm (l++r):=by
 intro l
 induction l with
 |nil=>intro r;exact List.Perm.refl _
 |cons x l ih=>
  intro r;simp only [Vb]
  exact(ih _).trans (((List.Perm.refl l).append (VU x r)).trans List.perm_middle)
theorem aa: ∀(l r:AL),r.Pairwise (fun a b=>b≤a)→(l.foldl (fun r x=>Wd x r) r).Pairwise (fun a b=>b≤a):=by
 intro l
 induction l with
 |nil=>intro r h;exact h
 |cons x l ih=>intro r h;exact ih _ (gZ x r h)
theorem J8(l:AL):(IK l).Perm l:=by
 unfold IK;have:=aZ l []
 rw [UD]at this
 exact(List.reverse_perm _).trans this
theorem Lj(l:AL):(IK l).Pairwise (fun a b=>a≤b):=by
 unfold IK;exact List.pairwise_reverse.2 (aa l [] List.Pairwise.nil)
theorem TB(l:AL):Ck l=IK l:=by
 refine List.Perm.eq_of_pairwise (le:=fun a b:Int=>a≤b) (fun a b _ _ h1 h2=>Int.le_antisymm h1 h2) ?_ (Lj l) ((List.mergeSort_perm _ _).trans (J8 l).symm);have:=List.pairwise_mergeSort (le:=fun x y:Int=>decide (x≤y)) (fun a b c h1 h2=>by simp only [decide_eq_true_eq]at*;omega) (fun a b=>by simp only [MQ,decide_eq_true_eq];omega) l
 unfold Ck;exact this.imp (fun h=>by simpa using h)
theorem VV(l:AL):(IK l).length=l.length:=(J8 l).length_eq
def Cf(s_:AL):Option (AL):= some s_
def A0e:SC:= .seq (.ops [oX 1 (.box 26 (tK 0)) 0,oX 2 (.assign (.const .nilFunc)) 132]) (.seq (.ops [oX 3 (.makeFunc (Fn.func 155) #[] #[(tK 1)]) 131,oA 2 3 132]) .ret)
theorem oq:Try.f116.body.map (Bi lends)=some A0e:=by kernel_rfl
theorem A7h:CL Try.f116 1=true:=by kernel_rfl
theorem ACh{a l:List D}{r:D×List D}(h:CK Y.env A0e (Fx Ac l.length [cc 2] r) (entry a l))(ha:a.length=1):Y.call 116 a l=some r:=
 Ab (Y:=Y) rfl Try.func116 (ha▸A7h) oq h
theorem FX(s_:AL){r:AL}(h:Cf s_=some r):Y.call 116 [bh 3 (AQ (bd .i64) s_)] []=some (D.clo 155 [D.cptr [bh 3 (AQ (bd .i64) r)]],[]):=by
 refine ACh ?_ rfl;unfold A0e;unfold Cf at h
 obtain rfl:=Option.some.inj h
 simp (maxDischargeDepth:=9) only [↓AP,AR,Ai,↓reduceIte,bj,bk,bl,bm,bo,bp,br,bt,bw,bx,bO,b0,b3,b4,b5,b6,b7]<;>(repeat' apply A7)<;>first|rfl|exact⟨_,rfl⟩|exact⟨_,_,rfl⟩|simp [AQ,A8]
def Hf(l:AL)(n_:Int)(FY:Int):Option ((Int)⊕(Unit⊕Unit)):= if FY<(l.length:Int)then ck (0≤FY∧FY.toNat<l.length)<| if(l.getD FY.toNat be)=n_ then some (b8 (cb ())) else some (cb (ca.wrap (FY+1))) else some (b8 (b8 ()))
def Ll(l:AL)(n_:Int)(v:Int):Option (Unit⊕Unit):=Io (fun v=>Hf l n_ v) v
def R6(l:AL)(n_:Int):Option (Bool):=
 (Ll l n_ 0).bind fun AZ=>
 match AZ with
 | .inl q1000_=>
  some true
 | .inr q1000_=>
  some false
def We:SC:= .seq (.ops [oB 10 .lss 3 (tK 9) (tK 8) 3 0]) (.seq (.cond (tK 10) .skip (.exit 0)) (.seq (.block 1 (.seq (.ops [oI 11 26 7 9,oL 12 3 11 3,oA 6 12 3]) (.seq (.ops [oM 13 6 3,oM 14 1 3,oB 15 .eql 3 (tK 13) (tK 14) 3 4]) (.cond (tK 15) (.seq (.ops [oX 4 (.assign FR) 4]) .ret) .skip)))) (.ops [oB 16 .add 3 (tK 9) (iK 1) 3 3,oM 9 16 3])))
def l9:SC:= .loop We
def k89:SC:= .seq (.ops [oX 4 CJ 4]) (.seq (.seq (.ops [oM 7 0 26,oN 8 7 26,oX 9 (.move (iK 0)) 3]) (.block 0 l9)) (.seq (.ops [oX 4 CJ 4]) .ret))
theorem A0f:Try.f89.body.map (Bi lends)=some k89:=by kernel_rfl
theorem ACj:CL Try.f89 2=true:=by kernel_rfl
theorem c89{a l:List D}{r:D×List D}(h:CK Y.env k89 (Fx Ac l.length [cc 4] r) (entry a l))(ha:a.length=2):Y.call 89 a l=some r:=
 Ab (Y:=Y) rfl Try.func89 (ha▸ACj) A0f h
def Ff(l:AL)(n_:Int)(FY:Int)(s:St):Prop:=s.v 1=bd .i64 n_∧s.v 7=bh 3 (AQ (bd .i64) l)∧s.v 8=bd .i64 (l.length:Int)∧s.v 9=bd .i64 FY
def Fg(l:AL)(n_:Int)(r:Unit⊕Unit)(ex:Ex)(s:St):Prop:=match r with
 | .inl q=>ex= .ret∧s.v 4=b9 true
 | .inr q=>ex= .exit 0
theorem Uf(l:AL)(n_:Int){v:Int}{s:St}{r:Unit⊕Unit}(h:Ll l n_ v=some r)(hM:Ff l n_ v s):CK Y.env l9 (Fg l n_ r) s:=by
 unfold Ll at h;refine Bc (c:=We) (fun v=>Hf l n_ v) (fun v s=>Ff l n_ v s) (Fg l n_) ?_ h hM;clear h hM s v r;intro FY s o hM h;unfold Hf at h;unfold Ff at hM;obtain⟨m0,m1,m2,m3⟩:=hM;unfold We;by_cases e1:FY<(l.length:Int)
 ·rw [if_pos e1]at h;obtain⟨e2,h⟩:=Bw h;by_cases e3:(l.getD FY.toNat be)=n_
  ·rw [if_pos e3]at h
   obtain rfl:=Option.some.inj h
   simp (maxDischargeDepth:=9) only [↓AP,AR,Ai,↓reduceIte,bj,bk,bl,bm,bo,bp,br,bt,bw,bx,bO,b0,b3,b4,b5,b6,b7,m0,m1,m2,m3,e1,e2.1,e2.2,decide_eq_true e3,Ff,Fg,Cm,Cn,Co]<;>(repeat' apply A7)<;>first|rfl|exact⟨_,rfl⟩|exact⟨_,_,rfl⟩|simp [AQ,A8]
  ·rw [if_neg e3]at h
   obtain rfl:=Option.some.inj h
   simp (maxDischargeDepth:=9) only [↓AP,AR,Ai,↓reduceIte,bj,bk,bl,bm,bo,bp,br,bt,bw,bx,bO,b0,b3,b4,b5,b6,b7,m0,m1,m2,m3,e1,e2.1,e2.2,e3,Ff,Fg,Cm,Cn,Co]<;>(repeat' apply A7)<;>first|rfl|exact⟨_,rfl⟩|exact⟨_,_,rfl⟩|simp [AQ,A8]
 ·rw [if_neg e1]at h
  obtain rfl:=Option.some.inj h
  simp (maxDischargeDepth:=9) only [↓AP,AR,Ai,↓reduceIte,bj,bk,bl,bm,bo,bp,br,bt,bw,bx,bO,b0,b3,b4,b5,b6,b7,m0,m1,m2,m3,e1,Ff,Fg,Cm,Cn,Co]<;>(repeat' apply A7)<;>first|rfl|exact⟨_,rfl⟩|exact⟨_,_,rfl⟩|simp [AQ,A8]
theorem Wh(l:AL)(n_:Int){r:Bool}(h:R6 l n_=some r):Y.call 89 [bh 3 (AQ (bd .i64) l),bd .i64 n_] []=some (b9 r,[]):=by
 refine c89 ?_ rfl;unfold k89;unfold R6 at h;obtain⟨AZ,hl2,h⟩:=BA h;try dsimp only at h
 simp (maxDischargeDepth:=9) only [↓AP,AR,Ai,↓reduceIte,bj,bk,bl,bm,bo,bp,br,bt,bw,bx,bO,b0,b3,b4,b5,b6,b7];refine BM (Uf l n_ hl2 ?_) ?_
 ·simp (maxDischargeDepth:=9) only [↓AP,AR,Ai,↓reduceIte,bj,bk,bl,bm,bo,bp,br,bt,bw,bx,bO,b0,b3,b4,b5,b6,b7,Ff]<;>(repeat' apply A7)<;>first|rfl|exact⟨_,rfl⟩|exact⟨_,_,rfl⟩|simp [AQ,A8]
 ·intro ex2 s2 hX2;rcases AZ with q1000_|q1000_
  ·unfold Fg at hX2;dsimp only at hX2 h;obtain⟨rfl,n2_0⟩:=hX2
   obtain rfl:=Option.some.inj h
   simp (maxDischargeDepth:=9) only [↓AP,AR,Ai,↓reduceIte,bj,bk,bl,bm,bo,bp,br,bt,bw,bx,bO,b0,b3,b4,b5,b6,b7,n2_0]<;>(repeat' apply A7)<;>first|rfl|exact⟨_,rfl⟩|exact⟨_,_,rfl⟩|simp [AQ,A8]
  ·unfold Fg at hX2;dsimp only at hX2 h
   obtain rfl:=hX2
   obtain rfl:=Option.some.inj h
   simp (maxDischargeDepth:=9) only [↓AP,AR,Ai,↓reduceIte,bj,bk,bl,bm,bo,bp,br,bt,bw,bx,bO,b0,b3,b4,b5,b6,b7]<;>(repeat' apply A7)<;>first|rfl|exact⟨_,rfl⟩|exact⟨_,_,rfl⟩|simp [AQ,A8]
theorem ae(l:AL)(n:Int)(h:l.length<1099511627776):R6 l n=some (l.contains n):=by
 unfold R6 Ll;have key:=IA (fun v=>Hf l n v) (fun i=>(i:Int)) l.length (fun i=> !decide (l.getD i be=n)) (.inl ()) (.inr ()) ?_ ?_
 ·simp only [NV]at key;rw [key,YW (fun x=> !decide (x=n))]
  have e:l.all (fun x=> !decide (x=n))= !l.contains n:=by
   rw [List.all_eq_not_any_not,List.contains_eq_any_beq]
   congr 2
   funext x
   rw [Bool.not_not,PS,decide_eq_true_eq,beq_iff_eq];exact eq_comm
  rw [e]
  cases l.contains n<;>rfl
 ·intro i hi;simp only [Hf];rw [if_pos (Bd hi),Bu (Ib hi),Jh,Kk i (by omega)]
  by_cases hq:l.getD i be=n
  ·rw [if_pos hq,decide_eq_true hq];rfl
  ·rw [if_neg hq,decide_eq_false hq];rfl
 ·simp only [Hf];rw [if_neg (Ap _)]
theorem Lm(l:AL)(n_:Int)(h0:l.length<1099511627776):Y.call 89 [bh 3 (AQ (bd .i64) l),bd .i64 n_] []=some (b9 (l.contains n_),[]):=Wh l n_ (ae l n_ h0)
def DC(l:Ar):Prop:=l.length<1099511627776∧ ∀x∈l,x.length<549755813888
instance (l:Ar):Decidable (DC l):=by unfold DC;infer_instance
theorem DC.at{l:Ar}(h:DC l)(i:Nat)(hi:i<l.length):l[i].length<549755813888:=h.2 _ (JH hi)
theorem DC.getD{l:Ar}(h:DC l)(i:Nat):(l.getD i be).length<549755813888:=by
 by_cases hi:i<l.length
 ·rw [BC _ _ hi];exact h.at i hi
 ·rw [Jg,List.getElem?_eq_none (by omega)];decide
theorem A7i{a:IM}{i:Nat}(h:i<a.length):(BJ a i,CG a i)=a[i]:=by
 unfold BJ CG;rw [BC _ _ h]
def R7(a_Node:Int)(a_Port:Int):Option (Int×Int):= some (a_Node,a_Port)
def A0g:SC:= .seq (.ops [oX 1 (.box 159 (tK 0)) 0,oX 2 (.alloc 125) 0]) (.seq (.ops [oX 3 (.alloc 125) 0]) (.seq (.ops [oF 4 159 1 0,oL 5 3 4 3,oF 6 125 3 0,oS 3 6 5]) (.seq (.ops [oF 7 159 1 1,oL 8 3 7 3,oF 9 125 3 1,oS 3 9 8]) (.seq (.ops [oL 10 125 3 125,oS 125 2 10]) .ret))))
theorem ou:Try.f151.body.map (Bi lends)=some A0g:=by kernel_rfl
theorem A7j:CL Try.f151 1=true:=by kernel_rfl
theorem ACk{a l:List D}{r:D×List D}(h:CK Y.env A0g (Fx Ac l.length [ResultVar.cell 2 125] r) (entry a l))(ha:a.length=1):Y.call 151 a l=some r:=
 Ab (Y:=Y) rfl Try.func151 (ha▸A7j) ou h
theorem Wi(a_Node:Int)(a_Port:Int){r:Int×Int}(h:R7 a_Node a_Port=some r):Y.call 151 [ce [bd .i64 a_Node,bd .i64 a_Port]] []=some (ce [bd .i64 r.1,bd .i64 r.2],[]):=by
 refine ACk ?_ rfl;unfold A0g;unfold R7 at h
 obtain rfl:=Option.some.inj h
 simp (maxDischargeDepth:=9) only [↓AP,AR,Ai,↓reduceIte,bj,bk,bl,bm,bo,bp,br,bt,bw,bx,bO,b0,b3,b4,b5,b6,b7]<;>(repeat' apply A7)<;>first|rfl|exact⟨_,rfl⟩|exact⟨_,_,rfl⟩|simp [AQ,A8]
def GI(a:IM)(out:IM)(i:Int):Option ((IM×Int)⊕(IM)):= if i<(a.length:Int)then ck (0≤i∧i.toNat<a.length)<| (R7 (BJ a i.toNat) (CG a i.toNat)).bind fun A0h=> ck (0≤i∧i.toNat<out.length)<| some (cb ((out.set i.toNat (A0h.1,A0h.2)),ca.wrap (i+1))) else some (b8 out)
def KT(a:IM)(v:IM×Int):Option (IM):=Io (fun v=>GI a v.1 v.2) v
def Ov(a:IM):Option (IM):= ck (0≤(a.length:Int)∧(a.length:Int)<1099511627776)<| (KT a ((ao a.length (0,0)),0)).bind fun AZ=> some AZ
def TC:SC:= .seq (.seq (.ops [oM 8 4 3,oM 9 0 121,oN 10 9 121,oB 11 .lss 3 (tK 8) (tK 10) 3 4]) (.cond (tK 11) .skip (.exit 0))) (.seq (.block 1 (.ops [oM 14 3 123,oM 15 4 3,oM 16 0 121,oM 17 4 3,oI 18 121 16 17,oL 19 159 18 159,oC 20 151 [(tK 19)] [159] 125,oI 21 123 14 15,oS 125 21 20])) (.ops [oM 12 4 3,oB 13 .add 3 (tK 12) (iK 1) 3 3,oA 4 13 3]))
def cO:SC:= .loop TC
def A0i:SC:= .seq (.ops [oX 2 O3 123]) (.seq (.ops [oM 5 0 121,oN 6 5 121,oX 7 (.makeSlice 123 (tK 6) (tK 6)) 123,oA 3 7 123]) (.seq (.seq (.ops [oX 4 (.assign (iK 0)) 3]) (.block 0 cO)) (.seq (.ops [oM 22 3 123,oA 2 22 123]) .ret)))
theorem ow:Try.f111.body.map (Bi lends)=some A0i:=by kernel_rfl
theorem A7k:CL Try.f111 1=true:=by kernel_rfl
theorem ACl{a l:List D}{r:D×List D}(h:CK Y.env A0i (Fx Ac l.length [cc 2] r) (entry a l))(ha:a.length=1):Y.call 111 a l=some r:=
 Ab (Y:=Y) rfl Try.func111 (ha▸A7k) ow h
def GJ(a:IM)(out:IM)(i:Int)(s:St):Prop:=s.v 0=bh 159 (Aw .i64 .i64 a)∧s.v 3=cd 125 (Aw .i64 .i64 out)∧s.v 4=bd .i64 i
def I1(a:IM)(r:IM)(ex:Ex)(s:St):Prop:=ex= .exit 0∧s.v 3=cd 125 (Aw .i64 .i64 r)
theorem TD(a:IM){v:IM×Int}{s:St}{r:IM}(h:KT a v=some r)(hM:GJ a v.1 v.2 s):CK Y.env cO (I1 a r) s:=by
 unfold KT at h;refine Bc (c:=TC) (fun v=>GI a v.1 v.2) (fun v s=>GJ a v.1 v.2 s) (I1 a) ?_ h hM;clear h hM s v r;intro v s o hM h;obtain⟨out,i⟩:=v;dsimp only at h hM;unfold GI at h;unfold GJ at hM;obtain⟨m0,m1,m2⟩:=hM;unfold TC;by_cases e2:i<(a.length:Int)
 ·rw [if_pos e2]at h;obtain⟨e3,h⟩:=Bw h;obtain⟨A0h,hl4,h⟩:=BA h;try dsimp only at h
  have c4:=Wi (BJ a i.toNat) (CG a i.toNat) hl4;obtain⟨e5,h⟩:=Bw h
  obtain rfl:=Option.some.inj h
  simp (maxDischargeDepth:=9) only [↓AP,AR,Ai,↓reduceIte,bj,bk,bl,bm,bo,bp,br,bt,bw,bx,bO,b0,b3,b4,b5,b6,b7,m0,m1,m2,e2,e3.1,e3.2,c4,e5.1,e5.2,GJ,I1,Cm,Cn,Co]<;>(repeat' apply A7)<;>first|rfl|exact⟨_,rfl⟩|exact⟨_,_,rfl⟩|simp [AQ,A8]
 ·rw [if_neg e2]at h
  obtain rfl:=Option.some.inj h
  simp (maxDischargeDepth:=9) only [↓AP,AR,Ai,↓reduceIte,bj,bk,bl,bm,bo,bp,br,bt,bw,bx,bO,b0,b3,b4,b5,b6,b7,m0,m1,m2,e2,GJ,I1,Cm,Cn,Co]<;>(repeat' apply A7)<;>first|rfl|exact⟨_,rfl⟩|exact⟨_,_,rfl⟩|simp [AQ,A8]
theorem Ug(a:IM){r:IM}(h:Ov a=some r):Y.call 111 [bh 159 (Aw .i64 .i64 a)] []=some (cd 125 (Aw .i64 .i64 r),[]):=by
 refine ACl ?_ rfl;unfold A0i;unfold Ov at h;obtain⟨e1,h⟩:=Bw h;obtain⟨AZ,hl3,h⟩:=BA h;try dsimp only at h
 simp (maxDischargeDepth:=9) only [↓AP,AR,Ai,↓reduceIte,bj,bk,bl,bm,bo,bp,br,bt,bw,bx,bO,b0,b3,b4,b5,b6,b7,e1.1,e1.2];refine BM (TD a hl3 ?_) ?_
 ·simp (maxDischargeDepth:=9) only [↓AP,AR,Ai,↓reduceIte,bj,bk,bl,bm,bo,bp,br,bt,bw,bx,bO,b0,b3,b4,b5,b6,b7,e1.1,e1.2,GJ]<;>(repeat' apply A7)<;>first|rfl|exact⟨_,rfl⟩|exact⟨_,_,rfl⟩|simp [AQ,A8]
 ·intro ex3 s3 hX3;unfold I1 at hX3;obtain⟨rfl,n3_0⟩:=hX3
  obtain rfl:=Option.some.inj h
  simp (maxDischargeDepth:=9) only [↓AP,AR,Ai,↓reduceIte,bj,bk,bl,bm,bo,bp,br,bt,bw,bx,bO,b0,b3,b4,b5,b6,b7,e1.1,e1.2,n3_0]<;>(repeat' apply A7)<;>first|rfl|exact⟨_,rfl⟩|exact⟨_,_,rfl⟩|simp [AQ,A8]
theorem Yh(a:IM)(h:a.length<549755813888):Ov a=some a:=by
 have key:=Ce (fun v=>GI a v.1 v.2) (fun i=>(a.take i++ao (a.length-i) (0,0),(i:Int))) a.length a ?_ ?_
 ·unfold Ov KT;rw [Bu (by omega)]
  simp only [List.take_zero,UE,Nat.sub_zero,NV]at key;rw [key];rfl
 ·intro i hi;simp only [GI,R7,Jh];rw [if_pos (Bd hi),Bu (by omega),DT,Bu (by simp;omega),A7i hi,WS a i hi (0,0),Kk i (by omega)]
 ·simp only [GI];rw [if_neg (Ap _)];simp
theorem Yi(a:IM)(h0:a.length<549755813888):Y.call 111 [bh 159 (Aw .i64 .i64 a)] []=some (cd 125 (Aw .i64 .i64 a),[]):=Ug a (Yh a h0)
def FD(a:Ar)(out:Ar)(i:Int):Option ((Ar×Int)⊕(Ar)):= if i<(a.length:Int)then ck (0≤i∧i.toNat<a.length)<| ck ((a.getD i.toNat be).length<549755813888)<| ck (0≤i∧i.toNat<out.length)<| some (cb ((out.set i.toNat (a.getD i.toNat be)),ca.wrap (i+1))) else some (b8 out)
def Jm(a:Ar)(v:Ar×Int):Option (Ar):=Io (fun v=>FD a v.1 v.2) v
def NI(a:Ar):Option (Ar):= ck (0≤(a.length:Int)∧(a.length:Int)<1099511627776)<| (Jm a ((ao a.length ([]:IM)),0)).bind fun AZ=> some AZ
def Wj:SC:= .seq (.seq (.ops [oM 8 4 3,oM 9 0 39,oN 10 9 39,oB 11 .lss 3 (tK 8) (tK 10) 3 4]) (.cond (tK 11) .skip (.exit 0))) (.seq (.block 1 (.ops [oM 14 3 45,oM 15 4 3,oM 16 0 39,oM 17 4 3,oI 18 39 16 17,oL 19 121 18 121,oC 20 111 [(tK 19)] [121] 123,oI 21 45 14 15,oS 123 21 20])) (.ops [oM 12 4 3,oB 13 .add 3 (tK 12) (iK 1) 3 3,oA 4 13 3]))
def lC:SC:= .loop Wj
def k65:SC:= .seq (.ops [oX 2 O3 45]) (.seq (.ops [oM 5 0 39,oN 6 5 39,oX 7 (.makeSlice 45 (tK 6) (tK 6)) 45,oA 3 7 45]) (.seq (.seq (.ops [oX 4 (.assign (iK 0)) 3]) (.block 0 lC)) (.seq (.ops [oM 22 3 45,oA 2 22 45]) .ret)))
theorem A0j:Try.f65.body.map (Bi lends)=some k65:=by kernel_rfl
theorem ACn:CL Try.f65 1=true:=by kernel_rfl
theorem c65{a l:List D}{r:D×List D}(h:CK Y.env k65 (Fx Ac l.length [cc 2] r) (entry a l))(ha:a.length=1):Y.call 65 a l=some r:=
 Ab (Y:=Y) rfl Try.func65 (ha▸ACn) A0j h
def FE(a:Ar)(out:Ar)(i:Int)(s:St):Prop:=s.v 0=bh 121 (AQ (fun x=>bh 159 (Aw .i64 .i64 x)) a)∧s.v 3=cd 123 (AQ (fun x=>cd 125 (Aw .i64 .i64 x)) out)∧s.v 4=bd .i64 i
def Gv(a:Ar)(r:Ar)(ex:Ex)(s:St):Prop:=ex= .exit 0∧s.v 3=cd 123 (AQ (fun x=>cd 125 (Aw .i64 .i64 x)) r)
theorem Qi(a:Ar){v:Ar×Int}{s:St}{r:Ar}(h:Jm a v=some r)(hM:FE a v.1 v.2 s):CK Y.env lC (Gv a r) s:=by
 unfold Jm at h;refine Bc (c:=Wj) (fun v=>FD a v.1 v.2) (fun v s=>FE a v.1 v.2 s) (Gv a) ?_ h hM;clear h hM s v r;intro v s o hM h;obtain⟨out,i⟩:=v;dsimp only at h hM;unfold FD at h;unfold FE at hM;obtain⟨m0,m1,m2⟩:=hM;unfold Wj;by_cases e2:i<(a.length:Int)
 ·rw [if_pos e2]at h;obtain⟨e3,h⟩:=Bw h;obtain⟨e4,h⟩:=Bw h;have c5:=Yi (a.getD i.toNat be) e4;obtain⟨e6,h⟩:=Bw h
  obtain rfl:=Option.some.inj h
  simp (maxDischargeDepth:=9) only [↓AP,AR,Ai,↓reduceIte,bj,bk,bl,bm,bo,bp,br,bt,bw,bx,bO,b0,b3,b4,b5,b6,b7,m0,m1,m2,e2,e3.1,e3.2,e4,c5,e6.1,e6.2,FE,Gv,Cm,Cn,Co]<;>(repeat' apply A7)<;>first|rfl|exact⟨_,rfl⟩|exact⟨_,_,rfl⟩|simp [AQ,A8]
 ·rw [if_neg e2]at h
  obtain rfl:=Option.some.inj h
  simp (maxDischargeDepth:=9) only [↓AP,AR,Ai,↓reduceIte,bj,bk,bl,bm,bo,bp,br,bt,bw,bx,bO,b0,b3,b4,b5,b6,b7,m0,m1,m2,e2,FE,Gv,Cm,Cn,Co]<;>(repeat' apply A7)<;>first|rfl|exact⟨_,rfl⟩|exact⟨_,_,rfl⟩|simp [AQ,A8]
theorem TE(a:Ar){r:Ar}(h:NI a=some r):Y.call 65 [bh 121 (AQ (fun x=>bh 159 (Aw .i64 .i64 x)) a)] []=some (cd 123 (AQ (fun x=>cd 125 (Aw .i64 .i64 x)) r),[]):=by
 refine c65 ?_ rfl;unfold k65;unfold NI at h;obtain⟨e1,h⟩:=Bw h;obtain⟨AZ,hl3,h⟩:=BA h;try dsimp only at h
 simp (maxDischargeDepth:=9) only [↓AP,AR,Ai,↓reduceIte,bj,bk,bl,bm,bo,bp,br,bt,bw,bx,bO,b0,b3,b4,b5,b6,b7,e1.1,e1.2];refine BM (Qi a hl3 ?_) ?_
 ·simp (maxDischargeDepth:=9) only [↓AP,AR,Ai,↓reduceIte,bj,bk,bl,bm,bo,bp,br,bt,bw,bx,bO,b0,b3,b4,b5,b6,b7,e1.1,e1.2,FE]<;>(repeat' apply A7)<;>first|rfl|exact⟨_,rfl⟩|exact⟨_,_,rfl⟩|simp [AQ,A8]
 ·intro ex3 s3 hX3;unfold Gv at hX3;obtain⟨rfl,n3_0⟩:=hX3
  obtain rfl:=Option.some.inj h
  simp (maxDischargeDepth:=9) only [↓AP,AR,Ai,↓reduceIte,bj,bk,bl,bm,bo,bp,br,bt,bw,bx,bO,b0,b3,b4,b5,b6,b7,e1.1,e1.2,n3_0]<;>(repeat' apply A7)<;>first|rfl|exact⟨_,rfl⟩|exact⟨_,_,rfl⟩|simp [AQ,A8]
theorem Wl(a:Ar)(h:DC a):NI a=some a:=by
 have h1:=h.1;have key:=Ce (fun v=>FD a v.1 v.2) (fun i=>(a.take i++ao (a.length-i) [],(i:Int))) a.length a ?_ ?_
 ·unfold NI Jm;rw [Bu (by omega)]
  simp only [List.take_zero,UE,Nat.sub_zero,NV]at key;rw [key];rfl
 ·intro i hi;simp only [FD];rw [if_pos (Bd hi),Bu (Ib hi),Bu (by rw [Ia _ _ hi];exact h.at i hi),Bu (Ib (by simp;omega)),Ia _ _ hi,Jh,WS a i hi [],Kk i (by omega)]
 ·simp only [FD];rw [if_neg (Ap _)];simp
theorem Wm(a:Ar)(h0:DC a):Y.call 65 [bh 121 (AQ (fun x=>bh 159 (Aw .i64 .i64 x)) a)] []=some (cd 123 (AQ (fun x=>cd 125 (Aw .i64 .i64 x)) a),[]):=TE a (Wl a h0)
def KU(Av:Ar)(CQ:AL)(Ay:AL):Option (Ar×AL×AL):= ck (DC Av)<| ck (CQ.length<1099511627776)<| ck (Ay.length<1099511627776)<| some (Av,CQ,Ay)
def k23:SC:= .seq (.ops [oX 1 (.box 41 (tK 0)) 0,oX 2 (.alloc 47) 0]) (.seq (.ops [oX 3 (.alloc 47) 0]) (.seq (.ops [oF 4 41 1 0,oL 5 39 4 39,oC 6 65 [(tK 5)] [39] 45,oF 7 47 3 0,oS 45 7 6]) (.seq (.ops [oF 8 41 1 1,oL 9 26 8 26,oC 10 66 [(tK 9)] [26] 26,oF 11 47 3 1,oS 26 11 10]) (.seq (.ops [oF 12 41 1 2,oL 13 26 12 26,oC 14 66 [(tK 13)] [26] 26,oF 15 47 3 2,oS 26 15 14]) (.seq (.ops [oL 16 47 3 47,oS 47 2 16]) .ret)))))
theorem A0k:Try.f23.body.map (Bi lends)=some k23:=by kernel_rfl
theorem ACp:CL Try.f23 1=true:=by kernel_rfl
theorem c23{a l:List D}{r:D×List D}(h:CK Y.env k23 (Fx Ac l.length [ResultVar.cell 2 47] r) (entry a l))(ha:a.length=1):Y.call 23 a l=some r:=
 Ab (Y:=Y) rfl Try.func23 (ha▸ACp) A0k h
theorem Pp(Av:Ar)(CQ:AL)(Ay:AL){r:Ar×AL×AL}(h:KU Av CQ Ay=some r):Y.call 23 [ce [bh 121 (AQ (fun x=>bh 159 (Aw .i64 .i64 x)) Av),bh 3 (AQ (bd .i64) CQ),bh 3 (AQ (bd .i64) Ay)]] []=some (ce [cd 123 (AQ (fun x=>cd 125 (Aw .i64 .i64 x)) r.1),cd 3 (AQ (bd .i64) r.2.1),cd 3 (AQ (bd .i64) r.2.2)],[]):=by
 refine c23 ?_ rfl;unfold k23;unfold KU at h;obtain⟨e1,h⟩:=Bw h;have c2:=Wm Av e1;obtain⟨e3,h⟩:=Bw h;have c4:=QU CQ e3;obtain⟨e5,h⟩:=Bw h;have c6:=QU Ay e5
 obtain rfl:=Option.some.inj h
 simp (maxDischargeDepth:=9) only [↓AP,AR,Ai,↓reduceIte,bj,bk,bl,bm,bo,bp,br,bt,bw,bx,bO,b0,b3,b4,b5,b6,b7,e1,c2,e3,c4,e5,c6]<;>(repeat' apply A7)<;>first|rfl|exact⟨_,rfl⟩|exact⟨_,_,rfl⟩|simp [AQ,A8]
theorem TF(a:Ar)(b c:AL)(h:DC a)(hb:b.length<1099511627776)(hc:c.length<1099511627776):KU a b c=some (a,b,c):=by
 unfold KU;rw [Bu h,Bu hb,Bu hc]
theorem FF(Av:Ar)(CQ:AL)(Ay:AL)(h0:DC Av)(h1:CQ.length<1099511627776)(h2:Ay.length<1099511627776):Y.call 23 [ce [bh 121 (AQ (fun x=>bh 159 (Aw .i64 .i64 x)) Av),bh 3 (AQ (bd .i64) CQ),bh 3 (AQ (bd .i64) Ay)]] []=some (ce [cd 123 (AQ (fun x=>cd 125 (Aw .i64 .i64 x)) Av),cd 3 (AQ (bd .i64) CQ),cd 3 (AQ (bd .i64) Ay)],[]):=Pp Av CQ Ay (TF Av CQ Ay h0 h1 h2)
def Ow(a_Node:Int)(a_Port:Int)(b_Node:Int)(b_Port:Int):Option (Bool):= if a_Node=b_Node then if a_Port=b_Port then some true else some false else some false
def A0l:SC:= .seq (.ops [oX 2 (.box 125 (tK 0)) 0,oX 3 (.box 125 (tK 1)) 0,oX 4 CJ 4]) (.seq (.seq (.ops [oF 5 125 2 0,oL 6 3 5 3,oF 7 125 3 0,oL 8 3 7 3,oB 9 .neq 3 (tK 6) (tK 8) 3 4]) (.cond (tK 9) (.seq (.ops [oX 4 CJ 4]) .ret) .skip)) (.seq (.seq (.ops [oF 10 125 2 1,oL 11 3 10 3,oF 12 125 3 1,oL 13 3 12 3,oB 14 .neq 3 (tK 11) (tK 13) 3 4]) (.cond (tK 14) (.seq (.ops [oX 4 CJ 4]) .ret) .skip)) (.seq (.ops [oX 4 (.assign FR) 4]) .ret)))
theorem oz:Try.f158.body.map (Bi lends)=some A0l:=by kernel_rfl
theorem A7l:CL Try.f158 2=true:=by kernel_rfl
theorem ACq{a l:List D}{r:D×List D}(h:CK Y.env A0l (Fx Ac l.length [cc 4] r) (entry a l))(ha:a.length=2):Y.call 158 a l=some r:=
 Ab (Y:=Y) rfl Try.func158 (ha▸A7l) oz h
theorem Wn(a_Node:Int)(a_Port:Int)(b_Node:Int)(b_Port:Int){r:Bool}(h:Ow a_Node a_Port b_Node b_Port=some r):Y.call 158 [ce [bd .i64 a_Node,bd .i64 a_Port],ce [bd .i64 b_Node,bd .i64 b_Port]] []=some (b9 r,[]):=by
 refine ACq ?_ rfl;unfold A0l;unfold Ow at h;by_cases e1:a_Node=b_Node
 ·rw [if_pos e1]at h;by_cases e2:a_Port=b_Port
  ·rw [if_pos e2]at h
   obtain rfl:=Option.some.inj h
   simp (maxDischargeDepth:=9) only [↓AP,AR,Ai,↓reduceIte,bj,bk,bl,bm,bo,bp,br,bt,bw,bx,bO,b0,b3,b4,b5,b6,b7,decide_eq_true e1,decide_eq_true e2]<;>(repeat' apply A7)<;>first|rfl|exact⟨_,rfl⟩|exact⟨_,_,rfl⟩|simp [AQ,A8]
  ·rw [if_neg e2]at h
   obtain rfl:=Option.some.inj h
   simp (maxDischargeDepth:=9) only [↓AP,AR,Ai,↓reduceIte,bj,bk,bl,bm,bo,bp,br,bt,bw,bx,bO,b0,b3,b4,b5,b6,b7,decide_eq_true e1,e2]<;>(repeat' apply A7)<;>first|rfl|exact⟨_,rfl⟩|exact⟨_,_,rfl⟩|simp [AQ,A8]
 ·rw [if_neg e1]at h
  obtain rfl:=Option.some.inj h
  simp (maxDischargeDepth:=9) only [↓AP,AR,Ai,↓reduceIte,bj,bk,bl,bm,bo,bp,br,bt,bw,bx,bO,b0,b3,b4,b5,b6,b7,e1]<;>(repeat' apply A7)<;>first|rfl|exact⟨_,rfl⟩|exact⟨_,_,rfl⟩|simp [AQ,A8]
def GK(a:IM)(b:IM)(i:Int):Option ((Int)⊕(Unit⊕Unit)):= if i<(a.length:Int)then ck (0≤i∧i.toNat<a.length)<| ck (0≤i∧i.toNat<b.length)<| (Ow (BJ a i.toNat) (CG a i.toNat) (BJ b i.toNat) (CG b i.toNat)).bind fun Yj=> if Yj=true then some (cb (ca.wrap (i+1))) else some (b8 (cb ())) else some (b8 (b8 ()))
def KV(a:IM)(b:IM)(v:Int):Option (Unit⊕Unit):=Io (fun v=>GK a b v) v
def Ox(a:IM)(b:IM):Option (Bool):=
 if(a.length:Int)=(b.length:Int)then
  (KV a b 0).bind fun AZ=>
  match AZ with
  | .inl q1000_=>
   some false
  | .inr q1000_=>
   some true
 else
  some false
abbrev VW:List Nat:=[17,18,19,20,21,22,23,24,25,26]
def TG:SC:= .seq (.seq (.ops [oM 11 5 3,oM 12 0 123,oN 13 12 123,oB 14 .lss 3 (tK 11) (tK 13) 3 4]) (.cond (tK 14) .skip (.exit 0))) (.seq (.block 1 (.seq (.draws [(⟨[17,0,0],VW,[17]⟩,oM 17 0 123),(⟨[18,5,5],VW,[18]⟩,oM 18 5 3),(⟨[19,17,18,0,5],VW,[19]⟩,oI 19 123 17 18),(⟨[20,19,0],VW,[20]⟩,oL 20 125 19 125),(⟨[21,1,1],VW,[21]⟩,oM 21 1 123),(⟨[22,5,5],VW,[22]⟩,oM 22 5 3),(⟨[23,21,22,1,5],VW,[23]⟩,oI 23 123 21 22),(⟨[24,23,1],VW,[24]⟩,oL 24 125 23 125),(⟨[25,20,24,0,1],VW,[25]⟩,oC 25 158 [(tK 20),(tK 24)] [125,125] 4),(⟨[26,25,25],VW,[26]⟩,oX 26 (.unOp .not 4 (tK 25)) 4)]) (.cond (tK 26) (.seq (.ops [oX 4 CJ 4]) .ret) .skip))) (.ops [oM 15 5 3,oB 16 .add 3 (tK 15) (iK 1) 3 3,oA 5 16 3]))
def cZ:SC:= .loop TG
def A0m:SC:= .seq (.ops [oX 4 CJ 4]) (.seq (.seq (.ops [oM 6 0 123,oN 7 6 123,oM 8 1 123,oN 9 8 123,oB 10 .neq 3 (tK 7) (tK 9) 3 4]) (.cond (tK 10) (.seq (.ops [oX 4 CJ 4]) .ret) .skip)) (.seq (.seq (.ops [oX 5 (.assign (iK 0)) 3]) (.block 0 cZ)) (.seq (.ops [oX 4 (.assign FR) 4]) .ret)))
theorem p8:Try.f126.body.map (Bi lends)=some A0m:=by kernel_rfl
theorem A7m:CL Try.f126 2=true:=by kernel_rfl
theorem ACr{a l:List D}{r:D×List D}(h:CK Y.env A0m (Fx Ac l.length [cc 4] r) (entry a l))(ha:a.length=2):Y.call 126 a l=some r:=
 Ab (Y:=Y) rfl Try.func126 (ha▸A7m) p8 h
def Et(a:IM)(b:IM)(i:Int)(s:St):Prop:=s.v 0=bh 125 (Aw .i64 .i64 a)∧s.v 1=bh 125 (Aw .i64 .i64 b)∧s.v 5=bd .i64 i
def Eu(a:IM)(b:IM)(r:Unit⊕Unit)(ex:Ex)(s:St):Prop:=match r with
 | .inl q=>ex= .ret∧s.v 4=b9 false
 | .inr q=>ex= .exit 0
theorem TH(a:IM)(b:IM){v:Int}{s:St}{r:Unit⊕Unit}(h:KV a b v=some r)(hM:Et a b v s):CK Y.env cZ (Eu a b r) s:=by
 unfold KV at h;refine Bc (c:=TG) (fun v=>GK a b v) (fun v s=>Et a b v s) (Eu a b) ?_ h hM;clear h hM s v r;intro i s o hM h;unfold GK at h;unfold Et at hM;obtain⟨m0,m1,m2⟩:=hM;unfold TG;by_cases e2:i<(a.length:Int)
 ·rw [if_pos e2]at h;obtain⟨e3,h⟩:=Bw h;obtain⟨e4,h⟩:=Bw h;obtain⟨Yj,hl5,h⟩:=BA h;try dsimp only at h
  have c5:=Wn (BJ a i.toNat) (CG a i.toNat) (BJ b i.toNat) (CG b i.toNat) hl5;by_cases e6:Yj=true
  ·rw [if_pos e6]at h
   obtain rfl:=Option.some.inj h
   simp (maxDischargeDepth:=9) only [↓AP,AR,Ai,↓reduceIte,bj,bk,bl,bm,bo,bp,br,bt,bw,bx,bO,b0,b3,b4,b5,b6,b7,m0,m1,m2,e2,e3.1,e3.2,e4.1,e4.2,c5,e6,Et,Eu,Cm,Cn,Co]<;>(repeat' apply A7)<;>first|rfl|exact⟨_,rfl⟩|exact⟨_,_,rfl⟩|simp [AQ,A8]
  ·rw [if_neg e6]at h;have e6f:Yj=false:=JF.mpr e6
   obtain rfl:=Option.some.inj h
   simp (maxDischargeDepth:=9) only [↓AP,AR,Ai,↓reduceIte,bj,bk,bl,bm,bo,bp,br,bt,bw,bx,bO,b0,b3,b4,b5,b6,b7,m0,m1,m2,e2,e3.1,e3.2,e4.1,e4.2,c5,e6f,Et,Eu,Cm,Cn,Co]<;>(repeat' apply A7)<;>first|rfl|exact⟨_,rfl⟩|exact⟨_,_,rfl⟩|simp [AQ,A8]
 ·rw [if_neg e2]at h
  obtain rfl:=Option.some.inj h
  simp (maxDischargeDepth:=9) only [↓AP,AR,Ai,↓reduceIte,bj,bk,bl,bm,bo,bp,br,bt,bw,bx,bO,b0,b3,b4,b5,b6,b7,m0,m1,m2,e2,Et,Eu,Cm,Cn,Co]<;>(repeat' apply A7)<;>first|rfl|exact⟨_,rfl⟩|exact⟨_,_,rfl⟩|simp [AQ,A8]
theorem Uh(a:IM)(b:IM){r:Bool}(h:Ox a b=some r):Y.call 126 [bh 125 (Aw .i64 .i64 a),bh 125 (Aw .i64 .i64 b)] []=some (b9 r,[]):=by
 refine ACr ?_ rfl;unfold A0m;unfold Ox at h;by_cases e1:(a.length:Int)=(b.length:Int)
 ·rw [if_pos e1]at h;obtain⟨AZ,hl3,h⟩:=BA h;try dsimp only at h
  simp (maxDischargeDepth:=9) only [↓AP,AR,Ai,↓reduceIte,bj,bk,bl,bm,bo,bp,br,bt,bw,bx,bO,b0,b3,b4,b5,b6,b7,decide_eq_true e1];refine BM (TH a b hl3 ?_) ?_
  ·simp (maxDischargeDepth:=9) only [↓AP,AR,Ai,↓reduceIte,bj,bk,bl,bm,bo,bp,br,bt,bw,bx,bO,b0,b3,b4,b5,b6,b7,decide_eq_true e1,Et]<;>(repeat' apply A7)<;>first|rfl|exact⟨_,rfl⟩|exact⟨_,_,rfl⟩|simp [AQ,A8]
  ·intro ex3 s3 hX3;rcases AZ with q1000_|q1000_
   ·unfold Eu at hX3;dsimp only at hX3 h;obtain⟨rfl,n3_0⟩:=hX3
    obtain rfl:=Option.some.inj h
    simp (maxDischargeDepth:=9) only [↓AP,AR,Ai,↓reduceIte,bj,bk,bl,bm,bo,bp,br,bt,bw,bx,bO,b0,b3,b4,b5,b6,b7,decide_eq_true e1,n3_0]<;>(repeat' apply A7)<;>first|rfl|exact⟨_,rfl⟩|exact⟨_,_,rfl⟩|simp [AQ,A8]
   ·unfold Eu at hX3;dsimp only at hX3 h
    obtain rfl:=hX3
    obtain rfl:=Option.some.inj h
    simp (maxDischargeDepth:=9) only [↓AP,AR,Ai,↓reduceIte,bj,bk,bl,bm,bo,bp,br,bt,bw,bx,bO,b0,b3,b4,b5,b6,b7,decide_eq_true e1]<;>(repeat' apply A7)<;>first|rfl|exact⟨_,rfl⟩|exact⟨_,_,rfl⟩|simp [AQ,A8]
 ·rw [if_neg e1]at h
  obtain rfl:=Option.some.inj h
  simp (maxDischargeDepth:=9) only [↓AP,AR,Ai,↓reduceIte,bj,bk,bl,bm,bo,bp,br,bt,bw,bx,bO,b0,b3,b4,b5,b6,b7,e1]<;>(repeat' apply A7)<;>first|rfl|exact⟨_,rfl⟩|exact⟨_,_,rfl⟩|simp [AQ,A8]
theorem af(a b c d:Int):Ow a b c d=some (decide ((a,b)=(c,d))):=by
 unfold Ow;by_cases h1:a=c<;>by_cases h2:b=d<;>simp [h1,h2]
theorem Yk(a b:IM)(ha:a.length<549755813888):Ox a b=some (decide (a=b)):=by
 unfold Ox KV;by_cases hl:a.length=b.length
 ·rw [if_pos (by omega)]
  have key:=IA (fun v=>GK a b v) (fun i=>(i:Int)) a.length (fun i=>decide (a.getD i be=b.getD i be)) (.inl ()) (.inr ()) ?_ ?_
  ·simp only [NV]at key;rw [key,Sn a b hl];by_cases he:a=b<;>simp [he]
  ·intro i hi;simp only [GK,Jh];rw [if_pos (Bd hi),Bu (by omega),Bu (by omega),af,DT,Kk i (by omega)]
   rfl
  ·simp only [GK];rw [if_neg (Ap _)]
 ·rw [if_neg (by omega)]
  have: ¬a=b:=fun e=>hl (by rw [e])
  simp [this]
theorem Yl(a:IM)(b:IM)(h0:a.length<549755813888):Y.call 126 [bh 125 (Aw .i64 .i64 a),bh 125 (Aw .i64 .i64 b)] []=some (b9 (decide (a=b)),[]):=Uh a b (Yk a b h0)
def FH(a:Ar)(b:Ar)(i:Int):Option ((Int)⊕(Unit⊕Unit)):= if i<(a.length:Int)then ck (0≤i∧i.toNat<a.length)<| ck (0≤i∧i.toNat<b.length)<| ck ((a.getD i.toNat be).length<549755813888)<| if(decide ((a.getD i.toNat be)=(b.getD i.toNat be)))=true then some (cb (ca.wrap (i+1))) else some (b8 (cb ())) else some (b8 (b8 ()))
def Jn(a:Ar)(b:Ar)(v:Int):Option (Unit⊕Unit):=Io (fun v=>FH a b v) v
def NJ(a:Ar)(b:Ar):Option (Bool):=
 if(a.length:Int)=(b.length:Int)then
  (Jn a b 0).bind fun AZ=>
  match AZ with
  | .inl q1000_=>
   some false
  | .inr q1000_=>
   some true
 else
  some false
def Wo:SC:= .seq (.seq (.ops [oM 11 5 3,oM 12 0 45,oN 13 12 45,oB 14 .lss 3 (tK 11) (tK 13) 3 4]) (.cond (tK 14) .skip (.exit 0))) (.seq (.block 1 (.seq (.draws [(⟨[17,0,0],VW,[17]⟩,oM 17 0 45),(⟨[18,5,5],VW,[18]⟩,oM 18 5 3),(⟨[19,17,18,0,5],VW,[19]⟩,oI 19 45 17 18),(⟨[20,19,0],VW,[20]⟩,oL 20 123 19 123),(⟨[21,1,1],VW,[21]⟩,oM 21 1 45),(⟨[22,5,5],VW,[22]⟩,oM 22 5 3),(⟨[23,21,22,1,5],VW,[23]⟩,oI 23 45 21 22),(⟨[24,23,1],VW,[24]⟩,oL 24 123 23 123),(⟨[25,20,24,0,1],VW,[25]⟩,oC 25 126 [(tK 20),(tK 24)] [123,123] 4),(⟨[26,25,25],VW,[26]⟩,oX 26 (.unOp .not 4 (tK 25)) 4)]) (.cond (tK 26) (.seq (.ops [oX 4 CJ 4]) .ret) .skip))) (.ops [oM 15 5 3,oB 16 .add 3 (tK 15) (iK 1) 3 3,oA 5 16 3]))
def lD:SC:= .loop Wo
def k73:SC:= .seq (.ops [oX 4 CJ 4]) (.seq (.seq (.ops [oM 6 0 45,oN 7 6 45,oM 8 1 45,oN 9 8 45,oB 10 .neq 3 (tK 7) (tK 9) 3 4]) (.cond (tK 10) (.seq (.ops [oX 4 CJ 4]) .ret) .skip)) (.seq (.seq (.ops [oX 5 (.assign (iK 0)) 3]) (.block 0 lD)) (.seq (.ops [oX 4 (.assign FR) 4]) .ret)))
theorem A0n:Try.f73.body.map (Bi lends)=some k73:=by kernel_rfl
theorem ACt:CL Try.f73 2=true:=by kernel_rfl
theorem c73{a l:List D}{r:D×List D}(h:CK Y.env k73 (Fx Ac l.length [cc 4] r) (entry a l))(ha:a.length=2):Y.call 73 a l=some r:=
 Ab (Y:=Y) rfl Try.func73 (ha▸ACt) A0n h
def ES(a:Ar)(b:Ar)(i:Int)(s:St):Prop:=s.v 0=bh 123 (AQ (fun x=>bh 125 (Aw .i64 .i64 x)) a)∧s.v 1=bh 123 (AQ (fun x=>bh 125 (Aw .i64 .i64 x)) b)∧s.v 5=bd .i64 i
def ET(a:Ar)(b:Ar)(r:Unit⊕Unit)(ex:Ex)(s:St):Prop:=match r with
 | .inl q=>ex= .ret∧s.v 4=b9 false
 | .inr q=>ex= .exit 0
theorem Qj(a:Ar)(b:Ar){v:Int}{s:St}{r:Unit⊕Unit}(h:Jn a b v=some r)(hM:ES a b v s):CK Y.env lD (ET a b r) s:=by
 unfold Jn at h;refine Bc (c:=Wo) (fun v=>FH a b v) (fun v s=>ES a b v s) (ET a b) ?_ h hM;clear h hM s v r;intro i s o hM h;unfold FH at h;unfold ES at hM;obtain⟨m0,m1,m2⟩:=hM;unfold Wo;by_cases e2:i<(a.length:Int)
 ·rw [if_pos e2]at h;obtain⟨e3,h⟩:=Bw h;obtain⟨e4,h⟩:=Bw h;obtain⟨e5,h⟩:=Bw h;have c6:=Yl (a.getD i.toNat be) (b.getD i.toNat be) e5;by_cases e7:(decide ((a.getD i.toNat be)=(b.getD i.toNat be)))=true
  ·rw [if_pos e7]at h
   obtain rfl:=Option.some.inj h
   simp (maxDischargeDepth:=9) only [↓AP,AR,Ai,↓reduceIte,bj,bk,bl,bm,bo,bp,br,bt,bw,bx,bO,b0,b3,b4,b5,b6,b7,m0,m1,m2,e2,e3.1,e3.2,e4.1,e4.2,e5,c6,e7,ES,ET,Cm,Cn,Co]<;>(repeat' apply A7)<;>first|rfl|exact⟨_,rfl⟩|exact⟨_,_,rfl⟩|simp [AQ,A8]
  ·rw [if_neg e7]at h;have e7f:(decide ((a.getD i.toNat be)=(b.getD i.toNat be)))=false:=JF.mpr e7
   obtain rfl:=Option.some.inj h
   simp (maxDischargeDepth:=9) only [↓AP,AR,Ai,↓reduceIte,bj,bk,bl,bm,bo,bp,br,bt,bw,bx,bO,b0,b3,b4,b5,b6,b7,m0,m1,m2,e2,e3.1,e3.2,e4.1,e4.2,e5,c6,e7f,ES,ET,Cm,Cn,Co]<;>(repeat' apply A7)<;>first|rfl|exact⟨_,rfl⟩|exact⟨_,_,rfl⟩|simp [AQ,A8]
 ·rw [if_neg e2]at h
  obtain rfl:=Option.some.inj h
  simp (maxDischargeDepth:=9) only [↓AP,AR,Ai,↓reduceIte,bj,bk,bl,bm,bo,bp,br,bt,bw,bx,bO,b0,b3,b4,b5,b6,b7,m0,m1,m2,e2,ES,ET,Cm,Cn,Co]<;>(repeat' apply A7)<;>first|rfl|exact⟨_,rfl⟩|exact⟨_,_,rfl⟩|simp [AQ,A8]
theorem TI(a:Ar)(b:Ar){r:Bool}(h:NJ a b=some r):Y.call 73 [bh 123 (AQ (fun x=>bh 125 (Aw .i64 .i64 x)) a),bh 123 (AQ (fun x=>bh 125 (Aw .i64 .i64 x)) b)] []=some (b9 r,[]):=by
 refine c73 ?_ rfl;unfold k73;unfold NJ at h;by_cases e1:(a.length:Int)=(b.length:Int)
 ·rw [if_pos e1]at h;obtain⟨AZ,hl3,h⟩:=BA h;try dsimp only at h
  simp (maxDischargeDepth:=9) only [↓AP,AR,Ai,↓reduceIte,bj,bk,bl,bm,bo,bp,br,bt,bw,bx,bO,b0,b3,b4,b5,b6,b7,decide_eq_true e1];refine BM (Qj a b hl3 ?_) ?_
  ·simp (maxDischargeDepth:=9) only [↓AP,AR,Ai,↓reduceIte,bj,bk,bl,bm,bo,bp,br,bt,bw,bx,bO,b0,b3,b4,b5,b6,b7,decide_eq_true e1,ES]<;>(repeat' apply A7)<;>first|rfl|exact⟨_,rfl⟩|exact⟨_,_,rfl⟩|simp [AQ,A8]
  ·intro ex3 s3 hX3;rcases AZ with q1000_|q1000_
   ·unfold ET at hX3;dsimp only at hX3 h;obtain⟨rfl,n3_0⟩:=hX3
    obtain rfl:=Option.some.inj h
    simp (maxDischargeDepth:=9) only [↓AP,AR,Ai,↓reduceIte,bj,bk,bl,bm,bo,bp,br,bt,bw,bx,bO,b0,b3,b4,b5,b6,b7,decide_eq_true e1,n3_0]<;>(repeat' apply A7)<;>first|rfl|exact⟨_,rfl⟩|exact⟨_,_,rfl⟩|simp [AQ,A8]
   ·unfold ET at hX3;dsimp only at hX3 h
    obtain rfl:=hX3
    obtain rfl:=Option.some.inj h
    simp (maxDischargeDepth:=9) only [↓AP,AR,Ai,↓reduceIte,bj,bk,bl,bm,bo,bp,br,bt,bw,bx,bO,b0,b3,b4,b5,b6,b7,decide_eq_true e1]<;>(repeat' apply A7)<;>first|rfl|exact⟨_,rfl⟩|exact⟨_,_,rfl⟩|simp [AQ,A8]
 ·rw [if_neg e1]at h
  obtain rfl:=Option.some.inj h
  simp (maxDischargeDepth:=9) only [↓AP,AR,Ai,↓reduceIte,bj,bk,bl,bm,bo,bp,br,bt,bw,bx,bO,b0,b3,b4,b5,b6,b7,e1]<;>(repeat' apply A7)<;>first|rfl|exact⟨_,rfl⟩|exact⟨_,_,rfl⟩|simp [AQ,A8]
theorem Wp(a b:Ar)(ha:DC a):NJ a b=some (decide (a=b)):=by
 have h1:=ha.1;unfold NJ Jn;by_cases hl:a.length=b.length
 ·rw [if_pos (by omega)]
  have key:=IA (fun v=>FH a b v) (fun i=>(i:Int)) a.length (fun i=>decide (a.getD i be=b.getD i be)) (.inl ()) (.inr ()) ?_ ?_
  ·simp only [NV]at key;rw [key,Sn a b hl];by_cases he:a=b<;>simp [he]
  ·intro i hi;simp only [FH];rw [if_pos (Bd hi),Bu (Ib hi),Bu (Ib (by omega)),Bu (by rw [Ia _ _ hi];exact ha.at i hi),Jh,Kk i (by omega)]<;>simp only [decide_eq_true_eq]
  ·simp only [FH];rw [if_neg (Ap _)]
 ·rw [if_neg (by omega)]
  have: ¬a=b:=fun e=>hl (by rw [e])
  simp [this]
theorem Wq(a:Ar)(b:Ar)(h0:DC a):Y.call 73 [bh 123 (AQ (fun x=>bh 125 (Aw .i64 .i64 x)) a),bh 123 (AQ (fun x=>bh 125 (Aw .i64 .i64 x)) b)] []=some (b9 (decide (a=b)),[]):=TI a b (Wp a b h0)
def KW(Av:Ar)(CQ:AL)(Ay:AL)(Jd:Ar)(MC:AL)(Fy:AL):Option (Bool):= ck (DC Av)<| if(decide (Av=Jd))=true then ck (CQ.length<1099511627776)<| if(decide (CQ=MC))=true then ck (Ay.length<1099511627776)<| if(decide (Ay=Fy))=true then some true else some false else some false else some false
def k25:SC:= .seq (.ops [oX 2 (.box 47 (tK 0)) 0,oX 3 (.box 47 (tK 1)) 0,oX 4 CJ 4]) (.seq (.seq (.ops [oF 5 47 2 0,oL 6 45 5 45,oF 7 47 3 0,oL 8 45 7 45,oC 9 73 [(tK 6),(tK 8)] [45,45] 4,oX 10 (.unOp .not 4 (tK 9)) 4]) (.cond (tK 10) (.seq (.ops [oX 4 CJ 4]) .ret) .skip)) (.seq (.seq (.ops [oF 11 47 2 1,oL 12 26 11 26,oF 13 47 3 1,oL 14 26 13 26,oC 15 14 [(tK 12),(tK 14)] [26,26] 4,oX 16 (.unOp .not 4 (tK 15)) 4]) (.cond (tK 16) (.seq (.ops [oX 4 CJ 4]) .ret) .skip)) (.seq (.seq (.ops [oF 17 47 2 2,oL 18 26 17 26,oF 19 47 3 2,oL 20 26 19 26,oC 21 14 [(tK 18),(tK 20)] [26,26] 4,oX 22 (.unOp .not 4 (tK 21)) 4]) (.cond (tK 22) (.seq (.ops [oX 4 CJ 4]) .ret) .skip)) (.seq (.ops [oX 4 (.assign FR) 4]) .ret))))
theorem A0o:Try.f25.body.map (Bi lends)=some k25:=by kernel_rfl
theorem ACv:CL Try.f25 2=true:=by kernel_rfl
theorem c25{a l:List D}{r:D×List D}(h:CK Y.env k25 (Fx Ac l.length [cc 4] r) (entry a l))(ha:a.length=2):Y.call 25 a l=some r:=
 Ab (Y:=Y) rfl Try.func25 (ha▸ACv) A0o h
theorem Pq(Av:Ar)(CQ:AL)(Ay:AL)(Jd:Ar)(MC:AL)(Fy:AL){r:Bool}(h:KW Av CQ Ay Jd MC Fy=some r):Y.call 25 [ce [bh 123 (AQ (fun x=>bh 125 (Aw .i64 .i64 x)) Av),bh 3 (AQ (bd .i64) CQ),bh 3 (AQ (bd .i64) Ay)],ce [bh 123 (AQ (fun x=>bh 125 (Aw .i64 .i64 x)) Jd),bh 3 (AQ (bd .i64) MC),bh 3 (AQ (bd .i64) Fy)]] []=some (b9 r,[]):=by
 refine c25 ?_ rfl;unfold k25;unfold KW at h;obtain⟨e1,h⟩:=Bw h;have c2:=Wq Av Jd e1;by_cases e3:(decide (Av=Jd))=true
 ·rw [if_pos e3]at h;obtain⟨e4,h⟩:=Bw h;have c5:=QV CQ MC e4;by_cases e6:(decide (CQ=MC))=true
  ·rw [if_pos e6]at h;obtain⟨e7,h⟩:=Bw h;have c8:=QV Ay Fy e7;by_cases e9:(decide (Ay=Fy))=true
   ·rw [if_pos e9]at h
    obtain rfl:=Option.some.inj h
    simp (maxDischargeDepth:=9) only [↓AP,AR,Ai,↓reduceIte,bj,bk,bl,bm,bo,bp,br,bt,bw,bx,bO,b0,b3,b4,b5,b6,b7,e1,c2,e3,e4,c5,e6,e7,c8,e9]<;>(repeat' apply A7)<;>first|rfl|exact⟨_,rfl⟩|exact⟨_,_,rfl⟩|simp [AQ,A8]
   ·rw [if_neg e9]at h;have e9f:(decide (Ay=Fy))=false:=JF.mpr e9
    obtain rfl:=Option.some.inj h
    simp (maxDischargeDepth:=9) only [↓AP,AR,Ai,↓reduceIte,bj,bk,bl,bm,bo,bp,br,bt,bw,bx,bO,b0,b3,b4,b5,b6,b7,e1,c2,e3,e4,c5,e6,e7,c8,e9f]<;>(repeat' apply A7)<;>first|rfl|exact⟨_,rfl⟩|exact⟨_,_,rfl⟩|simp [AQ,A8]
  ·rw [if_neg e6]at h;have e6f:(decide (CQ=MC))=false:=JF.mpr e6
   obtain rfl:=Option.some.inj h
   simp (maxDischargeDepth:=9) only [↓AP,AR,Ai,↓reduceIte,bj,bk,bl,bm,bo,bp,br,bt,bw,bx,bO,b0,b3,b4,b5,b6,b7,e1,c2,e3,e4,c5,e6f]<;>(repeat' apply A7)<;>first|rfl|exact⟨_,rfl⟩|exact⟨_,_,rfl⟩|simp [AQ,A8]
 ·rw [if_neg e3]at h;have e3f:(decide (Av=Jd))=false:=JF.mpr e3
  obtain rfl:=Option.some.inj h
  simp (maxDischargeDepth:=9) only [↓AP,AR,Ai,↓reduceIte,bj,bk,bl,bm,bo,bp,br,bt,bw,bx,bO,b0,b3,b4,b5,b6,b7,e1,c2,e3f]<;>(repeat' apply A7)<;>first|rfl|exact⟨_,rfl⟩|exact⟨_,_,rfl⟩|simp [AQ,A8]
def JN(a:Ar)(b c:AL)(a':Ar)(b' c':AL):Bool:=decide (a=a'∧b=b'∧c=c')
theorem ah(a:Ar)(b c:AL):JN a b c a b c=true:=by simp [JN]
theorem TJ(a:Ar)(b c:AL)(a':Ar)(b' c':AL)(h:DC a)(hb:b.length<1099511627776)(hc:c.length<1099511627776):KW a b c a' b' c'=some (JN a b c a' b' c'):=by
 unfold KW JN;rw [Bu h,Bu hb,Bu hc];by_cases h1:a=a'<;>by_cases h2:b=b'<;>by_cases h3:c=c'<;>simp [h1,h2,h3]
theorem Ie(Av:Ar)(CQ:AL)(Ay:AL)(Jd:Ar)(MC:AL)(Fy:AL)(h0:DC Av)(h1:CQ.length<1099511627776)(h2:Ay.length<1099511627776):Y.call 25 [ce [bh 123 (AQ (fun x=>bh 125 (Aw .i64 .i64 x)) Av),bh 3 (AQ (bd .i64) CQ),bh 3 (AQ (bd .i64) Ay)],ce [bh 123 (AQ (fun x=>bh 125 (Aw .i64 .i64 x)) Jd),bh 3 (AQ (bd .i64) MC),bh 3 (AQ (bd .i64) Fy)]] []=some (b9 (JN Av CQ Ay Jd MC Fy),[]):=Pq Av CQ Ay Jd MC Fy (TJ Av CQ Ay Jd MC Fy h0 h1 h2)
def Oy(a:IM)(left:Int):Option (Int):= if(ca.wrap (left-(a.length:Int)))<0 then some (-1) else some (ca.wrap (left-(a.length:Int)))
def A0p:SC:= .seq (.ops [oX 4 (.assign (iK 0)) 3]) (.seq (.ops [oM 5 1 3,oM 6 0 121,oN 7 6 121,oB 8 .sub 3 (tK 5) (tK 7) 3 3,oA 1 8 3]) (.seq (.seq (.ops [oM 9 1 3,oB 10 .lss 3 (tK 9) (iK 0) 3 4]) (.cond (tK 10) (.seq (.ops [oX 4 O4 3]) .ret) .skip)) (.seq (.ops [oM 11 1 3,oA 4 11 3]) .ret)))
theorem p9:Try.f105.body.map (Bi lends)=some A0p:=by kernel_rfl
theorem A7n:CL Try.f105 2=true:=by kernel_rfl
theorem ACw{a l:List D}{r:D×List D}(h:CK Y.env A0p (Fx Ac l.length [cc 4] r) (entry a l))(ha:a.length=2):Y.call 105 a l=some r:=
 Ab (Y:=Y) rfl Try.func105 (ha▸A7n) p9 h
theorem Ui(a:IM)(left:Int){r:Int}(h:Oy a left=some r):Y.call 105 [bh 159 (Aw .i64 .i64 a),bd .i64 left] []=some (bd .i64 r,[]):=by
 refine ACw ?_ rfl;unfold A0p;unfold Oy at h;by_cases e1:(ca.wrap (left-(a.length:Int)))<0
 ·rw [if_pos e1]at h
  obtain rfl:=Option.some.inj h
  simp (maxDischargeDepth:=9) only [↓AP,AR,Ai,↓reduceIte,bj,bk,bl,bm,bo,bp,br,bt,bw,bx,bO,b0,b3,b4,b5,b6,b7,e1]<;>(repeat' apply A7)<;>first|rfl|exact⟨_,rfl⟩|exact⟨_,_,rfl⟩|simp [AQ,A8]
 ·rw [if_neg e1]at h
  obtain rfl:=Option.some.inj h
  simp (maxDischargeDepth:=9) only [↓AP,AR,Ai,↓reduceIte,bj,bk,bl,bm,bo,bp,br,bt,bw,bx,bO,b0,b3,b4,b5,b6,b7,e1]<;>(repeat' apply A7)<;>first|rfl|exact⟨_,rfl⟩|exact⟨_,_,rfl⟩|simp [AQ,A8]
theorem Ym(a:IM)(left:Int)(ha:a.length<9223372036854775808)(hl:0≤left∧left≤1048576):Oy a left=some (Gm left a.length):=by
 unfold Oy Gm;rw [L8 _ (by omega)]
 split<;>rfl
theorem Yn(a:IM)(left:Int)(h0:a.length<9223372036854775808)(h1:0≤left∧left≤1048576):Y.call 105 [bh 159 (Aw .i64 .i64 a),bd .i64 left] []=some (bd .i64 (Gm left a.length),[]):=Ui a left (Ym a left h0 h1)
def FI(a:Ar)(left1:Int)(i:Int):Option ((Int×Int)⊕(Unit⊕Int)):= if i<(a.length:Int)then ck (0≤i∧i.toNat<a.length)<| ck ((a.getD i.toNat be).length<9223372036854775808)<| ck (0≤left1∧left1≤1048576)<| if(Gm left1 (a.getD i.toNat be).length)<0 then some (b8 (cb ())) else some (cb ((Gm left1 (a.getD i.toNat be).length),ca.wrap (i+1))) else some (b8 (b8 left1))
def Fh(a:Ar)(v:Int×Int):Option (Unit⊕Int):=Io (fun v=>FI a v.1 v.2) v
def NK(a:Ar)(left:Int):Option (Int):=
 if(ca.wrap (left-(a.length:Int)))<0 then
  some (-1)
 else
  (Fh a (ca.wrap (left-(a.length:Int)),0)).bind fun AZ=>
  match AZ with
  | .inl q1000_=>
   some (-1)
  | .inr q1000_=>
   some q1000_
def Ws:SC:= .seq (.seq (.ops [oM 12 5 3,oM 13 0 39,oN 14 13 39,oB 15 .lss 3 (tK 12) (tK 14) 3 4]) (.cond (tK 15) .skip (.exit 0))) (.seq (.block 1 (.seq (.ops [oM 18 0 39,oM 19 5 3,oI 20 39 18 19,oL 21 121 20 121,oM 22 1 3,oC 23 105 [(tK 21),(tK 22)] [121,3] 3,oA 1 23 3]) (.seq (.ops [oM 24 1 3,oB 25 .lss 3 (tK 24) (iK 0) 3 4]) (.cond (tK 25) (.seq (.ops [oX 4 O4 3]) .ret) .skip)))) (.ops [oM 16 5 3,oB 17 .add 3 (tK 16) (iK 1) 3 3,oA 5 17 3]))
def lF:SC:= .loop Ws
def k58:SC:= .seq (.ops [oX 4 (.assign (iK 0)) 3]) (.seq (.ops [oM 6 1 3,oM 7 0 39,oN 8 7 39,oB 9 .sub 3 (tK 6) (tK 8) 3 3,oA 1 9 3]) (.seq (.seq (.ops [oM 10 1 3,oB 11 .lss 3 (tK 10) (iK 0) 3 4]) (.cond (tK 11) (.seq (.ops [oX 4 O4 3]) .ret) .skip)) (.seq (.seq (.ops [oX 5 (.assign (iK 0)) 3]) (.block 0 lF)) (.seq (.ops [oM 26 1 3,oA 4 26 3]) .ret))))
theorem A0q:Try.f58.body.map (Bi lends)=some k58:=by kernel_rfl
theorem ACy:CL Try.f58 2=true:=by kernel_rfl
theorem c58{a l:List D}{r:D×List D}(h:CK Y.env k58 (Fx Ac l.length [cc 4] r) (entry a l))(ha:a.length=2):Y.call 58 a l=some r:=
 Ab (Y:=Y) rfl Try.func58 (ha▸ACy) A0q h
def EU(a:Ar)(left1:Int)(i:Int)(s:St):Prop:=s.v 0=bh 121 (AQ (fun x=>bh 159 (Aw .i64 .i64 x)) a)∧s.v 1=bd .i64 left1∧s.v 5=bd .i64 i
def EW(a:Ar)(r:Unit⊕Int)(ex:Ex)(s:St):Prop:=match r with
 | .inl q=>ex= .ret∧s.v 4=bd .i64 (-1)
 | .inr q=>ex= .exit 0∧s.v 1=bd .i64 q
theorem Qk(a:Ar){v:Int×Int}{s:St}{r:Unit⊕Int}(h:Fh a v=some r)(hM:EU a v.1 v.2 s):CK Y.env lF (EW a r) s:=by
 unfold Fh at h;refine Bc (c:=Ws) (fun v=>FI a v.1 v.2) (fun v s=>EU a v.1 v.2 s) (EW a) ?_ h hM;clear h hM s v r;intro v s o hM h;obtain⟨left1,i⟩:=v;dsimp only at h hM;unfold FI at h;unfold EU at hM;obtain⟨m0,m1,m2⟩:=hM;unfold Ws;by_cases e2:i<(a.length:Int)
 ·rw [if_pos e2]at h;obtain⟨e3,h⟩:=Bw h;obtain⟨e4,h⟩:=Bw h;obtain⟨e5,h⟩:=Bw h;have c6:=Yn (a.getD i.toNat be) left1 e4 e5;by_cases e7:(Gm left1 (a.getD i.toNat be).length)<0
  ·rw [if_pos e7]at h
   obtain rfl:=Option.some.inj h
   simp (maxDischargeDepth:=9) only [↓AP,AR,Ai,↓reduceIte,bj,bk,bl,bm,bo,bp,br,bt,bw,bx,bO,b0,b3,b4,b5,b6,b7,m0,m1,m2,e2,e3.1,e3.2,e4,e5.1,e5.2,c6,e7,EU,EW,Cm,Cn,Co]<;>(repeat' apply A7)<;>first|rfl|exact⟨_,rfl⟩|exact⟨_,_,rfl⟩|simp [AQ,A8]
  ·rw [if_neg e7]at h
   obtain rfl:=Option.some.inj h
   simp (maxDischargeDepth:=9) only [↓AP,AR,Ai,↓reduceIte,bj,bk,bl,bm,bo,bp,br,bt,bw,bx,bO,b0,b3,b4,b5,b6,b7,m0,m1,m2,e2,e3.1,e3.2,e4,e5.1,e5.2,c6,e7,EU,EW,Cm,Cn,Co]<;>(repeat' apply A7)<;>first|rfl|exact⟨_,rfl⟩|exact⟨_,_,rfl⟩|simp [AQ,A8]
 ·rw [if_neg e2]at h
  obtain rfl:=Option.some.inj h
  simp (maxDischargeDepth:=9) only [↓AP,AR,Ai,↓reduceIte,bj,bk,bl,bm,bo,bp,br,bt,bw,bx,bO,b0,b3,b4,b5,b6,b7,m0,m1,m2,e2,EU,EW,Cm,Cn,Co]<;>(repeat' apply A7)<;>first|rfl|exact⟨_,rfl⟩|exact⟨_,_,rfl⟩|simp [AQ,A8]
theorem TK(a:Ar)(left:Int){r:Int}(h:NK a left=some r):Y.call 58 [bh 121 (AQ (fun x=>bh 159 (Aw .i64 .i64 x)) a),bd .i64 left] []=some (bd .i64 r,[]):=by
 refine c58 ?_ rfl;unfold k58;unfold NK at h;by_cases e1:(ca.wrap (left-(a.length:Int)))<0
 ·rw [if_pos e1]at h
  obtain rfl:=Option.some.inj h
  simp (maxDischargeDepth:=9) only [↓AP,AR,Ai,↓reduceIte,bj,bk,bl,bm,bo,bp,br,bt,bw,bx,bO,b0,b3,b4,b5,b6,b7,e1]<;>(repeat' apply A7)<;>first|rfl|exact⟨_,rfl⟩|exact⟨_,_,rfl⟩|simp [AQ,A8]
 ·rw [if_neg e1]at h;obtain⟨AZ,hl3,h⟩:=BA h;try dsimp only at h
  simp (maxDischargeDepth:=9) only [↓AP,AR,Ai,↓reduceIte,bj,bk,bl,bm,bo,bp,br,bt,bw,bx,bO,b0,b3,b4,b5,b6,b7,e1];refine BM (Qk a hl3 ?_) ?_
  ·simp (maxDischargeDepth:=9) only [↓AP,AR,Ai,↓reduceIte,bj,bk,bl,bm,bo,bp,br,bt,bw,bx,bO,b0,b3,b4,b5,b6,b7,e1,EU]<;>(repeat' apply A7)<;>first|rfl|exact⟨_,rfl⟩|exact⟨_,_,rfl⟩|simp [AQ,A8]
  ·intro ex3 s3 hX3;rcases AZ with q1000_|q1000_
   ·unfold EW at hX3;dsimp only at hX3 h;obtain⟨rfl,n3_0⟩:=hX3
    obtain rfl:=Option.some.inj h
    simp (maxDischargeDepth:=9) only [↓AP,AR,Ai,↓reduceIte,bj,bk,bl,bm,bo,bp,br,bt,bw,bx,bO,b0,b3,b4,b5,b6,b7,e1,n3_0]<;>(repeat' apply A7)<;>first|rfl|exact⟨_,rfl⟩|exact⟨_,_,rfl⟩|simp [AQ,A8]
   ·unfold EW at hX3;dsimp only at hX3 h;obtain⟨rfl,n3_0⟩:=hX3
    obtain rfl:=Option.some.inj h
    simp (maxDischargeDepth:=9) only [↓AP,AR,Ai,↓reduceIte,bj,bk,bl,bm,bo,bp,br,bt,bw,bx,bO,b0,b3,b4,b5,b6,b7,e1,n3_0]<;>(repeat' apply A7)<;>first|rfl|exact⟨_,rfl⟩|exact⟨_,_,rfl⟩|simp [AQ,A8]
def fE(l:Ar):Z6:=l.map fun x=>x.map Prod.fst
theorem Ql(a:Ar)(ha:a.length<4611686018427387904)(hx: ∀x∈a,x.length<9223372036854775808): ∀(n i:Nat) (left:Int),n=a.length-i→i≤a.length→0≤left∧left≤1048576→
  Fh a (left,(i:Int))=some (if yI left (fE (a.drop i))= -1 then .inl ()else .inr (yI left (fE (a.drop i)))):=by
 intro n
 induction n with
 |zero=>
  intro i left hn hi hl;have e:i=a.length:=by omega
  subst e;unfold Fh;rw [R4 (r:=b8 left)]
  ·rw [List.drop_length,show fE []=[]from rfl];unfold yI;rw [if_neg (by omega)]
  ·simp only [FI];rw [if_neg (Ap _)]
 |succ n ih=>
  intro i left hn hi hl;have hlt:i<a.length:=by omega
  have hm:a[i]∈a:=JH hlt;have hxm:=hx _ hm
  have step:FI a left i=if Gm left a[i].length<0 then some (b8 (cb ()))else some (cb (Gm left a[i].length,((i+1:Nat):Int))):=by
   unfold FI;rw [if_pos (Bd hlt),Bu (Ib hlt),Bu (by rw [Ia _ _ hlt];exact hxm),Bu hl,Ia _ _ hlt,Kk i (by omega)]
  rw [List.drop_eq_getElem_cons hlt,show fE (a[i]::a.drop (i+1))=a[i].map Prod.fst::fE (a.drop (i+1))from rfl];unfold yI;rw [QY];by_cases hq:left-(a[i].length:Int)<0
  ·rw [if_pos hq];unfold Fh;rw [R4 (r:=cb ())]
   ·rfl
   ·rw [step];unfold Gm;rw [if_pos hq];rfl
  ·rw [if_neg hq];have e2:Gm left a[i].length=left-a[i].length:=by unfold Gm;rw [if_neg hq]
   have:=ih (i+1) (left-a[i].length) (by omega) (by omega) (by omega)
   unfold Fh at this ⊢;rw [WP (s':=(left-(a[i].length:Int),((i+1:Nat):Int))),this]
   ·rw [step,e2,if_neg hq]
def Nj(l:Ar):Prop:=l.length<9223372036854775808∧ ∀x∈l,x.length<9223372036854775808
instance (l:Ar):Decidable (Nj l):=by unfold Nj;infer_instance
theorem Wt(a:Ar)(left:Int)(hw:Nj a)(hl:0≤left∧left≤1048576):NK a left=some (Gm left (a.length+KJ (fE a))):=by
 have ht:=J6 (fE a);have ha:=hw.1;unfold NK;rw [L8 _ (by omega)]
 by_cases hq:left-(a.length:Int)<0
 ·rw [if_pos hq];unfold Gm;rw [if_pos (by omega)]
 ·rw [if_neg hq];have h0:=Ql a (by omega) hw.2 a.length 0 (left-a.length) (by omega) (by omega) (by omega)
  simp only [NV,List.drop_zero]at h0;rw [h0,DT,A0Q _ _ (by omega)]
  have e:Gm (left-a.length) (KJ (fE a))=Gm left (a.length+KJ (fE a)):=by unfold Gm;rw [show left- ↑a.length-KJ (fE a)=left-(↑a.length+KJ (fE a)) by omega]
  rw [e];by_cases h1:Gm left (a.length+KJ (fE a))= -1
  ·rw [if_pos h1,h1]
  ·rw [if_neg h1]
theorem Wu(a:Ar)(left:Int)(h0:Nj a)(h1:0≤left∧left≤1048576):Y.call 58 [bh 121 (AQ (fun x=>bh 159 (Aw .i64 .i64 x)) a),bd .i64 left] []=some (bd .i64 (Gm left (a.length+KJ (fE a))),[]):=TK a left (Wt a left h0 h1)
def KX(Av:Ar)(CQ:AL)(Ay:AL)(left:Int):Option (Int):= ck (Nj Av)<| ck (0≤left∧left≤1048576)<| if(Gm left (Av.length+KJ (fE Av)))<0 then some (-1) else ck (CQ.length<9223372036854775808)<| ck (0≤(Gm left (Av.length+KJ (fE Av)))∧(Gm left (Av.length+KJ (fE Av)))≤1048576)<| if(Gm (Gm left (Av.length+KJ (fE Av))) CQ.length)<0 then some (-1) else ck (Ay.length<9223372036854775808)<| ck (0≤(Gm (Gm left (Av.length+KJ (fE Av))) CQ.length)∧(Gm (Gm left (Av.length+KJ (fE Av))) CQ.length)≤1048576)<| if(Gm (Gm (Gm left (Av.length+KJ (fE Av))) CQ.length) Ay.length)<0 then some (-1) else some (Gm (Gm (Gm left (Av.length+KJ (fE Av))) CQ.length) Ay.length)
def k21:SC:= .seq (.ops [oX 2 (.box 41 (tK 0)) 0,oX 4 (.assign (iK 0)) 3]) (.seq (.ops [oF 5 41 2 0,oL 6 39 5 39,oM 7 1 3,oC 8 58 [(tK 6),(tK 7)] [39,3] 3,oA 1 8 3]) (.seq (.seq (.ops [oM 9 1 3,oB 10 .lss 3 (tK 9) (iK 0) 3 4]) (.cond (tK 10) (.seq (.ops [oX 4 O4 3]) .ret) .skip)) (.seq (.ops [oF 11 41 2 1,oL 12 26 11 26,oM 13 1 3,oC 14 59 [(tK 12),(tK 13)] [26,3] 3,oA 1 14 3]) (.seq (.seq (.ops [oM 15 1 3,oB 16 .lss 3 (tK 15) (iK 0) 3 4]) (.cond (tK 16) (.seq (.ops [oX 4 O4 3]) .ret) .skip)) (.seq (.ops [oF 17 41 2 2,oL 18 26 17 26,oM 19 1 3,oC 20 59 [(tK 18),(tK 19)] [26,3] 3,oA 1 20 3]) (.seq (.seq (.ops [oM 21 1 3,oB 22 .lss 3 (tK 21) (iK 0) 3 4]) (.cond (tK 22) (.seq (.ops [oX 4 O4 3]) .ret) .skip)) (.seq (.ops [oM 23 1 3,oA 4 23 3]) .ret)))))))
theorem A0r:Try.f21.body.map (Bi lends)=some k21:=by kernel_rfl
theorem AD0:CL Try.f21 2=true:=by kernel_rfl
theorem c21{a l:List D}{r:D×List D}(h:CK Y.env k21 (Fx Ac l.length [cc 4] r) (entry a l))(ha:a.length=2):Y.call 21 a l=some r:=
 Ab (Y:=Y) rfl Try.func21 (ha▸AD0) A0r h
theorem Ps(Av:Ar)(CQ:AL)(Ay:AL)(left:Int){r:Int}(h:KX Av CQ Ay left=some r):Y.call 21 [ce [bh 121 (AQ (fun x=>bh 159 (Aw .i64 .i64 x)) Av),bh 3 (AQ (bd .i64) CQ),bh 3 (AQ (bd .i64) Ay)],bd .i64 left] []=some (bd .i64 r,[]):=by
 refine c21 ?_ rfl;unfold k21;unfold KX at h;obtain⟨e1,h⟩:=Bw h;obtain⟨e2,h⟩:=Bw h;have c3:=Wu Av left e1 e2;by_cases e4:(Gm left (Av.length+KJ (fE Av)))<0
 ·rw [if_pos e4]at h
  obtain rfl:=Option.some.inj h
  simp (maxDischargeDepth:=9) only [↓AP,AR,Ai,↓reduceIte,bj,bk,bl,bm,bo,bp,br,bt,bw,bx,bO,b0,b3,b4,b5,b6,b7,e1,e2.1,e2.2,c3,e4]<;>(repeat' apply A7)<;>first|rfl|exact⟨_,rfl⟩|exact⟨_,_,rfl⟩|simp [AQ,A8]
 ·rw [if_neg e4]at h;obtain⟨e5,h⟩:=Bw h;obtain⟨e6,h⟩:=Bw h;have c7:=QW CQ (Gm left (Av.length+KJ (fE Av))) e5 e6;by_cases e8:(Gm (Gm left (Av.length+KJ (fE Av))) CQ.length)<0
  ·rw [if_pos e8]at h
   obtain rfl:=Option.some.inj h
   simp (maxDischargeDepth:=9) only [↓AP,AR,Ai,↓reduceIte,bj,bk,bl,bm,bo,bp,br,bt,bw,bx,bO,b0,b3,b4,b5,b6,b7,e1,e2.1,e2.2,c3,e4,e5,e6.1,e6.2,c7,e8]<;>(repeat' apply A7)<;>first|rfl|exact⟨_,rfl⟩|exact⟨_,_,rfl⟩|simp [AQ,A8]
  ·rw [if_neg e8]at h;obtain⟨e9,h⟩:=Bw h;obtain⟨e10,h⟩:=Bw h;have c11:=QW Ay (Gm (Gm left (Av.length+KJ (fE Av))) CQ.length) e9 e10;by_cases e12:(Gm (Gm (Gm left (Av.length+KJ (fE Av))) CQ.length) Ay.length)<0
   ·rw [if_pos e12]at h
    obtain rfl:=Option.some.inj h
    simp (maxDischargeDepth:=9) only [↓AP,AR,Ai,↓reduceIte,bj,bk,bl,bm,bo,bp,br,bt,bw,bx,bO,b0,b3,b4,b5,b6,b7,e1,e2.1,e2.2,c3,e4,e5,e6.1,e6.2,c7,e8,e9,e10.1,e10.2,c11,e12]<;>(repeat' apply A7)<;>first|rfl|exact⟨_,rfl⟩|exact⟨_,_,rfl⟩|simp [AQ,A8]
   ·rw [if_neg e12]at h
    obtain rfl:=Option.some.inj h
    simp (maxDischargeDepth:=9) only [↓AP,AR,Ai,↓reduceIte,bj,bk,bl,bm,bo,bp,br,bt,bw,bx,bO,b0,b3,b4,b5,b6,b7,e1,e2.1,e2.2,c3,e4,e5,e6.1,e6.2,c7,e8,e9,e10.1,e10.2,c11,e12]<;>(repeat' apply A7)<;>first|rfl|exact⟨_,rfl⟩|exact⟨_,_,rfl⟩|simp [AQ,A8]
def mX(left:Int)(a:Ar)(b c:AL):Int:=
 if Gm left (a.length+KJ (fE a))<0 then-1 else if Gm (Gm left (a.length+KJ (fE a))) b.length<0 then-1 else Gm (Gm (Gm left (a.length+KJ (fE a))) b.length) c.length
theorem TL(a:Ar)(b c:AL)(left:Int)(ha:Nj a)(hb:b.length<9223372036854775808)(hc:c.length<9223372036854775808)(hl:0≤left∧left≤1048576):KX a b c left=some (mX left a b c):=by
 have ht:=J6 (fE a);unfold KX mX;rw [Bu ha,Bu hl];by_cases h1:Gm left (a.length+KJ (fE a))<0
 ·rw [if_pos h1,if_pos h1]
 ·rw [if_neg h1,if_neg h1]
  have b1:0≤Gm left (a.length+KJ (fE a))∧Gm left (a.length+KJ (fE a))≤1048576:=by
   rcases Jw left (a.length+KJ (fE a))with c|⟨c,c'⟩<;>omega
  rw [Bu hb,Bu b1];by_cases h2:Gm (Gm left (a.length+KJ (fE a))) b.length<0
  ·rw [if_pos h2,if_pos h2]
  ·rw [if_neg h2,if_neg h2]
   have b2:0≤Gm (Gm left (a.length+KJ (fE a))) b.length∧Gm (Gm left (a.length+KJ (fE a))) b.length≤1048576:=by
    rcases Jw (Gm left (a.length+KJ (fE a))) b.length with c|⟨c,c'⟩<;>omega
   rw [Bu hc,Bu b2];by_cases h3:Gm (Gm (Gm left (a.length+KJ (fE a))) b.length) c.length<0
   ·rw [if_pos h3];rcases Jw (Gm (Gm left (a.length+KJ (fE a))) b.length) c.length with d|⟨d,d'⟩
    ·rw [d]
    ·omega
   ·rw [if_neg h3]
theorem TM(Av:Ar)(CQ:AL)(Ay:AL)(left:Int)(h0:Nj Av)(h1:CQ.length<9223372036854775808)(h2:Ay.length<9223372036854775808)(h3:0≤left∧left≤1048576):Y.call 21 [ce [bh 121 (AQ (fun x=>bh 159 (Aw .i64 .i64 x)) Av),bh 3 (AQ (bd .i64) CQ),bh 3 (AQ (bd .i64) Ay)],bd .i64 left] []=some (bd .i64 (mX left Av CQ Ay),[]):=Ps Av CQ Ay left (TL Av CQ Ay left h0 h1 h2 h3)
theorem pE{a:Ar}{b c:AL}{left:Int}(hl:left≤1048576)(h: ¬mX left a b c<0):a.length+KJ (fE a)+b.length+c.length≤1048576∧DC a∧mX left a b c≤left:=by
 have ht:=J6 (fE a)
 have key:(a.length:Int)+KJ (fE a)+b.length+c.length≤1048576∧mX left a b c≤left:=by
  unfold mX at h ⊢;rcases Jw left (a.length+KJ (fE a))with d|⟨d,d'⟩
  ·rw [d]at h;simp at h
  ·rw [d,if_neg (by omega)]at h
   rw [d,if_neg (by omega)]
   rcases Jw (left-(a.length+KJ (fE a))) b.length with e|⟨e,e'⟩
   ·rw [e]at h;simp at h
   ·rw [e,if_neg (by omega)]at h
    rw [e,if_neg (by omega)]
    rcases Jw (left-(a.length+KJ (fE a))-b.length) c.length with g|⟨g,g'⟩
    ·rw [g]at h;simp at h
    ·rw [g];omega
 refine⟨key.1,⟨by omega,fun x hx=> ?_⟩,key.2⟩
 have:x.map Prod.fst∈fE a:=Iy.2 ⟨x,hx,rfl⟩
 have:=oU this
 rw [QY]at this;omega
theorem lG{l:Ar}(h:aR l):Nj l:=⟨Nat.lt_of_le_of_lt h.1 (by decide),fun x hx=>Nat.lt_of_le_of_lt (h.2 x hx).1 (by decide)⟩
def Du(list:AL)(low:Int)(high:Int)(Bj:Int):Option ((Int)⊕(Unit⊕Unit)):= if Bj<(list.length:Int)then ck (0≤Bj∧Bj.toNat<list.length)<| if(IG (list.getD Bj.toNat be) low high)=true then if 0<Bj then ck (0≤ca.wrap (Bj-1)∧(ca.wrap (Bj-1)).toNat<list.length)<| if(list.getD Bj.toNat be)≤(list.getD ((ca.wrap (Bj-1)).toNat) be)then some (b8 (cb ())) else some (cb (ca.wrap (Bj+1))) else some (cb (ca.wrap (Bj+1))) else some (b8 (cb ())) else some (b8 (b8 ()))
def IB(list:AL)(low:Int)(high:Int)(v:Int):Option (Unit⊕Unit):=Io (fun v=>Du list low high v) v
def Jo(list:AL)(low:Int)(high:Int):Option (Bool):=
 (IB list low high 0).bind fun AZ=>
 match AZ with
 | .inl q1000_=>
  some false
 | .inr q1000_=>
  some true
def TN:SC:= .seq (.ops [oB 12 .lss 3 (tK 11) (tK 10) 3 0]) (.seq (.cond (tK 12) .skip (.exit 0)) (.seq (.block 1 (.seq (.ops [oM 13 11 3,oI 14 26 9 11,oL 15 3 14 3,oA 7 13 3,oA 8 15 3]) (.seq (.ops [oM 16 8 3,oM 17 1 3,oM 18 2 3,oC 19 97 [(tK 16),(tK 17),(tK 18)] [3,3,3] 4,oX 20 (.unOp .not 4 (tK 19)) 4,oM 21 20 4,⟨(some 22),(.move (tK 7)),3,(some (some 21,false))⟩,⟨(some 23),(.binOp .gtr 3 (tK 22) (iK 0) 3),4,(some (some 21,false))⟩,⟨(some 24),(.move (tK 23)),4,(some (some 21,false))⟩,⟨(some 25),(.move (tK 0)),26,(some (some 24,true))⟩,⟨(some 26),(.move (tK 7)),3,(some (some 24,true))⟩,⟨(some 27),(.binOp .sub 3 (tK 26) (iK 1) 3),3,(some (some 24,true))⟩,⟨(some 28),(.indexAddr 26 (tK 25) (tK 27)),0,(some (some 24,true))⟩,⟨(some 29),(.load 3 (tK 28)),3,(some (some 24,true))⟩,⟨(some 30),(.move (tK 8)),3,(some (some 24,true))⟩,⟨(some 31),(.binOp .geq 3 (tK 29) (tK 30) 3),4,(some (some 24,true))⟩,⟨(some 32),(.pick (tK 24) (tK 31) O5),4,(some (some 21,false))⟩,oX 33 (.pick (tK 21) FR (tK 32)) 4]) (.cond (tK 33) (.seq (.ops [oX 6 CJ 4]) .ret) .skip)))) (.ops [oB 34 .add 3 (tK 11) (iK 1) 3 3,oM 11 34 3])))
def cu:SC:= .loop TN
def A0s:SC:= .seq (.ops [oX 6 CJ 4]) (.seq (.seq (.ops [oM 9 0 26,oN 10 9 26,oX 11 (.move (iK 0)) 3]) (.block 0 cu)) (.seq (.ops [oX 6 (.assign FR) 4]) .ret))
theorem pF:Try.f153.body.map (Bi lends)=some A0s:=by kernel_rfl
theorem A7o:CL Try.f153 3=true:=by kernel_rfl
theorem AD1{a l:List D}{r:D×List D}(h:CK Y.env A0s (Fx Ac l.length [cc 6] r) (entry a l))(ha:a.length=3):Y.call 153 a l=some r:=
 Ab (Y:=Y) rfl Try.func153 (ha▸A7o) pF h
def CE(list:AL)(low:Int)(high:Int)(Bj:Int)(s:St):Prop:=s.v 0=bh 3 (AQ (bd .i64) list)∧s.v 1=bd .i64 low∧s.v 2=bd .i64 high∧s.v 9=bh 3 (AQ (bd .i64) list)∧s.v 10=bd .i64 (list.length:Int)∧s.v 11=bd .i64 Bj
def CF(list:AL)(low:Int)(high:Int)(r:Unit⊕Unit)(ex:Ex)(s:St):Prop:=match r with
 | .inl q=>ex= .ret∧s.v 6=b9 false
 | .inr q=>ex= .exit 0
theorem O7(list:AL)(low:Int)(high:Int){v:Int}{s:St}{r:Unit⊕Unit}(h:IB list low high v=some r)(hM:CE list low high v s):CK Y.env cu (CF list low high r) s:=by
 unfold IB at h;refine Bc (c:=TN) (fun v=>Du list low high v) (fun v s=>CE list low high v s) (CF list low high) ?_ h hM;clear h hM s v r;intro Bj s o hM h;unfold Du at h;unfold CE at hM;obtain⟨m0,m1,m2,m3,m4,m5⟩:=hM;unfold TN;by_cases e1:Bj<(list.length:Int)
 ·rw [if_pos e1]at h;obtain⟨e2,h⟩:=Bw h;have c3:=Gu (list.getD Bj.toNat be) low high;by_cases e4:(IG (list.getD Bj.toNat be) low high)=true
  ·rw [if_pos e4]at h;by_cases e5:0<Bj
   ·rw [if_pos e5]at h;obtain⟨e6,h⟩:=Bw h;by_cases e7:(list.getD Bj.toNat be)≤(list.getD ((ca.wrap (Bj-1)).toNat) be)
    ·rw [if_pos e7]at h
     obtain rfl:=Option.some.inj h
     simp (maxDischargeDepth:=9) only [↓AP,AR,Ai,↓reduceIte,bj,bk,bl,bm,bo,bp,br,bt,bw,bx,bO,b0,b3,b4,b5,b6,b7,m0,m1,m2,m3,m4,m5,e1,e2.1,e2.2,c3,e4,e5,e6.1,e6.2,e7,CE,CF,Cm,Cn,Co]<;>(repeat' apply A7)<;>first|rfl|exact⟨_,rfl⟩|exact⟨_,_,rfl⟩|simp [AQ,A8]
    ·rw [if_neg e7]at h
     obtain rfl:=Option.some.inj h
     simp (maxDischargeDepth:=9) only [↓AP,AR,Ai,↓reduceIte,bj,bk,bl,bm,bo,bp,br,bt,bw,bx,bO,b0,b3,b4,b5,b6,b7,m0,m1,m2,m3,m4,m5,e1,e2.1,e2.2,c3,e4,e5,e6.1,e6.2,e7,CE,CF,Cm,Cn,Co]<;>(repeat' apply A7)<;>first|rfl|exact⟨_,rfl⟩|exact⟨_,_,rfl⟩|simp [AQ,A8]
   ·rw [if_neg e5]at h
    obtain rfl:=Option.some.inj h
    simp (maxDischargeDepth:=9) only [↓AP,AR,Ai,↓reduceIte,bj,bk,bl,bm,bo,bp,br,bt,bw,bx,bO,b0,b3,b4,b5,b6,b7,m0,m1,m2,m3,m4,m5,e1,e2.1,e2.2,c3,e4,e5,CE,CF,Cm,Cn,Co]<;>(repeat' apply A7)<;>first|rfl|exact⟨_,rfl⟩|exact⟨_,_,rfl⟩|simp [AQ,A8]
  ·rw [if_neg e4]at h;have e4f:(IG (list.getD Bj.toNat be) low high)=false:=JF.mpr e4
   obtain rfl:=Option.some.inj h
   simp (maxDischargeDepth:=9) only [↓AP,AR,Ai,↓reduceIte,bj,bk,bl,bm,bo,bp,br,bt,bw,bx,bO,b0,b3,b4,b5,b6,b7,m0,m1,m2,m3,m4,m5,e1,e2.1,e2.2,c3,e4f,CE,CF,Cm,Cn,Co]<;>(repeat' apply A7)<;>first|rfl|exact⟨_,rfl⟩|exact⟨_,_,rfl⟩|simp [AQ,A8]
 ·rw [if_neg e1]at h
  obtain rfl:=Option.some.inj h
  simp (maxDischargeDepth:=9) only [↓AP,AR,Ai,↓reduceIte,bj,bk,bl,bm,bo,bp,br,bt,bw,bx,bO,b0,b3,b4,b5,b6,b7,m0,m1,m2,m3,m4,m5,e1,CE,CF,Cm,Cn,Co]<;>(repeat' apply A7)<;>first|rfl|exact⟨_,rfl⟩|exact⟨_,_,rfl⟩|simp [AQ,A8]
theorem Oz(list:AL)(low:Int)(high:Int){r:Bool}(h:Jo list low high=some r):Y.call 153 [bh 3 (AQ (bd .i64) list),bd .i64 low,bd .i64 high] []=some (b9 r,[]):=by
 refine AD1 ?_ rfl;unfold A0s;unfold Jo at h;obtain⟨AZ,hl2,h⟩:=BA h;try dsimp only at h
 simp (maxDischargeDepth:=9) only [↓AP,AR,Ai,↓reduceIte,bj,bk,bl,bm,bo,bp,br,bt,bw,bx,bO,b0,b3,b4,b5,b6,b7];refine BM (O7 list low high hl2 ?_) ?_
 ·simp (maxDischargeDepth:=9) only [↓AP,AR,Ai,↓reduceIte,bj,bk,bl,bm,bo,bp,br,bt,bw,bx,bO,b0,b3,b4,b5,b6,b7,CE]<;>(repeat' apply A7)<;>first|rfl|exact⟨_,rfl⟩|exact⟨_,_,rfl⟩|simp [AQ,A8]
 ·intro ex2 s2 hX2;rcases AZ with q1000_|q1000_
  ·unfold CF at hX2;dsimp only at hX2 h;obtain⟨rfl,n2_0⟩:=hX2
   obtain rfl:=Option.some.inj h
   simp (maxDischargeDepth:=9) only [↓AP,AR,Ai,↓reduceIte,bj,bk,bl,bm,bo,bp,br,bt,bw,bx,bO,b0,b3,b4,b5,b6,b7,n2_0]<;>(repeat' apply A7)<;>first|rfl|exact⟨_,rfl⟩|exact⟨_,_,rfl⟩|simp [AQ,A8]
  ·unfold CF at hX2;dsimp only at hX2 h
   obtain rfl:=hX2
   obtain rfl:=Option.some.inj h
   simp (maxDischargeDepth:=9) only [↓AP,AR,Ai,↓reduceIte,bj,bk,bl,bm,bo,bp,br,bt,bw,bx,bO,b0,b3,b4,b5,b6,b7]<;>(repeat' apply A7)<;>first|rfl|exact⟨_,rfl⟩|exact⟨_,_,rfl⟩|simp [AQ,A8]
def TP(l:AL)(lo hi:Int):Bool:=(an l.length).all fun i=>IG (l.getD i be) lo hi&&(decide (i=0)||decide (l.getD (i-1) be<l.getD i be))
theorem Qm(l:AL)(lo hi:Int)(h:l.length<1099511627776):Jo l lo hi=some (TP l lo hi):=by
 have key:=IA (fun v=>Du l lo hi v) (fun i=>(i:Int)) l.length (fun i=>IG (l.getD i be) lo hi&&(decide (i=0)||decide (l.getD (i-1) be<l.getD i be))) (.inl ()) (.inr ()) ?_ ?_
 ·rw [NV]at key;unfold Jo IB TP;rw [key]
  cases (an l.length).all fun i=>IG (l.getD i be) lo hi&&(decide (i=0)||decide (l.getD (i-1) be<l.getD i be))<;>rfl
 ·intro i hi';simp only [Du,Jh];rw [if_pos (Bd hi'),Bu (by omega),Kk i (by omega)]
  cases hr:IG (l.getD i be) lo hi with
  |false=>simp
  |true=>
   by_cases h0:i=0
   ·subst h0;rw [if_pos rfl,if_neg (by omega)]
    simp
   ·rw [if_pos rfl,if_pos (by omega),L8 _ (by omega),Bu (by omega),show((i:Int)-1).toNat=i-1 by omega,decide_eq_false h0]
    by_cases hlt:l.getD (i-1) be<l.getD i be
    ·rw [if_neg (by omega),decide_eq_true hlt];rfl
    ·rw [if_pos (by omega),decide_eq_false hlt];rfl
 ·simp only [Du];rw [if_neg (Ap _)]
theorem Qn(list:AL)(low:Int)(high:Int)(h0:list.length<1099511627776):Y.call 153 [bh 3 (AQ (bd .i64) list),bd .i64 low,bd .i64 high] []=some (b9 (TP list low high),[]):=Oz list low high (Qm list low high h0)
theorem ai{l:AL}{lo hi:Int}(h:TP l lo hi=true):l.Pairwise (fun a b=>a<b)∧ ∀x∈l,IG x lo hi=true:=by
 have h0:=GA.1 h
 have step: ∀i,i+1<l.length→l.getD i be<l.getD (i+1) be:=fun i hi=>by
  have:=h0 (i+1) hi
  rw [F9]at this;simpa using this.2
 have bT: ∀(d i:Nat),i+d+1<l.length→l.getD i be<l.getD (i+d+1) be:=by
  intro d
  induction d with
  |zero=>intro i hi;exact step i hi
  |succ d ih=>
   intro i hi;have h1:=ih i (by omega)
   have h2:=step (i+d+1) (by omega)
   rw [show i+(d+1)+1=i+d+1+1 by omega]
   omega
 refine⟨XP.2 fun i j hi hj hij=> ?_,fun x hx=> ?_⟩
 ·have:=bT (j-i-1) i (by omega)
  rw [show i+(j-i-1)+1=j by omega,BC _ _ hi,BC _ _ hj]at this
  exact this
 ·obtain⟨i,hi,rfl⟩:=ZC hx;have:=h0 i hi
  rw [F9,BC _ _ hi]at this;exact this.1
theorem lH{l:AL}{lo hi:Int}(h1:l.Pairwise (fun a b=>a<b))(h2: ∀x∈l,IG x lo hi=true):TP l lo hi=true:=by
 refine GA.2 fun i hi=> ?_;rw [F9]
 refine⟨by rw [BC _ _ hi];exact h2 _ (JH hi), ?_⟩
 by_cases h0:i=0
 ·rw [decide_eq_true h0];rfl
 ·have:=XP.1 h1 (i-1) i (by omega) hi (by omega)
  rw [MQ]
  right
  rw [decide_eq_true_eq,BC _ _ hi,BC _ _ (by omega:i-1<l.length)]
  exact this
def O8(ids:AL)(n:Int):Bool:=decide (ids.length=0)||(decide ((ids.length:Int)=n)&&(decide ids.Nodup&&EA ids 1 999999))
theorem aj(ids:AL)(lo hi:Int):TP (IK ids) lo hi=(decide ids.Nodup&&EA ids lo hi):=by
 rw [PS,F9,decide_eq_true_eq];have hp:=J8 ids;unfold EA;rw [IQ]
 constructor
 ·intro h;obtain⟨h1,h2⟩:=ai h
  refine⟨hp.nodup_iff.1 (h1.imp fun h=>by omega),fun x hx=>h2 x (hp.mem_iff.2 hx)⟩
 ·rintro⟨h1,h2⟩
  refine lH ?_ fun x hx=>h2 x (hp.mem_iff.1 hx);have hn:(IK ids).Pairwise (fun a b=>a≠b):=hp.nodup_iff.2 h1
  exact((Lj ids).and hn).imp fun h=>by omega
theorem Gw(xs:AL)(h:xs.length<1099511627776):Y.call 121 [.sl 3 (AQ (bd .i64) xs)] []=some (.own 3 (AQ (bd .i64) xs),[]):=by
 refine gX (AQ (bd .i64) xs) (by rw [J5];exact h) (VO _ _ (fun x=>rfl)) (Ny _ _ (fun x=>by first|exact hoI .. |exact A3B .. |exact hoB .. |exact hoS ..)) ?_
 simp (maxDischargeDepth:=9) only [↓AP,AR,Ai,↓reduceIte,bj,bk,bl,bm,bo,bp,br,bt,bw,bx,bO,b0,b3,b4,b5,b6,b7,Option.isSome_some]
def R8(ids:AL)(nodes:Int):Option (Bool):= if(ids.length:Int)=0 then some true else ck (ids.length<1099511627776)<| ck (ids.length<4611686018427387904)<| if(ids.length:Int)=nodes then ck ((Ck ids).length<1099511627776)<| some (TP (Ck ids) (1:Int) (999999:Int)) else some false
def A0t:SC:= .seq (.ops [oX 4 CJ 4]) (.seq (.seq (.ops [oM 6 0 26,oN 7 6 26,oB 8 .eql 3 (tK 7) (iK 0) 3 4]) (.cond (tK 8) (.seq (.ops [oX 4 (.assign FR) 4]) .ret) .skip)) (.seq (.ops [oM 9 0 26,oC 10 121 [(tK 9)] [26] 26,oA 5 10 26]) (.seq (.ops [oM 11 5 26,oC 12 152 [(tK 11)] [26] 0]) (.seq (.ops [oM 13 0 26,oN 14 13 26,oM 15 1 3,oB 16 .eql 3 (tK 14) (tK 15) 3 4,oM 17 16 4,⟨(some 18),(.move (tK 5)),26,(some (some 17,true))⟩,⟨(some 19),(.call ⟨(.value (.func 153)), #[(tK 18),(iK 1),(iK 999999)], #[26,3,3]⟩),4,(some (some 17,true))⟩,oX 20 (.pick (tK 17) (tK 19) O5) 4,oA 4 20 4]) .ret))))
theorem pG:Try.f112.body.map (Bi lends)=some A0t:=by kernel_rfl
theorem A7p:CL Try.f112 2=true:=by kernel_rfl
theorem AD2{a l:List D}{r:D×List D}(h:CK Y.env A0t (Fx Ac l.length [cc 4] r) (entry a l))(ha:a.length=2):Y.call 112 a l=some r:=
 Ab (Y:=Y) rfl Try.func112 (ha▸A7p) pG h
theorem Wv(ids:AL)(nodes:Int){r:Bool}(h:R8 ids nodes=some r):Y.call 112 [bh 3 (AQ (bd .i64) ids),bd .i64 nodes] []=some (b9 r,[]):=by
 refine AD2 ?_ rfl;unfold A0t;unfold R8 at h;by_cases e1:(ids.length:Int)=0
 ·rw [if_pos e1]at h
  obtain rfl:=Option.some.inj h
  simp (maxDischargeDepth:=9) only [↓AP,AR,Ai,↓reduceIte,bj,bk,bl,bm,bo,bp,br,bt,bw,bx,bO,b0,b3,b4,b5,b6,b7,decide_eq_true e1]<;>(repeat' apply A7)<;>first|rfl|exact⟨_,rfl⟩|exact⟨_,_,rfl⟩|simp [AQ,A8]
 ·rw [if_neg e1]at h;obtain⟨e2,h⟩:=Bw h;have c3:=Gw ids e2;obtain⟨e4,h⟩:=Bw h;have c5:=l5 ids e4;by_cases e6:(ids.length:Int)=nodes
  ·rw [if_pos e6]at h;obtain⟨e7,h⟩:=Bw h;have c8:=Qn (Ck ids) (1:Int) (999999:Int) e7
   obtain rfl:=Option.some.inj h
   simp (maxDischargeDepth:=9) only [↓AP,AR,Ai,↓reduceIte,bj,bk,bl,bm,bo,bp,br,bt,bw,bx,bO,b0,b3,b4,b5,b6,b7,e1,e2,c3,e4,c5,decide_eq_true e6,e7,c8]<;>(repeat' apply A7)<;>first|rfl|exact⟨_,rfl⟩|exact⟨_,_,rfl⟩|simp [AQ,A8]
  ·rw [if_neg e6]at h
   obtain rfl:=Option.some.inj h
   simp (maxDischargeDepth:=9) only [↓AP,AR,Ai,↓reduceIte,bj,bk,bl,bm,bo,bp,br,bt,bw,bx,bO,b0,b3,b4,b5,b6,b7,e1,e2,c3,e4,c5,e6]<;>(repeat' apply A7)<;>first|rfl|exact⟨_,rfl⟩|exact⟨_,_,rfl⟩|simp [AQ,A8]
def Hg(ids:AL)(nodes:Int)(FY:Int):Option ((Int)⊕(Unit⊕Unit)):= if FY<(ids.length:Int)then ck (0≤FY∧FY.toNat<ids.length)<| if(IG (ids.getD FY.toNat be) (1:Int) (999999:Int))=true then ck (0≤FY)<| ck (FY.toNat≤ids.length)<| ck (((ids.take FY.toNat).drop 0).length<1099511627776)<| if(((ids.take FY.toNat).drop 0).contains (ids.getD FY.toNat be))=true then some (b8 (cb ())) else some (cb (ca.wrap (FY+1))) else some (b8 (cb ())) else some (b8 (b8 ()))
def Lp(ids:AL)(nodes:Int)(v:Int):Option (Unit⊕Unit):=Io (fun v=>Hg ids nodes v) v
def R9(ids:AL)(nodes:Int):Option (Bool):=
 (Lp ids nodes 0).bind fun AZ=>
 match AZ with
 | .inl q1000_=>
  some false
 | .inr q1000_=>
  if(ids.length:Int)=0 then
   some true
  else
   some (decide ((ids.length:Int)=nodes))
def TQ:SC:= .seq (.ops [oB 10 .lss 3 (tK 9) (tK 8) 3 0]) (.seq (.cond (tK 10) .skip (.exit 0)) (.seq (.block 1 (.seq (.ops [oM 11 9 3,oI 12 26 7 9,oL 13 3 12 3,oA 5 11 3,oA 6 13 3]) (.seq (.ops [oM 14 6 3,oC 15 92 [(tK 14),(iK 1),(iK 999999)] [3,3,3] 4,oX 16 (.unOp .not 4 (tK 15)) 4,oM 17 16 4,⟨(some 18),(.move (tK 0)),26,(some (some 17,false))⟩,⟨(some 19),(.move (tK 5)),3,(some (some 17,false))⟩,⟨(some 20),(.slice 26 (tK 18) none (some (tK 19)) none),900001,(some (some 17,false))⟩,⟨(some 21),(.move (tK 6)),3,(some (some 17,false))⟩,⟨(some 22),(.call ⟨(.value (.func 89)), #[(tK 20),(tK 21)], #[26,3]⟩),4,(some (some 17,false))⟩,oX 23 (.pick (tK 17) FR (tK 22)) 4]) (.cond (tK 23) (.seq (.ops [oX 4 CJ 4]) .ret) .skip)))) (.ops [oB 24 .add 3 (tK 9) (iK 1) 3 3,oM 9 24 3])))
def cz:SC:= .loop TQ
def A0u:SC:= .seq (.ops [oX 4 CJ 4]) (.seq (.seq (.ops [oM 7 0 26,oN 8 7 26,oX 9 (.move (iK 0)) 3]) (.block 0 cz)) (.seq (.ops [oM 25 0 26,oN 26 25 26,oB 27 .eql 3 (tK 26) (iK 0) 3 4,oM 28 27 4,⟨(some 29),(.move (tK 0)),26,(some (some 28,false))⟩,⟨(some 30),(.call ⟨(.builtin .len), #[(tK 29)], #[26]⟩),3,(some (some 28,false))⟩,⟨(some 31),(.move (tK 1)),3,(some (some 28,false))⟩,⟨(some 32),(.binOp .eql 3 (tK 30) (tK 31) 3),4,(some (some 28,false))⟩,oX 33 (.pick (tK 28) FR (tK 32)) 4,oA 4 33 4]) .ret))
theorem pI:Try.f106.body.map (Bi lends)=some A0u:=by kernel_rfl
theorem A7q:CL Try.f106 2=true:=by kernel_rfl
theorem AD3{a l:List D}{r:D×List D}(h:CK Y.env A0u (Fx Ac l.length [cc 4] r) (entry a l))(ha:a.length=2):Y.call 106 a l=some r:=
 Ab (Y:=Y) rfl Try.func106 (ha▸A7q) pI h
def Ei(ids:AL)(nodes:Int)(FY:Int)(s:St):Prop:=s.v 0=bh 3 (AQ (bd .i64) ids)∧s.v 1=bd .i64 nodes∧s.v 7=bh 3 (AQ (bd .i64) ids)∧s.v 8=bd .i64 (ids.length:Int)∧s.v 9=bd .i64 FY
def Ej(ids:AL)(nodes:Int)(r:Unit⊕Unit)(ex:Ex)(s:St):Prop:=match r with
 | .inl q=>ex= .ret∧s.v 4=b9 false
 | .inr q=>ex= .exit 0∧s.v 0=bh 3 (AQ (bd .i64) ids)∧s.v 1=bd .i64 nodes
theorem Uj(ids:AL)(nodes:Int){v:Int}{s:St}{r:Unit⊕Unit}(h:Lp ids nodes v=some r)(hM:Ei ids nodes v s):CK Y.env cz (Ej ids nodes r) s:=by
 unfold Lp at h;refine Bc (c:=TQ) (fun v=>Hg ids nodes v) (fun v s=>Ei ids nodes v s) (Ej ids nodes) ?_ h hM;clear h hM s v r;intro FY s o hM h;unfold Hg at h;unfold Ei at hM;obtain⟨m0,m1,m2,m3,m4⟩:=hM;unfold TQ;by_cases e1:FY<(ids.length:Int)
 ·rw [if_pos e1]at h;obtain⟨e2,h⟩:=Bw h;have c3:=J7 (ids.getD FY.toNat be) (1:Int) (999999:Int);by_cases e4:(IG (ids.getD FY.toNat be) (1:Int) (999999:Int))=true
  ·rw [if_pos e4]at h;obtain⟨e5,h⟩:=Bw h;obtain⟨e6,h⟩:=Bw h;obtain⟨e7,h⟩:=Bw h;have c8:=Lm ((ids.take FY.toNat).drop 0) (ids.getD FY.toNat be) e7;by_cases e9:(((ids.take FY.toNat).drop 0).contains (ids.getD FY.toNat be))=true
   ·rw [if_pos e9]at h
    obtain rfl:=Option.some.inj h
    simp (maxDischargeDepth:=9) only [↓AP,AR,Ai,↓reduceIte,bj,bk,bl,bm,bo,bp,br,bt,bw,bx,bO,b0,b3,b4,b5,b6,b7,m0,m1,m2,m3,m4,e1,e2.1,e2.2,c3,e4,e5,e6,e7,c8,e9,Ei,Ej,Cm,Cn,Co]<;>(repeat' apply A7)<;>first|rfl|exact⟨_,rfl⟩|exact⟨_,_,rfl⟩|simp [AQ,A8]
   ·rw [if_neg e9]at h;have e9f:(((ids.take FY.toNat).drop 0).contains (ids.getD FY.toNat be))=false:=JF.mpr e9
    obtain rfl:=Option.some.inj h
    simp (maxDischargeDepth:=9) only [↓AP,AR,Ai,↓reduceIte,bj,bk,bl,bm,bo,bp,br,bt,bw,bx,bO,b0,b3,b4,b5,b6,b7,m0,m1,m2,m3,m4,e1,e2.1,e2.2,c3,e4,e5,e6,e7,c8,e9f,Ei,Ej,Cm,Cn,Co]<;>(repeat' apply A7)<;>first|rfl|exact⟨_,rfl⟩|exact⟨_,_,rfl⟩|simp [AQ,A8]
  ·rw [if_neg e4]at h;have e4f:(IG (ids.getD FY.toNat be) (1:Int) (999999:Int))=false:=JF.mpr e4
   obtain rfl:=Option.some.inj h
   simp (maxDischargeDepth:=9) only [↓AP,AR,Ai,↓reduceIte,bj,bk,bl,bm,bo,bp,br,bt,bw,bx,bO,b0,b3,b4,b5,b6,b7,m0,m1,m2,m3,m4,e1,e2.1,e2.2,c3,e4f,Ei,Ej,Cm,Cn,Co]<;>(repeat' apply A7)<;>first|rfl|exact⟨_,rfl⟩|exact⟨_,_,rfl⟩|simp [AQ,A8]
 ·rw [if_neg e1]at h
  obtain rfl:=Option.some.inj h
  simp (maxDischargeDepth:=9) only [↓AP,AR,Ai,↓reduceIte,bj,bk,bl,bm,bo,bp,br,bt,bw,bx,bO,b0,b3,b4,b5,b6,b7,m0,m1,m2,m3,m4,e1,Ei,Ej,Cm,Cn,Co]<;>(repeat' apply A7)<;>first|rfl|exact⟨_,rfl⟩|exact⟨_,_,rfl⟩|simp [AQ,A8]
theorem Ww(ids:AL)(nodes:Int){r:Bool}(h:R9 ids nodes=some r):Y.call 106 [bh 3 (AQ (bd .i64) ids),bd .i64 nodes] []=some (b9 r,[]):=by
 refine AD3 ?_ rfl;unfold A0u;unfold R9 at h;obtain⟨AZ,hl2,h⟩:=BA h;try dsimp only at h
 simp (maxDischargeDepth:=9) only [↓AP,AR,Ai,↓reduceIte,bj,bk,bl,bm,bo,bp,br,bt,bw,bx,bO,b0,b3,b4,b5,b6,b7];refine BM (Uj ids nodes hl2 ?_) ?_
 ·simp (maxDischargeDepth:=9) only [↓AP,AR,Ai,↓reduceIte,bj,bk,bl,bm,bo,bp,br,bt,bw,bx,bO,b0,b3,b4,b5,b6,b7,Ei]<;>(repeat' apply A7)<;>first|rfl|exact⟨_,rfl⟩|exact⟨_,_,rfl⟩|simp [AQ,A8]
 ·intro ex2 s2 hX2;rcases AZ with q1000_|q1000_
  ·unfold Ej at hX2;dsimp only at hX2 h;obtain⟨rfl,n2_0⟩:=hX2
   obtain rfl:=Option.some.inj h
   simp (maxDischargeDepth:=9) only [↓AP,AR,Ai,↓reduceIte,bj,bk,bl,bm,bo,bp,br,bt,bw,bx,bO,b0,b3,b4,b5,b6,b7,n2_0]<;>(repeat' apply A7)<;>first|rfl|exact⟨_,rfl⟩|exact⟨_,_,rfl⟩|simp [AQ,A8]
  ·unfold Ej at hX2;dsimp only at hX2 h;obtain⟨rfl,n2_0,n2_1⟩:=hX2;by_cases e3:(ids.length:Int)=0
   ·rw [if_pos e3]at h
    obtain rfl:=Option.some.inj h
    simp (maxDischargeDepth:=9) only [↓AP,AR,Ai,↓reduceIte,bj,bk,bl,bm,bo,bp,br,bt,bw,bx,bO,b0,b3,b4,b5,b6,b7,n2_0,n2_1,decide_eq_true e3]<;>(repeat' apply A7)<;>first|rfl|exact⟨_,rfl⟩|exact⟨_,_,rfl⟩|simp [AQ,A8]
   ·rw [if_neg e3]at h
    obtain rfl:=Option.some.inj h
    simp (maxDischargeDepth:=9) only [↓AP,AR,Ai,↓reduceIte,bj,bk,bl,bm,bo,bp,br,bt,bw,bx,bO,b0,b3,b4,b5,b6,b7,n2_0,n2_1,e3]<;>(repeat' apply A7)<;>first|rfl|exact⟨_,rfl⟩|exact⟨_,_,rfl⟩|simp [AQ,A8]
theorem ak(ids:AL)(n:Int)(h:ids.length<1099511627776):R8 ids n=some (O8 ids n):=by
 unfold R8 O8;by_cases h0:ids.length=0
 ·rw [if_pos (by omega),decide_eq_true h0];rfl
 ·rw [if_neg (by omega),Bu h,Bu (by omega),decide_eq_false h0,RO]
  by_cases h1:(ids.length:Int)=n
  ·rw [if_pos h1,TB,Bu (by rw [VV];exact h),aj,decide_eq_true h1];rfl
  ·rw [if_neg h1,decide_eq_false h1];rfl
theorem gm(ids:AL):(an ids.length).all (fun i=>IG (ids.getD i be) 1 999999&& !(ids.take i).contains (ids.getD i be))=(decide ids.Nodup&&EA ids 1 999999):=by
 rw [PS,GA,F9,decide_eq_true_eq];unfold EA;rw [IQ]
 constructor
 ·intro h
  refine⟨XP.2 fun i j hi hj hij he=> ?_,fun x hx=> ?_⟩
  ·have:=h j hj
   rw [F9,Kg,←Bool.not_eq_true,VZ,BC _ _ hj]at this;refine this.2 ?_;rw [←he];exact List.mem_take_iff_getElem.2 ⟨i,by omega,rfl⟩
  ·obtain⟨i,hi,rfl⟩:=ZC hx;have:=h i hi
   rw [F9,BC _ _ hi]at this;exact this.1
 ·rintro⟨h1,h2⟩ i hi
  rw [F9,Kg,←Bool.not_eq_true,VZ,BC _ _ hi]
  refine⟨h2 _ (JH hi),fun hm=> ?_⟩
  obtain⟨j,hj,he⟩:=List.mem_take_iff_getElem.1 hm;exact XP.1 h1 j i (by omega) hi (by omega) he
theorem au(ids:AL)(n:Int)(h:ids.length<1099511627776):R9 ids n=some (O8 ids n):=by
 have key:=IA (fun v=>Hg ids n v) (fun i=>(i:Int)) ids.length (fun i=>IG (ids.getD i be) 1 999999&& !(ids.take i).contains (ids.getD i be)) (.inl ()) (.inr ()) ?_ ?_
 ·rw [NV,gm]at key;unfold R9 Lp O8;rw [key,DT];by_cases h0:ids.length=0
  ·have:ids=[]:=Z7 h0
   subst this;simp [EA]
  ·rw [decide_eq_false h0,RO]
   cases decide ids.Nodup&&EA ids 1 999999 with
   |false=>rw [Bool.and_false];rfl
   |true=>rw [UF,if_pos rfl];simp only;rw [if_neg (by omega)]
 ·intro i hi;simp only [Hg,Jh,List.drop_zero];rw [if_pos (Bd hi),Bu (by omega),Bu (by omega),Bu (by omega),Bu (by rw [MH];omega),Kk i (by omega)]
  cases IG (ids.getD i be) 1 999999<;>cases (ids.take i).contains (ids.getD i be)<;>rfl
 ·simp only [Hg];rw [if_neg (Ap _)]
theorem av(ids:AL)(nodes:Int)(h0:ids.length<1099511627776):Y.call 112 [bh 3 (AQ (bd .i64) ids),bd .i64 nodes] []=some (b9 (O8 ids nodes),[]):=Wv ids nodes (ak ids nodes h0)
theorem ay(ids:AL)(nodes:Int)(h0:ids.length<1099511627776):Y.call 106 [bh 3 (AQ (bd .i64) ids),bd .i64 nodes] []=some (b9 (O8 ids nodes),[]):=Ww ids nodes (au ids nodes h0)
def Lr(inputs:AL)(nodes:Int):Option (Bool):= if(inputs.length:Int)=nodes then ck (inputs.length<1099511627776)<| some (EA inputs (0:Int) (9:Int)) else some false
def A0v:SC:= .seq (.ops [oX 4 CJ 4]) (.seq (.ops [oM 5 0 26,oN 6 5 26,oM 7 1 3,oB 8 .eql 3 (tK 6) (tK 7) 3 4,oM 9 8 4,⟨(some 10),(.move (tK 0)),26,(some (some 9,true))⟩,⟨(some 11),(.call ⟨(.value (.func 144)), #[(tK 10),(iK 0),(iK 9)], #[26,3,3]⟩),4,(some (some 9,true))⟩,oX 12 (.pick (tK 9) (tK 11) O5) 4,oA 4 12 4]) .ret)
theorem pJ:Try.f113.body.map (Bi lends)=some A0v:=by kernel_rfl
theorem A7r:CL Try.f113 2=true:=by kernel_rfl
theorem AD4{a l:List D}{r:D×List D}(h:CK Y.env A0v (Fx Ac l.length [cc 4] r) (entry a l))(ha:a.length=2):Y.call 113 a l=some r:=
 Ab (Y:=Y) rfl Try.func113 (ha▸A7r) pJ h
theorem Qo(inputs:AL)(nodes:Int){r:Bool}(h:Lr inputs nodes=some r):Y.call 113 [bh 3 (AQ (bd .i64) inputs),bd .i64 nodes] []=some (b9 r,[]):=by
 refine AD4 ?_ rfl;unfold A0v;unfold Lr at h;by_cases e1:(inputs.length:Int)=nodes
 ·rw [if_pos e1]at h;obtain⟨e2,h⟩:=Bw h;have c3:=TA inputs (0:Int) (9:Int) e2
  obtain rfl:=Option.some.inj h
  simp (maxDischargeDepth:=9) only [↓AP,AR,Ai,↓reduceIte,bj,bk,bl,bm,bo,bp,br,bt,bw,bx,bO,b0,b3,b4,b5,b6,b7,decide_eq_true e1,e2,c3]<;>(repeat' apply A7)<;>first|rfl|exact⟨_,rfl⟩|exact⟨_,_,rfl⟩|simp [AQ,A8]
 ·rw [if_neg e1]at h
  obtain rfl:=Option.some.inj h
  simp (maxDischargeDepth:=9) only [↓AP,AR,Ai,↓reduceIte,bj,bk,bl,bm,bo,bp,br,bt,bw,bx,bO,b0,b3,b4,b5,b6,b7,e1]<;>(repeat' apply A7)<;>first|rfl|exact⟨_,rfl⟩|exact⟨_,_,rfl⟩|simp [AQ,A8]
def Gh(AC:Ar)(AY:AL)(AJ:AL)(v_:Int):Option (Bool):= some (IG v_ (0:Int) (ca.wrap ((AC.length:Int)-1)))
def A0w:SC:= .seq (.ops [oX 2 (.box 47 (tK 0)) 0,oX 4 CJ 4]) (.seq (.ops [oM 5 1 3,oF 6 47 2 0,oL 7 45 6 45,oN 8 7 45,oB 9 .sub 3 (tK 8) (iK 1) 3 3,oC 10 97 [(tK 5),(iK 0),(tK 9)] [3,3,3] 4,oA 4 10 4]) .ret)
theorem pK:Try.f130.body.map (Bi lends)=some A0w:=by kernel_rfl
theorem A7s:CL Try.f130 2=true:=by kernel_rfl
theorem AD5{a l:List D}{r:D×List D}(h:CK Y.env A0w (Fx Ac l.length [cc 4] r) (entry a l))(ha:a.length=2):Y.call 130 a l=some r:=
 Ab (Y:=Y) rfl Try.func130 (ha▸A7s) pK h
theorem Lt(AC:Ar)(AY:AL)(AJ:AL)(v_:Int){r:Bool}(h:Gh AC AY AJ v_=some r):Y.call 130 [ce [bh 123 (AQ (fun x=>bh 125 (Aw .i64 .i64 x)) AC),bh 3 (AQ (bd .i64) AY),bh 3 (AQ (bd .i64) AJ)],bd .i64 v_] []=some (b9 r,[]):=by
 refine AD5 ?_ rfl;unfold A0w;unfold Gh at h;have c1:=Gu v_ (0:Int) (ca.wrap ((AC.length:Int)-1))
 obtain rfl:=Option.some.inj h
 simp (maxDischargeDepth:=9) only [↓AP,AR,Ai,↓reduceIte,bj,bk,bl,bm,bo,bp,br,bt,bw,bx,bO,b0,b3,b4,b5,b6,b7,c1]<;>(repeat' apply A7)<;>first|rfl|exact⟨_,rfl⟩|exact⟨_,_,rfl⟩|simp [AQ,A8]
def Gj(AC:Ar)(AY:AL)(AJ:AL)(v_:Int)(i:Int):Option (Bool):= (Gh AC AY AJ v_).bind fun r9_=> if r9_=true then ck (0≤v_∧v_.toNat<AC.length)<| some (IG i (0:Int) (ca.wrap (((AC.getD v_.toNat be).length:Int)-1))) else some false
def A0x:SC:= .seq (.ops [oX 3 (.box 47 (tK 0)) 0,oX 6 CJ 4]) (.seq (.ops [oL 7 47 3 47,oM 8 1 3,oC 9 130 [(tK 7),(tK 8)] [47,3] 4,oM 10 9 4,⟨(some 11),(.move (tK 2)),3,(some (some 10,true))⟩,⟨(some 12),(.fieldAddr 47 (tK 3) 0),0,(some (some 10,true))⟩,⟨(some 13),(.load 45 (tK 12)),45,(some (some 10,true))⟩,⟨(some 14),(.move (tK 1)),3,(some (some 10,true))⟩,⟨(some 15),(.indexAddr 45 (tK 13) (tK 14)),0,(some (some 10,true))⟩,⟨(some 16),(.load 123 (tK 15)),123,(some (some 10,true))⟩,⟨(some 17),(.call ⟨(.builtin .len), #[(tK 16)], #[123]⟩),3,(some (some 10,true))⟩,⟨(some 18),(.binOp .sub 3 (tK 17) (iK 1) 3),3,(some (some 10,true))⟩,⟨(some 19),(.call ⟨(.value (.func 97)), #[(tK 11),(iK 0),(tK 18)], #[3,3,3]⟩),4,(some (some 10,true))⟩,oX 20 (.pick (tK 10) (tK 19) O5) 4,oA 6 20 4]) .ret)
theorem pM:Try.f114.body.map (Bi lends)=some A0x:=by kernel_rfl
theorem A7t:CL Try.f114 3=true:=by kernel_rfl
theorem AD6{a l:List D}{r:D×List D}(h:CK Y.env A0x (Fx Ac l.length [cc 6] r) (entry a l))(ha:a.length=3):Y.call 114 a l=some r:=
 Ab (Y:=Y) rfl Try.func114 (ha▸A7t) pM h
theorem Lu(AC:Ar)(AY:AL)(AJ:AL)(v_:Int)(i:Int){r:Bool}(h:Gj AC AY AJ v_ i=some r):Y.call 114 [ce [bh 123 (AQ (fun x=>bh 125 (Aw .i64 .i64 x)) AC),bh 3 (AQ (bd .i64) AY),bh 3 (AQ (bd .i64) AJ)],bd .i64 v_,bd .i64 i] []=some (b9 r,[]):=by
 refine AD6 ?_ rfl;unfold A0x;unfold Gj at h;obtain⟨r9_,hl1,h⟩:=BA h;try dsimp only at h
 have c1:=Lt AC AY AJ v_ hl1;by_cases e2:r9_=true
 ·rw [if_pos e2]at h;obtain⟨e3,h⟩:=Bw h;have c4:=Gu i (0:Int) (ca.wrap (((AC.getD v_.toNat be).length:Int)-1))
  obtain rfl:=Option.some.inj h
  simp (maxDischargeDepth:=9) only [↓AP,AR,Ai,↓reduceIte,bj,bk,bl,bm,bo,bp,br,bt,bw,bx,bO,b0,b3,b4,b5,b6,b7,c1,e2,e3.1,e3.2,c4]<;>(repeat' apply A7)<;>first|rfl|exact⟨_,rfl⟩|exact⟨_,_,rfl⟩|simp [AQ,A8]
 ·rw [if_neg e2]at h;have e2f:r9_=false:=JF.mpr e2
  obtain rfl:=Option.some.inj h
  simp (maxDischargeDepth:=9) only [↓AP,AR,Ai,↓reduceIte,bj,bk,bl,bm,bo,bp,br,bt,bw,bx,bO,b0,b3,b4,b5,b6,b7,c1,e2f]<;>(repeat' apply A7)<;>first|rfl|exact⟨_,rfl⟩|exact⟨_,_,rfl⟩|simp [AQ,A8]
def EJ(A9:Ar)(AO:AL)(AA:AL)(DU:Int)(I4:Int):Option ((Int)⊕(Unit⊕Unit)):= if I4<((A9.getD DU.toNat be).length:Int)then ck (0≤I4∧I4.toNat<(A9.getD DU.toNat be).length)<| (Gj A9 AO AA (BJ (A9.getD DU.toNat be) I4.toNat) (CG (A9.getD DU.toNat be) I4.toNat)).bind fun az=> if az=true then ck (0≤(BJ (A9.getD DU.toNat be) I4.toNat)∧(BJ (A9.getD DU.toNat be) I4.toNat).toNat<A9.length)<| ck (0≤(CG (A9.getD DU.toNat be) I4.toNat)∧(CG (A9.getD DU.toNat be) I4.toNat).toNat<(A9.getD ((BJ (A9.getD DU.toNat be) I4.toNat).toNat) be).length)<| if(((BJ (A9.getD ((BJ (A9.getD DU.toNat be) I4.toNat).toNat) be) ((CG (A9.getD DU.toNat be) I4.toNat).toNat))==DU)&&((CG (A9.getD ((BJ (A9.getD DU.toNat be) I4.toNat).toNat) be) ((CG (A9.getD DU.toNat be) I4.toNat).toNat))==I4))=true then some (cb (ca.wrap (I4+1))) else some (b8 (cb ())) else some (b8 (cb ())) else some (b8 (b8 ()))
def Gx(A9:Ar)(AO:AL)(AA:AL)(DU:Int)(v:Int):Option (Unit⊕Unit):=Io (fun v=>EJ A9 AO AA DU v) v
def EK(A9:Ar)(AO:AL)(AA:AL)(DU:Int):Option ((Int)⊕(Unit⊕Unit)):=
 if DU<(A9.length:Int)then
  ck (0≤DU∧DU.toNat<A9.length)<|
  if 6<((A9.getD DU.toNat be).length:Int)then
   some (b8 (cb ()))
  else
   (Gx A9 AO AA DU 0).bind fun AZ=>
   match AZ with
   | .inl q1000_=>
    some (b8 (cb ()))
   | .inr q1000_=>
    some (cb (ca.wrap (DU+1)))
 else
  some (b8 (b8 ()))
def Gy(A9:Ar)(AO:AL)(AA:AL)(v:Int):Option (Unit⊕Unit):=Io (fun v=>EK A9 AO AA v) v
def KY(A9:Ar)(AO:AL)(AA:AL):Option (Bool):=
 if(IG (A9.length:Int) (1:Int) (40:Int))=true then
  ck (AO.length<1099511627776)<|
  if(O8 AO (A9.length:Int))=true then
   (Lr AA (A9.length:Int)).bind fun Yo=>
   if Yo=true then
    (Gy A9 AO AA 0).bind fun CW=>
    match CW with
    | .inl q1001_=>
     some false
    | .inr q1001_=>
     some true
   else
    some false
  else
   some false
 else
  some false
abbrev TR:List Nat:=[48,49,50,51,52,53,54,55,56,57,58,59,60,61,62,63,64,65,66,67,68,66,67,69,70]
def Wx:SC:= .seq (.ops [oB 44 .lss 3 (tK 43) (tK 42) 3 0]) (.seq (.cond (tK 44) .skip (.exit 2)) (.seq (.block 3 (.seq (.ops [oM 45 43 3,oI 46 123 41 43,oL 47 125 46 125,oX 6 (.alloc 125) 0,oA 5 45 3,oS 125 6 47]) (.seq (.draws [(⟨[48,1,1],TR,[48]⟩,oL 48 47 1 47),(⟨[49,6,6],TR,[49]⟩,oF 49 125 6 0),(⟨[50,49,6],TR,[50]⟩,oL 50 3 49 3),(⟨[51,6,6],TR,[51]⟩,oF 51 125 6 1),(⟨[52,51,6],TR,[52]⟩,oL 52 3 51 3),(⟨[53,48,50,52,1,6,6],TR,[53]⟩,oC 53 114 [(tK 48),(tK 50),(tK 52)] [47,3,3] 4),(⟨[54,53,53],TR,[54]⟩,oX 54 (.unOp .not 4 (tK 53)) 4),(⟨[55,54,54],TR,[55]⟩,oM 55 54 4),(⟨[56,1,1,55],TR,[56]⟩,⟨(some 56),aX,0,(some (some 55,false))⟩),(⟨[57,56,1,55],TR,[57]⟩,⟨(some 57),(.load 45 (tK 56)),45,(some (some 55,false))⟩),(⟨[58,6,6,55],TR,[58]⟩,⟨(some 58),(.fieldAddr 125 (tK 6) 0),0,(some (some 55,false))⟩),(⟨[59,58,6,55],TR,[59]⟩,⟨(some 59),(.load 3 (tK 58)),3,(some (some 55,false))⟩),(⟨[60,57,59,1,6,55],TR,[60]⟩,⟨(some 60),(.indexAddr 45 (tK 57) (tK 59)),0,(some (some 55,false))⟩),(⟨[61,60,1,55],TR,[61]⟩,⟨(some 61),(.load 123 (tK 60)),123,(some (some 55,false))⟩),(⟨[62,6,6,55],TR,[62]⟩,⟨(some 62),(.fieldAddr 125 (tK 6) 1),0,(some (some 55,false))⟩),(⟨[63,62,6,55],TR,[63]⟩,⟨(some 63),(.load 3 (tK 62)),3,(some (some 55,false))⟩),
 (⟨[64,61,63,1,6,55],TR,[64]⟩,⟨(some 64),(.indexAddr 123 (tK 61) (tK 63)),0,(some (some 55,false))⟩),(⟨[65,64,1,55],TR,[65]⟩,⟨(some 65),(.load 125 (tK 64)),125,(some (some 55,false))⟩),(⟨[66,3,3,55],TR,[66]⟩,⟨(some 66),(.move (tK 3)),3,(some (some 55,false))⟩),(⟨[67,5,5,55],TR,[67]⟩,⟨(some 67),(.move (tK 5)),3,(some (some 55,false))⟩),(⟨[68,66,67,3,5,55],TR,[68,66,67]⟩,⟨(some 68),(.build 125 #[(0,(tK 66)),(1,(tK 67))]),125,(some (some 55,false))⟩),(⟨[69,65,68,1,68,55],TR,[69]⟩,⟨(some 69),(.binOp .neq 125 (tK 65) (tK 68) 125),4,(some (some 55,false))⟩),(⟨[70,55,69,54,69],TR,[70]⟩,oX 70 (.pick (tK 55) FR (tK 69)) 4)]) (.cond (tK 70) (.seq (.ops [oX 2 CJ 4]) .ret) .skip)))) (.ops [oB 71 .add 3 (tK 43) (iK 1) 3 3,oM 43 71 3])))
def lI:SC:= .loop Wx
def Wy:SC:= .seq (.ops [oB 34 .lss 3 (tK 33) (tK 32) 3 0]) (.seq (.cond (tK 34) .skip (.exit 0)) (.seq (.block 1 (.seq (.ops [oM 35 33 3,oI 36 45 31 33,oL 37 123 36 123,oA 3 35 3,oA 4 37 123]) (.seq (.seq (.ops [oM 38 4 123,oN 39 38 123,oB 40 .gtr 3 (tK 39) (iK 6) 3 4]) (.cond (tK 40) (.seq (.ops [oX 2 CJ 4]) .ret) .skip)) (.seq (.ops [oM 41 4 123,oN 42 41 123,oX 43 (.move (iK 0)) 3]) (.block 2 lI))))) (.ops [oB 72 .add 3 (tK 33) (iK 1) 3 3,oM 33 72 3])))
def lJ:SC:= .loop Wy
def k67:SC:= .seq (.ops [oX 1 (.box 47 (tK 0)) 0,oX 2 CJ 4]) (.seq (.seq (.ops [oF 7 47 1 0,oL 8 45 7 45,oN 9 8 45,oC 10 97 [(tK 9),(iK 1),(iK 40)] [3,3,3] 4,oX 11 (.unOp .not 4 (tK 10)) 4,oM 12 11 4,⟨(some 13),(.fieldAddr 47 (tK 1) 1),0,(some (some 12,false))⟩,⟨(some 14),(.load 26 (tK 13)),26,(some (some 12,false))⟩,⟨(some 15),aX,0,(some (some 12,false))⟩,⟨(some 16),(.load 45 (tK 15)),45,(some (some 12,false))⟩,⟨(some 17),(.call ⟨(.builtin .len), #[(tK 16)], #[45]⟩),3,(some (some 12,false))⟩,⟨(some 18),(.call ⟨(.value (.func 112)), #[(tK 14),(tK 17)], #[26,3]⟩),4,(some (some 12,false))⟩,⟨(some 19),(.unOp .not 4 (tK 18)),4,(some (some 12,false))⟩,oX 20 (.pick (tK 12) FR (tK 19)) 4,oM 21 20 4,⟨(some 22),(.fieldAddr 47 (tK 1) 2),0,(some (some 21,false))⟩,⟨(some 23),(.load 26 (tK 22)),26,(some (some 21,false))⟩,⟨(some 24),aX,0,(some (some 21,false))⟩,⟨(some 25),(.load 45 (tK 24)),45,(some (some 21,false))⟩,⟨(some 26),(.call ⟨(.builtin .len), #[(tK 25)], #[45]⟩),3,(some (some 21,false))⟩,⟨(some 27),(.call ⟨(.value (.func 113)), #[(tK 23),(tK 26)], #[26,3]⟩),4,(some (some 21,false))⟩,⟨(some 28),(.unOp .not 4 (tK 27)),4,(some (some 21,false))⟩,oX 29 (.pick (tK 21) FR (tK 28)) 4])
 (.cond (tK 29) (.seq (.ops [oX 2 CJ 4]) .ret) .skip)) (.seq (.seq (.ops [oF 30 47 1 0,oL 31 45 30 45,oN 32 31 45,oX 33 (.move (iK 0)) 3]) (.block 0 lJ)) (.seq (.ops [oX 2 (.assign FR) 4]) .ret)))
theorem A0y:Try.f67.body.map (Bi lends)=some k67:=by kernel_rfl
theorem AD8:CL Try.f67 1=true:=by kernel_rfl
theorem c67{a l:List D}{r:D×List D}(h:CK Y.env k67 (Fx Ac l.length [cc 2] r) (entry a l))(ha:a.length=1):Y.call 67 a l=some r:=
 Ab (Y:=Y) rfl Try.func67 (ha▸AD8) A0y h
def Ct(A9:Ar)(AO:AL)(AA:AL)(DU:Int)(I4:Int)(s:St):Prop:=s.v 1=D.box [bh 123 (AQ (fun x=>bh 125 (Aw .i64 .i64 x)) A9),bh 3 (AQ (bd .i64) AO),bh 3 (AQ (bd .i64) AA)]∧s.v 3=bd .i64 DU∧s.v 31=bh 123 (AQ (fun x=>bh 125 (Aw .i64 .i64 x)) A9)∧s.v 32=bd .i64 (A9.length:Int)∧s.v 33=bd .i64 DU∧s.v 41=bh 125 (Aw .i64 .i64 (A9.getD DU.toNat be))∧s.v 42=bd .i64 ((A9.getD DU.toNat be).length:Int)∧s.v 43=bd .i64 I4
def Cu(A9:Ar)(AO:AL)(AA:AL)(DU:Int)(r:Unit⊕Unit)(ex:Ex)(s:St):Prop:=match r with
 | .inl q=>ex= .ret∧s.v 2=b9 false
 | .inr q=>ex= .exit 2∧s.v 1=D.box [bh 123 (AQ (fun x=>bh 125 (Aw .i64 .i64 x)) A9),bh 3 (AQ (bd .i64) AO),bh 3 (AQ (bd .i64) AA)]∧s.v 31=bh 123 (AQ (fun x=>bh 125 (Aw .i64 .i64 x)) A9)∧s.v 32=bd .i64 (A9.length:Int)∧s.v 33=bd .i64 DU
theorem P5(A9:Ar)(AO:AL)(AA:AL)(DU:Int){v:Int}{s:St}{r:Unit⊕Unit}(h:Gx A9 AO AA DU v=some r)(hM:Ct A9 AO AA DU v s):CK Y.env lI (Cu A9 AO AA DU r) s:=by
 unfold Gx at h;refine Bc (c:=Wx) (fun v=>EJ A9 AO AA DU v) (fun v s=>Ct A9 AO AA DU v s) (Cu A9 AO AA DU) ?_ h hM;clear h hM s v r;intro I4 s o hM h;unfold EJ at h;unfold Ct at hM;obtain⟨m0,m1,m2,m3,m4,m5,m6,m7⟩:=hM;unfold Wx;by_cases e11:I4<((A9.getD DU.toNat be).length:Int)
 ·rw [if_pos e11]at h;obtain⟨e12,h⟩:=Bw h;obtain⟨az,hl13,h⟩:=BA h;try dsimp only at h
  have c13:=Lu A9 AO AA (BJ (A9.getD DU.toNat be) I4.toNat) (CG (A9.getD DU.toNat be) I4.toNat) hl13;by_cases e14:az=true
  ·rw [if_pos e14]at h;obtain⟨e15,h⟩:=Bw h;obtain⟨e16,h⟩:=Bw h;by_cases e17:(((BJ (A9.getD ((BJ (A9.getD DU.toNat be) I4.toNat).toNat) be) ((CG (A9.getD DU.toNat be) I4.toNat).toNat))==DU)&&((CG (A9.getD ((BJ (A9.getD DU.toNat be) I4.toNat).toNat) be) ((CG (A9.getD DU.toNat be) I4.toNat).toNat))==I4))=true
   ·rw [if_pos e17]at h
    obtain rfl:=Option.some.inj h
    simp (maxDischargeDepth:=9) only [↓AP,AR,Ai,↓reduceIte,bj,bk,bl,bm,bo,bp,br,bt,bw,bx,bO,b0,b3,b4,b5,b6,b7,m0,m1,m2,m3,m4,m5,m6,m7,e11,e12.1,e12.2,c13,e14,e15.1,e15.2,e16.1,e16.2,e17,Ct,Cu,Cm,Cn,Co]<;>(repeat' apply A7)<;>first|rfl|exact⟨_,rfl⟩|exact⟨_,_,rfl⟩|simp [AQ,A8]
   ·rw [if_neg e17]at h;have e17f:(((BJ (A9.getD ((BJ (A9.getD DU.toNat be) I4.toNat).toNat) be) ((CG (A9.getD DU.toNat be) I4.toNat).toNat))==DU)&&((CG (A9.getD ((BJ (A9.getD DU.toNat be) I4.toNat).toNat) be) ((CG (A9.getD DU.toNat be) I4.toNat).toNat))==I4))=false:=JF.mpr e17
    obtain rfl:=Option.some.inj h
    simp (maxDischargeDepth:=9) only [↓AP,AR,Ai,↓reduceIte,bj,bk,bl,bm,bo,bp,br,bt,bw,bx,bO,b0,b3,b4,b5,b6,b7,m0,m1,m2,m3,m4,m5,m6,m7,e11,e12.1,e12.2,c13,e14,e15.1,e15.2,e16.1,e16.2,e17f,Ct,Cu,Cm,Cn,Co]<;>(repeat' apply A7)<;>first|rfl|exact⟨_,rfl⟩|exact⟨_,_,rfl⟩|simp [AQ,A8]
  ·rw [if_neg e14]at h;have e14f:az=false:=JF.mpr e14
   obtain rfl:=Option.some.inj h
   simp (maxDischargeDepth:=9) only [↓AP,AR,Ai,↓reduceIte,bj,bk,bl,bm,bo,bp,br,bt,bw,bx,bO,b0,b3,b4,b5,b6,b7,m0,m1,m2,m3,m4,m5,m6,m7,e11,e12.1,e12.2,c13,e14f,Ct,Cu,Cm,Cn,Co]<;>(repeat' apply A7)<;>first|rfl|exact⟨_,rfl⟩|exact⟨_,_,rfl⟩|simp [AQ,A8]
 ·rw [if_neg e11]at h
  obtain rfl:=Option.some.inj h
  simp (maxDischargeDepth:=9) only [↓AP,AR,Ai,↓reduceIte,bj,bk,bl,bm,bo,bp,br,bt,bw,bx,bO,b0,b3,b4,b5,b6,b7,m0,m1,m2,m3,m4,m5,m6,m7,e11,Ct,Cu,Cm,Cn,Co]<;>(repeat' apply A7)<;>first|rfl|exact⟨_,rfl⟩|exact⟨_,_,rfl⟩|simp [AQ,A8]
def Cv(A9:Ar)(AO:AL)(AA:AL)(DU:Int)(s:St):Prop:=s.v 1=D.box [bh 123 (AQ (fun x=>bh 125 (Aw .i64 .i64 x)) A9),bh 3 (AQ (bd .i64) AO),bh 3 (AQ (bd .i64) AA)]∧s.v 31=bh 123 (AQ (fun x=>bh 125 (Aw .i64 .i64 x)) A9)∧s.v 32=bd .i64 (A9.length:Int)∧s.v 33=bd .i64 DU
def Cw(A9:Ar)(AO:AL)(AA:AL)(r:Unit⊕Unit)(ex:Ex)(s:St):Prop:=match r with
 | .inl q=>ex= .ret∧s.v 2=b9 false
 | .inr q=>ex= .exit 0
theorem P6(A9:Ar)(AO:AL)(AA:AL){v:Int}{s:St}{r:Unit⊕Unit}(h:Gy A9 AO AA v=some r)(hM:Cv A9 AO AA v s):CK Y.env lJ (Cw A9 AO AA r) s:=by
 unfold Gy at h;refine Bc (c:=Wy) (fun v=>EK A9 AO AA v) (fun v s=>Cv A9 AO AA v s) (Cw A9 AO AA) ?_ h hM;clear h hM s v r;intro DU s o hM h;unfold EK at h;unfold Cv at hM;obtain⟨m0,m1,m2,m3⟩:=hM;unfold Wy;by_cases e8:DU<(A9.length:Int)
 ·rw [if_pos e8]at h;obtain⟨e9,h⟩:=Bw h;by_cases e10:6<((A9.getD DU.toNat be).length:Int)
  ·rw [if_pos e10]at h
   obtain rfl:=Option.some.inj h
   simp (maxDischargeDepth:=9) only [↓AP,AR,Ai,↓reduceIte,bj,bk,bl,bm,bo,bp,br,bt,bw,bx,bO,b0,b3,b4,b5,b6,b7,m0,m1,m2,m3,e8,e9.1,e9.2,e10,Cv,Cw,Cm,Cn,Co]<;>(repeat' apply A7)<;>first|rfl|exact⟨_,rfl⟩|exact⟨_,_,rfl⟩|simp [AQ,A8]
  ·rw [if_neg e10]at h;obtain⟨AZ,hl12,h⟩:=BA h;try dsimp only at h
   simp (maxDischargeDepth:=9) only [↓AP,AR,Ai,↓reduceIte,bj,bk,bl,bm,bo,bp,br,bt,bw,bx,bO,b0,b3,b4,b5,b6,b7,m0,m1,m2,m3,e8,e9.1,e9.2,e10];refine BM (P5 A9 AO AA DU hl12 ?_) ?_
   ·simp (maxDischargeDepth:=9) only [↓AP,AR,Ai,↓reduceIte,bj,bk,bl,bm,bo,bp,br,bt,bw,bx,bO,b0,b3,b4,b5,b6,b7,m0,m1,m2,m3,e8,e9.1,e9.2,e10,Ct]<;>(repeat' apply A7)<;>first|rfl|exact⟨_,rfl⟩|exact⟨_,_,rfl⟩|simp [AQ,A8]
   ·intro ex12 s12 hX12;rcases AZ with q1000_|q1000_
    ·unfold Cu at hX12;dsimp only at hX12 h;obtain⟨rfl,n12_0⟩:=hX12
     obtain rfl:=Option.some.inj h
     simp (maxDischargeDepth:=9) only [↓AP,AR,Ai,↓reduceIte,bj,bk,bl,bm,bo,bp,br,bt,bw,bx,bO,b0,b3,b4,b5,b6,b7,e8,e9.1,e9.2,e10,n12_0,Cv,Cw,Cm,Cn,Co]<;>(repeat' apply A7)<;>first|rfl|exact⟨_,rfl⟩|exact⟨_,_,rfl⟩|simp [AQ,A8]
    ·unfold Cu at hX12;dsimp only at hX12 h;obtain⟨rfl,n12_0,n12_1,n12_2,n12_3⟩:=hX12
     obtain rfl:=Option.some.inj h
     simp (maxDischargeDepth:=9) only [↓AP,AR,Ai,↓reduceIte,bj,bk,bl,bm,bo,bp,br,bt,bw,bx,bO,b0,b3,b4,b5,b6,b7,e8,e9.1,e9.2,e10,n12_0,n12_1,n12_2,n12_3,Cv,Cw,Cm,Cn,Co]<;>(repeat' apply A7)<;>first|rfl|exact⟨_,rfl⟩|exact⟨_,_,rfl⟩|simp [AQ,A8]
 ·rw [if_neg e8]at h
  obtain rfl:=Option.some.inj h
  simp (maxDischargeDepth:=9) only [↓AP,AR,Ai,↓reduceIte,bj,bk,bl,bm,bo,bp,br,bt,bw,bx,bO,b0,b3,b4,b5,b6,b7,m0,m1,m2,m3,e8,Cv,Cw,Cm,Cn,Co]<;>(repeat' apply A7)<;>first|rfl|exact⟨_,rfl⟩|exact⟨_,_,rfl⟩|simp [AQ,A8]
theorem Pt(A9:Ar)(AO:AL)(AA:AL){r:Bool}(h:KY A9 AO AA=some r):Y.call 67 [ce [bh 123 (AQ (fun x=>bh 125 (Aw .i64 .i64 x)) A9),bh 3 (AQ (bd .i64) AO),bh 3 (AQ (bd .i64) AA)]] []=some (b9 r,[]):=by
 refine c67 ?_ rfl;unfold k67;unfold KY at h;have c1:=Gu (A9.length:Int) (1:Int) (40:Int);by_cases e2:(IG (A9.length:Int) (1:Int) (40:Int))=true
 ·rw [if_pos e2]at h;obtain⟨e3,h⟩:=Bw h;have c4:=av AO (A9.length:Int) e3;by_cases e5:(O8 AO (A9.length:Int))=true
  ·rw [if_pos e5]at h;obtain⟨Yo,hl6,h⟩:=BA h;try dsimp only at h
   have c6:=Qo AA (A9.length:Int) hl6;by_cases e7:Yo=true
   ·rw [if_pos e7]at h;obtain⟨CW,hl9,h⟩:=BA h;try dsimp only at h
    simp (maxDischargeDepth:=9) only [↓AP,AR,Ai,↓reduceIte,bj,bk,bl,bm,bo,bp,br,bt,bw,bx,bO,b0,b3,b4,b5,b6,b7,c1,e2,e3,c4,e5,c6,e7];refine BM (P6 A9 AO AA hl9 ?_) ?_
    ·simp (maxDischargeDepth:=9) only [↓AP,AR,Ai,↓reduceIte,bj,bk,bl,bm,bo,bp,br,bt,bw,bx,bO,b0,b3,b4,b5,b6,b7,c1,e2,e3,c4,e5,c6,e7,Cv]<;>(repeat' apply A7)<;>first|rfl|exact⟨_,rfl⟩|exact⟨_,_,rfl⟩|simp [AQ,A8]
    ·intro ex9 s9 hX9;rcases CW with q1001_|q1001_
     ·unfold Cw at hX9;dsimp only at hX9 h;obtain⟨rfl,n9_0⟩:=hX9
      obtain rfl:=Option.some.inj h
      simp (maxDischargeDepth:=9) only [↓AP,AR,Ai,↓reduceIte,bj,bk,bl,bm,bo,bp,br,bt,bw,bx,bO,b0,b3,b4,b5,b6,b7,c1,e2,e3,c4,e5,c6,e7,n9_0]<;>(repeat' apply A7)<;>first|rfl|exact⟨_,rfl⟩|exact⟨_,_,rfl⟩|simp [AQ,A8]
     ·unfold Cw at hX9;dsimp only at hX9 h
      obtain rfl:=hX9
      obtain rfl:=Option.some.inj h
      simp (maxDischargeDepth:=9) only [↓AP,AR,Ai,↓reduceIte,bj,bk,bl,bm,bo,bp,br,bt,bw,bx,bO,b0,b3,b4,b5,b6,b7,c1,e2,e3,c4,e5,c6,e7]<;>(repeat' apply A7)<;>first|rfl|exact⟨_,rfl⟩|exact⟨_,_,rfl⟩|simp [AQ,A8]
   ·rw [if_neg e7]at h;have e7f:Yo=false:=JF.mpr e7
    obtain rfl:=Option.some.inj h
    simp (maxDischargeDepth:=9) only [↓AP,AR,Ai,↓reduceIte,bj,bk,bl,bm,bo,bp,br,bt,bw,bx,bO,b0,b3,b4,b5,b6,b7,c1,e2,e3,c4,e5,c6,e7f]<;>(repeat' apply A7)<;>first|rfl|exact⟨_,rfl⟩|exact⟨_,_,rfl⟩|simp [AQ,A8]
  ·rw [if_neg e5]at h;have e5f:(O8 AO (A9.length:Int))=false:=JF.mpr e5
   obtain rfl:=Option.some.inj h
   simp (maxDischargeDepth:=9) only [↓AP,AR,Ai,↓reduceIte,bj,bk,bl,bm,bo,bp,br,bt,bw,bx,bO,b0,b3,b4,b5,b6,b7,c1,e2,e3,c4,e5f]<;>(repeat' apply A7)<;>first|rfl|exact⟨_,rfl⟩|exact⟨_,_,rfl⟩|simp [AQ,A8]
 ·rw [if_neg e2]at h;have e2f:(IG (A9.length:Int) (1:Int) (40:Int))=false:=JF.mpr e2
  obtain rfl:=Option.some.inj h
  simp (maxDischargeDepth:=9) only [↓AP,AR,Ai,↓reduceIte,bj,bk,bl,bm,bo,bp,br,bt,bw,bx,bO,b0,b3,b4,b5,b6,b7,c1,e2f]<;>(repeat' apply A7)<;>first|rfl|exact⟨_,rfl⟩|exact⟨_,_,rfl⟩|simp [AQ,A8]
def GL(A9:Ar)(AO:AL)(AA:AL)(Ci:Int)(FT:Int):Option ((Int)⊕(Unit⊕Unit)):= if FT<((A9.getD Ci.toNat be).length:Int)then ck (0≤FT∧FT.toNat<(A9.getD Ci.toNat be).length)<| if(IG (BJ (A9.getD Ci.toNat be) FT.toNat) (0:Int) (ca.wrap ((A9.length:Int)-1)))=true then ck (0≤(BJ (A9.getD Ci.toNat be) FT.toNat)∧(BJ (A9.getD Ci.toNat be) FT.toNat).toNat<A9.length)<| if(IG (CG (A9.getD Ci.toNat be) FT.toNat) (0:Int) (ca.wrap (((A9.getD ((BJ (A9.getD Ci.toNat be) FT.toNat).toNat) be).length:Int)-1)))=true then ck (0≤(CG (A9.getD Ci.toNat be) FT.toNat)∧(CG (A9.getD Ci.toNat be) FT.toNat).toNat<(A9.getD ((BJ (A9.getD Ci.toNat be) FT.toNat).toNat) be).length)<| if(((BJ (A9.getD ((BJ (A9.getD Ci.toNat be) FT.toNat).toNat) be) ((CG (A9.getD Ci.toNat be) FT.toNat).toNat))==Ci)&&((CG (A9.getD ((BJ (A9.getD Ci.toNat be) FT.toNat).toNat) be) ((CG (A9.getD Ci.toNat be) FT.toNat).toNat))==FT))=true then some (cb (ca.wrap (FT+1))) else some (b8 (cb ())) else some (b8 (cb ())) else some (b8 (cb ())) else some (b8 (b8 ()))
def JO(A9:Ar)(AO:AL)(AA:AL)(Ci:Int)(v:Int):Option (Unit⊕Unit):=Io (fun v=>GL A9 AO AA Ci v) v
def GM(A9:Ar)(AO:AL)(AA:AL)(Ci:Int):Option ((Int)⊕(Unit⊕Unit)):=
 if Ci<(A9.length:Int)then
  ck (0≤Ci∧Ci.toNat<A9.length)<|
  if 6<((A9.getD Ci.toNat be).length:Int)then
   some (b8 (cb ()))
  else
   (JO A9 AO AA Ci 0).bind fun AZ=>
   match AZ with
   | .inl q1000_=>
    some (b8 (cb ()))
   | .inr q1000_=>
    some (cb (ca.wrap (Ci+1)))
 else
  some (b8 (b8 ()))
def JP(A9:Ar)(AO:AL)(AA:AL)(v:Int):Option (Unit⊕Unit):=Io (fun v=>GM A9 AO AA v) v
def P7(A9:Ar)(AO:AL)(AA:AL):Option (Bool):=
 if(IG (A9.length:Int) (1:Int) (40:Int))=true then
  ck (AO.length<1099511627776)<|
  if(O8 AO (A9.length:Int))=true then
   if(AA.length:Int)=(A9.length:Int)then
    ck (AA.length<1099511627776)<|
    if(EA AA (0:Int) (9:Int))=true then
     (JP A9 AO AA 0).bind fun CW=>
     match CW with
     | .inl q1001_=>
      some false
     | .inr q1001_=>
      some true
    else
     some false
   else
    some false
  else
   some false
 else
  some false
abbrev ME:List Nat:=[54,55,56,57,58,59,60,61,62,63,64,65,66,67,68,69,70,71,72,73,74,75,76,77,78,79,80,81,82,83,84,85,86,87,88,89,87,88,90,91]
def Wz:SC:= .seq (.ops [oB 50 .lss 3 (tK 49) (tK 48) 3 0]) (.seq (.cond (tK 50) .skip (.exit 2)) (.seq (.block 3 (.seq (.ops [oM 51 49 3,oI 52 123 47 49,oL 53 125 52 125,oX 6 (.alloc 125) 0,oA 5 51 3,oS 125 6 53]) (.seq (.draws [(⟨[54,6,6],ME,[54]⟩,oF 54 125 6 0),(⟨[55,54,6],ME,[55]⟩,oL 55 3 54 3),(⟨[56,1,1],ME,[56]⟩,oF 56 47 1 0),(⟨[57,56,1],ME,[57]⟩,oL 57 45 56 45),(⟨[58,57,1],ME,[58]⟩,oN 58 57 45),(⟨[59,58,58],ME,[59]⟩,oB 59 .sub 3 (tK 58) (iK 1) 3 3),(⟨[60,55,59,6,59],ME,[60]⟩,oC 60 92 [(tK 55),(iK 0),(tK 59)] [3,3,3] 4),(⟨[61,60,60],ME,[61]⟩,oX 61 (.unOp .not 4 (tK 60)) 4),(⟨[62,61,61],ME,[62]⟩,oM 62 61 4),(⟨[63,6,6,62],ME,[63]⟩,⟨(some 63),(.fieldAddr 125 (tK 6) 1),0,(some (some 62,false))⟩),(⟨[64,63,6,62],ME,[64]⟩,⟨(some 64),(.load 3 (tK 63)),3,(some (some 62,false))⟩),(⟨[65,1,1,62],ME,[65]⟩,⟨(some 65),aX,0,(some (some 62,false))⟩),(⟨[66,65,1,62],ME,[66]⟩,⟨(some 66),(.load 45 (tK 65)),45,(some (some 62,false))⟩),(⟨[67,6,6,62],ME,[67]⟩,⟨(some 67),(.fieldAddr 125 (tK 6) 0),0,(some (some 62,false))⟩),(⟨[68,67,6,62],ME,[68]⟩,⟨(some 68),(.load 3 (tK 67)),3,(some (some 62,false))⟩),(⟨[69,66,68,1,6,62],ME,[69]⟩,⟨(some 69),(.indexAddr 45 (tK 66) (tK 68)),0,(some (some 62,false))⟩),
 (⟨[70,69,1,62],ME,[70]⟩,⟨(some 70),(.load 123 (tK 69)),123,(some (some 62,false))⟩),(⟨[71,70,1,62],ME,[71]⟩,⟨(some 71),(.call ⟨(.builtin .len), #[(tK 70)], #[123]⟩),3,(some (some 62,false))⟩),(⟨[72,71,71,62],ME,[72]⟩,⟨(some 72),(.binOp .sub 3 (tK 71) (iK 1) 3),3,(some (some 62,false))⟩),(⟨[73,64,72,6,72,62],ME,[73]⟩,⟨(some 73),(.call ⟨(.value (.func 92)), #[(tK 64),(iK 0),(tK 72)], #[3,3,3]⟩),4,(some (some 62,false))⟩),(⟨[74,73,73,62],ME,[74]⟩,⟨(some 74),(.unOp .not 4 (tK 73)),4,(some (some 62,false))⟩),(⟨[75,62,74,61,74],ME,[75]⟩,oX 75 (.pick (tK 62) FR (tK 74)) 4),(⟨[76,75,75],ME,[76]⟩,oM 76 75 4),(⟨[77,1,1,76],ME,[77]⟩,⟨(some 77),aX,0,(some (some 76,false))⟩),(⟨[78,77,1,76],ME,[78]⟩,⟨(some 78),(.load 45 (tK 77)),45,(some (some 76,false))⟩),(⟨[79,6,6,76],ME,[79]⟩,⟨(some 79),(.fieldAddr 125 (tK 6) 0),0,(some (some 76,false))⟩),(⟨[80,79,6,76],ME,[80]⟩,⟨(some 80),(.load 3 (tK 79)),3,(some (some 76,false))⟩),(⟨[81,78,80,1,6,76],ME,[81]⟩,⟨(some 81),(.indexAddr 45 (tK 78) (tK 80)),0,(some (some 76,false))⟩),(⟨[82,81,1,76],ME,[82]⟩,⟨(some 82),(.load 123 (tK 81)),123,(some (some 76,false))⟩),(⟨[83,6,6,76],ME,[83]⟩,⟨(some 83),(.fieldAddr 125 (tK 6) 1),0,(some (some 76,false))⟩),
 (⟨[84,83,6,76],ME,[84]⟩,⟨(some 84),(.load 3 (tK 83)),3,(some (some 76,false))⟩),(⟨[85,82,84,1,6,76],ME,[85]⟩,⟨(some 85),(.indexAddr 123 (tK 82) (tK 84)),0,(some (some 76,false))⟩),(⟨[86,85,1,76],ME,[86]⟩,⟨(some 86),(.load 125 (tK 85)),125,(some (some 76,false))⟩),(⟨[87,3,3,76],ME,[87]⟩,⟨(some 87),(.move (tK 3)),3,(some (some 76,false))⟩),(⟨[88,5,5,76],ME,[88]⟩,⟨(some 88),(.move (tK 5)),3,(some (some 76,false))⟩),(⟨[89,87,88,3,5,76],ME,[89,87,88]⟩,⟨(some 89),(.build 125 #[(0,(tK 87)),(1,(tK 88))]),125,(some (some 76,false))⟩),(⟨[90,86,89,1,89,76],ME,[90]⟩,⟨(some 90),(.binOp .neq 125 (tK 86) (tK 89) 125),4,(some (some 76,false))⟩),(⟨[91,76,90,75,90],ME,[91]⟩,oX 91 (.pick (tK 76) FR (tK 90)) 4)]) (.cond (tK 91) (.seq (.ops [oX 2 CJ 4]) .ret) .skip)))) (.ops [oB 92 .add 3 (tK 49) (iK 1) 3 3,oM 49 92 3])))
def lK:SC:= .loop Wz
def X0:SC:= .seq (.ops [oB 40 .lss 3 (tK 39) (tK 38) 3 0]) (.seq (.cond (tK 40) .skip (.exit 0)) (.seq (.block 1 (.seq (.ops [oM 41 39 3,oI 42 45 37 39,oL 43 123 42 123,oA 3 41 3,oA 4 43 123]) (.seq (.seq (.ops [oM 44 4 123,oN 45 44 123,oB 46 .gtr 3 (tK 45) (iK 6) 3 4]) (.cond (tK 46) (.seq (.ops [oX 2 CJ 4]) .ret) .skip)) (.seq (.ops [oM 47 4 123,oN 48 47 123,oX 49 (.move (iK 0)) 3]) (.block 2 lK))))) (.ops [oB 93 .add 3 (tK 39) (iK 1) 3 3,oM 39 93 3])))
def lL:SC:= .loop X0
def k60:SC:= .seq (.ops [oX 1 (.box 47 (tK 0)) 0,oX 2 CJ 4]) (.seq (.seq (.ops [oF 7 47 1 0,oL 8 45 7 45,oN 9 8 45,oC 10 92 [(tK 9),(iK 1),(iK 40)] [3,3,3] 4,oX 11 (.unOp .not 4 (tK 10)) 4,oM 12 11 4,⟨(some 13),(.fieldAddr 47 (tK 1) 1),0,(some (some 12,false))⟩,⟨(some 14),(.load 26 (tK 13)),26,(some (some 12,false))⟩,⟨(some 15),aX,0,(some (some 12,false))⟩,⟨(some 16),(.load 45 (tK 15)),45,(some (some 12,false))⟩,⟨(some 17),(.call ⟨(.builtin .len), #[(tK 16)], #[45]⟩),3,(some (some 12,false))⟩,⟨(some 18),(.call ⟨(.value (.func 106)), #[(tK 14),(tK 17)], #[26,3]⟩),4,(some (some 12,false))⟩,⟨(some 19),(.unOp .not 4 (tK 18)),4,(some (some 12,false))⟩,oX 20 (.pick (tK 12) FR (tK 19)) 4,oM 21 20 4,⟨(some 22),(.fieldAddr 47 (tK 1) 2),0,(some (some 21,false))⟩,⟨(some 23),(.load 26 (tK 22)),26,(some (some 21,false))⟩,⟨(some 24),(.call ⟨(.builtin .len), #[(tK 23)], #[26]⟩),3,(some (some 21,false))⟩,⟨(some 25),aX,0,(some (some 21,false))⟩,⟨(some 26),(.load 45 (tK 25)),45,(some (some 21,false))⟩,⟨(some 27),(.call ⟨(.builtin .len), #[(tK 26)], #[45]⟩),3,(some (some 21,false))⟩,⟨(some 28),(.binOp .neq 3 (tK 24) (tK 27) 3),4,(some (some 21,false))⟩,oX 29 (.pick (tK 21) FR (tK 28)) 4,
 oM 30 29 4,⟨(some 31),(.fieldAddr 47 (tK 1) 2),0,(some (some 30,false))⟩,⟨(some 32),(.load 26 (tK 31)),26,(some (some 30,false))⟩,⟨(some 33),(.call ⟨(.value (.func 107)), #[(tK 32),(iK 0),(iK 9)], #[26,3,3]⟩),4,(some (some 30,false))⟩,⟨(some 34),(.unOp .not 4 (tK 33)),4,(some (some 30,false))⟩,oX 35 (.pick (tK 30) FR (tK 34)) 4]) (.cond (tK 35) (.seq (.ops [oX 2 CJ 4]) .ret) .skip)) (.seq (.seq (.ops [oF 36 47 1 0,oL 37 45 36 45,oN 38 37 45,oX 39 (.move (iK 0)) 3]) (.block 0 lL)) (.seq (.ops [oX 2 (.assign FR) 4]) .ret)))
theorem A0z:Try.f60.body.map (Bi lends)=some k60:=by kernel_rfl
theorem ADA:CL Try.f60 1=true:=by kernel_rfl
theorem c60{a l:List D}{r:D×List D}(h:CK Y.env k60 (Fx Ac l.length [cc 2] r) (entry a l))(ha:a.length=1):Y.call 60 a l=some r:=
 Ab (Y:=Y) rfl Try.func60 (ha▸ADA) A0z h
def Db(A9:Ar)(AO:AL)(AA:AL)(Ci:Int)(FT:Int)(s:St):Prop:=s.v 1=D.box [bh 123 (AQ (fun x=>bh 125 (Aw .i64 .i64 x)) A9),bh 3 (AQ (bd .i64) AO),bh 3 (AQ (bd .i64) AA)]∧s.v 3=bd .i64 Ci∧s.v 37=bh 123 (AQ (fun x=>bh 125 (Aw .i64 .i64 x)) A9)∧s.v 38=bd .i64 (A9.length:Int)∧s.v 39=bd .i64 Ci∧s.v 47=bh 125 (Aw .i64 .i64 (A9.getD Ci.toNat be))∧s.v 48=bd .i64 ((A9.getD Ci.toNat be).length:Int)∧s.v 49=bd .i64 FT
def Dc(A9:Ar)(AO:AL)(AA:AL)(Ci:Int)(r:Unit⊕Unit)(ex:Ex)(s:St):Prop:=match r with
 | .inl q=>ex= .ret∧s.v 2=b9 false
 | .inr q=>ex= .exit 2∧s.v 1=D.box [bh 123 (AQ (fun x=>bh 125 (Aw .i64 .i64 x)) A9),bh 3 (AQ (bd .i64) AO),bh 3 (AQ (bd .i64) AA)]∧s.v 37=bh 123 (AQ (fun x=>bh 125 (Aw .i64 .i64 x)) A9)∧s.v 38=bd .i64 (A9.length:Int)∧s.v 39=bd .i64 Ci
theorem TS(A9:Ar)(AO:AL)(AA:AL)(Ci:Int){v:Int}{s:St}{r:Unit⊕Unit}(h:JO A9 AO AA Ci v=some r)(hM:Db A9 AO AA Ci v s):CK Y.env lK (Dc A9 AO AA Ci r) s:=by
 unfold JO at h;refine Bc (c:=Wz) (fun v=>GL A9 AO AA Ci v) (fun v s=>Db A9 AO AA Ci v s) (Dc A9 AO AA Ci) ?_ h hM;clear h hM s v r;intro FT s o hM h;unfold GL at h;unfold Db at hM;obtain⟨m0,m1,m2,m3,m4,m5,m6,m7⟩:=hM;unfold Wz;by_cases e13:FT<((A9.getD Ci.toNat be).length:Int)
 ·rw [if_pos e13]at h;obtain⟨e14,h⟩:=Bw h;have c15:=J7 (BJ (A9.getD Ci.toNat be) FT.toNat) (0:Int) (ca.wrap ((A9.length:Int)-1));by_cases e16:(IG (BJ (A9.getD Ci.toNat be) FT.toNat) (0:Int) (ca.wrap ((A9.length:Int)-1)))=true
  ·rw [if_pos e16]at h;obtain⟨e17,h⟩:=Bw h;have Z4:=J7 (CG (A9.getD Ci.toNat be) FT.toNat) (0:Int) (ca.wrap (((A9.getD ((BJ (A9.getD Ci.toNat be) FT.toNat).toNat) be).length:Int)-1));by_cases e19:(IG (CG (A9.getD Ci.toNat be) FT.toNat) (0:Int) (ca.wrap (((A9.getD ((BJ (A9.getD Ci.toNat be) FT.toNat).toNat) be).length:Int)-1)))=true
   ·rw [if_pos e19]at h;obtain⟨e20,h⟩:=Bw h;by_cases e21:(((BJ (A9.getD ((BJ (A9.getD Ci.toNat be) FT.toNat).toNat) be) ((CG (A9.getD Ci.toNat be) FT.toNat).toNat))==Ci)&&((CG (A9.getD ((BJ (A9.getD Ci.toNat be) FT.toNat).toNat) be) ((CG (A9.getD Ci.toNat be) FT.toNat).toNat))==FT))=true
    ·rw [if_pos e21]at h
     obtain rfl:=Option.some.inj h
     simp (maxDischargeDepth:=9) only [↓AP,AR,Ai,↓reduceIte,bj,bk,bl,bm,bo,bp,br,bt,bw,bx,bO,b0,b3,b4,b5,b6,b7,m0,m1,m2,m3,m4,m5,m6,m7,e13,e14.1,e14.2,c15,e16,e17.1,e17.2,Z4,e19,e20.1,e20.2,e21,Db,Dc,Cm,Cn,Co]<;>(repeat' apply A7)<;>first|rfl|exact⟨_,rfl⟩|exact⟨_,_,rfl⟩|simp [AQ,A8]
    ·rw [if_neg e21]at h;have e21f:(((BJ (A9.getD ((BJ (A9.getD Ci.toNat be) FT.toNat).toNat) be) ((CG (A9.getD Ci.toNat be) FT.toNat).toNat))==Ci)&&((CG (A9.getD ((BJ (A9.getD Ci.toNat be) FT.toNat).toNat) be) ((CG (A9.getD Ci.toNat be) FT.toNat).toNat))==FT))=false:=JF.mpr e21
     obtain rfl:=Option.some.inj h
     simp (maxDischargeDepth:=9) only [↓AP,AR,Ai,↓reduceIte,bj,bk,bl,bm,bo,bp,br,bt,bw,bx,bO,b0,b3,b4,b5,b6,b7,m0,m1,m2,m3,m4,m5,m6,m7,e13,e14.1,e14.2,c15,e16,e17.1,e17.2,Z4,e19,e20.1,e20.2,e21f,Db,Dc,Cm,Cn,Co]<;>(repeat' apply A7)<;>first|rfl|exact⟨_,rfl⟩|exact⟨_,_,rfl⟩|simp [AQ,A8]
   ·rw [if_neg e19]at h;have e19f:(IG (CG (A9.getD Ci.toNat be) FT.toNat) (0:Int) (ca.wrap (((A9.getD ((BJ (A9.getD Ci.toNat be) FT.toNat).toNat) be).length:Int)-1)))=false:=JF.mpr e19
    obtain rfl:=Option.some.inj h
    simp (maxDischargeDepth:=9) only [↓AP,AR,Ai,↓reduceIte,bj,bk,bl,bm,bo,bp,br,bt,bw,bx,bO,b0,b3,b4,b5,b6,b7,m0,m1,m2,m3,m4,m5,m6,m7,e13,e14.1,e14.2,c15,e16,e17.1,e17.2,Z4,e19f,Db,Dc,Cm,Cn,Co]<;>(repeat' apply A7)<;>first|rfl|exact⟨_,rfl⟩|exact⟨_,_,rfl⟩|simp [AQ,A8]
  ·rw [if_neg e16]at h;have e16f:(IG (BJ (A9.getD Ci.toNat be) FT.toNat) (0:Int) (ca.wrap ((A9.length:Int)-1)))=false:=JF.mpr e16
   obtain rfl:=Option.some.inj h
   simp (maxDischargeDepth:=9) only [↓AP,AR,Ai,↓reduceIte,bj,bk,bl,bm,bo,bp,br,bt,bw,bx,bO,b0,b3,b4,b5,b6,b7,m0,m1,m2,m3,m4,m5,m6,m7,e13,e14.1,e14.2,c15,e16f,Db,Dc,Cm,Cn,Co]<;>(repeat' apply A7)<;>first|rfl|exact⟨_,rfl⟩|exact⟨_,_,rfl⟩|simp [AQ,A8]
 ·rw [if_neg e13]at h
  obtain rfl:=Option.some.inj h
  simp (maxDischargeDepth:=9) only [↓AP,AR,Ai,↓reduceIte,bj,bk,bl,bm,bo,bp,br,bt,bw,bx,bO,b0,b3,b4,b5,b6,b7,m0,m1,m2,m3,m4,m5,m6,m7,e13,Db,Dc,Cm,Cn,Co]<;>(repeat' apply A7)<;>first|rfl|exact⟨_,rfl⟩|exact⟨_,_,rfl⟩|simp [AQ,A8]
def ED(A9:Ar)(AO:AL)(AA:AL)(Ci:Int)(s:St):Prop:=s.v 1=D.box [bh 123 (AQ (fun x=>bh 125 (Aw .i64 .i64 x)) A9),bh 3 (AQ (bd .i64) AO),bh 3 (AQ (bd .i64) AA)]∧s.v 37=bh 123 (AQ (fun x=>bh 125 (Aw .i64 .i64 x)) A9)∧s.v 38=bd .i64 (A9.length:Int)∧s.v 39=bd .i64 Ci
def EE(A9:Ar)(AO:AL)(AA:AL)(r:Unit⊕Unit)(ex:Ex)(s:St):Prop:=match r with
 | .inl q=>ex= .ret∧s.v 2=b9 false
 | .inr q=>ex= .exit 0
theorem TT(A9:Ar)(AO:AL)(AA:AL){v:Int}{s:St}{r:Unit⊕Unit}(h:JP A9 AO AA v=some r)(hM:ED A9 AO AA v s):CK Y.env lL (EE A9 AO AA r) s:=by
 unfold JP at h;refine Bc (c:=X0) (fun v=>GM A9 AO AA v) (fun v s=>ED A9 AO AA v s) (EE A9 AO AA) ?_ h hM;clear h hM s v r;intro Ci s o hM h;unfold GM at h;unfold ED at hM;obtain⟨m0,m1,m2,m3⟩:=hM;unfold X0;by_cases e10:Ci<(A9.length:Int)
 ·rw [if_pos e10]at h;obtain⟨e11,h⟩:=Bw h;by_cases e12:6<((A9.getD Ci.toNat be).length:Int)
  ·rw [if_pos e12]at h
   obtain rfl:=Option.some.inj h
   simp (maxDischargeDepth:=9) only [↓AP,AR,Ai,↓reduceIte,bj,bk,bl,bm,bo,bp,br,bt,bw,bx,bO,b0,b3,b4,b5,b6,b7,m0,m1,m2,m3,e10,e11.1,e11.2,e12,ED,EE,Cm,Cn,Co]<;>(repeat' apply A7)<;>first|rfl|exact⟨_,rfl⟩|exact⟨_,_,rfl⟩|simp [AQ,A8]
  ·rw [if_neg e12]at h;obtain⟨AZ,hl14,h⟩:=BA h;try dsimp only at h
   simp (maxDischargeDepth:=9) only [↓AP,AR,Ai,↓reduceIte,bj,bk,bl,bm,bo,bp,br,bt,bw,bx,bO,b0,b3,b4,b5,b6,b7,m0,m1,m2,m3,e10,e11.1,e11.2,e12];refine BM (TS A9 AO AA Ci hl14 ?_) ?_
   ·simp (maxDischargeDepth:=9) only [↓AP,AR,Ai,↓reduceIte,bj,bk,bl,bm,bo,bp,br,bt,bw,bx,bO,b0,b3,b4,b5,b6,b7,m0,m1,m2,m3,e10,e11.1,e11.2,e12,Db]<;>(repeat' apply A7)<;>first|rfl|exact⟨_,rfl⟩|exact⟨_,_,rfl⟩|simp [AQ,A8]
   ·intro ex14 s14 hX14;rcases AZ with q1000_|q1000_
    ·unfold Dc at hX14;dsimp only at hX14 h;obtain⟨rfl,n14_0⟩:=hX14
     obtain rfl:=Option.some.inj h
     simp (maxDischargeDepth:=9) only [↓AP,AR,Ai,↓reduceIte,bj,bk,bl,bm,bo,bp,br,bt,bw,bx,bO,b0,b3,b4,b5,b6,b7,e10,e11.1,e11.2,e12,n14_0,ED,EE,Cm,Cn,Co]<;>(repeat' apply A7)<;>first|rfl|exact⟨_,rfl⟩|exact⟨_,_,rfl⟩|simp [AQ,A8]
    ·unfold Dc at hX14;dsimp only at hX14 h;obtain⟨rfl,n14_0,n14_1,n14_2,n14_3⟩:=hX14
     obtain rfl:=Option.some.inj h
     simp (maxDischargeDepth:=9) only [↓AP,AR,Ai,↓reduceIte,bj,bk,bl,bm,bo,bp,br,bt,bw,bx,bO,b0,b3,b4,b5,b6,b7,e10,e11.1,e11.2,e12,n14_0,n14_1,n14_2,n14_3,ED,EE,Cm,Cn,Co]<;>(repeat' apply A7)<;>first|rfl|exact⟨_,rfl⟩|exact⟨_,_,rfl⟩|simp [AQ,A8]
 ·rw [if_neg e10]at h
  obtain rfl:=Option.some.inj h
  simp (maxDischargeDepth:=9) only [↓AP,AR,Ai,↓reduceIte,bj,bk,bl,bm,bo,bp,br,bt,bw,bx,bO,b0,b3,b4,b5,b6,b7,m0,m1,m2,m3,e10,ED,EE,Cm,Cn,Co]<;>(repeat' apply A7)<;>first|rfl|exact⟨_,rfl⟩|exact⟨_,_,rfl⟩|simp [AQ,A8]
theorem Uk(A9:Ar)(AO:AL)(AA:AL){r:Bool}(h:P7 A9 AO AA=some r):Y.call 60 [ce [bh 123 (AQ (fun x=>bh 125 (Aw .i64 .i64 x)) A9),bh 3 (AQ (bd .i64) AO),bh 3 (AQ (bd .i64) AA)]] []=some (b9 r,[]):=by
 refine c60 ?_ rfl;unfold k60;unfold P7 at h;have c1:=J7 (A9.length:Int) (1:Int) (40:Int);by_cases e2:(IG (A9.length:Int) (1:Int) (40:Int))=true
 ·rw [if_pos e2]at h;obtain⟨e3,h⟩:=Bw h;have c4:=ay AO (A9.length:Int) e3;by_cases e5:(O8 AO (A9.length:Int))=true
  ·rw [if_pos e5]at h;by_cases e6:(AA.length:Int)=(A9.length:Int)
   ·rw [if_pos e6]at h;obtain⟨e7,h⟩:=Bw h;have c8:=Sy AA (0:Int) (9:Int) e7;by_cases e9:(EA AA (0:Int) (9:Int))=true
    ·rw [if_pos e9]at h;obtain⟨CW,hl11,h⟩:=BA h;try dsimp only at h
     simp (maxDischargeDepth:=9) only [↓AP,AR,Ai,↓reduceIte,bj,bk,bl,bm,bo,bp,br,bt,bw,bx,bO,b0,b3,b4,b5,b6,b7,c1,e2,e3,c4,e5,decide_eq_true e6,e7,c8,e9];refine BM (TT A9 AO AA hl11 ?_) ?_
     ·simp (maxDischargeDepth:=9) only [↓AP,AR,Ai,↓reduceIte,bj,bk,bl,bm,bo,bp,br,bt,bw,bx,bO,b0,b3,b4,b5,b6,b7,c1,e2,e3,c4,e5,decide_eq_true e6,e7,c8,e9,ED]<;>(repeat' apply A7)<;>first|rfl|exact⟨_,rfl⟩|exact⟨_,_,rfl⟩|simp [AQ,A8]
     ·intro ex11 s11 hX11;rcases CW with q1001_|q1001_
      ·unfold EE at hX11;dsimp only at hX11 h;obtain⟨rfl,n11_0⟩:=hX11
       obtain rfl:=Option.some.inj h
       simp (maxDischargeDepth:=9) only [↓AP,AR,Ai,↓reduceIte,bj,bk,bl,bm,bo,bp,br,bt,bw,bx,bO,b0,b3,b4,b5,b6,b7,c1,e2,e3,c4,e5,decide_eq_true e6,e7,c8,e9,n11_0]<;>(repeat' apply A7)<;>first|rfl|exact⟨_,rfl⟩|exact⟨_,_,rfl⟩|simp [AQ,A8]
      ·unfold EE at hX11;dsimp only at hX11 h
       obtain rfl:=hX11
       obtain rfl:=Option.some.inj h
       simp (maxDischargeDepth:=9) only [↓AP,AR,Ai,↓reduceIte,bj,bk,bl,bm,bo,bp,br,bt,bw,bx,bO,b0,b3,b4,b5,b6,b7,c1,e2,e3,c4,e5,decide_eq_true e6,e7,c8,e9]<;>(repeat' apply A7)<;>first|rfl|exact⟨_,rfl⟩|exact⟨_,_,rfl⟩|simp [AQ,A8]
    ·rw [if_neg e9]at h;have e9f:(EA AA (0:Int) (9:Int))=false:=JF.mpr e9
     obtain rfl:=Option.some.inj h
     simp (maxDischargeDepth:=9) only [↓AP,AR,Ai,↓reduceIte,bj,bk,bl,bm,bo,bp,br,bt,bw,bx,bO,b0,b3,b4,b5,b6,b7,c1,e2,e3,c4,e5,decide_eq_true e6,e7,c8,e9f]<;>(repeat' apply A7)<;>first|rfl|exact⟨_,rfl⟩|exact⟨_,_,rfl⟩|simp [AQ,A8]
   ·rw [if_neg e6]at h
    obtain rfl:=Option.some.inj h
    simp (maxDischargeDepth:=9) only [↓AP,AR,Ai,↓reduceIte,bj,bk,bl,bm,bo,bp,br,bt,bw,bx,bO,b0,b3,b4,b5,b6,b7,c1,e2,e3,c4,e5,e6]<;>(repeat' apply A7)<;>first|rfl|exact⟨_,rfl⟩|exact⟨_,_,rfl⟩|simp [AQ,A8]
  ·rw [if_neg e5]at h;have e5f:(O8 AO (A9.length:Int))=false:=JF.mpr e5
   obtain rfl:=Option.some.inj h
   simp (maxDischargeDepth:=9) only [↓AP,AR,Ai,↓reduceIte,bj,bk,bl,bm,bo,bp,br,bt,bw,bx,bO,b0,b3,b4,b5,b6,b7,c1,e2,e3,c4,e5f]<;>(repeat' apply A7)<;>first|rfl|exact⟨_,rfl⟩|exact⟨_,_,rfl⟩|simp [AQ,A8]
 ·rw [if_neg e2]at h;have e2f:(IG (A9.length:Int) (1:Int) (40:Int))=false:=JF.mpr e2
  obtain rfl:=Option.some.inj h
  simp (maxDischargeDepth:=9) only [↓AP,AR,Ai,↓reduceIte,bj,bk,bl,bm,bo,bp,br,bt,bw,bx,bO,b0,b3,b4,b5,b6,b7,c1,e2f]<;>(repeat' apply A7)<;>first|rfl|exact⟨_,rfl⟩|exact⟨_,_,rfl⟩|simp [AQ,A8]
def P8(es:Ar)(v i:Nat):Bool:=
 IG (BJ (es.getD v be) i) 0 ((es.length:Int)-1)&&
 (IG (CG (es.getD v be) i) 0 (((es.getD (BJ (es.getD v be) i).toNat be).length:Int)-1)&&
 ((BJ (es.getD (BJ (es.getD v be) i).toNat be) (CG (es.getD v be) i).toNat==(v:Int))&&(CG (es.getD (BJ (es.getD v be) i).toNat be) (CG (es.getD v be) i).toNat==(i:Int))))
theorem Pv(es:Ar)(v i:Nat):P8 es v i=(IG (BJ (es.getD v be) i) 0 ((es.length:Int)-1)&&
 (IG (CG (es.getD v be) i) 0 (((es.getD (BJ (es.getD v be) i).toNat be).length:Int)-1)&&
 ((BJ (es.getD (BJ (es.getD v be) i).toNat be) (CG (es.getD v be) i).toNat==(v:Int))&&(CG (es.getD (BJ (es.getD v be) i).toNat be) (CG (es.getD v be) i).toNat==(i:Int))))):=rfl
def P9(es:Ar)(v:Nat):Bool:=decide ((es.getD v be).length≤6)&&(an (es.getD v be).length).all (P8 es v)
theorem NL(es:Ar)(v:Nat):P9 es v=(decide ((es.getD v be).length≤6)&&(an (es.getD v be).length).all (P8 es v)):=rfl
def I5(es:Ar)(ids ins:AL):Bool:=
 IG es.length 1 40&&(O8 ids es.length&&(decide ((ins.length:Int)=es.length)&&(EA ins 0 9&&(an es.length).all (P9 es))))
theorem lM(es:Ar)(ids ins:AL)(h:DC es)(v:Nat):Gx es ids ins (v:Int) 0=some (if(an (es.getD v be).length).all (P8 es v)=true then .inr ()else .inl ()):=by
 have h1:=h.1;have h2:=h.getD v;unfold Gx;refine IA (fun x=>EJ es ids ins (v:Int) x) (fun i=>(i:Int)) (es.getD v be).length (P8 es v) (.inl ()) (.inr ()) ?_ ?_
 ·intro i hi;have h3:=h.getD (BJ (es.getD v be) i).toNat;simp only [EJ,Gj,Gh,Jh];rw [Pv,if_pos (Bd hi),Bu (by omega),DT,L8 _ (by omega),L8 _ (by omega),Kk i (by omega)]
  cases r1:IG (BJ (es.getD v be) i) 0 ((es.length:Int)-1)with
  |false=>simp
  |true=>
   have r1':=JE.1 r1;rw [if_pos rfl,Bu (by omega),DT]
   cases r2:IG (CG (es.getD v be) i) 0 (((es.getD (BJ (es.getD v be) i).toNat be).length:Int)-1)with
   |false=>simp
   |true=>
    have r2':=JE.1 r2;rw [if_pos rfl,Bu (by omega),Bu (by omega),OE,OE]
 ·simp only [EJ,Jh];rw [if_neg (Ap _)]
theorem lN(es:Ar)(ids ins:AL)(h:DC es)(v:Nat):JO es ids ins (v:Int) 0=some (if(an (es.getD v be).length).all (P8 es v)=true then .inr ()else .inl ()):=by
 have h1:=h.1;have h2:=h.getD v;unfold JO;refine IA (fun x=>GL es ids ins (v:Int) x) (fun i=>(i:Int)) (es.getD v be).length (P8 es v) (.inl ()) (.inr ()) ?_ ?_
 ·intro i hi;have h3:=h.getD (BJ (es.getD v be) i).toNat;simp only [GL,Jh];rw [Pv,if_pos (Bd hi),Bu (by omega),L8 _ (by omega),L8 _ (by omega),Kk i (by omega)]
  cases r1:IG (BJ (es.getD v be) i) 0 ((es.length:Int)-1)with
  |false=>simp
  |true=>
   have r1':=JE.1 r1;rw [if_pos rfl,Bu (by omega)]
   cases r2:IG (CG (es.getD v be) i) 0 (((es.getD (BJ (es.getD v be) i).toNat be).length:Int)-1)with
   |false=>simp
   |true=>
    have r2':=JE.1 r2;rw [if_pos rfl,Bu (by omega),OE,OE]
 ·simp only [GL,Jh];rw [if_neg (Ap _)]
theorem lQ(es:Ar)(ids ins:AL)(h:DC es):Gy es ids ins 0=some (if(an es.length).all (P9 es)=true then .inr ()else .inl ()):=by
 have h1:=h.1;unfold Gy;refine IA (fun x=>EK es ids ins x) (fun i=>(i:Int)) es.length (P9 es) (.inl ()) (.inr ()) ?_ ?_
 ·intro v hv;simp only [EK,Jh];rw [NL,if_pos (Bd hv),Bu (by omega),lM es ids ins h v,DT,Kk v (by omega)]
  by_cases h6:(es.getD v be).length≤6
  ·rw [if_neg (by omega),decide_eq_true h6,OE]
   cases (an (es.getD v be).length).all (P8 es v)<;>rfl
  ·rw [if_pos (by omega),decide_eq_false h6];rfl
 ·simp only [EK];rw [if_neg (Ap _)]
theorem lS(es:Ar)(ids ins:AL)(h:DC es):JP es ids ins 0=some (if(an es.length).all (P9 es)=true then .inr ()else .inl ()):=by
 have h1:=h.1;unfold JP;refine IA (fun x=>GM es ids ins x) (fun i=>(i:Int)) es.length (P9 es) (.inl ()) (.inr ()) ?_ ?_
 ·intro v hv;simp only [GM,Jh];rw [NL,if_pos (Bd hv),Bu (by omega),lN es ids ins h v,DT,Kk v (by omega)]
  by_cases h6:(es.getD v be).length≤6
  ·rw [if_neg (by omega),decide_eq_true h6,OE]
   cases (an (es.getD v be).length).all (P8 es v)<;>rfl
  ·rw [if_pos (by omega),decide_eq_false h6];rfl
 ·simp only [GM];rw [if_neg (Ap _)]
theorem TU(es:Ar)(ids ins:AL)(h:DC es)(h2:ids.length<1099511627776)(h3:ins.length<1099511627776):KY es ids ins=some (I5 es ids ins):=by
 unfold KY I5;rw [Bu h2,lQ es ids ins h];unfold Lr;rw [Bu h3]
 cases IG es.length 1 40 with
 |false=>rfl
 |true=>
  cases O8 ids es.length with
  |false=>rfl
  |true=>
   by_cases hl:(ins.length:Int)=es.length
   ·rw [if_pos hl,decide_eq_true hl]
    cases EA ins 0 9 with
    |false=>rfl
    |true=>cases (an es.length).all (P9 es)<;>rfl
   ·rw [if_neg hl,decide_eq_false hl];rfl
theorem Yp(es:Ar)(ids ins:AL)(h:DC es)(h2:ids.length<1099511627776)(h3:ins.length<1099511627776):P7 es ids ins=some (I5 es ids ins):=by
 unfold P7 I5;rw [Bu h2,Bu h3,lS es ids ins h]
 cases IG es.length 1 40 with
 |false=>rfl
 |true=>
  cases O8 ids es.length with
  |false=>rfl
  |true=>
   by_cases hl:(ins.length:Int)=es.length
   ·rw [if_pos hl,decide_eq_true hl]
    cases EA ins 0 9 with
    |false=>rfl
    |true=>cases (an es.length).all (P9 es)<;>rfl
   ·rw [if_neg hl,decide_eq_false hl];rfl
theorem TV(A9:Ar)(AO:AL)(AA:AL)(h0:DC A9)(h1:AO.length<1099511627776)(h2:AA.length<1099511627776):Y.call 67 [ce [bh 123 (AQ (fun x=>bh 125 (Aw .i64 .i64 x)) A9),bh 3 (AQ (bd .i64) AO),bh 3 (AQ (bd .i64) AA)]] []=some (b9 (I5 A9 AO AA),[]):=Pt A9 AO AA (TU A9 AO AA h0 h1 h2)
theorem Yq(A9:Ar)(AO:AL)(AA:AL)(h0:DC A9)(h1:AO.length<1099511627776)(h2:AA.length<1099511627776):Y.call 60 [ce [bh 123 (AQ (fun x=>bh 125 (Aw .i64 .i64 x)) A9),bh 3 (AQ (bd .i64) AO),bh 3 (AQ (bd .i64) AA)]] []=some (b9 (I5 A9 AO AA),[]):=Uk A9 AO AA (Yp A9 AO AA h0 h1 h2)
end Go.Proofs.Ytclkfhhdikfcpaa
end
