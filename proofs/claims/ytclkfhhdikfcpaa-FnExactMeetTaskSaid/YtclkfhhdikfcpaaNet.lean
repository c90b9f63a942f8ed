/- Functions of the program as plain functions, and what they compute. Conditions: those in each lemma. -/
import Derived.Test.YtclkfhhdikfcpaaL6
import Derived.Test.YtclkfhhdikfcpaaDt
open Dv.D renaming int → bd,sl → b7,own → b9,bool → ca
open Nat renaming reduceEqDiff → bh,reduceLT → bj,reduceLeDiff → bk,reduceAdd → bl,reduceMul → bm,reduceMod → bo,reduceDiv → bp,reducePow → br,reduceSub → bt,reduceBEq → bw
open Int renaming reduceLE → bx,reduceLT → bO,reduceEq → b0,reduceSub → b3,reduceAdd → b4,reduceToNat → b5,reduceNeg → b6
open Inhabited renaming default → be
open Sum renaming inr → b8,inl → cc
open Go.ResultVar renaming tmp → cb
open Go.IntKind renaming i64 → cd
open List renaming replicate → ao,pairwise_cons → ce
noncomputable section
namespace Go.Proofs.Ytclkfhhdikfcpaa
open Go Dv
set_option linter.unusedSimpArgs false
set_option linter.unusedVariables false
set_option maxRecDepth 100000
set_option maxHeartbeats 4000000
def Rl(l:bD):Prop:=l.length<1099511627776∧ ∀x∈l,x.length<1099511627776
theorem Rl.nil:Rl []:=⟨by decide,fun _ h=>by cases h⟩
theorem Rl.at{l:bD}(h:Rl l)(i:Nat)(hi:i<l.length):l[i].length<1099511627776:=h.2 _ (Jc hi)
instance (l:bD):Decidable (Rl l):=by unfold Rl;infer_instance
theorem Y2{α:Type}[Inhabited α](xs:List α)(i:Nat)(h:i<xs.length)(z:α):(xs.take i++ao (xs.length-i) z).set i xs[i]=xs.take (i+1)++ao (xs.length-(i+1)) z:=by
 have e:xs.length-i=(xs.length-(i+1))+1:=by omega
 rw [e,jC,List.set_append_right _ _ (by simp;omega),List.take_succ_eq_append_getElem h]
 have:i-(xs.take i).length=0:=by simp;omega
 rw [this,bL,P5];rfl
def Gg(a:AO)(out:AO)(i:Int):Option ((AO×Int)⊕(AO)):= if i<(a.length:Int)then ck (0≤i∧i.toNat<a.length)<| ck (0≤i∧i.toNat<out.length)<| some (cc ((out.set i.toNat (a.getD i.toNat be)),cd.wrap (i+1))) else some (b8 out)
def LU(a:AO)(v:AO×Int):Option (AO):=Iy (fun v=>Gg a v.1 v.2) v
def Q9(a:AO):Option (AO):= ck (0≤(a.length:Int)∧(a.length:Int)<1099511627776)<| (LU a ((ao a.length 0),0)).bind fun AX=> some AX
def Y3:SC:= .seq (.seq (.ops [oM 8 4 3,oM 9 0 26,oN 10 9 26,oB 11 .lss 3 (tK 8) (tK 10) 3 4]) (.cond (tK 11) .skip (.exit 0))) (.seq (.block 1 (.ops [oM 14 3 26,oM 15 4 3,oM 16 0 26,oM 17 4 3,oI 18 26 16 17,oL 19 3 18 3,oI 20 26 14 15,oS 3 20 19])) (.ops [oM 12 4 3,oB 13 .add 3 (tK 12) (iK 1) 3 3,oA 4 13 3]))
def oZ:SC:= .loop Y3
def k66:SC:= .seq (.ops [oX 2 Kz 26]) (.seq (.ops [oM 5 0 26,oN 6 5 26,oX 7 (.makeSlice 26 (tK 6) (tK 6)) 26,oA 3 7 26]) (.seq (.seq (.ops [oX 4 (.assign (iK 0)) 3]) (.block 0 oZ)) (.seq (.ops [oM 21 3 26,oA 2 21 26]) .ret)))
theorem A2P:Try.f66.body.map (Bc lends)=some k66:=by kernel_rfl
theorem AEe:Bn Try.f66 1=true:=by kernel_rfl
theorem c66{a l:List D}{r:D×List D}(h:Bq Y.env k66 (F9 Ab l.length [cb 2] r) (entry a l))(ha:a.length=1):Y.call 66 a l=some r:=
 Aa (Y:=Y) rfl Try.func66 (ha▸AEe) A2P h
def Gh(a:AO)(out:AO)(i:Int)(s:St):Prop:=s.v 0=b7 3 (AR (bd .i64) a)∧s.v 3=b9 3 (AR (bd .i64) out)∧s.v 4=bd .i64 i
def Ie(a:AO)(r:AO)(ex:Ex)(s:St):Prop:=ex= .exit 0∧s.v 3=b9 3 (AR (bd .i64) r)
theorem UN(a:AO){v:AO×Int}{s:St}{r:AO}(h:LU a v=some r)(hM:Gh a v.1 v.2 s):Bq Y.env oZ (Ie a r) s:=by
 unfold LU at h;refine BV (c:=Y3) (fun v=>Gg a v.1 v.2) (fun v s=>Gh a v.1 v.2 s) (Ie a) ?_ h hM;clear h hM s v r;intro v s o hM h;obtain⟨out,i⟩:=v;dsimp only at h hM;unfold Gg at h;unfold Gh at hM;obtain⟨m0,m1,m2⟩:=hM;unfold Y3;by_cases e2:i<(a.length:Int)
 ·rw [if_pos e2]at h;obtain⟨e3,h⟩:=BS h;obtain⟨e4,h⟩:=BS h
  obtain rfl:=Option.some.inj h
  simp (maxDischargeDepth:=9) only [↓AP,AQ,Ae,↓reduceIte,bh,bj,bk,bl,bm,bo,bp,br,bt,bw,bx,bO,b0,b3,b4,b5,b6,m0,m1,m2,e2,e3.1,e3.2,e4.1,e4.2,Gh,Ie,CU,CV,CW]<;>(repeat' apply A7)<;>first|rfl|exact⟨_,rfl⟩|exact⟨_,_,rfl⟩|simp [AR,A9]
 ·rw [if_neg e2]at h
  obtain rfl:=Option.some.inj h
  simp (maxDischargeDepth:=9) only [↓AP,AQ,Ae,↓reduceIte,bh,bj,bk,bl,bm,bo,bp,br,bt,bw,bx,bO,b0,b3,b4,b5,b6,m0,m1,m2,e2,Gh,Ie,CU,CV,CW]<;>(repeat' apply A7)<;>first|rfl|exact⟨_,rfl⟩|exact⟨_,_,rfl⟩|simp [AR,A9]
theorem W9(a:AO){r:AO}(h:Q9 a=some r):Y.call 66 [b7 3 (AR (bd .i64) a)] []=some (b9 3 (AR (bd .i64) r),[]):=by
 refine c66 ?_ rfl;unfold k66;unfold Q9 at h;obtain⟨e1,h⟩:=BS h;obtain⟨AX,hl3,h⟩:=Av h;try dsimp only at h
 simp (maxDischargeDepth:=9) only [↓AP,AQ,Ae,↓reduceIte,bh,bj,bk,bl,bm,bo,bp,br,bt,bw,bx,bO,b0,b3,b4,b5,b6,e1.1,e1.2];refine BB (UN a hl3 ?_) ?_
 ·simp (maxDischargeDepth:=9) only [↓AP,AQ,Ae,↓reduceIte,bh,bj,bk,bl,bm,bo,bp,br,bt,bw,bx,bO,b0,b3,b4,b5,b6,e1.1,e1.2,Gh]<;>(repeat' apply A7)<;>first|rfl|exact⟨_,rfl⟩|exact⟨_,_,rfl⟩|simp [AR,A9]
 ·intro ex3 s3 hX3;unfold Ie at hX3;obtain⟨rfl,n3_0⟩:=hX3
  obtain rfl:=Option.some.inj h
  simp (maxDischargeDepth:=9) only [↓AP,AQ,Ae,↓reduceIte,bh,bj,bk,bl,bm,bo,bp,br,bt,bw,bx,bO,b0,b3,b4,b5,b6,e1.1,e1.2,n3_0]<;>(repeat' apply A7)<;>first|rfl|exact⟨_,rfl⟩|exact⟨_,_,rfl⟩|simp [AR,A9]
theorem aM(a:AO)(h:a.length<1099511627776):Q9 a=some a:=by
 have key:=CB (fun v=>Gg a v.1 v.2) (fun i=>(a.take i++ao (a.length-i) 0,(i:Int))) a.length a ?_ ?_
 ·unfold Q9 LU;rw [Bb (by omega)]
  simp only [List.take_zero,PY,Nat.sub_zero,Lu]at key;rw [key];rfl
 ·intro i hi;simp only [Gg];rw [if_pos (Be hi),Bb (IZ hi),Bb (IZ (by simp;omega)),JK _ _ hi,JX,Y2 a i hi 0,KO i (by omega)]
 ·simp only [Gg];rw [if_neg (Am _)];simp
theorem Rm(a:AO)(h0:a.length<1099511627776):Y.call 66 [b7 3 (AR (bd .i64) a)] []=some (b9 3 (AR (bd .i64) a),[]):=W9 a (aM a h0)
def Gj(a:AO)(b:AO)(i:Int):Option ((Int)⊕(Unit⊕Unit)):= if i<(a.length:Int)then ck (0≤i∧i.toNat<a.length)<| ck (0≤i∧i.toNat<b.length)<| if(a.getD i.toNat be)=(b.getD i.toNat be)then some (cc (cd.wrap (i+1))) else some (b8 (cc ())) else some (b8 (b8 ()))
def LV(a:AO)(b:AO)(v:Int):Option (Unit⊕Unit):=Iy (fun v=>Gj a b v) v
def QA(a:AO)(b:AO):Option (Bool):=
 if(a.length:Int)=(b.length:Int)then
  (LV a b 0).bind fun AX=>
  match AX with
  | .inl q1000_=>
   some false
  | .inr q1000_=>
   some true
 else
  some false
abbrev tF:List Nat:=[17,18,19,20,21,22,23,24,25]
def Y4:SC:= .seq (.seq (.ops [oM 11 5 3,oM 12 0 26,oN 13 12 26,oB 14 .lss 3 (tK 11) (tK 13) 3 4]) (.cond (tK 14) .skip (.exit 0))) (.seq (.block 1 (.seq (.draws [(⟨[17,0,0],tF,[17]⟩,oM 17 0 26),(⟨[18,5,5],tF,[18]⟩,oM 18 5 3),(⟨[19,17,18,0,5],tF,[19]⟩,oI 19 26 17 18),(⟨[20,19,0],tF,[20]⟩,oL 20 3 19 3),(⟨[21,1,1],tF,[21]⟩,oM 21 1 26),(⟨[22,5,5],tF,[22]⟩,oM 22 5 3),(⟨[23,21,22,1,5],tF,[23]⟩,oI 23 26 21 22),(⟨[24,23,1],tF,[24]⟩,oL 24 3 23 3),(⟨[25,20,24,0,1],tF,[25]⟩,oB 25 .neq 3 (tK 20) (tK 24) 3 4)]) (.cond (tK 25) (.seq (.ops [oX 4 CF 4]) .ret) .skip))) (.ops [oM 15 5 3,oB 16 .add 3 (tK 15) (iK 1) 3 3,oA 5 16 3]))
def og:SC:= .loop Y4
def k14:SC:= .seq (.ops [oX 4 CF 4]) (.seq (.seq (.ops [oM 6 0 26,oN 7 6 26,oM 8 1 26,oN 9 8 26,oB 10 .neq 3 (tK 7) (tK 9) 3 4]) (.cond (tK 10) (.seq (.ops [oX 4 CF 4]) .ret) .skip)) (.seq (.seq (.ops [oX 5 (.assign (iK 0)) 3]) (.block 0 og)) (.seq (.ops [oX 4 (.assign Eh) 4]) .ret)))
theorem A2Q:Try.f14.body.map (Bc lends)=some k14:=by kernel_rfl
theorem AEg:Bn Try.f14 2=true:=by kernel_rfl
theorem c14{a l:List D}{r:D×List D}(h:Bq Y.env k14 (F9 Ab l.length [cb 4] r) (entry a l))(ha:a.length=2):Y.call 14 a l=some r:=
 Aa (Y:=Y) rfl Try.func14 (ha▸AEg) A2Q h
def FB(a:AO)(b:AO)(i:Int)(s:St):Prop:=s.v 0=b7 3 (AR (bd .i64) a)∧s.v 1=b7 3 (AR (bd .i64) b)∧s.v 5=bd .i64 i
def FC(a:AO)(b:AO)(r:Unit⊕Unit)(ex:Ex)(s:St):Prop:=match r with
 | .inl q=>ex= .ret∧s.v 4=ca false
 | .inr q=>ex= .exit 0
theorem UO(a:AO)(b:AO){v:Int}{s:St}{r:Unit⊕Unit}(h:LV a b v=some r)(hM:FB a b v s):Bq Y.env og (FC a b r) s:=by
 unfold LV at h;refine BV (c:=Y4) (fun v=>Gj a b v) (fun v s=>FB a b v s) (FC a b) ?_ h hM;clear h hM s v r;intro i s o hM h;unfold Gj at h;unfold FB at hM;obtain⟨m0,m1,m2⟩:=hM;unfold Y4;by_cases e2:i<(a.length:Int)
 ·rw [if_pos e2]at h;obtain⟨e3,h⟩:=BS h;obtain⟨e4,h⟩:=BS h;by_cases e5:(a.getD i.toNat be)=(b.getD i.toNat be)
  ·rw [if_pos e5]at h
   obtain rfl:=Option.some.inj h
   simp (maxDischargeDepth:=9) only [↓AP,AQ,Ae,↓reduceIte,bh,bj,bk,bl,bm,bo,bp,br,bt,bw,bx,bO,b0,b3,b4,b5,b6,m0,m1,m2,e2,e3.1,e3.2,e4.1,e4.2,decide_eq_true e5,FB,FC,CU,CV,CW]<;>(repeat' apply A7)<;>first|rfl|exact⟨_,rfl⟩|exact⟨_,_,rfl⟩|simp [AR,A9]
  ·rw [if_neg e5]at h
   obtain rfl:=Option.some.inj h
   simp (maxDischargeDepth:=9) only [↓AP,AQ,Ae,↓reduceIte,bh,bj,bk,bl,bm,bo,bp,br,bt,bw,bx,bO,b0,b3,b4,b5,b6,m0,m1,m2,e2,e3.1,e3.2,e4.1,e4.2,e5,FB,FC,CU,CV,CW]<;>(repeat' apply A7)<;>first|rfl|exact⟨_,rfl⟩|exact⟨_,_,rfl⟩|simp [AR,A9]
 ·rw [if_neg e2]at h
  obtain rfl:=Option.some.inj h
  simp (maxDischargeDepth:=9) only [↓AP,AQ,Ae,↓reduceIte,bh,bj,bk,bl,bm,bo,bp,br,bt,bw,bx,bO,b0,b3,b4,b5,b6,m0,m1,m2,e2,FB,FC,CU,CV,CW]<;>(repeat' apply A7)<;>first|rfl|exact⟨_,rfl⟩|exact⟨_,_,rfl⟩|simp [AR,A9]
theorem WA(a:AO)(b:AO){r:Bool}(h:QA a b=some r):Y.call 14 [b7 3 (AR (bd .i64) a),b7 3 (AR (bd .i64) b)] []=some (ca r,[]):=by
 refine c14 ?_ rfl;unfold k14;unfold QA at h;by_cases e1:(a.length:Int)=(b.length:Int)
 ·rw [if_pos e1]at h;obtain⟨AX,hl3,h⟩:=Av h;try dsimp only at h
  simp (maxDischargeDepth:=9) only [↓AP,AQ,Ae,↓reduceIte,bh,bj,bk,bl,bm,bo,bp,br,bt,bw,bx,bO,b0,b3,b4,b5,b6,decide_eq_true e1];refine BB (UO a b hl3 ?_) ?_
  ·simp (maxDischargeDepth:=9) only [↓AP,AQ,Ae,↓reduceIte,bh,bj,bk,bl,bm,bo,bp,br,bt,bw,bx,bO,b0,b3,b4,b5,b6,decide_eq_true e1,FB]<;>(repeat' apply A7)<;>first|rfl|exact⟨_,rfl⟩|exact⟨_,_,rfl⟩|simp [AR,A9]
  ·intro ex3 s3 hX3;rcases AX with q1000_|q1000_
   ·unfold FC at hX3;dsimp only at hX3 h;obtain⟨rfl,n3_0⟩:=hX3
    obtain rfl:=Option.some.inj h
    simp (maxDischargeDepth:=9) only [↓AP,AQ,Ae,↓reduceIte,bh,bj,bk,bl,bm,bo,bp,br,bt,bw,bx,bO,b0,b3,b4,b5,b6,decide_eq_true e1,n3_0]<;>(repeat' apply A7)<;>first|rfl|exact⟨_,rfl⟩|exact⟨_,_,rfl⟩|simp [AR,A9]
   ·unfold FC at hX3;dsimp only at hX3 h
    obtain rfl:=hX3
    obtain rfl:=Option.some.inj h
    simp (maxDischargeDepth:=9) only [↓AP,AQ,Ae,↓reduceIte,bh,bj,bk,bl,bm,bo,bp,br,bt,bw,bx,bO,b0,b3,b4,b5,b6,decide_eq_true e1]<;>(repeat' apply A7)<;>first|rfl|exact⟨_,rfl⟩|exact⟨_,_,rfl⟩|simp [AR,A9]
 ·rw [if_neg e1]at h
  obtain rfl:=Option.some.inj h
  simp (maxDischargeDepth:=9) only [↓AP,AQ,Ae,↓reduceIte,bh,bj,bk,bl,bm,bo,bp,br,bt,bw,bx,bO,b0,b3,b4,b5,b6,e1]<;>(repeat' apply A7)<;>first|rfl|exact⟨_,rfl⟩|exact⟨_,_,rfl⟩|simp [AR,A9]
theorem aN(a b:AO)(ha:a.length<1099511627776):QA a b=some (decide (a=b)):=by
 unfold QA LV;by_cases hl:a.length=b.length
 ·rw [if_pos (by omega)]
  have key:=Iz (fun v=>Gj a b v) (fun i=>(i:Int)) a.length (fun i=>decide (a.getD i be=b.getD i be)) (.inl ()) (.inr ()) ?_ ?_
  ·simp only [Lu]at key;rw [key,UK a b hl];by_cases he:a=b<;>simp [he]
  ·intro i hi;simp only [Gj];rw [if_pos (Be hi),Bb (IZ hi),Bb (IZ (by omega)),JX,KO i (by omega)]<;>simp only [decide_eq_true_eq]
  ·simp only [Gj];rw [if_neg (Am _)]
 ·rw [if_neg (by omega)]
  have: ¬a=b:=fun e=>hl (by rw [e])
  simp [this]
theorem Bw(a:AO)(b:AO)(h0:a.length<1099511627776):Y.call 14 [b7 3 (AR (bd .i64) a),b7 3 (AR (bd .i64) b)] []=some (ca (decide (a=b)),[]):=WA a b (aN a b h0)
def Ho(left n:Int):Int:=if left-n<0 then-1 else left-n
theorem Kk(left n:Int):Ho left n= -1∨(Ho left n=left-n∧0≤left-n):=by unfold Ho;split<;>omega
def El(l:bD):Int:=(l.map fun xs=>(xs.length:Int)).sum
theorem gZ:El []=0:=rfl
theorem O8(x:AO)(l:bD):El (x::l)=x.length+El l:=rfl
theorem I4(l:bD):0≤El l:=by
 induction l with
 |nil=>rw [gZ];omega
 |cons x l ih=>rw [O8];omega
theorem tH{l:bD}{x:AO}(h:x∈l):(x.length:Int)≤El l:=by
 induction l with
 |nil=>cases h
 |cons y l ih=>
  rw [O8];have:=I4 l
  rcases Pb.1 h with rfl|h
  ·omega
  ·have:=ih h;omega
def QB(a:AO)(left:Int):Option (Int):= if(cd.wrap (left-(a.length:Int)))<0 then some (-1) else some (cd.wrap (left-(a.length:Int)))
def k59:SC:= .seq (.ops [oX 4 (.assign (iK 0)) 3]) (.seq (.ops [oM 5 1 3,oM 6 0 26,oN 7 6 26,oB 8 .sub 3 (tK 5) (tK 7) 3 3,oA 1 8 3]) (.seq (.seq (.ops [oM 9 1 3,oB 10 .lss 3 (tK 9) (iK 0) 3 4]) (.cond (tK 10) (.seq (.ops [oX 4 O7 3]) .ret) .skip)) (.seq (.ops [oM 11 1 3,oA 4 11 3]) .ret)))
theorem A2R:Try.f59.body.map (Bc lends)=some k59:=by kernel_rfl
theorem AEi:Bn Try.f59 2=true:=by kernel_rfl
theorem c59{a l:List D}{r:D×List D}(h:Bq Y.env k59 (F9 Ab l.length [cb 4] r) (entry a l))(ha:a.length=2):Y.call 59 a l=some r:=
 Aa (Y:=Y) rfl Try.func59 (ha▸AEi) A2R h
theorem WB(a:AO)(left:Int){r:Int}(h:QB a left=some r):Y.call 59 [b7 3 (AR (bd .i64) a),bd .i64 left] []=some (bd .i64 r,[]):=by
 refine c59 ?_ rfl;unfold k59;unfold QB at h;by_cases e1:(cd.wrap (left-(a.length:Int)))<0
 ·rw [if_pos e1]at h
  obtain rfl:=Option.some.inj h
  simp (maxDischargeDepth:=9) only [↓AP,AQ,Ae,↓reduceIte,bh,bj,bk,bl,bm,bo,bp,br,bt,bw,bx,bO,b0,b3,b4,b5,b6,e1]<;>(repeat' apply A7)<;>first|rfl|exact⟨_,rfl⟩|exact⟨_,_,rfl⟩|simp [AR,A9]
 ·rw [if_neg e1]at h
  obtain rfl:=Option.some.inj h
  simp (maxDischargeDepth:=9) only [↓AP,AQ,Ae,↓reduceIte,bh,bj,bk,bl,bm,bo,bp,br,bt,bw,bx,bO,b0,b3,b4,b5,b6,e1]<;>(repeat' apply A7)<;>first|rfl|exact⟨_,rfl⟩|exact⟨_,_,rfl⟩|simp [AR,A9]
theorem aO(a:AO)(left:Int)(ha:a.length<9223372036854775808)(hl:0≤left∧left≤1048576):QB a left=some (Ho left a.length):=by
 unfold QB Ho;rw [KI _ (by omega)]
 split<;>rfl
theorem Rn(a:AO)(left:Int)(h0:a.length<9223372036854775808)(h1:0≤left∧left≤1048576):Y.call 59 [b7 3 (AR (bd .i64) a),bd .i64 left] []=some (bd .i64 (Ho left a.length),[]):=WB a left (aO a left h0 h1)
def tJ:SC:= .seq (.seq (.ops [oM 12 5 3,oM 13 0 22,oN 14 13 22,oB 15 .lss 3 (tK 12) (tK 14) 3 4]) (.cond (tK 15) .skip (.exit 0))) (.seq (.block 1 (.seq (.ops [oM 18 0 22,oM 19 5 3,oI 20 22 18 19,oL 21 26 20 26,oM 22 1 3,oC 23 59 [(tK 21),(tK 22)] [26,3] 3,oA 1 23 3]) (.seq (.ops [oM 24 1 3,oB 25 .lss 3 (tK 24) (iK 0) 3 4]) (.cond (tK 25) (.seq (.ops [oX 4 O7 3]) .ret) .skip)))) (.ops [oM 16 5 3,oB 17 .add 3 (tK 16) (iK 1) 3 3,oA 5 17 3]))
def A2S:SC:= .loop tJ
def k40:SC:= .seq (.ops [oX 4 (.assign (iK 0)) 3]) (.seq (.ops [oM 6 1 3,oM 7 0 22,oN 8 7 22,oB 9 .sub 3 (tK 6) (tK 8) 3 3,oA 1 9 3]) (.seq (.seq (.ops [oM 10 1 3,oB 11 .lss 3 (tK 10) (iK 0) 3 4]) (.cond (tK 11) (.seq (.ops [oX 4 O7 3]) .ret) .skip)) (.seq (.seq (.ops [oX 5 (.assign (iK 0)) 3]) (.block 0 A2S)) (.seq (.ops [oM 26 1 3,oA 4 26 3]) .ret))))
theorem A2T:Try.f40.body.map (Bc lends)=some k40:=by kernel_rfl
theorem AEj:Bn Try.f40 2=true:=by kernel_rfl
theorem c40{a l:List D}{r:D×List D}(h:Bq Y.env k40 (F9 Ab l.length [cb 4] r) (entry a l))(ha:a.length=2):Y.call 40 a l=some r:=
 Aa (Y:=Y) rfl Try.func40 (ha▸AEj) A2T h
def szL:Int→bD→Int
 |left,[]=>left
 |left,x::l=>if left-x.length<0 then-1 else szL (left-x.length) l
theorem A2U(l:bD): ∀(left:Int),0≤left→szL left l=Ho left (El l):=by
 induction l with
 |nil=>intro left h;unfold szL Ho;rw [gZ,if_neg (by omega)];omega
 |cons x l ih=>
  intro left h;have:=I4 l
  unfold szL;by_cases hq:left-x.length<0
  ·rw [if_pos hq];unfold Ho;rw [O8,if_pos (by omega)]
  ·rw [if_neg hq,ih _ (by omega)]
   unfold Ho;rw [O8];by_cases hr:left-x.length-El l<0
   ·rw [if_pos hr,if_pos (by omega)]
   ·rw [if_neg hr,if_neg (by omega)];omega
theorem eU{α:Type}(a b:List α)(x:α):(a.length:Int)<((a++x::b).length:Int):=by rw [KS,Lr];omega
theorem eX{α:Type}(a b:List α)(x:α):0≤(a.length:Int)∧(a.length:Int).toNat<(a++x::b).length:=by rw [KS,Lr];omega
theorem gm{α:Type}(a:List α): ¬(a.length:Int)<((a++[]).length:Int):=by rw [TD];omega
def A9j(l:bD):Prop:=l.length<9223372036854775808∧ ∀x∈l,x.length<9223372036854775808
instance (l:bD):Decidable (A9j l):=by unfold A9j;infer_instance
def upto(k:Int)(n:Nat):AO:=(List.range n).map fun(i:Nat)=>k+i
theorem MH(k:Int)(n:Nat):(upto k n).length=n:=by simp [upto]
theorem ol(xs:AO)(k:Int)(i:Nat)(h:i<xs.length):(upto k i++xs.drop i).set i (k+i)=upto k (i+1)++xs.drop (i+1):=by
 rw [List.set_append_right _ _ (by simp [MH]),MH,Qd,jA h,bL]
 simp [upto,List.range_succ]
def En(k:Int)(k1:Int)(i:Int)(Ap:AO):Option ((Int×Int×AO)⊕(Int×AO)):= if i<(Ap.length:Int)then ck (0≤i∧i.toNat<Ap.length)<| some (cc (cd.wrap (k1+1),cd.wrap (i+1),(Ap.set i.toNat k1))) else some (b8 (k1,Ap))
def Jr(k:Int)(v:Int×Int×AO):Option (Int×AO):=Iy (fun v=>En k v.1 v.2.1 v.2.2) v
def Mk(a:AO)(k:Int):Option (Int×AO):= (Jr k (k,0,a)).bind fun AX=> some (AX.1,AX.2)
def Y5:SC:= .seq (.seq (.ops [oM 6 5 3,oM 7 0 26,oN 8 7 26,oB 9 .lss 3 (tK 6) (tK 8) 3 4]) (.cond (tK 9) .skip (.exit 0))) (.seq (.block 1 (.seq (.ops [oM 12 0 26,oM 13 5 3,oM 14 1 3,oI 15 26 12 13,oS 3 15 14]) (.ops [oM 16 1 3,oB 17 .add 3 (tK 16) (iK 1) 3 3,oA 1 17 3]))) (.ops [oM 10 5 3,oB 11 .add 3 (tK 10) (iK 1) 3 3,oA 5 11 3]))
def oo:SC:= .loop Y5
def k17:SC:= .seq (.ops [oX 4 (.assign (iK 0)) 3]) (.seq (.seq (.ops [oX 5 (.assign (iK 0)) 3]) (.block 0 oo)) (.seq (.ops [oM 18 1 3,oA 4 18 3]) .ret))
theorem A2V:Try.f17.body.map (Bc lends)=some k17:=by kernel_rfl
theorem AEl:Bn Try.f17 2=true:=by kernel_rfl
theorem c17{a l:List D}{r:D×List D}(h:Bq Y.env k17 (F9 Ab l.length [cb 4] r) (entry a l))(ha:a.length=2):Y.call 17 a l=some r:=
 Aa (Y:=Y) rfl Try.func17 (ha▸AEl) A2V h
def Eo(k:Int)(k1:Int)(i:Int)(Ap:AO)(s:St):Prop:=(∃w_,s.v 0=D.vw [100000] (s.k 100000) w_)∧s.v 1=bd .i64 k1∧s.v 5=bd .i64 i∧s.v 100000=b9 3 (AR (bd .i64) Ap)
def GR(k:Int)(r:Int×AO)(ex:Ex)(s:St):Prop:=ex= .exit 0∧s.v 1=bd .i64 r.1∧s.v 100000=b9 3 (AR (bd .i64) r.2)
theorem Qu(k:Int){v:Int×Int×AO}{s:St}{r:Int×AO}(h:Jr k v=some r)(hM:Eo k v.1 v.2.1 v.2.2 s):Bq Y.env oo (GR k r) s:=by
 unfold Jr at h;refine BV (c:=Y5) (fun v=>En k v.1 v.2.1 v.2.2) (fun v s=>Eo k v.1 v.2.1 v.2.2 s) (GR k) ?_ h hM;clear h hM s v r;intro v s o hM h;obtain⟨k1,i,Ap⟩:=v;dsimp only at h hM;unfold En at h;unfold Eo at hM;obtain⟨⟨w0_,m0⟩,m1,m2,m3⟩:=hM;unfold Y5;by_cases e1:i<(Ap.length:Int)
 ·rw [if_pos e1]at h;obtain⟨e2,h⟩:=BS h
  obtain rfl:=Option.some.inj h
  simp (maxDischargeDepth:=9) only [↓AP,AQ,Ae,↓reduceIte,bh,bj,bk,bl,bm,bo,bp,br,bt,bw,bx,bO,b0,b3,b4,b5,b6,m0,m1,m2,m3,e1,e2.1,e2.2,Eo,GR,CU,CV,CW]<;>(repeat' apply A7)<;>first|rfl|exact⟨_,rfl⟩|exact⟨_,_,rfl⟩|simp [AR,A9]
 ·rw [if_neg e1]at h
  obtain rfl:=Option.some.inj h
  simp (maxDischargeDepth:=9) only [↓AP,AQ,Ae,↓reduceIte,bh,bj,bk,bl,bm,bo,bp,br,bt,bw,bx,bO,b0,b3,b4,b5,b6,m0,m1,m2,m3,e1,Eo,GR,CU,CV,CW]<;>(repeat' apply A7)<;>first|rfl|exact⟨_,rfl⟩|exact⟨_,_,rfl⟩|simp [AR,A9]
theorem Ry(a:AO)(k:Int){r:Int×AO}(h:Mk a k=some r):Y.call 17 [D.vw [100000] 0 0,bd .i64 k] [b9 3 (AR (bd .i64) a)]=some (bd .i64 r.1,[b9 3 (AR (bd .i64) r.2)]):=by
 refine c17 ?_ rfl;unfold k17;unfold Mk at h;obtain⟨AX,hl2,h⟩:=Av h;try dsimp only at h
 simp (maxDischargeDepth:=9) only [↓AP,AQ,Ae,↓reduceIte,bh,bj,bk,bl,bm,bo,bp,br,bt,bw,bx,bO,b0,b3,b4,b5,b6];refine BB (Qu k hl2 ?_) ?_
 ·simp (maxDischargeDepth:=9) only [↓AP,AQ,Ae,↓reduceIte,bh,bj,bk,bl,bm,bo,bp,br,bt,bw,bx,bO,b0,b3,b4,b5,b6,Eo]<;>(repeat' apply A7)<;>first|rfl|exact⟨_,rfl⟩|exact⟨_,_,rfl⟩|simp [AR,A9]
 ·intro ex2 s2 hX2;unfold GR at hX2;obtain⟨rfl,n2_0,n2_1⟩:=hX2
  obtain rfl:=Option.some.inj h
  simp (maxDischargeDepth:=9) only [↓AP,AQ,Ae,↓reduceIte,bh,bj,bk,bl,bm,bo,bp,br,bt,bw,bx,bO,b0,b3,b4,b5,b6,n2_0,n2_1]<;>(repeat' apply A7)<;>first|rfl|exact⟨_,rfl⟩|exact⟨_,_,rfl⟩|simp [AR,A9]
theorem WC(a:AO)(k:Int)(ha:a.length<1099511627776)(hk:0≤k∧k<1099511627776):Mk a k=some (k+a.length,upto k a.length):=by
 have key:=CB (fun v=>En k v.1 v.2.1 v.2.2) (fun i=>(k+i,(i:Int),upto k i++a.drop i)) a.length (k+a.length,upto k a.length) ?_ ?_
 ·unfold Mk Jr;have e0:upto k 0=[]:=rfl;simp only [Lu,Int.add_zero,List.drop_zero,e0,PY]at key;rw [key];rfl
 ·intro i hi;simp only [En];have el:(upto k i++a.drop i).length=a.length:=by simp [MH];omega
  rw [el,if_pos (Be hi),Bb (IZ hi),JX,ol a k i hi,KO i (by omega),KI _ (by omega)]
  rw [show k+(i:Int)+1=k+((i+1:Nat):Int) by omega]
 ·simp only [En];have el:(upto k a.length++a.drop a.length).length=a.length:=by simp [MH]
  rw [el,if_neg (Am _)];simp
theorem EI(a:AO)(k:Int)(h0:a.length<1099511627776)(h1:0≤k∧k<1099511627776):Y.call 17 [D.vw [100000] 0 0,bd .i64 k] [b9 3 (AR (bd .i64) a)]=some (bd .i64 (k+a.length),[b9 3 (AR (bd .i64) (upto k a.length))]):=Ry a k (WC a k h0 h1)
def A9k:Int→bD→bD
 |_,[]=>[]
 |k,x::l=>upto k x.length::A9k (k+x.length) l
def Hm:Int→AO→Int
 |k,[]=>k
 |k,x::l=>if x=k then Hm (k+1) l else-1
def Ep(a:AO)(k1:Int)(i:Int):Option ((Int×Int)⊕(Unit⊕Int)):= if i<(a.length:Int)then ck (0≤i∧i.toNat<a.length)<| if(a.getD i.toNat be)=k1 then some (cc (cd.wrap (k1+1),cd.wrap (i+1))) else some (b8 (cc ())) else some (b8 (b8 k1))
def FD(a:AO)(v:Int×Int):Option (Unit⊕Int):=Iy (fun v=>Ep a v.1 v.2) v
def Ml(a:AO)(k:Int):Option (Int):=
 (FD a (k,0)).bind fun AX=>
 match AX with
 | .inl q1000_=>
  some (-1)
 | .inr q1000_=>
  some q1000_
def Y6:SC:= .seq (.seq (.ops [oM 6 5 3,oM 7 0 26,oN 8 7 26,oB 9 .lss 3 (tK 6) (tK 8) 3 4]) (.cond (tK 9) .skip (.exit 0))) (.seq (.block 1 (.seq (.seq (.ops [oM 12 0 26,oM 13 5 3,oI 14 26 12 13,oL 15 3 14 3,oM 16 1 3,oB 17 .neq 3 (tK 15) (tK 16) 3 4]) (.cond (tK 17) (.seq (.ops [oX 4 O7 3]) .ret) .skip)) (.ops [oM 18 1 3,oB 19 .add 3 (tK 18) (iK 1) 3 3,oA 1 19 3]))) (.ops [oM 10 5 3,oB 11 .add 3 (tK 10) (iK 1) 3 3,oA 5 11 3]))
def oq:SC:= .loop Y6
def k18:SC:= .seq (.ops [oX 4 (.assign (iK 0)) 3]) (.seq (.seq (.ops [oX 5 (.assign (iK 0)) 3]) (.block 0 oq)) (.seq (.ops [oM 20 1 3,oA 4 20 3]) .ret))
theorem A2W:Try.f18.body.map (Bc lends)=some k18:=by kernel_rfl
theorem AEn:Bn Try.f18 2=true:=by kernel_rfl
theorem Od{a l:List D}{r:D×List D}(h:Bq Y.env k18 (F9 Ab l.length [cb 4] r) (entry a l))(ha:a.length=2):Y.call 18 a l=some r:=
 Aa (Y:=Y) rfl Try.func18 (ha▸AEn) A2W h
def EB(a:AO)(k1:Int)(i:Int)(s:St):Prop:=s.v 0=b7 3 (AR (bd .i64) a)∧s.v 1=bd .i64 k1∧s.v 5=bd .i64 i
def EC(a:AO)(r:Unit⊕Int)(ex:Ex)(s:St):Prop:=match r with
 | .inl q=>ex= .ret∧s.v 4=bd .i64 (-1)
 | .inr q=>ex= .exit 0∧s.v 1=bd .i64 q
theorem Qv(a:AO){v:Int×Int}{s:St}{r:Unit⊕Int}(h:FD a v=some r)(hM:EB a v.1 v.2 s):Bq Y.env oq (EC a r) s:=by
 unfold FD at h;refine BV (c:=Y6) (fun v=>Ep a v.1 v.2) (fun v s=>EB a v.1 v.2 s) (EC a) ?_ h hM;clear h hM s v r;intro v s o hM h;obtain⟨k1,i⟩:=v;dsimp only at h hM;unfold Ep at h;unfold EB at hM;obtain⟨m0,m1,m2⟩:=hM;unfold Y6;by_cases e1:i<(a.length:Int)
 ·rw [if_pos e1]at h;obtain⟨e2,h⟩:=BS h;by_cases e3:(a.getD i.toNat be)=k1
  ·rw [if_pos e3]at h
   obtain rfl:=Option.some.inj h
   simp (maxDischargeDepth:=9) only [↓AP,AQ,Ae,↓reduceIte,bh,bj,bk,bl,bm,bo,bp,br,bt,bw,bx,bO,b0,b3,b4,b5,b6,m0,m1,m2,e1,e2.1,e2.2,decide_eq_true e3,EB,EC,CU,CV,CW]<;>(repeat' apply A7)<;>first|rfl|exact⟨_,rfl⟩|exact⟨_,_,rfl⟩|simp [AR,A9]
  ·rw [if_neg e3]at h
   obtain rfl:=Option.some.inj h
   simp (maxDischargeDepth:=9) only [↓AP,AQ,Ae,↓reduceIte,bh,bj,bk,bl,bm,bo,bp,br,bt,bw,bx,bO,b0,b3,b4,b5,b6,m0,m1,m2,e1,e2.1,e2.2,e3,EB,EC,CU,CV,CW]<;>(repeat' apply A7)<;>first|rfl|exact⟨_,rfl⟩|exact⟨_,_,rfl⟩|simp [AR,A9]
 ·rw [if_neg e1]at h
  obtain rfl:=Option.some.inj h
  simp (maxDischargeDepth:=9) only [↓AP,AQ,Ae,↓reduceIte,bh,bj,bk,bl,bm,bo,bp,br,bt,bw,bx,bO,b0,b3,b4,b5,b6,m0,m1,m2,e1,EB,EC,CU,CV,CW]<;>(repeat' apply A7)<;>first|rfl|exact⟨_,rfl⟩|exact⟨_,_,rfl⟩|simp [AR,A9]
theorem Rz(a:AO)(k:Int){r:Int}(h:Ml a k=some r):Y.call 18 [b7 3 (AR (bd .i64) a),bd .i64 k] []=some (bd .i64 r,[]):=by
 refine Od ?_ rfl;unfold k18;unfold Ml at h;obtain⟨AX,hl2,h⟩:=Av h;try dsimp only at h
 simp (maxDischargeDepth:=9) only [↓AP,AQ,Ae,↓reduceIte,bh,bj,bk,bl,bm,bo,bp,br,bt,bw,bx,bO,b0,b3,b4,b5,b6];refine BB (Qv a hl2 ?_) ?_
 ·simp (maxDischargeDepth:=9) only [↓AP,AQ,Ae,↓reduceIte,bh,bj,bk,bl,bm,bo,bp,br,bt,bw,bx,bO,b0,b3,b4,b5,b6,EB]<;>(repeat' apply A7)<;>first|rfl|exact⟨_,rfl⟩|exact⟨_,_,rfl⟩|simp [AR,A9]
 ·intro ex2 s2 hX2;rcases AX with q1000_|q1000_
  ·unfold EC at hX2;dsimp only at hX2 h;obtain⟨rfl,n2_0⟩:=hX2
   obtain rfl:=Option.some.inj h
   simp (maxDischargeDepth:=9) only [↓AP,AQ,Ae,↓reduceIte,bh,bj,bk,bl,bm,bo,bp,br,bt,bw,bx,bO,b0,b3,b4,b5,b6,n2_0]<;>(repeat' apply A7)<;>first|rfl|exact⟨_,rfl⟩|exact⟨_,_,rfl⟩|simp [AR,A9]
  ·unfold EC at hX2;dsimp only at hX2 h;obtain⟨rfl,n2_0⟩:=hX2
   obtain rfl:=Option.some.inj h
   simp (maxDischargeDepth:=9) only [↓AP,AQ,Ae,↓reduceIte,bh,bj,bk,bl,bm,bo,bp,br,bt,bw,bx,bO,b0,b3,b4,b5,b6,n2_0]<;>(repeat' apply A7)<;>first|rfl|exact⟨_,rfl⟩|exact⟨_,_,rfl⟩|simp [AR,A9]
theorem Qw: ∀(b a:AO) (k:Int),a.length+b.length<1099511627776→0≤k→k+b.length<1099511627776→
  FD (a++b) (k,(a.length:Int))=some (if Hm k b= -1 then .inl ()else .inr (Hm k b)):=by
 intro b
 induction b with
 |nil=>
  intro a k hab hk hkt;unfold FD;rw [Mj (r:=b8 k)]
  ·unfold Hm;rw [if_neg (by omega)]
  ·simp only [Ep];rw [if_neg (gm _)]
 |cons x b ih=>
  intro a k hab hk hkt;simp only [Lr]at hab hkt;have eg:(a++x::b).getD (a.length:Int).toNat be=x:=by rw [JX];exact O1 a (x::b) a.length rfl (by simp)
  unfold Hm;by_cases hq:x=k
  ·rw [if_pos hq];have:=ih (a++[x]) (k+1) (by simp;omega) (by omega) (by omega)
   unfold FD at this ⊢;rw [Q8 (s':=(k+1,((a++[x]).length:Int)))]
   ·rw [show a++x::b=a++[x]++b by simp];exact this
   ·simp only [Ep];rw [if_pos (eU ..),Bb (eX ..),eg,if_pos hq,KO _ (by omega),KI _ (by omega)];simp
  ·rw [if_neg hq];unfold FD;rw [Mj (r:=cc ())]
   ·rfl
   ·simp only [Ep];rw [if_pos (eU ..),Bb (eX ..),eg,if_neg hq]
theorem WE(a:AO)(k:Int)(ha:a.length<1099511627776)(hk:0≤k∧k+a.length<1099511627776):Ml a k=some (Hm k a):=by
 unfold Ml;have:=Qw a [] k (by simpa using ha) hk.1 hk.2
 simp only [Qa,PY,Lu]at this;rw [this,Cq];by_cases h:Hm k a= -1
 ·rw [if_pos h,h]
 ·rw [if_neg h]
theorem Ca(a:AO)(k:Int)(h0:a.length<1099511627776)(h1:0≤k∧k+a.length<1099511627776):Y.call 18 [b7 3 (AR (bd .i64) a),bd .i64 k] []=some (bd .i64 (Hm k a),[]):=Rz a k (WE a k h0 h1)
theorem XC(n:Nat): ∀k,Hm k (upto k n)=k+n:=by
 induction n with
 |zero=>intro k;simp [upto,Hm]
 |succ n ih=>
  intro k
  have e:upto k (n+1)=k::upto (k+1) n:=by
   simp only [upto,List.range_succ_eq_map,P8,List.map_map]
   congr 1
   ·simp
   ·apply List.map_congr_left;intro i _;simp;omega
  rw [e,Hm,if_pos rfl,ih];omega
def k12:SC:= .seq (.ops [oX 1 (.box 24 (tK 0)) 0,oX 2 (.alloc 29) 0]) (.seq (.ops [oX 3 (.alloc 29) 0]) (.seq (.ops [oF 4 24 1 0,oL 5 3 4 3,oF 6 29 3 0,oS 3 6 5]) (.seq (.ops [oF 7 24 1 1,oL 8 3 7 3,oF 9 29 3 1,oS 3 9 8]) (.seq (.ops [oF 10 24 1 2,oL 11 22 10 22,oC 12 45 [(tK 11)] [22] 22,oF 13 29 3 2,oS 22 13 12]) (.seq (.ops [oF 14 24 1 3,oL 15 22 14 22,oC 16 45 [(tK 15)] [22] 22,oF 17 29 3 3,oS 22 17 16]) (.seq (.ops [oL 18 29 3 29,oS 29 2 18]) .ret))))))
theorem A2X:Try.f12.body.map (Bc lends)=some k12:=by kernel_rfl
theorem AEo:Bn Try.f12 1=true:=by kernel_rfl
theorem gp{a l:List D}{r:D×List D}(h:Bq Y.env k12 (F9 Ab l.length [ResultVar.cell 2 29] r) (entry a l))(ha:a.length=1):Y.call 12 a l=some r:=
 Aa (Y:=Y) rfl Try.func12 (ha▸AEo) A2X h
def k15:SC:= .seq (.ops [oX 2 (.box 29 (tK 0)) 0,oX 3 (.box 29 (tK 1)) 0,oX 4 CF 4]) (.seq (.seq (.ops [oF 5 29 2 0,oL 6 3 5 3,oF 7 29 3 0,oL 8 3 7 3,oB 9 .neq 3 (tK 6) (tK 8) 3 4]) (.cond (tK 9) (.seq (.ops [oX 4 CF 4]) .ret) .skip)) (.seq (.seq (.ops [oF 10 29 2 1,oL 11 3 10 3,oF 12 29 3 1,oL 13 3 12 3,oB 14 .neq 3 (tK 11) (tK 13) 3 4]) (.cond (tK 14) (.seq (.ops [oX 4 CF 4]) .ret) .skip)) (.seq (.seq (.ops [oF 15 29 2 2,oL 16 22 15 22,oF 17 29 3 2,oL 18 22 17 22,oC 19 48 [(tK 16),(tK 18)] [22,22] 4,oX 20 (.unOp .not 4 (tK 19)) 4]) (.cond (tK 20) (.seq (.ops [oX 4 CF 4]) .ret) .skip)) (.seq (.seq (.ops [oF 21 29 2 3,oL 22 22 21 22,oF 23 29 3 3,oL 24 22 23 22,oC 25 48 [(tK 22),(tK 24)] [22,22] 4,oX 26 (.unOp .not 4 (tK 25)) 4]) (.cond (tK 26) (.seq (.ops [oX 4 CF 4]) .ret) .skip)) (.seq (.ops [oX 4 (.assign Eh) 4]) .ret)))))
theorem A2Y:Try.f15.body.map (Bc lends)=some k15:=by kernel_rfl
theorem AEp:Bn Try.f15 2=true:=by kernel_rfl
theorem Y7{a l:List D}{r:D×List D}(h:Bq Y.env k15 (F9 Ab l.length [cb 4] r) (entry a l))(ha:a.length=2):Y.call 15 a l=some r:=
 Aa (Y:=Y) rfl Try.func15 (ha▸AEp) A2Y h
def k10:SC:= .seq (.ops [oX 2 (.box 24 (tK 0)) 0,oX 4 (.assign (iK 0)) 3]) (.seq (.ops [oF 5 24 2 2,oL 6 22 5 22,oM 7 1 3,oC 8 40 [(tK 6),(tK 7)] [22,3] 3,oA 1 8 3]) (.seq (.seq (.ops [oM 9 1 3,oB 10 .lss 3 (tK 9) (iK 0) 3 4]) (.cond (tK 10) (.seq (.ops [oX 4 O7 3]) .ret) .skip)) (.seq (.ops [oF 11 24 2 3,oL 12 22 11 22,oM 13 1 3,oC 14 40 [(tK 12),(tK 13)] [22,3] 3,oA 1 14 3]) (.seq (.seq (.ops [oM 15 1 3,oB 16 .lss 3 (tK 15) (iK 0) 3 4]) (.cond (tK 16) (.seq (.ops [oX 4 O7 3]) .ret) .skip)) (.seq (.ops [oM 17 1 3,oA 4 17 3]) .ret)))))
theorem A2Z:Try.f10.body.map (Bc lends)=some k10:=by kernel_rfl
theorem AEq:Bn Try.f10 2=true:=by kernel_rfl
theorem Lm{a l:List D}{r:D×List D}(h:Bq Y.env k10 (F9 Ab l.length [cb 4] r) (entry a l))(ha:a.length=2):Y.call 10 a l=some r:=
 Aa (Y:=Y) rfl Try.func10 (ha▸AEq) A2Z h
def JB(n lo hi:Int):Bool:=decide (lo≤n∧n≤hi)
theorem KW{n lo hi:Int}:JB n lo hi=true↔lo≤n∧n≤hi:=by simp [JB]
def QC(n_:Int)(low:Int)(high:Int):Option (Bool):= if low≤n_ then some (decide (n_≤high)) else some false
def k97:SC:= .seq (.ops [oX 6 CF 4]) (.seq (.ops [oM 7 1 3,oM 8 0 3,oB 9 .leq 3 (tK 7) (tK 8) 3 4,oM 10 9 4,⟨(some 11),(.move (tK 0)),3,(some (some 10,true))⟩,⟨(some 12),(.move (tK 2)),3,(some (some 10,true))⟩,⟨(some 13),(.binOp .leq 3 (tK 11) (tK 12) 3),4,(some (some 10,true))⟩,oX 14 (.pick (tK 10) (tK 13) PO) 4,oA 6 14 4]) .ret)
theorem A2a:Try.f97.body.map (Bc lends)=some k97:=by kernel_rfl
theorem AEs:Bn Try.f97 3=true:=by kernel_rfl
theorem c97{a l:List D}{r:D×List D}(h:Bq Y.env k97 (F9 Ab l.length [cb 6] r) (entry a l))(ha:a.length=3):Y.call 97 a l=some r:=
 Aa (Y:=Y) rfl Try.func97 (ha▸AEs) A2a h
theorem WF(n_:Int)(low:Int)(high:Int){r:Bool}(h:QC n_ low high=some r):Y.call 97 [bd .i64 n_,bd .i64 low,bd .i64 high] []=some (ca r,[]):=by
 refine c97 ?_ rfl;unfold k97;unfold QC at h;by_cases e1:low≤n_
 ·rw [if_pos e1]at h
  obtain rfl:=Option.some.inj h
  simp (maxDischargeDepth:=9) only [↓AP,AQ,Ae,↓reduceIte,bh,bj,bk,bl,bm,bo,bp,br,bt,bw,bx,bO,b0,b3,b4,b5,b6,e1]<;>(repeat' apply A7)<;>first|rfl|exact⟨_,rfl⟩|exact⟨_,_,rfl⟩|simp [AR,A9]
 ·rw [if_neg e1]at h
  obtain rfl:=Option.some.inj h
  simp (maxDischargeDepth:=9) only [↓AP,AQ,Ae,↓reduceIte,bh,bj,bk,bl,bm,bo,bp,br,bt,bw,bx,bO,b0,b3,b4,b5,b6,e1]<;>(repeat' apply A7)<;>first|rfl|exact⟨_,rfl⟩|exact⟨_,_,rfl⟩|simp [AR,A9]
def Y8(n_:Int)(lo:Int)(hi:Int):Option (Bool):= if lo≤n_ then some (decide (n_≤hi)) else some false
def k92:SC:= .seq (.ops [oX 6 CF 4]) (.seq (.ops [oM 7 0 3,oM 8 1 3,oB 9 .geq 3 (tK 7) (tK 8) 3 4,oM 10 9 4,⟨(some 11),(.move (tK 0)),3,(some (some 10,true))⟩,⟨(some 12),(.move (tK 2)),3,(some (some 10,true))⟩,⟨(some 13),(.binOp .leq 3 (tK 11) (tK 12) 3),4,(some (some 10,true))⟩,oX 14 (.pick (tK 10) (tK 13) PO) 4,oA 6 14 4]) .ret)
theorem A2b:Try.f92.body.map (Bc lends)=some k92:=by kernel_rfl
theorem AEu:Bn Try.f92 3=true:=by kernel_rfl
theorem c92{a l:List D}{r:D×List D}(h:Bq Y.env k92 (F9 Ab l.length [cb 6] r) (entry a l))(ha:a.length=3):Y.call 92 a l=some r:=
 Aa (Y:=Y) rfl Try.func92 (ha▸AEu) A2b h
theorem aP(n_:Int)(lo:Int)(hi:Int){r:Bool}(h:Y8 n_ lo hi=some r):Y.call 92 [bd .i64 n_,bd .i64 lo,bd .i64 hi] []=some (ca r,[]):=by
 refine c92 ?_ rfl;unfold k92;unfold Y8 at h;by_cases e1:lo≤n_
 ·rw [if_pos e1]at h
  obtain rfl:=Option.some.inj h
  simp (maxDischargeDepth:=9) only [↓AP,AQ,Ae,↓reduceIte,bh,bj,bk,bl,bm,bo,bp,br,bt,bw,bx,bO,b0,b3,b4,b5,b6,e1]<;>(repeat' apply A7)<;>first|rfl|exact⟨_,rfl⟩|exact⟨_,_,rfl⟩|simp [AR,A9]
 ·rw [if_neg e1]at h
  obtain rfl:=Option.some.inj h
  simp (maxDischargeDepth:=9) only [↓AP,AQ,Ae,↓reduceIte,bh,bj,bk,bl,bm,bo,bp,br,bt,bw,bx,bO,b0,b3,b4,b5,b6,e1]<;>(repeat' apply A7)<;>first|rfl|exact⟨_,rfl⟩|exact⟨_,_,rfl⟩|simp [AR,A9]
theorem aQ(n lo hi:Int):QC n lo hi=some (JB n lo hi):=by unfold QC JB;by_cases h1:lo≤n<;>by_cases h2:n≤hi<;>simp [h1,h2]
theorem kY(n lo hi:Int):Y8 n lo hi=some (JB n lo hi):=by unfold Y8 JB;by_cases h1:lo≤n<;>by_cases h2:n≤hi<;>simp [h1,h2]
theorem J5(n_:Int)(low:Int)(high:Int):Y.call 97 [bd .i64 n_,bd .i64 low,bd .i64 high] []=some (ca (JB n_ low high),[]):=WF n_ low high (aQ n_ low high)
theorem Kl(n_:Int)(lo:Int)(hi:Int):Y.call 92 [bd .i64 n_,bd .i64 lo,bd .i64 hi] []=some (ca (JB n_ lo hi),[]):=aP n_ lo hi (kY n_ lo hi)
def IR(l:AO)(lo:Int)(hi:Int)(Br:Int):Option ((Int)⊕(Unit⊕Unit)):= if Br<(l.length:Int)then ck (0≤Br∧Br.toNat<l.length)<| if(JB (l.getD Br.toNat be) lo hi)=true then some (cc (cd.wrap (Br+1))) else some (b8 (cc ())) else some (b8 (b8 ()))
def Mm(l:AO)(lo:Int)(hi:Int)(v:Int):Option (Unit⊕Unit):=Iy (fun v=>IR l lo hi v) v
def Sm(l:AO)(lo:Int)(hi:Int):Option (Bool):=
 (Mm l lo hi 0).bind fun AX=>
 match AX with
 | .inl q1000_=>
  some false
 | .inr q1000_=>
  some true
def UQ:SC:= .seq (.ops [oB 12 .lss 3 (tK 11) (tK 10) 3 0]) (.seq (.cond (tK 12) .skip (.exit 0)) (.seq (.block 1 (.seq (.ops [oI 13 26 9 11,oL 14 3 13 3,oA 8 14 3]) (.seq (.ops [oM 15 8 3,oM 16 1 3,oM 17 2 3,oC 18 92 [(tK 15),(tK 16),(tK 17)] [3,3,3] 4,oX 19 (.unOp .not 4 (tK 18)) 4]) (.cond (tK 19) (.seq (.ops [oX 6 CF 4]) .ret) .skip)))) (.ops [oB 20 .add 3 (tK 11) (iK 1) 3 3,oM 11 20 3])))
def gq:SC:= .loop UQ
def A2c:SC:= .seq (.ops [oX 6 CF 4]) (.seq (.seq (.ops [oM 9 0 26,oN 10 9 26,oX 11 (.move (iK 0)) 3]) (.block 0 gq)) (.seq (.ops [oX 6 (.assign Eh) 4]) .ret))
theorem tL:Try.f107.body.map (Bc lends)=some A2c:=by kernel_rfl
theorem A9l:Bn Try.f107 3=true:=by kernel_rfl
theorem AEv{a l:List D}{r:D×List D}(h:Bq Y.env A2c (F9 Ab l.length [cb 6] r) (entry a l))(ha:a.length=3):Y.call 107 a l=some r:=
 Aa (Y:=Y) rfl Try.func107 (ha▸A9l) tL h
def GD(l:AO)(lo:Int)(hi:Int)(Br:Int)(s:St):Prop:=s.v 1=bd .i64 lo∧s.v 2=bd .i64 hi∧s.v 9=b7 3 (AR (bd .i64) l)∧s.v 10=bd .i64 (l.length:Int)∧s.v 11=bd .i64 Br
def GG(l:AO)(lo:Int)(hi:Int)(r:Unit⊕Unit)(ex:Ex)(s:St):Prop:=match r with
 | .inl q=>ex= .ret∧s.v 6=ca false
 | .inr q=>ex= .exit 0
theorem WG(l:AO)(lo:Int)(hi:Int){v:Int}{s:St}{r:Unit⊕Unit}(h:Mm l lo hi v=some r)(hM:GD l lo hi v s):Bq Y.env gq (GG l lo hi r) s:=by
 unfold Mm at h;refine BV (c:=UQ) (fun v=>IR l lo hi v) (fun v s=>GD l lo hi v s) (GG l lo hi) ?_ h hM;clear h hM s v r;intro Br s o hM h;unfold IR at h;unfold GD at hM;obtain⟨m0,m1,m2,m3,m4⟩:=hM;unfold UQ;by_cases e1:Br<(l.length:Int)
 ·rw [if_pos e1]at h;obtain⟨e2,h⟩:=BS h;have c3:=Kl (l.getD Br.toNat be) lo hi;by_cases e4:(JB (l.getD Br.toNat be) lo hi)=true
  ·rw [if_pos e4]at h
   obtain rfl:=Option.some.inj h
   simp (maxDischargeDepth:=9) only [↓AP,AQ,Ae,↓reduceIte,bh,bj,bk,bl,bm,bo,bp,br,bt,bw,bx,bO,b0,b3,b4,b5,b6,m0,m1,m2,m3,m4,e1,e2.1,e2.2,c3,e4,GD,GG,CU,CV,CW]<;>(repeat' apply A7)<;>first|rfl|exact⟨_,rfl⟩|exact⟨_,_,rfl⟩|simp [AR,A9]
  ·rw [if_neg e4]at h;have e4f:(JB (l.getD Br.toNat be) lo hi)=false:=JA.mpr e4
   obtain rfl:=Option.some.inj h
   simp (maxDischargeDepth:=9) only [↓AP,AQ,Ae,↓reduceIte,bh,bj,bk,bl,bm,bo,bp,br,bt,bw,bx,bO,b0,b3,b4,b5,b6,m0,m1,m2,m3,m4,e1,e2.1,e2.2,c3,e4f,GD,GG,CU,CV,CW]<;>(repeat' apply A7)<;>first|rfl|exact⟨_,rfl⟩|exact⟨_,_,rfl⟩|simp [AR,A9]
 ·rw [if_neg e1]at h
  obtain rfl:=Option.some.inj h
  simp (maxDischargeDepth:=9) only [↓AP,AQ,Ae,↓reduceIte,bh,bj,bk,bl,bm,bo,bp,br,bt,bw,bx,bO,b0,b3,b4,b5,b6,m0,m1,m2,m3,m4,e1,GD,GG,CU,CV,CW]<;>(repeat' apply A7)<;>first|rfl|exact⟨_,rfl⟩|exact⟨_,_,rfl⟩|simp [AR,A9]
theorem Y9(l:AO)(lo:Int)(hi:Int){r:Bool}(h:Sm l lo hi=some r):Y.call 107 [b7 3 (AR (bd .i64) l),bd .i64 lo,bd .i64 hi] []=some (ca r,[]):=by
 refine AEv ?_ rfl;unfold A2c;unfold Sm at h;obtain⟨AX,hl2,h⟩:=Av h;try dsimp only at h
 simp (maxDischargeDepth:=9) only [↓AP,AQ,Ae,↓reduceIte,bh,bj,bk,bl,bm,bo,bp,br,bt,bw,bx,bO,b0,b3,b4,b5,b6];refine BB (WG l lo hi hl2 ?_) ?_
 ·simp (maxDischargeDepth:=9) only [↓AP,AQ,Ae,↓reduceIte,bh,bj,bk,bl,bm,bo,bp,br,bt,bw,bx,bO,b0,b3,b4,b5,b6,GD]<;>(repeat' apply A7)<;>first|rfl|exact⟨_,rfl⟩|exact⟨_,_,rfl⟩|simp [AR,A9]
 ·intro ex2 s2 hX2;rcases AX with q1000_|q1000_
  ·unfold GG at hX2;dsimp only at hX2 h;obtain⟨rfl,n2_0⟩:=hX2
   obtain rfl:=Option.some.inj h
   simp (maxDischargeDepth:=9) only [↓AP,AQ,Ae,↓reduceIte,bh,bj,bk,bl,bm,bo,bp,br,bt,bw,bx,bO,b0,b3,b4,b5,b6,n2_0]<;>(repeat' apply A7)<;>first|rfl|exact⟨_,rfl⟩|exact⟨_,_,rfl⟩|simp [AR,A9]
  ·unfold GG at hX2;dsimp only at hX2 h
   obtain rfl:=hX2
   obtain rfl:=Option.some.inj h
   simp (maxDischargeDepth:=9) only [↓AP,AQ,Ae,↓reduceIte,bh,bj,bk,bl,bm,bo,bp,br,bt,bw,bx,bO,b0,b3,b4,b5,b6]<;>(repeat' apply A7)<;>first|rfl|exact⟨_,rfl⟩|exact⟨_,_,rfl⟩|simp [AR,A9]
def EF(l:AO)(lo hi:Int):Bool:=l.all fun x=>JB x lo hi
theorem eY(l:AO)(lo hi:Int)(h:l.length<1099511627776):Sm l lo hi=some (EF l lo hi):=by
 unfold Sm Mm;have key:=Iz (fun v=>IR l lo hi v) (fun i=>(i:Int)) l.length (fun i=>JB (l.getD i be) lo hi) (.inl ()) (.inr ()) ?_ ?_
 ·simp only [Lu]at key;rw [key,aH (fun x=>JB x lo hi)];unfold EF
  cases l.all (fun x=>JB x lo hi)<;>rfl
 ·intro i hi;simp only [IR];rw [if_pos (Be hi),Bb (IZ hi),JX,KO i (by omega)]
 ·simp only [IR];rw [if_neg (Am _)]
theorem UR(l:AO)(lo:Int)(hi:Int)(h0:l.length<1099511627776):Y.call 107 [b7 3 (AR (bd .i64) l),bd .i64 lo,bd .i64 hi] []=some (ca (EF l lo hi),[]):=Y9 l lo hi (eY l lo hi h0)
def Aw(s_:AO)(f:Int→Option Bool)(FT:Int):Option ((Int)⊕(Int⊕Unit)):= if FT<(s_.length:Int)then ck (0≤FT∧FT.toNat<s_.length)<| (f (s_.getD FT.toNat be)).bind fun Qx=> if Qx=true then some (b8 (cc FT)) else some (cc (cd.wrap (FT+1))) else some (b8 (b8 ()))
def Cc(s_:AO)(f:Int→Option Bool)(v:Int):Option (Int⊕Unit):=Iy (fun v=>Aw s_ f v) v
def CO(s_:AO)(f:Int→Option Bool):Option (Int):=
 (Cc s_ f 0).bind fun AX=>
 match AX with
 | .inl q1000_=>
  some q1000_
 | .inr q1000_=>
  some (-1)
def UT:SC:= .seq (.ops [oB 9 .lss 3 (tK 8) (tK 7) 3 0]) (.seq (.cond (tK 9) .skip (.exit 0)) (.seq (.block 1 (.seq (.ops [oM 10 8 3,oA 5 10 3]) (.seq (.ops [oM 11 1 87,oM 12 0 26,oM 13 5 3,oI 14 26 12 13,oL 15 3 14 3,oX 16 (.call ⟨(.value (tK 11)), #[(tK 15)], #[3]⟩) 4]) (.cond (tK 16) (.seq (.ops [oM 17 5 3,oA 4 17 3]) .ret) .skip)))) (.ops [oB 18 .add 3 (tK 8) (iK 1) 3 3,oM 8 18 3])))
def gu:SC:= .loop UT
def A2d:SC:= .seq (.ops [oX 4 (.assign (iK 0)) 3]) (.seq (.seq (.ops [oM 6 0 26,oN 7 6 26,oX 8 (.move (iK 0)) 3]) (.block 0 gu)) (.seq (.ops [oX 4 O7 3]) .ret))
theorem tN:Try.f163.body.map (Bc lends)=some A2d:=by kernel_rfl
theorem A9m:Bn Try.f163 2=true:=by kernel_rfl
theorem AEw{a l:List D}{r:D×List D}(h:Bq Y.env A2d (F9 Ab l.length [cb 4] r) (entry a l))(ha:a.length=2):Y.call 163 a l=some r:=
 Aa (Y:=Y) rfl Try.func163 (ha▸A9m) tN h
def BD(s_:AO)(f:Int→Option Bool)(f_f:FuncId)(f_c:List D)(FT:Int)(s:St):Prop:=s.v 0=b7 3 (AR (bd .i64) s_)∧s.v 1=D.clo f_f f_c∧s.v 7=bd .i64 (s_.length:Int)∧s.v 8=bd .i64 FT
def BF(s_:AO)(f:Int→Option Bool)(f_f:FuncId)(f_c:List D)(r:Int⊕Unit)(ex:Ex)(s:St):Prop:=match r with
 | .inl q=>ex= .ret∧s.v 4=bd .i64 q
 | .inr q=>ex= .exit 0
theorem J9(s_:AO)(f:Int→Option Bool)(f_f:FuncId)(f_c:List D)(f_h: ∀(a0:Int) (r:Bool),f a0=some r→Y.call f_f (bd .i64 a0::f_c) []=some (ca r,[]))(f_l:lends f_f=false){v:Int}{s:St}{r:Int⊕Unit}(h:Cc s_ f v=some r)(hM:BD s_ f f_f f_c v s):Bq Y.env gu (BF s_ f f_f f_c r) s:=by
 unfold Cc at h;refine BV (c:=UT) (fun v=>Aw s_ f v) (fun v s=>BD s_ f f_f f_c v s) (BF s_ f f_f f_c) ?_ h hM;clear h hM s v r;intro FT s o hM h;unfold Aw at h;unfold BD at hM;obtain⟨m0,m1,m2,m3⟩:=hM;unfold UT;by_cases e1:FT<(s_.length:Int)
 ·rw [if_pos e1]at h;obtain⟨e2,h⟩:=BS h;obtain⟨Qx,hl3,h⟩:=Av h;try dsimp only at h
  have c3:=f_h _ _ hl3;by_cases e4:Qx=true
  ·rw [if_pos e4]at h
   obtain rfl:=Option.some.inj h
   simp (maxDischargeDepth:=9) only [↓AP,AQ,Ae,↓reduceIte,bh,bj,bk,bl,bm,bo,bp,br,bt,bw,bx,bO,b0,b3,b4,b5,b6,m0,m1,m2,m3,f_l,e1,e2.1,e2.2,c3,e4,BD,BF,CU,CV,CW]<;>(repeat' apply A7)<;>first|rfl|exact⟨_,rfl⟩|exact⟨_,_,rfl⟩|simp [AR,A9]
  ·rw [if_neg e4]at h;have e4f:Qx=false:=JA.mpr e4
   obtain rfl:=Option.some.inj h
   simp (maxDischargeDepth:=9) only [↓AP,AQ,Ae,↓reduceIte,bh,bj,bk,bl,bm,bo,bp,br,bt,bw,bx,bO,b0,b3,b4,b5,b6,m0,m1,m2,m3,f_l,e1,e2.1,e2.2,c3,e4f,BD,BF,CU,CV,CW]<;>(repeat' apply A7)<;>first|rfl|exact⟨_,rfl⟩|exact⟨_,_,rfl⟩|simp [AR,A9]
 ·rw [if_neg e1]at h
  obtain rfl:=Option.some.inj h
  simp (maxDischargeDepth:=9) only [↓AP,AQ,Ae,↓reduceIte,bh,bj,bk,bl,bm,bo,bp,br,bt,bw,bx,bO,b0,b3,b4,b5,b6,m0,m1,m2,m3,f_l,e1,BD,BF,CU,CV,CW]<;>(repeat' apply A7)<;>first|rfl|exact⟨_,rfl⟩|exact⟨_,_,rfl⟩|simp [AR,A9]
theorem JL(s_:AO)(f:Int→Option Bool)(f_f:FuncId)(f_c:List D)(f_h: ∀(a0:Int) (r:Bool),f a0=some r→Y.call f_f (bd .i64 a0::f_c) []=some (ca r,[]))(f_l:lends f_f=false){r:Int}(h:CO s_ f=some r):Y.call 163 [b7 3 (AR (bd .i64) s_),D.clo f_f f_c] []=some (bd .i64 r,[]):=by
 refine AEw ?_ rfl;unfold A2d;unfold CO at h;obtain⟨AX,hl2,h⟩:=Av h;try dsimp only at h
 simp (maxDischargeDepth:=9) only [↓AP,AQ,Ae,↓reduceIte,bh,bj,bk,bl,bm,bo,bp,br,bt,bw,bx,bO,b0,b3,b4,b5,b6,f_l];refine BB (J9 s_ f f_f f_c f_h f_l hl2 ?_) ?_
 ·simp (maxDischargeDepth:=9) only [↓AP,AQ,Ae,↓reduceIte,bh,bj,bk,bl,bm,bo,bp,br,bt,bw,bx,bO,b0,b3,b4,b5,b6,f_l,BD]<;>(repeat' apply A7)<;>first|rfl|exact⟨_,rfl⟩|exact⟨_,_,rfl⟩|simp [AR,A9]
 ·intro ex2 s2 hX2;rcases AX with q1000_|q1000_
  ·unfold BF at hX2;dsimp only at hX2 h;obtain⟨rfl,n2_0⟩:=hX2
   obtain rfl:=Option.some.inj h
   simp (maxDischargeDepth:=9) only [↓AP,AQ,Ae,↓reduceIte,bh,bj,bk,bl,bm,bo,bp,br,bt,bw,bx,bO,b0,b3,b4,b5,b6,f_l,n2_0]<;>(repeat' apply A7)<;>first|rfl|exact⟨_,rfl⟩|exact⟨_,_,rfl⟩|simp [AR,A9]
  ·unfold BF at hX2;dsimp only at hX2 h
   obtain rfl:=hX2
   obtain rfl:=Option.some.inj h
   simp (maxDischargeDepth:=9) only [↓AP,AQ,Ae,↓reduceIte,bh,bj,bk,bl,bm,bo,bp,br,bt,bw,bx,bO,b0,b3,b4,b5,b6,f_l]<;>(repeat' apply A7)<;>first|rfl|exact⟨_,rfl⟩|exact⟨_,_,rfl⟩|simp [AR,A9]
def Bi(s_:AO)(f:Int→Option Bool):Option (Bool):= (CO s_ f).bind fun ou=> some (decide (0≤ou))
def A2e:SC:= .seq (.ops [oX 4 CF 4]) (.seq (.ops [oM 5 0 26,oM 6 1 87,oC 7 163 [(tK 5),(tK 6)] [26,87] 3,oB 8 .geq 3 (tK 7) (iK 0) 3 4,oA 4 8 4]) .ret)
theorem tO:Try.f133.body.map (Bc lends)=some A2e:=by kernel_rfl
theorem A9n:Bn Try.f133 2=true:=by kernel_rfl
theorem AEx{a l:List D}{r:D×List D}(h:Bq Y.env A2e (F9 Ab l.length [cb 4] r) (entry a l))(ha:a.length=2):Y.call 133 a l=some r:=
 Aa (Y:=Y) rfl Try.func133 (ha▸A9n) tO h
theorem Ig(s_:AO)(f:Int→Option Bool)(f_f:FuncId)(f_c:List D)(f_h: ∀(a0:Int) (r:Bool),f a0=some r→Y.call f_f (bd .i64 a0::f_c) []=some (ca r,[]))(f_l:lends f_f=false){r:Bool}(h:Bi s_ f=some r):Y.call 133 [b7 3 (AR (bd .i64) s_),D.clo f_f f_c] []=some (ca r,[]):=by
 refine AEx ?_ rfl;unfold A2e;unfold Bi at h;obtain⟨ou,hl1,h⟩:=Av h;try dsimp only at h
 have c1:=JL s_ f f_f f_c f_h f_l hl1
 obtain rfl:=Option.some.inj h
 simp (maxDischargeDepth:=9) only [↓AP,AQ,Ae,↓reduceIte,bh,bj,bk,bl,bm,bo,bp,br,bt,bw,bx,bO,b0,b3,b4,b5,b6,f_l,c1]<;>(repeat' apply A7)<;>first|rfl|exact⟨_,rfl⟩|exact⟨_,_,rfl⟩|simp [AR,A9]
def Ih(n_:Int)(c0_:Int)(c1_:Int):Option (Bool):= some (!(JB n_ c0_ c1_))
def A2f:SC:= .seq (.ops [oX 4 CF 4]) (.seq (.ops [oM 5 0 3,oL 6 3 1 3,oL 7 3 2 3,oC 8 97 [(tK 5),(tK 6),(tK 7)] [3,3,3] 4,oX 9 (.unOp .not 4 (tK 8)) 4,oA 4 9 4]) .ret)
theorem tQ:Try.f170.body.map (Bc lends)=some A2f:=by kernel_rfl
theorem A9o:Bn Try.f170 3=true:=by kernel_rfl
theorem AEy{a l:List D}{r:D×List D}(h:Bq Y.env A2f (F9 Ab l.length [cb 4] r) (entry a l))(ha:a.length=3):Y.call 170 a l=some r:=
 Aa (Y:=Y) rfl Try.func170 (ha▸A9o) tQ h
theorem PP(n_:Int)(c0_:Int)(c1_:Int){r:Bool}(h:Ih n_ c0_ c1_=some r):Y.call 170 [bd .i64 n_,D.cptr [bd .i64 c0_],D.cptr [bd .i64 c1_]] []=some (ca r,[]):=by
 refine AEy ?_ rfl;unfold A2f;unfold Ih at h;have c1:=J5 n_ c0_ c1_
 obtain rfl:=Option.some.inj h
 simp (maxDischargeDepth:=9) only [↓AP,AQ,Ae,↓reduceIte,bh,bj,bk,bl,bm,bo,bp,br,bt,bw,bx,bO,b0,b3,b4,b5,b6,c1]<;>(repeat' apply A7)<;>first|rfl|exact⟨_,rfl⟩|exact⟨_,_,rfl⟩|simp [AR,A9]
def LW(list:AO)(low:Int)(high:Int):Option (Bool):= (Bi list (fun a0=>Ih a0 low high)).bind fun r9_=> some (!r9_)
def A2h:SC:= .seq (.ops [oX 4 (.box 3 (tK 1)) 0,oX 5 (.box 3 (tK 2)) 0,oX 6 CF 4]) (.seq (.ops [oM 7 0 26,oX 8 (.makeFunc (Fn.func 170) #[] #[(tK 4),(tK 5)]) 87,oC 9 133 [(tK 7),(tK 8)] [26,87] 4,oX 10 (.unOp .not 4 (tK 9)) 4,oA 6 10 4]) .ret)
theorem tT:Try.f144.body.map (Bc lends)=some A2h:=by kernel_rfl
theorem A9p:Bn Try.f144 3=true:=by kernel_rfl
theorem AEz{a l:List D}{r:D×List D}(h:Bq Y.env A2h (F9 Ab l.length [cb 6] r) (entry a l))(ha:a.length=3):Y.call 144 a l=some r:=
 Aa (Y:=Y) rfl Try.func144 (ha▸A9p) tT h
theorem Qy(list:AO)(low:Int)(high:Int){r:Bool}(h:LW list low high=some r):Y.call 144 [b7 3 (AR (bd .i64) list),bd .i64 low,bd .i64 high] []=some (ca r,[]):=by
 refine AEz ?_ rfl;unfold A2h;unfold LW at h;obtain⟨r9_,hl1,h⟩:=Av h;try dsimp only at h
 have c1:=Ig list (fun a0=>Ih a0 low high) 170 [D.cptr [bd .i64 low],D.cptr [bd .i64 high]] (fun a0 _ hh=>PP a0 low high hh) oO hl1
 obtain rfl:=Option.some.inj h
 simp (maxDischargeDepth:=9) only [↓AP,AQ,Ae,↓reduceIte,bh,bj,bk,bl,bm,bo,bp,br,bt,bw,bx,bO,b0,b3,b4,b5,b6,c1]<;>(repeat' apply A7)<;>first|rfl|exact⟨_,rfl⟩|exact⟨_,_,rfl⟩|simp [AR,A9]
theorem YA(l:AO)(f:Int→Option Bool)(p:Int→Bool)(h:l.length<1099511627776)(hf: ∀x∈l,f x=some (p x)):
  ∃r,CO l f=some r∧(0≤r↔l.any p=true):=by
 unfold CO Cc;by_cases ha: ∀i,i<l.length→(!p (l.getD i be))=true
 ·have key:=CB (fun v=>Aw l f v) (fun i=>(i:Int)) l.length (.inr ()) ?_ ?_
  ·simp only [Lu]at key;rw [key]
   refine⟨-1,rfl,by simp,fun hc=> ?_⟩
   obtain⟨x,hx,hpx⟩:=List.any_eq_true.1 hc;obtain⟨i,hi,rfl⟩:=bJ hx;have:=ha i hi
   rw [BA _ _ hi,hpx]at this;cases this
  ·intro i hi;simp only [Aw];have e:=ha i hi;rw [BA _ _ hi]at e;rw [if_pos (Be hi),Bb (IZ hi),JK _ _ hi,hf _ (Jc hi),Cq,if_neg (by cases hp:p l[i]<;>simp_all),KO i (by omega)]
  ·simp only [Aw];rw [if_neg (Am _)]
 ·obtain⟨m,h1,h2,h3⟩:=PL (P:=fun i=> !p (l.getD i be)) ha;have key:=CB (fun v=>Aw l f v) (fun i=>(i:Int)) m (.inl (m:Int)) ?_ ?_
  ·simp only [Lu]at key;rw [key]
   refine⟨(m:Int),rfl,fun _=> ?_,fun _=>by omega⟩
   have h2':p l[m]=true:=by rw [BA _ _ h1]at h2;simpa using h2
   exact List.any_eq_true.2 ⟨_,Jc h1,h2'⟩
  ·intro i hi;simp only [Aw];have e:=h3 i hi;rw [BA _ _ (by omega)]at e
   rw [if_pos (Be (by omega)),Bb (IZ (by omega)),JK _ _ (by omega),hf _ (Jc _),Cq,if_neg (by cases hp:p l[i]<;>simp_all),KO i (by omega)]
  ·simp only [Aw];have h2':p l[m]=true:=by rw [BA _ _ h1]at h2;simpa using h2
   rw [if_pos (Be h1),Bb (IZ h1),JK _ _ h1,hf _ (Jc _),Cq,if_pos h2']
theorem S9(l:AO)(f:Int→Option Bool)(p:Int→Bool)(h:l.length<1099511627776)(hf: ∀x∈l,f x=some (p x)):Bi l f=some (l.any p):=by
 obtain⟨r,h1,h2⟩:=YA l f p h hf;unfold Bi;rw [h1,Cq]
 congr 1
 rw [Qb];simpa using h2
theorem UU(l:AO)(lo hi:Int)(h:l.length<1099511627776):LW l lo hi=some (EF l lo hi):=by
 unfold LW;rw [S9 l (fun a0=>Ih a0 lo hi) (fun x=> !JB x lo hi) h (fun x _=>rfl),Cq];unfold EF;rw [List.all_eq_not_any_not]
theorem UV(list:AO)(low:Int)(high:Int)(h0:list.length<1099511627776):Y.call 144 [b7 3 (AR (bd .i64) list),bd .i64 low,bd .i64 high] []=some (ca (EF list low high),[]):=Qy list low high (UU list low high h0)
theorem Rl.getD{l:bD}(h:Rl l)(i:Nat):(l.getD i be).length<1099511627776:=by
 rcases Nat.lt_or_ge i l.length with hi|hi
 ·rw [BA _ _ hi];exact h.at i hi
 ·rw [KG,List.getElem?_eq_none hi];decide
def YB(x:Int):AO→AO
 | []=>[x]
 |y::r=>if x<y then y::YB x r else x::y::r
def J6(l:AO):AO:=(l.foldl (fun r x=>YB x r) []).reverse
theorem XD(x:Int): ∀r,(YB x r).Perm (x::r):=by
 intro r
 induction r with
 |nil=>exact List.Perm.refl _
 |cons y r ih=>
  unfold YB;split
  ·exact((List.perm_cons y).2 ih).trans (List.Perm.swap x y r)
  ·exact List.Perm.refl _
theorem kZ(x:Int): ∀r,r.Pairwise (fun a b=>b≤a)→(YB x r).Pairwise (fun a b=>b≤a):=by
 intro r
 induction r with
 |nil=>intro _;simp [YB]
 |cons y r ih=>
  intro h;obtain⟨h1,h2⟩:=ce.1 h;unfold YB;split
  ·rename_i hxy
   refine ce.2 ⟨fun z hz=> ?_,ih h2⟩;rcases Pb.1 ((XD x r).mem_iff.1 hz)with rfl|hz
   ·omega
   ·exact h1 z hz
  ·rename_i hxy
   refine ce.2 ⟨fun z hz=> ?_,h⟩;rcases Pb.1 hz with rfl|hz
   ·omega
   ·have:=h1 z hz;omega
theorem eZ: ∀(l r:AO),(l.foldl (fun r x=>YB x r) r).Perm (l++r):=by
 intro l
 induction l with
 |nil=>intro r;exact List.Perm.refl _
 |cons x l ih=>
  intro r;simp only [XM]
  exact(ih _).trans (((List.Perm.refl l).append (XD x r)).trans List.perm_middle)
theorem ed: ∀(l r:AO),r.Pairwise (fun a b=>b≤a)→(l.foldl (fun r x=>YB x r) r).Pairwise (fun a b=>b≤a):=by
 intro l
 induction l with
 |nil=>intro r h;exact h
 |cons x l ih=>intro r h;exact ih _ (kZ x r h)
theorem Ji(l:AO):(J6 l).Perm l:=by
 unfold J6;have:=eZ l []
 rw [TD]at this
 exact(List.reverse_perm _).trans this
theorem Mo(l:AO):(J6 l).Pairwise (fun a b=>a≤b):=by
 unfold J6;exact List.pairwise_reverse.2 (ed l [] List.Pairwise.nil)
theorem UW(l:AO):Ct l=J6 l:=by
 refine List.Perm.eq_of_pairwise (le:=fun a b:Int=>a≤b) (fun a b _ _ h1 h2=>Int.le_antisymm h1 h2) ?_ (Mo l) ((List.mergeSort_perm _ _).trans (Ji l).symm);have:=List.pairwise_mergeSort (le:=fun x y:Int=>decide (x≤y)) (fun a b c h1 h2=>by simp only [decide_eq_true_eq]at*;omega) (fun a b=>by simp only [NW,decide_eq_true_eq];omega) l
 unfold Ct;exact this.imp (fun h=>by simpa using h)
theorem XE(l:AO):(J6 l).length=l.length:=(Ji l).length_eq
def Cm(s_:AO):Option (AO):= some s_
def A2i:SC:= .seq (.ops [oX 1 (.box 26 (tK 0)) 0,oX 2 (.assign (.const .nilFunc)) 132]) (.seq (.ops [oX 3 (.makeFunc (Fn.func 155) #[] #[(tK 1)]) 131,oA 2 3 132]) .ret)
theorem tV:Try.f116.body.map (Bc lends)=some A2i:=by kernel_rfl
theorem A9q:Bn Try.f116 1=true:=by kernel_rfl
theorem AF0{a l:List D}{r:D×List D}(h:Bq Y.env A2i (F9 Ab l.length [cb 2] r) (entry a l))(ha:a.length=1):Y.call 116 a l=some r:=
 Aa (Y:=Y) rfl Try.func116 (ha▸A9q) tV h
theorem G7(s_:AO){r:AO}(h:Cm s_=some r):Y.call 116 [b7 3 (AR (bd .i64) s_)] []=some (D.clo 155 [D.cptr [b7 3 (AR (bd .i64) r)]],[]):=by
 refine AF0 ?_ rfl;unfold A2i;unfold Cm at h
 obtain rfl:=Option.some.inj h
 simp (maxDischargeDepth:=9) only [↓AP,AQ,Ae,↓reduceIte,bh,bj,bk,bl,bm,bo,bp,br,bt,bw,bx,bO,b0,b3,b4,b5,b6]<;>(repeat' apply A7)<;>first|rfl|exact⟨_,rfl⟩|exact⟨_,_,rfl⟩|simp [AR,A9]
def IU(l:AO)(n_:Int)(Hq:Int):Option ((Int)⊕(Unit⊕Unit)):= if Hq<(l.length:Int)then ck (0≤Hq∧Hq.toNat<l.length)<| if(l.getD Hq.toNat be)=n_ then some (b8 (cc ())) else some (cc (cd.wrap (Hq+1))) else some (b8 (b8 ()))
def Mq(l:AO)(n_:Int)(v:Int):Option (Unit⊕Unit):=Iy (fun v=>IU l n_ v) v
def Sn(l:AO)(n_:Int):Option (Bool):=
 (Mq l n_ 0).bind fun AX=>
 match AX with
 | .inl q1000_=>
  some true
 | .inr q1000_=>
  some false
def YC:SC:= .seq (.ops [oB 10 .lss 3 (tK 9) (tK 8) 3 0]) (.seq (.cond (tK 10) .skip (.exit 0)) (.seq (.block 1 (.seq (.ops [oI 11 26 7 9,oL 12 3 11 3,oA 6 12 3]) (.seq (.ops [oM 13 6 3,oM 14 1 3,oB 15 .eql 3 (tK 13) (tK 14) 3 4]) (.cond (tK 15) (.seq (.ops [oX 4 (.assign Eh) 4]) .ret) .skip)))) (.ops [oB 16 .add 3 (tK 9) (iK 1) 3 3,oM 9 16 3])))
def ow:SC:= .loop YC
def k89:SC:= .seq (.ops [oX 4 CF 4]) (.seq (.seq (.ops [oM 7 0 26,oN 8 7 26,oX 9 (.move (iK 0)) 3]) (.block 0 ow)) (.seq (.ops [oX 4 CF 4]) .ret))
theorem A2j:Try.f89.body.map (Bc lends)=some k89:=by kernel_rfl
theorem AF2:Bn Try.f89 2=true:=by kernel_rfl
theorem c89{a l:List D}{r:D×List D}(h:Bq Y.env k89 (F9 Ab l.length [cb 4] r) (entry a l))(ha:a.length=2):Y.call 89 a l=some r:=
 Aa (Y:=Y) rfl Try.func89 (ha▸AF2) A2j h
def GH(l:AO)(n_:Int)(Hq:Int)(s:St):Prop:=s.v 1=bd .i64 n_∧s.v 7=b7 3 (AR (bd .i64) l)∧s.v 8=bd .i64 (l.length:Int)∧s.v 9=bd .i64 Hq
def GI(l:AO)(n_:Int)(r:Unit⊕Unit)(ex:Ex)(s:St):Prop:=match r with
 | .inl q=>ex= .ret∧s.v 4=ca true
 | .inr q=>ex= .exit 0
theorem WH(l:AO)(n_:Int){v:Int}{s:St}{r:Unit⊕Unit}(h:Mq l n_ v=some r)(hM:GH l n_ v s):Bq Y.env ow (GI l n_ r) s:=by
 unfold Mq at h;refine BV (c:=YC) (fun v=>IU l n_ v) (fun v s=>GH l n_ v s) (GI l n_) ?_ h hM;clear h hM s v r;intro Hq s o hM h;unfold IU at h;unfold GH at hM;obtain⟨m0,m1,m2,m3⟩:=hM;unfold YC;by_cases e1:Hq<(l.length:Int)
 ·rw [if_pos e1]at h;obtain⟨e2,h⟩:=BS h;by_cases e3:(l.getD Hq.toNat be)=n_
  ·rw [if_pos e3]at h
   obtain rfl:=Option.some.inj h
   simp (maxDischargeDepth:=9) only [↓AP,AQ,Ae,↓reduceIte,bh,bj,bk,bl,bm,bo,bp,br,bt,bw,bx,bO,b0,b3,b4,b5,b6,m0,m1,m2,m3,e1,e2.1,e2.2,decide_eq_true e3,GH,GI,CU,CV,CW]<;>(repeat' apply A7)<;>first|rfl|exact⟨_,rfl⟩|exact⟨_,_,rfl⟩|simp [AR,A9]
  ·rw [if_neg e3]at h
   obtain rfl:=Option.some.inj h
   simp (maxDischargeDepth:=9) only [↓AP,AQ,Ae,↓reduceIte,bh,bj,bk,bl,bm,bo,bp,br,bt,bw,bx,bO,b0,b3,b4,b5,b6,m0,m1,m2,m3,e1,e2.1,e2.2,e3,GH,GI,CU,CV,CW]<;>(repeat' apply A7)<;>first|rfl|exact⟨_,rfl⟩|exact⟨_,_,rfl⟩|simp [AR,A9]
 ·rw [if_neg e1]at h
  obtain rfl:=Option.some.inj h
  simp (maxDischargeDepth:=9) only [↓AP,AQ,Ae,↓reduceIte,bh,bj,bk,bl,bm,bo,bp,br,bt,bw,bx,bO,b0,b3,b4,b5,b6,m0,m1,m2,m3,e1,GH,GI,CU,CV,CW]<;>(repeat' apply A7)<;>first|rfl|exact⟨_,rfl⟩|exact⟨_,_,rfl⟩|simp [AR,A9]
theorem YD(l:AO)(n_:Int){r:Bool}(h:Sn l n_=some r):Y.call 89 [b7 3 (AR (bd .i64) l),bd .i64 n_] []=some (ca r,[]):=by
 refine c89 ?_ rfl;unfold k89;unfold Sn at h;obtain⟨AX,hl2,h⟩:=Av h;try dsimp only at h
 simp (maxDischargeDepth:=9) only [↓AP,AQ,Ae,↓reduceIte,bh,bj,bk,bl,bm,bo,bp,br,bt,bw,bx,bO,b0,b3,b4,b5,b6];refine BB (WH l n_ hl2 ?_) ?_
 ·simp (maxDischargeDepth:=9) only [↓AP,AQ,Ae,↓reduceIte,bh,bj,bk,bl,bm,bo,bp,br,bt,bw,bx,bO,b0,b3,b4,b5,b6,GH]<;>(repeat' apply A7)<;>first|rfl|exact⟨_,rfl⟩|exact⟨_,_,rfl⟩|simp [AR,A9]
 ·intro ex2 s2 hX2;rcases AX with q1000_|q1000_
  ·unfold GI at hX2;dsimp only at hX2 h;obtain⟨rfl,n2_0⟩:=hX2
   obtain rfl:=Option.some.inj h
   simp (maxDischargeDepth:=9) only [↓AP,AQ,Ae,↓reduceIte,bh,bj,bk,bl,bm,bo,bp,br,bt,bw,bx,bO,b0,b3,b4,b5,b6,n2_0]<;>(repeat' apply A7)<;>first|rfl|exact⟨_,rfl⟩|exact⟨_,_,rfl⟩|simp [AR,A9]
  ·unfold GI at hX2;dsimp only at hX2 h
   obtain rfl:=hX2
   obtain rfl:=Option.some.inj h
   simp (maxDischargeDepth:=9) only [↓AP,AQ,Ae,↓reduceIte,bh,bj,bk,bl,bm,bo,bp,br,bt,bw,bx,bO,b0,b3,b4,b5,b6]<;>(repeat' apply A7)<;>first|rfl|exact⟨_,rfl⟩|exact⟨_,_,rfl⟩|simp [AR,A9]
theorem ek(l:AO)(n:Int)(h:l.length<1099511627776):Sn l n=some (l.contains n):=by
 unfold Sn Mq;have key:=Iz (fun v=>IU l n v) (fun i=>(i:Int)) l.length (fun i=> !decide (l.getD i be=n)) (.inl ()) (.inr ()) ?_ ?_
 ·simp only [Lu]at key;rw [key,aH (fun x=> !decide (x=n))]
  have e:l.all (fun x=> !decide (x=n))= !l.contains n:=by
   rw [List.all_eq_not_any_not,List.contains_eq_any_beq]
   congr 2
   funext x
   rw [Bool.not_not,Qb,decide_eq_true_eq,beq_iff_eq];exact eq_comm
  rw [e]
  cases l.contains n<;>rfl
 ·intro i hi;simp only [IU];rw [if_pos (Be hi),Bb (IZ hi),JX,KO i (by omega)]
  by_cases hq:l.getD i be=n
  ·rw [if_pos hq,decide_eq_true hq];rfl
  ·rw [if_neg hq,decide_eq_false hq];rfl
 ·simp only [IU];rw [if_neg (Am _)]
theorem Mr(l:AO)(n_:Int)(h0:l.length<1099511627776):Y.call 89 [b7 3 (AR (bd .i64) l),bd .i64 n_] []=some (ca (l.contains n_),[]):=YD l n_ (ek l n_ h0)
def CX(l:Aq):Prop:=l.length<1099511627776∧ ∀x∈l,x.length<549755813888
instance (l:Aq):Decidable (CX l):=by unfold CX;infer_instance
theorem CX.at{l:Aq}(h:CX l)(i:Nat)(hi:i<l.length):l[i].length<549755813888:=h.2 _ (Jc hi)
theorem CX.getD{l:Aq}(h:CX l)(i:Nat):(l.getD i be).length<549755813888:=by
 by_cases hi:i<l.length
 ·rw [BA _ _ hi];exact h.at i hi
 ·rw [KG,List.getElem?_eq_none (by omega)];decide
theorem A9r{a:G8}{i:Nat}(h:i<a.length):(BH a i,CK a i)=a[i]:=by
 unfold BH CK;rw [BA _ _ h]
def Sq(a_Node:Int)(a_Port:Int):Option (Int×Int):= some (a_Node,a_Port)
def A2k:SC:= .seq (.ops [oX 1 (.box 159 (tK 0)) 0,oX 2 (.alloc 125) 0]) (.seq (.ops [oX 3 (.alloc 125) 0]) (.seq (.ops [oF 4 159 1 0,oL 5 3 4 3,oF 6 125 3 0,oS 3 6 5]) (.seq (.ops [oF 7 159 1 1,oL 8 3 7 3,oF 9 125 3 1,oS 3 9 8]) (.seq (.ops [oL 10 125 3 125,oS 125 2 10]) .ret))))
theorem tX:Try.f151.body.map (Bc lends)=some A2k:=by kernel_rfl
theorem A9s:Bn Try.f151 1=true:=by kernel_rfl
theorem AF3{a l:List D}{r:D×List D}(h:Bq Y.env A2k (F9 Ab l.length [ResultVar.cell 2 125] r) (entry a l))(ha:a.length=1):Y.call 151 a l=some r:=
 Aa (Y:=Y) rfl Try.func151 (ha▸A9s) tX h
theorem YE(a_Node:Int)(a_Port:Int){r:Int×Int}(h:Sq a_Node a_Port=some r):Y.call 151 [D.agg [bd .i64 a_Node,bd .i64 a_Port]] []=some (D.agg [bd .i64 r.1,bd .i64 r.2],[]):=by
 refine AF3 ?_ rfl;unfold A2k;unfold Sq at h
 obtain rfl:=Option.some.inj h
 simp (maxDischargeDepth:=9) only [↓AP,AQ,Ae,↓reduceIte,bh,bj,bk,bl,bm,bo,bp,br,bt,bw,bx,bO,b0,b3,b4,b5,b6]<;>(repeat' apply A7)<;>first|rfl|exact⟨_,rfl⟩|exact⟨_,_,rfl⟩|simp [AR,A9]
def Gl(a:G8)(out:G8)(i:Int):Option ((G8×Int)⊕(G8)):= if i<(a.length:Int)then ck (0≤i∧i.toNat<a.length)<| (Sq (BH a i.toNat) (CK a i.toNat)).bind fun A2l=> ck (0≤i∧i.toNat<out.length)<| some (cc ((out.set i.toNat (A2l.1,A2l.2)),cd.wrap (i+1))) else some (b8 out)
def LX(a:G8)(v:G8×Int):Option (G8):=Iy (fun v=>Gl a v.1 v.2) v
def QD(a:G8):Option (G8):= ck (0≤(a.length:Int)∧(a.length:Int)<1099511627776)<| (LX a ((ao a.length (0,0)),0)).bind fun AX=> some AX
def UX:SC:= .seq (.seq (.ops [oM 8 4 3,oM 9 0 121,oN 10 9 121,oB 11 .lss 3 (tK 8) (tK 10) 3 4]) (.cond (tK 11) .skip (.exit 0))) (.seq (.block 1 (.ops [oM 14 3 123,oM 15 4 3,oM 16 0 121,oM 17 4 3,oI 18 121 16 17,oL 19 159 18 159,oC 20 151 [(tK 19)] [159] 125,oI 21 123 14 15,oS 125 21 20])) (.ops [oM 12 4 3,oB 13 .add 3 (tK 12) (iK 1) 3 3,oA 4 13 3]))
def gy:SC:= .loop UX
def A2m:SC:= .seq (.ops [oX 2 Kz 123]) (.seq (.ops [oM 5 0 121,oN 6 5 121,oX 7 (.makeSlice 123 (tK 6) (tK 6)) 123,oA 3 7 123]) (.seq (.seq (.ops [oX 4 (.assign (iK 0)) 3]) (.block 0 gy)) (.seq (.ops [oM 22 3 123,oA 2 22 123]) .ret)))
theorem tY:Try.f111.body.map (Bc lends)=some A2m:=by kernel_rfl
theorem A9t:Bn Try.f111 1=true:=by kernel_rfl
theorem AF4{a l:List D}{r:D×List D}(h:Bq Y.env A2m (F9 Ab l.length [cb 2] r) (entry a l))(ha:a.length=1):Y.call 111 a l=some r:=
 Aa (Y:=Y) rfl Try.func111 (ha▸A9t) tY h
def Gm(a:G8)(out:G8)(i:Int)(s:St):Prop:=s.v 0=b7 159 (Ay .i64 .i64 a)∧s.v 3=b9 125 (Ay .i64 .i64 out)∧s.v 4=bd .i64 i
def Ii(a:G8)(r:G8)(ex:Ex)(s:St):Prop:=ex= .exit 0∧s.v 3=b9 125 (Ay .i64 .i64 r)
theorem UY(a:G8){v:G8×Int}{s:St}{r:G8}(h:LX a v=some r)(hM:Gm a v.1 v.2 s):Bq Y.env gy (Ii a r) s:=by
 unfold LX at h;refine BV (c:=UX) (fun v=>Gl a v.1 v.2) (fun v s=>Gm a v.1 v.2 s) (Ii a) ?_ h hM;clear h hM s v r;intro v s o hM h;obtain⟨out,i⟩:=v;dsimp only at h hM;unfold Gl at h;unfold Gm at hM;obtain⟨m0,m1,m2⟩:=hM;unfold UX;by_cases e2:i<(a.length:Int)
 ·rw [if_pos e2]at h;obtain⟨e3,h⟩:=BS h;obtain⟨A2l,hl4,h⟩:=Av h;try dsimp only at h
  have c4:=YE (BH a i.toNat) (CK a i.toNat) hl4;obtain⟨e5,h⟩:=BS h
  obtain rfl:=Option.some.inj h
  simp (maxDischargeDepth:=9) only [↓AP,AQ,Ae,↓reduceIte,bh,bj,bk,bl,bm,bo,bp,br,bt,bw,bx,bO,b0,b3,b4,b5,b6,m0,m1,m2,e2,e3.1,e3.2,c4,e5.1,e5.2,Gm,Ii,CU,CV,CW]<;>(repeat' apply A7)<;>first|rfl|exact⟨_,rfl⟩|exact⟨_,_,rfl⟩|simp [AR,A9]
 ·rw [if_neg e2]at h
  obtain rfl:=Option.some.inj h
  simp (maxDischargeDepth:=9) only [↓AP,AQ,Ae,↓reduceIte,bh,bj,bk,bl,bm,bo,bp,br,bt,bw,bx,bO,b0,b3,b4,b5,b6,m0,m1,m2,e2,Gm,Ii,CU,CV,CW]<;>(repeat' apply A7)<;>first|rfl|exact⟨_,rfl⟩|exact⟨_,_,rfl⟩|simp [AR,A9]
theorem WI(a:G8){r:G8}(h:QD a=some r):Y.call 111 [b7 159 (Ay .i64 .i64 a)] []=some (b9 125 (Ay .i64 .i64 r),[]):=by
 refine AF4 ?_ rfl;unfold A2m;unfold QD at h;obtain⟨e1,h⟩:=BS h;obtain⟨AX,hl3,h⟩:=Av h;try dsimp only at h
 simp (maxDischargeDepth:=9) only [↓AP,AQ,Ae,↓reduceIte,bh,bj,bk,bl,bm,bo,bp,br,bt,bw,bx,bO,b0,b3,b4,b5,b6,e1.1,e1.2];refine BB (UY a hl3 ?_) ?_
 ·simp (maxDischargeDepth:=9) only [↓AP,AQ,Ae,↓reduceIte,bh,bj,bk,bl,bm,bo,bp,br,bt,bw,bx,bO,b0,b3,b4,b5,b6,e1.1,e1.2,Gm]<;>(repeat' apply A7)<;>first|rfl|exact⟨_,rfl⟩|exact⟨_,_,rfl⟩|simp [AR,A9]
 ·intro ex3 s3 hX3;unfold Ii at hX3;obtain⟨rfl,n3_0⟩:=hX3
  obtain rfl:=Option.some.inj h
  simp (maxDischargeDepth:=9) only [↓AP,AQ,Ae,↓reduceIte,bh,bj,bk,bl,bm,bo,bp,br,bt,bw,bx,bO,b0,b3,b4,b5,b6,e1.1,e1.2,n3_0]<;>(repeat' apply A7)<;>first|rfl|exact⟨_,rfl⟩|exact⟨_,_,rfl⟩|simp [AR,A9]
theorem aR(a:G8)(h:a.length<549755813888):QD a=some a:=by
 have key:=CB (fun v=>Gl a v.1 v.2) (fun i=>(a.take i++ao (a.length-i) (0,0),(i:Int))) a.length a ?_ ?_
 ·unfold QD LX;rw [Bb (by omega)]
  simp only [List.take_zero,PY,Nat.sub_zero,Lu]at key;rw [key];rfl
 ·intro i hi;simp only [Gl,Sq,JX];rw [if_pos (Be hi),Bb (by omega),Cq,Bb (by simp;omega),A9r hi,Y2 a i hi (0,0),KO i (by omega)]
 ·simp only [Gl];rw [if_neg (Am _)];simp
theorem aS(a:G8)(h0:a.length<549755813888):Y.call 111 [b7 159 (Ay .i64 .i64 a)] []=some (b9 125 (Ay .i64 .i64 a),[]):=WI a (aR a h0)
def FZ(a:Aq)(out:Aq)(i:Int):Option ((Aq×Int)⊕(Aq)):= if i<(a.length:Int)then ck (0≤i∧i.toNat<a.length)<| ck ((a.getD i.toNat be).length<549755813888)<| ck (0≤i∧i.toNat<out.length)<| some (cc ((out.set i.toNat (a.getD i.toNat be)),cd.wrap (i+1))) else some (b8 out)
def KX(a:Aq)(v:Aq×Int):Option (Aq):=Iy (fun v=>FZ a v.1 v.2) v
def OU(a:Aq):Option (Aq):= ck (0≤(a.length:Int)∧(a.length:Int)<1099511627776)<| (KX a ((ao a.length ([]:G8)),0)).bind fun AX=> some AX
def YF:SC:= .seq (.seq (.ops [oM 8 4 3,oM 9 0 39,oN 10 9 39,oB 11 .lss 3 (tK 8) (tK 10) 3 4]) (.cond (tK 11) .skip (.exit 0))) (.seq (.block 1 (.ops [oM 14 3 45,oM 15 4 3,oM 16 0 39,oM 17 4 3,oI 18 39 16 17,oL 19 121 18 121,oC 20 111 [(tK 19)] [121] 123,oI 21 45 14 15,oS 123 21 20])) (.ops [oM 12 4 3,oB 13 .add 3 (tK 12) (iK 1) 3 3,oA 4 13 3]))
def oz:SC:= .loop YF
def k65:SC:= .seq (.ops [oX 2 Kz 45]) (.seq (.ops [oM 5 0 39,oN 6 5 39,oX 7 (.makeSlice 45 (tK 6) (tK 6)) 45,oA 3 7 45]) (.seq (.seq (.ops [oX 4 (.assign (iK 0)) 3]) (.block 0 oz)) (.seq (.ops [oM 22 3 45,oA 2 22 45]) .ret)))
theorem A2n:Try.f65.body.map (Bc lends)=some k65:=by kernel_rfl
theorem AF6:Bn Try.f65 1=true:=by kernel_rfl
theorem c65{a l:List D}{r:D×List D}(h:Bq Y.env k65 (F9 Ab l.length [cb 2] r) (entry a l))(ha:a.length=1):Y.call 65 a l=some r:=
 Aa (Y:=Y) rfl Try.func65 (ha▸AF6) A2n h
def Fa(a:Aq)(out:Aq)(i:Int)(s:St):Prop:=s.v 0=b7 121 (AR (fun x=>b7 159 (Ay .i64 .i64 x)) a)∧s.v 3=b9 123 (AR (fun x=>b9 125 (Ay .i64 .i64 x)) out)∧s.v 4=bd .i64 i
def I5(a:Aq)(r:Aq)(ex:Ex)(s:St):Prop:=ex= .exit 0∧s.v 3=b9 123 (AR (fun x=>b9 125 (Ay .i64 .i64 x)) r)
theorem SA(a:Aq){v:Aq×Int}{s:St}{r:Aq}(h:KX a v=some r)(hM:Fa a v.1 v.2 s):Bq Y.env oz (I5 a r) s:=by
 unfold KX at h;refine BV (c:=YF) (fun v=>FZ a v.1 v.2) (fun v s=>Fa a v.1 v.2 s) (I5 a) ?_ h hM;clear h hM s v r;intro v s o hM h;obtain⟨out,i⟩:=v;dsimp only at h hM;unfold FZ at h;unfold Fa at hM;obtain⟨m0,m1,m2⟩:=hM;unfold YF;by_cases e2:i<(a.length:Int)
 ·rw [if_pos e2]at h;obtain⟨e3,h⟩:=BS h;obtain⟨e4,h⟩:=BS h;have c5:=aS (a.getD i.toNat be) e4;obtain⟨e6,h⟩:=BS h
  obtain rfl:=Option.some.inj h
  simp (maxDischargeDepth:=9) only [↓AP,AQ,Ae,↓reduceIte,bh,bj,bk,bl,bm,bo,bp,br,bt,bw,bx,bO,b0,b3,b4,b5,b6,m0,m1,m2,e2,e3.1,e3.2,e4,c5,e6.1,e6.2,Fa,I5,CU,CV,CW]<;>(repeat' apply A7)<;>first|rfl|exact⟨_,rfl⟩|exact⟨_,_,rfl⟩|simp [AR,A9]
 ·rw [if_neg e2]at h
  obtain rfl:=Option.some.inj h
  simp (maxDischargeDepth:=9) only [↓AP,AQ,Ae,↓reduceIte,bh,bj,bk,bl,bm,bo,bp,br,bt,bw,bx,bO,b0,b3,b4,b5,b6,m0,m1,m2,e2,Fa,I5,CU,CV,CW]<;>(repeat' apply A7)<;>first|rfl|exact⟨_,rfl⟩|exact⟨_,_,rfl⟩|simp [AR,A9]
theorem UZ(a:Aq){r:Aq}(h:OU a=some r):Y.call 65 [b7 121 (AR (fun x=>b7 159 (Ay .i64 .i64 x)) a)] []=some (b9 123 (AR (fun x=>b9 125 (Ay .i64 .i64 x)) r),[]):=by
 refine c65 ?_ rfl;unfold k65;unfold OU at h;obtain⟨e1,h⟩:=BS h;obtain⟨AX,hl3,h⟩:=Av h;try dsimp only at h
 simp (maxDischargeDepth:=9) only [↓AP,AQ,Ae,↓reduceIte,bh,bj,bk,bl,bm,bo,bp,br,bt,bw,bx,bO,b0,b3,b4,b5,b6,e1.1,e1.2];refine BB (SA a hl3 ?_) ?_
 ·simp (maxDischargeDepth:=9) only [↓AP,AQ,Ae,↓reduceIte,bh,bj,bk,bl,bm,bo,bp,br,bt,bw,bx,bO,b0,b3,b4,b5,b6,e1.1,e1.2,Fa]<;>(repeat' apply A7)<;>first|rfl|exact⟨_,rfl⟩|exact⟨_,_,rfl⟩|simp [AR,A9]
 ·intro ex3 s3 hX3;unfold I5 at hX3;obtain⟨rfl,n3_0⟩:=hX3
  obtain rfl:=Option.some.inj h
  simp (maxDischargeDepth:=9) only [↓AP,AQ,Ae,↓reduceIte,bh,bj,bk,bl,bm,bo,bp,br,bt,bw,bx,bO,b0,b3,b4,b5,b6,e1.1,e1.2,n3_0]<;>(repeat' apply A7)<;>first|rfl|exact⟨_,rfl⟩|exact⟨_,_,rfl⟩|simp [AR,A9]
theorem YG(a:Aq)(h:CX a):OU a=some a:=by
 have h1:=h.1;have key:=CB (fun v=>FZ a v.1 v.2) (fun i=>(a.take i++ao (a.length-i) [],(i:Int))) a.length a ?_ ?_
 ·unfold OU KX;rw [Bb (by omega)]
  simp only [List.take_zero,PY,Nat.sub_zero,Lu]at key;rw [key];rfl
 ·intro i hi;simp only [FZ];rw [if_pos (Be hi),Bb (IZ hi),Bb (by rw [JK _ _ hi];exact h.at i hi),Bb (IZ (by simp;omega)),JK _ _ hi,JX,Y2 a i hi [],KO i (by omega)]
 ·simp only [FZ];rw [if_neg (Am _)];simp
theorem YH(a:Aq)(h0:CX a):Y.call 65 [b7 121 (AR (fun x=>b7 159 (Ay .i64 .i64 x)) a)] []=some (b9 123 (AR (fun x=>b9 125 (Ay .i64 .i64 x)) a),[]):=UZ a (YG a h0)
def LY(Ai:Aq)(BP:AO)(Aj:AO):Option (Aq×AO×AO):= ck (CX Ai)<| ck (BP.length<1099511627776)<| ck (Aj.length<1099511627776)<| some (Ai,BP,Aj)
def k23:SC:= .seq (.ops [oX 1 (.box 41 (tK 0)) 0,oX 2 (.alloc 47) 0]) (.seq (.ops [oX 3 (.alloc 47) 0]) (.seq (.ops [oF 4 41 1 0,oL 5 39 4 39,oC 6 65 [(tK 5)] [39] 45,oF 7 47 3 0,oS 45 7 6]) (.seq (.ops [oF 8 41 1 1,oL 9 26 8 26,oC 10 66 [(tK 9)] [26] 26,oF 11 47 3 1,oS 26 11 10]) (.seq (.ops [oF 12 41 1 2,oL 13 26 12 26,oC 14 66 [(tK 13)] [26] 26,oF 15 47 3 2,oS 26 15 14]) (.seq (.ops [oL 16 47 3 47,oS 47 2 16]) .ret)))))
theorem A2o:Try.f23.body.map (Bc lends)=some k23:=by kernel_rfl
theorem AF8:Bn Try.f23 1=true:=by kernel_rfl
theorem p8{a l:List D}{r:D×List D}(h:Bq Y.env k23 (F9 Ab l.length [ResultVar.cell 2 47] r) (entry a l))(ha:a.length=1):Y.call 23 a l=some r:=
 Aa (Y:=Y) rfl Try.func23 (ha▸AF8) A2o h
theorem Qz(Ai:Aq)(BP:AO)(Aj:AO){r:Aq×AO×AO}(h:LY Ai BP Aj=some r):Y.call 23 [D.agg [b7 121 (AR (fun x=>b7 159 (Ay .i64 .i64 x)) Ai),b7 3 (AR (bd .i64) BP),b7 3 (AR (bd .i64) Aj)]] []=some (D.agg [b9 123 (AR (fun x=>b9 125 (Ay .i64 .i64 x)) r.1),b9 3 (AR (bd .i64) r.2.1),b9 3 (AR (bd .i64) r.2.2)],[]):=by
 refine p8 ?_ rfl;unfold k23;unfold LY at h;obtain⟨e1,h⟩:=BS h;have c2:=YH Ai e1;obtain⟨e3,h⟩:=BS h;have c4:=Rm BP e3;obtain⟨e5,h⟩:=BS h;have c6:=Rm Aj e5
 obtain rfl:=Option.some.inj h
 simp (maxDischargeDepth:=9) only [↓AP,AQ,Ae,↓reduceIte,bh,bj,bk,bl,bm,bo,bp,br,bt,bw,bx,bO,b0,b3,b4,b5,b6,e1,c2,e3,c4,e5,c6]<;>(repeat' apply A7)<;>first|rfl|exact⟨_,rfl⟩|exact⟨_,_,rfl⟩|simp [AR,A9]
theorem Ua(a:Aq)(b c:AO)(h:CX a)(hb:b.length<1099511627776)(hc:c.length<1099511627776):LY a b c=some (a,b,c):=by
 unfold LY;rw [Bb h,Bb hb,Bb hc]
theorem BQ(Ai:Aq)(BP:AO)(Aj:AO)(h0:CX Ai)(h1:BP.length<1099511627776)(h2:Aj.length<1099511627776):Y.call 23 [D.agg [b7 121 (AR (fun x=>b7 159 (Ay .i64 .i64 x)) Ai),b7 3 (AR (bd .i64) BP),b7 3 (AR (bd .i64) Aj)]] []=some (D.agg [b9 123 (AR (fun x=>b9 125 (Ay .i64 .i64 x)) Ai),b9 3 (AR (bd .i64) BP),b9 3 (AR (bd .i64) Aj)],[]):=Qz Ai BP Aj (Ua Ai BP Aj h0 h1 h2)
def QE(a_Node:Int)(a_Port:Int)(b_Node:Int)(b_Port:Int):Option (Bool):= if a_Node=b_Node then if a_Port=b_Port then some true else some false else some false
def A2p:SC:= .seq (.ops [oX 2 (.box 125 (tK 0)) 0,oX 3 (.box 125 (tK 1)) 0,oX 4 CF 4]) (.seq (.seq (.ops [oF 5 125 2 0,oL 6 3 5 3,oF 7 125 3 0,oL 8 3 7 3,oB 9 .neq 3 (tK 6) (tK 8) 3 4]) (.cond (tK 9) (.seq (.ops [oX 4 CF 4]) .ret) .skip)) (.seq (.seq (.ops [oF 10 125 2 1,oL 11 3 10 3,oF 12 125 3 1,oL 13 3 12 3,oB 14 .neq 3 (tK 11) (tK 13) 3 4]) (.cond (tK 14) (.seq (.ops [oX 4 CF 4]) .ret) .skip)) (.seq (.ops [oX 4 (.assign Eh) 4]) .ret)))
theorem tZ:Try.f158.body.map (Bc lends)=some A2p:=by kernel_rfl
theorem A9u:Bn Try.f158 2=true:=by kernel_rfl
theorem AF9{a l:List D}{r:D×List D}(h:Bq Y.env A2p (F9 Ab l.length [cb 4] r) (entry a l))(ha:a.length=2):Y.call 158 a l=some r:=
 Aa (Y:=Y) rfl Try.func158 (ha▸A9u) tZ h
theorem YI(a_Node:Int)(a_Port:Int)(b_Node:Int)(b_Port:Int){r:Bool}(h:QE a_Node a_Port b_Node b_Port=some r):Y.call 158 [D.agg [bd .i64 a_Node,bd .i64 a_Port],D.agg [bd .i64 b_Node,bd .i64 b_Port]] []=some (ca r,[]):=by
 refine AF9 ?_ rfl;unfold A2p;unfold QE at h;by_cases e1:a_Node=b_Node
 ·rw [if_pos e1]at h;by_cases e2:a_Port=b_Port
  ·rw [if_pos e2]at h
   obtain rfl:=Option.some.inj h
   simp (maxDischargeDepth:=9) only [↓AP,AQ,Ae,↓reduceIte,bh,bj,bk,bl,bm,bo,bp,br,bt,bw,bx,bO,b0,b3,b4,b5,b6,decide_eq_true e1,decide_eq_true e2]<;>(repeat' apply A7)<;>first|rfl|exact⟨_,rfl⟩|exact⟨_,_,rfl⟩|simp [AR,A9]
  ·rw [if_neg e2]at h
   obtain rfl:=Option.some.inj h
   simp (maxDischargeDepth:=9) only [↓AP,AQ,Ae,↓reduceIte,bh,bj,bk,bl,bm,bo,bp,br,bt,bw,bx,bO,b0,b3,b4,b5,b6,decide_eq_true e1,e2]<;>(repeat' apply A7)<;>first|rfl|exact⟨_,rfl⟩|exact⟨_,_,rfl⟩|simp [AR,A9]
 ·rw [if_neg e1]at h
  obtain rfl:=Option.some.inj h
  simp (maxDischargeDepth:=9) only [↓AP,AQ,Ae,↓reduceIte,bh,bj,bk,bl,bm,bo,bp,br,bt,bw,bx,bO,b0,b3,b4,b5,b6,e1]<;>(repeat' apply A7)<;>first|rfl|exact⟨_,rfl⟩|exact⟨_,_,rfl⟩|simp [AR,A9]
def Gn(a:G8)(b:G8)(i:Int):Option ((Int)⊕(Unit⊕Unit)):= if i<(a.length:Int)then ck (0≤i∧i.toNat<a.length)<| ck (0≤i∧i.toNat<b.length)<| (QE (BH a i.toNat) (CK a i.toNat) (BH b i.toNat) (CK b i.toNat)).bind fun SB=> if SB=true then some (cc (cd.wrap (i+1))) else some (b8 (cc ())) else some (b8 (b8 ()))
def LZ(a:G8)(b:G8)(v:Int):Option (Unit⊕Unit):=Iy (fun v=>Gn a b v) v
def QF(a:G8)(b:G8):Option (Bool):=
 if(a.length:Int)=(b.length:Int)then
  (LZ a b 0).bind fun AX=>
  match AX with
  | .inl q1000_=>
   some false
  | .inr q1000_=>
   some true
 else
  some false
abbrev XF:List Nat:=[17,18,19,20,21,22,23,24,25,26]
def Ub:SC:= .seq (.seq (.ops [oM 11 5 3,oM 12 0 123,oN 13 12 123,oB 14 .lss 3 (tK 11) (tK 13) 3 4]) (.cond (tK 14) .skip (.exit 0))) (.seq (.block 1 (.seq (.draws [(⟨[17,0,0],XF,[17]⟩,oM 17 0 123),(⟨[18,5,5],XF,[18]⟩,oM 18 5 3),(⟨[19,17,18,0,5],XF,[19]⟩,oI 19 123 17 18),(⟨[20,19,0],XF,[20]⟩,oL 20 125 19 125),(⟨[21,1,1],XF,[21]⟩,oM 21 1 123),(⟨[22,5,5],XF,[22]⟩,oM 22 5 3),(⟨[23,21,22,1,5],XF,[23]⟩,oI 23 123 21 22),(⟨[24,23,1],XF,[24]⟩,oL 24 125 23 125),(⟨[25,20,24,0,1],XF,[25]⟩,oC 25 158 [(tK 20),(tK 24)] [125,125] 4),(⟨[26,25,25],XF,[26]⟩,oX 26 (.unOp .not 4 (tK 25)) 4)]) (.cond (tK 26) (.seq (.ops [oX 4 CF 4]) .ret) .skip))) (.ops [oM 15 5 3,oB 16 .add 3 (tK 15) (iK 1) 3 3,oA 5 16 3]))
def gz:SC:= .loop Ub
def A2q:SC:= .seq (.ops [oX 4 CF 4]) (.seq (.seq (.ops [oM 6 0 123,oN 7 6 123,oM 8 1 123,oN 9 8 123,oB 10 .neq 3 (tK 7) (tK 9) 3 4]) (.cond (tK 10) (.seq (.ops [oX 4 CF 4]) .ret) .skip)) (.seq (.seq (.ops [oX 5 (.assign (iK 0)) 3]) (.block 0 gz)) (.seq (.ops [oX 4 (.assign Eh) 4]) .ret)))
theorem tq:Try.f126.body.map (Bc lends)=some A2q:=by kernel_rfl
theorem A9v:Bn Try.f126 2=true:=by kernel_rfl
theorem AFA{a l:List D}{r:D×List D}(h:Bq Y.env A2q (F9 Ab l.length [cb 4] r) (entry a l))(ha:a.length=2):Y.call 126 a l=some r:=
 Aa (Y:=Y) rfl Try.func126 (ha▸A9v) tq h
def FE(a:G8)(b:G8)(i:Int)(s:St):Prop:=s.v 0=b7 125 (Ay .i64 .i64 a)∧s.v 1=b7 125 (Ay .i64 .i64 b)∧s.v 5=bd .i64 i
def FF(a:G8)(b:G8)(r:Unit⊕Unit)(ex:Ex)(s:St):Prop:=match r with
 | .inl q=>ex= .ret∧s.v 4=ca false
 | .inr q=>ex= .exit 0
theorem Uc(a:G8)(b:G8){v:Int}{s:St}{r:Unit⊕Unit}(h:LZ a b v=some r)(hM:FE a b v s):Bq Y.env gz (FF a b r) s:=by
 unfold LZ at h;refine BV (c:=Ub) (fun v=>Gn a b v) (fun v s=>FE a b v s) (FF a b) ?_ h hM;clear h hM s v r;intro i s o hM h;unfold Gn at h;unfold FE at hM;obtain⟨m0,m1,m2⟩:=hM;unfold Ub;by_cases e2:i<(a.length:Int)
 ·rw [if_pos e2]at h;obtain⟨e3,h⟩:=BS h;obtain⟨e4,h⟩:=BS h;obtain⟨SB,hl5,h⟩:=Av h;try dsimp only at h
  have c5:=YI (BH a i.toNat) (CK a i.toNat) (BH b i.toNat) (CK b i.toNat) hl5;by_cases e6:SB=true
  ·rw [if_pos e6]at h
   obtain rfl:=Option.some.inj h
   simp (maxDischargeDepth:=9) only [↓AP,AQ,Ae,↓reduceIte,bh,bj,bk,bl,bm,bo,bp,br,bt,bw,bx,bO,b0,b3,b4,b5,b6,m0,m1,m2,e2,e3.1,e3.2,e4.1,e4.2,c5,e6,FE,FF,CU,CV,CW]<;>(repeat' apply A7)<;>first|rfl|exact⟨_,rfl⟩|exact⟨_,_,rfl⟩|simp [AR,A9]
  ·rw [if_neg e6]at h;have e6f:SB=false:=JA.mpr e6
   obtain rfl:=Option.some.inj h
   simp (maxDischargeDepth:=9) only [↓AP,AQ,Ae,↓reduceIte,bh,bj,bk,bl,bm,bo,bp,br,bt,bw,bx,bO,b0,b3,b4,b5,b6,m0,m1,m2,e2,e3.1,e3.2,e4.1,e4.2,c5,e6f,FE,FF,CU,CV,CW]<;>(repeat' apply A7)<;>first|rfl|exact⟨_,rfl⟩|exact⟨_,_,rfl⟩|simp [AR,A9]
 ·rw [if_neg e2]at h
  obtain rfl:=Option.some.inj h
  simp (maxDischargeDepth:=9) only [↓AP,AQ,Ae,↓reduceIte,bh,bj,bk,bl,bm,bo,bp,br,bt,bw,bx,bO,b0,b3,b4,b5,b6,m0,m1,m2,e2,FE,FF,CU,CV,CW]<;>(repeat' apply A7)<;>first|rfl|exact⟨_,rfl⟩|exact⟨_,_,rfl⟩|simp [AR,A9]
theorem WJ(a:G8)(b:G8){r:Bool}(h:QF a b=some r):Y.call 126 [b7 125 (Ay .i64 .i64 a),b7 125 (Ay .i64 .i64 b)] []=some (ca r,[]):=by
 refine AFA ?_ rfl;unfold A2q;unfold QF at h;by_cases e1:(a.length:Int)=(b.length:Int)
 ·rw [if_pos e1]at h;obtain⟨AX,hl3,h⟩:=Av h;try dsimp only at h
  simp (maxDischargeDepth:=9) only [↓AP,AQ,Ae,↓reduceIte,bh,bj,bk,bl,bm,bo,bp,br,bt,bw,bx,bO,b0,b3,b4,b5,b6,decide_eq_true e1];refine BB (Uc a b hl3 ?_) ?_
  ·simp (maxDischargeDepth:=9) only [↓AP,AQ,Ae,↓reduceIte,bh,bj,bk,bl,bm,bo,bp,br,bt,bw,bx,bO,b0,b3,b4,b5,b6,decide_eq_true e1,FE]<;>(repeat' apply A7)<;>first|rfl|exact⟨_,rfl⟩|exact⟨_,_,rfl⟩|simp [AR,A9]
  ·intro ex3 s3 hX3;rcases AX with q1000_|q1000_
   ·unfold FF at hX3;dsimp only at hX3 h;obtain⟨rfl,n3_0⟩:=hX3
    obtain rfl:=Option.some.inj h
    simp (maxDischargeDepth:=9) only [↓AP,AQ,Ae,↓reduceIte,bh,bj,bk,bl,bm,bo,bp,br,bt,bw,bx,bO,b0,b3,b4,b5,b6,decide_eq_true e1,n3_0]<;>(repeat' apply A7)<;>first|rfl|exact⟨_,rfl⟩|exact⟨_,_,rfl⟩|simp [AR,A9]
   ·unfold FF at hX3;dsimp only at hX3 h
    obtain rfl:=hX3
    obtain rfl:=Option.some.inj h
    simp (maxDischargeDepth:=9) only [↓AP,AQ,Ae,↓reduceIte,bh,bj,bk,bl,bm,bo,bp,br,bt,bw,bx,bO,b0,b3,b4,b5,b6,decide_eq_true e1]<;>(repeat' apply A7)<;>first|rfl|exact⟨_,rfl⟩|exact⟨_,_,rfl⟩|simp [AR,A9]
 ·rw [if_neg e1]at h
  obtain rfl:=Option.some.inj h
  simp (maxDischargeDepth:=9) only [↓AP,AQ,Ae,↓reduceIte,bh,bj,bk,bl,bm,bo,bp,br,bt,bw,bx,bO,b0,b3,b4,b5,b6,e1]<;>(repeat' apply A7)<;>first|rfl|exact⟨_,rfl⟩|exact⟨_,_,rfl⟩|simp [AR,A9]
theorem fA(a b c d:Int):QE a b c d=some (decide ((a,b)=(c,d))):=by
 unfold QE;by_cases h1:a=c<;>by_cases h2:b=d<;>simp [h1,h2]
theorem aT(a b:G8)(ha:a.length<549755813888):QF a b=some (decide (a=b)):=by
 unfold QF LZ;by_cases hl:a.length=b.length
 ·rw [if_pos (by omega)]
  have key:=Iz (fun v=>Gn a b v) (fun i=>(i:Int)) a.length (fun i=>decide (a.getD i be=b.getD i be)) (.inl ()) (.inr ()) ?_ ?_
  ·simp only [Lu]at key;rw [key,UK a b hl];by_cases he:a=b<;>simp [he]
  ·intro i hi;simp only [Gn,JX];rw [if_pos (Be hi),Bb (by omega),Bb (by omega),fA,Cq,KO i (by omega)]
   rfl
  ·simp only [Gn];rw [if_neg (Am _)]
 ·rw [if_neg (by omega)]
  have: ¬a=b:=fun e=>hl (by rw [e])
  simp [this]
theorem aU(a:G8)(b:G8)(h0:a.length<549755813888):Y.call 126 [b7 125 (Ay .i64 .i64 a),b7 125 (Ay .i64 .i64 b)] []=some (ca (decide (a=b)),[]):=WJ a b (aT a b h0)
def Fb(a:Aq)(b:Aq)(i:Int):Option ((Int)⊕(Unit⊕Unit)):= if i<(a.length:Int)then ck (0≤i∧i.toNat<a.length)<| ck (0≤i∧i.toNat<b.length)<| ck ((a.getD i.toNat be).length<549755813888)<| if(decide ((a.getD i.toNat be)=(b.getD i.toNat be)))=true then some (cc (cd.wrap (i+1))) else some (b8 (cc ())) else some (b8 (b8 ()))
def KY(a:Aq)(b:Aq)(v:Int):Option (Unit⊕Unit):=Iy (fun v=>Fb a b v) v
def OV(a:Aq)(b:Aq):Option (Bool):=
 if(a.length:Int)=(b.length:Int)then
  (KY a b 0).bind fun AX=>
  match AX with
  | .inl q1000_=>
   some false
  | .inr q1000_=>
   some true
 else
  some false
def YJ:SC:= .seq (.seq (.ops [oM 11 5 3,oM 12 0 45,oN 13 12 45,oB 14 .lss 3 (tK 11) (tK 13) 3 4]) (.cond (tK 14) .skip (.exit 0))) (.seq (.block 1 (.seq (.draws [(⟨[17,0,0],XF,[17]⟩,oM 17 0 45),(⟨[18,5,5],XF,[18]⟩,oM 18 5 3),(⟨[19,17,18,0,5],XF,[19]⟩,oI 19 45 17 18),(⟨[20,19,0],XF,[20]⟩,oL 20 123 19 123),(⟨[21,1,1],XF,[21]⟩,oM 21 1 45),(⟨[22,5,5],XF,[22]⟩,oM 22 5 3),(⟨[23,21,22,1,5],XF,[23]⟩,oI 23 45 21 22),(⟨[24,23,1],XF,[24]⟩,oL 24 123 23 123),(⟨[25,20,24,0,1],XF,[25]⟩,oC 25 126 [(tK 20),(tK 24)] [123,123] 4),(⟨[26,25,25],XF,[26]⟩,oX 26 (.unOp .not 4 (tK 25)) 4)]) (.cond (tK 26) (.seq (.ops [oX 4 CF 4]) .ret) .skip))) (.ops [oM 15 5 3,oB 16 .add 3 (tK 15) (iK 1) 3 3,oA 5 16 3]))
def p9:SC:= .loop YJ
def k73:SC:= .seq (.ops [oX 4 CF 4]) (.seq (.seq (.ops [oM 6 0 45,oN 7 6 45,oM 8 1 45,oN 9 8 45,oB 10 .neq 3 (tK 7) (tK 9) 3 4]) (.cond (tK 10) (.seq (.ops [oX 4 CF 4]) .ret) .skip)) (.seq (.seq (.ops [oX 5 (.assign (iK 0)) 3]) (.block 0 p9)) (.seq (.ops [oX 4 (.assign Eh) 4]) .ret)))
theorem A2r:Try.f73.body.map (Bc lends)=some k73:=by kernel_rfl
theorem AFC:Bn Try.f73 2=true:=by kernel_rfl
theorem c73{a l:List D}{r:D×List D}(h:Bq Y.env k73 (F9 Ab l.length [cb 4] r) (entry a l))(ha:a.length=2):Y.call 73 a l=some r:=
 Aa (Y:=Y) rfl Try.func73 (ha▸AFC) A2r h
def EZ(a:Aq)(b:Aq)(i:Int)(s:St):Prop:=s.v 0=b7 123 (AR (fun x=>b7 125 (Ay .i64 .i64 x)) a)∧s.v 1=b7 123 (AR (fun x=>b7 125 (Ay .i64 .i64 x)) b)∧s.v 5=bd .i64 i
def Ea(a:Aq)(b:Aq)(r:Unit⊕Unit)(ex:Ex)(s:St):Prop:=match r with
 | .inl q=>ex= .ret∧s.v 4=ca false
 | .inr q=>ex= .exit 0
theorem SE(a:Aq)(b:Aq){v:Int}{s:St}{r:Unit⊕Unit}(h:KY a b v=some r)(hM:EZ a b v s):Bq Y.env p9 (Ea a b r) s:=by
 unfold KY at h;refine BV (c:=YJ) (fun v=>Fb a b v) (fun v s=>EZ a b v s) (Ea a b) ?_ h hM;clear h hM s v r;intro i s o hM h;unfold Fb at h;unfold EZ at hM;obtain⟨m0,m1,m2⟩:=hM;unfold YJ;by_cases e2:i<(a.length:Int)
 ·rw [if_pos e2]at h;obtain⟨e3,h⟩:=BS h;obtain⟨e4,h⟩:=BS h;obtain⟨e5,h⟩:=BS h;have c6:=aU (a.getD i.toNat be) (b.getD i.toNat be) e5;by_cases e7:(decide ((a.getD i.toNat be)=(b.getD i.toNat be)))=true
  ·rw [if_pos e7]at h
   obtain rfl:=Option.some.inj h
   simp (maxDischargeDepth:=9) only [↓AP,AQ,Ae,↓reduceIte,bh,bj,bk,bl,bm,bo,bp,br,bt,bw,bx,bO,b0,b3,b4,b5,b6,m0,m1,m2,e2,e3.1,e3.2,e4.1,e4.2,e5,c6,e7,EZ,Ea,CU,CV,CW]<;>(repeat' apply A7)<;>first|rfl|exact⟨_,rfl⟩|exact⟨_,_,rfl⟩|simp [AR,A9]
  ·rw [if_neg e7]at h;have e7f:(decide ((a.getD i.toNat be)=(b.getD i.toNat be)))=false:=JA.mpr e7
   obtain rfl:=Option.some.inj h
   simp (maxDischargeDepth:=9) only [↓AP,AQ,Ae,↓reduceIte,bh,bj,bk,bl,bm,bo,bp,br,bt,bw,bx,bO,b0,b3,b4,b5,b6,m0,m1,m2,e2,e3.1,e3.2,e4.1,e4.2,e5,c6,e7f,EZ,Ea,CU,CV,CW]<;>(repeat' apply A7)<;>first|rfl|exact⟨_,rfl⟩|exact⟨_,_,rfl⟩|simp [AR,A9]
 ·rw [if_neg e2]at h
  obtain rfl:=Option.some.inj h
  simp (maxDischargeDepth:=9) only [↓AP,AQ,Ae,↓reduceIte,bh,bj,bk,bl,bm,bo,bp,br,bt,bw,bx,bO,b0,b3,b4,b5,b6,m0,m1,m2,e2,EZ,Ea,CU,CV,CW]<;>(repeat' apply A7)<;>first|rfl|exact⟨_,rfl⟩|exact⟨_,_,rfl⟩|simp [AR,A9]
theorem Ud(a:Aq)(b:Aq){r:Bool}(h:OV a b=some r):Y.call 73 [b7 123 (AR (fun x=>b7 125 (Ay .i64 .i64 x)) a),b7 123 (AR (fun x=>b7 125 (Ay .i64 .i64 x)) b)] []=some (ca r,[]):=by
 refine c73 ?_ rfl;unfold k73;unfold OV at h;by_cases e1:(a.length:Int)=(b.length:Int)
 ·rw [if_pos e1]at h;obtain⟨AX,hl3,h⟩:=Av h;try dsimp only at h
  simp (maxDischargeDepth:=9) only [↓AP,AQ,Ae,↓reduceIte,bh,bj,bk,bl,bm,bo,bp,br,bt,bw,bx,bO,b0,b3,b4,b5,b6,decide_eq_true e1];refine BB (SE a b hl3 ?_) ?_
  ·simp (maxDischargeDepth:=9) only [↓AP,AQ,Ae,↓reduceIte,bh,bj,bk,bl,bm,bo,bp,br,bt,bw,bx,bO,b0,b3,b4,b5,b6,decide_eq_true e1,EZ]<;>(repeat' apply A7)<;>first|rfl|exact⟨_,rfl⟩|exact⟨_,_,rfl⟩|simp [AR,A9]
  ·intro ex3 s3 hX3;rcases AX with q1000_|q1000_
   ·unfold Ea at hX3;dsimp only at hX3 h;obtain⟨rfl,n3_0⟩:=hX3
    obtain rfl:=Option.some.inj h
    simp (maxDischargeDepth:=9) only [↓AP,AQ,Ae,↓reduceIte,bh,bj,bk,bl,bm,bo,bp,br,bt,bw,bx,bO,b0,b3,b4,b5,b6,decide_eq_true e1,n3_0]<;>(repeat' apply A7)<;>first|rfl|exact⟨_,rfl⟩|exact⟨_,_,rfl⟩|simp [AR,A9]
   ·unfold Ea at hX3;dsimp only at hX3 h
    obtain rfl:=hX3
    obtain rfl:=Option.some.inj h
    simp (maxDischargeDepth:=9) only [↓AP,AQ,Ae,↓reduceIte,bh,bj,bk,bl,bm,bo,bp,br,bt,bw,bx,bO,b0,b3,b4,b5,b6,decide_eq_true e1]<;>(repeat' apply A7)<;>first|rfl|exact⟨_,rfl⟩|exact⟨_,_,rfl⟩|simp [AR,A9]
 ·rw [if_neg e1]at h
  obtain rfl:=Option.some.inj h
  simp (maxDischargeDepth:=9) only [↓AP,AQ,Ae,↓reduceIte,bh,bj,bk,bl,bm,bo,bp,br,bt,bw,bx,bO,b0,b3,b4,b5,b6,e1]<;>(repeat' apply A7)<;>first|rfl|exact⟨_,rfl⟩|exact⟨_,_,rfl⟩|simp [AR,A9]
theorem YK(a b:Aq)(ha:CX a):OV a b=some (decide (a=b)):=by
 have h1:=ha.1;unfold OV KY;by_cases hl:a.length=b.length
 ·rw [if_pos (by omega)]
  have key:=Iz (fun v=>Fb a b v) (fun i=>(i:Int)) a.length (fun i=>decide (a.getD i be=b.getD i be)) (.inl ()) (.inr ()) ?_ ?_
  ·simp only [Lu]at key;rw [key,UK a b hl];by_cases he:a=b<;>simp [he]
  ·intro i hi;simp only [Fb];rw [if_pos (Be hi),Bb (IZ hi),Bb (IZ (by omega)),Bb (by rw [JK _ _ hi];exact ha.at i hi),JX,KO i (by omega)]<;>simp only [decide_eq_true_eq]
  ·simp only [Fb];rw [if_neg (Am _)]
 ·rw [if_neg (by omega)]
  have: ¬a=b:=fun e=>hl (by rw [e])
  simp [this]
theorem YL(a:Aq)(b:Aq)(h0:CX a):Y.call 73 [b7 123 (AR (fun x=>b7 125 (Ay .i64 .i64 x)) a),b7 123 (AR (fun x=>b7 125 (Ay .i64 .i64 x)) b)] []=some (ca (decide (a=b)),[]):=Ud a b (YK a b h0)
def La(Ai:Aq)(BP:AO)(Aj:AO)(KJ:Aq)(NK:AO)(GU:AO):Option (Bool):= ck (CX Ai)<| if(decide (Ai=KJ))=true then ck (BP.length<1099511627776)<| if(decide (BP=NK))=true then ck (Aj.length<1099511627776)<| if(decide (Aj=GU))=true then some true else some false else some false else some false
def k25:SC:= .seq (.ops [oX 2 (.box 47 (tK 0)) 0,oX 3 (.box 47 (tK 1)) 0,oX 4 CF 4]) (.seq (.seq (.ops [oF 5 47 2 0,oL 6 45 5 45,oF 7 47 3 0,oL 8 45 7 45,oC 9 73 [(tK 6),(tK 8)] [45,45] 4,oX 10 (.unOp .not 4 (tK 9)) 4]) (.cond (tK 10) (.seq (.ops [oX 4 CF 4]) .ret) .skip)) (.seq (.seq (.ops [oF 11 47 2 1,oL 12 26 11 26,oF 13 47 3 1,oL 14 26 13 26,oC 15 14 [(tK 12),(tK 14)] [26,26] 4,oX 16 (.unOp .not 4 (tK 15)) 4]) (.cond (tK 16) (.seq (.ops [oX 4 CF 4]) .ret) .skip)) (.seq (.seq (.ops [oF 17 47 2 2,oL 18 26 17 26,oF 19 47 3 2,oL 20 26 19 26,oC 21 14 [(tK 18),(tK 20)] [26,26] 4,oX 22 (.unOp .not 4 (tK 21)) 4]) (.cond (tK 22) (.seq (.ops [oX 4 CF 4]) .ret) .skip)) (.seq (.ops [oX 4 (.assign Eh) 4]) .ret))))
theorem A2s:Try.f25.body.map (Bc lends)=some k25:=by kernel_rfl
theorem AFE:Bn Try.f25 2=true:=by kernel_rfl
theorem Oe{a l:List D}{r:D×List D}(h:Bq Y.env k25 (F9 Ab l.length [cb 4] r) (entry a l))(ha:a.length=2):Y.call 25 a l=some r:=
 Aa (Y:=Y) rfl Try.func25 (ha▸AFE) A2s h
theorem R3(Ai:Aq)(BP:AO)(Aj:AO)(KJ:Aq)(NK:AO)(GU:AO){r:Bool}(h:La Ai BP Aj KJ NK GU=some r):Y.call 25 [D.agg [b7 123 (AR (fun x=>b7 125 (Ay .i64 .i64 x)) Ai),b7 3 (AR (bd .i64) BP),b7 3 (AR (bd .i64) Aj)],D.agg [b7 123 (AR (fun x=>b7 125 (Ay .i64 .i64 x)) KJ),b7 3 (AR (bd .i64) NK),b7 3 (AR (bd .i64) GU)]] []=some (ca r,[]):=by
 refine Oe ?_ rfl;unfold k25;unfold La at h;obtain⟨e1,h⟩:=BS h;have c2:=YL Ai KJ e1;by_cases e3:(decide (Ai=KJ))=true
 ·rw [if_pos e3]at h;obtain⟨e4,h⟩:=BS h;have c5:=Bw BP NK e4;by_cases e6:(decide (BP=NK))=true
  ·rw [if_pos e6]at h;obtain⟨e7,h⟩:=BS h;have c8:=Bw Aj GU e7;by_cases e9:(decide (Aj=GU))=true
   ·rw [if_pos e9]at h
    obtain rfl:=Option.some.inj h
    simp (maxDischargeDepth:=9) only [↓AP,AQ,Ae,↓reduceIte,bh,bj,bk,bl,bm,bo,bp,br,bt,bw,bx,bO,b0,b3,b4,b5,b6,e1,c2,e3,e4,c5,e6,e7,c8,e9]<;>(repeat' apply A7)<;>first|rfl|exact⟨_,rfl⟩|exact⟨_,_,rfl⟩|simp [AR,A9]
   ·rw [if_neg e9]at h;have e9f:(decide (Aj=GU))=false:=JA.mpr e9
    obtain rfl:=Option.some.inj h
    simp (maxDischargeDepth:=9) only [↓AP,AQ,Ae,↓reduceIte,bh,bj,bk,bl,bm,bo,bp,br,bt,bw,bx,bO,b0,b3,b4,b5,b6,e1,c2,e3,e4,c5,e6,e7,c8,e9f]<;>(repeat' apply A7)<;>first|rfl|exact⟨_,rfl⟩|exact⟨_,_,rfl⟩|simp [AR,A9]
  ·rw [if_neg e6]at h;have e6f:(decide (BP=NK))=false:=JA.mpr e6
   obtain rfl:=Option.some.inj h
   simp (maxDischargeDepth:=9) only [↓AP,AQ,Ae,↓reduceIte,bh,bj,bk,bl,bm,bo,bp,br,bt,bw,bx,bO,b0,b3,b4,b5,b6,e1,c2,e3,e4,c5,e6f]<;>(repeat' apply A7)<;>first|rfl|exact⟨_,rfl⟩|exact⟨_,_,rfl⟩|simp [AR,A9]
 ·rw [if_neg e3]at h;have e3f:(decide (Ai=KJ))=false:=JA.mpr e3
  obtain rfl:=Option.some.inj h
  simp (maxDischargeDepth:=9) only [↓AP,AQ,Ae,↓reduceIte,bh,bj,bk,bl,bm,bo,bp,br,bt,bw,bx,bO,b0,b3,b4,b5,b6,e1,c2,e3f]<;>(repeat' apply A7)<;>first|rfl|exact⟨_,rfl⟩|exact⟨_,_,rfl⟩|simp [AR,A9]
def Ij(a:Aq)(b c:AO)(a':Aq)(b' c':AO):Bool:=decide (a=a'∧b=b'∧c=c')
theorem Ue(a:Aq)(b c:AO):Ij a b c a b c=true:=by simp [Ij]
theorem Uf(a:Aq)(b c:AO)(a':Aq)(b' c':AO)(h:CX a)(hb:b.length<1099511627776)(hc:c.length<1099511627776):La a b c a' b' c'=some (Ij a b c a' b' c'):=by
 unfold La Ij;rw [Bb h,Bb hb,Bb hc];by_cases h1:a=a'<;>by_cases h2:b=b'<;>by_cases h3:c=c'<;>simp [h1,h2,h3]
theorem Fe(Ai:Aq)(BP:AO)(Aj:AO)(KJ:Aq)(NK:AO)(GU:AO)(h0:CX Ai)(h1:BP.length<1099511627776)(h2:Aj.length<1099511627776):Y.call 25 [D.agg [b7 123 (AR (fun x=>b7 125 (Ay .i64 .i64 x)) Ai),b7 3 (AR (bd .i64) BP),b7 3 (AR (bd .i64) Aj)],D.agg [b7 123 (AR (fun x=>b7 125 (Ay .i64 .i64 x)) KJ),b7 3 (AR (bd .i64) NK),b7 3 (AR (bd .i64) GU)]] []=some (ca (Ij Ai BP Aj KJ NK GU),[]):=R3 Ai BP Aj KJ NK GU (Uf Ai BP Aj KJ NK GU h0 h1 h2)
def QG(a:G8)(left:Int):Option (Int):= if(cd.wrap (left-(a.length:Int)))<0 then some (-1) else some (cd.wrap (left-(a.length:Int)))
def A2t:SC:= .seq (.ops [oX 4 (.assign (iK 0)) 3]) (.seq (.ops [oM 5 1 3,oM 6 0 121,oN 7 6 121,oB 8 .sub 3 (tK 5) (tK 7) 3 3,oA 1 8 3]) (.seq (.seq (.ops [oM 9 1 3,oB 10 .lss 3 (tK 9) (iK 0) 3 4]) (.cond (tK 10) (.seq (.ops [oX 4 O7 3]) .ret) .skip)) (.seq (.ops [oM 11 1 3,oA 4 11 3]) .ret)))
theorem tu:Try.f105.body.map (Bc lends)=some A2t:=by kernel_rfl
theorem A9w:Bn Try.f105 2=true:=by kernel_rfl
theorem AFF{a l:List D}{r:D×List D}(h:Bq Y.env A2t (F9 Ab l.length [cb 4] r) (entry a l))(ha:a.length=2):Y.call 105 a l=some r:=
 Aa (Y:=Y) rfl Try.func105 (ha▸A9w) tu h
theorem WK(a:G8)(left:Int){r:Int}(h:QG a left=some r):Y.call 105 [b7 159 (Ay .i64 .i64 a),bd .i64 left] []=some (bd .i64 r,[]):=by
 refine AFF ?_ rfl;unfold A2t;unfold QG at h;by_cases e1:(cd.wrap (left-(a.length:Int)))<0
 ·rw [if_pos e1]at h
  obtain rfl:=Option.some.inj h
  simp (maxDischargeDepth:=9) only [↓AP,AQ,Ae,↓reduceIte,bh,bj,bk,bl,bm,bo,bp,br,bt,bw,bx,bO,b0,b3,b4,b5,b6,e1]<;>(repeat' apply A7)<;>first|rfl|exact⟨_,rfl⟩|exact⟨_,_,rfl⟩|simp [AR,A9]
 ·rw [if_neg e1]at h
  obtain rfl:=Option.some.inj h
  simp (maxDischargeDepth:=9) only [↓AP,AQ,Ae,↓reduceIte,bh,bj,bk,bl,bm,bo,bp,br,bt,bw,bx,bO,b0,b3,b4,b5,b6,e1]<;>(repeat' apply A7)<;>first|rfl|exact⟨_,rfl⟩|exact⟨_,_,rfl⟩|simp [AR,A9]
theorem aV(a:G8)(left:Int)(ha:a.length<9223372036854775808)(hl:0≤left∧left≤1048576):QG a left=some (Ho left a.length):=by
 unfold QG Ho;rw [KI _ (by omega)]
 split<;>rfl
theorem aW(a:G8)(left:Int)(h0:a.length<9223372036854775808)(h1:0≤left∧left≤1048576):Y.call 105 [b7 159 (Ay .i64 .i64 a),bd .i64 left] []=some (bd .i64 (Ho left a.length),[]):=WK a left (aV a left h0 h1)
def Ff(a:Aq)(left1:Int)(i:Int):Option ((Int×Int)⊕(Unit⊕Int)):= if i<(a.length:Int)then ck (0≤i∧i.toNat<a.length)<| ck ((a.getD i.toNat be).length<9223372036854775808)<| ck (0≤left1∧left1≤1048576)<| if(Ho left1 (a.getD i.toNat be).length)<0 then some (b8 (cc ())) else some (cc ((Ho left1 (a.getD i.toNat be).length),cd.wrap (i+1))) else some (b8 (b8 left1))
def GJ(a:Aq)(v:Int×Int):Option (Unit⊕Int):=Iy (fun v=>Ff a v.1 v.2) v
def OW(a:Aq)(left:Int):Option (Int):=
 if(cd.wrap (left-(a.length:Int)))<0 then
  some (-1)
 else
  (GJ a (cd.wrap (left-(a.length:Int)),0)).bind fun AX=>
  match AX with
  | .inl q1000_=>
   some (-1)
  | .inr q1000_=>
   some q1000_
def YM:SC:= .seq (.seq (.ops [oM 12 5 3,oM 13 0 39,oN 14 13 39,oB 15 .lss 3 (tK 12) (tK 14) 3 4]) (.cond (tK 15) .skip (.exit 0))) (.seq (.block 1 (.seq (.ops [oM 18 0 39,oM 19 5 3,oI 20 39 18 19,oL 21 121 20 121,oM 22 1 3,oC 23 105 [(tK 21),(tK 22)] [121,3] 3,oA 1 23 3]) (.seq (.ops [oM 24 1 3,oB 25 .lss 3 (tK 24) (iK 0) 3 4]) (.cond (tK 25) (.seq (.ops [oX 4 O7 3]) .ret) .skip)))) (.ops [oM 16 5 3,oB 17 .add 3 (tK 16) (iK 1) 3 3,oA 5 17 3]))
def pE:SC:= .loop YM
def k58:SC:= .seq (.ops [oX 4 (.assign (iK 0)) 3]) (.seq (.ops [oM 6 1 3,oM 7 0 39,oN 8 7 39,oB 9 .sub 3 (tK 6) (tK 8) 3 3,oA 1 9 3]) (.seq (.seq (.ops [oM 10 1 3,oB 11 .lss 3 (tK 10) (iK 0) 3 4]) (.cond (tK 11) (.seq (.ops [oX 4 O7 3]) .ret) .skip)) (.seq (.seq (.ops [oX 5 (.assign (iK 0)) 3]) (.block 0 pE)) (.seq (.ops [oM 26 1 3,oA 4 26 3]) .ret))))
theorem A2u:Try.f58.body.map (Bc lends)=some k58:=by kernel_rfl
theorem AFH:Bn Try.f58 2=true:=by kernel_rfl
theorem c58{a l:List D}{r:D×List D}(h:Bq Y.env k58 (F9 Ab l.length [cb 4] r) (entry a l))(ha:a.length=2):Y.call 58 a l=some r:=
 Aa (Y:=Y) rfl Try.func58 (ha▸AFH) A2u h
def Eb(a:Aq)(left1:Int)(i:Int)(s:St):Prop:=s.v 0=b7 121 (AR (fun x=>b7 159 (Ay .i64 .i64 x)) a)∧s.v 1=bd .i64 left1∧s.v 5=bd .i64 i
def Ec(a:Aq)(r:Unit⊕Int)(ex:Ex)(s:St):Prop:=match r with
 | .inl q=>ex= .ret∧s.v 4=bd .i64 (-1)
 | .inr q=>ex= .exit 0∧s.v 1=bd .i64 q
theorem SF(a:Aq){v:Int×Int}{s:St}{r:Unit⊕Int}(h:GJ a v=some r)(hM:Eb a v.1 v.2 s):Bq Y.env pE (Ec a r) s:=by
 unfold GJ at h;refine BV (c:=YM) (fun v=>Ff a v.1 v.2) (fun v s=>Eb a v.1 v.2 s) (Ec a) ?_ h hM;clear h hM s v r;intro v s o hM h;obtain⟨left1,i⟩:=v;dsimp only at h hM;unfold Ff at h;unfold Eb at hM;obtain⟨m0,m1,m2⟩:=hM;unfold YM;by_cases e2:i<(a.length:Int)
 ·rw [if_pos e2]at h;obtain⟨e3,h⟩:=BS h;obtain⟨e4,h⟩:=BS h;obtain⟨e5,h⟩:=BS h;have c6:=aW (a.getD i.toNat be) left1 e4 e5;by_cases e7:(Ho left1 (a.getD i.toNat be).length)<0
  ·rw [if_pos e7]at h
   obtain rfl:=Option.some.inj h
   simp (maxDischargeDepth:=9) only [↓AP,AQ,Ae,↓reduceIte,bh,bj,bk,bl,bm,bo,bp,br,bt,bw,bx,bO,b0,b3,b4,b5,b6,m0,m1,m2,e2,e3.1,e3.2,e4,e5.1,e5.2,c6,e7,Eb,Ec,CU,CV,CW]<;>(repeat' apply A7)<;>first|rfl|exact⟨_,rfl⟩|exact⟨_,_,rfl⟩|simp [AR,A9]
  ·rw [if_neg e7]at h
   obtain rfl:=Option.some.inj h
   simp (maxDischargeDepth:=9) only [↓AP,AQ,Ae,↓reduceIte,bh,bj,bk,bl,bm,bo,bp,br,bt,bw,bx,bO,b0,b3,b4,b5,b6,m0,m1,m2,e2,e3.1,e3.2,e4,e5.1,e5.2,c6,e7,Eb,Ec,CU,CV,CW]<;>(repeat' apply A7)<;>first|rfl|exact⟨_,rfl⟩|exact⟨_,_,rfl⟩|simp [AR,A9]
 ·rw [if_neg e2]at h
  obtain rfl:=Option.some.inj h
  simp (maxDischargeDepth:=9) only [↓AP,AQ,Ae,↓reduceIte,bh,bj,bk,bl,bm,bo,bp,br,bt,bw,bx,bO,b0,b3,b4,b5,b6,m0,m1,m2,e2,Eb,Ec,CU,CV,CW]<;>(repeat' apply A7)<;>first|rfl|exact⟨_,rfl⟩|exact⟨_,_,rfl⟩|simp [AR,A9]
theorem Ug(a:Aq)(left:Int){r:Int}(h:OW a left=some r):Y.call 58 [b7 121 (AR (fun x=>b7 159 (Ay .i64 .i64 x)) a),bd .i64 left] []=some (bd .i64 r,[]):=by
 refine c58 ?_ rfl;unfold k58;unfold OW at h;by_cases e1:(cd.wrap (left-(a.length:Int)))<0
 ·rw [if_pos e1]at h
  obtain rfl:=Option.some.inj h
  simp (maxDischargeDepth:=9) only [↓AP,AQ,Ae,↓reduceIte,bh,bj,bk,bl,bm,bo,bp,br,bt,bw,bx,bO,b0,b3,b4,b5,b6,e1]<;>(repeat' apply A7)<;>first|rfl|exact⟨_,rfl⟩|exact⟨_,_,rfl⟩|simp [AR,A9]
 ·rw [if_neg e1]at h;obtain⟨AX,hl3,h⟩:=Av h;try dsimp only at h
  simp (maxDischargeDepth:=9) only [↓AP,AQ,Ae,↓reduceIte,bh,bj,bk,bl,bm,bo,bp,br,bt,bw,bx,bO,b0,b3,b4,b5,b6,e1];refine BB (SF a hl3 ?_) ?_
  ·simp (maxDischargeDepth:=9) only [↓AP,AQ,Ae,↓reduceIte,bh,bj,bk,bl,bm,bo,bp,br,bt,bw,bx,bO,b0,b3,b4,b5,b6,e1,Eb]<;>(repeat' apply A7)<;>first|rfl|exact⟨_,rfl⟩|exact⟨_,_,rfl⟩|simp [AR,A9]
  ·intro ex3 s3 hX3;rcases AX with q1000_|q1000_
   ·unfold Ec at hX3;dsimp only at hX3 h;obtain⟨rfl,n3_0⟩:=hX3
    obtain rfl:=Option.some.inj h
    simp (maxDischargeDepth:=9) only [↓AP,AQ,Ae,↓reduceIte,bh,bj,bk,bl,bm,bo,bp,br,bt,bw,bx,bO,b0,b3,b4,b5,b6,e1,n3_0]<;>(repeat' apply A7)<;>first|rfl|exact⟨_,rfl⟩|exact⟨_,_,rfl⟩|simp [AR,A9]
   ·unfold Ec at hX3;dsimp only at hX3 h;obtain⟨rfl,n3_0⟩:=hX3
    obtain rfl:=Option.some.inj h
    simp (maxDischargeDepth:=9) only [↓AP,AQ,Ae,↓reduceIte,bh,bj,bk,bl,bm,bo,bp,br,bt,bw,bx,bO,b0,b3,b4,b5,b6,e1,n3_0]<;>(repeat' apply A7)<;>first|rfl|exact⟨_,rfl⟩|exact⟨_,_,rfl⟩|simp [AR,A9]
def fE(l:Aq):bD:=l.map fun x=>x.map Prod.fst
theorem SG(a:Aq)(ha:a.length<4611686018427387904)(hx: ∀x∈a,x.length<9223372036854775808): ∀(n i:Nat) (left:Int),n=a.length-i→i≤a.length→0≤left∧left≤1048576→
  GJ a (left,(i:Int))=some (if szL left (fE (a.drop i))= -1 then .inl ()else .inr (szL left (fE (a.drop i)))):=by
 intro n
 induction n with
 |zero=>
  intro i left hn hi hl;have e:i=a.length:=by omega
  subst e;unfold GJ;rw [Mj (r:=b8 left)]
  ·rw [List.drop_length,show fE []=[]from rfl];unfold szL;rw [if_neg (by omega)]
  ·simp only [Ff];rw [if_neg (Am _)]
 |succ n ih=>
  intro i left hn hi hl;have hlt:i<a.length:=by omega
  have hm:a[i]∈a:=Jc hlt;have hxm:=hx _ hm
  have step:Ff a left i=if Ho left a[i].length<0 then some (b8 (cc ()))else some (cc (Ho left a[i].length,((i+1:Nat):Int))):=by
   unfold Ff;rw [if_pos (Be hlt),Bb (IZ hlt),Bb (by rw [JK _ _ hlt];exact hxm),Bb hl,JK _ _ hlt,KO i (by omega)]
  rw [jA hlt,show fE (a[i]::a.drop (i+1))=a[i].map Prod.fst::fE (a.drop (i+1))from rfl];unfold szL;rw [P6];by_cases hq:left-(a[i].length:Int)<0
  ·rw [if_pos hq];unfold GJ;rw [Mj (r:=cc ())]
   ·rfl
   ·rw [step];unfold Ho;rw [if_pos hq];rfl
  ·rw [if_neg hq];have e2:Ho left a[i].length=left-a[i].length:=by unfold Ho;rw [if_neg hq]
   have:=ih (i+1) (left-a[i].length) (by omega) (by omega) (by omega)
   unfold GJ at this ⊢;rw [Q8 (s':=(left-(a[i].length:Int),((i+1:Nat):Int))),this]
   ·rw [step,e2,if_neg hq]
def Ow(l:Aq):Prop:=l.length<9223372036854775808∧ ∀x∈l,x.length<9223372036854775808
instance (l:Aq):Decidable (Ow l):=by unfold Ow;infer_instance
theorem YN(a:Aq)(left:Int)(hw:Ow a)(hl:0≤left∧left≤1048576):OW a left=some (Ho left (a.length+El (fE a))):=by
 have ht:=I4 (fE a);have ha:=hw.1;unfold OW;rw [KI _ (by omega)]
 by_cases hq:left-(a.length:Int)<0
 ·rw [if_pos hq];unfold Ho;rw [if_pos (by omega)]
 ·rw [if_neg hq];have h0:=SG a (by omega) hw.2 a.length 0 (left-a.length) (by omega) (by omega) (by omega)
  simp only [Lu,List.drop_zero]at h0;rw [h0,Cq,A2U _ _ (by omega)]
  have e:Ho (left-a.length) (El (fE a))=Ho left (a.length+El (fE a)):=by unfold Ho;rw [show left- ↑a.length-El (fE a)=left-(↑a.length+El (fE a)) by omega]
  rw [e];by_cases h1:Ho left (a.length+El (fE a))= -1
  ·rw [if_pos h1,h1]
  ·rw [if_neg h1]
theorem YO(a:Aq)(left:Int)(h0:Ow a)(h1:0≤left∧left≤1048576):Y.call 58 [b7 121 (AR (fun x=>b7 159 (Ay .i64 .i64 x)) a),bd .i64 left] []=some (bd .i64 (Ho left (a.length+El (fE a))),[]):=Ug a left (YN a left h0 h1)
def Lb(Ai:Aq)(BP:AO)(Aj:AO)(left:Int):Option (Int):= ck (Ow Ai)<| ck (0≤left∧left≤1048576)<| if(Ho left (Ai.length+El (fE Ai)))<0 then some (-1) else ck (BP.length<9223372036854775808)<| ck (0≤(Ho left (Ai.length+El (fE Ai)))∧(Ho left (Ai.length+El (fE Ai)))≤1048576)<| if(Ho (Ho left (Ai.length+El (fE Ai))) BP.length)<0 then some (-1) else ck (Aj.length<9223372036854775808)<| ck (0≤(Ho (Ho left (Ai.length+El (fE Ai))) BP.length)∧(Ho (Ho left (Ai.length+El (fE Ai))) BP.length)≤1048576)<| if(Ho (Ho (Ho left (Ai.length+El (fE Ai))) BP.length) Aj.length)<0 then some (-1) else some (Ho (Ho (Ho left (Ai.length+El (fE Ai))) BP.length) Aj.length)
def k21:SC:= .seq (.ops [oX 2 (.box 41 (tK 0)) 0,oX 4 (.assign (iK 0)) 3]) (.seq (.ops [oF 5 41 2 0,oL 6 39 5 39,oM 7 1 3,oC 8 58 [(tK 6),(tK 7)] [39,3] 3,oA 1 8 3]) (.seq (.seq (.ops [oM 9 1 3,oB 10 .lss 3 (tK 9) (iK 0) 3 4]) (.cond (tK 10) (.seq (.ops [oX 4 O7 3]) .ret) .skip)) (.seq (.ops [oF 11 41 2 1,oL 12 26 11 26,oM 13 1 3,oC 14 59 [(tK 12),(tK 13)] [26,3] 3,oA 1 14 3]) (.seq (.seq (.ops [oM 15 1 3,oB 16 .lss 3 (tK 15) (iK 0) 3 4]) (.cond (tK 16) (.seq (.ops [oX 4 O7 3]) .ret) .skip)) (.seq (.ops [oF 17 41 2 2,oL 18 26 17 26,oM 19 1 3,oC 20 59 [(tK 18),(tK 19)] [26,3] 3,oA 1 20 3]) (.seq (.seq (.ops [oM 21 1 3,oB 22 .lss 3 (tK 21) (iK 0) 3 4]) (.cond (tK 22) (.seq (.ops [oX 4 O7 3]) .ret) .skip)) (.seq (.ops [oM 23 1 3,oA 4 23 3]) .ret)))))))
theorem A2v:Try.f21.body.map (Bc lends)=some k21:=by kernel_rfl
theorem AFJ:Bn Try.f21 2=true:=by kernel_rfl
theorem QH{a l:List D}{r:D×List D}(h:Bq Y.env k21 (F9 Ab l.length [cb 4] r) (entry a l))(ha:a.length=2):Y.call 21 a l=some r:=
 Aa (Y:=Y) rfl Try.func21 (ha▸AFJ) A2v h
theorem R4(Ai:Aq)(BP:AO)(Aj:AO)(left:Int){r:Int}(h:Lb Ai BP Aj left=some r):Y.call 21 [D.agg [b7 121 (AR (fun x=>b7 159 (Ay .i64 .i64 x)) Ai),b7 3 (AR (bd .i64) BP),b7 3 (AR (bd .i64) Aj)],bd .i64 left] []=some (bd .i64 r,[]):=by
 refine QH ?_ rfl;unfold k21;unfold Lb at h;obtain⟨e1,h⟩:=BS h;obtain⟨e2,h⟩:=BS h;have c3:=YO Ai left e1 e2;by_cases e4:(Ho left (Ai.length+El (fE Ai)))<0
 ·rw [if_pos e4]at h
  obtain rfl:=Option.some.inj h
  simp (maxDischargeDepth:=9) only [↓AP,AQ,Ae,↓reduceIte,bh,bj,bk,bl,bm,bo,bp,br,bt,bw,bx,bO,b0,b3,b4,b5,b6,e1,e2.1,e2.2,c3,e4]<;>(repeat' apply A7)<;>first|rfl|exact⟨_,rfl⟩|exact⟨_,_,rfl⟩|simp [AR,A9]
 ·rw [if_neg e4]at h;obtain⟨e5,h⟩:=BS h;obtain⟨e6,h⟩:=BS h;have c7:=Rn BP (Ho left (Ai.length+El (fE Ai))) e5 e6;by_cases e8:(Ho (Ho left (Ai.length+El (fE Ai))) BP.length)<0
  ·rw [if_pos e8]at h
   obtain rfl:=Option.some.inj h
   simp (maxDischargeDepth:=9) only [↓AP,AQ,Ae,↓reduceIte,bh,bj,bk,bl,bm,bo,bp,br,bt,bw,bx,bO,b0,b3,b4,b5,b6,e1,e2.1,e2.2,c3,e4,e5,e6.1,e6.2,c7,e8]<;>(repeat' apply A7)<;>first|rfl|exact⟨_,rfl⟩|exact⟨_,_,rfl⟩|simp [AR,A9]
  ·rw [if_neg e8]at h;obtain⟨e9,h⟩:=BS h;obtain⟨e10,h⟩:=BS h;have c11:=Rn Aj (Ho (Ho left (Ai.length+El (fE Ai))) BP.length) e9 e10;by_cases e12:(Ho (Ho (Ho left (Ai.length+El (fE Ai))) BP.length) Aj.length)<0
   ·rw [if_pos e12]at h
    obtain rfl:=Option.some.inj h
    simp (maxDischargeDepth:=9) only [↓AP,AQ,Ae,↓reduceIte,bh,bj,bk,bl,bm,bo,bp,br,bt,bw,bx,bO,b0,b3,b4,b5,b6,e1,e2.1,e2.2,c3,e4,e5,e6.1,e6.2,c7,e8,e9,e10.1,e10.2,c11,e12]<;>(repeat' apply A7)<;>first|rfl|exact⟨_,rfl⟩|exact⟨_,_,rfl⟩|simp [AR,A9]
   ·rw [if_neg e12]at h
    obtain rfl:=Option.some.inj h
    simp (maxDischargeDepth:=9) only [↓AP,AQ,Ae,↓reduceIte,bh,bj,bk,bl,bm,bo,bp,br,bt,bw,bx,bO,b0,b3,b4,b5,b6,e1,e2.1,e2.2,c3,e4,e5,e6.1,e6.2,c7,e8,e9,e10.1,e10.2,c11,e12]<;>(repeat' apply A7)<;>first|rfl|exact⟨_,rfl⟩|exact⟨_,_,rfl⟩|simp [AR,A9]
def qi(left:Int)(a:Aq)(b c:AO):Int:=
 if Ho left (a.length+El (fE a))<0 then-1 else if Ho (Ho left (a.length+El (fE a))) b.length<0 then-1 else Ho (Ho (Ho left (a.length+El (fE a))) b.length) c.length
theorem Uh(a:Aq)(b c:AO)(left:Int)(ha:Ow a)(hb:b.length<9223372036854775808)(hc:c.length<9223372036854775808)(hl:0≤left∧left≤1048576):Lb a b c left=some (qi left a b c):=by
 have ht:=I4 (fE a);unfold Lb qi;rw [Bb ha,Bb hl];by_cases h1:Ho left (a.length+El (fE a))<0
 ·rw [if_pos h1,if_pos h1]
 ·rw [if_neg h1,if_neg h1]
  have b1:0≤Ho left (a.length+El (fE a))∧Ho left (a.length+El (fE a))≤1048576:=by
   rcases Kk left (a.length+El (fE a))with c|⟨c,c'⟩<;>omega
  rw [Bb hb,Bb b1];by_cases h2:Ho (Ho left (a.length+El (fE a))) b.length<0
  ·rw [if_pos h2,if_pos h2]
  ·rw [if_neg h2,if_neg h2]
   have b2:0≤Ho (Ho left (a.length+El (fE a))) b.length∧Ho (Ho left (a.length+El (fE a))) b.length≤1048576:=by
    rcases Kk (Ho left (a.length+El (fE a))) b.length with c|⟨c,c'⟩<;>omega
   rw [Bb hc,Bb b2];by_cases h3:Ho (Ho (Ho left (a.length+El (fE a))) b.length) c.length<0
   ·rw [if_pos h3];rcases Kk (Ho (Ho left (a.length+El (fE a))) b.length) c.length with d|⟨d,d'⟩
    ·rw [d]
    ·omega
   ·rw [if_neg h3]
theorem Ui(Ai:Aq)(BP:AO)(Aj:AO)(left:Int)(h0:Ow Ai)(h1:BP.length<9223372036854775808)(h2:Aj.length<9223372036854775808)(h3:0≤left∧left≤1048576):Y.call 21 [D.agg [b7 121 (AR (fun x=>b7 159 (Ay .i64 .i64 x)) Ai),b7 3 (AR (bd .i64) BP),b7 3 (AR (bd .i64) Aj)],bd .i64 left] []=some (bd .i64 (qi left Ai BP Aj),[]):=R4 Ai BP Aj left (Uh Ai BP Aj left h0 h1 h2 h3)
theorem u6{a:Aq}{b c:AO}{left:Int}(hl:left≤1048576)(h: ¬qi left a b c<0):a.length+El (fE a)+b.length+c.length≤1048576∧CX a∧qi left a b c≤left:=by
 have ht:=I4 (fE a)
 have key:(a.length:Int)+El (fE a)+b.length+c.length≤1048576∧qi left a b c≤left:=by
  unfold qi at h ⊢;rcases Kk left (a.length+El (fE a))with d|⟨d,d'⟩
  ·rw [d]at h;simp at h
  ·rw [d,if_neg (by omega)]at h
   rw [d,if_neg (by omega)]
   rcases Kk (left-(a.length+El (fE a))) b.length with e|⟨e,e'⟩
   ·rw [e]at h;simp at h
   ·rw [e,if_neg (by omega)]at h
    rw [e,if_neg (by omega)]
    rcases Kk (left-(a.length+El (fE a))-b.length) c.length with g|⟨g,g'⟩
    ·rw [g]at h;simp at h
    ·rw [g];omega
 refine⟨key.1,⟨by omega,fun x hx=> ?_⟩,key.2⟩
 have:x.map Prod.fst∈fE a:=Jd.2 ⟨x,hx,rfl⟩
 have:=tH this
 rw [P6]at this;omega
theorem pF{l:Aq}(h:eF l):Ow l:=⟨Nat.lt_of_le_of_lt h.1 (by decide),fun x hx=>Nat.lt_of_le_of_lt (h.2 x hx).1 (by decide)⟩
end Go.Proofs.Ytclkfhhdikfcpaa
end
