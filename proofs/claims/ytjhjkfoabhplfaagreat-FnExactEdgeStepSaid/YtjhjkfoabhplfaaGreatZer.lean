/- Bad pairs of configurations, as plain functions; the first configuration without one; laws. Conditions: none. -/
import Derived.Test.YtjhjkfoabhplfaaGreatL6
import Derived.Test.YtjhjkfoabhplfaaGreatEdg
import Derived.Test.YtjhjkfoabhplfaaGreatFst
namespace Go.Proofs.YtjhjkfoabhplfaaGreat
open Go Dv
set_option linter.unusedSimpArgs false
set_option linter.unusedVariables false
set_option maxRecDepth 100000
set_option maxHeartbeats 4000000
def P9(es:List (List Int))(x y:List Int)(i:Nat):Option Nat:=Jd y.length fun j=> !P8 es (x.getD i default) (y.getD j default)
def Xw(es:List (List Int))(x y:List Int):Option (Nat×Nat):=(Jd x.length fun i=>(P9 es x y i).isSome).map fun i=>(i,(P9 es x y i).getD 0)
noncomputable def G5(pL pD:Int)(pN pE:List (List Int))(x_ y:List Int)(JN BV:Int):Option ((Int)⊕(((List Int))⊕Unit)):= if BV<(y.length:Int)then ck (0≤BV∧BV.toNat<y.length)<| ck (Ai pE)<| ck (QF pE=true)<| if(P8 pE (x_.getD JN.toNat default) (y.getD BV.toNat default))=true then some (Sum.inl (IntKind.i64.wrap (BV+1))) else some (Sum.inr (Sum.inl [(x_.getD JN.toNat default),(y.getD BV.toNat default)])) else some (Sum.inr (Sum.inr ()))
noncomputable def Je(pL pD:Int)(pN pE:List (List Int))(x_ y:List Int)(JN v:Int):Option (((List Int))⊕Unit):=Gb (fun v=>G5 pL pD pN pE x_ y JN v) v
noncomputable def G6(pL pD:Int)(pN pE:List (List Int))(x_ y:List Int)(JN:Int):Option ((Int)⊕(((List Int))⊕Unit)):=
 if JN<(x_.length:Int)then
  ck (0≤JN∧JN.toNat<x_.length)<|
  (Je pL pD pN pE x_ y JN 0).bind fun DF=>
  match DF with
  | .inl q4_=>
   some (Sum.inr (Sum.inl q4_))
  | .inr q4_=>
   some (Sum.inl (IntKind.i64.wrap (JN+1)))
 else
  some (Sum.inr (Sum.inr ()))
noncomputable def Jf(pL pD:Int)(pN pE:List (List Int))(x_ y:List Int)(v:Int):Option (((List Int))⊕Unit):=Gb (fun v=>G6 pL pD pN pE x_ y v) v
noncomputable def NZ(pL pD:Int)(pN pE:List (List Int))(x_ y:List Int):Option ((List Int)×Bool):=
 (Jf pL pD pN pE x_ y 0).bind fun Au=>
 match Au with
 | .inl q2_=>
  some (q2_,true)
 | .inr q2_=>
  some ([],false)
def ZP:SC:= .seq (.ops [oB 21 .lss 3 (tK 20) (tK 19) 3 0]) (.seq (.cond (tK 21) .skip (.exit 2)) (.seq (.block 3 (.seq (.ops [oI 22 27 18 20,oL 23 3 22 3,oA 11 23 3]) (.seq (.ops [oL 24 26 3 26,oM 25 9 3,oM 26 11 3,oC 27 83 [(tK 24),(tK 25),(tK 26)] [26,3,3] 4,oX 28 (.unOp .not 4 (tK 27)) 4]) (.cond (tK 28) (.seq (.ops [oM 29 9 3,oM 30 11 3,oX 31 (.buildSlice 27 2 #[(0,(tK 29)),(1,(tK 30))]) 27,oA 6 31 27,oX 7 (.assign (.const (.bool true))) 4]) .ret) .skip)))) (.ops [oB 32 .add 3 (tK 20) (iK 1) 3 3,oM 20 32 3])))
def uC:SC:= .loop ZP
def ZQ:SC:= .seq (.ops [oB 15 .lss 3 (tK 14) (tK 13) 3 0]) (.seq (.cond (tK 15) .skip (.exit 0)) (.seq (.block 1 (.seq (.ops [oI 16 27 12 14,oL 17 3 16 3,oA 9 17 3]) (.seq (.ops [oM 18 2 27,oN 19 18 27,oX 20 (.move (iK 0)) 3]) (.block 2 uC)))) (.ops [oB 33 .add 3 (tK 14) (iK 1) 3 3,oM 14 33 3])))
def uD:SC:= .loop ZQ
def k97:SC:= .seq (.ops [oX 3 (.box 26 (tK 0)) 0,oX 6 (.assign (.const (.slice none 0 0))) 27,oX 7 (.assign (.const (.bool false))) 4]) (.seq (.seq (.ops [oM 12 1 27,oN 13 12 27,oX 14 (.move (iK 0)) 3]) (.block 0 uD)) (.seq (.ops [oX 6 (.assign (.const (.slice none 0 0))) 27,oX 7 (.assign (.const (.bool false))) 4]) .ret))
theorem A3h:Tryz.f97.body.map (BO lends)=some k97:=by kernel_rfl
theorem AJA:Bi Tryz.f97 3=true:=by kernel_rfl
theorem c97{a l:List D}{r:D×List D}(h:Bf Y.env k97 (EG AV l.length [ResultVar.tmp 6,ResultVar.tmp 7] r) (entry a l))(ha:a.length=3):Y.call 97 a l=some r:=
 AL (Y:=Y) rfl Tryz.func97 (ha▸AJA) A3h h
def Ei(pL pD:Int)(pN pE:List (List Int))(x_ y:List Int)(JN BV:Int)(s:St):Prop:=s.v 2=D.sl 3 (AB (D.int .i64) y)∧s.v 3=D.box [D.int .i64 pL,D.int .i64 pD,D.sl 27 (AB (fun x=>D.sl 3 (AB (D.int .i64) x)) pN),D.sl 27 (AB (fun x=>D.sl 3 (AB (D.int .i64) x)) pE)]∧s.v 9=D.int .i64 (x_.getD JN.toNat default)∧s.v 12=D.sl 3 (AB (D.int .i64) x_)∧s.v 13=D.int .i64 (x_.length:Int)∧s.v 14=D.int .i64 JN∧s.v 18=D.sl 3 (AB (D.int .i64) y)∧s.v 19=D.int .i64 (y.length:Int)∧s.v 20=D.int .i64 BV
def G7(pL pD:Int)(pN pE:List (List Int))(x_ y:List Int)(JN:Int)(r:((List Int))⊕Unit)(ex:Ex)(s:St):Prop:=match r with
 | .inl q=>ex= .ret∧s.v 6=D.own 3 (AB (D.int .i64) q)∧s.v 7=D.bool true
 | .inr q=>ex= .exit 2∧s.v 2=D.sl 3 (AB (D.int .i64) y)∧s.v 3=D.box [D.int .i64 pL,D.int .i64 pD,D.sl 27 (AB (fun x=>D.sl 3 (AB (D.int .i64) x)) pN),D.sl 27 (AB (fun x=>D.sl 3 (AB (D.int .i64) x)) pE)]∧s.v 12=D.sl 3 (AB (D.int .i64) x_)∧s.v 13=D.int .i64 (x_.length:Int)∧s.v 14=D.int .i64 JN
theorem U0(pL pD:Int)(pN pE:List (List Int))(x_ y:List Int)(JN:Int){v:Int}{s:St}{r:((List Int))⊕Unit}(h:Je pL pD pN pE x_ y JN v=some r)(hM:Ei pL pD pN pE x_ y JN v s):Bf Y.env uC (G7 pL pD pN pE x_ y JN r) s:=by
 unfold Je at h;refine BA (c:=ZP) (fun v=>G5 pL pD pN pE x_ y JN v) (fun v s=>Ei pL pD pN pE x_ y JN v s) (G7 pL pD pN pE x_ y JN) ?_ h hM;clear h hM s v r;intro BV s o hM h;unfold G5 at h;unfold Ei at hM;obtain⟨m0,m1,m2,m3,m4,m5,m6,m7,m8⟩:=hM;unfold ZP;by_cases e3:BV<(y.length:Int)
 ·rw [if_pos e3]at h;obtain⟨e4,h⟩:=Av h;obtain⟨e5,h⟩:=Av h;obtain⟨e6,h⟩:=Av h;have c7:=RN pL pD pN pE (x_.getD JN.toNat default) (y.getD BV.toNat default) e5 e6;by_cases e8:(P8 pE (x_.getD JN.toNat default) (y.getD BV.toNat default))=true
  ·rw [if_pos e8]at h;cases h;simp (maxDischargeDepth:=9) only [↓AC,A7,AO,BM,AA,AJ,↓reduceIte,Nat.reduceEqDiff,Nat.reduceLT,Nat.reduceAdd,m0,m1,m2,m3,m4,m5,m6,m7,m8,e3,e4.1,e4.2,c7,e8,Ei,FD]
  ·rw [if_neg e8]at h;have e8f:(P8 pE (x_.getD JN.toNat default) (y.getD BV.toNat default))=false:=Bool.eq_false_iff.mpr e8;cases h;simp (maxDischargeDepth:=9) only [↓AC,A7,AO,BM,AA,AJ,↓reduceIte,Nat.reduceEqDiff,Nat.reduceLT,Nat.reduceLeDiff,Nat.reduceAdd,m1,m2,m6,m7,m8,e3,e4.1,e4.2,c7,e8f,Ei,G7,Pz]<;>(repeat' apply And.intro)<;>first | rfl | exact⟨_,rfl⟩ | exact⟨_,_,rfl⟩ | simp [AB,Aa]
 ·rw [if_neg e3]at h;cases h;simp (maxDischargeDepth:=9) only [↓AC,A7,AJ,↓reduceIte,Nat.reduceEqDiff,Nat.reduceLT,m0,m1,m3,m4,m5,m7,m8,e3,Ei,G7,JH]
def Ej(pL pD:Int)(pN pE:List (List Int))(x_ y:List Int)(JN:Int)(s:St):Prop:=s.v 2=D.sl 3 (AB (D.int .i64) y)∧s.v 3=D.box [D.int .i64 pL,D.int .i64 pD,D.sl 27 (AB (fun x=>D.sl 3 (AB (D.int .i64) x)) pN),D.sl 27 (AB (fun x=>D.sl 3 (AB (D.int .i64) x)) pE)]∧s.v 12=D.sl 3 (AB (D.int .i64) x_)∧s.v 13=D.int .i64 (x_.length:Int)∧s.v 14=D.int .i64 JN
def G8(pL pD:Int)(pN pE:List (List Int))(x_ y:List Int)(r:((List Int))⊕Unit)(ex:Ex)(s:St):Prop:=match r with
 | .inl q=>ex= .ret∧s.v 6=D.own 3 (AB (D.int .i64) q)∧s.v 7=D.bool true
 | .inr q=>ex= .exit 0
theorem U1(pL pD:Int)(pN pE:List (List Int))(x_ y:List Int){v:Int}{s:St}{r:((List Int))⊕Unit}(h:Jf pL pD pN pE x_ y v=some r)(hM:Ej pL pD pN pE x_ y v s):Bf Y.env uD (G8 pL pD pN pE x_ y r) s:=by
 unfold Jf at h;refine BA (c:=ZQ) (fun v=>G6 pL pD pN pE x_ y v) (fun v s=>Ej pL pD pN pE x_ y v s) (G8 pL pD pN pE x_ y) ?_ h hM;clear h hM s v r;intro JN s o hM h;unfold G6 at h;unfold Ej at hM;obtain⟨m0,m1,m2,m3,m4⟩:=hM;unfold ZQ;by_cases e1:JN<(x_.length:Int)
 ·rw [if_pos e1]at h;obtain⟨e2,h⟩:=Av h;obtain⟨DF,hl4,h⟩:=AU h;try dsimp only at h
  simp (maxDischargeDepth:=9) only [↓AC,A7,AO,AA,AJ,↓reduceIte,Nat.reduceEqDiff,Nat.reduceLT,m0,m2,m3,m4,e1,e2.1,e2.2];refine Ag (U0 pL pD pN pE x_ y JN hl4 ?_) ?_
  ·simp (maxDischargeDepth:=9) only [A7,↓reduceIte,Nat.reduceEqDiff,m0,m1,m2,m3,m4,Ei]
  ·intro ex4 s4 hX4;rcases DF with q4_ | q4_
   ·unfold G7 at hX4;dsimp only at hX4 h;obtain⟨rfl,n4_0,n4_1⟩:=hX4;cases h;simp (maxDischargeDepth:=9) only [↓AC,A7,n4_0,n4_1,Ej,G8,Pz]
   ·unfold G7 at hX4;dsimp only at hX4 h;obtain⟨rfl,n4_0,n4_1,n4_2,n4_3,n4_4⟩:=hX4;cases h;simp (maxDischargeDepth:=9) only [↓AC,A7,AJ,↓reduceIte,Nat.reduceEqDiff,Nat.reduceLT,n4_0,n4_1,n4_2,n4_3,n4_4,Ej,FD]
 ·rw [if_neg e1]at h;cases h;simp (maxDischargeDepth:=9) only [↓AC,A7,AJ,↓reduceIte,Nat.reduceLT,m3,m4,e1,Ej,G8,JH]
theorem Vo(pL pD:Int)(pN pE:List (List Int))(x_ y:List Int){r:(List Int)×Bool}(h:NZ pL pD pN pE x_ y=some r):Y.call 97 [D.agg [D.int .i64 pL,D.int .i64 pD,D.sl 27 (AB (fun x=>D.sl 3 (AB (D.int .i64) x)) pN),D.sl 27 (AB (fun x=>D.sl 3 (AB (D.int .i64) x)) pE)],D.sl 3 (AB (D.int .i64) x_),D.sl 3 (AB (D.int .i64) y)] []=some (D.tup [D.own 3 (AB (D.int .i64) r.1),D.bool r.2],[]):=by
 refine c97 ?_ rfl;unfold k97;unfold NZ at h;obtain⟨Au,hl2,h⟩:=AU h;try dsimp only at h
 simp (maxDischargeDepth:=9) only [↓AC,A7,AO,AA,AJ,↓reduceIte,Nat.reduceEqDiff,Nat.reduceLT];refine Ag (U1 pL pD pN pE x_ y hl2 ?_) ?_
 ·simp (maxDischargeDepth:=9) only [A7,AA,↓reduceIte,Nat.reduceEqDiff,Nat.reduceLT,Ej]
 ·intro ex2 s2 hX2;rcases Au with q2_ | q2_
  ·unfold G8 at hX2;dsimp only at hX2 h;obtain⟨rfl,n2_0,n2_1⟩:=hX2;cases h;simp (maxDischargeDepth:=9) only [↓AC,A7,AO,AA,↓reduceIte,Nat.reduceEqDiff,n2_0,n2_1]
  ·unfold G8 at hX2;dsimp only at hX2 h
   obtain rfl:=hX2
   cases h;simp (maxDischargeDepth:=9) only [↓AC,A7,AA,AJ,↓reduceIte,Nat.reduceEqDiff,Nat.reduceLT]<;>(repeat' apply And.intro)<;>first | rfl | exact⟨_,rfl⟩ | exact⟨_,_,rfl⟩ | simp [AB,Aa]
theorem ZR(l d:Int)(ns es:List (List Int))(x y:List Int)(h1:Ai es)(h2:QF es=true)(hx:x.length<1099511627776)(hy:y.length<1099511627776):
  NZ l d ns es x y=some (match Xw es x y with | some q=>([x.getD q.1 default,y.getD q.2 default],true) | none=>([],false)):=by
 have inner: ∀i:Nat,i<x.length→Je l d ns es x y (i:Int) 0=some (match P9 es x y i with | some j=> .inl [x.getD i default,y.getD j default] | none=> .inr ()):=by
  intro i hi;unfold Je P9;refine eY (fun v=>G5 l d ns es x y (i:Int) v) (fun j=>(j:Int)) y.length (fun j=> !P8 es (x.getD i default) (y.getD j default)) (fun j=> .inl [x.getD i default,y.getD j default]) (.inr ()) ?_ ?_
  ·intro j hj;simp only [G5];rw [if_pos (CJ hj),Az (FH hj),Az h1,Az h2,JM j (by omega),Int.toNat_natCast,Int.toNat_natCast]
   cases P8 es (x.getD i default) (y.getD j default)<;>simp
  ·simp only [G5];rw [if_neg (Ak _)]
 have outer:Jf l d ns es x y 0=some (match Jd x.length (fun i=>(P9 es x y i).isSome)with | some i=> .inl [x.getD i default,y.getD ((P9 es x y i).getD 0) default] | none=> .inr ()):=by
  unfold Jf;refine eY (fun v=>G6 l d ns es x y v) (fun j=>(j:Int)) x.length (fun i=>(P9 es x y i).isSome) (fun i=> .inl [x.getD i default,y.getD ((P9 es x y i).getD 0) default]) (.inr ()) ?_ ?_
  ·intro i hi;simp only [G6];rw [if_pos (CJ hi),Az (FH hi),inner i hi,Option.bind_some,JM i (by omega)]
   cases P9 es x y i<;>simp
  ·simp only [G6];rw [if_neg (Ak _)]
 unfold NZ Xw;rw [outer,Option.bind_some]
 cases Jd x.length (fun i=>(P9 es x y i).isSome)<;>rfl
end Go.Proofs.YtjhjkfoabhplfaaGreat
