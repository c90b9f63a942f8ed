/- Bad pairs of configurations, as plain functions; the first configuration without one; laws. Conditions: none. -/
import Derived.Test.YtipfckompmhljaaGreatL6
import Derived.Test.YtipfckompmhljaaGreatEdg
import Derived.Test.YtipfckompmhljaaGreatFst
namespace Go.Proofs.YtipfckompmhljaaGreat
open Go Dv
set_option linter.unusedSimpArgs false
set_option linter.unusedVariables false
set_option maxRecDepth 100000
set_option maxHeartbeats 4000000
def HC(es:List (List Int))(x y:List Int)(i:Nat):Option Nat:=AR y.length fun j=> !L2 es (x.getD i default) (y.getD j default)
def N4(es:List (List Int))(x y:List Int):Option (Nat×Nat):=(AR x.length fun i=>(HC es x y i).isSome).map fun i=>(i,(HC es x y i).getD 0)
noncomputable def Dr(pL pD:Int)(pN pE:List (List Int))(x_ y:List Int)(B1 Hr:Int):Option ((Int)⊕(((List Int))⊕Unit)):=
 if Hr<(y.length:Int)then
  ck (0≤Hr∧Hr.toNat<y.length)<|
  ck (Ab pE)<|
  ck (Om pE=true)<|
  if(L2 pE (x_.getD B1.toNat default) (y.getD Hr.toNat default))=true then
   some (Sum.inl (IntKind.i64.wrap (Hr+1)))
  else
   some (Sum.inr (Sum.inl [(x_.getD B1.toNat default),(y.getD Hr.toNat default)]))
 else
  some (Sum.inr (Sum.inr ()))
noncomputable def H2(pL pD:Int)(pN pE:List (List Int))(x_ y:List Int)(B1 v:Int):Option (((List Int))⊕Unit):=DT (fun v=>Dr pL pD pN pE x_ y B1 v) v
noncomputable def Ds(pL pD:Int)(pN pE:List (List Int))(x_ y:List Int)(B1:Int):Option ((Int)⊕(((List Int))⊕Unit)):=
 if B1<(x_.length:Int)then
  ck (0≤B1∧B1.toNat<x_.length)<|
  (H2 pL pD pN pE x_ y B1 0).bind fun EV=>
  match EV with
  | .inl q4_=>
   some (Sum.inr (Sum.inl q4_))
  | .inr q4_=>
   some (Sum.inl (IntKind.i64.wrap (B1+1)))
 else
  some (Sum.inr (Sum.inr ()))
noncomputable def H3(pL pD:Int)(pN pE:List (List Int))(x_ y:List Int)(v:Int):Option (((List Int))⊕Unit):=DT (fun v=>Ds pL pD pN pE x_ y v) v
noncomputable def Ja(pL pD:Int)(pN pE:List (List Int))(x_ y:List Int):Option ((List Int)×Bool):=
 (H3 pL pD pN pE x_ y 0).bind fun Au=>
 match Au with
 | .inl q2_=>
  some (q2_,true)
 | .inr q2_=>
  some ([],false)
def U5:SC:=
 .seq
 (.ops [
 ⟨some 21, .binOp .lss 3 (.tmp 20) (.tmp 19) 3,0,none⟩])
 (.seq
 (.cond (.tmp 21)
 .skip
 (.exit 2))
 (.seq
 (.block 3
 (.seq
 (.ops [
 ⟨some 22, .indexAddr 26 (.tmp 18) (.tmp 20),0,none⟩,
 ⟨some 23, .load 3 (.tmp 22),3,none⟩,
 ⟨some 11, .assign (.tmp 23),3,none⟩])
 (.seq
 (.ops [
 ⟨some 24, .load 33 (.tmp 3),33,none⟩,
 ⟨some 25, .move (.tmp 9),3,none⟩,
 ⟨some 26, .move (.tmp 11),3,none⟩,
 ⟨some 27, .call ⟨(.value (.func 75)), #[(.tmp 24),(.tmp 25),(.tmp 26)], #[33,3,3]⟩,4,none⟩,
 ⟨some 28, .unOp .not 4 (.tmp 27),4,none⟩])
 (.cond (.tmp 28)
 (.seq
 (.ops [
 ⟨some 29, .move (.tmp 9),3,none⟩,
 ⟨some 30, .move (.tmp 11),3,none⟩,
 ⟨some 31, .buildSlice 26 2 #[(0,(.tmp 29)),(1,(.tmp 30))],26,none⟩,
 ⟨some 6, .assign (.tmp 31),26,none⟩,
 ⟨some 7, .assign (.const (.bool true)),4,none⟩])
 .ret)
 .skip))))
 (.ops [
 ⟨some 32, .binOp .add 3 (.tmp 20) (.const (.int .i64 1)) 3,3,none⟩,
 ⟨some 20, .move (.tmp 32),3,none⟩])))
def dS:SC:= .loop U5
def U6:SC:=
 .seq
 (.ops [
 ⟨some 15, .binOp .lss 3 (.tmp 14) (.tmp 13) 3,0,none⟩])
 (.seq
 (.cond (.tmp 15)
 .skip
 (.exit 0))
 (.seq
 (.block 1
 (.seq
 (.ops [
 ⟨some 16, .indexAddr 26 (.tmp 12) (.tmp 14),0,none⟩,
 ⟨some 17, .load 3 (.tmp 16),3,none⟩,
 ⟨some 9, .assign (.tmp 17),3,none⟩])
 (.seq
 (.ops [
 ⟨some 18, .move (.tmp 2),26,none⟩,
 ⟨some 19, .call ⟨(.builtin .len), #[(.tmp 18)], #[26]⟩,3,none⟩,
 ⟨some 20, .move (.const (.int .i64 0)),3,none⟩])
 (.block 2
 dS))))
 (.ops [
 ⟨some 33, .binOp .add 3 (.tmp 14) (.const (.int .i64 1)) 3,3,none⟩,
 ⟨some 14, .move (.tmp 33),3,none⟩])))
def dT:SC:= .loop U6
def k62:SC:=
 .seq
 (.ops [
 ⟨some 3, .box 33 (.tmp 0),0,none⟩,
 ⟨some 6, .assign (.const (.slice none 0 0)),26,none⟩,
 ⟨some 7, .assign (.const (.bool false)),4,none⟩])
 (.seq
 (.seq
 (.ops [
 ⟨some 12, .move (.tmp 1),26,none⟩,
 ⟨some 13, .call ⟨(.builtin .len), #[(.tmp 12)], #[26]⟩,3,none⟩,
 ⟨some 14, .move (.const (.int .i64 0)),3,none⟩])
 (.block 0
 dT))
 (.seq
 (.ops [
 ⟨some 6, .assign (.const (.slice none 0 0)),26,none⟩,
 ⟨some 7, .assign (.const (.bool false)),4,none⟩])
 .ret))
theorem me:Tryz.f62.body.map (Am lends)=some k62:=by kernel_rfl
theorem A3y:As Tryz.f62 3=true:=by kernel_rfl
theorem c62{a l:List D}{r:D×List D}(h:Av Y.env k62 (fin AJ l.length [ResultVar.tmp 6,ResultVar.tmp 7] r) (entry a l))(ha:a.length=3):Y.call 62 a l=some r:=
 AC (Y:=Y) rfl Tryz.func62 (ha▸A3y) me h
def Ci(pL pD:Int)(pN pE:List (List Int))(x_ y:List Int)(B1 Hr:Int)(s:St):Prop:=s.v 2=D.sl 3 (A9 (D.int .i64) y)∧s.v 3=D.box [D.int .i64 pL,D.int .i64 pD,D.sl 26 (A9 (fun x=>D.sl 3 (A9 (D.int .i64) x)) pN),D.sl 26 (A9 (fun x=>D.sl 3 (A9 (D.int .i64) x)) pE)]∧s.v 9=D.int .i64 (x_.getD B1.toNat default)∧s.v 12=D.sl 3 (A9 (D.int .i64) x_)∧s.v 13=D.int .i64 (x_.length:Int)∧s.v 14=D.int .i64 B1∧s.v 18=D.sl 3 (A9 (D.int .i64) y)∧s.v 19=D.int .i64 (y.length:Int)∧s.v 20=D.int .i64 Hr
def Dt(pL pD:Int)(pN pE:List (List Int))(x_ y:List Int)(B1:Int)(r:((List Int))⊕Unit)(ex:Ex)(s:St):Prop:=match r with
 | .inl q=>ex= .ret∧s.v 6=D.own 3 (A9 (D.int .i64) q)∧s.v 7=D.bool true
 | .inr q=>ex= .exit 2∧s.v 2=D.sl 3 (A9 (D.int .i64) y)∧s.v 3=D.box [D.int .i64 pL,D.int .i64 pD,D.sl 26 (A9 (fun x=>D.sl 3 (A9 (D.int .i64) x)) pN),D.sl 26 (A9 (fun x=>D.sl 3 (A9 (D.int .i64) x)) pE)]∧s.v 12=D.sl 3 (A9 (D.int .i64) x_)∧s.v 13=D.int .i64 (x_.length:Int)∧s.v 14=D.int .i64 B1
theorem On(pL pD:Int)(pN pE:List (List Int))(x_ y:List Int)(B1:Int){v:Int}{s:St}{r:((List Int))⊕Unit}(h:H2 pL pD pN pE x_ y B1 v=some r)(hM:Ci pL pD pN pE x_ y B1 v s):Av Y.env dS (Dt pL pD pN pE x_ y B1 r) s:=by
 unfold H2 at h
 refine Aa (c:=U5) (fun v=>Dr pL pD pN pE x_ y B1 v) (fun v s=>Ci pL pD pN pE x_ y B1 v s) (Dt pL pD pN pE x_ y B1) ?_ h hM
 clear h hM s v r
 intro Hr s o hM h
 unfold Dr at h
 unfold Ci at hM
 obtain⟨m0,m1,m2,m3,m4,m5,m6,m7,m8⟩:=hM
 unfold U5
 by_cases e3:Hr<(y.length:Int)
 ·rw [if_pos e3]at h
  obtain⟨e4,h⟩:=Ae h
  obtain⟨e5,h⟩:=Ae h
  obtain⟨e6,h⟩:=Ae h
  have c7:=N3 pL pD pN pE (x_.getD B1.toNat default) (y.getD Hr.toNat default) e5 e6
  by_cases e8:(L2 pE (x_.getD B1.toNat default) (y.getD Hr.toNat default))=true
  ·rw [if_pos e8]at h
   cases h
   simp (maxDischargeDepth:=9) only [↓A8,A1,AE,Ap,A6,AA,↓reduceIte,Nat.reduceEqDiff,Nat.reduceLT,Nat.reduceAdd,m0,m1,m2,m3,m4,m5,m6,m7,m8,e3,e4.1,e4.2,c7,e8,Ci,Ei]
  ·rw [if_neg e8]at h
   have e8f:(L2 pE (x_.getD B1.toNat default) (y.getD Hr.toNat default))=false:=Bool.eq_false_iff.mpr e8
   cases h
   simp (maxDischargeDepth:=9) only [↓A8,A1,AE,Ap,A6,AA,↓reduceIte,Nat.reduceEqDiff,Nat.reduceLT,Nat.reduceLeDiff,Nat.reduceAdd,m1,m2,m6,m7,m8,e3,e4.1,e4.2,c7,e8f,Ci,Dt,Ho]<;>(repeat' apply And.intro)<;>first | rfl | exact⟨_,rfl⟩ | exact⟨_,_,rfl⟩ | simp [A9,Aq]
 ·rw [if_neg e3]at h
  cases h
  simp (maxDischargeDepth:=9) only [↓A8,A1,AA,↓reduceIte,Nat.reduceEqDiff,Nat.reduceLT,m0,m1,m3,m4,m5,m7,m8,e3,Ci,Dt,Ge]
def Cj(pL pD:Int)(pN pE:List (List Int))(x_ y:List Int)(B1:Int)(s:St):Prop:=s.v 2=D.sl 3 (A9 (D.int .i64) y)∧s.v 3=D.box [D.int .i64 pL,D.int .i64 pD,D.sl 26 (A9 (fun x=>D.sl 3 (A9 (D.int .i64) x)) pN),D.sl 26 (A9 (fun x=>D.sl 3 (A9 (D.int .i64) x)) pE)]∧s.v 12=D.sl 3 (A9 (D.int .i64) x_)∧s.v 13=D.int .i64 (x_.length:Int)∧s.v 14=D.int .i64 B1
def Du(pL pD:Int)(pN pE:List (List Int))(x_ y:List Int)(r:((List Int))⊕Unit)(ex:Ex)(s:St):Prop:=match r with
 | .inl q=>ex= .ret∧s.v 6=D.own 3 (A9 (D.int .i64) q)∧s.v 7=D.bool true
 | .inr q=>ex= .exit 0
theorem Oo(pL pD:Int)(pN pE:List (List Int))(x_ y:List Int){v:Int}{s:St}{r:((List Int))⊕Unit}(h:H3 pL pD pN pE x_ y v=some r)(hM:Cj pL pD pN pE x_ y v s):Av Y.env dT (Du pL pD pN pE x_ y r) s:=by
 unfold H3 at h
 refine Aa (c:=U6) (fun v=>Ds pL pD pN pE x_ y v) (fun v s=>Cj pL pD pN pE x_ y v s) (Du pL pD pN pE x_ y) ?_ h hM
 clear h hM s v r
 intro B1 s o hM h
 unfold Ds at h
 unfold Cj at hM
 obtain⟨m0,m1,m2,m3,m4⟩:=hM
 unfold U6
 by_cases e1:B1<(x_.length:Int)
 ·rw [if_pos e1]at h
  obtain⟨e2,h⟩:=Ae h
  obtain⟨EV,hl4,h⟩:=AL h
  try dsimp only at h
  simp (maxDischargeDepth:=9) only [↓A8,A1,AE,A6,AA,↓reduceIte,Nat.reduceEqDiff,Nat.reduceLT,m0,m2,m3,m4,e1,e2.1,e2.2]
  refine AP (On pL pD pN pE x_ y B1 hl4 ?_) ?_
  ·simp (maxDischargeDepth:=9) only [A1,↓reduceIte,Nat.reduceEqDiff,m0,m1,m2,m3,m4,Ci]
  ·intro ex4 s4 hX4
   rcases EV with q4_ | q4_
   ·unfold Dt at hX4
    dsimp only at hX4 h
    obtain⟨rfl,n4_0,n4_1⟩:=hX4
    cases h
    simp (maxDischargeDepth:=9) only [↓A8,A1,n4_0,n4_1,Cj,Du,Ho]
   ·unfold Dt at hX4
    dsimp only at hX4 h
    obtain⟨rfl,n4_0,n4_1,n4_2,n4_3,n4_4⟩:=hX4
    cases h
    simp (maxDischargeDepth:=9) only [↓A8,A1,AA,↓reduceIte,Nat.reduceEqDiff,Nat.reduceLT,n4_0,n4_1,n4_2,n4_3,n4_4,Cj,Ei]
 ·rw [if_neg e1]at h
  cases h
  simp (maxDischargeDepth:=9) only [↓A8,A1,AA,↓reduceIte,Nat.reduceLT,m3,m4,e1,Cj,Du,Ge]
theorem Qa(pL pD:Int)(pN pE:List (List Int))(x_ y:List Int){r:(List Int)×Bool}(h:Ja pL pD pN pE x_ y=some r):Y.call 62 [D.agg [D.int .i64 pL,D.int .i64 pD,D.sl 26 (A9 (fun x=>D.sl 3 (A9 (D.int .i64) x)) pN),D.sl 26 (A9 (fun x=>D.sl 3 (A9 (D.int .i64) x)) pE)],D.sl 3 (A9 (D.int .i64) x_),D.sl 3 (A9 (D.int .i64) y)] []=some (D.tup [D.own 3 (A9 (D.int .i64) r.1),D.bool r.2],[]):=by
 refine c62 ?_ rfl
 unfold k62
 unfold Ja at h
 obtain⟨Au,hl2,h⟩:=AL h
 try dsimp only at h
 simp (maxDischargeDepth:=9) only [↓A8,A1,AE,A6,AA,↓reduceIte,Nat.reduceEqDiff,Nat.reduceLT]
 refine AP (Oo pL pD pN pE x_ y hl2 ?_) ?_
 ·simp (maxDischargeDepth:=9) only [A1,A6,↓reduceIte,Nat.reduceEqDiff,Nat.reduceLT,Cj]
 ·intro ex2 s2 hX2
  rcases Au with q2_ | q2_
  ·unfold Du at hX2
   dsimp only at hX2 h
   obtain⟨rfl,n2_0,n2_1⟩:=hX2
   cases h
   simp (maxDischargeDepth:=9) only [↓A8,A1,AE,A6,↓reduceIte,Nat.reduceEqDiff,n2_0,n2_1]
  ·unfold Du at hX2
   dsimp only at hX2 h
   obtain rfl:=hX2
   cases h
   simp (maxDischargeDepth:=9) only [↓A8,A1,A6,AA,↓reduceIte,Nat.reduceEqDiff,Nat.reduceLT]<;>(repeat' apply And.intro)<;>first | rfl | exact⟨_,rfl⟩ | exact⟨_,_,rfl⟩ | simp [A9,Aq]
noncomputable def Fq(pL pD:Int)(pN pE:List (List Int))(x_ y:List Int)(BA HH:Int):Option ((Int)⊕(Int⊕Unit)):=
 if HH<(y.length:Int)then
  ck (0≤HH∧HH.toNat<y.length)<|
  ck (Ab pE)<|
  if(L2 pE (x_.getD BA.toNat default) (y.getD HH.toNat default))=true then
   some (Sum.inl (IntKind.i64.wrap (HH+1)))
  else
   some (Sum.inr (Sum.inl HH))
 else
  some (Sum.inr (Sum.inr ()))
noncomputable def IW(pL pD:Int)(pN pE:List (List Int))(x_ y:List Int)(BA v:Int):Option (Int⊕Unit):=DT (fun v=>Fq pL pD pN pE x_ y BA v) v
noncomputable def Ft(pL pD:Int)(pN pE:List (List Int))(x_ y:List Int)(BA:Int):Option ((Int)⊕((Int×Int)⊕Unit)):=
 if BA<(x_.length:Int)then
  ck (0≤BA∧BA.toNat<x_.length)<|
  (IW pL pD pN pE x_ y BA 0).bind fun EV=>
  match EV with
  | .inl q4_=>
   some (Sum.inr (Sum.inl (BA,q4_)))
  | .inr q4_=>
   some (Sum.inl (IntKind.i64.wrap (BA+1)))
 else
  some (Sum.inr (Sum.inr ()))
noncomputable def IX(pL pD:Int)(pN pE:List (List Int))(x_ y:List Int)(v:Int):Option ((Int×Int)⊕Unit):=DT (fun v=>Ft pL pD pN pE x_ y v) v
noncomputable def N5(pL pD:Int)(pN pE:List (List Int))(x_ y:List Int):Option (Int×Int×Bool):=
 (IX pL pD pN pE x_ y 0).bind fun Au=>
 match Au with
 | .inl q2_=>
  some (q2_.1,q2_.2,true)
 | .inr q2_=>
  some (0,0,false)
def U7:SC:=
 .seq
 (.ops [
 ⟨some 23, .binOp .lss 3 (.tmp 22) (.tmp 21) 3,0,none⟩])
 (.seq
 (.cond (.tmp 23)
 .skip
 (.exit 2))
 (.seq
 (.block 3
 (.seq
 (.ops [
 ⟨some 24, .move (.tmp 22),3,none⟩,
 ⟨some 25, .indexAddr 26 (.tmp 20) (.tmp 22),0,none⟩,
 ⟨some 26, .load 3 (.tmp 25),3,none⟩,
 ⟨some 11, .assign (.tmp 24),3,none⟩,
 ⟨some 12, .assign (.tmp 26),3,none⟩])
 (.seq
 (.ops [
 ⟨some 27, .load 33 (.tmp 3),33,none⟩,
 ⟨some 28, .move (.tmp 10),3,none⟩,
 ⟨some 29, .move (.tmp 12),3,none⟩,
 ⟨some 30, .call ⟨(.value (.func 82)), #[(.tmp 27),(.tmp 28),(.tmp 29)], #[33,3,3]⟩,4,none⟩,
 ⟨some 31, .unOp .not 4 (.tmp 30),4,none⟩])
 (.cond (.tmp 31)
 (.seq
 (.ops [
 ⟨some 32, .move (.tmp 9),3,none⟩,
 ⟨some 33, .move (.tmp 11),3,none⟩,
 ⟨some 6, .assign (.tmp 32),3,none⟩,
 ⟨some 7, .assign (.tmp 33),3,none⟩,
 ⟨some 8, .assign (.const (.bool true)),4,none⟩])
 .ret)
 .skip))))
 (.ops [
 ⟨some 34, .binOp .add 3 (.tmp 22) (.const (.int .i64 1)) 3,3,none⟩,
 ⟨some 22, .move (.tmp 34),3,none⟩])))
def dU:SC:= .loop U7
def U8:SC:=
 .seq
 (.ops [
 ⟨some 16, .binOp .lss 3 (.tmp 15) (.tmp 14) 3,0,none⟩])
 (.seq
 (.cond (.tmp 16)
 .skip
 (.exit 0))
 (.seq
 (.block 1
 (.seq
 (.ops [
 ⟨some 17, .move (.tmp 15),3,none⟩,
 ⟨some 18, .indexAddr 26 (.tmp 13) (.tmp 15),0,none⟩,
 ⟨some 19, .load 3 (.tmp 18),3,none⟩,
 ⟨some 9, .assign (.tmp 17),3,none⟩,
 ⟨some 10, .assign (.tmp 19),3,none⟩])
 (.seq
 (.ops [
 ⟨some 20, .move (.tmp 2),26,none⟩,
 ⟨some 21, .call ⟨(.builtin .len), #[(.tmp 20)], #[26]⟩,3,none⟩,
 ⟨some 22, .move (.const (.int .i64 0)),3,none⟩])
 (.block 2
 dU))))
 (.ops [
 ⟨some 35, .binOp .add 3 (.tmp 15) (.const (.int .i64 1)) 3,3,none⟩,
 ⟨some 15, .move (.tmp 35),3,none⟩])))
def dV:SC:= .loop U8
def k69:SC:=
 .seq
 (.ops [
 ⟨some 3, .box 33 (.tmp 0),0,none⟩,
 ⟨some 6, .assign (.const (.int .i64 0)),3,none⟩,
 ⟨some 7, .assign (.const (.int .i64 0)),3,none⟩,
 ⟨some 8, .assign (.const (.bool false)),4,none⟩])
 (.seq
 (.seq
 (.ops [
 ⟨some 13, .move (.tmp 1),26,none⟩,
 ⟨some 14, .call ⟨(.builtin .len), #[(.tmp 13)], #[26]⟩,3,none⟩,
 ⟨some 15, .move (.const (.int .i64 0)),3,none⟩])
 (.block 0
 dV))
 (.seq
 (.ops [
 ⟨some 6, .assign (.const (.int .i64 0)),3,none⟩,
 ⟨some 7, .assign (.const (.int .i64 0)),3,none⟩,
 ⟨some 8, .assign (.const (.bool false)),4,none⟩])
 .ret))
theorem mf:Tryz.f69.body.map (Am lends)=some k69:=by kernel_rfl
theorem A40:As Tryz.f69 3=true:=by kernel_rfl
theorem c69{a l:List D}{r:D×List D}(h:Av Y.env k69 (fin AJ l.length [ResultVar.tmp 6,ResultVar.tmp 7,ResultVar.tmp 8] r) (entry a l))(ha:a.length=3):Y.call 69 a l=some r:=
 AC (Y:=Y) rfl Tryz.func69 (ha▸A40) mf h
def EL(pL pD:Int)(pN pE:List (List Int))(x_ y:List Int)(BA HH:Int)(s:St):Prop:=s.v 2=D.sl 3 (A9 (D.int .i64) y)∧s.v 3=D.box [D.int .i64 pL,D.int .i64 pD,D.sl 26 (A9 (fun x=>D.sl 3 (A9 (D.int .i64) x)) pN),D.sl 26 (A9 (fun x=>D.sl 3 (A9 (D.int .i64) x)) pE)]∧s.v 9=D.int .i64 BA∧s.v 10=D.int .i64 (x_.getD BA.toNat default)∧s.v 13=D.sl 3 (A9 (D.int .i64) x_)∧s.v 14=D.int .i64 (x_.length:Int)∧s.v 15=D.int .i64 BA∧s.v 20=D.sl 3 (A9 (D.int .i64) y)∧s.v 21=D.int .i64 (y.length:Int)∧s.v 22=D.int .i64 HH
def Fv(pL pD:Int)(pN pE:List (List Int))(x_ y:List Int)(BA:Int)(r:Int⊕Unit)(ex:Ex)(s:St):Prop:=match r with
 | .inl q=>ex= .ret∧s.v 6=D.int .i64 BA∧s.v 7=D.int .i64 q∧s.v 8=D.bool true
 | .inr q=>ex= .exit 2∧s.v 2=D.sl 3 (A9 (D.int .i64) y)∧s.v 3=D.box [D.int .i64 pL,D.int .i64 pD,D.sl 26 (A9 (fun x=>D.sl 3 (A9 (D.int .i64) x)) pN),D.sl 26 (A9 (fun x=>D.sl 3 (A9 (D.int .i64) x)) pE)]∧s.v 13=D.sl 3 (A9 (D.int .i64) x_)∧s.v 14=D.int .i64 (x_.length:Int)∧s.v 15=D.int .i64 BA
theorem Rk(pL pD:Int)(pN pE:List (List Int))(x_ y:List Int)(BA:Int){v:Int}{s:St}{r:Int⊕Unit}(h:IW pL pD pN pE x_ y BA v=some r)(hM:EL pL pD pN pE x_ y BA v s):Av Y.env dU (Fv pL pD pN pE x_ y BA r) s:=by
 unfold IW at h
 refine Aa (c:=U7) (fun v=>Fq pL pD pN pE x_ y BA v) (fun v s=>EL pL pD pN pE x_ y BA v s) (Fv pL pD pN pE x_ y BA) ?_ h hM
 clear h hM s v r
 intro HH s o hM h
 unfold Fq at h
 unfold EL at hM
 obtain⟨m0,m1,m2,m3,m4,m5,m6,m7,m8,m9⟩:=hM
 unfold U7
 by_cases e3:HH<(y.length:Int)
 ·rw [if_pos e3]at h
  obtain⟨e4,h⟩:=Ae h
  obtain⟨e5,h⟩:=Ae h
  have c6:=Wr pL pD pN pE (x_.getD BA.toNat default) (y.getD HH.toNat default) e5
  by_cases e7:(L2 pE (x_.getD BA.toNat default) (y.getD HH.toNat default))=true
  ·rw [if_pos e7]at h
   cases h
   simp (maxDischargeDepth:=9) only [↓A8,A1,AE,Ap,A6,AA,↓reduceIte,Nat.reduceEqDiff,Nat.reduceLT,Nat.reduceAdd,m0,m1,m2,m3,m4,m5,m6,m7,m8,m9,e3,e4.1,e4.2,c6,e7,EL,Ei]
  ·rw [if_neg e7]at h
   have e7f:(L2 pE (x_.getD BA.toNat default) (y.getD HH.toNat default))=false:=Bool.eq_false_iff.mpr e7
   cases h
   simp (maxDischargeDepth:=9) only [↓A8,A1,AE,Ap,A6,AA,↓reduceIte,Nat.reduceEqDiff,Nat.reduceLT,Nat.reduceAdd,m1,m2,m3,m7,m8,m9,e3,e4.1,e4.2,c6,e7f,EL,Fv,Ho]
 ·rw [if_neg e3]at h
  cases h
  simp (maxDischargeDepth:=9) only [↓A8,A1,AA,↓reduceIte,Nat.reduceEqDiff,Nat.reduceLT,m0,m1,m4,m5,m6,m8,m9,e3,EL,Fv,Ge]
def EM(pL pD:Int)(pN pE:List (List Int))(x_ y:List Int)(BA:Int)(s:St):Prop:=s.v 2=D.sl 3 (A9 (D.int .i64) y)∧s.v 3=D.box [D.int .i64 pL,D.int .i64 pD,D.sl 26 (A9 (fun x=>D.sl 3 (A9 (D.int .i64) x)) pN),D.sl 26 (A9 (fun x=>D.sl 3 (A9 (D.int .i64) x)) pE)]∧s.v 13=D.sl 3 (A9 (D.int .i64) x_)∧s.v 14=D.int .i64 (x_.length:Int)∧s.v 15=D.int .i64 BA
def Fw(pL pD:Int)(pN pE:List (List Int))(x_ y:List Int)(r:(Int×Int)⊕Unit)(ex:Ex)(s:St):Prop:=match r with
 | .inl q=>ex= .ret∧s.v 6=D.int .i64 q.1∧s.v 7=D.int .i64 q.2∧s.v 8=D.bool true
 | .inr q=>ex= .exit 0
theorem Rl(pL pD:Int)(pN pE:List (List Int))(x_ y:List Int){v:Int}{s:St}{r:(Int×Int)⊕Unit}(h:IX pL pD pN pE x_ y v=some r)(hM:EM pL pD pN pE x_ y v s):Av Y.env dV (Fw pL pD pN pE x_ y r) s:=by
 unfold IX at h
 refine Aa (c:=U8) (fun v=>Ft pL pD pN pE x_ y v) (fun v s=>EM pL pD pN pE x_ y v s) (Fw pL pD pN pE x_ y) ?_ h hM
 clear h hM s v r
 intro BA s o hM h
 unfold Ft at h
 unfold EM at hM
 obtain⟨m0,m1,m2,m3,m4⟩:=hM
 unfold U8
 by_cases e1:BA<(x_.length:Int)
 ·rw [if_pos e1]at h
  obtain⟨e2,h⟩:=Ae h
  obtain⟨EV,hl4,h⟩:=AL h
  try dsimp only at h
  simp (maxDischargeDepth:=9) only [↓A8,A1,AE,A6,AA,↓reduceIte,Nat.reduceEqDiff,Nat.reduceLT,m0,m2,m3,m4,e1,e2.1,e2.2]
  refine AP (Rk pL pD pN pE x_ y BA hl4 ?_) ?_
  ·simp (maxDischargeDepth:=9) only [A1,↓reduceIte,Nat.reduceEqDiff,m0,m1,m2,m3,m4,EL]
  ·intro ex4 s4 hX4
   rcases EV with q4_ | q4_
   ·unfold Fv at hX4
    dsimp only at hX4 h
    obtain⟨rfl,n4_0,n4_1,n4_2⟩:=hX4
    cases h
    simp (maxDischargeDepth:=9) only [↓A8,A1,n4_0,n4_1,n4_2,EM,Fw,Ho]
   ·unfold Fv at hX4
    dsimp only at hX4 h
    obtain⟨rfl,n4_0,n4_1,n4_2,n4_3,n4_4⟩:=hX4
    cases h
    simp (maxDischargeDepth:=9) only [↓A8,A1,AA,↓reduceIte,Nat.reduceEqDiff,Nat.reduceLT,n4_0,n4_1,n4_2,n4_3,n4_4,EM,Ei]
 ·rw [if_neg e1]at h
  cases h
  simp (maxDischargeDepth:=9) only [↓A8,A1,AA,↓reduceIte,Nat.reduceLT,m3,m4,e1,EM,Fw,Ge]
theorem U9(pL pD:Int)(pN pE:List (List Int))(x_ y:List Int){r:Int×Int×Bool}(h:N5 pL pD pN pE x_ y=some r):Y.call 69 [D.agg [D.int .i64 pL,D.int .i64 pD,D.sl 26 (A9 (fun x=>D.sl 3 (A9 (D.int .i64) x)) pN),D.sl 26 (A9 (fun x=>D.sl 3 (A9 (D.int .i64) x)) pE)],D.sl 3 (A9 (D.int .i64) x_),D.sl 3 (A9 (D.int .i64) y)] []=some (D.tup [D.int .i64 r.1,D.int .i64 r.2.1,D.bool r.2.2],[]):=by
 refine c69 ?_ rfl
 unfold k69
 unfold N5 at h
 obtain⟨Au,hl2,h⟩:=AL h
 try dsimp only at h
 simp (maxDischargeDepth:=9) only [↓A8,A1,AE,A6,AA,↓reduceIte,Nat.reduceEqDiff,Nat.reduceLT]
 refine AP (Rl pL pD pN pE x_ y hl2 ?_) ?_
 ·simp (maxDischargeDepth:=9) only [A1,A6,↓reduceIte,Nat.reduceEqDiff,Nat.reduceLT,EM]
 ·intro ex2 s2 hX2
  rcases Au with q2_ | q2_
  ·unfold Fw at hX2
   dsimp only at hX2 h
   obtain⟨rfl,n2_0,n2_1,n2_2⟩:=hX2
   cases h
   simp (maxDischargeDepth:=9) only [↓A8,A1,A6,↓reduceIte,n2_0,n2_1,n2_2]
  ·unfold Fw at hX2
   dsimp only at hX2 h
   obtain rfl:=hX2
   cases h
   simp (maxDischargeDepth:=9) only [↓A8,A1,A6,AA,↓reduceIte,Nat.reduceEqDiff,Nat.reduceLT]
theorem UA(l d:Int)(ns es:List (List Int))(x y:List Int)(h1:Ab es)(h2:Om es=true)(hx:x.length<1099511627776)(hy:y.length<1099511627776):
  Ja l d ns es x y=some (match N4 es x y with | some q=>([x.getD q.1 default,y.getD q.2 default],true) | none=>([],false)):=by
 have inner: ∀i:Nat,i<x.length→H2 l d ns es x y (i:Int) 0=some (match HC es x y i with | some j=> .inl [x.getD i default,y.getD j default] | none=> .inr ()):=by
  intro i hi
  unfold H2 HC
  refine Hf (fun v=>Dr l d ns es x y (i:Int) v) (fun j=>(j:Int)) y.length (fun j=> !L2 es (x.getD i default) (y.getD j default)) (fun j=> .inl [x.getD i default,y.getD j default]) (.inr ()) ?_ ?_
  ·intro j hj
   simp only [Dr]
   rw [if_pos (Ak hj),Ac (BS hj),Ac h1,Ac h2,Gm j (by omega),Int.toNat_natCast,Int.toNat_natCast]
   cases L2 es (x.getD i default) (y.getD j default)<;>simp
  ·simp only [Dr]
   rw [if_neg (AH _)]
 have outer:H3 l d ns es x y 0=some (match AR x.length (fun i=>(HC es x y i).isSome)with | some i=> .inl [x.getD i default,y.getD ((HC es x y i).getD 0) default] | none=> .inr ()):=by
  unfold H3
  refine Hf (fun v=>Ds l d ns es x y v) (fun j=>(j:Int)) x.length (fun i=>(HC es x y i).isSome) (fun i=> .inl [x.getD i default,y.getD ((HC es x y i).getD 0) default]) (.inr ()) ?_ ?_
  ·intro i hi
   simp only [Ds]
   rw [if_pos (Ak hi),Ac (BS hi),inner i hi,Option.bind_some,Gm i (by omega)]
   cases HC es x y i<;>simp
  ·simp only [Ds]
   rw [if_neg (AH _)]
 unfold Ja N4
 rw [outer,Option.bind_some]
 cases AR x.length (fun i=>(HC es x y i).isSome)<;>rfl
theorem Yc(l d:Int)(ns es:List (List Int))(x y:List Int)(h1:Ab es)(hx:x.length<1099511627776)(hy:y.length<1099511627776):
  N5 l d ns es x y=some (match N4 es x y with | some q=>((q.1:Int),(q.2:Int),true) | none=>(0,0,false)):=by
 have inner: ∀i:Nat,i<x.length→IW l d ns es x y (i:Int) 0=some (match HC es x y i with | some j=> .inl (j:Int) | none=> .inr ()):=by
  intro i hi
  unfold IW HC
  refine Hf (fun v=>Fq l d ns es x y (i:Int) v) (fun j=>(j:Int)) y.length (fun j=> !L2 es (x.getD i default) (y.getD j default)) (fun j=> .inl (j:Int)) (.inr ()) ?_ ?_
  ·intro j hj
   simp only [Fq]
   rw [if_pos (Ak hj),Ac (BS hj),Ac h1,Gm j (by omega),Int.toNat_natCast,Int.toNat_natCast]
   cases L2 es (x.getD i default) (y.getD j default)<;>simp
  ·simp only [Fq]
   rw [if_neg (AH _)]
 have outer:IX l d ns es x y 0=some (match AR x.length (fun i=>(HC es x y i).isSome)with | some i=> .inl ((i:Int),(((HC es x y i).getD 0:Nat):Int)) | none=> .inr ()):=by
  unfold IX
  refine Hf (fun v=>Ft l d ns es x y v) (fun j=>(j:Int)) x.length (fun i=>(HC es x y i).isSome) (fun i=> .inl ((i:Int),(((HC es x y i).getD 0:Nat):Int))) (.inr ()) ?_ ?_
  ·intro i hi
   simp only [Ft]
   rw [if_pos (Ak hi),Ac (BS hi),inner i hi,Option.bind_some,Gm i (by omega)]
   cases HC es x y i<;>simp
  ·simp only [Ft]
   rw [if_neg (AH _)]
 unfold N5 N4
 rw [outer,Option.bind_some]
 cases AR x.length (fun i=>(HC es x y i).isSome)<;>rfl
end Go.Proofs.YtipfckompmhljaaGreat
